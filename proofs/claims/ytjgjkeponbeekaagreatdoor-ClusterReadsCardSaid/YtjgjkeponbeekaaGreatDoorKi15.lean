import Derived.Test.YtjgjkeponbeekaaGreatDoorKi14
set_option maxHeartbeats 4000000
set_option linter.all false
set_option maxRecDepth 100000
open Go.IntKind renaming wrap→XG
namespace Go.Proofs.YtjgjkeponbeekaaGreatDoor
open Go.au
def KW:eh cz Int where
 k:=13
 ci:=aJ
 ib:=8
 inner:=(·.ev.aP)
 hd:=λn P a b=>aC n.ev P a b++[.bool n.void,XH n.Eb.1,XH n.Eb.2]
 ok:=λn=>n.ev.Ok
 hl:=λ_ _ _ _=>rfl
 h1:=λn P a b d c=>by
  simp only[aC,List.cons_append,List.nil_append,Q2,List.not_mem_nil,or_false]at c;rcases c with rfl|rfl|rfl|rfl|rfl|rfl|rfl|rfl|rfl|rfl|rfl|rfl|rfl<;>rfl
 o:=3
 ho:=dC
 e_:=λ_ _ _ _ _ _ _=>rfl
abbrev vB:jt cz:=KW.Mo
abbrev gK(n:cz)(P:ZH)(a b:Nat):List Value:=aC n.ev P a b++[.bool n.void,XH n.Eb.1,XH n.Eb.2]
def QE:jF XP 50 133 13 120:=⟨kR,kR,dC⟩
def lq(n:cz)(P:ZH)(a b:Nat):gM XP 133 (gK n P a b)=true:=kR
def Oc(n:cz)(P:ZH)(a b:Nat):RP (dv XP 133) (.agg (gK n P a b).toArray)=true:=kR
def QH:IQ XP 305 3:=⟨kR,kR,⟨ "typ", "no",kR,dC,dC⟩,kR,kR,kR⟩
def Sw:vw XP 350 305 3:=⟨QH,kR,⟨ "agg", "field",kR,dC,dC⟩,kR,kR,kR⟩
def Uk:im XP 305 oF:=QH.key
def WB:im XP 350 BK:=Sw.key
def WC:lH XP 263 305 49 (.agg #[XH 0,.slice none 0 0]):=⟨kR,kR⟩
def WL:lH XP 264 350 59 (.slice none 0 0):=⟨kR,kR⟩
inductive IE where
 |self|st|dn|NS|QI|Vr
 |done (k:Int×Int×Int)
structure DY where
 ta:ZH
 tn:Nat
 tc:Nat
 pa:ZH
 pn:Nat
 pc:Nat
 ea:ZH
 en:Nat
 ec:Nat
 r1:Nat
 r2:Nat
 l1:List ((Int×Int)×Value)
 l2:List ((Int×Int×Int)×Value)
 cls:Nat->IE
abbrev DY.P(P:DY)(a:XN)(b:IE):XN:=λn=>a n/\P.cls n=b
def VA(b:World)(D:XN)(c:Value)(n:mf):Prop:=∃P a d,c= .agg #[XH n.version,.slice P a d]/\Row et 32 b D P a n.cells
def VB(b:World)(D:XN)(c:Value)(d:List aj):Prop:=∃n P a,c= .slice n P a/\aO jo 63 D b n P a d
structure xO (w:World) (p:Nat) (F:XN) (V:aU) (q:DY):Prop where
 at':w.heap[p]? =some (.cells #[.slice q.ta q.tn q.tc,.slice q.pa q.pn q.pc,.slice q.ea q.en q.ec,.map (some q.r1),.map (some q.r2)] 266 (0,0))
 QI:bb w (q.P F .QI) V.decl q.ta q.tn q.pa q.pn
 NS:aO vB 133 (q.P F .NS) w q.ea q.en q.ec V.entries
 st:bB w q.r1 oF q.l1
 Vs:eW (VA w (q.P F .Vr)) q.l1 V.dR
 dn:bB w q.r2 BK q.l2
 VC:ot (λk=>VB w (q.P F (.done k))) q.l2 V.done
 aB:∀b,F b->b<w.heap.size
 lp:F p/\q.cls p= .self
 l1:F q.r1/\q.cls q.r1= .st
 l2:F q.r2/\q.cls q.r2= .dn
def b_(P:World)(a:Nat)(b:XN)(n:aU):Prop:=n.OK/\∃c,xO P a b n c
variable{e r:Int}{J:List aj}{d u:ZH}{v:Value}{R:aM}
section
variable {w w':World} {p:Nat} {F T D:XN} {V:aU} {q:DY}
def VA.af{n:mf}(a:VA w D v n)(b:ak T w w')(c:∀P,D P->¬T P):VA w' D v n:=by
 obtain⟨d,e,f,g,h⟩:=a;exact⟨d,e,f,g,h.af b c⟩
def VB.af(P:VB w D v J)(a:ak T w w')(b:∀n,D n->¬T n):VB w' D v J:=by
 obtain⟨c,d,e,f,g⟩:=P;exact⟨c,d,e,f,g.af a b⟩
def xO.af(n:xO w p F V q)(b:ak T w w')(c:∀P,F P->¬T P):xO w' p F V q:=
 ⟨b.get n.at' (c _ n.lp.1),n.QI.af b λP a=>c P a.1,n.NS.af b λP a=>c P a.1,n.st.af b (c _ n.l1.1),n.Vs.mono λe f d=>d.af b λP a=>c P a.1,
  n.dn.af b (c _ n.l2.1),n.VC.mono λg e f d=>d.af b λP a=>c P a.1,λP a=>Qk (n.aB P a) b.size,n.lp,n.l1,n.l2⟩
def xO.ah(n:xO w p F V q)(P:ai w w'):xO w' p F V q:=n.af P λ_ _ n=>n
def b_.af(n:b_ w p F V)(a:ak T w w')(b:∀P,F P->¬T P):b_ w' p F V:=⟨n.1,n.2.imp λq c=>c.af a b⟩
def b_.ah(n:b_ w p F V)(P:ai w w'):b_ w' p F V:=n.af P λ_ _ n=>n
def b_.aB(P:b_ w p F V):∀n,F n->n<w.heap.size:=P.2.elim λq a=>a.aB
def b_.self(n:b_ w p F V):F p:=n.2.elim λq P=>P.lp.1
def Gs{tn t l v:Nat}(x:cN R=0)(y:bb w D R d tn u l)(z:∀n,D n->n<w.heap.size):
  ZG 105 #[.agg #[.slice d tn t,.slice u l v]] w (Ok λA w'=>∃p F,A= XL p/\b_ w' p F (aU.new R)/\(∀n,F n->w.heap.size<=n)/\ai w w'):=by
 refine JK (PA.mk λJ m K o=>⟨_,_,_,_,_,_,ae o rfl,ae o rfl,PC.ok (Cq (y.ah m) λn P=>by have:=z n P;omega) ?_⟩);rintro _ c ⟨f,Pk,g,h,i,j,G,rfl,B,C,q⟩;refine⟨_,_,_,_,_,_,rfl,PA.mk λa r L E=>PA.mk λb k M H=>PA.mk λs e N I=>Ok.mk ⟨b.heap.size,λn=>w.heap.size<=n/\n<s.heap.size,rfl,⟨aU.sE x,
  ⟨⟨f,Pk,g,h,i,j,none,0,0,c.heap.size,a.heap.size,[],[],λn=>if n=b.heap.size then .self else if n=c.heap.size then .st else if n=a.heap.size then .dn else .QI⟩,?_⟩⟩,λn P=>P.1,((m.then q).then r).then (k.then e)⟩⟩
 have O:=q.size;refine⟨I,?_,?_,bB.new (e.get (k.get E id) id),trivial,bB.new (e.get H id),trivial,λn P=>P.2,⟨⟨by show w.heap.size<=b.heap.size;omega,by show b.heap.size<_;omega⟩,Zx rfl⟩,⟨⟨by show w.heap.size<=c.heap.size;omega,by show c.heap.size<_;omega⟩,?_⟩,⟨⟨by show w.heap.size<=a.heap.size;omega,by show a.heap.size<_;omega⟩,?_⟩⟩
 ·refine(((B.ah r).ah k).ah e).mono λn P=>?_
  have:=C n P;refine⟨⟨oM,oM⟩,?_⟩;show(if n=b.heap.size then _ else _)=_;rw[Zq oM,Zq oM,Zq oM]
 ·exact(aO.nil s).mono (λn P=>P.elim) λn P=>P.1.2
 ·show(if c.heap.size=b.heap.size then _ else _)=_
  rw[Zq oM,Zx rfl]
 ·show(if a.heap.size=b.heap.size then IE.self else if a.heap.size=c.heap.size then IE.st else if a.heap.size=a.heap.size then IE.dn else IE.QI)=IE.dn
  rw[Zq oM,Zq oM,Zx rfl]
abbrev Gf:mf:=⟨0,[]⟩
def nu(i:b_ w p F V):
  ZG 127 #[XL p,XH e,XH r] w (Ok λo w'=>∃a b c G,o= .tuple #[.agg #[XH ((V.state e r).getD Gf).version,.slice a b c],.bool (V.state e r).isSome]/\aO et 78 G w' a b c ((V.state e r).getD Gf).cells/\(∀n,G n->w.heap.size<=n)/\ai w w'):=by
 obtain⟨T,q,i⟩:=i;refine tZ (PA.mk λs t U z=>?_);have h:=i.ah t;refine⟨p,0,rfl,_,ae h.at' rfl,iJ (enc:=oF) (k:=(e,r)) WC Uk h.st ?_⟩;obtain⟨g,n,a,b,c,d,f,A,B,j⟩:∃(g:mf) (n:Bool) (a:ZH) (b c:Nat),(aE q.l1 (e,r)).getD (.agg #[XH 0,.slice none 0 0])= .agg #[XH g.version,.slice a b c]/\(aE q.l1 (e,r)).isSome=n/\(V.state e r).getD Gf=g/\(V.state e r).isSome=n/\Row et 32 s (q.P F .Vr) a b g.cells:=by
  unfold aU.state;rcases h.Vs.aE (e,r)with⟨d,f⟩|⟨o,g,d,f,a,b,c,rfl,j⟩
  ·exact⟨Gf,false,none,0,0,by rw[d];rfl,by rw[d];rfl,by rw[f];rfl,by rw[f];rfl,Row.nil _ _⟩
  ·exact⟨g,true,a,b,c,by rw[d];rfl,by rw[d];rfl,by rw[f];rfl,by rw[f];rfl,j⟩
 rw[d,f,A,B];refine⟨_,_,_,_,_,rfl,PA.mk λW C X E=>PS.mk E sM λY H Z I=>PS.mk I sM λJ K s7 u=>?_⟩;have k:ai s J:=(C.new H λn P=>.inr oM).new K λn P=>.inr oM;refine⟨_,_,_,_,ae u rfl,ae u rfl,PC.ok (Kc (j.ah k) λn P=>by have:=h.aB n P.1;omega) ?_⟩;rintro _ w8 ⟨L,M,N,G,rfl,O,l,m⟩;have Q:=m.get (k.get z id) id;have z8:=m.size;refine⟨_,_,_,_,rfl,PS.mk Q sM λw9 v s9 R=>PS.mk R sM λa0 x a1 y=>⟨_,_,_,_,ae y rfl,ae y rfl,Ok.mk ⟨L,M,N,G,rfl,?_,?_,?_⟩⟩⟩
 ·exact(O.af v λn P S=>by have:=l n P;omega).af x λn P S=>by have:=l n P;omega
 ·intro n P;have:=l n P;omega
 ·exact(((t.then k).then m).new v λn P=>.inr oM).new x λn P=>.inr oM
end
variable{c5:List bd}{a c i p:Nat}{g:TypeId}{c3:bd}{d6:iV}
section
variable {w w':World} {D D' S:XN} {d:aM} {ta pa:ZH} {tn tc pn pc:Nat}
def xf{P a op arg:Int}(S:eD w)(j:bb w D d ta tn pa pn)(T:∀f,D f->f<w.heap.size):
  ZG 201 #[.agg #[.slice ta tn tc,.slice pa pn pc],XH P,XH a,XH op,XH arg] w (Ok λe w'=>e= XH (kM d P a op arg)/\ai w w'):=by
 refine Cg (PA.mk λw1 B s1 C=>⟨_,_,_,_,_,_,ae C rfl,ae C rfl,PC.ok (oy (j.ah B) λf s=>by have:=T f s;omega) ?_⟩);rintro e w2 ⟨U,p⟩;have q:=B.then U
 cases k:d.Cy P a with
 |none=>
  rw[k]at p;refine bO (HY Vh none 0 0) ⟨_,p,PA.mk λV t W u=>az (fO _ _ _ _) u rfl λX v Y E=>an.tt rfl (Ok.mk ⟨?_,(q.then t).new v λf s=>.inr (by have:=q.size;omega)⟩)⟩;unfold kM;rw[k]
 |some g=>
  rw[k]at p;obtain⟨r,h,F,a5,rfl,Z,hF⟩:=p;have x:kM d P a op arg=if !within op 1 5||qt op !=g.kind then 2 else if op==1&&arg==0||op==5&& !within arg 0 (g.bl.length-1)then 1 else 0:=by unfold kM;rw[k]
  have hz:=q.size;refine bO (HY g r h F) ⟨_,rfl,PA.mk λV t W u=>az (fO g r h F) u rfl λX v Y E=>an.ff rfl λy H=>PC.ok bU ?_⟩;rintro _ _ ⟨rfl,rfl⟩;have I:=(bF.af (S:=λ_=>False) H).get E id;have J:ai w y:=((q.then t).new v λf s=>.inr oM).then H.af;have n:∀z:Int,kM d P a op arg=z->Ok (λe w'=>e= XH (kM d P a op arg)/\ai w w') (.returned (XH z)) y:=λz j=>Ok.mk ⟨by rw[j],J⟩;refine⟨_,rfl,an.not (an.mk (λc=>?_) (λc=>n 2 (by rw[x,c];rfl)))⟩;have a6:=bq.1 c;refine⟨1,0,rfl,oM,oM,qt op,?_,_,ae I rfl,an.dF (λa0=>n 2 ?_) (λhe=>?_)⟩
  ·have:=(S.ah J).kinds op.toNat oM
   rw[Xz,this,Int.toNat_of_nonneg oM]
  ·rw[x,c,Zx (by simpa using a0)]
  have l:kM d P a op arg=if op==1&&arg==0||op==5&& !within arg 0 (g.bl.length-1)then 1 else 0:=by rw[x,c,he];simp
  have hn:h=g.bl.length:=Z.len dC;have a7:h<=140737488355328:=by
   obtain⟨a1,Pk,K,-⟩:∃(r:ZH) (h:Nat),Row ix 32 w D r h g.bl/\True:=by
    obtain⟨i,m,a8,a3,a9,A,h3,h4⟩:=aM.vq k;have b0:=j.aS.len;obtain⟨f,a2,T',es,rfl,_,_,o,L,b1,n1,c1,rfl,M⟩:=j.aS.at (i:=P) i oM;rw[a3]at o;cases o
    have b2:=M.len;obtain⟨b3,b4,x',b5,rfl,_,_,N,b6,b7,n2,c2,rfl,hM,_⟩:=M.at (i:=a) A oM;rw[h4]at N;cases N
    exact⟨_,_,hM,trivial⟩
   have m:=K.len;have A:=K.dP;unfold aK at A;omega
  have bl:∀{O:List PanicEntry->XU},op=5->PC XP 97 #[XH arg,XH 0,XH (XG .i64 ((h:Int)-1))] y (λa4 Q=>∃R:Bool,a4= .bool R/\an (!R) (Ok (λe w'=>e= XH (kM d P a op arg)/\ai w w') (.returned (XH 1)) Q) (Ok (λe w'=>e= XH (kM d P a op arg)/\ai w w') (.returned (XH 0)) Q)) O:=by
   intro O b;refine PC.ok bU ?_;rintro _ _ ⟨rfl,rfl⟩;rw[wrap_i64 bc,hn];refine⟨_,rfl,an.not (an.mk (λc=>n 0 ?_) (λc=>n 1 ?_))⟩
   ·rw[l,c,b];rfl
   ·rw[l,c,b];rfl
  refine an.dE (λm=>an.dE (λi=>an.dE (λ_=>n 1 (by rw[l,m,i];rfl)) (λL=>Zz i L)) (λi=>an.dE (λb=>Zz b oM) (λb=>n 0 ?_))) (λm=>an.dE (λb=>⟨_,_,_,ae I rfl,bl b⟩) (λb=>n 0 ?_))
  ·rw[l,Zq (by simp[i,b])]
  ·rw[l,Zq (by simp[m,b])]
def DS{f:ZH}(P:Row rl 48 w D f a c5):
  ZG 100 #[.agg #[.slice f a c],XH e,XH r] w (Ok λi w'=>i= .bool (QP c5 e r)/\ai w w'):=by
 have g:=P.len;have j:=P.dP;unfold aK at j;refine Hd (PA.mk λo b p h=>⟨_,_,_,ae h rfl,PC.ok bU ?_⟩);rintro _ _ ⟨rfl,rfl⟩;rw[wrap_i64 bc];refine⟨_,rfl,an.mk (λn=>?_) (λn=>Ok.mk ⟨?_,b⟩)⟩
 ·have q:=bq.1 n
  obtain⟨k,d,s,t,rfl,_,_,l,m,u,v,x,rfl,_⟩:=(P.ah b).at (i:=e) oM oM;refine⟨_,_,_,ae h rfl,k,d,rfl,oM,oM,_,m 0 dC,Ok.mk ⟨?_,b⟩⟩;unfold QP;rw[<-g,n,l];rfl
 ·unfold QP;rw[<-g,n];rfl
def Sf(P:1<=e/\e<=4)(a:1<=r/\r<=3):∃n:Int,(∀w',(do eqGuard .shr 3 (.tmp 19) (.tmp 21) (XH (([0,2,14,6,6]:List Int).getD e.toNat 0)) (XH r);binOp .shr 3 (XH (([0,2,14,6,6]:List Int).getD e.toNat 0)) (XH r):Sem Value).run XP w'= .ok (XH n) w')/\((EC .i64 n 1==0)= !PZ e r):=by
 refine⟨(([0,2,14,6,6]:List Int).getD e.toNat 0).fdiv (2 ^ r.toNat),?_,?_⟩<;>rcases(by omega:e=1\/e=2\/e=3\/e=4)with rfl|rfl|rfl|rfl<;>rcases(by omega:r=1\/r=2\/r=3)with rfl|rfl|rfl<;>first
  |(intro w';kernel_rfl)
  |decide
def KK(m:jH):Bool:=decide (m.bt<0)||decide (m.ns<0)||m.kV== -1&&m.least !=0
def Sg{b:jH}:ZG 98 (#[]++ #[.agg (ny b).toArray]++ #[]) w (Ok λe w'=>e= .bool (KK b)/\ai w w'):=by
 refine vV (PA.mk λf P g a=>⟨_,ae a rfl,an.dec (λn=>Ok.mk ⟨by simp[KK,n],P⟩) (λc=>⟨_,ae a rfl,an.dec (λn=>Ok.mk ⟨by simp[KK,n],P⟩) (λd=>⟨_,ae a rfl,an.dE (λn=>⟨_,ae a rfl,Ok.mk ⟨by simp[KK,c,d,n],P⟩⟩) (λn=>Ok.mk ⟨by simp[KK,c,d,n],P⟩)⟩)⟩)⟩)
def Ip(P:List bd)(n:jH):Bool:=n.kV != -1&& !QP P n.kV 1
def Sh{P:jH}{d:ZH}(f:Row rl 48 w D d c c5)(h:w.heap[a]? =some (.cells #[.slice d c i] g (0,0))):
  ZG 99 (#[]++ #[.agg (ny P).toArray]++ #[XL a]) w (Ok λj w'=>j= .bool (Ip c5 P)/\ai w w'):=by
 refine vW (PA.mk λl n m e=>⟨_,ae e rfl,an.dF (λb=>⟨_,_,_,ae (n.get h id) rfl,_,ae e rfl,PC.ok (DS (f.ah n)) ?_⟩) (λb=>Ok.mk ⟨by simp[Ip,b],n⟩)⟩);rintro _ o ⟨rfl,k⟩;exact⟨_,rfl,Ok.mk ⟨by unfold Ip;rw[show(P.kV != -1)=true by simpa using b];simp,n.then k⟩⟩
def FR{y z:ZH}(H:eD w)(I:Row rl 48 w D y a c5)(A:Row ix 32 w D z i c3.bl):
  ZG 67 #[.agg #[.slice y a c],.agg (ez c3 z i p).toArray] w (Ok λo w'=>o= XH (eX c5 c3)/\ai w w'):=by
 refine Ae (PA.mk λV J W K=>PA.mk λq B X r=>⟨_,ae r rfl,PC.ok bU ?_⟩);rintro _ _ ⟨rfl,rfl⟩;have C:=J.then B;refine⟨_,rfl,an.not (an.mk (λe=>?_) (λe=>Ok.mk ⟨by unfold eX;rw[e];rfl,C⟩))⟩;have s:=bq.1 e;refine⟨λw'=>ai w w'/\q.heap.size<=w'.heap.size/\ai q w'/\within c3.dt 1 3=true/\PZ c3.kind c3.dt=true/\(c3.floor&&c3.kind !=1)=false,λk E=>?_,?_⟩
 ·have b:=(bF.af (S:=λ_=>False) E).get r id
  have d:ai q k:=E.af;have n:ai w k:=C.then d;have f:eX c5 c3=1->Ok (λo w'=>o= XH (eX c5 c3)/\ai w w') (.returned (XH 1)) k:=λh=>Ok.mk ⟨by rw[h],n⟩;refine⟨_,ae b rfl,PC.ok bU ?_⟩;rintro _ _ ⟨rfl,rfl⟩;refine⟨_,rfl,an.not (an.mk (λP=>?_) (λP=>f (by unfold eX;rw[e,P];rfl)))⟩;have t:=bq.1 P;obtain⟨L,M,N⟩:=Sf s t;refine⟨_,ae b rfl,0,0,rfl,oM,oM,_,by rw[Xz];exact(H.ah n).Vi c3.kind.toNat oM,_,ae b rfl,L,M,?_⟩;refine an.mk (λl=>?_) (λl=>?_)<;>rw[N]at l
  ·exact f (by unfold eX;rw[e,P,show PZ c3.kind c3.dt=false by simpa using l];rfl)
  have j:PZ c3.kind c3.dt=true:=by simpa using l
  refine⟨_,ae b rfl,an.mk (λu=>⟨_,ae b rfl,an.dF (λO=>f ?_) (λQ=>⟨n,d.size,d,P,j,by simp[Q]⟩)⟩) (λu=>⟨n,d.size,d,P,j,by simp[u]⟩)⟩;unfold eX;rw[e,P,j,u];simp[O]
 ·rintro Y k ⟨n,Z,d,P,j,R⟩
  have b:=d.get r id;have v:eX c5 c3=if c3.bl.any KK then 1 else if c3.bl.any (Ip c5)then 8 else 0:=by
   unfold eX;rw[e,P,j,R];rfl
  refine⟨_,_,_,ae b rfl,PC.ok (Io (p:=KK) (A.ah n) kR λS T g=>Sg) ?_⟩;rintro _ T ⟨rfl,g⟩;refine⟨_,rfl,an.mk (λh=>Ok.mk ⟨by rw[v,Zx h],n.then g⟩) (λh=>⟨_,_,_,ae (g.get b id) rfl,PC.ok (Io (p:=Ip c5) (A.ah (n.then g)) kR λS U m=>Sh (I.ah ((n.then g).then m)) (m.get (g.get (d.get (B.get K id) id) id) id)) ?_⟩)⟩;rintro _ U ⟨rfl,m⟩;have F:=(n.then g).then m;exact⟨_,rfl,an.mk (λx=>Ok.mk ⟨by rw[v,h,x];rfl,F⟩) (λx=>Ok.mk ⟨by rw[v,h,x];rfl,F⟩)⟩
def Ud{n a kind:Int}(b:(d.Cy n a).isSome):∃P,d.types[n.toNat]? =some P/\d.at n=P/\0<=n/\n<d.types.length:=by
 obtain⟨i,c⟩:=Option.isSome_iff_exists.1 b;obtain⟨e,f,P,g,h,_⟩:=aM.vq c;exact⟨P,g,h,e,f⟩
def FT(r:bb w D d ta tn pa pn)(O:∀n,D n->n<w.heap.size):
  ZG 68 #[.agg #[.slice ta tn tc,.slice pa pn pc],.agg (nw d6).toArray] w (Ok λC w'=>C= XH (lG d d6)/\ai w w'):=by
 refine Af (PA.mk λZ E s1 s=>PA.mk λw2 g s2 l=>⟨_,_,_,_,_,_,ae (g.get s id) rfl,ae (g.get s id) rfl,_,ae l rfl,_,ae l rfl,PC.ok (oy (r.ah (E.then g)) λn b=>by have:=O n b;omega) ?_⟩);rintro C w3 ⟨h,m⟩;have t:=(E.then g).then h;have hz:=h.size
 cases i:d.Cy d6.aS d6.field with
 |none=>
  rw[i]at m;refine bO (HY Vh none 0 0) ⟨_,m,PA.mk λQ c R u=>az (fO _ _ _ _) u rfl λo e S T=>an.tt rfl (Ok.mk ⟨?_,(t.then c).new e λn b=>.inr oM⟩)⟩;unfold lG;rw[i];rfl
 |some F=>
  rw[i]at m;obtain⟨H,I,J,a0,rfl,ho,hF⟩:=m;have K:(d.Cy d6.aS d6.field).isNone=false:=by rw[i];rfl
  refine bO (HY F H I J) ⟨_,rfl,PA.mk λQ c R u=>az (fO F H I J) u rfl λo e S T=>an.ff rfl ⟨λn w'=>n=(d6.group==3&& !QP (d.at d6.aS) d6.Eb 2||d6.group !=3&&d6.Eb !=0)/\ai o w',?_,?_⟩⟩
  ·have U:ai w o:=(t.then c).new e λn b=>.inr oM
   intro v V;have P:ai o v:=V.af;have W:=P.get (e.get (c.get (h.get (g.get s id) id) id) oM) id;have a:=P.get (e.get (c.get (h.get l id) id) oM) id;refine⟨_,ae a rfl,an.dE (λf=>⟨_,_,_,ae W rfl,_,ae a rfl,?_⟩) (λf=>⟨_,ae a rfl,an.dF (λ_=>⟨_,ae a rfl,?_,P⟩) (λj=>Zz j f)⟩)⟩
   ·obtain⟨a1,X,L,M,h1⟩:=Ud (kind:=0) (by rw[i];rfl:(d.Cy d6.aS d6.field).isSome)
    have hl:=r.aS.len;obtain⟨n,x,T',es,rfl,_,_,k,j,a2,n1,c1,rfl,Y⟩:=((r.ah (U.then P)).aS).at (i:=d6.aS) M oM;rw[X]at k;cases k
    have N:=j 0 dC;simp only[mB,Nat.mul_one,Nat.add_zero]at N;refine⟨n,x,rfl,M,oM,_,_,_,N,_,ae a rfl,PC.ok (DS Y) ?_⟩;rintro _ w7 ⟨rfl,y⟩;refine⟨_,rfl,an.not (an.mk (λz=>⟨_,ae (y.get a id) rfl,an.dF (λj=>Zz f j) (λ_=>⟨?_,P.then y⟩)⟩) (λz=>⟨?_,P.then y⟩))⟩
    ·rw[L,z,f];rfl
    ·rw[L,z,f];rfl
   ·rw[show(d6.group==3)=false by simpa using f,show(d6.group !=3)=true by simpa using f];rfl
  ·rintro n a3 v ⟨rfl,P⟩
   have p:ai w v:=((t.then c).new e λn b=>.inr oM).then P;have a:=P.get (e.get (c.get (h.get l id) id) oM) id;refine an.mk (λb=>Ok.mk ⟨by unfold lG;rw[K,Zq sM,Zx b],p⟩) (λb=>⟨_,ae a rfl,PC.ok bU ?_⟩);have A:lG d d6=if !within d6.group 1 3|| !within d6.make 1 5 then 2 else 0:=by unfold lG;rw[K,Zq sM,b];rfl
   rintro _ _ ⟨rfl,rfl⟩;refine⟨_,rfl,an.not (an.mk (λq=>⟨_,ae a rfl,PC.ok bU ?_⟩) (λq=>Ok.mk ⟨by rw[A,q];rfl,p⟩))⟩;rintro _ _ ⟨rfl,rfl⟩;exact⟨_,rfl,an.not (an.mk (λB=>Ok.mk ⟨by rw[A,q,B];rfl,p⟩) (λB=>Ok.mk ⟨by rw[A,q,B];rfl,p⟩))⟩
end
def Sx(n:Int×Int×Int):gM XP 350 [XH n.1,XH n.2.1,XH n.2.2]=true:=kR
def IF{n b:Type}[BEq n][LawfulBEq n]{P:n}{e c:b}:∀a:List (n×b),aI (aI a P e) P c=aI a P c
 |[]=>by simp[aI]
 |(f,g)::a=>by
  by_cases d:P==f
  ·simp[d,aI]
  ·simp[d,aI,IF a]
variable{K:Bool}{d4:Int×Int}{b:World}{o:aj}
section
variable {w w':World} {p:Nat} {F T D:XN} {V:aU} {q:DY}
def Gb(w:World)(p:Nat)(F D:XN)(V:aU)(n:aj)(b:Value)(w':World):Prop:=
 b= .tuple #[.bool (V.try n).1,.agg #[XH (V.try n).2.1.1,XH (V.try n).2.1.2]]/\∃a,b_ w' p a (V.try n).2.2/\ak F w w'/\∀P,a P->F P\/D P\/w.heap.size<=P
def QL(a:b_ w p F V)(n:ai w w')(P:V.try o=(K,d4,V)):Ok (Gb w p F D V o) (.returned (.tuple #[.bool K,.agg #[XH d4.1,XH d4.2]])) w':=by
 refine Ok.mk ⟨by rw[P],F,?_,ai.af n,λK b=>.inl b⟩;rw[P];exact a.ah n
def DZ(h:xO b p F V q)(n:Int×Int×Int):∃P a c d,(aE q.l2 n).getD (.slice none 0 0)= .slice P a c/\(aE V.done n).getD []=d/\(aO jo 63 (q.P F (.done n)) b P a c d):=by
 rcases h.VC.aE n with⟨e,f⟩|⟨k,d,e,f,P,a,c,rfl,j⟩
 ·exact⟨none,0,0,[],by rw[e];rfl,by rw[f];rfl,(aO.nil b).mono (λi g=>g.elim) λi g=>h.aB i g.1⟩
 ·exact⟨P,a,c,d,by rw[e];rfl,by rw[f];rfl,j⟩
def QM(b:b_ w p F V)(hT:eD w)(hr:Row aJ 8 w D d a o.aP)(C:∀n,D n->n<w.heap.size/\¬F n)(he:o.Ok)(P:((aE V.done (o.aS,o.agg,o.field)).getD []).length<=20000000):
  ZG 199 #[XL p,jD o d a c] w (Ok (Gb w p F D V o)):=by
 have l0:=b;obtain⟨hV,q,b⟩:=b;have f:=b.aB;have B9:=f _ b.lp.1;refine yo (PA.mk λE t7 C0 t8=>PA.mk λo4 o5 C1 t9=>λl3 o6=>?_);have l4:ai o4 l3:=o6.af;have C2:l3.heap.size=o4.heap.size:=by rw[o6.heap]
 have k0:ai w l3:=(t7.then o5).then l4;have ge:=l4.get (o5.get t8 id) id;have gb:=l4.get t9 id;have Q:=b.ah k0;refine⟨p,0,rfl,_,_,_,_,_,_,ae Q.at' rfl,ae Q.at' rfl,_,ae ge rfl,_,ae ge rfl,_,ae ge rfl,_,ae ge rfl,PC.ok (xf (hT.ah k0) Q.QI λn P=>Q.aB n P.1) ?_⟩;rintro _ R ⟨rfl,S⟩;have k1:=k0.then S;have C3:=S.size;have c1:=S.get gb id;have c3:=S.get ge id;have k:∀{w1:World} {i:Int×Int} {n:Bool},ai R w1->V.try o=(n,i,V)->∀w2,bF w1 w2->∀(x H:Int),x=i.1->H=i.2->PS w2 ⟨E.heap.size,0,none⟩ (XH x) λw3=>PS w3 ⟨E.heap.size,0+1,none⟩ (XH H) λw4=>∃(o7 o8:Int),w4.cell? ⟨E.heap.size,0,none⟩=some (XH o7)/\w4.cell? ⟨E.heap.size,0+1,none⟩=some (XH o8)/\Ok (Gb w p F D V o) (.returned (.tuple #[.bool n,.agg #[XH o7,XH o8]])) w4:=λ{w1 i n} hk I w2 f9 x H hx j=>by
  have k2:ai w1 w2:=f9.af;have kk:=(k1.then hk).then k2;have g2:=k2.get (hk.get c1 id) id;subst hx j;refine PS.mk g2 sM λw3 k3 s3 g3=>PS.mk g3 sM λw4 J s4 g4=>⟨_,_,ae g4 rfl,ae g4 rfl,QL l0 ((kk.new k3 λn P=>.inr oM).new J λn P=>.inr oM) I⟩
 refine⟨_,rfl,an.dF (λd6=>λu0 o9=>?_) (λg7=>?_)⟩
 ·have p0:=(o9.af (S:=λ_=>False)).get c1 id
  exact⟨_,_,ae p0 rfl,ae p0 rfl,k (i:=(0,0)) (ak.refl _) (by rw[aU.q_,Zx d6]) u0 o9 _ _ rfl rfl⟩
 obtain⟨c4,t0,t1,C4⟩:=L_ hV.decl g7 (hV.len o);obtain⟨v,p1⟩:∃v:Nat,o.aS=v:=⟨o.aS.toNat,oM⟩
 have l5:=c4.f0;have l6:=c4.f1;obtain⟨fi,g0⟩:∃fi:Nat,o.field=fi:=⟨o.field.toNat,oM⟩
 have u1:V.decl.at o.aS=V.decl.types.getD v []:=by
  unfold aM.at;rw[Zx (bq.2 ⟨t0,oM⟩),p1,Qx]
 obtain⟨tb,ns,es,u2,u3,p2,u4,fa,fn,fc,rfl,y⟩:=(Q.ah S).QI.aS.el v V.decl.types[v] sM;have y:Row rl 48 R (q.P F .QI) fa fn (V.decl.at o.aS):=by
  rw[u1];have:V.decl.types.getD v []=V.decl.types[v]:=by simp[QQ,show v<V.decl.types.length by omega]
  rw[this];exact y
 have C5:=(Q.ah S).QI.aS.len;have g8:=u4 0 dC;have u5:mB.k=1:=rfl;rw[u5,Nat.mul_one]at g8;have u6:=f tb p2.1;refine⟨λT u7 ab ao w'=>u7=0/\ao=0/\ai R w'/\w'.heap[T]? =some (.cells #[.slice fa fn fc] 118 (0,0))/\w'.heap[ab]? =some (.cells #[XH o.aS,XH o.agg,XH o.field] 350 (0,0))/\R.heap.size<=T/\R.heap.size<=ab,?_,?_⟩
 ·intro K p3
  have d7:ai R K:=p3.af;have C6:K.heap.size=R.heap.size:=by rw[p3.heap]
  have p4:=(Q.ah S).ah d7;have c5:=d7.get c3 id;refine⟨λn=>K.heap.size<=n,p,0,rfl,oM,_,_,_,ae p4.at' rfl,by show¬K.heap.size<=w.heap.size;omega,_,ae c5 rfl,tb,ns,u2,t0,by omega,by show¬K.heap.size<=tb;omega,fa,fn,fc,?_,by show¬K.heap.size<=w.heap.size;omega,_,ae c5 rfl,by show¬K.heap.size<=w.heap.size;omega,_,ae c5 rfl,by show¬K.heap.size<=w.heap.size;omega,_,ae c5 rfl,?_,?_⟩
  ·rw[p1,Qx]
   exact(d7.cell (a:=⟨tb,ns+v,none⟩) u3 id).trans g8
  ·refine PA.mk λu9 d8 v0 l7=>⟨ai.af d8,PA.mk λv1 U v2 l8=>⟨ai.af U,PS.mk (U.get l7 id) sM λv3 W v4 l9=>⟨W.mono λn _ o=>oM,az (Sx (o.aS,o.agg,o.field)) (W.get l8 oM) rfl λv5 X v6 m0=>⟨X.mono λn _ o=>oM,rfl,rfl,?_,X.get l9 oM,m0,oM,oM⟩⟩⟩⟩
   exact(((d7.then d8).then U).new W λn P=>.inr oM).new X λn P=>.inr oM
  ·refine PA.mk λu9 d8 v0 l7=>⟨ai.af d8,PA.mk λv1 U v2 l8=>⟨ai.af U,PS.mk l8 sM λv3 W v4 l9=>⟨W.mono λn _ o=>oM,az (Sx (o.aS,o.agg,o.field)) (W.get (U.get l7 id) oM) rfl λv5 X v6 m0=>⟨X.mono λn _ o=>oM,rfl,rfl,?_,X.get l9 oM,m0,oM,oM⟩⟩⟩⟩
   exact(((d7.then d8).then U).new W λn P=>.inr oM).new X λn P=>.inr oM
 rintro T _ ab _ _ p5 ⟨rfl,rfl,p6,p7,g9,y6,C7⟩;have k2:=k1.then p6;have d9:=b.ah k2;obtain⟨da,dn,dc,h,v7,m1,p8⟩:=DZ d9 (o.aS,o.agg,o.field);rw[m1]at P;refine⟨p,0,rfl,_,ae d9.at' rfl,ar (cs:=[XH o.aS,XH o.agg,XH o.field]) (Sx (o.aS,o.agg,o.field)) g9 ⟨da,dn,dc,λb1=>?_,λp9 v8=>?_⟩⟩
 ·have:=dK WL WB (d9.dn.ah (ak.drewN p5 b1)) (o.aS,o.agg,o.field) false
  rw[v7]at this;exact this
 have g1:ai p5 p9:=v8.af;have C8:=p8.len dC;have m2:=(p8.ah g1).row (bytes:=96) dC ba;refine⟨λb1 a5 w'=>∃g:Nat,a5=g/\g<=dn/\b1=dn-g/\(∀x∈h.take g,lW ((V.decl.at o.aS).getD o.field.toNat ⟨0,0,false,[]⟩) x o=false)/\ai p9 w',⟨_,0,rfl,Qj _,rfl,sM,ak.refl _⟩,?_⟩;rintro b1 _ _ m3 ⟨g,rfl,hj,rfl,e0,e1⟩;have k3:=(p6.then g1).then e1;have h0:=e1.get (g1.get p7 id) id;have q0:=e1.get (g1.get g9 id) id;have h6:=k3.get c3 id;have c7:∀{r:Bool×(Int×Int)×aU},(match h.find? λx=>lW ((V.decl.at o.aS).getD o.field.toNat ⟨0,0,false,[]⟩) x o with
  |some x=>(true,aW x,V)
  |none=>if vF (V.decl.at o.aS) (V.cellsOf o) o.field o.op o.arg≠0 then(true,(0,0),V)else
   (false,(0,0),{V with dR:=aI V.dR (o.aS,o.agg) ⟨oK (((aE V.dR (o.aS,o.agg)).getD ⟨0,[]⟩).version+1),Ri (V.decl.at o.aS) (V.cellsOf o) o.field o.op o.arg⟩,done:=aI V.done (o.aS,o.agg,o.field) (h++[o])}))=r->V.try o=r:=λ{r} hr=>by
  rw[aU.q_,Zq (by simpa using g7),m1];exact hr
 refine an.dec (λC9=>?_) (λD0=>?_)
 ·have g5:g<h.length:=oM
  obtain⟨db,b5,es,v9,D1,D2,q1,xa,xn,xc,rfl,q2,q3⟩:=(m2.ah e1).el g h[g] (Qq g5);have g6:h[g]? =some h[g]:=Qq g5;generalize h[g]=x at q1 q2 q3 g6;refine⟨db,b5,v9,oM,oM,bw (es:=aC x xa xn xc) (k:=10) (aV x xa xn xc) rfl (λa5 I=>q1 a5 I) (PA.mk λD3 x0 D4 x1=>az (aV x xa xn xc) x1 rfl λq4 x2 D5 x3=>λx4 x5=>?_)⟩;have m4:ai m3 q4:=x0.new x2 λn P=>.inr oM;have q5:ai q4 x4:=x5.af;have J:=m4.then q5;have e2:=k3.then J;obtain⟨fb,fo,b6,b7,b8,x6,D6,D7,h1,h2,h3,h4,D8⟩:=Er (y.ah e2) (i:=fi) (by rw[y.len];omega);have h7:=q5.get x3 id;refine⟨_,_,_,ae (J.get h0 id) rfl,_,ae (J.get h6 id) rfl,fb,fo,x6,l5,by rw[y.len];exact l6,?_⟩;rw[g0,Qx];refine bw (es:=ez ((V.decl.at o.aS).getD fi ⟨0,0,false,[]⟩) b6 b7 b8) (k:=4) (fO _ _ _ _) rfl (λa5 I=>?_) (ar (aV x xa xn xc) h7 (ar (aV o d a c) (J.get h6 id) (PC.ok (Ay (q2.ah J) ((hr.ah k1).ah e2)) ?_)))
  ·match a5,I with
   |0,_=>exact h1
   |1,_=>exact h2
   |2,_=>exact h3
   |3,_=>exact h4
  rintro _ D9 ⟨rfl,m5⟩;have x7:(V.decl.at o.aS).getD fi ⟨0,0,false,[]⟩=(V.decl.at o.aS).getD o.field.toNat ⟨0,0,false,[]⟩:=by rw[g0,Qx]
  rw[x7];refine⟨_,rfl,an.mk (λhv=>λx8 q6=>?_) (λhv=>⟨_,?_,g+1,aq oM,oM,rfl,λH j=>?_,(e1.then J).then m5⟩)⟩
  ·have q7:=(q6.af (S:=λ_=>False)).get (m5.get h7 id) id
   refine⟨_,_,ae q7 rfl,ae q7 rfl,k (e2.then m5) (i:=aW x) (c7 ?_) x8 q6 _ _ rfl rfl⟩;have hf:h.find? (λx=>lW ((V.decl.at o.aS).getD o.field.toNat ⟨0,0,false,[]⟩) x o)=some x:=by
    rw[List.find?_eq_some_iff_append];refine⟨hv,h.take g,h.drop (g+1),?_,λH j=>by rw[e0 H j];rfl⟩;rw[<-ZX g h]
    congr 1
    ·rw[ZX]
    ·rw[ZX,X4 g5]
     congr 1
     rw[Qq g5]at g6;exact XJ g6
   rw[hf]
  ·omega
  ·rw[Qw,g6]at j
   rcases Q6.1 j with j|j
   ·first|exact e0 H j|(rw[<-g0];exact e0 H j)
   ·simp at j;subst j;first|exact hv|(rw[<-g0];exact hv)
 ·have E0:g=dn:=oM
  rw[Qz oM]at e0;have m6:h.find? (λx=>lW ((V.decl.at o.aS).getD o.field.toNat ⟨0,0,false,[]⟩) x o)=none:=List.find?_eq_none.2 λx hx=>by rw[e0 x hx];simp
  rw[m6]at c7;intro Y h8;have c8:ai m3 Y:=h8.af;have y7:Y.heap.size=m3.heap.size:=by rw[h8.heap]
  have k5:=k3.then c8;have e8:=k1.then k5;have z5:=k5.size;have z3:=k3.size;have b9:=b.ah e8;have b2:=c8.get q0 id;have c0:=c8.get h0 id;have m7:=k5.get c3 id;have E1:=c8.size;have y8:=ax b2;have y9:=ax c0;obtain⟨s,n,l,m,z,e,Z,h5,k4,d4⟩:∃(s:mf) (n:Bool) (l:ZH) (m z:Nat),(aE q.l1 (o.aS,o.agg)).getD (.agg #[XH 0,.slice none 0 0])= .agg #[XH s.version,.slice l m z]/\(aE q.l1 (o.aS,o.agg)).isSome=n/\(aE V.dR (o.aS,o.agg)).getD Gf=s/\(n=true->V.cellsOf o=s.cells)/\Row et 32 Y (q.P F .Vr) l m s.cells/\(n=false->V.cellsOf o=du (V.decl.at o.aS)):=by
   unfold aU.cellsOf;rcases b9.Vs.aE (o.aS,o.agg)with⟨e,Z⟩|⟨f0,s,e,Z,l,m,z,rfl,hr⟩
   ·exact⟨Gf,false,none,0,0,by rw[e];rfl,by rw[e];rfl,by rw[Z];rfl,λb=>(by cases b),Row.nil _ _,λ_=>by rw[Z]⟩
   ·exact⟨s,true,l,m,z,by rw[e];rfl,by rw[e];rfl,by rw[Z];rfl,λ_=>by rw[Z],hr,λb=>(by cases b)⟩
  obtain⟨d4,l1⟩:=d4;refine⟨λn=>n=Y.heap.size,p,0,rfl,oM,_,ae b9.at' rfl,oM,_,_,ae b2 rfl,ae b2 rfl,s.version,l,m,z,n,λw' hk=>?_,PA.mk λz0 h9 z2 q8=>⟨ai.af h9,PS.mk q8 sM λz4 i0 z7 q9=>PS.mk q9 sM λr0 i1 z8 i2=>⟨i0.then i1,?_⟩⟩⟩
  ·have:=dK WC Uk (b9.st.af hk (by have:=f _ b.l1.1;omega)) (o.aS,o.agg) true
   rw[e,Z]at this;exact this
  have k6:ai Y r0:=(h9.new i0 λn P=>.inr oM).new i1 λn P=>.inr oM;refine⟨λw'=>ai Y w'/\∃l m z Dc,w'.heap[Y.heap.size]? =some (.cells #[XH s.version,.slice l m z] 49 (0,0))/\Row et 32 w' Dc l m (V.cellsOf o)/\∀n,Dc n->n<w'.heap.size,?_,?_⟩
  ·refine an.not (an.mk (λx9=>⟨k6,l,m,z,_,i2,by rw[k4 x9];exact d4.ah k6,λn P=>by have:=f n P.1;have:=k6.size;have:=e8.size;omega⟩) (λy0=>⟨_,_,_,ae (k6.get c0 id) rfl,PC.ok (GH (t:=V.decl.at o.aS) rfl (y.len) (by rw[y.len];omega)) ?_⟩))
   rintro _ z9 ⟨l2,n6,m8,G6,rfl,r3,k7,y1⟩;have z6:=k6.size;refine⟨_,_,_,rfl,PS.mk (k7.get i2 id) sM λA0 i3 A1 r4=>⟨(k6.then k7).new i3 λn P=>.inr oM,l2,n6,m8,G6,r4,?_,λn P=>by have:=r3.aB n P;omega⟩⟩;rw[l1 y0];exact(r3.af i3 λn P o=>by have:=y1 n P;omega).row dC (by unfold aK du;simp;omega)
  rintro _ A2 ⟨a3,l,m,z,Dc,f1,d4,y2⟩;have A3:=a3.size;have f2:=k5.then a3;have f3:=a3.get c0 id;have m9:=a3.get b2 id;have c2:=a3.get m7 id;refine⟨_,_,_,ae f3 rfl,_,_,_,ae f1 rfl,_,ae c2 rfl,_,ae c2 rfl,_,ae c2 rfl,PC.ok (GG c4 (y.ah f2) d4) ?_⟩;rintro _ r5 ⟨rfl,a0⟩;have k8:=f2.then a0;refine⟨_,rfl,an.dF (λd6=>λr6 i4=>?_) (λy3=>λc9 r7=>?_)⟩
  ·have i5:=(i4.af (S:=λ_=>False)).get (k8.get c1 id) id
   refine⟨_,_,ae i5 rfl,ae i5 rfl,k (i:=(0,0)) k8 (c7 ?_) r6 i4 _ _ rfl rfl⟩;simp only;rw[Zx d6]
  have f4:vF (V.decl.at o.aS) (V.cellsOf o) o.field o.op o.arg=0:=y3;have a1:ai r5 c9:=r7.af;have k9:=k8.then a1;have n0:=(a3.then a0).then a1;have c6:=k1.then k9;have n1:=b.ah c6;have b3:=k9.get c3 id;have d2:=(a0.then a1).get m9 id;have n3:=(a0.then a1).get f3 id;have f5:=(a0.then a1).get f1 id;have E2:=f _ b.l1.1;have E3:=f _ b.l2.1;have A4:=n0.size;have y4:=c6.size;have e9:¬p=q.r1:=λo=>by have e:=b.lp.2;rw[o,b.l1.2]at e;cases e
  have i6:¬p=q.r2:=λo=>by have e:=b.lp.2;rw[o,b.l2.2]at e;cases e
  have i7:¬q.r1=q.r2:=λo=>by have e:=b.l1.2;rw[o,b.l2.2]at e;cases e
  refine⟨λn=>n=q.r1,p,0,rfl,e9,_,ae n1.at' rfl,oM,_,_,ae d2 rfl,ae d2 rfl,oM,_,ae f5 rfl,_,_,_,ae n3 rfl,_,_,_,ae f5 rfl,_,ae b3 rfl,_,ae b3 rfl,_,ae b3 rfl,PC.ok (Rk c4 f4 he.arg oM (y.ah k9) (λn P=>by have:=f n P.1;omega) (d4.ah (a0.then a1)) λn P=>by have:=y2 n P;have:=(a0.then a1).size;omega) ?_⟩;rintro _ a6 ⟨r8,r9,s0,G,rfl,i8,a4,hG⟩;have e3:=c6.then a4;have t:=b.ah e3;have A5:=a4.size;refine⟨_,_,_,rfl,ai.af a4,cV (enc:=oF) (k:=(o.aS,o.agg)) WC Uk t.st λi9 s1 j0 A6=>⟨j0,λd0 j1=>?_⟩⟩;have j2:ai i9 d0:=j1.af;have A7:d0.heap.size=i9.heap.size:=by rw[j1.heap]
  have A:ak (·=q.r1) a6 d0:=j0.ah j2;have key:∀n,F n/\q.cls n= .done (o.aS,o.agg,o.field)->n≠p/\n≠q.r1/\n≠q.r2:=λn P=>
   ⟨λo=>(by have e:=b.lp.2;rw[<-o,P.2]at e;cases e),λo=>(by have e:=b.l1.2;rw[<-o,P.2]at e;cases e),λo=>(by have e:=b.l2.2;rw[<-o,P.2]at e;cases e)⟩
  have n4:=A.get t.at' e9;have n5:=A.get (a4.get d2 id) oM;have u:=A.get (a4.get b3 id) oM;have n8:=t.dn.af A (λo=>i7 o.symm);have n9:=A.get (a4.get (k9.get c1 id) id) oM;obtain⟨a2,a7,e4,n7,s2,j3,j4⟩:=DZ t (o.aS,o.agg,o.field);rw[m1]at j3;subst j3;have o0:=j4.af A λn P o=>(key n P).2.1 o;have A8:=A.size;refine⟨λn=>n=q.r2\/(F n/\q.cls n= .done (o.aS,o.agg,o.field)),p,0,rfl,λB=>B.elim i6 λB=>(key p B).1 rfl,_,ae n4 rfl,λB=>B.elim (λo=>oM) λB=>by have:=f _ B.1;omega,
   ar (cs:=[XH o.aS,XH o.agg,XH o.field]) (Sx (o.aS,o.agg,o.field)) n5 ⟨_,_,_,_,_,_,_,_,_,_,_,_,ae u rfl,ae u rfl,ae u rfl,ae u rfl,ae u rfl,ae u rfl,ae u rfl,ae u rfl,ae u rfl,ae u rfl,
   PA.mk λA9 a8 B0 s5=>⟨ai.af a8,FE (enc:=BK) (k:=(o.aS,o.agg,o.field)) WL WB (n8.ah a8) λB1 x s6 o1 a9 B2=>⟨a2,a7,e4,x,by rw[s2],a9.mono λn _ o=>.inl o,?_⟩⟩⟩⟩
  have o2:=(o0.ah a8).af a9 λn P o=>(key n P).2.2 o;have s7:=a9.get s5 oM;have b4:∀n,aF a2=some n->F n/\q.cls n= .done (o.aS,o.agg,o.field):=λn P=>j4.self n P;have y5:=(((hr.ah e3).af A λn P o=>(C n P).2 (o▸b.l1.1)).ah a8).af a9 λn P o=>(C n P).2 (o▸b.l2.1);refine eY (c:=jo) o2 IL s7 (D:=D) (x:=o) ⟨d,a,c,rfl,y5,he⟩ (λn P=>⟨by have:=(C n P).1;omega,λee=>(C n P).2 (b4 n ee).1⟩) ba (by unfold maxLen;omega) λa' L s8 F2 f7 b0 o3=>⟨_,_,_,rfl,b0.mono λn _ P=>.inr (b4 n P),?_⟩
  have s9:¬aF a2=some q.r2:=λee=>(key _ (b4 _ ee)).2.2 rfl;refine Bf WB (s6.af b0 s9) (o1.af b0 s9) λj5 t2 f6 B3=>⟨f6.mono λn _ o=>.inl o,λd1 j6=>?_⟩
  have f8:ai j5 d1:=j6.af;have B4:d1.heap.size=j5.heap.size:=by rw[j6.heap]
  have B5:=b0.size;have kb:ak (λn=>n=q.r2\/(F n/\q.cls n= .done (o.aS,o.agg,o.field))) d0 d1:=((((ai.af a8).then (a9.mono λn _ o=>.inl o)).then (b0.mono λn _ P=>.inr (b4 n P))).then (f6.mono λn _ o=>.inl o)).then (ai.af f8);have e5:=kb.get n9 (λB=>B.elim (λo=>oM) λB=>by have:=f _ B.1;omega);refine⟨_,_,ae e5 rfl,ae e5 rfl,PS.mk e5 sM λB6 j7 B7 t3=>PS.mk t3 sM λd3 j8 B8 j9=>⟨_,_,ae j9 rfl,ae j9 rfl,?_⟩⟩;have M:ak (λn=>n=q.r1\/n=q.r2\/(F n/\q.cls n= .done (o.aS,o.agg,o.field))\/n=E.heap.size) a6 d3:=
   ((A.mono λn _ o=>.inl o).then (kb.mono λn _ P=>P.elim (λo=>.inr (.inl o)) λP=>.inr (.inr (.inl P)))).then ((j7.mono λn _ o=>.inr (.inr (.inr o))).then (j8.mono λn _ o=>.inr (.inr (.inr o))))
  have kc:ak (·=E.heap.size) d1 d3:=j7.then j8;have zT:=M.size;have I:=c7 (r:=(false,(0,0),{V with dR:=aI V.dR (o.aS,o.agg) ⟨oK (((aE V.dR (o.aS,o.agg)).getD ⟨0,[]⟩).version+1),Ri (V.decl.at o.aS) (V.cellsOf o) o.field o.op o.arg⟩,done:=aI V.done (o.aS,o.agg,o.field) (h++[o])})) (by simp only;rw[Zq (by simpa using f4)]);have t4:=(aU.QN hV o).1;refine Ok.mk ⟨by rw[I],λn=>n<d3.heap.size/\(F n\/D n\/w.heap.size<=n),?_,?_,λn P=>P.2⟩
  rotate_left
  ·exact(ai.af e3).trans M (λ_ _ b=>b) λn P hT=>by
    rcases hT with rfl|rfl|hT|rfl
    ·exact b.l1.1
    ·exact b.l2.1
    ·exact hT.1
    ·omega
  rw[I]at t4⊢;have t5:∀n,G n->c9.heap.size<=n/\n<a6.heap.size:=λn P=>⟨hG n P,i8.aB n P⟩
  have N:∀n,F n->n<d3.heap.size:=λn P=>by have:=f n P;omega
  classical
  have O:∀n,F n->(if F n then q.cls n else if c9.heap.size<=n/\n<a6.heap.size then IE.Vr else IE.done (o.aS,o.agg,o.field))=q.cls n:=λn P=>Zx P;refine⟨t4,⟨q.ta,q.tn,q.tc,q.pa,q.pn,q.pc,q.ea,q.en,q.ec,q.r1,q.r2,aI q.l1 (o.aS,o.agg) (.agg #[XH (oK (s.version+1)),.slice r8 r9 s0]),aI q.l2 (o.aS,o.agg,o.field) (.slice a' (a7+1) L),λn=>if F n then q.cls n else if c9.heap.size<=n/\n<a6.heap.size then IE.Vr else IE.done (o.aS,o.agg,o.field)⟩,?_,?_,?_,?_,?_,?_,?_,λn P=>P.1,⟨⟨N _ b.lp.1,.inl b.lp.1⟩,(O _ b.lp.1).trans b.lp.2⟩,⟨⟨N _ b.l1.1,.inl b.l1.1⟩,(O _ b.l1.1).trans b.l1.2⟩,⟨⟨N _ b.l2.1,.inl b.l2.1⟩,(O _ b.l2.1).trans b.l2.2⟩⟩
  ·exact M.get t.at' λB=>by
    rcases B with B|B|B|B
    ·exact e9 B
    ·exact i6 B
    ·exact(key _ B).1 rfl
    ·omega
  ·refine(t.QI.af M λn P B=>?_).mono λn P=>⟨⟨N n P.1,.inl P.1⟩,(O n P.1).trans P.2⟩
   have d5:=f n P.1;rcases B with rfl|rfl|B|B
   ·have:=b.l1.2;rw[P.2]at this;cases this
   ·have:=b.l2.2;rw[P.2]at this;cases this
   ·have:=B.2;rw[P.2]at this;cases this
   ·omega
  ·refine(t.NS.af M λn P B=>?_).mono (λn P=>⟨⟨N n P.1,.inl P.1⟩,(O n P.1).trans P.2⟩) λn P=>P.1.1
   have d5:=f n P.1;rcases B with rfl|rfl|B|B
   ·have:=b.l1.2;rw[P.2]at this;cases this
   ·have:=b.l2.2;rw[P.2]at this;cases this
   ·have:=B.2;rw[P.2]at this;cases this
   ·omega
  ·exact((s1.ah j2).af kb λB=>B.elim i7 λB=>(key _ B).2.1 rfl).af kc oM
  ·refine eW.aI ?_ ?_
   ·refine⟨r8,r9,s0,by rw[h5],?_⟩
    refine((i8.row (bytes:=32) dC ?_).af M λn P B=>?_).mono λn P=>?_
    ·rw[Ma,hV.len];unfold aK;omega
    ·have d5:=t5 n P
     rcases B with rfl|rfl|B|B
     ·omega
     ·omega
     ·have:=f n B.1;omega
     ·omega
    ·have d5:=t5 n P
     refine⟨⟨oM,.inr (.inr oM)⟩,?_⟩;show(if F n then _ else _)=_;rw[Zq (λhf=>by have:=f n hf;omega),Zx d5]
   ·refine t.Vs.mono λf0 r1 hu=>?_
    obtain⟨e6,n2,e7,rfl,hu⟩:=hu;refine⟨e6,n2,e7,rfl,(hu.af M λn P B=>?_).mono λn P=>⟨⟨N n P.1,.inl P.1⟩,(O n P.1).trans P.2⟩⟩;have d5:=f n P.1;rcases B with rfl|rfl|B|B
    ·have:=b.l1.2;rw[P.2]at this;cases this
    ·have:=b.l2.2;rw[P.2]at this;cases this
    ·have:=B.2;rw[P.2]at this;cases this
    ·omega
  ·have:=(t2.ah f8).af kc (by show¬q.r2=E.heap.size;omega)
   rw[IF]at this;exact this
  ·refine ot.aI ?_ t.VC ?_ t.dn.tidy
   ·refine⟨a',_,L,rfl,?_⟩
    have t6:∀n,F2 n->n<s8.heap.size/\n≠E.heap.size:=λn P=>by
     refine⟨f7.aB n P,λo=>?_⟩;rcases o3 n P with e|e|e
     ·have:=f n e.1;omega
     ·have:=(C n e).1;omega
     ·omega
    refine((f7.af f6 λn P o=>?_).ah f8|>.af kc λn P o=>(t6 n P).2 o).mono (λn P=>?_) λn P=>P.1.1
    ·rcases o3 n P with e|e|e
     ·exact(key n e).2.2 o
     ·exact(C n e).2 (o▸b.l2.1)
     ·omega
    ·have:=(t6 n P).1
     have hz:=kc.size;rcases o3 n P with e|e|e
     ·exact⟨⟨N n e.1,.inl e.1⟩,(O n e.1).trans e.2⟩
     ·refine⟨⟨oM,.inr (.inl e)⟩,?_⟩
      show(if F n then _ else _)=_;rw[Zq (C n e).2,Zq (by have:=(C n e).1;omega)]
     ·refine⟨⟨oM,.inr (.inr oM)⟩,?_⟩
      show(if F n then _ else _)=_;rw[Zq (λhf=>by have:=f n hf;omega),Zq oM]
   ·intro r2 f0 r1 d6 hu
    obtain⟨e6,n2,e7,rfl,hu⟩:=hu;refine⟨e6,n2,e7,rfl,(hu.af M λn P B=>?_).mono (λn P=>⟨⟨N n P.1,.inl P.1⟩,(O n P.1).trans P.2⟩) λn P=>P.1.1⟩;have d5:=f n P.1;rcases B with rfl|rfl|B|B
    ·have:=b.l1.2;rw[P.2]at this;cases this
    ·have:=b.l2.2;rw[P.2]at this;cases this
    ·have:=B.2;rw[P.2]at this
     simp only[IE.done.injEq]at this;exact d6 this
    ·omega
end
variable{f:XN}{e5:ZH}
section
variable {w w':World} {p:Nat} {F T D:XN} {V:aU} {q:DY}
abbrev Ec(n:cz)(P:ZH)(a b:Nat):Value:=.agg (gK n P a b).toArray
def Gj(L:b_ w p F V)(hT:eD w)(hr:Row aJ 8 w D d a o.aP)(m:∀n,D n->n<w.heap.size/\¬F n)(he:o.Ok)(P:((aE V.done (o.aS,o.agg,o.field)).getD []).length<=20000000)(M:V.entries.length<=20000000):
  ZG 124 #[XL p,jD o d a c] w (Ok λW w'=>∃d a c G,W=Ec (V.add o).1 d a c/\Row aJ 8 w' G d a o.aP/\∃X,b_ w' p X (V.add o).2/\bL F w X w'/\∀n,G n->w.heap.size<=n/\n<w'.heap.size/\¬X n):=by
 have Y:=L.aB;have h3:=Y _ L.self;refine yh (PA.mk λt e6 h4 d1=>PA.mk λh5 Z h6 e7=>?_);have k0:=e6.then Z;refine ar (aV o d a c) (Z.get d1 id) (PC.ok (n_ (hr.ah k0) λn P=>by have:=(m n P).1;omega) ?_);rintro _ h7 ⟨a6,n1,c1,G1,rfl,e8,u,N⟩;have a0:=k0.then N;refine bO (rk o a6 n1 c1) ⟨rfl,PC.ok (QM (L.ah a0) (hT.ah a0) e8 (λn P=>⟨(u n P).2,λi=>by have:=Y n i;have:=u n P;omega⟩) he P) ?_⟩;rintro _ v ⟨rfl,e,b8,O,Q⟩;have h8:=N.size;have h9:=O.size;have b0:∀n,e n->F n\/w.heap.size<=n:=λn P=>by
  rcases Q n P with b|b|b
  ·exact .inl b
  ·have:=u n b;exact .inr oM
  ·exact .inr oM
 have b1:ak F w v:=(ai.af a0).then O;have R:∀{n:Nat},w.heap.size<=n->¬F n:=λ{n} P i=>by have:=Y n i;omega
 have d2:=O.get (N.get (Z.get d1 id) id) (R (Q4 _));have d3:=O.get (N.get e7 id) (R oM);refine⟨_,_,_,rfl,PA.mk λi0 e9 i1 f2=>PS.mk f2 sM λi2 f3 i3 f5=>PS.mk f5 sM λi4 f6 i5 f8=>λx b9=>?_⟩;have A:ai v x:=((e9.new f3 λn P=>.inr oM).new f6 λn P=>.inr oM).then b9.af;have i6:x.heap.size=v.heap.size+1:=by rw[b9.heap];omega
 have a1:x.heap[v.heap.size]? =some (.cells #[XH (V.try o).2.1.1,XH (V.try o).2.1.2] 46 (0,0)):=(b9.af (S:=λ_=>False)).get f8 id;have b2:=A.get d2 id;obtain⟨g9,q,f⟩:=b8.ah A;have c4:=b8.self;have y:=b8.aB;have b3:=((hr.af b1 λn P=>(m n P).2).ah A)
 have a4:(V.try o).2.2.entries=V.entries:=by
  rw[aU.q_];split;rfl;split;rfl;split<;>rfl
 have i7:=f.NS.len dC;have B:∀n,aF q.ea=some n->e n/\q.cls n= .NS:=λn P=>f.NS.self n P;have C:¬aF q.ea=some p:=λj=>by have b:=(B p j).2;rw[f.lp.2]at b;cases b
 refine⟨λn=>aF q.ea=some n,p,0,rfl,C,_,_,_,ae f.at' rfl,ar (aV o d a c) b2 ⟨λj=>by have:=y _ (B _ j).1;omega,_,_,ae a1 rfl,ae a1 rfl,PC.ok (n_ b3 λn P=>by have:=(m n P).1;omega) ?_⟩⟩;rintro _ i8 ⟨a7,n2,c2,G2,rfl,g0,z,c5⟩;have i9:=c5.size;refine⟨_,_,_,_,_,_,_,_,_,_,_,_,rfl,ai.af c5,PA.mk λd4 c6 j0 g1=>⟨ai.af c6,?_⟩⟩;have a2:=c5.then c6;refine eY (c:=vB) (x:=⟨o,(V.try o).1,(V.try o).2.1⟩) (f.NS.ah a2) QE g1 (D:=G2) ⟨a7,n2,c2,rfl,g0.ah c6,he⟩ (λn P=>⟨by have:=z n P;omega,λj=>by have:=y _ (B _ j).1;have:=z n P;omega⟩) (by rw[a4];unfold aK;omega) (by rw[a4];unfold maxLen;omega) λa' E d5 F2 b4 c7 c8=>⟨_,_,_,rfl,p,0,rfl,?_⟩
 have j1:=c7.size;have d6:=c7.get ((f.ah a2).at') C;refine PS.mk d6 sM λH g2 j2 g3=>λr d7=>?_;have d8:ai H r:=d7.af;have j3:r.heap.size=H.heap.size:=by rw[d7.heap]
 have a5:ak (·=p) d5 r:=g2.ah d8;have k5:ak (λn=>aF q.ea=some n\/n=p) x r:=((ai.af a2).then (c7.mono λn _ P=>.inl P)).then (a5.mono λn _ P=>.inr P);have I:ak e x r:=k5.mono λn _ P=>P.elim (λb=>(B n b).1) λb=>b▸c4;have c9:∀{n:Nat},v.heap.size<=n->¬e n:=λ{n} P i=>by have:=y n i;omega
 have g4:¬e w.heap.size:=λi=>by
  rcases Q _ i with b|b|b
  ·exact R (Q4 _) b
  ·have:=u _ b;omega
  ·omega
 have d0:¬e t.heap.size:=λi=>by
  rcases Q _ i with b|b|b
  ·exact R oM b
  ·have:=u _ b;omega
  ·omega
 have d9:=I.get b2 g4;have e0:=I.get (A.get d3 id) d0;have b5:=I.get a1 (c9 (Q4 _));have e1:∀n,D n->¬e n:=λn P i=>by
  rcases Q _ i with b|b|b
  ·exact(m n P).2 b
  ·have:=u _ b;have:=(m n P).1;omega
  ·have:=(m n P).1;omega
 have e2:=b3.af I e1;have j4:=k5.size;refine⟨λn=>n=t.heap.size,ar (aV o d a c) d9 ⟨oM,_,_,ae b5 rfl,ae b5 rfl,PC.ok (n_ e2 λn P=>by have:=(m n P).1;omega) ?_⟩⟩;rintro _ j5 ⟨a3,n3,c3,G3,rfl,g5,e3,J⟩;have j6:=J.size;refine⟨_,_,_,_,_,_,_,_,_,_,_,_,rfl,ai.af J,az (lq ⟨o,(V.try o).1,(V.try o).2.1⟩ a3 n3 c3) (J.get e0 id) rfl λe4 S j7 g6=>⟨S,ar (lq ⟨o,(V.try o).1,(V.try o).2.1⟩ a3 n3 c3) g6 (Ok.mk ⟨a3,n3,c3,G3,rfl,g5.af S λn P j=>by have:=e3 n P;omega,λn=>n<H.heap.size/\(e n\/G2 n\/d4.heap.size<=n),?_,⟨?_,?_⟩,?_⟩)⟩⟩
 ·have g7:=(aU.zo (by
   have:V.OK:=L.1;exact this) o).1
  have T:ak (λn=>n=t.heap.size) r e4:=(ai.af J).then S;have zc:=T.size;have g8:∀n,e n->n<H.heap.size:=λn P=>by have:=y n P;omega
  classical
  have e5:∀n,e n->(if e n then q.cls n else IE.NS)=q.cls n:=λn P=>Zx P;have K:ak (λn=>(aF q.ea=some n\/n=p)\/n=t.heap.size) x e4:=(k5.mono λn _ P=>.inl P).then (T.mono λn _ P=>.inr P);have g:∀(l:IE) n,l≠.NS->l≠.self->e n/\q.cls n=l->¬((aF q.ea=some n\/n=p)\/n=t.heap.size):=λl n b U P k=>by
   rcases k with(k|k)|k
   ·exact b (P.2.symm.trans (B n k).2)
   ·subst k;exact U (P.2.symm.trans f.lp.2)
   ·subst k;exact d0 P.1
  have h:∀(l:IE) n,e n/\q.cls n=l->((n<H.heap.size/\(e n\/G2 n\/d4.heap.size<=n))/\(if e n then q.cls n else IE.NS)=l):=λl n P=>⟨⟨g8 n P.1,.inl P.1⟩,(e5 n P.1).trans P.2⟩
  refine⟨g7,⟨q.ta,q.tn,q.tc,q.pa,q.pn,q.pc,a',q.en+1,E,q.r1,q.r2,q.l1,q.l2,λn=>if e n then q.cls n else IE.NS⟩,?_,?_,?_,?_,?_,?_,?_,λn P=>by have:=P.1;omega,h _ _ f.lp,h _ _ f.l1,h _ _ f.l2⟩
  ·exact T.get (d8.get g3 id) oM
  ·exact(f.QI.af K λn P=>g _ n sM sM P).mono (h _)
  ·have M:∀n,F2 n->n<d5.heap.size/\n≠t.heap.size/\n≠p:=λn P=>by
    refine⟨b4.aB n P,λj=>?_,λj=>?_⟩
    ·rcases c8 n P with b|b|b
     ·exact d0 (j▸b.1)
     ·have:=z n b;omega
     ·omega
    ·rcases c8 n P with b|b|b
     ·have U:=b.2;rw[j,f.lp.2]at U;cases U
     ·have:=z n b;have:=y p c4;omega
     ·have:=y p c4;omega
   have:(V.add o).2.entries=(V.try o).2.2.entries++[⟨o,(V.try o).1,(V.try o).2.1⟩]:=rfl;rw[this];refine((b4.af a5 λn P=>(M n P).2.2).af T λn P=>(M n P).2.1).mono (λn P=>?_) λn P=>by have:=P.1.1;omega
   have h0:=(M n P).1;rcases c8 n P with b|b|b
   ·exact h _ n b
   ·have:=z n b
    refine⟨⟨oM,.inr (.inl b)⟩,?_⟩;show(if e n then _ else _)=_;rw[Zq (c9 oM)]
   ·refine⟨⟨oM,.inr (.inr b)⟩,?_⟩
    show(if e n then _ else _)=_;rw[Zq (c9 oM)]
  ·exact f.st.af K (g _ _ sM sM f.l1)
  ·refine f.Vs.mono λW a8 s=>?_
   obtain⟨x1,x2,x3,rfl,s⟩:=s;exact⟨x1,x2,x3,rfl,(s.af K λn P=>g _ n sM sM P).mono (h _)⟩
  ·exact f.dn.af K (g _ _ sM sM f.l2)
  ·refine f.VC.mono λa9 W a8 s=>?_
   obtain⟨x1,x2,x3,rfl,s⟩:=s;exact⟨x1,x2,x3,rfl,(s.af K λn P=>g _ n sM sM P).mono (h _) λn P=>by have:=P.1.1;omega⟩
 ·have k1:ak e v r:=(ai.af A).then I
  exact((b1.new k1 b0).ah J).new S λn P=>.inr oM
 ·intro n P
  rcases P.2 with b|b|b
  ·exact b0 n b
  ·have:=z n b;exact .inr oM
  ·exact .inr oM
 ·intro n P
  have:=e3 n P;refine⟨oM,oM,λk=>by have:=k.1;omega⟩
def Ee(c:aM):∀(a:List aj) (n:aU) (P:Int×Int×Int),(((aE (a.foldl (λn e=>(n.add e).2) n).done P).getD []).length<=((aE n.done P).getD []).length+a.length)/\(a.foldl (λn e=>(n.add e).2) n).entries.length=n.entries.length+a.length
 |[],n,P=>by simp
 |e::a,n,P=>by
  rw[List.foldl_cons];obtain⟨d,f⟩:=Ee c a (n.add e).2 P;have i:((aE (n.add e).2.done P).getD []).length<=((aE n.done P).getD []).length+1:=by
   show((aE (n.try e).2.2.done P).getD []).length<=_;rw[aU.q_];split
   ·simp
   split
   ·simp
   split
   ·simp
   ·simp only
    rw[qV];split
    ·rename_i g
     have b:P=(e.aS,e.agg,e.field):=by simpa using g
     rw[b];simp
    ·simp
  have h:(n.add e).2.entries.length=n.entries.length+1:=by
   show((n.try e).2.2.entries++[_]).length=_;have:(n.try e).2.2.entries=n.entries:=by rw[aU.q_];split;rfl;split;rfl;split<;>rfl
   rw[this];simp
  refine⟨?_,by rw[f,h];simp;omega⟩;simp only[Xq]at d⊢;omega
def Gi{tn L q M i N:Nat}(O:cN R=0)(Q:eD w)(S:bb w D R d tn u q)(T:∀n,D n->n<w.heap.size)(r:Row jo 96 w f e5 i J)(s:∀n,f n->n<w.heap.size)(a:J.length<=20000000):
  ZG 79 #[.agg #[.slice d tn L,.slice u q M],.slice e5 i N] w (Ok λU w'=>∃p F,U= XL p/\b_ w' p F (cm R J)/\(∀n,F n->w.heap.size<=n)/\ai w w'):=by
 refine JI (PA.mk λw1 t s1 v=>⟨_,_,_,_,_,_,ae v rfl,ae v rfl,PC.ok (Gs O (S.ah t) λn a=>by have:=T n a;omega) ?_⟩);rintro _ w9 ⟨p,V,rfl,c,W,x⟩;have a9:=r.len;have X:=t.then x;have z9:=x.size;refine⟨_,rfl,λy o w'=>∃P:Nat,o=P/\P<=i/\y=i-P/\∃F,b_ w' p F (cm R (J.take P))/\(∀n,F n->w.heap.size<=n)/\ai w w',⟨_,0,rfl,Qj _,rfl,V,c,λn a=>by have:=W n a;omega,X⟩,?_⟩;rintro y _ _ Y ⟨P,rfl,hj,rfl,F,c,j,e⟩;refine an.dec (λb0=>?_) (λb1=>?_)
 ·have z:P<J.length:=oM
  obtain⟨n,Z,es,ha,a0,b2,A,k,l,m,rfl,B,C⟩:=(r.ah e).el P J[P] (Qq z);have E:J[P]? =some J[P]:=Qq z;generalize J[P]=b at A B C E;refine⟨n,Z,ha,oM,oM,bw (es:=aC b k l m) (k:=10) (aV b k l m) rfl (λo ht=>A o ht) (PA.mk λb3 a3 b4 a5=>az (aV b k l m) a5 rfl λa6 a7 b5 a8=>ar (aV b k l m) a8 ?_)⟩;have g:ai Y a6:=a3.new a7 λn a=>.inr oM;have H:=Ee R (J.take P) (aU.new R) (b.aS,b.agg,b.field);have b6:=List.length_take_le P J;have b7:((aE (cm R (J.take P)).done (b.aS,b.agg,b.field)).getD []).length<=0+(J.take P).length:=H.1;have b8:(cm R (J.take P)).entries.length=0+(J.take P).length:=H.2;have b9:=e.size;have c1:=g.size;refine PC.ok (Gj (c.ah g) (Q.ah (e.then g)) (B.ah g) (λn a=>⟨by have:=s n a;omega,λhf=>by have:=j n hf;have:=s n a;omega⟩) C oM oM) ?_;rintro _ c2 ⟨a4,n4,c4,G,rfl,-,F',h,I,-⟩;refine bO (Oc _ a4 n4 c4) ⟨rfl,_,?_,P+1,aq oM,oM,rfl,F',?_,λn a=>?_,(e.then g).new I.1 λn a=>.inr (j n a)⟩
  ·omega
  ·rw[Qw,E]
   unfold cm at h⊢;rw[List.foldl_append];exact h
  ·rcases I.2 n a with K|K
   ·exact j n K
   ·omega
 ·rw[Qz oM]at c
  exact Ok.mk ⟨p,F,rfl,c,j,e⟩
end
end Go.Proofs.YtjgjkeponbeekaaGreatDoor
namespace Go.au
open Go
variable{a3:List Value}{E a c c2 i p:Nat}{f:XN}{d u:ZH}{h:Program}{I j:Type}{g q:TypeId}{b:World}{y:XU}
def NQ{cs:List j}{p m:Nat}{v:j}{vs:List j}(n:p<cs.length):(cs.set p v).take (p+1)++vs++(cs.set p v).drop (p+1+m)=cs.take p++(v::vs)++cs.drop (p+(m+1)):=by
 have P:(cs.set p v).take (p+1)=cs.take p++[v]:=by
  rw[Qw,Xj,Zx rfl,Zx n,List.take_set_of_le (Q4 _)];rfl
 have a:(cs.set p v).drop (p+1+m)=cs.drop (p+(m+1)):=by
  rw[List.drop_set_of_lt oM,show p+1+m=p+(m+1) by omega]
 rw[P,a];simp
def BI{k:TypeId}{l:Nat}{f:ZH}{m c P g d:Nat}{o:XU}(p:f=some ⟨g,d,none⟩):∀(a:List Value) (n:Nat) {b:World} {cs:List Value},Own b k l f m c cs->P+n+a.length<=cs.length->
  (∀e,Own e k l f m c (cs.take (P+n)++a++cs.drop (P+n+a.length))->ak (λg=>aF f=some g) b e->e.heap.size=b.heap.size->o e)->iO ⟨g,d+P,none⟩ n a b o
 |[],n,b,cs,h,q,i=>i b (by simpa using h) (ak.refl _) rfl
 |v::a,n,b,cs,h,q,i=>by
  unfold iO;rw[Xq]at q;rw[Addr.add_lit,Nat.add_assoc];refine h.set (m:=P+n) oM p λe r s t=>BI p a (n+1) r be λu j w x=>i u ?_ (s.then w) (x.trans t);have:=NQ (cs:=cs) (p:=P+n) (m:=a.length) (v:=v) (vs:=a) oM;rw[show P+(n+1)=P+n+1 from rfl]at j;rw[this]at j;exact j
def Own.store{j P m e c:Nat}{n cs:List Value}(l:Own b q a d j P cs)(o:d=some ⟨e,c,none⟩)(k:gM h g n=true)(p:m+n.length<=cs.length)(i:∀f,Own f q a d j P (cs.take m++n++cs.drop (m+n.length))->ak (λe=>aF d=some e) b f->f.heap.size=b.heap.size->y f):nq h g (.pointer (some ⟨e,c+m,none⟩)) (.agg n.toArray) b y:=by
 simp only[gM,QK]at k;obtain⟨⟨⟨r,w⟩,s⟩,t⟩:=k;unfold nq;have u:Nat.beq n.toArray.size (lD h g)=true:=by simpa using s
 have v:n.toArray.toList.all Value.oneCell'=true:=by simpa using t
 simp only[r,u,v];exact BI o n 0 l (by simpa using p) i
def eh.store{n:eh j I}{m:List (Bx j)}(w:aO n.jq q f b d a c m){P:Bx j}(x:m[i]? =some P){B s:Nat}(M:d=some ⟨B,s,none⟩)(C:a3=(n.hd P.x u p E).take c2)(a1:n.o<c2)(a2:c2<=n.k)(N:gM h g a3=true)(z:∀r,aO n.jq q f r d a c (m.set i ⟨P.x,u,p,E⟩)->ak (λe=>aF d=some e) b r->r.heap.size=b.heap.size->y r):nq h g (.pointer (some ⟨B,s+i*n.k,none⟩)) (.agg a3.toArray) b y:=by
 obtain⟨cs,D,O,F,Q⟩:=w.body;have H:=bD.nk.1 F;have R:i<m.length:=(Qv.1 x).1;have J:cs.length=m.length*n.k:=by rw[H];exact kK (λe:Bx j=>n.hl e.x e.a e.n e.c) m
 have t:a3.length=c2:=by rw[C,Qy,n.hl];omega
 have S:(i+1)*n.k<=m.length*n.k:=Q0 _ R;rw[X7,Nat.one_mul]at S;refine O.store (m:=i*n.k) M N (by rw[J,t];omega) λr T U K=>z r ⟨⟨_,D,T,bD.nk.2 ?_,Q⟩,w.self,λe V=>by rw[K];exact w.aB e V⟩ U K;have W:=qE (enc:=λe:Bx j=>n.hd e.x e.a e.n e.c) (k:=n.k) (λe=>n.hl e.x e.a e.n e.c) (x':=⟨P.x,u,p,E⟩) (v:=.slice u p E) n.ho m i P x (n.e_ ..).symm;rw[<-W,<-H,t];have X:∀k,k<n.k->cs[i*n.k+k]? =(n.hd P.x P.a P.n P.c)[k]? :=λk Y=>by
  obtain⟨Z,A,L⟩:=F.at x;have a0:Z=n.hd P.x P.a P.n P.c:=L.1;rw[<-a0];exact A k Y
 apply X3;intro k;have o:∀l,l<c2->a3[l]? =(n.hd P.x u p E)[l]? :=λl hu=>by rw[C,Xw,Zx hu]
 by_cases A:k<i*n.k
 ·rw[XQ,XW (by rw[Qy];omega),Xw,Zx A,Xj,Zq oM]
 ·by_cases L:k<i*n.k+c2
  ·rw[XQ,X8 (by rw[Qy];omega),XW (by rw[Qy,t];omega),Qy,o _ oM]
   obtain⟨l,rfl⟩:∃l,k=i*n.k+l:=⟨k-i*n.k,oM⟩
   rw[X2 oM,Nat.add_sub_cancel_left,Xj];have v:=n.e_ P.x P.a P.n P.c u p E;split
   ·rename_i q
    have:l=n.o:=oM
    subst this;rw[Zx (by rw[J];have:=n.ho;omega),<-v,Xj,Zx rfl,Zx (by rw[n.hl];exact n.ho)]
   ·rename_i q
    rw[X l oM,<-v,Xj,Zq oM]
  ·rw[X8 (by rw[QX,Qy,t];omega),QX,Qy,t,List.getElem?_drop,Xj,Zq (by have:=n.ho;omega)]
   congr 1
   omega
end Go.au
namespace Go.au
open Go
variable{h:Program}{y:XU}
section
variable {α β:Type} {N:eh α β} {w9 w w':World} {a:ZH} {n c j:Nat} {L0:List (Bx α)} {e:TypeId}
def dq.step2{f:TypeId}(x:dq N e w9 a n c L0 j w){g:Nat}(o:a=Option.some ⟨g,0,none⟩){b:Bx α}(i:L0[j]? =Option.some b){a':ZH}{n' c':Nat}{G:XN}(z:Row N.ci N.ib w G a' n' (N.inner b.x))(A:N.ok b.x)(k:∀P,G P->w9.heap.size<=P/\P<w.heap.size)(U:g<w9.heap.size){hd:List Value}{r:Nat}(C:hd=(N.hd b.x a' n' c').take r)(E:N.o<r)(F:r<=N.k)(H:gM h f hd=true)(l:∀w',dq N e w9 a n c L0 (j+1) w'->ak (λb=>aF a=Option.some b) w w'->w'.heap.size=w.heap.size->y w'):nq h f (.pointer (Option.some ⟨g,0+j*N.k,none⟩)) (.agg hd.toArray) w y:=by
 obtain⟨I,J,K,L,M,p,O,q⟩:=x;have s:I[j]? =Option.some b:=by rw[p j (Q4 _)];exact i
 have Q:=(Qv.1 s).1;have t:∀P,G P->¬aF a=Option.some P:=λP B e=>by
  have:=(k P B).1;rw[o]at e;simp only[aF,Q1]at e;omega
 refine eh.store K s o C E F H λR S d m=>l R ⟨_,λP=>J P\/G P,S,?_,?_,?_,O.then d,?_⟩ d m
 ·rw[List.map_set,L]
  apply X3;intro f;rw[Xj];split
  ·rename_i e;subst e
   rw[Zx (by simpa using(Qv.1 i).1),Q9,i];rfl
  ·rfl
 ·intro u P V B
  rw[Xj]at B
  by_cases v:j=u
  ·subst v
   rw[Zx rfl,Zx Q]at B
   cases B
   exact⟨(z.af d λP B=>t P B).mono λP B=>.inr B,A⟩
  ·rw[Zq v]at B
   exact((M u P oM B).af d λP B=>(q P B).2.2).mono λP B=>.inl B
 ·intro T W
  rw[Xj,Zq oM,p T oM]
 ·rintro P (B|B)
  ·rw[m];exact q P B
  ·rw[m];exact⟨(k P B).1,(k P B).2,t P B⟩
end
end Go.au
namespace Go.Proofs.YtjgjkeponbeekaaGreatDoor
section
open Go.au
variable{a c:Nat}{d:ZH}
section
variable {w w':World} {p:Nat} {F D:XN} {V:aU}
def yM{n:List (Bx cz)}(b:Row KW.jq 120 w D d a n)(e:∀P,D P->P<w.heap.size):ZG 405 #[.slice d a c] w (Ok (px KW.jq 133 w n)):=
 fX (vG QE dC b e λg w' f=>Ok.mk f)
def Eh(c:b_ w p F V)(a:V.entries.length<=20000000):ZG 403 #[XL p] w (Ok (px vB 133 w V.entries)):=by
 obtain⟨X,Y,c⟩:=c;have j:=c.NS.row (bytes:=120) dC ba;have H:=j.dP;have Z:=j.len;obtain⟨e,v,I,J⟩:=eh.boxes j;have a8:e.length=V.entries.length:=by rw[<-v];simp
 refine rN ⟨p,0,rfl,_,_,_,ae c.at' rfl,PC.ok (yM I λn a=>c.aB n a.1) ?_⟩;rintro _ x ⟨h,f,y,F9,rfl,i,z,K⟩;have k:∀n,aF h=some n->w.heap.size<=n:=λn a=>K n (i.self n a);have L:∀n,aF h=some n->n<x.heap.size:=λn a=>i.aB n (i.self n a);refine⟨_,_,_,rfl,λA M w'=>∃b:Nat,M=b/\b<=f/\A=f-b/\dq KW 133 x h f y e b w',⟨_,0,rfl,Qj _,rfl,dq.start i.alone⟩,?_⟩;rintro A _ _ N ⟨b,rfl,hj,rfl,d⟩;have b0:=d.len;have l:ai w N:=z.new d.af λn a=>.inr (k n a);have zk:=d.af.size;refine an.dec (λb1=>?_) (λb2=>?_)
 ·obtain⟨g,rfl⟩:=d.some oM
  have b3:=k g rfl;have O:=L g rfl;have m:e[b]? =some e[b]:=Qq oM;have o:=J e[b] (XY oM);generalize e[b]=P at m o;refine⟨g,0,rfl,oM,oM,bw (es:=aC P.x.ev P.a P.n P.c) (k:=10) (aV _ _ _ _) rfl (λq Q=>?_) (PC.ok (n_ (e:=P.x.ev) (o.1.ah l) λn a=>by have:=c.aB n a.1;have:=l.size;omega) ?_)⟩
  ·have R:=d.cell rfl m (by show f*13<=aK;unfold aK at H⊢;omega) q
   rw[Qx];have r:q<(aC P.x.ev P.a P.n P.c).length:=Q;rw[Qq r];refine R _ ?_;show(aC P.x.ev P.a P.n P.c++_)[q]? =_;rw[XW r,Qq r]
  rintro _ b4 ⟨s,t,u,G,rfl,S,B,T⟩;refine bO (rk P.x.ev s t u) ⟨rfl,g,0,rfl,oM,oM,?_⟩;rw[Qx];refine(d.ah T).step2 (g:=g) rfl m (a':=s) (n':=t) (c':=u) (G:=G) S o.2 (λC E=>⟨by have:=B C E;omega,(B C E).2⟩) O (hd:=aC P.x.ev s t u) (r:=10) rfl dC dC (aV _ _ _ _) λb5 U b6 b7=>⟨_,?_,b+1,aq oM,oM,rfl,U⟩
  omega
 ·obtain rfl:b=f:=oM
  obtain⟨Fd,hd,W⟩:=d.done;rw[v]at hd;have z9:=z.size;exact Ok.mk ⟨h,_,y,Fd,rfl,hd,l,λn a=>(W n a).elim (k n) λc=>oM⟩
end
end
section
open Go.au
def aY(n:dh):List Value:=[XH n.group,XH n.value,XH n.count]
def dh.Ok(n:dh):Prop:=aH n.group/\aH n.value/\aH n.count
def Gh:jt dh:=flat 3 aY dh.Ok (λ_=>rfl) (λP a n=>by simp[aY]at n;rcases n with rfl|rfl|rfl<;>rfl)
def Vc:jF XP 51 135 3 24:=⟨kR,kR,dC⟩
variable{z:FuncId}{e r:Int}{d7:dh}
section
variable {w w':World} {D:XN} {a:ZH} {n c:Nat} {l:List dh}
def Bm(b:Row Gh 24 w D a n l)(d:∀P,D P->P<w.heap.size):ZG 215 #[.slice a n c] w (Ok (px Gh 135 w l)):=
 iM (vG Vc dC b d λf w' e=>Ok.mk e)
def Kv{most:Int}(b:Row Gh 24 w D a n l)(g:∀d,D d->d<w.heap.size)(u:n<=c):
  ZG 152 #[.slice a n c,XH most] w (Ok λh w'=>∃e,h= .tuple #[e,.bool (decide ((max most 0).toNat<l.length))]/\px Gh 135 w (l.take (max most 0).toNat) e w'):=by
 have v:=b.len;have i:(if 0>most then 0 else most)=max most 0:=by split<;>omega
 refine Ck ?_;rw[i];obtain⟨P,f⟩:∃P:Nat,(if(n:Int)<max most 0 then(n:Int)else max most 0)=P:=⟨(if(n:Int)<max most 0 then(n:Int)else max most 0).toNat,by split<;>omega⟩
 rw[f];have j:P=min n (max most 0).toNat:=by split at f<;>omega
 rw[Qx];refine⟨oM,oM,oM,PC.ok (Bm (b.take (m:=P) oM) g) ?_⟩;rintro _ x ⟨k,m,o,p,rfl,q,r,s⟩;refine⟨_,_,_,rfl,Ok.mk ⟨_,?_,k,m,o,p,rfl,?_,r,s⟩⟩
 ·have:decide ((P:Int)<(n:Int))=decide ((max most 0).toNat<l.length):=by rw[decide_eq_decide];omega
  rw[this]
 ·have:l.take (max most 0).toNat=l.take P:=by
   rw[j]
   by_cases t:(max most 0).toNat<=n
   ·rw[Nat.min_eq_right t]
   ·rw[X2 oM,Qz oM,Qz oM]
  rw[this];exact q
def HP{f g:Array Value}{a k:Nat}(u:a<=20000000)(l:k<=a)(m:enters XP z=true)(o:∀(b:Nat) d,b<a->ai w d->ZG z (f++ #[XH (b:Int)]++g) d (Ok λe w'=>e= .bool (decide (k<=b))/\ai d w')):
  ZG 150 #[XH (a:Int),.func (.func z) f g] w (Ok λe w'=>e= XH (k:Int)/\ai w w'):=by
 refine Aq ⟨λh b p w'=>∃n P:Nat,b=n/\p=P/\h=P-n/\n<=P/\P<=a/\n<=k/\k<=P/\ai w w',⟨_,0,a,rfl,rfl,rfl,oM,oM,oM,l,ak.refl _⟩,?_⟩;rintro h _ _ _ q ⟨n,P,rfl,rfl,rfl,v,r,s,t,c⟩;refine an.dec (λx=>?_) (λy=>?_)
 ·rw[Tg oM]
  refine⟨_,_,_,rfl,m,PC.ok (o _ q oM c) ?_⟩;rintro _ A ⟨rfl,i⟩;refine⟨_,rfl,an.not (an.dec (λj=>⟨_,?_,n,(n+P)/2,rfl,rfl,rfl,oM,oM,s,j,c.then i⟩) (λj=>⟨_,?_,(n+P)/2+1,P,aq oM,rfl,rfl,oM,r,oM,t,c.then i⟩))⟩
  ·omega
  ·omega
 ·obtain rfl:n=k:=oM
  exact Ok.mk ⟨rfl,c⟩
def sw{P:Type}(n:P->Bool):∀l:List P,l.dropWhile n=l.drop (posOf n l)
 |[]=>rfl
 |x::l=>by
  unfold posOf;rw[List.dropWhile_cons,List.takeWhile_cons]
  cases a:n x
  ·simp
  ·simpa[posOf]using sw n l
abbrev tJ(l:List dh):Prop:=l.Pairwise λa n=>a.group<n.group
def Sa{l:List dh}(b:tJ l){n:Nat}(P:l[n]? =some d7):decide (posOf (λd7=>decide (d7.group<=e)) l<=n)=decide (d7.group>e):=by
 rw[decide_eq_decide]
 induction l generalizing n with
 |nil=>simp at P
 |cons c l d=>
  obtain⟨f,g⟩:=List.pairwise_cons.1 b;unfold posOf;rw[List.takeWhile_cons]
  by_cases a:c.group<=e
  ·rw[Zy a]
   cases n with
   |zero=>
    simp at P;subst P;simp;omega
   |succ n=>
    have:=d g (by simpa using P);unfold posOf at this;simp only[if_true,Xq];omega
  ·rw[Xv a]
   simp only[Bool.false_eq_true,if_false,ZQ,Qj,true_iff]
   cases n with
   |zero=>simp at P;subst P;omega
   |succ n=>
    have:=f d7 (QZ (by simpa using P));omega
def Kw(j:Row Gh 24 w D a n l)(u:∀b,D b->b<w.heap.size)(v:n<=c)(x:tJ l)(y:n<=20000000):
  ZG 90 #[.slice a n c,XH e,XH r] w (Ok λz w'=>∃P,z= .tuple #[P,.bool (nn l e (max r 0).toNat).2]/\px Gh 135 w (nn l e (max r 0).toNat).1 P w'):=by
 have Q:=j.len;have R:=zt (λP:dh=>decide (P.group<=e)) l;refine EG (PA.mk λS o T k=>PA.mk λU g V A=>⟨_,_,_,ae (g.get k id) rfl,PC.ok (HP (k:=posOf (λP=>decide (P.group<=e)) l) y oM kR λh B W d=>?_) ?_⟩)
 ·have f:=(o.then g).then d
  obtain⟨b,C,X,E,i,-,F,rfl,-⟩:=(j.ah f).el h l[h] (Qq oM);have H:l[h]? =some l[h]:=Qq oM;refine Ak ⟨_,_,_,ae (d.get (g.get k id) id) rfl,b,C,E,oM,oM,_,by rw[Qx];exact F 0 dC,_,ae (d.get A id) rfl,λI J=>Ok.mk ⟨?_,J.af⟩⟩;rw[Sa x H]
 ·rintro _ B ⟨rfl,d⟩
  have f:=(o.then g).then d;have m:=(j.ah f).part (lo:=posOf (λP=>decide (P.group<=e)) l) (hi:=n) (cap:=c) oM (Q4 _) v;rw[Qz oM]at m;have K:Gh.k=3:=rfl;rw[K]at m;refine⟨_,rfl,_,_,_,ae (d.get (g.get k id) id) rfl,oM,oM,?_⟩;rw[Qx];refine PC.ok (Kv (most:=r) m (λb i=>by have:=u b i;have:=f.size;omega) oM) ?_;rintro _ I ⟨_,rfl,p,q,s,L,rfl,M,N,O⟩;have t:l.dropWhile (λP=>decide (P.group<=e))=l.drop (posOf (λP=>decide (P.group<=e)) l):=sw _ l;refine⟨_,_,_,_,rfl,Ok.mk ⟨.slice p q s,?_,p,q,s,L,rfl,?_,f.then N,λb i=>by have:=O b i;have:=f.size;omega⟩⟩
  ·unfold nn;rw[t]
  ·unfold nn;rw[t];exact M
end
def sv(n:dh):Value:=.agg (aY n).toArray
def M_(n:dh):gM XP 135 (aY n)=true:=kR
def Wx(n:dh):RP (dv XP 135) (.agg (aY n).toArray)=true:=kR
structure kL (w:World) (p r:Nat) (R:dd):Prop where
 at':w.heap[p]? =some (.cells #[XH R.p.aS,XH R.p.field,XH R.p.group,XH R.p.Eb,XH R.p.make,.map (some r)] 269 (0,0))
 map:bB w r (Value.int .i64) (R.rows.map λx=>(x.1,sv x.2))
 ok:∀x∈R.rows,dh.Ok x.2/\x.2.group=x.1
variable{a c:Nat}{d:ZH}{o:aj}{d6:iV}
section
variable {w w':World} {p r:Nat} {R:dd} {T:XN}
def kL.af(n:kL w p r R)(P:ak T w w')(a:¬T p)(b:¬T r):kL w' p r R:=⟨P.get n.at' a,n.map.af P b,n.ok⟩
def kL.ah(n:kL w p r R)(P:ai w w'):kL w' p r R:=n.af P id id
def Oi:ZG 106 #[.agg (nw d6).toArray] w (Ok λa w'=>∃p r,a= XL p/\kL w' p r ⟨d6,[]⟩/\w.heap.size<=p/\w.heap.size<=r/\p<w'.heap.size/\r<w'.heap.size/\ai w w'):=by
 refine JL (PA.mk λb c i n=>⟨_,_,_,_,_,ae n rfl,ae n rfl,ae n rfl,ae n rfl,ae n rfl,PA.mk λd e j f=>PA.mk λk P l g=>Ok.mk ⟨d.heap.size,b.heap.size,rfl,⟨g,bB.new (P.get f id),λd6 h=>by cases h⟩,oM,oM,oM,oM,(c.then e).then P⟩⟩)
def FH(n:iV)(a:aj)(P:Int):Option Int:=if n.group=1 then some a.agg else if n.group=2 then some a.arg else if n.group=3 then some P else none
def Kx(h:kL w p r R):ZG 244 #[XL p,jD o d a c,XH e] w (Ok λi w'=>i= .tuple #[XH ((FH R.p o e).getD 0),.bool (FH R.p o e).isSome]/\ai w w'):=by
 refine um (PA.mk λj n k g=>⟨p,0,rfl,_,ae (h.ah n).at' rfl,an.dE (λP=>⟨_,ae g rfl,Ok.mk ⟨?_,n⟩⟩) (λP=>an.dE (λb=>⟨_,ae g rfl,Ok.mk ⟨?_,n⟩⟩) (λb=>an.dE (λf=>Ok.mk ⟨?_,n⟩) (λf=>Ok.mk ⟨?_,n⟩)))⟩)
 ·unfold FH;rw[Zx P];rfl
 ·unfold FH;rw[Zq P,Zx b];rfl
 ·unfold FH;rw[Zq P,Zq b,Zx f];rfl
 ·unfold FH;rw[Zq P,Zq b,Zq f];rfl
def Nt(h:kL w p r R){arg:Int}:ZG 245 #[XL p,.agg (aY d7).toArray,XH arg] w (Ok λk w'=>k= XH (lF R.p d7 arg)/\ai w w'):=by
 refine wq (PA.mk λl a o e=>?_);have b:=(h.ah a).at';refine⟨_,ae e rfl,p,0,rfl,_,ae b rfl,an.dE (λc=>⟨_,ae e rfl,Ok.mk ⟨?_,a⟩⟩) (λc=>⟨p,0,rfl,_,ae b rfl,an.dE (λd=>⟨_,ae e rfl,Ok.mk ⟨?_,a⟩⟩) (λd=>⟨λj w'=>j=decide (R.p.make=5\/d7.count=1/\(R.p.make=3\/R.p.make=4))/\l=w',?_,?_⟩)⟩)⟩
 ·unfold lF;rw[Zx c]
 ·unfold lF;rw[Zq c,Zx d]
 ·refine⟨p,0,rfl,_,ae b rfl,an.dE (λf=>⟨?_,rfl⟩) (λf=>an.dE (λi=>⟨p,0,rfl,_,ae b rfl,an.dE (λn=>⟨?_,rfl⟩) (λn=>⟨p,0,rfl,_,ae b rfl,?_,rfl⟩)⟩) (λi=>⟨?_,rfl⟩))⟩
  ·rw[Zy (.inl f)];simpa using f
  ·rw[Zy (.inr ⟨i,.inl n⟩)]
  ·by_cases P:R.p.make=4
   ·rw[Zy (.inr ⟨i,.inr P⟩)];simpa using P
   ·rw[Xv (by rintro(h|⟨-,h|h⟩);exact f h;exact n h;exact P h)];simpa using P
  ·rw[Xv (by rintro(h|⟨h,-⟩);exact f h;exact i h)]
 ·rintro j _ _ ⟨m,rfl⟩
  subst m;refine an.dec (λg=>Ok.mk ⟨?_,a⟩) (λg=>⟨p,0,rfl,_,ae b rfl,an.dE (λn=>⟨_,ae e rfl,Ok.mk ⟨?_,a⟩⟩) (λn=>⟨p,0,rfl,_,ae b rfl,an.dE (λP=>⟨_,ae e rfl,Ok.mk ⟨?_,a⟩⟩) (λP=>Ok.mk ⟨?_,a⟩)⟩)⟩)
  ·unfold lF;rw[Zq c,Zq d,Zx g]
  ·have:(if arg<d7.value then arg else d7.value)=min d7.value arg:=by split<;>omega
   unfold lF;rw[Zq c,Zq d,Zq g,Zx n,<-this]
  ·have:(if arg>d7.value then arg else d7.value)=max d7.value arg:=by split<;>omega
   unfold lF;rw[Zq c,Zq d,Zq g,Zq n,Zx P,<-this]
  ·unfold lF;rw[Zq c,Zq d,Zq g,Zq n,Zq P]
end
def PY:lH XP 267 3 135 (sv ⟨0,0,0⟩):=⟨kR,kR⟩
def LO{P d e:Type}[BEq P](a:d->e)(b:P):∀n:List (P×d),aE (n.map λc=>(c.1,a c.2)) b=(aE n b).map a
 |[]=>rfl
 |(c,f)::n=>by
  simp only[QY];unfold aE;split
  ·rfl
  ·exact LO a b n
def LP{b c f:Type}[BEq b](P:c->f)(d:b)(e:c):∀a:List (b×c),aI (a.map λn=>(n.1,P n.2)) d (P e)=(aI a d e).map λn=>(n.1,P n.2)
 |[]=>rfl
 |(n,g)::a=>by
  simp only[QY];unfold aI;split
  ·simp
  ·simp[LP P d e a]
section
variable {w w':World} {p r:Nat} {R:dd}
def dd.add_def(r:dd)(e:cz)(P:Int):r.add e P=match FH r.p e.ev P with
  |none=>r
  |some n=>if e.void||e.ev.aS !=r.p.aS||e.ev.field !=r.p.field then r else
   {r with rows:=aI r.rows n ⟨n,lF r.p ⟨n,((aE r.rows n).getD ⟨0,0,0⟩).value,oK (((aE r.rows n).getD ⟨0,0,0⟩).count+1)⟩ e.ev.arg,oK (((aE r.rows n).getD ⟨0,0,0⟩).count+1)⟩}:=rfl
def Gk:aH 0:=by unfold aH;omega
def TW{arg:Int}(n:dh.Ok d7)(P:aH arg):aH (lF d6 d7 arg):=by
 obtain⟨b,c,a⟩:=n;unfold lF;split;exact a;split;exact Lg _;split;exact P;split
 ·unfold aH at*;omega
 split
 ·unfold aH at*;omega
 ·exact Gk
def Od(h:kL w p r R)(a1:p≠r){x:cz}(v:x.ev.Ok)(a2:aH e):ZG 185 #[XL p,Ec x d a c,XH e] w (Ok λk w'=>k= .tuple #[]/\kL w' p r (R.add x e)/\ak (·=r) w w'):=by
 have b1:=ax h.at';have b2:=h.map.lt;refine yv (PA.mk λw1 L s1 M=>TX (cs:=aC x.ev d a c) (aV _ _ _ _) M (λa3 k N=>?_) (PC.ok (Kx (h.ah L)) ?_))
 ·rw[Xz]
  have a4:=(Qv.1 N).1;show(aC x.ev d a c++_).toArray[a3]? =_;simp only[List.getElem?_toArray];rw[XW a4];exact N
 rintro _ O ⟨rfl,Q⟩;have l:=L.then Q;have m:=Q.get M id;have o:=h.ah l;have b:R.add x e=R->∀g,bF O g->Ok (λk w'=>k= .tuple #[]/\kL w' p r (R.add x e)/\ak (·=r) w w') (.returned (.tuple #[])) g:=λhe g i=>Ok.mk ⟨rfl,by rw[he];exact o.ah i.af,ai.af (l.then i.af)⟩;refine⟨_,_,rfl,an.not (an.mk (λy=>?_) (λy=>b ?_))⟩
 rotate_left
 ·rw[dd.add_def,show FH R.p x.ev e=none by simpa using y]
 obtain⟨P,f⟩:=Option.isSome_iff_exists.1 y;rw[f,Option.getD_some];have s:∀{q:dd},(if x.void||x.ev.aS !=R.p.aS||x.ev.field !=R.p.field then R else
   {R with rows:=aI R.rows P ⟨P,lF R.p ⟨P,((aE R.rows P).getD ⟨0,0,0⟩).value,oK (((aE R.rows P).getD ⟨0,0,0⟩).count+1)⟩ x.ev.arg,oK (((aE R.rows P).getD ⟨0,0,0⟩).count+1)⟩})=q->R.add x e=q:=λ{q} z=>by
  rw[dd.add_def,f];exact z
 refine⟨_,ae m rfl,an.mk (λj=>b (s (by rw[j];rfl))) (λj=>⟨_,ae m rfl,p,0,rfl,_,ae o.at' rfl,an.dF (λA=>b (s ?_)) (λA=>⟨_,ae m rfl,p,0,rfl,_,ae o.at' rfl,λg i=>?_⟩)⟩)⟩
 ·rw[j,show(x.ev.aS !=R.p.aS)=true by simpa using A];rfl
 have S:(x.ev.aS !=R.p.aS)=false:=by simpa using A
 have t:ai O g:=i.af;have u:=o.ah t;refine an.dF (λB=>b (s (by rw[j,S,show(x.ev.field !=R.p.field)=true by simpa using B];rfl)) g i) (λB=>?_);have a5:(x.ev.field !=R.p.field)=false:=by simpa using B
 have T:aH P:=by
  unfold FH at f;split at f
  ·cases f;exact v.agg
  split at f
  ·cases f;exact v.arg
  split at f
  ·cases f;exact a2
  ·cases f
 obtain⟨n,C⟩:∃n,n=(aE R.rows P).getD ⟨0,0,0⟩:=⟨_,rfl⟩
 have a6:dh.Ok n:=by
  rw[C]
  cases z:aE R.rows P with
  |none=>exact⟨Gk,Gk,Gk⟩
  |some U=>exact(h.ok _ (bT z)).1
 have a7:(aE (R.rows.map λx=>(x.1,sv x.2)) P).getD (sv ⟨0,0,0⟩)=sv n:=by
  rw[LO,C];cases aE R.rows P<;>rfl
 refine⟨p,0,rfl,_,ae u.at' rfl,yT PY jZ u.map ?_⟩;rw[a7];refine bO (Wx n) ⟨rfl,PA.mk λw4 k4 s4 g4=>az (M_ n) g4 rfl λw5 k5 s5 g5=>PS.mk g5 (by simp[aY]) λw6 k6 s6 V=>⟨_,ae V rfl,PS.mk V (by simp[aY]) λw7 k7 s7 W=>?_⟩⟩;have E:ai g w7:=((k4.new k5 λF H=>.inr oM).new k6 λF H=>.inr oM).new k7 λF H=>.inr oM;have a8:=E.get (t.get m id) id;refine ar (cs:=aY ⟨P,n.value,oK (n.count+1)⟩) (M_ _) W ⟨_,ae a8 rfl,PC.ok (Nt (u.ah E)) ?_⟩;rintro _ w8 ⟨rfl,I⟩;have z8:=I.size;refine⟨_,rfl,PS.mk (I.get W id) (by simp[aY]) λw9 k9 s9 g9=>λX a9=>?_⟩;have Y:ai w9 X:=a9.af;have Z:ai g X:=((E.then I).new k9 λF H=>.inr oM).then Y;have J:=u.ah Z;have z3:=(l.then t).size;refine⟨p,0,rfl,_,ae J.at' rfl,ar (cs:=aY ⟨P,lF R.p ⟨P,n.value,oK (n.count+1)⟩ x.ev.arg,oK (n.count+1)⟩) (M_ _) (Y.get g9 id) (cV PY jZ J.map λb3 b0 a0 b4=>Ok.mk ⟨rfl,?_,?_⟩)⟩
 ·rw[s (q:={R with rows:=aI R.rows P ⟨P,lF R.p ⟨P,n.value,oK (n.count+1)⟩ x.ev.arg,oK (n.count+1)⟩}) (by rw[j,S,a5,C];rfl)]
  refine⟨a0.get J.at' a1,?_,λU K=>?_⟩
  ·rw[<-LP];exact b0
  ·rcases eQ K with rfl|K
   ·exact⟨⟨T,TW ⟨T,a6.2.1,Lg _⟩ v.arg,Lg _⟩,rfl⟩
   ·exact h.ok U K
 ·exact(ai.af ((l.then t).then Z)).then a0
end
section
variable {w w':World} {p r:Nat} {R:dd}
def Mb(e:kL w p r R):ZG 221 #[XL p] w (Ok λf w'=>∃b d,f= XL b/\kL w' b d R/\b≠d/\w.heap.size<=b/\w.heap.size<=d/\b<w'.heap.size/\d<w'.heap.size/\ai w w'):=by
 refine wo λP h=>?_;have i:ai w P:=h.af;have t:P.heap.size=w.heap.size:=by rw[h.heap]
 have a:=e.ah i;obtain⟨c,n,k,l,m,o⟩:=a.map.at';refine⟨no,p,0,rfl,id,_,_,_,_,_,ae a.at' rfl,ae a.at' rfl,ae a.at' rfl,ae a.at' rfl,ae a.at' rfl,p,0,rfl,_,ae a.at' rfl,PC.ok (φ:=λf w'=>f= .map (some P.heap.size)/\w'=P.alloc (.map c n)) ((AnyW.maps_Clone Tryz.TY r c n P k).mono ?_) ?_⟩
 ·rintro u w' ⟨rfl,q⟩
  exact Ok.mk ⟨rfl,q⟩
 ·rintro _ v ⟨rfl,rfl⟩
  have j:ai P (P.alloc (.map c n)):=ak.alloc _ _;have x:(P.alloc (.map c n)).heap.size=P.heap.size+1:=sM
  refine⟨_,rfl,ai.af j,PA.mk λy g z s=>⟨ai.af g,Ok.mk ⟨_,P.heap.size,rfl,⟨s,⟨⟨c,n,g.get (heap_alloc_new P _) id,l,m,o⟩,e.map.tidy⟩,e.ok⟩,?_⟩⟩⟩;refine⟨oM,oM,oM,oM,oM,(i.then j).then g⟩
end
open Go.au Go.Sort
def nm{b:Type}{f:Nat}{n:b->List Value}{d:b->Prop}{hl h1}{g:World}{D:XN}:∀{P:List b} {cs:List Value},bD (flat f n d hl h1) g D P cs↔cs=P.flatMap n/\∀x∈P,d x
 |[],cs=>by simp[bD]
 |x::P,cs=>by
  constructor
  ·rintro⟨k,l,rfl,⟨rfl,h⟩,i⟩
   obtain⟨rfl,j⟩:=nm.1 i;exact⟨rfl,λc a=>by rcases Q2.1 a with rfl|a;exact h;exact j c a⟩
  ·rintro⟨rfl,e⟩
   exact⟨n x,P.flatMap n,rfl,⟨rfl,e x (QV ..)⟩,nm.2 ⟨rfl,λc a=>e c (QJ _ a)⟩⟩
section
variable {α:Type} {enc:α->List Value} {K:Nat}
def fC(a:∀P,(enc P).length=K)(n:List α):(n.flatMap enc).length=n.length*K:=by
 induction n with
 |nil=>simp
 |cons P n b=>rw[List.flatMap_cons,QX,b,a,Xq,X7];omega
def jR[Inhabited α](f:0<K)(P:∀c,(enc c).length=K){n:List α}(d:a<n.length*K):(n.flatMap enc)[a]? =(enc n[a/K]!)[a % K]? :=by
 induction n generalizing a with
 |nil=>simp at d
 |cons c n g=>
  rw[List.flatMap_cons]
  by_cases b:a<K
  ·rw[XW (by rw[P];exact b),Nat.div_eq_of_lt b,Nat.mod_eq_of_lt b];rfl
  ·rw[Xq,X7]at d
   rw[X8 (by rw[P];omega),P,g oM];obtain⟨e,rfl⟩:∃e,a=e+K:=⟨a-K,oM⟩
   rw[Nat.add_sub_cancel,Nat.add_div_right _ f,Nat.add_mod_right];simp
def xK[Inhabited α](c:0<K)(b:∀f,(enc f).length=K)(n:List α):(flatK enc K n.toArray).toList=n.flatMap enc:=by
 apply X3;intro P
 by_cases a:P<n.length*K
 ·rw[jR c b a]
  have g:P<(flatK enc K n.toArray).size:=by simpa using a
  have d:=get_flatK enc K n.toArray P (by simpa using a);rw[getElem!_pos _ P g]at d;have e:P % K<(enc n[P/K]!).length:=by rw[b];exact Nat.mod_lt _ c
  rw[Qq (by simpa using a),Qq e]
  congr 1
  rw[Array.getElem_toList,d];rw[getElem!_pos _ _ (by simpa using e)]
  congr 1
  simp
 ·rw[Q7 (by simpa using a),Q7 (by rw[fC b];omega)]
end
instance:Inhabited dh:=⟨⟨0,0,0⟩⟩
def Uf(P:dh):∀a∈aY P,a.oneCell'=true:=by
 intro b n;simp only[aY,Q2,List.not_mem_nil,or_false]at n;rcases n with rfl|rfl|rfl<;>rfl
def oC(n:dh):(aY n).length=3:=rfl
def BG(n P:dh):Int:=if n.group<P.group then-1 else 1
def y_(n P:dh):ltOf BG n P=decide (n.group<P.group):=by
 unfold ltOf BG
 by_cases a:n.group<P.group<;>simp[a]
def Vq:SWO (ltOf BG) where
 irrefl x:=by rw[y_];simp
 trans x y z h1 h2:=by rw[y_]at*;simp at*;omega
 ntrans x y z h1 h2:=by rw[y_]at*;simp at*;omega
variable{f9:List dh}{f:XN}{b:World}
def Ug{a c:dh}:ZG 407 #[.agg (aY a).toArray,.agg (aY c).toArray] b (Ok λe f=>e= XH (BG a c)/\G b f):=by
 refine tm (PA.Vo λi d j g=>PA.Vo λk n l h=>⟨_,ae ((n.af (S:=λ_=>False)).get g id) rfl,_,ae h rfl,an.dec (λP=>Ok.mk ⟨?_,d.then n⟩) (λP=>Ok.mk ⟨?_,d.then n⟩)⟩)
 ·unfold BG;rw[Zx P]
 ·unfold BG;rw[Zq P]
def Nr(k:aO Gh 135 f b d a c f9)(B:f9.length<=20000000):
  ZG 406 #[.slice d a c,.func (.func 407) #[] #[]] b (Ok λL r=>L= .tuple #[]/\∃C:List dh,C.Perm f9/\(C.Pairwise λs M=>¬M.group<s.group)/\aO Gh 135 f r d a c C/\ak (λt=>aF d=some t) b r):=by
 obtain⟨cs,D,x,Y,Z⟩:=k.body;obtain⟨rfl,N⟩:=nm.1 Y;obtain⟨n,y⟩:∃n,n=f9:=⟨f9,rfl⟩
 rw[<-y]at x N;have E:=k.len dC;have u:n.length=a:=by rw[E,<-y]
 rcases x.cases with⟨rfl,rfl,rfl,h0⟩|⟨g,h,rfl,v,O,F,Q⟩
 ·have hd:n=[]:=QW u
  refine(AnyF.slices_SortFunc_none Tryz.Tc none 0 _ b).mono ?_;rintro z r ⟨rfl,rfl⟩;exact Ok.mk ⟨rfl,f9,List.Perm.refl _,by rw[<-y,hd];exact List.Pairwise.nil,k,ak.refl _⟩
 ·have R:Gh.k=3:=rfl
  rw[R]at Q F;have a5:flatK aY 3 n.toArray=(n.flatMap aY).toArray:=by rw[<-xK (show 0<3 by decide) oC]
  have hH:HoldsK aY 3 b g 0 n.toArray:=by
   intro i m;rw[size_flatK]at m;simp only[List.size_toArray]at m;have S:i<(n.flatMap aY).length:=by rw[fC oC];exact m
   refine⟨?_,by simp[World.frozen?,v]⟩;have o:(flatK aY 3 n.toArray)[i]! =(n.flatMap aY)[i]:=by
    rw[a5,getElem!_pos _ i (by simpa using S)];simp
   rw[o,Xz];refine ae v ?_;have j:(h.toList.take (a*3))[i]? =some (n.flatMap aY)[i]:=by rw[Q];exact Qq S
   rw[Xw,Zx oM]at j;simpa using j
  have B:=x.row;have H:c<=maxLen:=by
   obtain⟨_,a0,_,T,_,_,_,H,_⟩:=x.row.2.resolve_left (by rintro⟨k,_⟩;cases k);simp only[XX]at T;rw[T.2.2];exact H
  have a6:n.toArray.size<4611686018427387904:=by
   simp only[List.size_toArray,u];omega
  have U:=AnyQ.slices_SortFunc Tryz.Tc 3 (λb=>cI _ _ _ kR ⟨_,Tryz.underlying135⟩ b) (λb=>Tryz.sizeOf135 b) aY (λ_=>rfl) Uf (BG) Vq 407 #[] g 0 c n.toArray b
   (enters_of Tryz.func407 kR rfl) (λa9 p dk b0 s M=>(Ug).mono ?_) hH (ax v) a6
  ·rw[show n.toArray.size=a by simpa using u]at U
   refine U.mono ?_;rintro z r ⟨rfl,e,w,p,hp,hs,rfl⟩;obtain⟨p1,p2,V⟩:=hp;have P:e.size=a:=p1.trans (by simpa using u);have W:e.toList.Perm n:=by
    have o:e.extract 0 a=e:=by rw[<-P];exact Array.extract_size
    have j:n.toArray.extract 0 a=n.toArray:=by rw[show a=n.toArray.size by simpa using u.symm];exact Array.extract_size
    rw[o,j]at V;exact V
   have a2:flatK aY 3 e=(e.toList.flatMap aY).toArray:=by rw[<-xK (show 0<3 by decide) oC]
   have I:(sortWorldK aY 3 b g 0 w e p).heap[g]? =some (.cells (putCells id 0 (flatK aY 3 e) h) 135 (0,0)):=by
    have a7:=ax v;show((Sort.ahead b w).heap.modify g _++p)[g]? =_;rw[Array.getElem?_append_left (by simpa[Sort.ahead]using a7),Array.getElem?_modify,Zx rfl];show Option.map _ b.heap[g]? =_;rw[v];rfl
   have A:ak (λt=>aF (XM g)=some t) b (sortWorldK aY 3 b g 0 w e p):=by
    refine⟨rfl,rfl,rfl,?_,λa1 A E=>?_⟩
    ·show b.heap.size<=((Sort.ahead b w).heap.modify g _++p).size
     simp[Sort.ahead]
    ·show((Sort.ahead b w).heap.modify g _++p)[a1]? =_
     rw[Array.getElem?_append_left (by simpa[Sort.ahead]using A),Array.getElem?_modify,Zq (λz=>E (by rw[z];rfl))]
     rfl
   have a3:(putCells id 0 (flatK aY 3 e) h).size=c*3:=by unfold putCells;rw[Array.size_mapIdx];exact F
   refine Ok.mk ⟨rfl,e.toList,by rw[<-y];exact W,?_,⟨⟨e.toList.flatMap aY,D,⟨⟨?_,.inr ⟨g,c,_,rfl,Qj _,I,O,H,a3,?_⟩⟩⟩,nm.2 ⟨rfl,λs hx=>?_⟩,Z⟩,k.self,λt B=>Qk (k.aB t B) A.size⟩,A⟩
   ·rw[List.pairwise_iff_getElem]
    intro X i hi m a8;have o:=hs X i (Qj _) a8 (by simpa[P]using m);rw[y_,getElem!_pos _ i (by simpa using m),getElem!_pos _ X (by simpa using hi)]at o;simpa using o
   ·rw[fC oC,XK,P];rfl
   ·apply X3
    intro q;rw[R,Xw];split
    ·rename_i l
     rw[jR (show 0<3 by decide) oC (by rw[XK,P];exact l),<-jR (show 0<3 by decide) oC (by rw[XK,P];exact l)];unfold putCells;have a4:q<h.size:=by rw[F];exact Qk l (Q0 _ O)
     rw[Array.getElem?_toList,Array.getElem?_mapIdx,X6 a4];simp only[Option.map_some];have J:q<(flatK aY 3 e).size:=by rw[size_flatK,P];exact l
     rw[Zx ⟨Qj _,by rw[Xz];exact J⟩,Nat.sub_zero,getElem!_pos _ q J];have:(flatK aY 3 e)[q]=(e.toList.flatMap aY)[q]'(by rw[fC oC,XK,P];exact l):=by
      have j:=Zj (·[q]?) a2;simp only[List.getElem?_toArray]at j;rw[X6 J,Qq (by rw[fC oC,XK,P];exact l)]at j;exact XJ j
     rw[this];exact(Qq _).symm
    ·rename_i l
     rw[Q7 (by rw[fC oC,XK,P];omega)]
   ·have K:s∈n:=W.mem_iff.1 hx
    exact N s K
  ·rintro z r ⟨L,rfl,rfl,hG⟩
   exact⟨rfl,hG⟩
end
end Go.Proofs.YtjgjkeponbeekaaGreatDoor
namespace Go.au
open Go
structure aT (w:World) (F:XN) (cls:Nat->Nat) (C:Nat->World->(XN)->Prop):Prop where
 at':∀k,C k w (λb=>F b/\cls b=k)
 aB:∀b,F b->b<w.heap.size
def ll(n:Nat->World->(XN)->Prop):Prop:=∀P a b G c,n P a G->ak c a b->(∀d,G d->¬c d)->n P b G
section
variable {w w':World} {F T:XN} {cls:Nat->Nat} {C C2:Nat->World->(XN)->Prop}
def aT.af(a:aT w F cls C)(d:ll C)(b:ak T w w')(e:∀n,F n->¬T n):aT w' F cls C:=
 ⟨λc=>d c w w' _ T (a.at' c) b λn P=>e n P.1,λn P=>Qk (a.aB n P) b.size⟩
def aT.ah(n:aT w F cls C)(P:ll C)(a:ai w w'):aT w' F cls C:=n.af P a λ_ _ n=>n
def aT.Gp(g:aT w F cls C)(l:ll C){k:Nat}{G':XN}(f:ak (λn=>F n/\cls n=k) w w')(m:∀n,G' n->F n->cls n=k)(o:∀n,G' n->n<w'.heap.size)(p:C2 k w' G')(q:∀a G,a≠k->C a w' G->C2 a w' G):∃e b,aT w' e b C2/\ak F w w'/\(∀n,e n->((F n/\cls n≠k)\/G' n))/\(∀a,a≠k->(λn=>e n/\b n=a)=λn=>F n/\cls n=a)/\(λn=>e n/\b n=k)=G':=by
 classical
 have h:∀a,a≠k->(λn=>((F n/\cls n≠k)\/G' n)/\(if G' n then k else cls n)=a)=λn=>F n/\cls n=a:=λa d=>by
  funext n
  refine propext ⟨λP=>?_,λP=>?_⟩
  ·by_cases c:G' n
   ·rw[Zx c]at P;exact Zz P.2.symm d
   ·rw[Zq c]at P
    exact⟨(P.1.resolve_right c).1,P.2⟩
  ·have i:cls n≠k:=λr=>d (P.2.symm.trans r)
   rw[Zq λc=>i (m n c P.1)];exact⟨.inl ⟨P.1,i⟩,P.2⟩
 have j:(λn=>((F n/\cls n≠k)\/G' n)/\(if G' n then k else cls n)=k)=G':=by
  funext n
  refine propext ⟨λP=>?_,λP=>⟨.inr P,Zx P⟩⟩
  by_cases c:G' n
  ·exact c
  ·rw[Zq c]at P;exact Zz P.2 (P.1.resolve_right c).2
 refine⟨λn=>(F n/\cls n≠k)\/G' n,λn=>if G' n then k else cls n,⟨λa=>?_,λn P=>?_⟩,f.mono λn _ P=>P.1,λn P=>P,h,j⟩
 ·by_cases d:a=k
  ·subst d
   rw[j];exact p
  ·rw[h a d]
   refine q a _ d (l a w w' _ _ (g.at' a) f λn P s=>d (P.2.symm.trans s.2))
 ·rcases P with P|P
  ·exact Qk (g.aB n P.1) f.size
  ·exact o n P
def aT.eg(c:aT w F cls C)(h:ll C){k:Nat}{G':XN}(i:ak (λn=>F n/\cls n=k) w w')(e:∀n,G' n->(F n/\cls n=k)\/w.heap.size<=n)(j:∀n,G' n->n<w'.heap.size)(d:C2 k w' G')(l:∀a G,a≠k->C a w' G->C2 a w' G):∃b P,aT w' b P C2/\bL F w b w'/\(∀n,b n->((F n/\cls n≠k)\/G' n))/\(∀a,a≠k->(λn=>b n/\P n=a)=λn=>F n/\cls n=a)/\(λn=>b n/\P n=k)=G':=by
 obtain⟨b,P,f,d,g,m⟩:=c.Gp h i (λn o p=>(e n o).elim (·.2) λf=>by have:=c.aB n p;omega) j d l;exact⟨b,P,f,⟨d,λn q=>(g n q).elim (λc=>.inl c.1) λc=>(e n c).imp (·.1) id⟩,g,m⟩
def aT.same(c:aT w F cls C)(e:ll C){k:Nat}(d:ak (λn=>F n/\cls n=k) w w')(f:C2 k w' (λn=>F n/\cls n=k))(g:∀P G,P≠k->C P w' G->C2 P w' G):aT w' F cls C2:=
 ⟨λP=>by
  by_cases a:P=k
  ·subst a;exact f
  ·exact g P _ a (e P w w' _ _ (c.at' P) d λn b h=>a (b.2.symm.trans h.2)),λn b=>Qk (c.aB n b) d.size⟩
def aT.gC(d:aT w F cls C)(e:ll C){k:Nat}{G':XN}(c:bL (λn=>F n/\cls n=k) w G' w')(f:∀n,G' n->n<w'.heap.size)(g:C2 k w' G')(h:∀a G,a≠k->C a w' G->C2 a w' G):∃b P,aT w' b P C2/\bL F w b w'/\(∀n,b n->((F n/\cls n≠k)\/G' n))/\(∀a,a≠k->(λn=>b n/\P n=a)=λn=>F n/\cls n=a)/\(λn=>b n/\P n=k)=G':=d.eg e c.1 c.2 f g h
def aT.join{G:Nat->XN}(a:∀n,C n w (G n))(g:∀d e P,G d P->G e P->d=e)(h:∀n P,G n P->P<w.heap.size):∃cls,aT w (λP=>∃n,G n P) cls C:=by
 classical
 refine⟨λP=>if a:∃n,G n P then a.choose else 0,⟨λn=>?_,λP ⟨n,b⟩=>h n P b⟩⟩;have:(λP=>(∃n,G n P)/\(if a:∃n,G n P then a.choose else 0)=n)=G n:=by
  funext P
  refine propext ⟨λ⟨c,f⟩=>?_,λb=>⟨⟨n,b⟩,?_⟩⟩
  ·rw[dif_pos c]at f;exact f▸c.choose_spec
  ·have c:∃n,G n P:=⟨n,b⟩
   rw[dif_pos c];exact g _ _ P c.choose_spec b
 rw[this];exact a n
end
end Go.au
namespace Go.Proofs.YtjgjkeponbeekaaGreatDoor
open Go.au
def Vd:jt Nat:=flat 1 (λP=>[XL P]) (λ_=>True) (λ_=>rfl) (λa b n=>by simp at n;subst n;rfl)
def Oa:jF XP 197 205 1 8:=⟨kR,kR,dC⟩
structure cd (w:World) (G:XN) (a:ZH) (n c:Nat) (Rs:List dd):Prop where
 body:∃ps:List (Nat×Nat),ps.length=Rs.length/\aO Vd 205 (λb=>aF a=some b) w a n c (ps.map (·.1))/\
  (∀(i j:Nat) (x y:Nat×Nat),ps[i]? =some x->ps[j]? =some y->x.1≠y.2/\(x.2=y.2->i=j))/\(∀x∈ps,G x.1/\G x.2/\aF a≠some x.1/\aF a≠some x.2)/\
  ∀(i:Nat) (x:Nat×Nat) (R:dd),ps[i]? =some x->Rs[i]? =some R->kL w x.1 x.2 R
 self:∀b,aF a=some b->G b
variable{C:Nat×Nat}{h:Program}{g q:TypeId}{m s:XR}
section
variable {w w':World} {G G' T:XN} {a:ZH} {n c:Nat} {Rs:List dd}
def cd.af(b:cd w G a n c Rs)(h:ak T w w')(d:∀P,G P->¬T P):cd w' G a n c Rs:=by
 obtain⟨i,j,k,l,e,m⟩:=b.body;exact⟨⟨i,j,k.af h λP o=>d P (b.self P o),l,e,λp f q g r=>(m p f q g r).af h (d _ (e f (QZ g)).1) (d _ (e f (QZ g)).2.1)⟩,b.self⟩
def cd.ah(P:cd w G a n c Rs)(b:ai w w'):cd w' G a n c Rs:=P.af b λ_ _ P=>P
def cd.mono(g:cd w G a n c Rs)(b:∀P,G P->G' P):cd w G' a n c Rs:=by
 obtain⟨h,i,j,k,d,l⟩:=g.body;exact⟨⟨h,i,j,k,λe f=>⟨b _ (d e f).1,b _ (d e f).2.1,(d e f).2.2⟩,l⟩,λP m=>b P (g.self P m)⟩
def cd.len(P:cd w G a n c Rs):n=Rs.length:=by
 obtain⟨e,b,d,-⟩:=P.body;rw[d.len dC,Q8,b]
def cd.nil(w:World):cd w (λ_=>False) none 0 0 []:=⟨⟨[],rfl,(aO.nil w).mono (λP n=>n.elim) (λP n=>by cases n),sM,sM,sM⟩,λP n=>by cases n⟩
def cd.elem(m:cd w G a n c Rs){P:Nat}{o:dd}(u:Rs[P]? =some o):∃f e g,a=XM f/\w.cell? ⟨f,0+P,none⟩=some (XL e)/\kL w e g o/\e≠g/\G e/\G g/\G f/\
  ∀w' p,ak (·=g) w w'->kL w' e g p->cd w' G a n c (Rs.set P p):=by
 obtain⟨h,B,v,j,x,y⟩:=m.body;have L:=(Qv.1 u).1;have b:h[P]? =some h[P]:=Qq oM;generalize h[P]=d at b;obtain⟨cs,D,C,E,M⟩:=v.body;have q:=x d (QZ b);obtain⟨rfl,-⟩:=nm.1 E;have F:((h.map (·.1)).flatMap λe=>[Value.pointer (XM e)])[P]? =some (XL d.1):=by
  rw[jR (K:=1) dC (λ_=>rfl) be,Nat.div_one,Nat.mod_one,getElem!_pos _ P be];simp[(Qv.1 b).2]
 obtain⟨f,z,H⟩:=C.cell F;refine⟨f,d.1,d.2,z,by rw[Xz];exact H.2,y P d o b u,(j P P d d b b).1,q.1,q.2.1,m.self f (by rw[z];rfl),λw' p A I=>⟨⟨h,by simpa using B,v.af A λN J r=>q.2.2.2 (r▸J),j,x,λk s K i l=>?_⟩,m.self⟩⟩
 by_cases t:P=k
 ·subst t
  rw[b]at i;cases i
  rw[List.getElem?_set_self oM]at l;cases l
  exact I
 ·rw[List.getElem?_set_ne t]at l
  exact(y k s K i l).af A (j k P s d i b).1 λr=>t ((j P k d s b i).2 r.symm)
def cd.push(r:cd w G a n c Rs)(I:∀P,G P->P<w.heap.size){e f M:Nat}{N:dd}(J:kL w e f N)(Q:¬G e)(v:¬G f)(X:e≠f)(Y:jF h g 205 1 8)(Z:w.heap[M]? =some (.cells #[XL e] 205 C))(b:Rs.length<=1000)(K:∀k y w' G',cd w' G' k (n+1) y (Rs++[N])->ak G w w'->(∀P,G' P->G P\/P=e\/P=f\/w.heap.size<=P)->(∀P,G' P->P<w'.heap.size)->m (.slice k (n+1) y) w'):
  aG h (Builtin.append_ #[g,g] q #[.slice a n c,.slice (XM M) 1 1]) w m s:=by
 obtain⟨l,o,L,h3,z,h5⟩:=r.body;have a1:e<w.heap.size:=ax J.at';have a2:f<w.heap.size:=J.map.lt;refine eY L Y Z (D:=λ_=>False) (x:=e) ⟨rfl,trivial⟩ (λP b=>b.elim) (by unfold aK;simp;omega) (by unfold maxLen;simp;omega) λk y w' F' R A hF=>?_;have a0:∀P,aF k=some P->aF a=some P\/w.heap.size<=P:=λP b=>(hF P (R.self P b)).imp id λr=>r.resolve_left id;have t:=R.alone;have a5:=A.size;have S:∀P,aF k=some P->aF a=some P\/w.heap.size<=P:=a0;have F:∀P,P<w.heap.size->aF a≠some P->aF k≠some P:=λP b o L=>(S P L).elim o oM;have T:aF a≠some e:=λj=>Q (r.self e j);have U:aF a≠some f:=λj=>v (r.self f j);refine K k y w' (λP=>(G P\/P=e\/P=f\/aF k=some P)) ⟨⟨l++[(e,f)],by simp[o],by rw[Q3];exact t,λi V x u B H=>?_,λx B=>?_,λi x a3 B p=>?_⟩,λP b=>.inr (.inr (.inr b))⟩ (A.mono λP _ b=>r.self P b) (λP b=>?_) λP b=>?_
 ·have E:∀i x,(l++[(e,f)])[i]? =some x->(l[i]? =some x)\/(i=l.length/\x=(e,f)):=λi x B=>by
   rw[List.getElem?_append]at B;split at B
   ·exact .inl B
   ·rename_i W
    have:i-l.length=0:=by
     rcases Nat.eq_zero_or_pos (i-l.length)with O|O
     ·exact O
     ·rw[Q7 be]at B;cases B
    rw[this]at B;simp at B;exact .inr ⟨oM,B.symm⟩
  rcases E i x B with B|⟨rfl,rfl⟩<;>rcases E V u H with H|⟨rfl,rfl⟩
  ·exact h3 i V x u B H
  ·have d:=z x (QZ B)
   exact⟨λj=>v ((show x.1=f from j)▸d.1),λj=>Zz ((show x.2=f from j)▸d.2.1) v⟩
  ·have d:=z u (QZ H)
   exact⟨λj=>Q ((show e=u.2 from j)▸d.2.1),λj=>Zz ((show f=u.2 from j)▸d.2.1) v⟩
  ·exact⟨X,λ_=>rfl⟩
 ·rcases Q6.1 B with B|B
  ·have d:=z x B
   exact⟨.inl d.1,.inl d.2.1,F _ (I _ d.1) d.2.2.1,F _ (I _ d.2.1) d.2.2.2⟩
  ·simp at B;subst B
   exact⟨.inr (.inl rfl),.inr (.inr (.inl rfl)),F _ a1 T,F _ a2 U⟩
 ·rw[List.getElem?_append]at B p
  rw[<-o]at p;split at B
  ·rename_i a4
   rw[Zx a4]at p;have d:=z x (QZ B);exact(h5 i x a3 B p).af A d.2.2.1 d.2.2.2
  ·rename_i W
   rw[Zq W]at p;have:i-l.length=0:=by
    rcases Nat.eq_zero_or_pos (i-l.length)with O|O
    ·exact O
    ·rw[Q7 be]at B;cases B
   rw[this]at B p;simp at B p;subst B p;exact J.af A T U
 ·rcases b with b|b|b|b
  ·exact .inl b
  ·exact .inr (.inl b)
  ·exact .inr (.inr (.inl b))
  ·rcases S P b with o|o
   ·exact .inl (r.self P o)
   ·exact .inr (.inr (.inr o))
 ·rcases b with b|b|b|b
  ·have:=I P b;omega
  ·omega
  ·omega
  ·exact t.aB P b
def WD:jt (List dd) where
 k:=2
 rep:=λw D Rs cs=>∃P a n c,cs=[.pointer P,.slice a n c]/\cd w D a n c Rs
 af:=λ⟨P,a,n,c,b,d⟩ g e=>⟨P,a,n,c,b,d.af g e⟩
 mono:=λ⟨P,a,n,c,b,d⟩ e=>⟨P,a,n,c,b,d.mono e⟩
 len:=λ⟨P,a,n,c,b,d⟩=>by rw[b];rfl
 one:=λ⟨P,a,n,c,b,d⟩ h f=>by
  rw[b]at f;simp only[Q2,List.not_mem_nil,or_false]at f;rcases f with rfl|rfl<;>rfl
def Ur:jF XP 200 199 2 32:=⟨kR,kR,dC⟩
end
def IM(n:aM)(P:List aj)(a:aj):dG n (P++[a])=(dG n P).add a:=by unfold dG;rw[List.foldl_append];rfl
def IP(n:aM)(P:List aj)(a:aj):cm n (P++[a])=((cm n P).add a).2:=by unfold cm;rw[List.foldl_append];rfl
def IN(a:aM)(n:List aj):(dG a n).view=cm a n:=by
 have:∀(n:List aj) (P:jE),(n.foldl jE.add P).view=n.foldl (λc b=>(c.add b).2) P.view:=by
  intro n
  induction n with
  |nil=>intro P;rfl
  |cons b n d=>intro P;rw[List.foldl_cons,List.foldl_cons,d];rfl
 exact this n _
variable{l:Array Value}{A:XT}{e:Int}{J:List aj}{g0:List dd}{a c:Nat}{d:ZH}{b:World}{R:aM}{d1:aU}{o:aj}{d6:iV}
def Gt(c:cN R=0)(P:List aj):(cm R P).OK/\(cm R P).decl=R:=by
 have:∀(P:List aj) (n:aU),n.OK->(P.foldl (λn a=>(n.add a).2) n).OK/\(P.foldl (λn a=>(n.add a).2) n).decl=n.decl:=by
  intro P
  induction P with
  |nil=>intro n b;exact⟨b,rfl⟩
  |cons a P d=>
   intro n b;obtain⟨e,f⟩:=aU.zo b a;obtain⟨g,h⟩:=d _ e;exact⟨g,h.trans f⟩
 exact this P _ (aU.sE c)
def dd.Ut(P:dd)(a:cz)(n:Int):(P.add a n).p=P.p:=by
 unfold dd.add;dsimp only;split
 ·rfl
 ·split<;>rfl
def Gn(c:aM)(n:List aj):(dG c n).rows.map (·.p)=c.projs:=by
 have:∀(n:List aj) (P:jE),(n.foldl jE.add P).rows.map (·.p)=P.rows.map (·.p):=by
  intro n
  induction n with
  |nil=>intro P;rfl
  |cons a n d=>
   intro P;rw[List.foldl_cons,d];show((P.rows.map λb=>b.add (P.view.add a).1 (rU ((P.view.add a).2.state a.aS a.agg) b.p)).map (·.p))=_;rw[List.map_map];exact List.map_congr_left λb _=>b.Ut _ _
 refine(this n _).trans ?_;show(c.projs.map λe=>(⟨e,[]⟩:dd)).map (·.p)=_;rw[List.map_map];exact List.map_id _
def pk(n:aM)(P:List aj):(dG n P).rows.length=n.projs.length:=by
 rw[<-Gn n P,Q8]
def jL(a:aM)(n:Nat)(P:List aj):List (List dd):=(List.range (P.length/n+1)).map λb=>(dG a (P.take (b*n))).rows
section
variable {d:aM} {every:Nat} {l:List aj}
def zj:(jL d every l).length=l.length/every+1:=by simp[jL]
def Of(n:a<=l.length/every):(jL d every l)[a]? =some (dG d (l.take (a*every))).rows:=by
 unfold jL;rw[Q9,List.getElem?_range oM];rfl
def Oj:jL d every []=[(dG d []).rows]:=by
 unfold jL;rw[ZQ,Nat.zero_div];simp
def Mc(c:0<every)(e:aj):jL d every (l++[e])=if l.length+1=(l.length/every+1)*every then jL d every l++[(dG d (l++[e])).rows]else jL d every l:=by
 have g:=Nat.div_add_mod l.length every;have h:=Nat.mod_lt l.length c;have P:∀n,n<=l.length/every->(l++[e]).take (n*every)=l.take (n*every):=λn a=>by
  have:n*every<=l.length:=Xx (Q0 _ a) (Nat.div_mul_le_self ..);rw[List.take_append_of_le_length this]
 split
 ·rename_i b
  have f:(l.length+1)/every=l.length/every+1:=by rw[b];exact Nat.mul_div_cancel _ c
  unfold jL;rw[QX,List.length_singleton,f,List.range_succ,Q3]
  congr 1
  ·refine List.map_congr_left λn a=>?_
   rw[P n (by have:=List.mem_range.1 a;omega)]
  ·rw[List.map_singleton,<-b,Qz sM]
 ·rename_i b
  have f:(l.length+1)/every=l.length/every:=by
   have i:(l.length+1)/every<l.length/every+1:=by
    rw[Nat.div_lt_iff_lt_mul c];rw[X7,Nat.one_mul,Nat.mul_comm]at b⊢;omega
   have j:l.length/every<=(l.length+1)/every:=Nat.div_le_div_right oM;omega
  unfold jL;rw[QX,List.length_singleton,f];refine List.map_congr_left λn a=>?_;rw[P n (by have:=List.mem_range.1 a;omega)]
def Mf(P:0<every)(b:a<=l.length/every):(jL d every l).take (a+1)=jL d every (l.take (a*every)):=by
 have c:a*every<=l.length:=Xx (Q0 _ b) (Nat.div_mul_le_self ..);unfold jL;rw[Qy,X2 c,Nat.mul_div_cancel _ P,<-List.map_take,List.take_range,X2 oM];refine List.map_congr_left λe f=>?_;have n:e<=a:=by have:=List.mem_range.1 f;omega
 rw[List.take_take,X2 (Q0 _ n)]
end
structure vz where
 ta:ZH
 tn:Nat
 tc:Nat
 pa:ZH
 pn:Nat
 pc:Nat
 every:Nat
 ea:ZH
 en:Nat
 ec:Nat
 vp:Nat
 ra:ZH
 rn:Nat
 rc:Nat
 qa:ZH
 qn:Nat
 qc:Nat
abbrev vz.cells(n:vz):Array Value:= #[.slice n.ta n.tn n.tc,.slice n.pa n.pn n.pc,XH (n.every:Int),.slice n.ea n.en n.ec,XL n.vp,.slice n.ra n.rn n.rc,.slice n.qa n.qn n.qc]
def zh(b:Nat)(c:Array Value)(n:vz)(d:aM)(e:aU)(f:List dd)(g:List aj)(a:List (List dd)):Nat->World->(XN)->Prop
 |0=>λP G=>G b/\P.heap[b]? =some (.cells c 202 (0,0))
 |1=>λP G=>bb P G d n.ta n.tn n.pa n.pn
 |2=>λP G=>aO jo 63 G P n.ea n.en n.ec g
 |3=>λP G=>b_ P n.vp G e
 |4=>λP G=>cd P G n.ra n.rn n.rc f
 |5=>λP G=>aO WD 199 G P n.qa n.qn n.qc a
 |_=>λ_ _=>True
def df{d:vz}{c:List (List dd)}:ll (zh a l d R d1 g0 J c):=by
 intro k e w' G f n P b
 match k,n with
 |0,n=>exact⟨n.1,P.get n.2 (b a n.1)⟩
 |1,n=>exact bb.af n P b
 |2,n=>exact aO.af n P b
 |3,n=>exact b_.af n P b
 |4,n=>exact cd.af n P b
 |5,n=>exact aO.af n P b
 |k+6,n=>trivial
abbrev dB(b:World)(c:XN)(n:Nat->Nat)(d:Nat)(a:vz)(e:aM)(f:aU)(g:List dd)(h:List aj)(P:List (List dd)):Prop:=aT b c n (zh d a.cells a e f g h P)
section
variable {w w':World} {p:Nat} {F T D:XN} {cls:Nat->Nat} {q:vz} {d:aM} {V:aU} {Rs:List dd} {l:List aj} {pts:List (List dd)}
def dB.ah(n:dB w F cls p q d V Rs l pts)(P:ai w w'):dB w' F cls p q d V Rs l pts:=aT.ah n df P
def dB.bg(n:dB w F cls p q d V Rs l pts):w.heap[p]? =some (.cells q.cells 202 (0,0)):=(n.at' 0).2
def dB.self(n:dB w F cls p q d V Rs l pts):F p/\cls p=0:=(n.at' 0).1
def CG(s:dB w F cls p q d V Rs l pts)(hd:cN d=0)(hT:eD w)(hl:l.length<=20000000){vp:ZH}{y:ZH}(hr:cd w D y a c g0)(hD:∀n,D n->n<w.heap.size)(hn:g0.length<=8):
  ZG 159 #[XL p,.agg #[.pointer vp,.slice y a c]] w (Ok λT w'=>∃g y a c e G,T= .agg #[XL g,.slice y a c]/\b_ w' g e (cm d l)/\cd w' G y a c g0/\(∀n,e n->w.heap.size<=n)/\(∀n,G n->w.heap.size<=n/\n<w'.heap.size/\¬e n)/\ai w w'):=by
 have U:=s.aB;have g7:=hr.len;refine sA (PA.mk λt k5 s5 g5=>PA.mk λz k6 s6 g6=>?_);have A:=k5.then k6;have c1:∀{i:World},ai w i->Row jo 96 i (λn=>F n/\cls n=2) q.ea q.en l:=λ{i} u=>((show aO jo 63 (λn=>F n/\cls n=2) w q.ea q.en q.ec l from s.at' 2).ah u).row dC ba;have m:∀{i:World},ai w i->ZG 79 #[.agg #[.slice q.ta q.tn q.tc,.slice q.pa q.pn q.pc],.slice q.ea q.en q.ec] i (Ok λT w'=>∃p F,T= XL p/\b_ w' p F (cm d l)/\(∀n,F n->i.heap.size<=n)/\ai i w'):=λ{i} u=>
  Gi hd (hT.ah u) (show bb i (λn=>F n/\cls n=1) d q.ta q.tn q.pa q.pn from bb.af (s.at' 1) u λ_ _ s=>s) (λn P=>by have:=U n P.1;have:=u.size;omega) (c1 u) (λn P=>by have:=U n P.1;have:=u.size;omega) hl
 refine⟨λh oo w'=>oo=0/\∃g e,w'.heap[h]? =some (.cells #[XL g,.slice none 0 0] 199 (0,0))/\b_ w' g e (cm d l)/\(∀n,e n->z.heap.size<=n)/\¬e h/\z.heap.size<=h/\ai z w',?_,?_⟩
 ·intro o d9
  have v:ai z o:=d9.af;have s9:o.heap.size=z.heap.size:=by rw[d9.heap]
  have W:=(s.ah (A.then v)).bg;have zp:=U p s.self.1;have nS:¬o.heap.size<=p:=by have:=(A.then v).size;omega
  refine⟨λn=>o.heap.size<=n,p,0,rfl,nS,_,_,_,_,_,_,ae W rfl,ae W rfl,p,0,rfl,nS,_,_,_,ae W rfl,PC.ok (m (A.then v)) ?_,PA.mk λg8 X g9 d3=>⟨ai.af X,PC.ok (m ((A.then v).then X)) ?_⟩⟩
  ·rintro _ J ⟨g,e,rfl,r,B,Y⟩
   refine⟨_,rfl,ai.af Y,PA.mk λd4 Z h0 d5=>⟨ai.af Z,PS.mk d5 sM λh2 d6 h3 d7=>PS.mk d7 sM λd8 e0 h4 e1=>?_⟩⟩;have C:=r.aB;have h5:=Y.size;have f:ak (λn=>n=J.heap.size) d4 d8:=d6.then e0;refine⟨f.mono λn _ b=>by have b:n=J.heap.size:=b;omega,rfl,g,e,e1,(r.ah Z).af f λn P b=>by have b:n=J.heap.size:=b;have:=C n P;omega,λn P=>by have:=B n P;omega,λP=>by have:=C _ P;omega,oM,((v.then Y).then Z).new f λn P=>.inr (by have P:n=J.heap.size:=P;omega)⟩
  ·rintro _ e2 ⟨g,e,rfl,r,B,K⟩
   have e3:=K.get d3 id;have C:=r.aB;have h6:=K.size;refine⟨_,rfl,ai.af K,PS.mk e3 sM λh7 e4 h8 e5=>PS.mk e5 sM λe6 e7 h9 e8=>?_⟩;have f:ak (λn=>n=o.heap.size) e2 e6:=e4.then e7;refine⟨f.mono λn _ b=>by have b:n=o.heap.size:=b;omega,rfl,g,e,e8,r.af f λn P b=>by have b:n=o.heap.size:=b;have:=B n P;omega,λn P=>by have:=B n P;omega,λP=>by have:=B _ P;omega,oM,((v.then X).then K).new f λn P=>.inr (by have P:n=o.heap.size:=P;omega)⟩
 rintro h _ _ L ⟨rfl,g,e,E,r,c4,e9,g4,M⟩;have a5:=A.then M;have i0:=M.size;have a3:h<L.heap.size:=ax E;have C:=r.aB;have c5:=M.get (k6.get g5 id) id;have c6:=M.get g6 id;refine⟨_,_,_,ae c5 rfl,λa2 a4 w'=>∃j:Nat,a4=j/\j<=a/\a2=a-j/\∃N H O G,w'.heap[h]? =some (.cells #[XL g,.slice N H O] 199 (0,0))/\cd w' G N H O (g0.take j)/\(∀n,G n->L.heap.size<=n/\n<w'.heap.size)/\ak (·=h) L w',
  ⟨_,0,rfl,Qj _,rfl,none,0,0,λ_=>False,E,cd.nil _,λn P=>P.elim,ak.refl _⟩,?_⟩
 rintro a2 _ _ I ⟨j,rfl,hj,rfl,N,H,O,G,Q,R,k,x⟩;have i1:=x.size;refine an.dec (λi2=>?_) (λi3=>?_)
 ·have f2:j<g0.length:=oM
  have hx:g0[j]? =some g0[j]:=Qq f2;generalize g0[j]=c2 at hx;obtain⟨a7,pj,rj,ha,a0,hR,a8,a9,b0,-,-⟩:=((hr.ah a5).af x λn P b=>by have b:n=h:=b;have:=hD n P;omega).elem hx;have f3:=R.len;rw[Qy,X2 oM]at f3;refine⟨a7,0,ha,oM,oM,_,by rw[Qx];exact a0,λc7 c8=>⟨λ_=>False,id,?_⟩⟩;have b2:ai I c7:=c8.af;have i4:c7.heap.size=I.heap.size:=by rw[c8.heap]
  refine⟨_,_,_,ae (b2.get Q id) rfl,PC.ok (Mb (hR.ah b2)) ?_⟩;rintro _ i5 ⟨p',r',rfl,f5,f6,i6,i7,i8,i9,b3⟩;have j0:=b3.size;refine⟨_,rfl,b3,PA.mk λj1 b4 j2 f8=>⟨b4,?_⟩⟩;have a1:=(b2.then b3).then b4;refine(R.ah a1).push (λn P=>by have:=(k n P).2;omega) (f5.ah b4) (λP=>by have:=(k _ P).2;omega) (λP=>by have:=(k _ P).2;omega) f6 Oa f8 (by rw[Qy];omega) λb1 c3 j3 G3 b6 b5 g1 c9=>⟨_,_,_,rfl,?_⟩
  have j4:=b5.size;have c0:=b5.get (a1.get Q id) λP=>by have:=(k _ P).1;omega
  have a6:∀n,G3 n->L.heap.size<=n:=λn P=>by
   rcases g1 n P with S|S|S|S
   ·exact(k n S).1
   ·omega
   ·omega
   ·omega
  refine PS.mk c0 sM λj5 d0 j6 g2=>⟨_,oM,j+1,aq oM,oM,rfl,b1,H+1,c3,G3,g2,?_,λn P=>⟨a6 n P,by have:=c9 n P;omega⟩,?_⟩
  ·rw[Qw,hx]
   exact b6.af d0 λn P b=>by have b:n=h:=b;have:=a6 n P;omega
  ·exact((x.ah a1).new b5 λn P=>.inr (k n P).1).then d0
 ·rw[Qz oM]at R
  have d1:=x.get c6 λb=>by have b:t.heap.size=h:=b;omega
  refine⟨_,_,_,_,ae Q rfl,ae Q rfl,PS.mk d1 sM λj7 b7 j8 g3=>PS.mk g3 sM λb8 b9 j9 d2=>⟨_,_,_,_,ae d2 rfl,ae d2 rfl,Ok.mk ⟨g,N,H,O,e,G,rfl,?_,?_,λn P=>by have:=c4 n P;omega,λn P=>⟨?_,?_,?_⟩,?_⟩⟩⟩
  ·have f:ak (λn=>n=t.heap.size) I b8:=b7.then b9
   exact(r.af x λn P b=>e9 ((show n=h from b)▸P)).af f λn P b=>by have b:n=t.heap.size:=b;have:=c4 n P;omega
  ·have f:ak (λn=>n=t.heap.size) I b8:=b7.then b9
   exact R.af f λn P b=>by have b:n=t.heap.size:=b;have:=k n P;omega
  ·have:=k n P;omega
  ·have:=k n P;omega
  ·intro hf;have:=k n P;have:=C n hf;omega
  ·have f:ak (λn=>n=t.heap.size) I b8:=b7.then b9
   exact(a5.new x λn P=>.inr (by have P:n=h:=P;omega)).new f λn P=>.inr (by have P:n=t.heap.size:=P;omega)
end
section
variable {w w':World} {p:Nat} {F T D:XN} {cls:Nat->Nat} {q:vz} {d:aM} {V:aU} {Rs:List dd} {l:List aj} {pts:List (List dd)}
def BM{b:ZH}{w:World}{D:XN}(g:Row aJ 8 w D b a o.aP)(s:∀n,D n->n<w.heap.size):
  ZG 186 #[jD o b a c] w (Ok λt w'=>∃b a c G,t=jD o b a c/\Row aJ 8 w' G b a o.aP/\(∀n,G n->w.heap.size<=n/\n<w'.heap.size)/\ai w w'):=by
 have u:=g.dP;have v:=g.len;refine xP (PA.mk λz k A d=>PA.mk λB e C h=>⟨_,_,_,ae (e.get d id) rfl,PC.ok (bA (g.ah (k.then e)) λn P=>by have:=s n P;omega) ?_⟩);rintro _ E ⟨l,m,p,G,rfl,q,f,i⟩;have d:=f.get (e.get d id) id;have h:=f.get h id;refine⟨_,_,_,rfl,PS.mk d (by simp[aC]) λF j H x=>?_⟩;refine ar (cs:=aC o l m p) (aV _ _ _ _) x (az (aV _ _ _ _) (j.get h oM) rfl λI r J y=>ar (aV _ _ _ _) y (Ok.mk ⟨l,m,p,G,rfl,?_,?_,?_⟩))
 ·refine(((q.af j λn P=>?_).af r λn P=>?_).row (bytes:=8) dC (by rw[<-v];exact u))
  ·have:=i n P;omega
  ·have:=i n P;omega
 ·intro n P
  have:=i n P;have:=q.aB n P;omega
 ·have K:=f.size
  exact((ak.new ((k.then e).then f) j λn P=>.inr oM).new r λn P=>.inr oM)
def dB.store{P:vz}{a:Array Value}(n:aT w F cls (zh p q.cells P d V Rs l pts))(c:ak (·=p) w w')(e:w'.heap[p]? =some (.cells a 202 (0,0))):aT w' F cls (zh p a P d V Rs l pts):=by
 refine aT.same n df (k:=0) (c.mono λi _ f=>f▸(n.at' 0).1) ⟨(n.at' 0).1,e⟩ λb G g h=>?_;rcases b with _|_|_|_|_|_|b<;>first|exact h|exact Zz rfl g
def CH(P:dB w F cls p q d V Rs l pts)(I:cN d=0)(J:eD w)(K:l.length<=20000000)(L:Rs.length<=8)(b2:pts.length*q.every<9223372036854775808)(b3:pts.length<=20000001):
  ZG 107 #[XL p] w (Ok λM w'=>M= .tuple #[]/\∃t u e,dB w' u e p t d V Rs l (if l.length=pts.length*q.every then pts++[Rs]else pts)/\t.every=q.every/\bL F w u w'):=by
 have i:=P.bg;have N:=aO.len (P.at' 2) dC;have O:=aO.len (P.at' 5) dC;have Q:=P.aB;have R:XG .i64 (((q.qn:Nat):Int)*(q.every:Int))=((pts.length*q.every:Nat):Int):=by
  rw[O,show((pts.length:Nat):Int)*(q.every:Int)=((pts.length*q.every:Nat):Int) by push_cast;rfl,wrap_i64 bc]
 refine sB ⟨p,0,rfl,_,_,_,ae i rfl,p,0,rfl,_,_,_,ae i rfl,p,0,rfl,_,ae i rfl,λS T=>?_⟩;rw[R,N];have j:ai w S:=T.af;refine an.dE (λb4=>?_) (λb5=>Ok.mk ⟨rfl,q,F,cls,?_,rfl,ai.af j,λn a=>.inl a⟩)
 rotate_left
 ·rw[Zq oM];exact dB.ah P j
 rw[Zx oM];intro v U;have h:ai w v:=j.then U.af;have c:=dB.ah P h;have k:=c.bg;refine⟨λ_=>False,p,0,rfl,id,_,_,_,ae k rfl,p,0,rfl,_,_,_,_,ae k rfl,ae k rfl,PC.ok (CG c I (J.ah h) K (c.at' 4) (λn a=>c.aB n a.1) L) ?_⟩;rintro _ b6 ⟨b7,a3,n2,c2,Fv,G,rfl,-,W,-,m,o⟩;refine⟨_,_,_,_,rfl,o,PA.mk λb8 r b9 X=>⟨r,?_⟩⟩;have x:=o.then r;have Y:=dB.ah c x;have c1:=h.size;have c3:=o.size;have s:∀n,aF q.qa=some n->F n/\cls n=5:=λn a=>aO.self (P.at' 5) n a;refine eY (c:=WD) (x:=Rs) (Y.at' 5) Ur X (D:=G) ⟨_,_,_,_,rfl,W.ah r⟩ (λn a=>⟨by have:=(m n a).2.1;omega,λf=>by have:=Q n (s n f).1;have:=(m n a).1;omega⟩) ba (by unfold maxLen;omega) λy b Z F2 z A b0=>⟨_,_,_,rfl,p,0,rfl,?_⟩
 have a0:¬aF q.qa=some p:=λf=>by have g:=(s p f).2;rw[P.self.2]at g;cases g
 have c4:=A.size;have a1:ak (λn=>F n/\cls n=5) v Z:=(ai.af x).then (A.mono λn _ a=>s n a);obtain⟨F3,a2,B,C,-,-⟩:=c.eg df (k:=5) (G':=F2) (C2:=zh p q.cells {q with qa:=y,qn:=q.qn+1,qc:=b} d V Rs l (pts++[Rs])) a1
  (λn a=>(b0 n a).imp id λP=>P.elim (λP=>(m n P).1) λP=>oM) z.aB z λE G hj hc=>by
   rcases E with _|_|_|_|_|_|E<;>first|exact hc|exact Zz rfl hj
 refine PS.mk (B.at' 0).2 sM λc5 H c6 b1=>Ok.mk ⟨rfl,{q with qa:=y,qn:=q.qn+1,qc:=b},F3,a2,dB.store B H b1,rfl,?_,λn a=>?_⟩
 ·refine((ai.af h).then C.af).then (H.mono λn _ f=>f▸P.self.1)
 ·rcases C.new n a with g|g
  ·exact .inl g
  ·exact .inr oM
end
section
variable {w w':World} {p:Nat} {F T D:XN} {cls:Nat->Nat} {q:vz} {d:aM} {V:aU} {Rs:List dd} {l:List aj} {pts:List (List dd)}
def pg(V:aU)(n:aj)(Rs:List dd):List dd:=Rs.map λP=>P.add (V.add n).1 (rU ((V.add n).2.state n.aS n.agg) P.p)
def QU{d:aM}(b:cN d=0)(c:d6∈d.projs):0<=d6.Eb:=by
 have P:=(my b).2.2 d6 c;unfold lG at P;split at P
 ·cases P
 split at P
 ·cases P
 rename_i n
 by_cases a:d6.group=3
 ·rw[a]at n
  simp only[BEq.rfl,Bool.true_and,bne_self_eq_false,Bool.false_and,Bool.or_false,Bool.not_eq_true,Bool.not_eq_false']at n;unfold QP within at n;simp only[QK,Zk]at n;exact n.1.1
 ·have e:(d6.group==3)=false:=by simpa using a
  have f:(d6.group !=3)=true:=by simpa using a
  rw[e,f]at n;simp at n;omega
def CI{V:aU}(P:V.OK)(n:aj):((V.state n.aS n.agg).getD Gf).cells.length<=8:=by
 have a:=P.len n;have b:=(zi (my P.decl).1).2.2.2;have g:(V.decl.at n.aS).length<=8:=by
  unfold aM.at;split
  ·rw[QQ]
   cases c:V.decl.types[n.aS.toNat]? with
   |none=>simp
   |some d=>exact(b d (QZ c)).2
  ·simp
 unfold aU.cellsOf at a;unfold aU.state
 cases e:aE V.dR (n.aS,n.agg)with
 |none=>simp
 |some f=>simp only[e]at a;show f.cells.length<=8;omega
def VD(w n:World)(p:Nat)(F:XN)(q:vz)(d:aM)(V:aU)(Rs:List dd)(l:List aj)(pts:List (List dd))(c:aj)(P e:Nat)(w':World):Prop:=
 e=0/\∃f g h a i,w'.heap[P]? =some (.cells (gK (V.add c).1 f g h).toArray 133 (0,0))/\dB w' a i p q d (V.add c).2 Rs l pts/\(∀b,a b->F b\/n.heap.size<=b)/\ak F n w'/\n.heap.size<=P/\¬a P
def Ob(u:dB w F cls p q d V Rs l pts)(hd:cN d=0)(hT:eD b)(g0:ai b w)(g4:∀n,F n->b.heap.size<=n)(hl:l.length+1<=20000000)(k5:V.entries.length<=20000000)(g5:Rs.map (·.p)=d.projs)(k6:pts.length*q.every<9223372036854775808)(k7:pts.length<=20000001){I:ZH}(k8:((aE V.done (o.aS,o.agg,o.field)).getD []).length<=20000000)(hr:Row aJ 8 w D I a o.aP)(R:∀n,D n->n<w.heap.size/\¬F n)(he:o.Ok):
  ZG 117 #[XL p,jD o I a c] w (Ok λa5 w'=>a5= .tuple #[]/\∃q' S a0,dB w' S a0 p q' d (V.add o).2 (pg V o Rs) (l++[o]) (if l.length+1=pts.length*q.every then pts++[pg V o Rs]else pts)/\q'.every=q.every/\bL F w S w'):=by
 have T:=u.aB;have q8:=T p u.self.1;have q9:Rs.length=d.projs.length:=by rw[<-g5,Q8]
 have r0:d.projs.length<=8:=(zi (my hd).1).2.2.1;refine tI (PA.mk λe1 b8 r3 g6=>?_);have k9:=dB.ah u b8;refine⟨VD w e1 p F q d V Rs l pts o,?_,?_⟩
 ·intro r g7
  have a6:ai e1 r:=g7.af;have r4:r.heap.size=e1.heap.size:=by rw[g7.heap]
  have e2:=dB.ah k9 a6;have a7:=b8.then a6;have g8:=e2.bg;have a1:∀{m:World},ai r m->ZG 124 #[XL q.vp,jD o I a c] m (Ok λa5 w'=>∃I a c G,a5=Ec (V.add o).1 I a c/\Row aJ 8 w' G I a o.aP/\∃S,b_ w' q.vp S (V.add o).2/\bL (λn=>F n/\cls n=3) m S w'/\∀n,G n->m.heap.size<=n/\n<w'.heap.size/\¬S n):=λ{m} U=>
   Gj (show b_ m q.vp (λn=>F n/\cls n=3) V from(dB.ah e2 U).at' 3) (hT.ah (g0.then (a7.then U))) (hr.ah (a7.then U)) (λn P=>⟨by have:=(R n P).1;have:=(a7.then U).size;omega,λg=>(R n P).2 g.1⟩) he k8 k5
  have eg:∀{m w2:World} {s:XN},ai r m->b_ w2 q.vp s (V.add o).2->bL (λn=>F n/\cls n=3) m s w2->∃h j,dB w2 h j p q d (V.add o).2 Rs l pts/\(∀n,h n->F n\/s n)/\(∀n,h n->F n\/m.heap.size<=n)/\ak F m w2:=λ{m w2 s} U W v=>by
   obtain⟨h,j,X,J,k,-⟩:=(dB.ah e2 U).gC df (k:=3) (G':=s) (C2:=zh p q.cells q d (V.add o).2 Rs l pts) v W.aB W λe G Y hc=>by
    rcases e with _|_|_|_|_|_|e<;>first|exact hc|exact Zz rfl Y
   exact⟨h,j,X,λn P=>(k n P).imp (·.1) id,J.new,J.af⟩
  have nS:¬((F p/\cls p=3)\/r.heap.size<=p):=by
   rintro(⟨-,f⟩|f)
   ·rw[u.self.2]at f;cases f
   ·omega
  have b9:¬((F w.heap.size/\cls w.heap.size=3)\/r.heap.size<=w.heap.size):=by
   rintro(⟨f,-⟩|f)
   ·have:=T _ f;omega
   ·omega
  refine⟨λn=>(F n/\cls n=3)\/r.heap.size<=n,p,0,rfl,nS,_,ae g8 rfl,b9,ar (aV o I a c) (a6.get g6 id) ⟨PC.ok (a1 (ak.refl _)) ?_,PA.mk λr5 c2 r6 l0=>⟨ai.af c2,PC.ok (a1 c2) ?_⟩⟩⟩
  ·rintro _ e3 ⟨y,z,A,G1,rfl,-,s,W,v,-⟩
   obtain⟨h,j,X,g9,k,kF⟩:=eg (ak.refl _) W v;have r7:=v.af.size;have h0:=X.aB;refine bO (Oc _ y z A) ⟨rfl,v.af.mono λn _ P=>.inl P,PA.mk λr8 e4 r9 l3=>⟨ai.af e4,az (lq _ y z A) l3 rfl λs0 e5 s1 l4=>⟨e5.mono λn _ o=>.inr (by have o:n=e3.heap.size:=o;omega),rfl,y,z,A,h,j,l4,?_,λn P=>?_,?_,oM,λg=>by have:=h0 _ g;omega⟩⟩⟩
   ·exact aT.af (dB.ah X e4) df e5 λn P o=>by have o:n=e3.heap.size:=o;have:=h0 n P;omega
   ·rcases k n P with f|f
    ·exact .inl f
    ·exact .inr oM
   ·exact(((ai.af a6).then kF).ah e4).new e5 λn P=>.inr (by have P:n=e3.heap.size:=P;omega)
  ·rintro _ s2 ⟨y,z,A,G1,rfl,-,s,W,v,-⟩
   obtain⟨h,j,X,g9,k,kF⟩:=eg c2 W v;have s3:=v.af.size;have nf:¬h r.heap.size:=λg=>by
    rcases k _ g with f|f
    ·have:=T _ f;omega
    ·omega
   have l5:=kF.get l0 λg=>by have:=T _ g;omega
   refine bO (Oc _ y z A) ⟨rfl,v.af.mono λn _ P=>.inl P,az (lq _ y z A) l5 rfl λs4 e6 s5 l6=>⟨e6.mono λn _ o=>.inr (by have o:n=r.heap.size:=o;omega),rfl,y,z,A,h,j,l6,?_,λn P=>?_,?_,oM,nf⟩⟩
   ·exact aT.af X df e6 λn P o=>by have o:n=r.heap.size:=o;exact nf (o▸P)
   ·rcases k n P with f|f
    ·exact .inl f
    ·exact .inr oM
   ·exact(((ai.af a6).then (ai.af c2)).then kF).new e6 λn P=>.inr (by have P:n=r.heap.size:=P;omega)
 rintro xb _ _ K ⟨rfl,xa,xn,xc,h,j,gx,Z,k,c3,s6,l7⟩;have h2:=c3.get g6 λg=>by have:=T _ g;omega
 have h3:=(hr.ah b8).af c3 λn P=>(R n P).2;have a8:=Z.aB;have s7:=c3.size;have xw:=ax gx;have a9:ak F w K:=(ai.af b8).then c3;have p8:ai b K:=g0.new a9 λn P=>.inr (g4 n P);obtain⟨i,hS⟩:∃i,i=(V.add o).2.state o.aS o.agg:=⟨_,rfl⟩
 have s8:(i.getD Gf).cells.length<=8:=by rw[hS];exact CI (show(V.add o).2.OK from(show b_ K q.vp (λn=>h n/\j n=3) (V.add o).2 from Z.at' 3).1) o
 refine⟨λsb so w'=>so=0/\∃sa sn sc G2,w'.heap[sb]? =some (.cells #[XH (i.getD Gf).version,.slice sa sn sc] 49 (0,0))/\Row et 32 w' G2 sa sn (i.getD Gf).cells/\(∀n,G2 n->K.heap.size<=n/\n<w'.heap.size)/\K.heap.size<=sb/\ai K w',?_,?_⟩
 ·intro B h4
  have c4:ai K B:=h4.af;have s9:B.heap.size=K.heap.size:=by rw[h4.heap]
  have e7:=dB.ah Z c4;have h5:=e7.bg;have d4:=c4.get h2 id;have nS:¬B.heap.size<=p:=by have:=a8 p Z.self.1;omega
  have b9:¬B.heap.size<=w.heap.size:=oM
  refine⟨λn=>B.heap.size<=n,p,0,rfl,nS,_,ae h5 rfl,b9,_,ae d4 rfl,b9,_,ae d4 rfl,PC.ok (nu (e7.at' 3)) ?_,PA.mk λt0 e8 t1 l8=>⟨ai.af e8,PC.ok (nu ((dB.ah e7 e8).at' 3)) ?_⟩⟩
  ·rintro _ c5 ⟨ca,cn,cc,G,rfl,N,L,e9⟩
   have t2:=e9.size;have c6:=N.aB;rw[<-hS]at N⊢;refine⟨_,_,_,_,_,rfl,ai.af e9,PA.mk λl9 f2 t3 m0=>⟨ai.af f2,PS.mk m0 sM λt4 m1 t5 m2=>PS.mk m2 sM λm3 m4 t6 m5=>?_⟩⟩;have O:ak (λn=>n=c5.heap.size) l9 m3:=m1.then m4;refine⟨O.mono λn _ o=>by have o:n=c5.heap.size:=o;omega,rfl,ca,cn,cc,G,m5,((N.ah f2).af O λn P o=>by have o:n=c5.heap.size:=o;have:=c6 n P;omega).row dC ba,λn P=>⟨by have:=L n P;omega,by have:=c6 n P;omega⟩,oM,((c4.then e9).then f2).new O λn P=>.inr (by have P:n=c5.heap.size:=P;omega)⟩
  ·rintro _ m6 ⟨ca,cn,cc,G,rfl,N,L,c7⟩
   have t7:=c7.size;have c6:=N.aB;have m7:=c7.get l8 id;rw[<-hS]at N⊢;refine⟨_,_,_,_,_,rfl,ai.af c7,PS.mk m7 sM λt8 m8 t9 m9=>PS.mk m9 sM λn0 n2 u0 n3=>?_⟩;have O:ak (λn=>n=B.heap.size) m6 n0:=m8.then n2;refine⟨O.mono λn _ o=>by have o:n=B.heap.size:=o;omega,rfl,ca,cn,cc,G,n3,(N.af O λn P o=>by have o:n=B.heap.size:=o;have:=L n P;omega).row dC ba,λn P=>⟨by have:=L n P;omega,by have:=c6 n P;omega⟩,oM,((c4.then e8).then c7).new O λn P=>.inr (by have P:n=B.heap.size:=P;omega)⟩
 rintro sb _ _ h6 ⟨rfl,sa,sn,sc,G2,gs,n4,n8,u1,Q⟩;have c8:=dB.ah Z Q;have h7:=c8.bg;have u2:=Q.size;have h8:bb h6 (λn=>h n/\j n=1) d q.ta q.tn q.pa q.pn:=c8.at' 1;have p9:=h8.Ed.len;have q0:=c8.aB;have h9:=Q.get gx id;obtain⟨C,g⟩:∃C:dd->dd,C=λx=>x.add (V.add o).1 (rU ((V.add o).2.state o.aS o.agg) x.p):=⟨_,rfl⟩
 have g2:=ax gs;refine⟨p,0,rfl,_,_,_,ae h7 rfl,λd5 b0 w'=>∃e:Nat,b0=e/\e<=q.pn/\d5=q.pn-e/\dB w' h j p q d (V.add o).2 ((Rs.take e).map C++Rs.drop e) l pts/\ak h h6 w',⟨_,0,rfl,Qj _,rfl,by simpa using c8,ak.refl _⟩,?_⟩;rintro d5 _ _ E ⟨e,rfl,Y,rfl,t,H⟩;have u3:=H.size;have d6:=H.get gs λg=>by have:=a8 _ g;omega
 have g3:=n4.af H λn P g=>by have:=a8 _ g;have:=(n8 n P).1;omega
 have i0:=H.get h9 l7;have q1:=t.bg;refine an.dec (λu4=>?_) (λu5=>?_)
 ·have i1:e<d.projs.length:=oM
  have hx:d.projs[e]? =some d.projs[e]:=Qq i1;have i2:d.projs[e]∈d.projs:=XY i1;generalize d.projs[e]=x at hx i2;obtain⟨n,h1,es,b1,i9,j1,b2,rfl,d7⟩:=(show bb E (λn=>h n/\j n=1) d q.ta q.tn q.pa q.pn from t.at' 1).Ed.el e x hx;have n9:=QU hd i2;refine⟨n,h1,b1,oM,oM,bw (es:=nw x) (k:=5) (ph x) rfl (λb0 ht=>by rw[Qx];exact b2 b0 ht) (PA.mk λu6 i3 u7 o0=>az (ph x) o0 rfl λi4 i5 u9 i6=>⟨λj2 w'=>j2=rU i x/\aH (rU i x)/\i4=w',?_,?_⟩)⟩
  ·have b3:ai E i4:=i3.new i5 λn P=>.inr (by have P:n=E.heap.size:=P;omega)
   have d8:=g3.ah b3;have v0:=d8.len;have a4:rU i x=(((i.getD Gf).cells[x.Eb.toNat]?).map (·.n)).getD 0:=by
    cases i<;>rfl
   refine⟨_,ae i6 rfl,_,_,_,ae (b3.get d6 id) rfl,an.dec (λi7=>?_) (λi7=>⟨?_,?_,rfl⟩)⟩
   ·obtain⟨bi,f5⟩:∃bi:Nat,x.Eb=bi:=⟨x.Eb.toNat,oM⟩
    obtain⟨cb,co,v1,v2,v3,o1,v4,v5,o2,-,-,i8,-⟩:=mz d8 (i:=bi) oM;refine⟨_,_,_,ae (b3.get d6 id) rfl,_,ae i6 rfl,cb,co,o1,n9,i7,_,by rw[f5,Qx];exact o2,?_,?_,rfl⟩
    ·rw[a4,f5,Qx,QQ,Qq (show bi<(i.getD Gf).cells.length by omega)];rfl
    ·rw[a4,f5,Qx,Qq (show bi<(i.getD Gf).cells.length by omega)]
     rw[QQ,Qq (show bi<(i.getD Gf).cells.length by omega)]at i8;exact i8
   ·rw[a4,Q7 oM];rfl
   ·rw[a4,Q7 oM];exact Gk
  ·rintro _ _ _ ⟨rfl,j4,rfl⟩ o3 o4
   have b4:ai E o3:=(i3.new i5 λn P=>.inr (by have P:n=E.heap.size:=P;omega)).then o4.af;have c9:=dB.ah t b4;have o5:((Rs.take e).map C++Rs.drop e)[e]? =Rs[e]? :=by
    rw[X8 be];simp[Qy,X2 (show e<=Rs.length by omega)]
   have d0:Rs[e]? =some Rs[e]:=Qq oM;have d9:Rs[e].p=x:=by
    have:=Zj (·[e]?) g5;simp only[Q9,d0,hx,Option.map_some,Q1]at this;exact this
   generalize Rs[e]=b5 at d0 d9;obtain⟨rg,pj,rj,o6,o7,hR,j5,v6,j0,-,b6⟩:=cd.elem (c9.at' 4) (o5.trans d0);have o8:=cd.len (c9.at' 4);rw[QX,Q8,Qy,XZ]at o8;have j6:=c9.bg;refine⟨p,0,rfl,_,_,_,ae j6 rfl,rg,0,o6,oM,oM,_,by rw[Qx];exact o7,ar (lq _ xa xn xc) (b4.get i0 id) (PC.ok (Od hR j5 (x:=(V.add o).1) he j4) ?_)⟩;rintro _ o9 ⟨rfl,p0,f8⟩;have e_:((Rs.take e).map C++Rs.drop e).set e (b5.add (V.add o).1 (rU i x))=(Rs.take (e+1)).map C++Rs.drop (e+1):=by
    have j7:((Rs.take e).map C).length=e:=by simp;omega
    rw[Qw,d0,Q3,XQ,List.set_append,Zq oM,j7,Nat.sub_self,X4 (show e<Rs.length by omega)];have p1:C b5=b5.add (V.add o).1 (rU i x):=by rw[g,hS,<-d9]
    rw[<-p1];rfl
   have j3:=b6 o9 _ f8 p0;rw[e_]at j3;refine⟨rfl,_,oM,e+1,aq oM,oM,rfl,?_,H.then ((ai.af b4).then (f8.mono λn _ o=>?_))⟩
   ·refine aT.same c9 df (k:=4) (f8.mono λn _ o=>by have o:n=rj:=o;rw[o];exact j0) j3 λe G Y hc=>by
     rcases e with _|_|_|_|_|_|e<;>first|exact hc|exact Zz rfl Y
   ·have o:n=rj:=o;rw[o];exact j0.1
 have j8:(Rs.take e).map C++Rs.drop e=pg V o Rs:=by
  rw[Qz oM,List.drop_eq_nil_of_le oM,List.append_nil,g];rfl
 rw[j8]at t;intro b7 e0;have a2:ai E b7:=e0.af;have q2:b7.heap.size=E.heap.size:=by rw[e0.heap]
 have k0:=dB.ah t a2;have k1:=k0.bg;have p2:¬h w.heap.size:=λg=>by
  rcases k _ g with f|f
  ·have:=T _ f;omega
  ·omega
 have k2:=a2.get (H.get (Q.get h2 id) p2) id;have nD:∀n,D n->¬h n:=λn P g=>by
  rcases k _ g with f|f
  ·exact(R n P).2 f
  ·have:=(R n P).1;omega
 have k3:=((h3.ah Q).af H nD).ah a2;have v7:=aO.len (t.at' 2) dC;have v8:ak F w b7:=((a9.ah Q).new H λn P=>(k n P).imp id oM).ah a2;refine⟨λ_=>False,p,0,rfl,id,_,_,_,ae k1 rfl,ar (aV o I a c) k2 (PC.ok (BM k3 λn P=>by have:=(R n P).1;omega) ?_)⟩;rintro _ q3 ⟨y,z,A,G,rfl,p3,L,c0⟩;refine⟨_,_,_,_,_,_,_,_,_,_,_,_,rfl,c0,PA.mk λq4 c1 q5 k4=>⟨c1,?_⟩⟩;have f0:=(a2.then c0).then c1;have l1:=dB.ah t f0;have q6:=c0.size;have l2:=t.aB;have f1:∀n,aF q.ea=some n->h n/\j n=2:=λn P=>aO.self (t.at' 2) n P;refine eY (c:=jo) (x:=o) (l1.at' 2) IL k4 (D:=G) ⟨y,z,A,rfl,p3.ah c1,he⟩ (λn P=>⟨by have:=(L n P).2;omega,λee=>by have:=l2 n (f1 n ee).1;have:=(L n P).1;omega⟩) ba (by unfold maxLen;omega) λa' M q7 F2 f3 f4 p4=>⟨_,_,_,rfl,p,0,rfl,?_⟩
 have r1:=f4.size;obtain⟨s,a3,j9,f6,n1,-⟩:=t.eg df (k:=2) (G':=F2) (C2:=zh p q.cells {q with ea:=a',en:=q.en+1,ec:=M} d (V.add o).2 (pg V o Rs) (l++[o]) pts) ((ai.af f0).then (f4.mono λn _ P=>f1 n P))
  (λn P=>(p4 n P).imp id λu=>u.elim (λu=>by have:=(L n u).1;omega) λu=>oM) f3.aB f3 λe G Y hc=>by
   rcases e with _|_|_|_|_|_|e<;>first|exact hc|exact Zz rfl Y
 refine PS.mk (j9.at' 0).2 sM λd1 f7 r2 n5=>?_;have n6:dB d1 s a3 p {q with ea:=a',en:=q.en+1,ec:=M} d (V.add o).2 (pg V o Rs) (l++[o]) pts:=dB.store j9 f7 n5;have f9:∀n,s n->F n\/w.heap.size<=n:=λn P=>by
  rcases f6.new n P with f|f
  ·exact(k n f).imp id oM
  ·exact .inr oM
 have n7:ak h E d1:=f6.af.then (f7.mono λn _ ee=>by have ee:n=p:=ee;rw[ee];exact Z.self.1);have p5:ak F w E:=(a9.ah Q).new H λn P=>(k n P).imp id oM;have d2:ak F w d1:=p5.new n7 λn P=>(k n P).imp id oM;refine PC.ok (CH n6 hd (hT.ah (g0.new d2 λn P=>.inr (g4 n P))) be (by unfold pg;rw[Q8];omega) k6 k7) ?_;rintro _ u8 ⟨rfl,q',F4,p6,p7,d3,g1⟩;refine⟨rfl,Ok.mk ⟨rfl,q',F4,p6,?_,d3,d2.new g1.af f9,λn P=>?_⟩⟩
 ·simpa using p7
 ·rcases g1.new n P with f|f
  ·exact f9 n f
  ·have:=d2.size;exact .inr oM
end
def rQ:jN:=⟨[],[],[],[],[(1,⟨[0,0,2,4,8,0,0,64,128,256,544,1040,4095,8191,12287],[32767,32767,32765,32763,32759,32767,32767,32703,32639,32511,32223,31727,32766,28671,22527],[0,0,0,0,1,0,0,0,0,1,0,0,0,0,2]⟩)]⟩
def rb(y:(dr d λz B=>(rI b (ad z (B+2)) λC=>PR_ (eq_ .quo 3 (.tmp 5) (.tmp 9) (.ii e) (.ii C)) b (kI_ λn D=>(∀P,bF D P->(dr d λE F=>(rS P (ad E (F+3)) λG a3 f=>(dr d λH I=>(rI P (ad H (I+2)) λc=>((0:Int)<=(XG .i64 (n*c))/\((XG .i64 (n*c)):Int)<=(f:Int)/\(dr d λJ K=>PS P (ad J (K+3)) (.slice G (Int.toNat (XG .i64 (n*c))) f) λg=>(dr d λL M=>(rS g (ad L (M+6)) λN h i=>((0:Int)<=(XG .i64 (n+1))/\((XG .i64 (n+1)):Int)<=(h:Int)/\PR_ (Builtin.clear_ #[200] 0 #[.slice (cH N (Int.toNat (XG .i64 (n+1))) i 2) (h-Int.toNat (XG .i64 (n+1))) (i-Int.toNat (XG .i64 (n+1)))]) g (λa4 j=>(dr d λO Q=>(rS j (ad O (Q+6)) λR a5 k=>((0:Int)<=(XG .i64 (n+1))/\((XG .i64 (n+1)):Int)<=(k:Int)/\(dr d λS T=>PS j (ad S (T+6)) (.slice R (Int.toNat (XG .i64 (n+1))) k) λa=>(dr d λU V=>(rS a (ad U (V+6)) λW X a6=>(ix_ W n X λl m=>(∃o p q r,a.cell? (ad l (m+Int.toNat n*2))=some (.pointer o)/\a.cell? (ad l (m+Int.toNat n*2+1))=some (.slice p q r)/\PC_ 159 #[.pointer d,.agg #[.pointer o,.slice p q r]] a (λY Z=>∃s t u v,Y= .agg #[.pointer s,.slice t u v]/\(dr d λw x=>PS Z (ad w (x+4)) (.pointer s) λa1=>PS a1 (ad w (x+4+1)) (.slice t u v) λa2=>rt A ((.tuple #[])) a2)) (pE A)))))))))) (pV A)))))))))))) (pV A)))):ZG 116 #[.pointer d,.ii e] b A:=DC rQ Tryz.func116 rfl y
def qF(P:dh):∀n,(ml P n).Perm (P::n)
 |[]=>List.Perm.refl _
 |y::n=>by
  unfold ml;split
  ·exact List.Perm.refl _
  ·exact((qF P n).cons y).trans (List.Perm.swap P y n)
def wR(n:List dh):(n.foldr ml []).Perm n:=by
 induction n with
 |nil=>exact List.Perm.refl _
 |cons P n a=>exact(qF P _).trans (a.cons P)
def xC{b:dh}:∀{P:List dh},tJ P->(∀y∈P,y.group≠b.group)->tJ (ml b P)
 |[],_,_=>by simp[ml,tJ]
 |y::P,d,e=>by
  unfold ml;have c:=List.pairwise_cons.1 d;have g:=e y (QV ..);split
  ·rename_i f
   refine List.pairwise_cons.2 ⟨λa n=>?_,d⟩;rcases Q2.1 n with rfl|n
   ·exact f
   ·have:=c.1 a n;omega
  ·rename_i h
   refine List.pairwise_cons.2 ⟨λa n=>?_,xC c.2 λa n=>e a (QJ _ n)⟩;rcases Q2.1 ((qF b P).mem_iff.1 n)with rfl|n
   ·omega
   ·exact c.1 a n
def DI:∀{n:List dh},(n.map (·.group)).Nodup->tJ (n.foldr ml [])
 |[],_=>List.Pairwise.nil
 |x::n,P=>by
  rw[QY,List.nodup_cons]at P;refine xC (DI P.2) λa b c=>P.1 ?_;rw[<-c];exact Xk.2 ⟨a,(wR n).mem_iff.1 b,rfl⟩
def xD:∀{a P:List dh},(a.Pairwise λx b=>¬b.group<x.group)->tJ P->a.Perm P->a=P
 |[],P,_,_,n=>by have:=n.length_eq;cases P;rfl;simp at this
 |x::a,[],_,_,n=>by have:=n.length_eq;simp at this
 |x::a,b::P,f,g,n=>by
  have d:=List.pairwise_cons.1 f;have e:=List.pairwise_cons.1 g;have i:x=b:=by
   rcases Q2.1 (n.mem_iff.1 (QV ..))with h|h
   ·exact h
   rcases Q2.1 (n.mem_iff.2 (QV ..))with c|c
   ·exact c.symm
   have:=e.1 x h;exact Zz this (d.1 b c)
  subst i;rw[xD d.2 e.2 n.cons_inv]
section
variable {w w':World} {p r:Nat} {R:dd}
def kL.TS(a:kL w p r R):((R.rows.map (·.2)).map (·.group)).Nodup:=by
 have P:=a.map.tidy;unfold Tidy at P;rw[List.map_map]at P⊢;have:R.rows.map ((·.group)∘(·.2))=R.rows.map ((·.1)∘λn=>(n.1,sv n.2)):=List.map_congr_left λn b=>(a.ok n b).2;rw[this];exact P
def kL.Us(n:kL w p r R):tJ R.list:=DI n.TS
def Mi(f:kL w p r R)(P:R.rows.length<=20000000):ZG 404 #[XL p] w (Ok (px Gh 135 w R.list)):=by
 refine wx ⟨p,0,rfl,_,ae f.at' rfl,mapRange PY f.map λw6 N O s6=>?_⟩;refine⟨λz i j k w'=>∃(left:List (Int×dh)) (a:List dh) (h:XN),z=left.length/\cB w' w.heap.size r (Value.int .i64) (R.rows.map λb=>(b.1,sv b.2)) (left.map λb=>(b.1,sv b.2))/\(∀b∈left,dh.Ok b.2)/\
  (a++left.map (·.2)).Perm (R.rows.map (·.2))/\aO Gh 135 h w' i j k a/\(∀n,h n->w.heap.size<n)/\ai w w',⟨_,R.rows,[],λ_=>False,rfl,N,λb l=>(f.ok b l).1,List.Perm.refl _,aO.nil _,λn P=>P.elim,O⟩,?_⟩
 rintro z i j k _ A ⟨left,a,h,rfl,B,C,m,d,e,o⟩;have q:a.length+left.length=R.rows.length:=by have:=m.length_eq;simpa using this
 have b3:=d.len dC;refine m_ B (λQ=>.inl ⟨rfl,?_⟩) (λa3 a4 l1 l2 s S T U V b4=>.inr ⟨_,_,rfl,qj U ?_⟩)
 ·have W:left=[]:=by simpa using Q
  subst W;refine PC.ok (Nr d (by simp at q;omega)) ?_;rintro _ b5 ⟨rfl,X,t,u,v,Y⟩;have Z:X=R.list:=xD u f.Us ((t.trans (by simpa using m)).trans (wR _).symm);subst Z;exact⟨rfl,Ok.mk ⟨i,j,k,h,rfl,v,o.new Y λn P=>.inr (by have:=e n (d.self n P);omega),λn P=>by have:=e n P;omega⟩⟩
 ·obtain⟨E,a5,rfl,rfl,l⟩:=List.map_eq_append_iff.1 S
  obtain⟨b,F,rfl,H,rfl⟩:=List.map_eq_cons_iff.1 l;simp only[Prod.mk.injEq]at H;obtain⟨rfl,rfl⟩:=H;have a0:=C b sM;have b6:=o.size;have b2:w.heap.size<A.heap.size:=B.lt;refine⟨_,_,_,_,rfl,PA.mk λb7 I b8 a9=>az (M_ b.2) a9 rfl λb9 J c1 x=>⟨_,_,_,ae x rfl,ae x rfl,ae x rfl,PA.mk λvy L c2 b0=>?_⟩⟩;have y:ak (λn=>n=w.heap.size) A vy:=((V.ah I).new J λn P=>.inr (by have P:n=s.heap.size:=P;omega)).ah L;refine eY (c:=Gh) (x:=b.2) (d.af y λn P c=>by have c:n=w.heap.size:=c;have:=e n P;omega) Vc b0 (D:=λ_=>False) ⟨rfl,a0⟩ (λn P=>P.elim) (by simp at q;unfold aK;omega) (by simp at q;unfold maxLen;omega) λa' c' c3 F2 a1 M b1=>⟨_,_,_,rfl,_,?_,E++F,a++[b.2],F2,rfl,?_,λa2 K=>C a2 (by simp at K⊢;rcases K with K|K;exact .inl K;exact .inr (.inr K)),?_,a1,λn P=>?_,?_⟩
  ·simp
  ·have g:cB vy w.heap.size r (Value.int .i64) (R.rows.map λb=>(b.1,sv b.2)) ((E++F).map λb=>(b.1,sv b.2)):=by
    rw[Q3];exact((T.ah I).af J (λc=>by have c:w.heap.size=s.heap.size:=c;omega) (λc=>by have c:r=s.heap.size:=c;have:=f.map.lt;omega)).ah L
   refine g.af M (λc=>by have:=e _ (d.self _ c);omega) (λc=>by have:=e _ (d.self _ c);have:=f.map.lt;omega)
  ·refine List.Perm.trans ?_ m
   simp only[Q3,QY,XQ];refine List.Perm.append_left a ?_;rw[List.singleton_append];exact List.perm_middle.symm
  ·rcases b1 n P with g|g|g
   ·exact e n g
   ·exact g.elim
   ·have:=y.size;omega
  ·exact(o.new y λn P=>.inr (by have P:n=w.heap.size:=P;omega)).new M λn P=>.inr (by have:=e n (d.self n P);omega)
end
end Go.Proofs.YtjgjkeponbeekaaGreatDoor
namespace Go.au
open Go
variable{a c i:Nat}{f:XN}{T X:Operand}{d:ZH}{h:Program}{j:Type}{B g q:TypeId}{m s:XR}{b:World}
def zl{bytes:Nat}{n:jt j}(v:jF h g q n.k bytes)(C:Md h q=true){w:List j}(k:aO n q f b d a c w)(S:i<=a)(l:∀e,aO n q f e d i c (w.take i)->ak (λP=>aF d=some P) b e->e.heap.size=b.heap.size->m (.tuple #[]) e):
  aG h (Builtin.clear_ #[g] B #[.slice (cH d i c n.k) (a-i) (c-i)]) b m s:=by
 rcases Nat.lt_or_ge i a with T|U
 rotate_left
 ·obtain rfl:i=a:=oM
  rw[Nat.sub_self];exact aG.mk (w':=b) (v:=.tuple #[]) (by cases cH d i c n.k<;>simp[Builtin.clear_,run_underlying v.under]) (l b (k.take (Q4 _)) (ak.refl _) rfl)
 obtain⟨cs,D,p,E,x⟩:=k.body;have F:=p.length;rcases p.cases with⟨_,V,_,_⟩|⟨y,H,rfl,I,J,z,K⟩
 ·omega
 have r:c<=maxLen:=by
  obtain⟨_,W,_,A,_,_,_,r,_⟩:=p.row.2.resolve_left (by rintro⟨k,_⟩;cases k);simp only[XX]at A;rw[A.2.2];exact r
 have L:i*n.k<=a*n.k:=Q0 _ oM;have X:a*n.k<=c*n.k:=Q0 _ J;rw[fv (show c≠i by omega),Xz];refine PB v C I (by rw[z,Nat.sub_mul];omega) λe o M N O Q R=>?_;have t:ak (λP=>aF (some (⟨y,0,none⟩:Addr))=some P) b e:=Q.mono λP _ q=>by rw[q];rfl
 refine l e ⟨⟨cs.take (i*n.k),D,⟨⟨by rw[Qy,F];omega,.inr ⟨y,c,o,rfl,Qj _,M,oM,r,by rw[N,z],?_⟩⟩⟩,(E.af t λP u=>(x P u).2).take i,x⟩,k.self,λP u=>Qk (k.aB P u) t.size⟩ t R;rw[O,<-K,List.take_take,X2 L]
def Ra(i:0<c)(j:a<9223372036854775808):(do eqGuard .quo g T X (XH (a:Int)) (XH (c:Int));binOp .quo g (XH (a:Int)) (XH (c:Int)):Sem Value).run h b= .ok (XH ((a/c:Nat):Int)) b:=by
 have d:c≠0:=oM
 have n:(a:Int).tdiv (c:Int)=((a/c:Nat):Int):=by rw[Int.tdiv_eq_ediv_of_nonneg oM];rfl
 have e:=Nat.div_le_self a c;generalize a/c=P at n e;have f:XG .i64 (P:Int)=(P:Int):=wrap_i64 bc;simp[eqGuard,binOp,Op.intDiv,d,n,f]
end Go.au
namespace Go.Proofs.YtjgjkeponbeekaaGreatDoor
open Go.au
def cO(d:World)(e:Nat)(f:XN)(P:aM)(n:Nat)(a:List aj):Prop:=
 (cN P=0/\0<n/\n<9223372036854775808/\a.length<=20000000)/\∃c b,c.every=n/\dB d f b e c P (cm P a) (dG P a).rows a (jL P n a)
variable{J:List aj}{a c:Nat}{b:World}{o:aj}
def Q_{d:aM}(n:0<a)(P:a<9223372036854775808)(b:J.length<=20000000):(jL d a J).length*a<9223372036854775808/\(jL d a J).length<=20000001:=by
 rw[zj];have c:=Nat.div_le_self J.length a;refine⟨?_,oM⟩;rcases Nat.lt_or_ge J.length a with h|h
 ·rw[Nat.div_eq_of_lt h];omega
 ·have:=Nat.div_mul_le_self J.length a
  rw[X7,Nat.one_mul];omega
section
variable {w w':World} {p:Nat} {F T D:XN} {d:aM} {every:Nat} {l:List aj}
def cO.af(a:cO w p F d every l)(b:ak T w w')(c:∀P,F P->¬T P):cO w' p F d every l:=by
 obtain⟨e,f,n,g,h⟩:=a;exact⟨e,f,n,g,aT.af h df b c⟩
def cO.ah(n:cO w p F d every l)(P:ai w w'):cO w' p F d every l:=n.af P λ_ _ n=>n
def cO.aB(P:cO w p F d every l):∀n,F n->n<w.heap.size:=by obtain⟨c,e,a,f,b⟩:=P;exact b.aB
def vA(d:aM)(l:List aj)(b:l.length<=20000000):(cm d l).entries.length<=20000000/\∀n,((aE (cm d l).done n).getD []).length<=20000000:=by
 have P:=λn=>Ee d l (aU.new d) n;refine⟨?_,λn=>?_⟩
 ·have a:(cm d l).entries.length=0+l.length:=(P (0,0,0)).2
  omega
 ·have a:((aE (cm d l).done n).getD []).length<=0+l.length:=(P n).1
  omega
def Gm(d:aM)(l:List aj)(n:aj):pg (cm d l) n (dG d l).rows=(dG d (l++[n])).rows:=by
 rw[IM];unfold pg jE.add;rw[IN]
def Oe(s:cO w p F d every l)(t:eD b)(u:ai b w)(v:∀n,F n->b.heap.size<=n)(i:l.length+1<=20000000){j:ZH}(x:Row aJ 8 w D j a o.aP)(y:∀n,D n->n<w.heap.size/\¬F n)(z:o.Ok):
  ZG 117 #[XL p,jD o j a c] w (Ok λk w'=>k= .tuple #[]/\∃e,cO w' p e d every (l++[o])/\bL F w e w'):=by
 obtain⟨⟨m,f,q,r⟩,L,A,rfl,B⟩:=s;obtain⟨C,E⟩:=vA d l r;obtain⟨H,I⟩:=Q_ (d:=d) f q r;refine(Ob B m t u v i C (Gn d l) H I (E _) x y z).mono ?_;rintro _ w' ⟨k,rfl,rfl,J,e,P,g,h,K⟩;refine Ok.mk ⟨rfl,e,⟨⟨m,f,q,by simpa using i⟩,J,P,h,?_⟩,K⟩;rw[IP,Mc f,<-Gm,<-zj (d:=d)];exact g
def WM:Md XP 199=true:=kR
def Me(a0:cO w p F d every l)(hT:eD b)(g0:ai b w)(c5:∀P,F P->b.heap.size<=P)(hn:a<=l.length):
  ZG 116 #[XL p,XH (a:Int)] w (Ok λa1 w'=>a1= .tuple #[]/\∃H,cO w' p H d every (l.take (a/every*every))/\bL F w H w'):=by
 obtain⟨⟨q,u,h3,h4⟩,n,h,rfl,g⟩:=a0;have c6:=g.bg;have e1:=g.aB;have c7:=aO.len (g.at' 5) dC;have I:=aO.len (g.at' 2) dC;rw[zj]at c7;obtain⟨k,v⟩:∃k,k=a/n.every:=⟨_,rfl⟩
 have s:k<=l.length/n.every:=by rw[v];exact Nat.div_le_div_right hn
 have J:k*n.every<=l.length:=Xx (Q0 _ s) (Nat.div_mul_le_self ..);have e2:k<=l.length:=Xx s (Nat.div_le_self ..);rw[<-v];have x:XG .i64 ((k:Int)*(n.every:Int))=((k*n.every:Nat):Int):=by
  rw[show((k:Int)*(n.every:Int))=((k*n.every:Nat):Int) by push_cast;rfl,wrap_i64 bc]
 have c8:XG .i64 ((k:Int)+1)=((k+1:Nat):Int):=aq oM;have ec:=aO.jX (g.at' 2);have qc:=aO.jX (g.at' 5);refine rb ⟨p,0,rfl,_,ae c6 rfl,aG.mk (Ra u oM) ⟨_,rfl,λK c9=>?_⟩⟩;rw[<-v,c8];simp only[Qx];have L:ai w K:=c9.af;have y:=dB.ah g L;have z:=y.bg;have a2:aT K F h (zh p n.cells {n with en:=k*n.every} d (cm d l) (dG d l).rows (l.take (k*n.every)) (jL d n.every l)):=y.same df (k:=2) (ak.refl _) (aO.take (y.at' 2) (show k*n.every<=n.en from I▸J)) λi G j m=>by
  rcases i with _|_|_|_|_|_|i<;>first|exact m|exact Zz rfl j
 refine⟨p,0,rfl,_,_,_,ae z rfl,p,0,rfl,_,ae z rfl,by rw[x];exact Int.natCast_nonneg _,by rw[x];exact Int.ofNat_le.2 (Xx J (I▸ec)),p,0,rfl,?_⟩;rw[x,Qx];refine PS.mk z sM λd0 M e3 N=>?_;have O:dB d0 F h p {n with en:=k*n.every} d (cm d l) (dG d l).rows (l.take (k*n.every)) (jL d n.every l):=dB.store a2 M N;refine⟨p,0,rfl,_,_,_,ae N rfl,oM,by show _<=((n.qn:Nat):Int);omega,?_⟩;have e:∀P,aF n.qa=some P->F P/\h P=5:=λP c=>aO.self (g.at' 5) P c;have a3:¬aF n.qa=some p:=λf=>by have q:=(e p f).2;rw[g.self.2]at q;cases q
 refine zl Ur WM (O.at' 5) (by show k+1<=n.qn;omega) λd1 a5 Q e4=>?_;have R:aT d1 F h (zh p ({n with en:=k*n.every}:vz).cells {n with en:=k*n.every,qn:=k+1} d (cm d l) (dG d l).rows (l.take (k*n.every)) ((jL d n.every l).take (k+1))):=O.same df (k:=5) (Q.mono λP _ c=>e P c) a5 λi G j m=>by
  rcases i with _|_|_|_|_|_|i<;>first|exact m|exact Zz rfl j
 have S:=(R.at' 0).2;refine⟨p,0,rfl,_,_,_,ae S rfl,oM,by show _<=((n.qc:Nat):Int);omega,p,0,rfl,PS.mk S sM λvy T e5 U=>?_⟩;have r:dB vy F h p {n with en:=k*n.every,qn:=k+1} d (cm d l) (dG d l).rows (l.take (k*n.every)) ((jL d n.every l).take (k+1)):=dB.store R T U;have A:ak F w vy:=(((ai.af L).then (M.mono λP _ f=>by have f:P=p:=f;rw[f];exact g.self.1)).then (Q.mono λP _ c=>(e P c).1)).then (T.mono λP _ f=>by have f:P=p:=f;rw[f];exact g.self.1);have d2:((jL d n.every l).take (k+1))[k]? =some (dG d (l.take (k*n.every))).rows:=by
  rw[Xw,Zx oM];exact Of s
 obtain⟨pb,po,es,d3,e6,e7,V,e8,ra,rn,rc,rfl,d4⟩:=(aO.row (bytes:=32) (r.at' 5) dC (by rw[Qy];unfold aK;omega)).el k _ d2;have c0:=V 0 dC;have c1:=V 1 dC;refine⟨p,0,rfl,_,_,_,ae U rfl,pb,po,d3,oM,by show(k:Int)<((k+1:Nat):Int);omega,_,_,_,_,c0,c1,PC.ok (CG r q (hT.ah (g0.new A λP c=>.inr (c5 P c))) (by rw[Qy];omega) d4 (λP c=>r.aB P c.1) (by rw[pk];exact(zi (my q).1).2.2.1)) ?_⟩;rintro _ W ⟨B,X,Y,Z,Fv,G,rfl,hv,b3,b4,t,b5⟩;have e9:=A.size;obtain⟨F1,e0,d5,f2,b6,-⟩:=r.Gp df (k:=3) (w':=W) (G':=Fv) (C2:=zh p ({n with en:=k*n.every,qn:=k+1}:vz).cells {n with en:=k*n.every,qn:=k+1,vp:=B} d (cm d (l.take (k*n.every))) (dG d l).rows (l.take (k*n.every)) ((jL d n.every l).take (k+1)))
  (ai.af b5) (λP c C=>by have:=b4 P c;have:=r.aB P C;omega) hv.aB hv λi G j m=>by
   rcases i with _|_|_|_|_|_|i<;>first|exact m|exact Zz rfl j
 obtain⟨F2,b7,b8,f3,d6,-⟩:=d5.Gp df (k:=4) (w':=W) (G':=G) (C2:=zh p ({n with en:=k*n.every,qn:=k+1}:vz).cells {n with en:=k*n.every,qn:=k+1,vp:=B,ra:=X,rn:=Y,rc:=Z} d (cm d (l.take (k*n.every))) (dG d (l.take (k*n.every))).rows (l.take (k*n.every)) ((jL d n.every l).take (k+1)))
  (ak.refl _) (λP c C=>by
   rcases b6 P C with o|o
   ·have:=(t P c).1;have:=r.aB P o.1;omega
   ·exact Zz o (t P c).2.2) (λP c=>(t P c).2.1) b3 λi G j m=>by
   rcases i with _|_|_|_|_|_|i<;>first|exact m|exact Zz rfl j
 have b9:∀P,F2 P->F P\/w.heap.size<=P:=λP c=>by
  rcases d6 P c with o|o
  ·rcases b6 P o.1 with E|E
   ·exact .inl E.1
   ·exact .inr (by have:=b4 P E;omega)
  ·exact .inr (by have:=(t P o).1;omega)
 have d7:=(b8.at' 0).2;refine⟨_,_,_,_,rfl,p,0,rfl,PS.mk d7 sM λf5 c3 f6 d8=>PS.mk d8 sM λf8 c4 g1 d9=>Ok.mk ⟨rfl,F2,⟨⟨q,u,h3,by rw[Qy];omega⟩,{n with en:=k*n.every,qn:=k+1,vp:=B,ra:=X,rn:=Y,rc:=Z},b7,rfl,?_⟩,?_,b9⟩⟩
 ·rw[<-Mf u s]
  exact dB.store b8 (c3.then c4) d9
 ·exact(A.ah b5).then ((c3.then c4).mono λP _ f=>by have f:P=p:=f;rw[f];exact g.self.1)

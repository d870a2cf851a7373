import Derived.Test.YtblabbpipmodgaaGreatDoorKp14
set_option maxHeartbeats 4000000
set_option linter.all false
set_option maxRecDepth 100000
open Go.IntKind renaming wrap→XG
namespace Go.Proofs.YtblabbpipmodgaaGreatDoor
open Go.aw
def KJ:eI cM Int where
 k:=13
 ci:=aM
 ib:=8
 inner:=(·.ev.aQ)
 hd:=λP a b c=>aD P.ev a b c++[.bool P.void,XH P.DT.1,XH P.DT.2]
 ok:=λP=>P.ev.Ok
 hl:=λ_ _ _ _=>rfl
 h1:=λP a b c e d=>by
  simp only[aD,List.cons_append,List.nil_append,Q2,List.not_mem_nil,or_false]at d;rcases d with rfl|rfl|rfl|rfl|rfl|rfl|rfl|rfl|rfl|rfl|rfl|rfl|rfl<;>rfl
 o:=3
 ho:=dC
 fj:=λ_ _ _ _ _ _ _=>rfl
abbrev xB:ju cM:=KJ.Me
abbrev gD(P:cM)(a:ZH)(b c:Nat):List Value:=aD P.ev a b c++[.bool P.void,XH P.DT.1,XH P.DT.2]
def PV:iH XP 43 160 13 120:=⟨kR,kR,dC⟩
def kN(P:cM)(a:ZH)(b c:Nat):ia XP 160 (gD P a b c)=true:=kR
def NM(P:cM)(a:ZH)(b c:Nat):Qh (ft XP 160) (.agg (gD P a b c).toArray)=true:=kR
def PY:II XP 252 3:=⟨kR,kR,⟨ "typ", "no",kR,dC,dC⟩,kR,kR,kR⟩
def RY:vf XP 306 252 3:=⟨PY,kR,⟨ "agg", "field",kR,dC,dC⟩,kR,kR,kR⟩
def TK:ic XP 252 ob:=PY.key
def Wa:ic XP 306 By:=RY.key
def Wb:lZ XP 239 252 42 (.agg #[XH 0,.slice none 0 0]):=⟨kR,kR⟩
def Wl:lZ XP 240 306 50 (.slice none 0 0):=⟨kR,kR⟩
inductive IA where
 |self|st|dn|NB|PZ|UN
 |done (k:Int×Int×Int)
structure DQ where
 ta:ZH
 tn:Nat
 tc:Nat
 pa:ZH
 pn:Nat
 pc:Nat
 ea:ZH
 en:Nat
 ec:Nat
 r1:Nat
 r2:Nat
 l1:List ((Int×Int)×Value)
 l2:List ((Int×Int×Int)×Value)
 cls:Nat->IA
abbrev DQ.P(a:DQ)(b:XN)(c:IA):XN:=λP=>b P/\a.cls P=c
def UZ(c:World)(D:XN)(d:Value)(P:lJ):Prop:=∃a b e,d= .agg #[XH P.version,.slice a b e]/\Row fg 32 c D a b P.cells
def U_(c:World)(D:XN)(d:Value)(e:List aj):Prop:=∃P a b,d= .slice P a b/\aT h_ 55 D c P a b e
structure xy (w:World) (p:Nat) (F:XN) (V:aY) (q:DQ):Prop where
 at':w.heap[p]? =some (.cells #[.slice q.ta q.tn q.tc,.slice q.pa q.pn q.pc,.slice q.ea q.en q.ec,.map (some q.r1),.map (some q.r2)] 242 (0,0))
 PZ:bf w (q.P F .PZ) V.decl q.ta q.tn q.pa q.pn
 NB:aT xB 160 (q.P F .NB) w q.ea q.en q.ec V.entries
 st:bR w q.r1 ob q.l1
 UO:e_ (UZ w (q.P F .UN)) q.l1 V.et
 dn:bR w q.r2 By q.l2
 Va:nI (λk=>U_ w (q.P F (.done k))) q.l2 V.done
 aF:∀b,F b->b<w.heap.size
 lp:F p/\q.cls p= .self
 l1:F q.r1/\q.cls q.r1= .st
 l2:F q.r2/\q.cls q.r2= .dn
def cy(a:World)(b:Nat)(c:XN)(P:aY):Prop:=P.OK/\∃d,xy a b c P d
variable{C:List aj}{d r:ZH}{u:Value}{J:aR}
section
variable {w w':World} {p:Nat} {F T D:XN} {V:aY} {q:DQ}
def UZ.af{P:lJ}(b:UZ w D u P)(c:ak T w w')(d:∀a,D a->¬T a):UZ w' D u P:=by
 obtain⟨e,f,g,h,i⟩:=b;exact⟨e,f,g,h,i.af c d⟩
def U_.af(a:U_ w D u C)(b:ak T w w')(c:∀P,D P->¬T P):U_ w' D u C:=by
 obtain⟨d,e,f,g,h⟩:=a;exact⟨d,e,f,g,h.af b c⟩
def xy.af(P:xy w p F V q)(c:ak T w w')(d:∀a,F a->¬T a):xy w' p F V q:=
 ⟨c.get P.at' (d _ P.lp.1),P.PZ.af c λa b=>d a b.1,P.NB.af c λa b=>d a b.1,P.st.af c (d _ P.l1.1),P.UO.mono λf g e=>e.af c λa b=>d a b.1,
  P.dn.af c (d _ P.l2.1),P.Va.mono λh f g e=>e.af c λa b=>d a b.1,λa b=>Qk (P.aF a b) c.size,P.lp,P.l1,P.l2⟩
def xy.ah(P:xy w p F V q)(a:ai w w'):xy w' p F V q:=P.af a λ_ _ P=>P
def cy.af(P:cy w p F V)(b:ak T w w')(c:∀a,F a->¬T a):cy w' p F V:=⟨P.1,P.2.imp λq d=>d.af b c⟩
def cy.ah(P:cy w p F V)(a:ai w w'):cy w' p F V:=P.af a λ_ _ P=>P
def cy.aF(a:cy w p F V):∀P,F P->P<w.heap.size:=a.2.elim λq b=>b.aF
def cy.self(P:cy w p F V):F p:=P.2.elim λq a=>a.lp.1
def Gf{tn u m v:Nat}(x:di J=0)(y:bf w D J d tn r m)(z:∀P,D P->P<w.heap.size):
  ZG 78 #[.agg #[.slice d tn u,.slice r m v]] w (Ok λA w'=>∃p F,A= XL p/\cy w' p F (aY.new J)/\(∀P,F P->w.heap.size<=P)/\ai w w'):=by
 refine Jf (PA.mk λK n L o=>⟨_,_,_,_,_,_,ae o rfl,ae o rfl,PC.ok (Cd (y.ah n) λP a=>by have:=z P a;omega) ?_⟩);rintro _ e ⟨g,Ab,h,i,j,k,G,rfl,B,C,q⟩;refine⟨_,_,_,_,_,_,rfl,PA.mk λb s M E=>PA.mk λc l N H=>PA.mk λt f O I=>Ok.mk ⟨c.heap.size,λP=>w.heap.size<=P/\P<t.heap.size,rfl,⟨aY.se x,
  ⟨⟨g,Ab,h,i,j,k,none,0,0,e.heap.size,b.heap.size,[],[],λP=>if P=c.heap.size then .self else if P=e.heap.size then .st else if P=b.heap.size then .dn else .PZ⟩,?_⟩⟩,λP a=>a.1,((n.then q).then s).then (l.then f)⟩⟩
 have Q:=q.size;refine⟨I,?_,?_,bR.new (f.get (l.get E id) id),trivial,bR.new (f.get H id),trivial,λP a=>a.2,⟨⟨by show w.heap.size<=c.heap.size;omega,by show c.heap.size<_;omega⟩,Zx rfl⟩,⟨⟨by show w.heap.size<=e.heap.size;omega,by show e.heap.size<_;omega⟩,?_⟩,⟨⟨by show w.heap.size<=b.heap.size;omega,by show b.heap.size<_;omega⟩,?_⟩⟩
 ·refine(((B.ah s).ah l).ah f).mono λP a=>?_
  have:=C P a;refine⟨⟨oM,oM⟩,?_⟩;show(if P=c.heap.size then _ else _)=_;rw[Zq oM,Zq oM,Zq oM]
 ·exact(aT.nil t).mono (λP a=>a.elim) λP a=>a.1.2
 ·show(if e.heap.size=c.heap.size then _ else _)=_
  rw[Zq oM,Zx rfl]
 ·show(if b.heap.size=c.heap.size then IA.self else if b.heap.size=e.heap.size then IA.st else if b.heap.size=b.heap.size then IA.dn else IA.PZ)=IA.dn
  rw[Zq oM,Zq oM,Zx rfl]
abbrev FP:lJ:=⟨0,[]⟩
def mP(k:cy w p F V){b c:Int}:
  ZG 84 #[XL p,XH b,XH c] w (Ok λr w'=>∃d e f G,r= .tuple #[.agg #[XH ((V.state b c).getD FP).version,.slice d e f],.bool (V.state b c).isSome]/\aT fg 84 G w' d e f ((V.state b c).getD FP).cells/\(∀P,G P->w.heap.size<=P)/\ai w w'):=by
 obtain⟨T,q,k⟩:=k;refine tL (PA.mk λs t U z=>?_);have j:=k.ah t;refine⟨p,0,rfl,_,ae j.at' rfl,l_ (enc:=ob) (k:=(b,c)) Wb TK j.st ?_⟩;obtain⟨i,P,d,e,f,g,h,A,B,l⟩:∃(i:lJ) (P:Bool) (d:ZH) (e f:Nat),(az q.l1 (b,c)).getD (.agg #[XH 0,.slice none 0 0])= .agg #[XH i.version,.slice d e f]/\(az q.l1 (b,c)).isSome=P/\(V.state b c).getD FP=i/\(V.state b c).isSome=P/\Row fg 32 s (q.P F .UN) d e i.cells:=by
  unfold aY.state;rcases j.UO.az (b,c)with⟨g,h⟩|⟨r,i,g,h,d,e,f,rfl,l⟩
  ·exact⟨FP,false,none,0,0,by rw[g];rfl,by rw[g];rfl,by rw[h];rfl,by rw[h];rfl,Row.nil _ _⟩
  ·exact⟨i,true,d,e,f,by rw[g];rfl,by rw[g];rfl,by rw[h];rfl,by rw[h];rfl,l⟩
 rw[g,h,A,B];refine⟨_,_,_,_,_,rfl,PA.mk λW C X E=>PS.mk E sM λY H Z I=>PS.mk I sM λJ K s7 u=>?_⟩;have m:ai s J:=(C.new H λP a=>.inr oM).new K λP a=>.inr oM;refine⟨_,_,_,_,ae u rfl,ae u rfl,PC.ok (JA (l.ah m) λP a=>by have:=j.aF P a.1;omega) ?_⟩;rintro _ w8 ⟨L,M,N,G,rfl,O,n,o⟩;have Q:=o.get (m.get z id) id;have z8:=o.size;refine⟨_,_,_,_,rfl,PS.mk Q sM λw9 v s9 R=>PS.mk R sM λa0 x a1 y=>⟨_,_,_,_,ae y rfl,ae y rfl,Ok.mk ⟨L,M,N,G,rfl,?_,?_,?_⟩⟩⟩
 ·exact(O.af v λP a S=>by have:=n P a;omega).af x λP a S=>by have:=n P a;omega
 ·intro P a;have:=n P a;omega
 ·exact(((t.then m).then o).new v λP a=>.inr oM).new x λP a=>.inr oM
end
variable{e q:Int}{c3:List bj}{a c i n:Nat}{g:TypeId}{b3:bj}{d7:iG}
section
variable {w w':World} {D D' S:XN} {d:aR} {ta pa:ZH} {tn tc pn pc:Nat}
def wI{a b op arg:Int}(S:eG w)(k:bf w D d ta tn pa pn)(T:∀g,D g->g<w.heap.size):
  ZG 151 #[.agg #[.slice ta tn tc,.slice pa pn pc],XH a,XH b,XH op,XH arg] w (Ok λf w'=>f= XH (ko d a b op arg)/\ai w w'):=by
 refine BV (PA.mk λw1 B s1 C=>⟨_,_,_,_,_,_,ae C rfl,ae C rfl,PC.ok (nN (k.ah B) λg s=>by have:=T g s;omega) ?_⟩);rintro f w2 ⟨U,p⟩;have q:=B.then U
 cases l:d.Cs a b with
 |none=>
  rw[l]at p;refine bX (HT UD none 0 0) ⟨_,p,PA.mk λV t W u=>aB (eS _ _ _ _) u rfl λX v Y E=>an.tt rfl (Ok.mk ⟨?_,(q.then t).new v λg s=>.inr (by have:=q.size;omega)⟩)⟩;unfold ko;rw[l]
 |some h=>
  rw[l]at p;obtain⟨r,i,F,a5,rfl,Z,hF⟩:=p;have x:ko d a b op arg=if !within op 1 5||pW op !=h.kind then 2 else if op==1&&arg==0||op==5&& !within arg 0 (h.bq.length-1)then 1 else 0:=by unfold ko;rw[l]
  have hz:=q.size;refine bX (HT h r i F) ⟨_,rfl,PA.mk λV t W u=>aB (eS h r i F) u rfl λX v Y E=>an.ff rfl λy H=>PC.ok cf ?_⟩;rintro _ _ ⟨rfl,rfl⟩;have I:=(bQ.af (S:=λ_=>False) H).get E id;have J:ai w y:=((q.then t).new v λg s=>.inr oM).then H.af;have P:∀z:Int,ko d a b op arg=z->Ok (λf w'=>f= XH (ko d a b op arg)/\ai w w') (.returned (XH z)) y:=λz k=>Ok.mk ⟨by rw[k],J⟩;refine⟨_,rfl,an.not (an.mk (λe=>?_) (λe=>P 2 (by rw[x,e];rfl)))⟩;have a6:=bB.1 e;refine⟨1,0,rfl,oM,oM,pW op,?_,_,ae I rfl,an.dI (λa0=>P 2 ?_) (λhe=>?_)⟩
  ·have:=(S.ah J).kinds op.toNat oM
   rw[Xz,this,Int.toNat_of_nonneg oM]
  ·rw[x,e,Zx (by simpa using a0)]
  have m:ko d a b op arg=if op==1&&arg==0||op==5&& !within arg 0 (h.bq.length-1)then 1 else 0:=by rw[x,e,he];simp
  have hn:i=h.bq.length:=Z.len dC;have a7:i<=140737488355328:=by
   obtain⟨a1,Ab,K,-⟩:∃(r:ZH) (i:Nat),Row fF 32 w D r i h.bq/\True:=by
    obtain⟨j,n,a8,a3,a9,A,h3,h4⟩:=aR.vd l;have b0:=k.aX.len;obtain⟨g,a2,T',es,rfl,_,_,o,L,b1,n1,c1,rfl,M⟩:=k.aX.at (i:=a) j oM;rw[a3]at o;cases o
    have b2:=M.len;obtain⟨b3,b4,x',b5,rfl,_,_,N,b6,b7,n2,c2,rfl,hM,_⟩:=M.at (i:=b) A oM;rw[h4]at N;cases N
    exact⟨_,_,hM,trivial⟩
   have n:=K.len;have A:=K.dB;unfold aO at A;omega
  have bq:∀{O:List PanicEntry->XU},op=5->PC XP 125 #[XH arg,XH 0,XH (XG .i64 ((i:Int)-1))] y (λa4 Q=>∃R:Bool,a4= .bool R/\an (!R) (Ok (λf w'=>f= XH (ko d a b op arg)/\ai w w') (.returned (XH 1)) Q) (Ok (λf w'=>f= XH (ko d a b op arg)/\ai w w') (.returned (XH 0)) Q)) O:=by
   intro O c;refine PC.ok cf ?_;rintro _ _ ⟨rfl,rfl⟩;rw[wrap_i64 bb,hn];refine⟨_,rfl,an.not (an.mk (λe=>P 0 ?_) (λe=>P 1 ?_))⟩
   ·rw[m,e,c];rfl
   ·rw[m,e,c];rfl
  refine an.dO (λn=>an.dO (λj=>an.dO (λ_=>P 1 (by rw[m,n,j];rfl)) (λL=>Zz j L)) (λj=>an.dO (λc=>Zz c oM) (λc=>P 0 ?_))) (λn=>an.dO (λc=>⟨_,_,_,ae I rfl,bq c⟩) (λc=>P 0 ?_))
  ·rw[m,Zq (by simp[j,c])]
  ·rw[m,Zq (by simp[n,c])]
def DJ{g:ZH}(b:Row oq 48 w D g a c3):
  ZG 128 #[.agg #[.slice g a c],XH e,XH q] w (Ok λj w'=>j= .bool (Qd c3 e q)/\ai w w'):=by
 have h:=b.len;have k:=b.dB;unfold aO at k;refine GC (PA.mk λo d p i=>⟨_,_,_,ae i rfl,PC.ok cf ?_⟩);rintro _ _ ⟨rfl,rfl⟩;rw[wrap_i64 bb];refine⟨_,rfl,an.mk (λP=>?_) (λP=>Ok.mk ⟨?_,d⟩)⟩
 ·have r:=bB.1 P
  obtain⟨l,f,s,t,rfl,_,_,m,n,u,v,x,rfl,_⟩:=(b.ah d).at (i:=e) oM oM;refine⟨_,_,_,ae i rfl,l,f,rfl,oM,oM,_,n 0 dC,Ok.mk ⟨?_,d⟩⟩;unfold Qd;rw[<-h,P,m];rfl
 ·unfold Qd;rw[<-h,P];rfl
def RJ(a:1<=e/\e<=4)(b:1<=q/\q<=3):∃P:Int,(∀w',(do eqGuard .shr 3 (.tmp 19) (.tmp 21) (XH (([0,2,14,6,6]:List Int).getD e.toNat 0)) (XH q);binOp .shr 3 (XH (([0,2,14,6,6]:List Int).getD e.toNat 0)) (XH q):Sem Value).run XP w'= .ok (XH P) w')/\((En .i64 P 1==0)= !Ps e q):=by
 refine⟨(([0,2,14,6,6]:List Int).getD e.toNat 0).fdiv (2 ^ q.toNat),?_,?_⟩<;>rcases(by omega:e=1\/e=2\/e=3\/e=4)with rfl|rfl|rfl|rfl<;>rcases(by omega:q=1\/q=2\/q=3)with rfl|rfl|rfl<;>first
  |(intro w';kernel_rfl)
  |decide
def Ky(m:jw):Bool:=decide (m.bP<0)||decide (m.oN<0)||m.ku== -1&&m.least !=0
def RL{c:jw}:ZG 126 (#[]++ #[.agg (mR c).toArray]++ #[]) w (Ok λf w'=>f= .bool (Ky c)/\ai w w'):=by
 refine vD (PA.mk λg a h b=>⟨_,ae b rfl,an.dec (λP=>Ok.mk ⟨by simp[Ky,P],a⟩) (λd=>⟨_,ae b rfl,an.dec (λP=>Ok.mk ⟨by simp[Ky,P],a⟩) (λe=>⟨_,ae b rfl,an.dO (λP=>⟨_,ae b rfl,Ok.mk ⟨by simp[Ky,d,e,P],a⟩⟩) (λP=>Ok.mk ⟨by simp[Ky,d,e,P],a⟩)⟩)⟩)⟩)
def Ik(a:List bj)(P:jw):Bool:=P.ku != -1&& !Qd a P.ku 1
def RM{b:jw}{e:ZH}(h:Row oq 48 w D e c c3)(j:w.heap[a]? =some (.cells #[.slice e c i] g (0,0))):
  ZG 127 (#[]++ #[.agg (mR b).toArray]++ #[XL a]) w (Ok λk w'=>k= .bool (Ik c3 b)/\ai w w'):=by
 refine vE (PA.mk λm P n f=>⟨_,ae f rfl,an.dI (λd=>⟨_,_,_,ae (P.get j id) rfl,_,ae f rfl,PC.ok (DJ (h.ah P)) ?_⟩) (λd=>Ok.mk ⟨by simp[Ik,d],P⟩)⟩);rintro _ o ⟨rfl,l⟩;exact⟨_,rfl,Ok.mk ⟨by unfold Ik;rw[show(b.ku != -1)=true by simpa using d];simp,P.then l⟩⟩
def FE{y z:ZH}(H:eG w)(I:Row oq 48 w D y a c3)(A:Row fF 32 w D z i b3.bq):
  ZG 68 #[.agg #[.slice y a c],.agg (dy b3 z i n).toArray] w (Ok λp w'=>p= XH (fe c3 b3)/\ai w w'):=by
 refine zy (PA.mk λV J W K=>PA.mk λq B X r=>⟨_,ae r rfl,PC.ok cf ?_⟩);rintro _ _ ⟨rfl,rfl⟩;have C:=J.then B;refine⟨_,rfl,an.not (an.mk (λf=>?_) (λf=>Ok.mk ⟨by unfold fe;rw[f];rfl,C⟩))⟩;have s:=bB.1 f;refine⟨λw'=>ai w w'/\q.heap.size<=w'.heap.size/\ai q w'/\within b3.dJ 1 3=true/\Ps b3.kind b3.dJ=true/\(b3.floor&&b3.kind !=1)=false,λl E=>?_,?_⟩
 ·have d:=(bQ.af (S:=λ_=>False) E).get r id
  have e:ai q l:=E.af;have P:ai w l:=C.then e;have g:fe c3 b3=1->Ok (λp w'=>p= XH (fe c3 b3)/\ai w w') (.returned (XH 1)) l:=λj=>Ok.mk ⟨by rw[j],P⟩;refine⟨_,ae d rfl,PC.ok cf ?_⟩;rintro _ _ ⟨rfl,rfl⟩;refine⟨_,rfl,an.not (an.mk (λb=>?_) (λb=>g (by unfold fe;rw[f,b];rfl)))⟩;have t:=bB.1 b;obtain⟨L,M,N⟩:=RJ s t;refine⟨_,ae d rfl,0,0,rfl,oM,oM,_,by rw[Xz];exact(H.ah P).UE b3.kind.toNat oM,_,ae d rfl,L,M,?_⟩;refine an.mk (λm=>?_) (λm=>?_)<;>rw[N]at m
  ·exact g (by unfold fe;rw[f,b,show Ps b3.kind b3.dJ=false by simpa using m];rfl)
  have k:Ps b3.kind b3.dJ=true:=by simpa using m
  refine⟨_,ae d rfl,an.mk (λu=>⟨_,ae d rfl,an.dI (λO=>g ?_) (λQ=>⟨P,e.size,e,b,k,by simp[Q]⟩)⟩) (λu=>⟨P,e.size,e,b,k,by simp[u]⟩)⟩;unfold fe;rw[f,b,k,u];simp[O]
 ·rintro Y l ⟨P,Z,e,b,k,R⟩
  have d:=e.get r id;have v:fe c3 b3=if b3.bq.any Ky then 1 else if b3.bq.any (Ik c3)then 8 else 0:=by
   unfold fe;rw[f,b,k,R];rfl
  refine⟨_,_,_,ae d rfl,PC.ok (Ij (p:=Ky) (A.ah P) kR λS T h=>RL) ?_⟩;rintro _ T ⟨rfl,h⟩;refine⟨_,rfl,an.mk (λj=>Ok.mk ⟨by rw[v,Zx j],P.then h⟩) (λj=>⟨_,_,_,ae (h.get d id) rfl,PC.ok (Ij (p:=Ik c3) (A.ah (P.then h)) kR λS U o=>RM (I.ah ((P.then h).then o)) (o.get (h.get (e.get (B.get K id) id) id) id)) ?_⟩)⟩;rintro _ U ⟨rfl,o⟩;have F:=(P.then h).then o;exact⟨_,rfl,an.mk (λx=>Ok.mk ⟨by rw[v,j,x];rfl,F⟩) (λx=>Ok.mk ⟨by rw[v,j,x];rfl,F⟩)⟩
def TD{P b kind:Int}(c:(d.Cs P b).isSome):∃a,d.types[P.toNat]? =some a/\d.at P=a/\0<=P/\P<d.types.length:=by
 obtain⟨j,e⟩:=Option.isSome_iff_exists.1 c;obtain⟨f,g,a,h,i,_⟩:=aR.vd e;exact⟨a,h,i,f,g⟩
def FG(r:bf w D d ta tn pa pn)(O:∀P,D P->P<w.heap.size):
  ZG 69 #[.agg #[.slice ta tn tc,.slice pa pn pc],.agg (mQ d7).toArray] w (Ok λC w'=>C= XH (lr d d7)/\ai w w'):=by
 refine zz (PA.mk λZ E s1 s=>PA.mk λw2 h s2 m=>⟨_,_,_,_,_,_,ae (h.get s id) rfl,ae (h.get s id) rfl,_,ae m rfl,_,ae m rfl,PC.ok (nN (r.ah (E.then h)) λP c=>by have:=O P c;omega) ?_⟩);rintro C w3 ⟨i,n⟩;have t:=(E.then h).then i;have hz:=i.size
 cases j:d.Cs d7.aX d7.field with
 |none=>
  rw[j]at n;refine bX (HT UD none 0 0) ⟨_,n,PA.mk λQ e R u=>aB (eS _ _ _ _) u rfl λo f S T=>an.tt rfl (Ok.mk ⟨?_,(t.then e).new f λP c=>.inr oM⟩)⟩;unfold lr;rw[j];rfl
 |some F=>
  rw[j]at n;obtain⟨H,I,J,a0,rfl,ho,hF⟩:=n;have K:(d.Cs d7.aX d7.field).isNone=false:=by rw[j];rfl
  refine bX (HT F H I J) ⟨_,rfl,PA.mk λQ e R u=>aB (eS F H I J) u rfl λo f S T=>an.ff rfl ⟨λP w'=>P=(d7.group==3&& !Qd (d.at d7.aX) d7.DT 2||d7.group !=3&&d7.DT !=0)/\ai o w',?_,?_⟩⟩
  ·have U:ai w o:=(t.then e).new f λP c=>.inr oM
   intro v V;have a:ai o v:=V.af;have W:=a.get (f.get (e.get (i.get (h.get s id) id) id) oM) id;have b:=a.get (f.get (e.get (i.get m id) id) oM) id;refine⟨_,ae b rfl,an.dO (λg=>⟨_,_,_,ae W rfl,_,ae b rfl,?_⟩) (λg=>⟨_,ae b rfl,an.dI (λ_=>⟨_,ae b rfl,?_,a⟩) (λk=>Zz k g)⟩)⟩
   ·obtain⟨a1,X,L,M,h1⟩:=TD (kind:=0) (by rw[j];rfl:(d.Cs d7.aX d7.field).isSome)
    have hl:=r.aX.len;obtain⟨P,x,T',es,rfl,_,_,l,k,a2,n1,c1,rfl,Y⟩:=((r.ah (U.then a)).aX).at (i:=d7.aX) M oM;rw[X]at l;cases l
    have N:=k 0 dC;simp only[jO,Nat.mul_one,Nat.add_zero]at N;refine⟨P,x,rfl,M,oM,_,_,_,N,_,ae b rfl,PC.ok (DJ Y) ?_⟩;rintro _ w7 ⟨rfl,y⟩;refine⟨_,rfl,an.not (an.mk (λz=>⟨_,ae (y.get b id) rfl,an.dI (λk=>Zz g k) (λ_=>⟨?_,a.then y⟩)⟩) (λz=>⟨?_,a.then y⟩))⟩
    ·rw[L,z,g];rfl
    ·rw[L,z,g];rfl
   ·rw[show(d7.group==3)=false by simpa using g,show(d7.group !=3)=true by simpa using g];rfl
  ·rintro P a3 v ⟨rfl,a⟩
   have p:ai w v:=((t.then e).new f λP c=>.inr oM).then a;have b:=a.get (f.get (e.get (i.get m id) id) oM) id;refine an.mk (λc=>Ok.mk ⟨by unfold lr;rw[K,Zq sM,Zx c],p⟩) (λc=>⟨_,ae b rfl,PC.ok cf ?_⟩);have A:lr d d7=if !within d7.group 1 3|| !within d7.make 1 5 then 2 else 0:=by unfold lr;rw[K,Zq sM,c];rfl
   rintro _ _ ⟨rfl,rfl⟩;refine⟨_,rfl,an.not (an.mk (λq=>⟨_,ae b rfl,PC.ok cf ?_⟩) (λq=>Ok.mk ⟨by rw[A,q];rfl,p⟩))⟩;rintro _ _ ⟨rfl,rfl⟩;exact⟨_,rfl,an.not (an.mk (λB=>Ok.mk ⟨by rw[A,q,B];rfl,p⟩) (λB=>Ok.mk ⟨by rw[A,q,B];rfl,p⟩))⟩
end
def RZ(P:Int×Int×Int):ia XP 306 [XH P.1,XH P.2.1,XH P.2.2]=true:=kR
def IB{P c:Type}[BEq P][LawfulBEq P]{a:P}{f d:c}:∀b:List (P×c),aK (aK b a f) a d=aK b a d
 |[]=>by simp[aK]
 |(g,h)::b=>by
  by_cases e:a==g
  ·simp[e,aK]
  ·simp[e,aK,IB b]
variable{K:Bool}{d5:Int×Int}{b:World}{m:aj}
section
variable {w w':World} {p:Nat} {F T D:XN} {V:aY} {q:DQ}
def FN(w:World)(p:Nat)(F D:XN)(V:aY)(P:aj)(c:Value)(w':World):Prop:=
 c= .tuple #[.bool (V.try P).1,.agg #[XH (V.try P).2.1.1,XH (V.try P).2.1.2]]/\∃b,cy w' p b (V.try P).2.2/\ak F w w'/\∀a,b a->F a\/D a\/w.heap.size<=a
def P_(b:cy w p F V)(P:ai w w')(a:V.try m=(K,d5,V)):Ok (FN w p F D V m) (.returned (.tuple #[.bool K,.agg #[XH d5.1,XH d5.2]])) w':=by
 refine Ok.mk ⟨by rw[a],F,?_,ai.af P,λK c=>.inl c⟩;rw[a];exact b.ah P
def DS(i:xy b p F V q)(P:Int×Int×Int):∃a c d e,(az q.l2 P).getD (.slice none 0 0)= .slice a c d/\(az V.done P).getD []=e/\(aT h_ 55 (q.P F (.done P)) b a c d e):=by
 rcases i.Va.az P with⟨f,g⟩|⟨l,e,f,g,a,c,d,rfl,k⟩
 ·exact⟨none,0,0,[],by rw[f];rfl,by rw[g];rfl,(aT.nil b).mono (λj h=>h.elim) λj h=>i.aF j h.1⟩
 ·exact⟨a,c,d,e,by rw[f];rfl,by rw[g];rfl,k⟩
def Qa(e:cy w p F V)(hT:eG w)(hr:Row aM 8 w D d a m.aQ)(C:∀P,D P->P<w.heap.size/\¬F P)(he:m.Ok)(b:((az V.done (m.aX,m.agg,m.field)).getD []).length<=20000000):
  ZG 146 #[XL p,js m d a c] w (Ok (FN w p F D V m)):=by
 have l0:=e;obtain⟨hV,q,e⟩:=e;have g:=e.aF;have B9:=g _ e.lp.1;refine xW (PA.mk λE t7 C0 t8=>PA.mk λo4 o5 C1 t9=>λl3 o6=>?_);have l4:ai o4 l3:=o6.af;have C2:l3.heap.size=o4.heap.size:=by rw[o6.heap]
 have k0:ai w l3:=(t7.then o5).then l4;have ge:=l4.get (o5.get t8 id) id;have gb:=l4.get t9 id;have Q:=e.ah k0;refine⟨p,0,rfl,_,_,_,_,_,_,ae Q.at' rfl,ae Q.at' rfl,_,ae ge rfl,_,ae ge rfl,_,ae ge rfl,_,ae ge rfl,PC.ok (wI (hT.ah k0) Q.PZ λP b=>Q.aF P b.1) ?_⟩;rintro _ R ⟨rfl,S⟩;have k1:=k0.then S;have C3:=S.size;have c0:=S.get gb id;have c1:=S.get ge id;have l:∀{w1:World} {i:Int×Int} {P:Bool},ai R w1->V.try m=(P,i,V)->∀w2,bQ w1 w2->∀(x H:Int),x=i.1->H=i.2->PS w2 ⟨E.heap.size,0,none⟩ (XH x) λw3=>PS w3 ⟨E.heap.size,0+1,none⟩ (XH H) λw4=>∃(o7 o8:Int),w4.cell? ⟨E.heap.size,0,none⟩=some (XH o7)/\w4.cell? ⟨E.heap.size,0+1,none⟩=some (XH o8)/\Ok (FN w p F D V m) (.returned (.tuple #[.bool P,.agg #[XH o7,XH o8]])) w4:=λ{w1 i P} hk I w2 f9 x H hx k=>by
  have k2:ai w1 w2:=f9.af;have kk:=(k1.then hk).then k2;have g2:=k2.get (hk.get c0 id) id;subst hx k;refine PS.mk g2 sM λw3 k3 s3 g3=>PS.mk g3 sM λw4 J s4 g4=>⟨_,_,ae g4 rfl,ae g4 rfl,P_ l0 ((kk.new k3 λP b=>.inr oM).new J λP b=>.inr oM) I⟩
 refine⟨_,rfl,an.dI (λd5=>λu0 o9=>?_) (λg7=>?_)⟩
 ·have p0:=(o9.af (S:=λ_=>False)).get c0 id
  exact⟨_,_,ae p0 rfl,ae p0 rfl,l (i:=(0,0)) (ak.refl _) (by rw[aY.qJ,Zx d5]) u0 o9 _ _ rfl rfl⟩
 obtain⟨c3,t0,t1,C4⟩:=LQ hV.decl g7 (hV.len m);obtain⟨v,p1⟩:∃v:Nat,m.aX=v:=⟨m.aX.toNat,oM⟩
 have l5:=c3.f0;have l6:=c3.f1;obtain⟨fi,g0⟩:∃fi:Nat,m.field=fi:=⟨m.field.toNat,oM⟩
 have u1:V.decl.at m.aX=V.decl.types.getD v []:=by
  unfold aR.at;rw[Zx (bB.2 ⟨t0,oM⟩),p1,Qx]
 obtain⟨tb,oN,es,u2,u3,p2,u4,fa,fn,fc,rfl,y⟩:=(Q.ah S).PZ.aX.el v V.decl.types[v] sM;have y:Row oq 48 R (q.P F .PZ) fa fn (V.decl.at m.aX):=by
  rw[u1];have:V.decl.types.getD v []=V.decl.types[v]:=by simp[QQ,show v<V.decl.types.length by omega]
  rw[this];exact y
 have C5:=(Q.ah S).PZ.aX.len;have g8:=u4 0 dC;have u5:jO.k=1:=rfl;rw[u5,Nat.mul_one]at g8;have u6:=g tb p2.1;refine⟨λT u7 ab ao w'=>u7=0/\ao=0/\ai R w'/\w'.heap[T]? =some (.cells #[.slice fa fn fc] 130 (0,0))/\w'.heap[ab]? =some (.cells #[XH m.aX,XH m.agg,XH m.field] 306 (0,0))/\R.heap.size<=T/\R.heap.size<=ab,?_,?_⟩
 ·intro K p3
  have d6:ai R K:=p3.af;have C6:K.heap.size=R.heap.size:=by rw[p3.heap]
  have p4:=(Q.ah S).ah d6;have c4:=d6.get c1 id;refine⟨λP=>K.heap.size<=P,p,0,rfl,oM,_,_,_,ae p4.at' rfl,by show¬K.heap.size<=w.heap.size;omega,_,ae c4 rfl,tb,oN,u2,t0,by omega,by show¬K.heap.size<=tb;omega,fa,fn,fc,?_,by show¬K.heap.size<=w.heap.size;omega,_,ae c4 rfl,by show¬K.heap.size<=w.heap.size;omega,_,ae c4 rfl,by show¬K.heap.size<=w.heap.size;omega,_,ae c4 rfl,?_,?_⟩
  ·rw[p1,Qx]
   exact(d6.cell (a:=⟨tb,oN+v,none⟩) u3 id).trans g8
  ·refine PA.mk λu9 d7 v0 l7=>⟨ai.af d7,PA.mk λv1 U v2 l8=>⟨ai.af U,PS.mk (U.get l7 id) sM λv3 W v4 l9=>⟨W.mono λP _ m=>oM,aB (RZ (m.aX,m.agg,m.field)) (W.get l8 oM) rfl λv5 X v6 m0=>⟨X.mono λP _ m=>oM,rfl,rfl,?_,X.get l9 oM,m0,oM,oM⟩⟩⟩⟩
   exact(((d6.then d7).then U).new W λP b=>.inr oM).new X λP b=>.inr oM
  ·refine PA.mk λu9 d7 v0 l7=>⟨ai.af d7,PA.mk λv1 U v2 l8=>⟨ai.af U,PS.mk l8 sM λv3 W v4 l9=>⟨W.mono λP _ m=>oM,aB (RZ (m.aX,m.agg,m.field)) (W.get (U.get l7 id) oM) rfl λv5 X v6 m0=>⟨X.mono λP _ m=>oM,rfl,rfl,?_,X.get l9 oM,m0,oM,oM⟩⟩⟩⟩
   exact(((d6.then d7).then U).new W λP b=>.inr oM).new X λP b=>.inr oM
 rintro T _ ab _ _ p5 ⟨rfl,rfl,p6,p7,g9,y6,C7⟩;have k2:=k1.then p6;have d8:=e.ah k2;obtain⟨da,dn,dc,j,v7,m1,p8⟩:=DS d8 (m.aX,m.agg,m.field);rw[m1]at b;refine⟨p,0,rfl,_,ae d8.at' rfl,ar (cs:=[XH m.aX,XH m.agg,XH m.field]) (RZ (m.aX,m.agg,m.field)) g9 ⟨da,dn,dc,λb1=>?_,λp9 v8=>?_⟩⟩
 ·have:=ei Wl Wa (d8.dn.ah (ak.drewN p5 b1)) (m.aX,m.agg,m.field) false
  rw[v7]at this;exact this
 have g1:ai p5 p9:=v8.af;have C8:=p8.len dC;have m2:=(p8.ah g1).row (bytes:=96) dC ba;refine⟨λb1 a5 w'=>∃h:Nat,a5=h/\h<=dn/\b1=dn-h/\(∀x∈j.take h,lF ((V.decl.at m.aX).getD m.field.toNat ⟨0,0,false,[]⟩) x m=false)/\ai p9 w',⟨_,0,rfl,Qj _,rfl,sM,ak.refl _⟩,?_⟩;rintro b1 _ _ m3 ⟨h,rfl,hj,rfl,d9,e0⟩;have k3:=(p6.then g1).then e0;have h0:=e0.get (g1.get p7 id) id;have q0:=e0.get (g1.get g9 id) id;have h6:=k3.get c1 id;have c5:∀{r:Bool×(Int×Int)×aY},(match j.find? λx=>lF ((V.decl.at m.aX).getD m.field.toNat ⟨0,0,false,[]⟩) x m with
  |some x=>(true,bd x,V)
  |none=>if vo (V.decl.at m.aX) (V.cellsOf m) m.field m.op m.arg≠0 then(true,(0,0),V)else
   (false,(0,0),{V with et:=aK V.et (m.aX,m.agg) ⟨om (((az V.et (m.aX,m.agg)).getD ⟨0,[]⟩).version+1),Qt (V.decl.at m.aX) (V.cellsOf m) m.field m.op m.arg⟩,done:=aK V.done (m.aX,m.agg,m.field) (j++[m])}))=r->V.try m=r:=λ{r} hr=>by
  rw[aY.qJ,Zq (by simpa using g7),m1];exact hr
 refine an.dec (λC9=>?_) (λD0=>?_)
 ·have g5:h<j.length:=oM
  obtain⟨db,b5,es,v9,D1,D2,q1,xa,xn,xc,rfl,q2,q3⟩:=(m2.ah e0).el h j[h] (Qq g5);have g6:j[h]? =some j[h]:=Qq g5;generalize j[h]=x at q1 q2 q3 g6;refine⟨db,b5,v9,oM,oM,bC (es:=aD x xa xn xc) (k:=10) (aZ x xa xn xc) rfl (λa5 I=>q1 a5 I) (PA.mk λD3 x0 D4 x1=>aB (aZ x xa xn xc) x1 rfl λq4 x2 D5 x3=>λx4 x5=>?_)⟩;have m4:ai m3 q4:=x0.new x2 λP b=>.inr oM;have q5:ai q4 x4:=x5.af;have J:=m4.then q5;have e1:=k3.then J;obtain⟨fb,fo,b6,b7,b8,x6,D6,D7,h1,h2,h3,h4,D8⟩:=Ej (y.ah e1) (i:=fi) (by rw[y.len];omega);have h7:=q5.get x3 id;refine⟨_,_,_,ae (J.get h0 id) rfl,_,ae (J.get h6 id) rfl,fb,fo,x6,l5,by rw[y.len];exact l6,?_⟩;rw[g0,Qx];refine bC (es:=dy ((V.decl.at m.aX).getD fi ⟨0,0,false,[]⟩) b6 b7 b8) (k:=4) (eS _ _ _ _) rfl (λa5 I=>?_) (ar (aZ x xa xn xc) h7 (ar (aZ m d a c) (J.get h6 id) (PC.ok (zW (q2.ah J) ((hr.ah k1).ah e1)) ?_)))
  ·match a5,I with
   |0,_=>exact h1
   |1,_=>exact h2
   |2,_=>exact h3
   |3,_=>exact h4
  rintro _ D9 ⟨rfl,m5⟩;have x7:(V.decl.at m.aX).getD fi ⟨0,0,false,[]⟩=(V.decl.at m.aX).getD m.field.toNat ⟨0,0,false,[]⟩:=by rw[g0,Qx]
  rw[x7];refine⟨_,rfl,an.mk (λhv=>λx8 q6=>?_) (λhv=>⟨_,?_,h+1,aq oM,oM,rfl,λH k=>?_,(e0.then J).then m5⟩)⟩
  ·have q7:=(q6.af (S:=λ_=>False)).get (m5.get h7 id) id
   refine⟨_,_,ae q7 rfl,ae q7 rfl,l (e1.then m5) (i:=bd x) (c5 ?_) x8 q6 _ _ rfl rfl⟩;have hf:j.find? (λx=>lF ((V.decl.at m.aX).getD m.field.toNat ⟨0,0,false,[]⟩) x m)=some x:=by
    rw[List.find?_eq_some_iff_append];refine⟨hv,j.take h,j.drop (h+1),?_,λH k=>by rw[d9 H k];rfl⟩;rw[<-ZX h j]
    congr 1
    ·rw[ZX]
    ·rw[ZX,X4 g5]
     congr 1
     rw[Qq g5]at g6;exact XJ g6
   rw[hf]
  ·omega
  ·rw[Qw,g6]at k
   rcases Q6.1 k with k|k
   ·first|exact d9 H k|(rw[<-g0];exact d9 H k)
   ·simp at k;subst k;first|exact hv|(rw[<-g0];exact hv)
 ·have E0:h=dn:=oM
  rw[Qz oM]at d9;have m6:j.find? (λx=>lF ((V.decl.at m.aX).getD m.field.toNat ⟨0,0,false,[]⟩) x m)=none:=List.find?_eq_none.2 λx hx=>by rw[d9 x hx];simp
  rw[m6]at c5;intro Y h8;have c7:ai m3 Y:=h8.af;have y7:Y.heap.size=m3.heap.size:=by rw[h8.heap]
  have k5:=k3.then c7;have e9:=k1.then k5;have z5:=k5.size;have z3:=k3.size;have b9:=e.ah e9;have b2:=c7.get q0 id;have c2:=c7.get h0 id;have m7:=k5.get c1 id;have E1:=c7.size;have y8:=ay b2;have y9:=ay c2;obtain⟨s,P,n,o,z,f,Z,h5,k4,d3⟩:∃(s:lJ) (P:Bool) (n:ZH) (o z:Nat),(az q.l1 (m.aX,m.agg)).getD (.agg #[XH 0,.slice none 0 0])= .agg #[XH s.version,.slice n o z]/\(az q.l1 (m.aX,m.agg)).isSome=P/\(az V.et (m.aX,m.agg)).getD FP=s/\(P=true->V.cellsOf m=s.cells)/\Row fg 32 Y (q.P F .UN) n o s.cells/\(P=false->V.cellsOf m=dK (V.decl.at m.aX)):=by
   unfold aY.cellsOf;rcases b9.UO.az (m.aX,m.agg)with⟨f,Z⟩|⟨f0,s,f,Z,n,o,z,rfl,hr⟩
   ·exact⟨FP,false,none,0,0,by rw[f];rfl,by rw[f];rfl,by rw[Z];rfl,λe=>(by cases e),Row.nil _ _,λ_=>by rw[Z]⟩
   ·exact⟨s,true,n,o,z,by rw[f];rfl,by rw[f];rfl,by rw[Z];rfl,λ_=>by rw[Z],hr,λe=>(by cases e)⟩
  obtain⟨d3,l1⟩:=d3;refine⟨λP=>P=Y.heap.size,p,0,rfl,oM,_,ae b9.at' rfl,oM,_,_,ae b2 rfl,ae b2 rfl,s.version,n,o,z,P,λw' hk=>?_,PA.mk λz0 h9 z2 q8=>⟨ai.af h9,PS.mk q8 sM λz4 i0 z7 q9=>PS.mk q9 sM λr0 i1 z8 i2=>⟨i0.then i1,?_⟩⟩⟩
  ·have:=ei Wb TK (b9.st.af hk (by have:=g _ e.l1.1;omega)) (m.aX,m.agg) true
   rw[f,Z]at this;exact this
  have k6:ai Y r0:=(h9.new i0 λP b=>.inr oM).new i1 λP b=>.inr oM;refine⟨λw'=>ai Y w'/\∃n o z Dc,w'.heap[Y.heap.size]? =some (.cells #[XH s.version,.slice n o z] 42 (0,0))/\Row fg 32 w' Dc n o (V.cellsOf m)/\∀P,Dc P->P<w'.heap.size,?_,?_⟩
  ·refine an.not (an.mk (λx9=>⟨k6,n,o,z,_,i2,by rw[k4 x9];exact d3.ah k6,λP b=>by have:=g P b.1;have:=k6.size;have:=e9.size;omega⟩) (λy0=>⟨_,_,_,ae (k6.get c2 id) rfl,PC.ok (Gx (t:=V.decl.at m.aX) rfl (y.len) (by rw[y.len];omega)) ?_⟩))
   rintro _ z9 ⟨l2,n6,m8,G6,rfl,r3,k7,y1⟩;have z6:=k6.size;refine⟨_,_,_,rfl,PS.mk (k7.get i2 id) sM λA0 i3 A1 r4=>⟨(k6.then k7).new i3 λP b=>.inr oM,l2,n6,m8,G6,r4,?_,λP b=>by have:=r3.aF P b;omega⟩⟩;rw[l1 y0];exact(r3.af i3 λP b m=>by have:=y1 P b;omega).row dC (by unfold aO dK;simp;omega)
  rintro _ A2 ⟨a3,n,o,z,Dc,f1,d3,y2⟩;have A3:=a3.size;have f2:=k5.then a3;have f3:=a3.get c2 id;have m9:=a3.get b2 id;have c6:=a3.get m7 id;refine⟨_,_,_,ae f3 rfl,_,_,_,ae f1 rfl,_,ae c6 rfl,_,ae c6 rfl,_,ae c6 rfl,PC.ok (Gw c3 (y.ah f2) d3) ?_⟩;rintro _ r5 ⟨rfl,a0⟩;have k8:=f2.then a0;refine⟨_,rfl,an.dI (λd5=>λr6 i4=>?_) (λy3=>λc8 r7=>?_)⟩
  ·have i5:=(i4.af (S:=λ_=>False)).get (k8.get c0 id) id
   refine⟨_,_,ae i5 rfl,ae i5 rfl,l (i:=(0,0)) k8 (c5 ?_) r6 i4 _ _ rfl rfl⟩;simp only;rw[Zx d5]
  have f4:vo (V.decl.at m.aX) (V.cellsOf m) m.field m.op m.arg=0:=y3;have a1:ai r5 c8:=r7.af;have k9:=k8.then a1;have n0:=(a3.then a0).then a1;have d2:=k1.then k9;have n1:=e.ah d2;have b3:=k9.get c1 id;have e2:=(a0.then a1).get m9 id;have n3:=(a0.then a1).get f3 id;have f5:=(a0.then a1).get f1 id;have E2:=g _ e.l1.1;have E3:=g _ e.l2.1;have A4:=n0.size;have y4:=d2.size;have e8:¬p=q.r1:=λm=>by have f:=e.lp.2;rw[m,e.l1.2]at f;cases f
  have i6:¬p=q.r2:=λm=>by have f:=e.lp.2;rw[m,e.l2.2]at f;cases f
  have i7:¬q.r1=q.r2:=λm=>by have f:=e.l1.2;rw[m,e.l2.2]at f;cases f
  refine⟨λP=>P=q.r1,p,0,rfl,e8,_,ae n1.at' rfl,oM,_,_,ae e2 rfl,ae e2 rfl,oM,_,ae f5 rfl,_,_,_,ae n3 rfl,_,_,_,ae f5 rfl,_,ae b3 rfl,_,ae b3 rfl,_,ae b3 rfl,PC.ok (QA c3 f4 he.arg oM (y.ah k9) (λP b=>by have:=g P b.1;omega) (d3.ah (a0.then a1)) λP b=>by have:=y2 P b;have:=(a0.then a1).size;omega) ?_⟩;rintro _ a6 ⟨r8,r9,s0,G,rfl,i8,a4,hG⟩;have e3:=d2.then a4;have t:=e.ah e3;have A5:=a4.size;refine⟨_,_,_,rfl,ai.af a4,iy (enc:=ob) (k:=(m.aX,m.agg)) Wb TK t.st λi9 s1 j0 A6=>⟨j0,λc9 j1=>?_⟩⟩;have j2:ai i9 c9:=j1.af;have A7:c9.heap.size=i9.heap.size:=by rw[j1.heap]
  have A:ak (·=q.r1) a6 c9:=j0.ah j2;have key:∀P,F P/\q.cls P= .done (m.aX,m.agg,m.field)->P≠p/\P≠q.r1/\P≠q.r2:=λP b=>
   ⟨λm=>(by have f:=e.lp.2;rw[<-m,b.2]at f;cases f),λm=>(by have f:=e.l1.2;rw[<-m,b.2]at f;cases f),λm=>(by have f:=e.l2.2;rw[<-m,b.2]at f;cases f)⟩
  have n4:=A.get t.at' e8;have n5:=A.get (a4.get e2 id) oM;have u:=A.get (a4.get b3 id) oM;have n8:=t.dn.af A (λm=>i7 m.symm);have n9:=A.get (a4.get (k9.get c0 id) id) oM;obtain⟨a2,a7,e4,n7,s2,j3,j4⟩:=DS t (m.aX,m.agg,m.field);rw[m1]at j3;subst j3;have o0:=j4.af A λP b m=>(key P b).2.1 m;have A8:=A.size;refine⟨λP=>P=q.r2\/(F P/\q.cls P= .done (m.aX,m.agg,m.field)),p,0,rfl,λB=>B.elim i6 λB=>(key p B).1 rfl,_,ae n4 rfl,λB=>B.elim (λm=>oM) λB=>by have:=g _ B.1;omega,
   ar (cs:=[XH m.aX,XH m.agg,XH m.field]) (RZ (m.aX,m.agg,m.field)) n5 ⟨_,_,_,_,_,_,_,_,_,_,_,_,ae u rfl,ae u rfl,ae u rfl,ae u rfl,ae u rfl,ae u rfl,ae u rfl,ae u rfl,ae u rfl,ae u rfl,
   PA.mk λA9 a8 B0 s5=>⟨ai.af a8,Fg (enc:=By) (k:=(m.aX,m.agg,m.field)) Wl Wa (n8.ah a8) λB1 x s6 o1 a9 B2=>⟨a2,a7,e4,x,by rw[s2],a9.mono λP _ m=>.inl m,?_⟩⟩⟩⟩
  have o2:=(o0.ah a8).af a9 λP b m=>(key P b).2.2 m;have s7:=a9.get s5 oM;have b4:∀P,aI a2=some P->F P/\q.cls P= .done (m.aX,m.agg,m.field):=λP b=>j4.self P b;have y5:=(((hr.ah e3).af A λP b m=>(C P b).2 (m▸e.l1.1)).ah a8).af a9 λP b m=>(C P b).2 (m▸e.l2.1);refine ep (c:=h_) o2 FV s7 (D:=D) (x:=m) ⟨d,a,c,rfl,y5,he⟩ (λP b=>⟨by have:=(C P b).1;omega,λee=>(C P b).2 (b4 P ee).1⟩) ba (by unfold maxLen;omega) λa' L s8 F2 f8 b0 o3=>⟨_,_,_,rfl,b0.mono λP _ b=>.inr (b4 P b),?_⟩
  have s9:¬aI a2=some q.r2:=λee=>(key _ (b4 _ ee)).2.2 rfl;refine AQ Wa (s6.af b0 s9) (o1.af b0 s9) λj5 t2 f6 B3=>⟨f6.mono λP _ m=>.inl m,λd0 j6=>?_⟩
  have f7:ai j5 d0:=j6.af;have B4:d0.heap.size=j5.heap.size:=by rw[j6.heap]
  have B5:=b0.size;have kb:ak (λP=>P=q.r2\/(F P/\q.cls P= .done (m.aX,m.agg,m.field))) c9 d0:=((((ai.af a8).then (a9.mono λP _ m=>.inl m)).then (b0.mono λP _ b=>.inr (b4 P b))).then (f6.mono λP _ m=>.inl m)).then (ai.af f7);have e5:=kb.get n9 (λB=>B.elim (λm=>oM) λB=>by have:=g _ B.1;omega);refine⟨_,_,ae e5 rfl,ae e5 rfl,PS.mk e5 sM λB6 j7 B7 t3=>PS.mk t3 sM λd1 j8 B8 j9=>⟨_,_,ae j9 rfl,ae j9 rfl,?_⟩⟩;have M:ak (λP=>P=q.r1\/P=q.r2\/(F P/\q.cls P= .done (m.aX,m.agg,m.field))\/P=E.heap.size) a6 d1:=
   ((A.mono λP _ m=>.inl m).then (kb.mono λP _ b=>b.elim (λm=>.inr (.inl m)) λb=>.inr (.inr (.inl b)))).then ((j7.mono λP _ m=>.inr (.inr (.inr m))).then (j8.mono λP _ m=>.inr (.inr (.inr m))))
  have kc:ak (·=E.heap.size) d0 d1:=j7.then j8;have zT:=M.size;have I:=c5 (r:=(false,(0,0),{V with et:=aK V.et (m.aX,m.agg) ⟨om (((az V.et (m.aX,m.agg)).getD ⟨0,[]⟩).version+1),Qt (V.decl.at m.aX) (V.cellsOf m) m.field m.op m.arg⟩,done:=aK V.done (m.aX,m.agg,m.field) (j++[m])})) (by simp only;rw[Zq (by simpa using f4)]);have t4:=(aY.Qb hV m).1;refine Ok.mk ⟨by rw[I],λP=>P<d1.heap.size/\(F P\/D P\/w.heap.size<=P),?_,?_,λP b=>b.2⟩
  rotate_left
  ·exact(ai.af e3).trans M (λ_ _ e=>e) λP b hT=>by
    rcases hT with rfl|rfl|hT|rfl
    ·exact e.l1.1
    ·exact e.l2.1
    ·exact hT.1
    ·omega
  rw[I]at t4⊢;have t5:∀P,G P->c8.heap.size<=P/\P<a6.heap.size:=λP b=>⟨hG P b,i8.aF P b⟩
  have N:∀P,F P->P<d1.heap.size:=λP b=>by have:=g P b;omega
  classical
  have O:∀P,F P->(if F P then q.cls P else if c8.heap.size<=P/\P<a6.heap.size then IA.UN else IA.done (m.aX,m.agg,m.field))=q.cls P:=λP b=>Zx b;refine⟨t4,⟨q.ta,q.tn,q.tc,q.pa,q.pn,q.pc,q.ea,q.en,q.ec,q.r1,q.r2,aK q.l1 (m.aX,m.agg) (.agg #[XH (om (s.version+1)),.slice r8 r9 s0]),aK q.l2 (m.aX,m.agg,m.field) (.slice a' (a7+1) L),λP=>if F P then q.cls P else if c8.heap.size<=P/\P<a6.heap.size then IA.UN else IA.done (m.aX,m.agg,m.field)⟩,?_,?_,?_,?_,?_,?_,?_,λP b=>b.1,⟨⟨N _ e.lp.1,.inl e.lp.1⟩,(O _ e.lp.1).trans e.lp.2⟩,⟨⟨N _ e.l1.1,.inl e.l1.1⟩,(O _ e.l1.1).trans e.l1.2⟩,⟨⟨N _ e.l2.1,.inl e.l2.1⟩,(O _ e.l2.1).trans e.l2.2⟩⟩
  ·exact M.get t.at' λB=>by
    rcases B with B|B|B|B
    ·exact e8 B
    ·exact i6 B
    ·exact(key _ B).1 rfl
    ·omega
  ·refine(t.PZ.af M λP b B=>?_).mono λP b=>⟨⟨N P b.1,.inl b.1⟩,(O P b.1).trans b.2⟩
   have d4:=g P b.1;rcases B with rfl|rfl|B|B
   ·have:=e.l1.2;rw[b.2]at this;cases this
   ·have:=e.l2.2;rw[b.2]at this;cases this
   ·have:=B.2;rw[b.2]at this;cases this
   ·omega
  ·refine(t.NB.af M λP b B=>?_).mono (λP b=>⟨⟨N P b.1,.inl b.1⟩,(O P b.1).trans b.2⟩) λP b=>b.1.1
   have d4:=g P b.1;rcases B with rfl|rfl|B|B
   ·have:=e.l1.2;rw[b.2]at this;cases this
   ·have:=e.l2.2;rw[b.2]at this;cases this
   ·have:=B.2;rw[b.2]at this;cases this
   ·omega
  ·exact((s1.ah j2).af kb λB=>B.elim i7 λB=>(key _ B).2.1 rfl).af kc oM
  ·refine e_.aK ?_ ?_
   ·refine⟨r8,r9,s0,by rw[h5],?_⟩
    refine((i8.row (bytes:=32) dC ?_).af M λP b B=>?_).mono λP b=>?_
    ·rw[LR,hV.len];unfold aO;omega
    ·have d4:=t5 P b
     rcases B with rfl|rfl|B|B
     ·omega
     ·omega
     ·have:=g P B.1;omega
     ·omega
    ·have d4:=t5 P b
     refine⟨⟨oM,.inr (.inr oM)⟩,?_⟩;show(if F P then _ else _)=_;rw[Zq (λhf=>by have:=g P hf;omega),Zx d4]
   ·refine t.UO.mono λf0 r1 hu=>?_
    obtain⟨e6,n2,e7,rfl,hu⟩:=hu;refine⟨e6,n2,e7,rfl,(hu.af M λP b B=>?_).mono λP b=>⟨⟨N P b.1,.inl b.1⟩,(O P b.1).trans b.2⟩⟩;have d4:=g P b.1;rcases B with rfl|rfl|B|B
    ·have:=e.l1.2;rw[b.2]at this;cases this
    ·have:=e.l2.2;rw[b.2]at this;cases this
    ·have:=B.2;rw[b.2]at this;cases this
    ·omega
  ·have:=(t2.ah f7).af kc (by show¬q.r2=E.heap.size;omega)
   rw[IB]at this;exact this
  ·refine nI.aK ?_ t.Va ?_ t.dn.tidy
   ·refine⟨a',_,L,rfl,?_⟩
    have t6:∀P,F2 P->P<s8.heap.size/\P≠E.heap.size:=λP b=>by
     refine⟨f8.aF P b,λm=>?_⟩;rcases o3 P b with f|f|f
     ·have:=g P f.1;omega
     ·have:=(C P f).1;omega
     ·omega
    refine((f8.af f6 λP b m=>?_).ah f7|>.af kc λP b m=>(t6 P b).2 m).mono (λP b=>?_) λP b=>b.1.1
    ·rcases o3 P b with f|f|f
     ·exact(key P f).2.2 m
     ·exact(C P f).2 (m▸e.l2.1)
     ·omega
    ·have:=(t6 P b).1
     have hz:=kc.size;rcases o3 P b with f|f|f
     ·exact⟨⟨N P f.1,.inl f.1⟩,(O P f.1).trans f.2⟩
     ·refine⟨⟨oM,.inr (.inl f)⟩,?_⟩
      show(if F P then _ else _)=_;rw[Zq (C P f).2,Zq (by have:=(C P f).1;omega)]
     ·refine⟨⟨oM,.inr (.inr oM)⟩,?_⟩
      show(if F P then _ else _)=_;rw[Zq (λhf=>by have:=g P hf;omega),Zq oM]
   ·intro r2 f0 r1 d5 hu
    obtain⟨e6,n2,e7,rfl,hu⟩:=hu;refine⟨e6,n2,e7,rfl,(hu.af M λP b B=>?_).mono (λP b=>⟨⟨N P b.1,.inl b.1⟩,(O P b.1).trans b.2⟩) λP b=>b.1.1⟩;have d4:=g P b.1;rcases B with rfl|rfl|B|B
    ·have:=e.l1.2;rw[b.2]at this;cases this
    ·have:=e.l2.2;rw[b.2]at this;cases this
    ·have:=B.2;rw[b.2]at this
     simp only[IA.done.injEq]at this;exact d5 this
    ·omega
end
variable{f:XN}{c2:ZH}
section
variable {w w':World} {p:Nat} {F T D:XN} {V:aY} {q:DQ}
abbrev DU(P:cM)(a:ZH)(b c:Nat):Value:=.agg (gD P a b c).toArray
def FT(L:cy w p F V)(hT:eG w)(hr:Row aM 8 w D d a m.aQ)(o:∀P,D P->P<w.heap.size/\¬F P)(he:m.Ok)(b:((az V.done (m.aX,m.agg,m.field)).getD []).length<=20000000)(M:V.entries.length<=20000000):
  ZG 79 #[XL p,js m d a c] w (Ok λW w'=>∃d a c G,W=DU (V.add m).1 d a c/\Row aM 8 w' G d a m.aQ/\∃X,cy w' p X (V.add m).2/\cK F w X w'/\∀P,G P->w.heap.size<=P/\P<w'.heap.size/\¬X P):=by
 have Y:=L.aF;have g9:=Y _ L.self;refine xO (PA.mk λt e5 h3 d0=>PA.mk λh4 Z h5 e6=>?_);have k0:=e5.then Z;refine ar (aZ m d a c) (Z.get d0 id) (PC.ok (nw (hr.ah k0) λP b=>by have:=(o P b).1;omega) ?_);rintro _ h6 ⟨a6,n1,c1,G1,rfl,e7,u,N⟩;have a0:=k0.then N;refine bX (qN m a6 n1 c1) ⟨rfl,PC.ok (Qa (L.ah a0) (hT.ah a0) e7 (λP b=>⟨(u P b).2,λj=>by have:=Y P j;have:=u P b;omega⟩) he b) ?_⟩;rintro _ v ⟨rfl,f,b8,O,Q⟩;have h7:=N.size;have h8:=O.size;have b0:∀P,f P->F P\/w.heap.size<=P:=λP b=>by
  rcases Q P b with e|e|e
  ·exact .inl e
  ·have:=u P e;exact .inr oM
  ·exact .inr oM
 have b1:ak F w v:=(ai.af a0).then O;have R:∀{P:Nat},w.heap.size<=P->¬F P:=λ{P} b j=>by have:=Y P j;omega
 have d1:=O.get (N.get (Z.get d0 id) id) (R (Q4 _));have d2:=O.get (N.get e6 id) (R oM);refine⟨_,_,_,rfl,PA.mk λh9 e8 i0 e9=>PS.mk e9 sM λi1 f2 i2 f3=>PS.mk f3 sM λi3 f4 i4 f6=>λx b9=>?_⟩;have A:ai v x:=((e8.new f2 λP b=>.inr oM).new f4 λP b=>.inr oM).then b9.af;have i5:x.heap.size=v.heap.size+1:=by rw[b9.heap];omega
 have a1:x.heap[v.heap.size]? =some (.cells #[XH (V.try m).2.1.1,XH (V.try m).2.1.2] 39 (0,0)):=(b9.af (S:=λ_=>False)).get f6 id;have b2:=A.get d1 id;obtain⟨g8,q,g⟩:=b8.ah A;have c0:=b8.self;have y:=b8.aF;have b3:=((hr.af b1 λP b=>(o P b).2).ah A)
 have a4:(V.try m).2.2.entries=V.entries:=by
  rw[aY.qJ];split;rfl;split;rfl;split<;>rfl
 have i6:=g.NB.len dC;have B:∀P,aI q.ea=some P->f P/\q.cls P= .NB:=λP b=>g.NB.self P b;have C:¬aI q.ea=some p:=λk=>by have e:=(B p k).2;rw[g.lp.2]at e;cases e
 refine⟨λP=>aI q.ea=some P,p,0,rfl,C,_,_,_,ae g.at' rfl,ar (aZ m d a c) b2 ⟨λk=>by have:=y _ (B _ k).1;omega,_,_,ae a1 rfl,ae a1 rfl,PC.ok (nw b3 λP b=>by have:=(o P b).1;omega) ?_⟩⟩;rintro _ i7 ⟨a7,n2,c2,G2,rfl,f7,z,c4⟩;have i8:=c4.size;refine⟨_,_,_,_,_,_,_,_,_,_,_,_,rfl,ai.af c4,PA.mk λd3 c5 i9 g0=>⟨ai.af c5,?_⟩⟩;have a2:=c4.then c5;refine ep (c:=xB) (x:=⟨m,(V.try m).1,(V.try m).2.1⟩) (g.NB.ah a2) PV g0 (D:=G2) ⟨a7,n2,c2,rfl,f7.ah c5,he⟩ (λP b=>⟨by have:=z P b;omega,λk=>by have:=y _ (B _ k).1;have:=z P b;omega⟩) (by rw[a4];unfold aO;omega) (by rw[a4];unfold maxLen;omega) λa' E d4 F2 b4 c6 c7=>⟨_,_,_,rfl,p,0,rfl,?_⟩
 have j0:=c6.size;have d5:=c6.get ((g.ah a2).at') C;refine PS.mk d5 sM λH g1 j1 g2=>λr d6=>?_;have d7:ai H r:=d6.af;have j2:r.heap.size=H.heap.size:=by rw[d6.heap]
 have a5:ak (·=p) d4 r:=g1.ah d7;have k5:ak (λP=>aI q.ea=some P\/P=p) x r:=((ai.af a2).then (c6.mono λP _ b=>.inl b)).then (a5.mono λP _ b=>.inr b);have I:ak f x r:=k5.mono λP _ b=>b.elim (λe=>(B P e).1) λe=>e▸c0;have c8:∀{P:Nat},v.heap.size<=P->¬f P:=λ{P} b j=>by have:=y P j;omega
 have g3:¬f w.heap.size:=λj=>by
  rcases Q _ j with e|e|e
  ·exact R (Q4 _) e
  ·have:=u _ e;omega
  ·omega
 have c9:¬f t.heap.size:=λj=>by
  rcases Q _ j with e|e|e
  ·exact R oM e
  ·have:=u _ e;omega
  ·omega
 have d8:=I.get b2 g3;have d9:=I.get (A.get d2 id) c9;have b5:=I.get a1 (c8 (Q4 _));have e0:∀P,D P->¬f P:=λP b j=>by
  rcases Q _ j with e|e|e
  ·exact(o P b).2 e
  ·have:=u _ e;have:=(o P b).1;omega
  ·have:=(o P b).1;omega
 have e1:=b3.af I e0;have j3:=k5.size;refine⟨λP=>P=t.heap.size,ar (aZ m d a c) d8 ⟨oM,_,_,ae b5 rfl,ae b5 rfl,PC.ok (nw e1 λP b=>by have:=(o P b).1;omega) ?_⟩⟩;rintro _ j4 ⟨a3,n3,c3,G3,rfl,g4,e2,J⟩;have j5:=J.size;refine⟨_,_,_,_,_,_,_,_,_,_,_,_,rfl,ai.af J,aB (kN ⟨m,(V.try m).1,(V.try m).2.1⟩ a3 n3 c3) (J.get d9 id) rfl λe3 S j6 g5=>⟨S,ar (kN ⟨m,(V.try m).1,(V.try m).2.1⟩ a3 n3 c3) g5 (Ok.mk ⟨a3,n3,c3,G3,rfl,g4.af S λP b k=>by have:=e2 P b;omega,λP=>P<H.heap.size/\(f P\/G2 P\/d3.heap.size<=P),?_,⟨?_,?_⟩,?_⟩)⟩⟩
 ·have g6:=(aY.yR (by
   have:V.OK:=L.1;exact this) m).1
  have T:ak (λP=>P=t.heap.size) r e3:=(ai.af J).then S;have zc:=T.size;have g7:∀P,f P->P<H.heap.size:=λP b=>by have:=y P b;omega
  classical
  have e4:∀P,f P->(if f P then q.cls P else IA.NB)=q.cls P:=λP b=>Zx b;have K:ak (λP=>(aI q.ea=some P\/P=p)\/P=t.heap.size) x e3:=(k5.mono λP _ b=>.inl b).then (T.mono λP _ b=>.inr b);have h:∀(n:IA) P,n≠.NB->n≠.self->f P/\q.cls P=n->¬((aI q.ea=some P\/P=p)\/P=t.heap.size):=λn P e U b l=>by
   rcases l with(l|l)|l
   ·exact e (b.2.symm.trans (B P l).2)
   ·subst l;exact U (b.2.symm.trans g.lp.2)
   ·subst l;exact c9 b.1
  have i:∀(n:IA) P,f P/\q.cls P=n->((P<H.heap.size/\(f P\/G2 P\/d3.heap.size<=P))/\(if f P then q.cls P else IA.NB)=n):=λn P b=>⟨⟨g7 P b.1,.inl b.1⟩,(e4 P b.1).trans b.2⟩
  refine⟨g6,⟨q.ta,q.tn,q.tc,q.pa,q.pn,q.pc,a',q.en+1,E,q.r1,q.r2,q.l1,q.l2,λP=>if f P then q.cls P else IA.NB⟩,?_,?_,?_,?_,?_,?_,?_,λP b=>by have:=b.1;omega,i _ _ g.lp,i _ _ g.l1,i _ _ g.l2⟩
  ·exact T.get (d7.get g2 id) oM
  ·exact(g.PZ.af K λP b=>h _ P sM sM b).mono (i _)
  ·have M:∀P,F2 P->P<d4.heap.size/\P≠t.heap.size/\P≠p:=λP b=>by
    refine⟨b4.aF P b,λk=>?_,λk=>?_⟩
    ·rcases c7 P b with e|e|e
     ·exact c9 (k▸e.1)
     ·have:=z P e;omega
     ·omega
    ·rcases c7 P b with e|e|e
     ·have U:=e.2;rw[k,g.lp.2]at U;cases U
     ·have:=z P e;have:=y p c0;omega
     ·have:=y p c0;omega
   have:(V.add m).2.entries=(V.try m).2.2.entries++[⟨m,(V.try m).1,(V.try m).2.1⟩]:=rfl;rw[this];refine((b4.af a5 λP b=>(M P b).2.2).af T λP b=>(M P b).2.1).mono (λP b=>?_) λP b=>by have:=b.1.1;omega
   have h0:=(M P b).1;rcases c7 P b with e|e|e
   ·exact i _ P e
   ·have:=z P e
    refine⟨⟨oM,.inr (.inl e)⟩,?_⟩;show(if f P then _ else _)=_;rw[Zq (c8 oM)]
   ·refine⟨⟨oM,.inr (.inr e)⟩,?_⟩
    show(if f P then _ else _)=_;rw[Zq (c8 oM)]
  ·exact g.st.af K (h _ _ sM sM g.l1)
  ·refine g.UO.mono λW a8 s=>?_
   obtain⟨x1,x2,x3,rfl,s⟩:=s;exact⟨x1,x2,x3,rfl,(s.af K λP b=>h _ P sM sM b).mono (i _)⟩
  ·exact g.dn.af K (h _ _ sM sM g.l2)
  ·refine g.Va.mono λa9 W a8 s=>?_
   obtain⟨x1,x2,x3,rfl,s⟩:=s;exact⟨x1,x2,x3,rfl,(s.af K λP b=>h _ P sM sM b).mono (i _) λP b=>by have:=b.1.1;omega⟩
 ·have k1:ak f v r:=(ai.af A).then I
  exact((b1.new k1 b0).ah J).new S λP b=>.inr oM
 ·intro P b
  rcases b.2 with e|e|e
  ·exact b0 P e
  ·have:=z P e;exact .inr oM
  ·exact .inr oM
 ·intro P b
  have:=e2 P b;refine⟨oM,oM,λl=>by have:=l.1;omega⟩
def DV(d:aR):∀(b:List aj) (P:aY) (a:Int×Int×Int),(((az (b.foldl (λP e=>(P.add e).2) P).done a).getD []).length<=((az P.done a).getD []).length+b.length)/\(b.foldl (λP e=>(P.add e).2) P).entries.length=P.entries.length+b.length
 |[],P,a=>by simp
 |e::b,P,a=>by
  rw[List.foldl_cons];obtain⟨f,g⟩:=DV d b (P.add e).2 a;have j:((az (P.add e).2.done a).getD []).length<=((az P.done a).getD []).length+1:=by
   show((az (P.try e).2.2.done a).getD []).length<=_;rw[aY.qJ];split
   ·simp
   split
   ·simp
   split
   ·simp
   ·simp only
    rw[bL];split
    ·rename_i h
     have c:a=(e.aX,e.agg,e.field):=by simpa using h
     rw[c];simp
    ·simp
  have i:(P.add e).2.entries.length=P.entries.length+1:=by
   show((P.try e).2.2.entries++[_]).length=_;have:(P.try e).2.2.entries=P.entries:=by rw[aY.qJ];split;rfl;split;rfl;split<;>rfl
   rw[this];simp
  refine⟨?_,by rw[g,i];simp;omega⟩;simp only[Xq]at f⊢;omega
def FR{tn M q N j O:Nat}(Q:di J=0)(R:eG w)(S:bf w D J d tn r q)(T:∀P,D P->P<w.heap.size)(s:Row h_ 96 w f c2 j C)(t:∀P,f P->P<w.heap.size)(b:C.length<=20000000):
  ZG 40 #[.agg #[.slice d tn M,.slice r q N],.slice c2 j O] w (Ok λU w'=>∃p F,U= XL p/\cy w' p F (cH J C)/\(∀P,F P->w.heap.size<=P)/\ai w w'):=by
 refine Jd (PA.mk λw1 u s1 v=>⟨_,_,_,_,_,_,ae v rfl,ae v rfl,PC.ok (Gf Q (S.ah u) λP b=>by have:=T P b;omega) ?_⟩);rintro _ w9 ⟨p,V,rfl,e,W,x⟩;have a9:=s.len;have X:=u.then x;have z9:=x.size;refine⟨_,rfl,λy o w'=>∃a:Nat,o=a/\a<=j/\y=j-a/\∃F,cy w' p F (cH J (C.take a))/\(∀P,F P->w.heap.size<=P)/\ai w w',⟨_,0,rfl,Qj _,rfl,V,e,λP b=>by have:=W P b;omega,X⟩,?_⟩;rintro y _ _ Y ⟨a,rfl,hj,rfl,F,e,k,g⟩;refine an.dec (λb0=>?_) (λb1=>?_)
 ·have z:a<C.length:=oM
  obtain⟨P,Z,es,ha,a0,b2,A,l,m,n,rfl,B,E⟩:=(s.ah g).el a C[a] (Qq z);have H:C[a]? =some C[a]:=Qq z;generalize C[a]=c at A B E H;refine⟨P,Z,ha,oM,oM,bC (es:=aD c l m n) (k:=10) (aZ c l m n) rfl (λo ht=>A o ht) (PA.mk λb3 a3 b4 a5=>aB (aZ c l m n) a5 rfl λa6 a7 b5 a8=>ar (aZ c l m n) a8 ?_)⟩;have h:ai Y a6:=a3.new a7 λP b=>.inr oM;have I:=DV J (C.take a) (aY.new J) (c.aX,c.agg,c.field);have b6:=List.length_take_le a C;have b7:((az (cH J (C.take a)).done (c.aX,c.agg,c.field)).getD []).length<=0+(C.take a).length:=I.1;have b8:(cH J (C.take a)).entries.length=0+(C.take a).length:=I.2;have b9:=g.size;have c0:=h.size;refine PC.ok (FT (e.ah h) (R.ah (g.then h)) (B.ah h) (λP b=>⟨by have:=t P b;omega,λhf=>by have:=k P hf;have:=t P b;omega⟩) E oM oM) ?_;rintro _ c1 ⟨a4,n4,c4,G,rfl,-,F',i,K,-⟩;refine bX (NM _ a4 n4 c4) ⟨rfl,_,?_,a+1,aq oM,oM,rfl,F',?_,λP b=>?_,(g.then h).new K.1 λP b=>.inr (k P b)⟩
  ·omega
  ·rw[Qw,H]
   unfold cH at i⊢;rw[List.foldl_append];exact i
  ·rcases K.2 P b with L|L
   ·exact k P L
   ·omega
 ·rw[Qz oM]at e
  exact Ok.mk ⟨p,F,rfl,e,k,g⟩
end
end Go.Proofs.YtblabbpipmodgaaGreatDoor
namespace Go.aw
open Go
variable{a2:List Value}{F a c c1 i n:Nat}{f:XN}{d r:ZH}{h:Program}{I j:Type}{g o:TypeId}{b:World}{x:XU}
def Nz{cs:List j}{p m:Nat}{v:j}{vs:List j}(P:p<cs.length):(cs.set p v).take (p+1)++vs++(cs.set p v).drop (p+1+m)=cs.take p++(v::vs)++cs.drop (p+(m+1)):=by
 have a:(cs.set p v).take (p+1)=cs.take p++[v]:=by
  rw[Qw,Xj,Zx rfl,Zx P,List.take_set_of_le (Q4 _)];rfl
 have b:(cs.set p v).drop (p+1+m)=cs.drop (p+(m+1)):=by
  rw[List.drop_set_of_lt oM,show p+1+m=p+(m+1) by omega]
 rw[a,b];simp
def Bv{l:TypeId}{m:Nat}{g:ZH}{n d a h e:Nat}{o:XU}(p:g=some ⟨h,e,none⟩):∀(b:List Value) (P:Nat) {c:World} {cs:List Value},Own c l m g n d cs->a+P+b.length<=cs.length->
  (∀f,Own f l m g n d (cs.take (a+P)++b++cs.drop (a+P+b.length))->ak (λh=>aI g=some h) c f->f.heap.size=c.heap.size->o f)->iB ⟨h,e+a,none⟩ P b c o
 |[],P,c,cs,i,q,j=>j c (by simpa using i) (ak.refl _) rfl
 |v::b,P,c,cs,i,q,j=>by
  unfold iB;rw[Xq]at q;rw[Addr.add_lit,Nat.add_assoc];refine i.set (m:=a+P) oM p λf r s t=>Bv p b (P+1) r bc λu k w x=>j u ?_ (s.then w) (x.trans t);have:=Nz (cs:=cs) (p:=a+P) (m:=b.length) (v:=v) (vs:=b) oM;rw[show a+(P+1)=a+P+1 from rfl]at k;rw[this]at k;exact k
def Own.store{k c m f e:Nat}{P cs:List Value}(n:Own b o a d k c cs)(p:d=some ⟨f,e,none⟩)(l:ia h g P=true)(q:m+P.length<=cs.length)(j:∀i,Own i o a d k c (cs.take m++P++cs.drop (m+P.length))->ak (λf=>aI d=some f) b i->i.heap.size=b.heap.size->x i):xC h g (.pointer (some ⟨f,e+m,none⟩)) (.agg P.toArray) b x:=by
 simp only[ia,QK]at l;obtain⟨⟨⟨r,w⟩,s⟩,t⟩:=l;unfold xC;have u:Nat.beq P.toArray.size (k_ h g)=true:=by simpa using s
 have v:P.toArray.toList.all Value.oneCell'=true:=by simpa using t
 simp only[r,u,v];exact Bv p P 0 n (by simpa using q) j
def eI.store{P:eI j I}{p:List (Bx j)}(w:aT P.jB o f b d a c p){e:Bx j}(y:p[i]? =some e){B t:Nat}(M:d=some ⟨B,t,none⟩)(C:a2=(P.hd e.x r n F).take c1)(a1:P.o<c1)(a3:c1<=P.k)(N:ia h g a2=true)(z:∀s,aT P.jB o f s d a c (p.set i ⟨e.x,r,n,F⟩)->ak (λk=>aI d=some k) b s->s.heap.size=b.heap.size->x s):xC h g (.pointer (some ⟨B,t+i*P.k,none⟩)) (.agg a2.toArray) b x:=by
 obtain⟨cs,D,O,E,Q⟩:=w.body;have H:=bJ.mL.1 E;have R:i<p.length:=(Qv.1 y).1;have J:cs.length=p.length*P.k:=by rw[H];exact kj (λk:Bx j=>P.hl k.x k.a k.n k.c) p
 have u:a2.length=c1:=by rw[C,Qy,P.hl];omega
 have S:(i+1)*P.k<=p.length*P.k:=Q0 _ R;rw[X7,Nat.one_mul]at S;refine O.store (m:=i*P.k) M N (by rw[J,u];omega) λs T U K=>z s ⟨⟨_,D,T,bJ.mL.2 ?_,Q⟩,w.self,λk V=>by rw[K];exact w.aF k V⟩ U K;have W:=qj (enc:=λk:Bx j=>P.hd k.x k.a k.n k.c) (k:=P.k) (λk=>P.hl k.x k.a k.n k.c) (x':=⟨e.x,r,n,F⟩) (v:=.slice r n F) P.ho p i e y (P.fj ..).symm;rw[<-W,<-H,u];have X:∀l,l<P.k->cs[i*P.k+l]? =(P.hd e.x e.a e.n e.c)[l]? :=λl Y=>by
  obtain⟨Z,A,L⟩:=E.at y;have a0:Z=P.hd e.x e.a e.n e.c:=L.1;rw[<-a0];exact A l Y
 apply X3;intro l;have q:∀m,m<c1->a2[m]? =(P.hd e.x r n F)[m]? :=λm hu=>by rw[C,Xw,Zx hu]
 by_cases A:l<i*P.k
 ·rw[XQ,XW (by rw[Qy];omega),Xw,Zx A,Xj,Zq oM]
 ·by_cases L:l<i*P.k+c1
  ·rw[XQ,X8 (by rw[Qy];omega),XW (by rw[Qy,u];omega),Qy,q _ oM]
   obtain⟨m,rfl⟩:∃m,l=i*P.k+m:=⟨l-i*P.k,oM⟩
   rw[X2 oM,Nat.add_sub_cancel_left,Xj];have v:=P.fj e.x e.a e.n e.c r n F;split
   ·rename_i o
    have:m=P.o:=oM
    subst this;rw[Zx (by rw[J];have:=P.ho;omega),<-v,Xj,Zx rfl,Zx (by rw[P.hl];exact P.ho)]
   ·rename_i o
    rw[X m oM,<-v,Xj,Zq oM]
  ·rw[X8 (by rw[QX,Qy,u];omega),QX,Qy,u,List.getElem?_drop,Xj,Zq (by have:=P.ho;omega)]
   congr 1
   omega
end Go.aw
namespace Go.aw
open Go
variable{h:Program}{x:XU}
section
variable {α β:Type} {N:eI α β} {w9 w w':World} {a:ZH} {n c j:Nat} {L0:List (Bx α)} {e:TypeId}
def dV.step2{f:TypeId}(y:dV N e w9 a n c L0 j w){g:Nat}(o:a=Option.some ⟨g,0,none⟩){b:Bx α}(i:L0[j]? =Option.some b){a':ZH}{n' c':Nat}{G:XN}(z:Row N.ci N.ib w G a' n' (N.inner b.x))(A:N.ok b.x)(k:∀P,G P->w9.heap.size<=P/\P<w.heap.size)(U:g<w9.heap.size){hd:List Value}{r:Nat}(C:hd=(N.hd b.x a' n' c').take r)(E:N.o<r)(F:r<=N.k)(H:ia h f hd=true)(l:∀w',dV N e w9 a n c L0 (j+1) w'->ak (λb=>aI a=Option.some b) w w'->w'.heap.size=w.heap.size->x w'):xC h f (.pointer (Option.some ⟨g,0+j*N.k,none⟩)) (.agg hd.toArray) w x:=by
 obtain⟨I,J,K,L,M,p,O,q⟩:=y;have s:I[j]? =Option.some b:=by rw[p j (Q4 _)];exact i
 have Q:=(Qv.1 s).1;have t:∀P,G P->¬aI a=Option.some P:=λP B e=>by
  have:=(k P B).1;rw[o]at e;simp only[aI,Q1]at e;omega
 refine eI.store K s o C E F H λR S d m=>l R ⟨_,λP=>J P\/G P,S,?_,?_,?_,O.then d,?_⟩ d m
 ·rw[List.map_set,L]
  apply X3;intro f;rw[Xj];split
  ·rename_i e;subst e
   rw[Zx (by simpa using(Qv.1 i).1),Q9,i];rfl
  ·rfl
 ·intro u P V B
  rw[Xj]at B
  by_cases v:j=u
  ·subst v
   rw[Zx rfl,Zx Q]at B
   cases B
   exact⟨(z.af d λP B=>t P B).mono λP B=>.inr B,A⟩
  ·rw[Zq v]at B
   exact((M u P oM B).af d λP B=>(q P B).2.2).mono λP B=>.inl B
 ·intro T W
  rw[Xj,Zq oM,p T oM]
 ·rintro P (B|B)
  ·rw[m];exact q P B
  ·rw[m];exact⟨(k P B).1,(k P B).2,t P B⟩
end
end Go.aw
namespace Go.Proofs.YtblabbpipmodgaaGreatDoor
section
open Go.aw
variable{a c:Nat}{d:ZH}
section
variable {w w':World} {p:Nat} {F D:XN} {V:aY}
def yv{P:List (Bx cM)}(e:Row KJ.jB 120 w D d a P)(f:∀b,D b->b<w.heap.size):ZG 394 #[.slice d a c] w (Ok (oK KJ.jB 160 w P)):=
 fV (zb PV dC e f λh w' g=>Ok.mk g)
def DY(d:cy w p F V)(b:V.entries.length<=20000000):ZG 392 #[XL p] w (Ok (oK xB 160 w V.entries)):=by
 obtain⟨X,Y,d⟩:=d;have k:=d.NB.row (bytes:=120) dC ba;have H:=k.dB;have Z:=k.len;obtain⟨f,v,I,J⟩:=eI.boxes k;have a8:f.length=V.entries.length:=by rw[<-v];simp
 refine rl ⟨p,0,rfl,_,_,_,ae d.at' rfl,PC.ok (yv I λP b=>d.aF P b.1) ?_⟩;rintro _ x ⟨i,g,y,F9,rfl,j,z,K⟩;have l:∀P,aI i=some P->w.heap.size<=P:=λP b=>K P (j.self P b);have L:∀P,aI i=some P->P<x.heap.size:=λP b=>j.aF P (j.self P b);refine⟨_,_,_,rfl,λA M w'=>∃c:Nat,M=c/\c<=g/\A=g-c/\dV KJ 160 x i g y f c w',⟨_,0,rfl,Qj _,rfl,dV.start j.alone⟩,?_⟩;rintro A _ _ N ⟨c,rfl,hj,rfl,e⟩;have b0:=e.len;have m:ai w N:=z.new e.af λP b=>.inr (l P b);have zk:=e.af.size;refine an.dec (λb1=>?_) (λb2=>?_)
 ·obtain⟨h,rfl⟩:=e.some oM
  have b3:=l h rfl;have O:=L h rfl;have n:f[c]? =some f[c]:=Qq oM;have o:=J f[c] (XY oM);generalize f[c]=a at n o;refine⟨h,0,rfl,oM,oM,bC (es:=aD a.x.ev a.a a.n a.c) (k:=10) (aZ _ _ _ _) rfl (λq Q=>?_) (PC.ok (nw (e:=a.x.ev) (o.1.ah m) λP b=>by have:=d.aF P b.1;have:=m.size;omega) ?_)⟩
  ·have R:=e.cell rfl n (by show g*13<=aO;unfold aO at H⊢;omega) q
   rw[Qx];have r:q<(aD a.x.ev a.a a.n a.c).length:=Q;rw[Qq r];refine R _ ?_;show(aD a.x.ev a.a a.n a.c++_)[q]? =_;rw[XW r,Qq r]
  rintro _ b4 ⟨s,t,u,G,rfl,S,B,T⟩;refine bX (qN a.x.ev s t u) ⟨rfl,h,0,rfl,oM,oM,?_⟩;rw[Qx];refine(e.ah T).step2 (g:=h) rfl n (a':=s) (n':=t) (c':=u) (G:=G) S o.2 (λC E=>⟨by have:=B C E;omega,(B C E).2⟩) O (hd:=aD a.x.ev s t u) (r:=10) rfl dC dC (aZ _ _ _ _) λb5 U b6 b7=>⟨_,?_,c+1,aq oM,oM,rfl,U⟩
  omega
 ·obtain rfl:c=g:=oM
  obtain⟨Fd,hd,W⟩:=e.done;rw[v]at hd;have z9:=z.size;exact Ok.mk ⟨i,_,y,Fd,rfl,hd,m,λP b=>(W P b).elim (l P) λd=>oM⟩
end
end
section
open Go.aw
def bg(P:dE):List Value:=[XH P.group,XH P.value,XH P.count]
def dE.Ok(P:dE):Prop:=aN P.group/\aN P.value/\aN P.count
def Gg:ju dE:=flat 3 bg dE.Ok (λ_=>rfl) (λa b P=>by simp[bg]at P;rcases P with rfl|rfl|rfl<;>rfl)
def Uz:iH XP 44 269 3 24:=⟨kR,kR,dC⟩
variable{V p:Array Value}{y:FuncId}{e q:Int}{d8:dE}
section
variable {w w':World} {D:XN} {a:ZH} {n c:Nat} {l:List dE}
def AX(b:Row Gg 24 w D a n l)(d:∀P,D P->P<w.heap.size):ZG 238 #[.slice a n c] w (Ok (oK Gg 269 w l)):=
 iz (zb Uz dC b d λf w' e=>Ok.mk e)
def Kh{most:Int}(b:Row Gg 24 w D a n l)(g:∀d,D d->d<w.heap.size)(u:n<=c):
  ZG 167 #[.slice a n c,XH most] w (Ok λh w'=>∃e,h= .tuple #[e,.bool (decide ((max most 0).toNat<l.length))]/\oK Gg 269 w (l.take (max most 0).toNat) e w'):=by
 have v:=b.len;have i:(if 0>most then 0 else most)=max most 0:=by split<;>omega
 refine BZ ?_;rw[i];obtain⟨P,f⟩:∃P:Nat,(if(n:Int)<max most 0 then(n:Int)else max most 0)=P:=⟨(if(n:Int)<max most 0 then(n:Int)else max most 0).toNat,by split<;>omega⟩
 rw[f];have j:P=min n (max most 0).toNat:=by split at f<;>omega
 rw[Qx];refine⟨oM,oM,oM,PC.ok (AX (b.take (m:=P) oM) g) ?_⟩;rintro _ x ⟨k,m,o,p,rfl,q,r,s⟩;refine⟨_,_,_,rfl,Ok.mk ⟨_,?_,k,m,o,p,rfl,?_,r,s⟩⟩
 ·have:decide ((P:Int)<(n:Int))=decide ((max most 0).toNat<l.length):=by rw[decide_eq_decide];omega
  rw[this]
 ·have:l.take (max most 0).toNat=l.take P:=by
   rw[j]
   by_cases t:(max most 0).toNat<=n
   ·rw[Nat.min_eq_right t]
   ·rw[X2 oM,Qz oM,Qz oM]
  rw[this];exact q
def HJ{b k:Nat}(t:b<=20000000)(j:k<=b)(l:enters XP y=true)(m:∀(c:Nat) e,c<b->ai w e->ZG y (p++ #[XH (c:Int)]++V) e (Ok λf w'=>f= .bool (decide (k<=c))/\ai e w')):
  ZG 165 #[XH (b:Int),.func (.func y) p V] w (Ok λf w'=>f= XH (k:Int)/\ai w w'):=by
 refine zO ⟨λg c n w'=>∃P a:Nat,c=P/\n=a/\g=a-P/\P<=a/\a<=b/\P<=k/\k<=a/\ai w w',⟨_,0,b,rfl,rfl,rfl,oM,oM,oM,j,ak.refl _⟩,?_⟩;rintro g _ _ _ o ⟨P,a,rfl,rfl,rfl,u,q,r,s,d⟩;refine an.dec (λv=>?_) (λx=>?_)
 ·rw[SD oM]
  refine⟨_,_,_,rfl,l,PC.ok (m _ o oM d) ?_⟩;rintro _ z ⟨rfl,h⟩;refine⟨_,rfl,an.not (an.dec (λi=>⟨_,?_,P,(P+a)/2,rfl,rfl,rfl,oM,oM,r,i,d.then h⟩) (λi=>⟨_,?_,(P+a)/2+1,a,aq oM,rfl,rfl,oM,q,oM,s,d.then h⟩))⟩
  ·omega
  ·omega
 ·obtain rfl:P=k:=oM
  exact Ok.mk ⟨rfl,d⟩
def rW{a:Type}(P:a->Bool):∀l:List a,l.dropWhile P=l.drop (posOf P l)
 |[]=>rfl
 |x::l=>by
  unfold posOf;rw[List.dropWhile_cons,List.takeWhile_cons]
  cases b:P x
  ·simp
  ·simpa[posOf]using rW P l
abbrev tw(l:List dE):Prop:=l.Pairwise λa P=>a.group<P.group
def RB{l:List dE}(c:tw l){P:Nat}(a:l[P]? =some d8):decide (posOf (λd8=>decide (d8.group<=e)) l<=P)=decide (d8.group>e):=by
 rw[decide_eq_decide]
 induction l generalizing P with
 |nil=>simp at a
 |cons d l f=>
  obtain⟨g,h⟩:=List.pairwise_cons.1 c;unfold posOf;rw[List.takeWhile_cons]
  by_cases b:d.group<=e
  ·rw[Zy b]
   cases P with
   |zero=>
    simp at a;subst a;simp;omega
   |succ P=>
    have:=f h (by simpa using a);unfold posOf at this;simp only[if_true,Xq];omega
  ·rw[Xv b]
   simp only[Bool.false_eq_true,if_false,ZQ,Qj,true_iff]
   cases P with
   |zero=>simp at a;subst a;omega
   |succ P=>
    have:=g d8 (QZ (by simpa using a));omega
def Ki(j:Row Gg 24 w D a n l)(u:∀b,D b->b<w.heap.size)(v:n<=c)(x:tw l)(y:n<=20000000):
  ZG 110 #[.slice a n c,XH e,XH q] w (Ok λz w'=>∃P,z= .tuple #[P,.bool (mN l e (max q 0).toNat).2]/\oK Gg 269 w (mN l e (max q 0).toNat).1 P w'):=by
 have Q:=j.len;have R:=yU (λP:dE=>decide (P.group<=e)) l;refine Ex (PA.mk λS o T k=>PA.mk λU g V A=>⟨_,_,_,ae (g.get k id) rfl,PC.ok (HJ (k:=posOf (λP=>decide (P.group<=e)) l) y oM kR λh B W d=>?_) ?_⟩)
 ·have f:=(o.then g).then d
  obtain⟨b,C,X,E,i,-,F,rfl,-⟩:=(j.ah f).el h l[h] (Qq oM);have H:l[h]? =some l[h]:=Qq oM;refine zI ⟨_,_,_,ae (d.get (g.get k id) id) rfl,b,C,E,oM,oM,_,by rw[Qx];exact F 0 dC,_,ae (d.get A id) rfl,λI J=>Ok.mk ⟨?_,J.af⟩⟩;rw[RB x H]
 ·rintro _ B ⟨rfl,d⟩
  have f:=(o.then g).then d;have m:=(j.ah f).part (lo:=posOf (λP=>decide (P.group<=e)) l) (hi:=n) (cap:=c) oM (Q4 _) v;rw[Qz oM]at m;have K:Gg.k=3:=rfl;rw[K]at m;refine⟨_,rfl,_,_,_,ae (d.get (g.get k id) id) rfl,oM,oM,?_⟩;rw[Qx];refine PC.ok (Kh (most:=q) m (λb i=>by have:=u b i;have:=f.size;omega) oM) ?_;rintro _ I ⟨_,rfl,p,r,s,L,rfl,M,N,O⟩;have t:l.dropWhile (λP=>decide (P.group<=e))=l.drop (posOf (λP=>decide (P.group<=e)) l):=rW _ l;refine⟨_,_,_,_,rfl,Ok.mk ⟨.slice p r s,?_,p,r,s,L,rfl,?_,f.then N,λb i=>by have:=O b i;have:=f.size;omega⟩⟩
  ·unfold mN;rw[t]
  ·unfold mN;rw[t];exact M
end
def rV(P:dE):Value:=.agg (bg P).toArray
def MI(P:dE):ia XP 269 (bg P)=true:=kR
def VB(P:dE):Qh (ft XP 269) (.agg (bg P).toArray)=true:=kR
structure km (w:World) (p r:Nat) (R:dx):Prop where
 at':w.heap[p]? =some (.cells #[XH R.p.aX,XH R.p.field,XH R.p.group,XH R.p.DT,XH R.p.make,.map (some r)] 288 (0,0))
 map:bR w r (Value.int .i64) (R.rows.map λx=>(x.1,rV x.2))
 ok:∀x∈R.rows,dE.Ok x.2/\x.2.group=x.1
variable{a c:Nat}{d:ZH}{m:aj}{d7:iG}
section
variable {w w':World} {p r:Nat} {R:dx} {T:XN}
def km.af(P:km w p r R)(a:ak T w w')(b:¬T p)(c:¬T r):km w' p r R:=⟨a.get P.at' b,P.map.af a c,P.ok⟩
def km.ah(P:km w p r R)(a:ai w w'):km w' p r R:=P.af a id id
def NR:ZG 133 #[.agg (mQ d7).toArray] w (Ok λb w'=>∃p r,b= XL p/\km w' p r ⟨d7,[]⟩/\w.heap.size<=p/\w.heap.size<=r/\p<w'.heap.size/\r<w'.heap.size/\ai w w'):=by
 refine Jg (PA.mk λc d j P=>⟨_,_,_,_,_,ae P rfl,ae P rfl,ae P rfl,ae P rfl,ae P rfl,PA.mk λe f k g=>PA.mk λl a m h=>Ok.mk ⟨e.heap.size,c.heap.size,rfl,⟨h,bR.new (a.get g id),λd7 i=>by cases i⟩,oM,oM,oM,oM,(d.then f).then a⟩⟩)
def Fk(P:iG)(b:aj)(a:Int):Option Int:=if P.group=1 then some b.agg else if P.group=2 then some b.arg else if P.group=3 then some a else none
def Kj(i:km w p r R):ZG 263 #[XL p,js m d a c,XH e] w (Ok λj w'=>j= .tuple #[XH ((Fk R.p m e).getD 0),.bool (Fk R.p m e).isSome]/\ai w w'):=by
 refine tX (PA.mk λk P l h=>⟨p,0,rfl,_,ae (i.ah P).at' rfl,an.dO (λb=>⟨_,ae h rfl,Ok.mk ⟨?_,P⟩⟩) (λb=>an.dO (λf=>⟨_,ae h rfl,Ok.mk ⟨?_,P⟩⟩) (λf=>an.dO (λg=>Ok.mk ⟨?_,P⟩) (λg=>Ok.mk ⟨?_,P⟩)))⟩)
 ·unfold Fk;rw[Zx b];rfl
 ·unfold Fk;rw[Zq b,Zx f];rfl
 ·unfold Fk;rw[Zq b,Zq f,Zx g];rfl
 ·unfold Fk;rw[Zq b,Zq f,Zq g];rfl
def M_(h:km w p r R){arg:Int}:ZG 264 #[XL p,.agg (bg d8).toArray,XH arg] w (Ok λl w'=>l= XH (ll R.p d8 arg)/\ai w w'):=by
 refine vO (PA.mk λm b o f=>?_);have c:=(h.ah b).at';refine⟨_,ae f rfl,p,0,rfl,_,ae c rfl,an.dO (λd=>⟨_,ae f rfl,Ok.mk ⟨?_,b⟩⟩) (λd=>⟨p,0,rfl,_,ae c rfl,an.dO (λe=>⟨_,ae f rfl,Ok.mk ⟨?_,b⟩⟩) (λe=>⟨λk w'=>k=decide (R.p.make=5\/d8.count=1/\(R.p.make=3\/R.p.make=4))/\m=w',?_,?_⟩)⟩)⟩
 ·unfold ll;rw[Zx d]
 ·unfold ll;rw[Zq d,Zx e]
 ·refine⟨p,0,rfl,_,ae c rfl,an.dO (λg=>⟨?_,rfl⟩) (λg=>an.dO (λj=>⟨p,0,rfl,_,ae c rfl,an.dO (λP=>⟨?_,rfl⟩) (λP=>⟨p,0,rfl,_,ae c rfl,?_,rfl⟩)⟩) (λj=>⟨?_,rfl⟩))⟩
  ·rw[Zy (.inl g)];simpa using g
  ·rw[Zy (.inr ⟨j,.inl P⟩)]
  ·by_cases a:R.p.make=4
   ·rw[Zy (.inr ⟨j,.inr a⟩)];simpa using a
   ·rw[Xv (by rintro(h|⟨-,h|h⟩);exact g h;exact P h;exact a h)];simpa using a
  ·rw[Xv (by rintro(h|⟨h,-⟩);exact g h;exact j h)]
 ·rintro k _ _ ⟨n,rfl⟩
  subst n;refine an.dec (λi=>Ok.mk ⟨?_,b⟩) (λi=>⟨p,0,rfl,_,ae c rfl,an.dO (λP=>⟨_,ae f rfl,Ok.mk ⟨?_,b⟩⟩) (λP=>⟨p,0,rfl,_,ae c rfl,an.dO (λa=>⟨_,ae f rfl,Ok.mk ⟨?_,b⟩⟩) (λa=>Ok.mk ⟨?_,b⟩)⟩)⟩)
  ·unfold ll;rw[Zq d,Zq e,Zx i]
  ·have:(if arg<d8.value then arg else d8.value)=min d8.value arg:=by split<;>omega
   unfold ll;rw[Zq d,Zq e,Zq i,Zx P,<-this]
  ·have:(if arg>d8.value then arg else d8.value)=max d8.value arg:=by split<;>omega
   unfold ll;rw[Zq d,Zq e,Zq i,Zq P,Zx a,<-this]
  ·unfold ll;rw[Zq d,Zq e,Zq i,Zq P,Zq a]
end
def Pq:lZ XP 286 3 269 (rV ⟨0,0,0⟩):=⟨kR,kR⟩
def LA{a e f:Type}[BEq a](b:e->f)(c:a):∀P:List (a×e),az (P.map λd=>(d.1,b d.2)) c=(az P c).map b
 |[]=>rfl
 |(d,g)::P=>by
  simp only[QY];unfold az;split
  ·rfl
  ·exact LA b c P
def LB{c d g:Type}[BEq c](a:d->g)(e:c)(f:d):∀b:List (c×d),aK (b.map λP=>(P.1,a P.2)) e (a f)=(aK b e f).map λP=>(P.1,a P.2)
 |[]=>rfl
 |(P,h)::b=>by
  simp only[QY];unfold aK;split
  ·simp
  ·simp[LB a e f b]
section
variable {w w':World} {p r:Nat} {R:dx}
def dx.add_def(r:dx)(e:cM)(a:Int):r.add e a=match Fk r.p e.ev a with
  |none=>r
  |some P=>if e.void||e.ev.aX !=r.p.aX||e.ev.field !=r.p.field then r else
   {r with rows:=aK r.rows P ⟨P,ll r.p ⟨P,((az r.rows P).getD ⟨0,0,0⟩).value,om (((az r.rows P).getD ⟨0,0,0⟩).count+1)⟩ e.ev.arg,om (((az r.rows P).getD ⟨0,0,0⟩).count+1)⟩}:=rfl
def FU:aN 0:=by unfold aN;omega
def Ts{arg:Int}(P:dE.Ok d8)(a:aN arg):aN (ll d7 d8 arg):=by
 obtain⟨c,d,b⟩:=P;unfold ll;split;exact b;split;exact KT _;split;exact a;split
 ·unfold aN at*;omega
 split
 ·unfold aN at*;omega
 ·exact FU
def NN(i:km w p r R)(a1:p≠r){x:cM}(v:x.ev.Ok)(a2:aN e):ZG 201 #[XL p,DU x d a c,XH e] w (Ok λl w'=>l= .tuple #[]/\km w' p r (R.add x e)/\ak (·=r) w w'):=by
 have b1:=ay i.at';have b2:=i.map.lt;refine yd (PA.mk λw1 L s1 M=>Tt (cs:=aD x.ev d a c) (aZ _ _ _ _) M (λa3 l N=>?_) (PC.ok (Kj (i.ah L)) ?_))
 ·rw[Xz]
  have a4:=(Qv.1 N).1;show(aD x.ev d a c++_).toArray[a3]? =_;simp only[List.getElem?_toArray];rw[XW a4];exact N
 rintro _ O ⟨rfl,Q⟩;have m:=L.then Q;have n:=Q.get M id;have o:=i.ah m;have f:R.add x e=R->∀h,bQ O h->Ok (λl w'=>l= .tuple #[]/\km w' p r (R.add x e)/\ak (·=r) w w') (.returned (.tuple #[])) h:=λhe h j=>Ok.mk ⟨rfl,by rw[he];exact o.ah j.af,ai.af (m.then j.af)⟩;refine⟨_,_,rfl,an.not (an.mk (λy=>?_) (λy=>f ?_))⟩
 rotate_left
 ·rw[dx.add_def,show Fk R.p x.ev e=none by simpa using y]
 obtain⟨b,g⟩:=Option.isSome_iff_exists.1 y;rw[g,Option.getD_some];have s:∀{q:dx},(if x.void||x.ev.aX !=R.p.aX||x.ev.field !=R.p.field then R else
   {R with rows:=aK R.rows b ⟨b,ll R.p ⟨b,((az R.rows b).getD ⟨0,0,0⟩).value,om (((az R.rows b).getD ⟨0,0,0⟩).count+1)⟩ x.ev.arg,om (((az R.rows b).getD ⟨0,0,0⟩).count+1)⟩})=q->R.add x e=q:=λ{q} z=>by
  rw[dx.add_def,g];exact z
 refine⟨_,ae n rfl,an.mk (λk=>f (s (by rw[k];rfl))) (λk=>⟨_,ae n rfl,p,0,rfl,_,ae o.at' rfl,an.dI (λA=>f (s ?_)) (λA=>⟨_,ae n rfl,p,0,rfl,_,ae o.at' rfl,λh j=>?_⟩)⟩)⟩
 ·rw[k,show(x.ev.aX !=R.p.aX)=true by simpa using A];rfl
 have S:(x.ev.aX !=R.p.aX)=false:=by simpa using A
 have t:ai O h:=j.af;have u:=o.ah t;refine an.dI (λB=>f (s (by rw[k,S,show(x.ev.field !=R.p.field)=true by simpa using B];rfl)) h j) (λB=>?_);have a5:(x.ev.field !=R.p.field)=false:=by simpa using B
 have T:aN b:=by
  unfold Fk at g;split at g
  ·cases g;exact v.agg
  split at g
  ·cases g;exact v.arg
  split at g
  ·cases g;exact a2
  ·cases g
 obtain⟨P,C⟩:∃P,P=(az R.rows b).getD ⟨0,0,0⟩:=⟨_,rfl⟩
 have a6:dE.Ok P:=by
  rw[C]
  cases z:az R.rows b with
  |none=>exact⟨FU,FU,FU⟩
  |some U=>exact(i.ok _ (bW z)).1
 have a7:(az (R.rows.map λx=>(x.1,rV x.2)) b).getD (rV ⟨0,0,0⟩)=rV P:=by
  rw[LA,C];cases az R.rows b<;>rfl
 refine⟨p,0,rfl,_,ae u.at' rfl,yA Pq Ef u.map ?_⟩;rw[a7];refine bX (VB P) ⟨rfl,PA.mk λw4 k4 s4 g4=>aB (MI P) g4 rfl λw5 k5 s5 g5=>PS.mk g5 (by simp[bg]) λw6 k6 s6 V=>⟨_,ae V rfl,PS.mk V (by simp[bg]) λw7 k7 s7 W=>?_⟩⟩;have E:ai h w7:=((k4.new k5 λF H=>.inr oM).new k6 λF H=>.inr oM).new k7 λF H=>.inr oM;have a8:=E.get (t.get n id) id;refine ar (cs:=bg ⟨b,P.value,om (P.count+1)⟩) (MI _) W ⟨_,ae a8 rfl,PC.ok (M_ (u.ah E)) ?_⟩;rintro _ w8 ⟨rfl,I⟩;have z8:=I.size;refine⟨_,rfl,PS.mk (I.get W id) (by simp[bg]) λw9 k9 s9 g9=>λX a9=>?_⟩;have Y:ai w9 X:=a9.af;have Z:ai h X:=((E.then I).new k9 λF H=>.inr oM).then Y;have J:=u.ah Z;have z3:=(m.then t).size;refine⟨p,0,rfl,_,ae J.at' rfl,ar (cs:=bg ⟨b,ll R.p ⟨b,P.value,om (P.count+1)⟩ x.ev.arg,om (P.count+1)⟩) (MI _) (Y.get g9 id) (iy Pq Ef J.map λb3 b0 a0 b4=>Ok.mk ⟨rfl,?_,?_⟩)⟩
 ·rw[s (q:={R with rows:=aK R.rows b ⟨b,ll R.p ⟨b,P.value,om (P.count+1)⟩ x.ev.arg,om (P.count+1)⟩}) (by rw[k,S,a5,C];rfl)]
  refine⟨a0.get J.at' a1,?_,λU K=>?_⟩
  ·rw[<-LB];exact b0
  ·rcases eW K with rfl|K
   ·exact⟨⟨T,Ts ⟨T,a6.2.1,KT _⟩ v.arg,KT _⟩,rfl⟩
   ·exact i.ok U K
 ·exact(ai.af ((m.then t).then Z)).then a0
end
section
variable {w w':World} {p r:Nat} {R:dx}
def LS(f:km w p r R):ZG 250 #[XL p] w (Ok λg w'=>∃c e,g= XL c/\km w' c e R/\c≠e/\w.heap.size<=c/\w.heap.size<=e/\c<w'.heap.size/\e<w'.heap.size/\ai w w'):=by
 refine vN λa i=>?_;have j:ai w a:=i.af;have t:a.heap.size=w.heap.size:=by rw[i.heap]
 have b:=f.ah j;obtain⟨d,P,l,m,n,o⟩:=b.map.at';refine⟨no,p,0,rfl,id,_,_,_,_,_,ae b.at' rfl,ae b.at' rfl,ae b.at' rfl,ae b.at' rfl,ae b.at' rfl,p,0,rfl,_,ae b.at' rfl,PC.ok (φ:=λg w'=>g= .map (some a.heap.size)/\w'=a.alloc (.map d P)) ((AnyW.maps_Clone Tryz.Tu r d P a l).mono ?_) ?_⟩
 ·rintro u w' ⟨rfl,q⟩
  exact Ok.mk ⟨rfl,q⟩
 ·rintro _ v ⟨rfl,rfl⟩
  have k:ai a (a.alloc (.map d P)):=ak.alloc _ _;have x:(a.alloc (.map d P)).heap.size=a.heap.size+1:=sM
  refine⟨_,rfl,ai.af k,PA.mk λy h z s=>⟨ai.af h,Ok.mk ⟨_,a.heap.size,rfl,⟨s,⟨⟨d,P,h.get (heap_alloc_new a _) id,m,n,o⟩,f.map.tidy⟩,f.ok⟩,?_⟩⟩⟩;refine⟨oM,oM,oM,oM,oM,(j.then k).then h⟩
end
open Go.aw Go.Sort
def mM{c:Type}{g:Nat}{P:c->List Value}{e:c->Prop}{hl h1}{h:World}{D:XN}:∀{a:List c} {cs:List Value},bJ (flat g P e hl h1) h D a cs↔cs=a.flatMap P/\∀x∈a,e x
 |[],cs=>by simp[bJ]
 |x::a,cs=>by
  constructor
  ·rintro⟨l,m,rfl,⟨rfl,i⟩,j⟩
   obtain⟨rfl,k⟩:=mM.1 j;exact⟨rfl,λd b=>by rcases Q2.1 b with rfl|b;exact i;exact k d b⟩
  ·rintro⟨rfl,f⟩
   exact⟨P x,a.flatMap P,rfl,⟨rfl,f x (QV ..)⟩,mM.2 ⟨rfl,λd b=>f d (QJ _ b)⟩⟩
section
variable {α:Type} {enc:α->List Value} {K:Nat}
def fE(b:∀a,(enc a).length=K)(P:List α):(P.flatMap enc).length=P.length*K:=by
 induction P with
 |nil=>simp
 |cons a P c=>rw[List.flatMap_cons,QX,c,b,Xq,X7];omega
def jH[Inhabited α](g:0<K)(b:∀d,(enc d).length=K){P:List α}(e:a<P.length*K):(P.flatMap enc)[a]? =(enc P[a/K]!)[a % K]? :=by
 induction P generalizing a with
 |nil=>simp at e
 |cons d P h=>
  rw[List.flatMap_cons]
  by_cases c:a<K
  ·rw[XW (by rw[b];exact c),Nat.div_eq_of_lt c,Nat.mod_eq_of_lt c];rfl
  ·rw[Xq,X7]at e
   rw[X8 (by rw[b];omega),b,h oM];obtain⟨f,rfl⟩:∃f,a=f+K:=⟨a-K,oM⟩
   rw[Nat.add_sub_cancel,Nat.add_div_right _ g,Nat.add_mod_right];simp
def xt[Inhabited α](d:0<K)(c:∀g,(enc g).length=K)(P:List α):(flatK enc K P.toArray).toList=P.flatMap enc:=by
 apply X3;intro a
 by_cases b:a<P.length*K
 ·rw[jH d c b]
  have h:a<(flatK enc K P.toArray).size:=by simpa using b
  have e:=get_flatK enc K P.toArray a (by simpa using b);rw[getElem!_pos _ a h]at e;have f:a % K<(enc P[a/K]!).length:=by rw[c];exact Nat.mod_lt _ d
  rw[Qq (by simpa using b),Qq f]
  congr 1
  rw[Array.getElem_toList,e];rw[getElem!_pos _ _ (by simpa using f)]
  congr 1
  simp
 ·rw[Q7 (by simpa using b),Q7 (by rw[fE c];omega)]
end
instance:Inhabited dE:=⟨⟨0,0,0⟩⟩
def TF(a:dE):∀b∈bg a,b.oneCell'=true:=by
 intro c P;simp only[bg,Q2,List.not_mem_nil,or_false]at P;rcases P with rfl|rfl|rfl<;>rfl
def nU(P:dE):(bg P).length=3:=rfl
def Bt(P a:dE):Int:=if P.group<a.group then-1 else 1
def yK(P a:dE):ltOf Bt P a=decide (P.group<a.group):=by
 unfold ltOf Bt
 by_cases b:P.group<a.group<;>simp[b]
def UM:SWO (ltOf Bt) where
 irrefl x:=by rw[yK];simp
 trans x y z h1 h2:=by rw[yK]at*;simp at*;omega
 ntrans x y z h1 h2:=by rw[yK]at*;simp at*;omega
variable{g2:List dE}{f:XN}{b:World}
def TG{c d:dE}:ZG 396 #[.agg (bg c).toArray,.agg (bg d).toArray] b (Ok λf g=>f= XH (Bt c d)/\G b g):=by
 refine sQ (PA.UK λj e k h=>PA.UK λl P m i=>⟨_,ae ((P.af (S:=λ_=>False)).get h id) rfl,_,ae i rfl,an.dec (λa=>Ok.mk ⟨?_,e.then P⟩) (λa=>Ok.mk ⟨?_,e.then P⟩)⟩)
 ·unfold Bt;rw[Zx a]
 ·unfold Bt;rw[Zq a]
def MY(l:aT Gg 269 f b d a c g2)(B:g2.length<=20000000):
  ZG 395 #[.slice d a c,.func (.func 396) #[] #[]] b (Ok λL r=>L= .tuple #[]/\∃C:List dE,C.Perm g2/\(C.Pairwise λs M=>¬M.group<s.group)/\aT Gg 269 f r d a c C/\ak (λt=>aI d=some t) b r):=by
 obtain⟨cs,D,x,Y,Z⟩:=l.body;obtain⟨rfl,N⟩:=mM.1 Y;obtain⟨P,y⟩:∃P,P=g2:=⟨g2,rfl⟩
 rw[<-y]at x N;have E:=l.len dC;have u:P.length=a:=by rw[E,<-y]
 rcases x.cases with⟨rfl,rfl,rfl,h0⟩|⟨h,i,rfl,v,O,F,Q⟩
 ·have hd:P=[]:=QW u
  refine(AnyF.slices_SortFunc_none Tryz.SA none 0 _ b).mono ?_;rintro z r ⟨rfl,rfl⟩;exact Ok.mk ⟨rfl,g2,List.Perm.refl _,by rw[<-y,hd];exact List.Pairwise.nil,l,ak.refl _⟩
 ·have R:Gg.k=3:=rfl
  rw[R]at Q F;have a5:flatK bg 3 P.toArray=(P.flatMap bg).toArray:=by rw[<-xt (show 0<3 by decide) nU]
  have hH:HoldsK bg 3 b h 0 P.toArray:=by
   intro j n;rw[size_flatK]at n;simp only[List.size_toArray]at n;have S:j<(P.flatMap bg).length:=by rw[fE nU];exact n
   refine⟨?_,by simp[World.frozen?,v]⟩;have o:(flatK bg 3 P.toArray)[j]! =(P.flatMap bg)[j]:=by
    rw[a5,getElem!_pos _ j (by simpa using S)];simp
   rw[o,Xz];refine ae v ?_;have k:(i.toList.take (a*3))[j]? =some (P.flatMap bg)[j]:=by rw[Q];exact Qq S
   rw[Xw,Zx oM]at k;simpa using k
  have B:=x.row;have H:c<=maxLen:=by
   obtain⟨_,a0,_,T,_,_,_,H,_⟩:=x.row.2.resolve_left (by rintro⟨l,_⟩;cases l);simp only[XX]at T;rw[T.2.2];exact H
  have a6:P.toArray.size<4611686018427387904:=by
   simp only[List.size_toArray,u];omega
  have U:=AnyQ.slices_SortFunc Tryz.SA 3 (λb=>cU _ _ _ kR ⟨_,Tryz.underlying269⟩ b) (λb=>Tryz.sizeOf269 b) bg (λ_=>rfl) TF (Bt) UM 396 #[] h 0 c P.toArray b
   (enters_of Tryz.func396 kR rfl) (λa9 p dk b0 s M=>(TG).mono ?_) hH (ay v) a6
  ·rw[show P.toArray.size=a by simpa using u]at U
   refine U.mono ?_;rintro z r ⟨rfl,g,w,p,hp,hs,rfl⟩;obtain⟨p1,p2,V⟩:=hp;have e:g.size=a:=p1.trans (by simpa using u);have W:g.toList.Perm P:=by
    have o:g.extract 0 a=g:=by rw[<-e];exact Array.extract_size
    have k:P.toArray.extract 0 a=P.toArray:=by rw[show a=P.toArray.size by simpa using u.symm];exact Array.extract_size
    rw[o,k]at V;exact V
   have a2:flatK bg 3 g=(g.toList.flatMap bg).toArray:=by rw[<-xt (show 0<3 by decide) nU]
   have I:(sortWorldK bg 3 b h 0 w g p).heap[h]? =some (.cells (putCells id 0 (flatK bg 3 g) i) 269 (0,0)):=by
    have a7:=ay v;show((Sort.ahead b w).heap.modify h _++p)[h]? =_;rw[Array.getElem?_append_left (by simpa[Sort.ahead]using a7),Array.getElem?_modify,Zx rfl];show Option.map _ b.heap[h]? =_;rw[v];rfl
   have A:ak (λt=>aI (XM h)=some t) b (sortWorldK bg 3 b h 0 w g p):=by
    refine⟨rfl,rfl,rfl,?_,λa1 A E=>?_⟩
    ·show b.heap.size<=((Sort.ahead b w).heap.modify h _++p).size
     simp[Sort.ahead]
    ·show((Sort.ahead b w).heap.modify h _++p)[a1]? =_
     rw[Array.getElem?_append_left (by simpa[Sort.ahead]using A),Array.getElem?_modify,Zq (λz=>E (by rw[z];rfl))]
     rfl
   have a3:(putCells id 0 (flatK bg 3 g) i).size=c*3:=by unfold putCells;rw[Array.size_mapIdx];exact F
   refine Ok.mk ⟨rfl,g.toList,by rw[<-y];exact W,?_,⟨⟨g.toList.flatMap bg,D,⟨⟨?_,.inr ⟨h,c,_,rfl,Qj _,I,O,H,a3,?_⟩⟩⟩,mM.2 ⟨rfl,λs hx=>?_⟩,Z⟩,l.self,λt B=>Qk (l.aF t B) A.size⟩,A⟩
   ·rw[List.pairwise_iff_getElem]
    intro X j hi n a8;have o:=hs X j (Qj _) a8 (by simpa[e]using n);rw[yK,getElem!_pos _ j (by simpa using n),getElem!_pos _ X (by simpa using hi)]at o;simpa using o
   ·rw[fE nU,XK,e];rfl
   ·apply X3
    intro q;rw[R,Xw];split
    ·rename_i m
     rw[jH (show 0<3 by decide) nU (by rw[XK,e];exact m),<-jH (show 0<3 by decide) nU (by rw[XK,e];exact m)];unfold putCells;have a4:q<i.size:=by rw[F];exact Qk m (Q0 _ O)
     rw[Array.getElem?_toList,Array.getElem?_mapIdx,X6 a4];simp only[Option.map_some];have J:q<(flatK bg 3 g).size:=by rw[size_flatK,e];exact m
     rw[Zx ⟨Qj _,by rw[Xz];exact J⟩,Nat.sub_zero,getElem!_pos _ q J];have:(flatK bg 3 g)[q]=(g.toList.flatMap bg)[q]'(by rw[fE nU,XK,e];exact m):=by
      have k:=Zj (·[q]?) a2;simp only[List.getElem?_toArray]at k;rw[X6 J,Qq (by rw[fE nU,XK,e];exact m)]at k;exact XJ k
     rw[this];exact(Qq _).symm
    ·rename_i m
     rw[Q7 (by rw[fE nU,XK,e];omega)]
   ·have K:s∈P:=W.mem_iff.1 hx
    exact N s K
  ·rintro z r ⟨L,rfl,rfl,hG⟩
   exact⟨rfl,hG⟩
end
end Go.Proofs.YtblabbpipmodgaaGreatDoor
namespace Go.aw
open Go
structure bD (w:World) (F:XN) (cls:Nat->Nat) (C:Nat->World->(XN)->Prop):Prop where
 at':∀k,C k w (λb=>F b/\cls b=k)
 aF:∀b,F b->b<w.heap.size
def tu(P:Nat->World->(XN)->Prop):Prop:=∀a b c G d,P a b G->ak d b c->(∀e,G e->¬d e)->P a c G
section
variable {w w':World} {F T:XN} {cls:Nat->Nat} {C C2:Nat->World->(XN)->Prop}
def bD.af(b:bD w F cls C)(e:tu C)(c:ak T w w')(f:∀P,F P->¬T P):bD w' F cls C:=
 ⟨λd=>e d w w' _ T (b.at' d) c λP a=>f P a.1,λP a=>Qk (b.aF P a) c.size⟩
def bD.ah(P:bD w F cls C)(a:tu C)(b:ai w w'):bD w' F cls C:=P.af a b λ_ _ P=>P
def bD.FZ(h:bD w F cls C)(m:tu C){k:Nat}{G':XN}(g:ak (λP=>F P/\cls P=k) w w')(n:∀P,G' P->F P->cls P=k)(o:∀P,G' P->P<w'.heap.size)(p:C2 k w' G')(q:∀b G,b≠k->C b w' G->C2 b w' G):∃f c,bD w' f c C2/\ak F w w'/\(∀P,f P->((F P/\cls P≠k)\/G' P))/\(∀b,b≠k->(λP=>f P/\c P=b)=λP=>F P/\cls P=b)/\(λP=>f P/\c P=k)=G':=by
 classical
 have i:∀b,b≠k->(λP=>((F P/\cls P≠k)\/G' P)/\(if G' P then k else cls P)=b)=λP=>F P/\cls P=b:=λb e=>by
  funext P
  refine propext ⟨λa=>?_,λa=>?_⟩
  ·by_cases d:G' P
   ·rw[Zx d]at a;exact Zz a.2.symm e
   ·rw[Zq d]at a
    exact⟨(a.1.resolve_right d).1,a.2⟩
  ·have j:cls P≠k:=λr=>e (a.2.symm.trans r)
   rw[Zq λd=>j (n P d a.1)];exact⟨.inl ⟨a.1,j⟩,a.2⟩
 have l:(λP=>((F P/\cls P≠k)\/G' P)/\(if G' P then k else cls P)=k)=G':=by
  funext P
  refine propext ⟨λa=>?_,λa=>⟨.inr a,Zx a⟩⟩
  by_cases d:G' P
  ·exact d
  ·rw[Zq d]at a;exact Zz a.2 (a.1.resolve_right d).2
 refine⟨λP=>(F P/\cls P≠k)\/G' P,λP=>if G' P then k else cls P,⟨λb=>?_,λP a=>?_⟩,g.mono λP _ a=>a.1,λP a=>a,i,l⟩
 ·by_cases e:b=k
  ·subst e
   rw[l];exact p
  ·rw[i b e]
   refine q b _ e (m b w w' _ _ (h.at' b) g λP a s=>e (a.2.symm.trans s.2))
 ·rcases a with a|a
  ·exact Qk (h.aF P a.1) g.size
  ·exact o P a
def bD.eE(d:bD w F cls C)(i:tu C){k:Nat}{G':XN}(j:ak (λP=>F P/\cls P=k) w w')(f:∀P,G' P->(F P/\cls P=k)\/w.heap.size<=P)(l:∀P,G' P->P<w'.heap.size)(e:C2 k w' G')(m:∀b G,b≠k->C b w' G->C2 b w' G):∃c a,bD w' c a C2/\cK F w c w'/\(∀P,c P->((F P/\cls P≠k)\/G' P))/\(∀b,b≠k->(λP=>c P/\a P=b)=λP=>F P/\cls P=b)/\(λP=>c P/\a P=k)=G':=by
 obtain⟨c,a,g,e,h,n⟩:=d.FZ i j (λP o p=>(f P o).elim (·.2) λg=>by have:=d.aF P p;omega) l e m;exact⟨c,a,g,⟨e,λP q=>(h P q).elim (λd=>.inl d.1) λd=>(f P d).imp (·.1) id⟩,h,n⟩
def bD.same(d:bD w F cls C)(f:tu C){k:Nat}(e:ak (λP=>F P/\cls P=k) w w')(g:C2 k w' (λP=>F P/\cls P=k))(h:∀a G,a≠k->C a w' G->C2 a w' G):bD w' F cls C2:=
 ⟨λa=>by
  by_cases b:a=k
  ·subst b;exact g
  ·exact h a _ b (f a w w' _ _ (d.at' a) e λP c i=>b (c.2.symm.trans i.2)),λP c=>Qk (d.aF P c) e.size⟩
def bD.Bz(e:bD w F cls C)(f:tu C){k:Nat}{G':XN}(d:cK (λP=>F P/\cls P=k) w G' w')(g:∀P,G' P->P<w'.heap.size)(h:C2 k w' G')(i:∀b G,b≠k->C b w' G->C2 b w' G):∃c a,bD w' c a C2/\cK F w c w'/\(∀P,c P->((F P/\cls P≠k)\/G' P))/\(∀b,b≠k->(λP=>c P/\a P=b)=λP=>F P/\cls P=b)/\(λP=>c P/\a P=k)=G':=e.eE f d.1 d.2 g h i
def bD.join{G:Nat->XN}(b:∀P,C P w (G P))(h:∀e f a,G e a->G f a->e=f)(i:∀P a,G P a->a<w.heap.size):∃cls,bD w (λa=>∃P,G P a) cls C:=by
 classical
 refine⟨λa=>if b:∃P,G P a then b.choose else 0,⟨λP=>?_,λa ⟨P,c⟩=>i P a c⟩⟩;have:(λa=>(∃P,G P a)/\(if b:∃P,G P a then b.choose else 0)=P)=G P:=by
  funext a
  refine propext ⟨λ⟨d,g⟩=>?_,λc=>⟨⟨P,c⟩,?_⟩⟩
  ·rw[dif_pos d]at g;exact g▸d.choose_spec
  ·have d:∃P,G P a:=⟨P,c⟩
   rw[dif_pos d];exact h _ _ a d.choose_spec c
 rw[this];exact b P
end
end Go.aw
namespace Go.Proofs.YtblabbpipmodgaaGreatDoor
open Go.aw
def UA:ju Nat:=flat 1 (λa=>[XL a]) (λ_=>True) (λ_=>rfl) (λb c P=>by simp at P;subst P;rfl)
def NK:iH XP 217 224 1 8:=⟨kR,kR,dC⟩
structure cz (w:World) (G:XN) (a:ZH) (n c:Nat) (Rs:List dx):Prop where
 body:∃ps:List (Nat×Nat),ps.length=Rs.length/\aT UA 224 (λb=>aI a=some b) w a n c (ps.map (·.1))/\
  (∀(i j:Nat) (x y:Nat×Nat),ps[i]? =some x->ps[j]? =some y->x.1≠y.2/\(x.2=y.2->i=j))/\(∀x∈ps,G x.1/\G x.2/\aI a≠some x.1/\aI a≠some x.2)/\
  ∀(i:Nat) (x:Nat×Nat) (R:dx),ps[i]? =some x->Rs[i]? =some R->km w x.1 x.2 R
 self:∀b,aI a=some b->G b
variable{h:Program}{g o:TypeId}{l s:XR}
section
variable {w w':World} {G G' T:XN} {a:ZH} {n c:Nat} {Rs:List dx}
def cz.af(b:cz w G a n c Rs)(h:ak T w w')(d:∀P,G P->¬T P):cz w' G a n c Rs:=by
 obtain⟨i,j,k,l,e,m⟩:=b.body;exact⟨⟨i,j,k.af h λP o=>d P (b.self P o),l,e,λp f q g r=>(m p f q g r).af h (d _ (e f (QZ g)).1) (d _ (e f (QZ g)).2.1)⟩,b.self⟩
def cz.ah(P:cz w G a n c Rs)(b:ai w w'):cz w' G a n c Rs:=P.af b λ_ _ P=>P
def cz.mono(g:cz w G a n c Rs)(b:∀P,G P->G' P):cz w G' a n c Rs:=by
 obtain⟨h,i,j,k,d,l⟩:=g.body;exact⟨⟨h,i,j,k,λe f=>⟨b _ (d e f).1,b _ (d e f).2.1,(d e f).2.2⟩,l⟩,λP m=>b P (g.self P m)⟩
def cz.len(P:cz w G a n c Rs):n=Rs.length:=by
 obtain⟨e,b,d,-⟩:=P.body;rw[d.len dC,Q8,b]
def cz.nil(w:World):cz w (λ_=>False) none 0 0 []:=⟨⟨[],rfl,(aT.nil w).mono (λa P=>P.elim) (λa P=>by cases P),sM,sM,sM⟩,λa P=>by cases P⟩
def cz.elem(m:cz w G a n c Rs){P:Nat}{o:dx}(u:Rs[P]? =some o):∃f e g,a=XM f/\w.cell? ⟨f,0+P,none⟩=some (XL e)/\km w e g o/\e≠g/\G e/\G g/\G f/\
  ∀w' p,ak (·=g) w w'->km w' e g p->cz w' G a n c (Rs.set P p):=by
 obtain⟨h,B,v,j,x,y⟩:=m.body;have L:=(Qv.1 u).1;have b:h[P]? =some h[P]:=Qq oM;generalize h[P]=d at b;obtain⟨cs,D,C,E,M⟩:=v.body;have q:=x d (QZ b);obtain⟨rfl,-⟩:=mM.1 E;have F:((h.map (·.1)).flatMap λe=>[Value.pointer (XM e)])[P]? =some (XL d.1):=by
  rw[jH (K:=1) dC (λ_=>rfl) bc,Nat.div_one,Nat.mod_one,getElem!_pos _ P bc];simp[(Qv.1 b).2]
 obtain⟨f,z,H⟩:=C.cell F;refine⟨f,d.1,d.2,z,by rw[Xz];exact H.2,y P d o b u,(j P P d d b b).1,q.1,q.2.1,m.self f (by rw[z];rfl),λw' p A I=>⟨⟨h,by simpa using B,v.af A λN J r=>q.2.2.2 (r▸J),j,x,λk s K i l=>?_⟩,m.self⟩⟩
 by_cases t:P=k
 ·subst t
  rw[b]at i;cases i
  rw[List.getElem?_set_self oM]at l;cases l
  exact I
 ·rw[List.getElem?_set_ne t]at l
  exact(y k s K i l).af A (j k P s d i b).1 λr=>t ((j P k d s b i).2 r.symm)
def cz.push(r:cz w G a n c Rs)(I:∀P,G P->P<w.heap.size){e f M:Nat}{N:dx}{W:Nat×Nat}(J:km w e f N)(O:¬G e)(y:¬G f)(X:e≠f)(Y:iH h g 224 1 8)(Z:w.heap[M]? =some (.cells #[XL e] 224 W))(b:Rs.length<=1000)(K:∀k z w' G',cz w' G' k (n+1) z (Rs++[N])->ak G w w'->(∀P,G' P->G P\/P=e\/P=f\/w.heap.size<=P)->(∀P,G' P->P<w'.heap.size)->l (.slice k (n+1) z) w'):
  aH h (Builtin.append_ #[g,g] o #[.slice a n c,.slice (XM M) 1 1]) w l s:=by
 obtain⟨m,p,L,h3,A,h5⟩:=r.body;have a1:e<w.heap.size:=ay J.at';have a2:f<w.heap.size:=J.map.lt;refine ep L Y Z (D:=λ_=>False) (x:=e) ⟨rfl,trivial⟩ (λP b=>b.elim) (by unfold aO;simp;omega) (by unfold maxLen;simp;omega) λk z w' F' Q C hF=>?_;have a0:∀P,aI k=some P->aI a=some P\/w.heap.size<=P:=λP b=>(hF P (Q.self P b)).imp id λr=>r.resolve_left id;have t:=Q.alone;have a5:=C.size;have R:∀P,aI k=some P->aI a=some P\/w.heap.size<=P:=a0;have F:∀P,P<w.heap.size->aI a≠some P->aI k≠some P:=λP b p L=>(R P L).elim p oM;have S:aI a≠some e:=λj=>O (r.self e j);have T:aI a≠some f:=λj=>y (r.self f j);refine K k z w' (λP=>(G P\/P=e\/P=f\/aI k=some P)) ⟨⟨m++[(e,f)],by simp[p],by rw[Q3];exact t,λi U x u B H=>?_,λx B=>?_,λi x a3 B q=>?_⟩,λP b=>.inr (.inr (.inr b))⟩ (C.mono λP _ b=>r.self P b) (λP b=>?_) λP b=>?_
 ·have E:∀i x,(m++[(e,f)])[i]? =some x->(m[i]? =some x)\/(i=m.length/\x=(e,f)):=λi x B=>by
   rw[List.getElem?_append]at B;split at B
   ·exact .inl B
   ·rename_i V
    have:i-m.length=0:=by
     rcases Nat.eq_zero_or_pos (i-m.length)with v|v
     ·exact v
     ·rw[Q7 bc]at B;cases B
    rw[this]at B;simp at B;exact .inr ⟨oM,B.symm⟩
  rcases E i x B with B|⟨rfl,rfl⟩<;>rcases E U u H with H|⟨rfl,rfl⟩
  ·exact h3 i U x u B H
  ·have d:=A x (QZ B)
   exact⟨λj=>y ((show x.1=f from j)▸d.1),λj=>Zz ((show x.2=f from j)▸d.2.1) y⟩
  ·have d:=A u (QZ H)
   exact⟨λj=>O ((show e=u.2 from j)▸d.2.1),λj=>Zz ((show f=u.2 from j)▸d.2.1) y⟩
  ·exact⟨X,λ_=>rfl⟩
 ·rcases Q6.1 B with B|B
  ·have d:=A x B
   exact⟨.inl d.1,.inl d.2.1,F _ (I _ d.1) d.2.2.1,F _ (I _ d.2.1) d.2.2.2⟩
  ·simp at B;subst B
   exact⟨.inr (.inl rfl),.inr (.inr (.inl rfl)),F _ a1 S,F _ a2 T⟩
 ·rw[List.getElem?_append]at B q
  rw[<-p]at q;split at B
  ·rename_i a4
   rw[Zx a4]at q;have d:=A x (QZ B);exact(h5 i x a3 B q).af C d.2.2.1 d.2.2.2
  ·rename_i V
   rw[Zq V]at q;have:i-m.length=0:=by
    rcases Nat.eq_zero_or_pos (i-m.length)with v|v
    ·exact v
    ·rw[Q7 bc]at B;cases B
   rw[this]at B q;simp at B q;subst B q;exact J.af C S T
 ·rcases b with b|b|b|b
  ·exact .inl b
  ·exact .inr (.inl b)
  ·exact .inr (.inr (.inl b))
  ·rcases R P b with p|p
   ·exact .inl (r.self P p)
   ·exact .inr (.inr (.inr p))
 ·rcases b with b|b|b|b
  ·have:=I P b;omega
  ·omega
  ·omega
  ·exact t.aF P b
def Wc:ju (List dx) where
 k:=2
 rep:=λw D Rs cs=>∃P a n c,cs=[.pointer P,.slice a n c]/\cz w D a n c Rs
 af:=λ⟨P,a,n,c,b,d⟩ g e=>⟨P,a,n,c,b,d.af g e⟩
 mono:=λ⟨P,a,n,c,b,d⟩ e=>⟨P,a,n,c,b,d.mono e⟩
 len:=λ⟨P,a,n,c,b,d⟩=>by rw[b];rfl
 one:=λ⟨P,a,n,c,b,d⟩ h f=>by
  rw[b]at f;simp only[Q2,List.not_mem_nil,or_false]at f;rcases f with rfl|rfl<;>rfl
def TQ:iH XP 220 219 2 32:=⟨kR,kR,dC⟩
end
def IF(P:aR)(a:List aj)(b:aj):dU P (a++[b])=(dU P a).add b:=by unfold dU;rw[List.foldl_append];rfl
def IH(P:aR)(a:List aj)(b:aj):cH P (a++[b])=((cH P a).add b).2:=by unfold cH;rw[List.foldl_append];rfl
def IG(b:aR)(P:List aj):(dU b P).view=cH b P:=by
 have:∀(P:List aj) (a:jt),(P.foldl jt.add a).view=P.foldl (λd c=>(d.add c).2) a.view:=by
  intro P
  induction P with
  |nil=>intro a;rfl
  |cons c P e=>intro a;rw[List.foldl_cons,List.foldl_cons,e];rfl
 exact this P _
variable{p:Array Value}{z:XT}{e:Int}{C:List aj}{g3:List dx}{a c:Nat}{d:ZH}{b:World}{J:aR}{d1:aY}{m:aj}{d7:iG}
def Gh(d:di J=0)(a:List aj):(cH J a).OK/\(cH J a).decl=J:=by
 have:∀(a:List aj) (P:aY),P.OK->(a.foldl (λP b=>(P.add b).2) P).OK/\(a.foldl (λP b=>(P.add b).2) P).decl=P.decl:=by
  intro a
  induction a with
  |nil=>intro P c;exact⟨c,rfl⟩
  |cons b a e=>
   intro P c;obtain⟨f,g⟩:=aY.yR c b;obtain⟨h,i⟩:=e _ f;exact⟨h,i.trans g⟩
 exact this a _ (aY.se d)
def dx.TR(a:dx)(b:cM)(P:Int):(a.add b P).p=a.p:=by
 unfold dx.add;dsimp only;split
 ·rfl
 ·split<;>rfl
def FY(d:aR)(P:List aj):(dU d P).rows.map (·.p)=d.projs:=by
 have:∀(P:List aj) (a:jt),(P.foldl jt.add a).rows.map (·.p)=a.rows.map (·.p):=by
  intro P
  induction P with
  |nil=>intro a;rfl
  |cons b P e=>
   intro a;rw[List.foldl_cons,e];show((a.rows.map λc=>c.add (a.view.add b).1 (rr ((a.view.add b).2.state b.aX b.agg) c.p)).map (·.p))=_;rw[List.map_map];exact List.map_congr_left λc _=>c.TR _ _
 refine(this P _).trans ?_;show(d.projs.map λf=>(⟨f,[]⟩:dx)).map (·.p)=_;rw[List.map_map];exact List.map_id _
def oQ(P:aR)(a:List aj):(dU P a).rows.length=P.projs.length:=by
 rw[<-FY P a,Q8]
def jz(b:aR)(P:Nat)(a:List aj):List (List dx):=(List.range (a.length/P+1)).map λc=>(dU b (a.take (c*P))).rows
section
variable {d:aR} {every:Nat} {l:List aj}
def yP:(jz d every l).length=l.length/every+1:=by simp[jz]
def NP(P:a<=l.length/every):(jz d every l)[a]? =some (dU d (l.take (a*every))).rows:=by
 unfold jz;rw[Q9,List.getElem?_range oM];rfl
def NS:jz d every []=[(dU d []).rows]:=by
 unfold jz;rw[ZQ,Nat.zero_div];simp
def LU(e:0<every)(f:aj):jz d every (l++[f])=if l.length+1=(l.length/every+1)*every then jz d every l++[(dU d (l++[f])).rows]else jz d every l:=by
 have h:=Nat.div_add_mod l.length every;have i:=Nat.mod_lt l.length e;have a:∀P,P<=l.length/every->(l++[f]).take (P*every)=l.take (P*every):=λP b=>by
  have:P*every<=l.length:=Xx (Q0 _ b) (Nat.div_mul_le_self ..);rw[List.take_append_of_le_length this]
 split
 ·rename_i c
  have g:(l.length+1)/every=l.length/every+1:=by rw[c];exact Nat.mul_div_cancel _ e
  unfold jz;rw[QX,List.length_singleton,g,List.range_succ,Q3]
  congr 1
  ·refine List.map_congr_left λP b=>?_
   rw[a P (by have:=List.mem_range.1 b;omega)]
  ·rw[List.map_singleton,<-c,Qz sM]
 ·rename_i c
  have g:(l.length+1)/every=l.length/every:=by
   have j:(l.length+1)/every<l.length/every+1:=by
    rw[Nat.div_lt_iff_lt_mul e];rw[X7,Nat.one_mul,Nat.mul_comm]at c⊢;omega
   have k:l.length/every<=(l.length+1)/every:=Nat.div_le_div_right oM;omega
  unfold jz;rw[QX,List.length_singleton,g];refine List.map_congr_left λP b=>?_;rw[a P (by have:=List.mem_range.1 b;omega)]
def LX(b:0<every)(c:a<=l.length/every):(jz d every l).take (a+1)=jz d every (l.take (a*every)):=by
 have e:a*every<=l.length:=Xx (Q0 _ c) (Nat.div_mul_le_self ..);unfold jz;rw[Qy,X2 e,Nat.mul_div_cancel _ b,<-List.map_take,List.take_range,X2 oM];refine List.map_congr_left λf g=>?_;have P:f<=a:=by have:=List.mem_range.1 g;omega
 rw[List.take_take,X2 (Q0 _ P)]
end
structure vh where
 ta:ZH
 tn:Nat
 tc:Nat
 pa:ZH
 pn:Nat
 pc:Nat
 every:Nat
 ea:ZH
 en:Nat
 ec:Nat
 vp:Nat
 ra:ZH
 rn:Nat
 rc:Nat
 qa:ZH
 qn:Nat
 qc:Nat
abbrev vh.cells(P:vh):Array Value:= #[.slice P.ta P.tn P.tc,.slice P.pa P.pn P.pc,XH (P.every:Int),.slice P.ea P.en P.ec,XL P.vp,.slice P.ra P.rn P.rc,.slice P.qa P.qn P.qc]
def yM(c:Nat)(d:Array Value)(P:vh)(e:aR)(f:aY)(g:List dx)(h:List aj)(b:List (List dx)):Nat->World->(XN)->Prop
 |0=>λa G=>G c/\a.heap[c]? =some (.cells d 222 (0,0))
 |1=>λa G=>bf a G e P.ta P.tn P.pa P.pn
 |2=>λa G=>aT h_ 55 G a P.ea P.en P.ec h
 |3=>λa G=>cy a P.vp G f
 |4=>λa G=>cz a G P.ra P.rn P.rc g
 |5=>λa G=>aT Wc 219 G a P.qa P.qn P.qc b
 |_=>λ_ _=>True
def dA{e:vh}{d:List (List dx)}:tu (yM a p e J d1 g3 C d):=by
 intro k f w' G g P b c
 match k,P with
 |0,P=>exact⟨P.1,b.get P.2 (c a P.1)⟩
 |1,P=>exact bf.af P b c
 |2,P=>exact aT.af P b c
 |3,P=>exact cy.af P b c
 |4,P=>exact cz.af P b c
 |5,P=>exact aT.af P b c
 |k+6,P=>trivial
abbrev dR(c:World)(d:XN)(P:Nat->Nat)(e:Nat)(b:vh)(f:aR)(g:aY)(h:List dx)(i:List aj)(a:List (List dx)):Prop:=bD c d P (yM e b.cells b f g h i a)
section
variable {w w':World} {p:Nat} {F T D:XN} {cls:Nat->Nat} {q:vh} {d:aR} {V:aY} {Rs:List dx} {l:List aj} {pts:List (List dx)}
def dR.ah(P:dR w F cls p q d V Rs l pts)(a:ai w w'):dR w' F cls p q d V Rs l pts:=bD.ah P dA a
def dR.bl(P:dR w F cls p q d V Rs l pts):w.heap[p]? =some (.cells q.cells 222 (0,0)):=(P.at' 0).2
def dR.self(P:dR w F cls p q d V Rs l pts):F p/\cls p=0:=(P.at' 0).1
def CB(s:dR w F cls p q d V Rs l pts)(hd:di d=0)(hT:eG w)(hl:l.length<=20000000){vp:ZH}{y:ZH}(hr:cz w D y a c g3)(hD:∀P,D P->P<w.heap.size)(hn:g3.length<=8):
  ZG 180 #[XL p,.agg #[.pointer vp,.slice y a c]] w (Ok λT w'=>∃h y a c f G,T= .agg #[XL h,.slice y a c]/\cy w' h f (cH d l)/\cz w' G y a c g3/\(∀P,f P->w.heap.size<=P)/\(∀P,G P->w.heap.size<=P/\P<w'.heap.size/\¬f P)/\ai w w'):=by
 have U:=s.aF;have g4:=hr.len;refine rY (PA.mk λt k5 s5 g5=>PA.mk λz k6 s6 g6=>?_);have A:=k5.then k6;have c0:∀{j:World},ai w j->Row h_ 96 j (λP=>F P/\cls P=2) q.ea q.en l:=λ{j} u=>((show aT h_ 55 (λP=>F P/\cls P=2) w q.ea q.en q.ec l from s.at' 2).ah u).row dC ba;have n:∀{j:World},ai w j->ZG 40 #[.agg #[.slice q.ta q.tn q.tc,.slice q.pa q.pn q.pc],.slice q.ea q.en q.ec] j (Ok λT w'=>∃p F,T= XL p/\cy w' p F (cH d l)/\(∀P,F P->j.heap.size<=P)/\ai j w'):=λ{j} u=>
  FR hd (hT.ah u) (show bf j (λP=>F P/\cls P=1) d q.ta q.tn q.pa q.pn from bf.af (s.at' 1) u λ_ _ s=>s) (λP b=>by have:=U P b.1;have:=u.size;omega) (c0 u) (λP b=>by have:=U P b.1;have:=u.size;omega) hl
 refine⟨λi oo w'=>oo=0/\∃h f,w'.heap[i]? =some (.cells #[XL h,.slice none 0 0] 219 (0,0))/\cy w' h f (cH d l)/\(∀P,f P->z.heap.size<=P)/\¬f i/\z.heap.size<=i/\ai z w',?_,?_⟩
 ·intro o d9
  have v:ai z o:=d9.af;have s9:o.heap.size=z.heap.size:=by rw[d9.heap]
  have W:=(s.ah (A.then v)).bl;have zp:=U p s.self.1;have nS:¬o.heap.size<=p:=by have:=(A.then v).size;omega
  refine⟨λP=>o.heap.size<=P,p,0,rfl,nS,_,_,_,_,_,_,ae W rfl,ae W rfl,p,0,rfl,nS,_,_,_,ae W rfl,PC.ok (n (A.then v)) ?_,PA.mk λg7 X g8 d2=>⟨ai.af X,PC.ok (n ((A.then v).then X)) ?_⟩⟩
  ·rintro _ J ⟨h,f,rfl,r,B,Y⟩
   refine⟨_,rfl,ai.af Y,PA.mk λd3 Z g9 d4=>⟨ai.af Z,PS.mk d4 sM λh0 d5 h2 d6=>PS.mk d6 sM λd7 d8 h3 e0=>?_⟩⟩;have C:=r.aF;have h4:=Y.size;have g:ak (λP=>P=J.heap.size) d3 d7:=d5.then d8;refine⟨g.mono λP _ e=>by have e:P=J.heap.size:=e;omega,rfl,h,f,e0,(r.ah Z).af g λP b e=>by have e:P=J.heap.size:=e;have:=C P b;omega,λP b=>by have:=B P b;omega,λb=>by have:=C _ b;omega,oM,((v.then Y).then Z).new g λP b=>.inr (by have b:P=J.heap.size:=b;omega)⟩
  ·rintro _ e1 ⟨h,f,rfl,r,B,K⟩
   have e2:=K.get d2 id;have C:=r.aF;have h5:=K.size;refine⟨_,rfl,ai.af K,PS.mk e2 sM λh6 e3 h7 e4=>PS.mk e4 sM λe5 e6 h8 e7=>?_⟩;have g:ak (λP=>P=o.heap.size) e1 e5:=e3.then e6;refine⟨g.mono λP _ e=>by have e:P=o.heap.size:=e;omega,rfl,h,f,e7,r.af g λP b e=>by have e:P=o.heap.size:=e;have:=B P b;omega,λP b=>by have:=B P b;omega,λb=>by have:=B _ b;omega,oM,((v.then X).then K).new g λP b=>.inr (by have b:P=o.heap.size:=b;omega)⟩
 rintro i _ _ L ⟨rfl,h,f,E,r,c1,e8,c2,M⟩;have a5:=A.then M;have h9:=M.size;have a3:i<L.heap.size:=ay E;have C:=r.aF;have c4:=M.get (k6.get g5 id) id;have c5:=M.get g6 id;refine⟨_,_,_,ae c4 rfl,λa2 a4 w'=>∃k:Nat,a4=k/\k<=a/\a2=a-k/\∃N H O G,w'.heap[i]? =some (.cells #[XL h,.slice N H O] 219 (0,0))/\cz w' G N H O (g3.take k)/\(∀P,G P->L.heap.size<=P/\P<w'.heap.size)/\ak (·=i) L w',
  ⟨_,0,rfl,Qj _,rfl,none,0,0,λ_=>False,E,cz.nil _,λP b=>b.elim,ak.refl _⟩,?_⟩
 rintro a2 _ _ I ⟨k,rfl,hj,rfl,N,H,O,G,Q,R,m,x⟩;have i0:=x.size;refine an.dec (λi1=>?_) (λi2=>?_)
 ·have e9:k<g3.length:=oM
  have hx:g3[k]? =some g3[k]:=Qq e9;generalize g3[k]=f0 at hx;obtain⟨a7,pj,rj,ha,a0,hR,a8,a9,b0,-,-⟩:=((hr.ah a5).af x λP b e=>by have e:P=i:=e;have:=hD P b;omega).elem hx;have f2:=R.len;rw[Qy,X2 oM]at f2;refine⟨a7,0,ha,oM,oM,_,by rw[Qx];exact a0,λc6 c7=>⟨λ_=>False,id,?_⟩⟩;have b2:ai I c6:=c7.af;have i3:c6.heap.size=I.heap.size:=by rw[c7.heap]
  refine⟨_,_,_,ae (b2.get Q id) rfl,PC.ok (LS (hR.ah b2)) ?_⟩;rintro _ i4 ⟨p',r',rfl,f3,f4,i5,i6,i7,i8,b3⟩;have i9:=b3.size;refine⟨_,rfl,b3,PA.mk λj0 b4 j1 f6=>⟨b4,?_⟩⟩;have a1:=(b2.then b3).then b4;refine(R.ah a1).push (λP b=>by have:=(m P b).2;omega) (f3.ah b4) (λb=>by have:=(m _ b).2;omega) (λb=>by have:=(m _ b).2;omega) f4 NK f6 (by rw[Qy];omega) λb1 c3 j2 G3 f7 b5 g0 c8=>⟨_,_,_,rfl,?_⟩
  have j3:=b5.size;have b6:=b5.get (a1.get Q id) λb=>by have:=(m _ b).1;omega
  have a6:∀P,G3 P->L.heap.size<=P:=λP b=>by
   rcases g0 P b with S|S|S|S
   ·exact(m P S).1
   ·omega
   ·omega
   ·omega
  refine PS.mk b6 sM λj4 c9 j5 g1=>⟨_,oM,k+1,aq oM,oM,rfl,b1,H+1,c3,G3,g1,?_,λP b=>⟨a6 P b,by have:=c8 P b;omega⟩,?_⟩
  ·rw[Qw,hx]
   exact f7.af c9 λP b e=>by have e:P=i:=e;have:=a6 P b;omega
  ·exact((x.ah a1).new b5 λP b=>.inr (m P b).1).then c9
 ·rw[Qz oM]at R
  have d0:=x.get c5 λe=>by have e:t.heap.size=i:=e;omega
  refine⟨_,_,_,_,ae Q rfl,ae Q rfl,PS.mk d0 sM λj6 b7 j7 g2=>PS.mk g2 sM λb8 b9 j8 d1=>⟨_,_,_,_,ae d1 rfl,ae d1 rfl,Ok.mk ⟨h,N,H,O,f,G,rfl,?_,?_,λP b=>by have:=c1 P b;omega,λP b=>⟨?_,?_,?_⟩,?_⟩⟩⟩
  ·have g:ak (λP=>P=t.heap.size) I b8:=b7.then b9
   exact(r.af x λP b e=>e8 ((show P=i from e)▸b)).af g λP b e=>by have e:P=t.heap.size:=e;have:=c1 P b;omega
  ·have g:ak (λP=>P=t.heap.size) I b8:=b7.then b9
   exact R.af g λP b e=>by have e:P=t.heap.size:=e;have:=m P b;omega
  ·have:=m P b;omega
  ·have:=m P b;omega
  ·intro hf;have:=m P b;have:=C P hf;omega
  ·have g:ak (λP=>P=t.heap.size) I b8:=b7.then b9
   exact(a5.new x λP b=>.inr (by have b:P=i:=b;omega)).new g λP b=>.inr (by have b:P=t.heap.size:=b;omega)
end
section
variable {w w':World} {p:Nat} {F T D:XN} {cls:Nat->Nat} {q:vh} {d:aR} {V:aY} {Rs:List dx} {l:List aj} {pts:List (List dx)}
def BA{d:ZH}{w:World}{D:XN}(h:Row aM 8 w D d a m.aQ)(s:∀P,D P->P<w.heap.size):
  ZG 202 #[js m d a c] w (Ok λt w'=>∃d a c G,t=js m d a c/\Row aM 8 w' G d a m.aQ/\(∀P,G P->w.heap.size<=P/\P<w'.heap.size)/\ai w w'):=by
 have u:=h.dB;have v:=h.len;refine xA (PA.mk λz l A e=>PA.mk λB f C i=>⟨_,_,_,ae (f.get e id) rfl,PC.ok (b_ (h.ah (l.then f)) λP b=>by have:=s P b;omega) ?_⟩);rintro _ E ⟨n,o,p,G,rfl,q,g,j⟩;have e:=g.get (f.get e id) id;have i:=g.get i id;refine⟨_,_,_,rfl,PS.mk e (by simp[aD]) λF k H x=>?_⟩;refine ar (cs:=aD m n o p) (aZ _ _ _ _) x (aB (aZ _ _ _ _) (k.get i oM) rfl λI r J y=>ar (aZ _ _ _ _) y (Ok.mk ⟨n,o,p,G,rfl,?_,?_,?_⟩))
 ·refine(((q.af k λP b=>?_).af r λP b=>?_).row (bytes:=8) dC (by rw[<-v];exact u))
  ·have:=j P b;omega
  ·have:=j P b;omega
 ·intro P b
  have:=j P b;have:=q.aF P b;omega
 ·have K:=g.size
  exact((ak.new ((l.then f).then g) k λP b=>.inr oM).new r λP b=>.inr oM)
def dR.store{a:vh}{b:Array Value}(P:bD w F cls (yM p q.cells a d V Rs l pts))(e:ak (·=p) w w')(f:w'.heap[p]? =some (.cells b 222 (0,0))):bD w' F cls (yM p b a d V Rs l pts):=by
 refine bD.same P dA (k:=0) (e.mono λj _ g=>g▸(P.at' 0).1) ⟨(P.at' 0).1,f⟩ λc G h i=>?_;rcases c with _|_|_|_|_|_|c<;>first|exact i|exact Zz rfl h
def CC(a:dR w F cls p q d V Rs l pts)(I:di d=0)(J:eG w)(K:l.length<=20000000)(L:Rs.length<=8)(b2:pts.length*q.every<9223372036854775808)(b3:pts.length<=20000001):
  ZG 134 #[XL p] w (Ok λM w'=>M= .tuple #[]/\∃t u f,dR w' u f p t d V Rs l (if l.length=pts.length*q.every then pts++[Rs]else pts)/\t.every=q.every/\cK F w u w'):=by
 have j:=a.bl;have N:=aT.len (a.at' 2) dC;have O:=aT.len (a.at' 5) dC;have Q:=a.aF;have R:XG .i64 (((q.qn:Nat):Int)*(q.every:Int))=((pts.length*q.every:Nat):Int):=by
  rw[O,show((pts.length:Nat):Int)*(q.every:Int)=((pts.length*q.every:Nat):Int) by push_cast;rfl,wrap_i64 bb]
 refine rZ ⟨p,0,rfl,_,_,_,ae j rfl,p,0,rfl,_,_,_,ae j rfl,p,0,rfl,_,ae j rfl,λS T=>?_⟩;rw[R,N];have k:ai w S:=T.af;refine an.dO (λb4=>?_) (λb5=>Ok.mk ⟨rfl,q,F,cls,?_,rfl,ai.af k,λP b=>.inl b⟩)
 rotate_left
 ·rw[Zq oM];exact dR.ah a k
 rw[Zx oM];intro v U;have i:ai w v:=k.then U.af;have e:=dR.ah a i;have m:=e.bl;refine⟨λ_=>False,p,0,rfl,id,_,_,_,ae m rfl,p,0,rfl,_,_,_,_,ae m rfl,ae m rfl,PC.ok (CB e I (J.ah i) K (e.at' 4) (λP b=>e.aF P b.1) L) ?_⟩;rintro _ b6 ⟨b7,a3,n2,c2,Fv,G,rfl,-,W,-,n,o⟩;refine⟨_,_,_,_,rfl,o,PA.mk λb8 r b9 X=>⟨r,?_⟩⟩;have x:=o.then r;have Y:=dR.ah e x;have c0:=i.size;have c1:=o.size;have s:∀P,aI q.qa=some P->F P/\cls P=5:=λP b=>aT.self (a.at' 5) P b;refine ep (c:=Wc) (x:=Rs) (Y.at' 5) TQ X (D:=G) ⟨_,_,_,_,rfl,W.ah r⟩ (λP b=>⟨by have:=(n P b).2.1;omega,λg=>by have:=Q P (s P g).1;have:=(n P b).1;omega⟩) ba (by unfold maxLen;omega) λy c Z F2 z A b0=>⟨_,_,_,rfl,p,0,rfl,?_⟩
 have a0:¬aI q.qa=some p:=λg=>by have h:=(s p g).2;rw[a.self.2]at h;cases h
 have c3:=A.size;have a1:ak (λP=>F P/\cls P=5) v Z:=(ai.af x).then (A.mono λP _ b=>s P b);obtain⟨F3,a2,B,C,-,-⟩:=e.eE dA (k:=5) (G':=F2) (C2:=yM p q.cells {q with qa:=y,qn:=q.qn+1,qc:=c} d V Rs l (pts++[Rs])) a1
  (λP b=>(b0 P b).imp id λa=>a.elim (λa=>(n P a).1) λa=>oM) z.aF z λE G hj hc=>by
   rcases E with _|_|_|_|_|_|E<;>first|exact hc|exact Zz rfl hj
 refine PS.mk (B.at' 0).2 sM λc4 H c5 b1=>Ok.mk ⟨rfl,{q with qa:=y,qn:=q.qn+1,qc:=c},F3,a2,dR.store B H b1,rfl,?_,λP b=>?_⟩
 ·refine((ai.af i).then C.af).then (H.mono λP _ g=>g▸a.self.1)
 ·rcases C.new P b with h|h
  ·exact .inl h
  ·exact .inr oM
end
section
variable {w w':World} {p:Nat} {F T D:XN} {cls:Nat->Nat} {q:vh} {d:aR} {V:aY} {Rs:List dx} {l:List aj} {pts:List (List dx)}
def oO(V:aY)(P:aj)(Rs:List dx):List dx:=Rs.map λa=>a.add (V.add P).1 (rr ((V.add P).2.state P.aX P.agg) a.p)
def Qi{d:aR}(c:di d=0)(e:d7∈d.projs):0<=d7.DT:=by
 have a:=(lS c).2.2 d7 e;unfold lr at a;split at a
 ·cases a
 split at a
 ·cases a
 rename_i P
 by_cases b:d7.group=3
 ·rw[b]at P
  simp only[BEq.rfl,Bool.true_and,bne_self_eq_false,Bool.false_and,Bool.or_false,Bool.not_eq_true,Bool.not_eq_false']at P;unfold Qd within at P;simp only[QK,Zk]at P;exact P.1.1
 ·have f:(d7.group==3)=false:=by simpa using b
  have g:(d7.group !=3)=true:=by simpa using b
  rw[f,g]at P;simp at P;omega
def CD{V:aY}(a:V.OK)(P:aj):((V.state P.aX P.agg).getD FP).cells.length<=8:=by
 have b:=a.len P;have c:=(yN (lS a.decl).1).2.2.2;have h:(V.decl.at P.aX).length<=8:=by
  unfold aR.at;split
  ·rw[QQ]
   cases d:V.decl.types[P.aX.toNat]? with
   |none=>simp
   |some e=>exact(c e (QZ d)).2
  ·simp
 unfold aY.cellsOf at b;unfold aY.state
 cases f:az V.et (P.aX,P.agg)with
 |none=>simp
 |some g=>simp only[f]at b;show g.cells.length<=8;omega
def Vb(w P:World)(p:Nat)(F:XN)(q:vh)(d:aR)(V:aY)(Rs:List dx)(l:List aj)(pts:List (List dx))(e:aj)(a f:Nat)(w':World):Prop:=
 f=0/\∃g h i b j,w'.heap[a]? =some (.cells (gD (V.add e).1 g h i).toArray 160 (0,0))/\dR w' b j p q d (V.add e).2 Rs l pts/\(∀c,b c->F c\/P.heap.size<=c)/\ak F P w'/\P.heap.size<=a/\¬b a
def NL(u:dR w F cls p q d V Rs l pts)(hd:di d=0)(hT:eG b)(g0:ai b w)(g3:∀P,F P->b.heap.size<=P)(hl:l.length+1<=20000000)(k4:V.entries.length<=20000000)(g4:Rs.map (·.p)=d.projs)(k5:pts.length*q.every<9223372036854775808)(k6:pts.length<=20000001){I:ZH}(k7:((az V.done (m.aX,m.agg,m.field)).getD []).length<=20000000)(hr:Row aM 8 w D I a m.aQ)(R:∀P,D P->P<w.heap.size/\¬F P)(he:m.Ok):
  ZG 144 #[XL p,js m I a c] w (Ok λa5 w'=>a5= .tuple #[]/\∃q' S a0,dR w' S a0 p q' d (V.add m).2 (oO V m Rs) (l++[m]) (if l.length+1=pts.length*q.every then pts++[oO V m Rs]else pts)/\q'.every=q.every/\cK F w S w'):=by
 have T:=u.aF;have q7:=T p u.self.1;have q8:Rs.length=d.projs.length:=by rw[<-g4,Q8]
 have q9:d.projs.length<=8:=(yN (lS hd).1).2.2.1;refine tv (PA.mk λe0 b8 r0 g5=>?_);have k8:=dR.ah u b8;refine⟨Vb w e0 p F q d V Rs l pts m,?_,?_⟩
 ·intro r g6
  have a6:ai e0 r:=g6.af;have r3:r.heap.size=e0.heap.size:=by rw[g6.heap]
  have e1:=dR.ah k8 a6;have a7:=b8.then a6;have g7:=e1.bl;have a1:∀{o:World},ai r o->ZG 79 #[XL q.vp,js m I a c] o (Ok λa5 w'=>∃I a c G,a5=DU (V.add m).1 I a c/\Row aM 8 w' G I a m.aQ/\∃S,cy w' q.vp S (V.add m).2/\cK (λP=>F P/\cls P=3) o S w'/\∀P,G P->o.heap.size<=P/\P<w'.heap.size/\¬S P):=λ{o} U=>
   FT (show cy o q.vp (λP=>F P/\cls P=3) V from(dR.ah e1 U).at' 3) (hT.ah (g0.then (a7.then U))) (hr.ah (a7.then U)) (λP e=>⟨by have:=(R P e).1;have:=(a7.then U).size;omega,λh=>(R P e).2 h.1⟩) he k7 k4
  have eE:∀{o w2:World} {s:XN},ai r o->cy w2 q.vp s (V.add m).2->cK (λP=>F P/\cls P=3) o s w2->∃i k,dR w2 i k p q d (V.add m).2 Rs l pts/\(∀P,i P->F P\/s P)/\(∀P,i P->F P\/o.heap.size<=P)/\ak F o w2:=λ{o w2 s} U W v=>by
   obtain⟨i,k,X,J,n,-⟩:=(dR.ah e1 U).Bz dA (k:=3) (G':=s) (C2:=yM p q.cells q d (V.add m).2 Rs l pts) v W.aF W λf G Y hc=>by
    rcases f with _|_|_|_|_|_|f<;>first|exact hc|exact Zz rfl Y
   exact⟨i,k,X,λP e=>(n P e).imp (·.1) id,J.new,J.af⟩
  have nS:¬((F p/\cls p=3)\/r.heap.size<=p):=by
   rintro(⟨-,g⟩|g)
   ·rw[u.self.2]at g;cases g
   ·omega
  have b9:¬((F w.heap.size/\cls w.heap.size=3)\/r.heap.size<=w.heap.size):=by
   rintro(⟨g,-⟩|g)
   ·have:=T _ g;omega
   ·omega
  refine⟨λP=>(F P/\cls P=3)\/r.heap.size<=P,p,0,rfl,nS,_,ae g7 rfl,b9,ar (aZ m I a c) (a6.get g5 id) ⟨PC.ok (a1 (ak.refl _)) ?_,PA.mk λr4 c0 r5 k9=>⟨ai.af c0,PC.ok (a1 c0) ?_⟩⟩⟩
  ·rintro _ e2 ⟨y,z,A,G1,rfl,-,s,W,v,-⟩
   obtain⟨i,k,X,g8,n,kF⟩:=eE (ak.refl _) W v;have r6:=v.af.size;have g9:=X.aF;refine bX (NM _ y z A) ⟨rfl,v.af.mono λP _ e=>.inl e,PA.mk λr7 e3 r8 l0=>⟨ai.af e3,aB (kN _ y z A) l0 rfl λr9 e4 s0 l3=>⟨e4.mono λP _ m=>.inr (by have m:P=e2.heap.size:=m;omega),rfl,y,z,A,i,k,l3,?_,λP e=>?_,?_,oM,λh=>by have:=g9 _ h;omega⟩⟩⟩
   ·exact bD.af (dR.ah X e3) dA e4 λP e m=>by have m:P=e2.heap.size:=m;have:=g9 P e;omega
   ·rcases n P e with g|g
    ·exact .inl g
    ·exact .inr oM
   ·exact(((ai.af a6).then kF).ah e3).new e4 λP e=>.inr (by have e:P=e2.heap.size:=e;omega)
  ·rintro _ s1 ⟨y,z,A,G1,rfl,-,s,W,v,-⟩
   obtain⟨i,k,X,g8,n,kF⟩:=eE c0 W v;have s2:=v.af.size;have nf:¬i r.heap.size:=λh=>by
    rcases n _ h with g|g
    ·have:=T _ g;omega
    ·omega
   have l4:=kF.get k9 λh=>by have:=T _ h;omega
   refine bX (NM _ y z A) ⟨rfl,v.af.mono λP _ e=>.inl e,aB (kN _ y z A) l4 rfl λs3 e5 s4 l5=>⟨e5.mono λP _ m=>.inr (by have m:P=r.heap.size:=m;omega),rfl,y,z,A,i,k,l5,?_,λP e=>?_,?_,oM,nf⟩⟩
   ·exact bD.af X dA e5 λP e m=>by have m:P=r.heap.size:=m;exact nf (m▸e)
   ·rcases n P e with g|g
    ·exact .inl g
    ·exact .inr oM
   ·exact(((ai.af a6).then (ai.af c0)).then kF).new e5 λP e=>.inr (by have e:P=r.heap.size:=e;omega)
 rintro xb _ _ K ⟨rfl,xa,xn,xc,i,k,gx,Z,n,c2,s5,l6⟩;have h0:=c2.get g5 λh=>by have:=T _ h;omega
 have h2:=(hr.ah b8).af c2 λP e=>(R P e).2;have a8:=Z.aF;have s6:=c2.size;have xw:=ay gx;have a9:ak F w K:=(ai.af b8).then c2;have p8:ai b K:=g0.new a9 λP e=>.inr (g3 P e);obtain⟨j,hS⟩:∃j,j=(V.add m).2.state m.aX m.agg:=⟨_,rfl⟩
 have s7:(j.getD FP).cells.length<=8:=by rw[hS];exact CD (show(V.add m).2.OK from(show cy K q.vp (λP=>i P/\k P=3) (V.add m).2 from Z.at' 3).1) m
 refine⟨λsb so w'=>so=0/\∃sa sn sc G2,w'.heap[sb]? =some (.cells #[XH (j.getD FP).version,.slice sa sn sc] 42 (0,0))/\Row fg 32 w' G2 sa sn (j.getD FP).cells/\(∀P,G2 P->K.heap.size<=P/\P<w'.heap.size)/\K.heap.size<=sb/\ai K w',?_,?_⟩
 ·intro B h3
  have c3:ai K B:=h3.af;have s8:B.heap.size=K.heap.size:=by rw[h3.heap]
  have e6:=dR.ah Z c3;have h4:=e6.bl;have d4:=c3.get h0 id;have nS:¬B.heap.size<=p:=by have:=a8 p Z.self.1;omega
  have b9:¬B.heap.size<=w.heap.size:=oM
  refine⟨λP=>B.heap.size<=P,p,0,rfl,nS,_,ae h4 rfl,b9,_,ae d4 rfl,b9,_,ae d4 rfl,PC.ok (mP (e6.at' 3)) ?_,PA.mk λs9 e7 t0 l7=>⟨ai.af e7,PC.ok (mP ((dR.ah e6 e7).at' 3)) ?_⟩⟩
  ·rintro _ c4 ⟨ca,cn,cc,G,rfl,N,L,e8⟩
   have t1:=e8.size;have c5:=N.aF;rw[<-hS]at N⊢;refine⟨_,_,_,_,_,rfl,ai.af e8,PA.mk λl8 e9 t2 l9=>⟨ai.af e9,PS.mk l9 sM λt3 m0 t4 m1=>PS.mk m1 sM λm2 m3 t5 m4=>?_⟩⟩;have O:ak (λP=>P=c4.heap.size) l8 m2:=m0.then m3;refine⟨O.mono λP _ m=>by have m:P=c4.heap.size:=m;omega,rfl,ca,cn,cc,G,m4,((N.ah e9).af O λP e m=>by have m:P=c4.heap.size:=m;have:=c5 P e;omega).row dC ba,λP e=>⟨by have:=L P e;omega,by have:=c5 P e;omega⟩,oM,((c3.then e8).then e9).new O λP e=>.inr (by have e:P=c4.heap.size:=e;omega)⟩
  ·rintro _ m5 ⟨ca,cn,cc,G,rfl,N,L,c6⟩
   have t6:=c6.size;have c5:=N.aF;have m6:=c6.get l7 id;rw[<-hS]at N⊢;refine⟨_,_,_,_,_,rfl,ai.af c6,PS.mk m6 sM λt7 m7 t8 m8=>PS.mk m8 sM λm9 n0 t9 n2=>?_⟩;have O:ak (λP=>P=B.heap.size) m5 m9:=m7.then n0;refine⟨O.mono λP _ m=>by have m:P=B.heap.size:=m;omega,rfl,ca,cn,cc,G,n2,(N.af O λP e m=>by have m:P=B.heap.size:=m;have:=L P e;omega).row dC ba,λP e=>⟨by have:=L P e;omega,by have:=c5 P e;omega⟩,oM,((c3.then e7).then c6).new O λP e=>.inr (by have e:P=B.heap.size:=e;omega)⟩
 rintro sb _ _ h5 ⟨rfl,sa,sn,sc,G2,gs,n3,n4,u0,Q⟩;have c7:=dR.ah Z Q;have h6:=c7.bl;have u1:=Q.size;have h7:bf h5 (λP=>i P/\k P=1) d q.ta q.tn q.pa q.pn:=c7.at' 1;have p9:=h7.yO.len;have q0:=c7.aF;have h8:=Q.get gx id;obtain⟨C,h⟩:∃C:dx->dx,C=λx=>x.add (V.add m).1 (rr ((V.add m).2.state m.aX m.agg) x.p):=⟨_,rfl⟩
 have g2:=ay gs;refine⟨p,0,rfl,_,_,_,ae h6 rfl,λd5 b0 w'=>∃f:Nat,b0=f/\f<=q.pn/\d5=q.pn-f/\dR w' i k p q d (V.add m).2 ((Rs.take f).map C++Rs.drop f) l pts/\ak i h5 w',⟨_,0,rfl,Qj _,rfl,by simpa using c7,ak.refl _⟩,?_⟩;rintro d5 _ _ E ⟨f,rfl,Y,rfl,t,H⟩;have u2:=H.size;have d6:=H.get gs λh=>by have:=a8 _ h;omega
 have h1:=n3.af H λP e h=>by have:=a8 _ h;have:=(n4 P e).1;omega
 have h9:=H.get h8 l6;have q1:=t.bl;refine an.dec (λu3=>?_) (λu4=>?_)
 ·have i0:f<d.projs.length:=oM
  have hx:d.projs[f]? =some d.projs[f]:=Qq i0;have i1:d.projs[f]∈d.projs:=XY i0;generalize d.projs[f]=x at hx i1;obtain⟨P,i8,es,b1,j0,j1,b2,rfl,d7⟩:=(show bf E (λP=>i P/\k P=1) d q.ta q.tn q.pa q.pn from t.at' 1).yO.el f x hx;have n8:=Qi hd i1;refine⟨P,i8,b1,oM,oM,bC (es:=mQ x) (k:=5) (oP x) rfl (λb0 ht=>by rw[Qx];exact b2 b0 ht) (PA.mk λu5 i2 u6 n9=>aB (oP x) n9 rfl λi3 i4 u7 i5=>⟨λj3 w'=>j3=rr j x/\aN (rr j x)/\i3=w',?_,?_⟩)⟩
  ·have b3:ai E i3:=i2.new i4 λP e=>.inr (by have e:P=E.heap.size:=e;omega)
   have d8:=h1.ah b3;have u9:=d8.len;have a4:rr j x=(((j.getD FP).cells[x.DT.toNat]?).map (·.n)).getD 0:=by
    cases j<;>rfl
   refine⟨_,ae i5 rfl,_,_,_,ae (b3.get d6 id) rfl,an.dec (λi6=>?_) (λi6=>⟨?_,?_,rfl⟩)⟩
   ·obtain⟨bi,f3⟩:∃bi:Nat,x.DT=bi:=⟨x.DT.toNat,oM⟩
    obtain⟨cb,co,v0,v1,v2,o0,v3,v4,o1,-,-,i7,-⟩:=lT d8 (i:=bi) oM;refine⟨_,_,_,ae (b3.get d6 id) rfl,_,ae i5 rfl,cb,co,o0,n8,i6,_,by rw[f3,Qx];exact o1,?_,?_,rfl⟩
    ·rw[a4,f3,Qx,QQ,Qq (show bi<(j.getD FP).cells.length by omega)];rfl
    ·rw[a4,f3,Qx,Qq (show bi<(j.getD FP).cells.length by omega)]
     rw[QQ,Qq (show bi<(j.getD FP).cells.length by omega)]at i7;exact i7
   ·rw[a4,Q7 oM];rfl
   ·rw[a4,Q7 oM];exact FU
  ·rintro _ _ _ ⟨rfl,j4,rfl⟩ o2 o3
   have b4:ai E o2:=(i2.new i4 λP e=>.inr (by have e:P=E.heap.size:=e;omega)).then o3.af;have c8:=dR.ah t b4;have o4:((Rs.take f).map C++Rs.drop f)[f]? =Rs[f]? :=by
    rw[X8 bc];simp[Qy,X2 (show f<=Rs.length by omega)]
   have c9:Rs[f]? =some Rs[f]:=Qq oM;have d9:Rs[f].p=x:=by
    have:=Zj (·[f]?) g4;simp only[Q9,c9,hx,Option.map_some,Q1]at this;exact this
   generalize Rs[f]=b5 at c9 d9;obtain⟨rg,pj,rj,o5,o6,hR,j5,v5,i9,-,b6⟩:=cz.elem (c8.at' 4) (o4.trans c9);have o7:=cz.len (c8.at' 4);rw[QX,Q8,Qy,XZ]at o7;have j6:=c8.bl;refine⟨p,0,rfl,_,_,_,ae j6 rfl,rg,0,o5,oM,oM,_,by rw[Qx];exact o6,ar (kN _ xa xn xc) (b4.get h9 id) (PC.ok (NN hR j5 (x:=(V.add m).1) he j4) ?_)⟩;rintro _ o8 ⟨rfl,o9,f6⟩;have fj:((Rs.take f).map C++Rs.drop f).set f (b5.add (V.add m).1 (rr j x))=(Rs.take (f+1)).map C++Rs.drop (f+1):=by
    have j7:((Rs.take f).map C).length=f:=by simp;omega
    rw[Qw,c9,Q3,XQ,List.set_append,Zq oM,j7,Nat.sub_self,X4 (show f<Rs.length by omega)];have p0:C b5=b5.add (V.add m).1 (rr j x):=by rw[h,hS,<-d9]
    rw[<-p0];rfl
   have j2:=b6 o8 _ f6 o9;rw[fj]at j2;refine⟨rfl,_,oM,f+1,aq oM,oM,rfl,?_,H.then ((ai.af b4).then (f6.mono λP _ m=>?_))⟩
   ·refine bD.same c8 dA (k:=4) (f6.mono λP _ m=>by have m:P=rj:=m;rw[m];exact i9) j2 λf G Y hc=>by
     rcases f with _|_|_|_|_|_|f<;>first|exact hc|exact Zz rfl Y
   ·have m:P=rj:=m;rw[m];exact i9.1
 have j9:(Rs.take f).map C++Rs.drop f=oO V m Rs:=by
  rw[Qz oM,List.drop_eq_nil_of_le oM,List.append_nil,h];rfl
 rw[j9]at t;intro b7 f0;have a2:ai E b7:=f0.af;have q2:b7.heap.size=E.heap.size:=by rw[f0.heap]
 have k0:=dR.ah t a2;have k1:=k0.bl;have p1:¬i w.heap.size:=λh=>by
  rcases n _ h with g|g
  ·have:=T _ g;omega
  ·omega
 have k2:=a2.get (H.get (Q.get h0 id) p1) id;have nD:∀P,D P->¬i P:=λP e h=>by
  rcases n _ h with g|g
  ·exact(R P e).2 g
  ·have:=(R P e).1;omega
 have k3:=((h2.ah Q).af H nD).ah a2;have v6:=aT.len (t.at' 2) dC;have v7:ak F w b7:=((a9.ah Q).new H λP e=>(n P e).imp id oM).ah a2;refine⟨λ_=>False,p,0,rfl,id,_,_,_,ae k1 rfl,ar (aZ m I a c) k2 (PC.ok (BA k3 λP e=>by have:=(R P e).1;omega) ?_)⟩;rintro _ q3 ⟨y,z,A,G,rfl,p2,L,c1⟩;refine⟨_,_,_,_,_,_,_,_,_,_,_,_,rfl,c1,PA.mk λq4 d0 q5 l1=>⟨d0,?_⟩⟩;have f1:=(a2.then c1).then d0;have l2:=dR.ah t f1;have q6:=c1.size;have n1:=t.aF;have f2:∀P,aI q.ea=some P->i P/\k P=2:=λP e=>aT.self (t.at' 2) P e;refine ep (c:=h_) (x:=m) (l2.at' 2) FV l1 (D:=G) ⟨y,z,A,rfl,p2.ah d0,he⟩ (λP e=>⟨by have:=(L P e).2;omega,λee=>by have:=n1 P (f2 P ee).1;have:=(L P e).1;omega⟩) ba (by unfold maxLen;omega) λa' M r1 F2 f4 f5 p3=>⟨_,_,_,rfl,p,0,rfl,?_⟩
 have r2:=f5.size;obtain⟨s,a3,j8,f7,n5,-⟩:=t.eE dA (k:=2) (G':=F2) (C2:=yM p q.cells {q with ea:=a',en:=q.en+1,ec:=M} d (V.add m).2 (oO V m Rs) (l++[m]) pts) ((ai.af f1).then (f5.mono λP _ e=>f2 P e))
  (λP e=>(p3 P e).imp id λu=>u.elim (λu=>by have:=(L P u).1;omega) λu=>oM) f4.aF f4 λf G Y hc=>by
   rcases f with _|_|_|_|_|_|f<;>first|exact hc|exact Zz rfl Y
 refine PS.mk (j8.at' 0).2 sM λd1 f8 u8 n6=>?_;have n7:dR d1 s a3 p {q with ea:=a',en:=q.en+1,ec:=M} d (V.add m).2 (oO V m Rs) (l++[m]) pts:=dR.store j8 f8 n6;have f9:∀P,s P->F P\/w.heap.size<=P:=λP e=>by
  rcases f7.new P e with g|g
  ·exact(n P g).imp id oM
  ·exact .inr oM
 have p4:ak i E d1:=f7.af.then (f8.mono λP _ ee=>by have ee:P=p:=ee;rw[ee];exact Z.self.1);have p5:ak F w E:=(a9.ah Q).new H λP e=>(n P e).imp id oM;have d2:ak F w d1:=p5.new p4 λP e=>(n P e).imp id oM;refine PC.ok (CC n7 hd (hT.ah (g0.new d2 λP e=>.inr (g3 P e))) bc (by unfold oO;rw[Q8];omega) k5 k6) ?_;rintro _ v8 ⟨rfl,q',F4,p6,p7,d3,g1⟩;refine⟨rfl,Ok.mk ⟨rfl,q',F4,p6,?_,d3,d2.new g1.af f9,λP e=>?_⟩⟩
 ·simpa using p7
 ·rcases g1.new P e with g|g
  ·exact f9 P g
  ·have:=d2.size;exact .inr oM
end
def rm:jC:=⟨[],[],[],[],[(1,⟨[0,0,2,4,8,0,0,64,128,256,544,1040,4095,8191,12287],[32767,32767,32765,32763,32759,32767,32767,32703,32639,32511,32223,31727,32766,28671,22527],[0,0,0,0,1,0,0,0,0,1,0,0,0,0,2]⟩)]⟩
def qK(y:(dr d λA B=>(rI b (ad A (B+2)) λC=>PR_ (eq_ .quo 3 (.tmp 5) (.tmp 9) (.ii e) (.ii C)) b (kI_ λP D=>(∀a,bQ D a->(dr d λE F=>(rS a (ad E (F+3)) λG a3 g=>(dr d λH I=>(rI a (ad H (I+2)) λf=>((0:Int)<=(XG .i64 (P*f))/\((XG .i64 (P*f)):Int)<=(g:Int)/\(dr d λJ K=>PS a (ad J (K+3)) (.slice G (Int.toNat (XG .i64 (P*f))) g) λh=>(dr d λL M=>(rS h (ad L (M+6)) λN i j=>((0:Int)<=(XG .i64 (P+1))/\((XG .i64 (P+1)):Int)<=(i:Int)/\PR_ (Builtin.clear_ #[220] 0 #[.slice (cx N (Int.toNat (XG .i64 (P+1))) j 2) (i-Int.toNat (XG .i64 (P+1))) (j-Int.toNat (XG .i64 (P+1)))]) h (λa4 k=>(dr d λO Q=>(rS k (ad O (Q+6)) λR a5 l=>((0:Int)<=(XG .i64 (P+1))/\((XG .i64 (P+1)):Int)<=(l:Int)/\(dr d λS T=>PS k (ad S (T+6)) (.slice R (Int.toNat (XG .i64 (P+1))) l) λc=>(dr d λU V=>(rS c (ad U (V+6)) λW X a6=>(ix_ W P X λm n=>(∃o p q r,c.cell? (ad m (n+Int.toNat P*2))=some (.pointer o)/\c.cell? (ad m (n+Int.toNat P*2+1))=some (.slice p q r)/\PC_ 180 #[.pointer d,.agg #[.pointer o,.slice p q r]] c (λY Z=>∃s t u v,Y= .agg #[.pointer s,.slice t u v]/\(dr d λw x=>PS Z (ad w (x+4)) (.pointer s) λa1=>PS a1 (ad w (x+4+1)) (.slice t u v) λa2=>rt z ((.tuple #[])) a2)) (pE z)))))))))) (pV z)))))))))))) (pV z)))):ZG 143 #[.pointer d,.ii e] b z:=DC rm Tryz.func143 rfl y
def qk(a:dE):∀P,(lQ a P).Perm (a::P)
 |[]=>List.Perm.refl _
 |y::P=>by
  unfold lQ;split
  ·exact List.Perm.refl _
  ·exact((qk a P).cons y).trans (List.Perm.swap a y P)
def wy(P:List dE):(P.foldr lQ []).Perm P:=by
 induction P with
 |nil=>exact List.Perm.refl _
 |cons a P b=>exact(qk a _).trans (b.cons a)
def xj{c:dE}:∀{a:List dE},tw a->(∀y∈a,y.group≠c.group)->tw (lQ c a)
 |[],_,_=>by simp[lQ,tw]
 |y::a,e,f=>by
  unfold lQ;have d:=List.pairwise_cons.1 e;have h:=f y (QV ..);split
  ·rename_i g
   refine List.pairwise_cons.2 ⟨λb P=>?_,e⟩;rcases Q2.1 P with rfl|P
   ·exact g
   ·have:=d.1 b P;omega
  ·rename_i i
   refine List.pairwise_cons.2 ⟨λb P=>?_,xj d.2 λb P=>f b (QJ _ P)⟩;rcases Q2.1 ((qk c a).mem_iff.1 P)with rfl|P
   ·omega
   ·exact d.1 b P
def Dy:∀{P:List dE},(P.map (·.group)).Nodup->tw (P.foldr lQ [])
 |[],_=>List.Pairwise.nil
 |x::P,a=>by
  rw[QY,List.nodup_cons]at a;refine xj (Dy a.2) λb c d=>a.1 ?_;rw[<-d];exact Xk.2 ⟨b,(wy P).mem_iff.1 c,rfl⟩
def xk:∀{b a:List dE},(b.Pairwise λx c=>¬c.group<x.group)->tw a->b.Perm a->b=a
 |[],a,_,_,P=>by have:=P.length_eq;cases a;rfl;simp at this
 |x::b,[],_,_,P=>by have:=P.length_eq;simp at this
 |x::b,c::a,g,i,P=>by
  have e:=List.pairwise_cons.1 g;have f:=List.pairwise_cons.1 i;have j:x=c:=by
   rcases Q2.1 (P.mem_iff.1 (QV ..))with h|h
   ·exact h
   rcases Q2.1 (P.mem_iff.2 (QV ..))with d|d
   ·exact d.symm
   have:=f.1 x h;exact Zz this (e.1 c d)
  subst j;rw[xk e.2 f.2 P.cons_inv]
section
variable {w w':World} {p r:Nat} {R:dx}
def km.To(b:km w p r R):((R.rows.map (·.2)).map (·.group)).Nodup:=by
 have a:=b.map.tidy;unfold Tidy at a;rw[List.map_map]at a⊢;have:R.rows.map ((·.group)∘(·.2))=R.rows.map ((·.1)∘λP=>(P.1,rV P.2)):=List.map_congr_left λP c=>(b.ok P c).2;rw[this];exact a
def km.DZ(P:km w p r R):tw R.list:=Dy P.To
def LZ(g:km w p r R)(a:R.rows.length<=20000000):ZG 393 #[XL p] w (Ok (oK Gg 269 w R.list)):=by
 refine vR ⟨p,0,rfl,_,ae g.at' rfl,mapRange Pq g.map λw6 O Q s6=>?_⟩;refine⟨λz j k l w'=>∃(left:List (Int×dE)) (b:List dE) (i:XN),z=left.length/\cO w' w.heap.size r (Value.int .i64) (R.rows.map λc=>(c.1,rV c.2)) (left.map λc=>(c.1,rV c.2))/\(∀c∈left,dE.Ok c.2)/\
  (b++left.map (·.2)).Perm (R.rows.map (·.2))/\aT Gg 269 i w' j k l b/\(∀P,i P->w.heap.size<P)/\ai w w',⟨_,R.rows,[],λ_=>False,rfl,O,λc m=>(g.ok c m).1,List.Perm.refl _,aT.nil _,λP a=>a.elim,Q⟩,?_⟩
 rintro z j k l _ A ⟨left,b,i,rfl,B,C,n,e,f,o⟩;have q:b.length+left.length=R.rows.length:=by have:=n.length_eq;simpa using this
 have b4:=e.len dC;refine mD B (λS=>.inl ⟨rfl,?_⟩) (λa2 a3 l1 l2 s T U V W b5=>.inr ⟨_,_,rfl,pJ V ?_⟩)
 ·have X:left=[]:=by simpa using S
  subst X;refine PC.ok (MY e (by simp at q;omega)) ?_;rintro _ b6 ⟨rfl,Y,t,u,v,Z⟩;have he:Y=R.list:=xk u g.DZ ((t.trans (by simpa using n)).trans (wy _).symm);subst he;exact⟨rfl,Ok.mk ⟨j,k,l,i,rfl,v,o.new Z λP a=>.inr (by have:=f P (e.self P a);omega),λP a=>by have:=f P a;omega⟩⟩
 ·obtain⟨E,a5,rfl,rfl,m⟩:=List.map_eq_append_iff.1 T
  obtain⟨c,F,rfl,H,rfl⟩:=List.map_eq_cons_iff.1 m;simp only[Prod.mk.injEq]at H;obtain⟨rfl,rfl⟩:=H;have a0:=C c sM;have b7:=o.size;have b3:w.heap.size<A.heap.size:=B.lt;refine⟨_,_,_,_,rfl,PA.mk λb8 I b9 b0=>aB (MI c.2) b0 rfl λc0 J c1 x=>⟨_,_,_,ae x rfl,ae x rfl,ae x rfl,PA.mk λL M c2 b1=>?_⟩⟩;have y:ak (λP=>P=w.heap.size) A L:=((W.ah I).new J λP a=>.inr (by have a:P=s.heap.size:=a;omega)).ah M;refine ep (c:=Gg) (x:=c.2) (e.af y λP a d=>by have d:P=w.heap.size:=d;have:=f P a;omega) Uz b1 (D:=λ_=>False) ⟨rfl,a0⟩ (λP a=>a.elim) (by simp at q;unfold aO;omega) (by simp at q;unfold maxLen;omega) λa' c' c3 F2 a4 N b2=>⟨_,_,_,rfl,_,?_,E++F,b++[c.2],F2,rfl,?_,λa1 K=>C a1 (by simp at K⊢;rcases K with K|K;exact .inl K;exact .inr (.inr K)),?_,a4,λP a=>?_,?_⟩
  ·simp
  ·have h:cO L w.heap.size r (Value.int .i64) (R.rows.map λc=>(c.1,rV c.2)) ((E++F).map λc=>(c.1,rV c.2)):=by
    rw[Q3];exact((U.ah I).af J (λd=>by have d:w.heap.size=s.heap.size:=d;omega) (λd=>by have d:r=s.heap.size:=d;have:=g.map.lt;omega)).ah M
   refine h.af N (λd=>by have:=f _ (e.self _ d);omega) (λd=>by have:=f _ (e.self _ d);have:=g.map.lt;omega)
  ·refine List.Perm.trans ?_ n
   simp only[Q3,QY,XQ];refine List.Perm.append_left b ?_;rw[List.singleton_append];exact List.perm_middle.symm
  ·rcases b2 P a with h|h|h
   ·exact f P h
   ·exact h.elim
   ·have:=y.size;omega
  ·exact(o.new y λP a=>.inr (by have a:P=w.heap.size:=a;omega)).new N λP a=>.inr (by have:=f P (e.self P a);omega)
end
end Go.Proofs.YtblabbpipmodgaaGreatDoor
namespace Go.aw
open Go
variable{a c i:Nat}{f:XN}{Q W:Operand}{d:ZH}{h:Program}{j:Type}{B g o:TypeId}{l s:XR}{b:World}
def yQ{bytes:Nat}{P:ju j}(v:iH h g o P.k bytes)(C:LV h o=true){w:List j}(m:aT P o f b d a c w)(S:i<=a)(n:∀k,aT P o f k d i c (w.take i)->ak (λe=>aI d=some e) b k->k.heap.size=b.heap.size->l (.tuple #[]) k):
  aH h (Builtin.clear_ #[g] B #[.slice (cx d i c P.k) (a-i) (c-i)]) b l s:=by
 rcases Nat.lt_or_ge i a with T|U
 rotate_left
 ·obtain rfl:i=a:=oM
  rw[Nat.sub_self];exact aH.mk (w':=b) (v:=.tuple #[]) (by cases cx d i c P.k<;>simp[Builtin.clear_,run_underlying v.under]) (n b (m.take (Q4 _)) (ak.refl _) rfl)
 obtain⟨cs,D,q,E,x⟩:=m.body;have F:=q.length;rcases q.cases with⟨_,V,_,_⟩|⟨y,H,rfl,I,J,z,K⟩
 ·omega
 have r:c<=maxLen:=by
  obtain⟨_,W,_,A,_,_,_,r,_⟩:=q.row.2.resolve_left (by rintro⟨m,_⟩;cases m);simp only[XX]at A;rw[A.2.2];exact r
 have L:i*P.k<=a*P.k:=Q0 _ oM;have X:a*P.k<=c*P.k:=Q0 _ J;rw[fy (show c≠i by omega),Xz];refine OR v C I (by rw[z,Nat.sub_mul];omega) λk p M N O Q R=>?_;have t:ak (λe=>aI (some (⟨y,0,none⟩:Addr))=some e) b k:=Q.mono λe _ o=>by rw[o];rfl
 refine n k ⟨⟨cs.take (i*P.k),D,⟨⟨by rw[Qy,F];omega,.inr ⟨y,c,p,rfl,Qj _,M,oM,r,by rw[N,z],?_⟩⟩⟩,(E.af t λe u=>(x e u).2).take i,x⟩,m.self,λe u=>Qk (m.aF e u) t.size⟩ t R;rw[O,<-K,List.take_take,X2 L]
def Qm(j:0<c)(k:a<9223372036854775808):(do eqGuard .quo g Q W (XH (a:Int)) (XH (c:Int));binOp .quo g (XH (a:Int)) (XH (c:Int)):Sem Value).run h b= .ok (XH ((a/c:Nat):Int)) b:=by
 have e:c≠0:=oM
 have P:(a:Int).tdiv (c:Int)=((a/c:Nat):Int):=by rw[Int.tdiv_eq_ediv_of_nonneg oM];rfl
 have f:=Nat.div_le_self a c;generalize a/c=d at P f;have i:XG .i64 (d:Int)=(d:Int):=wrap_i64 bb;simp[eqGuard,binOp,Op.intDiv,e,P,i]
end Go.aw
namespace Go.Proofs.YtblabbpipmodgaaGreatDoor
open Go.aw
def dd(e:World)(f:Nat)(g:XN)(a:aR)(P:Nat)(b:List aj):Prop:=
 (di a=0/\0<P/\P<9223372036854775808/\b.length<=20000000)/\∃d c,d.every=P/\dR e g c f d a (cH a b) (dU a b).rows b (jz a P b)
variable{C:List aj}{a c:Nat}{b:World}{m:aj}
def Ql{d:aR}(P:0<a)(b:a<9223372036854775808)(c:C.length<=20000000):(jz d a C).length*a<9223372036854775808/\(jz d a C).length<=20000001:=by
 rw[yP];have e:=Nat.div_le_self C.length a;refine⟨?_,oM⟩;rcases Nat.lt_or_ge C.length a with h|h
 ·rw[Nat.div_eq_of_lt h];omega
 ·have:=Nat.div_mul_le_self C.length a
  rw[X7,Nat.one_mul];omega
section
variable {w w':World} {p:Nat} {F T D:XN} {d:aR} {every:Nat} {l:List aj}
def dd.af(b:dd w p F d every l)(c:ak T w w')(e:∀a,F a->¬T a):dd w' p F d every l:=by
 obtain⟨f,g,P,h,i⟩:=b;exact⟨f,g,P,h,bD.af i dA c e⟩
def dd.ah(P:dd w p F d every l)(a:ai w w'):dd w' p F d every l:=P.af a λ_ _ P=>P
def dd.aF(a:dd w p F d every l):∀P,F P->P<w.heap.size:=by obtain⟨e,f,b,g,c⟩:=a;exact c.aF
def vi(d:aR)(l:List aj)(c:l.length<=20000000):(cH d l).entries.length<=20000000/\∀P,((az (cH d l).done P).getD []).length<=20000000:=by
 have a:=λP=>DV d l (aY.new d) P;refine⟨?_,λP=>?_⟩
 ·have b:(cH d l).entries.length=0+l.length:=(a (0,0,0)).2
  omega
 ·have b:((az (cH d l).done P).getD []).length<=0+l.length:=(a P).1
  omega
def FX(d:aR)(l:List aj)(P:aj):oO (cH d l) P (dU d l).rows=(dU d (l++[P])).rows:=by
 rw[IF];unfold oO jt.add;rw[IG]
def NO(s:dd w p F d every l)(t:eG b)(u:ai b w)(v:∀P,F P->b.heap.size<=P)(j:l.length+1<=20000000){k:ZH}(x:Row aM 8 w D k a m.aQ)(y:∀P,D P->P<w.heap.size/\¬F P)(z:m.Ok):
  ZG 144 #[XL p,js m k a c] w (Ok λn w'=>n= .tuple #[]/\∃f,dd w' p f d every (l++[m])/\cK F w f w'):=by
 obtain⟨⟨o,g,q,r⟩,L,A,rfl,B⟩:=s;obtain⟨C,E⟩:=vi d l r;obtain⟨H,I⟩:=Ql (d:=d) g q r;refine(NL B o t u v j C (FY d l) H I (E _) x y z).mono ?_;rintro _ w' ⟨n,rfl,rfl,J,f,e,h,i,K⟩;refine Ok.mk ⟨rfl,f,⟨⟨o,g,q,by simpa using j⟩,J,e,i,?_⟩,K⟩;rw[IH,LU g,<-FX,<-yP (d:=d)];exact h
def Wm:LV XP 219=true:=kR
def LW(a0:dd w p F d every l)(hT:eG b)(g0:ai b w)(c6:∀c,F c->b.heap.size<=c)(hn:a<=l.length):
  ZG 143 #[XL p,XH (a:Int)] w (Ok λa1 w'=>a1= .tuple #[]/\∃H,dd w' p H d every (l.take (a/every*every))/\cK F w H w'):=by
 obtain⟨⟨q,u,h3,h4⟩,P,i,rfl,h⟩:=a0;have c7:=h.bl;have e2:=h.aF;have c8:=aT.len (h.at' 5) dC;have I:=aT.len (h.at' 2) dC;rw[yP]at c8;obtain⟨k,v⟩:∃k,k=a/P.every:=⟨_,rfl⟩
 have s:k<=l.length/P.every:=by rw[v];exact Nat.div_le_div_right hn
 have J:k*P.every<=l.length:=Xx (Q0 _ s) (Nat.div_mul_le_self ..);have e3:k<=l.length:=Xx s (Nat.div_le_self ..);rw[<-v];have x:XG .i64 ((k:Int)*(P.every:Int))=((k*P.every:Nat):Int):=by
  rw[show((k:Int)*(P.every:Int))=((k*P.every:Nat):Int) by push_cast;rfl,wrap_i64 bb]
 have c9:XG .i64 ((k:Int)+1)=((k+1:Nat):Int):=aq oM;have ec:=aT.jN (h.at' 2);have qc:=aT.jN (h.at' 5);refine qK ⟨p,0,rfl,_,ae c7 rfl,aH.mk (Qm u oM) ⟨_,rfl,λK d0=>?_⟩⟩;rw[<-v,c9];simp only[Qx];have L:ai w K:=d0.af;have y:=dR.ah h L;have z:=y.bl;have a2:bD K F i (yM p P.cells {P with en:=k*P.every} d (cH d l) (dU d l).rows (l.take (k*P.every)) (jz d P.every l)):=y.same dA (k:=2) (ak.refl _) (aT.take (y.at' 2) (show k*P.every<=P.en from I▸J)) λj G m n=>by
  rcases j with _|_|_|_|_|_|j<;>first|exact n|exact Zz rfl m
 refine⟨p,0,rfl,_,_,_,ae z rfl,p,0,rfl,_,ae z rfl,by rw[x];exact Int.natCast_nonneg _,by rw[x];exact Int.ofNat_le.2 (Xx J (I▸ec)),p,0,rfl,?_⟩;rw[x,Qx];refine PS.mk z sM λd1 M e4 N=>?_;have O:dR d1 F i p {P with en:=k*P.every} d (cH d l) (dU d l).rows (l.take (k*P.every)) (jz d P.every l):=dR.store a2 M N;refine⟨p,0,rfl,_,_,_,ae N rfl,oM,by show _<=((P.qn:Nat):Int);omega,?_⟩;have f:∀c,aI P.qa=some c->F c/\i c=5:=λc e=>aT.self (h.at' 5) c e;have a3:¬aI P.qa=some p:=λg=>by have q:=(f p g).2;rw[h.self.2]at q;cases q
 refine yQ TQ Wm (O.at' 5) (by show k+1<=P.qn;omega) λd2 a5 Q e5=>?_;have R:bD d2 F i (yM p ({P with en:=k*P.every}:vh).cells {P with en:=k*P.every,qn:=k+1} d (cH d l) (dU d l).rows (l.take (k*P.every)) ((jz d P.every l).take (k+1))):=O.same dA (k:=5) (Q.mono λc _ e=>f c e) a5 λj G m n=>by
  rcases j with _|_|_|_|_|_|j<;>first|exact n|exact Zz rfl m
 have S:=(R.at' 0).2;refine⟨p,0,rfl,_,_,_,ae S rfl,oM,by show _<=((P.qc:Nat):Int);omega,p,0,rfl,PS.mk S sM λT U e6 V=>?_⟩;have r:dR T F i p {P with en:=k*P.every,qn:=k+1} d (cH d l) (dU d l).rows (l.take (k*P.every)) ((jz d P.every l).take (k+1)):=dR.store R U V;have A:ak F w T:=(((ai.af L).then (M.mono λc _ g=>by have g:c=p:=g;rw[g];exact h.self.1)).then (Q.mono λc _ e=>(f c e).1)).then (U.mono λc _ g=>by have g:c=p:=g;rw[g];exact h.self.1);have d3:((jz d P.every l).take (k+1))[k]? =some (dU d (l.take (k*P.every))).rows:=by
  rw[Xw,Zx oM];exact NP s
 obtain⟨pb,po,es,d4,e7,e8,W,e9,ra,rn,rc,rfl,d5⟩:=(aT.row (bytes:=32) (r.at' 5) dC (by rw[Qy];unfold aO;omega)).el k _ d3;have c0:=W 0 dC;have c1:=W 1 dC;refine⟨p,0,rfl,_,_,_,ae V rfl,pb,po,d4,oM,by show(k:Int)<((k+1:Nat):Int);omega,_,_,_,_,c0,c1,PC.ok (CB r q (hT.ah (g0.new A λc e=>.inr (c6 c e))) (by rw[Qy];omega) d5 (λc e=>r.aF c e.1) (by rw[oQ];exact(yN (lS q).1).2.2.1)) ?_⟩;rintro _ X ⟨B,Y,Z,c2,Fv,G,rfl,hv,b4,b5,t,b6⟩;have f2:=A.size;obtain⟨F1,e1,d6,f3,b7,-⟩:=r.FZ dA (k:=3) (w':=X) (G':=Fv) (C2:=yM p ({P with en:=k*P.every,qn:=k+1}:vh).cells {P with en:=k*P.every,qn:=k+1,vp:=B} d (cH d (l.take (k*P.every))) (dU d l).rows (l.take (k*P.every)) ((jz d P.every l).take (k+1)))
  (ai.af b6) (λc e C=>by have:=b5 c e;have:=r.aF c C;omega) hv.aF hv λj G m n=>by
   rcases j with _|_|_|_|_|_|j<;>first|exact n|exact Zz rfl m
 obtain⟨F2,b8,b9,f4,d7,-⟩:=d6.FZ dA (k:=4) (w':=X) (G':=G) (C2:=yM p ({P with en:=k*P.every,qn:=k+1}:vh).cells {P with en:=k*P.every,qn:=k+1,vp:=B,ra:=Y,rn:=Z,rc:=c2} d (cH d (l.take (k*P.every))) (dU d (l.take (k*P.every))).rows (l.take (k*P.every)) ((jz d P.every l).take (k+1)))
  (ak.refl _) (λc e C=>by
   rcases b7 c C with o|o
   ·have:=(t c e).1;have:=r.aF c o.1;omega
   ·exact Zz o (t c e).2.2) (λc e=>(t c e).2.1) b4 λj G m n=>by
   rcases j with _|_|_|_|_|_|j<;>first|exact n|exact Zz rfl m
 have c3:∀c,F2 c->F c\/w.heap.size<=c:=λc e=>by
  rcases d7 c e with o|o
  ·rcases b7 c o.1 with E|E
   ·exact .inl E.1
   ·exact .inr (by have:=b5 c E;omega)
  ·exact .inr (by have:=(t c o).1;omega)
 have d8:=(b9.at' 0).2;refine⟨_,_,_,_,rfl,p,0,rfl,PS.mk d8 sM λf6 c4 f7 d9=>PS.mk d9 sM λg1 c5 g2 e0=>Ok.mk ⟨rfl,F2,⟨⟨q,u,h3,by rw[Qy];omega⟩,{P with en:=k*P.every,qn:=k+1,vp:=B,ra:=Y,rn:=Z,rc:=c2},b8,rfl,?_⟩,?_,c3⟩⟩
 ·rw[<-LX u s]
  exact dR.store b9 (c4.then c5) e0
 ·exact(A.ah b6).then ((c4.then c5).mono λc _ g=>by have g:c=p:=g;rw[g];exact h.self.1)

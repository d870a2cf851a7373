import Derived.Test.YtjgjkeponbeekaaGreatDoorKk14
set_option maxHeartbeats 4000000
set_option linter.all false
set_option maxRecDepth 100000
open Go.IntKind renaming wrap→ZG
namespace Go.Proofs.YtjgjkeponbeekaaGreatDoor
open Go.aw
def MA:fl cX Int where
 k:=13
 ci:=aP
 ib:=8
 inner:=(·.ev.aN)
 hd:=λn P a b=>aH n.ev P a b++[.bool n.void,ZH n.FE.1,ZH n.FE.2]
 ok:=λn=>n.ev.Ok
 hl:=λ_ _ _ _=>rfl
 h1:=λn P a b d c=>by
  simp only[aH,List.cons_append,List.nil_append,Q2,List.not_mem_nil,or_false]at c;rcases c with rfl|rfl|rfl|rfl|rfl|rfl|rfl|rfl|rfl|rfl|rfl|rfl|rfl<;>rfl
 o:=3
 ho:=dC
 fO:=λ_ _ _ _ _ _ _=>rfl
abbrev AA:ky cX:=MA.NU
abbrev lz(n:cX)(P:WP)(a b:Nat):List Value:=aH n.ev P a b++[.bool n.void,ZH n.FE.1,ZH n.FE.2]
def SF:kQ ZP 50 133 13 120:=⟨kR,kR,dC⟩
def mu(n:cX)(P:WP)(a b:Nat):iL ZP 133 (lz n P a b)=true:=kR
def PY(n:cX)(P:WP)(a b:Nat):TU (ej ZP 133) (.agg (lz n P a b).toArray)=true:=kR
def SI:Ke ZP 305 3:=⟨kR,kR,⟨ "typ", "no",kR,dC,dC⟩,kR,kR,kR⟩
def UB:wN ZP 350 305 3:=⟨SI,kR,⟨ "agg", "field",kR,dC,dC⟩,kR,kR,kR⟩
def Wi:ji ZP 305 pU:=SI.key
def YT:ji ZP 350 CS:=UB.key
def YU:mQ ZP 263 305 49 (.agg #[ZH 0,.slice none 0 0]):=⟨kR,kR⟩
def Zb:mQ ZP 264 350 59 (.slice none 0 0):=⟨kR,kR⟩
inductive Ka where
 |self|st|dn|PJ|SK|Xu
 |done (k:Int×Int×Int)
structure FB where
 ta:WP
 tn:Nat
 tc:Nat
 pa:WP
 pn:Nat
 pc:Nat
 ea:WP
 en:Nat
 ec:Nat
 r1:Nat
 r2:Nat
 l1:List ((Int×Int)×Value)
 l2:List ((Int×Int×Int)×Value)
 cls:Nat->Ka
abbrev FB.P(P:FB)(a:ZN)(b:Ka):ZN:=λn=>a n/\P.cls n=b
def XN(b:World)(D:ZN)(c:Value)(n:pG):Prop:=∃P a d,c= .agg #[ZH n.version,.slice P a d]/\Row gB 32 b D P a n.cells
def XO(b:World)(D:ZN)(c:Value)(d:List ah):Prop:=∃n P a,c= .slice n P a/\aV ku 63 D b n P a d
structure yW (w:World) (p:Nat) (F:ZN) (V:bf) (q:FB):Prop where
 at':w.heap[p]? =some (.cells #[.slice q.ta q.tn q.tc,.slice q.pa q.pn q.pc,.slice q.ea q.en q.ec,.map (some q.r1),.map (some q.r2)] 266 (0,0))
 SK:bt w (q.P F .SK) V.decl q.ta q.tn q.pa q.pn
 PJ:aV AA 133 (q.P F .PJ) w q.ea q.en q.ec V.entries
 st:bQ w q.r1 pU q.l1
 XA:fI (XN w (q.P F .Xu)) q.l1 V.eQ
 dn:bQ w q.r2 CS q.l2
 XP:pF (λk=>XO w (q.P F (.done k))) q.l2 V.done
 aE:∀b,F b->b<w.heap.size
 lp:F p/\q.cls p= .self
 l1:F q.r1/\q.cls q.r1= .st
 l2:F q.r2/\q.cls q.r2= .dn
def cG(P:World)(a:Nat)(b:ZN)(n:bf):Prop:=n.OK/\∃c,yW P a b n c
variable{H:List ah}{d x:WP}{v:Value}{Q:aS}
section
variable {w w':World} {p:Nat} {F T D:ZN} {V:bf} {q:FB}
def XN.keep{n:pG}(a:XN w D v n)(b:aj T w w')(c:∀P,D P->¬T P):XN w' D v n:=by
 obtain⟨d,e,f,g,h⟩:=a;exact⟨d,e,f,g,h.keep b c⟩
def XO.keep(P:XO w D v H)(a:aj T w w')(b:∀n,D n->¬T n):XO w' D v H:=by
 obtain⟨c,d,e,f,g⟩:=P;exact⟨c,d,e,f,g.keep a b⟩
def yW.keep(n:yW w p F V q)(b:aj T w w')(c:∀P,F P->¬T P):yW w' p F V q:=
 ⟨b.get n.at' (c _ n.lp.1),n.SK.keep b λP a=>c P a.1,n.PJ.keep b λP a=>c P a.1,n.st.keep b (c _ n.l1.1),n.XA.mono λe f d=>d.keep b λP a=>c P a.1,
  n.dn.keep b (c _ n.l2.1),n.XP.mono λg e f d=>d.keep b λP a=>c P a.1,λP a=>Qk (n.aE P a) b.size,n.lp,n.l1,n.l2⟩
def yW.af(n:yW w p F V q)(P:ai w w'):yW w' p F V q:=n.keep P λ_ _ n=>n
def cG.keep(n:cG w p F V)(a:aj T w w')(b:∀P,F P->¬T P):cG w' p F V:=⟨n.1,n.2.imp λq c=>c.keep a b⟩
def cG.af(n:cG w p F V)(P:ai w w'):cG w' p F V:=n.keep P λ_ _ n=>n
def cG.aE(P:cG w p F V):∀n,F n->n<w.heap.size:=P.2.elim λq a=>a.aE
def cG.self(n:cG w p F V):F p:=n.2.elim λq P=>P.lp.1
def HD{tn t l u:Nat}(v:dj Q=0)(y:bt w D Q d tn x l)(z:∀n,D n->n<w.heap.size):
  PP 105 #[.agg #[.slice d tn t,.slice x l u]] w (Ok λA w'=>∃p F,A= ZL p/\cG w' p F (bf.new Q)/\(∀n,F n->w.heap.size<=n)/\ai w w'):=by
 refine Lf (PA.mk λJ m K o=>⟨_,_,_,_,_,_,ae o rfl,ae o rfl,PC.ok (DI (y.af m) λn P=>by have:=z n P;omega) ?_⟩);rintro _ c ⟨f,MT,g,h,i,j,G,rfl,B,C,q⟩;refine⟨_,_,_,_,_,_,rfl,PA.mk λa r L E=>PA.mk λb k M H=>PA.mk λs e N I=>Ok.mk ⟨b.heap.size,λn=>w.heap.size<=n/\n<s.heap.size,rfl,⟨bf.tN v,
  ⟨⟨f,MT,g,h,i,j,none,0,0,c.heap.size,a.heap.size,[],[],λn=>if n=b.heap.size then .self else if n=c.heap.size then .st else if n=a.heap.size then .dn else .SK⟩,?_⟩⟩,λn P=>P.1,((m.then q).then r).then (k.then e)⟩⟩
 have O:=q.size;refine⟨I,?_,?_,bQ.new (e.get (k.get E id) id),trivial,bQ.new (e.get H id),trivial,λn P=>P.2,⟨⟨by show w.heap.size<=b.heap.size;omega,by show b.heap.size<_;omega⟩,Zx rfl⟩,⟨⟨by show w.heap.size<=c.heap.size;omega,by show c.heap.size<_;omega⟩,?_⟩,⟨⟨by show w.heap.size<=a.heap.size;omega,by show a.heap.size<_;omega⟩,?_⟩⟩
 ·refine(((B.af r).af k).af e).mono λn P=>?_
  have:=C n P;refine⟨⟨oM,oM⟩,?_⟩;show(if n=b.heap.size then _ else _)=_;rw[Zq oM,Zq oM,Zq oM]
 ·exact(aV.nil s).mono (λn P=>P.elim) λn P=>P.1.2
 ·show(if c.heap.size=b.heap.size then _ else _)=_
  rw[Zq oM,Zx rfl]
 ·show(if a.heap.size=b.heap.size then Ka.self else if a.heap.size=c.heap.size then Ka.st else if a.heap.size=a.heap.size then Ka.dn else Ka.SK)=Ka.dn
  rw[Zq oM,Zq oM,Zx rfl]
abbrev Ht:pG:=⟨0,[]⟩
def oH(j:cG w p F V){a b:Int}:
  PP 127 #[ZL p,ZH a,ZH b] w (Ok λr w'=>∃c d e G,r= .tuple #[.agg #[ZH ((V.state a b).getD Ht).version,.slice c d e],.bool (V.state a b).isSome]/\aV gB 78 G w' c d e ((V.state a b).getD Ht).cells/\(∀n,G n->w.heap.size<=n)/\ai w w'):=by
 obtain⟨T,q,j⟩:=j;refine vm (PA.mk λs t U z=>?_);have i:=j.af t;refine⟨p,0,rfl,_,ae i.at' rfl,jC (enc:=pU) (k:=(a,b)) YU Wi i.st ?_⟩;obtain⟨h,n,c,d,e,f,g,A,B,k⟩:∃(h:pG) (n:Bool) (c:WP) (d e:Nat),(aq q.l1 (a,b)).getD (.agg #[ZH 0,.slice none 0 0])= .agg #[ZH h.version,.slice c d e]/\(aq q.l1 (a,b)).isSome=n/\(V.state a b).getD Ht=h/\(V.state a b).isSome=n/\Row gB 32 s (q.P F .Xu) c d h.cells:=by
  unfold bf.state;rcases i.XA.aq (a,b)with⟨f,g⟩|⟨r,h,f,g,c,d,e,rfl,k⟩
  ·exact⟨Ht,false,none,0,0,by rw[f];rfl,by rw[f];rfl,by rw[g];rfl,by rw[g];rfl,Row.nil _ _⟩
  ·exact⟨h,true,c,d,e,by rw[f];rfl,by rw[f];rfl,by rw[g];rfl,by rw[g];rfl,k⟩
 rw[f,g,A,B];refine⟨_,_,_,_,_,rfl,PA.mk λW C X E=>PS.mk E sM λY H Z I=>PS.mk I sM λJ K s7 u=>?_⟩;have l:ai s J:=(C.new H λn P=>.inr oM).new K λn P=>.inr oM;refine⟨_,_,_,_,ae u rfl,ae u rfl,PC.ok (LF (k.af l) λn P=>by have:=i.aE n P.1;omega) ?_⟩;rintro _ w8 ⟨L,M,N,G,rfl,O,m,o⟩;have Q:=o.get (l.get z id) id;have z8:=o.size;refine⟨_,_,_,_,rfl,PS.mk Q sM λw9 v s9 R=>PS.mk R sM λa0 x a1 y=>⟨_,_,_,_,ae y rfl,ae y rfl,Ok.mk ⟨L,M,N,G,rfl,?_,?_,?_⟩⟩⟩
 ·exact(O.keep v λn P S=>by have:=m n P;omega).keep x λn P S=>by have:=m n P;omega
 ·intro n P;have:=m n P;omega
 ·exact(((t.then l).then o).new v λn P=>.inr oM).new x λn P=>.inr oM
end
variable{e q:Int}{c5:List bu}{a c i r:Nat}{g:TypeId}{c4:bu}{d6:jV}
section
variable {w w':World} {D D' S:ZN} {d:aS} {ta pa:WP} {tn tc pn pc:Nat}
def ym{P a op arg:Int}(S:fw w)(j:bt w D d ta tn pa pn)(T:∀f,D f->f<w.heap.size):
  PP 201 #[.agg #[.slice ta tn tc,.slice pa pn pc],ZH P,ZH a,ZH op,ZH arg] w (Ok λe w'=>e= ZH (lV d P a op arg)/\ai w w'):=by
 refine Dz (PA.mk λw1 B s1 C=>⟨_,_,_,_,_,_,ae C rfl,ae C rfl,PC.ok (pI (j.af B) λf s=>by have:=T f s;omega) ?_⟩);rintro e w2 ⟨U,p⟩;have q:=B.then U
 cases k:d.DP P a with
 |none=>
  rw[k]at p;refine cx (JA Xh none 0 0) ⟨_,p,PA.mk λV t W u=>aC (gM _ _ _ _) u rfl λX v Y E=>al.tt rfl (Ok.mk ⟨?_,(q.then t).new v λf s=>.inr (by have:=q.size;omega)⟩)⟩;unfold lV;rw[k]
 |some g=>
  rw[k]at p;obtain⟨r,h,F,a5,rfl,Z,hF⟩:=p;have x:lV d P a op arg=if !within op 1 5||rF op !=g.kind then 2 else if op==1&&arg==0||op==5&& !within arg 0 (g.bG.length-1)then 1 else 0:=by unfold lV;rw[k]
  have hz:=q.size;refine cx (JA g r h F) ⟨_,rfl,PA.mk λV t W u=>aC (gM g r h F) u rfl λX v Y E=>al.ff rfl λy H=>PC.ok cB ?_⟩;rintro _ _ ⟨rfl,rfl⟩;have I:=(cy.keep (S:=λ_=>False) H).get E id;have J:ai w y:=((q.then t).new v λf s=>.inr oM).then H.keep;have n:∀z:Int,lV d P a op arg=z->Ok (λe w'=>e= ZH (lV d P a op arg)/\ai w w') (.returned (ZH z)) y:=λz j=>Ok.mk ⟨by rw[j],J⟩;refine⟨_,rfl,al.not (al.mk (λc=>?_) (λc=>n 2 (by rw[x,c];rfl)))⟩;have a6:=bH.1 c;refine⟨1,0,rfl,oM,oM,rF op,?_,_,ae I rfl,al.eO (λa0=>n 2 ?_) (λhe=>?_)⟩
  ·have:=(S.af J).kinds op.toNat oM
   rw[Xz,this,Int.toNat_of_nonneg oM]
  ·rw[x,c,Zx (by simpa using a0)]
  have l:lV d P a op arg=if op==1&&arg==0||op==5&& !within arg 0 (g.bG.length-1)then 1 else 0:=by rw[x,c,he];simp
  have hn:h=g.bG.length:=Z.len dC;have a7:h<=140737488355328:=by
   obtain⟨a1,MT,K,-⟩:∃(r:WP) (h:Nat),Row jr 32 w D r h g.bG/\True:=by
    obtain⟨i,m,a8,a3,a9,A,h3,h4⟩:=aS.wL k;have b0:=j.aZ.len;obtain⟨f,a2,T',es,rfl,_,_,o,L,b1,n1,c1,rfl,M⟩:=j.aZ.at (i:=P) i oM;rw[a3]at o;cases o
    have b2:=M.len;obtain⟨b3,b4,x',b5,rfl,_,_,N,b6,b7,n2,c2,rfl,hM,_⟩:=M.at (i:=a) A oM;rw[h4]at N;cases N
    exact⟨_,_,hM,trivial⟩
   have m:=K.len;have A:=K.fj;unfold aT at A;omega
  have bG:∀{O:List PanicEntry->ZU},op=5->PC ZP 97 #[ZH arg,ZH 0,ZH (ZG .i64 ((h:Int)-1))] y (λa4 Q=>∃R:Bool,a4= .bool R/\al (!R) (Ok (λe w'=>e= ZH (lV d P a op arg)/\ai w w') (.returned (ZH 1)) Q) (Ok (λe w'=>e= ZH (lV d P a op arg)/\ai w w') (.returned (ZH 0)) Q)) O:=by
   intro O b;refine PC.ok cB ?_;rintro _ _ ⟨rfl,rfl⟩;rw[wrap_i64 bc,hn];refine⟨_,rfl,al.not (al.mk (λc=>n 0 ?_) (λc=>n 1 ?_))⟩
   ·rw[l,c,b];rfl
   ·rw[l,c,b];rfl
  refine al.eN (λm=>al.eN (λi=>al.eN (λ_=>n 1 (by rw[l,m,i];rfl)) (λL=>Zz i L)) (λi=>al.eN (λb=>Zz b oM) (λb=>n 0 ?_))) (λm=>al.eN (λb=>⟨_,_,_,ae I rfl,bG b⟩) (λb=>n 0 ?_))
  ·rw[l,Zq (by simp[i,b])]
  ·rw[l,Zq (by simp[m,b])]
def Fk{f:WP}(P:Row sG 48 w D f a c5):
  PP 100 #[.agg #[.slice f a c],ZH e,ZH q] w (Ok λi w'=>i= .bool (SR c5 e q)/\ai w w'):=by
 have g:=P.len;have j:=P.fj;unfold aT at j;refine Ir (PA.mk λo b p h=>⟨_,_,_,ae h rfl,PC.ok cB ?_⟩);rintro _ _ ⟨rfl,rfl⟩;rw[wrap_i64 bc];refine⟨_,rfl,al.mk (λn=>?_) (λn=>Ok.mk ⟨?_,b⟩)⟩
 ·have r:=bH.1 n
  obtain⟨k,d,s,t,rfl,_,_,l,m,u,v,x,rfl,_⟩:=(P.af b).at (i:=e) oM oM;refine⟨_,_,_,ae h rfl,k,d,rfl,oM,oM,_,m 0 dC,Ok.mk ⟨?_,b⟩⟩;unfold SR;rw[<-g,n,l];rfl
 ·unfold SR;rw[<-g,n];rfl
def Un(P:1<=e/\e<=4)(a:1<=q/\q<=3):∃n:Int,(∀w',(do eqGuard .shr 3 (.tmp 19) (.tmp 21) (ZH (([0,2,14,6,6]:List Int).getD e.toNat 0)) (ZH q);binOp .shr 3 (ZH (([0,2,14,6,6]:List Int).getD e.toNat 0)) (ZH q):Sem Value).run ZP w'= .ok (ZH n) w')/\((Gk .i64 n 1==0)= !Se e q):=by
 refine⟨(([0,2,14,6,6]:List Int).getD e.toNat 0).fdiv (2 ^ q.toNat),?_,?_⟩<;>rcases(by omega:e=1\/e=2\/e=3\/e=4)with rfl|rfl|rfl|rfl<;>rcases(by omega:q=1\/q=2\/q=3)with rfl|rfl|rfl<;>first
  |(intro w';kernel_rfl)
  |decide
def Mq(m:kV):Bool:=decide (m.bM<0)||decide (m.mR<0)||m.lZ== -1&&m.least !=0
def Uo{b:kV}:PP 98 (#[]++ #[.agg (oK b).toArray]++ #[]) w (Ok λe w'=>e= .bool (Mq b)/\ai w w'):=by
 refine xm (PA.mk λf P g a=>⟨_,ae a rfl,al.dec (λn=>Ok.mk ⟨by simp[Mq,n],P⟩) (λc=>⟨_,ae a rfl,al.dec (λn=>Ok.mk ⟨by simp[Mq,n],P⟩) (λd=>⟨_,ae a rfl,al.eN (λn=>⟨_,ae a rfl,Ok.mk ⟨by simp[Mq,c,d,n],P⟩⟩) (λn=>Ok.mk ⟨by simp[Mq,c,d,n],P⟩)⟩)⟩)⟩)
def JO(P:List bu)(n:kV):Bool:=n.lZ != -1&& !SR P n.lZ 1
def Up{P:kV}{d:WP}(f:Row sG 48 w D d c c5)(h:w.heap[a]? =some (.cells #[.slice d c i] g (0,0))):
  PP 99 (#[]++ #[.agg (oK P).toArray]++ #[ZL a]) w (Ok λj w'=>j= .bool (JO c5 P)/\ai w w'):=by
 refine xo (PA.mk λl n m e=>⟨_,ae e rfl,al.eO (λb=>⟨_,_,_,ae (n.get h id) rfl,_,ae e rfl,PC.ok (Fk (f.af n)) ?_⟩) (λb=>Ok.mk ⟨by simp[JO,b],n⟩)⟩);rintro _ o ⟨rfl,k⟩;exact⟨_,rfl,Ok.mk ⟨by unfold JO;rw[show(P.lZ != -1)=true by simpa using b];simp,n.then k⟩⟩
def Hk{y z:WP}(H:fw w)(I:Row sG 48 w D y a c5)(A:Row jr 32 w D z i c4.bG):
  PP 67 #[.agg #[.slice y a c],.agg (ft c4 z i r).toArray] w (Ok λo w'=>o= ZH (fJ c5 c4)/\ai w w'):=by
 refine Bi (PA.mk λV J W K=>PA.mk λp B X q=>⟨_,ae q rfl,PC.ok cB ?_⟩);rintro _ _ ⟨rfl,rfl⟩;have C:=J.then B;refine⟨_,rfl,al.not (al.mk (λe=>?_) (λe=>Ok.mk ⟨by unfold fJ;rw[e];rfl,C⟩))⟩;have s:=bH.1 e;refine⟨λw'=>ai w w'/\p.heap.size<=w'.heap.size/\ai p w'/\within c4.dW 1 3=true/\Se c4.kind c4.dW=true/\(c4.floor&&c4.kind !=1)=false,λk E=>?_,?_⟩
 ·have b:=(cy.keep (S:=λ_=>False) E).get q id
  have d:ai p k:=E.keep;have n:ai w k:=C.then d;have f:fJ c5 c4=1->Ok (λo w'=>o= ZH (fJ c5 c4)/\ai w w') (.returned (ZH 1)) k:=λh=>Ok.mk ⟨by rw[h],n⟩;refine⟨_,ae b rfl,PC.ok cB ?_⟩;rintro _ _ ⟨rfl,rfl⟩;refine⟨_,rfl,al.not (al.mk (λP=>?_) (λP=>f (by unfold fJ;rw[e,P];rfl)))⟩;have t:=bH.1 P;obtain⟨L,M,N⟩:=Un s t;refine⟨_,ae b rfl,0,0,rfl,oM,oM,_,by rw[Xz];exact(H.af n).Xi c4.kind.toNat oM,_,ae b rfl,L,M,?_⟩;refine al.mk (λl=>?_) (λl=>?_)<;>rw[N]at l
  ·exact f (by unfold fJ;rw[e,P,show Se c4.kind c4.dW=false by simpa using l];rfl)
  have j:Se c4.kind c4.dW=true:=by simpa using l
  refine⟨_,ae b rfl,al.mk (λu=>⟨_,ae b rfl,al.eO (λO=>f ?_) (λQ=>⟨n,d.size,d,P,j,by simp[Q]⟩)⟩) (λu=>⟨n,d.size,d,P,j,by simp[u]⟩)⟩;unfold fJ;rw[e,P,j,u];simp[O]
 ·rintro Y k ⟨n,Z,d,P,j,R⟩
  have b:=d.get q id;have v:fJ c5 c4=if c4.bG.any Mq then 1 else if c4.bG.any (JO c5)then 8 else 0:=by
   unfold fJ;rw[e,P,j,R];rfl
  refine⟨_,_,_,ae b rfl,PC.ok (JN (p:=Mq) (A.af n) kR λS T g=>Uo) ?_⟩;rintro _ T ⟨rfl,g⟩;refine⟨_,rfl,al.mk (λh=>Ok.mk ⟨by rw[v,Zx h],n.then g⟩) (λh=>⟨_,_,_,ae (g.get b id) rfl,PC.ok (JN (p:=JO c5) (A.af (n.then g)) kR λS U m=>Up (I.af ((n.then g).then m)) (m.get (g.get (d.get (B.get K id) id) id) id)) ?_⟩)⟩;rintro _ U ⟨rfl,m⟩;have F:=(n.then g).then m;exact⟨_,rfl,al.mk (λx=>Ok.mk ⟨by rw[v,h,x];rfl,F⟩) (λx=>Ok.mk ⟨by rw[v,h,x];rfl,F⟩)⟩
def Wb{n a kind:Int}(b:(d.DP n a).isSome):∃P,d.types[n.toNat]? =some P/\d.at n=P/\0<=n/\n<d.types.length:=by
 obtain⟨i,c⟩:=Option.isSome_iff_exists.1 b;obtain⟨e,f,P,g,h,_⟩:=aS.wL c;exact⟨P,g,h,e,f⟩
def Hl(r:bt w D d ta tn pa pn)(O:∀n,D n->n<w.heap.size):
  PP 68 #[.agg #[.slice ta tn tc,.slice pa pn pc],.agg (oI d6).toArray] w (Ok λC w'=>C= ZH (mP d d6)/\ai w w'):=by
 refine Bj (PA.mk λZ E s1 s=>PA.mk λw2 g s2 l=>⟨_,_,_,_,_,_,ae (g.get s id) rfl,ae (g.get s id) rfl,_,ae l rfl,_,ae l rfl,PC.ok (pI (r.af (E.then g)) λn b=>by have:=O n b;omega) ?_⟩);rintro C w3 ⟨h,m⟩;have t:=(E.then g).then h;have hz:=h.size
 cases i:d.DP d6.aZ d6.field with
 |none=>
  rw[i]at m;refine cx (JA Xh none 0 0) ⟨_,m,PA.mk λQ c R u=>aC (gM _ _ _ _) u rfl λo e S T=>al.tt rfl (Ok.mk ⟨?_,(t.then c).new e λn b=>.inr oM⟩)⟩;unfold mP;rw[i];rfl
 |some F=>
  rw[i]at m;obtain⟨H,I,J,a0,rfl,ho,hF⟩:=m;have K:(d.DP d6.aZ d6.field).isNone=false:=by rw[i];rfl
  refine cx (JA F H I J) ⟨_,rfl,PA.mk λQ c R u=>aC (gM F H I J) u rfl λo e S T=>al.ff rfl ⟨λn w'=>n=(d6.group==3&& !SR (d.at d6.aZ) d6.FE 2||d6.group !=3&&d6.FE !=0)/\ai o w',?_,?_⟩⟩
  ·have U:ai w o:=(t.then c).new e λn b=>.inr oM
   intro v V;have P:ai o v:=V.keep;have W:=P.get (e.get (c.get (h.get (g.get s id) id) id) oM) id;have a:=P.get (e.get (c.get (h.get l id) id) oM) id;refine⟨_,ae a rfl,al.eN (λf=>⟨_,_,_,ae W rfl,_,ae a rfl,?_⟩) (λf=>⟨_,ae a rfl,al.eO (λ_=>⟨_,ae a rfl,?_,P⟩) (λj=>Zz j f)⟩)⟩
   ·obtain⟨a1,X,L,M,h1⟩:=Wb (kind:=0) (by rw[i];rfl:(d.DP d6.aZ d6.field).isSome)
    have hl:=r.aZ.len;obtain⟨n,x,T',es,rfl,_,_,k,j,a2,n1,c1,rfl,Y⟩:=((r.af (U.then P)).aZ).at (i:=d6.aZ) M oM;rw[X]at k;cases k
    have N:=j 0 dC;simp only[nB,Nat.mul_one,Nat.add_zero]at N;refine⟨n,x,rfl,M,oM,_,_,_,N,_,ae a rfl,PC.ok (Fk Y) ?_⟩;rintro _ w7 ⟨rfl,y⟩;refine⟨_,rfl,al.not (al.mk (λz=>⟨_,ae (y.get a id) rfl,al.eO (λj=>Zz f j) (λ_=>⟨?_,P.then y⟩)⟩) (λz=>⟨?_,P.then y⟩))⟩
    ·rw[L,z,f];rfl
    ·rw[L,z,f];rfl
   ·rw[show(d6.group==3)=false by simpa using f,show(d6.group !=3)=true by simpa using f];rfl
  ·rintro n a3 v ⟨rfl,P⟩
   have p:ai w v:=((t.then c).new e λn b=>.inr oM).then P;have a:=P.get (e.get (c.get (h.get l id) id) oM) id;refine al.mk (λb=>Ok.mk ⟨by unfold mP;rw[K,Zq sM,Zx b],p⟩) (λb=>⟨_,ae a rfl,PC.ok cB ?_⟩);have A:mP d d6=if !within d6.group 1 3|| !within d6.make 1 5 then 2 else 0:=by unfold mP;rw[K,Zq sM,b];rfl
   rintro _ _ ⟨rfl,rfl⟩;refine⟨_,rfl,al.not (al.mk (λq=>⟨_,ae a rfl,PC.ok cB ?_⟩) (λq=>Ok.mk ⟨by rw[A,q];rfl,p⟩))⟩;rintro _ _ ⟨rfl,rfl⟩;exact⟨_,rfl,al.not (al.mk (λB=>Ok.mk ⟨by rw[A,q,B];rfl,p⟩) (λB=>Ok.mk ⟨by rw[A,q,B];rfl,p⟩))⟩
end
def UC(n:Int×Int×Int):iL ZP 350 [ZH n.1,ZH n.2.1,ZH n.2.2]=true:=kR
def Kb{n b:Type}[BEq n][LawfulBEq n]{P:n}{e c:b}:∀a:List (n×b),aI (aI a P e) P c=aI a P c
 |[]=>by simp[aI]
 |(f,g)::a=>by
  by_cases d:P==f
  ·simp[d,aI]
  ·simp[d,aI,Kb a]
variable{K:Bool}{d4:Int×Int}{b:World}{l:ah}
section
variable {w w':World} {p:Nat} {F T D:ZN} {V:bf} {q:FB}
def Hs(w:World)(p:Nat)(F D:ZN)(V:bf)(n:ah)(b:Value)(w':World):Prop:=
 b= .tuple #[.bool (V.try n).1,.agg #[ZH (V.try n).2.1.1,ZH (V.try n).2.1.2]]/\∃a,cG w' p a (V.try n).2.2/\aj F w w'/\∀P,a P->F P\/D P\/w.heap.size<=P
def SL(a:cG w p F V)(n:ai w w')(P:V.try l=(K,d4,V)):Ok (Hs w p F D V l) (.returned (.tuple #[.bool K,.agg #[ZH d4.1,ZH d4.2]])) w':=by
 refine Ok.mk ⟨by rw[P],F,?_,ai.keep n,λK b=>.inl b⟩;rw[P];exact a.af n
def FC(h:yW b p F V q)(n:Int×Int×Int):∃P a c d,(aq q.l2 n).getD (.slice none 0 0)= .slice P a c/\(aq V.done n).getD []=d/\(aV ku 63 (q.P F (.done n)) b P a c d):=by
 rcases h.XP.aq n with⟨e,f⟩|⟨k,d,e,f,P,a,c,rfl,j⟩
 ·exact⟨none,0,0,[],by rw[e];rfl,by rw[f];rfl,(aV.nil b).mono (λi g=>g.elim) λi g=>h.aE i g.1⟩
 ·exact⟨P,a,c,d,by rw[e];rfl,by rw[f];rfl,j⟩
def SM(b:cG w p F V)(hT:fw w)(hr:Row aP 8 w D d a l.aN)(C:∀n,D n->n<w.heap.size/\¬F n)(he:l.Ok)(P:((aq V.done (l.aZ,l.agg,l.field)).getD []).length<=20000000):
  PP 199 #[ZL p,kN l d a c] w (Ok (Hs w p F D V l)):=by
 have l3:=b;obtain⟨hV,q,b⟩:=b;have f:=b.aE;have C0:=f _ b.lp.1;refine zF (PA.mk λE t8 C1 t9=>PA.mk λo5 o6 C2 u0=>λl4 o7=>?_);have l5:ai o5 l4:=o7.keep;have C3:l4.heap.size=o5.heap.size:=by rw[o7.heap]
 have k0:ai w l4:=(t8.then o6).then l5;have ge:=l5.get (o6.get t9 id) id;have gb:=l5.get u0 id;have Q:=b.af k0;refine⟨p,0,rfl,_,_,_,_,_,_,ae Q.at' rfl,ae Q.at' rfl,_,ae ge rfl,_,ae ge rfl,_,ae ge rfl,_,ae ge rfl,PC.ok (ym (hT.af k0) Q.SK λn P=>Q.aE n P.1) ?_⟩;rintro _ R ⟨rfl,S⟩;have k1:=k0.then S;have C4:=S.size;have c1:=S.get gb id;have c3:=S.get ge id;have k:∀{w1:World} {i:Int×Int} {n:Bool},ai R w1->V.try l=(n,i,V)->∀w2,cy w1 w2->∀(x H:Int),x=i.1->H=i.2->PS w2 ⟨E.heap.size,0,none⟩ (ZH x) λw3=>PS w3 ⟨E.heap.size,0+1,none⟩ (ZH H) λw4=>∃(o8 o9:Int),w4.cell? ⟨E.heap.size,0,none⟩=some (ZH o8)/\w4.cell? ⟨E.heap.size,0+1,none⟩=some (ZH o9)/\Ok (Hs w p F D V l) (.returned (.tuple #[.bool n,.agg #[ZH o8,ZH o9]])) w4:=λ{w1 i n} hk I w2 f7 x H hx j=>by
  have k2:ai w1 w2:=f7.keep;have kk:=(k1.then hk).then k2;have g2:=k2.get (hk.get c1 id) id;subst hx j;refine PS.mk g2 sM λw3 k3 s3 g3=>PS.mk g3 sM λw4 J s4 g4=>⟨_,_,ae g4 rfl,ae g4 rfl,SL l3 ((kk.new k3 λn P=>.inr oM).new J λn P=>.inr oM) I⟩
 refine⟨_,rfl,al.eO (λd6=>λu1 p0=>?_) (λg8=>?_)⟩
 ·have p1:=(p0.keep (S:=λ_=>False)).get c1 id
  exact⟨_,_,ae p1 rfl,ae p1 rfl,k (i:=(0,0)) (aj.refl _) (by rw[bf.sB,Zx d6]) u1 p0 _ _ rfl rfl⟩
 obtain⟨c4,t0,t1,C5⟩:=NF hV.decl g8 (hV.len l);obtain⟨v,p2⟩:∃v:Nat,l.aZ=v:=⟨l.aZ.toNat,oM⟩
 have l6:=c4.f0;have l7:=c4.f1;obtain⟨fi,g1⟩:∃fi:Nat,l.field=fi:=⟨l.field.toNat,oM⟩
 have u2:V.decl.at l.aZ=V.decl.types.getD v []:=by
  unfold aS.at;rw[Zx (bH.2 ⟨t0,oM⟩),p2,Qx]
 obtain⟨tb,mR,es,u3,u4,p3,u5,fa,fn,fc,rfl,y⟩:=(Q.af S).SK.aZ.el v V.decl.types[v] sM;have y:Row sG 48 R (q.P F .SK) fa fn (V.decl.at l.aZ):=by
  rw[u2];have:V.decl.types.getD v []=V.decl.types[v]:=by simp[QQ,show v<V.decl.types.length by omega]
  rw[this];exact y
 have C6:=(Q.af S).SK.aZ.len;have g9:=u5 0 dC;have u6:nB.k=1:=rfl;rw[u6,Nat.mul_one]at g9;have u7:=f tb p3.1;refine⟨λT u9 ab ao w'=>u9=0/\ao=0/\ai R w'/\w'.heap[T]? =some (.cells #[.slice fa fn fc] 118 (0,0))/\w'.heap[ab]? =some (.cells #[ZH l.aZ,ZH l.agg,ZH l.field] 350 (0,0))/\R.heap.size<=T/\R.heap.size<=ab,?_,?_⟩
 ·intro K p4
  have d7:ai R K:=p4.keep;have C7:K.heap.size=R.heap.size:=by rw[p4.heap]
  have p5:=(Q.af S).af d7;have c5:=d7.get c3 id;refine⟨λn=>K.heap.size<=n,p,0,rfl,oM,_,_,_,ae p5.at' rfl,by show¬K.heap.size<=w.heap.size;omega,_,ae c5 rfl,tb,mR,u3,t0,by omega,by show¬K.heap.size<=tb;omega,fa,fn,fc,?_,by show¬K.heap.size<=w.heap.size;omega,_,ae c5 rfl,by show¬K.heap.size<=w.heap.size;omega,_,ae c5 rfl,by show¬K.heap.size<=w.heap.size;omega,_,ae c5 rfl,?_,?_⟩
  ·rw[p2,Qx]
   exact(d7.cell (a:=⟨tb,mR+v,none⟩) u4 id).trans g9
  ·refine PA.mk λv0 d8 v1 l8=>⟨ai.keep d8,PA.mk λv2 U v3 l9=>⟨ai.keep U,PS.mk (U.get l8 id) sM λv4 W v5 m0=>⟨W.mono λn _ l=>oM,aC (UC (l.aZ,l.agg,l.field)) (W.get l9 oM) rfl λv6 X v7 m1=>⟨X.mono λn _ l=>oM,rfl,rfl,?_,X.get m0 oM,m1,oM,oM⟩⟩⟩⟩
   exact(((d7.then d8).then U).new W λn P=>.inr oM).new X λn P=>.inr oM
  ·refine PA.mk λv0 d8 v1 l8=>⟨ai.keep d8,PA.mk λv2 U v3 l9=>⟨ai.keep U,PS.mk l9 sM λv4 W v5 m0=>⟨W.mono λn _ l=>oM,aC (UC (l.aZ,l.agg,l.field)) (W.get (U.get l8 id) oM) rfl λv6 X v7 m1=>⟨X.mono λn _ l=>oM,rfl,rfl,?_,X.get m0 oM,m1,oM,oM⟩⟩⟩⟩
   exact(((d7.then d8).then U).new W λn P=>.inr oM).new X λn P=>.inr oM
 rintro T _ ab _ _ p6 ⟨rfl,rfl,p7,p8,h0,y7,C8⟩;have k2:=k1.then p7;have d9:=b.af k2;obtain⟨da,dn,dc,h,v8,m2,p9⟩:=FC d9 (l.aZ,l.agg,l.field);rw[m2]at P;refine⟨p,0,rfl,_,ae d9.at' rfl,ar (cs:=[ZH l.aZ,ZH l.agg,ZH l.field]) (UC (l.aZ,l.agg,l.field)) h0 ⟨da,dn,dc,λb1=>?_,λq0 v9=>?_⟩⟩
 ·have:=eI Zb YT (d9.dn.af (aj.drewN p6 b1)) (l.aZ,l.agg,l.field) false
  rw[v8]at this;exact this
 have g5:ai p6 q0:=v9.keep;have C9:=p9.len dC;have m3:=(p9.af g5).row (bytes:=96) dC ba;refine⟨λb1 a5 w'=>∃g:Nat,a5=g/\g<=dn/\b1=dn-g/\(∀x∈h.take g,nj ((V.decl.at l.aZ).getD l.field.toNat ⟨0,0,false,[]⟩) x l=false)/\ai q0 w',⟨_,0,rfl,Qj _,rfl,sM,aj.refl _⟩,?_⟩;rintro b1 _ _ m4 ⟨g,rfl,hj,rfl,e0,e1⟩;have k3:=(p7.then g5).then e1;have h6:=e1.get (g5.get p8 id) id;have q1:=e1.get (g5.get h0 id) id;have h7:=k3.get c3 id;have c7:∀{r:Bool×(Int×Int)×bf},(match h.find? λx=>nj ((V.decl.at l.aZ).getD l.field.toNat ⟨0,0,false,[]⟩) x l with
  |some x=>(true,bd x,V)
  |none=>if wV (V.decl.at l.aZ) (V.cellsOf l) l.field l.op l.arg≠0 then(true,(0,0),V)else
   (false,(0,0),{V with eQ:=aI V.eQ (l.aZ,l.agg) ⟨qd (((aq V.eQ (l.aZ,l.agg)).getD ⟨0,[]⟩).version+1),Te (V.decl.at l.aZ) (V.cellsOf l) l.field l.op l.arg⟩,done:=aI V.done (l.aZ,l.agg,l.field) (h++[l])}))=r->V.try l=r:=λ{r} hr=>by
  rw[bf.sB,Zq (by simpa using g8),m2];exact hr
 refine al.dec (λD0=>?_) (λD1=>?_)
 ·have g6:g<h.length:=oM
  obtain⟨db,b5,es,x0,D2,D3,q2,xa,xn,xc,rfl,q3,q4⟩:=(m3.af e1).el g h[g] (Qq g6);have g7:h[g]? =some h[g]:=Qq g6;generalize h[g]=x at q2 q3 q4 g7;refine⟨db,b5,x0,oM,oM,ck (es:=aH x xa xn xc) (k:=10) (bg x xa xn xc) rfl (λa5 I=>q2 a5 I) (PA.mk λD4 x1 D5 x2=>aC (bg x xa xn xc) x2 rfl λq5 x3 D6 x4=>λx5 x6=>?_)⟩;have m5:ai m4 q5:=x1.new x3 λn P=>.inr oM;have q6:ai q5 x5:=x6.keep;have J:=m5.then q6;have e2:=k3.then J;obtain⟨fb,fo,b6,b7,b8,x7,D7,D8,f9,h1,h2,h3,D9⟩:=FU (y.af e2) (i:=fi) (by rw[y.len];omega);have h8:=q6.get x4 id;refine⟨_,_,_,ae (J.get h6 id) rfl,_,ae (J.get h7 id) rfl,fb,fo,x7,l6,by rw[y.len];exact l7,?_⟩;rw[g1,Qx];refine ck (es:=ft ((V.decl.at l.aZ).getD fi ⟨0,0,false,[]⟩) b6 b7 b8) (k:=4) (gM _ _ _ _) rfl (λa5 I=>?_) (ar (bg x xa xn xc) h8 (ar (bg l d a c) (J.get h7 id) (PC.ok (BA (q3.af J) ((hr.af k1).af e2)) ?_)))
  ·match a5,I with
   |0,_=>exact f9
   |1,_=>exact h1
   |2,_=>exact h2
   |3,_=>exact h3
  rintro _ E0 ⟨rfl,m6⟩;have x8:(V.decl.at l.aZ).getD fi ⟨0,0,false,[]⟩=(V.decl.at l.aZ).getD l.field.toNat ⟨0,0,false,[]⟩:=by rw[g1,Qx]
  rw[x8];refine⟨_,rfl,al.mk (λhv=>λx9 q7=>?_) (λhv=>⟨_,?_,g+1,an oM,oM,rfl,λH j=>?_,(e1.then J).then m6⟩)⟩
  ·have q8:=(q7.keep (S:=λ_=>False)).get (m6.get h8 id) id
   refine⟨_,_,ae q8 rfl,ae q8 rfl,k (e2.then m6) (i:=bd x) (c7 ?_) x9 q7 _ _ rfl rfl⟩;have hf:h.find? (λx=>nj ((V.decl.at l.aZ).getD l.field.toNat ⟨0,0,false,[]⟩) x l)=some x:=by
    rw[List.find?_eq_some_iff_append];refine⟨hv,h.take g,h.drop (g+1),?_,λH j=>by rw[e0 H j];rfl⟩;rw[<-ZX g h]
    congr 1
    ·rw[ZX]
    ·rw[ZX,X4 g6]
     congr 1
     rw[Qq g6]at g7;exact XJ g7
   rw[hf]
  ·omega
  ·rw[Qw,g7]at j
   rcases Q6.1 j with j|j
   ·first|exact e0 H j|(rw[<-g1];exact e0 H j)
   ·simp at j;subst j;first|exact hv|(rw[<-g1];exact hv)
 ·have E1:g=dn:=oM
  rw[Qz oM]at e0;have m7:h.find? (λx=>nj ((V.decl.at l.aZ).getD l.field.toNat ⟨0,0,false,[]⟩) x l)=none:=List.find?_eq_none.2 λx hx=>by rw[e0 x hx];simp
  rw[m7]at c7;intro Y h9;have c8:ai m4 Y:=h9.keep;have y8:Y.heap.size=m4.heap.size:=by rw[h9.heap]
  have k5:=k3.then c8;have e8:=k1.then k5;have z5:=k5.size;have z3:=k3.size;have b9:=b.af e8;have b2:=c8.get q1 id;have c0:=c8.get h6 id;have m8:=k5.get c3 id;have E2:=c8.size;have y9:=aA b2;have z0:=aA c0;obtain⟨s,n,m,o,z,e,Z,h4,h5,d4⟩:∃(s:pG) (n:Bool) (m:WP) (o z:Nat),(aq q.l1 (l.aZ,l.agg)).getD (.agg #[ZH 0,.slice none 0 0])= .agg #[ZH s.version,.slice m o z]/\(aq q.l1 (l.aZ,l.agg)).isSome=n/\(aq V.eQ (l.aZ,l.agg)).getD Ht=s/\(n=true->V.cellsOf l=s.cells)/\Row gB 32 Y (q.P F .Xu) m o s.cells/\(n=false->V.cellsOf l=dX (V.decl.at l.aZ)):=by
   unfold bf.cellsOf;rcases b9.XA.aq (l.aZ,l.agg)with⟨e,Z⟩|⟨f0,s,e,Z,m,o,z,rfl,hr⟩
   ·exact⟨Ht,false,none,0,0,by rw[e];rfl,by rw[e];rfl,by rw[Z];rfl,λb=>(by cases b),Row.nil _ _,λ_=>by rw[Z]⟩
   ·exact⟨s,true,m,o,z,by rw[e];rfl,by rw[e];rfl,by rw[Z];rfl,λ_=>by rw[Z],hr,λb=>(by cases b)⟩
  obtain⟨d4,k4⟩:=d4;refine⟨λn=>n=Y.heap.size,p,0,rfl,oM,_,ae b9.at' rfl,oM,_,_,ae b2 rfl,ae b2 rfl,s.version,m,o,z,n,λw' hk=>?_,PA.mk λz2 i0 z4 q9=>⟨ai.keep i0,PS.mk q9 sM λz7 i1 z8 r0=>PS.mk r0 sM λr3 i2 z9 i3=>⟨i1.then i2,?_⟩⟩⟩
  ·have:=eI YU Wi (b9.st.keep hk (by have:=f _ b.l1.1;omega)) (l.aZ,l.agg) true
   rw[e,Z]at this;exact this
  have k6:ai Y r3:=(i0.new i1 λn P=>.inr oM).new i2 λn P=>.inr oM;refine⟨λw'=>ai Y w'/\∃m o z Dc,w'.heap[Y.heap.size]? =some (.cells #[ZH s.version,.slice m o z] 49 (0,0))/\Row gB 32 w' Dc m o (V.cellsOf l)/\∀n,Dc n->n<w'.heap.size,?_,?_⟩
  ·refine al.not (al.mk (λy0=>⟨k6,m,o,z,_,i3,by rw[h5 y0];exact d4.af k6,λn P=>by have:=f n P.1;have:=k6.size;have:=e8.size;omega⟩) (λy1=>⟨_,_,_,ae (k6.get c0 id) rfl,PC.ok (HR (t:=V.decl.at l.aZ) rfl (y.len) (by rw[y.len];omega)) ?_⟩))
   rintro _ A0 ⟨l1,n6,l2,G6,rfl,r4,k7,y2⟩;have z6:=k6.size;refine⟨_,_,_,rfl,PS.mk (k7.get i3 id) sM λA1 i4 A2 r5=>⟨(k6.then k7).new i4 λn P=>.inr oM,l1,n6,l2,G6,r5,?_,λn P=>by have:=r4.aE n P;omega⟩⟩;rw[k4 y1];exact(r4.keep i4 λn P l=>by have:=y2 n P;omega).row dC (by unfold aT dX;simp;omega)
  rintro _ A3 ⟨a3,m,o,z,Dc,f1,d4,y3⟩;have A4:=a3.size;have f2:=k5.then a3;have f3:=a3.get c0 id;have m9:=a3.get b2 id;have c2:=a3.get m8 id;refine⟨_,_,_,ae f3 rfl,_,_,_,ae f1 rfl,_,ae c2 rfl,_,ae c2 rfl,_,ae c2 rfl,PC.ok (HQ c4 (y.af f2) d4) ?_⟩;rintro _ r6 ⟨rfl,a0⟩;have k8:=f2.then a0;refine⟨_,rfl,al.eO (λd6=>λr7 i5=>?_) (λy4=>λc9 r8=>?_)⟩
  ·have i6:=(i5.keep (S:=λ_=>False)).get (k8.get c1 id) id
   refine⟨_,_,ae i6 rfl,ae i6 rfl,k (i:=(0,0)) k8 (c7 ?_) r7 i5 _ _ rfl rfl⟩;simp only;rw[Zx d6]
  have f4:wV (V.decl.at l.aZ) (V.cellsOf l) l.field l.op l.arg=0:=y4;have a1:ai r6 c9:=r8.keep;have k9:=k8.then a1;have n0:=(a3.then a0).then a1;have c6:=k1.then k9;have n1:=b.af c6;have b3:=k9.get c3 id;have d2:=(a0.then a1).get m9 id;have n3:=(a0.then a1).get f3 id;have f5:=(a0.then a1).get f1 id;have E3:=f _ b.l1.1;have E4:=f _ b.l2.1;have A5:=n0.size;have y5:=c6.size;have e9:¬p=q.r1:=λl=>by have e:=b.lp.2;rw[l,b.l1.2]at e;cases e
  have i7:¬p=q.r2:=λl=>by have e:=b.lp.2;rw[l,b.l2.2]at e;cases e
  have i8:¬q.r1=q.r2:=λl=>by have e:=b.l1.2;rw[l,b.l2.2]at e;cases e
  refine⟨λn=>n=q.r1,p,0,rfl,e9,_,ae n1.at' rfl,oM,_,_,ae d2 rfl,ae d2 rfl,oM,_,ae f5 rfl,_,_,_,ae n3 rfl,_,_,_,ae f5 rfl,_,ae b3 rfl,_,ae b3 rfl,_,ae b3 rfl,PC.ok (Tg c4 f4 he.arg oM (y.af k9) (λn P=>by have:=f n P.1;omega) (d4.af (a0.then a1)) λn P=>by have:=y3 n P;have:=(a0.then a1).size;omega) ?_⟩;rintro _ a6 ⟨r9,s0,s1,G,rfl,i9,a4,hG⟩;have e3:=c6.then a4;have t:=b.af e3;have A6:=a4.size;refine⟨_,_,_,rfl,ai.keep a4,dy (enc:=pU) (k:=(l.aZ,l.agg)) YU Wi t.st λj0 s2 j1 A7=>⟨j1,λd0 j2=>?_⟩⟩;have j3:ai j0 d0:=j2.keep;have A8:d0.heap.size=j0.heap.size:=by rw[j2.heap]
  have A:aj (·=q.r1) a6 d0:=j1.af j3;have key:∀n,F n/\q.cls n= .done (l.aZ,l.agg,l.field)->n≠p/\n≠q.r1/\n≠q.r2:=λn P=>
   ⟨λl=>(by have e:=b.lp.2;rw[<-l,P.2]at e;cases e),λl=>(by have e:=b.l1.2;rw[<-l,P.2]at e;cases e),λl=>(by have e:=b.l2.2;rw[<-l,P.2]at e;cases e)⟩
  have n4:=A.get t.at' e9;have n8:=A.get (a4.get d2 id) oM;have u:=A.get (a4.get b3 id) oM;have n9:=t.dn.keep A (λl=>i8 l.symm);have o0:=A.get (a4.get (k9.get c1 id) id) oM;obtain⟨a2,a7,e4,n5,s5,j4,j5⟩:=FC t (l.aZ,l.agg,l.field);rw[m2]at j4;subst j4;have o1:=j5.keep A λn P l=>(key n P).2.1 l;have A9:=A.size;refine⟨λn=>n=q.r2\/(F n/\q.cls n= .done (l.aZ,l.agg,l.field)),p,0,rfl,λB=>B.elim i7 λB=>(key p B).1 rfl,_,ae n4 rfl,λB=>B.elim (λl=>oM) λB=>by have:=f _ B.1;omega,
   ar (cs:=[ZH l.aZ,ZH l.agg,ZH l.field]) (UC (l.aZ,l.agg,l.field)) n8 ⟨_,_,_,_,_,_,_,_,_,_,_,_,ae u rfl,ae u rfl,ae u rfl,ae u rfl,ae u rfl,ae u rfl,ae u rfl,ae u rfl,ae u rfl,ae u rfl,
   PA.mk λB0 a8 B1 s6=>⟨ai.keep a8,GZ (enc:=CS) (k:=(l.aZ,l.agg,l.field)) Zb YT (n9.af a8) λB2 x s7 o2 a9 B3=>⟨a2,a7,e4,x,by rw[s5],a9.mono λn _ l=>.inl l,?_⟩⟩⟩⟩
  have o3:=(o1.af a8).keep a9 λn P l=>(key n P).2.2 l;have s8:=a9.get s6 oM;have b4:∀n,aG a2=some n->F n/\q.cls n= .done (l.aZ,l.agg,l.field):=λn P=>j5.self n P;have y6:=(((hr.af e3).keep A λn P l=>(C n P).2 (l▸b.l1.1)).af a8).keep a9 λn P l=>(C n P).2 (l▸b.l2.1);refine fK (c:=ku) o3 Kh s8 (D:=D) (x:=l) ⟨d,a,c,rfl,y6,he⟩ (λn P=>⟨by have:=(C n P).1;omega,λee=>(C n P).2 (b4 n ee).1⟩) ba (by unfold maxLen;omega) λa' L s9 F2 f6 b0 o4=>⟨_,_,_,rfl,b0.mono λn _ P=>.inr (b4 n P),?_⟩
  have t2:¬aG a2=some q.r2:=λee=>(key _ (b4 _ ee)).2.2 rfl;refine Co YT (s7.keep b0 t2) (o2.keep b0 t2) λj6 t3 f8 B4=>⟨f8.mono λn _ l=>.inl l,λd1 j7=>?_⟩
  have g0:ai j6 d1:=j7.keep;have B5:d1.heap.size=j6.heap.size:=by rw[j7.heap]
  have B6:=b0.size;have kb:aj (λn=>n=q.r2\/(F n/\q.cls n= .done (l.aZ,l.agg,l.field))) d0 d1:=((((ai.keep a8).then (a9.mono λn _ l=>.inl l)).then (b0.mono λn _ P=>.inr (b4 n P))).then (f8.mono λn _ l=>.inl l)).then (ai.keep g0);have e5:=kb.get o0 (λB=>B.elim (λl=>oM) λB=>by have:=f _ B.1;omega);refine⟨_,_,ae e5 rfl,ae e5 rfl,PS.mk e5 sM λB7 j8 B8 t4=>PS.mk t4 sM λd3 j9 B9 l0=>⟨_,_,ae l0 rfl,ae l0 rfl,?_⟩⟩;have M:aj (λn=>n=q.r1\/n=q.r2\/(F n/\q.cls n= .done (l.aZ,l.agg,l.field))\/n=E.heap.size) a6 d3:=
   ((A.mono λn _ l=>.inl l).then (kb.mono λn _ P=>P.elim (λl=>.inr (.inl l)) λP=>.inr (.inr (.inl P)))).then ((j8.mono λn _ l=>.inr (.inr (.inr l))).then (j9.mono λn _ l=>.inr (.inr (.inr l))))
  have kc:aj (·=E.heap.size) d1 d3:=j8.then j9;have zT:=M.size;have I:=c7 (r:=(false,(0,0),{V with eQ:=aI V.eQ (l.aZ,l.agg) ⟨qd (((aq V.eQ (l.aZ,l.agg)).getD ⟨0,[]⟩).version+1),Te (V.decl.at l.aZ) (V.cellsOf l) l.field l.op l.arg⟩,done:=aI V.done (l.aZ,l.agg,l.field) (h++[l])})) (by simp only;rw[Zq (by simpa using f4)]);have t5:=(bf.SN hV l).1;refine Ok.mk ⟨by rw[I],λn=>n<d3.heap.size/\(F n\/D n\/w.heap.size<=n),?_,?_,λn P=>P.2⟩
  rotate_left
  ·exact(ai.keep e3).trans M (λ_ _ b=>b) λn P hT=>by
    rcases hT with rfl|rfl|hT|rfl
    ·exact b.l1.1
    ·exact b.l2.1
    ·exact hT.1
    ·omega
  rw[I]at t5⊢;have t6:∀n,G n->c9.heap.size<=n/\n<a6.heap.size:=λn P=>⟨hG n P,i9.aE n P⟩
  have N:∀n,F n->n<d3.heap.size:=λn P=>by have:=f n P;omega
  classical
  have O:∀n,F n->(if F n then q.cls n else if c9.heap.size<=n/\n<a6.heap.size then Ka.Xu else Ka.done (l.aZ,l.agg,l.field))=q.cls n:=λn P=>Zx P;refine⟨t5,⟨q.ta,q.tn,q.tc,q.pa,q.pn,q.pc,q.ea,q.en,q.ec,q.r1,q.r2,aI q.l1 (l.aZ,l.agg) (.agg #[ZH (qd (s.version+1)),.slice r9 s0 s1]),aI q.l2 (l.aZ,l.agg,l.field) (.slice a' (a7+1) L),λn=>if F n then q.cls n else if c9.heap.size<=n/\n<a6.heap.size then Ka.Xu else Ka.done (l.aZ,l.agg,l.field)⟩,?_,?_,?_,?_,?_,?_,?_,λn P=>P.1,⟨⟨N _ b.lp.1,.inl b.lp.1⟩,(O _ b.lp.1).trans b.lp.2⟩,⟨⟨N _ b.l1.1,.inl b.l1.1⟩,(O _ b.l1.1).trans b.l1.2⟩,⟨⟨N _ b.l2.1,.inl b.l2.1⟩,(O _ b.l2.1).trans b.l2.2⟩⟩
  ·exact M.get t.at' λB=>by
    rcases B with B|B|B|B
    ·exact e9 B
    ·exact i7 B
    ·exact(key _ B).1 rfl
    ·omega
  ·refine(t.SK.keep M λn P B=>?_).mono λn P=>⟨⟨N n P.1,.inl P.1⟩,(O n P.1).trans P.2⟩
   have d5:=f n P.1;rcases B with rfl|rfl|B|B
   ·have:=b.l1.2;rw[P.2]at this;cases this
   ·have:=b.l2.2;rw[P.2]at this;cases this
   ·have:=B.2;rw[P.2]at this;cases this
   ·omega
  ·refine(t.PJ.keep M λn P B=>?_).mono (λn P=>⟨⟨N n P.1,.inl P.1⟩,(O n P.1).trans P.2⟩) λn P=>P.1.1
   have d5:=f n P.1;rcases B with rfl|rfl|B|B
   ·have:=b.l1.2;rw[P.2]at this;cases this
   ·have:=b.l2.2;rw[P.2]at this;cases this
   ·have:=B.2;rw[P.2]at this;cases this
   ·omega
  ·exact((s2.af j3).keep kb λB=>B.elim i8 λB=>(key _ B).2.1 rfl).keep kc oM
  ·refine fI.aI ?_ ?_
   ·refine⟨r9,s0,s1,by rw[h4],?_⟩
    refine((i9.row (bytes:=32) dC ?_).keep M λn P B=>?_).mono λn P=>?_
    ·rw[NG,hV.len];unfold aT;omega
    ·have d5:=t6 n P
     rcases B with rfl|rfl|B|B
     ·omega
     ·omega
     ·have:=f n B.1;omega
     ·omega
    ·have d5:=t6 n P
     refine⟨⟨oM,.inr (.inr oM)⟩,?_⟩;show(if F n then _ else _)=_;rw[Zq (λhf=>by have:=f n hf;omega),Zx d5]
   ·refine t.XA.mono λf0 n7 hu=>?_
    obtain⟨e6,n2,e7,rfl,hu⟩:=hu;refine⟨e6,n2,e7,rfl,(hu.keep M λn P B=>?_).mono λn P=>⟨⟨N n P.1,.inl P.1⟩,(O n P.1).trans P.2⟩⟩;have d5:=f n P.1;rcases B with rfl|rfl|B|B
    ·have:=b.l1.2;rw[P.2]at this;cases this
    ·have:=b.l2.2;rw[P.2]at this;cases this
    ·have:=B.2;rw[P.2]at this;cases this
    ·omega
  ·have:=(t3.af g0).keep kc (by show¬q.r2=E.heap.size;omega)
   rw[Kb]at this;exact this
  ·refine pF.aI ?_ t.XP ?_ t.dn.tidy
   ·refine⟨a',_,L,rfl,?_⟩
    have t7:∀n,F2 n->n<s9.heap.size/\n≠E.heap.size:=λn P=>by
     refine⟨f6.aE n P,λl=>?_⟩;rcases o4 n P with e|e|e
     ·have:=f n e.1;omega
     ·have:=(C n e).1;omega
     ·omega
    refine((f6.keep f8 λn P l=>?_).af g0|>.keep kc λn P l=>(t7 n P).2 l).mono (λn P=>?_) λn P=>P.1.1
    ·rcases o4 n P with e|e|e
     ·exact(key n e).2.2 l
     ·exact(C n e).2 (l▸b.l2.1)
     ·omega
    ·have:=(t7 n P).1
     have hz:=kc.size;rcases o4 n P with e|e|e
     ·exact⟨⟨N n e.1,.inl e.1⟩,(O n e.1).trans e.2⟩
     ·refine⟨⟨oM,.inr (.inl e)⟩,?_⟩
      show(if F n then _ else _)=_;rw[Zq (C n e).2,Zq (by have:=(C n e).1;omega)]
     ·refine⟨⟨oM,.inr (.inr oM)⟩,?_⟩
      show(if F n then _ else _)=_;rw[Zq (λhf=>by have:=f n hf;omega),Zq oM]
   ·intro r1 f0 n7 d6 hu
    obtain⟨e6,n2,e7,rfl,hu⟩:=hu;refine⟨e6,n2,e7,rfl,(hu.keep M λn P B=>?_).mono (λn P=>⟨⟨N n P.1,.inl P.1⟩,(O n P.1).trans P.2⟩) λn P=>P.1.1⟩;have d5:=f n P.1;rcases B with rfl|rfl|B|B
    ·have:=b.l1.2;rw[P.2]at this;cases this
    ·have:=b.l2.2;rw[P.2]at this;cases this
    ·have:=B.2;rw[P.2]at this
     simp only[Ka.done.injEq]at this;exact d6 this
    ·omega
end
variable{f:ZN}{f9:WP}
section
variable {w w':World} {p:Nat} {F T D:ZN} {V:bf} {q:FB}
abbrev FF(n:cX)(P:WP)(a b:Nat):Value:=.agg (lz n P a b).toArray
def Hw(L:cG w p F V)(hT:fw w)(hr:Row aP 8 w D d a l.aN)(o:∀n,D n->n<w.heap.size/\¬F n)(he:l.Ok)(P:((aq V.done (l.aZ,l.agg,l.field)).getD []).length<=20000000)(M:V.entries.length<=20000000):
  PP 124 #[ZL p,kN l d a c] w (Ok λW w'=>∃d a c G,W=FF (V.add l).1 d a c/\Row aP 8 w' G d a l.aN/\∃X,cG w' p X (V.add l).2/\cu F w X w'/\∀n,G n->w.heap.size<=n/\n<w'.heap.size/\¬X n):=by
 have Y:=L.aE;have h3:=Y _ L.self;refine zv (PA.mk λt e6 h4 d1=>PA.mk λh5 Z h6 e7=>?_);have k0:=e6.then Z;refine ar (bg l d a c) (Z.get d1 id) (PC.ok (pt (hr.af k0) λn P=>by have:=(o n P).1;omega) ?_);rintro _ h7 ⟨a6,n1,c1,G1,rfl,e8,u,N⟩;have a0:=k0.then N;refine cx (sF l a6 n1 c1) ⟨rfl,PC.ok (SM (L.af a0) (hT.af a0) e8 (λn P=>⟨(u n P).2,λi=>by have:=Y n i;have:=u n P;omega⟩) he P) ?_⟩;rintro _ v ⟨rfl,e,b8,O,Q⟩;have h8:=N.size;have h9:=O.size;have b0:∀n,e n->F n\/w.heap.size<=n:=λn P=>by
  rcases Q n P with b|b|b
  ·exact .inl b
  ·have:=u n b;exact .inr oM
  ·exact .inr oM
 have b1:aj F w v:=(ai.keep a0).then O;have R:∀{n:Nat},w.heap.size<=n->¬F n:=λ{n} P i=>by have:=Y n i;omega
 have d2:=O.get (N.get (Z.get d1 id) id) (R (Q4 _));have d3:=O.get (N.get e7 id) (R oM);refine⟨_,_,_,rfl,PA.mk λi0 e9 i1 f2=>PS.mk f2 sM λi2 f3 i3 f4=>PS.mk f4 sM λi4 f6 i5 f8=>λx b9=>?_⟩;have A:ai v x:=((e9.new f3 λn P=>.inr oM).new f6 λn P=>.inr oM).then b9.keep;have i6:x.heap.size=v.heap.size+1:=by rw[b9.heap];omega
 have a1:x.heap[v.heap.size]? =some (.cells #[ZH (V.try l).2.1.1,ZH (V.try l).2.1.2] 46 (0,0)):=(b9.keep (S:=λ_=>False)).get f8 id;have b2:=A.get d2 id;obtain⟨g9,q,f⟩:=b8.af A;have c4:=b8.self;have y:=b8.aE;have b3:=((hr.keep b1 λn P=>(o n P).2).af A)
 have a4:(V.try l).2.2.entries=V.entries:=by
  rw[bf.sB];split;rfl;split;rfl;split<;>rfl
 have i7:=f.PJ.len dC;have B:∀n,aG q.ea=some n->e n/\q.cls n= .PJ:=λn P=>f.PJ.self n P;have C:¬aG q.ea=some p:=λj=>by have b:=(B p j).2;rw[f.lp.2]at b;cases b
 refine⟨λn=>aG q.ea=some n,p,0,rfl,C,_,_,_,ae f.at' rfl,ar (bg l d a c) b2 ⟨λj=>by have:=y _ (B _ j).1;omega,_,_,ae a1 rfl,ae a1 rfl,PC.ok (pt b3 λn P=>by have:=(o n P).1;omega) ?_⟩⟩;rintro _ i8 ⟨a7,n2,c2,G2,rfl,g0,z,c5⟩;have i9:=c5.size;refine⟨_,_,_,_,_,_,_,_,_,_,_,_,rfl,ai.keep c5,PA.mk λd4 c6 j0 g1=>⟨ai.keep c6,?_⟩⟩;have a2:=c5.then c6;refine fK (c:=AA) (x:=⟨l,(V.try l).1,(V.try l).2.1⟩) (f.PJ.af a2) SF g1 (D:=G2) ⟨a7,n2,c2,rfl,g0.af c6,he⟩ (λn P=>⟨by have:=z n P;omega,λj=>by have:=y _ (B _ j).1;have:=z n P;omega⟩) (by rw[a4];unfold aT;omega) (by rw[a4];unfold maxLen;omega) λa' E d5 F2 b4 c7 c8=>⟨_,_,_,rfl,p,0,rfl,?_⟩
 have j1:=c7.size;have d6:=c7.get ((f.af a2).at') C;refine PS.mk d6 sM λH g2 j2 g3=>λr d7=>?_;have d8:ai H r:=d7.keep;have j3:r.heap.size=H.heap.size:=by rw[d7.heap]
 have a5:aj (·=p) d5 r:=g2.af d8;have k5:aj (λn=>aG q.ea=some n\/n=p) x r:=((ai.keep a2).then (c7.mono λn _ P=>.inl P)).then (a5.mono λn _ P=>.inr P);have I:aj e x r:=k5.mono λn _ P=>P.elim (λb=>(B n b).1) λb=>b▸c4;have c9:∀{n:Nat},v.heap.size<=n->¬e n:=λ{n} P i=>by have:=y n i;omega
 have g4:¬e w.heap.size:=λi=>by
  rcases Q _ i with b|b|b
  ·exact R (Q4 _) b
  ·have:=u _ b;omega
  ·omega
 have d0:¬e t.heap.size:=λi=>by
  rcases Q _ i with b|b|b
  ·exact R oM b
  ·have:=u _ b;omega
  ·omega
 have d9:=I.get b2 g4;have e0:=I.get (A.get d3 id) d0;have b5:=I.get a1 (c9 (Q4 _));have e1:∀n,D n->¬e n:=λn P i=>by
  rcases Q _ i with b|b|b
  ·exact(o n P).2 b
  ·have:=u _ b;have:=(o n P).1;omega
  ·have:=(o n P).1;omega
 have e2:=b3.keep I e1;have j4:=k5.size;refine⟨λn=>n=t.heap.size,ar (bg l d a c) d9 ⟨oM,_,_,ae b5 rfl,ae b5 rfl,PC.ok (pt e2 λn P=>by have:=(o n P).1;omega) ?_⟩⟩;rintro _ j5 ⟨a3,n3,c3,G3,rfl,g5,e3,J⟩;have j6:=J.size;refine⟨_,_,_,_,_,_,_,_,_,_,_,_,rfl,ai.keep J,aC (mu ⟨l,(V.try l).1,(V.try l).2.1⟩ a3 n3 c3) (J.get e0 id) rfl λe4 S j7 g6=>⟨S,ar (mu ⟨l,(V.try l).1,(V.try l).2.1⟩ a3 n3 c3) g6 (Ok.mk ⟨a3,n3,c3,G3,rfl,g5.keep S λn P j=>by have:=e3 n P;omega,λn=>n<H.heap.size/\(e n\/G2 n\/d4.heap.size<=n),?_,⟨?_,?_⟩,?_⟩)⟩⟩
 ·have g7:=(bf.AB (by
   have:V.OK:=L.1;exact this) l).1
  have T:aj (λn=>n=t.heap.size) r e4:=(ai.keep J).then S;have zc:=T.size;have g8:∀n,e n->n<H.heap.size:=λn P=>by have:=y n P;omega
  classical
  have e5:∀n,e n->(if e n then q.cls n else Ka.PJ)=q.cls n:=λn P=>Zx P;have K:aj (λn=>(aG q.ea=some n\/n=p)\/n=t.heap.size) x e4:=(k5.mono λn _ P=>.inl P).then (T.mono λn _ P=>.inr P);have g:∀(m:Ka) n,m≠.PJ->m≠.self->e n/\q.cls n=m->¬((aG q.ea=some n\/n=p)\/n=t.heap.size):=λm n b U P k=>by
   rcases k with(k|k)|k
   ·exact b (P.2.symm.trans (B n k).2)
   ·subst k;exact U (P.2.symm.trans f.lp.2)
   ·subst k;exact d0 P.1
  have h:∀(m:Ka) n,e n/\q.cls n=m->((n<H.heap.size/\(e n\/G2 n\/d4.heap.size<=n))/\(if e n then q.cls n else Ka.PJ)=m):=λm n P=>⟨⟨g8 n P.1,.inl P.1⟩,(e5 n P.1).trans P.2⟩
  refine⟨g7,⟨q.ta,q.tn,q.tc,q.pa,q.pn,q.pc,a',q.en+1,E,q.r1,q.r2,q.l1,q.l2,λn=>if e n then q.cls n else Ka.PJ⟩,?_,?_,?_,?_,?_,?_,?_,λn P=>by have:=P.1;omega,h _ _ f.lp,h _ _ f.l1,h _ _ f.l2⟩
  ·exact T.get (d8.get g3 id) oM
  ·exact(f.SK.keep K λn P=>g _ n sM sM P).mono (h _)
  ·have M:∀n,F2 n->n<d5.heap.size/\n≠t.heap.size/\n≠p:=λn P=>by
    refine⟨b4.aE n P,λj=>?_,λj=>?_⟩
    ·rcases c8 n P with b|b|b
     ·exact d0 (j▸b.1)
     ·have:=z n b;omega
     ·omega
    ·rcases c8 n P with b|b|b
     ·have U:=b.2;rw[j,f.lp.2]at U;cases U
     ·have:=z n b;have:=y p c4;omega
     ·have:=y p c4;omega
   have:(V.add l).2.entries=(V.try l).2.2.entries++[⟨l,(V.try l).1,(V.try l).2.1⟩]:=rfl;rw[this];refine((b4.keep a5 λn P=>(M n P).2.2).keep T λn P=>(M n P).2.1).mono (λn P=>?_) λn P=>by have:=P.1.1;omega
   have h0:=(M n P).1;rcases c8 n P with b|b|b
   ·exact h _ n b
   ·have:=z n b
    refine⟨⟨oM,.inr (.inl b)⟩,?_⟩;show(if e n then _ else _)=_;rw[Zq (c9 oM)]
   ·refine⟨⟨oM,.inr (.inr b)⟩,?_⟩
    show(if e n then _ else _)=_;rw[Zq (c9 oM)]
  ·exact f.st.keep K (g _ _ sM sM f.l1)
  ·refine f.XA.mono λW a8 s=>?_
   obtain⟨x1,x2,x3,rfl,s⟩:=s;exact⟨x1,x2,x3,rfl,(s.keep K λn P=>g _ n sM sM P).mono (h _)⟩
  ·exact f.dn.keep K (g _ _ sM sM f.l2)
  ·refine f.XP.mono λa9 W a8 s=>?_
   obtain⟨x1,x2,x3,rfl,s⟩:=s;exact⟨x1,x2,x3,rfl,(s.keep K λn P=>g _ n sM sM P).mono (h _) λn P=>by have:=P.1.1;omega⟩
 ·have k1:aj e v r:=(ai.keep A).then I
  exact((b1.new k1 b0).af J).new S λn P=>.inr oM
 ·intro n P
  rcases P.2 with b|b|b
  ·exact b0 n b
  ·have:=z n b;exact .inr oM
  ·exact .inr oM
 ·intro n P
  have:=e3 n P;refine⟨oM,oM,λk=>by have:=k.1;omega⟩
def FH(c:aS):∀(a:List ah) (n:bf) (P:Int×Int×Int),(((aq (a.foldl (λn e=>(n.add e).2) n).done P).getD []).length<=((aq n.done P).getD []).length+a.length)/\(a.foldl (λn e=>(n.add e).2) n).entries.length=n.entries.length+a.length
 |[],n,P=>by simp
 |e::a,n,P=>by
  rw[List.foldl_cons];obtain⟨d,f⟩:=FH c a (n.add e).2 P;have i:((aq (n.add e).2.done P).getD []).length<=((aq n.done P).getD []).length+1:=by
   show((aq (n.try e).2.2.done P).getD []).length<=_;rw[bf.sB];split
   ·simp
   split
   ·simp
   split
   ·simp
   ·simp only
    rw[bB];split
    ·rename_i g
     have b:P=(e.aZ,e.agg,e.field):=by simpa using g
     rw[b];simp
    ·simp
  have h:(n.add e).2.entries.length=n.entries.length+1:=by
   show((n.try e).2.2.entries++[_]).length=_;have:(n.try e).2.2.entries=n.entries:=by rw[bf.sB];split;rfl;split;rfl;split<;>rfl
   rw[this];simp
  refine⟨?_,by rw[f,h];simp;omega⟩;simp only[Xq]at d⊢;omega
def Hv{tn L q M i N:Nat}(O:dj Q=0)(R:fw w)(S:bt w D Q d tn x q)(T:∀n,D n->n<w.heap.size)(r:Row ku 96 w f f9 i H)(s:∀n,f n->n<w.heap.size)(a:H.length<=20000000):
  PP 79 #[.agg #[.slice d tn L,.slice x q M],.slice f9 i N] w (Ok λU w'=>∃p F,U= ZL p/\cG w' p F (bO Q H)/\(∀n,F n->w.heap.size<=n)/\ai w w'):=by
 refine Le (PA.mk λw1 t s1 u=>⟨_,_,_,_,_,_,ae u rfl,ae u rfl,PC.ok (HD O (S.af t) λn a=>by have:=T n a;omega) ?_⟩);rintro _ w9 ⟨p,V,rfl,c,W,v⟩;have a9:=r.len;have X:=t.then v;have z9:=v.size;refine⟨_,rfl,λy o w'=>∃P:Nat,o=P/\P<=i/\y=i-P/\∃F,cG w' p F (bO Q (H.take P))/\(∀n,F n->w.heap.size<=n)/\ai w w',⟨_,0,rfl,Qj _,rfl,V,c,λn a=>by have:=W n a;omega,X⟩,?_⟩;rintro y _ _ Y ⟨P,rfl,hj,rfl,F,c,j,e⟩;refine al.dec (λb0=>?_) (λb1=>?_)
 ·have z:P<H.length:=oM
  obtain⟨n,Z,es,ha,a0,b2,A,k,l,m,rfl,B,C⟩:=(r.af e).el P H[P] (Qq z);have E:H[P]? =some H[P]:=Qq z;generalize H[P]=b at A B C E;refine⟨n,Z,ha,oM,oM,ck (es:=aH b k l m) (k:=10) (bg b k l m) rfl (λo ht=>A o ht) (PA.mk λb3 a3 b4 a5=>aC (bg b k l m) a5 rfl λa6 a7 b5 a8=>ar (bg b k l m) a8 ?_)⟩;have g:ai Y a6:=a3.new a7 λn a=>.inr oM;have I:=FH Q (H.take P) (bf.new Q) (b.aZ,b.agg,b.field);have b6:=List.length_take_le P H;have b7:((aq (bO Q (H.take P)).done (b.aZ,b.agg,b.field)).getD []).length<=0+(H.take P).length:=I.1;have b8:(bO Q (H.take P)).entries.length=0+(H.take P).length:=I.2;have b9:=e.size;have c1:=g.size;refine PC.ok (Hw (c.af g) (R.af (e.then g)) (B.af g) (λn a=>⟨by have:=s n a;omega,λhf=>by have:=j n hf;have:=s n a;omega⟩) C oM oM) ?_;rintro _ c2 ⟨a4,n4,c4,G,rfl,-,F',h,J,-⟩;refine cx (PY _ a4 n4 c4) ⟨rfl,_,?_,P+1,an oM,oM,rfl,F',?_,λn a=>?_,(e.then g).new J.1 λn a=>.inr (j n a)⟩
  ·omega
  ·rw[Qw,E]
   unfold bO at h⊢;rw[List.foldl_append];exact h
  ·rcases J.2 n a with K|K
   ·exact j n K
   ·omega
 ·rw[Qz oM]at c
  exact Ok.mk ⟨p,F,rfl,c,j,e⟩
end
end Go.Proofs.YtjgjkeponbeekaaGreatDoor
namespace Go.aw
open Go
variable{a4:List Value}{F a c c3 i r:Nat}{f:ZN}{d x:WP}{h:Program}{J j:Type}{g p:TypeId}{b:World}{y:ZU}
def PH{cs:List j}{p m:Nat}{v:j}{vs:List j}(n:p<cs.length):(cs.set p v).take (p+1)++vs++(cs.set p v).drop (p+1+m)=cs.take p++(v::vs)++cs.drop (p+(m+1)):=by
 have P:(cs.set p v).take (p+1)=cs.take p++[v]:=by
  rw[Qw,Xj,Zx rfl,Zx n,List.take_set_of_le (Q4 _)];rfl
 have a:(cs.set p v).drop (p+1+m)=cs.drop (p+(m+1)):=by
  rw[List.drop_set_of_lt oM,show p+1+m=p+(m+1) by omega]
 rw[P,a];simp
def CQ{k:TypeId}{l:Nat}{f:WP}{m c P g d:Nat}{o:ZU}(p:f=some ⟨g,d,none⟩):∀(a:List Value) (n:Nat) {b:World} {cs:List Value},Own b k l f m c cs->P+n+a.length<=cs.length->
  (∀e,Own e k l f m c (cs.take (P+n)++a++cs.drop (P+n+a.length))->aj (λg=>aG f=some g) b e->e.heap.size=b.heap.size->o e)->jO ⟨g,d+P,none⟩ n a b o
 |[],n,b,cs,h,q,i=>i b (by simpa using h) (aj.refl _) rfl
 |v::a,n,b,cs,h,q,i=>by
  unfold jO;rw[Xq]at q;rw[Addr.add_lit,Nat.add_assoc];refine h.set (m:=P+n) oM p λe r s t=>CQ p a (n+1) r be λu j w x=>i u ?_ (s.then w) (x.trans t);have:=PH (cs:=cs) (p:=P+n) (m:=a.length) (v:=v) (vs:=a) oM;rw[show P+(n+1)=P+n+1 from rfl]at j;rw[this]at j;exact j
def Own.store{j P m e c:Nat}{n cs:List Value}(l:Own b p a d j P cs)(o:d=some ⟨e,c,none⟩)(k:iL h g n=true)(q:m+n.length<=cs.length)(i:∀f,Own f p a d j P (cs.take m++n++cs.drop (m+n.length))->aj (λe=>aG d=some e) b f->f.heap.size=b.heap.size->y f):oG h g (.pointer (some ⟨e,c+m,none⟩)) (.agg n.toArray) b y:=by
 simp only[iL,QK]at k;obtain⟨⟨⟨r,w⟩,s⟩,t⟩:=k;unfold oG;have u:Nat.beq n.toArray.size (mK h g)=true:=by simpa using s
 have v:n.toArray.toList.all Value.oneCell'=true:=by simpa using t
 simp only[r,u,v];exact CQ o n 0 l (by simpa using q) i
def fl.store{n:fl j J}{m:List (Bx j)}(v:aV n.kr p f b d a c m){P:Bx j}(w:m[i]? =some P){B s:Nat}(M:d=some ⟨B,s,none⟩)(C:a4=(n.hd P.x x r F).take c3)(a1:n.o<c3)(a2:c3<=n.k)(N:iL h g a4=true)(z:∀q,aV n.kr p f q d a c (m.set i ⟨P.x,x,r,F⟩)->aj (λe=>aG d=some e) b q->q.heap.size=b.heap.size->y q):oG h g (.pointer (some ⟨B,s+i*n.k,none⟩)) (.agg a4.toArray) b y:=by
 obtain⟨cs,D,O,E,Q⟩:=v.body;have H:=bV.oC.1 E;have R:i<m.length:=(Qv.1 w).1;have I:cs.length=m.length*n.k:=by rw[H];exact lT (λe:Bx j=>n.hl e.x e.a e.n e.c) m
 have t:a4.length=c3:=by rw[C,Qy,n.hl];omega
 have S:(i+1)*n.k<=m.length*n.k:=Q0 _ R;rw[X7,Nat.one_mul]at S;refine O.store (m:=i*n.k) M N (by rw[I,t];omega) λq T U K=>z q ⟨⟨_,D,T,bV.oC.2 ?_,Q⟩,v.self,λe V=>by rw[K];exact v.aE e V⟩ U K;have W:=rX (enc:=λe:Bx j=>n.hd e.x e.a e.n e.c) (k:=n.k) (λe=>n.hl e.x e.a e.n e.c) (x':=⟨P.x,x,r,F⟩) (v:=.slice x r F) n.ho m i P w (n.fO ..).symm;rw[<-W,<-H,t];have X:∀k,k<n.k->cs[i*n.k+k]? =(n.hd P.x P.a P.n P.c)[k]? :=λk Y=>by
  obtain⟨Z,A,L⟩:=E.at w;have a0:Z=n.hd P.x P.a P.n P.c:=L.1;rw[<-a0];exact A k Y
 apply X3;intro k;have o:∀l,l<c3->a4[l]? =(n.hd P.x x r F)[l]? :=λl hu=>by rw[C,Xw,Zx hu]
 by_cases A:k<i*n.k
 ·rw[XQ,XW (by rw[Qy];omega),Xw,Zx A,Xj,Zq oM]
 ·by_cases L:k<i*n.k+c3
  ·rw[XQ,X8 (by rw[Qy];omega),XW (by rw[Qy,t];omega),Qy,o _ oM]
   obtain⟨l,rfl⟩:∃l,k=i*n.k+l:=⟨k-i*n.k,oM⟩
   rw[X2 oM,Nat.add_sub_cancel_left,Xj];have u:=n.fO P.x P.a P.n P.c x r F;split
   ·rename_i p
    have:l=n.o:=oM
    subst this;rw[Zx (by rw[I];have:=n.ho;omega),<-u,Xj,Zx rfl,Zx (by rw[n.hl];exact n.ho)]
   ·rename_i p
    rw[X l oM,<-u,Xj,Zq oM]
  ·rw[X8 (by rw[QX,Qy,t];omega),QX,Qy,t,List.getElem?_drop,Xj,Zq (by have:=n.ho;omega)]
   congr 1
   omega
end Go.aw
namespace Go.aw
open Go
variable{h:Program}{y:ZU}
section
variable {α β:Type} {N:fl α β} {w9 w w':World} {a:WP} {n c j:Nat} {L0:List (Bx α)} {e:TypeId}
def dV.step2{f:TypeId}(x:dV N e w9 a n c L0 j w){g:Nat}(o:a=Option.some ⟨g,0,none⟩){b:Bx α}(i:L0[j]? =Option.some b){a':WP}{n' c':Nat}{G:ZN}(z:Row N.ci N.ib w G a' n' (N.inner b.x))(A:N.ok b.x)(k:∀P,G P->w9.heap.size<=P/\P<w.heap.size)(U:g<w9.heap.size){hd:List Value}{r:Nat}(C:hd=(N.hd b.x a' n' c').take r)(E:N.o<r)(F:r<=N.k)(H:iL h f hd=true)(l:∀w',dV N e w9 a n c L0 (j+1) w'->aj (λb=>aG a=Option.some b) w w'->w'.heap.size=w.heap.size->y w'):oG h f (.pointer (Option.some ⟨g,0+j*N.k,none⟩)) (.agg hd.toArray) w y:=by
 obtain⟨I,J,K,L,M,p,O,q⟩:=x;have s:I[j]? =Option.some b:=by rw[p j (Q4 _)];exact i
 have Q:=(Qv.1 s).1;have t:∀P,G P->¬aG a=Option.some P:=λP B e=>by
  have:=(k P B).1;rw[o]at e;simp only[aG,Q1]at e;omega
 refine fl.store K s o C E F H λR S d m=>l R ⟨_,λP=>J P\/G P,S,?_,?_,?_,O.then d,?_⟩ d m
 ·rw[List.map_set,L]
  apply X3;intro f;rw[Xj];split
  ·rename_i e;subst e
   rw[Zx (by simpa using(Qv.1 i).1),Q9,i];rfl
  ·rfl
 ·intro u P V B
  rw[Xj]at B
  by_cases v:j=u
  ·subst v
   rw[Zx rfl,Zx Q]at B
   cases B
   exact⟨(z.keep d λP B=>t P B).mono λP B=>.inr B,A⟩
  ·rw[Zq v]at B
   exact((M u P oM B).keep d λP B=>(q P B).2.2).mono λP B=>.inl B
 ·intro T W
  rw[Xj,Zq oM,p T oM]
 ·rintro P (B|B)
  ·rw[m];exact q P B
  ·rw[m];exact⟨(k P B).1,(k P B).2,t P B⟩
end
end Go.aw
namespace Go.Proofs.YtjgjkeponbeekaaGreatDoor
section
open Go.aw
variable{a c:Nat}{d:WP}
section
variable {w w':World} {p:Nat} {F D:ZN} {V:bf}
def Ac{n:List (Bx cX)}(b:Row MA.kr 120 w D d a n)(e:∀P,D P->P<w.heap.size):PP 405 #[.slice d a c] w (Ok (qC MA.kr 133 w n)):=
 h_ (wW SF dC b e λg w' f=>Ok.mk f)
def FK(c:cG w p F V)(a:V.entries.length<=20000000):PP 403 #[ZL p] w (Ok (qC AA 133 w V.entries)):=by
 obtain⟨X,Y,c⟩:=c;have j:=c.PJ.row (bytes:=120) dC ba;have H:=j.fj;have Z:=j.len;obtain⟨e,v,I,J⟩:=fl.boxes j;have a8:e.length=V.entries.length:=by rw[<-v];simp
 refine sZ ⟨p,0,rfl,_,_,_,ae c.at' rfl,PC.ok (Ac I λn a=>c.aE n a.1) ?_⟩;rintro _ x ⟨h,f,y,F9,rfl,i,z,K⟩;have k:∀n,aG h=some n->w.heap.size<=n:=λn a=>K n (i.self n a);have L:∀n,aG h=some n->n<x.heap.size:=λn a=>i.aE n (i.self n a);refine⟨_,_,_,rfl,λA M w'=>∃b:Nat,M=b/\b<=f/\A=f-b/\dV MA 133 x h f y e b w',⟨_,0,rfl,Qj _,rfl,dV.start i.alone⟩,?_⟩;rintro A _ _ N ⟨b,rfl,hj,rfl,d⟩;have b0:=d.len;have l:ai w N:=z.new d.keep λn a=>.inr (k n a);have zk:=d.keep.size;refine al.dec (λb1=>?_) (λb2=>?_)
 ·obtain⟨g,rfl⟩:=d.some oM
  have b3:=k g rfl;have O:=L g rfl;have m:e[b]? =some e[b]:=Qq oM;have o:=J e[b] (XY oM);generalize e[b]=P at m o;refine⟨g,0,rfl,oM,oM,ck (es:=aH P.x.ev P.a P.n P.c) (k:=10) (bg _ _ _ _) rfl (λq Q=>?_) (PC.ok (pt (e:=P.x.ev) (o.1.af l) λn a=>by have:=c.aE n a.1;have:=l.size;omega) ?_)⟩
  ·have R:=d.cell rfl m (by show f*13<=aT;unfold aT at H⊢;omega) q
   rw[Qx];have r:q<(aH P.x.ev P.a P.n P.c).length:=Q;rw[Qq r];refine R _ ?_;show(aH P.x.ev P.a P.n P.c++_)[q]? =_;rw[XW r,Qq r]
  rintro _ b4 ⟨s,t,u,G,rfl,S,B,T⟩;refine cx (sF P.x.ev s t u) ⟨rfl,g,0,rfl,oM,oM,?_⟩;rw[Qx];refine(d.af T).step2 (g:=g) rfl m (a':=s) (n':=t) (c':=u) (G:=G) S o.2 (λC E=>⟨by have:=B C E;omega,(B C E).2⟩) O (hd:=aH P.x.ev s t u) (r:=10) rfl dC dC (bg _ _ _ _) λb5 U b6 b7=>⟨_,?_,b+1,an oM,oM,rfl,U⟩
  omega
 ·obtain rfl:b=f:=oM
  obtain⟨Fd,hd,W⟩:=d.done;rw[v]at hd;have z9:=z.size;exact Ok.mk ⟨h,_,y,Fd,rfl,hd,l,λn a=>(W n a).elim (k n) λc=>oM⟩
end
end
section
open Go.aw
def bJ(n:eg):List Value:=[ZH n.group,ZH n.value,ZH n.count]
def eg.Ok(n:eg):Prop:=aM n.group/\aM n.value/\aM n.count
def Kf:ky eg:=flat 3 bJ eg.Ok (λ_=>rfl) (λP a n=>by simp[bJ]at n;rcases n with rfl|rfl|rfl<;>rfl)
def Xc:kQ ZP 51 135 3 24:=⟨kR,kR,dC⟩
variable{Y m:Array Value}{z:FuncId}{e q:Int}{d7:eg}
section
variable {w w':World} {D:ZN} {a:WP} {n c:Nat} {l:List eg}
def Cu(b:Row Kf 24 w D a n l)(d:∀P,D P->P<w.heap.size):PP 215 #[.slice a n c] w (Ok (qC Kf 135 w l)):=
 jK (wW Xc dC b d λf w' e=>Ok.mk e)
def Mc{most:Int}(b:Row Kf 24 w D a n l)(g:∀d,D d->d<w.heap.size)(u:n<=c):
  PP 152 #[.slice a n c,ZH most] w (Ok λh w'=>∃e,h= .tuple #[e,.bool (decide ((max most 0).toNat<l.length))]/\qC Kf 135 w (l.take (max most 0).toNat) e w'):=by
 have v:=b.len;have i:(if 0>most then 0 else most)=max most 0:=by split<;>omega
 refine DE ?_;rw[i];obtain⟨P,f⟩:∃P:Nat,(if(n:Int)<max most 0 then(n:Int)else max most 0)=P:=⟨(if(n:Int)<max most 0 then(n:Int)else max most 0).toNat,by split<;>omega⟩
 rw[f];have j:P=min n (max most 0).toNat:=by split at f<;>omega
 rw[Qx];refine⟨oM,oM,oM,PC.ok (Cu (b.take (m:=P) oM) g) ?_⟩;rintro _ x ⟨k,m,o,p,rfl,q,r,s⟩;refine⟨_,_,_,rfl,Ok.mk ⟨_,?_,k,m,o,p,rfl,?_,r,s⟩⟩
 ·have:decide ((P:Int)<(n:Int))=decide ((max most 0).toNat<l.length):=by rw[decide_eq_decide];omega
  rw[this]
 ·have:l.take (max most 0).toNat=l.take P:=by
   rw[j]
   by_cases t:(max most 0).toNat<=n
   ·rw[Nat.min_eq_right t]
   ·rw[X2 oM,Qz oM,Qz oM]
  rw[this];exact q
def Jq{a k:Nat}(t:a<=20000000)(i:k<=a)(j:enters ZP z=true)(l:∀(b:Nat) d,b<a->ai w d->PP z (m++ #[ZH (b:Int)]++Y) d (Ok λe w'=>e= .bool (decide (k<=b))/\ai d w')):
  PP 150 #[ZH (a:Int),.func (.func z) m Y] w (Ok λe w'=>e= ZH (k:Int)/\ai w w'):=by
 refine Bs ⟨λf b o w'=>∃n P:Nat,b=n/\o=P/\f=P-n/\n<=P/\P<=a/\n<=k/\k<=P/\ai w w',⟨_,0,a,rfl,rfl,rfl,oM,oM,oM,i,aj.refl _⟩,?_⟩;rintro f _ _ _ p ⟨n,P,rfl,rfl,rfl,u,q,r,s,c⟩;refine al.dec (λv=>?_) (λx=>?_)
 ·rw[Vj oM]
  refine⟨_,_,_,rfl,j,PC.ok (l _ p oM c) ?_⟩;rintro _ y ⟨rfl,g⟩;refine⟨_,rfl,al.not (al.dec (λh=>⟨_,?_,n,(n+P)/2,rfl,rfl,rfl,oM,oM,r,h,c.then g⟩) (λh=>⟨_,?_,(n+P)/2+1,P,an oM,rfl,rfl,oM,q,oM,s,c.then g⟩))⟩
  ·omega
  ·omega
 ·obtain rfl:n=k:=oM
  exact Ok.mk ⟨rfl,c⟩
def tH{P:Type}(n:P->Bool):∀l:List P,l.dropWhile n=l.drop (posOf n l)
 |[]=>rfl
 |x::l=>by
  unfold posOf;rw[List.dropWhile_cons,List.takeWhile_cons]
  cases a:n x
  ·simp
  ·simpa[posOf]using tH n l
abbrev uR(l:List eg):Prop:=l.Pairwise λa n=>a.group<n.group
def Uj{l:List eg}(b:uR l){n:Nat}(P:l[n]? =some d7):decide (posOf (λd7=>decide (d7.group<=e)) l<=n)=decide (d7.group>e):=by
 rw[decide_eq_decide]
 induction l generalizing n with
 |nil=>simp at P
 |cons c l d=>
  obtain⟨f,g⟩:=List.pairwise_cons.1 b;unfold posOf;rw[List.takeWhile_cons]
  by_cases a:c.group<=e
  ·rw[Zy a]
   cases n with
   |zero=>
    simp at P;subst P;simp;omega
   |succ n=>
    have:=d g (by simpa using P);unfold posOf at this;simp only[if_true,Xq];omega
  ·rw[Xv a]
   simp only[Bool.false_eq_true,if_false,ZQ,Qj,true_iff]
   cases n with
   |zero=>simp at P;subst P;omega
   |succ n=>
    have:=f d7 (QZ (by simpa using P));omega
def Md(j:Row Kf 24 w D a n l)(u:∀b,D b->b<w.heap.size)(v:n<=c)(x:uR l)(y:n<=20000000):
  PP 90 #[.slice a n c,ZH e,ZH q] w (Ok λz w'=>∃P,z= .tuple #[P,.bool (oE l e (max q 0).toNat).2]/\qC Kf 135 w (oE l e (max q 0).toNat).1 P w'):=by
 have Q:=j.len;have R:=AF (λP:eg=>decide (P.group<=e)) l;refine Gq (PA.mk λS o T k=>PA.mk λU g V A=>⟨_,_,_,ae (g.get k id) rfl,PC.ok (Jq (k:=posOf (λP=>decide (P.group<=e)) l) y oM kR λh B W d=>?_) ?_⟩)
 ·have f:=(o.then g).then d
  obtain⟨b,C,X,E,i,-,F,rfl,-⟩:=(j.af f).el h l[h] (Qq oM);have H:l[h]? =some l[h]:=Qq oM;refine Bn ⟨_,_,_,ae (d.get (g.get k id) id) rfl,b,C,E,oM,oM,_,by rw[Qx];exact F 0 dC,_,ae (d.get A id) rfl,λI J=>Ok.mk ⟨?_,J.keep⟩⟩;rw[Uj x H]
 ·rintro _ B ⟨rfl,d⟩
  have f:=(o.then g).then d;have m:=(j.af f).part (lo:=posOf (λP=>decide (P.group<=e)) l) (hi:=n) (cap:=c) oM (Q4 _) v;rw[Qz oM]at m;have K:Kf.k=3:=rfl;rw[K]at m;refine⟨_,rfl,_,_,_,ae (d.get (g.get k id) id) rfl,oM,oM,?_⟩;rw[Qx];refine PC.ok (Mc (most:=q) m (λb i=>by have:=u b i;have:=f.size;omega) oM) ?_;rintro _ I ⟨_,rfl,p,r,s,L,rfl,M,N,O⟩;have t:l.dropWhile (λP=>decide (P.group<=e))=l.drop (posOf (λP=>decide (P.group<=e)) l):=tH _ l;refine⟨_,_,_,_,rfl,Ok.mk ⟨.slice p r s,?_,p,r,s,L,rfl,?_,f.then N,λb i=>by have:=O b i;have:=f.size;omega⟩⟩
  ·unfold oE;rw[t]
  ·unfold oE;rw[t];exact M
end
def tG(n:eg):Value:=.agg (bJ n).toArray
def Uh(n:eg):iL ZP 135 (bJ n)=true:=kR
def YP(n:eg):TU (ej ZP 135) (.agg (bJ n).toArray)=true:=kR
structure lU (w:World) (p r:Nat) (R:dO):Prop where
 at':w.heap[p]? =some (.cells #[ZH R.p.aZ,ZH R.p.field,ZH R.p.group,ZH R.p.FE,ZH R.p.make,.map (some r)] 269 (0,0))
 map:bQ w r (Value.int .i64) (R.rows.map λx=>(x.1,tG x.2))
 ok:∀x∈R.rows,eg.Ok x.2/\x.2.group=x.1
variable{a c:Nat}{d:WP}{l:ah}{d6:jV}
section
variable {w w':World} {p r:Nat} {R:dO} {T:ZN}
def lU.keep(n:lU w p r R)(P:aj T w w')(a:¬T p)(b:¬T r):lU w' p r R:=⟨P.get n.at' a,n.map.keep P b,n.ok⟩
def lU.af(n:lU w p r R)(P:ai w w'):lU w' p r R:=n.keep P id id
def Qd:PP 106 #[.agg (oI d6).toArray] w (Ok λa w'=>∃p r,a= ZL p/\lU w' p r ⟨d6,[]⟩/\w.heap.size<=p/\w.heap.size<=r/\p<w'.heap.size/\r<w'.heap.size/\ai w w'):=by
 refine Lg (PA.mk λb c i n=>⟨_,_,_,_,_,ae n rfl,ae n rfl,ae n rfl,ae n rfl,ae n rfl,PA.mk λd e j f=>PA.mk λk P l g=>Ok.mk ⟨d.heap.size,b.heap.size,rfl,⟨g,bQ.new (P.get f id),λd6 h=>by cases h⟩,oM,oM,oM,oM,(c.then e).then P⟩⟩)
def Hb(n:jV)(a:ah)(P:Int):Option Int:=if n.group=1 then some a.agg else if n.group=2 then some a.arg else if n.group=3 then some P else none
def Me(h:lU w p r R):PP 244 #[ZL p,kN l d a c,ZH e] w (Ok λi w'=>i= .tuple #[ZH ((Hb R.p l e).getD 0),.bool (Hb R.p l e).isSome]/\ai w w'):=by
 refine vC (PA.mk λj n k g=>⟨p,0,rfl,_,ae (h.af n).at' rfl,al.eN (λP=>⟨_,ae g rfl,Ok.mk ⟨?_,n⟩⟩) (λP=>al.eN (λb=>⟨_,ae g rfl,Ok.mk ⟨?_,n⟩⟩) (λb=>al.eN (λf=>Ok.mk ⟨?_,n⟩) (λf=>Ok.mk ⟨?_,n⟩)))⟩)
 ·unfold Hb;rw[Zx P];rfl
 ·unfold Hb;rw[Zq P,Zx b];rfl
 ·unfold Hb;rw[Zq P,Zq b,Zx f];rfl
 ·unfold Hb;rw[Zq P,Zq b,Zq f];rfl
def Ph(h:lU w p r R){arg:Int}:PP 245 #[ZL p,.agg (bJ d7).toArray,ZH arg] w (Ok λk w'=>k= ZH (mM R.p d7 arg)/\ai w w'):=by
 refine xA (PA.mk λl a o e=>?_);have b:=(h.af a).at';refine⟨_,ae e rfl,p,0,rfl,_,ae b rfl,al.eN (λc=>⟨_,ae e rfl,Ok.mk ⟨?_,a⟩⟩) (λc=>⟨p,0,rfl,_,ae b rfl,al.eN (λd=>⟨_,ae e rfl,Ok.mk ⟨?_,a⟩⟩) (λd=>⟨λj w'=>j=decide (R.p.make=5\/d7.count=1/\(R.p.make=3\/R.p.make=4))/\l=w',?_,?_⟩)⟩)⟩
 ·unfold mM;rw[Zx c]
 ·unfold mM;rw[Zq c,Zx d]
 ·refine⟨p,0,rfl,_,ae b rfl,al.eN (λf=>⟨?_,rfl⟩) (λf=>al.eN (λi=>⟨p,0,rfl,_,ae b rfl,al.eN (λn=>⟨?_,rfl⟩) (λn=>⟨p,0,rfl,_,ae b rfl,?_,rfl⟩)⟩) (λi=>⟨?_,rfl⟩))⟩
  ·rw[Zy (.inl f)];simpa using f
  ·rw[Zy (.inr ⟨i,.inl n⟩)]
  ·by_cases P:R.p.make=4
   ·rw[Zy (.inr ⟨i,.inr P⟩)];simpa using P
   ·rw[Xv (by rintro(h|⟨-,h|h⟩);exact f h;exact n h;exact P h)];simpa using P
  ·rw[Xv (by rintro(h|⟨h,-⟩);exact f h;exact i h)]
 ·rintro j _ _ ⟨m,rfl⟩
  subst m;refine al.dec (λg=>Ok.mk ⟨?_,a⟩) (λg=>⟨p,0,rfl,_,ae b rfl,al.eN (λn=>⟨_,ae e rfl,Ok.mk ⟨?_,a⟩⟩) (λn=>⟨p,0,rfl,_,ae b rfl,al.eN (λP=>⟨_,ae e rfl,Ok.mk ⟨?_,a⟩⟩) (λP=>Ok.mk ⟨?_,a⟩)⟩)⟩)
  ·unfold mM;rw[Zq c,Zq d,Zx g]
  ·have:(if arg<d7.value then arg else d7.value)=min d7.value arg:=by split<;>omega
   unfold mM;rw[Zq c,Zq d,Zq g,Zx n,<-this]
  ·have:(if arg>d7.value then arg else d7.value)=max d7.value arg:=by split<;>omega
   unfold mM;rw[Zq c,Zq d,Zq g,Zq n,Zx P,<-this]
  ·unfold mM;rw[Zq c,Zq d,Zq g,Zq n,Zq P]
end
def Sd:mQ ZP 267 3 135 (tG ⟨0,0,0⟩):=⟨kR,kR⟩
def Nt{P d e:Type}[BEq P](a:d->e)(b:P):∀n:List (P×d),aq (n.map λc=>(c.1,a c.2)) b=(aq n b).map a
 |[]=>rfl
 |(c,f)::n=>by
  simp only[QY];unfold aq;split
  ·rfl
  ·exact Nt a b n
def Nu{b c f:Type}[BEq b](P:c->f)(d:b)(e:c):∀a:List (b×c),aI (a.map λn=>(n.1,P n.2)) d (P e)=(aI a d e).map λn=>(n.1,P n.2)
 |[]=>rfl
 |(n,g)::a=>by
  simp only[QY];unfold aI;split
  ·simp
  ·simp[Nu P d e a]
section
variable {w w':World} {p r:Nat} {R:dO}
def dO.add_def(r:dO)(e:cX)(P:Int):r.add e P=match Hb r.p e.ev P with
  |none=>r
  |some n=>if e.void||e.ev.aZ !=r.p.aZ||e.ev.field !=r.p.field then r else
   {r with rows:=aI r.rows n ⟨n,mM r.p ⟨n,((aq r.rows n).getD ⟨0,0,0⟩).value,qd (((aq r.rows n).getD ⟨0,0,0⟩).count+1)⟩ e.ev.arg,qd (((aq r.rows n).getD ⟨0,0,0⟩).count+1)⟩}:=rfl
def Hx:aM 0:=by unfold aM;omega
def VU{arg:Int}(n:eg.Ok d7)(P:aM arg):aM (mM d6 d7 arg):=by
 obtain⟨b,c,a⟩:=n;unfold mM;split;exact a;split;exact MK _;split;exact P;split
 ·unfold aM at*;omega
 split
 ·unfold aM at*;omega
 ·exact Hx
def PZ(h:lU w p r R)(a1:p≠r){x:cX}(v:x.ev.Ok)(a2:aM e):PP 185 #[ZL p,FF x d a c,ZH e] w (Ok λk w'=>k= .tuple #[]/\lU w' p r (R.add x e)/\aj (·=r) w w'):=by
 have b1:=aA h.at';have b2:=h.map.lt;refine zK (PA.mk λw1 L s1 M=>VV (cs:=aH x.ev d a c) (bg _ _ _ _) M (λa3 k N=>?_) (PC.ok (Me (h.af L)) ?_))
 ·rw[Xz]
  have a4:=(Qv.1 N).1;show(aH x.ev d a c++_).toArray[a3]? =_;simp only[List.getElem?_toArray];rw[XW a4];exact N
 rintro _ O ⟨rfl,Q⟩;have l:=L.then Q;have m:=Q.get M id;have o:=h.af l;have b:R.add x e=R->∀g,cy O g->Ok (λk w'=>k= .tuple #[]/\lU w' p r (R.add x e)/\aj (·=r) w w') (.returned (.tuple #[])) g:=λhe g i=>Ok.mk ⟨rfl,by rw[he];exact o.af i.keep,ai.keep (l.then i.keep)⟩;refine⟨_,_,rfl,al.not (al.mk (λy=>?_) (λy=>b ?_))⟩
 rotate_left
 ·rw[dO.add_def,show Hb R.p x.ev e=none by simpa using y]
 obtain⟨P,f⟩:=Option.isSome_iff_exists.1 y;rw[f,Option.getD_some];have s:∀{q:dO},(if x.void||x.ev.aZ !=R.p.aZ||x.ev.field !=R.p.field then R else
   {R with rows:=aI R.rows P ⟨P,mM R.p ⟨P,((aq R.rows P).getD ⟨0,0,0⟩).value,qd (((aq R.rows P).getD ⟨0,0,0⟩).count+1)⟩ x.ev.arg,qd (((aq R.rows P).getD ⟨0,0,0⟩).count+1)⟩})=q->R.add x e=q:=λ{q} z=>by
  rw[dO.add_def,f];exact z
 refine⟨_,ae m rfl,al.mk (λj=>b (s (by rw[j];rfl))) (λj=>⟨_,ae m rfl,p,0,rfl,_,ae o.at' rfl,al.eO (λA=>b (s ?_)) (λA=>⟨_,ae m rfl,p,0,rfl,_,ae o.at' rfl,λg i=>?_⟩)⟩)⟩
 ·rw[j,show(x.ev.aZ !=R.p.aZ)=true by simpa using A];rfl
 have S:(x.ev.aZ !=R.p.aZ)=false:=by simpa using A
 have t:ai O g:=i.keep;have u:=o.af t;refine al.eO (λB=>b (s (by rw[j,S,show(x.ev.field !=R.p.field)=true by simpa using B];rfl)) g i) (λB=>?_);have a5:(x.ev.field !=R.p.field)=false:=by simpa using B
 have T:aM P:=by
  unfold Hb at f;split at f
  ·cases f;exact v.agg
  split at f
  ·cases f;exact v.arg
  split at f
  ·cases f;exact a2
  ·cases f
 obtain⟨n,C⟩:∃n,n=(aq R.rows P).getD ⟨0,0,0⟩:=⟨_,rfl⟩
 have a6:eg.Ok n:=by
  rw[C]
  cases z:aq R.rows P with
  |none=>exact⟨Hx,Hx,Hx⟩
  |some U=>exact(h.ok _ (cm z)).1
 have a7:(aq (R.rows.map λx=>(x.1,tG x.2)) P).getD (tG ⟨0,0,0⟩)=tG n:=by
  rw[Nt,C];cases aq R.rows P<;>rfl
 refine⟨p,0,rfl,_,ae u.at' rfl,Al Sd lD u.map ?_⟩;rw[a7];refine cx (YP n) ⟨rfl,PA.mk λw4 k4 s4 g4=>aC (Uh n) g4 rfl λw5 k5 s5 g5=>PS.mk g5 (by simp[bJ]) λw6 k6 s6 V=>⟨_,ae V rfl,PS.mk V (by simp[bJ]) λw7 k7 s7 W=>?_⟩⟩;have E:ai g w7:=((k4.new k5 λF H=>.inr oM).new k6 λF H=>.inr oM).new k7 λF H=>.inr oM;have a8:=E.get (t.get m id) id;refine ar (cs:=bJ ⟨P,n.value,qd (n.count+1)⟩) (Uh _) W ⟨_,ae a8 rfl,PC.ok (Ph (u.af E)) ?_⟩;rintro _ w8 ⟨rfl,I⟩;have z8:=I.size;refine⟨_,rfl,PS.mk (I.get W id) (by simp[bJ]) λw9 k9 s9 g9=>λX a9=>?_⟩;have Y:ai w9 X:=a9.keep;have Z:ai g X:=((E.then I).new k9 λF H=>.inr oM).then Y;have J:=u.af Z;have z3:=(l.then t).size;refine⟨p,0,rfl,_,ae J.at' rfl,ar (cs:=bJ ⟨P,mM R.p ⟨P,n.value,qd (n.count+1)⟩ x.ev.arg,qd (n.count+1)⟩) (Uh _) (Y.get g9 id) (dy Sd lD J.map λb3 b0 a0 b4=>Ok.mk ⟨rfl,?_,?_⟩)⟩
 ·rw[s (q:={R with rows:=aI R.rows P ⟨P,mM R.p ⟨P,n.value,qd (n.count+1)⟩ x.ev.arg,qd (n.count+1)⟩}) (by rw[j,S,a5,C];rfl)]
  refine⟨a0.get J.at' a1,?_,λU K=>?_⟩
  ·rw[<-Nu];exact b0
  ·rcases fF K with rfl|K
   ·exact⟨⟨T,VU ⟨T,a6.2.1,MK _⟩ v.arg,MK _⟩,rfl⟩
   ·exact h.ok U K
 ·exact(ai.keep ((l.then t).then Z)).then a0
end
section
variable {w w':World} {p r:Nat} {R:dO}
def NH(e:lU w p r R):PP 221 #[ZL p] w (Ok λf w'=>∃b d,f= ZL b/\lU w' b d R/\b≠d/\w.heap.size<=b/\w.heap.size<=d/\b<w'.heap.size/\d<w'.heap.size/\ai w w'):=by
 refine xz λP h=>?_;have i:ai w P:=h.keep;have t:P.heap.size=w.heap.size:=by rw[h.heap]
 have a:=e.af i;obtain⟨c,n,k,l,m,o⟩:=a.map.at';refine⟨no,p,0,rfl,id,_,_,_,_,_,ae a.at' rfl,ae a.at' rfl,ae a.at' rfl,ae a.at' rfl,ae a.at' rfl,p,0,rfl,_,ae a.at' rfl,PC.ok (φ:=λf w'=>f= .map (some P.heap.size)/\w'=P.alloc (.map c n)) ((AnyW.maps_Clone Tryz.VW r c n P k).mono ?_) ?_⟩
 ·rintro u w' ⟨rfl,q⟩
  exact Ok.mk ⟨rfl,q⟩
 ·rintro _ v ⟨rfl,rfl⟩
  have j:ai P (P.alloc (.map c n)):=aj.alloc _ _;have x:(P.alloc (.map c n)).heap.size=P.heap.size+1:=sM
  refine⟨_,rfl,ai.keep j,PA.mk λy g z s=>⟨ai.keep g,Ok.mk ⟨_,P.heap.size,rfl,⟨s,⟨⟨c,n,g.get (heap_alloc_new P _) id,l,m,o⟩,e.map.tidy⟩,e.ok⟩,?_⟩⟩⟩;refine⟨oM,oM,oM,oM,oM,(i.then j).then g⟩
end
open Go.aw Go.Sort
def oD{b:Type}{f:Nat}{n:b->List Value}{d:b->Prop}{hl h1}{g:World}{D:ZN}:∀{P:List b} {cs:List Value},bV (flat f n d hl h1) g D P cs↔cs=P.flatMap n/\∀x∈P,d x
 |[],cs=>by simp[bV]
 |x::P,cs=>by
  constructor
  ·rintro⟨k,l,rfl,⟨rfl,h⟩,i⟩
   obtain⟨rfl,j⟩:=oD.1 i;exact⟨rfl,λc a=>by rcases Q2.1 a with rfl|a;exact h;exact j c a⟩
  ·rintro⟨rfl,e⟩
   exact⟨n x,P.flatMap n,rfl,⟨rfl,e x (QV ..)⟩,oD.2 ⟨rfl,λc a=>e c (QJ _ a)⟩⟩
section
variable {α:Type} {enc:α->List Value} {K:Nat}
def gA(a:∀P,(enc P).length=K)(n:List α):(n.flatMap enc).length=n.length*K:=by
 induction n with
 |nil=>simp
 |cons P n b=>rw[List.flatMap_cons,QX,b,a,Xq,X7];omega
def lq[Inhabited α](f:0<K)(P:∀c,(enc c).length=K){n:List α}(d:a<n.length*K):(n.flatMap enc)[a]? =(enc n[a/K]!)[a % K]? :=by
 induction n generalizing a with
 |nil=>simp at d
 |cons c n g=>
  rw[List.flatMap_cons]
  by_cases b:a<K
  ·rw[XW (by rw[P];exact b),Nat.div_eq_of_lt b,Nat.mod_eq_of_lt b];rfl
  ·rw[Xq,X7]at d
   rw[X8 (by rw[P];omega),P,g oM];obtain⟨e,rfl⟩:∃e,a=e+K:=⟨a-K,oM⟩
   rw[Nat.add_sub_cancel,Nat.add_div_right _ f,Nat.add_mod_right];simp
def yS[Inhabited α](c:0<K)(b:∀f,(enc f).length=K)(n:List α):(flatK enc K n.toArray).toList=n.flatMap enc:=by
 apply X3;intro P
 by_cases a:P<n.length*K
 ·rw[lq c b a]
  have g:P<(flatK enc K n.toArray).size:=by simpa using a
  have d:=get_flatK enc K n.toArray P (by simpa using a);rw[getElem!_pos _ P g]at d;have e:P % K<(enc n[P/K]!).length:=by rw[b];exact Nat.mod_lt _ c
  rw[Qq (by simpa using a),Qq e]
  congr 1
  rw[Array.getElem_toList,d];rw[getElem!_pos _ _ (by simpa using e)]
  congr 1
  simp
 ·rw[Q7 (by simpa using a),Q7 (by rw[gA b];omega)]
end
instance:Inhabited eg:=⟨⟨0,0,0⟩⟩
def Wd(P:eg):∀a∈bJ P,a.oneCell'=true:=by
 intro b n;simp only[bJ,Q2,List.not_mem_nil,or_false]at n;rcases n with rfl|rfl|rfl<;>rfl
def pN(n:eg):(bJ n).length=3:=rfl
def CO(n P:eg):Int:=if n.group<P.group then-1 else 1
def Au(n P:eg):ltOf CO n P=decide (n.group<P.group):=by
 unfold ltOf CO
 by_cases a:n.group<P.group<;>simp[a]
def Xt:SWO (ltOf CO) where
 irrefl x:=by rw[Au];simp
 trans x y z h1 h2:=by rw[Au]at*;simp at*;omega
 ntrans x y z h1 h2:=by rw[Au]at*;simp at*;omega
variable{f:ZN}{b:World}
def We{a c:eg}:PP 407 #[.agg (bJ a).toArray,.agg (bJ c).toArray] b (Ok λe f=>e= ZH (CO a c)/\G b f):=by
 refine ux (PA.Xr λi d j g=>PA.Xr λk n l h=>⟨_,ae ((n.keep (S:=λ_=>False)).get g id) rfl,_,ae h rfl,al.dec (λP=>Ok.mk ⟨?_,d.then n⟩) (λP=>Ok.mk ⟨?_,d.then n⟩)⟩)
 ·unfold CO;rw[Zx P]
 ·unfold CO;rw[Zq P]
def Pe{m:List eg}(k:aV Kf 135 f b d a c m)(C:m.length<=20000000):
  PP 406 #[.slice d a c,.func (.func 407) #[] #[]] b (Ok λM s=>M= .tuple #[]/\∃E:List eg,E.Perm m/\(E.Pairwise λt N=>¬N.group<t.group)/\aV Kf 135 f s d a c E/\aj (λu=>aG d=some u) b s):=by
 obtain⟨cs,D,y,Z,hD⟩:=k.body;obtain⟨rfl,O⟩:=oD.1 Z;obtain⟨n,z⟩:∃n,n=m:=⟨m,rfl⟩
 rw[<-z]at y O;have F:=k.len dC;have v:n.length=a:=by rw[F,<-z]
 rcases y.cases with⟨rfl,rfl,rfl,h0⟩|⟨g,h,rfl,w,Q,H,R⟩
 ·have hd:n=[]:=QW v
  refine(AnyF.slices_SortFunc_none Tryz.Vg none 0 _ b).mono ?_;rintro A s ⟨rfl,rfl⟩;exact Ok.mk ⟨rfl,m,List.Perm.refl _,by rw[<-z,hd];exact List.Pairwise.nil,k,aj.refl _⟩
 ·have S:Kf.k=3:=rfl
  rw[S]at R H;have a5:flatK bJ 3 n.toArray=(n.flatMap bJ).toArray:=by rw[<-yS (show 0<3 by decide) pN]
  have hH:HoldsK bJ 3 b g 0 n.toArray:=by
   intro i o;rw[size_flatK]at o;simp only[List.size_toArray]at o;have T:i<(n.flatMap bJ).length:=by rw[gA pN];exact o
   refine⟨?_,by simp[World.frozen?,w]⟩;have p:(flatK bJ 3 n.toArray)[i]! =(n.flatMap bJ)[i]:=by
    rw[a5,getElem!_pos _ i (by simpa using T)];simp
   rw[p,Xz];refine ae w ?_;have j:(h.toList.take (a*3))[i]? =some (n.flatMap bJ)[i]:=by rw[R];exact Qq T
   rw[Xw,Zx oM]at j;simpa using j
  have C:=y.row;have I:c<=maxLen:=by
   obtain⟨_,a0,_,U,_,_,_,I,_⟩:=y.row.2.resolve_left (by rintro⟨k,_⟩;cases k);simp only[XX]at U;rw[U.2.2];exact I
  have a6:n.toArray.size<4611686018427387904:=by
   simp only[List.size_toArray,v];omega
  have V:=AnyQ.slices_SortFunc Tryz.Vg 3 (λb=>dE _ _ _ kR ⟨_,Tryz.underlying135⟩ b) (λb=>Tryz.sizeOf135 b) bJ (λ_=>rfl) Wd (CO) Xt 407 #[] g 0 c n.toArray b
   (enters_of Tryz.func407 kR rfl) (λa9 q dk b0 t N=>(We).mono ?_) hH (aA w) a6
  ·rw[show n.toArray.size=a by simpa using v]at V
   refine V.mono ?_;rintro A s ⟨rfl,e,x,q,hp,hs,rfl⟩;obtain⟨p1,p2,W⟩:=hp;have P:e.size=a:=p1.trans (by simpa using v);have X:e.toList.Perm n:=by
    have p:e.extract 0 a=e:=by rw[<-P];exact Array.extract_size
    have j:n.toArray.extract 0 a=n.toArray:=by rw[show a=n.toArray.size by simpa using v.symm];exact Array.extract_size
    rw[p,j]at W;exact W
   have a2:flatK bJ 3 e=(e.toList.flatMap bJ).toArray:=by rw[<-yS (show 0<3 by decide) pN]
   have J:(sortWorldK bJ 3 b g 0 x e q).heap[g]? =some (.cells (putCells id 0 (flatK bJ 3 e) h) 135 (0,0)):=by
    have a7:=aA w;show((Sort.ahead b x).heap.modify g _++q)[g]? =_;rw[Array.getElem?_append_left (by simpa[Sort.ahead]using a7),Array.getElem?_modify,Zx rfl];show Option.map _ b.heap[g]? =_;rw[w];rfl
   have B:aj (λu=>aG (ZM g)=some u) b (sortWorldK bJ 3 b g 0 x e q):=by
    refine⟨rfl,rfl,rfl,?_,λa1 B F=>?_⟩
    ·show b.heap.size<=((Sort.ahead b x).heap.modify g _++q).size
     simp[Sort.ahead]
    ·show((Sort.ahead b x).heap.modify g _++q)[a1]? =_
     rw[Array.getElem?_append_left (by simpa[Sort.ahead]using B),Array.getElem?_modify,Zq (λA=>F (by rw[A];rfl))]
     rfl
   have a3:(putCells id 0 (flatK bJ 3 e) h).size=c*3:=by unfold putCells;rw[Array.size_mapIdx];exact H
   refine Ok.mk ⟨rfl,e.toList,by rw[<-z];exact X,?_,⟨⟨e.toList.flatMap bJ,D,⟨⟨?_,.inr ⟨g,c,_,rfl,Qj _,J,Q,I,a3,?_⟩⟩⟩,oD.2 ⟨rfl,λt hx=>?_⟩,hD⟩,k.self,λu C=>Qk (k.aE u C) B.size⟩,B⟩
   ·rw[List.pairwise_iff_getElem]
    intro Y i hi o a8;have p:=hs Y i (Qj _) a8 (by simpa[P]using o);rw[Au,getElem!_pos _ i (by simpa using o),getElem!_pos _ Y (by simpa using hi)]at p;simpa using p
   ·rw[gA pN,XK,P];rfl
   ·apply X3
    intro r;rw[S,Xw];split
    ·rename_i l
     rw[lq (show 0<3 by decide) pN (by rw[XK,P];exact l),<-lq (show 0<3 by decide) pN (by rw[XK,P];exact l)];unfold putCells;have a4:r<h.size:=by rw[H];exact Qk l (Q0 _ Q)
     rw[Array.getElem?_toList,Array.getElem?_mapIdx,X6 a4];simp only[Option.map_some];have K:r<(flatK bJ 3 e).size:=by rw[size_flatK,P];exact l
     rw[Zx ⟨Qj _,by rw[Xz];exact K⟩,Nat.sub_zero,getElem!_pos _ r K];have:(flatK bJ 3 e)[r]=(e.toList.flatMap bJ)[r]'(by rw[gA pN,XK,P];exact l):=by
      have j:=Zj (·[r]?) a2;simp only[List.getElem?_toArray]at j;rw[X6 K,Qq (by rw[gA pN,XK,P];exact l)]at j;exact XJ j
     rw[this];exact(Qq _).symm
    ·rename_i l
     rw[Q7 (by rw[gA pN,XK,P];omega)]
   ·have L:t∈n:=X.mem_iff.1 hx
    exact O t L
  ·rintro A s ⟨M,rfl,rfl,hG⟩
   exact⟨rfl,hG⟩
end
end Go.Proofs.YtjgjkeponbeekaaGreatDoor
namespace Go.aw
open Go
structure bb (w:World) (F:ZN) (cls:Nat->Nat) (C:Nat->World->(ZN)->Prop):Prop where
 at':∀k,C k w (λb=>F b/\cls b=k)
 aE:∀b,F b->b<w.heap.size
def mr(n:Nat->World->(ZN)->Prop):Prop:=∀P a b G c,n P a G->aj c a b->(∀d,G d->¬c d)->n P b G
section
variable {w w':World} {F T:ZN} {cls:Nat->Nat} {C C2:Nat->World->(ZN)->Prop}
def bb.keep(a:bb w F cls C)(d:mr C)(b:aj T w w')(e:∀n,F n->¬T n):bb w' F cls C:=
 ⟨λc=>d c w w' _ T (a.at' c) b λn P=>e n P.1,λn P=>Qk (a.aE n P) b.size⟩
def bb.af(n:bb w F cls C)(P:mr C)(a:ai w w'):bb w' F cls C:=n.keep P a λ_ _ n=>n
def bb.HA(g:bb w F cls C)(l:mr C){k:Nat}{G':ZN}(f:aj (λn=>F n/\cls n=k) w w')(m:∀n,G' n->F n->cls n=k)(o:∀n,G' n->n<w'.heap.size)(p:C2 k w' G')(q:∀a G,a≠k->C a w' G->C2 a w' G):∃e b,bb w' e b C2/\aj F w w'/\(∀n,e n->((F n/\cls n≠k)\/G' n))/\(∀a,a≠k->(λn=>e n/\b n=a)=λn=>F n/\cls n=a)/\(λn=>e n/\b n=k)=G':=by
 classical
 have h:∀a,a≠k->(λn=>((F n/\cls n≠k)\/G' n)/\(if G' n then k else cls n)=a)=λn=>F n/\cls n=a:=λa d=>by
  funext n
  refine propext ⟨λP=>?_,λP=>?_⟩
  ·by_cases c:G' n
   ·rw[Zx c]at P;exact Zz P.2.symm d
   ·rw[Zq c]at P
    exact⟨(P.1.resolve_right c).1,P.2⟩
  ·have i:cls n≠k:=λr=>d (P.2.symm.trans r)
   rw[Zq λc=>i (m n c P.1)];exact⟨.inl ⟨P.1,i⟩,P.2⟩
 have j:(λn=>((F n/\cls n≠k)\/G' n)/\(if G' n then k else cls n)=k)=G':=by
  funext n
  refine propext ⟨λP=>?_,λP=>⟨.inr P,Zx P⟩⟩
  by_cases c:G' n
  ·exact c
  ·rw[Zq c]at P;exact Zz P.2 (P.1.resolve_right c).2
 refine⟨λn=>(F n/\cls n≠k)\/G' n,λn=>if G' n then k else cls n,⟨λa=>?_,λn P=>?_⟩,f.mono λn _ P=>P.1,λn P=>P,h,j⟩
 ·by_cases d:a=k
  ·subst d
   rw[j];exact p
  ·rw[h a d]
   refine q a _ d (l a w w' _ _ (g.at' a) f λn P s=>d (P.2.symm.trans s.2))
 ·rcases P with P|P
  ·exact Qk (g.aE n P.1) f.size
  ·exact o n P
def bb.fk(c:bb w F cls C)(h:mr C){k:Nat}{G':ZN}(i:aj (λn=>F n/\cls n=k) w w')(e:∀n,G' n->(F n/\cls n=k)\/w.heap.size<=n)(j:∀n,G' n->n<w'.heap.size)(d:C2 k w' G')(l:∀a G,a≠k->C a w' G->C2 a w' G):∃b P,bb w' b P C2/\cu F w b w'/\(∀n,b n->((F n/\cls n≠k)\/G' n))/\(∀a,a≠k->(λn=>b n/\P n=a)=λn=>F n/\cls n=a)/\(λn=>b n/\P n=k)=G':=by
 obtain⟨b,P,f,d,g,m⟩:=c.HA h i (λn o p=>(e n o).elim (·.2) λf=>by have:=c.aE n p;omega) j d l;exact⟨b,P,f,⟨d,λn q=>(g n q).elim (λc=>.inl c.1) λc=>(e n c).imp (·.1) id⟩,g,m⟩
def bb.same(c:bb w F cls C)(e:mr C){k:Nat}(d:aj (λn=>F n/\cls n=k) w w')(f:C2 k w' (λn=>F n/\cls n=k))(g:∀P G,P≠k->C P w' G->C2 P w' G):bb w' F cls C2:=
 ⟨λP=>by
  by_cases a:P=k
  ·subst a;exact f
  ·exact g P _ a (e P w w' _ _ (c.at' P) d λn b h=>a (b.2.symm.trans h.2)),λn b=>Qk (c.aE n b) d.size⟩
def bb.iE(d:bb w F cls C)(e:mr C){k:Nat}{G':ZN}(c:cu (λn=>F n/\cls n=k) w G' w')(f:∀n,G' n->n<w'.heap.size)(g:C2 k w' G')(h:∀a G,a≠k->C a w' G->C2 a w' G):∃b P,bb w' b P C2/\cu F w b w'/\(∀n,b n->((F n/\cls n≠k)\/G' n))/\(∀a,a≠k->(λn=>b n/\P n=a)=λn=>F n/\cls n=a)/\(λn=>b n/\P n=k)=G':=d.fk e c.1 c.2 f g h
def bb.join{G:Nat->ZN}(a:∀n,C n w (G n))(g:∀d e P,G d P->G e P->d=e)(h:∀n P,G n P->P<w.heap.size):∃cls,bb w (λP=>∃n,G n P) cls C:=by
 classical
 refine⟨λP=>if a:∃n,G n P then a.choose else 0,⟨λn=>?_,λP ⟨n,b⟩=>h n P b⟩⟩;have:(λP=>(∃n,G n P)/\(if a:∃n,G n P then a.choose else 0)=n)=G n:=by
  funext P
  refine propext ⟨λ⟨c,f⟩=>?_,λb=>⟨⟨n,b⟩,?_⟩⟩
  ·rw[dif_pos c]at f;exact f▸c.choose_spec
  ·have c:∃n,G n P:=⟨n,b⟩
   rw[dif_pos c];exact g _ _ P c.choose_spec b
 rw[this];exact a n
end
end Go.aw
namespace Go.Proofs.YtjgjkeponbeekaaGreatDoor
open Go.aw
def Xd:ky Nat:=flat 1 (λP=>[ZL P]) (λ_=>True) (λ_=>rfl) (λa b n=>by simp at n;subst n;rfl)
def PW:kQ ZP 197 205 1 8:=⟨kR,kR,dC⟩
structure cH (w:World) (G:ZN) (a:WP) (n c:Nat) (Rs:List dO):Prop where
 body:∃ps:List (Nat×Nat),ps.length=Rs.length/\aV Xd 205 (λb=>aG a=some b) w a n c (ps.map (·.1))/\
  (∀(i j:Nat) (x y:Nat×Nat),ps[i]? =some x->ps[j]? =some y->x.1≠y.2/\(x.2=y.2->i=j))/\(∀x∈ps,G x.1/\G x.2/\aG a≠some x.1/\aG a≠some x.2)/\
  ∀(i:Nat) (x:Nat×Nat) (R:dO),ps[i]? =some x->Rs[i]? =some R->lU w x.1 x.2 R
 self:∀b,aG a=some b->G b
variable{h:Program}{g p:TypeId}{o t:ZR}
section
variable {w w':World} {G G' T:ZN} {a:WP} {n c:Nat} {Rs:List dO}
def cH.keep(b:cH w G a n c Rs)(h:aj T w w')(d:∀P,G P->¬T P):cH w' G a n c Rs:=by
 obtain⟨i,j,k,l,e,m⟩:=b.body;exact⟨⟨i,j,k.keep h λP o=>d P (b.self P o),l,e,λp f q g r=>(m p f q g r).keep h (d _ (e f (QZ g)).1) (d _ (e f (QZ g)).2.1)⟩,b.self⟩
def cH.af(P:cH w G a n c Rs)(b:ai w w'):cH w' G a n c Rs:=P.keep b λ_ _ P=>P
def cH.mono(g:cH w G a n c Rs)(b:∀P,G P->G' P):cH w G' a n c Rs:=by
 obtain⟨h,i,j,k,d,l⟩:=g.body;exact⟨⟨h,i,j,k,λe f=>⟨b _ (d e f).1,b _ (d e f).2.1,(d e f).2.2⟩,l⟩,λP m=>b P (g.self P m)⟩
def cH.len(P:cH w G a n c Rs):n=Rs.length:=by
 obtain⟨e,b,d,-⟩:=P.body;rw[d.len dC,Q8,b]
def cH.nil(w:World):cH w (λ_=>False) none 0 0 []:=⟨⟨[],rfl,(aV.nil w).mono (λP n=>n.elim) (λP n=>by cases n),sM,sM,sM⟩,λP n=>by cases n⟩
def cH.elem(m:cH w G a n c Rs){P:Nat}{o:dO}(u:Rs[P]? =some o):∃f e g,a=ZM f/\w.cell? ⟨f,0+P,none⟩=some (ZL e)/\lU w e g o/\e≠g/\G e/\G g/\G f/\
  ∀w' p,aj (·=g) w w'->lU w' e g p->cH w' G a n c (Rs.set P p):=by
 obtain⟨h,B,v,j,x,y⟩:=m.body;have L:=(Qv.1 u).1;have b:h[P]? =some h[P]:=Qq oM;generalize h[P]=d at b;obtain⟨cs,D,C,E,M⟩:=v.body;have q:=x d (QZ b);obtain⟨rfl,-⟩:=oD.1 E;have F:((h.map (·.1)).flatMap λe=>[Value.pointer (ZM e)])[P]? =some (ZL d.1):=by
  rw[lq (K:=1) dC (λ_=>rfl) be,Nat.div_one,Nat.mod_one,getElem!_pos _ P be];simp[(Qv.1 b).2]
 obtain⟨f,z,H⟩:=C.cell F;refine⟨f,d.1,d.2,z,by rw[Xz];exact H.2,y P d o b u,(j P P d d b b).1,q.1,q.2.1,m.self f (by rw[z];rfl),λw' p A I=>⟨⟨h,by simpa using B,v.keep A λN J r=>q.2.2.2 (r▸J),j,x,λk s K i l=>?_⟩,m.self⟩⟩
 by_cases t:P=k
 ·subst t
  rw[b]at i;cases i
  rw[List.getElem?_set_self oM]at l;cases l
  exact I
 ·rw[List.getElem?_set_ne t]at l
  exact(y k s K i l).keep A (j k P s d i b).1 λr=>t ((j P k d s b i).2 r.symm)
def cH.push(r:cH w G a n c Rs)(H:∀P,G P->P<w.heap.size){e f L:Nat}{M:dO}{W:Nat×Nat}(I:lU w e f M)(N:¬G e)(v:¬G f)(X:e≠f)(Y:kQ h g 205 1 8)(Z:w.heap[L]? =some (.cells #[ZL e] 205 W))(b:Rs.length<=1000)(J:∀k y w' G',cH w' G' k (n+1) y (Rs++[M])->aj G w w'->(∀P,G' P->G P\/P=e\/P=f\/w.heap.size<=P)->(∀P,G' P->P<w'.heap.size)->o (.slice k (n+1) y) w'):
  aJ h (Builtin.append_ #[g,g] p #[.slice a n c,.slice (ZM L) 1 1]) w o t:=by
 obtain⟨l,m,K,h3,z,h5⟩:=r.body;have a1:e<w.heap.size:=aA I.at';have a2:f<w.heap.size:=I.map.lt;refine fK K Y Z (D:=λ_=>False) (x:=e) ⟨rfl,trivial⟩ (λP b=>b.elim) (by unfold aT;simp;omega) (by unfold maxLen;simp;omega) λk y w' F' Q A hF=>?_;have a0:∀P,aG k=some P->aG a=some P\/w.heap.size<=P:=λP b=>(hF P (Q.self P b)).imp id λr=>r.resolve_left id;have s:=Q.alone;have a5:=A.size;have R:∀P,aG k=some P->aG a=some P\/w.heap.size<=P:=a0;have C:∀P,P<w.heap.size->aG a≠some P->aG k≠some P:=λP b m K=>(R P K).elim m oM;have S:aG a≠some e:=λj=>N (r.self e j);have T:aG a≠some f:=λj=>v (r.self f j);refine J k y w' (λP=>(G P\/P=e\/P=f\/aG k=some P)) ⟨⟨l++[(e,f)],by simp[m],by rw[Q3];exact s,λi U x u B F=>?_,λx B=>?_,λi x a3 B q=>?_⟩,λP b=>.inr (.inr (.inr b))⟩ (A.mono λP _ b=>r.self P b) (λP b=>?_) λP b=>?_
 ·have E:∀i x,(l++[(e,f)])[i]? =some x->(l[i]? =some x)\/(i=l.length/\x=(e,f)):=λi x B=>by
   rw[List.getElem?_append]at B;split at B
   ·exact .inl B
   ·rename_i V
    have:i-l.length=0:=by
     rcases Nat.eq_zero_or_pos (i-l.length)with O|O
     ·exact O
     ·rw[Q7 be]at B;cases B
    rw[this]at B;simp at B;exact .inr ⟨oM,B.symm⟩
  rcases E i x B with B|⟨rfl,rfl⟩<;>rcases E U u F with F|⟨rfl,rfl⟩
  ·exact h3 i U x u B F
  ·have d:=z x (QZ B)
   exact⟨λj=>v ((show x.1=f from j)▸d.1),λj=>Zz ((show x.2=f from j)▸d.2.1) v⟩
  ·have d:=z u (QZ F)
   exact⟨λj=>N ((show e=u.2 from j)▸d.2.1),λj=>Zz ((show f=u.2 from j)▸d.2.1) v⟩
  ·exact⟨X,λ_=>rfl⟩
 ·rcases Q6.1 B with B|B
  ·have d:=z x B
   exact⟨.inl d.1,.inl d.2.1,C _ (H _ d.1) d.2.2.1,C _ (H _ d.2.1) d.2.2.2⟩
  ·simp at B;subst B
   exact⟨.inr (.inl rfl),.inr (.inr (.inl rfl)),C _ a1 S,C _ a2 T⟩
 ·rw[List.getElem?_append]at B q
  rw[<-m]at q;split at B
  ·rename_i a4
   rw[Zx a4]at q;have d:=z x (QZ B);exact(h5 i x a3 B q).keep A d.2.2.1 d.2.2.2
  ·rename_i V
   rw[Zq V]at q;have:i-l.length=0:=by
    rcases Nat.eq_zero_or_pos (i-l.length)with O|O
    ·exact O
    ·rw[Q7 be]at B;cases B
   rw[this]at B q;simp at B q;subst B q;exact I.keep A S T
 ·rcases b with b|b|b|b
  ·exact .inl b
  ·exact .inr (.inl b)
  ·exact .inr (.inr (.inl b))
  ·rcases R P b with m|m
   ·exact .inl (r.self P m)
   ·exact .inr (.inr (.inr m))
 ·rcases b with b|b|b|b
  ·have:=H P b;omega
  ·omega
  ·omega
  ·exact s.aE P b
def YV:ky (List dO) where
 k:=2
 rep:=λw D Rs cs=>∃P a n c,cs=[.pointer P,.slice a n c]/\cH w D a n c Rs
 keep:=λ⟨P,a,n,c,b,d⟩ g e=>⟨P,a,n,c,b,d.keep g e⟩
 mono:=λ⟨P,a,n,c,b,d⟩ e=>⟨P,a,n,c,b,d.mono e⟩
 len:=λ⟨P,a,n,c,b,d⟩=>by rw[b];rfl
 one:=λ⟨P,a,n,c,b,d⟩ h f=>by
  rw[b]at f;simp only[Q2,List.not_mem_nil,or_false]at f;rcases f with rfl|rfl<;>rfl
def Ws:kQ ZP 200 199 2 32:=⟨kR,kR,dC⟩
end
def Ki(n:aS)(P:List ah)(a:ah):eA n (P++[a])=(eA n P).add a:=by unfold eA;rw[List.foldl_append];rfl
def Kk(n:aS)(P:List ah)(a:ah):bO n (P++[a])=((bO n P).add a).2:=by unfold bO;rw[List.foldl_append];rfl
def Kj(a:aS)(n:List ah):(eA a n).view=bO a n:=by
 have:∀(n:List ah) (P:kO),(n.foldl kO.add P).view=n.foldl (λc b=>(c.add b).2) P.view:=by
  intro n
  induction n with
  |nil=>intro P;rfl
  |cons b n d=>intro P;rw[List.foldl_cons,List.foldl_cons,d];rfl
 exact this n _
variable{m:Array Value}{A:ZT}{e:Int}{H:List ah}{g0:List dO}{a c:Nat}{d:WP}{b:World}{Q:aS}{d2:bf}{d6:jV}
def HE(c:dj Q=0)(P:List ah):(bO Q P).OK/\(bO Q P).decl=Q:=by
 have:∀(P:List ah) (n:bf),n.OK->(P.foldl (λn a=>(n.add a).2) n).OK/\(P.foldl (λn a=>(n.add a).2) n).decl=n.decl:=by
  intro P
  induction P with
  |nil=>intro n b;exact⟨b,rfl⟩
  |cons a P d=>
   intro n b;obtain⟨e,f⟩:=bf.AB b a;obtain⟨g,h⟩:=d _ e;exact⟨g,h.trans f⟩
 exact this P _ (bf.tN c)
def dO.Wt(P:dO)(a:cX)(n:Int):(P.add a n).p=P.p:=by
 unfold dO.add;dsimp only;split
 ·rfl
 ·split<;>rfl
def Hz(c:aS)(n:List ah):(eA c n).rows.map (·.p)=c.projs:=by
 have:∀(n:List ah) (P:kO),(n.foldl kO.add P).rows.map (·.p)=P.rows.map (·.p):=by
  intro n
  induction n with
  |nil=>intro P;rfl
  |cons a n d=>
   intro P;rw[List.foldl_cons,d];show((P.rows.map λb=>b.add (P.view.add a).1 (tg ((P.view.add a).2.state a.aZ a.agg) b.p)).map (·.p))=_;rw[List.map_map];exact List.map_congr_left λb _=>b.Wt _ _
 refine(this n _).trans ?_;show(c.projs.map λe=>(⟨e,[]⟩:dO)).map (·.p)=_;rw[List.map_map];exact List.map_id _
def qy(n:aS)(P:List ah):(eA n P).rows.length=n.projs.length:=by
 rw[<-Hz n P,Q8]
def kZ(a:aS)(n:Nat)(P:List ah):List (List dO):=(List.range (P.length/n+1)).map λb=>(eA a (P.take (b*n))).rows
section
variable {d:aS} {every:Nat} {l:List ah}
def Ay:(kZ d every l).length=l.length/every+1:=by simp[kZ]
def Qa(n:a<=l.length/every):(kZ d every l)[a]? =some (eA d (l.take (a*every))).rows:=by
 unfold kZ;rw[Q9,List.getElem?_range oM];rfl
def Qe:kZ d every []=[(eA d []).rows]:=by
 unfold kZ;rw[ZQ,Nat.zero_div];simp
def NI(c:0<every)(e:ah):kZ d every (l++[e])=if l.length+1=(l.length/every+1)*every then kZ d every l++[(eA d (l++[e])).rows]else kZ d every l:=by
 have g:=Nat.div_add_mod l.length every;have h:=Nat.mod_lt l.length c;have P:∀n,n<=l.length/every->(l++[e]).take (n*every)=l.take (n*every):=λn a=>by
  have:n*every<=l.length:=Xx (Q0 _ a) (Nat.div_mul_le_self ..);rw[List.take_append_of_le_length this]
 split
 ·rename_i b
  have f:(l.length+1)/every=l.length/every+1:=by rw[b];exact Nat.mul_div_cancel _ c
  unfold kZ;rw[QX,List.length_singleton,f,List.range_succ,Q3]
  congr 1
  ·refine List.map_congr_left λn a=>?_
   rw[P n (by have:=List.mem_range.1 a;omega)]
  ·rw[List.map_singleton,<-b,Qz sM]
 ·rename_i b
  have f:(l.length+1)/every=l.length/every:=by
   have i:(l.length+1)/every<l.length/every+1:=by
    rw[Nat.div_lt_iff_lt_mul c];rw[X7,Nat.one_mul,Nat.mul_comm]at b⊢;omega
   have j:l.length/every<=(l.length+1)/every:=Nat.div_le_div_right oM;omega
  unfold kZ;rw[QX,List.length_singleton,f];refine List.map_congr_left λn a=>?_;rw[P n (by have:=List.mem_range.1 a;omega)]
def NL(P:0<every)(b:a<=l.length/every):(kZ d every l).take (a+1)=kZ d every (l.take (a*every)):=by
 have c:a*every<=l.length:=Xx (Q0 _ b) (Nat.div_mul_le_self ..);unfold kZ;rw[Qy,X2 c,Nat.mul_div_cancel _ P,<-List.map_take,List.take_range,X2 oM];refine List.map_congr_left λe f=>?_;have n:e<=a:=by have:=List.mem_range.1 f;omega
 rw[List.take_take,X2 (Q0 _ n)]
end
structure wQ where
 ta:WP
 tn:Nat
 tc:Nat
 pa:WP
 pn:Nat
 pc:Nat
 every:Nat
 ea:WP
 en:Nat
 ec:Nat
 vp:Nat
 ra:WP
 rn:Nat
 rc:Nat
 qa:WP
 qn:Nat
 qc:Nat
abbrev wQ.cells(n:wQ):Array Value:= #[.slice n.ta n.tn n.tc,.slice n.pa n.pn n.pc,ZH (n.every:Int),.slice n.ea n.en n.ec,ZL n.vp,.slice n.ra n.rn n.rc,.slice n.qa n.qn n.qc]
def Aw(b:Nat)(c:Array Value)(n:wQ)(d:aS)(e:bf)(f:List dO)(g:List ah)(a:List (List dO)):Nat->World->(ZN)->Prop
 |0=>λP G=>G b/\P.heap[b]? =some (.cells c 202 (0,0))
 |1=>λP G=>bt P G d n.ta n.tn n.pa n.pn
 |2=>λP G=>aV ku 63 G P n.ea n.en n.ec g
 |3=>λP G=>cG P n.vp G e
 |4=>λP G=>cH P G n.ra n.rn n.rc f
 |5=>λP G=>aV YV 199 G P n.qa n.qn n.qc a
 |_=>λ_ _=>True
def dR{d:wQ}{c:List (List dO)}:mr (Aw a m d Q d2 g0 H c):=by
 intro k e w' G f n P b
 match k,n with
 |0,n=>exact⟨n.1,P.get n.2 (b a n.1)⟩
 |1,n=>exact bt.keep n P b
 |2,n=>exact aV.keep n P b
 |3,n=>exact cG.keep n P b
 |4,n=>exact cH.keep n P b
 |5,n=>exact aV.keep n P b
 |k+6,n=>trivial
abbrev eu(b:World)(c:ZN)(n:Nat->Nat)(d:Nat)(a:wQ)(e:aS)(f:bf)(g:List dO)(h:List ah)(P:List (List dO)):Prop:=bb b c n (Aw d a.cells a e f g h P)
section
variable {w w':World} {p:Nat} {F T D:ZN} {cls:Nat->Nat} {q:wQ} {d:aS} {V:bf} {Rs:List dO} {l:List ah} {pts:List (List dO)}
def eu.af(n:eu w F cls p q d V Rs l pts)(P:ai w w'):eu w' F cls p q d V Rs l pts:=bb.af n dR P
def eu.bw(n:eu w F cls p q d V Rs l pts):w.heap[p]? =some (.cells q.cells 202 (0,0)):=(n.at' 0).2
def eu.self(n:eu w F cls p q d V Rs l pts):F p/\cls p=0:=(n.at' 0).1
def DY(s:eu w F cls p q d V Rs l pts)(hd:dj d=0)(hT:fw w)(hl:l.length<=20000000){vp:WP}{y:WP}(hr:cH w D y a c g0)(hD:∀n,D n->n<w.heap.size)(hn:g0.length<=8):
  PP 159 #[ZL p,.agg #[.pointer vp,.slice y a c]] w (Ok λT w'=>∃g y a c e G,T= .agg #[ZL g,.slice y a c]/\cG w' g e (bO d l)/\cH w' G y a c g0/\(∀n,e n->w.heap.size<=n)/\(∀n,G n->w.heap.size<=n/\n<w'.heap.size/\¬e n)/\ai w w'):=by
 have U:=s.aE;have g7:=hr.len;refine tJ (PA.mk λt k5 s5 g5=>PA.mk λz k6 s6 g6=>?_);have A:=k5.then k6;have c1:∀{i:World},ai w i->Row ku 96 i (λn=>F n/\cls n=2) q.ea q.en l:=λ{i} u=>((show aV ku 63 (λn=>F n/\cls n=2) w q.ea q.en q.ec l from s.at' 2).af u).row dC ba;have m:∀{i:World},ai w i->PP 79 #[.agg #[.slice q.ta q.tn q.tc,.slice q.pa q.pn q.pc],.slice q.ea q.en q.ec] i (Ok λT w'=>∃p F,T= ZL p/\cG w' p F (bO d l)/\(∀n,F n->i.heap.size<=n)/\ai i w'):=λ{i} u=>
  Hv hd (hT.af u) (show bt i (λn=>F n/\cls n=1) d q.ta q.tn q.pa q.pn from bt.keep (s.at' 1) u λ_ _ s=>s) (λn P=>by have:=U n P.1;have:=u.size;omega) (c1 u) (λn P=>by have:=U n P.1;have:=u.size;omega) hl
 refine⟨λh oo w'=>oo=0/\∃g e,w'.heap[h]? =some (.cells #[ZL g,.slice none 0 0] 199 (0,0))/\cG w' g e (bO d l)/\(∀n,e n->z.heap.size<=n)/\¬e h/\z.heap.size<=h/\ai z w',?_,?_⟩
 ·intro o d9
  have v:ai z o:=d9.keep;have s9:o.heap.size=z.heap.size:=by rw[d9.heap]
  have W:=(s.af (A.then v)).bw;have zp:=U p s.self.1;have nS:¬o.heap.size<=p:=by have:=(A.then v).size;omega
  refine⟨λn=>o.heap.size<=n,p,0,rfl,nS,_,_,_,_,_,_,ae W rfl,ae W rfl,p,0,rfl,nS,_,_,_,ae W rfl,PC.ok (m (A.then v)) ?_,PA.mk λg8 X g9 d3=>⟨ai.keep X,PC.ok (m ((A.then v).then X)) ?_⟩⟩
  ·rintro _ J ⟨g,e,rfl,r,B,Y⟩
   refine⟨_,rfl,ai.keep Y,PA.mk λd4 Z h0 d5=>⟨ai.keep Z,PS.mk d5 sM λh2 d6 h3 d7=>PS.mk d7 sM λd8 e0 h4 e1=>?_⟩⟩;have C:=r.aE;have h5:=Y.size;have f:aj (λn=>n=J.heap.size) d4 d8:=d6.then e0;refine⟨f.mono λn _ b=>by have b:n=J.heap.size:=b;omega,rfl,g,e,e1,(r.af Z).keep f λn P b=>by have b:n=J.heap.size:=b;have:=C n P;omega,λn P=>by have:=B n P;omega,λP=>by have:=C _ P;omega,oM,((v.then Y).then Z).new f λn P=>.inr (by have P:n=J.heap.size:=P;omega)⟩
  ·rintro _ e2 ⟨g,e,rfl,r,B,K⟩
   have e3:=K.get d3 id;have C:=r.aE;have h6:=K.size;refine⟨_,rfl,ai.keep K,PS.mk e3 sM λh7 e4 h8 e5=>PS.mk e5 sM λe6 e7 h9 e8=>?_⟩;have f:aj (λn=>n=o.heap.size) e2 e6:=e4.then e7;refine⟨f.mono λn _ b=>by have b:n=o.heap.size:=b;omega,rfl,g,e,e8,r.keep f λn P b=>by have b:n=o.heap.size:=b;have:=B n P;omega,λn P=>by have:=B n P;omega,λP=>by have:=B _ P;omega,oM,((v.then X).then K).new f λn P=>.inr (by have P:n=o.heap.size:=P;omega)⟩
 rintro h _ _ L ⟨rfl,g,e,E,r,c4,e9,g4,M⟩;have a5:=A.then M;have i0:=M.size;have a3:h<L.heap.size:=aA E;have C:=r.aE;have c5:=M.get (k6.get g5 id) id;have c6:=M.get g6 id;refine⟨_,_,_,ae c5 rfl,λa2 a4 w'=>∃j:Nat,a4=j/\j<=a/\a2=a-j/\∃N H O G,w'.heap[h]? =some (.cells #[ZL g,.slice N H O] 199 (0,0))/\cH w' G N H O (g0.take j)/\(∀n,G n->L.heap.size<=n/\n<w'.heap.size)/\aj (·=h) L w',
  ⟨_,0,rfl,Qj _,rfl,none,0,0,λ_=>False,E,cH.nil _,λn P=>P.elim,aj.refl _⟩,?_⟩
 rintro a2 _ _ I ⟨j,rfl,hj,rfl,N,H,O,G,Q,R,k,x⟩;have i1:=x.size;refine al.dec (λi2=>?_) (λi3=>?_)
 ·have f2:j<g0.length:=oM
  have hx:g0[j]? =some g0[j]:=Qq f2;generalize g0[j]=c2 at hx;obtain⟨a7,pj,rj,ha,a0,hR,a8,a9,b0,-,-⟩:=((hr.af a5).keep x λn P b=>by have b:n=h:=b;have:=hD n P;omega).elem hx;have f3:=R.len;rw[Qy,X2 oM]at f3;refine⟨a7,0,ha,oM,oM,_,by rw[Qx];exact a0,λc7 c8=>⟨λ_=>False,id,?_⟩⟩;have b2:ai I c7:=c8.keep;have i4:c7.heap.size=I.heap.size:=by rw[c8.heap]
  refine⟨_,_,_,ae (b2.get Q id) rfl,PC.ok (NH (hR.af b2)) ?_⟩;rintro _ i5 ⟨p',r',rfl,f4,f6,i6,i7,i8,i9,b3⟩;have j0:=b3.size;refine⟨_,rfl,b3,PA.mk λj1 b4 j2 f8=>⟨b4,?_⟩⟩;have a1:=(b2.then b3).then b4;refine(R.af a1).push (λn P=>by have:=(k n P).2;omega) (f4.af b4) (λP=>by have:=(k _ P).2;omega) (λP=>by have:=(k _ P).2;omega) f6 PW f8 (by rw[Qy];omega) λb1 c3 j3 G3 b6 b5 g1 c9=>⟨_,_,_,rfl,?_⟩
  have j4:=b5.size;have c0:=b5.get (a1.get Q id) λP=>by have:=(k _ P).1;omega
  have a6:∀n,G3 n->L.heap.size<=n:=λn P=>by
   rcases g1 n P with S|S|S|S
   ·exact(k n S).1
   ·omega
   ·omega
   ·omega
  refine PS.mk c0 sM λj5 d0 j6 g2=>⟨_,oM,j+1,an oM,oM,rfl,b1,H+1,c3,G3,g2,?_,λn P=>⟨a6 n P,by have:=c9 n P;omega⟩,?_⟩
  ·rw[Qw,hx]
   exact b6.keep d0 λn P b=>by have b:n=h:=b;have:=a6 n P;omega
  ·exact((x.af a1).new b5 λn P=>.inr (k n P).1).then d0
 ·rw[Qz oM]at R
  have d1:=x.get c6 λb=>by have b:t.heap.size=h:=b;omega
  refine⟨_,_,_,_,ae Q rfl,ae Q rfl,PS.mk d1 sM λj7 b7 j8 g3=>PS.mk g3 sM λb8 b9 j9 d2=>⟨_,_,_,_,ae d2 rfl,ae d2 rfl,Ok.mk ⟨g,N,H,O,e,G,rfl,?_,?_,λn P=>by have:=c4 n P;omega,λn P=>⟨?_,?_,?_⟩,?_⟩⟩⟩
  ·have f:aj (λn=>n=t.heap.size) I b8:=b7.then b9
   exact(r.keep x λn P b=>e9 ((show n=h from b)▸P)).keep f λn P b=>by have b:n=t.heap.size:=b;have:=c4 n P;omega
  ·have f:aj (λn=>n=t.heap.size) I b8:=b7.then b9
   exact R.keep f λn P b=>by have b:n=t.heap.size:=b;have:=k n P;omega
  ·have:=k n P;omega
  ·have:=k n P;omega
  ·intro hf;have:=k n P;have:=C n hf;omega
  ·have f:aj (λn=>n=t.heap.size) I b8:=b7.then b9
   exact(a5.new x λn P=>.inr (by have P:n=h:=P;omega)).new f λn P=>.inr (by have P:n=t.heap.size:=P;omega)
end
section
variable {w w':World} {p:Nat} {F T D:ZN} {cls:Nat->Nat} {q:wQ} {d:aS} {V:bf} {Rs:List dO} {l:List ah} {pts:List (List dO)}
def CV{b:ah}{d:WP}{w:World}{D:ZN}(h:Row aP 8 w D d a b.aN)(s:∀n,D n->n<w.heap.size):
  PP 186 #[kN b d a c] w (Ok λt w'=>∃d a c G,t=kN b d a c/\Row aP 8 w' G d a b.aN/\(∀n,G n->w.heap.size<=n/\n<w'.heap.size)/\ai w w'):=by
 have u:=h.fj;have v:=h.len;refine yZ (PA.mk λz l A e=>PA.mk λB f C i=>⟨_,_,_,ae (f.get e id) rfl,PC.ok (bP (h.af (l.then f)) λn P=>by have:=s n P;omega) ?_⟩);rintro _ E ⟨m,o,p,G,rfl,q,g,j⟩;have e:=g.get (f.get e id) id;have i:=g.get i id;refine⟨_,_,_,rfl,PS.mk e (by simp[aH]) λF k H x=>?_⟩;refine ar (cs:=aH b m o p) (bg _ _ _ _) x (aC (bg _ _ _ _) (k.get i oM) rfl λI r J y=>ar (bg _ _ _ _) y (Ok.mk ⟨m,o,p,G,rfl,?_,?_,?_⟩))
 ·refine(((q.keep k λn P=>?_).keep r λn P=>?_).row (bytes:=8) dC (by rw[<-v];exact u))
  ·have:=j n P;omega
  ·have:=j n P;omega
 ·intro n P
  have:=j n P;have:=q.aE n P;omega
 ·have K:=g.size
  exact((aj.new ((l.then f).then g) k λn P=>.inr oM).new r λn P=>.inr oM)
def eu.store{P:wQ}(n:bb w F cls (Aw p q.cells P d V Rs l pts))(b:aj (·=p) w w')(c:w'.heap[p]? =some (.cells m 202 (0,0))):bb w' F cls (Aw p m P d V Rs l pts):=by
 refine bb.same n dR (k:=0) (b.mono λh _ e=>e▸(n.at' 0).1) ⟨(n.at' 0).1,c⟩ λa G f g=>?_;rcases a with _|_|_|_|_|_|a<;>first|exact g|exact Zz rfl f
def DZ(P:eu w F cls p q d V Rs l pts)(I:dj d=0)(J:fw w)(K:l.length<=20000000)(L:Rs.length<=8)(b2:pts.length*q.every<9223372036854775808)(b3:pts.length<=20000001):
  PP 107 #[ZL p] w (Ok λM w'=>M= .tuple #[]/\∃t u e,eu w' u e p t d V Rs l (if l.length=pts.length*q.every then pts++[Rs]else pts)/\t.every=q.every/\cu F w u w'):=by
 have i:=P.bw;have N:=aV.len (P.at' 2) dC;have O:=aV.len (P.at' 5) dC;have Q:=P.aE;have R:ZG .i64 (((q.qn:Nat):Int)*(q.every:Int))=((pts.length*q.every:Nat):Int):=by
  rw[O,show((pts.length:Nat):Int)*(q.every:Int)=((pts.length*q.every:Nat):Int) by push_cast;rfl,wrap_i64 bc]
 refine tK ⟨p,0,rfl,_,_,_,ae i rfl,p,0,rfl,_,_,_,ae i rfl,p,0,rfl,_,ae i rfl,λS T=>?_⟩;rw[R,N];have j:ai w S:=T.keep;refine al.eN (λb4=>?_) (λb5=>Ok.mk ⟨rfl,q,F,cls,?_,rfl,ai.keep j,λn a=>.inl a⟩)
 rotate_left
 ·rw[Zq oM];exact eu.af P j
 rw[Zx oM];intro v U;have h:ai w v:=j.then U.keep;have c:=eu.af P h;have k:=c.bw;refine⟨λ_=>False,p,0,rfl,id,_,_,_,ae k rfl,p,0,rfl,_,_,_,_,ae k rfl,ae k rfl,PC.ok (DY c I (J.af h) K (c.at' 4) (λn a=>c.aE n a.1) L) ?_⟩;rintro _ b6 ⟨b7,a3,n2,c2,Fv,G,rfl,-,W,-,m,o⟩;refine⟨_,_,_,_,rfl,o,PA.mk λb8 r b9 X=>⟨r,?_⟩⟩;have x:=o.then r;have Y:=eu.af c x;have c1:=h.size;have c3:=o.size;have s:∀n,aG q.qa=some n->F n/\cls n=5:=λn a=>aV.self (P.at' 5) n a;refine fK (c:=YV) (x:=Rs) (Y.at' 5) Ws X (D:=G) ⟨_,_,_,_,rfl,W.af r⟩ (λn a=>⟨by have:=(m n a).2.1;omega,λf=>by have:=Q n (s n f).1;have:=(m n a).1;omega⟩) ba (by unfold maxLen;omega) λy b Z F2 z A b0=>⟨_,_,_,rfl,p,0,rfl,?_⟩
 have a0:¬aG q.qa=some p:=λf=>by have g:=(s p f).2;rw[P.self.2]at g;cases g
 have c4:=A.size;have a1:aj (λn=>F n/\cls n=5) v Z:=(ai.keep x).then (A.mono λn _ a=>s n a);obtain⟨F3,a2,B,C,-,-⟩:=c.fk dR (k:=5) (G':=F2) (C2:=Aw p q.cells {q with qa:=y,qn:=q.qn+1,qc:=b} d V Rs l (pts++[Rs])) a1
  (λn a=>(b0 n a).imp id λP=>P.elim (λP=>(m n P).1) λP=>oM) z.aE z λE G hj hc=>by
   rcases E with _|_|_|_|_|_|E<;>first|exact hc|exact Zz rfl hj
 refine PS.mk (B.at' 0).2 sM λc5 H c6 b1=>Ok.mk ⟨rfl,{q with qa:=y,qn:=q.qn+1,qc:=b},F3,a2,eu.store B H b1,rfl,?_,λn a=>?_⟩
 ·refine((ai.keep h).then C.keep).then (H.mono λn _ f=>f▸P.self.1)
 ·rcases C.new n a with g|g
  ·exact .inl g
  ·exact .inr oM
end
section
variable {w w':World} {p:Nat} {F T D:ZN} {cls:Nat->Nat} {q:wQ} {d:aS} {V:bf} {Rs:List dO} {l:List ah} {pts:List (List dO)}
def qw(V:bf)(n:ah)(Rs:List dO):List dO:=Rs.map λP=>P.add (V.add n).1 (tg ((V.add n).2.state n.aZ n.agg) P.p)
def SX{d:aS}(b:dj d=0)(c:d6∈d.projs):0<=d6.FE:=by
 have P:=(ny b).2.2 d6 c;unfold mP at P;split at P
 ·cases P
 split at P
 ·cases P
 rename_i n
 by_cases a:d6.group=3
 ·rw[a]at n
  simp only[BEq.rfl,Bool.true_and,bne_self_eq_false,Bool.false_and,Bool.or_false,Bool.not_eq_true,Bool.not_eq_false']at n;unfold SR within at n;simp only[QK,Zk]at n;exact n.1.1
 ·have e:(d6.group==3)=false:=by simpa using a
  have f:(d6.group !=3)=true:=by simpa using a
  rw[e,f]at n;simp at n;omega
def D_{V:bf}(P:V.OK)(n:ah):((V.state n.aZ n.agg).getD Ht).cells.length<=8:=by
 have a:=P.len n;have b:=(Ax (ny P.decl).1).2.2.2;have g:(V.decl.at n.aZ).length<=8:=by
  unfold aS.at;split
  ·rw[QQ]
   cases c:V.decl.types[n.aZ.toNat]? with
   |none=>simp
   |some d=>exact(b d (QZ c)).2
  ·simp
 unfold bf.cellsOf at a;unfold bf.state
 cases e:aq V.eQ (n.aZ,n.agg)with
 |none=>simp
 |some f=>simp only[e]at a;show f.cells.length<=8;omega
def XR(w n:World)(p:Nat)(F:ZN)(q:wQ)(d:aS)(V:bf)(Rs:List dO)(l:List ah)(pts:List (List dO))(c:ah)(P e:Nat)(w':World):Prop:=
 e=0/\∃f g h a i,w'.heap[P]? =some (.cells (lz (V.add c).1 f g h).toArray 133 (0,0))/\eu w' a i p q d (V.add c).2 Rs l pts/\(∀b,a b->F b\/n.heap.size<=b)/\aj F n w'/\n.heap.size<=P/\¬a P
def PX(u:eu w F cls p q d V Rs l pts)(hd:dj d=0)(hT:fw b)(g0:ai b w)(g4:∀n,F n->b.heap.size<=n)(hl:l.length+1<=20000000)(k5:V.entries.length<=20000000)(g5:Rs.map (·.p)=d.projs)(k6:pts.length*q.every<9223372036854775808)(k7:pts.length<=20000001){e:ah}{I:WP}(k8:((aq V.done (e.aZ,e.agg,e.field)).getD []).length<=20000000)(hr:Row aP 8 w D I a e.aN)(R:∀n,D n->n<w.heap.size/\¬F n)(he:e.Ok):
  PP 117 #[ZL p,kN e I a c] w (Ok λa5 w'=>a5= .tuple #[]/\∃q' S a0,eu w' S a0 p q' d (V.add e).2 (qw V e Rs) (l++[e]) (if l.length+1=pts.length*q.every then pts++[qw V e Rs]else pts)/\q'.every=q.every/\cu F w S w'):=by
 have T:=u.aE;have q8:=T p u.self.1;have q9:Rs.length=d.projs.length:=by rw[<-g5,Q8]
 have r0:d.projs.length<=8:=(Ax (ny hd).1).2.2.1;refine uQ (PA.mk λe1 b8 r3 g6=>?_);have k9:=eu.af u b8;refine⟨XR w e1 p F q d V Rs l pts e,?_,?_⟩
 ·intro r g7
  have a6:ai e1 r:=g7.keep;have r4:r.heap.size=e1.heap.size:=by rw[g7.heap]
  have e2:=eu.af k9 a6;have a7:=b8.then a6;have g8:=e2.bw;have a1:∀{o:World},ai r o->PP 124 #[ZL q.vp,kN e I a c] o (Ok λa5 w'=>∃I a c G,a5=FF (V.add e).1 I a c/\Row aP 8 w' G I a e.aN/\∃S,cG w' q.vp S (V.add e).2/\cu (λn=>F n/\cls n=3) o S w'/\∀n,G n->o.heap.size<=n/\n<w'.heap.size/\¬S n):=λ{o} U=>
   Hw (show cG o q.vp (λn=>F n/\cls n=3) V from(eu.af e2 U).at' 3) (hT.af (g0.then (a7.then U))) (hr.af (a7.then U)) (λn P=>⟨by have:=(R n P).1;have:=(a7.then U).size;omega,λh=>(R n P).2 h.1⟩) he k8 k5
  have fk:∀{o w2:World} {s:ZN},ai r o->cG w2 q.vp s (V.add e).2->cu (λn=>F n/\cls n=3) o s w2->∃i k,eu w2 i k p q d (V.add e).2 Rs l pts/\(∀n,i n->F n\/s n)/\(∀n,i n->F n\/o.heap.size<=n)/\aj F o w2:=λ{o w2 s} U W v=>by
   obtain⟨i,k,X,J,m,-⟩:=(eu.af e2 U).iE dR (k:=3) (G':=s) (C2:=Aw p q.cells q d (V.add e).2 Rs l pts) v W.aE W λf G Y hc=>by
    rcases f with _|_|_|_|_|_|f<;>first|exact hc|exact Zz rfl Y
   exact⟨i,k,X,λn P=>(m n P).imp (·.1) id,J.new,J.keep⟩
  have nS:¬((F p/\cls p=3)\/r.heap.size<=p):=by
   rintro(⟨-,g⟩|g)
   ·rw[u.self.2]at g;cases g
   ·omega
  have b9:¬((F w.heap.size/\cls w.heap.size=3)\/r.heap.size<=w.heap.size):=by
   rintro(⟨g,-⟩|g)
   ·have:=T _ g;omega
   ·omega
  refine⟨λn=>(F n/\cls n=3)\/r.heap.size<=n,p,0,rfl,nS,_,ae g8 rfl,b9,ar (bg e I a c) (a6.get g6 id) ⟨PC.ok (a1 (aj.refl _)) ?_,PA.mk λr5 c2 r6 l0=>⟨ai.keep c2,PC.ok (a1 c2) ?_⟩⟩⟩
  ·rintro _ e3 ⟨y,z,A,G1,rfl,-,s,W,v,-⟩
   obtain⟨i,k,X,g9,m,kF⟩:=fk (aj.refl _) W v;have r7:=v.keep.size;have h0:=X.aE;refine cx (PY _ y z A) ⟨rfl,v.keep.mono λn _ P=>.inl P,PA.mk λr8 e4 r9 l3=>⟨ai.keep e4,aC (mu _ y z A) l3 rfl λs0 e5 s1 l4=>⟨e5.mono λn _ e=>.inr (by have e:n=e3.heap.size:=e;omega),rfl,y,z,A,i,k,l4,?_,λn P=>?_,?_,oM,λh=>by have:=h0 _ h;omega⟩⟩⟩
   ·exact bb.keep (eu.af X e4) dR e5 λn P e=>by have e:n=e3.heap.size:=e;have:=h0 n P;omega
   ·rcases m n P with g|g
    ·exact .inl g
    ·exact .inr oM
   ·exact(((ai.keep a6).then kF).af e4).new e5 λn P=>.inr (by have P:n=e3.heap.size:=P;omega)
  ·rintro _ s2 ⟨y,z,A,G1,rfl,-,s,W,v,-⟩
   obtain⟨i,k,X,g9,m,kF⟩:=fk c2 W v;have s3:=v.keep.size;have nf:¬i r.heap.size:=λh=>by
    rcases m _ h with g|g
    ·have:=T _ g;omega
    ·omega
   have l5:=kF.get l0 λh=>by have:=T _ h;omega
   refine cx (PY _ y z A) ⟨rfl,v.keep.mono λn _ P=>.inl P,aC (mu _ y z A) l5 rfl λs4 e6 s5 l6=>⟨e6.mono λn _ e=>.inr (by have e:n=r.heap.size:=e;omega),rfl,y,z,A,i,k,l6,?_,λn P=>?_,?_,oM,nf⟩⟩
   ·exact bb.keep X dR e6 λn P e=>by have e:n=r.heap.size:=e;exact nf (e▸P)
   ·rcases m n P with g|g
    ·exact .inl g
    ·exact .inr oM
   ·exact(((ai.keep a6).then (ai.keep c2)).then kF).new e6 λn P=>.inr (by have P:n=r.heap.size:=P;omega)
 rintro xb _ _ K ⟨rfl,xa,xn,xc,i,k,gx,Z,m,c3,s6,l7⟩;have h2:=c3.get g6 λh=>by have:=T _ h;omega
 have h3:=(hr.af b8).keep c3 λn P=>(R n P).2;have a8:=Z.aE;have s7:=c3.size;have xw:=aA gx;have a9:aj F w K:=(ai.keep b8).then c3;have p8:ai b K:=g0.new a9 λn P=>.inr (g4 n P);obtain⟨j,hS⟩:∃j,j=(V.add e).2.state e.aZ e.agg:=⟨_,rfl⟩
 have s8:(j.getD Ht).cells.length<=8:=by rw[hS];exact D_ (show(V.add e).2.OK from(show cG K q.vp (λn=>i n/\k n=3) (V.add e).2 from Z.at' 3).1) e
 refine⟨λsb so w'=>so=0/\∃sa sn sc G2,w'.heap[sb]? =some (.cells #[ZH (j.getD Ht).version,.slice sa sn sc] 49 (0,0))/\Row gB 32 w' G2 sa sn (j.getD Ht).cells/\(∀n,G2 n->K.heap.size<=n/\n<w'.heap.size)/\K.heap.size<=sb/\ai K w',?_,?_⟩
 ·intro B h4
  have c4:ai K B:=h4.keep;have s9:B.heap.size=K.heap.size:=by rw[h4.heap]
  have e7:=eu.af Z c4;have h5:=e7.bw;have d4:=c4.get h2 id;have nS:¬B.heap.size<=p:=by have:=a8 p Z.self.1;omega
  have b9:¬B.heap.size<=w.heap.size:=oM
  refine⟨λn=>B.heap.size<=n,p,0,rfl,nS,_,ae h5 rfl,b9,_,ae d4 rfl,b9,_,ae d4 rfl,PC.ok (oH (e7.at' 3)) ?_,PA.mk λt0 e8 t1 l8=>⟨ai.keep e8,PC.ok (oH ((eu.af e7 e8).at' 3)) ?_⟩⟩
  ·rintro _ c5 ⟨ca,cn,cc,G,rfl,N,L,e9⟩
   have t2:=e9.size;have c6:=N.aE;rw[<-hS]at N⊢;refine⟨_,_,_,_,_,rfl,ai.keep e9,PA.mk λl9 f2 t3 m0=>⟨ai.keep f2,PS.mk m0 sM λt4 m1 t5 m2=>PS.mk m2 sM λm3 m4 t6 m5=>?_⟩⟩;have O:aj (λn=>n=c5.heap.size) l9 m3:=m1.then m4;refine⟨O.mono λn _ e=>by have e:n=c5.heap.size:=e;omega,rfl,ca,cn,cc,G,m5,((N.af f2).keep O λn P e=>by have e:n=c5.heap.size:=e;have:=c6 n P;omega).row dC ba,λn P=>⟨by have:=L n P;omega,by have:=c6 n P;omega⟩,oM,((c4.then e9).then f2).new O λn P=>.inr (by have P:n=c5.heap.size:=P;omega)⟩
  ·rintro _ m6 ⟨ca,cn,cc,G,rfl,N,L,c7⟩
   have t7:=c7.size;have c6:=N.aE;have m7:=c7.get l8 id;rw[<-hS]at N⊢;refine⟨_,_,_,_,_,rfl,ai.keep c7,PS.mk m7 sM λt8 m8 t9 m9=>PS.mk m9 sM λn0 n2 u0 n3=>?_⟩;have O:aj (λn=>n=B.heap.size) m6 n0:=m8.then n2;refine⟨O.mono λn _ e=>by have e:n=B.heap.size:=e;omega,rfl,ca,cn,cc,G,n3,(N.keep O λn P e=>by have e:n=B.heap.size:=e;have:=L n P;omega).row dC ba,λn P=>⟨by have:=L n P;omega,by have:=c6 n P;omega⟩,oM,((c4.then e8).then c7).new O λn P=>.inr (by have P:n=B.heap.size:=P;omega)⟩
 rintro sb _ _ h6 ⟨rfl,sa,sn,sc,G2,gs,n4,n8,u1,Q⟩;have c8:=eu.af Z Q;have h7:=c8.bw;have u2:=Q.size;have h8:bt h6 (λn=>i n/\k n=1) d q.ta q.tn q.pa q.pn:=c8.at' 1;have p9:=h8.FG.len;have q0:=c8.aE;have h9:=Q.get gx id;obtain⟨C,h⟩:∃C:dO->dO,C=λx=>x.add (V.add e).1 (tg ((V.add e).2.state e.aZ e.agg) x.p):=⟨_,rfl⟩
 have g2:=aA gs;refine⟨p,0,rfl,_,_,_,ae h7 rfl,λd5 b0 w'=>∃f:Nat,b0=f/\f<=q.pn/\d5=q.pn-f/\eu w' i k p q d (V.add e).2 ((Rs.take f).map C++Rs.drop f) l pts/\aj i h6 w',⟨_,0,rfl,Qj _,rfl,by simpa using c8,aj.refl _⟩,?_⟩;rintro d5 _ _ E ⟨f,rfl,Y,rfl,t,H⟩;have u3:=H.size;have d6:=H.get gs λh=>by have:=a8 _ h;omega
 have g3:=n4.keep H λn P h=>by have:=a8 _ h;have:=(n8 n P).1;omega
 have i0:=H.get h9 l7;have q1:=t.bw;refine al.dec (λu4=>?_) (λu5=>?_)
 ·have i1:f<d.projs.length:=oM
  have hx:d.projs[f]? =some d.projs[f]:=Qq i1;have i2:d.projs[f]∈d.projs:=XY i1;generalize d.projs[f]=x at hx i2;obtain⟨n,h1,es,b1,i9,j1,b2,rfl,d7⟩:=(show bt E (λn=>i n/\k n=1) d q.ta q.tn q.pa q.pn from t.at' 1).FG.el f x hx;have n9:=SX hd i2;refine⟨n,h1,b1,oM,oM,ck (es:=oI x) (k:=5) (qx x) rfl (λb0 ht=>by rw[Qx];exact b2 b0 ht) (PA.mk λu6 i3 u7 o0=>aC (qx x) o0 rfl λi4 i5 u9 i6=>⟨λj2 w'=>j2=tg j x/\aM (tg j x)/\i4=w',?_,?_⟩)⟩
  ·have b3:ai E i4:=i3.new i5 λn P=>.inr (by have P:n=E.heap.size:=P;omega)
   have d8:=g3.af b3;have v0:=d8.len;have a4:tg j x=(((j.getD Ht).cells[x.FE.toNat]?).map (·.n)).getD 0:=by
    cases j<;>rfl
   refine⟨_,ae i6 rfl,_,_,_,ae (b3.get d6 id) rfl,al.dec (λi7=>?_) (λi7=>⟨?_,?_,rfl⟩)⟩
   ·obtain⟨bi,f4⟩:∃bi:Nat,x.FE=bi:=⟨x.FE.toNat,oM⟩
    obtain⟨cb,co,v1,v2,v3,o1,v4,v5,o2,-,-,i8,-⟩:=nz d8 (i:=bi) oM;refine⟨_,_,_,ae (b3.get d6 id) rfl,_,ae i6 rfl,cb,co,o1,n9,i7,_,by rw[f4,Qx];exact o2,?_,?_,rfl⟩
    ·rw[a4,f4,Qx,QQ,Qq (show bi<(j.getD Ht).cells.length by omega)];rfl
    ·rw[a4,f4,Qx,Qq (show bi<(j.getD Ht).cells.length by omega)]
     rw[QQ,Qq (show bi<(j.getD Ht).cells.length by omega)]at i8;exact i8
   ·rw[a4,Q7 oM];rfl
   ·rw[a4,Q7 oM];exact Hx
  ·rintro _ _ _ ⟨rfl,j4,rfl⟩ o3 o4
   have b4:ai E o3:=(i3.new i5 λn P=>.inr (by have P:n=E.heap.size:=P;omega)).then o4.keep;have c9:=eu.af t b4;have o5:((Rs.take f).map C++Rs.drop f)[f]? =Rs[f]? :=by
    rw[X8 be];simp[Qy,X2 (show f<=Rs.length by omega)]
   have d0:Rs[f]? =some Rs[f]:=Qq oM;have d9:Rs[f].p=x:=by
    have:=Zj (·[f]?) g5;simp only[Q9,d0,hx,Option.map_some,Q1]at this;exact this
   generalize Rs[f]=b5 at d0 d9;obtain⟨rg,pj,rj,o6,o7,hR,j5,v6,j0,-,b6⟩:=cH.elem (c9.at' 4) (o5.trans d0);have o8:=cH.len (c9.at' 4);rw[QX,Q8,Qy,XZ]at o8;have j6:=c9.bw;refine⟨p,0,rfl,_,_,_,ae j6 rfl,rg,0,o6,oM,oM,_,by rw[Qx];exact o7,ar (mu _ xa xn xc) (b4.get i0 id) (PC.ok (PZ hR j5 (x:=(V.add e).1) he j4) ?_)⟩;rintro _ o9 ⟨rfl,p0,f8⟩;have fO:((Rs.take f).map C++Rs.drop f).set f (b5.add (V.add e).1 (tg j x))=(Rs.take (f+1)).map C++Rs.drop (f+1):=by
    have j7:((Rs.take f).map C).length=f:=by simp;omega
    rw[Qw,d0,Q3,XQ,List.set_append,Zq oM,j7,Nat.sub_self,X4 (show f<Rs.length by omega)];have p1:C b5=b5.add (V.add e).1 (tg j x):=by rw[h,hS,<-d9]
    rw[<-p1];rfl
   have j3:=b6 o9 _ f8 p0;rw[fO]at j3;refine⟨rfl,_,oM,f+1,an oM,oM,rfl,?_,H.then ((ai.keep b4).then (f8.mono λn _ e=>?_))⟩
   ·refine bb.same c9 dR (k:=4) (f8.mono λn _ e=>by have e:n=rj:=e;rw[e];exact j0) j3 λf G Y hc=>by
     rcases f with _|_|_|_|_|_|f<;>first|exact hc|exact Zz rfl Y
   ·have e:n=rj:=e;rw[e];exact j0.1
 have j8:(Rs.take f).map C++Rs.drop f=qw V e Rs:=by
  rw[Qz oM,List.drop_eq_nil_of_le oM,List.append_nil,h];rfl
 rw[j8]at t;intro b7 e0;have a2:ai E b7:=e0.keep;have q2:b7.heap.size=E.heap.size:=by rw[e0.heap]
 have k0:=eu.af t a2;have k1:=k0.bw;have p2:¬i w.heap.size:=λh=>by
  rcases m _ h with g|g
  ·have:=T _ g;omega
  ·omega
 have k2:=a2.get (H.get (Q.get h2 id) p2) id;have nD:∀n,D n->¬i n:=λn P h=>by
  rcases m _ h with g|g
  ·exact(R n P).2 g
  ·have:=(R n P).1;omega
 have k3:=((h3.af Q).keep H nD).af a2;have v7:=aV.len (t.at' 2) dC;have v8:aj F w b7:=((a9.af Q).new H λn P=>(m n P).imp id oM).af a2;refine⟨λ_=>False,p,0,rfl,id,_,_,_,ae k1 rfl,ar (bg e I a c) k2 (PC.ok (CV k3 λn P=>by have:=(R n P).1;omega) ?_)⟩;rintro _ q3 ⟨y,z,A,G,rfl,p3,L,c0⟩;refine⟨_,_,_,_,_,_,_,_,_,_,_,_,rfl,c0,PA.mk λq4 c1 q5 k4=>⟨c1,?_⟩⟩;have f0:=(a2.then c0).then c1;have l1:=eu.af t f0;have q6:=c0.size;have l2:=t.aE;have f1:∀n,aG q.ea=some n->i n/\k n=2:=λn P=>aV.self (t.at' 2) n P;refine fK (c:=ku) (x:=e) (l1.at' 2) Kh k4 (D:=G) ⟨y,z,A,rfl,p3.af c1,he⟩ (λn P=>⟨by have:=(L n P).2;omega,λee=>by have:=l2 n (f1 n ee).1;have:=(L n P).1;omega⟩) ba (by unfold maxLen;omega) λa' M q7 F2 f3 f5 p4=>⟨_,_,_,rfl,p,0,rfl,?_⟩
 have r1:=f5.size;obtain⟨s,a3,j9,f6,n1,-⟩:=t.fk dR (k:=2) (G':=F2) (C2:=Aw p q.cells {q with ea:=a',en:=q.en+1,ec:=M} d (V.add e).2 (qw V e Rs) (l++[e]) pts) ((ai.keep f0).then (f5.mono λn _ P=>f1 n P))
  (λn P=>(p4 n P).imp id λu=>u.elim (λu=>by have:=(L n u).1;omega) λu=>oM) f3.aE f3 λf G Y hc=>by
   rcases f with _|_|_|_|_|_|f<;>first|exact hc|exact Zz rfl Y
 refine PS.mk (j9.at' 0).2 sM λd1 f7 r2 n5=>?_;have n6:eu d1 s a3 p {q with ea:=a',en:=q.en+1,ec:=M} d (V.add e).2 (qw V e Rs) (l++[e]) pts:=eu.store j9 f7 n5;have f9:∀n,s n->F n\/w.heap.size<=n:=λn P=>by
  rcases f6.new n P with g|g
  ·exact(m n g).imp id oM
  ·exact .inr oM
 have n7:aj i E d1:=f6.keep.then (f7.mono λn _ ee=>by have ee:n=p:=ee;rw[ee];exact Z.self.1);have p5:aj F w E:=(a9.af Q).new H λn P=>(m n P).imp id oM;have d2:aj F w d1:=p5.new n7 λn P=>(m n P).imp id oM;refine PC.ok (DZ n6 hd (hT.af (g0.new d2 λn P=>.inr (g4 n P))) be (by unfold qw;rw[Q8];omega) k6 k7) ?_;rintro _ u8 ⟨rfl,q',F4,p6,p7,d3,g1⟩;refine⟨rfl,Ok.mk ⟨rfl,q',F4,p6,?_,d3,d2.new g1.keep f9,λn P=>?_⟩⟩
 ·simpa using p7
 ·rcases g1.new n P with g|g
  ·exact f9 n g
  ·have:=d2.size;exact .inr oM
end
def td:lx:=⟨[],[],[],[],[(1,⟨[0,0,2,4,8,0,0,64,128,256,544,1040,4095,8191,12287],[32767,32767,32765,32763,32759,32767,32767,32703,32639,32511,32223,31727,32766,28671,22527],[0,0,0,0,1,0,0,0,0,1,0,0,0,0,2]⟩)]⟩
def sC(y:(dr d λz B=>(rI b (ad z (B+2)) λC=>PR_ (eq_ .quo 3 (.tmp 5) (.tmp 9) (.ii e) (.ii C)) b (kI_ λn D=>(∀P,cy D P->(dr d λE F=>(rS P (ad E (F+3)) λG a3 f=>(dr d λH I=>(rI P (ad H (I+2)) λc=>((0:Int)<=(ZG .i64 (n*c))/\((ZG .i64 (n*c)):Int)<=(f:Int)/\(dr d λJ K=>PS P (ad J (K+3)) (.slice G (Int.toNat (ZG .i64 (n*c))) f) λg=>(dr d λL M=>(rS g (ad L (M+6)) λN h i=>((0:Int)<=(ZG .i64 (n+1))/\((ZG .i64 (n+1)):Int)<=(h:Int)/\PR_ (Builtin.clear_ #[200] 0 #[.slice (dd N (Int.toNat (ZG .i64 (n+1))) i 2) (h-Int.toNat (ZG .i64 (n+1))) (i-Int.toNat (ZG .i64 (n+1)))]) g (λa4 j=>(dr d λO Q=>(rS j (ad O (Q+6)) λR a5 k=>((0:Int)<=(ZG .i64 (n+1))/\((ZG .i64 (n+1)):Int)<=(k:Int)/\(dr d λS T=>PS j (ad S (T+6)) (.slice R (Int.toNat (ZG .i64 (n+1))) k) λa=>(dr d λU V=>(rS a (ad U (V+6)) λW X a6=>(ix_ W n X λl m=>(∃o p q r,a.cell? (ad l (m+Int.toNat n*2))=some (.pointer o)/\a.cell? (ad l (m+Int.toNat n*2+1))=some (.slice p q r)/\PC_ 159 #[.pointer d,.agg #[.pointer o,.slice p q r]] a (λY Z=>∃s t u v,Y= .agg #[.pointer s,.slice t u v]/\(dr d λw x=>PS Z (ad w (x+4)) (.pointer s) λa1=>PS a1 (ad w (x+4+1)) (.slice t u v) λa2=>rt A ((.tuple #[])) a2)) (pE A)))))))))) (pV A)))))))))))) (pV A)))):PP 116 #[.pointer d,.ii e] b A:=DC td Tryz.func116 rfl y
def rY(P:eg):∀n,(nu P n).Perm (P::n)
 |[]=>List.Perm.refl _
 |y::n=>by
  unfold nu;split
  ·exact List.Perm.refl _
  ·exact((rY P n).cons y).trans (List.Perm.swap P y n)
def xW(n:List eg):(n.foldr nu []).Perm n:=by
 induction n with
 |nil=>exact List.Perm.refl _
 |cons P n a=>exact(rY P _).trans (a.cons P)
def yI{b:eg}:∀{P:List eg},uR P->(∀y∈P,y.group≠b.group)->uR (nu b P)
 |[],_,_=>by simp[nu,uR]
 |y::P,d,e=>by
  unfold nu;have c:=List.pairwise_cons.1 d;have g:=e y (QV ..);split
  ·rename_i f
   refine List.pairwise_cons.2 ⟨λa n=>?_,d⟩;rcases Q2.1 n with rfl|n
   ·exact f
   ·have:=c.1 a n;omega
  ·rename_i h
   refine List.pairwise_cons.2 ⟨λa n=>?_,yI c.2 λa n=>e a (QJ _ n)⟩;rcases Q2.1 ((rY b P).mem_iff.1 n)with rfl|n
   ·omega
   ·exact c.1 a n
def EW:∀{n:List eg},(n.map (·.group)).Nodup->uR (n.foldr nu [])
 |[],_=>List.Pairwise.nil
 |x::n,P=>by
  rw[QY,List.nodup_cons]at P;refine yI (EW P.2) λa b c=>P.1 ?_;rw[<-c];exact Xk.2 ⟨a,(xW n).mem_iff.1 b,rfl⟩
def yJ:∀{a P:List eg},(a.Pairwise λx b=>¬b.group<x.group)->uR P->a.Perm P->a=P
 |[],P,_,_,n=>by have:=n.length_eq;cases P;rfl;simp at this
 |x::a,[],_,_,n=>by have:=n.length_eq;simp at this
 |x::a,b::P,f,g,n=>by
  have d:=List.pairwise_cons.1 f;have e:=List.pairwise_cons.1 g;have i:x=b:=by
   rcases Q2.1 (n.mem_iff.1 (QV ..))with h|h
   ·exact h
   rcases Q2.1 (n.mem_iff.2 (QV ..))with c|c
   ·exact c.symm
   have:=e.1 x h;exact Zz this (d.1 b c)
  subst i;rw[yJ d.2 e.2 n.cons_inv]
section
variable {w w':World} {p r:Nat} {R:dO}
def lU.VR(a:lU w p r R):((R.rows.map (·.2)).map (·.group)).Nodup:=by
 have P:=a.map.tidy;unfold Tidy at P;rw[List.map_map]at P⊢;have:R.rows.map ((·.group)∘(·.2))=R.rows.map ((·.1)∘λn=>(n.1,tG n.2)):=List.map_congr_left λn b=>(a.ok n b).2;rw[this];exact P
def lU.y_(n:lU w p r R):uR R.list:=EW n.VR
def NO(f:lU w p r R)(P:R.rows.length<=20000000):PP 404 #[ZL p] w (Ok (qC Kf 135 w R.list)):=by
 refine xD ⟨p,0,rfl,_,ae f.at' rfl,mapRange Sd f.map λw6 N O s6=>?_⟩;refine⟨λz i j k w'=>∃(left:List (Int×eg)) (a:List eg) (h:ZN),z=left.length/\cT w' w.heap.size r (Value.int .i64) (R.rows.map λb=>(b.1,tG b.2)) (left.map λb=>(b.1,tG b.2))/\(∀b∈left,eg.Ok b.2)/\
  (a++left.map (·.2)).Perm (R.rows.map (·.2))/\aV Kf 135 h w' i j k a/\(∀n,h n->w.heap.size<n)/\ai w w',⟨_,R.rows,[],λ_=>False,rfl,N,λb l=>(f.ok b l).1,List.Perm.refl _,aV.nil _,λn P=>P.elim,O⟩,?_⟩
 rintro z i j k _ A ⟨left,a,h,rfl,B,C,m,d,e,o⟩;have q:a.length+left.length=R.rows.length:=by have:=m.length_eq;simpa using this
 have b3:=d.len dC;refine ot B (λQ=>.inl ⟨rfl,?_⟩) (λa3 a4 l1 l2 s S T U V b4=>.inr ⟨_,_,rfl,rr U ?_⟩)
 ·have W:left=[]:=by simpa using Q
  subst W;refine PC.ok (Pe d (by simp at q;omega)) ?_;rintro _ b5 ⟨rfl,X,t,u,v,Y⟩;have Z:X=R.list:=yJ u f.y_ ((t.trans (by simpa using m)).trans (xW _).symm);subst Z;exact⟨rfl,Ok.mk ⟨i,j,k,h,rfl,v,o.new Y λn P=>.inr (by have:=e n (d.self n P);omega),λn P=>by have:=e n P;omega⟩⟩
 ·obtain⟨E,a5,rfl,rfl,l⟩:=List.map_eq_append_iff.1 S
  obtain⟨b,F,rfl,H,rfl⟩:=List.map_eq_cons_iff.1 l;simp only[Prod.mk.injEq]at H;obtain⟨rfl,rfl⟩:=H;have a0:=C b sM;have b6:=o.size;have b2:w.heap.size<A.heap.size:=B.lt;refine⟨_,_,_,_,rfl,PA.mk λb7 I b8 a9=>aC (Uh b.2) a9 rfl λb9 J c1 x=>⟨_,_,_,ae x rfl,ae x rfl,ae x rfl,PA.mk λwP L c2 b0=>?_⟩⟩;have y:aj (λn=>n=w.heap.size) A wP:=((V.af I).new J λn P=>.inr (by have P:n=s.heap.size:=P;omega)).af L;refine fK (c:=Kf) (x:=b.2) (d.keep y λn P c=>by have c:n=w.heap.size:=c;have:=e n P;omega) Xc b0 (D:=λ_=>False) ⟨rfl,a0⟩ (λn P=>P.elim) (by simp at q;unfold aT;omega) (by simp at q;unfold maxLen;omega) λa' c' c3 F2 a1 M b1=>⟨_,_,_,rfl,_,?_,E++F,a++[b.2],F2,rfl,?_,λa2 K=>C a2 (by simp at K⊢;rcases K with K|K;exact .inl K;exact .inr (.inr K)),?_,a1,λn P=>?_,?_⟩
  ·simp
  ·have g:cT wP w.heap.size r (Value.int .i64) (R.rows.map λb=>(b.1,tG b.2)) ((E++F).map λb=>(b.1,tG b.2)):=by
    rw[Q3];exact((T.af I).keep J (λc=>by have c:w.heap.size=s.heap.size:=c;omega) (λc=>by have c:r=s.heap.size:=c;have:=f.map.lt;omega)).af L
   refine g.keep M (λc=>by have:=e _ (d.self _ c);omega) (λc=>by have:=e _ (d.self _ c);have:=f.map.lt;omega)
  ·refine List.Perm.trans ?_ m
   simp only[Q3,QY,XQ];refine List.Perm.append_left a ?_;rw[List.singleton_append];exact List.perm_middle.symm
  ·rcases b1 n P with g|g|g
   ·exact e n g
   ·exact g.elim
   ·have:=y.size;omega
  ·exact(o.new y λn P=>.inr (by have P:n=w.heap.size:=P;omega)).new M λn P=>.inr (by have:=e n (d.self n P);omega)
end
end Go.Proofs.YtjgjkeponbeekaaGreatDoor
namespace Go.aw
open Go
variable{a c i:Nat}{f:ZN}{X a1:Operand}{d:WP}{h:Program}{j:Type}{C g p:TypeId}{o t:ZR}{b:World}
def Az{bytes:Nat}{n:ky j}(v:kQ h g p n.k bytes)(B:NJ h p=true){w:List j}(k:aV n p f b d a c w)(S:i<=a)(l:∀e,aV n p f e d i c (w.take i)->aj (λP=>aG d=some P) b e->e.heap.size=b.heap.size->o (.tuple #[]) e):
  aJ h (Builtin.clear_ #[g] C #[.slice (dd d i c n.k) (a-i) (c-i)]) b o t:=by
 rcases Nat.lt_or_ge i a with T|U
 rotate_left
 ·obtain rfl:i=a:=oM
  rw[Nat.sub_self];exact aJ.mk (w':=b) (v:=.tuple #[]) (by cases dd d i c n.k<;>simp[Builtin.clear_,run_underlying v.under]) (l b (k.take (Q4 _)) (aj.refl _) rfl)
 obtain⟨cs,D,q,E,x⟩:=k.body;have F:=q.length;rcases q.cases with⟨_,V,_,_⟩|⟨y,H,rfl,I,J,z,K⟩
 ·omega
 have r:c<=maxLen:=by
  obtain⟨_,W,_,A,_,_,_,r,_⟩:=q.row.2.resolve_left (by rintro⟨k,_⟩;cases k);simp only[XX]at A;rw[A.2.2];exact r
 have L:i*n.k<=a*n.k:=Q0 _ oM;have X:a*n.k<=c*n.k:=Q0 _ J;rw[gh (show c≠i by omega),Xz];refine RH v B I (by rw[z,Nat.sub_mul];omega) λe m M N O Q R=>?_;have s:aj (λP=>aG (some (⟨y,0,none⟩:Addr))=some P) b e:=Q.mono λP _ p=>by rw[p];rfl
 refine l e ⟨⟨cs.take (i*n.k),D,⟨⟨by rw[Qy,F];omega,.inr ⟨y,c,m,rfl,Qj _,M,oM,r,by rw[N,z],?_⟩⟩⟩,(E.keep s λP u=>(x P u).2).take i,x⟩,k.self,λP u=>Qk (k.aE P u) s.size⟩ s R;rw[O,<-K,List.take_take,X2 L]
def SZ(i:0<c)(j:a<9223372036854775808):(do eqGuard .quo g X a1 (ZH (a:Int)) (ZH (c:Int));binOp .quo g (ZH (a:Int)) (ZH (c:Int)):Sem Value).run h b= .ok (ZH ((a/c:Nat):Int)) b:=by
 have d:c≠0:=oM
 have n:(a:Int).tdiv (c:Int)=((a/c:Nat):Int):=by rw[Int.tdiv_eq_ediv_of_nonneg oM];rfl
 have e:=Nat.div_le_self a c;generalize a/c=P at n e;have f:ZG .i64 (P:Int)=(P:Int):=wrap_i64 bc;simp[eqGuard,binOp,Op.intDiv,d,n,f]
end Go.aw
namespace Go.Proofs.YtjgjkeponbeekaaGreatDoor
open Go.aw
def c_(d:World)(e:Nat)(f:ZN)(P:aS)(n:Nat)(a:List ah):Prop:=
 (dj P=0/\0<n/\n<9223372036854775808/\a.length<=20000000)/\∃c b,c.every=n/\eu d f b e c P (bO P a) (eA P a).rows a (kZ P n a)
variable{H:List ah}{a c:Nat}{b:World}
def SY{d:aS}(n:0<a)(P:a<9223372036854775808)(b:H.length<=20000000):(kZ d a H).length*a<9223372036854775808/\(kZ d a H).length<=20000001:=by
 rw[Ay];have c:=Nat.div_le_self H.length a;refine⟨?_,oM⟩;rcases Nat.lt_or_ge H.length a with h|h
 ·rw[Nat.div_eq_of_lt h];omega
 ·have:=Nat.div_mul_le_self H.length a
  rw[X7,Nat.one_mul];omega
section
variable {w w':World} {p:Nat} {F T D:ZN} {d:aS} {every:Nat} {l:List ah}
def c_.keep(a:c_ w p F d every l)(b:aj T w w')(c:∀P,F P->¬T P):c_ w' p F d every l:=by
 obtain⟨e,f,n,g,h⟩:=a;exact⟨e,f,n,g,bb.keep h dR b c⟩
def c_.af(n:c_ w p F d every l)(P:ai w w'):c_ w' p F d every l:=n.keep P λ_ _ n=>n
def c_.aE(P:c_ w p F d every l):∀n,F n->n<w.heap.size:=by obtain⟨c,e,a,f,b⟩:=P;exact b.aE
def wR(d:aS)(l:List ah)(b:l.length<=20000000):(bO d l).entries.length<=20000000/\∀n,((aq (bO d l).done n).getD []).length<=20000000:=by
 have P:=λn=>FH d l (bf.new d) n;refine⟨?_,λn=>?_⟩
 ·have a:(bO d l).entries.length=0+l.length:=(P (0,0,0)).2
  omega
 ·have a:((aq (bO d l).done n).getD []).length<=0+l.length:=(P n).1
  omega
def Hy(d:aS)(l:List ah)(n:ah):qw (bO d l) n (eA d l).rows=(eA d (l++[n])).rows:=by
 rw[Ki];unfold qw kO.add;rw[Kj]
def P_(s:c_ w p F d every l)(t:fw b)(u:ai b w)(v:∀n,F n->b.heap.size<=n)(j:l.length+1<=20000000){e:ah}{k:WP}(x:Row aP 8 w D k a e.aN)(y:∀n,D n->n<w.heap.size/\¬F n)(z:e.Ok):
  PP 117 #[ZL p,kN e k a c] w (Ok λm w'=>m= .tuple #[]/\∃f,c_ w' p f d every (l++[e])/\cu F w f w'):=by
 obtain⟨⟨o,g,q,r⟩,L,A,rfl,B⟩:=s;obtain⟨C,E⟩:=wR d l r;obtain⟨H,I⟩:=SY (d:=d) g q r;refine(PX B o t u v j C (Hz d l) H I (E _) x y z).mono ?_;rintro _ w' ⟨m,rfl,rfl,J,f,P,h,i,K⟩;refine Ok.mk ⟨rfl,f,⟨⟨o,g,q,by simpa using j⟩,J,P,i,?_⟩,K⟩;rw[Kk,NI g,<-Hy,<-Ay (d:=d)];exact h
def Zc:NJ ZP 199=true:=kR
def NK(a0:c_ w p F d every l)(hT:fw b)(g0:ai b w)(c5:∀P,F P->b.heap.size<=P)(hn:a<=l.length):
  PP 116 #[ZL p,ZH (a:Int)] w (Ok λa1 w'=>a1= .tuple #[]/\∃H,c_ w' p H d every (l.take (a/every*every))/\cu F w H w'):=by
 obtain⟨⟨q,u,h3,h4⟩,n,h,rfl,g⟩:=a0;have c6:=g.bw;have e1:=g.aE;have c7:=aV.len (g.at' 5) dC;have I:=aV.len (g.at' 2) dC;rw[Ay]at c7;obtain⟨k,v⟩:∃k,k=a/n.every:=⟨_,rfl⟩
 have s:k<=l.length/n.every:=by rw[v];exact Nat.div_le_div_right hn
 have J:k*n.every<=l.length:=Xx (Q0 _ s) (Nat.div_mul_le_self ..);have e2:k<=l.length:=Xx s (Nat.div_le_self ..);rw[<-v];have x:ZG .i64 ((k:Int)*(n.every:Int))=((k*n.every:Nat):Int):=by
  rw[show((k:Int)*(n.every:Int))=((k*n.every:Nat):Int) by push_cast;rfl,wrap_i64 bc]
 have c8:ZG .i64 ((k:Int)+1)=((k+1:Nat):Int):=an oM;have ec:=aV.lA (g.at' 2);have qc:=aV.lA (g.at' 5);refine sC ⟨p,0,rfl,_,ae c6 rfl,aJ.mk (SZ u oM) ⟨_,rfl,λK c9=>?_⟩⟩;rw[<-v,c8];simp only[Qx];have L:ai w K:=c9.keep;have y:=eu.af g L;have z:=y.bw;have a2:bb K F h (Aw p n.cells {n with en:=k*n.every} d (bO d l) (eA d l).rows (l.take (k*n.every)) (kZ d n.every l)):=y.same dR (k:=2) (aj.refl _) (aV.take (y.at' 2) (show k*n.every<=n.en from I▸J)) λi G j m=>by
  rcases i with _|_|_|_|_|_|i<;>first|exact m|exact Zz rfl j
 refine⟨p,0,rfl,_,_,_,ae z rfl,p,0,rfl,_,ae z rfl,by rw[x];exact Int.natCast_nonneg _,by rw[x];exact Int.ofNat_le.2 (Xx J (I▸ec)),p,0,rfl,?_⟩;rw[x,Qx];refine PS.mk z sM λd0 M e3 N=>?_;have O:eu d0 F h p {n with en:=k*n.every} d (bO d l) (eA d l).rows (l.take (k*n.every)) (kZ d n.every l):=eu.store a2 M N;refine⟨p,0,rfl,_,_,_,ae N rfl,oM,by show _<=((n.qn:Nat):Int);omega,?_⟩;have e:∀P,aG n.qa=some P->F P/\h P=5:=λP c=>aV.self (g.at' 5) P c;have a3:¬aG n.qa=some p:=λf=>by have q:=(e p f).2;rw[g.self.2]at q;cases q
 refine Az Ws Zc (O.at' 5) (by show k+1<=n.qn;omega) λd1 a5 Q e4=>?_;have R:bb d1 F h (Aw p ({n with en:=k*n.every}:wQ).cells {n with en:=k*n.every,qn:=k+1} d (bO d l) (eA d l).rows (l.take (k*n.every)) ((kZ d n.every l).take (k+1))):=O.same dR (k:=5) (Q.mono λP _ c=>e P c) a5 λi G j m=>by
  rcases i with _|_|_|_|_|_|i<;>first|exact m|exact Zz rfl j
 have S:=(R.at' 0).2;refine⟨p,0,rfl,_,_,_,ae S rfl,oM,by show _<=((n.qc:Nat):Int);omega,p,0,rfl,PS.mk S sM λwP T e5 U=>?_⟩;have r:eu wP F h p {n with en:=k*n.every,qn:=k+1} d (bO d l) (eA d l).rows (l.take (k*n.every)) ((kZ d n.every l).take (k+1)):=eu.store R T U;have A:aj F w wP:=(((ai.keep L).then (M.mono λP _ f=>by have f:P=p:=f;rw[f];exact g.self.1)).then (Q.mono λP _ c=>(e P c).1)).then (T.mono λP _ f=>by have f:P=p:=f;rw[f];exact g.self.1);have d2:((kZ d n.every l).take (k+1))[k]? =some (eA d (l.take (k*n.every))).rows:=by
  rw[Xw,Zx oM];exact Qa s
 obtain⟨pb,po,es,d3,e6,e7,V,e8,ra,rn,rc,rfl,d4⟩:=(aV.row (bytes:=32) (r.at' 5) dC (by rw[Qy];unfold aT;omega)).el k _ d2;have c0:=V 0 dC;have c1:=V 1 dC;refine⟨p,0,rfl,_,_,_,ae U rfl,pb,po,d3,oM,by show(k:Int)<((k+1:Nat):Int);omega,_,_,_,_,c0,c1,PC.ok (DY r q (hT.af (g0.new A λP c=>.inr (c5 P c))) (by rw[Qy];omega) d4 (λP c=>r.aE P c.1) (by rw[qy];exact(Ax (ny q).1).2.2.1)) ?_⟩;rintro _ W ⟨B,X,Y,Z,Fv,G,rfl,hv,b3,b4,t,b5⟩;have e9:=A.size;obtain⟨F1,e0,d5,f2,b6,-⟩:=r.HA dR (k:=3) (w':=W) (G':=Fv) (C2:=Aw p ({n with en:=k*n.every,qn:=k+1}:wQ).cells {n with en:=k*n.every,qn:=k+1,vp:=B} d (bO d (l.take (k*n.every))) (eA d l).rows (l.take (k*n.every)) ((kZ d n.every l).take (k+1)))
  (ai.keep b5) (λP c C=>by have:=b4 P c;have:=r.aE P C;omega) hv.aE hv λi G j m=>by
   rcases i with _|_|_|_|_|_|i<;>first|exact m|exact Zz rfl j
 obtain⟨F2,b7,b8,f3,d6,-⟩:=d5.HA dR (k:=4) (w':=W) (G':=G) (C2:=Aw p ({n with en:=k*n.every,qn:=k+1}:wQ).cells {n with en:=k*n.every,qn:=k+1,vp:=B,ra:=X,rn:=Y,rc:=Z} d (bO d (l.take (k*n.every))) (eA d (l.take (k*n.every))).rows (l.take (k*n.every)) ((kZ d n.every l).take (k+1)))
  (aj.refl _) (λP c C=>by
   rcases b6 P C with o|o
   ·have:=(t P c).1;have:=r.aE P o.1;omega
   ·exact Zz o (t P c).2.2) (λP c=>(t P c).2.1) b3 λi G j m=>by
   rcases i with _|_|_|_|_|_|i<;>first|exact m|exact Zz rfl j
 have b9:∀P,F2 P->F P\/w.heap.size<=P:=λP c=>by
  rcases d6 P c with o|o
  ·rcases b6 P o.1 with E|E
   ·exact .inl E.1
   ·exact .inr (by have:=b4 P E;omega)
  ·exact .inr (by have:=(t P o).1;omega)
 have d7:=(b8.at' 0).2;refine⟨_,_,_,_,rfl,p,0,rfl,PS.mk d7 sM λf4 c3 f6 d8=>PS.mk d8 sM λf8 c4 g1 d9=>Ok.mk ⟨rfl,F2,⟨⟨q,u,h3,by rw[Qy];omega⟩,{n with en:=k*n.every,qn:=k+1,vp:=B,ra:=X,rn:=Y,rc:=Z},b7,rfl,?_⟩,?_,b9⟩⟩
 ·rw[<-NL u s]
  exact eu.store b8 (c3.then c4) d9
 ·exact(A.af b5).then ((c3.then c4).mono λP _ f=>by have f:P=p:=f;rw[f];exact g.self.1)

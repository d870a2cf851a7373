import Derived.Test.YtjgjkeponbeekaaGreatDoorKl14
set_option maxHeartbeats 4000000
set_option linter.all false
set_option maxRecDepth 100000
open Go.IntKind renaming wrap→ZG
namespace Go.Proofs.YtjgjkeponbeekaaGreatDoor
open Go.au
def LQ:eC cC Int where
 k:=13
 ci:=aI
 ib:=8
 inner:=(·.ev.aQ)
 hd:=λn P a b=>aE n.ev P a b++[.bool n.void,ZH n.ET.1,ZH n.ET.2]
 ok:=λn=>n.ev.Ok
 hl:=λ_ _ _ _=>rfl
 h1:=λn P a b d c=>by
  simp only[aE,List.cons_append,List.nil_append,Q2,List.not_mem_nil,or_false]at c;rcases c with rfl|rfl|rfl|rfl|rfl|rfl|rfl|rfl|rfl|rfl|rfl|rfl|rfl<;>rfl
 o:=3
 ho:=dC
 eh:=λ_ _ _ _ _ _ _=>rfl
abbrev vZ:jF cC:=LQ.Nc
abbrev h_(n:cC)(P:YQ)(a b:Nat):List Value:=aE n.ev P a b++[.bool n.void,ZH n.ET.1,ZH n.ET.2]
def Ru:jS ZP 50 133 13 120:=⟨kR,kR,dC⟩
def lH(n:cC)(P:YQ)(a b:Nat):ia ZP 133 (h_ n P a b)=true:=kR
def OS(n:cC)(P:YQ)(a b:Nat):Sw (dG ZP 133) (.agg (h_ n P a b).toArray)=true:=kR
def Ry:JQ ZP 305 3:=⟨kR,kR,⟨ "typ", "no",kR,dC,dC⟩,kR,kR,kR⟩
def Te:vT ZP 350 305 3:=⟨Ry,kR,⟨ "agg", "field",kR,dC,dC⟩,kR,kR,kR⟩
def UP:iH ZP 305 oV:=Ry.key
def Xl:iH ZP 350 CA:=Te.key
def Xm:lW ZP 263 305 49 (.agg #[ZH 0,.slice none 0 0]):=⟨kR,kR⟩
def XA:lW ZP 264 350 59 (.slice none 0 0):=⟨kR,kR⟩
inductive JG where
 |self|st|dn|OG|Rz|V_
 |done (k:Int×Int×Int)
structure EP where
 ta:YQ
 tn:Nat
 tc:Nat
 pa:YQ
 pn:Nat
 pc:Nat
 ea:YQ
 en:Nat
 ec:Nat
 r1:Nat
 r2:Nat
 l1:List ((Int×Int)×Value)
 l2:List ((Int×Int×Int)×Value)
 cls:Nat->JG
abbrev EP.P(P:EP)(a:ZN)(b:JG):ZN:=λn=>a n/\P.cls n=b
def Wh(b:World)(D:ZN)(c:Value)(n:mG):Prop:=∃P a d,c= .agg #[ZH n.version,.slice P a d]/\Row eG 32 b D P a n.cells
def Wi(b:World)(D:ZN)(c:Value)(d:List aj):Prop:=∃n P a,c= .slice n P a/\aM jB 63 D b n P a d
structure yC (w:World) (p:Nat) (F:ZN) (V:aV) (q:EP):Prop where
 at':w.heap[p]? =some (.cells #[.slice q.ta q.tn q.tc,.slice q.pa q.pn q.pc,.slice q.ea q.en q.ec,.map (some q.r1),.map (some q.r2)] 266 (0,0))
 Rz:bf w (q.P F .Rz) V.decl q.ta q.tn q.pa q.pn
 OG:aM vZ 133 (q.P F .OG) w q.ea q.en q.ec V.entries
 st:bI w q.r1 oV q.l1
 Wa:fu (Wh w (q.P F .V_)) q.l1 V.eg
 dn:bI w q.r2 CA q.l2
 Wj:oJ (λk=>Wi w (q.P F (.done k))) q.l2 V.done
 aC:∀b,F b->b<w.heap.size
 lp:F p/\q.cls p= .self
 l1:F q.r1/\q.cls q.r1= .st
 l2:F q.r2/\q.cls q.r2= .dn
def cg(P:World)(a:Nat)(b:ZN)(n:aV):Prop:=n.OK/\∃c,yC P a b n c
variable{e r:Int}{J:List aj}{d u:YQ}{v:Value}{R:aN}
section
variable {w w':World} {p:Nat} {F T D:ZN} {V:aV} {q:EP}
def Wh.af{n:mG}(a:Wh w D v n)(b:ak T w w')(c:∀P,D P->¬T P):Wh w' D v n:=by
 obtain⟨d,e,f,g,h⟩:=a;exact⟨d,e,f,g,h.af b c⟩
def Wi.af(P:Wi w D v J)(a:ak T w w')(b:∀n,D n->¬T n):Wi w' D v J:=by
 obtain⟨c,d,e,f,g⟩:=P;exact⟨c,d,e,f,g.af a b⟩
def yC.af(n:yC w p F V q)(b:ak T w w')(c:∀P,F P->¬T P):yC w' p F V q:=
 ⟨b.get n.at' (c _ n.lp.1),n.Rz.af b λP a=>c P a.1,n.OG.af b λP a=>c P a.1,n.st.af b (c _ n.l1.1),n.Wa.mono λe f d=>d.af b λP a=>c P a.1,
  n.dn.af b (c _ n.l2.1),n.Wj.mono λg e f d=>d.af b λP a=>c P a.1,λP a=>Qk (n.aC P a) b.size,n.lp,n.l1,n.l2⟩
def yC.ah(n:yC w p F V q)(P:ai w w'):yC w' p F V q:=n.af P λ_ _ n=>n
def cg.af(n:cg w p F V)(a:ak T w w')(b:∀P,F P->¬T P):cg w' p F V:=⟨n.1,n.2.imp λq c=>c.af a b⟩
def cg.ah(n:cg w p F V)(P:ai w w'):cg w' p F V:=n.af P λ_ _ n=>n
def cg.aC(P:cg w p F V):∀n,F n->n<w.heap.size:=P.2.elim λq a=>a.aC
def cg.self(n:cg w p F V):F p:=n.2.elim λq P=>P.lp.1
def Ho{tn t l v:Nat}(x:cT R=0)(y:bf w D R d tn u l)(z:∀n,D n->n<w.heap.size):
  YX 105 #[.agg #[.slice d tn t,.slice u l v]] w (Ok λA w'=>∃p F,A= ZL p/\cg w' p F (aV.new R)/\(∀n,F n->w.heap.size<=n)/\ai w w'):=by
 refine Ku (PA.mk λJ m K o=>⟨_,_,_,_,_,_,ae o rfl,ae o rfl,PC.ok (Dh (y.ah m) λn P=>by have:=z n P;omega) ?_⟩);rintro _ c ⟨f,PY,g,h,i,j,G,rfl,B,C,q⟩;refine⟨_,_,_,_,_,_,rfl,PA.mk λa r L E=>PA.mk λb k M H=>PA.mk λs e N I=>Ok.mk ⟨b.heap.size,λn=>w.heap.size<=n/\n<s.heap.size,rfl,⟨aV.sZ x,
  ⟨⟨f,PY,g,h,i,j,none,0,0,c.heap.size,a.heap.size,[],[],λn=>if n=b.heap.size then .self else if n=c.heap.size then .st else if n=a.heap.size then .dn else .Rz⟩,?_⟩⟩,λn P=>P.1,((m.then q).then r).then (k.then e)⟩⟩
 have O:=q.size;refine⟨I,?_,?_,bI.new (e.get (k.get E id) id),trivial,bI.new (e.get H id),trivial,λn P=>P.2,⟨⟨by show w.heap.size<=b.heap.size;omega,by show b.heap.size<_;omega⟩,Zx rfl⟩,⟨⟨by show w.heap.size<=c.heap.size;omega,by show c.heap.size<_;omega⟩,?_⟩,⟨⟨by show w.heap.size<=a.heap.size;omega,by show a.heap.size<_;omega⟩,?_⟩⟩
 ·refine(((B.ah r).ah k).ah e).mono λn P=>?_
  have:=C n P;refine⟨⟨oM,oM⟩,?_⟩;show(if n=b.heap.size then _ else _)=_;rw[Zq oM,Zq oM,Zq oM]
 ·exact(aM.nil s).mono (λn P=>P.elim) λn P=>P.1.2
 ·show(if c.heap.size=b.heap.size then _ else _)=_
  rw[Zq oM,Zx rfl]
 ·show(if a.heap.size=b.heap.size then JG.self else if a.heap.size=c.heap.size then JG.st else if a.heap.size=a.heap.size then JG.dn else JG.Rz)=JG.dn
  rw[Zq oM,Zq oM,Zx rfl]
abbrev He:mG:=⟨0,[]⟩
def nQ(i:cg w p F V):
  YX 127 #[ZL p,ZH e,ZH r] w (Ok λo w'=>∃a b c G,o= .tuple #[.agg #[ZH ((V.state e r).getD He).version,.slice a b c],.bool (V.state e r).isSome]/\aM eG 78 G w' a b c ((V.state e r).getD He).cells/\(∀n,G n->w.heap.size<=n)/\ai w w'):=by
 obtain⟨T,q,i⟩:=i;refine uB (PA.mk λs t U z=>?_);have h:=i.ah t;refine⟨p,0,rfl,_,ae h.at' rfl,iZ (enc:=oV) (k:=(e,r)) Xm UP h.st ?_⟩;obtain⟨g,n,a,b,c,d,f,A,B,j⟩:∃(g:mG) (n:Bool) (a:YQ) (b c:Nat),(aF q.l1 (e,r)).getD (.agg #[ZH 0,.slice none 0 0])= .agg #[ZH g.version,.slice a b c]/\(aF q.l1 (e,r)).isSome=n/\(V.state e r).getD He=g/\(V.state e r).isSome=n/\Row eG 32 s (q.P F .V_) a b g.cells:=by
  unfold aV.state;rcases h.Wa.aF (e,r)with⟨d,f⟩|⟨o,g,d,f,a,b,c,rfl,j⟩
  ·exact⟨He,false,none,0,0,by rw[d];rfl,by rw[d];rfl,by rw[f];rfl,by rw[f];rfl,Row.nil _ _⟩
  ·exact⟨g,true,a,b,c,by rw[d];rfl,by rw[d];rfl,by rw[f];rfl,by rw[f];rfl,j⟩
 rw[d,f,A,B];refine⟨_,_,_,_,_,rfl,PA.mk λW C X E=>PS.mk E sM λY H Z I=>PS.mk I sM λJ K s7 u=>?_⟩;have k:ai s J:=(C.new H λn P=>.inr oM).new K λn P=>.inr oM;refine⟨_,_,_,_,ae u rfl,ae u rfl,PC.ok (KP (j.ah k) λn P=>by have:=h.aC n P.1;omega) ?_⟩;rintro _ w8 ⟨L,M,N,G,rfl,O,l,m⟩;have Q:=m.get (k.get z id) id;have z8:=m.size;refine⟨_,_,_,_,rfl,PS.mk Q sM λw9 v s9 R=>PS.mk R sM λa0 x a1 y=>⟨_,_,_,_,ae y rfl,ae y rfl,Ok.mk ⟨L,M,N,G,rfl,?_,?_,?_⟩⟩⟩
 ·exact(O.af v λn P S=>by have:=l n P;omega).af x λn P S=>by have:=l n P;omega
 ·intro n P;have:=l n P;omega
 ·exact(((t.then k).then m).new v λn P=>.inr oM).new x λn P=>.inr oM
end
variable{c5:List bg}{a c i p:Nat}{g:TypeId}{c3:bg}{d6:jm}
section
variable {w w':World} {D D' S:ZN} {d:aN} {ta pa:YQ} {tn tc pn pc:Nat}
def xN{P a op arg:Int}(S:eP w)(j:bf w D d ta tn pa pn)(T:∀f,D f->f<w.heap.size):
  YX 201 #[.agg #[.slice ta tn tc,.slice pa pn pc],ZH P,ZH a,ZH op,ZH arg] w (Ok λe w'=>e= ZH (lg d P a op arg)/\ai w w'):=by
 refine CW (PA.mk λw1 B s1 C=>⟨_,_,_,_,_,_,ae C rfl,ae C rfl,PC.ok (oO (j.ah B) λf s=>by have:=T f s;omega) ?_⟩);rintro e w2 ⟨U,p⟩;have q:=B.then U
 cases k:d.Dw P a with
 |none=>
  rw[k]at p;refine bT (Jb VQ none 0 0) ⟨_,p,PA.mk λV t W u=>az (gj _ _ _ _) u rfl λX v Y E=>al.tt rfl (Ok.mk ⟨?_,(q.then t).new v λf s=>.inr (by have:=q.size;omega)⟩)⟩;unfold lg;rw[k]
 |some g=>
  rw[k]at p;obtain⟨r,h,F,a5,rfl,Z,hF⟩:=p;have x:lg d P a op arg=if !within op 1 5||qK op !=g.kind then 2 else if op==1&&arg==0||op==5&& !within arg 0 (g.bw.length-1)then 1 else 0:=by unfold lg;rw[k]
  have hz:=q.size;refine bT (Jb g r h F) ⟨_,rfl,PA.mk λV t W u=>az (gj g r h F) u rfl λX v Y E=>al.ff rfl λy H=>PC.ok bX ?_⟩;rintro _ _ ⟨rfl,rfl⟩;have I:=(br.af (S:=λ_=>False) H).get E id;have J:ai w y:=((q.then t).new v λf s=>.inr oM).then H.af;have n:∀z:Int,lg d P a op arg=z->Ok (λe w'=>e= ZH (lg d P a op arg)/\ai w w') (.returned (ZH z)) y:=λz j=>Ok.mk ⟨by rw[j],J⟩;refine⟨_,rfl,al.not (al.mk (λc=>?_) (λc=>n 2 (by rw[x,c];rfl)))⟩;have a6:=bz.1 c;refine⟨1,0,rfl,oM,oM,qK op,?_,_,ae I rfl,al.dQ (λa0=>n 2 ?_) (λhe=>?_)⟩
  ·have:=(S.ah J).kinds op.toNat oM
   rw[Xz,this,Int.toNat_of_nonneg oM]
  ·rw[x,c,Zx (by simpa using a0)]
  have l:lg d P a op arg=if op==1&&arg==0||op==5&& !within arg 0 (g.bw.length-1)then 1 else 0:=by rw[x,c,he];simp
  have hn:h=g.bw.length:=Z.len dC;have a7:h<=140737488355328:=by
   obtain⟨a1,PY,K,-⟩:∃(r:YQ) (h:Nat),Row iN 32 w D r h g.bw/\True:=by
    obtain⟨i,m,a8,a3,a9,A,h3,h4⟩:=aN.vP k;have b0:=j.aU.len;obtain⟨f,a2,T',es,rfl,_,_,o,L,b1,n1,c1,rfl,M⟩:=j.aU.at (i:=P) i oM;rw[a3]at o;cases o
    have b2:=M.len;obtain⟨b3,b4,x',b5,rfl,_,_,N,b6,b7,n2,c2,rfl,hM,_⟩:=M.at (i:=a) A oM;rw[h4]at N;cases N
    exact⟨_,_,hM,trivial⟩
   have m:=K.len;have A:=K.ef;unfold aK at A;omega
  have bw:∀{O:List PanicEntry->ZU},op=5->PC ZP 97 #[ZH arg,ZH 0,ZH (ZG .i64 ((h:Int)-1))] y (λa4 Q=>∃R:Bool,a4= .bool R/\al (!R) (Ok (λe w'=>e= ZH (lg d P a op arg)/\ai w w') (.returned (ZH 1)) Q) (Ok (λe w'=>e= ZH (lg d P a op arg)/\ai w w') (.returned (ZH 0)) Q)) O:=by
   intro O b;refine PC.ok bX ?_;rintro _ _ ⟨rfl,rfl⟩;rw[wrap_i64 bc,hn];refine⟨_,rfl,al.not (al.mk (λc=>n 0 ?_) (λc=>n 1 ?_))⟩
   ·rw[l,c,b];rfl
   ·rw[l,c,b];rfl
  refine al.cW (λm=>al.cW (λi=>al.cW (λ_=>n 1 (by rw[l,m,i];rfl)) (λL=>Zz i L)) (λi=>al.cW (λb=>Zz b oM) (λb=>n 0 ?_))) (λm=>al.cW (λb=>⟨_,_,_,ae I rfl,bw b⟩) (λb=>n 0 ?_))
  ·rw[l,Zq (by simp[i,b])]
  ·rw[l,Zq (by simp[m,b])]
def EI{f:YQ}(P:Row rN 48 w D f a c5):
  YX 100 #[.agg #[.slice f a c],ZH e,ZH r] w (Ok λi w'=>i= .bool (RE c5 e r)/\ai w w'):=by
 have g:=P.len;have j:=P.ef;unfold aK at j;refine HX (PA.mk λo b p h=>⟨_,_,_,ae h rfl,PC.ok bX ?_⟩);rintro _ _ ⟨rfl,rfl⟩;rw[wrap_i64 bc];refine⟨_,rfl,al.mk (λn=>?_) (λn=>Ok.mk ⟨?_,b⟩)⟩
 ·have q:=bz.1 n
  obtain⟨k,d,s,t,rfl,_,_,l,m,u,v,x,rfl,_⟩:=(P.ah b).at (i:=e) oM oM;refine⟨_,_,_,ae h rfl,k,d,rfl,oM,oM,_,m 0 dC,Ok.mk ⟨?_,b⟩⟩;unfold RE;rw[<-g,n,l];rfl
 ·unfold RE;rw[<-g,n];rfl
def SN(P:1<=e/\e<=4)(a:1<=r/\r<=3):∃n:Int,(∀w',(do eqGuard .shr 3 (.tmp 19) (.tmp 21) (ZH (([0,2,14,6,6]:List Int).getD e.toNat 0)) (ZH r);binOp .shr 3 (ZH (([0,2,14,6,6]:List Int).getD e.toNat 0)) (ZH r):Sem Value).run ZP w'= .ok (ZH n) w')/\((FN .i64 n 1==0)= !QP e r):=by
 refine⟨(([0,2,14,6,6]:List Int).getD e.toNat 0).fdiv (2 ^ r.toNat),?_,?_⟩<;>rcases(by omega:e=1\/e=2\/e=3\/e=4)with rfl|rfl|rfl|rfl<;>rcases(by omega:r=1\/r=2\/r=3)with rfl|rfl|rfl<;>first
  |(intro w';kernel_rfl)
  |decide
def LA(m:jU):Bool:=decide (m.bl<0)||decide (m.lX<0)||m.lu== -1&&m.least !=0
def SO{b:jU}:YX 98 (#[]++ #[.agg (nT b).toArray]++ #[]) w (Ok λe w'=>e= .bool (LA b)/\ai w w'):=by
 refine wJ (PA.mk λf P g a=>⟨_,ae a rfl,al.dec (λn=>Ok.mk ⟨by simp[LA,n],P⟩) (λc=>⟨_,ae a rfl,al.dec (λn=>Ok.mk ⟨by simp[LA,n],P⟩) (λd=>⟨_,ae a rfl,al.cW (λn=>⟨_,ae a rfl,Ok.mk ⟨by simp[LA,c,d,n],P⟩⟩) (λn=>Ok.mk ⟨by simp[LA,c,d,n],P⟩)⟩)⟩)⟩)
def Jq(P:List bg)(n:jU):Bool:=n.lu != -1&& !RE P n.lu 1
def SP{P:jU}{d:YQ}(f:Row rN 48 w D d c c5)(h:w.heap[a]? =some (.cells #[.slice d c i] g (0,0))):
  YX 99 (#[]++ #[.agg (nT P).toArray]++ #[ZL a]) w (Ok λj w'=>j= .bool (Jq c5 P)/\ai w w'):=by
 refine wK (PA.mk λl n m e=>⟨_,ae e rfl,al.dQ (λb=>⟨_,_,_,ae (n.get h id) rfl,_,ae e rfl,PC.ok (EI (f.ah n)) ?_⟩) (λb=>Ok.mk ⟨by simp[Jq,b],n⟩)⟩);rintro _ o ⟨rfl,k⟩;exact⟨_,rfl,Ok.mk ⟨by unfold Jq;rw[show(P.lu != -1)=true by simpa using b];simp,n.then k⟩⟩
def GV{y z:YQ}(H:eP w)(I:Row rN 48 w D y a c5)(A:Row iN 32 w D z i c3.bw):
  YX 67 #[.agg #[.slice y a c],.agg (eL c3 z i p).toArray] w (Ok λo w'=>o= ZH (fv c5 c3)/\ai w w'):=by
 refine AU (PA.mk λV J W K=>PA.mk λq B X r=>⟨_,ae r rfl,PC.ok bX ?_⟩);rintro _ _ ⟨rfl,rfl⟩;have C:=J.then B;refine⟨_,rfl,al.not (al.mk (λe=>?_) (λe=>Ok.mk ⟨by unfold fv;rw[e];rfl,C⟩))⟩;have s:=bz.1 e;refine⟨λw'=>ai w w'/\q.heap.size<=w'.heap.size/\ai q w'/\within c3.dE 1 3=true/\QP c3.kind c3.dE=true/\(c3.floor&&c3.kind !=1)=false,λk E=>?_,?_⟩
 ·have b:=(br.af (S:=λ_=>False) E).get r id
  have d:ai q k:=E.af;have n:ai w k:=C.then d;have f:fv c5 c3=1->Ok (λo w'=>o= ZH (fv c5 c3)/\ai w w') (.returned (ZH 1)) k:=λh=>Ok.mk ⟨by rw[h],n⟩;refine⟨_,ae b rfl,PC.ok bX ?_⟩;rintro _ _ ⟨rfl,rfl⟩;refine⟨_,rfl,al.not (al.mk (λP=>?_) (λP=>f (by unfold fv;rw[e,P];rfl)))⟩;have t:=bz.1 P;obtain⟨L,M,N⟩:=SN s t;refine⟨_,ae b rfl,0,0,rfl,oM,oM,_,by rw[Xz];exact(H.ah n).VR c3.kind.toNat oM,_,ae b rfl,L,M,?_⟩;refine al.mk (λl=>?_) (λl=>?_)<;>rw[N]at l
  ·exact f (by unfold fv;rw[e,P,show QP c3.kind c3.dE=false by simpa using l];rfl)
  have j:QP c3.kind c3.dE=true:=by simpa using l
  refine⟨_,ae b rfl,al.mk (λu=>⟨_,ae b rfl,al.dQ (λO=>f ?_) (λQ=>⟨n,d.size,d,P,j,by simp[Q]⟩)⟩) (λu=>⟨n,d.size,d,P,j,by simp[u]⟩)⟩;unfold fv;rw[e,P,j,u];simp[O]
 ·rintro Y k ⟨n,Z,d,P,j,R⟩
  have b:=d.get r id;have v:fv c5 c3=if c3.bw.any LA then 1 else if c3.bw.any (Jq c5)then 8 else 0:=by
   unfold fv;rw[e,P,j,R];rfl
  refine⟨_,_,_,ae b rfl,PC.ok (Jp (p:=LA) (A.ah n) kR λS T g=>SO) ?_⟩;rintro _ T ⟨rfl,g⟩;refine⟨_,rfl,al.mk (λh=>Ok.mk ⟨by rw[v,Zx h],n.then g⟩) (λh=>⟨_,_,_,ae (g.get b id) rfl,PC.ok (Jp (p:=Jq c5) (A.ah (n.then g)) kR λS U m=>SP (I.ah ((n.then g).then m)) (m.get (g.get (d.get (B.get K id) id) id) id)) ?_⟩)⟩;rintro _ U ⟨rfl,m⟩;have F:=(n.then g).then m;exact⟨_,rfl,al.mk (λx=>Ok.mk ⟨by rw[v,h,x];rfl,F⟩) (λx=>Ok.mk ⟨by rw[v,h,x];rfl,F⟩)⟩
def UI{n a kind:Int}(b:(d.Dw n a).isSome):∃P,d.types[n.toNat]? =some P/\d.at n=P/\0<=n/\n<d.types.length:=by
 obtain⟨i,c⟩:=Option.isSome_iff_exists.1 b;obtain⟨e,f,P,g,h,_⟩:=aN.vP c;exact⟨P,g,h,e,f⟩
def GW(r:bf w D d ta tn pa pn)(O:∀n,D n->n<w.heap.size):
  YX 68 #[.agg #[.slice ta tn tc,.slice pa pn pc],.agg (nR d6).toArray] w (Ok λC w'=>C= ZH (lV d d6)/\ai w w'):=by
 refine AV (PA.mk λZ E s1 s=>PA.mk λw2 g s2 l=>⟨_,_,_,_,_,_,ae (g.get s id) rfl,ae (g.get s id) rfl,_,ae l rfl,_,ae l rfl,PC.ok (oO (r.ah (E.then g)) λn b=>by have:=O n b;omega) ?_⟩);rintro C w3 ⟨h,m⟩;have t:=(E.then g).then h;have hz:=h.size
 cases i:d.Dw d6.aU d6.field with
 |none=>
  rw[i]at m;refine bT (Jb VQ none 0 0) ⟨_,m,PA.mk λQ c R u=>az (gj _ _ _ _) u rfl λo e S T=>al.tt rfl (Ok.mk ⟨?_,(t.then c).new e λn b=>.inr oM⟩)⟩;unfold lV;rw[i];rfl
 |some F=>
  rw[i]at m;obtain⟨H,I,J,a0,rfl,ho,hF⟩:=m;have K:(d.Dw d6.aU d6.field).isNone=false:=by rw[i];rfl
  refine bT (Jb F H I J) ⟨_,rfl,PA.mk λQ c R u=>az (gj F H I J) u rfl λo e S T=>al.ff rfl ⟨λn w'=>n=(d6.group==3&& !RE (d.at d6.aU) d6.ET 2||d6.group !=3&&d6.ET !=0)/\ai o w',?_,?_⟩⟩
  ·have U:ai w o:=(t.then c).new e λn b=>.inr oM
   intro v V;have P:ai o v:=V.af;have W:=P.get (e.get (c.get (h.get (g.get s id) id) id) oM) id;have a:=P.get (e.get (c.get (h.get l id) id) oM) id;refine⟨_,ae a rfl,al.cW (λf=>⟨_,_,_,ae W rfl,_,ae a rfl,?_⟩) (λf=>⟨_,ae a rfl,al.dQ (λ_=>⟨_,ae a rfl,?_,P⟩) (λj=>Zz j f)⟩)⟩
   ·obtain⟨a1,X,L,M,h1⟩:=UI (kind:=0) (by rw[i];rfl:(d.Dw d6.aU d6.field).isSome)
    have hl:=r.aU.len;obtain⟨n,x,T',es,rfl,_,_,k,j,a2,n1,c1,rfl,Y⟩:=((r.ah (U.then P)).aU).at (i:=d6.aU) M oM;rw[X]at k;cases k
    have N:=j 0 dC;simp only[mT,Nat.mul_one,Nat.add_zero]at N;refine⟨n,x,rfl,M,oM,_,_,_,N,_,ae a rfl,PC.ok (EI Y) ?_⟩;rintro _ w7 ⟨rfl,y⟩;refine⟨_,rfl,al.not (al.mk (λz=>⟨_,ae (y.get a id) rfl,al.dQ (λj=>Zz f j) (λ_=>⟨?_,P.then y⟩)⟩) (λz=>⟨?_,P.then y⟩))⟩
    ·rw[L,z,f];rfl
    ·rw[L,z,f];rfl
   ·rw[show(d6.group==3)=false by simpa using f,show(d6.group !=3)=true by simpa using f];rfl
  ·rintro n a3 v ⟨rfl,P⟩
   have p:ai w v:=((t.then c).new e λn b=>.inr oM).then P;have a:=P.get (e.get (c.get (h.get l id) id) oM) id;refine al.mk (λb=>Ok.mk ⟨by unfold lV;rw[K,Zq sM,Zx b],p⟩) (λb=>⟨_,ae a rfl,PC.ok bX ?_⟩);have A:lV d d6=if !within d6.group 1 3|| !within d6.make 1 5 then 2 else 0:=by unfold lV;rw[K,Zq sM,b];rfl
   rintro _ _ ⟨rfl,rfl⟩;refine⟨_,rfl,al.not (al.mk (λq=>⟨_,ae a rfl,PC.ok bX ?_⟩) (λq=>Ok.mk ⟨by rw[A,q];rfl,p⟩))⟩;rintro _ _ ⟨rfl,rfl⟩;exact⟨_,rfl,al.not (al.mk (λB=>Ok.mk ⟨by rw[A,q,B];rfl,p⟩) (λB=>Ok.mk ⟨by rw[A,q,B];rfl,p⟩))⟩
end
def Tf(n:Int×Int×Int):ia ZP 350 [ZH n.1,ZH n.2.1,ZH n.2.2]=true:=kR
def JH{n b:Type}[BEq n][LawfulBEq n]{P:n}{e c:b}:∀a:List (n×b),aH (aH a P e) P c=aH a P c
 |[]=>by simp[aH]
 |(f,g)::a=>by
  by_cases d:P==f
  ·simp[d,aH]
  ·simp[d,aH,JH a]
variable{K:Bool}{d4:Int×Int}{b:World}{o:aj}
section
variable {w w':World} {p:Nat} {F T D:ZN} {V:aV} {q:EP}
def Hc(w:World)(p:Nat)(F D:ZN)(V:aV)(n:aj)(b:Value)(w':World):Prop:=
 b= .tuple #[.bool (V.try n).1,.agg #[ZH (V.try n).2.1.1,ZH (V.try n).2.1.2]]/\∃a,cg w' p a (V.try n).2.2/\ak F w w'/\∀P,a P->F P\/D P\/w.heap.size<=P
def RA(a:cg w p F V)(n:ai w w')(P:V.try o=(K,d4,V)):Ok (Hc w p F D V o) (.returned (.tuple #[.bool K,.agg #[ZH d4.1,ZH d4.2]])) w':=by
 refine Ok.mk ⟨by rw[P],F,?_,ai.af n,λK b=>.inl b⟩;rw[P];exact a.ah n
def ER(h:yC b p F V q)(n:Int×Int×Int):∃P a c d,(aF q.l2 n).getD (.slice none 0 0)= .slice P a c/\(aF V.done n).getD []=d/\(aM jB 63 (q.P F (.done n)) b P a c d):=by
 rcases h.Wj.aF n with⟨e,f⟩|⟨k,d,e,f,P,a,c,rfl,j⟩
 ·exact⟨none,0,0,[],by rw[e];rfl,by rw[f];rfl,(aM.nil b).mono (λi g=>g.elim) λi g=>h.aC i g.1⟩
 ·exact⟨P,a,c,d,by rw[e];rfl,by rw[f];rfl,j⟩
def RB(b:cg w p F V)(hT:eP w)(hr:Row aI 8 w D d a o.aQ)(C:∀n,D n->n<w.heap.size/\¬F n)(he:o.Ok)(P:((aF V.done (o.aU,o.agg,o.field)).getD []).length<=20000000):
  YX 199 #[ZL p,jQ o d a c] w (Ok (Hc w p F D V o)):=by
 have l3:=b;obtain⟨hV,q,b⟩:=b;have f:=b.aC;have C1:=f _ b.lp.1;refine yX (PA.mk λE t9 C2 u0=>PA.mk λo5 o6 C3 u1=>λl4 o7=>?_);have l5:ai o5 l4:=o7.af;have C4:l4.heap.size=o5.heap.size:=by rw[o7.heap]
 have k0:ai w l4:=(t9.then o6).then l5;have ge:=l5.get (o6.get u0 id) id;have gb:=l5.get u1 id;have Q:=b.ah k0;refine⟨p,0,rfl,_,_,_,_,_,_,ae Q.at' rfl,ae Q.at' rfl,_,ae ge rfl,_,ae ge rfl,_,ae ge rfl,_,ae ge rfl,PC.ok (xN (hT.ah k0) Q.Rz λn P=>Q.aC n P.1) ?_⟩;rintro _ R ⟨rfl,S⟩;have k1:=k0.then S;have C5:=S.size;have c1:=S.get gb id;have c3:=S.get ge id;have k:∀{w1:World} {i:Int×Int} {n:Bool},ai R w1->V.try o=(n,i,V)->∀w2,br w1 w2->∀(x H:Int),x=i.1->H=i.2->PS w2 ⟨E.heap.size,0,none⟩ (ZH x) λw3=>PS w3 ⟨E.heap.size,0+1,none⟩ (ZH H) λw4=>∃(o8 o9:Int),w4.cell? ⟨E.heap.size,0,none⟩=some (ZH o8)/\w4.cell? ⟨E.heap.size,0+1,none⟩=some (ZH o9)/\Ok (Hc w p F D V o) (.returned (.tuple #[.bool n,.agg #[ZH o8,ZH o9]])) w4:=λ{w1 i n} hk I w2 f7 x H hx j=>by
  have k2:ai w1 w2:=f7.af;have kk:=(k1.then hk).then k2;have g2:=k2.get (hk.get c1 id) id;subst hx j;refine PS.mk g2 sM λw3 k3 s3 g3=>PS.mk g3 sM λw4 J s4 g4=>⟨_,_,ae g4 rfl,ae g4 rfl,RA l3 ((kk.new k3 λn P=>.inr oM).new J λn P=>.inr oM) I⟩
 refine⟨_,rfl,al.dQ (λd6=>λu2 p0=>?_) (λg8=>?_)⟩
 ·have p1:=(p0.af (S:=λ_=>False)).get c1 id
  exact⟨_,_,ae p1 rfl,ae p1 rfl,k (i:=(0,0)) (ak.refl _) (by rw[aV.rG,Zx d6]) u2 p0 _ _ rfl rfl⟩
 obtain⟨c4,t0,t1,C6⟩:=MP hV.decl g8 (hV.len o);obtain⟨v,p2⟩:∃v:Nat,o.aU=v:=⟨o.aU.toNat,oM⟩
 have l6:=c4.f0;have l7:=c4.f1;obtain⟨fi,g1⟩:∃fi:Nat,o.field=fi:=⟨o.field.toNat,oM⟩
 have u3:V.decl.at o.aU=V.decl.types.getD v []:=by
  unfold aN.at;rw[Zx (bz.2 ⟨t0,oM⟩),p2,Qx]
 obtain⟨tb,lX,es,u4,u5,p3,u6,fa,fn,fc,rfl,y⟩:=(Q.ah S).Rz.aU.el v V.decl.types[v] sM;have y:Row rN 48 R (q.P F .Rz) fa fn (V.decl.at o.aU):=by
  rw[u3];have:V.decl.types.getD v []=V.decl.types[v]:=by simp[QQ,show v<V.decl.types.length by omega]
  rw[this];exact y
 have C7:=(Q.ah S).Rz.aU.len;have g9:=u6 0 dC;have u7:mT.k=1:=rfl;rw[u7,Nat.mul_one]at g9;have u9:=f tb p3.1;refine⟨λT v0 ab ao w'=>v0=0/\ao=0/\ai R w'/\w'.heap[T]? =some (.cells #[.slice fa fn fc] 118 (0,0))/\w'.heap[ab]? =some (.cells #[ZH o.aU,ZH o.agg,ZH o.field] 350 (0,0))/\R.heap.size<=T/\R.heap.size<=ab,?_,?_⟩
 ·intro K p4
  have d7:ai R K:=p4.af;have C8:K.heap.size=R.heap.size:=by rw[p4.heap]
  have p5:=(Q.ah S).ah d7;have c5:=d7.get c3 id;refine⟨λn=>K.heap.size<=n,p,0,rfl,oM,_,_,_,ae p5.at' rfl,by show¬K.heap.size<=w.heap.size;omega,_,ae c5 rfl,tb,lX,u4,t0,by omega,by show¬K.heap.size<=tb;omega,fa,fn,fc,?_,by show¬K.heap.size<=w.heap.size;omega,_,ae c5 rfl,by show¬K.heap.size<=w.heap.size;omega,_,ae c5 rfl,by show¬K.heap.size<=w.heap.size;omega,_,ae c5 rfl,?_,?_⟩
  ·rw[p2,Qx]
   exact(d7.cell (a:=⟨tb,lX+v,none⟩) u5 id).trans g9
  ·refine PA.mk λv1 d8 v2 l8=>⟨ai.af d8,PA.mk λv3 U v4 l9=>⟨ai.af U,PS.mk (U.get l8 id) sM λv5 W v6 m0=>⟨W.mono λn _ o=>oM,az (Tf (o.aU,o.agg,o.field)) (W.get l9 oM) rfl λv7 X v8 m1=>⟨X.mono λn _ o=>oM,rfl,rfl,?_,X.get m0 oM,m1,oM,oM⟩⟩⟩⟩
   exact(((d7.then d8).then U).new W λn P=>.inr oM).new X λn P=>.inr oM
  ·refine PA.mk λv1 d8 v2 l8=>⟨ai.af d8,PA.mk λv3 U v4 l9=>⟨ai.af U,PS.mk l9 sM λv5 W v6 m0=>⟨W.mono λn _ o=>oM,az (Tf (o.aU,o.agg,o.field)) (W.get (U.get l8 id) oM) rfl λv7 X v8 m1=>⟨X.mono λn _ o=>oM,rfl,rfl,?_,X.get m0 oM,m1,oM,oM⟩⟩⟩⟩
   exact(((d7.then d8).then U).new W λn P=>.inr oM).new X λn P=>.inr oM
 rintro T _ ab _ _ p6 ⟨rfl,rfl,p7,p8,h0,y8,C9⟩;have k2:=k1.then p7;have d9:=b.ah k2;obtain⟨da,dn,dc,h,v9,m2,p9⟩:=ER d9 (o.aU,o.agg,o.field);rw[m2]at P;refine⟨p,0,rfl,_,ae d9.at' rfl,ar (cs:=[ZH o.aU,ZH o.agg,ZH o.field]) (Tf (o.aU,o.agg,o.field)) h0 ⟨da,dn,dc,λb1=>?_,λq0 x0=>?_⟩⟩
 ·have:=dX XA Xl (d9.dn.ah (ak.drewN p6 b1)) (o.aU,o.agg,o.field) false
  rw[v9]at this;exact this
 have g5:ai p6 q0:=x0.af;have D0:=p9.len dC;have m3:=(p9.ah g5).row (bytes:=96) dC ba;refine⟨λb1 a5 w'=>∃g:Nat,a5=g/\g<=dn/\b1=dn-g/\(∀x∈h.take g,mz ((V.decl.at o.aU).getD o.field.toNat ⟨0,0,false,[]⟩) x o=false)/\ai q0 w',⟨_,0,rfl,Qj _,rfl,sM,ak.refl _⟩,?_⟩;rintro b1 _ _ m4 ⟨g,rfl,hj,rfl,e0,e1⟩;have k3:=(p7.then g5).then e1;have h6:=e1.get (g5.get p8 id) id;have q1:=e1.get (g5.get h0 id) id;have h7:=k3.get c3 id;have c7:∀{r:Bool×(Int×Int)×aV},(match h.find? λx=>mz ((V.decl.at o.aU).getD o.field.toNat ⟨0,0,false,[]⟩) x o with
  |some x=>(true,aY x,V)
  |none=>if wj (V.decl.at o.aU) (V.cellsOf o) o.field o.op o.arg≠0 then(true,(0,0),V)else
   (false,(0,0),{V with eg:=aH V.eg (o.aU,o.agg) ⟨pd (((aF V.eg (o.aU,o.agg)).getD ⟨0,[]⟩).version+1),RR (V.decl.at o.aU) (V.cellsOf o) o.field o.op o.arg⟩,done:=aH V.done (o.aU,o.agg,o.field) (h++[o])}))=r->V.try o=r:=λ{r} hr=>by
  rw[aV.rG,Zq (by simpa using g8),m2];exact hr
 refine al.dec (λD1=>?_) (λD2=>?_)
 ·have g6:g<h.length:=oM
  obtain⟨db,b5,es,x1,D3,D4,q2,xa,xn,xc,rfl,q3,q4⟩:=(m3.ah e1).el g h[g] (Qq g6);have g7:h[g]? =some h[g]:=Qq g6;generalize h[g]=x at q2 q3 q4 g7;refine⟨db,b5,x1,oM,oM,bA (es:=aE x xa xn xc) (k:=10) (aW x xa xn xc) rfl (λa5 I=>q2 a5 I) (PA.mk λD5 x2 D6 x3=>az (aW x xa xn xc) x3 rfl λq5 x4 D7 x5=>λx6 x7=>?_)⟩;have m5:ai m4 q5:=x2.new x4 λn P=>.inr oM;have q6:ai q5 x6:=x7.af;have J:=m5.then q6;have e2:=k3.then J;obtain⟨fb,fo,b6,b7,b8,x8,D8,D9,f9,h1,h2,h3,E0⟩:=Fy (y.ah e2) (i:=fi) (by rw[y.len];omega);have h8:=q6.get x5 id;refine⟨_,_,_,ae (J.get h6 id) rfl,_,ae (J.get h7 id) rfl,fb,fo,x8,l6,by rw[y.len];exact l7,?_⟩;rw[g1,Qx];refine bA (es:=eL ((V.decl.at o.aU).getD fi ⟨0,0,false,[]⟩) b6 b7 b8) (k:=4) (gj _ _ _ _) rfl (λa5 I=>?_) (ar (aW x xa xn xc) h8 (ar (aW o d a c) (J.get h7 id) (PC.ok (Bl (q3.ah J) ((hr.ah k1).ah e2)) ?_)))
  ·match a5,I with
   |0,_=>exact f9
   |1,_=>exact h1
   |2,_=>exact h2
   |3,_=>exact h3
  rintro _ E1 ⟨rfl,m6⟩;have x9:(V.decl.at o.aU).getD fi ⟨0,0,false,[]⟩=(V.decl.at o.aU).getD o.field.toNat ⟨0,0,false,[]⟩:=by rw[g1,Qx]
  rw[x9];refine⟨_,rfl,al.mk (λhv=>λy0 q7=>?_) (λhv=>⟨_,?_,g+1,aq oM,oM,rfl,λH j=>?_,(e1.then J).then m6⟩)⟩
  ·have q8:=(q7.af (S:=λ_=>False)).get (m6.get h8 id) id
   refine⟨_,_,ae q8 rfl,ae q8 rfl,k (e2.then m6) (i:=aY x) (c7 ?_) y0 q7 _ _ rfl rfl⟩;have hf:h.find? (λx=>mz ((V.decl.at o.aU).getD o.field.toNat ⟨0,0,false,[]⟩) x o)=some x:=by
    rw[List.find?_eq_some_iff_append];refine⟨hv,h.take g,h.drop (g+1),?_,λH j=>by rw[e0 H j];rfl⟩;rw[<-ZX g h]
    congr 1
    ·rw[ZX]
    ·rw[ZX,X4 g6]
     congr 1
     rw[Qq g6]at g7;exact XJ g7
   rw[hf]
  ·omega
  ·rw[Qw,g7]at j
   rcases Q6.1 j with j|j
   ·first|exact e0 H j|(rw[<-g1];exact e0 H j)
   ·simp at j;subst j;first|exact hv|(rw[<-g1];exact hv)
 ·have E2:g=dn:=oM
  rw[Qz oM]at e0;have m7:h.find? (λx=>mz ((V.decl.at o.aU).getD o.field.toNat ⟨0,0,false,[]⟩) x o)=none:=List.find?_eq_none.2 λx hx=>by rw[e0 x hx];simp
  rw[m7]at c7;intro Y h9;have c8:ai m4 Y:=h9.af;have y9:Y.heap.size=m4.heap.size:=by rw[h9.heap]
  have k5:=k3.then c8;have e8:=k1.then k5;have z5:=k5.size;have z3:=k3.size;have b9:=b.ah e8;have b2:=c8.get q1 id;have c0:=c8.get h6 id;have m8:=k5.get c3 id;have E3:=c8.size;have z0:=ax b2;have z2:=ax c0;obtain⟨s,n,l,m,z,e,Z,h4,h5,d4⟩:∃(s:mG) (n:Bool) (l:YQ) (m z:Nat),(aF q.l1 (o.aU,o.agg)).getD (.agg #[ZH 0,.slice none 0 0])= .agg #[ZH s.version,.slice l m z]/\(aF q.l1 (o.aU,o.agg)).isSome=n/\(aF V.eg (o.aU,o.agg)).getD He=s/\(n=true->V.cellsOf o=s.cells)/\Row eG 32 Y (q.P F .V_) l m s.cells/\(n=false->V.cellsOf o=dF (V.decl.at o.aU)):=by
   unfold aV.cellsOf;rcases b9.Wa.aF (o.aU,o.agg)with⟨e,Z⟩|⟨f0,s,e,Z,l,m,z,rfl,hr⟩
   ·exact⟨He,false,none,0,0,by rw[e];rfl,by rw[e];rfl,by rw[Z];rfl,λb=>(by cases b),Row.nil _ _,λ_=>by rw[Z]⟩
   ·exact⟨s,true,l,m,z,by rw[e];rfl,by rw[e];rfl,by rw[Z];rfl,λ_=>by rw[Z],hr,λb=>(by cases b)⟩
  obtain⟨d4,k4⟩:=d4;refine⟨λn=>n=Y.heap.size,p,0,rfl,oM,_,ae b9.at' rfl,oM,_,_,ae b2 rfl,ae b2 rfl,s.version,l,m,z,n,λw' hk=>?_,PA.mk λz4 i0 z7 q9=>⟨ai.af i0,PS.mk q9 sM λz8 i1 z9 r0=>PS.mk r0 sM λr3 i2 A0 i3=>⟨i1.then i2,?_⟩⟩⟩
  ·have:=dX Xm UP (b9.st.af hk (by have:=f _ b.l1.1;omega)) (o.aU,o.agg) true
   rw[e,Z]at this;exact this
  have k6:ai Y r3:=(i0.new i1 λn P=>.inr oM).new i2 λn P=>.inr oM;refine⟨λw'=>ai Y w'/\∃l m z Dc,w'.heap[Y.heap.size]? =some (.cells #[ZH s.version,.slice l m z] 49 (0,0))/\Row eG 32 w' Dc l m (V.cellsOf o)/\∀n,Dc n->n<w'.heap.size,?_,?_⟩
  ·refine al.not (al.mk (λy1=>⟨k6,l,m,z,_,i3,by rw[h5 y1];exact d4.ah k6,λn P=>by have:=f n P.1;have:=k6.size;have:=e8.size;omega⟩) (λy2=>⟨_,_,_,ae (k6.get c0 id) rfl,PC.ok (HC (t:=V.decl.at o.aU) rfl (y.len) (by rw[y.len];omega)) ?_⟩))
   rintro _ A1 ⟨l1,n6,l2,G6,rfl,r4,k7,y3⟩;have z6:=k6.size;refine⟨_,_,_,rfl,PS.mk (k7.get i3 id) sM λA2 i4 A3 r5=>⟨(k6.then k7).new i4 λn P=>.inr oM,l1,n6,l2,G6,r5,?_,λn P=>by have:=r4.aC n P;omega⟩⟩;rw[k4 y2];exact(r4.af i4 λn P o=>by have:=y3 n P;omega).row dC (by unfold aK dF;simp;omega)
  rintro _ A4 ⟨a3,l,m,z,Dc,f1,d4,y4⟩;have A5:=a3.size;have f2:=k5.then a3;have f3:=a3.get c0 id;have m9:=a3.get b2 id;have c2:=a3.get m8 id;refine⟨_,_,_,ae f3 rfl,_,_,_,ae f1 rfl,_,ae c2 rfl,_,ae c2 rfl,_,ae c2 rfl,PC.ok (HB c4 (y.ah f2) d4) ?_⟩;rintro _ r6 ⟨rfl,a0⟩;have k8:=f2.then a0;refine⟨_,rfl,al.dQ (λd6=>λr7 i5=>?_) (λy5=>λc9 r8=>?_)⟩
  ·have i6:=(i5.af (S:=λ_=>False)).get (k8.get c1 id) id
   refine⟨_,_,ae i6 rfl,ae i6 rfl,k (i:=(0,0)) k8 (c7 ?_) r7 i5 _ _ rfl rfl⟩;simp only;rw[Zx d6]
  have f4:wj (V.decl.at o.aU) (V.cellsOf o) o.field o.op o.arg=0:=y5;have a1:ai r6 c9:=r8.af;have k9:=k8.then a1;have n0:=(a3.then a0).then a1;have c6:=k1.then k9;have n1:=b.ah c6;have b3:=k9.get c3 id;have d2:=(a0.then a1).get m9 id;have n3:=(a0.then a1).get f3 id;have f5:=(a0.then a1).get f1 id;have E4:=f _ b.l1.1;have E5:=f _ b.l2.1;have A6:=n0.size;have y6:=c6.size;have e9:¬p=q.r1:=λo=>by have e:=b.lp.2;rw[o,b.l1.2]at e;cases e
  have i7:¬p=q.r2:=λo=>by have e:=b.lp.2;rw[o,b.l2.2]at e;cases e
  have i8:¬q.r1=q.r2:=λo=>by have e:=b.l1.2;rw[o,b.l2.2]at e;cases e
  refine⟨λn=>n=q.r1,p,0,rfl,e9,_,ae n1.at' rfl,oM,_,_,ae d2 rfl,ae d2 rfl,oM,_,ae f5 rfl,_,_,_,ae n3 rfl,_,_,_,ae f5 rfl,_,ae b3 rfl,_,ae b3 rfl,_,ae b3 rfl,PC.ok (RT c4 f4 he.arg oM (y.ah k9) (λn P=>by have:=f n P.1;omega) (d4.ah (a0.then a1)) λn P=>by have:=y4 n P;have:=(a0.then a1).size;omega) ?_⟩;rintro _ a6 ⟨r9,s1,s2,G,rfl,i9,a4,hG⟩;have e3:=c6.then a4;have t:=b.ah e3;have A7:=a4.size;refine⟨_,_,_,rfl,ai.af a4,dd (enc:=oV) (k:=(o.aU,o.agg)) Xm UP t.st λj0 s5 j1 A8=>⟨j1,λd0 j2=>?_⟩⟩;have j3:ai j0 d0:=j2.af;have A9:d0.heap.size=j0.heap.size:=by rw[j2.heap]
  have A:ak (·=q.r1) a6 d0:=j1.ah j3;have key:∀n,F n/\q.cls n= .done (o.aU,o.agg,o.field)->n≠p/\n≠q.r1/\n≠q.r2:=λn P=>
   ⟨λo=>(by have e:=b.lp.2;rw[<-o,P.2]at e;cases e),λo=>(by have e:=b.l1.2;rw[<-o,P.2]at e;cases e),λo=>(by have e:=b.l2.2;rw[<-o,P.2]at e;cases e)⟩
  have n4:=A.get t.at' e9;have n8:=A.get (a4.get d2 id) oM;have u:=A.get (a4.get b3 id) oM;have n9:=t.dn.af A (λo=>i8 o.symm);have o0:=A.get (a4.get (k9.get c1 id) id) oM;obtain⟨a2,a7,e4,n5,s6,j4,j5⟩:=ER t (o.aU,o.agg,o.field);rw[m2]at j4;subst j4;have o1:=j5.af A λn P o=>(key n P).2.1 o;have B0:=A.size;refine⟨λn=>n=q.r2\/(F n/\q.cls n= .done (o.aU,o.agg,o.field)),p,0,rfl,λB=>B.elim i7 λB=>(key p B).1 rfl,_,ae n4 rfl,λB=>B.elim (λo=>oM) λB=>by have:=f _ B.1;omega,
   ar (cs:=[ZH o.aU,ZH o.agg,ZH o.field]) (Tf (o.aU,o.agg,o.field)) n8 ⟨_,_,_,_,_,_,_,_,_,_,_,_,ae u rfl,ae u rfl,ae u rfl,ae u rfl,ae u rfl,ae u rfl,ae u rfl,ae u rfl,ae u rfl,ae u rfl,
   PA.mk λB1 a8 B2 s7=>⟨ai.af a8,GG (enc:=CA) (k:=(o.aU,o.agg,o.field)) XA Xl (n9.ah a8) λB3 x s8 o2 a9 B4=>⟨a2,a7,e4,x,by rw[s6],a9.mono λn _ o=>.inl o,?_⟩⟩⟩⟩
  have o3:=(o1.ah a8).af a9 λn P o=>(key n P).2.2 o;have s9:=a9.get s7 oM;have b4:∀n,aD a2=some n->F n/\q.cls n= .done (o.aU,o.agg,o.field):=λn P=>j5.self n P;have y7:=(((hr.ah e3).af A λn P o=>(C n P).2 (o▸b.l1.1)).ah a8).af a9 λn P o=>(C n P).2 (o▸b.l2.1);refine eH (c:=jB) o3 JM s9 (D:=D) (x:=o) ⟨d,a,c,rfl,y7,he⟩ (λn P=>⟨by have:=(C n P).1;omega,λee=>(C n P).2 (b4 n ee).1⟩) ba (by unfold maxLen;omega) λa' L t2 F2 f6 b0 o4=>⟨_,_,_,rfl,b0.mono λn _ P=>.inr (b4 n P),?_⟩
  have t3:¬aD a2=some q.r2:=λee=>(key _ (b4 _ ee)).2.2 rfl;refine BV Xl (s8.af b0 t3) (o2.af b0 t3) λj6 t4 f8 B5=>⟨f8.mono λn _ o=>.inl o,λd1 j7=>?_⟩
  have g0:ai j6 d1:=j7.af;have B6:d1.heap.size=j6.heap.size:=by rw[j7.heap]
  have B7:=b0.size;have kb:ak (λn=>n=q.r2\/(F n/\q.cls n= .done (o.aU,o.agg,o.field))) d0 d1:=((((ai.af a8).then (a9.mono λn _ o=>.inl o)).then (b0.mono λn _ P=>.inr (b4 n P))).then (f8.mono λn _ o=>.inl o)).then (ai.af g0);have e5:=kb.get o0 (λB=>B.elim (λo=>oM) λB=>by have:=f _ B.1;omega);refine⟨_,_,ae e5 rfl,ae e5 rfl,PS.mk e5 sM λB8 j8 B9 t5=>PS.mk t5 sM λd3 j9 C0 l0=>⟨_,_,ae l0 rfl,ae l0 rfl,?_⟩⟩;have M:ak (λn=>n=q.r1\/n=q.r2\/(F n/\q.cls n= .done (o.aU,o.agg,o.field))\/n=E.heap.size) a6 d3:=
   ((A.mono λn _ o=>.inl o).then (kb.mono λn _ P=>P.elim (λo=>.inr (.inl o)) λP=>.inr (.inr (.inl P)))).then ((j8.mono λn _ o=>.inr (.inr (.inr o))).then (j9.mono λn _ o=>.inr (.inr (.inr o))))
  have kc:ak (·=E.heap.size) d1 d3:=j8.then j9;have zT:=M.size;have I:=c7 (r:=(false,(0,0),{V with eg:=aH V.eg (o.aU,o.agg) ⟨pd (((aF V.eg (o.aU,o.agg)).getD ⟨0,[]⟩).version+1),RR (V.decl.at o.aU) (V.cellsOf o) o.field o.op o.arg⟩,done:=aH V.done (o.aU,o.agg,o.field) (h++[o])})) (by simp only;rw[Zq (by simpa using f4)]);have t6:=(aV.RC hV o).1;refine Ok.mk ⟨by rw[I],λn=>n<d3.heap.size/\(F n\/D n\/w.heap.size<=n),?_,?_,λn P=>P.2⟩
  rotate_left
  ·exact(ai.af e3).trans M (λ_ _ b=>b) λn P hT=>by
    rcases hT with rfl|rfl|hT|rfl
    ·exact b.l1.1
    ·exact b.l2.1
    ·exact hT.1
    ·omega
  rw[I]at t6⊢;have t7:∀n,G n->c9.heap.size<=n/\n<a6.heap.size:=λn P=>⟨hG n P,i9.aC n P⟩
  have N:∀n,F n->n<d3.heap.size:=λn P=>by have:=f n P;omega
  classical
  have O:∀n,F n->(if F n then q.cls n else if c9.heap.size<=n/\n<a6.heap.size then JG.V_ else JG.done (o.aU,o.agg,o.field))=q.cls n:=λn P=>Zx P;refine⟨t6,⟨q.ta,q.tn,q.tc,q.pa,q.pn,q.pc,q.ea,q.en,q.ec,q.r1,q.r2,aH q.l1 (o.aU,o.agg) (.agg #[ZH (pd (s.version+1)),.slice r9 s1 s2]),aH q.l2 (o.aU,o.agg,o.field) (.slice a' (a7+1) L),λn=>if F n then q.cls n else if c9.heap.size<=n/\n<a6.heap.size then JG.V_ else JG.done (o.aU,o.agg,o.field)⟩,?_,?_,?_,?_,?_,?_,?_,λn P=>P.1,⟨⟨N _ b.lp.1,.inl b.lp.1⟩,(O _ b.lp.1).trans b.lp.2⟩,⟨⟨N _ b.l1.1,.inl b.l1.1⟩,(O _ b.l1.1).trans b.l1.2⟩,⟨⟨N _ b.l2.1,.inl b.l2.1⟩,(O _ b.l2.1).trans b.l2.2⟩⟩
  ·exact M.get t.at' λB=>by
    rcases B with B|B|B|B
    ·exact e9 B
    ·exact i7 B
    ·exact(key _ B).1 rfl
    ·omega
  ·refine(t.Rz.af M λn P B=>?_).mono λn P=>⟨⟨N n P.1,.inl P.1⟩,(O n P.1).trans P.2⟩
   have d5:=f n P.1;rcases B with rfl|rfl|B|B
   ·have:=b.l1.2;rw[P.2]at this;cases this
   ·have:=b.l2.2;rw[P.2]at this;cases this
   ·have:=B.2;rw[P.2]at this;cases this
   ·omega
  ·refine(t.OG.af M λn P B=>?_).mono (λn P=>⟨⟨N n P.1,.inl P.1⟩,(O n P.1).trans P.2⟩) λn P=>P.1.1
   have d5:=f n P.1;rcases B with rfl|rfl|B|B
   ·have:=b.l1.2;rw[P.2]at this;cases this
   ·have:=b.l2.2;rw[P.2]at this;cases this
   ·have:=B.2;rw[P.2]at this;cases this
   ·omega
  ·exact((s5.ah j3).af kb λB=>B.elim i8 λB=>(key _ B).2.1 rfl).af kc oM
  ·refine fu.aH ?_ ?_
   ·refine⟨r9,s1,s2,by rw[h4],?_⟩
    refine((i9.row (bytes:=32) dC ?_).af M λn P B=>?_).mono λn P=>?_
    ·rw[MQ,hV.len];unfold aK;omega
    ·have d5:=t7 n P
     rcases B with rfl|rfl|B|B
     ·omega
     ·omega
     ·have:=f n B.1;omega
     ·omega
    ·have d5:=t7 n P
     refine⟨⟨oM,.inr (.inr oM)⟩,?_⟩;show(if F n then _ else _)=_;rw[Zq (λhf=>by have:=f n hf;omega),Zx d5]
   ·refine t.Wa.mono λf0 n7 hu=>?_
    obtain⟨e6,n2,e7,rfl,hu⟩:=hu;refine⟨e6,n2,e7,rfl,(hu.af M λn P B=>?_).mono λn P=>⟨⟨N n P.1,.inl P.1⟩,(O n P.1).trans P.2⟩⟩;have d5:=f n P.1;rcases B with rfl|rfl|B|B
    ·have:=b.l1.2;rw[P.2]at this;cases this
    ·have:=b.l2.2;rw[P.2]at this;cases this
    ·have:=B.2;rw[P.2]at this;cases this
    ·omega
  ·have:=(t4.ah g0).af kc (by show¬q.r2=E.heap.size;omega)
   rw[JH]at this;exact this
  ·refine oJ.aH ?_ t.Wj ?_ t.dn.tidy
   ·refine⟨a',_,L,rfl,?_⟩
    have t8:∀n,F2 n->n<t2.heap.size/\n≠E.heap.size:=λn P=>by
     refine⟨f6.aC n P,λo=>?_⟩;rcases o4 n P with e|e|e
     ·have:=f n e.1;omega
     ·have:=(C n e).1;omega
     ·omega
    refine((f6.af f8 λn P o=>?_).ah g0|>.af kc λn P o=>(t8 n P).2 o).mono (λn P=>?_) λn P=>P.1.1
    ·rcases o4 n P with e|e|e
     ·exact(key n e).2.2 o
     ·exact(C n e).2 (o▸b.l2.1)
     ·omega
    ·have:=(t8 n P).1
     have hz:=kc.size;rcases o4 n P with e|e|e
     ·exact⟨⟨N n e.1,.inl e.1⟩,(O n e.1).trans e.2⟩
     ·refine⟨⟨oM,.inr (.inl e)⟩,?_⟩
      show(if F n then _ else _)=_;rw[Zq (C n e).2,Zq (by have:=(C n e).1;omega)]
     ·refine⟨⟨oM,.inr (.inr oM)⟩,?_⟩
      show(if F n then _ else _)=_;rw[Zq (λhf=>by have:=f n hf;omega),Zq oM]
   ·intro r1 f0 n7 d6 hu
    obtain⟨e6,n2,e7,rfl,hu⟩:=hu;refine⟨e6,n2,e7,rfl,(hu.af M λn P B=>?_).mono (λn P=>⟨⟨N n P.1,.inl P.1⟩,(O n P.1).trans P.2⟩) λn P=>P.1.1⟩;have d5:=f n P.1;rcases B with rfl|rfl|B|B
    ·have:=b.l1.2;rw[P.2]at this;cases this
    ·have:=b.l2.2;rw[P.2]at this;cases this
    ·have:=B.2;rw[P.2]at this
     simp only[JG.done.injEq]at this;exact d6 this
    ·omega
end
variable{f:ZN}{e5:YQ}
section
variable {w w':World} {p:Nat} {F T D:ZN} {V:aV} {q:EP}
abbrev EU(n:cC)(P:YQ)(a b:Nat):Value:=.agg (h_ n P a b).toArray
def Hh(L:cg w p F V)(hT:eP w)(hr:Row aI 8 w D d a o.aQ)(m:∀n,D n->n<w.heap.size/\¬F n)(he:o.Ok)(P:((aF V.done (o.aU,o.agg,o.field)).getD []).length<=20000000)(M:V.entries.length<=20000000):
  YX 124 #[ZL p,jQ o d a c] w (Ok λW w'=>∃d a c G,W=EU (V.add o).1 d a c/\Row aI 8 w' G d a o.aQ/\∃X,cg w' p X (V.add o).2/\bB F w X w'/\∀n,G n->w.heap.size<=n/\n<w'.heap.size/\¬X n):=by
 have Y:=L.aC;have h3:=Y _ L.self;refine yR (PA.mk λt e6 h4 d1=>PA.mk λh5 Z h6 e7=>?_);have k0:=e6.then Z;refine ar (aW o d a c) (Z.get d1 id) (PC.ok (oB (hr.ah k0) λn P=>by have:=(m n P).1;omega) ?_);rintro _ h7 ⟨a6,n1,c1,G1,rfl,e8,u,N⟩;have a0:=k0.then N;refine bT (rL o a6 n1 c1) ⟨rfl,PC.ok (RB (L.ah a0) (hT.ah a0) e8 (λn P=>⟨(u n P).2,λi=>by have:=Y n i;have:=u n P;omega⟩) he P) ?_⟩;rintro _ v ⟨rfl,e,b8,O,Q⟩;have h8:=N.size;have h9:=O.size;have b0:∀n,e n->F n\/w.heap.size<=n:=λn P=>by
  rcases Q n P with b|b|b
  ·exact .inl b
  ·have:=u n b;exact .inr oM
  ·exact .inr oM
 have b1:ak F w v:=(ai.af a0).then O;have R:∀{n:Nat},w.heap.size<=n->¬F n:=λ{n} P i=>by have:=Y n i;omega
 have d2:=O.get (N.get (Z.get d1 id) id) (R (Q4 _));have d3:=O.get (N.get e7 id) (R oM);refine⟨_,_,_,rfl,PA.mk λi0 e9 i1 f2=>PS.mk f2 sM λi2 f3 i3 f4=>PS.mk f4 sM λi4 f5 i5 f8=>λx b9=>?_⟩;have A:ai v x:=((e9.new f3 λn P=>.inr oM).new f5 λn P=>.inr oM).then b9.af;have i6:x.heap.size=v.heap.size+1:=by rw[b9.heap];omega
 have a1:x.heap[v.heap.size]? =some (.cells #[ZH (V.try o).2.1.1,ZH (V.try o).2.1.2] 46 (0,0)):=(b9.af (S:=λ_=>False)).get f8 id;have b2:=A.get d2 id;obtain⟨g9,q,f⟩:=b8.ah A;have c4:=b8.self;have y:=b8.aC;have b3:=((hr.af b1 λn P=>(m n P).2).ah A)
 have a4:(V.try o).2.2.entries=V.entries:=by
  rw[aV.rG];split;rfl;split;rfl;split<;>rfl
 have i7:=f.OG.len dC;have B:∀n,aD q.ea=some n->e n/\q.cls n= .OG:=λn P=>f.OG.self n P;have C:¬aD q.ea=some p:=λj=>by have b:=(B p j).2;rw[f.lp.2]at b;cases b
 refine⟨λn=>aD q.ea=some n,p,0,rfl,C,_,_,_,ae f.at' rfl,ar (aW o d a c) b2 ⟨λj=>by have:=y _ (B _ j).1;omega,_,_,ae a1 rfl,ae a1 rfl,PC.ok (oB b3 λn P=>by have:=(m n P).1;omega) ?_⟩⟩;rintro _ i8 ⟨a7,n2,c2,G2,rfl,g0,z,c5⟩;have i9:=c5.size;refine⟨_,_,_,_,_,_,_,_,_,_,_,_,rfl,ai.af c5,PA.mk λd4 c6 j0 g1=>⟨ai.af c6,?_⟩⟩;have a2:=c5.then c6;refine eH (c:=vZ) (x:=⟨o,(V.try o).1,(V.try o).2.1⟩) (f.OG.ah a2) Ru g1 (D:=G2) ⟨a7,n2,c2,rfl,g0.ah c6,he⟩ (λn P=>⟨by have:=z n P;omega,λj=>by have:=y _ (B _ j).1;have:=z n P;omega⟩) (by rw[a4];unfold aK;omega) (by rw[a4];unfold maxLen;omega) λa' E d5 F2 b4 c7 c8=>⟨_,_,_,rfl,p,0,rfl,?_⟩
 have j1:=c7.size;have d6:=c7.get ((f.ah a2).at') C;refine PS.mk d6 sM λH g2 j2 g3=>λr d7=>?_;have d8:ai H r:=d7.af;have j3:r.heap.size=H.heap.size:=by rw[d7.heap]
 have a5:ak (·=p) d5 r:=g2.ah d8;have k5:ak (λn=>aD q.ea=some n\/n=p) x r:=((ai.af a2).then (c7.mono λn _ P=>.inl P)).then (a5.mono λn _ P=>.inr P);have I:ak e x r:=k5.mono λn _ P=>P.elim (λb=>(B n b).1) λb=>b▸c4;have c9:∀{n:Nat},v.heap.size<=n->¬e n:=λ{n} P i=>by have:=y n i;omega
 have g4:¬e w.heap.size:=λi=>by
  rcases Q _ i with b|b|b
  ·exact R (Q4 _) b
  ·have:=u _ b;omega
  ·omega
 have d0:¬e t.heap.size:=λi=>by
  rcases Q _ i with b|b|b
  ·exact R oM b
  ·have:=u _ b;omega
  ·omega
 have d9:=I.get b2 g4;have e0:=I.get (A.get d3 id) d0;have b5:=I.get a1 (c9 (Q4 _));have e1:∀n,D n->¬e n:=λn P i=>by
  rcases Q _ i with b|b|b
  ·exact(m n P).2 b
  ·have:=u _ b;have:=(m n P).1;omega
  ·have:=(m n P).1;omega
 have e2:=b3.af I e1;have j4:=k5.size;refine⟨λn=>n=t.heap.size,ar (aW o d a c) d9 ⟨oM,_,_,ae b5 rfl,ae b5 rfl,PC.ok (oB e2 λn P=>by have:=(m n P).1;omega) ?_⟩⟩;rintro _ j5 ⟨a3,n3,c3,G3,rfl,g5,e3,J⟩;have j6:=J.size;refine⟨_,_,_,_,_,_,_,_,_,_,_,_,rfl,ai.af J,az (lH ⟨o,(V.try o).1,(V.try o).2.1⟩ a3 n3 c3) (J.get e0 id) rfl λe4 S j7 g6=>⟨S,ar (lH ⟨o,(V.try o).1,(V.try o).2.1⟩ a3 n3 c3) g6 (Ok.mk ⟨a3,n3,c3,G3,rfl,g5.af S λn P j=>by have:=e3 n P;omega,λn=>n<H.heap.size/\(e n\/G2 n\/d4.heap.size<=n),?_,⟨?_,?_⟩,?_⟩)⟩⟩
 ·have g7:=(aV.Ae (by
   have:V.OK:=L.1;exact this) o).1
  have T:ak (λn=>n=t.heap.size) r e4:=(ai.af J).then S;have zc:=T.size;have g8:∀n,e n->n<H.heap.size:=λn P=>by have:=y n P;omega
  classical
  have e5:∀n,e n->(if e n then q.cls n else JG.OG)=q.cls n:=λn P=>Zx P;have K:ak (λn=>(aD q.ea=some n\/n=p)\/n=t.heap.size) x e4:=(k5.mono λn _ P=>.inl P).then (T.mono λn _ P=>.inr P);have g:∀(l:JG) n,l≠.OG->l≠.self->e n/\q.cls n=l->¬((aD q.ea=some n\/n=p)\/n=t.heap.size):=λl n b U P k=>by
   rcases k with(k|k)|k
   ·exact b (P.2.symm.trans (B n k).2)
   ·subst k;exact U (P.2.symm.trans f.lp.2)
   ·subst k;exact d0 P.1
  have h:∀(l:JG) n,e n/\q.cls n=l->((n<H.heap.size/\(e n\/G2 n\/d4.heap.size<=n))/\(if e n then q.cls n else JG.OG)=l):=λl n P=>⟨⟨g8 n P.1,.inl P.1⟩,(e5 n P.1).trans P.2⟩
  refine⟨g7,⟨q.ta,q.tn,q.tc,q.pa,q.pn,q.pc,a',q.en+1,E,q.r1,q.r2,q.l1,q.l2,λn=>if e n then q.cls n else JG.OG⟩,?_,?_,?_,?_,?_,?_,?_,λn P=>by have:=P.1;omega,h _ _ f.lp,h _ _ f.l1,h _ _ f.l2⟩
  ·exact T.get (d8.get g3 id) oM
  ·exact(f.Rz.af K λn P=>g _ n sM sM P).mono (h _)
  ·have M:∀n,F2 n->n<d5.heap.size/\n≠t.heap.size/\n≠p:=λn P=>by
    refine⟨b4.aC n P,λj=>?_,λj=>?_⟩
    ·rcases c8 n P with b|b|b
     ·exact d0 (j▸b.1)
     ·have:=z n b;omega
     ·omega
    ·rcases c8 n P with b|b|b
     ·have U:=b.2;rw[j,f.lp.2]at U;cases U
     ·have:=z n b;have:=y p c4;omega
     ·have:=y p c4;omega
   have:(V.add o).2.entries=(V.try o).2.2.entries++[⟨o,(V.try o).1,(V.try o).2.1⟩]:=rfl;rw[this];refine((b4.af a5 λn P=>(M n P).2.2).af T λn P=>(M n P).2.1).mono (λn P=>?_) λn P=>by have:=P.1.1;omega
   have h0:=(M n P).1;rcases c8 n P with b|b|b
   ·exact h _ n b
   ·have:=z n b
    refine⟨⟨oM,.inr (.inl b)⟩,?_⟩;show(if e n then _ else _)=_;rw[Zq (c9 oM)]
   ·refine⟨⟨oM,.inr (.inr b)⟩,?_⟩
    show(if e n then _ else _)=_;rw[Zq (c9 oM)]
  ·exact f.st.af K (g _ _ sM sM f.l1)
  ·refine f.Wa.mono λW a8 s=>?_
   obtain⟨x1,x2,x3,rfl,s⟩:=s;exact⟨x1,x2,x3,rfl,(s.af K λn P=>g _ n sM sM P).mono (h _)⟩
  ·exact f.dn.af K (g _ _ sM sM f.l2)
  ·refine f.Wj.mono λa9 W a8 s=>?_
   obtain⟨x1,x2,x3,rfl,s⟩:=s;exact⟨x1,x2,x3,rfl,(s.af K λn P=>g _ n sM sM P).mono (h _) λn P=>by have:=P.1.1;omega⟩
 ·have k1:ak e v r:=(ai.af A).then I
  exact((b1.new k1 b0).ah J).new S λn P=>.inr oM
 ·intro n P
  rcases P.2 with b|b|b
  ·exact b0 n b
  ·have:=z n b;exact .inr oM
  ·exact .inr oM
 ·intro n P
  have:=e3 n P;refine⟨oM,oM,λk=>by have:=k.1;omega⟩
def EW(c:aN):∀(a:List aj) (n:aV) (P:Int×Int×Int),(((aF (a.foldl (λn e=>(n.add e).2) n).done P).getD []).length<=((aF n.done P).getD []).length+a.length)/\(a.foldl (λn e=>(n.add e).2) n).entries.length=n.entries.length+a.length
 |[],n,P=>by simp
 |e::a,n,P=>by
  rw[List.foldl_cons];obtain⟨d,f⟩:=EW c a (n.add e).2 P;have i:((aF (n.add e).2.done P).getD []).length<=((aF n.done P).getD []).length+1:=by
   show((aF (n.try e).2.2.done P).getD []).length<=_;rw[aV.rG];split
   ·simp
   split
   ·simp
   split
   ·simp
   ·simp only
    rw[rz];split
    ·rename_i g
     have b:P=(e.aU,e.agg,e.field):=by simpa using g
     rw[b];simp
    ·simp
  have h:(n.add e).2.entries.length=n.entries.length+1:=by
   show((n.try e).2.2.entries++[_]).length=_;have:(n.try e).2.2.entries=n.entries:=by rw[aV.rG];split;rfl;split;rfl;split<;>rfl
   rw[this];simp
  refine⟨?_,by rw[f,h];simp;omega⟩;simp only[Xq]at d⊢;omega
def Hg{tn L q M i N:Nat}(O:cT R=0)(Q:eP w)(S:bf w D R d tn u q)(T:∀n,D n->n<w.heap.size)(r:Row jB 96 w f e5 i J)(s:∀n,f n->n<w.heap.size)(a:J.length<=20000000):
  YX 79 #[.agg #[.slice d tn L,.slice u q M],.slice e5 i N] w (Ok λU w'=>∃p F,U= ZL p/\cg w' p F (cy R J)/\(∀n,F n->w.heap.size<=n)/\ai w w'):=by
 refine Kt (PA.mk λw1 t s1 v=>⟨_,_,_,_,_,_,ae v rfl,ae v rfl,PC.ok (Ho O (S.ah t) λn a=>by have:=T n a;omega) ?_⟩);rintro _ w9 ⟨p,V,rfl,c,W,x⟩;have a9:=r.len;have X:=t.then x;have z9:=x.size;refine⟨_,rfl,λy o w'=>∃P:Nat,o=P/\P<=i/\y=i-P/\∃F,cg w' p F (cy R (J.take P))/\(∀n,F n->w.heap.size<=n)/\ai w w',⟨_,0,rfl,Qj _,rfl,V,c,λn a=>by have:=W n a;omega,X⟩,?_⟩;rintro y _ _ Y ⟨P,rfl,hj,rfl,F,c,j,e⟩;refine al.dec (λb0=>?_) (λb1=>?_)
 ·have z:P<J.length:=oM
  obtain⟨n,Z,es,ha,a0,b2,A,k,l,m,rfl,B,C⟩:=(r.ah e).el P J[P] (Qq z);have E:J[P]? =some J[P]:=Qq z;generalize J[P]=b at A B C E;refine⟨n,Z,ha,oM,oM,bA (es:=aE b k l m) (k:=10) (aW b k l m) rfl (λo ht=>A o ht) (PA.mk λb3 a3 b4 a5=>az (aW b k l m) a5 rfl λa6 a7 b5 a8=>ar (aW b k l m) a8 ?_)⟩;have g:ai Y a6:=a3.new a7 λn a=>.inr oM;have H:=EW R (J.take P) (aV.new R) (b.aU,b.agg,b.field);have b6:=List.length_take_le P J;have b7:((aF (cy R (J.take P)).done (b.aU,b.agg,b.field)).getD []).length<=0+(J.take P).length:=H.1;have b8:(cy R (J.take P)).entries.length=0+(J.take P).length:=H.2;have b9:=e.size;have c1:=g.size;refine PC.ok (Hh (c.ah g) (Q.ah (e.then g)) (B.ah g) (λn a=>⟨by have:=s n a;omega,λhf=>by have:=j n hf;have:=s n a;omega⟩) C oM oM) ?_;rintro _ c2 ⟨a4,n4,c4,G,rfl,-,F',h,I,-⟩;refine bT (OS _ a4 n4 c4) ⟨rfl,_,?_,P+1,aq oM,oM,rfl,F',?_,λn a=>?_,(e.then g).new I.1 λn a=>.inr (j n a)⟩
  ·omega
  ·rw[Qw,E]
   unfold cy at h⊢;rw[List.foldl_append];exact h
  ·rcases I.2 n a with K|K
   ·exact j n K
   ·omega
 ·rw[Qz oM]at c
  exact Ok.mk ⟨p,F,rfl,c,j,e⟩
end
end Go.Proofs.YtjgjkeponbeekaaGreatDoor
namespace Go.au
open Go
variable{a4:List Value}{E a c c2 i p:Nat}{f:ZN}{d u:YQ}{h:Program}{I j:Type}{g q:TypeId}{b:World}{y:ZU}
def OE{cs:List j}{p m:Nat}{v:j}{vs:List j}(n:p<cs.length):(cs.set p v).take (p+1)++vs++(cs.set p v).drop (p+1+m)=cs.take p++(v::vs)++cs.drop (p+(m+1)):=by
 have P:(cs.set p v).take (p+1)=cs.take p++[v]:=by
  rw[Qw,Xj,Zx rfl,Zx n,List.take_set_of_le (Q4 _)];rfl
 have a:(cs.set p v).drop (p+1+m)=cs.drop (p+(m+1)):=by
  rw[List.drop_set_of_lt oM,show p+1+m=p+(m+1) by omega]
 rw[P,a];simp
def Cy{k:TypeId}{l:Nat}{f:YQ}{m c P g d:Nat}{o:ZU}(p:f=some ⟨g,d,none⟩):∀(a:List Value) (n:Nat) {b:World} {cs:List Value},Own b k l f m c cs->P+n+a.length<=cs.length->
  (∀e,Own e k l f m c (cs.take (P+n)++a++cs.drop (P+n+a.length))->ak (λg=>aD f=some g) b e->e.heap.size=b.heap.size->o e)->jf ⟨g,d+P,none⟩ n a b o
 |[],n,b,cs,h,q,i=>i b (by simpa using h) (ak.refl _) rfl
 |v::a,n,b,cs,h,q,i=>by
  unfold jf;rw[Xq]at q;rw[Addr.add_lit,Nat.add_assoc];refine h.set (m:=P+n) oM p λe r s t=>Cy p a (n+1) r be λu j w x=>i u ?_ (s.then w) (x.trans t);have:=OE (cs:=cs) (p:=P+n) (m:=a.length) (v:=v) (vs:=a) oM;rw[show P+(n+1)=P+n+1 from rfl]at j;rw[this]at j;exact j
def Own.store{j P m e c:Nat}{n cs:List Value}(l:Own b q a d j P cs)(o:d=some ⟨e,c,none⟩)(k:ia h g n=true)(p:m+n.length<=cs.length)(i:∀f,Own f q a d j P (cs.take m++n++cs.drop (m+n.length))->ak (λe=>aD d=some e) b f->f.heap.size=b.heap.size->y f):lr h g (.pointer (some ⟨e,c+m,none⟩)) (.agg n.toArray) b y:=by
 simp only[ia,QK]at k;obtain⟨⟨⟨r,w⟩,s⟩,t⟩:=k;unfold lr;have u:Nat.beq n.toArray.size (lS h g)=true:=by simpa using s
 have v:n.toArray.toList.all Value.oneCell'=true:=by simpa using t
 simp only[r,u,v];exact Cy o n 0 l (by simpa using p) i
def eC.store{n:eC j I}{m:List (Bx j)}(w:aM n.jC q f b d a c m){P:Bx j}(x:m[i]? =some P){B s:Nat}(M:d=some ⟨B,s,none⟩)(C:a4=(n.hd P.x u p E).take c2)(a1:n.o<c2)(a2:c2<=n.k)(N:ia h g a4=true)(z:∀r,aM n.jC q f r d a c (m.set i ⟨P.x,u,p,E⟩)->ak (λe=>aD d=some e) b r->r.heap.size=b.heap.size->y r):lr h g (.pointer (some ⟨B,s+i*n.k,none⟩)) (.agg a4.toArray) b y:=by
 obtain⟨cs,D,O,F,Q⟩:=w.body;have H:=bK.nJ.1 F;have R:i<m.length:=(Qv.1 x).1;have J:cs.length=m.length*n.k:=by rw[H];exact lb (λe:Bx j=>n.hl e.x e.a e.n e.c) m
 have t:a4.length=c2:=by rw[C,Qy,n.hl];omega
 have S:(i+1)*n.k<=m.length*n.k:=Q0 _ R;rw[X7,Nat.one_mul]at S;refine O.store (m:=i*n.k) M N (by rw[J,t];omega) λr T U K=>z r ⟨⟨_,D,T,bK.nJ.2 ?_,Q⟩,w.self,λe V=>by rw[K];exact w.aC e V⟩ U K;have W:=qV (enc:=λe:Bx j=>n.hd e.x e.a e.n e.c) (k:=n.k) (λe=>n.hl e.x e.a e.n e.c) (x':=⟨P.x,u,p,E⟩) (v:=.slice u p E) n.ho m i P x (n.eh ..).symm;rw[<-W,<-H,t];have X:∀k,k<n.k->cs[i*n.k+k]? =(n.hd P.x P.a P.n P.c)[k]? :=λk Y=>by
  obtain⟨Z,A,L⟩:=F.at x;have a0:Z=n.hd P.x P.a P.n P.c:=L.1;rw[<-a0];exact A k Y
 apply X3;intro k;have o:∀l,l<c2->a4[l]? =(n.hd P.x u p E)[l]? :=λl hu=>by rw[C,Xw,Zx hu]
 by_cases A:k<i*n.k
 ·rw[XQ,XW (by rw[Qy];omega),Xw,Zx A,Xj,Zq oM]
 ·by_cases L:k<i*n.k+c2
  ·rw[XQ,X8 (by rw[Qy];omega),XW (by rw[Qy,t];omega),Qy,o _ oM]
   obtain⟨l,rfl⟩:∃l,k=i*n.k+l:=⟨k-i*n.k,oM⟩
   rw[X2 oM,Nat.add_sub_cancel_left,Xj];have v:=n.eh P.x P.a P.n P.c u p E;split
   ·rename_i q
    have:l=n.o:=oM
    subst this;rw[Zx (by rw[J];have:=n.ho;omega),<-v,Xj,Zx rfl,Zx (by rw[n.hl];exact n.ho)]
   ·rename_i q
    rw[X l oM,<-v,Xj,Zq oM]
  ·rw[X8 (by rw[QX,Qy,t];omega),QX,Qy,t,List.getElem?_drop,Xj,Zq (by have:=n.ho;omega)]
   congr 1
   omega
end Go.au
namespace Go.au
open Go
variable{h:Program}{y:ZU}
section
variable {α β:Type} {N:eC α β} {w9 w w':World} {a:YQ} {n c j:Nat} {L0:List (Bx α)} {e:TypeId}
def dB.step2{f:TypeId}(x:dB N e w9 a n c L0 j w){g:Nat}(o:a=Option.some ⟨g,0,none⟩){b:Bx α}(i:L0[j]? =Option.some b){a':YQ}{n' c':Nat}{G:ZN}(z:Row N.ci N.ib w G a' n' (N.inner b.x))(A:N.ok b.x)(k:∀P,G P->w9.heap.size<=P/\P<w.heap.size)(U:g<w9.heap.size){hd:List Value}{r:Nat}(C:hd=(N.hd b.x a' n' c').take r)(E:N.o<r)(F:r<=N.k)(H:ia h f hd=true)(l:∀w',dB N e w9 a n c L0 (j+1) w'->ak (λb=>aD a=Option.some b) w w'->w'.heap.size=w.heap.size->y w'):lr h f (.pointer (Option.some ⟨g,0+j*N.k,none⟩)) (.agg hd.toArray) w y:=by
 obtain⟨I,J,K,L,M,p,O,q⟩:=x;have s:I[j]? =Option.some b:=by rw[p j (Q4 _)];exact i
 have Q:=(Qv.1 s).1;have t:∀P,G P->¬aD a=Option.some P:=λP B e=>by
  have:=(k P B).1;rw[o]at e;simp only[aD,Q1]at e;omega
 refine eC.store K s o C E F H λR S d m=>l R ⟨_,λP=>J P\/G P,S,?_,?_,?_,O.then d,?_⟩ d m
 ·rw[List.map_set,L]
  apply X3;intro f;rw[Xj];split
  ·rename_i e;subst e
   rw[Zx (by simpa using(Qv.1 i).1),Q9,i];rfl
  ·rfl
 ·intro u P V B
  rw[Xj]at B
  by_cases v:j=u
  ·subst v
   rw[Zx rfl,Zx Q]at B
   cases B
   exact⟨(z.af d λP B=>t P B).mono λP B=>.inr B,A⟩
  ·rw[Zq v]at B
   exact((M u P oM B).af d λP B=>(q P B).2.2).mono λP B=>.inl B
 ·intro T W
  rw[Xj,Zq oM,p T oM]
 ·rintro P (B|B)
  ·rw[m];exact q P B
  ·rw[m];exact⟨(k P B).1,(k P B).2,t P B⟩
end
end Go.au
namespace Go.Proofs.YtjgjkeponbeekaaGreatDoor
section
open Go.au
variable{a c:Nat}{d:YQ}
section
variable {w w':World} {p:Nat} {F D:ZN} {V:aV}
def zJ{n:List (Bx cC)}(b:Row LQ.jC 120 w D d a n)(e:∀P,D P->P<w.heap.size):YX 405 #[.slice d a c] w (Ok (oW LQ.jC 133 w n)):=
 gE (wm Ru dC b e λg w' f=>Ok.mk f)
def EZ(c:cg w p F V)(a:V.entries.length<=20000000):YX 403 #[ZL p] w (Ok (oW vZ 133 w V.entries)):=by
 obtain⟨X,Y,c⟩:=c;have j:=c.OG.row (bytes:=120) dC ba;have H:=j.ef;have Z:=j.len;obtain⟨e,v,I,J⟩:=eC.boxes j;have a8:e.length=V.entries.length:=by rw[<-v];simp
 refine sk ⟨p,0,rfl,_,_,_,ae c.at' rfl,PC.ok (zJ I λn a=>c.aC n a.1) ?_⟩;rintro _ x ⟨h,f,y,F9,rfl,i,z,K⟩;have k:∀n,aD h=some n->w.heap.size<=n:=λn a=>K n (i.self n a);have L:∀n,aD h=some n->n<x.heap.size:=λn a=>i.aC n (i.self n a);refine⟨_,_,_,rfl,λA M w'=>∃b:Nat,M=b/\b<=f/\A=f-b/\dB LQ 133 x h f y e b w',⟨_,0,rfl,Qj _,rfl,dB.start i.alone⟩,?_⟩;rintro A _ _ N ⟨b,rfl,hj,rfl,d⟩;have b0:=d.len;have l:ai w N:=z.new d.af λn a=>.inr (k n a);have zk:=d.af.size;refine al.dec (λb1=>?_) (λb2=>?_)
 ·obtain⟨g,rfl⟩:=d.some oM
  have b3:=k g rfl;have O:=L g rfl;have m:e[b]? =some e[b]:=Qq oM;have o:=J e[b] (XY oM);generalize e[b]=P at m o;refine⟨g,0,rfl,oM,oM,bA (es:=aE P.x.ev P.a P.n P.c) (k:=10) (aW _ _ _ _) rfl (λq Q=>?_) (PC.ok (oB (e:=P.x.ev) (o.1.ah l) λn a=>by have:=c.aC n a.1;have:=l.size;omega) ?_)⟩
  ·have R:=d.cell rfl m (by show f*13<=aK;unfold aK at H⊢;omega) q
   rw[Qx];have r:q<(aE P.x.ev P.a P.n P.c).length:=Q;rw[Qq r];refine R _ ?_;show(aE P.x.ev P.a P.n P.c++_)[q]? =_;rw[XW r,Qq r]
  rintro _ b4 ⟨s,t,u,G,rfl,S,B,T⟩;refine bT (rL P.x.ev s t u) ⟨rfl,g,0,rfl,oM,oM,?_⟩;rw[Qx];refine(d.ah T).step2 (g:=g) rfl m (a':=s) (n':=t) (c':=u) (G:=G) S o.2 (λC E=>⟨by have:=B C E;omega,(B C E).2⟩) O (hd:=aE P.x.ev s t u) (r:=10) rfl dC dC (aW _ _ _ _) λb5 U b6 b7=>⟨_,?_,b+1,aq oM,oM,rfl,U⟩
  omega
 ·obtain rfl:b=f:=oM
  obtain⟨Fd,hd,W⟩:=d.done;rw[v]at hd;have z9:=z.size;exact Ok.mk ⟨h,_,y,Fd,rfl,hd,l,λn a=>(W n a).elim (k n) λc=>oM⟩
end
end
section
open Go.au
def aZ(n:dx):List Value:=[ZH n.group,ZH n.value,ZH n.count]
def dx.Ok(n:dx):Prop:=aJ n.group/\aJ n.value/\aJ n.count
def Hf:jF dx:=flat 3 aZ dx.Ok (λ_=>rfl) (λP a n=>by simp[aZ]at n;rcases n with rfl|rfl|rfl<;>rfl)
def VL:jS ZP 51 135 3 24:=⟨kR,kR,dC⟩
variable{z:FuncId}{e r:Int}{d7:dx}
section
variable {w w':World} {D:ZN} {a:YQ} {n c:Nat} {l:List dx}
def Cb(b:Row Hf 24 w D a n l)(d:∀P,D P->P<w.heap.size):YX 215 #[.slice a n c] w (Ok (oW Hf 135 w l)):=
 i_ (wm VL dC b d λf w' e=>Ok.mk e)
def Lj{most:Int}(b:Row Hf 24 w D a n l)(g:∀d,D d->d<w.heap.size)(u:n<=c):
  YX 152 #[.slice a n c,ZH most] w (Ok λh w'=>∃e,h= .tuple #[e,.bool (decide ((max most 0).toNat<l.length))]/\oW Hf 135 w (l.take (max most 0).toNat) e w'):=by
 have v:=b.len;have i:(if 0>most then 0 else most)=max most 0:=by split<;>omega
 refine C_ ?_;rw[i];obtain⟨P,f⟩:∃P:Nat,(if(n:Int)<max most 0 then(n:Int)else max most 0)=P:=⟨(if(n:Int)<max most 0 then(n:Int)else max most 0).toNat,by split<;>omega⟩
 rw[f];have j:P=min n (max most 0).toNat:=by split at f<;>omega
 rw[Qx];refine⟨oM,oM,oM,PC.ok (Cb (b.take (m:=P) oM) g) ?_⟩;rintro _ x ⟨k,m,o,p,rfl,q,r,s⟩;refine⟨_,_,_,rfl,Ok.mk ⟨_,?_,k,m,o,p,rfl,?_,r,s⟩⟩
 ·have:decide ((P:Int)<(n:Int))=decide ((max most 0).toNat<l.length):=by rw[decide_eq_decide];omega
  rw[this]
 ·have:l.take (max most 0).toNat=l.take P:=by
   rw[j]
   by_cases t:(max most 0).toNat<=n
   ·rw[Nat.min_eq_right t]
   ·rw[X2 oM,Qz oM,Qz oM]
  rw[this];exact q
def IT{f g:Array Value}{a k:Nat}(u:a<=20000000)(l:k<=a)(m:enters ZP z=true)(o:∀(b:Nat) d,b<a->ai w d->YX z (f++ #[ZH (b:Int)]++g) d (Ok λe w'=>e= .bool (decide (k<=b))/\ai d w')):
  YX 150 #[ZH (a:Int),.func (.func z) f g] w (Ok λe w'=>e= ZH (k:Int)/\ai w w'):=by
 refine Be ⟨λh b p w'=>∃n P:Nat,b=n/\p=P/\h=P-n/\n<=P/\P<=a/\n<=k/\k<=P/\ai w w',⟨_,0,a,rfl,rfl,rfl,oM,oM,oM,l,ak.refl _⟩,?_⟩;rintro h _ _ _ q ⟨n,P,rfl,rfl,rfl,v,r,s,t,c⟩;refine al.dec (λx=>?_) (λy=>?_)
 ·rw[TN oM]
  refine⟨_,_,_,rfl,m,PC.ok (o _ q oM c) ?_⟩;rintro _ A ⟨rfl,i⟩;refine⟨_,rfl,al.not (al.dec (λj=>⟨_,?_,n,(n+P)/2,rfl,rfl,rfl,oM,oM,s,j,c.then i⟩) (λj=>⟨_,?_,(n+P)/2+1,P,aq oM,rfl,rfl,oM,r,oM,t,c.then i⟩))⟩
  ·omega
  ·omega
 ·obtain rfl:n=k:=oM
  exact Ok.mk ⟨rfl,c⟩
def sT{P:Type}(n:P->Bool):∀l:List P,l.dropWhile n=l.drop (posOf n l)
 |[]=>rfl
 |x::l=>by
  unfold posOf;rw[List.dropWhile_cons,List.takeWhile_cons]
  cases a:n x
  ·simp
  ·simpa[posOf]using sT n l
abbrev ue(l:List dx):Prop:=l.Pairwise λa n=>a.group<n.group
def SI{l:List dx}(b:ue l){n:Nat}(P:l[n]? =some d7):decide (posOf (λd7=>decide (d7.group<=e)) l<=n)=decide (d7.group>e):=by
 rw[decide_eq_decide]
 induction l generalizing n with
 |nil=>simp at P
 |cons c l d=>
  obtain⟨f,g⟩:=List.pairwise_cons.1 b;unfold posOf;rw[List.takeWhile_cons]
  by_cases a:c.group<=e
  ·rw[Zy a]
   cases n with
   |zero=>
    simp at P;subst P;simp;omega
   |succ n=>
    have:=d g (by simpa using P);unfold posOf at this;simp only[if_true,Xq];omega
  ·rw[Xv a]
   simp only[Bool.false_eq_true,if_false,ZQ,Qj,true_iff]
   cases n with
   |zero=>simp at P;subst P;omega
   |succ n=>
    have:=f d7 (QZ (by simpa using P));omega
def Lk(j:Row Hf 24 w D a n l)(u:∀b,D b->b<w.heap.size)(v:n<=c)(x:ue l)(y:n<=20000000):
  YX 90 #[.slice a n c,ZH e,ZH r] w (Ok λz w'=>∃P,z= .tuple #[P,.bool (nN l e (max r 0).toNat).2]/\oW Hf 135 w (nN l e (max r 0).toNat).1 P w'):=by
 have Q:=j.len;have R:=Ah (λP:dx=>decide (P.group<=e)) l;refine FR (PA.mk λS o T k=>PA.mk λU g V A=>⟨_,_,_,ae (g.get k id) rfl,PC.ok (IT (k:=posOf (λP=>decide (P.group<=e)) l) y oM kR λh B W d=>?_) ?_⟩)
 ·have f:=(o.then g).then d
  obtain⟨b,C,X,E,i,-,F,rfl,-⟩:=(j.ah f).el h l[h] (Qq oM);have H:l[h]? =some l[h]:=Qq oM;refine A_ ⟨_,_,_,ae (d.get (g.get k id) id) rfl,b,C,E,oM,oM,_,by rw[Qx];exact F 0 dC,_,ae (d.get A id) rfl,λI J=>Ok.mk ⟨?_,J.af⟩⟩;rw[SI x H]
 ·rintro _ B ⟨rfl,d⟩
  have f:=(o.then g).then d;have m:=(j.ah f).part (lo:=posOf (λP=>decide (P.group<=e)) l) (hi:=n) (cap:=c) oM (Q4 _) v;rw[Qz oM]at m;have K:Hf.k=3:=rfl;rw[K]at m;refine⟨_,rfl,_,_,_,ae (d.get (g.get k id) id) rfl,oM,oM,?_⟩;rw[Qx];refine PC.ok (Lj (most:=r) m (λb i=>by have:=u b i;have:=f.size;omega) oM) ?_;rintro _ I ⟨_,rfl,p,q,s,L,rfl,M,N,O⟩;have t:l.dropWhile (λP=>decide (P.group<=e))=l.drop (posOf (λP=>decide (P.group<=e)) l):=sT _ l;refine⟨_,_,_,_,rfl,Ok.mk ⟨.slice p q s,?_,p,q,s,L,rfl,?_,f.then N,λb i=>by have:=O b i;have:=f.size;omega⟩⟩
  ·unfold nN;rw[t]
  ·unfold nN;rw[t];exact M
end
def sS(n:dx):Value:=.agg (aZ n).toArray
def NM(n:dx):ia ZP 135 (aZ n)=true:=kR
def Xf(n:dx):Sw (dG ZP 135) (.agg (aZ n).toArray)=true:=kR
structure lf (w:World) (p r:Nat) (R:dm):Prop where
 at':w.heap[p]? =some (.cells #[ZH R.p.aU,ZH R.p.field,ZH R.p.group,ZH R.p.ET,ZH R.p.make,.map (some r)] 269 (0,0))
 map:bI w r (Value.int .i64) (R.rows.map λx=>(x.1,sS x.2))
 ok:∀x∈R.rows,dx.Ok x.2/\x.2.group=x.1
variable{a c:Nat}{d:YQ}{o:aj}{d6:jm}
section
variable {w w':World} {p r:Nat} {R:dm} {T:ZN}
def lf.af(n:lf w p r R)(P:ak T w w')(a:¬T p)(b:¬T r):lf w' p r R:=⟨P.get n.at' a,n.map.af P b,n.ok⟩
def lf.ah(n:lf w p r R)(P:ai w w'):lf w' p r R:=n.af P id id
def OY:YX 106 #[.agg (nR d6).toArray] w (Ok λa w'=>∃p r,a= ZL p/\lf w' p r ⟨d6,[]⟩/\w.heap.size<=p/\w.heap.size<=r/\p<w'.heap.size/\r<w'.heap.size/\ai w w'):=by
 refine Kv (PA.mk λb c i n=>⟨_,_,_,_,_,ae n rfl,ae n rfl,ae n rfl,ae n rfl,ae n rfl,PA.mk λd e j f=>PA.mk λk P l g=>Ok.mk ⟨d.heap.size,b.heap.size,rfl,⟨g,bI.new (P.get f id),λd6 h=>by cases h⟩,oM,oM,oM,oM,(c.then e).then P⟩⟩)
def GJ(n:jm)(a:aj)(P:Int):Option Int:=if n.group=1 then some a.agg else if n.group=2 then some a.arg else if n.group=3 then some P else none
def Ll(h:lf w p r R):YX 244 #[ZL p,jQ o d a c,ZH e] w (Ok λi w'=>i= .tuple #[ZH ((GJ R.p o e).getD 0),.bool (GJ R.p o e).isSome]/\ai w w'):=by
 refine uP (PA.mk λj n k g=>⟨p,0,rfl,_,ae (h.ah n).at' rfl,al.cW (λP=>⟨_,ae g rfl,Ok.mk ⟨?_,n⟩⟩) (λP=>al.cW (λb=>⟨_,ae g rfl,Ok.mk ⟨?_,n⟩⟩) (λb=>al.cW (λf=>Ok.mk ⟨?_,n⟩) (λf=>Ok.mk ⟨?_,n⟩)))⟩)
 ·unfold GJ;rw[Zx P];rfl
 ·unfold GJ;rw[Zq P,Zx b];rfl
 ·unfold GJ;rw[Zq P,Zq b,Zx f];rfl
 ·unfold GJ;rw[Zq P,Zq b,Zq f];rfl
def Od(h:lf w p r R){arg:Int}:YX 245 #[ZL p,.agg (aZ d7).toArray,ZH arg] w (Ok λk w'=>k= ZH (lU R.p d7 arg)/\ai w w'):=by
 refine wU (PA.mk λl a o e=>?_);have b:=(h.ah a).at';refine⟨_,ae e rfl,p,0,rfl,_,ae b rfl,al.cW (λc=>⟨_,ae e rfl,Ok.mk ⟨?_,a⟩⟩) (λc=>⟨p,0,rfl,_,ae b rfl,al.cW (λd=>⟨_,ae e rfl,Ok.mk ⟨?_,a⟩⟩) (λd=>⟨λj w'=>j=decide (R.p.make=5\/d7.count=1/\(R.p.make=3\/R.p.make=4))/\l=w',?_,?_⟩)⟩)⟩
 ·unfold lU;rw[Zx c]
 ·unfold lU;rw[Zq c,Zx d]
 ·refine⟨p,0,rfl,_,ae b rfl,al.cW (λf=>⟨?_,rfl⟩) (λf=>al.cW (λi=>⟨p,0,rfl,_,ae b rfl,al.cW (λn=>⟨?_,rfl⟩) (λn=>⟨p,0,rfl,_,ae b rfl,?_,rfl⟩)⟩) (λi=>⟨?_,rfl⟩))⟩
  ·rw[Zy (.inl f)];simpa using f
  ·rw[Zy (.inr ⟨i,.inl n⟩)]
  ·by_cases P:R.p.make=4
   ·rw[Zy (.inr ⟨i,.inr P⟩)];simpa using P
   ·rw[Xv (by rintro(h|⟨-,h|h⟩);exact f h;exact n h;exact P h)];simpa using P
  ·rw[Xv (by rintro(h|⟨h,-⟩);exact f h;exact i h)]
 ·rintro j _ _ ⟨m,rfl⟩
  subst m;refine al.dec (λg=>Ok.mk ⟨?_,a⟩) (λg=>⟨p,0,rfl,_,ae b rfl,al.cW (λn=>⟨_,ae e rfl,Ok.mk ⟨?_,a⟩⟩) (λn=>⟨p,0,rfl,_,ae b rfl,al.cW (λP=>⟨_,ae e rfl,Ok.mk ⟨?_,a⟩⟩) (λP=>Ok.mk ⟨?_,a⟩)⟩)⟩)
  ·unfold lU;rw[Zq c,Zq d,Zx g]
  ·have:(if arg<d7.value then arg else d7.value)=min d7.value arg:=by split<;>omega
   unfold lU;rw[Zq c,Zq d,Zq g,Zx n,<-this]
  ·have:(if arg>d7.value then arg else d7.value)=max d7.value arg:=by split<;>omega
   unfold lU;rw[Zq c,Zq d,Zq g,Zq n,Zx P,<-this]
  ·unfold lU;rw[Zq c,Zq d,Zq g,Zq n,Zq P]
end
def QO:lW ZP 267 3 135 (sS ⟨0,0,0⟩):=⟨kR,kR⟩
def ME{P d e:Type}[BEq P](a:d->e)(b:P):∀n:List (P×d),aF (n.map λc=>(c.1,a c.2)) b=(aF n b).map a
 |[]=>rfl
 |(c,f)::n=>by
  simp only[QY];unfold aF;split
  ·rfl
  ·exact ME a b n
def MF{b c f:Type}[BEq b](P:c->f)(d:b)(e:c):∀a:List (b×c),aH (a.map λn=>(n.1,P n.2)) d (P e)=(aH a d e).map λn=>(n.1,P n.2)
 |[]=>rfl
 |(n,g)::a=>by
  simp only[QY];unfold aH;split
  ·simp
  ·simp[MF P d e a]
section
variable {w w':World} {p r:Nat} {R:dm}
def dm.add_def(r:dm)(e:cC)(P:Int):r.add e P=match GJ r.p e.ev P with
  |none=>r
  |some n=>if e.void||e.ev.aU !=r.p.aU||e.ev.field !=r.p.field then r else
   {r with rows:=aH r.rows n ⟨n,lU r.p ⟨n,((aF r.rows n).getD ⟨0,0,0⟩).value,pd (((aF r.rows n).getD ⟨0,0,0⟩).count+1)⟩ e.ev.arg,pd (((aF r.rows n).getD ⟨0,0,0⟩).count+1)⟩}:=rfl
def Hi:aJ 0:=by unfold aJ;omega
def UA{arg:Int}(n:dx.Ok d7)(P:aJ arg):aJ (lU d6 d7 arg):=by
 obtain⟨b,c,a⟩:=n;unfold lU;split;exact a;split;exact L_ _;split;exact P;split
 ·unfold aJ at*;omega
 split
 ·unfold aJ at*;omega
 ·exact Hi
def OT(h:lf w p r R)(a1:p≠r){x:cC}(v:x.ev.Ok)(a2:aJ e):YX 185 #[ZL p,EU x d a c,ZH e] w (Ok λk w'=>k= .tuple #[]/\lf w' p r (R.add x e)/\ak (·=r) w w'):=by
 have b1:=ax h.at';have b2:=h.map.lt;refine zi (PA.mk λw1 L s1 M=>UB (cs:=aE x.ev d a c) (aW _ _ _ _) M (λa3 k N=>?_) (PC.ok (Ll (h.ah L)) ?_))
 ·rw[Xz]
  have a4:=(Qv.1 N).1;show(aE x.ev d a c++_).toArray[a3]? =_;simp only[List.getElem?_toArray];rw[XW a4];exact N
 rintro _ O ⟨rfl,Q⟩;have l:=L.then Q;have m:=Q.get M id;have o:=h.ah l;have b:R.add x e=R->∀g,br O g->Ok (λk w'=>k= .tuple #[]/\lf w' p r (R.add x e)/\ak (·=r) w w') (.returned (.tuple #[])) g:=λhe g i=>Ok.mk ⟨rfl,by rw[he];exact o.ah i.af,ai.af (l.then i.af)⟩;refine⟨_,_,rfl,al.not (al.mk (λy=>?_) (λy=>b ?_))⟩
 rotate_left
 ·rw[dm.add_def,show GJ R.p x.ev e=none by simpa using y]
 obtain⟨P,f⟩:=Option.isSome_iff_exists.1 y;rw[f,Option.getD_some];have s:∀{q:dm},(if x.void||x.ev.aU !=R.p.aU||x.ev.field !=R.p.field then R else
   {R with rows:=aH R.rows P ⟨P,lU R.p ⟨P,((aF R.rows P).getD ⟨0,0,0⟩).value,pd (((aF R.rows P).getD ⟨0,0,0⟩).count+1)⟩ x.ev.arg,pd (((aF R.rows P).getD ⟨0,0,0⟩).count+1)⟩})=q->R.add x e=q:=λ{q} z=>by
  rw[dm.add_def,f];exact z
 refine⟨_,ae m rfl,al.mk (λj=>b (s (by rw[j];rfl))) (λj=>⟨_,ae m rfl,p,0,rfl,_,ae o.at' rfl,al.dQ (λA=>b (s ?_)) (λA=>⟨_,ae m rfl,p,0,rfl,_,ae o.at' rfl,λg i=>?_⟩)⟩)⟩
 ·rw[j,show(x.ev.aU !=R.p.aU)=true by simpa using A];rfl
 have S:(x.ev.aU !=R.p.aU)=false:=by simpa using A
 have t:ai O g:=i.af;have u:=o.ah t;refine al.dQ (λB=>b (s (by rw[j,S,show(x.ev.field !=R.p.field)=true by simpa using B];rfl)) g i) (λB=>?_);have a5:(x.ev.field !=R.p.field)=false:=by simpa using B
 have T:aJ P:=by
  unfold GJ at f;split at f
  ·cases f;exact v.agg
  split at f
  ·cases f;exact v.arg
  split at f
  ·cases f;exact a2
  ·cases f
 obtain⟨n,C⟩:∃n,n=(aF R.rows P).getD ⟨0,0,0⟩:=⟨_,rfl⟩
 have a6:dx.Ok n:=by
  rw[C]
  cases z:aF R.rows P with
  |none=>exact⟨Hi,Hi,Hi⟩
  |some U=>exact(h.ok _ (bW z)).1
 have a7:(aF (R.rows.map λx=>(x.1,sS x.2)) P).getD (sS ⟨0,0,0⟩)=sS n:=by
  rw[ME,C];cases aF R.rows P<;>rfl
 refine⟨p,0,rfl,_,ae u.at' rfl,zQ QO ku u.map ?_⟩;rw[a7];refine bT (Xf n) ⟨rfl,PA.mk λw4 k4 s4 g4=>az (NM n) g4 rfl λw5 k5 s5 g5=>PS.mk g5 (by simp[aZ]) λw6 k6 s6 V=>⟨_,ae V rfl,PS.mk V (by simp[aZ]) λw7 k7 s7 W=>?_⟩⟩;have E:ai g w7:=((k4.new k5 λF H=>.inr oM).new k6 λF H=>.inr oM).new k7 λF H=>.inr oM;have a8:=E.get (t.get m id) id;refine ar (cs:=aZ ⟨P,n.value,pd (n.count+1)⟩) (NM _) W ⟨_,ae a8 rfl,PC.ok (Od (u.ah E)) ?_⟩;rintro _ w8 ⟨rfl,I⟩;have z8:=I.size;refine⟨_,rfl,PS.mk (I.get W id) (by simp[aZ]) λw9 k9 s9 g9=>λX a9=>?_⟩;have Y:ai w9 X:=a9.af;have Z:ai g X:=((E.then I).new k9 λF H=>.inr oM).then Y;have J:=u.ah Z;have z3:=(l.then t).size;refine⟨p,0,rfl,_,ae J.at' rfl,ar (cs:=aZ ⟨P,lU R.p ⟨P,n.value,pd (n.count+1)⟩ x.ev.arg,pd (n.count+1)⟩) (NM _) (Y.get g9 id) (dd QO ku J.map λb3 b0 a0 b4=>Ok.mk ⟨rfl,?_,?_⟩)⟩
 ·rw[s (q:={R with rows:=aH R.rows P ⟨P,lU R.p ⟨P,n.value,pd (n.count+1)⟩ x.ev.arg,pd (n.count+1)⟩}) (by rw[j,S,a5,C];rfl)]
  refine⟨a0.get J.at' a1,?_,λU K=>?_⟩
  ·rw[<-MF];exact b0
  ·rcases fj K with rfl|K
   ·exact⟨⟨T,UA ⟨T,a6.2.1,L_ _⟩ v.arg,L_ _⟩,rfl⟩
   ·exact h.ok U K
 ·exact(ai.af ((l.then t).then Z)).then a0
end
section
variable {w w':World} {p r:Nat} {R:dm}
def MR(e:lf w p r R):YX 221 #[ZL p] w (Ok λf w'=>∃b d,f= ZL b/\lf w' b d R/\b≠d/\w.heap.size<=b/\w.heap.size<=d/\b<w'.heap.size/\d<w'.heap.size/\ai w w'):=by
 refine wT λP h=>?_;have i:ai w P:=h.af;have t:P.heap.size=w.heap.size:=by rw[h.heap]
 have a:=e.ah i;obtain⟨c,n,k,l,m,o⟩:=a.map.at';refine⟨no,p,0,rfl,id,_,_,_,_,_,ae a.at' rfl,ae a.at' rfl,ae a.at' rfl,ae a.at' rfl,ae a.at' rfl,p,0,rfl,_,ae a.at' rfl,PC.ok (φ:=λf w'=>f= .map (some P.heap.size)/\w'=P.alloc (.map c n)) ((AnyW.maps_Clone Tryz.UC r c n P k).mono ?_) ?_⟩
 ·rintro u w' ⟨rfl,q⟩
  exact Ok.mk ⟨rfl,q⟩
 ·rintro _ v ⟨rfl,rfl⟩
  have j:ai P (P.alloc (.map c n)):=ak.alloc _ _;have x:(P.alloc (.map c n)).heap.size=P.heap.size+1:=sM
  refine⟨_,rfl,ai.af j,PA.mk λy g z s=>⟨ai.af g,Ok.mk ⟨_,P.heap.size,rfl,⟨s,⟨⟨c,n,g.get (heap_alloc_new P _) id,l,m,o⟩,e.map.tidy⟩,e.ok⟩,?_⟩⟩⟩;refine⟨oM,oM,oM,oM,oM,(i.then j).then g⟩
end
open Go.au Go.Sort
def nK{b:Type}{f:Nat}{n:b->List Value}{d:b->Prop}{hl h1}{g:World}{D:ZN}:∀{P:List b} {cs:List Value},bK (flat f n d hl h1) g D P cs↔cs=P.flatMap n/\∀x∈P,d x
 |[],cs=>by simp[bK]
 |x::P,cs=>by
  constructor
  ·rintro⟨k,l,rfl,⟨rfl,h⟩,i⟩
   obtain⟨rfl,j⟩:=nK.1 i;exact⟨rfl,λc a=>by rcases Q2.1 a with rfl|a;exact h;exact j c a⟩
  ·rintro⟨rfl,e⟩
   exact⟨n x,P.flatMap n,rfl,⟨rfl,e x (QV ..)⟩,nK.2 ⟨rfl,λc a=>e c (QJ _ a)⟩⟩
section
variable {α:Type} {enc:α->List Value} {K:Nat}
def fS(a:∀P,(enc P).length=K)(n:List α):(n.flatMap enc).length=n.length*K:=by
 induction n with
 |nil=>simp
 |cons P n b=>rw[List.flatMap_cons,QX,b,a,Xq,X7];omega
def ki[Inhabited α](f:0<K)(P:∀c,(enc c).length=K){n:List α}(d:a<n.length*K):(n.flatMap enc)[a]? =(enc n[a/K]!)[a % K]? :=by
 induction n generalizing a with
 |nil=>simp at d
 |cons c n g=>
  rw[List.flatMap_cons]
  by_cases b:a<K
  ·rw[XW (by rw[P];exact b),Nat.div_eq_of_lt b,Nat.mod_eq_of_lt b];rfl
  ·rw[Xq,X7]at d
   rw[X8 (by rw[P];omega),P,g oM];obtain⟨e,rfl⟩:∃e,a=e+K:=⟨a-K,oM⟩
   rw[Nat.add_sub_cancel,Nat.add_div_right _ f,Nat.add_mod_right];simp
def yy[Inhabited α](c:0<K)(b:∀f,(enc f).length=K)(n:List α):(flatK enc K n.toArray).toList=n.flatMap enc:=by
 apply X3;intro P
 by_cases a:P<n.length*K
 ·rw[ki c b a]
  have g:P<(flatK enc K n.toArray).size:=by simpa using a
  have d:=get_flatK enc K n.toArray P (by simpa using a);rw[getElem!_pos _ P g]at d;have e:P % K<(enc n[P/K]!).length:=by rw[b];exact Nat.mod_lt _ c
  rw[Qq (by simpa using a),Qq e]
  congr 1
  rw[Array.getElem_toList,d];rw[getElem!_pos _ _ (by simpa using e)]
  congr 1
  simp
 ·rw[Q7 (by simpa using a),Q7 (by rw[fS b];omega)]
end
instance:Inhabited dx:=⟨⟨0,0,0⟩⟩
def UK(P:dx):∀a∈aZ P,a.oneCell'=true:=by
 intro b n;simp only[aZ,Q2,List.not_mem_nil,or_false]at n;rcases n with rfl|rfl|rfl<;>rfl
def oS(n:dx):(aZ n).length=3:=rfl
def Cw(n P:dx):Int:=if n.group<P.group then-1 else 1
def zZ(n P:dx):ltOf Cw n P=decide (n.group<P.group):=by
 unfold ltOf Cw
 by_cases a:n.group<P.group<;>simp[a]
def VZ:SWO (ltOf Cw) where
 irrefl x:=by rw[zZ];simp
 trans x y z h1 h2:=by rw[zZ]at*;simp at*;omega
 ntrans x y z h1 h2:=by rw[zZ]at*;simp at*;omega
variable{g0:List dx}{f:ZN}{b:World}
def UL{a c:dx}:YX 407 #[.agg (aZ a).toArray,.agg (aZ c).toArray] b (Ok λe f=>e= ZH (Cw a c)/\G b f):=by
 refine tM (PA.VX λi d j g=>PA.VX λk n l h=>⟨_,ae ((n.af (S:=λ_=>False)).get g id) rfl,_,ae h rfl,al.dec (λP=>Ok.mk ⟨?_,d.then n⟩) (λP=>Ok.mk ⟨?_,d.then n⟩)⟩)
 ·unfold Cw;rw[Zx P]
 ·unfold Cw;rw[Zq P]
def Ob(k:aM Hf 135 f b d a c g0)(B:g0.length<=20000000):
  YX 406 #[.slice d a c,.func (.func 407) #[] #[]] b (Ok λL r=>L= .tuple #[]/\∃C:List dx,C.Perm g0/\(C.Pairwise λs M=>¬M.group<s.group)/\aM Hf 135 f r d a c C/\ak (λt=>aD d=some t) b r):=by
 obtain⟨cs,D,x,Y,Z⟩:=k.body;obtain⟨rfl,N⟩:=nK.1 Y;obtain⟨n,y⟩:∃n,n=g0:=⟨g0,rfl⟩
 rw[<-y]at x N;have E:=k.len dC;have u:n.length=a:=by rw[E,<-y]
 rcases x.cases with⟨rfl,rfl,rfl,h0⟩|⟨g,h,rfl,v,O,F,Q⟩
 ·have hd:n=[]:=QW u
  refine(AnyF.slices_SortFunc_none Tryz.TJ none 0 _ b).mono ?_;rintro z r ⟨rfl,rfl⟩;exact Ok.mk ⟨rfl,g0,List.Perm.refl _,by rw[<-y,hd];exact List.Pairwise.nil,k,ak.refl _⟩
 ·have R:Hf.k=3:=rfl
  rw[R]at Q F;have a5:flatK aZ 3 n.toArray=(n.flatMap aZ).toArray:=by rw[<-yy (show 0<3 by decide) oS]
  have hH:HoldsK aZ 3 b g 0 n.toArray:=by
   intro i m;rw[size_flatK]at m;simp only[List.size_toArray]at m;have S:i<(n.flatMap aZ).length:=by rw[fS oS];exact m
   refine⟨?_,by simp[World.frozen?,v]⟩;have o:(flatK aZ 3 n.toArray)[i]! =(n.flatMap aZ)[i]:=by
    rw[a5,getElem!_pos _ i (by simpa using S)];simp
   rw[o,Xz];refine ae v ?_;have j:(h.toList.take (a*3))[i]? =some (n.flatMap aZ)[i]:=by rw[Q];exact Qq S
   rw[Xw,Zx oM]at j;simpa using j
  have B:=x.row;have H:c<=maxLen:=by
   obtain⟨_,a0,_,T,_,_,_,H,_⟩:=x.row.2.resolve_left (by rintro⟨k,_⟩;cases k);simp only[XX]at T;rw[T.2.2];exact H
  have a6:n.toArray.size<4611686018427387904:=by
   simp only[List.size_toArray,u];omega
  have U:=AnyQ.slices_SortFunc Tryz.TJ 3 (λb=>cM _ _ _ kR ⟨_,Tryz.underlying135⟩ b) (λb=>Tryz.sizeOf135 b) aZ (λ_=>rfl) UK (Cw) VZ 407 #[] g 0 c n.toArray b
   (enters_of Tryz.func407 kR rfl) (λa9 p dk b0 s M=>(UL).mono ?_) hH (ax v) a6
  ·rw[show n.toArray.size=a by simpa using u]at U
   refine U.mono ?_;rintro z r ⟨rfl,e,w,p,hp,hs,rfl⟩;obtain⟨p1,p2,V⟩:=hp;have P:e.size=a:=p1.trans (by simpa using u);have W:e.toList.Perm n:=by
    have o:e.extract 0 a=e:=by rw[<-P];exact Array.extract_size
    have j:n.toArray.extract 0 a=n.toArray:=by rw[show a=n.toArray.size by simpa using u.symm];exact Array.extract_size
    rw[o,j]at V;exact V
   have a2:flatK aZ 3 e=(e.toList.flatMap aZ).toArray:=by rw[<-yy (show 0<3 by decide) oS]
   have I:(sortWorldK aZ 3 b g 0 w e p).heap[g]? =some (.cells (putCells id 0 (flatK aZ 3 e) h) 135 (0,0)):=by
    have a7:=ax v;show((Sort.ahead b w).heap.modify g _++p)[g]? =_;rw[Array.getElem?_append_left (by simpa[Sort.ahead]using a7),Array.getElem?_modify,Zx rfl];show Option.map _ b.heap[g]? =_;rw[v];rfl
   have A:ak (λt=>aD (ZM g)=some t) b (sortWorldK aZ 3 b g 0 w e p):=by
    refine⟨rfl,rfl,rfl,?_,λa1 A E=>?_⟩
    ·show b.heap.size<=((Sort.ahead b w).heap.modify g _++p).size
     simp[Sort.ahead]
    ·show((Sort.ahead b w).heap.modify g _++p)[a1]? =_
     rw[Array.getElem?_append_left (by simpa[Sort.ahead]using A),Array.getElem?_modify,Zq (λz=>E (by rw[z];rfl))]
     rfl
   have a3:(putCells id 0 (flatK aZ 3 e) h).size=c*3:=by unfold putCells;rw[Array.size_mapIdx];exact F
   refine Ok.mk ⟨rfl,e.toList,by rw[<-y];exact W,?_,⟨⟨e.toList.flatMap aZ,D,⟨⟨?_,.inr ⟨g,c,_,rfl,Qj _,I,O,H,a3,?_⟩⟩⟩,nK.2 ⟨rfl,λs hx=>?_⟩,Z⟩,k.self,λt B=>Qk (k.aC t B) A.size⟩,A⟩
   ·rw[List.pairwise_iff_getElem]
    intro X i hi m a8;have o:=hs X i (Qj _) a8 (by simpa[P]using m);rw[zZ,getElem!_pos _ i (by simpa using m),getElem!_pos _ X (by simpa using hi)]at o;simpa using o
   ·rw[fS oS,XK,P];rfl
   ·apply X3
    intro q;rw[R,Xw];split
    ·rename_i l
     rw[ki (show 0<3 by decide) oS (by rw[XK,P];exact l),<-ki (show 0<3 by decide) oS (by rw[XK,P];exact l)];unfold putCells;have a4:q<h.size:=by rw[F];exact Qk l (Q0 _ O)
     rw[Array.getElem?_toList,Array.getElem?_mapIdx,X6 a4];simp only[Option.map_some];have J:q<(flatK aZ 3 e).size:=by rw[size_flatK,P];exact l
     rw[Zx ⟨Qj _,by rw[Xz];exact J⟩,Nat.sub_zero,getElem!_pos _ q J];have:(flatK aZ 3 e)[q]=(e.toList.flatMap aZ)[q]'(by rw[fS oS,XK,P];exact l):=by
      have j:=Zj (·[q]?) a2;simp only[List.getElem?_toArray]at j;rw[X6 J,Qq (by rw[fS oS,XK,P];exact l)]at j;exact XJ j
     rw[this];exact(Qq _).symm
    ·rename_i l
     rw[Q7 (by rw[fS oS,XK,P];omega)]
   ·have K:s∈n:=W.mem_iff.1 hx
    exact N s K
  ·rintro z r ⟨L,rfl,rfl,hG⟩
   exact⟨rfl,hG⟩
end
end Go.Proofs.YtjgjkeponbeekaaGreatDoor
namespace Go.au
open Go
structure aP (w:World) (F:ZN) (cls:Nat->Nat) (C:Nat->World->(ZN)->Prop):Prop where
 at':∀k,C k w (λb=>F b/\cls b=k)
 aC:∀b,F b->b<w.heap.size
def kr(n:Nat->World->(ZN)->Prop):Prop:=∀P a b G c,n P a G->ak c a b->(∀d,G d->¬c d)->n P b G
section
variable {w w':World} {F T:ZN} {cls:Nat->Nat} {C C2:Nat->World->(ZN)->Prop}
def aP.af(a:aP w F cls C)(d:kr C)(b:ak T w w')(e:∀n,F n->¬T n):aP w' F cls C:=
 ⟨λc=>d c w w' _ T (a.at' c) b λn P=>e n P.1,λn P=>Qk (a.aC n P) b.size⟩
def aP.ah(n:aP w F cls C)(P:kr C)(a:ai w w'):aP w' F cls C:=n.af P a λ_ _ n=>n
def aP.DI(g:aP w F cls C)(l:kr C){k:Nat}{G':ZN}(f:ak (λn=>F n/\cls n=k) w w')(m:∀n,G' n->F n->cls n=k)(o:∀n,G' n->n<w'.heap.size)(p:C2 k w' G')(q:∀a G,a≠k->C a w' G->C2 a w' G):∃e b,aP w' e b C2/\ak F w w'/\(∀n,e n->((F n/\cls n≠k)\/G' n))/\(∀a,a≠k->(λn=>e n/\b n=a)=λn=>F n/\cls n=a)/\(λn=>e n/\b n=k)=G':=by
 classical
 have h:∀a,a≠k->(λn=>((F n/\cls n≠k)\/G' n)/\(if G' n then k else cls n)=a)=λn=>F n/\cls n=a:=λa d=>by
  funext n
  refine propext ⟨λP=>?_,λP=>?_⟩
  ·by_cases c:G' n
   ·rw[Zx c]at P;exact Zz P.2.symm d
   ·rw[Zq c]at P
    exact⟨(P.1.resolve_right c).1,P.2⟩
  ·have i:cls n≠k:=λr=>d (P.2.symm.trans r)
   rw[Zq λc=>i (m n c P.1)];exact⟨.inl ⟨P.1,i⟩,P.2⟩
 have j:(λn=>((F n/\cls n≠k)\/G' n)/\(if G' n then k else cls n)=k)=G':=by
  funext n
  refine propext ⟨λP=>?_,λP=>⟨.inr P,Zx P⟩⟩
  by_cases c:G' n
  ·exact c
  ·rw[Zq c]at P;exact Zz P.2 (P.1.resolve_right c).2
 refine⟨λn=>(F n/\cls n≠k)\/G' n,λn=>if G' n then k else cls n,⟨λa=>?_,λn P=>?_⟩,f.mono λn _ P=>P.1,λn P=>P,h,j⟩
 ·by_cases d:a=k
  ·subst d
   rw[j];exact p
  ·rw[h a d]
   refine q a _ d (l a w w' _ _ (g.at' a) f λn P s=>d (P.2.symm.trans s.2))
 ·rcases P with P|P
  ·exact Qk (g.aC n P.1) f.size
  ·exact o n P
def aP.dU(c:aP w F cls C)(h:kr C){k:Nat}{G':ZN}(i:ak (λn=>F n/\cls n=k) w w')(e:∀n,G' n->(F n/\cls n=k)\/w.heap.size<=n)(j:∀n,G' n->n<w'.heap.size)(d:C2 k w' G')(l:∀a G,a≠k->C a w' G->C2 a w' G):∃b P,aP w' b P C2/\bB F w b w'/\(∀n,b n->((F n/\cls n≠k)\/G' n))/\(∀a,a≠k->(λn=>b n/\P n=a)=λn=>F n/\cls n=a)/\(λn=>b n/\P n=k)=G':=by
 obtain⟨b,P,f,d,g,m⟩:=c.DI h i (λn o p=>(e n o).elim (·.2) λf=>by have:=c.aC n p;omega) j d l;exact⟨b,P,f,⟨d,λn q=>(g n q).elim (λc=>.inl c.1) λc=>(e n c).imp (·.1) id⟩,g,m⟩
def aP.same(c:aP w F cls C)(e:kr C){k:Nat}(d:ak (λn=>F n/\cls n=k) w w')(f:C2 k w' (λn=>F n/\cls n=k))(g:∀P G,P≠k->C P w' G->C2 P w' G):aP w' F cls C2:=
 ⟨λP=>by
  by_cases a:P=k
  ·subst a;exact f
  ·exact g P _ a (e P w w' _ _ (c.at' P) d λn b h=>a (b.2.symm.trans h.2)),λn b=>Qk (c.aC n b) d.size⟩
def aP.fK(d:aP w F cls C)(e:kr C){k:Nat}{G':ZN}(c:bB (λn=>F n/\cls n=k) w G' w')(f:∀n,G' n->n<w'.heap.size)(g:C2 k w' G')(h:∀a G,a≠k->C a w' G->C2 a w' G):∃b P,aP w' b P C2/\bB F w b w'/\(∀n,b n->((F n/\cls n≠k)\/G' n))/\(∀a,a≠k->(λn=>b n/\P n=a)=λn=>F n/\cls n=a)/\(λn=>b n/\P n=k)=G':=d.dU e c.1 c.2 f g h
def aP.join{G:Nat->ZN}(a:∀n,C n w (G n))(g:∀d e P,G d P->G e P->d=e)(h:∀n P,G n P->P<w.heap.size):∃cls,aP w (λP=>∃n,G n P) cls C:=by
 classical
 refine⟨λP=>if a:∃n,G n P then a.choose else 0,⟨λn=>?_,λP ⟨n,b⟩=>h n P b⟩⟩;have:(λP=>(∃n,G n P)/\(if a:∃n,G n P then a.choose else 0)=n)=G n:=by
  funext P
  refine propext ⟨λ⟨c,f⟩=>?_,λb=>⟨⟨n,b⟩,?_⟩⟩
  ·rw[dif_pos c]at f;exact f▸c.choose_spec
  ·have c:∃n,G n P:=⟨n,b⟩
   rw[dif_pos c];exact g _ _ P c.choose_spec b
 rw[this];exact a n
end
end Go.au
namespace Go.Proofs.YtjgjkeponbeekaaGreatDoor
open Go.au
def VM:jF Nat:=flat 1 (λP=>[ZL P]) (λ_=>True) (λ_=>rfl) (λa b n=>by simp at n;subst n;rfl)
def OQ:jS ZP 197 205 1 8:=⟨kR,kR,dC⟩
structure cj (w:World) (G:ZN) (a:YQ) (n c:Nat) (Rs:List dm):Prop where
 body:∃ps:List (Nat×Nat),ps.length=Rs.length/\aM VM 205 (λb=>aD a=some b) w a n c (ps.map (·.1))/\
  (∀(i j:Nat) (x y:Nat×Nat),ps[i]? =some x->ps[j]? =some y->x.1≠y.2/\(x.2=y.2->i=j))/\(∀x∈ps,G x.1/\G x.2/\aD a≠some x.1/\aD a≠some x.2)/\
  ∀(i:Nat) (x:Nat×Nat) (R:dm),ps[i]? =some x->Rs[i]? =some R->lf w x.1 x.2 R
 self:∀b,aD a=some b->G b
variable{C:Nat×Nat}{h:Program}{g q:TypeId}{m s:ZR}
section
variable {w w':World} {G G' T:ZN} {a:YQ} {n c:Nat} {Rs:List dm}
def cj.af(b:cj w G a n c Rs)(h:ak T w w')(d:∀P,G P->¬T P):cj w' G a n c Rs:=by
 obtain⟨i,j,k,l,e,m⟩:=b.body;exact⟨⟨i,j,k.af h λP o=>d P (b.self P o),l,e,λp f q g r=>(m p f q g r).af h (d _ (e f (QZ g)).1) (d _ (e f (QZ g)).2.1)⟩,b.self⟩
def cj.ah(P:cj w G a n c Rs)(b:ai w w'):cj w' G a n c Rs:=P.af b λ_ _ P=>P
def cj.mono(g:cj w G a n c Rs)(b:∀P,G P->G' P):cj w G' a n c Rs:=by
 obtain⟨h,i,j,k,d,l⟩:=g.body;exact⟨⟨h,i,j,k,λe f=>⟨b _ (d e f).1,b _ (d e f).2.1,(d e f).2.2⟩,l⟩,λP m=>b P (g.self P m)⟩
def cj.len(P:cj w G a n c Rs):n=Rs.length:=by
 obtain⟨e,b,d,-⟩:=P.body;rw[d.len dC,Q8,b]
def cj.nil(w:World):cj w (λ_=>False) none 0 0 []:=⟨⟨[],rfl,(aM.nil w).mono (λP n=>n.elim) (λP n=>by cases n),sM,sM,sM⟩,λP n=>by cases n⟩
def cj.elem(m:cj w G a n c Rs){P:Nat}{o:dm}(u:Rs[P]? =some o):∃f e g,a=ZM f/\w.cell? ⟨f,0+P,none⟩=some (ZL e)/\lf w e g o/\e≠g/\G e/\G g/\G f/\
  ∀w' p,ak (·=g) w w'->lf w' e g p->cj w' G a n c (Rs.set P p):=by
 obtain⟨h,B,v,j,x,y⟩:=m.body;have L:=(Qv.1 u).1;have b:h[P]? =some h[P]:=Qq oM;generalize h[P]=d at b;obtain⟨cs,D,C,E,M⟩:=v.body;have q:=x d (QZ b);obtain⟨rfl,-⟩:=nK.1 E;have F:((h.map (·.1)).flatMap λe=>[Value.pointer (ZM e)])[P]? =some (ZL d.1):=by
  rw[ki (K:=1) dC (λ_=>rfl) be,Nat.div_one,Nat.mod_one,getElem!_pos _ P be];simp[(Qv.1 b).2]
 obtain⟨f,z,H⟩:=C.cell F;refine⟨f,d.1,d.2,z,by rw[Xz];exact H.2,y P d o b u,(j P P d d b b).1,q.1,q.2.1,m.self f (by rw[z];rfl),λw' p A I=>⟨⟨h,by simpa using B,v.af A λN J r=>q.2.2.2 (r▸J),j,x,λk s K i l=>?_⟩,m.self⟩⟩
 by_cases t:P=k
 ·subst t
  rw[b]at i;cases i
  rw[List.getElem?_set_self oM]at l;cases l
  exact I
 ·rw[List.getElem?_set_ne t]at l
  exact(y k s K i l).af A (j k P s d i b).1 λr=>t ((j P k d s b i).2 r.symm)
def cj.push(r:cj w G a n c Rs)(I:∀P,G P->P<w.heap.size){e f M:Nat}{N:dm}(J:lf w e f N)(Q:¬G e)(v:¬G f)(X:e≠f)(Y:jS h g 205 1 8)(Z:w.heap[M]? =some (.cells #[ZL e] 205 C))(b:Rs.length<=1000)(K:∀k y w' G',cj w' G' k (n+1) y (Rs++[N])->ak G w w'->(∀P,G' P->G P\/P=e\/P=f\/w.heap.size<=P)->(∀P,G' P->P<w'.heap.size)->m (.slice k (n+1) y) w'):
  aG h (Builtin.append_ #[g,g] q #[.slice a n c,.slice (ZM M) 1 1]) w m s:=by
 obtain⟨l,o,L,h3,z,h5⟩:=r.body;have a1:e<w.heap.size:=ax J.at';have a2:f<w.heap.size:=J.map.lt;refine eH L Y Z (D:=λ_=>False) (x:=e) ⟨rfl,trivial⟩ (λP b=>b.elim) (by unfold aK;simp;omega) (by unfold maxLen;simp;omega) λk y w' F' R A hF=>?_;have a0:∀P,aD k=some P->aD a=some P\/w.heap.size<=P:=λP b=>(hF P (R.self P b)).imp id λr=>r.resolve_left id;have t:=R.alone;have a5:=A.size;have S:∀P,aD k=some P->aD a=some P\/w.heap.size<=P:=a0;have F:∀P,P<w.heap.size->aD a≠some P->aD k≠some P:=λP b o L=>(S P L).elim o oM;have T:aD a≠some e:=λj=>Q (r.self e j);have U:aD a≠some f:=λj=>v (r.self f j);refine K k y w' (λP=>(G P\/P=e\/P=f\/aD k=some P)) ⟨⟨l++[(e,f)],by simp[o],by rw[Q3];exact t,λi V x u B H=>?_,λx B=>?_,λi x a3 B p=>?_⟩,λP b=>.inr (.inr (.inr b))⟩ (A.mono λP _ b=>r.self P b) (λP b=>?_) λP b=>?_
 ·have E:∀i x,(l++[(e,f)])[i]? =some x->(l[i]? =some x)\/(i=l.length/\x=(e,f)):=λi x B=>by
   rw[List.getElem?_append]at B;split at B
   ·exact .inl B
   ·rename_i W
    have:i-l.length=0:=by
     rcases Nat.eq_zero_or_pos (i-l.length)with O|O
     ·exact O
     ·rw[Q7 be]at B;cases B
    rw[this]at B;simp at B;exact .inr ⟨oM,B.symm⟩
  rcases E i x B with B|⟨rfl,rfl⟩<;>rcases E V u H with H|⟨rfl,rfl⟩
  ·exact h3 i V x u B H
  ·have d:=z x (QZ B)
   exact⟨λj=>v ((show x.1=f from j)▸d.1),λj=>Zz ((show x.2=f from j)▸d.2.1) v⟩
  ·have d:=z u (QZ H)
   exact⟨λj=>Q ((show e=u.2 from j)▸d.2.1),λj=>Zz ((show f=u.2 from j)▸d.2.1) v⟩
  ·exact⟨X,λ_=>rfl⟩
 ·rcases Q6.1 B with B|B
  ·have d:=z x B
   exact⟨.inl d.1,.inl d.2.1,F _ (I _ d.1) d.2.2.1,F _ (I _ d.2.1) d.2.2.2⟩
  ·simp at B;subst B
   exact⟨.inr (.inl rfl),.inr (.inr (.inl rfl)),F _ a1 T,F _ a2 U⟩
 ·rw[List.getElem?_append]at B p
  rw[<-o]at p;split at B
  ·rename_i a4
   rw[Zx a4]at p;have d:=z x (QZ B);exact(h5 i x a3 B p).af A d.2.2.1 d.2.2.2
  ·rename_i W
   rw[Zq W]at p;have:i-l.length=0:=by
    rcases Nat.eq_zero_or_pos (i-l.length)with O|O
    ·exact O
    ·rw[Q7 be]at B;cases B
   rw[this]at B p;simp at B p;subst B p;exact J.af A T U
 ·rcases b with b|b|b|b
  ·exact .inl b
  ·exact .inr (.inl b)
  ·exact .inr (.inr (.inl b))
  ·rcases S P b with o|o
   ·exact .inl (r.self P o)
   ·exact .inr (.inr (.inr o))
 ·rcases b with b|b|b|b
  ·have:=I P b;omega
  ·omega
  ·omega
  ·exact t.aC P b
def Xn:jF (List dm) where
 k:=2
 rep:=λw D Rs cs=>∃P a n c,cs=[.pointer P,.slice a n c]/\cj w D a n c Rs
 af:=λ⟨P,a,n,c,b,d⟩ g e=>⟨P,a,n,c,b,d.af g e⟩
 mono:=λ⟨P,a,n,c,b,d⟩ e=>⟨P,a,n,c,b,d.mono e⟩
 len:=λ⟨P,a,n,c,b,d⟩=>by rw[b];rfl
 one:=λ⟨P,a,n,c,b,d⟩ h f=>by
  rw[b]at f;simp only[Q2,List.not_mem_nil,or_false]at f;rcases f with rfl|rfl<;>rfl
def UY:jS ZP 200 199 2 32:=⟨kR,kR,dC⟩
end
def JN(n:aN)(P:List aj)(a:aj):dR n (P++[a])=(dR n P).add a:=by unfold dR;rw[List.foldl_append];rfl
def JP(n:aN)(P:List aj)(a:aj):cy n (P++[a])=((cy n P).add a).2:=by unfold cy;rw[List.foldl_append];rfl
def JO(a:aN)(n:List aj):(dR a n).view=cy a n:=by
 have:∀(n:List aj) (P:jR),(n.foldl jR.add P).view=n.foldl (λc b=>(c.add b).2) P.view:=by
  intro n
  induction n with
  |nil=>intro P;rfl
  |cons b n d=>intro P;rw[List.foldl_cons,List.foldl_cons,d];rfl
 exact this n _
variable{l:Array Value}{A:ZT}{e:Int}{J:List aj}{g1:List dm}{a c:Nat}{d:YQ}{b:World}{R:aN}{d1:aV}{o:aj}{d6:jm}
def Hp(c:cT R=0)(P:List aj):(cy R P).OK/\(cy R P).decl=R:=by
 have:∀(P:List aj) (n:aV),n.OK->(P.foldl (λn a=>(n.add a).2) n).OK/\(P.foldl (λn a=>(n.add a).2) n).decl=n.decl:=by
  intro P
  induction P with
  |nil=>intro n b;exact⟨b,rfl⟩
  |cons a P d=>
   intro n b;obtain⟨e,f⟩:=aV.Ae b a;obtain⟨g,h⟩:=d _ e;exact⟨g,h.trans f⟩
 exact this P _ (aV.sZ c)
def dm.U_(P:dm)(a:cC)(n:Int):(P.add a n).p=P.p:=by
 unfold dm.add;dsimp only;split
 ·rfl
 ·split<;>rfl
def Hk(c:aN)(n:List aj):(dR c n).rows.map (·.p)=c.projs:=by
 have:∀(n:List aj) (P:jR),(n.foldl jR.add P).rows.map (·.p)=P.rows.map (·.p):=by
  intro n
  induction n with
  |nil=>intro P;rfl
  |cons a n d=>
   intro P;rw[List.foldl_cons,d];show((P.rows.map λb=>b.add (P.view.add a).1 (su ((P.view.add a).2.state a.aU a.agg) b.p)).map (·.p))=_;rw[List.map_map];exact List.map_congr_left λb _=>b.U_ _ _
 refine(this n _).trans ?_;show(c.projs.map λe=>(⟨e,[]⟩:dm)).map (·.p)=_;rw[List.map_map];exact List.map_id _
def pK(n:aN)(P:List aj):(dR n P).rows.length=n.projs.length:=by
 rw[<-Hk n P,Q8]
def jY(a:aN)(n:Nat)(P:List aj):List (List dm):=(List.range (P.length/n+1)).map λb=>(dR a (P.take (b*n))).rows
section
variable {d:aN} {every:Nat} {l:List aj}
def Ac:(jY d every l).length=l.length/every+1:=by simp[jY]
def OV(n:a<=l.length/every):(jY d every l)[a]? =some (dR d (l.take (a*every))).rows:=by
 unfold jY;rw[Q9,List.getElem?_range oM];rfl
def OZ:jY d every []=[(dR d []).rows]:=by
 unfold jY;rw[ZQ,Nat.zero_div];simp
def MS(c:0<every)(e:aj):jY d every (l++[e])=if l.length+1=(l.length/every+1)*every then jY d every l++[(dR d (l++[e])).rows]else jY d every l:=by
 have g:=Nat.div_add_mod l.length every;have h:=Nat.mod_lt l.length c;have P:∀n,n<=l.length/every->(l++[e]).take (n*every)=l.take (n*every):=λn a=>by
  have:n*every<=l.length:=Xx (Q0 _ a) (Nat.div_mul_le_self ..);rw[List.take_append_of_le_length this]
 split
 ·rename_i b
  have f:(l.length+1)/every=l.length/every+1:=by rw[b];exact Nat.mul_div_cancel _ c
  unfold jY;rw[QX,List.length_singleton,f,List.range_succ,Q3]
  congr 1
  ·refine List.map_congr_left λn a=>?_
   rw[P n (by have:=List.mem_range.1 a;omega)]
  ·rw[List.map_singleton,<-b,Qz sM]
 ·rename_i b
  have f:(l.length+1)/every=l.length/every:=by
   have i:(l.length+1)/every<l.length/every+1:=by
    rw[Nat.div_lt_iff_lt_mul c];rw[X7,Nat.one_mul,Nat.mul_comm]at b⊢;omega
   have j:l.length/every<=(l.length+1)/every:=Nat.div_le_div_right oM;omega
  unfold jY;rw[QX,List.length_singleton,f];refine List.map_congr_left λn a=>?_;rw[P n (by have:=List.mem_range.1 a;omega)]
def MV(P:0<every)(b:a<=l.length/every):(jY d every l).take (a+1)=jY d every (l.take (a*every)):=by
 have c:a*every<=l.length:=Xx (Q0 _ b) (Nat.div_mul_le_self ..);unfold jY;rw[Qy,X2 c,Nat.mul_div_cancel _ P,<-List.map_take,List.take_range,X2 oM];refine List.map_congr_left λe f=>?_;have n:e<=a:=by have:=List.mem_range.1 f;omega
 rw[List.take_take,X2 (Q0 _ n)]
end
structure vX where
 ta:YQ
 tn:Nat
 tc:Nat
 pa:YQ
 pn:Nat
 pc:Nat
 every:Nat
 ea:YQ
 en:Nat
 ec:Nat
 vp:Nat
 ra:YQ
 rn:Nat
 rc:Nat
 qa:YQ
 qn:Nat
 qc:Nat
abbrev vX.cells(n:vX):Array Value:= #[.slice n.ta n.tn n.tc,.slice n.pa n.pn n.pc,ZH (n.every:Int),.slice n.ea n.en n.ec,ZL n.vp,.slice n.ra n.rn n.rc,.slice n.qa n.qn n.qc]
def Aa(b:Nat)(c:Array Value)(n:vX)(d:aN)(e:aV)(f:List dm)(g:List aj)(a:List (List dm)):Nat->World->(ZN)->Prop
 |0=>λP G=>G b/\P.heap[b]? =some (.cells c 202 (0,0))
 |1=>λP G=>bf P G d n.ta n.tn n.pa n.pn
 |2=>λP G=>aM jB 63 G P n.ea n.en n.ec g
 |3=>λP G=>cg P n.vp G e
 |4=>λP G=>cj P G n.ra n.rn n.rc f
 |5=>λP G=>aM Xn 199 G P n.qa n.qn n.qc a
 |_=>λ_ _=>True
def dw{d:vX}{c:List (List dm)}:kr (Aa a l d R d1 g1 J c):=by
 intro k e w' G f n P b
 match k,n with
 |0,n=>exact⟨n.1,P.get n.2 (b a n.1)⟩
 |1,n=>exact bf.af n P b
 |2,n=>exact aM.af n P b
 |3,n=>exact cg.af n P b
 |4,n=>exact cj.af n P b
 |5,n=>exact aM.af n P b
 |k+6,n=>trivial
abbrev dO(b:World)(c:ZN)(n:Nat->Nat)(d:Nat)(a:vX)(e:aN)(f:aV)(g:List dm)(h:List aj)(P:List (List dm)):Prop:=aP b c n (Aa d a.cells a e f g h P)
section
variable {w w':World} {p:Nat} {F T D:ZN} {cls:Nat->Nat} {q:vX} {d:aN} {V:aV} {Rs:List dm} {l:List aj} {pts:List (List dm)}
def dO.ah(n:dO w F cls p q d V Rs l pts)(P:ai w w'):dO w' F cls p q d V Rs l pts:=aP.ah n dw P
def dO.bj(n:dO w F cls p q d V Rs l pts):w.heap[p]? =some (.cells q.cells 202 (0,0)):=(n.at' 0).2
def dO.self(n:dO w F cls p q d V Rs l pts):F p/\cls p=0:=(n.at' 0).1
def DF(s:dO w F cls p q d V Rs l pts)(hd:cT d=0)(hT:eP w)(hl:l.length<=20000000){vp:YQ}{y:YQ}(hr:cj w D y a c g1)(hD:∀n,D n->n<w.heap.size)(hn:g1.length<=8):
  YX 159 #[ZL p,.agg #[.pointer vp,.slice y a c]] w (Ok λT w'=>∃g y a c e G,T= .agg #[ZL g,.slice y a c]/\cg w' g e (cy d l)/\cj w' G y a c g1/\(∀n,e n->w.heap.size<=n)/\(∀n,G n->w.heap.size<=n/\n<w'.heap.size/\¬e n)/\ai w w'):=by
 have U:=s.aC;have g7:=hr.len;refine sV (PA.mk λt k5 s5 g5=>PA.mk λz k6 s6 g6=>?_);have A:=k5.then k6;have c1:∀{i:World},ai w i->Row jB 96 i (λn=>F n/\cls n=2) q.ea q.en l:=λ{i} u=>((show aM jB 63 (λn=>F n/\cls n=2) w q.ea q.en q.ec l from s.at' 2).ah u).row dC ba;have m:∀{i:World},ai w i->YX 79 #[.agg #[.slice q.ta q.tn q.tc,.slice q.pa q.pn q.pc],.slice q.ea q.en q.ec] i (Ok λT w'=>∃p F,T= ZL p/\cg w' p F (cy d l)/\(∀n,F n->i.heap.size<=n)/\ai i w'):=λ{i} u=>
  Hg hd (hT.ah u) (show bf i (λn=>F n/\cls n=1) d q.ta q.tn q.pa q.pn from bf.af (s.at' 1) u λ_ _ s=>s) (λn P=>by have:=U n P.1;have:=u.size;omega) (c1 u) (λn P=>by have:=U n P.1;have:=u.size;omega) hl
 refine⟨λh oo w'=>oo=0/\∃g e,w'.heap[h]? =some (.cells #[ZL g,.slice none 0 0] 199 (0,0))/\cg w' g e (cy d l)/\(∀n,e n->z.heap.size<=n)/\¬e h/\z.heap.size<=h/\ai z w',?_,?_⟩
 ·intro o d9
  have v:ai z o:=d9.af;have s9:o.heap.size=z.heap.size:=by rw[d9.heap]
  have W:=(s.ah (A.then v)).bj;have zp:=U p s.self.1;have nS:¬o.heap.size<=p:=by have:=(A.then v).size;omega
  refine⟨λn=>o.heap.size<=n,p,0,rfl,nS,_,_,_,_,_,_,ae W rfl,ae W rfl,p,0,rfl,nS,_,_,_,ae W rfl,PC.ok (m (A.then v)) ?_,PA.mk λg8 X g9 d3=>⟨ai.af X,PC.ok (m ((A.then v).then X)) ?_⟩⟩
  ·rintro _ J ⟨g,e,rfl,r,B,Y⟩
   refine⟨_,rfl,ai.af Y,PA.mk λd4 Z h0 d5=>⟨ai.af Z,PS.mk d5 sM λh2 d6 h3 d7=>PS.mk d7 sM λd8 e0 h4 e1=>?_⟩⟩;have C:=r.aC;have h5:=Y.size;have f:ak (λn=>n=J.heap.size) d4 d8:=d6.then e0;refine⟨f.mono λn _ b=>by have b:n=J.heap.size:=b;omega,rfl,g,e,e1,(r.ah Z).af f λn P b=>by have b:n=J.heap.size:=b;have:=C n P;omega,λn P=>by have:=B n P;omega,λP=>by have:=C _ P;omega,oM,((v.then Y).then Z).new f λn P=>.inr (by have P:n=J.heap.size:=P;omega)⟩
  ·rintro _ e2 ⟨g,e,rfl,r,B,K⟩
   have e3:=K.get d3 id;have C:=r.aC;have h6:=K.size;refine⟨_,rfl,ai.af K,PS.mk e3 sM λh7 e4 h8 e5=>PS.mk e5 sM λe6 e7 h9 e8=>?_⟩;have f:ak (λn=>n=o.heap.size) e2 e6:=e4.then e7;refine⟨f.mono λn _ b=>by have b:n=o.heap.size:=b;omega,rfl,g,e,e8,r.af f λn P b=>by have b:n=o.heap.size:=b;have:=B n P;omega,λn P=>by have:=B n P;omega,λP=>by have:=B _ P;omega,oM,((v.then X).then K).new f λn P=>.inr (by have P:n=o.heap.size:=P;omega)⟩
 rintro h _ _ L ⟨rfl,g,e,E,r,c4,e9,g4,M⟩;have a5:=A.then M;have i0:=M.size;have a3:h<L.heap.size:=ax E;have C:=r.aC;have c5:=M.get (k6.get g5 id) id;have c6:=M.get g6 id;refine⟨_,_,_,ae c5 rfl,λa2 a4 w'=>∃j:Nat,a4=j/\j<=a/\a2=a-j/\∃N H O G,w'.heap[h]? =some (.cells #[ZL g,.slice N H O] 199 (0,0))/\cj w' G N H O (g1.take j)/\(∀n,G n->L.heap.size<=n/\n<w'.heap.size)/\ak (·=h) L w',
  ⟨_,0,rfl,Qj _,rfl,none,0,0,λ_=>False,E,cj.nil _,λn P=>P.elim,ak.refl _⟩,?_⟩
 rintro a2 _ _ I ⟨j,rfl,hj,rfl,N,H,O,G,Q,R,k,x⟩;have i1:=x.size;refine al.dec (λi2=>?_) (λi3=>?_)
 ·have f2:j<g1.length:=oM
  have hx:g1[j]? =some g1[j]:=Qq f2;generalize g1[j]=c2 at hx;obtain⟨a7,pj,rj,ha,a0,hR,a8,a9,b0,-,-⟩:=((hr.ah a5).af x λn P b=>by have b:n=h:=b;have:=hD n P;omega).elem hx;have f3:=R.len;rw[Qy,X2 oM]at f3;refine⟨a7,0,ha,oM,oM,_,by rw[Qx];exact a0,λc7 c8=>⟨λ_=>False,id,?_⟩⟩;have b2:ai I c7:=c8.af;have i4:c7.heap.size=I.heap.size:=by rw[c8.heap]
  refine⟨_,_,_,ae (b2.get Q id) rfl,PC.ok (MR (hR.ah b2)) ?_⟩;rintro _ i5 ⟨p',r',rfl,f4,f5,i6,i7,i8,i9,b3⟩;have j0:=b3.size;refine⟨_,rfl,b3,PA.mk λj1 b4 j2 f8=>⟨b4,?_⟩⟩;have a1:=(b2.then b3).then b4;refine(R.ah a1).push (λn P=>by have:=(k n P).2;omega) (f4.ah b4) (λP=>by have:=(k _ P).2;omega) (λP=>by have:=(k _ P).2;omega) f5 OQ f8 (by rw[Qy];omega) λb1 c3 j3 G3 g0 b5 b6 c9=>⟨_,_,_,rfl,?_⟩
  have j4:=b5.size;have c0:=b5.get (a1.get Q id) λP=>by have:=(k _ P).1;omega
  have a6:∀n,G3 n->L.heap.size<=n:=λn P=>by
   rcases b6 n P with S|S|S|S
   ·exact(k n S).1
   ·omega
   ·omega
   ·omega
  refine PS.mk c0 sM λj5 d0 j6 g2=>⟨_,oM,j+1,aq oM,oM,rfl,b1,H+1,c3,G3,g2,?_,λn P=>⟨a6 n P,by have:=c9 n P;omega⟩,?_⟩
  ·rw[Qw,hx]
   exact g0.af d0 λn P b=>by have b:n=h:=b;have:=a6 n P;omega
  ·exact((x.ah a1).new b5 λn P=>.inr (k n P).1).then d0
 ·rw[Qz oM]at R
  have d1:=x.get c6 λb=>by have b:t.heap.size=h:=b;omega
  refine⟨_,_,_,_,ae Q rfl,ae Q rfl,PS.mk d1 sM λj7 b7 j8 g3=>PS.mk g3 sM λb8 b9 j9 d2=>⟨_,_,_,_,ae d2 rfl,ae d2 rfl,Ok.mk ⟨g,N,H,O,e,G,rfl,?_,?_,λn P=>by have:=c4 n P;omega,λn P=>⟨?_,?_,?_⟩,?_⟩⟩⟩
  ·have f:ak (λn=>n=t.heap.size) I b8:=b7.then b9
   exact(r.af x λn P b=>e9 ((show n=h from b)▸P)).af f λn P b=>by have b:n=t.heap.size:=b;have:=c4 n P;omega
  ·have f:ak (λn=>n=t.heap.size) I b8:=b7.then b9
   exact R.af f λn P b=>by have b:n=t.heap.size:=b;have:=k n P;omega
  ·have:=k n P;omega
  ·have:=k n P;omega
  ·intro hf;have:=k n P;have:=C n hf;omega
  ·have f:ak (λn=>n=t.heap.size) I b8:=b7.then b9
   exact(a5.new x λn P=>.inr (by have P:n=h:=P;omega)).new f λn P=>.inr (by have P:n=t.heap.size:=P;omega)
end
section
variable {w w':World} {p:Nat} {F T D:ZN} {cls:Nat->Nat} {q:vX} {d:aN} {V:aV} {Rs:List dm} {l:List aj} {pts:List (List dm)}
def CC{b:YQ}{w:World}{D:ZN}(g:Row aI 8 w D b a o.aQ)(s:∀n,D n->n<w.heap.size):
  YX 186 #[jQ o b a c] w (Ok λt w'=>∃b a c G,t=jQ o b a c/\Row aI 8 w' G b a o.aQ/\(∀n,G n->w.heap.size<=n/\n<w'.heap.size)/\ai w w'):=by
 have u:=g.ef;have v:=g.len;refine yD (PA.mk λz k A d=>PA.mk λB e C h=>⟨_,_,_,ae (e.get d id) rfl,PC.ok (bH (g.ah (k.then e)) λn P=>by have:=s n P;omega) ?_⟩);rintro _ E ⟨l,m,p,G,rfl,q,f,i⟩;have d:=f.get (e.get d id) id;have h:=f.get h id;refine⟨_,_,_,rfl,PS.mk d (by simp[aE]) λF j H x=>?_⟩;refine ar (cs:=aE o l m p) (aW _ _ _ _) x (az (aW _ _ _ _) (j.get h oM) rfl λI r J y=>ar (aW _ _ _ _) y (Ok.mk ⟨l,m,p,G,rfl,?_,?_,?_⟩))
 ·refine(((q.af j λn P=>?_).af r λn P=>?_).row (bytes:=8) dC (by rw[<-v];exact u))
  ·have:=i n P;omega
  ·have:=i n P;omega
 ·intro n P
  have:=i n P;have:=q.aC n P;omega
 ·have K:=f.size
  exact((ak.new ((k.then e).then f) j λn P=>.inr oM).new r λn P=>.inr oM)
def dO.store{P:vX}{a:Array Value}(n:aP w F cls (Aa p q.cells P d V Rs l pts))(c:ak (·=p) w w')(e:w'.heap[p]? =some (.cells a 202 (0,0))):aP w' F cls (Aa p a P d V Rs l pts):=by
 refine aP.same n dw (k:=0) (c.mono λi _ f=>f▸(n.at' 0).1) ⟨(n.at' 0).1,e⟩ λb G g h=>?_;rcases b with _|_|_|_|_|_|b<;>first|exact h|exact Zz rfl g
def DG(P:dO w F cls p q d V Rs l pts)(I:cT d=0)(J:eP w)(K:l.length<=20000000)(L:Rs.length<=8)(b2:pts.length*q.every<9223372036854775808)(b3:pts.length<=20000001):
  YX 107 #[ZL p] w (Ok λM w'=>M= .tuple #[]/\∃t u e,dO w' u e p t d V Rs l (if l.length=pts.length*q.every then pts++[Rs]else pts)/\t.every=q.every/\bB F w u w'):=by
 have i:=P.bj;have N:=aM.len (P.at' 2) dC;have O:=aM.len (P.at' 5) dC;have Q:=P.aC;have R:ZG .i64 (((q.qn:Nat):Int)*(q.every:Int))=((pts.length*q.every:Nat):Int):=by
  rw[O,show((pts.length:Nat):Int)*(q.every:Int)=((pts.length*q.every:Nat):Int) by push_cast;rfl,wrap_i64 bc]
 refine sW ⟨p,0,rfl,_,_,_,ae i rfl,p,0,rfl,_,_,_,ae i rfl,p,0,rfl,_,ae i rfl,λS T=>?_⟩;rw[R,N];have j:ai w S:=T.af;refine al.cW (λb4=>?_) (λb5=>Ok.mk ⟨rfl,q,F,cls,?_,rfl,ai.af j,λn a=>.inl a⟩)
 rotate_left
 ·rw[Zq oM];exact dO.ah P j
 rw[Zx oM];intro v U;have h:ai w v:=j.then U.af;have c:=dO.ah P h;have k:=c.bj;refine⟨λ_=>False,p,0,rfl,id,_,_,_,ae k rfl,p,0,rfl,_,_,_,_,ae k rfl,ae k rfl,PC.ok (DF c I (J.ah h) K (c.at' 4) (λn a=>c.aC n a.1) L) ?_⟩;rintro _ b6 ⟨b7,a3,n2,c2,Fv,G,rfl,-,W,-,m,o⟩;refine⟨_,_,_,_,rfl,o,PA.mk λb8 r b9 X=>⟨r,?_⟩⟩;have x:=o.then r;have Y:=dO.ah c x;have c1:=h.size;have c3:=o.size;have s:∀n,aD q.qa=some n->F n/\cls n=5:=λn a=>aM.self (P.at' 5) n a;refine eH (c:=Xn) (x:=Rs) (Y.at' 5) UY X (D:=G) ⟨_,_,_,_,rfl,W.ah r⟩ (λn a=>⟨by have:=(m n a).2.1;omega,λf=>by have:=Q n (s n f).1;have:=(m n a).1;omega⟩) ba (by unfold maxLen;omega) λy b Z F2 z A b0=>⟨_,_,_,rfl,p,0,rfl,?_⟩
 have a0:¬aD q.qa=some p:=λf=>by have g:=(s p f).2;rw[P.self.2]at g;cases g
 have c4:=A.size;have a1:ak (λn=>F n/\cls n=5) v Z:=(ai.af x).then (A.mono λn _ a=>s n a);obtain⟨F3,a2,B,C,-,-⟩:=c.dU dw (k:=5) (G':=F2) (C2:=Aa p q.cells {q with qa:=y,qn:=q.qn+1,qc:=b} d V Rs l (pts++[Rs])) a1
  (λn a=>(b0 n a).imp id λP=>P.elim (λP=>(m n P).1) λP=>oM) z.aC z λE G hj hc=>by
   rcases E with _|_|_|_|_|_|E<;>first|exact hc|exact Zz rfl hj
 refine PS.mk (B.at' 0).2 sM λc5 H c6 b1=>Ok.mk ⟨rfl,{q with qa:=y,qn:=q.qn+1,qc:=b},F3,a2,dO.store B H b1,rfl,?_,λn a=>?_⟩
 ·refine((ai.af h).then C.af).then (H.mono λn _ f=>f▸P.self.1)
 ·rcases C.new n a with g|g
  ·exact .inl g
  ·exact .inr oM
end
section
variable {w w':World} {p:Nat} {F T D:ZN} {cls:Nat->Nat} {q:vX} {d:aN} {V:aV} {Rs:List dm} {l:List aj} {pts:List (List dm)}
def pI(V:aV)(n:aj)(Rs:List dm):List dm:=Rs.map λP=>P.add (V.add n).1 (su ((V.add n).2.state n.aU n.agg) P.p)
def RI{d:aN}(b:cT d=0)(c:d6∈d.projs):0<=d6.ET:=by
 have P:=(mR b).2.2 d6 c;unfold lV at P;split at P
 ·cases P
 split at P
 ·cases P
 rename_i n
 by_cases a:d6.group=3
 ·rw[a]at n
  simp only[BEq.rfl,Bool.true_and,bne_self_eq_false,Bool.false_and,Bool.or_false,Bool.not_eq_true,Bool.not_eq_false']at n;unfold RE within at n;simp only[QK,Zk]at n;exact n.1.1
 ·have e:(d6.group==3)=false:=by simpa using a
  have f:(d6.group !=3)=true:=by simpa using a
  rw[e,f]at n;simp at n;omega
def DH{V:aV}(P:V.OK)(n:aj):((V.state n.aU n.agg).getD He).cells.length<=8:=by
 have a:=P.len n;have b:=(Ab (mR P.decl).1).2.2.2;have g:(V.decl.at n.aU).length<=8:=by
  unfold aN.at;split
  ·rw[QQ]
   cases c:V.decl.types[n.aU.toNat]? with
   |none=>simp
   |some d=>exact(b d (QZ c)).2
  ·simp
 unfold aV.cellsOf at a;unfold aV.state
 cases e:aF V.eg (n.aU,n.agg)with
 |none=>simp
 |some f=>simp only[e]at a;show f.cells.length<=8;omega
def Wl(w n:World)(p:Nat)(F:ZN)(q:vX)(d:aN)(V:aV)(Rs:List dm)(l:List aj)(pts:List (List dm))(c:aj)(P e:Nat)(w':World):Prop:=
 e=0/\∃f g h a i,w'.heap[P]? =some (.cells (h_ (V.add c).1 f g h).toArray 133 (0,0))/\dO w' a i p q d (V.add c).2 Rs l pts/\(∀b,a b->F b\/n.heap.size<=b)/\ak F n w'/\n.heap.size<=P/\¬a P
def OR(u:dO w F cls p q d V Rs l pts)(hd:cT d=0)(hT:eP b)(g0:ai b w)(g4:∀n,F n->b.heap.size<=n)(hl:l.length+1<=20000000)(k5:V.entries.length<=20000000)(g5:Rs.map (·.p)=d.projs)(k6:pts.length*q.every<9223372036854775808)(k7:pts.length<=20000001){I:YQ}(k8:((aF V.done (o.aU,o.agg,o.field)).getD []).length<=20000000)(hr:Row aI 8 w D I a o.aQ)(R:∀n,D n->n<w.heap.size/\¬F n)(he:o.Ok):
  YX 117 #[ZL p,jQ o I a c] w (Ok λa5 w'=>a5= .tuple #[]/\∃q' S a0,dO w' S a0 p q' d (V.add o).2 (pI V o Rs) (l++[o]) (if l.length+1=pts.length*q.every then pts++[pI V o Rs]else pts)/\q'.every=q.every/\bB F w S w'):=by
 have T:=u.aC;have q8:=T p u.self.1;have q9:Rs.length=d.projs.length:=by rw[<-g5,Q8]
 have r0:d.projs.length<=8:=(Ab (mR hd).1).2.2.1;refine ud (PA.mk λe1 b8 r3 g6=>?_);have k9:=dO.ah u b8;refine⟨Wl w e1 p F q d V Rs l pts o,?_,?_⟩
 ·intro r g7
  have a6:ai e1 r:=g7.af;have r4:r.heap.size=e1.heap.size:=by rw[g7.heap]
  have e2:=dO.ah k9 a6;have a7:=b8.then a6;have g8:=e2.bj;have a1:∀{m:World},ai r m->YX 124 #[ZL q.vp,jQ o I a c] m (Ok λa5 w'=>∃I a c G,a5=EU (V.add o).1 I a c/\Row aI 8 w' G I a o.aQ/\∃S,cg w' q.vp S (V.add o).2/\bB (λn=>F n/\cls n=3) m S w'/\∀n,G n->m.heap.size<=n/\n<w'.heap.size/\¬S n):=λ{m} U=>
   Hh (show cg m q.vp (λn=>F n/\cls n=3) V from(dO.ah e2 U).at' 3) (hT.ah (g0.then (a7.then U))) (hr.ah (a7.then U)) (λn P=>⟨by have:=(R n P).1;have:=(a7.then U).size;omega,λg=>(R n P).2 g.1⟩) he k8 k5
  have dU:∀{m w2:World} {s:ZN},ai r m->cg w2 q.vp s (V.add o).2->bB (λn=>F n/\cls n=3) m s w2->∃h j,dO w2 h j p q d (V.add o).2 Rs l pts/\(∀n,h n->F n\/s n)/\(∀n,h n->F n\/m.heap.size<=n)/\ak F m w2:=λ{m w2 s} U W v=>by
   obtain⟨h,j,X,J,k,-⟩:=(dO.ah e2 U).fK dw (k:=3) (G':=s) (C2:=Aa p q.cells q d (V.add o).2 Rs l pts) v W.aC W λe G Y hc=>by
    rcases e with _|_|_|_|_|_|e<;>first|exact hc|exact Zz rfl Y
   exact⟨h,j,X,λn P=>(k n P).imp (·.1) id,J.new,J.af⟩
  have nS:¬((F p/\cls p=3)\/r.heap.size<=p):=by
   rintro(⟨-,f⟩|f)
   ·rw[u.self.2]at f;cases f
   ·omega
  have b9:¬((F w.heap.size/\cls w.heap.size=3)\/r.heap.size<=w.heap.size):=by
   rintro(⟨f,-⟩|f)
   ·have:=T _ f;omega
   ·omega
  refine⟨λn=>(F n/\cls n=3)\/r.heap.size<=n,p,0,rfl,nS,_,ae g8 rfl,b9,ar (aW o I a c) (a6.get g6 id) ⟨PC.ok (a1 (ak.refl _)) ?_,PA.mk λr5 c2 r6 l0=>⟨ai.af c2,PC.ok (a1 c2) ?_⟩⟩⟩
  ·rintro _ e3 ⟨y,z,A,G1,rfl,-,s,W,v,-⟩
   obtain⟨h,j,X,g9,k,kF⟩:=dU (ak.refl _) W v;have r7:=v.af.size;have h0:=X.aC;refine bT (OS _ y z A) ⟨rfl,v.af.mono λn _ P=>.inl P,PA.mk λr8 e4 r9 l3=>⟨ai.af e4,az (lH _ y z A) l3 rfl λs1 e5 s2 l4=>⟨e5.mono λn _ o=>.inr (by have o:n=e3.heap.size:=o;omega),rfl,y,z,A,h,j,l4,?_,λn P=>?_,?_,oM,λg=>by have:=h0 _ g;omega⟩⟩⟩
   ·exact aP.af (dO.ah X e4) dw e5 λn P o=>by have o:n=e3.heap.size:=o;have:=h0 n P;omega
   ·rcases k n P with f|f
    ·exact .inl f
    ·exact .inr oM
   ·exact(((ai.af a6).then kF).ah e4).new e5 λn P=>.inr (by have P:n=e3.heap.size:=P;omega)
  ·rintro _ s3 ⟨y,z,A,G1,rfl,-,s,W,v,-⟩
   obtain⟨h,j,X,g9,k,kF⟩:=dU c2 W v;have s4:=v.af.size;have nf:¬h r.heap.size:=λg=>by
    rcases k _ g with f|f
    ·have:=T _ f;omega
    ·omega
   have l5:=kF.get l0 λg=>by have:=T _ g;omega
   refine bT (OS _ y z A) ⟨rfl,v.af.mono λn _ P=>.inl P,az (lH _ y z A) l5 rfl λs5 e6 s6 l6=>⟨e6.mono λn _ o=>.inr (by have o:n=r.heap.size:=o;omega),rfl,y,z,A,h,j,l6,?_,λn P=>?_,?_,oM,nf⟩⟩
   ·exact aP.af X dw e6 λn P o=>by have o:n=r.heap.size:=o;exact nf (o▸P)
   ·rcases k n P with f|f
    ·exact .inl f
    ·exact .inr oM
   ·exact(((ai.af a6).then (ai.af c2)).then kF).new e6 λn P=>.inr (by have P:n=r.heap.size:=P;omega)
 rintro xb _ _ K ⟨rfl,xa,xn,xc,h,j,gx,Z,k,c3,s7,l7⟩;have h2:=c3.get g6 λg=>by have:=T _ g;omega
 have h3:=(hr.ah b8).af c3 λn P=>(R n P).2;have a8:=Z.aC;have s8:=c3.size;have xw:=ax gx;have a9:ak F w K:=(ai.af b8).then c3;have p8:ai b K:=g0.new a9 λn P=>.inr (g4 n P);obtain⟨i,hS⟩:∃i,i=(V.add o).2.state o.aU o.agg:=⟨_,rfl⟩
 have s9:(i.getD He).cells.length<=8:=by rw[hS];exact DH (show(V.add o).2.OK from(show cg K q.vp (λn=>h n/\j n=3) (V.add o).2 from Z.at' 3).1) o
 refine⟨λsb so w'=>so=0/\∃sa sn sc G2,w'.heap[sb]? =some (.cells #[ZH (i.getD He).version,.slice sa sn sc] 49 (0,0))/\Row eG 32 w' G2 sa sn (i.getD He).cells/\(∀n,G2 n->K.heap.size<=n/\n<w'.heap.size)/\K.heap.size<=sb/\ai K w',?_,?_⟩
 ·intro B h4
  have c4:ai K B:=h4.af;have t0:B.heap.size=K.heap.size:=by rw[h4.heap]
  have e7:=dO.ah Z c4;have h5:=e7.bj;have d4:=c4.get h2 id;have nS:¬B.heap.size<=p:=by have:=a8 p Z.self.1;omega
  have b9:¬B.heap.size<=w.heap.size:=oM
  refine⟨λn=>B.heap.size<=n,p,0,rfl,nS,_,ae h5 rfl,b9,_,ae d4 rfl,b9,_,ae d4 rfl,PC.ok (nQ (e7.at' 3)) ?_,PA.mk λt1 e8 t2 l8=>⟨ai.af e8,PC.ok (nQ ((dO.ah e7 e8).at' 3)) ?_⟩⟩
  ·rintro _ c5 ⟨ca,cn,cc,G,rfl,N,L,e9⟩
   have t3:=e9.size;have c6:=N.aC;rw[<-hS]at N⊢;refine⟨_,_,_,_,_,rfl,ai.af e9,PA.mk λl9 f2 t4 m0=>⟨ai.af f2,PS.mk m0 sM λt5 m1 t6 m2=>PS.mk m2 sM λm3 m4 t7 m5=>?_⟩⟩;have O:ak (λn=>n=c5.heap.size) l9 m3:=m1.then m4;refine⟨O.mono λn _ o=>by have o:n=c5.heap.size:=o;omega,rfl,ca,cn,cc,G,m5,((N.ah f2).af O λn P o=>by have o:n=c5.heap.size:=o;have:=c6 n P;omega).row dC ba,λn P=>⟨by have:=L n P;omega,by have:=c6 n P;omega⟩,oM,((c4.then e9).then f2).new O λn P=>.inr (by have P:n=c5.heap.size:=P;omega)⟩
  ·rintro _ m6 ⟨ca,cn,cc,G,rfl,N,L,c7⟩
   have t8:=c7.size;have c6:=N.aC;have m7:=c7.get l8 id;rw[<-hS]at N⊢;refine⟨_,_,_,_,_,rfl,ai.af c7,PS.mk m7 sM λt9 m8 u0 m9=>PS.mk m9 sM λn0 n2 u1 n3=>?_⟩;have O:ak (λn=>n=B.heap.size) m6 n0:=m8.then n2;refine⟨O.mono λn _ o=>by have o:n=B.heap.size:=o;omega,rfl,ca,cn,cc,G,n3,(N.af O λn P o=>by have o:n=B.heap.size:=o;have:=L n P;omega).row dC ba,λn P=>⟨by have:=L n P;omega,by have:=c6 n P;omega⟩,oM,((c4.then e8).then c7).new O λn P=>.inr (by have P:n=B.heap.size:=P;omega)⟩
 rintro sb _ _ h6 ⟨rfl,sa,sn,sc,G2,gs,n4,n8,u2,Q⟩;have c8:=dO.ah Z Q;have h7:=c8.bj;have u3:=Q.size;have h8:bf h6 (λn=>h n/\j n=1) d q.ta q.tn q.pa q.pn:=c8.at' 1;have p9:=h8.EV.len;have q0:=c8.aC;have h9:=Q.get gx id;obtain⟨C,g⟩:∃C:dm->dm,C=λx=>x.add (V.add o).1 (su ((V.add o).2.state o.aU o.agg) x.p):=⟨_,rfl⟩
 have g2:=ax gs;refine⟨p,0,rfl,_,_,_,ae h7 rfl,λd5 b0 w'=>∃e:Nat,b0=e/\e<=q.pn/\d5=q.pn-e/\dO w' h j p q d (V.add o).2 ((Rs.take e).map C++Rs.drop e) l pts/\ak h h6 w',⟨_,0,rfl,Qj _,rfl,by simpa using c8,ak.refl _⟩,?_⟩;rintro d5 _ _ E ⟨e,rfl,Y,rfl,t,H⟩;have u4:=H.size;have d6:=H.get gs λg=>by have:=a8 _ g;omega
 have g3:=n4.af H λn P g=>by have:=a8 _ g;have:=(n8 n P).1;omega
 have i0:=H.get h9 l7;have q1:=t.bj;refine al.dec (λu5=>?_) (λu6=>?_)
 ·have i1:e<d.projs.length:=oM
  have hx:d.projs[e]? =some d.projs[e]:=Qq i1;have i2:d.projs[e]∈d.projs:=XY i1;generalize d.projs[e]=x at hx i2;obtain⟨n,h1,es,b1,i9,j1,b2,rfl,d7⟩:=(show bf E (λn=>h n/\j n=1) d q.ta q.tn q.pa q.pn from t.at' 1).EV.el e x hx;have n9:=RI hd i2;refine⟨n,h1,b1,oM,oM,bA (es:=nR x) (k:=5) (pJ x) rfl (λb0 ht=>by rw[Qx];exact b2 b0 ht) (PA.mk λu7 i3 u9 o0=>az (pJ x) o0 rfl λi4 i5 v0 i6=>⟨λj2 w'=>j2=su i x/\aJ (su i x)/\i4=w',?_,?_⟩)⟩
  ·have b3:ai E i4:=i3.new i5 λn P=>.inr (by have P:n=E.heap.size:=P;omega)
   have d8:=g3.ah b3;have v1:=d8.len;have a4:su i x=(((i.getD He).cells[x.ET.toNat]?).map (·.n)).getD 0:=by
    cases i<;>rfl
   refine⟨_,ae i6 rfl,_,_,_,ae (b3.get d6 id) rfl,al.dec (λi7=>?_) (λi7=>⟨?_,?_,rfl⟩)⟩
   ·obtain⟨bi,f4⟩:∃bi:Nat,x.ET=bi:=⟨x.ET.toNat,oM⟩
    obtain⟨cb,co,v2,v3,v4,o1,v5,v6,o2,-,-,i8,-⟩:=mS d8 (i:=bi) oM;refine⟨_,_,_,ae (b3.get d6 id) rfl,_,ae i6 rfl,cb,co,o1,n9,i7,_,by rw[f4,Qx];exact o2,?_,?_,rfl⟩
    ·rw[a4,f4,Qx,QQ,Qq (show bi<(i.getD He).cells.length by omega)];rfl
    ·rw[a4,f4,Qx,Qq (show bi<(i.getD He).cells.length by omega)]
     rw[QQ,Qq (show bi<(i.getD He).cells.length by omega)]at i8;exact i8
   ·rw[a4,Q7 oM];rfl
   ·rw[a4,Q7 oM];exact Hi
  ·rintro _ _ _ ⟨rfl,j4,rfl⟩ o3 o4
   have b4:ai E o3:=(i3.new i5 λn P=>.inr (by have P:n=E.heap.size:=P;omega)).then o4.af;have c9:=dO.ah t b4;have o5:((Rs.take e).map C++Rs.drop e)[e]? =Rs[e]? :=by
    rw[X8 be];simp[Qy,X2 (show e<=Rs.length by omega)]
   have d0:Rs[e]? =some Rs[e]:=Qq oM;have d9:Rs[e].p=x:=by
    have:=Zj (·[e]?) g5;simp only[Q9,d0,hx,Option.map_some,Q1]at this;exact this
   generalize Rs[e]=b5 at d0 d9;obtain⟨rg,pj,rj,o6,o7,hR,j5,v7,j0,-,b6⟩:=cj.elem (c9.at' 4) (o5.trans d0);have o8:=cj.len (c9.at' 4);rw[QX,Q8,Qy,XZ]at o8;have j6:=c9.bj;refine⟨p,0,rfl,_,_,_,ae j6 rfl,rg,0,o6,oM,oM,_,by rw[Qx];exact o7,ar (lH _ xa xn xc) (b4.get i0 id) (PC.ok (OT hR j5 (x:=(V.add o).1) he j4) ?_)⟩;rintro _ o9 ⟨rfl,p0,f8⟩;have eh:((Rs.take e).map C++Rs.drop e).set e (b5.add (V.add o).1 (su i x))=(Rs.take (e+1)).map C++Rs.drop (e+1):=by
    have j7:((Rs.take e).map C).length=e:=by simp;omega
    rw[Qw,d0,Q3,XQ,List.set_append,Zq oM,j7,Nat.sub_self,X4 (show e<Rs.length by omega)];have p1:C b5=b5.add (V.add o).1 (su i x):=by rw[g,hS,<-d9]
    rw[<-p1];rfl
   have j3:=b6 o9 _ f8 p0;rw[eh]at j3;refine⟨rfl,_,oM,e+1,aq oM,oM,rfl,?_,H.then ((ai.af b4).then (f8.mono λn _ o=>?_))⟩
   ·refine aP.same c9 dw (k:=4) (f8.mono λn _ o=>by have o:n=rj:=o;rw[o];exact j0) j3 λe G Y hc=>by
     rcases e with _|_|_|_|_|_|e<;>first|exact hc|exact Zz rfl Y
   ·have o:n=rj:=o;rw[o];exact j0.1
 have j8:(Rs.take e).map C++Rs.drop e=pI V o Rs:=by
  rw[Qz oM,List.drop_eq_nil_of_le oM,List.append_nil,g];rfl
 rw[j8]at t;intro b7 e0;have a2:ai E b7:=e0.af;have q2:b7.heap.size=E.heap.size:=by rw[e0.heap]
 have k0:=dO.ah t a2;have k1:=k0.bj;have p2:¬h w.heap.size:=λg=>by
  rcases k _ g with f|f
  ·have:=T _ f;omega
  ·omega
 have k2:=a2.get (H.get (Q.get h2 id) p2) id;have nD:∀n,D n->¬h n:=λn P g=>by
  rcases k _ g with f|f
  ·exact(R n P).2 f
  ·have:=(R n P).1;omega
 have k3:=((h3.ah Q).af H nD).ah a2;have v8:=aM.len (t.at' 2) dC;have v9:ak F w b7:=((a9.ah Q).new H λn P=>(k n P).imp id oM).ah a2;refine⟨λ_=>False,p,0,rfl,id,_,_,_,ae k1 rfl,ar (aW o I a c) k2 (PC.ok (CC k3 λn P=>by have:=(R n P).1;omega) ?_)⟩;rintro _ q3 ⟨y,z,A,G,rfl,p3,L,c0⟩;refine⟨_,_,_,_,_,_,_,_,_,_,_,_,rfl,c0,PA.mk λq4 c1 q5 k4=>⟨c1,?_⟩⟩;have f0:=(a2.then c0).then c1;have l1:=dO.ah t f0;have q6:=c0.size;have l2:=t.aC;have f1:∀n,aD q.ea=some n->h n/\j n=2:=λn P=>aM.self (t.at' 2) n P;refine eH (c:=jB) (x:=o) (l1.at' 2) JM k4 (D:=G) ⟨y,z,A,rfl,p3.ah c1,he⟩ (λn P=>⟨by have:=(L n P).2;omega,λee=>by have:=l2 n (f1 n ee).1;have:=(L n P).1;omega⟩) ba (by unfold maxLen;omega) λa' M q7 F2 f3 f5 p4=>⟨_,_,_,rfl,p,0,rfl,?_⟩
 have r1:=f5.size;obtain⟨s,a3,j9,f6,n1,-⟩:=t.dU dw (k:=2) (G':=F2) (C2:=Aa p q.cells {q with ea:=a',en:=q.en+1,ec:=M} d (V.add o).2 (pI V o Rs) (l++[o]) pts) ((ai.af f0).then (f5.mono λn _ P=>f1 n P))
  (λn P=>(p4 n P).imp id λu=>u.elim (λu=>by have:=(L n u).1;omega) λu=>oM) f3.aC f3 λe G Y hc=>by
   rcases e with _|_|_|_|_|_|e<;>first|exact hc|exact Zz rfl Y
 refine PS.mk (j9.at' 0).2 sM λd1 f7 r2 n5=>?_;have n6:dO d1 s a3 p {q with ea:=a',en:=q.en+1,ec:=M} d (V.add o).2 (pI V o Rs) (l++[o]) pts:=dO.store j9 f7 n5;have f9:∀n,s n->F n\/w.heap.size<=n:=λn P=>by
  rcases f6.new n P with f|f
  ·exact(k n f).imp id oM
  ·exact .inr oM
 have n7:ak h E d1:=f6.af.then (f7.mono λn _ ee=>by have ee:n=p:=ee;rw[ee];exact Z.self.1);have p5:ak F w E:=(a9.ah Q).new H λn P=>(k n P).imp id oM;have d2:ak F w d1:=p5.new n7 λn P=>(k n P).imp id oM;refine PC.ok (DG n6 hd (hT.ah (g0.new d2 λn P=>.inr (g4 n P))) be (by unfold pI;rw[Q8];omega) k6 k7) ?_;rintro _ s0 ⟨rfl,q',F4,p6,p7,d3,g1⟩;refine⟨rfl,Ok.mk ⟨rfl,q',F4,p6,?_,d3,d2.new g1.af f9,λn P=>?_⟩⟩
 ·simpa using p7
 ·rcases g1.new n P with f|f
  ·exact f9 n f
  ·have:=d2.size;exact .inr oM
end
def sr:jW:=⟨[],[],[],[],[(1,⟨[0,0,2,4,8,0,0,64,128,256,544,1040,4095,8191,12287],[32767,32767,32765,32763,32759,32767,32767,32703,32639,32511,32223,31727,32766,28671,22527],[0,0,0,0,1,0,0,0,0,1,0,0,0,0,2]⟩)]⟩
def rH(y:(dr d λz B=>(rI b (ad z (B+2)) λC=>PR_ (eq_ .quo 3 (.tmp 5) (.tmp 9) (.ii e) (.ii C)) b (kI_ λn D=>(∀P,br D P->(dr d λE F=>(rS P (ad E (F+3)) λG a3 f=>(dr d λH I=>(rI P (ad H (I+2)) λc=>((0:Int)<=(ZG .i64 (n*c))/\((ZG .i64 (n*c)):Int)<=(f:Int)/\(dr d λJ K=>PS P (ad J (K+3)) (.slice G (Int.toNat (ZG .i64 (n*c))) f) λg=>(dr d λL M=>(rS g (ad L (M+6)) λN h i=>((0:Int)<=(ZG .i64 (n+1))/\((ZG .i64 (n+1)):Int)<=(h:Int)/\PR_ (Builtin.clear_ #[200] 0 #[.slice (cK N (Int.toNat (ZG .i64 (n+1))) i 2) (h-Int.toNat (ZG .i64 (n+1))) (i-Int.toNat (ZG .i64 (n+1)))]) g (λa4 j=>(dr d λO Q=>(rS j (ad O (Q+6)) λR a5 k=>((0:Int)<=(ZG .i64 (n+1))/\((ZG .i64 (n+1)):Int)<=(k:Int)/\(dr d λS T=>PS j (ad S (T+6)) (.slice R (Int.toNat (ZG .i64 (n+1))) k) λa=>(dr d λU V=>(rS a (ad U (V+6)) λW X a6=>(ix_ W n X λl m=>(∃o p q r,a.cell? (ad l (m+Int.toNat n*2))=some (.pointer o)/\a.cell? (ad l (m+Int.toNat n*2+1))=some (.slice p q r)/\PC_ 159 #[.pointer d,.agg #[.pointer o,.slice p q r]] a (λY Z=>∃s t u v,Y= .agg #[.pointer s,.slice t u v]/\(dr d λw x=>PS Z (ad w (x+4)) (.pointer s) λa1=>PS a1 (ad w (x+4+1)) (.slice t u v) λa2=>rt A ((.tuple #[])) a2)) (pE A)))))))))) (pV A)))))))))))) (pV A)))):YX 116 #[.pointer d,.ii e] b A:=DC sr Tryz.func116 rfl y
def qW(P:dx):∀n,(mM P n).Perm (P::n)
 |[]=>List.Perm.refl _
 |y::n=>by
  unfold mM;split
  ·exact List.Perm.refl _
  ·exact((qW P n).cons y).trans (List.Perm.swap P y n)
def xx(n:List dx):(n.foldr mM []).Perm n:=by
 induction n with
 |nil=>exact List.Perm.refl _
 |cons P n a=>exact(qW P _).trans (a.cons P)
def yp{b:dx}:∀{P:List dx},ue P->(∀y∈P,y.group≠b.group)->ue (mM b P)
 |[],_,_=>by simp[mM,ue]
 |y::P,d,e=>by
  unfold mM;have c:=List.pairwise_cons.1 d;have g:=e y (QV ..);split
  ·rename_i f
   refine List.pairwise_cons.2 ⟨λa n=>?_,d⟩;rcases Q2.1 n with rfl|n
   ·exact f
   ·have:=c.1 a n;omega
  ·rename_i h
   refine List.pairwise_cons.2 ⟨λa n=>?_,yp c.2 λa n=>e a (QJ _ n)⟩;rcases Q2.1 ((qW b P).mem_iff.1 n)with rfl|n
   ·omega
   ·exact c.1 a n
def EB:∀{n:List dx},(n.map (·.group)).Nodup->ue (n.foldr mM [])
 |[],_=>List.Pairwise.nil
 |x::n,P=>by
  rw[QY,List.nodup_cons]at P;refine yp (EB P.2) λa b c=>P.1 ?_;rw[<-c];exact Xk.2 ⟨a,(xx n).mem_iff.1 b,rfl⟩
def yq:∀{a P:List dx},(a.Pairwise λx b=>¬b.group<x.group)->ue P->a.Perm P->a=P
 |[],P,_,_,n=>by have:=n.length_eq;cases P;rfl;simp at this
 |x::a,[],_,_,n=>by have:=n.length_eq;simp at this
 |x::a,b::P,f,g,n=>by
  have d:=List.pairwise_cons.1 f;have e:=List.pairwise_cons.1 g;have i:x=b:=by
   rcases Q2.1 (n.mem_iff.1 (QV ..))with h|h
   ·exact h
   rcases Q2.1 (n.mem_iff.2 (QV ..))with c|c
   ·exact c.symm
   have:=e.1 x h;exact Zz this (d.1 b c)
  subst i;rw[yq d.2 e.2 n.cons_inv]
section
variable {w w':World} {p r:Nat} {R:dm}
def lf.Ux(a:lf w p r R):((R.rows.map (·.2)).map (·.group)).Nodup:=by
 have P:=a.map.tidy;unfold Tidy at P;rw[List.map_map]at P⊢;have:R.rows.map ((·.group)∘(·.2))=R.rows.map ((·.1)∘λn=>(n.1,sS n.2)):=List.map_congr_left λn b=>(a.ok n b).2;rw[this];exact P
def lf.UZ(n:lf w p r R):ue R.list:=EB n.Ux
def MX(f:lf w p r R)(P:R.rows.length<=20000000):YX 404 #[ZL p] w (Ok (oW Hf 135 w R.list)):=by
 refine wX ⟨p,0,rfl,_,ae f.at' rfl,mapRange QO f.map λw6 N O s6=>?_⟩;refine⟨λz i j k w'=>∃(left:List (Int×dx)) (a:List dx) (h:ZN),z=left.length/\cD w' w.heap.size r (Value.int .i64) (R.rows.map λb=>(b.1,sS b.2)) (left.map λb=>(b.1,sS b.2))/\(∀b∈left,dx.Ok b.2)/\
  (a++left.map (·.2)).Perm (R.rows.map (·.2))/\aM Hf 135 h w' i j k a/\(∀n,h n->w.heap.size<n)/\ai w w',⟨_,R.rows,[],λ_=>False,rfl,N,λb l=>(f.ok b l).1,List.Perm.refl _,aM.nil _,λn P=>P.elim,O⟩,?_⟩
 rintro z i j k _ A ⟨left,a,h,rfl,B,C,m,d,e,o⟩;have q:a.length+left.length=R.rows.length:=by have:=m.length_eq;simpa using this
 have b3:=d.len dC;refine nz B (λQ=>.inl ⟨rfl,?_⟩) (λa3 a4 l1 l2 s S T U V b4=>.inr ⟨_,_,rfl,qC U ?_⟩)
 ·have W:left=[]:=by simpa using Q
  subst W;refine PC.ok (Ob d (by simp at q;omega)) ?_;rintro _ b5 ⟨rfl,X,t,u,v,Y⟩;have Z:X=R.list:=yq u f.UZ ((t.trans (by simpa using m)).trans (xx _).symm);subst Z;exact⟨rfl,Ok.mk ⟨i,j,k,h,rfl,v,o.new Y λn P=>.inr (by have:=e n (d.self n P);omega),λn P=>by have:=e n P;omega⟩⟩
 ·obtain⟨E,a5,rfl,rfl,l⟩:=List.map_eq_append_iff.1 S
  obtain⟨b,F,rfl,H,rfl⟩:=List.map_eq_cons_iff.1 l;simp only[Prod.mk.injEq]at H;obtain⟨rfl,rfl⟩:=H;have a0:=C b sM;have b6:=o.size;have b2:w.heap.size<A.heap.size:=B.lt;refine⟨_,_,_,_,rfl,PA.mk λb7 I b8 a9=>az (NM b.2) a9 rfl λb9 J c1 x=>⟨_,_,_,ae x rfl,ae x rfl,ae x rfl,PA.mk λvV L c2 b0=>?_⟩⟩;have y:ak (λn=>n=w.heap.size) A vV:=((V.ah I).new J λn P=>.inr (by have P:n=s.heap.size:=P;omega)).ah L;refine eH (c:=Hf) (x:=b.2) (d.af y λn P c=>by have c:n=w.heap.size:=c;have:=e n P;omega) VL b0 (D:=λ_=>False) ⟨rfl,a0⟩ (λn P=>P.elim) (by simp at q;unfold aK;omega) (by simp at q;unfold maxLen;omega) λa' c' c3 F2 a1 M b1=>⟨_,_,_,rfl,_,?_,E++F,a++[b.2],F2,rfl,?_,λa2 K=>C a2 (by simp at K⊢;rcases K with K|K;exact .inl K;exact .inr (.inr K)),?_,a1,λn P=>?_,?_⟩
  ·simp
  ·have g:cD vV w.heap.size r (Value.int .i64) (R.rows.map λb=>(b.1,sS b.2)) ((E++F).map λb=>(b.1,sS b.2)):=by
    rw[Q3];exact((T.ah I).af J (λc=>by have c:w.heap.size=s.heap.size:=c;omega) (λc=>by have c:r=s.heap.size:=c;have:=f.map.lt;omega)).ah L
   refine g.af M (λc=>by have:=e _ (d.self _ c);omega) (λc=>by have:=e _ (d.self _ c);have:=f.map.lt;omega)
  ·refine List.Perm.trans ?_ m
   simp only[Q3,QY,XQ];refine List.Perm.append_left a ?_;rw[List.singleton_append];exact List.perm_middle.symm
  ·rcases b1 n P with g|g|g
   ·exact e n g
   ·exact g.elim
   ·have:=y.size;omega
  ·exact(o.new y λn P=>.inr (by have P:n=w.heap.size:=P;omega)).new M λn P=>.inr (by have:=e n (d.self n P);omega)
end
end Go.Proofs.YtjgjkeponbeekaaGreatDoor
namespace Go.au
open Go
variable{a c i:Nat}{f:ZN}{T X:Operand}{d:YQ}{h:Program}{j:Type}{B g q:TypeId}{m s:ZR}{b:World}
def Ad{bytes:Nat}{n:jF j}(v:jS h g q n.k bytes)(C:MT h q=true){w:List j}(k:aM n q f b d a c w)(S:i<=a)(l:∀e,aM n q f e d i c (w.take i)->ak (λP=>aD d=some P) b e->e.heap.size=b.heap.size->m (.tuple #[]) e):
  aG h (Builtin.clear_ #[g] B #[.slice (cK d i c n.k) (a-i) (c-i)]) b m s:=by
 rcases Nat.lt_or_ge i a with T|U
 rotate_left
 ·obtain rfl:i=a:=oM
  rw[Nat.sub_self];exact aG.mk (w':=b) (v:=.tuple #[]) (by cases cK d i c n.k<;>simp[Builtin.clear_,run_underlying v.under]) (l b (k.take (Q4 _)) (ak.refl _) rfl)
 obtain⟨cs,D,p,E,x⟩:=k.body;have F:=p.length;rcases p.cases with⟨_,V,_,_⟩|⟨y,H,rfl,I,J,z,K⟩
 ·omega
 have r:c<=maxLen:=by
  obtain⟨_,W,_,A,_,_,_,r,_⟩:=p.row.2.resolve_left (by rintro⟨k,_⟩;cases k);simp only[XX]at A;rw[A.2.2];exact r
 have L:i*n.k<=a*n.k:=Q0 _ oM;have X:a*n.k<=c*n.k:=Q0 _ J;rw[fL (show c≠i by omega),Xz];refine Qo v C I (by rw[z,Nat.sub_mul];omega) λe o M N O Q R=>?_;have t:ak (λP=>aD (some (⟨y,0,none⟩:Addr))=some P) b e:=Q.mono λP _ q=>by rw[q];rfl
 refine l e ⟨⟨cs.take (i*n.k),D,⟨⟨by rw[Qy,F];omega,.inr ⟨y,c,o,rfl,Qj _,M,oM,r,by rw[N,z],?_⟩⟩⟩,(E.af t λP u=>(x P u).2).take i,x⟩,k.self,λP u=>Qk (k.aC P u) t.size⟩ t R;rw[O,<-K,List.take_take,X2 L]
def RL(i:0<c)(j:a<9223372036854775808):(do eqGuard .quo g T X (ZH (a:Int)) (ZH (c:Int));binOp .quo g (ZH (a:Int)) (ZH (c:Int)):Sem Value).run h b= .ok (ZH ((a/c:Nat):Int)) b:=by
 have d:c≠0:=oM
 have n:(a:Int).tdiv (c:Int)=((a/c:Nat):Int):=by rw[Int.tdiv_eq_ediv_of_nonneg oM];rfl
 have e:=Nat.div_le_self a c;generalize a/c=P at n e;have f:ZG .i64 (P:Int)=(P:Int):=wrap_i64 bc;simp[eqGuard,binOp,Op.intDiv,d,n,f]
end Go.au
namespace Go.Proofs.YtjgjkeponbeekaaGreatDoor
open Go.au
def cU(d:World)(e:Nat)(f:ZN)(P:aN)(n:Nat)(a:List aj):Prop:=
 (cT P=0/\0<n/\n<9223372036854775808/\a.length<=20000000)/\∃c b,c.every=n/\dO d f b e c P (cy P a) (dR P a).rows a (jY P n a)
variable{J:List aj}{a c:Nat}{b:World}{o:aj}
def RJ{d:aN}(n:0<a)(P:a<9223372036854775808)(b:J.length<=20000000):(jY d a J).length*a<9223372036854775808/\(jY d a J).length<=20000001:=by
 rw[Ac];have c:=Nat.div_le_self J.length a;refine⟨?_,oM⟩;rcases Nat.lt_or_ge J.length a with h|h
 ·rw[Nat.div_eq_of_lt h];omega
 ·have:=Nat.div_mul_le_self J.length a
  rw[X7,Nat.one_mul];omega
section
variable {w w':World} {p:Nat} {F T D:ZN} {d:aN} {every:Nat} {l:List aj}
def cU.af(a:cU w p F d every l)(b:ak T w w')(c:∀P,F P->¬T P):cU w' p F d every l:=by
 obtain⟨e,f,n,g,h⟩:=a;exact⟨e,f,n,g,aP.af h dw b c⟩
def cU.ah(n:cU w p F d every l)(P:ai w w'):cU w' p F d every l:=n.af P λ_ _ n=>n
def cU.aC(P:cU w p F d every l):∀n,F n->n<w.heap.size:=by obtain⟨c,e,a,f,b⟩:=P;exact b.aC
def vY(d:aN)(l:List aj)(b:l.length<=20000000):(cy d l).entries.length<=20000000/\∀n,((aF (cy d l).done n).getD []).length<=20000000:=by
 have P:=λn=>EW d l (aV.new d) n;refine⟨?_,λn=>?_⟩
 ·have a:(cy d l).entries.length=0+l.length:=(P (0,0,0)).2
  omega
 ·have a:((aF (cy d l).done n).getD []).length<=0+l.length:=(P n).1
  omega
def Hj(d:aN)(l:List aj)(n:aj):pI (cy d l) n (dR d l).rows=(dR d (l++[n])).rows:=by
 rw[JN];unfold pI jR.add;rw[JO]
def OU(s:cU w p F d every l)(t:eP b)(u:ai b w)(v:∀n,F n->b.heap.size<=n)(i:l.length+1<=20000000){j:YQ}(x:Row aI 8 w D j a o.aQ)(y:∀n,D n->n<w.heap.size/\¬F n)(z:o.Ok):
  YX 117 #[ZL p,jQ o j a c] w (Ok λk w'=>k= .tuple #[]/\∃e,cU w' p e d every (l++[o])/\bB F w e w'):=by
 obtain⟨⟨m,f,q,r⟩,L,A,rfl,B⟩:=s;obtain⟨C,E⟩:=vY d l r;obtain⟨H,I⟩:=RJ (d:=d) f q r;refine(OR B m t u v i C (Hk d l) H I (E _) x y z).mono ?_;rintro _ w' ⟨k,rfl,rfl,J,e,P,g,h,K⟩;refine Ok.mk ⟨rfl,e,⟨⟨m,f,q,by simpa using i⟩,J,P,h,?_⟩,K⟩;rw[JP,MS f,<-Hj,<-Ac (d:=d)];exact g
def XB:MT ZP 199=true:=kR
def MU(a0:cU w p F d every l)(hT:eP b)(g0:ai b w)(c5:∀P,F P->b.heap.size<=P)(hn:a<=l.length):
  YX 116 #[ZL p,ZH (a:Int)] w (Ok λa1 w'=>a1= .tuple #[]/\∃H,cU w' p H d every (l.take (a/every*every))/\bB F w H w'):=by
 obtain⟨⟨q,u,h3,h4⟩,n,h,rfl,g⟩:=a0;have c6:=g.bj;have e1:=g.aC;have c7:=aM.len (g.at' 5) dC;have I:=aM.len (g.at' 2) dC;rw[Ac]at c7;obtain⟨k,v⟩:∃k,k=a/n.every:=⟨_,rfl⟩
 have s:k<=l.length/n.every:=by rw[v];exact Nat.div_le_div_right hn
 have J:k*n.every<=l.length:=Xx (Q0 _ s) (Nat.div_mul_le_self ..);have e2:k<=l.length:=Xx s (Nat.div_le_self ..);rw[<-v];have x:ZG .i64 ((k:Int)*(n.every:Int))=((k*n.every:Nat):Int):=by
  rw[show((k:Int)*(n.every:Int))=((k*n.every:Nat):Int) by push_cast;rfl,wrap_i64 bc]
 have c8:ZG .i64 ((k:Int)+1)=((k+1:Nat):Int):=aq oM;have ec:=aM.jD (g.at' 2);have qc:=aM.jD (g.at' 5);refine rH ⟨p,0,rfl,_,ae c6 rfl,aG.mk (RL u oM) ⟨_,rfl,λK c9=>?_⟩⟩;rw[<-v,c8];simp only[Qx];have L:ai w K:=c9.af;have y:=dO.ah g L;have z:=y.bj;have a2:aP K F h (Aa p n.cells {n with en:=k*n.every} d (cy d l) (dR d l).rows (l.take (k*n.every)) (jY d n.every l)):=y.same dw (k:=2) (ak.refl _) (aM.take (y.at' 2) (show k*n.every<=n.en from I▸J)) λi G j m=>by
  rcases i with _|_|_|_|_|_|i<;>first|exact m|exact Zz rfl j
 refine⟨p,0,rfl,_,_,_,ae z rfl,p,0,rfl,_,ae z rfl,by rw[x];exact Int.natCast_nonneg _,by rw[x];exact Int.ofNat_le.2 (Xx J (I▸ec)),p,0,rfl,?_⟩;rw[x,Qx];refine PS.mk z sM λd0 M e3 N=>?_;have O:dO d0 F h p {n with en:=k*n.every} d (cy d l) (dR d l).rows (l.take (k*n.every)) (jY d n.every l):=dO.store a2 M N;refine⟨p,0,rfl,_,_,_,ae N rfl,oM,by show _<=((n.qn:Nat):Int);omega,?_⟩;have e:∀P,aD n.qa=some P->F P/\h P=5:=λP c=>aM.self (g.at' 5) P c;have a3:¬aD n.qa=some p:=λf=>by have q:=(e p f).2;rw[g.self.2]at q;cases q
 refine Ad UY XB (O.at' 5) (by show k+1<=n.qn;omega) λd1 a5 Q e4=>?_;have R:aP d1 F h (Aa p ({n with en:=k*n.every}:vX).cells {n with en:=k*n.every,qn:=k+1} d (cy d l) (dR d l).rows (l.take (k*n.every)) ((jY d n.every l).take (k+1))):=O.same dw (k:=5) (Q.mono λP _ c=>e P c) a5 λi G j m=>by
  rcases i with _|_|_|_|_|_|i<;>first|exact m|exact Zz rfl j
 have S:=(R.at' 0).2;refine⟨p,0,rfl,_,_,_,ae S rfl,oM,by show _<=((n.qc:Nat):Int);omega,p,0,rfl,PS.mk S sM λvV T e5 U=>?_⟩;have r:dO vV F h p {n with en:=k*n.every,qn:=k+1} d (cy d l) (dR d l).rows (l.take (k*n.every)) ((jY d n.every l).take (k+1)):=dO.store R T U;have A:ak F w vV:=(((ai.af L).then (M.mono λP _ f=>by have f:P=p:=f;rw[f];exact g.self.1)).then (Q.mono λP _ c=>(e P c).1)).then (T.mono λP _ f=>by have f:P=p:=f;rw[f];exact g.self.1);have d2:((jY d n.every l).take (k+1))[k]? =some (dR d (l.take (k*n.every))).rows:=by
  rw[Xw,Zx oM];exact OV s
 obtain⟨pb,po,es,d3,e6,e7,V,e8,ra,rn,rc,rfl,d4⟩:=(aM.row (bytes:=32) (r.at' 5) dC (by rw[Qy];unfold aK;omega)).el k _ d2;have c0:=V 0 dC;have c1:=V 1 dC;refine⟨p,0,rfl,_,_,_,ae U rfl,pb,po,d3,oM,by show(k:Int)<((k+1:Nat):Int);omega,_,_,_,_,c0,c1,PC.ok (DF r q (hT.ah (g0.new A λP c=>.inr (c5 P c))) (by rw[Qy];omega) d4 (λP c=>r.aC P c.1) (by rw[pK];exact(Ab (mR q).1).2.2.1)) ?_⟩;rintro _ W ⟨B,X,Y,Z,Fv,G,rfl,hv,b3,b4,t,b5⟩;have e9:=A.size;obtain⟨F1,e0,d5,f2,b6,-⟩:=r.DI dw (k:=3) (w':=W) (G':=Fv) (C2:=Aa p ({n with en:=k*n.every,qn:=k+1}:vX).cells {n with en:=k*n.every,qn:=k+1,vp:=B} d (cy d (l.take (k*n.every))) (dR d l).rows (l.take (k*n.every)) ((jY d n.every l).take (k+1)))
  (ai.af b5) (λP c C=>by have:=b4 P c;have:=r.aC P C;omega) hv.aC hv λi G j m=>by
   rcases i with _|_|_|_|_|_|i<;>first|exact m|exact Zz rfl j
 obtain⟨F2,b7,b8,f3,d6,-⟩:=d5.DI dw (k:=4) (w':=W) (G':=G) (C2:=Aa p ({n with en:=k*n.every,qn:=k+1}:vX).cells {n with en:=k*n.every,qn:=k+1,vp:=B,ra:=X,rn:=Y,rc:=Z} d (cy d (l.take (k*n.every))) (dR d (l.take (k*n.every))).rows (l.take (k*n.every)) ((jY d n.every l).take (k+1)))
  (ak.refl _) (λP c C=>by
   rcases b6 P C with o|o
   ·have:=(t P c).1;have:=r.aC P o.1;omega
   ·exact Zz o (t P c).2.2) (λP c=>(t P c).2.1) b3 λi G j m=>by
   rcases i with _|_|_|_|_|_|i<;>first|exact m|exact Zz rfl j
 have b9:∀P,F2 P->F P\/w.heap.size<=P:=λP c=>by
  rcases d6 P c with o|o
  ·rcases b6 P o.1 with E|E
   ·exact .inl E.1
   ·exact .inr (by have:=b4 P E;omega)
  ·exact .inr (by have:=(t P o).1;omega)
 have d7:=(b8.at' 0).2;refine⟨_,_,_,_,rfl,p,0,rfl,PS.mk d7 sM λf4 c3 f5 d8=>PS.mk d8 sM λf8 c4 g1 d9=>Ok.mk ⟨rfl,F2,⟨⟨q,u,h3,by rw[Qy];omega⟩,{n with en:=k*n.every,qn:=k+1,vp:=B,ra:=X,rn:=Y,rc:=Z},b7,rfl,?_⟩,?_,b9⟩⟩
 ·rw[<-MV u s]
  exact dO.store b8 (c3.then c4) d9
 ·exact(A.ah b5).then ((c3.then c4).mono λP _ f=>by have f:P=p:=f;rw[f];exact g.self.1)

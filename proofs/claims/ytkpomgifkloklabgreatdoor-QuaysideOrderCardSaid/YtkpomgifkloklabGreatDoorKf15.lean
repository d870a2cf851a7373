import Derived.Test.YtkpomgifkloklabGreatDoorKf14
set_option maxHeartbeats 4000000
set_option linter.all false
set_option maxRecDepth 100000
open Go.IntKind renaming wrap→PP
namespace Go.Proofs.YtkpomgifkloklabGreatDoor
open Go.aw
def Ng:fp cN Int where
 k:=13
 ci:=aO
 ib:=8
 inner:=(·.ev.aM)
 hd:=λn P a b=>aF n.ev P a b++[.bool n.void,WP n.FO.1,WP n.FO.2]
 ok:=λn=>n.ev.Ok
 hl:=λ_ _ _ _=>rfl
 h1:=λn P a b d c=>by
  simp only[aF,List.cons_append,List.nil_append,Q2,List.not_mem_nil,or_false]at c;rcases c with rfl|rfl|rfl|rfl|rfl|rfl|rfl|rfl|rfl|rfl|rfl|rfl|rfl<;>rfl
 o:=3
 ho:=dC
 fQ:=λ_ _ _ _ _ _ _=>rfl
abbrev tJ:kq cN:=Ng.OC
abbrev jT(n:cN)(P:bc)(a b:Nat):List Value:=aF n.ev P a b++[.bool n.void,WP n.FO.1,WP n.FO.2]
def NY:jU LL 41 60 13 120:=⟨kR,kR,dC⟩
def ml(n:cN)(P:bc)(a b:Nat):iA LL 60 (jT n P a b)=true:=kR
def QO(n:cN)(P:bc)(a b:Nat):TF (dL LL 60) (.agg (jT n P a b).toArray)=true:=kR
def Tt:KF LL 274 3:=⟨kR,kR,⟨ "typ", "no",kR,dC,dC⟩,kR,kR,kR⟩
def Vm:wV LL 325 274 3:=⟨Tt,kR,⟨ "agg", "field",kR,dC,dC⟩,kR,kR,kR⟩
def WZ:ji LL 274 pP:=Tt.key
def ZU:ji LL 325 CX:=Vm.key
def Z_:mK LL 266 274 40 (.agg #[WP 0,.slice none 0 0]):=⟨kR,kR⟩
def tDn:mK LL 267 325 51 (.slice none 0 0):=⟨kR,kR⟩
inductive KD where
 |self|st|dn|Qu|Tu|Yw
 |done (k:Int×Int×Int)
structure FL where
 ta:bc
 tn:Nat
 tc:Nat
 pa:bc
 pn:Nat
 pc:Nat
 ea:bc
 en:Nat
 ec:Nat
 r1:Nat
 r2:Nat
 l1:List ((Int×Int)×Value)
 l2:List ((Int×Int×Int)×Value)
 cls:Nat->KD
abbrev FL.P(P:FL)(a:UL)(b:KD):UL:=λn=>a n/\P.cls n=b
def YI(b:World)(D:UL)(c:Value)(n:pA):Prop:=∃P a d,c= .agg #[WP n.version,.slice P a d]/\Row gA 32 b D P a n.cells
def YJ(b:World)(D:UL)(c:Value)(d:List ah):Prop:=∃n P a,c= .slice n P a/\aT jh 57 D b n P a d
structure ze (w:World) (p:Nat) (F:UL) (V:aY) (q:FL):Prop where
 at':w.heap[p]? =some (.cells #[.slice q.ta q.tn q.tc,.slice q.pa q.pn q.pc,.slice q.ea q.en q.ec,.map (some q.r1),.map (some q.r2)] 269 (0,0))
 Tu:bt w (q.P F .Tu) V.decl q.ta q.tn q.pa q.pn
 Qu:aT tJ 60 (q.P F .Qu) w q.ea q.en q.ec V.entries
 st:bW w q.r1 pP q.l1
 Yx:fL (YI w (q.P F .Yw)) q.l1 V.eS
 dn:bW w q.r2 CX q.l2
 YK:px (λk=>YJ w (q.P F (.done k))) q.l2 V.done
 aE:∀b,F b->b<w.heap.size
 lp:F p/\q.cls p= .self
 l1:F q.r1/\q.cls q.r1= .st
 l2:F q.r2/\q.cls q.r2= .dn
def cH(P:World)(a:Nat)(b:UL)(n:aY):Prop:=n.OK/\∃c,ze P a b n c
variable{I:List ah}{d v:bc}{S:aR}
section
variable {w w':World} {p:Nat} {F T D:UL} {V:aY} {q:FL}
def YI.keep{n:Value}{P:pA}(b:YI w D n P)(c:aj T w w')(d:∀a,D a->¬T a):YI w' D n P:=by
 obtain⟨e,f,g,h,i⟩:=b;exact⟨e,f,g,h,i.keep c d⟩
def YJ.keep{n:Value}(a:YJ w D n I)(b:aj T w w')(c:∀P,D P->¬T P):YJ w' D n I:=by
 obtain⟨d,e,f,g,h⟩:=a;exact⟨d,e,f,g,h.keep b c⟩
def ze.keep(n:ze w p F V q)(b:aj T w w')(c:∀P,F P->¬T P):ze w' p F V q:=
 ⟨b.get n.at' (c _ n.lp.1),n.Tu.keep b λP a=>c P a.1,n.Qu.keep b λP a=>c P a.1,n.st.keep b (c _ n.l1.1),n.Yx.mono λe f d=>d.keep b λP a=>c P a.1,
  n.dn.keep b (c _ n.l2.1),n.YK.mono λg e f d=>d.keep b λP a=>c P a.1,λP a=>Qk (n.aE P a) b.size,n.lp,n.l1,n.l2⟩
def ze.af(n:ze w p F V q)(P:ai w w'):ze w' p F V q:=n.keep P λ_ _ n=>n
def cH.keep(n:cH w p F V)(a:aj T w w')(b:∀P,F P->¬T P):cH w' p F V:=⟨n.1,n.2.imp λq c=>c.keep a b⟩
def cH.af(n:cH w p F V)(P:ai w w'):cH w' p F V:=n.keep P λ_ _ n=>n
def cH.aE(P:cH w p F V):∀n,F n->n<w.heap.size:=P.2.elim λq a=>a.aE
def cH.self(n:cH w p F V):F p:=n.2.elim λq P=>P.lp.1
def HX{tn t l u:Nat}(x:dj S=0)(y:bt w D S d tn v l)(z:∀n,D n->n<w.heap.size):
  be 94 #[.agg #[.slice d tn t,.slice v l u]] w (Ok λA w'=>∃p F,A= RK p/\cH w' p F (aY.new S)/\(∀n,F n->w.heap.size<=n)/\ai w w'):=by
 refine LG (PA.mk λJ m K o=>⟨_,_,_,_,_,_,ae o rfl,ae o rfl,PC.ok (DO (y.af m) λn P=>by have:=z n P;omega) ?_⟩);rintro _ c ⟨f,Nw,g,h,i,j,G,rfl,B,C,q⟩;refine⟨_,_,_,_,_,_,rfl,PA.mk λa r L E=>PA.mk λb k M H=>PA.mk λs e N I=>Ok.mk ⟨b.heap.size,λn=>w.heap.size<=n/\n<s.heap.size,rfl,⟨aY.tL x,
  ⟨⟨f,Nw,g,h,i,j,none,0,0,c.heap.size,a.heap.size,[],[],λn=>if n=b.heap.size then .self else if n=c.heap.size then .st else if n=a.heap.size then .dn else .Tu⟩,?_⟩⟩,λn P=>P.1,((m.then q).then r).then (k.then e)⟩⟩
 have O:=q.size;refine⟨I,?_,?_,bW.new (e.get (k.get E id) id),trivial,bW.new (e.get H id),trivial,λn P=>P.2,⟨⟨by show w.heap.size<=b.heap.size;omega,by show b.heap.size<_;omega⟩,Zx rfl⟩,⟨⟨by show w.heap.size<=c.heap.size;omega,by show c.heap.size<_;omega⟩,?_⟩,⟨⟨by show w.heap.size<=a.heap.size;omega,by show a.heap.size<_;omega⟩,?_⟩⟩
 ·refine(((B.af r).af k).af e).mono λn P=>?_
  have:=C n P;refine⟨⟨oM,oM⟩,?_⟩;show(if n=b.heap.size then _ else _)=_;rw[Zq oM,Zq oM,Zq oM]
 ·exact(aT.nil s).mono (λn P=>P.elim) λn P=>P.1.2
 ·show(if c.heap.size=b.heap.size then _ else _)=_
  rw[Zq oM,Zx rfl]
 ·show(if a.heap.size=b.heap.size then KD.self else if a.heap.size=c.heap.size then KD.st else if a.heap.size=a.heap.size then KD.dn else KD.Tu)=KD.dn
  rw[Zq oM,Zq oM,Zx rfl]
abbrev HM:pA:=⟨0,[]⟩
def oz(j:cH w p F V){a b:Int}:
  be 98 #[RK p,WP a,WP b] w (Ok λr w'=>∃c d e G,r= .tuple #[.agg #[WP ((V.state a b).getD HM).version,.slice c d e],.bool (V.state a b).isSome]/\aT gA 66 G w' c d e ((V.state a b).getD HM).cells/\(∀n,G n->w.heap.size<=n)/\ai w w'):=by
 obtain⟨T,q,j⟩:=j;refine vo (PA.mk λs t U z=>?_);have i:=j.af t;refine⟨p,0,rfl,_,ae i.at' rfl,jA (enc:=pP) (k:=(a,b)) Z_ WZ i.st ?_⟩;obtain⟨h,n,c,d,e,f,g,A,B,k⟩:∃(h:pA) (n:Bool) (c:bc) (d e:Nat),(au q.l1 (a,b)).getD (.agg #[WP 0,.slice none 0 0])= .agg #[WP h.version,.slice c d e]/\(au q.l1 (a,b)).isSome=n/\(V.state a b).getD HM=h/\(V.state a b).isSome=n/\Row gA 32 s (q.P F .Yw) c d h.cells:=by
  unfold aY.state;rcases i.Yx.au (a,b)with⟨f,g⟩|⟨r,h,f,g,c,d,e,rfl,k⟩
  ·exact⟨HM,false,none,0,0,by rw[f];rfl,by rw[f];rfl,by rw[g];rfl,by rw[g];rfl,Row.nil _ _⟩
  ·exact⟨h,true,c,d,e,by rw[f];rfl,by rw[f];rfl,by rw[g];rfl,by rw[g];rfl,k⟩
 rw[f,g,A,B];refine⟨_,_,_,_,_,rfl,PA.mk λW C X E=>PS.mk E sM λY H Z I=>PS.mk I sM λJ K s7 u=>?_⟩;have l:ai s J:=(C.new H λn P=>.inr oM).new K λn P=>.inr oM;refine⟨_,_,_,_,ae u rfl,ae u rfl,PC.ok (Md (k.af l) λn P=>by have:=i.aE n P.1;omega) ?_⟩;rintro _ w8 ⟨L,M,N,G,rfl,O,m,o⟩;have Q:=o.get (l.get z id) id;have z8:=o.size;refine⟨_,_,_,_,rfl,PS.mk Q sM λw9 v s9 R=>PS.mk R sM λa0 x a1 y=>⟨_,_,_,_,ae y rfl,ae y rfl,Ok.mk ⟨L,M,N,G,rfl,?_,?_,?_⟩⟩⟩
 ·exact(O.keep v λn P S=>by have:=m n P;omega).keep x λn P S=>by have:=m n P;omega
 ·intro n P;have:=m n P;omega
 ·exact(((t.then l).then o).new v λn P=>.inr oM).new x λn P=>.inr oM
end
variable{e p:Int}{c5:List bu}{a c i r:Nat}{g:TypeId}{c4:bu}{e0:jS}
section
variable {w w':World} {D D' S:UL} {d:aR} {ta pa:bc} {tn tc pn pc:Nat}
def yt{P a op arg:Int}(S:fy w)(j:bt w D d ta tn pa pn)(T:∀f,D f->f<w.heap.size):
  be 163 #[.agg #[.slice ta tn tc,.slice pa pn pc],WP P,WP a,WP op,WP arg] w (Ok λe w'=>e= WP (lR d P a op arg)/\ai w w'):=by
 refine DD (PA.mk λw1 B s1 C=>⟨_,_,_,_,_,_,ae C rfl,ae C rfl,PC.ok (pC (j.af B) λf s=>by have:=T f s;omega) ?_⟩);rintro e w2 ⟨U,p⟩;have q:=B.then U
 cases k:d.DY P a with
 |none=>
  rw[k]at p;refine cu (Ke Ym none 0 0) ⟨_,p,PA.mk λV t W u=>aC (gJ _ _ _ _) u rfl λX v Y E=>al.tt rfl (Ok.mk ⟨?_,(q.then t).new v λf s=>.inr (by have:=q.size;omega)⟩)⟩;unfold lR;rw[k]
 |some g=>
  rw[k]at p;obtain⟨r,h,F,a5,rfl,Z,hF⟩:=p;have x:lR d P a op arg=if !within op 1 5||rA op !=g.kind then 2 else if op==1&&arg==0||op==5&& !within arg 0 (g.bL.length-1)then 1 else 0:=by unfold lR;rw[k]
  have hz:=q.size;refine cu (Ke g r h F) ⟨_,rfl,PA.mk λV t W u=>aC (gJ g r h F) u rfl λX v Y E=>al.ff rfl λy H=>PC.ok cD ?_⟩;rintro _ _ ⟨rfl,rfl⟩;have I:=(bH.keep (S:=λ_=>False) H).get E id;have J:ai w y:=((q.then t).new v λf s=>.inr oM).then H.keep;have n:∀z:Int,lR d P a op arg=z->Ok (λe w'=>e= WP (lR d P a op arg)/\ai w w') (.returned (WP z)) y:=λz j=>Ok.mk ⟨by rw[j],J⟩;refine⟨_,rfl,al.not (al.mk (λc=>?_) (λc=>n 2 (by rw[x,c];rfl)))⟩;have a6:=bN.1 c;refine⟨1,0,rfl,oM,oM,rA op,?_,_,ae I rfl,al.eP (λa0=>n 2 ?_) (λhe=>?_)⟩
  ·have:=(S.af J).kinds op.toNat oM
   rw[Xz,this,Int.toNat_of_nonneg oM]
  ·rw[x,c,Zx (by simpa using a0)]
  have l:lR d P a op arg=if op==1&&arg==0||op==5&& !within arg 0 (g.bL.length-1)then 1 else 0:=by rw[x,c,he];simp
  have hn:h=g.bL.length:=Z.len dC;have a7:h<=140737488355328:=by
   obtain⟨a1,Nw,K,-⟩:∃(r:bc) (h:Nat),Row kO 32 w D r h g.bL/\True:=by
    obtain⟨i,m,a8,a3,a9,A,h3,h4⟩:=aR.wT k;have b0:=j.aX.len;obtain⟨f,a2,T',es,rfl,_,_,o,L,b1,n1,c1,rfl,M⟩:=j.aX.at (i:=P) i oM;rw[a3]at o;cases o
    have b2:=M.len;obtain⟨b3,b4,x',b5,rfl,_,_,N,b6,b7,n2,c2,rfl,hM,_⟩:=M.at (i:=a) A oM;rw[h4]at N;cases N
    exact⟨_,_,hM,trivial⟩
   have m:=K.len;have A:=K.eR;unfold aP at A;omega
  have bL:∀{O:List PanicEntry->ba},op=5->PC LL 129 #[WP arg,WP 0,WP (PP .i64 ((h:Int)-1))] y (λa4 Q=>∃R:Bool,a4= .bool R/\al (!R) (Ok (λe w'=>e= WP (lR d P a op arg)/\ai w w') (.returned (WP 1)) Q) (Ok (λe w'=>e= WP (lR d P a op arg)/\ai w w') (.returned (WP 0)) Q)) O:=by
   intro O b;refine PC.ok cD ?_;rintro _ _ ⟨rfl,rfl⟩;rw[wrap_i64 cw,hn];refine⟨_,rfl,al.not (al.mk (λc=>n 0 ?_) (λc=>n 1 ?_))⟩
   ·rw[l,c,b];rfl
   ·rw[l,c,b];rfl
  refine al.ey (λm=>al.ey (λi=>al.ey (λ_=>n 1 (by rw[l,m,i];rfl)) (λL=>Zz i L)) (λi=>al.ey (λb=>Zz b oM) (λb=>n 0 ?_))) (λm=>al.ey (λb=>⟨_,_,_,ae I rfl,bL b⟩) (λb=>n 0 ?_))
  ·rw[l,Zq (by simp[i,b])]
  ·rw[l,Zq (by simp[m,b])]
def FF{f:bc}(P:Row tR 48 w D f a c5):
  be 132 #[.agg #[.slice f a c],WP e,WP p] w (Ok λi w'=>i= .bool (TB c5 e p)/\ai w w'):=by
 have g:=P.len;have j:=P.eR;unfold aP at j;refine IH (PA.mk λo b q h=>⟨_,_,_,ae h rfl,PC.ok cD ?_⟩);rintro _ _ ⟨rfl,rfl⟩;rw[wrap_i64 cw];refine⟨_,rfl,al.mk (λn=>?_) (λn=>Ok.mk ⟨?_,b⟩)⟩
 ·have r:=bN.1 n
  obtain⟨k,d,s,t,rfl,_,_,l,m,u,v,x,rfl,_⟩:=(P.af b).at (i:=e) oM oM;refine⟨_,_,_,ae h rfl,k,d,rfl,oM,oM,_,m 0 dC,Ok.mk ⟨?_,b⟩⟩;unfold TB;rw[<-g,n,l];rfl
 ·unfold TB;rw[<-g,n];rfl
def Va(P:1<=e/\e<=4)(a:1<=p/\p<=3):∃n:Int,(∀w',(do eqGuard .shr 3 (.tmp 19) (.tmp 21) (WP (([0,2,14,6,6]:List Int).getD e.toNat 0)) (WP p);binOp .shr 3 (WP (([0,2,14,6,6]:List Int).getD e.toNat 0)) (WP p):Sem Value).run LL w'= .ok (WP n) w')/\((GB .i64 n 1==0)= !SS e p):=by
 refine⟨(([0,2,14,6,6]:List Int).getD e.toNat 0).fdiv (2 ^ p.toNat),?_,?_⟩<;>rcases(by omega:e=1\/e=2\/e=3\/e=4)with rfl|rfl|rfl|rfl<;>rcases(by omega:p=1\/p=2\/p=3)with rfl|rfl|rfl<;>first
  |(intro w';kernel_rfl)
  |decide
def MW(m:kU):Bool:=decide (m.bM<0)||decide (m.nk<0)||m.lV== -1&&m.least !=0
def Vb{b:kU}:be 130 (#[]++ #[.agg (oB b).toArray]++ #[]) w (Ok λe w'=>e= .bool (MW b)/\ai w w'):=by
 refine xu (PA.mk λf P g a=>⟨_,ae a rfl,al.dec (λn=>Ok.mk ⟨by simp[MW,n],P⟩) (λc=>⟨_,ae a rfl,al.dec (λn=>Ok.mk ⟨by simp[MW,n],P⟩) (λd=>⟨_,ae a rfl,al.ey (λn=>⟨_,ae a rfl,Ok.mk ⟨by simp[MW,c,d,n],P⟩⟩) (λn=>Ok.mk ⟨by simp[MW,c,d,n],P⟩)⟩)⟩)⟩)
def Ks(P:List bu)(n:kU):Bool:=n.lV != -1&& !TB P n.lV 1
def Vc{P:kU}{d:bc}(f:Row tR 48 w D d c c5)(h:w.heap[a]? =some (.cells #[.slice d c i] g (0,0))):
  be 131 (#[]++ #[.agg (oB P).toArray]++ #[RK a]) w (Ok λj w'=>j= .bool (Ks c5 P)/\ai w w'):=by
 refine xv (PA.mk λl n m e=>⟨_,ae e rfl,al.eP (λb=>⟨_,_,_,ae (n.get h id) rfl,_,ae e rfl,PC.ok (FF (f.af n)) ?_⟩) (λb=>Ok.mk ⟨by simp[Ks,b],n⟩)⟩);rintro _ o ⟨rfl,k⟩;exact⟨_,rfl,Ok.mk ⟨by unfold Ks;rw[show(P.lV != -1)=true by simpa using b];simp,n.then k⟩⟩
def HD{y z:bc}(H:fy w)(I:Row tR 48 w D y a c5)(A:Row kO 32 w D z i c4.bL):
  be 77 #[.agg #[.slice y a c],.agg (fv c4 z i r).toArray] w (Ok λo w'=>o= WP (fM c5 c4)/\ai w w'):=by
 refine Bh (PA.mk λV J W K=>PA.mk λp B X q=>⟨_,ae q rfl,PC.ok cD ?_⟩);rintro _ _ ⟨rfl,rfl⟩;have C:=J.then B;refine⟨_,rfl,al.not (al.mk (λe=>?_) (λe=>Ok.mk ⟨by unfold fM;rw[e];rfl,C⟩))⟩;have s:=bN.1 e;refine⟨λw'=>ai w w'/\p.heap.size<=w'.heap.size/\ai p w'/\within c4.dX 1 3=true/\SS c4.kind c4.dX=true/\(c4.floor&&c4.kind !=1)=false,λk E=>?_,?_⟩
 ·have b:=(bH.keep (S:=λ_=>False) E).get q id
  have d:ai p k:=E.keep;have n:ai w k:=C.then d;have f:fM c5 c4=1->Ok (λo w'=>o= WP (fM c5 c4)/\ai w w') (.returned (WP 1)) k:=λh=>Ok.mk ⟨by rw[h],n⟩;refine⟨_,ae b rfl,PC.ok cD ?_⟩;rintro _ _ ⟨rfl,rfl⟩;refine⟨_,rfl,al.not (al.mk (λP=>?_) (λP=>f (by unfold fM;rw[e,P];rfl)))⟩;have t:=bN.1 P;obtain⟨L,M,N⟩:=Va s t;refine⟨_,ae b rfl,0,0,rfl,oM,oM,_,by rw[Xz];exact(H.af n).Yn c4.kind.toNat oM,_,ae b rfl,L,M,?_⟩;refine al.mk (λl=>?_) (λl=>?_)<;>rw[N]at l
  ·exact f (by unfold fM;rw[e,P,show SS c4.kind c4.dX=false by simpa using l];rfl)
  have j:SS c4.kind c4.dX=true:=by simpa using l
  refine⟨_,ae b rfl,al.mk (λu=>⟨_,ae b rfl,al.eP (λO=>f ?_) (λQ=>⟨n,d.size,d,P,j,by simp[Q]⟩)⟩) (λu=>⟨n,d.size,d,P,j,by simp[u]⟩)⟩;unfold fM;rw[e,P,j,u];simp[O]
 ·rintro Y k ⟨n,Z,d,P,j,R⟩
  have b:=d.get q id;have v:fM c5 c4=if c4.bL.any MW then 1 else if c4.bL.any (Ks c5)then 8 else 0:=by
   unfold fM;rw[e,P,j,R];rfl
  refine⟨_,_,_,ae b rfl,PC.ok (Kr (p:=MW) (A.af n) kR λS T g=>Vb) ?_⟩;rintro _ T ⟨rfl,g⟩;refine⟨_,rfl,al.mk (λh=>Ok.mk ⟨by rw[v,Zx h],n.then g⟩) (λh=>⟨_,_,_,ae (g.get b id) rfl,PC.ok (Kr (p:=Ks c5) (A.af (n.then g)) kR λS U m=>Vc (I.af ((n.then g).then m)) (m.get (g.get (d.get (B.get K id) id) id) id)) ?_⟩)⟩;rintro _ U ⟨rfl,m⟩;have F:=(n.then g).then m;exact⟨_,rfl,al.mk (λx=>Ok.mk ⟨by rw[v,h,x];rfl,F⟩) (λx=>Ok.mk ⟨by rw[v,h,x];rfl,F⟩)⟩
def WS{n a kind:Int}(b:(d.DY n a).isSome):∃P,d.types[n.toNat]? =some P/\d.at n=P/\0<=n/\n<d.types.length:=by
 obtain⟨i,c⟩:=Option.isSome_iff_exists.1 b;obtain⟨e,f,P,g,h,_⟩:=aR.wT c;exact⟨P,g,h,e,f⟩
def HE(r:bt w D d ta tn pa pn)(O:∀n,D n->n<w.heap.size):
  be 78 #[.agg #[.slice ta tn tc,.slice pa pn pc],.agg (oA e0).toArray] w (Ok λC w'=>C= WP (mJ d e0)/\ai w w'):=by
 refine Bi (PA.mk λZ E s1 s=>PA.mk λw2 g s2 l=>⟨_,_,_,_,_,_,ae (g.get s id) rfl,ae (g.get s id) rfl,_,ae l rfl,_,ae l rfl,PC.ok (pC (r.af (E.then g)) λn b=>by have:=O n b;omega) ?_⟩);rintro C w3 ⟨h,m⟩;have t:=(E.then g).then h;have hz:=h.size
 cases i:d.DY e0.aX e0.field with
 |none=>
  rw[i]at m;refine cu (Ke Ym none 0 0) ⟨_,m,PA.mk λQ c R u=>aC (gJ _ _ _ _) u rfl λo e S T=>al.tt rfl (Ok.mk ⟨?_,(t.then c).new e λn b=>.inr oM⟩)⟩;unfold mJ;rw[i];rfl
 |some F=>
  rw[i]at m;obtain⟨H,I,J,a0,rfl,ho,hF⟩:=m;have K:(d.DY e0.aX e0.field).isNone=false:=by rw[i];rfl
  refine cu (Ke F H I J) ⟨_,rfl,PA.mk λQ c R u=>aC (gJ F H I J) u rfl λo e S T=>al.ff rfl ⟨λn w'=>n=(e0.group==3&& !TB (d.at e0.aX) e0.FO 2||e0.group !=3&&e0.FO !=0)/\ai o w',?_,?_⟩⟩
  ·have U:ai w o:=(t.then c).new e λn b=>.inr oM
   intro v V;have P:ai o v:=V.keep;have W:=P.get (e.get (c.get (h.get (g.get s id) id) id) oM) id;have a:=P.get (e.get (c.get (h.get l id) id) oM) id;refine⟨_,ae a rfl,al.ey (λf=>⟨_,_,_,ae W rfl,_,ae a rfl,?_⟩) (λf=>⟨_,ae a rfl,al.eP (λ_=>⟨_,ae a rfl,?_,P⟩) (λj=>Zz j f)⟩)⟩
   ·obtain⟨a1,X,L,M,h1⟩:=WS (kind:=0) (by rw[i];rfl:(d.DY e0.aX e0.field).isSome)
    have hl:=r.aX.len;obtain⟨n,x,T',es,rfl,_,_,k,j,a2,n1,c1,rfl,Y⟩:=((r.af (U.then P)).aX).at (i:=e0.aX) M oM;rw[X]at k;cases k
    have N:=j 0 dC;simp only[ns,Nat.mul_one,Nat.add_zero]at N;refine⟨n,x,rfl,M,oM,_,_,_,N,_,ae a rfl,PC.ok (FF Y) ?_⟩;rintro _ w7 ⟨rfl,y⟩;refine⟨_,rfl,al.not (al.mk (λz=>⟨_,ae (y.get a id) rfl,al.eP (λj=>Zz f j) (λ_=>⟨?_,P.then y⟩)⟩) (λz=>⟨?_,P.then y⟩))⟩
    ·rw[L,z,f];rfl
    ·rw[L,z,f];rfl
   ·rw[show(e0.group==3)=false by simpa using f,show(e0.group !=3)=true by simpa using f];rfl
  ·rintro n a3 v ⟨rfl,P⟩
   have p:ai w v:=((t.then c).new e λn b=>.inr oM).then P;have a:=P.get (e.get (c.get (h.get l id) id) oM) id;refine al.mk (λb=>Ok.mk ⟨by unfold mJ;rw[K,Zq sM,Zx b],p⟩) (λb=>⟨_,ae a rfl,PC.ok cD ?_⟩);have A:mJ d e0=if !within e0.group 1 3|| !within e0.make 1 5 then 2 else 0:=by unfold mJ;rw[K,Zq sM,b];rfl
   rintro _ _ ⟨rfl,rfl⟩;refine⟨_,rfl,al.not (al.mk (λq=>⟨_,ae a rfl,PC.ok cD ?_⟩) (λq=>Ok.mk ⟨by rw[A,q];rfl,p⟩))⟩;rintro _ _ ⟨rfl,rfl⟩;exact⟨_,rfl,al.not (al.mk (λB=>Ok.mk ⟨by rw[A,q,B];rfl,p⟩) (λB=>Ok.mk ⟨by rw[A,q,B];rfl,p⟩))⟩
end
def Vn(n:Int×Int×Int):iA LL 325 [WP n.1,WP n.2.1,WP n.2.2]=true:=kR
def KE{n b:Type}[BEq n][LawfulBEq n]{P:n}{e c:b}:∀a:List (n×b),aI (aI a P e) P c=aI a P c
 |[]=>by simp[aI]
 |(f,g)::a=>by
  by_cases d:P==f
  ·simp[d,aI]
  ·simp[d,aI,KE a]
variable{J:Bool}{d6:Int×Int}{b:World}{l:ah}
section
variable {w w':World} {p:Nat} {F T D:UL} {V:aY} {q:FL}
def HL(w:World)(p:Nat)(F D:UL)(V:aY)(n:ah)(b:Value)(w':World):Prop:=
 b= .tuple #[.bool (V.try n).1,.agg #[WP (V.try n).2.1.1,WP (V.try n).2.1.2]]/\∃a,cH w' p a (V.try n).2.2/\aj F w w'/\∀P,a P->F P\/D P\/w.heap.size<=P
def Tv(a:cH w p F V)(n:ai w w')(P:V.try l=(J,d6,V)):Ok (HL w p F D V l) (.returned (.tuple #[.bool J,.agg #[WP d6.1,WP d6.2]])) w':=by
 refine Ok.mk ⟨by rw[P],F,?_,ai.keep n,λJ b=>.inl b⟩;rw[P];exact a.af n
def FM(h:ze b p F V q)(n:Int×Int×Int):∃P a c d,(au q.l2 n).getD (.slice none 0 0)= .slice P a c/\(au V.done n).getD []=d/\(aT jh 57 (q.P F (.done n)) b P a c d):=by
 rcases h.YK.au n with⟨e,f⟩|⟨k,d,e,f,P,a,c,rfl,j⟩
 ·exact⟨none,0,0,[],by rw[e];rfl,by rw[f];rfl,(aT.nil b).mono (λi g=>g.elim) λi g=>h.aE i g.1⟩
 ·exact⟨P,a,c,d,by rw[e];rfl,by rw[f];rfl,j⟩
def Tw(b:cH w p F V)(hT:fy w)(hr:Row aO 8 w D d a l.aM)(C:∀n,D n->n<w.heap.size/\¬F n)(he:l.Ok)(P:((au V.done (l.aX,l.agg,l.field)).getD []).length<=20000000):
  be 161 #[RK p,kM l d a c] w (Ok (HL w p F D V l)):=by
 have l0:=b;obtain⟨hV,q,b⟩:=b;have f:=b.aE;have B9:=f _ b.lp.1;refine zJ (PA.mk λE t7 C0 t8=>PA.mk λo4 o5 C1 t9=>λl3 o6=>?_);have l4:ai o4 l3:=o6.keep;have C2:l3.heap.size=o4.heap.size:=by rw[o6.heap]
 have k0:ai w l3:=(t7.then o5).then l4;have ge:=l4.get (o5.get t8 id) id;have gb:=l4.get t9 id;have Q:=b.af k0;refine⟨p,0,rfl,_,_,_,_,_,_,ae Q.at' rfl,ae Q.at' rfl,_,ae ge rfl,_,ae ge rfl,_,ae ge rfl,_,ae ge rfl,PC.ok (yt (hT.af k0) Q.Tu λn P=>Q.aE n P.1) ?_⟩;rintro _ R ⟨rfl,S⟩;have k1:=k0.then S;have C3:=S.size;have c1:=S.get gb id;have c3:=S.get ge id;have k:∀{w1:World} {i:Int×Int} {n:Bool},ai R w1->V.try l=(n,i,V)->∀w2,bH w1 w2->∀(x H:Int),x=i.1->H=i.2->PS w2 ⟨E.heap.size,0,none⟩ (WP x) λw3=>PS w3 ⟨E.heap.size,0+1,none⟩ (WP H) λw4=>∃(o7 o8:Int),w4.cell? ⟨E.heap.size,0,none⟩=some (WP o7)/\w4.cell? ⟨E.heap.size,0+1,none⟩=some (WP o8)/\Ok (HL w p F D V l) (.returned (.tuple #[.bool n,.agg #[WP o7,WP o8]])) w4:=λ{w1 i n} hk I w2 f8 x H hx j=>by
  have k2:ai w1 w2:=f8.keep;have kk:=(k1.then hk).then k2;have g2:=k2.get (hk.get c1 id) id;subst hx j;refine PS.mk g2 sM λw3 k3 s3 g3=>PS.mk g3 sM λw4 J s4 g4=>⟨_,_,ae g4 rfl,ae g4 rfl,Tv l0 ((kk.new k3 λn P=>.inr oM).new J λn P=>.inr oM) I⟩
 refine⟨_,rfl,al.eP (λd6=>λu0 o9=>?_) (λg7=>?_)⟩
 ·have p0:=(o9.keep (S:=λ_=>False)).get c1 id
  exact⟨_,_,ae p0 rfl,ae p0 rfl,k (i:=(0,0)) (aj.refl _) (by rw[aY.py,Zx d6]) u0 o9 _ _ rfl rfl⟩
 obtain⟨c4,t0,t1,C4⟩:=Oj hV.decl g7 (hV.len l);obtain⟨v,p1⟩:∃v:Nat,l.aX=v:=⟨l.aX.toNat,oM⟩
 have l5:=c4.f0;have l6:=c4.f1;obtain⟨fi,g0⟩:∃fi:Nat,l.field=fi:=⟨l.field.toNat,oM⟩
 have u1:V.decl.at l.aX=V.decl.types.getD v []:=by
  unfold aR.at;rw[Zx (bN.2 ⟨t0,oM⟩),p1,Qx]
 obtain⟨tb,nk,es,u2,u3,p2,u4,fa,fn,fc,rfl,y⟩:=(Q.af S).Tu.aX.el v V.decl.types[v] sM;have y:Row tR 48 R (q.P F .Tu) fa fn (V.decl.at l.aX):=by
  rw[u1];have:V.decl.types.getD v []=V.decl.types[v]:=by simp[QQ,show v<V.decl.types.length by omega]
  rw[this];exact y
 have C5:=(Q.af S).Tu.aX.len;have g8:=u4 0 dC;have u5:ns.k=1:=rfl;rw[u5,Nat.mul_one]at g8;have u6:=f tb p2.1;refine⟨λT u7 ab ao w'=>u7=0/\ao=0/\ai R w'/\w'.heap[T]? =some (.cells #[.slice fa fn fc] 88 (0,0))/\w'.heap[ab]? =some (.cells #[WP l.aX,WP l.agg,WP l.field] 325 (0,0))/\R.heap.size<=T/\R.heap.size<=ab,?_,?_⟩
 ·intro K p3
  have d7:ai R K:=p3.keep;have C6:K.heap.size=R.heap.size:=by rw[p3.heap]
  have p4:=(Q.af S).af d7;have c5:=d7.get c3 id;refine⟨λn=>K.heap.size<=n,p,0,rfl,oM,_,_,_,ae p4.at' rfl,by show¬K.heap.size<=w.heap.size;omega,_,ae c5 rfl,tb,nk,u2,t0,by omega,by show¬K.heap.size<=tb;omega,fa,fn,fc,?_,by show¬K.heap.size<=w.heap.size;omega,_,ae c5 rfl,by show¬K.heap.size<=w.heap.size;omega,_,ae c5 rfl,by show¬K.heap.size<=w.heap.size;omega,_,ae c5 rfl,?_,?_⟩
  ·rw[p1,Qx]
   exact(d7.cell (a:=⟨tb,nk+v,none⟩) u3 id).trans g8
  ·refine PA.mk λu9 d8 v0 l7=>⟨ai.keep d8,PA.mk λv1 U v2 l8=>⟨ai.keep U,PS.mk (U.get l7 id) sM λv3 W v4 l9=>⟨W.mono λn _ l=>oM,aC (Vn (l.aX,l.agg,l.field)) (W.get l8 oM) rfl λv5 X v6 m0=>⟨X.mono λn _ l=>oM,rfl,rfl,?_,X.get l9 oM,m0,oM,oM⟩⟩⟩⟩
   exact(((d7.then d8).then U).new W λn P=>.inr oM).new X λn P=>.inr oM
  ·refine PA.mk λu9 d8 v0 l7=>⟨ai.keep d8,PA.mk λv1 U v2 l8=>⟨ai.keep U,PS.mk l8 sM λv3 W v4 l9=>⟨W.mono λn _ l=>oM,aC (Vn (l.aX,l.agg,l.field)) (W.get (U.get l7 id) oM) rfl λv5 X v6 m0=>⟨X.mono λn _ l=>oM,rfl,rfl,?_,X.get l9 oM,m0,oM,oM⟩⟩⟩⟩
   exact(((d7.then d8).then U).new W λn P=>.inr oM).new X λn P=>.inr oM
 rintro T _ ab _ _ p5 ⟨rfl,rfl,p6,p7,g9,y6,C7⟩;have k2:=k1.then p6;have d9:=b.af k2;obtain⟨da,dn,dc,h,v7,m1,p8⟩:=FM d9 (l.aX,l.agg,l.field);rw[m1]at P;refine⟨p,0,rfl,_,ae d9.at' rfl,ar (cs:=[WP l.aX,WP l.agg,WP l.field]) (Vn (l.aX,l.agg,l.field)) g9 ⟨da,dn,dc,λb1=>?_,λp9 v8=>?_⟩⟩
 ·have:=eL tDn ZU (d9.dn.af (aj.drewN p5 b1)) (l.aX,l.agg,l.field) false
  rw[v7]at this;exact this
 have g1:ai p5 p9:=v8.keep;have C8:=p8.len dC;have m2:=(p8.af g1).row (bytes:=96) dC ce;refine⟨λb1 a5 w'=>∃g:Nat,a5=g/\g<=dn/\b1=dn-g/\(∀x∈h.take g,mV ((V.decl.at l.aX).getD l.field.toNat ⟨0,0,false,[]⟩) x l=false)/\ai p9 w',⟨_,0,rfl,Qj _,rfl,sM,aj.refl _⟩,?_⟩;rintro b1 _ _ m3 ⟨g,rfl,hj,rfl,e0,e1⟩;have k3:=(p6.then g1).then e1;have h0:=e1.get (g1.get p7 id) id;have q0:=e1.get (g1.get g9 id) id;have h6:=k3.get c3 id;have c7:∀{r:Bool×(Int×Int)×aY},(match h.find? λx=>mV ((V.decl.at l.aX).getD l.field.toNat ⟨0,0,false,[]⟩) x l with
  |some x=>(true,bd x,V)
  |none=>if xf (V.decl.at l.aX) (V.cellsOf l) l.field l.op l.arg≠0 then(true,(0,0),V)else
   (false,(0,0),{V with eS:=aI V.eS (l.aX,l.agg) ⟨pW (((au V.eS (l.aX,l.agg)).getD ⟨0,[]⟩).version+1),TO (V.decl.at l.aX) (V.cellsOf l) l.field l.op l.arg⟩,done:=aI V.done (l.aX,l.agg,l.field) (h++[l])}))=r->V.try l=r:=λ{r} hr=>by
  rw[aY.py,Zq (by simpa using g7),m1];exact hr
 refine al.dec (λC9=>?_) (λD0=>?_)
 ·have g5:g<h.length:=oM
  obtain⟨db,b5,es,v9,D1,D2,q1,xa,xn,xc,rfl,q2,q3⟩:=(m2.af e1).el g h[g] (Qq g5);have g6:h[g]? =some h[g]:=Qq g5;generalize h[g]=x at q1 q2 q3 g6;refine⟨db,b5,v9,oM,oM,bT (es:=aF x xa xn xc) (k:=10) (bb x xa xn xc) rfl (λa5 I=>q1 a5 I) (PA.mk λD3 x0 D4 x1=>aC (bb x xa xn xc) x1 rfl λq4 x2 D5 x3=>λx4 x5=>?_)⟩;have m4:ai m3 q4:=x0.new x2 λn P=>.inr oM;have q5:ai q4 x4:=x5.keep;have J:=m4.then q5;have e2:=k3.then J;obtain⟨fb,fo,b6,b7,b8,x6,D6,D7,h1,h2,h3,h4,D8⟩:=Gi (y.af e2) (i:=fi) (by rw[y.len];omega);have h7:=q5.get x3 id;refine⟨_,_,_,ae (J.get h0 id) rfl,_,ae (J.get h6 id) rfl,fb,fo,x6,l5,by rw[y.len];exact l6,?_⟩;rw[g0,Qx];refine bT (es:=fv ((V.decl.at l.aX).getD fi ⟨0,0,false,[]⟩) b6 b7 b8) (k:=4) (gJ _ _ _ _) rfl (λa5 I=>?_) (ar (bb x xa xn xc) h7 (ar (bb l d a c) (J.get h6 id) (PC.ok (BC (q2.af J) ((hr.af k1).af e2)) ?_)))
  ·match a5,I with
   |0,_=>exact h1
   |1,_=>exact h2
   |2,_=>exact h3
   |3,_=>exact h4
  rintro _ D9 ⟨rfl,m5⟩;have x7:(V.decl.at l.aX).getD fi ⟨0,0,false,[]⟩=(V.decl.at l.aX).getD l.field.toNat ⟨0,0,false,[]⟩:=by rw[g0,Qx]
  rw[x7];refine⟨_,rfl,al.mk (λhv=>λx8 q6=>?_) (λhv=>⟨_,?_,g+1,an oM,oM,rfl,λH j=>?_,(e1.then J).then m5⟩)⟩
  ·have q7:=(q6.keep (S:=λ_=>False)).get (m5.get h7 id) id
   refine⟨_,_,ae q7 rfl,ae q7 rfl,k (e2.then m5) (i:=bd x) (c7 ?_) x8 q6 _ _ rfl rfl⟩;have hf:h.find? (λx=>mV ((V.decl.at l.aX).getD l.field.toNat ⟨0,0,false,[]⟩) x l)=some x:=by
    rw[List.find?_eq_some_iff_append];refine⟨hv,h.take g,h.drop (g+1),?_,λH j=>by rw[e0 H j];rfl⟩;rw[<-ZX g h]
    congr 1
    ·rw[ZX]
    ·rw[ZX,X4 g5]
     congr 1
     rw[Qq g5]at g6;exact XJ g6
   rw[hf]
  ·omega
  ·rw[Qw,g6]at j
   rcases Q6.1 j with j|j
   ·first|exact e0 H j|(rw[<-g0];exact e0 H j)
   ·simp at j;subst j;first|exact hv|(rw[<-g0];exact hv)
 ·have E0:g=dn:=oM
  rw[Qz oM]at e0;have m6:h.find? (λx=>mV ((V.decl.at l.aX).getD l.field.toNat ⟨0,0,false,[]⟩) x l)=none:=List.find?_eq_none.2 λx hx=>by rw[e0 x hx];simp
  rw[m6]at c7;intro Y h8;have c8:ai m3 Y:=h8.keep;have y7:Y.heap.size=m3.heap.size:=by rw[h8.heap]
  have k5:=k3.then c8;have e8:=k1.then k5;have z5:=k5.size;have z3:=k3.size;have b9:=b.af e8;have b2:=c8.get q0 id;have c0:=c8.get h0 id;have m7:=k5.get c3 id;have E1:=c8.size;have y8:=aA b2;have y9:=aA c0;obtain⟨s,n,m,o,z,e,Z,h5,k4,d4⟩:∃(s:pA) (n:Bool) (m:bc) (o z:Nat),(au q.l1 (l.aX,l.agg)).getD (.agg #[WP 0,.slice none 0 0])= .agg #[WP s.version,.slice m o z]/\(au q.l1 (l.aX,l.agg)).isSome=n/\(au V.eS (l.aX,l.agg)).getD HM=s/\(n=true->V.cellsOf l=s.cells)/\Row gA 32 Y (q.P F .Yw) m o s.cells/\(n=false->V.cellsOf l=dY (V.decl.at l.aX)):=by
   unfold aY.cellsOf;rcases b9.Yx.au (l.aX,l.agg)with⟨e,Z⟩|⟨f0,s,e,Z,m,o,z,rfl,hr⟩
   ·exact⟨HM,false,none,0,0,by rw[e];rfl,by rw[e];rfl,by rw[Z];rfl,λb=>(by cases b),Row.nil _ _,λ_=>by rw[Z]⟩
   ·exact⟨s,true,m,o,z,by rw[e];rfl,by rw[e];rfl,by rw[Z];rfl,λ_=>by rw[Z],hr,λb=>(by cases b)⟩
  obtain⟨d4,l1⟩:=d4;refine⟨λn=>n=Y.heap.size,p,0,rfl,oM,_,ae b9.at' rfl,oM,_,_,ae b2 rfl,ae b2 rfl,s.version,m,o,z,n,λw' hk=>?_,PA.mk λz0 h9 z2 q8=>⟨ai.keep h9,PS.mk q8 sM λz4 i0 z7 q9=>PS.mk q9 sM λr0 i1 z8 i2=>⟨i0.then i1,?_⟩⟩⟩
  ·have:=eL Z_ WZ (b9.st.keep hk (by have:=f _ b.l1.1;omega)) (l.aX,l.agg) true
   rw[e,Z]at this;exact this
  have k6:ai Y r0:=(h9.new i0 λn P=>.inr oM).new i1 λn P=>.inr oM;refine⟨λw'=>ai Y w'/\∃m o z Dc,w'.heap[Y.heap.size]? =some (.cells #[WP s.version,.slice m o z] 40 (0,0))/\Row gA 32 w' Dc m o (V.cellsOf l)/\∀n,Dc n->n<w'.heap.size,?_,?_⟩
  ·refine al.not (al.mk (λx9=>⟨k6,m,o,z,_,i2,by rw[k4 x9];exact d4.af k6,λn P=>by have:=f n P.1;have:=k6.size;have:=e8.size;omega⟩) (λy0=>⟨_,_,_,ae (k6.get c0 id) rfl,PC.ok (Im (t:=V.decl.at l.aX) rfl (y.len) (by rw[y.len];omega)) ?_⟩))
   rintro _ z9 ⟨l2,n6,m8,G6,rfl,r3,k7,y1⟩;have z6:=k6.size;refine⟨_,_,_,rfl,PS.mk (k7.get i2 id) sM λA0 i3 A1 r4=>⟨(k6.then k7).new i3 λn P=>.inr oM,l2,n6,m8,G6,r4,?_,λn P=>by have:=r3.aE n P;omega⟩⟩;rw[l1 y0];exact(r3.keep i3 λn P l=>by have:=y1 n P;omega).row dC (by unfold aP dY;simp;omega)
  rintro _ A2 ⟨a3,m,o,z,Dc,f1,d4,y2⟩;have A3:=a3.size;have f2:=k5.then a3;have f3:=a3.get c0 id;have m9:=a3.get b2 id;have c2:=a3.get m7 id;refine⟨_,_,_,ae f3 rfl,_,_,_,ae f1 rfl,_,ae c2 rfl,_,ae c2 rfl,_,ae c2 rfl,PC.ok (Il c4 (y.af f2) d4) ?_⟩;rintro _ r5 ⟨rfl,a0⟩;have k8:=f2.then a0;refine⟨_,rfl,al.eP (λd6=>λr6 i4=>?_) (λy3=>λc9 r7=>?_)⟩
  ·have i5:=(i4.keep (S:=λ_=>False)).get (k8.get c1 id) id
   refine⟨_,_,ae i5 rfl,ae i5 rfl,k (i:=(0,0)) k8 (c7 ?_) r6 i4 _ _ rfl rfl⟩;simp only;rw[Zx d6]
  have f4:xf (V.decl.at l.aX) (V.cellsOf l) l.field l.op l.arg=0:=y3;have a1:ai r5 c9:=r7.keep;have k9:=k8.then a1;have n0:=(a3.then a0).then a1;have c6:=k1.then k9;have n1:=b.af c6;have b3:=k9.get c3 id;have d2:=(a0.then a1).get m9 id;have n3:=(a0.then a1).get f3 id;have f5:=(a0.then a1).get f1 id;have E2:=f _ b.l1.1;have E3:=f _ b.l2.1;have A4:=n0.size;have y4:=c6.size;have e9:¬p=q.r1:=λl=>by have e:=b.lp.2;rw[l,b.l1.2]at e;cases e
  have i6:¬p=q.r2:=λl=>by have e:=b.lp.2;rw[l,b.l2.2]at e;cases e
  have i7:¬q.r1=q.r2:=λl=>by have e:=b.l1.2;rw[l,b.l2.2]at e;cases e
  refine⟨λn=>n=q.r1,p,0,rfl,e9,_,ae n1.at' rfl,oM,_,_,ae d2 rfl,ae d2 rfl,oM,_,ae f5 rfl,_,_,_,ae n3 rfl,_,_,_,ae f5 rfl,_,ae b3 rfl,_,ae b3 rfl,_,ae b3 rfl,PC.ok (TQ c4 f4 he.arg oM (y.af k9) (λn P=>by have:=f n P.1;omega) (d4.af (a0.then a1)) λn P=>by have:=y2 n P;have:=(a0.then a1).size;omega) ?_⟩;rintro _ a6 ⟨r8,r9,s0,G,rfl,i8,a4,hG⟩;have e3:=c6.then a4;have t:=b.af e3;have A5:=a4.size;refine⟨_,_,_,rfl,ai.keep a4,dA (enc:=pP) (k:=(l.aX,l.agg)) Z_ WZ t.st λi9 s1 j0 A6=>⟨j0,λd0 j1=>?_⟩⟩;have j2:ai i9 d0:=j1.keep;have A7:d0.heap.size=i9.heap.size:=by rw[j1.heap]
  have A:aj (·=q.r1) a6 d0:=j0.af j2;have key:∀n,F n/\q.cls n= .done (l.aX,l.agg,l.field)->n≠p/\n≠q.r1/\n≠q.r2:=λn P=>
   ⟨λl=>(by have e:=b.lp.2;rw[<-l,P.2]at e;cases e),λl=>(by have e:=b.l1.2;rw[<-l,P.2]at e;cases e),λl=>(by have e:=b.l2.2;rw[<-l,P.2]at e;cases e)⟩
  have n4:=A.get t.at' e9;have n5:=A.get (a4.get d2 id) oM;have u:=A.get (a4.get b3 id) oM;have n8:=t.dn.keep A (λl=>i7 l.symm);have n9:=A.get (a4.get (k9.get c1 id) id) oM;obtain⟨a2,a7,e4,n7,s2,j3,j4⟩:=FM t (l.aX,l.agg,l.field);rw[m1]at j3;subst j3;have o0:=j4.keep A λn P l=>(key n P).2.1 l;have A8:=A.size;refine⟨λn=>n=q.r2\/(F n/\q.cls n= .done (l.aX,l.agg,l.field)),p,0,rfl,λB=>B.elim i6 λB=>(key p B).1 rfl,_,ae n4 rfl,λB=>B.elim (λl=>oM) λB=>by have:=f _ B.1;omega,
   ar (cs:=[WP l.aX,WP l.agg,WP l.field]) (Vn (l.aX,l.agg,l.field)) n5 ⟨_,_,_,_,_,_,_,_,_,_,_,_,ae u rfl,ae u rfl,ae u rfl,ae u rfl,ae u rfl,ae u rfl,ae u rfl,ae u rfl,ae u rfl,ae u rfl,
   PA.mk λA9 a8 B0 s5=>⟨ai.keep a8,Hq (enc:=CX) (k:=(l.aX,l.agg,l.field)) tDn ZU (n8.af a8) λB1 x s6 o1 a9 B2=>⟨a2,a7,e4,x,by rw[s2],a9.mono λn _ l=>.inl l,?_⟩⟩⟩⟩
  have o2:=(o0.af a8).keep a9 λn P l=>(key n P).2.2 l;have s7:=a9.get s5 oM;have b4:∀n,aH a2=some n->F n/\q.cls n= .done (l.aX,l.agg,l.field):=λn P=>j4.self n P;have y5:=(((hr.af e3).keep A λn P l=>(C n P).2 (l▸b.l1.1)).af a8).keep a9 λn P l=>(C n P).2 (l▸b.l2.1);refine fN (c:=jh) o2 HR s7 (D:=D) (x:=l) ⟨d,a,c,rfl,y5,he⟩ (λn P=>⟨by have:=(C n P).1;omega,λee=>(C n P).2 (b4 n ee).1⟩) ce (by unfold maxLen;omega) λa' L s8 F2 f6 b0 o3=>⟨_,_,_,rfl,b0.mono λn _ P=>.inr (b4 n P),?_⟩
  have s9:¬aH a2=some q.r2:=λee=>(key _ (b4 _ ee)).2.2 rfl;refine Ct ZU (s6.keep b0 s9) (o1.keep b0 s9) λj5 t2 f7 B3=>⟨f7.mono λn _ l=>.inl l,λd1 j6=>?_⟩
  have f9:ai j5 d1:=j6.keep;have B4:d1.heap.size=j5.heap.size:=by rw[j6.heap]
  have B5:=b0.size;have kb:aj (λn=>n=q.r2\/(F n/\q.cls n= .done (l.aX,l.agg,l.field))) d0 d1:=((((ai.keep a8).then (a9.mono λn _ l=>.inl l)).then (b0.mono λn _ P=>.inr (b4 n P))).then (f7.mono λn _ l=>.inl l)).then (ai.keep f9);have e5:=kb.get n9 (λB=>B.elim (λl=>oM) λB=>by have:=f _ B.1;omega);refine⟨_,_,ae e5 rfl,ae e5 rfl,PS.mk e5 sM λB6 j7 B7 t3=>PS.mk t3 sM λd3 j8 B8 j9=>⟨_,_,ae j9 rfl,ae j9 rfl,?_⟩⟩;have M:aj (λn=>n=q.r1\/n=q.r2\/(F n/\q.cls n= .done (l.aX,l.agg,l.field))\/n=E.heap.size) a6 d3:=
   ((A.mono λn _ l=>.inl l).then (kb.mono λn _ P=>P.elim (λl=>.inr (.inl l)) λP=>.inr (.inr (.inl P)))).then ((j7.mono λn _ l=>.inr (.inr (.inr l))).then (j8.mono λn _ l=>.inr (.inr (.inr l))))
  have kc:aj (·=E.heap.size) d1 d3:=j7.then j8;have zT:=M.size;have I:=c7 (r:=(false,(0,0),{V with eS:=aI V.eS (l.aX,l.agg) ⟨pW (((au V.eS (l.aX,l.agg)).getD ⟨0,[]⟩).version+1),TO (V.decl.at l.aX) (V.cellsOf l) l.field l.op l.arg⟩,done:=aI V.done (l.aX,l.agg,l.field) (h++[l])})) (by simp only;rw[Zq (by simpa using f4)]);have t4:=(aY.Tx hV l).1;refine Ok.mk ⟨by rw[I],λn=>n<d3.heap.size/\(F n\/D n\/w.heap.size<=n),?_,?_,λn P=>P.2⟩
  rotate_left
  ·exact(ai.keep e3).trans M (λ_ _ b=>b) λn P hT=>by
    rcases hT with rfl|rfl|hT|rfl
    ·exact b.l1.1
    ·exact b.l2.1
    ·exact hT.1
    ·omega
  rw[I]at t4⊢;have t5:∀n,G n->c9.heap.size<=n/\n<a6.heap.size:=λn P=>⟨hG n P,i8.aE n P⟩
  have N:∀n,F n->n<d3.heap.size:=λn P=>by have:=f n P;omega
  classical
  have O:∀n,F n->(if F n then q.cls n else if c9.heap.size<=n/\n<a6.heap.size then KD.Yw else KD.done (l.aX,l.agg,l.field))=q.cls n:=λn P=>Zx P;refine⟨t4,⟨q.ta,q.tn,q.tc,q.pa,q.pn,q.pc,q.ea,q.en,q.ec,q.r1,q.r2,aI q.l1 (l.aX,l.agg) (.agg #[WP (pW (s.version+1)),.slice r8 r9 s0]),aI q.l2 (l.aX,l.agg,l.field) (.slice a' (a7+1) L),λn=>if F n then q.cls n else if c9.heap.size<=n/\n<a6.heap.size then KD.Yw else KD.done (l.aX,l.agg,l.field)⟩,?_,?_,?_,?_,?_,?_,?_,λn P=>P.1,⟨⟨N _ b.lp.1,.inl b.lp.1⟩,(O _ b.lp.1).trans b.lp.2⟩,⟨⟨N _ b.l1.1,.inl b.l1.1⟩,(O _ b.l1.1).trans b.l1.2⟩,⟨⟨N _ b.l2.1,.inl b.l2.1⟩,(O _ b.l2.1).trans b.l2.2⟩⟩
  ·exact M.get t.at' λB=>by
    rcases B with B|B|B|B
    ·exact e9 B
    ·exact i6 B
    ·exact(key _ B).1 rfl
    ·omega
  ·refine(t.Tu.keep M λn P B=>?_).mono λn P=>⟨⟨N n P.1,.inl P.1⟩,(O n P.1).trans P.2⟩
   have d5:=f n P.1;rcases B with rfl|rfl|B|B
   ·have:=b.l1.2;rw[P.2]at this;cases this
   ·have:=b.l2.2;rw[P.2]at this;cases this
   ·have:=B.2;rw[P.2]at this;cases this
   ·omega
  ·refine(t.Qu.keep M λn P B=>?_).mono (λn P=>⟨⟨N n P.1,.inl P.1⟩,(O n P.1).trans P.2⟩) λn P=>P.1.1
   have d5:=f n P.1;rcases B with rfl|rfl|B|B
   ·have:=b.l1.2;rw[P.2]at this;cases this
   ·have:=b.l2.2;rw[P.2]at this;cases this
   ·have:=B.2;rw[P.2]at this;cases this
   ·omega
  ·exact((s1.af j2).keep kb λB=>B.elim i7 λB=>(key _ B).2.1 rfl).keep kc oM
  ·refine fL.aI ?_ ?_
   ·refine⟨r8,r9,s0,by rw[h5],?_⟩
    refine((i8.row (bytes:=32) dC ?_).keep M λn P B=>?_).mono λn P=>?_
    ·rw[Ol,hV.len];unfold aP;omega
    ·have d5:=t5 n P
     rcases B with rfl|rfl|B|B
     ·omega
     ·omega
     ·have:=f n B.1;omega
     ·omega
    ·have d5:=t5 n P
     refine⟨⟨oM,.inr (.inr oM)⟩,?_⟩;show(if F n then _ else _)=_;rw[Zq (λhf=>by have:=f n hf;omega),Zx d5]
   ·refine t.Yx.mono λf0 r1 hu=>?_
    obtain⟨e6,n2,e7,rfl,hu⟩:=hu;refine⟨e6,n2,e7,rfl,(hu.keep M λn P B=>?_).mono λn P=>⟨⟨N n P.1,.inl P.1⟩,(O n P.1).trans P.2⟩⟩;have d5:=f n P.1;rcases B with rfl|rfl|B|B
    ·have:=b.l1.2;rw[P.2]at this;cases this
    ·have:=b.l2.2;rw[P.2]at this;cases this
    ·have:=B.2;rw[P.2]at this;cases this
    ·omega
  ·have:=(t2.af f9).keep kc (by show¬q.r2=E.heap.size;omega)
   rw[KE]at this;exact this
  ·refine px.aI ?_ t.YK ?_ t.dn.tidy
   ·refine⟨a',_,L,rfl,?_⟩
    have t6:∀n,F2 n->n<s8.heap.size/\n≠E.heap.size:=λn P=>by
     refine⟨f6.aE n P,λl=>?_⟩;rcases o3 n P with e|e|e
     ·have:=f n e.1;omega
     ·have:=(C n e).1;omega
     ·omega
    refine((f6.keep f7 λn P l=>?_).af f9|>.keep kc λn P l=>(t6 n P).2 l).mono (λn P=>?_) λn P=>P.1.1
    ·rcases o3 n P with e|e|e
     ·exact(key n e).2.2 l
     ·exact(C n e).2 (l▸b.l2.1)
     ·omega
    ·have:=(t6 n P).1
     have hz:=kc.size;rcases o3 n P with e|e|e
     ·exact⟨⟨N n e.1,.inl e.1⟩,(O n e.1).trans e.2⟩
     ·refine⟨⟨oM,.inr (.inl e)⟩,?_⟩
      show(if F n then _ else _)=_;rw[Zq (C n e).2,Zq (by have:=(C n e).1;omega)]
     ·refine⟨⟨oM,.inr (.inr oM)⟩,?_⟩
      show(if F n then _ else _)=_;rw[Zq (λhf=>by have:=f n hf;omega),Zq oM]
   ·intro r2 f0 r1 d6 hu
    obtain⟨e6,n2,e7,rfl,hu⟩:=hu;refine⟨e6,n2,e7,rfl,(hu.keep M λn P B=>?_).mono (λn P=>⟨⟨N n P.1,.inl P.1⟩,(O n P.1).trans P.2⟩) λn P=>P.1.1⟩;have d5:=f n P.1;rcases B with rfl|rfl|B|B
    ·have:=b.l1.2;rw[P.2]at this;cases this
    ·have:=b.l2.2;rw[P.2]at this;cases this
    ·have:=B.2;rw[P.2]at this
     simp only[KD.done.injEq]at this;exact d6 this
    ·omega
end
variable{f:UL}{d8:bc}
section
variable {w w':World} {p:Nat} {F T D:UL} {V:aY} {q:FL}
abbrev FP(n:cN)(P:bc)(a b:Nat):Value:=.agg (jT n P a b).toArray
def HP(L:cH w p F V)(hT:fy w)(hr:Row aO 8 w D d a l.aM)(o:∀n,D n->n<w.heap.size/\¬F n)(he:l.Ok)(P:((au V.done (l.aX,l.agg,l.field)).getD []).length<=20000000)(M:V.entries.length<=20000000):
  be 95 #[RK p,kM l d a c] w (Ok λW w'=>∃d a c G,W=FP (V.add l).1 d a c/\Row aO 8 w' G d a l.aM/\∃X,cH w' p X (V.add l).2/\cm F w X w'/\∀n,G n->w.heap.size<=n/\n<w'.heap.size/\¬X n):=by
 have Y:=L.aE;have h3:=Y _ L.self;refine zD (PA.mk λt e6 h4 d1=>PA.mk λh5 Z h6 e7=>?_);have k0:=e6.then Z;refine ar (bb l d a c) (Z.get d1 id) (PC.ok (o_ (hr.af k0) λn P=>by have:=(o n P).1;omega) ?_);rintro _ h7 ⟨a6,n1,c1,G1,rfl,e8,u,N⟩;have a0:=k0.then N;refine cu (sx l a6 n1 c1) ⟨rfl,PC.ok (Tw (L.af a0) (hT.af a0) e8 (λn P=>⟨(u n P).2,λi=>by have:=Y n i;have:=u n P;omega⟩) he P) ?_⟩;rintro _ v ⟨rfl,e,b8,O,Q⟩;have h8:=N.size;have h9:=O.size;have b0:∀n,e n->F n\/w.heap.size<=n:=λn P=>by
  rcases Q n P with b|b|b
  ·exact .inl b
  ·have:=u n b;exact .inr oM
  ·exact .inr oM
 have b1:aj F w v:=(ai.keep a0).then O;have R:∀{n:Nat},w.heap.size<=n->¬F n:=λ{n} P i=>by have:=Y n i;omega
 have d2:=O.get (N.get (Z.get d1 id) id) (R (Q4 _));have d3:=O.get (N.get e7 id) (R oM);refine⟨_,_,_,rfl,PA.mk λi0 e9 i1 f2=>PS.mk f2 sM λi2 f4 i3 f5=>PS.mk f5 sM λi4 f7 i5 f9=>λx b9=>?_⟩;have A:ai v x:=((e9.new f4 λn P=>.inr oM).new f7 λn P=>.inr oM).then b9.keep;have i6:x.heap.size=v.heap.size+1:=by rw[b9.heap];omega
 have a1:x.heap[v.heap.size]? =some (.cells #[WP (V.try l).2.1.1,WP (V.try l).2.1.2] 37 (0,0)):=(b9.keep (S:=λ_=>False)).get f9 id;have b2:=A.get d2 id;obtain⟨g9,q,f⟩:=b8.af A;have c4:=b8.self;have y:=b8.aE;have b3:=((hr.keep b1 λn P=>(o n P).2).af A)
 have a4:(V.try l).2.2.entries=V.entries:=by
  rw[aY.py];split;rfl;split;rfl;split<;>rfl
 have i7:=f.Qu.len dC;have B:∀n,aH q.ea=some n->e n/\q.cls n= .Qu:=λn P=>f.Qu.self n P;have C:¬aH q.ea=some p:=λj=>by have b:=(B p j).2;rw[f.lp.2]at b;cases b
 refine⟨λn=>aH q.ea=some n,p,0,rfl,C,_,_,_,ae f.at' rfl,ar (bb l d a c) b2 ⟨λj=>by have:=y _ (B _ j).1;omega,_,_,ae a1 rfl,ae a1 rfl,PC.ok (o_ b3 λn P=>by have:=(o n P).1;omega) ?_⟩⟩;rintro _ i8 ⟨a7,n2,c2,G2,rfl,g0,z,c5⟩;have i9:=c5.size;refine⟨_,_,_,_,_,_,_,_,_,_,_,_,rfl,ai.keep c5,PA.mk λd4 c6 j0 g1=>⟨ai.keep c6,?_⟩⟩;have a2:=c5.then c6;refine fN (c:=tJ) (x:=⟨l,(V.try l).1,(V.try l).2.1⟩) (f.Qu.af a2) NY g1 (D:=G2) ⟨a7,n2,c2,rfl,g0.af c6,he⟩ (λn P=>⟨by have:=z n P;omega,λj=>by have:=y _ (B _ j).1;have:=z n P;omega⟩) (by rw[a4];unfold aP;omega) (by rw[a4];unfold maxLen;omega) λa' E d5 F2 b4 c7 c8=>⟨_,_,_,rfl,p,0,rfl,?_⟩
 have j1:=c7.size;have d6:=c7.get ((f.af a2).at') C;refine PS.mk d6 sM λH g2 j2 g3=>λr d7=>?_;have d8:ai H r:=d7.keep;have j3:r.heap.size=H.heap.size:=by rw[d7.heap]
 have a5:aj (·=p) d5 r:=g2.af d8;have k5:aj (λn=>aH q.ea=some n\/n=p) x r:=((ai.keep a2).then (c7.mono λn _ P=>.inl P)).then (a5.mono λn _ P=>.inr P);have I:aj e x r:=k5.mono λn _ P=>P.elim (λb=>(B n b).1) λb=>b▸c4;have c9:∀{n:Nat},v.heap.size<=n->¬e n:=λ{n} P i=>by have:=y n i;omega
 have g4:¬e w.heap.size:=λi=>by
  rcases Q _ i with b|b|b
  ·exact R (Q4 _) b
  ·have:=u _ b;omega
  ·omega
 have d0:¬e t.heap.size:=λi=>by
  rcases Q _ i with b|b|b
  ·exact R oM b
  ·have:=u _ b;omega
  ·omega
 have d9:=I.get b2 g4;have e0:=I.get (A.get d3 id) d0;have b5:=I.get a1 (c9 (Q4 _));have e1:∀n,D n->¬e n:=λn P i=>by
  rcases Q _ i with b|b|b
  ·exact(o n P).2 b
  ·have:=u _ b;have:=(o n P).1;omega
  ·have:=(o n P).1;omega
 have e2:=b3.keep I e1;have j4:=k5.size;refine⟨λn=>n=t.heap.size,ar (bb l d a c) d9 ⟨oM,_,_,ae b5 rfl,ae b5 rfl,PC.ok (o_ e2 λn P=>by have:=(o n P).1;omega) ?_⟩⟩;rintro _ j5 ⟨a3,n3,c3,G3,rfl,g5,e3,J⟩;have j6:=J.size;refine⟨_,_,_,_,_,_,_,_,_,_,_,_,rfl,ai.keep J,aC (ml ⟨l,(V.try l).1,(V.try l).2.1⟩ a3 n3 c3) (J.get e0 id) rfl λe4 S j7 g6=>⟨S,ar (ml ⟨l,(V.try l).1,(V.try l).2.1⟩ a3 n3 c3) g6 (Ok.mk ⟨a3,n3,c3,G3,rfl,g5.keep S λn P j=>by have:=e3 n P;omega,λn=>n<H.heap.size/\(e n\/G2 n\/d4.heap.size<=n),?_,⟨?_,?_⟩,?_⟩)⟩⟩
 ·have g7:=(aY.AA (by
   have:V.OK:=L.1;exact this) l).1
  have T:aj (λn=>n=t.heap.size) r e4:=(ai.keep J).then S;have zc:=T.size;have g8:∀n,e n->n<H.heap.size:=λn P=>by have:=y n P;omega
  classical
  have e5:∀n,e n->(if e n then q.cls n else KD.Qu)=q.cls n:=λn P=>Zx P;have K:aj (λn=>(aH q.ea=some n\/n=p)\/n=t.heap.size) x e4:=(k5.mono λn _ P=>.inl P).then (T.mono λn _ P=>.inr P);have g:∀(m:KD) n,m≠.Qu->m≠.self->e n/\q.cls n=m->¬((aH q.ea=some n\/n=p)\/n=t.heap.size):=λm n b U P k=>by
   rcases k with(k|k)|k
   ·exact b (P.2.symm.trans (B n k).2)
   ·subst k;exact U (P.2.symm.trans f.lp.2)
   ·subst k;exact d0 P.1
  have h:∀(m:KD) n,e n/\q.cls n=m->((n<H.heap.size/\(e n\/G2 n\/d4.heap.size<=n))/\(if e n then q.cls n else KD.Qu)=m):=λm n P=>⟨⟨g8 n P.1,.inl P.1⟩,(e5 n P.1).trans P.2⟩
  refine⟨g7,⟨q.ta,q.tn,q.tc,q.pa,q.pn,q.pc,a',q.en+1,E,q.r1,q.r2,q.l1,q.l2,λn=>if e n then q.cls n else KD.Qu⟩,?_,?_,?_,?_,?_,?_,?_,λn P=>by have:=P.1;omega,h _ _ f.lp,h _ _ f.l1,h _ _ f.l2⟩
  ·exact T.get (d8.get g3 id) oM
  ·exact(f.Tu.keep K λn P=>g _ n sM sM P).mono (h _)
  ·have M:∀n,F2 n->n<d5.heap.size/\n≠t.heap.size/\n≠p:=λn P=>by
    refine⟨b4.aE n P,λj=>?_,λj=>?_⟩
    ·rcases c8 n P with b|b|b
     ·exact d0 (j▸b.1)
     ·have:=z n b;omega
     ·omega
    ·rcases c8 n P with b|b|b
     ·have U:=b.2;rw[j,f.lp.2]at U;cases U
     ·have:=z n b;have:=y p c4;omega
     ·have:=y p c4;omega
   have:(V.add l).2.entries=(V.try l).2.2.entries++[⟨l,(V.try l).1,(V.try l).2.1⟩]:=rfl;rw[this];refine((b4.keep a5 λn P=>(M n P).2.2).keep T λn P=>(M n P).2.1).mono (λn P=>?_) λn P=>by have:=P.1.1;omega
   have h0:=(M n P).1;rcases c8 n P with b|b|b
   ·exact h _ n b
   ·have:=z n b
    refine⟨⟨oM,.inr (.inl b)⟩,?_⟩;show(if e n then _ else _)=_;rw[Zq (c9 oM)]
   ·refine⟨⟨oM,.inr (.inr b)⟩,?_⟩
    show(if e n then _ else _)=_;rw[Zq (c9 oM)]
  ·exact f.st.keep K (g _ _ sM sM f.l1)
  ·refine f.Yx.mono λW a8 s=>?_
   obtain⟨x1,x2,x3,rfl,s⟩:=s;exact⟨x1,x2,x3,rfl,(s.keep K λn P=>g _ n sM sM P).mono (h _)⟩
  ·exact f.dn.keep K (g _ _ sM sM f.l2)
  ·refine f.YK.mono λa9 W a8 s=>?_
   obtain⟨x1,x2,x3,rfl,s⟩:=s;exact⟨x1,x2,x3,rfl,(s.keep K λn P=>g _ n sM sM P).mono (h _) λn P=>by have:=P.1.1;omega⟩
 ·have k1:aj e v r:=(ai.keep A).then I
  exact((b1.new k1 b0).af J).new S λn P=>.inr oM
 ·intro n P
  rcases P.2 with b|b|b
  ·exact b0 n b
  ·have:=z n b;exact .inr oM
  ·exact .inr oM
 ·intro n P
  have:=e3 n P;refine⟨oM,oM,λk=>by have:=k.1;omega⟩
def FR(c:aR):∀(a:List ah) (n:aY) (P:Int×Int×Int),(((au (a.foldl (λn e=>(n.add e).2) n).done P).getD []).length<=((au n.done P).getD []).length+a.length)/\(a.foldl (λn e=>(n.add e).2) n).entries.length=n.entries.length+a.length
 |[],n,P=>by simp
 |e::a,n,P=>by
  rw[List.foldl_cons];obtain⟨d,f⟩:=FR c a (n.add e).2 P;have i:((au (n.add e).2.done P).getD []).length<=((au n.done P).getD []).length+1:=by
   show((au (n.try e).2.2.done P).getD []).length<=_;rw[aY.py];split
   ·simp
   split
   ·simp
   split
   ·simp
   ·simp only
    rw[bB];split
    ·rename_i g
     have b:P=(e.aX,e.agg,e.field):=by simpa using g
     rw[b];simp
    ·simp
  have h:(n.add e).2.entries.length=n.entries.length+1:=by
   show((n.try e).2.2.entries++[_]).length=_;have:(n.try e).2.2.entries=n.entries:=by rw[aY.py];split;rfl;split;rfl;split<;>rfl
   rw[this];simp
  refine⟨?_,by rw[f,h];simp;omega⟩;simp only[Xq]at d⊢;omega
def HO{tn L q M i N:Nat}(O:dj S=0)(Q:fy w)(R:bt w D S d tn v q)(T:∀n,D n->n<w.heap.size)(r:Row jh 96 w f d8 i I)(s:∀n,f n->n<w.heap.size)(a:I.length<=20000000):
  be 60 #[.agg #[.slice d tn L,.slice v q M],.slice d8 i N] w (Ok λU w'=>∃p F,U= RK p/\cH w' p F (bR S I)/\(∀n,F n->w.heap.size<=n)/\ai w w'):=by
 refine LF (PA.mk λw1 t s1 u=>⟨_,_,_,_,_,_,ae u rfl,ae u rfl,PC.ok (HX O (R.af t) λn a=>by have:=T n a;omega) ?_⟩);rintro _ w9 ⟨p,V,rfl,c,W,x⟩;have a9:=r.len;have X:=t.then x;have z9:=x.size;refine⟨_,rfl,λy o w'=>∃P:Nat,o=P/\P<=i/\y=i-P/\∃F,cH w' p F (bR S (I.take P))/\(∀n,F n->w.heap.size<=n)/\ai w w',⟨_,0,rfl,Qj _,rfl,V,c,λn a=>by have:=W n a;omega,X⟩,?_⟩;rintro y _ _ Y ⟨P,rfl,hj,rfl,F,c,j,e⟩;refine al.dec (λb0=>?_) (λb1=>?_)
 ·have z:P<I.length:=oM
  obtain⟨n,Z,es,ha,a0,b2,A,k,l,m,rfl,B,C⟩:=(r.af e).el P I[P] (Qq z);have E:I[P]? =some I[P]:=Qq z;generalize I[P]=b at A B C E;refine⟨n,Z,ha,oM,oM,bT (es:=aF b k l m) (k:=10) (bb b k l m) rfl (λo ht=>A o ht) (PA.mk λb3 a3 b4 a5=>aC (bb b k l m) a5 rfl λa6 a7 b5 a8=>ar (bb b k l m) a8 ?_)⟩;have g:ai Y a6:=a3.new a7 λn a=>.inr oM;have H:=FR S (I.take P) (aY.new S) (b.aX,b.agg,b.field);have b6:=List.length_take_le P I;have b7:((au (bR S (I.take P)).done (b.aX,b.agg,b.field)).getD []).length<=0+(I.take P).length:=H.1;have b8:(bR S (I.take P)).entries.length=0+(I.take P).length:=H.2;have b9:=e.size;have c1:=g.size;refine PC.ok (HP (c.af g) (Q.af (e.then g)) (B.af g) (λn a=>⟨by have:=s n a;omega,λhf=>by have:=j n hf;have:=s n a;omega⟩) C oM oM) ?_;rintro _ c2 ⟨a4,n4,c4,G,rfl,-,F',h,J,-⟩;refine cu (QO _ a4 n4 c4) ⟨rfl,_,?_,P+1,an oM,oM,rfl,F',?_,λn a=>?_,(e.then g).new J.1 λn a=>.inr (j n a)⟩
  ·omega
  ·rw[Qw,E]
   unfold bR at h⊢;rw[List.foldl_append];exact h
  ·rcases J.2 n a with K|K
   ·exact j n K
   ·omega
 ·rw[Qz oM]at c
  exact Ok.mk ⟨p,F,rfl,c,j,e⟩
end
end Go.Proofs.YtkpomgifkloklabGreatDoor
namespace Go.aw
open Go
variable{a5:List Value}{F a b6 c i r:Nat}{f:UL}{d v:bc}{h:Program}{L j:Type}{g q:TypeId}{b:World}{z:ba}
def Qs{cs:List j}{p m:Nat}{v:j}{vs:List j}(n:p<cs.length):(cs.set p v).take (p+1)++vs++(cs.set p v).drop (p+1+m)=cs.take p++(v::vs)++cs.drop (p+(m+1)):=by
 have P:(cs.set p v).take (p+1)=cs.take p++[v]:=by
  rw[Qw,Xj,Zx rfl,Zx n,List.take_set_of_le (Q4 _)];rfl
 have a:(cs.set p v).drop (p+1+m)=cs.drop (p+(m+1)):=by
  rw[List.drop_set_of_lt oM,show p+1+m=p+(m+1) by omega]
 rw[P,a];simp
def CV{k:TypeId}{l:Nat}{f:bc}{m c P g d:Nat}{o:ba}(p:f=some ⟨g,d,none⟩):∀(a:List Value) (n:Nat) {b:World} {cs:List Value},Own b k l f m c cs->P+n+a.length<=cs.length->
  (∀e,Own e k l f m c (cs.take (P+n)++a++cs.drop (P+n+a.length))->aj (λg=>aH f=some g) b e->e.heap.size=b.heap.size->o e)->jL ⟨g,d+P,none⟩ n a b o
 |[],n,b,cs,h,q,i=>i b (by simpa using h) (aj.refl _) rfl
 |v::a,n,b,cs,h,q,i=>by
  unfold jL;rw[Xq]at q;rw[Addr.add_lit,Nat.add_assoc];refine h.set (m:=P+n) oM p λe r s t=>CV p a (n+1) r cS λu j w x=>i u ?_ (s.then w) (x.trans t);have:=Qs (cs:=cs) (p:=P+n) (m:=a.length) (v:=v) (vs:=a) oM;rw[show P+(n+1)=P+n+1 from rfl]at j;rw[this]at j;exact j
def Own.store{j P m e c:Nat}{n cs:List Value}(l:Own b q a d j P cs)(o:d=some ⟨e,c,none⟩)(k:iA h g n=true)(p:m+n.length<=cs.length)(i:∀f,Own f q a d j P (cs.take m++n++cs.drop (m+n.length))->aj (λe=>aH d=some e) b f->f.heap.size=b.heap.size->z f):nw h g (.pointer (some ⟨e,c+m,none⟩)) (.agg n.toArray) b z:=by
 simp only[iA,QK]at k;obtain⟨⟨⟨r,w⟩,s⟩,t⟩:=k;unfold nw;have u:Nat.beq n.toArray.size (mD h g)=true:=by simpa using s
 have v:n.toArray.toList.all Value.oneCell'=true:=by simpa using t
 simp only[r,u,v];exact CV o n 0 l (by simpa using p) i
def fp.store{n:fp j L}{m:List (Bx j)}(w:aT n.kp q f b d a c m){P:Bx j}(x:m[i]? =some P){B s:Nat}(M:d=some ⟨B,s,none⟩)(C:a5=(n.hd P.x v r F).take b6)(a1:n.o<b6)(a2:b6<=n.k)(N:iA h g a5=true)(y:∀p,aT n.kp q f p d a c (m.set i ⟨P.x,v,r,F⟩)->aj (λe=>aH d=some e) b p->p.heap.size=b.heap.size->z p):nw h g (.pointer (some ⟨B,s+i*n.k,none⟩)) (.agg a5.toArray) b z:=by
 obtain⟨cs,D,O,E,Q⟩:=w.body;have H:=cd.ow.1 E;have R:i<m.length:=(Qv.1 x).1;have I:cs.length=m.length*n.k:=by rw[H];exact lP (λe:Bx j=>n.hl e.x e.a e.n e.c) m
 have t:a5.length=b6:=by rw[C,Qy,n.hl];omega
 have S:(i+1)*n.k<=m.length*n.k:=Q0 _ R;rw[X7,Nat.one_mul]at S;refine O.store (m:=i*n.k) M N (by rw[I,t];omega) λp T U J=>y p ⟨⟨_,D,T,cd.ow.2 ?_,Q⟩,w.self,λe V=>by rw[J];exact w.aE e V⟩ U J;have W:=rQ (enc:=λe:Bx j=>n.hd e.x e.a e.n e.c) (k:=n.k) (λe=>n.hl e.x e.a e.n e.c) (x':=⟨P.x,v,r,F⟩) (v:=.slice v r F) n.ho m i P x (n.fQ ..).symm;rw[<-W,<-H,t];have X:∀k,k<n.k->cs[i*n.k+k]? =(n.hd P.x P.a P.n P.c)[k]? :=λk Y=>by
  obtain⟨Z,A,K⟩:=E.at x;have a0:Z=n.hd P.x P.a P.n P.c:=K.1;rw[<-a0];exact A k Y
 apply X3;intro k;have o:∀l,l<b6->a5[l]? =(n.hd P.x v r F)[l]? :=λl hu=>by rw[C,Xw,Zx hu]
 by_cases A:k<i*n.k
 ·rw[XQ,XW (by rw[Qy];omega),Xw,Zx A,Xj,Zq oM]
 ·by_cases K:k<i*n.k+b6
  ·rw[XQ,X8 (by rw[Qy];omega),XW (by rw[Qy,t];omega),Qy,o _ oM]
   obtain⟨l,rfl⟩:∃l,k=i*n.k+l:=⟨k-i*n.k,oM⟩
   rw[X2 oM,Nat.add_sub_cancel_left,Xj];have u:=n.fQ P.x P.a P.n P.c v r F;split
   ·rename_i q
    have:l=n.o:=oM
    subst this;rw[Zx (by rw[I];have:=n.ho;omega),<-u,Xj,Zx rfl,Zx (by rw[n.hl];exact n.ho)]
   ·rename_i q
    rw[X l oM,<-u,Xj,Zq oM]
  ·rw[X8 (by rw[QX,Qy,t];omega),QX,Qy,t,List.getElem?_drop,Xj,Zq (by have:=n.ho;omega)]
   congr 1
   omega
end Go.aw
namespace Go.aw
open Go
variable{h:Program}{z:ba}
section
variable {α β:Type} {N:fp α β} {w9 w w':World} {a:bc} {n c j:Nat} {L0:List (Bx α)} {e:TypeId}
def dW.step2{f:TypeId}(x:dW N e w9 a n c L0 j w){g:Nat}(o:a=Option.some ⟨g,0,none⟩){b:Bx α}(i:L0[j]? =Option.some b){a':bc}{n' c':Nat}{G:UL}(y:Row N.ci N.ib w G a' n' (N.inner b.x))(A:N.ok b.x)(k:∀P,G P->w9.heap.size<=P/\P<w.heap.size)(U:g<w9.heap.size){hd:List Value}{r:Nat}(C:hd=(N.hd b.x a' n' c').take r)(E:N.o<r)(F:r<=N.k)(H:iA h f hd=true)(l:∀w',dW N e w9 a n c L0 (j+1) w'->aj (λb=>aH a=Option.some b) w w'->w'.heap.size=w.heap.size->z w'):nw h f (.pointer (Option.some ⟨g,0+j*N.k,none⟩)) (.agg hd.toArray) w z:=by
 obtain⟨I,J,K,L,M,p,O,q⟩:=x;have s:I[j]? =Option.some b:=by rw[p j (Q4 _)];exact i
 have Q:=(Qv.1 s).1;have t:∀P,G P->¬aH a=Option.some P:=λP B e=>by
  have:=(k P B).1;rw[o]at e;simp only[aH,Q1]at e;omega
 refine fp.store K s o C E F H λR S d m=>l R ⟨_,λP=>J P\/G P,S,?_,?_,?_,O.then d,?_⟩ d m
 ·rw[List.map_set,L]
  apply X3;intro f;rw[Xj];split
  ·rename_i e;subst e
   rw[Zx (by simpa using(Qv.1 i).1),Q9,i];rfl
  ·rfl
 ·intro u P V B
  rw[Xj]at B
  by_cases v:j=u
  ·subst v
   rw[Zx rfl,Zx Q]at B
   cases B
   exact⟨(y.keep d λP B=>t P B).mono λP B=>.inr B,A⟩
  ·rw[Zq v]at B
   exact((M u P oM B).keep d λP B=>(q P B).2.2).mono λP B=>.inl B
 ·intro T W
  rw[Xj,Zq oM,p T oM]
 ·rintro P (B|B)
  ·rw[m];exact q P B
  ·rw[m];exact⟨(k P B).1,(k P B).2,t P B⟩
end
end Go.aw
namespace Go.Proofs.YtkpomgifkloklabGreatDoor
section
open Go.aw
variable{a c:Nat}{d:bc}
section
variable {w w':World} {p:Nat} {F D:UL} {V:aY}
def Ag{n:List (Bx cN)}(b:Row Ng.kp 120 w D d a n)(e:∀P,D P->P<w.heap.size):be 395 #[.slice d a c] w (Ok (pQ Ng.kp 60 w n)):=
 gX (xg NY dC b e λg w' f=>Ok.mk f)
def FV(c:cH w p F V)(a:V.entries.length<=20000000):be 393 #[RK p] w (Ok (pQ tJ 60 w V.entries)):=by
 obtain⟨X,Y,c⟩:=c;have j:=c.Qu.row (bytes:=120) dC ce;have H:=j.eR;have Z:=j.len;obtain⟨e,v,I,J⟩:=fp.boxes j;have a8:e.length=V.entries.length:=by rw[<-v];simp
 refine sT ⟨p,0,rfl,_,_,_,ae c.at' rfl,PC.ok (Ag I λn a=>c.aE n a.1) ?_⟩;rintro _ x ⟨h,f,y,F9,rfl,i,z,K⟩;have k:∀n,aH h=some n->w.heap.size<=n:=λn a=>K n (i.self n a);have L:∀n,aH h=some n->n<x.heap.size:=λn a=>i.aE n (i.self n a);refine⟨_,_,_,rfl,λA M w'=>∃b:Nat,M=b/\b<=f/\A=f-b/\dW Ng 60 x h f y e b w',⟨_,0,rfl,Qj _,rfl,dW.start i.alone⟩,?_⟩;rintro A _ _ N ⟨b,rfl,hj,rfl,d⟩;have b0:=d.len;have l:ai w N:=z.new d.keep λn a=>.inr (k n a);have zk:=d.keep.size;refine al.dec (λb1=>?_) (λb2=>?_)
 ·obtain⟨g,rfl⟩:=d.some oM
  have b3:=k g rfl;have O:=L g rfl;have m:e[b]? =some e[b]:=Qq oM;have o:=J e[b] (XY oM);generalize e[b]=P at m o;refine⟨g,0,rfl,oM,oM,bT (es:=aF P.x.ev P.a P.n P.c) (k:=10) (bb _ _ _ _) rfl (λq Q=>?_) (PC.ok (o_ (e:=P.x.ev) (o.1.af l) λn a=>by have:=c.aE n a.1;have:=l.size;omega) ?_)⟩
  ·have R:=d.cell rfl m (by show f*13<=aP;unfold aP at H⊢;omega) q
   rw[Qx];have r:q<(aF P.x.ev P.a P.n P.c).length:=Q;rw[Qq r];refine R _ ?_;show(aF P.x.ev P.a P.n P.c++_)[q]? =_;rw[XW r,Qq r]
  rintro _ b4 ⟨s,t,u,G,rfl,S,B,T⟩;refine cu (sx P.x.ev s t u) ⟨rfl,g,0,rfl,oM,oM,?_⟩;rw[Qx];refine(d.af T).step2 (g:=g) rfl m (a':=s) (n':=t) (c':=u) (G:=G) S o.2 (λC E=>⟨by have:=B C E;omega,(B C E).2⟩) O (hd:=aF P.x.ev s t u) (r:=10) rfl dC dC (bb _ _ _ _) λb5 U b6 b7=>⟨_,?_,b+1,an oM,oM,rfl,U⟩
  omega
 ·obtain rfl:b=f:=oM
  obtain⟨Fd,hd,W⟩:=d.done;rw[v]at hd;have z9:=z.size;exact Ok.mk ⟨h,_,y,Fd,rfl,hd,l,λn a=>(W n a).elim (k n) λc=>oM⟩
end
end
section
open Go.aw
def bP(n:eg):List Value:=[WP n.group,WP n.value,WP n.count]
def eg.Ok(n:eg):Prop:=aK n.group/\aK n.value/\aK n.count
def KG:kq eg:=flat 3 bP eg.Ok (λ_=>rfl) (λP a n=>by simp[bP]at n;rcases n with rfl|rfl|rfl<;>rfl)
def Yh:jU LL 42 218 3 24:=⟨kR,kR,dC⟩
variable{Y o:Array Value}{A:FuncId}{e p:Int}{e1:eg}
section
variable {w w':World} {D:UL} {a:bc} {n c:Nat} {l:List eg}
def Cz(b:Row KG 24 w D a n l)(d:∀P,D P->P<w.heap.size):be 182 #[.slice a n c] w (Ok (pQ KG 218 w l)):=
 jG (xg Yh dC b d λf w' e=>Ok.mk e)
def MI{most:Int}(b:Row KG 24 w D a n l)(g:∀d,D d->d<w.heap.size)(u:n<=c):
  be 123 #[.slice a n c,WP most] w (Ok λh w'=>∃e,h= .tuple #[e,.bool (decide ((max most 0).toNat<l.length))]/\pQ KG 218 w (l.take (max most 0).toNat) e w'):=by
 have v:=b.len;have i:(if 0>most then 0 else most)=max most 0:=by split<;>omega
 refine DH ?_;rw[i];obtain⟨P,f⟩:∃P:Nat,(if(n:Int)<max most 0 then(n:Int)else max most 0)=P:=⟨(if(n:Int)<max most 0 then(n:Int)else max most 0).toNat,by split<;>omega⟩
 rw[f];have j:P=min n (max most 0).toNat:=by split at f<;>omega
 rw[Qx];refine⟨oM,oM,oM,PC.ok (Cz (b.take (m:=P) oM) g) ?_⟩;rintro _ x ⟨k,m,o,p,rfl,q,r,s⟩;refine⟨_,_,_,rfl,Ok.mk ⟨_,?_,k,m,o,p,rfl,?_,r,s⟩⟩
 ·have:decide ((P:Int)<(n:Int))=decide ((max most 0).toNat<l.length):=by rw[decide_eq_decide];omega
  rw[this]
 ·have:l.take (max most 0).toNat=l.take P:=by
   rw[j]
   by_cases t:(max most 0).toNat<=n
   ·rw[Nat.min_eq_right t]
   ·rw[X2 oM,Qz oM,Qz oM]
  rw[this];exact q
def JW{a k:Nat}(t:a<=20000000)(i:k<=a)(j:enters LL A=true)(l:∀(b:Nat) d,b<a->ai w d->be A (o++ #[WP (b:Int)]++Y) d (Ok λe w'=>e= .bool (decide (k<=b))/\ai d w')):
  be 121 #[WP (a:Int),.func (.func A) o Y] w (Ok λe w'=>e= WP (k:Int)/\ai w w'):=by
 refine Br ⟨λf b m w'=>∃n P:Nat,b=n/\m=P/\f=P-n/\n<=P/\P<=a/\n<=k/\k<=P/\ai w w',⟨_,0,a,rfl,rfl,rfl,oM,oM,oM,i,aj.refl _⟩,?_⟩;rintro f _ _ _ p ⟨n,P,rfl,rfl,rfl,u,q,r,s,c⟩;refine al.dec (λv=>?_) (λx=>?_)
 ·rw[VT oM]
  refine⟨_,_,_,rfl,j,PC.ok (l _ p oM c) ?_⟩;rintro _ y ⟨rfl,g⟩;refine⟨_,rfl,al.not (al.dec (λh=>⟨_,?_,n,(n+P)/2,rfl,rfl,rfl,oM,oM,r,h,c.then g⟩) (λh=>⟨_,?_,(n+P)/2+1,P,an oM,rfl,rfl,oM,q,oM,s,c.then g⟩))⟩
  ·omega
  ·omega
 ·obtain rfl:n=k:=oM
  exact Ok.mk ⟨rfl,c⟩
def tE{P:Type}(n:P->Bool):∀l:List P,l.dropWhile n=l.drop (posOf n l)
 |[]=>rfl
 |x::l=>by
  unfold posOf;rw[List.dropWhile_cons,List.takeWhile_cons]
  cases a:n x
  ·simp
  ·simpa[posOf]using tE n l
abbrev uT(l:List eg):Prop:=l.Pairwise λa n=>a.group<n.group
def UX{l:List eg}(b:uT l){n:Nat}(P:l[n]? =some e1):decide (posOf (λe1=>decide (e1.group<=e)) l<=n)=decide (e1.group>e):=by
 rw[decide_eq_decide]
 induction l generalizing n with
 |nil=>simp at P
 |cons c l d=>
  obtain⟨f,g⟩:=List.pairwise_cons.1 b;unfold posOf;rw[List.takeWhile_cons]
  by_cases a:c.group<=e
  ·rw[Zy a]
   cases n with
   |zero=>
    simp at P;subst P;simp;omega
   |succ n=>
    have:=d g (by simpa using P);unfold posOf at this;simp only[if_true,Xq];omega
  ·rw[Xv a]
   simp only[Bool.false_eq_true,if_false,ZQ,Qj,true_iff]
   cases n with
   |zero=>simp at P;subst P;omega
   |succ n=>
    have:=f e1 (QZ (by simpa using P));omega
def MJ(j:Row KG 24 w D a n l)(u:∀b,D b->b<w.heap.size)(v:n<=c)(x:uT l)(y:n<=20000000):
  be 70 #[.slice a n c,WP e,WP p] w (Ok λz w'=>∃P,z= .tuple #[P,.bool (oy l e (max p 0).toNat).2]/\pQ KG 218 w (oy l e (max p 0).toNat).1 P w'):=by
 have Q:=j.len;have R:=AE (λP:eg=>decide (P.group<=e)) l;refine GF (PA.mk λS o T k=>PA.mk λU g V A=>⟨_,_,_,ae (g.get k id) rfl,PC.ok (JW (k:=posOf (λP=>decide (P.group<=e)) l) y oM kR λh B W d=>?_) ?_⟩)
 ·have f:=(o.then g).then d
  obtain⟨b,C,X,E,i,-,F,rfl,-⟩:=(j.af f).el h l[h] (Qq oM);have H:l[h]? =some l[h]:=Qq oM;refine Bm ⟨_,_,_,ae (d.get (g.get k id) id) rfl,b,C,E,oM,oM,_,by rw[Qx];exact F 0 dC,_,ae (d.get A id) rfl,λI J=>Ok.mk ⟨?_,J.keep⟩⟩;rw[UX x H]
 ·rintro _ B ⟨rfl,d⟩
  have f:=(o.then g).then d;have m:=(j.af f).part (lo:=posOf (λP=>decide (P.group<=e)) l) (hi:=n) (cap:=c) oM (Q4 _) v;rw[Qz oM]at m;have K:KG.k=3:=rfl;rw[K]at m;refine⟨_,rfl,_,_,_,ae (d.get (g.get k id) id) rfl,oM,oM,?_⟩;rw[Qx];refine PC.ok (MI (most:=p) m (λb i=>by have:=u b i;have:=f.size;omega) oM) ?_;rintro _ I ⟨_,rfl,q,r,s,L,rfl,M,N,O⟩;have t:l.dropWhile (λP=>decide (P.group<=e))=l.drop (posOf (λP=>decide (P.group<=e)) l):=tE _ l;refine⟨_,_,_,_,rfl,Ok.mk ⟨.slice q r s,?_,q,r,s,L,rfl,?_,f.then N,λb i=>by have:=O b i;have:=f.size;omega⟩⟩
  ·unfold oy;rw[t]
  ·unfold oy;rw[t];exact M
end
def tD(n:eg):Value:=.agg (bP n).toArray
def UU(n:eg):iA LL 218 (bP n)=true:=kR
def ZP(n:eg):TF (dL LL 218) (.agg (bP n).toArray)=true:=kR
structure lQ (w:World) (p r:Nat) (R:dP):Prop where
 at':w.heap[p]? =some (.cells #[WP R.p.aX,WP R.p.field,WP R.p.group,WP R.p.FO,WP R.p.make,.map (some r)] 304 (0,0))
 map:bW w r (Value.int .i64) (R.rows.map λx=>(x.1,tD x.2))
 ok:∀x∈R.rows,eg.Ok x.2/\x.2.group=x.1
variable{a c:Nat}{d:bc}{l:ah}{e0:jS}
section
variable {w w':World} {p r:Nat} {R:dP} {T:UL}
def lQ.keep(n:lQ w p r R)(P:aj T w w')(a:¬T p)(b:¬T r):lQ w' p r R:=⟨P.get n.at' a,n.map.keep P b,n.ok⟩
def lQ.af(n:lQ w p r R)(P:ai w w'):lQ w' p r R:=n.keep P id id
def Q_:be 137 #[.agg (oA e0).toArray] w (Ok λa w'=>∃p r,a= RK p/\lQ w' p r ⟨e0,[]⟩/\w.heap.size<=p/\w.heap.size<=r/\p<w'.heap.size/\r<w'.heap.size/\ai w w'):=by
 refine LH (PA.mk λb c i n=>⟨_,_,_,_,_,ae n rfl,ae n rfl,ae n rfl,ae n rfl,ae n rfl,PA.mk λd e j f=>PA.mk λk P l g=>Ok.mk ⟨d.heap.size,b.heap.size,rfl,⟨g,bW.new (P.get f id),λe0 h=>by cases h⟩,oM,oM,oM,oM,(c.then e).then P⟩⟩)
def Hu(n:jS)(a:ah)(P:Int):Option Int:=if n.group=1 then some a.agg else if n.group=2 then some a.arg else if n.group=3 then some P else none
def MK(h:lQ w p r R):be 265 #[RK p,kM l d a c,WP e] w (Ok λi w'=>i= .tuple #[WP ((Hu R.p l e).getD 0),.bool (Hu R.p l e).isSome]/\ai w w'):=by
 refine vE (PA.mk λj n k g=>⟨p,0,rfl,_,ae (h.af n).at' rfl,al.ey (λP=>⟨_,ae g rfl,Ok.mk ⟨?_,n⟩⟩) (λP=>al.ey (λb=>⟨_,ae g rfl,Ok.mk ⟨?_,n⟩⟩) (λb=>al.ey (λf=>Ok.mk ⟨?_,n⟩) (λf=>Ok.mk ⟨?_,n⟩)))⟩)
 ·unfold Hu;rw[Zx P];rfl
 ·unfold Hu;rw[Zq P,Zx b];rfl
 ·unfold Hu;rw[Zq P,Zq b,Zx f];rfl
 ·unfold Hu;rw[Zq P,Zq b,Zq f];rfl
def PU(h:lQ w p r R){arg:Int}:be 266 #[RK p,.agg (bP e1).toArray,WP arg] w (Ok λk w'=>k= WP (mG R.p e1 arg)/\ai w w'):=by
 refine xG (PA.mk λl a o e=>?_);have b:=(h.af a).at';refine⟨_,ae e rfl,p,0,rfl,_,ae b rfl,al.ey (λc=>⟨_,ae e rfl,Ok.mk ⟨?_,a⟩⟩) (λc=>⟨p,0,rfl,_,ae b rfl,al.ey (λd=>⟨_,ae e rfl,Ok.mk ⟨?_,a⟩⟩) (λd=>⟨λj w'=>j=decide (R.p.make=5\/e1.count=1/\(R.p.make=3\/R.p.make=4))/\l=w',?_,?_⟩)⟩)⟩
 ·unfold mG;rw[Zx c]
 ·unfold mG;rw[Zq c,Zx d]
 ·refine⟨p,0,rfl,_,ae b rfl,al.ey (λf=>⟨?_,rfl⟩) (λf=>al.ey (λi=>⟨p,0,rfl,_,ae b rfl,al.ey (λn=>⟨?_,rfl⟩) (λn=>⟨p,0,rfl,_,ae b rfl,?_,rfl⟩)⟩) (λi=>⟨?_,rfl⟩))⟩
  ·rw[Zy (.inl f)];simpa using f
  ·rw[Zy (.inr ⟨i,.inl n⟩)]
  ·by_cases P:R.p.make=4
   ·rw[Zy (.inr ⟨i,.inr P⟩)];simpa using P
   ·rw[Xv (by rintro(h|⟨-,h|h⟩);exact f h;exact n h;exact P h)];simpa using P
  ·rw[Xv (by rintro(h|⟨h,-⟩);exact f h;exact i h)]
 ·rintro j _ _ ⟨m,rfl⟩
  subst m;refine al.dec (λg=>Ok.mk ⟨?_,a⟩) (λg=>⟨p,0,rfl,_,ae b rfl,al.ey (λn=>⟨_,ae e rfl,Ok.mk ⟨?_,a⟩⟩) (λn=>⟨p,0,rfl,_,ae b rfl,al.ey (λP=>⟨_,ae e rfl,Ok.mk ⟨?_,a⟩⟩) (λP=>Ok.mk ⟨?_,a⟩)⟩)⟩)
  ·unfold mG;rw[Zq c,Zq d,Zx g]
  ·have:(if arg<e1.value then arg else e1.value)=min e1.value arg:=by split<;>omega
   unfold mG;rw[Zq c,Zq d,Zq g,Zx n,<-this]
  ·have:(if arg>e1.value then arg else e1.value)=max e1.value arg:=by split<;>omega
   unfold mG;rw[Zq c,Zq d,Zq g,Zq n,Zx P,<-this]
  ·unfold mG;rw[Zq c,Zq d,Zq g,Zq n,Zq P]
end
def SR:mK LL 302 3 218 (tD ⟨0,0,0⟩):=⟨kR,kR⟩
def N_{P d e:Type}[BEq P](a:d->e)(b:P):∀n:List (P×d),au (n.map λc=>(c.1,a c.2)) b=(au n b).map a
 |[]=>rfl
 |(c,f)::n=>by
  simp only[QY];unfold au;split
  ·rfl
  ·exact N_ a b n
def Oa{b c f:Type}[BEq b](P:c->f)(d:b)(e:c):∀a:List (b×c),aI (a.map λn=>(n.1,P n.2)) d (P e)=(aI a d e).map λn=>(n.1,P n.2)
 |[]=>rfl
 |(n,g)::a=>by
  simp only[QY];unfold aI;split
  ·simp
  ·simp[Oa P d e a]
section
variable {w w':World} {p r:Nat} {R:dP}
def dP.add_def(r:dP)(e:cN)(P:Int):r.add e P=match Hu r.p e.ev P with
  |none=>r
  |some n=>if e.void||e.ev.aX !=r.p.aX||e.ev.field !=r.p.field then r else
   {r with rows:=aI r.rows n ⟨n,mG r.p ⟨n,((au r.rows n).getD ⟨0,0,0⟩).value,pW (((au r.rows n).getD ⟨0,0,0⟩).count+1)⟩ e.ev.arg,pW (((au r.rows n).getD ⟨0,0,0⟩).count+1)⟩}:=rfl
def HQ:aK 0:=by unfold aK;omega
def WJ{arg:Int}(n:eg.Ok e1)(P:aK arg):aK (mG e0 e1 arg):=by
 obtain⟨b,c,a⟩:=n;unfold mG;split;exact a;split;exact Nq _;split;exact P;split
 ·unfold aK at*;omega
 split
 ·unfold aK at*;omega
 ·exact HQ
def QP(h:lQ w p r R)(a1:p≠r){x:cN}(v:x.ev.Ok)(a2:aK e):be 208 #[RK p,FP x d a c,WP e] w (Ok λk w'=>k= .tuple #[]/\lQ w' p r (R.add x e)/\aj (·=r) w w'):=by
 have b1:=aA h.at';have b2:=h.map.lt;refine zP (PA.mk λw1 L s1 M=>WK (cs:=aF x.ev d a c) (bb _ _ _ _) M (λa3 k N=>?_) (PC.ok (MK (h.af L)) ?_))
 ·rw[Xz]
  have a4:=(Qv.1 N).1;show(aF x.ev d a c++_).toArray[a3]? =_;simp only[List.getElem?_toArray];rw[XW a4];exact N
 rintro _ O ⟨rfl,Q⟩;have l:=L.then Q;have m:=Q.get M id;have o:=h.af l;have b:R.add x e=R->∀g,bH O g->Ok (λk w'=>k= .tuple #[]/\lQ w' p r (R.add x e)/\aj (·=r) w w') (.returned (.tuple #[])) g:=λhe g i=>Ok.mk ⟨rfl,by rw[he];exact o.af i.keep,ai.keep (l.then i.keep)⟩;refine⟨_,_,rfl,al.not (al.mk (λy=>?_) (λy=>b ?_))⟩
 rotate_left
 ·rw[dP.add_def,show Hu R.p x.ev e=none by simpa using y]
 obtain⟨P,f⟩:=Option.isSome_iff_exists.1 y;rw[f,Option.getD_some];have s:∀{q:dP},(if x.void||x.ev.aX !=R.p.aX||x.ev.field !=R.p.field then R else
   {R with rows:=aI R.rows P ⟨P,mG R.p ⟨P,((au R.rows P).getD ⟨0,0,0⟩).value,pW (((au R.rows P).getD ⟨0,0,0⟩).count+1)⟩ x.ev.arg,pW (((au R.rows P).getD ⟨0,0,0⟩).count+1)⟩})=q->R.add x e=q:=λ{q} z=>by
  rw[dP.add_def,f];exact z
 refine⟨_,ae m rfl,al.mk (λj=>b (s (by rw[j];rfl))) (λj=>⟨_,ae m rfl,p,0,rfl,_,ae o.at' rfl,al.eP (λA=>b (s ?_)) (λA=>⟨_,ae m rfl,p,0,rfl,_,ae o.at' rfl,λg i=>?_⟩)⟩)⟩
 ·rw[j,show(x.ev.aX !=R.p.aX)=true by simpa using A];rfl
 have S:(x.ev.aX !=R.p.aX)=false:=by simpa using A
 have t:ai O g:=i.keep;have u:=o.af t;refine al.eP (λB=>b (s (by rw[j,S,show(x.ev.field !=R.p.field)=true by simpa using B];rfl)) g i) (λB=>?_);have a5:(x.ev.field !=R.p.field)=false:=by simpa using B
 have T:aK P:=by
  unfold Hu at f;split at f
  ·cases f;exact v.agg
  split at f
  ·cases f;exact v.arg
  split at f
  ·cases f;exact a2
  ·cases f
 obtain⟨n,C⟩:∃n,n=(au R.rows P).getD ⟨0,0,0⟩:=⟨_,rfl⟩
 have a6:eg.Ok n:=by
  rw[C]
  cases z:au R.rows P with
  |none=>exact⟨HQ,HQ,HQ⟩
  |some U=>exact(h.ok _ (cz z)).1
 have a7:(au (R.rows.map λx=>(x.1,tD x.2)) P).getD (tD ⟨0,0,0⟩)=tD n:=by
  rw[N_,C];cases au R.rows P<;>rfl
 refine⟨p,0,rfl,_,ae u.at' rfl,Ao SR lC u.map ?_⟩;rw[a7];refine cu (ZP n) ⟨rfl,PA.mk λw4 k4 s4 g4=>aC (UU n) g4 rfl λw5 k5 s5 g5=>PS.mk g5 (by simp[bP]) λw6 k6 s6 V=>⟨_,ae V rfl,PS.mk V (by simp[bP]) λw7 k7 s7 W=>?_⟩⟩;have E:ai g w7:=((k4.new k5 λF H=>.inr oM).new k6 λF H=>.inr oM).new k7 λF H=>.inr oM;have a8:=E.get (t.get m id) id;refine ar (cs:=bP ⟨P,n.value,pW (n.count+1)⟩) (UU _) W ⟨_,ae a8 rfl,PC.ok (PU (u.af E)) ?_⟩;rintro _ w8 ⟨rfl,I⟩;have z8:=I.size;refine⟨_,rfl,PS.mk (I.get W id) (by simp[bP]) λw9 k9 s9 g9=>λX a9=>?_⟩;have Y:ai w9 X:=a9.keep;have Z:ai g X:=((E.then I).new k9 λF H=>.inr oM).then Y;have J:=u.af Z;have z3:=(l.then t).size;refine⟨p,0,rfl,_,ae J.at' rfl,ar (cs:=bP ⟨P,mG R.p ⟨P,n.value,pW (n.count+1)⟩ x.ev.arg,pW (n.count+1)⟩) (UU _) (Y.get g9 id) (dA SR lC J.map λb3 b0 a0 b4=>Ok.mk ⟨rfl,?_,?_⟩)⟩
 ·rw[s (q:={R with rows:=aI R.rows P ⟨P,mG R.p ⟨P,n.value,pW (n.count+1)⟩ x.ev.arg,pW (n.count+1)⟩}) (by rw[j,S,a5,C];rfl)]
  refine⟨a0.get J.at' a1,?_,λU K=>?_⟩
  ·rw[<-Oa];exact b0
  ·rcases fG K with rfl|K
   ·exact⟨⟨T,WJ ⟨T,a6.2.1,Nq _⟩ v.arg,Nq _⟩,rfl⟩
   ·exact h.ok U K
 ·exact(ai.keep ((l.then t).then Z)).then a0
end
section
variable {w w':World} {p r:Nat} {R:dP}
def Om(e:lQ w p r R):be 252 #[RK p] w (Ok λf w'=>∃b d,f= RK b/\lQ w' b d R/\b≠d/\w.heap.size<=b/\w.heap.size<=d/\b<w'.heap.size/\d<w'.heap.size/\ai w w'):=by
 refine xF λP h=>?_;have i:ai w P:=h.keep;have t:P.heap.size=w.heap.size:=by rw[h.heap]
 have a:=e.af i;obtain⟨c,n,k,l,m,o⟩:=a.map.at';refine⟨no,p,0,rfl,id,_,_,_,_,_,ae a.at' rfl,ae a.at' rfl,ae a.at' rfl,ae a.at' rfl,ae a.at' rfl,p,0,rfl,_,ae a.at' rfl,PC.ok (φ:=λf w'=>f= .map (some P.heap.size)/\w'=P.alloc (.map c n)) ((AnyW.maps_Clone Tryz.WL r c n P k).mono ?_) ?_⟩
 ·rintro u w' ⟨rfl,q⟩
  exact Ok.mk ⟨rfl,q⟩
 ·rintro _ v ⟨rfl,rfl⟩
  have j:ai P (P.alloc (.map c n)):=aj.alloc _ _;have x:(P.alloc (.map c n)).heap.size=P.heap.size+1:=sM
  refine⟨_,rfl,ai.keep j,PA.mk λy g z s=>⟨ai.keep g,Ok.mk ⟨_,P.heap.size,rfl,⟨s,⟨⟨c,n,g.get (heap_alloc_new P _) id,l,m,o⟩,e.map.tidy⟩,e.ok⟩,?_⟩⟩⟩;refine⟨oM,oM,oM,oM,oM,(i.then j).then g⟩
end
open Go.aw Go.Sort
def ox{b:Type}{f:Nat}{n:b->List Value}{d:b->Prop}{hl h1}{g:World}{D:UL}:∀{P:List b} {cs:List Value},cd (flat f n d hl h1) g D P cs↔cs=P.flatMap n/\∀x∈P,d x
 |[],cs=>by simp[cd]
 |x::P,cs=>by
  constructor
  ·rintro⟨k,l,rfl,⟨rfl,h⟩,i⟩
   obtain⟨rfl,j⟩:=ox.1 i;exact⟨rfl,λc a=>by rcases Q2.1 a with rfl|a;exact h;exact j c a⟩
  ·rintro⟨rfl,e⟩
   exact⟨n x,P.flatMap n,rfl,⟨rfl,e x (QV ..)⟩,ox.2 ⟨rfl,λc a=>e c (QJ _ a)⟩⟩
section
variable {α:Type} {enc:α->List Value} {K:Nat}
def gy(a:∀P,(enc P).length=K)(n:List α):(n.flatMap enc).length=n.length*K:=by
 induction n with
 |nil=>simp
 |cons P n b=>rw[List.flatMap_cons,QX,b,a,Xq,X7];omega
def lq[Inhabited α](f:0<K)(P:∀c,(enc c).length=K){n:List α}(d:a<n.length*K):(n.flatMap enc)[a]? =(enc n[a/K]!)[a % K]? :=by
 induction n generalizing a with
 |nil=>simp at d
 |cons c n g=>
  rw[List.flatMap_cons]
  by_cases b:a<K
  ·rw[XW (by rw[P];exact b),Nat.div_eq_of_lt b,Nat.mod_eq_of_lt b];rfl
  ·rw[Xq,X7]at d
   rw[X8 (by rw[P];omega),P,g oM];obtain⟨e,rfl⟩:∃e,a=e+K:=⟨a-K,oM⟩
   rw[Nat.add_sub_cancel,Nat.add_div_right _ f,Nat.add_mod_right];simp
def yY[Inhabited α](c:0<K)(b:∀f,(enc f).length=K)(n:List α):(flatK enc K n.toArray).toList=n.flatMap enc:=by
 apply X3;intro P
 by_cases a:P<n.length*K
 ·rw[lq c b a]
  have g:P<(flatK enc K n.toArray).size:=by simpa using a
  have d:=get_flatK enc K n.toArray P (by simpa using a);rw[getElem!_pos _ P g]at d;have e:P % K<(enc n[P/K]!).length:=by rw[b];exact Nat.mod_lt _ c
  rw[Qq (by simpa using a),Qq e]
  congr 1
  rw[Array.getElem_toList,d];rw[getElem!_pos _ _ (by simpa using e)]
  congr 1
  simp
 ·rw[Q7 (by simpa using a),Q7 (by rw[gy b];omega)]
end
instance:Inhabited eg:=⟨⟨0,0,0⟩⟩
def WU(P:eg):∀a∈bP P,a.oneCell'=true:=by
 intro b n;simp only[bP,Q2,List.not_mem_nil,or_false]at n;rcases n with rfl|rfl|rfl<;>rfl
def pH(n:eg):(bP n).length=3:=rfl
def CT(n P:eg):Int:=if n.group<P.group then-1 else 1
def Av(n P:eg):ltOf CT n P=decide (n.group<P.group):=by
 unfold ltOf CT
 by_cases a:n.group<P.group<;>simp[a]
def Yv:SWO (ltOf CT) where
 irrefl x:=by rw[Av];simp
 trans x y z h1 h2:=by rw[Av]at*;simp at*;omega
 ntrans x y z h1 h2:=by rw[Av]at*;simp at*;omega
variable{f:UL}{b:World}
def WV{a c:eg}:be 397 #[.agg (bP a).toArray,.agg (bP c).toArray] b (Ok λe f=>e= WP (CT a c)/\G b f):=by
 refine uz (PA.Yt λi d j g=>PA.Yt λk n l h=>⟨_,ae ((n.keep (S:=λ_=>False)).get g id) rfl,_,ae h rfl,al.dec (λP=>Ok.mk ⟨?_,d.then n⟩) (λP=>Ok.mk ⟨?_,d.then n⟩)⟩)
 ·unfold CT;rw[Zx P]
 ·unfold CT;rw[Zq P]
def PQ{m:List eg}(k:aT KG 218 f b d a c m)(C:m.length<=20000000):
  be 396 #[.slice d a c,.func (.func 397) #[] #[]] b (Ok λM s=>M= .tuple #[]/\∃E:List eg,E.Perm m/\(E.Pairwise λt N=>¬N.group<t.group)/\aT KG 218 f s d a c E/\aj (λu=>aH d=some u) b s):=by
 obtain⟨cs,D,y,Z,hD⟩:=k.body;obtain⟨rfl,O⟩:=ox.1 Z;obtain⟨n,z⟩:∃n,n=m:=⟨m,rfl⟩
 rw[<-z]at y O;have F:=k.len dC;have v:n.length=a:=by rw[F,<-z]
 rcases y.cases with⟨rfl,rfl,rfl,h0⟩|⟨g,h,rfl,w,Q,H,R⟩
 ·have hd:n=[]:=QW v
  refine(AnyF.slices_SortFunc_none Tryz.VQ none 0 _ b).mono ?_;rintro A s ⟨rfl,rfl⟩;exact Ok.mk ⟨rfl,m,List.Perm.refl _,by rw[<-z,hd];exact List.Pairwise.nil,k,aj.refl _⟩
 ·have S:KG.k=3:=rfl
  rw[S]at R H;have a5:flatK bP 3 n.toArray=(n.flatMap bP).toArray:=by rw[<-yY (show 0<3 by decide) pH]
  have hH:HoldsK bP 3 b g 0 n.toArray:=by
   intro i o;rw[size_flatK]at o;simp only[List.size_toArray]at o;have T:i<(n.flatMap bP).length:=by rw[gy pH];exact o
   refine⟨?_,by simp[World.frozen?,w]⟩;have p:(flatK bP 3 n.toArray)[i]! =(n.flatMap bP)[i]:=by
    rw[a5,getElem!_pos _ i (by simpa using T)];simp
   rw[p,Xz];refine ae w ?_;have j:(h.toList.take (a*3))[i]? =some (n.flatMap bP)[i]:=by rw[R];exact Qq T
   rw[Xw,Zx oM]at j;simpa using j
  have C:=y.row;have I:c<=maxLen:=by
   obtain⟨_,a0,_,U,_,_,_,I,_⟩:=y.row.2.resolve_left (by rintro⟨k,_⟩;cases k);simp only[XX]at U;rw[U.2.2];exact I
  have a6:n.toArray.size<4611686018427387904:=by
   simp only[List.size_toArray,v];omega
  have V:=AnyQ.slices_SortFunc Tryz.VQ 3 (λb=>dG _ _ _ kR ⟨_,Tryz.underlying218⟩ b) (λb=>Tryz.sizeOf218 b) bP (λ_=>rfl) WU (CT) Yv 397 #[] g 0 c n.toArray b
   (enters_of Tryz.func397 kR rfl) (λa9 q dk b0 t N=>(WV).mono ?_) hH (aA w) a6
  ·rw[show n.toArray.size=a by simpa using v]at V
   refine V.mono ?_;rintro A s ⟨rfl,e,x,q,hp,hs,rfl⟩;obtain⟨p1,p2,W⟩:=hp;have P:e.size=a:=p1.trans (by simpa using v);have X:e.toList.Perm n:=by
    have p:e.extract 0 a=e:=by rw[<-P];exact Array.extract_size
    have j:n.toArray.extract 0 a=n.toArray:=by rw[show a=n.toArray.size by simpa using v.symm];exact Array.extract_size
    rw[p,j]at W;exact W
   have a2:flatK bP 3 e=(e.toList.flatMap bP).toArray:=by rw[<-yY (show 0<3 by decide) pH]
   have J:(sortWorldK bP 3 b g 0 x e q).heap[g]? =some (.cells (putCells id 0 (flatK bP 3 e) h) 218 (0,0)):=by
    have a7:=aA w;show((Sort.ahead b x).heap.modify g _++q)[g]? =_;rw[Array.getElem?_append_left (by simpa[Sort.ahead]using a7),Array.getElem?_modify,Zx rfl];show Option.map _ b.heap[g]? =_;rw[w];rfl
   have B:aj (λu=>aH (UV g)=some u) b (sortWorldK bP 3 b g 0 x e q):=by
    refine⟨rfl,rfl,rfl,?_,λa1 B F=>?_⟩
    ·show b.heap.size<=((Sort.ahead b x).heap.modify g _++q).size
     simp[Sort.ahead]
    ·show((Sort.ahead b x).heap.modify g _++q)[a1]? =_
     rw[Array.getElem?_append_left (by simpa[Sort.ahead]using B),Array.getElem?_modify,Zq (λA=>F (by rw[A];rfl))]
     rfl
   have a3:(putCells id 0 (flatK bP 3 e) h).size=c*3:=by unfold putCells;rw[Array.size_mapIdx];exact H
   refine Ok.mk ⟨rfl,e.toList,by rw[<-z];exact X,?_,⟨⟨e.toList.flatMap bP,D,⟨⟨?_,.inr ⟨g,c,_,rfl,Qj _,J,Q,I,a3,?_⟩⟩⟩,ox.2 ⟨rfl,λt hx=>?_⟩,hD⟩,k.self,λu C=>Qk (k.aE u C) B.size⟩,B⟩
   ·rw[List.pairwise_iff_getElem]
    intro Y i hi o a8;have p:=hs Y i (Qj _) a8 (by simpa[P]using o);rw[Av,getElem!_pos _ i (by simpa using o),getElem!_pos _ Y (by simpa using hi)]at p;simpa using p
   ·rw[gy pH,XK,P];rfl
   ·apply X3
    intro r;rw[S,Xw];split
    ·rename_i l
     rw[lq (show 0<3 by decide) pH (by rw[XK,P];exact l),<-lq (show 0<3 by decide) pH (by rw[XK,P];exact l)];unfold putCells;have a4:r<h.size:=by rw[H];exact Qk l (Q0 _ Q)
     rw[Array.getElem?_toList,Array.getElem?_mapIdx,X6 a4];simp only[Option.map_some];have K:r<(flatK bP 3 e).size:=by rw[size_flatK,P];exact l
     rw[Zx ⟨Qj _,by rw[Xz];exact K⟩,Nat.sub_zero,getElem!_pos _ r K];have:(flatK bP 3 e)[r]=(e.toList.flatMap bP)[r]'(by rw[gy pH,XK,P];exact l):=by
      have j:=Zj (·[r]?) a2;simp only[List.getElem?_toArray]at j;rw[X6 K,Qq (by rw[gy pH,XK,P];exact l)]at j;exact XJ j
     rw[this];exact(Qq _).symm
    ·rename_i l
     rw[Q7 (by rw[gy pH,XK,P];omega)]
   ·have L:t∈n:=X.mem_iff.1 hx
    exact O t L
  ·rintro A s ⟨M,rfl,rfl,hG⟩
   exact⟨rfl,hG⟩
end
end Go.Proofs.YtkpomgifkloklabGreatDoor
namespace Go.aw
open Go
structure bg (w:World) (F:UL) (cls:Nat->Nat) (C:Nat->World->(UL)->Prop):Prop where
 at':∀k,C k w (λb=>F b/\cls b=k)
 aE:∀b,F b->b<w.heap.size
def mj(n:Nat->World->(UL)->Prop):Prop:=∀P a b G c,n P a G->aj c a b->(∀d,G d->¬c d)->n P b G
section
variable {w w':World} {F T:UL} {cls:Nat->Nat} {C C2:Nat->World->(UL)->Prop}
def bg.keep(a:bg w F cls C)(d:mj C)(b:aj T w w')(e:∀n,F n->¬T n):bg w' F cls C:=
 ⟨λc=>d c w w' _ T (a.at' c) b λn P=>e n P.1,λn P=>Qk (a.aE n P) b.size⟩
def bg.af(n:bg w F cls C)(P:mj C)(a:ai w w'):bg w' F cls C:=n.keep P a λ_ _ n=>n
def bg.HU(g:bg w F cls C)(l:mj C){k:Nat}{G':UL}(f:aj (λn=>F n/\cls n=k) w w')(m:∀n,G' n->F n->cls n=k)(o:∀n,G' n->n<w'.heap.size)(p:C2 k w' G')(q:∀a G,a≠k->C a w' G->C2 a w' G):∃e b,bg w' e b C2/\aj F w w'/\(∀n,e n->((F n/\cls n≠k)\/G' n))/\(∀a,a≠k->(λn=>e n/\b n=a)=λn=>F n/\cls n=a)/\(λn=>e n/\b n=k)=G':=by
 classical
 have h:∀a,a≠k->(λn=>((F n/\cls n≠k)\/G' n)/\(if G' n then k else cls n)=a)=λn=>F n/\cls n=a:=λa d=>by
  funext n
  refine propext ⟨λP=>?_,λP=>?_⟩
  ·by_cases c:G' n
   ·rw[Zx c]at P;exact Zz P.2.symm d
   ·rw[Zq c]at P
    exact⟨(P.1.resolve_right c).1,P.2⟩
  ·have i:cls n≠k:=λr=>d (P.2.symm.trans r)
   rw[Zq λc=>i (m n c P.1)];exact⟨.inl ⟨P.1,i⟩,P.2⟩
 have j:(λn=>((F n/\cls n≠k)\/G' n)/\(if G' n then k else cls n)=k)=G':=by
  funext n
  refine propext ⟨λP=>?_,λP=>⟨.inr P,Zx P⟩⟩
  by_cases c:G' n
  ·exact c
  ·rw[Zq c]at P;exact Zz P.2 (P.1.resolve_right c).2
 refine⟨λn=>(F n/\cls n≠k)\/G' n,λn=>if G' n then k else cls n,⟨λa=>?_,λn P=>?_⟩,f.mono λn _ P=>P.1,λn P=>P,h,j⟩
 ·by_cases d:a=k
  ·subst d
   rw[j];exact p
  ·rw[h a d]
   refine q a _ d (l a w w' _ _ (g.at' a) f λn P s=>d (P.2.symm.trans s.2))
 ·rcases P with P|P
  ·exact Qk (g.aE n P.1) f.size
  ·exact o n P
def bg.fm(c:bg w F cls C)(h:mj C){k:Nat}{G':UL}(i:aj (λn=>F n/\cls n=k) w w')(e:∀n,G' n->(F n/\cls n=k)\/w.heap.size<=n)(j:∀n,G' n->n<w'.heap.size)(d:C2 k w' G')(l:∀a G,a≠k->C a w' G->C2 a w' G):∃b P,bg w' b P C2/\cm F w b w'/\(∀n,b n->((F n/\cls n≠k)\/G' n))/\(∀a,a≠k->(λn=>b n/\P n=a)=λn=>F n/\cls n=a)/\(λn=>b n/\P n=k)=G':=by
 obtain⟨b,P,f,d,g,m⟩:=c.HU h i (λn o p=>(e n o).elim (·.2) λf=>by have:=c.aE n p;omega) j d l;exact⟨b,P,f,⟨d,λn q=>(g n q).elim (λc=>.inl c.1) λc=>(e n c).imp (·.1) id⟩,g,m⟩
def bg.same(c:bg w F cls C)(e:mj C){k:Nat}(d:aj (λn=>F n/\cls n=k) w w')(f:C2 k w' (λn=>F n/\cls n=k))(g:∀P G,P≠k->C P w' G->C2 P w' G):bg w' F cls C2:=
 ⟨λP=>by
  by_cases a:P=k
  ·subst a;exact f
  ·exact g P _ a (e P w w' _ _ (c.at' P) d λn b h=>a (b.2.symm.trans h.2)),λn b=>Qk (c.aE n b) d.size⟩
def bg.nh(d:bg w F cls C)(e:mj C){k:Nat}{G':UL}(c:cm (λn=>F n/\cls n=k) w G' w')(f:∀n,G' n->n<w'.heap.size)(g:C2 k w' G')(h:∀a G,a≠k->C a w' G->C2 a w' G):∃b P,bg w' b P C2/\cm F w b w'/\(∀n,b n->((F n/\cls n≠k)\/G' n))/\(∀a,a≠k->(λn=>b n/\P n=a)=λn=>F n/\cls n=a)/\(λn=>b n/\P n=k)=G':=d.fm e c.1 c.2 f g h
def bg.join{G:Nat->UL}(a:∀n,C n w (G n))(g:∀d e P,G d P->G e P->d=e)(h:∀n P,G n P->P<w.heap.size):∃cls,bg w (λP=>∃n,G n P) cls C:=by
 classical
 refine⟨λP=>if a:∃n,G n P then a.choose else 0,⟨λn=>?_,λP ⟨n,b⟩=>h n P b⟩⟩;have:(λP=>(∃n,G n P)/\(if a:∃n,G n P then a.choose else 0)=n)=G n:=by
  funext P
  refine propext ⟨λ⟨c,f⟩=>?_,λb=>⟨⟨n,b⟩,?_⟩⟩
  ·rw[dif_pos c]at f;exact f▸c.choose_spec
  ·have c:∃n,G n P:=⟨n,b⟩
   rw[dif_pos c];exact g _ _ P c.choose_spec b
 rw[this];exact a n
end
end Go.aw
namespace Go.Proofs.YtkpomgifkloklabGreatDoor
open Go.aw
def Yi:kq Nat:=flat 1 (λP=>[RK P]) (λ_=>True) (λ_=>rfl) (λa b n=>by simp at n;subst n;rfl)
def QM:jU LL 234 241 1 8:=⟨kR,kR,dC⟩
structure cI (w:World) (G:UL) (a:bc) (n c:Nat) (Rs:List dP):Prop where
 body:∃ps:List (Nat×Nat),ps.length=Rs.length/\aT Yi 241 (λb=>aH a=some b) w a n c (ps.map (·.1))/\
  (∀(i j:Nat) (x y:Nat×Nat),ps[i]? =some x->ps[j]? =some y->x.1≠y.2/\(x.2=y.2->i=j))/\(∀x∈ps,G x.1/\G x.2/\aH a≠some x.1/\aH a≠some x.2)/\
  ∀(i:Nat) (x:Nat×Nat) (R:dP),ps[i]? =some x->Rs[i]? =some R->lQ w x.1 x.2 R
 self:∀b,aH a=some b->G b
variable{H:Nat×Nat}{h:Program}{g q:TypeId}{m t:ac}
section
variable {w w':World} {G G' T:UL} {a:bc} {n c:Nat} {Rs:List dP}
def cI.keep(b:cI w G a n c Rs)(h:aj T w w')(d:∀P,G P->¬T P):cI w' G a n c Rs:=by
 obtain⟨i,j,k,l,e,m⟩:=b.body;exact⟨⟨i,j,k.keep h λP o=>d P (b.self P o),l,e,λp f q g r=>(m p f q g r).keep h (d _ (e f (QZ g)).1) (d _ (e f (QZ g)).2.1)⟩,b.self⟩
def cI.af(P:cI w G a n c Rs)(b:ai w w'):cI w' G a n c Rs:=P.keep b λ_ _ P=>P
def cI.mono(g:cI w G a n c Rs)(b:∀P,G P->G' P):cI w G' a n c Rs:=by
 obtain⟨h,i,j,k,d,l⟩:=g.body;exact⟨⟨h,i,j,k,λe f=>⟨b _ (d e f).1,b _ (d e f).2.1,(d e f).2.2⟩,l⟩,λP m=>b P (g.self P m)⟩
def cI.len(P:cI w G a n c Rs):n=Rs.length:=by
 obtain⟨e,b,d,-⟩:=P.body;rw[d.len dC,Q8,b]
def cI.nil(w:World):cI w (λ_=>False) none 0 0 []:=⟨⟨[],rfl,(aT.nil w).mono (λP n=>n.elim) (λP n=>by cases n),sM,sM,sM⟩,λP n=>by cases n⟩
def cI.elem(m:cI w G a n c Rs){P:Nat}{o:dP}(u:Rs[P]? =some o):∃f e g,a=UV f/\w.cell? ⟨f,0+P,none⟩=some (RK e)/\lQ w e g o/\e≠g/\G e/\G g/\G f/\
  ∀w' p,aj (·=g) w w'->lQ w' e g p->cI w' G a n c (Rs.set P p):=by
 obtain⟨h,B,v,j,x,y⟩:=m.body;have L:=(Qv.1 u).1;have b:h[P]? =some h[P]:=Qq oM;generalize h[P]=d at b;obtain⟨cs,D,C,E,M⟩:=v.body;have q:=x d (QZ b);obtain⟨rfl,-⟩:=ox.1 E;have F:((h.map (·.1)).flatMap λe=>[Value.pointer (UV e)])[P]? =some (RK d.1):=by
  rw[lq (K:=1) dC (λ_=>rfl) cS,Nat.div_one,Nat.mod_one,getElem!_pos _ P cS];simp[(Qv.1 b).2]
 obtain⟨f,z,H⟩:=C.cell F;refine⟨f,d.1,d.2,z,by rw[Xz];exact H.2,y P d o b u,(j P P d d b b).1,q.1,q.2.1,m.self f (by rw[z];rfl),λw' p A I=>⟨⟨h,by simpa using B,v.keep A λN J r=>q.2.2.2 (r▸J),j,x,λk s K i l=>?_⟩,m.self⟩⟩
 by_cases t:P=k
 ·subst t
  rw[b]at i;cases i
  rw[List.getElem?_set_self oM]at l;cases l
  exact I
 ·rw[List.getElem?_set_ne t]at l
  exact(y k s K i l).keep A (j k P s d i b).1 λr=>t ((j P k d s b i).2 r.symm)
def cI.push(r:cI w G a n c Rs)(I:∀P,G P->P<w.heap.size){e f M:Nat}{N:dP}(J:lQ w e f N)(Q:¬G e)(v:¬G f)(X:e≠f)(Y:jU h g 241 1 8)(Z:w.heap[M]? =some (.cells #[RK e] 241 H))(b:Rs.length<=1000)(K:∀k y w' G',cI w' G' k (n+1) y (Rs++[N])->aj G w w'->(∀P,G' P->G P\/P=e\/P=f\/w.heap.size<=P)->(∀P,G' P->P<w'.heap.size)->m (.slice k (n+1) y) w'):
  aJ h (Builtin.append_ #[g,g] q #[.slice a n c,.slice (UV M) 1 1]) w m t:=by
 obtain⟨l,o,L,h3,z,h5⟩:=r.body;have a1:e<w.heap.size:=aA J.at';have a2:f<w.heap.size:=J.map.lt;refine fN L Y Z (D:=λ_=>False) (x:=e) ⟨rfl,trivial⟩ (λP b=>b.elim) (by unfold aP;simp;omega) (by unfold maxLen;simp;omega) λk y w' F' R A hF=>?_;have a0:∀P,aH k=some P->aH a=some P\/w.heap.size<=P:=λP b=>(hF P (R.self P b)).imp id λr=>r.resolve_left id;have s:=R.alone;have a5:=A.size;have S:∀P,aH k=some P->aH a=some P\/w.heap.size<=P:=a0;have C:∀P,P<w.heap.size->aH a≠some P->aH k≠some P:=λP b o L=>(S P L).elim o oM;have T:aH a≠some e:=λj=>Q (r.self e j);have U:aH a≠some f:=λj=>v (r.self f j);refine K k y w' (λP=>(G P\/P=e\/P=f\/aH k=some P)) ⟨⟨l++[(e,f)],by simp[o],by rw[Q3];exact s,λi V x u B F=>?_,λx B=>?_,λi x a3 B p=>?_⟩,λP b=>.inr (.inr (.inr b))⟩ (A.mono λP _ b=>r.self P b) (λP b=>?_) λP b=>?_
 ·have E:∀i x,(l++[(e,f)])[i]? =some x->(l[i]? =some x)\/(i=l.length/\x=(e,f)):=λi x B=>by
   rw[List.getElem?_append]at B;split at B
   ·exact .inl B
   ·rename_i W
    have:i-l.length=0:=by
     rcases Nat.eq_zero_or_pos (i-l.length)with O|O
     ·exact O
     ·rw[Q7 cS]at B;cases B
    rw[this]at B;simp at B;exact .inr ⟨oM,B.symm⟩
  rcases E i x B with B|⟨rfl,rfl⟩<;>rcases E V u F with F|⟨rfl,rfl⟩
  ·exact h3 i V x u B F
  ·have d:=z x (QZ B)
   exact⟨λj=>v ((show x.1=f from j)▸d.1),λj=>Zz ((show x.2=f from j)▸d.2.1) v⟩
  ·have d:=z u (QZ F)
   exact⟨λj=>Q ((show e=u.2 from j)▸d.2.1),λj=>Zz ((show f=u.2 from j)▸d.2.1) v⟩
  ·exact⟨X,λ_=>rfl⟩
 ·rcases Q6.1 B with B|B
  ·have d:=z x B
   exact⟨.inl d.1,.inl d.2.1,C _ (I _ d.1) d.2.2.1,C _ (I _ d.2.1) d.2.2.2⟩
  ·simp at B;subst B
   exact⟨.inr (.inl rfl),.inr (.inr (.inl rfl)),C _ a1 T,C _ a2 U⟩
 ·rw[List.getElem?_append]at B p
  rw[<-o]at p;split at B
  ·rename_i a4
   rw[Zx a4]at p;have d:=z x (QZ B);exact(h5 i x a3 B p).keep A d.2.2.1 d.2.2.2
  ·rename_i W
   rw[Zq W]at p;have:i-l.length=0:=by
    rcases Nat.eq_zero_or_pos (i-l.length)with O|O
    ·exact O
    ·rw[Q7 cS]at B;cases B
   rw[this]at B p;simp at B p;subst B p;exact J.keep A T U
 ·rcases b with b|b|b|b
  ·exact .inl b
  ·exact .inr (.inl b)
  ·exact .inr (.inr (.inl b))
  ·rcases S P b with o|o
   ·exact .inl (r.self P o)
   ·exact .inr (.inr (.inr o))
 ·rcases b with b|b|b|b
  ·have:=I P b;omega
  ·omega
  ·omega
  ·exact s.aE P b
def cPt:kq (List dP) where
 k:=2
 rep:=λw D Rs cs=>∃P a n c,cs=[.pointer P,.slice a n c]/\cI w D a n c Rs
 keep:=λ⟨P,a,n,c,b,d⟩ g e=>⟨P,a,n,c,b,d.keep g e⟩
 mono:=λ⟨P,a,n,c,b,d⟩ e=>⟨P,a,n,c,b,d.mono e⟩
 len:=λ⟨P,a,n,c,b,d⟩=>by rw[b];rfl
 one:=λ⟨P,a,n,c,b,d⟩ h f=>by
  rw[b]at f;simp only[Q2,List.not_mem_nil,or_false]at f;rcases f with rfl|rfl<;>rfl
def Xf:jU LL 237 236 2 32:=⟨kR,kR,dC⟩
end
def KI(n:aR)(P:List ah)(a:ah):ez n (P++[a])=(ez n P).add a:=by unfold ez;rw[List.foldl_append];rfl
def KK(n:aR)(P:List ah)(a:ah):bR n (P++[a])=((bR n P).add a).2:=by unfold bR;rw[List.foldl_append];rfl
def KJ(a:aR)(n:List ah):(ez a n).view=bR a n:=by
 have:∀(n:List ah) (P:kN),(n.foldl kN.add P).view=n.foldl (λc b=>(c.add b).2) P.view:=by
  intro n
  induction n with
  |nil=>intro P;rfl
  |cons b n d=>intro P;rw[List.foldl_cons,List.foldl_cons,d];rfl
 exact this n _
variable{o:Array Value}{y:am}{e:Int}{I:List ah}{g4:List dP}{a c:Nat}{d:bc}{b:World}{S:aR}{d9:aY}{e0:jS}
def HY(c:dj S=0)(P:List ah):(bR S P).OK/\(bR S P).decl=S:=by
 have:∀(P:List ah) (n:aY),n.OK->(P.foldl (λn a=>(n.add a).2) n).OK/\(P.foldl (λn a=>(n.add a).2) n).decl=n.decl:=by
  intro P
  induction P with
  |nil=>intro n b;exact⟨b,rfl⟩
  |cons a P d=>
   intro n b;obtain⟨e,f⟩:=aY.AA b a;obtain⟨g,h⟩:=d _ e;exact⟨g,h.trans f⟩
 exact this P _ (aY.tL c)
def dP.Xg(P:dP)(a:cN)(n:Int):(P.add a n).p=P.p:=by
 unfold dP.add;dsimp only;split
 ·rfl
 ·split<;>rfl
def HT(c:aR)(n:List ah):(ez c n).rows.map (·.p)=c.projs:=by
 have:∀(n:List ah) (P:kN),(n.foldl kN.add P).rows.map (·.p)=P.rows.map (·.p):=by
  intro n
  induction n with
  |nil=>intro P;rfl
  |cons a n d=>
   intro P;rw[List.foldl_cons,d];show((P.rows.map λb=>b.add (P.view.add a).1 (s_ ((P.view.add a).2.state a.aX a.agg) b.p)).map (·.p))=_;rw[List.map_map];exact List.map_congr_left λb _=>b.Xg _ _
 refine(this n _).trans ?_;show(c.projs.map λe=>(⟨e,[]⟩:dP)).map (·.p)=_;rw[List.map_map];exact List.map_id _
def qv(n:aR)(P:List ah):(ez n P).rows.length=n.projs.length:=by
 rw[<-HT n P,Q8]
def kY(a:aR)(n:Nat)(P:List ah):List (List dP):=(List.range (P.length/n+1)).map λb=>(ez a (P.take (b*n))).rows
section
variable {d:aR} {every:Nat} {l:List ah}
def Ay:(kY d every l).length=l.length/every+1:=by simp[kY]
def QS(n:a<=l.length/every):(kY d every l)[a]? =some (ez d (l.take (a*every))).rows:=by
 unfold kY;rw[Q9,List.getElem?_range oM];rfl
def Ra:kY d every []=[(ez d []).rows]:=by
 unfold kY;rw[ZQ,Nat.zero_div];simp
def On(c:0<every)(e:ah):kY d every (l++[e])=if l.length+1=(l.length/every+1)*every then kY d every l++[(ez d (l++[e])).rows]else kY d every l:=by
 have g:=Nat.div_add_mod l.length every;have h:=Nat.mod_lt l.length c;have P:∀n,n<=l.length/every->(l++[e]).take (n*every)=l.take (n*every):=λn a=>by
  have:n*every<=l.length:=Xx (Q0 _ a) (Nat.div_mul_le_self ..);rw[List.take_append_of_le_length this]
 split
 ·rename_i b
  have f:(l.length+1)/every=l.length/every+1:=by rw[b];exact Nat.mul_div_cancel _ c
  unfold kY;rw[QX,List.length_singleton,f,List.range_succ,Q3]
  congr 1
  ·refine List.map_congr_left λn a=>?_
   rw[P n (by have:=List.mem_range.1 a;omega)]
  ·rw[List.map_singleton,<-b,Qz sM]
 ·rename_i b
  have f:(l.length+1)/every=l.length/every:=by
   have i:(l.length+1)/every<l.length/every+1:=by
    rw[Nat.div_lt_iff_lt_mul c];rw[X7,Nat.one_mul,Nat.mul_comm]at b⊢;omega
   have j:l.length/every<=(l.length+1)/every:=Nat.div_le_div_right oM;omega
  unfold kY;rw[QX,List.length_singleton,f];refine List.map_congr_left λn a=>?_;rw[P n (by have:=List.mem_range.1 a;omega)]
def Ot(P:0<every)(b:a<=l.length/every):(kY d every l).take (a+1)=kY d every (l.take (a*every)):=by
 have c:a*every<=l.length:=Xx (Q0 _ b) (Nat.div_mul_le_self ..);unfold kY;rw[Qy,X2 c,Nat.mul_div_cancel _ P,<-List.map_take,List.take_range,X2 oM];refine List.map_congr_left λe f=>?_;have n:e<=a:=by have:=List.mem_range.1 f;omega
 rw[List.take_take,X2 (Q0 _ n)]
end
structure wX where
 ta:bc
 tn:Nat
 tc:Nat
 pa:bc
 pn:Nat
 pc:Nat
 every:Nat
 ea:bc
 en:Nat
 ec:Nat
 vp:Nat
 ra:bc
 rn:Nat
 rc:Nat
 qa:bc
 qn:Nat
 qc:Nat
abbrev wX.cells(n:wX):Array Value:= #[.slice n.ta n.tn n.tc,.slice n.pa n.pn n.pc,WP (n.every:Int),.slice n.ea n.en n.ec,RK n.vp,.slice n.ra n.rn n.rc,.slice n.qa n.qn n.qc]
def Aw(b:Nat)(c:Array Value)(n:wX)(d:aR)(e:aY)(f:List dP)(g:List ah)(a:List (List dP)):Nat->World->(UL)->Prop
 |0=>λP G=>G b/\P.heap[b]? =some (.cells c 239 (0,0))
 |1=>λP G=>bt P G d n.ta n.tn n.pa n.pn
 |2=>λP G=>aT jh 57 G P n.ea n.en n.ec g
 |3=>λP G=>cH P n.vp G e
 |4=>λP G=>cI P G n.ra n.rn n.rc f
 |5=>λP G=>aT cPt 236 G P n.qa n.qn n.qc a
 |_=>λ_ _=>True
def dS{d:wX}{c:List (List dP)}:mj (Aw a o d S d9 g4 I c):=by
 intro k e w' G f n P b
 match k,n with
 |0,n=>exact⟨n.1,P.get n.2 (b a n.1)⟩
 |1,n=>exact bt.keep n P b
 |2,n=>exact aT.keep n P b
 |3,n=>exact cH.keep n P b
 |4,n=>exact cI.keep n P b
 |5,n=>exact aT.keep n P b
 |k+6,n=>trivial
abbrev et(b:World)(c:UL)(n:Nat->Nat)(d:Nat)(a:wX)(e:aR)(f:aY)(g:List dP)(h:List ah)(P:List (List dP)):Prop:=bg b c n (Aw d a.cells a e f g h P)
section
variable {w w':World} {p:Nat} {F T D:UL} {cls:Nat->Nat} {q:wX} {d:aR} {V:aY} {Rs:List dP} {l:List ah} {pts:List (List dP)}
def et.af(n:et w F cls p q d V Rs l pts)(P:ai w w'):et w' F cls p q d V Rs l pts:=bg.af n dS P
def et.bw(n:et w F cls p q d V Rs l pts):w.heap[p]? =some (.cells q.cells 239 (0,0)):=(n.at' 0).2
def et.self(n:et w F cls p q d V Rs l pts):F p/\cls p=0:=(n.at' 0).1
def Eg(s:et w F cls p q d V Rs l pts)(hd:dj d=0)(hT:fy w)(hl:l.length<=20000000){vp:bc}{y:bc}(hr:cI w D y a c g4)(hD:∀n,D n->n<w.heap.size)(hn:g4.length<=8):
  be 187 #[RK p,.agg #[.pointer vp,.slice y a c]] w (Ok λT w'=>∃g y a c e G,T= .agg #[RK g,.slice y a c]/\cH w' g e (bR d l)/\cI w' G y a c g4/\(∀n,e n->w.heap.size<=n)/\(∀n,G n->w.heap.size<=n/\n<w'.heap.size/\¬e n)/\ai w w'):=by
 have U:=s.aE;have g7:=hr.len;refine tG (PA.mk λt k5 s5 g5=>PA.mk λz k6 s6 g6=>?_);have A:=k5.then k6;have c1:∀{i:World},ai w i->Row jh 96 i (λn=>F n/\cls n=2) q.ea q.en l:=λ{i} u=>((show aT jh 57 (λn=>F n/\cls n=2) w q.ea q.en q.ec l from s.at' 2).af u).row dC ce;have m:∀{i:World},ai w i->be 60 #[.agg #[.slice q.ta q.tn q.tc,.slice q.pa q.pn q.pc],.slice q.ea q.en q.ec] i (Ok λT w'=>∃p F,T= RK p/\cH w' p F (bR d l)/\(∀n,F n->i.heap.size<=n)/\ai i w'):=λ{i} u=>
  HO hd (hT.af u) (show bt i (λn=>F n/\cls n=1) d q.ta q.tn q.pa q.pn from bt.keep (s.at' 1) u λ_ _ s=>s) (λn P=>by have:=U n P.1;have:=u.size;omega) (c1 u) (λn P=>by have:=U n P.1;have:=u.size;omega) hl
 refine⟨λh oo w'=>oo=0/\∃g e,w'.heap[h]? =some (.cells #[RK g,.slice none 0 0] 236 (0,0))/\cH w' g e (bR d l)/\(∀n,e n->z.heap.size<=n)/\¬e h/\z.heap.size<=h/\ai z w',?_,?_⟩
 ·intro o d9
  have v:ai z o:=d9.keep;have s9:o.heap.size=z.heap.size:=by rw[d9.heap]
  have W:=(s.af (A.then v)).bw;have zp:=U p s.self.1;have nS:¬o.heap.size<=p:=by have:=(A.then v).size;omega
  refine⟨λn=>o.heap.size<=n,p,0,rfl,nS,_,_,_,_,_,_,ae W rfl,ae W rfl,p,0,rfl,nS,_,_,_,ae W rfl,PC.ok (m (A.then v)) ?_,PA.mk λg8 X g9 d3=>⟨ai.keep X,PC.ok (m ((A.then v).then X)) ?_⟩⟩
  ·rintro _ J ⟨g,e,rfl,r,B,Y⟩
   refine⟨_,rfl,ai.keep Y,PA.mk λd4 Z h0 d5=>⟨ai.keep Z,PS.mk d5 sM λh2 d6 h3 d7=>PS.mk d7 sM λd8 e0 h4 e1=>?_⟩⟩;have C:=r.aE;have h5:=Y.size;have f:aj (λn=>n=J.heap.size) d4 d8:=d6.then e0;refine⟨f.mono λn _ b=>by have b:n=J.heap.size:=b;omega,rfl,g,e,e1,(r.af Z).keep f λn P b=>by have b:n=J.heap.size:=b;have:=C n P;omega,λn P=>by have:=B n P;omega,λP=>by have:=C _ P;omega,oM,((v.then Y).then Z).new f λn P=>.inr (by have P:n=J.heap.size:=P;omega)⟩
  ·rintro _ e2 ⟨g,e,rfl,r,B,K⟩
   have e3:=K.get d3 id;have C:=r.aE;have h6:=K.size;refine⟨_,rfl,ai.keep K,PS.mk e3 sM λh7 e4 h8 e5=>PS.mk e5 sM λe6 e7 h9 e8=>?_⟩;have f:aj (λn=>n=o.heap.size) e2 e6:=e4.then e7;refine⟨f.mono λn _ b=>by have b:n=o.heap.size:=b;omega,rfl,g,e,e8,r.keep f λn P b=>by have b:n=o.heap.size:=b;have:=B n P;omega,λn P=>by have:=B n P;omega,λP=>by have:=B _ P;omega,oM,((v.then X).then K).new f λn P=>.inr (by have P:n=o.heap.size:=P;omega)⟩
 rintro h _ _ L ⟨rfl,g,e,E,r,c4,e9,c0,M⟩;have a5:=A.then M;have i0:=M.size;have a3:h<L.heap.size:=aA E;have C:=r.aE;have c5:=M.get (k6.get g5 id) id;have c6:=M.get g6 id;refine⟨_,_,_,ae c5 rfl,λa2 a4 w'=>∃j:Nat,a4=j/\j<=a/\a2=a-j/\∃N H O G,w'.heap[h]? =some (.cells #[RK g,.slice N H O] 236 (0,0))/\cI w' G N H O (g4.take j)/\(∀n,G n->L.heap.size<=n/\n<w'.heap.size)/\aj (·=h) L w',
  ⟨_,0,rfl,Qj _,rfl,none,0,0,λ_=>False,E,cI.nil _,λn P=>P.elim,aj.refl _⟩,?_⟩
 rintro a2 _ _ I ⟨j,rfl,hj,rfl,N,H,O,G,Q,R,k,x⟩;have i1:=x.size;refine al.dec (λi2=>?_) (λi3=>?_)
 ·have f2:j<g4.length:=oM
  have hx:g4[j]? =some g4[j]:=Qq f2;generalize g4[j]=c2 at hx;obtain⟨a7,pj,rj,ha,a0,hR,a8,a9,b0,-,-⟩:=((hr.af a5).keep x λn P b=>by have b:n=h:=b;have:=hD n P;omega).elem hx;have f4:=R.len;rw[Qy,X2 oM]at f4;refine⟨a7,0,ha,oM,oM,_,by rw[Qx];exact a0,λc7 c8=>⟨λ_=>False,id,?_⟩⟩;have b2:ai I c7:=c8.keep;have i4:c7.heap.size=I.heap.size:=by rw[c8.heap]
  refine⟨_,_,_,ae (b2.get Q id) rfl,PC.ok (Om (hR.af b2)) ?_⟩;rintro _ i5 ⟨p',r',rfl,f5,f7,i6,i7,i8,i9,b3⟩;have j0:=b3.size;refine⟨_,rfl,b3,PA.mk λj1 b4 j2 f9=>⟨b4,?_⟩⟩;have a1:=(b2.then b3).then b4;refine(R.af a1).push (λn P=>by have:=(k n P).2;omega) (f5.af b4) (λP=>by have:=(k _ P).2;omega) (λP=>by have:=(k _ P).2;omega) f7 QM f9 (by rw[Qy];omega) λb1 c3 j3 G3 g0 b5 g1 c9=>⟨_,_,_,rfl,?_⟩
  have j4:=b5.size;have b6:=b5.get (a1.get Q id) λP=>by have:=(k _ P).1;omega
  have a6:∀n,G3 n->L.heap.size<=n:=λn P=>by
   rcases g1 n P with S|S|S|S
   ·exact(k n S).1
   ·omega
   ·omega
   ·omega
  refine PS.mk b6 sM λj5 d0 j6 g2=>⟨_,oM,j+1,an oM,oM,rfl,b1,H+1,c3,G3,g2,?_,λn P=>⟨a6 n P,by have:=c9 n P;omega⟩,?_⟩
  ·rw[Qw,hx]
   exact g0.keep d0 λn P b=>by have b:n=h:=b;have:=a6 n P;omega
  ·exact((x.af a1).new b5 λn P=>.inr (k n P).1).then d0
 ·rw[Qz oM]at R
  have d1:=x.get c6 λb=>by have b:t.heap.size=h:=b;omega
  refine⟨_,_,_,_,ae Q rfl,ae Q rfl,PS.mk d1 sM λj7 b7 j8 g3=>PS.mk g3 sM λb8 b9 j9 d2=>⟨_,_,_,_,ae d2 rfl,ae d2 rfl,Ok.mk ⟨g,N,H,O,e,G,rfl,?_,?_,λn P=>by have:=c4 n P;omega,λn P=>⟨?_,?_,?_⟩,?_⟩⟩⟩
  ·have f:aj (λn=>n=t.heap.size) I b8:=b7.then b9
   exact(r.keep x λn P b=>e9 ((show n=h from b)▸P)).keep f λn P b=>by have b:n=t.heap.size:=b;have:=c4 n P;omega
  ·have f:aj (λn=>n=t.heap.size) I b8:=b7.then b9
   exact R.keep f λn P b=>by have b:n=t.heap.size:=b;have:=k n P;omega
  ·have:=k n P;omega
  ·have:=k n P;omega
  ·intro hf;have:=k n P;have:=C n hf;omega
  ·have f:aj (λn=>n=t.heap.size) I b8:=b7.then b9
   exact(a5.new x λn P=>.inr (by have P:n=h:=P;omega)).new f λn P=>.inr (by have P:n=t.heap.size:=P;omega)
end
section
variable {w w':World} {p:Nat} {F T D:UL} {cls:Nat->Nat} {q:wX} {d:aR} {V:aY} {Rs:List dP} {l:List ah} {pts:List (List dP)}
def CZ{b:ah}{d:bc}{w:World}{D:UL}(h:Row aO 8 w D d a b.aM)(s:∀n,D n->n<w.heap.size):
  be 209 #[kM b d a c] w (Ok λt w'=>∃d a c G,t=kM b d a c/\Row aO 8 w' G d a b.aM/\(∀n,G n->w.heap.size<=n/\n<w'.heap.size)/\ai w w'):=by
 have u:=h.eR;have v:=h.len;refine zi (PA.mk λz l A e=>PA.mk λB f C i=>⟨_,_,_,ae (f.get e id) rfl,PC.ok (bV (h.af (l.then f)) λn P=>by have:=s n P;omega) ?_⟩);rintro _ E ⟨m,o,p,G,rfl,q,g,j⟩;have e:=g.get (f.get e id) id;have i:=g.get i id;refine⟨_,_,_,rfl,PS.mk e (by simp[aF]) λF k H x=>?_⟩;refine ar (cs:=aF b m o p) (bb _ _ _ _) x (aC (bb _ _ _ _) (k.get i oM) rfl λI r J y=>ar (bb _ _ _ _) y (Ok.mk ⟨m,o,p,G,rfl,?_,?_,?_⟩))
 ·refine(((q.keep k λn P=>?_).keep r λn P=>?_).row (bytes:=8) dC (by rw[<-v];exact u))
  ·have:=j n P;omega
  ·have:=j n P;omega
 ·intro n P
  have:=j n P;have:=q.aE n P;omega
 ·have K:=g.size
  exact((aj.new ((l.then f).then g) k λn P=>.inr oM).new r λn P=>.inr oM)
def et.store{P:wX}(n:bg w F cls (Aw p q.cells P d V Rs l pts))(b:aj (·=p) w w')(c:w'.heap[p]? =some (.cells o 239 (0,0))):bg w' F cls (Aw p o P d V Rs l pts):=by
 refine bg.same n dS (k:=0) (b.mono λh _ e=>e▸(n.at' 0).1) ⟨(n.at' 0).1,c⟩ λa G f g=>?_;rcases a with _|_|_|_|_|_|a<;>first|exact g|exact Zz rfl f
def Eh(P:et w F cls p q d V Rs l pts)(I:dj d=0)(J:fy w)(K:l.length<=20000000)(L:Rs.length<=8)(b2:pts.length*q.every<9223372036854775808)(b3:pts.length<=20000001):
  be 138 #[RK p] w (Ok λM w'=>M= .tuple #[]/\∃t u e,et w' u e p t d V Rs l (if l.length=pts.length*q.every then pts++[Rs]else pts)/\t.every=q.every/\cm F w u w'):=by
 have i:=P.bw;have N:=aT.len (P.at' 2) dC;have O:=aT.len (P.at' 5) dC;have Q:=P.aE;have R:PP .i64 (((q.qn:Nat):Int)*(q.every:Int))=((pts.length*q.every:Nat):Int):=by
  rw[O,show((pts.length:Nat):Int)*(q.every:Int)=((pts.length*q.every:Nat):Int) by push_cast;rfl,wrap_i64 cw]
 refine tH ⟨p,0,rfl,_,_,_,ae i rfl,p,0,rfl,_,_,_,ae i rfl,p,0,rfl,_,ae i rfl,λS T=>?_⟩;rw[R,N];have j:ai w S:=T.keep;refine al.ey (λb4=>?_) (λb5=>Ok.mk ⟨rfl,q,F,cls,?_,rfl,ai.keep j,λn a=>.inl a⟩)
 rotate_left
 ·rw[Zq oM];exact et.af P j
 rw[Zx oM];intro v U;have h:ai w v:=j.then U.keep;have c:=et.af P h;have k:=c.bw;refine⟨λ_=>False,p,0,rfl,id,_,_,_,ae k rfl,p,0,rfl,_,_,_,_,ae k rfl,ae k rfl,PC.ok (Eg c I (J.af h) K (c.at' 4) (λn a=>c.aE n a.1) L) ?_⟩;rintro _ b6 ⟨b7,a3,n2,c2,Fv,G,rfl,-,W,-,m,o⟩;refine⟨_,_,_,_,rfl,o,PA.mk λb8 r b9 X=>⟨r,?_⟩⟩;have x:=o.then r;have Y:=et.af c x;have c1:=h.size;have c3:=o.size;have s:∀n,aH q.qa=some n->F n/\cls n=5:=λn a=>aT.self (P.at' 5) n a;refine fN (c:=cPt) (x:=Rs) (Y.at' 5) Xf X (D:=G) ⟨_,_,_,_,rfl,W.af r⟩ (λn a=>⟨by have:=(m n a).2.1;omega,λf=>by have:=Q n (s n f).1;have:=(m n a).1;omega⟩) ce (by unfold maxLen;omega) λy b Z F2 z A b0=>⟨_,_,_,rfl,p,0,rfl,?_⟩
 have a0:¬aH q.qa=some p:=λf=>by have g:=(s p f).2;rw[P.self.2]at g;cases g
 have c4:=A.size;have a1:aj (λn=>F n/\cls n=5) v Z:=(ai.keep x).then (A.mono λn _ a=>s n a);obtain⟨F3,a2,B,C,-,-⟩:=c.fm dS (k:=5) (G':=F2) (C2:=Aw p q.cells {q with qa:=y,qn:=q.qn+1,qc:=b} d V Rs l (pts++[Rs])) a1
  (λn a=>(b0 n a).imp id λP=>P.elim (λP=>(m n P).1) λP=>oM) z.aE z λE G hj hc=>by
   rcases E with _|_|_|_|_|_|E<;>first|exact hc|exact Zz rfl hj
 refine PS.mk (B.at' 0).2 sM λc5 H c6 b1=>Ok.mk ⟨rfl,{q with qa:=y,qn:=q.qn+1,qc:=b},F3,a2,et.store B H b1,rfl,?_,λn a=>?_⟩
 ·refine((ai.keep h).then C.keep).then (H.mono λn _ f=>f▸P.self.1)
 ·rcases C.new n a with g|g
  ·exact .inl g
  ·exact .inr oM
end
section
variable {w w':World} {p:Nat} {F T D:UL} {cls:Nat->Nat} {q:wX} {d:aR} {V:aY} {Rs:List dP} {l:List ah} {pts:List (List dP)}
def qt(V:aY)(n:ah)(Rs:List dP):List dP:=Rs.map λP=>P.add (V.add n).1 (s_ ((V.add n).2.state n.aX n.agg) P.p)
def TG{d:aR}(b:dj d=0)(c:e0∈d.projs):0<=e0.FO:=by
 have P:=(nn b).2.2 e0 c;unfold mJ at P;split at P
 ·cases P
 split at P
 ·cases P
 rename_i n
 by_cases a:e0.group=3
 ·rw[a]at n
  simp only[BEq.rfl,Bool.true_and,bne_self_eq_false,Bool.false_and,Bool.or_false,Bool.not_eq_true,Bool.not_eq_false']at n;unfold TB within at n;simp only[QK,Zk]at n;exact n.1.1
 ·have e:(e0.group==3)=false:=by simpa using a
  have f:(e0.group !=3)=true:=by simpa using a
  rw[e,f]at n;simp at n;omega
def Ei{V:aY}(P:V.OK)(n:ah):((V.state n.aX n.agg).getD HM).cells.length<=8:=by
 have a:=P.len n;have b:=(Ax (nn P.decl).1).2.2.2;have g:(V.decl.at n.aX).length<=8:=by
  unfold aR.at;split
  ·rw[QQ]
   cases c:V.decl.types[n.aX.toNat]? with
   |none=>simp
   |some d=>exact(b d (QZ c)).2
  ·simp
 unfold aY.cellsOf at a;unfold aY.state
 cases e:au V.eS (n.aX,n.agg)with
 |none=>simp
 |some f=>simp only[e]at a;show f.cells.length<=8;omega
def YL(w n:World)(p:Nat)(F:UL)(q:wX)(d:aR)(V:aY)(Rs:List dP)(l:List ah)(pts:List (List dP))(c:ah)(P e:Nat)(w':World):Prop:=
 e=0/\∃f g h a i,w'.heap[P]? =some (.cells (jT (V.add c).1 f g h).toArray 60 (0,0))/\et w' a i p q d (V.add c).2 Rs l pts/\(∀b,a b->F b\/n.heap.size<=b)/\aj F n w'/\n.heap.size<=P/\¬a P
def QN(u:et w F cls p q d V Rs l pts)(hd:dj d=0)(hT:fy b)(g0:ai b w)(g4:∀n,F n->b.heap.size<=n)(hl:l.length+1<=20000000)(k5:V.entries.length<=20000000)(g5:Rs.map (·.p)=d.projs)(k6:pts.length*q.every<9223372036854775808)(k7:pts.length<=20000001){e:ah}{I:bc}(k8:((au V.done (e.aX,e.agg,e.field)).getD []).length<=20000000)(hr:Row aO 8 w D I a e.aM)(R:∀n,D n->n<w.heap.size/\¬F n)(he:e.Ok):
  be 147 #[RK p,kM e I a c] w (Ok λa5 w'=>a5= .tuple #[]/\∃q' S a0,et w' S a0 p q' d (V.add e).2 (qt V e Rs) (l++[e]) (if l.length+1=pts.length*q.every then pts++[qt V e Rs]else pts)/\q'.every=q.every/\cm F w S w'):=by
 have T:=u.aE;have q8:=T p u.self.1;have q9:Rs.length=d.projs.length:=by rw[<-g5,Q8]
 have r0:d.projs.length<=8:=(Ax (nn hd).1).2.2.1;refine uS (PA.mk λe1 b8 r3 g6=>?_);have k9:=et.af u b8;refine⟨YL w e1 p F q d V Rs l pts e,?_,?_⟩
 ·intro r g7
  have a6:ai e1 r:=g7.keep;have r4:r.heap.size=e1.heap.size:=by rw[g7.heap]
  have e2:=et.af k9 a6;have a7:=b8.then a6;have g8:=e2.bw;have a1:∀{o:World},ai r o->be 95 #[RK q.vp,kM e I a c] o (Ok λa5 w'=>∃I a c G,a5=FP (V.add e).1 I a c/\Row aO 8 w' G I a e.aM/\∃S,cH w' q.vp S (V.add e).2/\cm (λn=>F n/\cls n=3) o S w'/\∀n,G n->o.heap.size<=n/\n<w'.heap.size/\¬S n):=λ{o} U=>
   HP (show cH o q.vp (λn=>F n/\cls n=3) V from(et.af e2 U).at' 3) (hT.af (g0.then (a7.then U))) (hr.af (a7.then U)) (λn P=>⟨by have:=(R n P).1;have:=(a7.then U).size;omega,λh=>(R n P).2 h.1⟩) he k8 k5
  have fm:∀{o w2:World} {s:UL},ai r o->cH w2 q.vp s (V.add e).2->cm (λn=>F n/\cls n=3) o s w2->∃i k,et w2 i k p q d (V.add e).2 Rs l pts/\(∀n,i n->F n\/s n)/\(∀n,i n->F n\/o.heap.size<=n)/\aj F o w2:=λ{o w2 s} U W v=>by
   obtain⟨i,k,X,J,m,-⟩:=(et.af e2 U).nh dS (k:=3) (G':=s) (C2:=Aw p q.cells q d (V.add e).2 Rs l pts) v W.aE W λf G Y hc=>by
    rcases f with _|_|_|_|_|_|f<;>first|exact hc|exact Zz rfl Y
   exact⟨i,k,X,λn P=>(m n P).imp (·.1) id,J.new,J.keep⟩
  have nS:¬((F p/\cls p=3)\/r.heap.size<=p):=by
   rintro(⟨-,g⟩|g)
   ·rw[u.self.2]at g;cases g
   ·omega
  have b9:¬((F w.heap.size/\cls w.heap.size=3)\/r.heap.size<=w.heap.size):=by
   rintro(⟨g,-⟩|g)
   ·have:=T _ g;omega
   ·omega
  refine⟨λn=>(F n/\cls n=3)\/r.heap.size<=n,p,0,rfl,nS,_,ae g8 rfl,b9,ar (bb e I a c) (a6.get g6 id) ⟨PC.ok (a1 (aj.refl _)) ?_,PA.mk λr5 c2 r6 l0=>⟨ai.keep c2,PC.ok (a1 c2) ?_⟩⟩⟩
  ·rintro _ e3 ⟨y,z,A,G1,rfl,-,s,W,v,-⟩
   obtain⟨i,k,X,g9,m,kF⟩:=fm (aj.refl _) W v;have r7:=v.keep.size;have h0:=X.aE;refine cu (QO _ y z A) ⟨rfl,v.keep.mono λn _ P=>.inl P,PA.mk λr8 e4 r9 l3=>⟨ai.keep e4,aC (ml _ y z A) l3 rfl λs0 e5 s1 l4=>⟨e5.mono λn _ e=>.inr (by have e:n=e3.heap.size:=e;omega),rfl,y,z,A,i,k,l4,?_,λn P=>?_,?_,oM,λh=>by have:=h0 _ h;omega⟩⟩⟩
   ·exact bg.keep (et.af X e4) dS e5 λn P e=>by have e:n=e3.heap.size:=e;have:=h0 n P;omega
   ·rcases m n P with g|g
    ·exact .inl g
    ·exact .inr oM
   ·exact(((ai.keep a6).then kF).af e4).new e5 λn P=>.inr (by have P:n=e3.heap.size:=P;omega)
  ·rintro _ s2 ⟨y,z,A,G1,rfl,-,s,W,v,-⟩
   obtain⟨i,k,X,g9,m,kF⟩:=fm c2 W v;have s3:=v.keep.size;have nf:¬i r.heap.size:=λh=>by
    rcases m _ h with g|g
    ·have:=T _ g;omega
    ·omega
   have l5:=kF.get l0 λh=>by have:=T _ h;omega
   refine cu (QO _ y z A) ⟨rfl,v.keep.mono λn _ P=>.inl P,aC (ml _ y z A) l5 rfl λs4 e6 s5 l6=>⟨e6.mono λn _ e=>.inr (by have e:n=r.heap.size:=e;omega),rfl,y,z,A,i,k,l6,?_,λn P=>?_,?_,oM,nf⟩⟩
   ·exact bg.keep X dS e6 λn P e=>by have e:n=r.heap.size:=e;exact nf (e▸P)
   ·rcases m n P with g|g
    ·exact .inl g
    ·exact .inr oM
   ·exact(((ai.keep a6).then (ai.keep c2)).then kF).new e6 λn P=>.inr (by have P:n=r.heap.size:=P;omega)
 rintro xb _ _ K ⟨rfl,xa,xn,xc,i,k,gx,Z,m,c3,s6,l7⟩;have h2:=c3.get g6 λh=>by have:=T _ h;omega
 have h3:=(hr.af b8).keep c3 λn P=>(R n P).2;have a8:=Z.aE;have s7:=c3.size;have xw:=aA gx;have a9:aj F w K:=(ai.keep b8).then c3;have p8:ai b K:=g0.new a9 λn P=>.inr (g4 n P);obtain⟨j,hS⟩:∃j,j=(V.add e).2.state e.aX e.agg:=⟨_,rfl⟩
 have s8:(j.getD HM).cells.length<=8:=by rw[hS];exact Ei (show(V.add e).2.OK from(show cH K q.vp (λn=>i n/\k n=3) (V.add e).2 from Z.at' 3).1) e
 refine⟨λsb so w'=>so=0/\∃sa sn sc G2,w'.heap[sb]? =some (.cells #[WP (j.getD HM).version,.slice sa sn sc] 40 (0,0))/\Row gA 32 w' G2 sa sn (j.getD HM).cells/\(∀n,G2 n->K.heap.size<=n/\n<w'.heap.size)/\K.heap.size<=sb/\ai K w',?_,?_⟩
 ·intro B h4
  have c4:ai K B:=h4.keep;have s9:B.heap.size=K.heap.size:=by rw[h4.heap]
  have e7:=et.af Z c4;have h5:=e7.bw;have d4:=c4.get h2 id;have nS:¬B.heap.size<=p:=by have:=a8 p Z.self.1;omega
  have b9:¬B.heap.size<=w.heap.size:=oM
  refine⟨λn=>B.heap.size<=n,p,0,rfl,nS,_,ae h5 rfl,b9,_,ae d4 rfl,b9,_,ae d4 rfl,PC.ok (oz (e7.at' 3)) ?_,PA.mk λt0 e8 t1 l8=>⟨ai.keep e8,PC.ok (oz ((et.af e7 e8).at' 3)) ?_⟩⟩
  ·rintro _ c5 ⟨ca,cn,cc,G,rfl,N,L,e9⟩
   have t2:=e9.size;have c6:=N.aE;rw[<-hS]at N⊢;refine⟨_,_,_,_,_,rfl,ai.keep e9,PA.mk λl9 f2 t3 m0=>⟨ai.keep f2,PS.mk m0 sM λt4 m1 t5 m2=>PS.mk m2 sM λm3 m4 t6 m5=>?_⟩⟩;have O:aj (λn=>n=c5.heap.size) l9 m3:=m1.then m4;refine⟨O.mono λn _ e=>by have e:n=c5.heap.size:=e;omega,rfl,ca,cn,cc,G,m5,((N.af f2).keep O λn P e=>by have e:n=c5.heap.size:=e;have:=c6 n P;omega).row dC ce,λn P=>⟨by have:=L n P;omega,by have:=c6 n P;omega⟩,oM,((c4.then e9).then f2).new O λn P=>.inr (by have P:n=c5.heap.size:=P;omega)⟩
  ·rintro _ m6 ⟨ca,cn,cc,G,rfl,N,L,c7⟩
   have t7:=c7.size;have c6:=N.aE;have m7:=c7.get l8 id;rw[<-hS]at N⊢;refine⟨_,_,_,_,_,rfl,ai.keep c7,PS.mk m7 sM λt8 m8 t9 m9=>PS.mk m9 sM λn0 n2 u0 n3=>?_⟩;have O:aj (λn=>n=B.heap.size) m6 n0:=m8.then n2;refine⟨O.mono λn _ e=>by have e:n=B.heap.size:=e;omega,rfl,ca,cn,cc,G,n3,(N.keep O λn P e=>by have e:n=B.heap.size:=e;have:=L n P;omega).row dC ce,λn P=>⟨by have:=L n P;omega,by have:=c6 n P;omega⟩,oM,((c4.then e8).then c7).new O λn P=>.inr (by have P:n=B.heap.size:=P;omega)⟩
 rintro sb _ _ h6 ⟨rfl,sa,sn,sc,G2,gs,n4,n8,u1,Q⟩;have c8:=et.af Z Q;have h7:=c8.bw;have u2:=Q.size;have h8:bt h6 (λn=>i n/\k n=1) d q.ta q.tn q.pa q.pn:=c8.at' 1;have p9:=h8.FQ.len;have q0:=c8.aE;have h9:=Q.get gx id;obtain⟨C,h⟩:∃C:dP->dP,C=λx=>x.add (V.add e).1 (s_ ((V.add e).2.state e.aX e.agg) x.p):=⟨_,rfl⟩
 have g2:=aA gs;refine⟨p,0,rfl,_,_,_,ae h7 rfl,λd5 b0 w'=>∃f:Nat,b0=f/\f<=q.pn/\d5=q.pn-f/\et w' i k p q d (V.add e).2 ((Rs.take f).map C++Rs.drop f) l pts/\aj i h6 w',⟨_,0,rfl,Qj _,rfl,by simpa using c8,aj.refl _⟩,?_⟩;rintro d5 _ _ E ⟨f,rfl,Y,rfl,t,H⟩;have u3:=H.size;have d6:=H.get gs λh=>by have:=a8 _ h;omega
 have g3:=n4.keep H λn P h=>by have:=a8 _ h;have:=(n8 n P).1;omega
 have i0:=H.get h9 l7;have q1:=t.bw;refine al.dec (λu4=>?_) (λu5=>?_)
 ·have i1:f<d.projs.length:=oM
  have hx:d.projs[f]? =some d.projs[f]:=Qq i1;have i2:d.projs[f]∈d.projs:=XY i1;generalize d.projs[f]=x at hx i2;obtain⟨n,h1,es,b1,i9,j1,b2,rfl,d7⟩:=(show bt E (λn=>i n/\k n=1) d q.ta q.tn q.pa q.pn from t.at' 1).FQ.el f x hx;have n9:=TG hd i2;refine⟨n,h1,b1,oM,oM,bT (es:=oA x) (k:=5) (qu x) rfl (λb0 ht=>by rw[Qx];exact b2 b0 ht) (PA.mk λu6 i3 u7 o0=>aC (qu x) o0 rfl λi4 i5 u9 i6=>⟨λj2 w'=>j2=s_ j x/\aK (s_ j x)/\i4=w',?_,?_⟩)⟩
  ·have b3:ai E i4:=i3.new i5 λn P=>.inr (by have P:n=E.heap.size:=P;omega)
   have d8:=g3.af b3;have v0:=d8.len;have a4:s_ j x=(((j.getD HM).cells[x.FO.toNat]?).map (·.n)).getD 0:=by
    cases j<;>rfl
   refine⟨_,ae i6 rfl,_,_,_,ae (b3.get d6 id) rfl,al.dec (λi7=>?_) (λi7=>⟨?_,?_,rfl⟩)⟩
   ·obtain⟨bi,f5⟩:∃bi:Nat,x.FO=bi:=⟨x.FO.toNat,oM⟩
    obtain⟨cb,co,v1,v2,v3,o1,v4,v5,o2,-,-,i8,-⟩:=nq d8 (i:=bi) oM;refine⟨_,_,_,ae (b3.get d6 id) rfl,_,ae i6 rfl,cb,co,o1,n9,i7,_,by rw[f5,Qx];exact o2,?_,?_,rfl⟩
    ·rw[a4,f5,Qx,QQ,Qq (show bi<(j.getD HM).cells.length by omega)];rfl
    ·rw[a4,f5,Qx,Qq (show bi<(j.getD HM).cells.length by omega)]
     rw[QQ,Qq (show bi<(j.getD HM).cells.length by omega)]at i8;exact i8
   ·rw[a4,Q7 oM];rfl
   ·rw[a4,Q7 oM];exact HQ
  ·rintro _ _ _ ⟨rfl,j4,rfl⟩ o3 o4
   have b4:ai E o3:=(i3.new i5 λn P=>.inr (by have P:n=E.heap.size:=P;omega)).then o4.keep;have c9:=et.af t b4;have o5:((Rs.take f).map C++Rs.drop f)[f]? =Rs[f]? :=by
    rw[X8 cS];simp[Qy,X2 (show f<=Rs.length by omega)]
   have d0:Rs[f]? =some Rs[f]:=Qq oM;have d9:Rs[f].p=x:=by
    have:=Zj (·[f]?) g5;simp only[Q9,d0,hx,Option.map_some,Q1]at this;exact this
   generalize Rs[f]=b5 at d0 d9;obtain⟨rg,pj,rj,o6,o7,hR,j5,v6,j0,-,b6⟩:=cI.elem (c9.at' 4) (o5.trans d0);have o8:=cI.len (c9.at' 4);rw[QX,Q8,Qy,XZ]at o8;have j6:=c9.bw;refine⟨p,0,rfl,_,_,_,ae j6 rfl,rg,0,o6,oM,oM,_,by rw[Qx];exact o7,ar (ml _ xa xn xc) (b4.get i0 id) (PC.ok (QP hR j5 (x:=(V.add e).1) he j4) ?_)⟩;rintro _ o9 ⟨rfl,p0,f9⟩;have fQ:((Rs.take f).map C++Rs.drop f).set f (b5.add (V.add e).1 (s_ j x))=(Rs.take (f+1)).map C++Rs.drop (f+1):=by
    have j7:((Rs.take f).map C).length=f:=by simp;omega
    rw[Qw,d0,Q3,XQ,List.set_append,Zq oM,j7,Nat.sub_self,X4 (show f<Rs.length by omega)];have p1:C b5=b5.add (V.add e).1 (s_ j x):=by rw[h,hS,<-d9]
    rw[<-p1];rfl
   have j3:=b6 o9 _ f9 p0;rw[fQ]at j3;refine⟨rfl,_,oM,f+1,an oM,oM,rfl,?_,H.then ((ai.keep b4).then (f9.mono λn _ e=>?_))⟩
   ·refine bg.same c9 dS (k:=4) (f9.mono λn _ e=>by have e:n=rj:=e;rw[e];exact j0) j3 λf G Y hc=>by
     rcases f with _|_|_|_|_|_|f<;>first|exact hc|exact Zz rfl Y
   ·have e:n=rj:=e;rw[e];exact j0.1
 have j8:(Rs.take f).map C++Rs.drop f=qt V e Rs:=by
  rw[Qz oM,List.drop_eq_nil_of_le oM,List.append_nil,h];rfl
 rw[j8]at t;intro b7 e0;have a2:ai E b7:=e0.keep;have q2:b7.heap.size=E.heap.size:=by rw[e0.heap]
 have k0:=et.af t a2;have k1:=k0.bw;have p2:¬i w.heap.size:=λh=>by
  rcases m _ h with g|g
  ·have:=T _ g;omega
  ·omega
 have k2:=a2.get (H.get (Q.get h2 id) p2) id;have nD:∀n,D n->¬i n:=λn P h=>by
  rcases m _ h with g|g
  ·exact(R n P).2 g
  ·have:=(R n P).1;omega
 have k3:=((h3.af Q).keep H nD).af a2;have v7:=aT.len (t.at' 2) dC;have v8:aj F w b7:=((a9.af Q).new H λn P=>(m n P).imp id oM).af a2;refine⟨λ_=>False,p,0,rfl,id,_,_,_,ae k1 rfl,ar (bb e I a c) k2 (PC.ok (CZ k3 λn P=>by have:=(R n P).1;omega) ?_)⟩;rintro _ q3 ⟨y,z,A,G,rfl,p3,L,c0⟩;refine⟨_,_,_,_,_,_,_,_,_,_,_,_,rfl,c0,PA.mk λq4 c1 q5 k4=>⟨c1,?_⟩⟩;have f0:=(a2.then c0).then c1;have l1:=et.af t f0;have q6:=c0.size;have l2:=t.aE;have f1:∀n,aH q.ea=some n->i n/\k n=2:=λn P=>aT.self (t.at' 2) n P;refine fN (c:=jh) (x:=e) (l1.at' 2) HR k4 (D:=G) ⟨y,z,A,rfl,p3.af c1,he⟩ (λn P=>⟨by have:=(L n P).2;omega,λee=>by have:=l2 n (f1 n ee).1;have:=(L n P).1;omega⟩) ce (by unfold maxLen;omega) λa' M q7 F2 f3 f4 p4=>⟨_,_,_,rfl,p,0,rfl,?_⟩
 have r1:=f4.size;obtain⟨s,a3,j9,f6,n1,-⟩:=t.fm dS (k:=2) (G':=F2) (C2:=Aw p q.cells {q with ea:=a',en:=q.en+1,ec:=M} d (V.add e).2 (qt V e Rs) (l++[e]) pts) ((ai.keep f0).then (f4.mono λn _ P=>f1 n P))
  (λn P=>(p4 n P).imp id λu=>u.elim (λu=>by have:=(L n u).1;omega) λu=>oM) f3.aE f3 λf G Y hc=>by
   rcases f with _|_|_|_|_|_|f<;>first|exact hc|exact Zz rfl Y
 refine PS.mk (j9.at' 0).2 sM λd1 f7 r2 n5=>?_;have n6:et d1 s a3 p {q with ea:=a',en:=q.en+1,ec:=M} d (V.add e).2 (qt V e Rs) (l++[e]) pts:=et.store j9 f7 n5;have f8:∀n,s n->F n\/w.heap.size<=n:=λn P=>by
  rcases f6.new n P with g|g
  ·exact(m n g).imp id oM
  ·exact .inr oM
 have n7:aj i E d1:=f6.keep.then (f7.mono λn _ ee=>by have ee:n=p:=ee;rw[ee];exact Z.self.1);have p5:aj F w E:=(a9.af Q).new H λn P=>(m n P).imp id oM;have d2:aj F w d1:=p5.new n7 λn P=>(m n P).imp id oM;refine PC.ok (Eh n6 hd (hT.af (g0.new d2 λn P=>.inr (g4 n P))) cS (by unfold qt;rw[Q8];omega) k6 k7) ?_;rintro _ u8 ⟨rfl,q',F4,p6,p7,d3,g1⟩;refine⟨rfl,Ok.mk ⟨rfl,q',F4,p6,?_,d3,d2.new g1.keep f8,λn P=>?_⟩⟩
 ·simpa using p7
 ·rcases g1.new n P with g|g
  ·exact f8 n g
  ·have:=d2.size;exact .inr oM
end
def sU:jF:=⟨[],[],[],[],[(1,⟨[0,0,2,4,8,0,0,64,128,256,544,1040,4095,8191,12287],[32767,32767,32765,32763,32759,32767,32767,32703,32639,32511,32223,31727,32766,28671,22527],[0,0,0,0,1,0,0,0,0,1,0,0,0,0,2]⟩)]⟩
def su(z:(dr d λA B=>(rI b (ad A (B+2)) λC=>PR_ (eq_ .quo 3 (.tmp 5) (.tmp 9) (.ii e) (.ii C)) b (kI_ λn D=>(∀P,bH D P->(dr d λE F=>(rS P (ad E (F+3)) λG a3 f=>(dr d λH I=>(rI P (ad H (I+2)) λc=>((0:Int)<=(PP .i64 (n*c))/\((PP .i64 (n*c)):Int)<=(f:Int)/\(dr d λJ K=>PS P (ad J (K+3)) (.slice G (Int.toNat (PP .i64 (n*c))) f) λg=>(dr d λL M=>(rS g (ad L (M+6)) λN h i=>((0:Int)<=(PP .i64 (n+1))/\((PP .i64 (n+1)):Int)<=(h:Int)/\PR_ (Builtin.clear_ #[237] 0 #[.slice (dd N (Int.toNat (PP .i64 (n+1))) i 2) (h-Int.toNat (PP .i64 (n+1))) (i-Int.toNat (PP .i64 (n+1)))]) g (λa4 j=>(dr d λO Q=>(rS j (ad O (Q+6)) λR a5 k=>((0:Int)<=(PP .i64 (n+1))/\((PP .i64 (n+1)):Int)<=(k:Int)/\(dr d λS T=>PS j (ad S (T+6)) (.slice R (Int.toNat (PP .i64 (n+1))) k) λa=>(dr d λU V=>(rS a (ad U (V+6)) λW X a6=>(ix_ W n X λl m=>(∃o p q r,a.cell? (ad l (m+Int.toNat n*2))=some (.pointer o)/\a.cell? (ad l (m+Int.toNat n*2+1))=some (.slice p q r)/\PC_ 187 #[.pointer d,.agg #[.pointer o,.slice p q r]] a (λY Z=>∃s t u v,Y= .agg #[.pointer s,.slice t u v]/\(dr d λw x=>PS Z (ad w (x+4)) (.pointer s) λa1=>PS a1 (ad w (x+4+1)) (.slice t u v) λa2=>rt y ((.tuple #[])) a2)) (pE y)))))))))) (pV y)))))))))))) (pV y)))):be 146 #[.pointer d,.ii e] b y:=DC sU Tryz.func146 rfl z
def rR(P:eg):∀n,(nd P n).Perm (P::n)
 |[]=>List.Perm.refl _
 |y::n=>by
  unfold nd;split
  ·exact List.Perm.refl _
  ·exact((rR P n).cons y).trans (List.Perm.swap P y n)
def yf(n:List eg):(n.foldr nd []).Perm n:=by
 induction n with
 |nil=>exact List.Perm.refl _
 |cons P n a=>exact(rR P _).trans (a.cons P)
def yP{b:eg}:∀{P:List eg},uT P->(∀y∈P,y.group≠b.group)->uT (nd b P)
 |[],_,_=>by simp[nd,uT]
 |y::P,d,e=>by
  unfold nd;have c:=List.pairwise_cons.1 d;have g:=e y (QV ..);split
  ·rename_i f
   refine List.pairwise_cons.2 ⟨λa n=>?_,d⟩;rcases Q2.1 n with rfl|n
   ·exact f
   ·have:=c.1 a n;omega
  ·rename_i h
   refine List.pairwise_cons.2 ⟨λa n=>?_,yP c.2 λa n=>e a (QJ _ n)⟩;rcases Q2.1 ((rR b P).mem_iff.1 n)with rfl|n
   ·omega
   ·exact c.1 a n
def Fu:∀{n:List eg},(n.map (·.group)).Nodup->uT (n.foldr nd [])
 |[],_=>List.Pairwise.nil
 |x::n,P=>by
  rw[QY,List.nodup_cons]at P;refine yP (Fu P.2) λa b c=>P.1 ?_;rw[<-c];exact Xk.2 ⟨a,(yf n).mem_iff.1 b,rfl⟩
def yQ:∀{a P:List eg},(a.Pairwise λx b=>¬b.group<x.group)->uT P->a.Perm P->a=P
 |[],P,_,_,n=>by have:=n.length_eq;cases P;rfl;simp at this
 |x::a,[],_,_,n=>by have:=n.length_eq;simp at this
 |x::a,b::P,f,g,n=>by
  have d:=List.pairwise_cons.1 f;have e:=List.pairwise_cons.1 g;have i:x=b:=by
   rcases Q2.1 (n.mem_iff.1 (QV ..))with h|h
   ·exact h
   rcases Q2.1 (n.mem_iff.2 (QV ..))with c|c
   ·exact c.symm
   have:=e.1 x h;exact Zz this (d.1 b c)
  subst i;rw[yQ d.2 e.2 n.cons_inv]
section
variable {w w':World} {p r:Nat} {R:dP}
def lQ.WG(a:lQ w p r R):((R.rows.map (·.2)).map (·.group)).Nodup:=by
 have P:=a.map.tidy;unfold Tidy at P;rw[List.map_map]at P⊢;have:R.rows.map ((·.group)∘(·.2))=R.rows.map ((·.1)∘λn=>(n.1,tD n.2)):=List.map_congr_left λn b=>(a.ok n b).2;rw[this];exact P
def lQ.zj(n:lQ w p r R):uT R.list:=Fu n.WG
def Ow(f:lQ w p r R)(P:R.rows.length<=20000000):be 394 #[RK p] w (Ok (pQ KG 218 w R.list)):=by
 refine xJ ⟨p,0,rfl,_,ae f.at' rfl,mapRange SR f.map λw6 O Q s6=>?_⟩;refine⟨λz i j k w'=>∃(left:List (Int×eg)) (a:List eg) (h:UL),z=left.length/\cU w' w.heap.size r (Value.int .i64) (R.rows.map λb=>(b.1,tD b.2)) (left.map λb=>(b.1,tD b.2))/\(∀b∈left,eg.Ok b.2)/\
  (a++left.map (·.2)).Perm (R.rows.map (·.2))/\aT KG 218 h w' i j k a/\(∀n,h n->w.heap.size<n)/\ai w w',⟨_,R.rows,[],λ_=>False,rfl,O,λb l=>(f.ok b l).1,List.Perm.refl _,aT.nil _,λn P=>P.elim,Q⟩,?_⟩
 rintro z i j k _ A ⟨left,a,h,rfl,B,C,m,d,e,o⟩;have q:a.length+left.length=R.rows.length:=by have:=m.length_eq;simpa using this
 have b4:=d.len dC;refine oe B (λS=>.inl ⟨rfl,?_⟩) (λa2 a3 l1 l2 s T U V W b5=>.inr ⟨_,_,rfl,rl V ?_⟩)
 ·have X:left=[]:=by simpa using S
  subst X;refine PC.ok (PQ d (by simp at q;omega)) ?_;rintro _ b6 ⟨rfl,Y,t,u,v,Z⟩;have he:Y=R.list:=yQ u f.zj ((t.trans (by simpa using m)).trans (yf _).symm);subst he;exact⟨rfl,Ok.mk ⟨i,j,k,h,rfl,v,o.new Z λn P=>.inr (by have:=e n (d.self n P);omega),λn P=>by have:=e n P;omega⟩⟩
 ·obtain⟨E,a5,rfl,rfl,l⟩:=List.map_eq_append_iff.1 T
  obtain⟨b,F,rfl,H,rfl⟩:=List.map_eq_cons_iff.1 l;simp only[Prod.mk.injEq]at H;obtain⟨rfl,rfl⟩:=H;have a0:=C b sM;have b7:=o.size;have b3:w.heap.size<A.heap.size:=B.lt;refine⟨_,_,_,_,rfl,PA.mk λb8 I b9 b0=>aC (UU b.2) b0 rfl λc1 J c2 x=>⟨_,_,_,ae x rfl,ae x rfl,ae x rfl,PA.mk λL M c3 b1=>?_⟩⟩;have y:aj (λn=>n=w.heap.size) A L:=((W.af I).new J λn P=>.inr (by have P:n=s.heap.size:=P;omega)).af M;refine fN (c:=KG) (x:=b.2) (d.keep y λn P c=>by have c:n=w.heap.size:=c;have:=e n P;omega) Yh b1 (D:=λ_=>False) ⟨rfl,a0⟩ (λn P=>P.elim) (by simp at q;unfold aP;omega) (by simp at q;unfold maxLen;omega) λa' c' c4 F2 a4 N b2=>⟨_,_,_,rfl,_,?_,E++F,a++[b.2],F2,rfl,?_,λa1 K=>C a1 (by simp at K⊢;rcases K with K|K;exact .inl K;exact .inr (.inr K)),?_,a4,λn P=>?_,?_⟩
  ·simp
  ·have g:cU L w.heap.size r (Value.int .i64) (R.rows.map λb=>(b.1,tD b.2)) ((E++F).map λb=>(b.1,tD b.2)):=by
    rw[Q3];exact((U.af I).keep J (λc=>by have c:w.heap.size=s.heap.size:=c;omega) (λc=>by have c:r=s.heap.size:=c;have:=f.map.lt;omega)).af M
   refine g.keep N (λc=>by have:=e _ (d.self _ c);omega) (λc=>by have:=e _ (d.self _ c);have:=f.map.lt;omega)
  ·refine List.Perm.trans ?_ m
   simp only[Q3,QY,XQ];refine List.Perm.append_left a ?_;rw[List.singleton_append];exact List.perm_middle.symm
  ·rcases b2 n P with g|g|g
   ·exact e n g
   ·exact g.elim
   ·have:=y.size;omega
  ·exact(o.new y λn P=>.inr (by have P:n=w.heap.size:=P;omega)).new N λn P=>.inr (by have:=e n (d.self n P);omega)
end
end Go.Proofs.YtkpomgifkloklabGreatDoor
namespace Go.aw
open Go
variable{a c i:Nat}{f:UL}{X a2:Operand}{d:bc}{h:Program}{j:Type}{C g q:TypeId}{m t:ac}{b:World}
def Az{bytes:Nat}{n:kq j}(v:jU h g q n.k bytes)(B:Oo h q=true){w:List j}(k:aT n q f b d a c w)(S:i<=a)(l:∀e,aT n q f e d i c (w.take i)->aj (λP=>aH d=some P) b e->e.heap.size=b.heap.size->m (.tuple #[]) e):
  aJ h (Builtin.clear_ #[g] C #[.slice (dd d i c n.k) (a-i) (c-i)]) b m t:=by
 rcases Nat.lt_or_ge i a with T|U
 rotate_left
 ·obtain rfl:i=a:=oM
  rw[Nat.sub_self];exact aJ.mk (w':=b) (v:=.tuple #[]) (by cases dd d i c n.k<;>simp[Builtin.clear_,run_underlying v.under]) (l b (k.take (Q4 _)) (aj.refl _) rfl)
 obtain⟨cs,D,p,E,x⟩:=k.body;have F:=p.length;rcases p.cases with⟨_,V,_,_⟩|⟨y,H,rfl,I,J,z,K⟩
 ·omega
 have r:c<=maxLen:=by
  obtain⟨_,W,_,A,_,_,_,r,_⟩:=p.row.2.resolve_left (by rintro⟨k,_⟩;cases k);simp only[XX]at A;rw[A.2.2];exact r
 have L:i*n.k<=a*n.k:=Q0 _ oM;have X:a*n.k<=c*n.k:=Q0 _ J;rw[gg (show c≠i by omega),Xz];refine Sk v B I (by rw[z,Nat.sub_mul];omega) λe o M N O Q R=>?_;have s:aj (λP=>aH (some (⟨y,0,none⟩:Addr))=some P) b e:=Q.mono λP _ q=>by rw[q];rfl
 refine l e ⟨⟨cs.take (i*n.k),D,⟨⟨by rw[Qy,F];omega,.inr ⟨y,c,o,rfl,Qj _,M,oM,r,by rw[N,z],?_⟩⟩⟩,(E.keep s λP u=>(x P u).2).take i,x⟩,k.self,λP u=>Qk (k.aE P u) s.size⟩ s R;rw[O,<-K,List.take_take,X2 L]
def TI(i:0<c)(j:a<9223372036854775808):(do eqGuard .quo g X a2 (WP (a:Int)) (WP (c:Int));binOp .quo g (WP (a:Int)) (WP (c:Int)):Sem Value).run h b= .ok (WP ((a/c:Nat):Int)) b:=by
 have d:c≠0:=oM
 have n:(a:Int).tdiv (c:Int)=((a/c:Nat):Int):=by rw[Int.tdiv_eq_ediv_of_nonneg oM];rfl
 have e:=Nat.div_le_self a c;generalize a/c=P at n e;have f:PP .i64 (P:Int)=(P:Int):=wrap_i64 cw;simp[eqGuard,binOp,Op.intDiv,d,n,f]
end Go.aw
namespace Go.Proofs.YtkpomgifkloklabGreatDoor
open Go.aw
def c_(d:World)(e:Nat)(f:UL)(P:aR)(n:Nat)(a:List ah):Prop:=
 (dj P=0/\0<n/\n<9223372036854775808/\a.length<=20000000)/\∃c b,c.every=n/\et d f b e c P (bR P a) (ez P a).rows a (kY P n a)
variable{I:List ah}{a c:Nat}{b:World}
def TH{d:aR}(n:0<a)(P:a<9223372036854775808)(b:I.length<=20000000):(kY d a I).length*a<9223372036854775808/\(kY d a I).length<=20000001:=by
 rw[Ay];have c:=Nat.div_le_self I.length a;refine⟨?_,oM⟩;rcases Nat.lt_or_ge I.length a with h|h
 ·rw[Nat.div_eq_of_lt h];omega
 ·have:=Nat.div_mul_le_self I.length a
  rw[X7,Nat.one_mul];omega
section
variable {w w':World} {p:Nat} {F T D:UL} {d:aR} {every:Nat} {l:List ah}
def c_.keep(a:c_ w p F d every l)(b:aj T w w')(c:∀P,F P->¬T P):c_ w' p F d every l:=by
 obtain⟨e,f,n,g,h⟩:=a;exact⟨e,f,n,g,bg.keep h dS b c⟩
def c_.af(n:c_ w p F d every l)(P:ai w w'):c_ w' p F d every l:=n.keep P λ_ _ n=>n
def c_.aE(P:c_ w p F d every l):∀n,F n->n<w.heap.size:=by obtain⟨c,e,a,f,b⟩:=P;exact b.aE
def wY(d:aR)(l:List ah)(b:l.length<=20000000):(bR d l).entries.length<=20000000/\∀n,((au (bR d l).done n).getD []).length<=20000000:=by
 have P:=λn=>FR d l (aY.new d) n;refine⟨?_,λn=>?_⟩
 ·have a:(bR d l).entries.length=0+l.length:=(P (0,0,0)).2
  omega
 ·have a:((au (bR d l).done n).getD []).length<=0+l.length:=(P n).1
  omega
def HS(d:aR)(l:List ah)(n:ah):qt (bR d l) n (ez d l).rows=(ez d (l++[n])).rows:=by
 rw[KI];unfold qt kN.add;rw[KJ]
def QR(s:c_ w p F d every l)(t:fy b)(u:ai b w)(v:∀n,F n->b.heap.size<=n)(j:l.length+1<=20000000){e:ah}{k:bc}(x:Row aO 8 w D k a e.aM)(y:∀n,D n->n<w.heap.size/\¬F n)(z:e.Ok):
  be 147 #[RK p,kM e k a c] w (Ok λm w'=>m= .tuple #[]/\∃f,c_ w' p f d every (l++[e])/\cm F w f w'):=by
 obtain⟨⟨o,g,q,r⟩,L,A,rfl,B⟩:=s;obtain⟨C,E⟩:=wY d l r;obtain⟨H,I⟩:=TH (d:=d) g q r;refine(QN B o t u v j C (HT d l) H I (E _) x y z).mono ?_;rintro _ w' ⟨m,rfl,rfl,J,f,P,h,i,K⟩;refine Ok.mk ⟨rfl,f,⟨⟨o,g,q,by simpa using j⟩,J,P,i,?_⟩,K⟩;rw[KK,On g,<-HS,<-Ay (d:=d)];exact h
def zPt:Oo LL 236=true:=kR
def Oq(a0:c_ w p F d every l)(hT:fy b)(g0:ai b w)(c6:∀P,F P->b.heap.size<=P)(hn:a<=l.length):
  be 146 #[RK p,WP (a:Int)] w (Ok λa1 w'=>a1= .tuple #[]/\∃H,c_ w' p H d every (l.take (a/every*every))/\cm F w H w'):=by
 obtain⟨⟨q,u,h3,h4⟩,n,h,rfl,g⟩:=a0;have c7:=g.bw;have e2:=g.aE;have c8:=aT.len (g.at' 5) dC;have I:=aT.len (g.at' 2) dC;rw[Ay]at c8;obtain⟨k,v⟩:∃k,k=a/n.every:=⟨_,rfl⟩
 have s:k<=l.length/n.every:=by rw[v];exact Nat.div_le_div_right hn
 have J:k*n.every<=l.length:=Xx (Q0 _ s) (Nat.div_mul_le_self ..);have e3:k<=l.length:=Xx s (Nat.div_le_self ..);rw[<-v];have x:PP .i64 ((k:Int)*(n.every:Int))=((k*n.every:Nat):Int):=by
  rw[show((k:Int)*(n.every:Int))=((k*n.every:Nat):Int) by push_cast;rfl,wrap_i64 cw]
 have c9:PP .i64 ((k:Int)+1)=((k+1:Nat):Int):=an oM;have ec:=aT.ly (g.at' 2);have qc:=aT.ly (g.at' 5);refine su ⟨p,0,rfl,_,ae c7 rfl,aJ.mk (TI u oM) ⟨_,rfl,λK d0=>?_⟩⟩;rw[<-v,c9];simp only[Qx];have L:ai w K:=d0.keep;have y:=et.af g L;have z:=y.bw;have a2:bg K F h (Aw p n.cells {n with en:=k*n.every} d (bR d l) (ez d l).rows (l.take (k*n.every)) (kY d n.every l)):=y.same dS (k:=2) (aj.refl _) (aT.take (y.at' 2) (show k*n.every<=n.en from I▸J)) λi G j m=>by
  rcases i with _|_|_|_|_|_|i<;>first|exact m|exact Zz rfl j
 refine⟨p,0,rfl,_,_,_,ae z rfl,p,0,rfl,_,ae z rfl,by rw[x];exact Int.natCast_nonneg _,by rw[x];exact Int.ofNat_le.2 (Xx J (I▸ec)),p,0,rfl,?_⟩;rw[x,Qx];refine PS.mk z sM λd1 M e4 N=>?_;have O:et d1 F h p {n with en:=k*n.every} d (bR d l) (ez d l).rows (l.take (k*n.every)) (kY d n.every l):=et.store a2 M N;refine⟨p,0,rfl,_,_,_,ae N rfl,oM,by show _<=((n.qn:Nat):Int);omega,?_⟩;have e:∀P,aH n.qa=some P->F P/\h P=5:=λP c=>aT.self (g.at' 5) P c;have a3:¬aH n.qa=some p:=λf=>by have q:=(e p f).2;rw[g.self.2]at q;cases q
 refine Az Xf zPt (O.at' 5) (by show k+1<=n.qn;omega) λd2 a5 Q e5=>?_;have R:bg d2 F h (Aw p ({n with en:=k*n.every}:wX).cells {n with en:=k*n.every,qn:=k+1} d (bR d l) (ez d l).rows (l.take (k*n.every)) ((kY d n.every l).take (k+1))):=O.same dS (k:=5) (Q.mono λP _ c=>e P c) a5 λi G j m=>by
  rcases i with _|_|_|_|_|_|i<;>first|exact m|exact Zz rfl j
 have S:=(R.at' 0).2;refine⟨p,0,rfl,_,_,_,ae S rfl,oM,by show _<=((n.qc:Nat):Int);omega,p,0,rfl,PS.mk S sM λT U e6 V=>?_⟩;have r:et T F h p {n with en:=k*n.every,qn:=k+1} d (bR d l) (ez d l).rows (l.take (k*n.every)) ((kY d n.every l).take (k+1)):=et.store R U V;have A:aj F w T:=(((ai.keep L).then (M.mono λP _ f=>by have f:P=p:=f;rw[f];exact g.self.1)).then (Q.mono λP _ c=>(e P c).1)).then (U.mono λP _ f=>by have f:P=p:=f;rw[f];exact g.self.1);have d3:((kY d n.every l).take (k+1))[k]? =some (ez d (l.take (k*n.every))).rows:=by
  rw[Xw,Zx oM];exact QS s
 obtain⟨pb,po,es,d4,e7,e8,W,e9,ra,rn,rc,rfl,d5⟩:=(aT.row (bytes:=32) (r.at' 5) dC (by rw[Qy];unfold aP;omega)).el k _ d3;have c0:=W 0 dC;have c1:=W 1 dC;refine⟨p,0,rfl,_,_,_,ae V rfl,pb,po,d4,oM,by show(k:Int)<((k+1:Nat):Int);omega,_,_,_,_,c0,c1,PC.ok (Eg r q (hT.af (g0.new A λP c=>.inr (c6 P c))) (by rw[Qy];omega) d5 (λP c=>r.aE P c.1) (by rw[qv];exact(Ax (nn q).1).2.2.1)) ?_⟩;rintro _ X ⟨B,Y,Z,c2,Fv,G,rfl,hv,b4,b5,t,b6⟩;have f2:=A.size;obtain⟨F1,e1,d6,f4,b7,-⟩:=r.HU dS (k:=3) (w':=X) (G':=Fv) (C2:=Aw p ({n with en:=k*n.every,qn:=k+1}:wX).cells {n with en:=k*n.every,qn:=k+1,vp:=B} d (bR d (l.take (k*n.every))) (ez d l).rows (l.take (k*n.every)) ((kY d n.every l).take (k+1)))
  (ai.keep b6) (λP c C=>by have:=b5 P c;have:=r.aE P C;omega) hv.aE hv λi G j m=>by
   rcases i with _|_|_|_|_|_|i<;>first|exact m|exact Zz rfl j
 obtain⟨F2,b8,b9,f5,d7,-⟩:=d6.HU dS (k:=4) (w':=X) (G':=G) (C2:=Aw p ({n with en:=k*n.every,qn:=k+1}:wX).cells {n with en:=k*n.every,qn:=k+1,vp:=B,ra:=Y,rn:=Z,rc:=c2} d (bR d (l.take (k*n.every))) (ez d (l.take (k*n.every))).rows (l.take (k*n.every)) ((kY d n.every l).take (k+1)))
  (aj.refl _) (λP c C=>by
   rcases b7 P C with o|o
   ·have:=(t P c).1;have:=r.aE P o.1;omega
   ·exact Zz o (t P c).2.2) (λP c=>(t P c).2.1) b4 λi G j m=>by
   rcases i with _|_|_|_|_|_|i<;>first|exact m|exact Zz rfl j
 have c3:∀P,F2 P->F P\/w.heap.size<=P:=λP c=>by
  rcases d7 P c with o|o
  ·rcases b7 P o.1 with E|E
   ·exact .inl E.1
   ·exact .inr (by have:=b5 P E;omega)
  ·exact .inr (by have:=(t P o).1;omega)
 have d8:=(b9.at' 0).2;refine⟨_,_,_,_,rfl,p,0,rfl,PS.mk d8 sM λf7 c4 f9 d9=>PS.mk d9 sM λg1 c5 g2 e0=>Ok.mk ⟨rfl,F2,⟨⟨q,u,h3,by rw[Qy];omega⟩,{n with en:=k*n.every,qn:=k+1,vp:=B,ra:=Y,rn:=Z,rc:=c2},b8,rfl,?_⟩,?_,c3⟩⟩
 ·rw[<-Ot u s]
  exact et.store b9 (c4.then c5) e0
 ·exact(A.af b6).then ((c4.then c5).mono λP _ f=>by have f:P=p:=f;rw[f];exact g.self.1)

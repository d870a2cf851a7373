import Derived.Test.YtjgjkeponbeekaaGreatDoorKj14
set_option maxHeartbeats 4000000
set_option linter.all false
set_option maxRecDepth 100000
open Go.IntKind renaming wrap→PP
namespace Go.Proofs.YtjgjkeponbeekaaGreatDoor
open Go.aw
def Na:fk cZ Int where
 k:=13
 ci:=aP
 ib:=8
 inner:=(·.ev.aN)
 hd:=λn P a b=>aI n.ev P a b++[.bool n.void,WP n.FY.1,WP n.FY.2]
 ok:=λn=>n.ev.Ok
 hl:=λ_ _ _ _=>rfl
 h1:=λn P a b d c=>by
  simp only[aI,List.cons_append,List.nil_append,Q2,List.not_mem_nil,or_false]at c;rcases c with rfl|rfl|rfl|rfl|rfl|rfl|rfl|rfl|rfl|rfl|rfl|rfl|rfl<;>rfl
 o:=3
 ho:=dC
 fR:=λ_ _ _ _ _ _ _=>rfl
abbrev AO:ky cZ:=Na.Ox
abbrev lD(n:cZ)(P:bc)(a b:Nat):List Value:=aI n.ev P a b++[.bool n.void,WP n.FY.1,WP n.FY.2]
def To:kD LL 50 133 13 120:=⟨kR,kR,dC⟩
def mJ(n:cZ)(P:bc)(a b:Nat):iQ LL 133 (lD n P a b)=true:=kR
def QH(n:cZ)(P:bc)(a b:Nat):UA (eE LL 133) (.agg (lD n P a b).toArray)=true:=kR
def Ts:KC LL 305 3:=⟨kR,kR,⟨ "typ", "no",kR,dC,dC⟩,kR,kR,kR⟩
def Vk:wX LL 350 305 3:=⟨Ts,kR,⟨ "agg", "field",kR,dC,dC⟩,kR,kR,kR⟩
def WW:jo LL 305 pX:=Ts.key
def ZR:jo LL 350 Df:=Vk.key
def ZS:mZ LL 263 305 49 (.agg #[WP 0,.slice none 0 0]):=⟨kR,kR⟩
def tDn:mZ LL 264 350 59 (.slice none 0 0):=⟨kR,kR⟩
inductive Ky where
 |self|st|dn|Qo|Tt|Yr
 |done (k:Int×Int×Int)
structure FU where
 ta:bc
 tn:Nat
 tc:Nat
 pa:bc
 pn:Nat
 pc:Nat
 ea:bc
 en:Nat
 ec:Nat
 r1:Nat
 r2:Nat
 l1:List ((Int×Int)×Value)
 l2:List ((Int×Int×Int)×Value)
 cls:Nat->Ky
abbrev FU.P(P:FU)(a:UK)(b:Ky):UK:=λn=>a n/\P.cls n=b
def YE(b:World)(D:UK)(c:Value)(n:pJ):Prop:=∃P a d,c= .agg #[WP n.version,.slice P a d]/\Row gG 32 b D P a n.cells
def YF(b:World)(D:UK)(c:Value)(d:List ah):Prop:=∃n P a,c= .slice n P a/\aU lb 63 D b n P a d
structure zr (w:World) (p:Nat) (F:UK) (V:bf) (q:FU):Prop where
 at':w.heap[p]? =some (.cells #[.slice q.ta q.tn q.tc,.slice q.pa q.pn q.pc,.slice q.ea q.en q.ec,.map (some q.r1),.map (some q.r2)] 266 (0,0))
 Tt:bu w (q.P F .Tt) V.decl q.ta q.tn q.pa q.pn
 Qo:aU AO 133 (q.P F .Qo) w q.ea q.en q.ec V.entries
 st:bU w q.r1 pX q.l1
 Ys:fK (YE w (q.P F .Yr)) q.l1 V.eT
 dn:bU w q.r2 Df q.l2
 YG:pI (λk=>YF w (q.P F (.done k))) q.l2 V.done
 aF:∀b,F b->b<w.heap.size
 lp:F p/\q.cls p= .self
 l1:F q.r1/\q.cls q.r1= .st
 l2:F q.r2/\q.cls q.r2= .dn
def cJ(P:World)(a:Nat)(b:UK)(n:bf):Prop:=n.OK/\∃c,zr P a b n c
variable{e r:Int}{d x:bc}{v:Value}{S:aT}
section
variable {w w':World} {p:Nat} {F T D:UK} {V:bf} {q:FU}
def YE.keep{n:pJ}(a:YE w D v n)(b:aj T w w')(c:∀P,D P->¬T P):YE w' D v n:=by
 obtain⟨d,e,f,g,h⟩:=a;exact⟨d,e,f,g,h.keep b c⟩
def YF.keep{n:List ah}(a:YF w D v n)(b:aj T w w')(c:∀P,D P->¬T P):YF w' D v n:=by
 obtain⟨d,e,f,g,h⟩:=a;exact⟨d,e,f,g,h.keep b c⟩
def zr.keep(n:zr w p F V q)(b:aj T w w')(c:∀P,F P->¬T P):zr w' p F V q:=
 ⟨b.get n.at' (c _ n.lp.1),n.Tt.keep b λP a=>c P a.1,n.Qo.keep b λP a=>c P a.1,n.st.keep b (c _ n.l1.1),n.Ys.mono λe f d=>d.keep b λP a=>c P a.1,
  n.dn.keep b (c _ n.l2.1),n.YG.mono λg e f d=>d.keep b λP a=>c P a.1,λP a=>Qk (n.aF P a) b.size,n.lp,n.l1,n.l2⟩
def zr.af(n:zr w p F V q)(P:ai w w'):zr w' p F V q:=n.keep P λ_ _ n=>n
def cJ.keep(n:cJ w p F V)(a:aj T w w')(b:∀P,F P->¬T P):cJ w' p F V:=⟨n.1,n.2.imp λq c=>c.keep a b⟩
def cJ.af(n:cJ w p F V)(P:ai w w'):cJ w' p F V:=n.keep P λ_ _ n=>n
def cJ.aF(P:cJ w p F V):∀n,F n->n<w.heap.size:=P.2.elim λq a=>a.aF
def cJ.self(n:cJ w p F V):F p:=n.2.elim λq P=>P.lp.1
def HX{tn t l u:Nat}(v:dt S=0)(y:bu w D S d tn x l)(z:∀n,D n->n<w.heap.size):
  be 105 #[.agg #[.slice d tn t,.slice x l u]] w (Ok λA w'=>∃p F,A= RK p/\cJ w' p F (bf.new S)/\(∀n,F n->w.heap.size<=n)/\ai w w'):=by
 refine LJ (PA.mk λJ m K o=>⟨_,_,_,_,_,_,ae o rfl,ae o rfl,PC.ok (DW (y.af m) λn P=>by have:=z n P;omega) ?_⟩);rintro _ c ⟨f,Nv,g,h,i,j,G,rfl,B,C,q⟩;refine⟨_,_,_,_,_,_,rfl,PA.mk λa r L E=>PA.mk λb k M H=>PA.mk λs e N I=>Ok.mk ⟨b.heap.size,λn=>w.heap.size<=n/\n<s.heap.size,rfl,⟨bf.tT v,
  ⟨⟨f,Nv,g,h,i,j,none,0,0,c.heap.size,a.heap.size,[],[],λn=>if n=b.heap.size then .self else if n=c.heap.size then .st else if n=a.heap.size then .dn else .Tt⟩,?_⟩⟩,λn P=>P.1,((m.then q).then r).then (k.then e)⟩⟩
 have O:=q.size;refine⟨I,?_,?_,bU.new (e.get (k.get E id) id),trivial,bU.new (e.get H id),trivial,λn P=>P.2,⟨⟨by show w.heap.size<=b.heap.size;omega,by show b.heap.size<_;omega⟩,Zx rfl⟩,⟨⟨by show w.heap.size<=c.heap.size;omega,by show c.heap.size<_;omega⟩,?_⟩,⟨⟨by show w.heap.size<=a.heap.size;omega,by show a.heap.size<_;omega⟩,?_⟩⟩
 ·refine(((B.af r).af k).af e).mono λn P=>?_
  have:=C n P;refine⟨⟨oM,oM⟩,?_⟩;show(if n=b.heap.size then _ else _)=_;rw[Zq oM,Zq oM,Zq oM]
 ·exact(aU.nil s).mono (λn P=>P.elim) λn P=>P.1.2
 ·show(if c.heap.size=b.heap.size then _ else _)=_
  rw[Zq oM,Zx rfl]
 ·show(if a.heap.size=b.heap.size then Ky.self else if a.heap.size=c.heap.size then Ky.st else if a.heap.size=a.heap.size then Ky.dn else Ky.Tt)=Ky.dn
  rw[Zq oM,Zq oM,Zx rfl]
abbrev HO:pJ:=⟨0,[]⟩
def oK(i:cJ w p F V):
  be 127 #[RK p,WP e,WP r] w (Ok λo w'=>∃a b c G,o= .tuple #[.agg #[WP ((V.state e r).getD HO).version,.slice a b c],.bool (V.state e r).isSome]/\aU gG 78 G w' a b c ((V.state e r).getD HO).cells/\(∀n,G n->w.heap.size<=n)/\ai w w'):=by
 obtain⟨T,q,i⟩:=i;refine vB (PA.mk λs t U z=>?_);have h:=i.af t;refine⟨p,0,rfl,_,ae h.at' rfl,jG (enc:=pX) (k:=(e,r)) ZS WW h.st ?_⟩;obtain⟨g,n,a,b,c,d,f,A,B,j⟩:∃(g:pJ) (n:Bool) (a:bc) (b c:Nat),(an q.l1 (e,r)).getD (.agg #[WP 0,.slice none 0 0])= .agg #[WP g.version,.slice a b c]/\(an q.l1 (e,r)).isSome=n/\(V.state e r).getD HO=g/\(V.state e r).isSome=n/\Row gG 32 s (q.P F .Yr) a b g.cells:=by
  unfold bf.state;rcases h.Ys.an (e,r)with⟨d,f⟩|⟨o,g,d,f,a,b,c,rfl,j⟩
  ·exact⟨HO,false,none,0,0,by rw[d];rfl,by rw[d];rfl,by rw[f];rfl,by rw[f];rfl,Row.nil _ _⟩
  ·exact⟨g,true,a,b,c,by rw[d];rfl,by rw[d];rfl,by rw[f];rfl,by rw[f];rfl,j⟩
 rw[d,f,A,B];refine⟨_,_,_,_,_,rfl,PA.mk λW C X E=>PS.mk E sM λY H Z I=>PS.mk I sM λJ K s7 u=>?_⟩;have k:ai s J:=(C.new H λn P=>.inr oM).new K λn P=>.inr oM;refine⟨_,_,_,_,ae u rfl,ae u rfl,PC.ok (Mg (j.af k) λn P=>by have:=h.aF n P.1;omega) ?_⟩;rintro _ w8 ⟨L,M,N,G,rfl,O,l,m⟩;have Q:=m.get (k.get z id) id;have z8:=m.size;refine⟨_,_,_,_,rfl,PS.mk Q sM λw9 v s9 R=>PS.mk R sM λa0 x a1 y=>⟨_,_,_,_,ae y rfl,ae y rfl,Ok.mk ⟨L,M,N,G,rfl,?_,?_,?_⟩⟩⟩
 ·exact(O.keep v λn P S=>by have:=l n P;omega).keep x λn P S=>by have:=l n P;omega
 ·intro n P;have:=l n P;omega
 ·exact(((t.then k).then m).new v λn P=>.inr oM).new x λn P=>.inr oM
end
variable{c5:List bA}{a c i q:Nat}{g:TypeId}{c4:bA}{d6:jZ}
section
variable {w w':World} {D D' S:UK} {d:aT} {ta pa:bc} {tn tc pn pc:Nat}
def yx{P a op arg:Int}(S:fw w)(j:bu w D d ta tn pa pn)(T:∀f,D f->f<w.heap.size):
  be 201 #[.agg #[.slice ta tn tc,.slice pa pn pc],WP P,WP a,WP op,WP arg] w (Ok λe w'=>e= WP (mg d P a op arg)/\ai w w'):=by
 refine DN (PA.mk λw1 B s1 C=>⟨_,_,_,_,_,_,ae C rfl,ae C rfl,PC.ok (pL (j.af B) λf s=>by have:=T f s;omega) ?_⟩);rintro e w2 ⟨U,p⟩;have q:=B.then U
 cases k:d.Ec P a with
 |none=>
  rw[k]at p;refine cA (JY Yh none 0 0) ⟨_,p,PA.mk λV t W u=>aD (gS _ _ _ _) u rfl λX v Y E=>al.tt rfl (Ok.mk ⟨?_,(q.then t).new v λf s=>.inr (by have:=q.size;omega)⟩)⟩;unfold mg;rw[k]
 |some g=>
  rw[k]at p;obtain⟨r,h,F,a5,rfl,Z,hF⟩:=p;have x:mg d P a op arg=if !within op 1 5||rK op !=g.kind then 2 else if op==1&&arg==0||op==5&& !within arg 0 (g.bG.length-1)then 1 else 0:=by unfold mg;rw[k]
  have hz:=q.size;refine cA (JY g r h F) ⟨_,rfl,PA.mk λV t W u=>aD (gS g r h F) u rfl λX v Y E=>al.ff rfl λy H=>PC.ok cE ?_⟩;rintro _ _ ⟨rfl,rfl⟩;have I:=(cf.keep (S:=λ_=>False) H).get E id;have J:ai w y:=((q.then t).new v λf s=>.inr oM).then H.keep;have n:∀z:Int,mg d P a op arg=z->Ok (λe w'=>e= WP (mg d P a op arg)/\ai w w') (.returned (WP z)) y:=λz j=>Ok.mk ⟨by rw[j],J⟩;refine⟨_,rfl,al.not (al.mk (λc=>?_) (λc=>n 2 (by rw[x,c];rfl)))⟩;have a6:=bH.1 c;refine⟨1,0,rfl,oM,oM,rK op,?_,_,ae I rfl,al.eK (λa0=>n 2 ?_) (λhe=>?_)⟩
  ·have:=(S.af J).kinds op.toNat oM
   rw[Xz,this,Int.toNat_of_nonneg oM]
  ·rw[x,c,Zx (by simpa using a0)]
  have l:mg d P a op arg=if op==1&&arg==0||op==5&& !within arg 0 (g.bG.length-1)then 1 else 0:=by rw[x,c,he];simp
  have hn:h=g.bG.length:=Z.len dC;have a7:h<=140737488355328:=by
   obtain⟨a1,Nv,K,-⟩:∃(r:bc) (h:Nat),Row jv 32 w D r h g.bG/\True:=by
    obtain⟨i,m,a8,a3,a9,A,h3,h4⟩:=aT.wV k;have b0:=j.aZ.len;obtain⟨f,a2,T',es,rfl,_,_,o,L,b1,n1,c1,rfl,M⟩:=j.aZ.at (i:=P) i oM;rw[a3]at o;cases o
    have b2:=M.len;obtain⟨b3,b4,x',b5,rfl,_,_,N,b6,b7,n2,c2,rfl,hM,_⟩:=M.at (i:=a) A oM;rw[h4]at N;cases N
    exact⟨_,_,hM,trivial⟩
   have m:=K.len;have A:=K.fh;unfold aR at A;omega
  have bG:∀{O:List PanicEntry->ba},op=5->PC LL 97 #[WP arg,WP 0,WP (PP .i64 ((h:Int)-1))] y (λa4 Q=>∃R:Bool,a4= .bool R/\al (!R) (Ok (λe w'=>e= WP (mg d P a op arg)/\ai w w') (.returned (WP 1)) Q) (Ok (λe w'=>e= WP (mg d P a op arg)/\ai w w') (.returned (WP 0)) Q)) O:=by
   intro O b;refine PC.ok cE ?_;rintro _ _ ⟨rfl,rfl⟩;rw[wrap_i64 cw,hn];refine⟨_,rfl,al.not (al.mk (λc=>n 0 ?_) (λc=>n 1 ?_))⟩
   ·rw[l,c,b];rfl
   ·rw[l,c,b];rfl
  refine al.eI (λm=>al.eI (λi=>al.eI (λ_=>n 1 (by rw[l,m,i];rfl)) (λL=>Zz i L)) (λi=>al.eI (λb=>Zz b oM) (λb=>n 0 ?_))) (λm=>al.eI (λb=>⟨_,_,_,ae I rfl,bG b⟩) (λb=>n 0 ?_))
  ·rw[l,Zq (by simp[i,b])]
  ·rw[l,Zq (by simp[m,b])]
def FN{f:bc}(P:Row sL 48 w D f a c5):
  be 100 #[.agg #[.slice f a c],WP e,WP r] w (Ok λi w'=>i= .bool (TB c5 e r)/\ai w w'):=by
 have g:=P.len;have j:=P.fh;unfold aR at j;refine IP (PA.mk λo b p h=>⟨_,_,_,ae h rfl,PC.ok cE ?_⟩);rintro _ _ ⟨rfl,rfl⟩;rw[wrap_i64 cw];refine⟨_,rfl,al.mk (λn=>?_) (λn=>Ok.mk ⟨?_,b⟩)⟩
 ·have q:=bH.1 n
  obtain⟨k,d,s,t,rfl,_,_,l,m,u,v,x,rfl,_⟩:=(P.af b).at (i:=e) oM oM;refine⟨_,_,_,ae h rfl,k,d,rfl,oM,oM,_,m 0 dC,Ok.mk ⟨?_,b⟩⟩;unfold TB;rw[<-g,n,l];rfl
 ·unfold TB;rw[<-g,n];rfl
def UX(P:1<=e/\e<=4)(a:1<=r/\r<=3):∃n:Int,(∀w',(do eqGuard .shr 3 (.tmp 19) (.tmp 21) (WP (([0,2,14,6,6]:List Int).getD e.toNat 0)) (WP r);binOp .shr 3 (WP (([0,2,14,6,6]:List Int).getD e.toNat 0)) (WP r):Sem Value).run LL w'= .ok (WP n) w')/\((GH .i64 n 1==0)= !SO e r):=by
 refine⟨(([0,2,14,6,6]:List Int).getD e.toNat 0).fdiv (2 ^ r.toNat),?_,?_⟩<;>rcases(by omega:e=1\/e=2\/e=3\/e=4)with rfl|rfl|rfl|rfl<;>rcases(by omega:r=1\/r=2\/r=3)with rfl|rfl|rfl<;>first
  |(intro w';kernel_rfl)
  |decide
def MR(m:kY):Bool:=decide (m.bM<0)||decide (m.mL<0)||m.mq== -1&&m.least !=0
def UY{b:kY}:be 98 (#[]++ #[.agg (oN b).toArray]++ #[]) w (Ok λe w'=>e= .bool (MR b)/\ai w w'):=by
 refine xz (PA.mk λf P g a=>⟨_,ae a rfl,al.dec (λn=>Ok.mk ⟨by simp[MR,n],P⟩) (λc=>⟨_,ae a rfl,al.dec (λn=>Ok.mk ⟨by simp[MR,n],P⟩) (λd=>⟨_,ae a rfl,al.eI (λn=>⟨_,ae a rfl,Ok.mk ⟨by simp[MR,c,d,n],P⟩⟩) (λn=>Ok.mk ⟨by simp[MR,c,d,n],P⟩)⟩)⟩)⟩)
def Kl(P:List bA)(n:kY):Bool:=n.mq != -1&& !TB P n.mq 1
def UZ{P:kY}{d:bc}(f:Row sL 48 w D d c c5)(h:w.heap[a]? =some (.cells #[.slice d c i] g (0,0))):
  be 99 (#[]++ #[.agg (oN P).toArray]++ #[RK a]) w (Ok λj w'=>j= .bool (Kl c5 P)/\ai w w'):=by
 refine xA (PA.mk λl n m e=>⟨_,ae e rfl,al.eK (λb=>⟨_,_,_,ae (n.get h id) rfl,_,ae e rfl,PC.ok (FN (f.af n)) ?_⟩) (λb=>Ok.mk ⟨by simp[Kl,b],n⟩)⟩);rintro _ o ⟨rfl,k⟩;exact⟨_,rfl,Ok.mk ⟨by unfold Kl;rw[show(P.mq != -1)=true by simpa using b];simp,n.then k⟩⟩
def HF{y z:bc}(H:fw w)(I:Row sL 48 w D y a c5)(A:Row jv 32 w D z i c4.bG):
  be 67 #[.agg #[.slice y a c],.agg (ft c4 z i q).toArray] w (Ok λo w'=>o= WP (fL c5 c4)/\ai w w'):=by
 refine Bv (PA.mk λV J W K=>PA.mk λp B X r=>⟨_,ae r rfl,PC.ok cE ?_⟩);rintro _ _ ⟨rfl,rfl⟩;have C:=J.then B;refine⟨_,rfl,al.not (al.mk (λe=>?_) (λe=>Ok.mk ⟨by unfold fL;rw[e];rfl,C⟩))⟩;have s:=bH.1 e;refine⟨λw'=>ai w w'/\p.heap.size<=w'.heap.size/\ai p w'/\within c4.d_ 1 3=true/\SO c4.kind c4.d_=true/\(c4.floor&&c4.kind !=1)=false,λk E=>?_,?_⟩
 ·have b:=(cf.keep (S:=λ_=>False) E).get r id
  have d:ai p k:=E.keep;have n:ai w k:=C.then d;have f:fL c5 c4=1->Ok (λo w'=>o= WP (fL c5 c4)/\ai w w') (.returned (WP 1)) k:=λh=>Ok.mk ⟨by rw[h],n⟩;refine⟨_,ae b rfl,PC.ok cE ?_⟩;rintro _ _ ⟨rfl,rfl⟩;refine⟨_,rfl,al.not (al.mk (λP=>?_) (λP=>f (by unfold fL;rw[e,P];rfl)))⟩;have t:=bH.1 P;obtain⟨L,M,N⟩:=UX s t;refine⟨_,ae b rfl,0,0,rfl,oM,oM,_,by rw[Xz];exact(H.af n).Yi c4.kind.toNat oM,_,ae b rfl,L,M,?_⟩;refine al.mk (λl=>?_) (λl=>?_)<;>rw[N]at l
  ·exact f (by unfold fL;rw[e,P,show SO c4.kind c4.d_=false by simpa using l];rfl)
  have j:SO c4.kind c4.d_=true:=by simpa using l
  refine⟨_,ae b rfl,al.mk (λu=>⟨_,ae b rfl,al.eK (λO=>f ?_) (λQ=>⟨n,d.size,d,P,j,by simp[Q]⟩)⟩) (λu=>⟨n,d.size,d,P,j,by simp[u]⟩)⟩;unfold fL;rw[e,P,j,u];simp[O]
 ·rintro Y k ⟨n,Z,d,P,j,R⟩
  have b:=d.get r id;have v:fL c5 c4=if c4.bG.any MR then 1 else if c4.bG.any (Kl c5)then 8 else 0:=by
   unfold fL;rw[e,P,j,R];rfl
  refine⟨_,_,_,ae b rfl,PC.ok (Kk (p:=MR) (A.af n) kR λS T g=>UY) ?_⟩;rintro _ T ⟨rfl,g⟩;refine⟨_,rfl,al.mk (λh=>Ok.mk ⟨by rw[v,Zx h],n.then g⟩) (λh=>⟨_,_,_,ae (g.get b id) rfl,PC.ok (Kk (p:=Kl c5) (A.af (n.then g)) kR λS U m=>UZ (I.af ((n.then g).then m)) (m.get (g.get (d.get (B.get K id) id) id) id)) ?_⟩)⟩;rintro _ U ⟨rfl,m⟩;have F:=(n.then g).then m;exact⟨_,rfl,al.mk (λx=>Ok.mk ⟨by rw[v,h,x];rfl,F⟩) (λx=>Ok.mk ⟨by rw[v,h,x];rfl,F⟩)⟩
def WO{n a kind:Int}(b:(d.Ec n a).isSome):∃P,d.types[n.toNat]? =some P/\d.at n=P/\0<=n/\n<d.types.length:=by
 obtain⟨i,c⟩:=Option.isSome_iff_exists.1 b;obtain⟨e,f,P,g,h,_⟩:=aT.wV c;exact⟨P,g,h,e,f⟩
def HG(r:bu w D d ta tn pa pn)(O:∀n,D n->n<w.heap.size):
  be 68 #[.agg #[.slice ta tn tc,.slice pa pn pc],.agg (oL d6).toArray] w (Ok λC w'=>C= WP (mY d d6)/\ai w w'):=by
 refine Bw (PA.mk λZ E s1 s=>PA.mk λw2 g s2 l=>⟨_,_,_,_,_,_,ae (g.get s id) rfl,ae (g.get s id) rfl,_,ae l rfl,_,ae l rfl,PC.ok (pL (r.af (E.then g)) λn b=>by have:=O n b;omega) ?_⟩);rintro C w3 ⟨h,m⟩;have t:=(E.then g).then h;have hz:=h.size
 cases i:d.Ec d6.aZ d6.field with
 |none=>
  rw[i]at m;refine cA (JY Yh none 0 0) ⟨_,m,PA.mk λQ c R u=>aD (gS _ _ _ _) u rfl λo e S T=>al.tt rfl (Ok.mk ⟨?_,(t.then c).new e λn b=>.inr oM⟩)⟩;unfold mY;rw[i];rfl
 |some F=>
  rw[i]at m;obtain⟨H,I,J,a0,rfl,ho,hF⟩:=m;have K:(d.Ec d6.aZ d6.field).isNone=false:=by rw[i];rfl
  refine cA (JY F H I J) ⟨_,rfl,PA.mk λQ c R u=>aD (gS F H I J) u rfl λo e S T=>al.ff rfl ⟨λn w'=>n=(d6.group==3&& !TB (d.at d6.aZ) d6.FY 2||d6.group !=3&&d6.FY !=0)/\ai o w',?_,?_⟩⟩
  ·have U:ai w o:=(t.then c).new e λn b=>.inr oM
   intro v V;have P:ai o v:=V.keep;have W:=P.get (e.get (c.get (h.get (g.get s id) id) id) oM) id;have a:=P.get (e.get (c.get (h.get l id) id) oM) id;refine⟨_,ae a rfl,al.eI (λf=>⟨_,_,_,ae W rfl,_,ae a rfl,?_⟩) (λf=>⟨_,ae a rfl,al.eK (λ_=>⟨_,ae a rfl,?_,P⟩) (λj=>Zz j f)⟩)⟩
   ·obtain⟨a1,X,L,M,h1⟩:=WO (kind:=0) (by rw[i];rfl:(d.Ec d6.aZ d6.field).isSome)
    have hl:=r.aZ.len;obtain⟨n,x,T',es,rfl,_,_,k,j,a2,n1,c1,rfl,Y⟩:=((r.af (U.then P)).aZ).at (i:=d6.aZ) M oM;rw[X]at k;cases k
    have N:=j 0 dC;simp only[nJ,Nat.mul_one,Nat.add_zero]at N;refine⟨n,x,rfl,M,oM,_,_,_,N,_,ae a rfl,PC.ok (FN Y) ?_⟩;rintro _ w7 ⟨rfl,y⟩;refine⟨_,rfl,al.not (al.mk (λz=>⟨_,ae (y.get a id) rfl,al.eK (λj=>Zz f j) (λ_=>⟨?_,P.then y⟩)⟩) (λz=>⟨?_,P.then y⟩))⟩
    ·rw[L,z,f];rfl
    ·rw[L,z,f];rfl
   ·rw[show(d6.group==3)=false by simpa using f,show(d6.group !=3)=true by simpa using f];rfl
  ·rintro n a3 v ⟨rfl,P⟩
   have p:ai w v:=((t.then c).new e λn b=>.inr oM).then P;have a:=P.get (e.get (c.get (h.get l id) id) oM) id;refine al.mk (λb=>Ok.mk ⟨by unfold mY;rw[K,Zq sM,Zx b],p⟩) (λb=>⟨_,ae a rfl,PC.ok cE ?_⟩);have A:mY d d6=if !within d6.group 1 3|| !within d6.make 1 5 then 2 else 0:=by unfold mY;rw[K,Zq sM,b];rfl
   rintro _ _ ⟨rfl,rfl⟩;refine⟨_,rfl,al.not (al.mk (λq=>⟨_,ae a rfl,PC.ok cE ?_⟩) (λq=>Ok.mk ⟨by rw[A,q];rfl,p⟩))⟩;rintro _ _ ⟨rfl,rfl⟩;exact⟨_,rfl,al.not (al.mk (λB=>Ok.mk ⟨by rw[A,q,B];rfl,p⟩) (λB=>Ok.mk ⟨by rw[A,q,B];rfl,p⟩))⟩
end
def Vl(n:Int×Int×Int):iQ LL 350 [WP n.1,WP n.2.1,WP n.2.2]=true:=kR
def Kz{n b:Type}[BEq n][LawfulBEq n]{P:n}{e c:b}:∀a:List (n×b),aJ (aJ a P e) P c=aJ a P c
 |[]=>by simp[aJ]
 |(f,g)::a=>by
  by_cases d:P==f
  ·simp[d,aJ]
  ·simp[d,aJ,Kz a]
variable{K:Bool}{d3:Int×Int}{b:World}{l:ah}
section
variable {w w':World} {p:Nat} {F T D:UK} {V:bf} {q:FU}
def HN(w:World)(p:Nat)(F D:UK)(V:bf)(n:ah)(b:Value)(w':World):Prop:=
 b= .tuple #[.bool (V.try n).1,.agg #[WP (V.try n).2.1.1,WP (V.try n).2.1.2]]/\∃a,cJ w' p a (V.try n).2.2/\aj F w w'/\∀P,a P->F P\/D P\/w.heap.size<=P
def Tu(a:cJ w p F V)(n:ai w w')(P:V.try l=(K,d3,V)):Ok (HN w p F D V l) (.returned (.tuple #[.bool K,.agg #[WP d3.1,WP d3.2]])) w':=by
 refine Ok.mk ⟨by rw[P],F,?_,ai.keep n,λK b=>.inl b⟩;rw[P];exact a.af n
def FV(h:zr b p F V q)(n:Int×Int×Int):∃P a c d,(an q.l2 n).getD (.slice none 0 0)= .slice P a c/\(an V.done n).getD []=d/\(aU lb 63 (q.P F (.done n)) b P a c d):=by
 rcases h.YG.an n with⟨e,f⟩|⟨k,d,e,f,P,a,c,rfl,j⟩
 ·exact⟨none,0,0,[],by rw[e];rfl,by rw[f];rfl,(aU.nil b).mono (λi g=>g.elim) λi g=>h.aF i g.1⟩
 ·exact⟨P,a,c,d,by rw[e];rfl,by rw[f];rfl,j⟩
def Tv(b:cJ w p F V)(hT:fw w)(hr:Row aP 8 w D d a l.aN)(C:∀n,D n->n<w.heap.size/\¬F n)(he:l.Ok)(P:((an V.done (l.aZ,l.agg,l.field)).getD []).length<=20000000):
  be 199 #[RK p,kU l d a c] w (Ok (HN w p F D V l)):=by
 have l0:=b;obtain⟨hV,q,b⟩:=b;have f:=b.aF;have B9:=f _ b.lp.1;refine zU (PA.mk λE t7 C0 t8=>PA.mk λo4 o5 C1 t9=>λl3 o6=>?_);have l4:ai o4 l3:=o6.keep;have C2:l3.heap.size=o4.heap.size:=by rw[o6.heap]
 have k0:ai w l3:=(t7.then o5).then l4;have ge:=l4.get (o5.get t8 id) id;have gb:=l4.get t9 id;have Q:=b.af k0;refine⟨p,0,rfl,_,_,_,_,_,_,ae Q.at' rfl,ae Q.at' rfl,_,ae ge rfl,_,ae ge rfl,_,ae ge rfl,_,ae ge rfl,PC.ok (yx (hT.af k0) Q.Tt λn P=>Q.aF n P.1) ?_⟩;rintro _ R ⟨rfl,S⟩;have k1:=k0.then S;have C3:=S.size;have c1:=S.get gb id;have c3:=S.get ge id;have k:∀{w1:World} {i:Int×Int} {n:Bool},ai R w1->V.try l=(n,i,V)->∀w2,cf w1 w2->∀(x H:Int),x=i.1->H=i.2->PS w2 ⟨E.heap.size,0,none⟩ (WP x) λw3=>PS w3 ⟨E.heap.size,0+1,none⟩ (WP H) λw4=>∃(o7 o8:Int),w4.cell? ⟨E.heap.size,0,none⟩=some (WP o7)/\w4.cell? ⟨E.heap.size,0+1,none⟩=some (WP o8)/\Ok (HN w p F D V l) (.returned (.tuple #[.bool n,.agg #[WP o7,WP o8]])) w4:=λ{w1 i n} hk I w2 f9 x H hx j=>by
  have k2:ai w1 w2:=f9.keep;have kk:=(k1.then hk).then k2;have g2:=k2.get (hk.get c1 id) id;subst hx j;refine PS.mk g2 sM λw3 k3 s3 g3=>PS.mk g3 sM λw4 J s4 g4=>⟨_,_,ae g4 rfl,ae g4 rfl,Tu l0 ((kk.new k3 λn P=>.inr oM).new J λn P=>.inr oM) I⟩
 refine⟨_,rfl,al.eK (λd6=>λu0 o9=>?_) (λg7=>?_)⟩
 ·have p0:=(o9.keep (S:=λ_=>False)).get c1 id
  exact⟨_,_,ae p0 rfl,ae p0 rfl,k (i:=(0,0)) (aj.refl _) (by rw[bf.sG,Zx d6]) u0 o9 _ _ rfl rfl⟩
 obtain⟨c4,t0,t1,C4⟩:=Of hV.decl g7 (hV.len l);obtain⟨v,p1⟩:∃v:Nat,l.aZ=v:=⟨l.aZ.toNat,oM⟩
 have l5:=c4.f0;have l6:=c4.f1;obtain⟨fi,g0⟩:∃fi:Nat,l.field=fi:=⟨l.field.toNat,oM⟩
 have u1:V.decl.at l.aZ=V.decl.types.getD v []:=by
  unfold aT.at;rw[Zx (bH.2 ⟨t0,oM⟩),p1,Qx]
 obtain⟨tb,mL,es,u2,u3,p2,u4,fa,fn,fc,rfl,y⟩:=(Q.af S).Tt.aZ.el v V.decl.types[v] sM;have y:Row sL 48 R (q.P F .Tt) fa fn (V.decl.at l.aZ):=by
  rw[u1];have:V.decl.types.getD v []=V.decl.types[v]:=by simp[QQ,show v<V.decl.types.length by omega]
  rw[this];exact y
 have C5:=(Q.af S).Tt.aZ.len;have g8:=u4 0 dC;have u5:nJ.k=1:=rfl;rw[u5,Nat.mul_one]at g8;have u6:=f tb p2.1;refine⟨λT u7 ab ao w'=>u7=0/\ao=0/\ai R w'/\w'.heap[T]? =some (.cells #[.slice fa fn fc] 118 (0,0))/\w'.heap[ab]? =some (.cells #[WP l.aZ,WP l.agg,WP l.field] 350 (0,0))/\R.heap.size<=T/\R.heap.size<=ab,?_,?_⟩
 ·intro K p3
  have d7:ai R K:=p3.keep;have C6:K.heap.size=R.heap.size:=by rw[p3.heap]
  have p4:=(Q.af S).af d7;have c5:=d7.get c3 id;refine⟨λn=>K.heap.size<=n,p,0,rfl,oM,_,_,_,ae p4.at' rfl,by show¬K.heap.size<=w.heap.size;omega,_,ae c5 rfl,tb,mL,u2,t0,by omega,by show¬K.heap.size<=tb;omega,fa,fn,fc,?_,by show¬K.heap.size<=w.heap.size;omega,_,ae c5 rfl,by show¬K.heap.size<=w.heap.size;omega,_,ae c5 rfl,by show¬K.heap.size<=w.heap.size;omega,_,ae c5 rfl,?_,?_⟩
  ·rw[p1,Qx]
   exact(d7.cell (a:=⟨tb,mL+v,none⟩) u3 id).trans g8
  ·refine PA.mk λu9 d8 v0 l7=>⟨ai.keep d8,PA.mk λv1 U v2 l8=>⟨ai.keep U,PS.mk (U.get l7 id) sM λv3 W v4 l9=>⟨W.mono λn _ l=>oM,aD (Vl (l.aZ,l.agg,l.field)) (W.get l8 oM) rfl λv5 X v6 m0=>⟨X.mono λn _ l=>oM,rfl,rfl,?_,X.get l9 oM,m0,oM,oM⟩⟩⟩⟩
   exact(((d7.then d8).then U).new W λn P=>.inr oM).new X λn P=>.inr oM
  ·refine PA.mk λu9 d8 v0 l7=>⟨ai.keep d8,PA.mk λv1 U v2 l8=>⟨ai.keep U,PS.mk l8 sM λv3 W v4 l9=>⟨W.mono λn _ l=>oM,aD (Vl (l.aZ,l.agg,l.field)) (W.get (U.get l7 id) oM) rfl λv5 X v6 m0=>⟨X.mono λn _ l=>oM,rfl,rfl,?_,X.get l9 oM,m0,oM,oM⟩⟩⟩⟩
   exact(((d7.then d8).then U).new W λn P=>.inr oM).new X λn P=>.inr oM
 rintro T _ ab _ _ p5 ⟨rfl,rfl,p6,p7,g9,y6,C7⟩;have k2:=k1.then p6;have d9:=b.af k2;obtain⟨da,dn,dc,h,v7,m1,p8⟩:=FV d9 (l.aZ,l.agg,l.field);rw[m1]at P;refine⟨p,0,rfl,_,ae d9.at' rfl,ar (cs:=[WP l.aZ,WP l.agg,WP l.field]) (Vl (l.aZ,l.agg,l.field)) g9 ⟨da,dn,dc,λb1=>?_,λp9 v8=>?_⟩⟩
 ·have:=eN tDn ZR (d9.dn.af (aj.drewN p5 b1)) (l.aZ,l.agg,l.field) false
  rw[v7]at this;exact this
 have g1:ai p5 p9:=v8.keep;have C8:=p8.len dC;have m2:=(p8.af g1).row (bytes:=96) dC ce;refine⟨λb1 a5 w'=>∃g:Nat,a5=g/\g<=dn/\b1=dn-g/\(∀x∈h.take g,nw ((V.decl.at l.aZ).getD l.field.toNat ⟨0,0,false,[]⟩) x l=false)/\ai p9 w',⟨_,0,rfl,Qj _,rfl,sM,aj.refl _⟩,?_⟩;rintro b1 _ _ m3 ⟨g,rfl,hj,rfl,e0,e1⟩;have k3:=(p6.then g1).then e1;have h0:=e1.get (g1.get p7 id) id;have q0:=e1.get (g1.get g9 id) id;have h6:=k3.get c3 id;have c7:∀{r:Bool×(Int×Int)×bf},(match h.find? λx=>nw ((V.decl.at l.aZ).getD l.field.toNat ⟨0,0,false,[]⟩) x l with
  |some x=>(true,bd x,V)
  |none=>if xj (V.decl.at l.aZ) (V.cellsOf l) l.field l.op l.arg≠0 then(true,(0,0),V)else
   (false,(0,0),{V with eT:=aJ V.eT (l.aZ,l.agg) ⟨qf (((an V.eT (l.aZ,l.agg)).getD ⟨0,[]⟩).version+1),TN (V.decl.at l.aZ) (V.cellsOf l) l.field l.op l.arg⟩,done:=aJ V.done (l.aZ,l.agg,l.field) (h++[l])}))=r->V.try l=r:=λ{r} hr=>by
  rw[bf.sG,Zq (by simpa using g7),m1];exact hr
 refine al.dec (λC9=>?_) (λD0=>?_)
 ·have g5:g<h.length:=oM
  obtain⟨db,b5,es,v9,D1,D2,q1,xa,xn,xc,rfl,q2,q3⟩:=(m2.af e1).el g h[g] (Qq g5);have g6:h[g]? =some h[g]:=Qq g5;generalize h[g]=x at q1 q2 q3 g6;refine⟨db,b5,v9,oM,oM,cx (es:=aI x xa xn xc) (k:=10) (bh x xa xn xc) rfl (λa5 I=>q1 a5 I) (PA.mk λD3 x0 D4 x1=>aD (bh x xa xn xc) x1 rfl λq4 x2 D5 x3=>λx4 x5=>?_)⟩;have m4:ai m3 q4:=x0.new x2 λn P=>.inr oM;have q5:ai q4 x4:=x5.keep;have J:=m4.then q5;have e2:=k3.then J;obtain⟨fb,fo,b6,b7,b8,x6,D6,D7,h1,h2,h3,h4,D8⟩:=Gs (y.af e2) (i:=fi) (by rw[y.len];omega);have h7:=q5.get x3 id;refine⟨_,_,_,ae (J.get h0 id) rfl,_,ae (J.get h6 id) rfl,fb,fo,x6,l5,by rw[y.len];exact l6,?_⟩;rw[g0,Qx];refine cx (es:=ft ((V.decl.at l.aZ).getD fi ⟨0,0,false,[]⟩) b6 b7 b8) (k:=4) (gS _ _ _ _) rfl (λa5 I=>?_) (ar (bh x xa xn xc) h7 (ar (bh l d a c) (J.get h6 id) (PC.ok (BN (q2.af J) ((hr.af k1).af e2)) ?_)))
  ·match a5,I with
   |0,_=>exact h1
   |1,_=>exact h2
   |2,_=>exact h3
   |3,_=>exact h4
  rintro _ D9 ⟨rfl,m5⟩;have x7:(V.decl.at l.aZ).getD fi ⟨0,0,false,[]⟩=(V.decl.at l.aZ).getD l.field.toNat ⟨0,0,false,[]⟩:=by rw[g0,Qx]
  rw[x7];refine⟨_,rfl,al.mk (λhv=>λx8 q6=>?_) (λhv=>⟨_,?_,g+1,aq oM,oM,rfl,λH j=>?_,(e1.then J).then m5⟩)⟩
  ·have q7:=(q6.keep (S:=λ_=>False)).get (m5.get h7 id) id
   refine⟨_,_,ae q7 rfl,ae q7 rfl,k (e2.then m5) (i:=bd x) (c7 ?_) x8 q6 _ _ rfl rfl⟩;have hf:h.find? (λx=>nw ((V.decl.at l.aZ).getD l.field.toNat ⟨0,0,false,[]⟩) x l)=some x:=by
    rw[List.find?_eq_some_iff_append];refine⟨hv,h.take g,h.drop (g+1),?_,λH j=>by rw[e0 H j];rfl⟩;rw[<-ZX g h]
    congr 1
    ·rw[ZX]
    ·rw[ZX,X4 g5]
     congr 1
     rw[Qq g5]at g6;exact XJ g6
   rw[hf]
  ·omega
  ·rw[Qw,g6]at j
   rcases Q6.1 j with j|j
   ·first|exact e0 H j|(rw[<-g0];exact e0 H j)
   ·simp at j;subst j;first|exact hv|(rw[<-g0];exact hv)
 ·have E0:g=dn:=oM
  rw[Qz oM]at e0;have m6:h.find? (λx=>nw ((V.decl.at l.aZ).getD l.field.toNat ⟨0,0,false,[]⟩) x l)=none:=List.find?_eq_none.2 λx hx=>by rw[e0 x hx];simp
  rw[m6]at c7;intro Y h8;have c8:ai m3 Y:=h8.keep;have y7:Y.heap.size=m3.heap.size:=by rw[h8.heap]
  have k5:=k3.then c8;have e8:=k1.then k5;have z5:=k5.size;have z3:=k3.size;have b9:=b.af e8;have b2:=c8.get q0 id;have c0:=c8.get h0 id;have m7:=k5.get c3 id;have E1:=c8.size;have y8:=aA b2;have y9:=aA c0;obtain⟨s,n,m,o,z,e,Z,h5,k4,d4⟩:∃(s:pJ) (n:Bool) (m:bc) (o z:Nat),(an q.l1 (l.aZ,l.agg)).getD (.agg #[WP 0,.slice none 0 0])= .agg #[WP s.version,.slice m o z]/\(an q.l1 (l.aZ,l.agg)).isSome=n/\(an V.eT (l.aZ,l.agg)).getD HO=s/\(n=true->V.cellsOf l=s.cells)/\Row gG 32 Y (q.P F .Yr) m o s.cells/\(n=false->V.cellsOf l=ef (V.decl.at l.aZ)):=by
   unfold bf.cellsOf;rcases b9.Ys.an (l.aZ,l.agg)with⟨e,Z⟩|⟨f0,s,e,Z,m,o,z,rfl,hr⟩
   ·exact⟨HO,false,none,0,0,by rw[e];rfl,by rw[e];rfl,by rw[Z];rfl,λb=>(by cases b),Row.nil _ _,λ_=>by rw[Z]⟩
   ·exact⟨s,true,m,o,z,by rw[e];rfl,by rw[e];rfl,by rw[Z];rfl,λ_=>by rw[Z],hr,λb=>(by cases b)⟩
  obtain⟨d4,l1⟩:=d4;refine⟨λn=>n=Y.heap.size,p,0,rfl,oM,_,ae b9.at' rfl,oM,_,_,ae b2 rfl,ae b2 rfl,s.version,m,o,z,n,λw' hk=>?_,PA.mk λz0 h9 z2 q8=>⟨ai.keep h9,PS.mk q8 sM λz4 i0 z7 q9=>PS.mk q9 sM λr0 i1 z8 i2=>⟨i0.then i1,?_⟩⟩⟩
  ·have:=eN ZS WW (b9.st.keep hk (by have:=f _ b.l1.1;omega)) (l.aZ,l.agg) true
   rw[e,Z]at this;exact this
  have k6:ai Y r0:=(h9.new i0 λn P=>.inr oM).new i1 λn P=>.inr oM;refine⟨λw'=>ai Y w'/\∃m o z Dc,w'.heap[Y.heap.size]? =some (.cells #[WP s.version,.slice m o z] 49 (0,0))/\Row gG 32 w' Dc m o (V.cellsOf l)/\∀n,Dc n->n<w'.heap.size,?_,?_⟩
  ·refine al.not (al.mk (λx9=>⟨k6,m,o,z,_,i2,by rw[k4 x9];exact d4.af k6,λn P=>by have:=f n P.1;have:=k6.size;have:=e8.size;omega⟩) (λy0=>⟨_,_,_,ae (k6.get c0 id) rfl,PC.ok (Im (t:=V.decl.at l.aZ) rfl (y.len) (by rw[y.len];omega)) ?_⟩))
   rintro _ z9 ⟨l2,n6,m8,G6,rfl,r3,k7,y1⟩;have z6:=k6.size;refine⟨_,_,_,rfl,PS.mk (k7.get i2 id) sM λA0 i3 A1 r4=>⟨(k6.then k7).new i3 λn P=>.inr oM,l2,n6,m8,G6,r4,?_,λn P=>by have:=r3.aF n P;omega⟩⟩;rw[l1 y0];exact(r3.keep i3 λn P l=>by have:=y1 n P;omega).row dC (by unfold aR ef;simp;omega)
  rintro _ A2 ⟨a3,m,o,z,Dc,f1,d4,y2⟩;have A3:=a3.size;have f2:=k5.then a3;have f3:=a3.get c0 id;have m9:=a3.get b2 id;have c2:=a3.get m7 id;refine⟨_,_,_,ae f3 rfl,_,_,_,ae f1 rfl,_,ae c2 rfl,_,ae c2 rfl,_,ae c2 rfl,PC.ok (Il c4 (y.af f2) d4) ?_⟩;rintro _ r5 ⟨rfl,a0⟩;have k8:=f2.then a0;refine⟨_,rfl,al.eK (λd6=>λr6 i4=>?_) (λy3=>λc9 r7=>?_)⟩
  ·have i5:=(i4.keep (S:=λ_=>False)).get (k8.get c1 id) id
   refine⟨_,_,ae i5 rfl,ae i5 rfl,k (i:=(0,0)) k8 (c7 ?_) r6 i4 _ _ rfl rfl⟩;simp only;rw[Zx d6]
  have f4:xj (V.decl.at l.aZ) (V.cellsOf l) l.field l.op l.arg=0:=y3;have a1:ai r5 c9:=r7.keep;have k9:=k8.then a1;have n0:=(a3.then a0).then a1;have c6:=k1.then k9;have n1:=b.af c6;have b3:=k9.get c3 id;have d2:=(a0.then a1).get m9 id;have n3:=(a0.then a1).get f3 id;have f5:=(a0.then a1).get f1 id;have E2:=f _ b.l1.1;have E3:=f _ b.l2.1;have A4:=n0.size;have y4:=c6.size;have e9:¬p=q.r1:=λl=>by have e:=b.lp.2;rw[l,b.l1.2]at e;cases e
  have i6:¬p=q.r2:=λl=>by have e:=b.lp.2;rw[l,b.l2.2]at e;cases e
  have i7:¬q.r1=q.r2:=λl=>by have e:=b.l1.2;rw[l,b.l2.2]at e;cases e
  refine⟨λn=>n=q.r1,p,0,rfl,e9,_,ae n1.at' rfl,oM,_,_,ae d2 rfl,ae d2 rfl,oM,_,ae f5 rfl,_,_,_,ae n3 rfl,_,_,_,ae f5 rfl,_,ae b3 rfl,_,ae b3 rfl,_,ae b3 rfl,PC.ok (TP c4 f4 he.arg oM (y.af k9) (λn P=>by have:=f n P.1;omega) (d4.af (a0.then a1)) λn P=>by have:=y2 n P;have:=(a0.then a1).size;omega) ?_⟩;rintro _ a6 ⟨r8,r9,s0,G,rfl,i8,a4,hG⟩;have e3:=c6.then a4;have t:=b.af e3;have A5:=a4.size;refine⟨_,_,_,rfl,ai.keep a4,dB (enc:=pX) (k:=(l.aZ,l.agg)) ZS WW t.st λi9 s1 j0 A6=>⟨j0,λd0 j1=>?_⟩⟩;have j2:ai i9 d0:=j1.keep;have A7:d0.heap.size=i9.heap.size:=by rw[j1.heap]
  have A:aj (·=q.r1) a6 d0:=j0.af j2;have key:∀n,F n/\q.cls n= .done (l.aZ,l.agg,l.field)->n≠p/\n≠q.r1/\n≠q.r2:=λn P=>
   ⟨λl=>(by have e:=b.lp.2;rw[<-l,P.2]at e;cases e),λl=>(by have e:=b.l1.2;rw[<-l,P.2]at e;cases e),λl=>(by have e:=b.l2.2;rw[<-l,P.2]at e;cases e)⟩
  have n4:=A.get t.at' e9;have n5:=A.get (a4.get d2 id) oM;have u:=A.get (a4.get b3 id) oM;have n8:=t.dn.keep A (λl=>i7 l.symm);have n9:=A.get (a4.get (k9.get c1 id) id) oM;obtain⟨a2,a7,e4,n7,s2,j3,j4⟩:=FV t (l.aZ,l.agg,l.field);rw[m1]at j3;subst j3;have o0:=j4.keep A λn P l=>(key n P).2.1 l;have A8:=A.size;refine⟨λn=>n=q.r2\/(F n/\q.cls n= .done (l.aZ,l.agg,l.field)),p,0,rfl,λB=>B.elim i6 λB=>(key p B).1 rfl,_,ae n4 rfl,λB=>B.elim (λl=>oM) λB=>by have:=f _ B.1;omega,
   ar (cs:=[WP l.aZ,WP l.agg,WP l.field]) (Vl (l.aZ,l.agg,l.field)) n5 ⟨_,_,_,_,_,_,_,_,_,_,_,_,ae u rfl,ae u rfl,ae u rfl,ae u rfl,ae u rfl,ae u rfl,ae u rfl,ae u rfl,ae u rfl,ae u rfl,
   PA.mk λA9 a8 B0 s5=>⟨ai.keep a8,Hs (enc:=Df) (k:=(l.aZ,l.agg,l.field)) tDn ZR (n8.af a8) λB1 x s6 o1 a9 B2=>⟨a2,a7,e4,x,by rw[s2],a9.mono λn _ l=>.inl l,?_⟩⟩⟩⟩
  have o2:=(o0.af a8).keep a9 λn P l=>(key n P).2.2 l;have s7:=a9.get s5 oM;have b4:∀n,aG a2=some n->F n/\q.cls n= .done (l.aZ,l.agg,l.field):=λn P=>j4.self n P;have y5:=(((hr.af e3).keep A λn P l=>(C n P).2 (l▸b.l1.1)).af a8).keep a9 λn P l=>(C n P).2 (l▸b.l2.1);refine fM (c:=lb) o2 KF s7 (D:=D) (x:=l) ⟨d,a,c,rfl,y5,he⟩ (λn P=>⟨by have:=(C n P).1;omega,λee=>(C n P).2 (b4 n ee).1⟩) ce (by unfold maxLen;omega) λa' L s8 F2 f7 b0 o3=>⟨_,_,_,rfl,b0.mono λn _ P=>.inr (b4 n P),?_⟩
  have s9:¬aG a2=some q.r2:=λee=>(key _ (b4 _ ee)).2.2 rfl;refine Cx ZR (s6.keep b0 s9) (o1.keep b0 s9) λj5 t2 f6 B3=>⟨f6.mono λn _ l=>.inl l,λd1 j6=>?_⟩
  have f8:ai j5 d1:=j6.keep;have B4:d1.heap.size=j5.heap.size:=by rw[j6.heap]
  have B5:=b0.size;have kb:aj (λn=>n=q.r2\/(F n/\q.cls n= .done (l.aZ,l.agg,l.field))) d0 d1:=((((ai.keep a8).then (a9.mono λn _ l=>.inl l)).then (b0.mono λn _ P=>.inr (b4 n P))).then (f6.mono λn _ l=>.inl l)).then (ai.keep f8);have e5:=kb.get n9 (λB=>B.elim (λl=>oM) λB=>by have:=f _ B.1;omega);refine⟨_,_,ae e5 rfl,ae e5 rfl,PS.mk e5 sM λB6 j7 B7 t3=>PS.mk t3 sM λd3 j8 B8 j9=>⟨_,_,ae j9 rfl,ae j9 rfl,?_⟩⟩;have M:aj (λn=>n=q.r1\/n=q.r2\/(F n/\q.cls n= .done (l.aZ,l.agg,l.field))\/n=E.heap.size) a6 d3:=
   ((A.mono λn _ l=>.inl l).then (kb.mono λn _ P=>P.elim (λl=>.inr (.inl l)) λP=>.inr (.inr (.inl P)))).then ((j7.mono λn _ l=>.inr (.inr (.inr l))).then (j8.mono λn _ l=>.inr (.inr (.inr l))))
  have kc:aj (·=E.heap.size) d1 d3:=j7.then j8;have zT:=M.size;have I:=c7 (r:=(false,(0,0),{V with eT:=aJ V.eT (l.aZ,l.agg) ⟨qf (((an V.eT (l.aZ,l.agg)).getD ⟨0,[]⟩).version+1),TN (V.decl.at l.aZ) (V.cellsOf l) l.field l.op l.arg⟩,done:=aJ V.done (l.aZ,l.agg,l.field) (h++[l])})) (by simp only;rw[Zq (by simpa using f4)]);have t4:=(bf.Tw hV l).1;refine Ok.mk ⟨by rw[I],λn=>n<d3.heap.size/\(F n\/D n\/w.heap.size<=n),?_,?_,λn P=>P.2⟩
  rotate_left
  ·exact(ai.keep e3).trans M (λ_ _ b=>b) λn P hT=>by
    rcases hT with rfl|rfl|hT|rfl
    ·exact b.l1.1
    ·exact b.l2.1
    ·exact hT.1
    ·omega
  rw[I]at t4⊢;have t5:∀n,G n->c9.heap.size<=n/\n<a6.heap.size:=λn P=>⟨hG n P,i8.aF n P⟩
  have N:∀n,F n->n<d3.heap.size:=λn P=>by have:=f n P;omega
  classical
  have O:∀n,F n->(if F n then q.cls n else if c9.heap.size<=n/\n<a6.heap.size then Ky.Yr else Ky.done (l.aZ,l.agg,l.field))=q.cls n:=λn P=>Zx P;refine⟨t4,⟨q.ta,q.tn,q.tc,q.pa,q.pn,q.pc,q.ea,q.en,q.ec,q.r1,q.r2,aJ q.l1 (l.aZ,l.agg) (.agg #[WP (qf (s.version+1)),.slice r8 r9 s0]),aJ q.l2 (l.aZ,l.agg,l.field) (.slice a' (a7+1) L),λn=>if F n then q.cls n else if c9.heap.size<=n/\n<a6.heap.size then Ky.Yr else Ky.done (l.aZ,l.agg,l.field)⟩,?_,?_,?_,?_,?_,?_,?_,λn P=>P.1,⟨⟨N _ b.lp.1,.inl b.lp.1⟩,(O _ b.lp.1).trans b.lp.2⟩,⟨⟨N _ b.l1.1,.inl b.l1.1⟩,(O _ b.l1.1).trans b.l1.2⟩,⟨⟨N _ b.l2.1,.inl b.l2.1⟩,(O _ b.l2.1).trans b.l2.2⟩⟩
  ·exact M.get t.at' λB=>by
    rcases B with B|B|B|B
    ·exact e9 B
    ·exact i6 B
    ·exact(key _ B).1 rfl
    ·omega
  ·refine(t.Tt.keep M λn P B=>?_).mono λn P=>⟨⟨N n P.1,.inl P.1⟩,(O n P.1).trans P.2⟩
   have d5:=f n P.1;rcases B with rfl|rfl|B|B
   ·have:=b.l1.2;rw[P.2]at this;cases this
   ·have:=b.l2.2;rw[P.2]at this;cases this
   ·have:=B.2;rw[P.2]at this;cases this
   ·omega
  ·refine(t.Qo.keep M λn P B=>?_).mono (λn P=>⟨⟨N n P.1,.inl P.1⟩,(O n P.1).trans P.2⟩) λn P=>P.1.1
   have d5:=f n P.1;rcases B with rfl|rfl|B|B
   ·have:=b.l1.2;rw[P.2]at this;cases this
   ·have:=b.l2.2;rw[P.2]at this;cases this
   ·have:=B.2;rw[P.2]at this;cases this
   ·omega
  ·exact((s1.af j2).keep kb λB=>B.elim i7 λB=>(key _ B).2.1 rfl).keep kc oM
  ·refine fK.aJ ?_ ?_
   ·refine⟨r8,r9,s0,by rw[h5],?_⟩
    refine((i8.row (bytes:=32) dC ?_).keep M λn P B=>?_).mono λn P=>?_
    ·rw[Og,hV.len];unfold aR;omega
    ·have d5:=t5 n P
     rcases B with rfl|rfl|B|B
     ·omega
     ·omega
     ·have:=f n B.1;omega
     ·omega
    ·have d5:=t5 n P
     refine⟨⟨oM,.inr (.inr oM)⟩,?_⟩;show(if F n then _ else _)=_;rw[Zq (λhf=>by have:=f n hf;omega),Zx d5]
   ·refine t.Ys.mono λf0 r1 hu=>?_
    obtain⟨e6,n2,e7,rfl,hu⟩:=hu;refine⟨e6,n2,e7,rfl,(hu.keep M λn P B=>?_).mono λn P=>⟨⟨N n P.1,.inl P.1⟩,(O n P.1).trans P.2⟩⟩;have d5:=f n P.1;rcases B with rfl|rfl|B|B
    ·have:=b.l1.2;rw[P.2]at this;cases this
    ·have:=b.l2.2;rw[P.2]at this;cases this
    ·have:=B.2;rw[P.2]at this;cases this
    ·omega
  ·have:=(t2.af f8).keep kc (by show¬q.r2=E.heap.size;omega)
   rw[Kz]at this;exact this
  ·refine pI.aJ ?_ t.YG ?_ t.dn.tidy
   ·refine⟨a',_,L,rfl,?_⟩
    have t6:∀n,F2 n->n<s8.heap.size/\n≠E.heap.size:=λn P=>by
     refine⟨f7.aF n P,λl=>?_⟩;rcases o3 n P with e|e|e
     ·have:=f n e.1;omega
     ·have:=(C n e).1;omega
     ·omega
    refine((f7.keep f6 λn P l=>?_).af f8|>.keep kc λn P l=>(t6 n P).2 l).mono (λn P=>?_) λn P=>P.1.1
    ·rcases o3 n P with e|e|e
     ·exact(key n e).2.2 l
     ·exact(C n e).2 (l▸b.l2.1)
     ·omega
    ·have:=(t6 n P).1
     have hz:=kc.size;rcases o3 n P with e|e|e
     ·exact⟨⟨N n e.1,.inl e.1⟩,(O n e.1).trans e.2⟩
     ·refine⟨⟨oM,.inr (.inl e)⟩,?_⟩
      show(if F n then _ else _)=_;rw[Zq (C n e).2,Zq (by have:=(C n e).1;omega)]
     ·refine⟨⟨oM,.inr (.inr oM)⟩,?_⟩
      show(if F n then _ else _)=_;rw[Zq (λhf=>by have:=f n hf;omega),Zq oM]
   ·intro r2 f0 r1 d6 hu
    obtain⟨e6,n2,e7,rfl,hu⟩:=hu;refine⟨e6,n2,e7,rfl,(hu.keep M λn P B=>?_).mono (λn P=>⟨⟨N n P.1,.inl P.1⟩,(O n P.1).trans P.2⟩) λn P=>P.1.1⟩;have d5:=f n P.1;rcases B with rfl|rfl|B|B
    ·have:=b.l1.2;rw[P.2]at this;cases this
    ·have:=b.l2.2;rw[P.2]at this;cases this
    ·have:=B.2;rw[P.2]at this
     simp only[Ky.done.injEq]at this;exact d6 this
    ·omega
end
variable{f:UK}{e5:bc}
section
variable {w w':World} {p:Nat} {F T D:UK} {V:bf} {q:FU}
abbrev FZ(n:cZ)(P:bc)(a b:Nat):Value:=.agg (lD n P a b).toArray
def HQ(L:cJ w p F V)(hT:fw w)(hr:Row aP 8 w D d a l.aN)(o:∀n,D n->n<w.heap.size/\¬F n)(he:l.Ok)(P:((an V.done (l.aZ,l.agg,l.field)).getD []).length<=20000000)(M:V.entries.length<=20000000):
  be 124 #[RK p,kU l d a c] w (Ok λW w'=>∃d a c G,W=FZ (V.add l).1 d a c/\Row aP 8 w' G d a l.aN/\∃X,cJ w' p X (V.add l).2/\cz F w X w'/\∀n,G n->w.heap.size<=n/\n<w'.heap.size/\¬X n):=by
 have Y:=L.aF;have h3:=Y _ L.self;refine zO (PA.mk λt e6 h4 d1=>PA.mk λh5 Z h6 e7=>?_);have k0:=e6.then Z;refine ar (bh l d a c) (Z.get d1 id) (PC.ok (px (hr.af k0) λn P=>by have:=(o n P).1;omega) ?_);rintro _ h7 ⟨a6,n1,c1,G1,rfl,e8,u,N⟩;have a0:=k0.then N;refine cA (sK l a6 n1 c1) ⟨rfl,PC.ok (Tv (L.af a0) (hT.af a0) e8 (λn P=>⟨(u n P).2,λi=>by have:=Y n i;have:=u n P;omega⟩) he P) ?_⟩;rintro _ v ⟨rfl,e,b8,O,Q⟩;have h8:=N.size;have h9:=O.size;have b0:∀n,e n->F n\/w.heap.size<=n:=λn P=>by
  rcases Q n P with b|b|b
  ·exact .inl b
  ·have:=u n b;exact .inr oM
  ·exact .inr oM
 have b1:aj F w v:=(ai.keep a0).then O;have R:∀{n:Nat},w.heap.size<=n->¬F n:=λ{n} P i=>by have:=Y n i;omega
 have d2:=O.get (N.get (Z.get d1 id) id) (R (Q4 _));have d3:=O.get (N.get e7 id) (R oM);refine⟨_,_,_,rfl,PA.mk λi0 e9 i1 f2=>PS.mk f2 sM λi2 f4 i3 f5=>PS.mk f5 sM λi4 f6 i5 f8=>λx b9=>?_⟩;have A:ai v x:=((e9.new f4 λn P=>.inr oM).new f6 λn P=>.inr oM).then b9.keep;have i6:x.heap.size=v.heap.size+1:=by rw[b9.heap];omega
 have a1:x.heap[v.heap.size]? =some (.cells #[WP (V.try l).2.1.1,WP (V.try l).2.1.2] 46 (0,0)):=(b9.keep (S:=λ_=>False)).get f8 id;have b2:=A.get d2 id;obtain⟨g9,q,f⟩:=b8.af A;have c4:=b8.self;have y:=b8.aF;have b3:=((hr.keep b1 λn P=>(o n P).2).af A)
 have a4:(V.try l).2.2.entries=V.entries:=by
  rw[bf.sG];split;rfl;split;rfl;split<;>rfl
 have i7:=f.Qo.len dC;have B:∀n,aG q.ea=some n->e n/\q.cls n= .Qo:=λn P=>f.Qo.self n P;have C:¬aG q.ea=some p:=λj=>by have b:=(B p j).2;rw[f.lp.2]at b;cases b
 refine⟨λn=>aG q.ea=some n,p,0,rfl,C,_,_,_,ae f.at' rfl,ar (bh l d a c) b2 ⟨λj=>by have:=y _ (B _ j).1;omega,_,_,ae a1 rfl,ae a1 rfl,PC.ok (px b3 λn P=>by have:=(o n P).1;omega) ?_⟩⟩;rintro _ i8 ⟨a7,n2,c2,G2,rfl,g0,z,c5⟩;have i9:=c5.size;refine⟨_,_,_,_,_,_,_,_,_,_,_,_,rfl,ai.keep c5,PA.mk λd4 c6 j0 g1=>⟨ai.keep c6,?_⟩⟩;have a2:=c5.then c6;refine fM (c:=AO) (x:=⟨l,(V.try l).1,(V.try l).2.1⟩) (f.Qo.af a2) To g1 (D:=G2) ⟨a7,n2,c2,rfl,g0.af c6,he⟩ (λn P=>⟨by have:=z n P;omega,λj=>by have:=y _ (B _ j).1;have:=z n P;omega⟩) (by rw[a4];unfold aR;omega) (by rw[a4];unfold maxLen;omega) λa' E d5 F2 b4 c7 c8=>⟨_,_,_,rfl,p,0,rfl,?_⟩
 have j1:=c7.size;have d6:=c7.get ((f.af a2).at') C;refine PS.mk d6 sM λH g2 j2 g3=>λr d7=>?_;have d8:ai H r:=d7.keep;have j3:r.heap.size=H.heap.size:=by rw[d7.heap]
 have a5:aj (·=p) d5 r:=g2.af d8;have k5:aj (λn=>aG q.ea=some n\/n=p) x r:=((ai.keep a2).then (c7.mono λn _ P=>.inl P)).then (a5.mono λn _ P=>.inr P);have I:aj e x r:=k5.mono λn _ P=>P.elim (λb=>(B n b).1) λb=>b▸c4;have c9:∀{n:Nat},v.heap.size<=n->¬e n:=λ{n} P i=>by have:=y n i;omega
 have g4:¬e w.heap.size:=λi=>by
  rcases Q _ i with b|b|b
  ·exact R (Q4 _) b
  ·have:=u _ b;omega
  ·omega
 have d0:¬e t.heap.size:=λi=>by
  rcases Q _ i with b|b|b
  ·exact R oM b
  ·have:=u _ b;omega
  ·omega
 have d9:=I.get b2 g4;have e0:=I.get (A.get d3 id) d0;have b5:=I.get a1 (c9 (Q4 _));have e1:∀n,D n->¬e n:=λn P i=>by
  rcases Q _ i with b|b|b
  ·exact(o n P).2 b
  ·have:=u _ b;have:=(o n P).1;omega
  ·have:=(o n P).1;omega
 have e2:=b3.keep I e1;have j4:=k5.size;refine⟨λn=>n=t.heap.size,ar (bh l d a c) d9 ⟨oM,_,_,ae b5 rfl,ae b5 rfl,PC.ok (px e2 λn P=>by have:=(o n P).1;omega) ?_⟩⟩;rintro _ j5 ⟨a3,n3,c3,G3,rfl,g5,e3,J⟩;have j6:=J.size;refine⟨_,_,_,_,_,_,_,_,_,_,_,_,rfl,ai.keep J,aD (mJ ⟨l,(V.try l).1,(V.try l).2.1⟩ a3 n3 c3) (J.get e0 id) rfl λe4 S j7 g6=>⟨S,ar (mJ ⟨l,(V.try l).1,(V.try l).2.1⟩ a3 n3 c3) g6 (Ok.mk ⟨a3,n3,c3,G3,rfl,g5.keep S λn P j=>by have:=e3 n P;omega,λn=>n<H.heap.size/\(e n\/G2 n\/d4.heap.size<=n),?_,⟨?_,?_⟩,?_⟩)⟩⟩
 ·have g7:=(bf.AP (by
   have:V.OK:=L.1;exact this) l).1
  have T:aj (λn=>n=t.heap.size) r e4:=(ai.keep J).then S;have zc:=T.size;have g8:∀n,e n->n<H.heap.size:=λn P=>by have:=y n P;omega
  classical
  have e5:∀n,e n->(if e n then q.cls n else Ky.Qo)=q.cls n:=λn P=>Zx P;have K:aj (λn=>(aG q.ea=some n\/n=p)\/n=t.heap.size) x e4:=(k5.mono λn _ P=>.inl P).then (T.mono λn _ P=>.inr P);have g:∀(m:Ky) n,m≠.Qo->m≠.self->e n/\q.cls n=m->¬((aG q.ea=some n\/n=p)\/n=t.heap.size):=λm n b U P k=>by
   rcases k with(k|k)|k
   ·exact b (P.2.symm.trans (B n k).2)
   ·subst k;exact U (P.2.symm.trans f.lp.2)
   ·subst k;exact d0 P.1
  have h:∀(m:Ky) n,e n/\q.cls n=m->((n<H.heap.size/\(e n\/G2 n\/d4.heap.size<=n))/\(if e n then q.cls n else Ky.Qo)=m):=λm n P=>⟨⟨g8 n P.1,.inl P.1⟩,(e5 n P.1).trans P.2⟩
  refine⟨g7,⟨q.ta,q.tn,q.tc,q.pa,q.pn,q.pc,a',q.en+1,E,q.r1,q.r2,q.l1,q.l2,λn=>if e n then q.cls n else Ky.Qo⟩,?_,?_,?_,?_,?_,?_,?_,λn P=>by have:=P.1;omega,h _ _ f.lp,h _ _ f.l1,h _ _ f.l2⟩
  ·exact T.get (d8.get g3 id) oM
  ·exact(f.Tt.keep K λn P=>g _ n sM sM P).mono (h _)
  ·have M:∀n,F2 n->n<d5.heap.size/\n≠t.heap.size/\n≠p:=λn P=>by
    refine⟨b4.aF n P,λj=>?_,λj=>?_⟩
    ·rcases c8 n P with b|b|b
     ·exact d0 (j▸b.1)
     ·have:=z n b;omega
     ·omega
    ·rcases c8 n P with b|b|b
     ·have U:=b.2;rw[j,f.lp.2]at U;cases U
     ·have:=z n b;have:=y p c4;omega
     ·have:=y p c4;omega
   have:(V.add l).2.entries=(V.try l).2.2.entries++[⟨l,(V.try l).1,(V.try l).2.1⟩]:=rfl;rw[this];refine((b4.keep a5 λn P=>(M n P).2.2).keep T λn P=>(M n P).2.1).mono (λn P=>?_) λn P=>by have:=P.1.1;omega
   have h0:=(M n P).1;rcases c8 n P with b|b|b
   ·exact h _ n b
   ·have:=z n b
    refine⟨⟨oM,.inr (.inl b)⟩,?_⟩;show(if e n then _ else _)=_;rw[Zq (c9 oM)]
   ·refine⟨⟨oM,.inr (.inr b)⟩,?_⟩
    show(if e n then _ else _)=_;rw[Zq (c9 oM)]
  ·exact f.st.keep K (g _ _ sM sM f.l1)
  ·refine f.Ys.mono λW a8 s=>?_
   obtain⟨x1,x2,x3,rfl,s⟩:=s;exact⟨x1,x2,x3,rfl,(s.keep K λn P=>g _ n sM sM P).mono (h _)⟩
  ·exact f.dn.keep K (g _ _ sM sM f.l2)
  ·refine f.YG.mono λa9 W a8 s=>?_
   obtain⟨x1,x2,x3,rfl,s⟩:=s;exact⟨x1,x2,x3,rfl,(s.keep K λn P=>g _ n sM sM P).mono (h _) λn P=>by have:=P.1.1;omega⟩
 ·have k1:aj e v r:=(ai.keep A).then I
  exact((b1.new k1 b0).af J).new S λn P=>.inr oM
 ·intro n P
  rcases P.2 with b|b|b
  ·exact b0 n b
  ·have:=z n b;exact .inr oM
  ·exact .inr oM
 ·intro n P
  have:=e3 n P;refine⟨oM,oM,λk=>by have:=k.1;omega⟩
def Gb(c:aT):∀(a:List ah) (n:bf) (P:Int×Int×Int),(((an (a.foldl (λn e=>(n.add e).2) n).done P).getD []).length<=((an n.done P).getD []).length+a.length)/\(a.foldl (λn e=>(n.add e).2) n).entries.length=n.entries.length+a.length
 |[],n,P=>by simp
 |e::a,n,P=>by
  rw[List.foldl_cons];obtain⟨d,f⟩:=Gb c a (n.add e).2 P;have i:((an (n.add e).2.done P).getD []).length<=((an n.done P).getD []).length+1:=by
   show((an (n.try e).2.2.done P).getD []).length<=_;rw[bf.sG];split
   ·simp
   split
   ·simp
   split
   ·simp
   ·simp only
    rw[bl];split
    ·rename_i g
     have b:P=(e.aZ,e.agg,e.field):=by simpa using g
     rw[b];simp
    ·simp
  have h:(n.add e).2.entries.length=n.entries.length+1:=by
   show((n.try e).2.2.entries++[_]).length=_;have:(n.try e).2.2.entries=n.entries:=by rw[bf.sG];split;rfl;split;rfl;split<;>rfl
   rw[this];simp
  refine⟨?_,by rw[f,h];simp;omega⟩;simp only[Xq]at d⊢;omega
def HP{tn L r M j N:Nat}{a:List ah}(O:dt S=0)(Q:fw w)(R:bu w D S d tn x r)(T:∀n,D n->n<w.heap.size)(s:Row lb 96 w f e5 j a)(t:∀n,f n->n<w.heap.size)(b:a.length<=20000000):
  be 79 #[.agg #[.slice d tn L,.slice x r M],.slice e5 j N] w (Ok λU w'=>∃p F,U= RK p/\cJ w' p F (bR S a)/\(∀n,F n->w.heap.size<=n)/\ai w w'):=by
 refine LI (PA.mk λw1 u s1 v=>⟨_,_,_,_,_,_,ae v rfl,ae v rfl,PC.ok (HX O (R.af u) λn b=>by have:=T n b;omega) ?_⟩);rintro _ w9 ⟨p,V,rfl,e,W,y⟩;have a9:=s.len;have X:=u.then y;have z9:=y.size;refine⟨_,rfl,λz q w'=>∃P:Nat,q=P/\P<=j/\z=j-P/\∃F,cJ w' p F (bR S (a.take P))/\(∀n,F n->w.heap.size<=n)/\ai w w',⟨_,0,rfl,Qj _,rfl,V,e,λn b=>by have:=W n b;omega,X⟩,?_⟩;rintro z _ _ Y ⟨P,rfl,hj,rfl,F,e,k,g⟩;refine al.dec (λb0=>?_) (λb1=>?_)
 ·have A:P<a.length:=oM
  obtain⟨n,Z,es,ha,a0,b2,B,l,m,o,rfl,C,E⟩:=(s.af g).el P a[P] (Qq A);have H:a[P]? =some a[P]:=Qq A;generalize a[P]=c at B C E H;refine⟨n,Z,ha,oM,oM,cx (es:=aI c l m o) (k:=10) (bh c l m o) rfl (λq ht=>B q ht) (PA.mk λb3 a3 b4 a5=>aD (bh c l m o) a5 rfl λa6 a7 b5 a8=>ar (bh c l m o) a8 ?_)⟩;have h:ai Y a6:=a3.new a7 λn b=>.inr oM;have I:=Gb S (a.take P) (bf.new S) (c.aZ,c.agg,c.field);have b6:=List.length_take_le P a;have b7:((an (bR S (a.take P)).done (c.aZ,c.agg,c.field)).getD []).length<=0+(a.take P).length:=I.1;have b8:(bR S (a.take P)).entries.length=0+(a.take P).length:=I.2;have b9:=g.size;have c1:=h.size;refine PC.ok (HQ (e.af h) (Q.af (g.then h)) (C.af h) (λn b=>⟨by have:=t n b;omega,λhf=>by have:=k n hf;have:=t n b;omega⟩) E oM oM) ?_;rintro _ c2 ⟨a4,n4,c4,G,rfl,-,F',i,J,-⟩;refine cA (QH _ a4 n4 c4) ⟨rfl,_,?_,P+1,aq oM,oM,rfl,F',?_,λn b=>?_,(g.then h).new J.1 λn b=>.inr (k n b)⟩
  ·omega
  ·rw[Qw,H]
   unfold bR at i⊢;rw[List.foldl_append];exact i
  ·rcases J.2 n b with K|K
   ·exact k n K
   ·omega
 ·rw[Qz oM]at e
  exact Ok.mk ⟨p,F,rfl,e,k,g⟩
end
end Go.Proofs.YtjgjkeponbeekaaGreatDoor
namespace Go.aw
open Go
variable{a4:List Value}{E a c c3 i q:Nat}{f:UK}{d x:bc}{h:Program}{J j:Type}{g p:TypeId}{b:World}{y:ba}
def Qm{cs:List j}{p m:Nat}{v:j}{vs:List j}(n:p<cs.length):(cs.set p v).take (p+1)++vs++(cs.set p v).drop (p+1+m)=cs.take p++(v::vs)++cs.drop (p+(m+1)):=by
 have P:(cs.set p v).take (p+1)=cs.take p++[v]:=by
  rw[Qw,Xj,Zx rfl,Zx n,List.take_set_of_le (Q4 _)];rfl
 have a:(cs.set p v).drop (p+1+m)=cs.drop (p+(m+1)):=by
  rw[List.drop_set_of_lt oM,show p+1+m=p+(m+1) by omega]
 rw[P,a];simp
def Da{k:TypeId}{l:Nat}{f:bc}{m c P g d:Nat}{o:ba}(p:f=some ⟨g,d,none⟩):∀(a:List Value) (n:Nat) {b:World} {cs:List Value},Own b k l f m c cs->P+n+a.length<=cs.length->
  (∀e,Own e k l f m c (cs.take (P+n)++a++cs.drop (P+n+a.length))->aj (λg=>aG f=some g) b e->e.heap.size=b.heap.size->o e)->jR ⟨g,d+P,none⟩ n a b o
 |[],n,b,cs,h,q,i=>i b (by simpa using h) (aj.refl _) rfl
 |v::a,n,b,cs,h,q,i=>by
  unfold jR;rw[Xq]at q;rw[Addr.add_lit,Nat.add_assoc];refine h.set (m:=P+n) oM p λe r s t=>Da p a (n+1) r cS λu j w x=>i u ?_ (s.then w) (x.trans t);have:=Qm (cs:=cs) (p:=P+n) (m:=a.length) (v:=v) (vs:=a) oM;rw[show P+(n+1)=P+n+1 from rfl]at j;rw[this]at j;exact j
def Own.store{j P m e c:Nat}{n cs:List Value}(l:Own b p a d j P cs)(o:d=some ⟨e,c,none⟩)(k:iQ h g n=true)(q:m+n.length<=cs.length)(i:∀f,Own f p a d j P (cs.take m++n++cs.drop (m+n.length))->aj (λe=>aG d=some e) b f->f.heap.size=b.heap.size->y f):oJ h g (.pointer (some ⟨e,c+m,none⟩)) (.agg n.toArray) b y:=by
 simp only[iQ,QK]at k;obtain⟨⟨⟨r,w⟩,s⟩,t⟩:=k;unfold oJ;have u:Nat.beq n.toArray.size (mU h g)=true:=by simpa using s
 have v:n.toArray.toList.all Value.oneCell'=true:=by simpa using t
 simp only[r,u,v];exact Da o n 0 l (by simpa using q) i
def fk.store{n:fk j J}{m:List (Bx j)}(v:aU n.kv p f b d a c m){P:Bx j}(w:m[i]? =some P){B s:Nat}(M:d=some ⟨B,s,none⟩)(C:a4=(n.hd P.x x q E).take c3)(a1:n.o<c3)(a2:c3<=n.k)(N:iQ h g a4=true)(z:∀r,aU n.kv p f r d a c (m.set i ⟨P.x,x,q,E⟩)->aj (λe=>aG d=some e) b r->r.heap.size=b.heap.size->y r):oJ h g (.pointer (some ⟨B,s+i*n.k,none⟩)) (.agg a4.toArray) b y:=by
 obtain⟨cs,D,O,F,Q⟩:=v.body;have H:=bY.oG.1 F;have R:i<m.length:=(Qv.1 w).1;have I:cs.length=m.length*n.k:=by rw[H];exact l_ (λe:Bx j=>n.hl e.x e.a e.n e.c) m
 have t:a4.length=c3:=by rw[C,Qy,n.hl];omega
 have S:(i+1)*n.k<=m.length*n.k:=Q0 _ R;rw[X7,Nat.one_mul]at S;refine O.store (m:=i*n.k) M N (by rw[I,t];omega) λr T U K=>z r ⟨⟨_,D,T,bY.oG.2 ?_,Q⟩,v.self,λe V=>by rw[K];exact v.aF e V⟩ U K;have W:=sd (enc:=λe:Bx j=>n.hd e.x e.a e.n e.c) (k:=n.k) (λe=>n.hl e.x e.a e.n e.c) (x':=⟨P.x,x,q,E⟩) (v:=.slice x q E) n.ho m i P w (n.fR ..).symm;rw[<-W,<-H,t];have X:∀k,k<n.k->cs[i*n.k+k]? =(n.hd P.x P.a P.n P.c)[k]? :=λk Y=>by
  obtain⟨Z,A,L⟩:=F.at w;have a0:Z=n.hd P.x P.a P.n P.c:=L.1;rw[<-a0];exact A k Y
 apply X3;intro k;have o:∀l,l<c3->a4[l]? =(n.hd P.x x q E)[l]? :=λl hu=>by rw[C,Xw,Zx hu]
 by_cases A:k<i*n.k
 ·rw[XQ,XW (by rw[Qy];omega),Xw,Zx A,Xj,Zq oM]
 ·by_cases L:k<i*n.k+c3
  ·rw[XQ,X8 (by rw[Qy];omega),XW (by rw[Qy,t];omega),Qy,o _ oM]
   obtain⟨l,rfl⟩:∃l,k=i*n.k+l:=⟨k-i*n.k,oM⟩
   rw[X2 oM,Nat.add_sub_cancel_left,Xj];have u:=n.fR P.x P.a P.n P.c x q E;split
   ·rename_i p
    have:l=n.o:=oM
    subst this;rw[Zx (by rw[I];have:=n.ho;omega),<-u,Xj,Zx rfl,Zx (by rw[n.hl];exact n.ho)]
   ·rename_i p
    rw[X l oM,<-u,Xj,Zq oM]
  ·rw[X8 (by rw[QX,Qy,t];omega),QX,Qy,t,List.getElem?_drop,Xj,Zq (by have:=n.ho;omega)]
   congr 1
   omega
end Go.aw
namespace Go.aw
open Go
variable{h:Program}{y:ba}
section
variable {α β:Type} {N:fk α β} {w9 w w':World} {a:bc} {n c j:Nat} {L0:List (Bx α)} {e:TypeId}
def dZ.step2{f:TypeId}(x:dZ N e w9 a n c L0 j w){g:Nat}(o:a=Option.some ⟨g,0,none⟩){b:Bx α}(i:L0[j]? =Option.some b){a':bc}{n' c':Nat}{G:UK}(z:Row N.ci N.ib w G a' n' (N.inner b.x))(A:N.ok b.x)(k:∀P,G P->w9.heap.size<=P/\P<w.heap.size)(U:g<w9.heap.size){hd:List Value}{r:Nat}(C:hd=(N.hd b.x a' n' c').take r)(E:N.o<r)(F:r<=N.k)(H:iQ h f hd=true)(l:∀w',dZ N e w9 a n c L0 (j+1) w'->aj (λb=>aG a=Option.some b) w w'->w'.heap.size=w.heap.size->y w'):oJ h f (.pointer (Option.some ⟨g,0+j*N.k,none⟩)) (.agg hd.toArray) w y:=by
 obtain⟨I,J,K,L,M,p,O,q⟩:=x;have s:I[j]? =Option.some b:=by rw[p j (Q4 _)];exact i
 have Q:=(Qv.1 s).1;have t:∀P,G P->¬aG a=Option.some P:=λP B e=>by
  have:=(k P B).1;rw[o]at e;simp only[aG,Q1]at e;omega
 refine fk.store K s o C E F H λR S d m=>l R ⟨_,λP=>J P\/G P,S,?_,?_,?_,O.then d,?_⟩ d m
 ·rw[List.map_set,L]
  apply X3;intro f;rw[Xj];split
  ·rename_i e;subst e
   rw[Zx (by simpa using(Qv.1 i).1),Q9,i];rfl
  ·rfl
 ·intro u P V B
  rw[Xj]at B
  by_cases v:j=u
  ·subst v
   rw[Zx rfl,Zx Q]at B
   cases B
   exact⟨(z.keep d λP B=>t P B).mono λP B=>.inr B,A⟩
  ·rw[Zq v]at B
   exact((M u P oM B).keep d λP B=>(q P B).2.2).mono λP B=>.inl B
 ·intro T W
  rw[Xj,Zq oM,p T oM]
 ·rintro P (B|B)
  ·rw[m];exact q P B
  ·rw[m];exact⟨(k P B).1,(k P B).2,t P B⟩
end
end Go.aw
namespace Go.Proofs.YtjgjkeponbeekaaGreatDoor
section
open Go.aw
variable{a c:Nat}{d:bc}
section
variable {w w':World} {p:Nat} {F D:UK} {V:bf}
def Aq{n:List (Bx cZ)}(b:Row Na.kv 120 w D d a n)(e:∀P,D P->P<w.heap.size):be 405 #[.slice d a c] w (Ok (qH Na.kv 133 w n)):=
 il (xk To dC b e λg w' f=>Ok.mk f)
def Gh(c:cJ w p F V)(a:V.entries.length<=20000000):be 403 #[RK p] w (Ok (qH AO 133 w V.entries)):=by
 obtain⟨X,Y,c⟩:=c;have j:=c.Qo.row (bytes:=120) dC ce;have H:=j.fh;have Z:=j.len;obtain⟨e,v,I,J⟩:=fk.boxes j;have a8:e.length=V.entries.length:=by rw[<-v];simp
 refine tg ⟨p,0,rfl,_,_,_,ae c.at' rfl,PC.ok (Aq I λn a=>c.aF n a.1) ?_⟩;rintro _ x ⟨h,f,y,F9,rfl,i,z,K⟩;have k:∀n,aG h=some n->w.heap.size<=n:=λn a=>K n (i.self n a);have L:∀n,aG h=some n->n<x.heap.size:=λn a=>i.aF n (i.self n a);refine⟨_,_,_,rfl,λA M w'=>∃b:Nat,M=b/\b<=f/\A=f-b/\dZ Na 133 x h f y e b w',⟨_,0,rfl,Qj _,rfl,dZ.start i.alone⟩,?_⟩;rintro A _ _ N ⟨b,rfl,hj,rfl,d⟩;have b0:=d.len;have l:ai w N:=z.new d.keep λn a=>.inr (k n a);have zk:=d.keep.size;refine al.dec (λb1=>?_) (λb2=>?_)
 ·obtain⟨g,rfl⟩:=d.some oM
  have b3:=k g rfl;have O:=L g rfl;have m:e[b]? =some e[b]:=Qq oM;have o:=J e[b] (XY oM);generalize e[b]=P at m o;refine⟨g,0,rfl,oM,oM,cx (es:=aI P.x.ev P.a P.n P.c) (k:=10) (bh _ _ _ _) rfl (λq Q=>?_) (PC.ok (px (e:=P.x.ev) (o.1.af l) λn a=>by have:=c.aF n a.1;have:=l.size;omega) ?_)⟩
  ·have R:=d.cell rfl m (by show f*13<=aR;unfold aR at H⊢;omega) q
   rw[Qx];have r:q<(aI P.x.ev P.a P.n P.c).length:=Q;rw[Qq r];refine R _ ?_;show(aI P.x.ev P.a P.n P.c++_)[q]? =_;rw[XW r,Qq r]
  rintro _ b4 ⟨s,t,u,G,rfl,S,B,T⟩;refine cA (sK P.x.ev s t u) ⟨rfl,g,0,rfl,oM,oM,?_⟩;rw[Qx];refine(d.af T).step2 (g:=g) rfl m (a':=s) (n':=t) (c':=u) (G:=G) S o.2 (λC E=>⟨by have:=B C E;omega,(B C E).2⟩) O (hd:=aI P.x.ev s t u) (r:=10) rfl dC dC (bh _ _ _ _) λb5 U b6 b7=>⟨_,?_,b+1,aq oM,oM,rfl,U⟩
  omega
 ·obtain rfl:b=f:=oM
  obtain⟨Fd,hd,W⟩:=d.done;rw[v]at hd;have z9:=z.size;exact Ok.mk ⟨h,_,y,Fd,rfl,hd,l,λn a=>(W n a).elim (k n) λc=>oM⟩
end
end
section
open Go.aw
def bJ(n:ep):List Value:=[WP n.group,WP n.value,WP n.count]
def ep.Ok(n:ep):Prop:=aM n.group/\aM n.value/\aM n.count
def KD:ky ep:=flat 3 bJ ep.Ok (λ_=>rfl) (λP a n=>by simp[bJ]at n;rcases n with rfl|rfl|rfl<;>rfl)
def Yc:kD LL 51 135 3 24:=⟨kR,kR,dC⟩
variable{Y m:Array Value}{z:FuncId}{e r:Int}{d7:ep}
section
variable {w w':World} {D:UK} {a:bc} {n c:Nat} {l:List ep}
def CF(b:Row KD 24 w D a n l)(d:∀P,D P->P<w.heap.size):be 215 #[.slice a n c] w (Ok (qH KD 135 w l)):=
 jN (xk Yc dC b d λf w' e=>Ok.mk e)
def MD{most:Int}(b:Row KD 24 w D a n l)(g:∀d,D d->d<w.heap.size)(u:n<=c):
  be 152 #[.slice a n c,WP most] w (Ok λh w'=>∃e,h= .tuple #[e,.bool (decide ((max most 0).toNat<l.length))]/\qH KD 135 w (l.take (max most 0).toNat) e w'):=by
 have v:=b.len;have i:(if 0>most then 0 else most)=max most 0:=by split<;>omega
 refine DS ?_;rw[i];obtain⟨P,f⟩:∃P:Nat,(if(n:Int)<max most 0 then(n:Int)else max most 0)=P:=⟨(if(n:Int)<max most 0 then(n:Int)else max most 0).toNat,by split<;>omega⟩
 rw[f];have j:P=min n (max most 0).toNat:=by split at f<;>omega
 rw[Qx];refine⟨oM,oM,oM,PC.ok (CF (b.take (m:=P) oM) g) ?_⟩;rintro _ x ⟨k,m,o,p,rfl,q,r,s⟩;refine⟨_,_,_,rfl,Ok.mk ⟨_,?_,k,m,o,p,rfl,?_,r,s⟩⟩
 ·have:decide ((P:Int)<(n:Int))=decide ((max most 0).toNat<l.length):=by rw[decide_eq_decide];omega
  rw[this]
 ·have:l.take (max most 0).toNat=l.take P:=by
   rw[j]
   by_cases t:(max most 0).toNat<=n
   ·rw[Nat.min_eq_right t]
   ·rw[X2 oM,Qz oM,Qz oM]
  rw[this];exact q
def JP{a k:Nat}(t:a<=20000000)(i:k<=a)(j:enters LL z=true)(l:∀(b:Nat) d,b<a->ai w d->be z (m++ #[WP (b:Int)]++Y) d (Ok λe w'=>e= .bool (decide (k<=b))/\ai d w')):
  be 150 #[WP (a:Int),.func (.func z) m Y] w (Ok λe w'=>e= WP (k:Int)/\ai w w'):=by
 refine BG ⟨λf b o w'=>∃n P:Nat,b=n/\o=P/\f=P-n/\n<=P/\P<=a/\n<=k/\k<=P/\ai w w',⟨_,0,a,rfl,rfl,rfl,oM,oM,oM,i,aj.refl _⟩,?_⟩;rintro f _ _ _ p ⟨n,P,rfl,rfl,rfl,u,q,r,s,c⟩;refine al.dec (λv=>?_) (λx=>?_)
 ·rw[VS oM]
  refine⟨_,_,_,rfl,j,PC.ok (l _ p oM c) ?_⟩;rintro _ y ⟨rfl,g⟩;refine⟨_,rfl,al.not (al.dec (λh=>⟨_,?_,n,(n+P)/2,rfl,rfl,rfl,oM,oM,r,h,c.then g⟩) (λh=>⟨_,?_,(n+P)/2+1,P,aq oM,rfl,rfl,oM,q,oM,s,c.then g⟩))⟩
  ·omega
  ·omega
 ·obtain rfl:n=k:=oM
  exact Ok.mk ⟨rfl,c⟩
def tN{P:Type}(n:P->Bool):∀l:List P,l.dropWhile n=l.drop (posOf n l)
 |[]=>rfl
 |x::l=>by
  unfold posOf;rw[List.dropWhile_cons,List.takeWhile_cons]
  cases a:n x
  ·simp
  ·simpa[posOf]using tN n l
abbrev ve(l:List ep):Prop:=l.Pairwise λa n=>a.group<n.group
def US{l:List ep}(b:ve l){n:Nat}(P:l[n]? =some d7):decide (posOf (λd7=>decide (d7.group<=e)) l<=n)=decide (d7.group>e):=by
 rw[decide_eq_decide]
 induction l generalizing n with
 |nil=>simp at P
 |cons c l d=>
  obtain⟨f,g⟩:=List.pairwise_cons.1 b;unfold posOf;rw[List.takeWhile_cons]
  by_cases a:c.group<=e
  ·rw[Zy a]
   cases n with
   |zero=>
    simp at P;subst P;simp;omega
   |succ n=>
    have:=d g (by simpa using P);unfold posOf at this;simp only[if_true,Xq];omega
  ·rw[Xv a]
   simp only[Bool.false_eq_true,if_false,ZQ,Qj,true_iff]
   cases n with
   |zero=>simp at P;subst P;omega
   |succ n=>
    have:=f d7 (QZ (by simpa using P));omega
def ME(j:Row KD 24 w D a n l)(u:∀b,D b->b<w.heap.size)(v:n<=c)(x:ve l)(y:n<=20000000):
  be 90 #[.slice a n c,WP e,WP r] w (Ok λz w'=>∃P,z= .tuple #[P,.bool (oI l e (max r 0).toNat).2]/\qH KD 135 w (oI l e (max r 0).toNat).1 P w'):=by
 have Q:=j.len;have R:=AS (λP:ep=>decide (P.group<=e)) l;refine GM (PA.mk λS o T k=>PA.mk λU g V A=>⟨_,_,_,ae (g.get k id) rfl,PC.ok (JP (k:=posOf (λP=>decide (P.group<=e)) l) y oM kR λh B W d=>?_) ?_⟩)
 ·have f:=(o.then g).then d
  obtain⟨b,C,X,E,i,-,F,rfl,-⟩:=(j.af f).el h l[h] (Qq oM);have H:l[h]? =some l[h]:=Qq oM;refine BB ⟨_,_,_,ae (d.get (g.get k id) id) rfl,b,C,E,oM,oM,_,by rw[Qx];exact F 0 dC,_,ae (d.get A id) rfl,λI J=>Ok.mk ⟨?_,J.keep⟩⟩;rw[US x H]
 ·rintro _ B ⟨rfl,d⟩
  have f:=(o.then g).then d;have m:=(j.af f).part (lo:=posOf (λP=>decide (P.group<=e)) l) (hi:=n) (cap:=c) oM (Q4 _) v;rw[Qz oM]at m;have K:KD.k=3:=rfl;rw[K]at m;refine⟨_,rfl,_,_,_,ae (d.get (g.get k id) id) rfl,oM,oM,?_⟩;rw[Qx];refine PC.ok (MD (most:=r) m (λb i=>by have:=u b i;have:=f.size;omega) oM) ?_;rintro _ I ⟨_,rfl,p,q,s,L,rfl,M,N,O⟩;have t:l.dropWhile (λP=>decide (P.group<=e))=l.drop (posOf (λP=>decide (P.group<=e)) l):=tN _ l;refine⟨_,_,_,_,rfl,Ok.mk ⟨.slice p q s,?_,p,q,s,L,rfl,?_,f.then N,λb i=>by have:=O b i;have:=f.size;omega⟩⟩
  ·unfold oI;rw[t]
  ·unfold oI;rw[t];exact M
end
def tM(n:ep):Value:=.agg (bJ n).toArray
def UQ(n:ep):iQ LL 135 (bJ n)=true:=kR
def ZM(n:ep):UA (eE LL 135) (.agg (bJ n).toArray)=true:=kR
structure mf (w:World) (p r:Nat) (R:dQ):Prop where
 at':w.heap[p]? =some (.cells #[WP R.p.aZ,WP R.p.field,WP R.p.group,WP R.p.FY,WP R.p.make,.map (some r)] 269 (0,0))
 map:bU w r (Value.int .i64) (R.rows.map λx=>(x.1,tM x.2))
 ok:∀x∈R.rows,ep.Ok x.2/\x.2.group=x.1
variable{a c:Nat}{d:bc}{l:ah}{d6:jZ}
section
variable {w w':World} {p r:Nat} {R:dQ} {T:UK}
def mf.keep(n:mf w p r R)(P:aj T w w')(a:¬T p)(b:¬T r):mf w' p r R:=⟨P.get n.at' a,n.map.keep P b,n.ok⟩
def mf.af(n:mf w p r R)(P:ai w w'):mf w' p r R:=n.keep P id id
def QP:be 106 #[.agg (oL d6).toArray] w (Ok λa w'=>∃p r,a= RK p/\mf w' p r ⟨d6,[]⟩/\w.heap.size<=p/\w.heap.size<=r/\p<w'.heap.size/\r<w'.heap.size/\ai w w'):=by
 refine LK (PA.mk λb c i n=>⟨_,_,_,_,_,ae n rfl,ae n rfl,ae n rfl,ae n rfl,ae n rfl,PA.mk λd e j f=>PA.mk λk P l g=>Ok.mk ⟨d.heap.size,b.heap.size,rfl,⟨g,bU.new (P.get f id),λd6 h=>by cases h⟩,oM,oM,oM,oM,(c.then e).then P⟩⟩)
def Hw(n:jZ)(a:ah)(P:Int):Option Int:=if n.group=1 then some a.agg else if n.group=2 then some a.arg else if n.group=3 then some P else none
def MF(h:mf w p r R):be 244 #[RK p,kU l d a c,WP e] w (Ok λi w'=>i= .tuple #[WP ((Hw R.p l e).getD 0),.bool (Hw R.p l e).isSome]/\ai w w'):=by
 refine vN (PA.mk λj n k g=>⟨p,0,rfl,_,ae (h.af n).at' rfl,al.eI (λP=>⟨_,ae g rfl,Ok.mk ⟨?_,n⟩⟩) (λP=>al.eI (λb=>⟨_,ae g rfl,Ok.mk ⟨?_,n⟩⟩) (λb=>al.eI (λf=>Ok.mk ⟨?_,n⟩) (λf=>Ok.mk ⟨?_,n⟩)))⟩)
 ·unfold Hw;rw[Zx P];rfl
 ·unfold Hw;rw[Zq P,Zx b];rfl
 ·unfold Hw;rw[Zq P,Zq b,Zx f];rfl
 ·unfold Hw;rw[Zq P,Zq b,Zq f];rfl
def PN(h:mf w p r R){arg:Int}:be 245 #[RK p,.agg (bJ d7).toArray,WP arg] w (Ok λk w'=>k= WP (mW R.p d7 arg)/\ai w w'):=by
 refine xK (PA.mk λl a o e=>?_);have b:=(h.af a).at';refine⟨_,ae e rfl,p,0,rfl,_,ae b rfl,al.eI (λc=>⟨_,ae e rfl,Ok.mk ⟨?_,a⟩⟩) (λc=>⟨p,0,rfl,_,ae b rfl,al.eI (λd=>⟨_,ae e rfl,Ok.mk ⟨?_,a⟩⟩) (λd=>⟨λj w'=>j=decide (R.p.make=5\/d7.count=1/\(R.p.make=3\/R.p.make=4))/\l=w',?_,?_⟩)⟩)⟩
 ·unfold mW;rw[Zx c]
 ·unfold mW;rw[Zq c,Zx d]
 ·refine⟨p,0,rfl,_,ae b rfl,al.eI (λf=>⟨?_,rfl⟩) (λf=>al.eI (λi=>⟨p,0,rfl,_,ae b rfl,al.eI (λn=>⟨?_,rfl⟩) (λn=>⟨p,0,rfl,_,ae b rfl,?_,rfl⟩)⟩) (λi=>⟨?_,rfl⟩))⟩
  ·rw[Zy (.inl f)];simpa using f
  ·rw[Zy (.inr ⟨i,.inl n⟩)]
  ·by_cases P:R.p.make=4
   ·rw[Zy (.inr ⟨i,.inr P⟩)];simpa using P
   ·rw[Xv (by rintro(h|⟨-,h|h⟩);exact f h;exact n h;exact P h)];simpa using P
  ·rw[Xv (by rintro(h|⟨h,-⟩);exact f h;exact i h)]
 ·rintro j _ _ ⟨m,rfl⟩
  subst m;refine al.dec (λg=>Ok.mk ⟨?_,a⟩) (λg=>⟨p,0,rfl,_,ae b rfl,al.eI (λn=>⟨_,ae e rfl,Ok.mk ⟨?_,a⟩⟩) (λn=>⟨p,0,rfl,_,ae b rfl,al.eI (λP=>⟨_,ae e rfl,Ok.mk ⟨?_,a⟩⟩) (λP=>Ok.mk ⟨?_,a⟩)⟩)⟩)
  ·unfold mW;rw[Zq c,Zq d,Zx g]
  ·have:(if arg<d7.value then arg else d7.value)=min d7.value arg:=by split<;>omega
   unfold mW;rw[Zq c,Zq d,Zq g,Zx n,<-this]
  ·have:(if arg>d7.value then arg else d7.value)=max d7.value arg:=by split<;>omega
   unfold mW;rw[Zq c,Zq d,Zq g,Zq n,Zx P,<-this]
  ·unfold mW;rw[Zq c,Zq d,Zq g,Zq n,Zq P]
end
def SN:mZ LL 267 3 135 (tM ⟨0,0,0⟩):=⟨kR,kR⟩
def NV{P d e:Type}[BEq P](a:d->e)(b:P):∀n:List (P×d),an (n.map λc=>(c.1,a c.2)) b=(an n b).map a
 |[]=>rfl
 |(c,f)::n=>by
  simp only[QY];unfold an;split
  ·rfl
  ·exact NV a b n
def NW{b c f:Type}[BEq b](P:c->f)(d:b)(e:c):∀a:List (b×c),aJ (a.map λn=>(n.1,P n.2)) d (P e)=(aJ a d e).map λn=>(n.1,P n.2)
 |[]=>rfl
 |(n,g)::a=>by
  simp only[QY];unfold aJ;split
  ·simp
  ·simp[NW P d e a]
section
variable {w w':World} {p r:Nat} {R:dQ}
def dQ.add_def(r:dQ)(e:cZ)(P:Int):r.add e P=match Hw r.p e.ev P with
  |none=>r
  |some n=>if e.void||e.ev.aZ !=r.p.aZ||e.ev.field !=r.p.field then r else
   {r with rows:=aJ r.rows n ⟨n,mW r.p ⟨n,((an r.rows n).getD ⟨0,0,0⟩).value,qf (((an r.rows n).getD ⟨0,0,0⟩).count+1)⟩ e.ev.arg,qf (((an r.rows n).getD ⟨0,0,0⟩).count+1)⟩}:=rfl
def HR:aM 0:=by unfold aM;omega
def WG{arg:Int}(n:ep.Ok d7)(P:aM arg):aM (mW d6 d7 arg):=by
 obtain⟨b,c,a⟩:=n;unfold mW;split;exact a;split;exact Nl _;split;exact P;split
 ·unfold aM at*;omega
 split
 ·unfold aM at*;omega
 ·exact HR
def QI(h:mf w p r R)(a1:p≠r){x:cZ}(v:x.ev.Ok)(a2:aM e):be 185 #[RK p,FZ x d a c,WP e] w (Ok λk w'=>k= .tuple #[]/\mf w' p r (R.add x e)/\aj (·=r) w w'):=by
 have b1:=aA h.at';have b2:=h.map.lt;refine z_ (PA.mk λw1 L s1 M=>WH (cs:=aI x.ev d a c) (bh _ _ _ _) M (λa3 k N=>?_) (PC.ok (MF (h.af L)) ?_))
 ·rw[Xz]
  have a4:=(Qv.1 N).1;show(aI x.ev d a c++_).toArray[a3]? =_;simp only[List.getElem?_toArray];rw[XW a4];exact N
 rintro _ O ⟨rfl,Q⟩;have l:=L.then Q;have m:=Q.get M id;have o:=h.af l;have b:R.add x e=R->∀g,cf O g->Ok (λk w'=>k= .tuple #[]/\mf w' p r (R.add x e)/\aj (·=r) w w') (.returned (.tuple #[])) g:=λhe g i=>Ok.mk ⟨rfl,by rw[he];exact o.af i.keep,ai.keep (l.then i.keep)⟩;refine⟨_,_,rfl,al.not (al.mk (λy=>?_) (λy=>b ?_))⟩
 rotate_left
 ·rw[dQ.add_def,show Hw R.p x.ev e=none by simpa using y]
 obtain⟨P,f⟩:=Option.isSome_iff_exists.1 y;rw[f,Option.getD_some];have s:∀{q:dQ},(if x.void||x.ev.aZ !=R.p.aZ||x.ev.field !=R.p.field then R else
   {R with rows:=aJ R.rows P ⟨P,mW R.p ⟨P,((an R.rows P).getD ⟨0,0,0⟩).value,qf (((an R.rows P).getD ⟨0,0,0⟩).count+1)⟩ x.ev.arg,qf (((an R.rows P).getD ⟨0,0,0⟩).count+1)⟩})=q->R.add x e=q:=λ{q} z=>by
  rw[dQ.add_def,f];exact z
 refine⟨_,ae m rfl,al.mk (λj=>b (s (by rw[j];rfl))) (λj=>⟨_,ae m rfl,p,0,rfl,_,ae o.at' rfl,al.eK (λA=>b (s ?_)) (λA=>⟨_,ae m rfl,p,0,rfl,_,ae o.at' rfl,λg i=>?_⟩)⟩)⟩
 ·rw[j,show(x.ev.aZ !=R.p.aZ)=true by simpa using A];rfl
 have S:(x.ev.aZ !=R.p.aZ)=false:=by simpa using A
 have t:ai O g:=i.keep;have u:=o.af t;refine al.eK (λB=>b (s (by rw[j,S,show(x.ev.field !=R.p.field)=true by simpa using B];rfl)) g i) (λB=>?_);have a5:(x.ev.field !=R.p.field)=false:=by simpa using B
 have T:aM P:=by
  unfold Hw at f;split at f
  ·cases f;exact v.agg
  split at f
  ·cases f;exact v.arg
  split at f
  ·cases f;exact a2
  ·cases f
 obtain⟨n,C⟩:∃n,n=(an R.rows P).getD ⟨0,0,0⟩:=⟨_,rfl⟩
 have a6:ep.Ok n:=by
  rw[C]
  cases z:an R.rows P with
  |none=>exact⟨HR,HR,HR⟩
  |some U=>exact(h.ok _ (cy z)).1
 have a7:(an (R.rows.map λx=>(x.1,tM x.2)) P).getD (tM ⟨0,0,0⟩)=tM n:=by
  rw[NV,C];cases an R.rows P<;>rfl
 refine⟨p,0,rfl,_,ae u.at' rfl,AA SN lG u.map ?_⟩;rw[a7];refine cA (ZM n) ⟨rfl,PA.mk λw4 k4 s4 g4=>aD (UQ n) g4 rfl λw5 k5 s5 g5=>PS.mk g5 (by simp[bJ]) λw6 k6 s6 V=>⟨_,ae V rfl,PS.mk V (by simp[bJ]) λw7 k7 s7 W=>?_⟩⟩;have E:ai g w7:=((k4.new k5 λF H=>.inr oM).new k6 λF H=>.inr oM).new k7 λF H=>.inr oM;have a8:=E.get (t.get m id) id;refine ar (cs:=bJ ⟨P,n.value,qf (n.count+1)⟩) (UQ _) W ⟨_,ae a8 rfl,PC.ok (PN (u.af E)) ?_⟩;rintro _ w8 ⟨rfl,I⟩;have z8:=I.size;refine⟨_,rfl,PS.mk (I.get W id) (by simp[bJ]) λw9 k9 s9 g9=>λX a9=>?_⟩;have Y:ai w9 X:=a9.keep;have Z:ai g X:=((E.then I).new k9 λF H=>.inr oM).then Y;have J:=u.af Z;have z3:=(l.then t).size;refine⟨p,0,rfl,_,ae J.at' rfl,ar (cs:=bJ ⟨P,mW R.p ⟨P,n.value,qf (n.count+1)⟩ x.ev.arg,qf (n.count+1)⟩) (UQ _) (Y.get g9 id) (dB SN lG J.map λb3 b0 a0 b4=>Ok.mk ⟨rfl,?_,?_⟩)⟩
 ·rw[s (q:={R with rows:=aJ R.rows P ⟨P,mW R.p ⟨P,n.value,qf (n.count+1)⟩ x.ev.arg,qf (n.count+1)⟩}) (by rw[j,S,a5,C];rfl)]
  refine⟨a0.get J.at' a1,?_,λU K=>?_⟩
  ·rw[<-NW];exact b0
  ·rcases fI K with rfl|K
   ·exact⟨⟨T,WG ⟨T,a6.2.1,Nl _⟩ v.arg,Nl _⟩,rfl⟩
   ·exact h.ok U K
 ·exact(ai.keep ((l.then t).then Z)).then a0
end
section
variable {w w':World} {p r:Nat} {R:dQ}
def Oh(e:mf w p r R):be 221 #[RK p] w (Ok λf w'=>∃b d,f= RK b/\mf w' b d R/\b≠d/\w.heap.size<=b/\w.heap.size<=d/\b<w'.heap.size/\d<w'.heap.size/\ai w w'):=by
 refine xJ λP h=>?_;have i:ai w P:=h.keep;have t:P.heap.size=w.heap.size:=by rw[h.heap]
 have a:=e.af i;obtain⟨c,n,k,l,m,o⟩:=a.map.at';refine⟨no,p,0,rfl,id,_,_,_,_,_,ae a.at' rfl,ae a.at' rfl,ae a.at' rfl,ae a.at' rfl,ae a.at' rfl,p,0,rfl,_,ae a.at' rfl,PC.ok (φ:=λf w'=>f= .map (some P.heap.size)/\w'=P.alloc (.map c n)) ((AnyW.maps_Clone Tryz.WI r c n P k).mono ?_) ?_⟩
 ·rintro u w' ⟨rfl,q⟩
  exact Ok.mk ⟨rfl,q⟩
 ·rintro _ v ⟨rfl,rfl⟩
  have j:ai P (P.alloc (.map c n)):=aj.alloc _ _;have x:(P.alloc (.map c n)).heap.size=P.heap.size+1:=sM
  refine⟨_,rfl,ai.keep j,PA.mk λy g z s=>⟨ai.keep g,Ok.mk ⟨_,P.heap.size,rfl,⟨s,⟨⟨c,n,g.get (heap_alloc_new P _) id,l,m,o⟩,e.map.tidy⟩,e.ok⟩,?_⟩⟩⟩;refine⟨oM,oM,oM,oM,oM,(i.then j).then g⟩
end
open Go.aw Go.Sort
def oH{b:Type}{f:Nat}{n:b->List Value}{d:b->Prop}{hl h1}{g:World}{D:UK}:∀{P:List b} {cs:List Value},bY (flat f n d hl h1) g D P cs↔cs=P.flatMap n/\∀x∈P,d x
 |[],cs=>by simp[bY]
 |x::P,cs=>by
  constructor
  ·rintro⟨k,l,rfl,⟨rfl,h⟩,i⟩
   obtain⟨rfl,j⟩:=oH.1 i;exact⟨rfl,λc a=>by rcases Q2.1 a with rfl|a;exact h;exact j c a⟩
  ·rintro⟨rfl,e⟩
   exact⟨n x,P.flatMap n,rfl,⟨rfl,e x (QV ..)⟩,oH.2 ⟨rfl,λc a=>e c (QJ _ a)⟩⟩
section
variable {α:Type} {enc:α->List Value} {K:Nat}
def gF(a:∀P,(enc P).length=K)(n:List α):(n.flatMap enc).length=n.length*K:=by
 induction n with
 |nil=>simp
 |cons P n b=>rw[List.flatMap_cons,QX,b,a,Xq,X7];omega
def lu[Inhabited α](f:0<K)(P:∀c,(enc c).length=K){n:List α}(d:a<n.length*K):(n.flatMap enc)[a]? =(enc n[a/K]!)[a % K]? :=by
 induction n generalizing a with
 |nil=>simp at d
 |cons c n g=>
  rw[List.flatMap_cons]
  by_cases b:a<K
  ·rw[XW (by rw[P];exact b),Nat.div_eq_of_lt b,Nat.mod_eq_of_lt b];rfl
  ·rw[Xq,X7]at d
   rw[X8 (by rw[P];omega),P,g oM];obtain⟨e,rfl⟩:∃e,a=e+K:=⟨a-K,oM⟩
   rw[Nat.add_sub_cancel,Nat.add_div_right _ f,Nat.add_mod_right];simp
def zj[Inhabited α](c:0<K)(b:∀f,(enc f).length=K)(n:List α):(flatK enc K n.toArray).toList=n.flatMap enc:=by
 apply X3;intro P
 by_cases a:P<n.length*K
 ·rw[lu c b a]
  have g:P<(flatK enc K n.toArray).size:=by simpa using a
  have d:=get_flatK enc K n.toArray P (by simpa using a);rw[getElem!_pos _ P g]at d;have e:P % K<(enc n[P/K]!).length:=by rw[b];exact Nat.mod_lt _ c
  rw[Qq (by simpa using a),Qq e]
  congr 1
  rw[Array.getElem_toList,d];rw[getElem!_pos _ _ (by simpa using e)]
  congr 1
  simp
 ·rw[Q7 (by simpa using a),Q7 (by rw[gF b];omega)]
end
instance:Inhabited ep:=⟨⟨0,0,0⟩⟩
def WR(P:ep):∀a∈bJ P,a.oneCell'=true:=by
 intro b n;simp only[bJ,Q2,List.not_mem_nil,or_false]at n;rcases n with rfl|rfl|rfl<;>rfl
def pQ(n:ep):(bJ n).length=3:=rfl
def CZ(n P:ep):Int:=if n.group<P.group then-1 else 1
def AI(n P:ep):ltOf CZ n P=decide (n.group<P.group):=by
 unfold ltOf CZ
 by_cases a:n.group<P.group<;>simp[a]
def Yq:SWO (ltOf CZ) where
 irrefl x:=by rw[AI];simp
 trans x y z h1 h2:=by rw[AI]at*;simp at*;omega
 ntrans x y z h1 h2:=by rw[AI]at*;simp at*;omega
variable{f:UK}{b:World}
def WS{a c:ep}:be 407 #[.agg (bJ a).toArray,.agg (bJ c).toArray] b (Ok λe f=>e= WP (CZ a c)/\G b f):=by
 refine uH (PA.Yo λi d j g=>PA.Yo λk n l h=>⟨_,ae ((n.keep (S:=λ_=>False)).get g id) rfl,_,ae h rfl,al.dec (λP=>Ok.mk ⟨?_,d.then n⟩) (λP=>Ok.mk ⟨?_,d.then n⟩)⟩)
 ·unfold CZ;rw[Zx P]
 ·unfold CZ;rw[Zq P]
def PK{m:List ep}(k:aU KD 135 f b d a c m)(C:m.length<=20000000):
  be 406 #[.slice d a c,.func (.func 407) #[] #[]] b (Ok λM s=>M= .tuple #[]/\∃E:List ep,E.Perm m/\(E.Pairwise λt N=>¬N.group<t.group)/\aU KD 135 f s d a c E/\aj (λu=>aG d=some u) b s):=by
 obtain⟨cs,D,y,Z,hD⟩:=k.body;obtain⟨rfl,O⟩:=oH.1 Z;obtain⟨n,z⟩:∃n,n=m:=⟨m,rfl⟩
 rw[<-z]at y O;have F:=k.len dC;have v:n.length=a:=by rw[F,<-z]
 rcases y.cases with⟨rfl,rfl,rfl,h0⟩|⟨g,h,rfl,w,Q,H,R⟩
 ·have hd:n=[]:=QW v
  refine(AnyF.slices_SortFunc_none Tryz.VP none 0 _ b).mono ?_;rintro A s ⟨rfl,rfl⟩;exact Ok.mk ⟨rfl,m,List.Perm.refl _,by rw[<-z,hd];exact List.Pairwise.nil,k,aj.refl _⟩
 ·have S:KD.k=3:=rfl
  rw[S]at R H;have a5:flatK bJ 3 n.toArray=(n.flatMap bJ).toArray:=by rw[<-zj (show 0<3 by decide) pQ]
  have hH:HoldsK bJ 3 b g 0 n.toArray:=by
   intro i o;rw[size_flatK]at o;simp only[List.size_toArray]at o;have T:i<(n.flatMap bJ).length:=by rw[gF pQ];exact o
   refine⟨?_,by simp[World.frozen?,w]⟩;have p:(flatK bJ 3 n.toArray)[i]! =(n.flatMap bJ)[i]:=by
    rw[a5,getElem!_pos _ i (by simpa using T)];simp
   rw[p,Xz];refine ae w ?_;have j:(h.toList.take (a*3))[i]? =some (n.flatMap bJ)[i]:=by rw[R];exact Qq T
   rw[Xw,Zx oM]at j;simpa using j
  have C:=y.row;have I:c<=maxLen:=by
   obtain⟨_,a0,_,U,_,_,_,I,_⟩:=y.row.2.resolve_left (by rintro⟨k,_⟩;cases k);simp only[XX]at U;rw[U.2.2];exact I
  have a6:n.toArray.size<4611686018427387904:=by
   simp only[List.size_toArray,v];omega
  have V:=AnyQ.slices_SortFunc Tryz.VP 3 (λb=>dI _ _ _ kR ⟨_,Tryz.underlying135⟩ b) (λb=>Tryz.sizeOf135 b) bJ (λ_=>rfl) WR (CZ) Yq 407 #[] g 0 c n.toArray b
   (enters_of Tryz.func407 kR rfl) (λa9 q dk b0 t N=>(WS).mono ?_) hH (aA w) a6
  ·rw[show n.toArray.size=a by simpa using v]at V
   refine V.mono ?_;rintro A s ⟨rfl,e,x,q,hp,hs,rfl⟩;obtain⟨p1,p2,W⟩:=hp;have P:e.size=a:=p1.trans (by simpa using v);have X:e.toList.Perm n:=by
    have p:e.extract 0 a=e:=by rw[<-P];exact Array.extract_size
    have j:n.toArray.extract 0 a=n.toArray:=by rw[show a=n.toArray.size by simpa using v.symm];exact Array.extract_size
    rw[p,j]at W;exact W
   have a2:flatK bJ 3 e=(e.toList.flatMap bJ).toArray:=by rw[<-zj (show 0<3 by decide) pQ]
   have J:(sortWorldK bJ 3 b g 0 x e q).heap[g]? =some (.cells (putCells id 0 (flatK bJ 3 e) h) 135 (0,0)):=by
    have a7:=aA w;show((Sort.ahead b x).heap.modify g _++q)[g]? =_;rw[Array.getElem?_append_left (by simpa[Sort.ahead]using a7),Array.getElem?_modify,Zx rfl];show Option.map _ b.heap[g]? =_;rw[w];rfl
   have B:aj (λu=>aG (UV g)=some u) b (sortWorldK bJ 3 b g 0 x e q):=by
    refine⟨rfl,rfl,rfl,?_,λa1 B F=>?_⟩
    ·show b.heap.size<=((Sort.ahead b x).heap.modify g _++q).size
     simp[Sort.ahead]
    ·show((Sort.ahead b x).heap.modify g _++q)[a1]? =_
     rw[Array.getElem?_append_left (by simpa[Sort.ahead]using B),Array.getElem?_modify,Zq (λA=>F (by rw[A];rfl))]
     rfl
   have a3:(putCells id 0 (flatK bJ 3 e) h).size=c*3:=by unfold putCells;rw[Array.size_mapIdx];exact H
   refine Ok.mk ⟨rfl,e.toList,by rw[<-z];exact X,?_,⟨⟨e.toList.flatMap bJ,D,⟨⟨?_,.inr ⟨g,c,_,rfl,Qj _,J,Q,I,a3,?_⟩⟩⟩,oH.2 ⟨rfl,λt hx=>?_⟩,hD⟩,k.self,λu C=>Qk (k.aF u C) B.size⟩,B⟩
   ·rw[List.pairwise_iff_getElem]
    intro Y i hi o a8;have p:=hs Y i (Qj _) a8 (by simpa[P]using o);rw[AI,getElem!_pos _ i (by simpa using o),getElem!_pos _ Y (by simpa using hi)]at p;simpa using p
   ·rw[gF pQ,XK,P];rfl
   ·apply X3
    intro r;rw[S,Xw];split
    ·rename_i l
     rw[lu (show 0<3 by decide) pQ (by rw[XK,P];exact l),<-lu (show 0<3 by decide) pQ (by rw[XK,P];exact l)];unfold putCells;have a4:r<h.size:=by rw[H];exact Qk l (Q0 _ Q)
     rw[Array.getElem?_toList,Array.getElem?_mapIdx,X6 a4];simp only[Option.map_some];have K:r<(flatK bJ 3 e).size:=by rw[size_flatK,P];exact l
     rw[Zx ⟨Qj _,by rw[Xz];exact K⟩,Nat.sub_zero,getElem!_pos _ r K];have:(flatK bJ 3 e)[r]=(e.toList.flatMap bJ)[r]'(by rw[gF pQ,XK,P];exact l):=by
      have j:=Zj (·[r]?) a2;simp only[List.getElem?_toArray]at j;rw[X6 K,Qq (by rw[gF pQ,XK,P];exact l)]at j;exact XJ j
     rw[this];exact(Qq _).symm
    ·rename_i l
     rw[Q7 (by rw[gF pQ,XK,P];omega)]
   ·have L:t∈n:=X.mem_iff.1 hx
    exact O t L
  ·rintro A s ⟨M,rfl,rfl,hG⟩
   exact⟨rfl,hG⟩
end
end Go.Proofs.YtjgjkeponbeekaaGreatDoor
namespace Go.aw
open Go
structure bb (w:World) (F:UK) (cls:Nat->Nat) (C:Nat->World->(UK)->Prop):Prop where
 at':∀k,C k w (λb=>F b/\cls b=k)
 aF:∀b,F b->b<w.heap.size
def mI(n:Nat->World->(UK)->Prop):Prop:=∀P a b G c,n P a G->aj c a b->(∀d,G d->¬c d)->n P b G
section
variable {w w':World} {F T:UK} {cls:Nat->Nat} {C C2:Nat->World->(UK)->Prop}
def bb.keep(a:bb w F cls C)(d:mI C)(b:aj T w w')(e:∀n,F n->¬T n):bb w' F cls C:=
 ⟨λc=>d c w w' _ T (a.at' c) b λn P=>e n P.1,λn P=>Qk (a.aF n P) b.size⟩
def bb.af(n:bb w F cls C)(P:mI C)(a:ai w w'):bb w' F cls C:=n.keep P a λ_ _ n=>n
def bb.HU(g:bb w F cls C)(l:mI C){k:Nat}{G':UK}(f:aj (λn=>F n/\cls n=k) w w')(m:∀n,G' n->F n->cls n=k)(o:∀n,G' n->n<w'.heap.size)(p:C2 k w' G')(q:∀a G,a≠k->C a w' G->C2 a w' G):∃e b,bb w' e b C2/\aj F w w'/\(∀n,e n->((F n/\cls n≠k)\/G' n))/\(∀a,a≠k->(λn=>e n/\b n=a)=λn=>F n/\cls n=a)/\(λn=>e n/\b n=k)=G':=by
 classical
 have h:∀a,a≠k->(λn=>((F n/\cls n≠k)\/G' n)/\(if G' n then k else cls n)=a)=λn=>F n/\cls n=a:=λa d=>by
  funext n
  refine propext ⟨λP=>?_,λP=>?_⟩
  ·by_cases c:G' n
   ·rw[Zx c]at P;exact Zz P.2.symm d
   ·rw[Zq c]at P
    exact⟨(P.1.resolve_right c).1,P.2⟩
  ·have i:cls n≠k:=λr=>d (P.2.symm.trans r)
   rw[Zq λc=>i (m n c P.1)];exact⟨.inl ⟨P.1,i⟩,P.2⟩
 have j:(λn=>((F n/\cls n≠k)\/G' n)/\(if G' n then k else cls n)=k)=G':=by
  funext n
  refine propext ⟨λP=>?_,λP=>⟨.inr P,Zx P⟩⟩
  by_cases c:G' n
  ·exact c
  ·rw[Zq c]at P;exact Zz P.2 (P.1.resolve_right c).2
 refine⟨λn=>(F n/\cls n≠k)\/G' n,λn=>if G' n then k else cls n,⟨λa=>?_,λn P=>?_⟩,f.mono λn _ P=>P.1,λn P=>P,h,j⟩
 ·by_cases d:a=k
  ·subst d
   rw[j];exact p
  ·rw[h a d]
   refine q a _ d (l a w w' _ _ (g.at' a) f λn P s=>d (P.2.symm.trans s.2))
 ·rcases P with P|P
  ·exact Qk (g.aF n P.1) f.size
  ·exact o n P
def bb.fj(c:bb w F cls C)(h:mI C){k:Nat}{G':UK}(i:aj (λn=>F n/\cls n=k) w w')(e:∀n,G' n->(F n/\cls n=k)\/w.heap.size<=n)(j:∀n,G' n->n<w'.heap.size)(d:C2 k w' G')(l:∀a G,a≠k->C a w' G->C2 a w' G):∃b P,bb w' b P C2/\cz F w b w'/\(∀n,b n->((F n/\cls n≠k)\/G' n))/\(∀a,a≠k->(λn=>b n/\P n=a)=λn=>F n/\cls n=a)/\(λn=>b n/\P n=k)=G':=by
 obtain⟨b,P,f,d,g,m⟩:=c.HU h i (λn o p=>(e n o).elim (·.2) λf=>by have:=c.aF n p;omega) j d l;exact⟨b,P,f,⟨d,λn q=>(g n q).elim (λc=>.inl c.1) λc=>(e n c).imp (·.1) id⟩,g,m⟩
def bb.same(c:bb w F cls C)(e:mI C){k:Nat}(d:aj (λn=>F n/\cls n=k) w w')(f:C2 k w' (λn=>F n/\cls n=k))(g:∀P G,P≠k->C P w' G->C2 P w' G):bb w' F cls C2:=
 ⟨λP=>by
  by_cases a:P=k
  ·subst a;exact f
  ·exact g P _ a (e P w w' _ _ (c.at' P) d λn b h=>a (b.2.symm.trans h.2)),λn b=>Qk (c.aF n b) d.size⟩
def bb.iJ(d:bb w F cls C)(e:mI C){k:Nat}{G':UK}(c:cz (λn=>F n/\cls n=k) w G' w')(f:∀n,G' n->n<w'.heap.size)(g:C2 k w' G')(h:∀a G,a≠k->C a w' G->C2 a w' G):∃b P,bb w' b P C2/\cz F w b w'/\(∀n,b n->((F n/\cls n≠k)\/G' n))/\(∀a,a≠k->(λn=>b n/\P n=a)=λn=>F n/\cls n=a)/\(λn=>b n/\P n=k)=G':=d.fj e c.1 c.2 f g h
def bb.join{G:Nat->UK}(a:∀n,C n w (G n))(g:∀d e P,G d P->G e P->d=e)(h:∀n P,G n P->P<w.heap.size):∃cls,bb w (λP=>∃n,G n P) cls C:=by
 classical
 refine⟨λP=>if a:∃n,G n P then a.choose else 0,⟨λn=>?_,λP ⟨n,b⟩=>h n P b⟩⟩;have:(λP=>(∃n,G n P)/\(if a:∃n,G n P then a.choose else 0)=n)=G n:=by
  funext P
  refine propext ⟨λ⟨c,f⟩=>?_,λb=>⟨⟨n,b⟩,?_⟩⟩
  ·rw[dif_pos c]at f;exact f▸c.choose_spec
  ·have c:∃n,G n P:=⟨n,b⟩
   rw[dif_pos c];exact g _ _ P c.choose_spec b
 rw[this];exact a n
end
end Go.aw
namespace Go.Proofs.YtjgjkeponbeekaaGreatDoor
open Go.aw
def Yd:ky Nat:=flat 1 (λP=>[RK P]) (λ_=>True) (λ_=>rfl) (λa b n=>by simp at n;subst n;rfl)
def QF:kD LL 197 205 1 8:=⟨kR,kR,dC⟩
structure cK (w:World) (G:UK) (a:bc) (n c:Nat) (Rs:List dQ):Prop where
 body:∃ps:List (Nat×Nat),ps.length=Rs.length/\aU Yd 205 (λb=>aG a=some b) w a n c (ps.map (·.1))/\
  (∀(i j:Nat) (x y:Nat×Nat),ps[i]? =some x->ps[j]? =some y->x.1≠y.2/\(x.2=y.2->i=j))/\(∀x∈ps,G x.1/\G x.2/\aG a≠some x.1/\aG a≠some x.2)/\
  ∀(i:Nat) (x:Nat×Nat) (R:dQ),ps[i]? =some x->Rs[i]? =some R->mf w x.1 x.2 R
 self:∀b,aG a=some b->G b
variable{C:Nat×Nat}{h:Program}{g p:TypeId}{o t:ac}
section
variable {w w':World} {G G' T:UK} {a:bc} {n c:Nat} {Rs:List dQ}
def cK.keep(b:cK w G a n c Rs)(h:aj T w w')(d:∀P,G P->¬T P):cK w' G a n c Rs:=by
 obtain⟨i,j,k,l,e,m⟩:=b.body;exact⟨⟨i,j,k.keep h λP o=>d P (b.self P o),l,e,λp f q g r=>(m p f q g r).keep h (d _ (e f (QZ g)).1) (d _ (e f (QZ g)).2.1)⟩,b.self⟩
def cK.af(P:cK w G a n c Rs)(b:ai w w'):cK w' G a n c Rs:=P.keep b λ_ _ P=>P
def cK.mono(g:cK w G a n c Rs)(b:∀P,G P->G' P):cK w G' a n c Rs:=by
 obtain⟨h,i,j,k,d,l⟩:=g.body;exact⟨⟨h,i,j,k,λe f=>⟨b _ (d e f).1,b _ (d e f).2.1,(d e f).2.2⟩,l⟩,λP m=>b P (g.self P m)⟩
def cK.len(P:cK w G a n c Rs):n=Rs.length:=by
 obtain⟨e,b,d,-⟩:=P.body;rw[d.len dC,Q8,b]
def cK.nil(w:World):cK w (λ_=>False) none 0 0 []:=⟨⟨[],rfl,(aU.nil w).mono (λP n=>n.elim) (λP n=>by cases n),sM,sM,sM⟩,λP n=>by cases n⟩
def cK.elem(m:cK w G a n c Rs){P:Nat}{o:dQ}(u:Rs[P]? =some o):∃f e g,a=UV f/\w.cell? ⟨f,0+P,none⟩=some (RK e)/\mf w e g o/\e≠g/\G e/\G g/\G f/\
  ∀w' p,aj (·=g) w w'->mf w' e g p->cK w' G a n c (Rs.set P p):=by
 obtain⟨h,B,v,j,x,y⟩:=m.body;have L:=(Qv.1 u).1;have b:h[P]? =some h[P]:=Qq oM;generalize h[P]=d at b;obtain⟨cs,D,C,E,M⟩:=v.body;have q:=x d (QZ b);obtain⟨rfl,-⟩:=oH.1 E;have F:((h.map (·.1)).flatMap λe=>[Value.pointer (UV e)])[P]? =some (RK d.1):=by
  rw[lu (K:=1) dC (λ_=>rfl) cS,Nat.div_one,Nat.mod_one,getElem!_pos _ P cS];simp[(Qv.1 b).2]
 obtain⟨f,z,H⟩:=C.cell F;refine⟨f,d.1,d.2,z,by rw[Xz];exact H.2,y P d o b u,(j P P d d b b).1,q.1,q.2.1,m.self f (by rw[z];rfl),λw' p A I=>⟨⟨h,by simpa using B,v.keep A λN J r=>q.2.2.2 (r▸J),j,x,λk s K i l=>?_⟩,m.self⟩⟩
 by_cases t:P=k
 ·subst t
  rw[b]at i;cases i
  rw[List.getElem?_set_self oM]at l;cases l
  exact I
 ·rw[List.getElem?_set_ne t]at l
  exact(y k s K i l).keep A (j k P s d i b).1 λr=>t ((j P k d s b i).2 r.symm)
def cK.push(r:cK w G a n c Rs)(I:∀P,G P->P<w.heap.size){e f M:Nat}{N:dQ}(J:mf w e f N)(Q:¬G e)(v:¬G f)(X:e≠f)(Y:kD h g 205 1 8)(Z:w.heap[M]? =some (.cells #[RK e] 205 C))(b:Rs.length<=1000)(K:∀k y w' G',cK w' G' k (n+1) y (Rs++[N])->aj G w w'->(∀P,G' P->G P\/P=e\/P=f\/w.heap.size<=P)->(∀P,G' P->P<w'.heap.size)->o (.slice k (n+1) y) w'):
  aK h (Builtin.append_ #[g,g] p #[.slice a n c,.slice (UV M) 1 1]) w o t:=by
 obtain⟨l,m,L,h3,z,h5⟩:=r.body;have a1:e<w.heap.size:=aA J.at';have a2:f<w.heap.size:=J.map.lt;refine fM L Y Z (D:=λ_=>False) (x:=e) ⟨rfl,trivial⟩ (λP b=>b.elim) (by unfold aR;simp;omega) (by unfold maxLen;simp;omega) λk y w' F' R A hF=>?_;have a0:∀P,aG k=some P->aG a=some P\/w.heap.size<=P:=λP b=>(hF P (R.self P b)).imp id λr=>r.resolve_left id;have s:=R.alone;have a5:=A.size;have S:∀P,aG k=some P->aG a=some P\/w.heap.size<=P:=a0;have F:∀P,P<w.heap.size->aG a≠some P->aG k≠some P:=λP b m L=>(S P L).elim m oM;have T:aG a≠some e:=λj=>Q (r.self e j);have U:aG a≠some f:=λj=>v (r.self f j);refine K k y w' (λP=>(G P\/P=e\/P=f\/aG k=some P)) ⟨⟨l++[(e,f)],by simp[m],by rw[Q3];exact s,λi V x u B H=>?_,λx B=>?_,λi x a3 B q=>?_⟩,λP b=>.inr (.inr (.inr b))⟩ (A.mono λP _ b=>r.self P b) (λP b=>?_) λP b=>?_
 ·have E:∀i x,(l++[(e,f)])[i]? =some x->(l[i]? =some x)\/(i=l.length/\x=(e,f)):=λi x B=>by
   rw[List.getElem?_append]at B;split at B
   ·exact .inl B
   ·rename_i W
    have:i-l.length=0:=by
     rcases Nat.eq_zero_or_pos (i-l.length)with O|O
     ·exact O
     ·rw[Q7 cS]at B;cases B
    rw[this]at B;simp at B;exact .inr ⟨oM,B.symm⟩
  rcases E i x B with B|⟨rfl,rfl⟩<;>rcases E V u H with H|⟨rfl,rfl⟩
  ·exact h3 i V x u B H
  ·have d:=z x (QZ B)
   exact⟨λj=>v ((show x.1=f from j)▸d.1),λj=>Zz ((show x.2=f from j)▸d.2.1) v⟩
  ·have d:=z u (QZ H)
   exact⟨λj=>Q ((show e=u.2 from j)▸d.2.1),λj=>Zz ((show f=u.2 from j)▸d.2.1) v⟩
  ·exact⟨X,λ_=>rfl⟩
 ·rcases Q6.1 B with B|B
  ·have d:=z x B
   exact⟨.inl d.1,.inl d.2.1,F _ (I _ d.1) d.2.2.1,F _ (I _ d.2.1) d.2.2.2⟩
  ·simp at B;subst B
   exact⟨.inr (.inl rfl),.inr (.inr (.inl rfl)),F _ a1 T,F _ a2 U⟩
 ·rw[List.getElem?_append]at B q
  rw[<-m]at q;split at B
  ·rename_i a4
   rw[Zx a4]at q;have d:=z x (QZ B);exact(h5 i x a3 B q).keep A d.2.2.1 d.2.2.2
  ·rename_i W
   rw[Zq W]at q;have:i-l.length=0:=by
    rcases Nat.eq_zero_or_pos (i-l.length)with O|O
    ·exact O
    ·rw[Q7 cS]at B;cases B
   rw[this]at B q;simp at B q;subst B q;exact J.keep A T U
 ·rcases b with b|b|b|b
  ·exact .inl b
  ·exact .inr (.inl b)
  ·exact .inr (.inr (.inl b))
  ·rcases S P b with m|m
   ·exact .inl (r.self P m)
   ·exact .inr (.inr (.inr m))
 ·rcases b with b|b|b|b
  ·have:=I P b;omega
  ·omega
  ·omega
  ·exact s.aF P b
def ZT:ky (List dQ) where
 k:=2
 rep:=λw D Rs cs=>∃P a n c,cs=[.pointer P,.slice a n c]/\cK w D a n c Rs
 keep:=λ⟨P,a,n,c,b,d⟩ g e=>⟨P,a,n,c,b,d.keep g e⟩
 mono:=λ⟨P,a,n,c,b,d⟩ e=>⟨P,a,n,c,b,d.mono e⟩
 len:=λ⟨P,a,n,c,b,d⟩=>by rw[b];rfl
 one:=λ⟨P,a,n,c,b,d⟩ h f=>by
  rw[b]at f;simp only[Q2,List.not_mem_nil,or_false]at f;rcases f with rfl|rfl<;>rfl
def Xe:kD LL 200 199 2 32:=⟨kR,kR,dC⟩
end
def KG(n:aT)(P:List ah)(a:ah):eC n (P++[a])=(eC n P).add a:=by unfold eC;rw[List.foldl_append];rfl
def KI(n:aT)(P:List ah)(a:ah):bR n (P++[a])=((bR n P).add a).2:=by unfold bR;rw[List.foldl_append];rfl
def KH(a:aT)(n:List ah):(eC a n).view=bR a n:=by
 have:∀(n:List ah) (P:kV),(n.foldl kV.add P).view=n.foldl (λc b=>(c.add b).2) P.view:=by
  intro n
  induction n with
  |nil=>intro P;rfl
  |cons b n d=>intro P;rw[List.foldl_cons,List.foldl_cons,d];rfl
 exact this n _
variable{m:Array Value}{A:am}{e:Int}{F:List ah}{g2:List dQ}{a c:Nat}{d:bc}{b:World}{S:aT}{d5:bf}{d6:jZ}
def HY(c:dt S=0)(P:List ah):(bR S P).OK/\(bR S P).decl=S:=by
 have:∀(P:List ah) (n:bf),n.OK->(P.foldl (λn a=>(n.add a).2) n).OK/\(P.foldl (λn a=>(n.add a).2) n).decl=n.decl:=by
  intro P
  induction P with
  |nil=>intro n b;exact⟨b,rfl⟩
  |cons a P d=>
   intro n b;obtain⟨e,f⟩:=bf.AP b a;obtain⟨g,h⟩:=d _ e;exact⟨g,h.trans f⟩
 exact this P _ (bf.tT c)
def dQ.Xf(P:dQ)(a:cZ)(n:Int):(P.add a n).p=P.p:=by
 unfold dQ.add;dsimp only;split
 ·rfl
 ·split<;>rfl
def HT(c:aT)(n:List ah):(eC c n).rows.map (·.p)=c.projs:=by
 have:∀(n:List ah) (P:kV),(n.foldl kV.add P).rows.map (·.p)=P.rows.map (·.p):=by
  intro n
  induction n with
  |nil=>intro P;rfl
  |cons a n d=>
   intro P;rw[List.foldl_cons,d];show((P.rows.map λb=>b.add (P.view.add a).1 (tm ((P.view.add a).2.state a.aZ a.agg) b.p)).map (·.p))=_;rw[List.map_map];exact List.map_congr_left λb _=>b.Xf _ _
 refine(this n _).trans ?_;show(c.projs.map λe=>(⟨e,[]⟩:dQ)).map (·.p)=_;rw[List.map_map];exact List.map_id _
def qD(n:aT)(P:List ah):(eC n P).rows.length=n.projs.length:=by
 rw[<-HT n P,Q8]
def lf(a:aT)(n:Nat)(P:List ah):List (List dQ):=(List.range (P.length/n+1)).map λb=>(eC a (P.take (b*n))).rows
section
variable {d:aT} {every:Nat} {l:List ah}
def AM:(lf d every l).length=l.length/every+1:=by simp[lf]
def QM(n:a<=l.length/every):(lf d every l)[a]? =some (eC d (l.take (a*every))).rows:=by
 unfold lf;rw[Q9,List.getElem?_range oM];rfl
def QR:lf d every []=[(eC d []).rows]:=by
 unfold lf;rw[ZQ,Nat.zero_div];simp
def Oi(c:0<every)(e:ah):lf d every (l++[e])=if l.length+1=(l.length/every+1)*every then lf d every l++[(eC d (l++[e])).rows]else lf d every l:=by
 have g:=Nat.div_add_mod l.length every;have h:=Nat.mod_lt l.length c;have P:∀n,n<=l.length/every->(l++[e]).take (n*every)=l.take (n*every):=λn a=>by
  have:n*every<=l.length:=Xx (Q0 _ a) (Nat.div_mul_le_self ..);rw[List.take_append_of_le_length this]
 split
 ·rename_i b
  have f:(l.length+1)/every=l.length/every+1:=by rw[b];exact Nat.mul_div_cancel _ c
  unfold lf;rw[QX,List.length_singleton,f,List.range_succ,Q3]
  congr 1
  ·refine List.map_congr_left λn a=>?_
   rw[P n (by have:=List.mem_range.1 a;omega)]
  ·rw[List.map_singleton,<-b,Qz sM]
 ·rename_i b
  have f:(l.length+1)/every=l.length/every:=by
   have i:(l.length+1)/every<l.length/every+1:=by
    rw[Nat.div_lt_iff_lt_mul c];rw[X7,Nat.one_mul,Nat.mul_comm]at b⊢;omega
   have j:l.length/every<=(l.length+1)/every:=Nat.div_le_div_right oM;omega
  unfold lf;rw[QX,List.length_singleton,f];refine List.map_congr_left λn a=>?_;rw[P n (by have:=List.mem_range.1 a;omega)]
def Om(P:0<every)(b:a<=l.length/every):(lf d every l).take (a+1)=lf d every (l.take (a*every)):=by
 have c:a*every<=l.length:=Xx (Q0 _ b) (Nat.div_mul_le_self ..);unfold lf;rw[Qy,X2 c,Nat.mul_div_cancel _ P,<-List.map_take,List.take_range,X2 oM];refine List.map_congr_left λe f=>?_;have n:e<=a:=by have:=List.mem_range.1 f;omega
 rw[List.take_take,X2 (Q0 _ n)]
end
structure xd where
 ta:bc
 tn:Nat
 tc:Nat
 pa:bc
 pn:Nat
 pc:Nat
 every:Nat
 ea:bc
 en:Nat
 ec:Nat
 vp:Nat
 ra:bc
 rn:Nat
 rc:Nat
 qa:bc
 qn:Nat
 qc:Nat
abbrev xd.cells(n:xd):Array Value:= #[.slice n.ta n.tn n.tc,.slice n.pa n.pn n.pc,WP (n.every:Int),.slice n.ea n.en n.ec,RK n.vp,.slice n.ra n.rn n.rc,.slice n.qa n.qn n.qc]
def AK(b:Nat)(c:Array Value)(n:xd)(d:aT)(e:bf)(f:List dQ)(g:List ah)(a:List (List dQ)):Nat->World->(UK)->Prop
 |0=>λP G=>G b/\P.heap[b]? =some (.cells c 202 (0,0))
 |1=>λP G=>bu P G d n.ta n.tn n.pa n.pn
 |2=>λP G=>aU lb 63 G P n.ea n.en n.ec g
 |3=>λP G=>cJ P n.vp G e
 |4=>λP G=>cK P G n.ra n.rn n.rc f
 |5=>λP G=>aU ZT 199 G P n.qa n.qn n.qc a
 |_=>λ_ _=>True
def dV{d:xd}{c:List (List dQ)}:mI (AK a m d S d5 g2 F c):=by
 intro k e w' G f n P b
 match k,n with
 |0,n=>exact⟨n.1,P.get n.2 (b a n.1)⟩
 |1,n=>exact bu.keep n P b
 |2,n=>exact aU.keep n P b
 |3,n=>exact cJ.keep n P b
 |4,n=>exact cK.keep n P b
 |5,n=>exact aU.keep n P b
 |k+6,n=>trivial
abbrev eA(b:World)(c:UK)(n:Nat->Nat)(d:Nat)(a:xd)(e:aT)(f:bf)(g:List dQ)(h:List ah)(P:List (List dQ)):Prop:=bb b c n (AK d a.cells a e f g h P)
section
variable {w w':World} {p:Nat} {F T D:UK} {cls:Nat->Nat} {q:xd} {d:aT} {V:bf} {Rs:List dQ} {l:List ah} {pts:List (List dQ)}
def eA.af(n:eA w F cls p q d V Rs l pts)(P:ai w w'):eA w' F cls p q d V Rs l pts:=bb.af n dV P
def eA.bB(n:eA w F cls p q d V Rs l pts):w.heap[p]? =some (.cells q.cells 202 (0,0)):=(n.at' 0).2
def eA.self(n:eA w F cls p q d V Rs l pts):F p/\cls p=0:=(n.at' 0).1
def Ek(s:eA w F cls p q d V Rs l pts)(hd:dt d=0)(hT:fw w)(hl:l.length<=20000000){vp:bc}{y:bc}(hr:cK w D y a c g2)(hD:∀n,D n->n<w.heap.size)(hn:g2.length<=8):
  be 159 #[RK p,.agg #[.pointer vp,.slice y a c]] w (Ok λT w'=>∃g y a c e G,T= .agg #[RK g,.slice y a c]/\cJ w' g e (bR d l)/\cK w' G y a c g2/\(∀n,e n->w.heap.size<=n)/\(∀n,G n->w.heap.size<=n/\n<w'.heap.size/\¬e n)/\ai w w'):=by
 have U:=s.aF;have g7:=hr.len;refine tP (PA.mk λt k5 s5 g5=>PA.mk λz k6 s6 g6=>?_);have A:=k5.then k6;have c1:∀{i:World},ai w i->Row lb 96 i (λn=>F n/\cls n=2) q.ea q.en l:=λ{i} u=>((show aU lb 63 (λn=>F n/\cls n=2) w q.ea q.en q.ec l from s.at' 2).af u).row dC ce;have m:∀{i:World},ai w i->be 79 #[.agg #[.slice q.ta q.tn q.tc,.slice q.pa q.pn q.pc],.slice q.ea q.en q.ec] i (Ok λT w'=>∃p F,T= RK p/\cJ w' p F (bR d l)/\(∀n,F n->i.heap.size<=n)/\ai i w'):=λ{i} u=>
  HP hd (hT.af u) (show bu i (λn=>F n/\cls n=1) d q.ta q.tn q.pa q.pn from bu.keep (s.at' 1) u λ_ _ s=>s) (λn P=>by have:=U n P.1;have:=u.size;omega) (c1 u) (λn P=>by have:=U n P.1;have:=u.size;omega) hl
 refine⟨λh oo w'=>oo=0/\∃g e,w'.heap[h]? =some (.cells #[RK g,.slice none 0 0] 199 (0,0))/\cJ w' g e (bR d l)/\(∀n,e n->z.heap.size<=n)/\¬e h/\z.heap.size<=h/\ai z w',?_,?_⟩
 ·intro o d9
  have v:ai z o:=d9.keep;have s9:o.heap.size=z.heap.size:=by rw[d9.heap]
  have W:=(s.af (A.then v)).bB;have zp:=U p s.self.1;have nS:¬o.heap.size<=p:=by have:=(A.then v).size;omega
  refine⟨λn=>o.heap.size<=n,p,0,rfl,nS,_,_,_,_,_,_,ae W rfl,ae W rfl,p,0,rfl,nS,_,_,_,ae W rfl,PC.ok (m (A.then v)) ?_,PA.mk λg8 X g9 d3=>⟨ai.keep X,PC.ok (m ((A.then v).then X)) ?_⟩⟩
  ·rintro _ J ⟨g,e,rfl,r,B,Y⟩
   refine⟨_,rfl,ai.keep Y,PA.mk λd4 Z h0 d5=>⟨ai.keep Z,PS.mk d5 sM λh2 d6 h3 d7=>PS.mk d7 sM λd8 e0 h4 e1=>?_⟩⟩;have C:=r.aF;have h5:=Y.size;have f:aj (λn=>n=J.heap.size) d4 d8:=d6.then e0;refine⟨f.mono λn _ b=>by have b:n=J.heap.size:=b;omega,rfl,g,e,e1,(r.af Z).keep f λn P b=>by have b:n=J.heap.size:=b;have:=C n P;omega,λn P=>by have:=B n P;omega,λP=>by have:=C _ P;omega,oM,((v.then Y).then Z).new f λn P=>.inr (by have P:n=J.heap.size:=P;omega)⟩
  ·rintro _ e2 ⟨g,e,rfl,r,B,K⟩
   have e3:=K.get d3 id;have C:=r.aF;have h6:=K.size;refine⟨_,rfl,ai.keep K,PS.mk e3 sM λh7 e4 h8 e5=>PS.mk e5 sM λe6 e7 h9 e8=>?_⟩;have f:aj (λn=>n=o.heap.size) e2 e6:=e4.then e7;refine⟨f.mono λn _ b=>by have b:n=o.heap.size:=b;omega,rfl,g,e,e8,r.keep f λn P b=>by have b:n=o.heap.size:=b;have:=B n P;omega,λn P=>by have:=B n P;omega,λP=>by have:=B _ P;omega,oM,((v.then X).then K).new f λn P=>.inr (by have P:n=o.heap.size:=P;omega)⟩
 rintro h _ _ L ⟨rfl,g,e,E,r,c4,e9,g4,M⟩;have a5:=A.then M;have i0:=M.size;have a3:h<L.heap.size:=aA E;have C:=r.aF;have c5:=M.get (k6.get g5 id) id;have c6:=M.get g6 id;refine⟨_,_,_,ae c5 rfl,λa2 a4 w'=>∃j:Nat,a4=j/\j<=a/\a2=a-j/\∃N H O G,w'.heap[h]? =some (.cells #[RK g,.slice N H O] 199 (0,0))/\cK w' G N H O (g2.take j)/\(∀n,G n->L.heap.size<=n/\n<w'.heap.size)/\aj (·=h) L w',
  ⟨_,0,rfl,Qj _,rfl,none,0,0,λ_=>False,E,cK.nil _,λn P=>P.elim,aj.refl _⟩,?_⟩
 rintro a2 _ _ I ⟨j,rfl,hj,rfl,N,H,O,G,Q,R,k,x⟩;have i1:=x.size;refine al.dec (λi2=>?_) (λi3=>?_)
 ·have f2:j<g2.length:=oM
  have hx:g2[j]? =some g2[j]:=Qq f2;generalize g2[j]=c2 at hx;obtain⟨a7,pj,rj,ha,a0,hR,a8,a9,b0,-,-⟩:=((hr.af a5).keep x λn P b=>by have b:n=h:=b;have:=hD n P;omega).elem hx;have f4:=R.len;rw[Qy,X2 oM]at f4;refine⟨a7,0,ha,oM,oM,_,by rw[Qx];exact a0,λc7 c8=>⟨λ_=>False,id,?_⟩⟩;have b2:ai I c7:=c8.keep;have i4:c7.heap.size=I.heap.size:=by rw[c8.heap]
  refine⟨_,_,_,ae (b2.get Q id) rfl,PC.ok (Oh (hR.af b2)) ?_⟩;rintro _ i5 ⟨p',r',rfl,f5,f6,i6,i7,i8,i9,b3⟩;have j0:=b3.size;refine⟨_,rfl,b3,PA.mk λj1 b4 j2 f8=>⟨b4,?_⟩⟩;have a1:=(b2.then b3).then b4;refine(R.af a1).push (λn P=>by have:=(k n P).2;omega) (f5.af b4) (λP=>by have:=(k _ P).2;omega) (λP=>by have:=(k _ P).2;omega) f6 QF f8 (by rw[Qy];omega) λb1 c3 j3 G3 g0 b5 g1 c9=>⟨_,_,_,rfl,?_⟩
  have j4:=b5.size;have b6:=b5.get (a1.get Q id) λP=>by have:=(k _ P).1;omega
  have a6:∀n,G3 n->L.heap.size<=n:=λn P=>by
   rcases g1 n P with S|S|S|S
   ·exact(k n S).1
   ·omega
   ·omega
   ·omega
  refine PS.mk b6 sM λj5 d0 j6 c0=>⟨_,oM,j+1,aq oM,oM,rfl,b1,H+1,c3,G3,c0,?_,λn P=>⟨a6 n P,by have:=c9 n P;omega⟩,?_⟩
  ·rw[Qw,hx]
   exact g0.keep d0 λn P b=>by have b:n=h:=b;have:=a6 n P;omega
  ·exact((x.af a1).new b5 λn P=>.inr (k n P).1).then d0
 ·rw[Qz oM]at R
  have d1:=x.get c6 λb=>by have b:t.heap.size=h:=b;omega
  refine⟨_,_,_,_,ae Q rfl,ae Q rfl,PS.mk d1 sM λj7 b7 j8 g3=>PS.mk g3 sM λb8 b9 j9 d2=>⟨_,_,_,_,ae d2 rfl,ae d2 rfl,Ok.mk ⟨g,N,H,O,e,G,rfl,?_,?_,λn P=>by have:=c4 n P;omega,λn P=>⟨?_,?_,?_⟩,?_⟩⟩⟩
  ·have f:aj (λn=>n=t.heap.size) I b8:=b7.then b9
   exact(r.keep x λn P b=>e9 ((show n=h from b)▸P)).keep f λn P b=>by have b:n=t.heap.size:=b;have:=c4 n P;omega
  ·have f:aj (λn=>n=t.heap.size) I b8:=b7.then b9
   exact R.keep f λn P b=>by have b:n=t.heap.size:=b;have:=k n P;omega
  ·have:=k n P;omega
  ·have:=k n P;omega
  ·intro hf;have:=k n P;have:=C n hf;omega
  ·have f:aj (λn=>n=t.heap.size) I b8:=b7.then b9
   exact(a5.new x λn P=>.inr (by have P:n=h:=P;omega)).new f λn P=>.inr (by have P:n=t.heap.size:=P;omega)
end
section
variable {w w':World} {p:Nat} {F T D:UK} {cls:Nat->Nat} {q:xd} {d:aT} {V:bf} {Rs:List dQ} {l:List ah} {pts:List (List dQ)}
def Dk{b:ah}{d:bc}{w:World}{D:UK}(h:Row aP 8 w D d a b.aN)(s:∀n,D n->n<w.heap.size):
  be 186 #[kU b d a c] w (Ok λt w'=>∃d a c G,t=kU b d a c/\Row aP 8 w' G d a b.aN/\(∀n,G n->w.heap.size<=n/\n<w'.heap.size)/\ai w w'):=by
 have u:=h.fh;have v:=h.len;refine zv (PA.mk λz l A e=>PA.mk λB f C i=>⟨_,_,_,ae (f.get e id) rfl,PC.ok (bS (h.af (l.then f)) λn P=>by have:=s n P;omega) ?_⟩);rintro _ E ⟨m,o,p,G,rfl,q,g,j⟩;have e:=g.get (f.get e id) id;have i:=g.get i id;refine⟨_,_,_,rfl,PS.mk e (by simp[aI]) λF k H x=>?_⟩;refine ar (cs:=aI b m o p) (bh _ _ _ _) x (aD (bh _ _ _ _) (k.get i oM) rfl λI r J y=>ar (bh _ _ _ _) y (Ok.mk ⟨m,o,p,G,rfl,?_,?_,?_⟩))
 ·refine(((q.keep k λn P=>?_).keep r λn P=>?_).row (bytes:=8) dC (by rw[<-v];exact u))
  ·have:=j n P;omega
  ·have:=j n P;omega
 ·intro n P
  have:=j n P;have:=q.aF n P;omega
 ·have K:=g.size
  exact((aj.new ((l.then f).then g) k λn P=>.inr oM).new r λn P=>.inr oM)
def eA.store{P:xd}(n:bb w F cls (AK p q.cells P d V Rs l pts))(b:aj (·=p) w w')(c:w'.heap[p]? =some (.cells m 202 (0,0))):bb w' F cls (AK p m P d V Rs l pts):=by
 refine bb.same n dV (k:=0) (b.mono λh _ e=>e▸(n.at' 0).1) ⟨(n.at' 0).1,c⟩ λa G f g=>?_;rcases a with _|_|_|_|_|_|a<;>first|exact g|exact Zz rfl f
def El(P:eA w F cls p q d V Rs l pts)(I:dt d=0)(J:fw w)(K:l.length<=20000000)(L:Rs.length<=8)(b2:pts.length*q.every<9223372036854775808)(b3:pts.length<=20000001):
  be 107 #[RK p] w (Ok λM w'=>M= .tuple #[]/\∃t u e,eA w' u e p t d V Rs l (if l.length=pts.length*q.every then pts++[Rs]else pts)/\t.every=q.every/\cz F w u w'):=by
 have i:=P.bB;have N:=aU.len (P.at' 2) dC;have O:=aU.len (P.at' 5) dC;have Q:=P.aF;have R:PP .i64 (((q.qn:Nat):Int)*(q.every:Int))=((pts.length*q.every:Nat):Int):=by
  rw[O,show((pts.length:Nat):Int)*(q.every:Int)=((pts.length*q.every:Nat):Int) by push_cast;rfl,wrap_i64 cw]
 refine tQ ⟨p,0,rfl,_,_,_,ae i rfl,p,0,rfl,_,_,_,ae i rfl,p,0,rfl,_,ae i rfl,λS T=>?_⟩;rw[R,N];have j:ai w S:=T.keep;refine al.eI (λb4=>?_) (λb5=>Ok.mk ⟨rfl,q,F,cls,?_,rfl,ai.keep j,λn a=>.inl a⟩)
 rotate_left
 ·rw[Zq oM];exact eA.af P j
 rw[Zx oM];intro v U;have h:ai w v:=j.then U.keep;have c:=eA.af P h;have k:=c.bB;refine⟨λ_=>False,p,0,rfl,id,_,_,_,ae k rfl,p,0,rfl,_,_,_,_,ae k rfl,ae k rfl,PC.ok (Ek c I (J.af h) K (c.at' 4) (λn a=>c.aF n a.1) L) ?_⟩;rintro _ b6 ⟨b7,a3,n2,c2,Fv,G,rfl,-,W,-,m,o⟩;refine⟨_,_,_,_,rfl,o,PA.mk λb8 r b9 X=>⟨r,?_⟩⟩;have x:=o.then r;have Y:=eA.af c x;have c1:=h.size;have c3:=o.size;have s:∀n,aG q.qa=some n->F n/\cls n=5:=λn a=>aU.self (P.at' 5) n a;refine fM (c:=ZT) (x:=Rs) (Y.at' 5) Xe X (D:=G) ⟨_,_,_,_,rfl,W.af r⟩ (λn a=>⟨by have:=(m n a).2.1;omega,λf=>by have:=Q n (s n f).1;have:=(m n a).1;omega⟩) ce (by unfold maxLen;omega) λy b Z F2 z A b0=>⟨_,_,_,rfl,p,0,rfl,?_⟩
 have a0:¬aG q.qa=some p:=λf=>by have g:=(s p f).2;rw[P.self.2]at g;cases g
 have c4:=A.size;have a1:aj (λn=>F n/\cls n=5) v Z:=(ai.keep x).then (A.mono λn _ a=>s n a);obtain⟨F3,a2,B,C,-,-⟩:=c.fj dV (k:=5) (G':=F2) (C2:=AK p q.cells {q with qa:=y,qn:=q.qn+1,qc:=b} d V Rs l (pts++[Rs])) a1
  (λn a=>(b0 n a).imp id λP=>P.elim (λP=>(m n P).1) λP=>oM) z.aF z λE G hj hc=>by
   rcases E with _|_|_|_|_|_|E<;>first|exact hc|exact Zz rfl hj
 refine PS.mk (B.at' 0).2 sM λc5 H c6 b1=>Ok.mk ⟨rfl,{q with qa:=y,qn:=q.qn+1,qc:=b},F3,a2,eA.store B H b1,rfl,?_,λn a=>?_⟩
 ·refine((ai.keep h).then C.keep).then (H.mono λn _ f=>f▸P.self.1)
 ·rcases C.new n a with g|g
  ·exact .inl g
  ·exact .inr oM
end
section
variable {w w':World} {p:Nat} {F T D:UK} {cls:Nat->Nat} {q:xd} {d:aT} {V:bf} {Rs:List dQ} {l:List ah} {pts:List (List dQ)}
def qB(V:bf)(n:ah)(Rs:List dQ):List dQ:=Rs.map λP=>P.add (V.add n).1 (tm ((V.add n).2.state n.aZ n.agg) P.p)
def TF{d:aT}(b:dt d=0)(c:d6∈d.projs):0<=d6.FY:=by
 have P:=(nH b).2.2 d6 c;unfold mY at P;split at P
 ·cases P
 split at P
 ·cases P
 rename_i n
 by_cases a:d6.group=3
 ·rw[a]at n
  simp only[BEq.rfl,Bool.true_and,bne_self_eq_false,Bool.false_and,Bool.or_false,Bool.not_eq_true,Bool.not_eq_false']at n;unfold TB within at n;simp only[QK,Zk]at n;exact n.1.1
 ·have e:(d6.group==3)=false:=by simpa using a
  have f:(d6.group !=3)=true:=by simpa using a
  rw[e,f]at n;simp at n;omega
def Em{V:bf}(P:V.OK)(n:ah):((V.state n.aZ n.agg).getD HO).cells.length<=8:=by
 have a:=P.len n;have b:=(AL (nH P.decl).1).2.2.2;have g:(V.decl.at n.aZ).length<=8:=by
  unfold aT.at;split
  ·rw[QQ]
   cases c:V.decl.types[n.aZ.toNat]? with
   |none=>simp
   |some d=>exact(b d (QZ c)).2
  ·simp
 unfold bf.cellsOf at a;unfold bf.state
 cases e:an V.eT (n.aZ,n.agg)with
 |none=>simp
 |some f=>simp only[e]at a;show f.cells.length<=8;omega
def YH(w n:World)(p:Nat)(F:UK)(q:xd)(d:aT)(V:bf)(Rs:List dQ)(l:List ah)(pts:List (List dQ))(c:ah)(P e:Nat)(w':World):Prop:=
 e=0/\∃f g h a i,w'.heap[P]? =some (.cells (lD (V.add c).1 f g h).toArray 133 (0,0))/\eA w' a i p q d (V.add c).2 Rs l pts/\(∀b,a b->F b\/n.heap.size<=b)/\aj F n w'/\n.heap.size<=P/\¬a P
def QG(u:eA w F cls p q d V Rs l pts)(hd:dt d=0)(hT:fw b)(g0:ai b w)(g4:∀n,F n->b.heap.size<=n)(hl:l.length+1<=20000000)(k5:V.entries.length<=20000000)(g5:Rs.map (·.p)=d.projs)(k6:pts.length*q.every<9223372036854775808)(k7:pts.length<=20000001){e:ah}{I:bc}(k8:((an V.done (e.aZ,e.agg,e.field)).getD []).length<=20000000)(hr:Row aP 8 w D I a e.aN)(R:∀n,D n->n<w.heap.size/\¬F n)(he:e.Ok):
  be 117 #[RK p,kU e I a c] w (Ok λa5 w'=>a5= .tuple #[]/\∃q' S a0,eA w' S a0 p q' d (V.add e).2 (qB V e Rs) (l++[e]) (if l.length+1=pts.length*q.every then pts++[qB V e Rs]else pts)/\q'.every=q.every/\cz F w S w'):=by
 have T:=u.aF;have q8:=T p u.self.1;have q9:Rs.length=d.projs.length:=by rw[<-g5,Q8]
 have r0:d.projs.length<=8:=(AL (nH hd).1).2.2.1;refine u_ (PA.mk λe1 b8 r3 g6=>?_);have k9:=eA.af u b8;refine⟨YH w e1 p F q d V Rs l pts e,?_,?_⟩
 ·intro r g7
  have a6:ai e1 r:=g7.keep;have r4:r.heap.size=e1.heap.size:=by rw[g7.heap]
  have e2:=eA.af k9 a6;have a7:=b8.then a6;have g8:=e2.bB;have a1:∀{o:World},ai r o->be 124 #[RK q.vp,kU e I a c] o (Ok λa5 w'=>∃I a c G,a5=FZ (V.add e).1 I a c/\Row aP 8 w' G I a e.aN/\∃S,cJ w' q.vp S (V.add e).2/\cz (λn=>F n/\cls n=3) o S w'/\∀n,G n->o.heap.size<=n/\n<w'.heap.size/\¬S n):=λ{o} U=>
   HQ (show cJ o q.vp (λn=>F n/\cls n=3) V from(eA.af e2 U).at' 3) (hT.af (g0.then (a7.then U))) (hr.af (a7.then U)) (λn P=>⟨by have:=(R n P).1;have:=(a7.then U).size;omega,λh=>(R n P).2 h.1⟩) he k8 k5
  have fj:∀{o w2:World} {s:UK},ai r o->cJ w2 q.vp s (V.add e).2->cz (λn=>F n/\cls n=3) o s w2->∃i k,eA w2 i k p q d (V.add e).2 Rs l pts/\(∀n,i n->F n\/s n)/\(∀n,i n->F n\/o.heap.size<=n)/\aj F o w2:=λ{o w2 s} U W v=>by
   obtain⟨i,k,X,J,m,-⟩:=(eA.af e2 U).iJ dV (k:=3) (G':=s) (C2:=AK p q.cells q d (V.add e).2 Rs l pts) v W.aF W λf G Y hc=>by
    rcases f with _|_|_|_|_|_|f<;>first|exact hc|exact Zz rfl Y
   exact⟨i,k,X,λn P=>(m n P).imp (·.1) id,J.new,J.keep⟩
  have nS:¬((F p/\cls p=3)\/r.heap.size<=p):=by
   rintro(⟨-,g⟩|g)
   ·rw[u.self.2]at g;cases g
   ·omega
  have b9:¬((F w.heap.size/\cls w.heap.size=3)\/r.heap.size<=w.heap.size):=by
   rintro(⟨g,-⟩|g)
   ·have:=T _ g;omega
   ·omega
  refine⟨λn=>(F n/\cls n=3)\/r.heap.size<=n,p,0,rfl,nS,_,ae g8 rfl,b9,ar (bh e I a c) (a6.get g6 id) ⟨PC.ok (a1 (aj.refl _)) ?_,PA.mk λr5 c2 r6 l0=>⟨ai.keep c2,PC.ok (a1 c2) ?_⟩⟩⟩
  ·rintro _ e3 ⟨y,z,A,G1,rfl,-,s,W,v,-⟩
   obtain⟨i,k,X,g9,m,kF⟩:=fj (aj.refl _) W v;have r7:=v.keep.size;have h0:=X.aF;refine cA (QH _ y z A) ⟨rfl,v.keep.mono λn _ P=>.inl P,PA.mk λr8 e4 r9 l3=>⟨ai.keep e4,aD (mJ _ y z A) l3 rfl λs0 e5 s1 l4=>⟨e5.mono λn _ e=>.inr (by have e:n=e3.heap.size:=e;omega),rfl,y,z,A,i,k,l4,?_,λn P=>?_,?_,oM,λh=>by have:=h0 _ h;omega⟩⟩⟩
   ·exact bb.keep (eA.af X e4) dV e5 λn P e=>by have e:n=e3.heap.size:=e;have:=h0 n P;omega
   ·rcases m n P with g|g
    ·exact .inl g
    ·exact .inr oM
   ·exact(((ai.keep a6).then kF).af e4).new e5 λn P=>.inr (by have P:n=e3.heap.size:=P;omega)
  ·rintro _ s2 ⟨y,z,A,G1,rfl,-,s,W,v,-⟩
   obtain⟨i,k,X,g9,m,kF⟩:=fj c2 W v;have s3:=v.keep.size;have nf:¬i r.heap.size:=λh=>by
    rcases m _ h with g|g
    ·have:=T _ g;omega
    ·omega
   have l5:=kF.get l0 λh=>by have:=T _ h;omega
   refine cA (QH _ y z A) ⟨rfl,v.keep.mono λn _ P=>.inl P,aD (mJ _ y z A) l5 rfl λs4 e6 s5 l6=>⟨e6.mono λn _ e=>.inr (by have e:n=r.heap.size:=e;omega),rfl,y,z,A,i,k,l6,?_,λn P=>?_,?_,oM,nf⟩⟩
   ·exact bb.keep X dV e6 λn P e=>by have e:n=r.heap.size:=e;exact nf (e▸P)
   ·rcases m n P with g|g
    ·exact .inl g
    ·exact .inr oM
   ·exact(((ai.keep a6).then (ai.keep c2)).then kF).new e6 λn P=>.inr (by have P:n=r.heap.size:=P;omega)
 rintro xb _ _ K ⟨rfl,xa,xn,xc,i,k,gx,Z,m,c3,s6,l7⟩;have h2:=c3.get g6 λh=>by have:=T _ h;omega
 have h3:=(hr.af b8).keep c3 λn P=>(R n P).2;have a8:=Z.aF;have s7:=c3.size;have xw:=aA gx;have a9:aj F w K:=(ai.keep b8).then c3;have p8:ai b K:=g0.new a9 λn P=>.inr (g4 n P);obtain⟨j,hS⟩:∃j,j=(V.add e).2.state e.aZ e.agg:=⟨_,rfl⟩
 have s8:(j.getD HO).cells.length<=8:=by rw[hS];exact Em (show(V.add e).2.OK from(show cJ K q.vp (λn=>i n/\k n=3) (V.add e).2 from Z.at' 3).1) e
 refine⟨λsb so w'=>so=0/\∃sa sn sc G2,w'.heap[sb]? =some (.cells #[WP (j.getD HO).version,.slice sa sn sc] 49 (0,0))/\Row gG 32 w' G2 sa sn (j.getD HO).cells/\(∀n,G2 n->K.heap.size<=n/\n<w'.heap.size)/\K.heap.size<=sb/\ai K w',?_,?_⟩
 ·intro B h4
  have c4:ai K B:=h4.keep;have s9:B.heap.size=K.heap.size:=by rw[h4.heap]
  have e7:=eA.af Z c4;have h5:=e7.bB;have d4:=c4.get h2 id;have nS:¬B.heap.size<=p:=by have:=a8 p Z.self.1;omega
  have b9:¬B.heap.size<=w.heap.size:=oM
  refine⟨λn=>B.heap.size<=n,p,0,rfl,nS,_,ae h5 rfl,b9,_,ae d4 rfl,b9,_,ae d4 rfl,PC.ok (oK (e7.at' 3)) ?_,PA.mk λt0 e8 t1 l8=>⟨ai.keep e8,PC.ok (oK ((eA.af e7 e8).at' 3)) ?_⟩⟩
  ·rintro _ c5 ⟨ca,cn,cc,G,rfl,N,L,e9⟩
   have t2:=e9.size;have c6:=N.aF;rw[<-hS]at N⊢;refine⟨_,_,_,_,_,rfl,ai.keep e9,PA.mk λl9 f2 t3 m0=>⟨ai.keep f2,PS.mk m0 sM λt4 m1 t5 m2=>PS.mk m2 sM λm3 m4 t6 m5=>?_⟩⟩;have O:aj (λn=>n=c5.heap.size) l9 m3:=m1.then m4;refine⟨O.mono λn _ e=>by have e:n=c5.heap.size:=e;omega,rfl,ca,cn,cc,G,m5,((N.af f2).keep O λn P e=>by have e:n=c5.heap.size:=e;have:=c6 n P;omega).row dC ce,λn P=>⟨by have:=L n P;omega,by have:=c6 n P;omega⟩,oM,((c4.then e9).then f2).new O λn P=>.inr (by have P:n=c5.heap.size:=P;omega)⟩
  ·rintro _ m6 ⟨ca,cn,cc,G,rfl,N,L,c7⟩
   have t7:=c7.size;have c6:=N.aF;have m7:=c7.get l8 id;rw[<-hS]at N⊢;refine⟨_,_,_,_,_,rfl,ai.keep c7,PS.mk m7 sM λt8 m8 t9 m9=>PS.mk m9 sM λn0 n2 u0 n3=>?_⟩;have O:aj (λn=>n=B.heap.size) m6 n0:=m8.then n2;refine⟨O.mono λn _ e=>by have e:n=B.heap.size:=e;omega,rfl,ca,cn,cc,G,n3,(N.keep O λn P e=>by have e:n=B.heap.size:=e;have:=L n P;omega).row dC ce,λn P=>⟨by have:=L n P;omega,by have:=c6 n P;omega⟩,oM,((c4.then e8).then c7).new O λn P=>.inr (by have P:n=B.heap.size:=P;omega)⟩
 rintro sb _ _ h6 ⟨rfl,sa,sn,sc,G2,gs,n4,n8,u1,Q⟩;have c8:=eA.af Z Q;have h7:=c8.bB;have u2:=Q.size;have h8:bu h6 (λn=>i n/\k n=1) d q.ta q.tn q.pa q.pn:=c8.at' 1;have p9:=h8.F_.len;have q0:=c8.aF;have h9:=Q.get gx id;obtain⟨C,h⟩:∃C:dQ->dQ,C=λx=>x.add (V.add e).1 (tm ((V.add e).2.state e.aZ e.agg) x.p):=⟨_,rfl⟩
 have g2:=aA gs;refine⟨p,0,rfl,_,_,_,ae h7 rfl,λd5 b0 w'=>∃f:Nat,b0=f/\f<=q.pn/\d5=q.pn-f/\eA w' i k p q d (V.add e).2 ((Rs.take f).map C++Rs.drop f) l pts/\aj i h6 w',⟨_,0,rfl,Qj _,rfl,by simpa using c8,aj.refl _⟩,?_⟩;rintro d5 _ _ E ⟨f,rfl,Y,rfl,t,H⟩;have u3:=H.size;have d6:=H.get gs λh=>by have:=a8 _ h;omega
 have g3:=n4.keep H λn P h=>by have:=a8 _ h;have:=(n8 n P).1;omega
 have i0:=H.get h9 l7;have q1:=t.bB;refine al.dec (λu4=>?_) (λu5=>?_)
 ·have i1:f<d.projs.length:=oM
  have hx:d.projs[f]? =some d.projs[f]:=Qq i1;have i2:d.projs[f]∈d.projs:=XY i1;generalize d.projs[f]=x at hx i2;obtain⟨n,h1,es,b1,i9,j1,b2,rfl,d7⟩:=(show bu E (λn=>i n/\k n=1) d q.ta q.tn q.pa q.pn from t.at' 1).F_.el f x hx;have n9:=TF hd i2;refine⟨n,h1,b1,oM,oM,cx (es:=oL x) (k:=5) (qC x) rfl (λb0 ht=>by rw[Qx];exact b2 b0 ht) (PA.mk λu6 i3 u7 o0=>aD (qC x) o0 rfl λi4 i5 u9 i6=>⟨λj2 w'=>j2=tm j x/\aM (tm j x)/\i4=w',?_,?_⟩)⟩
  ·have b3:ai E i4:=i3.new i5 λn P=>.inr (by have P:n=E.heap.size:=P;omega)
   have d8:=g3.af b3;have v0:=d8.len;have a4:tm j x=(((j.getD HO).cells[x.FY.toNat]?).map (·.n)).getD 0:=by
    cases j<;>rfl
   refine⟨_,ae i6 rfl,_,_,_,ae (b3.get d6 id) rfl,al.dec (λi7=>?_) (λi7=>⟨?_,?_,rfl⟩)⟩
   ·obtain⟨bi,f5⟩:∃bi:Nat,x.FY=bi:=⟨x.FY.toNat,oM⟩
    obtain⟨cb,co,v1,v2,v3,o1,v4,v5,o2,-,-,i8,-⟩:=nI d8 (i:=bi) oM;refine⟨_,_,_,ae (b3.get d6 id) rfl,_,ae i6 rfl,cb,co,o1,n9,i7,_,by rw[f5,Qx];exact o2,?_,?_,rfl⟩
    ·rw[a4,f5,Qx,QQ,Qq (show bi<(j.getD HO).cells.length by omega)];rfl
    ·rw[a4,f5,Qx,Qq (show bi<(j.getD HO).cells.length by omega)]
     rw[QQ,Qq (show bi<(j.getD HO).cells.length by omega)]at i8;exact i8
   ·rw[a4,Q7 oM];rfl
   ·rw[a4,Q7 oM];exact HR
  ·rintro _ _ _ ⟨rfl,j4,rfl⟩ o3 o4
   have b4:ai E o3:=(i3.new i5 λn P=>.inr (by have P:n=E.heap.size:=P;omega)).then o4.keep;have c9:=eA.af t b4;have o5:((Rs.take f).map C++Rs.drop f)[f]? =Rs[f]? :=by
    rw[X8 cS];simp[Qy,X2 (show f<=Rs.length by omega)]
   have d0:Rs[f]? =some Rs[f]:=Qq oM;have d9:Rs[f].p=x:=by
    have:=Zj (·[f]?) g5;simp only[Q9,d0,hx,Option.map_some,Q1]at this;exact this
   generalize Rs[f]=b5 at d0 d9;obtain⟨rg,pj,rj,o6,o7,hR,j5,v6,j0,-,b6⟩:=cK.elem (c9.at' 4) (o5.trans d0);have o8:=cK.len (c9.at' 4);rw[QX,Q8,Qy,XZ]at o8;have j6:=c9.bB;refine⟨p,0,rfl,_,_,_,ae j6 rfl,rg,0,o6,oM,oM,_,by rw[Qx];exact o7,ar (mJ _ xa xn xc) (b4.get i0 id) (PC.ok (QI hR j5 (x:=(V.add e).1) he j4) ?_)⟩;rintro _ o9 ⟨rfl,p0,f8⟩;have fR:((Rs.take f).map C++Rs.drop f).set f (b5.add (V.add e).1 (tm j x))=(Rs.take (f+1)).map C++Rs.drop (f+1):=by
    have j7:((Rs.take f).map C).length=f:=by simp;omega
    rw[Qw,d0,Q3,XQ,List.set_append,Zq oM,j7,Nat.sub_self,X4 (show f<Rs.length by omega)];have p1:C b5=b5.add (V.add e).1 (tm j x):=by rw[h,hS,<-d9]
    rw[<-p1];rfl
   have j3:=b6 o9 _ f8 p0;rw[fR]at j3;refine⟨rfl,_,oM,f+1,aq oM,oM,rfl,?_,H.then ((ai.keep b4).then (f8.mono λn _ e=>?_))⟩
   ·refine bb.same c9 dV (k:=4) (f8.mono λn _ e=>by have e:n=rj:=e;rw[e];exact j0) j3 λf G Y hc=>by
     rcases f with _|_|_|_|_|_|f<;>first|exact hc|exact Zz rfl Y
   ·have e:n=rj:=e;rw[e];exact j0.1
 have j8:(Rs.take f).map C++Rs.drop f=qB V e Rs:=by
  rw[Qz oM,List.drop_eq_nil_of_le oM,List.append_nil,h];rfl
 rw[j8]at t;intro b7 e0;have a2:ai E b7:=e0.keep;have q2:b7.heap.size=E.heap.size:=by rw[e0.heap]
 have k0:=eA.af t a2;have k1:=k0.bB;have p2:¬i w.heap.size:=λh=>by
  rcases m _ h with g|g
  ·have:=T _ g;omega
  ·omega
 have k2:=a2.get (H.get (Q.get h2 id) p2) id;have nD:∀n,D n->¬i n:=λn P h=>by
  rcases m _ h with g|g
  ·exact(R n P).2 g
  ·have:=(R n P).1;omega
 have k3:=((h3.af Q).keep H nD).af a2;have v7:=aU.len (t.at' 2) dC;have v8:aj F w b7:=((a9.af Q).new H λn P=>(m n P).imp id oM).af a2;refine⟨λ_=>False,p,0,rfl,id,_,_,_,ae k1 rfl,ar (bh e I a c) k2 (PC.ok (Dk k3 λn P=>by have:=(R n P).1;omega) ?_)⟩;rintro _ q3 ⟨y,z,A,G,rfl,p3,L,c0⟩;refine⟨_,_,_,_,_,_,_,_,_,_,_,_,rfl,c0,PA.mk λq4 c1 q5 k4=>⟨c1,?_⟩⟩;have f0:=(a2.then c0).then c1;have l1:=eA.af t f0;have q6:=c0.size;have l2:=t.aF;have f1:∀n,aG q.ea=some n->i n/\k n=2:=λn P=>aU.self (t.at' 2) n P;refine fM (c:=lb) (x:=e) (l1.at' 2) KF k4 (D:=G) ⟨y,z,A,rfl,p3.af c1,he⟩ (λn P=>⟨by have:=(L n P).2;omega,λee=>by have:=l2 n (f1 n ee).1;have:=(L n P).1;omega⟩) ce (by unfold maxLen;omega) λa' M q7 F2 f3 f4 p4=>⟨_,_,_,rfl,p,0,rfl,?_⟩
 have r1:=f4.size;obtain⟨s,a3,j9,f6,n1,-⟩:=t.fj dV (k:=2) (G':=F2) (C2:=AK p q.cells {q with ea:=a',en:=q.en+1,ec:=M} d (V.add e).2 (qB V e Rs) (l++[e]) pts) ((ai.keep f0).then (f4.mono λn _ P=>f1 n P))
  (λn P=>(p4 n P).imp id λu=>u.elim (λu=>by have:=(L n u).1;omega) λu=>oM) f3.aF f3 λf G Y hc=>by
   rcases f with _|_|_|_|_|_|f<;>first|exact hc|exact Zz rfl Y
 refine PS.mk (j9.at' 0).2 sM λd1 f7 r2 n5=>?_;have n6:eA d1 s a3 p {q with ea:=a',en:=q.en+1,ec:=M} d (V.add e).2 (qB V e Rs) (l++[e]) pts:=eA.store j9 f7 n5;have f9:∀n,s n->F n\/w.heap.size<=n:=λn P=>by
  rcases f6.new n P with g|g
  ·exact(m n g).imp id oM
  ·exact .inr oM
 have n7:aj i E d1:=f6.keep.then (f7.mono λn _ ee=>by have ee:n=p:=ee;rw[ee];exact Z.self.1);have p5:aj F w E:=(a9.af Q).new H λn P=>(m n P).imp id oM;have d2:aj F w d1:=p5.new n7 λn P=>(m n P).imp id oM;refine PC.ok (El n6 hd (hT.af (g0.new d2 λn P=>.inr (g4 n P))) cS (by unfold qB;rw[Q8];omega) k6 k7) ?_;rintro _ u8 ⟨rfl,q',F4,p6,p7,d3,g1⟩;refine⟨rfl,Ok.mk ⟨rfl,q',F4,p6,?_,d3,d2.new g1.keep f9,λn P=>?_⟩⟩
 ·simpa using p7
 ·rcases g1.new n P with g|g
  ·exact f9 n g
  ·have:=d2.size;exact .inr oM
end
def tj:lA:=⟨[],[],[],[],[(1,⟨[0,0,2,4,8,0,0,64,128,256,544,1040,4095,8191,12287],[32767,32767,32765,32763,32759,32767,32767,32703,32639,32511,32223,31727,32766,28671,22527],[0,0,0,0,1,0,0,0,0,1,0,0,0,0,2]⟩)]⟩
def sH(y:(dr d λz B=>(rI b (ad z (B+2)) λC=>PR_ (eq_ .quo 3 (.tmp 5) (.tmp 9) (.ii e) (.ii C)) b (kI_ λn D=>(∀P,cf D P->(dr d λE F=>(rS P (ad E (F+3)) λG a3 f=>(dr d λH I=>(rI P (ad H (I+2)) λc=>((0:Int)<=(PP .i64 (n*c))/\((PP .i64 (n*c)):Int)<=(f:Int)/\(dr d λJ K=>PS P (ad J (K+3)) (.slice G (Int.toNat (PP .i64 (n*c))) f) λg=>(dr d λL M=>(rS g (ad L (M+6)) λN h i=>((0:Int)<=(PP .i64 (n+1))/\((PP .i64 (n+1)):Int)<=(h:Int)/\PR_ (Builtin.clear_ #[200] 0 #[.slice (dh N (Int.toNat (PP .i64 (n+1))) i 2) (h-Int.toNat (PP .i64 (n+1))) (i-Int.toNat (PP .i64 (n+1)))]) g (λa4 j=>(dr d λO Q=>(rS j (ad O (Q+6)) λR a5 k=>((0:Int)<=(PP .i64 (n+1))/\((PP .i64 (n+1)):Int)<=(k:Int)/\(dr d λS T=>PS j (ad S (T+6)) (.slice R (Int.toNat (PP .i64 (n+1))) k) λa=>(dr d λU V=>(rS a (ad U (V+6)) λW X a6=>(ix_ W n X λl m=>(∃o p q r,a.cell? (ad l (m+Int.toNat n*2))=some (.pointer o)/\a.cell? (ad l (m+Int.toNat n*2+1))=some (.slice p q r)/\PC_ 159 #[.pointer d,.agg #[.pointer o,.slice p q r]] a (λY Z=>∃s t u v,Y= .agg #[.pointer s,.slice t u v]/\(dr d λw x=>PS Z (ad w (x+4)) (.pointer s) λa1=>PS a1 (ad w (x+4+1)) (.slice t u v) λa2=>rt A ((.tuple #[])) a2)) (pE A)))))))))) (pV A)))))))))))) (pV A)))):be 116 #[.pointer d,.ii e] b A:=DC tj Tryz.func116 rfl y
def se(P:ep):∀n,(nB P n).Perm (P::n)
 |[]=>List.Perm.refl _
 |y::n=>by
  unfold nB;split
  ·exact List.Perm.refl _
  ·exact((se P n).cons y).trans (List.Perm.swap P y n)
def yk(n:List ep):(n.foldr nB []).Perm n:=by
 induction n with
 |nil=>exact List.Perm.refl _
 |cons P n a=>exact(se P _).trans (a.cons P)
def yU{b:ep}:∀{P:List ep},ve P->(∀y∈P,y.group≠b.group)->ve (nB b P)
 |[],_,_=>by simp[nB,ve]
 |y::P,d,e=>by
  unfold nB;have c:=List.pairwise_cons.1 d;have g:=e y (QV ..);split
  ·rename_i f
   refine List.pairwise_cons.2 ⟨λa n=>?_,d⟩;rcases Q2.1 n with rfl|n
   ·exact f
   ·have:=c.1 a n;omega
  ·rename_i h
   refine List.pairwise_cons.2 ⟨λa n=>?_,yU c.2 λa n=>e a (QJ _ n)⟩;rcases Q2.1 ((se b P).mem_iff.1 n)with rfl|n
   ·omega
   ·exact c.1 a n
def FE:∀{n:List ep},(n.map (·.group)).Nodup->ve (n.foldr nB [])
 |[],_=>List.Pairwise.nil
 |x::n,P=>by
  rw[QY,List.nodup_cons]at P;refine yU (FE P.2) λa b c=>P.1 ?_;rw[<-c];exact Xk.2 ⟨a,(yk n).mem_iff.1 b,rfl⟩
def yV:∀{a P:List ep},(a.Pairwise λx b=>¬b.group<x.group)->ve P->a.Perm P->a=P
 |[],P,_,_,n=>by have:=n.length_eq;cases P;rfl;simp at this
 |x::a,[],_,_,n=>by have:=n.length_eq;simp at this
 |x::a,b::P,f,g,n=>by
  have d:=List.pairwise_cons.1 f;have e:=List.pairwise_cons.1 g;have i:x=b:=by
   rcases Q2.1 (n.mem_iff.1 (QV ..))with h|h
   ·exact h
   rcases Q2.1 (n.mem_iff.2 (QV ..))with c|c
   ·exact c.symm
   have:=e.1 x h;exact Zz this (d.1 b c)
  subst i;rw[yV d.2 e.2 n.cons_inv]
section
variable {w w':World} {p r:Nat} {R:dQ}
def mf.WC(a:mf w p r R):((R.rows.map (·.2)).map (·.group)).Nodup:=by
 have P:=a.map.tidy;unfold Tidy at P;rw[List.map_map]at P⊢;have:R.rows.map ((·.group)∘(·.2))=R.rows.map ((·.1)∘λn=>(n.1,tM n.2)):=List.map_congr_left λn b=>(a.ok n b).2;rw[this];exact P
def mf.zy(n:mf w p r R):ve R.list:=FE n.WC
def Oo(f:mf w p r R)(P:R.rows.length<=20000000):be 404 #[RK p] w (Ok (qH KD 135 w R.list)):=by
 refine xN ⟨p,0,rfl,_,ae f.at' rfl,mapRange SN f.map λw6 N O s6=>?_⟩;refine⟨λz i j k w'=>∃(left:List (Int×ep)) (a:List ep) (h:UK),z=left.length/\cV w' w.heap.size r (Value.int .i64) (R.rows.map λb=>(b.1,tM b.2)) (left.map λb=>(b.1,tM b.2))/\(∀b∈left,ep.Ok b.2)/\
  (a++left.map (·.2)).Perm (R.rows.map (·.2))/\aU KD 135 h w' i j k a/\(∀n,h n->w.heap.size<n)/\ai w w',⟨_,R.rows,[],λ_=>False,rfl,N,λb l=>(f.ok b l).1,List.Perm.refl _,aU.nil _,λn P=>P.elim,O⟩,?_⟩
 rintro z i j k _ A ⟨left,a,h,rfl,B,C,m,d,e,o⟩;have q:a.length+left.length=R.rows.length:=by have:=m.length_eq;simpa using this
 have b3:=d.len dC;refine oy B (λQ=>.inl ⟨rfl,?_⟩) (λa3 a4 l1 l2 s S T U V b4=>.inr ⟨_,_,rfl,rA U ?_⟩)
 ·have W:left=[]:=by simpa using Q
  subst W;refine PC.ok (PK d (by simp at q;omega)) ?_;rintro _ b5 ⟨rfl,X,t,u,v,Y⟩;have Z:X=R.list:=yV u f.zy ((t.trans (by simpa using m)).trans (yk _).symm);subst Z;exact⟨rfl,Ok.mk ⟨i,j,k,h,rfl,v,o.new Y λn P=>.inr (by have:=e n (d.self n P);omega),λn P=>by have:=e n P;omega⟩⟩
 ·obtain⟨E,a5,rfl,rfl,l⟩:=List.map_eq_append_iff.1 S
  obtain⟨b,F,rfl,H,rfl⟩:=List.map_eq_cons_iff.1 l;simp only[Prod.mk.injEq]at H;obtain⟨rfl,rfl⟩:=H;have a0:=C b sM;have b6:=o.size;have b2:w.heap.size<A.heap.size:=B.lt;refine⟨_,_,_,_,rfl,PA.mk λb7 I b8 a9=>aD (UQ b.2) a9 rfl λb9 J c1 x=>⟨_,_,_,ae x rfl,ae x rfl,ae x rfl,PA.mk λwZ L c2 b0=>?_⟩⟩;have y:aj (λn=>n=w.heap.size) A wZ:=((V.af I).new J λn P=>.inr (by have P:n=s.heap.size:=P;omega)).af L;refine fM (c:=KD) (x:=b.2) (d.keep y λn P c=>by have c:n=w.heap.size:=c;have:=e n P;omega) Yc b0 (D:=λ_=>False) ⟨rfl,a0⟩ (λn P=>P.elim) (by simp at q;unfold aR;omega) (by simp at q;unfold maxLen;omega) λa' c' c3 F2 a1 M b1=>⟨_,_,_,rfl,_,?_,E++F,a++[b.2],F2,rfl,?_,λa2 K=>C a2 (by simp at K⊢;rcases K with K|K;exact .inl K;exact .inr (.inr K)),?_,a1,λn P=>?_,?_⟩
  ·simp
  ·have g:cV wZ w.heap.size r (Value.int .i64) (R.rows.map λb=>(b.1,tM b.2)) ((E++F).map λb=>(b.1,tM b.2)):=by
    rw[Q3];exact((T.af I).keep J (λc=>by have c:w.heap.size=s.heap.size:=c;omega) (λc=>by have c:r=s.heap.size:=c;have:=f.map.lt;omega)).af L
   refine g.keep M (λc=>by have:=e _ (d.self _ c);omega) (λc=>by have:=e _ (d.self _ c);have:=f.map.lt;omega)
  ·refine List.Perm.trans ?_ m
   simp only[Q3,QY,XQ];refine List.Perm.append_left a ?_;rw[List.singleton_append];exact List.perm_middle.symm
  ·rcases b1 n P with g|g|g
   ·exact e n g
   ·exact g.elim
   ·have:=y.size;omega
  ·exact(o.new y λn P=>.inr (by have P:n=w.heap.size:=P;omega)).new M λn P=>.inr (by have:=e n (d.self n P);omega)
end
end Go.Proofs.YtjgjkeponbeekaaGreatDoor
namespace Go.aw
open Go
variable{a c i:Nat}{f:UK}{X a1:Operand}{d:bc}{h:Program}{j:Type}{B g p:TypeId}{o t:ac}{b:World}
def AN{bytes:Nat}{n:ky j}(v:kD h g p n.k bytes)(C:Oj h p=true){w:List j}(k:aU n p f b d a c w)(S:i<=a)(l:∀e,aU n p f e d i c (w.take i)->aj (λP=>aG d=some P) b e->e.heap.size=b.heap.size->o (.tuple #[]) e):
  aK h (Builtin.clear_ #[g] B #[.slice (dh d i c n.k) (a-i) (c-i)]) b o t:=by
 rcases Nat.lt_or_ge i a with T|U
 rotate_left
 ·obtain rfl:i=a:=oM
  rw[Nat.sub_self];exact aK.mk (w':=b) (v:=.tuple #[]) (by cases dh d i c n.k<;>simp[Builtin.clear_,run_underlying v.under]) (l b (k.take (Q4 _)) (aj.refl _) rfl)
 obtain⟨cs,D,q,E,x⟩:=k.body;have F:=q.length;rcases q.cases with⟨_,V,_,_⟩|⟨y,H,rfl,I,J,z,K⟩
 ·omega
 have r:c<=maxLen:=by
  obtain⟨_,W,_,A,_,_,_,r,_⟩:=q.row.2.resolve_left (by rintro⟨k,_⟩;cases k);simp only[XX]at A;rw[A.2.2];exact r
 have L:i*n.k<=a*n.k:=Q0 _ oM;have X:a*n.k<=c*n.k:=Q0 _ J;rw[gl (show c≠i by omega),Xz];refine Sl v C I (by rw[z,Nat.sub_mul];omega) λe m M N O Q R=>?_;have s:aj (λP=>aG (some (⟨y,0,none⟩:Addr))=some P) b e:=Q.mono λP _ p=>by rw[p];rfl
 refine l e ⟨⟨cs.take (i*n.k),D,⟨⟨by rw[Qy,F];omega,.inr ⟨y,c,m,rfl,Qj _,M,oM,r,by rw[N,z],?_⟩⟩⟩,(E.keep s λP u=>(x P u).2).take i,x⟩,k.self,λP u=>Qk (k.aF P u) s.size⟩ s R;rw[O,<-K,List.take_take,X2 L]
def TH(i:0<c)(j:a<9223372036854775808):(do eqGuard .quo g X a1 (WP (a:Int)) (WP (c:Int));binOp .quo g (WP (a:Int)) (WP (c:Int)):Sem Value).run h b= .ok (WP ((a/c:Nat):Int)) b:=by
 have d:c≠0:=oM
 have n:(a:Int).tdiv (c:Int)=((a/c:Nat):Int):=by rw[Int.tdiv_eq_ediv_of_nonneg oM];rfl
 have e:=Nat.div_le_self a c;generalize a/c=P at n e;have f:PP .i64 (P:Int)=(P:Int):=wrap_i64 cw;simp[eqGuard,binOp,Op.intDiv,d,n,f]
end Go.aw
namespace Go.Proofs.YtjgjkeponbeekaaGreatDoor
open Go.aw
def df(d:World)(e:Nat)(f:UK)(P:aT)(n:Nat)(a:List ah):Prop:=
 (dt P=0/\0<n/\n<9223372036854775808/\a.length<=20000000)/\∃c b,c.every=n/\eA d f b e c P (bR P a) (eC P a).rows a (lf P n a)
variable{F:List ah}{a c:Nat}{b:World}
def TG{d:aT}(n:0<a)(P:a<9223372036854775808)(b:F.length<=20000000):(lf d a F).length*a<9223372036854775808/\(lf d a F).length<=20000001:=by
 rw[AM];have c:=Nat.div_le_self F.length a;refine⟨?_,oM⟩;rcases Nat.lt_or_ge F.length a with h|h
 ·rw[Nat.div_eq_of_lt h];omega
 ·have:=Nat.div_mul_le_self F.length a
  rw[X7,Nat.one_mul];omega
section
variable {w w':World} {p:Nat} {F T D:UK} {d:aT} {every:Nat} {l:List ah}
def df.keep(a:df w p F d every l)(b:aj T w w')(c:∀P,F P->¬T P):df w' p F d every l:=by
 obtain⟨e,f,n,g,h⟩:=a;exact⟨e,f,n,g,bb.keep h dV b c⟩
def df.af(n:df w p F d every l)(P:ai w w'):df w' p F d every l:=n.keep P λ_ _ n=>n
def df.aF(P:df w p F d every l):∀n,F n->n<w.heap.size:=by obtain⟨c,e,a,f,b⟩:=P;exact b.aF
def xf(d:aT)(l:List ah)(b:l.length<=20000000):(bR d l).entries.length<=20000000/\∀n,((an (bR d l).done n).getD []).length<=20000000:=by
 have P:=λn=>Gb d l (bf.new d) n;refine⟨?_,λn=>?_⟩
 ·have a:(bR d l).entries.length=0+l.length:=(P (0,0,0)).2
  omega
 ·have a:((an (bR d l).done n).getD []).length<=0+l.length:=(P n).1
  omega
def HS(d:aT)(l:List ah)(n:ah):qB (bR d l) n (eC d l).rows=(eC d (l++[n])).rows:=by
 rw[KG];unfold qB kV.add;rw[KH]
def QL(s:df w p F d every l)(t:fw b)(u:ai b w)(v:∀n,F n->b.heap.size<=n)(j:l.length+1<=20000000){e:ah}{k:bc}(x:Row aP 8 w D k a e.aN)(y:∀n,D n->n<w.heap.size/\¬F n)(z:e.Ok):
  be 117 #[RK p,kU e k a c] w (Ok λm w'=>m= .tuple #[]/\∃f,df w' p f d every (l++[e])/\cz F w f w'):=by
 obtain⟨⟨o,g,q,r⟩,L,A,rfl,B⟩:=s;obtain⟨C,E⟩:=xf d l r;obtain⟨H,I⟩:=TG (d:=d) g q r;refine(QG B o t u v j C (HT d l) H I (E _) x y z).mono ?_;rintro _ w' ⟨m,rfl,rfl,J,f,P,h,i,K⟩;refine Ok.mk ⟨rfl,f,⟨⟨o,g,q,by simpa using j⟩,J,P,i,?_⟩,K⟩;rw[KI,Oi g,<-HS,<-AM (d:=d)];exact h
def zPt:Oj LL 199=true:=kR
def Ol(a0:df w p F d every l)(hT:fw b)(g0:ai b w)(c5:∀P,F P->b.heap.size<=P)(hn:a<=l.length):
  be 116 #[RK p,WP (a:Int)] w (Ok λa1 w'=>a1= .tuple #[]/\∃H,df w' p H d every (l.take (a/every*every))/\cz F w H w'):=by
 obtain⟨⟨q,u,h3,h4⟩,n,h,rfl,g⟩:=a0;have c6:=g.bB;have e1:=g.aF;have c7:=aU.len (g.at' 5) dC;have I:=aU.len (g.at' 2) dC;rw[AM]at c7;obtain⟨k,v⟩:∃k,k=a/n.every:=⟨_,rfl⟩
 have s:k<=l.length/n.every:=by rw[v];exact Nat.div_le_div_right hn
 have J:k*n.every<=l.length:=Xx (Q0 _ s) (Nat.div_mul_le_self ..);have e2:k<=l.length:=Xx s (Nat.div_le_self ..);rw[<-v];have x:PP .i64 ((k:Int)*(n.every:Int))=((k*n.every:Nat):Int):=by
  rw[show((k:Int)*(n.every:Int))=((k*n.every:Nat):Int) by push_cast;rfl,wrap_i64 cw]
 have c8:PP .i64 ((k:Int)+1)=((k+1:Nat):Int):=aq oM;have ec:=aU.lE (g.at' 2);have qc:=aU.lE (g.at' 5);refine sH ⟨p,0,rfl,_,ae c6 rfl,aK.mk (TH u oM) ⟨_,rfl,λK c9=>?_⟩⟩;rw[<-v,c8];simp only[Qx];have L:ai w K:=c9.keep;have y:=eA.af g L;have z:=y.bB;have a2:bb K F h (AK p n.cells {n with en:=k*n.every} d (bR d l) (eC d l).rows (l.take (k*n.every)) (lf d n.every l)):=y.same dV (k:=2) (aj.refl _) (aU.take (y.at' 2) (show k*n.every<=n.en from I▸J)) λi G j m=>by
  rcases i with _|_|_|_|_|_|i<;>first|exact m|exact Zz rfl j
 refine⟨p,0,rfl,_,_,_,ae z rfl,p,0,rfl,_,ae z rfl,by rw[x];exact Int.natCast_nonneg _,by rw[x];exact Int.ofNat_le.2 (Xx J (I▸ec)),p,0,rfl,?_⟩;rw[x,Qx];refine PS.mk z sM λd0 M e3 N=>?_;have O:eA d0 F h p {n with en:=k*n.every} d (bR d l) (eC d l).rows (l.take (k*n.every)) (lf d n.every l):=eA.store a2 M N;refine⟨p,0,rfl,_,_,_,ae N rfl,oM,by show _<=((n.qn:Nat):Int);omega,?_⟩;have e:∀P,aG n.qa=some P->F P/\h P=5:=λP c=>aU.self (g.at' 5) P c;have a3:¬aG n.qa=some p:=λf=>by have q:=(e p f).2;rw[g.self.2]at q;cases q
 refine AN Xe zPt (O.at' 5) (by show k+1<=n.qn;omega) λd1 a5 Q e4=>?_;have R:bb d1 F h (AK p ({n with en:=k*n.every}:xd).cells {n with en:=k*n.every,qn:=k+1} d (bR d l) (eC d l).rows (l.take (k*n.every)) ((lf d n.every l).take (k+1))):=O.same dV (k:=5) (Q.mono λP _ c=>e P c) a5 λi G j m=>by
  rcases i with _|_|_|_|_|_|i<;>first|exact m|exact Zz rfl j
 have S:=(R.at' 0).2;refine⟨p,0,rfl,_,_,_,ae S rfl,oM,by show _<=((n.qc:Nat):Int);omega,p,0,rfl,PS.mk S sM λwZ T e5 U=>?_⟩;have r:eA wZ F h p {n with en:=k*n.every,qn:=k+1} d (bR d l) (eC d l).rows (l.take (k*n.every)) ((lf d n.every l).take (k+1)):=eA.store R T U;have A:aj F w wZ:=(((ai.keep L).then (M.mono λP _ f=>by have f:P=p:=f;rw[f];exact g.self.1)).then (Q.mono λP _ c=>(e P c).1)).then (T.mono λP _ f=>by have f:P=p:=f;rw[f];exact g.self.1);have d2:((lf d n.every l).take (k+1))[k]? =some (eC d (l.take (k*n.every))).rows:=by
  rw[Xw,Zx oM];exact QM s
 obtain⟨pb,po,es,d3,e6,e7,V,e8,ra,rn,rc,rfl,d4⟩:=(aU.row (bytes:=32) (r.at' 5) dC (by rw[Qy];unfold aR;omega)).el k _ d2;have c0:=V 0 dC;have c1:=V 1 dC;refine⟨p,0,rfl,_,_,_,ae U rfl,pb,po,d3,oM,by show(k:Int)<((k+1:Nat):Int);omega,_,_,_,_,c0,c1,PC.ok (Ek r q (hT.af (g0.new A λP c=>.inr (c5 P c))) (by rw[Qy];omega) d4 (λP c=>r.aF P c.1) (by rw[qD];exact(AL (nH q).1).2.2.1)) ?_⟩;rintro _ W ⟨B,X,Y,Z,Fv,G,rfl,hv,b3,b4,t,b5⟩;have e9:=A.size;obtain⟨F1,e0,d5,f2,b6,-⟩:=r.HU dV (k:=3) (w':=W) (G':=Fv) (C2:=AK p ({n with en:=k*n.every,qn:=k+1}:xd).cells {n with en:=k*n.every,qn:=k+1,vp:=B} d (bR d (l.take (k*n.every))) (eC d l).rows (l.take (k*n.every)) ((lf d n.every l).take (k+1)))
  (ai.keep b5) (λP c C=>by have:=b4 P c;have:=r.aF P C;omega) hv.aF hv λi G j m=>by
   rcases i with _|_|_|_|_|_|i<;>first|exact m|exact Zz rfl j
 obtain⟨F2,b7,b8,f4,d6,-⟩:=d5.HU dV (k:=4) (w':=W) (G':=G) (C2:=AK p ({n with en:=k*n.every,qn:=k+1}:xd).cells {n with en:=k*n.every,qn:=k+1,vp:=B,ra:=X,rn:=Y,rc:=Z} d (bR d (l.take (k*n.every))) (eC d (l.take (k*n.every))).rows (l.take (k*n.every)) ((lf d n.every l).take (k+1)))
  (aj.refl _) (λP c C=>by
   rcases b6 P C with o|o
   ·have:=(t P c).1;have:=r.aF P o.1;omega
   ·exact Zz o (t P c).2.2) (λP c=>(t P c).2.1) b3 λi G j m=>by
   rcases i with _|_|_|_|_|_|i<;>first|exact m|exact Zz rfl j
 have b9:∀P,F2 P->F P\/w.heap.size<=P:=λP c=>by
  rcases d6 P c with o|o
  ·rcases b6 P o.1 with E|E
   ·exact .inl E.1
   ·exact .inr (by have:=b4 P E;omega)
  ·exact .inr (by have:=(t P o).1;omega)
 have d7:=(b8.at' 0).2;refine⟨_,_,_,_,rfl,p,0,rfl,PS.mk d7 sM λf5 c3 f6 d8=>PS.mk d8 sM λf8 c4 g1 d9=>Ok.mk ⟨rfl,F2,⟨⟨q,u,h3,by rw[Qy];omega⟩,{n with en:=k*n.every,qn:=k+1,vp:=B,ra:=X,rn:=Y,rc:=Z},b7,rfl,?_⟩,?_,b9⟩⟩
 ·rw[<-Om u s]
  exact eA.store b8 (c3.then c4) d9
 ·exact(A.af b5).then ((c3.then c4).mono λP _ f=>by have f:P=p:=f;rw[f];exact g.self.1)

import Derived.Test.YtjgjkeponbeekaaGreatDoorKd14
set_option linter.all false
set_option maxHeartbeats 4000000
set_option maxRecDepth 100000
open Go.IntKind renaming wrap→ZG
namespace Go.Proofs.YtjgjkeponbeekaaGreatDoor
open Go.ar
def Mh:eC cC Int where
 k:=13
 ci:=aI
 ib:=8
 inner:=(·.ev.aQ)
 hd:=λn P a b=>aE n.ev P a b++[.bool n.void,ZH n.FC.1,ZH n.FC.2]
 ok:=λn=>n.ev.Ok
 hl:=λ_ _ _ _=>rfl
 h1:=λn P a b d c=>by
  simp only[aE,List.cons_append,List.nil_append,Q2,List.not_mem_nil,or_false]at c;rcases c with rfl|rfl|rfl|rfl|rfl|rfl|rfl|rfl|rfl|rfl|rfl|rfl|rfl<;>rfl
 o:=3
 ho:=dC
 eh:=λ_ _ _ _ _ _ _=>rfl
abbrev wA:jJ cC:=Mh.Nv
abbrev ig(n:cC)(P:YQ)(a b:Nat):List Value:=aE n.ev P a b++[.bool n.void,ZH n.FC.1,ZH n.FC.2]
def RN:jV ZP 50 133 13 120:=⟨kR,kR,dC⟩
def lI(n:cC)(P:YQ)(a b:Nat):ij ZP 133 (ig n P a b)=true:=kR
def Pk(n:cC)(P:YQ)(a b:Nat):SO (cN ZP 133) (.agg (ig n P a b).toArray)=true:=kR
def RQ:Ki ZP 305 3:=⟨kR,kR,⟨"typ", "no",kR,dC,dC⟩,kR,kR,kR⟩
def Tw:wo ZP 350 305 3:=⟨RQ,kR,⟨"agg", "field",kR,dC,dC⟩,kR,kR,kR⟩
def Vh:iK ZP 305 oY:=RQ.key
def XL:iK ZP 350 CU:=Tw.key
def XM:lY ZP 263 305 49 (.agg #[ZH 0,.slice none 0 0]):=⟨kR,kR⟩
def X_:lY ZP 264 350 59 (.slice none 0 0):=⟨kR,kR⟩
inductive JZ where
 |self|st|dn|OY|RR|Ws
 |done (k:Int×Int×Int)
structure Fz where
 ta:YQ
 tn:Nat
 tc:Nat
 pa:YQ
 pn:Nat
 pc:Nat
 ea:YQ
 en:Nat
 ec:Nat
 r1:Nat
 r2:Nat
 l1:List ((Int×Int)×Value)
 l2:List ((Int×Int×Int)×Value)
 cls:Nat->JZ
abbrev Fz.P(P:Fz)(a:ZN)(b:JZ):ZN:=λn=>a n/\P.cls n=b
def WA(b:World)(D:ZN)(c:Value)(n:mJ):Prop:=∃P a d,c= .agg #[ZH n.version,.slice P a d]/\Row eG 32 b D P a n.cells
def WB(b:World)(D:ZN)(c:Value)(d:List aj):Prop:=∃n P a,c= .slice n P a/\aM jF 63 D b n P a d
structure yS (w:World) (p:Nat) (F:ZN) (V:aW) (q:Fz):Prop where
 at':w.heap[p]? =some (.cells #[.slice q.ta q.tn q.tc,.slice q.pa q.pn q.pc,.slice q.ea q.en q.ec,.map (some q.r1),.map (some q.r2)] 266 (0,0))
 RR:bg w (q.P F .RR) V.decl q.ta q.tn q.pa q.pn
 OY:aM wA 133 (q.P F .OY) w q.ea q.en q.ec V.entries
 st:bJ w q.r1 oY q.l1
 Wt:fu (WA w (q.P F .Ws)) q.l1 V.eg
 dn:bJ w q.r2 CU q.l2
 WC:oN (λk=>WB w (q.P F (.done k))) q.l2 V.done
 aC:∀b,F b->b<w.heap.size
 lp:F p/\q.cls p= .self
 l1:F q.r1/\q.cls q.r1= .st
 l2:F q.r2/\q.cls q.r2= .dn
def cg(P:World)(a:Nat)(b:ZN)(n:aW):Prop:=n.OK/\∃c,yS P a b n c
variable{e m:Int}{L:List aj}{d s:YQ}{R:aN}
section
variable {w w':World} {p:Nat} {F T D:ZN} {V:aW} {q:Fz}
def WA.af{n:Value}{P:mJ}(b:WA w D n P)(c:ak T w w')(d:∀a,D a->¬T a):WA w' D n P:=by
 obtain⟨e,f,g,h,i⟩:=b;exact⟨e,f,g,h,i.af c d⟩
def WB.af{n:Value}(a:WB w D n L)(b:ak T w w')(c:∀P,D P->¬T P):WB w' D n L:=by
 obtain⟨d,e,f,g,h⟩:=a;exact⟨d,e,f,g,h.af b c⟩
def yS.af(n:yS w p F V q)(b:ak T w w')(c:∀P,F P->¬T P):yS w' p F V q:=
 ⟨b.get n.at' (c _ n.lp.1),n.RR.af b λP a=>c P a.1,n.OY.af b λP a=>c P a.1,n.st.af b (c _ n.l1.1),n.Wt.mono λe f d=>d.af b λP a=>c P a.1,
  n.dn.af b (c _ n.l2.1),n.WC.mono λg e f d=>d.af b λP a=>c P a.1,λP a=>Qk (n.aC P a) b.size,n.lp,n.l1,n.l2⟩
def yS.ah(n:yS w p F V q)(P:ai w w'):yS w' p F V q:=n.af P λ_ _ n=>n
def cg.af(n:cg w p F V)(a:ak T w w')(b:∀P,F P->¬T P):cg w' p F V:=⟨n.1,n.2.imp λq c=>c.af a b⟩
def cg.ah(n:cg w p F V)(P:ai w w'):cg w' p F V:=n.af P λ_ _ n=>n
def cg.aC(P:cg w p F V):∀n,F n->n<w.heap.size:=P.2.elim λq a=>a.aC
def cg.self(n:cg w p F V):F p:=n.2.elim λq P=>P.lp.1
def HJ{tn u l v:Nat}(x:cU R=0)(y:bg w D R d tn s l)(z:∀n,D n->n<w.heap.size):
  YX 105 #[.agg #[.slice d tn u,.slice s l v]] w (Ok λA w'=>∃p F,A= ZL p/\cg w' p F (aW.new R)/\(∀n,F n->w.heap.size<=n)/\ai w w'):=by
 refine KN (PA.mk λJ m K o=>⟨_,_,_,_,_,_,ae o rfl,ae o rfl,PC.ok (DI (y.ah m) λn P=>by have:=z n P;omega) ?_⟩);rintro _ c ⟨f,Qr,g,h,i,j,G,rfl,B,C,q⟩;refine⟨_,_,_,_,_,_,rfl,PA.mk λa r L E=>PA.mk λb k M H=>PA.mk λt e N I=>Ok.mk ⟨b.heap.size,λn=>w.heap.size<=n/\n<t.heap.size,rfl,⟨aW.tr x,
  ⟨⟨f,Qr,g,h,i,j,none,0,0,c.heap.size,a.heap.size,[],[],λn=>if n=b.heap.size then .self else if n=c.heap.size then .st else if n=a.heap.size then .dn else .RR⟩,?_⟩⟩,λn P=>P.1,((m.then q).then r).then (k.then e)⟩⟩
 have O:=q.size;refine⟨I,?_,?_,bJ.new (e.get (k.get E id) id),trivial,bJ.new (e.get H id),trivial,λn P=>P.2,⟨⟨by show w.heap.size<=b.heap.size;omega,by show b.heap.size<_;omega⟩,Zx rfl⟩,⟨⟨by show w.heap.size<=c.heap.size;omega,by show c.heap.size<_;omega⟩,?_⟩,⟨⟨by show w.heap.size<=a.heap.size;omega,by show a.heap.size<_;omega⟩,?_⟩⟩
 ·refine(((B.ah r).ah k).ah e).mono λn P=>?_
  have:=C n P;refine⟨⟨oM,oM⟩,?_⟩;show(if n=b.heap.size then _ else _)=_;rw[Zq oM,Zq oM,Zq oM]
 ·exact(aM.nil t).mono (λn P=>P.elim) λn P=>P.1.2
 ·show(if c.heap.size=b.heap.size then _ else _)=_
  rw[Zq oM,Zx rfl]
 ·show(if a.heap.size=b.heap.size then JZ.self else if a.heap.size=c.heap.size then JZ.st else if a.heap.size=a.heap.size then JZ.dn else JZ.RR)=JZ.dn
  rw[Zq oM,Zq oM,Zx rfl]
abbrev Hz:mJ:=⟨0,[]⟩
def nV(i:cg w p F V):
  YX 127 #[ZL p,ZH e,ZH m] w (Ok λr w'=>∃a b c G,r= .tuple #[.agg #[ZH ((V.state e m).getD Hz).version,.slice a b c],.bool (V.state e m).isSome]/\aM eG 78 G w' a b c ((V.state e m).getD Hz).cells/\(∀n,G n->w.heap.size<=n)/\ai w w'):=by
 obtain⟨T,q,i⟩:=i;refine uQ (PA.mk λs t U z=>?_);have h:=i.ah t;refine⟨p,0,rfl,_,ae h.at' rfl,je (enc:=oY) (k:=(e,m)) XM Vh h.st ?_⟩;obtain⟨g,n,a,b,c,d,f,A,B,j⟩:∃(g:mJ) (n:Bool) (a:YQ) (b c:Nat),(aF q.l1 (e,m)).getD (.agg #[ZH 0,.slice none 0 0])= .agg #[ZH g.version,.slice a b c]/\(aF q.l1 (e,m)).isSome=n/\(V.state e m).getD Hz=g/\(V.state e m).isSome=n/\Row eG 32 s (q.P F .Ws) a b g.cells:=by
  unfold aW.state;rcases h.Wt.aF (e,m)with⟨d,f⟩|⟨r,g,d,f,a,b,c,rfl,j⟩
  ·exact⟨Hz,false,none,0,0,by rw[d];rfl,by rw[d];rfl,by rw[f];rfl,by rw[f];rfl,Row.nil _ _⟩
  ·exact⟨g,true,a,b,c,by rw[d];rfl,by rw[d];rfl,by rw[f];rfl,by rw[f];rfl,j⟩
 rw[d,f,A,B];refine⟨_,_,_,_,_,rfl,PA.mk λW C X E=>PS.mk E sM λY H Z I=>PS.mk I sM λJ K s7 u=>?_⟩;have k:ai s J:=(C.new H λn P=>.inr oM).new K λn P=>.inr oM;refine⟨_,_,_,_,ae u rfl,ae u rfl,PC.ok (Lj (j.ah k) λn P=>by have:=h.aC n P.1;omega) ?_⟩;rintro _ w8 ⟨L,M,N,G,rfl,O,l,o⟩;have Q:=o.get (k.get z id) id;have z8:=o.size;refine⟨_,_,_,_,rfl,PS.mk Q sM λw9 v s9 R=>PS.mk R sM λa0 x a1 y=>⟨_,_,_,_,ae y rfl,ae y rfl,Ok.mk ⟨L,M,N,G,rfl,?_,?_,?_⟩⟩⟩
 ·exact(O.af v λn P S=>by have:=l n P;omega).af x λn P S=>by have:=l n P;omega
 ·intro n P;have:=l n P;omega
 ·exact(((t.then k).then o).new v λn P=>.inr oM).new x λn P=>.inr oM
end
def zN:fL:=⟨[],[(5,[])],[],[],[(3,⟨[0,1,2,4,12,16,48,80,144,16,528,1296,2064,4112,8208,16400,32768,98304,163840,262144,786432,1310720,2392064,4227072],[16777215,16777214,16777213,16777211,16777207,16777199,16777167,16777135,16777071,16777199,16776687,16775919,16775151,16773103,16769007,16760831,16744447,16678911,16613375,16515071,15990783,15466495,14385151,12550143],[0,1,2,0,0,0,1,0,1,0,1,0,0,0,0,0,0,1,0,0,1,0,0,0]⟩)]⟩
variable{K:Bool}{t:ZT}{d9:Int×Int}{d0:List bh}{a c i l:Nat}{f:ZN}{d4:YQ}{g:TypeId}{b:World}{c9:bh}{e1:jr}
def zO(x:PA b (.cells #[.slice d a c] 118) λP=>PA P (.cells #[.ii e,.ii m,.bool K,.slice s i l] 121) λo=>(rI o (ab_ P 0) λy=>PC_ 97 #[.ii y,.ii 1,.ii 4] o (kB λz p=>al (!z) (rt t ((.ii 2)) p) ((∃f:ZU,((∀g,aV p g->(rI g (ab_ P (0+1)) λA=>PC_ 97 #[.ii A,.ii 1,.ii 3] g (kB λB n=>al (!B) (rt t ((.ii 1)) n) ((rI n (ab_ P 0) λh=>(∃q r,((some (ad 0 0)):YQ)=some ⟨q,r,none⟩/\(0:Int)<=h/\h<(5:Int)/\(rI n (ad q (r+Int.toNat h)) λC=>(rI n (ab_ P (0+1)) λD=>(∃u,(∀v,(eq_ .shr 3 (.tmp 19) (.tmp 21) (.ii C) (.ii D)).run ZP v= .ok (.ii u) v)/\al (((Bg .i64 u 1):Int)==0) (rt t ((.ii 1)) n) ((rB n (ab_ P (0+2)) λE=>al E ((rI n (ab_ P 0) λF=>al (F !=1) (rt t ((.ii 1)) n) (f n))) (f n)))))))))) (pZ t))))/\∀(Q:Nat->Value) (j:World),f j->(rS j (ab_ P (0+3)) λG H I=>PC_ 101 #[.slice G H I,.func (.func 98) #[] #[]] j (kB λJ k=>al J (rt t ((.ii 1)) k) ((rS k (ab_ P (0+3)) λL M N=>PC_ 101 #[.slice L M N,.func (.func 99) #[] #[.pointer (some (ab_ b 0))]] k (kB λO w=>al O (rt t ((.ii 8)) w) (rt t ((.ii 0)) w)) (pE t)))) (pE t))))) (pE t))):YX 67 #[.agg #[.slice d a c],.agg #[.ii e,.ii m,.bool K,.slice s i l]] b t:=DC zN Tryz.func67 rfl x
section
variable {w w':World} {D D' S:ZN} {d:aN} {ta pa:YQ} {tn tc pn pc:Nat}
def yk{P a op arg:Int}(S:eP w)(j:bg w D d ta tn pa pn)(T:∀f,D f->f<w.heap.size):
  YX 201 #[.agg #[.slice ta tn tc,.slice pa pn pc],ZH P,ZH a,ZH op,ZH arg] w (Ok λe w'=>e= ZH (lk d P a op arg)/\ai w w'):=by
 refine Dx (PA.mk λw1 B s1 C=>⟨_,_,_,_,_,_,ae C rfl,ae C rfl,PC.ok (oR (j.ah B) λf s=>by have:=T f s;omega) ?_⟩);rintro e w2 ⟨U,p⟩;have q:=B.then U
 cases k:d.DS P a with
 |none=>
  rw[k]at p;refine bT (Jv Wh none 0 0) ⟨_,p,PA.mk λV t W u=>az (gq _ _ _ _) u rfl λX v Y E=>al.tt rfl (Ok.mk ⟨?_,(q.then t).new v λf s=>.inr (by have:=q.size;omega)⟩)⟩;unfold lk;rw[k]
 |some g=>
  rw[k]at p;obtain⟨r,h,F,a5,rfl,Z,hF⟩:=p;have x:lk d P a op arg=if !within op 1 5||qU op !=g.kind then 2 else if op==1&&arg==0||op==5&& !within arg 0 (g.bw.length-1)then 1 else 0:=by unfold lk;rw[k]
  have hz:=q.size;refine bT (Jv g r h F) ⟨_,rfl,PA.mk λV t W u=>az (gq g r h F) u rfl λX v Y E=>al.ff rfl λy H=>PC.ok bX ?_⟩;rintro _ _ ⟨rfl,rfl⟩;have I:=(aV.af (S:=λ_=>False) H).get E id;have J:ai w y:=((q.then t).new v λf s=>.inr oM).then H.af;have n:∀z:Int,lk d P a op arg=z->Ok (λe w'=>e= ZH (lk d P a op arg)/\ai w w') (.returned (ZH z)) y:=λz j=>Ok.mk ⟨by rw[j],J⟩;refine⟨_,rfl,al.not (al.mk (λc=>?_) (λc=>n 2 (by rw[x,c];rfl)))⟩;have a6:=bz.1 c;refine⟨1,0,rfl,oM,oM,qU op,?_,_,ae I rfl,al.dP (λa0=>n 2 ?_) (λhe=>?_)⟩
  ·have:=(S.ah J).kinds op.toNat oM
   rw[Xz,this,Int.toNat_of_nonneg oM]
  ·rw[x,c,Zx (by simpa using a0)]
  have l:lk d P a op arg=if op==1&&arg==0||op==5&& !within arg 0 (g.bw.length-1)then 1 else 0:=by rw[x,c,he];simp
  have hn:h=g.bw.length:=Z.len dC;have a7:h<=140737488355328:=by
   obtain⟨a1,Qr,K,-⟩:∃(r:YQ) (h:Nat),Row iQ 32 w D r h g.bw/\True:=by
    obtain⟨i,m,a8,a3,a9,A,h3,h4⟩:=aN.wh k;have b0:=j.aU.len;obtain⟨f,a2,T',es,rfl,_,_,o,L,b1,n1,c1,rfl,M⟩:=j.aU.at (i:=P) i oM;rw[a3]at o;cases o
    have b2:=M.len;obtain⟨b3,b4,x',b5,rfl,_,_,N,b6,b7,n2,c2,rfl,hM,_⟩:=M.at (i:=a) A oM;rw[h4]at N;cases N
    exact⟨_,_,hM,trivial⟩
   have m:=K.len;have A:=K.ef;unfold aK at A;omega
  have bw:∀{O:List PanicEntry->ZU},op=5->PC ZP 97 #[ZH arg,ZH 0,ZH (ZG .i64 ((h:Int)-1))] y (λa4 Q=>∃R:Bool,a4= .bool R/\al (!R) (Ok (λe w'=>e= ZH (lk d P a op arg)/\ai w w') (.returned (ZH 1)) Q) (Ok (λe w'=>e= ZH (lk d P a op arg)/\ai w w') (.returned (ZH 0)) Q)) O:=by
   intro O b;refine PC.ok bX ?_;rintro _ _ ⟨rfl,rfl⟩;rw[wrap_i64 (by unfold aJ;omega),hn];refine⟨_,rfl,al.not (al.mk (λc=>n 0 ?_) (λc=>n 1 ?_))⟩
   ·rw[l,c,b];rfl
   ·rw[l,c,b];rfl
  refine al.cX (λm=>al.cX (λi=>al.cX (λ_=>n 1 (by rw[l,m,i];rfl)) (λL=>Zz i L)) (λi=>al.cX (λb=>Zz b oM) (λb=>n 0 ?_))) (λm=>al.cX (λb=>⟨_,_,_,ae I rfl,bw b⟩) (λb=>n 0 ?_))
  ·rw[l,Zq (by simp[i,b])]
  ·rw[l,Zq (by simp[m,b])]
def Fh{f:YQ}(P:Row rZ 48 w D f a d0):
  YX 100 #[.agg #[.slice f a c],ZH e,ZH m] w (Ok λi w'=>i= .bool (RW d0 e m)/\ai w w'):=by
 have g:=P.len;have j:=P.ef;unfold aK at j;refine Iu (PA.mk λp b q h=>⟨_,_,_,ae h rfl,PC.ok bX ?_⟩);rintro _ _ ⟨rfl,rfl⟩;rw[wrap_i64 (by unfold aJ;omega)];refine⟨_,rfl,al.mk (λn=>?_) (λn=>Ok.mk ⟨?_,b⟩)⟩
 ·have r:=bz.1 n
  obtain⟨k,d,s,t,rfl,_,_,l,o,u,v,x,rfl,_⟩:=(P.ah b).at (i:=e) oM oM;refine⟨_,_,_,ae h rfl,k,d,rfl,oM,oM,_,o 0 dC,Ok.mk ⟨?_,b⟩⟩;unfold RW;rw[<-g,n,l];rfl
 ·unfold RW;rw[<-g,n];rfl
def Tf(P:1<=e/\e<=4)(a:1<=m/\m<=3):∃n:Int,(∀w',(do eqGuard .shr 3 (.tmp 19) (.tmp 21) (ZH (([0,2,14,6,6]:List Int).getD e.toNat 0)) (ZH m);binOp .shr 3 (ZH (([0,2,14,6,6]:List Int).getD e.toNat 0)) (ZH m):Sem Value).run ZP w'= .ok (ZH n) w')/\((Bg .i64 n 1==0)= !UP e m):=by
 refine⟨(([0,2,14,6,6]:List Int).getD e.toNat 0).fdiv (2 ^ m.toNat),?_,?_⟩<;>rcases(by omega:e=1\/e=2\/e=3\/e=4)with rfl|rfl|rfl|rfl<;>rcases(by omega:m=1\/m=2\/m=3)with rfl|rfl|rfl<;>first
  |(intro w';kernel_rfl)
  |decide
def LV(m:jX):Bool:=decide (m.bq<0)||decide (m.lZ<0)||m.lv== -1&&m.least !=0
def Tg{b:jX}:YX 98 (#[]++ #[.agg (nX b).toArray]++ #[]) w (Ok λe w'=>e= .bool (LV b)/\ai w w'):=by
 refine wW (PA.mk λf P g a=>⟨_,ae a rfl,al.dec (λn=>Ok.mk ⟨by simp[LV,n],P⟩) (λc=>⟨_,ae a rfl,al.dec (λn=>Ok.mk ⟨by simp[LV,n],P⟩) (λd=>⟨_,ae a rfl,al.cX (λn=>⟨_,ae a rfl,Ok.mk ⟨by simp[LV,c,d,n],P⟩⟩) (λn=>Ok.mk ⟨by simp[LV,c,d,n],P⟩)⟩)⟩)⟩)
def JL(P:List bh)(n:jX):Bool:=n.lv != -1&& !RW P n.lv 1
def Th{P:jX}{d:YQ}(f:Row rZ 48 w D d c d0)(h:w.heap[a]? =some (.cells #[.slice d c i] g (0,0))):
  YX 99 (#[]++ #[.agg (nX P).toArray]++ #[ZL a]) w (Ok λj w'=>j= .bool (JL d0 P)/\ai w w'):=by
 refine wX (PA.mk λl n m e=>⟨_,ae e rfl,al.dP (λb=>⟨_,_,_,ae (n.get h id) rfl,_,ae e rfl,PC.ok (Fh (f.ah n)) ?_⟩) (λb=>Ok.mk ⟨by simp[JL,b],n⟩)⟩);rintro _ o ⟨rfl,k⟩;exact⟨_,rfl,Ok.mk ⟨by unfold JL;rw[show(P.lv != -1)=true by simpa using b];simp,n.then k⟩⟩
def Hp{x y:YQ}(F:eP w)(H:Row rZ 48 w D x a d0)(z:Row iQ 32 w D y i c9.bw):
  YX 67 #[.agg #[.slice x a c],.agg (eL c9 y i l).toArray] w (Ok λo w'=>o= ZH (fv d0 c9)/\ai w w'):=by
 refine zO (PA.mk λU I V J=>PA.mk λp A W q=>⟨_,ae q rfl,PC.ok bX ?_⟩);rintro _ _ ⟨rfl,rfl⟩;have B:=I.then A;refine⟨_,rfl,al.not (al.mk (λe=>?_) (λe=>Ok.mk ⟨by unfold fv;rw[e];rfl,B⟩))⟩;have r:=bz.1 e;refine⟨λw'=>ai w w'/\p.heap.size<=w'.heap.size/\ai p w'/\within c9.dU 1 3=true/\UP c9.kind c9.dU=true/\(c9.floor&&c9.kind !=1)=false,λk C=>?_,?_⟩
 ·have b:=(aV.af (S:=λ_=>False) C).get q id
  have d:ai p k:=C.af;have n:ai w k:=B.then d;have f:fv d0 c9=1->Ok (λo w'=>o= ZH (fv d0 c9)/\ai w w') (.returned (ZH 1)) k:=λj=>Ok.mk ⟨by rw[j],n⟩;refine⟨_,ae b rfl,PC.ok bX ?_⟩;rintro _ _ ⟨rfl,rfl⟩;refine⟨_,rfl,al.not (al.mk (λP=>?_) (λP=>f (by unfold fv;rw[e,P];rfl)))⟩;have s:=bz.1 P;obtain⟨K,L,M⟩:=Tf r s;refine⟨_,ae b rfl,0,0,rfl,oM,oM,_,by rw[Xz];exact(F.ah n).Wi c9.kind.toNat oM,_,ae b rfl,K,L,?_⟩;rw[M];refine al.not (al.mk (λg=>⟨_,ae b rfl,al.mk (λt=>⟨_,ae b rfl,al.dP (λN=>f ?_) (λO=>⟨n,d.size,d,P,g,by simp[O]⟩)⟩) (λt=>⟨n,d.size,d,P,g,by simp[t]⟩)⟩) (λg=>f (by unfold fv;rw[e,P,g];rfl)));unfold fv;rw[e,P,g,t];simp[N]
 ·rintro X k ⟨n,Y,d,P,g,Q⟩
  have b:=d.get q id;have u:fv d0 c9=if c9.bw.any LV then 1 else if c9.bw.any (JL d0)then 8 else 0:=by
   unfold fv;rw[e,P,g,Q];rfl
  refine⟨_,_,_,ae b rfl,PC.ok (JK (p:=LV) (z.ah n) kR λR S h=>Tg) ?_⟩;rintro _ S ⟨rfl,h⟩;refine⟨_,rfl,al.mk (λj=>Ok.mk ⟨by rw[u,Zx j],n.then h⟩) (λj=>⟨_,_,_,ae (h.get b id) rfl,PC.ok (JK (p:=JL d0) (z.ah (n.then h)) kR λR T m=>Th (H.ah ((n.then h).then m)) (m.get (h.get (d.get (A.get J id) id) id) id)) ?_⟩)⟩;rintro _ T ⟨rfl,m⟩;have E:=(n.then h).then m;exact⟨_,rfl,al.mk (λv=>Ok.mk ⟨by rw[u,j,v];rfl,E⟩) (λv=>Ok.mk ⟨by rw[u,j,v];rfl,E⟩)⟩
def Va{n a kind:Int}(b:(d.DS n a).isSome):∃P,d.types[n.toNat]? =some P/\d.at n=P/\0<=n/\n<d.types.length:=by
 obtain⟨i,c⟩:=Option.isSome_iff_exists.1 b;obtain⟨e,f,P,g,h,_⟩:=aN.wh c;exact⟨P,g,h,e,f⟩
def Hq(r:bg w D d ta tn pa pn)(O:∀n,D n->n<w.heap.size):
  YX 68 #[.agg #[.slice ta tn tc,.slice pa pn pc],.agg (nW e1).toArray] w (Ok λC w'=>C= ZH (lX d e1)/\ai w w'):=by
 refine Bj (PA.mk λZ E s1 s=>PA.mk λw2 g s2 l=>⟨_,_,_,_,_,_,ae (g.get s id) rfl,ae (g.get s id) rfl,_,ae l rfl,_,ae l rfl,PC.ok (oR (r.ah (E.then g)) λn b=>by have:=O n b;omega) ?_⟩);rintro C w3 ⟨h,m⟩;have t:=(E.then g).then h;have hz:=h.size
 cases i:d.DS e1.aU e1.field with
 |none=>
  rw[i]at m;refine bT (Jv Wh none 0 0) ⟨_,m,PA.mk λQ c R u=>az (gq _ _ _ _) u rfl λo e S T=>al.tt rfl (Ok.mk ⟨?_,(t.then c).new e λn b=>.inr oM⟩)⟩;unfold lX;rw[i];rfl
 |some F=>
  rw[i]at m;obtain⟨H,I,J,a0,rfl,ho,hF⟩:=m;have K:(d.DS e1.aU e1.field).isNone=false:=by rw[i];rfl
  refine bT (Jv F H I J) ⟨_,rfl,PA.mk λQ c R u=>az (gq F H I J) u rfl λo e S T=>al.ff rfl ⟨λn w'=>n=(e1.group==3&& !RW (d.at e1.aU) e1.FC 2||e1.group !=3&&e1.FC !=0)/\ai o w',?_,?_⟩⟩
  ·have U:ai w o:=(t.then c).new e λn b=>.inr oM
   intro v V;have P:ai o v:=V.af;have W:=P.get (e.get (c.get (h.get (g.get s id) id) id) oM) id;have a:=P.get (e.get (c.get (h.get l id) id) oM) id;refine⟨_,ae a rfl,al.cX (λf=>⟨_,_,_,ae W rfl,_,ae a rfl,?_⟩) (λf=>⟨_,ae a rfl,al.dP (λ_=>⟨_,ae a rfl,?_,P⟩) (λj=>Zz j f)⟩)⟩
   ·obtain⟨a1,X,L,M,h1⟩:=Va (kind:=0) (by rw[i];rfl:(d.DS e1.aU e1.field).isSome)
    have hl:=r.aU.len;obtain⟨n,x,T',es,rfl,_,_,k,j,a2,n1,c1,rfl,Y⟩:=((r.ah (U.then P)).aU).at (i:=e1.aU) M oM;rw[X]at k;cases k
    have N:=j 0 dC;simp only[mV,Nat.mul_one,Nat.add_zero]at N;refine⟨n,x,rfl,M,oM,_,_,_,N,_,ae a rfl,PC.ok (Fh Y) ?_⟩;rintro _ w7 ⟨rfl,y⟩;refine⟨_,rfl,al.not (al.mk (λz=>⟨_,ae (y.get a id) rfl,al.dP (λj=>Zz f j) (λ_=>⟨?_,P.then y⟩)⟩) (λz=>⟨?_,P.then y⟩))⟩
    ·rw[L,z,f];rfl
    ·rw[L,z,f];rfl
   ·rw[show(e1.group==3)=false by simpa using f,show(e1.group !=3)=true by simpa using f];rfl
  ·rintro n a3 v ⟨rfl,P⟩
   have p:ai w v:=((t.then c).new e λn b=>.inr oM).then P;have a:=P.get (e.get (c.get (h.get l id) id) oM) id;refine al.mk (λb=>Ok.mk ⟨by unfold lX;rw[K,Zq sM,Zx b],p⟩) (λb=>⟨_,ae a rfl,PC.ok bX ?_⟩);have A:lX d e1=if !within e1.group 1 3|| !within e1.make 1 5 then 2 else 0:=by unfold lX;rw[K,Zq sM,b];rfl
   rintro _ _ ⟨rfl,rfl⟩;refine⟨_,rfl,al.not (al.mk (λq=>⟨_,ae a rfl,PC.ok bX ?_⟩) (λq=>Ok.mk ⟨by rw[A,q];rfl,p⟩))⟩;rintro _ _ ⟨rfl,rfl⟩;exact⟨_,rfl,al.not (al.mk (λB=>Ok.mk ⟨by rw[A,q,B];rfl,p⟩) (λB=>Ok.mk ⟨by rw[A,q,B];rfl,p⟩))⟩
end
def Tx(n:Int×Int×Int):ij ZP 350 [ZH n.1,ZH n.2.1,ZH n.2.2]=true:=kR
def J_{n b:Type}[BEq n][LawfulBEq n]{P:n}{e c:b}:∀a:List (n×b),aH (aH a P e) P c=aH a P c
 |[]=>by simp[aH]
 |(f,g)::a=>by
  by_cases d:P==f
  ·simp[d,aH]
  ·simp[d,aH,J_ a]
section
variable {w w':World} {p:Nat} {F T D:ZN} {V:aW} {q:Fz}
def Hx(w:World)(p:Nat)(F D:ZN)(V:aW)(n:aj)(b:Value)(w':World):Prop:=
 b= .tuple #[.bool (V.try n).1,.agg #[ZH (V.try n).2.1.1,ZH (V.try n).2.1.2]]/\∃a,cg w' p a (V.try n).2.2/\ak F w w'/\∀P,a P->F P\/D P\/w.heap.size<=P
def RS{n:aj}(b:cg w p F V)(P:ai w w')(a:V.try n=(K,d9,V)):Ok (Hx w p F D V n) (.returned (.tuple #[.bool K,.agg #[ZH d9.1,ZH d9.2]])) w':=by
 refine Ok.mk ⟨by rw[a],F,?_,ai.af P,λK c=>.inl c⟩;rw[a];exact b.ah P
def FA(h:yS b p F V q)(n:Int×Int×Int):∃P a c d,(aF q.l2 n).getD (.slice none 0 0)= .slice P a c/\(aF V.done n).getD []=d/\(aM jF 63 (q.P F (.done n)) b P a c d):=by
 rcases h.WC.aF n with⟨e,f⟩|⟨k,d,e,f,P,a,c,rfl,j⟩
 ·exact⟨none,0,0,[],by rw[e];rfl,by rw[f];rfl,(aM.nil b).mono (λi g=>g.elim) λi g=>h.aC i g.1⟩
 ·exact⟨P,a,c,d,by rw[e];rfl,by rw[f];rfl,j⟩
def RT(e:cg w p F V)(hT:eP w){n:aj}(hr:Row aI 8 w D d a n.aQ)(C:∀P,D P->P<w.heap.size/\¬F P)(he:n.Ok)(b:((aF V.done (n.aU,n.agg,n.field)).getD []).length<=20000000):
  YX 199 #[ZL p,jT n d a c] w (Ok (Hx w p F D V n)):=by
 have l0:=e;obtain⟨hV,q,e⟩:=e;have g:=e.aC;have C1:=g _ e.lp.1;refine xq (PA.mk λE t9 C2 u0=>PA.mk λo4 o5 C3 u1=>λl3 o6=>?_);have l4:ai o4 l3:=o6.af;have C4:l3.heap.size=o4.heap.size:=by rw[o6.heap]
 have k0:ai w l3:=(t9.then o5).then l4;have ge:=l4.get (o5.get u0 id) id;have gb:=l4.get u1 id;have O:=e.ah k0;refine⟨p,0,rfl,_,_,_,_,_,_,ae O.at' rfl,ae O.at' rfl,_,ae ge rfl,_,ae ge rfl,_,ae ge rfl,_,ae ge rfl,PC.ok (yk (hT.ah k0) O.RR λP b=>O.aC P b.1) ?_⟩;rintro _ Q ⟨rfl,R⟩;have k1:=k0.then R;have C5:=R.size;have c1:=R.get gb id;have c3:=R.get ge id;have k:∀{w1:World} {i:Int×Int} {P:Bool},ai Q w1->V.try n=(P,i,V)->∀w2,aV w1 w2->∀(x S:Int),x=i.1->S=i.2->PS w2 ⟨E.heap.size,0,none⟩ (ZH x) λw3=>PS w3 ⟨E.heap.size,0+1,none⟩ (ZH S) λw4=>∃(o7 o8:Int),w4.cell? ⟨E.heap.size,0,none⟩=some (ZH o7)/\w4.cell? ⟨E.heap.size,0+1,none⟩=some (ZH o8)/\Ok (Hx w p F D V n) (.returned (.tuple #[.bool P,.agg #[ZH o7,ZH o8]])) w4:=λ{w1 i P} hk H w2 f7 x S hx l=>by
  have k2:ai w1 w2:=f7.af;have kk:=(k1.then hk).then k2;have g2:=k2.get (hk.get c1 id) id;subst hx l;refine PS.mk g2 sM λw3 k3 s3 g3=>PS.mk g3 sM λw4 I s4 g4=>⟨_,_,ae g4 rfl,ae g4 rfl,RS l0 ((kk.new k3 λP b=>.inr oM).new I λP b=>.inr oM) H⟩
 refine⟨_,rfl,al.dP (λd6=>λu2 o9=>?_) (λg7=>?_)⟩
 ·have p0:=(o9.af (S:=λ_=>False)).get c1 id
  exact⟨_,_,ae p0 rfl,ae p0 rfl,k (i:=(0,0)) (ak.refl _) (by rw[aW.rU,Zx d6]) u2 o9 _ _ rfl rfl⟩
 obtain⟨c4,t0,t1,C6⟩:=Ng hV.decl g7 (hV.len n);obtain⟨v,p1⟩:∃v:Nat,n.aU=v:=⟨n.aU.toNat,oM⟩
 have l5:=c4.f0;have l6:=c4.f1;obtain⟨fi,p2⟩:∃fi:Nat,n.field=fi:=⟨n.field.toNat,oM⟩
 have u3:V.decl.at n.aU=V.decl.types.getD v []:=by
  unfold aN.at;rw[Zx (bz.2 ⟨t0,oM⟩),p1,Qx]
 obtain⟨tb,lZ,es,u4,u5,p3,u6,fa,fn,fc,rfl,y⟩:=(O.ah R).RR.aU.el v V.decl.types[v] sM;have y:Row rZ 48 Q (q.P F .RR) fa fn (V.decl.at n.aU):=by
  rw[u3];have:V.decl.types.getD v []=V.decl.types[v]:=by simp[QQ,show v<V.decl.types.length by omega]
  rw[this];exact y
 have C7:=(O.ah R).RR.aU.len;have g8:=u6 0 dC;have u7:mV.k=1:=rfl;rw[u7,Nat.mul_one]at g8;have u9:=g tb p3.1;refine⟨λT v0 ab ao w'=>v0=0/\ao=0/\ai Q w'/\w'.heap[T]? =some (.cells #[.slice fa fn fc] 118 (0,0))/\w'.heap[ab]? =some (.cells #[ZH n.aU,ZH n.agg,ZH n.field] 350 (0,0))/\Q.heap.size<=T/\Q.heap.size<=ab,?_,?_⟩
 ·intro J p4
  have d7:ai Q J:=p4.af;have C8:J.heap.size=Q.heap.size:=by rw[p4.heap]
  have p5:=(O.ah R).ah d7;have c5:=d7.get c3 id;refine⟨λP=>J.heap.size<=P,p,0,rfl,oM,_,_,_,ae p5.at' rfl,by show¬J.heap.size<=w.heap.size;omega,_,ae c5 rfl,tb,lZ,u4,t0,by omega,by show¬J.heap.size<=tb;omega,fa,fn,fc,?_,by show¬J.heap.size<=w.heap.size;omega,_,ae c5 rfl,by show¬J.heap.size<=w.heap.size;omega,_,ae c5 rfl,by show¬J.heap.size<=w.heap.size;omega,_,ae c5 rfl,?_,?_⟩
  ·rw[p1,Qx]
   exact(d7.cell (a:=⟨tb,lZ+v,none⟩) u5 id).trans g8
  ·refine PA.mk λv1 d8 v2 l7=>⟨ai.af d8,PA.mk λv3 U v4 l8=>⟨ai.af U,PS.mk (U.get l7 id) sM λv5 W v6 l9=>⟨W.mono λP _ n=>oM,az (Tx (n.aU,n.agg,n.field)) (W.get l8 oM) rfl λv7 X v8 m0=>⟨X.mono λP _ n=>oM,rfl,rfl,?_,X.get l9 oM,m0,oM,oM⟩⟩⟩⟩
   exact(((d7.then d8).then U).new W λP b=>.inr oM).new X λP b=>.inr oM
  ·refine PA.mk λv1 d8 v2 l7=>⟨ai.af d8,PA.mk λv3 U v4 l8=>⟨ai.af U,PS.mk l8 sM λv5 W v6 l9=>⟨W.mono λP _ n=>oM,az (Tx (n.aU,n.agg,n.field)) (W.get (U.get l7 id) oM) rfl λv7 X v8 m0=>⟨X.mono λP _ n=>oM,rfl,rfl,?_,X.get l9 oM,m0,oM,oM⟩⟩⟩⟩
   exact(((d7.then d8).then U).new W λP b=>.inr oM).new X λP b=>.inr oM
 rintro T _ ab _ _ p6 ⟨rfl,rfl,p7,p8,g9,y8,C9⟩;have k2:=k1.then p7;have d9:=e.ah k2;obtain⟨da,dn,dc,j,v9,m1,p9⟩:=FA d9 (n.aU,n.agg,n.field);rw[m1]at b;refine⟨p,0,rfl,_,ae d9.at' rfl,au (cs:=[ZH n.aU,ZH n.agg,ZH n.field]) (Tx (n.aU,n.agg,n.field)) g9 ⟨da,dn,dc,λb1=>?_,λq0 x0=>?_⟩⟩
 ·have:=dX X_ XL (d9.dn.ah (ak.drewN p6 b1)) (n.aU,n.agg,n.field) false
  rw[v9]at this;exact this
 have g0:ai p6 q0:=x0.af;have D0:=p9.len dC;have m2:=(p9.ah g0).row (bytes:=96) dC (by unfold aK;omega);refine⟨λb1 a5 w'=>∃h:Nat,a5=h/\h<=dn/\b1=dn-h/\(∀x∈j.take h,mC ((V.decl.at n.aU).getD n.field.toNat ⟨0,0,false,[]⟩) x n=false)/\ai q0 w',⟨_,0,rfl,Qj _,rfl,sM,ak.refl _⟩,?_⟩;rintro b1 _ _ m3 ⟨h,rfl,hj,rfl,g1,e0⟩;have k3:=(p7.then g0).then e0;have h0:=e0.get (g0.get p8 id) id;have q1:=e0.get (g0.get g9 id) id;have h6:=k3.get c3 id;have c7:∀{r:Bool×(Int×Int)×aW},(match j.find? λx=>mC ((V.decl.at n.aU).getD n.field.toNat ⟨0,0,false,[]⟩) x n with
  |some x=>(true,aZ x,V)
  |none=>if wF (V.decl.at n.aU) (V.cellsOf n) n.field n.op n.arg≠0 then(true,(0,0),V)else
   (false,(0,0),{V with eg:=aH V.eg (n.aU,n.agg) ⟨ph (((aF V.eg (n.aU,n.agg)).getD ⟨0,[]⟩).version+1),Sh (V.decl.at n.aU) (V.cellsOf n) n.field n.op n.arg⟩,done:=aH V.done (n.aU,n.agg,n.field) (j++[n])}))=r->V.try n=r:=λ{r} hr=>by
  rw[aW.rU,Zq (by simpa using g7),m1];exact hr
 refine al.dec (λD1=>?_) (λD2=>?_)
 ·have g5:h<j.length:=oM
  obtain⟨db,b5,es,x1,D3,D4,q2,xa,xn,xc,rfl,q3,q4⟩:=(m2.ah e0).el h j[h] (Qq g5);have g6:j[h]? =some j[h]:=Qq g5;generalize j[h]=x at q2 q3 q4 g6;refine⟨db,b5,x1,oM,oM,bA (es:=aE x xa xn xc) (k:=10) (aX x xa xn xc) rfl (λa5 H=>q2 a5 H) (PA.mk λD5 x2 D6 x3=>az (aX x xa xn xc) x3 rfl λq5 x4 D7 x5=>λx6 x7=>?_)⟩;have m4:ai m3 q5:=x2.new x4 λP b=>.inr oM;have q6:ai q5 x6:=x7.af;have I:=m4.then q6;have e1:=k3.then I;obtain⟨fb,fo,b6,b7,b8,x8,D8,D9,f9,h1,h2,h3,E0⟩:=FQ (y.ah e1) (i:=fi) (by rw[y.len];omega);have h7:=q6.get x5 id;refine⟨_,_,_,ae (I.get h0 id) rfl,_,ae (I.get h6 id) rfl,fb,fo,x8,l5,by rw[y.len];exact l6,?_⟩;rw[p2,Qx];refine bA (es:=eL ((V.decl.at n.aU).getD fi ⟨0,0,false,[]⟩) b6 b7 b8) (k:=4) (gq _ _ _ _) rfl (λa5 H=>?_) (au (aX x xa xn xc) h7 (au (aX n d a c) (I.get h6 id) (PC.ok (BF (q3.ah I) ((hr.ah k1).ah e1)) ?_)))
  ·match a5,H with
   |0,_=>exact f9
   |1,_=>exact h1
   |2,_=>exact h2
   |3,_=>exact h3
  rintro _ E1 ⟨rfl,m5⟩;have x9:(V.decl.at n.aU).getD fi ⟨0,0,false,[]⟩=(V.decl.at n.aU).getD n.field.toNat ⟨0,0,false,[]⟩:=by rw[p2,Qx]
  rw[x9];refine⟨_,rfl,al.mk (λhv=>λy0 q7=>?_) (λhv=>⟨_,?_,h+1,aq oM,oM,rfl,λS l=>?_,(e0.then I).then m5⟩)⟩
  ·have q8:=(q7.af (S:=λ_=>False)).get (m5.get h7 id) id
   refine⟨_,_,ae q8 rfl,ae q8 rfl,k (e1.then m5) (i:=aZ x) (c7 ?_) y0 q7 _ _ rfl rfl⟩;have hf:j.find? (λx=>mC ((V.decl.at n.aU).getD n.field.toNat ⟨0,0,false,[]⟩) x n)=some x:=by
    rw[List.find?_eq_some_iff_append];refine⟨hv,j.take h,j.drop (h+1),?_,λS l=>by rw[g1 S l];rfl⟩;rw[<-ZX h j]
    congr 1
    ·rw[ZX]
    ·rw[ZX,X4 g5]
     congr 1
     rw[Qq g5]at g6;exact XJ g6
   rw[hf]
  ·omega
  ·rw[Qw,g6]at l
   rcases Q6.1 l with l|l
   ·exact g1 S l
   ·simp at l;subst l;exact hv
 ·have E2:h=dn:=oM
  rw[Qz oM]at g1;have m6:j.find? (λx=>mC ((V.decl.at n.aU).getD n.field.toNat ⟨0,0,false,[]⟩) x n)=none:=List.find?_eq_none.2 λx hx=>by rw[g1 x hx];simp
  rw[m6]at c7;intro Y h8;have c8:ai m3 Y:=h8.af;have y9:Y.heap.size=m3.heap.size:=by rw[h8.heap]
  have k5:=k3.then c8;have e7:=k1.then k5;have z5:=k5.size;have z3:=k3.size;have b9:=e.ah e7;have b2:=c8.get q1 id;have c0:=c8.get h0 id;have m7:=k5.get c3 id;have E3:=c8.size;have z0:=ax b2;have z2:=ax c0;obtain⟨s,P,m,o,z,f,Z,h4,h5,d4⟩:∃(s:mJ) (P:Bool) (m:YQ) (o z:Nat),(aF q.l1 (n.aU,n.agg)).getD (.agg #[ZH 0,.slice none 0 0])= .agg #[ZH s.version,.slice m o z]/\(aF q.l1 (n.aU,n.agg)).isSome=P/\(aF V.eg (n.aU,n.agg)).getD Hz=s/\(P=true->V.cellsOf n=s.cells)/\Row eG 32 Y (q.P F .Ws) m o s.cells/\(P=false->V.cellsOf n=dF (V.decl.at n.aU)):=by
   unfold aW.cellsOf;rcases b9.Wt.aF (n.aU,n.agg)with⟨f,Z⟩|⟨e9,s,f,Z,m,o,z,rfl,hr⟩
   ·exact⟨Hz,false,none,0,0,by rw[f];rfl,by rw[f];rfl,by rw[Z];rfl,λe=>(by cases e),Row.nil _ _,λ_=>by rw[Z]⟩
   ·exact⟨s,true,m,o,z,by rw[f];rfl,by rw[f];rfl,by rw[Z];rfl,λ_=>by rw[Z],hr,λe=>(by cases e)⟩
  obtain⟨d4,k4⟩:=d4;refine⟨λP=>P=Y.heap.size,p,0,rfl,oM,_,ae b9.at' rfl,oM,_,_,ae b2 rfl,ae b2 rfl,s.version,m,o,z,P,λw' hk=>?_,PA.mk λz4 h9 z7 q9=>⟨ai.af h9,PS.mk q9 sM λz8 i0 z9 r0=>PS.mk r0 sM λr3 i1 A0 i2=>⟨i0.then i1,?_⟩⟩⟩
  ·have:=dX XM Vh (b9.st.af hk (by have:=g _ e.l1.1;omega)) (n.aU,n.agg) true
   rw[f,Z]at this;exact this
  have k6:ai Y r3:=(h9.new i0 λP b=>.inr oM).new i1 λP b=>.inr oM;refine⟨λw'=>ai Y w'/\∃m o z Dc,w'.heap[Y.heap.size]? =some (.cells #[ZH s.version,.slice m o z] 49 (0,0))/\Row eG 32 w' Dc m o (V.cellsOf n)/\∀P,Dc P->P<w'.heap.size,?_,?_⟩
  ·refine al.not (al.mk (λy1=>⟨k6,m,o,z,_,i2,by rw[h5 y1];exact d4.ah k6,λP b=>by have:=g P b.1;have:=k6.size;have:=e7.size;omega⟩) (λy2=>⟨_,_,_,ae (k6.get c0 id) rfl,PC.ok (HX (t:=V.decl.at n.aU) rfl (y.len) (by rw[y.len];omega)) ?_⟩))
   rintro _ A1 ⟨l1,n6,l2,G6,rfl,r4,k7,y3⟩;have z6:=k6.size;refine⟨_,_,_,rfl,PS.mk (k7.get i2 id) sM λA2 i3 A3 r5=>⟨(k6.then k7).new i3 λP b=>.inr oM,l1,n6,l2,G6,r5,?_,λP b=>by have:=r4.aC P b;omega⟩⟩;rw[k4 y2];exact(r4.af i3 λP b n=>by have:=y3 P b;omega).row dC (by unfold aK dF;simp;omega)
  rintro _ A4 ⟨a3,m,o,z,Dc,f0,d4,y4⟩;have A5:=a3.size;have f1:=k5.then a3;have f2:=a3.get c0 id;have m8:=a3.get b2 id;have c2:=a3.get m7 id;refine⟨_,_,_,ae f2 rfl,_,_,_,ae f0 rfl,_,ae c2 rfl,_,ae c2 rfl,_,ae c2 rfl,PC.ok (HW c4 (y.ah f1) d4) ?_⟩;rintro _ r6 ⟨rfl,a0⟩;have k8:=f1.then a0;refine⟨_,rfl,al.dP (λd6=>λr7 i4=>?_) (λy5=>λc9 r8=>?_)⟩
  ·have i5:=(i4.af (S:=λ_=>False)).get (k8.get c1 id) id
   refine⟨_,_,ae i5 rfl,ae i5 rfl,k (i:=(0,0)) k8 (c7 ?_) r7 i4 _ _ rfl rfl⟩;simp only;rw[Zx d6]
  have f3:wF (V.decl.at n.aU) (V.cellsOf n) n.field n.op n.arg=0:=y5;have a1:ai r6 c9:=r8.af;have k9:=k8.then a1;have m9:=(a3.then a0).then a1;have c6:=k1.then k9;have n0:=e.ah c6;have b3:=k9.get c3 id;have d2:=(a0.then a1).get m8 id;have n1:=(a0.then a1).get f2 id;have f4:=(a0.then a1).get f0 id;have E4:=g _ e.l1.1;have E5:=g _ e.l2.1;have A6:=m9.size;have y6:=c6.size;have e8:¬p=q.r1:=λn=>by have f:=e.lp.2;rw[n,e.l1.2]at f;cases f
  have i6:¬p=q.r2:=λn=>by have f:=e.lp.2;rw[n,e.l2.2]at f;cases f
  have i7:¬q.r1=q.r2:=λn=>by have f:=e.l1.2;rw[n,e.l2.2]at f;cases f
  refine⟨λP=>P=q.r1,p,0,rfl,e8,_,ae n0.at' rfl,oM,_,_,ae d2 rfl,ae d2 rfl,oM,_,ae f4 rfl,_,_,_,ae n1 rfl,_,_,_,ae f4 rfl,_,ae b3 rfl,_,ae b3 rfl,_,ae b3 rfl,PC.ok (Sj c4 f3 he.arg oM (y.ah k9) (λP b=>by have:=g P b.1;omega) (d4.ah (a0.then a1)) λP b=>by have:=y4 P b;have:=(a0.then a1).size;omega) ?_⟩;rintro _ a6 ⟨r9,s1,s2,G,rfl,i8,a4,hG⟩;have e2:=c6.then a4;have t:=e.ah e2;have A7:=a4.size;refine⟨_,_,_,rfl,ai.af a4,de (enc:=oY) (k:=(n.aU,n.agg)) XM Vh t.st λi9 s5 j0 A8=>⟨j0,λd0 j1=>?_⟩⟩;have j2:ai i9 d0:=j1.af;have A9:d0.heap.size=i9.heap.size:=by rw[j1.heap]
  have A:ak (·=q.r1) a6 d0:=j0.ah j2;have key:∀P,F P/\q.cls P= .done (n.aU,n.agg,n.field)->P≠p/\P≠q.r1/\P≠q.r2:=λP b=>
   ⟨λn=>(by have f:=e.lp.2;rw[<-n,b.2]at f;cases f),λn=>(by have f:=e.l1.2;rw[<-n,b.2]at f;cases f),λn=>(by have f:=e.l2.2;rw[<-n,b.2]at f;cases f)⟩
  have n3:=A.get t.at' e8;have n4:=A.get (a4.get d2 id) oM;have u:=A.get (a4.get b3 id) oM;have n8:=t.dn.af A (λn=>i7 n.symm);have n9:=A.get (a4.get (k9.get c1 id) id) oM;obtain⟨a2,a7,e3,n5,s6,j3,j4⟩:=FA t (n.aU,n.agg,n.field);rw[m1]at j3;subst j3;have o0:=j4.af A λP b n=>(key P b).2.1 n;have B0:=A.size;refine⟨λP=>P=q.r2\/(F P/\q.cls P= .done (n.aU,n.agg,n.field)),p,0,rfl,λB=>B.elim i6 λB=>(key p B).1 rfl,_,ae n3 rfl,λB=>B.elim (λn=>oM) λB=>by have:=g _ B.1;omega,
   au (cs:=[ZH n.aU,ZH n.agg,ZH n.field]) (Tx (n.aU,n.agg,n.field)) n4 ⟨_,_,_,_,_,_,_,_,_,_,_,_,ae u rfl,ae u rfl,ae u rfl,ae u rfl,ae u rfl,ae u rfl,ae u rfl,ae u rfl,ae u rfl,ae u rfl,
   PA.mk λB1 a8 B2 s7=>⟨ai.af a8,Hc (enc:=CU) (k:=(n.aU,n.agg,n.field)) X_ XL (n8.ah a8) λB3 x s8 o1 a9 B4=>⟨a2,a7,e3,x,by rw[s6],a9.mono λP _ n=>.inl n,?_⟩⟩⟩⟩
  have o2:=(o0.ah a8).af a9 λP b n=>(key P b).2.2 n;have s9:=a9.get s7 oM;have b4:∀P,aD a2=some P->F P/\q.cls P= .done (n.aU,n.agg,n.field):=λP b=>j4.self P b;have y7:=(((hr.ah e2).af A λP b n=>(C P b).2 (n▸e.l1.1)).ah a8).af a9 λP b n=>(C P b).2 (n▸e.l2.1);refine eH (c:=jF) o2 Ke s9 (D:=D) (x:=n) ⟨d,a,c,rfl,y7,he⟩ (λP b=>⟨by have:=(C P b).1;omega,λee=>(C P b).2 (b4 P ee).1⟩) (by unfold aK;omega) (by unfold maxLen;omega) λa' K t2 F2 f6 b0 o3=>⟨_,_,_,rfl,b0.mono λP _ b=>.inr (b4 P b),?_⟩
  have t3:¬aD a2=some q.r2:=λee=>(key _ (b4 _ ee)).2.2 rfl;refine Co XL (s8.af b0 t3) (o1.af b0 t3) λj5 t4 f5 B5=>⟨f5.mono λP _ n=>.inl n,λd1 j6=>?_⟩
  have f8:ai j5 d1:=j6.af;have B6:d1.heap.size=j5.heap.size:=by rw[j6.heap]
  have B7:=b0.size;have kb:ak (λP=>P=q.r2\/(F P/\q.cls P= .done (n.aU,n.agg,n.field))) d0 d1:=((((ai.af a8).then (a9.mono λP _ n=>.inl n)).then (b0.mono λP _ b=>.inr (b4 P b))).then (f5.mono λP _ n=>.inl n)).then (ai.af f8);have e4:=kb.get n9 (λB=>B.elim (λn=>oM) λB=>by have:=g _ B.1;omega);refine⟨_,_,ae e4 rfl,ae e4 rfl,PS.mk e4 sM λB8 j7 B9 t5=>PS.mk t5 sM λd3 j8 C0 j9=>⟨_,_,ae j9 rfl,ae j9 rfl,?_⟩⟩;have L:ak (λP=>P=q.r1\/P=q.r2\/(F P/\q.cls P= .done (n.aU,n.agg,n.field))\/P=E.heap.size) a6 d3:=
   ((A.mono λP _ n=>.inl n).then (kb.mono λP _ b=>b.elim (λn=>.inr (.inl n)) λb=>.inr (.inr (.inl b)))).then ((j7.mono λP _ n=>.inr (.inr (.inr n))).then (j8.mono λP _ n=>.inr (.inr (.inr n))))
  have kc:ak (·=E.heap.size) d1 d3:=j7.then j8;have zT:=L.size;have H:=c7 (r:=(false,(0,0),{V with eg:=aH V.eg (n.aU,n.agg) ⟨ph (((aF V.eg (n.aU,n.agg)).getD ⟨0,[]⟩).version+1),Sh (V.decl.at n.aU) (V.cellsOf n) n.field n.op n.arg⟩,done:=aH V.done (n.aU,n.agg,n.field) (j++[n])})) (by simp only;rw[Zq (by simpa using f3)]);have t6:=(aW.RU hV n).1;refine Ok.mk ⟨by rw[H],λP=>P<d3.heap.size/\(F P\/D P\/w.heap.size<=P),?_,?_,λP b=>b.2⟩
  rotate_left
  ·exact(ai.af e2).trans L (λ_ _ e=>e) λP b hT=>by
    rcases hT with rfl|rfl|hT|rfl
    ·exact e.l1.1
    ·exact e.l2.1
    ·exact hT.1
    ·omega
  rw[H]at t6⊢;have t7:∀P,G P->c9.heap.size<=P/\P<a6.heap.size:=λP b=>⟨hG P b,i8.aC P b⟩
  have M:∀P,F P->P<d3.heap.size:=λP b=>by have:=g P b;omega
  classical
  have N:∀P,F P->(if F P then q.cls P else if c9.heap.size<=P/\P<a6.heap.size then JZ.Ws else JZ.done (n.aU,n.agg,n.field))=q.cls P:=λP b=>Zx b;refine⟨t6,⟨q.ta,q.tn,q.tc,q.pa,q.pn,q.pc,q.ea,q.en,q.ec,q.r1,q.r2,aH q.l1 (n.aU,n.agg) (.agg #[ZH (ph (s.version+1)),.slice r9 s1 s2]),aH q.l2 (n.aU,n.agg,n.field) (.slice a' (a7+1) K),λP=>if F P then q.cls P else if c9.heap.size<=P/\P<a6.heap.size then JZ.Ws else JZ.done (n.aU,n.agg,n.field)⟩,?_,?_,?_,?_,?_,?_,?_,λP b=>b.1,⟨⟨M _ e.lp.1,.inl e.lp.1⟩,(N _ e.lp.1).trans e.lp.2⟩,⟨⟨M _ e.l1.1,.inl e.l1.1⟩,(N _ e.l1.1).trans e.l1.2⟩,⟨⟨M _ e.l2.1,.inl e.l2.1⟩,(N _ e.l2.1).trans e.l2.2⟩⟩
  ·exact L.get t.at' λB=>by
    rcases B with B|B|B|B
    ·exact e8 B
    ·exact i6 B
    ·exact(key _ B).1 rfl
    ·omega
  ·refine(t.RR.af L λP b B=>?_).mono λP b=>⟨⟨M P b.1,.inl b.1⟩,(N P b.1).trans b.2⟩
   have d5:=g P b.1;rcases B with rfl|rfl|B|B
   ·have:=e.l1.2;rw[b.2]at this;cases this
   ·have:=e.l2.2;rw[b.2]at this;cases this
   ·have:=B.2;rw[b.2]at this;cases this
   ·omega
  ·refine(t.OY.af L λP b B=>?_).mono (λP b=>⟨⟨M P b.1,.inl b.1⟩,(N P b.1).trans b.2⟩) λP b=>b.1.1
   have d5:=g P b.1;rcases B with rfl|rfl|B|B
   ·have:=e.l1.2;rw[b.2]at this;cases this
   ·have:=e.l2.2;rw[b.2]at this;cases this
   ·have:=B.2;rw[b.2]at this;cases this
   ·omega
  ·exact((s5.ah j2).af kb λB=>B.elim i7 λB=>(key _ B).2.1 rfl).af kc oM
  ·refine fu.aH ?_ ?_
   ·refine⟨r9,s1,s2,by rw[h4],?_⟩
    refine((i8.row (bytes:=32) dC ?_).af L λP b B=>?_).mono λP b=>?_
    ·rw[Nh,hV.len];unfold aK;omega
    ·have d5:=t7 P b
     rcases B with rfl|rfl|B|B
     ·omega
     ·omega
     ·have:=g P B.1;omega
     ·omega
    ·have d5:=t7 P b
     refine⟨⟨oM,.inr (.inr oM)⟩,?_⟩;show(if F P then _ else _)=_;rw[Zq (λhf=>by have:=g P hf;omega),Zx d5]
   ·refine t.Wt.mono λe9 n7 hu=>?_
    obtain⟨e5,n2,e6,rfl,hu⟩:=hu;refine⟨e5,n2,e6,rfl,(hu.af L λP b B=>?_).mono λP b=>⟨⟨M P b.1,.inl b.1⟩,(N P b.1).trans b.2⟩⟩;have d5:=g P b.1;rcases B with rfl|rfl|B|B
    ·have:=e.l1.2;rw[b.2]at this;cases this
    ·have:=e.l2.2;rw[b.2]at this;cases this
    ·have:=B.2;rw[b.2]at this;cases this
    ·omega
  ·have:=(t4.ah f8).af kc (by show¬q.r2=E.heap.size;omega)
   rw[J_]at this;exact this
  ·refine oN.aH ?_ t.WC ?_ t.dn.tidy
   ·refine⟨a',_,K,rfl,?_⟩
    have t8:∀P,F2 P->P<t2.heap.size/\P≠E.heap.size:=λP b=>by
     refine⟨f6.aC P b,λn=>?_⟩;rcases o3 P b with f|f|f
     ·have:=g P f.1;omega
     ·have:=(C P f).1;omega
     ·omega
    refine((f6.af f5 λP b n=>?_).ah f8|>.af kc λP b n=>(t8 P b).2 n).mono (λP b=>?_) λP b=>b.1.1
    ·rcases o3 P b with f|f|f
     ·exact(key P f).2.2 n
     ·exact(C P f).2 (n▸e.l2.1)
     ·omega
    ·have:=(t8 P b).1
     have hz:=kc.size;rcases o3 P b with f|f|f
     ·exact⟨⟨M P f.1,.inl f.1⟩,(N P f.1).trans f.2⟩
     ·refine⟨⟨oM,.inr (.inl f)⟩,?_⟩
      show(if F P then _ else _)=_;rw[Zq (C P f).2,Zq (by have:=(C P f).1;omega)]
     ·refine⟨⟨oM,.inr (.inr oM)⟩,?_⟩
      show(if F P then _ else _)=_;rw[Zq (λhf=>by have:=g P hf;omega),Zq oM]
   ·intro r1 e9 n7 d6 hu
    obtain⟨e5,n2,e6,rfl,hu⟩:=hu;refine⟨e5,n2,e6,rfl,(hu.af L λP b B=>?_).mono (λP b=>⟨⟨M P b.1,.inl b.1⟩,(N P b.1).trans b.2⟩) λP b=>b.1.1⟩;have d5:=g P b.1;rcases B with rfl|rfl|B|B
    ·have:=e.l1.2;rw[b.2]at this;cases this
    ·have:=e.l2.2;rw[b.2]at this;cases this
    ·have:=B.2;rw[b.2]at this
     simp only[JZ.done.injEq]at this;exact d6 this
    ·omega
end
section
variable {w w':World} {p:Nat} {F T D:ZN} {V:aW} {q:Fz}
abbrev FD(n:cC)(P:YQ)(a b:Nat):Value:=.agg (ig n P a b).toArray
def HC(L:cg w p F V)(hT:eP w){e:aj}(hr:Row aI 8 w D d a e.aQ)(o:∀n,D n->n<w.heap.size/\¬F n)(he:e.Ok)(P:((aF V.done (e.aU,e.agg,e.field)).getD []).length<=20000000)(M:V.entries.length<=20000000):
  YX 124 #[ZL p,jT e d a c] w (Ok λW w'=>∃d a c G,W=FD (V.add e).1 d a c/\Row aI 8 w' G d a e.aQ/\∃X,cg w' p X (V.add e).2/\bB F w X w'/\∀n,G n->w.heap.size<=n/\n<w'.heap.size/\¬X n):=by
 have Y:=L.aC;have h3:=Y _ L.self;refine zl (PA.mk λt e6 h4 d1=>PA.mk λh5 Z h6 e7=>?_);have k0:=e6.then Z;refine au (aX e d a c) (Z.get d1 id) (PC.ok (oE (hr.ah k0) λn P=>by have:=(o n P).1;omega) ?_);rintro _ h7 ⟨a6,n1,c1,G1,rfl,e8,u,N⟩;have a0:=k0.then N;refine bT (rY e a6 n1 c1) ⟨rfl,PC.ok (RT (L.ah a0) (hT.ah a0) e8 (λn P=>⟨(u n P).2,λj=>by have:=Y n j;have:=u n P;omega⟩) he P) ?_⟩;rintro _ v ⟨rfl,f,b8,O,Q⟩;have h8:=N.size;have h9:=O.size;have b0:∀n,f n->F n\/w.heap.size<=n:=λn P=>by
  rcases Q n P with b|b|b
  ·exact .inl b
  ·have:=u n b;exact .inr oM
  ·exact .inr oM
 have b1:ak F w v:=(ai.af a0).then O;have R:∀{n:Nat},w.heap.size<=n->¬F n:=λ{n} P j=>by have:=Y n j;omega
 have d2:=O.get (N.get (Z.get d1 id) id) (R (Q4 _));have d3:=O.get (N.get e7 id) (R oM);refine⟨_,_,_,rfl,PA.mk λi0 e9 i1 f2=>PS.mk f2 sM λi2 f3 i3 f4=>PS.mk f4 sM λi4 f5 i5 f8=>λx b9=>?_⟩;have A:ai v x:=((e9.new f3 λn P=>.inr oM).new f5 λn P=>.inr oM).then b9.af;have i6:x.heap.size=v.heap.size+1:=by rw[b9.heap];omega
 have a1:x.heap[v.heap.size]? =some (.cells #[ZH (V.try e).2.1.1,ZH (V.try e).2.1.2] 46 (0,0)):=(b9.af (S:=λ_=>False)).get f8 id;have b2:=A.get d2 id;obtain⟨g9,q,g⟩:=b8.ah A;have c4:=b8.self;have y:=b8.aC;have b3:=((hr.af b1 λn P=>(o n P).2).ah A)
 have a4:(V.try e).2.2.entries=V.entries:=by
  rw[aW.rU];split;rfl;split;rfl;split<;>rfl
 have i7:=g.OY.len dC;have B:∀n,aD q.ea=some n->f n/\q.cls n= .OY:=λn P=>g.OY.self n P;have C:¬aD q.ea=some p:=λk=>by have b:=(B p k).2;rw[g.lp.2]at b;cases b
 refine⟨λn=>aD q.ea=some n,p,0,rfl,C,_,_,_,ae g.at' rfl,au (aX e d a c) b2 ⟨λk=>by have:=y _ (B _ k).1;omega,_,_,ae a1 rfl,ae a1 rfl,PC.ok (oE b3 λn P=>by have:=(o n P).1;omega) ?_⟩⟩;rintro _ i8 ⟨a7,n2,c2,G2,rfl,g0,z,c5⟩;have i9:=c5.size;refine⟨_,_,_,_,_,_,_,_,_,_,_,_,rfl,ai.af c5,PA.mk λd4 c6 j0 g1=>⟨ai.af c6,?_⟩⟩;have a2:=c5.then c6;refine eH (c:=wA) (x:=⟨e,(V.try e).1,(V.try e).2.1⟩) (g.OY.ah a2) RN g1 (D:=G2) ⟨a7,n2,c2,rfl,g0.ah c6,he⟩ (λn P=>⟨by have:=z n P;omega,λk=>by have:=y _ (B _ k).1;have:=z n P;omega⟩) (by rw[a4];unfold aK;omega) (by rw[a4];unfold maxLen;omega) λa' E d5 F2 b4 c7 c8=>⟨_,_,_,rfl,p,0,rfl,?_⟩
 have j1:=c7.size;have d6:=c7.get ((g.ah a2).at') C;refine PS.mk d6 sM λH g2 j2 g3=>λr d7=>?_;have d8:ai H r:=d7.af;have j3:r.heap.size=H.heap.size:=by rw[d7.heap]
 have a5:ak (·=p) d5 r:=g2.ah d8;have k5:ak (λn=>aD q.ea=some n\/n=p) x r:=((ai.af a2).then (c7.mono λn _ P=>.inl P)).then (a5.mono λn _ P=>.inr P);have I:ak f x r:=k5.mono λn _ P=>P.elim (λb=>(B n b).1) λb=>b▸c4;have c9:∀{n:Nat},v.heap.size<=n->¬f n:=λ{n} P j=>by have:=y n j;omega
 have g4:¬f w.heap.size:=λj=>by
  rcases Q _ j with b|b|b
  ·exact R (Q4 _) b
  ·have:=u _ b;omega
  ·omega
 have d0:¬f t.heap.size:=λj=>by
  rcases Q _ j with b|b|b
  ·exact R oM b
  ·have:=u _ b;omega
  ·omega
 have d9:=I.get b2 g4;have e0:=I.get (A.get d3 id) d0;have b5:=I.get a1 (c9 (Q4 _));have e1:∀n,D n->¬f n:=λn P j=>by
  rcases Q _ j with b|b|b
  ·exact(o n P).2 b
  ·have:=u _ b;have:=(o n P).1;omega
  ·have:=(o n P).1;omega
 have e2:=b3.af I e1;have j4:=k5.size;refine⟨λn=>n=t.heap.size,au (aX e d a c) d9 ⟨oM,_,_,ae b5 rfl,ae b5 rfl,PC.ok (oE e2 λn P=>by have:=(o n P).1;omega) ?_⟩⟩;rintro _ j5 ⟨a3,n3,c3,G3,rfl,g5,e3,J⟩;have j6:=J.size;refine⟨_,_,_,_,_,_,_,_,_,_,_,_,rfl,ai.af J,az (lI ⟨e,(V.try e).1,(V.try e).2.1⟩ a3 n3 c3) (J.get e0 id) rfl λe4 S j7 g6=>⟨S,au (lI ⟨e,(V.try e).1,(V.try e).2.1⟩ a3 n3 c3) g6 (Ok.mk ⟨a3,n3,c3,G3,rfl,g5.af S λn P k=>by have:=e3 n P;omega,λn=>n<H.heap.size/\(f n\/G2 n\/d4.heap.size<=n),?_,⟨?_,?_⟩,?_⟩)⟩⟩
 ·have g7:=(aW.Av (by
   have:V.OK:=L.1;exact this) e).1
  have T:ak (λn=>n=t.heap.size) r e4:=(ai.af J).then S;have zc:=T.size;have g8:∀n,f n->n<H.heap.size:=λn P=>by have:=y n P;omega
  classical
  have e5:∀n,f n->(if f n then q.cls n else JZ.OY)=q.cls n:=λn P=>Zx P;have K:ak (λn=>(aD q.ea=some n\/n=p)\/n=t.heap.size) x e4:=(k5.mono λn _ P=>.inl P).then (T.mono λn _ P=>.inr P);have h:∀(m:JZ) n,m≠.OY->m≠.self->f n/\q.cls n=m->¬((aD q.ea=some n\/n=p)\/n=t.heap.size):=λm n b U P l=>by
   rcases l with(l|l)|l
   ·exact b (P.2.symm.trans (B n l).2)
   ·subst l;exact U (P.2.symm.trans g.lp.2)
   ·subst l;exact d0 P.1
  have i:∀(m:JZ) n,f n/\q.cls n=m->((n<H.heap.size/\(f n\/G2 n\/d4.heap.size<=n))/\(if f n then q.cls n else JZ.OY)=m):=λm n P=>⟨⟨g8 n P.1,.inl P.1⟩,(e5 n P.1).trans P.2⟩
  refine⟨g7,⟨q.ta,q.tn,q.tc,q.pa,q.pn,q.pc,a',q.en+1,E,q.r1,q.r2,q.l1,q.l2,λn=>if f n then q.cls n else JZ.OY⟩,?_,?_,?_,?_,?_,?_,?_,λn P=>by have:=P.1;omega,i _ _ g.lp,i _ _ g.l1,i _ _ g.l2⟩
  ·exact T.get (d8.get g3 id) oM
  ·exact(g.RR.af K λn P=>h _ n sM sM P).mono (i _)
  ·have M:∀n,F2 n->n<d5.heap.size/\n≠t.heap.size/\n≠p:=λn P=>by
    refine⟨b4.aC n P,λk=>?_,λk=>?_⟩
    ·rcases c8 n P with b|b|b
     ·exact d0 (k▸b.1)
     ·have:=z n b;omega
     ·omega
    ·rcases c8 n P with b|b|b
     ·have U:=b.2;rw[k,g.lp.2]at U;cases U
     ·have:=z n b;have:=y p c4;omega
     ·have:=y p c4;omega
   have:(V.add e).2.entries=(V.try e).2.2.entries++[⟨e,(V.try e).1,(V.try e).2.1⟩]:=rfl;rw[this];refine((b4.af a5 λn P=>(M n P).2.2).af T λn P=>(M n P).2.1).mono (λn P=>?_) λn P=>by have:=P.1.1;omega
   have h0:=(M n P).1;rcases c8 n P with b|b|b
   ·exact i _ n b
   ·have:=z n b
    refine⟨⟨oM,.inr (.inl b)⟩,?_⟩;show(if f n then _ else _)=_;rw[Zq (c9 oM)]
   ·refine⟨⟨oM,.inr (.inr b)⟩,?_⟩
    show(if f n then _ else _)=_;rw[Zq (c9 oM)]
  ·exact g.st.af K (h _ _ sM sM g.l1)
  ·refine g.Wt.mono λW a8 s=>?_
   obtain⟨x1,x2,x3,rfl,s⟩:=s;exact⟨x1,x2,x3,rfl,(s.af K λn P=>h _ n sM sM P).mono (i _)⟩
  ·exact g.dn.af K (h _ _ sM sM g.l2)
  ·refine g.WC.mono λa9 W a8 s=>?_
   obtain⟨x1,x2,x3,rfl,s⟩:=s;exact⟨x1,x2,x3,rfl,(s.af K λn P=>h _ n sM sM P).mono (i _) λn P=>by have:=P.1.1;omega⟩
 ·have k1:ak f v r:=(ai.af A).then I
  exact((b1.new k1 b0).ah J).new S λn P=>.inr oM
 ·intro n P
  rcases P.2 with b|b|b
  ·exact b0 n b
  ·have:=z n b;exact .inr oM
  ·exact .inr oM
 ·intro n P
  have:=e3 n P;refine⟨oM,oM,λl=>by have:=l.1;omega⟩
def FF(c:aN):∀(a:List aj) (n:aW) (P:Int×Int×Int),(((aF (a.foldl (λn e=>(n.add e).2) n).done P).getD []).length<=((aF n.done P).getD []).length+a.length)/\(a.foldl (λn e=>(n.add e).2) n).entries.length=n.entries.length+a.length
 |[],n,P=>by simp
 |e::a,n,P=>by
  rw[List.foldl_cons];obtain⟨d,f⟩:=FF c a (n.add e).2 P;have i:((aF (n.add e).2.done P).getD []).length<=((aF n.done P).getD []).length+1:=by
   show((aF (n.try e).2.2.done P).getD []).length<=_;rw[aW.rU];split
   ·simp
   split
   ·simp
   split
   ·simp
   ·simp only
    rw[rK];split
    ·rename_i g
     have b:P=(e.aU,e.agg,e.field):=by simpa using g
     rw[b];simp
    ·simp
  have h:(n.add e).2.entries.length=n.entries.length+1:=by
   show((n.try e).2.2.entries++[_]).length=_;have:(n.try e).2.2.entries=n.entries:=by rw[aW.rU];split;rfl;split;rfl;split<;>rfl
   rw[this];simp
  refine⟨?_,by rw[f,h];simp;omega⟩;simp only[Xq]at d⊢;omega
def HB{tn K q M i N:Nat}(O:cU R=0)(Q:eP w)(S:bg w D R d tn s q)(T:∀n,D n->n<w.heap.size)(r:Row jF 96 w f d4 i L)(t:∀n,f n->n<w.heap.size)(a:L.length<=20000000):
  YX 79 #[.agg #[.slice d tn K,.slice s q M],.slice d4 i N] w (Ok λU w'=>∃p F,U= ZL p/\cg w' p F (cz R L)/\(∀n,F n->w.heap.size<=n)/\ai w w'):=by
 refine KM (PA.mk λw1 u s1 v=>⟨_,_,_,_,_,_,ae v rfl,ae v rfl,PC.ok (HJ O (S.ah u) λn a=>by have:=T n a;omega) ?_⟩);rintro _ w9 ⟨p,V,rfl,c,W,x⟩;have a9:=r.len;have X:=u.then x;have z9:=x.size;refine⟨_,rfl,λy o w'=>∃P:Nat,o=P/\P<=i/\y=i-P/\∃F,cg w' p F (cz R (L.take P))/\(∀n,F n->w.heap.size<=n)/\ai w w',⟨_,0,rfl,Qj _,rfl,V,c,λn a=>by have:=W n a;omega,X⟩,?_⟩;rintro y _ _ Y ⟨P,rfl,hj,rfl,F,c,j,e⟩;refine al.dec (λb0=>?_) (λb1=>?_)
 ·have z:P<L.length:=oM
  obtain⟨n,Z,es,ha,a0,b2,A,k,l,m,rfl,B,C⟩:=(r.ah e).el P L[P] (Qq z);have E:L[P]? =some L[P]:=Qq z;generalize L[P]=b at A B C E;refine⟨n,Z,ha,oM,oM,bA (es:=aE b k l m) (k:=10) (aX b k l m) rfl (λo ht=>A o ht) (PA.mk λb3 a3 b4 a5=>az (aX b k l m) a5 rfl λa6 a7 b5 a8=>au (aX b k l m) a8 ?_)⟩;have g:ai Y a6:=a3.new a7 λn a=>.inr oM;have H:=FF R (L.take P) (aW.new R) (b.aU,b.agg,b.field);have b6:=List.length_take_le P L;have b7:((aF (cz R (L.take P)).done (b.aU,b.agg,b.field)).getD []).length<=0+(L.take P).length:=H.1;have b8:(cz R (L.take P)).entries.length=0+(L.take P).length:=H.2;have b9:=e.size;have c1:=g.size;refine PC.ok (HC (c.ah g) (Q.ah (e.then g)) (B.ah g) (λn a=>⟨by have:=t n a;omega,λhf=>by have:=j n hf;have:=t n a;omega⟩) C oM oM) ?_;rintro _ c2 ⟨a4,n4,c4,G,rfl,-,F',h,I,-⟩;refine bT (Pk _ a4 n4 c4) ⟨rfl,_,?_,P+1,aq oM,oM,rfl,F',?_,λn a=>?_,(e.then g).new I.1 λn a=>.inr (j n a)⟩
  ·omega
  ·rw[Qw,E]
   unfold cz at h⊢;rw[List.foldl_append];exact h
  ·rcases I.2 n a with J|J
   ·exact j n J
   ·omega
 ·rw[Qz oM]at c
  exact Ok.mk ⟨p,F,rfl,c,j,e⟩
end
end Go.Proofs.YtjgjkeponbeekaaGreatDoor
namespace Go.ar
open Go
variable{a4:List Value}{E a c c1 i l:Nat}{f:ZN}{d s:YQ}{h:Program}{J j:Type}{g r:TypeId}{b:World}{z:ZU}
def OW{cs:List j}{p m:Nat}{v:j}{vs:List j}(n:p<cs.length):(cs.set p v).take (p+1)++vs++(cs.set p v).drop (p+1+m)=cs.take p++(v::vs)++cs.drop (p+(m+1)):=by
 have P:(cs.set p v).take (p+1)=cs.take p++[v]:=by
  rw[Qw,Xj,Zx rfl,Zx n,List.take_set_of_le (Q4 _)];rfl
 have a:(cs.set p v).drop (p+1+m)=cs.drop (p+(m+1)):=by
  rw[List.drop_set_of_lt oM,show p+1+m=p+(m+1) by omega]
 rw[P,a];simp
def CS{k:TypeId}{l:Nat}{f:YQ}{m c P g d:Nat}{o:ZU}(p:f=some ⟨g,d,none⟩):∀(a:List Value) (n:Nat) {b:World} {cs:List Value},Own b k l f m c cs->P+n+a.length<=cs.length->
  (∀e,Own e k l f m c (cs.take (P+n)++a++cs.drop (P+n+a.length))->ak (λg=>aD f=some g) b e->e.heap.size=b.heap.size->o e)->ji ⟨g,d+P,none⟩ n a b o
 |[],n,b,cs,h,q,i=>i b (by simpa using h) (ak.refl _) rfl
 |v::a,n,b,cs,h,q,i=>by
  unfold ji;rw[Xq]at q;rw[Addr.add_lit,Nat.add_assoc];refine h.set (m:=P+n) oM p λe r s t=>CS p a (n+1) r (by simp;omega) λu j w x=>i u ?_ (s.then w) (x.trans t);have:=OW (cs:=cs) (p:=P+n) (m:=a.length) (v:=v) (vs:=a) oM;rw[show P+(n+1)=P+n+1 from rfl]at j;rw[this]at j;exact j
def Own.store{j P m e c:Nat}{n cs:List Value}(l:Own b r a d j P cs)(o:d=some ⟨e,c,none⟩)(k:ij h g n=true)(p:m+n.length<=cs.length)(i:∀f,Own f r a d j P (cs.take m++n++cs.drop (m+n.length))->ak (λe=>aD d=some e) b f->f.heap.size=b.heap.size->z f):kv h g (.pointer (some ⟨e,c+m,none⟩)) (.agg n.toArray) b z:=by
 simp only[ij,QK]at k;obtain⟨⟨⟨q,w⟩,s⟩,t⟩:=k;unfold kv;have u:Nat.beq n.toArray.size (lU h g)=true:=by simpa using s
 have v:n.toArray.toList.all Value.oneCell'=true:=by simpa using t
 simp only[q,u,v];exact CS o n 0 l (by simpa using p) i
def eC.store{n:eC j J}{o:List (Bx j)}(w:aM n.jG r f b d a c o){P:Bx j}(x:o[i]? =some P){B t:Nat}(M:d=some ⟨B,t,none⟩)(C:a4=(n.hd P.x s l E).take c1)(a1:n.o<c1)(a2:c1<=n.k)(N:ij h g a4=true)(y:∀q,aM n.jG r f q d a c (o.set i ⟨P.x,s,l,E⟩)->ak (λe=>aD d=some e) b q->q.heap.size=b.heap.size->z q):kv h g (.pointer (some ⟨B,t+i*n.k,none⟩)) (.agg a4.toArray) b z:=by
 obtain⟨cs,D,O,F,Q⟩:=w.body;have H:=bF.nQ.1 F;have R:i<o.length:=(Qv.1 x).1;have I:cs.length=o.length*n.k:=by rw[H];exact lg (λe:Bx j=>n.hl e.x e.a e.n e.c) o
 have u:a4.length=c1:=by rw[C,Qy,n.hl];omega
 have S:(i+1)*n.k<=o.length*n.k:=Q0 _ R;rw[X7,Nat.one_mul]at S;refine O.store (m:=i*n.k) M N (by rw[I,u];omega) λq T U K=>y q ⟨⟨_,D,T,bF.nQ.2 ?_,Q⟩,w.self,λe V=>by rw[K];exact w.aC e V⟩ U K;have W:=rl (enc:=λe:Bx j=>n.hd e.x e.a e.n e.c) (k:=n.k) (λe=>n.hl e.x e.a e.n e.c) (x':=⟨P.x,s,l,E⟩) (v:=.slice s l E) n.ho o i P x (n.eh ..).symm;rw[<-W,<-H,u];have X:∀k,k<n.k->cs[i*n.k+k]? =(n.hd P.x P.a P.n P.c)[k]? :=λk Y=>by
  obtain⟨Z,A,L⟩:=F.at x;have a0:Z=n.hd P.x P.a P.n P.c:=L.1;rw[<-a0];exact A k Y
 apply X3;intro k;have p:∀m,m<c1->a4[m]? =(n.hd P.x s l E)[m]? :=λm hu=>by rw[C,Xw,Zx hu]
 by_cases A:k<i*n.k
 ·rw[XQ,XW (by rw[Qy];omega),Xw,Zx A,Xj,Zq oM]
 ·by_cases L:k<i*n.k+c1
  ·rw[XQ,X8 (by rw[Qy];omega),XW (by rw[Qy,u];omega),Qy,p _ oM]
   obtain⟨m,rfl⟩:∃m,k=i*n.k+m:=⟨k-i*n.k,oM⟩
   rw[X2 oM,Nat.add_sub_cancel_left,Xj];have v:=n.eh P.x P.a P.n P.c s l E;split
   ·rename_i r
    have:m=n.o:=oM
    subst this;rw[Zx (by rw[I];have:=n.ho;omega),<-v,Xj,Zx rfl,Zx (by rw[n.hl];exact n.ho)]
   ·rename_i r
    rw[X m oM,<-v,Xj,Zq oM]
  ·rw[X8 (by rw[QX,Qy,u];omega),QX,Qy,u,List.getElem?_drop,Xj,Zq (by have:=n.ho;omega)]
   congr 1
   omega
end Go.ar
namespace Go.ar
open Go
variable{h:Program}{z:ZU}
section
variable {α β:Type} {N:eC α β} {w9 w w':World} {a:YQ} {n c j:Nat} {L0:List (Bx α)} {e:TypeId}
def dE.step2{f:TypeId}(x:dE N e w9 a n c L0 j w){g:Nat}(o:a=Option.some ⟨g,0,none⟩){b:Bx α}(i:L0[j]? =Option.some b){a':YQ}{n' c':Nat}{G:ZN}(y:Row N.ci N.ib w G a' n' (N.inner b.x))(A:N.ok b.x)(k:∀P,G P->w9.heap.size<=P/\P<w.heap.size)(U:g<w9.heap.size){hd:List Value}{r:Nat}(C:hd=(N.hd b.x a' n' c').take r)(E:N.o<r)(F:r<=N.k)(H:ij h f hd=true)(l:∀w',dE N e w9 a n c L0 (j+1) w'->ak (λb=>aD a=Option.some b) w w'->w'.heap.size=w.heap.size->z w'):kv h f (.pointer (Option.some ⟨g,0+j*N.k,none⟩)) (.agg hd.toArray) w z:=by
 obtain⟨I,J,K,L,M,p,O,q⟩:=x;have s:I[j]? =Option.some b:=by rw[p j (Q4 _)];exact i
 have Q:=(Qv.1 s).1;have t:∀P,G P->¬aD a=Option.some P:=λP B e=>by
  have:=(k P B).1;rw[o]at e;simp only[aD,Q1]at e;omega
 refine eC.store K s o C E F H λR S d m=>l R ⟨_,λP=>J P\/G P,S,?_,?_,?_,O.then d,?_⟩ d m
 ·rw[List.map_set,L]
  apply X3;intro f;rw[Xj];split
  ·rename_i e;subst e
   rw[Zx (by simpa using(Qv.1 i).1),Q9,i];rfl
  ·rfl
 ·intro u P V B
  rw[Xj]at B
  by_cases v:j=u
  ·subst v
   rw[Zx rfl,Zx Q]at B
   cases B
   exact⟨(y.af d λP B=>t P B).mono λP B=>.inr B,A⟩
  ·rw[Zq v]at B
   exact((M u P oM B).af d λP B=>(q P B).2.2).mono λP B=>.inl B
 ·intro T W
  rw[Xj,Zq oM,p T oM]
 ·rintro P (B|B)
  ·rw[m];exact q P B
  ·rw[m];exact⟨(k P B).1,(k P B).2,t P B⟩
end
end Go.ar
namespace Go.Proofs.YtjgjkeponbeekaaGreatDoor
section
open Go.ar
variable{a c:Nat}{d:YQ}
section
variable {w w':World} {p:Nat} {F D:ZN} {V:aW}
def Aa{n:List (Bx cC)}(b:Row Mh.jG 120 w D d a n)(e:∀P,D P->P<w.heap.size):YX 405 #[.slice d a c] w (Ok (oZ Mh.jG 133 w n)):=
 gG (wG RN dC b e λg w' f=>Ok.mk f)
def FH(c:cg w p F V)(a:V.entries.length<=20000000):YX 403 #[ZL p] w (Ok (oZ wA 133 w V.entries)):=by
 obtain⟨X,Y,c⟩:=c;have j:=c.OY.row (bytes:=120) dC (by unfold aK;omega);have H:=j.ef;have Z:=j.len;obtain⟨e,v,I,J⟩:=eC.boxes j;have a8:e.length=V.entries.length:=by rw[<-v];simp
 refine sA ⟨p,0,rfl,_,_,_,ae c.at' rfl,PC.ok (Aa I λn a=>c.aC n a.1) ?_⟩;rintro _ x ⟨h,f,y,F9,rfl,i,z,K⟩;have k:∀n,aD h=some n->w.heap.size<=n:=λn a=>K n (i.self n a);have L:∀n,aD h=some n->n<x.heap.size:=λn a=>i.aC n (i.self n a);refine⟨_,_,_,rfl,λA M w'=>∃b:Nat,M=b/\b<=f/\A=f-b/\dE Mh 133 x h f y e b w',⟨_,0,rfl,Qj _,rfl,dE.start i.alone⟩,?_⟩;rintro A _ _ N ⟨b,rfl,hj,rfl,d⟩;have b0:=d.len;have l:ai w N:=z.new d.af λn a=>.inr (k n a);have zk:=d.af.size;refine al.dec (λb1=>?_) (λb2=>?_)
 ·obtain⟨g,rfl⟩:=d.some oM
  have b3:=k g rfl;have O:=L g rfl;have m:e[b]? =some e[b]:=Qq oM;have o:=J e[b] (XY oM);generalize e[b]=P at m o;refine⟨g,0,rfl,oM,oM,bA (es:=aE P.x.ev P.a P.n P.c) (k:=10) (aX _ _ _ _) rfl (λq Q=>?_) (PC.ok (oE (e:=P.x.ev) (o.1.ah l) λn a=>by have:=c.aC n a.1;have:=l.size;omega) ?_)⟩
  ·have R:=d.cell rfl m (by show f*13<=aK;unfold aK at H⊢;omega) q
   rw[Qx];have r:q<(aE P.x.ev P.a P.n P.c).length:=Q;rw[Qq r];refine R _ ?_;show(aE P.x.ev P.a P.n P.c++_)[q]? =_;rw[XW r,Qq r]
  rintro _ b4 ⟨s,t,u,G,rfl,S,B,T⟩;refine bT (rY P.x.ev s t u) ⟨rfl,g,0,rfl,oM,oM,?_⟩;rw[Qx];refine(d.ah T).step2 (g:=g) rfl m (a':=s) (n':=t) (c':=u) (G:=G) S o.2 (λC E=>⟨by have:=B C E;omega,(B C E).2⟩) O (hd:=aE P.x.ev s t u) (r:=10) rfl dC dC (aX _ _ _ _) λb5 U b6 b7=>⟨_,?_,b+1,aq oM,oM,rfl,U⟩
  omega
 ·obtain rfl:b=f:=oM
  obtain⟨Fd,hd,W⟩:=d.done;rw[v]at hd;have z9:=z.size;exact Ok.mk ⟨h,_,y,Fd,rfl,hd,l,λn a=>(W n a).elim (k n) λc=>oM⟩
end
end
section
open Go.ar
def a_(n:dy):List Value:=[ZH n.group,ZH n.value,ZH n.count]
def dy.Ok(n:dy):Prop:=aJ n.group/\aJ n.value/\aJ n.count
def HA:jJ dy:=flat 3 a_ dy.Ok (λ_=>rfl) (λP a n=>by simp[a_]at n;rcases n with rfl|rfl|rfl<;>rfl)
def Wc:jV ZP 51 135 3 24:=⟨kR,kR,dC⟩
variable{X o:Array Value}{A:FuncId}{e m:Int}{e2:dy}
section
variable {w w':World} {D:ZN} {a:YQ} {n c:Nat} {l:List dy}
def Cv(b:Row HA 24 w D a n l)(d:∀P,D P->P<w.heap.size):YX 215 #[.slice a n c] w (Ok (oZ HA 135 w l)):=
 jf (wG Wc dC b d λf w' e=>Ok.mk e)
def LD{most:Int}(b:Row HA 24 w D a n l)(g:∀d,D d->d<w.heap.size)(u:n<=c):
  YX 152 #[.slice a n c,ZH most] w (Ok λh w'=>∃e,h= .tuple #[e,.bool (decide ((max most 0).toNat<l.length))]/\oZ HA 135 w (l.take (max most 0).toNat) e w'):=by
 have v:=b.len;have i:(if 0>most then 0 else most)=max most 0:=by split<;>omega
 refine DB ?_;rw[i];obtain⟨P,f⟩:∃P:Nat,(if(n:Int)<max most 0 then(n:Int)else max most 0)=P:=⟨(if(n:Int)<max most 0 then(n:Int)else max most 0).toNat,by split<;>omega⟩
 rw[f];have j:P=min n (max most 0).toNat:=by split at f<;>omega
 rw[Qx];refine⟨oM,oM,oM,PC.ok (Cv (b.take (m:=P) oM) g) ?_⟩;rintro _ x ⟨k,m,o,p,rfl,q,r,s⟩;refine⟨_,_,_,rfl,Ok.mk ⟨_,?_,k,m,o,p,rfl,?_,r,s⟩⟩
 ·have:decide ((P:Int)<(n:Int))=decide ((max most 0).toNat<l.length):=by rw[decide_eq_decide];omega
  rw[this]
 ·have:l.take (max most 0).toNat=l.take P:=by
   rw[j]
   by_cases t:(max most 0).toNat<=n
   ·rw[Nat.min_eq_right t]
   ·rw[X2 oM,Qz oM,Qz oM]
  rw[this];exact q
def Jm{a k:Nat}(t:a<=20000000)(i:k<=a)(j:enters ZP A=true)(l:∀(b:Nat) d,b<a->ai w d->YX A (o++ #[ZH (b:Int)]++X) d (Ok λe w'=>e= .bool (decide (k<=b))/\ai d w')):
  YX 150 #[ZH (a:Int),.func (.func A) o X] w (Ok λe w'=>e= ZH (k:Int)/\ai w w'):=by
 refine By ⟨λf b m w'=>∃n P:Nat,b=n/\m=P/\f=P-n/\n<=P/\P<=a/\n<=k/\k<=P/\ai w w',⟨_,0,a,rfl,rfl,rfl,oM,oM,oM,i,ak.refl _⟩,?_⟩;rintro f _ _ _ p ⟨n,P,rfl,rfl,rfl,u,q,r,s,c⟩;refine al.dec (λv=>?_) (λx=>?_)
 ·rw[Ue oM]
  refine⟨_,_,_,rfl,j,PC.ok (l _ p oM c) ?_⟩;rintro _ y ⟨rfl,g⟩;refine⟨_,rfl,al.not (al.dec (λh=>⟨_,?_,n,(n+P)/2,rfl,rfl,rfl,oM,oM,r,h,c.then g⟩) (λh=>⟨_,?_,(n+P)/2+1,P,aq oM,rfl,rfl,oM,q,oM,s,c.then g⟩))⟩
  ·omega
  ·omega
 ·obtain rfl:n=k:=oM
  exact Ok.mk ⟨rfl,c⟩
def th{P:Type}(n:P->Bool):∀l:List P,l.dropWhile n=l.drop (posOf n l)
 |[]=>rfl
 |x::l=>by
  unfold posOf;rw[List.dropWhile_cons,List.takeWhile_cons]
  cases a:n x
  ·simp
  ·simpa[posOf]using th n l
abbrev ux(l:List dy):Prop:=l.Pairwise λa n=>a.group<n.group
def Tb{l:List dy}(b:ux l){n:Nat}(P:l[n]? =some e2):decide (posOf (λe2=>decide (e2.group<=e)) l<=n)=decide (e2.group>e):=by
 rw[decide_eq_decide]
 induction l generalizing n with
 |nil=>simp at P
 |cons c l d=>
  obtain⟨f,g⟩:=List.pairwise_cons.1 b;unfold posOf;rw[List.takeWhile_cons]
  by_cases a:c.group<=e
  ·rw[Zy a]
   cases n with
   |zero=>
    simp at P;subst P;simp;omega
   |succ n=>
    have:=d g (by simpa using P);unfold posOf at this;simp only[if_true,Xq];omega
  ·rw[Xv a]
   simp only[Bool.false_eq_true,if_false,ZQ,Qj,true_iff]
   cases n with
   |zero=>simp at P;subst P;omega
   |succ n=>
    have:=f e2 (QZ (by simpa using P));omega
def LF(j:Row HA 24 w D a n l)(u:∀b,D b->b<w.heap.size)(v:n<=c)(x:ux l)(y:n<=20000000):
  YX 90 #[.slice a n c,ZH e,ZH m] w (Ok λz w'=>∃P,z= .tuple #[P,.bool (nT l e (max m 0).toNat).2]/\oZ HA 135 w (nT l e (max m 0).toNat).1 P w'):=by
 have Q:=j.len;have R:=Ay (λP:dy=>decide (P.group<=e)) l;refine Gp (PA.mk λS p T k=>PA.mk λU g V A=>⟨_,_,_,ae (g.get k id) rfl,PC.ok (Jm (k:=posOf (λP=>decide (P.group<=e)) l) y oM kR λh B W d=>?_) ?_⟩)
 ·have f:=(p.then g).then d
  obtain⟨b,C,X,E,i,-,F,rfl,-⟩:=(j.ah f).el h l[h] (Qq oM);have H:l[h]? =some l[h]:=Qq oM;refine Bo ⟨_,_,_,ae (d.get (g.get k id) id) rfl,b,C,E,oM,oM,_,by rw[Qx];exact F 0 dC,_,ae (d.get A id) rfl,λI J=>Ok.mk ⟨?_,J.af⟩⟩;rw[Tb x H]
 ·rintro _ B ⟨rfl,d⟩
  have f:=(p.then g).then d;have o:=(j.ah f).part (lo:=posOf (λP=>decide (P.group<=e)) l) (hi:=n) (cap:=c) oM (Q4 _) v;rw[Qz oM]at o;have K:HA.k=3:=rfl;rw[K]at o;refine⟨_,rfl,_,_,_,ae (d.get (g.get k id) id) rfl,oM,oM,?_⟩;rw[Qx];refine PC.ok (LD (most:=m) o (λb i=>by have:=u b i;have:=f.size;omega) oM) ?_;rintro _ I ⟨_,rfl,q,r,s,L,rfl,M,N,O⟩;have t:l.dropWhile (λP=>decide (P.group<=e))=l.drop (posOf (λP=>decide (P.group<=e)) l):=th _ l;refine⟨_,_,_,_,rfl,Ok.mk ⟨.slice q r s,?_,q,r,s,L,rfl,?_,f.then N,λb i=>by have:=O b i;have:=f.size;omega⟩⟩
  ·unfold nT;rw[t]
  ·unfold nT;rw[t];exact M
end
def tg(n:dy):Value:=.agg (a_ n).toArray
def Oc(n:dy):ij ZP 135 (a_ n)=true:=kR
def XF(n:dy):SO (cN ZP 135) (.agg (a_ n).toArray)=true:=kR
structure lj (w:World) (p r:Nat) (R:dq):Prop where
 at':w.heap[p]? =some (.cells #[ZH R.p.aU,ZH R.p.field,ZH R.p.group,ZH R.p.FC,ZH R.p.make,.map (some r)] 269 (0,0))
 map:bJ w r (Value.int .i64) (R.rows.map λx=>(x.1,tg x.2))
 ok:∀x∈R.rows,dy.Ok x.2/\x.2.group=x.1
variable{a c:Nat}{d:YQ}{q:aj}{e1:jr}
section
variable {w w':World} {p r:Nat} {R:dq} {T:ZN}
def lj.af(n:lj w p r R)(P:ak T w w')(a:¬T p)(b:¬T r):lj w' p r R:=⟨P.get n.at' a,n.map.af P b,n.ok⟩
def lj.ah(n:lj w p r R)(P:ai w w'):lj w' p r R:=n.af P id id
def Pq:YX 106 #[.agg (nW e1).toArray] w (Ok λa w'=>∃p r,a= ZL p/\lj w' p r ⟨e1,[]⟩/\w.heap.size<=p/\w.heap.size<=r/\p<w'.heap.size/\r<w'.heap.size/\ai w w'):=by
 refine KO (PA.mk λb c i n=>⟨_,_,_,_,_,ae n rfl,ae n rfl,ae n rfl,ae n rfl,ae n rfl,PA.mk λd e j f=>PA.mk λk P l g=>Ok.mk ⟨d.heap.size,b.heap.size,rfl,⟨g,bJ.new (P.get f id),λe1 h=>by cases h⟩,oM,oM,oM,oM,(c.then e).then P⟩⟩)
def Hf(n:jr)(a:aj)(P:Int):Option Int:=if n.group=1 then some a.agg else if n.group=2 then some a.arg else if n.group=3 then some P else none
def LG(h:lj w p r R):YX 244 #[ZL p,jT q d a c,ZH e] w (Ok λi w'=>i= .tuple #[ZH ((Hf R.p q e).getD 0),.bool (Hf R.p q e).isSome]/\ai w w'):=by
 refine u_ (PA.mk λj n k g=>⟨p,0,rfl,_,ae (h.ah n).at' rfl,al.cX (λP=>⟨_,ae g rfl,Ok.mk ⟨?_,n⟩⟩) (λP=>al.cX (λb=>⟨_,ae g rfl,Ok.mk ⟨?_,n⟩⟩) (λb=>al.cX (λf=>Ok.mk ⟨?_,n⟩) (λf=>Ok.mk ⟨?_,n⟩)))⟩)
 ·unfold Hf;rw[Zx P];rfl
 ·unfold Hf;rw[Zq P,Zx b];rfl
 ·unfold Hf;rw[Zq P,Zq b,Zx f];rfl
 ·unfold Hf;rw[Zq P,Zq b,Zq f];rfl
def Oy(h:lj w p r R){arg:Int}:YX 245 #[ZL p,.agg (a_ e2).toArray,ZH arg] w (Ok λk w'=>k= ZH (lW R.p e2 arg)/\ai w w'):=by
 refine xj (PA.mk λl a o e=>?_);have b:=(h.ah a).at';refine⟨_,ae e rfl,p,0,rfl,_,ae b rfl,al.cX (λc=>⟨_,ae e rfl,Ok.mk ⟨?_,a⟩⟩) (λc=>⟨p,0,rfl,_,ae b rfl,al.cX (λd=>⟨_,ae e rfl,Ok.mk ⟨?_,a⟩⟩) (λd=>⟨λj w'=>j=decide (R.p.make=5\/e2.count=1/\(R.p.make=3\/R.p.make=4))/\l=w',?_,?_⟩)⟩)⟩
 ·unfold lW;rw[Zx c]
 ·unfold lW;rw[Zq c,Zx d]
 ·refine⟨p,0,rfl,_,ae b rfl,al.cX (λf=>⟨?_,rfl⟩) (λf=>al.cX (λi=>⟨p,0,rfl,_,ae b rfl,al.cX (λn=>⟨?_,rfl⟩) (λn=>⟨p,0,rfl,_,ae b rfl,?_,rfl⟩)⟩) (λi=>⟨?_,rfl⟩))⟩
  ·rw[Zy (.inl f)];simpa using f
  ·rw[Zy (.inr ⟨i,.inl n⟩)]
  ·by_cases P:R.p.make=4
   ·rw[Zy (.inr ⟨i,.inr P⟩)];simpa using P
   ·rw[Xv (by rintro(h|⟨-,h|h⟩);exact f h;exact n h;exact P h)];simpa using P
  ·rw[Xv (by rintro(h|⟨h,-⟩);exact f h;exact i h)]
 ·rintro j _ _ ⟨m,rfl⟩
  subst m;refine al.dec (λg=>Ok.mk ⟨?_,a⟩) (λg=>⟨p,0,rfl,_,ae b rfl,al.cX (λn=>⟨_,ae e rfl,Ok.mk ⟨?_,a⟩⟩) (λn=>⟨p,0,rfl,_,ae b rfl,al.cX (λP=>⟨_,ae e rfl,Ok.mk ⟨?_,a⟩⟩) (λP=>Ok.mk ⟨?_,a⟩)⟩)⟩)
  ·unfold lW;rw[Zq c,Zq d,Zx g]
  ·have:(if arg<e2.value then arg else e2.value)=min e2.value arg:=by split<;>omega
   unfold lW;rw[Zq c,Zq d,Zq g,Zx n,<-this]
  ·have:(if arg>e2.value then arg else e2.value)=max e2.value arg:=by split<;>omega
   unfold lW;rw[Zq c,Zq d,Zq g,Zq n,Zx P,<-this]
  ·unfold lW;rw[Zq c,Zq d,Zq g,Zq n,Zq P]
end
def Rm:lY ZP 267 3 135 (tg ⟨0,0,0⟩):=⟨kR,kR⟩
def MV{P d e:Type}[BEq P](a:d->e)(b:P):∀n:List (P×d),aF (n.map λc=>(c.1,a c.2)) b=(aF n b).map a
 |[]=>rfl
 |(c,f)::n=>by
  simp only[QY];unfold aF;split
  ·rfl
  ·exact MV a b n
def MW{b c f:Type}[BEq b](P:c->f)(d:b)(e:c):∀a:List (b×c),aH (a.map λn=>(n.1,P n.2)) d (P e)=(aH a d e).map λn=>(n.1,P n.2)
 |[]=>rfl
 |(n,g)::a=>by
  simp only[QY];unfold aH;split
  ·simp
  ·simp[MW P d e a]
section
variable {w w':World} {p r:Nat} {R:dq}
def dq.add_def(r:dq)(e:cC)(P:Int):r.add e P=match Hf r.p e.ev P with
  |none=>r
  |some n=>if e.void||e.ev.aU !=r.p.aU||e.ev.field !=r.p.field then r else
   {r with rows:=aH r.rows n ⟨n,lW r.p ⟨n,((aF r.rows n).getD ⟨0,0,0⟩).value,ph (((aF r.rows n).getD ⟨0,0,0⟩).count+1)⟩ e.ev.arg,ph (((aF r.rows n).getD ⟨0,0,0⟩).count+1)⟩}:=rfl
def HD:aJ 0:=by unfold aJ;omega
def US{arg:Int}(n:dy.Ok e2)(P:aJ arg):aJ (lW e1 e2 arg):=by
 obtain⟨b,c,a⟩:=n;unfold lW;split;exact a;split;exact Mq _;split;exact P;split
 ·unfold aJ at*;omega
 split
 ·unfold aJ at*;omega
 ·exact HD
def Pl(h:lj w p r R)(a1:p≠r){x:cC}(v:x.ev.Ok)(a2:aJ e):YX 185 #[ZL p,FD x d a c,ZH e] w (Ok λk w'=>k= .tuple #[]/\lj w' p r (R.add x e)/\ak (·=r) w w'):=by
 have b1:=ax h.at';have b2:=h.map.lt;refine zG (PA.mk λw1 L s1 M=>UT (cs:=aE x.ev d a c) (aX _ _ _ _) M (λa3 k N=>?_) (PC.ok (LG (h.ah L)) ?_))
 ·rw[Xz]
  have a4:=(Qv.1 N).1;show(aE x.ev d a c++_).toArray[a3]? =_;simp only[List.getElem?_toArray];rw[XW a4];exact N
 rintro _ O ⟨rfl,Q⟩;have l:=L.then Q;have m:=Q.get M id;have o:=h.ah l;have b:R.add x e=R->∀g,aV O g->Ok (λk w'=>k= .tuple #[]/\lj w' p r (R.add x e)/\ak (·=r) w w') (.returned (.tuple #[])) g:=λhe g i=>Ok.mk ⟨rfl,by rw[he];exact o.ah i.af,ai.af (l.then i.af)⟩;refine⟨_,_,rfl,al.not (al.mk (λy=>?_) (λy=>b ?_))⟩
 rotate_left
 ·rw[dq.add_def,show Hf R.p x.ev e=none by simpa using y]
 obtain⟨P,f⟩:=Option.isSome_iff_exists.1 y;rw[f,Option.getD_some];have s:∀{q:dq},(if x.void||x.ev.aU !=R.p.aU||x.ev.field !=R.p.field then R else
   {R with rows:=aH R.rows P ⟨P,lW R.p ⟨P,((aF R.rows P).getD ⟨0,0,0⟩).value,ph (((aF R.rows P).getD ⟨0,0,0⟩).count+1)⟩ x.ev.arg,ph (((aF R.rows P).getD ⟨0,0,0⟩).count+1)⟩})=q->R.add x e=q:=λ{q} z=>by
  rw[dq.add_def,f];exact z
 refine⟨_,ae m rfl,al.mk (λj=>b (s (by rw[j];rfl))) (λj=>⟨_,ae m rfl,p,0,rfl,_,ae o.at' rfl,al.dP (λA=>b (s ?_)) (λA=>⟨_,ae m rfl,p,0,rfl,_,ae o.at' rfl,λg i=>?_⟩)⟩)⟩
 ·rw[j,show(x.ev.aU !=R.p.aU)=true by simpa using A];rfl
 have S:(x.ev.aU !=R.p.aU)=false:=by simpa using A
 have t:ai O g:=i.af;have u:=o.ah t;refine al.dP (λB=>b (s (by rw[j,S,show(x.ev.field !=R.p.field)=true by simpa using B];rfl)) g i) (λB=>?_);have a5:(x.ev.field !=R.p.field)=false:=by simpa using B
 have T:aJ P:=by
  unfold Hf at f;split at f
  ·cases f;exact v.agg
  split at f
  ·cases f;exact v.arg
  split at f
  ·cases f;exact a2
  ·cases f
 obtain⟨n,C⟩:∃n,n=(aF R.rows P).getD ⟨0,0,0⟩:=⟨_,rfl⟩
 have a6:dy.Ok n:=by
  rw[C]
  cases z:aF R.rows P with
  |none=>exact⟨HD,HD,HD⟩
  |some U=>exact(h.ok _ (bW z)).1
 have a7:(aF (R.rows.map λx=>(x.1,tg x.2)) P).getD (tg ⟨0,0,0⟩)=tg n:=by
  rw[MV,C];cases aF R.rows P<;>rfl
 refine⟨p,0,rfl,_,ae u.at' rfl,Ag Rm kC u.map ?_⟩;rw[a7];refine bT (XF n) ⟨rfl,PA.mk λw4 k4 s4 g4=>az (Oc n) g4 rfl λw5 k5 s5 g5=>PS.mk g5 (by simp[a_]) λw6 k6 s6 V=>⟨_,ae V rfl,PS.mk V (by simp[a_]) λw7 k7 s7 W=>?_⟩⟩;have E:ai g w7:=((k4.new k5 λF H=>.inr oM).new k6 λF H=>.inr oM).new k7 λF H=>.inr oM;have a8:=E.get (t.get m id) id;refine au (cs:=a_ ⟨P,n.value,ph (n.count+1)⟩) (Oc _) W ⟨_,ae a8 rfl,PC.ok (Oy (u.ah E)) ?_⟩;rintro _ w8 ⟨rfl,I⟩;have z8:=I.size;refine⟨_,rfl,PS.mk (I.get W id) (by simp[a_]) λw9 k9 s9 g9=>λX a9=>?_⟩;have Y:ai w9 X:=a9.af;have Z:ai g X:=((E.then I).new k9 λF H=>.inr oM).then Y;have J:=u.ah Z;have z3:=(l.then t).size;refine⟨p,0,rfl,_,ae J.at' rfl,au (cs:=a_ ⟨P,lW R.p ⟨P,n.value,ph (n.count+1)⟩ x.ev.arg,ph (n.count+1)⟩) (Oc _) (Y.get g9 id) (de Rm kC J.map λb3 b0 a0 b4=>Ok.mk ⟨rfl,?_,?_⟩)⟩
 ·rw[s (q:={R with rows:=aH R.rows P ⟨P,lW R.p ⟨P,n.value,ph (n.count+1)⟩ x.ev.arg,ph (n.count+1)⟩}) (by rw[j,S,a5,C];rfl)]
  refine⟨a0.get J.at' a1,?_,λU K=>?_⟩
  ·rw[<-MW];exact b0
  ·rcases fj K with rfl|K
   ·exact⟨⟨T,US ⟨T,a6.2.1,Mq _⟩ v.arg,Mq _⟩,rfl⟩
   ·exact h.ok U K
 ·exact(ai.af ((l.then t).then Z)).then a0
end
section
variable {w w':World} {p r:Nat} {R:dq}
def Ni(e:lj w p r R):YX 221 #[ZL p] w (Ok λf w'=>∃b d,f= ZL b/\lj w' b d R/\b≠d/\w.heap.size<=b/\w.heap.size<=d/\b<w'.heap.size/\d<w'.heap.size/\ai w w'):=by
 refine xi λP h=>?_;have i:ai w P:=h.af;have t:P.heap.size=w.heap.size:=by rw[h.heap]
 have a:=e.ah i;obtain⟨c,n,k,l,m,o⟩:=a.map.at';refine⟨no,p,0,rfl,id,_,_,_,_,_,ae a.at' rfl,ae a.at' rfl,ae a.at' rfl,ae a.at' rfl,ae a.at' rfl,p,0,rfl,_,ae a.at' rfl,PC.ok (φ:=λf w'=>f= .map (some P.heap.size)/\w'=P.alloc (.map c n)) ((AnyW.maps_Clone Tryz.UU r c n P k).mono ?_) ?_⟩
 ·rintro u w' ⟨rfl,q⟩
  exact Ok.mk ⟨rfl,q⟩
 ·rintro _ v ⟨rfl,rfl⟩
  have j:ai P (P.alloc (.map c n)):=ak.alloc _ _;have x:(P.alloc (.map c n)).heap.size=P.heap.size+1:=sM
  refine⟨_,rfl,ai.af j,PA.mk λy g z s=>⟨ai.af g,Ok.mk ⟨_,P.heap.size,rfl,⟨s,⟨⟨c,n,g.get (heap_alloc_new P _) id,l,m,o⟩,e.map.tidy⟩,e.ok⟩,?_⟩⟩⟩;refine⟨oM,oM,oM,oM,oM,(i.then j).then g⟩
end
open Go.ar Go.Sort
def nR{b:Type}{f:Nat}{n:b->List Value}{d:b->Prop}{hl h1}{g:World}{D:ZN}:∀{P:List b} {cs:List Value},bF (flat f n d hl h1) g D P cs↔cs=P.flatMap n/\∀x∈P,d x
 |[],cs=>by simp[bF]
 |x::P,cs=>by
  constructor
  ·rintro⟨k,l,rfl,⟨rfl,h⟩,i⟩
   obtain⟨rfl,j⟩:=nR.1 i;exact⟨rfl,λc a=>by rcases Q2.1 a with rfl|a;exact h;exact j c a⟩
  ·rintro⟨rfl,e⟩
   exact⟨n x,P.flatMap n,rfl,⟨rfl,e x (QV ..)⟩,nR.2 ⟨rfl,λc a=>e c (QJ _ a)⟩⟩
section
variable {α:Type} {enc:α->List Value} {K:Nat}
def fU(a:∀P,(enc P).length=K)(n:List α):(n.flatMap enc).length=n.length*K:=by
 induction n with
 |nil=>simp
 |cons P n b=>rw[List.flatMap_cons,QX,b,a,Xq,X7];omega
def km[Inhabited α](f:0<K)(P:∀c,(enc c).length=K){n:List α}(d:a<n.length*K):(n.flatMap enc)[a]? =(enc n[a/K]!)[a % K]? :=by
 induction n generalizing a with
 |nil=>simp at d
 |cons c n g=>
  rw[List.flatMap_cons]
  by_cases b:a<K
  ·rw[XW (by rw[P];exact b),Nat.div_eq_of_lt b,Nat.mod_eq_of_lt b];rfl
  ·rw[Xq,X7]at d
   rw[X8 (by rw[P];omega),P,g oM];obtain⟨e,rfl⟩:∃e,a=e+K:=⟨a-K,oM⟩
   rw[Nat.add_sub_cancel,Nat.add_div_right _ f,Nat.add_mod_right];simp
def yO[Inhabited α](c:0<K)(b:∀f,(enc f).length=K)(n:List α):(flatK enc K n.toArray).toList=n.flatMap enc:=by
 apply X3;intro P
 by_cases a:P<n.length*K
 ·rw[km c b a]
  have g:P<(flatK enc K n.toArray).size:=by simpa using a
  have d:=get_flatK enc K n.toArray P (by simpa using a);rw[getElem!_pos _ P g]at d;have e:P % K<(enc n[P/K]!).length:=by rw[b];exact Nat.mod_lt _ c
  rw[Qq (by simpa using a),Qq e]
  congr 1
  rw[Array.getElem_toList,d];rw[getElem!_pos _ _ (by simpa using e)]
  congr 1
  simp
 ·rw[Q7 (by simpa using a),Q7 (by rw[fU b];omega)]
end
instance:Inhabited dy:=⟨⟨0,0,0⟩⟩
def Vc(P:dy):∀a∈a_ P,a.oneCell'=true:=by
 intro b n;simp only[a_,Q2,List.not_mem_nil,or_false]at n;rcases n with rfl|rfl|rfl<;>rfl
def oV(n:dy):(a_ n).length=3:=rfl
def CQ(n P:dy):Int:=if n.group<P.group then-1 else 1
def Ao(n P:dy):ltOf CQ n P=decide (n.group<P.group):=by
 unfold ltOf CQ
 by_cases a:n.group<P.group<;>simp[a]
def Wr:SWO (ltOf CQ) where
 irrefl x:=by rw[Ao];simp
 trans x y z h1 h2:=by rw[Ao]at*;simp at*;omega
 ntrans x y z h1 h2:=by rw[Ao]at*;simp at*;omega
variable{g5:List dy}{f:ZN}{b:World}
def Vd{a c:dy}:YX 407 #[.agg (a_ a).toArray,.agg (a_ c).toArray] b (Ok λe f=>e= ZH (CQ a c)/\G b f):=by
 refine tW (PA.Wp λi d j g=>PA.Wp λk n l h=>⟨_,ae ((n.af (S:=λ_=>False)).get g id) rfl,_,ae h rfl,al.dec (λP=>Ok.mk ⟨?_,d.then n⟩) (λP=>Ok.mk ⟨?_,d.then n⟩)⟩)
 ·unfold CQ;rw[Zx P]
 ·unfold CQ;rw[Zq P]
def Ow(k:aM HA 135 f b d a c g5)(B:g5.length<=20000000):
  YX 406 #[.slice d a c,.func (.func 407) #[] #[]] b (Ok λL r=>L= .tuple #[]/\∃C:List dy,C.Perm g5/\(C.Pairwise λs M=>¬M.group<s.group)/\aM HA 135 f r d a c C/\ak (λt=>aD d=some t) b r):=by
 obtain⟨cs,D,x,Y,Z⟩:=k.body;obtain⟨rfl,N⟩:=nR.1 Y;obtain⟨n,y⟩:∃n,n=g5:=⟨g5,rfl⟩
 rw[<-y]at x N;have E:=k.len dC;have u:n.length=a:=by rw[E,<-y]
 rcases x.cases with⟨rfl,rfl,rfl,h0⟩|⟨g,h,rfl,v,O,F,Q⟩
 ·have hd:n=[]:=QW u
  refine(AnyF.slices_SortFunc_none Tryz.Ua none 0 _ b).mono ?_;rintro z r ⟨rfl,rfl⟩;exact Ok.mk ⟨rfl,g5,List.Perm.refl _,by rw[<-y,hd];exact List.Pairwise.nil,k,ak.refl _⟩
 ·have R:HA.k=3:=rfl
  rw[R]at Q F;have a5:flatK a_ 3 n.toArray=(n.flatMap a_).toArray:=by rw[<-yO (show 0<3 by decide) oV]
  have hH:HoldsK a_ 3 b g 0 n.toArray:=by
   intro i m;rw[size_flatK]at m;simp only[List.size_toArray]at m;have S:i<(n.flatMap a_).length:=by rw[fU oV];exact m
   refine⟨?_,by simp[World.frozen?,v]⟩;have o:(flatK a_ 3 n.toArray)[i]! =(n.flatMap a_)[i]:=by
    rw[a5,getElem!_pos _ i (by simpa using S)];simp
   rw[o,Xz];refine ae v ?_;have j:(h.toList.take (a*3))[i]? =some (n.flatMap a_)[i]:=by rw[Q];exact Qq S
   rw[Xw,Zx oM]at j;simpa using j
  have B:=x.row;have H:c<=maxLen:=by
   obtain⟨_,a0,_,T,_,_,_,H,_⟩:=x.row.2.resolve_left (by rintro⟨k,_⟩;cases k);simp only[XX]at T;rw[T.2.2];exact H
  have a6:n.toArray.size<4611686018427387904:=by
   simp only[List.size_toArray,u];omega
  have U:=AnyQ.slices_SortFunc Tryz.Ua 3 (λb=>cM _ _ _ kR ⟨_,Tryz.underlying135⟩ b) (λb=>Tryz.sizeOf135 b) a_ (λ_=>rfl) Vc (CQ) Wr 407 #[] g 0 c n.toArray b
   (enters_of Tryz.func407 kR rfl) (λa9 p dk b0 s M=>(Vd).mono ?_) hH (ax v) a6
  ·rw[show n.toArray.size=a by simpa using u]at U
   refine U.mono ?_;rintro z r ⟨rfl,e,w,p,hp,hs,rfl⟩;obtain⟨p1,p2,V⟩:=hp;have P:e.size=a:=p1.trans (by simpa using u);have W:e.toList.Perm n:=by
    have o:e.extract 0 a=e:=by rw[<-P];exact Array.extract_size
    have j:n.toArray.extract 0 a=n.toArray:=by rw[show a=n.toArray.size by simpa using u.symm];exact Array.extract_size
    rw[o,j]at V;exact V
   have a2:flatK a_ 3 e=(e.toList.flatMap a_).toArray:=by rw[<-yO (show 0<3 by decide) oV]
   have I:(sortWorldK a_ 3 b g 0 w e p).heap[g]? =some (.cells (putCells id 0 (flatK a_ 3 e) h) 135 (0,0)):=by
    have a7:=ax v;show((Sort.ahead b w).heap.modify g _++p)[g]? =_;rw[Array.getElem?_append_left (by simpa[Sort.ahead]using a7),Array.getElem?_modify,Zx rfl];show Option.map _ b.heap[g]? =_;rw[v];rfl
   have A:ak (λt=>aD (ZM g)=some t) b (sortWorldK a_ 3 b g 0 w e p):=by
    refine⟨rfl,rfl,rfl,?_,λa1 A E=>?_⟩
    ·show b.heap.size<=((Sort.ahead b w).heap.modify g _++p).size
     simp[Sort.ahead]
    ·show((Sort.ahead b w).heap.modify g _++p)[a1]? =_
     rw[Array.getElem?_append_left (by simpa[Sort.ahead]using A),Array.getElem?_modify,Zq (λz=>E (by rw[z];rfl))]
     rfl
   have a3:(putCells id 0 (flatK a_ 3 e) h).size=c*3:=by unfold putCells;rw[Array.size_mapIdx];exact F
   refine Ok.mk ⟨rfl,e.toList,by rw[<-y];exact W,?_,⟨⟨e.toList.flatMap a_,D,⟨⟨?_,.inr ⟨g,c,_,rfl,Qj _,I,O,H,a3,?_⟩⟩⟩,nR.2 ⟨rfl,λs hx=>?_⟩,Z⟩,k.self,λt B=>Qk (k.aC t B) A.size⟩,A⟩
   ·rw[List.pairwise_iff_getElem]
    intro X i hi m a8;have o:=hs X i (Qj _) a8 (by simpa[P]using m);rw[Ao,getElem!_pos _ i (by simpa using m),getElem!_pos _ X (by simpa using hi)]at o;simpa using o
   ·rw[fU oV,XK,P];rfl
   ·apply X3
    intro q;rw[R,Xw];split
    ·rename_i l
     rw[km (show 0<3 by decide) oV (by rw[XK,P];exact l),<-km (show 0<3 by decide) oV (by rw[XK,P];exact l)];unfold putCells;have a4:q<h.size:=by rw[F];exact Qk l (Q0 _ O)
     rw[Array.getElem?_toList,Array.getElem?_mapIdx,X6 a4];simp only[Option.map_some];have J:q<(flatK a_ 3 e).size:=by rw[size_flatK,P];exact l
     rw[Zx ⟨Qj _,by rw[Xz];exact J⟩,Nat.sub_zero,getElem!_pos _ q J];have:(flatK a_ 3 e)[q]=(e.toList.flatMap a_)[q]'(by rw[fU oV,XK,P];exact l):=by
      have j:=Zj (·[q]?) a2;simp only[List.getElem?_toArray]at j;rw[X6 J,Qq (by rw[fU oV,XK,P];exact l)]at j;exact XJ j
     rw[this];exact(Qq _).symm
    ·rename_i l
     rw[Q7 (by rw[fU oV,XK,P];omega)]
   ·have K:s∈n:=W.mem_iff.1 hx
    exact N s K
  ·rintro z r ⟨L,rfl,rfl,hG⟩
   exact⟨rfl,hG⟩
end
end Go.Proofs.YtjgjkeponbeekaaGreatDoor
namespace Go.ar
open Go
structure aP (w:World) (F:ZN) (cls:Nat->Nat) (C:Nat->World->(ZN)->Prop):Prop where
 at':∀k,C k w (λb=>F b/\cls b=k)
 aC:∀b,F b->b<w.heap.size
def ku(n:Nat->World->(ZN)->Prop):Prop:=∀P a b G c,n P a G->ak c a b->(∀d,G d->¬c d)->n P b G
section
variable {w w':World} {F T:ZN} {cls:Nat->Nat} {C C2:Nat->World->(ZN)->Prop}
def aP.af(a:aP w F cls C)(d:ku C)(b:ak T w w')(e:∀n,F n->¬T n):aP w' F cls C:=
 ⟨λc=>d c w w' _ T (a.at' c) b λn P=>e n P.1,λn P=>Qk (a.aC n P) b.size⟩
def aP.ah(n:aP w F cls C)(P:ku C)(a:ai w w'):aP w' F cls C:=n.af P a λ_ _ n=>n
def aP.Ed(g:aP w F cls C)(l:ku C){k:Nat}{G':ZN}(f:ak (λn=>F n/\cls n=k) w w')(m:∀n,G' n->F n->cls n=k)(o:∀n,G' n->n<w'.heap.size)(p:C2 k w' G')(q:∀a G,a≠k->C a w' G->C2 a w' G):∃e b,aP w' e b C2/\ak F w w'/\(∀n,e n->((F n/\cls n≠k)\/G' n))/\(∀a,a≠k->(λn=>e n/\b n=a)=λn=>F n/\cls n=a)/\(λn=>e n/\b n=k)=G':=by
 classical
 have h:∀a,a≠k->(λn=>((F n/\cls n≠k)\/G' n)/\(if G' n then k else cls n)=a)=λn=>F n/\cls n=a:=λa d=>by
  funext n
  refine propext ⟨λP=>?_,λP=>?_⟩
  ·by_cases c:G' n
   ·rw[Zx c]at P;exact Zz P.2.symm d
   ·rw[Zq c]at P
    exact⟨(P.1.resolve_right c).1,P.2⟩
  ·have i:cls n≠k:=λr=>d (P.2.symm.trans r)
   rw[Zq λc=>i (m n c P.1)];exact⟨.inl ⟨P.1,i⟩,P.2⟩
 have j:(λn=>((F n/\cls n≠k)\/G' n)/\(if G' n then k else cls n)=k)=G':=by
  funext n
  refine propext ⟨λP=>?_,λP=>⟨.inr P,Zx P⟩⟩
  by_cases c:G' n
  ·exact c
  ·rw[Zq c]at P;exact Zz P.2 (P.1.resolve_right c).2
 refine⟨λn=>(F n/\cls n≠k)\/G' n,λn=>if G' n then k else cls n,⟨λa=>?_,λn P=>?_⟩,f.mono λn _ P=>P.1,λn P=>P,h,j⟩
 ·by_cases d:a=k
  ·subst d
   rw[j];exact p
  ·rw[h a d]
   refine q a _ d (l a w w' _ _ (g.at' a) f λn P s=>d (P.2.symm.trans s.2))
 ·rcases P with P|P
  ·exact Qk (g.aC n P.1) f.size
  ·exact o n P
def aP.dT(c:aP w F cls C)(h:ku C){k:Nat}{G':ZN}(i:ak (λn=>F n/\cls n=k) w w')(e:∀n,G' n->(F n/\cls n=k)\/w.heap.size<=n)(j:∀n,G' n->n<w'.heap.size)(d:C2 k w' G')(l:∀a G,a≠k->C a w' G->C2 a w' G):∃b P,aP w' b P C2/\bB F w b w'/\(∀n,b n->((F n/\cls n≠k)\/G' n))/\(∀a,a≠k->(λn=>b n/\P n=a)=λn=>F n/\cls n=a)/\(λn=>b n/\P n=k)=G':=by
 obtain⟨b,P,f,d,g,m⟩:=c.Ed h i (λn o p=>(e n o).elim (·.2) λf=>by have:=c.aC n p;omega) j d l;exact⟨b,P,f,⟨d,λn q=>(g n q).elim (λc=>.inl c.1) λc=>(e n c).imp (·.1) id⟩,g,m⟩
def aP.same(c:aP w F cls C)(e:ku C){k:Nat}(d:ak (λn=>F n/\cls n=k) w w')(f:C2 k w' (λn=>F n/\cls n=k))(g:∀P G,P≠k->C P w' G->C2 P w' G):aP w' F cls C2:=
 ⟨λP=>by
  by_cases a:P=k
  ·subst a;exact f
  ·exact g P _ a (e P w w' _ _ (c.at' P) d λn b h=>a (b.2.symm.trans h.2)),λn b=>Qk (c.aC n b) d.size⟩
def aP.fK(d:aP w F cls C)(e:ku C){k:Nat}{G':ZN}(c:bB (λn=>F n/\cls n=k) w G' w')(f:∀n,G' n->n<w'.heap.size)(g:C2 k w' G')(h:∀a G,a≠k->C a w' G->C2 a w' G):∃b P,aP w' b P C2/\bB F w b w'/\(∀n,b n->((F n/\cls n≠k)\/G' n))/\(∀a,a≠k->(λn=>b n/\P n=a)=λn=>F n/\cls n=a)/\(λn=>b n/\P n=k)=G':=d.dT e c.1 c.2 f g h
def aP.join{G:Nat->ZN}(a:∀n,C n w (G n))(g:∀d e P,G d P->G e P->d=e)(h:∀n P,G n P->P<w.heap.size):∃cls,aP w (λP=>∃n,G n P) cls C:=by
 classical
 refine⟨λP=>if a:∃n,G n P then a.choose else 0,⟨λn=>?_,λP ⟨n,b⟩=>h n P b⟩⟩;have:(λP=>(∃n,G n P)/\(if a:∃n,G n P then a.choose else 0)=n)=G n:=by
  funext P
  refine propext ⟨λ⟨c,f⟩=>?_,λb=>⟨⟨n,b⟩,?_⟩⟩
  ·rw[dif_pos c]at f;exact f▸c.choose_spec
  ·have c:∃n,G n P:=⟨n,b⟩
   rw[dif_pos c];exact g _ _ P c.choose_spec b
 rw[this];exact a n
end
end Go.ar
namespace Go.Proofs.YtjgjkeponbeekaaGreatDoor
open Go.ar
def Wd:jJ Nat:=flat 1 (λP=>[ZL P]) (λ_=>True) (λ_=>rfl) (λa b n=>by simp at n;subst n;rfl)
def Ph:jV ZP 197 205 1 8:=⟨kR,kR,dC⟩
structure cj (w:World) (G:ZN) (a:YQ) (n c:Nat) (Rs:List dq):Prop where
 body:∃ps:List (Nat×Nat),ps.length=Rs.length/\aM Wd 205 (λb=>aD a=some b) w a n c (ps.map (·.1))/\
  (∀(i j:Nat) (x y:Nat×Nat),ps[i]? =some x->ps[j]? =some y->x.1≠y.2/\(x.2=y.2->i=j))/\(∀x∈ps,G x.1/\G x.2/\aD a≠some x.1/\aD a≠some x.2)/\
  ∀(i:Nat) (x:Nat×Nat) (R:dq),ps[i]? =some x->Rs[i]? =some R->lj w x.1 x.2 R
 self:∀b,aD a=some b->G b
variable{F:Nat×Nat}{h:Program}{g r:TypeId}{p u:ZR}
section
variable {w w':World} {G G' T:ZN} {a:YQ} {n c:Nat} {Rs:List dq}
def cj.af(b:cj w G a n c Rs)(h:ak T w w')(d:∀P,G P->¬T P):cj w' G a n c Rs:=by
 obtain⟨i,j,k,l,e,m⟩:=b.body;exact⟨⟨i,j,k.af h λP o=>d P (b.self P o),l,e,λp f q g r=>(m p f q g r).af h (d _ (e f (QZ g)).1) (d _ (e f (QZ g)).2.1)⟩,b.self⟩
def cj.ah(P:cj w G a n c Rs)(b:ai w w'):cj w' G a n c Rs:=P.af b λ_ _ P=>P
def cj.mono(g:cj w G a n c Rs)(b:∀P,G P->G' P):cj w G' a n c Rs:=by
 obtain⟨h,i,j,k,d,l⟩:=g.body;exact⟨⟨h,i,j,k,λe f=>⟨b _ (d e f).1,b _ (d e f).2.1,(d e f).2.2⟩,l⟩,λP m=>b P (g.self P m)⟩
def cj.len(P:cj w G a n c Rs):n=Rs.length:=by
 obtain⟨e,b,d,-⟩:=P.body;rw[d.len dC,Q8,b]
def cj.nil(w:World):cj w (λ_=>False) none 0 0 []:=⟨⟨[],rfl,(aM.nil w).mono (λP n=>n.elim) (λP n=>by cases n),sM,sM,sM⟩,λP n=>by cases n⟩
def cj.elem(m:cj w G a n c Rs){P:Nat}{o:dq}(u:Rs[P]? =some o):∃f e g,a=ZM f/\w.cell? ⟨f,0+P,none⟩=some (ZL e)/\lj w e g o/\e≠g/\G e/\G g/\G f/\
  ∀w' p,ak (·=g) w w'->lj w' e g p->cj w' G a n c (Rs.set P p):=by
 obtain⟨h,B,v,j,x,y⟩:=m.body;have L:=(Qv.1 u).1;have b:h[P]? =some h[P]:=Qq oM;generalize h[P]=d at b;obtain⟨cs,D,C,E,M⟩:=v.body;have q:=x d (QZ b);obtain⟨rfl,-⟩:=nR.1 E;have F:((h.map (·.1)).flatMap λe=>[Value.pointer (ZM e)])[P]? =some (ZL d.1):=by
  rw[km (K:=1) dC (λ_=>rfl) (by simp;omega),Nat.div_one,Nat.mod_one,getElem!_pos _ P (by simp;omega)];simp[(Qv.1 b).2]
 obtain⟨f,z,H⟩:=C.cell F;refine⟨f,d.1,d.2,z,by rw[Xz];exact H.2,y P d o b u,(j P P d d b b).1,q.1,q.2.1,m.self f (by rw[z];rfl),λw' p A I=>⟨⟨h,by simpa using B,v.af A λN J r=>q.2.2.2 (r▸J),j,x,λk s K i l=>?_⟩,m.self⟩⟩
 by_cases t:P=k
 ·subst t
  rw[b]at i;cases i
  rw[List.getElem?_set_self oM]at l;cases l
  exact I
 ·rw[List.getElem?_set_ne t]at l
  exact(y k s K i l).af A (j k P s d i b).1 λr=>t ((j P k d s b i).2 r.symm)
def cj.push(q:cj w G a n c Rs)(I:∀P,G P->P<w.heap.size){e f M:Nat}{N:dq}(J:lj w e f N)(Q:¬G e)(v:¬G f)(X:e≠f)(Y:jV h g 205 1 8)(Z:w.heap[M]? =some (.cells #[ZL e] 205 F))(b:Rs.length<=1000)(K:∀k y w' G',cj w' G' k (n+1) y (Rs++[N])->ak G w w'->(∀P,G' P->G P\/P=e\/P=f\/w.heap.size<=P)->(∀P,G' P->P<w'.heap.size)->p (.slice k (n+1) y) w'):
  aG h (Builtin.append_ #[g,g] r #[.slice a n c,.slice (ZM M) 1 1]) w p u:=by
 obtain⟨l,m,L,h3,z,h5⟩:=q.body;have a1:e<w.heap.size:=ax J.at';have a2:f<w.heap.size:=J.map.lt;refine eH L Y Z (D:=λ_=>False) (x:=e) ⟨rfl,trivial⟩ (λP b=>b.elim) (by unfold aK;simp;omega) (by unfold maxLen;simp;omega) λk y w' F' R A hF=>?_;have a0:∀P,aD k=some P->aD a=some P\/w.heap.size<=P:=λP b=>(hF P (R.self P b)).imp id λq=>q.resolve_left id;have s:=R.alone;have a5:=A.size;have S:∀P,aD k=some P->aD a=some P\/w.heap.size<=P:=a0;have C:∀P,P<w.heap.size->aD a≠some P->aD k≠some P:=λP b m L=>(S P L).elim m oM;have T:aD a≠some e:=λj=>Q (q.self e j);have U:aD a≠some f:=λj=>v (q.self f j);refine K k y w' (λP=>(G P\/P=e\/P=f\/aD k=some P)) ⟨⟨l++[(e,f)],by simp[m],by rw[Q3];exact s,λi V x t B H=>?_,λx B=>?_,λi x a3 B o=>?_⟩,λP b=>.inr (.inr (.inr b))⟩ (A.mono λP _ b=>q.self P b) (λP b=>?_) λP b=>?_
 ·have E:∀i x,(l++[(e,f)])[i]? =some x->(l[i]? =some x)\/(i=l.length/\x=(e,f)):=λi x B=>by
   rw[List.getElem?_append]at B;split at B
   ·exact .inl B
   ·rename_i W
    have:i-l.length=0:=by
     rcases Nat.eq_zero_or_pos (i-l.length)with O|O
     ·exact O
     ·rw[Q7 (by simp;omega)]at B;cases B
    rw[this]at B;simp at B;exact .inr ⟨oM,B.symm⟩
  rcases E i x B with B|⟨rfl,rfl⟩<;>rcases E V t H with H|⟨rfl,rfl⟩
  ·exact h3 i V x t B H
  ·have d:=z x (QZ B)
   exact⟨λj=>v ((show x.1=f from j)▸d.1),λj=>Zz ((show x.2=f from j)▸d.2.1) v⟩
  ·have d:=z t (QZ H)
   exact⟨λj=>Q ((show e=t.2 from j)▸d.2.1),λj=>Zz ((show f=t.2 from j)▸d.2.1) v⟩
  ·exact⟨X,λ_=>rfl⟩
 ·rcases Q6.1 B with B|B
  ·have d:=z x B
   exact⟨.inl d.1,.inl d.2.1,C _ (I _ d.1) d.2.2.1,C _ (I _ d.2.1) d.2.2.2⟩
  ·simp at B;subst B
   exact⟨.inr (.inl rfl),.inr (.inr (.inl rfl)),C _ a1 T,C _ a2 U⟩
 ·rw[List.getElem?_append]at B o
  rw[<-m]at o;split at B
  ·rename_i a4
   rw[Zx a4]at o;have d:=z x (QZ B);exact(h5 i x a3 B o).af A d.2.2.1 d.2.2.2
  ·rename_i W
   rw[Zq W]at o;have:i-l.length=0:=by
    rcases Nat.eq_zero_or_pos (i-l.length)with O|O
    ·exact O
    ·rw[Q7 (by simp;omega)]at B;cases B
   rw[this]at B o;simp at B o;subst B o;exact J.af A T U
 ·rcases b with b|b|b|b
  ·exact .inl b
  ·exact .inr (.inl b)
  ·exact .inr (.inr (.inl b))
  ·rcases S P b with m|m
   ·exact .inl (q.self P m)
   ·exact .inr (.inr (.inr m))
 ·rcases b with b|b|b|b
  ·have:=I P b;omega
  ·omega
  ·omega
  ·exact s.aC P b
def XN:jJ (List dq) where
 k:=2
 rep:=λw D Rs cs=>∃P a n c,cs=[.pointer P,.slice a n c]/\cj w D a n c Rs
 af:=λ⟨P,a,n,c,b,d⟩ g e=>⟨P,a,n,c,b,d.af g e⟩
 mono:=λ⟨P,a,n,c,b,d⟩ e=>⟨P,a,n,c,b,d.mono e⟩
 len:=λ⟨P,a,n,c,b,d⟩=>by rw[b];rfl
 one:=λ⟨P,a,n,c,b,d⟩ h f=>by
  rw[b]at f;simp only[Q2,List.not_mem_nil,or_false]at f;rcases f with rfl|rfl<;>rfl
def Vp:jV ZP 200 199 2 32:=⟨kR,kR,dC⟩
end
def Kf(n:aN)(P:List aj)(a:aj):dQ n (P++[a])=(dQ n P).add a:=by unfold dQ;rw[List.foldl_append];rfl
def Kh(n:aN)(P:List aj)(a:aj):cz n (P++[a])=((cz n P).add a).2:=by unfold cz;rw[List.foldl_append];rfl
def Kg(a:aN)(n:List aj):(dQ a n).view=cz a n:=by
 have:∀(n:List aj) (P:jU),(n.foldl jU.add P).view=n.foldl (λc b=>(c.add b).2) P.view:=by
  intro n
  induction n with
  |nil=>intro P;rfl
  |cons b n d=>intro P;rw[List.foldl_cons,List.foldl_cons,d];rfl
 exact this n _
variable{o:Array Value}{t:ZT}{e:Int}{L:List aj}{g6:List dq}{a c:Nat}{d:YQ}{b:World}{R:aN}{d6:aW}{e1:jr}
def HK(c:cU R=0)(P:List aj):(cz R P).OK/\(cz R P).decl=R:=by
 have:∀(P:List aj) (n:aW),n.OK->(P.foldl (λn a=>(n.add a).2) n).OK/\(P.foldl (λn a=>(n.add a).2) n).decl=n.decl:=by
  intro P
  induction P with
  |nil=>intro n b;exact⟨b,rfl⟩
  |cons a P d=>
   intro n b;obtain⟨e,f⟩:=aW.Av b a;obtain⟨g,h⟩:=d _ e;exact⟨g,h.trans f⟩
 exact this P _ (aW.tr c)
def dq.Vr(P:dq)(a:cC)(n:Int):(P.add a n).p=P.p:=by
 unfold dq.add;dsimp only;split
 ·rfl
 ·split<;>rfl
def HF(c:aN)(n:List aj):(dQ c n).rows.map (·.p)=c.projs:=by
 have:∀(n:List aj) (P:jU),(n.foldl jU.add P).rows.map (·.p)=P.rows.map (·.p):=by
  intro n
  induction n with
  |nil=>intro P;rfl
  |cons a n d=>
   intro P;rw[List.foldl_cons,d];show((P.rows.map λb=>b.add (P.view.add a).1 (sI ((P.view.add a).2.state a.aU a.agg) b.p)).map (·.p))=_;rw[List.map_map];exact List.map_congr_left λb _=>b.Vr _ _
 refine(this n _).trans ?_;show(c.projs.map λe=>(⟨e,[]⟩:dq)).map (·.p)=_;rw[List.map_map];exact List.map_id _
def pW(n:aN)(P:List aj):(dQ n P).rows.length=n.projs.length:=by
 rw[<-HF n P,Q8]
def j_(a:aN)(n:Nat)(P:List aj):List (List dq):=(List.range (P.length/n+1)).map λb=>(dQ a (P.take (b*n))).rows
section
variable {d:aN} {every:Nat} {l:List aj}
def As:(j_ d every l).length=l.length/every+1:=by simp[j_]
def Pn(n:a<=l.length/every):(j_ d every l)[a]? =some (dQ d (l.take (a*every))).rows:=by
 unfold j_;rw[Q9,List.getElem?_range oM];rfl
def Ps:j_ d every []=[(dQ d []).rows]:=by
 unfold j_;rw[ZQ,Nat.zero_div];simp
def Nj(c:0<every)(e:aj):j_ d every (l++[e])=if l.length+1=(l.length/every+1)*every then j_ d every l++[(dQ d (l++[e])).rows]else j_ d every l:=by
 have g:=Nat.div_add_mod l.length every;have h:=Nat.mod_lt l.length c;have P:∀n,n<=l.length/every->(l++[e]).take (n*every)=l.take (n*every):=λn a=>by
  have:n*every<=l.length:=Xx (Q0 _ a) (Nat.div_mul_le_self ..);rw[List.take_append_of_le_length this]
 split
 ·rename_i b
  have f:(l.length+1)/every=l.length/every+1:=by rw[b];exact Nat.mul_div_cancel _ c
  unfold j_;rw[QX,List.length_singleton,f,List.range_succ,Q3]
  congr 1
  ·refine List.map_congr_left λn a=>?_
   rw[P n (by have:=List.mem_range.1 a;omega)]
  ·rw[List.map_singleton,<-b,Qz sM]
 ·rename_i b
  have f:(l.length+1)/every=l.length/every:=by
   have i:(l.length+1)/every<l.length/every+1:=by
    rw[Nat.div_lt_iff_lt_mul c];rw[X7,Nat.one_mul,Nat.mul_comm]at b⊢;omega
   have j:l.length/every<=(l.length+1)/every:=Nat.div_le_div_right oM;omega
  unfold j_;rw[QX,List.length_singleton,f];refine List.map_congr_left λn a=>?_;rw[P n (by have:=List.mem_range.1 a;omega)]
def Nn(P:0<every)(b:a<=l.length/every):(j_ d every l).take (a+1)=j_ d every (l.take (a*every)):=by
 have c:a*every<=l.length:=Xx (Q0 _ b) (Nat.div_mul_le_self ..);unfold j_;rw[Qy,X2 c,Nat.mul_div_cancel _ P,<-List.map_take,List.take_range,X2 oM];refine List.map_congr_left λe f=>?_;have n:e<=a:=by have:=List.mem_range.1 f;omega
 rw[List.take_take,X2 (Q0 _ n)]
end
structure wx where
 ta:YQ
 tn:Nat
 tc:Nat
 pa:YQ
 pn:Nat
 pc:Nat
 every:Nat
 ea:YQ
 en:Nat
 ec:Nat
 vp:Nat
 ra:YQ
 rn:Nat
 rc:Nat
 qa:YQ
 qn:Nat
 qc:Nat
abbrev wx.cells(n:wx):Array Value:= #[.slice n.ta n.tn n.tc,.slice n.pa n.pn n.pc,ZH (n.every:Int),.slice n.ea n.en n.ec,ZL n.vp,.slice n.ra n.rn n.rc,.slice n.qa n.qn n.qc]
def Aq(b:Nat)(c:Array Value)(n:wx)(d:aN)(e:aW)(f:List dq)(g:List aj)(a:List (List dq)):Nat->World->(ZN)->Prop
 |0=>λP G=>G b/\P.heap[b]? =some (.cells c 202 (0,0))
 |1=>λP G=>bg P G d n.ta n.tn n.pa n.pn
 |2=>λP G=>aM jF 63 G P n.ea n.en n.ec g
 |3=>λP G=>cg P n.vp G e
 |4=>λP G=>cj P G n.ra n.rn n.rc f
 |5=>λP G=>aM XN 199 G P n.qa n.qn n.qc a
 |_=>λ_ _=>True
def dx{d:wx}{c:List (List dq)}:ku (Aq a o d R d6 g6 L c):=by
 intro k e w' G f n P b
 match k,n with
 |0,n=>exact⟨n.1,P.get n.2 (b a n.1)⟩
 |1,n=>exact bg.af n P b
 |2,n=>exact aM.af n P b
 |3,n=>exact cg.af n P b
 |4,n=>exact cj.af n P b
 |5,n=>exact aM.af n P b
 |k+6,n=>trivial
abbrev dN(b:World)(c:ZN)(n:Nat->Nat)(d:Nat)(a:wx)(e:aN)(f:aW)(g:List dq)(h:List aj)(P:List (List dq)):Prop:=aP b c n (Aq d a.cells a e f g h P)
section
variable {w w':World} {p:Nat} {F T D:ZN} {cls:Nat->Nat} {q:wx} {d:aN} {V:aW} {Rs:List dq} {l:List aj} {pts:List (List dq)}
def dN.ah(n:dN w F cls p q d V Rs l pts)(P:ai w w'):dN w' F cls p q d V Rs l pts:=aP.ah n dx P
def dN.bk(n:dN w F cls p q d V Rs l pts):w.heap[p]? =some (.cells q.cells 202 (0,0)):=(n.at' 0).2
def dN.self(n:dN w F cls p q d V Rs l pts):F p/\cls p=0:=(n.at' 0).1
def D_(s:dN w F cls p q d V Rs l pts)(hd:cU d=0)(hT:eP w)(hl:l.length<=20000000){vp:YQ}{y:YQ}(hr:cj w D y a c g6)(hD:∀n,D n->n<w.heap.size)(hn:g6.length<=8):
  YX 159 #[ZL p,.agg #[.pointer vp,.slice y a c]] w (Ok λT w'=>∃g y a c e G,T= .agg #[ZL g,.slice y a c]/\cg w' g e (cz d l)/\cj w' G y a c g6/\(∀n,e n->w.heap.size<=n)/\(∀n,G n->w.heap.size<=n/\n<w'.heap.size/\¬e n)/\ai w w'):=by
 have U:=s.aC;have g7:=hr.len;refine tk (PA.mk λt k5 s5 g5=>PA.mk λz k6 s6 a3=>?_);have A:=k5.then k6;have c1:∀{i:World},ai w i->Row jF 96 i (λn=>F n/\cls n=2) q.ea q.en l:=λ{i} u=>((show aM jF 63 (λn=>F n/\cls n=2) w q.ea q.en q.ec l from s.at' 2).ah u).row dC (by unfold aK;omega);have m:∀{i:World},ai w i->YX 79 #[.agg #[.slice q.ta q.tn q.tc,.slice q.pa q.pn q.pc],.slice q.ea q.en q.ec] i (Ok λT w'=>∃p F,T= ZL p/\cg w' p F (cz d l)/\(∀n,F n->i.heap.size<=n)/\ai i w'):=λ{i} u=>
  HB hd (hT.ah u) (show bg i (λn=>F n/\cls n=1) d q.ta q.tn q.pa q.pn from bg.af (s.at' 1) u λ_ _ s=>s) (λn P=>by have:=U n P.1;have:=u.size;omega) (c1 u) (λn P=>by have:=U n P.1;have:=u.size;omega) hl
 refine⟨λh oo w'=>oo=0/\∃g e,w'.heap[h]? =some (.cells #[ZL g,.slice none 0 0] 199 (0,0))/\cg w' g e (cz d l)/\(∀n,e n->z.heap.size<=n)/\¬e h/\z.heap.size<=h/\ai z w',?_,?_⟩
 ·intro o d9
  have v:ai z o:=d9.af;have s9:o.heap.size=z.heap.size:=by rw[d9.heap]
  have W:=(s.ah (A.then v)).bk;have zp:=U p s.self.1;have nS:¬o.heap.size<=p:=by have:=(A.then v).size;omega
  refine⟨λn=>o.heap.size<=n,p,0,rfl,nS,_,_,_,_,_,_,ae W rfl,ae W rfl,p,0,rfl,nS,_,_,_,ae W rfl,PC.ok (m (A.then v)) ?_,PA.mk λg8 X g9 d3=>⟨ai.af X,PC.ok (m ((A.then v).then X)) ?_⟩⟩
  ·rintro _ J ⟨g,e,rfl,r,B,Y⟩
   refine⟨_,rfl,ai.af Y,PA.mk λd4 Z h0 d5=>⟨ai.af Z,PS.mk d5 sM λh2 d6 h3 d7=>PS.mk d7 sM λd8 e0 h4 e1=>?_⟩⟩;have C:=r.aC;have h5:=Y.size;have f:ak (λn=>n=J.heap.size) d4 d8:=d6.then e0;refine⟨f.mono λn _ b=>by have b:n=J.heap.size:=b;omega,rfl,g,e,e1,(r.ah Z).af f λn P b=>by have b:n=J.heap.size:=b;have:=C n P;omega,λn P=>by have:=B n P;omega,λP=>by have:=C _ P;omega,oM,((v.then Y).then Z).new f λn P=>.inr (by have P:n=J.heap.size:=P;omega)⟩
  ·rintro _ e2 ⟨g,e,rfl,r,B,K⟩
   have e3:=K.get d3 id;have C:=r.aC;have h6:=K.size;refine⟨_,rfl,ai.af K,PS.mk e3 sM λh7 e4 h8 e5=>PS.mk e5 sM λe6 e7 h9 e8=>?_⟩;have f:ak (λn=>n=o.heap.size) e2 e6:=e4.then e7;refine⟨f.mono λn _ b=>by have b:n=o.heap.size:=b;omega,rfl,g,e,e8,r.af f λn P b=>by have b:n=o.heap.size:=b;have:=B n P;omega,λn P=>by have:=B n P;omega,λP=>by have:=B _ P;omega,oM,((v.then X).then K).new f λn P=>.inr (by have P:n=o.heap.size:=P;omega)⟩
 rintro h _ _ L ⟨rfl,g,e,E,r,c4,e9,g4,M⟩;have a5:=A.then M;have i0:=M.size;have a4:h<L.heap.size:=ax E;have C:=r.aC;have c5:=M.get (k6.get g5 id) id;have c6:=M.get a3 id;refine⟨_,_,_,ae c5 rfl,λa2 a7 w'=>∃j:Nat,a7=j/\j<=a/\a2=a-j/\∃N H O G,w'.heap[h]? =some (.cells #[ZL g,.slice N H O] 199 (0,0))/\cj w' G N H O (g6.take j)/\(∀n,G n->L.heap.size<=n/\n<w'.heap.size)/\ak (·=h) L w',
  ⟨_,0,rfl,Qj _,rfl,none,0,0,λ_=>False,E,cj.nil _,λn P=>P.elim,ak.refl _⟩,?_⟩
 rintro a2 _ _ I ⟨j,rfl,hj,rfl,N,H,O,G,Q,R,k,x⟩;have i1:=x.size;refine al.dec (λi2=>?_) (λi3=>?_)
 ·have f2:j<g6.length:=oM
  have hx:g6[j]? =some g6[j]:=Qq f2;generalize g6[j]=c2 at hx;obtain⟨a8,pj,rj,ha,a0,hR,a9,b0,b1,-,-⟩:=((hr.ah a5).af x λn P b=>by have b:n=h:=b;have:=hD n P;omega).elem hx;have f3:=R.len;rw[Qy,X2 oM]at f3;refine⟨a8,0,ha,oM,oM,_,by rw[Qx];exact a0,λc7 c8=>⟨λ_=>False,id,?_⟩⟩;have b2:ai I c7:=c8.af;have i4:c7.heap.size=I.heap.size:=by rw[c8.heap]
  refine⟨_,_,_,ae (b2.get Q id) rfl,PC.ok (Ni (hR.ah b2)) ?_⟩;rintro _ i5 ⟨p',r',rfl,f4,f5,i6,i7,i8,i9,b3⟩;have j0:=b3.size;refine⟨_,rfl,b3,PA.mk λj1 b4 j2 f8=>⟨b4,?_⟩⟩;have a1:=(b2.then b3).then b4;refine(R.ah a1).push (λn P=>by have:=(k n P).2;omega) (f4.ah b4) (λP=>by have:=(k _ P).2;omega) (λP=>by have:=(k _ P).2;omega) f5 Ph f8 (by rw[Qy];omega) λb6 c3 j3 G3 g0 b5 g1 c9=>⟨_,_,_,rfl,?_⟩
  have j4:=b5.size;have c0:=b5.get (a1.get Q id) λP=>by have:=(k _ P).1;omega
  have a6:∀n,G3 n->L.heap.size<=n:=λn P=>by
   rcases g1 n P with S|S|S|S
   ·exact(k n S).1
   ·omega
   ·omega
   ·omega
  refine PS.mk c0 sM λj5 d0 j6 g2=>⟨_,oM,j+1,aq oM,oM,rfl,b6,H+1,c3,G3,g2,?_,λn P=>⟨a6 n P,by have:=c9 n P;omega⟩,?_⟩
  ·rw[Qw,hx]
   exact g0.af d0 λn P b=>by have b:n=h:=b;have:=a6 n P;omega
  ·exact((x.ah a1).new b5 λn P=>.inr (k n P).1).then d0
 ·rw[Qz oM]at R
  have d1:=x.get c6 λb=>by have b:t.heap.size=h:=b;omega
  refine⟨_,_,_,_,ae Q rfl,ae Q rfl,PS.mk d1 sM λj7 b7 j8 g3=>PS.mk g3 sM λb8 b9 j9 d2=>⟨_,_,_,_,ae d2 rfl,ae d2 rfl,Ok.mk ⟨g,N,H,O,e,G,rfl,?_,?_,λn P=>by have:=c4 n P;omega,λn P=>⟨?_,?_,?_⟩,?_⟩⟩⟩
  ·have f:ak (λn=>n=t.heap.size) I b8:=b7.then b9
   exact(r.af x λn P b=>e9 ((show n=h from b)▸P)).af f λn P b=>by have b:n=t.heap.size:=b;have:=c4 n P;omega
  ·have f:ak (λn=>n=t.heap.size) I b8:=b7.then b9
   exact R.af f λn P b=>by have b:n=t.heap.size:=b;have:=k n P;omega
  ·have:=k n P;omega
  ·have:=k n P;omega
  ·intro hf;have:=k n P;have:=C n hf;omega
  ·have f:ak (λn=>n=t.heap.size) I b8:=b7.then b9
   exact(a5.new x λn P=>.inr (by have P:n=h:=P;omega)).new f λn P=>.inr (by have P:n=t.heap.size:=P;omega)
end
section
variable {w w':World} {p:Nat} {F T D:ZN} {cls:Nat->Nat} {q:wx} {d:aN} {V:aW} {Rs:List dq} {l:List aj} {pts:List (List dq)}
def CW{b:aj}{d:YQ}{w:World}{D:ZN}(h:Row aI 8 w D d a b.aQ)(s:∀n,D n->n<w.heap.size):
  YX 186 #[jT b d a c] w (Ok λt w'=>∃d a c G,t=jT b d a c/\Row aI 8 w' G d a b.aQ/\(∀n,G n->w.heap.size<=n/\n<w'.heap.size)/\ai w w'):=by
 have u:=h.ef;have v:=h.len;refine yT (PA.mk λz l A e=>PA.mk λB f C i=>⟨_,_,_,ae (f.get e id) rfl,PC.ok (bI (h.ah (l.then f)) λn P=>by have:=s n P;omega) ?_⟩);rintro _ E ⟨m,o,p,G,rfl,q,g,j⟩;have e:=g.get (f.get e id) id;have i:=g.get i id;refine⟨_,_,_,rfl,PS.mk e (by simp[aE]) λF k H x=>?_⟩;refine au (cs:=aE b m o p) (aX _ _ _ _) x (az (aX _ _ _ _) (k.get i oM) rfl λI r J y=>au (aX _ _ _ _) y (Ok.mk ⟨m,o,p,G,rfl,?_,?_,?_⟩))
 ·refine(((q.af k λn P=>?_).af r λn P=>?_).row (bytes:=8) dC (by rw[<-v];exact u))
  ·have:=j n P;omega
  ·have:=j n P;omega
 ·intro n P
  have:=j n P;have:=q.aC n P;omega
 ·have K:=g.size
  exact((ak.new ((l.then f).then g) k λn P=>.inr oM).new r λn P=>.inr oM)
def dN.store{P:wx}(n:aP w F cls (Aq p q.cells P d V Rs l pts))(b:ak (·=p) w w')(c:w'.heap[p]? =some (.cells o 202 (0,0))):aP w' F cls (Aq p o P d V Rs l pts):=by
 refine aP.same n dx (k:=0) (b.mono λh _ e=>e▸(n.at' 0).1) ⟨(n.at' 0).1,c⟩ λa G f g=>?_;rcases a with _|_|_|_|_|_|a<;>first|exact g|exact Zz rfl f
def Eb(P:dN w F cls p q d V Rs l pts)(I:cU d=0)(J:eP w)(K:l.length<=20000000)(L:Rs.length<=8)(b2:pts.length*q.every<9223372036854775808)(b3:pts.length<=20000001):
  YX 107 #[ZL p] w (Ok λM w'=>M= .tuple #[]/\∃t u e,dN w' u e p t d V Rs l (if l.length=pts.length*q.every then pts++[Rs]else pts)/\t.every=q.every/\bB F w u w'):=by
 have i:=P.bk;have N:=aM.len (P.at' 2) dC;have O:=aM.len (P.at' 5) dC;have Q:=P.aC;have R:ZG .i64 (((q.qn:Nat):Int)*(q.every:Int))=((pts.length*q.every:Nat):Int):=by
  rw[O,show((pts.length:Nat):Int)*(q.every:Int)=((pts.length*q.every:Nat):Int) by push_cast;rfl,wrap_i64 (by unfold aJ;omega)]
 refine tl ⟨p,0,rfl,_,_,_,ae i rfl,p,0,rfl,_,_,_,ae i rfl,p,0,rfl,_,ae i rfl,λS T=>?_⟩;rw[R,N];have j:ai w S:=T.af;refine al.cX (λb4=>?_) (λb5=>Ok.mk ⟨rfl,q,F,cls,?_,rfl,ai.af j,λn a=>.inl a⟩)
 rotate_left
 ·rw[Zq oM];exact dN.ah P j
 rw[Zx oM];intro v U;have h:ai w v:=j.then U.af;have c:=dN.ah P h;have k:=c.bk;refine⟨λ_=>False,p,0,rfl,id,_,_,_,ae k rfl,p,0,rfl,_,_,_,_,ae k rfl,ae k rfl,PC.ok (D_ c I (J.ah h) K (c.at' 4) (λn a=>c.aC n a.1) L) ?_⟩;rintro _ b6 ⟨b7,a3,n2,c2,Fv,G,rfl,-,W,-,m,o⟩;refine⟨_,_,_,_,rfl,o,PA.mk λb8 r b9 X=>⟨r,?_⟩⟩;have x:=o.then r;have Y:=dN.ah c x;have c1:=h.size;have c3:=o.size;have s:∀n,aD q.qa=some n->F n/\cls n=5:=λn a=>aM.self (P.at' 5) n a;refine eH (c:=XN) (x:=Rs) (Y.at' 5) Vp X (D:=G) ⟨_,_,_,_,rfl,W.ah r⟩ (λn a=>⟨by have:=(m n a).2.1;omega,λf=>by have:=Q n (s n f).1;have:=(m n a).1;omega⟩) (by unfold aK;omega) (by unfold maxLen;omega) λy b Z F2 z A b0=>⟨_,_,_,rfl,p,0,rfl,?_⟩
 have a0:¬aD q.qa=some p:=λf=>by have g:=(s p f).2;rw[P.self.2]at g;cases g
 have c4:=A.size;have a1:ak (λn=>F n/\cls n=5) v Z:=(ai.af x).then (A.mono λn _ a=>s n a);obtain⟨F3,a2,B,C,-,-⟩:=c.dT dx (k:=5) (G':=F2) (C2:=Aq p q.cells {q with qa:=y,qn:=q.qn+1,qc:=b} d V Rs l (pts++[Rs])) a1
  (λn a=>(b0 n a).imp id λP=>P.elim (λP=>(m n P).1) λP=>oM) z.aC z λE G hj hc=>by
   rcases E with _|_|_|_|_|_|E<;>first|exact hc|exact Zz rfl hj
 refine PS.mk (B.at' 0).2 sM λc5 H c6 b1=>Ok.mk ⟨rfl,{q with qa:=y,qn:=q.qn+1,qc:=b},F3,a2,dN.store B H b1,rfl,?_,λn a=>?_⟩
 ·refine((ai.af h).then C.af).then (H.mono λn _ f=>f▸P.self.1)
 ·rcases C.new n a with g|g
  ·exact .inl g
  ·exact .inr oM
end
section
variable {w w':World} {p:Nat} {F T D:ZN} {cls:Nat->Nat} {q:wx} {d:aN} {V:aW} {Rs:List dq} {l:List aj} {pts:List (List dq)}
def pT(V:aW)(n:aj)(Rs:List dq):List dq:=Rs.map λP=>P.add (V.add n).1 (sI ((V.add n).2.state n.aU n.agg) P.p)
def R_{d:aN}(b:cU d=0)(c:e1∈d.projs):0<=e1.FC:=by
 have P:=(mT b).2.2 e1 c;unfold lX at P;split at P
 ·cases P
 split at P
 ·cases P
 rename_i n
 by_cases a:e1.group=3
 ·rw[a]at n
  simp only[BEq.rfl,Bool.true_and,bne_self_eq_false,Bool.false_and,Bool.or_false,Bool.not_eq_true,Bool.not_eq_false']at n;unfold RW within at n;simp only[QK,Zk]at n;exact n.1.1
 ·have e:(e1.group==3)=false:=by simpa using a
  have f:(e1.group !=3)=true:=by simpa using a
  rw[e,f]at n;simp at n;omega
def Ec{V:aW}(P:V.OK)(n:aj):((V.state n.aU n.agg).getD Hz).cells.length<=8:=by
 have a:=P.len n;have b:=(Ar (mT P.decl).1).2.2.2;have g:(V.decl.at n.aU).length<=8:=by
  unfold aN.at;split
  ·rw[QQ]
   cases c:V.decl.types[n.aU.toNat]? with
   |none=>simp
   |some d=>exact(b d (QZ c)).2
  ·simp
 unfold aW.cellsOf at a;unfold aW.state
 cases e:aF V.eg (n.aU,n.agg)with
 |none=>simp
 |some f=>simp only[e]at a;show f.cells.length<=8;omega
def WD(w n:World)(p:Nat)(F:ZN)(q:wx)(d:aN)(V:aW)(Rs:List dq)(l:List aj)(pts:List (List dq))(c:aj)(P e:Nat)(w':World):Prop:=
 e=0/\∃f g h a i,w'.heap[P]? =some (.cells (ig (V.add c).1 f g h).toArray 133 (0,0))/\dN w' a i p q d (V.add c).2 Rs l pts/\(∀b,a b->F b\/n.heap.size<=b)/\ak F n w'/\n.heap.size<=P/\¬a P
def Pj(u:dN w F cls p q d V Rs l pts)(hd:cU d=0)(hT:eP b)(g0:ai b w)(g4:∀n,F n->b.heap.size<=n)(hl:l.length+1<=20000000)(k5:V.entries.length<=20000000)(g5:Rs.map (·.p)=d.projs)(k6:pts.length*q.every<9223372036854775808)(k7:pts.length<=20000001){e:aj}{I:YQ}(k8:((aF V.done (e.aU,e.agg,e.field)).getD []).length<=20000000)(hr:Row aI 8 w D I a e.aQ)(R:∀n,D n->n<w.heap.size/\¬F n)(he:e.Ok):
  YX 117 #[ZL p,jT e I a c] w (Ok λa5 w'=>a5= .tuple #[]/\∃q' S a0,dN w' S a0 p q' d (V.add e).2 (pT V e Rs) (l++[e]) (if l.length+1=pts.length*q.every then pts++[pT V e Rs]else pts)/\q'.every=q.every/\bB F w S w'):=by
 have T:=u.aC;have q8:=T p u.self.1;have q9:Rs.length=d.projs.length:=by rw[<-g5,Q8]
 have r0:d.projs.length<=8:=(Ar (mT hd).1).2.2.1;refine uw (PA.mk λe1 b8 r3 g6=>?_);have k9:=dN.ah u b8;refine⟨WD w e1 p F q d V Rs l pts e,?_,?_⟩
 ·intro r g7
  have a6:ai e1 r:=g7.af;have r4:r.heap.size=e1.heap.size:=by rw[g7.heap]
  have e2:=dN.ah k9 a6;have a7:=b8.then a6;have g8:=e2.bk;have a1:∀{o:World},ai r o->YX 124 #[ZL q.vp,jT e I a c] o (Ok λa5 w'=>∃I a c G,a5=FD (V.add e).1 I a c/\Row aI 8 w' G I a e.aQ/\∃S,cg w' q.vp S (V.add e).2/\bB (λn=>F n/\cls n=3) o S w'/\∀n,G n->o.heap.size<=n/\n<w'.heap.size/\¬S n):=λ{o} U=>
   HC (show cg o q.vp (λn=>F n/\cls n=3) V from(dN.ah e2 U).at' 3) (hT.ah (g0.then (a7.then U))) (hr.ah (a7.then U)) (λn P=>⟨by have:=(R n P).1;have:=(a7.then U).size;omega,λh=>(R n P).2 h.1⟩) he k8 k5
  have dT:∀{o w2:World} {s:ZN},ai r o->cg w2 q.vp s (V.add e).2->bB (λn=>F n/\cls n=3) o s w2->∃i k,dN w2 i k p q d (V.add e).2 Rs l pts/\(∀n,i n->F n\/s n)/\(∀n,i n->F n\/o.heap.size<=n)/\ak F o w2:=λ{o w2 s} U W v=>by
   obtain⟨i,k,X,J,m,-⟩:=(dN.ah e2 U).fK dx (k:=3) (G':=s) (C2:=Aq p q.cells q d (V.add e).2 Rs l pts) v W.aC W λf G Y hc=>by
    rcases f with _|_|_|_|_|_|f<;>first|exact hc|exact Zz rfl Y
   exact⟨i,k,X,λn P=>(m n P).imp (·.1) id,J.new,J.af⟩
  have nS:¬((F p/\cls p=3)\/r.heap.size<=p):=by
   rintro(⟨-,g⟩|g)
   ·rw[u.self.2]at g;cases g
   ·omega
  have b9:¬((F w.heap.size/\cls w.heap.size=3)\/r.heap.size<=w.heap.size):=by
   rintro(⟨g,-⟩|g)
   ·have:=T _ g;omega
   ·omega
  refine⟨λn=>(F n/\cls n=3)\/r.heap.size<=n,p,0,rfl,nS,_,ae g8 rfl,b9,au (aX e I a c) (a6.get g6 id) ⟨PC.ok (a1 (ak.refl _)) ?_,PA.mk λr5 c2 r6 l0=>⟨ai.af c2,PC.ok (a1 c2) ?_⟩⟩⟩
  ·rintro _ e3 ⟨y,z,A,G1,rfl,-,s,W,v,-⟩
   obtain⟨i,k,X,g9,m,kF⟩:=dT (ak.refl _) W v;have r7:=v.af.size;have h0:=X.aC;refine bT (Pk _ y z A) ⟨rfl,v.af.mono λn _ P=>.inl P,PA.mk λr8 e4 r9 l3=>⟨ai.af e4,az (lI _ y z A) l3 rfl λs1 e5 s2 l4=>⟨e5.mono λn _ e=>.inr (by have e:n=e3.heap.size:=e;omega),rfl,y,z,A,i,k,l4,?_,λn P=>?_,?_,oM,λh=>by have:=h0 _ h;omega⟩⟩⟩
   ·exact aP.af (dN.ah X e4) dx e5 λn P e=>by have e:n=e3.heap.size:=e;have:=h0 n P;omega
   ·rcases m n P with g|g
    ·exact .inl g
    ·exact .inr oM
   ·exact(((ai.af a6).then kF).ah e4).new e5 λn P=>.inr (by have P:n=e3.heap.size:=P;omega)
  ·rintro _ s3 ⟨y,z,A,G1,rfl,-,s,W,v,-⟩
   obtain⟨i,k,X,g9,m,kF⟩:=dT c2 W v;have s4:=v.af.size;have nf:¬i r.heap.size:=λh=>by
    rcases m _ h with g|g
    ·have:=T _ g;omega
    ·omega
   have l5:=kF.get l0 λh=>by have:=T _ h;omega
   refine bT (Pk _ y z A) ⟨rfl,v.af.mono λn _ P=>.inl P,az (lI _ y z A) l5 rfl λs5 e6 s6 l6=>⟨e6.mono λn _ e=>.inr (by have e:n=r.heap.size:=e;omega),rfl,y,z,A,i,k,l6,?_,λn P=>?_,?_,oM,nf⟩⟩
   ·exact aP.af X dx e6 λn P e=>by have e:n=r.heap.size:=e;exact nf (e▸P)
   ·rcases m n P with g|g
    ·exact .inl g
    ·exact .inr oM
   ·exact(((ai.af a6).then (ai.af c2)).then kF).new e6 λn P=>.inr (by have P:n=r.heap.size:=P;omega)
 rintro xb _ _ K ⟨rfl,xa,xn,xc,i,k,gx,Z,m,c3,s7,l7⟩;have h2:=c3.get g6 λh=>by have:=T _ h;omega
 have h3:=(hr.ah b8).af c3 λn P=>(R n P).2;have a8:=Z.aC;have s8:=c3.size;have xw:=ax gx;have a9:ak F w K:=(ai.af b8).then c3;have p8:ai b K:=g0.new a9 λn P=>.inr (g4 n P);obtain⟨j,hS⟩:∃j,j=(V.add e).2.state e.aU e.agg:=⟨_,rfl⟩
 have s9:(j.getD Hz).cells.length<=8:=by rw[hS];exact Ec (show(V.add e).2.OK from(show cg K q.vp (λn=>i n/\k n=3) (V.add e).2 from Z.at' 3).1) e
 refine⟨λsb so w'=>so=0/\∃sa sn sc G2,w'.heap[sb]? =some (.cells #[ZH (j.getD Hz).version,.slice sa sn sc] 49 (0,0))/\Row eG 32 w' G2 sa sn (j.getD Hz).cells/\(∀n,G2 n->K.heap.size<=n/\n<w'.heap.size)/\K.heap.size<=sb/\ai K w',?_,?_⟩
 ·intro B h4
  have c4:ai K B:=h4.af;have t0:B.heap.size=K.heap.size:=by rw[h4.heap]
  have e7:=dN.ah Z c4;have h5:=e7.bk;have d4:=c4.get h2 id;have nS:¬B.heap.size<=p:=by have:=a8 p Z.self.1;omega
  have b9:¬B.heap.size<=w.heap.size:=oM
  refine⟨λn=>B.heap.size<=n,p,0,rfl,nS,_,ae h5 rfl,b9,_,ae d4 rfl,b9,_,ae d4 rfl,PC.ok (nV (e7.at' 3)) ?_,PA.mk λt1 e8 t2 l8=>⟨ai.af e8,PC.ok (nV ((dN.ah e7 e8).at' 3)) ?_⟩⟩
  ·rintro _ c5 ⟨ca,cn,cc,G,rfl,N,L,e9⟩
   have t3:=e9.size;have c6:=N.aC;rw[<-hS]at N⊢;refine⟨_,_,_,_,_,rfl,ai.af e9,PA.mk λl9 f2 t4 m0=>⟨ai.af f2,PS.mk m0 sM λt5 m1 t6 m2=>PS.mk m2 sM λm3 m4 t7 m5=>?_⟩⟩;have O:ak (λn=>n=c5.heap.size) l9 m3:=m1.then m4;refine⟨O.mono λn _ e=>by have e:n=c5.heap.size:=e;omega,rfl,ca,cn,cc,G,m5,((N.ah f2).af O λn P e=>by have e:n=c5.heap.size:=e;have:=c6 n P;omega).row dC (by unfold aK;omega),λn P=>⟨by have:=L n P;omega,by have:=c6 n P;omega⟩,oM,((c4.then e9).then f2).new O λn P=>.inr (by have P:n=c5.heap.size:=P;omega)⟩
  ·rintro _ m6 ⟨ca,cn,cc,G,rfl,N,L,c7⟩
   have t8:=c7.size;have c6:=N.aC;have m7:=c7.get l8 id;rw[<-hS]at N⊢;refine⟨_,_,_,_,_,rfl,ai.af c7,PS.mk m7 sM λt9 m8 u0 m9=>PS.mk m9 sM λn0 n2 u1 n3=>?_⟩;have O:ak (λn=>n=B.heap.size) m6 n0:=m8.then n2;refine⟨O.mono λn _ e=>by have e:n=B.heap.size:=e;omega,rfl,ca,cn,cc,G,n3,(N.af O λn P e=>by have e:n=B.heap.size:=e;have:=L n P;omega).row dC (by unfold aK;omega),λn P=>⟨by have:=L n P;omega,by have:=c6 n P;omega⟩,oM,((c4.then e8).then c7).new O λn P=>.inr (by have P:n=B.heap.size:=P;omega)⟩
 rintro sb _ _ h6 ⟨rfl,sa,sn,sc,G2,gs,n4,n8,u2,Q⟩;have c8:=dN.ah Z Q;have h7:=c8.bk;have u3:=Q.size;have h8:bg h6 (λn=>i n/\k n=1) d q.ta q.tn q.pa q.pn:=c8.at' 1;have p9:=h8.FE.len;have q0:=c8.aC;have h9:=Q.get gx id;obtain⟨C,h⟩:∃C:dq->dq,C=λx=>x.add (V.add e).1 (sI ((V.add e).2.state e.aU e.agg) x.p):=⟨_,rfl⟩
 have g2:=ax gs;refine⟨p,0,rfl,_,_,_,ae h7 rfl,λd5 b0 w'=>∃f:Nat,b0=f/\f<=q.pn/\d5=q.pn-f/\dN w' i k p q d (V.add e).2 ((Rs.take f).map C++Rs.drop f) l pts/\ak i h6 w',⟨_,0,rfl,Qj _,rfl,by simpa using c8,ak.refl _⟩,?_⟩;rintro d5 _ _ E ⟨f,rfl,Y,rfl,t,H⟩;have u4:=H.size;have d6:=H.get gs λh=>by have:=a8 _ h;omega
 have g3:=n4.af H λn P h=>by have:=a8 _ h;have:=(n8 n P).1;omega
 have i0:=H.get h9 l7;have q1:=t.bk;refine al.dec (λu5=>?_) (λu6=>?_)
 ·have i1:f<d.projs.length:=oM
  have hx:d.projs[f]? =some d.projs[f]:=Qq i1;have i2:d.projs[f]∈d.projs:=XY i1;generalize d.projs[f]=x at hx i2;obtain⟨n,h1,es,b1,i9,j1,b2,rfl,d7⟩:=(show bg E (λn=>i n/\k n=1) d q.ta q.tn q.pa q.pn from t.at' 1).FE.el f x hx;have n9:=R_ hd i2;refine⟨n,h1,b1,oM,oM,bA (es:=nW x) (k:=5) (pU x) rfl (λb0 ht=>by rw[Qx];exact b2 b0 ht) (PA.mk λu7 i3 u9 o0=>az (pU x) o0 rfl λi4 i5 v0 i6=>⟨λj2 w'=>j2=sI j x/\aJ (sI j x)/\i4=w',?_,?_⟩)⟩
  ·have b3:ai E i4:=i3.new i5 λn P=>.inr (by have P:n=E.heap.size:=P;omega)
   have d8:=g3.ah b3;have v1:=d8.len;have a4:sI j x=(((j.getD Hz).cells[x.FC.toNat]?).map (·.n)).getD 0:=by
    cases j<;>rfl
   refine⟨_,ae i6 rfl,_,_,_,ae (b3.get d6 id) rfl,al.dec (λi7=>?_) (λi7=>⟨?_,?_,rfl⟩)⟩
   ·obtain⟨bi,f4⟩:∃bi:Nat,x.FC=bi:=⟨x.FC.toNat,oM⟩
    obtain⟨cb,co,v2,v3,v4,o1,v5,v6,o2,-,-,i8,-⟩:=mU d8 (i:=bi) oM;refine⟨_,_,_,ae (b3.get d6 id) rfl,_,ae i6 rfl,cb,co,o1,n9,i7,_,by rw[f4,Qx];exact o2,?_,?_,rfl⟩
    ·rw[a4,f4,Qx,QQ,Qq (show bi<(j.getD Hz).cells.length by omega)];rfl
    ·rw[a4,f4,Qx,Qq (show bi<(j.getD Hz).cells.length by omega)]
     rw[QQ,Qq (show bi<(j.getD Hz).cells.length by omega)]at i8;exact i8
   ·rw[a4,Q7 oM];rfl
   ·rw[a4,Q7 oM];exact HD
  ·rintro _ _ _ ⟨rfl,j4,rfl⟩ o3 o4
   have b4:ai E o3:=(i3.new i5 λn P=>.inr (by have P:n=E.heap.size:=P;omega)).then o4.af;have c9:=dN.ah t b4;have o5:((Rs.take f).map C++Rs.drop f)[f]? =Rs[f]? :=by
    rw[X8 (by simp;omega)];simp[Qy,X2 (show f<=Rs.length by omega)]
   have d0:Rs[f]? =some Rs[f]:=Qq oM;have d9:Rs[f].p=x:=by
    have:=Zj (·[f]?) g5;simp only[Q9,d0,hx,Option.map_some,Q1]at this;exact this
   generalize Rs[f]=b5 at d0 d9;obtain⟨rg,pj,rj,o6,o7,hR,j5,v7,j0,-,b6⟩:=cj.elem (c9.at' 4) (o5.trans d0);have o8:=cj.len (c9.at' 4);rw[QX,Q8,Qy,XZ]at o8;have j6:=c9.bk;refine⟨p,0,rfl,_,_,_,ae j6 rfl,rg,0,o6,oM,oM,_,by rw[Qx];exact o7,au (lI _ xa xn xc) (b4.get i0 id) (PC.ok (Pl hR j5 (x:=(V.add e).1) he j4) ?_)⟩;rintro _ o9 ⟨rfl,p0,f8⟩;have eh:((Rs.take f).map C++Rs.drop f).set f (b5.add (V.add e).1 (sI j x))=(Rs.take (f+1)).map C++Rs.drop (f+1):=by
    have j7:((Rs.take f).map C).length=f:=by simp;omega
    rw[Qw,d0,Q3,XQ,List.set_append,Zq oM,j7,Nat.sub_self,X4 (show f<Rs.length by omega)];have p1:C b5=b5.add (V.add e).1 (sI j x):=by rw[h,hS,<-d9]
    rw[<-p1];rfl
   have j3:=b6 o9 _ f8 p0;rw[eh]at j3;refine⟨rfl,_,oM,f+1,aq oM,oM,rfl,?_,H.then ((ai.af b4).then (f8.mono λn _ e=>?_))⟩
   ·refine aP.same c9 dx (k:=4) (f8.mono λn _ e=>by have e:n=rj:=e;rw[e];exact j0) j3 λf G Y hc=>by
     rcases f with _|_|_|_|_|_|f<;>first|exact hc|exact Zz rfl Y
   ·have e:n=rj:=e;rw[e];exact j0.1
 have j8:(Rs.take f).map C++Rs.drop f=pT V e Rs:=by
  rw[Qz oM,List.drop_eq_nil_of_le oM,List.append_nil,h];rfl
 rw[j8]at t;intro b7 e0;have a2:ai E b7:=e0.af;have q2:b7.heap.size=E.heap.size:=by rw[e0.heap]
 have k0:=dN.ah t a2;have k1:=k0.bk;have p2:¬i w.heap.size:=λh=>by
  rcases m _ h with g|g
  ·have:=T _ g;omega
  ·omega
 have k2:=a2.get (H.get (Q.get h2 id) p2) id;have nD:∀n,D n->¬i n:=λn P h=>by
  rcases m _ h with g|g
  ·exact(R n P).2 g
  ·have:=(R n P).1;omega
 have k3:=((h3.ah Q).af H nD).ah a2;have v8:=aM.len (t.at' 2) dC;have v9:ak F w b7:=((a9.ah Q).new H λn P=>(m n P).imp id oM).ah a2;refine⟨λ_=>False,p,0,rfl,id,_,_,_,ae k1 rfl,au (aX e I a c) k2 (PC.ok (CW k3 λn P=>by have:=(R n P).1;omega) ?_)⟩;rintro _ q3 ⟨y,z,A,G,rfl,p3,L,c0⟩;refine⟨_,_,_,_,_,_,_,_,_,_,_,_,rfl,c0,PA.mk λq4 c1 q5 k4=>⟨c1,?_⟩⟩;have f0:=(a2.then c0).then c1;have l1:=dN.ah t f0;have q6:=c0.size;have l2:=t.aC;have f1:∀n,aD q.ea=some n->i n/\k n=2:=λn P=>aM.self (t.at' 2) n P;refine eH (c:=jF) (x:=e) (l1.at' 2) Ke k4 (D:=G) ⟨y,z,A,rfl,p3.ah c1,he⟩ (λn P=>⟨by have:=(L n P).2;omega,λee=>by have:=l2 n (f1 n ee).1;have:=(L n P).1;omega⟩) (by unfold aK;omega) (by unfold maxLen;omega) λa' M q7 F2 f3 f5 p4=>⟨_,_,_,rfl,p,0,rfl,?_⟩
 have r1:=f5.size;obtain⟨s,a3,j9,f6,n1,-⟩:=t.dT dx (k:=2) (G':=F2) (C2:=Aq p q.cells {q with ea:=a',en:=q.en+1,ec:=M} d (V.add e).2 (pT V e Rs) (l++[e]) pts) ((ai.af f0).then (f5.mono λn _ P=>f1 n P))
  (λn P=>(p4 n P).imp id λu=>u.elim (λu=>by have:=(L n u).1;omega) λu=>oM) f3.aC f3 λf G Y hc=>by
   rcases f with _|_|_|_|_|_|f<;>first|exact hc|exact Zz rfl Y
 refine PS.mk (j9.at' 0).2 sM λd1 f7 r2 n5=>?_;have n6:dN d1 s a3 p {q with ea:=a',en:=q.en+1,ec:=M} d (V.add e).2 (pT V e Rs) (l++[e]) pts:=dN.store j9 f7 n5;have f9:∀n,s n->F n\/w.heap.size<=n:=λn P=>by
  rcases f6.new n P with g|g
  ·exact(m n g).imp id oM
  ·exact .inr oM
 have n7:ak i E d1:=f6.af.then (f7.mono λn _ ee=>by have ee:n=p:=ee;rw[ee];exact Z.self.1);have p5:ak F w E:=(a9.ah Q).new H λn P=>(m n P).imp id oM;have d2:ak F w d1:=p5.new n7 λn P=>(m n P).imp id oM;refine PC.ok (Eb n6 hd (hT.ah (g0.new d2 λn P=>.inr (g4 n P))) (by simp;omega) (by unfold pT;rw[Q8];omega) k6 k7) ?_;rintro _ s0 ⟨rfl,q',F4,p6,p7,d3,g1⟩;refine⟨rfl,Ok.mk ⟨rfl,q',F4,p6,?_,d3,d2.new g1.af f9,λn P=>?_⟩⟩
 ·simpa using p7
 ·rcases g1.new n P with g|g
  ·exact f9 n g
  ·have:=d2.size;exact .inr oM
end
def sC:fL:=⟨[],[],[],[],[(1,⟨[0,0,2,4,8,0,0,64,128,256,544,1040,4095,8191,12287],[32767,32767,32765,32763,32759,32767,32767,32703,32639,32511,32223,31727,32766,28671,22527],[0,0,0,0,1,0,0,0,0,1,0,0,0,0,2]⟩)]⟩
def rV(z:(dr d λA B=>(rI b (ad A (B+2)) λC=>PR_ (eq_ .quo 3 (.tmp 5) (.tmp 9) (.ii e) (.ii C)) b (kI_ λn D=>(∀P,aV D P->(dr d λE F=>(rS P (ad E (F+3)) λG a3 f=>(dr d λH I=>(rI P (ad H (I+2)) λc=>((0:Int)<=(ZG .i64 (n*c))/\((ZG .i64 (n*c)):Int)<=(f:Int)/\(dr d λJ K=>PS P (ad J (K+3)) (.slice G (Int.toNat (ZG .i64 (n*c))) f) λg=>(dr d λL M=>(rS g (ad L (M+6)) λN h i=>((0:Int)<=(ZG .i64 (n+1))/\((ZG .i64 (n+1)):Int)<=(h:Int)/\PR_ (Builtin.clear_ #[200] 0 #[.slice (cI N (Int.toNat (ZG .i64 (n+1))) i 2) (h-Int.toNat (ZG .i64 (n+1))) (i-Int.toNat (ZG .i64 (n+1)))]) g (λa4 j=>(dr d λO Q=>(rS j (ad O (Q+6)) λR a5 k=>((0:Int)<=(ZG .i64 (n+1))/\((ZG .i64 (n+1)):Int)<=(k:Int)/\(dr d λS T=>PS j (ad S (T+6)) (.slice R (Int.toNat (ZG .i64 (n+1))) k) λa=>(dr d λU V=>(rS a (ad U (V+6)) λW X a6=>(ix_ W n X λl m=>(∃o p q r,a.cell? (ad l (m+Int.toNat n*2))=some (.pointer o)/\a.cell? (ad l (m+Int.toNat n*2+1))=some (.slice p q r)/\PC_ 159 #[.pointer d,.agg #[.pointer o,.slice p q r]] a (λY Z=>∃s u v w,Y= .agg #[.pointer s,.slice u v w]/\(dr d λx y=>PS Z (ad x (y+4)) (.pointer s) λa1=>PS a1 (ad x (y+4+1)) (.slice u v w) λa2=>rt t ((.tuple #[])) a2)) (pE t)))))))))) (pV t)))))))))))) (pV t)))):YX 116 #[.pointer d,.ii e] b t:=DC sC Tryz.func116 rfl z
def rm(P:dy):∀n,(mP P n).Perm (P::n)
 |[]=>List.Perm.refl _
 |y::n=>by
  unfold mP;split
  ·exact List.Perm.refl _
  ·exact((rm P n).cons y).trans (List.Perm.swap P y n)
def xO(n:List dy):(n.foldr mP []).Perm n:=by
 induction n with
 |nil=>exact List.Perm.refl _
 |cons P n a=>exact(rm P _).trans (a.cons P)
def yH{b:dy}:∀{P:List dy},ux P->(∀y∈P,y.group≠b.group)->ux (mP b P)
 |[],_,_=>by simp[mP,ux]
 |y::P,d,e=>by
  unfold mP;have c:=List.pairwise_cons.1 d;have g:=e y (QV ..);split
  ·rename_i f
   refine List.pairwise_cons.2 ⟨λa n=>?_,d⟩;rcases Q2.1 n with rfl|n
   ·exact f
   ·have:=c.1 a n;omega
  ·rename_i h
   refine List.pairwise_cons.2 ⟨λa n=>?_,yH c.2 λa n=>e a (QJ _ n)⟩;rcases Q2.1 ((rm b P).mem_iff.1 n)with rfl|n
   ·omega
   ·exact c.1 a n
def EW:∀{n:List dy},(n.map (·.group)).Nodup->ux (n.foldr mP [])
 |[],_=>List.Pairwise.nil
 |x::n,P=>by
  rw[QY,List.nodup_cons]at P;refine yH (EW P.2) λa b c=>P.1 ?_;rw[<-c];exact Xk.2 ⟨a,(xO n).mem_iff.1 b,rfl⟩
def yI:∀{a P:List dy},(a.Pairwise λx b=>¬b.group<x.group)->ux P->a.Perm P->a=P
 |[],P,_,_,n=>by have:=n.length_eq;cases P;rfl;simp at this
 |x::a,[],_,_,n=>by have:=n.length_eq;simp at this
 |x::a,b::P,f,g,n=>by
  have d:=List.pairwise_cons.1 f;have e:=List.pairwise_cons.1 g;have i:x=b:=by
   rcases Q2.1 (n.mem_iff.1 (QV ..))with h|h
   ·exact h
   rcases Q2.1 (n.mem_iff.2 (QV ..))with c|c
   ·exact c.symm
   have:=e.1 x h;exact Zz this (d.1 b c)
  subst i;rw[yI d.2 e.2 n.cons_inv]
section
variable {w w':World} {p r:Nat} {R:dq}
def lj.UO(a:lj w p r R):((R.rows.map (·.2)).map (·.group)).Nodup:=by
 have P:=a.map.tidy;unfold Tidy at P;rw[List.map_map]at P⊢;have:R.rows.map ((·.group)∘(·.2))=R.rows.map ((·.1)∘λn=>(n.1,tg n.2)):=List.map_congr_left λn b=>(a.ok n b).2;rw[this];exact P
def lj.Vq(n:lj w p r R):ux R.list:=EW n.UO
def Np(f:lj w p r R)(P:R.rows.length<=20000000):YX 404 #[ZL p] w (Ok (oZ HA 135 w R.list)):=by
 refine xm ⟨p,0,rfl,_,ae f.at' rfl,mapRange Rm f.map λw6 N O s6=>?_⟩;refine⟨λz i j k w'=>∃(left:List (Int×dy)) (a:List dy) (h:ZN),z=left.length/\cD w' w.heap.size r (Value.int .i64) (R.rows.map λb=>(b.1,tg b.2)) (left.map λb=>(b.1,tg b.2))/\(∀b∈left,dy.Ok b.2)/\
  (a++left.map (·.2)).Perm (R.rows.map (·.2))/\aM HA 135 h w' i j k a/\(∀n,h n->w.heap.size<n)/\ai w w',⟨_,R.rows,[],λ_=>False,rfl,N,λb l=>(f.ok b l).1,List.Perm.refl _,aM.nil _,λn P=>P.elim,O⟩,?_⟩
 rintro z i j k _ A ⟨left,a,h,rfl,B,C,m,d,e,o⟩;have q:a.length+left.length=R.rows.length:=by have:=m.length_eq;simpa using this
 have b3:=d.len dC;refine nH B (λQ=>.inl ⟨rfl,?_⟩) (λa3 a4 l1 l2 s S T U V b4=>.inr ⟨_,_,rfl,qM U ?_⟩)
 ·have W:left=[]:=by simpa using Q
  subst W;refine PC.ok (Ow d (by simp at q;omega)) ?_;rintro _ b5 ⟨rfl,X,t,u,v,Y⟩;have Z:X=R.list:=yI u f.Vq ((t.trans (by simpa using m)).trans (xO _).symm);subst Z;exact⟨rfl,Ok.mk ⟨i,j,k,h,rfl,v,o.new Y λn P=>.inr (by have:=e n (d.self n P);omega),λn P=>by have:=e n P;omega⟩⟩
 ·obtain⟨E,a5,rfl,rfl,l⟩:=List.map_eq_append_iff.1 S
  obtain⟨b,F,rfl,H,rfl⟩:=List.map_eq_cons_iff.1 l;simp only[Prod.mk.injEq]at H;obtain⟨rfl,rfl⟩:=H;have a0:=C b sM;have b6:=o.size;have b2:w.heap.size<A.heap.size:=B.lt;refine⟨_,_,_,_,rfl,PA.mk λb7 I b8 a9=>az (Oc b.2) a9 rfl λb9 J c1 x=>⟨_,_,_,ae x rfl,ae x rfl,ae x rfl,PA.mk λwu L c2 b0=>?_⟩⟩;have y:ak (λn=>n=w.heap.size) A wu:=((V.ah I).new J λn P=>.inr (by have P:n=s.heap.size:=P;omega)).ah L;refine eH (c:=HA) (x:=b.2) (d.af y λn P c=>by have c:n=w.heap.size:=c;have:=e n P;omega) Wc b0 (D:=λ_=>False) ⟨rfl,a0⟩ (λn P=>P.elim) (by simp at q;unfold aK;omega) (by simp at q;unfold maxLen;omega) λa' c' c3 F2 a1 M b1=>⟨_,_,_,rfl,_,?_,E++F,a++[b.2],F2,rfl,?_,λa2 K=>C a2 (by simp at K⊢;rcases K with K|K;exact .inl K;exact .inr (.inr K)),?_,a1,λn P=>?_,?_⟩
  ·simp
  ·have g:cD wu w.heap.size r (Value.int .i64) (R.rows.map λb=>(b.1,tg b.2)) ((E++F).map λb=>(b.1,tg b.2)):=by
    rw[Q3];exact((T.ah I).af J (λc=>by have c:w.heap.size=s.heap.size:=c;omega) (λc=>by have c:r=s.heap.size:=c;have:=f.map.lt;omega)).ah L
   refine g.af M (λc=>by have:=e _ (d.self _ c);omega) (λc=>by have:=e _ (d.self _ c);have:=f.map.lt;omega)
  ·refine List.Perm.trans ?_ m
   simp only[Q3,QY,XQ];refine List.Perm.append_left a ?_;rw[List.singleton_append];exact List.perm_middle.symm
  ·rcases b1 n P with g|g|g
   ·exact e n g
   ·exact g.elim
   ·have:=y.size;omega
  ·exact(o.new y λn P=>.inr (by have P:n=w.heap.size:=P;omega)).new M λn P=>.inr (by have:=e n (d.self n P);omega)
end
end Go.Proofs.YtjgjkeponbeekaaGreatDoor
namespace Go.ar
open Go
variable{a c i:Nat}{f:ZN}{U Y:Operand}{d:YQ}{h:Program}{j:Type}{C g r:TypeId}{p u:ZR}{b:World}
def Au{bytes:Nat}{n:jJ j}(v:jV h g r n.k bytes)(B:Nk h r=true){w:List j}(k:aM n r f b d a c w)(S:i<=a)(l:∀e,aM n r f e d i c (w.take i)->ak (λP=>aD d=some P) b e->e.heap.size=b.heap.size->p (.tuple #[]) e):
  aG h (Builtin.clear_ #[g] C #[.slice (cI d i c n.k) (a-i) (c-i)]) b p u:=by
 rcases Nat.lt_or_ge i a with T|U
 rotate_left
 ·obtain rfl:i=a:=oM
  rw[Nat.sub_self];exact aG.mk (w':=b) (v:=.tuple #[]) (by cases cI d i c n.k<;>simp[Builtin.clear_,run_underlying v.under]) (l b (k.take (Q4 _)) (ak.refl _) rfl)
 obtain⟨cs,D,o,E,x⟩:=k.body;have F:=o.length;rcases o.cases with⟨_,V,_,_⟩|⟨y,H,rfl,I,J,z,K⟩
 ·omega
 have q:c<=maxLen:=by
  obtain⟨_,W,_,A,_,_,_,q,_⟩:=o.row.2.resolve_left (by rintro⟨k,_⟩;cases k);simp only[XX]at A;rw[A.2.2];exact q
 have L:i*n.k<=a*n.k:=Q0 _ oM;have X:a*n.k<=c*n.k:=Q0 _ J;rw[fM (show c≠i by omega),Xz];refine QN v B I (by rw[z,Nat.sub_mul];omega) λe m M N O Q R=>?_;have s:ak (λP=>aD (some (⟨y,0,none⟩:Addr))=some P) b e:=Q.mono λP _ r=>by rw[r];rfl
 refine l e ⟨⟨cs.take (i*n.k),D,⟨⟨by rw[Qy,F];omega,.inr ⟨y,c,m,rfl,Qj _,M,oM,q,by rw[N,z],?_⟩⟩⟩,(E.af s λP t=>(x P t).2).take i,x⟩,k.self,λP t=>Qk (k.aC P t) s.size⟩ s R;rw[O,<-K,List.take_take,X2 L]
def Sb(i:0<c)(j:a<9223372036854775808):(do eqGuard .quo g U Y (ZH (a:Int)) (ZH (c:Int));binOp .quo g (ZH (a:Int)) (ZH (c:Int)):Sem Value).run h b= .ok (ZH ((a/c:Nat):Int)) b:=by
 have d:c≠0:=oM
 have n:(a:Int).tdiv (c:Int)=((a/c:Nat):Int):=by rw[Int.tdiv_eq_ediv_of_nonneg oM];rfl
 have e:=Nat.div_le_self a c;generalize a/c=P at n e;have f:ZG .i64 (P:Int)=(P:Int):=wrap_i64 (by unfold aJ;omega);simp[eqGuard,binOp,Op.intDiv,d,n,f]
end Go.ar
namespace Go.Proofs.YtjgjkeponbeekaaGreatDoor
open Go.ar
def cV(d:World)(e:Nat)(f:ZN)(P:aN)(n:Nat)(a:List aj):Prop:=
 (cU P=0/\0<n/\n<9223372036854775808/\a.length<=20000000)/\∃c b,c.every=n/\dN d f b e c P (cz P a) (dQ P a).rows a (j_ P n a)
variable{L:List aj}{a c:Nat}{b:World}{q:aj}
def Sa{d:aN}(n:0<a)(P:a<9223372036854775808)(b:L.length<=20000000):(j_ d a L).length*a<9223372036854775808/\(j_ d a L).length<=20000001:=by
 rw[As];have c:=Nat.div_le_self L.length a;refine⟨?_,oM⟩;rcases Nat.lt_or_ge L.length a with h|h
 ·rw[Nat.div_eq_of_lt h];omega
 ·have:=Nat.div_mul_le_self L.length a
  rw[X7,Nat.one_mul];omega
section
variable {w w':World} {p:Nat} {F T D:ZN} {d:aN} {every:Nat} {l:List aj}
def cV.af(a:cV w p F d every l)(b:ak T w w')(c:∀P,F P->¬T P):cV w' p F d every l:=by
 obtain⟨e,f,n,g,h⟩:=a;exact⟨e,f,n,g,aP.af h dx b c⟩
def cV.ah(n:cV w p F d every l)(P:ai w w'):cV w' p F d every l:=n.af P λ_ _ n=>n
def cV.aC(P:cV w p F d every l):∀n,F n->n<w.heap.size:=by obtain⟨c,e,a,f,b⟩:=P;exact b.aC
def wy(d:aN)(l:List aj)(b:l.length<=20000000):(cz d l).entries.length<=20000000/\∀n,((aF (cz d l).done n).getD []).length<=20000000:=by
 have P:=λn=>FF d l (aW.new d) n;refine⟨?_,λn=>?_⟩
 ·have a:(cz d l).entries.length=0+l.length:=(P (0,0,0)).2
  omega
 ·have a:((aF (cz d l).done n).getD []).length<=0+l.length:=(P n).1
  omega
def HE(d:aN)(l:List aj)(n:aj):pT (cz d l) n (dQ d l).rows=(dQ d (l++[n])).rows:=by
 rw[Kf];unfold pT jU.add;rw[Kg]
def Pm(s:cV w p F d every l)(t:eP b)(u:ai b w)(v:∀n,F n->b.heap.size<=n)(i:l.length+1<=20000000){j:YQ}(x:Row aI 8 w D j a q.aQ)(y:∀n,D n->n<w.heap.size/\¬F n)(z:q.Ok):
  YX 117 #[ZL p,jT q j a c] w (Ok λk w'=>k= .tuple #[]/\∃e,cV w' p e d every (l++[q])/\bB F w e w'):=by
 obtain⟨⟨m,f,o,r⟩,L,A,rfl,B⟩:=s;obtain⟨C,E⟩:=wy d l r;obtain⟨H,I⟩:=Sa (d:=d) f o r;refine(Pj B m t u v i C (HF d l) H I (E _) x y z).mono ?_;rintro _ w' ⟨k,rfl,rfl,J,e,P,g,h,K⟩;refine Ok.mk ⟨rfl,e,⟨⟨m,f,o,by simpa using i⟩,J,P,h,?_⟩,K⟩;rw[Kh,Nj f,<-HE,<-As (d:=d)];exact g
def Ya:Nk ZP 199=true:=kR
def Nl(a0:cV w p F d every l)(hT:eP b)(g0:ai b w)(c5:∀P,F P->b.heap.size<=P)(hn:a<=l.length):
  YX 116 #[ZL p,ZH (a:Int)] w (Ok λa1 w'=>a1= .tuple #[]/\∃H,cV w' p H d every (l.take (a/every*every))/\bB F w H w'):=by
 obtain⟨⟨q,u,h3,h4⟩,n,h,rfl,g⟩:=a0;have c6:=g.bk;have e1:=g.aC;have c7:=aM.len (g.at' 5) dC;have I:=aM.len (g.at' 2) dC;rw[As]at c7;obtain⟨k,v⟩:∃k,k=a/n.every:=⟨_,rfl⟩
 have s:k<=l.length/n.every:=by rw[v];exact Nat.div_le_div_right hn
 have J:k*n.every<=l.length:=Xx (Q0 _ s) (Nat.div_mul_le_self ..);have e2:k<=l.length:=Xx s (Nat.div_le_self ..);rw[<-v];have x:ZG .i64 ((k:Int)*(n.every:Int))=((k*n.every:Nat):Int):=by
  rw[show((k:Int)*(n.every:Int))=((k*n.every:Nat):Int) by push_cast;rfl,wrap_i64 (by unfold aJ;omega)]
 have c8:ZG .i64 ((k:Int)+1)=((k+1:Nat):Int):=aq oM;have ec:=aM.jH (g.at' 2);have qc:=aM.jH (g.at' 5);refine rV ⟨p,0,rfl,_,ae c6 rfl,aG.mk (Sb u oM) ⟨_,rfl,λK c9=>?_⟩⟩;rw[<-v,c8];simp only[Qx];have L:ai w K:=c9.af;have y:=dN.ah g L;have z:=y.bk;have a2:aP K F h (Aq p n.cells {n with en:=k*n.every} d (cz d l) (dQ d l).rows (l.take (k*n.every)) (j_ d n.every l)):=y.same dx (k:=2) (ak.refl _) (aM.take (y.at' 2) (show k*n.every<=n.en from I▸J)) λi G j m=>by
  rcases i with _|_|_|_|_|_|i<;>first|exact m|exact Zz rfl j
 refine⟨p,0,rfl,_,_,_,ae z rfl,p,0,rfl,_,ae z rfl,by rw[x];exact Int.natCast_nonneg _,by rw[x];exact Int.ofNat_le.2 (Xx J (I▸ec)),p,0,rfl,?_⟩;rw[x,Qx];refine PS.mk z sM λd0 M e3 N=>?_;have O:dN d0 F h p {n with en:=k*n.every} d (cz d l) (dQ d l).rows (l.take (k*n.every)) (j_ d n.every l):=dN.store a2 M N;refine⟨p,0,rfl,_,_,_,ae N rfl,oM,by show _<=((n.qn:Nat):Int);omega,?_⟩;have e:∀P,aD n.qa=some P->F P/\h P=5:=λP c=>aM.self (g.at' 5) P c;have a3:¬aD n.qa=some p:=λf=>by have q:=(e p f).2;rw[g.self.2]at q;cases q
 refine Au Vp Ya (O.at' 5) (by show k+1<=n.qn;omega) λd1 a5 Q e4=>?_;have R:aP d1 F h (Aq p ({n with en:=k*n.every}:wx).cells {n with en:=k*n.every,qn:=k+1} d (cz d l) (dQ d l).rows (l.take (k*n.every)) ((j_ d n.every l).take (k+1))):=O.same dx (k:=5) (Q.mono λP _ c=>e P c) a5 λi G j m=>by
  rcases i with _|_|_|_|_|_|i<;>first|exact m|exact Zz rfl j
 have S:=(R.at' 0).2;refine⟨p,0,rfl,_,_,_,ae S rfl,oM,by show _<=((n.qc:Nat):Int);omega,p,0,rfl,PS.mk S sM λwu T e5 U=>?_⟩;have r:dN wu F h p {n with en:=k*n.every,qn:=k+1} d (cz d l) (dQ d l).rows (l.take (k*n.every)) ((j_ d n.every l).take (k+1)):=dN.store R T U;have A:ak F w wu:=(((ai.af L).then (M.mono λP _ f=>by have f:P=p:=f;rw[f];exact g.self.1)).then (Q.mono λP _ c=>(e P c).1)).then (T.mono λP _ f=>by have f:P=p:=f;rw[f];exact g.self.1);have d2:((j_ d n.every l).take (k+1))[k]? =some (dQ d (l.take (k*n.every))).rows:=by
  rw[Xw,Zx oM];exact Pn s
 obtain⟨pb,po,es,d3,e6,e7,V,e8,ra,rn,rc,rfl,d4⟩:=(aM.row (bytes:=32) (r.at' 5) dC (by rw[Qy];unfold aK;omega)).el k _ d2;have c0:=V 0 dC;have c1:=V 1 dC;refine⟨p,0,rfl,_,_,_,ae U rfl,pb,po,d3,oM,by show(k:Int)<((k+1:Nat):Int);omega,_,_,_,_,c0,c1,PC.ok (D_ r q (hT.ah (g0.new A λP c=>.inr (c5 P c))) (by rw[Qy];omega) d4 (λP c=>r.aC P c.1) (by rw[pW];exact(Ar (mT q).1).2.2.1)) ?_⟩;rintro _ W ⟨B,X,Y,Z,Fv,G,rfl,hv,b3,b4,t,b5⟩;have e9:=A.size;obtain⟨F1,e0,d5,f2,b6,-⟩:=r.Ed dx (k:=3) (w':=W) (G':=Fv) (C2:=Aq p ({n with en:=k*n.every,qn:=k+1}:wx).cells {n with en:=k*n.every,qn:=k+1,vp:=B} d (cz d (l.take (k*n.every))) (dQ d l).rows (l.take (k*n.every)) ((j_ d n.every l).take (k+1)))
  (ai.af b5) (λP c C=>by have:=b4 P c;have:=r.aC P C;omega) hv.aC hv λi G j m=>by
   rcases i with _|_|_|_|_|_|i<;>first|exact m|exact Zz rfl j
 obtain⟨F2,b7,b8,f3,d6,-⟩:=d5.Ed dx (k:=4) (w':=W) (G':=G) (C2:=Aq p ({n with en:=k*n.every,qn:=k+1}:wx).cells {n with en:=k*n.every,qn:=k+1,vp:=B,ra:=X,rn:=Y,rc:=Z} d (cz d (l.take (k*n.every))) (dQ d (l.take (k*n.every))).rows (l.take (k*n.every)) ((j_ d n.every l).take (k+1)))
  (ak.refl _) (λP c C=>by
   rcases b6 P C with o|o
   ·have:=(t P c).1;have:=r.aC P o.1;omega
   ·exact Zz o (t P c).2.2) (λP c=>(t P c).2.1) b3 λi G j m=>by
   rcases i with _|_|_|_|_|_|i<;>first|exact m|exact Zz rfl j
 have b9:∀P,F2 P->F P\/w.heap.size<=P:=λP c=>by
  rcases d6 P c with o|o
  ·rcases b6 P o.1 with E|E
   ·exact .inl E.1
   ·exact .inr (by have:=b4 P E;omega)
  ·exact .inr (by have:=(t P o).1;omega)
 have d7:=(b8.at' 0).2;refine⟨_,_,_,_,rfl,p,0,rfl,PS.mk d7 sM λf4 c3 f5 d8=>PS.mk d8 sM λf8 c4 g1 d9=>Ok.mk ⟨rfl,F2,⟨⟨q,u,h3,by rw[Qy];omega⟩,{n with en:=k*n.every,qn:=k+1,vp:=B,ra:=X,rn:=Y,rc:=Z},b7,rfl,?_⟩,?_,b9⟩⟩
 ·rw[<-Nn u s]
  exact dN.store b8 (c3.then c4) d9
 ·exact(A.ah b5).then ((c3.then c4).mono λP _ f=>by have f:P=p:=f;rw[f];exact g.self.1)

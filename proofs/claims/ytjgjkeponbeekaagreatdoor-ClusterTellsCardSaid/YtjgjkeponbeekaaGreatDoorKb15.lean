import Derived.Test.YtjgjkeponbeekaaGreatDoorKb14
set_option linter.all false
set_option maxRecDepth 100000
open Go.IntKind renaming wrap→GT
namespace Go.Proofs.YtjgjkeponbeekaaGreatDoor
open Go.ar
def Nl:fh cZ Int where
 k:=13
 ci:=aP
 ib:=8
 inner:=(·.ev.aN)
 hd:=λn P a b=>aI n.ev P a b++[.bool n.void,WP n.Gk.1,WP n.Gk.2]
 ok:=λn=>n.ev.Ok
 hl:=λ_ _ _ _=>rfl
 h1:=λn P a b d c=>by
  simp only[aI,List.cons_append,List.nil_append,Q2,List.not_mem_nil,or_false]at c;rcases c with rfl|rfl|rfl|rfl|rfl|rfl|rfl|rfl|rfl|rfl|rfl|rfl|rfl<;>rfl
 o:=3
 ho:=dC
 fN:=λ_ _ _ _ _ _ _=>rfl
abbrev AU:ks cZ:=Nl.OG
abbrev ly(n:cZ)(P:am)(a b:Nat):List Value:=aI n.ev P a b++[.bool n.void,WP n.Gk.1,WP n.Gk.2]
def Tz:kv PP 50 133 13 120:=⟨kR,kR,dC⟩
def mr(n:cZ)(P:am)(a b:Nat):iM PP 133 (ly n P a b)=true:=kR
def QS(n:cZ)(P:am)(a b:Nat):UJ (dz PP 133) (.agg (ly n P a b).toArray)=true:=kR
def TC:KK PP 305 3:=⟨kR,kR,⟨"typ", "no",kR,dC,dC⟩,kR,kR,kR⟩
def Vw:xd PP 350 305 3:=⟨TC,kR,⟨"agg", "field",kR,dC,dC⟩,kR,kR,kR⟩
def Xg:jm PP 305 pP:=TC.key
def kPl:jm PP 350 Du:=Vw.key
def tSt:mP PP 263 305 49 (.agg #[WP 0,.slice none 0 0]):=⟨kR,kR⟩
def tDn:mP PP 264 350 59 (.slice none 0 0):=⟨kR,kR⟩
inductive KG where
 |self|st|dn|QB|TD|YC
 |done (k:Int×Int×Int)
structure Gh where
 ta:am
 tn:Nat
 tc:Nat
 pa:am
 pn:Nat
 pc:Nat
 ea:am
 en:Nat
 ec:Nat
 r1:Nat
 r2:Nat
 l1:List ((Int×Int)×Value)
 l2:List ((Int×Int×Int)×Value)
 cls:Nat->KG
abbrev Gh.P(P:Gh)(a:RK)(b:KG):RK:=λn=>a n/\P.cls n=b
def YQ(b:World)(D:RK)(c:Value)(n:pA):Prop:=∃P a d,c= .agg #[WP n.version,.slice P a d]/\Row gC 32 b D P a n.cells
def YR(b:World)(D:RK)(c:Value)(d:List ah):Prop:=∃n P a,c= .slice n P a/\aU kY 63 D b n P a d
structure zD (w:World) (p:Nat) (F:RK) (V:bf) (q:Gh):Prop where
 at':w.heap[p]? =some (.cells #[.slice q.ta q.tn q.tc,.slice q.pa q.pn q.pc,.slice q.ea q.en q.ec,.map (some q.r1),.map (some q.r2)] 266 (0,0))
 TD:bu w (q.P F .TD) V.decl q.ta q.tn q.pa q.pn
 QB:aU AU 133 (q.P F .QB) w q.ea q.en q.ec V.entries
 st:bV w q.r1 pP q.l1
 YD:fH (YQ w (q.P F .YC)) q.l1 V.eR
 dn:bV w q.r2 Du q.l2
 YS:py (λk=>YR w (q.P F (.done k))) q.l2 V.done
 aF:∀b,F b->b<w.heap.size
 lp:F p/\q.cls p= .self
 l1:F q.r1/\q.cls q.r1= .st
 l2:F q.r2/\q.cls q.r2= .dn
def cJ(P:World)(a:Nat)(b:RK)(n:bf):Prop:=n.OK/\∃c,zD P a b n c
variable{e l:Int}{H:List ah}{d s:am}{x:Value}{S:aT}
section
variable {w w':World} {p:Nat} {F T D:RK} {V:bf} {q:Gh}
def YQ.keep{n:pA}(a:YQ w D x n)(b:aj T w w')(c:∀P,D P->¬T P):YQ w' D x n:=by
 obtain⟨d,e,f,g,h⟩:=a;exact⟨d,e,f,g,h.keep b c⟩
def YR.keep(P:YR w D x H)(a:aj T w w')(b:∀n,D n->¬T n):YR w' D x H:=by
 obtain⟨c,d,e,f,g⟩:=P;exact⟨c,d,e,f,g.keep a b⟩
def zD.keep(n:zD w p F V q)(b:aj T w w')(c:∀P,F P->¬T P):zD w' p F V q:=
 ⟨b.get n.at' (c _ n.lp.1),n.TD.keep b λP a=>c P a.1,n.QB.keep b λP a=>c P a.1,n.st.keep b (c _ n.l1.1),n.YD.mono λe f d=>d.keep b λP a=>c P a.1,
  n.dn.keep b (c _ n.l2.1),n.YS.mono λg e f d=>d.keep b λP a=>c P a.1,λP a=>Qk (n.aF P a) b.size,n.lp,n.l1,n.l2⟩
def zD.af(n:zD w p F V q)(P:ai w w'):zD w' p F V q:=n.keep P λ_ _ n=>n
def cJ.keep(n:cJ w p F V)(a:aj T w w')(b:∀P,F P->¬T P):cJ w' p F V:=⟨n.1,n.2.imp λq c=>c.keep a b⟩
def cJ.af(n:cJ w p F V)(P:ai w w'):cJ w' p F V:=n.keep P λ_ _ n=>n
def cJ.aF(P:cJ w p F V):∀n,F n->n<w.heap.size:=P.2.elim λq a=>a.aF
def cJ.self(n:cJ w p F V):F p:=n.2.elim λq P=>P.lp.1
def Ii{tn u l v:Nat}(x:dm S=0)(y:bu w D S d tn s l)(z:∀n,D n->n<w.heap.size):
  ba 105 #[.agg #[.slice d tn u,.slice s l v]] w (Ok λA w'=>∃p F,A= LL p/\cJ w' p F (bf.new S)/\(∀n,F n->w.heap.size<=n)/\ai w w'):=by
 refine LS (PA.mk λJ m K o=>⟨_,_,_,_,_,_,ae o rfl,ae o rfl,PC.ok (Ee (y.af m) λn P=>by have:=z n P;omega) ?_⟩);rintro _ c ⟨f,NG,g,h,i,j,G,rfl,B,C,q⟩;refine⟨_,_,_,_,_,_,rfl,PA.mk λa r L E=>PA.mk λb k M H=>PA.mk λt e N I=>Ok.mk ⟨b.heap.size,λn=>w.heap.size<=n/\n<t.heap.size,rfl,⟨bf.tU x,
  ⟨⟨f,NG,g,h,i,j,none,0,0,c.heap.size,a.heap.size,[],[],λn=>if n=b.heap.size then .self else if n=c.heap.size then .st else if n=a.heap.size then .dn else .TD⟩,?_⟩⟩,λn P=>P.1,((m.then q).then r).then (k.then e)⟩⟩
 have O:=q.size;refine⟨I,?_,?_,bV.new (e.get (k.get E id) id),trivial,bV.new (e.get H id),trivial,λn P=>P.2,⟨⟨by show w.heap.size<=b.heap.size;omega,by show b.heap.size<_;omega⟩,Zx rfl⟩,⟨⟨by show w.heap.size<=c.heap.size;omega,by show c.heap.size<_;omega⟩,?_⟩,⟨⟨by show w.heap.size<=a.heap.size;omega,by show a.heap.size<_;omega⟩,?_⟩⟩
 ·refine(((B.af r).af k).af e).mono λn P=>?_
  have:=C n P;refine⟨⟨oM,oM⟩,?_⟩;show(if n=b.heap.size then _ else _)=_;rw[Zq oM,Zq oM,Zq oM]
 ·exact(aU.nil t).mono (λn P=>P.elim) λn P=>P.1.2
 ·show(if c.heap.size=b.heap.size then _ else _)=_
  rw[Zq oM,Zx rfl]
 ·show(if a.heap.size=b.heap.size then KG.self else if a.heap.size=c.heap.size then KG.st else if a.heap.size=a.heap.size then KG.dn else KG.TD)=KG.dn
  rw[Zq oM,Zq oM,Zx rfl]
abbrev HY:pA:=⟨0,[]⟩
def oC(i:cJ w p F V):
  ba 127 #[LL p,WP e,WP l] w (Ok λr w'=>∃a b c G,r= .tuple #[.agg #[WP ((V.state e l).getD HY).version,.slice a b c],.bool (V.state e l).isSome]/\aU gC 78 G w' a b c ((V.state e l).getD HY).cells/\(∀n,G n->w.heap.size<=n)/\ai w w'):=by
 obtain⟨T,q,i⟩:=i;refine vD (PA.mk λs t U z=>?_);have h:=i.af t;refine⟨p,0,rfl,_,ae h.at' rfl,jE (enc:=pP) (k:=(e,l)) tSt Xg h.st ?_⟩;obtain⟨g,n,a,b,c,d,f,A,B,j⟩:∃(g:pA) (n:Bool) (a:am) (b c:Nat),(an q.l1 (e,l)).getD (.agg #[WP 0,.slice none 0 0])= .agg #[WP g.version,.slice a b c]/\(an q.l1 (e,l)).isSome=n/\(V.state e l).getD HY=g/\(V.state e l).isSome=n/\Row gC 32 s (q.P F .YC) a b g.cells:=by
  unfold bf.state;rcases h.YD.an (e,l)with⟨d,f⟩|⟨r,g,d,f,a,b,c,rfl,j⟩
  ·exact⟨HY,false,none,0,0,by rw[d];rfl,by rw[d];rfl,by rw[f];rfl,by rw[f];rfl,Row.nil _ _⟩
  ·exact⟨g,true,a,b,c,by rw[d];rfl,by rw[d];rfl,by rw[f];rfl,by rw[f];rfl,j⟩
 rw[d,f,A,B];refine⟨_,_,_,_,_,rfl,PA.mk λW C X E=>PS.mk E sM λY H Z I=>PS.mk I sM λJ K s7 u=>?_⟩;have k:ai s J:=(C.new H λn P=>.inr oM).new K λn P=>.inr oM;refine⟨_,_,_,_,ae u rfl,ae u rfl,PC.ok (Mo (j.af k) λn P=>by have:=h.aF n P.1;omega) ?_⟩;rintro _ w8 ⟨L,M,N,G,rfl,O,m,o⟩;have Q:=o.get (k.get z id) id;have z8:=o.size;refine⟨_,_,_,_,rfl,PS.mk Q sM λw9 v s9 R=>PS.mk R sM λa0 x a1 y=>⟨_,_,_,_,ae y rfl,ae y rfl,Ok.mk ⟨L,M,N,G,rfl,?_,?_,?_⟩⟩⟩
 ·exact(O.keep v λn P S=>by have:=m n P;omega).keep x λn P S=>by have:=m n P;omega
 ·intro n P;have:=m n P;omega
 ·exact(((t.then k).then o).new v λn P=>.inr oM).new x λn P=>.inr oM
end
def Aj:gE:=⟨[],[(5,[])],[],[],[(3,⟨[0,1,2,4,12,16,48,80,144,16,528,1296,2064,4112,8208,16400,32768,98304,163840,262144,786432,1310720,2392064,4227072],[16777215,16777214,16777213,16777211,16777207,16777199,16777167,16777135,16777071,16777199,16776687,16775919,16775151,16773103,16769007,16760831,16744447,16678911,16613375,16515071,15990783,15466495,14385151,12550143],[0,1,2,0,0,0,1,0,1,0,1,0,0,0,0,0,0,1,0,0,1,0,0,0]⟩)]⟩
variable{J:Bool}{t:UV}{d8:Int×Int}{d0:List bB}{a c i o:Nat}{f:RK}{d4:am}{g:TypeId}{b:World}{m:ah}{c9:bB}{e1:jU}
def Ak(x:PA b (.cells #[.slice d a c] 118) λP=>PA P (.cells #[.ii e,.ii l,.bool J,.slice s i o] 121) λm=>(rI m (ab_ P 0) λy=>PC_ 97 #[.ii y,.ii 1,.ii 4] m (kB λz p=>al (!z) (rt t ((.ii 2)) p) ((∃f:ac,((∀g,bw p g->(rI g (ab_ P (0+1)) λA=>PC_ 97 #[.ii A,.ii 1,.ii 3] g (kB λB n=>al (!B) (rt t ((.ii 1)) n) ((rI n (ab_ P 0) λh=>(∃q r,((some (ad 0 0)):am)=some ⟨q,r,none⟩/\(0:Int)<=h/\h<(5:Int)/\(rI n (ad q (r+Int.toNat h)) λC=>(rI n (ab_ P (0+1)) λD=>(∃u,(∀v,(eq_ .shr 3 (.tmp 19) (.tmp 21) (.ii C) (.ii D)).run PP v= .ok (.ii u) v)/\al (((BA .i64 u 1):Int)==0) (rt t ((.ii 1)) n) ((rB n (ab_ P (0+2)) λE=>al E ((rI n (ab_ P 0) λF=>al (F !=1) (rt t ((.ii 1)) n) (f n))) (f n)))))))))) (pZ t))))/\∀(Q:Nat->Value) (j:World),f j->(rS j (ab_ P (0+3)) λG H I=>PC_ 101 #[.slice G H I,.func (.func 98) #[] #[]] j (kB λK k=>al K (rt t ((.ii 1)) k) ((rS k (ab_ P (0+3)) λL M N=>PC_ 101 #[.slice L M N,.func (.func 99) #[] #[.pointer (some (ab_ b 0))]] k (kB λO w=>al O (rt t ((.ii 8)) w) (rt t ((.ii 0)) w)) (pE t)))) (pE t))))) (pE t))):ba 67 #[.agg #[.slice d a c],.agg #[.ii e,.ii l,.bool J,.slice s i o]] b t:=DC Aj Tryz.func67 rfl x
section
variable {w w':World} {D D' S:RK} {d:aT} {ta pa:am} {tn tc pn pc:Nat}
def yF{P a op arg:Int}(S:ft w)(j:bu w D d ta tn pa pn)(T:∀f,D f->f<w.heap.size):
  ba 201 #[.agg #[.slice ta tn tc,.slice pa pn pc],WP P,WP a,WP op,WP arg] w (Ok λe w'=>e= WP (lS d P a op arg)/\ai w w'):=by
 refine DV (PA.mk λw1 B s1 C=>⟨_,_,_,_,_,_,ae C rfl,ae C rfl,PC.ok (pC (j.af B) λf s=>by have:=T f s;omega) ?_⟩);rintro e w2 ⟨U,p⟩;have q:=B.then U
 cases k:d.Em P a with
 |none=>
  rw[k]at p;refine cz (Kg Ys none 0 0) ⟨_,p,PA.mk λV t W u=>aD (gQ _ _ _ _) u rfl λX v Y E=>al.tt rfl (Ok.mk ⟨?_,(q.then t).new v λf s=>.inr (by have:=q.size;omega)⟩)⟩;unfold lS;rw[k]
 |some g=>
  rw[k]at p;obtain⟨r,h,F,a5,rfl,Z,hF⟩:=p;have x:lS d P a op arg=if !within op 1 5||rJ op !=g.kind then 2 else if op==1&&arg==0||op==5&& !within arg 0 (g.bH.length-1)then 1 else 0:=by unfold lS;rw[k]
  have hz:=q.size;refine cz (Kg g r h F) ⟨_,rfl,PA.mk λV t W u=>aD (gQ g r h F) u rfl λX v Y E=>al.ff rfl λy H=>PC.ok cE ?_⟩;rintro _ _ ⟨rfl,rfl⟩;have I:=(bw.keep (S:=λ_=>False) H).get E id;have J:ai w y:=((q.then t).new v λf s=>.inr oM).then H.keep;have n:∀z:Int,lS d P a op arg=z->Ok (λe w'=>e= WP (lS d P a op arg)/\ai w w') (.returned (WP z)) y:=λz j=>Ok.mk ⟨by rw[j],J⟩;refine⟨_,rfl,al.not (al.mk (λc=>?_) (λc=>n 2 (by rw[x,c];rfl)))⟩;have a6:=bI.1 c;refine⟨1,0,rfl,oM,oM,rJ op,?_,_,ae I rfl,al.eK (λa0=>n 2 ?_) (λhe=>?_)⟩
  ·have:=(S.af J).kinds op.toNat oM
   rw[Xz,this,Int.toNat_of_nonneg oM]
  ·rw[x,c,Zx (by simpa using a0)]
  have l:lS d P a op arg=if op==1&&arg==0||op==5&& !within arg 0 (g.bH.length-1)then 1 else 0:=by rw[x,c,he];simp
  have hn:h=g.bH.length:=Z.len dC;have a7:h<=140737488355328:=by
   obtain⟨a1,NG,K,-⟩:∃(r:am) (h:Nat),Row jv 32 w D r h g.bH/\True:=by
    obtain⟨i,m,a8,a3,a9,A,h3,h4⟩:=aT.wZ k;have b0:=j.aZ.len;obtain⟨f,a2,T',es,rfl,_,_,o,L,b1,n1,c1,rfl,M⟩:=j.aZ.at (i:=P) i oM;rw[a3]at o;cases o
    have b2:=M.len;obtain⟨b3,b4,x',b5,rfl,_,_,N,b6,b7,n2,c2,rfl,hM,_⟩:=M.at (i:=a) A oM;rw[h4]at N;cases N
    exact⟨_,_,hM,trivial⟩
   have m:=K.len;have A:=K.fe;unfold aR at A;omega
  have bH:∀{O:List PanicEntry->ac},op=5->PC PP 97 #[WP arg,WP 0,WP (GT .i64 ((h:Int)-1))] y (λa4 Q=>∃R:Bool,a4= .bool R/\al (!R) (Ok (λe w'=>e= WP (lS d P a op arg)/\ai w w') (.returned (WP 1)) Q) (Ok (λe w'=>e= WP (lS d P a op arg)/\ai w w') (.returned (WP 0)) Q)) O:=by
   intro O b;refine PC.ok cE ?_;rintro _ _ ⟨rfl,rfl⟩;rw[wrap_i64 (by unfold aM;omega),hn];refine⟨_,rfl,al.not (al.mk (λc=>n 0 ?_) (λc=>n 1 ?_))⟩
   ·rw[l,c,b];rfl
   ·rw[l,c,b];rfl
  refine al.eH (λm=>al.eH (λi=>al.eH (λ_=>n 1 (by rw[l,m,i];rfl)) (λL=>Zz i L)) (λi=>al.eH (λb=>Zz b oM) (λb=>n 0 ?_))) (λm=>al.eH (λb=>⟨_,_,_,ae I rfl,bH b⟩) (λb=>n 0 ?_))
  ·rw[l,Zq (by simp[i,b])]
  ·rw[l,Zq (by simp[m,b])]
def FY{f:am}(P:Row sJ 48 w D f a d0):
  ba 100 #[.agg #[.slice f a c],WP e,WP l] w (Ok λi w'=>i= .bool (TK d0 e l)/\ai w w'):=by
 have g:=P.len;have j:=P.fe;unfold aR at j;refine I_ (PA.mk λp b q h=>⟨_,_,_,ae h rfl,PC.ok cE ?_⟩);rintro _ _ ⟨rfl,rfl⟩;rw[wrap_i64 (by unfold aM;omega)];refine⟨_,rfl,al.mk (λn=>?_) (λn=>Ok.mk ⟨?_,b⟩)⟩
 ·have r:=bI.1 n
  obtain⟨k,d,s,t,rfl,_,_,m,o,u,v,x,rfl,_⟩:=(P.af b).at (i:=e) oM oM;refine⟨_,_,_,ae h rfl,k,d,rfl,oM,oM,_,o 0 dC,Ok.mk ⟨?_,b⟩⟩;unfold TK;rw[<-g,n,m];rfl
 ·unfold TK;rw[<-g,n];rfl
def Vi(P:1<=e/\e<=4)(a:1<=l/\l<=3):∃n:Int,(∀w',(do eqGuard .shr 3 (.tmp 19) (.tmp 21) (WP (([0,2,14,6,6]:List Int).getD e.toNat 0)) (WP l);binOp .shr 3 (WP (([0,2,14,6,6]:List Int).getD e.toNat 0)) (WP l):Sem Value).run PP w'= .ok (WP n) w')/\((BA .i64 n 1==0)= !WO e l):=by
 refine⟨(([0,2,14,6,6]:List Int).getD e.toNat 0).fdiv (2 ^ l.toNat),?_,?_⟩<;>rcases(by omega:e=1\/e=2\/e=3\/e=4)with rfl|rfl|rfl|rfl<;>rcases(by omega:l=1\/l=2\/l=3)with rfl|rfl|rfl<;>first
  |(intro w';kernel_rfl)
  |decide
def Na(m:kU):Bool:=decide (m.bO<0)||decide (m.mQ<0)||m.lX== -1&&m.least !=0
def Vj{b:kU}:ba 98 (#[]++ #[.agg (oE b).toArray]++ #[]) w (Ok λe w'=>e= .bool (Na b)/\ai w w'):=by
 refine xD (PA.mk λf P g a=>⟨_,ae a rfl,al.dec (λn=>Ok.mk ⟨by simp[Na,n],P⟩) (λc=>⟨_,ae a rfl,al.dec (λn=>Ok.mk ⟨by simp[Na,n],P⟩) (λd=>⟨_,ae a rfl,al.eH (λn=>⟨_,ae a rfl,Ok.mk ⟨by simp[Na,c,d,n],P⟩⟩) (λn=>Ok.mk ⟨by simp[Na,c,d,n],P⟩)⟩)⟩)⟩)
def Ku(P:List bB)(n:kU):Bool:=n.lX != -1&& !TK P n.lX 1
def Vk{P:kU}{d:am}(f:Row sJ 48 w D d c d0)(h:w.heap[a]? =some (.cells #[.slice d c i] g (0,0))):
  ba 99 (#[]++ #[.agg (oE P).toArray]++ #[LL a]) w (Ok λj w'=>j= .bool (Ku d0 P)/\ai w w'):=by
 refine xE (PA.mk λl n m e=>⟨_,ae e rfl,al.eK (λb=>⟨_,_,_,ae (n.get h id) rfl,_,ae e rfl,PC.ok (FY (f.af n)) ?_⟩) (λb=>Ok.mk ⟨by simp[Ku,b],n⟩)⟩);rintro _ o ⟨rfl,k⟩;exact⟨_,rfl,Ok.mk ⟨by unfold Ku;rw[show(P.lX != -1)=true by simpa using b];simp,n.then k⟩⟩
def HP{x y:am}(F:ft w)(H:Row sJ 48 w D x a d0)(z:Row jv 32 w D y i c9.bH):
  ba 67 #[.agg #[.slice x a c],.agg (fp c9 y i o).toArray] w (Ok λm w'=>m= WP (fI d0 c9)/\ai w w'):=by
 refine Ak (PA.mk λU I V J=>PA.mk λp A W q=>⟨_,ae q rfl,PC.ok cE ?_⟩);rintro _ _ ⟨rfl,rfl⟩;have B:=I.then A;refine⟨_,rfl,al.not (al.mk (λe=>?_) (λe=>Ok.mk ⟨by unfold fI;rw[e];rfl,B⟩))⟩;have r:=bI.1 e;refine⟨λw'=>ai w w'/\p.heap.size<=w'.heap.size/\ai p w'/\within c9.eI 1 3=true/\WO c9.kind c9.eI=true/\(c9.floor&&c9.kind !=1)=false,λk C=>?_,?_⟩
 ·have b:=(bw.keep (S:=λ_=>False) C).get q id
  have d:ai p k:=C.keep;have n:ai w k:=B.then d;have f:fI d0 c9=1->Ok (λm w'=>m= WP (fI d0 c9)/\ai w w') (.returned (WP 1)) k:=λj=>Ok.mk ⟨by rw[j],n⟩;refine⟨_,ae b rfl,PC.ok cE ?_⟩;rintro _ _ ⟨rfl,rfl⟩;refine⟨_,rfl,al.not (al.mk (λP=>?_) (λP=>f (by unfold fI;rw[e,P];rfl)))⟩;have s:=bI.1 P;obtain⟨K,L,M⟩:=Vi r s;refine⟨_,ae b rfl,0,0,rfl,oM,oM,_,by rw[Xz];exact(F.af n).Yt c9.kind.toNat oM,_,ae b rfl,K,L,?_⟩;rw[M];refine al.not (al.mk (λg=>⟨_,ae b rfl,al.mk (λt=>⟨_,ae b rfl,al.eK (λN=>f ?_) (λO=>⟨n,d.size,d,P,g,by simp[O]⟩)⟩) (λt=>⟨n,d.size,d,P,g,by simp[t]⟩)⟩) (λg=>f (by unfold fI;rw[e,P,g];rfl)));unfold fI;rw[e,P,g,t];simp[N]
 ·rintro X k ⟨n,Y,d,P,g,Q⟩
  have b:=d.get q id;have u:fI d0 c9=if c9.bH.any Na then 1 else if c9.bH.any (Ku d0)then 8 else 0:=by
   unfold fI;rw[e,P,g,Q];rfl
  refine⟨_,_,_,ae b rfl,PC.ok (Kt (p:=Na) (z.af n) kR λR S h=>Vj) ?_⟩;rintro _ S ⟨rfl,h⟩;refine⟨_,rfl,al.mk (λj=>Ok.mk ⟨by rw[u,Zx j],n.then h⟩) (λj=>⟨_,_,_,ae (h.get b id) rfl,PC.ok (Kt (p:=Ku d0) (z.af (n.then h)) kR λR T l=>Vk (H.af ((n.then h).then l)) (l.get (h.get (d.get (A.get J id) id) id) id)) ?_⟩)⟩;rintro _ T ⟨rfl,l⟩;have E:=(n.then h).then l;exact⟨_,rfl,al.mk (λv=>Ok.mk ⟨by rw[u,j,v];rfl,E⟩) (λv=>Ok.mk ⟨by rw[u,j,v];rfl,E⟩)⟩
def W_{n a kind:Int}(b:(d.Em n a).isSome):∃P,d.types[n.toNat]? =some P/\d.at n=P/\0<=n/\n<d.types.length:=by
 obtain⟨i,c⟩:=Option.isSome_iff_exists.1 b;obtain⟨e,f,P,g,h,_⟩:=aT.wZ c;exact⟨P,g,h,e,f⟩
def HQ(r:bu w D d ta tn pa pn)(O:∀n,D n->n<w.heap.size):
  ba 68 #[.agg #[.slice ta tn tc,.slice pa pn pc],.agg (oD e1).toArray] w (Ok λC w'=>C= WP (mN d e1)/\ai w w'):=by
 refine BD (PA.mk λZ E s1 s=>PA.mk λw2 g s2 l=>⟨_,_,_,_,_,_,ae (g.get s id) rfl,ae (g.get s id) rfl,_,ae l rfl,_,ae l rfl,PC.ok (pC (r.af (E.then g)) λn b=>by have:=O n b;omega) ?_⟩);rintro C w3 ⟨h,m⟩;have t:=(E.then g).then h;have hz:=h.size
 cases i:d.Em e1.aZ e1.field with
 |none=>
  rw[i]at m;refine cz (Kg Ys none 0 0) ⟨_,m,PA.mk λQ c R u=>aD (gQ _ _ _ _) u rfl λo e S T=>al.tt rfl (Ok.mk ⟨?_,(t.then c).new e λn b=>.inr oM⟩)⟩;unfold mN;rw[i];rfl
 |some F=>
  rw[i]at m;obtain⟨H,I,J,a0,rfl,ho,hF⟩:=m;have K:(d.Em e1.aZ e1.field).isNone=false:=by rw[i];rfl
  refine cz (Kg F H I J) ⟨_,rfl,PA.mk λQ c R u=>aD (gQ F H I J) u rfl λo e S T=>al.ff rfl ⟨λn w'=>n=(e1.group==3&& !TK (d.at e1.aZ) e1.Gk 2||e1.group !=3&&e1.Gk !=0)/\ai o w',?_,?_⟩⟩
  ·have U:ai w o:=(t.then c).new e λn b=>.inr oM
   intro v V;have P:ai o v:=V.keep;have W:=P.get (e.get (c.get (h.get (g.get s id) id) id) oM) id;have a:=P.get (e.get (c.get (h.get l id) id) oM) id;refine⟨_,ae a rfl,al.eH (λf=>⟨_,_,_,ae W rfl,_,ae a rfl,?_⟩) (λf=>⟨_,ae a rfl,al.eK (λ_=>⟨_,ae a rfl,?_,P⟩) (λj=>Zz j f)⟩)⟩
   ·obtain⟨a1,X,L,M,h1⟩:=W_ (kind:=0) (by rw[i];rfl:(d.Em e1.aZ e1.field).isSome)
    have hl:=r.aZ.len;obtain⟨n,x,T',es,rfl,_,_,k,j,a2,n1,c1,rfl,Y⟩:=((r.af (U.then P)).aZ).at (i:=e1.aZ) M oM;rw[X]at k;cases k
    have N:=j 0 dC;simp only[nz,Nat.mul_one,Nat.add_zero]at N;refine⟨n,x,rfl,M,oM,_,_,_,N,_,ae a rfl,PC.ok (FY Y) ?_⟩;rintro _ w7 ⟨rfl,y⟩;refine⟨_,rfl,al.not (al.mk (λz=>⟨_,ae (y.get a id) rfl,al.eK (λj=>Zz f j) (λ_=>⟨?_,P.then y⟩)⟩) (λz=>⟨?_,P.then y⟩))⟩
    ·rw[L,z,f];rfl
    ·rw[L,z,f];rfl
   ·rw[show(e1.group==3)=false by simpa using f,show(e1.group !=3)=true by simpa using f];rfl
  ·rintro n a3 v ⟨rfl,P⟩
   have p:ai w v:=((t.then c).new e λn b=>.inr oM).then P;have a:=P.get (e.get (c.get (h.get l id) id) oM) id;refine al.mk (λb=>Ok.mk ⟨by unfold mN;rw[K,Zq sM,Zx b],p⟩) (λb=>⟨_,ae a rfl,PC.ok cE ?_⟩);have A:mN d e1=if !within e1.group 1 3|| !within e1.make 1 5 then 2 else 0:=by unfold mN;rw[K,Zq sM,b];rfl
   rintro _ _ ⟨rfl,rfl⟩;refine⟨_,rfl,al.not (al.mk (λq=>⟨_,ae a rfl,PC.ok cE ?_⟩) (λq=>Ok.mk ⟨by rw[A,q];rfl,p⟩))⟩;rintro _ _ ⟨rfl,rfl⟩;exact⟨_,rfl,al.not (al.mk (λB=>Ok.mk ⟨by rw[A,q,B];rfl,p⟩) (λB=>Ok.mk ⟨by rw[A,q,B];rfl,p⟩))⟩
end
def Vx(n:Int×Int×Int):iM PP 350 [WP n.1,WP n.2.1,WP n.2.2]=true:=kR
def KH{n b:Type}[BEq n][LawfulBEq n]{P:n}{e c:b}:∀a:List (n×b),aJ (aJ a P e) P c=aJ a P c
 |[]=>by simp[aJ]
 |(f,g)::a=>by
  by_cases d:P==f
  ·simp[d,aJ]
  ·simp[d,aJ,KH a]
section
variable {w w':World} {p:Nat} {F T D:RK} {V:bf} {q:Gh}
def HX(w:World)(p:Nat)(F D:RK)(V:bf)(n:ah)(b:Value)(w':World):Prop:=
 b= .tuple #[.bool (V.try n).1,.agg #[WP (V.try n).2.1.1,WP (V.try n).2.1.2]]/\∃a,cJ w' p a (V.try n).2.2/\aj F w w'/\∀P,a P->F P\/D P\/w.heap.size<=P
def TE(a:cJ w p F V)(n:ai w w')(P:V.try m=(J,d8,V)):Ok (HX w p F D V m) (.returned (.tuple #[.bool J,.agg #[WP d8.1,WP d8.2]])) w':=by
 refine Ok.mk ⟨by rw[P],F,?_,ai.keep n,λJ b=>.inl b⟩;rw[P];exact a.af n
def Gi(h:zD b p F V q)(n:Int×Int×Int):∃P a c d,(an q.l2 n).getD (.slice none 0 0)= .slice P a c/\(an V.done n).getD []=d/\(aU kY 63 (q.P F (.done n)) b P a c d):=by
 rcases h.YS.an n with⟨e,f⟩|⟨k,d,e,f,P,a,c,rfl,j⟩
 ·exact⟨none,0,0,[],by rw[e];rfl,by rw[f];rfl,(aU.nil b).mono (λi g=>g.elim) λi g=>h.aF i g.1⟩
 ·exact⟨P,a,c,d,by rw[e];rfl,by rw[f];rfl,j⟩
def TF(b:cJ w p F V)(hT:ft w)(hr:Row aP 8 w D d a m.aN)(C:∀n,D n->n<w.heap.size/\¬F n)(he:m.Ok)(P:((an V.done (m.aZ,m.agg,m.field)).getD []).length<=20000000):
  ba 199 #[LL p,kN m d a c] w (Ok (HX w p F D V m)):=by
 have j9:=b;obtain⟨hV,q,b⟩:=b;have f:=b.aF;have B9:=f _ b.lp.1;refine xU (PA.mk λE t7 C0 t8=>PA.mk λo3 o4 C1 t9=>λl0 o5=>?_);have l3:ai o3 l0:=o5.keep;have C2:l0.heap.size=o3.heap.size:=by rw[o5.heap]
 have k0:ai w l0:=(t7.then o4).then l3;have ge:=l3.get (o4.get t8 id) id;have gb:=l3.get t9 id;have O:=b.af k0;refine⟨p,0,rfl,_,_,_,_,_,_,ae O.at' rfl,ae O.at' rfl,_,ae ge rfl,_,ae ge rfl,_,ae ge rfl,_,ae ge rfl,PC.ok (yF (hT.af k0) O.TD λn P=>O.aF n P.1) ?_⟩;rintro _ Q ⟨rfl,R⟩;have k1:=k0.then R;have C3:=R.size;have c1:=R.get gb id;have c3:=R.get ge id;have j:∀{w1:World} {i:Int×Int} {n:Bool},ai Q w1->V.try m=(n,i,V)->∀w2,bw w1 w2->∀(x S:Int),x=i.1->S=i.2->PS w2 ⟨E.heap.size,0,none⟩ (WP x) λw3=>PS w3 ⟨E.heap.size,0+1,none⟩ (WP S) λw4=>∃(o6 o7:Int),w4.cell? ⟨E.heap.size,0,none⟩=some (WP o6)/\w4.cell? ⟨E.heap.size,0+1,none⟩=some (WP o7)/\Ok (HX w p F D V m) (.returned (.tuple #[.bool n,.agg #[WP o6,WP o7]])) w4:=λ{w1 i n} hk H w2 f9 x S hx k=>by
  have k2:ai w1 w2:=f9.keep;have kk:=(k1.then hk).then k2;have g2:=k2.get (hk.get c1 id) id;subst hx k;refine PS.mk g2 sM λw3 k3 s3 g3=>PS.mk g3 sM λw4 I s4 g4=>⟨_,_,ae g4 rfl,ae g4 rfl,TE j9 ((kk.new k3 λn P=>.inr oM).new I λn P=>.inr oM) H⟩
 refine⟨_,rfl,al.eK (λd6=>λu0 o8=>?_) (λg6=>?_)⟩
 ·have o9:=(o8.keep (S:=λ_=>False)).get c1 id
  exact⟨_,_,ae o9 rfl,ae o9 rfl,j (i:=(0,0)) (aj.refl _) (by rw[bf.sE,Zx d6]) u0 o8 _ _ rfl rfl⟩
 obtain⟨c4,t0,t1,C4⟩:=Oq hV.decl g6 (hV.len m);obtain⟨v,p0⟩:∃v:Nat,m.aZ=v:=⟨m.aZ.toNat,oM⟩
 have l4:=c4.f0;have l5:=c4.f1;obtain⟨fi,p1⟩:∃fi:Nat,m.field=fi:=⟨m.field.toNat,oM⟩
 have u1:V.decl.at m.aZ=V.decl.types.getD v []:=by
  unfold aT.at;rw[Zx (bI.2 ⟨t0,oM⟩),p0,Qx]
 obtain⟨tb,mQ,es,u2,u3,p2,u4,fa,fn,fc,rfl,y⟩:=(O.af R).TD.aZ.el v V.decl.types[v] sM;have y:Row sJ 48 Q (q.P F .TD) fa fn (V.decl.at m.aZ):=by
  rw[u1];have:V.decl.types.getD v []=V.decl.types[v]:=by simp[QQ,show v<V.decl.types.length by omega]
  rw[this];exact y
 have C5:=(O.af R).TD.aZ.len;have g7:=u4 0 dC;have u5:nz.k=1:=rfl;rw[u5,Nat.mul_one]at g7;have u6:=f tb p2.1;refine⟨λT u7 ab ao w'=>u7=0/\ao=0/\ai Q w'/\w'.heap[T]? =some (.cells #[.slice fa fn fc] 118 (0,0))/\w'.heap[ab]? =some (.cells #[WP m.aZ,WP m.agg,WP m.field] 350 (0,0))/\Q.heap.size<=T/\Q.heap.size<=ab,?_,?_⟩
 ·intro J p3
  have d7:ai Q J:=p3.keep;have C6:J.heap.size=Q.heap.size:=by rw[p3.heap]
  have p4:=(O.af R).af d7;have c5:=d7.get c3 id;refine⟨λn=>J.heap.size<=n,p,0,rfl,oM,_,_,_,ae p4.at' rfl,by show¬J.heap.size<=w.heap.size;omega,_,ae c5 rfl,tb,mQ,u2,t0,by omega,by show¬J.heap.size<=tb;omega,fa,fn,fc,?_,by show¬J.heap.size<=w.heap.size;omega,_,ae c5 rfl,by show¬J.heap.size<=w.heap.size;omega,_,ae c5 rfl,by show¬J.heap.size<=w.heap.size;omega,_,ae c5 rfl,?_,?_⟩
  ·rw[p0,Qx]
   exact(d7.cell (a:=⟨tb,mQ+v,none⟩) u3 id).trans g7
  ·refine PA.mk λu9 d8 v0 l6=>⟨ai.keep d8,PA.mk λv1 U v2 l7=>⟨ai.keep U,PS.mk (U.get l6 id) sM λv3 W v4 l8=>⟨W.mono λn _ m=>oM,aD (Vx (m.aZ,m.agg,m.field)) (W.get l7 oM) rfl λv5 X v6 l9=>⟨X.mono λn _ m=>oM,rfl,rfl,?_,X.get l8 oM,l9,oM,oM⟩⟩⟩⟩
   exact(((d7.then d8).then U).new W λn P=>.inr oM).new X λn P=>.inr oM
  ·refine PA.mk λu9 d8 v0 l6=>⟨ai.keep d8,PA.mk λv1 U v2 l7=>⟨ai.keep U,PS.mk l7 sM λv3 W v4 l8=>⟨W.mono λn _ m=>oM,aD (Vx (m.aZ,m.agg,m.field)) (W.get (U.get l6 id) oM) rfl λv5 X v6 l9=>⟨X.mono λn _ m=>oM,rfl,rfl,?_,X.get l8 oM,l9,oM,oM⟩⟩⟩⟩
   exact(((d7.then d8).then U).new W λn P=>.inr oM).new X λn P=>.inr oM
 rintro T _ ab _ _ p5 ⟨rfl,rfl,p6,p7,g8,y6,C7⟩;have k2:=k1.then p6;have d9:=b.af k2;obtain⟨da,dn,dc,h,v7,m0,p8⟩:=Gi d9 (m.aZ,m.agg,m.field);rw[m0]at P;refine⟨p,0,rfl,_,ae d9.at' rfl,au (cs:=[WP m.aZ,WP m.agg,WP m.field]) (Vx (m.aZ,m.agg,m.field)) g8 ⟨da,dn,dc,λb1=>?_,λp9 v8=>?_⟩⟩
 ·have:=eN tDn kPl (d9.dn.af (aj.drewN p5 b1)) (m.aZ,m.agg,m.field) false
  rw[v7]at this;exact this
 have f8:ai p5 p9:=v8.keep;have C8:=p8.len dC;have m1:=(p8.af f8).row (bytes:=96) dC (by unfold aR;omega);refine⟨λb1 a5 w'=>∃g:Nat,a5=g/\g<=dn/\b1=dn-g/\(∀x∈h.take g,ng ((V.decl.at m.aZ).getD m.field.toNat ⟨0,0,false,[]⟩) x m=false)/\ai p9 w',⟨_,0,rfl,Qj _,rfl,sM,aj.refl _⟩,?_⟩;rintro b1 _ _ m2 ⟨g,rfl,hj,rfl,g0,e0⟩;have k3:=(p6.then f8).then e0;have g9:=e0.get (f8.get p7 id) id;have q0:=e0.get (f8.get g8 id) id;have h0:=k3.get c3 id;have c7:∀{r:Bool×(Int×Int)×bf},(match h.find? λx=>ng ((V.decl.at m.aZ).getD m.field.toNat ⟨0,0,false,[]⟩) x m with
  |some x=>(true,bd x,V)
  |none=>if xm (V.decl.at m.aZ) (V.cellsOf m) m.field m.op m.arg≠0 then(true,(0,0),V)else
   (false,(0,0),{V with eR:=aJ V.eR (m.aZ,m.agg) ⟨pU (((an V.eR (m.aZ,m.agg)).getD ⟨0,[]⟩).version+1),TX (V.decl.at m.aZ) (V.cellsOf m) m.field m.op m.arg⟩,done:=aJ V.done (m.aZ,m.agg,m.field) (h++[m])}))=r->V.try m=r:=λ{r} hr=>by
  rw[bf.sE,Zq (by simpa using g6),m0];exact hr
 refine al.dec (λC9=>?_) (λD0=>?_)
 ·have g1:g<h.length:=oM
  obtain⟨db,b5,es,v9,D1,D2,q1,xa,xn,xc,rfl,q2,q3⟩:=(m1.af e0).el g h[g] (Qq g1);have g5:h[g]? =some h[g]:=Qq g1;generalize h[g]=x at q1 q2 q3 g5;refine⟨db,b5,v9,oM,oM,cu (es:=aI x xa xn xc) (k:=10) (bh x xa xn xc) rfl (λa5 H=>q1 a5 H) (PA.mk λD3 x0 D4 x1=>aD (bh x xa xn xc) x1 rfl λq4 x2 D5 x3=>λx4 x5=>?_)⟩;have m3:ai m2 q4:=x0.new x2 λn P=>.inr oM;have q5:ai q4 x4:=x5.keep;have I:=m3.then q5;have e1:=k3.then I;obtain⟨fb,fo,b6,b7,b8,x6,D6,D7,h1,h2,h3,h4,D8⟩:=GA (y.af e1) (i:=fi) (by rw[y.len];omega);have h6:=q5.get x3 id;refine⟨_,_,_,ae (I.get g9 id) rfl,_,ae (I.get h0 id) rfl,fb,fo,x6,l4,by rw[y.len];exact l5,?_⟩;rw[p1,Qx];refine cu (es:=fp ((V.decl.at m.aZ).getD fi ⟨0,0,false,[]⟩) b6 b7 b8) (k:=4) (gQ _ _ _ _) rfl (λa5 H=>?_) (au (bh x xa xn xc) h6 (au (bh m d a c) (I.get h0 id) (PC.ok (BX (q2.af I) ((hr.af k1).af e1)) ?_)))
  ·match a5,H with
   |0,_=>exact h1
   |1,_=>exact h2
   |2,_=>exact h3
   |3,_=>exact h4
  rintro _ D9 ⟨rfl,m4⟩;have x7:(V.decl.at m.aZ).getD fi ⟨0,0,false,[]⟩=(V.decl.at m.aZ).getD m.field.toNat ⟨0,0,false,[]⟩:=by rw[p1,Qx]
  rw[x7];refine⟨_,rfl,al.mk (λhv=>λx8 q6=>?_) (λhv=>⟨_,?_,g+1,aq oM,oM,rfl,λS k=>?_,(e0.then I).then m4⟩)⟩
  ·have q7:=(q6.keep (S:=λ_=>False)).get (m4.get h6 id) id
   refine⟨_,_,ae q7 rfl,ae q7 rfl,j (e1.then m4) (i:=bd x) (c7 ?_) x8 q6 _ _ rfl rfl⟩;have hf:h.find? (λx=>ng ((V.decl.at m.aZ).getD m.field.toNat ⟨0,0,false,[]⟩) x m)=some x:=by
    rw[List.find?_eq_some_iff_append];refine⟨hv,h.take g,h.drop (g+1),?_,λS k=>by rw[g0 S k];rfl⟩;rw[<-ZX g h]
    congr 1
    ·rw[ZX]
    ·rw[ZX,X4 g1]
     congr 1
     rw[Qq g1]at g5;exact XJ g5
   rw[hf]
  ·omega
  ·rw[Qw,g5]at k
   rcases Q6.1 k with k|k
   ·exact g0 S k
   ·simp at k;subst k;exact hv
 ·have E0:g=dn:=oM
  rw[Qz oM]at g0;have m5:h.find? (λx=>ng ((V.decl.at m.aZ).getD m.field.toNat ⟨0,0,false,[]⟩) x m)=none:=List.find?_eq_none.2 λx hx=>by rw[g0 x hx];simp
  rw[m5]at c7;intro Y h7;have c8:ai m2 Y:=h7.keep;have y7:Y.heap.size=m2.heap.size:=by rw[h7.heap]
  have k5:=k3.then c8;have e7:=k1.then k5;have z5:=k5.size;have z3:=k3.size;have b9:=b.af e7;have b2:=c8.get q0 id;have c0:=c8.get g9 id;have m6:=k5.get c3 id;have E1:=c8.size;have y8:=aA b2;have y9:=aA c0;obtain⟨s,n,l,o,z,e,Z,h5,k4,d4⟩:∃(s:pA) (n:Bool) (l:am) (o z:Nat),(an q.l1 (m.aZ,m.agg)).getD (.agg #[WP 0,.slice none 0 0])= .agg #[WP s.version,.slice l o z]/\(an q.l1 (m.aZ,m.agg)).isSome=n/\(an V.eR (m.aZ,m.agg)).getD HY=s/\(n=true->V.cellsOf m=s.cells)/\Row gC 32 Y (q.P F .YC) l o s.cells/\(n=false->V.cellsOf m=ef (V.decl.at m.aZ)):=by
   unfold bf.cellsOf;rcases b9.YD.an (m.aZ,m.agg)with⟨e,Z⟩|⟨e9,s,e,Z,l,o,z,rfl,hr⟩
   ·exact⟨HY,false,none,0,0,by rw[e];rfl,by rw[e];rfl,by rw[Z];rfl,λb=>(by cases b),Row.nil _ _,λ_=>by rw[Z]⟩
   ·exact⟨s,true,l,o,z,by rw[e];rfl,by rw[e];rfl,by rw[Z];rfl,λ_=>by rw[Z],hr,λb=>(by cases b)⟩
  obtain⟨d4,l1⟩:=d4;refine⟨λn=>n=Y.heap.size,p,0,rfl,oM,_,ae b9.at' rfl,oM,_,_,ae b2 rfl,ae b2 rfl,s.version,l,o,z,n,λw' hk=>?_,PA.mk λz0 h8 z2 q8=>⟨ai.keep h8,PS.mk q8 sM λz4 h9 z7 q9=>PS.mk q9 sM λr0 i0 z8 i1=>⟨h9.then i0,?_⟩⟩⟩
  ·have:=eN tSt Xg (b9.st.keep hk (by have:=f _ b.l1.1;omega)) (m.aZ,m.agg) true
   rw[e,Z]at this;exact this
  have k6:ai Y r0:=(h8.new h9 λn P=>.inr oM).new i0 λn P=>.inr oM;refine⟨λw'=>ai Y w'/\∃l o z Dc,w'.heap[Y.heap.size]? =some (.cells #[WP s.version,.slice l o z] 49 (0,0))/\Row gC 32 w' Dc l o (V.cellsOf m)/\∀n,Dc n->n<w'.heap.size,?_,?_⟩
  ·refine al.not (al.mk (λx9=>⟨k6,l,o,z,_,i1,by rw[k4 x9];exact d4.af k6,λn P=>by have:=f n P.1;have:=k6.size;have:=e7.size;omega⟩) (λy0=>⟨_,_,_,ae (k6.get c0 id) rfl,PC.ok (Ix (t:=V.decl.at m.aZ) rfl (y.len) (by rw[y.len];omega)) ?_⟩))
   rintro _ z9 ⟨l2,n6,m7,G6,rfl,r3,k7,y1⟩;have z6:=k6.size;refine⟨_,_,_,rfl,PS.mk (k7.get i1 id) sM λA0 i2 A1 r4=>⟨(k6.then k7).new i2 λn P=>.inr oM,l2,n6,m7,G6,r4,?_,λn P=>by have:=r3.aF n P;omega⟩⟩;rw[l1 y0];exact(r3.keep i2 λn P m=>by have:=y1 n P;omega).row dC (by unfold aR ef;simp;omega)
  rintro _ A2 ⟨a3,l,o,z,Dc,f0,d4,y2⟩;have A3:=a3.size;have f1:=k5.then a3;have f2:=a3.get c0 id;have m8:=a3.get b2 id;have c2:=a3.get m6 id;refine⟨_,_,_,ae f2 rfl,_,_,_,ae f0 rfl,_,ae c2 rfl,_,ae c2 rfl,_,ae c2 rfl,PC.ok (Iw c4 (y.af f1) d4) ?_⟩;rintro _ r5 ⟨rfl,a0⟩;have k8:=f1.then a0;refine⟨_,rfl,al.eK (λd6=>λr6 i3=>?_) (λy3=>λc9 r7=>?_)⟩
  ·have i4:=(i3.keep (S:=λ_=>False)).get (k8.get c1 id) id
   refine⟨_,_,ae i4 rfl,ae i4 rfl,j (i:=(0,0)) k8 (c7 ?_) r6 i3 _ _ rfl rfl⟩;simp only;rw[Zx d6]
  have f3:xm (V.decl.at m.aZ) (V.cellsOf m) m.field m.op m.arg=0:=y3;have a1:ai r5 c9:=r7.keep;have k9:=k8.then a1;have m9:=(a3.then a0).then a1;have c6:=k1.then k9;have n0:=b.af c6;have b3:=k9.get c3 id;have d2:=(a0.then a1).get m8 id;have n1:=(a0.then a1).get f2 id;have f4:=(a0.then a1).get f0 id;have E2:=f _ b.l1.1;have E3:=f _ b.l2.1;have A4:=m9.size;have y4:=c6.size;have e8:¬p=q.r1:=λm=>by have e:=b.lp.2;rw[m,b.l1.2]at e;cases e
  have i5:¬p=q.r2:=λm=>by have e:=b.lp.2;rw[m,b.l2.2]at e;cases e
  have i6:¬q.r1=q.r2:=λm=>by have e:=b.l1.2;rw[m,b.l2.2]at e;cases e
  refine⟨λn=>n=q.r1,p,0,rfl,e8,_,ae n0.at' rfl,oM,_,_,ae d2 rfl,ae d2 rfl,oM,_,ae f4 rfl,_,_,_,ae n1 rfl,_,_,_,ae f4 rfl,_,ae b3 rfl,_,ae b3 rfl,_,ae b3 rfl,PC.ok (TZ c4 f3 he.arg oM (y.af k9) (λn P=>by have:=f n P.1;omega) (d4.af (a0.then a1)) λn P=>by have:=y2 n P;have:=(a0.then a1).size;omega) ?_⟩;rintro _ a6 ⟨r8,r9,s0,G,rfl,i7,a4,hG⟩;have e2:=c6.then a4;have t:=b.af e2;have A5:=a4.size;refine⟨_,_,_,rfl,ai.keep a4,dB (enc:=pP) (k:=(m.aZ,m.agg)) tSt Xg t.st λi8 s1 i9 A6=>⟨i9,λd0 j0=>?_⟩⟩;have j1:ai i8 d0:=j0.keep;have A7:d0.heap.size=i8.heap.size:=by rw[j0.heap]
  have A:aj (·=q.r1) a6 d0:=i9.af j1;have key:∀n,F n/\q.cls n= .done (m.aZ,m.agg,m.field)->n≠p/\n≠q.r1/\n≠q.r2:=λn P=>
   ⟨λm=>(by have e:=b.lp.2;rw[<-m,P.2]at e;cases e),λm=>(by have e:=b.l1.2;rw[<-m,P.2]at e;cases e),λm=>(by have e:=b.l2.2;rw[<-m,P.2]at e;cases e)⟩
  have n3:=A.get t.at' e8;have n4:=A.get (a4.get d2 id) oM;have u:=A.get (a4.get b3 id) oM;have n5:=t.dn.keep A (λm=>i6 m.symm);have n8:=A.get (a4.get (k9.get c1 id) id) oM;obtain⟨a2,a7,e3,n7,s2,j2,j3⟩:=Gi t (m.aZ,m.agg,m.field);rw[m0]at j2;subst j2;have n9:=j3.keep A λn P m=>(key n P).2.1 m;have A8:=A.size;refine⟨λn=>n=q.r2\/(F n/\q.cls n= .done (m.aZ,m.agg,m.field)),p,0,rfl,λB=>B.elim i5 λB=>(key p B).1 rfl,_,ae n3 rfl,λB=>B.elim (λm=>oM) λB=>by have:=f _ B.1;omega,
   au (cs:=[WP m.aZ,WP m.agg,WP m.field]) (Vx (m.aZ,m.agg,m.field)) n4 ⟨_,_,_,_,_,_,_,_,_,_,_,_,ae u rfl,ae u rfl,ae u rfl,ae u rfl,ae u rfl,ae u rfl,ae u rfl,ae u rfl,ae u rfl,ae u rfl,
   PA.mk λA9 a8 B0 s5=>⟨ai.keep a8,HC (enc:=Du) (k:=(m.aZ,m.agg,m.field)) tDn kPl (n5.af a8) λB1 x s6 o0 a9 B2=>⟨a2,a7,e3,x,by rw[s2],a9.mono λn _ m=>.inl m,?_⟩⟩⟩⟩
  have o1:=(n9.af a8).keep a9 λn P m=>(key n P).2.2 m;have s7:=a9.get s5 oM;have b4:∀n,aG a2=some n->F n/\q.cls n= .done (m.aZ,m.agg,m.field):=λn P=>j3.self n P;have y5:=(((hr.af e2).keep A λn P m=>(C n P).2 (m▸b.l1.1)).af a8).keep a9 λn P m=>(C n P).2 (m▸b.l2.1);refine fJ (c:=kY) o1 KN s7 (D:=D) (x:=m) ⟨d,a,c,rfl,y5,he⟩ (λn P=>⟨by have:=(C n P).1;omega,λee=>(C n P).2 (b4 n ee).1⟩) (by unfold aR;omega) (by unfold maxLen;omega) λa' K s8 F2 f7 b0 o2=>⟨_,_,_,rfl,b0.mono λn _ P=>.inr (b4 n P),?_⟩
  have s9:¬aG a2=some q.r2:=λee=>(key _ (b4 _ ee)).2.2 rfl;refine CG kPl (s6.keep b0 s9) (o0.keep b0 s9) λj4 t2 f5 B3=>⟨f5.mono λn _ m=>.inl m,λd1 j5=>?_⟩
  have f6:ai j4 d1:=j5.keep;have B4:d1.heap.size=j4.heap.size:=by rw[j5.heap]
  have B5:=b0.size;have kb:aj (λn=>n=q.r2\/(F n/\q.cls n= .done (m.aZ,m.agg,m.field))) d0 d1:=((((ai.keep a8).then (a9.mono λn _ m=>.inl m)).then (b0.mono λn _ P=>.inr (b4 n P))).then (f5.mono λn _ m=>.inl m)).then (ai.keep f6);have e4:=kb.get n8 (λB=>B.elim (λm=>oM) λB=>by have:=f _ B.1;omega);refine⟨_,_,ae e4 rfl,ae e4 rfl,PS.mk e4 sM λB6 j6 B7 t3=>PS.mk t3 sM λd3 j7 B8 j8=>⟨_,_,ae j8 rfl,ae j8 rfl,?_⟩⟩;have L:aj (λn=>n=q.r1\/n=q.r2\/(F n/\q.cls n= .done (m.aZ,m.agg,m.field))\/n=E.heap.size) a6 d3:=
   ((A.mono λn _ m=>.inl m).then (kb.mono λn _ P=>P.elim (λm=>.inr (.inl m)) λP=>.inr (.inr (.inl P)))).then ((j6.mono λn _ m=>.inr (.inr (.inr m))).then (j7.mono λn _ m=>.inr (.inr (.inr m))))
  have kc:aj (·=E.heap.size) d1 d3:=j6.then j7;have zT:=L.size;have H:=c7 (r:=(false,(0,0),{V with eR:=aJ V.eR (m.aZ,m.agg) ⟨pU (((an V.eR (m.aZ,m.agg)).getD ⟨0,[]⟩).version+1),TX (V.decl.at m.aZ) (V.cellsOf m) m.field m.op m.arg⟩,done:=aJ V.done (m.aZ,m.agg,m.field) (h++[m])})) (by simp only;rw[Zq (by simpa using f3)]);have t4:=(bf.TG hV m).1;refine Ok.mk ⟨by rw[H],λn=>n<d3.heap.size/\(F n\/D n\/w.heap.size<=n),?_,?_,λn P=>P.2⟩
  rotate_left
  ·exact(ai.keep e2).trans L (λ_ _ b=>b) λn P hT=>by
    rcases hT with rfl|rfl|hT|rfl
    ·exact b.l1.1
    ·exact b.l2.1
    ·exact hT.1
    ·omega
  rw[H]at t4⊢;have t5:∀n,G n->c9.heap.size<=n/\n<a6.heap.size:=λn P=>⟨hG n P,i7.aF n P⟩
  have M:∀n,F n->n<d3.heap.size:=λn P=>by have:=f n P;omega
  classical
  have N:∀n,F n->(if F n then q.cls n else if c9.heap.size<=n/\n<a6.heap.size then KG.YC else KG.done (m.aZ,m.agg,m.field))=q.cls n:=λn P=>Zx P;refine⟨t4,⟨q.ta,q.tn,q.tc,q.pa,q.pn,q.pc,q.ea,q.en,q.ec,q.r1,q.r2,aJ q.l1 (m.aZ,m.agg) (.agg #[WP (pU (s.version+1)),.slice r8 r9 s0]),aJ q.l2 (m.aZ,m.agg,m.field) (.slice a' (a7+1) K),λn=>if F n then q.cls n else if c9.heap.size<=n/\n<a6.heap.size then KG.YC else KG.done (m.aZ,m.agg,m.field)⟩,?_,?_,?_,?_,?_,?_,?_,λn P=>P.1,⟨⟨M _ b.lp.1,.inl b.lp.1⟩,(N _ b.lp.1).trans b.lp.2⟩,⟨⟨M _ b.l1.1,.inl b.l1.1⟩,(N _ b.l1.1).trans b.l1.2⟩,⟨⟨M _ b.l2.1,.inl b.l2.1⟩,(N _ b.l2.1).trans b.l2.2⟩⟩
  ·exact L.get t.at' λB=>by
    rcases B with B|B|B|B
    ·exact e8 B
    ·exact i5 B
    ·exact(key _ B).1 rfl
    ·omega
  ·refine(t.TD.keep L λn P B=>?_).mono λn P=>⟨⟨M n P.1,.inl P.1⟩,(N n P.1).trans P.2⟩
   have d5:=f n P.1;rcases B with rfl|rfl|B|B
   ·have:=b.l1.2;rw[P.2]at this;cases this
   ·have:=b.l2.2;rw[P.2]at this;cases this
   ·have:=B.2;rw[P.2]at this;cases this
   ·omega
  ·refine(t.QB.keep L λn P B=>?_).mono (λn P=>⟨⟨M n P.1,.inl P.1⟩,(N n P.1).trans P.2⟩) λn P=>P.1.1
   have d5:=f n P.1;rcases B with rfl|rfl|B|B
   ·have:=b.l1.2;rw[P.2]at this;cases this
   ·have:=b.l2.2;rw[P.2]at this;cases this
   ·have:=B.2;rw[P.2]at this;cases this
   ·omega
  ·exact((s1.af j1).keep kb λB=>B.elim i6 λB=>(key _ B).2.1 rfl).keep kc oM
  ·refine fH.aJ ?_ ?_
   ·refine⟨r8,r9,s0,by rw[h5],?_⟩
    refine((i7.row (bytes:=32) dC ?_).keep L λn P B=>?_).mono λn P=>?_
    ·rw[Ot,hV.len];unfold aR;omega
    ·have d5:=t5 n P
     rcases B with rfl|rfl|B|B
     ·omega
     ·omega
     ·have:=f n B.1;omega
     ·omega
    ·have d5:=t5 n P
     refine⟨⟨oM,.inr (.inr oM)⟩,?_⟩;show(if F n then _ else _)=_;rw[Zq (λhf=>by have:=f n hf;omega),Zx d5]
   ·refine t.YD.mono λe9 r1 hu=>?_
    obtain⟨e5,n2,e6,rfl,hu⟩:=hu;refine⟨e5,n2,e6,rfl,(hu.keep L λn P B=>?_).mono λn P=>⟨⟨M n P.1,.inl P.1⟩,(N n P.1).trans P.2⟩⟩;have d5:=f n P.1;rcases B with rfl|rfl|B|B
    ·have:=b.l1.2;rw[P.2]at this;cases this
    ·have:=b.l2.2;rw[P.2]at this;cases this
    ·have:=B.2;rw[P.2]at this;cases this
    ·omega
  ·have:=(t2.af f6).keep kc (by show¬q.r2=E.heap.size;omega)
   rw[KH]at this;exact this
  ·refine py.aJ ?_ t.YS ?_ t.dn.tidy
   ·refine⟨a',_,K,rfl,?_⟩
    have t6:∀n,F2 n->n<s8.heap.size/\n≠E.heap.size:=λn P=>by
     refine⟨f7.aF n P,λm=>?_⟩;rcases o2 n P with e|e|e
     ·have:=f n e.1;omega
     ·have:=(C n e).1;omega
     ·omega
    refine((f7.keep f5 λn P m=>?_).af f6|>.keep kc λn P m=>(t6 n P).2 m).mono (λn P=>?_) λn P=>P.1.1
    ·rcases o2 n P with e|e|e
     ·exact(key n e).2.2 m
     ·exact(C n e).2 (m▸b.l2.1)
     ·omega
    ·have:=(t6 n P).1
     have hz:=kc.size;rcases o2 n P with e|e|e
     ·exact⟨⟨M n e.1,.inl e.1⟩,(N n e.1).trans e.2⟩
     ·refine⟨⟨oM,.inr (.inl e)⟩,?_⟩
      show(if F n then _ else _)=_;rw[Zq (C n e).2,Zq (by have:=(C n e).1;omega)]
     ·refine⟨⟨oM,.inr (.inr oM)⟩,?_⟩
      show(if F n then _ else _)=_;rw[Zq (λhf=>by have:=f n hf;omega),Zq oM]
   ·intro r2 e9 r1 d6 hu
    obtain⟨e5,n2,e6,rfl,hu⟩:=hu;refine⟨e5,n2,e6,rfl,(hu.keep L λn P B=>?_).mono (λn P=>⟨⟨M n P.1,.inl P.1⟩,(N n P.1).trans P.2⟩) λn P=>P.1.1⟩;have d5:=f n P.1;rcases B with rfl|rfl|B|B
    ·have:=b.l1.2;rw[P.2]at this;cases this
    ·have:=b.l2.2;rw[P.2]at this;cases this
    ·have:=B.2;rw[P.2]at this
     simp only[KG.done.injEq]at this;exact d6 this
    ·omega
end
section
variable {w w':World} {p:Nat} {F T D:RK} {V:bf} {q:Gh}
abbrev Gm(n:cZ)(P:am)(a b:Nat):Value:=.agg (ly n P a b).toArray
def H_(L:cJ w p F V)(hT:ft w)(hr:Row aP 8 w D d a m.aN)(o:∀n,D n->n<w.heap.size/\¬F n)(he:m.Ok)(P:((an V.done (m.aZ,m.agg,m.field)).getD []).length<=20000000)(M:V.entries.length<=20000000):
  ba 124 #[LL p,kN m d a c] w (Ok λW w'=>∃d a c G,W=Gm (V.add m).1 d a c/\Row aP 8 w' G d a m.aN/\∃X,cJ w' p X (V.add m).2/\cy F w X w'/\∀n,G n->w.heap.size<=n/\n<w'.heap.size/\¬X n):=by
 have Y:=L.aF;have h3:=Y _ L.self;refine zU (PA.mk λt e6 h4 d1=>PA.mk λh5 Z h6 e7=>?_);have k0:=e6.then Z;refine au (bh m d a c) (Z.get d1 id) (PC.ok (o_ (hr.af k0) λn P=>by have:=(o n P).1;omega) ?_);rintro _ h7 ⟨a6,n1,c1,G1,rfl,e8,u,N⟩;have a0:=k0.then N;refine cz (sI m a6 n1 c1) ⟨rfl,PC.ok (TF (L.af a0) (hT.af a0) e8 (λn P=>⟨(u n P).2,λi=>by have:=Y n i;have:=u n P;omega⟩) he P) ?_⟩;rintro _ v ⟨rfl,e,b8,O,Q⟩;have h8:=N.size;have h9:=O.size;have b0:∀n,e n->F n\/w.heap.size<=n:=λn P=>by
  rcases Q n P with b|b|b
  ·exact .inl b
  ·have:=u n b;exact .inr oM
  ·exact .inr oM
 have b1:aj F w v:=(ai.keep a0).then O;have R:∀{n:Nat},w.heap.size<=n->¬F n:=λ{n} P i=>by have:=Y n i;omega
 have d2:=O.get (N.get (Z.get d1 id) id) (R (Q4 _));have d3:=O.get (N.get e7 id) (R oM);refine⟨_,_,_,rfl,PA.mk λi0 e9 i1 f2=>PS.mk f2 sM λi2 f4 i3 f5=>PS.mk f5 sM λi4 f6 i5 f8=>λx b9=>?_⟩;have A:ai v x:=((e9.new f4 λn P=>.inr oM).new f6 λn P=>.inr oM).then b9.keep;have i6:x.heap.size=v.heap.size+1:=by rw[b9.heap];omega
 have a1:x.heap[v.heap.size]? =some (.cells #[WP (V.try m).2.1.1,WP (V.try m).2.1.2] 46 (0,0)):=(b9.keep (S:=λ_=>False)).get f8 id;have b2:=A.get d2 id;obtain⟨g9,q,f⟩:=b8.af A;have c4:=b8.self;have y:=b8.aF;have b3:=((hr.keep b1 λn P=>(o n P).2).af A)
 have a4:(V.try m).2.2.entries=V.entries:=by
  rw[bf.sE];split;rfl;split;rfl;split<;>rfl
 have i7:=f.QB.len dC;have B:∀n,aG q.ea=some n->e n/\q.cls n= .QB:=λn P=>f.QB.self n P;have C:¬aG q.ea=some p:=λj=>by have b:=(B p j).2;rw[f.lp.2]at b;cases b
 refine⟨λn=>aG q.ea=some n,p,0,rfl,C,_,_,_,ae f.at' rfl,au (bh m d a c) b2 ⟨λj=>by have:=y _ (B _ j).1;omega,_,_,ae a1 rfl,ae a1 rfl,PC.ok (o_ b3 λn P=>by have:=(o n P).1;omega) ?_⟩⟩;rintro _ i8 ⟨a7,n2,c2,G2,rfl,g0,z,c5⟩;have i9:=c5.size;refine⟨_,_,_,_,_,_,_,_,_,_,_,_,rfl,ai.keep c5,PA.mk λd4 c6 j0 g1=>⟨ai.keep c6,?_⟩⟩;have a2:=c5.then c6;refine fJ (c:=AU) (x:=⟨m,(V.try m).1,(V.try m).2.1⟩) (f.QB.af a2) Tz g1 (D:=G2) ⟨a7,n2,c2,rfl,g0.af c6,he⟩ (λn P=>⟨by have:=z n P;omega,λj=>by have:=y _ (B _ j).1;have:=z n P;omega⟩) (by rw[a4];unfold aR;omega) (by rw[a4];unfold maxLen;omega) λa' E d5 F2 b4 c7 c8=>⟨_,_,_,rfl,p,0,rfl,?_⟩
 have j1:=c7.size;have d6:=c7.get ((f.af a2).at') C;refine PS.mk d6 sM λH g2 j2 g3=>λr d7=>?_;have d8:ai H r:=d7.keep;have j3:r.heap.size=H.heap.size:=by rw[d7.heap]
 have a5:aj (·=p) d5 r:=g2.af d8;have k5:aj (λn=>aG q.ea=some n\/n=p) x r:=((ai.keep a2).then (c7.mono λn _ P=>.inl P)).then (a5.mono λn _ P=>.inr P);have I:aj e x r:=k5.mono λn _ P=>P.elim (λb=>(B n b).1) λb=>b▸c4;have c9:∀{n:Nat},v.heap.size<=n->¬e n:=λ{n} P i=>by have:=y n i;omega
 have g4:¬e w.heap.size:=λi=>by
  rcases Q _ i with b|b|b
  ·exact R (Q4 _) b
  ·have:=u _ b;omega
  ·omega
 have d0:¬e t.heap.size:=λi=>by
  rcases Q _ i with b|b|b
  ·exact R oM b
  ·have:=u _ b;omega
  ·omega
 have d9:=I.get b2 g4;have e0:=I.get (A.get d3 id) d0;have b5:=I.get a1 (c9 (Q4 _));have e1:∀n,D n->¬e n:=λn P i=>by
  rcases Q _ i with b|b|b
  ·exact(o n P).2 b
  ·have:=u _ b;have:=(o n P).1;omega
  ·have:=(o n P).1;omega
 have e2:=b3.keep I e1;have j4:=k5.size;refine⟨λn=>n=t.heap.size,au (bh m d a c) d9 ⟨oM,_,_,ae b5 rfl,ae b5 rfl,PC.ok (o_ e2 λn P=>by have:=(o n P).1;omega) ?_⟩⟩;rintro _ j5 ⟨a3,n3,c3,G3,rfl,g5,e3,J⟩;have j6:=J.size;refine⟨_,_,_,_,_,_,_,_,_,_,_,_,rfl,ai.keep J,aD (mr ⟨m,(V.try m).1,(V.try m).2.1⟩ a3 n3 c3) (J.get e0 id) rfl λe4 S j7 g6=>⟨S,au (mr ⟨m,(V.try m).1,(V.try m).2.1⟩ a3 n3 c3) g6 (Ok.mk ⟨a3,n3,c3,G3,rfl,g5.keep S λn P j=>by have:=e3 n P;omega,λn=>n<H.heap.size/\(e n\/G2 n\/d4.heap.size<=n),?_,⟨?_,?_⟩,?_⟩)⟩⟩
 ·have g7:=(bf.AV (by
   have:V.OK:=L.1;exact this) m).1
  have T:aj (λn=>n=t.heap.size) r e4:=(ai.keep J).then S;have zc:=T.size;have g8:∀n,e n->n<H.heap.size:=λn P=>by have:=y n P;omega
  classical
  have e5:∀n,e n->(if e n then q.cls n else KG.QB)=q.cls n:=λn P=>Zx P;have K:aj (λn=>(aG q.ea=some n\/n=p)\/n=t.heap.size) x e4:=(k5.mono λn _ P=>.inl P).then (T.mono λn _ P=>.inr P);have g:∀(l:KG) n,l≠.QB->l≠.self->e n/\q.cls n=l->¬((aG q.ea=some n\/n=p)\/n=t.heap.size):=λl n b U P k=>by
   rcases k with(k|k)|k
   ·exact b (P.2.symm.trans (B n k).2)
   ·subst k;exact U (P.2.symm.trans f.lp.2)
   ·subst k;exact d0 P.1
  have h:∀(l:KG) n,e n/\q.cls n=l->((n<H.heap.size/\(e n\/G2 n\/d4.heap.size<=n))/\(if e n then q.cls n else KG.QB)=l):=λl n P=>⟨⟨g8 n P.1,.inl P.1⟩,(e5 n P.1).trans P.2⟩
  refine⟨g7,⟨q.ta,q.tn,q.tc,q.pa,q.pn,q.pc,a',q.en+1,E,q.r1,q.r2,q.l1,q.l2,λn=>if e n then q.cls n else KG.QB⟩,?_,?_,?_,?_,?_,?_,?_,λn P=>by have:=P.1;omega,h _ _ f.lp,h _ _ f.l1,h _ _ f.l2⟩
  ·exact T.get (d8.get g3 id) oM
  ·exact(f.TD.keep K λn P=>g _ n sM sM P).mono (h _)
  ·have M:∀n,F2 n->n<d5.heap.size/\n≠t.heap.size/\n≠p:=λn P=>by
    refine⟨b4.aF n P,λj=>?_,λj=>?_⟩
    ·rcases c8 n P with b|b|b
     ·exact d0 (j▸b.1)
     ·have:=z n b;omega
     ·omega
    ·rcases c8 n P with b|b|b
     ·have U:=b.2;rw[j,f.lp.2]at U;cases U
     ·have:=z n b;have:=y p c4;omega
     ·have:=y p c4;omega
   have:(V.add m).2.entries=(V.try m).2.2.entries++[⟨m,(V.try m).1,(V.try m).2.1⟩]:=rfl;rw[this];refine((b4.keep a5 λn P=>(M n P).2.2).keep T λn P=>(M n P).2.1).mono (λn P=>?_) λn P=>by have:=P.1.1;omega
   have h0:=(M n P).1;rcases c8 n P with b|b|b
   ·exact h _ n b
   ·have:=z n b
    refine⟨⟨oM,.inr (.inl b)⟩,?_⟩;show(if e n then _ else _)=_;rw[Zq (c9 oM)]
   ·refine⟨⟨oM,.inr (.inr b)⟩,?_⟩
    show(if e n then _ else _)=_;rw[Zq (c9 oM)]
  ·exact f.st.keep K (g _ _ sM sM f.l1)
  ·refine f.YD.mono λW a8 s=>?_
   obtain⟨x1,x2,x3,rfl,s⟩:=s;exact⟨x1,x2,x3,rfl,(s.keep K λn P=>g _ n sM sM P).mono (h _)⟩
  ·exact f.dn.keep K (g _ _ sM sM f.l2)
  ·refine f.YS.mono λa9 W a8 s=>?_
   obtain⟨x1,x2,x3,rfl,s⟩:=s;exact⟨x1,x2,x3,rfl,(s.keep K λn P=>g _ n sM sM P).mono (h _) λn P=>by have:=P.1.1;omega⟩
 ·have k1:aj e v r:=(ai.keep A).then I
  exact((b1.new k1 b0).af J).new S λn P=>.inr oM
 ·intro n P
  rcases P.2 with b|b|b
  ·exact b0 n b
  ·have:=z n b;exact .inr oM
  ·exact .inr oM
 ·intro n P
  have:=e3 n P;refine⟨oM,oM,λk=>by have:=k.1;omega⟩
def Gp(c:aT):∀(a:List ah) (n:bf) (P:Int×Int×Int),(((an (a.foldl (λn e=>(n.add e).2) n).done P).getD []).length<=((an n.done P).getD []).length+a.length)/\(a.foldl (λn e=>(n.add e).2) n).entries.length=n.entries.length+a.length
 |[],n,P=>by simp
 |e::a,n,P=>by
  rw[List.foldl_cons];obtain⟨d,f⟩:=Gp c a (n.add e).2 P;have i:((an (n.add e).2.done P).getD []).length<=((an n.done P).getD []).length+1:=by
   show((an (n.try e).2.2.done P).getD []).length<=_;rw[bf.sE];split
   ·simp
   split
   ·simp
   split
   ·simp
   ·simp only
    rw[bl];split
    ·rename_i g
     have b:P=(e.aZ,e.agg,e.field):=by simpa using g
     rw[b];simp
    ·simp
  have h:(n.add e).2.entries.length=n.entries.length+1:=by
   show((n.try e).2.2.entries++[_]).length=_;have:(n.try e).2.2.entries=n.entries:=by rw[bf.sE];split;rfl;split;rfl;split<;>rfl
   rw[this];simp
  refine⟨?_,by rw[f,h];simp;omega⟩;simp only[Xq]at d⊢;omega
def HZ{tn L q M i N:Nat}(O:dm S=0)(Q:ft w)(R:bu w D S d tn s q)(T:∀n,D n->n<w.heap.size)(r:Row kY 96 w f d4 i H)(t:∀n,f n->n<w.heap.size)(a:H.length<=20000000):
  ba 79 #[.agg #[.slice d tn L,.slice s q M],.slice d4 i N] w (Ok λU w'=>∃p F,U= LL p/\cJ w' p F (bZ S H)/\(∀n,F n->w.heap.size<=n)/\ai w w'):=by
 refine LR (PA.mk λw1 u s1 v=>⟨_,_,_,_,_,_,ae v rfl,ae v rfl,PC.ok (Ii O (R.af u) λn a=>by have:=T n a;omega) ?_⟩);rintro _ w9 ⟨p,V,rfl,c,W,x⟩;have a9:=r.len;have X:=u.then x;have z9:=x.size;refine⟨_,rfl,λy o w'=>∃P:Nat,o=P/\P<=i/\y=i-P/\∃F,cJ w' p F (bZ S (H.take P))/\(∀n,F n->w.heap.size<=n)/\ai w w',⟨_,0,rfl,Qj _,rfl,V,c,λn a=>by have:=W n a;omega,X⟩,?_⟩;rintro y _ _ Y ⟨P,rfl,hj,rfl,F,c,j,e⟩;refine al.dec (λb0=>?_) (λb1=>?_)
 ·have z:P<H.length:=oM
  obtain⟨n,Z,es,ha,a0,b2,A,k,l,m,rfl,B,C⟩:=(r.af e).el P H[P] (Qq z);have E:H[P]? =some H[P]:=Qq z;generalize H[P]=b at A B C E;refine⟨n,Z,ha,oM,oM,cu (es:=aI b k l m) (k:=10) (bh b k l m) rfl (λo ht=>A o ht) (PA.mk λb3 a3 b4 a5=>aD (bh b k l m) a5 rfl λa6 a7 b5 a8=>au (bh b k l m) a8 ?_)⟩;have g:ai Y a6:=a3.new a7 λn a=>.inr oM;have I:=Gp S (H.take P) (bf.new S) (b.aZ,b.agg,b.field);have b6:=List.length_take_le P H;have b7:((an (bZ S (H.take P)).done (b.aZ,b.agg,b.field)).getD []).length<=0+(H.take P).length:=I.1;have b8:(bZ S (H.take P)).entries.length=0+(H.take P).length:=I.2;have b9:=e.size;have c1:=g.size;refine PC.ok (H_ (c.af g) (Q.af (e.then g)) (B.af g) (λn a=>⟨by have:=t n a;omega,λhf=>by have:=j n hf;have:=t n a;omega⟩) C oM oM) ?_;rintro _ c2 ⟨a4,n4,c4,G,rfl,-,F',h,J,-⟩;refine cz (QS _ a4 n4 c4) ⟨rfl,_,?_,P+1,aq oM,oM,rfl,F',?_,λn a=>?_,(e.then g).new J.1 λn a=>.inr (j n a)⟩
  ·omega
  ·rw[Qw,E]
   unfold bZ at h⊢;rw[List.foldl_append];exact h
  ·rcases J.2 n a with K|K
   ·exact j n K
   ·omega
 ·rw[Qz oM]at c
  exact Ok.mk ⟨p,F,rfl,c,j,e⟩
end
end Go.Proofs.YtjgjkeponbeekaaGreatDoor
namespace Go.ar
open Go
variable{a4:List Value}{E a c c1 i o:Nat}{f:RK}{d s:am}{h:Program}{L j:Type}{g r:TypeId}{b:World}{z:ac}
def Qu{cs:List j}{p m:Nat}{v:j}{vs:List j}(n:p<cs.length):(cs.set p v).take (p+1)++vs++(cs.set p v).drop (p+1+m)=cs.take p++(v::vs)++cs.drop (p+(m+1)):=by
 have P:(cs.set p v).take (p+1)=cs.take p++[v]:=by
  rw[Qw,Xj,Zx rfl,Zx n,List.take_set_of_le (Q4 _)];rfl
 have a:(cs.set p v).drop (p+1+m)=cs.drop (p+(m+1)):=by
  rw[List.drop_set_of_lt oM,show p+1+m=p+(m+1) by omega]
 rw[P,a];simp
def Ds{k:TypeId}{l:Nat}{f:am}{m c P g d:Nat}{o:ac}(p:f=some ⟨g,d,none⟩):∀(a:List Value) (n:Nat) {b:World} {cs:List Value},Own b k l f m c cs->P+n+a.length<=cs.length->
  (∀e,Own e k l f m c (cs.take (P+n)++a++cs.drop (P+n+a.length))->aj (λg=>aG f=some g) b e->e.heap.size=b.heap.size->o e)->jP ⟨g,d+P,none⟩ n a b o
 |[],n,b,cs,h,q,i=>i b (by simpa using h) (aj.refl _) rfl
 |v::a,n,b,cs,h,q,i=>by
  unfold jP;rw[Xq]at q;rw[Addr.add_lit,Nat.add_assoc];refine h.set (m:=P+n) oM p λe r s t=>Ds p a (n+1) r (by simp;omega) λu j w x=>i u ?_ (s.then w) (x.trans t);have:=Qu (cs:=cs) (p:=P+n) (m:=a.length) (v:=v) (vs:=a) oM;rw[show P+(n+1)=P+n+1 from rfl]at j;rw[this]at j;exact j
def Own.store{j P m e c:Nat}{n cs:List Value}(l:Own b r a d j P cs)(o:d=some ⟨e,c,none⟩)(k:iM h g n=true)(p:m+n.length<=cs.length)(i:∀f,Own f r a d j P (cs.take m++n++cs.drop (m+n.length))->aj (λe=>aG d=some e) b f->f.heap.size=b.heap.size->z f):nw h g (.pointer (some ⟨e,c+m,none⟩)) (.agg n.toArray) b z:=by
 simp only[iM,QK]at k;obtain⟨⟨⟨q,w⟩,s⟩,t⟩:=k;unfold nw;have u:Nat.beq n.toArray.size (mJ h g)=true:=by simpa using s
 have v:n.toArray.toList.all Value.oneCell'=true:=by simpa using t
 simp only[q,u,v];exact Ds o n 0 l (by simpa using p) i
def fh.store{n:fh j L}{m:List (Bx j)}(w:aU n.kr r f b d a c m){P:Bx j}(x:m[i]? =some P){B t:Nat}(M:d=some ⟨B,t,none⟩)(C:a4=(n.hd P.x s o E).take c1)(a1:n.o<c1)(a2:c1<=n.k)(N:iM h g a4=true)(y:∀q,aU n.kr r f q d a c (m.set i ⟨P.x,s,o,E⟩)->aj (λe=>aG d=some e) b q->q.heap.size=b.heap.size->z q):nw h g (.pointer (some ⟨B,t+i*n.k,none⟩)) (.agg a4.toArray) b z:=by
 obtain⟨cs,D,O,F,Q⟩:=w.body;have H:=bL.oz.1 F;have R:i<m.length:=(Qv.1 x).1;have I:cs.length=m.length*n.k:=by rw[H];exact lQ (λe:Bx j=>n.hl e.x e.a e.n e.c) m
 have u:a4.length=c1:=by rw[C,Qy,n.hl];omega
 have S:(i+1)*n.k<=m.length*n.k:=Q0 _ R;rw[X7,Nat.one_mul]at S;refine O.store (m:=i*n.k) M N (by rw[I,u];omega) λq T U J=>y q ⟨⟨_,D,T,bL.oz.2 ?_,Q⟩,w.self,λe V=>by rw[J];exact w.aF e V⟩ U J;have W:=rZ (enc:=λe:Bx j=>n.hd e.x e.a e.n e.c) (k:=n.k) (λe=>n.hl e.x e.a e.n e.c) (x':=⟨P.x,s,o,E⟩) (v:=.slice s o E) n.ho m i P x (n.fN ..).symm;rw[<-W,<-H,u];have X:∀k,k<n.k->cs[i*n.k+k]? =(n.hd P.x P.a P.n P.c)[k]? :=λk Y=>by
  obtain⟨Z,A,K⟩:=F.at x;have a0:Z=n.hd P.x P.a P.n P.c:=K.1;rw[<-a0];exact A k Y
 apply X3;intro k;have p:∀l,l<c1->a4[l]? =(n.hd P.x s o E)[l]? :=λl hu=>by rw[C,Xw,Zx hu]
 by_cases A:k<i*n.k
 ·rw[XQ,XW (by rw[Qy];omega),Xw,Zx A,Xj,Zq oM]
 ·by_cases K:k<i*n.k+c1
  ·rw[XQ,X8 (by rw[Qy];omega),XW (by rw[Qy,u];omega),Qy,p _ oM]
   obtain⟨l,rfl⟩:∃l,k=i*n.k+l:=⟨k-i*n.k,oM⟩
   rw[X2 oM,Nat.add_sub_cancel_left,Xj];have v:=n.fN P.x P.a P.n P.c s o E;split
   ·rename_i r
    have:l=n.o:=oM
    subst this;rw[Zx (by rw[I];have:=n.ho;omega),<-v,Xj,Zx rfl,Zx (by rw[n.hl];exact n.ho)]
   ·rename_i r
    rw[X l oM,<-v,Xj,Zq oM]
  ·rw[X8 (by rw[QX,Qy,u];omega),QX,Qy,u,List.getElem?_drop,Xj,Zq (by have:=n.ho;omega)]
   congr 1
   omega
end Go.ar
namespace Go.ar
open Go
variable{h:Program}{z:ac}
section
variable {α β:Type} {N:fh α β} {w9 w w':World} {a:am} {n c j:Nat} {L0:List (Bx α)} {e:TypeId}
def d_.step2{f:TypeId}(x:d_ N e w9 a n c L0 j w){g:Nat}(o:a=Option.some ⟨g,0,none⟩){b:Bx α}(i:L0[j]? =Option.some b){a':am}{n' c':Nat}{G:RK}(y:Row N.ci N.ib w G a' n' (N.inner b.x))(A:N.ok b.x)(k:∀P,G P->w9.heap.size<=P/\P<w.heap.size)(U:g<w9.heap.size){hd:List Value}{r:Nat}(C:hd=(N.hd b.x a' n' c').take r)(E:N.o<r)(F:r<=N.k)(H:iM h f hd=true)(l:∀w',d_ N e w9 a n c L0 (j+1) w'->aj (λb=>aG a=Option.some b) w w'->w'.heap.size=w.heap.size->z w'):nw h f (.pointer (Option.some ⟨g,0+j*N.k,none⟩)) (.agg hd.toArray) w z:=by
 obtain⟨I,J,K,L,M,p,O,q⟩:=x;have s:I[j]? =Option.some b:=by rw[p j (Q4 _)];exact i
 have Q:=(Qv.1 s).1;have t:∀P,G P->¬aG a=Option.some P:=λP B e=>by
  have:=(k P B).1;rw[o]at e;simp only[aG,Q1]at e;omega
 refine fh.store K s o C E F H λR S d m=>l R ⟨_,λP=>J P\/G P,S,?_,?_,?_,O.then d,?_⟩ d m
 ·rw[List.map_set,L]
  apply X3;intro f;rw[Xj];split
  ·rename_i e;subst e
   rw[Zx (by simpa using(Qv.1 i).1),Q9,i];rfl
  ·rfl
 ·intro u P V B
  rw[Xj]at B
  by_cases v:j=u
  ·subst v
   rw[Zx rfl,Zx Q]at B
   cases B
   exact⟨(y.keep d λP B=>t P B).mono λP B=>.inr B,A⟩
  ·rw[Zq v]at B
   exact((M u P oM B).keep d λP B=>(q P B).2.2).mono λP B=>.inl B
 ·intro T W
  rw[Xj,Zq oM,p T oM]
 ·rintro P (B|B)
  ·rw[m];exact q P B
  ·rw[m];exact⟨(k P B).1,(k P B).2,t P B⟩
end
end Go.ar
namespace Go.Proofs.YtjgjkeponbeekaaGreatDoor
section
open Go.ar
variable{a c:Nat}{d:am}
section
variable {w w':World} {p:Nat} {F D:RK} {V:bf}
def Ax{n:List (Bx cZ)}(b:Row Nl.kr 120 w D d a n)(e:∀P,D P->P<w.heap.size):ba 405 #[.slice d a c] w (Ok (qI Nl.kr 133 w n)):=
 ie (xo Tz dC b e λg w' f=>Ok.mk f)
def Gr(c:cJ w p F V)(a:V.entries.length<=20000000):ba 403 #[LL p] w (Ok (qI AU 133 w V.entries)):=by
 obtain⟨X,Y,c⟩:=c;have j:=c.QB.row (bytes:=120) dC (by unfold aR;omega);have H:=j.fe;have Z:=j.len;obtain⟨e,v,I,J⟩:=fh.boxes j;have a8:e.length=V.entries.length:=by rw[<-v];simp
 refine te ⟨p,0,rfl,_,_,_,ae c.at' rfl,PC.ok (Ax I λn a=>c.aF n a.1) ?_⟩;rintro _ x ⟨h,f,y,F9,rfl,i,z,K⟩;have k:∀n,aG h=some n->w.heap.size<=n:=λn a=>K n (i.self n a);have L:∀n,aG h=some n->n<x.heap.size:=λn a=>i.aF n (i.self n a);refine⟨_,_,_,rfl,λA M w'=>∃b:Nat,M=b/\b<=f/\A=f-b/\d_ Nl 133 x h f y e b w',⟨_,0,rfl,Qj _,rfl,d_.start i.alone⟩,?_⟩;rintro A _ _ N ⟨b,rfl,hj,rfl,d⟩;have b0:=d.len;have l:ai w N:=z.new d.keep λn a=>.inr (k n a);have zk:=d.keep.size;refine al.dec (λb1=>?_) (λb2=>?_)
 ·obtain⟨g,rfl⟩:=d.some oM
  have b3:=k g rfl;have O:=L g rfl;have m:e[b]? =some e[b]:=Qq oM;have o:=J e[b] (XY oM);generalize e[b]=P at m o;refine⟨g,0,rfl,oM,oM,cu (es:=aI P.x.ev P.a P.n P.c) (k:=10) (bh _ _ _ _) rfl (λq Q=>?_) (PC.ok (o_ (e:=P.x.ev) (o.1.af l) λn a=>by have:=c.aF n a.1;have:=l.size;omega) ?_)⟩
  ·have R:=d.cell rfl m (by show f*13<=aR;unfold aR at H⊢;omega) q
   rw[Qx];have r:q<(aI P.x.ev P.a P.n P.c).length:=Q;rw[Qq r];refine R _ ?_;show(aI P.x.ev P.a P.n P.c++_)[q]? =_;rw[XW r,Qq r]
  rintro _ b4 ⟨s,t,u,G,rfl,S,B,T⟩;refine cz (sI P.x.ev s t u) ⟨rfl,g,0,rfl,oM,oM,?_⟩;rw[Qx];refine(d.af T).step2 (g:=g) rfl m (a':=s) (n':=t) (c':=u) (G:=G) S o.2 (λC E=>⟨by have:=B C E;omega,(B C E).2⟩) O (hd:=aI P.x.ev s t u) (r:=10) rfl dC dC (bh _ _ _ _) λb5 U b6 b7=>⟨_,?_,b+1,aq oM,oM,rfl,U⟩
  omega
 ·obtain rfl:b=f:=oM
  obtain⟨Fd,hd,W⟩:=d.done;rw[v]at hd;have z9:=z.size;exact Ok.mk ⟨h,_,y,Fd,rfl,hd,l,λn a=>(W n a).elim (k n) λc=>oM⟩
end
end
section
open Go.ar
def bK(n:ej):List Value:=[WP n.group,WP n.value,WP n.count]
def ej.Ok(n:ej):Prop:=aM n.group/\aM n.value/\aM n.count
def KL:ks ej:=flat 3 bK ej.Ok (λ_=>rfl) (λP a n=>by simp[bK]at n;rcases n with rfl|rfl|rfl<;>rfl)
def Yn:kv PP 51 135 3 24:=⟨kR,kR,dC⟩
variable{Z p:Array Value}{A:FuncId}{e:Int}{e2:ej}
section
variable {w w':World} {D:RK} {a:am} {n c:Nat} {l:List ej}
def CP(b:Row KL 24 w D a n l)(d:∀P,D P->P<w.heap.size):ba 215 #[.slice a n c] w (Ok (qI KL 135 w l)):=
 jL (xo Yn dC b d λf w' e=>Ok.mk e)
def MN{most:Int}(b:Row KL 24 w D a n l)(g:∀d,D d->d<w.heap.size)(u:n<=c):
  ba 152 #[.slice a n c,WP most] w (Ok λh w'=>∃e,h= .tuple #[e,.bool (decide ((max most 0).toNat<l.length))]/\qI KL 135 w (l.take (max most 0).toNat) e w'):=by
 have v:=b.len;have i:(if 0>most then 0 else most)=max most 0:=by split<;>omega
 refine DZ ?_;rw[i];obtain⟨P,f⟩:∃P:Nat,(if(n:Int)<max most 0 then(n:Int)else max most 0)=P:=⟨(if(n:Int)<max most 0 then(n:Int)else max most 0).toNat,by split<;>omega⟩
 rw[f];have j:P=min n (max most 0).toNat:=by split at f<;>omega
 rw[Qx];refine⟨oM,oM,oM,PC.ok (CP (b.take (m:=P) oM) g) ?_⟩;rintro _ x ⟨k,m,o,p,rfl,q,r,s⟩;refine⟨_,_,_,rfl,Ok.mk ⟨_,?_,k,m,o,p,rfl,?_,r,s⟩⟩
 ·have:decide ((P:Int)<(n:Int))=decide ((max most 0).toNat<l.length):=by rw[decide_eq_decide];omega
  rw[this]
 ·have:l.take (max most 0).toNat=l.take P:=by
   rw[j]
   by_cases t:(max most 0).toNat<=n
   ·rw[Nat.min_eq_right t]
   ·rw[X2 oM,Qz oM,Qz oM]
  rw[this];exact q
def JY{a k:Nat}(t:a<=20000000)(i:k<=a)(j:enters PP A=true)(l:∀(b:Nat) d,b<a->ai w d->ba A (p++ #[WP (b:Int)]++Z) d (Ok λe w'=>e= .bool (decide (k<=b))/\ai d w')):
  ba 150 #[WP (a:Int),.func (.func A) p Z] w (Ok λe w'=>e= WP (k:Int)/\ai w w'):=by
 refine BQ ⟨λf b m w'=>∃n P:Nat,b=n/\m=P/\f=P-n/\n<=P/\P<=a/\n<=k/\k<=P/\ai w w',⟨_,0,a,rfl,rfl,rfl,oM,oM,oM,i,aj.refl _⟩,?_⟩;rintro f _ _ _ o ⟨n,P,rfl,rfl,rfl,u,q,r,s,c⟩;refine al.dec (λv=>?_) (λx=>?_)
 ·rw[Wb oM]
  refine⟨_,_,_,rfl,j,PC.ok (l _ o oM c) ?_⟩;rintro _ y ⟨rfl,g⟩;refine⟨_,rfl,al.not (al.dec (λh=>⟨_,?_,n,(n+P)/2,rfl,rfl,rfl,oM,oM,r,h,c.then g⟩) (λh=>⟨_,?_,(n+P)/2+1,P,aq oM,rfl,rfl,oM,q,oM,s,c.then g⟩))⟩
  ·omega
  ·omega
 ·obtain rfl:n=k:=oM
  exact Ok.mk ⟨rfl,c⟩
def tO{P:Type}(n:P->Bool):∀l:List P,l.dropWhile n=l.drop (posOf n l)
 |[]=>rfl
 |x::l=>by
  unfold posOf;rw[List.dropWhile_cons,List.takeWhile_cons]
  cases a:n x
  ·simp
  ·simpa[posOf]using tO n l
abbrev vj(l:List ej):Prop:=l.Pairwise λa n=>a.group<n.group
def Ve{l:List ej}(b:vj l){n:Nat}(P:l[n]? =some e2):decide (posOf (λe2=>decide (e2.group<=e)) l<=n)=decide (e2.group>e):=by
 rw[decide_eq_decide]
 induction l generalizing n with
 |nil=>simp at P
 |cons c l d=>
  obtain⟨f,g⟩:=List.pairwise_cons.1 b;unfold posOf;rw[List.takeWhile_cons]
  by_cases a:c.group<=e
  ·rw[Zy a]
   cases n with
   |zero=>
    simp at P;subst P;simp;omega
   |succ n=>
    have:=d g (by simpa using P);unfold posOf at this;simp only[if_true,Xq];omega
  ·rw[Xv a]
   simp only[Bool.false_eq_true,if_false,ZQ,Qj,true_iff]
   cases n with
   |zero=>simp at P;subst P;omega
   |succ n=>
    have:=f e2 (QZ (by simpa using P));omega
def MO{P b:Int}(k:Row KL 24 w D a n l)(u:∀e,D e->e<w.heap.size)(v:n<=c)(x:vj l)(y:n<=20000000):
  ba 90 #[.slice a n c,WP P,WP b] w (Ok λz w'=>∃d,z= .tuple #[d,.bool (oB l P (max b 0).toNat).2]/\qI KL 135 w (oB l P (max b 0).toNat).1 d w'):=by
 have Q:=k.len;have R:=AY (λd:ej=>decide (d.group<=P)) l;refine GU (PA.mk λS p T m=>PA.mk λU h V A=>⟨_,_,_,ae (h.get m id) rfl,PC.ok (JY (k:=posOf (λd=>decide (d.group<=P)) l) y oM kR λi B W f=>?_) ?_⟩)
 ·have g:=(p.then h).then f
  obtain⟨e,C,X,E,j,-,F,rfl,-⟩:=(k.af g).el i l[i] (Qq oM);have H:l[i]? =some l[i]:=Qq oM;refine BH ⟨_,_,_,ae (f.get (h.get m id) id) rfl,e,C,E,oM,oM,_,by rw[Qx];exact F 0 dC,_,ae (f.get A id) rfl,λI J=>Ok.mk ⟨?_,J.keep⟩⟩;rw[Ve x H]
 ·rintro _ B ⟨rfl,f⟩
  have g:=(p.then h).then f;have o:=(k.af g).part (lo:=posOf (λd=>decide (d.group<=P)) l) (hi:=n) (cap:=c) oM (Q4 _) v;rw[Qz oM]at o;have K:KL.k=3:=rfl;rw[K]at o;refine⟨_,rfl,_,_,_,ae (f.get (h.get m id) id) rfl,oM,oM,?_⟩;rw[Qx];refine PC.ok (MN (most:=b) o (λe j=>by have:=u e j;have:=g.size;omega) oM) ?_;rintro _ I ⟨_,rfl,q,r,s,L,rfl,M,N,O⟩;have t:l.dropWhile (λd=>decide (d.group<=P))=l.drop (posOf (λd=>decide (d.group<=P)) l):=tO _ l;refine⟨_,_,_,_,rfl,Ok.mk ⟨.slice q r s,?_,q,r,s,L,rfl,?_,g.then N,λe j=>by have:=O e j;have:=g.size;omega⟩⟩
  ·unfold oB;rw[t]
  ·unfold oB;rw[t];exact M
end
def tN(n:ej):Value:=.agg (bK n).toArray
def Vc(n:ej):iM PP 135 (bK n)=true:=kR
def aae(n:ej):UJ (dz PP 135) (.agg (bK n).toArray)=true:=kR
structure lR (w:World) (p r:Nat) (R:dR):Prop where
 at':w.heap[p]? =some (.cells #[WP R.p.aZ,WP R.p.field,WP R.p.group,WP R.p.Gk,WP R.p.make,.map (some r)] 269 (0,0))
 map:bV w r (Value.int .i64) (R.rows.map λx=>(x.1,tN x.2))
 ok:∀x∈R.rows,ej.Ok x.2/\x.2.group=x.1
variable{a c:Nat}{d:am}{m:ah}{e1:jU}
section
variable {w w':World} {p r:Nat} {R:dR} {T:RK}
def lR.keep(n:lR w p r R)(P:aj T w w')(a:¬T p)(b:¬T r):lR w' p r R:=⟨P.get n.at' a,n.map.keep P b,n.ok⟩
def lR.af(n:lR w p r R)(P:ai w w'):lR w' p r R:=n.keep P id id
def Re:ba 106 #[.agg (oD e1).toArray] w (Ok λa w'=>∃p r,a= LL p/\lR w' p r ⟨e1,[]⟩/\w.heap.size<=p/\w.heap.size<=r/\p<w'.heap.size/\r<w'.heap.size/\ai w w'):=by
 refine LU (PA.mk λb c i n=>⟨_,_,_,_,_,ae n rfl,ae n rfl,ae n rfl,ae n rfl,ae n rfl,PA.mk λd e j f=>PA.mk λk P l g=>Ok.mk ⟨d.heap.size,b.heap.size,rfl,⟨g,bV.new (P.get f id),λe1 h=>by cases h⟩,oM,oM,oM,oM,(c.then e).then P⟩⟩)
def HG(n:jU)(a:ah)(P:Int):Option Int:=if n.group=1 then some a.agg else if n.group=2 then some a.arg else if n.group=3 then some P else none
def MP(h:lR w p r R):ba 244 #[LL p,kN m d a c,WP e] w (Ok λi w'=>i= .tuple #[WP ((HG R.p m e).getD 0),.bool (HG R.p m e).isSome]/\ai w w'):=by
 refine vN (PA.mk λj n k g=>⟨p,0,rfl,_,ae (h.af n).at' rfl,al.eH (λP=>⟨_,ae g rfl,Ok.mk ⟨?_,n⟩⟩) (λP=>al.eH (λb=>⟨_,ae g rfl,Ok.mk ⟨?_,n⟩⟩) (λb=>al.eH (λf=>Ok.mk ⟨?_,n⟩) (λf=>Ok.mk ⟨?_,n⟩)))⟩)
 ·unfold HG;rw[Zx P];rfl
 ·unfold HG;rw[Zq P,Zx b];rfl
 ·unfold HG;rw[Zq P,Zq b,Zx f];rfl
 ·unfold HG;rw[Zq P,Zq b,Zq f];rfl
def PW(h:lR w p r R){arg:Int}:ba 245 #[LL p,.agg (bK e2).toArray,WP arg] w (Ok λk w'=>k= WP (mL R.p e2 arg)/\ai w w'):=by
 refine xN (PA.mk λl a o e=>?_);have b:=(h.af a).at';refine⟨_,ae e rfl,p,0,rfl,_,ae b rfl,al.eH (λc=>⟨_,ae e rfl,Ok.mk ⟨?_,a⟩⟩) (λc=>⟨p,0,rfl,_,ae b rfl,al.eH (λd=>⟨_,ae e rfl,Ok.mk ⟨?_,a⟩⟩) (λd=>⟨λj w'=>j=decide (R.p.make=5\/e2.count=1/\(R.p.make=3\/R.p.make=4))/\l=w',?_,?_⟩)⟩)⟩
 ·unfold mL;rw[Zx c]
 ·unfold mL;rw[Zq c,Zx d]
 ·refine⟨p,0,rfl,_,ae b rfl,al.eH (λf=>⟨?_,rfl⟩) (λf=>al.eH (λi=>⟨p,0,rfl,_,ae b rfl,al.eH (λn=>⟨?_,rfl⟩) (λn=>⟨p,0,rfl,_,ae b rfl,?_,rfl⟩)⟩) (λi=>⟨?_,rfl⟩))⟩
  ·rw[Zy (.inl f)];simpa using f
  ·rw[Zy (.inr ⟨i,.inl n⟩)]
  ·by_cases P:R.p.make=4
   ·rw[Zy (.inr ⟨i,.inr P⟩)];simpa using P
   ·rw[Xv (by rintro(h|⟨-,h|h⟩);exact f h;exact n h;exact P h)];simpa using P
  ·rw[Xv (by rintro(h|⟨h,-⟩);exact f h;exact i h)]
 ·rintro j _ _ ⟨m,rfl⟩
  subst m;refine al.dec (λg=>Ok.mk ⟨?_,a⟩) (λg=>⟨p,0,rfl,_,ae b rfl,al.eH (λn=>⟨_,ae e rfl,Ok.mk ⟨?_,a⟩⟩) (λn=>⟨p,0,rfl,_,ae b rfl,al.eH (λP=>⟨_,ae e rfl,Ok.mk ⟨?_,a⟩⟩) (λP=>Ok.mk ⟨?_,a⟩)⟩)⟩)
  ·unfold mL;rw[Zq c,Zq d,Zx g]
  ·have:(if arg<e2.value then arg else e2.value)=min e2.value arg:=by split<;>omega
   unfold mL;rw[Zq c,Zq d,Zq g,Zx n,<-this]
  ·have:(if arg>e2.value then arg else e2.value)=max e2.value arg:=by split<;>omega
   unfold mL;rw[Zq c,Zq d,Zq g,Zq n,Zx P,<-this]
  ·unfold mL;rw[Zq c,Zq d,Zq g,Zq n,Zq P]
end
def SY:mP PP 267 3 135 (tN ⟨0,0,0⟩):=⟨kR,kR⟩
def Od{P d e:Type}[BEq P](a:d->e)(b:P):∀n:List (P×d),an (n.map λc=>(c.1,a c.2)) b=(an n b).map a
 |[]=>rfl
 |(c,f)::n=>by
  simp only[QY];unfold an;split
  ·rfl
  ·exact Od a b n
def Oe{b c f:Type}[BEq b](P:c->f)(d:b)(e:c):∀a:List (b×c),aJ (a.map λn=>(n.1,P n.2)) d (P e)=(aJ a d e).map λn=>(n.1,P n.2)
 |[]=>rfl
 |(n,g)::a=>by
  simp only[QY];unfold aJ;split
  ·simp
  ·simp[Oe P d e a]
section
variable {w w':World} {p r:Nat} {R:dR}
def dR.add_def(r:dR)(e:cZ)(P:Int):r.add e P=match HG r.p e.ev P with
  |none=>r
  |some n=>if e.void||e.ev.aZ !=r.p.aZ||e.ev.field !=r.p.field then r else
   {r with rows:=aJ r.rows n ⟨n,mL r.p ⟨n,((an r.rows n).getD ⟨0,0,0⟩).value,pU (((an r.rows n).getD ⟨0,0,0⟩).count+1)⟩ e.ev.arg,pU (((an r.rows n).getD ⟨0,0,0⟩).count+1)⟩}:=rfl
def Ia:aM 0:=by unfold aM;omega
def WS{arg:Int}(n:ej.Ok e2)(P:aM arg):aM (mL e1 e2 arg):=by
 obtain⟨b,c,a⟩:=n;unfold mL;split;exact a;split;exact Nw _;split;exact P;split
 ·unfold aM at*;omega
 split
 ·unfold aM at*;omega
 ·exact Ia
def QT(h:lR w p r R)(a1:p≠r){x:cZ}(v:x.ev.Ok)(a2:aM e):ba 185 #[LL p,Gm x d a c,WP e] w (Ok λk w'=>k= .tuple #[]/\lR w' p r (R.add x e)/\aj (·=r) w w'):=by
 have b1:=aA h.at';have b2:=h.map.lt;refine Ad (PA.mk λw1 L s1 M=>WT (cs:=aI x.ev d a c) (bh _ _ _ _) M (λa3 k N=>?_) (PC.ok (MP (h.af L)) ?_))
 ·rw[Xz]
  have a4:=(Qv.1 N).1;show(aI x.ev d a c++_).toArray[a3]? =_;simp only[List.getElem?_toArray];rw[XW a4];exact N
 rintro _ O ⟨rfl,Q⟩;have l:=L.then Q;have m:=Q.get M id;have o:=h.af l;have b:R.add x e=R->∀g,bw O g->Ok (λk w'=>k= .tuple #[]/\lR w' p r (R.add x e)/\aj (·=r) w w') (.returned (.tuple #[])) g:=λhe g i=>Ok.mk ⟨rfl,by rw[he];exact o.af i.keep,ai.keep (l.then i.keep)⟩;refine⟨_,_,rfl,al.not (al.mk (λy=>?_) (λy=>b ?_))⟩
 rotate_left
 ·rw[dR.add_def,show HG R.p x.ev e=none by simpa using y]
 obtain⟨P,f⟩:=Option.isSome_iff_exists.1 y;rw[f,Option.getD_some];have s:∀{q:dR},(if x.void||x.ev.aZ !=R.p.aZ||x.ev.field !=R.p.field then R else
   {R with rows:=aJ R.rows P ⟨P,mL R.p ⟨P,((an R.rows P).getD ⟨0,0,0⟩).value,pU (((an R.rows P).getD ⟨0,0,0⟩).count+1)⟩ x.ev.arg,pU (((an R.rows P).getD ⟨0,0,0⟩).count+1)⟩})=q->R.add x e=q:=λ{q} z=>by
  rw[dR.add_def,f];exact z
 refine⟨_,ae m rfl,al.mk (λj=>b (s (by rw[j];rfl))) (λj=>⟨_,ae m rfl,p,0,rfl,_,ae o.at' rfl,al.eK (λA=>b (s ?_)) (λA=>⟨_,ae m rfl,p,0,rfl,_,ae o.at' rfl,λg i=>?_⟩)⟩)⟩
 ·rw[j,show(x.ev.aZ !=R.p.aZ)=true by simpa using A];rfl
 have S:(x.ev.aZ !=R.p.aZ)=false:=by simpa using A
 have t:ai O g:=i.keep;have u:=o.af t;refine al.eK (λB=>b (s (by rw[j,S,show(x.ev.field !=R.p.field)=true by simpa using B];rfl)) g i) (λB=>?_);have a5:(x.ev.field !=R.p.field)=false:=by simpa using B
 have T:aM P:=by
  unfold HG at f;split at f
  ·cases f;exact v.agg
  split at f
  ·cases f;exact v.arg
  split at f
  ·cases f;exact a2
  ·cases f
 obtain⟨n,C⟩:∃n,n=(an R.rows P).getD ⟨0,0,0⟩:=⟨_,rfl⟩
 have a6:ej.Ok n:=by
  rw[C]
  cases z:an R.rows P with
  |none=>exact⟨Ia,Ia,Ia⟩
  |some U=>exact(h.ok _ (cx z)).1
 have a7:(an (R.rows.map λx=>(x.1,tN x.2)) P).getD (tN ⟨0,0,0⟩)=tN n:=by
  rw[Od,C];cases an R.rows P<;>rfl
 refine⟨p,0,rfl,_,ae u.at' rfl,AH SY lC u.map ?_⟩;rw[a7];refine cz (aae n) ⟨rfl,PA.mk λw4 k4 s4 g4=>aD (Vc n) g4 rfl λw5 k5 s5 g5=>PS.mk g5 (by simp[bK]) λw6 k6 s6 V=>⟨_,ae V rfl,PS.mk V (by simp[bK]) λw7 k7 s7 W=>?_⟩⟩;have E:ai g w7:=((k4.new k5 λF H=>.inr oM).new k6 λF H=>.inr oM).new k7 λF H=>.inr oM;have a8:=E.get (t.get m id) id;refine au (cs:=bK ⟨P,n.value,pU (n.count+1)⟩) (Vc _) W ⟨_,ae a8 rfl,PC.ok (PW (u.af E)) ?_⟩;rintro _ w8 ⟨rfl,I⟩;have z8:=I.size;refine⟨_,rfl,PS.mk (I.get W id) (by simp[bK]) λw9 k9 s9 g9=>λX a9=>?_⟩;have Y:ai w9 X:=a9.keep;have Z:ai g X:=((E.then I).new k9 λF H=>.inr oM).then Y;have J:=u.af Z;have z3:=(l.then t).size;refine⟨p,0,rfl,_,ae J.at' rfl,au (cs:=bK ⟨P,mL R.p ⟨P,n.value,pU (n.count+1)⟩ x.ev.arg,pU (n.count+1)⟩) (Vc _) (Y.get g9 id) (dB SY lC J.map λb3 b0 a0 b4=>Ok.mk ⟨rfl,?_,?_⟩)⟩
 ·rw[s (q:={R with rows:=aJ R.rows P ⟨P,mL R.p ⟨P,n.value,pU (n.count+1)⟩ x.ev.arg,pU (n.count+1)⟩}) (by rw[j,S,a5,C];rfl)]
  refine⟨a0.get J.at' a1,?_,λU K=>?_⟩
  ·rw[<-Oe];exact b0
  ·rcases fE K with rfl|K
   ·exact⟨⟨T,WS ⟨T,a6.2.1,Nw _⟩ v.arg,Nw _⟩,rfl⟩
   ·exact h.ok U K
 ·exact(ai.keep ((l.then t).then Z)).then a0
end
section
variable {w w':World} {p r:Nat} {R:dR}
def Ou(e:lR w p r R):ba 221 #[LL p] w (Ok λf w'=>∃b d,f= LL b/\lR w' b d R/\b≠d/\w.heap.size<=b/\w.heap.size<=d/\b<w'.heap.size/\d<w'.heap.size/\ai w w'):=by
 refine xM λP h=>?_;have i:ai w P:=h.keep;have t:P.heap.size=w.heap.size:=by rw[h.heap]
 have a:=e.af i;obtain⟨c,n,k,l,m,o⟩:=a.map.at';refine⟨no,p,0,rfl,id,_,_,_,_,_,ae a.at' rfl,ae a.at' rfl,ae a.at' rfl,ae a.at' rfl,ae a.at' rfl,p,0,rfl,_,ae a.at' rfl,PC.ok (φ:=λf w'=>f= .map (some P.heap.size)/\w'=P.alloc (.map c n)) ((AnyW.maps_Clone Tryz.WU r c n P k).mono ?_) ?_⟩
 ·rintro u w' ⟨rfl,q⟩
  exact Ok.mk ⟨rfl,q⟩
 ·rintro _ v ⟨rfl,rfl⟩
  have j:ai P (P.alloc (.map c n)):=aj.alloc _ _;have x:(P.alloc (.map c n)).heap.size=P.heap.size+1:=sM
  refine⟨_,rfl,ai.keep j,PA.mk λy g z s=>⟨ai.keep g,Ok.mk ⟨_,P.heap.size,rfl,⟨s,⟨⟨c,n,g.get (heap_alloc_new P _) id,l,m,o⟩,e.map.tidy⟩,e.ok⟩,?_⟩⟩⟩;refine⟨oM,oM,oM,oM,oM,(i.then j).then g⟩
end
open Go.ar Go.Sort
def oA{b:Type}{f:Nat}{n:b->List Value}{d:b->Prop}{hl h1}{g:World}{D:RK}:∀{P:List b} {cs:List Value},bL (flat f n d hl h1) g D P cs↔cs=P.flatMap n/\∀x∈P,d x
 |[],cs=>by simp[bL]
 |x::P,cs=>by
  constructor
  ·rintro⟨k,l,rfl,⟨rfl,h⟩,i⟩
   obtain⟨rfl,j⟩:=oA.1 i;exact⟨rfl,λc a=>by rcases Q2.1 a with rfl|a;exact h;exact j c a⟩
  ·rintro⟨rfl,e⟩
   exact⟨n x,P.flatMap n,rfl,⟨rfl,e x (QV ..)⟩,oA.2 ⟨rfl,λc a=>e c (QJ _ a)⟩⟩
section
variable {α:Type} {enc:α->List Value} {K:Nat}
def gB(a:∀P,(enc P).length=K)(n:List α):(n.flatMap enc).length=n.length*K:=by
 induction n with
 |nil=>simp
 |cons P n b=>rw[List.flatMap_cons,QX,b,a,Xq,X7];omega
def ll[Inhabited α](f:0<K)(P:∀c,(enc c).length=K){n:List α}(d:a<n.length*K):(n.flatMap enc)[a]? =(enc n[a/K]!)[a % K]? :=by
 induction n generalizing a with
 |nil=>simp at d
 |cons c n g=>
  rw[List.flatMap_cons]
  by_cases b:a<K
  ·rw[XW (by rw[P];exact b),Nat.div_eq_of_lt b,Nat.mod_eq_of_lt b];rfl
  ·rw[Xq,X7]at d
   rw[X8 (by rw[P];omega),P,g oM];obtain⟨e,rfl⟩:∃e,a=e+K:=⟨a-K,oM⟩
   rw[Nat.add_sub_cancel,Nat.add_div_right _ f,Nat.add_mod_right];simp
def zv[Inhabited α](c:0<K)(b:∀f,(enc f).length=K)(n:List α):(flatK enc K n.toArray).toList=n.flatMap enc:=by
 apply X3;intro P
 by_cases a:P<n.length*K
 ·rw[ll c b a]
  have g:P<(flatK enc K n.toArray).size:=by simpa using a
  have d:=get_flatK enc K n.toArray P (by simpa using a);rw[getElem!_pos _ P g]at d;have e:P % K<(enc n[P/K]!).length:=by rw[b];exact Nat.mod_lt _ c
  rw[Qq (by simpa using a),Qq e]
  congr 1
  rw[Array.getElem_toList,d];rw[getElem!_pos _ _ (by simpa using e)]
  congr 1
  simp
 ·rw[Q7 (by simpa using a),Q7 (by rw[gB b];omega)]
end
instance:Inhabited ej:=⟨⟨0,0,0⟩⟩
def Xb(P:ej):∀a∈bK P,a.oneCell'=true:=by
 intro b n;simp only[bK,Q2,List.not_mem_nil,or_false]at n;rcases n with rfl|rfl|rfl<;>rfl
def pI(n:ej):(bK n).length=3:=rfl
def Dq(n P:ej):Int:=if n.group<P.group then-1 else 1
def AO(n P:ej):ltOf Dq n P=decide (n.group<P.group):=by
 unfold ltOf Dq
 by_cases a:n.group<P.group<;>simp[a]
def YB:SWO (ltOf Dq) where
 irrefl x:=by rw[AO];simp
 trans x y z h1 h2:=by rw[AO]at*;simp at*;omega
 ntrans x y z h1 h2:=by rw[AO]at*;simp at*;omega
variable{f:RK}{b:World}
def Xc{a c:ej}:ba 407 #[.agg (bK a).toArray,.agg (bK c).toArray] b (Ok λe f=>e= WP (Dq a c)/\G b f):=by
 refine uG (PA.Yz λi d j g=>PA.Yz λk n l h=>⟨_,ae ((n.keep (S:=λ_=>False)).get g id) rfl,_,ae h rfl,al.dec (λP=>Ok.mk ⟨?_,d.then n⟩) (λP=>Ok.mk ⟨?_,d.then n⟩)⟩)
 ·unfold Dq;rw[Zx P]
 ·unfold Dq;rw[Zq P]
def PT{m:List ej}(k:aU KL 135 f b d a c m)(C:m.length<=20000000):
  ba 406 #[.slice d a c,.func (.func 407) #[] #[]] b (Ok λM s=>M= .tuple #[]/\∃E:List ej,E.Perm m/\(E.Pairwise λt N=>¬N.group<t.group)/\aU KL 135 f s d a c E/\aj (λu=>aG d=some u) b s):=by
 obtain⟨cs,D,y,Z,hD⟩:=k.body;obtain⟨rfl,O⟩:=oA.1 Z;obtain⟨n,z⟩:∃n,n=m:=⟨m,rfl⟩
 rw[<-z]at y O;have F:=k.len dC;have v:n.length=a:=by rw[F,<-z]
 rcases y.cases with⟨rfl,rfl,rfl,h0⟩|⟨g,h,rfl,w,Q,H,R⟩
 ·have hd:n=[]:=QW v
  refine(AnyF.slices_SortFunc_none Tryz.VZ none 0 _ b).mono ?_;rintro A s ⟨rfl,rfl⟩;exact Ok.mk ⟨rfl,m,List.Perm.refl _,by rw[<-z,hd];exact List.Pairwise.nil,k,aj.refl _⟩
 ·have S:KL.k=3:=rfl
  rw[S]at R H;have a5:flatK bK 3 n.toArray=(n.flatMap bK).toArray:=by rw[<-zv (show 0<3 by decide) pI]
  have hH:HoldsK bK 3 b g 0 n.toArray:=by
   intro i o;rw[size_flatK]at o;simp only[List.size_toArray]at o;have T:i<(n.flatMap bK).length:=by rw[gB pI];exact o
   refine⟨?_,by simp[World.frozen?,w]⟩;have p:(flatK bK 3 n.toArray)[i]! =(n.flatMap bK)[i]:=by
    rw[a5,getElem!_pos _ i (by simpa using T)];simp
   rw[p,Xz];refine ae w ?_;have j:(h.toList.take (a*3))[i]? =some (n.flatMap bK)[i]:=by rw[R];exact Qq T
   rw[Xw,Zx oM]at j;simpa using j
  have C:=y.row;have I:c<=maxLen:=by
   obtain⟨_,a0,_,U,_,_,_,I,_⟩:=y.row.2.resolve_left (by rintro⟨k,_⟩;cases k);simp only[XX]at U;rw[U.2.2];exact I
  have a6:n.toArray.size<4611686018427387904:=by
   simp only[List.size_toArray,v];omega
  have V:=AnyQ.slices_SortFunc Tryz.VZ 3 (λb=>dI _ _ _ kR ⟨_,Tryz.underlying135⟩ b) (λb=>Tryz.sizeOf135 b) bK (λ_=>rfl) Xb (Dq) YB 407 #[] g 0 c n.toArray b
   (enters_of Tryz.func407 kR rfl) (λa9 q dk b0 t N=>(Xc).mono ?_) hH (aA w) a6
  ·rw[show n.toArray.size=a by simpa using v]at V
   refine V.mono ?_;rintro A s ⟨rfl,e,x,q,hp,hs,rfl⟩;obtain⟨p1,p2,W⟩:=hp;have P:e.size=a:=p1.trans (by simpa using v);have X:e.toList.Perm n:=by
    have p:e.extract 0 a=e:=by rw[<-P];exact Array.extract_size
    have j:n.toArray.extract 0 a=n.toArray:=by rw[show a=n.toArray.size by simpa using v.symm];exact Array.extract_size
    rw[p,j]at W;exact W
   have a2:flatK bK 3 e=(e.toList.flatMap bK).toArray:=by rw[<-zv (show 0<3 by decide) pI]
   have J:(sortWorldK bK 3 b g 0 x e q).heap[g]? =some (.cells (putCells id 0 (flatK bK 3 e) h) 135 (0,0)):=by
    have a7:=aA w;show((Sort.ahead b x).heap.modify g _++q)[g]? =_;rw[Array.getElem?_append_left (by simpa[Sort.ahead]using a7),Array.getElem?_modify,Zx rfl];show Option.map _ b.heap[g]? =_;rw[w];rfl
   have B:aj (λu=>aG (L1 g)=some u) b (sortWorldK bK 3 b g 0 x e q):=by
    refine⟨rfl,rfl,rfl,?_,λa1 B F=>?_⟩
    ·show b.heap.size<=((Sort.ahead b x).heap.modify g _++q).size
     simp[Sort.ahead]
    ·show((Sort.ahead b x).heap.modify g _++q)[a1]? =_
     rw[Array.getElem?_append_left (by simpa[Sort.ahead]using B),Array.getElem?_modify,Zq (λA=>F (by rw[A];rfl))]
     rfl
   have a3:(putCells id 0 (flatK bK 3 e) h).size=c*3:=by unfold putCells;rw[Array.size_mapIdx];exact H
   refine Ok.mk ⟨rfl,e.toList,by rw[<-z];exact X,?_,⟨⟨e.toList.flatMap bK,D,⟨⟨?_,.inr ⟨g,c,_,rfl,Qj _,J,Q,I,a3,?_⟩⟩⟩,oA.2 ⟨rfl,λt hx=>?_⟩,hD⟩,k.self,λu C=>Qk (k.aF u C) B.size⟩,B⟩
   ·rw[List.pairwise_iff_getElem]
    intro Y i hi o a8;have p:=hs Y i (Qj _) a8 (by simpa[P]using o);rw[AO,getElem!_pos _ i (by simpa using o),getElem!_pos _ Y (by simpa using hi)]at p;simpa using p
   ·rw[gB pI,XK,P];rfl
   ·apply X3
    intro r;rw[S,Xw];split
    ·rename_i l
     rw[ll (show 0<3 by decide) pI (by rw[XK,P];exact l),<-ll (show 0<3 by decide) pI (by rw[XK,P];exact l)];unfold putCells;have a4:r<h.size:=by rw[H];exact Qk l (Q0 _ Q)
     rw[Array.getElem?_toList,Array.getElem?_mapIdx,X6 a4];simp only[Option.map_some];have K:r<(flatK bK 3 e).size:=by rw[size_flatK,P];exact l
     rw[Zx ⟨Qj _,by rw[Xz];exact K⟩,Nat.sub_zero,getElem!_pos _ r K];have:(flatK bK 3 e)[r]=(e.toList.flatMap bK)[r]'(by rw[gB pI,XK,P];exact l):=by
      have j:=Zj (·[r]?) a2;simp only[List.getElem?_toArray]at j;rw[X6 K,Qq (by rw[gB pI,XK,P];exact l)]at j;exact XJ j
     rw[this];exact(Qq _).symm
    ·rename_i l
     rw[Q7 (by rw[gB pI,XK,P];omega)]
   ·have L:t∈n:=X.mem_iff.1 hx
    exact O t L
  ·rintro A s ⟨M,rfl,rfl,hG⟩
   exact⟨rfl,hG⟩
end
end Go.Proofs.YtjgjkeponbeekaaGreatDoor
namespace Go.ar
open Go
structure bb (w:World) (F:RK) (cls:Nat->Nat) (C:Nat->World->(RK)->Prop):Prop where
 at':∀k,C k w (λb=>F b/\cls b=k)
 aF:∀b,F b->b<w.heap.size
def mq(n:Nat->World->(RK)->Prop):Prop:=∀P a b G c,n P a G->aj c a b->(∀d,G d->¬c d)->n P b G
section
variable {w w':World} {F T:RK} {cls:Nat->Nat} {C C2:Nat->World->(RK)->Prop}
def bb.keep(a:bb w F cls C)(d:mq C)(b:aj T w w')(e:∀n,F n->¬T n):bb w' F cls C:=
 ⟨λc=>d c w w' _ T (a.at' c) b λn P=>e n P.1,λn P=>Qk (a.aF n P) b.size⟩
def bb.af(n:bb w F cls C)(P:mq C)(a:ai w w'):bb w' F cls C:=n.keep P a λ_ _ n=>n
def bb.Ie(g:bb w F cls C)(l:mq C){k:Nat}{G':RK}(f:aj (λn=>F n/\cls n=k) w w')(m:∀n,G' n->F n->cls n=k)(o:∀n,G' n->n<w'.heap.size)(p:C2 k w' G')(q:∀a G,a≠k->C a w' G->C2 a w' G):∃e b,bb w' e b C2/\aj F w w'/\(∀n,e n->((F n/\cls n≠k)\/G' n))/\(∀a,a≠k->(λn=>e n/\b n=a)=λn=>F n/\cls n=a)/\(λn=>e n/\b n=k)=G':=by
 classical
 have h:∀a,a≠k->(λn=>((F n/\cls n≠k)\/G' n)/\(if G' n then k else cls n)=a)=λn=>F n/\cls n=a:=λa d=>by
  funext n
  refine propext ⟨λP=>?_,λP=>?_⟩
  ·by_cases c:G' n
   ·rw[Zx c]at P;exact Zz P.2.symm d
   ·rw[Zq c]at P
    exact⟨(P.1.resolve_right c).1,P.2⟩
  ·have i:cls n≠k:=λr=>d (P.2.symm.trans r)
   rw[Zq λc=>i (m n c P.1)];exact⟨.inl ⟨P.1,i⟩,P.2⟩
 have j:(λn=>((F n/\cls n≠k)\/G' n)/\(if G' n then k else cls n)=k)=G':=by
  funext n
  refine propext ⟨λP=>?_,λP=>⟨.inr P,Zx P⟩⟩
  by_cases c:G' n
  ·exact c
  ·rw[Zq c]at P;exact Zz P.2 (P.1.resolve_right c).2
 refine⟨λn=>(F n/\cls n≠k)\/G' n,λn=>if G' n then k else cls n,⟨λa=>?_,λn P=>?_⟩,f.mono λn _ P=>P.1,λn P=>P,h,j⟩
 ·by_cases d:a=k
  ·subst d
   rw[j];exact p
  ·rw[h a d]
   refine q a _ d (l a w w' _ _ (g.at' a) f λn P s=>d (P.2.symm.trans s.2))
 ·rcases P with P|P
  ·exact Qk (g.aF n P.1) f.size
  ·exact o n P
def bb.fg(c:bb w F cls C)(h:mq C){k:Nat}{G':RK}(i:aj (λn=>F n/\cls n=k) w w')(e:∀n,G' n->(F n/\cls n=k)\/w.heap.size<=n)(j:∀n,G' n->n<w'.heap.size)(d:C2 k w' G')(l:∀a G,a≠k->C a w' G->C2 a w' G):∃b P,bb w' b P C2/\cy F w b w'/\(∀n,b n->((F n/\cls n≠k)\/G' n))/\(∀a,a≠k->(λn=>b n/\P n=a)=λn=>F n/\cls n=a)/\(λn=>b n/\P n=k)=G':=by
 obtain⟨b,P,f,d,g,m⟩:=c.Ie h i (λn o p=>(e n o).elim (·.2) λf=>by have:=c.aF n p;omega) j d l;exact⟨b,P,f,⟨d,λn q=>(g n q).elim (λc=>.inl c.1) λc=>(e n c).imp (·.1) id⟩,g,m⟩
def bb.same(c:bb w F cls C)(e:mq C){k:Nat}(d:aj (λn=>F n/\cls n=k) w w')(f:C2 k w' (λn=>F n/\cls n=k))(g:∀P G,P≠k->C P w' G->C2 P w' G):bb w' F cls C2:=
 ⟨λP=>by
  by_cases a:P=k
  ·subst a;exact f
  ·exact g P _ a (e P w w' _ _ (c.at' P) d λn b h=>a (b.2.symm.trans h.2)),λn b=>Qk (c.aF n b) d.size⟩
def bb.iE(d:bb w F cls C)(e:mq C){k:Nat}{G':RK}(c:cy (λn=>F n/\cls n=k) w G' w')(f:∀n,G' n->n<w'.heap.size)(g:C2 k w' G')(h:∀a G,a≠k->C a w' G->C2 a w' G):∃b P,bb w' b P C2/\cy F w b w'/\(∀n,b n->((F n/\cls n≠k)\/G' n))/\(∀a,a≠k->(λn=>b n/\P n=a)=λn=>F n/\cls n=a)/\(λn=>b n/\P n=k)=G':=d.fg e c.1 c.2 f g h
def bb.join{G:Nat->RK}(a:∀n,C n w (G n))(g:∀d e P,G d P->G e P->d=e)(h:∀n P,G n P->P<w.heap.size):∃cls,bb w (λP=>∃n,G n P) cls C:=by
 classical
 refine⟨λP=>if a:∃n,G n P then a.choose else 0,⟨λn=>?_,λP ⟨n,b⟩=>h n P b⟩⟩;have:(λP=>(∃n,G n P)/\(if a:∃n,G n P then a.choose else 0)=n)=G n:=by
  funext P
  refine propext ⟨λ⟨c,f⟩=>?_,λb=>⟨⟨n,b⟩,?_⟩⟩
  ·rw[dif_pos c]at f;exact f▸c.choose_spec
  ·have c:∃n,G n P:=⟨n,b⟩
   rw[dif_pos c];exact g _ _ P c.choose_spec b
 rw[this];exact a n
end
end Go.ar
namespace Go.Proofs.YtjgjkeponbeekaaGreatDoor
open Go.ar
def Yo:ks Nat:=flat 1 (λP=>[LL P]) (λ_=>True) (λ_=>rfl) (λa b n=>by simp at n;subst n;rfl)
def QP:kv PP 197 205 1 8:=⟨kR,kR,dC⟩
structure cK (w:World) (G:RK) (a:am) (n c:Nat) (Rs:List dR):Prop where
 body:∃ps:List (Nat×Nat),ps.length=Rs.length/\aU Yo 205 (λb=>aG a=some b) w a n c (ps.map (·.1))/\
  (∀(i j:Nat) (x y:Nat×Nat),ps[i]? =some x->ps[j]? =some y->x.1≠y.2/\(x.2=y.2->i=j))/\(∀x∈ps,G x.1/\G x.2/\aG a≠some x.1/\aG a≠some x.2)/\
  ∀(i:Nat) (x:Nat×Nat) (R:dR),ps[i]? =some x->Rs[i]? =some R->lR w x.1 x.2 R
 self:∀b,aG a=some b->G b
variable{F:Nat×Nat}{h:Program}{g r:TypeId}{q v:UX}
section
variable {w w':World} {G G' T:RK} {a:am} {n c:Nat} {Rs:List dR}
def cK.keep(b:cK w G a n c Rs)(h:aj T w w')(d:∀P,G P->¬T P):cK w' G a n c Rs:=by
 obtain⟨i,j,k,l,e,m⟩:=b.body;exact⟨⟨i,j,k.keep h λP o=>d P (b.self P o),l,e,λp f q g r=>(m p f q g r).keep h (d _ (e f (QZ g)).1) (d _ (e f (QZ g)).2.1)⟩,b.self⟩
def cK.af(P:cK w G a n c Rs)(b:ai w w'):cK w' G a n c Rs:=P.keep b λ_ _ P=>P
def cK.mono(g:cK w G a n c Rs)(b:∀P,G P->G' P):cK w G' a n c Rs:=by
 obtain⟨h,i,j,k,d,l⟩:=g.body;exact⟨⟨h,i,j,k,λe f=>⟨b _ (d e f).1,b _ (d e f).2.1,(d e f).2.2⟩,l⟩,λP m=>b P (g.self P m)⟩
def cK.len(P:cK w G a n c Rs):n=Rs.length:=by
 obtain⟨e,b,d,-⟩:=P.body;rw[d.len dC,Q8,b]
def cK.nil(w:World):cK w (λ_=>False) none 0 0 []:=⟨⟨[],rfl,(aU.nil w).mono (λP n=>n.elim) (λP n=>by cases n),sM,sM,sM⟩,λP n=>by cases n⟩
def cK.elem(m:cK w G a n c Rs){P:Nat}{o:dR}(u:Rs[P]? =some o):∃f e g,a=L1 f/\w.cell? ⟨f,0+P,none⟩=some (LL e)/\lR w e g o/\e≠g/\G e/\G g/\G f/\
  ∀w' p,aj (·=g) w w'->lR w' e g p->cK w' G a n c (Rs.set P p):=by
 obtain⟨h,B,v,j,x,y⟩:=m.body;have L:=(Qv.1 u).1;have b:h[P]? =some h[P]:=Qq oM;generalize h[P]=d at b;obtain⟨cs,D,C,E,M⟩:=v.body;have q:=x d (QZ b);obtain⟨rfl,-⟩:=oA.1 E;have F:((h.map (·.1)).flatMap λe=>[Value.pointer (L1 e)])[P]? =some (LL d.1):=by
  rw[ll (K:=1) dC (λ_=>rfl) (by simp;omega),Nat.div_one,Nat.mod_one,getElem!_pos _ P (by simp;omega)];simp[(Qv.1 b).2]
 obtain⟨f,z,H⟩:=C.cell F;refine⟨f,d.1,d.2,z,by rw[Xz];exact H.2,y P d o b u,(j P P d d b b).1,q.1,q.2.1,m.self f (by rw[z];rfl),λw' p A I=>⟨⟨h,by simpa using B,v.keep A λN J r=>q.2.2.2 (r▸J),j,x,λk s K i l=>?_⟩,m.self⟩⟩
 by_cases t:P=k
 ·subst t
  rw[b]at i;cases i
  rw[List.getElem?_set_self oM]at l;cases l
  exact I
 ·rw[List.getElem?_set_ne t]at l
  exact(y k s K i l).keep A (j k P s d i b).1 λr=>t ((j P k d s b i).2 r.symm)
def cK.push(p:cK w G a n c Rs)(I:∀P,G P->P<w.heap.size){e f M:Nat}{N:dR}(J:lR w e f N)(Q:¬G e)(u:¬G f)(X:e≠f)(Y:kv h g 205 1 8)(Z:w.heap[M]? =some (.cells #[LL e] 205 F))(b:Rs.length<=1000)(K:∀k y w' G',cK w' G' k (n+1) y (Rs++[N])->aj G w w'->(∀P,G' P->G P\/P=e\/P=f\/w.heap.size<=P)->(∀P,G' P->P<w'.heap.size)->q (.slice k (n+1) y) w'):
  aK h (Builtin.append_ #[g,g] r #[.slice a n c,.slice (L1 M) 1 1]) w q v:=by
 obtain⟨l,m,L,h3,z,h5⟩:=p.body;have a1:e<w.heap.size:=aA J.at';have a2:f<w.heap.size:=J.map.lt;refine fJ L Y Z (D:=λ_=>False) (x:=e) ⟨rfl,trivial⟩ (λP b=>b.elim) (by unfold aR;simp;omega) (by unfold maxLen;simp;omega) λk y w' F' R A hF=>?_;have a0:∀P,aG k=some P->aG a=some P\/w.heap.size<=P:=λP b=>(hF P (R.self P b)).imp id λp=>p.resolve_left id;have s:=R.alone;have a5:=A.size;have S:∀P,aG k=some P->aG a=some P\/w.heap.size<=P:=a0;have C:∀P,P<w.heap.size->aG a≠some P->aG k≠some P:=λP b m L=>(S P L).elim m oM;have T:aG a≠some e:=λj=>Q (p.self e j);have U:aG a≠some f:=λj=>u (p.self f j);refine K k y w' (λP=>(G P\/P=e\/P=f\/aG k=some P)) ⟨⟨l++[(e,f)],by simp[m],by rw[Q3];exact s,λi V x t B H=>?_,λx B=>?_,λi x a3 B o=>?_⟩,λP b=>.inr (.inr (.inr b))⟩ (A.mono λP _ b=>p.self P b) (λP b=>?_) λP b=>?_
 ·have E:∀i x,(l++[(e,f)])[i]? =some x->(l[i]? =some x)\/(i=l.length/\x=(e,f)):=λi x B=>by
   rw[List.getElem?_append]at B;split at B
   ·exact .inl B
   ·rename_i W
    have:i-l.length=0:=by
     rcases Nat.eq_zero_or_pos (i-l.length)with O|O
     ·exact O
     ·rw[Q7 (by simp;omega)]at B;cases B
    rw[this]at B;simp at B;exact .inr ⟨oM,B.symm⟩
  rcases E i x B with B|⟨rfl,rfl⟩<;>rcases E V t H with H|⟨rfl,rfl⟩
  ·exact h3 i V x t B H
  ·have d:=z x (QZ B)
   exact⟨λj=>u ((show x.1=f from j)▸d.1),λj=>Zz ((show x.2=f from j)▸d.2.1) u⟩
  ·have d:=z t (QZ H)
   exact⟨λj=>Q ((show e=t.2 from j)▸d.2.1),λj=>Zz ((show f=t.2 from j)▸d.2.1) u⟩
  ·exact⟨X,λ_=>rfl⟩
 ·rcases Q6.1 B with B|B
  ·have d:=z x B
   exact⟨.inl d.1,.inl d.2.1,C _ (I _ d.1) d.2.2.1,C _ (I _ d.2.1) d.2.2.2⟩
  ·simp at B;subst B
   exact⟨.inr (.inl rfl),.inr (.inr (.inl rfl)),C _ a1 T,C _ a2 U⟩
 ·rw[List.getElem?_append]at B o
  rw[<-m]at o;split at B
  ·rename_i a4
   rw[Zx a4]at o;have d:=z x (QZ B);exact(h5 i x a3 B o).keep A d.2.2.1 d.2.2.2
  ·rename_i W
   rw[Zq W]at o;have:i-l.length=0:=by
    rcases Nat.eq_zero_or_pos (i-l.length)with O|O
    ·exact O
    ·rw[Q7 (by simp;omega)]at B;cases B
   rw[this]at B o;simp at B o;subst B o;exact J.keep A T U
 ·rcases b with b|b|b|b
  ·exact .inl b
  ·exact .inr (.inl b)
  ·exact .inr (.inr (.inl b))
  ·rcases S P b with m|m
   ·exact .inl (p.self P m)
   ·exact .inr (.inr (.inr m))
 ·rcases b with b|b|b|b
  ·have:=I P b;omega
  ·omega
  ·omega
  ·exact s.aF P b
def cPt:ks (List dR) where
 k:=2
 rep:=λw D Rs cs=>∃P a n c,cs=[.pointer P,.slice a n c]/\cK w D a n c Rs
 keep:=λ⟨P,a,n,c,b,d⟩ g e=>⟨P,a,n,c,b,d.keep g e⟩
 mono:=λ⟨P,a,n,c,b,d⟩ e=>⟨P,a,n,c,b,d.mono e⟩
 len:=λ⟨P,a,n,c,b,d⟩=>by rw[b];rfl
 one:=λ⟨P,a,n,c,b,d⟩ h f=>by
  rw[b]at f;simp only[Q2,List.not_mem_nil,or_false]at f;rcases f with rfl|rfl<;>rfl
def Xr:kv PP 200 199 2 32:=⟨kR,kR,dC⟩
end
def KO(n:aT)(P:List ah)(a:ah):eB n (P++[a])=(eB n P).add a:=by unfold eB;rw[List.foldl_append];rfl
def KQ(n:aT)(P:List ah)(a:ah):bZ n (P++[a])=((bZ n P).add a).2:=by unfold bZ;rw[List.foldl_append];rfl
def KP(a:aT)(n:List ah):(eB a n).view=bZ a n:=by
 have:∀(n:List ah) (P:kO),(n.foldl kO.add P).view=n.foldl (λc b=>(c.add b).2) P.view:=by
  intro n
  induction n with
  |nil=>intro P;rfl
  |cons b n d=>intro P;rw[List.foldl_cons,List.foldl_cons,d];rfl
 exact this n _
variable{p:Array Value}{t:UV}{e:Int}{H:List ah}{g6:List dR}{a c:Nat}{d:am}{b:World}{S:aT}{m:ah}{e0:bf}{e1:jU}
def Ij(c:dm S=0)(P:List ah):(bZ S P).OK/\(bZ S P).decl=S:=by
 have:∀(P:List ah) (n:bf),n.OK->(P.foldl (λn a=>(n.add a).2) n).OK/\(P.foldl (λn a=>(n.add a).2) n).decl=n.decl:=by
  intro P
  induction P with
  |nil=>intro n b;exact⟨b,rfl⟩
  |cons a P d=>
   intro n b;obtain⟨e,f⟩:=bf.AV b a;obtain⟨g,h⟩:=d _ e;exact⟨g,h.trans f⟩
 exact this P _ (bf.tU c)
def dR.Xs(P:dR)(a:cZ)(n:Int):(P.add a n).p=P.p:=by
 unfold dR.add;dsimp only;split
 ·rfl
 ·split<;>rfl
def Ic(c:aT)(n:List ah):(eB c n).rows.map (·.p)=c.projs:=by
 have:∀(n:List ah) (P:kO),(n.foldl kO.add P).rows.map (·.p)=P.rows.map (·.p):=by
  intro n
  induction n with
  |nil=>intro P;rfl
  |cons a n d=>
   intro P;rw[List.foldl_cons,d];show((P.rows.map λb=>b.add (P.view.add a).1 (tr ((P.view.add a).2.state a.aZ a.agg) b.p)).map (·.p))=_;rw[List.map_map];exact List.map_congr_left λb _=>b.Xs _ _
 refine(this n _).trans ?_;show(c.projs.map λe=>(⟨e,[]⟩:dR)).map (·.p)=_;rw[List.map_map];exact List.map_id _
def qE(n:aT)(P:List ah):(eB n P).rows.length=n.projs.length:=by
 rw[<-Ic n P,Q8]
def kZ(a:aT)(n:Nat)(P:List ah):List (List dR):=(List.range (P.length/n+1)).map λb=>(eB a (P.take (b*n))).rows
section
variable {d:aT} {every:Nat} {l:List ah}
def AS:(kZ d every l).length=l.length/every+1:=by simp[kZ]
def Q_(n:a<=l.length/every):(kZ d every l)[a]? =some (eB d (l.take (a*every))).rows:=by
 unfold kZ;rw[Q9,List.getElem?_range oM];rfl
def Rf:kZ d every []=[(eB d []).rows]:=by
 unfold kZ;rw[ZQ,Nat.zero_div];simp
def Ov(c:0<every)(e:ah):kZ d every (l++[e])=if l.length+1=(l.length/every+1)*every then kZ d every l++[(eB d (l++[e])).rows]else kZ d every l:=by
 have g:=Nat.div_add_mod l.length every;have h:=Nat.mod_lt l.length c;have P:∀n,n<=l.length/every->(l++[e]).take (n*every)=l.take (n*every):=λn a=>by
  have:n*every<=l.length:=Xx (Q0 _ a) (Nat.div_mul_le_self ..);rw[List.take_append_of_le_length this]
 split
 ·rename_i b
  have f:(l.length+1)/every=l.length/every+1:=by rw[b];exact Nat.mul_div_cancel _ c
  unfold kZ;rw[QX,List.length_singleton,f,List.range_succ,Q3]
  congr 1
  ·refine List.map_congr_left λn a=>?_
   rw[P n (by have:=List.mem_range.1 a;omega)]
  ·rw[List.map_singleton,<-b,Qz sM]
 ·rename_i b
  have f:(l.length+1)/every=l.length/every:=by
   have i:(l.length+1)/every<l.length/every+1:=by
    rw[Nat.div_lt_iff_lt_mul c];rw[X7,Nat.one_mul,Nat.mul_comm]at b⊢;omega
   have j:l.length/every<=(l.length+1)/every:=Nat.div_le_div_right oM;omega
  unfold kZ;rw[QX,List.length_singleton,f];refine List.map_congr_left λn a=>?_;rw[P n (by have:=List.mem_range.1 a;omega)]
def Oy(P:0<every)(b:a<=l.length/every):(kZ d every l).take (a+1)=kZ d every (l.take (a*every)):=by
 have c:a*every<=l.length:=Xx (Q0 _ b) (Nat.div_mul_le_self ..);unfold kZ;rw[Qy,X2 c,Nat.mul_div_cancel _ P,<-List.map_take,List.take_range,X2 oM];refine List.map_congr_left λe f=>?_;have n:e<=a:=by have:=List.mem_range.1 f;omega
 rw[List.take_take,X2 (Q0 _ n)]
end
structure xh where
 ta:am
 tn:Nat
 tc:Nat
 pa:am
 pn:Nat
 pc:Nat
 every:Nat
 ea:am
 en:Nat
 ec:Nat
 vp:Nat
 ra:am
 rn:Nat
 rc:Nat
 qa:am
 qn:Nat
 qc:Nat
abbrev xh.cells(n:xh):Array Value:= #[.slice n.ta n.tn n.tc,.slice n.pa n.pn n.pc,WP (n.every:Int),.slice n.ea n.en n.ec,LL n.vp,.slice n.ra n.rn n.rc,.slice n.qa n.qn n.qc]
def AQ(b:Nat)(c:Array Value)(n:xh)(d:aT)(e:bf)(f:List dR)(g:List ah)(a:List (List dR)):Nat->World->(RK)->Prop
 |0=>λP G=>G b/\P.heap[b]? =some (.cells c 202 (0,0))
 |1=>λP G=>bu P G d n.ta n.tn n.pa n.pn
 |2=>λP G=>aU kY 63 G P n.ea n.en n.ec g
 |3=>λP G=>cJ P n.vp G e
 |4=>λP G=>cK P G n.ra n.rn n.rc f
 |5=>λP G=>aU cPt 199 G P n.qa n.qn n.qc a
 |_=>λ_ _=>True
def dW{d:xh}{c:List (List dR)}:mq (AQ a p d S e0 g6 H c):=by
 intro k e w' G f n P b
 match k,n with
 |0,n=>exact⟨n.1,P.get n.2 (b a n.1)⟩
 |1,n=>exact bu.keep n P b
 |2,n=>exact aU.keep n P b
 |3,n=>exact cJ.keep n P b
 |4,n=>exact cK.keep n P b
 |5,n=>exact aU.keep n P b
 |k+6,n=>trivial
abbrev ez(b:World)(c:RK)(n:Nat->Nat)(d:Nat)(a:xh)(e:aT)(f:bf)(g:List dR)(h:List ah)(P:List (List dR)):Prop:=bb b c n (AQ d a.cells a e f g h P)
section
variable {w w':World} {p:Nat} {F T D:RK} {cls:Nat->Nat} {q:xh} {d:aT} {V:bf} {Rs:List dR} {l:List ah} {pts:List (List dR)}
def ez.af(n:ez w F cls p q d V Rs l pts)(P:ai w w'):ez w' F cls p q d V Rs l pts:=bb.af n dW P
def ez.bC(n:ez w F cls p q d V Rs l pts):w.heap[p]? =some (.cells q.cells 202 (0,0)):=(n.at' 0).2
def ez.self(n:ez w F cls p q d V Rs l pts):F p/\cls p=0:=(n.at' 0).1
def Ev(s:ez w F cls p q d V Rs l pts)(hd:dm d=0)(hT:ft w)(hl:l.length<=20000000){vp:am}{y:am}(hr:cK w D y a c g6)(hD:∀n,D n->n<w.heap.size)(hn:g6.length<=8):
  ba 159 #[LL p,.agg #[.pointer vp,.slice y a c]] w (Ok λT w'=>∃g y a c e G,T= .agg #[LL g,.slice y a c]/\cJ w' g e (bZ d l)/\cK w' G y a c g6/\(∀n,e n->w.heap.size<=n)/\(∀n,G n->w.heap.size<=n/\n<w'.heap.size/\¬e n)/\ai w w'):=by
 have U:=s.aF;have g7:=hr.len;refine tQ (PA.mk λt k5 s5 g5=>PA.mk λz k6 s6 a3=>?_);have A:=k5.then k6;have c1:∀{i:World},ai w i->Row kY 96 i (λn=>F n/\cls n=2) q.ea q.en l:=λ{i} u=>((show aU kY 63 (λn=>F n/\cls n=2) w q.ea q.en q.ec l from s.at' 2).af u).row dC (by unfold aR;omega);have m:∀{i:World},ai w i->ba 79 #[.agg #[.slice q.ta q.tn q.tc,.slice q.pa q.pn q.pc],.slice q.ea q.en q.ec] i (Ok λT w'=>∃p F,T= LL p/\cJ w' p F (bZ d l)/\(∀n,F n->i.heap.size<=n)/\ai i w'):=λ{i} u=>
  HZ hd (hT.af u) (show bu i (λn=>F n/\cls n=1) d q.ta q.tn q.pa q.pn from bu.keep (s.at' 1) u λ_ _ s=>s) (λn P=>by have:=U n P.1;have:=u.size;omega) (c1 u) (λn P=>by have:=U n P.1;have:=u.size;omega) hl
 refine⟨λh oo w'=>oo=0/\∃g e,w'.heap[h]? =some (.cells #[LL g,.slice none 0 0] 199 (0,0))/\cJ w' g e (bZ d l)/\(∀n,e n->z.heap.size<=n)/\¬e h/\z.heap.size<=h/\ai z w',?_,?_⟩
 ·intro o d9
  have v:ai z o:=d9.keep;have s9:o.heap.size=z.heap.size:=by rw[d9.heap]
  have W:=(s.af (A.then v)).bC;have zp:=U p s.self.1;have nS:¬o.heap.size<=p:=by have:=(A.then v).size;omega
  refine⟨λn=>o.heap.size<=n,p,0,rfl,nS,_,_,_,_,_,_,ae W rfl,ae W rfl,p,0,rfl,nS,_,_,_,ae W rfl,PC.ok (m (A.then v)) ?_,PA.mk λg8 X g9 d3=>⟨ai.keep X,PC.ok (m ((A.then v).then X)) ?_⟩⟩
  ·rintro _ J ⟨g,e,rfl,r,B,Y⟩
   refine⟨_,rfl,ai.keep Y,PA.mk λd4 Z h0 d5=>⟨ai.keep Z,PS.mk d5 sM λh2 d6 h3 d7=>PS.mk d7 sM λd8 e0 h4 e1=>?_⟩⟩;have C:=r.aF;have h5:=Y.size;have f:aj (λn=>n=J.heap.size) d4 d8:=d6.then e0;refine⟨f.mono λn _ b=>by have b:n=J.heap.size:=b;omega,rfl,g,e,e1,(r.af Z).keep f λn P b=>by have b:n=J.heap.size:=b;have:=C n P;omega,λn P=>by have:=B n P;omega,λP=>by have:=C _ P;omega,oM,((v.then Y).then Z).new f λn P=>.inr (by have P:n=J.heap.size:=P;omega)⟩
  ·rintro _ e2 ⟨g,e,rfl,r,B,K⟩
   have e3:=K.get d3 id;have C:=r.aF;have h6:=K.size;refine⟨_,rfl,ai.keep K,PS.mk e3 sM λh7 e4 h8 e5=>PS.mk e5 sM λe6 e7 h9 e8=>?_⟩;have f:aj (λn=>n=o.heap.size) e2 e6:=e4.then e7;refine⟨f.mono λn _ b=>by have b:n=o.heap.size:=b;omega,rfl,g,e,e8,r.keep f λn P b=>by have b:n=o.heap.size:=b;have:=B n P;omega,λn P=>by have:=B n P;omega,λP=>by have:=B _ P;omega,oM,((v.then X).then K).new f λn P=>.inr (by have P:n=o.heap.size:=P;omega)⟩
 rintro h _ _ L ⟨rfl,g,e,E,r,c4,e9,g4,M⟩;have a5:=A.then M;have i0:=M.size;have a4:h<L.heap.size:=aA E;have C:=r.aF;have c5:=M.get (k6.get g5 id) id;have c6:=M.get a3 id;refine⟨_,_,_,ae c5 rfl,λa2 a7 w'=>∃j:Nat,a7=j/\j<=a/\a2=a-j/\∃N H O G,w'.heap[h]? =some (.cells #[LL g,.slice N H O] 199 (0,0))/\cK w' G N H O (g6.take j)/\(∀n,G n->L.heap.size<=n/\n<w'.heap.size)/\aj (·=h) L w',
  ⟨_,0,rfl,Qj _,rfl,none,0,0,λ_=>False,E,cK.nil _,λn P=>P.elim,aj.refl _⟩,?_⟩
 rintro a2 _ _ I ⟨j,rfl,hj,rfl,N,H,O,G,Q,R,k,x⟩;have i1:=x.size;refine al.dec (λi2=>?_) (λi3=>?_)
 ·have f2:j<g6.length:=oM
  have hx:g6[j]? =some g6[j]:=Qq f2;generalize g6[j]=c2 at hx;obtain⟨a8,pj,rj,ha,a0,hR,a9,b0,b1,-,-⟩:=((hr.af a5).keep x λn P b=>by have b:n=h:=b;have:=hD n P;omega).elem hx;have f4:=R.len;rw[Qy,X2 oM]at f4;refine⟨a8,0,ha,oM,oM,_,by rw[Qx];exact a0,λc7 c8=>⟨λ_=>False,id,?_⟩⟩;have b2:ai I c7:=c8.keep;have i4:c7.heap.size=I.heap.size:=by rw[c8.heap]
  refine⟨_,_,_,ae (b2.get Q id) rfl,PC.ok (Ou (hR.af b2)) ?_⟩;rintro _ i5 ⟨p',r',rfl,f5,f6,i6,i7,i8,i9,b3⟩;have j0:=b3.size;refine⟨_,rfl,b3,PA.mk λj1 b4 j2 f8=>⟨b4,?_⟩⟩;have a1:=(b2.then b3).then b4;refine(R.af a1).push (λn P=>by have:=(k n P).2;omega) (f5.af b4) (λP=>by have:=(k _ P).2;omega) (λP=>by have:=(k _ P).2;omega) f6 QP f8 (by rw[Qy];omega) λb6 c3 j3 G3 g0 b5 g1 c9=>⟨_,_,_,rfl,?_⟩
  have j4:=b5.size;have c0:=b5.get (a1.get Q id) λP=>by have:=(k _ P).1;omega
  have a6:∀n,G3 n->L.heap.size<=n:=λn P=>by
   rcases g1 n P with S|S|S|S
   ·exact(k n S).1
   ·omega
   ·omega
   ·omega
  refine PS.mk c0 sM λj5 d0 j6 g2=>⟨_,oM,j+1,aq oM,oM,rfl,b6,H+1,c3,G3,g2,?_,λn P=>⟨a6 n P,by have:=c9 n P;omega⟩,?_⟩
  ·rw[Qw,hx]
   exact g0.keep d0 λn P b=>by have b:n=h:=b;have:=a6 n P;omega
  ·exact((x.af a1).new b5 λn P=>.inr (k n P).1).then d0
 ·rw[Qz oM]at R
  have d1:=x.get c6 λb=>by have b:t.heap.size=h:=b;omega
  refine⟨_,_,_,_,ae Q rfl,ae Q rfl,PS.mk d1 sM λj7 b7 j8 g3=>PS.mk g3 sM λb8 b9 j9 d2=>⟨_,_,_,_,ae d2 rfl,ae d2 rfl,Ok.mk ⟨g,N,H,O,e,G,rfl,?_,?_,λn P=>by have:=c4 n P;omega,λn P=>⟨?_,?_,?_⟩,?_⟩⟩⟩
  ·have f:aj (λn=>n=t.heap.size) I b8:=b7.then b9
   exact(r.keep x λn P b=>e9 ((show n=h from b)▸P)).keep f λn P b=>by have b:n=t.heap.size:=b;have:=c4 n P;omega
  ·have f:aj (λn=>n=t.heap.size) I b8:=b7.then b9
   exact R.keep f λn P b=>by have b:n=t.heap.size:=b;have:=k n P;omega
  ·have:=k n P;omega
  ·have:=k n P;omega
  ·intro hf;have:=k n P;have:=C n hf;omega
  ·have f:aj (λn=>n=t.heap.size) I b8:=b7.then b9
   exact(a5.new x λn P=>.inr (by have P:n=h:=P;omega)).new f λn P=>.inr (by have P:n=t.heap.size:=P;omega)
end
section
variable {w w':World} {p:Nat} {F T D:RK} {cls:Nat->Nat} {q:xh} {d:aT} {V:bf} {Rs:List dR} {l:List ah} {pts:List (List dR)}
def Dx{b:am}{w:World}{D:RK}(g:Row aP 8 w D b a m.aN)(s:∀n,D n->n<w.heap.size):
  ba 186 #[kN m b a c] w (Ok λt w'=>∃b a c G,t=kN m b a c/\Row aP 8 w' G b a m.aN/\(∀n,G n->w.heap.size<=n/\n<w'.heap.size)/\ai w w'):=by
 have u:=g.fe;have v:=g.len;refine zH (PA.mk λz k A d=>PA.mk λB e C h=>⟨_,_,_,ae (e.get d id) rfl,PC.ok (bT (g.af (k.then e)) λn P=>by have:=s n P;omega) ?_⟩);rintro _ E ⟨l,o,p,G,rfl,q,f,i⟩;have d:=f.get (e.get d id) id;have h:=f.get h id;refine⟨_,_,_,rfl,PS.mk d (by simp[aI]) λF j H x=>?_⟩;refine au (cs:=aI m l o p) (bh _ _ _ _) x (aD (bh _ _ _ _) (j.get h oM) rfl λI r J y=>au (bh _ _ _ _) y (Ok.mk ⟨l,o,p,G,rfl,?_,?_,?_⟩))
 ·refine(((q.keep j λn P=>?_).keep r λn P=>?_).row (bytes:=8) dC (by rw[<-v];exact u))
  ·have:=i n P;omega
  ·have:=i n P;omega
 ·intro n P
  have:=i n P;have:=q.aF n P;omega
 ·have K:=f.size
  exact((aj.new ((k.then e).then f) j λn P=>.inr oM).new r λn P=>.inr oM)
def ez.store{P:xh}{a:Array Value}(n:bb w F cls (AQ p q.cells P d V Rs l pts))(c:aj (·=p) w w')(e:w'.heap[p]? =some (.cells a 202 (0,0))):bb w' F cls (AQ p a P d V Rs l pts):=by
 refine bb.same n dW (k:=0) (c.mono λi _ f=>f▸(n.at' 0).1) ⟨(n.at' 0).1,e⟩ λb G g h=>?_;rcases b with _|_|_|_|_|_|b<;>first|exact h|exact Zz rfl g
def Ew(P:ez w F cls p q d V Rs l pts)(I:dm d=0)(J:ft w)(K:l.length<=20000000)(L:Rs.length<=8)(b2:pts.length*q.every<9223372036854775808)(b3:pts.length<=20000001):
  ba 107 #[LL p] w (Ok λM w'=>M= .tuple #[]/\∃t u e,ez w' u e p t d V Rs l (if l.length=pts.length*q.every then pts++[Rs]else pts)/\t.every=q.every/\cy F w u w'):=by
 have i:=P.bC;have N:=aU.len (P.at' 2) dC;have O:=aU.len (P.at' 5) dC;have Q:=P.aF;have R:GT .i64 (((q.qn:Nat):Int)*(q.every:Int))=((pts.length*q.every:Nat):Int):=by
  rw[O,show((pts.length:Nat):Int)*(q.every:Int)=((pts.length*q.every:Nat):Int) by push_cast;rfl,wrap_i64 (by unfold aM;omega)]
 refine tR ⟨p,0,rfl,_,_,_,ae i rfl,p,0,rfl,_,_,_,ae i rfl,p,0,rfl,_,ae i rfl,λS T=>?_⟩;rw[R,N];have j:ai w S:=T.keep;refine al.eH (λb4=>?_) (λb5=>Ok.mk ⟨rfl,q,F,cls,?_,rfl,ai.keep j,λn a=>.inl a⟩)
 rotate_left
 ·rw[Zq oM];exact ez.af P j
 rw[Zx oM];intro v U;have h:ai w v:=j.then U.keep;have c:=ez.af P h;have k:=c.bC;refine⟨λ_=>False,p,0,rfl,id,_,_,_,ae k rfl,p,0,rfl,_,_,_,_,ae k rfl,ae k rfl,PC.ok (Ev c I (J.af h) K (c.at' 4) (λn a=>c.aF n a.1) L) ?_⟩;rintro _ b6 ⟨b7,a3,n2,c2,Fv,G,rfl,-,W,-,m,o⟩;refine⟨_,_,_,_,rfl,o,PA.mk λb8 r b9 X=>⟨r,?_⟩⟩;have x:=o.then r;have Y:=ez.af c x;have c1:=h.size;have c3:=o.size;have s:∀n,aG q.qa=some n->F n/\cls n=5:=λn a=>aU.self (P.at' 5) n a;refine fJ (c:=cPt) (x:=Rs) (Y.at' 5) Xr X (D:=G) ⟨_,_,_,_,rfl,W.af r⟩ (λn a=>⟨by have:=(m n a).2.1;omega,λf=>by have:=Q n (s n f).1;have:=(m n a).1;omega⟩) (by unfold aR;omega) (by unfold maxLen;omega) λy b Z F2 z A b0=>⟨_,_,_,rfl,p,0,rfl,?_⟩
 have a0:¬aG q.qa=some p:=λf=>by have g:=(s p f).2;rw[P.self.2]at g;cases g
 have c4:=A.size;have a1:aj (λn=>F n/\cls n=5) v Z:=(ai.keep x).then (A.mono λn _ a=>s n a);obtain⟨F3,a2,B,C,-,-⟩:=c.fg dW (k:=5) (G':=F2) (C2:=AQ p q.cells {q with qa:=y,qn:=q.qn+1,qc:=b} d V Rs l (pts++[Rs])) a1
  (λn a=>(b0 n a).imp id λP=>P.elim (λP=>(m n P).1) λP=>oM) z.aF z λE G hj hc=>by
   rcases E with _|_|_|_|_|_|E<;>first|exact hc|exact Zz rfl hj
 refine PS.mk (B.at' 0).2 sM λc5 H c6 b1=>Ok.mk ⟨rfl,{q with qa:=y,qn:=q.qn+1,qc:=b},F3,a2,ez.store B H b1,rfl,?_,λn a=>?_⟩
 ·refine((ai.keep h).then C.keep).then (H.mono λn _ f=>f▸P.self.1)
 ·rcases C.new n a with g|g
  ·exact .inl g
  ·exact .inr oM
end
section
variable {w w':World} {p:Nat} {F T D:RK} {cls:Nat->Nat} {q:xh} {d:aT} {V:bf} {Rs:List dR} {l:List ah} {pts:List (List dR)}
def qC(V:bf)(n:ah)(Rs:List dR):List dR:=Rs.map λP=>P.add (V.add n).1 (tr ((V.add n).2.state n.aZ n.agg) P.p)
def TO{d:aT}(b:dm d=0)(c:e1∈d.projs):0<=e1.Gk:=by
 have P:=(nx b).2.2 e1 c;unfold mN at P;split at P
 ·cases P
 split at P
 ·cases P
 rename_i n
 by_cases a:e1.group=3
 ·rw[a]at n
  simp only[BEq.rfl,Bool.true_and,bne_self_eq_false,Bool.false_and,Bool.or_false,Bool.not_eq_true,Bool.not_eq_false']at n;unfold TK within at n;simp only[QK,Zk]at n;exact n.1.1
 ·have e:(e1.group==3)=false:=by simpa using a
  have f:(e1.group !=3)=true:=by simpa using a
  rw[e,f]at n;simp at n;omega
def Ex{V:bf}(P:V.OK)(n:ah):((V.state n.aZ n.agg).getD HY).cells.length<=8:=by
 have a:=P.len n;have b:=(AR (nx P.decl).1).2.2.2;have g:(V.decl.at n.aZ).length<=8:=by
  unfold aT.at;split
  ·rw[QQ]
   cases c:V.decl.types[n.aZ.toNat]? with
   |none=>simp
   |some d=>exact(b d (QZ c)).2
  ·simp
 unfold bf.cellsOf at a;unfold bf.state
 cases e:an V.eR (n.aZ,n.agg)with
 |none=>simp
 |some f=>simp only[e]at a;show f.cells.length<=8;omega
def YT(w n:World)(p:Nat)(F:RK)(q:xh)(d:aT)(V:bf)(Rs:List dR)(l:List ah)(pts:List (List dR))(c:ah)(P e:Nat)(w':World):Prop:=
 e=0/\∃f g h a i,w'.heap[P]? =some (.cells (ly (V.add c).1 f g h).toArray 133 (0,0))/\ez w' a i p q d (V.add c).2 Rs l pts/\(∀b,a b->F b\/n.heap.size<=b)/\aj F n w'/\n.heap.size<=P/\¬a P
def QR(u:ez w F cls p q d V Rs l pts)(hd:dm d=0)(hT:ft b)(g0:ai b w)(g4:∀n,F n->b.heap.size<=n)(hl:l.length+1<=20000000)(k5:V.entries.length<=20000000)(g5:Rs.map (·.p)=d.projs)(k6:pts.length*q.every<9223372036854775808)(k7:pts.length<=20000001){I:am}(k8:((an V.done (m.aZ,m.agg,m.field)).getD []).length<=20000000)(hr:Row aP 8 w D I a m.aN)(R:∀n,D n->n<w.heap.size/\¬F n)(he:m.Ok):
  ba 117 #[LL p,kN m I a c] w (Ok λa5 w'=>a5= .tuple #[]/\∃q' S a0,ez w' S a0 p q' d (V.add m).2 (qC V m Rs) (l++[m]) (if l.length+1=pts.length*q.every then pts++[qC V m Rs]else pts)/\q'.every=q.every/\cy F w S w'):=by
 have T:=u.aF;have q8:=T p u.self.1;have q9:Rs.length=d.projs.length:=by rw[<-g5,Q8]
 have r0:d.projs.length<=8:=(AR (nx hd).1).2.2.1;refine vi (PA.mk λe1 b8 r3 g6=>?_);have k9:=ez.af u b8;refine⟨YT w e1 p F q d V Rs l pts m,?_,?_⟩
 ·intro r g7
  have a6:ai e1 r:=g7.keep;have r4:r.heap.size=e1.heap.size:=by rw[g7.heap]
  have e2:=ez.af k9 a6;have a7:=b8.then a6;have g8:=e2.bC;have a1:∀{o:World},ai r o->ba 124 #[LL q.vp,kN m I a c] o (Ok λa5 w'=>∃I a c G,a5=Gm (V.add m).1 I a c/\Row aP 8 w' G I a m.aN/\∃S,cJ w' q.vp S (V.add m).2/\cy (λn=>F n/\cls n=3) o S w'/\∀n,G n->o.heap.size<=n/\n<w'.heap.size/\¬S n):=λ{o} U=>
   H_ (show cJ o q.vp (λn=>F n/\cls n=3) V from(ez.af e2 U).at' 3) (hT.af (g0.then (a7.then U))) (hr.af (a7.then U)) (λn P=>⟨by have:=(R n P).1;have:=(a7.then U).size;omega,λg=>(R n P).2 g.1⟩) he k8 k5
  have fg:∀{o w2:World} {s:RK},ai r o->cJ w2 q.vp s (V.add m).2->cy (λn=>F n/\cls n=3) o s w2->∃h j,ez w2 h j p q d (V.add m).2 Rs l pts/\(∀n,h n->F n\/s n)/\(∀n,h n->F n\/o.heap.size<=n)/\aj F o w2:=λ{o w2 s} U W v=>by
   obtain⟨h,j,X,J,k,-⟩:=(ez.af e2 U).iE dW (k:=3) (G':=s) (C2:=AQ p q.cells q d (V.add m).2 Rs l pts) v W.aF W λe G Y hc=>by
    rcases e with _|_|_|_|_|_|e<;>first|exact hc|exact Zz rfl Y
   exact⟨h,j,X,λn P=>(k n P).imp (·.1) id,J.new,J.keep⟩
  have nS:¬((F p/\cls p=3)\/r.heap.size<=p):=by
   rintro(⟨-,f⟩|f)
   ·rw[u.self.2]at f;cases f
   ·omega
  have b9:¬((F w.heap.size/\cls w.heap.size=3)\/r.heap.size<=w.heap.size):=by
   rintro(⟨f,-⟩|f)
   ·have:=T _ f;omega
   ·omega
  refine⟨λn=>(F n/\cls n=3)\/r.heap.size<=n,p,0,rfl,nS,_,ae g8 rfl,b9,au (bh m I a c) (a6.get g6 id) ⟨PC.ok (a1 (aj.refl _)) ?_,PA.mk λr5 c2 r6 l0=>⟨ai.keep c2,PC.ok (a1 c2) ?_⟩⟩⟩
  ·rintro _ e3 ⟨y,z,A,G1,rfl,-,s,W,v,-⟩
   obtain⟨h,j,X,g9,k,kF⟩:=fg (aj.refl _) W v;have r7:=v.keep.size;have h0:=X.aF;refine cz (QS _ y z A) ⟨rfl,v.keep.mono λn _ P=>.inl P,PA.mk λr8 e4 r9 l3=>⟨ai.keep e4,aD (mr _ y z A) l3 rfl λs0 e5 s1 l4=>⟨e5.mono λn _ m=>.inr (by have m:n=e3.heap.size:=m;omega),rfl,y,z,A,h,j,l4,?_,λn P=>?_,?_,oM,λg=>by have:=h0 _ g;omega⟩⟩⟩
   ·exact bb.keep (ez.af X e4) dW e5 λn P m=>by have m:n=e3.heap.size:=m;have:=h0 n P;omega
   ·rcases k n P with f|f
    ·exact .inl f
    ·exact .inr oM
   ·exact(((ai.keep a6).then kF).af e4).new e5 λn P=>.inr (by have P:n=e3.heap.size:=P;omega)
  ·rintro _ s2 ⟨y,z,A,G1,rfl,-,s,W,v,-⟩
   obtain⟨h,j,X,g9,k,kF⟩:=fg c2 W v;have s3:=v.keep.size;have nf:¬h r.heap.size:=λg=>by
    rcases k _ g with f|f
    ·have:=T _ f;omega
    ·omega
   have l5:=kF.get l0 λg=>by have:=T _ g;omega
   refine cz (QS _ y z A) ⟨rfl,v.keep.mono λn _ P=>.inl P,aD (mr _ y z A) l5 rfl λs4 e6 s5 l6=>⟨e6.mono λn _ m=>.inr (by have m:n=r.heap.size:=m;omega),rfl,y,z,A,h,j,l6,?_,λn P=>?_,?_,oM,nf⟩⟩
   ·exact bb.keep X dW e6 λn P m=>by have m:n=r.heap.size:=m;exact nf (m▸P)
   ·rcases k n P with f|f
    ·exact .inl f
    ·exact .inr oM
   ·exact(((ai.keep a6).then (ai.keep c2)).then kF).new e6 λn P=>.inr (by have P:n=r.heap.size:=P;omega)
 rintro xb _ _ K ⟨rfl,xa,xn,xc,h,j,gx,Z,k,c3,s6,l7⟩;have h2:=c3.get g6 λg=>by have:=T _ g;omega
 have h3:=(hr.af b8).keep c3 λn P=>(R n P).2;have a8:=Z.aF;have s7:=c3.size;have xw:=aA gx;have a9:aj F w K:=(ai.keep b8).then c3;have p8:ai b K:=g0.new a9 λn P=>.inr (g4 n P);obtain⟨i,hS⟩:∃i,i=(V.add m).2.state m.aZ m.agg:=⟨_,rfl⟩
 have s8:(i.getD HY).cells.length<=8:=by rw[hS];exact Ex (show(V.add m).2.OK from(show cJ K q.vp (λn=>h n/\j n=3) (V.add m).2 from Z.at' 3).1) m
 refine⟨λsb so w'=>so=0/\∃sa sn sc G2,w'.heap[sb]? =some (.cells #[WP (i.getD HY).version,.slice sa sn sc] 49 (0,0))/\Row gC 32 w' G2 sa sn (i.getD HY).cells/\(∀n,G2 n->K.heap.size<=n/\n<w'.heap.size)/\K.heap.size<=sb/\ai K w',?_,?_⟩
 ·intro B h4
  have c4:ai K B:=h4.keep;have s9:B.heap.size=K.heap.size:=by rw[h4.heap]
  have e7:=ez.af Z c4;have h5:=e7.bC;have d4:=c4.get h2 id;have nS:¬B.heap.size<=p:=by have:=a8 p Z.self.1;omega
  have b9:¬B.heap.size<=w.heap.size:=oM
  refine⟨λn=>B.heap.size<=n,p,0,rfl,nS,_,ae h5 rfl,b9,_,ae d4 rfl,b9,_,ae d4 rfl,PC.ok (oC (e7.at' 3)) ?_,PA.mk λt0 e8 t1 l8=>⟨ai.keep e8,PC.ok (oC ((ez.af e7 e8).at' 3)) ?_⟩⟩
  ·rintro _ c5 ⟨ca,cn,cc,G,rfl,N,L,e9⟩
   have t2:=e9.size;have c6:=N.aF;rw[<-hS]at N⊢;refine⟨_,_,_,_,_,rfl,ai.keep e9,PA.mk λl9 f2 t3 m0=>⟨ai.keep f2,PS.mk m0 sM λt4 m1 t5 m2=>PS.mk m2 sM λm3 m4 t6 m5=>?_⟩⟩;have O:aj (λn=>n=c5.heap.size) l9 m3:=m1.then m4;refine⟨O.mono λn _ m=>by have m:n=c5.heap.size:=m;omega,rfl,ca,cn,cc,G,m5,((N.af f2).keep O λn P m=>by have m:n=c5.heap.size:=m;have:=c6 n P;omega).row dC (by unfold aR;omega),λn P=>⟨by have:=L n P;omega,by have:=c6 n P;omega⟩,oM,((c4.then e9).then f2).new O λn P=>.inr (by have P:n=c5.heap.size:=P;omega)⟩
  ·rintro _ m6 ⟨ca,cn,cc,G,rfl,N,L,c7⟩
   have t7:=c7.size;have c6:=N.aF;have m7:=c7.get l8 id;rw[<-hS]at N⊢;refine⟨_,_,_,_,_,rfl,ai.keep c7,PS.mk m7 sM λt8 m8 t9 m9=>PS.mk m9 sM λn0 n2 u0 n3=>?_⟩;have O:aj (λn=>n=B.heap.size) m6 n0:=m8.then n2;refine⟨O.mono λn _ m=>by have m:n=B.heap.size:=m;omega,rfl,ca,cn,cc,G,n3,(N.keep O λn P m=>by have m:n=B.heap.size:=m;have:=L n P;omega).row dC (by unfold aR;omega),λn P=>⟨by have:=L n P;omega,by have:=c6 n P;omega⟩,oM,((c4.then e8).then c7).new O λn P=>.inr (by have P:n=B.heap.size:=P;omega)⟩
 rintro sb _ _ h6 ⟨rfl,sa,sn,sc,G2,gs,n4,n8,u1,Q⟩;have c8:=ez.af Z Q;have h7:=c8.bC;have u2:=Q.size;have h8:bu h6 (λn=>h n/\j n=1) d q.ta q.tn q.pa q.pn:=c8.at' 1;have p9:=h8.Gn.len;have q0:=c8.aF;have h9:=Q.get gx id;obtain⟨C,g⟩:∃C:dR->dR,C=λx=>x.add (V.add m).1 (tr ((V.add m).2.state m.aZ m.agg) x.p):=⟨_,rfl⟩
 have g2:=aA gs;refine⟨p,0,rfl,_,_,_,ae h7 rfl,λd5 b0 w'=>∃e:Nat,b0=e/\e<=q.pn/\d5=q.pn-e/\ez w' h j p q d (V.add m).2 ((Rs.take e).map C++Rs.drop e) l pts/\aj h h6 w',⟨_,0,rfl,Qj _,rfl,by simpa using c8,aj.refl _⟩,?_⟩;rintro d5 _ _ E ⟨e,rfl,Y,rfl,t,H⟩;have u3:=H.size;have d6:=H.get gs λg=>by have:=a8 _ g;omega
 have g3:=n4.keep H λn P g=>by have:=a8 _ g;have:=(n8 n P).1;omega
 have i0:=H.get h9 l7;have q1:=t.bC;refine al.dec (λu4=>?_) (λu5=>?_)
 ·have i1:e<d.projs.length:=oM
  have hx:d.projs[e]? =some d.projs[e]:=Qq i1;have i2:d.projs[e]∈d.projs:=XY i1;generalize d.projs[e]=x at hx i2;obtain⟨n,h1,es,b1,i9,j1,b2,rfl,d7⟩:=(show bu E (λn=>h n/\j n=1) d q.ta q.tn q.pa q.pn from t.at' 1).Gn.el e x hx;have n9:=TO hd i2;refine⟨n,h1,b1,oM,oM,cu (es:=oD x) (k:=5) (qD x) rfl (λb0 ht=>by rw[Qx];exact b2 b0 ht) (PA.mk λu6 i3 u7 o0=>aD (qD x) o0 rfl λi4 i5 u9 i6=>⟨λj2 w'=>j2=tr i x/\aM (tr i x)/\i4=w',?_,?_⟩)⟩
  ·have b3:ai E i4:=i3.new i5 λn P=>.inr (by have P:n=E.heap.size:=P;omega)
   have d8:=g3.af b3;have v0:=d8.len;have a4:tr i x=(((i.getD HY).cells[x.Gk.toNat]?).map (·.n)).getD 0:=by
    cases i<;>rfl
   refine⟨_,ae i6 rfl,_,_,_,ae (b3.get d6 id) rfl,al.dec (λi7=>?_) (λi7=>⟨?_,?_,rfl⟩)⟩
   ·obtain⟨bi,f5⟩:∃bi:Nat,x.Gk=bi:=⟨x.Gk.toNat,oM⟩
    obtain⟨cb,co,v1,v2,v3,o1,v4,v5,o2,-,-,i8,-⟩:=ny d8 (i:=bi) oM;refine⟨_,_,_,ae (b3.get d6 id) rfl,_,ae i6 rfl,cb,co,o1,n9,i7,_,by rw[f5,Qx];exact o2,?_,?_,rfl⟩
    ·rw[a4,f5,Qx,QQ,Qq (show bi<(i.getD HY).cells.length by omega)];rfl
    ·rw[a4,f5,Qx,Qq (show bi<(i.getD HY).cells.length by omega)]
     rw[QQ,Qq (show bi<(i.getD HY).cells.length by omega)]at i8;exact i8
   ·rw[a4,Q7 oM];rfl
   ·rw[a4,Q7 oM];exact Ia
  ·rintro _ _ _ ⟨rfl,j4,rfl⟩ o3 o4
   have b4:ai E o3:=(i3.new i5 λn P=>.inr (by have P:n=E.heap.size:=P;omega)).then o4.keep;have c9:=ez.af t b4;have o5:((Rs.take e).map C++Rs.drop e)[e]? =Rs[e]? :=by
    rw[X8 (by simp;omega)];simp[Qy,X2 (show e<=Rs.length by omega)]
   have d0:Rs[e]? =some Rs[e]:=Qq oM;have d9:Rs[e].p=x:=by
    have:=Zj (·[e]?) g5;simp only[Q9,d0,hx,Option.map_some,Q1]at this;exact this
   generalize Rs[e]=b5 at d0 d9;obtain⟨rg,pj,rj,o6,o7,hR,j5,v6,j0,-,b6⟩:=cK.elem (c9.at' 4) (o5.trans d0);have o8:=cK.len (c9.at' 4);rw[QX,Q8,Qy,XZ]at o8;have j6:=c9.bC;refine⟨p,0,rfl,_,_,_,ae j6 rfl,rg,0,o6,oM,oM,_,by rw[Qx];exact o7,au (mr _ xa xn xc) (b4.get i0 id) (PC.ok (QT hR j5 (x:=(V.add m).1) he j4) ?_)⟩;rintro _ o9 ⟨rfl,p0,f8⟩;have fN:((Rs.take e).map C++Rs.drop e).set e (b5.add (V.add m).1 (tr i x))=(Rs.take (e+1)).map C++Rs.drop (e+1):=by
    have j7:((Rs.take e).map C).length=e:=by simp;omega
    rw[Qw,d0,Q3,XQ,List.set_append,Zq oM,j7,Nat.sub_self,X4 (show e<Rs.length by omega)];have p1:C b5=b5.add (V.add m).1 (tr i x):=by rw[g,hS,<-d9]
    rw[<-p1];rfl
   have j3:=b6 o9 _ f8 p0;rw[fN]at j3;refine⟨rfl,_,oM,e+1,aq oM,oM,rfl,?_,H.then ((ai.keep b4).then (f8.mono λn _ m=>?_))⟩
   ·refine bb.same c9 dW (k:=4) (f8.mono λn _ m=>by have m:n=rj:=m;rw[m];exact j0) j3 λe G Y hc=>by
     rcases e with _|_|_|_|_|_|e<;>first|exact hc|exact Zz rfl Y
   ·have m:n=rj:=m;rw[m];exact j0.1
 have j8:(Rs.take e).map C++Rs.drop e=qC V m Rs:=by
  rw[Qz oM,List.drop_eq_nil_of_le oM,List.append_nil,g];rfl
 rw[j8]at t;intro b7 e0;have a2:ai E b7:=e0.keep;have q2:b7.heap.size=E.heap.size:=by rw[e0.heap]
 have k0:=ez.af t a2;have k1:=k0.bC;have p2:¬h w.heap.size:=λg=>by
  rcases k _ g with f|f
  ·have:=T _ f;omega
  ·omega
 have k2:=a2.get (H.get (Q.get h2 id) p2) id;have nD:∀n,D n->¬h n:=λn P g=>by
  rcases k _ g with f|f
  ·exact(R n P).2 f
  ·have:=(R n P).1;omega
 have k3:=((h3.af Q).keep H nD).af a2;have v7:=aU.len (t.at' 2) dC;have v8:aj F w b7:=((a9.af Q).new H λn P=>(k n P).imp id oM).af a2;refine⟨λ_=>False,p,0,rfl,id,_,_,_,ae k1 rfl,au (bh m I a c) k2 (PC.ok (Dx k3 λn P=>by have:=(R n P).1;omega) ?_)⟩;rintro _ q3 ⟨y,z,A,G,rfl,p3,L,c0⟩;refine⟨_,_,_,_,_,_,_,_,_,_,_,_,rfl,c0,PA.mk λq4 c1 q5 k4=>⟨c1,?_⟩⟩;have f0:=(a2.then c0).then c1;have l1:=ez.af t f0;have q6:=c0.size;have l2:=t.aF;have f1:∀n,aG q.ea=some n->h n/\j n=2:=λn P=>aU.self (t.at' 2) n P;refine fJ (c:=kY) (x:=m) (l1.at' 2) KN k4 (D:=G) ⟨y,z,A,rfl,p3.af c1,he⟩ (λn P=>⟨by have:=(L n P).2;omega,λee=>by have:=l2 n (f1 n ee).1;have:=(L n P).1;omega⟩) (by unfold aR;omega) (by unfold maxLen;omega) λa' M q7 F2 f3 f4 p4=>⟨_,_,_,rfl,p,0,rfl,?_⟩
 have r1:=f4.size;obtain⟨s,a3,j9,f6,n1,-⟩:=t.fg dW (k:=2) (G':=F2) (C2:=AQ p q.cells {q with ea:=a',en:=q.en+1,ec:=M} d (V.add m).2 (qC V m Rs) (l++[m]) pts) ((ai.keep f0).then (f4.mono λn _ P=>f1 n P))
  (λn P=>(p4 n P).imp id λu=>u.elim (λu=>by have:=(L n u).1;omega) λu=>oM) f3.aF f3 λe G Y hc=>by
   rcases e with _|_|_|_|_|_|e<;>first|exact hc|exact Zz rfl Y
 refine PS.mk (j9.at' 0).2 sM λd1 f7 r2 n5=>?_;have n6:ez d1 s a3 p {q with ea:=a',en:=q.en+1,ec:=M} d (V.add m).2 (qC V m Rs) (l++[m]) pts:=ez.store j9 f7 n5;have f9:∀n,s n->F n\/w.heap.size<=n:=λn P=>by
  rcases f6.new n P with f|f
  ·exact(k n f).imp id oM
  ·exact .inr oM
 have n7:aj h E d1:=f6.keep.then (f7.mono λn _ ee=>by have ee:n=p:=ee;rw[ee];exact Z.self.1);have p5:aj F w E:=(a9.af Q).new H λn P=>(k n P).imp id oM;have d2:aj F w d1:=p5.new n7 λn P=>(k n P).imp id oM;refine PC.ok (Ew n6 hd (hT.af (g0.new d2 λn P=>.inr (g4 n P))) (by simp;omega) (by unfold qC;rw[Q8];omega) k6 k7) ?_;rintro _ u8 ⟨rfl,q',F4,p6,p7,d3,g1⟩;refine⟨rfl,Ok.mk ⟨rfl,q',F4,p6,?_,d3,d2.new g1.keep f9,λn P=>?_⟩⟩
 ·simpa using p7
 ·rcases g1.new n P with f|f
  ·exact f9 n f
  ·have:=d2.size;exact .inr oM
end
def tg:gE:=⟨[],[],[],[],[(1,⟨[0,0,2,4,8,0,0,64,128,256,544,1040,4095,8191,12287],[32767,32767,32765,32763,32759,32767,32767,32703,32639,32511,32223,31727,32766,28671,22527],[0,0,0,0,1,0,0,0,0,1,0,0,0,0,2]⟩)]⟩
def sF(z:(dr d λA B=>(rI b (ad A (B+2)) λC=>PR_ (eq_ .quo 3 (.tmp 5) (.tmp 9) (.ii e) (.ii C)) b (kI_ λn D=>(∀P,bw D P->(dr d λE F=>(rS P (ad E (F+3)) λG a3 f=>(dr d λH I=>(rI P (ad H (I+2)) λc=>((0:Int)<=(GT .i64 (n*c))/\((GT .i64 (n*c)):Int)<=(f:Int)/\(dr d λJ K=>PS P (ad J (K+3)) (.slice G (Int.toNat (GT .i64 (n*c))) f) λg=>(dr d λL M=>(rS g (ad L (M+6)) λN h i=>((0:Int)<=(GT .i64 (n+1))/\((GT .i64 (n+1)):Int)<=(h:Int)/\PR_ (Builtin.clear_ #[200] 0 #[.slice (c_ N (Int.toNat (GT .i64 (n+1))) i 2) (h-Int.toNat (GT .i64 (n+1))) (i-Int.toNat (GT .i64 (n+1)))]) g (λa4 j=>(dr d λO Q=>(rS j (ad O (Q+6)) λR a5 k=>((0:Int)<=(GT .i64 (n+1))/\((GT .i64 (n+1)):Int)<=(k:Int)/\(dr d λS T=>PS j (ad S (T+6)) (.slice R (Int.toNat (GT .i64 (n+1))) k) λa=>(dr d λU V=>(rS a (ad U (V+6)) λW X a6=>(ix_ W n X λl m=>(∃o p q r,a.cell? (ad l (m+Int.toNat n*2))=some (.pointer o)/\a.cell? (ad l (m+Int.toNat n*2+1))=some (.slice p q r)/\PC_ 159 #[.pointer d,.agg #[.pointer o,.slice p q r]] a (λY Z=>∃s u v w,Y= .agg #[.pointer s,.slice u v w]/\(dr d λx y=>PS Z (ad x (y+4)) (.pointer s) λa1=>PS a1 (ad x (y+4+1)) (.slice u v w) λa2=>rt t ((.tuple #[])) a2)) (pE t)))))))))) (pV t)))))))))))) (pV t)))):ba 116 #[.pointer d,.ii e] b t:=DC tg Tryz.func116 rfl z
def r_(P:ej):∀n,(nn P n).Perm (P::n)
 |[]=>List.Perm.refl _
 |y::n=>by
  unfold nn;split
  ·exact List.Perm.refl _
  ·exact((r_ P n).cons y).trans (List.Perm.swap P y n)
def yt(n:List ej):(n.foldr nn []).Perm n:=by
 induction n with
 |nil=>exact List.Perm.refl _
 |cons P n a=>exact(r_ P _).trans (a.cons P)
def zh{b:ej}:∀{P:List ej},vj P->(∀y∈P,y.group≠b.group)->vj (nn b P)
 |[],_,_=>by simp[nn,vj]
 |y::P,d,e=>by
  unfold nn;have c:=List.pairwise_cons.1 d;have g:=e y (QV ..);split
  ·rename_i f
   refine List.pairwise_cons.2 ⟨λa n=>?_,d⟩;rcases Q2.1 n with rfl|n
   ·exact f
   ·have:=c.1 a n;omega
  ·rename_i h
   refine List.pairwise_cons.2 ⟨λa n=>?_,zh c.2 λa n=>e a (QJ _ n)⟩;rcases Q2.1 ((r_ b P).mem_iff.1 n)with rfl|n
   ·omega
   ·exact c.1 a n
def FN:∀{n:List ej},(n.map (·.group)).Nodup->vj (n.foldr nn [])
 |[],_=>List.Pairwise.nil
 |x::n,P=>by
  rw[QY,List.nodup_cons]at P;refine zh (FN P.2) λa b c=>P.1 ?_;rw[<-c];exact Xk.2 ⟨a,(yt n).mem_iff.1 b,rfl⟩
def zi:∀{a P:List ej},(a.Pairwise λx b=>¬b.group<x.group)->vj P->a.Perm P->a=P
 |[],P,_,_,n=>by have:=n.length_eq;cases P;rfl;simp at this
 |x::a,[],_,_,n=>by have:=n.length_eq;simp at this
 |x::a,b::P,f,g,n=>by
  have d:=List.pairwise_cons.1 f;have e:=List.pairwise_cons.1 g;have i:x=b:=by
   rcases Q2.1 (n.mem_iff.1 (QV ..))with h|h
   ·exact h
   rcases Q2.1 (n.mem_iff.2 (QV ..))with c|c
   ·exact c.symm
   have:=e.1 x h;exact Zz this (d.1 b c)
  subst i;rw[zi d.2 e.2 n.cons_inv]
section
variable {w w':World} {p r:Nat} {R:dR}
def lR.WN(a:lR w p r R):((R.rows.map (·.2)).map (·.group)).Nodup:=by
 have P:=a.map.tidy;unfold Tidy at P;rw[List.map_map]at P⊢;have:R.rows.map ((·.group)∘(·.2))=R.rows.map ((·.1)∘λn=>(n.1,tN n.2)):=List.map_congr_left λn b=>(a.ok n b).2;rw[this];exact P
def lR.zI(n:lR w p r R):vj R.list:=FN n.WN
def OA(f:lR w p r R)(P:R.rows.length<=20000000):ba 404 #[LL p] w (Ok (qI KL 135 w R.list)):=by
 refine xQ ⟨p,0,rfl,_,ae f.at' rfl,mapRange SY f.map λw6 N O s6=>?_⟩;refine⟨λz i j k w'=>∃(left:List (Int×ej)) (a:List ej) (h:RK),z=left.length/\cU w' w.heap.size r (Value.int .i64) (R.rows.map λb=>(b.1,tN b.2)) (left.map λb=>(b.1,tN b.2))/\(∀b∈left,ej.Ok b.2)/\
  (a++left.map (·.2)).Perm (R.rows.map (·.2))/\aU KL 135 h w' i j k a/\(∀n,h n->w.heap.size<n)/\ai w w',⟨_,R.rows,[],λ_=>False,rfl,N,λb l=>(f.ok b l).1,List.Perm.refl _,aU.nil _,λn P=>P.elim,O⟩,?_⟩
 rintro z i j k _ A ⟨left,a,h,rfl,B,C,m,d,e,o⟩;have q:a.length+left.length=R.rows.length:=by have:=m.length_eq;simpa using this
 have b3:=d.len dC;refine oq B (λQ=>.inl ⟨rfl,?_⟩) (λa3 a4 l1 l2 s S T U V b4=>.inr ⟨_,_,rfl,rz U ?_⟩)
 ·have W:left=[]:=by simpa using Q
  subst W;refine PC.ok (PT d (by simp at q;omega)) ?_;rintro _ b5 ⟨rfl,X,t,u,v,Y⟩;have Z:X=R.list:=zi u f.zI ((t.trans (by simpa using m)).trans (yt _).symm);subst Z;exact⟨rfl,Ok.mk ⟨i,j,k,h,rfl,v,o.new Y λn P=>.inr (by have:=e n (d.self n P);omega),λn P=>by have:=e n P;omega⟩⟩
 ·obtain⟨E,a5,rfl,rfl,l⟩:=List.map_eq_append_iff.1 S
  obtain⟨b,F,rfl,H,rfl⟩:=List.map_eq_cons_iff.1 l;simp only[Prod.mk.injEq]at H;obtain⟨rfl,rfl⟩:=H;have a0:=C b sM;have b6:=o.size;have b2:w.heap.size<A.heap.size:=B.lt;refine⟨_,_,_,_,rfl,PA.mk λb7 I b8 a9=>aD (Vc b.2) a9 rfl λb9 J c1 x=>⟨_,_,_,ae x rfl,ae x rfl,ae x rfl,PA.mk λxg L c2 b0=>?_⟩⟩;have y:aj (λn=>n=w.heap.size) A xg:=((V.af I).new J λn P=>.inr (by have P:n=s.heap.size:=P;omega)).af L;refine fJ (c:=KL) (x:=b.2) (d.keep y λn P c=>by have c:n=w.heap.size:=c;have:=e n P;omega) Yn b0 (D:=λ_=>False) ⟨rfl,a0⟩ (λn P=>P.elim) (by simp at q;unfold aR;omega) (by simp at q;unfold maxLen;omega) λa' c' c3 F2 a1 M b1=>⟨_,_,_,rfl,_,?_,E++F,a++[b.2],F2,rfl,?_,λa2 K=>C a2 (by simp at K⊢;rcases K with K|K;exact .inl K;exact .inr (.inr K)),?_,a1,λn P=>?_,?_⟩
  ·simp
  ·have g:cU xg w.heap.size r (Value.int .i64) (R.rows.map λb=>(b.1,tN b.2)) ((E++F).map λb=>(b.1,tN b.2)):=by
    rw[Q3];exact((T.af I).keep J (λc=>by have c:w.heap.size=s.heap.size:=c;omega) (λc=>by have c:r=s.heap.size:=c;have:=f.map.lt;omega)).af L
   refine g.keep M (λc=>by have:=e _ (d.self _ c);omega) (λc=>by have:=e _ (d.self _ c);have:=f.map.lt;omega)
  ·refine List.Perm.trans ?_ m
   simp only[Q3,QY,XQ];refine List.Perm.append_left a ?_;rw[List.singleton_append];exact List.perm_middle.symm
  ·rcases b1 n P with g|g|g
   ·exact e n g
   ·exact g.elim
   ·have:=y.size;omega
  ·exact(o.new y λn P=>.inr (by have P:n=w.heap.size:=P;omega)).new M λn P=>.inr (by have:=e n (d.self n P);omega)
end
end Go.Proofs.YtjgjkeponbeekaaGreatDoor
namespace Go.ar
open Go
variable{a c i:Nat}{f:RK}{Y a1:Operand}{d:am}{h:Program}{j:Type}{C g r:TypeId}{q v:UX}{b:World}
def AT{bytes:Nat}{n:ks j}(u:kv h g r n.k bytes)(B:Ow h r=true){w:List j}(k:aU n r f b d a c w)(S:i<=a)(l:∀e,aU n r f e d i c (w.take i)->aj (λP=>aG d=some P) b e->e.heap.size=b.heap.size->q (.tuple #[]) e):
  aK h (Builtin.clear_ #[g] C #[.slice (c_ d i c n.k) (a-i) (c-i)]) b q v:=by
 rcases Nat.lt_or_ge i a with T|U
 rotate_left
 ·obtain rfl:i=a:=oM
  rw[Nat.sub_self];exact aK.mk (w':=b) (v:=.tuple #[]) (by cases c_ d i c n.k<;>simp[Builtin.clear_,run_underlying u.under]) (l b (k.take (Q4 _)) (aj.refl _) rfl)
 obtain⟨cs,D,o,E,x⟩:=k.body;have F:=o.length;rcases o.cases with⟨_,V,_,_⟩|⟨y,H,rfl,I,J,z,K⟩
 ·omega
 have p:c<=maxLen:=by
  obtain⟨_,W,_,A,_,_,_,p,_⟩:=o.row.2.resolve_left (by rintro⟨k,_⟩;cases k);simp only[XX]at A;rw[A.2.2];exact p
 have L:i*n.k<=a*n.k:=Q0 _ oM;have X:a*n.k<=c*n.k:=Q0 _ J;rw[f_ (show c≠i by omega),Xz];refine Sv u B I (by rw[z,Nat.sub_mul];omega) λe m M N O Q R=>?_;have s:aj (λP=>aG (some (⟨y,0,none⟩:Addr))=some P) b e:=Q.mono λP _ r=>by rw[r];rfl
 refine l e ⟨⟨cs.take (i*n.k),D,⟨⟨by rw[Qy,F];omega,.inr ⟨y,c,m,rfl,Qj _,M,oM,p,by rw[N,z],?_⟩⟩⟩,(E.keep s λP t=>(x P t).2).take i,x⟩,k.self,λP t=>Qk (k.aF P t) s.size⟩ s R;rw[O,<-K,List.take_take,X2 L]
def TQ(i:0<c)(j:a<9223372036854775808):(do eqGuard .quo g Y a1 (WP (a:Int)) (WP (c:Int));binOp .quo g (WP (a:Int)) (WP (c:Int)):Sem Value).run h b= .ok (WP ((a/c:Nat):Int)) b:=by
 have d:c≠0:=oM
 have n:(a:Int).tdiv (c:Int)=((a/c:Nat):Int):=by rw[Int.tdiv_eq_ediv_of_nonneg oM];rfl
 have e:=Nat.div_le_self a c;generalize a/c=P at n e;have f:GT .i64 (P:Int)=(P:Int):=wrap_i64 (by unfold aM;omega);simp[eqGuard,binOp,Op.intDiv,d,n,f]
end Go.ar
namespace Go.Proofs.YtjgjkeponbeekaaGreatDoor
open Go.ar
def dh(d:World)(e:Nat)(f:RK)(P:aT)(n:Nat)(a:List ah):Prop:=
 (dm P=0/\0<n/\n<9223372036854775808/\a.length<=20000000)/\∃c b,c.every=n/\ez d f b e c P (bZ P a) (eB P a).rows a (kZ P n a)
variable{H:List ah}{a c:Nat}{b:World}{m:ah}
def TP{d:aT}(n:0<a)(P:a<9223372036854775808)(b:H.length<=20000000):(kZ d a H).length*a<9223372036854775808/\(kZ d a H).length<=20000001:=by
 rw[AS];have c:=Nat.div_le_self H.length a;refine⟨?_,oM⟩;rcases Nat.lt_or_ge H.length a with h|h
 ·rw[Nat.div_eq_of_lt h];omega
 ·have:=Nat.div_mul_le_self H.length a
  rw[X7,Nat.one_mul];omega
section
variable {w w':World} {p:Nat} {F T D:RK} {d:aT} {every:Nat} {l:List ah}
def dh.keep(a:dh w p F d every l)(b:aj T w w')(c:∀P,F P->¬T P):dh w' p F d every l:=by
 obtain⟨e,f,n,g,h⟩:=a;exact⟨e,f,n,g,bb.keep h dW b c⟩
def dh.af(n:dh w p F d every l)(P:ai w w'):dh w' p F d every l:=n.keep P λ_ _ n=>n
def dh.aF(P:dh w p F d every l):∀n,F n->n<w.heap.size:=by obtain⟨c,e,a,f,b⟩:=P;exact b.aF
def xi(d:aT)(l:List ah)(b:l.length<=20000000):(bZ d l).entries.length<=20000000/\∀n,((an (bZ d l).done n).getD []).length<=20000000:=by
 have P:=λn=>Gp d l (bf.new d) n;refine⟨?_,λn=>?_⟩
 ·have a:(bZ d l).entries.length=0+l.length:=(P (0,0,0)).2
  omega
 ·have a:((an (bZ d l).done n).getD []).length<=0+l.length:=(P n).1
  omega
def Ib(d:aT)(l:List ah)(n:ah):qC (bZ d l) n (eB d l).rows=(eB d (l++[n])).rows:=by
 rw[KO];unfold qC kO.add;rw[KP]
def QU(s:dh w p F d every l)(t:ft b)(u:ai b w)(v:∀n,F n->b.heap.size<=n)(i:l.length+1<=20000000){j:am}(x:Row aP 8 w D j a m.aN)(y:∀n,D n->n<w.heap.size/\¬F n)(z:m.Ok):
  ba 117 #[LL p,kN m j a c] w (Ok λk w'=>k= .tuple #[]/\∃e,dh w' p e d every (l++[m])/\cy F w e w'):=by
 obtain⟨⟨o,f,q,r⟩,L,A,rfl,B⟩:=s;obtain⟨C,E⟩:=xi d l r;obtain⟨H,I⟩:=TP (d:=d) f q r;refine(QR B o t u v i C (Ic d l) H I (E _) x y z).mono ?_;rintro _ w' ⟨k,rfl,rfl,J,e,P,g,h,K⟩;refine Ok.mk ⟨rfl,e,⟨⟨o,f,q,by simpa using i⟩,J,P,h,?_⟩,K⟩;rw[KQ,Ov f,<-Ib,<-AS (d:=d)];exact g
def zPt:Ow PP 199=true:=kR
def Ox(a0:dh w p F d every l)(hT:ft b)(g0:ai b w)(c5:∀P,F P->b.heap.size<=P)(hn:a<=l.length):
  ba 116 #[LL p,WP (a:Int)] w (Ok λa1 w'=>a1= .tuple #[]/\∃H,dh w' p H d every (l.take (a/every*every))/\cy F w H w'):=by
 obtain⟨⟨q,u,h3,h4⟩,n,h,rfl,g⟩:=a0;have c6:=g.bC;have e1:=g.aF;have c7:=aU.len (g.at' 5) dC;have I:=aU.len (g.at' 2) dC;rw[AS]at c7;obtain⟨k,v⟩:∃k,k=a/n.every:=⟨_,rfl⟩
 have s:k<=l.length/n.every:=by rw[v];exact Nat.div_le_div_right hn
 have J:k*n.every<=l.length:=Xx (Q0 _ s) (Nat.div_mul_le_self ..);have e2:k<=l.length:=Xx s (Nat.div_le_self ..);rw[<-v];have x:GT .i64 ((k:Int)*(n.every:Int))=((k*n.every:Nat):Int):=by
  rw[show((k:Int)*(n.every:Int))=((k*n.every:Nat):Int) by push_cast;rfl,wrap_i64 (by unfold aM;omega)]
 have c8:GT .i64 ((k:Int)+1)=((k+1:Nat):Int):=aq oM;have ec:=aU.lz (g.at' 2);have qc:=aU.lz (g.at' 5);refine sF ⟨p,0,rfl,_,ae c6 rfl,aK.mk (TQ u oM) ⟨_,rfl,λK c9=>?_⟩⟩;rw[<-v,c8];simp only[Qx];have L:ai w K:=c9.keep;have y:=ez.af g L;have z:=y.bC;have a2:bb K F h (AQ p n.cells {n with en:=k*n.every} d (bZ d l) (eB d l).rows (l.take (k*n.every)) (kZ d n.every l)):=y.same dW (k:=2) (aj.refl _) (aU.take (y.at' 2) (show k*n.every<=n.en from I▸J)) λi G j m=>by
  rcases i with _|_|_|_|_|_|i<;>first|exact m|exact Zz rfl j
 refine⟨p,0,rfl,_,_,_,ae z rfl,p,0,rfl,_,ae z rfl,by rw[x];exact Int.natCast_nonneg _,by rw[x];exact Int.ofNat_le.2 (Xx J (I▸ec)),p,0,rfl,?_⟩;rw[x,Qx];refine PS.mk z sM λd0 M e3 N=>?_;have O:ez d0 F h p {n with en:=k*n.every} d (bZ d l) (eB d l).rows (l.take (k*n.every)) (kZ d n.every l):=ez.store a2 M N;refine⟨p,0,rfl,_,_,_,ae N rfl,oM,by show _<=((n.qn:Nat):Int);omega,?_⟩;have e:∀P,aG n.qa=some P->F P/\h P=5:=λP c=>aU.self (g.at' 5) P c;have a3:¬aG n.qa=some p:=λf=>by have q:=(e p f).2;rw[g.self.2]at q;cases q
 refine AT Xr zPt (O.at' 5) (by show k+1<=n.qn;omega) λd1 a5 Q e4=>?_;have R:bb d1 F h (AQ p ({n with en:=k*n.every}:xh).cells {n with en:=k*n.every,qn:=k+1} d (bZ d l) (eB d l).rows (l.take (k*n.every)) ((kZ d n.every l).take (k+1))):=O.same dW (k:=5) (Q.mono λP _ c=>e P c) a5 λi G j m=>by
  rcases i with _|_|_|_|_|_|i<;>first|exact m|exact Zz rfl j
 have S:=(R.at' 0).2;refine⟨p,0,rfl,_,_,_,ae S rfl,oM,by show _<=((n.qc:Nat):Int);omega,p,0,rfl,PS.mk S sM λxg T e5 U=>?_⟩;have r:ez xg F h p {n with en:=k*n.every,qn:=k+1} d (bZ d l) (eB d l).rows (l.take (k*n.every)) ((kZ d n.every l).take (k+1)):=ez.store R T U;have A:aj F w xg:=(((ai.keep L).then (M.mono λP _ f=>by have f:P=p:=f;rw[f];exact g.self.1)).then (Q.mono λP _ c=>(e P c).1)).then (T.mono λP _ f=>by have f:P=p:=f;rw[f];exact g.self.1);have d2:((kZ d n.every l).take (k+1))[k]? =some (eB d (l.take (k*n.every))).rows:=by
  rw[Xw,Zx oM];exact Q_ s
 obtain⟨pb,po,es,d3,e6,e7,V,e8,ra,rn,rc,rfl,d4⟩:=(aU.row (bytes:=32) (r.at' 5) dC (by rw[Qy];unfold aR;omega)).el k _ d2;have c0:=V 0 dC;have c1:=V 1 dC;refine⟨p,0,rfl,_,_,_,ae U rfl,pb,po,d3,oM,by show(k:Int)<((k+1:Nat):Int);omega,_,_,_,_,c0,c1,PC.ok (Ev r q (hT.af (g0.new A λP c=>.inr (c5 P c))) (by rw[Qy];omega) d4 (λP c=>r.aF P c.1) (by rw[qE];exact(AR (nx q).1).2.2.1)) ?_⟩;rintro _ W ⟨B,X,Y,Z,Fv,G,rfl,hv,b3,b4,t,b5⟩;have e9:=A.size;obtain⟨F1,e0,d5,f2,b6,-⟩:=r.Ie dW (k:=3) (w':=W) (G':=Fv) (C2:=AQ p ({n with en:=k*n.every,qn:=k+1}:xh).cells {n with en:=k*n.every,qn:=k+1,vp:=B} d (bZ d (l.take (k*n.every))) (eB d l).rows (l.take (k*n.every)) ((kZ d n.every l).take (k+1)))
  (ai.keep b5) (λP c C=>by have:=b4 P c;have:=r.aF P C;omega) hv.aF hv λi G j m=>by
   rcases i with _|_|_|_|_|_|i<;>first|exact m|exact Zz rfl j
 obtain⟨F2,b7,b8,f4,d6,-⟩:=d5.Ie dW (k:=4) (w':=W) (G':=G) (C2:=AQ p ({n with en:=k*n.every,qn:=k+1}:xh).cells {n with en:=k*n.every,qn:=k+1,vp:=B,ra:=X,rn:=Y,rc:=Z} d (bZ d (l.take (k*n.every))) (eB d (l.take (k*n.every))).rows (l.take (k*n.every)) ((kZ d n.every l).take (k+1)))
  (aj.refl _) (λP c C=>by
   rcases b6 P C with o|o
   ·have:=(t P c).1;have:=r.aF P o.1;omega
   ·exact Zz o (t P c).2.2) (λP c=>(t P c).2.1) b3 λi G j m=>by
   rcases i with _|_|_|_|_|_|i<;>first|exact m|exact Zz rfl j
 have b9:∀P,F2 P->F P\/w.heap.size<=P:=λP c=>by
  rcases d6 P c with o|o
  ·rcases b6 P o.1 with E|E
   ·exact .inl E.1
   ·exact .inr (by have:=b4 P E;omega)
  ·exact .inr (by have:=(t P o).1;omega)
 have d7:=(b8.at' 0).2;refine⟨_,_,_,_,rfl,p,0,rfl,PS.mk d7 sM λf5 c3 f6 d8=>PS.mk d8 sM λf8 c4 g1 d9=>Ok.mk ⟨rfl,F2,⟨⟨q,u,h3,by rw[Qy];omega⟩,{n with en:=k*n.every,qn:=k+1,vp:=B,ra:=X,rn:=Y,rc:=Z},b7,rfl,?_⟩,?_,b9⟩⟩
 ·rw[<-Oy u s]
  exact ez.store b8 (c3.then c4) d9
 ·exact(A.af b5).then ((c3.then c4).mono λP _ f=>by have f:P=p:=f;rw[f];exact g.self.1)

import Derived.Test.YtkpomgifkloklaaGreatDoorKe15
set_option maxHeartbeats 4000000
set_option linter.all false
set_option maxRecDepth 100000
namespace Go.Proofs.YtkpomgifkloklaaGreatDoor
open Go.aw
def Tl:mZ LL 312 3 195 (tT ⟨0,0,0⟩):=⟨kR,kR⟩
def Oq{P d e:Type}[BEq P](a:d->e)(b:P):∀n:List (P×d),au (n.map λc=>(c.1,a c.2)) b=(au n b).map a
 |[]=>rfl
 |(c,f)::n=>by
  simp only[QY];unfold au;split
  ·rfl
  ·exact Oq a b n
def Ot{b c f:Type}[BEq b](P:c->f)(d:b)(e:c):∀a:List (b×c),aJ (a.map λn=>(n.1,P n.2)) d (P e)=(aJ a d e).map λn=>(n.1,P n.2)
 |[]=>rfl
 |(n,g)::a=>by
  simp only[QY];unfold aJ;split
  ·simp
  ·simp[Ot P d e a]
variable{e:Int}{a c:Nat}{d:be}{d8:dX}{d7:ko}
section
variable {w w':World} {p r:Nat} {R:dT}
def dT.add_def(r:dT)(e:cU)(P:Int):r.add e P=match HH r.p e.ev P with
  |none=>r
  |some n=>if e.void||e.ev.a_ !=r.p.a_||e.ev.field !=r.p.field then r else
   {r with rows:=aJ r.rows n ⟨n,mV r.p ⟨n,((au r.rows n).getD ⟨0,0,0⟩).value,qm (((au r.rows n).getD ⟨0,0,0⟩).count+1)⟩ e.ev.arg,qm (((au r.rows n).getD ⟨0,0,0⟩).count+1)⟩}:=rfl
def Ij:aH 0:=by unfold aH;omega
def Xn{arg:Int}(n:dX.Ok d8)(P:aH arg):aH (mV d7 d8 arg):=by
 obtain⟨b,c,a⟩:=n;unfold mV;split;exact a;split;exact NI _;split;exact P;split
 ·unfold aH at*;omega
 split
 ·unfold aH at*;omega
 ·exact Ij
def Ro(h:mg w p r R)(a1:p≠r){x:cU}(v:x.ev.Ok)(a2:aH e):bn 218 #[RK p,Gk x d a c,WP e] w (Ok λk w'=>k= .tuple #[]/\mg w' p r (R.add x e)/\aj (·=r) w w'):=by
 have b1:=az h.at';have b2:=h.map.lt;refine Af (PA.mk λw1 L s1 M=>Xo (cs:=aF x.ev d a c) (bg _ _ _ _) M (λa3 k N=>?_) (PC.ok (MY (h.af L)) ?_))
 ·rw[Xz]
  have a4:=(Qv.1 N).1;show(aF x.ev d a c++_).toArray[a3]? =_;simp only[List.getElem?_toArray];rw[XW a4];exact N
 rintro _ O ⟨rfl,Q⟩;have l:=L.then Q;have m:=Q.get M id;have o:=h.af l;have b:R.add x e=R->∀g,bW O g->Ok (λk w'=>k= .tuple #[]/\mg w' p r (R.add x e)/\aj (·=r) w w') (.returned (.tuple #[])) g:=λhe g i=>Ok.mk ⟨rfl,by rw[he];exact o.af i.keep,ai.keep (l.then i.keep)⟩;refine⟨_,_,rfl,al.not (al.mk (λy=>?_) (λy=>b ?_))⟩
 rotate_left
 ·rw[dT.add_def,show HH R.p x.ev e=none by simpa using y]
 obtain⟨P,f⟩:=Option.isSome_iff_exists.1 y;rw[f,Option.getD_some];have s:∀{q:dT},(if x.void||x.ev.a_ !=R.p.a_||x.ev.field !=R.p.field then R else
   {R with rows:=aJ R.rows P ⟨P,mV R.p ⟨P,((au R.rows P).getD ⟨0,0,0⟩).value,qm (((au R.rows P).getD ⟨0,0,0⟩).count+1)⟩ x.ev.arg,qm (((au R.rows P).getD ⟨0,0,0⟩).count+1)⟩})=q->R.add x e=q:=λ{q} z=>by
  rw[dT.add_def,f];exact z
 refine⟨_,ae m rfl,al.mk (λj=>b (s (by rw[j];rfl))) (λj=>⟨_,ae m rfl,p,0,rfl,_,ae o.at' rfl,al.eu (λA=>b (s ?_)) (λA=>⟨_,ae m rfl,p,0,rfl,_,ae o.at' rfl,λg i=>?_⟩)⟩)⟩
 ·rw[j,show(x.ev.a_ !=R.p.a_)=true by simpa using A];rfl
 have S:(x.ev.a_ !=R.p.a_)=false:=by simpa using A
 have t:ai O g:=i.keep;have u:=o.af t;refine al.eu (λB=>b (s (by rw[j,S,show(x.ev.field !=R.p.field)=true by simpa using B];rfl)) g i) (λB=>?_);have a5:(x.ev.field !=R.p.field)=false:=by simpa using B
 have T:aH P:=by
  unfold HH at f;split at f
  ·cases f;exact v.agg
  split at f
  ·cases f;exact v.arg
  split at f
  ·cases f;exact a2
  ·cases f
 obtain⟨n,C⟩:∃n,n=(au R.rows P).getD ⟨0,0,0⟩:=⟨_,rfl⟩
 have a6:dX.Ok n:=by
  rw[C]
  cases z:au R.rows P with
  |none=>exact⟨Ij,Ij,Ij⟩
  |some U=>exact(h.ok _ (cA z)).1
 have a7:(au (R.rows.map λx=>(x.1,tT x.2)) P).getD (tT ⟨0,0,0⟩)=tT n:=by
  rw[Oq,C];cases au R.rows P<;>rfl
 refine⟨p,0,rfl,_,ae u.at' rfl,AF Tl lO u.map ?_⟩;rw[a7];refine cg (Z_ n) ⟨rfl,PA.mk λw4 k4 s4 g4=>aD (PO n) g4 rfl λw5 k5 s5 g5=>PS.mk g5 (by simp[bq]) λw6 k6 s6 V=>⟨_,ae V rfl,PS.mk V (by simp[bq]) λw7 k7 s7 W=>?_⟩⟩;have E:ai g w7:=((k4.new k5 λF H=>.inr oM).new k6 λF H=>.inr oM).new k7 λF H=>.inr oM;have a8:=E.get (t.get m id) id;refine ar (cs:=bq ⟨P,n.value,qm (n.count+1)⟩) (PO _) W ⟨_,ae a8 rfl,PC.ok (Qm (u.af E)) ?_⟩;rintro _ w8 ⟨rfl,I⟩;have z8:=I.size;refine⟨_,rfl,PS.mk (I.get W id) (by simp[bq]) λw9 k9 s9 g9=>λX a9=>?_⟩;have Y:ai w9 X:=a9.keep;have Z:ai g X:=((E.then I).new k9 λF H=>.inr oM).then Y;have J:=u.af Z;have z3:=(l.then t).size;refine⟨p,0,rfl,_,ae J.at' rfl,ar (cs:=bq ⟨P,mV R.p ⟨P,n.value,qm (n.count+1)⟩ x.ev.arg,qm (n.count+1)⟩) (PO _) (Y.get g9 id) (dG Tl lO J.map λb3 b0 a0 b4=>Ok.mk ⟨rfl,?_,?_⟩)⟩
 ·rw[s (q:={R with rows:=aJ R.rows P ⟨P,mV R.p ⟨P,n.value,qm (n.count+1)⟩ x.ev.arg,qm (n.count+1)⟩}) (by rw[j,S,a5,C];rfl)]
  refine⟨a0.get J.at' a1,?_,λU K=>?_⟩
  ·rw[<-Ot];exact b0
  ·rcases fO K with rfl|K
   ·exact⟨⟨T,Xn ⟨T,a6.2.1,NI _⟩ v.arg,NI _⟩,rfl⟩
   ·exact h.ok U K
 ·exact(ai.keep ((l.then t).then Z)).then a0
end
section
variable {w w':World} {p r:Nat} {R:dT}
def OH(e:mg w p r R):bn 263 #[RK p] w (Ok λf w'=>∃b d,f= RK b/\mg w' b d R/\b≠d/\w.heap.size<=b/\w.heap.size<=d/\b<w'.heap.size/\d<w'.heap.size/\ai w w'):=by
 refine xY λP h=>?_;have i:ai w P:=h.keep;have t:P.heap.size=w.heap.size:=by rw[h.heap]
 have a:=e.af i;obtain⟨c,n,k,l,m,o⟩:=a.map.at';refine⟨no,p,0,rfl,id,_,_,_,_,_,ae a.at' rfl,ae a.at' rfl,ae a.at' rfl,ae a.at' rfl,ae a.at' rfl,p,0,rfl,_,ae a.at' rfl,PC.ok (φ:=λf w'=>f= .map (some P.heap.size)/\w'=P.alloc (.map c n)) ((AnyW.maps_Clone Tryz.Xp r c n P k).mono ?_) ?_⟩
 ·rintro u w' ⟨rfl,q⟩
  exact Ok.mk ⟨rfl,q⟩
 ·rintro _ v ⟨rfl,rfl⟩
  have j:ai P (P.alloc (.map c n)):=aj.alloc _ _;have x:(P.alloc (.map c n)).heap.size=P.heap.size+1:=sM
  refine⟨_,rfl,ai.keep j,PA.mk λy g z s=>⟨ai.keep g,Ok.mk ⟨_,P.heap.size,rfl,⟨s,⟨⟨c,n,g.get (heap_alloc_new P _) id,l,m,o⟩,e.map.tidy⟩,e.ok⟩,?_⟩⟩⟩;refine⟨oM,oM,oM,oM,oM,(i.then j).then g⟩
end
open Go.aw Go.Sort
def oO{b:Type}{f:Nat}{n:b->List Value}{d:b->Prop}{hl h1}{g:World}{D:ac}:∀{P:List b} {cs:List Value},cf (flat f n d hl h1) g D P cs↔cs=P.flatMap n/\∀x∈P,d x
 |[],cs=>by simp[cf]
 |x::P,cs=>by
  constructor
  ·rintro⟨k,l,rfl,⟨rfl,h⟩,i⟩
   obtain⟨rfl,j⟩:=oO.1 i;exact⟨rfl,λc a=>by rcases Q2.1 a with rfl|a;exact h;exact j c a⟩
  ·rintro⟨rfl,e⟩
   exact⟨n x,P.flatMap n,rfl,⟨rfl,e x (QV ..)⟩,oO.2 ⟨rfl,λc a=>e c (QJ _ a)⟩⟩
section
variable {α:Type} {enc:α->List Value} {K:Nat}
def gI(a:∀P,(enc P).length=K)(n:List α):(n.flatMap enc).length=n.length*K:=by
 induction n with
 |nil=>simp
 |cons P n b=>rw[List.flatMap_cons,QX,b,a,Xq,X7];omega
def lG[Inhabited α](f:0<K)(P:∀c,(enc c).length=K){n:List α}(d:a<n.length*K):(n.flatMap enc)[a]? =(enc n[a/K]!)[a % K]? :=by
 induction n generalizing a with
 |nil=>simp at d
 |cons c n g=>
  rw[List.flatMap_cons]
  by_cases b:a<K
  ·rw[XW (by rw[P];exact b),Nat.div_eq_of_lt b,Nat.mod_eq_of_lt b];rfl
  ·rw[Xq,X7]at d
   rw[X8 (by rw[P];omega),P,g oM];obtain⟨e,rfl⟩:∃e,a=e+K:=⟨a-K,oM⟩
   rw[Nat.add_sub_cancel,Nat.add_div_right _ f,Nat.add_mod_right];simp
def zr[Inhabited α](c:0<K)(b:∀f,(enc f).length=K)(n:List α):(flatK enc K n.toArray).toList=n.flatMap enc:=by
 apply X3;intro P
 by_cases a:P<n.length*K
 ·rw[lG c b a]
  have g:P<(flatK enc K n.toArray).size:=by simpa using a
  have d:=get_flatK enc K n.toArray P (by simpa using a);rw[getElem!_pos _ P g]at d;have e:P % K<(enc n[P/K]!).length:=by rw[b];exact Nat.mod_lt _ c
  rw[Qq (by simpa using a),Qq e]
  congr 1
  rw[Array.getElem_toList,d];rw[getElem!_pos _ _ (by simpa using e)]
  congr 1
  simp
 ·rw[Q7 (by simpa using a),Q7 (by rw[gI b];omega)]
end
instance:Inhabited dX:=⟨⟨0,0,0⟩⟩
def XD(P:dX):∀a∈bq P,a.oneCell'=true:=by
 intro b n;simp only[bq,Q2,List.not_mem_nil,or_false]at n;rcases n with rfl|rfl|rfl<;>rfl
def pU(n:dX):(bq n).length=3:=rfl
def Dp(n P:dX):Int:=if n.group<P.group then-1 else 1
def AM(n P:dX):ltOf Dp n P=decide (n.group<P.group):=by
 unfold ltOf Dp
 by_cases a:n.group<P.group<;>simp[a]
def YW:SWO (ltOf Dp) where
 irrefl x:=by rw[AM];simp
 trans x y z h1 h2:=by rw[AM]at*;simp at*;omega
 ntrans x y z h1 h2:=by rw[AM]at*;simp at*;omega
variable{g4:List dX}{f:ac}{b:World}
def XE{a c:dX}:bn 406 #[.agg (bq a).toArray,.agg (bq c).toArray] b (Ok λe f=>e= WP (Dp a c)/\G b f):=by
 refine uN (PA.YU λi d j g=>PA.YU λk n l h=>⟨_,ae ((n.keep (S:=λ_=>False)).get g id) rfl,_,ae h rfl,al.dec (λP=>Ok.mk ⟨?_,d.then n⟩) (λP=>Ok.mk ⟨?_,d.then n⟩)⟩)
 ·unfold Dp;rw[Zx P]
 ·unfold Dp;rw[Zq P]
def Qh(k:aS Ib 195 f b d a c g4)(B:g4.length<=20000000):
  bn 405 #[.slice d a c,.func (.func 406) #[] #[]] b (Ok λL r=>L= .tuple #[]/\∃C:List dX,C.Perm g4/\(C.Pairwise λs M=>¬M.group<s.group)/\aS Ib 195 f r d a c C/\aj (λt=>aI d=some t) b r):=by
 obtain⟨cs,D,x,Y,Z⟩:=k.body;obtain⟨rfl,N⟩:=oO.1 Y;obtain⟨n,y⟩:∃n,n=g4:=⟨g4,rfl⟩
 rw[<-y]at x N;have E:=k.len dC;have u:n.length=a:=by rw[E,<-y]
 rcases x.cases with⟨rfl,rfl,rfl,h0⟩|⟨g,h,rfl,v,O,F,Q⟩
 ·have hd:n=[]:=QW u
  refine(AnyF.slices_SortFunc_none Tryz.Wr none 0 _ b).mono ?_;rintro z r ⟨rfl,rfl⟩;exact Ok.mk ⟨rfl,g4,List.Perm.refl _,by rw[<-y,hd];exact List.Pairwise.nil,k,aj.refl _⟩
 ·have R:Ib.k=3:=rfl
  rw[R]at Q F;have a4:flatK bq 3 n.toArray=(n.flatMap bq).toArray:=by rw[<-zr (show 0<3 by decide) pU]
  have hH:HoldsK bq 3 b g 0 n.toArray:=by
   intro i m;rw[size_flatK]at m;simp only[List.size_toArray]at m;have S:i<(n.flatMap bq).length:=by rw[gI pU];exact m
   refine⟨?_,by simp[World.frozen?,v]⟩;have o:(flatK bq 3 n.toArray)[i]! =(n.flatMap bq)[i]:=by
    rw[a4,getElem!_pos _ i (by simpa using S)];simp
   rw[o,Xz];refine ae v ?_;have j:(h.toList.take (a*3))[i]? =some (n.flatMap bq)[i]:=by rw[Q];exact Qq S
   rw[Xw,Zx oM]at j;simpa using j
  have B:=x.row;have H:c<=maxLen:=by
   obtain⟨_,a0,_,T,_,_,_,H,_⟩:=x.row.2.resolve_left (by rintro⟨k,_⟩;cases k);simp only[XX]at T;rw[T.2.2];exact H
  have a5:n.toArray.size<4611686018427387904:=by
   simp only[List.size_toArray,u];omega
  have U:=AnyQ.slices_SortFunc Tryz.Wr 3 (λb=>di _ _ _ kR ⟨_,Tryz.underlying195⟩ b) (λb=>Tryz.sizeOf195 b) bq (λ_=>rfl) XD (Dp) YW 406 #[] g 0 c n.toArray b
   (enters_of Tryz.func406 kR rfl) (λa9 p dk b0 s M=>(XE).mono ?_) hH (az v) a5
  ·rw[show n.toArray.size=a by simpa using u]at U
   refine U.mono ?_;rintro z r ⟨rfl,e,w,p,hp,hs,rfl⟩;obtain⟨p1,p2,V⟩:=hp;have P:e.size=a:=p1.trans (by simpa using u);have W:e.toList.Perm n:=by
    have o:e.extract 0 a=e:=by rw[<-P];exact Array.extract_size
    have j:n.toArray.extract 0 a=n.toArray:=by rw[show a=n.toArray.size by simpa using u.symm];exact Array.extract_size
    rw[o,j]at V;exact V
   have a1:flatK bq 3 e=(e.toList.flatMap bq).toArray:=by rw[<-zr (show 0<3 by decide) pU]
   have I:(sortWorldK bq 3 b g 0 w e p).heap[g]? =some (.cells (putCells id 0 (flatK bq 3 e) h) 195 (0,0)):=by
    have a6:=az v;show((Sort.ahead b w).heap.modify g _++p)[g]? =_;rw[Array.getElem?_append_left (by simpa[Sort.ahead]using a6),Array.getElem?_modify,Zx rfl];show Option.map _ b.heap[g]? =_;rw[v];rfl
   have A:aj (λt=>aI (UV g)=some t) b (sortWorldK bq 3 b g 0 w e p):=by
    refine⟨rfl,rfl,rfl,?_,λa2 A E=>?_⟩
    ·show b.heap.size<=((Sort.ahead b w).heap.modify g _++p).size
     simp[Sort.ahead]
    ·show((Sort.ahead b w).heap.modify g _++p)[a2]? =_
     rw[Array.getElem?_append_left (by simpa[Sort.ahead]using A),Array.getElem?_modify,Zq (λz=>E (by rw[z];rfl))]
     rfl
   have a3:(putCells id 0 (flatK bq 3 e) h).size=c*3:=by unfold putCells;rw[Array.size_mapIdx];exact F
   refine Ok.mk ⟨rfl,e.toList,by rw[<-y];exact W,?_,⟨⟨e.toList.flatMap bq,D,⟨⟨?_,.inr ⟨g,c,_,rfl,Qj _,I,O,H,a3,?_⟩⟩⟩,oO.2 ⟨rfl,λs hx=>?_⟩,Z⟩,k.self,λt B=>Qk (k.aE t B) A.size⟩,A⟩
   ·rw[List.pairwise_iff_getElem]
    intro X i hi m a7;have o:=hs X i (Qj _) a7 (by simpa[P]using m);rw[AM,getElem!_pos _ i (by simpa using m),getElem!_pos _ X (by simpa using hi)]at o;simpa using o
   ·rw[gI pU,XK,P];rfl
   ·apply X3
    intro q;rw[R,Xw];split
    ·rename_i l
     rw[lG (show 0<3 by decide) pU (by rw[XK,P];exact l),<-lG (show 0<3 by decide) pU (by rw[XK,P];exact l)];unfold putCells;have a8:q<h.size:=by rw[F];exact Qk l (Q0 _ O)
     rw[Array.getElem?_toList,Array.getElem?_mapIdx,X6 a8];simp only[Option.map_some];have J:q<(flatK bq 3 e).size:=by rw[size_flatK,P];exact l
     rw[Zx ⟨Qj _,by rw[Xz];exact J⟩,Nat.sub_zero,getElem!_pos _ q J];have:(flatK bq 3 e)[q]=(e.toList.flatMap bq)[q]'(by rw[gI pU,XK,P];exact l):=by
      have j:=Zj (·[q]?) a1;simp only[List.getElem?_toArray]at j;rw[X6 J,Qq (by rw[gI pU,XK,P];exact l)]at j;exact XJ j
     rw[this];exact(Qq _).symm
    ·rename_i l
     rw[Q7 (by rw[gI pU,XK,P];omega)]
   ·have K:s∈n:=W.mem_iff.1 hx
    exact N s K
  ·rintro z r ⟨L,rfl,rfl,hG⟩
   exact⟨rfl,hG⟩
end Go.Proofs.YtkpomgifkloklaaGreatDoor
namespace Go.aw
open Go
structure bf (w:World) (F:ac) (cls:Nat->Nat) (C:Nat->World->(ac)->Prop):Prop where
 at':∀k,C k w (λb=>F b/\cls b=k)
 aE:∀b,F b->b<w.heap.size
def mI(n:Nat->World->(ac)->Prop):Prop:=∀P a b G c,n P a G->aj c a b->(∀d,G d->¬c d)->n P b G
section
variable {w w':World} {F T:ac} {cls:Nat->Nat} {C C2:Nat->World->(ac)->Prop}
def bf.keep(a:bf w F cls C)(d:mI C)(b:aj T w w')(e:∀n,F n->¬T n):bf w' F cls C:=
 ⟨λc=>d c w w' _ T (a.at' c) b λn P=>e n P.1,λn P=>Qk (a.aE n P) b.size⟩
def bf.af(n:bf w F cls C)(P:mI C)(a:ai w w'):bf w' F cls C:=n.keep P a λ_ _ n=>n
def bf.Io(g:bf w F cls C)(l:mI C){k:Nat}{G':ac}(f:aj (λn=>F n/\cls n=k) w w')(m:∀n,G' n->F n->cls n=k)(o:∀n,G' n->n<w'.heap.size)(p:C2 k w' G')(q:∀a G,a≠k->C a w' G->C2 a w' G):∃e b,bf w' e b C2/\aj F w w'/\(∀n,e n->((F n/\cls n≠k)\/G' n))/\(∀a,a≠k->(λn=>e n/\b n=a)=λn=>F n/\cls n=a)/\(λn=>e n/\b n=k)=G':=by
 classical
 have h:∀a,a≠k->(λn=>((F n/\cls n≠k)\/G' n)/\(if G' n then k else cls n)=a)=λn=>F n/\cls n=a:=λa d=>by
  funext n
  refine propext ⟨λP=>?_,λP=>?_⟩
  ·by_cases c:G' n
   ·rw[Zx c]at P;exact Zz P.2.symm d
   ·rw[Zq c]at P
    exact⟨(P.1.resolve_right c).1,P.2⟩
  ·have i:cls n≠k:=λr=>d (P.2.symm.trans r)
   rw[Zq λc=>i (m n c P.1)];exact⟨.inl ⟨P.1,i⟩,P.2⟩
 have j:(λn=>((F n/\cls n≠k)\/G' n)/\(if G' n then k else cls n)=k)=G':=by
  funext n
  refine propext ⟨λP=>?_,λP=>⟨.inr P,Zx P⟩⟩
  by_cases c:G' n
  ·exact c
  ·rw[Zq c]at P;exact Zz P.2 (P.1.resolve_right c).2
 refine⟨λn=>(F n/\cls n≠k)\/G' n,λn=>if G' n then k else cls n,⟨λa=>?_,λn P=>?_⟩,f.mono λn _ P=>P.1,λn P=>P,h,j⟩
 ·by_cases d:a=k
  ·subst d
   rw[j];exact p
  ·rw[h a d]
   refine q a _ d (l a w w' _ _ (g.at' a) f λn P s=>d (P.2.symm.trans s.2))
 ·rcases P with P|P
  ·exact Qk (g.aE n P.1) f.size
  ·exact o n P
def bf.fv(c:bf w F cls C)(h:mI C){k:Nat}{G':ac}(i:aj (λn=>F n/\cls n=k) w w')(e:∀n,G' n->(F n/\cls n=k)\/w.heap.size<=n)(j:∀n,G' n->n<w'.heap.size)(d:C2 k w' G')(l:∀a G,a≠k->C a w' G->C2 a w' G):∃b P,bf w' b P C2/\cd F w b w'/\(∀n,b n->((F n/\cls n≠k)\/G' n))/\(∀a,a≠k->(λn=>b n/\P n=a)=λn=>F n/\cls n=a)/\(λn=>b n/\P n=k)=G':=by
 obtain⟨b,P,f,d,g,m⟩:=c.Io h i (λn o p=>(e n o).elim (·.2) λf=>by have:=c.aE n p;omega) j d l;exact⟨b,P,f,⟨d,λn q=>(g n q).elim (λc=>.inl c.1) λc=>(e n c).imp (·.1) id⟩,g,m⟩
def bf.same(c:bf w F cls C)(e:mI C){k:Nat}(d:aj (λn=>F n/\cls n=k) w w')(f:C2 k w' (λn=>F n/\cls n=k))(g:∀P G,P≠k->C P w' G->C2 P w' G):bf w' F cls C2:=
 ⟨λP=>by
  by_cases a:P=k
  ·subst a;exact f
  ·exact g P _ a (e P w w' _ _ (c.at' P) d λn b h=>a (b.2.symm.trans h.2)),λn b=>Qk (c.aE n b) d.size⟩
def bf.tC(d:bf w F cls C)(e:mI C){k:Nat}{G':ac}(c:cd (λn=>F n/\cls n=k) w G' w')(f:∀n,G' n->n<w'.heap.size)(g:C2 k w' G')(h:∀a G,a≠k->C a w' G->C2 a w' G):∃b P,bf w' b P C2/\cd F w b w'/\(∀n,b n->((F n/\cls n≠k)\/G' n))/\(∀a,a≠k->(λn=>b n/\P n=a)=λn=>F n/\cls n=a)/\(λn=>b n/\P n=k)=G':=d.fv e c.1 c.2 f g h
def bf.join{G:Nat->ac}(a:∀n,C n w (G n))(g:∀d e P,G d P->G e P->d=e)(h:∀n P,G n P->P<w.heap.size):∃cls,bf w (λP=>∃n,G n P) cls C:=by
 classical
 refine⟨λP=>if a:∃n,G n P then a.choose else 0,⟨λn=>?_,λP ⟨n,b⟩=>h n P b⟩⟩;have:(λP=>(∃n,G n P)/\(if a:∃n,G n P then a.choose else 0)=n)=G n:=by
  funext P
  refine propext ⟨λ⟨c,f⟩=>?_,λb=>⟨⟨n,b⟩,?_⟩⟩
  ·rw[dif_pos c]at f;exact f▸c.choose_spec
  ·have c:∃n,G n P:=⟨n,b⟩
   rw[dif_pos c];exact g _ _ P c.choose_spec b
 rw[this];exact a n
end
end Go.aw
namespace Go.Proofs.YtkpomgifkloklaaGreatDoor
open Go.aw
def YI:kq Nat:=flat 1 (λP=>[RK P]) (λ_=>True) (λ_=>rfl) (λa b n=>by simp at n;subst n;rfl)
def Rl:ki LL 245 252 1 8:=⟨kR,kR,dC⟩
structure cK (w:World) (G:ac) (a:be) (n c:Nat) (Rs:List dT):Prop where
 body:∃ps:List (Nat×Nat),ps.length=Rs.length/\aS YI 252 (λb=>aI a=some b) w a n c (ps.map (·.1))/\
  (∀(i j:Nat) (x y:Nat×Nat),ps[i]? =some x->ps[j]? =some y->x.1≠y.2/\(x.2=y.2->i=j))/\(∀x∈ps,G x.1/\G x.2/\aI a≠some x.1/\aI a≠some x.2)/\
  ∀(i:Nat) (x:Nat×Nat) (R:dT),ps[i]? =some x->Rs[i]? =some R->mg w x.1 x.2 R
 self:∀b,aI a=some b->G b
variable{F:Nat×Nat}{h:Program}{g q:TypeId}{m t:am}
section
variable {w w':World} {G G' T:ac} {a:be} {n c:Nat} {Rs:List dT}
def cK.keep(b:cK w G a n c Rs)(h:aj T w w')(d:∀P,G P->¬T P):cK w' G a n c Rs:=by
 obtain⟨i,j,k,l,e,m⟩:=b.body;exact⟨⟨i,j,k.keep h λP o=>d P (b.self P o),l,e,λp f q g r=>(m p f q g r).keep h (d _ (e f (QZ g)).1) (d _ (e f (QZ g)).2.1)⟩,b.self⟩
def cK.af(P:cK w G a n c Rs)(b:ai w w'):cK w' G a n c Rs:=P.keep b λ_ _ P=>P
def cK.mono(g:cK w G a n c Rs)(b:∀P,G P->G' P):cK w G' a n c Rs:=by
 obtain⟨h,i,j,k,d,l⟩:=g.body;exact⟨⟨h,i,j,k,λe f=>⟨b _ (d e f).1,b _ (d e f).2.1,(d e f).2.2⟩,l⟩,λP m=>b P (g.self P m)⟩
def cK.len(P:cK w G a n c Rs):n=Rs.length:=by
 obtain⟨e,b,d,-⟩:=P.body;rw[d.len dC,Q8,b]
def cK.nil(w:World):cK w (λ_=>False) none 0 0 []:=⟨⟨[],rfl,(aS.nil w).mono (λP n=>n.elim) (λP n=>by cases n),sM,sM,sM⟩,λP n=>by cases n⟩
def cK.elem(m:cK w G a n c Rs){P:Nat}{o:dT}(u:Rs[P]? =some o):∃f e g,a=UV f/\w.cell? ⟨f,0+P,none⟩=some (RK e)/\mg w e g o/\e≠g/\G e/\G g/\G f/\
  ∀w' p,aj (·=g) w w'->mg w' e g p->cK w' G a n c (Rs.set P p):=by
 obtain⟨h,B,v,j,x,y⟩:=m.body;have L:=(Qv.1 u).1;have b:h[P]? =some h[P]:=Qq oM;generalize h[P]=d at b;obtain⟨cs,D,C,E,M⟩:=v.body;have q:=x d (QZ b);obtain⟨rfl,-⟩:=oO.1 E;have F:((h.map (·.1)).flatMap λe=>[Value.pointer (UV e)])[P]? =some (RK d.1):=by
  rw[lG (K:=1) dC (λ_=>rfl) dg,Nat.div_one,Nat.mod_one,getElem!_pos _ P dg];simp[(Qv.1 b).2]
 obtain⟨f,z,H⟩:=C.cell F;refine⟨f,d.1,d.2,z,by rw[Xz];exact H.2,y P d o b u,(j P P d d b b).1,q.1,q.2.1,m.self f (by rw[z];rfl),λw' p A I=>⟨⟨h,by simpa using B,v.keep A λN J r=>q.2.2.2 (r▸J),j,x,λk s K i l=>?_⟩,m.self⟩⟩
 by_cases t:P=k
 ·subst t
  rw[b]at i;cases i
  rw[List.getElem?_set_self oM]at l;cases l
  exact I
 ·rw[List.getElem?_set_ne t]at l
  exact(y k s K i l).keep A (j k P s d i b).1 λr=>t ((j P k d s b i).2 r.symm)
def cK.push(r:cK w G a n c Rs)(J:∀P,G P->P<w.heap.size){e f N:Nat}{O:dT}(K:mg w e f O)(Q:¬G e)(y:¬G f)(X:e≠f)(Y:ki h g 252 1 8)(Z:w.heap[N]? =some (.cells #[RK e] 252 F))(b:Rs.length<=1000)(L:∀k z w' G',cK w' G' k (n+1) z (Rs++[O])->aj G w w'->(∀P,G' P->G P\/P=e\/P=f\/w.heap.size<=P)->(∀P,G' P->P<w'.heap.size)->m (.slice k (n+1) z) w'):
  aK h (Builtin.append_ #[g,g] q #[.slice a n c,.slice (UV N) 1 1]) w m t:=by
 obtain⟨l,o,M,h3,A,h5⟩:=r.body;have a1:e<w.heap.size:=az K.at';have a2:f<w.heap.size:=K.map.lt;refine fV M Y Z (D:=λ_=>False) (x:=e) ⟨rfl,trivial⟩ (λP b=>b.elim) (by unfold aP;simp;omega) (by unfold maxLen;simp;omega) λk z w' F' R C hF=>?_;have a0:∀P,aI k=some P->aI a=some P\/w.heap.size<=P:=λP b=>(hF P (R.self P b)).imp id λr=>r.resolve_left id;have s:=R.alone;have a5:=C.size;have S:∀P,aI k=some P->aI a=some P\/w.heap.size<=P:=a0;have H:∀P,P<w.heap.size->aI a≠some P->aI k≠some P:=λP b o M=>(S P M).elim o oM;have T:aI a≠some e:=λj=>Q (r.self e j);have U:aI a≠some f:=λj=>y (r.self f j);refine L k z w' (λP=>(G P\/P=e\/P=f\/aI k=some P)) ⟨⟨l++[(e,f)],by simp[o],by rw[Q3];exact s,λi V x u B I=>?_,λx B=>?_,λi x a3 B p=>?_⟩,λP b=>.inr (.inr (.inr b))⟩ (C.mono λP _ b=>r.self P b) (λP b=>?_) λP b=>?_
 ·have E:∀i x,(l++[(e,f)])[i]? =some x->(l[i]? =some x)\/(i=l.length/\x=(e,f)):=λi x B=>by
   rw[List.getElem?_append]at B;split at B
   ·exact .inl B
   ·rename_i W
    have:i-l.length=0:=by
     rcases Nat.eq_zero_or_pos (i-l.length)with v|v
     ·exact v
     ·rw[Q7 dg]at B;cases B
    rw[this]at B;simp at B;exact .inr ⟨oM,B.symm⟩
  rcases E i x B with B|⟨rfl,rfl⟩<;>rcases E V u I with I|⟨rfl,rfl⟩
  ·exact h3 i V x u B I
  ·have d:=A x (QZ B)
   exact⟨λj=>y ((show x.1=f from j)▸d.1),λj=>Zz ((show x.2=f from j)▸d.2.1) y⟩
  ·have d:=A u (QZ I)
   exact⟨λj=>Q ((show e=u.2 from j)▸d.2.1),λj=>Zz ((show f=u.2 from j)▸d.2.1) y⟩
  ·exact⟨X,λ_=>rfl⟩
 ·rcases Q6.1 B with B|B
  ·have d:=A x B
   exact⟨.inl d.1,.inl d.2.1,H _ (J _ d.1) d.2.2.1,H _ (J _ d.2.1) d.2.2.2⟩
  ·simp at B;subst B
   exact⟨.inr (.inl rfl),.inr (.inr (.inl rfl)),H _ a1 T,H _ a2 U⟩
 ·rw[List.getElem?_append]at B p
  rw[<-o]at p;split at B
  ·rename_i a4
   rw[Zx a4]at p;have d:=A x (QZ B);exact(h5 i x a3 B p).keep C d.2.2.1 d.2.2.2
  ·rename_i W
   rw[Zq W]at p;have:i-l.length=0:=by
    rcases Nat.eq_zero_or_pos (i-l.length)with v|v
    ·exact v
    ·rw[Q7 dg]at B;cases B
   rw[this]at B p;simp at B p;subst B p;exact K.keep C T U
 ·rcases b with b|b|b|b
  ·exact .inl b
  ·exact .inr (.inl b)
  ·exact .inr (.inr (.inl b))
  ·rcases S P b with o|o
   ·exact .inl (r.self P o)
   ·exact .inr (.inr (.inr o))
 ·rcases b with b|b|b|b
  ·have:=J P b;omega
  ·omega
  ·omega
  ·exact s.aE P b
def cPt:kq (List dT) where
 k:=2
 rep:=λw D Rs cs=>∃P a n c,cs=[.pointer P,.slice a n c]/\cK w D a n c Rs
 keep:=λ⟨P,a,n,c,b,d⟩ g e=>⟨P,a,n,c,b,d.keep g e⟩
 mono:=λ⟨P,a,n,c,b,d⟩ e=>⟨P,a,n,c,b,d.mono e⟩
 len:=λ⟨P,a,n,c,b,d⟩=>by rw[b];rfl
 one:=λ⟨P,a,n,c,b,d⟩ h f=>by
  rw[b]at f;simp only[Q2,List.not_mem_nil,or_false]at f;rcases f with rfl|rfl<;>rfl
def Ya:ki LL 248 247 2 32:=⟨kR,kR,dC⟩
end
def KW(n:aU)(P:List ah)(a:ah):eF n (P++[a])=(eF n P).add a:=by unfold eF;rw[List.foldl_append];rfl
def KY(n:aU)(P:List ah)(a:ah):bU n (P++[a])=((bU n P).add a).2:=by unfold bU;rw[List.foldl_append];rfl
def KX(a:aU)(n:List ah):(eF a n).view=bU a n:=by
 have:∀(n:List ah) (P:lj),(n.foldl lj.add P).view=n.foldl (λc b=>(c.add b).2) P.view:=by
  intro n
  induction n with
  |nil=>intro P;rfl
  |cons b n d=>intro P;rw[List.foldl_cons,List.foldl_cons,d];rfl
 exact this n _
variable{o:Array Value}{E:List ah}{g5:List dT}{a c:Nat}{b:World}{R:aU}{d2:bj}{d7:ko}
def Is(c:dt R=0)(P:List ah):(bU R P).OK/\(bU R P).decl=R:=by
 have:∀(P:List ah) (n:bj),n.OK->(P.foldl (λn a=>(n.add a).2) n).OK/\(P.foldl (λn a=>(n.add a).2) n).decl=n.decl:=by
  intro P
  induction P with
  |nil=>intro n b;exact⟨b,rfl⟩
  |cons a P d=>
   intro n b;obtain⟨e,f⟩:=bj.AT b a;obtain⟨g,h⟩:=d _ e;exact⟨g,h.trans f⟩
 exact this P _ (bj.t_ c)
def dT.Yb(P:dT)(a:cU)(n:Int):(P.add a n).p=P.p:=by
 unfold dT.add;dsimp only;split
 ·rfl
 ·split<;>rfl
def Im(c:aU)(n:List ah):(eF c n).rows.map (·.p)=c.projs:=by
 have:∀(n:List ah) (P:lj),(n.foldl lj.add P).rows.map (·.p)=P.rows.map (·.p):=by
  intro n
  induction n with
  |nil=>intro P;rfl
  |cons a n d=>
   intro P;rw[List.foldl_cons,d];show((P.rows.map λb=>b.add (P.view.add a).1 (tB ((P.view.add a).2.state a.a_ a.agg) b.p)).map (·.p))=_;rw[List.map_map];exact List.map_congr_left λb _=>b.Yb _ _
 refine(this n _).trans ?_;show(c.projs.map λe=>(⟨e,[]⟩:dT)).map (·.p)=_;rw[List.map_map];exact List.map_id _
def qK(n:aU)(P:List ah):(eF n P).rows.length=n.projs.length:=by
 rw[<-Im n P,Q8]
def lv(a:aU)(n:Nat)(P:List ah):List (List dT):=(List.range (P.length/n+1)).map λb=>(eF a (P.take (b*n))).rows
section
variable {d:aU} {every:Nat} {l:List ah}
def AR:(lv d every l).length=l.length/every+1:=by simp[lv]
def Rq(n:a<=l.length/every):(lv d every l)[a]? =some (eF d (l.take (a*every))).rows:=by
 unfold lv;rw[Q9,List.getElem?_range oM];rfl
def Rv:lv d every []=[(eF d []).rows]:=by
 unfold lv;rw[ZQ,Nat.zero_div];simp
def OI(c:0<every)(e:ah):lv d every (l++[e])=if l.length+1=(l.length/every+1)*every then lv d every l++[(eF d (l++[e])).rows]else lv d every l:=by
 have g:=Nat.div_add_mod l.length every;have h:=Nat.mod_lt l.length c;have P:∀n,n<=l.length/every->(l++[e]).take (n*every)=l.take (n*every):=λn a=>by
  have:n*every<=l.length:=Xx (Q0 _ a) (Nat.div_mul_le_self ..);rw[List.take_append_of_le_length this]
 split
 ·rename_i b
  have f:(l.length+1)/every=l.length/every+1:=by rw[b];exact Nat.mul_div_cancel _ c
  unfold lv;rw[QX,List.length_singleton,f,List.range_succ,Q3]
  congr 1
  ·refine List.map_congr_left λn a=>?_
   rw[P n (by have:=List.mem_range.1 a;omega)]
  ·rw[List.map_singleton,<-b,Qz sM]
 ·rename_i b
  have f:(l.length+1)/every=l.length/every:=by
   have i:(l.length+1)/every<l.length/every+1:=by
    rw[Nat.div_lt_iff_lt_mul c];rw[X7,Nat.one_mul,Nat.mul_comm]at b⊢;omega
   have j:l.length/every<=(l.length+1)/every:=Nat.div_le_div_right oM;omega
  unfold lv;rw[QX,List.length_singleton,f];refine List.map_congr_left λn a=>?_;rw[P n (by have:=List.mem_range.1 a;omega)]
def OM(P:0<every)(b:a<=l.length/every):(lv d every l).take (a+1)=lv d every (l.take (a*every)):=by
 have c:a*every<=l.length:=Xx (Q0 _ b) (Nat.div_mul_le_self ..);unfold lv;rw[Qy,X2 c,Nat.mul_div_cancel _ P,<-List.map_take,List.take_range,X2 oM];refine List.map_congr_left λe f=>?_;have n:e<=a:=by have:=List.mem_range.1 f;omega
 rw[List.take_take,X2 (Q0 _ n)]
end
structure xr where
 ta:be
 tn:Nat
 tc:Nat
 pa:be
 pn:Nat
 pc:Nat
 every:Nat
 ea:be
 en:Nat
 ec:Nat
 vp:Nat
 ra:be
 rn:Nat
 rc:Nat
 qa:be
 qn:Nat
 qc:Nat
abbrev xr.cells(n:xr):Array Value:= #[.slice n.ta n.tn n.tc,.slice n.pa n.pn n.pc,WP (n.every:Int),.slice n.ea n.en n.ec,RK n.vp,.slice n.ra n.rn n.rc,.slice n.qa n.qn n.qc]
def AP(b:Nat)(c:Array Value)(n:xr)(d:aU)(e:bj)(f:List dT)(g:List ah)(a:List (List dT)):Nat->World->(ac)->Prop
 |0=>λP G=>G b/\P.heap[b]? =some (.cells c 250 (0,0))
 |1=>λP G=>bt P G d n.ta n.tn n.pa n.pn
 |2=>λP G=>aS iz 82 G P n.ea n.en n.ec g
 |3=>λP G=>cJ P n.vp G e
 |4=>λP G=>cK P G n.ra n.rn n.rc f
 |5=>λP G=>aS cPt 247 G P n.qa n.qn n.qc a
 |_=>λ_ _=>True
def dW{d:xr}{c:List (List dT)}:mI (AP a o d R d2 g5 E c):=by
 intro k e w' G f n P b
 match k,n with
 |0,n=>exact⟨n.1,P.get n.2 (b a n.1)⟩
 |1,n=>exact bt.keep n P b
 |2,n=>exact aS.keep n P b
 |3,n=>exact cJ.keep n P b
 |4,n=>exact cK.keep n P b
 |5,n=>exact aS.keep n P b
 |k+6,n=>trivial
abbrev eC(b:World)(c:ac)(n:Nat->Nat)(d:Nat)(a:xr)(e:aU)(f:bj)(g:List dT)(h:List ah)(P:List (List dT)):Prop:=bf b c n (AP d a.cells a e f g h P)
section
variable {w w':World} {p:Nat} {F T D:ac} {cls:Nat->Nat} {q:xr} {d:aU} {V:bj} {Rs:List dT} {l:List ah} {pts:List (List dT)}
def eC.af(n:eC w F cls p q d V Rs l pts)(P:ai w w'):eC w' F cls p q d V Rs l pts:=bf.af n dW P
def eC.bA(n:eC w F cls p q d V Rs l pts):w.heap[p]? =some (.cells q.cells 250 (0,0)):=(n.at' 0).2
def eC.self(n:eC w F cls p q d V Rs l pts):F p/\cls p=0:=(n.at' 0).1
def Ey(s:eC w F cls p q d V Rs l pts)(hd:dt d=0)(hT:fE w)(hl:l.length<=20000000){vp:be}{y:be}(hr:cK w D y a c g5)(hD:∀n,D n->n<w.heap.size)(hn:g5.length<=8):
  bn 197 #[RK p,.agg #[.pointer vp,.slice y a c]] w (Ok λT w'=>∃g y a c e G,T= .agg #[RK g,.slice y a c]/\cJ w' g e (bU d l)/\cK w' G y a c g5/\(∀n,e n->w.heap.size<=n)/\(∀n,G n->w.heap.size<=n/\n<w'.heap.size/\¬e n)/\ai w w'):=by
 have U:=s.aE;have h3:=hr.len;refine tW (PA.mk λt k5 s5 a3=>PA.mk λz k6 s6 g6=>?_);have A:=k5.then k6;have c1:∀{i:World},ai w i->Row iz 96 i (λn=>F n/\cls n=2) q.ea q.en l:=λ{i} u=>((show aS iz 82 (λn=>F n/\cls n=2) w q.ea q.en q.ec l from s.at' 2).af u).row dC cw;have m:∀{i:World},ai w i->bn 73 #[.agg #[.slice q.ta q.tn q.tc,.slice q.pa q.pn q.pc],.slice q.ea q.en q.ec] i (Ok λT w'=>∃p F,T= RK p/\cJ w' p F (bU d l)/\(∀n,F n->i.heap.size<=n)/\ai i w'):=λ{i} u=>
  Ih hd (hT.af u) (show bt i (λn=>F n/\cls n=1) d q.ta q.tn q.pa q.pn from bt.keep (s.at' 1) u λ_ _ s=>s) (λn P=>by have:=U n P.1;have:=u.size;omega) (c1 u) (λn P=>by have:=U n P.1;have:=u.size;omega) hl
 refine⟨λh oo w'=>oo=0/\∃g e,w'.heap[h]? =some (.cells #[RK g,.slice none 0 0] 247 (0,0))/\cJ w' g e (bU d l)/\(∀n,e n->z.heap.size<=n)/\¬e h/\z.heap.size<=h/\ai z w',?_,?_⟩
 ·intro o d9
  have v:ai z o:=d9.keep;have s9:o.heap.size=z.heap.size:=by rw[d9.heap]
  have W:=(s.af (A.then v)).bA;have zp:=U p s.self.1;have nS:¬o.heap.size<=p:=by have:=(A.then v).size;omega
  refine⟨λn=>o.heap.size<=n,p,0,rfl,nS,_,_,_,_,_,_,ae W rfl,ae W rfl,p,0,rfl,nS,_,_,_,ae W rfl,PC.ok (m (A.then v)) ?_,PA.mk λh4 X h5 d3=>⟨ai.keep X,PC.ok (m ((A.then v).then X)) ?_⟩⟩
  ·rintro _ J ⟨g,e,rfl,r,B,Y⟩
   refine⟨_,rfl,ai.keep Y,PA.mk λd4 Z h6 d5=>⟨ai.keep Z,PS.mk d5 sM λh7 d6 h8 d7=>PS.mk d7 sM λd8 e0 h9 e1=>?_⟩⟩;have C:=r.aE;have i0:=Y.size;have f:aj (λn=>n=J.heap.size) d4 d8:=d6.then e0;refine⟨f.mono λn _ b=>by have b:n=J.heap.size:=b;omega,rfl,g,e,e1,(r.af Z).keep f λn P b=>by have b:n=J.heap.size:=b;have:=C n P;omega,λn P=>by have:=B n P;omega,λP=>by have:=C _ P;omega,oM,((v.then Y).then Z).new f λn P=>.inr (by have P:n=J.heap.size:=P;omega)⟩
  ·rintro _ e2 ⟨g,e,rfl,r,B,K⟩
   have e3:=K.get d3 id;have C:=r.aE;have i1:=K.size;refine⟨_,rfl,ai.keep K,PS.mk e3 sM λi2 e4 i3 e5=>PS.mk e5 sM λe6 e7 i4 e8=>?_⟩;have f:aj (λn=>n=o.heap.size) e2 e6:=e4.then e7;refine⟨f.mono λn _ b=>by have b:n=o.heap.size:=b;omega,rfl,g,e,e8,r.keep f λn P b=>by have b:n=o.heap.size:=b;have:=B n P;omega,λn P=>by have:=B n P;omega,λP=>by have:=B _ P;omega,oM,((v.then X).then K).new f λn P=>.inr (by have P:n=o.heap.size:=P;omega)⟩
 rintro h _ _ L ⟨rfl,g,e,E,r,c4,e9,h2,M⟩;have a5:=A.then M;have i5:=M.size;have a4:h<L.heap.size:=az E;have C:=r.aE;have c5:=M.get (k6.get a3 id) id;have c6:=M.get g6 id;refine⟨_,_,_,ae c5 rfl,λa2 a7 w'=>∃j:Nat,a7=j/\j<=a/\a2=a-j/\∃N H O G,w'.heap[h]? =some (.cells #[RK g,.slice N H O] 247 (0,0))/\cK w' G N H O (g5.take j)/\(∀n,G n->L.heap.size<=n/\n<w'.heap.size)/\aj (·=h) L w',
  ⟨_,0,rfl,Qj _,rfl,none,0,0,λ_=>False,E,cK.nil _,λn P=>P.elim,aj.refl _⟩,?_⟩
 rintro a2 _ _ I ⟨j,rfl,hj,rfl,N,H,O,G,Q,R,k,x⟩;have i6:=x.size;refine al.dec (λi7=>?_) (λi8=>?_)
 ·have f2:j<g5.length:=oM
  have hx:g5[j]? =some g5[j]:=Qq f2;generalize g5[j]=c2 at hx;obtain⟨a8,pj,rj,ha,a0,hR,a9,b0,b1,-,-⟩:=((hr.af a5).keep x λn P b=>by have b:n=h:=b;have:=hD n P;omega).elem hx;have g0:=R.len;rw[Qy,X2 oM]at g0;refine⟨a8,0,ha,oM,oM,_,by rw[Qx];exact a0,λc7 c8=>⟨λ_=>False,id,?_⟩⟩;have b2:ai I c7:=c8.keep;have i9:c7.heap.size=I.heap.size:=by rw[c8.heap]
  refine⟨_,_,_,ae (b2.get Q id) rfl,PC.ok (OH (hR.af b2)) ?_⟩;rintro _ j0 ⟨p',r',rfl,g1,g2,j1,j2,j3,j4,b3⟩;have j5:=b3.size;refine⟨_,rfl,b3,PA.mk λj6 b4 j7 g3=>⟨b4,?_⟩⟩;have a1:=(b2.then b3).then b4;refine(R.af a1).push (λn P=>by have:=(k n P).2;omega) (g1.af b4) (λP=>by have:=(k _ P).2;omega) (λP=>by have:=(k _ P).2;omega) g2 Rl g3 (by rw[Qy];omega) λb6 c3 j8 G3 g4 b5 g7 c9=>⟨_,_,_,rfl,?_⟩
  have j9:=b5.size;have c0:=b5.get (a1.get Q id) λP=>by have:=(k _ P).1;omega
  have a6:∀n,G3 n->L.heap.size<=n:=λn P=>by
   rcases g7 n P with S|S|S|S
   ·exact(k n S).1
   ·omega
   ·omega
   ·omega
  refine PS.mk c0 sM λk0 d0 k1 g8=>⟨_,oM,j+1,an oM,oM,rfl,b6,H+1,c3,G3,g8,?_,λn P=>⟨a6 n P,by have:=c9 n P;omega⟩,?_⟩
  ·rw[Qw,hx]
   exact g4.keep d0 λn P b=>by have b:n=h:=b;have:=a6 n P;omega
  ·exact((x.af a1).new b5 λn P=>.inr (k n P).1).then d0
 ·rw[Qz oM]at R
  have d1:=x.get c6 λb=>by have b:t.heap.size=h:=b;omega
  refine⟨_,_,_,_,ae Q rfl,ae Q rfl,PS.mk d1 sM λk2 b7 k3 g9=>PS.mk g9 sM λb8 b9 k4 d2=>⟨_,_,_,_,ae d2 rfl,ae d2 rfl,Ok.mk ⟨g,N,H,O,e,G,rfl,?_,?_,λn P=>by have:=c4 n P;omega,λn P=>⟨?_,?_,?_⟩,?_⟩⟩⟩
  ·have f:aj (λn=>n=t.heap.size) I b8:=b7.then b9
   exact(r.keep x λn P b=>e9 ((show n=h from b)▸P)).keep f λn P b=>by have b:n=t.heap.size:=b;have:=c4 n P;omega
  ·have f:aj (λn=>n=t.heap.size) I b8:=b7.then b9
   exact R.keep f λn P b=>by have b:n=t.heap.size:=b;have:=k n P;omega
  ·have:=k n P;omega
  ·have:=k n P;omega
  ·intro hf;have:=k n P;have:=C n hf;omega
  ·have f:aj (λn=>n=t.heap.size) I b8:=b7.then b9
   exact(a5.new x λn P=>.inr (by have P:n=h:=P;omega)).new f λn P=>.inr (by have P:n=t.heap.size:=P;omega)
end
section
variable {w w':World} {p:Nat} {F T D:ac} {cls:Nat->Nat} {q:xr} {d:aU} {V:bj} {Rs:List dT} {l:List ah} {pts:List (List dT)}
def Dx{b:ah}{d:be}{w:World}{D:ac}(h:Row aO 8 w D d a b.aM)(s:∀n,D n->n<w.heap.size):
  bn 219 #[lg b d a c] w (Ok λt w'=>∃d a c G,t=lg b d a c/\Row aO 8 w' G d a b.aM/\(∀n,G n->w.heap.size<=n/\n<w'.heap.size)/\ai w w'):=by
 have u:=h.eO;have v:=h.len;refine zB (PA.mk λz l A e=>PA.mk λB f C i=>⟨_,_,_,ae (f.get e id) rfl,PC.ok (bV (h.af (l.then f)) λn P=>by have:=s n P;omega) ?_⟩);rintro _ E ⟨m,o,p,G,rfl,q,g,j⟩;have e:=g.get (f.get e id) id;have i:=g.get i id;refine⟨_,_,_,rfl,PS.mk e (by simp[aF]) λF k H x=>?_⟩;refine ar (cs:=aF b m o p) (bg _ _ _ _) x (aD (bg _ _ _ _) (k.get i oM) rfl λI r J y=>ar (bg _ _ _ _) y (Ok.mk ⟨m,o,p,G,rfl,?_,?_,?_⟩))
 ·refine(((q.keep k λn P=>?_).keep r λn P=>?_).row (bytes:=8) dC (by rw[<-v];exact u))
  ·have:=j n P;omega
  ·have:=j n P;omega
 ·intro n P
  have:=j n P;have:=q.aE n P;omega
 ·have K:=g.size
  exact((aj.new ((l.then f).then g) k λn P=>.inr oM).new r λn P=>.inr oM)
def eC.store{P:xr}(n:bf w F cls (AP p q.cells P d V Rs l pts))(b:aj (·=p) w w')(c:w'.heap[p]? =some (.cells o 250 (0,0))):bf w' F cls (AP p o P d V Rs l pts):=by
 refine bf.same n dW (k:=0) (b.mono λh _ e=>e▸(n.at' 0).1) ⟨(n.at' 0).1,c⟩ λa G f g=>?_;rcases a with _|_|_|_|_|_|a<;>first|exact g|exact Zz rfl f
def Ez(P:eC w F cls p q d V Rs l pts)(I:dt d=0)(J:fE w)(K:l.length<=20000000)(L:Rs.length<=8)(b2:pts.length*q.every<9223372036854775808)(b3:pts.length<=20000001):
  bn 149 #[RK p] w (Ok λM w'=>M= .tuple #[]/\∃t u e,eC w' u e p t d V Rs l (if l.length=pts.length*q.every then pts++[Rs]else pts)/\t.every=q.every/\cd F w u w'):=by
 have i:=P.bA;have N:=aS.len (P.at' 2) dC;have O:=aS.len (P.at' 5) dC;have Q:=P.aE;have R:IntKind.wrap .i64 (((q.qn:Nat):Int)*(q.every:Int))=((pts.length*q.every:Nat):Int):=by
  rw[O,show((pts.length:Nat):Int)*(q.every:Int)=((pts.length*q.every:Nat):Int) by push_cast;rfl,wrap_i64 cS]
 refine tX ⟨p,0,rfl,_,_,_,ae i rfl,p,0,rfl,_,_,_,ae i rfl,p,0,rfl,_,ae i rfl,λS T=>?_⟩;rw[R,N];have j:ai w S:=T.keep;refine al.eT (λb4=>?_) (λb5=>Ok.mk ⟨rfl,q,F,cls,?_,rfl,ai.keep j,λn a=>.inl a⟩)
 rotate_left
 ·rw[Zq oM];exact eC.af P j
 rw[Zx oM];intro v U;have h:ai w v:=j.then U.keep;have c:=eC.af P h;have k:=c.bA;refine⟨λ_=>False,p,0,rfl,id,_,_,_,ae k rfl,p,0,rfl,_,_,_,_,ae k rfl,ae k rfl,PC.ok (Ey c I (J.af h) K (c.at' 4) (λn a=>c.aE n a.1) L) ?_⟩;rintro _ b6 ⟨b7,a3,n2,c2,Fv,G,rfl,-,W,-,m,o⟩;refine⟨_,_,_,_,rfl,o,PA.mk λb8 r b9 X=>⟨r,?_⟩⟩;have x:=o.then r;have Y:=eC.af c x;have c1:=h.size;have c3:=o.size;have s:∀n,aI q.qa=some n->F n/\cls n=5:=λn a=>aS.self (P.at' 5) n a;refine fV (c:=cPt) (x:=Rs) (Y.at' 5) Ya X (D:=G) ⟨_,_,_,_,rfl,W.af r⟩ (λn a=>⟨by have:=(m n a).2.1;omega,λf=>by have:=Q n (s n f).1;have:=(m n a).1;omega⟩) cw (by unfold maxLen;omega) λy b Z F2 z A b0=>⟨_,_,_,rfl,p,0,rfl,?_⟩
 have a0:¬aI q.qa=some p:=λf=>by have g:=(s p f).2;rw[P.self.2]at g;cases g
 have c4:=A.size;have a1:aj (λn=>F n/\cls n=5) v Z:=(ai.keep x).then (A.mono λn _ a=>s n a);obtain⟨F3,a2,B,C,-,-⟩:=c.fv dW (k:=5) (G':=F2) (C2:=AP p q.cells {q with qa:=y,qn:=q.qn+1,qc:=b} d V Rs l (pts++[Rs])) a1
  (λn a=>(b0 n a).imp id λP=>P.elim (λP=>(m n P).1) λP=>oM) z.aE z λE G hj hc=>by
   rcases E with _|_|_|_|_|_|E<;>first|exact hc|exact Zz rfl hj
 refine PS.mk (B.at' 0).2 sM λc5 H c6 b1=>Ok.mk ⟨rfl,{q with qa:=y,qn:=q.qn+1,qc:=b},F3,a2,eC.store B H b1,rfl,?_,λn a=>?_⟩
 ·refine((ai.keep h).then C.keep).then (H.mono λn _ f=>f▸P.self.1)
 ·rcases C.new n a with g|g
  ·exact .inl g
  ·exact .inr oM
end
section
variable {w w':World} {p:Nat} {F T D:ac} {cls:Nat->Nat} {q:xr} {d:aU} {V:bj} {Rs:List dT} {l:List ah} {pts:List (List dT)}
def qH(V:bj)(n:ah)(Rs:List dT):List dT:=Rs.map λP=>P.add (V.add n).1 (tB ((V.add n).2.state n.a_ n.agg) P.p)
def Ug{d:aU}(b:dt d=0)(c:d7∈d.projs):0<=d7.Gj:=by
 have P:=(nP b).2.2 d7 c;unfold mY at P;split at P
 ·cases P
 split at P
 ·cases P
 rename_i n
 by_cases a:d7.group=3
 ·rw[a]at n
  simp only[BEq.rfl,Bool.true_and,bne_self_eq_false,Bool.false_and,Bool.or_false,Bool.not_eq_true,Bool.not_eq_false']at n;unfold Ub within at n;simp only[QK,Zk]at n;exact n.1.1
 ·have e:(d7.group==3)=false:=by simpa using a
  have f:(d7.group !=3)=true:=by simpa using a
  rw[e,f]at n;simp at n;omega
def EA{V:bj}(P:V.OK)(n:ah):((V.state n.a_ n.agg).getD Ia).cells.length<=8:=by
 have a:=P.len n;have b:=(AQ (nP P.decl).1).2.2.2;have g:(V.decl.at n.a_).length<=8:=by
  unfold aU.at;split
  ·rw[QQ]
   cases c:V.decl.types[n.a_.toNat]? with
   |none=>simp
   |some d=>exact(b d (QZ c)).2
  ·simp
 unfold bj.cellsOf at a;unfold bj.state
 cases e:au V.eW (n.a_,n.agg)with
 |none=>simp
 |some f=>simp only[e]at a;show f.cells.length<=8;omega
def Zm(w n:World)(p:Nat)(F:ac)(q:xr)(d:aU)(V:bj)(Rs:List dT)(l:List ah)(pts:List (List dT))(c:ah)(P e:Nat)(w':World):Prop:=
 e=0/\∃f g h a i,w'.heap[P]? =some (.cells (iP (V.add c).1 f g h).toArray 193 (0,0))/\eC w' a i p q d (V.add c).2 Rs l pts/\(∀b,a b->F b\/n.heap.size<=b)/\aj F n w'/\n.heap.size<=P/\¬a P
def Rm(u:eC w F cls p q d V Rs l pts)(hd:dt d=0)(hT:fE b)(g0:ai b w)(g8:∀n,F n->b.heap.size<=n)(hl:l.length+1<=20000000)(l0:V.entries.length<=20000000)(g9:Rs.map (·.p)=d.projs)(l3:pts.length*q.every<9223372036854775808)(l4:pts.length<=20000001){e:ah}{I:be}(l5:((au V.done (e.a_,e.agg,e.field)).getD []).length<=20000000)(hr:Row aO 8 w D I a e.aM)(R:∀n,D n->n<w.heap.size/\¬F n)(he:e.Ok):
  bn 158 #[RK p,lg e I a c] w (Ok λa5 w'=>a5= .tuple #[]/\∃q' S a0,eC w' S a0 p q' d (V.add e).2 (qH V e Rs) (l++[e]) (if l.length+1=pts.length*q.every then pts++[qH V e Rs]else pts)/\q'.every=q.every/\cd F w S w'):=by
 have T:=u.aE;have r5:=T p u.self.1;have r6:Rs.length=d.projs.length:=by rw[<-g9,Q8]
 have r7:d.projs.length<=8:=(AQ (nP hd).1).2.2.1;refine vi (PA.mk λe1 b8 r8 h2=>?_);have l6:=eC.af u b8;refine⟨Zm w e1 p F q d V Rs l pts e,?_,?_⟩
 ·intro r h3
  have a6:ai e1 r:=h3.keep;have r9:r.heap.size=e1.heap.size:=by rw[h3.heap]
  have e2:=eC.af l6 a6;have a7:=b8.then a6;have h4:=e2.bA;have a1:∀{o:World},ai r o->bn 107 #[RK q.vp,lg e I a c] o (Ok λa5 w'=>∃I a c G,a5=Gk (V.add e).1 I a c/\Row aO 8 w' G I a e.aM/\∃S,cJ w' q.vp S (V.add e).2/\cd (λn=>F n/\cls n=3) o S w'/\∀n,G n->o.heap.size<=n/\n<w'.heap.size/\¬S n):=λ{o} U=>
   Ii (show cJ o q.vp (λn=>F n/\cls n=3) V from(eC.af e2 U).at' 3) (hT.af (g0.then (a7.then U))) (hr.af (a7.then U)) (λn P=>⟨by have:=(R n P).1;have:=(a7.then U).size;omega,λh=>(R n P).2 h.1⟩) he l5 l0
  have fv:∀{o w2:World} {s:ac},ai r o->cJ w2 q.vp s (V.add e).2->cd (λn=>F n/\cls n=3) o s w2->∃i k,eC w2 i k p q d (V.add e).2 Rs l pts/\(∀n,i n->F n\/s n)/\(∀n,i n->F n\/o.heap.size<=n)/\aj F o w2:=λ{o w2 s} U W v=>by
   obtain⟨i,k,X,J,m,-⟩:=(eC.af e2 U).tC dW (k:=3) (G':=s) (C2:=AP p q.cells q d (V.add e).2 Rs l pts) v W.aE W λf G Y hc=>by
    rcases f with _|_|_|_|_|_|f<;>first|exact hc|exact Zz rfl Y
   exact⟨i,k,X,λn P=>(m n P).imp (·.1) id,J.new,J.keep⟩
  have nS:¬((F p/\cls p=3)\/r.heap.size<=p):=by
   rintro(⟨-,g⟩|g)
   ·rw[u.self.2]at g;cases g
   ·omega
  have b9:¬((F w.heap.size/\cls w.heap.size=3)\/r.heap.size<=w.heap.size):=by
   rintro(⟨g,-⟩|g)
   ·have:=T _ g;omega
   ·omega
  refine⟨λn=>(F n/\cls n=3)\/r.heap.size<=n,p,0,rfl,nS,_,ae h4 rfl,b9,ar (bg e I a c) (a6.get h2 id) ⟨PC.ok (a1 (aj.refl _)) ?_,PA.mk λs0 c2 s1 l7=>⟨ai.keep c2,PC.ok (a1 c2) ?_⟩⟩⟩
  ·rintro _ e3 ⟨y,z,A,G1,rfl,-,s,W,v,-⟩
   obtain⟨i,k,X,h5,m,kF⟩:=fv (aj.refl _) W v;have s2:=v.keep.size;have h6:=X.aE;refine cg (Rn _ y z A) ⟨rfl,v.keep.mono λn _ P=>.inl P,PA.mk λs3 e4 s4 l8=>⟨ai.keep e4,aD (mJ _ y z A) l8 rfl λs5 e5 s6 l9=>⟨e5.mono λn _ e=>.inr (by have e:n=e3.heap.size:=e;omega),rfl,y,z,A,i,k,l9,?_,λn P=>?_,?_,oM,λh=>by have:=h6 _ h;omega⟩⟩⟩
   ·exact bf.keep (eC.af X e4) dW e5 λn P e=>by have e:n=e3.heap.size:=e;have:=h6 n P;omega
   ·rcases m n P with g|g
    ·exact .inl g
    ·exact .inr oM
   ·exact(((ai.keep a6).then kF).af e4).new e5 λn P=>.inr (by have P:n=e3.heap.size:=P;omega)
  ·rintro _ s7 ⟨y,z,A,G1,rfl,-,s,W,v,-⟩
   obtain⟨i,k,X,h5,m,kF⟩:=fv c2 W v;have s8:=v.keep.size;have nf:¬i r.heap.size:=λh=>by
    rcases m _ h with g|g
    ·have:=T _ g;omega
    ·omega
   have m0:=kF.get l7 λh=>by have:=T _ h;omega
   refine cg (Rn _ y z A) ⟨rfl,v.keep.mono λn _ P=>.inl P,aD (mJ _ y z A) m0 rfl λs9 e6 t0 m1=>⟨e6.mono λn _ e=>.inr (by have e:n=r.heap.size:=e;omega),rfl,y,z,A,i,k,m1,?_,λn P=>?_,?_,oM,nf⟩⟩
   ·exact bf.keep X dW e6 λn P e=>by have e:n=r.heap.size:=e;exact nf (e▸P)
   ·rcases m n P with g|g
    ·exact .inl g
    ·exact .inr oM
   ·exact(((ai.keep a6).then (ai.keep c2)).then kF).new e6 λn P=>.inr (by have P:n=r.heap.size:=P;omega)
 rintro xb _ _ K ⟨rfl,xa,xn,xc,i,k,gx,Z,m,c3,t1,m2⟩;have h7:=c3.get h2 λh=>by have:=T _ h;omega
 have h8:=(hr.af b8).keep c3 λn P=>(R n P).2;have a8:=Z.aE;have t2:=c3.size;have xw:=az gx;have a9:aj F w K:=(ai.keep b8).then c3;have q0:ai b K:=g0.new a9 λn P=>.inr (g8 n P);obtain⟨j,hS⟩:∃j,j=(V.add e).2.state e.a_ e.agg:=⟨_,rfl⟩
 have t3:(j.getD Ia).cells.length<=8:=by rw[hS];exact EA (show(V.add e).2.OK from(show cJ K q.vp (λn=>i n/\k n=3) (V.add e).2 from Z.at' 3).1) e
 refine⟨λsb so w'=>so=0/\∃sa sn sc G2,w'.heap[sb]? =some (.cells #[WP (j.getD Ia).version,.slice sa sn sc] 42 (0,0))/\Row fy 32 w' G2 sa sn (j.getD Ia).cells/\(∀n,G2 n->K.heap.size<=n/\n<w'.heap.size)/\K.heap.size<=sb/\ai K w',?_,?_⟩
 ·intro B h9
  have c4:ai K B:=h9.keep;have t4:B.heap.size=K.heap.size:=by rw[h9.heap]
  have e7:=eC.af Z c4;have i0:=e7.bA;have d4:=c4.get h7 id;have nS:¬B.heap.size<=p:=by have:=a8 p Z.self.1;omega
  have b9:¬B.heap.size<=w.heap.size:=oM
  refine⟨λn=>B.heap.size<=n,p,0,rfl,nS,_,ae i0 rfl,b9,_,ae d4 rfl,b9,_,ae d4 rfl,PC.ok (oR (e7.at' 3)) ?_,PA.mk λt5 e8 t6 m3=>⟨ai.keep e8,PC.ok (oR ((eC.af e7 e8).at' 3)) ?_⟩⟩
  ·rintro _ c5 ⟨ca,cn,cc,G,rfl,N,L,e9⟩
   have t7:=e9.size;have c6:=N.aE;rw[<-hS]at N⊢;refine⟨_,_,_,_,_,rfl,ai.keep e9,PA.mk λm4 f2 t8 m5=>⟨ai.keep f2,PS.mk m5 sM λt9 m6 u0 m7=>PS.mk m7 sM λm8 m9 u1 n0=>?_⟩⟩;have O:aj (λn=>n=c5.heap.size) m4 m8:=m6.then m9;refine⟨O.mono λn _ e=>by have e:n=c5.heap.size:=e;omega,rfl,ca,cn,cc,G,n0,((N.af f2).keep O λn P e=>by have e:n=c5.heap.size:=e;have:=c6 n P;omega).row dC cw,λn P=>⟨by have:=L n P;omega,by have:=c6 n P;omega⟩,oM,((c4.then e9).then f2).new O λn P=>.inr (by have P:n=c5.heap.size:=P;omega)⟩
  ·rintro _ n2 ⟨ca,cn,cc,G,rfl,N,L,c7⟩
   have u2:=c7.size;have c6:=N.aE;have n3:=c7.get m3 id;rw[<-hS]at N⊢;refine⟨_,_,_,_,_,rfl,ai.keep c7,PS.mk n3 sM λu3 n4 u4 n8=>PS.mk n8 sM λn9 o0 u5 o1=>?_⟩;have O:aj (λn=>n=B.heap.size) n2 n9:=n4.then o0;refine⟨O.mono λn _ e=>by have e:n=B.heap.size:=e;omega,rfl,ca,cn,cc,G,o1,(N.keep O λn P e=>by have e:n=B.heap.size:=e;have:=L n P;omega).row dC cw,λn P=>⟨by have:=L n P;omega,by have:=c6 n P;omega⟩,oM,((c4.then e8).then c7).new O λn P=>.inr (by have P:n=B.heap.size:=P;omega)⟩
 rintro sb _ _ i1 ⟨rfl,sa,sn,sc,G2,gs,o2,o3,u6,Q⟩;have c8:=eC.af Z Q;have i2:=c8.bA;have u7:=Q.size;have i3:bt i1 (λn=>i n/\k n=1) d q.ta q.tn q.pa q.pn:=c8.at' 1;have q1:=i3.EB.len;have q2:=c8.aE;have i4:=Q.get gx id;obtain⟨C,h⟩:∃C:dT->dT,C=λx=>x.add (V.add e).1 (tB ((V.add e).2.state e.a_ e.agg) x.p):=⟨_,rfl⟩
 have f9:=az gs;refine⟨p,0,rfl,_,_,_,ae i2 rfl,λd5 b0 w'=>∃f:Nat,b0=f/\f<=q.pn/\d5=q.pn-f/\eC w' i k p q d (V.add e).2 ((Rs.take f).map C++Rs.drop f) l pts/\aj i i1 w',⟨_,0,rfl,Qj _,rfl,by simpa using c8,aj.refl _⟩,?_⟩;rintro d5 _ _ E ⟨f,rfl,Y,rfl,t,H⟩;have u9:=H.size;have d6:=H.get gs λh=>by have:=a8 _ h;omega
 have g1:=o2.keep H λn P h=>by have:=a8 _ h;have:=(o3 n P).1;omega
 have i5:=H.get i4 m2;have q3:=t.bA;refine al.dec (λv0=>?_) (λv1=>?_)
 ·have i6:f<d.projs.length:=oM
  have hx:d.projs[f]? =some d.projs[f]:=Qq i6;have i7:d.projs[f]∈d.projs:=XY i6;generalize d.projs[f]=x at hx i7;obtain⟨n,g3,es,b1,g5,g6,b2,rfl,d7⟩:=(show bt E (λn=>i n/\k n=1) d q.ta q.tn q.pa q.pn from t.at' 1).EB.el f x hx;have o4:=Ug hd i7;refine⟨n,g3,b1,oM,oM,bJ (es:=oS x) (k:=5) (qI x) rfl (λb0 ht=>by rw[Qx];exact b2 b0 ht) (PA.mk λv2 i8 v3 o5=>aD (qI x) o5 rfl λi9 j0 v4 j1=>⟨λg7 w'=>g7=tB j x/\aH (tB j x)/\i9=w',?_,?_⟩)⟩
  ·have b3:ai E i9:=i8.new j0 λn P=>.inr (by have P:n=E.heap.size:=P;omega)
   have d8:=g1.af b3;have v5:=d8.len;have a4:tB j x=(((j.getD Ia).cells[x.Gj.toNat]?).map (·.n)).getD 0:=by
    cases j<;>rfl
   refine⟨_,ae j1 rfl,_,_,_,ae (b3.get d6 id) rfl,al.dec (λj2=>?_) (λj2=>⟨?_,?_,rfl⟩)⟩
   ·obtain⟨bi,g2⟩:∃bi:Nat,x.Gj=bi:=⟨x.Gj.toNat,oM⟩
    obtain⟨cb,co,v6,v7,v8,o6,v9,x0,o7,-,-,j3,-⟩:=qJ d8 (i:=bi) oM;refine⟨_,_,_,ae (b3.get d6 id) rfl,_,ae j1 rfl,cb,co,o6,o4,j2,_,by rw[g2,Qx];exact o7,?_,?_,rfl⟩
    ·rw[a4,g2,Qx,QQ,Qq (show bi<(j.getD Ia).cells.length by omega)];rfl
    ·rw[a4,g2,Qx,Qq (show bi<(j.getD Ia).cells.length by omega)]
     rw[QQ,Qq (show bi<(j.getD Ia).cells.length by omega)]at j3;exact j3
   ·rw[a4,Q7 oM];rfl
   ·rw[a4,Q7 oM];exact Ij
  ·rintro _ _ _ ⟨rfl,h0,rfl⟩ o8 o9
   have b4:ai E o8:=(i8.new j0 λn P=>.inr (by have P:n=E.heap.size:=P;omega)).then o9.keep;have c9:=eC.af t b4;have p0:((Rs.take f).map C++Rs.drop f)[f]? =Rs[f]? :=by
    rw[X8 dg];simp[Qy,X2 (show f<=Rs.length by omega)]
   have d0:Rs[f]? =some Rs[f]:=Qq oM;have d9:Rs[f].p=x:=by
    have:=Zj (·[f]?) g9;simp only[Q9,d0,hx,Option.map_some,Q1]at this;exact this
   generalize Rs[f]=b5 at d0 d9;obtain⟨rg,pj,rj,p1,p2,hR,j4,x1,j5,-,b6⟩:=cK.elem (c9.at' 4) (p0.trans d0);have p3:=cK.len (c9.at' 4);rw[QX,Q8,Qy,XZ]at p3;have j6:=c9.bA;refine⟨p,0,rfl,_,_,_,ae j6 rfl,rg,0,p1,oM,oM,_,by rw[Qx];exact p2,ar (mJ _ xa xn xc) (b4.get i5 id) (PC.ok (Ro hR j4 (x:=(V.add e).1) he h0) ?_)⟩;rintro _ p4 ⟨rfl,p5,g4⟩;have fY:((Rs.take f).map C++Rs.drop f).set f (b5.add (V.add e).1 (tB j x))=(Rs.take (f+1)).map C++Rs.drop (f+1):=by
    have j7:((Rs.take f).map C).length=f:=by simp;omega
    rw[Qw,d0,Q3,XQ,List.set_append,Zq oM,j7,Nat.sub_self,X4 (show f<Rs.length by omega)];have p6:C b5=b5.add (V.add e).1 (tB j x):=by rw[h,hS,<-d9]
    rw[<-p6];rfl
   have j8:=b6 p4 _ g4 p5;rw[fY]at j8;refine⟨rfl,_,oM,f+1,an oM,oM,rfl,?_,H.then ((ai.keep b4).then (g4.mono λn _ e=>?_))⟩
   ·refine bf.same c9 dW (k:=4) (g4.mono λn _ e=>by have e:n=rj:=e;rw[e];exact j5) j8 λf G Y hc=>by
     rcases f with _|_|_|_|_|_|f<;>first|exact hc|exact Zz rfl Y
   ·have e:n=rj:=e;rw[e];exact j5.1
 have j9:(Rs.take f).map C++Rs.drop f=qH V e Rs:=by
  rw[Qz oM,List.drop_eq_nil_of_le oM,List.append_nil,h];rfl
 rw[j9]at t;intro b7 e0;have a2:ai E b7:=e0.keep;have q4:b7.heap.size=E.heap.size:=by rw[e0.heap]
 have k0:=eC.af t a2;have h1:=k0.bA;have p7:¬i w.heap.size:=λh=>by
  rcases m _ h with g|g
  ·have:=T _ g;omega
  ·omega
 have k1:=a2.get (H.get (Q.get h7 id) p7) id;have nD:∀n,D n->¬i n:=λn P h=>by
  rcases m _ h with g|g
  ·exact(R n P).2 g
  ·have:=(R n P).1;omega
 have k2:=((h8.af Q).keep H nD).af a2;have x2:=aS.len (t.at' 2) dC;have x3:aj F w b7:=((a9.af Q).new H λn P=>(m n P).imp id oM).af a2;refine⟨λ_=>False,p,0,rfl,id,_,_,_,ae h1 rfl,ar (bg e I a c) k1 (PC.ok (Dx k2 λn P=>by have:=(R n P).1;omega) ?_)⟩;rintro _ q5 ⟨y,z,A,G,rfl,p8,L,c0⟩;refine⟨_,_,_,_,_,_,_,_,_,_,_,_,rfl,c0,PA.mk λq6 c1 q7 k3=>⟨c1,?_⟩⟩;have f0:=(a2.then c0).then c1;have k5:=eC.af t f0;have q8:=c0.size;have k6:=t.aE;have f1:∀n,aI q.ea=some n->i n/\k n=2:=λn P=>aS.self (t.at' 2) n P;refine fV (c:=iz) (x:=e) (k5.at' 2) Ik k3 (D:=G) ⟨y,z,A,rfl,p8.af c1,he⟩ (λn P=>⟨by have:=(L n P).2;omega,λee=>by have:=k6 n (f1 n ee).1;have:=(L n P).1;omega⟩) cw (by unfold maxLen;omega) λa' M q9 F2 f3 f4 p9=>⟨_,_,_,rfl,p,0,rfl,?_⟩
 have r0:=f4.size;obtain⟨s,a3,k4,f5,k7,-⟩:=t.fv dW (k:=2) (G':=F2) (C2:=AP p q.cells {q with ea:=a',en:=q.en+1,ec:=M} d (V.add e).2 (qH V e Rs) (l++[e]) pts) ((ai.keep f0).then (f4.mono λn _ P=>f1 n P))
  (λn P=>(p9 n P).imp id λu=>u.elim (λu=>by have:=(L n u).1;omega) λu=>oM) f3.aE f3 λf G Y hc=>by
   rcases f with _|_|_|_|_|_|f<;>first|exact hc|exact Zz rfl Y
 refine PS.mk (k4.at' 0).2 sM λd1 f6 r3 k8=>?_;have k9:eC d1 s a3 p {q with ea:=a',en:=q.en+1,ec:=M} d (V.add e).2 (qH V e Rs) (l++[e]) pts:=eC.store k4 f6 k8;have f7:∀n,s n->F n\/w.heap.size<=n:=λn P=>by
  rcases f5.new n P with g|g
  ·exact(m n g).imp id oM
  ·exact .inr oM
 have l1:aj i E d1:=f5.keep.then (f6.mono λn _ ee=>by have ee:n=p:=ee;rw[ee];exact Z.self.1);have l2:aj F w E:=(a9.af Q).new H λn P=>(m n P).imp id oM;have d2:aj F w d1:=l2.new l1 λn P=>(m n P).imp id oM;refine PC.ok (Ez k9 hd (hT.af (g0.new d2 λn P=>.inr (g8 n P))) dg (by unfold qH;rw[Q8];omega) l3 l4) ?_;rintro _ r4 ⟨rfl,q',F4,n1,n5,d3,f8⟩;refine⟨rfl,Ok.mk ⟨rfl,q',F4,n1,?_,d3,d2.new f8.keep f7,λn P=>?_⟩⟩
 ·simpa using n5
 ·rcases f8.new n P with g|g
  ·exact f7 n g
  ·have:=d2.size;exact .inr oM
end
def sg(P:dX):∀n,(nI P n).Perm (P::n)
 |[]=>List.Perm.refl _
 |y::n=>by
  unfold nI;split
  ·exact List.Perm.refl _
  ·exact((sg P n).cons y).trans (List.Perm.swap P y n)
def yx(n:List dX):(n.foldr nI []).Perm n:=by
 induction n with
 |nil=>exact List.Perm.refl _
 |cons P n a=>exact(sg P _).trans (a.cons P)
def zd{b:dX}:∀{P:List dX},vj P->(∀y∈P,y.group≠b.group)->vj (nI b P)
 |[],_,_=>by simp[nI,vj]
 |y::P,d,e=>by
  unfold nI;have c:=List.pairwise_cons.1 d;have g:=e y (QV ..);split
  ·rename_i f
   refine List.pairwise_cons.2 ⟨λa n=>?_,d⟩;rcases Q2.1 n with rfl|n
   ·exact f
   ·have:=c.1 a n;omega
  ·rename_i h
   refine List.pairwise_cons.2 ⟨λa n=>?_,zd c.2 λa n=>e a (QJ _ n)⟩;rcases Q2.1 ((sg b P).mem_iff.1 n)with rfl|n
   ·omega
   ·exact c.1 a n
def FN:∀{n:List dX},(n.map (·.group)).Nodup->vj (n.foldr nI [])
 |[],_=>List.Pairwise.nil
 |x::n,P=>by
  rw[QY,List.nodup_cons]at P;refine zd (FN P.2) λa b c=>P.1 ?_;rw[<-c];exact Xk.2 ⟨a,(yx n).mem_iff.1 b,rfl⟩
def ze:∀{a P:List dX},(a.Pairwise λx b=>¬b.group<x.group)->vj P->a.Perm P->a=P
 |[],P,_,_,n=>by have:=n.length_eq;cases P;rfl;simp at this
 |x::a,[],_,_,n=>by have:=n.length_eq;simp at this
 |x::a,b::P,f,g,n=>by
  have d:=List.pairwise_cons.1 f;have e:=List.pairwise_cons.1 g;have i:x=b:=by
   rcases Q2.1 (n.mem_iff.1 (QV ..))with h|h
   ·exact h
   rcases Q2.1 (n.mem_iff.2 (QV ..))with c|c
   ·exact c.symm
   have:=e.1 x h;exact Zz this (d.1 b c)
  subst i;rw[ze d.2 e.2 n.cons_inv]
section
variable {w w':World} {p r:Nat} {R:dT}
def mg.Xi(a:mg w p r R):((R.rows.map (·.2)).map (·.group)).Nodup:=by
 have P:=a.map.tidy;unfold Tidy at P;rw[List.map_map]at P⊢;have:R.rows.map ((·.group)∘(·.2))=R.rows.map ((·.1)∘λn=>(n.1,tT n.2)):=List.map_congr_left λn b=>(a.ok n b).2;rw[this];exact P
def mg.zD(n:mg w p r R):vj R.list:=FN n.Xi
def OP(f:mg w p r R)(P:R.rows.length<=20000000):bn 403 #[RK p] w (Ok (qh Ib 195 w R.list)):=by
 refine yd ⟨p,0,rfl,_,ae f.at' rfl,mapRange Tl f.map λw6 O Q s6=>?_⟩;refine⟨λz i j k w'=>∃(left:List (Int×dX)) (a:List dX) (h:ac),z=left.length/\cW w' w.heap.size r (Value.int .i64) (R.rows.map λb=>(b.1,tT b.2)) (left.map λb=>(b.1,tT b.2))/\(∀b∈left,dX.Ok b.2)/\
  (a++left.map (·.2)).Perm (R.rows.map (·.2))/\aS Ib 195 h w' i j k a/\(∀n,h n->w.heap.size<n)/\ai w w',⟨_,R.rows,[],λ_=>False,rfl,O,λb l=>(f.ok b l).1,List.Perm.refl _,aS.nil _,λn P=>P.elim,Q⟩,?_⟩
 rintro z i j k _ A ⟨left,a,h,rfl,B,C,m,d,e,o⟩;have q:a.length+left.length=R.rows.length:=by have:=m.length_eq;simpa using this
 have b4:=d.len dC;refine oG B (λS=>.inl ⟨rfl,?_⟩) (λa2 a3 l1 l2 s T U V W b5=>.inr ⟨_,_,rfl,rE V ?_⟩)
 ·have X:left=[]:=by simpa using S
  subst X;refine PC.ok (Qh d (by simp at q;omega)) ?_;rintro _ b6 ⟨rfl,Y,t,u,v,Z⟩;have he:Y=R.list:=ze u f.zD ((t.trans (by simpa using m)).trans (yx _).symm);subst he;exact⟨rfl,Ok.mk ⟨i,j,k,h,rfl,v,o.new Z λn P=>.inr (by have:=e n (d.self n P);omega),λn P=>by have:=e n P;omega⟩⟩
 ·obtain⟨E,a5,rfl,rfl,l⟩:=List.map_eq_append_iff.1 T
  obtain⟨b,F,rfl,H,rfl⟩:=List.map_eq_cons_iff.1 l;simp only[Prod.mk.injEq]at H;obtain⟨rfl,rfl⟩:=H;have a0:=C b sM;have b7:=o.size;have b3:w.heap.size<A.heap.size:=B.lt;refine⟨_,_,_,_,rfl,PA.mk λb8 I b9 b0=>aD (PO b.2) b0 rfl λc1 J c2 x=>⟨_,_,_,ae x rfl,ae x rfl,ae x rfl,PA.mk λL M c3 b1=>?_⟩⟩;have y:aj (λn=>n=w.heap.size) A L:=((W.af I).new J λn P=>.inr (by have P:n=s.heap.size:=P;omega)).af M;refine fV (c:=Ib) (x:=b.2) (d.keep y λn P c=>by have c:n=w.heap.size:=c;have:=e n P;omega) YH b1 (D:=λ_=>False) ⟨rfl,a0⟩ (λn P=>P.elim) (by simp at q;unfold aP;omega) (by simp at q;unfold maxLen;omega) λa' c' c4 F2 a4 N b2=>⟨_,_,_,rfl,_,?_,E++F,a++[b.2],F2,rfl,?_,λa1 K=>C a1 (by simp at K⊢;rcases K with K|K;exact .inl K;exact .inr (.inr K)),?_,a4,λn P=>?_,?_⟩
  ·simp
  ·have g:cW L w.heap.size r (Value.int .i64) (R.rows.map λb=>(b.1,tT b.2)) ((E++F).map λb=>(b.1,tT b.2)):=by
    rw[Q3];exact((U.af I).keep J (λc=>by have c:w.heap.size=s.heap.size:=c;omega) (λc=>by have c:r=s.heap.size:=c;have:=f.map.lt;omega)).af M
   refine g.keep N (λc=>by have:=e _ (d.self _ c);omega) (λc=>by have:=e _ (d.self _ c);have:=f.map.lt;omega)
  ·refine List.Perm.trans ?_ m
   simp only[Q3,QY,XQ];refine List.Perm.append_left a ?_;rw[List.singleton_append];exact List.perm_middle.symm
  ·rcases b2 n P with g|g|g
   ·exact e n g
   ·exact g.elim
   ·have:=y.size;omega
  ·exact(o.new y λn P=>.inr (by have P:n=w.heap.size:=P;omega)).new N λn P=>.inr (by have:=e n (d.self n P);omega)
end
end Go.Proofs.YtkpomgifkloklaaGreatDoor
namespace Go.aw
open Go
variable{a c i:Nat}{f:ac}{U Z:Operand}{d:be}{h:Program}{j:Type}{C g q:TypeId}{m t:am}{b:World}
def AS{bytes:Nat}{n:kq j}(v:ki h g q n.k bytes)(B:OJ h q=true){w:List j}(k:aS n q f b d a c w)(S:i<=a)(l:∀e,aS n q f e d i c (w.take i)->aj (λP=>aI d=some P) b e->e.heap.size=b.heap.size->m (.tuple #[]) e):
  aK h (Builtin.clear_ #[g] C #[.slice (df d i c n.k) (a-i) (c-i)]) b m t:=by
 rcases Nat.lt_or_ge i a with T|U
 rotate_left
 ·obtain rfl:i=a:=oM
  rw[Nat.sub_self];exact aK.mk (w':=b) (v:=.tuple #[]) (by cases df d i c n.k<;>simp[Builtin.clear_,run_underlying v.under]) (l b (k.take (Q4 _)) (aj.refl _) rfl)
 obtain⟨cs,D,p,E,x⟩:=k.body;have F:=p.length;rcases p.cases with⟨_,V,_,_⟩|⟨y,H,rfl,I,J,z,K⟩
 ·omega
 have r:c<=maxLen:=by
  obtain⟨_,W,_,A,_,_,_,r,_⟩:=p.row.2.resolve_left (by rintro⟨k,_⟩;cases k);simp only[XX]at A;rw[A.2.2];exact r
 have L:i*n.k<=a*n.k:=Q0 _ oM;have X:a*n.k<=c*n.k:=Q0 _ J;rw[gw (show c≠i by omega),Xz];refine SM v B I (by rw[z,Nat.sub_mul];omega) λe o M N O Q R=>?_;have s:aj (λP=>aI (some (⟨y,0,none⟩:Addr))=some P) b e:=Q.mono λP _ q=>by rw[q];rfl
 refine l e ⟨⟨cs.take (i*n.k),D,⟨⟨by rw[Qy,F];omega,.inr ⟨y,c,o,rfl,Qj _,M,oM,r,by rw[N,z],?_⟩⟩⟩,(E.keep s λP u=>(x P u).2).take i,x⟩,k.self,λP u=>Qk (k.aE P u) s.size⟩ s R;rw[O,<-K,List.take_take,X2 L]
def Ui(i:0<c)(j:a<9223372036854775808):(do eqGuard .quo g U Z (WP (a:Int)) (WP (c:Int));binOp .quo g (WP (a:Int)) (WP (c:Int)):Sem Value).run h b= .ok (WP ((a/c:Nat):Int)) b:=by
 have d:c≠0:=oM
 have n:(a:Int).tdiv (c:Int)=((a/c:Nat):Int):=by rw[Int.tdiv_eq_ediv_of_nonneg oM];rfl
 have e:=Nat.div_le_self a c;generalize a/c=P at n e;have f:IntKind.wrap .i64 (P:Int)=(P:Int):=wrap_i64 cS;simp[eqGuard,binOp,Op.intDiv,d,n,f]
end Go.aw
namespace Go.Proofs.YtkpomgifkloklaaGreatDoor
open Go.aw
def de(d:World)(e:Nat)(f:ac)(P:aU)(n:Nat)(a:List ah):Prop:=
 (dt P=0/\0<n/\n<9223372036854775808/\a.length<=20000000)/\∃c b,c.every=n/\eC d f b e c P (bU P a) (eF P a).rows a (lv P n a)
variable{Y o:Array Value}{A:FuncId}{O b7 e r:Int}{E e1:List ah}{a c:Nat}{F:Nat×Nat}{U Z:Operand}{d v:be}{h:Program}{g q:TypeId}{b:World}{l:ah}
def Uh{d:aU}(n:0<a)(P:a<9223372036854775808)(b:E.length<=20000000):(lv d a E).length*a<9223372036854775808/\(lv d a E).length<=20000001:=by
 rw[AR];have c:=Nat.div_le_self E.length a;refine⟨?_,oM⟩;rcases Nat.lt_or_ge E.length a with h|h
 ·rw[Nat.div_eq_of_lt h];omega
 ·have:=Nat.div_mul_le_self E.length a
  rw[X7,Nat.one_mul];omega
section
variable {w w':World} {p:Nat} {F T D:ac} {d:aU} {every:Nat} {l:List ah}
def de.keep(a:de w p F d every l)(b:aj T w w')(c:∀P,F P->¬T P):de w' p F d every l:=by
 obtain⟨e,f,n,g,h⟩:=a;exact⟨e,f,n,g,bf.keep h dW b c⟩
def de.af(n:de w p F d every l)(P:ai w w'):de w' p F d every l:=n.keep P λ_ _ n=>n
def de.aE(P:de w p F d every l):∀n,F n->n<w.heap.size:=by obtain⟨c,e,a,f,b⟩:=P;exact b.aE
def xt(d:aU)(l:List ah)(b:l.length<=20000000):(bU d l).entries.length<=20000000/\∀n,((au (bU d l).done n).getD []).length<=20000000:=by
 have P:=λn=>Gm d l (bj.new d) n;refine⟨?_,λn=>?_⟩
 ·have a:(bU d l).entries.length=0+l.length:=(P (0,0,0)).2
  omega
 ·have a:((au (bU d l).done n).getD []).length<=0+l.length:=(P n).1
  omega
def Il(d:aU)(l:List ah)(n:ah):qH (bU d l) n (eF d l).rows=(eF d (l++[n])).rows:=by
 rw[KW];unfold qH lj.add;rw[KX]
def Rp(s:de w p F d every l)(t:fE b)(u:ai b w)(v:∀n,F n->b.heap.size<=n)(j:l.length+1<=20000000){e:ah}{k:be}(x:Row aO 8 w D k a e.aM)(y:∀n,D n->n<w.heap.size/\¬F n)(z:e.Ok):
  bn 158 #[RK p,lg e k a c] w (Ok λm w'=>m= .tuple #[]/\∃f,de w' p f d every (l++[e])/\cd F w f w'):=by
 obtain⟨⟨o,g,q,r⟩,L,A,rfl,B⟩:=s;obtain⟨C,E⟩:=xt d l r;obtain⟨H,I⟩:=Uh (d:=d) g q r;refine(Rm B o t u v j C (Im d l) H I (E _) x y z).mono ?_;rintro _ w' ⟨m,rfl,rfl,J,f,P,h,i,K⟩;refine Ok.mk ⟨rfl,f,⟨⟨o,g,q,by simpa using j⟩,J,P,i,?_⟩,K⟩;rw[KY,OI g,<-Il,<-AR (d:=d)];exact h
def zPt:OJ LL 247=true:=kR
def OL(a0:de w p F d every l)(hT:fE b)(g0:ai b w)(c6:∀P,F P->b.heap.size<=P)(hn:a<=l.length):
  bn 157 #[RK p,WP (a:Int)] w (Ok λa1 w'=>a1= .tuple #[]/\∃H,de w' p H d every (l.take (a/every*every))/\cd F w H w'):=by
 obtain⟨⟨q,u,h3,h4⟩,n,h,rfl,g⟩:=a0;have c7:=g.bA;have e2:=g.aE;have c8:=aS.len (g.at' 5) dC;have I:=aS.len (g.at' 2) dC;rw[AR]at c8;obtain⟨k,v⟩:∃k,k=a/n.every:=⟨_,rfl⟩
 have s:k<=l.length/n.every:=by rw[v];exact Nat.div_le_div_right hn
 have J:k*n.every<=l.length:=Xx (Q0 _ s) (Nat.div_mul_le_self ..);have e3:k<=l.length:=Xx s (Nat.div_le_self ..);rw[<-v];have x:IntKind.wrap .i64 ((k:Int)*(n.every:Int))=((k*n.every:Nat):Int):=by
  rw[show((k:Int)*(n.every:Int))=((k*n.every:Nat):Int) by push_cast;rfl,wrap_i64 cS]
 have c9:IntKind.wrap .i64 ((k:Int)+1)=((k+1:Nat):Int):=an oM;have ec:=aS.lL (g.at' 2);have qc:=aS.lL (g.at' 5);refine sK ⟨p,0,rfl,_,ae c7 rfl,aK.mk (Ui u oM) ⟨_,rfl,λK d0=>?_⟩⟩;rw[<-v,c9];simp only[Qx];have L:ai w K:=d0.keep;have y:=eC.af g L;have z:=y.bA;have a2:bf K F h (AP p n.cells {n with en:=k*n.every} d (bU d l) (eF d l).rows (l.take (k*n.every)) (lv d n.every l)):=y.same dW (k:=2) (aj.refl _) (aS.take (y.at' 2) (show k*n.every<=n.en from I▸J)) λi G j m=>by
  rcases i with _|_|_|_|_|_|i<;>first|exact m|exact Zz rfl j
 refine⟨p,0,rfl,_,_,_,ae z rfl,p,0,rfl,_,ae z rfl,by rw[x];exact Int.natCast_nonneg _,by rw[x];exact Int.ofNat_le.2 (Xx J (I▸ec)),p,0,rfl,?_⟩;rw[x,Qx];refine PS.mk z sM λd1 M e4 N=>?_;have O:eC d1 F h p {n with en:=k*n.every} d (bU d l) (eF d l).rows (l.take (k*n.every)) (lv d n.every l):=eC.store a2 M N;refine⟨p,0,rfl,_,_,_,ae N rfl,oM,by show _<=((n.qn:Nat):Int);omega,?_⟩;have e:∀P,aI n.qa=some P->F P/\h P=5:=λP c=>aS.self (g.at' 5) P c;have a3:¬aI n.qa=some p:=λf=>by have q:=(e p f).2;rw[g.self.2]at q;cases q
 refine AS Ya zPt (O.at' 5) (by show k+1<=n.qn;omega) λd2 a5 Q e5=>?_;have R:bf d2 F h (AP p ({n with en:=k*n.every}:xr).cells {n with en:=k*n.every,qn:=k+1} d (bU d l) (eF d l).rows (l.take (k*n.every)) ((lv d n.every l).take (k+1))):=O.same dW (k:=5) (Q.mono λP _ c=>e P c) a5 λi G j m=>by
  rcases i with _|_|_|_|_|_|i<;>first|exact m|exact Zz rfl j
 have S:=(R.at' 0).2;refine⟨p,0,rfl,_,_,_,ae S rfl,oM,by show _<=((n.qc:Nat):Int);omega,p,0,rfl,PS.mk S sM λT U e6 V=>?_⟩;have r:eC T F h p {n with en:=k*n.every,qn:=k+1} d (bU d l) (eF d l).rows (l.take (k*n.every)) ((lv d n.every l).take (k+1)):=eC.store R U V;have A:aj F w T:=(((ai.keep L).then (M.mono λP _ f=>by have f:P=p:=f;rw[f];exact g.self.1)).then (Q.mono λP _ c=>(e P c).1)).then (U.mono λP _ f=>by have f:P=p:=f;rw[f];exact g.self.1);have d3:((lv d n.every l).take (k+1))[k]? =some (eF d (l.take (k*n.every))).rows:=by
  rw[Xw,Zx oM];exact Rq s
 obtain⟨pb,po,es,d4,e7,e8,W,e9,ra,rn,rc,rfl,d5⟩:=(aS.row (bytes:=32) (r.at' 5) dC (by rw[Qy];unfold aP;omega)).el k _ d3;have c0:=W 0 dC;have c1:=W 1 dC;refine⟨p,0,rfl,_,_,_,ae V rfl,pb,po,d4,oM,by show(k:Int)<((k+1:Nat):Int);omega,_,_,_,_,c0,c1,PC.ok (Ey r q (hT.af (g0.new A λP c=>.inr (c6 P c))) (by rw[Qy];omega) d5 (λP c=>r.aE P c.1) (by rw[qK];exact(AQ (nP q).1).2.2.1)) ?_⟩;rintro _ X ⟨B,Y,Z,c2,Fv,G,rfl,hv,b4,b5,t,b6⟩;have f2:=A.size;obtain⟨F1,e1,d6,g1,b7,-⟩:=r.Io dW (k:=3) (w':=X) (G':=Fv) (C2:=AP p ({n with en:=k*n.every,qn:=k+1}:xr).cells {n with en:=k*n.every,qn:=k+1,vp:=B} d (bU d (l.take (k*n.every))) (eF d l).rows (l.take (k*n.every)) ((lv d n.every l).take (k+1)))
  (ai.keep b6) (λP c C=>by have:=b5 P c;have:=r.aE P C;omega) hv.aE hv λi G j m=>by
   rcases i with _|_|_|_|_|_|i<;>first|exact m|exact Zz rfl j
 obtain⟨F2,b8,b9,g2,d7,-⟩:=d6.Io dW (k:=4) (w':=X) (G':=G) (C2:=AP p ({n with en:=k*n.every,qn:=k+1}:xr).cells {n with en:=k*n.every,qn:=k+1,vp:=B,ra:=Y,rn:=Z,rc:=c2} d (bU d (l.take (k*n.every))) (eF d (l.take (k*n.every))).rows (l.take (k*n.every)) ((lv d n.every l).take (k+1)))
  (aj.refl _) (λP c C=>by
   rcases b7 P C with o|o
   ·have:=(t P c).1;have:=r.aE P o.1;omega
   ·exact Zz o (t P c).2.2) (λP c=>(t P c).2.1) b4 λi G j m=>by
   rcases i with _|_|_|_|_|_|i<;>first|exact m|exact Zz rfl j
 have c3:∀P,F2 P->F P\/w.heap.size<=P:=λP c=>by
  rcases d7 P c with o|o
  ·rcases b7 P o.1 with E|E
   ·exact .inl E.1
   ·exact .inr (by have:=b5 P E;omega)
  ·exact .inr (by have:=(t P o).1;omega)
 have d8:=(b9.at' 0).2;refine⟨_,_,_,_,rfl,p,0,rfl,PS.mk d8 sM λg3 c4 g4 d9=>PS.mk d9 sM λg5 c5 g6 e0=>Ok.mk ⟨rfl,F2,⟨⟨q,u,h3,by rw[Qy];omega⟩,{n with en:=k*n.every,qn:=k+1,vp:=B,ra:=Y,rn:=Z,rc:=c2},b8,rfl,?_⟩,?_,c3⟩⟩
 ·rw[<-OM u s]
  exact eC.store b9 (c4.then c5) e0
 ·exact(A.af b6).then ((c4.then c5).mono λP _ f=>by have f:P=p:=f;rw[f];exact g.self.1)
end
def Zn(n:KS h g q):(do eqGuard .eql g U Z (.agg #[WP e,WP r]) (.agg #[WP O,WP b7]);binOp .eql g (.agg #[WP e,WP r]) (.agg #[WP O,WP b7]):Sem Value).run h b= .ok (.bool (e==O&&r==b7)) b:=by
 rw[Sem.run_bind,run_eqGuard_agg b .eql _ U Z _ _ n.hm,Result.andThen_ok,run_eql_struct];have:=n.equalIn 9998 (e,r) (O,b7) b;unfold qg at this;rw[this];rfl
section
variable {w w':World} {p:Nat} {F T D:ac} {d:aU} {every:Nat} {l l2:List ah}
def Ip(U:de w p F d every l)(V:fE b)(J:ai b w)(K:∀P,F P->b.heap.size<=P){L:be}(M:Row iz 96 w D L a l2)(e2:a<=c)(z:∀P,D P->P<w.heap.size/\¬F P)(e3:l2.length<=20000000)(b2:∀(W:Nat) (g j:ah),l[W]? =some g->l2[W]? =some j->aZ g=aZ j->g=j):
  bn 97 #[RK p,.slice L a c] w (Ok λb3 w'=>∃A:Int,b3= WP A/\∃h,de w' p h d every l2/\cd F w h w'):=by
 have hn:=M.len;have X:=U;obtain⟨⟨h1,h2,h3,h4⟩,e0,b6,e4,B⟩:=U;have e5:=aS.len (B.at' 2) dC;have e6:=B.aE;refine qL ⟨λi w'=>∃n:Nat,i=n/\n<=l.length/\n<=l2.length/\l.take n=l2.take n/\ai w w',?_,?_⟩
 ·refine⟨λe i w'=>∃n:Nat,i=n/\n<=l.length/\n<=l2.length/\e=l.length-n/\l.take n=l2.take n/\ai w w',⟨_,0,rfl,Qj _,Qj _,rfl,rfl,aj.refl _⟩,?_⟩
  rintro e _ _ w9 ⟨n,rfl,Y,Z,rfl,m,t⟩;have h9:=eC.af B t;have a4:=h9.bA;refine⟨p,0,rfl,_,_,_,ae a4 rfl,al.dec (λN=>?_) (λa5 c1 C=>⟨n,rfl,Y,Z,m,t.then C.keep⟩)⟩;have a6:n<l.length/\n<l2.length:=by split at N<;>omega
  have k:l[n]? =some l[n]:=Qq a6.1;have E:l2[n]? =some l2[n]:=Qq a6.2;generalize l[n]=g at k;generalize l2[n]=j at E;obtain⟨P,o,es,O,c2,c3,H,ya,yn,yc,rfl,e7,e1⟩:=(M.af t).el n j E;obtain⟨b7,o2,e8,c4,e9,f0,a0,u,v,x,rfl,a7,a1⟩:=(aS.row (bytes:=96) (h9.at' 2) dC cw).el n g k;have y0:=H 0 dC;have y1:=H 1 dC;have x0:=a0 0 dC;have x1:=a0 1 dC;refine⟨P,o,O,oM,oM,_,_,y0,y1,p,0,rfl,_,_,_,ae a4 rfl,b7,o2,c4,oM,oM,_,_,x0,x1,(j.origin==g.origin&&j.seq==g.seq),λe=>Zn NA,λc1 C=>al.mk (λQ=>⟨_,?_,n+1,an oM,oM,oM,rfl,?_,t.then C.keep⟩) (λ_=>⟨n,rfl,Y,Z,m,t.then C.keep⟩)⟩
  ·omega
  ·simp only[QK,beq_iff_eq]at Q
   have c5:=b2 n g j k E (by simp[aZ,Q.1,Q.2]);rw[Qw,Qw,m,k,E,c5]
 rintro _ _ f1 ⟨i,rfl,c6,c7,m,q⟩;have c8:=eC.af B q;have b9:=c8.bA;have f2:=q.size;refine⟨λw'=>∃e h,e<=l2.length/\de w' p h d every (l2.take e)/\cd F w h w',⟨p,0,rfl,_,_,_,ae b9 rfl,al.dec (λN=>?_) (λa5=>?_)⟩,?_⟩
 ·refine PC.ok (OL (X.af q) V (J.then q) K c6) ?_
  rintro _ g1 ⟨rfl,h,R,a9⟩;have b0:i/every*every<=i:=Nat.div_mul_le_self ..;refine⟨rfl,_,h,Xx b0 c7,?_,(ai.keep q).then a9.keep,λP f=>(a9.new P f).imp id oM⟩;have:l.take (i/every*every)=l2.take (i/every*every):=by
   have:=Zj (List.take (i/every*every)) m
   rwa [List.take_take,List.take_take,X2 b0]at this
  rw[<-this];exact R
 ·have c9:i=l.length:=oM
  refine⟨l.length,F,oM,?_,ai.keep q,λP f=>.inl f⟩;rw[c9,List.take_length]at m;rw[<-m];exact X.af q
 rintro _ g2 ⟨e,F1,hm,b1,a2⟩;have c0:=b1;obtain⟨-,q1,f3,f4,b4⟩:=b1;have a3:=aS.len (b4.at' 2) dC;rw[Qy,X2 hm]at a3;have g3:=a2.keep.size;refine⟨p,0,rfl,_,_,_,ae b4.bA rfl,oM,oM,?_⟩;rw[Qx,a3];refine⟨λA s w'=>∃(n:Nat) (h:ac),s=n/\n<=a-e/\A=a-e-n/\de w' p h d every (l2.take (e+n))/\cd F w h w',⟨_,0,F1,rfl,Qj _,rfl,c0,a2⟩,?_⟩;rintro A _ _ b5 ⟨n,S,rfl,hj,rfl,T,r⟩;refine al.dec (λN=>?_) (λa5=>?_)
 ·have d0:e+n<l2.length:=oM
  have k:l2[e+n]? =some l2[e+n]:=Qq d0;generalize l2[e+n]=g at k;have d1:=M.keep r.keep λP f=>(z P f).2;obtain⟨P,o,es,O,c2,c3,H,u,v,x,rfl,a7,a1⟩:=d1.el (e+n) g k;have d2:df L e c 10=some ⟨P,o+e*10,none⟩:=by rw[O];exact gw oM
  have g4:=r.keep.size;refine⟨P,o+e*10,d2,oM,oM,bJ (es:=aF g u v x) (k:=10) (bg g u v x) rfl (λs ht=>by rw[Qx];have:=H s ht;rw[show o+e*10+n*10+s=o+(e+n)*iz.k+s by show _=o+(e+n)*10+s;omega];exact this) (PA.mk λg5 d3 g6 d4=>aD (bg g u v x) d4 rfl λb8 d5 g7 d6=>ar (bg g u v x) d6 ?_)⟩;have I:ai b5 b8:=d3.new d5 λP f=>.inr (by have f:P=b5.heap.size:=f;omega);have a8:cd F w S b8:=⟨r.keep.af I,r.new⟩
  have d7:∀P,D P->¬S P:=λP f hf=>by
   rcases r.new P hf with y|y
   ·exact(z P f).2 y
   ·have:=(z P f).1;omega
  refine PC.ok (Rp (T.af I) V (J.new a8.keep λP f=>.inr (K P f)) (λP f=>?_) (by rw[Qy];omega) (a7.af I) (λP f=>⟨by have:=(z P f).1;have:=I.size;omega,d7 P f⟩) a1) ?_
  ·rcases r.new P f with y|y
   ·exact K P y
   ·have:=J.size;omega
  rintro _ g8 ⟨rfl,F3,d8,d9⟩;refine⟨rfl,_,?_,n+1,F3,an oM,oM,rfl,?_,a8.trans d9⟩
  ·omega
  ·rw[show e+(n+1)=e+n+1 by omega,Qw,k];exact d8
 ·rw[Qz oM]at T
  exact Ok.mk ⟨_,rfl,S,T,r⟩
end
section
variable {w w':World} {p:Nat} {F T D:ac} {d:aU} {every:Nat} {l l2:List ah}
def Rr{d:aU}{ta pa:be}{tn tc pn pc:Nat}{ev:Int}(m:dt d=0)(h6:aH ev)(hT:fE w)(o:bt w D d ta tn pa pn)(hD:∀n,D n->n<w.heap.size):
  bn 94 #[.agg #[.slice ta tn tc,.slice pa pn pc],WP ev] w (Ok λe3 w'=>∃p F,e3= RK p/\de w' p F d (max 1 ev).toNat []/\(∀n,F n->w.heap.size<=n)/\ai w w'):=by
 have h7:=o.a_.len;have X:=o.a_.eO;have h8:=o.EB.len;have h9:=o.EB.eO;have e6:d.projs.length<=8:=(AQ (nP m).1).2.2.1;obtain⟨every,e7⟩:∃every:Nat,every=(max 1 ev).toNat:=⟨_,rfl⟩
 have e8:(if ev>1 then ev else 1)=(every:Int):=by split<;>omega
 have c0:0<every/\every<9223372036854775808:=by unfold aH at h6;omega
 rw[<-e7];refine Gn ?_;refine PA.mk λw1 k1 s1 g1=>⟨_,_,_,ae g1 rfl,PC.ok (qM (o.EB.af k1) λn B=>by have:=hD n B;omega) ?_⟩
 rintro _ P ⟨h,f,v,x,rfl,Y,k8,i0⟩;have z8:=k8.size;refine⟨_,_,_,rfl,PA.mk λc1 Z l5 d8=>?_⟩;rw[e8]at d8;have e9:ai w c1:=(k1.then k8).then Z;have ga:=Z.get (k8.get g1 id) id;have l6:=Z.size;refine⟨_,_,_,ae ga rfl,λq I w'=>∃a:Nat,I=a/\a<=tn/\q=tn-a/\aj (·=P.heap.size) c1 w'/\∃r s J j,w'.heap[P.heap.size]? =some (.cells #[.slice r s J,.slice h f v,WP (every:Int),.slice none 0 0,.pointer none,.slice none 0 0,.slice none 0 0] 250 (0,0))/\aS nQ 120 j w' r s J (d.types.take a)/\∀n,j n->c1.heap.size<=n,
  ⟨_,0,rfl,Qj _,rfl,aj.refl _,none,0,0,λ_=>False,d8,aS.nil _,λ_ o=>o.elim⟩,?_⟩
 rintro q _ _ y ⟨a,rfl,hj,rfl,kk,r,s,J,j,K,t,L⟩;have a7:ai w y:=e9.new kk λn B=>.inr oM;have zk:=kk.size;refine al.dec (λl7=>?_) (λl8=>?_)
 ·have e0:a<d.types.length:=oM
  obtain⟨n,a4,es,ha,B,i1,f0,fa,fn,fc,rfl,a8⟩:=(o.a_.af a7).el a d.types[a] (by simp[e0]);have e1:d.types[a]? =some d.types[a]:=Qq e0;generalize d.types[a]=a0 at a8 e1;have c2:=f0 0 dC;have i2:nQ.k=1:=rfl;rw[i2,Nat.mul_one]at c2;refine⟨n,a4,ha,oM,oM,fa,fn,fc,by rw[Qx];exact c2,PA.mk λl9 i3 m0 i4=>PS.mk i4 sM λe2 i5 m1 i6=>⟨_,_,_,ae i6 rfl,?_⟩⟩;have a1:ai y e2:=i3.new i5 λn B=>.inr oM;have f1:=a7.then a1;obtain⟨C,l1,l2,l3⟩:=fw.boxes (N:=KZ) a8;have c4:=a8.eO;refine PC.ok (qN (l2.af a1) λn B=>by have:=hD n B;have:=f1.size;omega) ?_;rintro _ e4 ⟨a9,M,f2,F9,rfl,b0,e5,i7⟩;have m2:=a1.size;have m3:=e5.size;have a2:∀n,aI a9=some n->e2.heap.size<=n:=λn B=>i7 n (b0.self n B);have f3:∀n,aI a9=some n->n<e4.heap.size:=λn B=>b0.aE n (b0.self n B);refine⟨_,_,_,rfl,λq I w'=>∃a:Nat,I=a/\a<=M/\q=M-a/\ef KZ 123 e4 a9 M f2 C a w',⟨_,0,rfl,Qj _,rfl,ef.start b0.alone⟩,?_⟩;rintro q _ _ i8 ⟨c,rfl,g,rfl,z⟩;have m4:=z.len;have m5:C.length=a0.length:=by rw[<-l1];simp
  have i9:=a8.len;have N:ai y i8:=(a1.then e5).new z.keep λn B=>.inr (by have:=a2 n B;omega);have m6:=z.keep.size;refine al.dec (λf4=>?_) (λf5=>?_)
  ·obtain⟨a3,rfl⟩:=z.some oM
   have f6:=f3 a3 rfl;have a5:C[c]? =some C[c]:=Qq oM;have O:=l3 C[c] (XY oM);generalize C[c]=bx at a5 O;refine⟨a3,0,rfl,oM,oM,_,_,_,z.cell rfl a5 (by show M*4<=aP;unfold aP at c4⊢;omega) 3 _ rfl,PC.ok (tY (O.1.af N) λn B=>by have:=hD n B;have:=(a7.then N).size;omega) ?_⟩;rintro _ m7 ⟨m8,m9,n0,G,rfl,c3,j0,i⟩;refine⟨_,_,_,rfl,a3,0,rfl,oM,oM,?_⟩;refine(z.af j0).step (g:=a3) rfl a5 (c3.row (bytes:=32) dC ?_) O.2 (λu E=>⟨by have:=i u E;omega,c3.aE u E⟩) f6 λn1 f7 n2 n3=>⟨_,?_,c+1,an (by unfold aP at c4;omega),oM,rfl,f7⟩
   ·have e:=O.1.eO
    have l:=O.1.len;show bx.x.bN.length*32<=aP;have n4:bx.n=bx.x.bN.length:=l;have n8:bx.n*32<=aP:=e;omega
   ·omega
  ·obtain rfl:c=M:=oM
   obtain⟨Fd,m,c6⟩:=z.done;rw[l1,Iq]at m;have c5:=N.get K id;refine⟨P.heap.size,0,rfl,_,_,_,ae c5 rfl,ON (c:=nQ) (x:=a0) (t.af N) Rt (D:=Fd) ⟨_,_,_,rfl,m.row dC (by rw[<-i9];exact c4)⟩ (λn B=>⟨m.aE n B,λb=>?_⟩) ?_ ?_ λa' Q o0 F' f8 c7 g0 l0=>⟨_,_,_,rfl,P.heap.size,0,rfl,?_⟩⟩
   ·have e:=t.aE n (t.self n b)
    rcases c6 n B with l|l
    ·have:=a2 n l;omega
    ·omega
   ·have:=List.length_take_le a d.types;unfold aP at X⊢;omega
   ·have:=List.length_take_le a d.types;unfold aP at X;unfold maxLen;omega
   ·have j1:¬aI r=some P.heap.size:=λb=>by have:=L _ (t.self _ b);omega
    have j2:=c7.get c5 j1;have o1:=c7.size;refine PS.mk j2 sM λo2 g2 o3 j3=>⟨_,?_,a+1,an (by unfold aP at X;omega),oM,rfl,?_,a',s+1,Q,F',j3,?_,?_⟩
    ·omega
    ·exact((kk.af N).new c7 λn B=>.inr (L _ (t.self n B))).then g2
    ·rw[Qw,e1]
     refine f8.keep g2 λn B b=>?_;rcases g0 n B with e|e|e
     ·have:=L n e;omega
     ·rcases c6 n e with l|l
      ·have:=a2 n l;omega
      ·omega
     ·omega
    ·intro n B
     rcases g0 n B with e|e|e
     ·exact L n e
     ·rcases c6 n e with l|l
      ·have:=a2 n l;omega
      ·omega
     ·omega
 ·obtain rfl:a=tn:=oM
  rw[Qz oM]at t;have g3:=(Y.af Z).keep kk λn B b=>by have:=Y.aE n B;omega
  have o4:P.heap.size<y.heap.size:=az K;have g4:bt y (λn=>j n\/x n) d r s h f:=⟨(t.row (bytes:=24) dC (by rw[<-h7];exact X)).mono λn B=>.inl B,(g3.row (bytes:=40) dC (by rw[<-h8];exact h9)).mono λn B=>.inr B⟩
  have A:∀n,j n\/x n->w.heap.size<=n/\n<y.heap.size/\n≠P.heap.size:=λn B=>by
   rcases B with B|B
   ·have:=L n B;have:=t.aE n B;omega
   ·have:=i0 n B;have:=Y.aE n B;omega
  refine⟨P.heap.size,0,rfl,_,_,_,_,_,_,ae K rfl,ae K rfl,PC.ok (Ir m g4 λn B=>(A n B).2.1) ?_⟩;rintro _ j4 ⟨vp,R,rfl,hv,b1,b2⟩;have o5:=b2.size;have g5:=hv.aE;refine⟨_,rfl,P.heap.size,0,rfl,PS.mk (b2.get K id) sM λS c8 o6 g6=>⟨P.heap.size,0,rfl,_,_,_,ae g6 rfl,?_⟩⟩;have l4:=Y.len dC;have c9:bt S (λn=>j n\/x n) d r s h f:=(g4.af b2).keep c8 λn B b=>(A n B).2.2 b;have g7:cJ S vp R (bj.new d):=hv.keep c8 λn B b=>by have b:n=P.heap.size:=b;have:=b1 n B;omega
  refine⟨λq I w'=>∃(a:Nat) (ra:be) (T rc:Nat) (G:ac),I=a/\a<=f/\q=f-a/\aj (·=P.heap.size) S w'/\w'.heap[P.heap.size]? =some (.cells #[.slice r s J,.slice h f v,WP (every:Int),.slice none 0 0,RK vp,.slice ra T rc,.slice none 0 0] 250 (0,0))/\
   cK w' G ra T rc ((d.projs.take a).map λp=>(⟨p,[]⟩:dT))/\∀n,G n->S.heap.size<=n/\n<w'.heap.size,⟨_,0,none,0,0,λ_=>False,rfl,Qj _,rfl,aj.refl _,g6,cK.nil _,λn B=>B.elim⟩,?_⟩
  rintro q _ _ b3 ⟨c,ra,T,rc,G,rfl,g,rfl,H,d0,b4,i⟩;have o7:=H.size;refine al.dec (λf4=>?_) (λf5=>?_)
  ·have j5:c<d.projs.length:=oM
   have E:d.projs[c]? =some d.projs[c]:=Qq j5;generalize d.projs[c]=u at E;obtain⟨n,a4,es,a6,d5,i1,b5,rfl,d6⟩:=(c9.keep H λn B b=>(A n B).2.2 b).EB.el c u E;refine⟨n,a4,a6,oM,oM,bJ (es:=oS u) (k:=5) (qI u) rfl (λa0 ht=>by rw[Qx];exact b5 a0 ht) (PA.mk λo8 j6 o9 j7=>aD (qI u) j7 rfl λp0 j8 p1 j9=>λk0 g8=>⟨λ_=>False,P.heap.size,0,rfl,id,?_⟩)⟩;have d1:ai b3 k0:=(j6.new j8 λn B=>.inr (by have B:n=b3.heap.size:=B;omega)).then g8.keep;refine⟨_,_,_,ae (d1.get d0 id) rfl,ar (qI u) ((g8.keep (S:=λ_=>False)).get j9 id) (PC.ok Ru ?_)⟩;rintro _ p2 ⟨p',r',rfl,d2,p3,p4,p5,p6,d3⟩;have k2:p'≠r':=λb=>by
    obtain⟨es,cl,hm,-⟩:=d2.map.at';have:=d2.at';rw[b,hm]at this;cases this
   have p7:=d3.size;have p8:=d1.size;refine⟨_,rfl,d3,PA.mk λp9 d4 q0 k3=>⟨d4,?_⟩⟩;have b6:=(d1.then d3).then d4;have k4:=b4.len;rw[Q8,Qy,X2 oM]at k4;refine(b4.af b6).push (λn B=>by have:=(i n B).2;omega) (d2.af d4) (λB=>by have:=(i _ B).2;omega) (λB=>by have:=(i _ B).2;omega) k2 Rl k3 (by rw[Q8,Qy];omega) λf9 h0 q1 G3 k5 g9 k6 h3=>⟨_,_,_,rfl,P.heap.size,0,rfl,?_⟩
   have k7:=g9.get (b6.get d0 id) λB=>by have:=(i _ B).1;omega
   have d7:∀n,G3 n->S.heap.size<=n:=λn B=>by
    rcases k6 n B with e|e|e|e
    ·exact(i n e).1
    ·omega
    ·omega
    ·omega
   refine PS.mk k7 sM λq2 h4 q3 k9=>⟨_,?_,c+1,f9,T+1,h0,G3,an oM,oM,rfl,((H.af b6).new g9 λn B=>.inr (i n B).1).then h4,k9,?_,λn B=>⟨d7 n B,by have:=h3 n B;omega⟩⟩
   ·omega
   ·rw[Qw,E,Q3]
    exact k5.keep h4 λn B b=>by have b:n=P.heap.size:=b;have:=d7 n B;omega
  ·rw[Qz oM]at b4
   have h1:∃U,eC b3 (λn=>∃k,(match k with|0=>n=P.heap.size|1=>j n\/x n|3=>R n|4=>G n|_=>False:Prop)) U P.heap.size ⟨r,s,J,h,f,v,every,none,0,0,vp,ra,T,rc,none,0,0⟩ d (bU d []) (eF d []).rows [] []:=by
    refine bf.join (G:=λk n=>match k with|0=>n=P.heap.size|1=>j n\/x n|3=>R n|4=>G n|_=>False) (λk=>?_) (λc a n g hj=>?_) λk n B=>?_
    ·match k with
     |0=>exact⟨rfl,d0⟩
     |1=>exact c9.keep H λn B b=>(A n B).2.2 b
     |2=>exact aS.nil _
     |3=>exact g7.keep H λn B b=>by have b:n=P.heap.size:=b;have:=b1 n B;omega
     |4=>exact b4
     |5=>exact aS.nil _
     |k+6=>trivial
    ·have V:∀c:Nat,(match c with|0=>n=P.heap.size|1=>j n\/x n|3=>R n|4=>G n|_=>False:Prop)->c=(if n=P.heap.size then 0 else if n<y.heap.size then 1 else if n<j4.heap.size then 3 else 4):=λc g=>by
      rcases c with _|_|_|_|_|c
      ·have g:n=P.heap.size:=g
       rw[Zx g]
      ·have:=A n g;rw[Zq oM,Zx oM]
      ·exact g.elim
      ·have:=b1 n g;have:=g5 n g;rw[Zq oM,Zq oM,Zx oM]
      ·have:=i n g;rw[Zq oM,Zq oM,Zq oM]
      ·exact g.elim
     rw[V c g,<-V a hj]
    ·rcases k with _|_|_|_|_|k
     ·have B:n=P.heap.size:=B
      omega
     ·have:=A n B;omega
     ·exact B.elim
     ·have:=g5 n B;omega
     ·have:=i n B;omega
     ·exact B.elim
   obtain⟨U,hq⟩:=h1;have b7:ai w b3:=(((a7.then b2).new c8 λn B=>.inr (by have B:n=P.heap.size:=B;omega)).new H λn B=>.inr (by have B:n=P.heap.size:=B;omega))
   have h5:∀n,(∃k,(match k with|0=>n=P.heap.size|1=>j n\/x n|3=>R n|4=>G n|_=>False:Prop))->w.heap.size<=n:=λn ⟨k,B⟩=>by
    rcases k with _|_|_|_|_|k
    ·have B:n=P.heap.size:=B
     omega
    ·exact(A n B).1
    ·exact B.elim
    ·have:=b1 n B;omega
    ·have:=i n B;omega
    ·exact B.elim
   refine PC.ok (Ez hq m (hT.af b7) sM (by rw[qK];exact e6) sM sM) ?_;rintro _ q4 ⟨rfl,q',F',W,b8,b9,d9⟩;refine⟨rfl,Ok.mk ⟨P.heap.size,F',rfl,⟨⟨m,c0.1,c0.2,sM⟩,q',W,b9,?_⟩,λn B=>?_,b7.new d9.keep λn B=>.inr (h5 n B)⟩⟩
   ·rw[Rv];simpa using b8
   ·rcases d9.new n B with e|e
    ·exact h5 n e
    ·have:=b7.size;omega
end
def NB(e:aU)(P:List ah):∀n∈(eF e P).rows,n.rows.length<=P.length:=by
 have:∀(P:List ah) (a:lj) (b:Nat),(∀n∈a.rows,n.rows.length<=b)->∀n∈(P.foldl lj.add a).rows,n.rows.length<=b+P.length:=by
  intro P
  induction P with
  |nil=>intro a b f n c;exact f n c
  |cons d P k=>
   intro a b f n c;have:=k (a.add d) (b+1) (λg h=>?_) n c
   ·simp only[Xq];omega
   ·obtain⟨i,j,rfl⟩:=Xk.1 (show g∈a.rows.map λn=>n.add (a.view.add d).1 (tB ((a.view.add d).2.state d.a_ d.agg) n.p)from h)
    have m:=f i j;unfold dT.add;dsimp only;split
    ·omega
    ·split
     ·omega
     ·exact Xx (yD ..) oM
 intro n c;have:=this P (lj.new e) 0 (λg h=>by
  obtain⟨i,j,rfl⟩:=Xk.1 (show g∈e.projs.map λl=>(⟨l,[]⟩:dT)from h);exact Q4 0) n c
 omega
def jy(P:aU)(a:List ah)(n:Int):List dX:=if n<0 then []else match(eF P a).rows[n.toNat]? with
 |none=>[]
 |some b=>b.list
section
variable {w w':World} {p:Nat} {F T D:ac} {d:aU} {every:Nat} {l:List ah}
def K_(q:de w p F d every l):
  bn 401 #[RK p,WP e,WP r] w (Ok λs w'=>∃a b c G,s= .tuple #[.agg #[WP (((bU d l).state e r).getD Ia).version,.slice a b c],.bool ((bU d l).state e r).isSome]/\aS fy 268 G w' a b c (((bU d l).state e r).getD Ia).cells/\(∀n,G n->w.heap.size<=n)/\ai w w'):=by
 obtain⟨y,z,t,rfl,h⟩:=q;refine sL (PA.mk λA f B u=>⟨p,0,rfl,_,ae (eC.af h f).bA rfl,PC.ok (oR ((eC.af h f).at' 3)) ?_⟩);rintro _ C ⟨a,b,c,G,rfl,v,i,g⟩;have E:=g.size;refine⟨_,_,_,_,_,rfl,PS.mk (g.get u id) sM λH j I x=>PS.mk x sM λJ k K m=>⟨_,_,_,_,ae m rfl,ae m rfl,Ok.mk ⟨a,b,c,G,rfl,?_,λn P=>?_,?_⟩⟩⟩
 ·exact v.keep (j.then k) λn P o=>by have o:n=w.heap.size:=o;have:=i n P;omega
 ·have:=i n P;omega
 ·exact(f.then g).new (j.then k) λn P=>.inr (by have P:n=w.heap.size:=P;omega)
def Gp(P:de w p F d every l):bn 399 #[RK p] w (Ok (qh xu 193 w (bU d l).entries)):=by
 obtain⟨a,h,b,rfl,n⟩:=P;refine qi ⟨p,0,rfl,_,ae n.bA rfl,PC.ok (Gq (n.at' 3) (xt d l a.2.2.2).1) ?_⟩;rintro _ i ⟨c,e,f,G,rfl,g⟩;exact⟨_,_,_,rfl,Ok.mk ⟨c,e,f,G,rfl,g⟩⟩
def OO(i:de w p F d every l):bn 400 #[RK p,WP e] w (Ok λj w'=>qh Ib 195 w (jy d l e) j w'/\vj (jy d l e)):=by
 obtain⟨k,B,m,rfl,P⟩:=i;have C:=cK.len (P.at' 4);refine tZ (al.dec (λf=>Ok.mk ⟨⟨none,0,0,λ_=>False,rfl,?_,aj.refl _,λo a=>a.elim⟩,?_⟩) (λb=>⟨p,0,rfl,_,_,_,ae P.bA rfl,al.dec (λq=>Ok.mk ⟨⟨none,0,0,λ_=>False,rfl,?_,aj.refl _,λo a=>a.elim⟩,?_⟩) (λq=>?_)⟩))
 ·unfold jy;rw[Zx f];exact aS.nil _
 ·unfold jy;rw[Zx f];exact List.Pairwise.nil
 ·unfold jy;rw[Zq b,Q7 oM];exact aS.nil _
 ·unfold jy;rw[Zq b,Q7 oM];exact List.Pairwise.nil
 ·obtain⟨n,rfl⟩:∃n:Nat,e=n:=⟨e.toNat,oM⟩
  have c:(eF d l).rows[n]? =some (eF d l).rows[n]:=Qq oM;have g:(eF d l).rows[n]∈(eF d l).rows:=XY oM;have r:jy d l (n:Int)=(eF d l).rows[n].list:=by unfold jy;rw[Zq b,Qx,c]
  rw[r];generalize(eF d l).rows[n]=s at c g;obtain⟨t,E,H,u,v,h,-⟩:=cK.elem (P.at' 4) c;refine⟨p,0,rfl,_,_,_,ae P.bA rfl,t,0,u,oM,oM,_,by rw[Qx];exact v,PC.ok (OP h (Xx (NB d l s g) k.2.2.2)) ?_⟩;rintro _ I ⟨x,y,z,G,rfl,A⟩;exact⟨_,_,_,rfl,Ok.mk ⟨⟨x,y,z,G,rfl,A⟩,h.zD⟩⟩
end
def EE{n:ah}:∀{l:List ah},(∀x∈l,aZ x≠aZ n)->dE n l=l.take (posOf (λx=>eX x n) l)++n::l.drop (posOf (λx=>eX x n) l)
 |[],_=>rfl
 |x::l,a=>by
  have b:=a x (QV ..);unfold dE posOf;rw[List.takeWhile_cons]
  by_cases P:eX x n=true
  ·rw[Zx P,Zq (by rw[nX P];simp)]
   have:=EE (l:=l) λc d=>a c (QJ _ d);rw[this];simp[posOf]
  ·rw[Zq P,Zx ((Gw b).resolve_left P)]
   rfl
structure qP (most:Nat) (l:List ah):Prop where
 RA:Ww l
 ids:(l.map aZ).Nodup
 ok:∀e∈l,e.Ok
 le:l.length<=most
def qP.nil(n:Nat):qP n []:=⟨List.Pairwise.nil,sM,sM,Qj _⟩
def qP.add(b:qP a E)(f:l.Ok):qP a (eY a E l).2:=by
 unfold eY;split
 ·exact b
 rename_i d;rw[not_or]at d;have e:∀n∈E,aZ n≠aZ l:=by
  have:=d.2;simp only[List.any_eq_true,beq_iff_eq,not_exists,not_and]at this;exact this
 have c:=cP l E;refine⟨xy b.RA e,?_,λn P=>?_,by rw[c.length_eq,Xq];omega⟩
 ·refine(c.map aZ).nodup_iff.2 ?_
  rw[QY,List.nodup_cons];exact⟨λg=>by obtain⟨n,P,h⟩:=Xk.1 g;exact e n P h,b.ids⟩
 ·rcases Q2.1 (c.mem_iff.1 P)with rfl|P
  ·exact f
  ·exact b.ok n P
def qP.sub(n:qP a E)(P:e1.Sublist E):qP a e1:=
 ⟨n.RA.sublist P,n.ids.sublist (P.map aZ),λb c=>n.ok b (P.subset c),Xx P.length_le n.le⟩
def tE{P:aq}:∀{n:List ah},(∀e∈n,(P.add e).1≠0)->dQ P n=none
 |[],_=>rfl
 |e::n,a=>by
  unfold dQ;rw[Zq (a e (QV ..)),tE λb c=>a b (QJ _ c)];rfl
def tF{a:aq}:∀{n:List ah} {i:Nat} {e:ah},(∀x∈n.take i,(a.add x).1≠0)->n[i]? =some e->(a.add e).1=0->dQ a n=some (e,(a.add e).2,n.eraseIdx i)
 |[],i,e,_,P,_=>by simp at P
 |x::n,0,e,b,P,c=>by
  simp at P;subst P;unfold dQ;rw[Zx c];rfl
 |x::n,i+1,e,b,P,c=>by
  unfold dQ;rw[Zq (b x sM),tF (i:=i) (e:=e) (λd f=>b d (by simp[f])) (by simpa using P) c]
  rfl
def et(n:bG)(P:be)(a b:Nat)(c:be)(d e:Nat):List Value:=[WP n.kind,WP n.bO,WP n.m_,.slice P a b,.slice c d e]
abbrev iW(n:bG)(P:be)(a b:Nat)(c:be)(d e:Nat):Value:=.agg (et n P a b c d e).toArray
def fe(n:bG)(P:be)(a b:Nat)(c:be)(d e:Nat):iQ LL 97 (et n P a b c d e)=true:=kR
def EJ(n:bG)(P:be)(a b:Nat)(c:be)(d e:Nat):Uf (dv LL 97) (iW n P a b c d e)=true:=kR
section
variable {w w':World} {D E F:ac} {m:bG} {va ea:be} {vn vc en ec N:Nat} {chunk:Int} {p:Nat} {S:aq}
def MT(b:Row aO 8 w D va vn m.vec)(i:Row iz 96 w E ea en m.events):bn 161 #[iW m va vn vc ea en ec,WP (N:Int)] w (Ok λj w'=>j= WP (iG m N)/\ai w w'):=by
 have u:=b.len;have v:=i.len;have k:=b.eO;refine GX (PA.mk λx c y d=>⟨_,_,_,ae d rfl,al.dec (λl=>Ok.mk ⟨?_,c⟩) (λl=>⟨_,_,_,ae d rfl,al.eu (λo=>Ok.mk ⟨?_,c⟩) (λo=>⟨_,_,_,ae d rfl,λf p w'=>∃n:Nat,p=n/\n<=vn/\f=vn-n/\((m.vec.take n).any λP=>decide (P<0))=false/\ai w w',⟨_,0,rfl,Qj _,rfl,sM,c⟩,?_⟩)⟩)⟩)
 ·unfold iG;rw[Zx oM]
 ·unfold iG;rw[Zq oM,Zx oM]
 rintro f _ _ z ⟨n,rfl,A,rfl,e,a⟩;refine al.dec (λB=>?_) (λC=>Ok.mk ⟨?_,a⟩)
 ·obtain⟨q,r,P,s,g,-,t⟩:=(b.af a).nK (i:=n) oM
  refine⟨q,r,s,oM,oM,P,t,al.dec (λh=>Ok.mk ⟨?_,a⟩) (λh=>⟨_,oM,n+1,an (by unfold aP at k;omega),oM,rfl,?_,a⟩)⟩
  ·unfold iG;rw[Zq oM,Zq oM,Zx (List.any_eq_true.2 ⟨P,QZ g,by simpa using h⟩)]
  ·rw[Qw,g,List.any_append,e];simp;omega
 ·rw[Qz oM]at e
  unfold iG;rw[Zq oM,Zq oM,Zq (by rw[e];simp)]
def za{c:Type}{n:c->Int}:∀{P:List c} {d:Nat} {a:c},(∀y∈P.take d,n y=0)->P[d]? =some a->n a≠0->cN n P=n a
 |y::P,0,a,_,b,e=>by
  simp at b;subst b;unfold cN;rw[Zx (by simpa using e)]
 |y::P,d+1,a,f,b,e=>by
  have g:n y=0:=f y sM;unfold cN
  rw[g];simp only[bne_self_eq_false,Bool.false_eq_true,if_false];exact za (λh i=>f h (QJ _ i)) (by simpa using b) e
def CM{P:Type}{a:P->Int}:∀{n:List P},(∀y∈n,a y=0)->cN a n=0
 |[],_=>rfl
 |y::n,b=>by
  unfold cN
  rw[b y (QV ..)];simpa using CM λc d=>b c (QJ _ d)
def MU(t:Row aO 8 w D va vn m.vec)(h:Row iz 96 w E ea en m.events)(u:N<4611686018427387904):bn 160 #[iW m va vn vc ea en ec,WP (N:Int),WP chunk] w (Ok λv w'=>v= WP (fr m N chunk)/\ai w w'):=by
 have W:=t.len;have X:=h.len;have x:=h.eO;refine GW (PA.mk λY a Z b=>⟨_,_,_,ae b rfl,al.dec (λy=>Ok.mk ⟨?_,a⟩) (λy=>⟨_,_,_,ae b rfl,al.dec (λz=>Ok.mk ⟨?_,a⟩) (λz=>⟨_,_,_,ae b rfl,al.dec (λA=>Ok.mk ⟨?_,a⟩) (λA=>⟨_,_,_,ae b rfl,λl i w'=>∃n:Nat,i=n/\n<=en/\l=en-n/\(∀P∈m.events.take n,dm P N=0)/\ai w w',⟨_,0,rfl,Qj _,rfl,sM,a⟩,?_⟩)⟩)⟩)⟩)
 ·unfold fr;rw[Zx oM]
 ·unfold fr;rw[Zq oM,Zx (.inl oM)]
 ·unfold fr;rw[Zq oM,Zx (.inr oM)]
 rintro l _ _ B ⟨n,rfl,hj,rfl,c,d⟩;have o:fr m N chunk=cN (λC=>dm C N) m.events:=by unfold fr;rw[Zq oM,Zq oM]
 refine al.dec (λa4=>?_) (λa5=>Ok.mk ⟨?_,d⟩)
 ·obtain⟨p,F,es,I,J,a6,q,e,f,g,rfl,r,K⟩:=(h.af d).el n m.events[n] (Qq oM)
  have j:m.events[n]? =some m.events[n]:=Qq oM;generalize m.events[n]=P at q r K j;refine⟨p,F,I,oM,oM,bJ (es:=aF P e f g) (k:=10) (bg P e f g) rfl (λi L=>q i L) (PA.mk λw3 M s3 O=>aD (bg P e f g) O rfl λQ R s4 S=>ar (bg P e f g) S ?_)⟩;have k:ai B Q:=M.new R λp J=>.inr oM;refine PC.ok (yS (r.af k) u) ?_;rintro _ w5 ⟨rfl,s⟩;refine⟨_,rfl,al.eu (λT=>Ok.mk ⟨by rw[o,za c j T],(d.then k).then s⟩) (λU=>⟨_,oM,n+1,an (by unfold aP at x;omega),oM,rfl,λV H=>?_,(d.then k).then s⟩)⟩;rw[Qw,j]at H;rcases Q6.1 H with H|H
  ·exact c V H
  ·simp at H;subst H;exact U
 ·rw[Qz oM]at c
  rw[o,CM c]
def zb(h:cM w p F S):bn 71 #[RK p,WP e,WP r] w (Ok λi w'=>∃va vn vc G,i=iW (lF S e r) va vn vc none 0 0/\aS aO 3 G w' va vn vc S.vec/\(∀r,G r->w.heap.size<=r)/\ai w w'):=by
 refine DP (PA.mk λm d o j=>PC.ok (mK (h.af d)) ?_);rintro _ q ⟨P,a,b,G,rfl,k,c,f⟩;have s:=c.size;refine⟨_,_,_,rfl,aD (fe (lF S e r) P a b none 0 0) (c.get j id) rfl λt g u l=>ar (fe (lF S e r) P a b none 0 0) l (Ok.mk ⟨P,a,b,G,rfl,k.keep g λr n v=>?_,λr n=>?_,(d.then c).new g λr n=>.inr oM⟩)⟩
 ·have:=f r n;omega
 ·have:=f r n;omega
def Kf(h:cM w p F S):bn 163 #[RK p,WP e,WP r] w (Ok λi w'=>∃va vn vc G,i=iW (Av S e r) va vn vc none 0 0/\aS aO 3 G w' va vn vc S.vec/\(∀r,G r->w.heap.size<=r)/\ai w w'):=by
 refine LZ (PA.mk λm d o j=>PC.ok (mK (h.af d)) ?_);rintro _ q ⟨P,a,b,G,rfl,k,c,f⟩;have s:=c.size;refine⟨_,_,_,rfl,aD (fe (Av S e r) P a b none 0 0) (c.get j id) rfl λt g u l=>ar (fe (Av S e r) P a b none 0 0) l (Ok.mk ⟨P,a,b,G,rfl,k.keep g λr n v=>?_,λr n=>?_,(d.then c).new g λr n=>.inr oM⟩)⟩
 ·have:=f r n;omega
 ·have:=f r n;omega
def FM{cs:Array Value}{P:Nat×Nat}(b:w.heap[a]? =some (.cells cs g P))(c:cs[0]? =some (WP (N:Int))):bn 159 #[WP e,RK a] w (Ok λd w'=>d= .bool (decide (0<=e)&&decide (e<N))/\w=w'):=by
 refine DU (al.dec (λn=>⟨_,ae b c,Ok.mk ⟨?_,rfl⟩⟩) (λn=>Ok.mk ⟨?_,rfl⟩))
 ·rw[Zy (show 0<=e from n)];rfl
 ·rw[Xv (show¬0<=e from n)];rfl
def Qg(o:Row aO 8 w D va vn m.vec)(p:Row iz 96 w E ea en m.events)(v:N<4611686018427387904):bn 99 #[iW m va vn vc ea en ec,WP (N:Int),WP chunk] w (Ok λf w'=>f= WP (fq m N chunk)/\ai w w'):=by
 refine IZ (PA.mk λx y J z=>PA.mk λg q K i=>?_);have b:=q.get z id;have n:=y.then q;refine⟨λA w'=>A=(!(decide (0<=m.bO)&&decide (m.bO<N))|| !(decide (0<=m.m_)&&decide (m.m_<N))||m.bO==m.m_)/\g=w',?_,?_⟩
 ·refine⟨_,ae b rfl,_,_,_,rfl,kR,PC.ok (FM (N:=N) i rfl) ?_⟩
  rintro _ _ ⟨rfl,rfl⟩;refine⟨_,rfl,al.not (al.mk (λP=>⟨_,ae b rfl,_,_,_,rfl,kR,PC.ok (FM (N:=N) i rfl) ?_⟩) (λP=>⟨by rw[P];rfl,rfl⟩))⟩;rintro _ _ ⟨rfl,rfl⟩;refine⟨_,rfl,al.not (al.mk (λa=>⟨_,ae b rfl,_,ae b rfl,by rw[P,a];rfl,rfl⟩) (λa=>⟨by rw[P,a];rfl,rfl⟩))⟩
 rintro j _ _ ⟨B,rfl⟩;have e:fq m N chunk=if m.kind=3 then(if j then 1 else fr m N chunk)else if m.kind=1\/m.kind=2\/m.kind=4 then(if j then 1 else iG m N)else 2:=by rw[B];rfl
 have c:∀{r:List PanicEntry->bc},(if j then 1 else iG m N)=fq m N chunk->al j (Ok (λf w'=>f= WP (fq m N chunk)/\ai w w') (.returned (WP 1)) g) (jB LL 97 (RK w.heap.size) g λC=>(∃(s:Int),g.cell? ⟨x.heap.size,0,none⟩=some (WP s)/\PC LL 161 #[C,WP s] g (λF H=>∃(t:Int),F= WP t/\Ok (λf w'=>f= WP (fq m N chunk)/\ai w w') (.returned (WP t)) H) r)):=λ{r} u=>by
  refine al.mk (λh=>Ok.mk ⟨by rw[<-u,h];rfl,n⟩) (λh=>ar (fe m va vn vc ea en ec) b ⟨_,ae i rfl,PC.ok (MT (o.af n) (p.af n)) ?_⟩);rintro _ I ⟨rfl,k⟩;exact⟨_,rfl,Ok.mk ⟨by rw[<-u,h];rfl,n.then k⟩⟩
 refine⟨_,ae b rfl,al.eT (λd=>al.not (al.mk (λh=>?_) (λh=>ar (fe m va vn vc ea en ec) b ⟨_,ae i rfl,PC.ok (MU (o.af n) (p.af n) v) ?_⟩))) (λd=>al.eT (λP=>al.tt (by simpa using P) (c ?_)) (λP=>al.eT (λa=>al.tt (by simpa using a) (c ?_)) (λa=>al.eT (λl=>c ?_) (λl=>Ok.mk ⟨?_,n⟩))))⟩
 ·exact al.tt h (Ok.mk ⟨by rw[e,Zx d,h];rfl,n⟩)
 ·rintro _ I ⟨rfl,k⟩
  exact⟨_,rfl,Ok.mk ⟨by rw[e,Zx d,h];rfl,n.then k⟩⟩
 ·rw[e,Zq d,Zx (show m.kind=1\/m.kind=2\/m.kind=4 from .inl P)]
 ·rw[e,Zq d,Zx (show m.kind=1\/m.kind=2\/m.kind=4 from .inr (.inl a))]
 ·rw[e,Zq d,Zx (show m.kind=1\/m.kind=2\/m.kind=4 from .inr (.inr l))]
 ·rw[e,Zq d,Zq (by rintro(h|h|h);exact P h;exact a h;exact l h)]
end
structure Ry (w:World) (p:Nat) (M D:ac) (most:Nat) (l:List ah) (a:be) (n c:Nat) (L:List (Bx ah)):Prop where
 at':w.heap[p]? =some (.cells #[WP (most:Int),.slice a n c] 180 (0,0))
 nN:aS nR.kO 82 (λb=>aI a=some b) w a n c L
 map:L.map (·.x)=l
 OR:∀b∈L,nR.In w D b
 dD:∀b,D b->b<w.heap.size/\¬M b
 mp:M p
 ma:∀b,aI a=some b->M b/\b≠p
 dM:∀b,M b->b<w.heap.size
def iA(a:World)(b:Nat)(c D:ac)(n:Nat)(P:List ah):Prop:=(n<=256/\qP n P)/\∃d e f g,Ry a b c D n P d e f g
section
variable {w w':World} {p:Nat} {M D T E:ac} {most:Nat} {l:List ah} {a:be} {n c:Nat} {L:List (Bx ah)}
def Ry.keep(b:Ry w p M D most l a n c L)(e:aj T w w')(f:∀P,M P->¬T P)(g:∀P,D P->¬T P):Ry w' p M D most l a n c L:=
 ⟨e.get b.at' (f _ b.mp),b.nN.keep e λP d=>f P (b.ma P d).1,b.map,λP d=>(b.OR P d).keep e g,λP d=>⟨Qk (b.dD P d).1 e.size,(b.dD P d).2⟩,b.mp,b.ma,λP d=>Qk (b.dM P d) e.size⟩
def iA.keep(b:iA w p M D most l)(d:aj T w w')(e:∀P,M P->¬T P)(f:∀P,D P->¬T P):iA w' p M D most l:=by
 obtain⟨g,a,n,c,L,b⟩:=b;exact⟨g,a,n,c,L,b.keep d e f⟩
def iA.af(n:iA w p M D most l)(P:ai w w'):iA w' p M D most l:=n.keep P (λ_ _ n=>n) λ_ _ n=>n
def uc:ki LL 36 82 nR.kO.k 96:=Ik
def La(f:0<=e/\e<=256):bn 60 #[WP e] w (Ok λb w'=>∃p,b= RK p/\iA w' p (·=p) (λ_=>False) e.toNat []/\w.heap.size<=p/\p<w'.heap.size/\ai w w'):=by
 refine Gs (PA.mk λc d g a=>Ok.mk ⟨w.heap.size,rfl,⟨⟨oM,qP.nil _⟩,none,0,0,[],?_,(aS.nil c).mono (λP n=>n.elim) (λP n=>by cases n),rfl,sM,λP n=>n.elim,rfl,λP n=>(by cases n),λP n=>by have n:P=w.heap.size:=n;omega⟩,Q4 _,oM,d⟩);have:(if(if 256<e then 256 else e)>0 then(if 256<e then 256 else e)else 0)=((e.toNat:Nat):Int):=by split<;>split<;>omega
 rw[this]at a;exact a
def vm(d:iA w p M D most l):bn 77 #[RK p] w (Ok λf w'=>f= .tuple #[]/\iA w' p M (λ_=>False) most []/\aj M w w'):=by
 obtain⟨g,a,n,c,L,d⟩:=d;refine qj ⟨p,0,rfl,PS.mk d.at' sM λh i j k=>Ok.mk ⟨rfl,⟨⟨g.1,qP.nil _⟩,none,0,0,[],k,(aS.nil h).mono (λb P=>P.elim) (λb P=>by cases P),rfl,sM,λb P=>P.elim,d.mp,λb P=>(by cases P),λb P=>by rw[j];exact d.dM b P⟩,i.mono λb _ e=>by have e:b=p:=e;exact e▸d.mp⟩⟩
def AZ(r:enters LL A=true)(b:Nat->bc)(m:Nat->bc)(h:b 0 w)(i:∀P f,b P f->Row nR.kO 96 f E a n L)(s:∀P d f,L[P]? =some d->b P f->bn A (o++ #[lg d.x d.a d.n d.c]++Y) f (Ok λg w'=>(g= .bool true/\m P w')\/(g= .bool false/\b (P+1) w'))):
  bn 287 #[.slice a n c,.func (.func A) o Y] w (Ok λg w'=>(∃P,P<n/\g= WP (P:Int)/\m P w')\/(g= WP (-1)/\b n w')):=by
 have F:=(i 0 w h).len;have t:=(i 0 w h).eO;unfold aP at t;refine gg ⟨λp j w'=>∃P:Nat,j=P/\P<=n/\p=n-P/\b P w',⟨_,0,rfl,Qj _,rfl,h⟩,?_⟩;rintro p _ _ q ⟨P,rfl,H,rfl,k⟩;refine al.dec (λI=>?_) (λJ=>?_)
 ·have u:P<L.length:=oM
  have l:L[P]? =some L[P]:=Qq u;generalize L[P]=e at l;obtain⟨d,v,K,x,M,N,y,rfl,-⟩:=(i P q k).el P e l;refine⟨d,v,x,oM,oM,bJ (es:=aF e.x e.a e.n e.c) (k:=10) (bg _ _ _ _) rfl (λj z=>by rw[Qx];exact y j z) ⟨_,_,_,rfl,r,PC.ok (s P e q l k) ?_⟩⟩;rintro _ O (⟨rfl,B⟩|⟨rfl,C⟩)
  ·exact⟨_,rfl,al.tt rfl (Ok.mk (.inl ⟨P,oM,rfl,B⟩))⟩
  ·exact⟨_,rfl,al.ff rfl ⟨_,oM,P+1,an oM,oM,rfl,C⟩⟩
 ·obtain rfl:P=n:=oM
  exact Ok.mk (.inr ⟨rfl,k⟩)
def Iy{P:ah}{f g:Nat}{a:Nat}{b:ah}{h i:Nat}(c:w.heap[a]? =some (.cells (aF b v h i).toArray 82 F)):
  bn 279 #[lg P d f g,RK a] w (Ok λj w'=>j= .bool (aZ P==aZ b)/\ai w w'):=by
 refine qk (PA.mk λk n l e=>⟨_,_,ae e rfl,ae e rfl,_,_,ae (n.get c id) rfl,ae (n.get c id) rfl,NA.eql ⟨_,rfl,Ok.mk ⟨rfl,n⟩⟩⟩)
def Lb(l:Row nR.kO 96 w E a n L)(v:∀P,E P->P<w.heap.size){m:Nat}{f:ah}{q r:Nat}(s:w.heap[m]? =some (.cells (aF f d q r).toArray 82 F)):
  bn 278 #[.slice a n c,.func (.func 279) #[] #[RK m]] w (Ok λo w'=>o= .bool (L.any λP=>aZ P.x==aZ f)/\ai w w'):=by
 have x:=l.len;refine fG (PC.ok (AZ (E:=E) kR (λg h=>(∀P∈L.take g,(aZ P.x==aZ f)=false)/\ai w h) (λg h=>(L.any λP=>aZ P.x==aZ f)=true/\ai w h) ⟨sM,aj.refl _⟩ (λg h i=>l.af i.2) ?_) ?_)
 ·rintro g P h j ⟨k,b⟩
  refine(Iy (b.get s id)).mono ?_;rintro _ y ⟨o,rfl,rfl,p⟩;refine Ok.mk ?_
  cases i:aZ P.x==aZ f
  ·refine .inr ⟨rfl,λt e=>?_,b.then p⟩
   rw[Qw,j]at e;rcases Q6.1 e with e|e
   ·exact k t e
   ·simp at e;subst e;exact i
  ·exact .inl ⟨rfl,List.any_eq_true.2 ⟨P,QZ j,i⟩,b.then p⟩
 ·rintro _ z (⟨g,A,rfl,u,b⟩|⟨rfl,k,b⟩)
  ·exact⟨_,rfl,Ok.mk ⟨by rw[u,Zy oM],b⟩⟩
  ·refine⟨_,rfl,Ok.mk ⟨?_,b⟩⟩
   rw[Qz oM]at k;rw[List.any_eq_false.2 λP j=>by rw[k P j];simp]
   rfl
end
section
variable {w w':World} {p:Nat} {M D T E:ac} {most:Nat} {l:List ah} {a:be} {n c:Nat} {L:List (Bx ah)}
def qQ{e f:ah}{a i:be}{n c j k:Nat}{w:World}:bn 281 #[lg e a n c,lg f i j k] w (Ok λl w'=>l= WP (tD e f)/\ai w w'):=by
 refine xx (PA.mk λu m v o=>PA.mk λp g x q=>λr s=>⟨λ_=>False,?_⟩);have P:ai p r:=s.keep;have b:=P.get (g.get o id) id;have d:=P.get q id;refine⟨_,ae b rfl,_,ae d rfl,id,_,ae b rfl,id,_,ae d rfl,id,_,ae b rfl,id,_,ae d rfl,PC.ok iB ?_⟩;rintro _ _ ⟨rfl,rfl⟩;refine⟨_,rfl,aj.refl _,PC.ok iB ?_⟩;rintro _ _ ⟨rfl,rfl⟩;refine⟨_,rfl,aj.refl _,PC.ok iB ?_⟩;rintro _ _ ⟨rfl,rfl⟩;refine⟨_,rfl,aj.refl _,PA.mk λy h z t=>⟨h,PC.ok (Rz t) ?_⟩⟩;rintro _ _ ⟨rfl,rfl⟩;exact⟨_,rfl,aj.refl _,Ok.mk ⟨by rw[Iz],((m.then g).then P).then h⟩⟩
def ED{n P:ah}:tD n P<0↔eX n P=true:=by
 unfold tD
 cases eX n P
 ·cases eX P n<;>simp
 ·simp
def Dz(x:Row nR.kO 96 w E a n L)(U:Ww (L.map (·.x))){i:ah}{C F:Nat}:
  bn 280 #[.slice a n c,lg i d C F,.func (.func 281) #[] #[]] w (Ok λV w'=>∃P,V= .tuple #[WP ((posOf (λo=>eX o.x i) L:Nat):Int),.bool P]/\ai w w'):=by
 have hl:=x.len;have W:=x.eO;unfold aP at W;have N:∀{j k:Nat} {b l:Bx ah},L[j]? =some b->L[k]? =some l->j<=k->b=l\/eX b.x l.x=true:=λ{j k b l} m q b4=>by
  rcases Nat.lt_or_ge j k with h|h
  ·right
   have y:(L.map (·.x))[j]? =some b.x:=by rw[Q9,m];rfl
   have z:(L.map (·.x))[k]? =some l.x:=by rw[Q9,q];rfl
   obtain⟨X,Y⟩:=Qv.1 y;obtain⟨Z,e2⟩:=Qv.1 z;have:=List.pairwise_iff_getElem.1 U j k X Z h;rw[Y,e2]at this;exact this
  ·obtain rfl:j=k:=oM
   rw[m]at q;exact .inl (XJ q)
 refine dz (PA.mk λa4 O b5 Q=>⟨λR j k w'=>∃p e:Nat,j=p/\k=e/\R=e-p/\p<=e/\e<=n/\(∀P b,P<p->L[P]? =some b->eX b.x i=true)/\(∀P b,e<=P->L[P]? =some b->eX b.x i=false)/\ai a4 w',
  ⟨_,0,n,rfl,rfl,rfl,oM,oM,λP b g=>oM,λP b g m=>by have:=(Qv.1 m).1;omega,aj.refl _⟩,?_⟩)
 rintro R _ _ _ S ⟨p,e,rfl,rfl,rfl,b6,a5,y,z,s⟩;have t:enters LL 281=true:=kR
 refine al.dec (λb7 a6 a7=>?_) (λb8 a8 a9=>?_)
 ·have A:ai S a6:=a7.keep
  have u:=(O.then s).then A;rw[Wu oM];have r:L[(p+e)/2]? =some L[(p+e)/2]:=Qq oM;generalize L[(p+e)/2]=f at r;obtain⟨o,H,es,I,b0,b1,J,rfl,-⟩:=(x.af u).el _ f r;refine⟨o,H,I,oM,oM,bJ (es:=aF f.x f.a f.n f.c) (k:=10) (bg _ _ _ _) rfl (λP g=>by rw[Qx];exact J P g) (ar (bg i d C F) ((s.then A).get Q id) ⟨_,_,_,rfl,t,PC.ok qQ ?_⟩)⟩;rintro _ b2 ⟨rfl,B⟩;refine⟨_,rfl,al.dec (λK=>⟨_,?_,(p+e)/2+1,e,an oM,rfl,rfl,oM,a5,λP l g q=>?_,z,(s.then A).then B⟩) (λK=>⟨_,?_,p,(p+e)/2,rfl,rfl,rfl,oM,oM,y,λP l g q=>?_,(s.then A).then B⟩)⟩
  ·omega
  ·have v:=ED.1 K
   rcases N q r oM with rfl|M
   ·exact v
   ·exact ud M v
  ·omega
  ·have v:¬eX f.x i=true:=λh=>K (ED.2 h)
   rcases N r q g with rfl|M
   ·simpa using v
   ·cases h4:eX l.x i
    ·rfl
    ·exact Zz (ud M h4) v
 ·obtain rfl:p=e:=oM
  have T:ai S a8:=a9.keep;have u:=(O.then s).then T;have a3:posOf (λo=>eX o.x i) L=p:=AX oM (λP b g m=>y P b g m) (λb m=>z p b (Q4 _) m);rw[a3];refine al.dec (λb3=>?_) (λb3=>Ok.mk ⟨false,rfl,u⟩);have r:L[p]? =some L[p]:=Qq oM;generalize L[p]=f at r;obtain⟨o,H,es,I,b0,b1,J,rfl,-⟩:=(x.af u).el _ f r;refine⟨o,H,I,oM,oM,bJ (es:=aF f.x f.a f.n f.c) (k:=10) (bg _ _ _ _) rfl (λP g=>by rw[Qx];exact J P g) (ar (bg i d C F) ((s.then T).get Q id) ⟨_,_,_,rfl,t,PC.ok qQ ?_⟩)⟩;rintro _ b2 ⟨rfl,B⟩;exact⟨_,rfl,Ok.mk ⟨_,rfl,u.then B⟩⟩
def Wx{f h:Nat}{x:Bx ah}(j:aS nR.kO 82 (λP=>aI a=some P) w a n c L)(k:f<=n)(l:w.heap[h]? =some (.cells (aF x.x x.a x.n x.c).toArray 82 (0,0)))(m:aI a≠some h)(r:L.length<=20000000):
  bn 282 #[.slice a n c,WP (f:Int),.slice (UV h) 1 1] w (Ok λo w'=>∃d g,o= .slice d (n+1) g/\aS nR.kO 82 (λP=>aI d=some P) w' d (n+1) g (L.take f++x::L.drop f)/\aj (λP=>aI a=some P) w w'/\∀P,aI d=some P->aI a=some P\/w.heap.size<=P):=by
 refine gM (IA.one (c:=nR.kO) (tb:=4) (x:=x) (D:=λ_=>False) uc kR ?_ j k l ⟨rfl,trivial⟩ (λP b=>b.elim) m cw (by unfold maxLen;omega) λd g w' s e p q=>Ok.mk ⟨d,g,rfl,aS.alone e,p,λP b=>?_⟩)
 ·intro i w
  rw[run_callFunc_extern Tryz.func320 kR kR kR (e:=Extern.SlicesOverlaps.overlaps #[36,36] #[4]) kR]
 ·rcases q P (e.self P b)with b|b|b
  ·exact .inl b
  ·exact b.elim
  ·exact .inr b
def Wy{b:Nat}(e:aS nR.kO 82 (λP=>aI a=some P) w a n c L)(f:b<n)(i:n<=20000000):
  bn 288 #[.slice a n c,WP (b:Int),WP (IntKind.wrap .i64 ((b:Int)+1))] w (Ok λg w'=>g= .slice a (n-1) c/\aS nR.kO 82 (λP=>aI a=some P) w' a (n-1) c (L.eraseIdx b)/\aj (λP=>aI a=some P) w w'):=
 gN (Gt.one (c:=nR.kO) (tz:=0) uc kR e f (by unfold maxLen;omega) λw' d h=>Ok.mk ⟨rfl,d,h⟩)
def Le(f:iA w p M D most l){e:ah}{en ec:Nat}(O:Row aO 8 w E d en e.aM)(hE:∀P,E P->P<w.heap.size)(he:e.Ok):
  bn 220 #[RK p,lg e d en ec] w (Ok λQ w'=>Q= .bool (eY most l e).1/\∃o q,iA w' p o q most (eY most l e).2/\aj M w w'/\(∀P,o P->M P\/w.heap.size<=P)/\∀P,q P->D P\/w.heap.size<=P):=by
 have b3:=f;obtain⟨B,a,n,c,L,f⟩:=f;have d8:L.length=l.length:=by rw[<-f.map,Q8]
 have hn:n=L.length:=f.nN.len dC;have d9:=f.dM p f.mp;have e0:=B.2.le;have j:(L.any λP=>aZ P.x==aZ e)=l.any (λi=>aZ i==aZ e):=by rw[<-f.map,List.any_map];rfl
 refine sN (PA.mk λc6 b4 e1 b5=>λR c7=>⟨λ_=>False,?_⟩);have S:ai c6 R:=c7.keep;have m:ai w R:=b4.then S;have T:=m.get f.at' id;have no:(eY most l e)=(false,l)->∀U,ai w U->Ok (λQ w'=>Q= .bool (eY most l e).1/\∃o q,iA w' p o q most (eY most l e).2/\aj M w w'/\(∀P,o P->M P\/w.heap.size<=P)/\∀P,q P->D P\/w.heap.size<=P) (.returned (.bool false)) U:=λhq U k1=>
  Ok.mk ⟨by rw[hq],M,D,by rw[hq];exact b3.af k1,ai.keep k1,λP b=>.inl b,λP b=>.inl b⟩
 refine⟨p,0,rfl,_,_,_,ae T rfl,p,0,rfl,_,ae T rfl,al.dec (λe2=>no (by unfold eY;rw[Zx (.inl oM)]) R m) (λe3=>⟨p,0,rfl,id,_,_,_,ae T rfl,aj.refl _,PC.ok (Lb (E:=λP=>aI a=some P) (((f.nN.af m).row (bytes:=96) dC cw)) (λP b=>by have:=(f.nN.aE P b);have:=m.size;omega) (S.get b5 id)) ?_⟩)⟩;rintro _ b6 ⟨rfl,C⟩;refine⟨_,rfl,C,al.mk (λr=>no (by unfold eY;rw[Zx (.inr (j▸r))]) b6 (m.then C)) (λr=>?_)⟩;have F:=m.then C;have b7:eY most l e=(true,dE e l):=by unfold eY;rw[Zq (by rw[<-j];rintro(g|g);omega;rw[r]at g;cases g)]
 have c8:∀i∈l,aZ i≠aZ e:=by
  rw[j]at r;simpa[List.any_eq_false]using r
 have V:=(S.then C).get b5 id;refine⟨_,_,_,ae V rfl,PC.ok (bV (O.af F) λP b=>by have:=hE P b;have:=F.size;omega) ?_⟩;rintro _ b8 ⟨H,I,J,G,rfl,W,X,Y⟩;have e4:=F.size;have e5:=X.size;refine⟨_,_,_,rfl,PS.mk (X.get V id) (by simp[aF]) λZ a9 e6 c9=>λK b9=>?_⟩;have s:ai Z K:=b9.keep;have e7:K.heap.size=Z.heap.size:=by rw[b9.heap]
 have a0:Z.heap[w.heap.size]? =some (.cells (aF e H I J).toArray 82 (0,0)):=c9;have a1:ai w K:=((F.then X).new a9 λP b=>.inr (by have b:P=w.heap.size:=b;omega)).then s;have b0:=f.keep a1 (λ_ _ f=>f) λ_ _ f=>f;have c1:Ww (L.map (·.x)):=by rw[f.map];exact B.2.RA
 refine⟨p,0,rfl,_,_,_,ae b0.at' rfl,ar (bg e H I J) (s.get a0 id) (PC.ok (Dz (b0.nN.row (bytes:=96) dC cw) c1) ?_)⟩;rintro _ e8 ⟨a4,rfl,d0⟩;refine⟨_,_,rfl,λd1 d2=>⟨λ_=>False,?_⟩⟩;have t:ai K d1:=d0.then d2.keep;have a2:=a1.then t;have c3:=b0.keep t (λ_ _ f=>f) λ_ _ f=>f;have h:=t.get (s.get a0 id) id;have d7:=AW (λP:Bx ah=>eX P.x e) L;refine⟨p,0,rfl,id,_,_,_,ae c3.at' rfl,_,_,_,_,_,_,_,_,_,_,_,_,ae h rfl,ae h rfl,ae h rfl,ae h rfl,ae h rfl,ae h rfl,ae h rfl,ae h rfl,ae h rfl,ae h rfl,PA.mk λd3 u e9 d4=>⟨u,?_⟩⟩;have c4:=c3.keep u (λ_ _ f=>f) λ_ _ f=>f;have f2:=a2.size;refine PC.ok (Wx (x:=⟨e,H,I,J⟩) c4.nN oM d4 (λe=>by have:=f.nN.aE _ e;omega) oM) ?_;rintro _ g0 ⟨a',c',rfl,a3,v,x⟩;have b1:¬aI a=some p:=λe=>(f.ma p e).2 rfl;have g1:=v.size;refine⟨_,_,_,rfl,p,0,rfl,PS.mk (v.get c4.at' b1) sM λd5 N g2 d6=>?_⟩;have y:aj M w d5:=((ai.keep (a2.then u)).then (v.mono λP _ b=>(f.ma P b).1)).then (N.mono λP _ e=>by have e:P=p:=e;exact e▸f.mp);refine Ok.mk ⟨by rw[b7],λP=>M P\/aI a'=some P,λP=>D P\/G P,⟨⟨B.1,B.2.add he⟩,a',n+1,c',L.take (posOf (λP=>eX P.x e) L)++⟨e,H,I,J⟩::L.drop (posOf (λP=>eX P.x e) L),d6,?_,?_,?_,?_,.inl f.mp,?_,?_⟩,?_,?_,?_⟩
 ·refine a3.keep N λP b e=>?_
  have e:P=p:=e;rcases x P b with g|g
  ·exact b1 (e▸g)
  ·omega
 ·rw[b7]
  have c5:posOf (λi=>eX i e) l=posOf (λP:Bx ah=>eX P.x e) L:=by
   unfold posOf;rw[<-f.map,List.takeWhile_map,Q8];rfl
  show _=dE e l;rw[EE c8,c5,Q3,QY,List.map_take,List.map_drop,f.map]
 ·have b2:∀P,G P->b6.heap.size<=P/\P<b8.heap.size:=λP b=>⟨Y P b,W.aE P b⟩
  intro i k;rcases Q6.1 k with k|k
  ·exact((f.OR i (List.mem_of_mem_take k)).keep y λP b=>(f.dD P b).2).mono λP b=>.inl b
  rcases Q2.1 k with rfl|k
  ·refine⟨(((((W.keep a9 λP b e=>?_).af s).af (t.then u)).keep v λP b e=>?_).keep N λP b e=>?_).row (bytes:=8) dC (by rw[<-O.len];exact O.eO)|>.mono λP b=>.inr b,he⟩
   ·have e:P=w.heap.size:=e;have:=b2 P b;have:=az V;omega
   ·have:=f.nN.aE P e;have:=b2 P b;omega
   ·have e:P=p:=e;have:=b2 P b;omega
  ·exact((f.OR i (List.mem_of_mem_drop k)).keep y λP b=>(f.dD P b).2).mono λP b=>.inl b
 ·intro P b
  have hz:b8.heap.size<=d3.heap.size:=by have:=a9.size;have:=s.size;have:=t.size;have:=u.size;omega
  rcases b with b|b
  ·have g:=f.dD P b
   refine⟨by have:=y.size;omega,λz=>z.elim g.2 λe=>?_⟩;rcases x P e with A|A
   ·exact g.2 (f.ma P A).1
   ·omega
  ·have g:=W.aE P b;have h3:=Y P b
   have g3:=b4.size;refine⟨by have:=v.size;have:=N.size;omega,λz=>?_⟩;rcases z with z|e
   ·have:=f.dM P z;omega
   rcases x P e with A|A
   ·have:=f.nN.aE P A;omega
   ·omega
 ·intro P b
  refine⟨.inr b,λe=>?_⟩;rcases x P b with g|g
  ·exact b1 (e▸g)
  ·omega
 ·intro P b
  rcases b with b|b
  ·have:=f.dM P b;have:=y.size;omega
  ·have:=a3.aE P b;omega
 ·exact y
 ·intro P b
  rcases b with b|b
  ·exact .inl b
  rcases x P b with g|g
  ·exact .inl (f.ma P g).1
  ·exact .inr oM
 ·intro P b
  rcases b with b|b
  ·exact .inl b
  ·exact .inr (by have:=Y P b;omega)
end
end Go.Proofs.YtkpomgifkloklaaGreatDoor
namespace Go.aw
open Go
variable{I a c i p:Nat}{f:ac}{d:be}{h:Program}{j:Type}{g q:TypeId}{b:World}{z:bc}
def aS.Uj{k:Nat}{n:j->List Value}{m:j->Prop}{hl h1}{P:List j}{x:j}(e:aS (flat k n m hl h1) q f b d a c P)(y:I<P.length)(A:0<k)(B:m x)(C:d=some ⟨i,p,none⟩)(E:iQ h g (n x)=true)(o:∀l,aS (flat k n m hl h1) q f l d a c (P.set I x)->aj (λi=>aI d=some i) b l->l.heap.size=b.heap.size->z l):oQ h g (.pointer (some ⟨i,p+I*k,none⟩)) (.agg (n x).toArray) b z:=by
 have L:=e.len A;obtain⟨cs,D,s,F,t⟩:=e.body;have M:cs.length=a*k:=s.length;have N:(I+1)*k<=a*k:=Q0 _ oM;have H:(I+1)*k=I*k+k:=by rw[X7,Nat.one_mul]
 refine s.store (m:=I*k) C E (by rw[hl];omega) λJ K u v=>o J ⟨⟨_,D,K,?_,t⟩,e.self,λi r=>by rw[v];exact e.aE i r⟩ u v;have w:=F.keep u λi r=>(t i r).2;rw[hl,<-H,show P.set I x=P.take I++[x]++P.drop (I+1) by rw[XQ,List.singleton_append];exact List.set_eq_take_append_cons_drop .. |>.trans (Zx y)];exact cf.append (cf.append (w.take I) (cf.one ⟨rfl,B⟩)) (w.drop (I+1))
end Go.aw
namespace Go.Proofs.YtkpomgifkloklaaGreatDoor
section
open Go.aw
variable{Y o:Array Value}{A:FuncId}{a0 f:ac}{d:be}{y:aq}
section
variable {w w':World} {p:Nat} {M D T E:ac} {most:Nat} {l:List ah} {a:be} {n c:Nat} {L:List (Bx ah)}
def OS{pr:ah->Bool}(H:enters LL A=true)(m:aS nR.kO 82 (λP=>aI a=some P) w a n c L)(hl:L.length<=20000000)(I:∀(P:Bx ah) e,aj (λP=>aI a=some P) w e->bn A (o++ #[lg P.x P.a P.n P.c]++Y) e (Ok λs w'=>s= .bool (pr P.x)/\ai e w')):
  bn 285 #[.slice a n c,.func (.func A) o Y] w (Ok λs w'=>∃p,s= .slice a p c/\aS nR.kO 82 (λP=>aI a=some P) w' a p c (L.filter λP=>!pr P.x)/\aj (λP=>aI a=some P) w w'):=by
 have hn:=m.len dC;have b6:=m.lL;have q:∀{e:World} {f:List (Bx ah)},aS nR.kO 82 (λP=>aI a=some P) e a n c f->f.length=L.length->Row nR.kO 96 e (λP=>aI a=some P) a n f:=λ{e f} Z b7=>Z.row dC cw;refine fZ (PC.ok (AZ (E:=λP=>aI a=some P) (L:=L) H (λd e=>(∀P∈L.take d,pr P.x=false)/\ai w e) (λd e=>(∀P∈L.take d,pr P.x=false)/\(∀P,L[d]? =some P->pr P.x=true)/\ai w e) ⟨sM,aj.refl _⟩ (λd e h1=>(q m rfl).af h1.2) ?_) ?_)
 ·rintro d P e h ⟨i,z⟩
  refine(I P e (ai.keep z)).mono ?_;rintro _ w2 ⟨s,rfl,rfl,J⟩;refine Ok.mk ?_
  cases K:pr P.x
  ·refine .inr ⟨rfl,λM g=>?_,z.then J⟩
   rw[Qw,h]at g;rcases Q6.1 g with g|g
   ·exact i M g
   ·simp at g;subst g;exact K
  ·exact .inl ⟨rfl,i,λM g=>by rw[h]at g;cases g;exact K,z.then J⟩
 rintro _ w4 (⟨k,b8,rfl,i,a0,r⟩|⟨rfl,i,r⟩)
 rotate_left
 ·refine⟨_,rfl,al.tt sM (Ok.mk ⟨n,rfl,?_,ai.keep r⟩)⟩
  rw[Qz oM]at i;rw[List.filter_eq_self.2 λP h=>by rw[i P h];rfl];exact m.af r
 have N:L[k]? =some L[k]:=Qq oM;have a8:(L.take (k+1)).filter (λP=>!pr P.x)=L.take k:=by
  rw[Qw,N,List.filter_append,List.filter_eq_self.2 λP h=>by rw[i P h];rfl];simp[a0 _ N]
 refine⟨_,rfl,al.ff sM ⟨λp l d w'=>∃(B j:Nat) (f:List (Bx ah)),l=B/\d=j/\B<j/\j<=n/\p=n-j/\aS nR.kO 82 (λP=>aI a=some P) w' a n c f/\f.length=L.length/\f.take B=(L.take j).filter (λP=>!pr P.x)/\f.drop j=L.drop j/\aj (λP=>aI a=some P) w w',
  ⟨_,k,k+1,L,rfl,an oM,oM,oM,rfl,m.af r,rfl,a8.symm,rfl,ai.keep r⟩,?_⟩⟩
 rintro p _ _ _ O ⟨l,d,f,rfl,rfl,b9,c1,rfl,t,C,u,Q,v⟩;refine al.dec (λc2=>?_) (λc3=>?_)
 ·have x:L[d]? =some L[d]:=Qq oM
  have R:f[d]? =some L[d]:=by
   have:=Zj (·[0]?) Q;simp only[List.getElem?_drop,Nat.add_zero]at this;rw[this,x]
  have S:f.drop (d+1)=L.drop (d+1):=by
   have:=Zj (List.drop 1) Q
   rwa [List.drop_drop,List.drop_drop]at this
  generalize L[d]=b at x R;obtain⟨P,T,es,E,c4,c5,a9,rfl,-⟩:=(q t C).el d b R;refine⟨P,T,E,oM,oM,bJ (es:=aF b.x b.a b.n b.c) (k:=10) (bg _ _ _ _) rfl (λa1 ht=>by rw[Qx];exact a9 a1 ht) (PA.mk λc6 b0 c7 b1=>aD (bg b.x b.a b.n b.c) b1 rfl λU b2 c8 V=>ar (bg b.x b.a b.n b.c) V ⟨_,_,_,rfl,H,?_⟩)⟩;have W:ai O U:=b0.new b2 λP h=>.inr (by have h:P=O.heap.size:=h;omega);refine PC.ok (I b U (v.af W)) ?_;rintro _ c9 ⟨rfl,X⟩;have y:=W.then X;refine⟨_,rfl,al.not (al.mk (λF=>⟨_,?_,l,d+1,f,rfl,an oM,oM,oM,rfl,t.af y,C,?_,S,v.af y⟩) (λF=>?_))⟩
  ·omega
  ·rw[u,Qw,x,List.filter_append]
   simp[F]
  ·refine ar (bg b.x b.a b.n b.c) (X.get V id) ⟨P,T,E,oM,oM,?_⟩
   rw[Qx];refine aS.Uj (x:=b) (k:=10) (t.af y) oM dC trivial E (bg b.x b.a b.n b.c) λd0 a7 b3 d1=>⟨_,?_,l+1,d+1,f.set l b,an oM,an oM,oM,oM,rfl,a7,by simpa using C,?_,?_,(v.af y).then b3⟩
   ·omega
   ·rw[Qw (l:=L),x,List.filter_append,<-u,Qw,List.getElem?_set_self oM,List.take_set_of_le (Q4 _)]
    simp[F]
   ·rw[List.drop_set_of_lt oM,S]
 ·obtain rfl:d=n:=oM
  rw[Qz (l:=L) oM]at u;refine⟨oM,oM,?_⟩;rw[Qx];refine AS uc kR t oM λd2 b4 b5 d3=>⟨oM,oM,Ok.mk ⟨l,rfl,?_,v.then b5⟩⟩
  rw[<-u];exact b4
def OT{a b:Nat}(k:cM w a f y)(l:w.heap[b]? =some (.cells #[RK a] 112 (0,0))){P:ah}{m o:Nat}:
  bn 283 #[lg P d m o,RK b] w (Ok λp w'=>p= .bool (y.get (aZ P)).isSome/\ai w w'):=by
 refine nT (PA.mk λv n x c=>⟨_,ae (n.get l id) rfl,_,_,ae c rfl,ae c rfl,PC.ok (Uk (k.af n) (aZ P)) ?_⟩);rintro _ q ⟨e,g,h,G,rfl,z,A,i⟩;exact cg (sO _ e g h) ⟨_,rfl,PA.mk λB r C s=>aD (bg _ e g h) s rfl λE t F H=>Ok.mk ⟨rfl,((n.then i).then r).new t λu j=>.inr (by have j:u=q.heap.size:=j;have:=n.size;have:=i.size;omega)⟩⟩
def OU{e h:Nat}(l:cM w e f y)(m:w.heap[h]? =some (.cells #[RK e] 112 (0,0))){P:ah}{g i:Nat}(o:Row aO 8 w a0 d g P.aM)(j:∀n,a0 n->n<w.heap.size/\¬f n)(p:P.Ok)(t:y.l.length<=20000000):
  bn 286 #[lg P d g i,RK h] w (Ok λq w'=>q= .bool (decide ((y.add P).1=0))/\∃b,cM w' e b (y.add P).2/\cd f w b w'):=by
 refine nU (PA.mk λu a v r=>⟨_,ae (a.get m id) rfl,ar (bg P d g i) r (PC.ok (vo (l.af a) (o.af a) (λn c=>⟨by have:=(j n c).1;omega,(j n c).2⟩) p oM) ?_)⟩);rintro _ x ⟨rfl,b,s,k⟩;have:=a.size;exact⟨_,rfl,Ok.mk ⟨by congr 1,b,s,(ai.keep a).then k.keep,λn c=>(k.new n c).imp id oM⟩⟩
end
end
section
open Go.aw
variable{g6:List (Bx ah)}{f:ac}{d:be}{b:World}{y:aq}
section
variable {w w':World} {p:Nat} {M D E:ac} {most:Nat} {l:List ah} {a:be} {n c:Nat} {L:List (Bx ah)}
structure Uc (w:World) (p:Nat) (M:ac) (most:Nat) (a:be) (c s tb:Nat) (T:aq) (nc:Nat) (Lc:List (Bx ah)) (oa:be) (on oc:Nat) (Lo:List (Bx ah)) (w1:World):Prop where
 set:∃F1,cM w1 s F1 T/\(∀b,F1 b->w.heap.size<=b/\b≠tb)/\∀b,aI oa=some b->w.heap.size<=b/\¬F1 b/\b≠tb
 ptr:w1.heap[tb]? =some (.cells #[RK s] 112 (0,0))
 buf:w1.heap[p]? =some (.cells #[WP (most:Int),.slice a nc c] 180 (0,0))
 nN:aS nR.kO 82 (λb=>aI a=some b) w1 a nc c Lc
 out:aS nR.kO 82 (λb=>aI oa=some b) w1 oa on oc Lo
 keep:aj M w w1
def yF(h:Ry w p M D most l a n c L){q j:Nat}{i:Nat}{r s:Nat}{t:List (Bx ah)}(H:Uc w p M most a c q j y i g6 d r s t b)(N:∀P∈g6,P∈L)(O:y.l.length<=20000000)(a6:g6.length<=20000000):
  bn 287 #[.slice a i c,.func (.func 286) #[] #[RK j]] b (Ok λA w'=>
   (A= WP (-1)/\(∀P∈g6,(y.add P.x).1≠0)/\Uc w p M most a c q j y i g6 d r s t w')\/
   (∃g P,g<i/\A= WP (g:Int)/\g6[g]? =some P/\(∀v∈g6.take g,(y.add v.x).1≠0)/\(y.add P.x).1=0/\Uc w p M most a c q j (y.add P.x).2 i g6 d r s t w')):=by
 have R:=h.dM p h.mp;have a7:=H.nN.len dC;have S:∀P,aI a=some P->P<w.heap.size:=λP e=>h.dM P (h.ma P e).1;refine(AZ (E:=λP=>aI a=some P) (L:=g6) kR (λg k=>(∀P∈g6.take g,(y.add P.x).1≠0)/\Uc w p M most a c q j y i g6 d r s t k) (λg k=>∃P,g6[g]? =some P/\(∀v∈g6.take g,(y.add v.x).1≠0)/\(y.add P.x).1=0/\Uc w p M most a c q j (y.add P.x).2 i g6 d r s t k) ⟨sM,H⟩
  (λg k f=>f.2.nN.row dC cw) ?_).mono ?_
 ·rintro g P k e ⟨I,f⟩
  obtain⟨T,U,x,B⟩:=f.set;have J:=(h.OR P (N P (QZ e))).keep f.keep λP e=>(h.dD P e).2;have z2:=f.keep.size;refine(OU U f.ptr J.1 (λP e=>⟨by have:=(h.dD P e).1;omega,λm=>by have:=(h.dD P e).1;have:=(x P m).1;omega⟩) J.2 O).mono ?_;rintro _ V ⟨A,rfl,rfl,W,X,o⟩;have K:∀P,P<w.heap.size->¬T P:=λP e m=>by have:=(x P m).1;omega
  have Y:=az f.ptr;have E:∀P,aI d=some P->P<k.heap.size:=λP e=>f.out.aE P e;have F:Uc w p M most a c q j (y.add P.x).2 i g6 d r s t V:=⟨⟨W,X,λP e=>(o.new P e).elim (x P) λz=>⟨oM,oM⟩,λP e=>⟨(B P e).1,λm=>(o.new P m).elim (B P e).2.1 λz=>by have:=E P e;omega,(B P e).2.2⟩⟩,
   o.keep.get f.ptr λm=>(x _ m).2 rfl,o.keep.get f.buf (K p R),f.nN.keep o.keep λP e=>K P (S P e),f.out.keep o.keep λP e=>(B P e).2.1,f.keep.new o.keep λP e=>.inr (x P e).1⟩
  refine Ok.mk ?_
  by_cases u:(y.add P.x).1=0
  ·exact .inl ⟨by rw[Zy u],P,e,I,u,F⟩
  ·refine .inr ⟨by rw[Xv u],λv Q=>?_,?_⟩
   ·rw[Qw,e]at Q
    rcases Q6.1 Q with Q|Q
    ·exact I v Q
    ·simp at Q;subst Q;exact u
   ·rcases y.eZ P.x with⟨-,z⟩|⟨z,-⟩
    ·rw[z]at F;exact F
    ·rw[z]at u;exact Zz rfl u
 ·rintro _ k ⟨A,rfl,Z⟩
  rcases Z with⟨g,hj,rfl,P,C,f,h3,h4⟩|⟨rfl,C,f⟩
  ·exact Ok.mk (.inr ⟨g,P,hj,rfl,C,f,h3,h4⟩)
  ·rw[Qz oM]at C
   exact Ok.mk (.inl ⟨rfl,C,f⟩)
def Gu(d7:iA w p M D most l){b3:Nat}(hs:cM w b3 f y)(g7:y.Cl)(k8:y.l.length<=19000000):
  bn 221 #[RK p,RK b3] w (Ok λd8 w'=>∃q A E k,d8= .slice q A E/\aS nR.kO 82 (λP=>aI q=some P) w' q A E k/\k.map (·.x)=(bM y l).1/\(∀P∈k,nR.In w' D P)/\(∀P,aI q=some P->w.heap.size<=P)/\
   iA w' p M D most (bM y l).2/\aj M w w'):=by
 obtain⟨W,a,n,c,L,g⟩:=d7;have g8:=g.dM p g.mp;have X:∀P,aI a=some P->P<w.heap.size:=λP b=>g.dM P (g.ma P b).1;have l0:L.length=l.length:=by rw[<-g.map,Q8]
 have h4:l.length<=256:=Xx W.2.le W.1;have hN:=hs.1.n;refine ql (PC.ok (mK hs) ?_);rintro _ w4 ⟨va,vn,vc,Fv,rfl,h6,k4,l3⟩;have d2:=h6.len dC;rw[y.aY]at d2;subst d2;refine⟨_,_,_,rfl,PC.ok (Gv hN) ?_⟩;rintro _ B ⟨F,F2,rfl,d3,d4,k7⟩;have z4:=k4.size;have z7:=k7.size;refine⟨_,rfl,PA.mk λw9 k9 s9 g9=>PS.mk g9 sM λh7 h8 l4 h9=>?_⟩;have a1:ai B h7:=k9.new h8 λP b=>.inr (by have b:P=B.heap.size:=b;omega);have b4:=(k4.then k7).then a1;have Y:=d3.aE;refine PC.ok (su (hs.af b4) oM) ?_;rintro _ Z ⟨ea,en,ec,G,rfl,b9,a6,hG⟩;have l5:=b9.len dC;have l6:=a1.size;have l7:=a6.size;have e0:Row iz 96 Z G ea en y.l:=b9.row dC cw;have i1:Z.heap[B.heap.size]? =some (.cells #[RK F] 112 (0,0)):=a6.get h9 id;have d6:=b9.aE;refine⟨_,_,_,rfl,λR a2 w'=>∃(e:Nat) (S:ac),a2=e/\e<=en/\R=en-e/\cM w' F S ((⟨y.n,[]⟩:aq).eG (y.l.take e))/\(∀P,S P->F2 P\/Z.heap.size<=P)/\aj F2 Z w',⟨_,0,F2,rfl,Qj _,rfl,d3.af (a1.then a6),λP b=>.inl b,aj.refl _⟩,?_⟩;rintro R _ _ a7 ⟨e,S,rfl,hj,rfl,a8,a9,T⟩;have l8:=T.size;have c1:=T.get i1 λH=>by have:=Y _ H;omega
 refine al.dec (λl9=>?_) (λm1=>?_)
 ·have K:y.l[e]? =some y.l[e]:=Qq oM
  generalize y.l[e]=N at K;have e7:=e0.keep T λP b H=>by have:=Y _ H;have:=hG P b;omega
  obtain⟨P,e8,es,ha,m2,m3,c2,xa,xn,xc,rfl,i3,f0⟩:=e7.el e N K;refine⟨P,e8,ha,oM,oM,bJ (es:=aF N xa xn xc) (k:=10) (bg _ _ _ _) rfl (λa2 ht=>by rw[Qx];exact c2 a2 ht) (PA.mk λm4 i4 m5 i5=>aD (bg N xa xn xc) i5 rfl λi6 i7 m6 i8=>?_)⟩;have O:ai a7 i6:=i4.new i7 λP b=>.inr (by have b:P=a7.heap.size:=b;omega);have c3:=aq.nV (y.l.take e) ⟨y.n,[]⟩;rw[Qy]at c3;simp only[ZQ]at c3;refine⟨_,ae (O.get c1 id) rfl,ar (bg N xa xn xc) i8 (PC.ok (vo (a8.af O) (i3.af O) (λP b=>⟨by have:=d6 P b;have:=O.size;omega,λH=>?_⟩) f0 oM) ?_)⟩
  ·rcases a9 P H with j|j
   ·have:=Y _ j;have:=hG P b;omega
   ·have:=d6 P b;omega
  rintro _ i9 ⟨rfl,F3,j0,d9⟩;refine⟨_,rfl,_,oM,e+1,F3,an oM,oM,rfl,?_,λP b=>?_,?_⟩
  ·rw[Qw,K]
   show cM i9 F F3 (aq.eG _ (y.l.take e++[N]));rw[aq.nW];exact j0
  ·rcases d9.new P b with j|j
   ·exact a9 P j
   ·have:=O.size;exact .inr oM
  ·exact(T.af O).new d9.keep λP b=>a9 P b
 rw[Qz oM,g7.Wz]at a8;have b5:ai w a7:=(b4.then a6).new T λP b=>.inr (by have:=d4 P b;omega);have c4:=g.keep b5 (λ_ _ g=>g) λ_ _ g=>g;have s:∀P,S P->w.heap.size<=P/\P≠B.heap.size:=λP b=>by
  rcases a9 P b with j|j
  ·have:=d4 P j;have:=Y P j;omega
  ·omega
 refine⟨p,0,rfl,_,_,_,ae c4.at' rfl,PC.ok (OS (pr:=λd=>(y.get (aZ d)).isSome) kR c4.nN oM λP w1 hk=>?_) ?_⟩
 ·refine OT (a8.keep hk λP b d=>?_) (hk.get c1 λd=>?_)
  ·have:=X P d;have:=(s P b).1;omega
  ·have:=X _ d;omega
 rintro _ m7 ⟨m0,rfl,f1,e1⟩;have b0:¬aI a=some p:=λd=>(g.ma p d).2 rfl;refine⟨_,_,_,rfl,p,0,rfl,PS.mk (e1.get c4.at' b0) sM λe2 e3 m8 e4=>⟨p,0,rfl,_,_,_,ae e4 rfl,?_⟩⟩;obtain⟨t,z⟩:∃t,t=L.filter λP=>!(y.get (aZ P.x)).isSome:=⟨_,rfl⟩
 have a3:aj (λP=>aI a=some P\/P=p) a7 e2:=(e1.mono λP _ b=>.inl b).then (e3.mono λP _ b=>.inr b);have RB:∀P,aI a=some P\/P=p->P<w.heap.size:=λP b=>b.elim (X P) λd=>d▸g8;have e5:Uc w p M most a c F B.heap.size y m0 t none 0 0 [] e2:=by
  refine⟨⟨S,a8.keep a3 λP b d=>by have:=RB P d;have:=(s P b).1;omega,s,λP b=>by cases b⟩,a3.get c1 λd=>by have:=RB _ d;omega,e4,?_,(aS.nil _).mono (λP b=>b.elim) λP b=>(by cases b),?_⟩
  ·rw[z];exact f1.keep e3 λP b d=>b0 (by have d:P=p:=d;rw[<-d];exact b)
  ·exact(ai.keep b5).then (a3.mono λP _ b=>b.elim (λd=>(g.ma P d).1) λd=>d▸g.mp)
 have b6:∀P∈t,P∈L:=λP b=>by rw[z]at b;exact(List.mem_filter.1 b).1
 have a4:t.map (·.x)=l.filter λd=>(y.get (aZ d)).isNone:=by
  rw[z,<-g.map,List.filter_map]
  congr 1
  refine List.filter_congr λP b=>?_;show(!(y.get (aZ P.x)).isSome)=(y.get (aZ P.x)).isNone
  cases y.get (aZ P.x)<;>rfl
 have b7:t.length<=L.length:=by rw[z];exact List.length_filter_le ..
 refine PC.ok (yF g e5 b6 oM oM) ?_;rintro j1 m9 b8;obtain⟨i0,j2⟩:∃u:Int,j1= WP u:=by
  rcases b8 with⟨m,-⟩|⟨e,P,-,m,-⟩
  ·exact⟨_,m⟩
  ·exact⟨_,m⟩
 subst j2;refine⟨_,rfl,λR q A E u w'=>∃(r:aq) (h k:List (Bx ah)) (C U:Nat),R=h.length/\(∀P∈h,P∈L)/\(∀P∈k,P∈L)/\(h.map (·.x)).Sublist l/\h.length<=U/\r.l.length+h.length<=y.l.length+L.length/\h.length<=L.length/\k.length+h.length<=L.length/\C=h.length/\
   du (U+1) r (h.map (·.x)) (k.map (·.x))=bM y l/\
   ((u= -1/\(∀P∈h,(r.add P.x).1≠0)/\Uc w p M most a c F B.heap.size r C h q A E k w')\/
    (∃e P,e<C/\u=(e:Int)/\h[e]? =some P/\(∀v∈h.take e,(r.add v.x).1≠0)/\(r.add P.x).1=0/\Uc w p M most a c F B.heap.size (r.add P.x).2 C h q A E k w')),?_,?_⟩
 ·have j3:=e5.nN.len dC
  refine⟨_,y,t,[],m0,t.length,rfl,b6,sM,by rw[a4];exact List.filter_sublist,Q4 _,oM,b7,by simpa using b7,j3,?_,?_⟩
  ·rw[a4]
   show du (t.length+1) y _ []=_;unfold bM;rw[<-a4];show _=du ((t.map (·.x)).length+1) y _ [];rw[Q8]
  ·rcases b8 with⟨m,I,J⟩|⟨e,P,m,I,J⟩
   ·exact .inl ⟨by simpa using m,I,J⟩
   ·exact .inr ⟨e,P,m,by simpa using I,J⟩
 rintro R q A E u _ j4 ⟨r,h,k,C,U,rfl,a5,c0,e6,hk,n0,k5,k6,n1,c6,j5⟩;rcases j5 with⟨rfl,c5,i⟩|⟨e,P,hj,rfl,b,c5,f3,i⟩
 ·refine al.ff sM (Ok.mk ⟨q,A,E,k,rfl,i.out,?_,λP b=>(g.OR P (c0 P b)).keep i.keep λP b=>(g.dD P b).2,λP b=>by obtain⟨F1,-,-,j⟩:=i.set;exact(j P b).1,⟨⟨W.1,?_⟩,a,C,c,h,i.buf,i.nN,?_,λP b=>(g.OR P (a5 P b)).keep i.keep λP b=>(g.dD P b).2,λP b=>⟨by have:=(g.dD P b).1;have:=i.keep.size;omega,(g.dD P b).2⟩,g.mp,g.ma,λP b=>by have:=g.dM P b;have:=i.keep.size;omega⟩,i.keep⟩)
  all_goals
   have f4:bM y l=(k.map (·.x),h.map (·.x)):=by
    rw[<-c6];unfold du;rw[tE λd he=>by obtain⟨P,b,rfl⟩:=Xk.1 he;exact c5 P b]
   rw[f4]
  exact W.2.sub e6
 ·have j6:e<h.length:=oM
  have n2:=i;obtain⟨F1,e9,f2,b1⟩:=i.set;have n3:=i.keep.size;have c3:=r.Az P.x;obtain⟨gb,go,es,ha,n4,n8,c2,rfl,-⟩:=(i.nN.row (bytes:=96) dC cw).el e P b;have d:=λu (hi:u<10)=>c2 u hi;refine al.dec (λ_=>⟨p,0,rfl,_,_,_,ae i.buf rfl,gb,go,ha,oM,oM,_,_,_,_,_,_,_,_,_,_,_,_,d 0 dC,d 1 dC,d 2 dC,d 3 dC,d 4 dC,d 5 dC,d 6 dC,d 7 dC,d 8 dC,d 9 dC,PA.mk λj7 g0 n9 j8=>?_⟩) (λhn=>oM);have o0:=i.out.len dC;refine fV (c:=nR.kO) (x:=P) (D:=λ_=>False) (i.out.af g0) uc j8 ⟨rfl,trivial⟩ (λP b=>b.elim) cw (by unfold maxLen;omega) λV b2 g1 Fo c7 j9 k0=>⟨_,_,_,rfl,p,0,rfl,?_⟩
  have f5:=c7.alone;have d0:∀P,aI V=some P->aI q=some P\/j7.heap.size<=P:=λP b=>(k0 P (c7.self P b)).imp id λg=>g.resolve_left id;have o:∀P,aI q=some P->w.heap.size<=P:=λP b=>(b1 P b).1;have Q:aj (λP=>aI q=some P) j4 g1:=(ai.keep g0).then j9;have g2:=Q.get i.buf λd=>by have:=o _ d;omega
  have f6:=i.nN.keep Q λP b d=>by have:=o _ d;have:=X P b;omega
  have o1:=Q.size;refine⟨_,_,_,ae g2 rfl,PC.ok (Wy f6 hj oM) ?_⟩;rintro _ o2 ⟨rfl,g3,c8⟩;have o3:=c8.size;refine⟨_,_,_,rfl,p,0,rfl,PS.mk (c8.get g2 b0) sM λg4 g5 o4 g6=>⟨p,0,rfl,_,_,_,ae g6 rfl,?_⟩⟩;have o5:(h.eraseIdx e).length=h.length-1:=List.length_eraseIdx_of_lt j6;have a0:aj (λP=>aI a=some P\/P=p) g1 g4:=(c8.mono λP _ b=>.inl b).then (g5.mono λP _ b=>.inr b);have c9:∀P,w.heap.size<=P->¬(aI a=some P\/P=p):=λP b d=>by have:=RB P d;omega
  have k1:Uc w p M most a c F B.heap.size (r.add P.x).2 (C-1) (h.eraseIdx e) V (A+1) b2 (k++[P]) g4:=by
   refine⟨⟨F1,(e9.keep Q λP b d=>(b1 P d).2.1 b).keep a0 λP b=>c9 P (f2 P b).1,f2,λP b=>?_⟩,a0.get (Q.get i.ptr λd=>(b1 _ d).2.2 rfl) (c9 _ oM),g6,g3.keep g5 λP b d=>b0 (by have d:P=p:=d;rw[<-d];exact b),f5.keep a0 λP b=>c9 P ?_,?_⟩
   ·rcases d0 P b with j|j
    ·exact b1 P j
    ·have hd:=e9.aE
     have o6:=az i.ptr;exact⟨oM,λH=>by have:=hd P H;omega,oM⟩
   ·rcases d0 P b with j|j
    ·exact o P j
    ·omega
   ·exact(i.keep.new Q λP b=>.inr (o P b)).then (a0.mono λP _ b=>b.elim (λd=>(g.ma P d).1) λd=>d▸g.mp)
  have d1:∀v∈h.eraseIdx e,v∈L:=λv x=>a5 v ((List.eraseIdx_sublist ..).subset x);refine PC.ok (yF g k1 d1 oM oM) ?_;rintro k2 o7 d5;obtain⟨i2,k3⟩:∃u:Int,k2= WP u:=by
   rcases d5 with⟨m,-⟩|⟨e,P,-,m,-⟩
   ·exact⟨_,m⟩
   ·exact⟨_,m⟩
  subst k3;have f7:∃k',U=k'+1:=⟨U-1,oM⟩
  obtain⟨k',rfl⟩:=f7;refine⟨_,rfl,(h.eraseIdx e).length,oM,(r.add P.x).2,h.eraseIdx e,k++[P],C-1,k',rfl,d1,?_,?_,oM,oM,oM,by simp;omega,oM,?_,?_⟩
  ·intro v x
   rcases Q6.1 x with x|x
   ·exact c0 v x
   ·simp at x;subst x;exact a5 v (QZ b)
  ·exact((List.eraseIdx_sublist ..).map _).trans e6
  ·rw[<-c6]
   conv=>rhs;unfold du
   rw[tF (i:=e) (e:=P.x) (λN K=>by rw[<-List.map_take]at K;obtain⟨v,x,rfl⟩:=Xk.1 K;exact c5 v x) (by rw[Q9,b];rfl) f3];show _=du (k'+1) (r.add P.x).2 ((h.map (·.x)).eraseIdx e) (k.map (·.x)++[P.x]);rw[map_eraseIdx,Q3];rfl
  ·rcases d5 with⟨m,I,J⟩|⟨e,P,m,I,J⟩
   ·exact .inl ⟨by simpa using m,I,J⟩
   ·exact .inr ⟨e,P,m,by simpa using I,J⟩
end
def Mb:lq:=⟨[(2,[(10,WP 0)])],[],[],[],[]⟩
variable{B:ba}{e r:Int}{a c:Nat}
def Mc(i:(∃f:Nat->Int->bc,(∃P,f P 0 b)/\∀(P:Nat) (n:Int) (q:Nat->Value) (g:World),f P n g->al (decide (n<(a:Int))) ((ix_ d n a λj k=>PS g (ad j (k+Int.toNat n*5+1)) (.ii e) λl=>(ix_ d n a λm o=>PS l (ad m (o+Int.toNat n*5+2)) (.ii r) λp=>(∃h,h<P/\f h (IntKind.wrap .i64 (n+1)) p)))) (rt B ((.slice d a c)) g))):bn 164 #[.ii e,.ii r,.slice d a c] b B:=DC Mb Tryz.func164 rfl i

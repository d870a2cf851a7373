import Derived.Test.YtblabbpipmodgaaGreatDoorKr15
set_option maxHeartbeats 4000000
set_option linter.all false
set_option maxRecDepth 100000
namespace Go.Proofs.YtblabbpipmodgaaGreatDoor
open Go.aw
def QG:mE ZP 286 3 269 (sI ⟨0,0,0⟩):=⟨kR,kR⟩
def Mz{a e f:Type}[BEq a](b:e->f)(c:a):∀P:List (a×e),aq (P.map λd=>(d.1,b d.2)) c=(aq P c).map b
 |[]=>rfl
 |(d,g)::P=>by
  simp only[QY];unfold aq;split
  ·rfl
  ·exact Mz b c P
def MA{c d g:Type}[BEq c](a:d->g)(e:c)(f:d):∀b:List (c×d),aI (b.map λP=>(P.1,a P.2)) e (a f)=(aI b e f).map λP=>(P.1,a P.2)
 |[]=>rfl
 |(P,h)::b=>by
  simp only[QY];unfold aI;split
  ·simp
  ·simp[MA a e f b]
variable{e:Int}{a c:Nat}{d:YQ}{d7:dR}{d6:jo}
section
variable {w w':World} {p r:Nat} {R:dK}
def dK.add_def(r:dK)(e:cR)(a:Int):r.add e a=match Gw r.p e.ev a with
  |none=>r
  |some P=>if e.void||e.ev.aY !=r.p.aY||e.ev.field !=r.p.field then r else
   {r with rows:=aI r.rows P ⟨P,lI r.p ⟨P,((aq r.rows P).getD ⟨0,0,0⟩).value,oT (((aq r.rows P).getD ⟨0,0,0⟩).count+1)⟩ e.ev.arg,oT (((aq r.rows P).getD ⟨0,0,0⟩).count+1)⟩}:=rfl
def GZ:aN 0:=by unfold aN;omega
def UC{arg:Int}(P:dR.Ok d7)(a:aN arg):aN (lI d6 d7 arg):=by
 obtain⟨c,d,b⟩:=P;unfold lI;split;exact b;split;exact LY _;split;exact a;split
 ·unfold aN at*;omega
 split
 ·unfold aN at*;omega
 ·exact GZ
def OS(i:kU w p r R)(a1:p≠r){x:cR}(v:x.ev.Ok)(a2:aN e):YX 201 #[ZL p,EO x d a c,ZH e] w (Ok λl w'=>l= .tuple #[]/\kU w' p r (R.add x e)/\aj (·=r) w w'):=by
 have b1:=aA i.at';have b2:=i.map.lt;refine yO (PA.mk λw1 L s1 M=>UD (cs:=aD x.ev d a c) (bf _ _ _ _) M (λa3 l N=>?_) (PC.ok (Li (i.af L)) ?_))
 ·rw[Xz]
  have a4:=(Qv.1 N).1;show(aD x.ev d a c++_).toArray[a3]? =_;simp only[List.getElem?_toArray];rw[XW a4];exact N
 rintro _ O ⟨rfl,Q⟩;have m:=L.then Q;have n:=Q.get M id;have o:=i.af m;have f:R.add x e=R->∀h,bX O h->Ok (λl w'=>l= .tuple #[]/\kU w' p r (R.add x e)/\aj (·=r) w w') (.returned (.tuple #[])) h:=λhe h j=>Ok.mk ⟨rfl,by rw[he];exact o.af j.keep,ai.keep (m.then j.keep)⟩;refine⟨_,_,rfl,al.not (al.mk (λy=>?_) (λy=>f ?_))⟩
 rotate_left
 ·rw[dK.add_def,show Gw R.p x.ev e=none by simpa using y]
 obtain⟨b,g⟩:=Option.isSome_iff_exists.1 y;rw[g,Option.getD_some];have s:∀{q:dK},(if x.void||x.ev.aY !=R.p.aY||x.ev.field !=R.p.field then R else
   {R with rows:=aI R.rows b ⟨b,lI R.p ⟨b,((aq R.rows b).getD ⟨0,0,0⟩).value,oT (((aq R.rows b).getD ⟨0,0,0⟩).count+1)⟩ x.ev.arg,oT (((aq R.rows b).getD ⟨0,0,0⟩).count+1)⟩})=q->R.add x e=q:=λ{q} z=>by
  rw[dK.add_def,g];exact z
 refine⟨_,ae n rfl,al.mk (λk=>f (s (by rw[k];rfl))) (λk=>⟨_,ae n rfl,p,0,rfl,_,ae o.at' rfl,al.dV (λA=>f (s ?_)) (λA=>⟨_,ae n rfl,p,0,rfl,_,ae o.at' rfl,λh j=>?_⟩)⟩)⟩
 ·rw[k,show(x.ev.aY !=R.p.aY)=true by simpa using A];rfl
 have S:(x.ev.aY !=R.p.aY)=false:=by simpa using A
 have t:ai O h:=j.keep;have u:=o.af t;refine al.dV (λB=>f (s (by rw[k,S,show(x.ev.field !=R.p.field)=true by simpa using B];rfl)) h j) (λB=>?_);have a5:(x.ev.field !=R.p.field)=false:=by simpa using B
 have T:aN b:=by
  unfold Gw at g;split at g
  ·cases g;exact v.agg
  split at g
  ·cases g;exact v.arg
  split at g
  ·cases g;exact a2
  ·cases g
 obtain⟨P,C⟩:∃P,P=(aq R.rows b).getD ⟨0,0,0⟩:=⟨_,rfl⟩
 have a6:dR.Ok P:=by
  rw[C]
  cases z:aq R.rows b with
  |none=>exact⟨GZ,GZ,GZ⟩
  |some U=>exact(i.ok _ (cf z)).1
 have a7:(aq (R.rows.map λx=>(x.1,sI x.2)) b).getD (sI ⟨0,0,0⟩)=sI P:=by
  rw[Mz,C];cases aq R.rows b<;>rfl
 refine⟨p,0,rfl,_,ae u.at' rfl,zq QG EZ u.map ?_⟩;rw[a7];refine cm (WI P) ⟨rfl,PA.mk λw4 k4 s4 g4=>aC (NH P) g4 rfl λw5 k5 s5 g5=>PS.mk g5 (by simp[bq]) λw6 k6 s6 V=>⟨_,ae V rfl,PS.mk V (by simp[bq]) λw7 k7 s7 W=>?_⟩⟩;have E:ai h w7:=((k4.new k5 λF H=>.inr oM).new k6 λF H=>.inr oM).new k7 λF H=>.inr oM;have a8:=E.get (t.get n id) id;refine ar (cs:=bq ⟨b,P.value,oT (P.count+1)⟩) (NH _) W ⟨_,ae a8 rfl,PC.ok (Oc (u.af E)) ?_⟩;rintro _ w8 ⟨rfl,I⟩;have z8:=I.size;refine⟨_,rfl,PS.mk (I.get W id) (by simp[bq]) λw9 k9 s9 g9=>λX a9=>?_⟩;have Y:ai w9 X:=a9.keep;have Z:ai h X:=((E.then I).new k9 λF H=>.inr oM).then Y;have J:=u.af Z;have z3:=(m.then t).size;refine⟨p,0,rfl,_,ae J.at' rfl,ar (cs:=bq ⟨b,lI R.p ⟨b,P.value,oT (P.count+1)⟩ x.ev.arg,oT (P.count+1)⟩) (NH _) (Y.get g9 id) (iX QG EZ J.map λb3 b0 a0 b4=>Ok.mk ⟨rfl,?_,?_⟩)⟩
 ·rw[s (q:={R with rows:=aI R.rows b ⟨b,lI R.p ⟨b,P.value,oT (P.count+1)⟩ x.ev.arg,oT (P.count+1)⟩}) (by rw[k,S,a5,C];rfl)]
  refine⟨a0.get J.at' a1,?_,λU K=>?_⟩
  ·rw[<-MA];exact b0
  ·rcases fr K with rfl|K
   ·exact⟨⟨T,UC ⟨T,a6.2.1,LY _⟩ v.arg,LY _⟩,rfl⟩
   ·exact i.ok U K
 ·exact(ai.keep ((m.then t).then Z)).then a0
end
section
variable {w w':World} {p r:Nat} {R:dK}
def MO(f:kU w p r R):YX 250 #[ZL p] w (Ok λg w'=>∃c e,g= ZL c/\kU w' c e R/\c≠e/\w.heap.size<=c/\w.heap.size<=e/\c<w'.heap.size/\e<w'.heap.size/\ai w w'):=by
 refine wI λa i=>?_;have j:ai w a:=i.keep;have t:a.heap.size=w.heap.size:=by rw[i.heap]
 have b:=f.af j;obtain⟨d,P,l,m,n,o⟩:=b.map.at';refine⟨no,p,0,rfl,id,_,_,_,_,_,ae b.at' rfl,ae b.at' rfl,ae b.at' rfl,ae b.at' rfl,ae b.at' rfl,p,0,rfl,_,ae b.at' rfl,PC.ok (φ:=λg w'=>g= .map (some a.heap.size)/\w'=a.alloc (.map d P)) ((AnyW.maps_Clone Tryz.UE r d P a l).mono ?_) ?_⟩
 ·rintro u w' ⟨rfl,q⟩
  exact Ok.mk ⟨rfl,q⟩
 ·rintro _ v ⟨rfl,rfl⟩
  have k:ai a (a.alloc (.map d P)):=aj.alloc _ _;have x:(a.alloc (.map d P)).heap.size=a.heap.size+1:=sM
  refine⟨_,rfl,ai.keep k,PA.mk λy h z s=>⟨ai.keep h,Ok.mk ⟨_,a.heap.size,rfl,⟨s,⟨⟨d,P,h.get (heap_alloc_new a _) id,m,n,o⟩,f.map.tidy⟩,f.ok⟩,?_⟩⟩⟩;refine⟨oM,oM,oM,oM,oM,(j.then k).then h⟩
end
open Go.aw Go.Sort
def ns{c:Type}{g:Nat}{P:c->List Value}{e:c->Prop}{hl h1}{h:World}{D:ZN}:∀{a:List c} {cs:List Value},bR (flat g P e hl h1) h D a cs↔cs=a.flatMap P/\∀x∈a,e x
 |[],cs=>by simp[bR]
 |x::a,cs=>by
  constructor
  ·rintro⟨l,m,rfl,⟨rfl,i⟩,j⟩
   obtain⟨rfl,k⟩:=ns.1 j;exact⟨rfl,λd b=>by rcases Q2.1 b with rfl|b;exact i;exact k d b⟩
  ·rintro⟨rfl,f⟩
   exact⟨P x,a.flatMap P,rfl,⟨rfl,f x (QV ..)⟩,ns.2 ⟨rfl,λd b=>f d (QJ _ b)⟩⟩
section
variable {α:Type} {enc:α->List Value} {K:Nat}
def fT(b:∀a,(enc a).length=K)(P:List α):(P.flatMap enc).length=P.length*K:=by
 induction P with
 |nil=>simp
 |cons a P c=>rw[List.flatMap_cons,QX,c,b,Xq,X7];omega
def ko[Inhabited α](g:0<K)(b:∀d,(enc d).length=K){P:List α}(e:a<P.length*K):(P.flatMap enc)[a]? =(enc P[a/K]!)[a % K]? :=by
 induction P generalizing a with
 |nil=>simp at e
 |cons d P h=>
  rw[List.flatMap_cons]
  by_cases c:a<K
  ·rw[XW (by rw[b];exact c),Nat.div_eq_of_lt c,Nat.mod_eq_of_lt c];rfl
  ·rw[Xq,X7]at e
   rw[X8 (by rw[b];omega),b,h oM];obtain⟨f,rfl⟩:∃f,a=f+K:=⟨a-K,oM⟩
   rw[Nat.add_sub_cancel,Nat.add_div_right _ g,Nat.add_mod_right];simp
def yb[Inhabited α](d:0<K)(c:∀g,(enc g).length=K)(P:List α):(flatK enc K P.toArray).toList=P.flatMap enc:=by
 apply X3;intro a
 by_cases b:a<P.length*K
 ·rw[ko d c b]
  have h:a<(flatK enc K P.toArray).size:=by simpa using b
  have e:=get_flatK enc K P.toArray a (by simpa using b);rw[getElem!_pos _ a h]at e;have f:a % K<(enc P[a/K]!).length:=by rw[c];exact Nat.mod_lt _ d
  rw[Qq (by simpa using b),Qq f]
  congr 1
  rw[Array.getElem_toList,e];rw[getElem!_pos _ _ (by simpa using f)]
  congr 1
  simp
 ·rw[Q7 (by simpa using b),Q7 (by rw[fT c];omega)]
end
instance:Inhabited dR:=⟨⟨0,0,0⟩⟩
def UM(a:dR):∀b∈bq a,b.oneCell'=true:=by
 intro c P;simp only[bq,Q2,List.not_mem_nil,or_false]at P;rcases P with rfl|rfl|rfl<;>rfl
def oE(P:dR):(bq P).length=3:=rfl
def Cg(P a:dR):Int:=if P.group<a.group then-1 else 1
def zF(P a:dR):ltOf Cg P a=decide (P.group<a.group):=by
 unfold ltOf Cg
 by_cases b:P.group<a.group<;>simp[b]
def VQ:SWO (ltOf Cg) where
 irrefl x:=by rw[zF];simp
 trans x y z h1 h2:=by rw[zF]at*;simp at*;omega
 ntrans x y z h1 h2:=by rw[zF]at*;simp at*;omega
variable{g2:List dR}{f:ZN}{b:World}
def UN{c d:dR}:YX 396 #[.agg (bq c).toArray,.agg (bq d).toArray] b (Ok λf g=>f= ZH (Cg c d)/\G b g):=by
 refine tH (PA.VO λj e k h=>PA.VO λl P m i=>⟨_,ae ((P.keep (S:=λ_=>False)).get h id) rfl,_,ae i rfl,al.dec (λa=>Ok.mk ⟨?_,e.then P⟩) (λa=>Ok.mk ⟨?_,e.then P⟩)⟩)
 ·unfold Cg;rw[Zx a]
 ·unfold Cg;rw[Zq a]
def N_(l:aU Hh 269 f b d a c g2)(B:g2.length<=20000000):
  YX 395 #[.slice d a c,.func (.func 396) #[] #[]] b (Ok λL r=>L= .tuple #[]/\∃C:List dR,C.Perm g2/\(C.Pairwise λs M=>¬M.group<s.group)/\aU Hh 269 f r d a c C/\aj (λt=>aH d=some t) b r):=by
 obtain⟨cs,D,x,Y,Z⟩:=l.body;obtain⟨rfl,N⟩:=ns.1 Y;obtain⟨P,y⟩:∃P,P=g2:=⟨g2,rfl⟩
 rw[<-y]at x N;have E:=l.len dC;have u:P.length=a:=by rw[E,<-y]
 rcases x.cases with⟨rfl,rfl,rfl,h0⟩|⟨h,i,rfl,v,O,F,Q⟩
 ·have hd:P=[]:=QW u
  refine(AnyF.slices_SortFunc_none Tryz.TO none 0 _ b).mono ?_;rintro z r ⟨rfl,rfl⟩;exact Ok.mk ⟨rfl,g2,List.Perm.refl _,by rw[<-y,hd];exact List.Pairwise.nil,l,aj.refl _⟩
 ·have R:Hh.k=3:=rfl
  rw[R]at Q F;have a5:flatK bq 3 P.toArray=(P.flatMap bq).toArray:=by rw[<-yb (show 0<3 by decide) oE]
  have hH:HoldsK bq 3 b h 0 P.toArray:=by
   intro j n;rw[size_flatK]at n;simp only[List.size_toArray]at n;have S:j<(P.flatMap bq).length:=by rw[fT oE];exact n
   refine⟨?_,by simp[World.frozen?,v]⟩;have o:(flatK bq 3 P.toArray)[j]! =(P.flatMap bq)[j]:=by
    rw[a5,getElem!_pos _ j (by simpa using S)];simp
   rw[o,Xz];refine ae v ?_;have k:(i.toList.take (a*3))[j]? =some (P.flatMap bq)[j]:=by rw[Q];exact Qq S
   rw[Xw,Zx oM]at k;simpa using k
  have B:=x.row;have H:c<=maxLen:=by
   obtain⟨_,a0,_,T,_,_,_,H,_⟩:=x.row.2.resolve_left (by rintro⟨l,_⟩;cases l);simp only[XX]at T;rw[T.2.2];exact H
  have a6:P.toArray.size<4611686018427387904:=by
   simp only[List.size_toArray,u];omega
  have U:=AnyQ.slices_SortFunc Tryz.TO 3 (λb=>de _ _ _ kR ⟨_,Tryz.underlying269⟩ b) (λb=>Tryz.sizeOf269 b) bq (λ_=>rfl) UM (Cg) VQ 396 #[] h 0 c P.toArray b
   (enters_of Tryz.func396 kR rfl) (λa9 p dk b0 s M=>(UN).mono ?_) hH (aA v) a6
  ·rw[show P.toArray.size=a by simpa using u]at U
   refine U.mono ?_;rintro z r ⟨rfl,g,w,p,hp,hs,rfl⟩;obtain⟨p1,p2,V⟩:=hp;have e:g.size=a:=p1.trans (by simpa using u);have W:g.toList.Perm P:=by
    have o:g.extract 0 a=g:=by rw[<-e];exact Array.extract_size
    have k:P.toArray.extract 0 a=P.toArray:=by rw[show a=P.toArray.size by simpa using u.symm];exact Array.extract_size
    rw[o,k]at V;exact V
   have a2:flatK bq 3 g=(g.toList.flatMap bq).toArray:=by rw[<-yb (show 0<3 by decide) oE]
   have I:(sortWorldK bq 3 b h 0 w g p).heap[h]? =some (.cells (putCells id 0 (flatK bq 3 g) i) 269 (0,0)):=by
    have a7:=aA v;show((Sort.ahead b w).heap.modify h _++p)[h]? =_;rw[Array.getElem?_append_left (by simpa[Sort.ahead]using a7),Array.getElem?_modify,Zx rfl];show Option.map _ b.heap[h]? =_;rw[v];rfl
   have A:aj (λt=>aH (ZM h)=some t) b (sortWorldK bq 3 b h 0 w g p):=by
    refine⟨rfl,rfl,rfl,?_,λa1 A E=>?_⟩
    ·show b.heap.size<=((Sort.ahead b w).heap.modify h _++p).size
     simp[Sort.ahead]
    ·show((Sort.ahead b w).heap.modify h _++p)[a1]? =_
     rw[Array.getElem?_append_left (by simpa[Sort.ahead]using A),Array.getElem?_modify,Zq (λz=>E (by rw[z];rfl))]
     rfl
   have a3:(putCells id 0 (flatK bq 3 g) i).size=c*3:=by unfold putCells;rw[Array.size_mapIdx];exact F
   refine Ok.mk ⟨rfl,g.toList,by rw[<-y];exact W,?_,⟨⟨g.toList.flatMap bq,D,⟨⟨?_,.inr ⟨h,c,_,rfl,Qj _,I,O,H,a3,?_⟩⟩⟩,ns.2 ⟨rfl,λs hx=>?_⟩,Z⟩,l.self,λt B=>Qk (l.aE t B) A.size⟩,A⟩
   ·rw[List.pairwise_iff_getElem]
    intro X j hi n a8;have o:=hs X j (Qj _) a8 (by simpa[e]using n);rw[zF,getElem!_pos _ j (by simpa using n),getElem!_pos _ X (by simpa using hi)]at o;simpa using o
   ·rw[fT oE,XK,e];rfl
   ·apply X3
    intro q;rw[R,Xw];split
    ·rename_i m
     rw[ko (show 0<3 by decide) oE (by rw[XK,e];exact m),<-ko (show 0<3 by decide) oE (by rw[XK,e];exact m)];unfold putCells;have a4:q<i.size:=by rw[F];exact Qk m (Q0 _ O)
     rw[Array.getElem?_toList,Array.getElem?_mapIdx,X6 a4];simp only[Option.map_some];have J:q<(flatK bq 3 g).size:=by rw[size_flatK,e];exact m
     rw[Zx ⟨Qj _,by rw[Xz];exact J⟩,Nat.sub_zero,getElem!_pos _ q J];have:(flatK bq 3 g)[q]=(g.toList.flatMap bq)[q]'(by rw[fT oE,XK,e];exact m):=by
      have k:=Zj (·[q]?) a2;simp only[List.getElem?_toArray]at k;rw[X6 J,Qq (by rw[fT oE,XK,e];exact m)]at k;exact XJ k
     rw[this];exact(Qq _).symm
    ·rename_i m
     rw[Q7 (by rw[fT oE,XK,e];omega)]
   ·have K:s∈P:=W.mem_iff.1 hx
    exact N s K
  ·rintro z r ⟨L,rfl,rfl,hG⟩
   exact⟨rfl,hG⟩
end Go.Proofs.YtblabbpipmodgaaGreatDoor
namespace Go.aw
open Go
structure bK (w:World) (F:ZN) (cls:Nat->Nat) (C:Nat->World->(ZN)->Prop):Prop where
 at':∀k,C k w (λb=>F b/\cls b=k)
 aE:∀b,F b->b<w.heap.size
def tZ(P:Nat->World->(ZN)->Prop):Prop:=∀a b c G d,P a b G->aj d b c->(∀e,G e->¬d e)->P a c G
section
variable {w w':World} {F T:ZN} {cls:Nat->Nat} {C C2:Nat->World->(ZN)->Prop}
def bK.keep(b:bK w F cls C)(e:tZ C)(c:aj T w w')(f:∀P,F P->¬T P):bK w' F cls C:=
 ⟨λd=>e d w w' _ T (b.at' d) c λP a=>f P a.1,λP a=>Qk (b.aE P a) c.size⟩
def bK.af(P:bK w F cls C)(a:tZ C)(b:ai w w'):bK w' F cls C:=P.keep a b λ_ _ P=>P
def bK.Hc(h:bK w F cls C)(m:tZ C){k:Nat}{G':ZN}(g:aj (λP=>F P/\cls P=k) w w')(n:∀P,G' P->F P->cls P=k)(o:∀P,G' P->P<w'.heap.size)(p:C2 k w' G')(q:∀b G,b≠k->C b w' G->C2 b w' G):∃f c,bK w' f c C2/\aj F w w'/\(∀P,f P->((F P/\cls P≠k)\/G' P))/\(∀b,b≠k->(λP=>f P/\c P=b)=λP=>F P/\cls P=b)/\(λP=>f P/\c P=k)=G':=by
 classical
 have i:∀b,b≠k->(λP=>((F P/\cls P≠k)\/G' P)/\(if G' P then k else cls P)=b)=λP=>F P/\cls P=b:=λb e=>by
  funext P
  refine propext ⟨λa=>?_,λa=>?_⟩
  ·by_cases d:G' P
   ·rw[Zx d]at a;exact Zz a.2.symm e
   ·rw[Zq d]at a
    exact⟨(a.1.resolve_right d).1,a.2⟩
  ·have j:cls P≠k:=λr=>e (a.2.symm.trans r)
   rw[Zq λd=>j (n P d a.1)];exact⟨.inl ⟨a.1,j⟩,a.2⟩
 have l:(λP=>((F P/\cls P≠k)\/G' P)/\(if G' P then k else cls P)=k)=G':=by
  funext P
  refine propext ⟨λa=>?_,λa=>⟨.inr a,Zx a⟩⟩
  by_cases d:G' P
  ·exact d
  ·rw[Zq d]at a;exact Zz a.2 (a.1.resolve_right d).2
 refine⟨λP=>(F P/\cls P≠k)\/G' P,λP=>if G' P then k else cls P,⟨λb=>?_,λP a=>?_⟩,g.mono λP _ a=>a.1,λP a=>a,i,l⟩
 ·by_cases e:b=k
  ·subst e
   rw[l];exact p
  ·rw[i b e]
   refine q b _ e (m b w w' _ _ (h.at' b) g λP a s=>e (a.2.symm.trans s.2))
 ·rcases a with a|a
  ·exact Qk (h.aE P a.1) g.size
  ·exact o P a
def bK.eV(d:bK w F cls C)(i:tZ C){k:Nat}{G':ZN}(j:aj (λP=>F P/\cls P=k) w w')(f:∀P,G' P->(F P/\cls P=k)\/w.heap.size<=P)(l:∀P,G' P->P<w'.heap.size)(e:C2 k w' G')(m:∀b G,b≠k->C b w' G->C2 b w' G):∃c a,bK w' c a C2/\cQ F w c w'/\(∀P,c P->((F P/\cls P≠k)\/G' P))/\(∀b,b≠k->(λP=>c P/\a P=b)=λP=>F P/\cls P=b)/\(λP=>c P/\a P=k)=G':=by
 obtain⟨c,a,g,e,h,n⟩:=d.Hc i j (λP o p=>(f P o).elim (·.2) λg=>by have:=d.aE P p;omega) l e m;exact⟨c,a,g,⟨e,λP q=>(h P q).elim (λd=>.inl d.1) λd=>(f P d).imp (·.1) id⟩,h,n⟩
def bK.same(d:bK w F cls C)(f:tZ C){k:Nat}(e:aj (λP=>F P/\cls P=k) w w')(g:C2 k w' (λP=>F P/\cls P=k))(h:∀a G,a≠k->C a w' G->C2 a w' G):bK w' F cls C2:=
 ⟨λa=>by
  by_cases b:a=k
  ·subst b;exact g
  ·exact h a _ b (f a w w' _ _ (d.at' a) e λP c i=>b (c.2.symm.trans i.2)),λP c=>Qk (d.aE P c) e.size⟩
def bK.Cn(e:bK w F cls C)(f:tZ C){k:Nat}{G':ZN}(d:cQ (λP=>F P/\cls P=k) w G' w')(g:∀P,G' P->P<w'.heap.size)(h:C2 k w' G')(i:∀b G,b≠k->C b w' G->C2 b w' G):∃c a,bK w' c a C2/\cQ F w c w'/\(∀P,c P->((F P/\cls P≠k)\/G' P))/\(∀b,b≠k->(λP=>c P/\a P=b)=λP=>F P/\cls P=b)/\(λP=>c P/\a P=k)=G':=e.eV f d.1 d.2 g h i
def bK.join{G:Nat->ZN}(b:∀P,C P w (G P))(h:∀e f a,G e a->G f a->e=f)(i:∀P a,G P a->a<w.heap.size):∃cls,bK w (λa=>∃P,G P a) cls C:=by
 classical
 refine⟨λa=>if b:∃P,G P a then b.choose else 0,⟨λP=>?_,λa ⟨P,c⟩=>i P a c⟩⟩;have:(λa=>(∃P,G P a)/\(if b:∃P,G P a then b.choose else 0)=P)=G P:=by
  funext a
  refine propext ⟨λ⟨d,g⟩=>?_,λc=>⟨⟨P,c⟩,?_⟩⟩
  ·rw[dif_pos d]at g;exact g▸d.choose_spec
  ·have d:∃P,G P a:=⟨P,c⟩
   rw[dif_pos d];exact h _ _ a d.choose_spec c
 rw[this];exact b P
end
end Go.aw
namespace Go.Proofs.YtblabbpipmodgaaGreatDoor
open Go.aw
def VE:jU Nat:=flat 1 (λa=>[ZL a]) (λ_=>True) (λ_=>rfl) (λb c P=>by simp at P;subst P;rfl)
def OP:jq ZP 217 224 1 8:=⟨kR,kR,dC⟩
structure cH (w:World) (G:ZN) (a:YQ) (n c:Nat) (Rs:List dK):Prop where
 body:∃ps:List (Nat×Nat),ps.length=Rs.length/\aU VE 224 (λb=>aH a=some b) w a n c (ps.map (·.1))/\
  (∀(i j:Nat) (x y:Nat×Nat),ps[i]? =some x->ps[j]? =some y->x.1≠y.2/\(x.2=y.2->i=j))/\(∀x∈ps,G x.1/\G x.2/\aH a≠some x.1/\aH a≠some x.2)/\
  ∀(i:Nat) (x:Nat×Nat) (R:dK),ps[i]? =some x->Rs[i]? =some R->kU w x.1 x.2 R
 self:∀b,aH a=some b->G b
variable{C:Nat×Nat}{h:Program}{m t:ZR}
section
variable {w w':World} {G G' T:ZN} {a:YQ} {n c:Nat} {Rs:List dK}
def cH.keep(b:cH w G a n c Rs)(h:aj T w w')(d:∀P,G P->¬T P):cH w' G a n c Rs:=by
 obtain⟨i,j,k,l,e,m⟩:=b.body;exact⟨⟨i,j,k.keep h λP o=>d P (b.self P o),l,e,λp f q g r=>(m p f q g r).keep h (d _ (e f (QZ g)).1) (d _ (e f (QZ g)).2.1)⟩,b.self⟩
def cH.af(P:cH w G a n c Rs)(b:ai w w'):cH w' G a n c Rs:=P.keep b λ_ _ P=>P
def cH.mono(g:cH w G a n c Rs)(b:∀P,G P->G' P):cH w G' a n c Rs:=by
 obtain⟨h,i,j,k,d,l⟩:=g.body;exact⟨⟨h,i,j,k,λe f=>⟨b _ (d e f).1,b _ (d e f).2.1,(d e f).2.2⟩,l⟩,λP m=>b P (g.self P m)⟩
def cH.len(P:cH w G a n c Rs):n=Rs.length:=by
 obtain⟨e,b,d,-⟩:=P.body;rw[d.len dC,Q8,b]
def cH.nil(w:World):cH w (λ_=>False) none 0 0 []:=⟨⟨[],rfl,(aU.nil w).mono (λa P=>P.elim) (λa P=>by cases P),sM,sM,sM⟩,λa P=>by cases P⟩
def cH.elem(m:cH w G a n c Rs){P:Nat}{o:dK}(u:Rs[P]? =some o):∃f e g,a=ZM f/\w.cell? ⟨f,0+P,none⟩=some (ZL e)/\kU w e g o/\e≠g/\G e/\G g/\G f/\
  ∀w' p,aj (·=g) w w'->kU w' e g p->cH w' G a n c (Rs.set P p):=by
 obtain⟨h,B,v,j,x,y⟩:=m.body;have L:=(Qv.1 u).1;have b:h[P]? =some h[P]:=Qq oM;generalize h[P]=d at b;obtain⟨cs,D,C,E,M⟩:=v.body;have q:=x d (QZ b);obtain⟨rfl,-⟩:=ns.1 E;have F:((h.map (·.1)).flatMap λe=>[Value.pointer (ZM e)])[P]? =some (ZL d.1):=by
  rw[ko (K:=1) dC (λ_=>rfl) bc,Nat.div_one,Nat.mod_one,getElem!_pos _ P bc];simp[(Qv.1 b).2]
 obtain⟨f,z,H⟩:=C.cell F;refine⟨f,d.1,d.2,z,by rw[Xz];exact H.2,y P d o b u,(j P P d d b b).1,q.1,q.2.1,m.self f (by rw[z];rfl),λw' p A I=>⟨⟨h,by simpa using B,v.keep A λN J r=>q.2.2.2 (r▸J),j,x,λk s K i l=>?_⟩,m.self⟩⟩
 by_cases t:P=k
 ·subst t
  rw[b]at i;cases i
  rw[List.getElem?_set_self oM]at l;cases l
  exact I
 ·rw[List.getElem?_set_ne t]at l
  exact(y k s K i l).keep A (j k P s d i b).1 λr=>t ((j P k d s b i).2 r.symm)
def cH.push{H W:TypeId}(p:cH w G a n c Rs)(I:∀P,G P->P<w.heap.size){e f M:Nat}{N:dK}(J:kU w e f N)(O:¬G e)(u:¬G f)(X:e≠f)(Y:jq h H 224 1 8)(Z:w.heap[M]? =some (.cells #[ZL e] 224 C))(b:Rs.length<=1000)(K:∀j v w' G',cH w' G' j (n+1) v (Rs++[N])->aj G w w'->(∀P,G' P->G P\/P=e\/P=f\/w.heap.size<=P)->(∀P,G' P->P<w'.heap.size)->m (.slice j (n+1) v) w'):
  aG h (Builtin.append_ #[H,H] W #[.slice a n c,.slice (ZM M) 1 1]) w m t:=by
 obtain⟨k,l,L,h3,y,h5⟩:=p.body;have a1:e<w.heap.size:=aA J.at';have a2:f<w.heap.size:=J.map.lt;refine eJ L Y Z (D:=λ_=>False) (x:=e) ⟨rfl,trivial⟩ (λP b=>b.elim) (by unfold aO;simp;omega) (by unfold maxLen;simp;omega) λj v w' F' Q z hF=>?_;have a0:∀P,aH j=some P->aH a=some P\/w.heap.size<=P:=λP b=>(hF P (Q.self P b)).imp id λp=>p.resolve_left id;have q:=Q.alone;have a5:=z.size;have R:∀P,aH j=some P->aH a=some P\/w.heap.size<=P:=a0;have A:∀P,P<w.heap.size->aH a≠some P->aH j≠some P:=λP b l L=>(R P L).elim l oM;have S:aH a≠some e:=λi=>O (p.self e i);have T:aH a≠some f:=λi=>u (p.self f i);refine K j v w' (λP=>(G P\/P=e\/P=f\/aH j=some P)) ⟨⟨k++[(e,f)],by simp[l],by rw[Q3];exact q,λg U x r B F=>?_,λx B=>?_,λg x a3 B o=>?_⟩,λP b=>.inr (.inr (.inr b))⟩ (z.mono λP _ b=>p.self P b) (λP b=>?_) λP b=>?_
 ·have E:∀g x,(k++[(e,f)])[g]? =some x->(k[g]? =some x)\/(g=k.length/\x=(e,f)):=λg x B=>by
   rw[List.getElem?_append]at B;split at B
   ·exact .inl B
   ·rename_i V
    have:g-k.length=0:=by
     rcases Nat.eq_zero_or_pos (g-k.length)with s|s
     ·exact s
     ·rw[Q7 bc]at B;cases B
    rw[this]at B;simp at B;exact .inr ⟨oM,B.symm⟩
  rcases E g x B with B|⟨rfl,rfl⟩<;>rcases E U r F with F|⟨rfl,rfl⟩
  ·exact h3 g U x r B F
  ·have d:=y x (QZ B)
   exact⟨λi=>u ((show x.1=f from i)▸d.1),λi=>Zz ((show x.2=f from i)▸d.2.1) u⟩
  ·have d:=y r (QZ F)
   exact⟨λi=>O ((show e=r.2 from i)▸d.2.1),λi=>Zz ((show f=r.2 from i)▸d.2.1) u⟩
  ·exact⟨X,λ_=>rfl⟩
 ·rcases Q6.1 B with B|B
  ·have d:=y x B
   exact⟨.inl d.1,.inl d.2.1,A _ (I _ d.1) d.2.2.1,A _ (I _ d.2.1) d.2.2.2⟩
  ·simp at B;subst B
   exact⟨.inr (.inl rfl),.inr (.inr (.inl rfl)),A _ a1 S,A _ a2 T⟩
 ·rw[List.getElem?_append]at B o
  rw[<-l]at o;split at B
  ·rename_i a4
   rw[Zx a4]at o;have d:=y x (QZ B);exact(h5 g x a3 B o).keep z d.2.2.1 d.2.2.2
  ·rename_i V
   rw[Zq V]at o;have:g-k.length=0:=by
    rcases Nat.eq_zero_or_pos (g-k.length)with s|s
    ·exact s
    ·rw[Q7 bc]at B;cases B
   rw[this]at B o;simp at B o;subst B o;exact J.keep z S T
 ·rcases b with b|b|b|b
  ·exact .inl b
  ·exact .inr (.inl b)
  ·exact .inr (.inr (.inl b))
  ·rcases R P b with l|l
   ·exact .inl (p.self P l)
   ·exact .inr (.inr (.inr l))
 ·rcases b with b|b|b|b
  ·have:=I P b;omega
  ·omega
  ·omega
  ·exact q.aE P b
def Xm:jU (List dK) where
 k:=2
 rep:=λw D Rs cs=>∃P a n c,cs=[.pointer P,.slice a n c]/\cH w D a n c Rs
 keep:=λ⟨P,a,n,c,b,d⟩ g e=>⟨P,a,n,c,b,d.keep g e⟩
 mono:=λ⟨P,a,n,c,b,d⟩ e=>⟨P,a,n,c,b,d.mono e⟩
 len:=λ⟨P,a,n,c,b,d⟩=>by rw[b];rfl
 one:=λ⟨P,a,n,c,b,d⟩ h f=>by
  rw[b]at f;simp only[Q2,List.not_mem_nil,or_false]at f;rcases f with rfl|rfl<;>rfl
def UZ:jq ZP 220 219 2 32:=⟨kR,kR,dC⟩
end
def JA(P:aS)(a:List ah)(b:ah):et P (a++[b])=(et P a).add b:=by unfold et;rw[List.foldl_append];rfl
def JC(P:aS)(a:List ah)(b:ah):cD P (a++[b])=((cD P a).add b).2:=by unfold cD;rw[List.foldl_append];rfl
def JB(b:aS)(P:List ah):(et b P).view=cD b P:=by
 have:∀(P:List ah) (a:jT),(P.foldl jT.add a).view=P.foldl (λd c=>(d.add c).2) a.view:=by
  intro P
  induction P with
  |nil=>intro a;rfl
  |cons c P e=>intro a;rw[List.foldl_cons,List.foldl_cons,e];rfl
 exact this P _
variable{p:Array Value}{B:List ah}{g3:List dK}{a c:Nat}{b:World}{L:aS}{d5:bg}{d6:jo}
def Hi(d:dy L=0)(a:List ah):(cD L a).OK/\(cD L a).decl=L:=by
 have:∀(a:List ah) (P:bg),P.OK->(a.foldl (λP b=>(P.add b).2) P).OK/\(a.foldl (λP b=>(P.add b).2) P).decl=P.decl:=by
  intro a
  induction a with
  |nil=>intro P c;exact⟨c,rfl⟩
  |cons b a e=>
   intro P c;obtain⟨f,g⟩:=bg.zN c b;obtain⟨h,i⟩:=e _ f;exact⟨h,i.trans g⟩
 exact this a _ (bg.sQ d)
def dK.U_(a:dK)(b:cR)(P:Int):(a.add b P).p=a.p:=by
 unfold dK.add;dsimp only;split
 ·rfl
 ·split<;>rfl
def Hb(d:aS)(P:List ah):(et d P).rows.map (·.p)=d.projs:=by
 have:∀(P:List ah) (a:jT),(P.foldl jT.add a).rows.map (·.p)=a.rows.map (·.p):=by
  intro P
  induction P with
  |nil=>intro a;rfl
  |cons b P e=>
   intro a;rw[List.foldl_cons,e];show((a.rows.map λc=>c.add (a.view.add b).1 (se ((a.view.add b).2.state b.aY b.agg) c.p)).map (·.p))=_;rw[List.map_map];exact List.map_congr_left λc _=>c.U_ _ _
 refine(this P _).trans ?_;show(d.projs.map λf=>(⟨f,[]⟩:dK)).map (·.p)=_;rw[List.map_map];exact List.map_id _
def pI(P:aS)(a:List ah):(et P a).rows.length=P.projs.length:=by
 rw[<-Hb P a,Q8]
def jZ(b:aS)(P:Nat)(a:List ah):List (List dK):=(List.range (a.length/P+1)).map λc=>(et b (a.take (c*P))).rows
section
variable {d:aS} {every:Nat} {l:List ah}
def zK:(jZ d every l).length=l.length/every+1:=by simp[jZ]
def OU(P:a<=l.length/every):(jZ d every l)[a]? =some (et d (l.take (a*every))).rows:=by
 unfold jZ;rw[Q9,List.getElem?_range oM];rfl
def OX:jZ d every []=[(et d []).rows]:=by
 unfold jZ;rw[ZQ,Nat.zero_div];simp
def MP(e:0<every)(f:ah):jZ d every (l++[f])=if l.length+1=(l.length/every+1)*every then jZ d every l++[(et d (l++[f])).rows]else jZ d every l:=by
 have h:=Nat.div_add_mod l.length every;have i:=Nat.mod_lt l.length e;have a:∀P,P<=l.length/every->(l++[f]).take (P*every)=l.take (P*every):=λP b=>by
  have:P*every<=l.length:=Xx (Q0 _ b) (Nat.div_mul_le_self ..);rw[List.take_append_of_le_length this]
 split
 ·rename_i c
  have g:(l.length+1)/every=l.length/every+1:=by rw[c];exact Nat.mul_div_cancel _ e
  unfold jZ;rw[QX,List.length_singleton,g,List.range_succ,Q3]
  congr 1
  ·refine List.map_congr_left λP b=>?_
   rw[a P (by have:=List.mem_range.1 b;omega)]
  ·rw[List.map_singleton,<-c,Qz sM]
 ·rename_i c
  have g:(l.length+1)/every=l.length/every:=by
   have j:(l.length+1)/every<l.length/every+1:=by
    rw[Nat.div_lt_iff_lt_mul e];rw[X7,Nat.one_mul,Nat.mul_comm]at c⊢;omega
   have k:l.length/every<=(l.length+1)/every:=Nat.div_le_div_right oM;omega
  unfold jZ;rw[QX,List.length_singleton,g];refine List.map_congr_left λP b=>?_;rw[a P (by have:=List.mem_range.1 b;omega)]
def MS(b:0<every)(c:a<=l.length/every):(jZ d every l).take (a+1)=jZ d every (l.take (a*every)):=by
 have e:a*every<=l.length:=Xx (Q0 _ c) (Nat.div_mul_le_self ..);unfold jZ;rw[Qy,X2 e,Nat.mul_div_cancel _ b,<-List.map_take,List.take_range,X2 oM];refine List.map_congr_left λf g=>?_;have P:f<=a:=by have:=List.mem_range.1 g;omega
 rw[List.take_take,X2 (Q0 _ P)]
end
structure vR where
 ta:YQ
 tn:Nat
 tc:Nat
 pa:YQ
 pn:Nat
 pc:Nat
 every:Nat
 ea:YQ
 en:Nat
 ec:Nat
 vp:Nat
 ra:YQ
 rn:Nat
 rc:Nat
 qa:YQ
 qn:Nat
 qc:Nat
abbrev vR.cells(P:vR):Array Value:= #[.slice P.ta P.tn P.tc,.slice P.pa P.pn P.pc,ZH (P.every:Int),.slice P.ea P.en P.ec,ZL P.vp,.slice P.ra P.rn P.rc,.slice P.qa P.qn P.qc]
def zH(c:Nat)(d:Array Value)(P:vR)(e:aS)(f:bg)(g:List dK)(h:List ah)(b:List (List dK)):Nat->World->(ZN)->Prop
 |0=>λa G=>G c/\a.heap[c]? =some (.cells d 222 (0,0))
 |1=>λa G=>bj a G e P.ta P.tn P.pa P.pn
 |2=>λa G=>aU ia 55 G a P.ea P.en P.ec h
 |3=>λa G=>cG a P.vp G f
 |4=>λa G=>cH a G P.ra P.rn P.rc g
 |5=>λa G=>aU Xm 219 G a P.qa P.qn P.qc b
 |_=>λ_ _=>True
def dQ{e:vR}{d:List (List dK)}:tZ (zH a p e L d5 g3 B d):=by
 intro k f w' G g P b c
 match k,P with
 |0,P=>exact⟨P.1,b.get P.2 (c a P.1)⟩
 |1,P=>exact bj.keep P b c
 |2,P=>exact aU.keep P b c
 |3,P=>exact cG.keep P b c
 |4,P=>exact cH.keep P b c
 |5,P=>exact aU.keep P b c
 |k+6,P=>trivial
abbrev ej(c:World)(d:ZN)(P:Nat->Nat)(e:Nat)(b:vR)(f:aS)(g:bg)(h:List dK)(i:List ah)(a:List (List dK)):Prop:=bK c d P (zH e b.cells b f g h i a)
section
variable {w w':World} {p:Nat} {F T D:ZN} {cls:Nat->Nat} {q:vR} {d:aS} {V:bg} {Rs:List dK} {l:List ah} {pts:List (List dK)}
def ej.af(P:ej w F cls p q d V Rs l pts)(a:ai w w'):ej w' F cls p q d V Rs l pts:=bK.af P dQ a
def ej.bw(P:ej w F cls p q d V Rs l pts):w.heap[p]? =some (.cells q.cells 222 (0,0)):=(P.at' 0).2
def ej.self(P:ej w F cls p q d V Rs l pts):F p/\cls p=0:=(P.at' 0).1
def Dy(s:ej w F cls p q d V Rs l pts)(hd:dy d=0)(hT:eX w)(hl:l.length<=20000000){vp:YQ}{y:YQ}(hr:cH w D y a c g3)(hD:∀P,D P->P<w.heap.size)(hn:g3.length<=8):
  YX 180 #[ZL p,.agg #[.pointer vp,.slice y a c]] w (Ok λT w'=>∃h y a c f G,T= .agg #[ZL h,.slice y a c]/\cG w' h f (cD d l)/\cH w' G y a c g3/\(∀P,f P->w.heap.size<=P)/\(∀P,G P->w.heap.size<=P/\P<w'.heap.size/\¬f P)/\ai w w'):=by
 have U:=s.aE;have g4:=hr.len;refine sL (PA.mk λt k5 s5 g5=>PA.mk λz k6 s6 g6=>?_);have A:=k5.then k6;have c0:∀{j:World},ai w j->Row ia 96 j (λP=>F P/\cls P=2) q.ea q.en l:=λ{j} u=>((show aU ia 55 (λP=>F P/\cls P=2) w q.ea q.en q.ec l from s.at' 2).af u).row dC ba;have n:∀{j:World},ai w j->YX 40 #[.agg #[.slice q.ta q.tn q.tc,.slice q.pa q.pn q.pc],.slice q.ea q.en q.ec] j (Ok λT w'=>∃p F,T= ZL p/\cG w' p F (cD d l)/\(∀P,F P->j.heap.size<=P)/\ai j w'):=λ{j} u=>
  GX hd (hT.af u) (show bj j (λP=>F P/\cls P=1) d q.ta q.tn q.pa q.pn from bj.keep (s.at' 1) u λ_ _ s=>s) (λP b=>by have:=U P b.1;have:=u.size;omega) (c0 u) (λP b=>by have:=U P b.1;have:=u.size;omega) hl
 refine⟨λi oo w'=>oo=0/\∃h f,w'.heap[i]? =some (.cells #[ZL h,.slice none 0 0] 219 (0,0))/\cG w' h f (cD d l)/\(∀P,f P->z.heap.size<=P)/\¬f i/\z.heap.size<=i/\ai z w',?_,?_⟩
 ·intro o d9
  have v:ai z o:=d9.keep;have s9:o.heap.size=z.heap.size:=by rw[d9.heap]
  have W:=(s.af (A.then v)).bw;have zp:=U p s.self.1;have nS:¬o.heap.size<=p:=by have:=(A.then v).size;omega
  refine⟨λP=>o.heap.size<=P,p,0,rfl,nS,_,_,_,_,_,_,ae W rfl,ae W rfl,p,0,rfl,nS,_,_,_,ae W rfl,PC.ok (n (A.then v)) ?_,PA.mk λg7 X g8 d2=>⟨ai.keep X,PC.ok (n ((A.then v).then X)) ?_⟩⟩
  ·rintro _ J ⟨h,f,rfl,r,B,Y⟩
   refine⟨_,rfl,ai.keep Y,PA.mk λd3 Z g9 d4=>⟨ai.keep Z,PS.mk d4 sM λh0 d5 h2 d6=>PS.mk d6 sM λd7 d8 h3 e0=>?_⟩⟩;have C:=r.aE;have h4:=Y.size;have g:aj (λP=>P=J.heap.size) d3 d7:=d5.then d8;refine⟨g.mono λP _ e=>by have e:P=J.heap.size:=e;omega,rfl,h,f,e0,(r.af Z).keep g λP b e=>by have e:P=J.heap.size:=e;have:=C P b;omega,λP b=>by have:=B P b;omega,λb=>by have:=C _ b;omega,oM,((v.then Y).then Z).new g λP b=>.inr (by have b:P=J.heap.size:=b;omega)⟩
  ·rintro _ e1 ⟨h,f,rfl,r,B,K⟩
   have e2:=K.get d2 id;have C:=r.aE;have h5:=K.size;refine⟨_,rfl,ai.keep K,PS.mk e2 sM λh6 e3 h7 e4=>PS.mk e4 sM λe5 e6 h8 e7=>?_⟩;have g:aj (λP=>P=o.heap.size) e1 e5:=e3.then e6;refine⟨g.mono λP _ e=>by have e:P=o.heap.size:=e;omega,rfl,h,f,e7,r.keep g λP b e=>by have e:P=o.heap.size:=e;have:=B P b;omega,λP b=>by have:=B P b;omega,λb=>by have:=B _ b;omega,oM,((v.then X).then K).new g λP b=>.inr (by have b:P=o.heap.size:=b;omega)⟩
 rintro i _ _ L ⟨rfl,h,f,E,r,c1,e8,c2,M⟩;have a5:=A.then M;have h9:=M.size;have a3:i<L.heap.size:=aA E;have C:=r.aE;have c4:=M.get (k6.get g5 id) id;have c5:=M.get g6 id;refine⟨_,_,_,ae c4 rfl,λa2 a4 w'=>∃k:Nat,a4=k/\k<=a/\a2=a-k/\∃N H O G,w'.heap[i]? =some (.cells #[ZL h,.slice N H O] 219 (0,0))/\cH w' G N H O (g3.take k)/\(∀P,G P->L.heap.size<=P/\P<w'.heap.size)/\aj (·=i) L w',
  ⟨_,0,rfl,Qj _,rfl,none,0,0,λ_=>False,E,cH.nil _,λP b=>b.elim,aj.refl _⟩,?_⟩
 rintro a2 _ _ I ⟨k,rfl,hj,rfl,N,H,O,G,Q,R,m,x⟩;have i0:=x.size;refine al.dec (λi1=>?_) (λi2=>?_)
 ·have e9:k<g3.length:=oM
  have hx:g3[k]? =some g3[k]:=Qq e9;generalize g3[k]=f0 at hx;obtain⟨a7,pj,rj,ha,a0,hR,a8,a9,b0,-,-⟩:=((hr.af a5).keep x λP b e=>by have e:P=i:=e;have:=hD P b;omega).elem hx;have f2:=R.len;rw[Qy,X2 oM]at f2;refine⟨a7,0,ha,oM,oM,_,by rw[Qx];exact a0,λc6 c7=>⟨λ_=>False,id,?_⟩⟩;have b2:ai I c6:=c7.keep;have i3:c6.heap.size=I.heap.size:=by rw[c7.heap]
  refine⟨_,_,_,ae (b2.get Q id) rfl,PC.ok (MO (hR.af b2)) ?_⟩;rintro _ i4 ⟨p',r',rfl,f3,f4,i5,i6,i7,i8,b3⟩;have i9:=b3.size;refine⟨_,rfl,b3,PA.mk λj0 b4 j1 f5=>⟨b4,?_⟩⟩;have a1:=(b2.then b3).then b4;refine(R.af a1).push (λP b=>by have:=(m P b).2;omega) (f3.af b4) (λb=>by have:=(m _ b).2;omega) (λb=>by have:=(m _ b).2;omega) f4 OP f5 (by rw[Qy];omega) λb1 c3 j2 G3 f6 b5 g0 c8=>⟨_,_,_,rfl,?_⟩
  have j3:=b5.size;have b6:=b5.get (a1.get Q id) λb=>by have:=(m _ b).1;omega
  have a6:∀P,G3 P->L.heap.size<=P:=λP b=>by
   rcases g0 P b with S|S|S|S
   ·exact(m P S).1
   ·omega
   ·omega
   ·omega
  refine PS.mk b6 sM λj4 c9 j5 g1=>⟨_,oM,k+1,an oM,oM,rfl,b1,H+1,c3,G3,g1,?_,λP b=>⟨a6 P b,by have:=c8 P b;omega⟩,?_⟩
  ·rw[Qw,hx]
   exact f6.keep c9 λP b e=>by have e:P=i:=e;have:=a6 P b;omega
  ·exact((x.af a1).new b5 λP b=>.inr (m P b).1).then c9
 ·rw[Qz oM]at R
  have d0:=x.get c5 λe=>by have e:t.heap.size=i:=e;omega
  refine⟨_,_,_,_,ae Q rfl,ae Q rfl,PS.mk d0 sM λj6 b7 j7 g2=>PS.mk g2 sM λb8 b9 j8 d1=>⟨_,_,_,_,ae d1 rfl,ae d1 rfl,Ok.mk ⟨h,N,H,O,f,G,rfl,?_,?_,λP b=>by have:=c1 P b;omega,λP b=>⟨?_,?_,?_⟩,?_⟩⟩⟩
  ·have g:aj (λP=>P=t.heap.size) I b8:=b7.then b9
   exact(r.keep x λP b e=>e8 ((show P=i from e)▸b)).keep g λP b e=>by have e:P=t.heap.size:=e;have:=c1 P b;omega
  ·have g:aj (λP=>P=t.heap.size) I b8:=b7.then b9
   exact R.keep g λP b e=>by have e:P=t.heap.size:=e;have:=m P b;omega
  ·have:=m P b;omega
  ·have:=m P b;omega
  ·intro hf;have:=m P b;have:=C P hf;omega
  ·have g:aj (λP=>P=t.heap.size) I b8:=b7.then b9
   exact(a5.new x λP b=>.inr (by have b:P=i:=b;omega)).new g λP b=>.inr (by have b:P=t.heap.size:=b;omega)
end
section
variable {w w':World} {p:Nat} {F T D:ZN} {cls:Nat->Nat} {q:vR} {d:aS} {V:bg} {Rs:List dK} {l:List ah} {pts:List (List dK)}
def Cp{d:ah}{e:YQ}{w:World}{D:ZN}(i:Row aM 8 w D e a d.aJ)(s:∀P,D P->P<w.heap.size):
  YX 202 #[jS d e a c] w (Ok λt w'=>∃e a c G,t=jS d e a c/\Row aM 8 w' G e a d.aJ/\(∀P,G P->w.heap.size<=P/\P<w'.heap.size)/\ai w w'):=by
 have u:=i.dO;have v:=i.len;refine yk (PA.mk λz m A f=>PA.mk λB g C j=>⟨_,_,_,ae (g.get f id) rfl,PC.ok (ck (i.af (m.then g)) λP b=>by have:=s P b;omega) ?_⟩);rintro _ E ⟨n,o,p,G,rfl,q,h,k⟩;have f:=h.get (g.get f id) id;have j:=h.get j id;refine⟨_,_,_,rfl,PS.mk f (by simp[aD]) λF l H x=>?_⟩;refine ar (cs:=aD d n o p) (bf _ _ _ _) x (aC (bf _ _ _ _) (l.get j oM) rfl λI r J y=>ar (bf _ _ _ _) y (Ok.mk ⟨n,o,p,G,rfl,?_,?_,?_⟩))
 ·refine(((q.keep l λP b=>?_).keep r λP b=>?_).row (bytes:=8) dC (by rw[<-v];exact u))
  ·have:=k P b;omega
  ·have:=k P b;omega
 ·intro P b
  have:=k P b;have:=q.aE P b;omega
 ·have K:=h.size
  exact((aj.new ((m.then g).then h) l λP b=>.inr oM).new r λP b=>.inr oM)
def ej.store{a:vR}{b:Array Value}(P:bK w F cls (zH p q.cells a d V Rs l pts))(e:aj (·=p) w w')(f:w'.heap[p]? =some (.cells b 222 (0,0))):bK w' F cls (zH p b a d V Rs l pts):=by
 refine bK.same P dQ (k:=0) (e.mono λj _ g=>g▸(P.at' 0).1) ⟨(P.at' 0).1,f⟩ λc G h i=>?_;rcases c with _|_|_|_|_|_|c<;>first|exact i|exact Zz rfl h
def Dz(a:ej w F cls p q d V Rs l pts)(I:dy d=0)(J:eX w)(K:l.length<=20000000)(L:Rs.length<=8)(b2:pts.length*q.every<9223372036854775808)(b3:pts.length<=20000001):
  YX 134 #[ZL p] w (Ok λM w'=>M= .tuple #[]/\∃t u f,ej w' u f p t d V Rs l (if l.length=pts.length*q.every then pts++[Rs]else pts)/\t.every=q.every/\cQ F w u w'):=by
 have j:=a.bw;have N:=aU.len (a.at' 2) dC;have O:=aU.len (a.at' 5) dC;have Q:=a.aE;have R:IntKind.wrap .i64 (((q.qn:Nat):Int)*(q.every:Int))=((pts.length*q.every:Nat):Int):=by
  rw[O,show((pts.length:Nat):Int)*(q.every:Int)=((pts.length*q.every:Nat):Int) by push_cast;rfl,wrap_i64 bb]
 refine sN ⟨p,0,rfl,_,_,_,ae j rfl,p,0,rfl,_,_,_,ae j rfl,p,0,rfl,_,ae j rfl,λS T=>?_⟩;rw[R,N];have k:ai w S:=T.keep;refine al.eD (λb4=>?_) (λb5=>Ok.mk ⟨rfl,q,F,cls,?_,rfl,ai.keep k,λP b=>.inl b⟩)
 rotate_left
 ·rw[Zq oM];exact ej.af a k
 rw[Zx oM];intro v U;have i:ai w v:=k.then U.keep;have e:=ej.af a i;have m:=e.bw;refine⟨λ_=>False,p,0,rfl,id,_,_,_,ae m rfl,p,0,rfl,_,_,_,_,ae m rfl,ae m rfl,PC.ok (Dy e I (J.af i) K (e.at' 4) (λP b=>e.aE P b.1) L) ?_⟩;rintro _ b6 ⟨b7,a3,n2,c2,Fv,G,rfl,-,W,-,n,o⟩;refine⟨_,_,_,_,rfl,o,PA.mk λb8 r b9 X=>⟨r,?_⟩⟩;have x:=o.then r;have Y:=ej.af e x;have c0:=i.size;have c1:=o.size;have s:∀P,aH q.qa=some P->F P/\cls P=5:=λP b=>aU.self (a.at' 5) P b;refine eJ (c:=Xm) (x:=Rs) (Y.at' 5) UZ X (D:=G) ⟨_,_,_,_,rfl,W.af r⟩ (λP b=>⟨by have:=(n P b).2.1;omega,λg=>by have:=Q P (s P g).1;have:=(n P b).1;omega⟩) ba (by unfold maxLen;omega) λy c Z F2 z A b0=>⟨_,_,_,rfl,p,0,rfl,?_⟩
 have a0:¬aH q.qa=some p:=λg=>by have h:=(s p g).2;rw[a.self.2]at h;cases h
 have c3:=A.size;have a1:aj (λP=>F P/\cls P=5) v Z:=(ai.keep x).then (A.mono λP _ b=>s P b);obtain⟨F3,a2,B,C,-,-⟩:=e.eV dQ (k:=5) (G':=F2) (C2:=zH p q.cells {q with qa:=y,qn:=q.qn+1,qc:=c} d V Rs l (pts++[Rs])) a1
  (λP b=>(b0 P b).imp id λa=>a.elim (λa=>(n P a).1) λa=>oM) z.aE z λE G hj hc=>by
   rcases E with _|_|_|_|_|_|E<;>first|exact hc|exact Zz rfl hj
 refine PS.mk (B.at' 0).2 sM λc4 H c5 b1=>Ok.mk ⟨rfl,{q with qa:=y,qn:=q.qn+1,qc:=c},F3,a2,ej.store B H b1,rfl,?_,λP b=>?_⟩
 ·refine((ai.keep i).then C.keep).then (H.mono λP _ g=>g▸a.self.1)
 ·rcases C.new P b with h|h
  ·exact .inl h
  ·exact .inr oM
end
section
variable {w w':World} {p:Nat} {F T D:ZN} {cls:Nat->Nat} {q:vR} {d:aS} {V:bg} {Rs:List dK} {l:List ah} {pts:List (List dK)}
def pG(V:bg)(P:ah)(Rs:List dK):List dK:=Rs.map λa=>a.add (V.add P).1 (se ((V.add P).2.state P.aY P.agg) a.p)
def RH{d:aS}(c:dy d=0)(e:d6∈d.projs):0<=d6.EN:=by
 have a:=(mu c).2.2 d6 e;unfold lL at a;split at a
 ·cases a
 split at a
 ·cases a
 rename_i P
 by_cases b:d6.group=3
 ·rw[b]at P
  simp only[BEq.rfl,Bool.true_and,bne_self_eq_false,Bool.false_and,Bool.or_false,Bool.not_eq_true,Bool.not_eq_false']at P;unfold RC within at P;simp only[QK,Zk]at P;exact P.1.1
 ·have f:(d6.group==3)=false:=by simpa using b
  have g:(d6.group !=3)=true:=by simpa using b
  rw[f,g]at P;simp at P;omega
def DA{V:bg}(a:V.OK)(P:ah):((V.state P.aY P.agg).getD GS).cells.length<=8:=by
 have b:=a.len P;have c:=(zI (mu a.decl).1).2.2.2;have h:(V.decl.at P.aY).length<=8:=by
  unfold aS.at;split
  ·rw[QQ]
   cases d:V.decl.types[P.aY.toNat]? with
   |none=>simp
   |some e=>exact(c e (QZ d)).2
  ·simp
 unfold bg.cellsOf at b;unfold bg.state
 cases f:aq V.eL (P.aY,P.agg)with
 |none=>simp
 |some g=>simp only[f]at b;show g.cells.length<=8;omega
def Wg(w P:World)(p:Nat)(F:ZN)(q:vR)(d:aS)(V:bg)(Rs:List dK)(l:List ah)(pts:List (List dK))(e:ah)(a f:Nat)(w':World):Prop:=
 f=0/\∃g h i b j,w'.heap[a]? =some (.cells (ic (V.add e).1 g h i).toArray 160 (0,0))/\ej w' b j p q d (V.add e).2 Rs l pts/\(∀c,b c->F c\/P.heap.size<=c)/\aj F P w'/\P.heap.size<=a/\¬b a
def OQ(u:ej w F cls p q d V Rs l pts)(hd:dy d=0)(hT:eX b)(g0:ai b w)(g3:∀P,F P->b.heap.size<=P)(hl:l.length+1<=20000000)(k4:V.entries.length<=20000000)(g4:Rs.map (·.p)=d.projs)(k5:pts.length*q.every<9223372036854775808)(k6:pts.length<=20000001){f:ah}{I:YQ}(k7:((aq V.done (f.aY,f.agg,f.field)).getD []).length<=20000000)(hr:Row aM 8 w D I a f.aJ)(R:∀P,D P->P<w.heap.size/\¬F P)(he:f.Ok):
  YX 144 #[ZL p,jS f I a c] w (Ok λa5 w'=>a5= .tuple #[]/\∃q' S a0,ej w' S a0 p q' d (V.add f).2 (pG V f Rs) (l++[f]) (if l.length+1=pts.length*q.every then pts++[pG V f Rs]else pts)/\q'.every=q.every/\cQ F w S w'):=by
 have T:=u.aE;have q7:=T p u.self.1;have q8:Rs.length=d.projs.length:=by rw[<-g4,Q8]
 have q9:d.projs.length<=8:=(zI (mu hd).1).2.2.1;refine t_ (PA.mk λe0 b8 r0 g5=>?_);have k8:=ej.af u b8;refine⟨Wg w e0 p F q d V Rs l pts f,?_,?_⟩
 ·intro r g6
  have a6:ai e0 r:=g6.keep;have r3:r.heap.size=e0.heap.size:=by rw[g6.heap]
  have e1:=ej.af k8 a6;have a7:=b8.then a6;have g7:=e1.bw;have a1:∀{o:World},ai r o->YX 79 #[ZL q.vp,jS f I a c] o (Ok λa5 w'=>∃I a c G,a5=EO (V.add f).1 I a c/\Row aM 8 w' G I a f.aJ/\∃S,cG w' q.vp S (V.add f).2/\cQ (λP=>F P/\cls P=3) o S w'/\∀P,G P->o.heap.size<=P/\P<w'.heap.size/\¬S P):=λ{o} U=>
   GY (show cG o q.vp (λP=>F P/\cls P=3) V from(ej.af e1 U).at' 3) (hT.af (g0.then (a7.then U))) (hr.af (a7.then U)) (λP e=>⟨by have:=(R P e).1;have:=(a7.then U).size;omega,λi=>(R P e).2 i.1⟩) he k7 k4
  have eV:∀{o w2:World} {s:ZN},ai r o->cG w2 q.vp s (V.add f).2->cQ (λP=>F P/\cls P=3) o s w2->∃j m,ej w2 j m p q d (V.add f).2 Rs l pts/\(∀P,j P->F P\/s P)/\(∀P,j P->F P\/o.heap.size<=P)/\aj F o w2:=λ{o w2 s} U W v=>by
   obtain⟨j,m,X,J,n,-⟩:=(ej.af e1 U).Cn dQ (k:=3) (G':=s) (C2:=zH p q.cells q d (V.add f).2 Rs l pts) v W.aE W λg G Y hc=>by
    rcases g with _|_|_|_|_|_|g<;>first|exact hc|exact Zz rfl Y
   exact⟨j,m,X,λP e=>(n P e).imp (·.1) id,J.new,J.keep⟩
  have nS:¬((F p/\cls p=3)\/r.heap.size<=p):=by
   rintro(⟨-,h⟩|h)
   ·rw[u.self.2]at h;cases h
   ·omega
  have b9:¬((F w.heap.size/\cls w.heap.size=3)\/r.heap.size<=w.heap.size):=by
   rintro(⟨h,-⟩|h)
   ·have:=T _ h;omega
   ·omega
  refine⟨λP=>(F P/\cls P=3)\/r.heap.size<=P,p,0,rfl,nS,_,ae g7 rfl,b9,ar (bf f I a c) (a6.get g5 id) ⟨PC.ok (a1 (aj.refl _)) ?_,PA.mk λr4 c0 r5 k9=>⟨ai.keep c0,PC.ok (a1 c0) ?_⟩⟩⟩
  ·rintro _ e2 ⟨y,z,A,G1,rfl,-,s,W,v,-⟩
   obtain⟨j,m,X,g8,n,kF⟩:=eV (aj.refl _) W v;have r6:=v.keep.size;have g9:=X.aE;refine cm (OR _ y z A) ⟨rfl,v.keep.mono λP _ e=>.inl e,PA.mk λr7 e3 r8 l0=>⟨ai.keep e3,aC (lv _ y z A) l0 rfl λr9 e4 s0 l3=>⟨e4.mono λP _ f=>.inr (by have f:P=e2.heap.size:=f;omega),rfl,y,z,A,j,m,l3,?_,λP e=>?_,?_,oM,λi=>by have:=g9 _ i;omega⟩⟩⟩
   ·exact bK.keep (ej.af X e3) dQ e4 λP e f=>by have f:P=e2.heap.size:=f;have:=g9 P e;omega
   ·rcases n P e with h|h
    ·exact .inl h
    ·exact .inr oM
   ·exact(((ai.keep a6).then kF).af e3).new e4 λP e=>.inr (by have e:P=e2.heap.size:=e;omega)
  ·rintro _ s1 ⟨y,z,A,G1,rfl,-,s,W,v,-⟩
   obtain⟨j,m,X,g8,n,kF⟩:=eV c0 W v;have s2:=v.keep.size;have nf:¬j r.heap.size:=λi=>by
    rcases n _ i with h|h
    ·have:=T _ h;omega
    ·omega
   have l4:=kF.get k9 λi=>by have:=T _ i;omega
   refine cm (OR _ y z A) ⟨rfl,v.keep.mono λP _ e=>.inl e,aC (lv _ y z A) l4 rfl λs3 e5 s4 l5=>⟨e5.mono λP _ f=>.inr (by have f:P=r.heap.size:=f;omega),rfl,y,z,A,j,m,l5,?_,λP e=>?_,?_,oM,nf⟩⟩
   ·exact bK.keep X dQ e5 λP e f=>by have f:P=r.heap.size:=f;exact nf (f▸e)
   ·rcases n P e with h|h
    ·exact .inl h
    ·exact .inr oM
   ·exact(((ai.keep a6).then (ai.keep c0)).then kF).new e5 λP e=>.inr (by have e:P=r.heap.size:=e;omega)
 rintro xb _ _ K ⟨rfl,xa,xn,xc,j,m,gx,Z,n,c2,s5,l6⟩;have h0:=c2.get g5 λi=>by have:=T _ i;omega
 have h2:=(hr.af b8).keep c2 λP e=>(R P e).2;have a8:=Z.aE;have s6:=c2.size;have xw:=aA gx;have a9:aj F w K:=(ai.keep b8).then c2;have p8:ai b K:=g0.new a9 λP e=>.inr (g3 P e);obtain⟨k,hS⟩:∃k,k=(V.add f).2.state f.aY f.agg:=⟨_,rfl⟩
 have s7:(k.getD GS).cells.length<=8:=by rw[hS];exact DA (show(V.add f).2.OK from(show cG K q.vp (λP=>j P/\m P=3) (V.add f).2 from Z.at' 3).1) f
 refine⟨λsb so w'=>so=0/\∃sa sn sc G2,w'.heap[sb]? =some (.cells #[ZH (k.getD GS).version,.slice sa sn sc] 42 (0,0))/\Row fw 32 w' G2 sa sn (k.getD GS).cells/\(∀P,G2 P->K.heap.size<=P/\P<w'.heap.size)/\K.heap.size<=sb/\ai K w',?_,?_⟩
 ·intro B h3
  have c3:ai K B:=h3.keep;have s8:B.heap.size=K.heap.size:=by rw[h3.heap]
  have e6:=ej.af Z c3;have h4:=e6.bw;have d4:=c3.get h0 id;have nS:¬B.heap.size<=p:=by have:=a8 p Z.self.1;omega
  have b9:¬B.heap.size<=w.heap.size:=oM
  refine⟨λP=>B.heap.size<=P,p,0,rfl,nS,_,ae h4 rfl,b9,_,ae d4 rfl,b9,_,ae d4 rfl,PC.ok (nx (e6.at' 3)) ?_,PA.mk λs9 e7 t0 l7=>⟨ai.keep e7,PC.ok (nx ((ej.af e6 e7).at' 3)) ?_⟩⟩
  ·rintro _ c4 ⟨ca,cn,cc,G,rfl,N,L,e8⟩
   have t1:=e8.size;have c5:=N.aE;rw[<-hS]at N⊢;refine⟨_,_,_,_,_,rfl,ai.keep e8,PA.mk λl8 e9 t2 l9=>⟨ai.keep e9,PS.mk l9 sM λt3 m0 t4 m1=>PS.mk m1 sM λm2 m3 t5 m4=>?_⟩⟩;have O:aj (λP=>P=c4.heap.size) l8 m2:=m0.then m3;refine⟨O.mono λP _ f=>by have f:P=c4.heap.size:=f;omega,rfl,ca,cn,cc,G,m4,((N.af e9).keep O λP e f=>by have f:P=c4.heap.size:=f;have:=c5 P e;omega).row dC ba,λP e=>⟨by have:=L P e;omega,by have:=c5 P e;omega⟩,oM,((c3.then e8).then e9).new O λP e=>.inr (by have e:P=c4.heap.size:=e;omega)⟩
  ·rintro _ m5 ⟨ca,cn,cc,G,rfl,N,L,c6⟩
   have t6:=c6.size;have c5:=N.aE;have m6:=c6.get l7 id;rw[<-hS]at N⊢;refine⟨_,_,_,_,_,rfl,ai.keep c6,PS.mk m6 sM λt7 m7 t8 m8=>PS.mk m8 sM λm9 n0 t9 n2=>?_⟩;have O:aj (λP=>P=B.heap.size) m5 m9:=m7.then n0;refine⟨O.mono λP _ f=>by have f:P=B.heap.size:=f;omega,rfl,ca,cn,cc,G,n2,(N.keep O λP e f=>by have f:P=B.heap.size:=f;have:=L P e;omega).row dC ba,λP e=>⟨by have:=L P e;omega,by have:=c5 P e;omega⟩,oM,((c3.then e7).then c6).new O λP e=>.inr (by have e:P=B.heap.size:=e;omega)⟩
 rintro sb _ _ h5 ⟨rfl,sa,sn,sc,G2,gs,n3,n4,u0,Q⟩;have c7:=ej.af Z Q;have h6:=c7.bw;have u1:=Q.size;have h7:bj h5 (λP=>j P/\m P=1) d q.ta q.tn q.pa q.pn:=c7.at' 1;have p9:=h7.zJ.len;have q0:=c7.aE;have h8:=Q.get gx id;obtain⟨C,i⟩:∃C:dK->dK,C=λx=>x.add (V.add f).1 (se ((V.add f).2.state f.aY f.agg) x.p):=⟨_,rfl⟩
 have g2:=aA gs;refine⟨p,0,rfl,_,_,_,ae h6 rfl,λd5 b0 w'=>∃g:Nat,b0=g/\g<=q.pn/\d5=q.pn-g/\ej w' j m p q d (V.add f).2 ((Rs.take g).map C++Rs.drop g) l pts/\aj j h5 w',⟨_,0,rfl,Qj _,rfl,by simpa using c7,aj.refl _⟩,?_⟩;rintro d5 _ _ E ⟨g,rfl,Y,rfl,t,H⟩;have u2:=H.size;have d6:=H.get gs λi=>by have:=a8 _ i;omega
 have h1:=n3.keep H λP e i=>by have:=a8 _ i;have:=(n4 P e).1;omega
 have h9:=H.get h8 l6;have q1:=t.bw;refine al.dec (λu3=>?_) (λu4=>?_)
 ·have i0:g<d.projs.length:=oM
  have hx:d.projs[g]? =some d.projs[g]:=Qq i0;have i1:d.projs[g]∈d.projs:=XY i0;generalize d.projs[g]=x at hx i1;obtain⟨P,i8,es,b1,j0,j1,b2,rfl,d7⟩:=(show bj E (λP=>j P/\m P=1) d q.ta q.tn q.pa q.pn from t.at' 1).zJ.el g x hx;have n8:=RH hd i1;refine⟨P,i8,b1,oM,oM,bB (es:=ny x) (k:=5) (pH x) rfl (λb0 ht=>by rw[Qx];exact b2 b0 ht) (PA.mk λu5 i2 u6 n9=>aC (pH x) n9 rfl λi3 i4 u7 i5=>⟨λj3 w'=>j3=se k x/\aN (se k x)/\i3=w',?_,?_⟩)⟩
  ·have b3:ai E i3:=i2.new i4 λP e=>.inr (by have e:P=E.heap.size:=e;omega)
   have d8:=h1.af b3;have u9:=d8.len;have a4:se k x=(((k.getD GS).cells[x.EN.toNat]?).map (·.n)).getD 0:=by
    cases k<;>rfl
   refine⟨_,ae i5 rfl,_,_,_,ae (b3.get d6 id) rfl,al.dec (λi6=>?_) (λi6=>⟨?_,?_,rfl⟩)⟩
   ·obtain⟨bi,f3⟩:∃bi:Nat,x.EN=bi:=⟨x.EN.toNat,oM⟩
    obtain⟨cb,co,v0,v1,v2,o0,v3,v4,o1,-,-,i7,-⟩:=my d8 (i:=bi) oM;refine⟨_,_,_,ae (b3.get d6 id) rfl,_,ae i5 rfl,cb,co,o0,n8,i6,_,by rw[f3,Qx];exact o1,?_,?_,rfl⟩
    ·rw[a4,f3,Qx,QQ,Qq (show bi<(k.getD GS).cells.length by omega)];rfl
    ·rw[a4,f3,Qx,Qq (show bi<(k.getD GS).cells.length by omega)]
     rw[QQ,Qq (show bi<(k.getD GS).cells.length by omega)]at i7;exact i7
   ·rw[a4,Q7 oM];rfl
   ·rw[a4,Q7 oM];exact GZ
  ·rintro _ _ _ ⟨rfl,j4,rfl⟩ o2 o3
   have b4:ai E o2:=(i2.new i4 λP e=>.inr (by have e:P=E.heap.size:=e;omega)).then o3.keep;have c8:=ej.af t b4;have o4:((Rs.take g).map C++Rs.drop g)[g]? =Rs[g]? :=by
    rw[X8 bc];simp[Qy,X2 (show g<=Rs.length by omega)]
   have c9:Rs[g]? =some Rs[g]:=Qq oM;have d9:Rs[g].p=x:=by
    have:=Zj (·[g]?) g4;simp only[Q9,c9,hx,Option.map_some,Q1]at this;exact this
   generalize Rs[g]=b5 at c9 d9;obtain⟨rg,pj,rj,o5,o6,hR,j5,v5,i9,-,b6⟩:=cH.elem (c8.at' 4) (o4.trans c9);have o7:=cH.len (c8.at' 4);rw[QX,Q8,Qy,XZ]at o7;have j6:=c8.bw;refine⟨p,0,rfl,_,_,_,ae j6 rfl,rg,0,o5,oM,oM,_,by rw[Qx];exact o6,ar (lv _ xa xn xc) (b4.get h9 id) (PC.ok (OS hR j5 (x:=(V.add f).1) he j4) ?_)⟩;rintro _ o8 ⟨rfl,o9,f5⟩;have fy:((Rs.take g).map C++Rs.drop g).set g (b5.add (V.add f).1 (se k x))=(Rs.take (g+1)).map C++Rs.drop (g+1):=by
    have j7:((Rs.take g).map C).length=g:=by simp;omega
    rw[Qw,c9,Q3,XQ,List.set_append,Zq oM,j7,Nat.sub_self,X4 (show g<Rs.length by omega)];have p0:C b5=b5.add (V.add f).1 (se k x):=by rw[i,hS,<-d9]
    rw[<-p0];rfl
   have j2:=b6 o8 _ f5 o9;rw[fy]at j2;refine⟨rfl,_,oM,g+1,an oM,oM,rfl,?_,H.then ((ai.keep b4).then (f5.mono λP _ f=>?_))⟩
   ·refine bK.same c8 dQ (k:=4) (f5.mono λP _ f=>by have f:P=rj:=f;rw[f];exact i9) j2 λg G Y hc=>by
     rcases g with _|_|_|_|_|_|g<;>first|exact hc|exact Zz rfl Y
   ·have f:P=rj:=f;rw[f];exact i9.1
 have j9:(Rs.take g).map C++Rs.drop g=pG V f Rs:=by
  rw[Qz oM,List.drop_eq_nil_of_le oM,List.append_nil,i];rfl
 rw[j9]at t;intro b7 f0;have a2:ai E b7:=f0.keep;have q2:b7.heap.size=E.heap.size:=by rw[f0.heap]
 have k0:=ej.af t a2;have k1:=k0.bw;have p1:¬j w.heap.size:=λi=>by
  rcases n _ i with h|h
  ·have:=T _ h;omega
  ·omega
 have k2:=a2.get (H.get (Q.get h0 id) p1) id;have nD:∀P,D P->¬j P:=λP e i=>by
  rcases n _ i with h|h
  ·exact(R P e).2 h
  ·have:=(R P e).1;omega
 have k3:=((h2.af Q).keep H nD).af a2;have v6:=aU.len (t.at' 2) dC;have v7:aj F w b7:=((a9.af Q).new H λP e=>(n P e).imp id oM).af a2;refine⟨λ_=>False,p,0,rfl,id,_,_,_,ae k1 rfl,ar (bf f I a c) k2 (PC.ok (Cp k3 λP e=>by have:=(R P e).1;omega) ?_)⟩;rintro _ q3 ⟨y,z,A,G,rfl,p2,L,c1⟩;refine⟨_,_,_,_,_,_,_,_,_,_,_,_,rfl,c1,PA.mk λq4 d0 q5 l1=>⟨d0,?_⟩⟩;have f1:=(a2.then c1).then d0;have l2:=ej.af t f1;have q6:=c1.size;have n1:=t.aE;have f2:∀P,aH q.ea=some P->j P/\m P=2:=λP e=>aU.self (t.at' 2) P e;refine eJ (c:=ia) (x:=f) (l2.at' 2) G_ l1 (D:=G) ⟨y,z,A,rfl,p2.af d0,he⟩ (λP e=>⟨by have:=(L P e).2;omega,λee=>by have:=n1 P (f2 P ee).1;have:=(L P e).1;omega⟩) ba (by unfold maxLen;omega) λa' M r1 F2 f4 f6 p3=>⟨_,_,_,rfl,p,0,rfl,?_⟩
 have r2:=f6.size;obtain⟨s,a3,j8,f7,n5,-⟩:=t.eV dQ (k:=2) (G':=F2) (C2:=zH p q.cells {q with ea:=a',en:=q.en+1,ec:=M} d (V.add f).2 (pG V f Rs) (l++[f]) pts) ((ai.keep f1).then (f6.mono λP _ e=>f2 P e))
  (λP e=>(p3 P e).imp id λu=>u.elim (λu=>by have:=(L P u).1;omega) λu=>oM) f4.aE f4 λg G Y hc=>by
   rcases g with _|_|_|_|_|_|g<;>first|exact hc|exact Zz rfl Y
 refine PS.mk (j8.at' 0).2 sM λd1 f8 u8 n6=>?_;have n7:ej d1 s a3 p {q with ea:=a',en:=q.en+1,ec:=M} d (V.add f).2 (pG V f Rs) (l++[f]) pts:=ej.store j8 f8 n6;have f9:∀P,s P->F P\/w.heap.size<=P:=λP e=>by
  rcases f7.new P e with h|h
  ·exact(n P h).imp id oM
  ·exact .inr oM
 have p4:aj j E d1:=f7.keep.then (f8.mono λP _ ee=>by have ee:P=p:=ee;rw[ee];exact Z.self.1);have p5:aj F w E:=(a9.af Q).new H λP e=>(n P e).imp id oM;have d2:aj F w d1:=p5.new p4 λP e=>(n P e).imp id oM;refine PC.ok (Dz n7 hd (hT.af (g0.new d2 λP e=>.inr (g3 P e))) bc (by unfold pG;rw[Q8];omega) k5 k6) ?_;rintro _ v8 ⟨rfl,q',F4,p6,p7,d3,g1⟩;refine⟨rfl,Ok.mk ⟨rfl,q',F4,p6,?_,d3,d2.new g1.keep f9,λP e=>?_⟩⟩
 ·simpa using p7
 ·rcases g1.new P e with h|h
  ·exact f9 P h
  ·have:=d2.size;exact .inr oM
end
def qN(a:dR):∀P,(mq a P).Perm (a::P)
 |[]=>List.Perm.refl _
 |y::P=>by
  unfold mq;split
  ·exact List.Perm.refl _
  ·exact((qN a P).cons y).trans (List.Perm.swap a y P)
def xg(P:List dR):(P.foldr mq []).Perm P:=by
 induction P with
 |nil=>exact List.Perm.refl _
 |cons a P b=>exact(qN a _).trans (b.cons a)
def xQ{c:dR}:∀{a:List dR},ub a->(∀y∈a,y.group≠c.group)->ub (mq c a)
 |[],_,_=>by simp[mq,ub]
 |y::a,e,f=>by
  unfold mq;have d:=List.pairwise_cons.1 e;have h:=f y (QV ..);split
  ·rename_i g
   refine List.pairwise_cons.2 ⟨λb P=>?_,e⟩;rcases Q2.1 P with rfl|P
   ·exact g
   ·have:=d.1 b P;omega
  ·rename_i i
   refine List.pairwise_cons.2 ⟨λb P=>?_,xQ d.2 λb P=>f b (QJ _ P)⟩;rcases Q2.1 ((qN c a).mem_iff.1 P)with rfl|P
   ·omega
   ·exact d.1 b P
def Eu:∀{P:List dR},(P.map (·.group)).Nodup->ub (P.foldr mq [])
 |[],_=>List.Pairwise.nil
 |x::P,a=>by
  rw[QY,List.nodup_cons]at a;refine xQ (Eu a.2) λb c d=>a.1 ?_;rw[<-d];exact Xk.2 ⟨b,(xg P).mem_iff.1 c,rfl⟩
def xR:∀{b a:List dR},(b.Pairwise λx c=>¬c.group<x.group)->ub a->b.Perm a->b=a
 |[],a,_,_,P=>by have:=P.length_eq;cases a;rfl;simp at this
 |x::b,[],_,_,P=>by have:=P.length_eq;simp at this
 |x::b,c::a,g,i,P=>by
  have e:=List.pairwise_cons.1 g;have f:=List.pairwise_cons.1 i;have j:x=c:=by
   rcases Q2.1 (P.mem_iff.1 (QV ..))with h|h
   ·exact h
   rcases Q2.1 (P.mem_iff.2 (QV ..))with d|d
   ·exact d.symm
   have:=f.1 x h;exact Zz this (e.1 c d)
  subst j;rw[xR e.2 f.2 P.cons_inv]
section
variable {w w':World} {p r:Nat} {R:dK}
def kU.Uz(b:kU w p r R):((R.rows.map (·.2)).map (·.group)).Nodup:=by
 have a:=b.map.tidy;unfold Tidy at a;rw[List.map_map]at a⊢;have:R.rows.map ((·.group)∘(·.2))=R.rows.map ((·.1)∘λP=>(P.1,sI P.2)):=List.map_congr_left λP c=>(b.ok P c).2;rw[this];exact a
def kU.ym(P:kU w p r R):ub R.list:=Eu P.Uz
def MU(g:kU w p r R)(a:R.rows.length<=20000000):YX 393 #[ZL p] w (Ok (pC Hh 269 w R.list)):=by
 refine wM ⟨p,0,rfl,_,ae g.at' rfl,mapRange QG g.map λw6 O Q s6=>?_⟩;refine⟨λz j k l w'=>∃(left:List (Int×dR)) (b:List dR) (i:ZN),z=left.length/\cV w' w.heap.size r (Value.int .i64) (R.rows.map λc=>(c.1,sI c.2)) (left.map λc=>(c.1,sI c.2))/\(∀c∈left,dR.Ok c.2)/\
  (b++left.map (·.2)).Perm (R.rows.map (·.2))/\aU Hh 269 i w' j k l b/\(∀P,i P->w.heap.size<P)/\ai w w',⟨_,R.rows,[],λ_=>False,rfl,O,λc m=>(g.ok c m).1,List.Perm.refl _,aU.nil _,λP a=>a.elim,Q⟩,?_⟩
 rintro z j k l _ A ⟨left,b,i,rfl,B,C,n,e,f,o⟩;have q:b.length+left.length=R.rows.length:=by have:=n.length_eq;simpa using this
 have b4:=e.len dC;refine m_ B (λS=>.inl ⟨rfl,?_⟩) (λa2 a3 l1 l2 s T U V W b5=>.inr ⟨_,_,rfl,qp V ?_⟩)
 ·have X:left=[]:=by simpa using S
  subst X;refine PC.ok (N_ e (by simp at q;omega)) ?_;rintro _ b6 ⟨rfl,Y,t,u,v,Z⟩;have he:Y=R.list:=xR u g.ym ((t.trans (by simpa using n)).trans (xg _).symm);subst he;exact⟨rfl,Ok.mk ⟨j,k,l,i,rfl,v,o.new Z λP a=>.inr (by have:=f P (e.self P a);omega),λP a=>by have:=f P a;omega⟩⟩
 ·obtain⟨E,a5,rfl,rfl,m⟩:=List.map_eq_append_iff.1 T
  obtain⟨c,F,rfl,H,rfl⟩:=List.map_eq_cons_iff.1 m;simp only[Prod.mk.injEq]at H;obtain⟨rfl,rfl⟩:=H;have a0:=C c sM;have b7:=o.size;have b3:w.heap.size<A.heap.size:=B.lt;refine⟨_,_,_,_,rfl,PA.mk λb8 I b9 b0=>aC (NH c.2) b0 rfl λc0 J c1 x=>⟨_,_,_,ae x rfl,ae x rfl,ae x rfl,PA.mk λL M c2 b1=>?_⟩⟩;have y:aj (λP=>P=w.heap.size) A L:=((W.af I).new J λP a=>.inr (by have a:P=s.heap.size:=a;omega)).af M;refine eJ (c:=Hh) (x:=c.2) (e.keep y λP a d=>by have d:P=w.heap.size:=d;have:=f P a;omega) VD b1 (D:=λ_=>False) ⟨rfl,a0⟩ (λP a=>a.elim) (by simp at q;unfold aO;omega) (by simp at q;unfold maxLen;omega) λa' c' c3 F2 a4 N b2=>⟨_,_,_,rfl,_,?_,E++F,b++[c.2],F2,rfl,?_,λa1 K=>C a1 (by simp at K⊢;rcases K with K|K;exact .inl K;exact .inr (.inr K)),?_,a4,λP a=>?_,?_⟩
  ·simp
  ·have h:cV L w.heap.size r (Value.int .i64) (R.rows.map λc=>(c.1,sI c.2)) ((E++F).map λc=>(c.1,sI c.2)):=by
    rw[Q3];exact((U.af I).keep J (λd=>by have d:w.heap.size=s.heap.size:=d;omega) (λd=>by have d:r=s.heap.size:=d;have:=g.map.lt;omega)).af M
   refine h.keep N (λd=>by have:=f _ (e.self _ d);omega) (λd=>by have:=f _ (e.self _ d);have:=g.map.lt;omega)
  ·refine List.Perm.trans ?_ n
   simp only[Q3,QY,XQ];refine List.Perm.append_left b ?_;rw[List.singleton_append];exact List.perm_middle.symm
  ·rcases b2 P a with h|h|h
   ·exact f P h
   ·exact h.elim
   ·have:=y.size;omega
  ·exact(o.new y λP a=>.inr (by have a:P=w.heap.size:=a;omega)).new N λP a=>.inr (by have:=f P (e.self P a);omega)
end
end Go.Proofs.YtblabbpipmodgaaGreatDoor
namespace Go.aw
open Go
variable{a c i:Nat}{f:ZN}{S Y:Operand}{d:YQ}{h:Program}{j:Type}{A g n:TypeId}{m t:ZR}{b:World}
def zM{bytes:Nat}{P:jU j}(v:jq h g n P.k bytes)(C:MQ h n=true){w:List j}(l:aU P n f b d a c w)(S:i<=a)(o:∀k,aU P n f k d i c (w.take i)->aj (λe=>aH d=some e) b k->k.heap.size=b.heap.size->m (.tuple #[]) k):
  aG h (Builtin.clear_ #[g] A #[.slice (cI d i c P.k) (a-i) (c-i)]) b m t:=by
 rcases Nat.lt_or_ge i a with T|U
 rotate_left
 ·obtain rfl:i=a:=oM
  rw[Nat.sub_self];exact aG.mk (w':=b) (v:=.tuple #[]) (by cases cI d i c P.k<;>simp[Builtin.clear_,run_underlying v.under]) (o b (l.take (Q4 _)) (aj.refl _) rfl)
 obtain⟨cs,D,q,E,x⟩:=l.body;have F:=q.length;rcases q.cases with⟨_,V,_,_⟩|⟨y,H,rfl,I,J,z,K⟩
 ·omega
 have r:c<=maxLen:=by
  obtain⟨_,W,_,B,_,_,_,r,_⟩:=q.row.2.resolve_left (by rintro⟨l,_⟩;cases l);simp only[XX]at B;rw[B.2.2];exact r
 have L:i*P.k<=a*P.k:=Q0 _ oM;have X:a*P.k<=c*P.k:=Q0 _ J;rw[fK (show c≠i by omega),Xz];refine PW v C I (by rw[z,Nat.sub_mul];omega) λk p M N O Q R=>?_;have s:aj (λe=>aH (some (⟨y,0,none⟩:Addr))=some e) b k:=Q.mono λe _ n=>by rw[n];rfl
 refine o k ⟨⟨cs.take (i*P.k),D,⟨⟨by rw[Qy,F];omega,.inr ⟨y,c,p,rfl,Qj _,M,oM,r,by rw[N,z],?_⟩⟩⟩,(E.keep s λe u=>(x e u).2).take i,x⟩,l.self,λe u=>Qk (l.aE e u) s.size⟩ s R;rw[O,<-K,List.take_take,X2 L]
def RJ(j:0<c)(k:a<9223372036854775808):(do eqGuard .quo g S Y (ZH (a:Int)) (ZH (c:Int));binOp .quo g (ZH (a:Int)) (ZH (c:Int)):Sem Value).run h b= .ok (ZH ((a/c:Nat):Int)) b:=by
 have e:c≠0:=oM
 have P:(a:Int).tdiv (c:Int)=((a/c:Nat):Int):=by rw[Int.tdiv_eq_ediv_of_nonneg oM];rfl
 have f:=Nat.div_le_self a c;generalize a/c=d at P f;have i:IntKind.wrap .i64 (d:Int)=(d:Int):=wrap_i64 bb;simp[eqGuard,binOp,Op.intDiv,e,P,i]
end Go.aw
namespace Go.Proofs.YtblabbpipmodgaaGreatDoor
open Go.aw
def dj(e:World)(f:Nat)(g:ZN)(a:aS)(P:Nat)(b:List ah):Prop:=
 (dy a=0/\0<P/\P<9223372036854775808/\b.length<=20000000)/\∃d c,d.every=P/\ej e g c f d a (cD a b) (et a b).rows b (jZ a P b)
variable{y:FuncId}{O b5 e q:Int}{B e0:List ah}{a c:Nat}{C:Nat×Nat}{S Y:Operand}{d r:YQ}{h:Program}{g n:TypeId}{b:World}{l:ah}
def RI{d:aS}(P:0<a)(b:a<9223372036854775808)(c:B.length<=20000000):(jZ d a B).length*a<9223372036854775808/\(jZ d a B).length<=20000001:=by
 rw[zK];have e:=Nat.div_le_self B.length a;refine⟨?_,oM⟩;rcases Nat.lt_or_ge B.length a with h|h
 ·rw[Nat.div_eq_of_lt h];omega
 ·have:=Nat.div_mul_le_self B.length a
  rw[X7,Nat.one_mul];omega
section
variable {w w':World} {p:Nat} {F T D:ZN} {d:aS} {every:Nat} {l:List ah}
def dj.keep(b:dj w p F d every l)(c:aj T w w')(e:∀a,F a->¬T a):dj w' p F d every l:=by
 obtain⟨f,g,P,h,i⟩:=b;exact⟨f,g,P,h,bK.keep i dQ c e⟩
def dj.af(P:dj w p F d every l)(a:ai w w'):dj w' p F d every l:=P.keep a λ_ _ P=>P
def dj.aE(a:dj w p F d every l):∀P,F P->P<w.heap.size:=by obtain⟨e,f,b,g,c⟩:=a;exact c.aE
def vS(d:aS)(l:List ah)(c:l.length<=20000000):(cD d l).entries.length<=20000000/\∀P,((aq (cD d l).done P).getD []).length<=20000000:=by
 have a:=λP=>EP d l (bg.new d) P;refine⟨?_,λP=>?_⟩
 ·have b:(cD d l).entries.length=0+l.length:=(a (0,0,0)).2
  omega
 ·have b:((aq (cD d l).done P).getD []).length<=0+l.length:=(a P).1
  omega
def Ha(d:aS)(l:List ah)(P:ah):pG (cD d l) P (et d l).rows=(et d (l++[P])).rows:=by
 rw[JA];unfold pG jT.add;rw[JB]
def OT(s:dj w p F d every l)(t:eX b)(u:ai b w)(v:∀P,F P->b.heap.size<=P)(k:l.length+1<=20000000){f:ah}{m:YQ}(x:Row aM 8 w D m a f.aJ)(y:∀P,D P->P<w.heap.size/\¬F P)(z:f.Ok):
  YX 144 #[ZL p,jS f m a c] w (Ok λn w'=>n= .tuple #[]/\∃g,dj w' p g d every (l++[f])/\cQ F w g w'):=by
 obtain⟨⟨o,h,q,r⟩,L,A,rfl,B⟩:=s;obtain⟨C,E⟩:=vS d l r;obtain⟨H,I⟩:=RI (d:=d) h q r;refine(OQ B o t u v k C (Hb d l) H I (E _) x y z).mono ?_;rintro _ w' ⟨n,rfl,rfl,J,g,e,i,j,K⟩;refine Ok.mk ⟨rfl,g,⟨⟨o,h,q,by simpa using k⟩,J,e,j,?_⟩,K⟩;rw[JC,MP h,<-Ha,<-zK (d:=d)];exact i
def XC:MQ ZP 219=true:=kR
def MR(a0:dj w p F d every l)(hT:eX b)(g0:ai b w)(c6:∀c,F c->b.heap.size<=c)(hn:a<=l.length):
  YX 143 #[ZL p,ZH (a:Int)] w (Ok λa1 w'=>a1= .tuple #[]/\∃H,dj w' p H d every (l.take (a/every*every))/\cQ F w H w'):=by
 obtain⟨⟨q,u,h3,h4⟩,P,i,rfl,h⟩:=a0;have c7:=h.bw;have e2:=h.aE;have c8:=aU.len (h.at' 5) dC;have I:=aU.len (h.at' 2) dC;rw[zK]at c8;obtain⟨k,v⟩:∃k,k=a/P.every:=⟨_,rfl⟩
 have s:k<=l.length/P.every:=by rw[v];exact Nat.div_le_div_right hn
 have J:k*P.every<=l.length:=Xx (Q0 _ s) (Nat.div_mul_le_self ..);have e3:k<=l.length:=Xx s (Nat.div_le_self ..);rw[<-v];have x:IntKind.wrap .i64 ((k:Int)*(P.every:Int))=((k*P.every:Nat):Int):=by
  rw[show((k:Int)*(P.every:Int))=((k*P.every:Nat):Int) by push_cast;rfl,wrap_i64 bb]
 have c9:IntKind.wrap .i64 ((k:Int)+1)=((k+1:Nat):Int):=an oM;have ec:=aU.lM (h.at' 2);have qc:=aU.lM (h.at' 5);refine ru ⟨p,0,rfl,_,ae c7 rfl,aG.mk (RJ u oM) ⟨_,rfl,λK d0=>?_⟩⟩;rw[<-v,c9];simp only[Qx];have L:ai w K:=d0.keep;have y:=ej.af h L;have z:=y.bw;have a2:bK K F i (zH p P.cells {P with en:=k*P.every} d (cD d l) (et d l).rows (l.take (k*P.every)) (jZ d P.every l)):=y.same dQ (k:=2) (aj.refl _) (aU.take (y.at' 2) (show k*P.every<=P.en from I▸J)) λj G m n=>by
  rcases j with _|_|_|_|_|_|j<;>first|exact n|exact Zz rfl m
 refine⟨p,0,rfl,_,_,_,ae z rfl,p,0,rfl,_,ae z rfl,by rw[x];exact Int.natCast_nonneg _,by rw[x];exact Int.ofNat_le.2 (Xx J (I▸ec)),p,0,rfl,?_⟩;rw[x,Qx];refine PS.mk z sM λd1 M e4 N=>?_;have O:ej d1 F i p {P with en:=k*P.every} d (cD d l) (et d l).rows (l.take (k*P.every)) (jZ d P.every l):=ej.store a2 M N;refine⟨p,0,rfl,_,_,_,ae N rfl,oM,by show _<=((P.qn:Nat):Int);omega,?_⟩;have f:∀c,aH P.qa=some c->F c/\i c=5:=λc e=>aU.self (h.at' 5) c e;have a3:¬aH P.qa=some p:=λg=>by have q:=(f p g).2;rw[h.self.2]at q;cases q
 refine zM UZ XC (O.at' 5) (by show k+1<=P.qn;omega) λd2 a5 Q e5=>?_;have R:bK d2 F i (zH p ({P with en:=k*P.every}:vR).cells {P with en:=k*P.every,qn:=k+1} d (cD d l) (et d l).rows (l.take (k*P.every)) ((jZ d P.every l).take (k+1))):=O.same dQ (k:=5) (Q.mono λc _ e=>f c e) a5 λj G m n=>by
  rcases j with _|_|_|_|_|_|j<;>first|exact n|exact Zz rfl m
 have S:=(R.at' 0).2;refine⟨p,0,rfl,_,_,_,ae S rfl,oM,by show _<=((P.qc:Nat):Int);omega,p,0,rfl,PS.mk S sM λT U e6 V=>?_⟩;have r:ej T F i p {P with en:=k*P.every,qn:=k+1} d (cD d l) (et d l).rows (l.take (k*P.every)) ((jZ d P.every l).take (k+1)):=ej.store R U V;have A:aj F w T:=(((ai.keep L).then (M.mono λc _ g=>by have g:c=p:=g;rw[g];exact h.self.1)).then (Q.mono λc _ e=>(f c e).1)).then (U.mono λc _ g=>by have g:c=p:=g;rw[g];exact h.self.1);have d3:((jZ d P.every l).take (k+1))[k]? =some (et d (l.take (k*P.every))).rows:=by
  rw[Xw,Zx oM];exact OU s
 obtain⟨pb,po,es,d4,e7,e8,W,e9,ra,rn,rc,rfl,d5⟩:=(aU.row (bytes:=32) (r.at' 5) dC (by rw[Qy];unfold aO;omega)).el k _ d3;have c0:=W 0 dC;have c1:=W 1 dC;refine⟨p,0,rfl,_,_,_,ae V rfl,pb,po,d4,oM,by show(k:Int)<((k+1:Nat):Int);omega,_,_,_,_,c0,c1,PC.ok (Dy r q (hT.af (g0.new A λc e=>.inr (c6 c e))) (by rw[Qy];omega) d5 (λc e=>r.aE c e.1) (by rw[pI];exact(zI (mu q).1).2.2.1)) ?_⟩;rintro _ X ⟨B,Y,Z,c2,Fv,G,rfl,hv,b4,b5,t,b6⟩;have f2:=A.size;obtain⟨F1,e1,d6,f3,b7,-⟩:=r.Hc dQ (k:=3) (w':=X) (G':=Fv) (C2:=zH p ({P with en:=k*P.every,qn:=k+1}:vR).cells {P with en:=k*P.every,qn:=k+1,vp:=B} d (cD d (l.take (k*P.every))) (et d l).rows (l.take (k*P.every)) ((jZ d P.every l).take (k+1)))
  (ai.keep b6) (λc e C=>by have:=b5 c e;have:=r.aE c C;omega) hv.aE hv λj G m n=>by
   rcases j with _|_|_|_|_|_|j<;>first|exact n|exact Zz rfl m
 obtain⟨F2,b8,b9,f4,d7,-⟩:=d6.Hc dQ (k:=4) (w':=X) (G':=G) (C2:=zH p ({P with en:=k*P.every,qn:=k+1}:vR).cells {P with en:=k*P.every,qn:=k+1,vp:=B,ra:=Y,rn:=Z,rc:=c2} d (cD d (l.take (k*P.every))) (et d (l.take (k*P.every))).rows (l.take (k*P.every)) ((jZ d P.every l).take (k+1)))
  (aj.refl _) (λc e C=>by
   rcases b7 c C with o|o
   ·have:=(t c e).1;have:=r.aE c o.1;omega
   ·exact Zz o (t c e).2.2) (λc e=>(t c e).2.1) b4 λj G m n=>by
   rcases j with _|_|_|_|_|_|j<;>first|exact n|exact Zz rfl m
 have c3:∀c,F2 c->F c\/w.heap.size<=c:=λc e=>by
  rcases d7 c e with o|o
  ·rcases b7 c o.1 with E|E
   ·exact .inl E.1
   ·exact .inr (by have:=b5 c E;omega)
  ·exact .inr (by have:=(t c o).1;omega)
 have d8:=(b9.at' 0).2;refine⟨_,_,_,_,rfl,p,0,rfl,PS.mk d8 sM λf5 c4 f6 d9=>PS.mk d9 sM λg1 c5 g2 e0=>Ok.mk ⟨rfl,F2,⟨⟨q,u,h3,by rw[Qy];omega⟩,{P with en:=k*P.every,qn:=k+1,vp:=B,ra:=Y,rn:=Z,rc:=c2},b8,rfl,?_⟩,?_,c3⟩⟩
 ·rw[<-MS u s]
  exact ej.store b9 (c4.then c5) e0
 ·exact(A.af b6).then ((c4.then c5).mono λc _ g=>by have g:c=p:=g;rw[g];exact h.self.1)
end
def Wh(P:Jz h g n):(do eqGuard .eql g S Y (.agg #[ZH e,ZH q]) (.agg #[ZH O,ZH b5]);binOp .eql g (.agg #[ZH e,ZH q]) (.agg #[ZH O,ZH b5]):Sem Value).run h b= .ok (.bool (e==O&&q==b5)) b:=by
 rw[Sem.run_bind,run_eqGuard_agg b .eql _ S Y _ _ P.hm,Result.andThen_ok,run_eql_struct];have:=P.equalIn 9998 (e,q) (O,b5) b;unfold oO at this;rw[this];rfl
section
variable {w w':World} {p:Nat} {F T D:ZN} {d:aS} {every:Nat} {l l2:List ah}
def Hd(U:dj w p F d every l)(V:eX b)(J:ai b w)(K:∀e,F e->b.heap.size<=e){L:YQ}(M:Row ia 96 w D L a l2)(e1:a<=c)(z:∀e,D e->e<w.heap.size/\¬F e)(e2:l2.length<=20000000)(b2:∀(W:Nat) (h k:ah),l[W]? =some h->l2[W]? =some k->aX h=aX k->h=k):
  YX 76 #[ZL p,.slice L a c] w (Ok λb3 w'=>∃A:Int,b3= ZH A/\∃i,dj w' p i d every l2/\cQ F w i w'):=by
 have hn:=M.len;have X:=U;obtain⟨⟨h1,h2,h3,h4⟩,e0,b6,e3,B⟩:=U;have e4:=aU.len (B.at' 2) dC;have e5:=B.aE;refine pJ ⟨λj w'=>∃P:Nat,j=P/\P<=l.length/\P<=l2.length/\l.take P=l2.take P/\ai w w',?_,?_⟩
 ·refine⟨λf j w'=>∃P:Nat,j=P/\P<=l.length/\P<=l2.length/\f=l.length-P/\l.take P=l2.take P/\ai w w',⟨_,0,rfl,Qj _,Qj _,rfl,rfl,aj.refl _⟩,?_⟩
  rintro f _ _ w9 ⟨P,rfl,Y,Z,rfl,n,t⟩;have h9:=ej.af B t;have a4:=h9.bw;refine⟨p,0,rfl,_,_,_,ae a4 rfl,al.dec (λN=>?_) (λa5 c0 C=>⟨P,rfl,Y,Z,n,t.then C.keep⟩)⟩;have a6:P<l.length/\P<l2.length:=by split at N<;>omega
  have m:l[P]? =some l[P]:=Qq a6.1;have E:l2[P]? =some l2[P]:=Qq a6.2;generalize l[P]=h at m;generalize l2[P]=k at E;obtain⟨e,o,es,O,c1,c2,H,ya,yn,yc,rfl,e6,e7⟩:=(M.af t).el P k E;obtain⟨b7,o2,e8,c3,e9,f0,a0,u,v,x,rfl,a7,a1⟩:=(aU.row (bytes:=96) (h9.at' 2) dC ba).el P h m;have y0:=H 0 dC;have y1:=H 1 dC;have x0:=a0 0 dC;have x1:=a0 1 dC;refine⟨e,o,O,oM,oM,_,_,y0,y1,p,0,rfl,_,_,_,ae a4 rfl,b7,o2,c3,oM,oM,_,_,x0,x1,(k.origin==h.origin&&k.seq==h.seq),λf=>Wh LQ,λc0 C=>al.mk (λQ=>⟨_,?_,P+1,an oM,oM,oM,rfl,?_,t.then C.keep⟩) (λ_=>⟨P,rfl,Y,Z,n,t.then C.keep⟩)⟩
  ·omega
  ·simp only[QK,beq_iff_eq]at Q
   have c4:=b2 P h k m E (by simp[aX,Q.1,Q.2]);rw[Qw,Qw,n,m,E,c4]
 rintro _ _ f1 ⟨j,rfl,c5,c6,n,q⟩;have c7:=ej.af B q;have b9:=c7.bw;have f2:=q.size;refine⟨λw'=>∃f i,f<=l2.length/\dj w' p i d every (l2.take f)/\cQ F w i w',⟨p,0,rfl,_,_,_,ae b9 rfl,al.dec (λN=>?_) (λa5=>?_)⟩,?_⟩
 ·refine PC.ok (MR (X.af q) V (J.then q) K c5) ?_
  rintro _ f3 ⟨rfl,i,R,a9⟩;have b0:j/every*every<=j:=Nat.div_mul_le_self ..;refine⟨rfl,_,i,Xx b0 c6,?_,(ai.keep q).then a9.keep,λe g=>(a9.new e g).imp id oM⟩;have:l.take (j/every*every)=l2.take (j/every*every):=by
   have:=Zj (List.take (j/every*every)) n
   rwa [List.take_take,List.take_take,X2 b0]at this
  rw[<-this];exact R
 ·have c8:j=l.length:=oM
  refine⟨l.length,F,oM,?_,ai.keep q,λe g=>.inl g⟩;rw[c8,List.take_length]at n;rw[<-n];exact X.af q
 rintro _ f4 ⟨f,F1,hm,b1,a2⟩;have c9:=b1;obtain⟨-,q1,f5,f6,b4⟩:=b1;have a3:=aU.len (b4.at' 2) dC;rw[Qy,X2 hm]at a3;have f7:=a2.keep.size;refine⟨p,0,rfl,_,_,_,ae b4.bw rfl,oM,oM,?_⟩;rw[Qx,a3];refine⟨λA s w'=>∃(P:Nat) (i:ZN),s=P/\P<=a-f/\A=a-f-P/\dj w' p i d every (l2.take (f+P))/\cQ F w i w',⟨_,0,F1,rfl,Qj _,rfl,c9,a2⟩,?_⟩;rintro A _ _ b5 ⟨P,S,rfl,hj,rfl,T,r⟩;refine al.dec (λN=>?_) (λa5=>?_)
 ·have d0:f+P<l2.length:=oM
  have m:l2[f+P]? =some l2[f+P]:=Qq d0;generalize l2[f+P]=h at m;have d1:=M.keep r.keep λe g=>(z e g).2;obtain⟨e,o,es,O,c1,c2,H,u,v,x,rfl,a7,a1⟩:=d1.el (f+P) h m;have d2:cI L f c 10=some ⟨e,o+f*10,none⟩:=by rw[O];exact fK oM
  have f8:=r.keep.size;refine⟨e,o+f*10,d2,oM,oM,bB (es:=aD h u v x) (k:=10) (bf h u v x) rfl (λs ht=>by rw[Qx];have:=H s ht;rw[show o+f*10+P*10+s=o+(f+P)*ia.k+s by show _=o+(f+P)*10+s;omega];exact this) (PA.mk λf9 d3 g1 d4=>aC (bf h u v x) d4 rfl λb8 d5 g2 d6=>ar (bf h u v x) d6 ?_)⟩;have I:ai b5 b8:=d3.new d5 λe g=>.inr (by have g:e=b5.heap.size:=g;omega);have a8:cQ F w S b8:=⟨r.keep.af I,r.new⟩
  have d7:∀e,D e->¬S e:=λe g hf=>by
   rcases r.new e hf with y|y
   ·exact(z e g).2 y
   ·have:=(z e g).1;omega
  refine PC.ok (OT (T.af I) V (J.new a8.keep λe g=>.inr (K e g)) (λe g=>?_) (by rw[Qy];omega) (a7.af I) (λe g=>⟨by have:=(z e g).1;have:=I.size;omega,d7 e g⟩) a1) ?_
  ·rcases r.new e g with y|y
   ·exact K e y
   ·have:=J.size;omega
  rintro _ g3 ⟨rfl,F3,d8,d9⟩;refine⟨rfl,_,?_,P+1,F3,an oM,oM,rfl,?_,a8.trans d9⟩
  ·omega
  ·rw[show f+(P+1)=f+P+1 by omega,Qw,m];exact d8
 ·rw[Qz oM]at T
  exact Ok.mk ⟨_,rfl,S,T,r⟩
end
section
variable {w w':World} {p:Nat} {F T D:ZN} {d:aS} {every:Nat} {l l2:List ah}
def OV{d:aS}{ta pa:YQ}{tn tc pn pc:Nat}{ev:Int}(n:dy d=0)(g9:aN ev)(hT:eX w)(o:bj w D d ta tn pa pn)(hD:∀P,D P->P<w.heap.size):
  YX 73 #[.agg #[.slice ta tn tc,.slice pa pn pc],ZH ev] w (Ok λe3 w'=>∃p F,e3= ZL p/\dj w' p F d (max 1 ev).toNat []/\(∀P,F P->w.heap.size<=P)/\ai w w'):=by
 have h0:=o.aY.len;have X:=o.aY.dO;have h3:=o.zJ.len;have h4:=o.zJ.dO;have e6:d.projs.length<=8:=(zI (mu n).1).2.2.1;obtain⟨every,e7⟩:∃every:Nat,every=(max 1 ev).toNat:=⟨_,rfl⟩
 have e8:(if ev>1 then ev else 1)=(every:Int):=by split<;>omega
 have c0:0<every/\every<9223372036854775808:=by unfold aN at g9;omega
 rw[<-e7];refine ER ?_;refine PA.mk λw1 k1 s1 g1=>⟨_,_,_,ae g1 rfl,PC.ok (pK (o.zJ.af k1) λP B=>by have:=hD P B;omega) ?_⟩
 rintro _ a ⟨i,g,v,x,rfl,Y,k8,h5⟩;have z8:=k8.size;refine⟨_,_,_,rfl,PA.mk λc1 Z k9 d8=>?_⟩;rw[e8]at d8;have e9:ai w c1:=(k1.then k8).then Z;have ga:=Z.get (k8.get g1 id) id;have l0:=Z.size;refine⟨_,_,_,ae ga rfl,λq I w'=>∃b:Nat,I=b/\b<=tn/\q=tn-b/\aj (·=a.heap.size) c1 w'/\∃r s J l,w'.heap[a.heap.size]? =some (.cells #[.slice r s J,.slice i g v,ZH (every:Int),.slice none 0 0,.pointer none,.slice none 0 0,.slice none 0 0] 222 (0,0))/\aU ks 130 l w' r s J (d.types.take b)/\∀P,l P->c1.heap.size<=P,
  ⟨_,0,rfl,Qj _,rfl,aj.refl _,none,0,0,λ_=>False,d8,aU.nil _,λ_ o=>o.elim⟩,?_⟩
 rintro q _ _ y ⟨b,rfl,hj,rfl,kk,r,s,J,l,K,t,L⟩;have a7:ai w y:=e9.new kk λP B=>.inr oM;have zk:=kk.size;refine al.dec (λl4=>?_) (λl5=>?_)
 ·have e0:b<d.types.length:=oM
  obtain⟨P,a4,es,ha,B,h6,f0,fa,fn,fc,rfl,a8⟩:=(o.aY.af a7).el b d.types[b] (by simp[e0]);have e1:d.types[b]? =some d.types[b]:=Qq e0;generalize d.types[b]=a0 at a8 e1;have c2:=f0 0 dC;have h7:ks.k=1:=rfl;rw[h7,Nat.mul_one]at c2;refine⟨P,a4,ha,oM,oM,fa,fn,fc,by rw[Qx];exact c2,PA.mk λl6 h8 l7 h9=>PS.mk h9 sM λe2 i0 l8 i1=>⟨_,_,_,ae i1 rfl,?_⟩⟩;have a1:ai y e2:=h8.new i0 λP B=>.inr oM;have f1:=a7.then a1;obtain⟨C,l1,l2,l3⟩:=eZ.boxes (N:=JD) a8;have c4:=a8.dO;refine PC.ok (pL (l2.af a1) λP B=>by have:=hD P B;have:=f1.size;omega) ?_;rintro _ e4 ⟨a9,M,f2,F9,rfl,b0,e5,i2⟩;have l9:=a1.size;have m0:=e5.size;have a2:∀P,aH a9=some P->e2.heap.size<=P:=λP B=>i2 P (b0.self P B);have f5:∀P,aH a9=some P->P<e4.heap.size:=λP B=>b0.aE P (b0.self P B);refine⟨_,_,_,rfl,λq I w'=>∃b:Nat,I=b/\b<=M/\q=M-b/\eu JD 123 e4 a9 M f2 C b w',⟨_,0,rfl,Qj _,rfl,eu.start b0.alone⟩,?_⟩;rintro q _ _ i3 ⟨e,rfl,h,rfl,z⟩;have m1:=z.len;have m2:C.length=a0.length:=by rw[<-l1];simp
  have i4:=a8.len;have N:ai y i3:=(a1.then e5).new z.keep λP B=>.inr (by have:=a2 P B;omega);have m3:=z.keep.size;refine al.dec (λf7=>?_) (λf8=>?_)
  ·obtain⟨a3,rfl⟩:=z.some oM
   have f9:=f5 a3 rfl;have a5:C[e]? =some C[e]:=Qq oM;have O:=l3 C[e] (XY oM);generalize C[e]=bx at a5 O;refine⟨a3,0,rfl,oM,oM,_,_,_,z.cell rfl a5 (by show M*4<=aO;unfold aO at c4⊢;omega) 3 _ rfl,PC.ok (sO (O.1.af N) λP B=>by have:=hD P B;have:=(a7.then N).size;omega) ?_⟩;rintro _ m4 ⟨m5,m6,m7,G,rfl,c3,i5,j⟩;refine⟨_,_,_,rfl,a3,0,rfl,oM,oM,?_⟩;refine(z.af i5).step (g:=a3) rfl a5 (c3.row (bytes:=32) dC ?_) O.2 (λu E=>⟨by have:=j u E;omega,c3.aE u E⟩) f9 λm8 g3 m9 n0=>⟨_,?_,e+1,an (by unfold aO at c4;omega),oM,rfl,g3⟩
   ·have f:=O.1.dO
    have m:=O.1.len;show bx.x.bz.length*32<=aO;have n1:bx.n=bx.x.bz.length:=m;have n2:bx.n*32<=aO:=f;omega
   ·omega
  ·obtain rfl:e=M:=oM
   obtain⟨Fd,n,c6⟩:=z.done;rw[l1,He]at n;have c5:=N.get K id;refine⟨a.heap.size,0,rfl,_,_,_,ae c5 rfl,Hf (c:=ks) (x:=a0) (t.af N) LR (D:=Fd) ⟨_,_,_,rfl,n.row dC (by rw[<-i4];exact c4)⟩ (λP B=>⟨n.aE P B,λc=>?_⟩) ?_ ?_ λa' Q n3 F' g6 c7 f3 n4=>⟨_,_,_,rfl,a.heap.size,0,rfl,?_⟩⟩
   ·have f:=t.aE P (t.self P c)
    rcases c6 P B with m|m
    ·have:=a2 P m;omega
    ·omega
   ·have:=List.length_take_le b d.types;unfold aO at X⊢;omega
   ·have:=List.length_take_le b d.types;unfold aO at X;unfold maxLen;omega
   ·have i6:¬aH r=some a.heap.size:=λc=>by have:=L _ (t.self _ c);omega
    have i7:=c7.get c5 i6;have n5:=c7.size;refine PS.mk i7 sM λn6 f4 n7 i8=>⟨_,?_,b+1,an (by unfold aO at X;omega),oM,rfl,?_,a',s+1,Q,F',i8,?_,?_⟩
    ·omega
    ·exact((kk.af N).new c7 λP B=>.inr (L _ (t.self P B))).then f4
    ·rw[Qw,e1]
     refine g6.keep f4 λP B c=>?_;rcases f3 P B with f|f|f
     ·have:=L P f;omega
     ·rcases c6 P f with m|m
      ·have:=a2 P m;omega
      ·omega
     ·omega
    ·intro P B
     rcases f3 P B with f|f|f
     ·exact L P f
     ·rcases c6 P f with m|m
      ·have:=a2 P m;omega
      ·omega
     ·omega
 ·obtain rfl:b=tn:=oM
  rw[Qz oM]at t;have h1:=(Y.af Z).keep kk λP B c=>by have:=Y.aE P B;omega
  have n8:a.heap.size<y.heap.size:=aA K;have f6:bj y (λP=>l P\/x P) d r s i g:=⟨(t.row (bytes:=24) dC (by rw[<-h0];exact X)).mono λP B=>.inl B,(h1.row (bytes:=40) dC (by rw[<-h3];exact h4)).mono λP B=>.inr B⟩
  have A:∀P,l P\/x P->w.heap.size<=P/\P<y.heap.size/\P≠a.heap.size:=λP B=>by
   rcases B with B|B
   ·have:=L P B;have:=t.aE P B;omega
   ·have:=h5 P B;have:=Y.aE P B;omega
  refine⟨a.heap.size,0,rfl,_,_,_,_,_,_,ae K rfl,ae K rfl,PC.ok (Hg n f6 λP B=>(A P B).2.1) ?_⟩;rintro _ i9 ⟨vp,R,rfl,hv,b1,b2⟩;have o0:=b2.size;have g0:=hv.aE;refine⟨_,rfl,a.heap.size,0,rfl,PS.mk (b2.get K id) sM λS c8 o1 g2=>⟨a.heap.size,0,rfl,_,_,_,ae g2 rfl,?_⟩⟩;have n9:=Y.len dC;have c9:bj S (λP=>l P\/x P) d r s i g:=(f6.af b2).keep c8 λP B c=>(A P B).2.2 c;have h2:cG S vp R (bg.new d):=hv.keep c8 λP B c=>by have c:P=a.heap.size:=c;have:=b1 P B;omega
  refine⟨λq I w'=>∃(b:Nat) (ra:YQ) (T rc:Nat) (G:ZN),I=b/\b<=g/\q=g-b/\aj (·=a.heap.size) S w'/\w'.heap[a.heap.size]? =some (.cells #[.slice r s J,.slice i g v,ZH (every:Int),.slice none 0 0,ZL vp,.slice ra T rc,.slice none 0 0] 222 (0,0))/\
   cH w' G ra T rc ((d.projs.take b).map λp=>(⟨p,[]⟩:dK))/\∀P,G P->S.heap.size<=P/\P<w'.heap.size,⟨_,0,none,0,0,λ_=>False,rfl,Qj _,rfl,aj.refl _,g2,cH.nil _,λP B=>B.elim⟩,?_⟩
  rintro q _ _ b3 ⟨e,ra,T,rc,G,rfl,h,rfl,H,d0,b4,j⟩;have o2:=H.size;refine al.dec (λf7=>?_) (λf8=>?_)
  ·have j0:e<d.projs.length:=oM
   have E:d.projs[e]? =some d.projs[e]:=Qq j0;generalize d.projs[e]=u at E;obtain⟨P,a4,es,a6,d5,h6,b5,rfl,d6⟩:=(c9.keep H λP B c=>(A P B).2.2 c).zJ.el e u E;refine⟨P,a4,a6,oM,oM,bB (es:=ny u) (k:=5) (pH u) rfl (λa0 ht=>by rw[Qx];exact b5 a0 ht) (PA.mk λo3 j1 o4 j2=>aC (pH u) j2 rfl λo5 j3 o6 j4=>λj5 g4=>⟨λ_=>False,a.heap.size,0,rfl,id,?_⟩)⟩;have d1:ai b3 j5:=(j1.new j3 λP B=>.inr (by have B:P=b3.heap.size:=B;omega)).then g4.keep;refine⟨_,_,_,ae (d1.get d0 id) rfl,ar (pH u) ((g4.keep (S:=λ_=>False)).get j4 id) (PC.ok OW ?_)⟩;rintro _ o7 ⟨p',r',rfl,d2,o8,o9,p0,p1,d3⟩;have j6:p'≠r':=λc=>by
    obtain⟨es,cl,hm,-⟩:=d2.map.at';have:=d2.at';rw[c,hm]at this;cases this
   have p2:=d3.size;have p3:=d1.size;refine⟨_,rfl,d3,PA.mk λp4 d4 p5 j7=>⟨d4,?_⟩⟩;have b6:=(d1.then d3).then d4;have j8:=b4.len;rw[Q8,Qy,X2 oM]at j8;refine(b4.af b6).push (λP B=>by have:=(j P B).2;omega) (d2.af d4) (λB=>by have:=(j _ B).2;omega) (λB=>by have:=(j _ B).2;omega) j6 OP j7 (by rw[Q8,Qy];omega) λj9 k0 p6 G3 k2 g5 k3 k4=>⟨_,_,_,rfl,a.heap.size,0,rfl,?_⟩
   have k5:=g5.get (b6.get d0 id) λB=>by have:=(j _ B).1;omega
   have d7:∀P,G3 P->S.heap.size<=P:=λP B=>by
    rcases k3 P B with f|f|f|f
    ·exact(j P f).1
    ·omega
    ·omega
    ·omega
   refine PS.mk k5 sM λp7 g7 p8 k6=>⟨_,?_,e+1,j9,T+1,k0,G3,an oM,oM,rfl,((H.af b6).new g5 λP B=>.inr (j P B).1).then g7,k6,?_,λP B=>⟨d7 P B,by have:=k4 P B;omega⟩⟩
   ·omega
   ·rw[Qw,E,Q3]
    exact k2.keep g7 λP B c=>by have c:P=a.heap.size:=c;have:=d7 P B;omega
  ·rw[Qz oM]at b4
   have k7:∃U,ej b3 (λP=>∃k,(match k with|0=>P=a.heap.size|1=>l P\/x P|3=>R P|4=>G P|_=>False:Prop)) U a.heap.size ⟨r,s,J,i,g,v,every,none,0,0,vp,ra,T,rc,none,0,0⟩ d (cD d []) (et d []).rows [] []:=by
    refine bK.join (G:=λk P=>match k with|0=>P=a.heap.size|1=>l P\/x P|3=>R P|4=>G P|_=>False) (λk=>?_) (λe b P h hj=>?_) λk P B=>?_
    ·match k with
     |0=>exact⟨rfl,d0⟩
     |1=>exact c9.keep H λP B c=>(A P B).2.2 c
     |2=>exact aU.nil _
     |3=>exact h2.keep H λP B c=>by have c:P=a.heap.size:=c;have:=b1 P B;omega
     |4=>exact b4
     |5=>exact aU.nil _
     |k+6=>trivial
    ·have V:∀e:Nat,(match e with|0=>P=a.heap.size|1=>l P\/x P|3=>R P|4=>G P|_=>False:Prop)->e=(if P=a.heap.size then 0 else if P<y.heap.size then 1 else if P<i9.heap.size then 3 else 4):=λe h=>by
      rcases e with _|_|_|_|_|e
      ·have h:P=a.heap.size:=h
       rw[Zx h]
      ·have:=A P h;rw[Zq oM,Zx oM]
      ·exact h.elim
      ·have:=b1 P h;have:=g0 P h;rw[Zq oM,Zq oM,Zx oM]
      ·have:=j P h;rw[Zq oM,Zq oM,Zq oM]
      ·exact h.elim
     rw[V e h,<-V b hj]
    ·rcases k with _|_|_|_|_|k
     ·have B:P=a.heap.size:=B
      omega
     ·have:=A P B;omega
     ·exact B.elim
     ·have:=g0 P B;omega
     ·have:=j P B;omega
     ·exact B.elim
   obtain⟨U,hq⟩:=k7;have b7:ai w b3:=(((a7.then b2).new c8 λP B=>.inr (by have B:P=a.heap.size:=B;omega)).new H λP B=>.inr (by have B:P=a.heap.size:=B;omega))
   have g8:∀P,(∃k,(match k with|0=>P=a.heap.size|1=>l P\/x P|3=>R P|4=>G P|_=>False:Prop))->w.heap.size<=P:=λP ⟨k,B⟩=>by
    rcases k with _|_|_|_|_|k
    ·have B:P=a.heap.size:=B
     omega
    ·exact(A P B).1
    ·exact B.elim
    ·have:=b1 P B;omega
    ·have:=j P B;omega
    ·exact B.elim
   refine PC.ok (Dz hq n (hT.af b7) sM (by rw[pI];exact e6) sM sM) ?_;rintro _ p9 ⟨rfl,q',F',W,b8,b9,d9⟩;refine⟨rfl,Ok.mk ⟨a.heap.size,F',rfl,⟨⟨n,c0.1,c0.2,sM⟩,q',W,b9,?_⟩,λP B=>?_,b7.new d9.keep λP B=>.inr (g8 P B)⟩⟩
   ·rw[OX];simpa using b8
   ·rcases d9.new P B with f|f
    ·exact g8 P f
    ·have:=b7.size;omega
end
def LS(f:aS)(a:List ah):∀P∈(et f a).rows,P.rows.length<=a.length:=by
 have:∀(a:List ah) (b:jT) (c:Nat),(∀P∈b.rows,P.rows.length<=c)->∀P∈(a.foldl jT.add b).rows,P.rows.length<=c+a.length:=by
  intro a
  induction a with
  |nil=>intro b c g P d;exact g P d
  |cons e a l=>
   intro b c g P d;have:=l (b.add e) (c+1) (λh i=>?_) P d
   ·simp only[Xq];omega
   ·obtain⟨j,k,rfl⟩:=Xk.1 (show h∈b.rows.map λP=>P.add (b.view.add e).1 (se ((b.view.add e).2.state e.aY e.agg) P.p)from i)
    have n:=g j k;unfold dK.add;dsimp only;split
    ·omega
    ·split
     ·omega
     ·exact Xx (xl ..) oM
 intro P d;have:=this a (jT.new f) 0 (λh i=>by
  obtain⟨j,k,rfl⟩:=Xk.1 (show h∈f.projs.map λm=>(⟨m,[]⟩:dK)from i);exact Q4 0) P d
 omega
def iN(a:aS)(b:List ah)(P:Int):List dR:=if P<0 then []else match(et a b).rows[P.toNat]? with
 |none=>[]
 |some c=>c.list
section
variable {w w':World} {p:Nat} {F T D:ZN} {d:aS} {every:Nat} {l:List ah}
def JE(r:dj w p F d every l):
  YX 391 #[ZL p,ZH e,ZH q] w (Ok λs w'=>∃b c f G,s= .tuple #[.agg #[ZH (((cD d l).state e q).getD GS).version,.slice b c f],.bool ((cD d l).state e q).isSome]/\aU fw 84 G w' b c f (((cD d l).state e q).getD GS).cells/\(∀P,G P->w.heap.size<=P)/\ai w w'):=by
 obtain⟨y,z,t,rfl,i⟩:=r;refine ry (PA.mk λA g B u=>⟨p,0,rfl,_,ae (ej.af i g).bw rfl,PC.ok (nx ((ej.af i g).at' 3)) ?_⟩);rintro _ C ⟨b,c,f,G,rfl,v,j,h⟩;have E:=h.size;refine⟨_,_,_,_,_,rfl,PS.mk (h.get u id) sM λH k I x=>PS.mk x sM λJ m K n=>⟨_,_,_,_,ae n rfl,ae n rfl,Ok.mk ⟨b,c,f,G,rfl,?_,λP a=>?_,?_⟩⟩⟩
 ·exact v.keep (k.then m) λP a o=>by have o:P=w.heap.size:=o;have:=j P a;omega
 ·have:=j P a;omega
 ·exact(g.then h).new (k.then m) λP a=>.inr (by have a:P=w.heap.size:=a;omega)
def ES(a:dj w p F d every l):YX 389 #[ZL p] w (Ok (pC yl 160 w (cD d l).entries)):=by
 obtain⟨b,i,c,rfl,P⟩:=a;refine oP ⟨p,0,rfl,_,ae P.bw rfl,PC.ok (ET (P.at' 3) (vS d l b.2.2.2).1) ?_⟩;rintro _ j ⟨e,f,g,G,rfl,h⟩;exact⟨_,_,_,rfl,Ok.mk ⟨e,f,g,G,rfl,h⟩⟩
def MT(j:dj w p F d every l):YX 390 #[ZL p,ZH e] w (Ok λk w'=>pC Hh 269 w (iN d l e) k w'/\ub (iN d l e)):=by
 obtain⟨m,B,n,rfl,a⟩:=j;have C:=cH.len (a.at' 4);refine sP (al.dec (λg=>Ok.mk ⟨⟨none,0,0,λ_=>False,rfl,?_,aj.refl _,λo b=>b.elim⟩,?_⟩) (λc=>⟨p,0,rfl,_,_,_,ae a.bw rfl,al.dec (λq=>Ok.mk ⟨⟨none,0,0,λ_=>False,rfl,?_,aj.refl _,λo b=>b.elim⟩,?_⟩) (λq=>?_)⟩))
 ·unfold iN;rw[Zx g];exact aU.nil _
 ·unfold iN;rw[Zx g];exact List.Pairwise.nil
 ·unfold iN;rw[Zq c,Q7 oM];exact aU.nil _
 ·unfold iN;rw[Zq c,Q7 oM];exact List.Pairwise.nil
 ·obtain⟨P,rfl⟩:∃P:Nat,e=P:=⟨e.toNat,oM⟩
  have f:(et d l).rows[P]? =some (et d l).rows[P]:=Qq oM;have h:(et d l).rows[P]∈(et d l).rows:=XY oM;have r:iN d l (P:Int)=(et d l).rows[P].list:=by unfold iN;rw[Zq c,Qx,f]
  rw[r];generalize(et d l).rows[P]=s at f h;obtain⟨t,E,H,u,v,i,-⟩:=cH.elem (a.at' 4) f;refine⟨p,0,rfl,_,_,_,ae a.bw rfl,t,0,u,oM,oM,_,by rw[Qx];exact v,PC.ok (MU i (Xx (LS d l s h) m.2.2.2)) ?_⟩;rintro _ I ⟨x,y,z,G,rfl,A⟩;exact⟨_,_,_,rfl,Ok.mk ⟨⟨x,y,z,G,rfl,A⟩,i.ym⟩⟩
end
def DE{P:ah}:∀{l:List ah},(∀x∈l,aX x≠aX P)->dH P l=l.take (posOf (λx=>eM x P) l)++P::l.drop (posOf (λx=>eM x P) l)
 |[],_=>rfl
 |x::l,b=>by
  have c:=b x (QV ..);unfold dH posOf;rw[List.takeWhile_cons]
  by_cases a:eM x P=true
  ·rw[Zx a,Zq (by rw[mD a];simp)]
   have:=DE (l:=l) λd e=>b d (QJ _ e);rw[this];simp[posOf]
  ·rw[Zq a,Zx ((EY c).resolve_left a)]
   rfl
structure pO (most:Nat) (l:List ah):Prop where
 Pa:TU l
 ids:(l.map aX).Nodup
 ok:∀e∈l,e.Ok
 le:l.length<=most
def pO.nil(P:Nat):pO P []:=⟨List.Pairwise.nil,sM,sM,Qj _⟩
def pO.add(c:pO a B)(g:l.Ok):pO a (eN a B l).2:=by
 unfold eN;split
 ·exact c
 rename_i e;rw[not_or]at e;have f:∀P∈B,aX P≠aX l:=by
  have:=e.2;simp only[List.any_eq_true,beq_iff_eq,not_exists,not_and]at this;exact this
 have d:=cT l B;refine⟨vW c.Pa f,?_,λP b=>?_,by rw[d.length_eq,Xq];omega⟩
 ·refine(d.map aX).nodup_iff.2 ?_
  rw[QY,List.nodup_cons];exact⟨λh=>by obtain⟨P,b,i⟩:=Xk.1 h;exact f P b i,c.ids⟩
 ·rcases Q2.1 (d.mem_iff.1 b)with rfl|b
  ·exact g
  ·exact c.ok P b
def pO.sub(P:pO a B)(b:e0.Sublist B):pO a e0:=
 ⟨P.Pa.sublist b,P.ids.sublist (b.map aX),λc d=>P.ok c (b.subset d),Xx b.length_le P.le⟩
def sg{a:au}:∀{P:List ah},(∀e∈P,(a.add e).1≠0)->dI a P=none
 |[],_=>rfl
 |e::P,b=>by
  unfold dI;rw[Zq (b e (QV ..)),sg λc d=>b c (QJ _ d)];rfl
def sh{b:au}:∀{P:List ah} {i:Nat} {e:ah},(∀x∈P.take i,(b.add x).1≠0)->P[i]? =some e->(b.add e).1=0->dI b P=some (e,(b.add e).2,P.eraseIdx i)
 |[],i,e,_,a,_=>by simp at a
 |x::P,0,e,c,a,d=>by
  simp at a;subst a;unfold dI;rw[Zx d];rfl
 |x::P,i+1,e,c,a,d=>by
  unfold dI;rw[Zq (c x sM),sh (i:=i) (e:=e) (λf g=>c f (by simp[g])) (by simpa using a) d]
  rfl
def bZ(P:dd)(a:YQ)(b c:Nat)(d:YQ)(e f:Nat):List Value:=[ZH P.kind,ZH P.bU,ZH P.pF,.slice a b c,.slice d e f]
abbrev jO(P:dd)(a:YQ)(b c:Nat)(d:YQ)(e f:Nat):Value:=.agg (bZ P a b c d e f).toArray
def jy(P:dd)(a:YQ)(b c:Nat)(d:YQ)(e f:Nat):iI ZP 60 (bZ P a b c d e f)=true:=kR
def Vt(P:dd)(a:YQ)(b c:Nat)(d:YQ)(e f:Nat):RG (fD ZP 60) (jO P a b c d e f)=true:=kR
section
variable {w w':World} {D E F:ZN} {m:dd} {va ea:YQ} {vn vc en ec N:Nat} {chunk:Int} {p:Nat} {S:au}
def La(c:Row aM 8 w D va vn m.vec)(j:Row ia 96 w E ea en m.events):YX 97 #[jO m va vn vc ea en ec,ZH (N:Int)] w (Ok λk w'=>k= ZH (gT m N)/\ai w w'):=by
 have u:=c.len;have v:=j.len;have l:=c.dO;refine FI (PA.mk λx d y e=>⟨_,_,_,ae e rfl,al.dec (λn=>Ok.mk ⟨?_,d⟩) (λn=>⟨_,_,_,ae e rfl,al.dV (λo=>Ok.mk ⟨?_,d⟩) (λo=>⟨_,_,_,ae e rfl,λg p w'=>∃P:Nat,p=P/\P<=vn/\g=vn-P/\((m.vec.take P).any λa=>decide (a<0))=false/\ai w w',⟨_,0,rfl,Qj _,rfl,sM,d⟩,?_⟩)⟩)⟩)
 ·unfold gT;rw[Zx oM]
 ·unfold gT;rw[Zq oM,Zx oM]
 rintro g _ _ z ⟨P,rfl,A,rfl,f,b⟩;refine al.dec (λB=>?_) (λC=>Ok.mk ⟨?_,b⟩)
 ·obtain⟨q,r,a,s,h,-,t⟩:=(c.af b).lN (i:=P) oM
  refine⟨q,r,s,oM,oM,a,t,al.dec (λi=>Ok.mk ⟨?_,b⟩) (λi=>⟨_,oM,P+1,an (by unfold aO at l;omega),oM,rfl,?_,b⟩)⟩
  ·unfold gT;rw[Zq oM,Zq oM,Zx (List.any_eq_true.2 ⟨a,QZ h,by simpa using i⟩)]
  ·rw[Qw,h,List.any_append,f];simp;omega
 ·rw[Qz oM]at f
  unfold gT;rw[Zq oM,Zq oM,Zq (by rw[f];simp)]
def xO{d:Type}{P:d->Int}:∀{a:List d} {e:Nat} {b:d},(∀y∈a.take e,P y=0)->a[e]? =some b->P b≠0->cK P a=P b
 |y::a,0,b,_,c,f=>by
  simp at c;subst c;unfold cK;rw[Zx (by simpa using f)]
 |y::a,e+1,b,g,c,f=>by
  have h:P y=0:=g y sM;unfold cK
  rw[h];simp only[bne_self_eq_false,Bool.false_eq_true,if_false];exact xO (λi j=>g i (QJ _ j)) (by simpa using c) f
def BM{a:Type}{b:a->Int}:∀{P:List a},(∀y∈P,b y=0)->cK b P=0
 |[],_=>rfl
 |y::P,c=>by
  unfold cK
  rw[c y (QV ..)];simpa using BM λd e=>c d (QJ _ e)
def Lb(t:Row aM 8 w D va vn m.vec)(i:Row ia 96 w E ea en m.events)(u:N<4611686018427387904):YX 96 #[jO m va vn vc ea en ec,ZH (N:Int),ZH chunk] w (Ok λv w'=>v= ZH (eS m N chunk)/\ai w w'):=by
 have W:=t.len;have X:=i.len;have x:=i.dO;refine FH (PA.mk λY b Z c=>⟨_,_,_,ae c rfl,al.dec (λy=>Ok.mk ⟨?_,b⟩) (λy=>⟨_,_,_,ae c rfl,al.dec (λz=>Ok.mk ⟨?_,b⟩) (λz=>⟨_,_,_,ae c rfl,al.dec (λA=>Ok.mk ⟨?_,b⟩) (λA=>⟨_,_,_,ae c rfl,λn j w'=>∃P:Nat,j=P/\P<=en/\n=en-P/\(∀a∈m.events.take P,dh a N=0)/\ai w w',⟨_,0,rfl,Qj _,rfl,sM,b⟩,?_⟩)⟩)⟩)⟩)
 ·unfold eS;rw[Zx oM]
 ·unfold eS;rw[Zq oM,Zx (.inl oM)]
 ·unfold eS;rw[Zq oM,Zx (.inr oM)]
 rintro n _ _ B ⟨P,rfl,hj,rfl,d,e⟩;have o:eS m N chunk=cK (λC=>dh C N) m.events:=by unfold eS;rw[Zq oM,Zq oM]
 refine al.dec (λa4=>?_) (λa5=>Ok.mk ⟨?_,e⟩)
 ·obtain⟨p,F,es,I,J,a6,q,f,g,h,rfl,r,K⟩:=(i.af e).el P m.events[P] (Qq oM)
  have k:m.events[P]? =some m.events[P]:=Qq oM;generalize m.events[P]=a at q r K k;refine⟨p,F,I,oM,oM,bB (es:=aD a f g h) (k:=10) (bf a f g h) rfl (λj L=>q j L) (PA.mk λw3 M s3 O=>aC (bf a f g h) O rfl λQ R s4 S=>ar (bf a f g h) S ?_)⟩;have l:ai B Q:=M.new R λp J=>.inr oM;refine PC.ok (xB (r.af l) u) ?_;rintro _ w5 ⟨rfl,s⟩;refine⟨_,rfl,al.dV (λT=>Ok.mk ⟨by rw[o,xO d k T],(e.then l).then s⟩) (λU=>⟨_,oM,P+1,an (by unfold aO at x;omega),oM,rfl,λV H=>?_,(e.then l).then s⟩)⟩;rw[Qw,k]at H;rcases Q6.1 H with H|H
  ·exact d V H
  ·simp at H;subst H;exact U
 ·rw[Qz oM]at d
  rw[o,BM d]
def xP(i:cJ w p F S):YX 112 #[ZL p,ZH e,ZH q] w (Ok λj w'=>∃va vn vc G,j=jO (km S e q) va vn vc none 0 0/\aU aM 3 G w' va vn vc S.vec/\(∀q,G q->w.heap.size<=q)/\ai w w'):=by
 refine CF (PA.mk λn f o k=>PC.ok (lx (i.af f)) ?_);rintro _ r ⟨a,b,c,G,rfl,l,d,g⟩;have s:=d.size;refine⟨_,_,_,rfl,aC (jy (km S e q) a b c none 0 0) (d.get k id) rfl λt h u m=>ar (jy (km S e q) a b c none 0 0) m (Ok.mk ⟨a,b,c,G,rfl,l.keep h λq P v=>?_,λq P=>?_,(f.then d).new h λq P=>.inr oM⟩)⟩
 ·have:=g q P;omega
 ·have:=g q P;omega
def IH(i:cJ w p F S):YX 99 #[ZL p,ZH e,ZH q] w (Ok λj w'=>∃va vn vc G,j=jO (y_ S e q) va vn vc none 0 0/\aU aM 3 G w' va vn vc S.vec/\(∀q,G q->w.heap.size<=q)/\ai w w'):=by
 refine Kb (PA.mk λn f o k=>PC.ok (lx (i.af f)) ?_);rintro _ r ⟨a,b,c,G,rfl,l,d,g⟩;have s:=d.size;refine⟨_,_,_,rfl,aC (jy (y_ S e q) a b c none 0 0) (d.get k id) rfl λt h u m=>ar (jy (y_ S e q) a b c none 0 0) m (Ok.mk ⟨a,b,c,G,rfl,l.keep h λq P v=>?_,λq P=>?_,(f.then d).new h λq P=>.inr oM⟩)⟩
 ·have:=g q P;omega
 ·have:=g q P;omega
def Et{cs:Array Value}(b:w.heap[a]? =some (.cells cs g C))(c:cs[0]? =some (ZH (N:Int))):YX 95 #[ZH e,ZL a] w (Ok λd w'=>d= .bool (decide (0<=e)&&decide (e<N))/\w=w'):=by
 refine CK (al.dec (λP=>⟨_,ae b c,Ok.mk ⟨?_,rfl⟩⟩) (λP=>Ok.mk ⟨?_,rfl⟩))
 ·rw[Zy (show 0<=e from P)];rfl
 ·rw[Xv (show¬0<=e from P)];rfl
def NZ(o:Row aM 8 w D va vn m.vec)(p:Row ia 96 w E ea en m.events)(v:N<4611686018427387904):YX 45 #[jO m va vn vc ea en ec,ZH (N:Int),ZH chunk] w (Ok λg w'=>g= ZH (eR m N chunk)/\ai w w'):=by
 refine HA (PA.mk λx y J z=>PA.mk λi q K j=>?_);have c:=q.get z id;have P:=y.then q;refine⟨λA w'=>A=(!(decide (0<=m.bU)&&decide (m.bU<N))|| !(decide (0<=m.pF)&&decide (m.pF<N))||m.bU==m.pF)/\i=w',?_,?_⟩
 ·refine⟨_,ae c rfl,_,_,_,rfl,kR,PC.ok (Et (N:=N) j rfl) ?_⟩
  rintro _ _ ⟨rfl,rfl⟩;refine⟨_,rfl,al.not (al.mk (λa=>⟨_,ae c rfl,_,_,_,rfl,kR,PC.ok (Et (N:=N) j rfl) ?_⟩) (λa=>⟨by rw[a];rfl,rfl⟩))⟩;rintro _ _ ⟨rfl,rfl⟩;refine⟨_,rfl,al.not (al.mk (λb=>⟨_,ae c rfl,_,ae c rfl,by rw[a,b];rfl,rfl⟩) (λb=>⟨by rw[a,b];rfl,rfl⟩))⟩
 rintro k _ _ ⟨B,rfl⟩;have f:eR m N chunk=if m.kind=3 then(if k then 1 else eS m N chunk)else if m.kind=1\/m.kind=2\/m.kind=4 then(if k then 1 else gT m N)else 2:=by rw[B];rfl
 have d:∀{r:List PanicEntry->ZU},(if k then 1 else gT m N)=eR m N chunk->al k (Ok (λg w'=>g= ZH (eR m N chunk)/\ai w w') (.returned (ZH 1)) i) (oW ZP 60 (ZL w.heap.size) i λC=>(∃(s:Int),i.cell? ⟨x.heap.size,0,none⟩=some (ZH s)/\PC ZP 97 #[C,ZH s] i (λF H=>∃(t:Int),F= ZH t/\Ok (λg w'=>g= ZH (eR m N chunk)/\ai w w') (.returned (ZH t)) H) r)):=λ{r} u=>by
  refine al.mk (λh=>Ok.mk ⟨by rw[<-u,h];rfl,P⟩) (λh=>ar (jy m va vn vc ea en ec) c ⟨_,ae j rfl,PC.ok (La (o.af P) (p.af P)) ?_⟩);rintro _ I ⟨rfl,l⟩;exact⟨_,rfl,Ok.mk ⟨by rw[<-u,h];rfl,P.then l⟩⟩
 refine⟨_,ae c rfl,al.eD (λe=>al.not (al.mk (λh=>?_) (λh=>ar (jy m va vn vc ea en ec) c ⟨_,ae j rfl,PC.ok (Lb (o.af P) (p.af P) v) ?_⟩))) (λe=>al.eD (λa=>al.tt (by simpa using a) (d ?_)) (λa=>al.eD (λb=>al.tt (by simpa using b) (d ?_)) (λb=>al.eD (λn=>d ?_) (λn=>Ok.mk ⟨?_,P⟩))))⟩
 ·exact al.tt h (Ok.mk ⟨by rw[f,Zx e,h];rfl,P⟩)
 ·rintro _ I ⟨rfl,l⟩
  exact⟨_,rfl,Ok.mk ⟨by rw[f,Zx e,h];rfl,P.then l⟩⟩
 ·rw[f,Zq e,Zx (show m.kind=1\/m.kind=2\/m.kind=4 from .inl a)]
 ·rw[f,Zq e,Zx (show m.kind=1\/m.kind=2\/m.kind=4 from .inr (.inl b))]
 ·rw[f,Zq e,Zx (show m.kind=1\/m.kind=2\/m.kind=4 from .inr (.inr n))]
 ·rw[f,Zq e,Zq (by rintro(h|h|h);exact a h;exact b h;exact n h)]
end
structure OZ (w:World) (p:Nat) (M D:ZN) (most:Nat) (l:List ah) (a:YQ) (n c:Nat) (L:List (Bx ah)):Prop where
 at':w.heap[p]? =some (.cells #[ZH (most:Int),.slice a n c] 146 (0,0))
 oG:aU pD.ke 55 (λb=>aH a=some b) w a n c L
 map:L.map (·.x)=l
 MW:∀b∈L,pD.In w D b
 dD:∀b,D b->b<w.heap.size/\¬M b
 mp:M p
 ma:∀b,aH a=some b->M b/\b≠p
 dM:∀b,M b->b<w.heap.size
def gN(b:World)(c:Nat)(d D:ZN)(P:Nat)(a:List ah):Prop:=(P<=256/\pO P a)/\∃e f g h,OZ b c d D P a e f g h
section
variable {w w':World} {p:Nat} {M D T E:ZN} {most:Nat} {l:List ah} {a:YQ} {n c:Nat} {L:List (Bx ah)}
def OZ.keep(b:OZ w p M D most l a n c L)(e:aj T w w')(f:∀P,M P->¬T P)(g:∀P,D P->¬T P):OZ w' p M D most l a n c L:=
 ⟨e.get b.at' (f _ b.mp),b.oG.keep e λP d=>f P (b.ma P d).1,b.map,λP d=>(b.MW P d).keep e g,λP d=>⟨Qk (b.dD P d).1 e.size,(b.dD P d).2⟩,b.mp,b.ma,λP d=>Qk (b.dM P d) e.size⟩
def gN.keep(b:gN w p M D most l)(d:aj T w w')(e:∀P,M P->¬T P)(f:∀P,D P->¬T P):gN w' p M D most l:=by
 obtain⟨g,a,n,c,L,b⟩:=b;exact⟨g,a,n,c,L,b.keep d e f⟩
def gN.af(P:gN w p M D most l)(a:ai w w'):gN w' p M D most l:=P.keep a (λ_ _ P=>P) λ_ _ P=>P
def vU:jq ZP 50 55 pD.ke.k 96:=G_
def JF(g:0<=e/\e<=256):YX 36 #[ZH e] w (Ok λc w'=>∃p,c= ZL p/\gN w' p (·=p) (λ_=>False) e.toNat []/\w.heap.size<=p/\p<w'.heap.size/\ai w w'):=by
 refine EV (PA.mk λd f h b=>Ok.mk ⟨w.heap.size,rfl,⟨⟨oM,pO.nil _⟩,none,0,0,[],?_,(aU.nil d).mono (λa P=>P.elim) (λa P=>by cases P),rfl,sM,λa P=>P.elim,rfl,λa P=>(by cases P),λa P=>by have P:a=w.heap.size:=P;omega⟩,Q4 _,oM,f⟩);have:(if(if 256<e then 256 else e)>0 then(if 256<e then 256 else e)else 0)=((e.toNat:Nat):Int):=by split<;>split<;>omega
 rw[this]at b;exact b
def ue(d:gN w p M D most l):YX 62 #[ZL p] w (Ok λf w'=>f= .tuple #[]/\gN w' p M (λ_=>False) most []/\aj M w w'):=by
 obtain⟨g,a,n,c,L,d⟩:=d;refine oQ ⟨p,0,rfl,PS.mk d.at' sM λh i j k=>Ok.mk ⟨rfl,⟨⟨g.1,pO.nil _⟩,none,0,0,[],k,(aU.nil h).mono (λb P=>P.elim) (λb P=>by cases P),rfl,sM,λb P=>P.elim,d.mp,λb P=>(by cases P),λb P=>by rw[j];exact d.dM b P⟩,i.mono λb _ e=>by have e:b=p:=e;exact e▸d.mp⟩⟩
def zU{m o:Array Value}(s:enters ZP y=true)(b:Nat->ZU)(p:Nat->ZU)(h:b 0 w)(i:∀P f,b P f->Row pD.ke 96 f E a n L)(t:∀P d f,L[P]? =some d->b P f->YX y (m++ #[jS d.x d.a d.n d.c]++o) f (Ok λg w'=>(g= .bool true/\p P w')\/(g= .bool false/\b (P+1) w'))):
  YX 235 #[.slice a n c,.func (.func y) m o] w (Ok λg w'=>(∃P,P<n/\g= ZH (P:Int)/\p P w')\/(g= ZH (-1)/\b n w')):=by
 have H:=(i 0 w h).len;have u:=(i 0 w h).dO;unfold aO at u;refine fB ⟨λq j w'=>∃P:Nat,j=P/\P<=n/\q=n-P/\b P w',⟨_,0,rfl,Qj _,rfl,h⟩,?_⟩;rintro q _ _ r ⟨P,rfl,I,rfl,k⟩;refine al.dec (λJ=>?_) (λK=>?_)
 ·have v:P<L.length:=oM
  have l:L[P]? =some L[P]:=Qq v;generalize L[P]=e at l;obtain⟨d,x,M,z,N,O,A,rfl,-⟩:=(i P r k).el P e l;refine⟨d,x,z,oM,oM,bB (es:=aD e.x e.a e.n e.c) (k:=10) (bf _ _ _ _) rfl (λj B=>by rw[Qx];exact A j B) ⟨_,_,_,rfl,s,PC.ok (t P e r l k) ?_⟩⟩;rintro _ Q (⟨rfl,C⟩|⟨rfl,F⟩)
  ·exact⟨_,rfl,al.tt rfl (Ok.mk (.inl ⟨P,oM,rfl,C⟩))⟩
  ·exact⟨_,rfl,al.ff rfl ⟨_,oM,P+1,an oM,oM,rfl,F⟩⟩
 ·obtain rfl:P=n:=oM
  exact Ok.mk (.inr ⟨rfl,k⟩)
def Ho{a:ah}{g h:Nat}{b:Nat}{c:ah}{i j:Nat}(e:w.heap[b]? =some (.cells (aD c r i j).toArray 55 C)):
  YX 227 #[jS a d g h,ZL b] w (Ok λk w'=>k= .bool (aX a==aX c)/\ai w w'):=by
 refine oR (PA.mk λl P m f=>⟨_,_,ae f rfl,ae f rfl,_,_,ae (P.get e id) rfl,ae (P.get e id) rfl,LQ.eql ⟨_,rfl,Ok.mk ⟨rfl,P⟩⟩⟩)
def JG(l:Row pD.ke 96 w E a n L)(v:∀P,E P->P<w.heap.size){m:Nat}{f:ah}{q r:Nat}(s:w.heap[m]? =some (.cells (aD f d q r).toArray 55 C)):
  YX 226 #[.slice a n c,.func (.func 227) #[] #[ZL m]] w (Ok λo w'=>o= .bool (L.any λP=>aX P.x==aX f)/\ai w w'):=by
 have x:=l.len;refine fh (PC.ok (zU (E:=E) kR (λg h=>(∀P∈L.take g,(aX P.x==aX f)=false)/\ai w h) (λg h=>(L.any λP=>aX P.x==aX f)=true/\ai w h) ⟨sM,aj.refl _⟩ (λg h i=>l.af i.2) ?_) ?_)
 ·rintro g P h j ⟨k,b⟩
  refine(Ho (b.get s id)).mono ?_;rintro _ y ⟨o,rfl,rfl,p⟩;refine Ok.mk ?_
  cases i:aX P.x==aX f
  ·refine .inr ⟨rfl,λt e=>?_,b.then p⟩
   rw[Qw,j]at e;rcases Q6.1 e with e|e
   ·exact k t e
   ·simp at e;subst e;exact i
  ·exact .inl ⟨rfl,List.any_eq_true.2 ⟨P,QZ j,i⟩,b.then p⟩
 ·rintro _ z (⟨g,A,rfl,u,b⟩|⟨rfl,k,b⟩)
  ·exact⟨_,rfl,Ok.mk ⟨by rw[u,Zy oM],b⟩⟩
  ·refine⟨_,rfl,Ok.mk ⟨?_,b⟩⟩
   rw[Qz oM]at k;rw[List.any_eq_false.2 λP j=>by rw[k P j];simp]
   rfl
end
section
variable {w w':World} {p:Nat} {M D T E:ZN} {most:Nat} {l:List ah} {a:YQ} {n c:Nat} {L:List (Bx ah)}
def pP{e f:ah}{a i:YQ}{n c j k:Nat}{w:World}:YX 229 #[jS e a n c,jS f i j k] w (Ok λl w'=>l= ZH (sf e f)/\ai w w'):=by
 refine vV (PA.mk λu m v o=>PA.mk λp g x q=>λr s=>⟨λ_=>False,?_⟩);have P:ai p r:=s.keep;have b:=P.get (g.get o id) id;have d:=P.get q id;refine⟨_,ae b rfl,_,ae d rfl,id,_,ae b rfl,id,_,ae d rfl,id,_,ae b rfl,id,_,ae d rfl,PC.ok gO ?_⟩;rintro _ _ ⟨rfl,rfl⟩;refine⟨_,rfl,aj.refl _,PC.ok gO ?_⟩;rintro _ _ ⟨rfl,rfl⟩;refine⟨_,rfl,aj.refl _,PC.ok gO ?_⟩;rintro _ _ ⟨rfl,rfl⟩;refine⟨_,rfl,aj.refl _,PA.mk λy h z t=>⟨h,PC.ok (O_ t) ?_⟩⟩;rintro _ _ ⟨rfl,rfl⟩;exact⟨_,rfl,aj.refl _,Ok.mk ⟨by rw[Hp],((m.then g).then P).then h⟩⟩
def DD{P a:ah}:sf P a<0↔eM P a=true:=by
 unfold sf
 cases eM P a
 ·cases eM a P<;>simp
 ·simp
def Cr(x:Row pD.ke 96 w E a n L)(U:TU (L.map (·.x))){i:ah}{C F:Nat}:
  YX 228 #[.slice a n c,jS i d C F,.func (.func 229) #[] #[]] w (Ok λV w'=>∃P,V= .tuple #[ZH ((posOf (λo=>eM o.x i) L:Nat):Int),.bool P]/\ai w w'):=by
 have hl:=x.len;have W:=x.dO;unfold aO at W;have N:∀{j k:Nat} {b l:Bx ah},L[j]? =some b->L[k]? =some l->j<=k->b=l\/eM b.x l.x=true:=λ{j k b l} m q b4=>by
  rcases Nat.lt_or_ge j k with h|h
  ·right
   have y:(L.map (·.x))[j]? =some b.x:=by rw[Q9,m];rfl
   have z:(L.map (·.x))[k]? =some l.x:=by rw[Q9,q];rfl
   obtain⟨X,Y⟩:=Qv.1 y;obtain⟨Z,e2⟩:=Qv.1 z;have:=List.pairwise_iff_getElem.1 U j k X Z h;rw[Y,e2]at this;exact this
  ·obtain rfl:j=k:=oM
   rw[m]at q;exact .inl (XJ q)
 refine dv (PA.mk λa4 O b5 Q=>⟨λR j k w'=>∃p e:Nat,j=p/\k=e/\R=e-p/\p<=e/\e<=n/\(∀P b,P<p->L[P]? =some b->eM b.x i=true)/\(∀P b,e<=P->L[P]? =some b->eM b.x i=false)/\ai a4 w',
  ⟨_,0,n,rfl,rfl,rfl,oM,oM,λP b g=>oM,λP b g m=>by have:=(Qv.1 m).1;omega,aj.refl _⟩,?_⟩)
 rintro R _ _ _ S ⟨p,e,rfl,rfl,rfl,b6,a5,y,z,s⟩;have t:enters ZP 229=true:=kR
 refine al.dec (λb7 a6 a7=>?_) (λb8 a8 a9=>?_)
 ·have A:ai S a6:=a7.keep
  have u:=(O.then s).then A;rw[TR oM];have r:L[(p+e)/2]? =some L[(p+e)/2]:=Qq oM;generalize L[(p+e)/2]=f at r;obtain⟨o,H,es,I,b0,b1,J,rfl,-⟩:=(x.af u).el _ f r;refine⟨o,H,I,oM,oM,bB (es:=aD f.x f.a f.n f.c) (k:=10) (bf _ _ _ _) rfl (λP g=>by rw[Qx];exact J P g) (ar (bf i d C F) ((s.then A).get Q id) ⟨_,_,_,rfl,t,PC.ok pP ?_⟩)⟩;rintro _ b2 ⟨rfl,B⟩;refine⟨_,rfl,al.dec (λK=>⟨_,?_,(p+e)/2+1,e,an oM,rfl,rfl,oM,a5,λP l g q=>?_,z,(s.then A).then B⟩) (λK=>⟨_,?_,p,(p+e)/2,rfl,rfl,rfl,oM,oM,y,λP l g q=>?_,(s.then A).then B⟩)⟩
  ·omega
  ·have v:=DD.1 K
   rcases N q r oM with rfl|M
   ·exact v
   ·exact sT M v
  ·omega
  ·have v:¬eM f.x i=true:=λh=>K (DD.2 h)
   rcases N r q g with rfl|M
   ·simpa using v
   ·cases h4:eM l.x i
    ·rfl
    ·exact Zz (sT M h4) v
 ·obtain rfl:p=e:=oM
  have T:ai S a8:=a9.keep;have u:=(O.then s).then T;have a3:posOf (λo=>eM o.x i) L=p:=zR oM (λP b g m=>y P b g m) (λb m=>z p b (Q4 _) m);rw[a3];refine al.dec (λb3=>?_) (λb3=>Ok.mk ⟨false,rfl,u⟩);have r:L[p]? =some L[p]:=Qq oM;generalize L[p]=f at r;obtain⟨o,H,es,I,b0,b1,J,rfl,-⟩:=(x.af u).el _ f r;refine⟨o,H,I,oM,oM,bB (es:=aD f.x f.a f.n f.c) (k:=10) (bf _ _ _ _) rfl (λP g=>by rw[Qx];exact J P g) (ar (bf i d C F) ((s.then T).get Q id) ⟨_,_,_,rfl,t,PC.ok pP ?_⟩)⟩;rintro _ b2 ⟨rfl,B⟩;exact⟨_,rfl,Ok.mk ⟨_,rfl,u.then B⟩⟩
def TV{f h:Nat}{x:Bx ah}(j:aU pD.ke 55 (λP=>aH a=some P) w a n c L)(k:f<=n)(l:w.heap[h]? =some (.cells (aD x.x x.a x.n x.c).toArray 55 (0,0)))(m:aH a≠some h)(r:L.length<=20000000):
  YX 230 #[.slice a n c,ZH (f:Int),.slice (ZM h) 1 1] w (Ok λo w'=>∃d g,o= .slice d (n+1) g/\aU pD.ke 55 (λP=>aH d=some P) w' d (n+1) g (L.take f++x::L.drop f)/\aj (λP=>aH a=some P) w w'/\∀P,aH d=some P->aH a=some P\/w.heap.size<=P):=by
 refine fY (Hq.one (c:=pD.ke) (tb:=4) (x:=x) (D:=λ_=>False) vU kR ?_ j k l ⟨rfl,trivial⟩ (λP b=>b.elim) m ba (by unfold maxLen;omega) λd g w' s e p q=>Ok.mk ⟨d,g,rfl,aU.alone e,p,λP b=>?_⟩)
 ·intro i w
  rw[run_callFunc_extern Tryz.func285 kR kR kR (e:=Extern.SlicesOverlaps.overlaps #[50,50] #[4]) kR]
 ·rcases q P (e.self P b)with b|b|b
  ·exact .inl b
  ·exact b.elim
  ·exact .inr b
def TW{b:Nat}(e:aU pD.ke 55 (λP=>aH a=some P) w a n c L)(f:b<n)(i:n<=20000000):
  YX 236 #[.slice a n c,ZH (b:Int),ZH (IntKind.wrap .i64 ((b:Int)+1))] w (Ok λg w'=>g= .slice a (n-1) c/\aU pD.ke 55 (λP=>aH a=some P) w' a (n-1) c (L.eraseIdx b)/\aj (λP=>aH a=some P) w w'):=
 fZ (Hr.one (c:=pD.ke) (tz:=0) vU kR e f (by unfold maxLen;omega) λw' d h=>Ok.mk ⟨rfl,d,h⟩)
def JH(f:gN w p M D most l){e:ah}{en ec:Nat}(O:Row aM 8 w E d en e.aJ)(hE:∀P,E P->P<w.heap.size)(he:e.Ok):
  YX 159 #[ZL p,jS e d en ec] w (Ok λQ w'=>Q= .bool (eN most l e).1/\∃o q,gN w' p o q most (eN most l e).2/\aj M w w'/\(∀P,o P->M P\/w.heap.size<=P)/\∀P,q P->D P\/w.heap.size<=P):=by
 have b3:=f;obtain⟨B,a,n,c,L,f⟩:=f;have d7:L.length=l.length:=by rw[<-f.map,Q8]
 have hn:n=L.length:=f.oG.len dC;have d8:=f.dM p f.mp;have d9:=B.2.le;have j:(L.any λP=>aX P.x==aX e)=l.any (λi=>aX i==aX e):=by rw[<-f.map,List.any_map];rfl
 refine rz (PA.mk λc5 b4 e0 b5=>λR c6=>⟨λ_=>False,?_⟩);have S:ai c5 R:=c6.keep;have m:ai w R:=b4.then S;have T:=m.get f.at' id;have no:(eN most l e)=(false,l)->∀U,ai w U->Ok (λQ w'=>Q= .bool (eN most l e).1/\∃o q,gN w' p o q most (eN most l e).2/\aj M w w'/\(∀P,o P->M P\/w.heap.size<=P)/\∀P,q P->D P\/w.heap.size<=P) (.returned (.bool false)) U:=λhq U k1=>
  Ok.mk ⟨by rw[hq],M,D,by rw[hq];exact b3.af k1,ai.keep k1,λP b=>.inl b,λP b=>.inl b⟩
 refine⟨p,0,rfl,_,_,_,ae T rfl,p,0,rfl,_,ae T rfl,al.dec (λe1=>no (by unfold eN;rw[Zx (.inl oM)]) R m) (λe2=>⟨p,0,rfl,id,_,_,_,ae T rfl,aj.refl _,PC.ok (JG (E:=λP=>aH a=some P) (((f.oG.af m).row (bytes:=96) dC ba)) (λP b=>by have:=(f.oG.aE P b);have:=m.size;omega) (S.get b5 id)) ?_⟩)⟩;rintro _ b6 ⟨rfl,C⟩;refine⟨_,rfl,C,al.mk (λr=>no (by unfold eN;rw[Zx (.inr (j▸r))]) b6 (m.then C)) (λr=>?_)⟩;have F:=m.then C;have b7:eN most l e=(true,dH e l):=by unfold eN;rw[Zq (by rw[<-j];rintro(g|g);omega;rw[r]at g;cases g)]
 have c7:∀i∈l,aX i≠aX e:=by
  rw[j]at r;simpa[List.any_eq_false]using r
 have V:=(S.then C).get b5 id;refine⟨_,_,_,ae V rfl,PC.ok (ck (O.af F) λP b=>by have:=hE P b;have:=F.size;omega) ?_⟩;rintro _ b8 ⟨H,I,J,G,rfl,W,X,Y⟩;have e3:=F.size;have e4:=X.size;refine⟨_,_,_,rfl,PS.mk (X.get V id) (by simp[aD]) λZ a9 e5 c8=>λK b9=>?_⟩;have s:ai Z K:=b9.keep;have e6:K.heap.size=Z.heap.size:=by rw[b9.heap]
 have a0:Z.heap[w.heap.size]? =some (.cells (aD e H I J).toArray 55 (0,0)):=c8;have a1:ai w K:=((F.then X).new a9 λP b=>.inr (by have b:P=w.heap.size:=b;omega)).then s;have b0:=f.keep a1 (λ_ _ f=>f) λ_ _ f=>f;have c0:TU (L.map (·.x)):=by rw[f.map];exact B.2.Pa
 refine⟨p,0,rfl,_,_,_,ae b0.at' rfl,ar (bf e H I J) (s.get a0 id) (PC.ok (Cr (b0.oG.row (bytes:=96) dC ba) c0) ?_)⟩;rintro _ e7 ⟨a4,rfl,c9⟩;refine⟨_,_,rfl,λd0 d1=>⟨λ_=>False,?_⟩⟩;have t:ai K d0:=c9.then d1.keep;have a2:=a1.then t;have c1:=b0.keep t (λ_ _ f=>f) λ_ _ f=>f;have h:=t.get (s.get a0 id) id;have d6:=zQ (λP:Bx ah=>eM P.x e) L;refine⟨p,0,rfl,id,_,_,_,ae c1.at' rfl,_,_,_,_,_,_,_,_,_,_,_,_,ae h rfl,ae h rfl,ae h rfl,ae h rfl,ae h rfl,ae h rfl,ae h rfl,ae h rfl,ae h rfl,ae h rfl,PA.mk λd2 u e8 d3=>⟨u,?_⟩⟩;have c3:=c1.keep u (λ_ _ f=>f) λ_ _ f=>f;have e9:=a2.size;refine PC.ok (TV (x:=⟨e,H,I,J⟩) c3.oG oM d3 (λe=>by have:=f.oG.aE _ e;omega) oM) ?_;rintro _ f2 ⟨a',c',rfl,a3,v,x⟩;have b1:¬aH a=some p:=λe=>(f.ma p e).2 rfl;have f3:=v.size;refine⟨_,_,_,rfl,p,0,rfl,PS.mk (v.get c3.at' b1) sM λd4 N f4 d5=>?_⟩;have y:aj M w d4:=((ai.keep (a2.then u)).then (v.mono λP _ b=>(f.ma P b).1)).then (N.mono λP _ e=>by have e:P=p:=e;exact e▸f.mp);refine Ok.mk ⟨by rw[b7],λP=>M P\/aH a'=some P,λP=>D P\/G P,⟨⟨B.1,B.2.add he⟩,a',n+1,c',L.take (posOf (λP=>eM P.x e) L)++⟨e,H,I,J⟩::L.drop (posOf (λP=>eM P.x e) L),d5,?_,?_,?_,?_,.inl f.mp,?_,?_⟩,?_,?_,?_⟩
 ·refine a3.keep N λP b e=>?_
  have e:P=p:=e;rcases x P b with g|g
  ·exact b1 (e▸g)
  ·omega
 ·rw[b7]
  have c4:posOf (λi=>eM i e) l=posOf (λP:Bx ah=>eM P.x e) L:=by
   unfold posOf;rw[<-f.map,List.takeWhile_map,Q8];rfl
  show _=dH e l;rw[DE c7,c4,Q3,QY,List.map_take,List.map_drop,f.map]
 ·have b2:∀P,G P->b6.heap.size<=P/\P<b8.heap.size:=λP b=>⟨Y P b,W.aE P b⟩
  intro i k;rcases Q6.1 k with k|k
  ·exact((f.MW i (List.mem_of_mem_take k)).keep y λP b=>(f.dD P b).2).mono λP b=>.inl b
  rcases Q2.1 k with rfl|k
  ·refine⟨(((((W.keep a9 λP b e=>?_).af s).af (t.then u)).keep v λP b e=>?_).keep N λP b e=>?_).row (bytes:=8) dC (by rw[<-O.len];exact O.dO)|>.mono λP b=>.inr b,he⟩
   ·have e:P=w.heap.size:=e;have:=b2 P b;have:=aA V;omega
   ·have:=f.oG.aE P e;have:=b2 P b;omega
   ·have e:P=p:=e;have:=b2 P b;omega
  ·exact((f.MW i (List.mem_of_mem_drop k)).keep y λP b=>(f.dD P b).2).mono λP b=>.inl b
 ·intro P b
  have hz:b8.heap.size<=d2.heap.size:=by have:=a9.size;have:=s.size;have:=t.size;have:=u.size;omega
  rcases b with b|b
  ·have g:=f.dD P b
   refine⟨by have:=y.size;omega,λz=>z.elim g.2 λe=>?_⟩;rcases x P e with A|A
   ·exact g.2 (f.ma P A).1
   ·omega
  ·have g:=W.aE P b;have h3:=Y P b
   have f5:=b4.size;refine⟨by have:=v.size;have:=N.size;omega,λz=>?_⟩;rcases z with z|e
   ·have:=f.dM P z;omega
   rcases x P e with A|A
   ·have:=f.oG.aE P A;omega
   ·omega
 ·intro P b
  refine⟨.inr b,λe=>?_⟩;rcases x P b with g|g
  ·exact b1 (e▸g)
  ·omega
 ·intro P b
  rcases b with b|b
  ·have:=f.dM P b;have:=y.size;omega
  ·have:=a3.aE P b;omega
 ·exact y
 ·intro P b
  rcases b with b|b
  ·exact .inl b
  rcases x P b with g|g
  ·exact .inl (f.ma P g).1
  ·exact .inr oM
 ·intro P b
  rcases b with b|b
  ·exact .inl b
  ·exact .inr (by have:=Y P b;omega)
end
end Go.Proofs.YtblabbpipmodgaaGreatDoor
namespace Go.aw
open Go
variable{F a c i o:Nat}{f:ZN}{d:YQ}{h:Program}{j:Type}{g n:TypeId}{b:World}
def aU.RL{k:Nat}{P:j->List Value}{p:j->Prop}{hl h1}{e:List j}{x:j}{s:ZU}(l:aU (flat k P p hl h1) n f b d a c e)(z:F<e.length)(A:0<k)(B:p x)(C:d=some ⟨i,o,none⟩)(E:iI h g (P x)=true)(q:∀m,aU (flat k P p hl h1) n f m d a c (e.set F x)->aj (λi=>aH d=some i) b m->m.heap.size=b.heap.size->s m):yo h g (.pointer (some ⟨i,o+F*k,none⟩)) (.agg (P x).toArray) b s:=by
 have L:=l.len A;obtain⟨cs,D,t,H,u⟩:=l.body;have M:cs.length=a*k:=t.length;have N:(F+1)*k<=a*k:=Q0 _ oM;have I:(F+1)*k=F*k+k:=by rw[X7,Nat.one_mul]
 refine t.store (m:=F*k) C E (by rw[hl];omega) λJ K v w=>q J ⟨⟨_,D,K,?_,u⟩,l.self,λi r=>by rw[w];exact l.aE i r⟩ v w;have y:=H.keep v λi r=>(u i r).2;rw[hl,<-I,show e.set F x=e.take F++[x]++e.drop (F+1) by rw[XQ,List.singleton_append];exact List.set_eq_take_append_cons_drop .. |>.trans (Zx z)];exact bR.append (bR.append (y.take F) (bR.one ⟨rfl,B⟩)) (y.drop (F+1))
end Go.aw
namespace Go.Proofs.YtblabbpipmodgaaGreatDoor
section
open Go.aw
variable{y:FuncId}{a4 f:ZN}{d:YQ}
section
variable {w w':World} {p:Nat} {M D T E:ZN} {most:Nat} {l:List ah} {a:YQ} {n c:Nat} {L:List (Bx ah)}
def MX{F H:Array Value}{pr:ah->Bool}(I:enters ZP y=true)(m:aU pD.ke 55 (λP=>aH a=some P) w a n c L)(hl:L.length<=20000000)(J:∀(P:Bx ah) e,aj (λP=>aH a=some P) w e->YX y (F++ #[jS P.x P.a P.n P.c]++H) e (Ok λr w'=>r= .bool (pr P.x)/\ai e w')):
  YX 233 #[.slice a n c,.func (.func y) F H] w (Ok λr w'=>∃o,r= .slice a o c/\aU pD.ke 55 (λP=>aH a=some P) w' a o c (L.filter λP=>!pr P.x)/\aj (λP=>aH a=some P) w w'):=by
 have hn:=m.len dC;have b6:=m.lM;have p:∀{e:World} {f:List (Bx ah)},aU pD.ke 55 (λP=>aH a=some P) e a n c f->f.length=L.length->Row pD.ke 96 e (λP=>aH a=some P) a n f:=λ{e f} Z b7=>Z.row dC ba;refine fz (PC.ok (zU (E:=λP=>aH a=some P) (L:=L) I (λd e=>(∀P∈L.take d,pr P.x=false)/\ai w e) (λd e=>(∀P∈L.take d,pr P.x=false)/\(∀P,L[d]? =some P->pr P.x=true)/\ai w e) ⟨sM,aj.refl _⟩ (λd e h1=>(p m rfl).af h1.2) ?_) ?_)
 ·rintro d P e h ⟨i,z⟩
  refine(J P e (ai.keep z)).mono ?_;rintro _ w2 ⟨r,rfl,rfl,K⟩;refine Ok.mk ?_
  cases M:pr P.x
  ·refine .inr ⟨rfl,λN g=>?_,z.then K⟩
   rw[Qw,h]at g;rcases Q6.1 g with g|g
   ·exact i N g
   ·simp at g;subst g;exact M
  ·exact .inl ⟨rfl,i,λN g=>by rw[h]at g;cases g;exact M,z.then K⟩
 rintro _ w4 (⟨k,b8,rfl,i,a0,q⟩|⟨rfl,i,q⟩)
 rotate_left
 ·refine⟨_,rfl,al.tt sM (Ok.mk ⟨n,rfl,?_,ai.keep q⟩)⟩
  rw[Qz oM]at i;rw[List.filter_eq_self.2 λP h=>by rw[i P h];rfl];exact m.af q
 have O:L[k]? =some L[k]:=Qq oM;have a8:(L.take (k+1)).filter (λP=>!pr P.x)=L.take k:=by
  rw[Qw,O,List.filter_append,List.filter_eq_self.2 λP h=>by rw[i P h];rfl];simp[a0 _ O]
 refine⟨_,rfl,al.ff sM ⟨λo l d w'=>∃(A j:Nat) (f:List (Bx ah)),l=A/\d=j/\A<j/\j<=n/\o=n-j/\aU pD.ke 55 (λP=>aH a=some P) w' a n c f/\f.length=L.length/\f.take A=(L.take j).filter (λP=>!pr P.x)/\f.drop j=L.drop j/\aj (λP=>aH a=some P) w w',
  ⟨_,k,k+1,L,rfl,an oM,oM,oM,rfl,m.af q,rfl,a8.symm,rfl,ai.keep q⟩,?_⟩⟩
 rintro o _ _ _ Q ⟨l,d,f,rfl,rfl,b9,c0,rfl,s,B,t,R,u⟩;refine al.dec (λc1=>?_) (λc2=>?_)
 ·have v:L[d]? =some L[d]:=Qq oM
  have S:f[d]? =some L[d]:=by
   have:=Zj (·[0]?) R;simp only[List.getElem?_drop,Nat.add_zero]at this;rw[this,v]
  have T:f.drop (d+1)=L.drop (d+1):=by
   have:=Zj (List.drop 1) R
   rwa [List.drop_drop,List.drop_drop]at this
  generalize L[d]=b at v S;obtain⟨P,U,es,C,c3,c4,a9,rfl,-⟩:=(p s B).el d b S;refine⟨P,U,C,oM,oM,bB (es:=aD b.x b.a b.n b.c) (k:=10) (bf _ _ _ _) rfl (λa1 ht=>by rw[Qx];exact a9 a1 ht) (PA.mk λc5 b0 c6 b1=>aC (bf b.x b.a b.n b.c) b1 rfl λV b2 c7 W=>ar (bf b.x b.a b.n b.c) W ⟨_,_,_,rfl,I,?_⟩)⟩;have X:ai Q V:=b0.new b2 λP h=>.inr (by have h:P=Q.heap.size:=h;omega);refine PC.ok (J b V (u.af X)) ?_;rintro _ c8 ⟨rfl,Y⟩;have x:=X.then Y;refine⟨_,rfl,al.not (al.mk (λE=>⟨_,?_,l,d+1,f,rfl,an oM,oM,oM,rfl,s.af x,B,?_,T,u.af x⟩) (λE=>?_))⟩
  ·omega
  ·rw[t,Qw,v,List.filter_append]
   simp[E]
  ·refine ar (bf b.x b.a b.n b.c) (Y.get W id) ⟨P,U,C,oM,oM,?_⟩
   rw[Qx];refine aU.RL (x:=b) (k:=10) (s.af x) oM dC trivial C (bf b.x b.a b.n b.c) λc9 a7 b3 d0=>⟨_,?_,l+1,d+1,f.set l b,an oM,an oM,oM,oM,rfl,a7,by simpa using B,?_,?_,(u.af x).then b3⟩
   ·omega
   ·rw[Qw (l:=L),v,List.filter_append,<-t,Qw,List.getElem?_set_self oM,List.take_set_of_le (Q4 _)]
    simp[E]
   ·rw[List.drop_set_of_lt oM,T]
 ·obtain rfl:d=n:=oM
  rw[Qz (l:=L) oM]at t;refine⟨oM,oM,?_⟩;rw[Qx];refine zM vU kR s oM λd1 b4 b5 d2=>⟨oM,oM,Ok.mk ⟨l,rfl,?_,u.then b5⟩⟩
  rw[<-t];exact b4
def MY{b c:Nat}{e:au}(m:cJ w b f e)(n:w.heap[c]? =some (.cells #[ZL b] 96 (0,0))){a:ah}{o p:Nat}:
  YX 231 #[jS a d o p,ZL c] w (Ok λq w'=>q= .bool (e.get (aX a)).isSome/\ai w w'):=by
 refine mz (PA.mk λx P y g=>⟨_,ae (P.get n id) rfl,_,_,ae g rfl,ae g rfl,PC.ok (RM (m.af P) (aX a)) ?_⟩);rintro _ r ⟨h,i,j,G,rfl,z,A,k⟩;exact cm (rA _ h i j) ⟨_,rfl,PA.mk λB s C t=>aC (bf _ h i j) t rfl λE u F H=>Ok.mk ⟨rfl,((P.then k).then s).new u λv l=>.inr (by have l:v=r.heap.size:=l;have:=P.size;have:=k.size;omega)⟩⟩
def MZ{h j:Nat}{c:au}(n:cJ w h f c)(o:w.heap[j]? =some (.cells #[ZL h] 96 (0,0))){a:ah}{i k:Nat}(p:Row aM 8 w a4 d i a.aJ)(l:∀P,a4 P->P<w.heap.size/\¬f P)(q:a.Ok)(u:c.l.length<=20000000):
  YX 234 #[jS a d i k,ZL j] w (Ok λr w'=>r= .bool (decide ((c.add a).1=0))/\∃e,cJ w' h e (c.add a).2/\cQ f w e w'):=by
 refine mB (PA.mk λv b x s=>⟨_,ae (b.get o id) rfl,ar (bf a d i k) s (PC.ok (uf (n.af b) (p.af b) (λP g=>⟨by have:=(l P g).1;omega,(l P g).2⟩) q oM) ?_)⟩);rintro _ y ⟨rfl,e,t,m⟩;have:=b.size;exact⟨_,rfl,Ok.mk ⟨by congr 1,e,t,(ai.keep b).then m.keep,λP g=>(m.new P g).imp id oM⟩⟩
end
end
section
open Go.aw
variable{f:ZN}{d:YQ}{b:World}
section
variable {w w':World} {p:Nat} {M D E:ZN} {most:Nat} {l:List ah} {a:YQ} {n c:Nat} {L:List (Bx ah)}
structure RD (w:World) (p:Nat) (M:ZN) (most:Nat) (a:YQ) (c s tb:Nat) (T:au) (nc:Nat) (Lc:List (Bx ah)) (oa:YQ) (on oc:Nat) (Lo:List (Bx ah)) (w1:World):Prop where
 set:∃F1,cJ w1 s F1 T/\(∀b,F1 b->w.heap.size<=b/\b≠tb)/\∀b,aH oa=some b->w.heap.size<=b/\¬F1 b/\b≠tb
 ptr:w1.heap[tb]? =some (.cells #[ZL s] 96 (0,0))
 buf:w1.heap[p]? =some (.cells #[ZH (most:Int),.slice a nc c] 146 (0,0))
 oG:aU pD.ke 55 (λb=>aH a=some b) w1 a nc c Lc
 out:aU pD.ke 55 (λb=>aH oa=some b) w1 oa on oc Lo
 keep:aj M w w1
def xo(j:OZ w p M D most l a n c L){s m:Nat}{g:au}{k:Nat}{h:List (Bx ah)}{t u:Nat}{v:List (Bx ah)}(I:RD w p M most a c s m g k h d t u v b)(O:∀P∈h,P∈L)(R:g.l.length<=20000000)(a6:h.length<=20000000):
  YX 235 #[.slice a k c,.func (.func 234) #[] #[ZL m]] b (Ok λB w'=>
   (B= ZH (-1)/\(∀P∈h,(g.add P.x).1≠0)/\RD w p M most a c s m g k h d t u v w')\/
   (∃i P,i<k/\B= ZH (i:Int)/\h[i]? =some P/\(∀y∈h.take i,(g.add y.x).1≠0)/\(g.add P.x).1=0/\RD w p M most a c s m (g.add P.x).2 k h d t u v w')):=by
 have S:=j.dM p j.mp;have a7:=I.oG.len dC;have T:∀P,aH a=some P->P<w.heap.size:=λP e=>j.dM P (j.ma P e).1;refine(zU (E:=λP=>aH a=some P) (L:=h) kR (λi o=>(∀P∈h.take i,(g.add P.x).1≠0)/\RD w p M most a c s m g k h d t u v o) (λi o=>∃P,h[i]? =some P/\(∀y∈h.take i,(g.add y.x).1≠0)/\(g.add P.x).1=0/\RD w p M most a c s m (g.add P.x).2 k h d t u v o) ⟨sM,I⟩
  (λi o f=>f.2.oG.row dC ba) ?_).mono ?_
 ·rintro i P o e ⟨J,f⟩
  obtain⟨U,V,z,C⟩:=f.set;have K:=(j.MW P (O P (QZ e))).keep f.keep λP e=>(j.dD P e).2;have z2:=f.keep.size;refine(MZ V f.ptr K.1 (λP e=>⟨by have:=(j.dD P e).1;omega,λq=>by have:=(j.dD P e).1;have:=(z P q).1;omega⟩) K.2 R).mono ?_;rintro _ W ⟨B,rfl,rfl,X,Y,r⟩;have N:∀P,P<w.heap.size->¬U P:=λP e q=>by have:=(z P q).1;omega
  have Z:=aA f.ptr;have F:∀P,aH d=some P->P<o.heap.size:=λP e=>f.out.aE P e;have H:RD w p M most a c s m (g.add P.x).2 k h d t u v W:=⟨⟨X,Y,λP e=>(r.new P e).elim (z P) λA=>⟨oM,oM⟩,λP e=>⟨(C P e).1,λq=>(r.new P q).elim (C P e).2.1 λA=>by have:=F P e;omega,(C P e).2.2⟩⟩,
   r.keep.get f.ptr λq=>(z _ q).2 rfl,r.keep.get f.buf (N p S),f.oG.keep r.keep λP e=>N P (T P e),f.out.keep r.keep λP e=>(C P e).2.1,f.keep.new r.keep λP e=>.inr (z P e).1⟩
  refine Ok.mk ?_
  by_cases x:(g.add P.x).1=0
  ·exact .inl ⟨by rw[Zy x],P,e,J,x,H⟩
  ·refine .inr ⟨by rw[Xv x],λy Q=>?_,?_⟩
   ·rw[Qw,e]at Q
    rcases Q6.1 Q with Q|Q
    ·exact J y Q
    ·simp at Q;subst Q;exact x
   ·rcases g.gP P.x with⟨-,A⟩|⟨A,-⟩
    ·rw[A]at H;exact H
    ·rw[A]at x;exact Zz rfl x
 ·rintro _ o ⟨B,rfl,hv⟩
  rcases hv with⟨i,hj,rfl,P,E,f,h3,h4⟩|⟨rfl,E,f⟩
  ·exact Ok.mk (.inr ⟨i,P,hj,rfl,E,f,h3,h4⟩)
  ·rw[Qz oM]at E
   exact Ok.mk (.inl ⟨rfl,E,f⟩)
def EW(d7:gN w p M D most l){b3:Nat}{h:au}(hs:cJ w b3 f h)(g2:h.Cl)(k1:h.l.length<=19000000):
  YX 160 #[ZL p,ZL b3] w (Ok λd9 w'=>∃r A E m,d9= .slice r A E/\aU pD.ke 55 (λP=>aH r=some P) w' r A E m/\m.map (·.x)=(bH h l).1/\(∀P∈m,pD.In w' D P)/\(∀P,aH r=some P->w.heap.size<=P)/\
   gN w' p M D most (bH h l).2/\aj M w w'):=by
 obtain⟨W,a,n,c,L,g⟩:=d7;have g3:=g.dM p g.mp;have X:∀P,aH a=some P->P<w.heap.size:=λP b=>g.dM P (g.ma P b).1;have k2:L.length=l.length:=by rw[<-g.map,Q8]
 have h2:l.length<=256:=Xx W.2.le W.1;have hN:=hs.1.n;refine oS (PC.ok (lx hs) ?_);rintro _ w4 ⟨va,vn,vc,Fv,rfl,g5,k4,k3⟩;have d1:=g5.len dC;rw[h.b_]at d1;subst d1;refine⟨_,_,_,rfl,PC.ok (EX hN) ?_⟩;rintro _ B ⟨F,F2,rfl,d2,d3,k7⟩;have z4:=k4.size;have z7:=k7.size;refine⟨_,rfl,PA.mk λw9 k9 s9 g9=>PS.mk g9 sM λg6 g7 k5 g8=>?_⟩;have a1:ai B g6:=k9.new g7 λP b=>.inr (by have b:P=B.heap.size:=b;omega);have b4:=(k4.then k7).then a1;have Y:=d2.aE;refine PC.ok (qW (hs.af b4) oM) ?_;rintro _ Z ⟨ea,en,ec,G,rfl,b9,a6,hG⟩;have k6:=b9.len dC;have k8:=a1.size;have l0:=a6.size;have e6:Row ia 96 Z G ea en h.l:=b9.row dC ba;have h4:Z.heap[B.heap.size]? =some (.cells #[ZL F] 96 (0,0)):=a6.get g8 id;have d5:=b9.aE;refine⟨_,_,_,rfl,λR a2 w'=>∃(e:Nat) (S:ZN),a2=e/\e<=en/\R=en-e/\cJ w' F S ((⟨h.n,[]⟩:au).eE (h.l.take e))/\(∀P,S P->F2 P\/Z.heap.size<=P)/\aj F2 Z w',⟨_,0,F2,rfl,Qj _,rfl,d2.af (a1.then a6),λP b=>.inl b,aj.refl _⟩,?_⟩;rintro R _ _ a7 ⟨e,S,rfl,hj,rfl,a8,a9,T⟩;have l3:=T.size;have c0:=T.get h4 λH=>by have:=Y _ H;omega
 refine al.dec (λl4=>?_) (λl5=>?_)
 ·have K:h.l[e]? =some h.l[e]:=Qq oM
  generalize h.l[e]=N at K;have e7:=e6.keep T λP b H=>by have:=Y _ H;have:=hG P b;omega
  obtain⟨P,f0,es,ha,l6,l7,c1,xa,xn,xc,rfl,h6,f1⟩:=e7.el e N K;refine⟨P,f0,ha,oM,oM,bB (es:=aD N xa xn xc) (k:=10) (bf _ _ _ _) rfl (λa2 ht=>by rw[Qx];exact c1 a2 ht) (PA.mk λl8 h7 l9 h8=>aC (bf N xa xn xc) h8 rfl λh9 i1 m1 i3=>?_)⟩;have O:ai a7 h9:=h7.new i1 λP b=>.inr (by have b:P=a7.heap.size:=b;omega);have c2:=au.mC (h.l.take e) ⟨h.n,[]⟩;rw[Qy]at c2;simp only[ZQ]at c2;refine⟨_,ae (O.get c0 id) rfl,ar (bf N xa xn xc) i3 (PC.ok (uf (a8.af O) (h6.af O) (λP b=>⟨by have:=d5 P b;have:=O.size;omega,λH=>?_⟩) f1 oM) ?_)⟩
  ·rcases a9 P H with k|k
   ·have:=Y _ k;have:=hG P b;omega
   ·have:=d5 P b;omega
  rintro _ i4 ⟨rfl,F3,i5,d8⟩;refine⟨_,rfl,_,oM,e+1,F3,an oM,oM,rfl,?_,λP b=>?_,?_⟩
  ·rw[Qw,K]
   show cJ i4 F F3 (au.eE _ (h.l.take e++[N]));rw[au.qX];exact i5
  ·rcases d8.new P b with k|k
   ·exact a9 P k
   ·have:=O.size;exact .inr oM
  ·exact(T.af O).new d8.keep λP b=>a9 P b
 rw[Qz oM,g2.TX]at a8;have b5:ai w a7:=(b4.then a6).new T λP b=>.inr (by have:=d3 P b;omega);have c3:=g.keep b5 (λ_ _ g=>g) λ_ _ g=>g;have t:∀P,S P->w.heap.size<=P/\P≠B.heap.size:=λP b=>by
  rcases a9 P b with k|k
  ·have:=d3 P k;have:=Y P k;omega
  ·omega
 refine⟨p,0,rfl,_,_,_,ae c3.at' rfl,PC.ok (MX (pr:=λd=>(h.get (aX d)).isSome) kR c3.oG oM λP w1 hk=>?_) ?_⟩
 ·refine MY (a8.keep hk λP b d=>?_) (hk.get c0 λd=>?_)
  ·have:=X P d;have:=(t P b).1;omega
  ·have:=X _ d;omega
 rintro _ m2 ⟨m0,rfl,f5,e0⟩;have b0:¬aH a=some p:=λd=>(g.ma p d).2 rfl;refine⟨_,_,_,rfl,p,0,rfl,PS.mk (e0.get c3.at' b0) sM λe1 e2 m3 e3=>⟨p,0,rfl,_,_,_,ae e3 rfl,?_⟩⟩;obtain⟨u,z⟩:∃u,u=L.filter λP=>!(h.get (aX P.x)).isSome:=⟨_,rfl⟩
 have a3:aj (λP=>aH a=some P\/P=p) a7 e1:=(e0.mono λP _ b=>.inl b).then (e2.mono λP _ b=>.inr b);have VV:∀P,aH a=some P\/P=p->P<w.heap.size:=λP b=>b.elim (X P) λd=>d▸g3;have e4:RD w p M most a c F B.heap.size h m0 u none 0 0 [] e1:=by
  refine⟨⟨S,a8.keep a3 λP b d=>by have:=VV P d;have:=(t P b).1;omega,t,λP b=>by cases b⟩,a3.get c0 λd=>by have:=VV _ d;omega,e3,?_,(aU.nil _).mono (λP b=>b.elim) λP b=>(by cases b),?_⟩
  ·rw[z];exact f5.keep e2 λP b d=>b0 (by have d:P=p:=d;rw[<-d];exact b)
  ·exact(ai.keep b5).then (a3.mono λP _ b=>b.elim (λd=>(g.ma P d).1) λd=>d▸g.mp)
 have b6:∀P∈u,P∈L:=λP b=>by rw[z]at b;exact(List.mem_filter.1 b).1
 have a4:u.map (·.x)=l.filter λd=>(h.get (aX d)).isNone:=by
  rw[z,<-g.map,List.filter_map]
  congr 1
  refine List.filter_congr λP b=>?_;show(!(h.get (aX P.x)).isSome)=(h.get (aX P.x)).isNone
  cases h.get (aX P.x)<;>rfl
 have b7:u.length<=L.length:=by rw[z];exact List.length_filter_le ..
 refine PC.ok (xo g e4 b6 oM oM) ?_;rintro i6 m4 b8;obtain⟨i0,i7⟩:∃v:Int,i6= ZH v:=by
  rcases b8 with⟨o,-⟩|⟨e,P,-,o,-⟩
  ·exact⟨_,o⟩
  ·exact⟨_,o⟩
 subst i7;refine⟨_,rfl,λR r A E v w'=>∃(s:au) (i m:List (Bx ah)) (C U:Nat),R=i.length/\(∀P∈i,P∈L)/\(∀P∈m,P∈L)/\(i.map (·.x)).Sublist l/\i.length<=U/\s.l.length+i.length<=h.l.length+L.length/\i.length<=L.length/\m.length+i.length<=L.length/\C=i.length/\
   dm (U+1) s (i.map (·.x)) (m.map (·.x))=bH h l/\
   ((v= -1/\(∀P∈i,(s.add P.x).1≠0)/\RD w p M most a c F B.heap.size s C i r A E m w')\/
    (∃e P,e<C/\v=(e:Int)/\i[e]? =some P/\(∀x∈i.take e,(s.add x.x).1≠0)/\(s.add P.x).1=0/\RD w p M most a c F B.heap.size (s.add P.x).2 C i r A E m w')),?_,?_⟩
 ·have i8:=e4.oG.len dC
  refine⟨_,h,u,[],m0,u.length,rfl,b6,sM,by rw[a4];exact List.filter_sublist,Q4 _,oM,b7,by simpa using b7,i8,?_,?_⟩
  ·rw[a4]
   show dm (u.length+1) h _ []=_;unfold bH;rw[<-a4];show _=dm ((u.map (·.x)).length+1) h _ [];rw[Q8]
  ·rcases b8 with⟨o,I,J⟩|⟨e,P,o,I,J⟩
   ·exact .inl ⟨by simpa using o,I,J⟩
   ·exact .inr ⟨e,P,o,by simpa using I,J⟩
 rintro R r A E v _ i9 ⟨s,i,m,C,U,rfl,a5,c5,e5,hk,m5,j9,k0,m6,c6,j0⟩;rcases j0 with⟨rfl,c4,j⟩|⟨e,P,hj,rfl,b,c4,f7,j⟩
 ·refine al.ff sM (Ok.mk ⟨r,A,E,m,rfl,j.out,?_,λP b=>(g.MW P (c5 P b)).keep j.keep λP b=>(g.dD P b).2,λP b=>by obtain⟨F1,-,-,k⟩:=j.set;exact(k P b).1,⟨⟨W.1,?_⟩,a,C,c,i,j.buf,j.oG,?_,λP b=>(g.MW P (a5 P b)).keep j.keep λP b=>(g.dD P b).2,λP b=>⟨by have:=(g.dD P b).1;have:=j.keep.size;omega,(g.dD P b).2⟩,g.mp,g.ma,λP b=>by have:=g.dM P b;have:=j.keep.size;omega⟩,j.keep⟩)
  all_goals
   have f8:bH h l=(m.map (·.x),i.map (·.x)):=by
    rw[<-c6];unfold dm;rw[sg λd he=>by obtain⟨P,b,rfl⟩:=Xk.1 he;exact c4 P b]
   rw[f8]
  exact W.2.sub e5
 ·have j1:e<i.length:=oM
  have m7:=j;obtain⟨F1,e8,e9,b1⟩:=j.set;have m8:=j.keep.size;have c2:=s.zi P.x;obtain⟨gb,go,es,ha,m9,n0,c1,rfl,-⟩:=(j.oG.row (bytes:=96) dC ba).el e P b;have d:=λv (hi:v<10)=>c1 v hi;refine al.dec (λ_=>⟨p,0,rfl,_,_,_,ae j.buf rfl,gb,go,ha,oM,oM,_,_,_,_,_,_,_,_,_,_,_,_,d 0 dC,d 1 dC,d 2 dC,d 3 dC,d 4 dC,d 5 dC,d 6 dC,d 7 dC,d 8 dC,d 9 dC,PA.mk λj2 f2 n1 j3=>?_⟩) (λhn=>oM);have n2:=j.out.len dC;refine eJ (c:=pD.ke) (x:=P) (D:=λ_=>False) (j.out.af f2) vU j3 ⟨rfl,trivial⟩ (λP b=>b.elim) ba (by unfold maxLen;omega) λV b2 f3 Fo c9 j4 j5=>⟨_,_,_,rfl,p,0,rfl,?_⟩
  have f9:=c9.alone;have d0:∀P,aH V=some P->aH r=some P\/j2.heap.size<=P:=λP b=>(j5 P (c9.self P b)).imp id λg=>g.resolve_left id;have q:∀P,aH r=some P->w.heap.size<=P:=λP b=>(b1 P b).1;have Q:aj (λP=>aH r=some P) i9 f3:=(ai.keep f2).then j4;have f4:=Q.get j.buf λd=>by have:=q _ d;omega
  have g4:=j.oG.keep Q λP b d=>by have:=q _ d;have:=X P b;omega
  have n3:=Q.size;refine⟨_,_,_,ae f4 rfl,PC.ok (TW g4 hj oM) ?_⟩;rintro _ n4 ⟨rfl,h0,c7⟩;have n8:=c7.size;refine⟨_,_,_,rfl,p,0,rfl,PS.mk (c7.get f4 b0) sM λf6 g0 n9 g1=>⟨p,0,rfl,_,_,_,ae g1 rfl,?_⟩⟩;have o0:(i.eraseIdx e).length=i.length-1:=List.length_eraseIdx_of_lt j1;have a0:aj (λP=>aH a=some P\/P=p) f3 f6:=(c7.mono λP _ b=>.inl b).then (g0.mono λP _ b=>.inr b);have c8:∀P,w.heap.size<=P->¬(aH a=some P\/P=p):=λP b d=>by have:=VV P d;omega
  have j6:RD w p M most a c F B.heap.size (s.add P.x).2 (C-1) (i.eraseIdx e) V (A+1) b2 (m++[P]) f6:=by
   refine⟨⟨F1,(e8.keep Q λP b d=>(b1 P d).2.1 b).keep a0 λP b=>c8 P (e9 P b).1,e9,λP b=>?_⟩,a0.get (Q.get j.ptr λd=>(b1 _ d).2.2 rfl) (c8 _ oM),g1,h0.keep g0 λP b d=>b0 (by have d:P=p:=d;rw[<-d];exact b),f9.keep a0 λP b=>c8 P ?_,?_⟩
   ·rcases d0 P b with k|k
    ·exact b1 P k
    ·have hd:=e8.aE
     have o1:=aA j.ptr;exact⟨oM,λH=>by have:=hd P H;omega,oM⟩
   ·rcases d0 P b with k|k
    ·exact q P k
    ·omega
   ·exact(j.keep.new Q λP b=>.inr (q P b)).then (a0.mono λP _ b=>b.elim (λd=>(g.ma P d).1) λd=>d▸g.mp)
  have d4:∀x∈i.eraseIdx e,x∈L:=λx y=>a5 x ((List.eraseIdx_sublist ..).subset y);refine PC.ok (xo g j6 d4 oM oM) ?_;rintro j7 o2 d6;obtain⟨i2,j8⟩:∃v:Int,j7= ZH v:=by
   rcases d6 with⟨o,-⟩|⟨e,P,-,o,-⟩
   ·exact⟨_,o⟩
   ·exact⟨_,o⟩
  subst j8;have h1:∃k',U=k'+1:=⟨U-1,oM⟩
  obtain⟨k',rfl⟩:=h1;refine⟨_,rfl,(i.eraseIdx e).length,oM,(s.add P.x).2,i.eraseIdx e,m++[P],C-1,k',rfl,d4,?_,?_,oM,oM,oM,by simp;omega,oM,?_,?_⟩
  ·intro x y
   rcases Q6.1 y with y|y
   ·exact c5 x y
   ·simp at y;subst y;exact a5 x (QZ b)
  ·exact((List.eraseIdx_sublist ..).map _).trans e5
  ·rw[<-c6]
   conv=>rhs;unfold dm
   rw[sh (i:=e) (e:=P.x) (λN K=>by rw[<-List.map_take]at K;obtain⟨x,y,rfl⟩:=Xk.1 K;exact c4 x y) (by rw[Q9,b];rfl) f7];show _=dm (k'+1) (s.add P.x).2 ((i.map (·.x)).eraseIdx e) (m.map (·.x)++[P.x]);rw[map_eraseIdx,Q3];rfl
  ·rcases d6 with⟨o,I,J⟩|⟨e,P,o,I,J⟩
   ·exact .inl ⟨by simpa using o,I,J⟩
   ·exact .inr ⟨e,P,o,by simpa using I,J⟩
end
def Kd:kf:=⟨[(2,[(10,ZH 0)])],[],[],[],[]⟩
variable{z:ZT}{e q:Int}{a c:Nat}
def Ke(j:(∃g:Nat->Int->ZU,(∃f,g f 0 b)/\∀(f:Nat) (P:Int) (r:Nat->Value) (h:World),g f P h->al (decide (P<(a:Int))) ((ix_ d P a λk l=>PS h (ad k (l+Int.toNat P*5+1)) (.ii e) λm=>(ix_ d P a λn o=>PS m (ad n (o+Int.toNat P*5+2)) (.ii q) λp=>(∃i,i<f/\g i (IntKind.wrap .i64 (P+1)) p)))) (rt z ((.slice d a c)) h))):YX 103 #[.ii e,.ii q,.slice d a c] b z:=DC Kd Tryz.func103 rfl j

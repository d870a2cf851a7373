import Derived.Test.YtfchlbaidamodaaGreatDoorKc14
import Derived.Shelf.SlSortCmp.NoneTotal
set_option linter.all false
set_option maxRecDepth 100000
namespace Go.Proofs.YtfchlbaidamodaaGreatDoor
open Go.ax Go.Sort
def bg(a:ah)(b:Option Addr)(c d:Nat):jg ZQ 59 (aE a b c d)=true:=kR
def sW(a:ah)(b:Option Addr)(c d:Nat):TF (fe ZQ 59) (.agg (aE a b c d).toArray)=true:=kR
def G(a b:World):Prop:=∃c d,b=grow (a.drewN c) d
variable{t:Ending->World->Prop}{C e m:Int}{d6:Int×Int}{h3:List ((Int×Int)×ah)}{B e6:List ah}{a c i n:Nat}{f:Nat->Prop}{d0:Obj}{d p:Option Addr}{g:TypeId}{a9 b k:World}{y:World->Prop}{L l:ah}{H:aq}
def G.then(f:G b k)(g:G k a9):G b a9:=by
 obtain⟨a,c,rfl⟩:=f;obtain⟨d,e,rfl⟩:=g;exact⟨a+d,c++e,by show grow (grow ((b.drewN a).drewN d) c) e=_;rw[grow_grow,World.drewN_drewN]⟩
def G.keep{S:Nat->Prop}(a:G b k):aj S b k:=by
 obtain⟨f,c,rfl⟩:=a;refine⟨rfl,rfl,rfl,by simp[grow],λd e _=>?_⟩;show(b.heap++c)[d]? =_;rw[Array.getElem?_append_left e]
def G.drew(a:bE b k):G b k:=by obtain⟨c,rfl⟩:=a;exact⟨c,#[],sM⟩
def PA.Yg(c:∀a,G b a->a.heap.size=b.heap.size+1->a.heap[b.heap.size]? =some d0->y a):PA b d0 y:=
 c (b.alloc d0) ⟨0,#[d0],by rw[alloc_eq_grow];rfl⟩ sM (heap_alloc_new b d0)
def isNaN:Calls ZQ 277 #[QH e] b (Ok λa c=>a= .bool false/\b=c):=AD (Ok.mk ⟨sM,rfl⟩)
def KV(a b:Int):Int:=if a<b then-1 else if b<a then 1 else 0
def il:Calls ZQ 209 #[QH e,QH m] b (Ok λd f=>d= QH (KV e m)/\b=f):=by
 refine vZ (PC.ok isNaN ?_);rintro _ _ ⟨rfl,rfl⟩;refine⟨_,rfl,PC.ok isNaN ?_⟩;rintro _ _ ⟨rfl,rfl⟩;refine⟨_,rfl,al.ff rfl (al.ff rfl (al.dec (λa=>Ok.mk ⟨by unfold KV;rw[if_pos a],rfl⟩) (λa=>al.dec (λc=>Ok.mk ⟨by unfold KV;rw[if_neg a,if_pos c],rfl⟩) (λc=>Ok.mk ⟨by unfold KV;rw[if_neg a,if_neg c],rfl⟩))))⟩
def OQ:List Int->Int
 |[]=>0
 |x::a=>if x≠0 then x else OQ a
def Ry(s:b.heap[a]? =some (.cells #[QH e,QH m,QH C] g (0,0))):
  Calls ZQ 208 #[.slice (ZZ a) 3 3] b (Ok λj h=>j= QH (OQ [e,m,C])/\b=h):=by
 refine Hu ⟨λn f h=>∃c:Nat,f=c/\c<=3/\n=3-c/\OQ [e,m,C]=OQ ([e,m,C].drop c)/\b=h,⟨_,0,rfl,oM,rfl,rfl,rfl⟩,?_⟩;rintro n f _ _ ⟨c,rfl,x,rfl,k,rfl⟩;refine al.dec (λt=>?_) (λt=>?_)
 ·have u:∀i:Int,[e,m,C][c]? =some i->∃o p,(ZZ a:Option Addr)=some ⟨o,p,none⟩/\(0:Int)<=c/\(c:Int)<((3:Nat):Int)/\∃l:Int,b.cell? ⟨o,p+Int.toNat c,none⟩=some (QH l)/\al (l !=0) (Ok (λj h=>j= QH (OQ [e,m,C])/\b=h) (.returned (QH l)) b) (∃q,q<3-c/\∃f:Nat,IntKind.wrap .i64 ((c:Int)+1)=f/\f<=3/\q=3-f/\OQ [e,m,C]=OQ ([e,m,C].drop f)/\b=b):=by
   intro i d;have r:[e,m,C].drop c=i::[e,m,C].drop (c+1):=by
    rw[X4 (by simp;omega)];congr 1;simpa using(Qv.1 d).2
   refine⟨a,0,rfl,oM,oM,i,ae s ?_,al.dw (λv=>Ok.mk ⟨?_,rfl⟩) (λw=>⟨_,oM,c+1,an oM,oM,rfl,?_,rfl⟩)⟩
   ·rw[Xz]
    match c,d with
    |0,d=>simp at d;simp[d]
    |1,d=>simp at d;simp[d]
    |2,d=>simp at d;simp[d]
    |c+3,d=>simp at d
   ·rw[k,r,OQ,if_pos v]
   ·rw[k,r,OQ,if_neg (by simpa using w)]
  have d:c<[e,m,C].length:=by simp;omega
  exact u [e,m,C][c] (by simp[d])
 ·obtain rfl:c=3:=oM
  exact Ok.mk ⟨by rw[k];rfl,rfl⟩
def IX(a b:ah):OQ [KV a.aA b.aA,KV a.origin b.origin,KV a.seq b.seq]=tJ a b:=by
 unfold tJ fg KV OQ OQ OQ OQ
 by_cases f:a.aA<b.aA
 ·simp[f]
 by_cases i:b.aA<a.aA
 ·simp[f,i];omega
 have c:a.aA=b.aA:=oM
 by_cases g:a.origin<b.origin
 ·simp[c,g]
 by_cases j:b.origin<a.origin
 ·simp[c,g,j];omega
 have d:a.origin=b.origin:=oM
 by_cases e:a.seq<b.seq
 ·simp[c,d,e]
 by_cases h:b.seq<a.seq
 ·simp[c,d,e,h]
 ·simp[c,d,e,h]
def DU:Calls ZQ 150 #[.agg (aE l d a c).toArray,.agg (aE L p i n).toArray] b (Ok λk m=>k= QH (tJ l L)/\G b m):=by
 refine yd (PA.Yg λu o v q=>PA.Yg λw h x r=>λy s=>⟨λ_=>False,?_⟩);have e:=G.drew s;have f:=(e.keep (S:=λ_=>False)).get ((h.keep (S:=λ_=>False)).get q id) id;have g:=(e.keep (S:=λ_=>False)).get r id;refine⟨_,ae f rfl,_,ae g rfl,id,_,ae f rfl,id,_,ae g rfl,id,_,ae f rfl,id,_,ae g rfl,PC.ok il ?_⟩;rintro _ _ ⟨rfl,rfl⟩;refine⟨_,rfl,aj.refl _,PC.ok il ?_⟩;rintro _ _ ⟨rfl,rfl⟩;refine⟨_,rfl,aj.refl _,PC.ok il ?_⟩;rintro _ _ ⟨rfl,rfl⟩;refine⟨_,rfl,aj.refl _,PA.Yg λz j A t=>⟨j.keep,PC.ok (Ry t) ?_⟩⟩;rintro _ _ ⟨rfl,rfl⟩;exact⟨_,rfl,aj.refl _,Ok.mk ⟨by rw[IX],((o.then h).then e).then j⟩⟩
structure Ti where
 e:ah
 a:Option Addr
 n:Nat
 c:Nat
instance:Inhabited Ti:=⟨⟨⟨0,0,0,[],0,0,0,0,0,0⟩,none,0,0⟩⟩
def encS(a:Ti):List Value:=aE a.e a.a a.n a.c
def Tj(b:Ti):∀c∈encS b,c.oneCell'=true:=by
 intro d a;simp only[encS,aE,Q2,List.not_mem_nil,or_false]at a;rcases a with rfl|rfl|rfl|rfl|rfl|rfl|rfl|rfl|rfl|rfl<;>rfl
def Bg(a b:Ti):ltOf (λa b:Ti=>tJ a.e b.e) a b=fg a.e b.e:=by
 unfold ltOf tJ
 cases c:fg a.e b.e
 ·cases d:fg b.e a.e<;>simp[c,d]
 ·simp[c]
def jR:fg l L=true↔l.aA<L.aA\/l.aA=L.aA/\(l.origin<L.origin\/l.origin=L.origin/\l.seq<L.seq):=by simp[fg]
def vB:fg l L=false↔¬(l.aA<L.aA\/l.aA=L.aA/\(l.origin<L.origin\/l.origin=L.origin/\l.seq<L.seq)):=by rw[<-jR];simp
def Yh:SWO (ltOf λa b:Ti=>tJ a.e b.e) where
 irrefl a:=by rw[Bg,vB];omega
 trans a b z h1 h2:=by rw[Bg,jR]at*;omega
 ntrans a b z h1 h2:=by rw[Bg,vB]at*;omega
def _root_.Go.ax.bT.evs{f:World}{D:Nat->Prop}:∀{c:List ah} {cs:List Value},bT fZ f D c cs->∃b:List Ti,b.map (·.e)=c/\cs=b.flatMap encS/\∀a∈b,Row aP 8 f D a.a a.n a.e.aK/\a.e.Ok
 |[],_,g=>⟨[],rfl,g,sM⟩
 |e::c,_,⟨s,t,h,⟨i,j,k,l,m,n⟩,o⟩=>by
  obtain⟨b,p,q,r⟩:=Go.ax.bT.evs o;refine⟨⟨e,i,j,k⟩::b,by simp[p],by rw[h,l,q];rfl,?_⟩;intro a d;rcases Q2.1 d with rfl|d
  ·exact⟨m,n⟩
  ·exact r a d
def _root_.Go.ax.bT.Tk{c:World}{D:Nat->Prop}:∀{a:List Ti},(∀x∈a,Row aP 8 c D x.a x.n x.e.aK/\x.e.Ok)->bT fZ c D (a.map (·.e)) (a.flatMap encS)
 |[],_=>rfl
 |x::a,b=>⟨encS x,a.flatMap encS,rfl,⟨x.a,x.n,x.c,rfl,(b x (QV ..)).1,(b x (QV ..)).2⟩,Go.ax.bT.Tk λd e=>b d (QJ _ e)⟩
def sC{b:List Ti}(c:a<b.length*10):(b.flatMap encS)[a]? =(encS b[a/10]!)[a % 10]? :=by
 induction b generalizing a with
 |nil=>simp at c
 |cons f b g=>
  have h:(encS f).length=10:=rfl;rw[List.flatMap_cons]
  by_cases d:a<10
  ·rw[XW oM,Nat.div_eq_of_lt d,Nat.mod_eq_of_lt d];rfl
  ·rw[X8 oM,h,g (by simp at c;omega)]
   obtain⟨e,rfl⟩:∃e,a=e+10:=⟨a-10,oM⟩
   rw[Nat.add_sub_cancel,Nat.add_div_right _ dC,Nat.add_mod_right];simp
def iz(a:List Ti):(a.flatMap encS).length=a.length*10:=by
 induction a with
 |nil=>rfl
 |cons b a c=>rw[List.flatMap_cons,QX,c];have d:(encS b).length=10:=rfl;rw[d];simp;omega
def DV(a:List Ti):(flatK encS 10 a.toArray).toList=a.flatMap encS:=by
 apply X3;intro b
 by_cases c:b<a.length*10
 ·rw[sC c]
  have f:b<(flatK encS 10 a.toArray).size:=by simpa using c
  have d:=get_flatK encS 10 a.toArray b (by simpa using c);rw[getElem!_pos _ b f]at d;have g:(encS a[b/10]!).length=10:=rfl;have e:b % 10<(encS a[b/10]!).length:=by rw[g];omega
  rw[Qq (by simpa using c),Qq e]
  congr 1
  rw[Array.getElem_toList,d];rw[getElem!_pos _ _ (by simpa using e)]
  congr 1
  simp
 ·rw[Q7 (by simpa using c),Q7 (by rw[iz];omega)]
def DT(a:List ah):Prop:=a.Pairwise λb c=>fg c b=false
def KS(n:aV fZ 59 f b d a c B)(u:B.length<=20000000):
  Calls ZQ 149 #[.slice d a c,.func (.func 150) #[] #[]] b (Ok λN v=>N= .tuple #[]/\∃C,C.Perm B/\DT C/\aV fZ 59 f v d a c C/\aj (λo=>aI d=some o) b v):=by
 obtain⟨cs,D,E,Z,O⟩:=n.body;obtain⟨g,F,rfl,a4⟩:=Z.evs;have H:=n.len dC;have w:g.length=a:=by rw[H,<-F];simp
 rcases E.cases with⟨rfl,rfl,rfl,h0⟩|⟨i,k,rfl,x,P,I,Q⟩
 ·have hd:g=[]:=QW w
  refine(AnyF.slices_SortFunc_none Tryz.Vz none 0 _ b).mono ?_;rintro q v ⟨rfl,rfl⟩;exact Ok.mk ⟨rfl,B,List.Perm.refl _,by rw[<-F,hd];exact List.Pairwise.nil,n,aj.refl _⟩
 ·have R:fZ.k=10:=rfl
  rw[R]at Q I;have a5:flatK encS 10 g.toArray=(g.flatMap encS).toArray:=by rw[<-DV]
  have hH:HoldsK encS 10 b i 0 g.toArray:=by
   intro l r;rw[size_flatK]at r;simp only[List.size_toArray]at r;have S:l<(g.flatMap encS).length:=by rw[iz];exact r
   refine⟨?_,by simp[World.frozen?,x]⟩;have m:(flatK encS 10 g.toArray)[l]! =(g.flatMap encS)[l]:=by
    rw[a5,getElem!_pos _ l (by simpa using S)];simp
   rw[m,Xz];refine ae x ?_;have j:(k.toList.take (a*10))[l]? =some (g.flatMap encS)[l]:=by rw[Q];exact Qq S
   rw[Xw,if_pos oM]at j;simpa using j
  have u:=E.row;have J:c<=maxLen:=by
   obtain⟨_,a0,_,T,_,_,_,J,_⟩:=E.row.2.resolve_left (by rintro⟨n,_⟩;cases n);simp only[XX]at T;rw[T.2.2];exact J
  have a6:g.toArray.size<4611686018427387904:=by
   simp only[List.size_toArray,w];omega
  have U:=AnyQ.slices_SortFunc Tryz.Vz 10 (λb=>dA _ _ _ kR ⟨_,Tryz.underlying59⟩ b) (λb=>Tryz.sizeOf59 b) encS (λ_=>rfl) Tj (λy V=>tJ y.e V.e) Yh 150 #[] i 0 c g.toArray b
   (enters_of Tryz.func150 kR rfl) (λb0 s dk b1 y V=>(DU).mono ?_) hH (aC x) a6
  ·rw[show g.toArray.size=a by simpa using w]at U
   refine U.mono ?_;rintro q v ⟨rfl,h,z,s,hp,hs,rfl⟩;obtain⟨p1,p2,W⟩:=hp;have e:h.size=a:=p1.trans (by simpa using w);have X:h.toList.Perm g:=by
    have m:h.extract 0 a=h:=by rw[<-e];exact Array.extract_size
    have j:g.toArray.extract 0 a=g.toArray:=by rw[show a=g.toArray.size by simpa using w.symm];exact Array.extract_size
    rw[m,j]at W;exact W
   have a1:flatK encS 10 h=(h.toList.flatMap encS).toArray:=by rw[<-DV]
   have K:(sortWorldK encS 10 b i 0 z h s).heap[i]? =some (.cells (putCells id 0 (flatK encS 10 h) k) 59 (0,0)):=by
    have a7:=aC x;show((Sort.ahead b z).heap.modify i _++s)[i]? =_;rw[Array.getElem?_append_left (by simpa[Sort.ahead]using a7),Array.getElem?_modify,if_pos rfl];show Option.map _ b.heap[i]? =_;rw[x];rfl
   have A:aj (λo=>aI (ZZ i)=some o) b (sortWorldK encS 10 b i 0 z h s):=by
    refine⟨rfl,rfl,rfl,?_,λa2 A H=>?_⟩
    ·show b.heap.size<=((Sort.ahead b z).heap.modify i _++s).size
     simp[Sort.ahead]
    ·show((Sort.ahead b z).heap.modify i _++s)[a2]? =_
     rw[Array.getElem?_append_left (by simpa[Sort.ahead]using A),Array.getElem?_modify,if_neg (λq=>H (by rw[q];rfl))]
     rfl
   have a3:(putCells id 0 (flatK encS 10 h) k).size=c*10:=by unfold putCells;rw[Array.size_mapIdx];exact I
   refine Ok.mk ⟨rfl,h.toList.map (·.e),by rw[<-F];exact X.map _,?_,⟨⟨h.toList.flatMap encS,D,⟨⟨?_,.inr ⟨i,c,_,rfl,Qj _,K,P,J,a3,?_⟩⟩⟩,bT.Tk λy hx=>?_,O⟩,n.self,λo u=>Qk (n.aF o u) A.size⟩,A⟩
   ·unfold DT
    rw[List.pairwise_map,List.pairwise_iff_getElem];intro Y l hi r a8;have m:=hs Y l (Qj _) a8 (by simpa[e]using r);rw[Bg,getElem!_pos _ l (by simpa using r),getElem!_pos _ Y (by simpa using hi)]at m;simpa using m
   ·rw[iz,XK,e];rfl
   ·apply X3
    intro t;rw[R,Xw];split
    ·rename_i p
     rw[sC (by rw[XK,e];exact p),<-sC (by rw[XK,e];exact p)];unfold putCells;have a9:t<k.size:=by rw[I];exact Qk p (Q0 _ P)
     rw[Array.getElem?_toList,Array.getElem?_mapIdx,X6 a9];simp only[Option.map_some];have L:t<(flatK encS 10 h).size:=by rw[size_flatK,e];exact p
     rw[if_pos ⟨Qj _,by rw[Xz];exact L⟩,Nat.sub_zero,getElem!_pos _ t L];have:(flatK encS 10 h)[t]=(h.toList.flatMap encS)[t]'(by rw[iz,XK,e];exact p):=by
      have j:=congrArg (·[t]?) a1;simp only[List.getElem?_toArray]at j;rw[X6 L,Qq (by rw[iz,XK,e];exact p)]at j;exact XJ j
     rw[this];exact(Qq _).symm
    ·rename_i p
     rw[Q7 (by rw[iz,XK,e];omega)]
   ·have M:y∈g:=X.mem_iff.1 hx
    obtain⟨m,j⟩:=a4 y M;exact⟨m.keep A λo u q=>(O o u).2 q,j⟩
  ·rintro q v ⟨N,rfl,rfl,hG⟩
   exact⟨rfl,hG⟩
open Go.ax
abbrev VF(a:List ah):Prop:=a.Pairwise λb c=>fg b c=true
structure aq.OK (S:aq):Prop where
 n:S.n<=64
 Rz:VF S.l
 ids:(S.l.map aO).Nodup
 TC:∀e∈S.l,dh e S.n=0
 ok:∀e∈S.l,e.Ok
def GY(b:aO l≠aO L):fg l L=true\/fg L l=true:=by
 rw[jR,jR];have:¬(l.origin=L.origin/\l.seq=L.seq):=λa=>b (by unfold aO;rw[a.1,a.2]);omega
def uq{a b c:ah}(d:fg a b=true)(e:fg b c=true):fg a c=true:=by rw[jR]at*;omega
def ns(a:fg l L=true):fg L l=false:=by rw[jR]at a;rw[vB];omega
def cX(b:ah):∀a,(dO b a).Perm (b::a)
 |[]=>List.Perm.refl _
 |x::a=>by
  unfold dO;split
  ·exact List.Perm.refl _
  ·exact(List.Perm.cons x (cX b a)).trans (List.Perm.swap b x a)
def xK{e:ah}:∀{b},VF b->(∀x∈b,aO x≠aO e)->VF (dO e b)
 |[],_,_=>by unfold dO;exact List.pairwise_singleton ..
 |x::b,f,g=>by
  obtain⟨h,i⟩:=List.pairwise_cons.1 f;unfold dO;split
  ·rename_i d
   exact List.pairwise_cons.2 ⟨λc a=>by
    rcases Q2.1 a with rfl|a
    ·exact d
    ·exact uq d (h c a),f⟩
  ·rename_i d
   refine List.pairwise_cons.2 ⟨λc a=>?_,xK i λc a=>g c (QJ _ a)⟩;rcases Q2.1 ((cX e b).mem_iff.1 a)with rfl|a
   ·exact(GY (g x (QV ..))).resolve_right (by simpa using d)
   ·exact h c a
def NF(i:DT B)(j:VF e6)(d:B.Perm e6)(k:(B.map aO).Nodup):B=e6:=by
 refine d.eq_of_pairwise (le:=λb a=>fg a b=false) (λb a l m e f=>?_) i (j.imp λh=>ns h)
 by_cases g:aO b=aO a
 ·have c:a∈B:=d.mem_iff.2 m
  obtain⟨p,n,rfl⟩:=List.getElem_of_mem l;obtain⟨q,o,rfl⟩:=List.getElem_of_mem c;have:=(List.getElem_inj (xs:=B.map aO) (h₀:=by simpa using n) (h₁:=by simpa using o) k).1 (by simpa using g);subst this;rfl
 ·rcases GY g with h|h
  ·rw[h]at f;cases f
  ·rw[h]at e;cases e
def UX(b:(B.map aO).Nodup)(a:l∈B):B.find? (λc=>aO c==aO l)=some l:=by
 induction B with
 |nil=>cases a
 |cons c B d=>
  simp only[QY,List.nodup_cons]at b;rcases Q2.1 a with rfl|a
  ·simp
  ·have e:aO c≠aO l:=λf=>b.1 (f▸Xk.2 ⟨l,a,rfl⟩)
   rw[List.find?_cons_of_neg (by simpa using e)];exact d b.2 a
def aq.get_some(a:H.get d6=some l):l∈H.l/\aO l=d6:=
 ⟨List.mem_of_find?_eq_some a,by simpa using List.find?_some a⟩
def aq.get_none(b:H.get d6=none):∀a∈H.l,aO a≠d6:=λa c=>by
 have:=List.find?_eq_none.1 b a c;simpa using this
def aq.OK.get(a:H.OK)(b:l∈H.l):H.get (aO l)=some l:=UX a.ids b
def KR(i:H.OK)(e:∀a∈h3,a.1=aO a.2)(f:(h3.map (·.2)).Perm H.l)(m:Tidy h3)(b:Int×Int):ay h3 b=H.get b:=by
 cases c:ay h3 b with
 |none=>
  rw[nU]at c
  symm
  refine List.find?_eq_none.2 λd j=>?_;obtain⟨a,g,rfl⟩:=Xk.1 (f.mem_iff.2 j);intro k;exact c (Xk.2 ⟨a,g,by rw[e a g];simpa using k⟩)
 |some d=>
  have h:=cF c;have l:b=aO d:=e _ h;have:d∈H.l:=f.mem_iff.1 (Xk.2 ⟨_,h,rfl⟩);rw[l,i.get this]
def yS(b:List ah)(a:Int):b.foldl (λa c=>max a c.aA) a=max a (b.foldl (λa c=>max a c.aA) 0)\/a<0:=by
 induction b generalizing a with
 |nil=>simp;omega
 |cons d b e=>
  rw[List.foldl_cons,List.foldl_cons]
  by_cases g:a<0
  ·exact .inr g
  ·rcases e (max a d.aA)with h|h
   ·rcases e (max 0 d.aA)with f|f
    ·left;rw[h,f];omega
    ·omega
   ·omega
def aq.UT(a:aq)(b:ah):aq.top ⟨a.n,dO b a.l⟩=max a.top b.aA:=by
 show(dO b a.l).foldl _ _=_;rw[(cX b a.l).foldl_eq' (λc _ d _ e=>oM),List.foldl_cons];rcases yS a.l (max 0 b.aA)with h|h
 ·rw[h]
  show max (max 0 b.aA) a.top=_;have:0<=a.top:=by
   rcases yS a.l 0 with h|h
   ·unfold aq.top;omega
   ·omega
  omega
 ·omega
def aq.CL(a:aq):0<=a.top:=by
 rcases yS a.l 0 with h|h
 ·unfold aq.top;omega
 ·omega
def im(b:dh l a=0):0<=l.origin/\l.origin<a/\1<=l.seq/\1<=l.aA/\0<=l.agg/\0<=l.key/\l.aK.length=a/\(∀c∈l.aK,0<=c)/\l.aK.getD l.origin.toNat 0=pH (l.seq-1)/\1<=l.op/\l.op<=5/\0<=l.bd/\l.bd<8/\0<=l.field/\l.field<8:=by
 unfold dh at b;split at b
 ·simp at b
 ·rename_i d
  split at b
  ·simp at b
  ·rename_i e
   split at b
   ·simp at b
   ·rename_i i
    split at b
    ·simp at b
    ·rename_i j
     simp only[not_or,List.any_eq_true,decide_eq_true_eq,not_exists,not_and]at d;obtain⟨k,m,n,c,o,f⟩:=d;refine⟨oM,oM,oM,oM,oM,oM,oM,λg h=>by have:=f g h;omega,by simpa using e,oM,oM,oM,oM,oM,oM⟩
def aq.Hd(a:aq)(b:ah)(c:Nat):aq.sX ⟨a.n,dO b a.l⟩ c=a.sX c+if b.origin=(c:Int)then 1 else 0:=by
 unfold aq.sX;show(dO b a.l).countP _=_;rw[(cX b a.l).countP_eq,List.countP_cons]
 congr 1
 simp
def aq.Mq(a:aq)(b:Nat):a.sX b<=a.l.length:=List.countP_le_length
def aq.b_(a:aq):a.vec.length=a.n:=by simp[aq.vec]
def aq.my(b:aq)(c:a<b.n):b.vec[a]? =some (b.sX a:Int):=by simp[aq.vec,c]
def aq.iJ(S:aq)(b:a<S.n):S.vec.getD a 0=(S.sX a:Int):=by rw[QQ,S.my b];rfl
def aq.UU(b:aq)(d:ah)(g:d.origin=(a:Int)):aq.vec ⟨b.n,dO d b.l⟩=b.vec.set a (b.sX a+1:Int):=by
 apply X3;intro e
 by_cases c:e<b.n
 ·rw[aq.my ⟨b.n,dO d b.l⟩ c,aq.Hd,Xj,b.my c,b.b_]
  by_cases f:a=e
  ·subst f;simp[g,c]
  ·rw[if_neg f,if_neg oM];simp
 ·rw[Q7 (by rw[aq.b_];exact Nat.le_of_not_lt c),Q7 (by rw[List.length_set,b.b_];omega)]
def aq.add_def(a:aq)(b:ah):a.add b=if dh b a.n≠0 then(dh b a.n,a)else if(a.get (aO b)).isSome then(16,a)else
 if b.seq≠(a.vec.getD b.origin.toNat 0)+1 then(9,a)else if(List.range a.n).any λc=>!a.ly b c then(9,a)else(0,⟨a.n,dO b a.l⟩):=rfl
def aq.Bn(a:H.OK)(h:l.Ok):(H.add l).2.OK/\(H.add l).2.n=H.n:=by
 rw[aq.add_def]
 by_cases d:dh l H.n=0
 rotate_left
 ·rw[if_pos d];exact⟨a,rfl⟩
 rw[if_neg (by simpa using d)]
 by_cases e:(H.get (aO l)).isSome=true
 ·rw[if_pos e];exact⟨a,rfl⟩
 rw[if_neg e];split
 ·exact⟨a,rfl⟩
 split
 ·exact⟨a,rfl⟩
 have g:H.get (aO l)=none:=by simpa using e
 have f:=cX l H.l;refine⟨⟨a.n,xK a.Rz (aq.get_none g),?_,?_,?_⟩,rfl⟩
 ·refine(f.map aO).nodup_iff.2 ?_
  rw[QY,List.nodup_cons];exact⟨λi=>by obtain⟨c,b,j⟩:=Xk.1 i;exact aq.get_none g c b j,a.ids⟩
 ·intro c b
  rcases Q2.1 (f.mem_iff.1 b)with rfl|b
  ·exact d
  ·exact a.TC c b
 ·intro c b
  rcases Q2.1 (f.mem_iff.1 b)with rfl|b
  ·exact h
  ·exact a.ok c b
def aq.uk(b:a<=64):aq.OK ⟨a,[]⟩:=⟨b,List.Pairwise.nil,sM,sM,sM⟩
structure aq.Cl (S:aq):Prop where
 ok:S.OK
 ly:∀e∈S.l,∀o,o<S.n->S.ly e o=true
 le:∀e∈S.l,e.seq<=(S.sX e.origin.toNat:Int)
 has:∀(o:Nat) (s:Int),o<S.n->1<=s->s<=(S.sX o:Int)->∃e∈S.l,aO e=((o:Int),s)
def qT:H.ly l a=true↔l.aK.getD a 0=0\/∃b,H.get ((a:Int),l.aK.getD a 0)=some b/\b.aA<l.aA/\∀c,c<b.aK.length->b.aK.getD c 0<=l.aK.getD c 0:=by
 unfold aq.ly;generalize l.aK.getD a 0=d;dsimp only
 cases e:H.get ((a:Int),d)with
 |none=>simp
 |some b=>simp
def aq.Cl.new(b:a<=64):aq.Cl ⟨a,[]⟩:=⟨aq.uk b,sM,sM,λd e _ f c=>by simp[aq.sX]at c;omega⟩
def aq.TR(a:aq.OK ⟨H.n,dO l H.l⟩)(b:H.get d6=some L):aq.get ⟨H.n,dO l H.l⟩ d6=some L:=by
 obtain⟨c,rfl⟩:=aq.get_some b;exact a.get ((cX l H.l).mem_iff.2 (QJ _ c))
def aq.gg(a:aq)(b:ah):((a.add b).1≠0/\(a.add b).2=a)\/(a.add b=(0,⟨a.n,dO b a.l⟩)/\dh b a.n=0/\a.get (aO b)=none/\b.seq=a.vec.getD b.origin.toNat 0+1/\∀c,c<a.n->a.ly b c=true):=by
 rw[aq.add_def];split
 ·rename_i d;exact .inl ⟨d,rfl⟩
 rename_i e;split
 ·exact .inl ⟨sM,rfl⟩
 rename_i f;split
 ·exact .inl ⟨sM,rfl⟩
 rename_i g;split
 ·exact .inl ⟨sM,rfl⟩
 rename_i h;refine .inr ⟨rfl,by simpa using e,by simpa using f,by simpa using g,?_⟩;simpa[List.any_eq_false]using h
def aq.NV{S:aq}(b:dh l S.n=0)(c:S.get (aO l)=none)(d:l.seq=S.vec.getD l.origin.toNat 0+1)(e:∀a,a<S.n->S.ly l a=true):S.add l=(0,⟨S.n,dO l S.l⟩):=by
 rw[aq.add_def,if_neg (by simpa using b),if_neg (by simp[c]),if_neg (by simpa using d),if_neg];simpa[List.any_eq_false]using e
def aq.Cl.add{d:aq}(i:d.Cl){c:ah}(r:c.Ok):(d.add c).2.Cl:=by
 have m:=(aq.Bn i.ok r).1;rcases d.gg c with⟨-,h⟩|⟨j,s,z,t,u⟩
 ·rw[h];exact i
 rw[j]at m⊢;simp only at m⊢;obtain⟨A,B,C,-⟩:=im s;obtain⟨k,n⟩:∃k:Nat,c.origin=k:=⟨c.origin.toNat,oM⟩
 have v:k<d.n:=oM
 rw[n,Qx,d.iJ v]at t;have e:∀a,a∈dO c d.l↔a=c\/a∈d.l:=λa=>by rw[(cX c d.l).mem_iff,Q2]
 have f:∀a g,d.ly a g=true->aq.ly ⟨d.n,dO c d.l⟩ a g=true:=λa g b=>by
  rw[qT]at b⊢;rcases b with b|⟨w,j,h⟩
  ·exact .inl b
  ·exact .inr ⟨w,aq.TR m j,h⟩
 refine⟨m,λa b g l=>?_,λa b=>?_,λg o l j h=>?_⟩
 ·rcases(e a).1 b with rfl|b
  ·exact f _ _ (u g l)
  ·exact f _ _ (i.ly a b g l)
 ·rw[aq.Hd]
  rcases(e a).1 b with rfl|b
  ·rw[n,Qx,if_pos rfl];omega
  ·have:=i.le a b
   split<;>omega
 ·rw[aq.Hd]at h
  by_cases q:c.origin=(g:Int)
  ·rw[if_pos q]at h
   have x:k=g:=oM
   subst x
   by_cases y:o=c.seq
   ·exact⟨c,(e c).2 (.inl rfl),by simp[aO,n,y]⟩
   ·obtain⟨a,b,p⟩:=i.has k o l j oM
    exact⟨a,(e a).2 (.inr b),p⟩
  ·rw[if_neg q]at h
   obtain⟨a,b,p⟩:=i.has g o l j oM;exact⟨a,(e a).2 (.inr b),p⟩
def aq.Vd(a:aq)(b:ah):(a.add b).2.n=a.n:=by
 rcases a.gg b with⟨-,c⟩|⟨d,-⟩
 ·rw[c]
 ·rw[d]
def aq.AU(a:aq)(b:ah):(a.add b).2.l.length<=a.l.length+1:=by
 rcases a.gg b with⟨-,c⟩|⟨d,-⟩
 ·rw[c];omega
 ·rw[d];show(dO b a.l).length<=_;rw[(cX b a.l).length_eq];simp
def aq.nq(a:aq)(b:List ah)(c:ah):a.eI (b++[c])=((a.eI b).add c).2:=by unfold aq.eI;rw[List.foldl_append];rfl
def aq.BE(a:aq)(b c:List ah):a.eI (b++c)=(a.eI b).eI c:=by unfold aq.eI;rw[List.foldl_append]
def aq.Cl.eI:∀{l:List ah} {S:aq},S.Cl->(∀e∈l,e.Ok)->(S.eI l).Cl
 |[],S,a,_=>a
 |e::l,S,a,b=>aq.Cl.eI (l:=l) (S:=(S.add e).2) (a.add (b e (QV ..))) λc d=>b c (QJ _ d)
def aq.RJ:∀(b:List ah) (a:aq),(a.eI b).n=a.n
 |[],a=>rfl
 |e::b,a=>(aq.RJ b _).trans (a.Vd e)
def aq.np:∀(b:List ah) (a:aq),(a.eI b).l.length<=a.l.length+b.length
 |[],a=>by simp[aq.eI]
 |e::b,a=>by
  have c:=aq.np b (a.add e).2;have d:=a.AU e;show((a.add e).2.eI b).l.length<=_;simp only[Xq];omega
def oB{b:ah}:∀{a:List ah},(∀x∈a,fg b x=false)->dO b a=a++[b]
 |[],_=>rfl
 |x::a,c=>by
  unfold dO;rw[if_neg (by rw[c x (QV ..)];simp),oB λd e=>c d (QJ _ e)];rfl
def aq.Cl.take{a:aq}(h:a.Cl):∀{k:Nat},k<=a.l.length->(⟨a.n,[]⟩:aq).eI (a.l.take k)=⟨a.n,a.l.take k⟩/\aq.Cl ⟨a.n,a.l.take k⟩
 |0,_=>⟨rfl,by simpa using aq.Cl.new h.ok.n⟩
 |k+1,U=>by
  obtain⟨J,m⟩:=aq.Cl.take h (k:=k) oM;have g:a.l[k]? =some a.l[k]:=Qq oM;have n:a.l[k]∈a.l:=XY oM;generalize a.l[k]=b at g n;have w:a.l=a.l.take k++b::a.l.drop (k+1):=by
   conv=>lhs;rw[<-List.take_append_drop k a.l]
   congr 1
   rw[X4 oM]
   congr 1
   have:=Qq (l:=a.l) (i:=k) oM;rw[g]at this;exact(XJ this).symm
  have q:=h.ok.Rz;have i:=h.ok.ids;rw[w]at q i;have f:∀x∈a.l,fg x b=true->x∈a.l.take k:=λx d o=>by
   rw[w]at d;rcases Q6.1 d with d|d
   ·exact d
   rcases Q2.1 d with rfl|d
   ·rw[jR]at o;omega
   ·have K:=(List.pairwise_append.1 q).2.1
    have r:=(List.pairwise_cons.1 K).1 x d;rw[ns r]at o;cases o
  have c:∀x∈a.l.take k,fg x b=true:=λx d=>(List.pairwise_append.1 q).2.2 x d b (QV ..);have y:aq.get ⟨a.n,a.l.take k⟩ (aO b)=none:=by
   cases L:aq.get ⟨a.n,a.l.take k⟩ (aO b)with
   |none=>rfl
   |some x=>
    obtain⟨j,l⟩:=aq.get_some L;rw[Q3,QY,List.nodup_append]at i;exact absurd l (i.2.2 (aO x) (Xk.2 ⟨x,j,rfl⟩) (aO b) (QV ..))
  have z:=h.ok.TC b n;obtain⟨V,W,M,X,-,-,Y,-,A,-⟩:=im z;obtain⟨e,s⟩:∃e:Nat,b.origin=e:=⟨b.origin.toNat,oM⟩
  have t:e<a.n:=oM
  have B:∀p,p<a.n->aq.ly ⟨a.n,a.l.take k⟩ b p=true:=λp N=>by
   have:=h.ly b n p N;rw[qT]at this⊢;rcases this with C|⟨x,u,E,P⟩
   ·exact .inl C
   ·obtain⟨j,l⟩:=aq.get_some u
    refine .inr ⟨x,?_,E,P⟩;rw[<-l];exact m.ok.get (f x j (by rw[jR];exact .inl E))
  have F:=h.ok.ok b n;have Q:b.seq=(aq.vec ⟨a.n,a.l.take k⟩).getD b.origin.toNat 0+1:=by
   rw[s,Qx,aq.iJ (S:=⟨a.n,a.l.take k⟩) t];have Z:(aq.sX ⟨a.n,a.l.take k⟩ e:Int)+1<=b.seq:=by
    rcases Int.lt_or_le (aq.sX ⟨a.n,a.l.take k⟩ e:Int) b.seq with o|O
    ·omega
    ·obtain⟨x,R,S⟩:=m.has e b.seq t M O
     have:=aq.get_none y x R;exact absurd (S.trans (by simp[aO,s])) this
   have O:b.seq<=(aq.sX ⟨a.n,a.l.take k⟩ e:Int)+1:=by
    have T:pH (b.seq-1)=b.seq-1:=by
     have:=F.seq;exact wrap_i64 (by unfold aN at*;omega)
    rw[T,s,Qx]at A;have:=B e t;rw[qT,A]at this;rcases this with C|⟨x,u,-⟩
    ·omega
    ·obtain⟨j,l⟩:=aq.get_some u
     have r:=m.le x j;have H:x.origin=e/\x.seq=b.seq-1:=by
      have:=l;simp only[aO,Prod.mk.injEq]at this;exact this
     rw[H.1,H.2,Qx]at r;omega
   show b.seq=(aq.sX ⟨a.n,a.l.take k⟩ e:Int)+1;omega
  have I:=aq.NV (S:=⟨a.n,a.l.take k⟩) z y Q B;have a0:dO b (a.l.take k)=a.l.take (k+1):=by
   rw[oB λx g=>ns (c x g),Qw,g];rfl
  rw[show a.l.take (k+1)=a.l.take k++[b] by rw[Qw,g];rfl,aq.nq,J,I];have v:=m.add F;rw[I]at v;rw[show dO b (a.l.take k)=a.l.take k++[b]from oB λx g=>ns (c x g)]at v⊢;exact⟨rfl,v⟩
def aq.Cl.VI(a:H.Cl):(⟨H.n,[]⟩:aq).eI H.l=H:=by
 have:=(a.take (Q4 _)).1;rw[List.take_length]at this;exact this
def uU:fS:=⟨[(3,[(6,.slice none 0 0),(16,QH 0)])],[],[5,12],[],[(5,⟨[0,1,2,4,0,16,40,64,128,128,511,2047],[4095,4094,4093,4091,4095,4079,4055,4031,3967,3967,3839,3583],[0,0,0,1,0,2,2,0,0,0,0,0]⟩),(12,⟨[0,0,2,4,8,0,32,0,208,257,1023],[2047,2047,2045,2043,2039,2047,2015,2047,1839,2046,1791],[0,0,0,0,1,0,2,0,2,0,0]⟩)]⟩
def uV(O:PA b (.cells #[.slice p a c] 230) λx=>(rS x (ab_ b 0) λP y c3=>(∃q:Nat->Option Addr->Nat->Nat->Int->World->Prop,(∃f,q f none 0 0 0 x)/\∀(f:Nat) (g:Option Addr) (h:Nat) (i:Nat) (e:Int) (c4:Nat->Value) (j:World),q f g h i e j->al (decide (e<(y:Int))) ((ix_ P e y λQ R=>(rI j (ad Q (R+Int.toNat e)) λk=>(∀l,bE j l->∃r:Nat->Prop,(dr d λz S=>(¬r z/\(rP l (ad z S) λT=>PC_ 120 #[.ii k] l (λU s=>∃A,U= .string A/\(aj r l s/\PC_ 181 #[.pointer T,.string A] s (λV m=>∃W B X C,V= .tuple #[.slice W B X,.ii C]/\(aj r s m/\al (C !=0) (rt t ((.tuple #[.slice g h i,.ii 0])) m) ((dr d λY Z=>(rP m (ad Y Z) λa1=>PC_ 187 #[.pointer a1,.ii k] m (λa2 a3=>∃D E F n,a2= .tuple #[.slice D E F,.ii n]/\PR_ (ap_ 50 (.slice g h i) (.slice D E F)) a3 (kS_ λG H I u=>(dr d λa4 a5=>(rS u (ad a4 (a5+2)) λa6 a7 a8=>PA u (.cells #[.ii k] 3) λa9=>PR_ (ap_ 55 (.slice a6 a7 a8) (.slice (some (ab_ u 0)) 1 1)) a9 (kS_ λb0 b1 b2 b3=>(dr d λb4 b5=>PS b3 (ad b4 (b5+2)) (.slice b0 b1 b2) λb6=>(dr d λb7 b8=>PS b6 (ad b7 (b8+3)) (.ii n) λJ=>al (decide (n<(B:Int))) ((∀o,bE J o->∃v:Nat->Prop,(dr d λK b9=>(¬v K/\(rP o (ad K b9) λc0=>PC_ 120 #[.ii k] o (λc1 w=>∃L,c1= .string L/\(aj v o w/\PC_ 188 #[.pointer c0,.string L,.ii n] w (kI_ λc2 M=>(aj v w M/\rt t ((.tuple #[.slice G H I,.ii c2])) M)) (pZ t))) (pZ t)))))) ((∃N,N<f/\q N G H I (IntKind.wrap .i64 (e+1)) J))))) (pV t)))) (pV t)) (pE t)))))) (pZ t))) (pZ t)))))))) (rt t ((.tuple #[.slice g h i,.ii 0])) j)))):Calls ZQ 137 #[.pointer d,.agg #[.slice p a c]] b t:=DC uU Tryz.func137 rfl O
end Go.Proofs.YtfchlbaidamodaaGreatDoor
namespace Go.ax
open Go
def ie(a:List Int):List UInt8:=bt ((a.length:Int)::a)
def bW(a:List Int):List UInt8:=cN 2 (ie a)
def kJ(a:List UInt8):List Int×g_:=aY (bM 64 ⟨a,0,0⟩).1.toNat (bM 64 ⟨a,0,0⟩).2
def iK(a:List UInt8):Option (List Int):=
 if(bC a).no≠0\/(bC a).n≠a.length\/(bC a).kind≠2 then none else if h_ (kJ (bC a).body).2≠0 then none else some (kJ (bC a).body).1
def Gn(a:List UInt8):(∀b∈(kJ a).1,aN b)/\(kJ a).1.length<=64/\(kJ a).2.Fit:=by
 obtain⟨c,g,h,i⟩:=g_.Fit.count (r:=⟨a,0,0⟩) ⟨Qj _,.inl rfl⟩ (m:=64) oM;obtain⟨d,e,f,j⟩:=c.ints (bM 64 ⟨a,0,0⟩).1.toNat;exact⟨e,by show(aY _ _).1.length<=64;rw[f];omega,d⟩
variable{s:List Int}{v:List UInt8}
def Qc(a:iK v=some s):(∀b∈s,aN b)/\s.length<=64:=by
 unfold iK at a;split at a
 ·cases a
 split at a
 ·cases a
 ·cases a
  exact⟨(Gn _).1,(Gn _).2.1⟩
def yM(c:∀a∈s,aN a)(d:s.length<=64):(ie s).length<=585:=by
 have:=fT (l:=(s.length:Int)::s) (by
  intro a b;rcases Q2.1 b with rfl|b
  ·unfold aN;omega
  ·exact c a b)
 unfold ie;rw[Xq]at this;omega
def sg(a:List Int):(bW a).length=(ie a).length+9:=fp _ _
def oI(a:∀c∈s,aN c)(d:s.length<=64):iK (bW s)=some s:=by
 have l:=yM a d;have e:bC (bW s)=⟨2,ie s,(ie s).length+9,0⟩:=by
  have:=Gp (k:=2) (body:=ie s) (r:=[]) dC dC oM
  rwa [List.append_nil]at this
 have f:(g_.mk (ie s) 0 0).At (ie s) (eB (s.length:Int)++(bt (s++[])++[])):=⟨rfl,Qj _,rfl,by rw[List.drop_zero];simp[ie,lg]⟩
 obtain⟨g,h⟩:=f.count (m:=64) (by unfold aN;omega) oM oM;obtain⟨i,j⟩:=g_.At.ints s h a;have b:kJ (ie s)=aY s.length (bM 64 ⟨ie s,0,0⟩).2:=by unfold kJ;rw[g,Qx]
 have k:h_ (kJ (ie s)).2=0:=by rw[b];exact g_.At.done (by simpa[bt]using j)
 unfold iK;rw[e,if_neg (by simp[sg])];simp only;rw[if_neg (by rw[k];simp),b,i]
end Go.ax
namespace Go.Proofs.YtfchlbaidamodaaGreatDoor
open Go.ax
def tC:fS:=⟨[(2,[])],[],[],[],[(4,⟨[0,0,2,4,8,0,0,64,128,256,512,0,2048,4096,8192,17408,32800,65536,131088,262145],[1048575,1048575,1048573,1048571,1048567,1048575,1048575,1048511,1048447,1048319,1048063,1048575,1046527,1044479,1040383,1031167,1015775,983039,917487,786430],[0,0,0,0,1,0,0,0,0,1,0,0,0,0,1,0,0,0,0,2]⟩)]⟩
variable{x:ByteArray}{t:Ending->World->Prop}{e:Int}{a:Nat}{f:Nat->Prop}{d:Option Addr}{j:Type}{b:World}
def tD(M:(∃m n,d=some ⟨m,n,none⟩/\(∃(o:Option Nat),b.cell? ⟨m,n+1,none⟩=some (.map o)/\PC ZQ 121 #[.map o,.func (.func 122) #[] #[]] b (λN p=>
   N= .tuple #[]/\(∃q r,d=some ⟨q,r,none⟩/\(∃(s:Option Nat),p.cell? ⟨q,r+1,none⟩=some (.map s)/\aH ZQ (Instr.range 140 (.map s)) p (λu O=>
   (∃j:Nat->World->Prop,(∃i,j i O)/\∀(i:Nat) (c0:Nat->Value) (v:World),j i v->aH ZQ (Instr.next u false 0) v (λw x=>
   (w= .tuple #[.bool false]/\(∃y z,d=some ⟨y,z,none⟩/\PS x ⟨y,z+2,none⟩ (.bool false) λP=>(∃A B,d=some ⟨A,B,none⟩/\
   PS P ⟨A,B+4,none⟩ (.bool false) λQ=>t (.returned (.tuple #[])) Q)))\/(∃R S,w= .tuple #[.bool true,R,S]/\aH ZQ (Instr.entry u) x (λT U=>
   ∃(V:Value),∃(a:Option Addr),T= .tuple #[V,.pointer a]/\(∀c,bE U c->(∃C E,a=some ⟨C,E,none⟩/\(∃(F:Int),c.cell? ⟨C,E+1,none⟩=some (QH F)/\
   (∃H I,a=some ⟨H,I,none⟩/\(∃(W:Option Addr) (f:Nat) (X:Nat),c.cell? ⟨H,I,none⟩=some (.slice W f X)/\
   (∃J K,a=some ⟨J,K,none⟩/\(∃(g:Int),c.cell? ⟨J,K+1,none⟩=some (QH g)/\PC ZQ 123 #[.pointer a,QH (IntKind.wrap .i64 (F+(if(if(IntKind.wrap .i64 (((f:Nat):Int)-g))<e then(IntKind.wrap .i64 (((f:Nat):Int)-g))else e)>0 then(if(IntKind.wrap .i64 (((f:Nat):Int)-g))<e then(IntKind.wrap .i64 (((f:Nat):Int)-g))else e)else 0)))] c (λY Z=>
   Y= .tuple #[]/\(∃L,L<i/\j L Z)) (λk l=>∀(_:cy) (_:dq),t (.panicked k) l))))))))) (λh b=>t (.panicked [{v:=h,recovered:=false}]) b))) (λh b=>
   t (.panicked [{v:=h,recovered:=false}]) b))) (λh b=>t (.panicked [{v:=h,recovered:=false}]) b)))) (λk b=>t (.panicked k) b)))):
  Calls ZQ 61 #[.pointer d,QH e] b t:=
 gl tC mixed Tryz.func61 rfl (Nat.le_of_ble_eq_true kR) kR (Eq.mp kR M)
def HB(a:Int)(b:bQ):Int:=b.synced+max 0 (min a ((b.bytes.length:Int)-b.synced))
def tG(a:Int)(b:bQ):bQ:=b.cut (HB a b)
def ak.eA(D:ak)(a:Int):ak:={D with files:=(D.files.filter λb=>b.2.jk).map (λb=>(b.1,tG a b.2)),js:=false,dead:=false}
def ak.JC(D:ak)(a:List (ByteArray×bQ)):ak:=⟨D.most,a,D.js,D.left,D.dead⟩
def ak.ir(D:ak):ak:={D with files:=D.files.filter λa=>a.2.jk}
def EI(a:List (ByteArray×bQ))(b:ByteArray×bQ->Bool):eL (a.filter b)<=eL a:=by
 unfold eL
 induction a with
 |nil=>simp
 |cons c a d=>
  rw[List.filter_cons];split
  ·simp;omega
  ·simp;omega
def rl{a:List (ByteArray×j)}(b:Tidy a)(c:ByteArray×j->Bool):Tidy (a.filter c):=List.Nodup.sublist (List.Sublist.map _ List.filter_sublist) b
def ak.Ok.ir{D:ak}(a:D.Ok):D.ir.Ok:=by
 have e:=EI D.files λb=>b.2.jk;have d:=a.fits;have f:=List.length_filter_le (λb:ByteArray×bQ=>b.2.jk) D.files;have g:=a.many;unfold ak.used at d;exact⟨a.most,by show eL (D.files.filter _)<=D.most;omega,by show(D.files.filter _).length<=64;omega,rl a.tidy _,λb c=>a.names b (List.mem_filter.1 c).1,λb c=>a.TD b (List.mem_filter.1 c).1,a.Cs,a.Ct⟩
def RV{b:List (ByteArray×j)}(d:Tidy b){m g:ByteArray×j->j}{u n:j}(i:(x,u)∈b)(k:∀c∈b,c.1≠x->g c=m c)(q:g (x,u)=n):
  aJ (b.map λa=>(a.1,m a)) x n=b.map λa=>(a.1,g a):=by
 induction b with
 |nil=>cases i
 |cons r b o=>
  obtain⟨a,c⟩:=r;unfold Tidy at d o;simp only[QY,List.nodup_cons]at d;simp only[QY];unfold aJ
  by_cases h:(x==a)=true
  ·have s:x=a:=eq_of_beq h
   subst s;have t:c=u:=by
    rcases Q2.1 i with h|h
    ·cases h;rfl
    ·exact absurd (Xk.2 ⟨_,h,rfl⟩) d.1
   subst t;rw[if_pos h,q]
   congr 1
   refine List.map_congr_left λe f=>?_;rw[k e (QJ _ f) λl=>d.1 (Xk.2 ⟨e,f,l⟩)]
  ·have p:a≠x:=λl=>h (by rw[l];simp)
   rw[if_neg h,k (a,c) (QV ..) p]
   congr 1
   refine o d.2 ?_ λe f=>k e (QJ _ f);rcases Q2.1 i with H|H
   ·cases H;exact absurd rfl p
   ·exact H
def tH(a:Int)(left:List (ByteArray×nW))(b:ByteArray×bQ):bQ:=if left.any (λc=>c.1==b.1)then b.2 else tG a b.2
def Md{D:ak}(h:aW b a f D)(e4:aN e):
  Calls ZQ 61 #[ZX a,QH e] b (Ok λS u=>∃r,S= .tuple #[]/\aW u a r (D.eA e)/\de f b r u):=by
 obtain⟨v,y,l⟩:=h.open;have e5:y.filter (λc=>c.2.f.jk)=y.filter (λc=>c.2.f.jk):=rfl;refine tD ⟨a,0,rfl,some v,ae l.head rfl,PC.ok (AL l.map l.each λc m d k=>(l.Jy c m d k).2.2) ?_⟩;rintro _ w ⟨rfl,c0,C⟩;have c1:∀d,d=v->f d:=λd o=>o▸l.Fr;have s:fE w a f D.ir v (y.filter λc=>c.2.f.jk):=by
  have E:∀c∈y.filter (λc=>c.2.f.jk),c∈y:=λc m=>(List.mem_filter.1 m).1;refine⟨C.get l.head (λo=>l.pr o),c0,?_,⟨λc m=>(l.each.each c (E c m)).keep C λd k=>(l.Jy c (E c m) d k).2.2,λc m g p=>l.each.apart c (E c m) g (E g p),rl l.each.tidy _⟩,λc m=>l.Jy c (E c m),l.Fr,l.pr,l.self,λd k=>Qk (l.aF d k) C.size,l.ok.ir⟩;show D.files.filter _=_;rw[l.files,List.filter_map]
  rfl
 generalize e6:y.filter (λc=>c.2.f.jk)=q at s;have c2:∀c∈q,∀d,c.2.G d->d<w.heap.size:=λc m d k=>(s.each.each c m).aF d k;refine⟨rfl,a,0,rfl,some v,ae s.head rfl,mapRange mF s.map λw2 hR T s2=>?_⟩;have c3:Tidy D.ir.files:=s.ok.tidy;have c4:∀g∈q,wC g∈D.ir.files:=λg p=>by rw[s.files];exact Xk.2 ⟨g,p,rfl⟩
 have a5:de f b f w2:=⟨((C.mono λd _ k=>c1 d k)).af T,λ_ h=>.inl h⟩
 refine⟨λU u=>∃(left t:List (ByteArray×nW)) (r:Nat->Prop),dj u w.heap.size v Value.string (q.map eQ) (left.map eQ)/\U=left.length/\fE u a r (D.ir.JC (D.ir.files.map λj=>(j.1,tH e left j))) v t/\t.map eQ=q.map eQ/\
   de f b r u/\(∀c∈left,c∈q/\ay t c.1=some c.2)/\Tidy left/\w.heap.size<u.heap.size/\¬r w.heap.size,
  ⟨_,q,q,f,hR,rfl,?_,rfl,a5,λc m=>⟨m,rp s.each.tidy m⟩,s.each.tidy,oM,λk=>by have:=s.aF _ k;omega⟩,?_⟩
 ·have o:(D.ir.files.map λc=>(c.1,tH e q c))=D.ir.files:=by
   have:∀c∈D.ir.files,(c.1,tH e q c)=c:=λc m=>by
    rw[s.files]at m;obtain⟨g,p,rfl⟩:=Xk.1 m;have:q.any (λj=>j.1==(wC g).1)=true:=List.any_eq_true.2 ⟨g,p,by simp[wC]⟩;unfold tH;rw[if_pos this]
   have J:=List.map_congr_left (f:=λc=>(c.1,tH e q c)) (g:=id) this;rw[J,List.map_id]
  rw[o];exact s.af T
 ·rintro U a1 w3 ⟨left,t,r,c5,rfl,V,a7,K,W,z,e1,X⟩
  refine nX c5 (λL=>.inl ⟨rfl,?_⟩) λi S l1 l2 Y c6 c7 c8 Z s4=>.inr ⟨_,_,rfl,ry c8 ?_⟩
  ·have c9:left=[]:=by simpa using L
   subst c9;refine⟨a,0,rfl,V.at.Jw λw5 h5 k5 s5=>⟨a,0,rfl,h5.AX λw6 h6 k6 s6=>Ok.mk ⟨r,rfl,?_,K.trans ⟨k5.then k6,λ_ h=>.inl h⟩⟩⟩⟩;have o:(D.ir.files.map λc=>(c.1,tH e [] c))=(D.files.filter λc=>c.2.jk).map (λc=>(c.1,tG e c.2)):=List.map_congr_left λc _=>by simp[tH]
   rw[o]at h6;exact h6
  ·obtain⟨n,c,d,rfl,rfl,rfl,rfl⟩:=yz c6
   obtain⟨a8,F⟩:=W (i,c) sM;have F:ay t i=some c:=F;have a9:∀d,d=w.heap.size->¬r d:=λd o=>o▸X;have x:=V.keep Z λd k o=>a9 d o k;have M:=x.get F;have N:=cF F;have d0:eX Y c.q c.G c.f:=x.each.each _ N;have d1:∀d,c.G d->d<w.heap.size:=c2 _ a8;have b0:∀d,c.G d->r d/\d≠a/\d≠v:=x.Jy _ N;have b1:c.f.bytes.length<=262144:=x.ok.len (cF M);have e2:c.f.synced<=c.f.bytes.length:=x.ok.TD _ (cF M);have e7:c.f=(wC (i,c)).2:=rfl;refine⟨_,_,rfl,λw5 A=>?_⟩;have b2:=d0.keep (A.keep (S:=λ_=>False)) λ_ _ h=>h;have b3:=x.af A.keep;obtain⟨fa,B,fc,F0,H,J,h3,h4⟩:=b2.body;have b4:B=c.f.bytes.length:=J.len dC;have I:(if(if(IntKind.wrap .i64 (((B:Nat):Int)-(c.f.synced:Int)))<e then(IntKind.wrap .i64 (((B:Nat):Int)-(c.f.synced:Int)))else e)>0 then(if(IntKind.wrap .i64 (((B:Nat):Int)-(c.f.synced:Int)))<e then(IntKind.wrap .i64 (((B:Nat):Int)-(c.f.synced:Int)))else e)else 0)=max 0 (min e ((c.f.bytes.length:Int)-c.f.synced)):=by
    rw[wrap_i64 (by unfold aN;omega),b4];omega
   refine⟨c.q,0,rfl,_,ae H rfl,c.q,0,rfl,fa,B,fc,ae H rfl,c.q,0,rfl,_,ae H rfl,?_⟩;rw[I,wrap_i64 (by unfold aN at*;omega)];refine PC.ok (Cw b2 b1) ?_;rintro _ w6 ⟨O,rfl,P,Q⟩
   replace P:eX w6 c.q O (tG e c.f):=P
   have d2:((D.ir.JC (D.ir.files.map λj=>(j.1,tH e (n++(i,c)::d) j))).eJ i (tG e c.f)).Ok:=b3.ok.cut M _;obtain⟨F6,b5,a0⟩:=b3.fr F P Q d2;have d3:=c7.keep (A.keep (S:=λ_=>False)) id id;have d4:=d3.keep Q.keep (λk=>by have:=d1 _ k;omega) (λk=>(b0 _ k).2.2 rfl);have b6:i∉(n++d).map (·.1):=by
    unfold Tidy at z;rw[Q3,QY]at z;rw[Q3];intro b7;have hp:=(List.perm_middle (a:=i) (l₁:=n.map (·.1)) (l₂:=d.map (·.1))).nodup_iff.1 z;exact(List.nodup_cons.1 hp).1 b7
   have b8:Tidy (n++d):=by
    unfold Tidy at z⊢;rw[Q3,QY]at z;rw[Q3];exact(List.nodup_cons.1 ((List.perm_middle (a:=i) (l₁:=n.map (·.1)) (l₂:=d.map (·.1))).nodup_iff.1 z)).2
   have b9:(n++d).any (λg=>g.1==i)=false:=by
    rw[List.any_eq_false];intro g p L;exact b6 (Xk.2 ⟨g,p,eq_of_beq L⟩)
   have fz:aJ (D.ir.files.map λj=>(j.1,tH e (n++(i,c)::d) j)) i (tG e c.f)=D.ir.files.map λj=>(j.1,tH e (n++d) j):=by
    refine RV (u:=c.f) c3 (c4 _ a8) (λg p R=>?_) ?_
    ·have d5:(i==g.1)=false:=beq_false_of_ne (Ne.symm R)
     have o:(n++(i,c)::d).any (λj=>j.1==g.1)=(n++d).any (λj=>j.1==g.1):=by
      rw[List.any_append,List.any_cons,List.any_append,d5,Bool.false_or]
     show tH e (n++d) g=tH e (n++(i,c)::d) g;unfold tH;rw[o]
    ·unfold tH
     rw[if_neg (by show¬((n++d).any (λg=>g.1==i)=true);rw[b9];simp)]
   have d6:(D.ir.JC (D.ir.files.map λj=>(j.1,tH e (n++(i,c)::d) j))).eJ i (tG e c.f)=D.ir.JC (D.ir.files.map λj=>(j.1,tH e (n++d) j)):=by
    unfold ak.eJ ak.JC;simp only[fz]
   rw[d6]at b5;have a4:(aJ t i (⟨c.q,O,tG e c.f⟩:nW)).map eQ=q.map eQ:=by
    have H:(aJ t i (⟨c.q,O,tG e c.f⟩:nW)).map eQ=aJ (t.map eQ) i (ptr c.q):=rm (λc:nW=>ptr c.q) t i _;rw[H,ru (k:=i) (v:=ptr c.q) (l:=t.map eQ) (Xk.2 ⟨(i,c),N,rfl⟩) x.map.tidy,a7]
   refine⟨rfl,_,?_,n++d,_,F6,by rw[Q3];exact d4,rfl,b5,a4,?_,λg p=>?_,b8,?_,?_⟩
   ·simp
   ·have e3:=C.size
    have d7:de f b r Y:=⟨K.keep.new Z λd k=>.inr oM,K.new⟩
    exact(d7.trans ⟨A.keep,λ_ h=>.inl h⟩).trans a0
   ·have d8:g∈n++(i,c)::d:=by simp only[Q6,Q2]at p⊢;exact p.imp id .inr
    obtain⟨d9,e0⟩:=W g d8;have R:g.1≠i:=λo=>b6 (Xk.2 ⟨g,p,o⟩);refine⟨d9,?_⟩;rw[bu,if_neg (by simpa using R)];exact e0
   ·have:=Q.keep.size;have:=(A.keep (S:=λ_=>False)).size;omega
   ·intro k
    rcases a0.new _ k with h|h
    ·exact X h
    ·have:=(A.keep (S:=λ_=>False)).size;omega
end Go.Proofs.YtfchlbaidamodaaGreatDoor

import Derived.Test.YtfchlbaidamodaaGreatDoorKa23
set_option linter.all false
set_option maxRecDepth 100000
namespace Go.Proofs.YtfchlbaidamodaaGreatDoor
open Go.ax Go.Sort
theorem oq {d:Type} {h:Nat} {a:d->List Value} {f:d->Prop} {hl h1} {i:World} {D:Nat->Prop}:∀{b:List d} {cs:List Value},bT (flat h a f hl h1) i D b cs↔cs=b.flatMap a/\∀x∈b,f x
 |[],cs=>by simp [bT]
 |x::b,cs=>by
  constructor
  ·rintro⟨m,n,rfl,⟨rfl,j⟩,k⟩
   obtain⟨rfl,l⟩:=oq.1 k;exact⟨rfl,λe c=>by rcases Q2.1 c with rfl|c;exact j;exact l e c⟩
  ·rintro⟨rfl,g⟩
   exact⟨a x,b.flatMap a,rfl,⟨rfl,g x (QV ..)⟩,oq.2 ⟨rfl,λe c=>g e (QJ _ c)⟩⟩
variable{a:Nat}
section
variable {α:Type} {enc:α->List Value} {K:Nat}
theorem gB (c:∀b,(enc b).length=K) (a:List α):(a.flatMap enc).length=a.length*K:=by
 induction a with
 |nil=>simp
 |cons b a d=>rw [List.flatMap_cons,QX,d,c,Xq,X7];omega
theorem lk [Inhabited α] (h:0<K) (c:∀e,(enc e).length=K) {b:List α} (f:a<b.length*K):(b.flatMap enc)[a]? =(enc b[a/K]!)[a % K]? :=by
 induction b generalizing a with
 |nil=>simp at f
 |cons e b i=>
  rw [List.flatMap_cons]
  by_cases d:a<K
  ·rw [XW (by rw [c];exact d),Nat.div_eq_of_lt d,Nat.mod_eq_of_lt d];rfl
  ·rw [Xq,X7]at f
   rw [X8 (by rw [c];omega),c,i oM];obtain⟨g,rfl⟩:∃g,a=g+K:=⟨a-K,oM⟩
   rw [Nat.add_sub_cancel,Nat.add_div_right _ h,Nat.add_mod_right];simp
theorem zS [Inhabited α] (e:0<K) (d:∀h,(enc h).length=K) (a:List α):(flatK enc K a.toArray).toList=a.flatMap enc:=by
 apply X3;intro b
 by_cases c:b<a.length*K
 ·rw [lk e d c]
  have i:b<(flatK enc K a.toArray).size:=by simpa using c
  have f:=get_flatK enc K a.toArray b (by simpa using c);rw [getElem!_pos _ b i]at f;have g:b % K<(enc a[b/K]!).length:=by rw [d];exact Nat.mod_lt _ e
  rw [Qq (by simpa using c),Qq g]
  congr 1
  rw [Array.getElem_toList,f];rw [getElem!_pos _ _ (by simpa using g)]
  congr 1
  simp
 ·rw [Q7 (by simpa using c),Q7 (by rw [gB d];omega)]
end
instance:Inhabited ep:=⟨⟨0,0,0⟩⟩
theorem WN (b:ep):∀c∈bz b,c.oneCell'=true:=by
 intro d a;simp only [bz,Q2,List.not_mem_nil,or_false]at a;rcases a with rfl|rfl|rfl<;>rfl
theorem pD (a:ep):(bz a).length=3:=rfl
def DW (a b:ep):Int:=if a.group<b.group then-1 else 1
theorem Bh (a b:ep):ltOf DW a b=decide (a.group<b.group):=by
 unfold ltOf DW
 by_cases c:a.group<b.group<;>simp [c]
theorem Yi:SWO (ltOf DW) where
 irrefl x:=by rw [Bh];simp
 trans x y z h1 h2:=by rw [Bh]at*;simp at*;omega
 ntrans x y z h1 h2:=by rw [Bh]at*;simp at*;omega
variable{g5:List ep}{c:Nat}{f:Nat->Prop}{d:Option Addr}{b:World}
theorem WO {d e:ep} :Calls ZQ 396 #[.agg (bz d).toArray,.agg (bz e).toArray] b (Ok λg h=>g= QH (DW d e)/\G b h):=by
 refine uS (PA.Yg λk f l i=>PA.Yg λm a n j=>⟨_,ae ((a.keep (S:=λ_=>False)).get i id) rfl,_,ae j rfl,al.dec (λc=>Ok.mk ⟨?_,f.then a⟩) (λc=>Ok.mk ⟨?_,f.then a⟩)⟩)
 ·unfold DW;rw [if_pos c]
 ·unfold DW;rw [if_neg c]
theorem Qe (m:aV IN 268 f b d a c g5) (C:g5.length<=20000000):
  Calls ZQ 395 #[.slice d a c,.func (.func 396) #[] #[]] b (Ok λM s=>M= .tuple #[]/\∃E:List ep,E.Perm g5/\(E.Pairwise λt N=>¬N.group<t.group)/\aV IN 268 f s d a c E/\aj (λu=>aI d=some u) b s):=by
 obtain⟨cs,D,y,Y,Z⟩:=m.body;obtain⟨rfl,O⟩:=oq.1 Y;obtain⟨e,z⟩:∃e,e=g5:=⟨g5,rfl⟩
 rw [<-z]at y O;have F:=m.len dC;have v:e.length=a:=by rw [F,<-z]
 rcases y.cases with⟨rfl,rfl,rfl,h0⟩|⟨i,j,rfl,w,P,H,Q⟩
 ·have hd:e=[]:=QW v
  refine(AnyF.slices_SortFunc_none Tryz.VA none 0 _ b).mono ?_;rintro A s ⟨rfl,rfl⟩;exact Ok.mk ⟨rfl,g5,List.Perm.refl _,by rw [<-z,hd];exact List.Pairwise.nil,m,aj.refl _⟩
 ·have R:IN.k=3:=rfl
  rw [R]at Q H;have a5:flatK bz 3 e.toArray=(e.flatMap bz).toArray:=by rw [<-zS (show 0<3 by decide) pD]
  have hH:HoldsK bz 3 b i 0 e.toArray:=by
   intro k o;rw [size_flatK]at o;simp only [List.size_toArray]at o;have S:k<(e.flatMap bz).length:=by rw [gB pD];exact o
   refine⟨?_,by simp [World.frozen?,w]⟩;have p:(flatK bz 3 e.toArray)[k]! =(e.flatMap bz)[k]:=by
    rw [a5,getElem!_pos _ k (by simpa using S)];simp
   rw [p,Xz];refine ae w ?_;have l:(j.toList.take (a*3))[k]? =some (e.flatMap bz)[k]:=by rw [Q];exact Qq S
   rw [Xw,if_pos oM]at l;simpa using l
  have C:=y.row;have I:c<=maxLen:=by
   obtain⟨_,a0,_,T,_,_,_,I,_⟩:=y.row.2.resolve_left (by rintro⟨m,_⟩;cases m);simp only [XX]at T;rw [T.2.2];exact I
  have a6:e.toArray.size<4611686018427387904:=by
   simp only [List.size_toArray,v];omega
  have U:=AnyQ.slices_SortFunc Tryz.VA 3 (λb=>dA _ _ _ kR ⟨_,Tryz.underlying268⟩ b) (λb=>Tryz.sizeOf268 b) bz (λ_=>rfl) WN (DW) Yi 396 #[] i 0 c e.toArray b
   (enters_of Tryz.func396 kR rfl) (λa9 q dk b0 t N=>(WO).mono ?_) hH (aC w) a6
  ·rw [show e.toArray.size=a by simpa using v]at U
   refine U.mono ?_;rintro A s ⟨rfl,h,x,q,hp,hs,rfl⟩;obtain⟨p1,p2,V⟩:=hp;have g:h.size=a:=p1.trans (by simpa using v);have W:h.toList.Perm e:=by
    have p:h.extract 0 a=h:=by rw [<-g];exact Array.extract_size
    have l:e.toArray.extract 0 a=e.toArray:=by rw [show a=e.toArray.size by simpa using v.symm];exact Array.extract_size
    rw [p,l]at V;exact V
   have a2:flatK bz 3 h=(h.toList.flatMap bz).toArray:=by rw [<-zS (show 0<3 by decide) pD]
   have J:(sortWorldK bz 3 b i 0 x h q).heap[i]? =some (.cells (putCells id 0 (flatK bz 3 h) j) 268 (0,0)):=by
    have a7:=aC w;show((Sort.ahead b x).heap.modify i _++q)[i]? =_;rw [Array.getElem?_append_left (by simpa [Sort.ahead]using a7),Array.getElem?_modify,if_pos rfl];show Option.map _ b.heap[i]? =_;rw [w];rfl
   have B:aj (λu=>aI (some ⟨i,0,none⟩)=some u) b (sortWorldK bz 3 b i 0 x h q):=by
    refine⟨rfl,rfl,rfl,?_,λa1 B F=>?_⟩
    ·show b.heap.size<=((Sort.ahead b x).heap.modify i _++q).size
     simp [Sort.ahead]
    ·show((Sort.ahead b x).heap.modify i _++q)[a1]? =_
     rw [Array.getElem?_append_left (by simpa [Sort.ahead]using B),Array.getElem?_modify,if_neg (λA=>F (by rw [A];rfl))]
     rfl
   have a3:(putCells id 0 (flatK bz 3 h) j).size=c*3:=by unfold putCells;rw [Array.size_mapIdx];exact H
   refine Ok.mk ⟨rfl,h.toList,by rw [<-z];exact W,?_,⟨⟨h.toList.flatMap bz,D,⟨⟨?_,.inr ⟨i,c,_,rfl,Qj _,J,P,I,a3,?_⟩⟩⟩,oq.2 ⟨rfl,λt hx=>?_⟩,Z⟩,m.self,λu C=>Qk (m.aF u C) B.size⟩,B⟩
   ·rw [List.pairwise_iff_getElem]
    intro X k hi o a8;have p:=hs X k (Qj _) a8 (by simpa [g]using o);rw [Bh,getElem!_pos _ k (by simpa using o),getElem!_pos _ X (by simpa using hi)]at p;simpa using p
   ·rw [gB pD,XK,g];rfl
   ·apply X3
    intro r;rw [R,Xw];split
    ·rename_i n
     rw [lk (show 0<3 by decide) pD (by rw [XK,g];exact n),<-lk (show 0<3 by decide) pD (by rw [XK,g];exact n)];unfold putCells;have a4:r<j.size:=by rw [H];exact Qk n (Q0 _ P)
     rw [Array.getElem?_toList,Array.getElem?_mapIdx,X6 a4];simp only [Option.map_some];have K:r<(flatK bz 3 h).size:=by rw [size_flatK,g];exact n
     rw [if_pos ⟨Qj _,by rw [Xz];exact K⟩,Nat.sub_zero,getElem!_pos _ r K];have:(flatK bz 3 h)[r]=(h.toList.flatMap bz)[r]'(by rw [gB pD,XK,g];exact n):=by
      have l:=congrArg (·[r]?) a2;simp only [List.getElem?_toArray]at l;rw [X6 K,Qq (by rw [gB pD,XK,g];exact n)]at l;exact XJ l
     rw [this];exact(Qq _).symm
    ·rename_i n
     rw [Q7 (by rw [gB pD,XK,g];omega)]
   ·have L:t∈e:=W.mem_iff.1 hx
    exact O t L
  ·rintro A s ⟨M,rfl,rfl,hG⟩
   exact⟨rfl,hG⟩
end Go.Proofs.YtfchlbaidamodaaGreatDoor
namespace Go.ax
open Go
structure bS (w:World) (F:Nat->Prop) (cls:Nat->Nat) (C:Nat->World->(Nat->Prop)->Prop):Prop where
 at':∀k,C k w (λb=>F b/\cls b=k)
 aF:∀b,F b->b<w.heap.size
def vC (a:Nat->World->(Nat->Prop)->Prop):Prop:=∀b c d G e,a b c G->aj e c d->(∀f,G f->¬e f)->a b d G
section
variable {w w':World} {F T:Nat->Prop} {cls:Nat->Nat} {C C2:Nat->World->(Nat->Prop)->Prop}
theorem bS.keep (c:bS w F cls C) (f:vC C) (d:aj T w w') (g:∀a,F a->¬T a):bS w' F cls C:=
 ⟨λe=>f e w w' _ T (c.at' e) d λa b=>g a b.1,λa b=>Qk (c.aF a b) d.size⟩
theorem bS.af (a:bS w F cls C) (b:vC C) (c:ai w w'):bS w' F cls C:=a.keep b c λ_ _ a=>a
theorem bS.II (i:bS w F cls C) (n:vC C) {k:Nat} {G':Nat->Prop} (h:aj (λa=>F a/\cls a=k) w w') (o:∀a,G' a->F a->cls a=k) (p:∀a,G' a->a<w'.heap.size)
  (q:C2 k w' G') (r:∀c G,c≠k->C c w' G->C2 c w' G):∃g d,bS w' g d C2/\aj F w w'/\(∀a,g a->((F a/\cls a≠k)\/G' a))/\(∀c,c≠k->(λa=>g a/\d a=c)=λa=>F a/\cls a=c)/\(λa=>g a/\d a=k)=G':=by
 classical
 have j:∀c,c≠k->(λa=>((F a/\cls a≠k)\/G' a)/\(if G' a then k else cls a)=c)=λa=>F a/\cls a=c:=λc f=>by
  funext a
  refine propext ⟨λb=>?_,λb=>?_⟩
  ·by_cases e:G' a
   ·rw [if_pos e]at b;exact absurd b.2.symm f
   ·rw [if_neg e]at b
    exact⟨(b.1.resolve_right e).1,b.2⟩
  ·have l:cls a≠k:=λs=>f (b.2.symm.trans s)
   rw [if_neg λe=>l (o a e b.1)];exact⟨.inl ⟨b.1,l⟩,b.2⟩
 have m:(λa=>((F a/\cls a≠k)\/G' a)/\(if G' a then k else cls a)=k)=G':=by
  funext a
  refine propext ⟨λb=>?_,λb=>⟨.inr b,if_pos b⟩⟩
  by_cases e:G' a
  ·exact e
  ·rw [if_neg e]at b;exact absurd b.2 (b.1.resolve_right e).2
 refine⟨λa=>(F a/\cls a≠k)\/G' a,λa=>if G' a then k else cls a,⟨λc=>?_,λa b=>?_⟩,h.mono λa _ b=>b.1,λa b=>b,j,m⟩
 ·by_cases f:c=k
  ·subst f
   rw [m];exact q
  ·rw [j c f]
   refine r c _ f (n c w w' _ _ (i.at' c) h λa b t=>f (b.2.symm.trans t.2))
 ·rcases b with b|b
  ·exact Qk (i.aF a b.1) h.size
  ·exact p a b
theorem bS.fr (e:bS w F cls C) (j:vC C) {k:Nat} {G':Nat->Prop} (l:aj (λa=>F a/\cls a=k) w w') (g:∀a,G' a->(F a/\cls a=k)\/w.heap.size<=a) (m:∀a,G' a->a<w'.heap.size)
  (f:C2 k w' G') (n:∀c G,c≠k->C c w' G->C2 c w' G):∃d b,bS w' d b C2/\de F w d w'/\(∀a,d a->((F a/\cls a≠k)\/G' a))/\(∀c,c≠k->(λa=>d a/\b a=c)=λa=>F a/\cls a=c)/\(λa=>d a/\b a=k)=G':=by
 obtain⟨d,b,h,f,i,o⟩:=e.II j l (λa p q=>(g a p).elim (·.2) λh=>by have:=e.aF a q;omega) m f n;exact⟨d,b,h,⟨f,λa r=>(i a r).elim (λe=>.inl e.1) λe=>(g a e).imp (·.1) id⟩,i,o⟩
theorem bS.same (e:bS w F cls C) (g:vC C) {k:Nat} (f:aj (λa=>F a/\cls a=k) w w') (h:C2 k w' (λa=>F a/\cls a=k)) (i:∀b G,b≠k->C b w' G->C2 b w' G):bS w' F cls C2:=
 ⟨λb=>by
  by_cases c:b=k
  ·subst c;exact h
  ·exact i b _ c (g b w w' _ _ (e.at' b) f λa d j=>c (d.2.symm.trans j.2)),λa d=>Qk (e.aF a d) f.size⟩
theorem bS.Ec (f:bS w F cls C) (g:vC C) {k:Nat} {G':Nat->Prop} (e:de (λa=>F a/\cls a=k) w G' w') (h:∀a,G' a->a<w'.heap.size)
  (i:C2 k w' G') (j:∀c G,c≠k->C c w' G->C2 c w' G):∃d b,bS w' d b C2/\de F w d w'/\(∀a,d a->((F a/\cls a≠k)\/G' a))/\(∀c,c≠k->(λa=>d a/\b a=c)=λa=>F a/\cls a=c)/\(λa=>d a/\b a=k)=G':=f.fr g e.1 e.2 h i j
theorem bS.join {G:Nat->Nat->Prop} (c:∀a,C a w (G a)) (i:∀f g b,G f b->G g b->f=g) (j:∀a b,G a b->b<w.heap.size):∃cls,bS w (λb=>∃a,G a b) cls C:=by
 classical
 refine⟨λb=>if c:∃a,G a b then c.choose else 0,⟨λa=>?_,λb ⟨a,d⟩=>j a b d⟩⟩;have:(λb=>(∃a,G a b)/\(if c:∃a,G a b then c.choose else 0)=a)=G a:=by
  funext b
  refine propext ⟨λ⟨e,h⟩=>?_,λd=>⟨⟨a,d⟩,?_⟩⟩
  ·rw [dif_pos e]at h;exact h▸e.choose_spec
  ·have e:∃a,G a b:=⟨a,d⟩
   rw [dif_pos e];exact i _ _ b e.choose_spec d
 rw [this];exact c a
end
end Go.ax
namespace Go.Proofs.YtfchlbaidamodaaGreatDoor
open Go.ax
def XS:kM Nat:=flat 1 (λb=>[.pointer (some ⟨b,0,none⟩)]) (λ_=>True) (λ_=>rfl) (λc d a=>by simp at a;subst a;rfl)
theorem Rl:jP ZQ 217 224 1 8:=⟨kR,kR,dC⟩
structure cU (w:World) (G:Nat->Prop) (a:Option Addr) (n c:Nat) (Rs:List ef):Prop where
 body:∃ps:List (Nat×Nat),ps.length=Rs.length/\aV XS 224 (λb=>aI a=some b) w a n c (ps.map (·.1))/\
  (∀(i j:Nat) (x y:Nat×Nat),ps[i]? =some x->ps[j]? =some y->x.1≠y.2/\(x.2=y.2->i=j))/\(∀x∈ps,G x.1/\G x.2/\aI a≠some x.1/\aI a≠some x.2)/\
  ∀(i:Nat) (x:Nat×Nat) (R:ef),ps[i]? =some x->Rs[i]? =some R->lO w x.1 x.2 R
 self:∀b,aI a=some b->G b
variable{H:Nat×Nat}{h:Program}{g q:TypeId}{o t:Value->World->Prop}
section
variable {w w':World} {G G' T:Nat->Prop} {a:Option Addr} {n c:Nat} {Rs:List ef}
theorem cU.keep (d:cU w G a n c Rs) (i:aj T w w') (e:∀b,G b->¬T b):cU w' G a n c Rs:=by
 obtain⟨j,k,l,m,f,o⟩:=d.body;exact⟨⟨j,k,l.keep i λb p=>e b (d.self b p),m,f,λq g r h s=>(o q g r h s).keep i (e _ (f g (QZ h)).1) (e _ (f g (QZ h)).2.1)⟩,d.self⟩
theorem cU.af (b:cU w G a n c Rs) (d:ai w w'):cU w' G a n c Rs:=b.keep d λ_ _ b=>b
theorem cU.mono (h:cU w G a n c Rs) (d:∀b,G b->G' b):cU w G' a n c Rs:=by
 obtain⟨i,j,k,l,e,m⟩:=h.body;exact⟨⟨i,j,k,l,λf g=>⟨d _ (e f g).1,d _ (e f g).2.1,(e f g).2.2⟩,m⟩,λb o=>d b (h.self b o)⟩
theorem cU.len (b:cU w G a n c Rs):n=Rs.length:=by
 obtain⟨f,d,e,-⟩:=b.body;rw [e.len dC,Q8,d]
theorem cU.nil (w:World):cU w (λ_=>False) none 0 0 []:=⟨⟨[],rfl,(aV.nil w).mono (λb a=>a.elim) (λb a=>by cases a),sM,sM,sM⟩,λb a=>by cases a⟩
theorem cU.elem (o:cU w G a n c Rs) {b:Nat} {p:ef} (v:Rs[b]? =some p):∃g f h,a=some ⟨g,0,none⟩/\w.cell? ⟨g,0+b,none⟩=some (.pointer (some ⟨f,0,none⟩))/\lO w f h p/\f≠h/\G f/\G h/\G g/\
  ∀w' q,aj (·=h) w w'->lO w' f h q->cU w' G a n c (Rs.set b q):=by
 obtain⟨i,C,x,k,y,z⟩:=o.body;have M:=(Qv.1 v).1;have d:i[b]? =some i[b]:=Qq oM;generalize i[b]=e at d;obtain⟨cs,D,E,F,N⟩:=x.body;have r:=y e (QZ d);obtain⟨rfl,-⟩:=oq.1 F;have H:((i.map (·.1)).flatMap λf=>[Value.pointer (some ⟨f,0,none⟩)])[b]? =some (.pointer (some ⟨e.1,0,none⟩)):=by
  rw [lk (K:=1) dC (λ_=>rfl) (by simp;omega),Nat.div_one,Nat.mod_one,getElem!_pos _ b (by simp;omega)];simp [(Qv.1 d).2]
 obtain⟨g,A,I⟩:=E.cell H;refine⟨g,e.1,e.2,A,by rw [Xz];exact I.2,z b e p d v,(k b b e e d d).1,r.1,r.2.1,o.self g (by rw [A];rfl),λw' q B J=>⟨⟨i,by simpa using C,x.keep B λO K s=>r.2.2.2 (s▸K),k,y,λl t L j m=>?_⟩,o.self⟩⟩
 by_cases u:b=l
 ·subst u
  rw [d]at j;cases j
  rw [List.getElem?_set_self oM]at m;cases m
  exact J
 ·rw [List.getElem?_set_ne u]at m
  exact(z l t L j m).keep B (k l b t e j d).1 λs=>u ((k b l e t d j).2 s.symm)
theorem cU.push (s:cU w G a n c Rs) (K:∀b,G b->b<w.heap.size) {f i O:Nat} {P:ef} (L:lO w f i P) (Q:¬G f) (z:¬G i) (X:f≠i) (Y:jP h g 224 1 8)
  (Z:w.heap[O]? =some (.cells #[.pointer (some ⟨f,0,none⟩)] 224 H)) (d:Rs.length<=1000) 
  (M:∀l A w' G',cU w' G' l (n+1) A (Rs++[P])->aj G w w'->(∀b,G' b->G b\/b=f\/b=i\/w.heap.size<=b)->(∀b,G' b->b<w'.heap.size)->o (.slice l (n+1) A) w'):
  aH h (Builtin.append_ #[g,g] q #[.slice a n c,.slice (some ⟨O,0,none⟩) 1 1]) w o t:=by
 obtain⟨m,p,N,h3,C,h5⟩:=s.body;have a1:f<w.heap.size:=aC L.at';have a2:i<w.heap.size:=L.map.lt;refine fh N Y Z (D:=λ_=>False) (x:=f) ⟨rfl,trivial⟩ (λb d=>d.elim) (by unfold aQ;simp;omega) (by unfold maxLen;simp;omega) λl A w' F' R F hF=>?_;have a0:∀b,aI l=some b->aI a=some b\/w.heap.size<=b:=λb d=>(hF b (R.self b d)).imp id λs=>s.resolve_left id;have u:=R.alone;have a5:=F.size;have S:∀b,aI l=some b->aI a=some b\/w.heap.size<=b:=a0;have I:∀b,b<w.heap.size->aI a≠some b->aI l≠some b:=λb d p N=>(S b N).elim p oM;have T:aI a≠some f:=λk=>Q (s.self f k);have U:aI a≠some i:=λk=>z (s.self i k);refine M l A w' (λb=>(G b\/b=f\/b=i\/aI l=some b)) ⟨⟨m++[(f,i)],by simp [p],by rw [Q3];exact u,λj V x v B J=>?_,λx B=>?_,λj x a3 B r=>?_⟩,λb d=>.inr (.inr (.inr d))⟩ (F.mono λb _ d=>s.self b d) (λb d=>?_) λb d=>?_
 ·have E:∀j x,(m++[(f,i)])[j]? =some x->(m[j]? =some x)\/(j=m.length/\x=(f,i)):=λj x B=>by
   rw [List.getElem?_append]at B;split at B
   ·exact .inl B
   ·rename_i W
    have:j-m.length=0:=by
     rcases Nat.eq_zero_or_pos (j-m.length)with y|y
     ·exact y
     ·rw [Q7 (by simp;omega)]at B;cases B
    rw [this]at B;simp at B;exact .inr ⟨oM,B.symm⟩
  rcases E j x B with B|⟨rfl,rfl⟩<;>rcases E V v J with J|⟨rfl,rfl⟩
  ·exact h3 j V x v B J
  ·have e:=C x (QZ B)
   exact⟨λk=>z ((show x.1=i from k)▸e.1),λk=>absurd ((show x.2=i from k)▸e.2.1) z⟩
  ·have e:=C v (QZ J)
   exact⟨λk=>Q ((show f=v.2 from k)▸e.2.1),λk=>absurd ((show i=v.2 from k)▸e.2.1) z⟩
  ·exact⟨X,λ_=>rfl⟩
 ·rcases Q6.1 B with B|B
  ·have e:=C x B
   exact⟨.inl e.1,.inl e.2.1,I _ (K _ e.1) e.2.2.1,I _ (K _ e.2.1) e.2.2.2⟩
  ·simp at B;subst B
   exact⟨.inr (.inl rfl),.inr (.inr (.inl rfl)),I _ a1 T,I _ a2 U⟩
 ·rw [List.getElem?_append]at B r
  rw [<-p]at r;split at B
  ·rename_i a4
   rw [if_pos a4]at r;have e:=C x (QZ B);exact(h5 j x a3 B r).keep F e.2.2.1 e.2.2.2
  ·rename_i W
   rw [if_neg W]at r;have:j-m.length=0:=by
    rcases Nat.eq_zero_or_pos (j-m.length)with y|y
    ·exact y
    ·rw [Q7 (by simp;omega)]at B;cases B
   rw [this]at B r;simp at B r;subst B r;exact L.keep F T U
 ·rcases d with d|d|d|d
  ·exact .inl d
  ·exact .inr (.inl d)
  ·exact .inr (.inr (.inl d))
  ·rcases S b d with p|p
   ·exact .inl (s.self b p)
   ·exact .inr (.inr (.inr p))
 ·rcases d with d|d|d|d
  ·have:=K b d;omega
  ·omega
  ·omega
  ·exact u.aF b d
def Zh:kM (List ef) where
 k:=2
 rep:=λw D Rs cs=>∃b a n c,cs=[.pointer b,.slice a n c]/\cU w D a n c Rs
 keep:=λ⟨b,a,n,c,d,e⟩ h f=>⟨b,a,n,c,d,e.keep h f⟩
 mono:=λ⟨b,a,n,c,d,e⟩ f=>⟨b,a,n,c,d,e.mono f⟩
 len:=λ⟨b,a,n,c,d,e⟩=>by rw [d];rfl
 one:=λ⟨b,a,n,c,d,e⟩ i g=>by
  rw [d]at g;simp only [Q2,List.not_mem_nil,or_false]at g;rcases g with rfl|rfl<;>rfl
theorem Xa:jP ZQ 220 219 2 32:=⟨kR,kR,dC⟩
end
theorem Lf (a:aR) (b:List ah) (c:ah):eN a (b++[c])=(eN a b).add c:=by unfold eN;rw [List.foldl_append];rfl
theorem Lh (a:aR) (b:List ah) (c:ah):cG a (b++[c])=((cG a b).add c).2:=by unfold cG;rw [List.foldl_append];rfl
theorem Lg (c:aR) (a:List ah):(eN c a).view=cG c a:=by
 have:∀(a:List ah) (b:kL),(a.foldl kL.add b).view=a.foldl (λe d=>(e.add d).2) b.view:=by
  intro a
  induction a with
  |nil=>intro b;rfl
  |cons d a f=>intro b;rw [List.foldl_cons,List.foldl_cons,f];rfl
 exact this a _
variable{r:Array Value}{s:Ending->World->Prop}{e:Int}{C:List ah}{g6:List ef}{a c:Nat}{d:Option Addr}{b:World}{L:aR}{n:ah}{d4:bk}{e0:jO}
theorem IP (e:dd L=0) (b:List ah):(cG L b).OK/\(cG L b).decl=L:=by
 have:∀(b:List ah) (a:bk),a.OK->(b.foldl (λa c=>(a.add c).2) a).OK/\(b.foldl (λa c=>(a.add c).2) a).decl=a.decl:=by
  intro b
  induction b with
  |nil=>intro a d;exact⟨d,rfl⟩
  |cons c b f=>
   intro a d;obtain⟨g,h⟩:=bk.Bn d c;obtain⟨i,j⟩:=f _ g;exact⟨i,j.trans h⟩
 exact this b _ (bk.uk e)
theorem ef.Xb (b:ef) (c:df) (a:Int):(b.add c a).p=b.p:=by
 unfold ef.add;dsimp only;split
 ·rfl
 ·split<;>rfl
theorem IH (e:aR) (a:List ah):(eN e a).rows.map (·.p)=e.projs:=by
 have:∀(a:List ah) (b:kL),(a.foldl kL.add b).rows.map (·.p)=b.rows.map (·.p):=by
  intro a
  induction a with
  |nil=>intro b;rfl
  |cons c a f=>
   intro b;rw [List.foldl_cons,f];show((b.rows.map λd=>d.add (b.view.add c).1 (tI ((b.view.add c).2.state c.bd c.agg) d.p)).map (·.p))=_;rw [List.map_map];exact List.map_congr_left λd _=>d.Xb _ _
 refine(this a _).trans ?_;show(e.projs.map λg=>(⟨g,[]⟩:ef)).map (·.p)=_;rw [List.map_map];exact List.map_id _
theorem qI (a:aR) (b:List ah):(eN a b).rows.length=a.projs.length:=by
 rw [<-IH a b,Q8]
def kY (c:aR) (a:Nat) (b:List ah):List (List ef):=(List.range (b.length/a+1)).map λd=>(eN c (b.take (d*a))).rows
section
variable {d:aR} {every:Nat} {l:List ah}
theorem Bl:(kY d every l).length=l.length/every+1:=by simp [kY]
theorem Rq (b:a<=l.length/every):(kY d every l)[a]? =some (eN d (l.take (a*every))).rows:=by
 unfold kY;rw [Q9,List.getElem?_range oM];rfl
theorem Ru:kY d every []=[(eN d []).rows]:=by
 unfold kY;rw [List.length_nil,Nat.zero_div];simp
theorem OU (f:0<every) (g:ah):kY d every (l++[g])=if l.length+1=(l.length/every+1)*every then kY d every l++[(eN d (l++[g])).rows]else kY d every l:=by
 have i:=Nat.div_add_mod l.length every;have j:=Nat.mod_lt l.length f;have b:∀a,a<=l.length/every->(l++[g]).take (a*every)=l.take (a*every):=λa c=>by
  have:a*every<=l.length:=Xx (Q0 _ c) (Nat.div_mul_le_self ..);rw [List.take_append_of_le_length this]
 split
 ·rename_i e
  have h:(l.length+1)/every=l.length/every+1:=by rw [e];exact Nat.mul_div_cancel _ f
  unfold kY;rw [QX,List.length_singleton,h,List.range_succ,Q3]
  congr 1
  ·refine List.map_congr_left λa c=>?_
   rw [b a (by have:=List.mem_range.1 c;omega)]
  ·rw [List.map_singleton,<-e,Qz sM]
 ·rename_i e
  have h:(l.length+1)/every=l.length/every:=by
   have k:(l.length+1)/every<l.length/every+1:=by
    rw [Nat.div_lt_iff_lt_mul f];rw [X7,Nat.one_mul,Nat.mul_comm]at e⊢;omega
   have m:l.length/every<=(l.length+1)/every:=Nat.div_le_div_right oM;omega
  unfold kY;rw [QX,List.length_singleton,h];refine List.map_congr_left λa c=>?_;rw [b a (by have:=List.mem_range.1 c;omega)]
theorem OX (c:0<every) (e:a<=l.length/every):(kY d every l).take (a+1)=kY d every (l.take (a*every)):=by
 have f:a*every<=l.length:=Xx (Q0 _ e) (Nat.div_mul_le_self ..);unfold kY;rw [Qy,X2 f,Nat.mul_div_cancel _ c,<-List.map_take,List.take_range,X2 oM];refine List.map_congr_left λg h=>?_;have b:g<=a:=by have:=List.mem_range.1 h;omega
 rw [List.take_take,X2 (Q0 _ b)]
end
structure xC where
 ta:Option Addr
 tn:Nat
 tc:Nat
 pa:Option Addr
 pn:Nat
 pc:Nat
 every:Nat
 ea:Option Addr
 en:Nat
 ec:Nat
 vp:Nat
 ra:Option Addr
 rn:Nat
 rc:Nat
 qa:Option Addr
 qn:Nat
 qc:Nat
abbrev xC.cells (a:xC):Array Value:= #[.slice a.ta a.tn a.tc,.slice a.pa a.pn a.pc,QH (a.every:Int),.slice a.ea a.en a.ec,.pointer (some ⟨a.vp,0,none⟩),.slice a.ra a.rn a.rc,.slice a.qa a.qn a.qc]
def Bj (d:Nat) (e:Array Value) (a:xC) (f:aR) (g:bk) (h:List ef) (i:List ah) (c:List (List ef)):Nat->World->(Nat->Prop)->Prop
 |0=>λb G=>G d/\b.heap[d]? =some (.cells e 222 (0,0))
 |1=>λb G=>bh b G f a.ta a.tn a.pa a.pn
 |2=>λb G=>aV fZ 59 G b a.ea a.en a.ec i
 |3=>λb G=>cT b a.vp G g
 |4=>λb G=>cU b G a.ra a.rn a.rc h
 |5=>λb G=>aV Zh 219 G b a.qa a.qn a.qc c
 |_=>λ_ _=>True
theorem ej {f:xC} {e:List (List ef)}:vC (Bj a r f L d4 g6 C e):=by
 intro k g w' G h b c d
 match k,b with
 |0,b=>exact⟨b.1,c.get b.2 (d a b.1)⟩
 |1,b=>exact bh.keep b c d
 |2,b=>exact aV.keep b c d
 |3,b=>exact cT.keep b c d
 |4,b=>exact cU.keep b c d
 |5,b=>exact aV.keep b c d
 |k+6,b=>trivial
abbrev eH (d:World) (e:Nat->Prop) (a:Nat->Nat) (f:Nat) (c:xC) (g:aR) (h:bk) (i:List ef) (j:List ah) (b:List (List ef)):Prop:=bS d e a (Bj f c.cells c g h i j b)
section
variable {w w':World} {p:Nat} {F T D:Nat->Prop} {cls:Nat->Nat} {q:xC} {d:aR} {V:bk} {Rs:List ef} {l:List ah} {pts:List (List ef)}
theorem eH.af (a:eH w F cls p q d V Rs l pts) (b:ai w w'):eH w' F cls p q d V Rs l pts:=bS.af a ej b
theorem eH.bG (a:eH w F cls p q d V Rs l pts):w.heap[p]? =some (.cells q.cells 222 (0,0)):=(a.at' 0).2
theorem eH.self (a:eH w F cls p q d V Rs l pts):F p/\cls p=0:=(a.at' 0).1
theorem Fj (t:eH w F cls p q d V Rs l pts) (hd:dd d=0) (hT:eM w) (hl:l.length<=20000000) {vp:Option Addr} {z:Option Addr} (hr:cU w D z a c g6) (hD:∀b,D b->b<w.heap.size) (hn:g6.length<=8):
  Calls ZQ 180 #[.pointer (some ⟨p,0,none⟩),.agg #[.pointer vp,.slice z a c]] w (Ok λT w'=>∃i z a c g G,T= .agg #[.pointer (some ⟨i,0,none⟩),.slice z a c]/\cT w' i g (cG d l)/\cU w' G z a c g6/\(∀b,g b->w.heap.size<=b)/\(∀b,G b->w.heap.size<=b/\b<w'.heap.size/\¬g b)/\ai w w'):=by
 have U:=t.aF;have g4:=hr.len;refine uf (PA.mk λu k5 s5 g5=>PA.mk λA k6 s6 a3=>?_);have B:=k5.then k6;have c0:∀{k:World},ai w k->Row fZ 96 k (λb=>F b/\cls b=2) q.ea q.en l:=λ{k} v=>((show aV fZ 59 (λb=>F b/\cls b=2) w q.ea q.en q.ec l from t.at' 2).af v).row dC (by unfold aQ;omega);have o:∀{k:World},ai w k->Calls ZQ 40 #[.agg #[.slice q.ta q.tn q.tc,.slice q.pa q.pn q.pc],.slice q.ea q.en q.ec] k (Ok λT w'=>∃p F,T= .pointer (some ⟨p,0,none⟩)/\cT w' p F (cG d l)/\(∀b,F b->k.heap.size<=b)/\ai k w'):=λ{k} v=>
  ID hd (hT.af v) (show bh k (λb=>F b/\cls b=1) d q.ta q.tn q.pa q.pn from bh.keep (t.at' 1) v λ_ _ t=>t) (λb e=>by have:=U b e.1;have:=v.size;omega) (c0 v) (λb e=>by have:=U b e.1;have:=v.size;omega) hl
 refine⟨λj oo w'=>oo=0/\∃i g,w'.heap[j]? =some (.cells #[.pointer (some ⟨i,0,none⟩),.slice none 0 0] 219 (0,0))/\cT w' i g (cG d l)/\(∀b,g b->A.heap.size<=b)/\¬g j/\A.heap.size<=j/\ai A w',?_,?_⟩
 ·intro r d9
  have x:ai A r:=d9.keep;have s9:r.heap.size=A.heap.size:=by rw [d9.heap]
  have W:=(t.af (B.then x)).bG;have zp:=U p t.self.1;have nS:¬r.heap.size<=p:=by have:=(B.then x).size;omega
  refine⟨λb=>r.heap.size<=b,p,0,rfl,nS,_,_,_,_,_,_,ae W rfl,ae W rfl,p,0,rfl,nS,_,_,_,ae W rfl,PC.ok (o (B.then x)) ?_,PA.mk λg7 X g8 d2=>⟨ai.keep X,PC.ok (o ((B.then x).then X)) ?_⟩⟩
  ·rintro _ K ⟨i,g,rfl,s,C,Y⟩
   refine⟨_,rfl,ai.keep Y,PA.mk λd3 Z g9 d4=>⟨ai.keep Z,PS.mk d4 sM λh0 d5 h2 d6=>PS.mk d6 sM λd7 d8 h3 e0=>?_⟩⟩;have E:=s.aF;have h4:=Y.size;have h:aj (λb=>b=K.heap.size) d3 d7:=d5.then d8;refine⟨h.mono λb _ f=>by have f:b=K.heap.size:=f;omega,rfl,i,g,e0,(s.af Z).keep h λb e f=>by have f:b=K.heap.size:=f;have:=E b e;omega,λb e=>by have:=C b e;omega,λe=>by have:=E _ e;omega,oM,((x.then Y).then Z).new h λb e=>.inr (by have e:b=K.heap.size:=e;omega)⟩
  ·rintro _ e1 ⟨i,g,rfl,s,C,L⟩
   have e2:=L.get d2 id;have E:=s.aF;have h5:=L.size;refine⟨_,rfl,ai.keep L,PS.mk e2 sM λh6 e3 h7 e4=>PS.mk e4 sM λe5 e6 h8 e7=>?_⟩;have h:aj (λb=>b=r.heap.size) e1 e5:=e3.then e6;refine⟨h.mono λb _ f=>by have f:b=r.heap.size:=f;omega,rfl,i,g,e7,s.keep h λb e f=>by have f:b=r.heap.size:=f;have:=C b e;omega,λb e=>by have:=C b e;omega,λe=>by have:=C _ e;omega,oM,((x.then X).then L).new h λb e=>.inr (by have e:b=r.heap.size:=e;omega)⟩
 rintro j _ _ M ⟨rfl,i,g,H,s,c1,e8,g3,N⟩;have a5:=B.then N;have h9:=N.size;have a4:j<M.heap.size:=aC H;have E:=s.aF;have c4:=N.get (k6.get g5 id) id;have c5:=N.get a3 id;refine⟨_,_,_,ae c4 rfl,λa2 a7 w'=>∃m:Nat,a7=m/\m<=a/\a2=a-m/\∃O I P G,w'.heap[j]? =some (.cells #[.pointer (some ⟨i,0,none⟩),.slice O I P] 219 (0,0))/\cU w' G O I P (g6.take m)/\(∀b,G b->M.heap.size<=b/\b<w'.heap.size)/\aj (·=j) M w',
  ⟨_,0,rfl,Qj _,rfl,none,0,0,λ_=>False,H,cU.nil _,λb e=>e.elim,aj.refl _⟩,?_⟩
 rintro a2 _ _ J ⟨m,rfl,hj,rfl,O,I,P,G,Q,R,n,y⟩;have i0:=y.size;refine al.dec (λi1=>?_) (λi2=>?_)
 ·have e9:m<g6.length:=oM
  have hx:g6[m]? =some g6[m]:=Qq e9;generalize g6[m]=f0 at hx;obtain⟨a8,pj,rj,ha,a0,hR,a9,b0,b1,-,-⟩:=((hr.af a5).keep y λb e f=>by have f:b=j:=f;have:=hD b e;omega).elem hx;have f2:=R.len;rw [Qy,X2 oM]at f2;refine⟨a8,0,ha,oM,oM,_,by rw [Qx];exact a0,λc6 c7=>⟨λ_=>False,id,?_⟩⟩;have b2:ai J c6:=c7.keep;have i3:c6.heap.size=J.heap.size:=by rw [c7.heap]
  refine⟨_,_,_,ae (b2.get Q id) rfl,PC.ok (OT (hR.af b2)) ?_⟩;rintro _ i4 ⟨p',r',rfl,f3,f4,i5,i6,i7,i8,b3⟩;have i9:=b3.size;refine⟨_,rfl,b3,PA.mk λj0 b4 j1 f5=>⟨b4,?_⟩⟩;have a1:=(b2.then b3).then b4;refine(R.af a1).push (λb e=>by have:=(n b e).2;omega) (f3.af b4) (λe=>by have:=(n _ e).2;omega) (λe=>by have:=(n _ e).2;omega) f4 Rl f5 (by rw [Qy];omega) λb6 c3 j2 G3 f7 b5 g0 c8=>⟨_,_,_,rfl,?_⟩
  have j3:=b5.size;have c2:=b5.get (a1.get Q id) λe=>by have:=(n _ e).1;omega
  have a6:∀b,G3 b->M.heap.size<=b:=λb e=>by
   rcases g0 b e with S|S|S|S
   ·exact(n b S).1
   ·omega
   ·omega
   ·omega
  refine PS.mk c2 sM λj4 c9 j5 g1=>⟨_,oM,m+1,an oM,oM,rfl,b6,I+1,c3,G3,g1,?_,λb e=>⟨a6 b e,by have:=c8 b e;omega⟩,?_⟩
  ·rw [Qw,hx]
   exact f7.keep c9 λb e f=>by have f:b=j:=f;have:=a6 b e;omega
  ·exact((y.af a1).new b5 λb e=>.inr (n b e).1).then c9
 ·rw [Qz oM]at R
  have d0:=y.get c5 λf=>by have f:u.heap.size=j:=f;omega
  refine⟨_,_,_,_,ae Q rfl,ae Q rfl,PS.mk d0 sM λj6 b7 j7 g2=>PS.mk g2 sM λb8 b9 j8 d1=>⟨_,_,_,_,ae d1 rfl,ae d1 rfl,Ok.mk ⟨i,O,I,P,g,G,rfl,?_,?_,λb e=>by have:=c1 b e;omega,λb e=>⟨?_,?_,?_⟩,?_⟩⟩⟩
  ·have h:aj (λb=>b=u.heap.size) J b8:=b7.then b9
   exact(s.keep y λb e f=>e8 ((show b=j from f)▸e)).keep h λb e f=>by have f:b=u.heap.size:=f;have:=c1 b e;omega
  ·have h:aj (λb=>b=u.heap.size) J b8:=b7.then b9
   exact R.keep h λb e f=>by have f:b=u.heap.size:=f;have:=n b e;omega
  ·have:=n b e;omega
  ·have:=n b e;omega
  ·intro hf;have:=n b e;have:=E b hf;omega
  ·have h:aj (λb=>b=u.heap.size) J b8:=b7.then b9
   exact(a5.new y λb e=>.inr (by have e:b=j:=e;omega)).new h λb e=>.inr (by have e:b=u.heap.size:=e;omega)
end
section
variable {w w':World} {p:Nat} {F T D:Nat->Prop} {cls:Nat->Nat} {q:xC} {d:aR} {V:bk} {Rs:List ef} {l:List ah} {pts:List (List ef)}
theorem Ef {e:Option Addr} {w:World} {D:Nat->Prop} (i:Row aP 8 w D e a n.aK) (t:∀b,D b->b<w.heap.size):
  Calls ZQ 202 #[kK n e a c] w (Ok λu w'=>∃e a c G,u=kK n e a c/\Row aP 8 w' G e a n.aK/\(∀b,G b->w.heap.size<=b/\b<w'.heap.size)/\ai w w'):=by
 have v:=i.d_;have x:=i.len;refine Aa (PA.mk λA m B f=>PA.mk λC g E j=>⟨_,_,_,ae (g.get f id) rfl,PC.ok (cH (i.af (m.then g)) λb d=>by have:=t b d;omega) ?_⟩);rintro _ F ⟨o,p,q,G,rfl,r,h,k⟩;have f:=h.get (g.get f id) id;have j:=h.get j id;refine⟨_,_,_,rfl,PS.mk f (by simp [aE]) λH l I y=>?_⟩;refine aw (cs:=aE n o p q) (bg _ _ _ _) y (aD (bg _ _ _ _) (l.get j oM) rfl λJ s K z=>aw (bg _ _ _ _) z (Ok.mk ⟨o,p,q,G,rfl,?_,?_,?_⟩))
 ·refine(((r.keep l λb d=>?_).keep s λb d=>?_).row (bytes:=8) dC (by rw [<-x];exact v))
  ·have:=k b d;omega
  ·have:=k b d;omega
 ·intro b d
  have:=k b d;have:=r.aF b d;omega
 ·have L:=h.size
  exact((aj.new ((m.then g).then h) l λb d=>.inr oM).new s λb d=>.inr oM)
theorem eH.store {b:xC} (a:bS w F cls (Bj p q.cells b d V Rs l pts)) (e:aj (·=p) w w') (f:w'.heap[p]? =some (.cells r 222 (0,0))):bS w' F cls (Bj p r b d V Rs l pts):=by
 refine bS.same a ej (k:=0) (e.mono λj _ g=>g▸(a.at' 0).1) ⟨(a.at' 0).1,f⟩ λc G h i=>?_;rcases c with _|_|_|_|_|_|c<;>first|exact i|exact absurd rfl h
theorem Fk (b:eH w F cls p q d V Rs l pts) (J:dd d=0) (K:eM w) (L:l.length<=20000000) (M:Rs.length<=8) (b2:pts.length*q.every<9223372036854775808) (b3:pts.length<=20000001):
  Calls ZQ 134 #[.pointer (some ⟨p,0,none⟩)] w (Ok λN w'=>N= .tuple #[]/\∃u v g,eH w' v g p u d V Rs l (if l.length=pts.length*q.every then pts++[Rs]else pts)/\u.every=q.every/\de F w v w'):=by
 have k:=b.bG;have O:=aV.len (b.at' 2) dC;have P:=aV.len (b.at' 5) dC;have Q:=b.aF;have R:IntKind.wrap .i64 (((q.qn:Nat):Int)*(q.every:Int))=((pts.length*q.every:Nat):Int):=by
  rw [P,show((pts.length:Nat):Int)*(q.every:Int)=((pts.length*q.every:Nat):Int) by push_cast;rfl,wrap_i64 (by unfold aN;omega)]
 refine ug ⟨p,0,rfl,_,_,_,ae k rfl,p,0,rfl,_,_,_,ae k rfl,p,0,rfl,_,ae k rfl,λS T=>?_⟩;rw [R,O];have m:ai w S:=T.keep;refine al.dX (λb4=>?_) (λb5=>Ok.mk ⟨rfl,q,F,cls,?_,rfl,ai.keep m,λa c=>.inl c⟩)
 rotate_left
 ·rw [if_neg oM];exact eH.af b m
 rw [if_pos oM];intro x U;have j:ai w x:=m.then U.keep;have f:=eH.af b j;have n:=f.bG;refine⟨λ_=>False,p,0,rfl,id,_,_,_,ae n rfl,p,0,rfl,_,_,_,_,ae n rfl,ae n rfl,PC.ok (Fj f J (K.af j) L (f.at' 4) (λa c=>f.aF a c.1) M) ?_⟩;rintro _ b6 ⟨b7,a3,n2,c2,Fv,G,rfl,-,W,-,o,r⟩;refine⟨_,_,_,_,rfl,r,PA.mk λb8 s b9 X=>⟨s,?_⟩⟩;have y:=r.then s;have Y:=eH.af f y;have c0:=j.size;have c1:=r.size;have t:∀a,aI q.qa=some a->F a/\cls a=5:=λa c=>aV.self (b.at' 5) a c;refine fh (c:=Zh) (x:=Rs) (Y.at' 5) Xa X (D:=G) ⟨_,_,_,_,rfl,W.af s⟩ (λa c=>⟨by have:=(o a c).2.1;omega,λh=>by have:=Q a (t a h).1;have:=(o a c).1;omega⟩) (by unfold aQ;omega) (by unfold maxLen;omega) λz e Z F2 A B b0=>⟨_,_,_,rfl,p,0,rfl,?_⟩
 have a0:¬aI q.qa=some p:=λh=>by have i:=(t p h).2;rw [b.self.2]at i;cases i
 have c3:=B.size;have a1:aj (λa=>F a/\cls a=5) x Z:=(ai.keep y).then (B.mono λa _ c=>t a c);obtain⟨F3,a2,C,E,-,-⟩:=f.fr ej (k:=5) (G':=F2) (C2:=Bj p q.cells {q with qa:=z,qn:=q.qn+1,qc:=e} d V Rs l (pts++[Rs])) a1
  (λa c=>(b0 a c).imp id λb=>b.elim (λb=>(o a b).1) λb=>oM) A.aF A λH G hj hc=>by
   rcases H with _|_|_|_|_|_|H<;>first|exact hc|exact absurd rfl hj
 refine PS.mk (C.at' 0).2 sM λc4 I c5 b1=>Ok.mk ⟨rfl,{q with qa:=z,qn:=q.qn+1,qc:=e},F3,a2,eH.store C I b1,rfl,?_,λa c=>?_⟩
 ·refine((ai.keep j).then E.keep).then (I.mono λa _ h=>h▸b.self.1)
 ·rcases E.new a c with i|i
  ·exact .inl i
  ·exact .inr oM
end
section
variable {w w':World} {p:Nat} {F T D:Nat->Prop} {cls:Nat->Nat} {q:xC} {d:aR} {V:bk} {Rs:List ef} {l:List ah} {pts:List (List ef)}
def qG (V:bk) (a:ah) (Rs:List ef):List ef:=Rs.map λb=>b.add (V.add a).1 (tI ((V.add a).2.state a.bd a.agg) b.p)
theorem TG {d:aR} (e:dd d=0) (f:e0∈d.projs):0<=e0.GO:=by
 have b:=(lu e).2.2 e0 f;unfold mK at b;split at b
 ·cases b
 split at b
 ·cases b
 rename_i a
 by_cases c:e0.group=3
 ·rw [c]at a
  simp only [BEq.rfl,Bool.true_and,bne_self_eq_false,Bool.false_and,Bool.or_false,Bool.not_eq_true,Bool.not_eq_false']at a;unfold Tz within at a;simp only [QK,decide_eq_true_eq]at a;exact a.1.1
 ·have g:(e0.group==3)=false:=by simpa using c
  have h:(e0.group !=3)=true:=by simpa using c
  rw [g,h]at a;simp at a;omega
theorem Fq {V:bk} (b:V.OK) (a:ah):((V.state a.bd a.agg).getD IB).cells.length<=8:=by
 have c:=b.len a;have d:=(xD (lu b.decl).1).2.2.2;have i:(V.decl.at a.bd).length<=8:=by
  unfold aR.at;split
  ·rw [QQ]
   cases e:V.decl.types[a.bd.toNat]? with
   |none=>simp
   |some f=>exact(d f (QZ e)).2
  ·simp
 unfold bk.cellsOf at c;unfold bk.state
 cases g:ay V.fj (a.bd,a.agg)with
 |none=>simp
 |some h=>simp only [g]at c;show h.cells.length<=8;omega
def YD (w a:World) (p:Nat) (F:Nat->Prop) (q:xC) (d:aR) (V:bk) (Rs:List ef) (l:List ah) (pts:List (List ef)) (f:ah) (b g:Nat) (w':World):Prop:=
 g=0/\∃h i j c k,w'.heap[b]? =some (.cells (iG (V.add f).1 h i j).toArray 160 (0,0))/\eH w' c k p q d (V.add f).2 Rs l pts/\(∀e,c e->F e\/a.heap.size<=e)/\aj F a w'/\a.heap.size<=b/\¬c b
theorem Rm (v:eH w F cls p q d V Rs l pts) (hd:dd d=0) (hT:eM b) (g0:ai b w) (g3:∀e,F e->b.heap.size<=e) (hl:l.length+1<=20000000) (k4:V.entries.length<=20000000) (g4:Rs.map (·.p)=d.projs)
  (k5:pts.length*q.every<9223372036854775808) (k6:pts.length<=20000001) {J:Option Addr} (k7:((ay V.done (n.bd,n.agg,n.field)).getD []).length<=20000000)
  (hr:Row aP 8 w D J a n.aK) (R:∀e,D e->e<w.heap.size/\¬F e) (he:n.Ok):
  Calls ZQ 144 #[.pointer (some ⟨p,0,none⟩),kK n J a c] w (Ok λa5 w'=>a5= .tuple #[]/\∃q' S a0,eH w' S a0 p q' d (V.add n).2 (qG V n Rs) (l++[n]) (if l.length+1=pts.length*q.every then pts++[qG V n Rs]else pts)/\q'.every=q.every/\de F w S w'):=by
 have T:=v.aF;have q7:=T p v.self.1;have q8:Rs.length=d.projs.length:=by rw [<-g4,Q8]
 have q9:d.projs.length<=8:=(xD (lu hd).1).2.2.1;refine vD (PA.mk λe0 b8 r0 g5=>?_);have k8:=eH.af v b8;refine⟨YD w e0 p F q d V Rs l pts n,?_,?_⟩
 ·intro s g6
  have a6:ai e0 s:=g6.keep;have r3:s.heap.size=e0.heap.size:=by rw [g6.heap]
  have e1:=eH.af k8 a6;have a7:=b8.then a6;have g7:=e1.bG;have a1:∀{r:World},ai s r->Calls ZQ 79 #[.pointer (some ⟨q.vp,0,none⟩),kK n J a c] r (Ok λa5 w'=>∃J a c G,a5=GP (V.add n).1 J a c/\Row aP 8 w' G J a n.aK/\∃S,cT w' q.vp S (V.add n).2/\de (λe=>F e/\cls e=3) r S w'/\∀e,G e->r.heap.size<=e/\e<w'.heap.size/\¬S e):=λ{r} U=>
   IE (show cT r q.vp (λe=>F e/\cls e=3) V from(eH.af e1 U).at' 3) (hT.af (g0.then (a7.then U))) (hr.af (a7.then U)) (λe f=>⟨by have:=(R e f).1;have:=(a7.then U).size;omega,λi=>(R e f).2 i.1⟩) he k7 k4
  have fr:∀{r w2:World} {t:Nat->Prop},ai s r->cT w2 q.vp t (V.add n).2->de (λe=>F e/\cls e=3) r t w2->∃j m,eH w2 j m p q d (V.add n).2 Rs l pts/\(∀e,j e->F e\/t e)/\(∀e,j e->F e\/r.heap.size<=e)/\aj F r w2:=λ{r w2 t} U W y=>by
   obtain⟨j,m,X,K,o,-⟩:=(eH.af e1 U).Ec ej (k:=3) (G':=t) (C2:=Bj p q.cells q d (V.add n).2 Rs l pts) y W.aF W λg G Y hc=>by
    rcases g with _|_|_|_|_|_|g<;>first|exact hc|exact absurd rfl Y
   exact⟨j,m,X,λe f=>(o e f).imp (·.1) id,K.new,K.keep⟩
  have nS:¬((F p/\cls p=3)\/s.heap.size<=p):=by
   rintro(⟨-,h⟩|h)
   ·rw [v.self.2]at h;cases h
   ·omega
  have b9:¬((F w.heap.size/\cls w.heap.size=3)\/s.heap.size<=w.heap.size):=by
   rintro(⟨h,-⟩|h)
   ·have:=T _ h;omega
   ·omega
  refine⟨λe=>(F e/\cls e=3)\/s.heap.size<=e,p,0,rfl,nS,_,ae g7 rfl,b9,aw (bg n J a c) (a6.get g5 id) ⟨PC.ok (a1 (aj.refl _)) ?_,PA.mk λr4 c0 r5 k9=>⟨ai.keep c0,PC.ok (a1 c0) ?_⟩⟩⟩
  ·rintro _ e2 ⟨z,A,B,G1,rfl,-,t,W,y,-⟩
   obtain⟨j,m,X,g8,o,kF⟩:=fr (aj.refl _) W y;have r6:=y.keep.size;have g9:=X.aF;refine cu (Rn _ z A B) ⟨rfl,y.keep.mono λe _ f=>.inl f,PA.mk λr7 e3 r8 l0=>⟨ai.keep e3,aD (mg _ z A B) l0 rfl λr9 e4 s0 l3=>⟨e4.mono λe _ n=>.inr (by have n:e=e2.heap.size:=n;omega),rfl,z,A,B,j,m,l3,?_,λe f=>?_,?_,oM,λi=>by have:=g9 _ i;omega⟩⟩⟩
   ·exact bS.keep (eH.af X e3) ej e4 λe f n=>by have n:e=e2.heap.size:=n;have:=g9 e f;omega
   ·rcases o e f with h|h
    ·exact .inl h
    ·exact .inr oM
   ·exact(((ai.keep a6).then kF).af e3).new e4 λe f=>.inr (by have f:e=e2.heap.size:=f;omega)
  ·rintro _ s1 ⟨z,A,B,G1,rfl,-,t,W,y,-⟩
   obtain⟨j,m,X,g8,o,kF⟩:=fr c0 W y;have s2:=y.keep.size;have nf:¬j s.heap.size:=λi=>by
    rcases o _ i with h|h
    ·have:=T _ h;omega
    ·omega
   have l4:=kF.get k9 λi=>by have:=T _ i;omega
   refine cu (Rn _ z A B) ⟨rfl,y.keep.mono λe _ f=>.inl f,aD (mg _ z A B) l4 rfl λs3 e5 s4 l5=>⟨e5.mono λe _ n=>.inr (by have n:e=s.heap.size:=n;omega),rfl,z,A,B,j,m,l5,?_,λe f=>?_,?_,oM,nf⟩⟩
   ·exact bS.keep X ej e5 λe f n=>by have n:e=s.heap.size:=n;exact nf (n▸f)
   ·rcases o e f with h|h
    ·exact .inl h
    ·exact .inr oM
   ·exact(((ai.keep a6).then (ai.keep c0)).then kF).new e5 λe f=>.inr (by have f:e=s.heap.size:=f;omega)
 rintro xb _ _ L ⟨rfl,xa,xn,xc,j,m,gx,Z,o,c2,s5,l6⟩;have h0:=c2.get g5 λi=>by have:=T _ i;omega
 have h2:=(hr.af b8).keep c2 λe f=>(R e f).2;have a8:=Z.aF;have s6:=c2.size;have xw:=aC gx;have a9:aj F w L:=(ai.keep b8).then c2;have p8:ai b L:=g0.new a9 λe f=>.inr (g3 e f);obtain⟨k,hS⟩:∃k,k=(V.add n).2.state n.bd n.agg:=⟨_,rfl⟩
 have s7:(k.getD IB).cells.length<=8:=by rw [hS];exact Fq (show(V.add n).2.OK from(show cT L q.vp (λe=>j e/\m e=3) (V.add n).2 from Z.at' 3).1) n
 refine⟨λsb so w'=>so=0/\∃sa sn sc G2,w'.heap[sb]? =some (.cells #[QH (k.getD IB).version,.slice sa sn sc] 42 (0,0))/\Row fL 32 w' G2 sa sn (k.getD IB).cells/\(∀e,G2 e->L.heap.size<=e/\e<w'.heap.size)/\L.heap.size<=sb/\ai L w',?_,?_⟩
 ·intro C h3
  have c3:ai L C:=h3.keep;have s8:C.heap.size=L.heap.size:=by rw [h3.heap]
  have e6:=eH.af Z c3;have h4:=e6.bG;have d4:=c3.get h0 id;have nS:¬C.heap.size<=p:=by have:=a8 p Z.self.1;omega
  have b9:¬C.heap.size<=w.heap.size:=oM
  refine⟨λe=>C.heap.size<=e,p,0,rfl,nS,_,ae h4 rfl,b9,_,ae d4 rfl,b9,_,ae d4 rfl,PC.ok (ox (e6.at' 3)) ?_,PA.mk λs9 e7 t0 l7=>⟨ai.keep e7,PC.ok (ox ((eH.af e6 e7).at' 3)) ?_⟩⟩
  ·rintro _ c4 ⟨ca,cn,cc,G,rfl,O,M,e8⟩
   have t1:=e8.size;have c5:=O.aF;rw [<-hS]at O⊢;refine⟨_,_,_,_,_,rfl,ai.keep e8,PA.mk λl8 e9 t2 l9=>⟨ai.keep e9,PS.mk l9 sM λt3 m0 t4 m1=>PS.mk m1 sM λm2 m3 t5 m4=>?_⟩⟩;have P:aj (λe=>e=c4.heap.size) l8 m2:=m0.then m3;refine⟨P.mono λe _ n=>by have n:e=c4.heap.size:=n;omega,rfl,ca,cn,cc,G,m4,((O.af e9).keep P λe f n=>by have n:e=c4.heap.size:=n;have:=c5 e f;omega).row dC (by unfold aQ;omega),λe f=>⟨by have:=M e f;omega,by have:=c5 e f;omega⟩,oM,((c3.then e8).then e9).new P λe f=>.inr (by have f:e=c4.heap.size:=f;omega)⟩
  ·rintro _ m5 ⟨ca,cn,cc,G,rfl,O,M,c6⟩
   have t6:=c6.size;have c5:=O.aF;have m6:=c6.get l7 id;rw [<-hS]at O⊢;refine⟨_,_,_,_,_,rfl,ai.keep c6,PS.mk m6 sM λt7 m7 t8 m8=>PS.mk m8 sM λm9 n0 t9 n2=>?_⟩;have P:aj (λe=>e=C.heap.size) m5 m9:=m7.then n0;refine⟨P.mono λe _ n=>by have n:e=C.heap.size:=n;omega,rfl,ca,cn,cc,G,n2,(O.keep P λe f n=>by have n:e=C.heap.size:=n;have:=M e f;omega).row dC (by unfold aQ;omega),λe f=>⟨by have:=M e f;omega,by have:=c5 e f;omega⟩,oM,((c3.then e7).then c6).new P λe f=>.inr (by have f:e=C.heap.size:=f;omega)⟩
 rintro sb _ _ h5 ⟨rfl,sa,sn,sc,G2,gs,n3,n4,u0,Q⟩;have c7:=eH.af Z Q;have h6:=c7.bG;have u1:=Q.size;have h7:bh h5 (λe=>j e/\m e=1) d q.ta q.tn q.pa q.pn:=c7.at' 1;have p9:=h7.Bk.len;have q0:=c7.aF;have h8:=Q.get gx id;obtain⟨E,i⟩:∃E:ef->ef,E=λx=>x.add (V.add n).1 (tI ((V.add n).2.state n.bd n.agg) x.p):=⟨_,rfl⟩
 have g2:=aC gs;refine⟨p,0,rfl,_,_,_,ae h6 rfl,λd5 b0 w'=>∃g:Nat,b0=g/\g<=q.pn/\d5=q.pn-g/\eH w' j m p q d (V.add n).2 ((Rs.take g).map E++Rs.drop g) l pts/\aj j h5 w',⟨_,0,rfl,Qj _,rfl,by simpa using c7,aj.refl _⟩,?_⟩;rintro d5 _ _ H ⟨g,rfl,Y,rfl,u,I⟩;have u2:=I.size;have d6:=I.get gs λi=>by have:=a8 _ i;omega
 have h1:=n3.keep I λe f i=>by have:=a8 _ i;have:=(n4 e f).1;omega
 have h9:=I.get h8 l6;have q1:=u.bG;refine al.dec (λu3=>?_) (λu4=>?_)
 ·have i0:g<d.projs.length:=oM
  have hx:d.projs[g]? =some d.projs[g]:=Qq i0;have i1:d.projs[g]∈d.projs:=XY i0;generalize d.projs[g]=x at hx i1;obtain⟨e,i8,es,b1,j0,j1,b2,rfl,d7⟩:=(show bh H (λe=>j e/\m e=1) d q.ta q.tn q.pa q.pn from u.at' 1).Bk.el g x hx;have n8:=TG hd i1;refine⟨e,i8,b1,oM,oM,br (es:=oy x) (k:=5) (qH x) rfl (λb0 ht=>by rw [Qx];exact b2 b0 ht) (PA.mk λu5 i2 u6 n9=>aD (qH x) n9 rfl λi3 i4 u7 i5=>⟨λj3 w'=>j3=tI k x/\aN (tI k x)/\i3=w',?_,?_⟩)⟩
  ·have b3:ai H i3:=i2.new i4 λe f=>.inr (by have f:e=H.heap.size:=f;omega)
   have d8:=h1.af b3;have u9:=d8.len;have a4:tI k x=(((k.getD IB).cells[x.GO.toNat]?).map (·.n)).getD 0:=by
    cases k<;>rfl
   refine⟨_,ae i5 rfl,_,_,_,ae (b3.get d6 id) rfl,al.dec (λi6=>?_) (λi6=>⟨?_,?_,rfl⟩)⟩
   ·obtain⟨bi,f3⟩:∃bi:Nat,x.GO=bi:=⟨x.GO.toNat,oM⟩
    obtain⟨cb,co,v0,v1,v2,o0,v3,v4,o1,-,-,i7,-⟩:=ni d8 (i:=bi) oM;refine⟨_,_,_,ae (b3.get d6 id) rfl,_,ae i5 rfl,cb,co,o0,n8,i6,_,by rw [f3,Qx];exact o1,?_,?_,rfl⟩
    ·rw [a4,f3,Qx,QQ,Qq (show bi<(k.getD IB).cells.length by omega)];rfl
    ·rw [a4,f3,Qx,Qq (show bi<(k.getD IB).cells.length by omega)]
     rw [QQ,Qq (show bi<(k.getD IB).cells.length by omega)]at i7;exact i7
   ·rw [a4,Q7 oM];rfl
   ·rw [a4,Q7 oM];exact IF
  ·rintro _ _ _ ⟨rfl,j4,rfl⟩ o2 o3
   have b4:ai H o2:=(i2.new i4 λe f=>.inr (by have f:e=H.heap.size:=f;omega)).then o3.keep;have c8:=eH.af u b4;have o4:((Rs.take g).map E++Rs.drop g)[g]? =Rs[g]? :=by
    rw [X8 (by simp;omega)];simp [Qy,X2 (show g<=Rs.length by omega)]
   have c9:Rs[g]? =some Rs[g]:=Qq oM;have d9:Rs[g].p=x:=by
    have:=congrArg (·[g]?) g4;simp only [Q9,c9,hx,Option.map_some,Q1]at this;exact this
   generalize Rs[g]=b5 at c9 d9;obtain⟨rg,pj,rj,o5,o6,hR,j5,v5,i9,-,b6⟩:=cU.elem (c8.at' 4) (o4.trans c9);have o7:=cU.len (c8.at' 4);rw [QX,Q8,Qy,XZ]at o7;have j6:=c8.bG;refine⟨p,0,rfl,_,_,_,ae j6 rfl,rg,0,o5,oM,oM,_,by rw [Qx];exact o6,aw (mg _ xa xn xc) (b4.get h9 id) (PC.ok (Ro hR j5 (x:=(V.add n).1) he j4) ?_)⟩;rintro _ o8 ⟨rfl,o9,f5⟩;have fz:((Rs.take g).map E++Rs.drop g).set g (b5.add (V.add n).1 (tI k x))=(Rs.take (g+1)).map E++Rs.drop (g+1):=by
    have j7:((Rs.take g).map E).length=g:=by simp;omega
    rw [Qw,c9,Q3,XQ,List.set_append,if_neg oM,j7,Nat.sub_self,X4 (show g<Rs.length by omega)];have p0:E b5=b5.add (V.add n).1 (tI k x):=by rw [i,hS,<-d9]
    rw [<-p0];rfl
   have j2:=b6 o8 _ f5 o9;rw [fz]at j2;refine⟨rfl,_,oM,g+1,an oM,oM,rfl,?_,I.then ((ai.keep b4).then (f5.mono λe _ n=>?_))⟩
   ·refine bS.same c8 ej (k:=4) (f5.mono λe _ n=>by have n:e=rj:=n;rw [n];exact i9) j2 λg G Y hc=>by
     rcases g with _|_|_|_|_|_|g<;>first|exact hc|exact absurd rfl Y
   ·have n:e=rj:=n;rw [n];exact i9.1
 have j9:(Rs.take g).map E++Rs.drop g=qG V n Rs:=by
  rw [Qz oM,List.drop_eq_nil_of_le oM,List.append_nil,i];rfl
 rw [j9]at u;intro b7 f0;have a2:ai H b7:=f0.keep;have q2:b7.heap.size=H.heap.size:=by rw [f0.heap]
 have k0:=eH.af u a2;have k1:=k0.bG;have p1:¬j w.heap.size:=λi=>by
  rcases o _ i with h|h
  ·have:=T _ h;omega
  ·omega
 have k2:=a2.get (I.get (Q.get h0 id) p1) id;have nD:∀e,D e->¬j e:=λe f i=>by
  rcases o _ i with h|h
  ·exact(R e f).2 h
  ·have:=(R e f).1;omega
 have k3:=((h2.af Q).keep I nD).af a2;have v6:=aV.len (u.at' 2) dC;have v7:aj F w b7:=((a9.af Q).new I λe f=>(o e f).imp id oM).af a2;refine⟨λ_=>False,p,0,rfl,id,_,_,_,ae k1 rfl,aw (bg n J a c) k2 (PC.ok (Ef k3 λe f=>by have:=(R e f).1;omega) ?_)⟩;rintro _ q3 ⟨z,A,B,G,rfl,p2,M,c1⟩;refine⟨_,_,_,_,_,_,_,_,_,_,_,_,rfl,c1,PA.mk λq4 d0 q5 l1=>⟨d0,?_⟩⟩;have f1:=(a2.then c1).then d0;have l2:=eH.af u f1;have q6:=c1.size;have n1:=u.aF;have f2:∀e,aI q.ea=some e->j e/\m e=2:=λe f=>aV.self (u.at' 2) e f;refine fh (c:=fZ) (x:=n) (l2.at' 2) Eg l1 (D:=G) ⟨z,A,B,rfl,p2.af d0,he⟩ (λe f=>⟨by have:=(M e f).2;omega,λee=>by have:=n1 e (f2 e ee).1;have:=(M e f).1;omega⟩) (by unfold aQ;omega) (by unfold maxLen;omega) λa' N r1 F2 f4 f6 p3=>⟨_,_,_,rfl,p,0,rfl,?_⟩
 have r2:=f6.size;obtain⟨t,a3,j8,f7,n5,-⟩:=u.fr ej (k:=2) (G':=F2) (C2:=Bj p q.cells {q with ea:=a',en:=q.en+1,ec:=N} d (V.add n).2 (qG V n Rs) (l++[n]) pts) ((ai.keep f1).then (f6.mono λe _ f=>f2 e f))
  (λe f=>(p3 e f).imp id λv=>v.elim (λv=>by have:=(M e v).1;omega) λv=>oM) f4.aF f4 λg G Y hc=>by
   rcases g with _|_|_|_|_|_|g<;>first|exact hc|exact absurd rfl Y
 refine PS.mk (j8.at' 0).2 sM λd1 f8 u8 n6=>?_;have n7:eH d1 t a3 p {q with ea:=a',en:=q.en+1,ec:=N} d (V.add n).2 (qG V n Rs) (l++[n]) pts:=eH.store j8 f8 n6;have f9:∀e,t e->F e\/w.heap.size<=e:=λe f=>by
  rcases f7.new e f with h|h
  ·exact(o e h).imp id oM
  ·exact .inr oM
 have p4:aj j H d1:=f7.keep.then (f8.mono λe _ ee=>by have ee:e=p:=ee;rw [ee];exact Z.self.1);have p5:aj F w H:=(a9.af Q).new I λe f=>(o e f).imp id oM;have d2:aj F w d1:=p5.new p4 λe f=>(o e f).imp id oM;refine PC.ok (Fk n7 hd (hT.af (g0.new d2 λe f=>.inr (g3 e f))) (by simp;omega) (by unfold qG;rw [Q8];omega) k5 k6) ?_;rintro _ v8 ⟨rfl,q',F4,p6,p7,d3,g1⟩;refine⟨rfl,Ok.mk ⟨rfl,q',F4,p6,?_,d3,d2.new g1.keep f9,λe f=>?_⟩⟩
 ·simpa using p7
 ·rcases g1.new e f with h|h
  ·exact f9 e h
  ·have:=d2.size;exact .inr oM
end
def tB:fS:=⟨[],[],[],[],[(1,⟨[0,0,2,4,8,0,0,64,128,256,544,1040,4095,8191,12287],[32767,32767,32765,32763,32759,32767,32767,32703,32639,32511,32223,31727,32766,28671,22527],[0,0,0,0,1,0,0,0,0,1,0,0,0,0,2]⟩)]⟩
theorem sT (A:(dr d λB C=>(rI b (ad B (C+2)) λE=>PR_ (eq_ .quo 3 (.tmp 5) (.tmp 9) (.ii e) (.ii E)) b (kI_ λa D=>(∀c,bE D c->(dr d λF H=>(rS c (ad F (H+3)) λG a3 h=>(dr d λI J=>(rI c (ad I (J+2)) λg=>((0:Int)<=(IntKind.wrap .i64 (a*g))/\((IntKind.wrap .i64 (a*g)):Int)<=(h:Int)/\(dr d λK L=>PS c (ad K (L+3)) (.slice G (Int.toNat (IntKind.wrap .i64 (a*g))) h) λi=>(dr d λM N=>(rS i (ad M (N+6)) λO j k=>((0:Int)<=(IntKind.wrap .i64 (a+1))/\((IntKind.wrap .i64 (a+1)):Int)<=(j:Int)/\PR_ (Builtin.clear_ #[220] 0 #[.slice (cM O (Int.toNat (IntKind.wrap .i64 (a+1))) k 2) (j-Int.toNat (IntKind.wrap .i64 (a+1))) (k-Int.toNat (IntKind.wrap .i64 (a+1)))]) i (λa4 l=>(dr d λP Q=>(rS l (ad P (Q+6)) λR a5 m=>((0:Int)<=(IntKind.wrap .i64 (a+1))/\((IntKind.wrap .i64 (a+1)):Int)<=(m:Int)/\(dr d λS T=>PS l (ad S (T+6)) (.slice R (Int.toNat (IntKind.wrap .i64 (a+1))) m) λf=>(dr d λU V=>(rS f (ad U (V+6)) λW X a6=>(ix_ W a X λn o=>(∃p q r t,f.cell? (ad n (o+Int.toNat a*2))=some (.pointer p)/\f.cell? (ad n (o+Int.toNat a*2+1))=some (.slice q r t)/\PC_ 180 #[.pointer d,.agg #[.pointer p,.slice q r t]] f (λY Z=>∃u v w x,Y= .agg #[.pointer u,.slice v w x]/\(dr d λy z=>PS Z (ad y (z+4)) (.pointer u) λa1=>PS a1 (ad y (z+4+1)) (.slice v w x) λa2=>rt s ((.tuple #[])) a2)) (pE s)))))))))) (pV s)))))))))))) (pV s)))):Calls ZQ 143 #[.pointer d,.ii e] b s:=DC tB Tryz.func143 rfl A
theorem si (b:ep):∀a,(ng b a).Perm (b::a)
 |[]=>List.Perm.refl _
 |y::a=>by
  unfold ng;split
  ·exact List.Perm.refl _
  ·exact((si b a).cons y).trans (List.Perm.swap b y a)
theorem yP (a:List ep):(a.foldr ng []).Perm a:=by
 induction a with
 |nil=>exact List.Perm.refl _
 |cons b a c=>exact(si b _).trans (c.cons b)
theorem zI {d:ep}:∀{b:List ep},vE b->(∀y∈b,y.group≠d.group)->vE (ng d b)
 |[],_,_=>by simp [ng,vE]
 |y::b,f,g=>by
  unfold ng;have e:=List.pairwise_cons.1 f;have i:=g y (QV ..);split
  ·rename_i h
   refine List.pairwise_cons.2 ⟨λc a=>?_,f⟩;rcases Q2.1 a with rfl|a
   ·exact h
   ·have:=e.1 c a;omega
  ·rename_i j
   refine List.pairwise_cons.2 ⟨λc a=>?_,zI e.2 λc a=>g c (QJ _ a)⟩;rcases Q2.1 ((si d b).mem_iff.1 a)with rfl|a
   ·omega
   ·exact e.1 c a
theorem Gr:∀{a:List ep},(a.map (·.group)).Nodup->vE (a.foldr ng [])
 |[],_=>List.Pairwise.nil
 |x::a,b=>by
  rw [QY,List.nodup_cons]at b;refine zI (Gr b.2) λc d e=>b.1 ?_;rw [<-e];exact Xk.2 ⟨c,(yP a).mem_iff.1 d,rfl⟩
theorem zJ:∀{c b:List ep},(c.Pairwise λx d=>¬d.group<x.group)->vE b->c.Perm b->c=b
 |[],b,_,_,a=>by have:=a.length_eq;cases b;rfl;simp at this
 |x::c,[],_,_,a=>by have:=a.length_eq;simp at this
 |x::c,d::b,i,j,a=>by
  have f:=List.pairwise_cons.1 i;have g:=List.pairwise_cons.1 j;have k:x=d:=by
   rcases Q2.1 (a.mem_iff.1 (QV ..))with h|h
   ·exact h
   rcases Q2.1 (a.mem_iff.2 (QV ..))with e|e
   ·exact e.symm
   have:=g.1 x h;exact absurd this (f.1 d e)
  subst k;rw [zJ f.2 g.2 a.cons_inv]
section
variable {w w':World} {p r:Nat} {R:ef}
theorem lO.Wm (c:lO w p r R):((R.rows.map (·.2)).map (·.group)).Nodup:=by
 have b:=c.map.tidy;unfold Tidy at b;rw [List.map_map]at b⊢;have:R.rows.map ((·.group)∘(·.2))=R.rows.map ((·.1)∘λa=>(a.1,ub a.2)):=List.map_congr_left λa d=>(c.ok a d).2;rw [this];exact b
theorem lO.Ac (a:lO w p r R):vE R.list:=Gr a.Wm
theorem OZ (h:lO w p r R) (b:R.rows.length<=20000000):Calls ZQ 393 #[.pointer (some ⟨p,0,none⟩)] w (Ok (qD IN 268 w R.list)):=by
 refine yo ⟨p,0,rfl,_,ae h.at' rfl,mapRange SN h.map λw6 P Q s6=>?_⟩;refine⟨λA k l m w'=>∃(left:List (Int×ep)) (c:List ep) (j:Nat->Prop),A=left.length/\dj w' w.heap.size r (Value.int .i64) (R.rows.map λd=>(d.1,ub d.2)) (left.map λd=>(d.1,ub d.2))/\(∀d∈left,ep.Ok d.2)/\
  (c++left.map (·.2)).Perm (R.rows.map (·.2))/\aV IN 268 j w' k l m c/\(∀a,j a->w.heap.size<a)/\ai w w',⟨_,R.rows,[],λ_=>False,rfl,P,λd n=>(h.ok d n).1,List.Perm.refl _,aV.nil _,λa b=>b.elim,Q⟩,?_⟩
 rintro A k l m _ B ⟨left,c,j,rfl,C,E,o,f,g,q⟩;have s:c.length+left.length=R.rows.length:=by have:=o.length_eq;simpa using this
 have b4:=f.len dC;refine nX C (λS=>.inl ⟨rfl,?_⟩) (λa2 a3 l1 l2 t T U V W b5=>.inr ⟨_,_,rfl,ry V ?_⟩)
 ·have X:left=[]:=by simpa using S
  subst X;refine PC.ok (Qe f (by simp at s;omega)) ?_;rintro _ b6 ⟨rfl,Y,u,v,x,Z⟩;have he:Y=R.list:=zJ v h.Ac ((u.trans (by simpa using o)).trans (yP _).symm);subst he;exact⟨rfl,Ok.mk ⟨k,l,m,j,rfl,x,q.new Z λa b=>.inr (by have:=g a (f.self a b);omega),λa b=>by have:=g a b;omega⟩⟩
 ·obtain⟨F,a5,rfl,rfl,n⟩:=List.map_eq_append_iff.1 T
  obtain⟨d,H,rfl,I,rfl⟩:=List.map_eq_cons_iff.1 n;simp only [Prod.mk.injEq]at I;obtain⟨rfl,rfl⟩:=I;have a0:=E d sM;have b7:=q.size;have b3:w.heap.size<B.heap.size:=C.lt;refine⟨_,_,_,_,rfl,PA.mk λb8 J b9 b0=>aD (PM d.2) b0 rfl λc0 L c1 y=>⟨_,_,_,ae y rfl,ae y rfl,ae y rfl,PA.mk λM N c2 b1=>?_⟩⟩;have z:aj (λa=>a=w.heap.size) B M:=((W.af J).new L λa b=>.inr (by have b:a=t.heap.size:=b;omega)).af N;refine fh (c:=IN) (x:=d.2) (f.keep z λa b e=>by have e:a=w.heap.size:=e;have:=g a b;omega) XR b1 (D:=λ_=>False) ⟨rfl,a0⟩ (λa b=>b.elim) (by simp at s;unfold aQ;omega) (by simp at s;unfold maxLen;omega) λa' c' c3 F2 a4 O b2=>⟨_,_,_,rfl,_,?_,F++H,c++[d.2],F2,rfl,?_,λa1 K=>E a1 (by simp at K⊢;rcases K with K|K;exact .inl K;exact .inr (.inr K)),?_,a4,λa b=>?_,?_⟩
  ·simp
  ·have i:dj M w.heap.size r (Value.int .i64) (R.rows.map λd=>(d.1,ub d.2)) ((F++H).map λd=>(d.1,ub d.2)):=by
    rw [Q3];exact((U.af J).keep L (λe=>by have e:w.heap.size=t.heap.size:=e;omega) (λe=>by have e:r=t.heap.size:=e;have:=h.map.lt;omega)).af N
   refine i.keep O (λe=>by have:=g _ (f.self _ e);omega) (λe=>by have:=g _ (f.self _ e);have:=h.map.lt;omega)
  ·refine List.Perm.trans ?_ o
   simp only [Q3,QY,XQ];refine List.Perm.append_left c ?_;rw [List.singleton_append];exact List.perm_middle.symm
  ·rcases b2 a b with i|i|i
   ·exact g a i
   ·exact i.elim
   ·have:=z.size;omega
  ·exact(q.new z λa b=>.inr (by have b:a=w.heap.size:=b;omega)).new O λa b=>.inr (by have:=g a (f.self a b);omega)
end
end Go.Proofs.YtfchlbaidamodaaGreatDoor
namespace Go.ax
open Go
variable{a c i:Nat}{f:Nat->Prop}{Q W:Operand}{d:Option Addr}{h:Program}{j:Type}{B g q:TypeId}{o t:Value->World->Prop}{b:World}
theorem Bm {bytes:Nat} {e:kM j} (w:jP h g q e.k bytes) (E:OV h q=true) {x:List j} (m:aV e q f b d a c x) (S:i<=a) 
  (n:∀l,aV e q f l d i c (x.take i)->aj (λk=>aI d=some k) b l->l.heap.size=b.heap.size->o (.tuple #[]) l):
  aH h (Builtin.clear_ #[g] B #[.slice (cM d i c e.k) (a-i) (c-i)]) b o t:=by
 rcases Nat.lt_or_ge i a with T|U
 rotate_left
 ·obtain rfl:i=a:=oM
  rw [Nat.sub_self];exact aH.mk (w':=b) (v:=.tuple #[]) (by cases cM d i c e.k<;>simp [Builtin.clear_,run_underlying w.under]) (n b (m.take (Q4 _)) (aj.refl _) rfl)
 obtain⟨cs,D,r,F,y⟩:=m.body;have H:=r.length;rcases r.cases with⟨_,V,_,_⟩|⟨z,I,rfl,J,K,A,L⟩
 ·omega
 have s:c<=maxLen:=by
  obtain⟨_,W,_,C,_,_,_,s,_⟩:=r.row.2.resolve_left (by rintro⟨m,_⟩;cases m);simp only [XX]at C;rw [C.2.2];exact s
 have M:i*e.k<=a*e.k:=Q0 _ oM;have X:a*e.k<=c*e.k:=Q0 _ K;rw [f_ (show c≠i by omega),Xz];refine Sl w E J (by rw [A,Nat.sub_mul];omega) λl p N O P Q R=>?_;have u:aj (λk=>aI (some (⟨z,0,none⟩:Addr))=some k) b l:=Q.mono λk _ q=>by rw [q];rfl
 refine n l ⟨⟨cs.take (i*e.k),D,⟨⟨by rw [Qy,H];omega,.inr ⟨z,c,p,rfl,Qj _,N,oM,s,by rw [O,A],?_⟩⟩⟩,(F.keep u λk v=>(y k v).2).take i,y⟩,m.self,λk v=>Qk (m.aF k v) u.size⟩ u R;rw [P,<-L,List.take_take,X2 M]
theorem TI (k:0<c) (l:a<9223372036854775808):(do eqGuard .quo g Q W (QH (a:Int)) (QH (c:Int));binOp .quo g (QH (a:Int)) (QH (c:Int)):Sem Value).run h b= .ok (QH ((a/c:Nat):Int)) b:=by
 have f:c≠0:=oM
 have d:(a:Int).tdiv (c:Int)=((a/c:Nat):Int):=by rw [Int.tdiv_eq_ediv_of_nonneg oM];rfl
 have i:=Nat.div_le_self a c;generalize a/c=e at d i;have j:IntKind.wrap .i64 (e:Int)=(e:Int):=wrap_i64 (by unfold aN;omega);simp [eqGuard,binOp,Op.intDiv,f,d,j]
end Go.ax

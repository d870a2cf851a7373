import Derived.Test.YtfchlbaidamodaaGreatDoorKc24
set_option linter.all false
set_option maxRecDepth 100000
namespace Go.Proofs.YtfchlbaidamodaaGreatDoor
open Go.ax
variable{a c:Nat}{d p:Option Addr}{M:aR}
section
variable {w w':World} {D E F:Nat->Prop}
def qK{b:List jO}(f:Row wH 40 w D d a b)(g:∀e,D e->e<w.heap.size):Calls ZQ 131 #[.slice d a c] w (Ok (qD wH 128 w b)):=
 iO (By Mh dC f g λi w' h=>Ok.mk h)
def qL{b:List (Bx bD)}(f:Row Li.k_ 48 w D d a b)(g:∀e,D e->e<w.heap.size):Calls ZQ 132 #[.slice d a c] w (Ok (qD Li.k_ 123 w b)):=
 gW (By RX dC f g λi w' h=>Ok.mk h)
def EJ{tn tc pn pc:Nat}(i:bh w D M d tn p pn)(S:∀a,D a->a<w.heap.size):
  Calls ZQ 145 #[.agg #[.slice d tn tc,.slice p pn pc]] w (Ok λa5 w'=>∃q AW T f g h G,a5= .agg #[.slice q AW T,.slice f g h]/\bh w' G M q AW f g/\(∀a,G a->w.heap.size<=a/\a<w'.heap.size)/\ai w w'):=by
 have d3:=i.bd.len;have E:=i.bd.d_;have d4:=i.Bk.len;have d5:=i.Bk.d_;refine Au (PA.mk λw1 k1 s1 g1=>PA.mk λw2 F s2 g2=>⟨_,_,_,ae (F.get g1 id) rfl,PC.ok (qK (i.Bk.af (k1.then F)) λa B=>by have:=S a B;omega) ?_⟩);rintro _ r ⟨f,g,h,G1,rfl,U,H,b4⟩;have z8:=H.size;refine⟨_,_,_,rfl,PA.mk λg4 d6 g5 d7=>PS.mk d7 sM λg6 d8 g7 d9=>PS.mk d9 sM λs e0 g8 e1=>?_⟩;have t:ai r s:=(d6.new d8 λa B=>.inr oM).new e0 λa B=>.inr oM;have b5:ai w s:=((k1.then F).then H).then t;have ga:=t.get (H.get (F.get g1 id) id) id;have gz:=t.get (H.get g2 id) id;have g9:=t.size;have b6:s.heap[r.heap.size]? =some (.cells #[.slice none 0 0,.slice f g h] 25 (0,0)):=e1;refine⟨_,_,_,ae ga rfl,λu V w'=>∃b:Nat,V=b/\b<=tn/\u=tn-b/\aj (·=r.heap.size) s w'/\∃I J W v,w'.heap[r.heap.size]? =some (.cells #[.slice I J W,.slice f g h] 25 (0,0))/\aV lv 130 v w' I J W (M.types.take b)/\∀a,v a->s.heap.size<=a,
  ⟨_,0,rfl,Qj _,rfl,aj.refl _,none,0,0,λ_=>False,b6,aV.nil _,λ_ i=>i.elim⟩,?_⟩
 rintro u _ _ Y ⟨b,rfl,hj,rfl,x,I,J,W,v,Z,j,m⟩;have K:ai w Y:=b5.new x λa B=>.inr oM;have zk:=x.size;refine al.dec (λh0=>?_) (λh3=>?_)
 ·have b7:b<M.types.length:=oM
  obtain⟨a,a6,es,ha,B,h4,a8,fa,fn,fc,rfl,L⟩:=(i.bd.af K).el b M.types[b] (by simp[b7]);have b8:M.types[b]? =some M.types[b]:=Qq b7;generalize M.types[b]=a1 at L b8;have c0:=a8 0 dC;have e2:lv.k=1:=rfl;rw[e2,Nat.mul_one]at c0;refine⟨a,a6,ha,oM,oM,fa,fn,fc,by rw[Qx];exact c0,PA.mk λh5 e3 h6 e4=>PS.mk e4 sM λb9 e5 h7 e6=>⟨_,_,_,ae e6 rfl,?_⟩⟩;have N:ai Y b9:=e3.new e5 λa B=>.inr oM;have c1:=K.then N;obtain⟨n,l1,l2,l3⟩:=fv.boxes (N:=Li) L;have a7:=L.d_;refine PC.ok (qL (l2.af N) λa B=>by have:=S a B;have:=c1.size;omega) ?_;rintro _ c2 ⟨a9,y,c9,F9,rfl,O,c3,e7⟩;have h8:=N.size;have h9:=c3.size;have P:∀a,aI a9=some a->b9.heap.size<=a:=λa B=>e7 a (O.self a B);have c4:∀a,aI a9=some a->a<c2.heap.size:=λa B=>O.aF a (O.self a B);refine⟨_,_,_,rfl,λu V w'=>∃b:Nat,V=b/\b<=y/\u=y-b/\eO Li 123 c2 a9 y c9 n b w',⟨_,0,rfl,Qj _,rfl,eO.start O.alone⟩,?_⟩;rintro u _ _ e8 ⟨o,rfl,hi,rfl,k⟩;have i0:=k.len;have i1:n.length=a1.length:=by rw[<-l1];simp
  have e9:=L.len;have z:ai Y e8:=(N.then c3).new k.keep λa B=>.inr (by have:=P a B;omega);have i2:=k.keep.size;refine al.dec (λf6=>?_) (λg0=>?_)
  ·obtain⟨Q,rfl⟩:=k.some oM
   have c5:=c4 Q rfl;have a0:n[o]? =some n[o]:=Qq oM;have A:=l3 n[o] (XY oM);generalize n[o]=R at a0 A;refine⟨Q,0,rfl,oM,oM,_,_,_,k.cell rfl a0 (by show y*4<=aQ;unfold aQ at a7⊢;omega) 3 _ rfl,PC.ok (uh (A.1.af z) λa B=>by have:=S a B;have:=(K.then z).size;omega) ?_⟩;rintro _ i3 ⟨i4,i5,i6,G,rfl,a2,f2,hG⟩;refine⟨_,_,_,rfl,Q,0,rfl,oM,oM,?_⟩;refine(k.af f2).step (g:=Q) rfl a0 (a2.row (bytes:=32) dC ?_) A.2 (λa3 hx=>⟨by have:=hG a3 hx;omega,a2.aF a3 hx⟩) c5 λi7 c6 i8 i9=>⟨_,?_,o+1,an (by unfold aQ at a7;omega),oM,rfl,c6⟩
   ·have e:=A.1.d_
    have X:=A.1.len;show R.x.bH.length*32<=aQ;have j0:R.n=R.x.bH.length:=X;have j1:R.n*32<=aQ:=e;omega
   ·omega
  ·obtain rfl:o=y:=oM
   obtain⟨Fd,hd,b0⟩:=k.done;rw[l1,IK]at hd;have a4:=z.get Z id;refine⟨_,_,_,ae a4 rfl,IL (c:=lv) (x:=a1) (j.af z) NO (D:=Fd) ⟨_,_,_,rfl,hd.row dC (by rw[<-e9];exact a7)⟩ (λa B=>⟨hd.aF a B,λc=>?_⟩) ?_ ?_ λa' C j2 F' d0 b1 c7 g3=>⟨_,_,_,rfl,?_⟩⟩
   ·have e:=j.aF a (j.self a c)
    rcases b0 a B with X|X
    ·have:=P a X;omega
    ·omega
   ·have:=List.length_take_le b M.types;unfold aQ at E⊢;omega
   ·have:=List.length_take_le b M.types;unfold aQ at E;unfold maxLen;omega
   ·have l:¬aI I=some r.heap.size:=λc=>by have:=m _ (j.self _ c);omega
    have f3:=b1.get a4 l;have j3:=b1.size;refine PS.mk f3 sM λj4 c8 j5 f4=>⟨_,?_,b+1,an (by unfold aQ at E;omega),oM,rfl,?_,a',J+1,C,F',f4,?_,?_⟩
    ·omega
    ·exact((x.af z).new b1 λa B=>.inr (m _ (j.self a B))).then c8
    ·rw[Qw,b8]
     refine d0.keep c8 λa B c=>?_;rcases c7 a B with e|e|e
     ·have:=m a e;omega
     ·rcases b0 a e with X|X
      ·have:=P a X;omega
      ·omega
     ·omega
    ·intro a B
     rcases c7 a B with e|e|e
     ·exact m a e
     ·rcases b0 a e with X|X
      ·have:=P a X;omega
      ·omega
     ·omega
 ·obtain rfl:b=tn:=oM
  rw[Qz oM]at j;have d1:=x.get gz oM;have f0:=(U.af t).keep x λa B c=>by have:=U.aF a B;omega
  refine⟨_,_,_,_,_,_,ae Z rfl,ae Z rfl,PS.mk d1 sM λj6 b2 j7 f5=>PS.mk f5 sM λj8 b3 j9 d2=>⟨_,_,_,_,_,_,ae d2 rfl,ae d2 rfl,Ok.mk ⟨_,_,_,_,_,_,λa=>v a\/G1 a,rfl,⟨?_,?_⟩,?_,?_⟩⟩⟩
  ·have l:∀a,v a->a≠w1.heap.size:=λa B c=>by have:=m a B;omega
   exact((((j.row (bytes:=24) dC (by rw[<-d3];exact E)).keep b2 λa B c=>l a B c).keep b3 λa B c=>l a B c)).mono λa B=>.inl B
  ·have l:∀a,G1 a->a≠w1.heap.size:=λa B c=>by have:=b4 a B;omega
   exact((((f0.row (bytes:=40) dC (by rw[<-d4];exact d5)).keep b2 λa B c=>l a B c).keep b3 λa B c=>l a B c)).mono λa B=>.inr B
  ·rintro a (B|B)
   ·have:=m a B;have:=j.aF a B;omega
   ·have:=b4 a B;have:=U.aF a B;omega
  ·exact(K.new b2 λa B=>.inr oM).new b3 λa B=>.inr oM
end
end Go.Proofs.YtfchlbaidamodaaGreatDoor
namespace Go.ax
open Go
def pt{a b c:Type}(d:a->b->c->Prop):List (a×b)->List (a×c)->Prop
 |[],[]=>True
 |(e,f)::g,(h,i)::j=>e=h/\d e f i/\pt d g j
 |_,_=>False
section
variable {κ β γ:Type} {R R':κ->β->γ->Prop}
def pt.mono:∀{a:List (κ×β)} {b:List (κ×γ)},pt R a b->(∀f c d,R f c d->R' f c d)->pt R' a b
 |[],[],_,_=>trivial
 |(h,c)::a,(i,d)::b,e,g=>⟨e.1,g _ _ _ e.2.1,pt.mono e.2.2 g⟩
def pt.ay[BEq κ][LawfulBEq κ](a:κ):∀{b:List (κ×β)} {c:List (κ×γ)},pt R b c->
  (ax.ay b a=none/\ax.ay c a=none)\/∃d e,ax.ay b a=some d/\ax.ay c a=some e/\R a d e
 |[],[],_=>.inl ⟨rfl,rfl⟩
 |(g,d)::b,(k,e)::c,h=>by
  obtain⟨rfl,i,j⟩:=h;unfold ax.ay
  by_cases f:a==g
  ·obtain rfl:a=g:=by simpa using f
   simp only[f,if_true];exact .inr ⟨d,e,rfl,rfl,i⟩
  ·simp only[f];exact pt.ay a j
def pt.off{h:κ}:∀{a:List (κ×β)} {b:List (κ×γ)},pt R a b->(∀c d e,c≠h->R c d e->R' c d e)->h∉a.map (·.1)->pt R' a b
 |[],[],_,_,_=>trivial
 |(k,d)::a,(l,e)::b,f,i,g=>by
  simp only[QY,Q2,not_or]at g;exact⟨f.1,i _ _ _ (λj=>g.1 j.symm) f.2.1,pt.off f.2.2 i g.2⟩
def pt.aJ[BEq κ][LawfulBEq κ]{a:κ}{b:β}{c:γ}(g:R' a b c):∀{d:List (κ×β)} {h:List (κ×γ)},pt R d h->(∀i b c,i≠a->R i b c->R' i b c)->Tidy d->pt R' (ax.aJ d a b) (ax.aJ h a c)
 |[],[],_,_,_=>⟨rfl,g,trivial⟩
 |(k,q)::d,(r,s)::h,m,j,e=>by
  obtain⟨rfl,n,l⟩:=m;unfold Tidy at e;simp only[QY,List.nodup_cons]at e;unfold ax.aJ
  by_cases f:a==k
  ·simp only[f,if_true]
   obtain rfl:a=k:=by simpa using f
   refine⟨rfl,g,?_⟩;have o:a∉d.map (·.1):=e.1;exact pt.off l j o
  ·simp only[f]
   exact⟨rfl,j _ _ _ (λp=>f (by simp[p])) n,pt.aJ g l j e.2⟩
end
def xo{d:Type}(f:World)(g:Nat)(b:d->Value)(h:d)(i:Int):Prop:=
 ∃(e:Array MapEntry) (a j:Nat) (c:MapEntry),f.heap[g]? =some (.map e a)/\e[j]? =some c/\c.key=b h/\(c.born:Int)=i
variable{e:Int}{a:Nat}{j:Type}{w:Value}{o u:Value->World->Prop}{b k:World}{y:World->Prop}
def xo.keep{S:Nat->Prop}{d:j->Value}{f:j}(g:xo b a d f e)(h:aj S b k)(i:¬S a):xo k a d f e:=by
 obtain⟨l,c,m,n,o,p⟩:=g;exact⟨l,c,m,n,h.get o i,p⟩
section
variable {κ:Type} [BEq κ] [LawfulBEq κ] {P:Program} {t kt vt:TypeId} {z:Value} {enc:κ->Value}
def Gm{κ e:Type}[BEq κ][LawfulBEq κ]{b:κ}{f:e}:∀{c:List (κ×e)},ay c b=some f->aJ c b f=c
 |(g,h)::c,a=>by
  unfold ay at a;unfold aJ
  by_cases d:b==g
  ·rw[if_pos d]at a⊢
   obtain rfl:b=g:=by simpa using d
   cases a;rfl
  ·rw[if_neg d]at a⊢
   rw[Gm a]
def Ia(w:nu P t kt vt z)(n:jh P kt enc){e:List (κ×Value)}(x:cx b a enc e){k:κ}(p:∀w' C,cx w' a enc (aJ e k ((ay e k).getD z))->xo w' a enc k C->aj (·=a) b w'->w'.heap.size=b.heap.size->o (.tuple #[(ay e k).getD z,QH C]) w'):aH P (Instr.mapEntry t (.map (some a)) (enc k)) b o u:=by
 obtain⟨d,c,j,l,y,E⟩:=x.at';have q:=kj n k d.toList e l b;have I:d.toList.length=e.length:=by have:=congrArg List.length l;simpa using this
 have r:=aC j;have h:=yL e k 0
 cases s:nd e k 0 with
 |none=>
  rw[s]at q h;have v:ay e k=none:=h.symm;rw[v]at p;have J:=w.Oz b;refine aH.mk (w':={b with heap:=b.heap.setIfInBounds a (.map (d.push {key:=enc k,val:=z,born:=c}) (c+1))}) ?_ (p _ c ⟨⟨_,_,dm b a _ r,?_,?_,?_⟩,x.tidy.aJ k z⟩ ⟨_,_,d.size,{key:=enc k,val:=z,born:=c},dm b a _ r,sM,rfl,rfl⟩ (aj.setObj b a _) sM)
  ·simp[Instr.mapEntry,run_underlying w.under,dW j,ei n,q,eZ j,J,goInt]
  ·rw[Option.getD_none,(sP s).1 z];simp[l]
  ·intro g i
   simp only[Array.toList_push,Q6,List.mem_singleton]at i;rcases i with i|rfl
   ·have:=y g i;omega
   ·show c<c+1;omega
  ·simp only[Array.toList_push,Q3,QY,List.map_nil]
   rw[List.nodup_append];refine⟨E,sM,?_⟩;intro K h L A T;simp only[List.mem_singleton]at A;obtain⟨g,i,rfl⟩:=Xk.1 h;have:=y g i;omega
 |some M=>
  obtain⟨f,F⟩:=M;rw[s]at q h;have v:ay e k=some F:=h.symm;obtain⟨_,N,H,O⟩:=oh s;rw[Nat.sub_zero]at N H O;have B:f<d.size:=by
                 have:d.size=e.length:=by simpa using I
                 omega
  have m:d[f].key=enc k:=by
   have:=congrArg (·[f]?) l;simp only[Q9,H,Option.map_some]at this;simp[B]at this;exact this.1
  have Q:(d.modify f λg=>{g with key:=enc k})=d:=by
   apply Array.ext
   ·simp
   ·intro U V W
    rw[Array.getElem_modify];split
    ·rename_i g;subst g
     cases R:d[f]with
     |mk K L o=>rw[R]at m;simp at m;simp[m]
    ·rfl
  rw[v]at p;refine aH.mk (w':={b with heap:=b.heap.setIfInBounds a (.map d c)}) ?_ (p _ (d[f].born) ⟨⟨_,_,dm b a _ r,?_,y,E⟩,x.tidy.aJ k F⟩ ⟨_,_,f,d[f],dm b a _ r,by simp[B],m,rfl⟩ (aj.setObj b a _) sM)
  ·have S:(Instr.keyThatStays (enc k) (enc k)).run P b= .ok (enc k) b:=by simp[Instr.keyThatStays,n.same]
   simp[Instr.mapEntry,run_underlying w.under,dW j,ei n,q,B,m,S,eZ j,Q,goInt]
  ·rw[Option.getD_some,Gm v];exact l
def Dq(J:jh P kt enc){d:List (κ×Value)}(s:cx b a enc d){i:κ}(K:xo b a enc i e)(L:∀n,cx n a enc (aJ d i w)->aj (·=a) b n->n.heap.size=b.heap.size->y n):jU P (Instr.entryStore t (.map (some a)) (QH e) w) b y o:=by
 obtain⟨g,l,p,u,M,z⟩:=s.at';obtain⟨N,q,c,j,m,O,A,Q⟩:=K;rw[p]at m;cases m
 subst Q;have R:g.toList.length=d.length:=by have:=congrArg List.length u;simpa using this
 have S:=aC p;obtain⟨r,rfl⟩:=Q5.1 O;have v:c<d.length:=by
                have:g.size=d.length:=by simpa using R
                omega
 have B:d[c]? =some (i,g[c].val):=by
  have:=congrArg (·[c]?) u;simp only[Q9,Qq v,Option.map_some]at this;simp[r]at this;have T:d[c].1=i:=J.inj (by rw[<-this.1,A]);rw[Qq v]
  congr 1
  exact Prod.ext T this.2.symm
 have U:aJ d i w=d.set c (i,w):=by
  cases C:nd d i 0 with
  |none=>
   have E:=yL d i 0;rw[C]at E;have:=nU.1 E.symm;exact absurd (Xk.2 ⟨_,QZ B,rfl⟩) this
  |some V=>
   obtain⟨h,a2⟩:=V;obtain⟨_,f,F,H⟩:=oh C;rw[Nat.sub_zero]at f F H;have k:h=c:=by
    have W:(d.map (·.1))[h]? =some i:=by rw[Q9,F];rfl
    have X:(d.map (·.1))[c]? =some i:=by rw[Q9,B];rfl
    obtain⟨Y,Z⟩:=Qv.1 W;obtain⟨q3,q4⟩:=Qv.1 X;exact(List.getElem_inj (xs:=d.map (λe=>e.1)) (h₀:=Y) (h₁:=q3) (show(d.map (λe=>e.1)).Nodup from s.tidy)).1 (Z.trans q4.symm)
   rw[(H w).1,k]
 have a0:g.findIdx? (λj=>(j.born:Int)==(g[c].born:Int))=some c:=by
  rw[Array.findIdx?_eq_some_iff_getElem];refine⟨r,sM,λh f=>?_⟩;have a1:h<g.size:=oM
  have a3:g[h].born≠g[c].born:=λj=>by
   have:=(List.getElem_inj (xs:=g.toList.map (·.born)) (h₀:=by simpa using a1) (h₁:=by simpa using r) z).1 (by simpa using j);omega
  simp;omega
 refine jU.mk (w':={b with heap:=b.heap.setIfInBounds a (.map (g.modify c λj=>{j with val:=w}) l)}) ?_ (L _ ⟨⟨_,_,dm b a _ S,?_,?_,?_⟩,s.tidy.aJ i w⟩ (aj.setObj b a _) sM)
 ·simp[Instr.entryStore,dW p,asInt,asIntOf,a0,eZ p]
 ·rw[U]
  apply X3;intro h;have f:=congrArg (·[h]?) u;simp only[Q9]at f;simp only[Array.toList_modify,Q9,Xj,List.getElem?_modify]
  by_cases k:c=h
  ·subst k
   simp[r,v,A]
  ·simp only[k,if_false,Option.map_map]at f⊢
   simpa using f
 ·intro j I
  rw[Array.toList_modify]at I;obtain⟨h,f⟩:=List.getElem?_of_mem I;rw[List.getElem?_modify]at f
  cases x:g.toList[h]? with
  |none=>rw[x]at f;simp at f
  |some e'=>
   rw[x]at f;have hm:=QZ x;have:=M e' hm
   by_cases k:c=h
   ·simp[k]at f;subst f;exact this
   ·simp[k]at f;subst f;exact this
 ·have:(g.modify c λj=>{j with val:=w}).toList.map (·.born)=g.toList.map (·.born):=by
   apply X3;intro h;simp only[Array.toList_modify,Q9,List.getElem?_modify,Option.map_map]
   by_cases k:c=h<;>simp[k]<;>rfl
  rw[this];exact z
end
end Go.ax
namespace Go.Proofs.YtfchlbaidamodaaGreatDoor
open Go.ax
def xB{g:Type}{e:g->Int}:∀{f:List g},cO e f=0->∀c∈f,e c=0
 |[],_,c,b=>by cases b
 |y::f,a,c,b=>by
  unfold cO at a
  by_cases d:e y=0
  ·rw[d]at a
   simp only[bne_self_eq_false,Bool.false_eq_true,if_false]at a;rcases Q2.1 b with rfl|b
   ·exact d
   ·exact xB a c b
  ·rw[if_pos (by simpa using d)]at a
   exact absurd a d
variable{I:Bool}{t:Ending->World->Prop}{e m:Int}{d6:Int×Int}{B:List ah}{c7:List bD}{b2:List du}{a c i n:Nat}{d p:Option Addr}{g:TypeId}{b:World}{M:aR}{l:ah}{b9:bD}{d8:bk}{d9:jO}
def lu(a:dd M=0):sj M=false/\(∀b∈M.types,∀e∈b,fK b e=0)/\∀f∈M.projs,mK M f=0:=by
 unfold dd at a;split at a
 ·simp at a
 ·rename_i g
  simp only at a;split at a
  ·rename_i c
   exact absurd a (by simpa using c)
  ·rename_i c
   refine⟨by simpa using g,λb h=>?_,xB a⟩;have d:cO (λb=>cO (fK b) b) M.types=0:=by simpa using c
   exact xB (xB d b h)
def xD(a:sj M=false):1<=M.types.length/\M.types.length<=8/\M.projs.length<=8/\∀b∈M.types,1<=b.length/\b.length<=8:=by
 unfold sj at a;split at a
 ·cases a
 ·rename_i c
  simp only[Bool.or_eq_true,Bool.not_eq_true',decide_eq_true_eq,not_or,Bool.not_eq_false,Nat.not_lt]at c;obtain⟨c,d⟩:=c;rw[bO]at c;refine⟨oM,oM,d,λb e=>?_⟩;rw[List.any_eq_false]at a;have:=a b e;simp only[Bool.or_eq_true,Bool.not_eq_true',not_or,Bool.not_eq_false]at this;have:=bO.1 this.1;omega
def Vc(a:fK c7 b9=0):∀b∈b9.bH,b.lU<(c7.length:Int):=by
 intro b d;unfold fK at a;split at a
 ·simp at a
 split at a
 ·simp at a
 split at a
 ·simp at a
 split at a
 ·simp at a
 ·rename_i c
  rw[Bool.not_eq_true,List.any_eq_false]at c;have:=c b d
  by_cases e:b.lU= -1
  ·omega
  ·have:Tz c7 b.lU 1=true:=by
    simpa[e]using this
   unfold Tz at this;simp only[QK]at this;have:=bO.1 this.1;omega
def rJ(a:M.Ed e m=some b9):0<=e/\e<(M.types.length:Int)/\M.at e=M.types.getD e.toNat []/\0<=m/\m<((M.at e).length:Int)/\(M.at e).getD m.toNat ⟨0,0,false,[]⟩=b9/\b9∈M.at e:=by
 unfold aR.Ed at a;split at a
 ·rename_i b
  simp only[QK,bO]at b;refine⟨b.1.1,oM,?_,b.2.1,oM,by rw[QQ,a];rfl,QZ a⟩;unfold aR.at;rw[if_pos (bO.2 b.1)]
 ·cases a
def at_mem(b:0<=e)(c:e<(M.types.length:Int)):M.at e∈M.types:=by
 unfold aR.at;rw[if_pos (bO.2 ⟨b,oM⟩)];have a:e.toNat<M.types.length:=oM
 have:M.types.getD e.toNat []=M.types[e.toNat]:=by simp[QQ,a]
 rw[this];exact XY a
def HN(o:dd M=0){b d g arg:Int}(a:jY M b d g arg=0)(p:b2.length=(M.at b).length):
  Jb (M.at b) b2 d g arg/\0<=b/\b<(M.types.length:Int)/\(M.at b).length<=8:=by
 obtain⟨q,r,z⟩:=lu o;obtain⟨A,B,C,s⟩:=xD q;unfold jY at a
 cases e:M.Ed b d with
 |none=>rw[e]at a;simp at a
 |some c=>
  rw[e]at a;simp only at a;obtain⟨h,i,E,t,u,v,w⟩:=rJ e;split at a
  ·simp at a
  ·rename_i j
   split at a
   ·simp at a
   ·rename_i k
    simp only[Bool.or_eq_true,Bool.not_eq_true',not_or,Bool.not_eq_false]at j k;have l:=bO.1 j.1;have m:=at_mem h i;refine⟨⟨t,u,p,l.1,l.2,λx=>?_⟩,h,i,(s _ m).2⟩;rw[v];have y:=Vc (r _ m c w);have f:within arg 0 (c.bH.length-1)=true:=by
     have:=k.2;simp only[QK,beq_iff_eq,Bool.not_eq_true',not_and,Bool.not_eq_false]at this;exact this x
    have f:=bO.1 f;have n:arg.toNat<c.bH.length:=oM
    refine⟨f.1,oM,?_⟩;have:c.bH.getD arg.toNat ⟨0,0,0,0⟩=c.bH[arg.toNat]:=by simp[QQ,n]
    rw[this];exact y _ (XY n)
structure bk.OK (V:bk):Prop where
 decl:dd V.decl=0
 st:∀x∈V.fj,x.2.cells.length=(V.decl.at x.1.1).length
def OS(b:List bD)(a:List du)(c d arg:Int):(TO b a c d arg).length=a.length:=by
 unfold TO
 simp only;split
 ·simp
 split
 ·simp
 split
 ·simp
 split
 ·simp
 split
 ·simp
 ·rfl
def bk.cellsOf(b:bk)(a:ah):List du:=match ay b.fj (a.bd,a.agg)with
 |some c=>c.cells
 |none=>dG (b.decl.at a.bd)
def bk.OK.len(b:d8.OK)(a:ah):(d8.cellsOf a).length=(d8.decl.at a.bd).length:=by
 unfold bk.cellsOf
 cases c:ay d8.fj (a.bd,a.agg)with
 |none=>simp[dG]
 |some d=>exact b.st _ (cF c)
def bk.sR(b:bk)(a:ah):b.try a=if jY b.decl a.bd a.field a.op a.arg≠0 then(true,(0,0),b)else
  match((ay b.done (a.bd,a.agg,a.field)).getD []).find? λc=>mU ((b.decl.at a.bd).getD a.field.toNat ⟨0,0,false,[]⟩) c a with
  |some c=>(true,aO c,b)
  |none=>if xL (b.decl.at a.bd) (b.cellsOf a) a.field a.op a.arg≠0 then(true,(0,0),b)else
   (false,(0,0),{b with fj:=aJ b.fj (a.bd,a.agg) ⟨pH (((ay b.fj (a.bd,a.agg)).getD ⟨0,[]⟩).version+1),TO (b.decl.at a.bd) (b.cellsOf a) a.field a.op a.arg⟩,done:=aJ b.done (a.bd,a.agg,a.field) ((ay b.done (a.bd,a.agg,a.field)).getD []++[a])}):=rfl
def bk.Tt(a:d8.OK)(c:ah):(d8.try c).2.2.OK/\(d8.try c).2.2.decl=d8.decl:=by
 rw[bk.sR];split
 ·exact⟨a,rfl⟩
 split
 ·exact⟨a,rfl⟩
 split
 ·exact⟨a,rfl⟩
 ·refine⟨⟨a.decl,λd b=>?_⟩,rfl⟩
  rcases fG b with rfl|b
  ·show(TO _ _ _ _ _).length=_
   rw[OS,a.len]
  ·exact a.st d b
def bk.Bn(c:d8.OK)(a:ah):(d8.add a).2.OK/\(d8.add a).2.decl=d8.decl:=by
 obtain⟨b,d⟩:=bk.Tt c a;exact⟨⟨b.decl,b.st⟩,d⟩
def bk.uk(a:dd M=0):(bk.new M).OK:=⟨a,λc b=>by cases b⟩
def NJ:fv df Int where
 k:=13
 ci:=aP
 ib:=8
 inner:=(·.ev.aK)
 hd:=λa b c d=>aE a.ev b c d++[.bool a.void,QH a.GO.1,QH a.GO.2]
 ok:=λa=>a.ev.Ok
 hl:=λ_ _ _ _=>rfl
 h1:=λa b c d f e=>by
  simp only[aE,List.cons_append,List.nil_append,Q2,List.not_mem_nil,or_false]at e;rcases e with rfl|rfl|rfl|rfl|rfl|rfl|rfl|rfl|rfl|rfl|rfl|rfl|rfl<;>rfl
 o:=3
 ho:=dC
 fz:=λ_ _ _ _ _ _ _=>rfl
abbrev Ab:kM df:=NJ.Pe
abbrev iG(a:df)(b:Option Addr)(c d:Nat):List Value:=aE a.ev b c d++[.bool a.void,QH a.GO.1,QH a.GO.2]
def Tm:jP ZQ 43 160 13 120:=⟨kR,kR,dC⟩
def mg(a:df)(b:Option Addr)(c d:Nat):jg ZQ 160 (iG a b c d)=true:=kR
def Rn(a:df)(b:Option Addr)(c d:Nat):TF (fe ZQ 160) (.agg (iG a b c d).toArray)=true:=kR
def To:Le ZQ 252 3:=⟨kR,kR,⟨"typ", "no",kR,dC,dC⟩,kR,kR,kR⟩
def Va:xA ZQ 306 252 3:=⟨To,kR,⟨"agg", "field",kR,dC,dC⟩,kR,kR,kR⟩
def WT:jh ZQ 252 pO:=To.key
def Zf:jh ZQ 306 D_:=Va.key
def Zg:nu ZQ 239 252 42 (.agg #[QH 0,.slice none 0 0]):=⟨kR,kR⟩
def Zo:nu ZQ 240 306 50 (.slice none 0 0):=⟨kR,kR⟩
inductive KX where
 |self|st|dn|QU|Tp|Yj
 |done (k:Int×Int×Int)
structure GJ where
 ta:Option Addr
 tn:Nat
 tc:Nat
 pa:Option Addr
 pn:Nat
 pc:Nat
 ea:Option Addr
 en:Nat
 ec:Nat
 r1:Nat
 r2:Nat
 l1:List ((Int×Int)×Value)
 l2:List ((Int×Int×Int)×Value)
 cls:Nat->KX
abbrev GJ.P(b:GJ)(c:Nat->Prop)(d:KX):Nat->Prop:=λa=>c a/\b.cls a=d
def Yy(d:World)(D:Nat->Prop)(e:Value)(a:mV):Prop:=∃b c f,e= .agg #[QH a.version,.slice b c f]/\Row fL 32 d D b c a.cells
def Yz(d:World)(D:Nat->Prop)(e:Value)(f:List ah):Prop:=∃a b c,e= .slice a b c/\aV fZ 59 D d a b c f
structure zY (w:World) (p:Nat) (F:Nat->Prop) (V:bk) (q:GJ):Prop where
 at':w.heap[p]? =some (.cells #[.slice q.ta q.tn q.tc,.slice q.pa q.pn q.pc,.slice q.ea q.en q.ec,.map (some q.r1),.map (some q.r2)] 242 (0,0))
 Tp:bh w (q.P F .Tp) V.decl q.ta q.tn q.pa q.pn
 QU:aV Ab 160 (q.P F .QU) w q.ea q.en q.ec V.entries
 st:cx w q.r1 pO q.l1
 Yk:fJ (Yy w (q.P F .Yj)) q.l1 V.fj
 dn:cx w q.r2 D_ q.l2
 YC:pt (λk=>Yz w (q.P F (.done k))) q.l2 V.done
 aF:∀b,F b->b<w.heap.size
 lp:F p/\q.cls p= .self
 l1:F q.r1/\q.cls q.r1= .st
 l2:F q.r2/\q.cls q.r2= .dn
def cT(b:World)(c:Nat)(d:Nat->Prop)(a:bk):Prop:=a.OK/\∃e,zY b c d a e
section
variable {w w':World} {p:Nat} {F T D:Nat->Prop} {V:bk} {q:GJ}
def Yy.keep{a:Value}{b:mV}(d:Yy w D a b)(e:aj T w w')(f:∀c,D c->¬T c):Yy w' D a b:=by
 obtain⟨g,h,i,j,k⟩:=d;exact⟨g,h,i,j,k.keep e f⟩
def Yz.keep{a:Value}(c:Yz w D a B)(d:aj T w w')(e:∀b,D b->¬T b):Yz w' D a B:=by
 obtain⟨f,g,h,i,j⟩:=c;exact⟨f,g,h,i,j.keep d e⟩
def zY.keep(a:zY w p F V q)(d:aj T w w')(e:∀b,F b->¬T b):zY w' p F V q:=
 ⟨d.get a.at' (e _ a.lp.1),a.Tp.keep d λb c=>e b c.1,a.QU.keep d λb c=>e b c.1,a.st.keep d (e _ a.l1.1),a.Yk.mono λg h f=>f.keep d λb c=>e b c.1,
  a.dn.keep d (e _ a.l2.1),a.YC.mono λi g h f=>f.keep d λb c=>e b c.1,λb c=>Qk (a.aF b c) d.size,a.lp,a.l1,a.l2⟩
def zY.af(a:zY w p F V q)(b:ai w w'):zY w' p F V q:=a.keep b λ_ _ a=>a
def cT.keep(a:cT w p F V)(c:aj T w w')(d:∀b,F b->¬T b):cT w' p F V:=⟨a.1,a.2.imp λq e=>e.keep c d⟩
def cT.af(a:cT w p F V)(b:ai w w'):cT w' p F V:=a.keep b λ_ _ a=>a
def cT.aF(b:cT w p F V):∀a,F a->a<w.heap.size:=b.2.elim λq c=>c.aF
def cT.self(a:cT w p F V):F p:=a.2.elim λq b=>b.lp.1
def IM{m n:Option Addr}{tn v o x:Nat}(y:dd M=0)(z:bh w D M m tn n o)(A:∀a,D a->a<w.heap.size):
  Calls ZQ 78 #[.agg #[.slice m tn v,.slice n o x]] w (Ok λB w'=>∃p F,B= ZX p/\cT w' p F (bk.new M)/\(∀a,F a->w.heap.size<=a)/\ai w w'):=by
 refine LI (PA.mk λK q L r=>⟨_,_,_,_,_,_,ae r rfl,ae r rfl,PC.ok (EJ (z.af q) λa b=>by have:=A a b;omega) ?_⟩);rintro _ e ⟨g,AW,h,i,j,k,G,rfl,C,E,s⟩;refine⟨_,_,_,_,_,_,rfl,PA.mk λc t N H=>PA.mk λd l O I=>PA.mk λu f P J=>Ok.mk ⟨d.heap.size,λa=>w.heap.size<=a/\a<u.heap.size,rfl,⟨bk.uk y,
  ⟨⟨g,AW,h,i,j,k,none,0,0,e.heap.size,c.heap.size,[],[],λa=>if a=d.heap.size then .self else if a=e.heap.size then .st else if a=c.heap.size then .dn else .Tp⟩,?_⟩⟩,λa b=>b.1,((q.then s).then t).then (l.then f)⟩⟩
 have Q:=s.size;refine⟨J,?_,?_,cx.new (f.get (l.get H id) id),trivial,cx.new (f.get I id),trivial,λa b=>b.2,⟨⟨by show w.heap.size<=d.heap.size;omega,by show d.heap.size<_;omega⟩,if_pos rfl⟩,⟨⟨by show w.heap.size<=e.heap.size;omega,by show e.heap.size<_;omega⟩,?_⟩,⟨⟨by show w.heap.size<=c.heap.size;omega,by show c.heap.size<_;omega⟩,?_⟩⟩
 ·refine(((C.af t).af l).af f).mono λa b=>?_
  have:=E a b;refine⟨⟨oM,oM⟩,?_⟩;show(if a=d.heap.size then _ else _)=_;rw[if_neg oM,if_neg oM,if_neg oM]
 ·exact(aV.nil u).mono (λa b=>b.elim) λa b=>b.1.2
 ·show(if e.heap.size=d.heap.size then _ else _)=_
  rw[if_neg oM,if_pos rfl]
 ·show(if c.heap.size=d.heap.size then KX.self else if c.heap.size=e.heap.size then KX.st else if c.heap.size=c.heap.size then KX.dn else KX.Tp)=KX.dn
  rw[if_neg oM,if_neg oM,if_pos rfl]
abbrev IB:mV:=⟨0,[]⟩
def ox(k:cT w p F V):
  Calls ZQ 84 #[ZX p,QH e,QH m] w (Ok λs w'=>∃c d f G,s= .tuple #[.agg #[QH ((V.state e m).getD IB).version,.slice c d f],.bool (V.state e m).isSome]/\aV fL 84 G w' c d f ((V.state e m).getD IB).cells/\(∀a,G a->w.heap.size<=a)/\ai w w'):=by
 obtain⟨T,q,k⟩:=k;refine vR (PA.mk λt u U A=>?_);have j:=k.af u;refine⟨p,0,rfl,_,ae j.at' rfl,nw (enc:=pO) (k:=(e,m)) Zg WT j.st ?_⟩;obtain⟨i,a,c,d,f,g,h,B,C,l⟩:∃(i:mV) (a:Bool) (c:Option Addr) (d f:Nat),(ay q.l1 (e,m)).getD (.agg #[QH 0,.slice none 0 0])= .agg #[QH i.version,.slice c d f]/\(ay q.l1 (e,m)).isSome=a/\(V.state e m).getD IB=i/\(V.state e m).isSome=a/\Row fL 32 t (q.P F .Yj) c d i.cells:=by
  unfold bk.state;rcases j.Yk.ay (e,m)with⟨g,h⟩|⟨s,i,g,h,c,d,f,rfl,l⟩
  ·exact⟨IB,false,none,0,0,by rw[g];rfl,by rw[g];rfl,by rw[h];rfl,by rw[h];rfl,Row.nil _ _⟩
  ·exact⟨i,true,c,d,f,by rw[g];rfl,by rw[g];rfl,by rw[h];rfl,by rw[h];rfl,l⟩
 rw[g,h,B,C];refine⟨_,_,_,_,_,rfl,PA.mk λW E X H=>PS.mk H sM λY I Z J=>PS.mk J sM λK L s7 v=>?_⟩;have n:ai t K:=(E.new I λa b=>.inr oM).new L λa b=>.inr oM;refine⟨_,_,_,_,ae v rfl,ae v rfl,PC.ok (Mg (l.af n) λa b=>by have:=j.aF a b.1;omega) ?_⟩;rintro _ w8 ⟨M,N,O,G,rfl,P,o,r⟩;have Q:=r.get (n.get A id) id;have z8:=r.size;refine⟨_,_,_,_,rfl,PS.mk Q sM λw9 x s9 R=>PS.mk R sM λa0 y a1 z=>⟨_,_,_,_,ae z rfl,ae z rfl,Ok.mk ⟨M,N,O,G,rfl,?_,?_,?_⟩⟩⟩
 ·exact(P.keep x λa b S=>by have:=o a b;omega).keep y λa b S=>by have:=o a b;omega
 ·intro a b;have:=o a b;omega
 ·exact(((u.then n).then r).new x λa b=>.inr oM).new y λa b=>.inr oM
end
def AG:fS:=⟨[],[(5,[])],[],[],[(3,⟨[0,1,2,4,12,16,48,80,144,16,528,1296,2064,4112,8208,16400,32768,98304,163840,262144,786432,1310720,2392064,4227072],[16777215,16777214,16777213,16777211,16777207,16777199,16777167,16777135,16777071,16777199,16776687,16775919,16775151,16773103,16769007,16760831,16744447,16678911,16613375,16515071,15990783,15466495,14385151,12550143],[0,1,2,0,0,0,1,0,1,0,1,0,0,0,0,0,0,1,0,0,1,0,0,0]⟩)]⟩
def AH(y:PA b (.cells #[.slice d a c] 130) λg=>PA g (.cells #[.ii e,.ii m,.bool I,.slice p i n] 123) λq=>(rI q (ab_ g 0) λz=>PC_ 125 #[.ii z,.ii 1,.ii 4] q (kB λA r=>al (!A) (rt t ((.ii 2)) r) ((∃h:World->Prop,((∀j,bE r j->(rI j (ab_ g (0+1)) λB=>PC_ 125 #[.ii B,.ii 1,.ii 3] j (kB λC f=>al (!C) (rt t ((.ii 1)) f) ((rI f (ab_ g 0) λk=>(∃s u,((some (ad 0 0)):Option Addr)=some ⟨s,u,none⟩/\(0:Int)<=k/\k<(5:Int)/\(rI f (ad s (u+Int.toNat k)) λE=>(rI f (ab_ g (0+1)) λD=>(∃v,(∀w,(eq_ .shr 3 (.tmp 19) (.tmp 21) (.ii E) (.ii D)).run ZQ w= .ok (.ii v) w)/\al (((BL .i64 v 1):Int)==0) (rt t ((.ii 1)) f) ((rB f (ab_ g (0+2)) λF=>al F ((rI f (ab_ g 0) λH=>al (H !=1) (rt t ((.ii 1)) f) (h f))) (h f)))))))))) (pZ t))))/\∀(Q:Nat->Value) (l:World),h l->(rS l (ab_ g (0+3)) λG J K=>PC_ 129 #[.slice G J K,.func (.func 126) #[] #[]] l (kB λL o=>al L (rt t ((.ii 1)) o) ((rS o (ab_ g (0+3)) λM N O=>PC_ 129 #[.slice M N O,.func (.func 127) #[] #[.pointer (some (ab_ b 0))]] o (kB λP x=>al P (rt t ((.ii 8)) x) (rt t ((.ii 0)) x)) (pE t)))) (pE t))))) (pE t))):Calls ZQ 68 #[.agg #[.slice d a c],.agg #[.ii e,.ii m,.bool I,.slice p i n]] b t:=DC AG Tryz.func68 rfl y
section
variable {w w':World} {D D' S:Nat->Prop} {d:aR} {ta pa:Option Addr} {tn tc pn pc:Nat}
def yX{b c op arg:Int}(S:eM w)(l:bh w D d ta tn pa pn)(T:∀h,D h->h<w.heap.size):
  Calls ZQ 151 #[.agg #[.slice ta tn tc,.slice pa pn pc],QH b,QH c,QH op,QH arg] w (Ok λg w'=>g= QH (jY d b c op arg)/\ai w w'):=by
 refine EA (PA.mk λw1 C s1 E=>⟨_,_,_,_,_,_,ae E rfl,ae E rfl,PC.ok (px (l.af C) λh t=>by have:=T h t;omega) ?_⟩);rintro g w2 ⟨U,q⟩;have r:=C.then U
 cases m:d.Ed b c with
 |none=>
  rw[m]at q;refine cu (Ku X_ none 0 0) ⟨_,q,PA.mk λV u W v=>aD (fD _ _ _ _) v rfl λX x Y F=>al.tt rfl (Ok.mk ⟨?_,(r.then u).new x λh t=>.inr (by have:=r.size;omega)⟩)⟩;unfold jY;rw[m]
 |some i=>
  rw[m]at q;obtain⟨s,j,H,a5,rfl,Z,hF⟩:=q;have y:jY d b c op arg=if !within op 1 5||rO op !=i.kind then 2 else if op==1&&arg==0||op==5&& !within arg 0 (i.bH.length-1)then 1 else 0:=by unfold jY;rw[m]
  have hz:=r.size;refine cu (Ku i s j H) ⟨_,rfl,PA.mk λV u W v=>aD (fD i s j H) v rfl λX x Y F=>al.ff rfl λz I=>PC.ok cK ?_⟩;rintro _ _ ⟨rfl,rfl⟩;have J:=(bE.keep (S:=λ_=>False) I).get F id;have K:ai w z:=((r.then u).new x λh t=>.inr oM).then I.keep;have a:∀A:Int,jY d b c op arg=A->Ok (λg w'=>g= QH (jY d b c op arg)/\ai w w') (.returned (QH A)) z:=λA l=>Ok.mk ⟨by rw[l],K⟩;refine⟨_,rfl,al.not (al.mk (λf=>?_) (λf=>a 2 (by rw[y,f];rfl)))⟩;have a6:=bO.1 f;refine⟨1,0,rfl,oM,oM,rO op,?_,_,ae J rfl,al.dw (λa0=>a 2 ?_) (λhe=>?_)⟩
  ·have:=(S.af K).kinds op.toNat oM
   rw[Xz,this,Int.toNat_of_nonneg oM]
  ·rw[y,f,if_pos (by simpa using a0)]
  have n:jY d b c op arg=if op==1&&arg==0||op==5&& !within arg 0 (i.bH.length-1)then 1 else 0:=by rw[y,f,he];simp
  have hn:j=i.bH.length:=Z.len dC;have a7:j<=140737488355328:=by
   obtain⟨a1,AW,L,-⟩:∃(s:Option Addr) (j:Nat),Row gC 32 w D s j i.bH/\True:=by
    obtain⟨k,o,a8,a3,a9,B,h3,h4⟩:=aR.rJ m;have b0:=l.bd.len;obtain⟨h,a2,T',es,rfl,_,_,p,M,b1,n1,c1,rfl,N⟩:=l.bd.at (i:=b) k oM;rw[a3]at p;cases p
    have b2:=N.len;obtain⟨b3,b4,x',b5,rfl,_,_,O,b6,b7,n2,c2,rfl,hM,_⟩:=N.at (i:=c) B oM;rw[h4]at O;cases O
    exact⟨_,_,hM,trivial⟩
   have o:=L.len;have B:=L.d_;unfold aQ at B;omega
  have bH:∀{P:List PanicEntry->World->Prop},op=5->PC ZQ 125 #[QH arg,QH 0,QH (IntKind.wrap .i64 ((j:Int)-1))] z (λa4 Q=>∃R:Bool,a4= .bool R/\al (!R) (Ok (λg w'=>g= QH (jY d b c op arg)/\ai w w') (.returned (QH 1)) Q) (Ok (λg w'=>g= QH (jY d b c op arg)/\ai w w') (.returned (QH 0)) Q)) P:=by
   intro P e;refine PC.ok cK ?_;rintro _ _ ⟨rfl,rfl⟩;rw[wrap_i64 (by unfold aN;omega),hn];refine⟨_,rfl,al.not (al.mk (λf=>a 0 ?_) (λf=>a 1 ?_))⟩
   ·rw[n,f,e];rfl
   ·rw[n,f,e];rfl
  refine al.dX (λo=>al.dX (λk=>al.dX (λ_=>a 1 (by rw[n,o,k];rfl)) (λM=>absurd k M)) (λk=>al.dX (λe=>absurd e oM) (λe=>a 0 ?_))) (λo=>al.dX (λe=>⟨_,_,_,ae J rfl,bH e⟩) (λe=>a 0 ?_))
  ·rw[n,if_neg (by simp[k,e])]
  ·rw[n,if_neg (by simp[o,e])]
def GB{h:Option Addr}(d:Row pT 48 w D h a c7):
  Calls ZQ 128 #[.agg #[.slice h a c],QH e,QH m] w (Ok λk w'=>k= .bool (Tz c7 e m)/\ai w w'):=by
 have i:=d.len;have l:=d.d_;unfold aQ at l;refine Ji (PA.mk λq f r j=>⟨_,_,_,ae j rfl,PC.ok cK ?_⟩);rintro _ _ ⟨rfl,rfl⟩;rw[wrap_i64 (by unfold aN;omega)];refine⟨_,rfl,al.mk (λb=>?_) (λb=>Ok.mk ⟨?_,f⟩)⟩
 ·have s:=bO.1 b
  obtain⟨n,g,t,u,rfl,_,_,o,p,v,x,y,rfl,_⟩:=(d.af f).at (i:=e) oM oM;refine⟨_,_,_,ae j rfl,n,g,rfl,oM,oM,_,p 0 dC,Ok.mk ⟨?_,f⟩⟩;unfold Tz;rw[<-i,b,o];rfl
 ·unfold Tz;rw[<-i,b];rfl
def UN(b:1<=e/\e<=4)(c:1<=m/\m<=3):∃a:Int,(∀w',(do eqGuard .shr 3 (.tmp 19) (.tmp 21) (QH (([0,2,14,6,6]:List Int).getD e.toNat 0)) (QH m);binOp .shr 3 (QH (([0,2,14,6,6]:List Int).getD e.toNat 0)) (QH m):Sem Value).run ZQ w'= .ok (QH a) w')/\((BL .i64 a 1==0)= !Wn e m):=by
 refine⟨(([0,2,14,6,6]:List Int).getD e.toNat 0).fdiv (2 ^ m.toNat),?_,?_⟩<;>rcases(by omega:e=1\/e=2\/e=3\/e=4)with rfl|rfl|rfl|rfl<;>rcases(by omega:m=1\/m=2\/m=3)with rfl|rfl|rfl<;>first
  |(intro w';kernel_rfl)
  |decide
def Ny(m:kO):Bool:=decide (m.ck<0)||decide (m.qF<0)||m.lU== -1&&m.least !=0
def UO{d:kO}:Calls ZQ 126 (#[]++ #[.agg (oz d).toArray]++ #[]) w (Ok λg w'=>g= .bool (Ny d)/\ai w w'):=by
 refine xZ (PA.mk λh b i c=>⟨_,ae c rfl,al.dec (λa=>Ok.mk ⟨by simp[Ny,a],b⟩) (λe=>⟨_,ae c rfl,al.dec (λa=>Ok.mk ⟨by simp[Ny,a],b⟩) (λf=>⟨_,ae c rfl,al.dX (λa=>⟨_,ae c rfl,Ok.mk ⟨by simp[Ny,e,f,a],b⟩⟩) (λa=>Ok.mk ⟨by simp[Ny,e,f,a],b⟩)⟩)⟩)⟩)
def KL(b:List bD)(a:kO):Bool:=a.lU != -1&& !Tz b a.lU 1
def UP{d:kO}{f:Option Addr}(j:Row pT 48 w D f c c7)(k:w.heap[a]? =some (.cells #[.slice f c i] g (0,0))):
  Calls ZQ 127 (#[]++ #[.agg (oz d).toArray]++ #[ZX a]) w (Ok λl w'=>l= .bool (KL c7 d)/\ai w w'):=by
 refine x_ (PA.mk λn b o h=>⟨_,ae h rfl,al.dw (λe=>⟨_,_,_,ae (b.get k id) rfl,_,ae h rfl,PC.ok (GB (j.af b)) ?_⟩) (λe=>Ok.mk ⟨by simp[KL,e],b⟩)⟩);rintro _ p ⟨rfl,m⟩;exact⟨_,rfl,Ok.mk ⟨by unfold KL;rw[show(d.lU != -1)=true by simpa using e];simp,b.then m⟩⟩
def Is{y z:Option Addr}(H:eM w)(I:Row pT 48 w D y a c7)(A:Row gC 32 w D z i b9.bH):
  Calls ZQ 68 #[.agg #[.slice y a c],.agg (eg b9 z i n).toArray] w (Ok λp w'=>p= QH (fK c7 b9)/\ai w w'):=by
 refine AH (PA.mk λU J V K=>PA.mk λq B W r=>⟨_,ae r rfl,PC.ok cK ?_⟩);rintro _ _ ⟨rfl,rfl⟩;have C:=J.then B;refine⟨_,rfl,al.not (al.mk (λg=>?_) (λg=>Ok.mk ⟨by unfold fK;rw[g];rfl,C⟩))⟩;have s:=bO.1 g;refine⟨λw'=>ai w w'/\q.heap.size<=w'.heap.size/\ai q w'/\within b9.eV 1 3=true/\Wn b9.kind b9.eV=true/\(b9.floor&&b9.kind !=1)=false,λm E=>?_,?_⟩
 ·have e:=(bE.keep (S:=λ_=>False) E).get r id
  have f:ai q m:=E.keep;have b:ai w m:=C.then f;have h:fK c7 b9=1->Ok (λp w'=>p= QH (fK c7 b9)/\ai w w') (.returned (QH 1)) m:=λl=>Ok.mk ⟨by rw[l],b⟩;refine⟨_,ae e rfl,PC.ok cK ?_⟩;rintro _ _ ⟨rfl,rfl⟩;refine⟨_,rfl,al.not (al.mk (λd=>?_) (λd=>h (by unfold fK;rw[g,d];rfl)))⟩;have t:=bO.1 d;obtain⟨L,M,N⟩:=UN s t;refine⟨_,ae e rfl,0,0,rfl,oM,oM,_,by rw[Xz];exact(H.af b).Ya b9.kind.toNat oM,_,ae e rfl,L,M,?_⟩;rw[N];refine al.not (al.mk (λj=>⟨_,ae e rfl,al.mk (λu=>⟨_,ae e rfl,al.dw (λO=>h ?_) (λP=>⟨b,f.size,f,d,j,by simp[P]⟩)⟩) (λu=>⟨b,f.size,f,d,j,by simp[u]⟩)⟩) (λj=>h (by unfold fK;rw[g,d,j];rfl)));unfold fK;rw[g,d,j,u];simp[O]
 ·rintro X m ⟨b,Y,f,d,j,Q⟩
  have e:=f.get r id;have v:fK c7 b9=if b9.bH.any Ny then 1 else if b9.bH.any (KL c7)then 8 else 0:=by
   unfold fK;rw[g,d,j,Q];rfl
  refine⟨_,_,_,ae e rfl,PC.ok (KK (p:=Ny) (A.af b) kR λR S k=>UO) ?_⟩;rintro _ S ⟨rfl,k⟩;refine⟨_,rfl,al.mk (λl=>Ok.mk ⟨by rw[v,if_pos l],b.then k⟩) (λl=>⟨_,_,_,ae (k.get e id) rfl,PC.ok (KK (p:=KL c7) (A.af (b.then k)) kR λR T o=>UP (I.af ((b.then k).then o)) (o.get (k.get (f.get (B.get K id) id) id) id)) ?_⟩)⟩;rintro _ T ⟨rfl,o⟩;have F:=(b.then k).then o;exact⟨_,rfl,al.mk (λx=>Ok.mk ⟨by rw[v,l,x];rfl,F⟩) (λx=>Ok.mk ⟨by rw[v,l,x];rfl,F⟩)⟩
def WL{a c kind:Int}(e:(d.Ed a c).isSome):∃b,d.types[a.toNat]? =some b/\d.at a=b/\0<=a/\a<d.types.length:=by
 obtain⟨k,f⟩:=Option.isSome_iff_exists.1 e;obtain⟨g,h,b,i,j,_⟩:=aR.rJ f;exact⟨b,i,j,g,h⟩
def It(s:bh w D d ta tn pa pn)(P:∀a,D a->a<w.heap.size):
  Calls ZQ 69 #[.agg #[.slice ta tn tc,.slice pa pn pc],.agg (oy d9).toArray] w (Ok λE w'=>E= QH (mK d d9)/\ai w w'):=by
 refine BQ (PA.mk λZ F s1 t=>PA.mk λw2 i s2 n=>⟨_,_,_,_,_,_,ae (i.get t id) rfl,ae (i.get t id) rfl,_,ae n rfl,_,ae n rfl,PC.ok (px (s.af (F.then i)) λa e=>by have:=P a e;omega) ?_⟩);rintro E w3 ⟨j,o⟩;have u:=(F.then i).then j;have hz:=j.size
 cases k:d.Ed d9.bd d9.field with
 |none=>
  rw[k]at o;refine cu (Ku X_ none 0 0) ⟨_,o,PA.mk λQ f R v=>aD (fD _ _ _ _) v rfl λp g S T=>al.tt rfl (Ok.mk ⟨?_,(u.then f).new g λa e=>.inr oM⟩)⟩;unfold mK;rw[k];rfl
 |some H=>
  rw[k]at o;obtain⟨I,J,K,a0,rfl,ho,hF⟩:=o;have L:(d.Ed d9.bd d9.field).isNone=false:=by rw[k];rfl
  refine cu (Ku H I J K) ⟨_,rfl,PA.mk λQ f R v=>aD (fD H I J K) v rfl λp g S T=>al.ff rfl ⟨λa w'=>a=(d9.group==3&& !Tz (d.at d9.bd) d9.GO 2||d9.group !=3&&d9.GO !=0)/\ai p w',?_,?_⟩⟩
  ·have U:ai w p:=(u.then f).new g λa e=>.inr oM
   intro x V;have b:ai p x:=V.keep;have W:=b.get (g.get (f.get (j.get (i.get t id) id) id) oM) id;have c:=b.get (g.get (f.get (j.get n id) id) oM) id;refine⟨_,ae c rfl,al.dX (λh=>⟨_,_,_,ae W rfl,_,ae c rfl,?_⟩) (λh=>⟨_,ae c rfl,al.dw (λ_=>⟨_,ae c rfl,?_,b⟩) (λl=>absurd l h)⟩)⟩
   ·obtain⟨a1,X,M,N,h1⟩:=WL (kind:=0) (by rw[k];rfl:(d.Ed d9.bd d9.field).isSome)
    have hl:=s.bd.len;obtain⟨a,y,T',es,rfl,_,_,m,l,a2,n1,c1,rfl,Y⟩:=((s.af (U.then b)).bd).at (i:=d9.bd) N oM;rw[X]at m;cases m
    have O:=l 0 dC;simp only[lv,Nat.mul_one,Nat.add_zero]at O;refine⟨a,y,rfl,N,oM,_,_,_,O,_,ae c rfl,PC.ok (GB Y) ?_⟩;rintro _ w7 ⟨rfl,z⟩;refine⟨_,rfl,al.not (al.mk (λA=>⟨_,ae (z.get c id) rfl,al.dw (λl=>absurd h l) (λ_=>⟨?_,b.then z⟩)⟩) (λA=>⟨?_,b.then z⟩))⟩
    ·rw[M,A,h];rfl
    ·rw[M,A,h];rfl
   ·rw[show(d9.group==3)=false by simpa using h,show(d9.group !=3)=true by simpa using h];rfl
  ·rintro a a3 x ⟨rfl,b⟩
   have q:ai w x:=((u.then f).new g λa e=>.inr oM).then b;have c:=b.get (g.get (f.get (j.get n id) id) oM) id;refine al.mk (λe=>Ok.mk ⟨by unfold mK;rw[L,if_neg sM,if_pos e],q⟩) (λe=>⟨_,ae c rfl,PC.ok cK ?_⟩);have B:mK d d9=if !within d9.group 1 3|| !within d9.make 1 5 then 2 else 0:=by unfold mK;rw[L,if_neg sM,e];rfl
   rintro _ _ ⟨rfl,rfl⟩;refine⟨_,rfl,al.not (al.mk (λr=>⟨_,ae c rfl,PC.ok cK ?_⟩) (λr=>Ok.mk ⟨by rw[B,r];rfl,q⟩))⟩;rintro _ _ ⟨rfl,rfl⟩;exact⟨_,rfl,al.not (al.mk (λC=>Ok.mk ⟨by rw[B,r,C];rfl,q⟩) (λC=>Ok.mk ⟨by rw[B,r,C];rfl,q⟩))⟩
end
def Vb(a:Int×Int×Int):jg ZQ 306 [QH a.1,QH a.2.1,QH a.2.2]=true:=kR
def KY{a d:Type}[BEq a][LawfulBEq a]{b:a}{g e:d}:∀c:List (a×d),aJ (aJ c b g) b e=aJ c b e
 |[]=>by simp[aJ]
 |(h,i)::c=>by
  by_cases f:b==h
  ·simp[f,aJ]
  ·simp[f,aJ,KY c]
section
variable {w w':World} {p:Nat} {F T D:Nat->Prop} {V:bk} {q:GJ}
def IA(w:World)(p:Nat)(F D:Nat->Prop)(V:bk)(a:ah)(d:Value)(w':World):Prop:=
 d= .tuple #[.bool (V.try a).1,.agg #[QH (V.try a).2.1.1,QH (V.try a).2.1.2]]/\∃c,cT w' p c (V.try a).2.2/\aj F w w'/\∀b,c b->F b\/D b\/w.heap.size<=b
def Tq(c:cT w p F V)(a:ai w w')(b:V.try l=(I,d6,V)):Ok (IA w p F D V l) (.returned (.tuple #[.bool I,.agg #[QH d6.1,QH d6.2]])) w':=by
 refine Ok.mk ⟨by rw[b],F,?_,ai.keep a,λI d=>.inl d⟩;rw[b];exact c.af a
def GK(j:zY b p F V q)(a:Int×Int×Int):∃c d e f,(ay q.l2 a).getD (.slice none 0 0)= .slice c d e/\(ay V.done a).getD []=f/\(aV fZ 59 (q.P F (.done a)) b c d e f):=by
 rcases j.YC.ay a with⟨g,h⟩|⟨m,f,g,h,c,d,e,rfl,l⟩
 ·exact⟨none,0,0,[],by rw[g];rfl,by rw[h];rfl,(aV.nil b).mono (λk i=>i.elim) λk i=>j.aF k i.1⟩
 ·exact⟨c,d,e,f,by rw[g];rfl,by rw[h];rfl,l⟩
def Ts(f:cT w p F V)(hT:eM w)(hr:Row aP 8 w D d a l.aK)(E:∀b,D b->b<w.heap.size/\¬F b)(he:l.Ok)(e:((ay V.done (l.bd,l.agg,l.field)).getD []).length<=20000000):
  Calls ZQ 146 #[ZX p,kK l d a c] w (Ok (IA w p F D V l)):=by
 have j9:=f;obtain⟨hV,q,f⟩:=f;have h:=f.aF;have B9:=h _ f.lp.1;refine yq (PA.mk λH t7 C0 t8=>PA.mk λo3 o4 C1 t9=>λl0 o5=>?_);have l3:ai o3 l0:=o5.keep;have C2:l0.heap.size=o3.heap.size:=by rw[o5.heap]
 have k0:ai w l0:=(t7.then o4).then l3;have ge:=l3.get (o4.get t8 id) id;have gb:=l3.get t9 id;have P:=f.af k0;refine⟨p,0,rfl,_,_,_,_,_,_,ae P.at' rfl,ae P.at' rfl,_,ae ge rfl,_,ae ge rfl,_,ae ge rfl,_,ae ge rfl,PC.ok (yX (hT.af k0) P.Tp λb e=>P.aF b e.1) ?_⟩;rintro _ Q ⟨rfl,R⟩;have k1:=k0.then R;have C3:=R.size;have c0:=R.get gb id;have c1:=R.get ge id;have m:∀{w1:World} {i:Int×Int} {b:Bool},ai Q w1->V.try l=(b,i,V)->∀w2,bE w1 w2->∀(x S:Int),x=i.1->S=i.2->PS w2 ⟨H.heap.size,0,none⟩ (QH x) λw3=>PS w3 ⟨H.heap.size,0+1,none⟩ (QH S) λw4=>∃(o6 o7:Int),w4.cell? ⟨H.heap.size,0,none⟩=some (QH o6)/\w4.cell? ⟨H.heap.size,0+1,none⟩=some (QH o7)/\Ok (IA w p F D V l) (.returned (.tuple #[.bool b,.agg #[QH o6,QH o7]])) w4:=λ{w1 i b} hk I w2 f9 x S hx n=>by
  have k2:ai w1 w2:=f9.keep;have kk:=(k1.then hk).then k2;have g2:=k2.get (hk.get c0 id) id;subst hx n;refine PS.mk g2 sM λw3 k3 s3 g3=>PS.mk g3 sM λw4 J s4 g4=>⟨_,_,ae g4 rfl,ae g4 rfl,Tq j9 ((kk.new k3 λb e=>.inr oM).new J λb e=>.inr oM) I⟩
 refine⟨_,rfl,al.dw (λd5=>λu0 o8=>?_) (λg6=>?_)⟩
 ·have o9:=(o8.keep (S:=λ_=>False)).get c0 id
  exact⟨_,_,ae o9 rfl,ae o9 rfl,m (i:=(0,0)) (aj.refl _) (by rw[bk.sR,if_pos d5]) u0 o8 _ _ rfl rfl⟩
 obtain⟨c3,t0,t1,C4⟩:=HN hV.decl g6 (hV.len l);obtain⟨y,p0⟩:∃y:Nat,l.bd=y:=⟨l.bd.toNat,oM⟩
 have l4:=c3.f0;have l5:=c3.f1;obtain⟨fi,p1⟩:∃fi:Nat,l.field=fi:=⟨l.field.toNat,oM⟩
 have u1:V.decl.at l.bd=V.decl.types.getD y []:=by
  unfold aR.at;rw[if_pos (bO.2 ⟨t0,oM⟩),p0,Qx]
 obtain⟨tb,qF,es,u2,u3,p2,u4,fa,fn,fc,rfl,z⟩:=(P.af R).Tp.bd.el y V.decl.types[y] sM;have z:Row pT 48 Q (q.P F .Tp) fa fn (V.decl.at l.bd):=by
  rw[u1];have:V.decl.types.getD y []=V.decl.types[y]:=by simp[QQ,show y<V.decl.types.length by omega]
  rw[this];exact z
 have C5:=(P.af R).Tp.bd.len;have g7:=u4 0 dC;have u5:lv.k=1:=rfl;rw[u5,Nat.mul_one]at g7;have u6:=h tb p2.1;refine⟨λT u7 ab ao w'=>u7=0/\ao=0/\ai Q w'/\w'.heap[T]? =some (.cells #[.slice fa fn fc] 130 (0,0))/\w'.heap[ab]? =some (.cells #[QH l.bd,QH l.agg,QH l.field] 306 (0,0))/\Q.heap.size<=T/\Q.heap.size<=ab,?_,?_⟩
 ·intro K p3
  have d6:ai Q K:=p3.keep;have C6:K.heap.size=Q.heap.size:=by rw[p3.heap]
  have p4:=(P.af R).af d6;have c4:=d6.get c1 id;refine⟨λb=>K.heap.size<=b,p,0,rfl,oM,_,_,_,ae p4.at' rfl,by show¬K.heap.size<=w.heap.size;omega,_,ae c4 rfl,tb,qF,u2,t0,by omega,by show¬K.heap.size<=tb;omega,fa,fn,fc,?_,by show¬K.heap.size<=w.heap.size;omega,_,ae c4 rfl,by show¬K.heap.size<=w.heap.size;omega,_,ae c4 rfl,by show¬K.heap.size<=w.heap.size;omega,_,ae c4 rfl,?_,?_⟩
  ·rw[p0,Qx]
   exact(d6.cell (a:=⟨tb,qF+y,none⟩) u3 id).trans g7
  ·refine PA.mk λu9 d7 v0 l6=>⟨ai.keep d7,PA.mk λv1 U v2 l7=>⟨ai.keep U,PS.mk (U.get l6 id) sM λv3 W v4 l8=>⟨W.mono λb _ l=>oM,aD (Vb (l.bd,l.agg,l.field)) (W.get l7 oM) rfl λv5 X v6 l9=>⟨X.mono λb _ l=>oM,rfl,rfl,?_,X.get l8 oM,l9,oM,oM⟩⟩⟩⟩
   exact(((d6.then d7).then U).new W λb e=>.inr oM).new X λb e=>.inr oM
  ·refine PA.mk λu9 d7 v0 l6=>⟨ai.keep d7,PA.mk λv1 U v2 l7=>⟨ai.keep U,PS.mk l7 sM λv3 W v4 l8=>⟨W.mono λb _ l=>oM,aD (Vb (l.bd,l.agg,l.field)) (W.get (U.get l6 id) oM) rfl λv5 X v6 l9=>⟨X.mono λb _ l=>oM,rfl,rfl,?_,X.get l8 oM,l9,oM,oM⟩⟩⟩⟩
   exact(((d6.then d7).then U).new W λb e=>.inr oM).new X λb e=>.inr oM
 rintro T _ ab _ _ p5 ⟨rfl,rfl,p6,p7,g8,y6,C7⟩;have k2:=k1.then p6;have d8:=f.af k2;obtain⟨da,dn,dc,k,v7,m0,p8⟩:=GK d8 (l.bd,l.agg,l.field);rw[m0]at e;refine⟨p,0,rfl,_,ae d8.at' rfl,aw (cs:=[QH l.bd,QH l.agg,QH l.field]) (Vb (l.bd,l.agg,l.field)) g8 ⟨da,dn,dc,λb1=>?_,λp9 v8=>?_⟩⟩
 ·have:=eY Zo Zf (d8.dn.af (aj.drewN p5 b1)) (l.bd,l.agg,l.field) false
  rw[v7]at this;exact this
 have f6:ai p5 p9:=v8.keep;have C8:=p8.len dC;have m1:=(p8.af f6).row (bytes:=96) dC (by unfold aQ;omega);refine⟨λb1 a5 w'=>∃j:Nat,a5=j/\j<=dn/\b1=dn-j/\(∀x∈k.take j,mU ((V.decl.at l.bd).getD l.field.toNat ⟨0,0,false,[]⟩) x l=false)/\ai p9 w',⟨_,0,rfl,Qj _,rfl,sM,aj.refl _⟩,?_⟩;rintro b1 _ _ m2 ⟨j,rfl,hj,rfl,g0,d9⟩;have k3:=(p6.then f6).then d9;have g9:=d9.get (f6.get p7 id) id;have q0:=d9.get (f6.get g8 id) id;have h0:=k3.get c1 id;have c5:∀{r:Bool×(Int×Int)×bk},(match k.find? λx=>mU ((V.decl.at l.bd).getD l.field.toNat ⟨0,0,false,[]⟩) x l with
  |some x=>(true,aO x,V)
  |none=>if xL (V.decl.at l.bd) (V.cellsOf l) l.field l.op l.arg≠0 then(true,(0,0),V)else
   (false,(0,0),{V with fj:=aJ V.fj (l.bd,l.agg) ⟨pH (((ay V.fj (l.bd,l.agg)).getD ⟨0,[]⟩).version+1),TO (V.decl.at l.bd) (V.cellsOf l) l.field l.op l.arg⟩,done:=aJ V.done (l.bd,l.agg,l.field) (k++[l])}))=r->V.try l=r:=λ{r} hr=>by
  rw[bk.sR,if_neg (by simpa using g6),m0];exact hr
 refine al.dec (λC9=>?_) (λD0=>?_)
 ·have g1:j<k.length:=oM
  obtain⟨db,b5,es,v9,D1,D2,q1,xa,xn,xc,rfl,q2,q3⟩:=(m1.af d9).el j k[j] (Qq g1);have g5:k[j]? =some k[j]:=Qq g1;generalize k[j]=x at q1 q2 q3 g5;refine⟨db,b5,v9,oM,oM,br (es:=aE x xa xn xc) (k:=10) (bg x xa xn xc) rfl (λa5 I=>q1 a5 I) (PA.mk λD3 x0 D4 x1=>aD (bg x xa xn xc) x1 rfl λq4 x2 D5 x3=>λx4 x5=>?_)⟩;have m3:ai m2 q4:=x0.new x2 λb e=>.inr oM;have q5:ai q4 x4:=x5.keep;have J:=m3.then q5;have e0:=k3.then J;obtain⟨fb,fo,b6,b7,b8,x6,D6,D7,h1,h2,h3,h4,D8⟩:=Hc (z.af e0) (i:=fi) (by rw[z.len];omega);have h6:=q5.get x3 id;refine⟨_,_,_,ae (J.get g9 id) rfl,_,ae (J.get h0 id) rfl,fb,fo,x6,l4,by rw[z.len];exact l5,?_⟩;rw[p1,Qx];refine br (es:=eg ((V.decl.at l.bd).getD fi ⟨0,0,false,[]⟩) b6 b7 b8) (k:=4) (fD _ _ _ _) rfl (λa5 I=>?_) (aw (bg x xa xn xc) h6 (aw (bg l d a c) (J.get h0 id) (PC.ok (Cm (q2.af J) ((hr.af k1).af e0)) ?_)))
  ·match a5,I with
   |0,_=>exact h1
   |1,_=>exact h2
   |2,_=>exact h3
   |3,_=>exact h4
  rintro _ D9 ⟨rfl,m4⟩;have x7:(V.decl.at l.bd).getD fi ⟨0,0,false,[]⟩=(V.decl.at l.bd).getD l.field.toNat ⟨0,0,false,[]⟩:=by rw[p1,Qx]
  rw[x7];refine⟨_,rfl,al.mk (λhv=>λx8 q6=>?_) (λhv=>⟨_,?_,j+1,an oM,oM,rfl,λS n=>?_,(d9.then J).then m4⟩)⟩
  ·have q7:=(q6.keep (S:=λ_=>False)).get (m4.get h6 id) id
   refine⟨_,_,ae q7 rfl,ae q7 rfl,m (e0.then m4) (i:=aO x) (c5 ?_) x8 q6 _ _ rfl rfl⟩;have hf:k.find? (λx=>mU ((V.decl.at l.bd).getD l.field.toNat ⟨0,0,false,[]⟩) x l)=some x:=by
    rw[List.find?_eq_some_iff_append];refine⟨hv,k.take j,k.drop (j+1),?_,λS n=>by rw[g0 S n];rfl⟩;rw[<-List.take_append_drop j k]
    congr 1
    ·rw[List.take_append_drop]
    ·rw[List.take_append_drop,X4 g1]
     congr 1
     rw[Qq g1]at g5;exact XJ g5
   rw[hf]
  ·omega
  ·rw[Qw,g5]at n
   rcases Q6.1 n with n|n
   ·exact g0 S n
   ·simp at n;subst n;exact hv
 ·have E0:j=dn:=oM
  rw[Qz oM]at g0;have m5:k.find? (λx=>mU ((V.decl.at l.bd).getD l.field.toNat ⟨0,0,false,[]⟩) x l)=none:=List.find?_eq_none.2 λx hx=>by rw[g0 x hx];simp
  rw[m5]at c5;intro Y h7;have c7:ai m2 Y:=h7.keep;have y7:Y.heap.size=m2.heap.size:=by rw[h7.heap]
  have k5:=k3.then c7;have e8:=k1.then k5;have z5:=k5.size;have z3:=k3.size;have b9:=f.af e8;have b2:=c7.get q0 id;have c2:=c7.get g9 id;have m6:=k5.get c1 id;have E1:=c7.size;have y8:=aC b2;have y9:=aC c2;obtain⟨t,b,o,s,A,g,Z,h5,k4,d3⟩:∃(t:mV) (b:Bool) (o:Option Addr) (s A:Nat),(ay q.l1 (l.bd,l.agg)).getD (.agg #[QH 0,.slice none 0 0])= .agg #[QH t.version,.slice o s A]/\(ay q.l1 (l.bd,l.agg)).isSome=b/\(ay V.fj (l.bd,l.agg)).getD IB=t/\(b=true->V.cellsOf l=t.cells)/\Row fL 32 Y (q.P F .Yj) o s t.cells/\(b=false->V.cellsOf l=dG (V.decl.at l.bd)):=by
   unfold bk.cellsOf;rcases b9.Yk.ay (l.bd,l.agg)with⟨g,Z⟩|⟨f0,t,g,Z,o,s,A,rfl,hr⟩
   ·exact⟨IB,false,none,0,0,by rw[g];rfl,by rw[g];rfl,by rw[Z];rfl,λf=>(by cases f),Row.nil _ _,λ_=>by rw[Z]⟩
   ·exact⟨t,true,o,s,A,by rw[g];rfl,by rw[g];rfl,by rw[Z];rfl,λ_=>by rw[Z],hr,λf=>(by cases f)⟩
  obtain⟨d3,l1⟩:=d3;refine⟨λb=>b=Y.heap.size,p,0,rfl,oM,_,ae b9.at' rfl,oM,_,_,ae b2 rfl,ae b2 rfl,t.version,o,s,A,b,λw' hk=>?_,PA.mk λz0 h8 z2 q8=>⟨ai.keep h8,PS.mk q8 sM λz4 h9 z7 q9=>PS.mk q9 sM λr0 i0 z8 i1=>⟨h9.then i0,?_⟩⟩⟩
  ·have:=eY Zg WT (b9.st.keep hk (by have:=h _ f.l1.1;omega)) (l.bd,l.agg) true
   rw[g,Z]at this;exact this
  have k6:ai Y r0:=(h8.new h9 λb e=>.inr oM).new i0 λb e=>.inr oM;refine⟨λw'=>ai Y w'/\∃o s A Dc,w'.heap[Y.heap.size]? =some (.cells #[QH t.version,.slice o s A] 42 (0,0))/\Row fL 32 w' Dc o s (V.cellsOf l)/\∀b,Dc b->b<w'.heap.size,?_,?_⟩
  ·refine al.not (al.mk (λx9=>⟨k6,o,s,A,_,i1,by rw[k4 x9];exact d3.af k6,λb e=>by have:=h b e.1;have:=k6.size;have:=e8.size;omega⟩) (λy0=>⟨_,_,_,ae (k6.get c2 id) rfl,PC.ok (Jd (t:=V.decl.at l.bd) rfl (z.len) (by rw[z.len];omega)) ?_⟩))
   rintro _ z9 ⟨l2,n6,m7,G6,rfl,r3,k7,y1⟩;have z6:=k6.size;refine⟨_,_,_,rfl,PS.mk (k7.get i1 id) sM λA0 i2 A1 r4=>⟨(k6.then k7).new i2 λb e=>.inr oM,l2,n6,m7,G6,r4,?_,λb e=>by have:=r3.aF b e;omega⟩⟩;rw[l1 y0];exact(r3.keep i2 λb e l=>by have:=y1 b e;omega).row dC (by unfold aQ dG;simp;omega)
  rintro _ A2 ⟨a3,o,s,A,Dc,f1,d3,y2⟩;have A3:=a3.size;have f2:=k5.then a3;have f3:=a3.get c2 id;have m8:=a3.get b2 id;have c6:=a3.get m6 id;refine⟨_,_,_,ae f3 rfl,_,_,_,ae f1 rfl,_,ae c6 rfl,_,ae c6 rfl,_,ae c6 rfl,PC.ok (Jc c3 (z.af f2) d3) ?_⟩;rintro _ r5 ⟨rfl,a0⟩;have k8:=f2.then a0;refine⟨_,rfl,al.dw (λd5=>λr6 i3=>?_) (λy3=>λc8 r7=>?_)⟩
  ·have i4:=(i3.keep (S:=λ_=>False)).get (k8.get c0 id) id
   refine⟨_,_,ae i4 rfl,ae i4 rfl,m (i:=(0,0)) k8 (c5 ?_) r6 i3 _ _ rfl rfl⟩;simp only;rw[if_pos d5]
  have f4:xL (V.decl.at l.bd) (V.cellsOf l) l.field l.op l.arg=0:=y3;have a1:ai r5 c8:=r7.keep;have k9:=k8.then a1;have m9:=(a3.then a0).then a1;have d2:=k1.then k9;have n0:=f.af d2;have b3:=k9.get c1 id;have e1:=(a0.then a1).get m8 id;have n1:=(a0.then a1).get f3 id;have f7:=(a0.then a1).get f1 id;have E2:=h _ f.l1.1;have E3:=h _ f.l2.1;have A4:=m9.size;have y4:=d2.size;have e7:¬p=q.r1:=λl=>by have g:=f.lp.2;rw[l,f.l1.2]at g;cases g
  have i5:¬p=q.r2:=λl=>by have g:=f.lp.2;rw[l,f.l2.2]at g;cases g
  have i6:¬q.r1=q.r2:=λl=>by have g:=f.l1.2;rw[l,f.l2.2]at g;cases g
  refine⟨λb=>b=q.r1,p,0,rfl,e7,_,ae n0.at' rfl,oM,_,_,ae e1 rfl,ae e1 rfl,oM,_,ae f7 rfl,_,_,_,ae n1 rfl,_,_,_,ae f7 rfl,_,ae b3 rfl,_,ae b3 rfl,_,ae b3 rfl,PC.ok (TQ c3 f4 he.arg oM (z.af k9) (λb e=>by have:=h b e.1;omega) (d3.af (a0.then a1)) λb e=>by have:=y2 b e;have:=(a0.then a1).size;omega) ?_⟩;rintro _ a6 ⟨r8,r9,s0,G,rfl,i7,a4,hG⟩;have e2:=d2.then a4;have u:=f.af e2;have A5:=a4.size;refine⟨_,_,_,rfl,ai.keep a4,jz (enc:=pO) (k:=(l.bd,l.agg)) Zg WT u.st λi8 s1 i9 A6=>⟨i9,λc9 j0=>?_⟩⟩;have j1:ai i8 c9:=j0.keep;have A7:c9.heap.size=i8.heap.size:=by rw[j0.heap]
  have C:aj (·=q.r1) a6 c9:=i9.af j1;have key:∀b,F b/\q.cls b= .done (l.bd,l.agg,l.field)->b≠p/\b≠q.r1/\b≠q.r2:=λb e=>
   ⟨λl=>(by have g:=f.lp.2;rw[<-l,e.2]at g;cases g),λl=>(by have g:=f.l1.2;rw[<-l,e.2]at g;cases g),λl=>(by have g:=f.l2.2;rw[<-l,e.2]at g;cases g)⟩
  have n3:=C.get u.at' e7;have n4:=C.get (a4.get e1 id) oM;have v:=C.get (a4.get b3 id) oM;have n5:=u.dn.keep C (λl=>i6 l.symm);have n8:=C.get (a4.get (k9.get c0 id) id) oM;obtain⟨a2,a7,e3,n7,s2,j2,j3⟩:=GK u (l.bd,l.agg,l.field);rw[m0]at j2;subst j2;have n9:=j3.keep C λb e l=>(key b e).2.1 l;have A8:=C.size;refine⟨λb=>b=q.r2\/(F b/\q.cls b= .done (l.bd,l.agg,l.field)),p,0,rfl,λB=>B.elim i5 λB=>(key p B).1 rfl,_,ae n3 rfl,λB=>B.elim (λl=>oM) λB=>by have:=h _ B.1;omega,
   aw (cs:=[QH l.bd,QH l.agg,QH l.field]) (Vb (l.bd,l.agg,l.field)) n4 ⟨_,_,_,_,_,_,_,_,_,_,_,_,ae v rfl,ae v rfl,ae v rfl,ae v rfl,ae v rfl,ae v rfl,ae v rfl,ae v rfl,ae v rfl,ae v rfl,
   PA.mk λA9 a8 B0 s5=>⟨ai.keep a8,Ia (enc:=D_) (k:=(l.bd,l.agg,l.field)) Zo Zf (n5.af a8) λB1 x s6 o0 a9 B2=>⟨a2,a7,e3,x,by rw[s2],a9.mono λb _ l=>.inl l,?_⟩⟩⟩⟩
  have o1:=(n9.af a8).keep a9 λb e l=>(key b e).2.2 l;have s7:=a9.get s5 oM;have b4:∀b,aI a2=some b->F b/\q.cls b= .done (l.bd,l.agg,l.field):=λb e=>j3.self b e;have y5:=(((hr.af e2).keep C λb e l=>(E b e).2 (l▸f.l1.1)).af a8).keep a9 λb e l=>(E b e).2 (l▸f.l2.1);refine fh (c:=fZ) o1 Eg s7 (D:=D) (x:=l) ⟨d,a,c,rfl,y5,he⟩ (λb e=>⟨by have:=(E b e).1;omega,λee=>(E b e).2 (b4 b ee).1⟩) (by unfold aQ;omega) (by unfold maxLen;omega) λa' L s8 F2 f8 b0 o2=>⟨_,_,_,rfl,b0.mono λb _ e=>.inr (b4 b e),?_⟩
  have s9:¬aI a2=some q.r2:=λee=>(key _ (b4 _ ee)).2.2 rfl;refine Dq Zf (s6.keep b0 s9) (o0.keep b0 s9) λj4 t2 e9 B3=>⟨e9.mono λb _ l=>.inl l,λd0 j5=>?_⟩
  have f5:ai j4 d0:=j5.keep;have B4:d0.heap.size=j4.heap.size:=by rw[j5.heap]
  have B5:=b0.size;have kb:aj (λb=>b=q.r2\/(F b/\q.cls b= .done (l.bd,l.agg,l.field))) c9 d0:=((((ai.keep a8).then (a9.mono λb _ l=>.inl l)).then (b0.mono λb _ e=>.inr (b4 b e))).then (e9.mono λb _ l=>.inl l)).then (ai.keep f5);have e4:=kb.get n8 (λB=>B.elim (λl=>oM) λB=>by have:=h _ B.1;omega);refine⟨_,_,ae e4 rfl,ae e4 rfl,PS.mk e4 sM λB6 j6 B7 t3=>PS.mk t3 sM λd1 j7 B8 j8=>⟨_,_,ae j8 rfl,ae j8 rfl,?_⟩⟩;have M:aj (λb=>b=q.r1\/b=q.r2\/(F b/\q.cls b= .done (l.bd,l.agg,l.field))\/b=H.heap.size) a6 d1:=
   ((C.mono λb _ l=>.inl l).then (kb.mono λb _ e=>e.elim (λl=>.inr (.inl l)) λe=>.inr (.inr (.inl e)))).then ((j6.mono λb _ l=>.inr (.inr (.inr l))).then (j7.mono λb _ l=>.inr (.inr (.inr l))))
  have kc:aj (·=H.heap.size) d0 d1:=j6.then j7;have zT:=M.size;have I:=c5 (r:=(false,(0,0),{V with fj:=aJ V.fj (l.bd,l.agg) ⟨pH (((ay V.fj (l.bd,l.agg)).getD ⟨0,[]⟩).version+1),TO (V.decl.at l.bd) (V.cellsOf l) l.field l.op l.arg⟩,done:=aJ V.done (l.bd,l.agg,l.field) (k++[l])})) (by simp only;rw[if_neg (by simpa using f4)]);have t4:=(bk.Tt hV l).1;refine Ok.mk ⟨by rw[I],λb=>b<d1.heap.size/\(F b\/D b\/w.heap.size<=b),?_,?_,λb e=>e.2⟩
  rotate_left
  ·exact(ai.keep e2).trans M (λ_ _ f=>f) λb e hT=>by
    rcases hT with rfl|rfl|hT|rfl
    ·exact f.l1.1
    ·exact f.l2.1
    ·exact hT.1
    ·omega
  rw[I]at t4⊢;have t5:∀b,G b->c8.heap.size<=b/\b<a6.heap.size:=λb e=>⟨hG b e,i7.aF b e⟩
  have N:∀b,F b->b<d1.heap.size:=λb e=>by have:=h b e;omega
  classical
  have O:∀b,F b->(if F b then q.cls b else if c8.heap.size<=b/\b<a6.heap.size then KX.Yj else KX.done (l.bd,l.agg,l.field))=q.cls b:=λb e=>if_pos e;refine⟨t4,⟨q.ta,q.tn,q.tc,q.pa,q.pn,q.pc,q.ea,q.en,q.ec,q.r1,q.r2,aJ q.l1 (l.bd,l.agg) (.agg #[QH (pH (t.version+1)),.slice r8 r9 s0]),aJ q.l2 (l.bd,l.agg,l.field) (.slice a' (a7+1) L),λb=>if F b then q.cls b else if c8.heap.size<=b/\b<a6.heap.size then KX.Yj else KX.done (l.bd,l.agg,l.field)⟩,?_,?_,?_,?_,?_,?_,?_,λb e=>e.1,⟨⟨N _ f.lp.1,.inl f.lp.1⟩,(O _ f.lp.1).trans f.lp.2⟩,⟨⟨N _ f.l1.1,.inl f.l1.1⟩,(O _ f.l1.1).trans f.l1.2⟩,⟨⟨N _ f.l2.1,.inl f.l2.1⟩,(O _ f.l2.1).trans f.l2.2⟩⟩
  ·exact M.get u.at' λB=>by
    rcases B with B|B|B|B
    ·exact e7 B
    ·exact i5 B
    ·exact(key _ B).1 rfl
    ·omega
  ·refine(u.Tp.keep M λb e B=>?_).mono λb e=>⟨⟨N b e.1,.inl e.1⟩,(O b e.1).trans e.2⟩
   have d4:=h b e.1;rcases B with rfl|rfl|B|B
   ·have:=f.l1.2;rw[e.2]at this;cases this
   ·have:=f.l2.2;rw[e.2]at this;cases this
   ·have:=B.2;rw[e.2]at this;cases this
   ·omega
  ·refine(u.QU.keep M λb e B=>?_).mono (λb e=>⟨⟨N b e.1,.inl e.1⟩,(O b e.1).trans e.2⟩) λb e=>e.1.1
   have d4:=h b e.1;rcases B with rfl|rfl|B|B
   ·have:=f.l1.2;rw[e.2]at this;cases this
   ·have:=f.l2.2;rw[e.2]at this;cases this
   ·have:=B.2;rw[e.2]at this;cases this
   ·omega
  ·exact((s1.af j1).keep kb λB=>B.elim i6 λB=>(key _ B).2.1 rfl).keep kc oM
  ·refine fJ.aJ ?_ ?_
   ·refine⟨r8,r9,s0,by rw[h5],?_⟩
    refine((i7.row (bytes:=32) dC ?_).keep M λb e B=>?_).mono λb e=>?_
    ·rw[OS,hV.len];unfold aQ;omega
    ·have d4:=t5 b e
     rcases B with rfl|rfl|B|B
     ·omega
     ·omega
     ·have:=h b B.1;omega
     ·omega
    ·have d4:=t5 b e
     refine⟨⟨oM,.inr (.inr oM)⟩,?_⟩;show(if F b then _ else _)=_;rw[if_neg (λhf=>by have:=h b hf;omega),if_pos d4]
   ·refine u.Yk.mono λf0 r1 hu=>?_
    obtain⟨e5,n2,e6,rfl,hu⟩:=hu;refine⟨e5,n2,e6,rfl,(hu.keep M λb e B=>?_).mono λb e=>⟨⟨N b e.1,.inl e.1⟩,(O b e.1).trans e.2⟩⟩;have d4:=h b e.1;rcases B with rfl|rfl|B|B
    ·have:=f.l1.2;rw[e.2]at this;cases this
    ·have:=f.l2.2;rw[e.2]at this;cases this
    ·have:=B.2;rw[e.2]at this;cases this
    ·omega
  ·have:=(t2.af f5).keep kc (by show¬q.r2=H.heap.size;omega)
   rw[KY]at this;exact this
  ·refine pt.aJ ?_ u.YC ?_ u.dn.tidy
   ·refine⟨a',_,L,rfl,?_⟩
    have t6:∀b,F2 b->b<s8.heap.size/\b≠H.heap.size:=λb e=>by
     refine⟨f8.aF b e,λl=>?_⟩;rcases o2 b e with g|g|g
     ·have:=h b g.1;omega
     ·have:=(E b g).1;omega
     ·omega
    refine((f8.keep e9 λb e l=>?_).af f5|>.keep kc λb e l=>(t6 b e).2 l).mono (λb e=>?_) λb e=>e.1.1
    ·rcases o2 b e with g|g|g
     ·exact(key b g).2.2 l
     ·exact(E b g).2 (l▸f.l2.1)
     ·omega
    ·have:=(t6 b e).1
     have hz:=kc.size;rcases o2 b e with g|g|g
     ·exact⟨⟨N b g.1,.inl g.1⟩,(O b g.1).trans g.2⟩
     ·refine⟨⟨oM,.inr (.inl g)⟩,?_⟩
      show(if F b then _ else _)=_;rw[if_neg (E b g).2,if_neg (by have:=(E b g).1;omega)]
     ·refine⟨⟨oM,.inr (.inr oM)⟩,?_⟩
      show(if F b then _ else _)=_;rw[if_neg (λhf=>by have:=h b hf;omega),if_neg oM]
   ·intro r2 f0 r1 d5 hu
    obtain⟨e5,n2,e6,rfl,hu⟩:=hu;refine⟨e5,n2,e6,rfl,(hu.keep M λb e B=>?_).mono (λb e=>⟨⟨N b e.1,.inl e.1⟩,(O b e.1).trans e.2⟩) λb e=>e.1.1⟩;have d4:=h b e.1;rcases B with rfl|rfl|B|B
    ·have:=f.l1.2;rw[e.2]at this;cases this
    ·have:=f.l2.2;rw[e.2]at this;cases this
    ·have:=B.2;rw[e.2]at this
     simp only[KX.done.injEq]at this;exact d5 this
    ·omega
end
end Go.Proofs.YtfchlbaidamodaaGreatDoor

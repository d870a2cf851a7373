import Derived.Test.YtjgjkeponbeekaaGreatDoorKa21
set_option linter.all false
set_option maxHeartbeats 4000000
set_option maxRecDepth 100000
namespace Go.Proofs.YtjgjkeponbeekaaGreatDoor
open Go.ar
variable{a c:Nat}{d r:Option Addr}{P:aM}
section
variable {w w':World} {D E F:Nat->Prop}
def pw{b:List iP}(f:Row AW 40 w D d a b)(g:∀e,D e->e<w.heap.size):Calls XP 103 #[.slice d a c] w (Ok (py AW 138 w b)):=
 gS (vK Pq dC f g λi w' h=>Ok.mk h)
def px{b:List (Bx bf)}(f:Row I_.jk 48 w D d a b)(g:∀e,D e->e<w.heap.size):Calls XP 104 #[.slice d a c] w (Ok (py I_.jk 121 w b)):=
 fT (vK SR dC f g λi w' h=>Ok.mk h)
def Cy{tn tc pn pc:Nat}(i:bb w D P d tn r pn)(S:∀a,D a->a<w.heap.size):
  Calls XP 158 #[.agg #[.slice d tn tc,.slice r pn pc]] w (Ok λa5 w'=>∃p Ps T f g h G,a5= .agg #[.slice p Ps T,.slice f g h]/\bb w' G P p Ps f g/\(∀a,G a->w.heap.size<=a/\a<w'.heap.size)/\ai w w'):=by
 have d3:=i.aS.len;have E:=i.aS.dN;have d4:=i.Em.len;have d5:=i.Em.dN;refine yt (PA.mk λw1 k1 s1 g1=>PA.mk λw2 F s2 g2=>⟨_,_,_,ae (F.get g1 id) rfl,PC.ok (pw (i.Em.ah (k1.then F)) λa B=>by have:=S a B;omega) ?_⟩);rintro _ q ⟨f,g,h,G1,rfl,U,H,b4⟩;have z8:=H.size;refine⟨_,_,_,rfl,PA.mk λg4 d6 g5 d7=>PS.mk d7 sM λg6 d8 g7 d9=>PS.mk d9 sM λs e0 g8 e1=>?_⟩;have t:ai q s:=(d6.new d8 λa B=>.inr oM).new e0 λa B=>.inr oM;have b5:ai w s:=((k1.then F).then H).then t;have ga:=t.get (H.get (F.get g1 id) id) id;have gz:=t.get (H.get g2 id) id;have g9:=t.size;have b6:s.heap[q.heap.size]? =some (.cells #[.slice none 0 0,.slice f g h] 25 (0,0)):=e1;refine⟨_,_,_,ae ga rfl,λu V w'=>∃b:Nat,V=b/\b<=tn/\u=tn-b/\ak (·=q.heap.size) s w'/\∃I J W v,w'.heap[q.heap.size]? =some (.cells #[.slice I J W,.slice f g h] 25 (0,0))/\aO mj 118 v w' I J W (P.types.take b)/\∀a,v a->s.heap.size<=a,
  ⟨_,0,rfl,Qj _,rfl,ak.refl _,none,0,0,λ_=>False,b6,aO.nil _,λ_ i=>i.elim⟩,?_⟩
 rintro u _ _ Y ⟨b,rfl,hj,rfl,x,I,J,W,v,Z,j,m⟩;have K:ai w Y:=b5.new x λa B=>.inr oM;have zk:=x.size;refine al.dec (λh0=>?_) (λh3=>?_)
 ·have b7:b<P.types.length:=oM
  obtain⟨a,a6,es,ha,B,h4,a8,fa,fn,fc,rfl,L⟩:=(i.aS.ah K).el b P.types[b] (by simp[b7]);have b8:P.types[b]? =some P.types[b]:=Qq b7;generalize P.types[b]=a1 at L b8;have c0:=a8 0 dC;have e2:mj.k=1:=rfl;rw[e2,Nat.mul_one]at c0;refine⟨a,a6,ha,oM,oM,fa,fn,fc,by rw[Qx];exact c0,PA.mk λh5 e3 h6 e4=>PS.mk e4 sM λb9 e5 h7 e6=>⟨_,_,_,ae e6 rfl,?_⟩⟩;have M:ai Y b9:=e3.new e5 λa B=>.inr oM;have c1:=K.then M;obtain⟨n,l1,l2,l3⟩:=ef.boxes (N:=I_) L;have a7:=L.dN;refine PC.ok (px (l2.ah M) λa B=>by have:=S a B;have:=c1.size;omega) ?_;rintro _ c2 ⟨a9,y,c9,F9,rfl,N,c3,e7⟩;have h8:=M.size;have h9:=c3.size;have O:∀a,aF a9=some a->b9.heap.size<=a:=λa B=>e7 a (N.self a B);have c4:∀a,aF a9=some a->a<c2.heap.size:=λa B=>N.aB a (N.self a B);refine⟨_,_,_,rfl,λu V w'=>∃b:Nat,V=b/\b<=y/\u=y-b/\dt I_ 121 c2 a9 y c9 n b w',⟨_,0,rfl,Qj _,rfl,dt.start N.alone⟩,?_⟩;rintro u _ _ e8 ⟨o,rfl,hi,rfl,k⟩;have i0:=k.len;have i1:n.length=a1.length:=by rw[<-l1];simp
  have e9:=L.len;have z:ai Y e8:=(M.then c3).new k.af λa B=>.inr (by have:=O a B;omega);have i2:=k.af.size;refine al.dec (λf8=>?_) (λg0=>?_)
  ·obtain⟨Q,rfl⟩:=k.some oM
   have c5:=c4 Q rfl;have a0:n[o]? =some n[o]:=Qq oM;have A:=l3 n[o] (XY oM);generalize n[o]=R at a0 A;refine⟨Q,0,rfl,oM,oM,_,_,_,k.cell rfl a0 (by show y*4<=aK;unfold aK at a7⊢;omega) 3 _ rfl,PC.ok (sD (A.1.ah z) λa B=>by have:=S a B;have:=(K.then z).size;omega) ?_⟩;rintro _ i3 ⟨i4,i5,i6,G,rfl,a2,f2,hG⟩;refine⟨_,_,_,rfl,Q,0,rfl,oM,oM,?_⟩;refine(k.ah f2).step (g:=Q) rfl a0 (a2.row (bytes:=32) dC ?_) A.2 (λa3 hx=>⟨by have:=hG a3 hx;omega,a2.aB a3 hx⟩) c5 λi7 c6 i8 i9=>⟨_,?_,o+1,aq (by unfold aK at a7;omega),oM,rfl,c6⟩
   ·have e:=A.1.dN
    have X:=A.1.len;show R.x.bq.length*32<=aK;have j0:R.n=R.x.bq.length:=X;have j1:R.n*32<=aK:=e;omega
   ·omega
  ·obtain rfl:o=y:=oM
   obtain⟨Fd,hd,b0⟩:=k.done;rw[l1,GB]at hd;have a4:=z.get Z id;refine⟨_,_,_,ae a4 rfl,Mo (c:=mj) (x:=a1) (j.ah z) Ot (D:=Fd) ⟨_,_,_,rfl,hd.row dC (by rw[<-e9];exact a7)⟩ (λa B=>⟨hd.aB a B,λc=>?_⟩) ?_ ?_ λa' C j2 F' d0 b1 c7 g3=>⟨_,_,_,rfl,?_⟩⟩
   ·have e:=j.aB a (j.self a c)
    rcases b0 a B with X|X
    ·have:=O a X;omega
    ·omega
   ·have:=List.length_take_le b P.types;unfold aK at E⊢;omega
   ·have:=List.length_take_le b P.types;unfold aK at E;unfold maxLen;omega
   ·have l:¬aF I=some q.heap.size:=λc=>by have:=m _ (j.self _ c);omega
    have f3:=b1.get a4 l;have j3:=b1.size;refine PS.mk f3 sM λj4 c8 j5 f5=>⟨_,?_,b+1,aq (by unfold aK at E;omega),oM,rfl,?_,a',J+1,C,F',f5,?_,?_⟩
    ·omega
    ·exact((x.ah z).new b1 λa B=>.inr (m _ (j.self a B))).then c8
    ·rw[Qw,b8]
     refine d0.af c8 λa B c=>?_;rcases c7 a B with e|e|e
     ·have:=m a e;omega
     ·rcases b0 a e with X|X
      ·have:=O a X;omega
      ·omega
     ·omega
    ·intro a B
     rcases c7 a B with e|e|e
     ·exact m a e
     ·rcases b0 a e with X|X
      ·have:=O a X;omega
      ·omega
     ·omega
 ·obtain rfl:b=tn:=oM
  rw[Qz oM]at j;have d1:=x.get gz oM;have f0:=(U.ah t).af x λa B c=>by have:=U.aB a B;omega
  refine⟨_,_,_,_,_,_,ae Z rfl,ae Z rfl,PS.mk d1 sM λj6 b2 j7 f6=>PS.mk f6 sM λj8 b3 j9 d2=>⟨_,_,_,_,_,_,ae d2 rfl,ae d2 rfl,Ok.mk ⟨_,_,_,_,_,_,λa=>v a\/G1 a,rfl,⟨?_,?_⟩,?_,?_⟩⟩⟩
  ·have l:∀a,v a->a≠w1.heap.size:=λa B c=>by have:=m a B;omega
   exact((((j.row (bytes:=24) dC (by rw[<-d3];exact E)).af b2 λa B c=>l a B c).af b3 λa B c=>l a B c)).mono λa B=>.inl B
  ·have l:∀a,G1 a->a≠w1.heap.size:=λa B c=>by have:=b4 a B;omega
   exact((((f0.row (bytes:=40) dC (by rw[<-d4];exact d5)).af b2 λa B c=>l a B c).af b3 λa B c=>l a B c)).mono λa B=>.inr B
  ·rintro a (B|B)
   ·have:=m a B;have:=j.aB a B;omega
   ·have:=b4 a B;have:=U.aB a B;omega
  ·exact(K.new b2 λa B=>.inr oM).new b3 λa B=>.inr oM
end
end Go.Proofs.YtjgjkeponbeekaaGreatDoor
namespace Go.ar
open Go
def n_{a b c:Type}(d:a->b->c->Prop):List (a×b)->List (a×c)->Prop
 |[],[]=>True
 |(e,f)::g,(h,i)::j=>e=h/\d e f i/\n_ d g j
 |_,_=>False
section
variable {κ β γ:Type} {R R':κ->β->γ->Prop}
def n_.mono:∀{a:List (κ×β)} {b:List (κ×γ)},n_ R a b->(∀f c d,R f c d->R' f c d)->n_ R' a b
 |[],[],_,_=>trivial
 |(h,c)::a,(i,d)::b,e,g=>⟨e.1,g _ _ _ e.2.1,n_.mono e.2.2 g⟩
def n_.aE[BEq κ][LawfulBEq κ](a:κ):∀{b:List (κ×β)} {c:List (κ×γ)},n_ R b c->
  (ar.aE b a=none/\ar.aE c a=none)\/∃d e,ar.aE b a=some d/\ar.aE c a=some e/\R a d e
 |[],[],_=>.inl ⟨rfl,rfl⟩
 |(g,d)::b,(k,e)::c,h=>by
  obtain⟨rfl,i,j⟩:=h;unfold ar.aE
  by_cases f:a==g
  ·obtain rfl:a=g:=by simpa using f
   simp only[f,if_true];exact .inr ⟨d,e,rfl,rfl,i⟩
  ·simp only[f];exact n_.aE a j
def n_.off{h:κ}:∀{a:List (κ×β)} {b:List (κ×γ)},n_ R a b->(∀c d e,c≠h->R c d e->R' c d e)->h∉a.map (·.1)->n_ R' a b
 |[],[],_,_,_=>trivial
 |(k,d)::a,(l,e)::b,f,i,g=>by
  simp only[QY,Q2,not_or]at g;exact⟨f.1,i _ _ _ (λj=>g.1 j.symm) f.2.1,n_.off f.2.2 i g.2⟩
def n_.aI[BEq κ][LawfulBEq κ]{a:κ}{b:β}{c:γ}(g:R' a b c):∀{d:List (κ×β)} {h:List (κ×γ)},n_ R d h->(∀i b c,i≠a->R i b c->R' i b c)->Tidy d->n_ R' (ar.aI d a b) (ar.aI h a c)
 |[],[],_,_,_=>⟨rfl,g,trivial⟩
 |(k,q)::d,(r,s)::h,m,j,e=>by
  obtain⟨rfl,n,l⟩:=m;unfold Tidy at e;simp only[QY,List.nodup_cons]at e;unfold ar.aI
  by_cases f:a==k
  ·simp only[f,if_true]
   obtain rfl:a=k:=by simpa using f
   refine⟨rfl,g,?_⟩;have o:a∉d.map (·.1):=e.1;exact n_.off l j o
  ·simp only[f]
   exact⟨rfl,j _ _ _ (λp=>f (by simp[p])) n,n_.aI g l j e.2⟩
end
def ve{d:Type}(f:World)(g:Nat)(b:d->Value)(h:d)(i:Int):Prop:=
 ∃(e:Array MapEntry) (a j:Nat) (c:MapEntry),f.heap[g]? =some (.map e a)/\e[j]? =some c/\c.key=b h/\(c.born:Int)=i
variable{e:Int}{a:Nat}{j:Type}{v:Value}{p u:Value->World->Prop}{b l:World}{y:World->Prop}
def ve.af{S:Nat->Prop}{d:j->Value}{f:j}(g:ve b a d f e)(h:ak S b l)(i:¬S a):ve l a d f e:=by
 obtain⟨k,c,m,n,o,p⟩:=g;exact⟨k,c,m,n,h.get o i,p⟩
section
variable {κ:Type} [BEq κ] [LawfulBEq κ] {P:Program} {t kt vt:TypeId} {z:Value} {enc:κ->Value}
def DO{κ e:Type}[BEq κ][LawfulBEq κ]{b:κ}{f:e}:∀{c:List (κ×e)},aE c b=some f->aI c b f=c
 |(g,h)::c,a=>by
  unfold aE at a;unfold aI
  by_cases d:b==g
  ·rw[if_pos d]at a⊢
   obtain rfl:b=g:=by simpa using d
   cases a;rfl
  ·rw[if_neg d]at a⊢
   rw[DO a]
def FO(w:lx P t kt vt z)(n:im P kt enc){e:List (κ×Value)}(x:bD b a enc e){k:κ}(o:∀w' C,bD w' a enc (aI e k ((aE e k).getD z))->ve w' a enc k C->ak (·=a) b w'->w'.heap.size=b.heap.size->p (.tuple #[(aE e k).getD z,XH C]) w'):aG P (Instr.mapEntry t (.map (some a)) (enc k)) b p u:=by
 obtain⟨d,c,j,l,y,E⟩:=x.at';have q:=jf n k d.toList e l b;have I:d.toList.length=e.length:=by have:=congrArg List.length l;simpa using this
 have r:=ax j;have h:=wV e k 0
 cases s:lX e k 0 with
 |none=>
  rw[s]at q h;have v:aE e k=none:=h.symm;rw[v]at o;have J:=w.LV b;refine aG.mk (w':={b with heap:=b.heap.setIfInBounds a (.map (d.push {key:=enc k,val:=z,born:=c}) (c+1))}) ?_ (o _ c ⟨⟨_,_,cB b a _ r,?_,?_,?_⟩,x.tidy.aI k z⟩ ⟨_,_,d.size,{key:=enc k,val:=z,born:=c},cB b a _ r,sM,rfl,rfl⟩ (ak.setObj b a _) sM)
  ·simp[Instr.mapEntry,run_underlying w.under,c_ j,df n,q,dL j,J,goInt]
  ·rw[Option.getD_none,(qW s).1 z];simp[l]
  ·intro g i
   simp only[Array.toList_push,Q6,List.mem_singleton]at i;rcases i with i|rfl
   ·have:=y g i;omega
   ·show c<c+1;omega
  ·simp only[Array.toList_push,Q3,QY,List.map_nil]
   rw[List.nodup_append];refine⟨E,sM,?_⟩;intro K h L A T;simp only[List.mem_singleton]at A;obtain⟨g,i,rfl⟩:=Xk.1 h;have:=y g i;omega
 |some M=>
  obtain⟨f,F⟩:=M;rw[s]at q h;have v:aE e k=some F:=h.symm;obtain⟨_,N,H,O⟩:=mY s;rw[Nat.sub_zero]at N H O;have B:f<d.size:=by
                 have:d.size=e.length:=by simpa using I
                 omega
  have m:d[f].key=enc k:=by
   have:=congrArg (·[f]?) l;simp only[Q9,H,Option.map_some]at this;simp[B]at this;exact this.1
  have Q:(d.modify f λg=>{g with key:=enc k})=d:=by
   apply Array.ext
   ·simp
   ·intro U V W
    rw[Array.getElem_modify];split
    ·rename_i g;subst g
     cases R:d[f]with
     |mk K L p=>rw[R]at m;simp at m;simp[m]
    ·rfl
  rw[v]at o;refine aG.mk (w':={b with heap:=b.heap.setIfInBounds a (.map d c)}) ?_ (o _ (d[f].born) ⟨⟨_,_,cB b a _ r,?_,y,E⟩,x.tidy.aI k F⟩ ⟨_,_,f,d[f],cB b a _ r,by simp[B],m,rfl⟩ (ak.setObj b a _) sM)
  ·have S:(Instr.keyThatStays (enc k) (enc k)).run P b= .ok (enc k) b:=by simp[Instr.keyThatStays,n.same]
   simp[Instr.mapEntry,run_underlying w.under,c_ j,df n,q,B,m,S,dL j,Q,goInt]
  ·rw[Option.getD_some,DO v];exact l
def Bo(J:im P kt enc){d:List (κ×Value)}(s:bD b a enc d){i:κ}(K:ve b a enc i e)(L:∀n,bD n a enc (aI d i v)->ak (·=a) b n->n.heap.size=b.heap.size->y n):iX P (Instr.entryStore t (.map (some a)) (XH e) v) b y p:=by
 obtain⟨g,l,o,u,M,z⟩:=s.at';obtain⟨N,q,c,j,m,O,A,Q⟩:=K;rw[o]at m;cases m
 subst Q;have R:g.toList.length=d.length:=by have:=congrArg List.length u;simpa using this
 have S:=ax o;obtain⟨r,rfl⟩:=Q5.1 O;have w:c<d.length:=by
                have:g.size=d.length:=by simpa using R
                omega
 have B:d[c]? =some (i,g[c].val):=by
  have:=congrArg (·[c]?) u;simp only[Q9,Qq w,Option.map_some]at this;simp[r]at this;have T:d[c].1=i:=J.inj (by rw[<-this.1,A]);rw[Qq w]
  congr 1
  exact Prod.ext T this.2.symm
 have U:aI d i v=d.set c (i,v):=by
  cases C:lX d i 0 with
  |none=>
   have E:=wV d i 0;rw[C]at E;have:=jP.1 E.symm;exact absurd (Xk.2 ⟨_,QZ B,rfl⟩) this
  |some V=>
   obtain⟨h,a2⟩:=V;obtain⟨_,f,F,H⟩:=mY C;rw[Nat.sub_zero]at f F H;have k:h=c:=by
    have W:(d.map (·.1))[h]? =some i:=by rw[Q9,F];rfl
    have X:(d.map (·.1))[c]? =some i:=by rw[Q9,B];rfl
    obtain⟨Y,Z⟩:=Qv.1 W;obtain⟨q3,q4⟩:=Qv.1 X;exact(List.getElem_inj (xs:=d.map (λe=>e.1)) (h₀:=Y) (h₁:=q3) (show(d.map (λe=>e.1)).Nodup from s.tidy)).1 (Z.trans q4.symm)
   rw[(H v).1,k]
 have a0:g.findIdx? (λj=>(j.born:Int)==(g[c].born:Int))=some c:=by
  rw[Array.findIdx?_eq_some_iff_getElem];refine⟨r,sM,λh f=>?_⟩;have a1:h<g.size:=oM
  have a3:g[h].born≠g[c].born:=λj=>by
   have:=(List.getElem_inj (xs:=g.toList.map (·.born)) (h₀:=by simpa using a1) (h₁:=by simpa using r) z).1 (by simpa using j);omega
  simp;omega
 refine iX.mk (w':={b with heap:=b.heap.setIfInBounds a (.map (g.modify c λj=>{j with val:=v}) l)}) ?_ (L _ ⟨⟨_,_,cB b a _ S,?_,?_,?_⟩,s.tidy.aI i v⟩ (ak.setObj b a _) sM)
 ·simp[Instr.entryStore,c_ o,asInt,asIntOf,a0,dL o]
 ·rw[U]
  apply X3;intro h;have f:=congrArg (·[h]?) u;simp only[Q9]at f;simp only[Array.toList_modify,Q9,Xj,List.getElem?_modify]
  by_cases k:c=h
  ·subst k
   simp[r,w,A]
  ·simp only[k,if_false,Option.map_map]at f⊢
   simpa using f
 ·intro j I
  rw[Array.toList_modify]at I;obtain⟨h,f⟩:=List.getElem?_of_mem I;rw[List.getElem?_modify]at f
  cases x:g.toList[h]? with
  |none=>rw[x]at f;simp at f
  |some e'=>
   rw[x]at f;have hm:=QZ x;have:=M e' hm
   by_cases k:c=h
   ·simp[k]at f;subst f;exact this
   ·simp[k]at f;subst f;exact this
 ·have:(g.modify c λj=>{j with val:=v}).toList.map (·.born)=g.toList.map (·.born):=by
   apply X3;intro h;simp only[Array.toList_modify,Q9,List.getElem?_modify,Option.map_map]
   by_cases k:c=h<;>simp[k]<;>rfl
  rw[this];exact z
end
end Go.ar
namespace Go.Proofs.YtjgjkeponbeekaaGreatDoor
open Go.ar
def vB{g:Type}{e:g->Int}:∀{f:List g},cj e f=0->∀c∈f,e c=0
 |[],_,c,b=>by cases b
 |y::f,a,c,b=>by
  unfold cj at a
  by_cases d:e y=0
  ·rw[d]at a
   simp only[bne_self_eq_false,Bool.false_eq_true,if_false]at a;rcases Q2.1 b with rfl|b
   ·exact d
   ·exact vB a c b
  ·rw[if_pos (by simpa using d)]at a
   exact absurd a d
variable{I:Bool}{s:Ending->World->Prop}{e m:Int}{d6:Int×Int}{K:List aj}{c7:List bf}{a9:List cD}{a c i k:Nat}{d r:Option Addr}{g:TypeId}{v:Value}{b:World}{P:aM}{d3:aU}{o:aj}{c6:bf}{d8:iP}
def mh(a:cN P=0):qF P=false/\(∀b∈P.types,∀e∈b,eU b e=0)/\∀f∈P.projs,lv P f=0:=by
 unfold cN at a;split at a
 ·simp at a
 ·rename_i g
  simp only at a;split at a
  ·rename_i c
   exact absurd a (by simpa using c)
  ·rename_i c
   refine⟨by simpa using g,λb h=>?_,vB a⟩;have d:cj (λb=>cj (eU b) b) P.types=0:=by simpa using c
   exact vB (vB d b h)
def zt(a:qF P=false):1<=P.types.length/\P.types.length<=8/\P.projs.length<=8/\∀b∈P.types,1<=b.length/\b.length<=8:=by
 unfold qF at a;split at a
 ·cases a
 ·rename_i c
  simp only[Bool.or_eq_true,Bool.not_eq_true',decide_eq_true_eq,not_or,Bool.not_eq_false,Nat.not_lt]at c;obtain⟨c,d⟩:=c;rw[br]at c;refine⟨oM,oM,d,λb e=>?_⟩;rw[List.any_eq_false]at a;have:=a b e;simp only[Bool.or_eq_true,Bool.not_eq_true',not_or,Bool.not_eq_false]at this;have:=br.1 this.1;omega
def SL(a:eU c7 c6=0):∀b∈c6.bq,b.kD<(c7.length:Int):=by
 intro b d;unfold eU at a;split at a
 ·simp at a
 split at a
 ·simp at a
 split at a
 ·simp at a
 split at a
 ·simp at a
 ·rename_i c
  rw[Bool.not_eq_true,List.any_eq_false]at c;have:=c b d
  by_cases e:b.kD= -1
  ·omega
  ·have:Rf c7 b.kD 1=true:=by
    simpa[e]using this
   unfold Rf at this;simp only[QK]at this;have:=br.1 this.1;omega
def vw(a:P.CI e m=some c6):0<=e/\e<(P.types.length:Int)/\P.at e=P.types.getD e.toNat []/\0<=m/\m<((P.at e).length:Int)/\(P.at e).getD m.toNat ⟨0,0,false,[]⟩=c6/\c6∈P.at e:=by
 unfold aM.CI at a;split at a
 ·rename_i b
  simp only[QK,br]at b;refine⟨b.1.1,oM,?_,b.2.1,oM,by rw[QQ,a];rfl,QZ a⟩;unfold aM.at;rw[if_pos (br.2 b.1)]
 ·cases a
def at_mem(b:0<=e)(c:e<(P.types.length:Int)):P.at e∈P.types:=by
 unfold aM.at;rw[if_pos (br.2 ⟨b,oM⟩)];have a:e.toNat<P.types.length:=oM
 have:P.types.getD e.toNat []=P.types[e.toNat]:=by simp[QQ,a]
 rw[this];exact XY a
def Mh(o:cN P=0){b d g arg:Int}(a:ks P b d g arg=0)(p:a9.length=(P.at b).length):
  GQ (P.at b) a9 d g arg/\0<=b/\b<(P.types.length:Int)/\(P.at b).length<=8:=by
 obtain⟨q,r,z⟩:=mh o;obtain⟨A,B,C,s⟩:=zt q;unfold ks at a
 cases e:P.CI b d with
 |none=>rw[e]at a;simp at a
 |some c=>
  rw[e]at a;simp only at a;obtain⟨h,i,E,t,u,v,w⟩:=vw e;split at a
  ·simp at a
  ·rename_i j
   split at a
   ·simp at a
   ·rename_i k
    simp only[Bool.or_eq_true,Bool.not_eq_true',not_or,Bool.not_eq_false]at j k;have l:=br.1 j.1;have m:=at_mem h i;refine⟨⟨t,u,p,l.1,l.2,λx=>?_⟩,h,i,(s _ m).2⟩;rw[v];have y:=SL (r _ m c w);have f:within arg 0 (c.bq.length-1)=true:=by
     have:=k.2;simp only[QK,beq_iff_eq,Bool.not_eq_true',not_and,Bool.not_eq_false]at this;exact this x
    have f:=br.1 f;have n:arg.toNat<c.bq.length:=oM
    refine⟨f.1,oM,?_⟩;have:c.bq.getD arg.toNat ⟨0,0,0,0⟩=c.bq[arg.toNat]:=by simp[QQ,n]
    rw[this];exact y _ (XY n)
structure aU.OK (V:aU):Prop where
 decl:cN V.decl=0
 st:∀x∈V.dP,x.2.cells.length=(V.decl.at x.1.1).length
def Mi(b:List bf)(a:List cD)(c d arg:Int):(Rr b a c d arg).length=a.length:=by
 unfold Rr
 simp only;split
 ·simp
 split
 ·simp
 split
 ·simp
 split
 ·simp
 split
 ·simp
 ·rfl
def aU.cellsOf(b:aU)(a:aj):List cD:=match aE b.dP (a.aS,a.agg)with
 |some c=>c.cells
 |none=>du (b.decl.at a.aS)
def aU.OK.len(b:d3.OK)(a:aj):(d3.cellsOf a).length=(d3.decl.at a.aS).length:=by
 unfold aU.cellsOf
 cases c:aE d3.dP (a.aS,a.agg)with
 |none=>simp[du]
 |some d=>exact b.st _ (bS c)
def aU.qZ(b:aU)(a:aj):b.try a=if ks b.decl a.aS a.field a.op a.arg≠0 then(true,(0,0),b)else
  match((aE b.done (a.aS,a.agg,a.field)).getD []).find? λc=>lN ((b.decl.at a.aS).getD a.field.toNat ⟨0,0,false,[]⟩) c a with
  |some c=>(true,aW c,b)
  |none=>if vJ (b.decl.at a.aS) (b.cellsOf a) a.field a.op a.arg≠0 then(true,(0,0),b)else
   (false,(0,0),{b with dP:=aI b.dP (a.aS,a.agg) ⟨oD (((aE b.dP (a.aS,a.agg)).getD ⟨0,[]⟩).version+1),Rr (b.decl.at a.aS) (b.cellsOf a) a.field a.op a.arg⟩,done:=aI b.done (a.aS,a.agg,a.field) ((aE b.done (a.aS,a.agg,a.field)).getD []++[a])}):=rfl
def aU.Rb(a:d3.OK)(c:aj):(d3.try c).2.2.OK/\(d3.try c).2.2.decl=d3.decl:=by
 rw[aU.qZ];split
 ·exact⟨a,rfl⟩
 split
 ·exact⟨a,rfl⟩
 split
 ·exact⟨a,rfl⟩
 ·refine⟨⟨a.decl,λd b=>?_⟩,rfl⟩
  rcases eM b with rfl|b
  ·show(Rr _ _ _ _ _).length=_
   rw[Mi,a.len]
  ·exact a.st d b
def aU.zy(c:d3.OK)(a:aj):(d3.add a).2.OK/\(d3.add a).2.decl=d3.decl:=by
 obtain⟨b,d⟩:=aU.Rb c a;exact⟨⟨b.decl,b.st⟩,d⟩
def aU.sF(a:cN P=0):(aU.new P).OK:=⟨a,λc b=>by cases b⟩
def Lh:ef cy Int where
 k:=13
 ci:=aJ
 ib:=8
 inner:=(·.ev.aP)
 hd:=λa b c d=>aC a.ev b c d++[.bool a.void,XH a.Ek.1,XH a.Ek.2]
 ok:=λa=>a.ev.Ok
 hl:=λ_ _ _ _=>rfl
 h1:=λa b c d f e=>by
  simp only[aC,List.cons_append,List.nil_append,Q2,List.not_mem_nil,or_false]at e;rcases e with rfl|rfl|rfl|rfl|rfl|rfl|rfl|rfl|rfl|rfl|rfl|rfl|rfl<;>rfl
 o:=3
 ho:=dC
 eX:=λ_ _ _ _ _ _ _=>rfl
abbrev vF:jo cy:=Lh.Mw
abbrev gG(a:cy)(b:Option Addr)(c d:Nat):List Value:=aC a.ev b c d++[.bool a.void,XH a.Ek.1,XH a.Ek.2]
def QP:jC XP 50 133 13 120:=⟨kR,kR,dC⟩
def kW(a:cy)(b:Option Addr)(c d:Nat):gH XP 133 (gG a b c d)=true:=kR
def Ol(a:cy)(b:Option Addr)(c d:Nat):RY (cJ XP 133) (.agg (gG a b c d).toArray)=true:=kR
def QT:IZ XP 305 3:=⟨kR,kR,⟨"typ", "no",kR,dC,dC⟩,kR,kR,kR⟩
def SI:vA XP 350 305 3:=⟨QT,kR,⟨"agg", "field",kR,dC,dC⟩,kR,kR,kR⟩
def Uv:im XP 305 oy:=QT.key
def WQ:im XP 350 BT:=SI.key
def WR:lx XP 263 305 49 (.agg #[XH 0,.slice none 0 0]):=⟨kR,kR⟩
def WZ:lx XP 264 350 59 (.slice none 0 0):=⟨kR,kR⟩
inductive IM where
 |self|st|dn|NZ|QU|VC
 |done (k:Int×Int×Int)
structure Eh where
 ta:Option Addr
 tn:Nat
 tc:Nat
 pa:Option Addr
 pn:Nat
 pc:Nat
 ea:Option Addr
 en:Nat
 ec:Nat
 r1:Nat
 r2:Nat
 l1:List ((Int×Int)×Value)
 l2:List ((Int×Int×Int)×Value)
 cls:Nat->IM
abbrev Eh.P7(b:Eh)(c:Nat->Prop)(d:IM):Nat->Prop:=λa=>c a/\b.cls a=d
def VM(d:World)(D:Nat->Prop)(e:Value)(a:lS):Prop:=∃b c f,e= .agg #[XH a.version,.slice b c f]/\Row ei 32 d D b c a.cells
def VN(d:World)(D:Nat->Prop)(e:Value)(f:List aj):Prop:=∃a b c,e= .slice a b c/\aO jj 63 D d a b c f
structure xW (w:World) (p:Nat) (F:Nat->Prop) (V:aU) (q:Eh):Prop where
 at':w.heap[p]? =some (.cells #[.slice q.ta q.tn q.tc,.slice q.pa q.pn q.pc,.slice q.ea q.en q.ec,.map (some q.r1),.map (some q.r2)] 266 (0,0))
 QU:bb w (q.P7 F .QU) V.decl q.ta q.tn q.pa q.pn
 NZ:aO vF 133 (q.P7 F .NZ) w q.ea q.en q.ec V.entries
 st:bD w q.r1 oy q.l1
 VD:eT (VM w (q.P7 F .VC)) q.l1 V.dP
 dn:bD w q.r2 BT q.l2
 VO:n_ (λk=>VN w (q.P7 F (.done k))) q.l2 V.done
 aB:∀b,F b->b<w.heap.size
 lp:F p/\q.cls p= .self
 l1:F q.r1/\q.cls q.r1= .st
 l2:F q.r2/\q.cls q.r2= .dn
def b_(b:World)(c:Nat)(d:Nat->Prop)(a:aU):Prop:=a.OK/\∃e,xW b c d a e
section
variable {w w':World} {p:Nat} {F T D:Nat->Prop} {V:aU} {q:Eh}
def VM.af{a:lS}(c:VM w D v a)(d:ak T w w')(e:∀b,D b->¬T b):VM w' D v a:=by
 obtain⟨f,g,h,i,j⟩:=c;exact⟨f,g,h,i,j.af d e⟩
def VN.af(b:VN w D v K)(c:ak T w w')(d:∀a,D a->¬T a):VN w' D v K:=by
 obtain⟨e,f,g,h,i⟩:=b;exact⟨e,f,g,h,i.af c d⟩
def xW.af(a:xW w p F V q)(d:ak T w w')(e:∀b,F b->¬T b):xW w' p F V q:=
 ⟨d.get a.at' (e _ a.lp.1),a.QU.af d λb c=>e b c.1,a.NZ.af d λb c=>e b c.1,a.st.af d (e _ a.l1.1),a.VD.mono λg h f=>f.af d λb c=>e b c.1,
  a.dn.af d (e _ a.l2.1),a.VO.mono λi g h f=>f.af d λb c=>e b c.1,λb c=>Qk (a.aB b c) d.size,a.lp,a.l1,a.l2⟩
def xW.ah(a:xW w p F V q)(b:ai w w'):xW w' p F V q:=a.af b λ_ _ a=>a
def b_.af(a:b_ w p F V)(c:ak T w w')(d:∀b,F b->¬T b):b_ w' p F V:=⟨a.1,a.2.imp λq e=>e.af c d⟩
def b_.ah(a:b_ w p F V)(b:ai w w'):b_ w' p F V:=a.af b λ_ _ a=>a
def b_.aB(b:b_ w p F V):∀a,F a->a<w.heap.size:=b.2.elim λq c=>c.aB
def b_.self(a:b_ w p F V):F p:=a.2.elim λq b=>b.lp.1
def GC{tn v n x:Nat}(y:cN P=0)(z:bb w D P d tn r n)(A:∀a,D a->a<w.heap.size):
  Calls XP 105 #[.agg #[.slice d tn v,.slice r n x]] w (Ok λB w'=>∃p F,B= ZQ p/\b_ w' p F (aU.new P)/\(∀a,F a->w.heap.size<=a)/\ai w w'):=by
 refine JS (PA.mk λK o L q=>⟨_,_,_,_,_,_,ae q rfl,ae q rfl,PC.ok (Cy (z.ah o) λa b=>by have:=A a b;omega) ?_⟩);rintro _ f ⟨h,Ps,i,j,k,l,G,rfl,C,E,s⟩;refine⟨_,_,_,_,_,_,rfl,PA.mk λc t M H=>PA.mk λe m N I=>PA.mk λu g O J=>Ok.mk ⟨e.heap.size,λa=>w.heap.size<=a/\a<u.heap.size,rfl,⟨aU.sF y,
  ⟨⟨h,Ps,i,j,k,l,none,0,0,f.heap.size,c.heap.size,[],[],λa=>if a=e.heap.size then .self else if a=f.heap.size then .st else if a=c.heap.size then .dn else .QU⟩,?_⟩⟩,λa b=>b.1,((o.then s).then t).then (m.then g)⟩⟩
 have Q:=s.size;refine⟨J,?_,?_,bD.new (g.get (m.get H id) id),trivial,bD.new (g.get I id),trivial,λa b=>b.2,⟨⟨by show w.heap.size<=e.heap.size;omega,by show e.heap.size<_;omega⟩,if_pos rfl⟩,⟨⟨by show w.heap.size<=f.heap.size;omega,by show f.heap.size<_;omega⟩,?_⟩,⟨⟨by show w.heap.size<=c.heap.size;omega,by show c.heap.size<_;omega⟩,?_⟩⟩
 ·refine(((C.ah t).ah m).ah g).mono λa b=>?_
  have:=E a b;refine⟨⟨oM,oM⟩,?_⟩;show(if a=e.heap.size then _ else _)=_;rw[if_neg oM,if_neg oM,if_neg oM]
 ·exact(aO.nil u).mono (λa b=>b.elim) λa b=>b.1.2
 ·show(if f.heap.size=e.heap.size then _ else _)=_
  rw[if_neg oM,if_pos rfl]
 ·show(if c.heap.size=e.heap.size then IM.self else if c.heap.size=f.heap.size then IM.st else if c.heap.size=c.heap.size then IM.dn else IM.QU)=IM.dn
  rw[if_neg oM,if_neg oM,if_pos rfl]
abbrev Gs:lS:=⟨0,[]⟩
def nh(k:b_ w p F V):
  Calls XP 127 #[ZQ p,XH e,XH m] w (Ok λs w'=>∃c d f G,s= .tuple #[.agg #[XH ((V.state e m).getD Gs).version,.slice c d f],.bool (V.state e m).isSome]/\aO ei 78 G w' c d f ((V.state e m).getD Gs).cells/\(∀a,G a->w.heap.size<=a)/\ai w w'):=by
 obtain⟨T,q,k⟩:=k;refine ua (PA.mk λt u U A=>?_);have j:=k.ah u;refine⟨p,0,rfl,_,ae j.at' rfl,iH (enc:=oy) (k:=(e,m)) WR Uv j.st ?_⟩;obtain⟨i,a,c,d,f,g,h,B,C,l⟩:∃(i:lS) (a:Bool) (c:Option Addr) (d f:Nat),(aE q.l1 (e,m)).getD (.agg #[XH 0,.slice none 0 0])= .agg #[XH i.version,.slice c d f]/\(aE q.l1 (e,m)).isSome=a/\(V.state e m).getD Gs=i/\(V.state e m).isSome=a/\Row ei 32 t (q.P7 F .VC) c d i.cells:=by
  unfold aU.state;rcases j.VD.aE (e,m)with⟨g,h⟩|⟨s,i,g,h,c,d,f,rfl,l⟩
  ·exact⟨Gs,false,none,0,0,by rw[g];rfl,by rw[g];rfl,by rw[h];rfl,by rw[h];rfl,Row.nil _ _⟩
  ·exact⟨i,true,c,d,f,by rw[g];rfl,by rw[g];rfl,by rw[h];rfl,by rw[h];rfl,l⟩
 rw[g,h,B,C];refine⟨_,_,_,_,_,rfl,PA.mk λW E X H=>PS.mk H sM λY I Z J=>PS.mk J sM λK L s7 v=>?_⟩;have n:ai t K:=(E.new I λa b=>.inr oM).new L λa b=>.inr oM;refine⟨_,_,_,_,ae v rfl,ae v rfl,PC.ok (Kk (l.ah n) λa b=>by have:=j.aB a b.1;omega) ?_⟩;rintro _ w8 ⟨M,N,O,G,rfl,P,o,r⟩;have Q:=r.get (n.get A id) id;have z8:=r.size;refine⟨_,_,_,_,rfl,PS.mk Q sM λw9 x s9 R=>PS.mk R sM λa0 y a1 z=>⟨_,_,_,_,ae z rfl,ae z rfl,Ok.mk ⟨M,N,O,G,rfl,?_,?_,?_⟩⟩⟩
 ·exact(P.af x λa b S=>by have:=o a b;omega).af y λa b S=>by have:=o a b;omega
 ·intro a b;have:=o a b;omega
 ·exact(((u.then n).then r).new x λa b=>.inr oM).new y λa b=>.inr oM
end
def yF:ft:=⟨[],[(5,[])],[],[],[(3,⟨[0,1,2,4,12,16,48,80,144,16,528,1296,2064,4112,8208,16400,32768,98304,163840,262144,786432,1310720,2392064,4227072],[16777215,16777214,16777213,16777211,16777207,16777199,16777167,16777135,16777071,16777199,16776687,16775919,16775151,16773103,16769007,16760831,16744447,16678911,16613375,16515071,15990783,15466495,14385151,12550143],[0,1,2,0,0,0,1,0,1,0,1,0,0,0,0,0,0,1,0,0,1,0,0,0]⟩)]⟩
def yG(y:PA b (.cells #[.slice d a c] 118) λg=>PA g (.cells #[.ii e,.ii m,.bool I,.slice r i k] 121) λp=>(rI p (ab_ g 0) λz=>PC_ 97 #[.ii z,.ii 1,.ii 4] p (kB λA q=>al (!A) (rt s ((.ii 2)) q) ((∃h:World->Prop,((∀j,bd q j->(rI j (ab_ g (0+1)) λB=>PC_ 97 #[.ii B,.ii 1,.ii 3] j (kB λC f=>al (!C) (rt s ((.ii 1)) f) ((rI f (ab_ g 0) λl=>(∃t u,((some (ad 0 0)):Option Addr)=some ⟨t,u,none⟩/\(0:Int)<=l/\l<(5:Int)/\(rI f (ad t (u+Int.toNat l)) λE=>(rI f (ab_ g (0+1)) λD=>(∃v,(∀w,(eq_ .shr 3 (.tmp 19) (.tmp 21) (.ii E) (.ii D)).run XP w= .ok (.ii v) w)/\al (((Ai .i64 v 1):Int)==0) (rt s ((.ii 1)) f) ((rB f (ab_ g (0+2)) λF=>al F ((rI f (ab_ g 0) λH=>al (H !=1) (rt s ((.ii 1)) f) (h f))) (h f)))))))))) (pZ s))))/\∀(Q:Nat->Value) (n:World),h n->(rS n (ab_ g (0+3)) λG J K=>PC_ 101 #[.slice G J K,.func (.func 98) #[] #[]] n (kB λL o=>al L (rt s ((.ii 1)) o) ((rS o (ab_ g (0+3)) λM N O=>PC_ 101 #[.slice M N O,.func (.func 99) #[] #[.pointer (some (ab_ b 0))]] o (kB λP x=>al P (rt s ((.ii 8)) x) (rt s ((.ii 0)) x)) (pE s)))) (pE s))))) (pE s))):Calls XP 67 #[.agg #[.slice d a c],.agg #[.ii e,.ii m,.bool I,.slice r i k]] b s:=DC yF Tryz.func67 rfl y
section
variable {w w':World} {D D' S:Nat->Prop} {d:aM} {ta pa:Option Addr} {tn tc pn pc:Nat}
def xo{b c op arg:Int}(S:eA w)(l:bb w D d ta tn pa pn)(T:∀h,D h->h<w.heap.size):
  Calls XP 201 #[.agg #[.slice ta tn tc,.slice pa pn pc],XH b,XH c,XH op,XH arg] w (Ok λg w'=>g= XH (ks d b c op arg)/\ai w w'):=by
 refine Co (PA.mk λw1 C s1 E=>⟨_,_,_,_,_,_,ae E rfl,ae E rfl,PC.ok (og (l.ah C) λh t=>by have:=T h t;omega) ?_⟩);rintro g w2 ⟨U,q⟩;have r:=C.then U
 cases m:d.CI b c with
 |none=>
  rw[m]at q;refine bN (Ii Vs none 0 0) ⟨_,q,PA.mk λV u W v=>az (fM _ _ _ _) v rfl λX x Y F=>al.tt rfl (Ok.mk ⟨?_,(r.then u).new x λh t=>.inr (by have:=r.size;omega)⟩)⟩;unfold ks;rw[m]
 |some i=>
  rw[m]at q;obtain⟨s,j,H,a5,rfl,Z,hF⟩:=q;have y:ks d b c op arg=if !within op 1 5||qt op !=i.kind then 2 else if op==1&&arg==0||op==5&& !within arg 0 (i.bq.length-1)then 1 else 0:=by unfold ks;rw[m]
  have hz:=r.size;refine bN (Ii i s j H) ⟨_,rfl,PA.mk λV u W v=>az (fM i s j H) v rfl λX x Y F=>al.ff rfl λz I=>PC.ok bU ?_⟩;rintro _ _ ⟨rfl,rfl⟩;have J:=(bd.af (S:=λ_=>False) I).get F id;have K:ai w z:=((r.then u).new x λh t=>.inr oM).then I.af;have a:∀A:Int,ks d b c op arg=A->Ok (λg w'=>g= XH (ks d b c op arg)/\ai w w') (.returned (XH A)) z:=λA l=>Ok.mk ⟨by rw[l],K⟩;refine⟨_,rfl,al.not (al.mk (λf=>?_) (λf=>a 2 (by rw[y,f];rfl)))⟩;have a6:=br.1 f;refine⟨1,0,rfl,oM,oM,qt op,?_,_,ae J rfl,al.dB (λa0=>a 2 ?_) (λhe=>?_)⟩
  ·have:=(S.ah K).kinds op.toNat oM
   rw[Xz,this,Int.toNat_of_nonneg oM]
  ·rw[y,f,if_pos (by simpa using a0)]
  have n:ks d b c op arg=if op==1&&arg==0||op==5&& !within arg 0 (i.bq.length-1)then 1 else 0:=by rw[y,f,he];simp
  have hn:j=i.bq.length:=Z.len dC;have a7:j<=140737488355328:=by
   obtain⟨a1,Ps,L,-⟩:∃(s:Option Addr) (j:Nat),Row ix 32 w D s j i.bq/\True:=by
    obtain⟨k,o,a8,a3,a9,B,h3,h4⟩:=aM.vw m;have b0:=l.aS.len;obtain⟨h,a2,T',es,rfl,_,_,p,M,b1,n1,c1,rfl,N⟩:=l.aS.at (i:=b) k oM;rw[a3]at p;cases p
    have b2:=N.len;obtain⟨b3,b4,x',b5,rfl,_,_,O,b6,b7,n2,c2,rfl,hM,_⟩:=N.at (i:=c) B oM;rw[h4]at O;cases O
    exact⟨_,_,hM,trivial⟩
   have o:=L.len;have B:=L.dN;unfold aK at B;omega
  have bq:∀{P:List PanicEntry->World->Prop},op=5->PC XP 97 #[XH arg,XH 0,XH (IntKind.wrap .i64 ((j:Int)-1))] z (λa4 Q=>∃R:Bool,a4= .bool R/\al (!R) (Ok (λg w'=>g= XH (ks d b c op arg)/\ai w w') (.returned (XH 1)) Q) (Ok (λg w'=>g= XH (ks d b c op arg)/\ai w w') (.returned (XH 0)) Q)) P:=by
   intro P e;refine PC.ok bU ?_;rintro _ _ ⟨rfl,rfl⟩;rw[wrap_i64 (by unfold aH;omega),hn];refine⟨_,rfl,al.not (al.mk (λf=>a 0 ?_) (λf=>a 1 ?_))⟩
   ·rw[n,f,e];rfl
   ·rw[n,f,e];rfl
  refine al.dA (λo=>al.dA (λk=>al.dA (λ_=>a 1 (by rw[n,o,k];rfl)) (λM=>absurd k M)) (λk=>al.dA (λe=>absurd e oM) (λe=>a 0 ?_))) (λo=>al.dA (λe=>⟨_,_,_,ae J rfl,bq e⟩) (λe=>a 0 ?_))
  ·rw[n,if_neg (by simp[k,e])]
  ·rw[n,if_neg (by simp[o,e])]
def Eb{h:Option Addr}(d:Row rk 48 w D h a c7):
  Calls XP 100 #[.agg #[.slice h a c],XH e,XH m] w (Ok λk w'=>k= .bool (Rf c7 e m)/\ai w w'):=by
 have i:=d.len;have l:=d.dN;unfold aK at l;refine Hn (PA.mk λq f r j=>⟨_,_,_,ae j rfl,PC.ok bU ?_⟩);rintro _ _ ⟨rfl,rfl⟩;rw[wrap_i64 (by unfold aH;omega)];refine⟨_,rfl,al.mk (λb=>?_) (λb=>Ok.mk ⟨?_,f⟩)⟩
 ·have s:=br.1 b
  obtain⟨n,g,t,u,rfl,_,_,o,p,v,x,y,rfl,_⟩:=(d.ah f).at (i:=e) oM oM;refine⟨_,_,_,ae j rfl,n,g,rfl,oM,oM,_,p 0 dC,Ok.mk ⟨?_,f⟩⟩;unfold Rf;rw[<-i,b,o];rfl
 ·unfold Rf;rw[<-i,b];rfl
def Ss(b:1<=e/\e<=4)(c:1<=m/\m<=3):∃a:Int,(∀w',(do eqGuard .shr 3 (.tmp 19) (.tmp 21) (XH (([0,2,14,6,6]:List Int).getD e.toNat 0)) (XH m);binOp .shr 3 (XH (([0,2,14,6,6]:List Int).getD e.toNat 0)) (XH m):Sem Value).run XP w'= .ok (XH a) w')/\((Ai .i64 a 1==0)= !Ud e m):=by
 refine⟨(([0,2,14,6,6]:List Int).getD e.toNat 0).fdiv (2 ^ m.toNat),?_,?_⟩<;>rcases(by omega:e=1\/e=2\/e=3\/e=4)with rfl|rfl|rfl|rfl<;>rcases(by omega:m=1\/m=2\/m=3)with rfl|rfl|rfl<;>first
  |(intro w';kernel_rfl)
  |decide
def KU(m:jE):Bool:=decide (m.bw<0)||decide (m.ng<0)||m.kD== -1&&m.least !=0
def Su{d:jE}:Calls XP 98 (#[]++ #[.agg (nk d).toArray]++ #[]) w (Ok λg w'=>g= .bool (KU d)/\ai w w'):=by
 refine v_ (PA.mk λh b i c=>⟨_,ae c rfl,al.dec (λa=>Ok.mk ⟨by simp[KU,a],b⟩) (λe=>⟨_,ae c rfl,al.dec (λa=>Ok.mk ⟨by simp[KU,a],b⟩) (λf=>⟨_,ae c rfl,al.dA (λa=>⟨_,ae c rfl,Ok.mk ⟨by simp[KU,e,f,a],b⟩⟩) (λa=>Ok.mk ⟨by simp[KU,e,f,a],b⟩)⟩)⟩)⟩)
def Iy(b:List bf)(a:jE):Bool:=a.kD != -1&& !Rf b a.kD 1
def Sv{d:jE}{f:Option Addr}(j:Row rk 48 w D f c c7)(k:w.heap[a]? =some (.cells #[.slice f c i] g (0,0))):
  Calls XP 99 (#[]++ #[.agg (nk d).toArray]++ #[ZQ a]) w (Ok λl w'=>l= .bool (Iy c7 d)/\ai w w'):=by
 refine wh (PA.mk λn b o h=>⟨_,ae h rfl,al.dB (λe=>⟨_,_,_,ae (b.get k id) rfl,_,ae h rfl,PC.ok (Eb (j.ah b)) ?_⟩) (λe=>Ok.mk ⟨by simp[Iy,e],b⟩)⟩);rintro _ p ⟨rfl,m⟩;exact⟨_,rfl,Ok.mk ⟨by unfold Iy;rw[show(d.kD != -1)=true by simpa using e];simp,b.then m⟩⟩
def Gf{y z:Option Addr}(H:eA w)(I:Row rk 48 w D y a c7)(A:Row ix 32 w D z i c6.bq):
  Calls XP 67 #[.agg #[.slice y a c],.agg (et c6 z i k).toArray] w (Ok λp w'=>p= XH (eU c7 c6)/\ai w w'):=by
 refine yG (PA.mk λU J V K=>PA.mk λq B W r=>⟨_,ae r rfl,PC.ok bU ?_⟩);rintro _ _ ⟨rfl,rfl⟩;have C:=J.then B;refine⟨_,rfl,al.not (al.mk (λg=>?_) (λg=>Ok.mk ⟨by unfold eU;rw[g];rfl,C⟩))⟩;have s:=br.1 g;refine⟨λw'=>ai w w'/\q.heap.size<=w'.heap.size/\ai q w'/\within c6.dI 1 3=true/\Ud c6.kind c6.dI=true/\(c6.floor&&c6.kind !=1)=false,λn E=>?_,?_⟩
 ·have e:=(bd.af (S:=λ_=>False) E).get r id
  have f:ai q n:=E.af;have b:ai w n:=C.then f;have h:eU c7 c6=1->Ok (λp w'=>p= XH (eU c7 c6)/\ai w w') (.returned (XH 1)) n:=λm=>Ok.mk ⟨by rw[m],b⟩;refine⟨_,ae e rfl,PC.ok bU ?_⟩;rintro _ _ ⟨rfl,rfl⟩;refine⟨_,rfl,al.not (al.mk (λd=>?_) (λd=>h (by unfold eU;rw[g,d];rfl)))⟩;have t:=br.1 d;obtain⟨L,M,N⟩:=Ss s t;refine⟨_,ae e rfl,0,0,rfl,oM,oM,_,by rw[Xz];exact(H.ah b).Vt c6.kind.toNat oM,_,ae e rfl,L,M,?_⟩;rw[N];refine al.not (al.mk (λj=>⟨_,ae e rfl,al.mk (λu=>⟨_,ae e rfl,al.dB (λO=>h ?_) (λP=>⟨b,f.size,f,d,j,by simp[P]⟩)⟩) (λu=>⟨b,f.size,f,d,j,by simp[u]⟩)⟩) (λj=>h (by unfold eU;rw[g,d,j];rfl)));unfold eU;rw[g,d,j,u];simp[O]
 ·rintro X n ⟨b,Y,f,d,j,Q⟩
  have e:=f.get r id;have v:eU c7 c6=if c6.bq.any KU then 1 else if c6.bq.any (Iy c7)then 8 else 0:=by
   unfold eU;rw[g,d,j,Q];rfl
  refine⟨_,_,_,ae e rfl,PC.ok (Ix (p:=KU) (A.ah b) kR λR S l=>Su) ?_⟩;rintro _ S ⟨rfl,l⟩;refine⟨_,rfl,al.mk (λm=>Ok.mk ⟨by rw[v,if_pos m],b.then l⟩) (λm=>⟨_,_,_,ae (l.get e id) rfl,PC.ok (Ix (p:=Iy c7) (A.ah (b.then l)) kR λR T o=>Sv (I.ah ((b.then l).then o)) (o.get (l.get (f.get (B.get K id) id) id) id)) ?_⟩)⟩;rintro _ T ⟨rfl,o⟩;have F:=(b.then l).then o;exact⟨_,rfl,al.mk (λx=>Ok.mk ⟨by rw[v,m,x];rfl,F⟩) (λx=>Ok.mk ⟨by rw[v,m,x];rfl,F⟩)⟩
def Uo{a c kind:Int}(e:(d.CI a c).isSome):∃b,d.types[a.toNat]? =some b/\d.at a=b/\0<=a/\a<d.types.length:=by
 obtain⟨k,f⟩:=Option.isSome_iff_exists.1 e;obtain⟨g,h,b,i,j,_⟩:=aM.vw f;exact⟨b,i,j,g,h⟩
def Gh(s:bb w D d ta tn pa pn)(P:∀a,D a->a<w.heap.size):
  Calls XP 68 #[.agg #[.slice ta tn tc,.slice pa pn pc],.agg (ni d8).toArray] w (Ok λE w'=>E= XH (lv d d8)/\ai w w'):=by
 refine Al (PA.mk λZ F s1 t=>PA.mk λw2 i s2 n=>⟨_,_,_,_,_,_,ae (i.get t id) rfl,ae (i.get t id) rfl,_,ae n rfl,_,ae n rfl,PC.ok (og (s.ah (F.then i)) λa e=>by have:=P a e;omega) ?_⟩);rintro E w3 ⟨j,o⟩;have u:=(F.then i).then j;have hz:=j.size
 cases k:d.CI d8.aS d8.field with
 |none=>
  rw[k]at o;refine bN (Ii Vs none 0 0) ⟨_,o,PA.mk λQ f R v=>az (fM _ _ _ _) v rfl λp g S T=>al.tt rfl (Ok.mk ⟨?_,(u.then f).new g λa e=>.inr oM⟩)⟩;unfold lv;rw[k];rfl
 |some H=>
  rw[k]at o;obtain⟨I,J,K,a0,rfl,ho,hF⟩:=o;have L:(d.CI d8.aS d8.field).isNone=false:=by rw[k];rfl
  refine bN (Ii H I J K) ⟨_,rfl,PA.mk λQ f R v=>az (fM H I J K) v rfl λp g S T=>al.ff rfl ⟨λa w'=>a=(d8.group==3&& !Rf (d.at d8.aS) d8.Ek 2||d8.group !=3&&d8.Ek !=0)/\ai p w',?_,?_⟩⟩
  ·have U:ai w p:=(u.then f).new g λa e=>.inr oM
   intro x V;have b:ai p x:=V.af;have W:=b.get (g.get (f.get (j.get (i.get t id) id) id) oM) id;have c:=b.get (g.get (f.get (j.get n id) id) oM) id;refine⟨_,ae c rfl,al.dA (λh=>⟨_,_,_,ae W rfl,_,ae c rfl,?_⟩) (λh=>⟨_,ae c rfl,al.dB (λ_=>⟨_,ae c rfl,?_,b⟩) (λl=>absurd l h)⟩)⟩
   ·obtain⟨a1,X,M,N,h1⟩:=Uo (kind:=0) (by rw[k];rfl:(d.CI d8.aS d8.field).isSome)
    have hl:=s.aS.len;obtain⟨a,y,T',es,rfl,_,_,m,l,a2,n1,c1,rfl,Y⟩:=((s.ah (U.then b)).aS).at (i:=d8.aS) N oM;rw[X]at m;cases m
    have O:=l 0 dC;simp only[mj,Nat.mul_one,Nat.add_zero]at O;refine⟨a,y,rfl,N,oM,_,_,_,O,_,ae c rfl,PC.ok (Eb Y) ?_⟩;rintro _ w7 ⟨rfl,z⟩;refine⟨_,rfl,al.not (al.mk (λA=>⟨_,ae (z.get c id) rfl,al.dB (λl=>absurd h l) (λ_=>⟨?_,b.then z⟩)⟩) (λA=>⟨?_,b.then z⟩))⟩
    ·rw[M,A,h];rfl
    ·rw[M,A,h];rfl
   ·rw[show(d8.group==3)=false by simpa using h,show(d8.group !=3)=true by simpa using h];rfl
  ·rintro a a3 x ⟨rfl,b⟩
   have q:ai w x:=((u.then f).new g λa e=>.inr oM).then b;have c:=b.get (g.get (f.get (j.get n id) id) oM) id;refine al.mk (λe=>Ok.mk ⟨by unfold lv;rw[L,if_neg sM,if_pos e],q⟩) (λe=>⟨_,ae c rfl,PC.ok bU ?_⟩);have B:lv d d8=if !within d8.group 1 3|| !within d8.make 1 5 then 2 else 0:=by unfold lv;rw[L,if_neg sM,e];rfl
   rintro _ _ ⟨rfl,rfl⟩;refine⟨_,rfl,al.not (al.mk (λr=>⟨_,ae c rfl,PC.ok bU ?_⟩) (λr=>Ok.mk ⟨by rw[B,r];rfl,q⟩))⟩;rintro _ _ ⟨rfl,rfl⟩;exact⟨_,rfl,al.not (al.mk (λC=>Ok.mk ⟨by rw[B,r,C];rfl,q⟩) (λC=>Ok.mk ⟨by rw[B,r,C];rfl,q⟩))⟩
end
def SK(a:Int×Int×Int):gH XP 350 [XH a.1,XH a.2.1,XH a.2.2]=true:=kR
def IN{a d:Type}[BEq a][LawfulBEq a]{b:a}{g e:d}:∀c:List (a×d),aI (aI c b g) b e=aI c b e
 |[]=>by simp[aI]
 |(h,i)::c=>by
  by_cases f:b==h
  ·simp[f,aI]
  ·simp[f,aI,IN c]
section
variable {w w':World} {p:Nat} {F T D:Nat->Prop} {V:aU} {q:Eh}
def Gq(w:World)(p:Nat)(F D:Nat->Prop)(V:aU)(a:aj)(d:Value)(w':World):Prop:=
 d= .tuple #[.bool (V.try a).1,.agg #[XH (V.try a).2.1.1,XH (V.try a).2.1.2]]/\∃c,b_ w' p c (V.try a).2.2/\ak F w w'/\∀b,c b->F b\/D b\/w.heap.size<=b
def Q_(c:b_ w p F V)(a:ai w w')(b:V.try o=(I,d6,V)):Ok (Gq w p F D V o) (.returned (.tuple #[.bool I,.agg #[XH d6.1,XH d6.2]])) w':=by
 refine Ok.mk ⟨by rw[b],F,?_,ai.af a,λI d=>.inl d⟩;rw[b];exact c.ah a
def Ei(j:xW b p F V q)(a:Int×Int×Int):∃c d e f,(aE q.l2 a).getD (.slice none 0 0)= .slice c d e/\(aE V.done a).getD []=f/\(aO jj 63 (q.P7 F (.done a)) b c d e f):=by
 rcases j.VO.aE a with⟨g,h⟩|⟨m,f,g,h,c,d,e,rfl,l⟩
 ·exact⟨none,0,0,[],by rw[g];rfl,by rw[h];rfl,(aO.nil b).mono (λk i=>i.elim) λk i=>j.aB k i.1⟩
 ·exact⟨c,d,e,f,by rw[g];rfl,by rw[h];rfl,l⟩
def Ra(f:b_ w p F V)(hT:eA w)(hr:Row aJ 8 w D d a o.aP)(E:∀b,D b->b<w.heap.size/\¬F b)(he:o.Ok)(e:((aE V.done (o.aS,o.agg,o.field)).getD []).length<=20000000):
  Calls XP 199 #[ZQ p,jA o d a c] w (Ok (Gq w p F D V o)):=by
 have j9:=f;obtain⟨hV,q,f⟩:=f;have h:=f.aB;have B9:=h _ f.lp.1;refine wG (PA.mk λH t7 C0 t8=>PA.mk λo3 o4 C1 t9=>λl0 o5=>?_);have l3:ai o3 l0:=o5.af;have C2:l0.heap.size=o3.heap.size:=by rw[o5.heap]
 have k0:ai w l0:=(t7.then o4).then l3;have ge:=l3.get (o4.get t8 id) id;have gb:=l3.get t9 id;have P:=f.ah k0;refine⟨p,0,rfl,_,_,_,_,_,_,ae P.at' rfl,ae P.at' rfl,_,ae ge rfl,_,ae ge rfl,_,ae ge rfl,_,ae ge rfl,PC.ok (xo (hT.ah k0) P.QU λb e=>P.aB b e.1) ?_⟩;rintro _ Q ⟨rfl,R⟩;have k1:=k0.then R;have C3:=R.size;have c1:=R.get gb id;have c3:=R.get ge id;have l:∀{w1:World} {i:Int×Int} {b:Bool},ai Q w1->V.try o=(b,i,V)->∀w2,bd w1 w2->∀(x S:Int),x=i.1->S=i.2->PS w2 ⟨H.heap.size,0,none⟩ (XH x) λw3=>PS w3 ⟨H.heap.size,0+1,none⟩ (XH S) λw4=>∃(o6 o7:Int),w4.cell? ⟨H.heap.size,0,none⟩=some (XH o6)/\w4.cell? ⟨H.heap.size,0+1,none⟩=some (XH o7)/\Ok (Gq w p F D V o) (.returned (.tuple #[.bool b,.agg #[XH o6,XH o7]])) w4:=λ{w1 i b} hk I w2 f9 x S hx m=>by
  have k2:ai w1 w2:=f9.af;have kk:=(k1.then hk).then k2;have g2:=k2.get (hk.get c1 id) id;subst hx m;refine PS.mk g2 sM λw3 k3 s3 g3=>PS.mk g3 sM λw4 J s4 g4=>⟨_,_,ae g4 rfl,ae g4 rfl,Q_ j9 ((kk.new k3 λb e=>.inr oM).new J λb e=>.inr oM) I⟩
 refine⟨_,rfl,al.dB (λd6=>λu0 o8=>?_) (λg6=>?_)⟩
 ·have o9:=(o8.af (S:=λ_=>False)).get c1 id
  exact⟨_,_,ae o9 rfl,ae o9 rfl,l (i:=(0,0)) (ak.refl _) (by rw[aU.qZ,if_pos d6]) u0 o8 _ _ rfl rfl⟩
 obtain⟨c4,t0,t1,C4⟩:=Mh hV.decl g6 (hV.len o);obtain⟨y,p0⟩:∃y:Nat,o.aS=y:=⟨o.aS.toNat,oM⟩
 have l4:=c4.f0;have l5:=c4.f1;obtain⟨fi,p1⟩:∃fi:Nat,o.field=fi:=⟨o.field.toNat,oM⟩
 have u1:V.decl.at o.aS=V.decl.types.getD y []:=by
  unfold aM.at;rw[if_pos (br.2 ⟨t0,oM⟩),p0,Qx]
 obtain⟨tb,ng,es,u2,u3,p2,u4,fa,fn,fc,rfl,z⟩:=(P.ah R).QU.aS.el y V.decl.types[y] sM;have z:Row rk 48 Q (q.P7 F .QU) fa fn (V.decl.at o.aS):=by
  rw[u1];have:V.decl.types.getD y []=V.decl.types[y]:=by simp[QQ,show y<V.decl.types.length by omega]
  rw[this];exact z
 have C5:=(P.ah R).QU.aS.len;have g7:=u4 0 dC;have u5:mj.k=1:=rfl;rw[u5,Nat.mul_one]at g7;have u6:=h tb p2.1;refine⟨λT u7 ab ao w'=>u7=0/\ao=0/\ai Q w'/\w'.heap[T]? =some (.cells #[.slice fa fn fc] 118 (0,0))/\w'.heap[ab]? =some (.cells #[XH o.aS,XH o.agg,XH o.field] 350 (0,0))/\Q.heap.size<=T/\Q.heap.size<=ab,?_,?_⟩
 ·intro K p3
  have d7:ai Q K:=p3.af;have C6:K.heap.size=Q.heap.size:=by rw[p3.heap]
  have p4:=(P.ah R).ah d7;have c5:=d7.get c3 id;refine⟨λb=>K.heap.size<=b,p,0,rfl,oM,_,_,_,ae p4.at' rfl,by show¬K.heap.size<=w.heap.size;omega,_,ae c5 rfl,tb,ng,u2,t0,by omega,by show¬K.heap.size<=tb;omega,fa,fn,fc,?_,by show¬K.heap.size<=w.heap.size;omega,_,ae c5 rfl,by show¬K.heap.size<=w.heap.size;omega,_,ae c5 rfl,by show¬K.heap.size<=w.heap.size;omega,_,ae c5 rfl,?_,?_⟩
  ·rw[p0,Qx]
   exact(d7.cell (a:=⟨tb,ng+y,none⟩) u3 id).trans g7
  ·refine PA.mk λu9 d8 v0 l6=>⟨ai.af d8,PA.mk λv1 U v2 l7=>⟨ai.af U,PS.mk (U.get l6 id) sM λv3 W v4 l8=>⟨W.mono λb _ o=>oM,az (SK (o.aS,o.agg,o.field)) (W.get l7 oM) rfl λv5 X v6 l9=>⟨X.mono λb _ o=>oM,rfl,rfl,?_,X.get l8 oM,l9,oM,oM⟩⟩⟩⟩
   exact(((d7.then d8).then U).new W λb e=>.inr oM).new X λb e=>.inr oM
  ·refine PA.mk λu9 d8 v0 l6=>⟨ai.af d8,PA.mk λv1 U v2 l7=>⟨ai.af U,PS.mk l7 sM λv3 W v4 l8=>⟨W.mono λb _ o=>oM,az (SK (o.aS,o.agg,o.field)) (W.get (U.get l6 id) oM) rfl λv5 X v6 l9=>⟨X.mono λb _ o=>oM,rfl,rfl,?_,X.get l8 oM,l9,oM,oM⟩⟩⟩⟩
   exact(((d7.then d8).then U).new W λb e=>.inr oM).new X λb e=>.inr oM
 rintro T _ ab _ _ p5 ⟨rfl,rfl,p6,p7,g8,y6,C7⟩;have k2:=k1.then p6;have d9:=f.ah k2;obtain⟨da,dn,dc,k,v7,m0,p8⟩:=Ei d9 (o.aS,o.agg,o.field);rw[m0]at e;refine⟨p,0,rfl,_,ae d9.at' rfl,au (cs:=[XH o.aS,XH o.agg,XH o.field]) (SK (o.aS,o.agg,o.field)) g8 ⟨da,dn,dc,λb1=>?_,λp9 v8=>?_⟩⟩
 ·have:=dK WZ WQ (d9.dn.ah (ak.drewN p5 b1)) (o.aS,o.agg,o.field) false
  rw[v7]at this;exact this
 have f8:ai p5 p9:=v8.af;have C8:=p8.len dC;have m1:=(p8.ah f8).row (bytes:=96) dC (by unfold aK;omega);refine⟨λb1 a5 w'=>∃j:Nat,a5=j/\j<=dn/\b1=dn-j/\(∀x∈k.take j,lN ((V.decl.at o.aS).getD o.field.toNat ⟨0,0,false,[]⟩) x o=false)/\ai p9 w',⟨_,0,rfl,Qj _,rfl,sM,ak.refl _⟩,?_⟩;rintro b1 _ _ m2 ⟨j,rfl,hj,rfl,g0,e0⟩;have k3:=(p6.then f8).then e0;have g9:=e0.get (f8.get p7 id) id;have q0:=e0.get (f8.get g8 id) id;have h0:=k3.get c3 id;have c7:∀{r:Bool×(Int×Int)×aU},(match k.find? λx=>lN ((V.decl.at o.aS).getD o.field.toNat ⟨0,0,false,[]⟩) x o with
  |some x=>(true,aW x,V)
  |none=>if vJ (V.decl.at o.aS) (V.cellsOf o) o.field o.op o.arg≠0 then(true,(0,0),V)else
   (false,(0,0),{V with dP:=aI V.dP (o.aS,o.agg) ⟨oD (((aE V.dP (o.aS,o.agg)).getD ⟨0,[]⟩).version+1),Rr (V.decl.at o.aS) (V.cellsOf o) o.field o.op o.arg⟩,done:=aI V.done (o.aS,o.agg,o.field) (k++[o])}))=r->V.try o=r:=λ{r} hr=>by
  rw[aU.qZ,if_neg (by simpa using g6),m0];exact hr
 refine al.dec (λC9=>?_) (λD0=>?_)
 ·have g1:j<k.length:=oM
  obtain⟨db,b5,es,v9,D1,D2,q1,xa,xn,xc,rfl,q2,q3⟩:=(m1.ah e0).el j k[j] (Qq g1);have g5:k[j]? =some k[j]:=Qq g1;generalize k[j]=x at q1 q2 q3 g5;refine⟨db,b5,v9,oM,oM,bA (es:=aC x xa xn xc) (k:=10) (aV x xa xn xc) rfl (λa5 I=>q1 a5 I) (PA.mk λD3 x0 D4 x1=>az (aV x xa xn xc) x1 rfl λq4 x2 D5 x3=>λx4 x5=>?_)⟩;have m3:ai m2 q4:=x0.new x2 λb e=>.inr oM;have q5:ai q4 x4:=x5.af;have J:=m3.then q5;have e1:=k3.then J;obtain⟨fb,fo,b6,b7,b8,x6,D6,D7,h1,h2,h3,h4,D8⟩:=Ez (z.ah e1) (i:=fi) (by rw[z.len];omega);have h6:=q5.get x3 id;refine⟨_,_,_,ae (J.get g9 id) rfl,_,ae (J.get h0 id) rfl,fb,fo,x6,l4,by rw[z.len];exact l5,?_⟩;rw[p1,Qx];refine bA (es:=et ((V.decl.at o.aS).getD fi ⟨0,0,false,[]⟩) b6 b7 b8) (k:=4) (fM _ _ _ _) rfl (λa5 I=>?_) (au (aV x xa xn xc) h6 (au (aV o d a c) (J.get h0 id) (PC.ok (AJ (q2.ah J) ((hr.ah k1).ah e1)) ?_)))
  ·match a5,I with
   |0,_=>exact h1
   |1,_=>exact h2
   |2,_=>exact h3
   |3,_=>exact h4
  rintro _ D9 ⟨rfl,m4⟩;have x7:(V.decl.at o.aS).getD fi ⟨0,0,false,[]⟩=(V.decl.at o.aS).getD o.field.toNat ⟨0,0,false,[]⟩:=by rw[p1,Qx]
  rw[x7];refine⟨_,rfl,al.mk (λhv=>λx8 q6=>?_) (λhv=>⟨_,?_,j+1,aq oM,oM,rfl,λS m=>?_,(e0.then J).then m4⟩)⟩
  ·have q7:=(q6.af (S:=λ_=>False)).get (m4.get h6 id) id
   refine⟨_,_,ae q7 rfl,ae q7 rfl,l (e1.then m4) (i:=aW x) (c7 ?_) x8 q6 _ _ rfl rfl⟩;have hf:k.find? (λx=>lN ((V.decl.at o.aS).getD o.field.toNat ⟨0,0,false,[]⟩) x o)=some x:=by
    rw[List.find?_eq_some_iff_append];refine⟨hv,k.take j,k.drop (j+1),?_,λS m=>by rw[g0 S m];rfl⟩;rw[<-List.take_append_drop j k]
    congr 1
    ·rw[List.take_append_drop]
    ·rw[List.take_append_drop,X4 g1]
     congr 1
     rw[Qq g1]at g5;exact XJ g5
   rw[hf]
  ·omega
  ·rw[Qw,g5]at m
   rcases Q6.1 m with m|m
   ·exact g0 S m
   ·simp at m;subst m;exact hv
 ·have E0:j=dn:=oM
  rw[Qz oM]at g0;have m5:k.find? (λx=>lN ((V.decl.at o.aS).getD o.field.toNat ⟨0,0,false,[]⟩) x o)=none:=List.find?_eq_none.2 λx hx=>by rw[g0 x hx];simp
  rw[m5]at c7;intro Y h7;have c8:ai m2 Y:=h7.af;have y7:Y.heap.size=m2.heap.size:=by rw[h7.heap]
  have k5:=k3.then c8;have e7:=k1.then k5;have z5:=k5.size;have z3:=k3.size;have b9:=f.ah e7;have b2:=c8.get q0 id;have c0:=c8.get g9 id;have m6:=k5.get c3 id;have E1:=c8.size;have y8:=ax b2;have y9:=ax c0;obtain⟨t,b,n,s,A,g,Z,h5,k4,d4⟩:∃(t:lS) (b:Bool) (n:Option Addr) (s A:Nat),(aE q.l1 (o.aS,o.agg)).getD (.agg #[XH 0,.slice none 0 0])= .agg #[XH t.version,.slice n s A]/\(aE q.l1 (o.aS,o.agg)).isSome=b/\(aE V.dP (o.aS,o.agg)).getD Gs=t/\(b=true->V.cellsOf o=t.cells)/\Row ei 32 Y (q.P7 F .VC) n s t.cells/\(b=false->V.cellsOf o=du (V.decl.at o.aS)):=by
   unfold aU.cellsOf;rcases b9.VD.aE (o.aS,o.agg)with⟨g,Z⟩|⟨e9,t,g,Z,n,s,A,rfl,hr⟩
   ·exact⟨Gs,false,none,0,0,by rw[g];rfl,by rw[g];rfl,by rw[Z];rfl,λf=>(by cases f),Row.nil _ _,λ_=>by rw[Z]⟩
   ·exact⟨t,true,n,s,A,by rw[g];rfl,by rw[g];rfl,by rw[Z];rfl,λ_=>by rw[Z],hr,λf=>(by cases f)⟩
  obtain⟨d4,l1⟩:=d4;refine⟨λb=>b=Y.heap.size,p,0,rfl,oM,_,ae b9.at' rfl,oM,_,_,ae b2 rfl,ae b2 rfl,t.version,n,s,A,b,λw' hk=>?_,PA.mk λz0 h8 z2 q8=>⟨ai.af h8,PS.mk q8 sM λz4 h9 z7 q9=>PS.mk q9 sM λr0 i0 z8 i1=>⟨h9.then i0,?_⟩⟩⟩
  ·have:=dK WR Uv (b9.st.af hk (by have:=h _ f.l1.1;omega)) (o.aS,o.agg) true
   rw[g,Z]at this;exact this
  have k6:ai Y r0:=(h8.new h9 λb e=>.inr oM).new i0 λb e=>.inr oM;refine⟨λw'=>ai Y w'/\∃n s A Dc,w'.heap[Y.heap.size]? =some (.cells #[XH t.version,.slice n s A] 49 (0,0))/\Row ei 32 w' Dc n s (V.cellsOf o)/\∀b,Dc b->b<w'.heap.size,?_,?_⟩
  ·refine al.not (al.mk (λx9=>⟨k6,n,s,A,_,i1,by rw[k4 x9];exact d4.ah k6,λb e=>by have:=h b e.1;have:=k6.size;have:=e7.size;omega⟩) (λy0=>⟨_,_,_,ae (k6.get c0 id) rfl,PC.ok (GS (t:=V.decl.at o.aS) rfl (z.len) (by rw[z.len];omega)) ?_⟩))
   rintro _ z9 ⟨l2,n6,m7,G6,rfl,r3,k7,y1⟩;have z6:=k6.size;refine⟨_,_,_,rfl,PS.mk (k7.get i1 id) sM λA0 i2 A1 r4=>⟨(k6.then k7).new i2 λb e=>.inr oM,l2,n6,m7,G6,r4,?_,λb e=>by have:=r3.aB b e;omega⟩⟩;rw[l1 y0];exact(r3.af i2 λb e o=>by have:=y1 b e;omega).row dC (by unfold aK du;simp;omega)
  rintro _ A2 ⟨a3,n,s,A,Dc,f0,d4,y2⟩;have A3:=a3.size;have f1:=k5.then a3;have f2:=a3.get c0 id;have m8:=a3.get b2 id;have c2:=a3.get m6 id;refine⟨_,_,_,ae f2 rfl,_,_,_,ae f0 rfl,_,ae c2 rfl,_,ae c2 rfl,_,ae c2 rfl,PC.ok (GR c4 (z.ah f1) d4) ?_⟩;rintro _ r5 ⟨rfl,a0⟩;have k8:=f1.then a0;refine⟨_,rfl,al.dB (λd6=>λr6 i3=>?_) (λy3=>λc9 r7=>?_)⟩
  ·have i4:=(i3.af (S:=λ_=>False)).get (k8.get c1 id) id
   refine⟨_,_,ae i4 rfl,ae i4 rfl,l (i:=(0,0)) k8 (c7 ?_) r6 i3 _ _ rfl rfl⟩;simp only;rw[if_pos d6]
  have f3:vJ (V.decl.at o.aS) (V.cellsOf o) o.field o.op o.arg=0:=y3;have a1:ai r5 c9:=r7.af;have k9:=k8.then a1;have m9:=(a3.then a0).then a1;have c6:=k1.then k9;have n0:=f.ah c6;have b3:=k9.get c3 id;have d2:=(a0.then a1).get m8 id;have n1:=(a0.then a1).get f2 id;have f4:=(a0.then a1).get f0 id;have E2:=h _ f.l1.1;have E3:=h _ f.l2.1;have A4:=m9.size;have y4:=c6.size;have e8:¬p=q.r1:=λo=>by have g:=f.lp.2;rw[o,f.l1.2]at g;cases g
  have i5:¬p=q.r2:=λo=>by have g:=f.lp.2;rw[o,f.l2.2]at g;cases g
  have i6:¬q.r1=q.r2:=λo=>by have g:=f.l1.2;rw[o,f.l2.2]at g;cases g
  refine⟨λb=>b=q.r1,p,0,rfl,e8,_,ae n0.at' rfl,oM,_,_,ae d2 rfl,ae d2 rfl,oM,_,ae f4 rfl,_,_,_,ae n1 rfl,_,_,_,ae f4 rfl,_,ae b3 rfl,_,ae b3 rfl,_,ae b3 rfl,PC.ok (Ru c4 f3 he.arg oM (z.ah k9) (λb e=>by have:=h b e.1;omega) (d4.ah (a0.then a1)) λb e=>by have:=y2 b e;have:=(a0.then a1).size;omega) ?_⟩;rintro _ a6 ⟨r8,r9,s0,G,rfl,i7,a4,hG⟩;have e2:=c6.then a4;have u:=f.ah e2;have A5:=a4.size;refine⟨_,_,_,rfl,ai.af a4,cW (enc:=oy) (k:=(o.aS,o.agg)) WR Uv u.st λi8 s1 i9 A6=>⟨i9,λd0 j0=>?_⟩⟩;have j1:ai i8 d0:=j0.af;have A7:d0.heap.size=i8.heap.size:=by rw[j0.heap]
  have C:ak (·=q.r1) a6 d0:=i9.ah j1;have key:∀b,F b/\q.cls b= .done (o.aS,o.agg,o.field)->b≠p/\b≠q.r1/\b≠q.r2:=λb e=>
   ⟨λo=>(by have g:=f.lp.2;rw[<-o,e.2]at g;cases g),λo=>(by have g:=f.l1.2;rw[<-o,e.2]at g;cases g),λo=>(by have g:=f.l2.2;rw[<-o,e.2]at g;cases g)⟩
  have n3:=C.get u.at' e8;have n4:=C.get (a4.get d2 id) oM;have v:=C.get (a4.get b3 id) oM;have n5:=u.dn.af C (λo=>i6 o.symm);have n8:=C.get (a4.get (k9.get c1 id) id) oM;obtain⟨a2,a7,e3,n7,s2,j2,j3⟩:=Ei u (o.aS,o.agg,o.field);rw[m0]at j2;subst j2;have n9:=j3.af C λb e o=>(key b e).2.1 o;have A8:=C.size;refine⟨λb=>b=q.r2\/(F b/\q.cls b= .done (o.aS,o.agg,o.field)),p,0,rfl,λB=>B.elim i5 λB=>(key p B).1 rfl,_,ae n3 rfl,λB=>B.elim (λo=>oM) λB=>by have:=h _ B.1;omega,
   au (cs:=[XH o.aS,XH o.agg,XH o.field]) (SK (o.aS,o.agg,o.field)) n4 ⟨_,_,_,_,_,_,_,_,_,_,_,_,ae v rfl,ae v rfl,ae v rfl,ae v rfl,ae v rfl,ae v rfl,ae v rfl,ae v rfl,ae v rfl,ae v rfl,
   PA.mk λA9 a8 B0 s5=>⟨ai.af a8,FO (enc:=BT) (k:=(o.aS,o.agg,o.field)) WZ WQ (n5.ah a8) λB1 x s6 o0 a9 B2=>⟨a2,a7,e3,x,by rw[s2],a9.mono λb _ o=>.inl o,?_⟩⟩⟩⟩
  have o1:=(n9.ah a8).af a9 λb e o=>(key b e).2.2 o;have s7:=a9.get s5 oM;have b4:∀b,aF a2=some b->F b/\q.cls b= .done (o.aS,o.agg,o.field):=λb e=>j3.self b e;have y5:=(((hr.ah e2).af C λb e o=>(E b e).2 (o▸f.l1.1)).ah a8).af a9 λb e o=>(E b e).2 (o▸f.l2.1);refine eV (c:=jj) o1 IV s7 (D:=D) (x:=o) ⟨d,a,c,rfl,y5,he⟩ (λb e=>⟨by have:=(E b e).1;omega,λee=>(E b e).2 (b4 b ee).1⟩) (by unfold aK;omega) (by unfold maxLen;omega) λa' L s8 F2 f7 b0 o2=>⟨_,_,_,rfl,b0.mono λb _ e=>.inr (b4 b e),?_⟩
  have s9:¬aF a2=some q.r2:=λee=>(key _ (b4 _ ee)).2.2 rfl;refine Bo WQ (s6.af b0 s9) (o0.af b0 s9) λj4 t2 f5 B3=>⟨f5.mono λb _ o=>.inl o,λd1 j5=>?_⟩
  have f6:ai j4 d1:=j5.af;have B4:d1.heap.size=j4.heap.size:=by rw[j5.heap]
  have B5:=b0.size;have kb:ak (λb=>b=q.r2\/(F b/\q.cls b= .done (o.aS,o.agg,o.field))) d0 d1:=((((ai.af a8).then (a9.mono λb _ o=>.inl o)).then (b0.mono λb _ e=>.inr (b4 b e))).then (f5.mono λb _ o=>.inl o)).then (ai.af f6);have e4:=kb.get n8 (λB=>B.elim (λo=>oM) λB=>by have:=h _ B.1;omega);refine⟨_,_,ae e4 rfl,ae e4 rfl,PS.mk e4 sM λB6 j6 B7 t3=>PS.mk t3 sM λd3 j7 B8 j8=>⟨_,_,ae j8 rfl,ae j8 rfl,?_⟩⟩;have M:ak (λb=>b=q.r1\/b=q.r2\/(F b/\q.cls b= .done (o.aS,o.agg,o.field))\/b=H.heap.size) a6 d3:=
   ((C.mono λb _ o=>.inl o).then (kb.mono λb _ e=>e.elim (λo=>.inr (.inl o)) λe=>.inr (.inr (.inl e)))).then ((j6.mono λb _ o=>.inr (.inr (.inr o))).then (j7.mono λb _ o=>.inr (.inr (.inr o))))
  have kc:ak (·=H.heap.size) d1 d3:=j6.then j7;have zT:=M.size;have I:=c7 (r:=(false,(0,0),{V with dP:=aI V.dP (o.aS,o.agg) ⟨oD (((aE V.dP (o.aS,o.agg)).getD ⟨0,[]⟩).version+1),Rr (V.decl.at o.aS) (V.cellsOf o) o.field o.op o.arg⟩,done:=aI V.done (o.aS,o.agg,o.field) (k++[o])})) (by simp only;rw[if_neg (by simpa using f3)]);have t4:=(aU.Rb hV o).1;refine Ok.mk ⟨by rw[I],λb=>b<d3.heap.size/\(F b\/D b\/w.heap.size<=b),?_,?_,λb e=>e.2⟩
  rotate_left
  ·exact(ai.af e2).trans M (λ_ _ f=>f) λb e hT=>by
    rcases hT with rfl|rfl|hT|rfl
    ·exact f.l1.1
    ·exact f.l2.1
    ·exact hT.1
    ·omega
  rw[I]at t4⊢;have t5:∀b,G b->c9.heap.size<=b/\b<a6.heap.size:=λb e=>⟨hG b e,i7.aB b e⟩
  have N:∀b,F b->b<d3.heap.size:=λb e=>by have:=h b e;omega
  classical
  have O:∀b,F b->(if F b then q.cls b else if c9.heap.size<=b/\b<a6.heap.size then IM.VC else IM.done (o.aS,o.agg,o.field))=q.cls b:=λb e=>if_pos e;refine⟨t4,⟨q.ta,q.tn,q.tc,q.pa,q.pn,q.pc,q.ea,q.en,q.ec,q.r1,q.r2,aI q.l1 (o.aS,o.agg) (.agg #[XH (oD (t.version+1)),.slice r8 r9 s0]),aI q.l2 (o.aS,o.agg,o.field) (.slice a' (a7+1) L),λb=>if F b then q.cls b else if c9.heap.size<=b/\b<a6.heap.size then IM.VC else IM.done (o.aS,o.agg,o.field)⟩,?_,?_,?_,?_,?_,?_,?_,λb e=>e.1,⟨⟨N _ f.lp.1,.inl f.lp.1⟩,(O _ f.lp.1).trans f.lp.2⟩,⟨⟨N _ f.l1.1,.inl f.l1.1⟩,(O _ f.l1.1).trans f.l1.2⟩,⟨⟨N _ f.l2.1,.inl f.l2.1⟩,(O _ f.l2.1).trans f.l2.2⟩⟩
  ·exact M.get u.at' λB=>by
    rcases B with B|B|B|B
    ·exact e8 B
    ·exact i5 B
    ·exact(key _ B).1 rfl
    ·omega
  ·refine(u.QU.af M λb e B=>?_).mono λb e=>⟨⟨N b e.1,.inl e.1⟩,(O b e.1).trans e.2⟩
   have d5:=h b e.1;rcases B with rfl|rfl|B|B
   ·have:=f.l1.2;rw[e.2]at this;cases this
   ·have:=f.l2.2;rw[e.2]at this;cases this
   ·have:=B.2;rw[e.2]at this;cases this
   ·omega
  ·refine(u.NZ.af M λb e B=>?_).mono (λb e=>⟨⟨N b e.1,.inl e.1⟩,(O b e.1).trans e.2⟩) λb e=>e.1.1
   have d5:=h b e.1;rcases B with rfl|rfl|B|B
   ·have:=f.l1.2;rw[e.2]at this;cases this
   ·have:=f.l2.2;rw[e.2]at this;cases this
   ·have:=B.2;rw[e.2]at this;cases this
   ·omega
  ·exact((s1.ah j1).af kb λB=>B.elim i6 λB=>(key _ B).2.1 rfl).af kc oM
  ·refine eT.aI ?_ ?_
   ·refine⟨r8,r9,s0,by rw[h5],?_⟩
    refine((i7.row (bytes:=32) dC ?_).af M λb e B=>?_).mono λb e=>?_
    ·rw[Mi,hV.len];unfold aK;omega
    ·have d5:=t5 b e
     rcases B with rfl|rfl|B|B
     ·omega
     ·omega
     ·have:=h b B.1;omega
     ·omega
    ·have d5:=t5 b e
     refine⟨⟨oM,.inr (.inr oM)⟩,?_⟩;show(if F b then _ else _)=_;rw[if_neg (λhf=>by have:=h b hf;omega),if_pos d5]
   ·refine u.VD.mono λe9 r1 hu=>?_
    obtain⟨e5,n2,e6,rfl,hu⟩:=hu;refine⟨e5,n2,e6,rfl,(hu.af M λb e B=>?_).mono λb e=>⟨⟨N b e.1,.inl e.1⟩,(O b e.1).trans e.2⟩⟩;have d5:=h b e.1;rcases B with rfl|rfl|B|B
    ·have:=f.l1.2;rw[e.2]at this;cases this
    ·have:=f.l2.2;rw[e.2]at this;cases this
    ·have:=B.2;rw[e.2]at this;cases this
    ·omega
  ·have:=(t2.ah f6).af kc (by show¬q.r2=H.heap.size;omega)
   rw[IN]at this;exact this
  ·refine n_.aI ?_ u.VO ?_ u.dn.tidy
   ·refine⟨a',_,L,rfl,?_⟩
    have t6:∀b,F2 b->b<s8.heap.size/\b≠H.heap.size:=λb e=>by
     refine⟨f7.aB b e,λo=>?_⟩;rcases o2 b e with g|g|g
     ·have:=h b g.1;omega
     ·have:=(E b g).1;omega
     ·omega
    refine((f7.af f5 λb e o=>?_).ah f6|>.af kc λb e o=>(t6 b e).2 o).mono (λb e=>?_) λb e=>e.1.1
    ·rcases o2 b e with g|g|g
     ·exact(key b g).2.2 o
     ·exact(E b g).2 (o▸f.l2.1)
     ·omega
    ·have:=(t6 b e).1
     have hz:=kc.size;rcases o2 b e with g|g|g
     ·exact⟨⟨N b g.1,.inl g.1⟩,(O b g.1).trans g.2⟩
     ·refine⟨⟨oM,.inr (.inl g)⟩,?_⟩
      show(if F b then _ else _)=_;rw[if_neg (E b g).2,if_neg (by have:=(E b g).1;omega)]
     ·refine⟨⟨oM,.inr (.inr oM)⟩,?_⟩
      show(if F b then _ else _)=_;rw[if_neg (λhf=>by have:=h b hf;omega),if_neg oM]
   ·intro r2 e9 r1 d6 hu
    obtain⟨e5,n2,e6,rfl,hu⟩:=hu;refine⟨e5,n2,e6,rfl,(hu.af M λb e B=>?_).mono (λb e=>⟨⟨N b e.1,.inl e.1⟩,(O b e.1).trans e.2⟩) λb e=>e.1.1⟩;have d5:=h b e.1;rcases B with rfl|rfl|B|B
    ·have:=f.l1.2;rw[e.2]at this;cases this
    ·have:=f.l2.2;rw[e.2]at this;cases this
    ·have:=B.2;rw[e.2]at this
     simp only[IM.done.injEq]at this;exact d6 this
    ·omega
end
end Go.Proofs.YtjgjkeponbeekaaGreatDoor

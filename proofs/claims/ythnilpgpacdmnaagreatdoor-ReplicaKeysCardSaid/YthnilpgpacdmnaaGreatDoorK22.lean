import Derived.Test.YthnilpgpacdmnaaGreatDoorK21
namespace Go.Proofs.YthnilpgpacdmnaaGreatDoor
open Go.au
set_option linter.unusedVariables false
set_option maxRecDepth 20000
variable{a c:Nat}{d p:Option Addr}{J:aM}
section
variable {w w':World} {D E F:Nat->Prop}
theorem oF {b:List iw} (f:Row t_ 40 w D d a b) (g:∀e,D e->e<w.heap.size):Calls Tryz.prog 105 #[.slice d a c] w (Ok (oy t_ 119 w b)):=
 gq (yT Jd dC f g λi w' h=>Ok.mk h)
theorem oG {b:List (Bx a_)} (f:Row Io.jt 48 w D d a b) (g:∀e,D e->e<w.heap.size):Calls Tryz.prog 106 #[.slice d a c] w (Ok (oy Io.jt 110 w b)):=
 fH (yT NR dC f g λi w' h=>Ok.mk h)
theorem BW {tn tc pn pc:Nat} (i:aW w D J d tn p pn) (S:∀a,D a->a<w.heap.size):
  Calls Tryz.prog 144 #[.agg #[.slice d tn tc,.slice p pn pc]] w (Ok λa5 w'=>∃q BX T f g h G,a5= .agg #[.slice q BX T,.slice f g h]/\aW w' G J q BX f g/\(∀a,G a->w.heap.size<=a/\a<w'.heap.size)/\ai w w'):=by
 have d3:=i.aT.len;have E:=i.aT.dt;have d4:=i.yF.len;have d5:=i.yF.dt;refine xM (PA.mk λw1 k1 s1 g1=>PA.mk λw2 F s2 g2=>⟨_,_,_,ae (F.get g1 id) rfl,PC.ok (oF (i.yF.ah (k1.then F)) λa B=>by have:=S a B;omega) ?_⟩);rintro _ r ⟨f,g,h,G1,rfl,U,H,b4⟩;have z8:=H.size;refine⟨_,_,_,rfl,PA.mk λg8 d6 g9 d7=>PS.mk d7 sM λh0 d8 h3 d9=>PS.mk d9 sM λs e0 h4 e1=>?_⟩;have t:ai r s:=(d6.new d8 λa B=>.inr oM).new e0 λa B=>.inr oM;have b5:ai w s:=((k1.then F).then H).then t;have ga:=t.get (H.get (F.get g1 id) id) id;have gz:=t.get (H.get g2 id) id;have h5:=t.size;have b6:s.heap[r.heap.size]? =some (.cells #[.slice none 0 0,.slice f g h] 25 (0,0)):=e1;refine⟨_,_,_,ae ga rfl,λu V w'=>∃b:Nat,V=b/\b<=tn/\u=tn-b/\ak (·=r.heap.size) s w'/\∃I K W v,w'.heap[r.heap.size]? =some (.cells #[.slice I K W,.slice f g h] 25 (0,0))/\aO jE 107 v w' I K W (J.types.take b)/\∀a,v a->s.heap.size<=a,
  ⟨_,0,rfl,Qj _,rfl,ak.refl _,none,0,0,λ_=>False,b6,aO.nil _,λ_ i=>i.elim⟩,?_⟩
 rintro u _ _ Y ⟨b,rfl,hj,rfl,x,I,K,W,v,Z,j,m⟩;have L:ai w Y:=b5.new x λa B=>.inr oM;have zk:=x.size;refine al.dec (λh6=>?_) (λh7=>?_)
 ·have b7:b<J.types.length:=oM
  obtain⟨a,a6,es,ha,B,h8,a8,fa,fn,fc,rfl,M⟩:=(i.aT.ah L).el b J.types[b] (by simp [b7]);have b8:J.types[b]? =some J.types[b]:=Qq b7;generalize J.types[b]=a1 at M b8;have c0:=a8 0 dC;have e2:jE.k=1:=rfl;rw [e2,Nat.mul_one]at c0;refine⟨a,a6,ha,oM,oM,fa,fn,fc,by rw [Qx];exact c0,PA.mk λh9 e3 i0 e4=>PS.mk e4 sM λb9 e5 i1 e6=>⟨_,_,_,ae e6 rfl,?_⟩⟩;have N:ai Y b9:=e3.new e5 λa B=>.inr oM;have c1:=L.then N;obtain⟨n,l1,l2,l3⟩:=eg.boxes (N:=Io) M;have a7:=M.dt;refine PC.ok (oG (l2.ah N) λa B=>by have:=S a B;have:=c1.size;omega) ?_;rintro _ c2 ⟨a9,y,c9,F9,rfl,O,c3,e7⟩;have i2:=N.size;have i3:=c3.size;have P:∀a,aF a9=some a->b9.heap.size<=a:=λa B=>e7 a (O.self a B);have c4:∀a,aF a9=some a->a<c2.heap.size:=λa B=>O.aC a (O.self a B);refine⟨_,_,_,rfl,λu V w'=>∃b:Nat,V=b/\b<=y/\u=y-b/\dF Io 110 c2 a9 y c9 n b w',⟨_,0,rfl,Qj _,rfl,dF.start O.alone⟩,?_⟩;rintro u _ _ e8 ⟨o,rfl,hi,rfl,k⟩;have i4:=k.len;have i5:n.length=a1.length:=by rw [<-l1];simp
  have e9:=M.len;have z:ai Y e8:=(N.then c3).new k.af λa B=>.inr (by have:=P a B;omega);have i6:=k.af.size;refine al.dec (λg5=>?_) (λg6=>?_)
  ·obtain⟨Q,rfl⟩:=k.some oM
   have c5:=c4 Q rfl;have a0:n[o]? =some n[o]:=Qq oM;have A:=l3 n[o] (XY oM);generalize n[o]=R at a0 A;refine⟨Q,0,rfl,oM,oM,_,_,_,k.cell rfl a0 (by show y*4<=aI;unfold aI at a7⊢;omega) 3 _ rfl,PC.ok (rR (A.1.ah z) λa B=>by have:=S a B;have:=(L.then z).size;omega) ?_⟩;rintro _ i7 ⟨i8,i9,j0,G,rfl,a2,f2,hG⟩;refine⟨_,_,_,rfl,Q,0,rfl,oM,oM,?_⟩;refine(k.ah f2).step (g:=Q) rfl a0 (a2.row (bytes:=32) dC ?_) A.2 (λa3 hx=>⟨by have:=hG a3 hx;omega,a2.aC a3 hx⟩) c5 λj1 c6 j2 j3=>⟨_,?_,o+1,aq (by unfold aI at a7;omega),oM,rfl,c6⟩
   ·have e:=A.1.dt
    have X:=A.1.len;show R.x.bh.length*32<=aI;have j4:R.n=R.x.bh.length:=X;have j5:R.n*32<=aI:=e;omega
   ·omega
  ·obtain rfl:o=y:=oM
   obtain⟨Fd,hd,b0⟩:=k.done;rw [l1,FR]at hd;have a4:=z.get Z id;refine⟨_,_,_,ae a4 rfl,FT (c:=jE) (x:=a1) (j.ah z) Ko (D:=Fd) ⟨_,_,_,rfl,hd.row dC (by rw [<-e9];exact a7)⟩ (λa B=>⟨hd.aC a B,λc=>?_⟩) ?_ ?_ λa' C j6 F' d0 b1 c7 g7=>⟨_,_,_,rfl,?_⟩⟩
   ·have e:=j.aC a (j.self a c)
    rcases b0 a B with X|X
    ·have:=P a X;omega
    ·omega
   ·have:=List.length_take_le b J.types;unfold aI at E⊢;omega
   ·have:=List.length_take_le b J.types;unfold aI at E;unfold maxLen;omega
   ·have l:¬aF I=some r.heap.size:=λc=>by have:=m _ (j.self _ c);omega
    have g0:=b1.get a4 l;have j7:=b1.size;refine PS.mk g0 sM λj8 c8 j9 g3=>⟨_,?_,b+1,aq (by unfold aI at E;omega),oM,rfl,?_,a',K+1,C,F',g3,?_,?_⟩
    ·omega
    ·exact((x.ah z).new b1 λa B=>.inr (m _ (j.self a B))).then c8
    ·rw [Qw,b8]
     refine d0.af c8 λa B c=>?_;rcases c7 a B with e|e|e
     ·have:=m a e;omega
     ·rcases b0 a e with X|X
      ·have:=P a X;omega
      ·omega
     ·omega
    ·intro a B
     rcases c7 a B with e|e|e
     ·exact m a e
     ·rcases b0 a e with X|X
      ·have:=P a X;omega
      ·omega
     ·omega
 ·obtain rfl:b=tn:=oM
  rw [Qz oM]at j;have d1:=x.get gz oM;have f0:=(U.ah t).af x λa B c=>by have:=U.aC a B;omega
  refine⟨_,_,_,_,_,_,ae Z rfl,ae Z rfl,PS.mk d1 sM λk0 b2 k3 g4=>PS.mk g4 sM λk4 b3 k5 d2=>⟨_,_,_,_,_,_,ae d2 rfl,ae d2 rfl,Ok.mk ⟨_,_,_,_,_,_,λa=>v a\/G1 a,rfl,⟨?_,?_⟩,?_,?_⟩⟩⟩
  ·have l:∀a,v a->a≠w1.heap.size:=λa B c=>by have:=m a B;omega
   exact((((j.row (bytes:=24) dC (by rw [<-d3];exact E)).af b2 λa B c=>l a B c).af b3 λa B c=>l a B c)).mono λa B=>.inl B
  ·have l:∀a,G1 a->a≠w1.heap.size:=λa B c=>by have:=b4 a B;omega
   exact((((f0.row (bytes:=40) dC (by rw [<-d4];exact d5)).af b2 λa B c=>l a B c).af b3 λa B c=>l a B c)).mono λa B=>.inr B
  ·rintro a (B|B)
   ·have:=m a B;have:=j.aC a B;omega
   ·have:=b4 a B;have:=U.aC a B;omega
  ·exact(L.new b2 λa B=>.inr oM).new b3 λa B=>.inr oM
end
end Go.Proofs.YthnilpgpacdmnaaGreatDoor
namespace Go.au
open Go
set_option linter.unusedVariables false
def nn {a b c:Type} (d:a->b->c->Prop):List (a×b)->List (a×c)->Prop
 |[],[]=>True
 |(e,f)::g,(h,i)::j=>e=h/\d e f i/\nn d g j
 |_,_=>False
section
variable {κ β γ:Type} {R R':κ->β->γ->Prop}
theorem nn.mono:∀{a:List (κ×β)} {b:List (κ×γ)},nn R a b->(∀f c d,R f c d->R' f c d)->nn R' a b
 |[],[],_,_=>trivial
 |(h,c)::a,(i,d)::b,e,g=>⟨e.1,g _ _ _ e.2.1,nn.mono e.2.2 g⟩
theorem nn.aD [BEq κ] [LawfulBEq κ] (a:κ):∀{b:List (κ×β)} {c:List (κ×γ)},nn R b c->
  (au.aD b a=none/\au.aD c a=none)\/∃d e,au.aD b a=some d/\au.aD c a=some e/\R a d e
 |[],[],_=>.inl ⟨rfl,rfl⟩
 |(g,d)::b,(k,e)::c,h=>by
  obtain⟨rfl,i,j⟩:=h;unfold au.aD
  by_cases f:a==g
  ·obtain rfl:a=g:=by simpa using f
   simp only [f,if_true];exact .inr ⟨d,e,rfl,rfl,i⟩
  ·simp only [f];exact nn.aD a j
theorem nn.off {h:κ}:∀{a:List (κ×β)} {b:List (κ×γ)},nn R a b->(∀c d e,c≠h->R c d e->R' c d e)->h∉a.map (·.1)->nn R' a b
 |[],[],_,_,_=>trivial
 |(k,d)::a,(l,e)::b,f,i,g=>by
  simp only [QY,Q2,not_or]at g;exact⟨f.1,i _ _ _ (λj=>g.1 j.symm) f.2.1,nn.off f.2.2 i g.2⟩
theorem nn.aH [BEq κ] [LawfulBEq κ] {a:κ} {b:β} {c:γ} (g:R' a b c):∀{d:List (κ×β)} {h:List (κ×γ)},nn R d h->(∀i b c,i≠a->R i b c->R' i b c)->Tidy d->nn R' (au.aH d a b) (au.aH h a c)
 |[],[],_,_,_=>⟨rfl,g,trivial⟩
 |(k,q)::d,(r,s)::h,m,j,e=>by
  obtain⟨rfl,n,l⟩:=m;unfold Tidy at e;simp only [QY,List.nodup_cons]at e;unfold au.aH
  by_cases f:a==k
  ·simp only [f,if_true]
   obtain rfl:a=k:=by simpa using f
   refine⟨rfl,g,?_⟩;have o:a∉d.map (·.1):=e.1;exact nn.off l j o
  ·simp only [f]
   exact⟨rfl,j _ _ _ (λp=>f (by simp [p])) n,nn.aH g l j e.2⟩
end
def uE {d:Type} (f:World) (g:Nat) (b:d->Value) (h:d) (i:Int):Prop:=
 ∃(e:Array MapEntry) (a j:Nat) (c:MapEntry),f.heap[g]? =some (.map e a)/\e[j]? =some c/\c.key=b h/\(c.born:Int)=i
variable{e:Int}{a:Nat}{j:Type}{v:Value}{o s:Value->World->Prop}{b k:World}{y:World->Prop}
theorem uE.af {S:Nat->Prop} {d:j->Value} {f:j} (g:uE b a d f e) (h:ak S b k) (i:¬S a):uE k a d f e:=by
 obtain⟨l,c,m,n,o,p⟩:=g;exact⟨l,c,m,n,h.get o i,p⟩
section
variable {κ:Type} [BEq κ] [LawfulBEq κ] {P:Program} {t kt vt:TypeId} {z:Value} {enc:κ->Value}
theorem Dd {κ e:Type} [BEq κ] [LawfulBEq κ] {b:κ} {f:e}:∀{c:List (κ×e)},aD c b=some f->aH c b f=c
 |(g,h)::c,a=>by
  unfold aD at a;unfold aH
  by_cases d:b==g
  ·rw [if_pos d]at a⊢
   obtain rfl:b=g:=by simpa using d
   cases a;rfl
  ·rw [if_neg d]at a⊢
   rw [Dd a]
theorem EW (w:lJ P t kt vt z) (n:gQ P kt enc) {e:List (κ×Value)} (x:bG b a enc e) {k:κ} 
  (p:∀w' C,bG w' a enc (aH e k ((aD e k).getD z))->uE w' a enc k C->ak (·=a) b w'->w'.heap.size=b.heap.size->o (.tuple #[(aD e k).getD z,.int .i64 C]) w'):aE P (Instr.mapEntry t (.map (some a)) (enc k)) b o s:=by
 obtain⟨d,c,j,l,y,E⟩:=x.at';have q:=iN n k d.toList e l b;have I:d.toList.length=e.length:=by have:=congrArg List.length l;simpa using this
 have r:=ay j;have h:=wh e k 0
 cases u:lA e k 0 with
 |none=>
  rw [u]at q h;have v:aD e k=none:=h.symm;rw [v]at p;have J:=w.KT b;refine aE.mk (w':={b with heap:=b.heap.setIfInBounds a (.map (d.push {key:=enc k,val:=z,born:=c}) (c+1))}) ?_ (p _ c ⟨⟨_,_,cF b a _ r,?_,?_,?_⟩,x.tidy.aH k z⟩ ⟨_,_,d.size,{key:=enc k,val:=z,born:=c},cF b a _ r,sM,rfl,rfl⟩ (ak.setObj b a _) sM)
  ·simp [Instr.mapEntry,run_underlying w.under,c_ j,dj n,q,dO j,J,goInt]
  ·rw [Option.getD_none,(qt u).1 z];simp [l]
  ·intro g i
   simp only [Array.toList_push,Q6,List.mem_singleton]at i;rcases i with i|rfl
   ·have:=y g i;omega
   ·show c<c+1;omega
  ·simp only [Array.toList_push,Q3,QY,List.map_nil]
   rw [List.nodup_append];refine⟨E,sM,?_⟩;intro K h L A T;simp only [List.mem_singleton]at A;obtain⟨g,i,rfl⟩:=Xk.1 h;have:=y g i;omega
 |some M=>
  obtain⟨f,F⟩:=M;rw [u]at q h;have v:aD e k=some F:=h.symm;obtain⟨_,N,H,O⟩:=mr u;rw [Nat.sub_zero]at N H O;have B:f<d.size:=by
                 have:d.size=e.length:=by simpa using I
                 omega
  have m:d[f].key=enc k:=by
   have:=congrArg (·[f]?) l;simp only [Q9,H,Option.map_some]at this;simp [B]at this;exact this.1
  have Q:(d.modify f λg=>{g with key:=enc k})=d:=by
   apply Array.ext
   ·simp
   ·intro U V W
    rw [Array.getElem_modify];split
    ·rename_i g;subst g
     cases R:d[f]with
     |mk K L o=>rw [R]at m;simp at m;simp [m]
    ·rfl
  rw [v]at p;refine aE.mk (w':={b with heap:=b.heap.setIfInBounds a (.map d c)}) ?_ (p _ (d[f].born) ⟨⟨_,_,cF b a _ r,?_,y,E⟩,x.tidy.aH k F⟩ ⟨_,_,f,d[f],cF b a _ r,by simp [B],m,rfl⟩ (ak.setObj b a _) sM)
  ·have S:(Instr.keyThatStays (enc k) (enc k)).run P b= .ok (enc k) b:=by simp [Instr.keyThatStays,n.same]
   simp [Instr.mapEntry,run_underlying w.under,c_ j,dj n,q,B,m,S,dO j,Q,goInt]
  ·rw [Option.getD_some,Dd v];exact l
theorem AJ (J:gQ P kt enc) {d:List (κ×Value)} (s:bG b a enc d) {i:κ} (K:uE b a enc i e) 
  (L:∀n,bG n a enc (aH d i v)->ak (·=a) b n->n.heap.size=b.heap.size->y n):iD P (Instr.entryStore t (.map (some a)) (.int .i64 e) v) b y o:=by
 obtain⟨g,l,p,u,M,z⟩:=s.at';obtain⟨N,q,c,j,m,O,A,Q⟩:=K;rw [p]at m;cases m
 subst Q;have R:g.toList.length=d.length:=by have:=congrArg List.length u;simpa using this
 have S:=ay p;obtain⟨r,rfl⟩:=Q5.1 O;have w:c<d.length:=by
                have:g.size=d.length:=by simpa using R
                omega
 have B:d[c]? =some (i,g[c].val):=by
  have:=congrArg (·[c]?) u;simp only [Q9,Qq w,Option.map_some]at this;simp [r]at this;have T:d[c].1=i:=J.inj (by rw [<-this.1,A]);rw [Qq w]
  congr 1
  exact Prod.ext T this.2.symm
 have U:aH d i v=d.set c (i,v):=by
  cases C:lA d i 0 with
  |none=>
   have E:=wh d i 0;rw [C]at E;have:=qu.1 E.symm;exact absurd (Xk.2 ⟨_,QZ B,rfl⟩) this
  |some V=>
   obtain⟨h,a2⟩:=V;obtain⟨_,f,F,H⟩:=mr C;rw [Nat.sub_zero]at f F H;have k:h=c:=by
    have W:(d.map (·.1))[h]? =some i:=by rw [Q9,F];rfl
    have X:(d.map (·.1))[c]? =some i:=by rw [Q9,B];rfl
    obtain⟨Y,Z⟩:=Qv.1 W;obtain⟨q3,q4⟩:=Qv.1 X;exact(List.getElem_inj (xs:=d.map (λe=>e.1)) (h₀:=Y) (h₁:=q3) (show(d.map (λe=>e.1)).Nodup from s.tidy)).1 (Z.trans q4.symm)
   rw [(H v).1,k]
 have a0:g.findIdx? (λj=>(j.born:Int)==(g[c].born:Int))=some c:=by
  rw [Array.findIdx?_eq_some_iff_getElem];refine⟨r,sM,λh f=>?_⟩;have a1:h<g.size:=oM
  have a3:g[h].born≠g[c].born:=λj=>by
   have:=(List.getElem_inj (xs:=g.toList.map (·.born)) (h₀:=by simpa using a1) (h₁:=by simpa using r) z).1 (by simpa using j);omega
  simp;omega
 refine iD.mk (w':={b with heap:=b.heap.setIfInBounds a (.map (g.modify c λj=>{j with val:=v}) l)}) ?_ (L _ ⟨⟨_,_,cF b a _ S,?_,?_,?_⟩,s.tidy.aH i v⟩ (ak.setObj b a _) sM)
 ·simp [Instr.entryStore,c_ p,asInt,asIntOf,a0,dO p]
 ·rw [U]
  apply X3;intro h;have f:=congrArg (·[h]?) u;simp only [Q9]at f;simp only [Array.toList_modify,Q9,Xj,List.getElem?_modify]
  by_cases k:c=h
  ·subst k
   simp [r,w,A]
  ·simp only [k,if_false,Option.map_map]at f⊢
   simpa using f
 ·intro j I
  rw [Array.toList_modify]at I;obtain⟨h,f⟩:=List.getElem?_of_mem I;rw [List.getElem?_modify]at f
  cases x:g.toList[h]? with
  |none=>rw [x]at f;simp at f
  |some e'=>
   rw [x]at f;have hm:=QZ x;have:=M e' hm
   by_cases k:c=h
   ·simp [k]at f;subst f;exact this
   ·simp [k]at f;subst f;exact this
 ·have:(g.modify c λj=>{j with val:=v}).toList.map (·.born)=g.toList.map (·.born):=by
   apply X3;intro h;simp only [Array.toList_modify,Q9,List.getElem?_modify,Option.map_map]
   by_cases k:c=h<;>simp [k]<;>rfl
  rw [this];exact z
end
end Go.au
namespace Go.Proofs.YthnilpgpacdmnaaGreatDoor
open Go.au
set_option linter.unusedVariables false
set_option maxRecDepth 20000
theorem uV {g:Type} {e:g->Int}:∀{f:List g},ck e f=0->∀c∈f,e c=0
 |[],_,c,b=>by cases b
 |y::f,a,c,b=>by
  unfold ck at a
  by_cases d:e y=0
  ·rw [d]at a
   simp only [bne_self_eq_false,Bool.false_eq_true,if_false]at a;rcases Q2.1 b with rfl|b
   ·exact d
   ·exact uV a c b
  ·rw [if_pos (by simpa using d)]at a
   exact absurd a d
variable{K:Bool}{t:Ending->World->Prop}{e n:Int}{d7:Int×Int}{c7:List a_}{H:List aj}{a c i l:Nat}{d p:Option Addr}{g:TypeId}{v:Value}{b:World}{J:aM}{d3:aU}{b5:a_}{m:aj}{d9:iw}
theorem jC (a:cO J=0):pX J=false/\(∀b∈J.types,∀e∈b,eO b e=0)/\∀f∈J.projs,kU J f=0:=by
 unfold cO at a;split at a
 ·simp at a
 ·rename_i g
  simp only at a;split at a
  ·rename_i c
   exact absurd a (by simpa using c)
  ·rename_i c
   refine⟨by simpa using g,λb h=>?_,uV a⟩;have d:ck (λb=>ck (eO b) b) J.types=0:=by simpa using c
   exact uV (uV d b h)
theorem uX (a:pX J=false):1<=J.types.length/\J.types.length<=8/\J.projs.length<=8/\∀b∈J.types,1<=b.length/\b.length<=8:=by
 unfold pX at a;split at a
 ·cases a
 ·rename_i c
  simp only [Bool.or_eq_true,Bool.not_eq_true',decide_eq_true_eq,not_or,Bool.not_eq_false,Nat.not_lt]at c;obtain⟨c,d⟩:=c;rw [bj]at c;refine⟨oM,oM,d,λb e=>?_⟩;rw [List.any_eq_false]at a;have:=a b e;simp only [Bool.or_eq_true,Bool.not_eq_true',not_or,Bool.not_eq_false]at this;have:=bj.1 this.1;omega
theorem Rm (a:eO c7 b5=0):∀b∈b5.bh,b.jY<(c7.length:Int):=by
 intro b d;unfold eO at a;split at a
 ·simp at a
 split at a
 ·simp at a
 split at a
 ·simp at a
 split at a
 ·simp at a
 ·rename_i c
  rw [Bool.not_eq_true,List.any_eq_false]at c;have:=c b d
  by_cases e:b.jY= -1
  ·omega
  ·have:Ps c7 b.jY 1=true:=by
    simpa [e]using this
   unfold Ps at this;simp only [QK]at this;have:=bj.1 this.1;omega
theorem pG (a:J.Br e n=some b5):0<=e/\e<(J.types.length:Int)/\J.at e=J.types.getD e.toNat []/\0<=n/\n<((J.at e).length:Int)/\(J.at e).getD n.toNat ⟨0,0,false,[]⟩=b5/\b5∈J.at e:=by
 unfold aM.Br at a;split at a
 ·rename_i b
  simp only [QK,bj]at b;refine⟨b.1.1,oM,?_,b.2.1,oM,by rw [QQ,a];rfl,QZ a⟩;unfold aM.at;rw [if_pos (bj.2 b.1)]
 ·cases a
theorem at_mem (b:0<=e) (c:e<(J.types.length:Int)):J.at e∈J.types:=by
 unfold aM.at;rw [if_pos (bj.2 ⟨b,oM⟩)];have a:e.toNat<J.types.length:=oM
 have:J.types.getD e.toNat []=J.types[e.toNat]:=by simp [QQ,a]
 rw [this];exact XY a
theorem EH (o:cO J=0) {b d g arg:Int} (a:iI J b d g arg=0) {cells:List cH} (p:cells.length=(J.at b).length):
  Gm (J.at b) cells d g arg/\0<=b/\b<(J.types.length:Int)/\(J.at b).length<=8:=by
 obtain⟨q,r,z⟩:=jC o;obtain⟨A,B,C,s⟩:=uX q;unfold iI at a
 cases e:J.Br b d with
 |none=>rw [e]at a;simp at a
 |some c=>
  rw [e]at a;simp only at a;obtain⟨h,i,E,t,u,v,w⟩:=pG e;split at a
  ·simp at a
  ·rename_i j
   split at a
   ·simp at a
   ·rename_i k
    simp only [Bool.or_eq_true,Bool.not_eq_true',not_or,Bool.not_eq_false]at j k;have l:=bj.1 j.1;have m:=at_mem h i;refine⟨⟨t,u,p,l.1,l.2,λx=>?_⟩,h,i,(s _ m).2⟩;rw [v];have y:=Rm (r _ m c w);have f:within arg 0 (c.bh.length-1)=true:=by
     have:=k.2;simp only [QK,beq_iff_eq,Bool.not_eq_true',not_and,Bool.not_eq_false]at this;exact this x
    have f:=bj.1 f;have n:arg.toNat<c.bh.length:=oM
    refine⟨f.1,oM,?_⟩;have:c.bh.getD arg.toNat ⟨0,0,0,0⟩=c.bh[arg.toNat]:=by simp [QQ,n]
    rw [this];exact y _ (XY n)
structure aU.OK (V:aU):Prop where
 decl:cO V.decl=0
 st:∀x∈V.dR,x.2.cells.length=(V.decl.at x.1.1).length
theorem Lk (b:List a_) (a:List cH) (c d arg:Int):(PH b a c d arg).length=a.length:=by
 unfold PH
 simp only;split
 ·simp
 split
 ·simp
 split
 ·simp
 split
 ·simp
 split
 ·simp
 ·rfl
def aU.cellsOf (b:aU) (a:aj):List cH:=match aD b.dR (a.aT,a.agg)with
 |some c=>c.cells
 |none=>cP (b.decl.at a.aT)
theorem aU.OK.len (b:d3.OK) (a:aj):(d3.cellsOf a).length=(d3.decl.at a.aT).length:=by
 unfold aU.cellsOf
 cases c:aD d3.dR (a.aT,a.agg)with
 |none=>simp [cP]
 |some d=>exact b.st _ (bQ c)
theorem aU.qx (b:aU) (a:aj):b.try a=if iI b.decl a.aT a.field a.op a.arg≠0 then(true,(0,0),b)else
  match((aD b.done (a.aT,a.agg,a.field)).getD []).find? λc=>lg ((b.decl.at a.aT).getD a.field.toNat ⟨0,0,false,[]⟩) c a with
  |some c=>(true,aR c,b)
  |none=>if ve (b.decl.at a.aT) (b.cellsOf a) a.field a.op a.arg≠0 then(true,(0,0),b)else
   (false,(0,0),{b with dR:=aH b.dR (a.aT,a.agg) ⟨nE (((aD b.dR (a.aT,a.agg)).getD ⟨0,[]⟩).version+1),PH (b.decl.at a.aT) (b.cellsOf a) a.field a.op a.arg⟩,done:=aH b.done (a.aT,a.agg,a.field) ((aD b.done (a.aT,a.agg,a.field)).getD []++[a])}):=rfl
theorem aU.Pp (a:d3.OK) (c:aj):(d3.try c).2.2.OK/\(d3.try c).2.2.decl=d3.decl:=by
 rw [aU.qx];split
 ·exact⟨a,rfl⟩
 split
 ·exact⟨a,rfl⟩
 split
 ·exact⟨a,rfl⟩
 ·refine⟨⟨a.decl,λd b=>?_⟩,rfl⟩
  rcases eG b with rfl|b
  ·show(PH _ _ _ _ _).length=_
   rw [Lk,a.len]
  ·exact a.st d b
theorem aU.yI (c:d3.OK) (a:aj):(d3.add a).2.OK/\(d3.add a).2.decl=d3.decl:=by
 obtain⟨b,d⟩:=aU.Pp c a;exact⟨⟨b.decl,b.st⟩,d⟩
theorem aU.rV (a:cO J=0):(aU.new J).OK:=⟨a,λc b=>by cases b⟩
def Kk:eg cC Int where
 k:=13
 ci:=aG
 ib:=8
 inner:=(·.ev.aN)
 hd:=λa b c d=>aB a.ev b c d++[.bool a.void,.int .i64 a.DG.1,.int .i64 a.DG.2]
 ok:=λa=>a.ev.Ok
 hl:=λ_ _ _ _=>rfl
 h1:=λa b c d f e=>by
  simp only [aB,List.cons_append,List.nil_append,Q2,List.not_mem_nil,or_false]at e;rcases e with rfl|rfl|rfl|rfl|rfl|rfl|rfl|rfl|rfl|rfl|rfl|rfl|rfl<;>rfl
 o:=3
 ho:=dC
 eR:=λ_ _ _ _ _ _ _=>rfl
abbrev xt:jk cC:=Kk.Lz
abbrev gg (a:cC) (b:Option Addr) (c d:Nat):List Value:=aB a.ev b c d++[.bool a.void,.int .i64 a.DG.1,.int .i64 a.DG.2]
theorem Pj:ix Tryz.prog 52 160 13 120:=⟨kR,kR,dC⟩
theorem ko (a:cC) (b:Option Addr) (c d:Nat):gP Tryz.prog 160 (gg a b c d)=true:=kR
theorem Nh (a:cC) (b:Option Addr) (c d:Nat):Pw (dT Tryz.prog 160) (.agg (gg a b c d).toArray)=true:=kR
theorem Pl:Im Tryz.prog 246 3:=⟨kR,kR,⟨"typ", "no",kR,dC,dC⟩,kR,kR,kR⟩
theorem Rk:uU Tryz.prog 308 246 3:=⟨Pl,kR,⟨"agg", "field",kR,dC,dC⟩,kR,kR,kR⟩
theorem Tb:gQ Tryz.prog 246 nI:=Pl.key
theorem Vs:gQ Tryz.prog 308 Bp:=Rk.key
theorem Vt:lJ Tryz.prog 238 246 51 (.agg #[.int .i64 0,.slice none 0 0]):=⟨kR,kR⟩
theorem VD:lJ Tryz.prog 239 308 40 (.slice none 0 0):=⟨kR,kR⟩
inductive Ic where
 |self|st|dn|MW|Pm|Uf
 |done (k:Int×Int×Int)
structure DE where
 ta:Option Addr
 tn:Nat
 tc:Nat
 pa:Option Addr
 pn:Nat
 pc:Nat
 ea:Option Addr
 en:Nat
 ec:Nat
 r1:Nat
 r2:Nat
 l1:List ((Int×Int)×Value)
 l2:List ((Int×Int×Int)×Value)
 cls:Nat->Ic
abbrev DE.P (b:DE) (c:Nat->Prop) (d:Ic):Nat->Prop:=λa=>c a/\b.cls a=d
def Ur (d:World) (D:Nat->Prop) (e:Value) (a:lr):Prop:=∃b c f,e= .agg #[.int .i64 a.version,.slice b c f]/\Row eP 32 d D b c a.cells
def Us (d:World) (D:Nat->Prop) (e:Value) (f:List aj):Prop:=∃a b c,e= .slice a b c/\aO f_ 60 D d a b c f
structure xp (w:World) (p:Nat) (F:Nat->Prop) (V:aU) (q:DE):Prop where
 at':w.heap[p]? =some (.cells #[.slice q.ta q.tn q.tc,.slice q.pa q.pn q.pc,.slice q.ea q.en q.ec,.map (some q.r1),.map (some q.r2)] 241 (0,0))
 Pm:aW w (q.P F .Pm) V.decl q.ta q.tn q.pa q.pn
 MW:aO xt 160 (q.P F .MW) w q.ea q.en q.ec V.entries
 st:bG w q.r1 nI q.l1
 Ug:eN (Ur w (q.P F .Uf)) q.l1 V.dR
 dn:bG w q.r2 Bp q.l2
 Ut:nn (λk=>Us w (q.P F (.done k))) q.l2 V.done
 aC:∀b,F b->b<w.heap.size
 lp:F p/\q.cls p= .self
 l1:F q.r1/\q.cls q.r1= .st
 l2:F q.r2/\q.cls q.r2= .dn
def cd (b:World) (c:Nat) (d:Nat->Prop) (a:aU):Prop:=a.OK/\∃e,xp b c d a e
section
variable {w w':World} {p:Nat} {F T D:Nat->Prop} {V:aU} {q:DE}
theorem Ur.af {a:lr} (c:Ur w D v a) (d:ak T w w') (e:∀b,D b->¬T b):Ur w' D v a:=by
 obtain⟨f,g,h,i,j⟩:=c;exact⟨f,g,h,i,j.af d e⟩
theorem Us.af (b:Us w D v H) (c:ak T w w') (d:∀a,D a->¬T a):Us w' D v H:=by
 obtain⟨e,f,g,h,i⟩:=b;exact⟨e,f,g,h,i.af c d⟩
theorem xp.af (a:xp w p F V q) (d:ak T w w') (e:∀b,F b->¬T b):xp w' p F V q:=
 ⟨d.get a.at' (e _ a.lp.1),a.Pm.af d λb c=>e b c.1,a.MW.af d λb c=>e b c.1,a.st.af d (e _ a.l1.1),a.Ug.mono λg h f=>f.af d λb c=>e b c.1,
  a.dn.af d (e _ a.l2.1),a.Ut.mono λi g h f=>f.af d λb c=>e b c.1,λb c=>Qk (a.aC b c) d.size,a.lp,a.l1,a.l2⟩
theorem xp.ah (a:xp w p F V q) (b:ai w w'):xp w' p F V q:=a.af b λ_ _ a=>a
theorem cd.af (a:cd w p F V) (c:ak T w w') (d:∀b,F b->¬T b):cd w' p F V:=⟨a.1,a.2.imp λq e=>e.af c d⟩
theorem cd.ah (a:cd w p F V) (b:ai w w'):cd w' p F V:=a.af b λ_ _ a=>a
theorem cd.aC (b:cd w p F V):∀a,F a->a<w.heap.size:=b.2.elim λq c=>c.aC
theorem cd.self (a:cd w p F V):F p:=a.2.elim λq b=>b.lp.1
theorem FU {m n:Option Addr} {tn v o x:Nat} (y:cO J=0) (z:aW w D J m tn n o) (A:∀a,D a->a<w.heap.size):
  Calls Tryz.prog 80 #[.agg #[.slice m tn v,.slice n o x]] w (Ok λB w'=>∃p F,B= .pointer (some ⟨p,0,none⟩)/\cd w' p F (aU.new J)/\(∀a,F a->w.heap.size<=a)/\ai w w'):=by
 refine II (PA.mk λL q M r=>⟨_,_,_,_,_,_,ae r rfl,ae r rfl,PC.ok (BW (z.ah q) λa b=>by have:=A a b;omega) ?_⟩);rintro _ e ⟨g,BX,h,i,j,k,G,rfl,C,E,s⟩;refine⟨_,_,_,_,_,_,rfl,PA.mk λc t N H=>PA.mk λd l O I=>PA.mk λu f P K=>Ok.mk ⟨d.heap.size,λa=>w.heap.size<=a/\a<u.heap.size,rfl,⟨aU.rV y,
  ⟨⟨g,BX,h,i,j,k,none,0,0,e.heap.size,c.heap.size,[],[],λa=>if a=d.heap.size then .self else if a=e.heap.size then .st else if a=c.heap.size then .dn else .Pm⟩,?_⟩⟩,λa b=>b.1,((q.then s).then t).then (l.then f)⟩⟩
 have Q:=s.size;refine⟨K,?_,?_,bG.new (f.get (l.get H id) id),trivial,bG.new (f.get I id),trivial,λa b=>b.2,⟨⟨by show w.heap.size<=d.heap.size;omega,by show d.heap.size<_;omega⟩,if_pos rfl⟩,⟨⟨by show w.heap.size<=e.heap.size;omega,by show e.heap.size<_;omega⟩,?_⟩,⟨⟨by show w.heap.size<=c.heap.size;omega,by show c.heap.size<_;omega⟩,?_⟩⟩
 ·refine(((C.ah t).ah l).ah f).mono λa b=>?_
  have:=E a b;refine⟨⟨oM,oM⟩,?_⟩;show(if a=d.heap.size then _ else _)=_;rw [if_neg oM,if_neg oM,if_neg oM]
 ·exact(aO.nil u).mono (λa b=>b.elim) λa b=>b.1.2
 ·show(if e.heap.size=d.heap.size then _ else _)=_
  rw [if_neg oM,if_pos rfl]
 ·show(if c.heap.size=d.heap.size then Ic.self else if c.heap.size=e.heap.size then Ic.st else if c.heap.size=c.heap.size then Ic.dn else Ic.Pm)=Ic.dn
  rw [if_neg oM,if_neg oM,if_pos rfl]
abbrev FH:lr:=⟨0,[]⟩
theorem mC (k:cd w p F V) :
  Calls Tryz.prog 84 #[.pointer (some ⟨p,0,none⟩),.int .i64 e,.int .i64 n] w (Ok λs w'=>∃c d f G,s= .tuple #[.agg #[.int .i64 ((V.state e n).getD FH).version,.slice c d f],.bool (V.state e n).isSome]/\aO eP 69 G w' c d f ((V.state e n).getD FH).cells/\(∀a,G a->w.heap.size<=a)/\ai w w'):=by
 obtain⟨T,q,k⟩:=k;refine tB (PA.mk λt u U A=>?_);have j:=k.ah u;refine⟨p,0,rfl,_,ae j.at' rfl,lK (enc:=nI) (k:=(e,n)) Vt Tb j.st ?_⟩;obtain⟨i,a,c,d,f,g,h,B,C,l⟩:∃(i:lr) (a:Bool) (c:Option Addr) (d f:Nat),(aD q.l1 (e,n)).getD (.agg #[.int .i64 0,.slice none 0 0])= .agg #[.int .i64 i.version,.slice c d f]/\(aD q.l1 (e,n)).isSome=a/\(V.state e n).getD FH=i/\(V.state e n).isSome=a/\Row eP 32 t (q.P F .Uf) c d i.cells:=by
  unfold aU.state;rcases j.Ug.aD (e,n)with⟨g,h⟩|⟨s,i,g,h,c,d,f,rfl,l⟩
  ·exact⟨FH,false,none,0,0,by rw [g];rfl,by rw [g];rfl,by rw [h];rfl,by rw [h];rfl,Row.nil _ _⟩
  ·exact⟨i,true,c,d,f,by rw [g];rfl,by rw [g];rfl,by rw [h];rfl,by rw [h];rfl,l⟩
 rw [g,h,B,C];refine⟨_,_,_,_,_,rfl,PA.mk λW E X H=>PS.mk H sM λY I Z J=>PS.mk J sM λK L s7 v=>?_⟩;have m:ai t K:=(E.new I λa b=>.inr oM).new L λa b=>.inr oM;refine⟨_,_,_,_,ae v rfl,ae v rfl,PC.ok (Jc (l.ah m) λa b=>by have:=j.aC a b.1;omega) ?_⟩;rintro _ w8 ⟨M,N,O,G,rfl,P,o,r⟩;have Q:=r.get (m.get A id) id;have z8:=r.size;refine⟨_,_,_,_,rfl,PS.mk Q sM λw9 x s9 R=>PS.mk R sM λa0 y a1 z=>⟨_,_,_,_,ae z rfl,ae z rfl,Ok.mk ⟨M,N,O,G,rfl,?_,?_,?_⟩⟩⟩
 ·exact(P.af x λa b S=>by have:=o a b;omega).af y λa b S=>by have:=o a b;omega
 ·intro a b;have:=o a b;omega
 ·exact(((u.then m).then r).new x λa b=>.inr oM).new y λa b=>.inr oM
end
set_option maxRecDepth 100000
def xY:fq:=⟨[],[(5,[])],[],[],[(3,⟨[0,1,2,4,12,16,48,80,144,16,528,1296,2064,4112,8208,16400,32768,98304,163840,262144,786432,1310720,2392064,4227072],[16777215,16777214,16777213,16777211,16777207,16777199,16777167,16777135,16777071,16777199,16776687,16775919,16775151,16773103,16769007,16760831,16744447,16678911,16613375,16515071,15990783,15466495,14385151,12550143],[0,1,2,0,0,0,1,0,1,0,1,0,0,0,0,0,0,1,0,0,1,0,0,0]⟩)]⟩
theorem xZ (y:PA b (.cells #[.slice d a c] 107) λg=>PA g (.cells #[.ii e,.ii n,.bool K,.slice p i l] 110) λq=>(rI q (ab_ g 0) λz=>PC_ 99 #[.ii z,.ii 1,.ii 4] q (kB λA r=>al (!A) (rt t ((.ii 2)) r) ((∃h:World->Prop,((∀j,bd r j->(rI j (ab_ g (0+1)) λB=>PC_ 99 #[.ii B,.ii 1,.ii 3] j (kB λC f=>al (!C) (rt t ((.ii 1)) f) ((rI f (ab_ g 0) λk=>(∃s u,((some (ad 0 0)):Option Addr)=some ⟨s,u,none⟩/\(0:Int)<=k/\k<(5:Int)/\(rI f (ad s (u+Int.toNat k)) λE=>(rI f (ab_ g (0+1)) λD=>(∃v,(∀w,(eq_ .shr 3 (.tmp 19) (.tmp 21) (.ii E) (.ii D)).run Tryz.prog w= .ok (.ii v) w)/\al (((zb .i64 v 1):Int)==0) (rt t ((.ii 1)) f) ((rB f (ab_ g (0+2)) λF=>al F ((rI f (ab_ g 0) λH=>al (H !=1) (rt t ((.ii 1)) f) (h f))) (h f)))))))))) (pZ t))))/\∀(Q:Nat->Value) (m:World),h m->(rS m (ab_ g (0+3)) λG I J=>PC_ 103 #[.slice G I J,.func (.func 100) #[] #[]] m (kB λL o=>al L (rt t ((.ii 1)) o) ((rS o (ab_ g (0+3)) λM N O=>PC_ 103 #[.slice M N O,.func (.func 101) #[] #[.pointer (some (ab_ b 0))]] o (kB λP x=>al P (rt t ((.ii 8)) x) (rt t ((.ii 0)) x)) (pE t)))) (pE t))))) (pE t))):Calls Tryz.prog 50 #[.agg #[.slice d a c],.agg #[.ii e,.ii n,.bool K,.slice p i l]] b t:=DC xY Tryz.func50 rfl y
set_option maxRecDepth 20000
section
variable {w w':World} {D D' S:Nat->Prop} {d:aM} {ta pa:Option Addr} {tn tc pn pc:Nat}
theorem wC {b c op arg:Int} (S:eu w) (l:aW w D d ta tn pa pn) (T:∀h,D h->h<w.heap.size):
  Calls Tryz.prog 147 #[.agg #[.slice ta tn tc,.slice pa pn pc],.int .i64 b,.int .i64 c,.int .i64 op,.int .i64 arg] w (Ok λg w'=>g= .int .i64 (iI d b c op arg)/\ai w w'):=by
 refine BM (PA.mk λw1 C s1 E=>⟨_,_,_,_,_,_,ae E rfl,ae E rfl,PC.ok (nw (l.ah C) λh t=>by have:=T h t;omega) ?_⟩);rintro g w2 ⟨U,q⟩;have r:=C.then U
 cases m:d.Br b c with
 |none=>
  rw [m]at q;refine bF (Hz TW none 0 0) ⟨_,q,PA.mk λV u W v=>az (eD _ _ _ _) v rfl λX x Y F=>al.tt rfl (Ok.mk ⟨?_,(r.then u).new x λh t=>.inr (by have:=r.size;omega)⟩)⟩;unfold iI;rw [m]
 |some i=>
  rw [m]at q;obtain⟨s,j,H,a5,rfl,Z,hF⟩:=q;have y:iI d b c op arg=if !within op 1 5||pK op !=i.kind then 2 else if op==1&&arg==0||op==5&& !within arg 0 (i.bh.length-1)then 1 else 0:=by unfold iI;rw [m]
  have hz:=r.size;refine bF (Hz i s j H) ⟨_,rfl,PA.mk λV u W v=>az (eD i s j H) v rfl λX x Y F=>al.ff rfl λz I=>PC.ok bU ?_⟩;rintro _ _ ⟨rfl,rfl⟩;have J:=(bd.af (S:=λ_=>False) I).get F id;have K:ai w z:=((r.then u).new x λh t=>.inr oM).then I.af;have a:∀A:Int,iI d b c op arg=A->Ok (λg w'=>g= .int .i64 (iI d b c op arg)/\ai w w') (.returned (.int .i64 A)) z:=λA l=>Ok.mk ⟨by rw [l],K⟩;refine⟨_,rfl,al.not (al.mk (λf=>?_) (λf=>a 2 (by rw [y,f];rfl)))⟩;have a6:=bj.1 f;refine⟨1,0,rfl,oM,oM,pK op,?_,_,ae J rfl,al.df (λa0=>a 2 ?_) (λhe=>?_)⟩
  ·have:=(S.ah K).kinds op.toNat oM
   rw [Xz,this,Int.toNat_of_nonneg oM]
  ·rw [y,f,if_pos (by simpa using a0)]
  have n:iI d b c op arg=if op==1&&arg==0||op==5&& !within arg 0 (i.bh.length-1)then 1 else 0:=by rw [y,f,he];simp
  have hn:j=i.bh.length:=Z.len dC;have a7:j<=140737488355328:=by
   obtain⟨a1,BX,L,-⟩:∃(s:Option Addr) (j:Nat),Row fp 32 w D s j i.bh/\True:=by
    obtain⟨k,o,a8,a3,a9,B,h3,h4⟩:=aM.pG m;have b0:=l.aT.len;obtain⟨h,a2,T',es,rfl,_,_,p,M,b1,n1,c1,rfl,N⟩:=l.aT.at (i:=b) k oM;rw [a3]at p;cases p
    have b2:=N.len;obtain⟨b3,b4,x',b5,rfl,_,_,O,b6,b7,n2,c2,rfl,hM,_⟩:=N.at (i:=c) B oM;rw [h4]at O;cases O
    exact⟨_,_,hM,trivial⟩
   have o:=L.len;have B:=L.dt;unfold aI at B;omega
  have bh:∀{P:List PanicEntry->World->Prop},op=5->PC Tryz.prog 99 #[.int .i64 arg,.int .i64 0,.int .i64 (IntKind.wrap .i64 ((j:Int)-1))] z (λa4 Q=>∃R:Bool,a4= .bool R/\al (!R) (Ok (λg w'=>g= .int .i64 (iI d b c op arg)/\ai w w') (.returned (.int .i64 1)) Q) (Ok (λg w'=>g= .int .i64 (iI d b c op arg)/\ai w w') (.returned (.int .i64 0)) Q)) P:=by
   intro P e;refine PC.ok bU ?_;rintro _ _ ⟨rfl,rfl⟩;rw [wrap_i64 (by unfold aK;omega),hn];refine⟨_,rfl,al.not (al.mk (λf=>a 0 ?_) (λf=>a 1 ?_))⟩
   ·rw [n,f,e];rfl
   ·rw [n,f,e];rfl
  refine al.dJ (λo=>al.dJ (λk=>al.dJ (λ_=>a 1 (by rw [n,o,k];rfl)) (λM=>absurd k M)) (λk=>al.dJ (λe=>absurd e oM) (λe=>a 0 ?_))) (λo=>al.dJ (λe=>⟨_,_,_,ae J rfl,bh e⟩) (λe=>a 0 ?_))
  ·rw [n,if_neg (by simp [k,e])]
  ·rw [n,if_neg (by simp [o,e])]
theorem Dx {h:Option Addr} (d:Row nQ 48 w D h a c7):
  Calls Tryz.prog 102 #[.agg #[.slice h a c],.int .i64 e,.int .i64 n] w (Ok λk w'=>k= .bool (Ps c7 e n)/\ai w w'):=by
 have i:=d.len;have l:=d.dt;unfold aI at l;refine Gu (PA.mk λq f r j=>⟨_,_,_,ae j rfl,PC.ok bU ?_⟩);rintro _ _ ⟨rfl,rfl⟩;rw [wrap_i64 (by unfold aK;omega)];refine⟨_,rfl,al.mk (λb=>?_) (λb=>Ok.mk ⟨?_,f⟩)⟩
 ·have s:=bj.1 b
  obtain⟨m,g,t,u,rfl,_,_,o,p,v,x,y,rfl,_⟩:=(d.ah f).at (i:=e) oM oM;refine⟨_,_,_,ae j rfl,m,g,rfl,oM,oM,_,p 0 dC,Ok.mk ⟨?_,f⟩⟩;unfold Ps;rw [<-i,b,o];rfl
 ·unfold Ps;rw [<-i,b];rfl
theorem QP (b:1<=e/\e<=4) (c:1<=n/\n<=3):∃a:Int,(∀w',(do eqGuard .shr 3 (.tmp 19) (.tmp 21) (.int .i64 (([0,2,14,6,6]:List Int).getD e.toNat 0)) (.int .i64 n);binOp .shr 3 (.int .i64 (([0,2,14,6,6]:List Int).getD e.toNat 0)) (.int .i64 n):Sem Value).run Tryz.prog w'= .ok (.int .i64 a) w')/\((zb .i64 a 1==0)= !SH e n):=by
 refine⟨(([0,2,14,6,6]:List Int).getD e.toNat 0).fdiv (2 ^ n.toNat),?_,?_⟩<;>rcases(by omega:e=1\/e=2\/e=3\/e=4)with rfl|rfl|rfl|rfl<;>rcases(by omega:n=1\/n=2\/n=3)with rfl|rfl|rfl<;>first
  |(intro w';kernel_rfl)
  |decide
def JZ (m:jo):Bool:=decide (m.bD<0)||decide (m.oA<0)||m.jY== -1&&m.least !=0
theorem QR {d:jo}:Calls Tryz.prog 100 (#[]++ #[.agg (mE d).toArray]++ #[]) w (Ok λg w'=>g= .bool (JZ d)/\ai w w'):=by
 refine vv (PA.mk λh b i c=>⟨_,ae c rfl,al.dec (λa=>Ok.mk ⟨by simp [JZ,a],b⟩) (λe=>⟨_,ae c rfl,al.dec (λa=>Ok.mk ⟨by simp [JZ,a],b⟩) (λf=>⟨_,ae c rfl,al.dJ (λa=>⟨_,ae c rfl,Ok.mk ⟨by simp [JZ,e,f,a],b⟩⟩) (λa=>Ok.mk ⟨by simp [JZ,e,f,a],b⟩)⟩)⟩)⟩)
def HP (b:List a_) (a:jo):Bool:=a.jY != -1&& !Ps b a.jY 1
theorem QS {d:jo} {f:Option Addr} (j:Row nQ 48 w D f c c7) (k:w.heap[a]? =some (.cells #[.slice f c i] g (0,0))):
  Calls Tryz.prog 101 (#[]++ #[.agg (mE d).toArray]++ #[.pointer (some ⟨a,0,none⟩)]) w (Ok λl w'=>l= .bool (HP c7 d)/\ai w w'):=by
 refine vw (PA.mk λn b o h=>⟨_,ae h rfl,al.df (λe=>⟨_,_,_,ae (b.get k id) rfl,_,ae h rfl,PC.ok (Dx (j.ah b)) ?_⟩) (λe=>Ok.mk ⟨by simp [HP,e],b⟩)⟩);rintro _ p ⟨rfl,m⟩;exact⟨_,rfl,Ok.mk ⟨by unfold HP;rw [show(d.jY != -1)=true by simpa using e];simp,b.then m⟩⟩
theorem Fu {y z:Option Addr} (H:eu w) (I:Row nQ 48 w D y a c7) (A:Row fp 32 w D z i b5.bh):
  Calls Tryz.prog 50 #[.agg #[.slice y a c],.agg (di b5 z i l).toArray] w (Ok λp w'=>p= .int .i64 (eO c7 b5)/\ai w w'):=by
 refine xZ (PA.mk λU J V K=>PA.mk λq B W r=>⟨_,ae r rfl,PC.ok bU ?_⟩);rintro _ _ ⟨rfl,rfl⟩;have C:=J.then B;refine⟨_,rfl,al.not (al.mk (λg=>?_) (λg=>Ok.mk ⟨by unfold eO;rw [g];rfl,C⟩))⟩;have s:=bj.1 g;refine⟨λw'=>ai w w'/\q.heap.size<=w'.heap.size/\ai q w'/\within b5.dK 1 3=true/\SH b5.kind b5.dK=true/\(b5.floor&&b5.kind !=1)=false,λn E=>?_,?_⟩
 ·have e:=(bd.af (S:=λ_=>False) E).get r id
  have f:ai q n:=E.af;have b:ai w n:=C.then f;have h:eO c7 b5=1->Ok (λp w'=>p= .int .i64 (eO c7 b5)/\ai w w') (.returned (.int .i64 1)) n:=λm=>Ok.mk ⟨by rw [m],b⟩;refine⟨_,ae e rfl,PC.ok bU ?_⟩;rintro _ _ ⟨rfl,rfl⟩;refine⟨_,rfl,al.not (al.mk (λd=>?_) (λd=>h (by unfold eO;rw [g,d];rfl)))⟩;have t:=bj.1 d;obtain⟨L,M,N⟩:=QP s t;refine⟨_,ae e rfl,0,0,rfl,oM,oM,_,by rw [Xz];exact(H.ah b).TX b5.kind.toNat oM,_,ae e rfl,L,M,?_⟩;rw [N];refine al.not (al.mk (λj=>⟨_,ae e rfl,al.mk (λu=>⟨_,ae e rfl,al.df (λO=>h ?_) (λP=>⟨b,f.size,f,d,j,by simp [P]⟩)⟩) (λu=>⟨b,f.size,f,d,j,by simp [u]⟩)⟩) (λj=>h (by unfold eO;rw [g,d,j];rfl)));unfold eO;rw [g,d,j,u];simp [O]
 ·rintro X n ⟨b,Y,f,d,j,Q⟩
  have e:=f.get r id;have v:eO c7 b5=if b5.bh.any JZ then 1 else if b5.bh.any (HP c7)then 8 else 0:=by
   unfold eO;rw [g,d,j,Q];rfl
  refine⟨_,_,_,ae e rfl,PC.ok (HO (p:=JZ) (A.ah b) kR λR S k=>QR) ?_⟩;rintro _ S ⟨rfl,k⟩;refine⟨_,rfl,al.mk (λm=>Ok.mk ⟨by rw [v,if_pos m],b.then k⟩) (λm=>⟨_,_,_,ae (k.get e id) rfl,PC.ok (HO (p:=HP c7) (A.ah (b.then k)) kR λR T o=>QS (I.ah ((b.then k).then o)) (o.get (k.get (f.get (B.get K id) id) id) id)) ?_⟩)⟩;rintro _ T ⟨rfl,o⟩;have F:=(b.then k).then o;exact⟨_,rfl,al.mk (λx=>Ok.mk ⟨by rw [v,m,x];rfl,F⟩) (λx=>Ok.mk ⟨by rw [v,m,x];rfl,F⟩)⟩
theorem SU {a c kind:Int} (e:(d.Br a c).isSome):∃b,d.types[a.toNat]? =some b/\d.at a=b/\0<=a/\a<d.types.length:=by
 obtain⟨k,f⟩:=Option.isSome_iff_exists.1 e;obtain⟨g,h,b,i,j,_⟩:=aM.pG f;exact⟨b,i,j,g,h⟩
theorem Fw (s:aW w D d ta tn pa pn) (P:∀a,D a->a<w.heap.size):
  Calls Tryz.prog 51 #[.agg #[.slice ta tn tc,.slice pa pn pc],.agg (mD d9).toArray] w (Ok λE w'=>E= .int .i64 (kU d d9)/\ai w w'):=by
 refine zj (PA.mk λZ F s1 t=>PA.mk λw2 i s2 n=>⟨_,_,_,_,_,_,ae (i.get t id) rfl,ae (i.get t id) rfl,_,ae n rfl,_,ae n rfl,PC.ok (nw (s.ah (F.then i)) λa e=>by have:=P a e;omega) ?_⟩);rintro E w3 ⟨j,o⟩;have u:=(F.then i).then j;have hz:=j.size
 cases k:d.Br d9.aT d9.field with
 |none=>
  rw [k]at o;refine bF (Hz TW none 0 0) ⟨_,o,PA.mk λQ f R v=>az (eD _ _ _ _) v rfl λp g S T=>al.tt rfl (Ok.mk ⟨?_,(u.then f).new g λa e=>.inr oM⟩)⟩;unfold kU;rw [k];rfl
 |some H=>
  rw [k]at o;obtain⟨I,J,K,a0,rfl,ho,hF⟩:=o;have L:(d.Br d9.aT d9.field).isNone=false:=by rw [k];rfl
  refine bF (Hz H I J K) ⟨_,rfl,PA.mk λQ f R v=>az (eD H I J K) v rfl λp g S T=>al.ff rfl ⟨λa w'=>a=(d9.group==3&& !Ps (d.at d9.aT) d9.DG 2||d9.group !=3&&d9.DG !=0)/\ai p w',?_,?_⟩⟩
  ·have U:ai w p:=(u.then f).new g λa e=>.inr oM
   intro x V;have b:ai p x:=V.af;have W:=b.get (g.get (f.get (j.get (i.get t id) id) id) oM) id;have c:=b.get (g.get (f.get (j.get n id) id) oM) id;refine⟨_,ae c rfl,al.dJ (λh=>⟨_,_,_,ae W rfl,_,ae c rfl,?_⟩) (λh=>⟨_,ae c rfl,al.df (λ_=>⟨_,ae c rfl,?_,b⟩) (λl=>absurd l h)⟩)⟩
   ·obtain⟨a1,X,M,N,h1⟩:=SU (kind:=0) (by rw [k];rfl:(d.Br d9.aT d9.field).isSome)
    have hl:=s.aT.len;obtain⟨a,y,T',es,rfl,_,_,m,l,a2,n1,c1,rfl,Y⟩:=((s.ah (U.then b)).aT).at (i:=d9.aT) N oM;rw [X]at m;cases m
    have O:=l 0 dC;simp only [jE,Nat.mul_one,Nat.add_zero]at O;refine⟨a,y,rfl,N,oM,_,_,_,O,_,ae c rfl,PC.ok (Dx Y) ?_⟩;rintro _ w7 ⟨rfl,z⟩;refine⟨_,rfl,al.not (al.mk (λA=>⟨_,ae (z.get c id) rfl,al.df (λl=>absurd h l) (λ_=>⟨?_,b.then z⟩)⟩) (λA=>⟨?_,b.then z⟩))⟩
    ·rw [M,A,h];rfl
    ·rw [M,A,h];rfl
   ·rw [show(d9.group==3)=false by simpa using h,show(d9.group !=3)=true by simpa using h];rfl
  ·rintro a a3 x ⟨rfl,b⟩
   have q:ai w x:=((u.then f).new g λa e=>.inr oM).then b;have c:=b.get (g.get (f.get (j.get n id) id) oM) id;refine al.mk (λe=>Ok.mk ⟨by unfold kU;rw [L,if_neg sM,if_pos e],q⟩) (λe=>⟨_,ae c rfl,PC.ok bU ?_⟩);have B:kU d d9=if !within d9.group 1 3|| !within d9.make 1 5 then 2 else 0:=by unfold kU;rw [L,if_neg sM,e];rfl
   rintro _ _ ⟨rfl,rfl⟩;refine⟨_,rfl,al.not (al.mk (λr=>⟨_,ae c rfl,PC.ok bU ?_⟩) (λr=>Ok.mk ⟨by rw [B,r];rfl,q⟩))⟩;rintro _ _ ⟨rfl,rfl⟩;exact⟨_,rfl,al.not (al.mk (λC=>Ok.mk ⟨by rw [B,r,C];rfl,q⟩) (λC=>Ok.mk ⟨by rw [B,r,C];rfl,q⟩))⟩
end
theorem Rl (a:Int×Int×Int):gP Tryz.prog 308 [.int .i64 a.1,.int .i64 a.2.1,.int .i64 a.2.2]=true:=kR
theorem Ie {a d:Type} [BEq a] [LawfulBEq a] {b:a} {g e:d}:∀c:List (a×d),aH (aH c b g) b e=aH c b e
 |[]=>by simp [aH]
 |(h,i)::c=>by
  by_cases f:b==h
  ·simp [f,aH]
  ·simp [f,aH,Ie c]
section
variable {w w':World} {p:Nat} {F T D:Nat->Prop} {V:aU} {q:DE}
def FE (w:World) (p:Nat) (F D:Nat->Prop) (V:aU) (a:aj) (d:Value) (w':World):Prop:=
 d= .tuple #[.bool (V.try a).1,.agg #[.int .i64 (V.try a).2.1.1,.int .i64 (V.try a).2.1.2]]/\∃c,cd w' p c (V.try a).2.2/\ak F w w'/\∀b,c b->F b\/D b\/w.heap.size<=b
theorem Pn (c:cd w p F V) (a:ai w w') (b:V.try m=(K,d7,V)):Ok (FE w p F D V m) (.returned (.tuple #[.bool K,.agg #[.int .i64 d7.1,.int .i64 d7.2]])) w':=by
 refine Ok.mk ⟨by rw [b],F,?_,ai.af a,λK d=>.inl d⟩;rw [b];exact c.ah a
theorem DF (j:xp b p F V q) (a:Int×Int×Int):∃c d e f,(aD q.l2 a).getD (.slice none 0 0)= .slice c d e/\(aD V.done a).getD []=f/\(aO f_ 60 (q.P F (.done a)) b c d e f):=by
 rcases j.Ut.aD a with⟨g,h⟩|⟨m,f,g,h,c,d,e,rfl,l⟩
 ·exact⟨none,0,0,[],by rw [g];rfl,by rw [h];rfl,(aO.nil b).mono (λk i=>i.elim) λk i=>j.aC k i.1⟩
 ·exact⟨c,d,e,f,by rw [g];rfl,by rw [h];rfl,l⟩
theorem Po (f:cd w p F V) (hT:eu w) (hr:Row aG 8 w D d a m.aN) (E:∀b,D b->b<w.heap.size/\¬F b) (he:m.Ok) (e:((aD V.done (m.aT,m.agg,m.field)).getD []).length<=20000000):
  Calls Tryz.prog 145 #[.pointer (some ⟨p,0,none⟩),ji m d a c] w (Ok (FE w p F D V m)):=by
 have l3:=f;obtain⟨hV,q,f⟩:=f;have h:=f.aC;have C1:=h _ f.lp.1;refine vK (PA.mk λH t9 C2 u0=>PA.mk λo5 o6 C3 u1=>λl4 o7=>?_);have l5:ai o5 l4:=o7.af;have C4:l4.heap.size=o5.heap.size:=by rw [o7.heap]
 have k0:ai w l4:=(t9.then o6).then l5;have ge:=l5.get (o6.get u0 id) id;have gb:=l5.get u1 id;have P:=f.ah k0;refine⟨p,0,rfl,_,_,_,_,_,_,ae P.at' rfl,ae P.at' rfl,_,ae ge rfl,_,ae ge rfl,_,ae ge rfl,_,ae ge rfl,PC.ok (wC (hT.ah k0) P.Pm λb e=>P.aC b e.1) ?_⟩;rintro _ Q ⟨rfl,R⟩;have k1:=k0.then R;have C5:=R.size;have c0:=R.get gb id;have c1:=R.get ge id;have l:∀{w1:World} {i:Int×Int} {b:Bool},ai Q w1->V.try m=(b,i,V)->∀w2,bd w1 w2->∀(x S:Int),x=i.1->S=i.2->PS w2 ⟨H.heap.size,0,none⟩ (.int .i64 x) λw3=>PS w3 ⟨H.heap.size,0+1,none⟩ (.int .i64 S) λw4=>∃(o8 o9:Int),w4.cell? ⟨H.heap.size,0,none⟩=some (.int .i64 o8)/\w4.cell? ⟨H.heap.size,0+1,none⟩=some (.int .i64 o9)/\Ok (FE w p F D V m) (.returned (.tuple #[.bool b,.agg #[.int .i64 o8,.int .i64 o9]])) w4:=λ{w1 i b} hk I w2 f7 x S hx n=>by
  have k2:ai w1 w2:=f7.af;have kk:=(k1.then hk).then k2;have g2:=k2.get (hk.get c0 id) id;subst hx n;refine PS.mk g2 sM λw3 k3 s3 g3=>PS.mk g3 sM λw4 J s4 g4=>⟨_,_,ae g4 rfl,ae g4 rfl,Pn l3 ((kk.new k3 λb e=>.inr oM).new J λb e=>.inr oM) I⟩
 refine⟨_,rfl,al.df (λd5=>λu2 p0=>?_) (λg8=>?_)⟩
 ·have p1:=(p0.af (S:=λ_=>False)).get c0 id
  exact⟨_,_,ae p1 rfl,ae p1 rfl,l (i:=(0,0)) (ak.refl _) (by rw [aU.qx,if_pos d5]) u2 p0 _ _ rfl rfl⟩
 obtain⟨c3,t0,t1,C6⟩:=EH hV.decl g8 (hV.len m);obtain⟨y,p2⟩:∃y:Nat,m.aT=y:=⟨m.aT.toNat,oM⟩
 have l6:=c3.f0;have l7:=c3.f1;obtain⟨fi,p3⟩:∃fi:Nat,m.field=fi:=⟨m.field.toNat,oM⟩
 have u3:V.decl.at m.aT=V.decl.types.getD y []:=by
  unfold aM.at;rw [if_pos (bj.2 ⟨t0,oM⟩),p2,Qx]
 obtain⟨tb,oA,es,u4,u5,p4,u6,fa,fn,fc,rfl,z⟩:=(P.ah R).Pm.aT.el y V.decl.types[y] sM;have z:Row nQ 48 Q (q.P F .Pm) fa fn (V.decl.at m.aT):=by
  rw [u3];have:V.decl.types.getD y []=V.decl.types[y]:=by simp [QQ,show y<V.decl.types.length by omega]
  rw [this];exact z
 have C7:=(P.ah R).Pm.aT.len;have g9:=u6 0 dC;have u7:jE.k=1:=rfl;rw [u7,Nat.mul_one]at g9;have u9:=h tb p4.1;refine⟨λT v0 ab ao w'=>v0=0/\ao=0/\ai Q w'/\w'.heap[T]? =some (.cells #[.slice fa fn fc] 107 (0,0))/\w'.heap[ab]? =some (.cells #[.int .i64 m.aT,.int .i64 m.agg,.int .i64 m.field] 308 (0,0))/\Q.heap.size<=T/\Q.heap.size<=ab,?_,?_⟩
 ·intro K p5
  have d6:ai Q K:=p5.af;have C8:K.heap.size=Q.heap.size:=by rw [p5.heap]
  have p6:=(P.ah R).ah d6;have c4:=d6.get c1 id;refine⟨λb=>K.heap.size<=b,p,0,rfl,oM,_,_,_,ae p6.at' rfl,by show¬K.heap.size<=w.heap.size;omega,_,ae c4 rfl,tb,oA,u4,t0,by omega,by show¬K.heap.size<=tb;omega,fa,fn,fc,?_,by show¬K.heap.size<=w.heap.size;omega,_,ae c4 rfl,by show¬K.heap.size<=w.heap.size;omega,_,ae c4 rfl,by show¬K.heap.size<=w.heap.size;omega,_,ae c4 rfl,?_,?_⟩
  ·rw [p2,Qx]
   exact(d6.cell (a:=⟨tb,oA+y,none⟩) u5 id).trans g9
  ·refine PA.mk λv1 d7 v2 l8=>⟨ai.af d7,PA.mk λv3 U v4 l9=>⟨ai.af U,PS.mk (U.get l8 id) sM λv5 W v6 m0=>⟨W.mono λb _ m=>oM,az (Rl (m.aT,m.agg,m.field)) (W.get l9 oM) rfl λv7 X v8 m1=>⟨X.mono λb _ m=>oM,rfl,rfl,?_,X.get m0 oM,m1,oM,oM⟩⟩⟩⟩
   exact(((d6.then d7).then U).new W λb e=>.inr oM).new X λb e=>.inr oM
  ·refine PA.mk λv1 d7 v2 l8=>⟨ai.af d7,PA.mk λv3 U v4 l9=>⟨ai.af U,PS.mk l9 sM λv5 W v6 m0=>⟨W.mono λb _ m=>oM,az (Rl (m.aT,m.agg,m.field)) (W.get (U.get l8 id) oM) rfl λv7 X v8 m1=>⟨X.mono λb _ m=>oM,rfl,rfl,?_,X.get m0 oM,m1,oM,oM⟩⟩⟩⟩
   exact(((d6.then d7).then U).new W λb e=>.inr oM).new X λb e=>.inr oM
 rintro T _ ab _ _ p7 ⟨rfl,rfl,p8,p9,h0,y8,C9⟩;have k2:=k1.then p8;have d8:=f.ah k2;obtain⟨da,dn,dc,k,v9,m2,q0⟩:=DF d8 (m.aT,m.agg,m.field);rw [m2]at e;refine⟨p,0,rfl,_,ae d8.at' rfl,ar (cs:=[.int .i64 m.aT,.int .i64 m.agg,.int .i64 m.field]) (Rl (m.aT,m.agg,m.field)) h0 ⟨da,dn,dc,λb1=>?_,λq1 x0=>?_⟩⟩
 ·have:=dN VD Vs (d8.dn.ah (ak.drewN p7 b1)) (m.aT,m.agg,m.field) false
  rw [v9]at this;exact this
 have g1:ai p7 q1:=x0.af;have D0:=q0.len dC;have m3:=(q0.ah g1).row (bytes:=96) dC (by unfold aI;omega);refine⟨λb1 a5 w'=>∃j:Nat,a5=j/\j<=dn/\b1=dn-j/\(∀x∈k.take j,lg ((V.decl.at m.aT).getD m.field.toNat ⟨0,0,false,[]⟩) x m=false)/\ai q1 w',⟨_,0,rfl,Qj _,rfl,sM,ak.refl _⟩,?_⟩;rintro b1 _ _ m4 ⟨j,rfl,hj,rfl,g5,d9⟩;have k3:=(p8.then g1).then d9;have h6:=d9.get (g1.get p9 id) id;have q2:=d9.get (g1.get h0 id) id;have h7:=k3.get c1 id;have c5:∀{r:Bool×(Int×Int)×aU},(match k.find? λx=>lg ((V.decl.at m.aT).getD m.field.toNat ⟨0,0,false,[]⟩) x m with
  |some x=>(true,aR x,V)
  |none=>if ve (V.decl.at m.aT) (V.cellsOf m) m.field m.op m.arg≠0 then(true,(0,0),V)else
   (false,(0,0),{V with dR:=aH V.dR (m.aT,m.agg) ⟨nE (((aD V.dR (m.aT,m.agg)).getD ⟨0,[]⟩).version+1),PH (V.decl.at m.aT) (V.cellsOf m) m.field m.op m.arg⟩,done:=aH V.done (m.aT,m.agg,m.field) (k++[m])}))=r->V.try m=r:=λ{r} hr=>by
  rw [aU.qx,if_neg (by simpa using g8),m2];exact hr
 refine al.dec (λD1=>?_) (λD2=>?_)
 ·have g6:j<k.length:=oM
  obtain⟨db,b5,es,x1,D3,D4,q3,xa,xn,xc,rfl,q4,q5⟩:=(m3.ah d9).el j k[j] (Qq g6);have g7:k[j]? =some k[j]:=Qq g6;generalize k[j]=x at q3 q4 q5 g7;refine⟨db,b5,x1,oM,oM,bq (es:=aB x xa xn xc) (k:=10) (aV x xa xn xc) rfl (λa5 I=>q3 a5 I) (PA.mk λD5 x2 D6 x3=>az (aV x xa xn xc) x3 rfl λq6 x4 D7 x5=>λx6 x7=>?_)⟩;have m5:ai m4 q6:=x2.new x4 λb e=>.inr oM;have q7:ai q6 x6:=x7.af;have J:=m5.then q7;have e0:=k3.then J;obtain⟨fb,fo,b6,b7,b8,x8,D8,D9,f8,f9,h1,h2,E0⟩:=DW (z.ah e0) (i:=fi) (by rw [z.len];omega);have h8:=q7.get x5 id;refine⟨_,_,_,ae (J.get h6 id) rfl,_,ae (J.get h7 id) rfl,fb,fo,x8,l6,by rw [z.len];exact l7,?_⟩;rw [p3,Qx];refine bq (es:=di ((V.decl.at m.aT).getD fi ⟨0,0,false,[]⟩) b6 b7 b8) (k:=4) (eD _ _ _ _) rfl (λa5 I=>?_) (ar (aV x xa xn xc) h8 (ar (aV m d a c) (J.get h7 id) (PC.ok (zP (q4.ah J) ((hr.ah k1).ah e0)) ?_)))
  ·match a5,I with
   |0,_=>exact f8
   |1,_=>exact f9
   |2,_=>exact h1
   |3,_=>exact h2
  rintro _ E1 ⟨rfl,m6⟩;have x9:(V.decl.at m.aT).getD fi ⟨0,0,false,[]⟩=(V.decl.at m.aT).getD m.field.toNat ⟨0,0,false,[]⟩:=by rw [p3,Qx]
  rw [x9];refine⟨_,rfl,al.mk (λhv=>λy0 q8=>?_) (λhv=>⟨_,?_,j+1,aq oM,oM,rfl,λS n=>?_,(d9.then J).then m6⟩)⟩
  ·have q9:=(q8.af (S:=λ_=>False)).get (m6.get h8 id) id
   refine⟨_,_,ae q9 rfl,ae q9 rfl,l (e0.then m6) (i:=aR x) (c5 ?_) y0 q8 _ _ rfl rfl⟩;have hf:k.find? (λx=>lg ((V.decl.at m.aT).getD m.field.toNat ⟨0,0,false,[]⟩) x m)=some x:=by
    rw [List.find?_eq_some_iff_append];refine⟨hv,k.take j,k.drop (j+1),?_,λS n=>by rw [g5 S n];rfl⟩;rw [<-List.take_append_drop j k]
    congr 1
    ·rw [List.take_append_drop]
    ·rw [List.take_append_drop,X4 g6]
     congr 1
     rw [Qq g6]at g7;exact XJ g7
   rw [hf]
  ·omega
  ·rw [Qw,g7]at n
   rcases Q6.1 n with n|n
   ·exact g5 S n
   ·simp at n;subst n;exact hv
 ·have E2:j=dn:=oM
  rw [Qz oM]at g5;have m7:k.find? (λx=>lg ((V.decl.at m.aT).getD m.field.toNat ⟨0,0,false,[]⟩) x m)=none:=List.find?_eq_none.2 λx hx=>by rw [g5 x hx];simp
  rw [m7]at c5;intro Y h9;have c7:ai m4 Y:=h9.af;have y9:Y.heap.size=m4.heap.size:=by rw [h9.heap]
  have k5:=k3.then c7;have e8:=k1.then k5;have z5:=k5.size;have z3:=k3.size;have b9:=f.ah e8;have b2:=c7.get q2 id;have c2:=c7.get h6 id;have m8:=k5.get c1 id;have E3:=c7.size;have z0:=ay b2;have z2:=ay c2;obtain⟨t,b,o,s,A,g,Z,h3,h4,d3⟩:∃(t:lr) (b:Bool) (o:Option Addr) (s A:Nat),(aD q.l1 (m.aT,m.agg)).getD (.agg #[.int .i64 0,.slice none 0 0])= .agg #[.int .i64 t.version,.slice o s A]/\(aD q.l1 (m.aT,m.agg)).isSome=b/\(aD V.dR (m.aT,m.agg)).getD FH=t/\(b=true->V.cellsOf m=t.cells)/\Row eP 32 Y (q.P F .Uf) o s t.cells/\(b=false->V.cellsOf m=cP (V.decl.at m.aT)):=by
   unfold aU.cellsOf;rcases b9.Ug.aD (m.aT,m.agg)with⟨g,Z⟩|⟨f0,t,g,Z,o,s,A,rfl,hr⟩
   ·exact⟨FH,false,none,0,0,by rw [g];rfl,by rw [g];rfl,by rw [Z];rfl,λf=>(by cases f),Row.nil _ _,λ_=>by rw [Z]⟩
   ·exact⟨t,true,o,s,A,by rw [g];rfl,by rw [g];rfl,by rw [Z];rfl,λ_=>by rw [Z],hr,λf=>(by cases f)⟩
  obtain⟨d3,h5⟩:=d3;refine⟨λb=>b=Y.heap.size,p,0,rfl,oM,_,ae b9.at' rfl,oM,_,_,ae b2 rfl,ae b2 rfl,t.version,o,s,A,b,λw' hk=>?_,PA.mk λz4 i0 z7 r0=>⟨ai.af i0,PS.mk r0 sM λz8 i1 z9 r3=>PS.mk r3 sM λr4 i2 A0 i3=>⟨i1.then i2,?_⟩⟩⟩
  ·have:=dN Vt Tb (b9.st.af hk (by have:=h _ f.l1.1;omega)) (m.aT,m.agg) true
   rw [g,Z]at this;exact this
  have k6:ai Y r4:=(i0.new i1 λb e=>.inr oM).new i2 λb e=>.inr oM;refine⟨λw'=>ai Y w'/\∃o s A Dc,w'.heap[Y.heap.size]? =some (.cells #[.int .i64 t.version,.slice o s A] 51 (0,0))/\Row eP 32 w' Dc o s (V.cellsOf m)/\∀b,Dc b->b<w'.heap.size,?_,?_⟩
  ·refine al.not (al.mk (λy1=>⟨k6,o,s,A,_,i3,by rw [h4 y1];exact d3.ah k6,λb e=>by have:=h b e.1;have:=k6.size;have:=e8.size;omega⟩) (λy2=>⟨_,_,_,ae (k6.get c2 id) rfl,PC.ok (Gp (t:=V.decl.at m.aT) rfl (z.len) (by rw [z.len];omega)) ?_⟩))
   rintro _ A1 ⟨k4,n6,l1,G6,rfl,r5,k7,y3⟩;have z6:=k6.size;refine⟨_,_,_,rfl,PS.mk (k7.get i3 id) sM λA2 i4 A3 r6=>⟨(k6.then k7).new i4 λb e=>.inr oM,k4,n6,l1,G6,r6,?_,λb e=>by have:=r5.aC b e;omega⟩⟩;rw [h5 y2];exact(r5.af i4 λb e m=>by have:=y3 b e;omega).row dC (by unfold aI cP;simp;omega)
  rintro _ A4 ⟨a3,o,s,A,Dc,f1,d3,y4⟩;have A5:=a3.size;have f2:=k5.then a3;have f3:=a3.get c2 id;have m9:=a3.get b2 id;have c6:=a3.get m8 id;refine⟨_,_,_,ae f3 rfl,_,_,_,ae f1 rfl,_,ae c6 rfl,_,ae c6 rfl,_,ae c6 rfl,PC.ok (Gn c3 (z.ah f2) d3) ?_⟩;rintro _ r7 ⟨rfl,a0⟩;have k8:=f2.then a0;refine⟨_,rfl,al.df (λd5=>λr8 i5=>?_) (λy5=>λc8 r9=>?_)⟩
  ·have i6:=(i5.af (S:=λ_=>False)).get (k8.get c0 id) id
   refine⟨_,_,ae i6 rfl,ae i6 rfl,l (i:=(0,0)) k8 (c5 ?_) r8 i5 _ _ rfl rfl⟩;simp only;rw [if_pos d5]
  have f4:ve (V.decl.at m.aT) (V.cellsOf m) m.field m.op m.arg=0:=y5;have a1:ai r7 c8:=r9.af;have k9:=k8.then a1;have n0:=(a3.then a0).then a1;have d2:=k1.then k9;have n1:=f.ah d2;have b3:=k9.get c1 id;have e1:=(a0.then a1).get m9 id;have n3:=(a0.then a1).get f3 id;have f5:=(a0.then a1).get f1 id;have E4:=h _ f.l1.1;have E5:=h _ f.l2.1;have A6:=n0.size;have y6:=d2.size;have e7:¬p=q.r1:=λm=>by have g:=f.lp.2;rw [m,f.l1.2]at g;cases g
  have i7:¬p=q.r2:=λm=>by have g:=f.lp.2;rw [m,f.l2.2]at g;cases g
  have i8:¬q.r1=q.r2:=λm=>by have g:=f.l1.2;rw [m,f.l2.2]at g;cases g
  refine⟨λb=>b=q.r1,p,0,rfl,e7,_,ae n1.at' rfl,oM,_,_,ae e1 rfl,ae e1 rfl,oM,_,ae f5 rfl,_,_,_,ae n3 rfl,_,_,_,ae f5 rfl,_,ae b3 rfl,_,ae b3 rfl,_,ae b3 rfl,PC.ok (PJ c3 f4 he.arg oM (z.ah k9) (λb e=>by have:=h b e.1;omega) (d3.ah (a0.then a1)) λb e=>by have:=y4 b e;have:=(a0.then a1).size;omega) ?_⟩;rintro _ a6 ⟨s0,s1,s2,G,rfl,i9,a4,hG⟩;have e2:=d2.then a4;have u:=f.ah e2;have A7:=a4.size;refine⟨_,_,_,rfl,ai.af a4,ij (enc:=nI) (k:=(m.aT,m.agg)) Vt Tb u.st λj0 s5 j1 A8=>⟨j1,λc9 j2=>?_⟩⟩;have j3:ai j0 c9:=j2.af;have A9:c9.heap.size=j0.heap.size:=by rw [j2.heap]
  have C:ak (·=q.r1) a6 c9:=j1.ah j3;have key:∀b,F b/\q.cls b= .done (m.aT,m.agg,m.field)->b≠p/\b≠q.r1/\b≠q.r2:=λb e=>
   ⟨λm=>(by have g:=f.lp.2;rw [<-m,e.2]at g;cases g),λm=>(by have g:=f.l1.2;rw [<-m,e.2]at g;cases g),λm=>(by have g:=f.l2.2;rw [<-m,e.2]at g;cases g)⟩
  have n4:=C.get u.at' e7;have n8:=C.get (a4.get e1 id) oM;have v:=C.get (a4.get b3 id) oM;have n9:=u.dn.af C (λm=>i8 m.symm);have o0:=C.get (a4.get (k9.get c0 id) id) oM;obtain⟨a2,a7,e3,l2,s6,j4,j5⟩:=DF u (m.aT,m.agg,m.field);rw [m2]at j4;subst j4;have o1:=j5.af C λb e m=>(key b e).2.1 m;have B0:=C.size;refine⟨λb=>b=q.r2\/(F b/\q.cls b= .done (m.aT,m.agg,m.field)),p,0,rfl,λB=>B.elim i7 λB=>(key p B).1 rfl,_,ae n4 rfl,λB=>B.elim (λm=>oM) λB=>by have:=h _ B.1;omega,
   ar (cs:=[.int .i64 m.aT,.int .i64 m.agg,.int .i64 m.field]) (Rl (m.aT,m.agg,m.field)) n8 ⟨_,_,_,_,_,_,_,_,_,_,_,_,ae v rfl,ae v rfl,ae v rfl,ae v rfl,ae v rfl,ae v rfl,ae v rfl,ae v rfl,ae v rfl,ae v rfl,
   PA.mk λB1 a8 B2 s7=>⟨ai.af a8,EW (enc:=Bp) (k:=(m.aT,m.agg,m.field)) VD Vs (n9.ah a8) λB3 x s8 o2 a9 B4=>⟨a2,a7,e3,x,by rw [s6],a9.mono λb _ m=>.inl m,?_⟩⟩⟩⟩
  have o3:=(o1.ah a8).af a9 λb e m=>(key b e).2.2 m;have s9:=a9.get s7 oM;have b4:∀b,aF a2=some b->F b/\q.cls b= .done (m.aT,m.agg,m.field):=λb e=>j5.self b e;have y7:=(((hr.ah e2).af C λb e m=>(E b e).2 (m▸f.l1.1)).ah a8).af a9 λb e m=>(E b e).2 (m▸f.l2.1);refine dQ (c:=f_) o3 FM s9 (D:=D) (x:=m) ⟨d,a,c,rfl,y7,he⟩ (λb e=>⟨by have:=(E b e).1;omega,λee=>(E b e).2 (b4 b ee).1⟩) (by unfold aI;omega) (by unfold maxLen;omega) λa' L t2 F2 f6 b0 o4=>⟨_,_,_,rfl,b0.mono λb _ e=>.inr (b4 b e),?_⟩
  have t3:¬aF a2=some q.r2:=λee=>(key _ (b4 _ ee)).2.2 rfl;refine AJ Vs (s8.af b0 t3) (o2.af b0 t3) λj6 t4 e9 B5=>⟨e9.mono λb _ m=>.inl m,λd0 j7=>?_⟩
  have g0:ai j6 d0:=j7.af;have B6:d0.heap.size=j6.heap.size:=by rw [j7.heap]
  have B7:=b0.size;have kb:ak (λb=>b=q.r2\/(F b/\q.cls b= .done (m.aT,m.agg,m.field))) c9 d0:=((((ai.af a8).then (a9.mono λb _ m=>.inl m)).then (b0.mono λb _ e=>.inr (b4 b e))).then (e9.mono λb _ m=>.inl m)).then (ai.af g0);have e4:=kb.get o0 (λB=>B.elim (λm=>oM) λB=>by have:=h _ B.1;omega);refine⟨_,_,ae e4 rfl,ae e4 rfl,PS.mk e4 sM λB8 j8 B9 t5=>PS.mk t5 sM λd1 j9 C0 l0=>⟨_,_,ae l0 rfl,ae l0 rfl,?_⟩⟩;have M:ak (λb=>b=q.r1\/b=q.r2\/(F b/\q.cls b= .done (m.aT,m.agg,m.field))\/b=H.heap.size) a6 d1:=
   ((C.mono λb _ m=>.inl m).then (kb.mono λb _ e=>e.elim (λm=>.inr (.inl m)) λe=>.inr (.inr (.inl e)))).then ((j8.mono λb _ m=>.inr (.inr (.inr m))).then (j9.mono λb _ m=>.inr (.inr (.inr m))))
  have kc:ak (·=H.heap.size) d0 d1:=j8.then j9;have zT:=M.size;have I:=c5 (r:=(false,(0,0),{V with dR:=aH V.dR (m.aT,m.agg) ⟨nE (((aD V.dR (m.aT,m.agg)).getD ⟨0,[]⟩).version+1),PH (V.decl.at m.aT) (V.cellsOf m) m.field m.op m.arg⟩,done:=aH V.done (m.aT,m.agg,m.field) (k++[m])})) (by simp only;rw [if_neg (by simpa using f4)]);have t6:=(aU.Pp hV m).1;refine Ok.mk ⟨by rw [I],λb=>b<d1.heap.size/\(F b\/D b\/w.heap.size<=b),?_,?_,λb e=>e.2⟩
  rotate_left
  ·exact(ai.af e2).trans M (λ_ _ f=>f) λb e hT=>by
    rcases hT with rfl|rfl|hT|rfl
    ·exact f.l1.1
    ·exact f.l2.1
    ·exact hT.1
    ·omega
  rw [I]at t6⊢;have t7:∀b,G b->c8.heap.size<=b/\b<a6.heap.size:=λb e=>⟨hG b e,i9.aC b e⟩
  have N:∀b,F b->b<d1.heap.size:=λb e=>by have:=h b e;omega
  classical
  have O:∀b,F b->(if F b then q.cls b else if c8.heap.size<=b/\b<a6.heap.size then Ic.Uf else Ic.done (m.aT,m.agg,m.field))=q.cls b:=λb e=>if_pos e;refine⟨t6,⟨q.ta,q.tn,q.tc,q.pa,q.pn,q.pc,q.ea,q.en,q.ec,q.r1,q.r2,aH q.l1 (m.aT,m.agg) (.agg #[.int .i64 (nE (t.version+1)),.slice s0 s1 s2]),aH q.l2 (m.aT,m.agg,m.field) (.slice a' (a7+1) L),λb=>if F b then q.cls b else if c8.heap.size<=b/\b<a6.heap.size then Ic.Uf else Ic.done (m.aT,m.agg,m.field)⟩,?_,?_,?_,?_,?_,?_,?_,λb e=>e.1,⟨⟨N _ f.lp.1,.inl f.lp.1⟩,(O _ f.lp.1).trans f.lp.2⟩,⟨⟨N _ f.l1.1,.inl f.l1.1⟩,(O _ f.l1.1).trans f.l1.2⟩,⟨⟨N _ f.l2.1,.inl f.l2.1⟩,(O _ f.l2.1).trans f.l2.2⟩⟩
  ·exact M.get u.at' λB=>by
    rcases B with B|B|B|B
    ·exact e7 B
    ·exact i7 B
    ·exact(key _ B).1 rfl
    ·omega
  ·refine(u.Pm.af M λb e B=>?_).mono λb e=>⟨⟨N b e.1,.inl e.1⟩,(O b e.1).trans e.2⟩
   have d4:=h b e.1;rcases B with rfl|rfl|B|B
   ·have:=f.l1.2;rw [e.2]at this;cases this
   ·have:=f.l2.2;rw [e.2]at this;cases this
   ·have:=B.2;rw [e.2]at this;cases this
   ·omega
  ·refine(u.MW.af M λb e B=>?_).mono (λb e=>⟨⟨N b e.1,.inl e.1⟩,(O b e.1).trans e.2⟩) λb e=>e.1.1
   have d4:=h b e.1;rcases B with rfl|rfl|B|B
   ·have:=f.l1.2;rw [e.2]at this;cases this
   ·have:=f.l2.2;rw [e.2]at this;cases this
   ·have:=B.2;rw [e.2]at this;cases this
   ·omega
  ·exact((s5.ah j3).af kb λB=>B.elim i8 λB=>(key _ B).2.1 rfl).af kc oM
  ·refine eN.aH ?_ ?_
   ·refine⟨s0,s1,s2,by rw [h3],?_⟩
    refine((i9.row (bytes:=32) dC ?_).af M λb e B=>?_).mono λb e=>?_
    ·rw [Lk,hV.len];unfold aI;omega
    ·have d4:=t7 b e
     rcases B with rfl|rfl|B|B
     ·omega
     ·omega
     ·have:=h b B.1;omega
     ·omega
    ·have d4:=t7 b e
     refine⟨⟨oM,.inr (.inr oM)⟩,?_⟩;show(if F b then _ else _)=_;rw [if_neg (λhf=>by have:=h b hf;omega),if_pos d4]
   ·refine u.Ug.mono λf0 n5 hu=>?_
    obtain⟨e5,n2,e6,rfl,hu⟩:=hu;refine⟨e5,n2,e6,rfl,(hu.af M λb e B=>?_).mono λb e=>⟨⟨N b e.1,.inl e.1⟩,(O b e.1).trans e.2⟩⟩;have d4:=h b e.1;rcases B with rfl|rfl|B|B
    ·have:=f.l1.2;rw [e.2]at this;cases this
    ·have:=f.l2.2;rw [e.2]at this;cases this
    ·have:=B.2;rw [e.2]at this;cases this
    ·omega
  ·have:=(t4.ah g0).af kc (by show¬q.r2=H.heap.size;omega)
   rw [Ie]at this;exact this
  ·refine nn.aH ?_ u.Ut ?_ u.dn.tidy
   ·refine⟨a',_,L,rfl,?_⟩
    have t8:∀b,F2 b->b<t2.heap.size/\b≠H.heap.size:=λb e=>by
     refine⟨f6.aC b e,λm=>?_⟩;rcases o4 b e with g|g|g
     ·have:=h b g.1;omega
     ·have:=(E b g).1;omega
     ·omega
    refine((f6.af e9 λb e m=>?_).ah g0|>.af kc λb e m=>(t8 b e).2 m).mono (λb e=>?_) λb e=>e.1.1
    ·rcases o4 b e with g|g|g
     ·exact(key b g).2.2 m
     ·exact(E b g).2 (m▸f.l2.1)
     ·omega
    ·have:=(t8 b e).1
     have hz:=kc.size;rcases o4 b e with g|g|g
     ·exact⟨⟨N b g.1,.inl g.1⟩,(O b g.1).trans g.2⟩
     ·refine⟨⟨oM,.inr (.inl g)⟩,?_⟩
      show(if F b then _ else _)=_;rw [if_neg (E b g).2,if_neg (by have:=(E b g).1;omega)]
     ·refine⟨⟨oM,.inr (.inr oM)⟩,?_⟩
      show(if F b then _ else _)=_;rw [if_neg (λhf=>by have:=h b hf;omega),if_neg oM]
   ·intro n7 f0 n5 d5 hu
    obtain⟨e5,n2,e6,rfl,hu⟩:=hu;refine⟨e5,n2,e6,rfl,(hu.af M λb e B=>?_).mono (λb e=>⟨⟨N b e.1,.inl e.1⟩,(O b e.1).trans e.2⟩) λb e=>e.1.1⟩;have d4:=h b e.1;rcases B with rfl|rfl|B|B
    ·have:=f.l1.2;rw [e.2]at this;cases this
    ·have:=f.l2.2;rw [e.2]at this;cases this
    ·have:=B.2;rw [e.2]at this
     simp only [Ic.done.injEq]at this;exact d5 this
    ·omega
end
end Go.Proofs.YthnilpgpacdmnaaGreatDoor

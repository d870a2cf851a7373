import Derived.Test.YtfchlbaidamodaaGreatDoorKa21
set_option linter.all false
set_option maxRecDepth 100000
namespace Go.Proofs.YtfchlbaidamodaaGreatDoor
open Go.ax
def qE:fv ah Int where
 k:=10
 ci:=aP
 ib:=8
 inner:=(·.aK)
 hd:=aE
 ok:=ah.Ok
 hl:=λ_ _ _ _=>rfl
 h1:=λb c d e f a=>by
  simp only [aE,Q2,List.not_mem_nil,or_false]at a;rcases a with rfl|rfl|rfl|rfl|rfl|rfl|rfl|rfl|rfl|rfl<;>rfl
 o:=3
 ho:=dC
 fz:=λ_ _ _ _ _ _ _=>rfl
theorem Ud:qE.Pe=fZ:=rfl
def Li:fv bD kO where
 k:=4
 ci:=gC
 ib:=32
 inner:=(·.bH)
 hd:=eg
 ok:=λa=>aN a.kind/\aN a.eV
 hl:=λ_ _ _ _=>rfl
 h1:=λc d e f g b=>by
  simp only [eg,Q2,List.not_mem_nil,or_false]at b;rcases b with rfl|rfl|rfl|rfl<;>rfl
 o:=3
 ho:=dC
 fz:=λ_ _ _ _ _ _ _=>rfl
theorem IK:Li.Pe=pT:=rfl
variable{e:Int}{b0:List du}{a c:Nat}{d:Option Addr}
section
variable {w w':World} {D E F:Nat->Prop}
theorem oV {e:ah} {w:World} {D:Nat->Prop} (j:Row aP 8 w D d a e.aK) (t:∀b,D b->b<w.heap.size):
  Calls ZQ 147 #[kK e d a c] w (Ok λu w'=>∃d a c G,u=kK e d a c/\Row aP 8 w' G d a e.aK/\(∀b,G b->w.heap.size<=b/\b<w'.heap.size)/\ai w w'):=by
 have v:=j.d_;have x:=j.len;refine Hs (PA.mk λA n B g=>PA.mk λC h E k=>⟨_,_,_,ae (h.get g id) rfl,PC.ok (cH (j.af (n.then h)) λb f=>by have:=t b f;omega) ?_⟩);rintro _ F ⟨o,p,q,G,rfl,r,i,l⟩;have g:=i.get (h.get g id) id;have k:=i.get k id;refine⟨_,_,_,rfl,PS.mk g (by simp [aE]) λH m I y=>?_⟩;refine aw (cs:=aE e o p q) (bg _ _ _ _) y (aD (bg _ _ _ _) (m.get k oM) rfl λJ s K z=>aw (bg _ _ _ _) z (Ok.mk ⟨o,p,q,G,rfl,?_,?_,?_⟩))
 ·refine(((r.keep m λb f=>?_).keep s λb f=>?_).row (bytes:=8) dC (by rw [<-x];exact v))
  ·have:=l b f;omega
  ·have:=l b f;omega
 ·intro b f
  have:=l b f;have:=r.aF b f;omega
 ·have L:=i.size
  exact((aj.new ((n.then h).then i) m λb f=>.inr oM).new s λb f=>.inr oM)
theorem Mg (h:Row fL 32 w D d a b0) (E:∀b,D b->b<w.heap.size):
  Calls ZQ 153 #[.agg #[QH e,.slice d a c]] w (Ok λa0 w'=>∃H I J F,a0= .agg #[QH e,.slice H I J]/\aV fL 84 F w' H I J b0/\(∀b,F b->w.heap.size<=b)/\ai w w'):=by
 obtain⟨m,K,l2,l3⟩:=fv.boxes h;have L:=h.d_;have c1:=h.len;have c2:m.length=b0.length:=by rw [<-K];simp
 refine Ht (PA.mk λM N s1 O=>PA.mk λw2 q s2 g2=>⟨_,_,_,ae (q.get O id) rfl,PC.ok (qR (l2.af (N.then q)) λb f=>by have:=E b f;omega) ?_⟩);rintro _ w9 ⟨k,n,x,F9,rfl,r,s,b6⟩;have o:∀b,aI k=some b->w2.heap.size<=b:=λb f=>b6 b (r.self b f);have a1:∀b,aI k=some b->b<w9.heap.size:=λb f=>r.aF b (r.self b f);refine⟨_,_,_,rfl,PS.mk (s.get (q.get O id) id) sM λt y c3 u=>⟨_,_,_,ae u rfl,?_⟩⟩;have z9:=s.size;have a2:=y.get (s.get g2 id) oM;have a3:aV lx.k_ 84 (λb=>aI k=some b) t k n x m:=r.alone.keep y λb f g=>by have:=o b f;omega
 have a4:ai w t:=((N.then q).then s).new y λb f=>.inr oM;refine⟨λP a5 w'=>∃i:Nat,a5=i/\i<=n/\P=n-i/\eO lx 84 t k n x m i w',⟨_,0,rfl,Qj _,rfl,eO.start a3⟩,?_⟩;rintro P _ _ Q ⟨i,rfl,hj,rfl,j⟩;have c4:=j.len;have z:ai w Q:=a4.new j.keep λb f=>.inr (by have:=o b f;omega);have A:¬aI k=some w.heap.size:=λg=>by have:=o _ g;omega
 have R:¬aI k=some M.heap.size:=λg=>by have:=o _ g;omega
 refine al.dec (λc5=>λb7 b8=>?_) (λc6=>?_)
 ·have p:ai Q b7:=b8.keep
  have S:=j.af p;obtain⟨l,rfl⟩:=j.some oM;have c7:=o l rfl;have a7:l<t.heap.size:=by have:=a1 l rfl;omega
  have B:m[i]? =some m[i]:=Qq oM;have v:=l3 m[i] (XY oM);generalize m[i]=C at B v;have T:=p.get (j.keep.get u A) id;refine⟨λb=>b=l,by show w.heap.size≠l;omega,_,_,_,ae T rfl,_,_,_,ae T rfl,l,0,rfl,by omega,by omega,_,_,_,S.cell rfl B (by show n*2<=aQ;unfold aQ at L⊢;omega) 1 _ rfl,PC.ok (cH ((v.1.af z).af p) λb f=>by have:=E b f;have:=(z.then p).size;omega) ?_⟩;rintro _ c8 ⟨d0,d1,d2,G,rfl,U,V,hG⟩;refine⟨_,_,_,rfl,ai.keep V,l,0,rfl,oM,oM,?_⟩;have d3:=j.keep.size;have d4:=p.size;refine(S.af V).step (g:=l) rfl B (U.row (bytes:=8) dC ?_) v.2 (λW X=>⟨by have:=hG W X;omega,U.aF W X⟩) a7 λd5 a6 b9 d6=>⟨b9.mono λb _ g=>(by simpa [aI]using g.symm),_,?_,i+1,an (by unfold aQ at L;omega),oM,rfl,a6⟩
  ·have:C.x.set.length<=64:=v.2.2.2
   show(lx.inner C.x).length*8<=aQ;unfold aQ;show C.x.set.length*8<=_;omega
  ·omega
 ·obtain rfl:i=n:=oM
  obtain⟨Fd,Y,Z⟩:=j.done;rw [K]at Y;have d7:=j.keep.size;refine⟨_,_,_,_,ae (j.keep.get u A) rfl,ae (j.keep.get u A) rfl,PS.mk (j.keep.get a2 R) sM λd8 b2 d9 c0=>PS.mk c0 sM λe0 b3 e1 b4=>⟨_,_,_,_,ae b4 rfl,ae b4 rfl,Ok.mk ⟨k,_,x,Fd,rfl,?_,?_,?_⟩⟩⟩
  ·have b5:∀b,Fd b->b≠M.heap.size:=λb f g=>by
    rcases Z b f with h|h
    ·exact R (g▸h)
    ·omega
   exact(Y.keep b2 λb f g=>b5 b f g).keep b3 λb f g=>b5 b f g
  ·intro b f
   rcases Z b f with h|h
   ·have:=o b h;omega
   ·omega
  ·exact(z.new b2 λb f=>.inr oM).new b3 λb f=>.inr oM
end
variable{p:Option Addr}{L:aR}
section
variable {w w':World} {D E F:Nat->Prop}
theorem qK {b:List jO} (f:Row wH 40 w D d a b) (g:∀e,D e->e<w.heap.size):Calls ZQ 131 #[.slice d a c] w (Ok (qD wH 128 w b)):=
 iO (By Mh dC f g λi w' h=>Ok.mk h)
theorem qL {b:List (Bx bD)} (f:Row Li.k_ 48 w D d a b) (g:∀e,D e->e<w.heap.size):Calls ZQ 132 #[.slice d a c] w (Ok (qD Li.k_ 123 w b)):=
 gW (By RX dC f g λi w' h=>Ok.mk h)
theorem EJ {tn tc pn pc:Nat} (i:bh w D L d tn p pn) (S:∀a,D a->a<w.heap.size):
  Calls ZQ 145 #[.agg #[.slice d tn tc,.slice p pn pc]] w (Ok λa5 w'=>∃q AW T f g h G,a5= .agg #[.slice q AW T,.slice f g h]/\bh w' G L q AW f g/\(∀a,G a->w.heap.size<=a/\a<w'.heap.size)/\ai w w'):=by
 have d3:=i.bd.len;have E:=i.bd.d_;have d4:=i.Bk.len;have d5:=i.Bk.d_;refine Au (PA.mk λw1 k1 s1 g1=>PA.mk λw2 F s2 g2=>⟨_,_,_,ae (F.get g1 id) rfl,PC.ok (qK (i.Bk.af (k1.then F)) λa B=>by have:=S a B;omega) ?_⟩);rintro _ r ⟨f,g,h,G1,rfl,U,H,b4⟩;have z8:=H.size;refine⟨_,_,_,rfl,PA.mk λg4 d6 g5 d7=>PS.mk d7 sM λg6 d8 g7 d9=>PS.mk d9 sM λs e0 g8 e1=>?_⟩;have t:ai r s:=(d6.new d8 λa B=>.inr oM).new e0 λa B=>.inr oM;have b5:ai w s:=((k1.then F).then H).then t;have ga:=t.get (H.get (F.get g1 id) id) id;have gz:=t.get (H.get g2 id) id;have g9:=t.size;have b6:s.heap[r.heap.size]? =some (.cells #[.slice none 0 0,.slice f g h] 25 (0,0)):=e1;refine⟨_,_,_,ae ga rfl,λu V w'=>∃b:Nat,V=b/\b<=tn/\u=tn-b/\aj (·=r.heap.size) s w'/\∃I J W v,w'.heap[r.heap.size]? =some (.cells #[.slice I J W,.slice f g h] 25 (0,0))/\aV lv 130 v w' I J W (L.types.take b)/\∀a,v a->s.heap.size<=a,
  ⟨_,0,rfl,Qj _,rfl,aj.refl _,none,0,0,λ_=>False,b6,aV.nil _,λ_ i=>i.elim⟩,?_⟩
 rintro u _ _ Y ⟨b,rfl,hj,rfl,x,I,J,W,v,Z,j,m⟩;have K:ai w Y:=b5.new x λa B=>.inr oM;have zk:=x.size;refine al.dec (λh0=>?_) (λh3=>?_)
 ·have b7:b<L.types.length:=oM
  obtain⟨a,a6,es,ha,B,h4,a8,fa,fn,fc,rfl,M⟩:=(i.bd.af K).el b L.types[b] (by simp [b7]);have b8:L.types[b]? =some L.types[b]:=Qq b7;generalize L.types[b]=a1 at M b8;have c0:=a8 0 dC;have e2:lv.k=1:=rfl;rw [e2,Nat.mul_one]at c0;refine⟨a,a6,ha,oM,oM,fa,fn,fc,by rw [Qx];exact c0,PA.mk λh5 e3 h6 e4=>PS.mk e4 sM λb9 e5 h7 e6=>⟨_,_,_,ae e6 rfl,?_⟩⟩;have N:ai Y b9:=e3.new e5 λa B=>.inr oM;have c1:=K.then N;obtain⟨n,l1,l2,l3⟩:=fv.boxes (N:=Li) M;have a7:=M.d_;refine PC.ok (qL (l2.af N) λa B=>by have:=S a B;have:=c1.size;omega) ?_;rintro _ c2 ⟨a9,y,c9,F9,rfl,O,c3,e7⟩;have h8:=N.size;have h9:=c3.size;have P:∀a,aI a9=some a->b9.heap.size<=a:=λa B=>e7 a (O.self a B);have c4:∀a,aI a9=some a->a<c2.heap.size:=λa B=>O.aF a (O.self a B);refine⟨_,_,_,rfl,λu V w'=>∃b:Nat,V=b/\b<=y/\u=y-b/\eO Li 123 c2 a9 y c9 n b w',⟨_,0,rfl,Qj _,rfl,eO.start O.alone⟩,?_⟩;rintro u _ _ e8 ⟨o,rfl,hi,rfl,k⟩;have i0:=k.len;have i1:n.length=a1.length:=by rw [<-l1];simp
  have e9:=M.len;have z:ai Y e8:=(N.then c3).new k.keep λa B=>.inr (by have:=P a B;omega);have i2:=k.keep.size;refine al.dec (λf7=>?_) (λg0=>?_)
  ·obtain⟨Q,rfl⟩:=k.some oM
   have c5:=c4 Q rfl;have a0:n[o]? =some n[o]:=Qq oM;have A:=l3 n[o] (XY oM);generalize n[o]=R at a0 A;refine⟨Q,0,rfl,oM,oM,_,_,_,k.cell rfl a0 (by show y*4<=aQ;unfold aQ at a7⊢;omega) 3 _ rfl,PC.ok (uh (A.1.af z) λa B=>by have:=S a B;have:=(K.then z).size;omega) ?_⟩;rintro _ i3 ⟨i4,i5,i6,G,rfl,a2,f2,hG⟩;refine⟨_,_,_,rfl,Q,0,rfl,oM,oM,?_⟩;refine(k.af f2).step (g:=Q) rfl a0 (a2.row (bytes:=32) dC ?_) A.2 (λa3 hx=>⟨by have:=hG a3 hx;omega,a2.aF a3 hx⟩) c5 λi7 c6 i8 i9=>⟨_,?_,o+1,an (by unfold aQ at a7;omega),oM,rfl,c6⟩
   ·have e:=A.1.d_
    have X:=A.1.len;show R.x.bH.length*32<=aQ;have j0:R.n=R.x.bH.length:=X;have j1:R.n*32<=aQ:=e;omega
   ·omega
  ·obtain rfl:o=y:=oM
   obtain⟨Fd,hd,b0⟩:=k.done;rw [l1,IK]at hd;have a4:=z.get Z id;refine⟨_,_,_,ae a4 rfl,IL (c:=lv) (x:=a1) (j.af z) NO (D:=Fd) ⟨_,_,_,rfl,hd.row dC (by rw [<-e9];exact a7)⟩ (λa B=>⟨hd.aF a B,λc=>?_⟩) ?_ ?_ λa' C j2 F' d0 b1 c7 g3=>⟨_,_,_,rfl,?_⟩⟩
   ·have e:=j.aF a (j.self a c)
    rcases b0 a B with X|X
    ·have:=P a X;omega
    ·omega
   ·have:=List.length_take_le b L.types;unfold aQ at E⊢;omega
   ·have:=List.length_take_le b L.types;unfold aQ at E;unfold maxLen;omega
   ·have l:¬aI I=some r.heap.size:=λc=>by have:=m _ (j.self _ c);omega
    have f3:=b1.get a4 l;have j3:=b1.size;refine PS.mk f3 sM λj4 c8 j5 f4=>⟨_,?_,b+1,an (by unfold aQ at E;omega),oM,rfl,?_,a',J+1,C,F',f4,?_,?_⟩
    ·omega
    ·exact((x.af z).new b1 λa B=>.inr (m _ (j.self a B))).then c8
    ·rw [Qw,b8]
     refine d0.keep c8 λa B c=>?_;rcases c7 a B with e|e|e
     ·have:=m a e;omega
     ·rcases b0 a e with X|X
      ·have:=P a X;omega
      ·omega
     ·omega
    ·intro a B
     rcases c7 a B with e|e|e
     ·exact m a e
     ·rcases b0 a e with X|X
      ·have:=P a X;omega
      ·omega
     ·omega
 ·obtain rfl:b=tn:=oM
  rw [Qz oM]at j;have d1:=x.get gz oM;have f0:=(U.af t).keep x λa B c=>by have:=U.aF a B;omega
  refine⟨_,_,_,_,_,_,ae Z rfl,ae Z rfl,PS.mk d1 sM λj6 b2 j7 f5=>PS.mk f5 sM λj8 b3 j9 d2=>⟨_,_,_,_,_,_,ae d2 rfl,ae d2 rfl,Ok.mk ⟨_,_,_,_,_,_,λa=>v a\/G1 a,rfl,⟨?_,?_⟩,?_,?_⟩⟩⟩
  ·have l:∀a,v a->a≠w1.heap.size:=λa B c=>by have:=m a B;omega
   exact((((j.row (bytes:=24) dC (by rw [<-d3];exact E)).keep b2 λa B c=>l a B c).keep b3 λa B c=>l a B c)).mono λa B=>.inl B
  ·have l:∀a,G1 a->a≠w1.heap.size:=λa B c=>by have:=b4 a B;omega
   exact((((f0.row (bytes:=40) dC (by rw [<-d4];exact d5)).keep b2 λa B c=>l a B c).keep b3 λa B c=>l a B c)).mono λa B=>.inr B
  ·rintro a (B|B)
   ·have:=m a B;have:=j.aF a B;omega
   ·have:=b4 a B;have:=U.aF a B;omega
  ·exact(K.new b2 λa B=>.inr oM).new b3 λa B=>.inr oM
end
end Go.Proofs.YtfchlbaidamodaaGreatDoor
namespace Go.ax
open Go
def pt {a b c:Type} (d:a->b->c->Prop):List (a×b)->List (a×c)->Prop
 |[],[]=>True
 |(e,f)::g,(h,i)::j=>e=h/\d e f i/\pt d g j
 |_,_=>False
section
variable {κ β γ:Type} {R R':κ->β->γ->Prop}
theorem pt.mono:∀{a:List (κ×β)} {b:List (κ×γ)},pt R a b->(∀f c d,R f c d->R' f c d)->pt R' a b
 |[],[],_,_=>trivial
 |(h,c)::a,(i,d)::b,e,g=>⟨e.1,g _ _ _ e.2.1,pt.mono e.2.2 g⟩
theorem pt.ay [BEq κ] [LawfulBEq κ] (a:κ):∀{b:List (κ×β)} {c:List (κ×γ)},pt R b c->
  (ax.ay b a=none/\ax.ay c a=none)\/∃d e,ax.ay b a=some d/\ax.ay c a=some e/\R a d e
 |[],[],_=>.inl ⟨rfl,rfl⟩
 |(g,d)::b,(k,e)::c,h=>by
  obtain⟨rfl,i,j⟩:=h;unfold ax.ay
  by_cases f:a==g
  ·obtain rfl:a=g:=by simpa using f
   simp only [f,if_true];exact .inr ⟨d,e,rfl,rfl,i⟩
  ·simp only [f];exact pt.ay a j
theorem pt.off {h:κ}:∀{a:List (κ×β)} {b:List (κ×γ)},pt R a b->(∀c d e,c≠h->R c d e->R' c d e)->h∉a.map (·.1)->pt R' a b
 |[],[],_,_,_=>trivial
 |(k,d)::a,(l,e)::b,f,i,g=>by
  simp only [QY,Q2,not_or]at g;exact⟨f.1,i _ _ _ (λj=>g.1 j.symm) f.2.1,pt.off f.2.2 i g.2⟩
theorem pt.aJ [BEq κ] [LawfulBEq κ] {a:κ} {b:β} {c:γ} (g:R' a b c):∀{d:List (κ×β)} {h:List (κ×γ)},pt R d h->(∀i b c,i≠a->R i b c->R' i b c)->Tidy d->pt R' (ax.aJ d a b) (ax.aJ h a c)
 |[],[],_,_,_=>⟨rfl,g,trivial⟩
 |(k,q)::d,(r,s)::h,m,j,e=>by
  obtain⟨rfl,n,l⟩:=m;unfold Tidy at e;simp only [QY,List.nodup_cons]at e;unfold ax.aJ
  by_cases f:a==k
  ·simp only [f,if_true]
   obtain rfl:a=k:=by simpa using f
   refine⟨rfl,g,?_⟩;have o:a∉d.map (·.1):=e.1;exact pt.off l j o
  ·simp only [f]
   exact⟨rfl,j _ _ _ (λp=>f (by simp [p])) n,pt.aJ g l j e.2⟩
end
def xo {d:Type} (f:World) (g:Nat) (b:d->Value) (h:d) (i:Int):Prop:=
 ∃(e:Array MapEntry) (a j:Nat) (c:MapEntry),f.heap[g]? =some (.map e a)/\e[j]? =some c/\c.key=b h/\(c.born:Int)=i
variable{e:Int}{a:Nat}{j:Type}{v:Value}{o:Value->World->Prop}{b k:World}{y:World->Prop}
theorem xo.keep {S:Nat->Prop} {d:j->Value} {f:j} (g:xo b a d f e) (h:aj S b k) (i:¬S a):xo k a d f e:=by
 obtain⟨l,c,m,n,o,p⟩:=g;exact⟨l,c,m,n,h.get o i,p⟩
section
variable {κ:Type} [BEq κ] [LawfulBEq κ] {P:Program} {t kt vt:TypeId} {z:Value} {enc:κ->Value}
theorem Gm {κ e:Type} [BEq κ] [LawfulBEq κ] {b:κ} {f:e}:∀{c:List (κ×e)},ay c b=some f->aJ c b f=c
 |(g,h)::c,a=>by
  unfold ay at a;unfold aJ
  by_cases d:b==g
  ·rw [if_pos d]at a⊢
   obtain rfl:b=g:=by simpa using d
   cases a;rfl
  ·rw [if_neg d]at a⊢
   rw [Gm a]
theorem Ia (u:nu P t kt vt z) (n:jh P kt enc) {e:List (κ×Value)} (v:cx b a enc e) {k:κ} {w H:Value->World->Prop}
  (o:∀w' B,cx w' a enc (aJ e k ((ay e k).getD z))->xo w' a enc k B->aj (·=a) b w'->w'.heap.size=b.heap.size->w (.tuple #[(ay e k).getD z,QH B]) w'):aH P (Instr.mapEntry t (.map (some a)) (enc k)) b w H:=by
 obtain⟨d,c,j,l,x,C⟩:=v.at';have p:=kj n k d.toList e l b;have I:d.toList.length=e.length:=by have:=congrArg List.length l;simpa using this
 have q:=aC j;have h:=yL e k 0
 cases r:nd e k 0 with
 |none=>
  rw [r]at p h;have s:ay e k=none:=h.symm;rw [s]at o;have J:=u.Oz b;refine aH.mk (w':={b with heap:=b.heap.setIfInBounds a (.map (d.push {key:=enc k,val:=z,born:=c}) (c+1))}) ?_ (o _ c ⟨⟨_,_,dm b a _ q,?_,?_,?_⟩,v.tidy.aJ k z⟩ ⟨_,_,d.size,{key:=enc k,val:=z,born:=c},dm b a _ q,sM,rfl,rfl⟩ (aj.setObj b a _) sM)
  ·simp [Instr.mapEntry,run_underlying u.under,dW j,ei n,p,eZ j,J,goInt]
  ·rw [Option.getD_none,(sP r).1 z];simp [l]
  ·intro g i
   simp only [Array.toList_push,Q6,List.mem_singleton]at i;rcases i with i|rfl
   ·have:=x g i;omega
   ·show c<c+1;omega
  ·simp only [Array.toList_push,Q3,QY,List.map_nil]
   rw [List.nodup_append];refine⟨C,sM,?_⟩;intro K h L y T;simp only [List.mem_singleton]at y;obtain⟨g,i,rfl⟩:=Xk.1 h;have:=x g i;omega
 |some M=>
  obtain⟨f,E⟩:=M;rw [r]at p h;have s:ay e k=some E:=h.symm;obtain⟨_,N,F,O⟩:=oh r;rw [Nat.sub_zero]at N F O;have A:f<d.size:=by
                 have:d.size=e.length:=by simpa using I
                 omega
  have m:d[f].key=enc k:=by
   have:=congrArg (·[f]?) l;simp only [Q9,F,Option.map_some]at this;simp [A]at this;exact this.1
  have Q:(d.modify f λg=>{g with key:=enc k})=d:=by
   apply Array.ext
   ·simp
   ·intro U V W
    rw [Array.getElem_modify];split
    ·rename_i g;subst g
     cases R:d[f]with
     |mk K L w=>rw [R]at m;simp at m;simp [m]
    ·rfl
  rw [s]at o;refine aH.mk (w':={b with heap:=b.heap.setIfInBounds a (.map d c)}) ?_ (o _ (d[f].born) ⟨⟨_,_,dm b a _ q,?_,x,C⟩,v.tidy.aJ k E⟩ ⟨_,_,f,d[f],dm b a _ q,by simp [A],m,rfl⟩ (aj.setObj b a _) sM)
  ·have S:(Instr.keyThatStays (enc k) (enc k)).run P b= .ok (enc k) b:=by simp [Instr.keyThatStays,n.same]
   simp [Instr.mapEntry,run_underlying u.under,dW j,ei n,p,A,m,S,eZ j,Q,goInt]
  ·rw [Option.getD_some,Gm s];exact l
theorem Dq (J:jh P kt enc) {d:List (κ×Value)} (s:cx b a enc d) {i:κ} (K:xo b a enc i e) 
  (L:∀n,cx n a enc (aJ d i v)->aj (·=a) b n->n.heap.size=b.heap.size->y n):jU P (Instr.entryStore t (.map (some a)) (QH e) v) b y o:=by
 obtain⟨g,l,p,u,M,z⟩:=s.at';obtain⟨N,q,c,j,m,O,A,Q⟩:=K;rw [p]at m;cases m
 subst Q;have R:g.toList.length=d.length:=by have:=congrArg List.length u;simpa using this
 have S:=aC p;obtain⟨r,rfl⟩:=Q5.1 O;have w:c<d.length:=by
                have:g.size=d.length:=by simpa using R
                omega
 have B:d[c]? =some (i,g[c].val):=by
  have:=congrArg (·[c]?) u;simp only [Q9,Qq w,Option.map_some]at this;simp [r]at this;have T:d[c].1=i:=J.inj (by rw [<-this.1,A]);rw [Qq w]
  congr 1
  exact Prod.ext T this.2.symm
 have U:aJ d i v=d.set c (i,v):=by
  cases C:nd d i 0 with
  |none=>
   have E:=yL d i 0;rw [C]at E;have:=nU.1 E.symm;exact absurd (Xk.2 ⟨_,QZ B,rfl⟩) this
  |some V=>
   obtain⟨h,a2⟩:=V;obtain⟨_,f,F,H⟩:=oh C;rw [Nat.sub_zero]at f F H;have k:h=c:=by
    have W:(d.map (·.1))[h]? =some i:=by rw [Q9,F];rfl
    have X:(d.map (·.1))[c]? =some i:=by rw [Q9,B];rfl
    obtain⟨Y,Z⟩:=Qv.1 W;obtain⟨q3,q4⟩:=Qv.1 X;exact(List.getElem_inj (xs:=d.map (λe=>e.1)) (h₀:=Y) (h₁:=q3) (show(d.map (λe=>e.1)).Nodup from s.tidy)).1 (Z.trans q4.symm)
   rw [(H v).1,k]
 have a0:g.findIdx? (λj=>(j.born:Int)==(g[c].born:Int))=some c:=by
  rw [Array.findIdx?_eq_some_iff_getElem];refine⟨r,sM,λh f=>?_⟩;have a1:h<g.size:=oM
  have a3:g[h].born≠g[c].born:=λj=>by
   have:=(List.getElem_inj (xs:=g.toList.map (·.born)) (h₀:=by simpa using a1) (h₁:=by simpa using r) z).1 (by simpa using j);omega
  simp;omega
 refine jU.mk (w':={b with heap:=b.heap.setIfInBounds a (.map (g.modify c λj=>{j with val:=v}) l)}) ?_ (L _ ⟨⟨_,_,dm b a _ S,?_,?_,?_⟩,s.tidy.aJ i v⟩ (aj.setObj b a _) sM)
 ·simp [Instr.entryStore,dW p,asInt,asIntOf,a0,eZ p]
 ·rw [U]
  apply X3;intro h;have f:=congrArg (·[h]?) u;simp only [Q9]at f;simp only [Array.toList_modify,Q9,Xj,List.getElem?_modify]
  by_cases k:c=h
  ·subst k
   simp [r,w,A]
  ·simp only [k,if_false,Option.map_map]at f⊢
   simpa using f
 ·intro j I
  rw [Array.toList_modify]at I;obtain⟨h,f⟩:=List.getElem?_of_mem I;rw [List.getElem?_modify]at f
  cases x:g.toList[h]? with
  |none=>rw [x]at f;simp at f
  |some e'=>
   rw [x]at f;have hm:=QZ x;have:=M e' hm
   by_cases k:c=h
   ·simp [k]at f;subst f;exact this
   ·simp [k]at f;subst f;exact this
 ·have:(g.modify c λj=>{j with val:=v}).toList.map (·.born)=g.toList.map (·.born):=by
   apply X3;intro h;simp only [Array.toList_modify,Q9,List.getElem?_modify,Option.map_map]
   by_cases k:c=h<;>simp [k]<;>rfl
  rw [this];exact z
end
end Go.ax
namespace Go.Proofs.YtfchlbaidamodaaGreatDoor
open Go.ax
theorem xB {g:Type} {e:g->Int}:∀{f:List g},cO e f=0->∀c∈f,e c=0
 |[],_,c,b=>by cases b
 |y::f,a,c,b=>by
  unfold cO at a
  by_cases d:e y=0
  ·rw [d]at a
   simp only [bne_self_eq_false,Bool.false_eq_true,if_false]at a;rcases Q2.1 b with rfl|b
   ·exact d
   ·exact xB a c b
  ·rw [if_pos (by simpa using d)]at a
   exact absurd a d
variable{J:Bool}{s:Ending->World->Prop}{e m:Int}{C:List ah}{c7:List bD}{b0:List du}{a c i l:Nat}{d p:Option Addr}{g:TypeId}{v:Value}{b:World}{L:aR}{b6:bD}{d4:bk}{e0:jO}
theorem lu (a:dd L=0):sj L=false/\(∀b∈L.types,∀e∈b,fK b e=0)/\∀f∈L.projs,mK L f=0:=by
 unfold dd at a;split at a
 ·simp at a
 ·rename_i g
  simp only at a;split at a
  ·rename_i c
   exact absurd a (by simpa using c)
  ·rename_i c
   refine⟨by simpa using g,λb h=>?_,xB a⟩;have d:cO (λb=>cO (fK b) b) L.types=0:=by simpa using c
   exact xB (xB d b h)
theorem xD (a:sj L=false):1<=L.types.length/\L.types.length<=8/\L.projs.length<=8/\∀b∈L.types,1<=b.length/\b.length<=8:=by
 unfold sj at a;split at a
 ·cases a
 ·rename_i c
  simp only [Bool.or_eq_true,Bool.not_eq_true',decide_eq_true_eq,not_or,Bool.not_eq_false,Nat.not_lt]at c;obtain⟨c,d⟩:=c;rw [bO]at c;refine⟨oM,oM,d,λb e=>?_⟩;rw [List.any_eq_false]at a;have:=a b e;simp only [Bool.or_eq_true,Bool.not_eq_true',not_or,Bool.not_eq_false]at this;have:=bO.1 this.1;omega
theorem Vc (a:fK c7 b6=0):∀b∈b6.bH,b.lU<(c7.length:Int):=by
 intro b d;unfold fK at a;split at a
 ·simp at a
 split at a
 ·simp at a
 split at a
 ·simp at a
 split at a
 ·simp at a
 ·rename_i c
  rw [Bool.not_eq_true,List.any_eq_false]at c;have:=c b d
  by_cases e:b.lU= -1
  ·omega
  ·have:Tz c7 b.lU 1=true:=by
    simpa [e]using this
   unfold Tz at this;simp only [QK]at this;have:=bO.1 this.1;omega
theorem rJ (a:L.Ed e m=some b6):0<=e/\e<(L.types.length:Int)/\L.at e=L.types.getD e.toNat []/\0<=m/\m<((L.at e).length:Int)/\(L.at e).getD m.toNat ⟨0,0,false,[]⟩=b6/\b6∈L.at e:=by
 unfold aR.Ed at a;split at a
 ·rename_i b
  simp only [QK,bO]at b;refine⟨b.1.1,oM,?_,b.2.1,oM,by rw [QQ,a];rfl,QZ a⟩;unfold aR.at;rw [if_pos (bO.2 b.1)]
 ·cases a
theorem at_mem (b:0<=e) (c:e<(L.types.length:Int)):L.at e∈L.types:=by
 unfold aR.at;rw [if_pos (bO.2 ⟨b,oM⟩)];have a:e.toNat<L.types.length:=oM
 have:L.types.getD e.toNat []=L.types[e.toNat]:=by simp [QQ,a]
 rw [this];exact XY a
theorem HN (o:dd L=0) {b d g arg:Int} (a:jY L b d g arg=0) (p:b0.length=(L.at b).length):
  Jb (L.at b) b0 d g arg/\0<=b/\b<(L.types.length:Int)/\(L.at b).length<=8:=by
 obtain⟨q,r,z⟩:=lu o;obtain⟨A,B,C,s⟩:=xD q;unfold jY at a
 cases e:L.Ed b d with
 |none=>rw [e]at a;simp at a
 |some c=>
  rw [e]at a;simp only at a;obtain⟨h,i,E,t,u,v,w⟩:=rJ e;split at a
  ·simp at a
  ·rename_i j
   split at a
   ·simp at a
   ·rename_i k
    simp only [Bool.or_eq_true,Bool.not_eq_true',not_or,Bool.not_eq_false]at j k;have l:=bO.1 j.1;have m:=at_mem h i;refine⟨⟨t,u,p,l.1,l.2,λx=>?_⟩,h,i,(s _ m).2⟩;rw [v];have y:=Vc (r _ m c w);have f:within arg 0 (c.bH.length-1)=true:=by
     have:=k.2;simp only [QK,beq_iff_eq,Bool.not_eq_true',not_and,Bool.not_eq_false]at this;exact this x
    have f:=bO.1 f;have n:arg.toNat<c.bH.length:=oM
    refine⟨f.1,oM,?_⟩;have:c.bH.getD arg.toNat ⟨0,0,0,0⟩=c.bH[arg.toNat]:=by simp [QQ,n]
    rw [this];exact y _ (XY n)
structure bk.OK (V:bk):Prop where
 decl:dd V.decl=0
 st:∀x∈V.fj,x.2.cells.length=(V.decl.at x.1.1).length
theorem OS (b:List bD) (a:List du) (c d arg:Int):(TO b a c d arg).length=a.length:=by
 unfold TO
 simp only;split
 ·simp
 split
 ·simp
 split
 ·simp
 split
 ·simp
 split
 ·simp
 ·rfl
def bk.cellsOf (b:bk) (a:ah):List du:=match ay b.fj (a.bd,a.agg)with
 |some c=>c.cells
 |none=>dG (b.decl.at a.bd)
theorem bk.OK.len (b:d4.OK) (a:ah):(d4.cellsOf a).length=(d4.decl.at a.bd).length:=by
 unfold bk.cellsOf
 cases c:ay d4.fj (a.bd,a.agg)with
 |none=>simp [dG]
 |some d=>exact b.st _ (cF c)
theorem bk.sR (b:bk) (a:ah):b.try a=if jY b.decl a.bd a.field a.op a.arg≠0 then(true,(0,0),b)else
  match((ay b.done (a.bd,a.agg,a.field)).getD []).find? λc=>mU ((b.decl.at a.bd).getD a.field.toNat ⟨0,0,false,[]⟩) c a with
  |some c=>(true,aO c,b)
  |none=>if xL (b.decl.at a.bd) (b.cellsOf a) a.field a.op a.arg≠0 then(true,(0,0),b)else
   (false,(0,0),{b with fj:=aJ b.fj (a.bd,a.agg) ⟨pH (((ay b.fj (a.bd,a.agg)).getD ⟨0,[]⟩).version+1),TO (b.decl.at a.bd) (b.cellsOf a) a.field a.op a.arg⟩,done:=aJ b.done (a.bd,a.agg,a.field) ((ay b.done (a.bd,a.agg,a.field)).getD []++[a])}):=rfl
theorem bk.Tt (a:d4.OK) (c:ah):(d4.try c).2.2.OK/\(d4.try c).2.2.decl=d4.decl:=by
 rw [bk.sR];split
 ·exact⟨a,rfl⟩
 split
 ·exact⟨a,rfl⟩
 split
 ·exact⟨a,rfl⟩
 ·refine⟨⟨a.decl,λd b=>?_⟩,rfl⟩
  rcases fG b with rfl|b
  ·show(TO _ _ _ _ _).length=_
   rw [OS,a.len]
  ·exact a.st d b
theorem bk.Bn (c:d4.OK) (a:ah):(d4.add a).2.OK/\(d4.add a).2.decl=d4.decl:=by
 obtain⟨b,d⟩:=bk.Tt c a;exact⟨⟨b.decl,b.st⟩,d⟩
theorem bk.uk (a:dd L=0):(bk.new L).OK:=⟨a,λc b=>by cases b⟩
def NJ:fv df Int where
 k:=13
 ci:=aP
 ib:=8
 inner:=(·.ev.aK)
 hd:=λa b c d=>aE a.ev b c d++[.bool a.void,QH a.GO.1,QH a.GO.2]
 ok:=λa=>a.ev.Ok
 hl:=λ_ _ _ _=>rfl
 h1:=λa b c d f e=>by
  simp only [aE,List.cons_append,List.nil_append,Q2,List.not_mem_nil,or_false]at e;rcases e with rfl|rfl|rfl|rfl|rfl|rfl|rfl|rfl|rfl|rfl|rfl|rfl|rfl<;>rfl
 o:=3
 ho:=dC
 fz:=λ_ _ _ _ _ _ _=>rfl
abbrev Ab:kM df:=NJ.Pe
abbrev iG (a:df) (b:Option Addr) (c d:Nat):List Value:=aE a.ev b c d++[.bool a.void,QH a.GO.1,QH a.GO.2]
theorem Tm:jP ZQ 43 160 13 120:=⟨kR,kR,dC⟩
theorem mg (a:df) (b:Option Addr) (c d:Nat):jg ZQ 160 (iG a b c d)=true:=kR
theorem Rn (a:df) (b:Option Addr) (c d:Nat):TF (fe ZQ 160) (.agg (iG a b c d).toArray)=true:=kR
theorem To:Le ZQ 252 3:=⟨kR,kR,⟨"typ", "no",kR,dC,dC⟩,kR,kR,kR⟩
theorem Va:xA ZQ 306 252 3:=⟨To,kR,⟨"agg", "field",kR,dC,dC⟩,kR,kR,kR⟩
theorem WT:jh ZQ 252 pO:=To.key
theorem Zf:jh ZQ 306 D_:=Va.key
theorem Zg:nu ZQ 239 252 42 (.agg #[QH 0,.slice none 0 0]):=⟨kR,kR⟩
theorem Zo:nu ZQ 240 306 50 (.slice none 0 0):=⟨kR,kR⟩
inductive KX where
 |self|st|dn|QU|Tp|Yj
 |done (k:Int×Int×Int)
structure GJ where
 ta:Option Addr
 tn:Nat
 tc:Nat
 pa:Option Addr
 pn:Nat
 pc:Nat
 ea:Option Addr
 en:Nat
 ec:Nat
 r1:Nat
 r2:Nat
 l1:List ((Int×Int)×Value)
 l2:List ((Int×Int×Int)×Value)
 cls:Nat->KX
abbrev GJ.P (b:GJ) (c:Nat->Prop) (d:KX):Nat->Prop:=λa=>c a/\b.cls a=d
def Yy (d:World) (D:Nat->Prop) (e:Value) (a:mV):Prop:=∃b c f,e= .agg #[QH a.version,.slice b c f]/\Row fL 32 d D b c a.cells
def Yz (d:World) (D:Nat->Prop) (e:Value) (f:List ah):Prop:=∃a b c,e= .slice a b c/\aV fZ 59 D d a b c f
structure zY (w:World) (p:Nat) (F:Nat->Prop) (V:bk) (q:GJ):Prop where
 at':w.heap[p]? =some (.cells #[.slice q.ta q.tn q.tc,.slice q.pa q.pn q.pc,.slice q.ea q.en q.ec,.map (some q.r1),.map (some q.r2)] 242 (0,0))
 Tp:bh w (q.P F .Tp) V.decl q.ta q.tn q.pa q.pn
 QU:aV Ab 160 (q.P F .QU) w q.ea q.en q.ec V.entries
 st:cx w q.r1 pO q.l1
 Yk:fJ (Yy w (q.P F .Yj)) q.l1 V.fj
 dn:cx w q.r2 D_ q.l2
 YC:pt (λk=>Yz w (q.P F (.done k))) q.l2 V.done
 aF:∀b,F b->b<w.heap.size
 lp:F p/\q.cls p= .self
 l1:F q.r1/\q.cls q.r1= .st
 l2:F q.r2/\q.cls q.r2= .dn
def cT (b:World) (c:Nat) (d:Nat->Prop) (a:bk):Prop:=a.OK/\∃e,zY b c d a e
section
variable {w w':World} {p:Nat} {F T D:Nat->Prop} {V:bk} {q:GJ}
theorem Yy.keep {a:mV} (c:Yy w D v a) (d:aj T w w') (e:∀b,D b->¬T b):Yy w' D v a:=by
 obtain⟨f,g,h,i,j⟩:=c;exact⟨f,g,h,i,j.keep d e⟩
theorem Yz.keep (b:Yz w D v C) (c:aj T w w') (d:∀a,D a->¬T a):Yz w' D v C:=by
 obtain⟨e,f,g,h,i⟩:=b;exact⟨e,f,g,h,i.keep c d⟩
theorem zY.keep (a:zY w p F V q) (d:aj T w w') (e:∀b,F b->¬T b):zY w' p F V q:=
 ⟨d.get a.at' (e _ a.lp.1),a.Tp.keep d λb c=>e b c.1,a.QU.keep d λb c=>e b c.1,a.st.keep d (e _ a.l1.1),a.Yk.mono λg h f=>f.keep d λb c=>e b c.1,
  a.dn.keep d (e _ a.l2.1),a.YC.mono λi g h f=>f.keep d λb c=>e b c.1,λb c=>Qk (a.aF b c) d.size,a.lp,a.l1,a.l2⟩
theorem zY.af (a:zY w p F V q) (b:ai w w'):zY w' p F V q:=a.keep b λ_ _ a=>a
theorem cT.keep (a:cT w p F V) (c:aj T w w') (d:∀b,F b->¬T b):cT w' p F V:=⟨a.1,a.2.imp λq e=>e.keep c d⟩
theorem cT.af (a:cT w p F V) (b:ai w w'):cT w' p F V:=a.keep b λ_ _ a=>a
theorem cT.aF (b:cT w p F V):∀a,F a->a<w.heap.size:=b.2.elim λq c=>c.aF
theorem cT.self (a:cT w p F V):F p:=a.2.elim λq b=>b.lp.1
theorem IM {m n:Option Addr} {tn v o x:Nat} (y:dd L=0) (z:bh w D L m tn n o) (A:∀a,D a->a<w.heap.size):
  Calls ZQ 78 #[.agg #[.slice m tn v,.slice n o x]] w (Ok λB w'=>∃p F,B= .pointer (some ⟨p,0,none⟩)/\cT w' p F (bk.new L)/\(∀a,F a->w.heap.size<=a)/\ai w w'):=by
 refine LI (PA.mk λK q M r=>⟨_,_,_,_,_,_,ae r rfl,ae r rfl,PC.ok (EJ (z.af q) λa b=>by have:=A a b;omega) ?_⟩);rintro _ e ⟨g,AW,h,i,j,k,G,rfl,C,E,s⟩;refine⟨_,_,_,_,_,_,rfl,PA.mk λc t N H=>PA.mk λd l O I=>PA.mk λu f P J=>Ok.mk ⟨d.heap.size,λa=>w.heap.size<=a/\a<u.heap.size,rfl,⟨bk.uk y,
  ⟨⟨g,AW,h,i,j,k,none,0,0,e.heap.size,c.heap.size,[],[],λa=>if a=d.heap.size then .self else if a=e.heap.size then .st else if a=c.heap.size then .dn else .Tp⟩,?_⟩⟩,λa b=>b.1,((q.then s).then t).then (l.then f)⟩⟩
 have Q:=s.size;refine⟨J,?_,?_,cx.new (f.get (l.get H id) id),trivial,cx.new (f.get I id),trivial,λa b=>b.2,⟨⟨by show w.heap.size<=d.heap.size;omega,by show d.heap.size<_;omega⟩,if_pos rfl⟩,⟨⟨by show w.heap.size<=e.heap.size;omega,by show e.heap.size<_;omega⟩,?_⟩,⟨⟨by show w.heap.size<=c.heap.size;omega,by show c.heap.size<_;omega⟩,?_⟩⟩
 ·refine(((C.af t).af l).af f).mono λa b=>?_
  have:=E a b;refine⟨⟨oM,oM⟩,?_⟩;show(if a=d.heap.size then _ else _)=_;rw [if_neg oM,if_neg oM,if_neg oM]
 ·exact(aV.nil u).mono (λa b=>b.elim) λa b=>b.1.2
 ·show(if e.heap.size=d.heap.size then _ else _)=_
  rw [if_neg oM,if_pos rfl]
 ·show(if c.heap.size=d.heap.size then KX.self else if c.heap.size=e.heap.size then KX.st else if c.heap.size=c.heap.size then KX.dn else KX.Tp)=KX.dn
  rw [if_neg oM,if_neg oM,if_pos rfl]
abbrev IB:mV:=⟨0,[]⟩
theorem ox (k:cT w p F V) :
  Calls ZQ 84 #[.pointer (some ⟨p,0,none⟩),QH e,QH m] w (Ok λs w'=>∃c d f G,s= .tuple #[.agg #[QH ((V.state e m).getD IB).version,.slice c d f],.bool (V.state e m).isSome]/\aV fL 84 G w' c d f ((V.state e m).getD IB).cells/\(∀a,G a->w.heap.size<=a)/\ai w w'):=by
 obtain⟨T,q,k⟩:=k;refine vR (PA.mk λt u U A=>?_);have j:=k.af u;refine⟨p,0,rfl,_,ae j.at' rfl,nw (enc:=pO) (k:=(e,m)) Zg WT j.st ?_⟩;obtain⟨i,a,c,d,f,g,h,B,C,l⟩:∃(i:mV) (a:Bool) (c:Option Addr) (d f:Nat),(ay q.l1 (e,m)).getD (.agg #[QH 0,.slice none 0 0])= .agg #[QH i.version,.slice c d f]/\(ay q.l1 (e,m)).isSome=a/\(V.state e m).getD IB=i/\(V.state e m).isSome=a/\Row fL 32 t (q.P F .Yj) c d i.cells:=by
  unfold bk.state;rcases j.Yk.ay (e,m)with⟨g,h⟩|⟨s,i,g,h,c,d,f,rfl,l⟩
  ·exact⟨IB,false,none,0,0,by rw [g];rfl,by rw [g];rfl,by rw [h];rfl,by rw [h];rfl,Row.nil _ _⟩
  ·exact⟨i,true,c,d,f,by rw [g];rfl,by rw [g];rfl,by rw [h];rfl,by rw [h];rfl,l⟩
 rw [g,h,B,C];refine⟨_,_,_,_,_,rfl,PA.mk λW E X H=>PS.mk H sM λY I Z J=>PS.mk J sM λK L s7 v=>?_⟩;have n:ai t K:=(E.new I λa b=>.inr oM).new L λa b=>.inr oM;refine⟨_,_,_,_,ae v rfl,ae v rfl,PC.ok (Mg (l.af n) λa b=>by have:=j.aF a b.1;omega) ?_⟩;rintro _ w8 ⟨M,N,O,G,rfl,P,o,r⟩;have Q:=r.get (n.get A id) id;have z8:=r.size;refine⟨_,_,_,_,rfl,PS.mk Q sM λw9 x s9 R=>PS.mk R sM λa0 y a1 z=>⟨_,_,_,_,ae z rfl,ae z rfl,Ok.mk ⟨M,N,O,G,rfl,?_,?_,?_⟩⟩⟩
 ·exact(P.keep x λa b S=>by have:=o a b;omega).keep y λa b S=>by have:=o a b;omega
 ·intro a b;have:=o a b;omega
 ·exact(((u.then n).then r).new x λa b=>.inr oM).new y λa b=>.inr oM
end
def AG:fS:=⟨[],[(5,[])],[],[],[(3,⟨[0,1,2,4,12,16,48,80,144,16,528,1296,2064,4112,8208,16400,32768,98304,163840,262144,786432,1310720,2392064,4227072],[16777215,16777214,16777213,16777211,16777207,16777199,16777167,16777135,16777071,16777199,16776687,16775919,16775151,16773103,16769007,16760831,16744447,16678911,16613375,16515071,15990783,15466495,14385151,12550143],[0,1,2,0,0,0,1,0,1,0,1,0,0,0,0,0,0,1,0,0,1,0,0,0]⟩)]⟩
theorem AH (y:PA b (.cells #[.slice d a c] 130) λg=>PA g (.cells #[.ii e,.ii m,.bool J,.slice p i l] 123) λq=>(rI q (ab_ g 0) λz=>PC_ 125 #[.ii z,.ii 1,.ii 4] q (kB λA r=>al (!A) (rt s ((.ii 2)) r) ((∃h:World->Prop,((∀j,bE r j->(rI j (ab_ g (0+1)) λB=>PC_ 125 #[.ii B,.ii 1,.ii 3] j (kB λC f=>al (!C) (rt s ((.ii 1)) f) ((rI f (ab_ g 0) λk=>(∃t u,((some (ad 0 0)):Option Addr)=some ⟨t,u,none⟩/\(0:Int)<=k/\k<(5:Int)/\(rI f (ad t (u+Int.toNat k)) λE=>(rI f (ab_ g (0+1)) λD=>(∃v,(∀w,(eq_ .shr 3 (.tmp 19) (.tmp 21) (.ii E) (.ii D)).run ZQ w= .ok (.ii v) w)/\al (((BL .i64 v 1):Int)==0) (rt s ((.ii 1)) f) ((rB f (ab_ g (0+2)) λF=>al F ((rI f (ab_ g 0) λH=>al (H !=1) (rt s ((.ii 1)) f) (h f))) (h f)))))))))) (pZ s))))/\∀(Q:Nat->Value) (n:World),h n->(rS n (ab_ g (0+3)) λG I K=>PC_ 129 #[.slice G I K,.func (.func 126) #[] #[]] n (kB λL o=>al L (rt s ((.ii 1)) o) ((rS o (ab_ g (0+3)) λM N O=>PC_ 129 #[.slice M N O,.func (.func 127) #[] #[.pointer (some (ab_ b 0))]] o (kB λP x=>al P (rt s ((.ii 8)) x) (rt s ((.ii 0)) x)) (pE s)))) (pE s))))) (pE s))):Calls ZQ 68 #[.agg #[.slice d a c],.agg #[.ii e,.ii m,.bool J,.slice p i l]] b s:=DC AG Tryz.func68 rfl y
section
variable {w w':World} {D D' S:Nat->Prop} {d:aR} {ta pa:Option Addr} {tn tc pn pc:Nat}
theorem yX {b c op arg:Int} (S:eM w) (l:bh w D d ta tn pa pn) (T:∀h,D h->h<w.heap.size):
  Calls ZQ 151 #[.agg #[.slice ta tn tc,.slice pa pn pc],QH b,QH c,QH op,QH arg] w (Ok λg w'=>g= QH (jY d b c op arg)/\ai w w'):=by
 refine EA (PA.mk λw1 C s1 E=>⟨_,_,_,_,_,_,ae E rfl,ae E rfl,PC.ok (px (l.af C) λh t=>by have:=T h t;omega) ?_⟩);rintro g w2 ⟨U,q⟩;have r:=C.then U
 cases m:d.Ed b c with
 |none=>
  rw [m]at q;refine cu (Ku X_ none 0 0) ⟨_,q,PA.mk λV u W v=>aD (fD _ _ _ _) v rfl λX x Y F=>al.tt rfl (Ok.mk ⟨?_,(r.then u).new x λh t=>.inr (by have:=r.size;omega)⟩)⟩;unfold jY;rw [m]
 |some i=>
  rw [m]at q;obtain⟨s,j,H,a5,rfl,Z,hF⟩:=q;have y:jY d b c op arg=if !within op 1 5||rO op !=i.kind then 2 else if op==1&&arg==0||op==5&& !within arg 0 (i.bH.length-1)then 1 else 0:=by unfold jY;rw [m]
  have hz:=r.size;refine cu (Ku i s j H) ⟨_,rfl,PA.mk λV u W v=>aD (fD i s j H) v rfl λX x Y F=>al.ff rfl λz I=>PC.ok cK ?_⟩;rintro _ _ ⟨rfl,rfl⟩;have J:=(bE.keep (S:=λ_=>False) I).get F id;have K:ai w z:=((r.then u).new x λh t=>.inr oM).then I.keep;have a:∀A:Int,jY d b c op arg=A->Ok (λg w'=>g= QH (jY d b c op arg)/\ai w w') (.returned (QH A)) z:=λA l=>Ok.mk ⟨by rw [l],K⟩;refine⟨_,rfl,al.not (al.mk (λf=>?_) (λf=>a 2 (by rw [y,f];rfl)))⟩;have a6:=bO.1 f;refine⟨1,0,rfl,oM,oM,rO op,?_,_,ae J rfl,al.dw (λa0=>a 2 ?_) (λhe=>?_)⟩
  ·have:=(S.af K).kinds op.toNat oM
   rw [Xz,this,Int.toNat_of_nonneg oM]
  ·rw [y,f,if_pos (by simpa using a0)]
  have n:jY d b c op arg=if op==1&&arg==0||op==5&& !within arg 0 (i.bH.length-1)then 1 else 0:=by rw [y,f,he];simp
  have hn:j=i.bH.length:=Z.len dC;have a7:j<=140737488355328:=by
   obtain⟨a1,AW,L,-⟩:∃(s:Option Addr) (j:Nat),Row gC 32 w D s j i.bH/\True:=by
    obtain⟨k,o,a8,a3,a9,B,h3,h4⟩:=aR.rJ m;have b0:=l.bd.len;obtain⟨h,a2,T',es,rfl,_,_,p,M,b1,n1,c1,rfl,N⟩:=l.bd.at (i:=b) k oM;rw [a3]at p;cases p
    have b2:=N.len;obtain⟨b3,b4,x',b5,rfl,_,_,O,b6,b7,n2,c2,rfl,hM,_⟩:=N.at (i:=c) B oM;rw [h4]at O;cases O
    exact⟨_,_,hM,trivial⟩
   have o:=L.len;have B:=L.d_;unfold aQ at B;omega
  have bH:∀{P:List PanicEntry->World->Prop},op=5->PC ZQ 125 #[QH arg,QH 0,QH (IntKind.wrap .i64 ((j:Int)-1))] z (λa4 Q=>∃R:Bool,a4= .bool R/\al (!R) (Ok (λg w'=>g= QH (jY d b c op arg)/\ai w w') (.returned (QH 1)) Q) (Ok (λg w'=>g= QH (jY d b c op arg)/\ai w w') (.returned (QH 0)) Q)) P:=by
   intro P e;refine PC.ok cK ?_;rintro _ _ ⟨rfl,rfl⟩;rw [wrap_i64 (by unfold aN;omega),hn];refine⟨_,rfl,al.not (al.mk (λf=>a 0 ?_) (λf=>a 1 ?_))⟩
   ·rw [n,f,e];rfl
   ·rw [n,f,e];rfl
  refine al.dX (λo=>al.dX (λk=>al.dX (λ_=>a 1 (by rw [n,o,k];rfl)) (λM=>absurd k M)) (λk=>al.dX (λe=>absurd e oM) (λe=>a 0 ?_))) (λo=>al.dX (λe=>⟨_,_,_,ae J rfl,bH e⟩) (λe=>a 0 ?_))
  ·rw [n,if_neg (by simp [k,e])]
  ·rw [n,if_neg (by simp [o,e])]
theorem GB {h:Option Addr} (d:Row pT 48 w D h a c7):
  Calls ZQ 128 #[.agg #[.slice h a c],QH e,QH m] w (Ok λk w'=>k= .bool (Tz c7 e m)/\ai w w'):=by
 have i:=d.len;have l:=d.d_;unfold aQ at l;refine Ji (PA.mk λq f r j=>⟨_,_,_,ae j rfl,PC.ok cK ?_⟩);rintro _ _ ⟨rfl,rfl⟩;rw [wrap_i64 (by unfold aN;omega)];refine⟨_,rfl,al.mk (λb=>?_) (λb=>Ok.mk ⟨?_,f⟩)⟩
 ·have s:=bO.1 b
  obtain⟨n,g,t,u,rfl,_,_,o,p,v,x,y,rfl,_⟩:=(d.af f).at (i:=e) oM oM;refine⟨_,_,_,ae j rfl,n,g,rfl,oM,oM,_,p 0 dC,Ok.mk ⟨?_,f⟩⟩;unfold Tz;rw [<-i,b,o];rfl
 ·unfold Tz;rw [<-i,b];rfl
theorem UN (b:1<=e/\e<=4) (c:1<=m/\m<=3):∃a:Int,(∀w',(do eqGuard .shr 3 (.tmp 19) (.tmp 21) (QH (([0,2,14,6,6]:List Int).getD e.toNat 0)) (QH m);binOp .shr 3 (QH (([0,2,14,6,6]:List Int).getD e.toNat 0)) (QH m):Sem Value).run ZQ w'= .ok (QH a) w')/\((BL .i64 a 1==0)= !Wn e m):=by
 refine⟨(([0,2,14,6,6]:List Int).getD e.toNat 0).fdiv (2 ^ m.toNat),?_,?_⟩<;>rcases(by omega:e=1\/e=2\/e=3\/e=4)with rfl|rfl|rfl|rfl<;>rcases(by omega:m=1\/m=2\/m=3)with rfl|rfl|rfl<;>first
  |(intro w';kernel_rfl)
  |decide
def Ny (m:kO):Bool:=decide (m.ck<0)||decide (m.qF<0)||m.lU== -1&&m.least !=0
theorem UO {d:kO}:Calls ZQ 126 (#[]++ #[.agg (oz d).toArray]++ #[]) w (Ok λg w'=>g= .bool (Ny d)/\ai w w'):=by
 refine xZ (PA.mk λh b i c=>⟨_,ae c rfl,al.dec (λa=>Ok.mk ⟨by simp [Ny,a],b⟩) (λe=>⟨_,ae c rfl,al.dec (λa=>Ok.mk ⟨by simp [Ny,a],b⟩) (λf=>⟨_,ae c rfl,al.dX (λa=>⟨_,ae c rfl,Ok.mk ⟨by simp [Ny,e,f,a],b⟩⟩) (λa=>Ok.mk ⟨by simp [Ny,e,f,a],b⟩)⟩)⟩)⟩)
def KL (b:List bD) (a:kO):Bool:=a.lU != -1&& !Tz b a.lU 1
theorem UP {d:kO} {f:Option Addr} (j:Row pT 48 w D f c c7) (k:w.heap[a]? =some (.cells #[.slice f c i] g (0,0))):
  Calls ZQ 127 (#[]++ #[.agg (oz d).toArray]++ #[.pointer (some ⟨a,0,none⟩)]) w (Ok λl w'=>l= .bool (KL c7 d)/\ai w w'):=by
 refine x_ (PA.mk λn b o h=>⟨_,ae h rfl,al.dw (λe=>⟨_,_,_,ae (b.get k id) rfl,_,ae h rfl,PC.ok (GB (j.af b)) ?_⟩) (λe=>Ok.mk ⟨by simp [KL,e],b⟩)⟩);rintro _ p ⟨rfl,m⟩;exact⟨_,rfl,Ok.mk ⟨by unfold KL;rw [show(d.lU != -1)=true by simpa using e];simp,b.then m⟩⟩
theorem Is {y z:Option Addr} (H:eM w) (I:Row pT 48 w D y a c7) (A:Row gC 32 w D z i b6.bH):
  Calls ZQ 68 #[.agg #[.slice y a c],.agg (eg b6 z i l).toArray] w (Ok λp w'=>p= QH (fK c7 b6)/\ai w w'):=by
 refine AH (PA.mk λU J V K=>PA.mk λq B W r=>⟨_,ae r rfl,PC.ok cK ?_⟩);rintro _ _ ⟨rfl,rfl⟩;have C:=J.then B;refine⟨_,rfl,al.not (al.mk (λg=>?_) (λg=>Ok.mk ⟨by unfold fK;rw [g];rfl,C⟩))⟩;have s:=bO.1 g;refine⟨λw'=>ai w w'/\q.heap.size<=w'.heap.size/\ai q w'/\within b6.eV 1 3=true/\Wn b6.kind b6.eV=true/\(b6.floor&&b6.kind !=1)=false,λn E=>?_,?_⟩
 ·have e:=(bE.keep (S:=λ_=>False) E).get r id
  have f:ai q n:=E.keep;have b:ai w n:=C.then f;have h:fK c7 b6=1->Ok (λp w'=>p= QH (fK c7 b6)/\ai w w') (.returned (QH 1)) n:=λm=>Ok.mk ⟨by rw [m],b⟩;refine⟨_,ae e rfl,PC.ok cK ?_⟩;rintro _ _ ⟨rfl,rfl⟩;refine⟨_,rfl,al.not (al.mk (λd=>?_) (λd=>h (by unfold fK;rw [g,d];rfl)))⟩;have t:=bO.1 d;obtain⟨L,M,N⟩:=UN s t;refine⟨_,ae e rfl,0,0,rfl,oM,oM,_,by rw [Xz];exact(H.af b).Ya b6.kind.toNat oM,_,ae e rfl,L,M,?_⟩;rw [N];refine al.not (al.mk (λj=>⟨_,ae e rfl,al.mk (λu=>⟨_,ae e rfl,al.dw (λO=>h ?_) (λP=>⟨b,f.size,f,d,j,by simp [P]⟩)⟩) (λu=>⟨b,f.size,f,d,j,by simp [u]⟩)⟩) (λj=>h (by unfold fK;rw [g,d,j];rfl)));unfold fK;rw [g,d,j,u];simp [O]
 ·rintro X n ⟨b,Y,f,d,j,Q⟩
  have e:=f.get r id;have v:fK c7 b6=if b6.bH.any Ny then 1 else if b6.bH.any (KL c7)then 8 else 0:=by
   unfold fK;rw [g,d,j,Q];rfl
  refine⟨_,_,_,ae e rfl,PC.ok (KK (p:=Ny) (A.af b) kR λR S k=>UO) ?_⟩;rintro _ S ⟨rfl,k⟩;refine⟨_,rfl,al.mk (λm=>Ok.mk ⟨by rw [v,if_pos m],b.then k⟩) (λm=>⟨_,_,_,ae (k.get e id) rfl,PC.ok (KK (p:=KL c7) (A.af (b.then k)) kR λR T o=>UP (I.af ((b.then k).then o)) (o.get (k.get (f.get (B.get K id) id) id) id)) ?_⟩)⟩;rintro _ T ⟨rfl,o⟩;have F:=(b.then k).then o;exact⟨_,rfl,al.mk (λx=>Ok.mk ⟨by rw [v,m,x];rfl,F⟩) (λx=>Ok.mk ⟨by rw [v,m,x];rfl,F⟩)⟩
theorem WL {a c kind:Int} (e:(d.Ed a c).isSome):∃b,d.types[a.toNat]? =some b/\d.at a=b/\0<=a/\a<d.types.length:=by
 obtain⟨k,f⟩:=Option.isSome_iff_exists.1 e;obtain⟨g,h,b,i,j,_⟩:=aR.rJ f;exact⟨b,i,j,g,h⟩
theorem It (s:bh w D d ta tn pa pn) (P:∀a,D a->a<w.heap.size):
  Calls ZQ 69 #[.agg #[.slice ta tn tc,.slice pa pn pc],.agg (oy e0).toArray] w (Ok λE w'=>E= QH (mK d e0)/\ai w w'):=by
 refine BQ (PA.mk λZ F s1 t=>PA.mk λw2 i s2 n=>⟨_,_,_,_,_,_,ae (i.get t id) rfl,ae (i.get t id) rfl,_,ae n rfl,_,ae n rfl,PC.ok (px (s.af (F.then i)) λa e=>by have:=P a e;omega) ?_⟩);rintro E w3 ⟨j,o⟩;have u:=(F.then i).then j;have hz:=j.size
 cases k:d.Ed e0.bd e0.field with
 |none=>
  rw [k]at o;refine cu (Ku X_ none 0 0) ⟨_,o,PA.mk λQ f R v=>aD (fD _ _ _ _) v rfl λp g S T=>al.tt rfl (Ok.mk ⟨?_,(u.then f).new g λa e=>.inr oM⟩)⟩;unfold mK;rw [k];rfl
 |some H=>
  rw [k]at o;obtain⟨I,J,K,a0,rfl,ho,hF⟩:=o;have L:(d.Ed e0.bd e0.field).isNone=false:=by rw [k];rfl
  refine cu (Ku H I J K) ⟨_,rfl,PA.mk λQ f R v=>aD (fD H I J K) v rfl λp g S T=>al.ff rfl ⟨λa w'=>a=(e0.group==3&& !Tz (d.at e0.bd) e0.GO 2||e0.group !=3&&e0.GO !=0)/\ai p w',?_,?_⟩⟩
  ·have U:ai w p:=(u.then f).new g λa e=>.inr oM
   intro x V;have b:ai p x:=V.keep;have W:=b.get (g.get (f.get (j.get (i.get t id) id) id) oM) id;have c:=b.get (g.get (f.get (j.get n id) id) oM) id;refine⟨_,ae c rfl,al.dX (λh=>⟨_,_,_,ae W rfl,_,ae c rfl,?_⟩) (λh=>⟨_,ae c rfl,al.dw (λ_=>⟨_,ae c rfl,?_,b⟩) (λl=>absurd l h)⟩)⟩
   ·obtain⟨a1,X,M,N,h1⟩:=WL (kind:=0) (by rw [k];rfl:(d.Ed e0.bd e0.field).isSome)
    have hl:=s.bd.len;obtain⟨a,y,T',es,rfl,_,_,m,l,a2,n1,c1,rfl,Y⟩:=((s.af (U.then b)).bd).at (i:=e0.bd) N oM;rw [X]at m;cases m
    have O:=l 0 dC;simp only [lv,Nat.mul_one,Nat.add_zero]at O;refine⟨a,y,rfl,N,oM,_,_,_,O,_,ae c rfl,PC.ok (GB Y) ?_⟩;rintro _ w7 ⟨rfl,z⟩;refine⟨_,rfl,al.not (al.mk (λA=>⟨_,ae (z.get c id) rfl,al.dw (λl=>absurd h l) (λ_=>⟨?_,b.then z⟩)⟩) (λA=>⟨?_,b.then z⟩))⟩
    ·rw [M,A,h];rfl
    ·rw [M,A,h];rfl
   ·rw [show(e0.group==3)=false by simpa using h,show(e0.group !=3)=true by simpa using h];rfl
  ·rintro a a3 x ⟨rfl,b⟩
   have q:ai w x:=((u.then f).new g λa e=>.inr oM).then b;have c:=b.get (g.get (f.get (j.get n id) id) oM) id;refine al.mk (λe=>Ok.mk ⟨by unfold mK;rw [L,if_neg sM,if_pos e],q⟩) (λe=>⟨_,ae c rfl,PC.ok cK ?_⟩);have B:mK d e0=if !within e0.group 1 3|| !within e0.make 1 5 then 2 else 0:=by unfold mK;rw [L,if_neg sM,e];rfl
   rintro _ _ ⟨rfl,rfl⟩;refine⟨_,rfl,al.not (al.mk (λr=>⟨_,ae c rfl,PC.ok cK ?_⟩) (λr=>Ok.mk ⟨by rw [B,r];rfl,q⟩))⟩;rintro _ _ ⟨rfl,rfl⟩;exact⟨_,rfl,al.not (al.mk (λC=>Ok.mk ⟨by rw [B,r,C];rfl,q⟩) (λC=>Ok.mk ⟨by rw [B,r,C];rfl,q⟩))⟩
end
end Go.Proofs.YtfchlbaidamodaaGreatDoor

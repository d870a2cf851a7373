import Derived.Test.YtfchlbaidamodaaGreatDoorKc22
set_option linter.all false
set_option maxHeartbeats 1000000
set_option maxRecDepth 20000
namespace Go.ax
open Go
variable{t:Ending->World->Prop}{E a c i n:Nat}{f:Nat->Prop}{R Y:Operand}{d p:Option Addr}{j:Type}{g q:TypeId}{o u:Value->World->Prop}{b:World}{y:World->Prop}
def By{m:Program}{k bytes:Nat}{i:j->List Value}{n:j->Prop}{hl hone}(s:jP m g q k bytes)(I:0<bytes){l:List j}{D:Nat->Prop}(h:Row (flat k i n hl hone) bytes b D d a l)(v:∀e,D e->e<b.heap.size)(w:∀x y,qD (flat k i n hl hone) q b l x y->t (.returned x) y):
  aH m (do eqGuard .eql g R Y (.slice d a c) (.slice none 0 0);binOp .eql g (.slice d a c) (.slice none 0 0)) b (λJ p=>∃(z:Bool),J= .bool z/\al z (t (.returned (.slice none 0 0)) p) (PA p (.cells #[] q) λK=>
   aH m (Builtin.append_ #[g,g] g #[.slice (ZZ p.heap.size) 0 0,.slice d a c]) K (λL M=>∃(A:Option Addr) (B:Nat) (C:Nat),L= .slice A B C/\t (.returned (.slice A B C)) M) o)) u:=by
 have E:=h.len;have f:=h.d_;refine kZ s.under ⟨_,rfl,al.mk (λr=>?_) (λr=>PA.mk λN F a0 O=>?_)⟩
 ·have:l=[]:=by
   cases d with
   |none=>
    cases l with
    |nil=>rfl
    |cons R a1=>obtain⟨e,P,es,Q,_⟩:=h.el 0 R rfl;cases Q
   |some S=>cases r
  subst this;exact w _ _ ⟨none,0,0,λ_=>False,rfl,aV.nil b,aj.refl _,λ_ h=>h.elim⟩
 ·cases d with
  |none=>cases r
  |some S=>
   have T:aV (flat k i n hl hone) q (·=b.heap.size) N (ZZ b.heap.size) 0 0 []:=
    ⟨⟨[],λ_=>False,Own.xF (cur:= #[]) O sM (Qj _),rfl,λ_ h=>h.elim⟩,λe f=>by simpa[aI]using f.symm,λe f=>oM⟩
   have U:a<=maxLen:=by
    unfold aQ at f;unfold maxLen;have:a*1<=a*bytes:=Nat.mul_le_mul_left _ I;omega
   refine lH T s (D:=D) (h.af F) (λe f=>⟨by have:=v e f;omega,by have:=v e f;simp only[aI];intro q;cases q;omega⟩) (by rw[List.length_nil,Xz,<-E];exact f) (by rw[List.length_nil,Xz,<-E];exact U) λH V w2 F' W X _ Z=>?_;refine⟨_,_,_,rfl,w _ _ ⟨H,_,V,λe=>aI H=some e,rfl,by have h:=W.alone;rw[List.nil_append]at h;exact h,F.new X λe f=>.inr ?_,λe f=>?_⟩⟩
   ·simp only[aI,Q1]at f;omega
   ·rcases Z e f with h|h<;>omega
structure Bx (α:Type) where
 x:α
 a:Option Addr
 n:Nat
 c:Nat
structure fv (α β:Type) where
 k:Nat
 ci:kM β
 ib:Nat
 inner:α->List β
 hd:α->Option Addr->Nat->Nat->List Value
 ok:α->Prop
 hl:∀x a n c,(hd x a n c).length=k
 h1:∀x a n c,∀u∈hd x a n c,u.oneCell'=true
 o:Nat
 ho:o<k
 fz:∀x a n c a' n' c',(hd x a n c).set o (.slice a' n' c')=hd x a' n' c'
section
variable {α β:Type} (N:fv α β)
def fv.k_:kM (Bx α):=flat N.k (λa=>N.hd a.x a.a a.n a.c) (λ_=>True) (λa=>N.hl ..) (λa=>N.h1 a.x a.a a.n a.c)
def fv.Pe:kM α where
 k:=N.k
 rep:=λj D e cs=>∃a b c,cs=N.hd e a b c/\Row N.ci N.ib j D a b (N.inner e)/\N.ok e
 keep:=λ⟨a,b,c,d,f,g⟩ k h=>⟨a,b,c,d,f.keep k h,g⟩
 mono:=λ⟨a,b,c,d,f,g⟩ h=>⟨a,b,c,d,f.mono h,g⟩
 len:=λ⟨a,b,c,d,_,_⟩=>by rw[d];exact N.hl ..
 one:=λ⟨a,b,c,d,_,_⟩ l i=>by rw[d]at i;exact N.h1 _ _ _ _ l i
variable {N} {w w':World} {D:Nat->Prop}
def fv.In(N:fv α β)(w:World)(D:Nat->Prop)(a:Bx α):Prop:=Row N.ci N.ib w D a.a a.n (N.inner a.x)/\N.ok a.x
def fv.In.keep{S:Nat->Prop}{a:Bx α}(b:N.In w D a)(c:aj S w w')(d:∀a,D a->¬S a):N.In w' D a:=⟨b.1.keep c d,b.2⟩
def fv.In.mono{a:Bx α}(b:N.In w D a)(c:∀a,D a->f a):N.In w f a:=⟨b.1.mono c,b.2⟩
def fv.bl:∀{b:List α} {cs:List Value},bT N.Pe w D b cs->∃a:List (Bx α),a.map (·.x)=b/\bT N.k_ w D a cs/\∀c∈a,N.In w D c
 |[],_,e=>⟨[],rfl,e,sM⟩
 |x::b,_,⟨f,g,h,⟨i,j,k,l,m,n⟩,o⟩=>by
  obtain⟨a,p,q,r⟩:=fv.bl o;refine⟨⟨x,i,j,k⟩::a,by simp[p],⟨f,g,h,⟨l,trivial⟩,q⟩,λc d=>?_⟩;rcases Q2.1 d with rfl|d
  ·exact⟨m,n⟩
  ·exact r c d
def fv.SM{d:Nat->Prop}:∀{a:List (Bx α)} {cs:List Value},bT N.k_ w d a cs->(∀b∈a,N.In w D b)->bT N.Pe w D (a.map (·.x)) cs
 |[],_,e,_=>e
 |b::a,_,⟨f,g,h,⟨i,_⟩,j⟩,c=>⟨f,g,h,⟨b.a,b.n,b.c,i,c b (QV ..)⟩,fv.SM j λk l=>c k (QJ _ l)⟩
def fv.boxes{bytes:Nat}{e:List α}(f:Row N.Pe bytes w D d a e):∃b:List (Bx α),b.map (·.x)=e/\Row N.k_ bytes w D d a b/\∀j∈b,N.In w D j:=by
 obtain⟨cs,o,p⟩:=f.bl;obtain⟨b,k,q,r⟩:=fv.bl o;have g:b.length=e.length:=by rw[<-k];simp
 have s:0<N.Pe.k:=Nat.lt_of_le_of_lt (Qj _) N.ho;refine⟨b,k,⟨by rw[g];exact f.len,f.d_,λC j h=>?_⟩,r⟩;have t:e≠[]:=by rintro rfl;rw[List.length_nil]at g;rw[QW g]at h;simp at h
 obtain⟨u,i,v,x,y,z⟩:=p t s;obtain⟨l,A,m⟩:=q.at h;refine⟨u,i,l,v,x,y,λn B=>?_,m⟩;have E:=N.k_.len m;have c:=A n B;rw[Qq (show n<l.length by omega)]at c⊢;rw[Nat.add_assoc];exact z _ _ c
def fv.unbox{h:List (Bx α)}(k:aV N.k_ g f w d a c h)(e:∀b∈h,N.In w D b)(i:∀b,D b->b<w.heap.size/\aI d≠some b):aV N.Pe g (λb=>aI d=some b\/D b) w d a c (h.map (·.x)):=by
 obtain⟨cs,m,j,l,n⟩:=k.body;refine⟨⟨cs,D,j,fv.SM l e,λb e=>⟨.inr e,(i b e).2⟩⟩,λb e=>.inl e,λb e=>?_⟩;rcases e with e|e
 ·exact j.lt e
 ·exact(i b e).1
def fv.set{h:List (Bx α)}(m:aV N.k_ g f w d a c h){b:Bx α}(o:h[i]? =some b){l e:Nat}(q:d=some ⟨l,e,none⟩)(k:∀j,aV N.k_ g f j d a c (h.set i ⟨b.x,p,n,E⟩)->aj (λb=>aI d=some b) w j->j.heap.size=w.heap.size->y j):PS w ⟨l,e+i*N.k+N.o,none⟩ (.slice p n E) y:=
 aV.set (x':=⟨b.x,p,n,E⟩) m o N.ho (N.fz ..).symm q k
end
end Go.ax
namespace Go.Proofs.YtfchlbaidamodaaGreatDoor
open Go.ax
def kO.Ok(a:kO):Prop:=aN a.ck/\aN a.qF/\aN a.lU/\aN a.least
def oz(a:kO):List Value:=[QH a.ck,QH a.qF,QH a.lU,QH a.least]
def gC:kM kO:=flat 4 oz kO.Ok (λ_=>rfl) (λb c a=>by simp[oz]at a;rcases a with rfl|rfl|rfl|rfl<;>rfl)
def eg(a:bD)(b:Option Addr)(c d:Nat):List Value:=[QH a.kind,QH a.eV,.bool a.floor,.slice b c d]
def pT:kM bD where
 k:=4
 rep:=λj D e cs=>∃a b c,cs=eg e a b c/\Row gC 32 j D a b e.bH/\aN e.kind/\aN e.eV
 keep:=λ⟨a,b,c,d,f,g⟩ k h=>⟨a,b,c,d,f.keep k h,g⟩
 mono:=λ⟨a,b,c,d,f,g⟩ h=>⟨a,b,c,d,f.mono h,g⟩
 len:=λ⟨a,b,c,d,_,_⟩=>by rw[d];rfl
 one:=λ⟨a,b,c,d,_,_⟩ l i=>by
  rw[d]at i;simp[eg]at i;rcases i with rfl|rfl|rfl|rfl<;>rfl
def lv:kM (List bD) where
 k:=1
 rep:=λh D i cs=>∃a b c,cs=[.slice a b c]/\Row pT 48 h D a b i
 keep:=λ⟨a,b,c,d,e⟩ j f=>⟨a,b,c,d,e.keep j f⟩
 mono:=λ⟨a,b,c,d,e⟩ f=>⟨a,b,c,d,e.mono f⟩
 len:=λ⟨a,b,c,d,_⟩=>by rw[d];rfl
 one:=λ⟨a,b,c,d,_⟩ k g=>by rw[d]at g;simp at g;subst g;rfl
def jO.Ok(a:jO):Prop:=aN a.bd/\aN a.field/\aN a.group/\aN a.GO/\aN a.make
def oy(a:jO):List Value:=[QH a.bd,QH a.field,QH a.group,QH a.GO,QH a.make]
def wH:kM jO:=flat 5 oy jO.Ok (λ_=>rfl) (λb c a=>by simp[oy]at a;rcases a with rfl|rfl|rfl|rfl|rfl<;>rfl)
def Ms:jP ZQ 121 125 4 32:=⟨kR,kR,dC⟩
def RX:jP ZQ 126 123 4 48:=⟨kR,kR,dC⟩
def NO:jP ZQ 22 130 1 24:=⟨kR,kR,dC⟩
def Mh:jP ZQ 23 128 5 40:=⟨kR,kR,dC⟩
def Lp(a:kO):jg ZQ 125 (oz a)=true:=kR
def fD(a:bD)(b:Option Addr)(c d:Nat):jg ZQ 123 (eg a b c d)=true:=kR
def Ku(a:bD)(b:Option Addr)(c d:Nat):TF (fe ZQ 123) (.agg (eg a b c d).toArray)=true:=kR
def qH(a:jO):jg ZQ 128 (oy a)=true:=kR
def X_:bD:=⟨0,0,false,[]⟩
structure bh (w:World) (D:Nat->Prop) (d:aR) (ta:Option Addr) (tn:Nat) (pa:Option Addr) (pn:Nat):Prop where
 bd:Row lv 24 w D ta tn d.types
 Bk:Row wH 40 w D pa pn d.projs
variable{r:Array Value}{z:FuncId}{C e m:Int}{g3:List kO}{a c:Nat}{b9:bD}
section
variable {w w':World} {D D' S:Nat->Prop} {d:aR} {ta pa:Option Addr} {tn tc pn pc:Nat}
def bh.keep(a:bh w D d ta tn pa pn)(b:aj S w w')(c:∀e,D e->¬S e):bh w' D d ta tn pa pn:=⟨a.bd.keep b c,a.Bk.keep b c⟩
def bh.af(a:bh w D d ta tn pa pn)(b:ai w w'):bh w' D d ta tn pa pn:=a.keep b λ_ _ a=>a
def bh.mono(a:bh w D d ta tn pa pn)(b:∀c,D c->D' c):bh w D' d ta tn pa pn:=⟨a.bd.mono b,a.Bk.mono b⟩
structure eM (w:World):Prop where
 kinds:∀i,i<6->w.cell? ⟨1,i,none⟩=some (QH (rO i))
 Ya:∀i,i<5->w.cell? ⟨0,i,none⟩=some (QH (([0,2,14,6,6]:List Int).getD i 0))
 lt:1<w.heap.size/\0<w.heap.size
def eM.af(a:eM w)(c:ai w w'):eM w':=
 ⟨λb d=>(c.cell (a:=⟨1,b,none⟩) a.lt.1 id).trans (a.kinds b d),λb d=>(c.cell (a:=⟨0,b,none⟩) a.lt.2 id).trans (a.Ya b d),
  Qk a.lt.1 c.size,Qk a.lt.2 c.size⟩
def bO:within e m C=true↔m<=e/\e<=C:=by simp[within]
def cK:Calls ZQ 125 #[QH e,QH m,QH C] w (Ok λa w'=>a= .bool (within e m C)/\w=w'):=by
 refine Ap (al.dec (λb=>Ok.mk ⟨?_,rfl⟩) (λb=>Ok.mk ⟨?_,rfl⟩))
 ·simp[within];omega
 ·simp[within];omega
def uh{e:Option Addr}(h:Row gC 32 w D e a g3)(g:∀b,D b->b<w.heap.size):
  Calls ZQ 130 #[.slice e a c] w (Ok (qD gC 125 w g3)):=by
 have x:=h.len;have d:=h.d_;refine iN (kZ Ms.under ⟨_,rfl,al.mk (λf=>?_) (λf=>PA.mk λk i y l=>?_)⟩)
 ·have:g3=[]:=by
   cases e with
   |none=>
    cases g3 with
    |nil=>rfl
    |cons m z=>obtain⟨b,n,A,o,_⟩:=h.el 0 m rfl;cases o
   |some p=>cases f
  subst this;exact Ok.mk ⟨none,0,0,λ_=>False,rfl,aV.nil w,aj.refl _,λ_ h=>h.elim⟩
 ·cases e with
  |none=>cases f
  |some p=>
   have q:aV gC 125 (·=w.heap.size) k (ZZ w.heap.size) 0 0 []:=
    ⟨⟨[],λ_=>False,Own.xF (cur:= #[]) l rfl (Qj _),rfl,λ_ h=>h.elim⟩,λb d=>by simpa[aI]using d.symm,λb d=>oM⟩
   refine lH q Ms (D:=D) (h.af i) (λb d=>⟨by have:=g b d;omega,by have:=g b d;simp only[aI];intro r;cases r;omega⟩) (by simp;omega) (by unfold aQ at d;unfold maxLen;simp;omega) λj s B C t u _ v=>?_;refine⟨_,_,_,rfl,Ok.mk ⟨j,_,s,λb=>aI j=some b,rfl,by have h:=t.alone;rw[List.nil_append]at h;exact h,i.new u λb d=>.inr ?_,λb d=>?_⟩⟩
   ·simp only[aI,Q1]at d;omega
   ·rcases v b d with h|h<;>omega
def KK{p:kO->Bool}{o:Option Addr}(j:Row gC 32 w D o a g3)(u:enters ZQ z=true)(v:∀e f,ai w f->Calls ZQ z (#[]++ #[.agg (oz e).toArray]++r) f (Ok λg q=>g= .bool (p e)/\ai f q)):
  Calls ZQ 129 #[.slice o a c,.func (.func z) #[] r] w (Ok λg w'=>g= .bool (g3.any p)/\ai w w'):=by
 have F:=j.len;have x:=j.d_;unfold aQ at x;refine fO (PC.ok (φ:=λg w'=>(∃d:Int,g= QH d/\(0<=d↔g3.any p=true))/\ai w w') (gF ⟨λe d w'=>∃b:Nat,d=b/\b<=a/\e=a-b/\(g3.take b).any p=false/\ai w w',
  ⟨_,0,rfl,Qj _,rfl,sM,aj.refl _⟩,?_⟩) ?_)
 ·rintro e d _ f ⟨b,rfl,H,rfl,k,h⟩
  refine al.dec (λy=>?_) (λy=>?_)
  ·obtain⟨A,l,m,I,rfl,_,_,s,B,rfl,_⟩:=(j.af h).sS (i:=b) oM
   refine⟨A,l,rfl,oM,oM,br (Lp m) rfl B ⟨z,_,_,rfl,u,PC.ok (v m f h) ?_⟩⟩;rintro _ q ⟨rfl,t⟩;refine⟨_,rfl,al.mk (λn=>?_) (λn=>?_)⟩
   ·exact Ok.mk ⟨⟨_,rfl,λ_=>List.any_eq_true.2 ⟨m,QZ s,n⟩,λ_=>oM⟩,h.then t⟩
   ·refine⟨_,oM,b+1,an oM,oM,rfl,?_,h.then t⟩
    rw[Qw,s,List.any_append,k];simp[n]
  ·rw[Qz oM]at k
   exact Ok.mk ⟨⟨_,rfl,λi=>oM,λi=>by rw[k]at i;cases i⟩,h⟩
 ·rintro _ w' ⟨⟨d,rfl,C⟩,E⟩
  exact⟨_,rfl,Ok.mk ⟨by cases i:g3.any p<;>simp[i]at C⊢<;>omega,E⟩⟩
def aR.rJ(a:d.Ed e m=some b9):0<=e/\e<d.types.length/\∃b,d.types[e.toNat]? =some b/\d.at e=b/\0<=m/\m<b.length/\b[m.toNat]? =some b9:=by
 unfold aR.Ed at a;split at a
 ·rename_i c
  simp only[QK,bO]at c;have f:e.toNat<d.types.length:=oM
  have g:d.at e=d.types[e.toNat]:=by unfold aR.at;rw[if_pos (bO.2 c.1)];simp[f]
  rw[g]at c a;exact⟨oM,oM,_,by simp[f],g,oM,oM,a⟩
 ·cases a
def px(p:bh w D d ta tn pa pn)(z:∀a,D a->a<w.heap.size):
  Calls ZQ 71 #[.agg #[.slice ta tn tc,.slice pa pn pc],QH e,QH m] w (Ok λA w'=>ai w w'/\match d.Ed e m with
   |none=>A= .tuple #[.agg (eg X_ none 0 0).toArray,.bool false]
   |some f=>∃B C E F,A= .tuple #[.agg (eg f B C E).toArray,.bool true]/\aV gC 125 F w' B C E f.bH/\(∀a,F a->w.heap.size<=a)):=by
 have q:=p.bd.len;have b:=p.bd.d_;unfold aQ at b;have c:within e 0 ((tn:Int)-1)=false->d.Ed e m=none:=λH=>by unfold aR.Ed;rw[q]at H;rw[if_neg (by simp[H])]
 refine BR (PA.mk λw1 V s1 r=>PA.mk λw2 l s2 s=>⟨_,_,_,ae (l.get r id) rfl,PC.ok cK ?_⟩);rintro _ _ ⟨rfl,rfl⟩;rw[wrap_i64 (by unfold aN;omega)];have g:=V.then l;refine⟨_,rfl,al.not (al.mk (λi=>?_) (λi=>?_))⟩
 rotate_left
 ·refine aD (cs:=eg X_ none 0 0) (fD _ _ _ _) s rfl λI h J j=>aw (fD _ _ _ _) j (Ok.mk ⟨g.new h λa b=>.inr oM,?_⟩)
  rw[c i]
 have W:=bO.1 i;refine⟨_,_,_,ae (l.get r id) rfl,?_⟩;obtain⟨a,k,X,es,rfl,a8,a9,Y,Z,b0,n1,c1,rfl,t⟩:=((p.af g).bd).at (i:=e) oM oM;have K:=t.len;have a0:=t.d_;unfold aQ at a0;have L:d.at e=X:=by
  unfold aR.at;rw[if_pos (by rw[<-q];exact i),QQ,Y];rfl
 have u:=Z 0 dC;simp only[lv,Nat.mul_one,Nat.add_zero]at u;refine⟨a,k,rfl,oM,oM,_,_,_,u,PC.ok cK ?_⟩;rintro _ _ ⟨rfl,rfl⟩;rw[wrap_i64 (by unfold aN;omega)];refine⟨_,rfl,al.not (al.mk (λn=>?_) (λn=>?_))⟩
 rotate_left
 ·refine aD (cs:=eg X_ none 0 0) (fD _ _ _ _) s rfl λI h J j=>aw (fD _ _ _ _) j (Ok.mk ⟨g.new h λa b=>.inr oM,?_⟩)
  rw[show d.Ed e m=none by unfold aR.Ed;rw[L,<-K,if_neg (by simp[n])]]
 have a1:=bO.1 n;refine⟨_,_,_,ae (l.get r id) rfl,a,k,rfl,oM,oM,_,_,_,u,?_⟩;obtain⟨b2,a2,f,b1,rfl,b3,b4,a3,a4,M,N,O,rfl,hM,b5,b6⟩:=t.at (i:=m) oM oM;have a5:d.Ed e m=some f:=by unfold aR.Ed;rw[L,<-K,<-q,if_pos (by simp[i,n])];exact a3
 refine⟨b2,a2,rfl,oM,oM,br (fD f M N O) rfl a4 (PA.mk λI h J j=>aD (fD f M N O) j rfl λw4 v s4 P=>⟨_,_,_,ae P rfl,PC.ok (uh ((hM.af h).keep v λa b Q=>by have:=z a b;have:=g.size;omega) λa b=>by have:=z a b;have:=g.size;omega) ?_⟩)⟩;rintro _ w5 ⟨R,S,T,F5,rfl,a6,o,x⟩;have z5:=o.size;refine⟨_,_,_,rfl,PS.mk (o.get P id) (by simp[eg]) λw6 y s6 g6=>aw (cs:=eg f R S T) (fD _ _ _ _) g6 (aD (fD _ _ _ _) (y.get (o.get (v.get (h.get s id) oM) id) oM) rfl λw7 U s7 g7=>aw (fD _ _ _ _) g7 (Ok.mk ⟨?_,?_⟩))⟩
 ·have a7:ai w w6:=((((g.then h).new v λa b=>.inr oM).then o)).new y λa b=>.inr oM
  exact a7.new U λa b=>.inr oM
 ·rw[a5]
  exact⟨R,S,T,F5,rfl,(a6.keep y λa b Q=>by have:=x a b;omega).keep U λa b Q=>by have:=x a b;omega,λa b=>by have:=x a b;have:=g.size;omega⟩
end
variable{V:Int}{i n:Nat}{c0 d p:Option Addr}{L l:ah}
section
variable {w w':World} {D E:Nat->Prop}
def wx(j:Row aP 8 w E p i L.aK):Calls ZQ 305 #[kK l d a c,kK L p i n] w (Ok λk w'=>k= .bool (Ck l L)/\ai w w'):=by
 refine BZ (PA.mk λs m t b=>PA.mk λo g u e=>λq r=>⟨no,?_⟩);have f:ai o q:=r.keep;have b:=f.get (g.get b id) id;have e:=f.get e id;have h:=(m.then g).then f;refine⟨_,_,_,ae e rfl,_,ae b rfl,id,_,ae b rfl,PC.ok (oD (j.uv.af h)) ?_⟩;rintro _ _ ⟨rfl,rfl⟩;exact⟨_,rfl,aj.refl _,Ok.mk ⟨rfl,h⟩⟩
def Jq(m:Row aP 8 w D d a l.aK)(o:Row aP 8 w E p i L.aK):Calls ZQ 266 #[kK l d a c,kK L p i n] w (Ok λq w'=>q= .bool (wy l L)/\ai w w'):=by
 refine EB (PA.mk λu r v b=>PA.mk λx k y g=>?_);have b:=k.get b id;have e:=r.then k;refine⟨_,_,ae b rfl,ae b rfl,_,_,ae g rfl,ae g rfl,NN.neq ⟨_,rfl,?_⟩⟩;have s:(!(l.origin==L.origin&&l.seq==L.seq))=(aO l !=aO L):=rfl;rw[s];refine al.mk (λh=>aw (bg l d a c) b (aw (bg L p i n) g (PC.ok (wx (o.af e)) ?_))) (λh=>Ok.mk ⟨by unfold wy;rw[h];rfl,e⟩);rintro _ z ⟨rfl,f⟩;refine⟨_,rfl,al.not (al.mk (λj=>Ok.mk ⟨by unfold wy;rw[h,j];rfl,e.then f⟩) (λj=>aw (bg L p i n) (f.get g id) (aw (bg l d a c) (f.get b id) (PC.ok (wx (m.af (e.then f))) ?_))))⟩;rintro _ A ⟨rfl,t⟩;exact⟨_,rfl,Ok.mk ⟨by unfold wy;rw[h,j];rfl,(e.then f).then t⟩⟩
def mq:Le ZQ 385 3:=⟨kR,kR,⟨"op", "arg",kR,dC,dC⟩,kR,kR,kR⟩
abbrev Zi(a:bD)(b:Option Addr)(c d:Nat):Value:=.agg (eg a b c d).toArray
def yv:Calls ZQ 265 #[Zi b9 d a c,QH e,QH m,QH C,QH V] w (Ok λy w'=>y= .bool (fl b9 (e,m) (C,V))/\ai w w'):=by
 refine uR (PA.mk λP F T H=>PA.mk λQ z U I=>PA.mk λW q X J=>PS.mk (q.get I id) sM λY r Z K=>PS.mk K sM λw5 s s5 L=>PS.mk (s.get (r.get J oM) oM) sM λw6 t s6 M=>PS.mk M sM λu v s7 N=>?_);have R:ai w u:=(((((F.then z).then q).new r λj A=>.inr oM).new s λj A=>.inr oM).new t λj A=>.inr oM).new v λj A=>.inr oM;have S:=v.get (t.get (s.get (r.get (q.get (z.get H id) id) oM) oM) oM) oM;have f:u.heap[P.heap.size]? =some (.cells #[QH e,QH m] 385 (0,0)):=v.get (t.get L oM) oM;have g:u.heap[Q.heap.size]? =some (.cells #[QH C,QH V] 385 (0,0)):=N
 clear H I J K L M N F z q r s t v
 have b:∀{j:Bool},fl b9 (e,m) (C,V)=j->Ok (λy w'=>y= .bool (fl b9 (e,m) (C,V))/\ai w w') (.returned (.bool j)) u:=λ{j} k=>Ok.mk ⟨by rw[k],R⟩;have O:(((e,m):Int×Int) !=(C,V))= !(e==C&&m==V):=rfl;refine⟨_,ae S rfl,al.dX (λh=>?_) (λh=>al.dX (λo=>?_) (λo=>al.dX (λB=>?_) (λB=>b ?_)))⟩
 ·refine⟨_,ae f rfl,al.dX (λi=>⟨_,ae g rfl,al.dX (λl=>⟨_,_,ae f rfl,ae f rfl,_,_,ae g rfl,ae g rfl,mq.neq ⟨_,rfl,b ?_⟩⟩) (λl=>b ?_)⟩) (λi=>b ?_)⟩
  ·unfold fl;rw[if_pos h,O,show e=2 from i,show C=2 from l];rfl
  ·unfold fl;rw[if_pos h,show e=2 from i,show(C==2)=false by simpa using l];rfl
  ·unfold fl;rw[if_pos h,show(e==2)=false by simpa using i];rfl
 ·refine⟨_,ae f rfl,al.dX (λi=>⟨_,ae g rfl,al.dX (λl=>⟨_,_,ae f rfl,ae f rfl,_,_,ae g rfl,ae g rfl,mq.neq ⟨_,rfl,b ?_⟩⟩) (λl=>b ?_)⟩) (λi=>b ?_)⟩
  ·unfold fl;rw[if_neg h,if_pos o,O,show e=5 from i,show C=5 from l];rfl
  ·unfold fl;rw[if_neg h,if_pos o,show e=5 from i,show(C==5)=false by simpa using l];rfl
  ·unfold fl;rw[if_neg h,if_pos o,show(e==5)=false by simpa using i];rfl
 ·have p:fl b9 (e,m) (C,V)=((e==3&&m==V)&&(C==4&&V==m)||(e==4&&m==V)&&(C==3&&V==m)):=by
   unfold fl;rw[if_neg h,if_neg o,if_pos B];rfl
  refine⟨_,_,ae f rfl,ae f rfl,mq.eql ⟨_,rfl,al.mk (λx=>⟨_,_,ae g rfl,ae g rfl,mq.eql ⟨_,rfl,al.mk (λE=>b ?_) (λE=>?_)⟩⟩) (λx=>?_)⟩⟩
  ·rw[p,x,E];rfl
  ·have k:((e==3&&m==V)&&(C==4&&V==m))=false:=by rw[x,E];rfl
   exact⟨_,_,ae f rfl,ae f rfl,mq.eql ⟨_,rfl,al.mk (λn=>⟨_,_,ae g rfl,ae g rfl,mq.eql ⟨_,rfl,b (by rw[p,k,n];rfl)⟩⟩) (λn=>b (by rw[p,k,n];rfl))⟩⟩
  ·have k:((e==3&&m==V)&&(C==4&&V==m))=false:=by rw[x];rfl
   exact⟨_,_,ae f rfl,ae f rfl,mq.eql ⟨_,rfl,al.mk (λn=>⟨_,_,ae g rfl,ae g rfl,mq.eql ⟨_,rfl,b (by rw[p,k,n];rfl)⟩⟩) (λn=>b (by rw[p,k,n];rfl))⟩⟩
 ·unfold fl;rw[if_neg h,if_neg o,if_neg B]
def Cm{f:bD}{j s k t:Nat}(x:Row aP 8 w D p j l.aK)(y:Row aP 8 w E c0 k L.aK):
  Calls ZQ 203 #[Zi f d a c,kK l p j s,kK L c0 k t] w (Ok λz w'=>z= .bool (mU f l L)/\ai w w'):=by
 refine yi (PA.mk λI A J B=>PA.mk λK u M C=>PA.mk λF m N h=>?_);have n:=m.get (u.get B id) id;have i:=m.get C id;have g:=(A.then u).then m;refine⟨λv w'=>v=(f.eV==2||f.eV==3&&decide (L.arg<l.arg))/\F=w',?_,?_⟩
 ·refine⟨_,ae n rfl,al.dX (λb=>⟨by rw[show f.eV=2 from b];rfl,rfl⟩) (λb=>⟨_,ae n rfl,al.dX (λo=>⟨_,ae i rfl,_,ae h rfl,?_,rfl⟩) (λo=>⟨?_,rfl⟩)⟩)⟩
  ·rw[show f.eV=3 from o];rfl
  ·rw[show(f.eV==2)=false by simpa using b,show(f.eV==3)=false by simpa using o];rfl
 ·rintro v _ _ ⟨q,rfl⟩
  refine al.mk (λb=>?_) (λb=>Ok.mk ⟨by unfold mU;rw[<-q,b];rfl,g⟩);refine aw (fD f d a c) n ⟨_,ae i rfl,_,ae i rfl,_,ae h rfl,_,ae h rfl,PC.ok yv ?_⟩;rintro _ O ⟨rfl,e⟩;refine⟨_,rfl,al.mk (λr=>aw (bg l p j s) (e.get i id) (aw (bg L c0 k t) (e.get h id) (PC.ok (Jq (x.af (g.then e)) (y.af (g.then e))) ?_))) (λr=>Ok.mk ⟨by unfold mU;rw[<-q,b,r];rfl,g.then e⟩)⟩;rintro _ P ⟨rfl,H⟩;exact⟨_,rfl,Ok.mk ⟨by unfold mU;rw[<-q,b,r];rfl,(g.then e).then H⟩⟩
end
def lx:fv du Int where
 k:=2
 ci:=aP
 ib:=8
 inner:=(·.set)
 hd:=λa b c d=>[QH a.n,.slice b c d]
 ok:=λa=>aN a.n/\xG a.set/\a.set.length<=64
 hl:=λ_ _ _ _=>rfl
 h1:=λa b c d f e=>by simp at e;rcases e with rfl|rfl<;>rfl
 o:=1
 ho:=dC
 fz:=λ_ _ _ _ _ _ _=>rfl
abbrev fL:kM du:=lx.Pe
def RA:jP ZQ 40 84 2 32:=⟨kR,kR,dC⟩
abbrev TL(a:Int):Nat:=if a=1 then 211 else if a=3 then 216 else if a=5 then 219 else 214
abbrev Yq(a:Int):Nat:=if a=1 then 212 else if a=2 then 215 else if a=3 then 217 else if a=4 then 218 else 220
def qQ(a:Int):Value:=.agg #[.func (.func (TL a)) #[] #[],.func (.func (Yq a)) #[] #[]]
def Bt:nu ZQ 259 3 257 (.agg #[.nilFunc,.nilFunc]):=⟨kR,kR⟩
def GZ:jh ZQ 3 (Value.int .i64):=Xc kR
variable{b2:List du}
section
variable {w w':World} {D E:Nat->Prop}
def Bu:Calls ZQ 154 #[] w (Ok λd w'=>∃c,d= .map (some c)/\cx w' c (Value.int .i64) [((1:Int),qQ 1),(2,qQ 2),(3,qQ 3),(4,qQ 4),(5,qQ 5)]/\ai w w'):=by
 refine G_ (PA.mk λq e r f=>?_);refine jz (k:=(1:Int)) Bt GZ (cx.new f) λs g h t=>jz (k:=(2:Int)) Bt GZ g λu i j v=>jz (k:=(3:Int)) Bt GZ i λx k l y=>jz (k:=(4:Int)) Bt GZ k λz m n A=>jz (k:=(5:Int)) Bt GZ m λB o p C=>Ok.mk ⟨_,rfl,o,?_⟩;exact((((e.new h λa b=>.inr oM).new j λa b=>.inr oM).new l λa b=>.inr oM).new n λa b=>.inr oM).new p λa b=>.inr oM
def NS(a:1<=e)(b:e<=5):ay [((1:Int),qQ 1),(2,qQ 2),(3,qQ 3),(4,qQ 4),(5,qQ 5)] e=some (qQ e):=by
 have:e=1\/e=2\/e=3\/e=4\/e=5:=oM
 rcases this with rfl|rfl|rfl|rfl|rfl<;>rfl
def Xd(a:bD)(b:Option Addr)(c d:Nat)(e:Option Addr)(f g:Nat)(h arg:Int):List Value:=[QH a.kind,QH a.eV,.bool a.floor,.slice b c d,.slice e f g,QH h,QH arg]
abbrev Bv(a:bD)(b:Option Addr)(c d:Nat)(e:Option Addr)(f g:Nat)(h arg:Int):Value:=.agg (Xd a b c d e f g h arg).toArray
def vI(a:bD)(b:Option Addr)(c d:Nat)(e:Option Addr)(f g:Nat)(h arg:Int):jg ZQ 262 (Xd a b c d e f g h arg)=true:=kR
variable {f:bD} {ma ca:Option Addr} {mn mc cn cc i:Nat} {arg:Int}
def iH(d:ca=some ⟨a,c,none⟩)(h:i<cn):Calls ZQ 213 #[Bv f ma mn mc ca cn cc (i:Int) arg] w (Ok λe w'=>e= .pointer (some ⟨a,c+i*2,none⟩)/\ai w w'):=
 Ad (PA.mk λj g k b=>⟨_,_,_,ae b rfl,_,ae b rfl,a,c,d,oM,oM,Ok.mk ⟨rfl,g⟩⟩)
def RB(g:List bD)(e:List du)(a d arg:Int):Bool:=
 let f:=g.getD a.toNat ⟨0,0,false,[]⟩
 let b:=e.getD a.toNat ⟨0,[]⟩
 if d=1 then(arg==0||NT b.n arg)&& !(f.floor&&decide (pH (b.n+arg)<0))
 else if d=3 then decide (arg∈b.set)||decide (b.set.length<64)
 else if d=5 then(let c:=f.bH.getD arg.toNat ⟨0,0,0,0⟩;b.n==c.ck&&(decide (c.lU<0)||decide (c.least<=(e.getD c.lU.toNat ⟨0,[]⟩).n)))
 else true
def Ha(b:List bD)(c:List du)(a d arg:Int):xL b c a d arg=if RB b c a d arg then 0 else 10:=rfl
def ni{bytes:Nat}(g:Row fL bytes w D ca cn b2)(h:i<cn):∃a b c d e,ca=some ⟨a,b,none⟩/\a<w.heap.size/\D a/\w.cell? ⟨a,b+i*2,none⟩=some (QH (b2.getD i ⟨0,[]⟩).n)/\w.cell? ⟨a,b+i*2+1,none⟩=some (.slice c d e)/\Row aP 8 w D c d (b2.getD i ⟨0,[]⟩).set/\aN (b2.getD i ⟨0,[]⟩).n/\xG (b2.getD i ⟨0,[]⟩).set/\(b2.getD i ⟨0,[]⟩).set.length<=64:=by
 have j:=g.len;obtain⟨a,b,q,l,m,n,k,c,d,e,rfl,o,f⟩:=g.el i b2[i] (by simp[j▸h]);have p:b2.getD i ⟨0,[]⟩=b2[i]:=by simp[QQ,j▸h]
 rw[p];exact⟨a,b,c,d,e,l,m,n,by have:=k 0 dC;simpa[lx,fv.Pe]using this,by have:=k 1 dC;simpa[lx,fv.Pe]using this,o,f.1,f.2.1,f.2.2⟩
def RC:Calls ZQ 278 #[QH e,QH m] w (Ok λa w'=>a= .bool (NT e m)/\w=w'):=Ln (Ok.mk ⟨rfl,rfl⟩)
def I_{bytes:Nat}(m:Row fL bytes w D ca cn b2)(j:i<cn):
  Calls ZQ 211 #[Bv f ma mn mc ca cn cc (i:Int) arg] w (Ok λn w'=>n= .bool ((arg==0||NT (b2.getD i ⟨0,[]⟩).n arg)&& !(f.floor&&decide (pH ((b2.getD i ⟨0,[]⟩).n+arg)<0)))/\ai w w'):=by
 refine Ek (PA.mk λt k u l=>aw (vI ..) l ?_);obtain⟨o,p,v,x,y,q,r,z,s,c,-⟩:=ni (m.af k) j;refine PC.ok (iH q j) ?_;rintro _ A ⟨rfl,g⟩;have b:=g.get l id;have d:=k.then g;refine⟨_,rfl,_,_,rfl,_,(g.cell (a:=⟨o,p+i*2,none⟩) r id).trans s,_,ae b rfl,al.dX (λe=>⟨_,ae b rfl,al.mk (λa=>⟨_,ae b rfl,Ok.mk ⟨?_,d⟩⟩) (λa=>Ok.mk ⟨?_,d⟩)⟩) (λe=>⟨_,ae b rfl,PC.ok RC ?_⟩)⟩
 ·rw[show(arg==0)=true by simpa using e,a];rfl
 ·rw[show(arg==0)=true by simpa using e,a];rfl
 ·rintro _ _ ⟨rfl,rfl⟩
  have h:(arg==0)=false:=by simpa using e
  refine⟨_,rfl,al.mk (λc=>⟨_,ae b rfl,al.mk (λa=>⟨_,ae b rfl,Ok.mk ⟨?_,d⟩⟩) (λa=>Ok.mk ⟨?_,d⟩)⟩) (λc=>Ok.mk ⟨?_,d⟩)⟩
  ·rw[h,c,a];rfl
  ·rw[h,c,a];rfl
  ·rw[h,c];rfl
def Ja{bytes:Nat}(o:Row fL bytes w D ca cn b2)(b:i<cn):
  Calls ZQ 216 #[Bv f ma mn mc ca cn cc (i:Int) arg] w (Ok λp w'=>p= .bool (decide (arg∈(b2.getD i ⟨0,[]⟩).set)||decide ((b2.getD i ⟨0,[]⟩).set.length<64))/\ai w w'):=by
 refine El (PA.mk λq r B s=>λt u=>⟨no,?_⟩);have e:ai q t:=u.keep;have c:=e.get s id;have d:=r.then e;obtain⟨g,h,C,E,F,j,k,H,I,v,l,-,x,-⟩:=ni (o.af d) b;refine aw (vI ..) c ⟨id,_,ae c rfl,PC.ok (iH j b) ?_⟩;rintro _ J ⟨rfl,a⟩;have m:=(a.cell (a:=⟨g,h+i*2+1,none⟩) k id).trans v;refine⟨_,rfl,ai.keep a,_,_,rfl,_,_,_,m,PC.ok (uo (l.af a) x) ?_⟩;rintro _ _ ⟨rfl,rfl⟩;refine⟨_,_,rfl,aj.refl _,al.mk (λy=>Ok.mk ⟨by rw[y];rfl,d.then a⟩) (λz=>aw (vI ..) (a.get c id) (PC.ok (iH j b) ?_))⟩;rintro _ K ⟨rfl,n⟩;have A:=l.len;refine⟨_,rfl,_,_,rfl,_,_,_,(n.cell (a:=⟨g,h+i*2+1,none⟩) (Qk k a.size) id).trans m,Ok.mk ⟨?_,(d.then a).then n⟩⟩;rw[z,A]
 congr 1
 rw[Bool.false_or,decide_eq_decide];omega
def Hb{bytes:Nat}(o:Row fL bytes w D ca cn b2)(p:i<cn)(q:Row gC 32 w E ma mn f.bH)(h0:0<=arg)(h1:arg<(mn:Int))(r:((f.bH.getD arg.toNat ⟨0,0,0,0⟩).lU)<(cn:Int)):
  Calls ZQ 219 #[Bv f ma mn mc ca cn cc (i:Int) arg] w (Ok λF w'=>F= .bool (let a:=f.bH.getD arg.toNat ⟨0,0,0,0⟩;(b2.getD i ⟨0,[]⟩).n==a.ck&&(decide (a.lU<0)||decide (a.least<=(b2.getD a.lU.toNat ⟨0,[]⟩).n)))/\ai w w'):=by
 refine Bw (PA.mk λH s s1 h=>?_);have a0:=q.len;obtain⟨b,rfl⟩:∃b:Nat,arg=b:=⟨arg.toNat,oM⟩
 have t:b<f.bH.length:=oM
 obtain⟨I,J,es,K,a1,-,u,rfl,-⟩:=(q.af s).el b f.bH[b] (by simp[t]);have L:f.bH.getD b ⟨0,0,0,0⟩=f.bH[b]:=by simp[QQ,t]
 simp only[Qx,L]at r⊢;generalize f.bH[b]=a at u r;refine⟨_,_,_,ae h rfl,_,ae h rfl,I,J,K,oM,oM,br (es:=oz a) (k:=4) (Lp a) rfl (λM N=>u M N) (PA.mk λw2 O s2 P=>aD (Lp a) P rfl λv Q s3 R=>λS T=>⟨no,?_⟩)⟩;have x:ai H v:=O.new Q λy z=>.inr oM;have j:ai v S:=T.keep;have A:=(s.then x).then j;have B:=j.get (x.get h id) id;have c:=j.get R id;obtain⟨y,U,a2,a3,a4,V,z,a5,W,hs,-⟩:=ni (o.af A) p;refine aw (vI ..) B ⟨id,_,ae c rfl,PC.ok (iH V p) ?_⟩;rintro _ w5 ⟨rfl,d⟩;have c:=d.get c id;have e:=A.then d;refine⟨_,rfl,ai.keep d,_,_,rfl,_,(d.cell (a:=⟨y,U+i*2,none⟩) z id).trans W,al.dX (λg=>⟨_,ae c rfl,al.dec (λk=>Ok.mk ⟨?_,e⟩) (λk=>?_)⟩) (λg=>Ok.mk ⟨?_,e⟩)⟩
 ·rw[show((b2.getD i ⟨0,[]⟩).n==a.ck)=true by simpa using g,decide_eq_true k];rfl
 ·obtain⟨l,C⟩:∃l:Nat,a.lU=l:=⟨a.lU.toNat,oM⟩
  obtain⟨X,Y,a',n',c',m,Z,-,n,-⟩:=ni (o.af e) (i:=l) oM;refine⟨_,_,_,ae (d.get B id) rfl,_,ae c rfl,X,Y,m,oM,oM,_,by rw[C,Qx];exact n,_,ae c rfl,Ok.mk ⟨?_,e⟩⟩;rw[show((b2.getD i ⟨0,[]⟩).n==a.ck)=true by simpa using g,Xv k,C,Qx];rfl
 ·rw[show((b2.getD i ⟨0,[]⟩).n==a.ck)=false by simpa using g];rfl
end
variable{a3:List Value}{h:Program}{o u:Value->World->Prop}
section
variable {w w':World} {D E:Nat->Prop}
structure Jb (t:List bD) (cells:List du) (fi op arg:Int):Prop where
 f0:0<=fi
 f1:fi<(t.length:Int)
 len:cells.length=t.length
 Xe:1<=op
 Xf:op<=5
 mv:op=5->0<=arg/\arg<((t.getD fi.toNat ⟨0,0,false,[]⟩).bH.length:Int)/\(((t.getD fi.toNat ⟨0,0,false,[]⟩).bH.getD arg.toNat ⟨0,0,0,0⟩).lU)<(t.length:Int)
variable {t:List bD} {cells:List du} {op arg:Int} {ma ca ta:Option Addr} {mn mc cn cc tn tc i:Nat} {bytes:Nat}
def RD(a:Jb t cells (i:Int) op arg)(b:Row fL bytes w D ca cn cells)(e:Row gC 32 w E ma mn (t.getD i ⟨0,0,false,[]⟩).bH):
  enters ZQ (TL op)=true/\Calls ZQ (TL op) (#[]++ #[Bv (t.getD i ⟨0,0,false,[]⟩) ma mn mc ca cn cc (i:Int) arg]++ #[]) w (Ok λh w'=>h= .bool (RB t cells (i:Int) op arg)/\ai w w'):=by
 have c:i<cn:=by have:=b.len;have:=a.f1;have:=a.len;omega
 have n:=a.Xe;have o:=a.Xf;have:op=1\/op=2\/op=3\/op=4\/op=5:=oM
 rcases this with rfl|rfl|rfl|rfl|rfl
 ·exact⟨kR,I_ b c⟩
 ·exact⟨kR,tM (PA.mk λj d k l=>Ok.mk ⟨rfl,d⟩)⟩
 ·exact⟨kR,Ja b c⟩
 ·exact⟨kR,tM (PA.mk λj d k l=>Ok.mk ⟨rfl,d⟩)⟩
 ·obtain⟨m,f,g⟩:=a.mv rfl
  rw[Qx]at f g;exact⟨kR,Hb b c e m (by rw[e.len];exact f) (by rw[b.len,a.len];exact g)⟩
def RE(op:Int):jg ZQ 257 [.func (.func (TL op)) #[] #[],.func (.func (Yq op)) #[] #[]]=true:=kR
def Hc{bytes:Nat}(g:Row pT bytes w D ta tn t)(h:i<tn):∃a b c d f,ta=some ⟨a,b,none⟩/\a<w.heap.size/\D a/\w.cell? ⟨a,b+i*4,none⟩=some (QH (t.getD i ⟨0,0,false,[]⟩).kind)/\w.cell? ⟨a,b+i*4+1,none⟩=some (QH (t.getD i ⟨0,0,false,[]⟩).eV)/\w.cell? ⟨a,b+i*4+2,none⟩=some (.bool (t.getD i ⟨0,0,false,[]⟩).floor)/\w.cell? ⟨a,b+i*4+3,none⟩=some (.slice c d f)/\Row gC 32 w D c d (t.getD i ⟨0,0,false,[]⟩).bH:=by
 have j:=g.len;obtain⟨a,b,p,k,l,m,e,c,d,f,rfl,n,q⟩:=g.el i t[i] (by simp[j▸h]);have o:t.getD i ⟨0,0,false,[]⟩=t[i]:=by simp[QQ,j▸h]
 rw[o];exact⟨a,b,c,d,f,k,l,m,e 0 dC,e 1 dC,e 2 dC,e 3 dC,n⟩
def Jc(a:Jb t cells e op arg)(h:Row pT 48 w E ta tn t)(o:Row fL bytes w D ca cn cells):
  Calls ZQ 88 #[.agg #[.slice ta tn tc],.slice ca cn cc,QH e,QH op,QH arg] w (Ok λp w'=>p= QH (xL t cells e op arg)/\ai w w'):=by
 obtain⟨i,rfl⟩:∃i:Nat,e=i:=⟨e.toNat,by have:=a.f0;omega⟩
 refine Lq (PA.mk λM q N r=>PC.ok Bu ?_);rintro _ O ⟨P,rfl,s,c⟩;refine⟨_,rfl,nw Bt GZ s ?_⟩;rw[NS a.Xe a.Xf];refine⟨_,_,_,rfl,PA.mk λQ j R u=>aD (RE op) u rfl λv k S f=>λl x=>al.tt rfl ?_⟩;have g:ai v l:=x.keep;have d:ai w l:=((q.then (c.then j)).new k λm b=>.inr (by have:=c.size;omega)).then g;have f:=g.get f id;have y:=g.get (k.get (j.get (c.get r id) id) (by have:=c.size;omega)) id;have T:=a.f1;have U:=h.len;obtain⟨m,z,V,W,A,B,b,X,C,F,H,I,J⟩:=Hc (h.af d) (i:=i) oM;obtain⟨K,L⟩:=RD (mc:=A) (cc:=cc) a (o.af d) J;refine⟨_,ae f rfl,_,_,_,ae y rfl,m,z,B,oM,oM,_,_,_,_,_,_,C,F,H,I,_,_,_,rfl,K,PC.ok L ?_⟩;rintro _ Y ⟨rfl,n⟩;rw[Ha];exact⟨_,rfl,al.not (al.mk (λb=>Ok.mk ⟨by rw[b];rfl,d.then n⟩) (λb=>Ok.mk ⟨by rw[b];rfl,d.then n⟩))⟩
def RF(b:c<a*a3.length):((List.replicate a a3).flatten)[c]? =a3[c % a3.length]? :=by
 induction a generalizing c with
 |zero=>simp at b
 |succ a f=>
  rw[List.replicate_succ,List.flatten_cons]
  by_cases d:c<a3.length
  ·rw[XW d,Nat.mod_eq_of_lt d]
  ·rw[X8 oM,f (by rw[X7,Nat.one_mul]at b;omega)]
   obtain⟨e,rfl⟩:∃e,c=e+a3.length:=⟨c-a3.length,oM⟩
   rw[Nat.add_sub_cancel,Nat.add_mod_right]
def Xg{t e:TypeId}{b bytes:Nat}(j:jP h t e b bytes){z:Value}(k:(h.info? e).bind (·.zero)=some z)(m:a<=c)(s:c*bytes<=aQ)(v:c<=aQ){w:World}(x:∀w',Own w' e b (ZZ w.heap.size) a c (List.replicate a z.cells.toList).flatten->ai w w'->w'.heap.size=w.heap.size+1->o (.slice (ZZ w.heap.size) a c) w'):
  aH h (Instr.makeSlice t (QH (a:Int)) (QH (c:Int))) w o u:=by
 unfold aQ at s v;obtain⟨i,d,n,p,y,A,f⟩:=jP.info j;have B:d=z:=by
  rw[n]at k;simp only[Option.bind_some,p]at k;exact XJ k
 subst B;have q:=run_make (P:=h) w t e i _ j.under n p .i64 .i64 a c oM oM (by rw[A,Int.mul_comm,<-Int.natCast_mul];omega) oM;rw[Qx,Qx,y]at q;have C:ai w (w.alloc (.cells (madeCells d.cells (c*b)) e)):=aj.alloc w _;have I:a*b<=c*b:=Q0 _ m;have E:(madeCells d.cells (c*b)).size=c*b:=size_madeCells ..;have F:((List.replicate a d.cells.toList).flatten).length=a*b:=by simp[f]
 refine aH.mk q (x _ ⟨⟨F,.inr ⟨w.heap.size,c,_,rfl,Qj _,heap_alloc_new w _,m,by unfold maxLen;omega,E,?_⟩⟩⟩ C sM);apply X3;intro g
 by_cases l:g<a*b
 ·rw[Xw,if_pos l,RF (by simp[f];exact l)]
  unfold madeCells;have H:=j.pos;have r:g % b<d.cells.size:=by rw[f];exact Nat.mod_lt _ H
  simp[f,show g<c*b by omega];rw[getElem!_pos d.cells (g % b) r,X6 r]
 ·rw[Xw,if_neg l,Q7 oM]
def Jd(k:ta=ta)(e:tn=t.length)(a:tn<=20000000):Calls ZQ 85 #[.agg #[.slice ta tn tc]] w (Ok (qD fL 84 w (dG t))):=by
 refine Lr (PA.mk λf g l b=>⟨_,_,_,ae b rfl,Xg RA (z:=.agg #[QH 0,.slice none 0 0]) kR (Q4 _) (by unfold aQ;omega) (by unfold aQ;omega) λm c h n=>⟨_,_,_,rfl,Ok.mk ⟨_,_,_,(·=f.heap.size),rfl,⟨⟨_,λ_=>False,c,?_,λ_ i=>i.elim⟩,λd a=>by simpa[aI]using a.symm,λd a=>oM⟩,g.then h,λd a=>oM⟩⟩⟩);subst e
 clear c b
 unfold dG
 induction t with
 |nil=>rfl
 |cons o t j=>exact⟨_,_,rfl,⟨none,0,0,rfl,Row.nil _ _,by simp[aN],List.Pairwise.nil,sM⟩,j (by simp at a;omega)⟩
end
end Go.Proofs.YtfchlbaidamodaaGreatDoor

import Derived.Test.YthnilpgpacdmnaaGreatDoorK32
import Derived.Test.YthnilpgpacdmnaaGreatDoorYQue
namespace Go.Proofs.YthnilpgpacdmnaaGreatDoor
open Go.au
set_option linter.unusedVariables false
set_option maxRecDepth 20000
def rH (d:cy) (e:Int) (g:cy) (h j k:Int):Nat->bE->bE->List cN->Option (bE×bE)
 |0,a,b,i=>if i=[]then some (a,b)else none
 |f+1,a,b,[]=>some (a,b)
 |f+1,a,b,c::i=>
  if c.oA=k then
   (if(bT g h b c).2.1≠0 then none else rH d e g h j k f a (bT g h b c).2.2 (i++(bT g h b c).1))
  else if c.oA≠j then none else
   (if(bT d e a c).2.1≠0 then none else rH d e g h j k f (bT d e a c).2.2 b (i++(bT d e a c).1))
abbrev kM (a:FI):List Value:=bH a.m a.va a.vn a.vc a.ea a.en a.ec
def eQ (b:World) (e:Nat->Prop) (f:Nat) (c:Option Addr) (g h:Nat) (i:List cN):Prop:=
 ∃(d:List FI) (D:Nat->Prop),JD b 42 5 c g h (d.flatMap kM)/\d.map (·.m)=i/\(∀a∈d,a.In b D)/\(∀a,D a->a<b.heap.size/\aF c≠some a/\¬e a/\f<=a)/\∀a,aF c=some a->¬e a/\f<=a
theorem KU {c:World} {D:Nat->Prop}:∀{a:List FI} {cs:List Value},bu QE c D a cs->cs=a.flatMap kM
 |[],_,d=>by cases d;rfl
 |b::a,_,⟨h,i,e,⟨f,_⟩,g⟩=>by rw [e,f,KU g];rfl
theorem SE:∀(c:List FI),∀a∈c.flatMap kM,a.oneCell'=true:=λc a b=>by
 obtain⟨d,-,b⟩:=List.mem_flatMap.1 b;exact QE.one (D:=λ_=>False) (w:=default) ⟨rfl,trivial⟩ a b
theorem SF (a:List FI):(a.flatMap kM).length=a.length*5:=by
 induction a with
 |nil=>rfl
 |cons c a b=>rw [List.flatMap_cons,QX,b,Xq];show 5+_=_;omega
variable{f:Nat->Prop}{d5:bE}{f2:cN}
section
variable {w w' w0 w1 w2:World} {p q:Nat} {F G Z:Nat->Prop} {cA cB:cy} {sA sB i k:Int} {A B:bE} {a:Option Addr} {n c:Nat} {ms:List cN} {v:Value}
theorem ej.wW (i:ej w Z ms v w') {Y:Nat->Prop} (g:∀b,Y b->Z b\/b<w.heap.size):∃a n c,v= .slice a n c/\eQ w' Y w.heap.size a n c ms:=by
 obtain⟨a,n,c,j,D,rfl,k,l,m,e,h⟩:=i;obtain⟨cs,q,o,p,r⟩:=k.body;have:=KU p;subst this;refine⟨a,n,c,rfl,j,D,o.VB,l,m,λb d=>⟨(e b d).2.1,(e b d).2.2.1,λf=>?_,(e b d).1⟩,λb d=>⟨λf=>?_,(h b d).1⟩⟩
 ·have:=e b d
  exact(g b f).elim this.2.2.2 oM
 ·have:=h b d
  exact(g b f).elim this.2 oM
theorem eQ.len {b:Nat} (d:eQ w Z b a n c ms):n=ms.length:=by
 obtain⟨g,D,e,f,-⟩:=d;have:=e.len;rw [SF]at this;rw [<-f,Q8];omega
theorem eQ.lt {d:Nat} (e:eQ w Z d a n c ms):∀b,aF a=some b->b<w.heap.size:=by
 obtain⟨g,D,f,-⟩:=e;exact f.lt
theorem eQ.af {i:Nat} (l:eQ w Z i a n c ms) (e:ak f w w') (j:∀b,f b->Z b):eQ w' Z i a n c ms:=by
 obtain⟨m,D,o,p,q,g,k⟩:=l;exact⟨m,D,o.af e λb d h=>(k b d).1 (j b h),p,λb d=>(q b d).af e λb d h=>(g b d).2.2.1 (j b h),λb d=>⟨Qk (g b d).1 e.size,(g b d).2⟩,k⟩
theorem eQ.less {h i:Nat} (o:eQ w Z h a n c ms) (j:∀b,f b->Z b\/w.heap.size<=b) (k:i<=h):eQ w f i a n c ms:=by
 obtain⟨p,D,l,q,r,e,m⟩:=o;exact⟨p,D,l,q,r,λb d=>⟨(e b d).1,(e b d).2.1,λg=>(j b g).elim (e b d).2.2.1 (by have:=(e b d).1;omega),Xx k (e b d).2.2.2⟩,λb d=>⟨λg=>(j b g).elim (m b d).1 (by have:=l.lt b d;omega),Xx k (m b d).2⟩⟩
theorem eQ.pop {m:Nat} (o:eQ w Z m a n c (f2::ms)):∃g h p q u r s v D,a=some ⟨g,h,none⟩/\(∀e,e<5->w.cell? ⟨g,h+e,none⟩=(bH f2 p q u r s v)[e]?)/\Row aG 8 w D p q f2.vec/\Row f_ 96 w D r s f2.events/\(∀b,D b->b<w.heap.size/\¬Z b)/\eQ w Z m (b_ a 1 c 5) (n-1) (c-1) ms:=by
 have x:=o.len;obtain⟨f,D,i,y,j,l,z⟩:=o;rw [Xq]at x
 match f,i,y,j with
 |b::f,i,k,j=>
  simp only [QY,List.cons.injEq]at k;obtain⟨rfl,k⟩:=k;obtain⟨g,h,rfl,A⟩:=i.cell oM;have t:=j b (QV ..);refine⟨g,h,b.va,b.vn,b.vc,b.ea,b.en,b.ec,D,rfl,λe B=>?_,t.1,t.2,λb d=>⟨(l b d).1,(l b d).2.2.1⟩,f,D,?_,k,λC E=>j C (QJ _ E),λb d=>by rw [Hl];exact l b d,λb d=>by rw [Hl]at d;exact z b d⟩
  ·rw [A e oM,List.flatMap_cons,XW (show e<5 from B)]
  ·have:=i.tail oM
   rw [List.flatMap_cons,show(kM b++f.flatMap kM).drop 5=f.flatMap kM from List.drop_left' rfl]at this;exact this
theorem eQ.app {r M:TypeId} {s h:Nat} (A:eQ w Z s a n c ms) (N:ix Tryz.prog r 42 5 72) {t:Option Addr} {f u:Nat} {v:List cN} (B:eQ w Z h t f u v) (C:∀d,aF a=some d->d<h) (a4:s<=h) (a5:h<=w.heap.size) (hl:ms.length+v.length<=100000) (O:∀d,Z d->d<w.heap.size) {E P:Value->World->Prop}
  (x:∀i j w',eQ w' Z s i (n+f) j (ms++v)->ak (λk=>aF a=some k) w w'->E (.slice i (n+f) j) w'):
  aE Tryz.prog (Builtin.append_ #[r,r] M #[.slice a n c,.slice t f u]) w E P:=by
 have hn:=A.len;have hm:=B.len;obtain⟨Q,D,R,S,T,F,I⟩:=A;obtain⟨y,U,l,V,W,J,r5⟩:=B;have X:t=none->f=0/\u=0:=λe=>by
  rcases l.body with⟨_,Y,h3⟩|⟨a0,a1,a2,g,_⟩
  ·exact⟨Y,h3⟩
  ·rw [e]at g;cases g
 refine R.app N (news:=y.flatMap kM) l.len X (λp hp k a6 K=>?_) (SE y) (by unfold aI;omega) (by unfold maxLen;omega) λi j w' z m o=>?_
 ·subst hp
  have a3:k<f*5:=by
   rw [<-l.len];exact(Qv.1 K).1
  obtain⟨a0,a1,g,hc⟩:=l.cell oM
  cases g
  rw [Addr.add_lit];exact(hc k a3).trans K
 ·rw [<-List.flatMap_append]at z
  have a7:=m.size;have a8:=z.lt;refine x i j w' ⟨Q++y,λd=>D d\/U d,z,by rw [Q3,S,V],λd b=>?_,λd b=>?_,λd b=>⟨λL=>?_,?_⟩⟩ m
  ·rcases Q6.1 b with b|b
   ·exact((T d b).af m λd b=>(F d b).2.1).mono λd b=>.inl b
   ·exact((W d b).af m λd b g=>by have:=C d g;have:=(J d b).2.2.2;omega).mono λd b=>.inr b
  ·rcases b with b|b
   ·have q:=F d b
    refine⟨oM,λe=>?_,q.2.2.1,oM⟩;rcases o with H|H
    ·rw [H]at e;exact q.2.1 e
    ·rw [H]at e;cases e;omega
   ·have q:=J d b
    refine⟨oM,λe=>?_,q.2.2.1,oM⟩;rcases o with H|H
    ·rw [H]at e;have:=C d e;omega
    ·rw [H]at e;cases e;omega
  ·rcases o with H|H
   ·rw [H]at b;exact(I d b).1 L
   ·rw [H]at b;cases b;have:=O _ L;omega
  ·rcases o with H|H
   ·rw [H]at b;exact(I d b).2
   ·rw [H]at b;cases b;omega
structure gI (w0 w:World) (p q:Nat) (F G:Nat->Prop) (cA:cy) (sA:Int) (cB:cy) (sB:Int) (A B:bE):Prop where
 a:bz w p F cA sA A
 b:bz w q G cB sB B
 ea:Env w0 w F
 eb:Env w0 w G
 apart:∀b,F b->¬G b
theorem gI.ah (a:gI w0 w p q F G cA sA cB sB A B) (b:ai w w'):gI w0 w' p q F G cA sA cB sB A B:=⟨a.a.ah b,a.b.ah b,a.ea.ah b,a.eb.ah b,a.apart⟩
theorem gI.af (b:gI w0 w p q F G cA sA cB sB A B) (d:ak f w w') (e:∀a,F a\/G a->¬f a) (g:∀a,f a->w0.heap.size<=a):gI w0 w' p q F G cA sA cB sB A B:=
 ⟨b.a.af d λa c=>e a (.inl c),b.b.af d λa c=>e a (.inr c),⟨b.ea.mN,b.ea.laid,b.ea.gr.new d λa c=>.inr (g a c),b.ea.aC⟩,⟨b.eb.mN,b.eb.laid,b.eb.gr.new d λa c=>.inr (g a c),b.eb.aC⟩,b.apart⟩
theorem gI.AL (a:gI w0 w p q F G cA sA cB sB A B) (h:bz w' p f cA sA d5) (d:cz F w f w'):gI w0 w' p q f G cA sA cB sB d5 B:=
 ⟨h,a.b.af d.af λb c e=>a.apart b e c,a.ea.Bq d,⟨a.eb.mN,a.eb.laid,a.ea.gr.new d.af λb c=>.inr (a.ea.aC b c),a.eb.aC⟩,λb c g=>(d.new b c).elim (λe=>a.apart b e g) λi=>by have:=a.b.aC b g;omega⟩
theorem gI.swap (a:gI w0 w p q F G cA sA cB sB A B):gI w0 w q p G F cB sB cA sA B A:=⟨a.b,a.a,a.eb,a.ea,λb c d=>a.apart b d c⟩
theorem gI.RI (a:gI w0 w p q F G cA sA cB sB A B) (b:bz w' q f cB sB d5) (c:cz G w f w'):gI w0 w' p q F f cA sA cB sB A d5:=(a.swap.AL b c).swap
abbrev iu (F G:Nat->Prop):Nat->Prop:=λa=>F a\/G a
theorem _root_.Go.au.cz.left (c:cz F w f w'):cz (iu F G) w (iu f G) w':=⟨c.af.mono λd _ a=>.inl a,λd a=>a.elim (λb=>(c.new d b).imp .inl id) λb=>.inl (.inr b)⟩
theorem _root_.Go.au.cz.right (c:cz G w f w'):cz (iu F G) w (iu F f) w':=⟨c.af.mono λd _ a=>.inr a,λd a=>a.elim (λb=>.inl (.inl b)) λb=>(c.new d b).imp .inr id⟩
end
theorem VL:ix Tryz.prog 87 42 5 72:=⟨kR,kR,dC⟩
theorem JE (b:aw) (a:Int) (c:cN) (d:Int):(kN b a c d).length<=2:=by
 unfold kN;split
 ·simp
 dsimp only;split<;>split<;>simp [List.isEmpty]
theorem wX (b:cy) (a:Int) (c:bE) (d:cN):(bT b a c d).1.length<=2:=by
 unfold bT;split
 ·simp
 dsimp only;split
 ·simp
 split
 ·simp
 split
 ·unfold np
  dsimp only;split
  ·simp
  split<;>simp
 split
 ·exact JE _ _ _ _
 split<;>simp
section
variable {w w' w0 w1 w2:World} {p q:Nat} {F G Z:Nat->Prop} {cA cB:cy} {sA sB i k:Int} {A B:bE}
theorem JF (b:gI w0 w p q F G cA sA cB sB A B) (hk:aK k) {most:Nat} (f6:most<=1000) (hA:A.S.l.length<=17000000) (hB:B.S.l.length<=17000000) (h1:(fP cA sA A k 0).1.length=1) {I J:bE} (hm:rH cA sA cB sB i k most (fP cA sA A k 0).2 B (fP cA sA A k 0).1=some (I,J)):
  Calls Tryz.prog 19 #[.pointer (some ⟨p,0,none⟩),.pointer (some ⟨q,0,none⟩),.int .i64 i,.int .i64 k,.int .i64 (most:Int)] w (Ok λK w'=>K= .bool true/\∃P Q,gI w0 w' p q P Q cA sA cB sB I J/\cz (iu F G) w (iu P Q) w'):=by
 refine Ed (PC.ok (uk b.a hk) ?_);rintro _ w7 ⟨F7,T,d7,b6⟩;have d8:=b.AL d7 b6;have c8:=b.a.aC;have b8:=b.b.aC;obtain⟨f7,n7,f8,rfl,U⟩:=T.wW (Y:=iu F7 G) λa b=>b.imp id λh=>b8 a h;have g4:=U.len;have d9:=Au cA sA A k 0;refine⟨_,_,_,rfl,al.df (λe0=>absurd oM e0) (λ_=>?_)⟩;refine⟨λb7 fa V r b1 w'=>∃(d:Nat) (f g:Nat->Prop) (l m:bE) (e:List cN),b1=d/\d<=most/\b7=most-d/\gI w0 w' p q f g cA sA cB sB l m/\cz (iu F G) w (iu f g) w'/\eQ w' (iu f g) w.heap.size fa V r e/\e.length<=1+2*d/\
   rH cA sA cB sB i k (most-d) l m e=some (I,J)/\l.S.l.length<=17000300+300*d/\m.S.l.length<=17000300+300*d,
  ⟨_,0,F7,G,_,B,_,rfl,Qj _,rfl,d8,b6.left,U.less (λa b=>.inl b) (Q4 _),oM,hm,by rcases d9.evs with h|h<;>omega,oM⟩,?_⟩
 rintro b7 fa V r _ _ b9 ⟨d,f,g,l,m,e,rfl,hj,rfl,W,a4,X,b2,c,g5,g6⟩;have L:=X.len;have c8:=W.a.aC;have b8:=W.b.aC;have C:∀{w':World} {f g:Nat->Prop} {Y:Nat} {e:List cN} {l m:bE},gI w0 w' p q f g cA sA cB sB l m->cz (iu F G) w (iu f g) w'->Y=e.length->e=[]->some (l,m)=some (I,J)->
   Ok (λK w'=>K= .bool true/\∃P Q,gI w0 w' p q P Q cA sA cB sB I J/\cz (iu F G) w (iu P Q) w') (.returned (.bool ((Y:Int)==0))) w':=λb e1 hn c0 Z=>by
  cases Z
  subst c0;subst hn;exact Ok.mk ⟨rfl,_,_,b,e1⟩
 refine al.dec (λc9=>?_) (λg7=>?_)
 rotate_left
 ·have:most-d=0:=oM
  rw [this]at c;unfold rH at c;split at c
  ·rename_i c0;exact C W a4 L c0 c
  ·cases c
 obtain⟨a5,s⟩:∃a5,most-d=a5+1:=⟨most-d-1,oM⟩
 rw [s]at c
 match e,X,L,b2,c with
 |[],X,L,b2,c=>exact al.dec (λh0=>by simp at L;omega) (λ_=>C W a4 L rfl c)
 |x::e,X,L,b2,c=>
  rw [Xq]at L b2;refine al.dec (λ_=>?_) (λh0=>oM);obtain⟨a0,a1,va,vn,vc,ea,en,ec,D,rfl,hc,hv,Z,hD,e2⟩:=X.pop;refine⟨a0,a1,rfl,oM,oM,bq (es:=bH x va vn vc ea en ec) (k:=5) (iJ _ _ _ _ _ _ _) rfl (λb1 ht=>hc b1 ht) (PA.mk λg8 e3 g9 e4=>az (iJ x va vn vc ea en ec) e4 rfl λM e5 h6 c1=>⟨oM,oM,?_⟩)⟩;have R:ai b9 M:=e3.new e5 λa b=>.inr (by have b:a=b9.heap.size:=b;omega);have h7:=R.size;have n:=W.ah R;have a7:eQ M (iu f g) w.heap.size (b_ (some ⟨a0,a1,none⟩) 1 r 5) (V-1) (r-1) e:=e2.af R λa b=>b.elim;have c2:cz (iu F G) w (iu f g) M:=⟨a4.af.ah R,a4.new⟩
  have e6:=b.ea.gr.size;have a2:∀{o:World} {E H:Nat->Prop} {a6 a8:bE} {ms:List cN} {K:Value},gI w0 o p q E H cA sA cB sB a6 a8->cz (iu f g) M (iu E H) o->(∃t u v,K= .slice t u v/\eQ o (iu E H) M.heap.size t u v ms)->ms.length<=2->
    rH cA sA cB sB i k a5 a6 a8 (e++ms)=some (I,J)->a6.S.l.length<=17000300+300*(d+1)->a8.S.l.length<=17000300+300*(d+1)->o.heap[b9.heap.size]? =some (.cells (bH x va vn vc ea en ec).toArray 42 (0,0))/\∃t u v,K= .slice t u v/\
    ∀ε:Value->World->Prop,aE Tryz.prog (Builtin.append_ #[87,87] 87 #[.slice (b_ (some ⟨a0,a1,none⟩) (Int.toNat 1) r 5) (V-Int.toNat 1) (r-Int.toNat 1),.slice t u v]) o (λe7 b3=>∃(c7:Option Addr) (Y d0:Nat),e7= .slice c7 Y d0/\∃d1,d1<most-d/\
     ∃(N:Nat) (f g:Nat->Prop) (l m:bE) (e:List cN),IntKind.wrap .i64 ((d:Int)+1)=N/\N<=most/\d1=most-N/\gI w0 b3 p q f g cA sA cB sB l m/\cz (iu F G) w (iu f g) b3/\eQ b3 (iu f g) w.heap.size c7 Y d0 e/\e.length<=1+2*N/\
      rH cA sA cB sB i k (most-N) l m e=some (I,J)/\l.S.l.length<=17000300+300*N/\m.S.l.length<=17000300+300*N) ε:=λ{o E H a6 a8 ms K} c3 y e8 h8 e9 f0 f1=>by
   refine⟨y.af.get c1 λh=>h.elim (λh=>by have:=c8 _ h;omega) λh=>by have:=b8 _ h;omega,?_⟩;obtain⟨t,u,v,rfl,f2⟩:=e8;refine⟨t,u,v,rfl,λε=>?_⟩;have d2:eQ o (iu E H) w.heap.size (b_ (some ⟨a0,a1,none⟩) 1 r 5) (V-1) (r-1) e:=by
    obtain⟨f3,D,h1,h2,h3,h4,h5⟩:=a7.af y.af λa b=>b;have c9:=a7.lt;obtain⟨L',D',g0,g1,g2,S,c4⟩:=a7;refine⟨L',D',g0.af y.af λa b=>(c4 a b).1,g1,λa b=>(g2 a b).af y.af λa b=>(S a b).2.2.1,λa b=>⟨Qk (S a b).1 y.af.size,(S a b).2.1,λhz=>(y.new a hz).elim (S a b).2.2.1 (by have:=(S a b).1;omega),(S a b).2.2.2⟩,λa b=>⟨λhz=>(y.new a hz).elim (c4 a b).1 (by have:=c9 a b;omega),(c4 a b).2⟩⟩
   have g3:∀a,iu E H a->a<o.heap.size:=λa b=>b.elim (c3.a.aC a) (c3.b.aC a);refine eQ.app d2 VL f2 (λa b=>a7.lt a b) c2.af.size y.af.size oM g3 λa' c' b3 f4 d3=>?_;have b4:∀a,aF (b_ (some ⟨a0,a1,none⟩) 1 r 5)=some a->¬iu E H a/\w.heap.size<=a:=λa b=>by
    obtain⟨f3,D,h1,h2,h3,h4,h5⟩:=d2;exact h5 a b
   have f5:=c3.af d3 (λa b Z=>(b4 a Z).1 b) λa b=>by have:=(b4 a b).2;have:=e6;omega
   refine⟨_,_,_,rfl,_,oM,d+1,E,H,a6,a8,e++ms,aq oM,oM,rfl,f5,?_,f4,by rw [QX];omega,by rw [show most-(d+1)=a5 by omega];exact e9,f0,f1⟩;have h9:=c2.trans y;exact⟨h9.af.new d3 λa b=>.inr (b4 a b).2,h9.new⟩
  refine⟨λd4 w'=>d4=(if x.oA=k then some ⟨q,0,none⟩else some ⟨p,0,none⟩)/\M=w',⟨x.oA,ae c1 rfl,al.dJ (λh=>⟨by rw [if_pos h],rfl⟩) (λh=>⟨by rw [if_neg h],rfl⟩)⟩,?_⟩;rintro d4 _ _ ⟨rfl,rfl⟩;refine ar (iJ x va vn vc ea en ec) c1 ?_;have d5:=hv.ah R;have d6:=Z.ah R;have a9:∀a,D a->a<M.heap.size:=λa b=>by have:=(hD a b).1;omega
  unfold rH at c
  by_cases b0:x.oA=k
  ·rw [if_pos b0]
   rw [if_pos b0]at c;split at c
   ·cases c
   rename_i O;have O:(bT cB sB m x).2.1=0:=Classical.not_not.1 O;refine PC.ok (pJ n.b n.eb d5 (λa b=>⟨a9 a b,λs=>(hD a b).2 (.inr s)⟩) d6 (λa b=>⟨a9 a b,λs=>(hD a b).2 (.inr s)⟩) oM) ?_;rintro _ o ⟨v1,Q,rfl,T,b5,a3⟩;have c5:=lu cB sB m x n.b.waits n.b.ok.EK.2;rw [O];obtain⟨z,t,u,v,rfl,j⟩:=a2 (n.RI b5 a3) a3.right (T.wW λa b=>b.elim (λh=>.inr (by have:=n.a.aC a h;omega)) .inl) (wX ..) c oM (by rcases c5.evs with h|h<;>omega);refine⟨_,_,_,_,rfl,al.df (λh=>absurd rfl h) (λ_=>⟨_,ae z rfl,al.df (λh=>⟨_,ae z rfl,al.df (λh2=>absurd b0 h2) (λ_=>j _)⟩) (λ_=>j _)⟩)⟩
  ·rw [if_neg b0]
   rw [if_neg b0]at c;split at c
   ·cases c
   rename_i c6;have c6:x.oA=i:=Classical.not_not.1 c6;split at c
   ·cases c
   rename_i O;have O:(bT cA sA l x).2.1=0:=Classical.not_not.1 O;refine PC.ok (pJ n.a n.ea d5 (λa b=>⟨a9 a b,λs=>(hD a b).2 (.inl s)⟩) d6 (λa b=>⟨a9 a b,λs=>(hD a b).2 (.inl s)⟩) oM) ?_;rintro _ o ⟨v1,P,rfl,T,b5,a3⟩;have c5:=lu cA sA l x n.a.waits n.a.ok.EK.2;rw [O];obtain⟨z,t,u,v,rfl,j⟩:=a2 (n.AL b5 a3) a3.left (T.wW λa b=>b.elim .inl (λh=>.inr (by have:=n.b.aC a h;omega))) (wX ..) c (by rcases c5.evs with h|h<;>omega) oM;refine⟨_,_,_,_,rfl,al.df (λh=>absurd rfl h) (λ_=>⟨_,ae z rfl,al.df (λh=>absurd c6 h) (λ_=>j _)⟩)⟩
end
def mB:aM:=⟨[[⟨1,1,true,[]⟩,⟨2,3,false,[]⟩,⟨3,2,false,[]⟩,⟨4,2,false,[⟨0,1,0,2⟩,⟨1,0,-1,0⟩,⟨0,2,-1,0⟩]⟩,⟨2,2,false,[]⟩,⟨1,1,false,[]⟩]],[⟨0,0,1,0,2⟩,⟨0,2,2,0,1⟩,⟨0,5,3,4,4⟩]⟩
def bX (a:Int):cy:=⟨a,131072,400,3,20,5,4,0,mB⟩
def Pq:Bool:=
 (dd (bX 2) 0).1==0&&((dd (bX 2) 1).1==0&&((bI (bX 2) 0 (dd (bX 2) 0).2 ⟨0,0,0,1,3,-1,0⟩).1==0&&((bI (bX 2) 0 (dd (bX 2) 0).2 ⟨0,0,0,1,3,-1,0⟩).2.1==((0:Int),(1:Int))&&((Cf mB (dd (bX 2) 1).2.S.l 0 0).code==14&&((fP (bX 2) 1 (dd (bX 2) 1).2 0 0).1.length==1&&
  (match rH (bX 2) 1 (bX 2) 0 1 0 100 (fP (bX 2) 1 (dd (bX 2) 1).2 0 0).2 (bI (bX 2) 0 (dd (bX 2) 0).2 ⟨0,0,0,1,3,-1,0⟩).2.2 (fP (bX 2) 1 (dd (bX 2) 1).2 0 0).1 with
  |none=>false
  |some (a,b)=>(Cf mB a.S.l 0 0).code==0&&((Cf mB a.S.l 0 0).st.cells.length==6&&(((Cf mB a.S.l 0 0).st.cells.getD 0 ⟨0,[]⟩).n==3&&((Cf mB a.S.l 0 0).st.version==1&&a.S.vec==[1,0])))))))))
theorem Kl:Pq=true:=by decide+kernel
variable{r:Array Value}{e n:Int}{h2:List Cd}{a4:List PanicEntry->World->Prop}{a c:Nat}{F:Nat×Nat}{j:Type}{g:TypeId}{b:World}
theorem Row.yD {c:jk j} {bytes a:Nat} {D:Nat->Prop} (f:b.heap[a]? =some (.cells r g F)) {xs:List j} (m:bu c b D xs r.toList) (q:0<c.k) (d:xs.length*bytes<=aI):Row c bytes b (λe=>e=a\/D e) (some ⟨a,0,none⟩) xs.length xs:=
 ⟨rfl,d,λs t n=>by
  obtain⟨h,o,i⟩:=m.at n;have u:=c.len i;refine⟨a,0,h,rfl,ay f,.inl rfl,λk p=>?_,c.mono i λe d=>.inr d⟩;have l:=o k p;rw [Qq (show k<h.length by omega)]at l⊢;rw [Xz];exact ae f (by simpa using l)⟩
theorem i10 (a:(decide (-1000000<=e)&&decide (e<=1000000))=true):aK e:=by
 simp only [QK,decide_eq_true_eq]at a;unfold aK;omega
section
variable {w w' w0:World}
theorem Km:Calls Tryz.prog 47 #[] w (Ok λv w'=>∃o tn x p q y G,v= .agg #[.slice o tn x,.slice p q y]/\aW w' G mB o tn p q/\(∀a,G a->w.heap.size<=a/\a<w'.heap.size)/\ai w w'):=by
 refine Ef (PA.mk λd z V A=>PA.mk λf B W C=>PA.mk λh r X E=>PA.mk λi m Y F=>PA.mk λs j Z H=>?_);have t:=((B.then r).then m).then j;refine PS.mk (t.get A id) sM λw6 I s6 J=>PS.mk J sM λe K s7 u=>⟨_,_,_,_,_,_,ae u rfl,ae u rfl,?_⟩
 have g:ak (λa=>a=w.heap.size) s e:=I.then K;have L:=g.get (j.get (m.get (r.get C id) id) id) (λb=>by have b:d.heap.size=w.heap.size:=b;omega);have M:=g.get (j.get (m.get E id) id) (λb=>by have b:f.heap.size=w.heap.size:=b;omega);have N:=g.get (j.get F id) (λb=>by have b:h.heap.size=w.heap.size:=b;omega);have O:=g.get H (λb=>by have b:i.heap.size=w.heap.size:=b;omega);have P:Row fp 32 e (λa=>a=d.heap.size\/False) (some ⟨d.heap.size,0,none⟩) 3 [⟨0,1,0,2⟩,⟨1,0,-1,0⟩,⟨0,2,-1,0⟩]:=
  Row.yD (c:=fp) (xs:=[⟨0,1,0,2⟩,⟨1,0,-1,0⟩,⟨0,2,-1,0⟩]) (D:=λ_=>False) L ⟨_,_,rfl,⟨rfl,i10 rfl,i10 rfl,i10 rfl,i10 rfl⟩,_,_,rfl,⟨rfl,i10 rfl,i10 rfl,i10 rfl,i10 rfl⟩,_,_,rfl,⟨rfl,i10 rfl,i10 rfl,i10 rfl,i10 rfl⟩,rfl⟩ dC dC
 have Q:Row nQ 48 e (λa=>a=f.heap.size\/a=d.heap.size\/False) (some ⟨f.heap.size,0,none⟩) 6 [⟨1,1,true,[]⟩,⟨2,3,false,[]⟩,⟨3,2,false,[]⟩,⟨4,2,false,[⟨0,1,0,2⟩,⟨1,0,-1,0⟩,⟨0,2,-1,0⟩]⟩,⟨2,2,false,[]⟩,⟨1,1,false,[]⟩]:=by
  have no:∀(k l:Int) (n:Bool),aK k->aK l->nQ.rep e (λa=>a=d.heap.size\/False) ⟨k,l,n,[]⟩ [.int .i64 k,.int .i64 l,.bool n,.slice none 0 0]:=λk l n R S=>⟨none,0,0,rfl,dy _ _,R,S⟩
  exact Row.yD (c:=nQ) (xs:=[⟨1,1,true,[]⟩,⟨2,3,false,[]⟩,⟨3,2,false,[]⟩,⟨4,2,false,[⟨0,1,0,2⟩,⟨1,0,-1,0⟩,⟨0,2,-1,0⟩]⟩,⟨2,2,false,[]⟩,⟨1,1,false,[]⟩]) (D:=λa=>a=d.heap.size\/False) M ⟨_,_,rfl,no 1 1 true (i10 rfl) (i10 rfl),_,_,rfl,no 2 3 false (i10 rfl) (i10 rfl),_,_,rfl,no 3 2 false (i10 rfl) (i10 rfl),_,_,rfl,⟨_,_,_,rfl,P,i10 rfl,i10 rfl⟩,_,_,rfl,no 2 2 false (i10 rfl) (i10 rfl),_,_,rfl,no 1 1 false (i10 rfl) (i10 rfl),rfl⟩ dC dC
 have T:Row t_ 40 e (λa=>a=h.heap.size\/False) (some ⟨h.heap.size,0,none⟩) 3 mB.projs:=
  Row.yD (c:=t_) (xs:=[⟨0,0,1,0,2⟩,⟨0,2,2,0,1⟩,⟨0,5,3,4,4⟩]) (D:=λ_=>False) N ⟨_,_,rfl,⟨rfl,i10 rfl,i10 rfl,i10 rfl,i10 rfl,i10 rfl⟩,_,_,rfl,⟨rfl,i10 rfl,i10 rfl,i10 rfl,i10 rfl,i10 rfl⟩,_,_,rfl,⟨rfl,i10 rfl,i10 rfl,i10 rfl,i10 rfl,i10 rfl⟩,rfl⟩ dC dC
 have U:Row jE 24 e (λa=>a=i.heap.size\/a=f.heap.size\/a=d.heap.size\/False) (some ⟨i.heap.size,0,none⟩) 1 mB.types:=
  Row.yD (c:=jE) (xs:=[[⟨1,1,true,[]⟩,⟨2,3,false,[]⟩,⟨3,2,false,[]⟩,⟨4,2,false,[⟨0,1,0,2⟩,⟨1,0,-1,0⟩,⟨0,2,-1,0⟩]⟩,⟨2,2,false,[]⟩,⟨1,1,false,[]⟩]]) (D:=λa=>a=f.heap.size\/a=d.heap.size\/False) O ⟨_,_,rfl,⟨_,_,_,rfl,Q⟩,rfl⟩ dC dC
 refine Ok.mk ⟨_,_,_,_,_,_,λa=>(a=i.heap.size\/a=f.heap.size\/a=d.heap.size\/False)\/a=h.heap.size\/False,rfl,⟨U.mono λa c=>.inl c,T.mono λa c=>.inr c⟩,λa c=>?_,?_⟩
 ·have z7:e.heap.size=s.heap.size:=oM
  rcases c with(rfl|rfl|rfl|c)|rfl|c<;>first|omega|exact c.elim
 ·exact(z.then t).new g λa c=>.inr (by have c:a=w.heap.size:=c;omega)
theorem xq :Calls Tryz.prog 16 #[.int .i64 e] w (Ok λm w'=>∃b tn g c d h G,m=pI (bX e) b tn g c d h/\aW w' G mB b tn c d/\(∀a,G a->w.heap.size<=a/\a<w'.heap.size)/\ai w w'):=by
 refine BE (PA.mk λr n s o=>PC.ok Km ?_);rintro _ t ⟨b,tn,g,c,d,h,G,rfl,p,i,j⟩;refine⟨_,_,_,_,_,_,rfl,az (uj (bX e) b tn g c d h) (j.get o id) rfl λu k v q=>ar (uj (bX e) b tn g c d h) q (Ok.mk ⟨b,tn,g,c,d,h,G,rfl,p.af k λa f l=>by have l:a=w.heap.size:=l;have:=i a f;omega,λa f=>by have:=i a f;omega,(n.then j).new k λa f=>.inr (by have f:a=w.heap.size:=f;omega)⟩)⟩
theorem Ui (a:iU):Pw (dT Tryz.prog 30) (oQ a)=true:=kR
theorem M_ {a arg:Int}:Calls Tryz.prog 17 #[.int .i64 a,.int .i64 arg] w (Ok λc w'=>c=oQ ⟨0,a,0,1,arg,-1,0⟩/\ai w w'):=
 Gr (PA.mk λi d j e=>az (wB ⟨0,a,0,1,arg,-1,0⟩) e rfl λk f l g=>ar (wB ⟨0,a,0,1,arg,-1,0⟩) g (Ok.mk ⟨rfl,d.new f λh b=>.inr (by have b:h=w.heap.size:=b;omega)⟩))
theorem gI.made {h G:Nat->Prop} {k l:cy} {m o:bE} (p:eu w0) (q:Laid w0) (g:ai w0 w) (r:bz b a h k e m) (t:∀d,h d->w.heap.size<=d) (i:ai w b) (j:ai b w') (f:bz w' c G l n o) (s:∀d,G d->b.heap.size<=d):gI w0 w' a c h G k e l n m o:=
 ⟨r.ah j,f,⟨p,q,g.then (i.then j),λd f=>by have:=t d f;have:=g.size;omega⟩,⟨p,q,g.then (i.then j),λd f=>by have:=s d f;have:=g.size;have:=i.size;omega⟩,λd u v=>by have:=r.aC d u;have:=s d v;omega⟩
theorem Ii:∃(g a h b e:bE) (i c:pH),dd (bX 2) 0=(0,g)/\dd (bX 2) 1=(0,a)/\bI (bX 2) 0 g ⟨0,0,0,1,3,-1,0⟩=(0,(0,1),h)/\Cf mB a.S.l 0 0=i/\i.code=14/\(fP (bX 2) 1 a 0 0).1.length=1/\
  rH (bX 2) 1 (bX 2) 0 1 0 100 (fP (bX 2) 1 a 0 0).2 h (fP (bX 2) 1 a 0 0).1=some (b,e)/\Cf mB b.S.l 0 0=c/\c.code=0/\c.st.cells.length=6/\(c.st.cells.getD 0 ⟨0,[]⟩).n=3/\c.st.version=1/\b.S.vec=[1,0]:=by
 have f:=Kl;unfold Pq at f;simp only [QK,beq_iff_eq]at f;obtain⟨j,k,l,m,n,o,d⟩:=f;split at d
 ·cases d
 ·rename_i b e p
  simp only [QK,beq_iff_eq]at d;obtain⟨q,r,s,t,u⟩:=d;exact⟨_,_,_,b,e,_,_,Prod.ext j rfl,Prod.ext k rfl,Prod.ext l (Prod.ext m rfl),rfl,n,o,p,rfl,q,r,s,t,u⟩
theorem HN (k:eu w0) (l:Laid w0) (m:ai w0 w):Calls Tryz.prog 5 #[] w (Ok λa3 w'=>a3= .bool true/\ai w w'):=by
 obtain⟨H,XB,i7,YB,YA,i8,I,e1,e2,e3,e4,e5,e6,e7,e8,e9,i9,d8,d9,e0⟩:=Ii;have J:(bX 2).decl=mB:=rfl;refine BC (PC.ok xq ?_);rintro _ w2 ⟨ta,tn,tc,pa,pn,pc,G2,rfl,f2,g0,n⟩;refine bF (KG (bX 2) ta tn tc pa pn pc) ⟨rfl,PC.ok (yz (c:=bX 2) k l (m.then n) f2 (λb a=>(g0 b a).2) (i10 rfl) (i10 rfl) (i10 rfl)) ?_⟩;rintro v5 w5 c;unfold AV at c;rw [e1]at c;obtain⟨k5,⟨o,-⟩|⟨-,a4,a5,rfl,K,p,g1⟩⟩:=c
 ·exact absurd rfl o
 dsimp only at K g1;have e:=n.then k5;refine⟨_,_,rfl,PC.ok xq ?_⟩;rintro _ w9 ⟨tb,tm,td,pb,pm,pd,G9,rfl,g2,g3,f⟩;refine bF (KG (bX 2) tb tm td pb pm pd) ⟨rfl,PC.ok (yz (c:=bX 2) k l ((m.then e).then f) g2 (λb a=>(g3 b a).2) (i10 rfl) (i10 rfl) (i10 rfl)) ?_⟩;rintro j0 g4 c;unfold AV at c;rw [e2]at c;obtain⟨L,⟨o,-⟩|⟨-,a6,G,rfl,M,N,g5⟩⟩:=c
 ·exact absurd rfl o
 dsimp only at M g5;have z5:=e.size;have z9:=f.size;have z2:=n.size;generalize j1:bX 2=q at*;have g6:gI w0 g4 a4 a6 a5 G q 0 q 1 H XB:=gI.made (w:=w) k l m K (λb a=>by have:=p b a;omega) e (f.then L) M λb a=>by have:=N b a;omega
 have O:=(e.then f).then L;refine⟨_,_,rfl,al.df (λh=>absurd rfl h) (λ_=>al.df (λh=>absurd rfl h) (λ_=>fG Tryz.underlying33 ⟨_,rfl,al.ff rfl (fG Tryz.underlying33 ⟨_,rfl,al.ff rfl (PC.ok M_ ?_)⟩)⟩))⟩;rintro _ j2 ⟨rfl,r⟩;have s:=g6.ah r;have g7:iU.Ok ⟨0,0,0,1,3,-1,0⟩:=⟨i10 rfl,i10 rfl,i10 rfl,i10 rfl,i10 rfl,i10 rfl⟩
 refine bF (Ui _) ⟨rfl,PC.ok (kJ s.a s.ea g7 oM) ?_⟩;have t:=sP q 0 H ⟨0,0,0,1,3,-1,0⟩;rintro _ u ⟨j3,g,v,x⟩;rw [e3]at t g v;dsimp only at t g v;have a7:=s.AL v x;rw [if_neg sM]at g;obtain⟨P,Q,R,S,T,U,V,W,X,-,rfl,-⟩:=g;refine bF (Aq _ P Q R S T U V W X) ⟨rfl,PA.mk λj4 g8 j5 g9=>az (iQ _ P Q R S T U V W X) g9 rfl λh2 b2 j6 h3=>?_⟩;have Y:ai u h2:=g8.new b2 λb a=>.inr (by have a:b=u.heap.size:=a;omega);have Z:=a7.ah Y;refine PC.ok (yu Z.b) ?_;rintro _ b4 ⟨a0,y⟩;rw [J,e4]at a0;obtain⟨b5,b6,b7,b8,b9,c0,c1,c3,c4,-,rfl,-⟩:=a0;refine bF (Aq _ b5 b6 b7 b8 b9 c0 c1 c3 c4) ⟨rfl,PA.mk λj7 h4 j8 h5=>az (iQ _ b5 b6 b7 b8 b9 c0 c1 c3 c4) h5 rfl λc5 z j9 h6=>?_⟩;have A:ai b4 c5:=h4.new z λb a=>.inr (by have a:b=b4.heap.size:=a;omega);have B:=A.get (y.get h3 id) id;refine⟨_,ae B rfl,al.df (λh=>absurd rfl h) (λ_=>⟨_,_,ae B rfl,ae B rfl,aE.mk Ao ⟨_,rfl,al.ff rfl ⟨_,ae h6 rfl,al.df (λh=>absurd e5 h) (λ_=>?_)⟩⟩⟩)⟩;have a8:=(Z.ah y).ah A;refine PC.ok (JF (most:=100) a8.swap (i10 rfl) dC oM (by rcases t.evs with h|h<;>omega) e6 e7) ?_;rintro _ k0 ⟨rfl,k1,k3,a1,a9⟩;refine⟨_,rfl,al.not (al.tt rfl (PC.ok (yu a1.a) ?_))⟩;rintro _ C ⟨a2,c6⟩;rw [J,e8]at a2;have d:ai w C:=by
  have h7:ai w u:=(O.then r).new x.af λb a=>.inr (by have:=p b a;omega);have z:ai w c5:=((h7.then Y).then y).then A;refine(z.new a9.af λb a=>.inr ?_).then c6;rcases a with a|a
  ·have:=N b a;omega
  ·rcases x.new b a with h|h
   ·have:=p b h;omega
   ·have:=O.size;have:=r.size;omega
 obtain⟨c7,c8,c9,d0,d1,d2,d3,d4,d5,G3,rfl,i,-⟩:=a2;refine bF (Aq I c7 c8 c9 d0 d1 d2 d3 d4 d5) ⟨rfl,PA.mk λk4 h8 k6 h9=>az (iQ I c7 c8 c9 d0 d1 d2 d3 d4 d5) h9 rfl λi0 d6 k7 j=>?_⟩;have E:ai C i0:=h8.new d6 λb a=>.inr (by have a:b=C.heap.size:=a;omega);have i:=i.ah E;have k8:=i.len;obtain⟨b,b0,l0,l3,l4,rfl,l5,-,i1,-⟩:=lE (i:=0) i oM;refine⟨_,ae j rfl,al.dJ (λ_=>⟨_,_,_,ae j rfl,al.dJ (λ_=>⟨_,_,_,ae j rfl,b,b0,rfl,oM,oM,_,i1,al.dJ (λ_=>⟨_,ae j rfl,al.dJ (λ_=>?_) (λh=>absurd d9 h)⟩) (λh=>absurd d8 h)⟩) (λh=>absurd oM h)⟩) (λh=>absurd e9 h)⟩;refine PC.ok (Lb ((a1.a.ah c6).ah E)) ?_;rintro _ l6 ⟨l7,l8,l9,m0,rfl,F,i2,i5⟩;rw [e0]at F;have i6:=F.len dC;refine⟨_,_,_,rfl,PA.mk λm1 d7 m2 i3=>PC.ok (lq (xs:=[1,0]) (ys:=[1,0]) ((F.ah d7).row dC dC) (Row.lit i3 [1,0] rfl (λb1 hx=>by simp at hx;rcases hx with rfl|rfl<;>exact i10 rfl) dC)) ?_⟩;rintro _ m3 ⟨rfl,i4⟩;exact⟨_,rfl,Ok.mk ⟨sM,(((d.then E).then i2).then d7).then i4.af⟩⟩
end
section
variable {w w' w0:World} {p q:Nat} {F G D E:Nat->Prop} {c e:cy} {self other:Int} {X Y:bE}
theorem JY (c:cy) (self:Int):(dd c self).2.fu.asked=[]:=by
 have a:(Fe c).2.fu.asked=[]:=by unfold Fe;rw [wP]
 unfold dd;split
 ·exact a
 split<;>exact a
theorem bz.cl (a:bz w p F c self X):X.S.Cl/\X.S.n=c.bR.toNat:=by
 obtain⟨e,f,b,d⟩:=a;exact(d.at' 3).2
theorem bz.len (d:bz w p F c self X):X.S.l.length<=20000000:=by
 obtain⟨h,e,a,f⟩:=d;have g:cJ w e.bp (λb=>F b/\a b=4) c.decl c.every.toNat X.S.l:=f.at' 4;exact g.1.2.2.2
theorem Dw (d:eu w0) (e:Laid w0) (b:ai w0 w):PC Tryz.prog 5 #[] w (λa f=>∃c:Bool,a= .bool c/\Ok (λa w'=>a= .bool true/\ai w0 w') (.returned (.bool c)) f) a4:=by
 refine PC.ok (HN d e b) ?_;rintro _ w' ⟨rfl,g⟩;exact⟨_,rfl,Ok.mk ⟨rfl,b.then g⟩⟩
theorem uP {x:iU} {N O la:Option Addr} {tn tc P pc Q lc:Nat} (l:eu w) (m:Laid w) (hd:aW w D c.decl N tn O P) (hD:∀a,D a->a<w.heap.size) (hl:Row Qd 152 w E la Q h2) (hE:∀a,E a->a<w.heap.size) (hx:x.Ok) (hs:aK c.bN) (g8:aK c.every) (g9:aK c.start):
  Calls Tryz.prog 3 #[pI c N tn tc O P pc,.int .i64 self,.slice la Q lc,oQ x] w (Ok λf1 w'=>f1= .bool true/\ai w w'):=by
 have u6:=hl.len;have o3:=hl.dt;unfold aI at o3;refine qF (PA.mk λw1 k1 s1 g1=>PA.mk λi k2 s2 g2=>?_);have R:=k1.then k2;have b7:=k2.get g1 id;refine ar (uj c N tn tc O P pc) b7 (PC.ok (Jt (hd.ah R) (hl.ah R)) ?_);rintro _ w3 ⟨⟨h0,rfl,o4⟩,o⟩;have S:=R.then o;have h3:=o.get b7 id;have o5:=o.get g2 id;refine⟨_,rfl,al.mk (λ_=>Dw l m S) (λo6=>?_)⟩;obtain⟨o7,o8⟩:=o4 o6;refine ar (uj c N tn tc O P pc) h3 (PC.ok (uh (hd.ah S)) ?_);rintro _ w4 ⟨ua,un,uc,va,vn,vc,G4,rfl,o9,p0,r⟩;refine bF (KG c ua un uc va vn vc) ⟨rfl,PC.ok (yz l m (S.then r) o9 (λa b=>(p0 a b).2) hs g8 g9) ?_⟩;rintro v5 w5 B;obtain⟨s,hR⟩:∃s,dd c self=s:=⟨_,rfl⟩
 unfold AV at B;rw [hR]at B;obtain⟨z,B⟩:=B;have c2:=(S.then r).then z;have h4:=z.get (r.get h3 id) id;have p1:=z.get (r.get o5 id) id;have p2:∃e5:Option Addr,v5= .tuple #[.pointer e5,.int .i64 s.1]:=by
  rcases B with⟨-,h⟩|⟨C,p,F,h,-⟩
  ·exact⟨_,h⟩
  ·exact⟨_,by rw [h,C]⟩
 obtain⟨e5,rfl⟩:=p2;refine⟨_,_,rfl,ar (uj c N tn tc O P pc) h4 (PC.ok (uh (hd.ah c2)) ?_)⟩;rintro _ w6 ⟨a6,a7,a8,a9,b0,b1,G6,rfl,p3,p4,t⟩;refine bF (KG c a6 a7 a8 a9 b0 b1) ⟨rfl,PC.ok (yz l m (c2.then t) p3 (λa b=>(p4 a b).2) hs g8 g9) ?_⟩;rintro v7 w7 H;unfold AV at H;rw [hR]at H;obtain⟨I,H⟩:=H;have h5:=(c2.then t).then I;have p5:=I.get (t.get h4 id) id;have p6:=I.get (t.get p1 id) id;have p7:∃e6:Option Addr,v7= .tuple #[.pointer e6,.int .i64 s.1]:=by
  rcases H with⟨-,h⟩|⟨C,p,F,h,-⟩
  ·exact⟨_,h⟩
  ·exact⟨_,by rw [h,C]⟩
 obtain⟨e6,rfl⟩:=p7;refine⟨_,_,rfl,al.df (λh=>absurd rfl h) (λ_=>al.df (λ_=>Dw l m h5) (λC=>?_))⟩;obtain⟨-,p,F,h6,hA,hF,f3⟩:=B.resolve_left λh=>h.1 C;obtain⟨-,q,G,h7,hB,hG,f4⟩:=H.resolve_left λh=>h.1 C;obtain rfl:e5=some ⟨p,0,none⟩:=by simp at h6;exact h6.1
 obtain rfl:e6=some ⟨q,0,none⟩:=by simp at h7;exact h7.1
 have u7:=R.size;have u9:=S.size;have z4:=r.size;have v0:=c2.size;have z6:=t.size;have v1:w.heap.size+2=i.heap.size:=oM
 have h8:∀a,F a->i.heap.size<=a:=λa b=>by have:=hF a b;have:=o.size;omega
 have p8:∀a,G a->i.heap.size<=a:=λa b=>by have:=hG a b;have:=o.size;have:=z.size;omega
 have p9:gI w w7 p q F G c self c self s.2 s.2:=gI.made (w0:=w) (w:=i) l m R hA h8 ((o.then r).then z) (t.then I) hB (λa b=>by have:=hG a b;omega);have f5:s.2.fu.asked=[]:=by rw [<-hR];exact JY c self
 generalize v2:s.2=X0 at*;refine⟨λc3 T w'=>∃(n:Nat) (U GG:Nat->Prop) (f:bE),T=n/\n<=Q/\c3=Q-n/\gI w w' p q U GG c self c self f f/\ak (λa=>i.heap.size<=a) w7 w'/\(∀a,iu U GG a->i.heap.size<=a)/\f.S.l.length<=16777216+300*n/\f.fu.asked.length<=n,
  ⟨_,0,F,G,X0,rfl,Qj _,rfl,p9,ak.refl _,λa b=>b.elim (h8 a) (p8 a),oM,by rw [f5];exact Qj _⟩,?_⟩
 rintro c3 _ _ w8 ⟨n,U,GG,f,rfl,hj,rfl,d,J,u,v3,v4⟩;have kE:ak (λa=>i.heap.size<=a) w w8:=(ai.af h5).then J;have q0:=J.get p5 oM;have q4:=J.get p6 oM;refine al.dec (λv6=>?_) (λv8=>?_)
 ·have q5:=hl.af kE λa b h=>by have:=hE a b;omega
  obtain⟨a,v,b2,es,rfl,q6,i0,q7,i1,va,vn,vc,ea,en,ec,rfl,hv,he,c8⟩:=q5.vO (i:=n) oM;have u2:=hE a i0;have c9:=o8 b2 (QZ q7);refine⟨a,v,rfl,oM,oM,bq (es:=mi b2 va vn vc ea en ec) (k:=15) (RD _ _ _ _ _ _ _) rfl (λT ht=>by rw [Qx];exact i1 T ht) (PC.ok (As d.a d.ea c8 hv he c9 oM oM) ?_)⟩;rintro _ w9 ⟨F9,rfl,q8,A,i2⟩;have e7:=d.AL q8 A;have e8:∀a,E a->¬U a:=λa b g=>by have:=hE a b;have:=u a (.inl g);omega
  have u3:∀a,E a->¬GG a:=λa b g=>by have:=hE a b;have:=u a (.inr g);omega
  refine⟨_,rfl,a,v,rfl,oM,oM,bq (es:=mi b2 va vn vc ea en ec) (k:=15) (RD _ _ _ _ _ _ _) rfl (λT ht=>by rw [Qx];exact(A.af.cell (a:=⟨a,_,none⟩) q6 (e8 a i0)).trans (i1 T ht)) (PC.ok (As e7.b e7.eb c8 (hv.af A.af e8) (he.af A.af e8) c9 oM oM) ?_)⟩;rintro _ v9 ⟨i3,rfl,i4,b3,-⟩;have i5:=e7.RI i4 b3;have z8:=kE.size;have x0:i.heap.size<=w8.heap.size:=Xx o.size (Xx (r.then z).size (Xx (t.then I).size J.size));have q9:∀a,F9 a->i.heap.size<=a:=λa b=>(A.new a b).elim (λh=>u a (.inl h)) λh=>by omega
  have i6:∀a,i3 a->i.heap.size<=a:=λa b=>(b3.new a b).elim (λh=>u a (.inr h)) λh=>by have:=A.af.size;omega
  exact⟨_,rfl,_,oM,n+1,F9,i3,_,aq oM,oM,rfl,i5,(J.then (A.af.mono λa _ b=>u a (.inl b))).then (b3.af.mono λa _ b=>u a (.inr b)),λa b=>b.elim (q9 a) (i6 a),by rcases i2.evs with h|h<;>omega,by have:=i2.asked;omega⟩
 ·have x1:n=Q:=oM
  obtain⟨V,y,iz⟩:=Qi (x:=x) d.a.ok d.a.cl.1 d.a.cl.2 d.a.len;generalize hr:bI c self f x=j at V y iz;refine PC.ok (sX d.a oM) ?_;rintro _ x2 ⟨r0,W,x3,r3,rfl,d0,X,i7⟩;have r4:=d0.aC;have d1:=d.ah X;refine⟨_,_,_,rfl,PC.ok (Lb d1.a) ?_⟩;rintro _ x4 ⟨r5,i8,x5,r6,rfl,d2,Y,i9⟩;have r7:=d2.aC;have b5:=d1.ah Y;have d3:=Y.get (X.get q4 id) id;have j0:=Y.get (X.get q0 id) id;refine⟨_,_,_,rfl,ar (wB x) d3 (PC.ok (kJ b5.a b5.ea hx oM) ?_)⟩;rintro _ e9 ⟨j1,b6,d4,K⟩;rw [hr]at b6 d4;have d5:=b5.AL d4 K;have j2:=d.a.aC;have nF:∀a,a<i.heap.size->¬U a:=λa b g=>by have:=u a (.inl g);omega
  have j3:=K.af.get d3 (nF _ oM);have j4:=K.af.get j0 (nF _ oM);have j5:=(d0.ah Y).af K.af λa b g=>by have:=i7 a b;have:=j2 a g;omega
  have j6:=d2.af K.af λa b g=>by have:=i9 a b;have:=j2 a g;have:=X.size;omega
  have j7:=sP c self f x;rw [hr]at j7;have hY:j.2.2.S.l.length<=17000000:=by rcases j7.evs with h|h<;>omega
  obtain⟨L,hy⟩:∃L:pH,(if j.1≠0 then kQ j.1 else AY j.2.1)=L:=⟨_,rfl⟩
  rw [hy]at b6;have j8:L.code=j.1:=by
   rw [<-hy];split
   ·rfl
   ·rename_i h9;exact(Classical.not_not.1 h9).symm
  obtain⟨sa,sn,sc,xa,xn,xc,ra,rn,rc,-,rfl,-⟩:=b6;refine bF (Aq L sa sn sc xa xn xc ra rn rc) ⟨rfl,PA.mk λx6 r8 x7 r9=>az (iQ L sa sn sc xa xn xc ra rn rc) r9 rfl λs0 j9 x8 s3=>?_⟩;have Z:ai e9 s0:=r8.new j9 λa b=>.inr (by have b:a=e9.heap.size:=b;omega);have d6:=d5.ah Z;refine PC.ok (sX d6.a oM) ?_;rintro _ c4 ⟨k0,k8,x9,k9,rfl,d7,M,u4⟩;have b8:=d6.ah M;have l0:=M.get s3 id;have d8:=M.get (Z.get j3 id) id;have d9:=M.get (Z.get j4 id) id;have a2:Row f_ 96 c4 r3 r0 W f.S.l:=((j5.ah Z).ah M).row dC (by unfold aI;omega);have a0:Row f_ 96 c4 k9 k0 k8 j.2.2.S.l:=d7.row dC (by unfold aI;omega);have c6:Row aG 8 c4 r6 r5 i8 f.S.vec:=((j6.ah Z).ah M).row dC (by rw [aw.br];have:=d.a.cl.1.ok.n;unfold aI;omega);have a3:=a2.len;have e0:=a0.len;have l3:=c6.len;have o0:=d7.jD;have b9:=b8.ea.gr;refine⟨_,_,_,rfl,_,ae l0 rfl,al.df (λhc=>?_) (λhc=>?_)⟩
  ·have hS:=V (by rw [<-j8];exact hc)
   refine PC.ok (jQ a0 a2) ?_;rintro _ c5 ⟨rfl,k⟩;refine⟨_,rfl,al.dec (λ_=>⟨_,_,_,_,_,_,ae (k.get d9 id) rfl,ae (k.get d9 id) rfl,?_⟩) (λh=>absurd (by rw [hS]) h)⟩;have e2:=b8.ah k;refine PC.ok (GY e2.a e2.b rfl (by rw [hS]) (hd.af ((ai.af b9).then (ai.af k)) λa b h=>h)) ?_;rintro _ s4 ⟨rfl,f2⟩;exact⟨_,rfl,al.tt rfl (Dw l m ((b9.then k).then f2))⟩
  have g0:j.1=0:=by rw [<-j8];exact hc
  refine al.dJ (λs5=>?_) (λs5=>?_)
  ·obtain⟨s6,hS⟩:=y g0 oM
   refine⟨_,ae d8 rfl,al.df (λ_=>?_) (λh=>absurd h s6)⟩;refine PC.ok (jQ a0 a2) ?_;rintro _ c5 ⟨rfl,k⟩;exact⟨_,rfl,al.dec (λ_=>Dw l m (b9.then k)) (λh=>absurd (by rw [hS]) h)⟩
  obtain⟨e,g3,l4,s7,f6⟩:=iz g0 oM;obtain⟨y0,y1⟩:=d.a.ok.Oi;obtain⟨y3,y4,y5⟩:=d.a.ok.bR;have y6:=d.a.cl.2;have y7:i8=f.S.n:=by rw [l3,aw.br]
  have c0:L.id=aR e:=by rw [<-hy,if_neg (by rw [g0];simp),l4]
  intro c5 s8;have k:ai c4 c5:=s8.af;have f7:k8=W+1:=by rw [e0,g3,QX,a3];rfl
  refine al.dec (λh=>oM) (λ_=>al.df (λh=>absurd (by rw [wrap_i64 (by unfold aK;omega),f7];omega) h) (λ_=>⟨oM,oM,?_⟩));have s9:Row f_ 96 c5 k9 k0 W f.S.l:=by
   have:=(a0.ah k).take (m:=W) oM;rw [g3,a3,List.take_left]at this;rw [a3];exact this
  rw [Qx];refine PC.ok (jQ s9 (a2.ah k)) ?_;rintro _ s4 ⟨rfl,f2⟩;refine⟨_,rfl,al.not (al.dec (λ_=>?_) (λh=>absurd rfl h))⟩;have a1:=k.then f2;have c1:=a1.get l0 id;obtain⟨f8,o1,e1,y8,t0,-,-,g4,l5,q1,q2,q3,rfl,-,-⟩:=(a0.ah a1).vO (i:=W) oM;have t1:e1=e:=by
   rw [g3,a3,X8 (Q4 _)]at g4;simp at g4;exact g4.symm
  subst t1;refine⟨f8,o1,t0,oM,oM,_,_,l5 0 dC,l5 1 dC,_,_,ae c1 rfl,ae c1 rfl,_,λw'=>Ao,al.mk (λh=>?_) (λ_=>?_)⟩
  ·rw [c0]at h;simp [aR]at h
  obtain⟨v,ho⟩:∃v:Nat,self=v:=⟨self.toNat,oM⟩
  obtain⟨f9,o2,c7,t2,hz,-,t3⟩:=(c6.ah a1).kp (i:=v) oM;have t4:c7=(f.S.s_ v:Int):=by
   rw [aw.jv _ oM]at hz;exact(XJ hz).symm
  have y9:=f.S.EG v;refine⟨_,_,ae c1 rfl,ae c1 rfl,f9,o2,t2,oM,oM,c7,by rw [ho,Qx];exact t3,_,λw'=>Ao,al.mk (λh=>?_) (λ_=>?_)⟩
  ·rw [c0,s7,t4,ho,Qx,wrap_i64 (by unfold aK;omega)]at h;simp at h
  have a4:=b8.ah a1;have e3:=a1.get d8 id;refine ar (wB x) e3 (PC.ok (kJ a4.a a4.ea hx oM) ?_);rintro _ l6 ⟨z0,e4,l7,b4⟩;have l8:=a4.AL l7 b4;have t5:=a4.a.aC;have l9:∀a,j1 a->i.heap.size<=a:=λa b=>(K.new a b).elim (λh=>u a (.inl h)) λh=>by have:=kE.size;have:=X.size;have:=Y.size;have:=J.size;have:=o.size;have:=(r.then z).size;have:=(t.then I).size;omega
  have m0:=b4.af.get e3 (λg=>by have:=l9 _ g;omega);have m1:¬j1 e9.heap.size:=λg=>by have:=d5.a.aC _ g;omega
  have t6:=b4.af.get c1 m1;obtain⟨y2,g5⟩:∃y2:pH,(if(bI c self j.2.2 x).1≠0 then kQ (bI c self j.2.2 x).1 else AY (bI c self j.2.2 x).2.1)=y2:=⟨_,rfl⟩
  rw [g5]at e4;obtain⟨m2,m3,m4,m5,m6,m7,m8,m9,n0,-,rfl,-⟩:=e4;refine bF (Aq y2 m2 m3 m4 m5 m6 m7 m8 m9 n0) ⟨rfl,PA.mk λz2 t7 z3 t8=>az (iQ y2 m2 m3 m4 m5 m6 m7 m8 m9 n0) t8 rfl λt9 n1 z5 g6=>?_⟩;have g7:ai l6 t9:=t7.new n1 λa b=>.inr (by have b:a=l6.heap.size:=b;omega);have a5:=l8.ah g7;have n2:=g7.get m0 id;have f0:=g7.get t6 id;refine⟨_,ae n2 rfl,al.df (λn3=>?_) (λ_=>Dw l m a5.ea.gr)⟩;have u0:=f6 n3;rw [u0]at g5 a5;have n4:y2=AY (aR e1):=by rw [<-g5];rfl
  subst n4;refine⟨_,ae g6 rfl,al.df (λh=>absurd rfl h) (λ_=>⟨_,_,ae g6 rfl,ae g6 rfl,_,_,ae f0 rfl,ae f0 rfl,aE.mk Ao ⟨_,rfl,al.mk (λh=>?_) (λ_=>?_)⟩⟩)⟩
  ·rw [c0]at h;simp at h
  refine PC.ok (sX a5.a (by show j.2.2.S.l.length<=_;omega)) ?_;rintro _ z7 ⟨z9,A0,A1,A2,rfl,n8,u1,u5⟩;have n9:=n8.len dC;refine⟨_,_,_,rfl,al.df (λh=>absurd (by rw [n9,e0]) h) (λ_=>Dw l m (a5.ea.gr.then u1))⟩
end
end Go.Proofs.YthnilpgpacdmnaaGreatDoor

import Derived.Test.YtfchlbaidamodaaGreatDoorKd30
import Derived.Test.YtfchlbaidamodaaGreatDoorYdQue
import Derived.Test.YtfchlbaidamodaaGreatDoorKd33
set_option linter.all false
set_option maxRecDepth 20000
namespace Go.Proofs.YtfchlbaidamodaaGreatDoor
open Go.ax
def t_ (d:cz) (e:Int) (g:cz) (h j k:Int):Nat->bw->bw->List dz->Option (bw×bw)
 |0,a,b,i=>if i=[]then some (a,b)else none
 |f+1,a,b,[]=>some (a,b)
 |f+1,a,b,c::i=>
  if c.qF=k then
   (if(bA g h b c).2.1≠0 then none else t_ d e g h j k f a (bA g h b c).2.2 (i++(bA g h b c).1))
  else if c.qF≠j then none else
   (if(bA d e a c).2.1≠0 then none else t_ d e g h j k f (bA d e a c).2.2 b (i++(bA d e a c).1))
abbrev mD (a:IC):List Value:=cD a.m a.va a.vn a.vc a.ea a.en a.ec
def fM (b:World) (e:Nat->Prop) (f:Nat) (c:Option Addr) (g h:Nat) (i:List dz):Prop:=
 ∃(d:List IC) (D:Nat->Prop),MH b 67 5 c g h (d.flatMap mD)/\d.map (·.m)=i/\(∀a∈d,a.In b D)/\(∀a,D a->a<b.heap.size/\aI c≠some a/\¬e a/\f<=a)/\∀a,aI c=some a->¬e a/\f<=a
theorem OA {c:World} {D:Nat->Prop}:∀{a:List IC} {cs:List Value},bT UG c D a cs->cs=a.flatMap mD
 |[],_,d=>by cases d;rfl
 |b::a,_,⟨h,i,e,⟨f,_⟩,g⟩=>by rw [e,f,OA g];rfl
theorem Wj:∀(c:List IC),∀a∈c.flatMap mD,a.oneCell'=true:=λc a b=>by
 obtain⟨d,-,b⟩:=List.mem_flatMap.1 b;exact UG.one (D:=λ_=>False) (w:=default) ⟨rfl,trivial⟩ a b
theorem Wl (a:List IC):(a.flatMap mD).length=a.length*5:=by
 induction a with
 |nil=>rfl
 |cons c a b=>rw [List.flatMap_cons,QX,b,Xq];show 5+_=_;omega
variable{f:Nat->Prop}{d3:bw}
section
variable {w w' w0 w1 w2:World} {p q:Nat} {F G Z:Nat->Prop} {cA cB:cz} {sA sB i k:Int} {A B:bw} {a:Option Addr} {n c:Nat} {ms:List dz} {v:Value}
theorem fx.zB (i:fx w Z ms v w') {Y:Nat->Prop} (g:∀b,Y b->Z b\/b<w.heap.size):∃a n c,v= .slice a n c/\fM w' Y w.heap.size a n c ms:=by
 obtain⟨a,n,c,j,D,rfl,k,l,m,e,h⟩:=i;obtain⟨cs,q,o,p,r⟩:=k.body;have:=OA p;subst this;refine⟨a,n,c,rfl,j,D,o.Zm,l,m,λb d=>⟨(e b d).2.1,(e b d).2.2.1,λf=>?_,(e b d).1⟩,λb d=>⟨λf=>?_,(h b d).1⟩⟩
 ·have:=e b d
  exact(g b f).elim this.2.2.2 oM
 ·have:=h b d
  exact(g b f).elim this.2 oM
theorem fM.len {b:Nat} (d:fM w Z b a n c ms):n=ms.length:=by
 obtain⟨g,D,e,f,-⟩:=d;have:=e.len;rw [Wl]at this;rw [<-f,Q8];omega
theorem fM.lt {d:Nat} (e:fM w Z d a n c ms):∀b,aI a=some b->b<w.heap.size:=by
 obtain⟨g,D,f,-⟩:=e;exact f.lt
theorem fM.keep {i:Nat} (l:fM w Z i a n c ms) (e:aj f w w') (j:∀b,f b->Z b):fM w' Z i a n c ms:=by
 obtain⟨m,D,o,p,q,g,k⟩:=l;exact⟨m,D,o.keep e λb d h=>(k b d).1 (j b h),p,λb d=>(q b d).keep e λb d h=>(g b d).2.2.1 (j b h),λb d=>⟨Qk (g b d).1 e.size,(g b d).2⟩,k⟩
theorem fM.less {h i:Nat} (o:fM w Z h a n c ms) (j:∀b,f b->Z b\/w.heap.size<=b) (k:i<=h):fM w f i a n c ms:=by
 obtain⟨p,D,l,q,r,e,m⟩:=o;exact⟨p,D,l,q,r,λb d=>⟨(e b d).1,(e b d).2.1,λg=>(j b g).elim (e b d).2.2.1 (by have:=(e b d).1;omega),Xx k (e b d).2.2.2⟩,λb d=>⟨λg=>(j b g).elim (m b d).1 (by have:=l.lt b d;omega),Xx k (m b d).2⟩⟩
theorem fM.pop {o:Nat} {g:dz} (p:fM w Z o a n c (g::ms)):∃h i q r v s t x D,a=some ⟨h,i,none⟩/\(∀e,e<5->w.cell? ⟨h,i+e,none⟩=(cD g q r v s t x)[e]?)/\Row aP 8 w D q r g.vec/\Row fZ 96 w D s t g.events/\(∀b,D b->b<w.heap.size/\¬Z b)/\fM w Z o (cM a 1 c 5) (n-1) (c-1) ms:=by
 have y:=p.len;obtain⟨f,D,j,z,k,m,A⟩:=p;rw [Xq]at y
 match f,j,z,k with
 |b::f,j,l,k=>
  simp only [QY,List.cons.injEq]at l;obtain⟨rfl,l⟩:=l;obtain⟨h,i,rfl,B⟩:=j.cell oM;have u:=k b (QV ..);refine⟨h,i,b.va,b.vn,b.vc,b.ea,b.en,b.ec,D,rfl,λe C=>?_,u.1,u.2,λb d=>⟨(m b d).1,(m b d).2.2.1⟩,f,D,?_,l,λE F=>k E (QJ _ F),λb d=>by rw [Kg];exact m b d,λb d=>by rw [Kg]at d;exact A b d⟩
  ·rw [B e oM,List.flatMap_cons,XW (show e<5 from C)]
  ·have:=j.tail oM
   rw [List.flatMap_cons,show(mD b++f.flatMap mD).drop 5=f.flatMap mD from List.drop_left' rfl]at this;exact this
theorem fM.app {r M:TypeId} {s h:Nat} (A:fM w Z s a n c ms) (N:jP ZX r 67 5 72) {t:Option Addr} {f u:Nat} {v:List dz} (B:fM w Z h t f u v) (C:∀d,aI a=some d->d<h) (a4:s<=h) (a5:h<=w.heap.size) (hl:ms.length+v.length<=100000) (O:∀d,Z d->d<w.heap.size) {E P:Value->World->Prop}
  (x:∀i j w',fM w' Z s i (n+f) j (ms++v)->aj (λk=>aI a=some k) w w'->E (.slice i (n+f) j) w'):
  aH ZX (Builtin.append_ #[r,r] M #[.slice a n c,.slice t f u]) w E P:=by
 have hn:=A.len;have hm:=B.len;obtain⟨Q,D,R,S,T,F,I⟩:=A;obtain⟨y,U,l,V,W,J,r5⟩:=B;have X:t=none->f=0/\u=0:=λe=>by
  rcases l.body with⟨_,Y,h3⟩|⟨a0,a1,a2,g,_⟩
  ·exact⟨Y,h3⟩
  ·rw [e]at g;cases g
 refine R.app N (news:=y.flatMap mD) l.len X (λp hp k a6 K=>?_) (Wj y) (by unfold aQ;omega) (by unfold maxLen;omega) λi j w' z m o=>?_
 ·subst hp
  have a3:k<f*5:=by
   rw [<-l.len];exact(Qv.1 K).1
  obtain⟨a0,a1,g,hc⟩:=l.cell oM
  cases g
  rw [Addr.add_lit];exact(hc k a3).trans K
 ·rw [<-List.flatMap_append]at z
  have a7:=m.size;have a8:=z.lt;refine x i j w' ⟨Q++y,λd=>D d\/U d,z,by rw [Q3,S,V],λd b=>?_,λd b=>?_,λd b=>⟨λL=>?_,?_⟩⟩ m
  ·rcases Q6.1 b with b|b
   ·exact((T d b).keep m λd b=>(F d b).2.1).mono λd b=>.inl b
   ·exact((W d b).keep m λd b g=>by have:=C d g;have:=(J d b).2.2.2;omega).mono λd b=>.inr b
  ·rcases b with b|b
   ·have q:=F d b
    refine⟨oM,λe=>?_,q.2.2.1,oM⟩;rcases o with H|H
    ·rw [H]at e;exact q.2.1 e
    ·rw [H]at e;cases e;omega
   ·have q:=J d b
    refine⟨oM,λe=>?_,q.2.2.1,oM⟩;rcases o with H|H
    ·rw [H]at e;have:=C d e;omega
    ·rw [H]at e;cases e;omega
  ·rcases o with H|H
   ·rw [H]at b;exact(I d b).1 L
   ·rw [H]at b;cases b;have:=O _ L;omega
  ·rcases o with H|H
   ·rw [H]at b;exact(I d b).2
   ·rw [H]at b;cases b;omega
structure gw (w0 w:World) (p q:Nat) (F G:Nat->Prop) (cA:cz) (sA:Int) (cB:cz) (sB:Int) (A B:bw):Prop where
 a:bP w p F cA sA A
 b:bP w q G cB sB B
 ea:Env w0 w F
 eb:Env w0 w G
 apart:∀b,F b->¬G b
theorem gw.af (a:gw w0 w p q F G cA sA cB sB A B) (b:ai w w'):gw w0 w' p q F G cA sA cB sB A B:=⟨a.a.af b,a.b.af b,a.ea.af b,a.eb.af b,a.apart⟩
theorem gw.keep (b:gw w0 w p q F G cA sA cB sB A B) (d:aj f w w') (e:∀a,F a\/G a->¬f a) (g:∀a,f a->w0.heap.size<=a):gw w0 w' p q F G cA sA cB sB A B:=
 ⟨b.a.keep d λa c=>e a (.inl c),b.b.keep d λa c=>e a (.inr c),⟨b.ea.oH,b.ea.laid,b.ea.gr.new d λa c=>.inr (g a c),b.ea.aF⟩,⟨b.eb.oH,b.eb.laid,b.eb.gr.new d λa c=>.inr (g a c),b.eb.aF⟩,b.apart⟩
theorem gw.zD (a:gw w0 w p q F G cA sA cB sB A B) (h:bP w' p f cA sA d3) (d:de F w f w'):gw w0 w' p q f G cA sA cB sB d3 B:=
 ⟨h,a.b.keep d.keep λb c e=>a.apart b e c,a.ea.Ec d,⟨a.eb.oH,a.eb.laid,a.ea.gr.new d.keep λb c=>.inr (a.ea.aF b c),a.eb.aF⟩,λb c g=>(d.new b c).elim (λe=>a.apart b e g) λi=>by have:=a.b.aF b g;omega⟩
theorem gw.swap (a:gw w0 w p q F G cA sA cB sB A B):gw w0 w q p G F cB sB cA sA B A:=⟨a.b,a.a,a.eb,a.ea,λb c d=>a.apart b d c⟩
theorem gw.OB (a:gw w0 w p q F G cA sA cB sB A B) (b:bP w' q f cB sB d3) (c:de G w f w'):gw w0 w' p q F f cA sA cB sB A d3:=(a.swap.zD b c).swap
abbrev jJ (F G:Nat->Prop):Nat->Prop:=λa=>F a\/G a
theorem _root_.Go.ax.de.left (c:de F w f w'):de (jJ F G) w (jJ f G) w':=⟨c.keep.mono λd _ a=>.inl a,λd a=>a.elim (λb=>(c.new d b).imp .inl id) λb=>.inl (.inr b)⟩
theorem _root_.Go.ax.de.right (c:de G w f w'):de (jJ F G) w (jJ F f) w':=⟨c.keep.mono λd _ a=>.inr a,λd a=>a.elim (λb=>.inl (.inl b)) λb=>(c.new d b).imp .inr id⟩
end
theorem Zu:jP ZX 63 67 5 72:=⟨kR,kR,dC⟩
theorem MI (b:aq) (a:Int) (c:dz) (d:Int):(mE b a c d).length<=2:=by
 unfold mE;split
 ·simp
 dsimp only;split<;>split<;>simp [List.isEmpty]
theorem zF (b:cz) (a:Int) (c:bw) (d:dz):(bA b a c d).1.length<=2:=by
 unfold bA;split
 ·simp
 dsimp only;split
 ·simp
 split
 ·simp
 split
 ·unfold ia
  dsimp only;split
  ·simp
  split<;>simp
 split
 ·exact MI _ _ _ _
 split<;>simp
section
variable {w w' w0 w1 w2:World} {p q:Nat} {F G Z:Nat->Prop} {cA cB:cz} {sA sB i k:Int} {A B:bw}
theorem MJ (b:gw w0 w p q F G cA sA cB sB A B) (hk:aN k) {most:Nat} (g0:most<=1000) (hA:A.S.l.length<=17000000) (hB:B.S.l.length<=17000000) (h1:(gP cA sA A k 0).1.length=1) {I J:bw} (hm:t_ cA sA cB sB i k most (gP cA sA A k 0).2 B (gP cA sA A k 0).1=some (I,J)):
  Calls ZX 16 #[.pointer (some ⟨p,0,none⟩),.pointer (some ⟨q,0,none⟩),XG i,XG k,XG (most:Int)] w (Ok λK w'=>K= .bool true/\∃P Q,gw w0 w' p q P Q cA sA cB sB I J/\de (jJ F G) w (jJ P Q) w'):=by
 refine Hl (PC.ok (wO b.a hk) ?_);rintro _ w7 ⟨F7,T,d7,b6⟩;have d8:=b.zD d7 b6;have c8:=b.a.aF;have b8:=b.b.aF;obtain⟨g1,n7,g2,rfl,U⟩:=T.zB (Y:=jJ F7 G) λa b=>b.imp id λh=>b8 a h;have g3:=U.len;have d9:=CQ cA sA A k 0;refine⟨_,_,_,rfl,al.dw (λe0=>absurd oM e0) (λ_=>?_)⟩;refine⟨λb7 fa V r b1 w'=>∃(d:Nat) (f g:Nat->Prop) (l m:bw) (e:List dz),b1=d/\d<=most/\b7=most-d/\gw w0 w' p q f g cA sA cB sB l m/\de (jJ F G) w (jJ f g) w'/\fM w' (jJ f g) w.heap.size fa V r e/\e.length<=1+2*d/\
   t_ cA sA cB sB i k (most-d) l m e=some (I,J)/\l.S.l.length<=17000300+300*d/\m.S.l.length<=17000300+300*d,
  ⟨_,0,F7,G,_,B,_,rfl,Qj _,rfl,d8,b6.left,U.less (λa b=>.inl b) (Q4 _),oM,hm,by rcases d9.evs with h|h<;>omega,oM⟩,?_⟩
 rintro b7 fa V r _ _ b9 ⟨d,f,g,l,m,e,rfl,hj,rfl,W,a4,X,b2,c,g4,g5⟩;have L:=X.len;have c8:=W.a.aF;have b8:=W.b.aF;have C:∀{w':World} {f g:Nat->Prop} {Y:Nat} {e:List dz} {l m:bw},gw w0 w' p q f g cA sA cB sB l m->de (jJ F G) w (jJ f g) w'->Y=e.length->e=[]->some (l,m)=some (I,J)->
   Ok (λK w'=>K= .bool true/\∃P Q,gw w0 w' p q P Q cA sA cB sB I J/\de (jJ F G) w (jJ P Q) w') (.returned (.bool ((Y:Int)==0))) w':=λb e1 hn c0 Z=>by
  cases Z
  subst c0;subst hn;exact Ok.mk ⟨rfl,_,_,b,e1⟩
 refine al.dec (λc9=>?_) (λg6=>?_)
 rotate_left
 ·have:most-d=0:=oM
  rw [this]at c;unfold t_ at c;split at c
  ·rename_i c0;exact C W a4 L c0 c
  ·cases c
 obtain⟨a5,s⟩:∃a5,most-d=a5+1:=⟨most-d-1,oM⟩
 rw [s]at c
 match e,X,L,b2,c with
 |[],X,L,b2,c=>exact al.dec (λh0=>by simp at L;omega) (λ_=>C W a4 L rfl c)
 |x::e,X,L,b2,c=>
  rw [Xq]at L b2;refine al.dec (λ_=>?_) (λh0=>oM);obtain⟨a0,a1,va,vn,vc,ea,en,ec,D,rfl,hc,hv,Z,hD,e2⟩:=X.pop;refine⟨a0,a1,rfl,oM,oM,br (es:=cD x va vn vc ea en ec) (k:=5) (j_ _ _ _ _ _ _ _) rfl (λb1 ht=>hc b1 ht) (PA.mk λg7 e3 g8 e4=>aD (j_ x va vn vc ea en ec) e4 rfl λM e5 g9 c1=>⟨oM,oM,?_⟩)⟩;have R:ai b9 M:=e3.new e5 λa b=>.inr (by have b:a=b9.heap.size:=b;omega);have h6:=R.size;have n:=W.af R;have a7:fM M (jJ f g) w.heap.size (cM (some ⟨a0,a1,none⟩) 1 r 5) (V-1) (r-1) e:=e2.keep R λa b=>b.elim;have c2:de (jJ F G) w (jJ f g) M:=⟨a4.keep.af R,a4.new⟩
  have e6:=b.ea.gr.size;have a2:∀{o:World} {E H:Nat->Prop} {a6 a8:bw} {ms:List dz} {K:Value},gw w0 o p q E H cA sA cB sB a6 a8->de (jJ f g) M (jJ E H) o->(∃t u v,K= .slice t u v/\fM o (jJ E H) M.heap.size t u v ms)->ms.length<=2->
    t_ cA sA cB sB i k a5 a6 a8 (e++ms)=some (I,J)->a6.S.l.length<=17000300+300*(d+1)->a8.S.l.length<=17000300+300*(d+1)->o.heap[b9.heap.size]? =some (.cells (cD x va vn vc ea en ec).toArray 67 (0,0))/\∃t u v,K= .slice t u v/\
    ∀ε:Value->World->Prop,aH ZX (Builtin.append_ #[63,63] 63 #[.slice (cM (some ⟨a0,a1,none⟩) (Int.toNat 1) r 5) (V-Int.toNat 1) (r-Int.toNat 1),.slice t u v]) o (λe7 b3=>∃(c7:Option Addr) (Y d0:Nat),e7= .slice c7 Y d0/\∃d1,d1<most-d/\
     ∃(N:Nat) (f g:Nat->Prop) (l m:bw) (e:List dz),IntKind.wrap .i64 ((d:Int)+1)=N/\N<=most/\d1=most-N/\gw w0 b3 p q f g cA sA cB sB l m/\de (jJ F G) w (jJ f g) b3/\fM b3 (jJ f g) w.heap.size c7 Y d0 e/\e.length<=1+2*N/\
      t_ cA sA cB sB i k (most-N) l m e=some (I,J)/\l.S.l.length<=17000300+300*N/\m.S.l.length<=17000300+300*N) ε:=λ{o E H a6 a8 ms K} c3 y e8 h7 e9 f0 f1=>by
   refine⟨y.keep.get c1 λh=>h.elim (λh=>by have:=c8 _ h;omega) λh=>by have:=b8 _ h;omega,?_⟩;obtain⟨t,u,v,rfl,f2⟩:=e8;refine⟨t,u,v,rfl,λε=>?_⟩;have d2:fM o (jJ E H) w.heap.size (cM (some ⟨a0,a1,none⟩) 1 r 5) (V-1) (r-1) e:=by
    obtain⟨f3,D,h1,h2,h3,h4,h5⟩:=a7.keep y.keep λa b=>b;have c9:=a7.lt;obtain⟨L',D',f4,f5,f6,S,c4⟩:=a7;refine⟨L',D',f4.keep y.keep λa b=>(c4 a b).1,f5,λa b=>(f6 a b).keep y.keep λa b=>(S a b).2.2.1,λa b=>⟨Qk (S a b).1 y.keep.size,(S a b).2.1,λhz=>(y.new a hz).elim (S a b).2.2.1 (by have:=(S a b).1;omega),(S a b).2.2.2⟩,λa b=>⟨λhz=>(y.new a hz).elim (c4 a b).1 (by have:=c9 a b;omega),(c4 a b).2⟩⟩
   have f7:∀a,jJ E H a->a<o.heap.size:=λa b=>b.elim (c3.a.aF a) (c3.b.aF a);refine fM.app d2 Zu f2 (λa b=>a7.lt a b) c2.keep.size y.keep.size oM f7 λa' c' b3 f8 d3=>?_;have b4:∀a,aI (cM (some ⟨a0,a1,none⟩) 1 r 5)=some a->¬jJ E H a/\w.heap.size<=a:=λa b=>by
    obtain⟨f3,D,h1,h2,h3,h4,h5⟩:=d2;exact h5 a b
   have f9:=c3.keep d3 (λa b Z=>(b4 a Z).1 b) λa b=>by have:=(b4 a b).2;have:=e6;omega
   refine⟨_,_,_,rfl,_,oM,d+1,E,H,a6,a8,e++ms,an oM,oM,rfl,f9,?_,f8,by rw [QX];omega,by rw [show most-(d+1)=a5 by omega];exact e9,f0,f1⟩;have h9:=c2.trans y;exact⟨h9.keep.new d3 λa b=>.inr (b4 a b).2,h9.new⟩
  refine⟨λd4 w'=>d4=(if x.qF=k then some ⟨q,0,none⟩else some ⟨p,0,none⟩)/\M=w',⟨x.qF,ae c1 rfl,al.dX (λh=>⟨by rw [if_pos h],rfl⟩) (λh=>⟨by rw [if_neg h],rfl⟩)⟩,?_⟩;rintro d4 _ _ ⟨rfl,rfl⟩;refine aw (j_ x va vn vc ea en ec) c1 ?_;have d5:=hv.af R;have d6:=Z.af R;have a9:∀a,D a->a<M.heap.size:=λa b=>by have:=(hD a b).1;omega
  unfold t_ at c
  by_cases b0:x.qF=k
  ·rw [if_pos b0]
   rw [if_pos b0]at c;split at c
   ·cases c
   rename_i O;have O:(bA cB sB m x).2.1=0:=Classical.not_not.1 O;refine PC.ok (kf n.b n.eb d5 (λa b=>⟨a9 a b,λs=>(hD a b).2 (.inr s)⟩) d6 (λa b=>⟨a9 a b,λs=>(hD a b).2 (.inr s)⟩) oM) ?_;rintro _ o ⟨v1,Q,rfl,T,b5,a3⟩;have c5:=mW cB sB m x n.b.waits n.b.ok.vf.2;rw [O];obtain⟨z,t,u,v,rfl,j⟩:=a2 (n.OB b5 a3) a3.right (T.zB λa b=>b.elim (λh=>.inr (by have:=n.a.aF a h;omega)) .inl) (zF ..) c oM (by rcases c5.evs with h|h<;>omega);refine⟨_,_,_,_,rfl,al.dw (λh=>absurd rfl h) (λ_=>⟨_,ae z rfl,al.dw (λh=>⟨_,ae z rfl,al.dw (λh2=>absurd b0 h2) (λ_=>j _)⟩) (λ_=>j _)⟩)⟩
  ·rw [if_neg b0]
   rw [if_neg b0]at c;split at c
   ·cases c
   rename_i c6;have c6:x.qF=i:=Classical.not_not.1 c6;split at c
   ·cases c
   rename_i O;have O:(bA cA sA l x).2.1=0:=Classical.not_not.1 O;refine PC.ok (kf n.a n.ea d5 (λa b=>⟨a9 a b,λs=>(hD a b).2 (.inl s)⟩) d6 (λa b=>⟨a9 a b,λs=>(hD a b).2 (.inl s)⟩) oM) ?_;rintro _ o ⟨v1,P,rfl,T,b5,a3⟩;have c5:=mW cA sA l x n.a.waits n.a.ok.vf.2;rw [O];obtain⟨z,t,u,v,rfl,j⟩:=a2 (n.zD b5 a3) a3.left (T.zB λa b=>b.elim .inl (λh=>.inr (by have:=n.b.aF a h;omega))) (zF ..) c (by rcases c5.evs with h|h<;>omega) oM;refine⟨_,_,_,_,rfl,al.dw (λh=>absurd rfl h) (λ_=>⟨_,ae z rfl,al.dw (λh=>absurd c6 h) (λ_=>j _)⟩)⟩
end
variable{q:Array Value}{w:ByteArray}{e m:Int}{a1 f2:List PanicEntry->World->Prop}{a c:Nat}{J:Nat×Nat}{j:Type}{g:TypeId}{o:Value->World->Prop}{b:World}{A:aq}{W:bQ}{e1:cz}
theorem aq.Cl.step (b:A.Cl) {k:Nat} (c:k<A.l.length):aq.add ⟨A.n,A.l.take k⟩ A.l[k]=(0,⟨A.n,A.l.take (k+1)⟩):=by
 have d:=(b.take (k:=k) oM).1;have g:=(b.take (k:=k+1) oM).1;rw [Qw,Qq c,Option.toList_some,aq.nq,d]at g;rcases aq.gg ⟨A.n,A.l.take k⟩ A.l[k]with⟨-,a⟩|⟨a,-⟩
 ·rw [a]at g
  have:=congrArg (λe:aq=>e.l.length) g;simp at this;omega
 ·rw [a]at g
  simp only at g;rw [a,g,Qw,Qq c,Option.toList_some]
theorem Kl (b:A.Cl) (d:A.n=e1.bl.toNat) (e:a+c<=A.l.length):dZ e1 ⟨A.n,A.l.take a⟩ ((A.l.drop a).take c)=⟨A.n,A.l.take (a+c)⟩:=by
 rw [<-(b.take e).1];unfold dZ;rw [<-d];dsimp only;rw [List.take_add]
theorem Ig {b:Type} {c:b->Int}:∀{a:List b},(∀x∈a,c x=0)->cO c a=0
 |[],_=>rfl
 |x::a,d=>by
  unfold cO
  rw [d x (QV ..),Ig λe f=>d e (QJ _ f)];rfl
def ou:aR:=⟨[[⟨1,1,true,[]⟩,⟨2,3,false,[]⟩,⟨3,2,false,[]⟩,⟨4,2,false,[⟨0,1,0,2⟩,⟨1,0,-1,0⟩,⟨0,2,-1,0⟩]⟩,⟨2,2,false,[]⟩,⟨1,1,false,[]⟩]],[⟨0,0,1,0,2⟩,⟨0,2,2,0,1⟩,⟨0,5,3,4,4⟩]⟩
def cf (a:Int):cz:=⟨a,131072,400,3,20,5,4,0,ou⟩
def Tx:Bool:=
 (bj (cf 2) 0).1==0&&((bj (cf 2) 1).1==0&&((cm (cf 2) 0 (bj (cf 2) 0).2 ⟨0,0,0,1,3,-1,0⟩).1==0&&((cm (cf 2) 0 (bj (cf 2) 0).2 ⟨0,0,0,1,3,-1,0⟩).2.1==((0:Int),(1:Int))&&((ET ou (bj (cf 2) 1).2.S.l 0 0).code==14&&((gP (cf 2) 1 (bj (cf 2) 1).2 0 0).1.length==1&&
  (match t_ (cf 2) 1 (cf 2) 0 1 0 100 (gP (cf 2) 1 (bj (cf 2) 1).2 0 0).2 (cm (cf 2) 0 (bj (cf 2) 0).2 ⟨0,0,0,1,3,-1,0⟩).2.2 (gP (cf 2) 1 (bj (cf 2) 1).2 0 0).1 with
  |none=>false
  |some (a,b)=>(ET ou a.S.l 0 0).code==0&&((ET ou a.S.l 0 0).st.cells.length==6&&(((ET ou a.S.l 0 0).st.cells.getD 0 ⟨0,[]⟩).n==3&&((ET ou a.S.l 0 0).st.version==1&&a.S.vec==[1,0])))))))))
theorem NL:Tx=true:=by decide+kernel
theorem Row.Bi {c:kM j} {bytes a:Nat} {D:Nat->Prop} (f:b.heap[a]? =some (.cells q g J)) {xs:List j} (m:bT c b D xs q.toList) (r:0<c.k) (d:xs.length*bytes<=aQ):Row c bytes b (λe=>e=a\/D e) (some ⟨a,0,none⟩) xs.length xs:=
 ⟨rfl,d,λs t n=>by
  obtain⟨h,o,i⟩:=m.at n;have u:=c.len i;refine⟨a,0,h,rfl,aC f,.inl rfl,λk p=>?_,c.mono i λe d=>.inr d⟩;have l:=o k p;rw [Qq (show k<h.length by omega)]at l⊢;rw [Xz];exact ae f (by simpa using l)⟩
theorem i10 (a:(decide (-1000000<=e)&&decide (e<=1000000))=true):aN e:=by
 simp only [QK,decide_eq_true_eq]at a;unfold aN;omega
section
variable {w w' w0:World}
theorem NM:Calls ZX 27 #[] w (Ok λv w'=>∃o tn x p q y G,v= .agg #[.slice o tn x,.slice p q y]/\bh w' G ou o tn p q/\(∀a,G a->w.heap.size<=a/\a<w'.heap.size)/\ai w w'):=by
 refine Hn (PA.mk λd z V A=>PA.mk λf B W C=>PA.mk λh r X E=>PA.mk λi m Y F=>PA.mk λs j Z H=>?_);have t:=((B.then r).then m).then j;refine PS.mk (t.get A id) sM λw6 I s6 J=>PS.mk J sM λe K s7 u=>⟨_,_,_,_,_,_,ae u rfl,ae u rfl,?_⟩
 have g:aj (λa=>a=w.heap.size) s e:=I.then K;have L:=g.get (j.get (m.get (r.get C id) id) id) (λb=>by have b:d.heap.size=w.heap.size:=b;omega);have M:=g.get (j.get (m.get E id) id) (λb=>by have b:f.heap.size=w.heap.size:=b;omega);have N:=g.get (j.get F id) (λb=>by have b:h.heap.size=w.heap.size:=b;omega);have O:=g.get H (λb=>by have b:i.heap.size=w.heap.size:=b;omega);have P:Row gC 32 e (λa=>a=d.heap.size\/False) (some ⟨d.heap.size,0,none⟩) 3 [⟨0,1,0,2⟩,⟨1,0,-1,0⟩,⟨0,2,-1,0⟩]:=
  Row.Bi (c:=gC) (xs:=[⟨0,1,0,2⟩,⟨1,0,-1,0⟩,⟨0,2,-1,0⟩]) (D:=λ_=>False) L ⟨_,_,rfl,⟨rfl,i10 rfl,i10 rfl,i10 rfl,i10 rfl⟩,_,_,rfl,⟨rfl,i10 rfl,i10 rfl,i10 rfl,i10 rfl⟩,_,_,rfl,⟨rfl,i10 rfl,i10 rfl,i10 rfl,i10 rfl⟩,rfl⟩ dC dC
 have Q:Row pT 48 e (λa=>a=f.heap.size\/a=d.heap.size\/False) (some ⟨f.heap.size,0,none⟩) 6 [⟨1,1,true,[]⟩,⟨2,3,false,[]⟩,⟨3,2,false,[]⟩,⟨4,2,false,[⟨0,1,0,2⟩,⟨1,0,-1,0⟩,⟨0,2,-1,0⟩]⟩,⟨2,2,false,[]⟩,⟨1,1,false,[]⟩]:=by
  have no:∀(k l:Int) (n:Bool),aN k->aN l->pT.rep e (λa=>a=d.heap.size\/False) ⟨k,l,n,[]⟩ [XG k,XG l,.bool n,.slice none 0 0]:=λk l n R S=>⟨none,0,0,rfl,eE _ _,R,S⟩
  exact Row.Bi (c:=pT) (xs:=[⟨1,1,true,[]⟩,⟨2,3,false,[]⟩,⟨3,2,false,[]⟩,⟨4,2,false,[⟨0,1,0,2⟩,⟨1,0,-1,0⟩,⟨0,2,-1,0⟩]⟩,⟨2,2,false,[]⟩,⟨1,1,false,[]⟩]) (D:=λa=>a=d.heap.size\/False) M ⟨_,_,rfl,no 1 1 true (i10 rfl) (i10 rfl),_,_,rfl,no 2 3 false (i10 rfl) (i10 rfl),_,_,rfl,no 3 2 false (i10 rfl) (i10 rfl),_,_,rfl,⟨_,_,_,rfl,P,i10 rfl,i10 rfl⟩,_,_,rfl,no 2 2 false (i10 rfl) (i10 rfl),_,_,rfl,no 1 1 false (i10 rfl) (i10 rfl),rfl⟩ dC dC
 have T:Row wH 40 e (λa=>a=h.heap.size\/False) (some ⟨h.heap.size,0,none⟩) 3 ou.projs:=
  Row.Bi (c:=wH) (xs:=[⟨0,0,1,0,2⟩,⟨0,2,2,0,1⟩,⟨0,5,3,4,4⟩]) (D:=λ_=>False) N ⟨_,_,rfl,⟨rfl,i10 rfl,i10 rfl,i10 rfl,i10 rfl,i10 rfl⟩,_,_,rfl,⟨rfl,i10 rfl,i10 rfl,i10 rfl,i10 rfl,i10 rfl⟩,_,_,rfl,⟨rfl,i10 rfl,i10 rfl,i10 rfl,i10 rfl,i10 rfl⟩,rfl⟩ dC dC
 have U:Row lv 24 e (λa=>a=i.heap.size\/a=f.heap.size\/a=d.heap.size\/False) (some ⟨i.heap.size,0,none⟩) 1 ou.types:=
  Row.Bi (c:=lv) (xs:=[[⟨1,1,true,[]⟩,⟨2,3,false,[]⟩,⟨3,2,false,[]⟩,⟨4,2,false,[⟨0,1,0,2⟩,⟨1,0,-1,0⟩,⟨0,2,-1,0⟩]⟩,⟨2,2,false,[]⟩,⟨1,1,false,[]⟩]]) (D:=λa=>a=f.heap.size\/a=d.heap.size\/False) O ⟨_,_,rfl,⟨_,_,_,rfl,Q⟩,rfl⟩ dC dC
 refine Ok.mk ⟨_,_,_,_,_,_,λa=>(a=i.heap.size\/a=f.heap.size\/a=d.heap.size\/False)\/a=h.heap.size\/False,rfl,⟨U.mono λa c=>.inl c,T.mono λa c=>.inr c⟩,λa c=>?_,?_⟩
 ·have z7:e.heap.size=s.heap.size:=oM
  rcases c with(rfl|rfl|rfl|c)|rfl|c<;>first|omega|exact c.elim
 ·exact(z.then t).new g λa c=>.inr (by have c:a=w.heap.size:=c;omega)
theorem sv :Calls ZX 8 #[XG e] w (Ok λm w'=>∃b tn g c d h G,m=lK (cf e) b tn g c d h/\bh w' G ou b tn c d/\(∀a,G a->w.heap.size<=a/\a<w'.heap.size)/\ai w w'):=by
 refine Es (PA.mk λr n s o=>PC.ok NM ?_);rintro _ t ⟨b,tn,g,c,d,h,G,rfl,p,i,j⟩;refine⟨_,_,_,_,_,_,rfl,aD (gD (cf e) b tn g c d h) (j.get o id) rfl λu k v q=>aw (gD (cf e) b tn g c d h) q (Ok.mk ⟨b,tn,g,c,d,h,G,rfl,p.keep k λa f l=>by have l:a=w.heap.size:=l;have:=i a f;omega,λa f=>by have:=i a f;omega,(n.then j).new k λa f=>.inr (by have f:a=w.heap.size:=f;omega)⟩)⟩
theorem Yp (a:jS):TF (fe ZX 49) (uu a)=true:=kR
theorem Rf {a arg:Int}:Calls ZX 30 #[XG a,XG arg] w (Ok λc w'=>c=uu ⟨0,a,0,1,arg,-1,0⟩/\ai w w'):=
 Jf (PA.mk λi d j e=>aD (BF ⟨0,a,0,1,arg,-1,0⟩) e rfl λk f l g=>aw (BF ⟨0,a,0,1,arg,-1,0⟩) g (Ok.mk ⟨rfl,d.new f λh b=>.inr (by have b:h=w.heap.size:=b;omega)⟩))
theorem gw.made {h G:Nat->Prop} {k l:cz} {n o:bw} (p:eM w0) (q:Laid w0) (g:ai w0 w) (r:bP b a h k e n) (t:∀d,h d->w.heap.size<=d) (i:ai w b) (j:ai b w') (f:bP w' c G l m o) (s:∀d,G d->b.heap.size<=d):gw w0 w' a c h G k e l m n o:=
 ⟨r.af j,f,⟨p,q,g.then (i.then j),λd f=>by have:=t d f;have:=g.size;omega⟩,⟨p,q,g.then (i.then j),λd f=>by have:=s d f;have:=g.size;have:=i.size;omega⟩,λd u v=>by have:=r.aF d u;have:=s d v;omega⟩
theorem Lb:∃(g a h b e:bw) (i c:ve),bj (cf 2) 0=(0,g)/\bj (cf 2) 1=(0,a)/\cm (cf 2) 0 g ⟨0,0,0,1,3,-1,0⟩=(0,(0,1),h)/\ET ou a.S.l 0 0=i/\i.code=14/\(gP (cf 2) 1 a 0 0).1.length=1/\
  t_ (cf 2) 1 (cf 2) 0 1 0 100 (gP (cf 2) 1 a 0 0).2 h (gP (cf 2) 1 a 0 0).1=some (b,e)/\ET ou b.S.l 0 0=c/\c.code=0/\c.st.cells.length=6/\(c.st.cells.getD 0 ⟨0,[]⟩).n=3/\c.st.version=1/\b.S.vec=[1,0]:=by
 have f:=NL;unfold Tx at f;simp only [QK,beq_iff_eq]at f;obtain⟨j,k,l,m,n,o,d⟩:=f;split at d
 ·cases d
 ·rename_i b e p
  simp only [QK,beq_iff_eq]at d;obtain⟨q,r,s,t,u⟩:=d;exact⟨_,_,_,b,e,_,_,Prod.ext j rfl,Prod.ext k rfl,Prod.ext l (Prod.ext m rfl),rfl,n,o,p,rfl,q,r,s,t,u⟩
theorem KI (k:eM w0) (l:Laid w0) (m:ai w0 w):Calls ZX 11 #[] w (Ok λa3 w'=>a3= .bool true/\ai w w'):=by
 obtain⟨H,XB,i3,YB,YA,i4,I,e1,e2,e3,e4,e5,e6,e7,e8,e9,i5,d8,d9,e0⟩:=Lb;have J:(cf 2).decl=ou:=rfl;refine Ep (PC.ok sv ?_);rintro _ w2 ⟨ta,tn,tc,pa,pn,pc,G2,rfl,f2,f3,n⟩;refine cu (JH (cf 2) ta tn tc pa pn pc) ⟨rfl,PC.ok (Be (c:=cf 2) k l (m.then n) f2 (λb a=>(f3 b a).2) (i10 rfl) (i10 rfl) (i10 rfl)) ?_⟩;rintro v5 w5 c;unfold MU at c;rw [e1]at c;obtain⟨k5,⟨o,-⟩|⟨-,a4,a5,rfl,K,p,f5⟩⟩:=c
 ·exact absurd rfl o
 dsimp only at K f5;have e:=n.then k5;refine⟨_,_,rfl,PC.ok sv ?_⟩;rintro _ w9 ⟨tb,tm,td,pb,pm,pd,G9,rfl,f6,f7,f⟩;refine cu (JH (cf 2) tb tm td pb pm pd) ⟨rfl,PC.ok (Be (c:=cf 2) k l ((m.then e).then f) f6 (λb a=>(f7 b a).2) (i10 rfl) (i10 rfl) (i10 rfl)) ?_⟩;rintro i6 g0 c;unfold MU at c;rw [e2]at c;obtain⟨L,⟨o,-⟩|⟨-,a6,G,rfl,M,N,g1⟩⟩:=c
 ·exact absurd rfl o
 dsimp only at M g1;have z5:=e.size;have z9:=f.size;have z2:=n.size;generalize i7:cf 2=q at*;have g2:gw w0 g0 a4 a6 a5 G q 0 q 1 H XB:=gw.made (w:=w) k l m K (λb a=>by have:=p b a;omega) e (f.then L) M λb a=>by have:=N b a;omega
 have O:=(e.then f).then L;refine⟨_,_,rfl,al.dw (λh=>absurd rfl h) (λ_=>al.dw (λh=>absurd rfl h) (λ_=>fQ Tryz.underlying33 ⟨_,rfl,al.ff rfl (fQ Tryz.underlying33 ⟨_,rfl,al.ff rfl (PC.ok Rf ?_)⟩)⟩))⟩;rintro _ i8 ⟨rfl,r⟩;have s:=g2.af r;have g3:jS.Ok ⟨0,0,0,1,3,-1,0⟩:=⟨i10 rfl,i10 rfl,i10 rfl,i10 rfl,i10 rfl,i10 rfl⟩
 refine cu (Yp _) ⟨rfl,PC.ok (rL s.a s.ea g3 oM) ?_⟩;have t:=CP q 0 H ⟨0,0,0,1,3,-1,0⟩;rintro _ u ⟨i9,g,v,x⟩;rw [e3]at t g v;dsimp only at t g v;have a7:=s.zD v x;rw [if_neg sM]at g;obtain⟨P,Q,R,S,T,U,V,W,X,-,rfl,-⟩:=g;refine cu (FT _ P Q R S T U V W X) ⟨rfl,PA.mk λj0 g4 j1 g5=>aD (lR _ P Q R S T U V W X) g5 rfl λg6 b2 j2 g7=>?_⟩;have Y:ai u g6:=g4.new b2 λb a=>.inr (by have a:b=u.heap.size:=a;omega);have Z:=a7.af Y;refine PC.ok (A_ Z.b) ?_;rintro _ b4 ⟨a0,y⟩;rw [J,e4]at a0;obtain⟨b5,b6,b7,b8,b9,c0,c1,c3,c4,-,rfl,-⟩:=a0;refine cu (FT _ b5 b6 b7 b8 b9 c0 c1 c3 c4) ⟨rfl,PA.mk λj3 g8 j4 g9=>aD (lR _ b5 b6 b7 b8 b9 c0 c1 c3 c4) g9 rfl λc5 z j5 h2=>?_⟩;have A:ai b4 c5:=g8.new z λb a=>.inr (by have a:b=b4.heap.size:=a;omega);have B:=A.get (y.get g7 id) id;refine⟨_,ae B rfl,al.dw (λh=>absurd rfl h) (λ_=>⟨_,_,ae B rfl,ae B rfl,aH.mk Sn ⟨_,rfl,al.ff rfl ⟨_,ae h2 rfl,al.dw (λh=>absurd e5 h) (λ_=>?_)⟩⟩⟩)⟩;have a8:=(Z.af y).af A;refine PC.ok (MJ (most:=100) a8.swap (i10 rfl) dC oM (by rcases t.evs with h|h<;>omega) e6 e7) ?_;rintro _ j6 ⟨rfl,j7,j8,a1,a9⟩;refine⟨_,rfl,al.not (al.tt rfl (PC.ok (A_ a1.a) ?_))⟩;rintro _ C ⟨a2,c6⟩;rw [J,e8]at a2;have d:ai w C:=by
  have h3:ai w u:=(O.then r).new x.keep λb a=>.inr (by have:=p b a;omega);have z:ai w c5:=((h3.then Y).then y).then A;refine(z.new a9.keep λb a=>.inr ?_).then c6;rcases a with a|a
  ·have:=N b a;omega
  ·rcases x.new b a with h|h
   ·have:=p b h;omega
   ·have:=O.size;have:=r.size;omega
 obtain⟨c7,c8,c9,d0,d1,d2,d3,d4,d5,G3,rfl,i,-⟩:=a2;refine cu (FT I c7 c8 c9 d0 d1 d2 d3 d4 d5) ⟨rfl,PA.mk λj9 h4 k0 h5=>aD (lR I c7 c8 c9 d0 d1 d2 d3 d4 d5) h5 rfl λh6 d6 k1 j=>?_⟩;have E:ai C h6:=h4.new d6 λb a=>.inr (by have a:b=C.heap.size:=a;omega);have i:=i.af E;have k3:=i.len;obtain⟨b,b0,k4,k6,k7,rfl,k8,-,h7,-⟩:=ni (i:=0) i oM;refine⟨_,ae j rfl,al.dX (λ_=>⟨_,_,_,ae j rfl,al.dX (λ_=>⟨_,_,_,ae j rfl,b,b0,rfl,oM,oM,_,h7,al.dX (λ_=>⟨_,ae j rfl,al.dX (λ_=>?_) (λh=>absurd d9 h)⟩) (λh=>absurd d8 h)⟩) (λh=>absurd oM h)⟩) (λh=>absurd e9 h)⟩;refine PC.ok (Io ((a1.a.af c6).af E)) ?_;rintro _ l0 ⟨l3,l4,l5,l6,rfl,F,h8,i1⟩;rw [e0]at F;have i2:=F.len dC;refine⟨_,_,_,rfl,PA.mk λl7 d7 l8 h9=>PC.ok (jM (xs:=[1,0]) (ys:=[1,0]) ((F.af d7).row dC dC) (Row.lit h9 [1,0] rfl (λb1 hx=>by simp at hx;rcases hx with rfl|rfl<;>exact i10 rfl) dC)) ?_⟩;rintro _ l9 ⟨rfl,i0⟩;exact⟨_,rfl,Ok.mk ⟨sM,(((d.then E).then h8).then d7).then i0.keep⟩⟩
end
theorem GM {a:Type} [DecidableEq a]:∀{l m:List a},l.Nodup->(∀x∈l,x∈m)->l.length<=m.length
 |[],m,_,_=>Qj _
 |x::l,m,h,b=>by
  have c:=b x (QV ..);have d:=List.nodup_cons.1 h;have i:=GM (l:=l) (m:=m.erase x) d.2 λf g=>(List.mem_erase_of_ne λe:f=x=>d.1 (e▸g)).2 (b f (QJ _ g));have j:=List.length_erase_of_mem c;have k:=List.length_pos_of_mem c;rw [Xq];omega
section
variable {w w' w0:World} {p q:Nat} {F G D E:Nat->Prop} {c e:cz} {self other:Int} {X Y:bw}
theorem bP.cl (a:bP w p F c self X):X.S.Cl/\X.S.n=c.bl.toNat:=by
 obtain⟨e,f,b,d⟩:=a;exact(d.at' 3).2
theorem kq (d:eM w0) (e:Laid w0) (b:ai w0 w):PC ZX 11 #[] w (λa f=>∃c:Bool,a= .bool c/\Ok (λa w'=>a= .bool true/\ai w0 w') (.returned (.bool c)) f) a1:=by
 refine PC.ok (KI d e b) ?_;rintro _ w' ⟨rfl,g⟩;exact⟨_,rfl,Ok.mk ⟨rfl,b.then g⟩⟩
theorem su {e f:Option Addr} {tn j g k:Nat} (l:eM w0) (m:Laid w0) (n:ai w0 w) (q:bh w D c.decl e tn f g) (r:aN c.aZ) (s:aN c.every) (t:aN c.start) 
  (u:∀v w',ai w w'->(bj c self).1≠0->o (.tuple #[.pointer v,XG (bj c self).1]) w')
  (x:∀p F w',(bj c self).1=0->ai w w'->bP w' p F c self (bj c self).2->(∀a,F a->w.heap.size<=a)->(bj c self).2.S.l.length<=16777216->o (.tuple #[.pointer (some ⟨p,0,none⟩),XG 0]) w'):
  PC ZX 13 #[lK c e tn j f g k] w (λy w'=>yY (fe ZX 28) λh=>y=h/\PC ZX 12 #[h,XG self] w' o a1) f2:=by
 refine PC.ok (wN q) ?_;rintro _ P ⟨z,A,B,C,E,H,Q,rfl,I,J,b⟩;refine cu (JH c z A B C E H) ⟨rfl,PC.ok (Be l m (n.then b) I (λa d=>(J a d).2) r s t) ?_⟩;rintro R S ⟨i,⟨K,rfl⟩|⟨L,p,F,rfl,M,N,O⟩⟩
 ·exact u _ _ (b.then i) K
 ·exact x p F _ L (b.then i) M (λa d=>by have:=N a d;have:=b.size;omega) O
theorem OO {b a:Int} (c:a≠0) (d e:Operand):(do eqGuard .rem 3 d e (XG b) (XG a);binOp .rem 3 (XG b) (XG a):Sem Value).run ZX w= .ok (XG (b.tmod a)) w:=by
 simp [eqGuard,binOp,Op.intDiv,c]
end
section
variable {S:aq} {D:ak} {d:cz} {Y:bw} {k m j n:Nat} {T:Nat->Prop}
theorem KZ (a:bK D) {b:List UInt8} (c:ay D.files w=some W) (d:b.length+D.used<=D.most):D.append w b=(0,D.eJ w {W with bytes:=W.bytes++b}):=by
 unfold ak.append;rw [a.on c,if_neg];unfold ak.room;omega
theorem K_ (b:ay D.files w=some W) (a:bQ):(D.eJ w a).used+W.bytes.length=D.used+a.bytes.length:=by
 have:=rq (l:=D.files) (k:=w) (f:=a);rw [b]at this;simp only [Option.map_some,Option.getD_some]at this;show eL (aJ D.files w a)+_=eL D.files+_;omega
structure WK (S:aq) (m:Nat) (Y:bw):Prop where
 set:Y.S=⟨S.n,S.l.take m⟩
 log:∃V,Y.log=some V/\cE Y.D [] 1 (S.l.take m) m/\AV V [] 1 (S.l.take m)/\bK Y.D/\V.size=65536/\Y.D.most=262144/\Y.D.used<=1000+675*m
theorem WK.take (g:S.Cl) (B:S.n=d.bl.toNat) (T:S.l.length<=20) (C:WK S m Y) (U:1<=j) (q:m+j<=S.l.length):
  ∃i,bU d Y ((S.l.drop m).take j)=(0,i)/\WK S (m+j) i/\i.waits=Y.waits:=by
 obtain⟨E,a,F,r,f,s,t,H,V⟩:=C;have h:∀b∈S.l,b.Ok/\b.aK.length<=64:=λb c=>⟨g.ok.ok b c,by
  obtain⟨-,-,-,-,-,-,I,-⟩:=im (g.ok.TC b c);rw [I];exact g.ok.n⟩
 have k:((S.l.drop m).take j).length=j:=by rw [Qy,XZ];omega
 have l:S.l.take m++(S.l.drop m).take j=S.l.take (m+j):=(List.take_add ..).symm;have W:(ar ((S.l.drop m).take j)).length<=675*j:=by
  have:=wv (l:=(S.l.drop m).take j) λb c=>h b (List.mem_of_mem_drop (List.mem_of_mem_take c))
  rwa [k]at this
 have X:(ar (S.l.take m)).length<=675*m:=by
  have:=wv (l:=S.l.take m) λb c=>h b (List.mem_of_mem_take c)
  rwa [Qy,X2 oM]at this
 have J:(S.l.drop m).take j≠[]:=λb=>by rw [b]at k;simp at k;omega
 have K:((S.l.drop m).take j).any eD=false:=by
  rw [List.any_eq_false];intro b c;have:=(h b (List.mem_of_mem_drop (List.mem_of_mem_take c))).2;unfold eD;simp;omega
 obtain⟨e,u,L,Z⟩:=r.last;have M:=KZ s (b:=ar ((S.l.drop m).take j)) u oM;have N:=K_ u {bytes:=ar (S.l.take m)++ar ((S.l.drop m).take j),synced:=e,jk:=true};have v:cE (D:=Y.D.eJ (au 1) ⟨ar (S.l.take m)++ar ((S.l.drop m).take j),e,true⟩) [] 1 (S.l.take (m+j)) m:=r.put (l':=S.l.take (m+j)) (s:=e) (by rw [<-l,eh];rfl) (by rw [Qy];omega)
  (by rw [List.take_take,X2 oM];rwa [Qz (by rw [Qy];omega)]at L) (by rw [<-l,eh];simp;omega) λb c=>h b (List.mem_of_mem_take c)
 have w:bK (Y.D.eJ (au 1) ⟨ar (S.l.take m)++ar ((S.l.drop m).take j),e,true⟩):=s.same rfl rfl;have O:az a Y.D ((S.l.drop m).take j)=(0,⟨a.size,a.aX,a.bytes+((ar ((S.l.drop m).take j)).length:Nat),a.next⟩,Y.D.eJ (au 1) ⟨ar (S.l.take m)++ar ((S.l.drop m).take j),e,true⟩):=by
  unfold az;rw [if_neg (by rw [K];simp),if_neg J];dsimp only;rw [if_neg (show¬a.size<=a.bytes by rw [t,f.bytes];omega)];dsimp only;rw [if_neg sM,cE.rQ f,M];dsimp only;rw [if_neg sM,wrap_i64 (by rw [f.bytes];unfold aN;omega)]
 have x:AV (⟨a.size,a.aX,a.bytes+((ar ((S.l.drop m).take j)).length:Nat),a.next⟩:cY) [] 1 (S.l.take (m+j)):=⟨f.aX,by show a.bytes+_=_;rw [f.bytes,<-l,eh];simp,f.next⟩
 obtain⟨y,z⟩:=w.sync (au 1);obtain⟨s',n,-,-⟩:=v.last;have z:=z _ n;have A:=K_ n (dB (ar (S.l.take (m+j))));have o:(Y.D.eJ (au 1) ⟨ar (S.l.take m)++ar ((S.l.drop m).take j),e,true⟩).sync (au 1)=(0,(Y.D.eJ (au 1) ⟨ar (S.l.take m)++ar ((S.l.drop m).take j),e,true⟩).eJ (au 1) (dB (ar (S.l.take (m+j))))):=by
  unfold ak.sync;rw [w.on n,Jt]
 have P:=Kl g B q;refine⟨{Y with log:=some ⟨a.size,a.aX,a.bytes+((ar ((S.l.drop m).take j)).length:Nat),a.next⟩,D:=(Y.D.eJ (au 1) ⟨ar (S.l.take m)++ar ((S.l.drop m).take j),e,true⟩).eJ (au 1) (dB (ar (S.l.take (m+j)))),S:=⟨S.n,S.l.take (m+j)⟩},?_,?_⟩
 ·unfold bU
  rw [F];dsimp only;rw [O];dsimp only;rw [if_neg sM,show cY.last ⟨a.size,a.aX,a.bytes+((ar ((S.l.drop m).take j)).length:Nat),a.next⟩=au 1 from cE.rQ x,o];dsimp only;rw [if_neg sM,E,P]
 refine⟨⟨rfl,_,rfl,?_,x,?_,t,H,?_⟩,rfl⟩
 ·have:=sK v
  rw [o]at this;rcases this with p|p
  ·have Q:=p.2;rwa [Qy,X2 q]at Q
  ·exact absurd rfl p.1
 ·rw [o]at y;exact y
 ·dsimp only
  have R:(dB (ar (S.l.take (m+j)))).bytes.length=(ar (S.l.take (m+j))).length:=rfl;rw [R]at A;simp only [QX]at N;dsimp only at A;omega
def DJ (S:aq):Prop:=∀(b:Nat) (a:ah),S.l[b]? =some a->a.origin=0/\a.seq=(b:Int)+1
theorem DJ.inj (c:DJ S) {b j:Nat} {a:ah} (d:S.l[b]? =some a) (e:S.l[j]? =some a):b=j:=by
 have:=(c b a d).2;have:=(c j a e).2;omega
theorem Tu (e:S.Cl) (q:0<S.n) (c:DJ S) (i:m<=S.l.length) {a:ah} (d:S.l[k]? =some a):
  (k=m->aq.add ⟨S.n,S.l.take m⟩ a=(0,⟨S.n,S.l.take (m+1)⟩))/\(k<m->aq.add ⟨S.n,S.l.take m⟩ a=(16,⟨S.n,S.l.take m⟩))/\(m<k->aq.add ⟨S.n,S.l.take m⟩ a=(9,⟨S.n,S.l.take m⟩)):=by
 obtain⟨j,l⟩:=Qv.1 d;have r:a∈S.l:=l▸XY j;have n:=e.ok.TC a r;have s:=(e.take i).2;refine⟨λt=>?_,λo=>?_,λo=>?_⟩
 ·subst t;rw [<-l];exact e.step j
 ·have:a∈S.l.take m:=QZ (i:=k) (by rw [Xw,if_pos o];exact d)
  rw [aq.add_def,if_neg (by dsimp only;rw [n];simp),if_pos (by rw [s.ok.get this];rfl)]
 ·have u:aq.get ⟨S.n,S.l.take m⟩ (aO a)=none:=by
   cases f:aq.get ⟨S.n,S.l.take m⟩ (aO a)with
   |none=>rfl
   |some g=>
    obtain⟨v,p⟩:=aq.get_some f;obtain⟨h,b⟩:=List.mem_iff_getElem?.1 v;rw [Xw]at b;split at b
    ·have z:=(c h g b).2;have A:=(c k a d).2
     unfold aO at p;simp only [Prod.mk.injEq]at p;omega
    ·cases b
  have w:aq.sX ⟨S.n,S.l.take m⟩ 0=m:=by
   unfold aq.sX;rw [List.countP_eq_length.2,Qy,X2 i];intro g f;obtain⟨h,b⟩:=List.mem_iff_getElem?.1 (List.mem_of_mem_take f);simp [(c h g b).1]
  obtain⟨x,y⟩:=c k a d;rw [aq.add_def,if_neg (by dsimp only;rw [n];simp),if_neg (by rw [u];simp),if_pos];rw [x,y];show(k:Int)+1≠(aq.vec ⟨S.n,S.l.take m⟩).getD 0 0+1;rw [aq.iJ (⟨S.n,S.l.take m⟩:aq) q,w];omega
theorem Yl (l:S.Cl) (n:0<S.n) (f:DJ S) (o:m<=S.l.length):∀(b:List ah),(∀x∈b,∃c:Nat,S.l[c]? =some x)->
  (cP ⟨S.n,S.l.take m⟩ b=none/\∀x∈b,S.l[m]? ≠some x)\/∃a d e,S.l[m]? =some a/\b=d++a::e/\cP ⟨S.n,S.l.take m⟩ b=some (a,⟨S.n,S.l.take (m+1)⟩,d++e)
 |[],_=>.inl ⟨rfl,sM⟩
 |x::p,q=>by
  obtain⟨c,g⟩:=q x (QV ..);obtain⟨t,u,v⟩:=Tu l n f o g
  by_cases h:c=m
  ·refine .inr ⟨x,[],p,h▸g,rfl,?_⟩
   unfold cP;rw [t h,if_pos rfl];rfl
  have r:(aq.add ⟨S.n,S.l.take m⟩ x).1≠0:=by
   rcases Nat.lt_or_ge c m with s|s
   ·rw [u s];simp
   ·rw [v oM];simp
  rcases Yl l n f o p λi B=>q i (QJ _ B)with⟨j,k⟩|⟨a,d,e,j,k,w⟩
  ·refine .inl ⟨by unfold cP;rw [if_neg r,j];rfl,λi B=>?_⟩
   rcases Q2.1 B with rfl|B
   ·exact λa=>h (f.inj g a)
   ·exact k i B
  ·exact .inr ⟨a,x::d,e,j,by rw [k];rfl,by unfold cP;rw [if_neg r,w];rfl⟩
theorem Ym (h:S.Cl) (o:0<S.n) (p:DJ S):∀(f m:Nat) (c d:List ah),m<=S.l.length->c.length<f->(∀a∈c,∃e:Nat,S.l[e]? =some a)->
  ∃j g,cW f ⟨S.n,S.l.take m⟩ c d=(d++(S.l.drop m).take j,g)/\m+j<=S.l.length/\g.length+j=c.length/\(∀a∈g,a∈c/\S.l[m+j]? ≠some a)/\∀a∈c,a∈g\/∃e,e<m+j/\S.l[e]? =some a
 |0,m,c,d,_,k,_=>(Nat.not_lt_zero _ k).elim
 |f+1,m,c,d,q,k,r=>by
  unfold cW;rcases Yl h o p q c r with⟨l,i⟩|⟨x,s,t,l,i,y⟩
  ·rw [l]
   exact⟨0,c,sM,q,rfl,λa b=>⟨b,i a b⟩,λa b=>.inl b⟩
  ·rw [y]
   obtain⟨z,A⟩:=Qv.1 l;have u:∀a∈s++t,a∈c:=λa b=>by rw [i];simp at b⊢;rcases b with h|h<;>simp [h]
   obtain⟨j,g,B,F,C,v,w⟩:=Ym h o p f (m+1) (s++t) (d++[x]) oM (by rw [i]at k;simp at k⊢;omega) λa b=>r a (u a b);refine⟨j+1,g,?_,oM,by rw [i];simp at C⊢;omega,λa b=>⟨u a (v a b).1,by rw [show m+(j+1)=m+1+j by omega];exact(v a b).2⟩,λa b=>?_⟩
   ·dsimp only
    rw [B,X4 z,List.take_succ_cons,A];simp
   ·rw [i]at b
    rcases Q6.1 b with b|b
    ·exact(w a (List.mem_append_left _ b)).imp id λ⟨e,E,n⟩=>⟨e,oM,n⟩
    ·rcases Q2.1 b with rfl|b
     ·exact .inr ⟨m,oM,l⟩
     ·exact(w a (List.mem_append_right _ b)).imp id λ⟨e,E,n⟩=>⟨e,oM,n⟩
theorem La (c:S.Cl):∀(j m:Nat) (a:List ah),m+j<=S.l.length->dP ((S.l.drop m).take j) ⟨S.n,S.l.take m⟩ a=(⟨S.n,S.l.take (m+j)⟩,a++(S.l.drop m).take j)
 |0,m,a,_=>by simp [dP]
 |j+1,m,a,d=>by
  have b:m<S.l.length:=oM
  rw [X4 b,List.take_succ_cons];unfold dP;rw [c.step b,if_pos rfl];dsimp only;rw [La c j (m+1) _ oM,XQ,show m+1+j=m+(j+1) by omega]
  rfl
theorem Yn (p:S.Cl) (u:0<S.n) (q:DJ S) (d:Nat):∀(f m:Nat) (c:List ah),d<=m->m<=S.l.length->c.length<f->(∀a∈c,∃b:Nat,S.l[b]? =some a)->
  ∃k i,kW f ⟨S.n,S.l.take m⟩ ((S.l.drop d).take (m-d)) c=((S.l.drop d).take (k-d),i)/\m<=k/\k<=S.l.length/\i.length<=c.length/\(∀a∈i,∃b,k<b/\S.l[b]? =some a)/\∀a∈c,a∈i\/∃b,b<k/\S.l[b]? =some a
 |0,m,c,_,_,v,_=>(Nat.not_lt_zero _ v).elim
 |f+1,m,c,V,t,v,r=>by
  have W:(c.filter λe=>(aq.get ⟨S.n,S.l.take m⟩ (aO e)).isNone).length<=c.length:=List.length_filter_le ..;obtain⟨j,i,C,w,X,x,y⟩:=Ym p u q ((c.filter λe=>(aq.get ⟨S.n,S.l.take m⟩ (aO e)).isNone).length+1) m (c.filter λe=>(aq.get ⟨S.n,S.l.take m⟩ (aO e)).isNone) [] t oM λa g=>r a (List.mem_filter.1 g).1;have E:bI ⟨S.n,S.l.take m⟩ c=((S.l.drop m).take j,i):=by
   show cW _ _ _ _=_;rw [C];rfl
  have z:∀a∈c,a∉(c.filter λe=>(aq.get ⟨S.n,S.l.take m⟩ (aO e)).isNone)->∃b,b<m/\S.l[b]? =some a:=λa g l=>by
   obtain⟨b,h⟩:=r a g;refine⟨b,Classical.byContradiction λY=>l (List.mem_filter.2 ⟨g,?_⟩),h⟩
   cases F:aq.get ⟨S.n,S.l.take m⟩ (aO a)with
   |none=>rfl
   |some H=>
    obtain⟨I,A⟩:=aq.get_some F;obtain⟨J,s⟩:=List.mem_iff_getElem?.1 I;rw [Xw]at s;split at s
    ·have Z:=(q J H s).2;have g4:=(q b a h).2
     unfold aO at A;simp only [Prod.mk.injEq]at A;omega
    ·cases s
  have K:∀a∈(c.filter λe=>(aq.get ⟨S.n,S.l.take m⟩ (aO e)).isNone),∀b,S.l[b]? =some a->m<=b:=λa g b h=>Classical.byContradiction λa2=>by
   have:=(p.take t).2.ok.get (e:=a) (QZ (i:=b) (by show(S.l.take m)[b]? =some a;rw [Xw,if_pos oM];exact h));have n:=(List.mem_filter.1 g).2;rw [this]at n;simp at n
  unfold kW;rw [E];dsimp only
  by_cases L:j=0
  ·subst L
   rw [if_pos sM];refine⟨m,i,rfl,Q4 _,t,oM,λa g=>?_,λa g=>?_⟩
   ·obtain⟨B,M⟩:=x a g
    obtain⟨b,h⟩:=r a (List.mem_filter.1 B).1;have:=K a B b h;refine⟨b,?_,h⟩;rcases Nat.lt_or_ge m b with o|o
    ·exact o
    ·rw [show b=m+0 by omega]at h;exact absurd h M
   ·by_cases l:a∈(c.filter λe=>(aq.get ⟨S.n,S.l.take m⟩ (aO e)).isNone)
    ·exact y a l
    ·exact .inr (z a g l)
  ·have N:(S.l.drop m).take j≠[]:=λe=>by
    have:=congrArg List.length e;rw [Qy,XZ]at this;simp at this;omega
   rw [if_neg N,La p j m _ w];dsimp only;have O:(S.l.drop d).take (m-d)++(S.l.drop m).take j=(S.l.drop d).take (m+j-d):=by
    rw [show m+j-d=(m-d)+j by omega,List.take_add,List.drop_drop,show d+(m-d)=m by omega]
   rw [O];obtain⟨k,P,Q,f2,R,f4,T,U⟩:=Yn p u q d f (m+j) i oM w oM λa g=>r a (List.mem_filter.1 (x a g).1).1;refine⟨k,P,Q,oM,R,oM,T,λa g=>?_⟩
   by_cases l:a∈(c.filter λe=>(aq.get ⟨S.n,S.l.take m⟩ (aO e)).isNone)
   ·rcases y a l with o|⟨b,o,n⟩
    ·exact U a o
    ·exact .inr ⟨b,oM,n⟩
   ·obtain⟨b,o,n⟩:=z a g l
    exact .inr ⟨b,oM,n⟩
structure Wt (S:aq) (T:Nat->Prop) (Y:bw):Prop where
 at':∃m,m<=S.l.length/\WK S m Y/\(∀x∈Y.waits,∃i,m<i/\S.l[i]? =some x)/\∀i x,T i->S.l[i]? =some x->i<m\/x∈Y.waits
theorem Wt.all (c:DJ S) (h:Wt S T Y) (d:∀a,a<S.l.length->T a):Y.S=S:=by
 obtain⟨m,j,e,f,g⟩:=h.at';have:m=S.l.length:=Classical.byContradiction λk=>by
  have b:S.l[m]? =some S.l[m]:=Qq oM;rcases g m _ (d m oM) b with h|h
  ·omega
  ·obtain⟨a,l,i⟩:=f _ h
   have:=c.inj b i;omega
 rw [e.set,this,Qz (Q4 _)]
theorem Wt.step (f:S.Cl) (x:S.n=d.bl.toNat) (Q:d.bl=2) (R:d.buffer=20) (b5:1<=d.chunk) (r:DJ S) (U:S.l.length<=20) (V:Wt S T Y) (W:(Y.waits.map aO).Nodup) {c:ah} (l:S.l[k]? =some c):
  (bA d 1 Y ⟨3,0,1,[],[c]⟩).2.1=0/\Wt S (λb=>T b\/b=k) (bA d 1 Y ⟨3,0,1,[],[c]⟩).2.2:=by
 obtain⟨m,u,s,y,z⟩:=V.at';have X:=s;obtain⟨Z,a5,a0,-⟩:=X;have J:0<S.n:=oM
 obtain⟨K,L⟩:=Qv.1 l;have he:c∈S.l:=L▸XY K;have a9:dJ ⟨3,0,1,[],[c]⟩ d.bl.toNat d.chunk=0:=by
  unfold dJ;dsimp only;rw [if_pos rfl,if_neg]
  ·unfold ez
   dsimp only;rw [if_neg sM,if_neg (by simp;omega)];exact Ig λa e=>by rw [List.mem_singleton.1 e,<-x];exact f.ok.TC c he
  ·simp [Q]
 have hd:bA d 1 Y ⟨3,0,1,[],[c]⟩=ia d 1 Y ⟨3,0,1,[],[c]⟩:=by
  unfold bA;rw [a0];dsimp only;rw [if_neg (by rw [a9];simp),if_neg sM,if_pos rfl]
 have A:∃g i,fm d Y [c]=((S.l.drop m).take (g-m),i)/\m<=g/\g<=S.l.length/\(∀a∈i,∃b,g<b/\S.l[b]? =some a)/\∀b a,(T b\/b=k)->S.l[b]? =some a->b<g\/a∈i:=by
  have b0:dZ d Y.S []=⟨S.n,S.l.take m⟩:=by rw [Z,lJ (f.take u).2 x];rfl
  obtain⟨a1,a2,a3⟩:=Tu f J r u l;have b6:Y.waits.length<20:=by
   have B:=GM (l:=Y.waits.map aO) (m:=(S.l.drop (m+1)).map aO) W λa e=>by
    obtain⟨a4,hy,rfl⟩:=Xk.1 e;obtain⟨b,n,j⟩:=y a4 hy;exact List.mem_map_of_mem (QZ (i:=b-(m+1)) (by rw [List.getElem?_drop,show m+1+(b-(m+1))=b by omega];exact j))
   rw [Q8,Q8,XZ]at B;omega
  have C:∀(o:Nat) (p:List ah),m<=o->o<=S.l.length->(∀a∈p,∃b:Nat,S.l[b]? =some a)->(∀b a,(T b\/b=k)->S.l[b]? =some a->b<o\/a∈p)->dI d.buffer.toNat [c] ⟨S.n,S.l.take m⟩ [] Y.waits=(⟨S.n,S.l.take o⟩,(S.l.drop m).take (o-m),p)->
    ∃g i,fm d Y [c]=((S.l.drop m).take (g-m),i)/\m<=g/\g<=S.l.length/\(∀a∈i,∃b,g<b/\S.l[b]? =some a)/\∀b a,(T b\/b=k)->S.l[b]? =some a->b<g\/a∈i:=λo p B h2 h3 h4 hc=>by
   obtain⟨g,i,n,j,t,-,g5,g6⟩:=Yn f J r m (p.length+1) o p B h2 oM h3;refine⟨g,i,?_,oM,t,g5,λb a h e=>?_⟩
   ·unfold fm
    rw [b0,hc];exact n
   ·rcases h4 b a h e with q|q
    ·exact .inl oM
    ·rcases g6 a q with q|⟨i2,q1,q2⟩
     ·exact .inr q
     ·exact .inl (by rw [r.inj e q2];exact q1)
  have E:∀a∈Y.waits,∃b:Nat,S.l[b]? =some a:=λa e=>(y a e).imp λb f=>f.2;rcases Nat.lt_trichotomy k m with M|N|b1
  ·refine C m Y.waits (Q4 _) u E (λb a h e=>?_) ?_
   ·rcases h with h|rfl
    ·exact z b a h e
    ·exact .inl M
   ·unfold dI dI
    rw [a2 M];simp
  ·refine C (m+1) Y.waits oM oM E (λb a h e=>?_) ?_
   ·rcases h with h|rfl
    ·exact(z b a h e).imp (λf=>oM) id
    ·exact .inl oM
   ·unfold dI dI
    rw [a1 N];subst N;rw [X4 K,L,show k+1-k=1 by omega];simp
  ·have b2:dQ 20 Y.waits c=(false,Y.waits)/\c∈Y.waits\/dQ 20 Y.waits c=(true,dO c Y.waits):=by
    unfold dQ
    by_cases F:Y.waits.any (λa=>aO a==aO c)=true
    ·rw [if_pos (.inr F)]
     obtain⟨a,O,v⟩:=List.any_eq_true.1 F;obtain⟨b,n,j⟩:=y a O;have t:=(r b a j).2;have H:=(r k c l).2;have v:=eq_of_beq v;unfold aO at v;simp only [Prod.mk.injEq]at v;have:b=k:=oM
     subst this;rw [j]at l;exact .inl ⟨rfl,by rw [<-XJ l];exact O⟩
    ·rw [if_neg (by simp only [not_or];exact⟨oM,F⟩)]
     exact .inr rfl
   have I:∀a,a∈(dQ 20 Y.waits c).2↔a=c\/a∈Y.waits:=λa=>by
    rcases b2 with⟨n,j⟩|n
    ·rw [n];exact⟨.inr,λf=>f.elim (λf=>by rw [f];exact j) id⟩
    ·rw [n,(cX c Y.waits).mem_iff,Q2]
   refine C m (dQ 20 Y.waits c).2 (Q4 _) u (λa e=>((I a).1 e).elim (λf=>⟨k,by rw [f];exact l⟩) (E a)) (λb a h e=>?_) ?_
   ·rcases h with h|rfl
    ·exact(z b a h e).imp id λf=>(I a).2 (.inr f)
    ·exact .inr ((I a).2 (.inl (by rw [e]at l;exact XJ l)))
   ·unfold dI dI
    rw [a3 b1,R];simp
 obtain⟨g,i,A,n,j,t,H⟩:=A;rw [hd];unfold ia;dsimp only;rw [A];dsimp only
 by_cases b3:g=m
 ·subst b3
  rw [if_pos sM];exact⟨rfl,⟨g,j,⟨s.set,s.log⟩,t,H⟩⟩
 ·have b4:(S.l.drop m).take (g-m)≠[]:=λc=>by
   have:=congrArg List.length c;rw [Qy,XZ]at this;simp at this;omega
  obtain⟨Y',t1,P,w⟩:=WK.take f x U (Y:={Y with waits:=i}) ⟨s.set,s.log⟩ (j:=g-m) oM oM;rw [if_neg b4,t1,if_neg sM];rw [show m+(g-m)=g by omega]at P;have w:Y'.waits=i:=w;exact⟨rfl,⟨g,j,P,by rw [w];exact t,by rw [w];exact H⟩⟩
end
end Go.Proofs.YtfchlbaidamodaaGreatDoor

import Derived.Test.YtfchlbaidamodaaGreatDoorKa32
import Derived.Test.YtfchlbaidamodaaGreatDoorYaQue
import Derived.Test.YtfchlbaidamodaaGreatDoorKa35
set_option linter.all false
set_option maxRecDepth 20000
namespace Go.Proofs.YtfchlbaidamodaaGreatDoor
open Go.ax
def t_ (d:cz) (e:Int) (g:cz) (h j k:Int):Nat->bw->bw->List dz->Option (bw×bw)
 |0,a,b,i=>if i=[]then some (a,b)else none
 |f+1,a,b,[]=>some (a,b)
 |f+1,a,b,c::i=>
  if c.qF=k then
   (if(bA g h b c).2.1≠0 then none else t_ d e g h j k f a (bA g h b c).2.2 (i++(bA g h b c).1))
  else if c.qF≠j then none else
   (if(bA d e a c).2.1≠0 then none else t_ d e g h j k f (bA d e a c).2.2 b (i++(bA d e a c).1))
abbrev mD (a:IC):List Value:=cD a.m a.va a.vn a.vc a.ea a.en a.ec
def fM (b:World) (e:Nat->Prop) (f:Nat) (c:Option Addr) (g h:Nat) (i:List dz):Prop:=
 ∃(d:List IC) (D:Nat->Prop),MH b 67 5 c g h (d.flatMap mD)/\d.map (·.m)=i/\(∀a∈d,a.In b D)/\(∀a,D a->a<b.heap.size/\aI c≠some a/\¬e a/\f<=a)/\∀a,aI c=some a->¬e a/\f<=a
theorem OA {c:World} {D:Nat->Prop}:∀{a:List IC} {cs:List Value},bT UG c D a cs->cs=a.flatMap mD
 |[],_,d=>by cases d;rfl
 |b::a,_,⟨h,i,e,⟨f,_⟩,g⟩=>by rw [e,f,OA g];rfl
theorem Wj:∀(c:List IC),∀a∈c.flatMap mD,a.oneCell'=true:=λc a b=>by
 obtain⟨d,-,b⟩:=List.mem_flatMap.1 b;exact UG.one (D:=λ_=>False) (w:=default) ⟨rfl,trivial⟩ a b
theorem Wl (a:List IC):(a.flatMap mD).length=a.length*5:=by
 induction a with
 |nil=>rfl
 |cons c a b=>rw [List.flatMap_cons,QX,b,Xq];show 5+_=_;omega
variable{f:Nat->Prop}{c9:bw}{f3:dz}
section
variable {w w' w0 w1 w2:World} {p q:Nat} {F G Z:Nat->Prop} {cA cB:cz} {sA sB i k:Int} {A B:bw} {a:Option Addr} {n c:Nat} {ms:List dz} {v:Value}
theorem fx.zB (i:fx w Z ms v w') {Y:Nat->Prop} (g:∀b,Y b->Z b\/b<w.heap.size):∃a n c,v= .slice a n c/\fM w' Y w.heap.size a n c ms:=by
 obtain⟨a,n,c,j,D,rfl,k,l,m,e,h⟩:=i;obtain⟨cs,q,o,p,r⟩:=k.body;have:=OA p;subst this;refine⟨a,n,c,rfl,j,D,o.Zm,l,m,λb d=>⟨(e b d).2.1,(e b d).2.2.1,λf=>?_,(e b d).1⟩,λb d=>⟨λf=>?_,(h b d).1⟩⟩
 ·have:=e b d
  exact(g b f).elim this.2.2.2 oM
 ·have:=h b d
  exact(g b f).elim this.2 oM
theorem fM.len {b:Nat} (d:fM w Z b a n c ms):n=ms.length:=by
 obtain⟨g,D,e,f,-⟩:=d;have:=e.len;rw [Wl]at this;rw [<-f,Q8];omega
theorem fM.lt {d:Nat} (e:fM w Z d a n c ms):∀b,aI a=some b->b<w.heap.size:=by
 obtain⟨g,D,f,-⟩:=e;exact f.lt
theorem fM.keep {i:Nat} (l:fM w Z i a n c ms) (e:aj f w w') (j:∀b,f b->Z b):fM w' Z i a n c ms:=by
 obtain⟨m,D,o,p,q,g,k⟩:=l;exact⟨m,D,o.keep e λb d h=>(k b d).1 (j b h),p,λb d=>(q b d).keep e λb d h=>(g b d).2.2.1 (j b h),λb d=>⟨Qk (g b d).1 e.size,(g b d).2⟩,k⟩
theorem fM.less {h i:Nat} (o:fM w Z h a n c ms) (j:∀b,f b->Z b\/w.heap.size<=b) (k:i<=h):fM w f i a n c ms:=by
 obtain⟨p,D,l,q,r,e,m⟩:=o;exact⟨p,D,l,q,r,λb d=>⟨(e b d).1,(e b d).2.1,λg=>(j b g).elim (e b d).2.2.1 (by have:=(e b d).1;omega),Xx k (e b d).2.2.2⟩,λb d=>⟨λg=>(j b g).elim (m b d).1 (by have:=l.lt b d;omega),Xx k (m b d).2⟩⟩
theorem fM.pop {m:Nat} (o:fM w Z m a n c (f3::ms)):∃g h p q u r s v D,a=some ⟨g,h,none⟩/\(∀e,e<5->w.cell? ⟨g,h+e,none⟩=(cD f3 p q u r s v)[e]?)/\Row aP 8 w D p q f3.vec/\Row fZ 96 w D r s f3.events/\(∀b,D b->b<w.heap.size/\¬Z b)/\fM w Z m (cM a 1 c 5) (n-1) (c-1) ms:=by
 have x:=o.len;obtain⟨f,D,i,y,j,l,z⟩:=o;rw [Xq]at x
 match f,i,y,j with
 |b::f,i,k,j=>
  simp only [QY,List.cons.injEq]at k;obtain⟨rfl,k⟩:=k;obtain⟨g,h,rfl,A⟩:=i.cell oM;have t:=j b (QV ..);refine⟨g,h,b.va,b.vn,b.vc,b.ea,b.en,b.ec,D,rfl,λe B=>?_,t.1,t.2,λb d=>⟨(l b d).1,(l b d).2.2.1⟩,f,D,?_,k,λC E=>j C (QJ _ E),λb d=>by rw [Kg];exact l b d,λb d=>by rw [Kg]at d;exact z b d⟩
  ·rw [A e oM,List.flatMap_cons,XW (show e<5 from B)]
  ·have:=i.tail oM
   rw [List.flatMap_cons,show(mD b++f.flatMap mD).drop 5=f.flatMap mD from List.drop_left' rfl]at this;exact this
theorem fM.app {r M:TypeId} {s h:Nat} (A:fM w Z s a n c ms) (N:jP ZQ r 67 5 72) {t:Option Addr} {f u:Nat} {v:List dz} (B:fM w Z h t f u v) (C:∀d,aI a=some d->d<h) (a4:s<=h) (a5:h<=w.heap.size) (hl:ms.length+v.length<=100000) (O:∀d,Z d->d<w.heap.size) {E P:Value->World->Prop}
  (x:∀i j w',fM w' Z s i (n+f) j (ms++v)->aj (λk=>aI a=some k) w w'->E (.slice i (n+f) j) w'):
  aH ZQ (Builtin.append_ #[r,r] M #[.slice a n c,.slice t f u]) w E P:=by
 have hn:=A.len;have hm:=B.len;obtain⟨Q,D,R,S,T,F,I⟩:=A;obtain⟨y,U,l,V,W,J,r5⟩:=B;have X:t=none->f=0/\u=0:=λe=>by
  rcases l.body with⟨_,Y,h3⟩|⟨a0,a1,a2,g,_⟩
  ·exact⟨Y,h3⟩
  ·rw [e]at g;cases g
 refine R.app N (news:=y.flatMap mD) l.len X (λp hp k a6 K=>?_) (Wj y) (by unfold aQ;omega) (by unfold maxLen;omega) λi j w' z m o=>?_
 ·subst hp
  have a3:k<f*5:=by
   rw [<-l.len];exact(Qv.1 K).1
  obtain⟨a0,a1,g,hc⟩:=l.cell oM
  cases g
  rw [Addr.add_lit];exact(hc k a3).trans K
 ·rw [<-List.flatMap_append]at z
  have a7:=m.size;have a8:=z.lt;refine x i j w' ⟨Q++y,λd=>D d\/U d,z,by rw [Q3,S,V],λd b=>?_,λd b=>?_,λd b=>⟨λL=>?_,?_⟩⟩ m
  ·rcases Q6.1 b with b|b
   ·exact((T d b).keep m λd b=>(F d b).2.1).mono λd b=>.inl b
   ·exact((W d b).keep m λd b g=>by have:=C d g;have:=(J d b).2.2.2;omega).mono λd b=>.inr b
  ·rcases b with b|b
   ·have q:=F d b
    refine⟨oM,λe=>?_,q.2.2.1,oM⟩;rcases o with H|H
    ·rw [H]at e;exact q.2.1 e
    ·rw [H]at e;cases e;omega
   ·have q:=J d b
    refine⟨oM,λe=>?_,q.2.2.1,oM⟩;rcases o with H|H
    ·rw [H]at e;have:=C d e;omega
    ·rw [H]at e;cases e;omega
  ·rcases o with H|H
   ·rw [H]at b;exact(I d b).1 L
   ·rw [H]at b;cases b;have:=O _ L;omega
  ·rcases o with H|H
   ·rw [H]at b;exact(I d b).2
   ·rw [H]at b;cases b;omega
structure gw (w0 w:World) (p q:Nat) (F G:Nat->Prop) (cA:cz) (sA:Int) (cB:cz) (sB:Int) (A B:bw):Prop where
 a:bP w p F cA sA A
 b:bP w q G cB sB B
 ea:Env w0 w F
 eb:Env w0 w G
 apart:∀b,F b->¬G b
theorem gw.af (a:gw w0 w p q F G cA sA cB sB A B) (b:ai w w'):gw w0 w' p q F G cA sA cB sB A B:=⟨a.a.af b,a.b.af b,a.ea.af b,a.eb.af b,a.apart⟩
theorem gw.keep (b:gw w0 w p q F G cA sA cB sB A B) (d:aj f w w') (e:∀a,F a\/G a->¬f a) (g:∀a,f a->w0.heap.size<=a):gw w0 w' p q F G cA sA cB sB A B:=
 ⟨b.a.keep d λa c=>e a (.inl c),b.b.keep d λa c=>e a (.inr c),⟨b.ea.oH,b.ea.laid,b.ea.gr.new d λa c=>.inr (g a c),b.ea.aF⟩,⟨b.eb.oH,b.eb.laid,b.eb.gr.new d λa c=>.inr (g a c),b.eb.aF⟩,b.apart⟩
theorem gw.zD (a:gw w0 w p q F G cA sA cB sB A B) (h:bP w' p f cA sA c9) (d:de F w f w'):gw w0 w' p q f G cA sA cB sB c9 B:=
 ⟨h,a.b.keep d.keep λb c e=>a.apart b e c,a.ea.Ec d,⟨a.eb.oH,a.eb.laid,a.ea.gr.new d.keep λb c=>.inr (a.ea.aF b c),a.eb.aF⟩,λb c g=>(d.new b c).elim (λe=>a.apart b e g) λi=>by have:=a.b.aF b g;omega⟩
theorem gw.swap (a:gw w0 w p q F G cA sA cB sB A B):gw w0 w q p G F cB sB cA sA B A:=⟨a.b,a.a,a.eb,a.ea,λb c d=>a.apart b d c⟩
theorem gw.OB (a:gw w0 w p q F G cA sA cB sB A B) (b:bP w' q f cB sB c9) (c:de G w f w'):gw w0 w' p q F f cA sA cB sB A c9:=(a.swap.zD b c).swap
abbrev jJ (F G:Nat->Prop):Nat->Prop:=λa=>F a\/G a
theorem _root_.Go.ax.de.left (c:de F w f w'):de (jJ F G) w (jJ f G) w':=⟨c.keep.mono λd _ a=>.inl a,λd a=>a.elim (λb=>(c.new d b).imp .inl id) λb=>.inl (.inr b)⟩
theorem _root_.Go.ax.de.right (c:de G w f w'):de (jJ F G) w (jJ F f) w':=⟨c.keep.mono λd _ a=>.inr a,λd a=>a.elim (λb=>.inl (.inl b)) λb=>(c.new d b).imp .inr id⟩
end
theorem Zu:jP ZQ 63 67 5 72:=⟨kR,kR,dC⟩
theorem MI (b:aq) (a:Int) (c:dz) (d:Int):(mE b a c d).length<=2:=by
 unfold mE;split
 ·simp
 dsimp only;split<;>split<;>simp [List.isEmpty]
theorem zF (b:cz) (a:Int) (c:bw) (d:dz):(bA b a c d).1.length<=2:=by
 unfold bA;split
 ·simp
 dsimp only;split
 ·simp
 split
 ·simp
 split
 ·unfold ia
  dsimp only;split
  ·simp
  split<;>simp
 split
 ·exact MI _ _ _ _
 split<;>simp
section
variable {w w' w0 w1 w2:World} {p q:Nat} {F G Z:Nat->Prop} {cA cB:cz} {sA sB i k:Int} {A B:bw}
theorem MJ (b:gw w0 w p q F G cA sA cB sB A B) (hk:aN k) {most:Nat} (g0:most<=1000) (hA:A.S.l.length<=17000000) (hB:B.S.l.length<=17000000) (h1:(gP cA sA A k 0).1.length=1) {I J:bw} (hm:t_ cA sA cB sB i k most (gP cA sA A k 0).2 B (gP cA sA A k 0).1=some (I,J)):
  Calls ZQ 16 #[.pointer (some ⟨p,0,none⟩),.pointer (some ⟨q,0,none⟩),QH i,QH k,QH (most:Int)] w (Ok λK w'=>K= .bool true/\∃P Q,gw w0 w' p q P Q cA sA cB sB I J/\de (jJ F G) w (jJ P Q) w'):=by
 refine Hl (PC.ok (wO b.a hk) ?_);rintro _ w7 ⟨F7,T,d7,b6⟩;have d8:=b.zD d7 b6;have c8:=b.a.aF;have b8:=b.b.aF;obtain⟨g1,n7,g2,rfl,U⟩:=T.zB (Y:=jJ F7 G) λa b=>b.imp id λh=>b8 a h;have g3:=U.len;have d9:=CQ cA sA A k 0;refine⟨_,_,_,rfl,al.dw (λe0=>absurd oM e0) (λ_=>?_)⟩;refine⟨λb7 fa V r b1 w'=>∃(d:Nat) (f g:Nat->Prop) (l m:bw) (e:List dz),b1=d/\d<=most/\b7=most-d/\gw w0 w' p q f g cA sA cB sB l m/\de (jJ F G) w (jJ f g) w'/\fM w' (jJ f g) w.heap.size fa V r e/\e.length<=1+2*d/\
   t_ cA sA cB sB i k (most-d) l m e=some (I,J)/\l.S.l.length<=17000300+300*d/\m.S.l.length<=17000300+300*d,
  ⟨_,0,F7,G,_,B,_,rfl,Qj _,rfl,d8,b6.left,U.less (λa b=>.inl b) (Q4 _),oM,hm,by rcases d9.evs with h|h<;>omega,oM⟩,?_⟩
 rintro b7 fa V r _ _ b9 ⟨d,f,g,l,m,e,rfl,hj,rfl,W,a4,X,b2,c,g4,g5⟩;have L:=X.len;have c8:=W.a.aF;have b8:=W.b.aF;have C:∀{w':World} {f g:Nat->Prop} {Y:Nat} {e:List dz} {l m:bw},gw w0 w' p q f g cA sA cB sB l m->de (jJ F G) w (jJ f g) w'->Y=e.length->e=[]->some (l,m)=some (I,J)->
   Ok (λK w'=>K= .bool true/\∃P Q,gw w0 w' p q P Q cA sA cB sB I J/\de (jJ F G) w (jJ P Q) w') (.returned (.bool ((Y:Int)==0))) w':=λb e1 hn c0 Z=>by
  cases Z
  subst c0;subst hn;exact Ok.mk ⟨rfl,_,_,b,e1⟩
 refine al.dec (λc9=>?_) (λg6=>?_)
 rotate_left
 ·have:most-d=0:=oM
  rw [this]at c;unfold t_ at c;split at c
  ·rename_i c0;exact C W a4 L c0 c
  ·cases c
 obtain⟨a5,s⟩:∃a5,most-d=a5+1:=⟨most-d-1,oM⟩
 rw [s]at c
 match e,X,L,b2,c with
 |[],X,L,b2,c=>exact al.dec (λh0=>by simp at L;omega) (λ_=>C W a4 L rfl c)
 |x::e,X,L,b2,c=>
  rw [Xq]at L b2;refine al.dec (λ_=>?_) (λh0=>oM);obtain⟨a0,a1,va,vn,vc,ea,en,ec,D,rfl,hc,hv,Z,hD,e2⟩:=X.pop;refine⟨a0,a1,rfl,oM,oM,br (es:=cD x va vn vc ea en ec) (k:=5) (j_ _ _ _ _ _ _ _) rfl (λb1 ht=>hc b1 ht) (PA.mk λg7 e3 g8 e4=>aD (j_ x va vn vc ea en ec) e4 rfl λM e5 g9 c1=>⟨oM,oM,?_⟩)⟩;have R:ai b9 M:=e3.new e5 λa b=>.inr (by have b:a=b9.heap.size:=b;omega);have h6:=R.size;have n:=W.af R;have a7:fM M (jJ f g) w.heap.size (cM (some ⟨a0,a1,none⟩) 1 r 5) (V-1) (r-1) e:=e2.keep R λa b=>b.elim;have c2:de (jJ F G) w (jJ f g) M:=⟨a4.keep.af R,a4.new⟩
  have e6:=b.ea.gr.size;have a2:∀{o:World} {E H:Nat->Prop} {a6 a8:bw} {ms:List dz} {K:Value},gw w0 o p q E H cA sA cB sB a6 a8->de (jJ f g) M (jJ E H) o->(∃t u v,K= .slice t u v/\fM o (jJ E H) M.heap.size t u v ms)->ms.length<=2->
    t_ cA sA cB sB i k a5 a6 a8 (e++ms)=some (I,J)->a6.S.l.length<=17000300+300*(d+1)->a8.S.l.length<=17000300+300*(d+1)->o.heap[b9.heap.size]? =some (.cells (cD x va vn vc ea en ec).toArray 67 (0,0))/\∃t u v,K= .slice t u v/\
    ∀ε:Value->World->Prop,aH ZQ (Builtin.append_ #[63,63] 63 #[.slice (cM (some ⟨a0,a1,none⟩) (Int.toNat 1) r 5) (V-Int.toNat 1) (r-Int.toNat 1),.slice t u v]) o (λe7 b3=>∃(c7:Option Addr) (Y d0:Nat),e7= .slice c7 Y d0/\∃d1,d1<most-d/\
     ∃(N:Nat) (f g:Nat->Prop) (l m:bw) (e:List dz),IntKind.wrap .i64 ((d:Int)+1)=N/\N<=most/\d1=most-N/\gw w0 b3 p q f g cA sA cB sB l m/\de (jJ F G) w (jJ f g) b3/\fM b3 (jJ f g) w.heap.size c7 Y d0 e/\e.length<=1+2*N/\
      t_ cA sA cB sB i k (most-N) l m e=some (I,J)/\l.S.l.length<=17000300+300*N/\m.S.l.length<=17000300+300*N) ε:=λ{o E H a6 a8 ms K} c3 y e8 h7 e9 f0 f1=>by
   refine⟨y.keep.get c1 λh=>h.elim (λh=>by have:=c8 _ h;omega) λh=>by have:=b8 _ h;omega,?_⟩;obtain⟨t,u,v,rfl,f2⟩:=e8;refine⟨t,u,v,rfl,λε=>?_⟩;have d2:fM o (jJ E H) w.heap.size (cM (some ⟨a0,a1,none⟩) 1 r 5) (V-1) (r-1) e:=by
    obtain⟨f3,D,h1,h2,h3,h4,h5⟩:=a7.keep y.keep λa b=>b;have c9:=a7.lt;obtain⟨L',D',f4,f5,f6,S,c4⟩:=a7;refine⟨L',D',f4.keep y.keep λa b=>(c4 a b).1,f5,λa b=>(f6 a b).keep y.keep λa b=>(S a b).2.2.1,λa b=>⟨Qk (S a b).1 y.keep.size,(S a b).2.1,λhz=>(y.new a hz).elim (S a b).2.2.1 (by have:=(S a b).1;omega),(S a b).2.2.2⟩,λa b=>⟨λhz=>(y.new a hz).elim (c4 a b).1 (by have:=c9 a b;omega),(c4 a b).2⟩⟩
   have f7:∀a,jJ E H a->a<o.heap.size:=λa b=>b.elim (c3.a.aF a) (c3.b.aF a);refine fM.app d2 Zu f2 (λa b=>a7.lt a b) c2.keep.size y.keep.size oM f7 λa' c' b3 f8 d3=>?_;have b4:∀a,aI (cM (some ⟨a0,a1,none⟩) 1 r 5)=some a->¬jJ E H a/\w.heap.size<=a:=λa b=>by
    obtain⟨f3,D,h1,h2,h3,h4,h5⟩:=d2;exact h5 a b
   have f9:=c3.keep d3 (λa b Z=>(b4 a Z).1 b) λa b=>by have:=(b4 a b).2;have:=e6;omega
   refine⟨_,_,_,rfl,_,oM,d+1,E,H,a6,a8,e++ms,an oM,oM,rfl,f9,?_,f8,by rw [QX];omega,by rw [show most-(d+1)=a5 by omega];exact e9,f0,f1⟩;have h9:=c2.trans y;exact⟨h9.keep.new d3 λa b=>.inr (b4 a b).2,h9.new⟩
  refine⟨λd4 w'=>d4=(if x.qF=k then some ⟨q,0,none⟩else some ⟨p,0,none⟩)/\M=w',⟨x.qF,ae c1 rfl,al.dX (λh=>⟨by rw [if_pos h],rfl⟩) (λh=>⟨by rw [if_neg h],rfl⟩)⟩,?_⟩;rintro d4 _ _ ⟨rfl,rfl⟩;refine aw (j_ x va vn vc ea en ec) c1 ?_;have d5:=hv.af R;have d6:=Z.af R;have a9:∀a,D a->a<M.heap.size:=λa b=>by have:=(hD a b).1;omega
  unfold t_ at c
  by_cases b0:x.qF=k
  ·rw [if_pos b0]
   rw [if_pos b0]at c;split at c
   ·cases c
   rename_i O;have O:(bA cB sB m x).2.1=0:=Classical.not_not.1 O;refine PC.ok (kf n.b n.eb d5 (λa b=>⟨a9 a b,λs=>(hD a b).2 (.inr s)⟩) d6 (λa b=>⟨a9 a b,λs=>(hD a b).2 (.inr s)⟩) oM) ?_;rintro _ o ⟨v1,Q,rfl,T,b5,a3⟩;have c5:=mW cB sB m x n.b.waits n.b.ok.vf.2;rw [O];obtain⟨z,t,u,v,rfl,j⟩:=a2 (n.OB b5 a3) a3.right (T.zB λa b=>b.elim (λh=>.inr (by have:=n.a.aF a h;omega)) .inl) (zF ..) c oM (by rcases c5.evs with h|h<;>omega);refine⟨_,_,_,_,rfl,al.dw (λh=>absurd rfl h) (λ_=>⟨_,ae z rfl,al.dw (λh=>⟨_,ae z rfl,al.dw (λh2=>absurd b0 h2) (λ_=>j _)⟩) (λ_=>j _)⟩)⟩
  ·rw [if_neg b0]
   rw [if_neg b0]at c;split at c
   ·cases c
   rename_i c6;have c6:x.qF=i:=Classical.not_not.1 c6;split at c
   ·cases c
   rename_i O;have O:(bA cA sA l x).2.1=0:=Classical.not_not.1 O;refine PC.ok (kf n.a n.ea d5 (λa b=>⟨a9 a b,λs=>(hD a b).2 (.inl s)⟩) d6 (λa b=>⟨a9 a b,λs=>(hD a b).2 (.inl s)⟩) oM) ?_;rintro _ o ⟨v1,P,rfl,T,b5,a3⟩;have c5:=mW cA sA l x n.a.waits n.a.ok.vf.2;rw [O];obtain⟨z,t,u,v,rfl,j⟩:=a2 (n.zD b5 a3) a3.left (T.zB λa b=>b.elim .inl (λh=>.inr (by have:=n.b.aF a h;omega))) (zF ..) c (by rcases c5.evs with h|h<;>omega) oM;refine⟨_,_,_,_,rfl,al.dw (λh=>absurd rfl h) (λ_=>⟨_,ae z rfl,al.dw (λh=>absurd c6 h) (λ_=>j _)⟩)⟩
end
def lQ (a:cz):cz:={a with nY:=262144,aZ:=131072,every:=3}
structure Dz (S:aq) (k:Nat) (Y:bw):Prop where
 set:Y.S=⟨S.n,S.l.take k⟩
 waits:Y.waits=[]
 log:∃V A no l j,Y.log=some V/\cE Y.D A no l j/\AV V A no l/\bK Y.D/\xl V Y.D/\WW V.size A/\V.next<=2+(k:Int)
variable{r:Array Value}{e m:Int}{a0 f1:List PanicEntry->World->Prop}{h0:List yE}{a c:Nat}{H:Nat×Nat}{j:Type}{g:TypeId}{o:Value->World->Prop}{b:World}{A:aq}{d6:cz}
theorem aq.Cl.step (a:A.Cl) {k:Nat} (b:k<A.l.length):aq.add ⟨A.n,A.l.take k⟩ A.l[k]=(0,⟨A.n,A.l.take (k+1)⟩):=by
 have c:=(a.take (k:=k) oM).1;have g:=(a.take (k:=k+1) oM).1;rw [Qw,Qq b,Option.toList_some,aq.nq,c]at g;rcases aq.gg ⟨A.n,A.l.take k⟩ A.l[k]with⟨-,j⟩|⟨j,-⟩
 ·rw [j]at g
  have:=congrArg (λd:aq=>d.l.length) g;simp at this;omega
 ·rw [j]at g
  simp only at g;rw [j,g,Qw,Qq b,Option.toList_some]
theorem Kk {b:aq} (h:b.Cl) (d:Nat):∀(e a:Nat) (c g:List ah),a+e<=b.l.length->dI d ((b.l.drop a).take e) ⟨b.n,b.l.take a⟩ c g=(⟨b.n,b.l.take (a+e)⟩,c++(b.l.drop a).take e,g)
 |0,a,c,g,_=>by simp [dI]
 |e+1,a,c,g,i=>by
  have f:a<b.l.length:=oM
  rw [X4 f,List.take_succ_cons];unfold dI;rw [h.step f,if_pos rfl];dsimp only;rw [Kk h d e (a+1) _ _ oM,XQ,show a+1+e=a+(e+1) by omega]
  rfl
theorem Qi (b:A.Cl) (d:A.n=d6.bl.toNat) (e:a+c<=A.l.length) (f:c9.S=⟨A.n,A.l.take a⟩) (g:c9.waits=[]):fm d6 c9 ((A.l.drop a).take c)=((A.l.drop a).take c,[]):=by
 have h:=(b.take (k:=a) oM).2;unfold fm;rw [f,g,lJ h d];show(kW ((dI d6.buffer.toNat ((A.l.drop a).take c) ⟨A.n,A.l.take a⟩ [] []).2.2.length+1) (dI d6.buffer.toNat ((A.l.drop a).take c) ⟨A.n,A.l.take a⟩ [] []).1 (dI d6.buffer.toNat ((A.l.drop a).take c) ⟨A.n,A.l.take a⟩ [] []).2.1 (dI d6.buffer.toNat ((A.l.drop a).take c) ⟨A.n,A.l.take a⟩ [] []).2.2)=_;rw [Kk b _ c a [] [] e];simp [kW,bI,cW,cP]
theorem Kl (b:A.Cl) (d:A.n=d6.bl.toNat) (e:a+c<=A.l.length):dZ d6 ⟨A.n,A.l.take a⟩ ((A.l.drop a).take c)=⟨A.n,A.l.take (a+c)⟩:=by
 rw [<-(b.take e).1];unfold dZ;rw [<-d];dsimp only;rw [List.take_add]
theorem Ig {b:Type} {c:b->Int}:∀{a:List b},(∀x∈a,c x=0)->cO c a=0
 |[],_=>rfl
 |x::a,d=>by
  unfold cO
  rw [d x (QV ..),Ig λe f=>d e (QJ _ f)];rfl
theorem Dz.step (k:A.Cl) (hS:A.l.length<=20000000) {d:cz} (n:A.n=d.bl.toNat) (hr:0<=d.bl) {b j:Nat} (J:Dz A b c9) (K:c9.D.Ok) {self other:Int} (r:0<=self/\self<d.bl) (s:0<=other/\other<d.bl) (L:self≠other) (hj:1<=j) (a1:(j:Int)<=d.chunk) (t:b+j<=A.l.length):
  ((bA d other c9 ⟨3,self,other,[],(A.l.drop b).take j⟩).2.1=0/\Dz A (b+j) (bA d other c9 ⟨3,self,other,[],(A.l.drop b).take j⟩).2.2)\/
  (bA d other c9 ⟨3,self,other,[],(A.l.drop b).take j⟩).2.1=3\/(bA d other c9 ⟨3,self,other,[],(A.l.drop b).take j⟩).2.1=12:=by
 obtain⟨u,M,a,a2,no,a3,a4,v,w,y,N,O,P,a5⟩:=J;have o:((A.l.drop b).take j).length=j:=by rw [Qy,XZ];omega
 have z:∀c∈(A.l.drop b).take j,c∈A.l:=λc f=>List.mem_of_mem_drop (List.mem_of_mem_take f);have Q:dJ ⟨3,self,other,[],(A.l.drop b).take j⟩ d.bl.toNat d.chunk=0:=by
  unfold dJ;dsimp only;rw [if_pos rfl,if_neg]
  ·unfold ez
   dsimp only;rw [if_neg sM,if_neg (by rw [o];omega)];exact Ig λc f=>by rw [<-n];exact k.ok.TC c (z c f)
  ·have R:((d.bl.toNat:Nat):Int)=d.bl:=oM
   rw [R];simp [r.1,r.2,s.1,s.2,L]
 have S:(A.l.drop b).take j≠[]:=λc=>by rw [c]at o;simp at o;omega
 have T:bA d other c9 ⟨3,self,other,[],(A.l.drop b).take j⟩=ia d other c9 ⟨3,self,other,[],(A.l.drop b).take j⟩:=by
  unfold bA;rw [v];dsimp only;rw [if_neg (by rw [Q];simp),if_neg sM,if_pos rfl]
 rw [T];generalize B:(A.l.drop b).take j=x at*;have U:fm d c9 x=(x,[]):=by rw [<-B];exact Qi k n t u M
 have V:dZ d c9.S x=⟨A.n,A.l.take (b+j)⟩:=by rw [u,<-B];exact Kl k n t
 have W:a.next<1000000000000:=oM
 obtain⟨X,h,C,q',p,q,-,-,Y,Z,g7⟩:=zo (x:=x) w y (λc f=>k.ok.ok c (z c f)) oM K P;obtain⟨b1,b2,b3⟩:=H_ w y N O W x;have e:bU d {c9 with waits:=[]} x=(if(az a c9.D x).1≠0 then((az a c9.D x).1,{c9 with waits:=[],log:=some (az a c9.D x).2.1,D:=(az a c9.D x).2.2})else
   if((az a c9.D x).2.2.sync (az a c9.D x).2.1.last).1≠0 then(((az a c9.D x).2.2.sync (az a c9.D x).2.1.last).1,{c9 with waits:=[],log:=some (az a c9.D x).2.1,D:=((az a c9.D x).2.2.sync (az a c9.D x).2.1.last).2})else
   (0,{c9 with waits:=[],log:=some (az a c9.D x).2.1,D:=((az a c9.D x).2.2.sync (az a c9.D x).2.1.last).2,S:=dZ d c9.S x})):=by
  unfold bU;dsimp only;rw [v]
 have E:ia d other c9 ⟨3,self,other,[],x⟩=(if(bU d {c9 with waits:=[]} x).1≠0 then([],(bU d {c9 with waits:=[]} x).1,{(bU d {c9 with waits:=[]} x).2 with waits:=[]})else([yN (bU d {c9 with waits:=[]} x).2.S other self],0,(bU d {c9 with waits:=[]} x).2)):=by
  unfold ia;dsimp only;rw [U];dsimp only;rw [if_neg S]
 generalize a6:az a c9.D x=l at*
 by_cases m:l.1≠0
 ·rw [if_pos m]at e
  rw [E,e,if_pos m];exact .inr (b2.resolve_left m)
 rw [if_neg m]at e;rw [cE.rQ q]at e;obtain⟨a7,f1,-⟩:=p.last;obtain⟨s1,i⟩:=b1.sync (au h);have i:=i _ f1;rw [if_neg (by rw [i];simp)]at e;rw [E,e,if_neg sM];refine .inl ⟨rfl,V,rfl,l.2.1,X,h,C,C.length,rfl,?_,q,s1,?_,by rw [Y];exact Z,?_⟩
 ·rcases sK p with g|g
  ·exact g.2
  ·exact absurd i g.1
 ·intro F m1 m2
  show ay (l.2.2.sync (au h)).2.files (au F)=none;rcases iL l.2.2 (au h)with⟨H,I⟩|⟨H,a8,a0,I⟩
  ·exact absurd i H
  ·have:=p.mL;have:=q.next
   rw [I,bu,if_neg (by simpa using λc=>by have:=gi (a:=h) oM c;omega)];exact b3 F m1 m2
 ·rcases g7 with⟨-,-,g⟩|⟨-,-,g⟩<;>(rw [g];omega)
theorem Gu:(aM (eS 262144) 131072).no=0:=by decide+kernel
theorem Ql {self other:Int} (f:kU d6 self) (q:0<=other/\other<d6.bl) {S:aq} (i:S.n=d6.bl.toNat):(bj (lQ d6) other).1=0/\Dz S 0 (bj (lQ d6) other).2:=by
 have j:gG (lQ d6) other=true:=by
  have a:=f.right;unfold gG lQ at*;simp only [QK,decide_eq_true_eq]at a⊢;obtain⟨⟨⟨⟨⟨⟨⟨⟨k,b⟩,g⟩,h⟩,l⟩,c⟩,d⟩,e⟩,m⟩:=a;exact⟨⟨⟨⟨⟨⟨⟨⟨k,by unfold within;simp;omega⟩,dC⟩,dC⟩,dC⟩,c⟩,d⟩,e⟩,m⟩
 have n:bj (lQ d6) other=qA (lQ d6):=by
  unfold bj;rw [if_neg (by simpa [lQ]using f.decl),if_neg (by rw [j];simp)]
 have o:qA (lQ d6)=(0,⟨⟨d6.bl.toNat,[]⟩,(aM (eS 262144) 131072).D,some (aM (eS 262144) 131072).V,[],⟨d6.dx,[],[]⟩⟩):=by
  rcases rR 262144 131072 with a|⟨a,b,-⟩
  ·rw [Gu]at a;omega
  ·unfold qA eR
   show(if(aM (eS (Int.toNat 262144)) 131072).no≠0 then _ else _)=_;rw [show Int.toNat 262144=262144 from rfl,if_neg (by rw [a];simp)];show((0:Int),bw.mk ((⟨d6.bl.toNat,[]⟩:aq).eI (aM (eS 262144) 131072).out) _ _ _ _)=_;rw [b];rfl
 rw [n,o];rcases rR 262144 131072 with a|⟨a,b,g,h,l,c,d,e⟩
 ·rw [Gu]at a;omega
 ·exact⟨rfl,by rw [i];simp,rfl,_,_,_,_,_,rfl,g,h,d,e,by intro r p;simp at p,by rw [c];omega⟩
def ou:aR:=⟨[[⟨1,1,true,[]⟩,⟨2,3,false,[]⟩,⟨3,2,false,[]⟩,⟨4,2,false,[⟨0,1,0,2⟩,⟨1,0,-1,0⟩,⟨0,2,-1,0⟩]⟩,⟨2,2,false,[]⟩,⟨1,1,false,[]⟩]],[⟨0,0,1,0,2⟩,⟨0,2,2,0,1⟩,⟨0,5,3,4,4⟩]⟩
def cf (a:Int):cz:=⟨a,131072,400,3,20,5,4,0,ou⟩
def Tx:Bool:=
 (bj (cf 2) 0).1==0&&((bj (cf 2) 1).1==0&&((cm (cf 2) 0 (bj (cf 2) 0).2 ⟨0,0,0,1,3,-1,0⟩).1==0&&((cm (cf 2) 0 (bj (cf 2) 0).2 ⟨0,0,0,1,3,-1,0⟩).2.1==((0:Int),(1:Int))&&((ET ou (bj (cf 2) 1).2.S.l 0 0).code==14&&((gP (cf 2) 1 (bj (cf 2) 1).2 0 0).1.length==1&&
  (match t_ (cf 2) 1 (cf 2) 0 1 0 100 (gP (cf 2) 1 (bj (cf 2) 1).2 0 0).2 (cm (cf 2) 0 (bj (cf 2) 0).2 ⟨0,0,0,1,3,-1,0⟩).2.2 (gP (cf 2) 1 (bj (cf 2) 1).2 0 0).1 with
  |none=>false
  |some (a,b)=>(ET ou a.S.l 0 0).code==0&&((ET ou a.S.l 0 0).st.cells.length==6&&(((ET ou a.S.l 0 0).st.cells.getD 0 ⟨0,[]⟩).n==3&&((ET ou a.S.l 0 0).st.version==1&&a.S.vec==[1,0])))))))))
theorem NL:Tx=true:=by decide+kernel
theorem Row.Bi {c:kM j} {bytes a:Nat} {D:Nat->Prop} (f:b.heap[a]? =some (.cells r g H)) {xs:List j} (m:bT c b D xs r.toList) (q:0<c.k) (d:xs.length*bytes<=aQ):Row c bytes b (λe=>e=a\/D e) (some ⟨a,0,none⟩) xs.length xs:=
 ⟨rfl,d,λs t n=>by
  obtain⟨h,o,i⟩:=m.at n;have u:=c.len i;refine⟨a,0,h,rfl,aC f,.inl rfl,λk p=>?_,c.mono i λe d=>.inr d⟩;have l:=o k p;rw [Qq (show k<h.length by omega)]at l⊢;rw [Xz];exact ae f (by simpa using l)⟩
theorem i10 (a:(decide (-1000000<=e)&&decide (e<=1000000))=true):aN e:=by
 simp only [QK,decide_eq_true_eq]at a;unfold aN;omega
section
variable {w w' w0:World}
theorem NM:Calls ZQ 27 #[] w (Ok λv w'=>∃o tn x p q y G,v= .agg #[.slice o tn x,.slice p q y]/\bh w' G ou o tn p q/\(∀a,G a->w.heap.size<=a/\a<w'.heap.size)/\ai w w'):=by
 refine Hn (PA.mk λd z V A=>PA.mk λf B W C=>PA.mk λh r X E=>PA.mk λi m Y F=>PA.mk λs j Z H=>?_);have t:=((B.then r).then m).then j;refine PS.mk (t.get A id) sM λw6 I s6 J=>PS.mk J sM λe K s7 u=>⟨_,_,_,_,_,_,ae u rfl,ae u rfl,?_⟩
 have g:aj (λa=>a=w.heap.size) s e:=I.then K;have L:=g.get (j.get (m.get (r.get C id) id) id) (λb=>by have b:d.heap.size=w.heap.size:=b;omega);have M:=g.get (j.get (m.get E id) id) (λb=>by have b:f.heap.size=w.heap.size:=b;omega);have N:=g.get (j.get F id) (λb=>by have b:h.heap.size=w.heap.size:=b;omega);have O:=g.get H (λb=>by have b:i.heap.size=w.heap.size:=b;omega);have P:Row gC 32 e (λa=>a=d.heap.size\/False) (some ⟨d.heap.size,0,none⟩) 3 [⟨0,1,0,2⟩,⟨1,0,-1,0⟩,⟨0,2,-1,0⟩]:=
  Row.Bi (c:=gC) (xs:=[⟨0,1,0,2⟩,⟨1,0,-1,0⟩,⟨0,2,-1,0⟩]) (D:=λ_=>False) L ⟨_,_,rfl,⟨rfl,i10 rfl,i10 rfl,i10 rfl,i10 rfl⟩,_,_,rfl,⟨rfl,i10 rfl,i10 rfl,i10 rfl,i10 rfl⟩,_,_,rfl,⟨rfl,i10 rfl,i10 rfl,i10 rfl,i10 rfl⟩,rfl⟩ dC dC
 have Q:Row pT 48 e (λa=>a=f.heap.size\/a=d.heap.size\/False) (some ⟨f.heap.size,0,none⟩) 6 [⟨1,1,true,[]⟩,⟨2,3,false,[]⟩,⟨3,2,false,[]⟩,⟨4,2,false,[⟨0,1,0,2⟩,⟨1,0,-1,0⟩,⟨0,2,-1,0⟩]⟩,⟨2,2,false,[]⟩,⟨1,1,false,[]⟩]:=by
  have no:∀(k l:Int) (n:Bool),aN k->aN l->pT.rep e (λa=>a=d.heap.size\/False) ⟨k,l,n,[]⟩ [QH k,QH l,.bool n,.slice none 0 0]:=λk l n R S=>⟨none,0,0,rfl,eE _ _,R,S⟩
  exact Row.Bi (c:=pT) (xs:=[⟨1,1,true,[]⟩,⟨2,3,false,[]⟩,⟨3,2,false,[]⟩,⟨4,2,false,[⟨0,1,0,2⟩,⟨1,0,-1,0⟩,⟨0,2,-1,0⟩]⟩,⟨2,2,false,[]⟩,⟨1,1,false,[]⟩]) (D:=λa=>a=d.heap.size\/False) M ⟨_,_,rfl,no 1 1 true (i10 rfl) (i10 rfl),_,_,rfl,no 2 3 false (i10 rfl) (i10 rfl),_,_,rfl,no 3 2 false (i10 rfl) (i10 rfl),_,_,rfl,⟨_,_,_,rfl,P,i10 rfl,i10 rfl⟩,_,_,rfl,no 2 2 false (i10 rfl) (i10 rfl),_,_,rfl,no 1 1 false (i10 rfl) (i10 rfl),rfl⟩ dC dC
 have T:Row wH 40 e (λa=>a=h.heap.size\/False) (some ⟨h.heap.size,0,none⟩) 3 ou.projs:=
  Row.Bi (c:=wH) (xs:=[⟨0,0,1,0,2⟩,⟨0,2,2,0,1⟩,⟨0,5,3,4,4⟩]) (D:=λ_=>False) N ⟨_,_,rfl,⟨rfl,i10 rfl,i10 rfl,i10 rfl,i10 rfl,i10 rfl⟩,_,_,rfl,⟨rfl,i10 rfl,i10 rfl,i10 rfl,i10 rfl,i10 rfl⟩,_,_,rfl,⟨rfl,i10 rfl,i10 rfl,i10 rfl,i10 rfl,i10 rfl⟩,rfl⟩ dC dC
 have U:Row lv 24 e (λa=>a=i.heap.size\/a=f.heap.size\/a=d.heap.size\/False) (some ⟨i.heap.size,0,none⟩) 1 ou.types:=
  Row.Bi (c:=lv) (xs:=[[⟨1,1,true,[]⟩,⟨2,3,false,[]⟩,⟨3,2,false,[]⟩,⟨4,2,false,[⟨0,1,0,2⟩,⟨1,0,-1,0⟩,⟨0,2,-1,0⟩]⟩,⟨2,2,false,[]⟩,⟨1,1,false,[]⟩]]) (D:=λa=>a=f.heap.size\/a=d.heap.size\/False) O ⟨_,_,rfl,⟨_,_,_,rfl,Q⟩,rfl⟩ dC dC
 refine Ok.mk ⟨_,_,_,_,_,_,λa=>(a=i.heap.size\/a=f.heap.size\/a=d.heap.size\/False)\/a=h.heap.size\/False,rfl,⟨U.mono λa c=>.inl c,T.mono λa c=>.inr c⟩,λa c=>?_,?_⟩
 ·have z7:e.heap.size=s.heap.size:=oM
  rcases c with(rfl|rfl|rfl|c)|rfl|c<;>first|omega|exact c.elim
 ·exact(z.then t).new g λa c=>.inr (by have c:a=w.heap.size:=c;omega)
theorem sv :Calls ZQ 8 #[QH e] w (Ok λm w'=>∃b tn g c d h G,m=lK (cf e) b tn g c d h/\bh w' G ou b tn c d/\(∀a,G a->w.heap.size<=a/\a<w'.heap.size)/\ai w w'):=by
 refine Es (PA.mk λr n s o=>PC.ok NM ?_);rintro _ t ⟨b,tn,g,c,d,h,G,rfl,p,i,j⟩;refine⟨_,_,_,_,_,_,rfl,aD (gD (cf e) b tn g c d h) (j.get o id) rfl λu k v q=>aw (gD (cf e) b tn g c d h) q (Ok.mk ⟨b,tn,g,c,d,h,G,rfl,p.keep k λa f l=>by have l:a=w.heap.size:=l;have:=i a f;omega,λa f=>by have:=i a f;omega,(n.then j).new k λa f=>.inr (by have f:a=w.heap.size:=f;omega)⟩)⟩
theorem Yp (a:jS):TF (fe ZQ 49) (uu a)=true:=kR
theorem Rf {a arg:Int}:Calls ZQ 30 #[QH a,QH arg] w (Ok λc w'=>c=uu ⟨0,a,0,1,arg,-1,0⟩/\ai w w'):=
 Jf (PA.mk λi d j e=>aD (BF ⟨0,a,0,1,arg,-1,0⟩) e rfl λk f l g=>aw (BF ⟨0,a,0,1,arg,-1,0⟩) g (Ok.mk ⟨rfl,d.new f λh b=>.inr (by have b:h=w.heap.size:=b;omega)⟩))
theorem gw.made {h G:Nat->Prop} {k l:cz} {n o:bw} (p:eM w0) (q:Laid w0) (g:ai w0 w) (r:bP b a h k e n) (t:∀d,h d->w.heap.size<=d) (i:ai w b) (j:ai b w') (f:bP w' c G l m o) (s:∀d,G d->b.heap.size<=d):gw w0 w' a c h G k e l m n o:=
 ⟨r.af j,f,⟨p,q,g.then (i.then j),λd f=>by have:=t d f;have:=g.size;omega⟩,⟨p,q,g.then (i.then j),λd f=>by have:=s d f;have:=g.size;have:=i.size;omega⟩,λd u v=>by have:=r.aF d u;have:=s d v;omega⟩
theorem Lb:∃(g a h b e:bw) (i c:ve),bj (cf 2) 0=(0,g)/\bj (cf 2) 1=(0,a)/\cm (cf 2) 0 g ⟨0,0,0,1,3,-1,0⟩=(0,(0,1),h)/\ET ou a.S.l 0 0=i/\i.code=14/\(gP (cf 2) 1 a 0 0).1.length=1/\
  t_ (cf 2) 1 (cf 2) 0 1 0 100 (gP (cf 2) 1 a 0 0).2 h (gP (cf 2) 1 a 0 0).1=some (b,e)/\ET ou b.S.l 0 0=c/\c.code=0/\c.st.cells.length=6/\(c.st.cells.getD 0 ⟨0,[]⟩).n=3/\c.st.version=1/\b.S.vec=[1,0]:=by
 have f:=NL;unfold Tx at f;simp only [QK,beq_iff_eq]at f;obtain⟨j,k,l,m,n,o,d⟩:=f;split at d
 ·cases d
 ·rename_i b e p
  simp only [QK,beq_iff_eq]at d;obtain⟨q,r,s,t,u⟩:=d;exact⟨_,_,_,b,e,_,_,Prod.ext j rfl,Prod.ext k rfl,Prod.ext l (Prod.ext m rfl),rfl,n,o,p,rfl,q,r,s,t,u⟩
theorem KI (k:eM w0) (l:Laid w0) (m:ai w0 w):Calls ZQ 11 #[] w (Ok λa3 w'=>a3= .bool true/\ai w w'):=by
 obtain⟨H,XB,i3,YB,YA,i4,I,e1,e2,e3,e4,e5,e6,e7,e8,e9,i5,d8,d9,e0⟩:=Lb;have J:(cf 2).decl=ou:=rfl;refine Ep (PC.ok sv ?_);rintro _ w2 ⟨ta,tn,tc,pa,pn,pc,G2,rfl,f2,f3,n⟩;refine cu (JH (cf 2) ta tn tc pa pn pc) ⟨rfl,PC.ok (Be (c:=cf 2) k l (m.then n) f2 (λb a=>(f3 b a).2) (i10 rfl) (i10 rfl) (i10 rfl)) ?_⟩;rintro v5 w5 c;unfold MU at c;rw [e1]at c;obtain⟨k5,⟨o,-⟩|⟨-,a4,a5,rfl,K,p,f4⟩⟩:=c
 ·exact absurd rfl o
 dsimp only at K f4;have e:=n.then k5;refine⟨_,_,rfl,PC.ok sv ?_⟩;rintro _ w9 ⟨tb,tm,td,pb,pm,pd,G9,rfl,f5,f7,f⟩;refine cu (JH (cf 2) tb tm td pb pm pd) ⟨rfl,PC.ok (Be (c:=cf 2) k l ((m.then e).then f) f5 (λb a=>(f7 b a).2) (i10 rfl) (i10 rfl) (i10 rfl)) ?_⟩;rintro i6 g0 c;unfold MU at c;rw [e2]at c;obtain⟨L,⟨o,-⟩|⟨-,a6,G,rfl,M,N,g1⟩⟩:=c
 ·exact absurd rfl o
 dsimp only at M g1;have z5:=e.size;have z9:=f.size;have z2:=n.size;generalize i7:cf 2=q at*;have g2:gw w0 g0 a4 a6 a5 G q 0 q 1 H XB:=gw.made (w:=w) k l m K (λb a=>by have:=p b a;omega) e (f.then L) M λb a=>by have:=N b a;omega
 have O:=(e.then f).then L;refine⟨_,_,rfl,al.dw (λh=>absurd rfl h) (λ_=>al.dw (λh=>absurd rfl h) (λ_=>fQ Tryz.underlying33 ⟨_,rfl,al.ff rfl (fQ Tryz.underlying33 ⟨_,rfl,al.ff rfl (PC.ok Rf ?_)⟩)⟩))⟩;rintro _ i8 ⟨rfl,r⟩;have s:=g2.af r;have g3:jS.Ok ⟨0,0,0,1,3,-1,0⟩:=⟨i10 rfl,i10 rfl,i10 rfl,i10 rfl,i10 rfl,i10 rfl⟩
 refine cu (Yp _) ⟨rfl,PC.ok (rL s.a s.ea g3 oM) ?_⟩;have t:=CP q 0 H ⟨0,0,0,1,3,-1,0⟩;rintro _ u ⟨i9,g,v,x⟩;rw [e3]at t g v;dsimp only at t g v;have a7:=s.zD v x;rw [if_neg sM]at g;obtain⟨P,Q,R,S,T,U,V,W,X,-,rfl,-⟩:=g;refine cu (FT _ P Q R S T U V W X) ⟨rfl,PA.mk λj0 g4 j1 g5=>aD (lR _ P Q R S T U V W X) g5 rfl λg6 b2 j2 g7=>?_⟩;have Y:ai u g6:=g4.new b2 λb a=>.inr (by have a:b=u.heap.size:=a;omega);have Z:=a7.af Y;refine PC.ok (A_ Z.b) ?_;rintro _ b4 ⟨a0,y⟩;rw [J,e4]at a0;obtain⟨b5,b6,b7,b8,b9,c0,c1,c3,c4,-,rfl,-⟩:=a0;refine cu (FT _ b5 b6 b7 b8 b9 c0 c1 c3 c4) ⟨rfl,PA.mk λj3 g8 j4 g9=>aD (lR _ b5 b6 b7 b8 b9 c0 c1 c3 c4) g9 rfl λc5 z j5 h2=>?_⟩;have A:ai b4 c5:=g8.new z λb a=>.inr (by have a:b=b4.heap.size:=a;omega);have B:=A.get (y.get g7 id) id;refine⟨_,ae B rfl,al.dw (λh=>absurd rfl h) (λ_=>⟨_,_,ae B rfl,ae B rfl,aH.mk Sn ⟨_,rfl,al.ff rfl ⟨_,ae h2 rfl,al.dw (λh=>absurd e5 h) (λ_=>?_)⟩⟩⟩)⟩;have a8:=(Z.af y).af A;refine PC.ok (MJ (most:=100) a8.swap (i10 rfl) dC oM (by rcases t.evs with h|h<;>omega) e6 e7) ?_;rintro _ j6 ⟨rfl,j7,j8,a1,a9⟩;refine⟨_,rfl,al.not (al.tt rfl (PC.ok (A_ a1.a) ?_))⟩;rintro _ C ⟨a2,c6⟩;rw [J,e8]at a2;have d:ai w C:=by
  have h3:ai w u:=(O.then r).new x.keep λb a=>.inr (by have:=p b a;omega);have z:ai w c5:=((h3.then Y).then y).then A;refine(z.new a9.keep λb a=>.inr ?_).then c6;rcases a with a|a
  ·have:=N b a;omega
  ·rcases x.new b a with h|h
   ·have:=p b h;omega
   ·have:=O.size;have:=r.size;omega
 obtain⟨c7,c8,c9,d0,d1,d2,d3,d4,d5,G3,rfl,i,-⟩:=a2;refine cu (FT I c7 c8 c9 d0 d1 d2 d3 d4 d5) ⟨rfl,PA.mk λj9 h4 k0 h5=>aD (lR I c7 c8 c9 d0 d1 d2 d3 d4 d5) h5 rfl λh6 d6 k1 j=>?_⟩;have E:ai C h6:=h4.new d6 λb a=>.inr (by have a:b=C.heap.size:=a;omega);have i:=i.af E;have k3:=i.len;obtain⟨b,b0,k4,k6,k7,rfl,k8,-,h7,-⟩:=ni (i:=0) i oM;refine⟨_,ae j rfl,al.dX (λ_=>⟨_,_,_,ae j rfl,al.dX (λ_=>⟨_,_,_,ae j rfl,b,b0,rfl,oM,oM,_,h7,al.dX (λ_=>⟨_,ae j rfl,al.dX (λ_=>?_) (λh=>absurd d9 h)⟩) (λh=>absurd d8 h)⟩) (λh=>absurd oM h)⟩) (λh=>absurd e9 h)⟩;refine PC.ok (Io ((a1.a.af c6).af E)) ?_;rintro _ l0 ⟨l3,l4,l5,l6,rfl,F,h8,i1⟩;rw [e0]at F;have i2:=F.len dC;refine⟨_,_,_,rfl,PA.mk λl7 d7 l8 h9=>PC.ok (jM (xs:=[1,0]) (ys:=[1,0]) ((F.af d7).row dC dC) (Row.lit h9 [1,0] rfl (λb1 hx=>by simp at hx;rcases hx with rfl|rfl<;>exact i10 rfl) dC)) ?_⟩;rintro _ l9 ⟨rfl,i0⟩;exact⟨_,rfl,Ok.mk ⟨sM,(((d.then E).then h8).then d7).then i0.keep⟩⟩
end
section
variable {w w' w0:World} {p q:Nat} {F G D E:Nat->Prop} {c e:cz} {self other:Int} {X Y:bw}
theorem vr (c:cz) (self:Int):(bj c self).2.fP.asked=[]:=by
 have a:(qA c).2.fP.asked=[]:=by unfold qA;rw [zl]
 unfold bj;split
 ·exact a
 split<;>exact a
theorem bP.cl (a:bP w p F c self X):X.S.Cl/\X.S.n=c.bl.toNat:=by
 obtain⟨e,f,b,d⟩:=a;exact(d.at' 3).2
theorem bP.Zb (e:bP w p F c self X):X.D.Ok:=by
 obtain⟨j,b,a,f⟩:=e;obtain⟨Fd,g,-⟩:=(show DL w (λd=>F d/\a d=2) b.dp b.lp X.D X.log from f.at' 2)
 exact g.ok
theorem kq (d:eM w0) (e:Laid w0) (b:ai w0 w):PC ZQ 11 #[] w (λa f=>∃c:Bool,a= .bool c/\Ok (λa w'=>a= .bool true/\ai w0 w') (.returned (.bool c)) f) a0:=by
 refine PC.ok (KI d e b) ?_;rintro _ w' ⟨rfl,g⟩;exact⟨_,rfl,Ok.mk ⟨rfl,b.then g⟩⟩
theorem su {e f:Option Addr} {tn j g k:Nat} (l:eM w0) (m:Laid w0) (n:ai w0 w) (q:bh w D c.decl e tn f g) (r:aN c.aZ) (s:aN c.every) (t:aN c.start) 
  (u:∀v w',ai w w'->(bj c self).1≠0->o (.tuple #[.pointer v,QH (bj c self).1]) w')
  (x:∀p F w',(bj c self).1=0->ai w w'->bP w' p F c self (bj c self).2->(∀a,F a->w.heap.size<=a)->(bj c self).2.S.l.length<=16777216->o (.tuple #[.pointer (some ⟨p,0,none⟩),QH 0]) w'):
  PC ZQ 13 #[lK c e tn j f g k] w (λy w'=>yY (fe ZQ 28) λh=>y=h/\PC ZQ 12 #[h,QH self] w' o a0) f1:=by
 refine PC.ok (wN q) ?_;rintro _ P ⟨z,A,B,C,E,H,Q,rfl,I,J,b⟩;refine cu (JH c z A B C E H) ⟨rfl,PC.ok (Be l m (n.then b) I (λa d=>(J a d).2) r s t) ?_⟩;rintro R S ⟨i,⟨K,rfl⟩|⟨L,p,F,rfl,M,N,O⟩⟩
 ·exact u _ _ (b.then i) K
 ·exact x p F _ L (b.then i) M (λa d=>by have:=N a d;have:=b.size;omega) O
theorem OO {b a:Int} (c:a≠0) (d e:Operand):(do eqGuard .rem 3 d e (QH b) (QH a);binOp .rem 3 (QH b) (QH a):Sem Value).run ZQ w= .ok (QH (b.tmod a)) w:=by
 simp [eqGuard,binOp,Op.intDiv,c]
end
section
variable {w w' w0:World} {p q:Nat} {F G D E:Nat->Prop} {c e:cz} {self other:Int} {X Y:bw}
set_option maxHeartbeats 2000000 in
theorem vw {J K la:Option Addr} {tn W L X Z lc:Nat} (l:eM w) (m:Laid w) (hd:bh w D c.decl J tn K L) (hD:∀a,D a->a<w.heap.size) (hl:Row PJ 152 w E la Z h0) (hE:∀a,E a->a<w.heap.size) (hs:aN c.aZ) (g9:aN c.every) (d1:aN c.start):
  Calls ZQ 6 #[lK c J tn W K L X,QH self,QH other,.slice la Z lc] w (Ok λe0 w'=>e0= .bool true/\ai w w'):=by
 have m2:=hl.len;have e1:=hl.d_;unfold aQ at e1;refine qy (PA.mk λM k1 o g1=>aw (gD c J tn W K L X) g1 (PC.ok (oX (hd.af k1) (hl.af k1)) ?_));rintro _ w3 ⟨⟨h5,rfl,h3⟩,k3⟩;have v:=k1.then k3;have c1:=k3.get g1 id;refine⟨_,rfl,al.mk (λ_=>kq l m v) (λh4=>?_)⟩;obtain⟨k5,h6⟩:=h3 h4;refine⟨_,ae c1 rfl,al.dec (λ_=>kq l m v) (λN=>aw (gD c J tn W K L X) c1 (su l m v (hd.af v) hs g9 d1 (λx w5 O c2=>⟨_,_,rfl,al.dw (λ_=>kq l m (v.then O)) (λh=>absurd h c2)⟩) ?_))⟩;intro p F w5 hz O hA hF h7;have c3:=v.then O;have h8:=O.get c1 id;refine⟨_,_,rfl,al.dw (λh=>absurd rfl h) (λ_=>?_)⟩;have b4:(bj c self).2.fP.asked=[]:=vr c self;generalize(bj c self).2=X0 at hA h7 b4;have z1:w.heap.size<M.heap.size:=oM
 have z3:=k3.size;refine⟨λP x w'=>∃(j:Nat) (y:Nat->Prop) (f:bw),x=j/\j<=Z/\P=Z-j/\bP w' p y c self f/\aj (λa=>M.heap.size<=a) w5 w'/\(∀a,y a->M.heap.size<=a)/\f.S.l.length<=16777216+300*j/\f.fP.asked.length<=j,
  ⟨_,0,F,X0,rfl,Qj _,rfl,hA,aj.refl _,λa b=>by have:=hF a b;omega,oM,by rw [b4];exact Qj _⟩,?_⟩
 rintro P _ _ w8 ⟨j,y,f,rfl,hj,rfl,Q,R,c4,m3,m4⟩;have kE:aj (λa=>M.heap.size<=a) w w8:=(ai.keep c3).then R;have a7:ai w w8:=c3.new R λa b=>.inr (by have b:M.heap.size<=a:=b;omega);have d2:=R.get h8 oM;have d3:Env w w8 y:=⟨l,m,a7,λa b=>by have:=c4 a b;omega⟩
 have z8:=R.size;have m5:=c3.size;have z5:=O.size;refine al.dec (λh9=>?_) (λi0=>?_)
 ·have i1:=hl.keep kE λa b h=>by have:=hE a b;omega
  obtain⟨a,g,b5,es,rfl,m6,m7,i2,i3,r,s,t,ea,en,ec,rfl,hv,he,e5⟩:=i1.sS (i:=j) oM;have e7:=h6 b5 (QZ i2);refine⟨a,g,rfl,oM,oM,br (es:=jZ b5 r s t ea en ec) (k:=15) (Of _ _ _ _ _ _ _) rfl (λx ht=>by rw [Qx];exact i3 x ht) (PC.ok (oY Q d3 e5 hv he e7 oM oM) ?_)⟩;rintro _ w9 ⟨F9,rfl,i4,b6,d6⟩;exact⟨_,rfl,_,oM,j+1,F9,_,an oM,oM,rfl,i4,R.then (b6.keep.mono λa _ b=>c4 a b),λa b=>(b6.new a b).elim (c4 a) λh=>oM,by rcases d6.evs with h|h<;>omega,by have:=d6.asked;omega⟩
 have a8:=Q.ok;obtain⟨i5,hn⟩:=Q.cl;obtain⟨m8,m9⟩:=a8.vf;obtain⟨n0,n1,n2⟩:=a8.bl;obtain⟨i6,i7⟩:=a8.JG;refine aw (gD c J tn W K L X) d2 (PC.ok (wN (hd.af a7)) ?_);rintro _ z ⟨A,B,C,r,s,t,n3,rfl,e8,e9,a9⟩;refine cu (JH c A B C r s t) ⟨rfl,PA.mk λn4 i8 n8 i9=>aD (gD c A B C r s t) i9 rfl λn9 j0 o0 j1=>?_⟩;refine PS.mk j1 (by simp [cC]) λj2 j3 o1 j4=>?_;have f0:j2.heap[z.heap.size]? =some (.cells (cC {c with nY:=262144} A B C r s t).toArray 28 (0,0)):=by rw [j4];rfl
 refine PS.mk f0 (by simp [cC]) λj5 j6 o2 j7=>?_;have f1:j5.heap[z.heap.size]? =some (.cells (cC {c with nY:=262144,aZ:=131072} A B C r s t).toArray 28 (0,0)):=by rw [j7];rfl
 refine PS.mk f1 (by simp [cC]) λT j8 o3 j9=>?_;have f4:T.heap[z.heap.size]? =some (.cells (cC (lQ c) A B C r s t).toArray 28 (0,0)):=by rw [j9];rfl
 have nn:∀a,a=z.heap.size->False\/z.heap.size<=a:=λa e=>.inr (Nat.le_of_eq e.symm);have U:ai z T:=(((i8.new j0 nn).new j3 nn).new j6 nn).new j8 nn;have o4:=a9.size;have zc:=U.size;have a2:=U.get (a9.get d2 id) id;refine⟨_,ae a2 rfl,PC.ok (CN (by unfold aN;omega)) ?_⟩;rintro _ _ ⟨rfl,rfl⟩;have hp:=vm (k:=other) (n:=c.bl) oM;have hw:IntKind.wrap .i64 (pick other c.bl+1)=pick other c.bl+1:=wrap_i64 (by unfold aN;omega);refine⟨_,rfl,λg w'=>T=w'/\0<=g/\g<c.bl/\self≠g,?_,?_⟩
 ·refine al.dX (λh=>⟨_,ae a2 rfl,aH.mk (OO oM _ _) ⟨_,rfl,rfl,?_⟩⟩) (λh=>⟨rfl,hp.1,hp.2,λe=>h e.symm⟩)
  rw [hw,Int.tmod_eq_emod_of_nonneg oM]
  by_cases hx:pick other c.bl+1<c.bl
  ·rw [Int.emod_eq_of_lt oM hx];omega
  ·rw [show pick other c.bl+1=c.bl by omega,Int.emod_self];omega
 rintro g _ _ ⟨rfl,e2,e3,c2⟩;refine aw (gD (lQ c) A B C r s t) f4 (PC.ok (Be (c:=lQ c) (self:=g) l m (a7.then (a9.then U)) (e8.af U) (λa b=>by have:=(e9 a b).2;omega) (show aN 131072 by unfold aN;omega) (show aN 3 by unfold aN;omega) d1) ?_);rintro o5 e4 ⟨c5,k0⟩;obtain⟨k2,hH⟩:=Ql (self:=self) (other:=g) a8 ⟨e2,e3⟩ (S:=f.S) hn;obtain⟨-,q,G,rfl,hB,hG,a3⟩:=k0.resolve_left λh=>h.1 k2;generalize(bj (lQ c) g).2=Y0 at hH hB a3;have o6:=c5.size;have a4:=(a9.then U).then c5;have f6:=Q.aF;refine⟨_,_,rfl,al.dw (λh=>absurd rfl h) (λ_=>fQ Tryz.underlying33 ⟨_,rfl,al.ff rfl ?_⟩)⟩;have b7:gw w e4 p q y G c self (lQ c) g f Y0:=⟨Q.af a4,hB,d3.af a4,⟨l,m,a7.then a4,λa b=>by have:=hG a b;omega⟩,λa hf hg=>by have:=f6 a hf;have:=hG a hg;omega⟩
 refine PC.ok (e_ b7.a oM) ?_;rintro _ c6 ⟨k4,i,e6,k6,rfl,a0,c7,b8⟩;have f7:=a0.len dC;have f8:=a0.jx;have a5:=a0.aF;have b9:=c7.get (c5.get a2 id) id;have k7:=hB.aF;have o7:=c7.size;have l7:f.S.l.length<=17000000:=oM
 obtain⟨H,k⟩:∃H:Nat->Prop,H=λa=>(T.heap.size<=a/\a<e4.heap.size)\/c6.heap.size<=a:=⟨_,rfl⟩
 have V:∀a,a<T.heap.size->¬H a:=λa b h=>by rw [k]at h;rcases h with h|h<;>omega
 obtain⟨n,o8⟩:∃n:Nat,c.chunk=n:=⟨c.chunk.toNat,oM⟩
 refine⟨_,_,_,rfl,λP x w'=>∃(d:Nat) (G2:Nat->Prop) (Y:bw),x=d/\P=i-d/\d<=i+32/\gw w w' p q y G2 c self (lQ c) g f Y/\Dz f.S (min d i) Y/\aj H c6 w'/\∀a,G2 a->H a,
  ⟨_,0,G,Y0,rfl,rfl,oM,b7.af c7,by rw [Nat.zero_min];exact hH,aj.refl _,λa b=>by rw [k];exact .inl ⟨hG a b,k7 a b⟩⟩,?_⟩
 rintro P _ _ k8 ⟨d,G2,Y,rfl,rfl,hk,u,a6,b0,c8⟩;have f9:=a0.keep b0 λa b h=>by rw [k]at h;have:=b8 a b;have:=a5 a b;rcases h with h|h<;>omega
 have c0:=b0.get b9 (V _ oM);have d4:Row fZ 96 k8 k6 k4 i f.S.l:=f9.row dC (by unfold aQ;omega);have o9:=b0.size;refine al.dec (λh9=>?_) (λi0=>?_)
 ·have p0:d<i:=oM
  have f2:IntKind.wrap .i64 ((d:Int)+c.chunk)=((d+n:Nat):Int):=by rw [wrap_i64 (by unfold aN;omega)];omega
  have b1:(if IntKind.wrap .i64 ((d:Int)+c.chunk)<((i:Nat):Int)then IntKind.wrap .i64 ((d:Int)+c.chunk)else((i:Nat):Int))=((min (d+n) i:Nat):Int):=by rw [f2];split<;>omega
  have d5:=d4.part (lo:=d) (hi:=min (d+n) i) (cap:=e6) oM oM f8;rw [List.drop_take]at d5;have l8:=u.b.aF;have f3:Dz f.S d Y:=by rw [X2 oM]at a6;exact a6
  have k9:Y.S.l.length<=18000000:=by rw [f3.set];simp;omega
  refine⟨_,ae c0 rfl,show(0:Int)<=(d:Int)from oM,show(d:Int)<=_ from by rw [b1];omega,show _<=((e6:Nat):Int)from by rw [b1];omega,?_⟩;rw [b1,Qx,Qx];refine PC.ok (kf (m:=⟨3,self,g,[],(f.S.l.drop d).take (min (d+n) i-d)⟩) (vc:=0) u.b u.eb (Row.nil _ (λ_=>False)) (λa h=>h.elim) d5 (λa b=>⟨by have:=a5 a b;omega,λh=>by have N:=c8 a h;rw [k]at N;have:=b8 a b;have:=a5 a b;rcases N with N|N<;>omega⟩) k9) ?_;rintro _ l0 ⟨v1,G3,rfl,⟨oa,on,oc,-,-,rfl,-⟩,g0,b2⟩;have b3:=u.OB g0 b2;have f5:aj H c6 l0:=b0.then (b2.keep.mono λa _ b=>c8 a b);have g3:=f5.get b9 (V _ oM);rcases Dz.step i5 oM (d:=lQ c) hn (show(0:Int)<=c.bl by omega) f3 u.b.Zb (self:=self) (other:=g) ⟨i6,i7⟩ ⟨e2,e3⟩ c2 (j:=min (d+n) i-d) oM (show _<=c.chunk by omega) oM with⟨o,s2⟩|o|o
  ·refine⟨_,_,_,_,rfl,al.dX (λh=>by rw [o]at h;cases h) (λ_=>al.dX (λh=>by rw [o]at h;cases h) (λ_=>al.dw (λh=>absurd o h) (λ_=>⟨_,ae g3 rfl,_,?_,d+n,G3,_,f2,rfl,oM,b3,?_,f5,λa b=>(b2.new a b).elim (c8 a) λh=>by rw [k];exact .inr oM⟩)))⟩
   ·omega
   ·rw [show d+(min (d+n) i-d)=min (d+n) i by omega]at s2;exact s2
  ·exact⟨_,_,_,_,rfl,al.dX (λh=>by rw [o]at h;cases h) (λ_=>al.dX (λ_=>kq l m b3.ea.gr) (λh=>absurd o h))⟩
  ·exact⟨_,_,_,_,rfl,al.dX (λ_=>kq l m b3.ea.gr) (λh=>absurd o h)⟩
 ·have I:Y.S=f.S:=by
   rw [a6.set,Nat.min_eq_right oM,f7,Qz (Q4 _)]
  refine PC.ok (e_ u.b (by rw [I];omega)) ?_;rintro _ p1 ⟨p2,p3,p4,p5,rfl,g5,c9,l9⟩;refine⟨_,_,_,rfl,PC.ok (lL (g5.row dC (by rw [I];unfold aQ;omega)) (d4.af c9)) ?_⟩;rintro _ p6 ⟨rfl,g2⟩;have d7:=(u.af c9).af g2;refine⟨_,rfl,al.dec (λ_=>?_) (λh=>absurd (by rw [I]) h)⟩;refine PC.ok (Io d7.a) ?_;rintro _ p7 ⟨p8,p9,q0,q1,rfl,g6,g4,m0⟩;have d8:=d7.af g4;refine⟨_,_,_,rfl,PC.ok (Io d8.b) ?_⟩;rintro _ l3 ⟨q2,q3,q4,q5,rfl,h1,d0,m1⟩;have h2:=d8.af d0;have g7:∀S:aq,S.n=c.bl.toNat->S.vec.length*8<=aQ:=λS h=>by rw [aq.b_,h];unfold aQ;omega
  refine⟨_,_,_,rfl,PC.ok (jM ((g6.af d0).row dC (g7 _ hn)) (h1.row dC (g7 _ (by rw [I];exact hn)))) ?_⟩;rintro _ l4 ⟨rfl,l5⟩;have g8:ai l3 l4:=l5.keep;have a1:=h2.af g8;have d9:=g8.get (d0.get (g4.get (g2.get (c9.get c0 id) id) id) id) id;refine⟨_,rfl,al.dec (λ_=>⟨_,_,_,_,_,_,ae d9 rfl,ae d9 rfl,?_⟩) (λh=>absurd (by rw [I]) h)⟩;refine PC.ok (rN a1.a a1.b rfl (by rw [I]) (hd.af a1.ea.gr)) ?_;rintro _ q6 ⟨rfl,l6⟩;exact⟨_,rfl,al.tt rfl (kq l m (a1.ea.gr.then l6))⟩
end
end Go.Proofs.YtfchlbaidamodaaGreatDoor

import Derived.Test.YtfchlbaidamodaaGreatDoorKc32
import Derived.Test.YtfchlbaidamodaaGreatDoorYcQue
set_option linter.all false
set_option maxRecDepth 100000
namespace Go.Proofs.YtfchlbaidamodaaGreatDoor
open Go.ax
def t_(d:cz)(e:Int)(g:cz)(h j k:Int):Nat->bw->bw->List dz->Option (bw×bw)
 |0,a,b,i=>if i=[]then some (a,b)else none
 |f+1,a,b,[]=>some (a,b)
 |f+1,a,b,c::i=>
  if c.qF=k then
   (if(bA g h b c).2.1≠0 then none else t_ d e g h j k f a (bA g h b c).2.2 (i++(bA g h b c).1))
  else if c.qF≠j then none else
   (if(bA d e a c).2.1≠0 then none else t_ d e g h j k f (bA d e a c).2.2 b (i++(bA d e a c).1))
abbrev mD(a:IC):List Value:=cD a.m a.va a.vn a.vc a.ea a.en a.ec
def fM(b:World)(e:Nat->Prop)(f:Nat)(c:Option Addr)(g h:Nat)(i:List dz):Prop:=
 ∃(d:List IC) (D:Nat->Prop),MH b 67 5 c g h (d.flatMap mD)/\d.map (·.m)=i/\(∀a∈d,a.In b D)/\(∀a,D a->a<b.heap.size/\aI c≠some a/\¬e a/\f<=a)/\∀a,aI c=some a->¬e a/\f<=a
def OA{c:World}{D:Nat->Prop}:∀{a:List IC} {cs:List Value},bT UG c D a cs->cs=a.flatMap mD
 |[],_,d=>by cases d;rfl
 |b::a,_,⟨h,i,e,⟨f,_⟩,g⟩=>by rw[e,f,OA g];rfl
def Wj:∀(c:List IC),∀a∈c.flatMap mD,a.oneCell'=true:=λc a b=>by
 obtain⟨d,-,b⟩:=List.mem_flatMap.1 b;exact UG.one (D:=λ_=>False) (w:=default) ⟨rfl,trivial⟩ a b
def Wl(a:List IC):(a.flatMap mD).length=a.length*5:=by
 induction a with
 |nil=>rfl
 |cons c a b=>rw[List.flatMap_cons,QX,b,Xq];show 5+_=_;omega
variable{f:Nat->Prop}{d4:bw}{e1:dz}
section
variable {w w' w0 w1 w2:World} {p q:Nat} {F G Z:Nat->Prop} {cA cB:cz} {sA sB i k:Int} {A B:bw} {a:Option Addr} {n c:Nat} {ms:List dz} {v:Value}
def fx.zB(i:fx w Z ms v w'){Y:Nat->Prop}(g:∀b,Y b->Z b\/b<w.heap.size):∃a n c,v= .slice a n c/\fM w' Y w.heap.size a n c ms:=by
 obtain⟨a,n,c,j,D,rfl,k,l,m,e,h⟩:=i;obtain⟨cs,q,o,p,r⟩:=k.body;have:=OA p;subst this;refine⟨a,n,c,rfl,j,D,o.Zm,l,m,λb d=>⟨(e b d).2.1,(e b d).2.2.1,λf=>?_,(e b d).1⟩,λb d=>⟨λf=>?_,(h b d).1⟩⟩
 ·have:=e b d;exact(g b f).elim this.2.2.2 oM
 ·have:=h b d;exact(g b f).elim this.2 oM
def fM.len{b:Nat}(d:fM w Z b a n c ms):n=ms.length:=by
 obtain⟨g,D,e,f,-⟩:=d;have:=e.len;rw[Wl]at this;rw[<-f,Q8];omega
def fM.lt{d:Nat}(e:fM w Z d a n c ms):∀b,aI a=some b->b<w.heap.size:=by
 obtain⟨g,D,f,-⟩:=e;exact f.lt
def fM.keep{i:Nat}(l:fM w Z i a n c ms)(e:aj f w w')(j:∀b,f b->Z b):fM w' Z i a n c ms:=by
 obtain⟨m,D,o,p,q,g,k⟩:=l;exact⟨m,D,o.keep e λb d h=>(k b d).1 (j b h),p,λb d=>(q b d).keep e λb d h=>(g b d).2.2.1 (j b h),λb d=>⟨Qk (g b d).1 e.size,(g b d).2⟩,k⟩
def fM.less{h i:Nat}(o:fM w Z h a n c ms)(j:∀b,f b->Z b\/w.heap.size<=b)(k:i<=h):fM w f i a n c ms:=by
 obtain⟨p,D,l,q,r,e,m⟩:=o;exact⟨p,D,l,q,r,λb d=>⟨(e b d).1,(e b d).2.1,λg=>(j b g).elim (e b d).2.2.1 (by have:=(e b d).1;omega),Xx k (e b d).2.2.2⟩,λb d=>⟨λg=>(j b g).elim (m b d).1 (by have:=l.lt b d;omega),Xx k (m b d).2⟩⟩
def fM.pop{m:Nat}(o:fM w Z m a n c (e1::ms)):∃g h p q u r s v D,a=some ⟨g,h,none⟩/\(∀e,e<5->w.cell? ⟨g,h+e,none⟩=(cD e1 p q u r s v)[e]?)/\Row aP 8 w D p q e1.vec/\Row fZ 96 w D r s e1.events/\(∀b,D b->b<w.heap.size/\¬Z b)/\fM w Z m (cM a 1 c 5) (n-1) (c-1) ms:=by
 have x:=o.len;obtain⟨f,D,i,y,j,l,z⟩:=o;rw[Xq]at x
 match f,i,y,j with
 |b::f,i,k,j=>
  simp only[QY,List.cons.injEq]at k;obtain⟨rfl,k⟩:=k;obtain⟨g,h,rfl,A⟩:=i.cell oM;have t:=j b (QV ..);refine⟨g,h,b.va,b.vn,b.vc,b.ea,b.en,b.ec,D,rfl,λe B=>?_,t.1,t.2,λb d=>⟨(l b d).1,(l b d).2.2.1⟩,f,D,?_,k,λC E=>j C (QJ _ E),λb d=>by rw[Kg];exact l b d,λb d=>by rw[Kg]at d;exact z b d⟩
  ·rw[A e oM,List.flatMap_cons,XW (show e<5 from B)]
  ·have:=i.tail oM;rw[List.flatMap_cons,show(mD b++f.flatMap mD).drop 5=f.flatMap mD from List.drop_left' rfl]at this;exact this
def fM.app{r M:TypeId}{s h:Nat}(A:fM w Z s a n c ms)(N:jP ZQ r 67 5 72){t:Option Addr}{f u:Nat}{v:List dz}(B:fM w Z h t f u v)(C:∀d,aI a=some d->d<h)(a4:s<=h)(a5:h<=w.heap.size)(hl:ms.length+v.length<=100000)(O:∀d,Z d->d<w.heap.size){E P:Value->World->Prop}(x:∀i j w',fM w' Z s i (n+f) j (ms++v)->aj (λk=>aI a=some k) w w'->E (.slice i (n+f) j) w'):
  aH ZQ (Builtin.append_ #[r,r] M #[.slice a n c,.slice t f u]) w E P:=by
 have hn:=A.len;have hm:=B.len;obtain⟨Q,D,R,S,T,F,I⟩:=A;obtain⟨y,U,l,V,W,J,r5⟩:=B;have X:t=none->f=0/\u=0:=λe=>by
  rcases l.body with⟨_,Y,h3⟩|⟨a0,a1,a2,g,_⟩
  ·exact⟨Y,h3⟩
  ·rw[e]at g;cases g
 refine R.app N (news:=y.flatMap mD) l.len X (λp hp k a6 K=>?_) (Wj y) (by unfold aQ;omega) (by unfold maxLen;omega) λi j w' z m o=>?_
 ·subst hp
  have a3:k<f*5:=by
   rw[<-l.len];exact(Qv.1 K).1
  obtain⟨a0,a1,g,hc⟩:=l.cell oM;cases g;rw[Addr.add_lit];exact(hc k a3).trans K
 ·rw[<-List.flatMap_append]at z
  have a7:=m.size;have a8:=z.lt;refine x i j w' ⟨Q++y,λd=>D d\/U d,z,by rw[Q3,S,V],λd b=>?_,λd b=>?_,λd b=>⟨λL=>?_,?_⟩⟩ m
  ·rcases Q6.1 b with b|b
   ·exact((T d b).keep m λd b=>(F d b).2.1).mono λd b=>.inl b
   ·exact((W d b).keep m λd b g=>by have:=C d g;have:=(J d b).2.2.2;omega).mono λd b=>.inr b
  ·rcases b with b|b
   ·have q:=F d b;refine⟨oM,λe=>?_,q.2.2.1,oM⟩;rcases o with H|H
    ·rw[H]at e;exact q.2.1 e
    ·rw[H]at e;cases e;omega
   ·have q:=J d b;refine⟨oM,λe=>?_,q.2.2.1,oM⟩;rcases o with H|H
    ·rw[H]at e;have:=C d e;omega
    ·rw[H]at e;cases e;omega
  ·rcases o with H|H
   ·rw[H]at b;exact(I d b).1 L
   ·rw[H]at b;cases b;have:=O _ L;omega
  ·rcases o with H|H
   ·rw[H]at b;exact(I d b).2
   ·rw[H]at b;cases b;omega
structure gw (w0 w:World) (p q:Nat) (F G:Nat->Prop) (cA:cz) (sA:Int) (cB:cz) (sB:Int) (A B:bw):Prop where
 a:bP w p F cA sA A
 b:bP w q G cB sB B
 ea:Env w0 w F
 eb:Env w0 w G
 apart:∀b,F b->¬G b
def gw.af(a:gw w0 w p q F G cA sA cB sB A B)(b:ai w w'):gw w0 w' p q F G cA sA cB sB A B:=⟨a.a.af b,a.b.af b,a.ea.af b,a.eb.af b,a.apart⟩
def gw.keep(b:gw w0 w p q F G cA sA cB sB A B)(d:aj f w w')(e:∀a,F a\/G a->¬f a)(g:∀a,f a->w0.heap.size<=a):gw w0 w' p q F G cA sA cB sB A B:=
 ⟨b.a.keep d λa c=>e a (.inl c),b.b.keep d λa c=>e a (.inr c),⟨b.ea.oH,b.ea.laid,b.ea.gr.new d λa c=>.inr (g a c),b.ea.aF⟩,⟨b.eb.oH,b.eb.laid,b.eb.gr.new d λa c=>.inr (g a c),b.eb.aF⟩,b.apart⟩
def gw.zD(a:gw w0 w p q F G cA sA cB sB A B)(h:bP w' p f cA sA d4)(d:de F w f w'):gw w0 w' p q f G cA sA cB sB d4 B:=
 ⟨h,a.b.keep d.keep λb c e=>a.apart b e c,a.ea.Ec d,⟨a.eb.oH,a.eb.laid,a.ea.gr.new d.keep λb c=>.inr (a.ea.aF b c),a.eb.aF⟩,λb c g=>(d.new b c).elim (λe=>a.apart b e g) λi=>by have:=a.b.aF b g;omega⟩
def gw.swap(a:gw w0 w p q F G cA sA cB sB A B):gw w0 w q p G F cB sB cA sA B A:=⟨a.b,a.a,a.eb,a.ea,λb c d=>a.apart b d c⟩
def gw.OB(a:gw w0 w p q F G cA sA cB sB A B)(b:bP w' q f cB sB d4)(c:de G w f w'):gw w0 w' p q F f cA sA cB sB A d4:=(a.swap.zD b c).swap
abbrev jJ(F G:Nat->Prop):Nat->Prop:=λa=>F a\/G a
def _root_.Go.ax.de.left(c:de F w f w'):de (jJ F G) w (jJ f G) w':=⟨c.keep.mono λd _ a=>.inl a,λd a=>a.elim (λb=>(c.new d b).imp .inl id) λb=>.inl (.inr b)⟩
def _root_.Go.ax.de.right(c:de G w f w'):de (jJ F G) w (jJ F f) w':=⟨c.keep.mono λd _ a=>.inr a,λd a=>a.elim (λb=>.inl (.inl b)) λb=>(c.new d b).imp .inr id⟩
end
def Zu:jP ZQ 63 67 5 72:=⟨kR,kR,dC⟩
def MI(b:aq)(a:Int)(c:dz)(d:Int):(mE b a c d).length<=2:=by
 unfold mE;split
 ·simp
 dsimp only;split<;>split<;>simp[List.isEmpty]
def zF(b:cz)(a:Int)(c:bw)(d:dz):(bA b a c d).1.length<=2:=by
 unfold bA;split
 ·simp
 dsimp only;split
 ·simp
 split
 ·simp
 split
 ·unfold ia
  dsimp only;split
  ·simp
  split<;>simp
 split
 ·exact MI _ _ _ _
 split<;>simp
section
variable {w w' w0 w1 w2:World} {p q:Nat} {F G Z:Nat->Prop} {cA cB:cz} {sA sB i k:Int} {A B:bw}
def MJ(b:gw w0 w p q F G cA sA cB sB A B)(hk:aN k){most:Nat}(g0:most<=1000)(hA:A.S.l.length<=17000000)(hB:B.S.l.length<=17000000)(h1:(gP cA sA A k 0).1.length=1){I J:bw}(hm:t_ cA sA cB sB i k most (gP cA sA A k 0).2 B (gP cA sA A k 0).1=some (I,J)):
  Calls ZQ 16 #[ZX p,ZX q,QH i,QH k,QH (most:Int)] w (Ok λK w'=>K= .bool true/\∃P Q,gw w0 w' p q P Q cA sA cB sB I J/\de (jJ F G) w (jJ P Q) w'):=by
 refine Hl (PC.ok (wO b.a hk) ?_);rintro _ w7 ⟨F7,T,d7,b6⟩;have d8:=b.zD d7 b6;have c8:=b.a.aF;have b8:=b.b.aF;obtain⟨g1,n7,g2,rfl,U⟩:=T.zB (Y:=jJ F7 G) λa b=>b.imp id λh=>b8 a h;have g3:=U.len;have d9:=CQ cA sA A k 0;refine⟨_,_,_,rfl,al.dw (λe0=>absurd oM e0) (λ_=>?_)⟩;refine⟨λb7 fa V r b1 w'=>∃(d:Nat) (f g:Nat->Prop) (l m:bw) (e:List dz),b1=d/\d<=most/\b7=most-d/\gw w0 w' p q f g cA sA cB sB l m/\de (jJ F G) w (jJ f g) w'/\fM w' (jJ f g) w.heap.size fa V r e/\e.length<=1+2*d/\
   t_ cA sA cB sB i k (most-d) l m e=some (I,J)/\l.S.l.length<=17000300+300*d/\m.S.l.length<=17000300+300*d,
  ⟨_,0,F7,G,_,B,_,rfl,Qj _,rfl,d8,b6.left,U.less (λa b=>.inl b) (Q4 _),oM,hm,by rcases d9.evs with h|h<;>omega,oM⟩,?_⟩
 rintro b7 fa V r _ _ b9 ⟨d,f,g,l,m,e,rfl,hj,rfl,W,a4,X,b2,c,g4,g5⟩;have L:=X.len;have c8:=W.a.aF;have b8:=W.b.aF;have C:∀{w':World} {f g:Nat->Prop} {Y:Nat} {e:List dz} {l m:bw},gw w0 w' p q f g cA sA cB sB l m->de (jJ F G) w (jJ f g) w'->Y=e.length->e=[]->some (l,m)=some (I,J)->
   Ok (λK w'=>K= .bool true/\∃P Q,gw w0 w' p q P Q cA sA cB sB I J/\de (jJ F G) w (jJ P Q) w') (.returned (.bool ((Y:Int)==0))) w':=λb e1 hn c0 Z=>by
  cases Z
  subst c0;subst hn;exact Ok.mk ⟨rfl,_,_,b,e1⟩
 refine al.dec (λc9=>?_) (λg6=>?_)
 rotate_left
 ·have:most-d=0:=oM;rw[this]at c;unfold t_ at c;split at c
  ·rename_i c0;exact C W a4 L c0 c
  ·cases c
 obtain⟨a5,s⟩:∃a5,most-d=a5+1:=⟨most-d-1,oM⟩;rw[s]at c
 match e,X,L,b2,c with
 |[],X,L,b2,c=>exact al.dec (λh0=>by simp at L;omega) (λ_=>C W a4 L rfl c)
 |x::e,X,L,b2,c=>
  rw[Xq]at L b2;refine al.dec (λ_=>?_) (λh0=>oM);obtain⟨a0,a1,va,vn,vc,ea,en,ec,D,rfl,hc,hv,Z,hD,e2⟩:=X.pop;refine⟨a0,a1,rfl,oM,oM,br (es:=cD x va vn vc ea en ec) (k:=5) (j_ _ _ _ _ _ _ _) rfl (λb1 ht=>hc b1 ht) (PA.mk λg7 e3 g8 e4=>aD (j_ x va vn vc ea en ec) e4 rfl λM e5 g9 c1=>⟨oM,oM,?_⟩)⟩;have R:ai b9 M:=e3.new e5 λa b=>.inr (by have b:a=b9.heap.size:=b;omega);have h6:=R.size;have n:=W.af R;have a7:fM M (jJ f g) w.heap.size (cM (some ⟨a0,a1,none⟩) 1 r 5) (V-1) (r-1) e:=e2.keep R λa b=>b.elim;have c2:de (jJ F G) w (jJ f g) M:=⟨a4.keep.af R,a4.new⟩
  have e6:=b.ea.gr.size;have a2:∀{o:World} {E H:Nat->Prop} {a6 a8:bw} {ms:List dz} {K:Value},gw w0 o p q E H cA sA cB sB a6 a8->de (jJ f g) M (jJ E H) o->(∃t u v,K= .slice t u v/\fM o (jJ E H) M.heap.size t u v ms)->ms.length<=2->
    t_ cA sA cB sB i k a5 a6 a8 (e++ms)=some (I,J)->a6.S.l.length<=17000300+300*(d+1)->a8.S.l.length<=17000300+300*(d+1)->o.heap[b9.heap.size]? =some (.cells (cD x va vn vc ea en ec).toArray 67 (0,0))/\∃t u v,K= .slice t u v/\
    ∀ε:Value->World->Prop,aH ZQ (Builtin.append_ #[63,63] 63 #[.slice (cM (some ⟨a0,a1,none⟩) (Int.toNat 1) r 5) (V-Int.toNat 1) (r-Int.toNat 1),.slice t u v]) o (λe7 b3=>∃(c7:Option Addr) (Y d0:Nat),e7= .slice c7 Y d0/\∃d1,d1<most-d/\
     ∃(N:Nat) (f g:Nat->Prop) (l m:bw) (e:List dz),IntKind.wrap .i64 ((d:Int)+1)=N/\N<=most/\d1=most-N/\gw w0 b3 p q f g cA sA cB sB l m/\de (jJ F G) w (jJ f g) b3/\fM b3 (jJ f g) w.heap.size c7 Y d0 e/\e.length<=1+2*N/\
      t_ cA sA cB sB i k (most-N) l m e=some (I,J)/\l.S.l.length<=17000300+300*N/\m.S.l.length<=17000300+300*N) ε:=λ{o E H a6 a8 ms K} c3 y e8 h7 e9 f0 f1=>by
   refine⟨y.keep.get c1 λh=>h.elim (λh=>by have:=c8 _ h;omega) λh=>by have:=b8 _ h;omega,?_⟩;obtain⟨t,u,v,rfl,f2⟩:=e8;refine⟨t,u,v,rfl,λε=>?_⟩;have d2:fM o (jJ E H) w.heap.size (cM (some ⟨a0,a1,none⟩) 1 r 5) (V-1) (r-1) e:=by
    obtain⟨f3,D,h1,h2,h3,h4,h5⟩:=a7.keep y.keep λa b=>b;have c9:=a7.lt;obtain⟨L',D',f4,f5,f6,S,c4⟩:=a7;refine⟨L',D',f4.keep y.keep λa b=>(c4 a b).1,f5,λa b=>(f6 a b).keep y.keep λa b=>(S a b).2.2.1,λa b=>⟨Qk (S a b).1 y.keep.size,(S a b).2.1,λhz=>(y.new a hz).elim (S a b).2.2.1 (by have:=(S a b).1;omega),(S a b).2.2.2⟩,λa b=>⟨λhz=>(y.new a hz).elim (c4 a b).1 (by have:=c9 a b;omega),(c4 a b).2⟩⟩
   have f7:∀a,jJ E H a->a<o.heap.size:=λa b=>b.elim (c3.a.aF a) (c3.b.aF a);refine fM.app d2 Zu f2 (λa b=>a7.lt a b) c2.keep.size y.keep.size oM f7 λa' c' b3 f8 d3=>?_;have b4:∀a,aI (cM (some ⟨a0,a1,none⟩) 1 r 5)=some a->¬jJ E H a/\w.heap.size<=a:=λa b=>by
    obtain⟨f3,D,h1,h2,h3,h4,h5⟩:=d2;exact h5 a b
   have f9:=c3.keep d3 (λa b Z=>(b4 a Z).1 b) λa b=>by have:=(b4 a b).2;have:=e6;omega
   refine⟨_,_,_,rfl,_,oM,d+1,E,H,a6,a8,e++ms,an oM,oM,rfl,f9,?_,f8,by rw[QX];omega,by rw[show most-(d+1)=a5 by omega];exact e9,f0,f1⟩;have h9:=c2.trans y;exact⟨h9.keep.new d3 λa b=>.inr (b4 a b).2,h9.new⟩
  refine⟨λd4 w'=>d4=(if x.qF=k then ZZ q else ZZ p)/\M=w',⟨x.qF,ae c1 rfl,al.dX (λh=>⟨by rw[if_pos h],rfl⟩) (λh=>⟨by rw[if_neg h],rfl⟩)⟩,?_⟩;rintro d4 _ _ ⟨rfl,rfl⟩;refine aw (j_ x va vn vc ea en ec) c1 ?_;have d5:=hv.af R;have d6:=Z.af R;have a9:∀a,D a->a<M.heap.size:=λa b=>by have:=(hD a b).1;omega
  unfold t_ at c
  by_cases b0:x.qF=k
  ·rw[if_pos b0]
   rw[if_pos b0]at c;split at c
   ·cases c
   rename_i O;have O:(bA cB sB m x).2.1=0:=Classical.not_not.1 O;refine PC.ok (kf n.b n.eb d5 (λa b=>⟨a9 a b,λs=>(hD a b).2 (.inr s)⟩) d6 (λa b=>⟨a9 a b,λs=>(hD a b).2 (.inr s)⟩) oM) ?_;rintro _ o ⟨v1,Q,rfl,T,b5,a3⟩;have c5:=mW cB sB m x n.b.waits n.b.ok.vf.2;rw[O];obtain⟨z,t,u,v,rfl,j⟩:=a2 (n.OB b5 a3) a3.right (T.zB λa b=>b.elim (λh=>.inr (by have:=n.a.aF a h;omega)) .inl) (zF ..) c oM (by rcases c5.evs with h|h<;>omega);refine⟨_,_,_,_,rfl,al.dw (λh=>absurd rfl h) (λ_=>⟨_,ae z rfl,al.dw (λh=>⟨_,ae z rfl,al.dw (λh2=>absurd b0 h2) (λ_=>j _)⟩) (λ_=>j _)⟩)⟩
  ·rw[if_neg b0]
   rw[if_neg b0]at c;split at c
   ·cases c
   rename_i c6;have c6:x.qF=i:=Classical.not_not.1 c6;split at c
   ·cases c
   rename_i O;have O:(bA cA sA l x).2.1=0:=Classical.not_not.1 O;refine PC.ok (kf n.a n.ea d5 (λa b=>⟨a9 a b,λs=>(hD a b).2 (.inl s)⟩) d6 (λa b=>⟨a9 a b,λs=>(hD a b).2 (.inl s)⟩) oM) ?_;rintro _ o ⟨v1,P,rfl,T,b5,a3⟩;have c5:=mW cA sA l x n.a.waits n.a.ok.vf.2;rw[O];obtain⟨z,t,u,v,rfl,j⟩:=a2 (n.zD b5 a3) a3.left (T.zB λa b=>b.elim .inl (λh=>.inr (by have:=n.b.aF a h;omega))) (zF ..) c (by rcases c5.evs with h|h<;>omega) oM;refine⟨_,_,_,_,rfl,al.dw (λh=>absurd rfl h) (λ_=>⟨_,ae z rfl,al.dw (λh=>absurd c6 h) (λ_=>j _)⟩)⟩
end
def ou:aR:=⟨[[⟨1,1,true,[]⟩,⟨2,3,false,[]⟩,⟨3,2,false,[]⟩,⟨4,2,false,[⟨0,1,0,2⟩,⟨1,0,-1,0⟩,⟨0,2,-1,0⟩]⟩,⟨2,2,false,[]⟩,⟨1,1,false,[]⟩]],[⟨0,0,1,0,2⟩,⟨0,2,2,0,1⟩,⟨0,5,3,4,4⟩]⟩
def cf(a:Int):cz:=⟨a,131072,400,3,20,5,4,0,ou⟩
def Tx:Bool:=
 (bj (cf 2) 0).1==0&&((bj (cf 2) 1).1==0&&((cm (cf 2) 0 (bj (cf 2) 0).2 ⟨0,0,0,1,3,-1,0⟩).1==0&&((cm (cf 2) 0 (bj (cf 2) 0).2 ⟨0,0,0,1,3,-1,0⟩).2.1==((0:Int),(1:Int))&&((ET ou (bj (cf 2) 1).2.S.l 0 0).code==14&&((gP (cf 2) 1 (bj (cf 2) 1).2 0 0).1.length==1&&
  (match t_ (cf 2) 1 (cf 2) 0 1 0 100 (gP (cf 2) 1 (bj (cf 2) 1).2 0 0).2 (cm (cf 2) 0 (bj (cf 2) 0).2 ⟨0,0,0,1,3,-1,0⟩).2.2 (gP (cf 2) 1 (bj (cf 2) 1).2 0 0).1 with
  |none=>false
  |some (a,b)=>(ET ou a.S.l 0 0).code==0&&((ET ou a.S.l 0 0).st.cells.length==6&&(((ET ou a.S.l 0 0).st.cells.getD 0 ⟨0,[]⟩).n==3&&((ET ou a.S.l 0 0).st.version==1&&a.S.vec==[1,0])))))))))
def NL:Tx=true:=by decide+kernel
variable{r:Array Value}{t:Ending->World->Prop}{e m:Int}{a1 f1:List PanicEntry->World->Prop}{a c:Nat}{F:Nat×Nat}{j:Type}{g:TypeId}{o:Value->World->Prop}{b:World}{W:bQ}
def Row.Bi{c:kM j}{bytes a:Nat}{D:Nat->Prop}(f:b.heap[a]? =some (.cells r g F)){xs:List j}(m:bT c b D xs r.toList)(q:0<c.k)(d:xs.length*bytes<=aQ):Row c bytes b (λe=>e=a\/D e) (ZZ a) xs.length xs:=
 ⟨rfl,d,λs t n=>by
  obtain⟨h,o,i⟩:=m.at n;have u:=c.len i;refine⟨a,0,h,rfl,aC f,.inl rfl,λk p=>?_,c.mono i λe d=>.inr d⟩;have l:=o k p;rw[Qq (show k<h.length by omega)]at l⊢;rw[Xz];exact ae f (by simpa using l)⟩
def i10(a:(decide (-1000000<=e)&&decide (e<=1000000))=true):aN e:=by
 simp only[QK,decide_eq_true_eq]at a;unfold aN;omega
section
variable {w w' w0:World}
def NM:Calls ZQ 27 #[] w (Ok λv w'=>∃o tn x p q y G,v= .agg #[.slice o tn x,.slice p q y]/\bh w' G ou o tn p q/\(∀a,G a->w.heap.size<=a/\a<w'.heap.size)/\ai w w'):=by
 refine Hn (PA.mk λd z V A=>PA.mk λf B W C=>PA.mk λh r X E=>PA.mk λi m Y F=>PA.mk λs j Z H=>?_);have t:=((B.then r).then m).then j;refine PS.mk (t.get A id) sM λw6 I s6 J=>PS.mk J sM λe K s7 u=>⟨_,_,_,_,_,_,ae u rfl,ae u rfl,?_⟩
 have g:aj (λa=>a=w.heap.size) s e:=I.then K;have L:=g.get (j.get (m.get (r.get C id) id) id) (λb=>by have b:d.heap.size=w.heap.size:=b;omega);have M:=g.get (j.get (m.get E id) id) (λb=>by have b:f.heap.size=w.heap.size:=b;omega);have N:=g.get (j.get F id) (λb=>by have b:h.heap.size=w.heap.size:=b;omega);have O:=g.get H (λb=>by have b:i.heap.size=w.heap.size:=b;omega);have P:Row gC 32 e (λa=>a=d.heap.size\/False) (ZZ d.heap.size) 3 [⟨0,1,0,2⟩,⟨1,0,-1,0⟩,⟨0,2,-1,0⟩]:=
  Row.Bi (c:=gC) (xs:=[⟨0,1,0,2⟩,⟨1,0,-1,0⟩,⟨0,2,-1,0⟩]) (D:=λ_=>False) L ⟨_,_,rfl,⟨rfl,i10 rfl,i10 rfl,i10 rfl,i10 rfl⟩,_,_,rfl,⟨rfl,i10 rfl,i10 rfl,i10 rfl,i10 rfl⟩,_,_,rfl,⟨rfl,i10 rfl,i10 rfl,i10 rfl,i10 rfl⟩,rfl⟩ dC dC
 have Q:Row pT 48 e (λa=>a=f.heap.size\/a=d.heap.size\/False) (ZZ f.heap.size) 6 [⟨1,1,true,[]⟩,⟨2,3,false,[]⟩,⟨3,2,false,[]⟩,⟨4,2,false,[⟨0,1,0,2⟩,⟨1,0,-1,0⟩,⟨0,2,-1,0⟩]⟩,⟨2,2,false,[]⟩,⟨1,1,false,[]⟩]:=by
  have no:∀(k l:Int) (n:Bool),aN k->aN l->pT.rep e (λa=>a=d.heap.size\/False) ⟨k,l,n,[]⟩ [QH k,QH l,.bool n,.slice none 0 0]:=λk l n R S=>⟨none,0,0,rfl,eE _ _,R,S⟩
  exact Row.Bi (c:=pT) (xs:=[⟨1,1,true,[]⟩,⟨2,3,false,[]⟩,⟨3,2,false,[]⟩,⟨4,2,false,[⟨0,1,0,2⟩,⟨1,0,-1,0⟩,⟨0,2,-1,0⟩]⟩,⟨2,2,false,[]⟩,⟨1,1,false,[]⟩]) (D:=λa=>a=d.heap.size\/False) M ⟨_,_,rfl,no 1 1 true (i10 rfl) (i10 rfl),_,_,rfl,no 2 3 false (i10 rfl) (i10 rfl),_,_,rfl,no 3 2 false (i10 rfl) (i10 rfl),_,_,rfl,⟨_,_,_,rfl,P,i10 rfl,i10 rfl⟩,_,_,rfl,no 2 2 false (i10 rfl) (i10 rfl),_,_,rfl,no 1 1 false (i10 rfl) (i10 rfl),rfl⟩ dC dC
 have T:Row wH 40 e (λa=>a=h.heap.size\/False) (ZZ h.heap.size) 3 ou.projs:=
  Row.Bi (c:=wH) (xs:=[⟨0,0,1,0,2⟩,⟨0,2,2,0,1⟩,⟨0,5,3,4,4⟩]) (D:=λ_=>False) N ⟨_,_,rfl,⟨rfl,i10 rfl,i10 rfl,i10 rfl,i10 rfl,i10 rfl⟩,_,_,rfl,⟨rfl,i10 rfl,i10 rfl,i10 rfl,i10 rfl,i10 rfl⟩,_,_,rfl,⟨rfl,i10 rfl,i10 rfl,i10 rfl,i10 rfl,i10 rfl⟩,rfl⟩ dC dC
 have U:Row lv 24 e (λa=>a=i.heap.size\/a=f.heap.size\/a=d.heap.size\/False) (ZZ i.heap.size) 1 ou.types:=
  Row.Bi (c:=lv) (xs:=[[⟨1,1,true,[]⟩,⟨2,3,false,[]⟩,⟨3,2,false,[]⟩,⟨4,2,false,[⟨0,1,0,2⟩,⟨1,0,-1,0⟩,⟨0,2,-1,0⟩]⟩,⟨2,2,false,[]⟩,⟨1,1,false,[]⟩]]) (D:=λa=>a=f.heap.size\/a=d.heap.size\/False) O ⟨_,_,rfl,⟨_,_,_,rfl,Q⟩,rfl⟩ dC dC
 refine Ok.mk ⟨_,_,_,_,_,_,λa=>(a=i.heap.size\/a=f.heap.size\/a=d.heap.size\/False)\/a=h.heap.size\/False,rfl,⟨U.mono λa c=>.inl c,T.mono λa c=>.inr c⟩,λa c=>?_,?_⟩
 ·have z7:e.heap.size=s.heap.size:=oM;rcases c with(rfl|rfl|rfl|c)|rfl|c<;>first|omega|exact c.elim
 ·exact(z.then t).new g λa c=>.inr (by have c:a=w.heap.size:=c;omega)
def sv:Calls ZQ 8 #[QH e] w (Ok λm w'=>∃b tn g c d h G,m=lK (cf e) b tn g c d h/\bh w' G ou b tn c d/\(∀a,G a->w.heap.size<=a/\a<w'.heap.size)/\ai w w'):=by
 refine Es (PA.mk λr n s o=>PC.ok NM ?_);rintro _ t ⟨b,tn,g,c,d,h,G,rfl,p,i,j⟩;refine⟨_,_,_,_,_,_,rfl,aD (gD (cf e) b tn g c d h) (j.get o id) rfl λu k v q=>aw (gD (cf e) b tn g c d h) q (Ok.mk ⟨b,tn,g,c,d,h,G,rfl,p.keep k λa f l=>by have l:a=w.heap.size:=l;have:=i a f;omega,λa f=>by have:=i a f;omega,(n.then j).new k λa f=>.inr (by have f:a=w.heap.size:=f;omega)⟩)⟩
def Yp(a:jS):TF (fe ZQ 49) (uu a)=true:=kR
def Rf{a arg:Int}:Calls ZQ 30 #[QH a,QH arg] w (Ok λc w'=>c=uu ⟨0,a,0,1,arg,-1,0⟩/\ai w w'):=
 Jf (PA.mk λi d j e=>aD (BF ⟨0,a,0,1,arg,-1,0⟩) e rfl λk f l g=>aw (BF ⟨0,a,0,1,arg,-1,0⟩) g (Ok.mk ⟨rfl,d.new f λh b=>.inr (by have b:h=w.heap.size:=b;omega)⟩))
def gw.made{h G:Nat->Prop}{k l:cz}{n o:bw}(p:eM w0)(q:Laid w0)(g:ai w0 w)(r:bP b a h k e n)(t:∀d,h d->w.heap.size<=d)(i:ai w b)(j:ai b w')(f:bP w' c G l m o)(s:∀d,G d->b.heap.size<=d):gw w0 w' a c h G k e l m n o:=
 ⟨r.af j,f,⟨p,q,g.then (i.then j),λd f=>by have:=t d f;have:=g.size;omega⟩,⟨p,q,g.then (i.then j),λd f=>by have:=s d f;have:=g.size;have:=i.size;omega⟩,λd u v=>by have:=r.aF d u;have:=s d v;omega⟩
def Lb:∃(g a h b e:bw) (i c:ve),bj (cf 2) 0=(0,g)/\bj (cf 2) 1=(0,a)/\cm (cf 2) 0 g ⟨0,0,0,1,3,-1,0⟩=(0,(0,1),h)/\ET ou a.S.l 0 0=i/\i.code=14/\(gP (cf 2) 1 a 0 0).1.length=1/\
  t_ (cf 2) 1 (cf 2) 0 1 0 100 (gP (cf 2) 1 a 0 0).2 h (gP (cf 2) 1 a 0 0).1=some (b,e)/\ET ou b.S.l 0 0=c/\c.code=0/\c.st.cells.length=6/\(c.st.cells.getD 0 ⟨0,[]⟩).n=3/\c.st.version=1/\b.S.vec=[1,0]:=by
 have f:=NL;unfold Tx at f;simp only[QK,beq_iff_eq]at f;obtain⟨j,k,l,m,n,o,d⟩:=f;split at d
 ·cases d
 ·rename_i b e p
  simp only[QK,beq_iff_eq]at d;obtain⟨q,r,s,t,u⟩:=d;exact⟨_,_,_,b,e,_,_,Prod.ext j rfl,Prod.ext k rfl,Prod.ext l (Prod.ext m rfl),rfl,n,o,p,rfl,q,r,s,t,u⟩
def KI(k:eM w0)(l:Laid w0)(m:ai w0 w):Calls ZQ 11 #[] w (Ok λa3 w'=>a3= .bool true/\ai w w'):=by
 obtain⟨H,XB,i3,YB,YA,i4,I,e1,e2,e3,e4,e5,e6,e7,e8,e9,i5,d8,d9,e0⟩:=Lb;have J:(cf 2).decl=ou:=rfl;refine Ep (PC.ok sv ?_);rintro _ w2 ⟨ta,tn,tc,pa,pn,pc,G2,rfl,f2,f3,n⟩;refine cu (JH (cf 2) ta tn tc pa pn pc) ⟨rfl,PC.ok (Be (c:=cf 2) k l (m.then n) f2 (λb a=>(f3 b a).2) (i10 rfl) (i10 rfl) (i10 rfl)) ?_⟩;rintro v5 w5 c;unfold MU at c;rw[e1]at c;obtain⟨k5,⟨o,-⟩|⟨-,a4,a5,rfl,K,p,f4⟩⟩:=c
 ·exact absurd rfl o
 dsimp only at K f4;have e:=n.then k5;refine⟨_,_,rfl,PC.ok sv ?_⟩;rintro _ w9 ⟨tb,tm,td,pb,pm,pd,G9,rfl,f5,f6,f⟩;refine cu (JH (cf 2) tb tm td pb pm pd) ⟨rfl,PC.ok (Be (c:=cf 2) k l ((m.then e).then f) f5 (λb a=>(f6 b a).2) (i10 rfl) (i10 rfl) (i10 rfl)) ?_⟩;rintro i6 g0 c;unfold MU at c;rw[e2]at c;obtain⟨L,⟨o,-⟩|⟨-,a6,G,rfl,M,N,g1⟩⟩:=c
 ·exact absurd rfl o
 dsimp only at M g1;have z5:=e.size;have z9:=f.size;have z2:=n.size;generalize i7:cf 2=q at*;have g2:gw w0 g0 a4 a6 a5 G q 0 q 1 H XB:=gw.made (w:=w) k l m K (λb a=>by have:=p b a;omega) e (f.then L) M λb a=>by have:=N b a;omega
 have O:=(e.then f).then L;refine⟨_,_,rfl,al.dw (λh=>absurd rfl h) (λ_=>al.dw (λh=>absurd rfl h) (λ_=>fQ Tryz.underlying33 ⟨_,rfl,al.ff rfl (fQ Tryz.underlying33 ⟨_,rfl,al.ff rfl (PC.ok Rf ?_)⟩)⟩))⟩;rintro _ i8 ⟨rfl,r⟩;have s:=g2.af r;have g3:jS.Ok ⟨0,0,0,1,3,-1,0⟩:=⟨i10 rfl,i10 rfl,i10 rfl,i10 rfl,i10 rfl,i10 rfl⟩
 refine cu (Yp _) ⟨rfl,PC.ok (rL s.a s.ea g3 oM) ?_⟩;have t:=CP q 0 H ⟨0,0,0,1,3,-1,0⟩;rintro _ u ⟨i9,g,v,x⟩;rw[e3]at t g v;dsimp only at t g v;have a7:=s.zD v x;rw[if_neg sM]at g;obtain⟨P,Q,R,S,T,U,V,W,X,-,rfl,-⟩:=g;refine cu (FT _ P Q R S T U V W X) ⟨rfl,PA.mk λj0 g4 j1 g5=>aD (lR _ P Q R S T U V W X) g5 rfl λg6 b2 j2 g7=>?_⟩;have Y:ai u g6:=g4.new b2 λb a=>.inr (by have a:b=u.heap.size:=a;omega);have Z:=a7.af Y;refine PC.ok (A_ Z.b) ?_;rintro _ b4 ⟨a0,y⟩;rw[J,e4]at a0;obtain⟨b5,b6,b7,b8,b9,c0,c1,c3,c4,-,rfl,-⟩:=a0;refine cu (FT _ b5 b6 b7 b8 b9 c0 c1 c3 c4) ⟨rfl,PA.mk λj3 g8 j4 g9=>aD (lR _ b5 b6 b7 b8 b9 c0 c1 c3 c4) g9 rfl λc5 z j5 h2=>?_⟩;have A:ai b4 c5:=g8.new z λb a=>.inr (by have a:b=b4.heap.size:=a;omega);have B:=A.get (y.get g7 id) id;refine⟨_,ae B rfl,al.dw (λh=>absurd rfl h) (λ_=>⟨_,_,ae B rfl,ae B rfl,aH.mk Sn ⟨_,rfl,al.ff rfl ⟨_,ae h2 rfl,al.dw (λh=>absurd e5 h) (λ_=>?_)⟩⟩⟩)⟩;have a8:=(Z.af y).af A;refine PC.ok (MJ (most:=100) a8.swap (i10 rfl) dC oM (by rcases t.evs with h|h<;>omega) e6 e7) ?_;rintro _ j6 ⟨rfl,j7,j8,a1,a9⟩;refine⟨_,rfl,al.not (al.tt rfl (PC.ok (A_ a1.a) ?_))⟩;rintro _ C ⟨a2,c6⟩;rw[J,e8]at a2;have d:ai w C:=by
  have h3:ai w u:=(O.then r).new x.keep λb a=>.inr (by have:=p b a;omega);have z:ai w c5:=((h3.then Y).then y).then A;refine(z.new a9.keep λb a=>.inr ?_).then c6;rcases a with a|a
  ·have:=N b a;omega
  ·rcases x.new b a with h|h
   ·have:=p b h;omega
   ·have:=O.size;have:=r.size;omega
 obtain⟨c7,c8,c9,d0,d1,d2,d3,d4,d5,G3,rfl,i,-⟩:=a2;refine cu (FT I c7 c8 c9 d0 d1 d2 d3 d4 d5) ⟨rfl,PA.mk λj9 h4 k0 h5=>aD (lR I c7 c8 c9 d0 d1 d2 d3 d4 d5) h5 rfl λh6 d6 k1 j=>?_⟩;have E:ai C h6:=h4.new d6 λb a=>.inr (by have a:b=C.heap.size:=a;omega);have i:=i.af E;have k3:=i.len;obtain⟨b,b0,k4,k6,k7,rfl,k8,-,h7,-⟩:=ni (i:=0) i oM;refine⟨_,ae j rfl,al.dX (λ_=>⟨_,_,_,ae j rfl,al.dX (λ_=>⟨_,_,_,ae j rfl,b,b0,rfl,oM,oM,_,h7,al.dX (λ_=>⟨_,ae j rfl,al.dX (λ_=>?_) (λh=>absurd d9 h)⟩) (λh=>absurd d8 h)⟩) (λh=>absurd oM h)⟩) (λh=>absurd e9 h)⟩;refine PC.ok (Io ((a1.a.af c6).af E)) ?_;rintro _ l0 ⟨l3,l4,l5,l6,rfl,F,h8,i1⟩;rw[e0]at F;have i2:=F.len dC;refine⟨_,_,_,rfl,PA.mk λl7 d7 l8 h9=>PC.ok (jM (xs:=[1,0]) (ys:=[1,0]) ((F.af d7).row dC dC) (Row.lit h9 [1,0] rfl (λb1 hx=>by simp at hx;rcases hx with rfl|rfl<;>exact i10 rfl) dC)) ?_⟩;rintro _ l9 ⟨rfl,i0⟩;exact⟨_,rfl,Ok.mk ⟨sM,(((d.then E).then h8).then d7).then i0.keep⟩⟩
end
section
variable {w w' w0:World} {p q:Nat} {F G D E:Nat->Prop} {c e:cz} {self other:Int} {X Y:bw}
def vr(c:cz)(self:Int):(bj c self).2.fP.asked=[]:=by
 have a:(qA c).2.fP.asked=[]:=by unfold qA;rw[zl]
 unfold bj;split
 ·exact a
 split<;>exact a
def bP.cl(a:bP w p F c self X):X.S.Cl/\X.S.n=c.bl.toNat:=by
 obtain⟨e,f,b,d⟩:=a;exact(d.at' 3).2
def bP.Zb(e:bP w p F c self X):X.D.Ok:=by
 obtain⟨h,b,a,f⟩:=e;obtain⟨Fd,g,-⟩:=(show DL w (λd=>F d/\a d=2) b.dp b.lp X.D X.log from f.at' 2)
 exact g.ok
def kq(d:eM w0)(e:Laid w0)(b:ai w0 w):PC ZQ 11 #[] w (λa f=>∃c:Bool,a= .bool c/\Ok (λa w'=>a= .bool true/\ai w0 w') (.returned (.bool c)) f) a1:=by
 refine PC.ok (KI d e b) ?_;rintro _ w' ⟨rfl,g⟩;exact⟨_,rfl,Ok.mk ⟨rfl,b.then g⟩⟩
def su{e f:Option Addr}{tn j g k:Nat}(l:eM w0)(m:Laid w0)(n:ai w0 w)(q:bh w D c.decl e tn f g)(r:aN c.aZ)(s:aN c.every)(t:aN c.start)(u:∀v w',ai w w'->(bj c self).1≠0->o (.tuple #[.pointer v,QH (bj c self).1]) w')(x:∀p F w',(bj c self).1=0->ai w w'->bP w' p F c self (bj c self).2->(∀a,F a->w.heap.size<=a)->(bj c self).2.S.l.length<=16777216->o (.tuple #[ZX p,QH 0]) w'):
  PC ZQ 13 #[lK c e tn j f g k] w (λy w'=>yY (fe ZQ 28) λh=>y=h/\PC ZQ 12 #[h,QH self] w' o a1) f1:=by
 refine PC.ok (wN q) ?_;rintro _ P ⟨z,A,B,C,E,H,Q,rfl,I,J,b⟩;refine cu (JH c z A B C E H) ⟨rfl,PC.ok (Be l m (n.then b) I (λa d=>(J a d).2) r s t) ?_⟩;rintro R S ⟨i,⟨K,rfl⟩|⟨L,p,F,rfl,M,N,O⟩⟩
 ·exact u _ _ (b.then i) K
 ·exact x p F _ L (b.then i) M (λa d=>by have:=N a d;have:=b.size;omega) O
end
section
variable {w w' w0:World} {D E:Nat->Prop} {l:List ah} {e:ah} {a ea:Option Addr} {n lc en ec:Nat}
def yT(j:Row fZ 96 w D a n l)(C:Row aP 8 w E ea en e.aK)(F:(l.map aO).Nodup)(H:e∈l):
  Calls ZQ 20 #[.slice a n lc,.agg (aE e ea en ec).toArray] w (Ok λI w'=>I= .bool true/\ai w w'):=by
 have a0:=j.len;have J:=j.d_;unfold aQ at J;obtain⟨f,k,m⟩:=List.mem_iff_getElem.1 H;have u:∀(i:Nat) (d:ah),l[i]? =some d->(aO d=aO e↔i=f):=λi d b=>by
  constructor
  ·intro c
   obtain⟨o,b⟩:=Qv.1 b;have:=(List.getElem?_inj (l:=l.map aO) (i:=i) (j:=f) (by simpa using o) F).1 (by simp[o,k,b,m,c]);exact this
  ·rintro rfl
   rw[Qq k,m]at b;rw[XJ b]
 refine Ee (PA.mk λK v s1 L=>?_);refine⟨λp M q w'=>∃i:Nat,q=i/\i<=n/\p=n-i/\M=(if f<i then 1 else 0)/\ai K w',⟨_,0,rfl,Qj _,rfl,rfl,aj.refl _⟩,?_⟩;rintro p _ _ _ x ⟨i,rfl,o,rfl,rfl,g⟩;refine al.dec (λa1=>?_) (λa2=>?_)
 ·have y:=v.then g;obtain⟨r,z,d,es,rfl,N,-,b,s,O,P,Q,rfl,R,-⟩:=(j.af y).sS (i:=i) oM;have t:=g.get L id;refine⟨r,z,rfl,oM,oM,_,_,by rw[Qx];exact s 0 dC,by rw[Qx];exact s 1 dC,_,_,ae t rfl,ae t rfl,_,λp=>GN,λS A=>al.mk (λc=>?_) (λc=>?_)⟩
  ·have B:i=f:=(u i d b).1 (by simp at c;unfold aO;rw[c.1,c.2])
   have T:d=e:=by
    rw[B,Qq k,m]at b;exact(XJ b).symm
   intro U V;have h:ai x U:=(show ai x S from A.keep).then V.keep;have W:=y.then h;refine⟨r,z,rfl,oM,oM,br (es:=aE d O P Q) (k:=10) (bg _ _ _ _) rfl (λq X=>by rw[Qx];exact(h.cell (a:=⟨r,_,none⟩) N id).trans (s q X)) (aw (bg e ea en ec) (h.get t id) (PC.ok (mJ (R.af h) (C.af W)) ?_))⟩;rintro _ w5 ⟨rfl,Y⟩;refine⟨_,rfl,al.not (al.dec (λ_=>⟨_,oM,i+1,an oM,oM,rfl,?_,(g.then h).then Y⟩) (λc=>absurd T c))⟩;rw[if_neg oM,if_pos oM];exact wrap_i64 (by unfold aN;omega)
  ·have B:i≠f:=λZ=>by
    have:=(u i d b).2 Z;unfold aO at this;simp only[Prod.mk.injEq]at this;rw[this.1,this.2]at c;simp at c
   exact⟨_,oM,i+1,an oM,oM,rfl,by by_cases h4:f<i<;>simp only[h4,if_true,if_false]<;>(first|rw[if_pos oM]|rw[if_neg oM]),g.then A.keep⟩
 ·exact Ok.mk ⟨by rw[if_pos oM];rfl,v.then g⟩
end
def qW{l:List ah}(b:∀a∈l,a.Ok/\a.aK.length<=64):bN (ar l)=(l,(ar l).length):=by
 have:=zy b [];rw[List.append_nil,se]at this;simpa using this
def Gj(a:List ah)(b:Nat):(ar a).take (ar (a.take b)).length=ar (a.take b):=by
 conv=>lhs;rw[<-List.take_append_drop b a,eh]
 rw[show(List.take b (List.take b a++List.drop b a))=a.take b by rw[List.take_append_drop]];exact List.take_left
def yG(a:0<=e/\e<1000000000000):gV (au e)=(e,true):=by
 unfold gV au;rw[og,pq a.1 a.2];simp;omega
def UF(a:Int)(b:ByteArray):a<=eU a b:=by unfold eU;split<;>omega
def Oy:∀(b:List ByteArray) (a:Int),a<=b.foldl eU a
 |[],a=>Int.le_refl a
 |s::b,a=>Int.le_trans (UF a s) (Oy b _)
def Kc:∀(a:List ByteArray) (d:Int) {b:ByteArray},b∈a->(gV b).2=true->(gV b).1+1<=a.foldl eU d
 |f::a,d,b,c,e=>by
  rcases Q2.1 c with rfl|c
  ·refine Int.le_trans ?_ (Oy a _)
   unfold eU;rw[if_pos e];omega
  ·exact Kc a _ c e
def JM{D:ak}(a:0<=e/\e<1000000000000)(c:(ay D.files (au e)).isSome=true):e<iq D:=by
 have b:=Kc D.list 1 (Gk.2 c) (by rw[yG a]);rw[yG a]at b;unfold iq tX;simp only at b;omega
section
variable {D E:ak} {A:oA} {no:Int} {l x:List ah} {k j n s:Nat} {V:cY}
def JO(A:oA)(k:Nat):Nat:=((A.map (·.2)).flatten).length+k
def WW(a:Int)(A:oA):Prop:=∀b∈A,a<=((ar b.2).length:Nat)
def zo(j:cE D A no l k)(m:AV V A no l)(J:∀e∈x,e.Ok)(T:x.length<=20000000)(K:D.Ok)(o:WW V.size A):
  ∃b c d f,cE (az V D x).2.2 b c d f/\AV (az V D x).2.1 b c d/\JO A k<=JO b f/\cI b d=(if(az V D x).1=0 then cI A l++x else cI A l)/\(az V D x).2.1.size=V.size/\WW V.size b/\
   ((b=A/\c=no/\(az V D x).2.1.next=V.next)\/(b=A++[(no,l)]/\c=V.next/\(az V D x).2.1.next=V.next+1)):=by
 unfold az
 by_cases v:x.any eD=true
 ·rw[if_pos v]
  exact⟨A,no,l,k,j,m,Q4 _,rfl,rfl,o,.inl ⟨rfl,rfl,rfl⟩⟩
 rw[if_neg v]
 by_cases w:x=[]
 ·rw[if_pos w]
  exact⟨A,no,l,k,j,m,Q4 _,by rw[if_pos rfl,w,List.append_nil],rfl,o,.inl ⟨rfl,rfl,rfl⟩⟩
 rw[if_neg w];have C:∀e∈x,e.Ok/\e.aK.length<=64:=λe p=>⟨J e p,by
  have:¬eD e=true:=λh=>v (List.any_eq_true.2 ⟨e,p,h⟩);unfold eD at this;simp at this;omega⟩
 have U:=wv C;have L:(ar l).length<=262144:=by
  obtain⟨s,y,_⟩:=j.last;exact K.len (cF y)
 have i:∀(a:Int×cY×ak) (b:oA) (c:Int) (d:List ah) (f:Nat),a.1=0->cE a.2.2 b c d f->AV a.2.1 b c d->(ar d).length<=262144->JO A k<=JO b f->cI b d=cI A l->a.2.1.size=V.size->WW V.size b->
   ((b=A/\c=no/\a.2.1.next=V.next)\/(b=A++[(no,l)]/\c=V.next/\a.2.1.next=V.next+1))->
   ∃b c d f,cE (if a.1≠0 then a else if(a.2.2.append a.2.1.last (ar x)).1≠0 then((a.2.2.append a.2.1.last (ar x)).1,a.2.1,(a.2.2.append a.2.1.last (ar x)).2)else(0,⟨a.2.1.size,a.2.1.aX,IntKind.wrap .i64 (a.2.1.bytes+((ar x).length:Nat)),a.2.1.next⟩,(a.2.2.append a.2.1.last (ar x)).2)).2.2 b c d f/\
    AV (if a.1≠0 then a else if(a.2.2.append a.2.1.last (ar x)).1≠0 then((a.2.2.append a.2.1.last (ar x)).1,a.2.1,(a.2.2.append a.2.1.last (ar x)).2)else(0,⟨a.2.1.size,a.2.1.aX,IntKind.wrap .i64 (a.2.1.bytes+((ar x).length:Nat)),a.2.1.next⟩,(a.2.2.append a.2.1.last (ar x)).2)).2.1 b c d/\JO A k<=JO b f/\
    cI b d=(if(if a.1≠0 then a else if(a.2.2.append a.2.1.last (ar x)).1≠0 then((a.2.2.append a.2.1.last (ar x)).1,a.2.1,(a.2.2.append a.2.1.last (ar x)).2)else(0,⟨a.2.1.size,a.2.1.aX,IntKind.wrap .i64 (a.2.1.bytes+((ar x).length:Nat)),a.2.1.next⟩,(a.2.2.append a.2.1.last (ar x)).2)).1=0 then cI A l++x else cI A l)/\
    (if a.1≠0 then a else if(a.2.2.append a.2.1.last (ar x)).1≠0 then((a.2.2.append a.2.1.last (ar x)).1,a.2.1,(a.2.2.append a.2.1.last (ar x)).2)else(0,⟨a.2.1.size,a.2.1.aX,IntKind.wrap .i64 (a.2.1.bytes+((ar x).length:Nat)),a.2.1.next⟩,(a.2.2.append a.2.1.last (ar x)).2)).2.1.size=V.size/\WW V.size b/\
    ((b=A/\c=no/\(if a.1≠0 then a else if(a.2.2.append a.2.1.last (ar x)).1≠0 then((a.2.2.append a.2.1.last (ar x)).1,a.2.1,(a.2.2.append a.2.1.last (ar x)).2)else(0,⟨a.2.1.size,a.2.1.aX,IntKind.wrap .i64 (a.2.1.bytes+((ar x).length:Nat)),a.2.1.next⟩,(a.2.2.append a.2.1.last (ar x)).2)).2.1.next=V.next)\/
     (b=A++[(no,l)]/\c=V.next/\(if a.1≠0 then a else if(a.2.2.append a.2.1.last (ar x)).1≠0 then((a.2.2.append a.2.1.last (ar x)).1,a.2.1,(a.2.2.append a.2.1.last (ar x)).2)else(0,⟨a.2.1.size,a.2.1.aX,IntKind.wrap .i64 (a.2.1.bytes+((ar x).length:Nat)),a.2.1.next⟩,(a.2.2.append a.2.1.last (ar x)).2)).2.1.next=V.next+1)):=by
  intro a b c d f M n g W E p F I h;rw[if_neg (by simpa using M)];rw[cE.rQ g];rcases lA a.2.2 (au c) (ar x)with⟨t,z⟩|⟨t,X,q,z⟩
  ·rw[if_pos t]
   exact⟨b,c,d,f,n.files z,g,E,by rw[if_neg t];exact p,F,I,h⟩
  ·rw[if_neg (by simpa using t)]
   obtain⟨s,y,N,Y⟩:=n.last;rw[y]at q;cases q;refine⟨b,c,d++x,f,n.put (s:=s) (by rw[z,eh]) (by have:=n.kl;simp;omega) ?_ (by rw[eh];simp;omega) ?_,⟨g.aX,?_,g.next⟩,E,?_,F,I,h⟩
   ·rw[List.take_append_of_le_length n.kl];exact N
   ·intro e O
    rcases Q6.1 O with H|H
    ·exact n.Yr e H
    ·exact C e H
   ·show IntKind.wrap .i64 _=_
    rw[g.bytes,wrap_i64 (by unfold aN;omega),eh];simp
   ·rw[if_pos rfl,<-p];simp[cI]
 dsimp only
 by_cases h:V.size<=V.bytes
 ·rw[if_pos h]
  rcases j.begin m with⟨u,r,B⟩|⟨u,r,B,P,Q⟩
  ·rw[if_pos u]
   exact⟨A,no,l,k,B,by rw[r];exact m,Q4 _,by rw[if_neg u],by rw[r],o,.inl ⟨rfl,rfl,by rw[r]⟩⟩
  ·refine i _ (A++[(no,l)]) V.next [] 0 u B P (by simp[ar]) ?_ (by rw[Dk,List.append_nil]) r ?_ (.inr ⟨rfl,rfl,Q⟩)
   ·have:=j.kl;unfold JO;simp;omega
   ·intro R S
    rcases Q6.1 S with H|H
    ·exact o R H
    ·rw[List.mem_singleton]at H;subst H
     rw[m.bytes]at h;exact h
 ·rw[if_neg h]
  exact i (0,V,D) A no l k rfl j m L (Q4 _) rfl rfl o (.inl ⟨rfl,rfl,rfl⟩)
def xk(t:bK D)(u:Tidy D.files)(c:0<=V.next/\V.next<1000000000000)(d:ay D.files (au V.next)=none):
  bK (bF V D).2.2/\((bF V D).1=0\/(bF V D).1=3\/(bF V D).1=12)/\((bF V D).1≠0->ay (bF V D).2.2.files (au V.next)=none):=by
 obtain⟨y,nt⟩:=fk (n:=V.next) (.inr c);unfold bF;dsimp only;rw[show cR (aB V.next)=au V.next from rfl];obtain⟨e,f⟩:=t.create (au V.next);have f:=f ((uy c.1).2 c.2) d;rcases lz D (au V.next)with⟨g,m⟩|⟨g,m,z,n⟩
 ·rw[if_pos g]
  exact⟨e,f.imp id .inr,λ_=>by show ay (D.create _).2.files _=none;rw[m];exact d⟩
 rw[if_neg (show¬(D.create (au V.next)).1≠0 by simpa using g)];have h:uz (au V.next) D (D.create (au V.next)).2:=(uz.refl u).put n;have o:ay (D.create (au V.next)).2.files (au V.next)=some ⟨[],0,false⟩:=by rw[n,bu];simp
 generalize(D.create (au V.next)).2=b at h o e;unfold m_;dsimp only;rw[show cR (aB V.next)=au V.next from rfl];obtain⟨p,i⟩:=e.sync (au V.next);have i:=i _ o;rw[if_neg (show¬(b.sync (au V.next)).1≠0 by simpa using i)];have j:Tidy (b.sync (au V.next)).2.files:=by
  rcases iL b (au V.next)with⟨k,a⟩|⟨k,A,d,a⟩
  ·rw[a];exact h.1
  ·rw[a];exact h.1.aJ _ _
 generalize(b.sync (au V.next)).2=l at j p;obtain⟨q,v⟩:=p.bJ j (V.aX++[V.next]);have mt:Tidy (bJ l (V.aX++[V.next])).2.files:=by
  rcases Lx j (V.aX++[V.next])with⟨-,r,-⟩|⟨-,-,r,-⟩<;>exact r
 by_cases s:(bJ l (V.aX++[V.next])).1=0
 ·rw[if_neg (by simpa using s)]
  exact⟨q,.inl rfl,λw=>absurd rfl w⟩
 ·rw[if_pos s]
  obtain⟨k,a⟩:=q.delete (au V.next);refine⟨k,v,λ_=>?_⟩;show ay ((bJ l (V.aX++[V.next])).2.delete (au V.next)).2.files _=none;rcases a with a|⟨a,x⟩
  ·rw[a,gh mt];simp
  ·rw[x];exact a
def xl(V:cY)(D:ak):Prop:=∀a,V.next<=a->a<1000000000000->ay D.files (au a)=none
end
section
variable {D E:ak} {A:oA} {no:Int} {l x:List ah} {k j n s:Nat} {V:cY}
def bK.read(b:bK D){a:ByteArray}(c:ay D.files a=some W):D.read a=(W.bytes,0):=by
 unfold ak.read;rw[b.dead,c];rfl
def bK.told(b:bK D){a:List Int}(c:ay D.files cg=some (dB (bW a)))(d:∀x∈a,aN x)(e:a.length<=64):told D=a:=by
 unfold Go.Proofs.YtfchlbaidamodaaGreatDoor.told dR;rw[b.read c,if_neg sM,show(dB (bW a)).bytes=bW a from rfl,oI d e];rfl
def zz(f:bK D):∀(A:oA) (a:List Int) (b:List ah) (V:cY),(∀x∈A,ay D.files (au x.1)=some (dB (ar x.2)))->(∀c∈(A.map (·.2)).flatten,c.Ok/\c.aK.length<=64)->
  ∃d,cZ (dt A++a) b V D=cZ a (b++(A.map (·.2)).flatten) ⟨V.size,V.aX++dt A,d,V.next⟩ D
 |[],a,b,V,_,_=>⟨V.bytes,by simp[dt]⟩
 |y::A,a,b,V,g,h=>by
  have i:=f.read (g y (QV ..));have j:=qW (l:=y.2) λc e=>h c (by simp only[QY,List.flatten_cons];exact List.mem_append_left _ e);obtain⟨d,k⟩:=zz f A a (b++y.2) ⟨V.size,V.aX++[y.1],((ar y.2).length:Nat),V.next⟩ (λx l=>g x (QJ _ l)) λc e=>h c (by simp only[QY,List.flatten_cons];exact List.mem_append_right _ e);refine⟨d,?_⟩;have m:dt (y::A)++a=y.1::(dt A++a):=rfl;rw[m]
  conv=>lhs;unfold cZ
  have n:(dB (ar y.2)).bytes=ar y.2:=rfl;rw[i,if_neg sM,n];dsimp only;rw[j,if_neg sM];dsimp only;rw[k];simp[dt,XQ]
def PR{size:Int}(e:bK D)(t:Tidy D.files)(b:cE E A no l k)(o:∀x∈A,ay D.files (au x.1)=some (dB (ar x.2)))(p:ay D.files cg=some (dB (bW (dt A++[no]))))(h:ay D.files (au no)=some ⟨(ar l).take n,s,true⟩)(hs:s<=min n (ar l).length)(N:(ar (l.take k)).length<=s):
  ∃a,k<=a/\a<=l.length/\((ar l).length<=n->a=l.length)/\(aM D size).no=0/\(aM D size).out=cI A (l.take a)/\AV (aM D size).V A no (l.take a)/\(aM D size).V.size=size/\(aM D size).V.next=iq D/\
   cE (aM D size).D A no (l.take a) k/\bK (aM D size).D/\(s=min n (ar l).length->cE (aM D size).D A no (l.take a) a)/\∀x,x≠au no->ay (aM D size).D.files x=ay D.files x:=by
 have u:=b.Yr;obtain⟨a,v,O,P,w⟩:=xm u n;have b3:=jN l a;have q:k<=a:=by
  refine Nat.le_of_not_lt λr=>?_;have Q:=w (by have:=b.kl;omega);have R:=Dp (l:=l) (i:=a+1) (j:=k) r;omega
 have S:(ar l).length<=n->a=l.length:=λhn=>by
  refine Nat.le_antisymm v (Nat.le_of_not_lt λr=>?_);have Q:=w r;have R:=jN l (a+1);omega
 have T:∀x∈dt A++[no],aN x:=λx f=>by have:=b.AS x f;unfold aN;omega
 have U:(dt A++[no]).length<=64:=by have:=b.many;simpa[dt]using this
 have y:=e.told p T U;obtain⟨z,V⟩:=zz e A [no] [] (dY D size) o λc g=>b.evs c (List.mem_append_left _ g);have B:=e.read h;simp only at B;have b4:((ar l).take n).length=min n (ar l).length:=Qy;have C:no<iq D:=JM (by have:=b.mL;omega) (by rw[h];rfl);have F:=sI D.list;have H:∀c∈l.take a,c.Ok/\c.aK.length<=64:=λc g=>u c (List.mem_of_mem_take g);have W:cE ⟨D.most,aJ D.files (au no) ⟨ar l,(ar l).length,true⟩,D.js,D.left,D.dead⟩ A no l k:=by
  have X:=b.Vu;have Y:=(fk (n:=no) (.inr (by have:=b.mL;omega))).1;exact⟨t.aJ _ _,λx f=>by show ay (aJ _ _ _) _=_;rw[bu,if_neg (by simpa using X x f)];exact o x f,⟨_,by show ay (aJ _ _ _) _=_;rw[bu];simp,by exact jN l k,Q4 _⟩,b.kl,by show ay (aJ _ _ _) _=_;rw[bu,if_neg (by simpa using Y.symm)];exact p,b.AS,b.Ac,b.evs,b.many⟩
 have I:cZ (told D) [] (dY D size) D=cZ [no] ((A.map (·.2)).flatten) ⟨size,dt A,z,iq D⟩ D:=by
  rw[y,V];simp[dY]
 have J:cZ [no] ((A.map (·.2)).flatten) ⟨size,dt A,z,iq D⟩ D=
   if(ar (l.take a)).length<((ar l).take n).length then⟨(D.nT (au no) (ar (l.take a)).length).1,cI A (l.take a),⟨size,dt A++[no],((ar (l.take a)).length:Nat),iq D⟩,(D.nT (au no) (ar (l.take a)).length).2⟩
   else⟨0,cI A (l.take a),⟨size,dt A++[no],((ar (l.take a)).length:Nat),iq D⟩,D⟩:=by
  unfold cZ;rw[B,if_neg sM];dsimp only;rw[O];dsimp only;split
  ·rfl
  ·unfold cZ;rfl
 have K:∀(i:oT),i.no=0->i.V.aX=dt A++[no]->gj (told D).length i=i:=λi Z L=>by
  unfold gj;rw[if_neg (by simpa using Z),if_neg (by rw[L];simp),if_neg (by rw[L,y];omega)]
 have a0:aM D size=cZ (told D) [] (dY D size) D:=by
  unfold aM;rw[I,J];split
  ·exact K _ (e.nT h _).1 rfl
  ·exact K _ rfl rfl
 rw[a0,I,J];refine⟨a,q,v,S,?_⟩;split
 ·rename_i b1
  obtain⟨c1,c2,c3⟩:=e.nT h ((ar (l.take a)).length:Nat);have a6:gY ((ar (l.take a)).length:Nat) ((ar l).take n).length=(ar (l.take a)).length:=by unfold gY;omega
  have a7:(⟨(ar l).take n,s,true⟩:bQ).cut ((ar (l.take a)).length:Nat)=⟨ar (l.take a),(ar (l.take a)).length,true⟩:=by
   unfold bQ.cut;simp only[a6];rw[List.take_take,X2 P,Gj]
  have M:(D.nT (au no) ((ar (l.take a)).length:Nat)).2.files=aJ D.files (au no) ⟨ar (l.take a),(ar (l.take a)).length,true⟩:=by
   rw[c2,a7];rfl
  have j:∀d,d<=a->cE (D.nT (au no) ((ar (l.take a)).length:Nat)).2 A no (l.take a) d:=λd m=>
   W.put (s:=(ar (l.take a)).length) (by rw[M];show _=aJ (aJ _ _ _) _ _;rw[yy]) (by simp;omega) (jN _ _) (Q4 _) H
  refine⟨c1,rfl,⟨rfl,rfl,C,F.2⟩,rfl,rfl,j k q,c3,λ_=>j a (Q4 _),λx f=>?_⟩;show ay (D.nT (au no) ((ar (l.take a)).length:Nat)).2.files x=_;rw[M,bu,if_neg (by simpa using f)]
 ·rename_i b2
  have a8:(ar (l.take a)).length=min n (ar l).length:=oM;have a9:(ar l).take n=ar (l.take a):=by
   rw[<-Gj l a,a8,List.take_eq_take_iff];omega
  have j:∀d,d<=a->(ar (l.take d)).length<=s->cE D A no (l.take a) d:=λd m b0=>
   ⟨t,o,⟨s,by rw[h,a9],by rw[List.take_take,X2 m];exact b0,oM⟩,by simp;omega,p,b.AS,b.Ac,λc g=>(Q6.1 g).elim (λh'=>b.evs c (List.mem_append_left _ h')) (H c),b.many⟩
  exact⟨rfl,rfl,⟨rfl,rfl,C,F.2⟩,rfl,rfl,j k q N,e,λg=>j a (Q4 _) oM,λ_ _=>rfl⟩
def Ke(b:Nat)(a:Int):aM (eS b) a=⟨(bF ⟨a,[],0,1⟩ (eS b)).1,[],(bF ⟨a,[],0,1⟩ (eS b)).2.1,(bF ⟨a,[],0,1⟩ (eS b)).2.2⟩:=by
 have c:iq (eS b)=1:=by simp[iq,tX,ak.list,eS,tP]
 have d:told (eS b)=[]:=by
  have:(eS b).read cg=([],14):=by simp[ak.read,eS,ay]
  unfold told dR;rw[this];rfl
 have e:(dY (eS b) a)=⟨a,[],0,1⟩:=by unfold dY;rw[c]
 unfold aM;rw[d,e];unfold cZ gj;rw[if_neg sM,if_pos rfl];unfold aG;rw[if_pos rfl]
def rR(b:Nat)(a:Int):((aM (eS b) a).no=3\/(aM (eS b) a).no=12)\/
  ((aM (eS b) a).no=0/\(aM (eS b) a).out=[]/\cE (aM (eS b) a).D [] 1 [] 0/\AV (aM (eS b) a).V [] 1 []/\(aM (eS b) a).V.size=a/\(aM (eS b) a).V.next=2/\bK (aM (eS b) a).D/\xl (aM (eS b) a).V (aM (eS b) a).D):=by
 have g:bK (eS b):=⟨rfl,rfl⟩;have e:Tidy (eS b).files:=by simp[Tidy,eS]
 rw[Ke];obtain⟨h,i,t⟩:=xk (V:=⟨a,[],0,1⟩) g e ⟨sM,sM⟩ (by simp[eS,ay]);rcases vl (D:=eS b) (V:=⟨a,[],0,1⟩) e sM with⟨d,j,k,l⟩|⟨d,j,k,l,c,m,n,o,p⟩
 ·exact .inl (i.resolve_left d)
 ·refine .inr ⟨d,rfl,⟨m,sM,⟨0,n,by simp[ar],Qj _⟩,Q4 _,o,by simp[dt],by simp[dt],by simp[cI],sM⟩,⟨by rw[c];rfl,by rw[c];rfl,by rw[c];simp⟩,by rw[c],by rw[c];rfl,h,?_⟩
  show xl (bF ⟨a,[],0,1⟩ (eS b)).2.1 (bF ⟨a,[],0,1⟩ (eS b)).2.2;rw[c];intro q r u;simp only at r;have f:=fk (n:=q) (.inr oM);rw[p _ (λs=>by have:=gi (a:=1) oM s;omega) f.2 f.1];simp[eS,ay]
end
section
variable {D E:ak} {A:oA} {no:Int} {l x:List ah} {k:Nat} {V:cY} {b:List UInt8} {size:Int}
def BJ:∀(c:List Int) {D:ak},Tidy D.files->Tidy (jC c D).files/\∀a,(∀n∈c,a≠au n)->ay (jC c D).files a=ay D.files a
 |[],D,d=>⟨d,λ_ _=>rfl⟩
 |n::c,D,d=>by
  have f:Tidy (D.delete (au n)).2.files/\∀a,a≠au n->ay (D.delete (au n)).2.files a=ay D.files a:=by
   rcases jA D (au n)with e|e
   ·rw[e];exact⟨d,λ_ _=>rfl⟩
   ·rw[e];exact⟨d.bV _,λa b=>by rw[gh d,if_neg (by simpa using b)]⟩
  unfold jC;split
  ·exact⟨f.1,λa b=>f.2 a (b n (QV ..))⟩
  ·obtain⟨g,h⟩:=BJ c f.1;exact⟨g,λa b=>(h a λi j=>b i (QJ _ j)).trans (f.2 a (b n (QV ..)))⟩
def Hg(t:Tidy D.files)(u:0<=no):((bL no b D).1≠0/\Tidy (bL no b D).2.files/\∀a,a≠au no->a≠aS->ay (bL no b D).2.files a=ay D.files a)\/
  ((bL no b D).1=0/\no<1000000000000/\ay D.files (au no)=none/\Tidy (bL no b D).2.files/\ay (bL no b D).2.files (au no)=some (dB b)/\
   ay (bL no b D).2.files cg=some (dB (bW [no]))/\∀a,a≠au no->a≠aS->a≠cg->ay (bL no b D).2.files a=ay D.files a):=by
 unfold bL;dsimp only;rw[show cR (aB no)=au no from rfl];rcases lz D (au no)with⟨m,n⟩|⟨m,n,C,v⟩
 ·rw[if_pos m]
  exact .inl ⟨m,by show Tidy (D.create _).2.files;rw[n];exact t,λa _ _=>by show ay (D.create (au no)).2.files a=_;rw[n]⟩
 have w:=(uy u).1 n;obtain⟨E,nt⟩:=fk (n:=no) (.inr ⟨u,w⟩);rw[if_neg (show¬(D.create (au no)).1≠0 by simpa using m)];have o:uz (au no) D (D.create (au no)).2:=(uz.refl t).put v;have x:ay (D.create (au no)).2.files (au no)=some ⟨[],0,false⟩:=by rw[v,bu];simp
 generalize(D.create (au no)).2=h at o x;have g:∀{F:ak},Tidy F.files->(∀a,a≠au no->a≠aS->ay F.files a=ay D.files a)->Tidy (F.delete (au no)).2.files/\∀a,a≠au no->a≠aS->ay (F.delete (au no)).2.files a=ay D.files a:=by
  intro F r y;rcases jA F (au no)with e|e
  ·rw[e];exact⟨r,y⟩
  ·rw[e];exact⟨r.bV _,λa d j=>by rw[gh r,if_neg (by simpa using d)];exact y a d j⟩
 rcases lA h (au no) b with⟨f,c⟩|⟨f,H,k,c⟩
 ·rw[if_pos f]
  have:=g (F:=(h.append (au no) b).2) (by rw[c];exact o.1) λa d _=>by rw[c];exact o.2 a d
  exact .inl ⟨f,this⟩
 rw[x]at k;cases k
 rw[if_neg (show¬(h.append (au no) b).1≠0 by simpa using f)];have p:uz (au no) D (h.append (au no) b).2:=o.put c;have z:ay (h.append (au no) b).2.files (au no)=some ⟨b,0,false⟩:=by rw[c,bu];simp
 generalize(h.append (au no) b).2=i at p z;rcases iL i (au no)with⟨f,c⟩|⟨f,H,k,c⟩
 ·rw[if_pos f]
  have:=g (F:=(i.sync (au no)).2) (by rw[c];exact p.1) λa d _=>by rw[c];exact p.2 a d
  exact .inl ⟨f,this⟩
 rw[z]at k;cases k
 have q:uz (au no) D (i.sync (au no)).2:=p.put c;have A:ay (i.sync (au no)).2.files (au no)=some (dB b):=by rw[c,bu];simp
 rw[if_neg (show¬(i.sync (au no)).1≠0 by simpa using f)];generalize(i.sync (au no)).2=I at q A;rcases Lx q.1 [no]with⟨l,s⟩|⟨l,s,J,K,B⟩
 ·rw[if_pos l]
  have:=g (F:=(bJ I [no]).2) s.1 λa d j=>(s.2 a j).trans (q.2 a d);exact .inl ⟨l,this⟩
 ·rw[if_neg (by simpa using l)]
  exact .inr ⟨l,w,C,J,(B _ nt E).trans A,K,λa d j L=>(B a j L).trans (q.2 a d)⟩
def cE.lt_next(d:cE D A no l k)(e:AV V A no l):∀a∈dt A++[no],a<V.next:=λa f=>by
 have g:=e.next;rcases Q6.1 f with b|b
 ·have c:=d.Ac;rw[List.pairwise_append]at c;have:=c.2.2 a b no (List.mem_singleton.2 rfl);omega
 ·have:=List.mem_singleton.1 b;omega
def cE.ne_next(b:cE D A no l k)(d:AV V A no l):∀a∈dt A++[no],au a≠au V.next:=λa c e=>by
 have f:=b.AS a c;have g:=b.lt_next d a c;have:=gi (a:=a) ⟨oM,f.2⟩ e.symm;omega
def TU(c:0<=no):cg≠au no:=λa=>by
 by_cases d:no<1000000000000
 ·exact(fk (n:=no) (.inr oM)).1 a.symm
 ·have b:au no=cR []:=by unfold au aB;rw[if_pos (.inr oM)]
  rw[b]at a
  revert a;decide+kernel
def RM(b:Tidy D.files)(c:1<=no/\no<1000000000000)(d:ay D.files (au no)=some (dB (ar x)))(e:ay D.files cg=some (dB (bW [no])))(f:∀a∈x,a.Ok/\a.aK.length<=64):cE D [] no x x.length:=
 ⟨b,λh g=>(by cases g),⟨_,d,by rw[List.take_length];exact Q4 _,Q4 _⟩,Q4 _,e,by simpa[dt]using c,by simp[dt],by simpa[cI]using f,sM⟩
def cE.bL(a:cE D A no l k)(f:AV V A no l)(i:∀b∈x,b.Ok/\b.aK.length<=64):
  ((bL V.next (ar x) D).1≠0/\cE (bL V.next (ar x) D).2 A no l k)\/((bL V.next (ar x) D).1=0/\V.next<1000000000000/\cE (bL V.next (ar x) D).2 [] V.next x x.length):=by
 have o:=a.mL;have p:=f.next;rcases Hg (b:=ar x) a.tidy (show 0<=V.next by omega)with⟨c,d,e⟩|⟨c,d,e,j,m,n,q⟩
 ·exact .inl ⟨c,a.same d (λg h=>e _ (a.ne_next f g h) (fk (.inr (by have:=a.AS g h;omega))).2) (e _ (TU oM) λb=>AW b.symm)⟩
 ·exact .inr ⟨c,d,RM j oM m n i⟩
def uA(b:D.dead=false){a:ByteArray}(c:ay D.files a=some W):D.read a=(W.bytes,0):=by
 unfold ak.read;rw[b,c];rfl
def vJ(f:D.dead=false):∀(A:oA) (a:List Int) (c:List ah) (V:cY),(∀x∈A,ay D.files (au x.1)=some (dB (ar x.2)))->(∀d∈(A.map (·.2)).flatten,d.Ok/\d.aK.length<=64)->
  ∃b,cZ (dt A++a) c V D=cZ a (c++(A.map (·.2)).flatten) ⟨V.size,V.aX++dt A,b,V.next⟩ D
 |[],a,c,V,_,_=>⟨V.bytes,by simp[dt]⟩
 |y::A,a,c,V,g,h=>by
  have i:=uA f (g y (QV ..));have j:=qW (l:=y.2) λd e=>h d (by simp only[QY,List.flatten_cons];exact List.mem_append_left _ e);obtain⟨b,k⟩:=vJ f A a (c++y.2) ⟨V.size,V.aX++[y.1],((ar y.2).length:Nat),V.next⟩ (λx l=>g x (QJ _ l)) λd e=>h d (by simp only[QY,List.flatten_cons];exact List.mem_append_right _ e);refine⟨b,?_⟩;have m:dt (y::A)++a=y.1::(dt A++a):=rfl;rw[m]
  conv=>lhs;unfold cZ
  have n:(dB (ar y.2)).bytes=ar y.2:=rfl;rw[i,if_neg sM,n];dsimp only;rw[j,if_neg sM];dsimp only;rw[k];simp[dt,XQ]
def Ly(a:cE D A no l k)(c:D.dead=false):aM D size=⟨0,cI A l,⟨size,dt A++[no],((ar l).length:Nat),iq D⟩,D⟩:=by
 obtain⟨p,e,q,r⟩:=a.last;have f:∀x∈dt A++[no],aN x:=λx g=>by have:=a.AS x g;unfold aN;omega
 have h:(dt A++[no]).length<=64:=by have:=a.many;simpa[dt]using this
 have d:told D=dt A++[no]:=by
  unfold told dR;rw[uA c a.WV,if_neg sM,show(dB (bW (dt A++[no]))).bytes=bW (dt A++[no])from rfl,oI f h];rfl
 obtain⟨b,i⟩:=vJ c A [no] [] (dY D size) a.full λj m=>a.evs j (List.mem_append_left _ m);have n:=uA c e;have o:cZ (told D) [] (dY D size) D=⟨0,cI A l,⟨size,dt A++[no],((ar l).length:Nat),iq D⟩,D⟩:=by
  rw[d,i];unfold cZ;rw[n,if_neg sM];dsimp only;rw[qW a.Yr,if_neg sM];unfold cZ;simp[dY,cI]
 unfold aM;rw[o];unfold gj;rw[if_neg sM,if_neg sM,if_neg (by rw[d];simp)]
def Pl(a:D.dead=true):(aM D size).no=15/\(aM D size).D.files=D.files:=by
 have b:told D=[]:=by
  have:D.read cg=([],15):=by unfold ak.read;rw[a];rfl
  unfold told dR;rw[this];rfl
 have c:∀V:cY,V.aX=[]->aG V D=(15,V,D.gone):=λV d=>by
  unfold aG;rw[if_pos d];have e:D.create (cR (aB V.next))=(15,D.gone):=by
   unfold ak.create ak.op ak.dies;rw[a];rfl
  unfold bF;dsimp only;rw[e,if_pos sM]
 unfold aM;rw[b];unfold cZ gj;rw[if_neg sM,if_pos (show(dY D size).aX=[]from rfl),show aG _ _=_ from c (dY D size) rfl];exact⟨rfl,rfl⟩
end
section
variable {D E:ak} {A:oA} {no:Int} {l x:List ah} {k:Nat} {V:cY} {b:List UInt8} {size:Int} {L:List Int}
structure Le (D:ak) (no:Int) (x:List ah):Prop where
 held:cE D [] no x x.length
 alive:bK D
 none:∀y,y≠au no->y≠cg->ay D.files y=none
def RN:(gV cg).2=false:=by decide+kernel
end
section
variable {D E:ak} {A:oA} {no:Int} {l:List ah} {k:Nat}
def BC:∀(a:List ByteArray) {D:ak},bK D->bK (Lu D a)
 |[],D,b=>b
 |s::a,D,b=>BC a (b.delete s).1
def BD:∀(c:List ByteArray) {D:ak},bK D->Tidy D.files->∀a,ay (Lu D c).files a=if a∈c then none else ay D.files a
 |[],D,_,_,a=>by simp[Lu]
 |b::c,D,g,d,a=>by
  show ay (Lu (D.delete b).2 c).files a=_;obtain⟨h,i⟩:=g.delete b;have j:Tidy (D.delete b).2.files:=by
   rcases jA D b with e|e
   ·rw[e];exact d
   ·rw[e];exact d.bV _
  have e:ay (D.delete b).2.files a=if a=b then none else ay D.files a:=by
   rcases i with e|⟨k,e⟩
   ·rw[e,gh d];simp
   ·rw[e];split
    ·rename_i l;rw[l,k]
    ·rfl
  rw[BD c h j a,e]
  by_cases f:a∈c
  ·simp[f]
  ·by_cases m:a=b<;>simp[f,m]
def Lw:cg≠aS:=by decide+kernel
end
def mS:fS:=⟨[(10,[(13,QH 0)]),(22,[(16,QH 0)])],[],[],[],[]⟩
def mT{s u v w x y z A m B:Int}{C D f:Option Addr}{E F G H d I:Nat}(Z:PA b (.cells #[.ii s,.ii u,.ii v,.ii w,.ii x,.ii y,.ii z,.ii A,.slice C E F,.slice D G H] 28) λJ=>(Ld 28 (ab_ b 0) J λa1=>PC_ 10 #[a1,.slice f d I] J (kB λa2 n=>al a2 (PC_ 11 #[] n (kB λa3 a4=>rt t ((.bool a3)) a4) (pE t)) ((Ld 28 (ab_ b 0) n λa5=>PC_ 13 #[a5] n (kX_ 28 λa6 a7=>PC_ 12 #[a6,.ii m] a7 (λa8 K=>∃a o,a8= .tuple #[.pointer a,.ii o]/\(Ld 28 (ab_ b 0) K λa9=>PC_ 13 #[a9] K (kX_ 28 λb0 b1=>PC_ 12 #[b0,.ii m] b1 (λb2 p=>∃g L,b2= .tuple #[.pointer g,.ii L]/\al (o !=L) (rt t ((.bool false)) p) (al (o !=0) (PC_ 11 #[] p (kB λb3 b4=>rt t ((.bool b3)) b4) (pE t)) ((∃q:Nat->Int->World->Prop,(∃h,q h 0 p)/\∀(h:Nat) (c:Int) (f4:Nat->Value) (i:World),q h c i->al (decide (c<(d:Int))) ((ix_ f c d λb5 b6=>(Ld 72 (ad b5 (b6+Int.toNat c*15)) i λb7=>PC_ 24 #[.pointer a,b7] i (kI_ λf5 M=>(ix_ f c d λb8 b9=>(Ld 72 (ad b8 (b9+Int.toNat c*15)) M λc0=>PC_ 24 #[.pointer g,c0] M (kI_ λf6 c1=>(∃N,N<h/\q N (IntKind.wrap .i64 (c+1)) c1)) (pE t)))) (pE t)))) (PC_ 25 #[.pointer a] i (kI_ λf7 d0=>PC_ 15 #[.pointer a] d0 (kS_ λd1 d2 d3 d4=>PC_ 15 #[.pointer g] d4 (kS_ λd5 d6 d7 d8=>PC_ 17 #[.slice d1 d2 d3,.slice d5 d6 d7] d8 (kB λd9 j=>al (!d9) (rt t ((.bool false)) j) ((∃O P Q R S T,j.cell? (ab_ b (0+8))=some (.slice O P Q)/\j.cell? (ab_ b (0+8+1))=some (.slice R S T)/\PC_ 21 #[.pointer a,.pointer g,.agg #[.slice O P Q,.slice R S T]] j (kB λe0 U=>al (!e0) (rt t ((.bool false)) U) (PC_ 15 #[.pointer a] U (kS_ λe1 V f8 e2=>PC_ 26 #[.pointer a,.ii B] e2 (kI_ λe3 W=>al (e3 !=0) (rt t ((.bool false)) W) (PC_ 15 #[.pointer a] W (kS_ λe4 e5 e6 e7=>(∃r:Nat->Int->World->Prop,(∃k,r k 0 e7)/\∀(k:Nat) (e:Int) (f9:Nat->Value) (l:World),r k e l->al (decide (e<(V:Int))) ((ix_ e1 e V λe8 e9=>(Ld 59 (ad e8 (e9+Int.toNat e*10)) l λf0=>PC_ 20 #[.slice e4 e5 e6,f0] l (kB λf1 X=>al (!f1) (rt t ((.bool false)) X) ((∃Y,Y<k/\r Y (IntKind.wrap .i64 (e+1)) X))) (pE t)))) (PC_ 11 #[] l (kB λf2 f3=>rt t ((.bool f2)) f3) (pE t)))) (pE t))) (pE t)) (pE t))) (pE t)))) (pE t)) (pE t)) (pE t)) (pE t)))))) (pE t)) (pE t))) (pE t)) (pE t)))) (pE t))):Calls ZQ 7 #[.agg #[.ii s,.ii u,.ii v,.ii w,.ii x,.ii y,.ii z,.ii A,.slice C E F,.slice D G H],.ii m,.slice f d I,.ii B] b t:=DC mS Tryz.func7 rfl Z
end Go.Proofs.YtfchlbaidamodaaGreatDoor

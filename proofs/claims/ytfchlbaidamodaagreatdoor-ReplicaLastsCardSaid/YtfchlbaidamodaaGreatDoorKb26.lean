import Derived.Test.YtfchlbaidamodaaGreatDoorKb25
set_option linter.all false
set_option maxRecDepth 20000
namespace Go.Proofs.YtfchlbaidamodaaGreatDoor
open Go.ax
variable{B:List ah}{a c:Nat}{f:Nat->Prop}{d:Option Addr}{O:aR}{k:ah}
section
variable {w w':World} {p:Nat} {F T D:Nat->Prop} {V:bk} {q:GJ}
abbrev GP (a:df) (b:Option Addr) (c d:Nat):Value:=.agg (iG a b c d).toArray
theorem IE (M:cT w p F V) (hT:eM w) (hr:Row aP 8 w D d a k.aK) (r:∀b,D b->b<w.heap.size/\¬F b) (he:k.Ok) (e:((ay V.done (k.bd,k.agg,k.field)).getD []).length<=20000000) (N:V.entries.length<=20000000):
  Calls ZQ 79 #[.pointer (some ⟨p,0,none⟩),kK k d a c] w (Ok λW w'=>∃d a c G,W=GP (V.add k).1 d a c/\Row aP 8 w' G d a k.aK/\∃X,cT w' p X (V.add k).2/\de F w X w'/\∀b,G b->w.heap.size<=b/\b<w'.heap.size/\¬X b):=by
 have Y:=M.aF;have g9:=Y _ M.self;refine Am (PA.mk λu e5 h3 d0=>PA.mk λh4 Z h5 e6=>?_);have k0:=e5.then Z;refine aw (bg k d a c) (Z.get d0 id) (PC.ok (oV (hr.af k0) λb e=>by have:=(r b e).1;omega) ?_);rintro _ h6 ⟨a6,n1,c1,G1,rfl,e7,v,O⟩;have a0:=k0.then O;refine cu (sW k a6 n1 c1) ⟨rfl,PC.ok (Ts (M.af a0) (hT.af a0) e7 (λb e=>⟨(v b e).2,λl=>by have:=Y b l;have:=v b e;omega⟩) he e) ?_⟩;rintro _ x ⟨rfl,g,b8,P,Q⟩;have h7:=O.size;have h8:=P.size;have b0:∀b,g b->F b\/w.heap.size<=b:=λb e=>by
  rcases Q b e with f|f|f
  ·exact .inl f
  ·have:=v b f;exact .inr oM
  ·exact .inr oM
 have b1:aj F w x:=(ai.keep a0).then P;have R:∀{b:Nat},w.heap.size<=b->¬F b:=λ{b} e l=>by have:=Y b l;omega
 have d1:=P.get (O.get (Z.get d0 id) id) (R (Q4 _));have d2:=P.get (O.get e6 id) (R oM);refine⟨_,_,_,rfl,PA.mk λh9 e8 i0 e9=>PS.mk e9 sM λi1 f2 i2 f3=>PS.mk f3 sM λi3 f4 i4 f6=>λy b9=>?_⟩;have B:ai x y:=((e8.new f2 λb e=>.inr oM).new f4 λb e=>.inr oM).then b9.keep;have i5:y.heap.size=x.heap.size+1:=by rw [b9.heap];omega
 have a1:y.heap[x.heap.size]? =some (.cells #[QH (V.try k).2.1.1,QH (V.try k).2.1.2] 39 (0,0)):=(b9.keep (S:=λ_=>False)).get f6 id;have b2:=B.get d1 id;obtain⟨g8,q,h⟩:=b8.af B;have c0:=b8.self;have z:=b8.aF;have b3:=((hr.keep b1 λb e=>(r b e).2).af B)
 have a4:(V.try k).2.2.entries=V.entries:=by
  rw [bk.sR];split;rfl;split;rfl;split<;>rfl
 have i6:=h.QU.len dC;have C:∀b,aI q.ea=some b->g b/\q.cls b= .QU:=λb e=>h.QU.self b e;have E:¬aI q.ea=some p:=λm=>by have f:=(C p m).2;rw [h.lp.2]at f;cases f
 refine⟨λb=>aI q.ea=some b,p,0,rfl,E,_,_,_,ae h.at' rfl,aw (bg k d a c) b2 ⟨λm=>by have:=z _ (C _ m).1;omega,_,_,ae a1 rfl,ae a1 rfl,PC.ok (oV b3 λb e=>by have:=(r b e).1;omega) ?_⟩⟩;rintro _ i7 ⟨a7,n2,c2,G2,rfl,f7,A,c4⟩;have i8:=c4.size;refine⟨_,_,_,_,_,_,_,_,_,_,_,_,rfl,ai.keep c4,PA.mk λd3 c5 i9 g0=>⟨ai.keep c5,?_⟩⟩;have a2:=c4.then c5;refine fh (c:=Ab) (x:=⟨k,(V.try k).1,(V.try k).2.1⟩) (h.QU.af a2) Tm g0 (D:=G2) ⟨a7,n2,c2,rfl,f7.af c5,he⟩ (λb e=>⟨by have:=A b e;omega,λm=>by have:=z _ (C _ m).1;have:=A b e;omega⟩) (by rw [a4];unfold aQ;omega) (by rw [a4];unfold maxLen;omega) λa' H d4 F2 b4 c6 c7=>⟨_,_,_,rfl,p,0,rfl,?_⟩
 have j0:=c6.size;have d5:=c6.get ((h.af a2).at') E;refine PS.mk d5 sM λI g1 j1 g2=>λs d6=>?_;have d7:ai I s:=d6.keep;have j2:s.heap.size=I.heap.size:=by rw [d6.heap]
 have a5:aj (·=p) d4 s:=g1.af d7;have k5:aj (λb=>aI q.ea=some b\/b=p) y s:=((ai.keep a2).then (c6.mono λb _ e=>.inl e)).then (a5.mono λb _ e=>.inr e);have J:aj g y s:=k5.mono λb _ e=>e.elim (λf=>(C b f).1) λf=>f▸c0;have c8:∀{b:Nat},x.heap.size<=b->¬g b:=λ{b} e l=>by have:=z b l;omega
 have g3:¬g w.heap.size:=λl=>by
  rcases Q _ l with f|f|f
  ·exact R (Q4 _) f
  ·have:=v _ f;omega
  ·omega
 have c9:¬g u.heap.size:=λl=>by
  rcases Q _ l with f|f|f
  ·exact R oM f
  ·have:=v _ f;omega
  ·omega
 have d8:=J.get b2 g3;have d9:=J.get (B.get d2 id) c9;have b5:=J.get a1 (c8 (Q4 _));have e0:∀b,D b->¬g b:=λb e l=>by
  rcases Q _ l with f|f|f
  ·exact(r b e).2 f
  ·have:=v _ f;have:=(r b e).1;omega
  ·have:=(r b e).1;omega
 have e1:=b3.keep J e0;have j3:=k5.size;refine⟨λb=>b=u.heap.size,aw (bg k d a c) d8 ⟨oM,_,_,ae b5 rfl,ae b5 rfl,PC.ok (oV e1 λb e=>by have:=(r b e).1;omega) ?_⟩⟩;rintro _ j4 ⟨a3,n3,c3,G3,rfl,g4,e2,K⟩;have j5:=K.size;refine⟨_,_,_,_,_,_,_,_,_,_,_,_,rfl,ai.keep K,aD (mg ⟨k,(V.try k).1,(V.try k).2.1⟩ a3 n3 c3) (K.get d9 id) rfl λe3 S j6 g5=>⟨S,aw (mg ⟨k,(V.try k).1,(V.try k).2.1⟩ a3 n3 c3) g5 (Ok.mk ⟨a3,n3,c3,G3,rfl,g4.keep S λb e m=>by have:=e2 b e;omega,λb=>b<I.heap.size/\(g b\/G2 b\/d3.heap.size<=b),?_,⟨?_,?_⟩,?_⟩)⟩⟩
 ·have g6:=(bk.Bn (by
   have:V.OK:=M.1;exact this) k).1
  have T:aj (λb=>b=u.heap.size) s e3:=(ai.keep K).then S;have zc:=T.size;have g7:∀b,g b->b<I.heap.size:=λb e=>by have:=z b e;omega
  classical
  have e4:∀b,g b->(if g b then q.cls b else KX.QU)=q.cls b:=λb e=>if_pos e;have L:aj (λb=>(aI q.ea=some b\/b=p)\/b=u.heap.size) y e3:=(k5.mono λb _ e=>.inl e).then (T.mono λb _ e=>.inr e);have i:∀(o:KX) b,o≠.QU->o≠.self->g b/\q.cls b=o->¬((aI q.ea=some b\/b=p)\/b=u.heap.size):=λo b f U e n=>by
   rcases n with(n|n)|n
   ·exact f (e.2.symm.trans (C b n).2)
   ·subst n;exact U (e.2.symm.trans h.lp.2)
   ·subst n;exact c9 e.1
  have j:∀(o:KX) b,g b/\q.cls b=o->((b<I.heap.size/\(g b\/G2 b\/d3.heap.size<=b))/\(if g b then q.cls b else KX.QU)=o):=λo b e=>⟨⟨g7 b e.1,.inl e.1⟩,(e4 b e.1).trans e.2⟩
  refine⟨g6,⟨q.ta,q.tn,q.tc,q.pa,q.pn,q.pc,a',q.en+1,H,q.r1,q.r2,q.l1,q.l2,λb=>if g b then q.cls b else KX.QU⟩,?_,?_,?_,?_,?_,?_,?_,λb e=>by have:=e.1;omega,j _ _ h.lp,j _ _ h.l1,j _ _ h.l2⟩
  ·exact T.get (d7.get g2 id) oM
  ·exact(h.Tp.keep L λb e=>i _ b sM sM e).mono (j _)
  ·have N:∀b,F2 b->b<d4.heap.size/\b≠u.heap.size/\b≠p:=λb e=>by
    refine⟨b4.aF b e,λm=>?_,λm=>?_⟩
    ·rcases c7 b e with f|f|f
     ·exact c9 (m▸f.1)
     ·have:=A b f;omega
     ·omega
    ·rcases c7 b e with f|f|f
     ·have U:=f.2;rw [m,h.lp.2]at U;cases U
     ·have:=A b f;have:=z p c0;omega
     ·have:=z p c0;omega
   have:(V.add k).2.entries=(V.try k).2.2.entries++[⟨k,(V.try k).1,(V.try k).2.1⟩]:=rfl;rw [this];refine((b4.keep a5 λb e=>(N b e).2.2).keep T λb e=>(N b e).2.1).mono (λb e=>?_) λb e=>by have:=e.1.1;omega
   have h0:=(N b e).1;rcases c7 b e with f|f|f
   ·exact j _ b f
   ·have:=A b f
    refine⟨⟨oM,.inr (.inl f)⟩,?_⟩;show(if g b then _ else _)=_;rw [if_neg (c8 oM)]
   ·refine⟨⟨oM,.inr (.inr f)⟩,?_⟩
    show(if g b then _ else _)=_;rw [if_neg (c8 oM)]
  ·exact h.st.keep L (i _ _ sM sM h.l1)
  ·refine h.Yk.mono λW a8 t=>?_
   obtain⟨x1,x2,x3,rfl,t⟩:=t;exact⟨x1,x2,x3,rfl,(t.keep L λb e=>i _ b sM sM e).mono (j _)⟩
  ·exact h.dn.keep L (i _ _ sM sM h.l2)
  ·refine h.YC.mono λa9 W a8 t=>?_
   obtain⟨x1,x2,x3,rfl,t⟩:=t;exact⟨x1,x2,x3,rfl,(t.keep L λb e=>i _ b sM sM e).mono (j _) λb e=>by have:=e.1.1;omega⟩
 ·have k1:aj g x s:=(ai.keep B).then J
  exact((b1.new k1 b0).af K).new S λb e=>.inr oM
 ·intro b e
  rcases e.2 with f|f|f
  ·exact b0 b f
  ·have:=A b f;exact .inr oM
  ·exact .inr oM
 ·intro b e
  have:=e2 b e;refine⟨oM,oM,λn=>by have:=n.1;omega⟩
theorem GQ (f:aR):∀(c:List ah) (a:bk) (b:Int×Int×Int),(((ay (c.foldl (λa e=>(a.add e).2) a).done b).getD []).length<=((ay a.done b).getD []).length+c.length)/\(c.foldl (λa e=>(a.add e).2) a).entries.length=a.entries.length+c.length
 |[],a,b=>by simp
 |e::c,a,b=>by
  rw [List.foldl_cons];obtain⟨g,h⟩:=GQ f c (a.add e).2 b;have k:((ay (a.add e).2.done b).getD []).length<=((ay a.done b).getD []).length+1:=by
   show((ay (a.try e).2.2.done b).getD []).length<=_;rw [bk.sR];split
   ·simp
   split
   ·simp
   split
   ·simp
   ·simp only
    rw [bu];split
    ·rename_i i
     have d:b=(e.bd,e.agg,e.field):=by simpa using i
     rw [d];simp
    ·simp
  have j:(a.add e).2.entries.length=a.entries.length+1:=by
   show((a.try e).2.2.entries++[_]).length=_;have:(a.try e).2.2.entries=a.entries:=by rw [bk.sR];split;rfl;split;rfl;split<;>rfl
   rw [this];simp
  refine⟨?_,by rw [h,j];simp;omega⟩;simp only [Xq]at g⊢;omega
theorem ID {q r s:Option Addr} {tn N t P j Q:Nat} (R:dd O=0) (S:eM w) (T:bh w D O q tn r t) (U:∀a,D a->a<w.heap.size) (u:Row fZ 96 w f s j B) (v:∀a,f a->a<w.heap.size) (c:B.length<=20000000):
  Calls ZQ 40 #[.agg #[.slice q tn N,.slice r t P],.slice s j Q] w (Ok λV w'=>∃p F,V= .pointer (some ⟨p,0,none⟩)/\cT w' p F (cG O B)/\(∀a,F a->w.heap.size<=a)/\ai w w'):=by
 refine LG (PA.mk λw1 x s1 y=>⟨_,_,_,_,_,_,ae y rfl,ae y rfl,PC.ok (IM R (T.af x) λa c=>by have:=U a c;omega) ?_⟩);rintro _ w9 ⟨p,W,rfl,e,X,z⟩;have a9:=u.len;have Y:=x.then z;have z9:=z.size;refine⟨_,rfl,λA o w'=>∃b:Nat,o=b/\b<=j/\A=j-b/\∃F,cT w' p F (cG O (B.take b))/\(∀a,F a->w.heap.size<=a)/\ai w w',⟨_,0,rfl,Qj _,rfl,W,e,λa c=>by have:=X a c;omega,Y⟩,?_⟩;rintro A _ _ Z ⟨b,rfl,hj,rfl,F,e,k,g⟩;refine al.dec (λb0=>?_) (λb1=>?_)
 ·have C:b<B.length:=oM
  obtain⟨a,a0,es,ha,a1,b2,E,l,m,n,rfl,H,I⟩:=(u.af g).el b B[b] (Qq C);have J:B[b]? =some B[b]:=Qq C;generalize B[b]=d at E H I J;refine⟨a,a0,ha,oM,oM,br (es:=aE d l m n) (k:=10) (bg d l m n) rfl (λo ht=>E o ht) (PA.mk λb3 a3 b4 a5=>aD (bg d l m n) a5 rfl λa6 a7 b5 a8=>aw (bg d l m n) a8 ?_)⟩;have h:ai Z a6:=a3.new a7 λa c=>.inr oM;have K:=GQ O (B.take b) (bk.new O) (d.bd,d.agg,d.field);have b6:=List.length_take_le b B;have b7:((ay (cG O (B.take b)).done (d.bd,d.agg,d.field)).getD []).length<=0+(B.take b).length:=K.1;have b8:(cG O (B.take b)).entries.length=0+(B.take b).length:=K.2;have b9:=g.size;have c0:=h.size;refine PC.ok (IE (e.af h) (S.af (g.then h)) (H.af h) (λa c=>⟨by have:=v a c;omega,λhf=>by have:=k a hf;have:=v a c;omega⟩) I oM oM) ?_;rintro _ c1 ⟨a4,n4,c4,G,rfl,-,F',i,L,-⟩;refine cu (Rn _ a4 n4 c4) ⟨rfl,_,?_,b+1,an oM,oM,rfl,F',?_,λa c=>?_,(g.then h).new L.1 λa c=>.inr (k a c)⟩
  ·omega
  ·rw [Qw,J]
   unfold cG at i⊢;rw [List.foldl_append];exact i
  ·rcases L.2 a c with M|M
   ·exact k a M
   ·omega
 ·rw [Qz oM]at e
  exact Ok.mk ⟨p,F,rfl,e,k,g⟩
end
end Go.Proofs.YtfchlbaidamodaaGreatDoor
namespace Go.ax
open Go
variable{a:Nat}{d:Option Addr}{h:Program}{j:Type}{g p:TypeId}{b:World}{y:World->Prop}
theorem QS {cs:List j} {p m:Nat} {v:j} {vs:List j} (a:p<cs.length):(cs.set p v).take (p+1)++vs++(cs.set p v).drop (p+1+m)=cs.take p++(v::vs)++cs.drop (p+(m+1)):=by
 have b:(cs.set p v).take (p+1)=cs.take p++[v]:=by
  rw [Qw,Xj,if_pos rfl,if_pos a,List.take_set_of_le (Q4 _)];rfl
 have c:(cs.set p v).drop (p+1+m)=cs.drop (p+(m+1)):=by
  rw [List.drop_set_of_lt oM,show p+1+m=p+(m+1) by omega]
 rw [b,c];simp
theorem DY {m:TypeId} {n:Nat} {h:Option Addr} {o e b i f:Nat} {p:World->Prop} (q:h=some ⟨i,f,none⟩):∀(c:List Value) (a:Nat) {d:World} {cs:List Value},Own d m n h o e cs->b+a+c.length<=cs.length->
  (∀g,Own g m n h o e (cs.take (b+a)++c++cs.drop (b+a+c.length))->aj (λi=>aI h=some i) d g->g.heap.size=d.heap.size->p g)->jG ⟨i,f+b,none⟩ a c d p
 |[],a,d,cs,j,r,k=>k d (by simpa using j) (aj.refl _) rfl
 |v::c,a,d,cs,j,r,k=>by
  unfold jG;rw [Xq]at r;rw [Addr.add_lit,Nat.add_assoc];refine j.set (m:=b+a) oM q λg s t u=>DY q c (a+1) s (by simp;omega) λw l x y=>k w ?_ (t.then x) (y.trans u);have:=QS (cs:=cs) (p:=b+a) (m:=c.length) (v:=v) (vs:=c) oM;rw [show b+(a+1)=b+a+1 from rfl]at l;rw [this]at l;exact l
theorem Own.store {l e m i f:Nat} {c cs:List Value} (o:Own b p a d l e cs) (q:d=some ⟨i,f,none⟩) (n:jg h g c=true) (r:m+c.length<=cs.length)
  (k:∀j,Own j p a d l e (cs.take m++c++cs.drop (m+c.length))->aj (λi=>aI d=some i) b j->j.heap.size=b.heap.size->y j):xJ h g (.pointer (some ⟨i,f+m,none⟩)) (.agg c.toArray) b y:=by
 simp only [jg,QK]at n;obtain⟨⟨⟨s,x⟩,t⟩,u⟩:=n;unfold xJ;have v:Nat.beq c.toArray.size (mB h g)=true:=by simpa using t
 have w:c.toArray.toList.all Value.oneCell'=true:=by simpa using u
 simp only [s,v,w];exact DY q c 0 o (by simpa using r) k
end Go.ax
namespace Go.ax
open Go
end Go.ax
namespace Go.Proofs.YtfchlbaidamodaaGreatDoor
open Go.ax
end Go.Proofs.YtfchlbaidamodaaGreatDoor
namespace Go.Proofs.YtfchlbaidamodaaGreatDoor
open Go.ax
def bz (a:ep):List Value:=[QH a.group,QH a.value,QH a.count]
def ep.Ok (a:ep):Prop:=aN a.group/\aN a.value/\aN a.count
def IN:kM ep:=flat 3 bz ep.Ok (λ_=>rfl) (λb c a=>by simp [bz]at a;rcases a with rfl|rfl|rfl<;>rfl)
def ub (a:ep):Value:=.agg (bz a).toArray
theorem PM (a:ep):jg ZQ 268 (bz a)=true:=kR
theorem Za (a:ep):TF (fe ZQ 268) (.agg (bz a).toArray)=true:=kR
structure lO (w:World) (p r:Nat) (R:ef):Prop where
 at':w.heap[p]? =some (.cells #[QH R.p.bd,QH R.p.field,QH R.p.group,QH R.p.GO,QH R.p.make,.map (some r)] 288 (0,0))
 map:cx w r (Value.int .i64) (R.rows.map λx=>(x.1,ub x.2))
 ok:∀x∈R.rows,ep.Ok x.2/\x.2.group=x.1
variable{e:Int}{a c:Nat}{d:Option Addr}{k:ah}{d9:jO}
section
variable {w w':World} {p r:Nat} {R:ef} {T:Nat->Prop}
theorem lO.keep (a:lO w p r R) (b:aj T w w') (c:¬T p) (d:¬T r):lO w' p r R:=⟨b.get a.at' c,a.map.keep b d,a.ok⟩
theorem lO.af (a:lO w p r R) (b:ai w w'):lO w' p r R:=a.keep b id id
theorem Rt :Calls ZQ 133 #[.agg (oy d9).toArray] w (Ok λc w'=>∃p r,c= .pointer (some ⟨p,0,none⟩)/\lO w' p r ⟨d9,[]⟩/\w.heap.size<=p/\w.heap.size<=r/\p<w'.heap.size/\r<w'.heap.size/\ai w w'):=by
 refine LJ (PA.mk λd e k a=>⟨_,_,_,_,_,ae a rfl,ae a rfl,ae a rfl,ae a rfl,ae a rfl,PA.mk λf g l h=>PA.mk λm b n i=>Ok.mk ⟨f.heap.size,d.heap.size,rfl,⟨i,cx.new (b.get h id),λd9 j=>by cases j⟩,oM,oM,oM,oM,(e.then g).then b⟩⟩)
def Ie (a:jO) (c:ah) (b:Int):Option Int:=if a.group=1 then some c.agg else if a.group=2 then some c.arg else if a.group=3 then some b else none
theorem MP (j:lO w p r R) :Calls ZQ 263 #[.pointer (some ⟨p,0,none⟩),kK k d a c,QH e] w (Ok λl w'=>l= .tuple #[QH ((Ie R.p k e).getD 0),.bool (Ie R.p k e).isSome]/\ai w w'):=by
 refine wg (PA.mk λm b n i=>⟨p,0,rfl,_,ae (j.af b).at' rfl,al.dX (λf=>⟨_,ae i rfl,Ok.mk ⟨?_,b⟩⟩) (λf=>al.dX (λg=>⟨_,ae i rfl,Ok.mk ⟨?_,b⟩⟩) (λg=>al.dX (λh=>Ok.mk ⟨?_,b⟩) (λh=>Ok.mk ⟨?_,b⟩)))⟩)
 ·unfold Ie;rw [if_pos f];rfl
 ·unfold Ie;rw [if_neg f,if_pos g];rfl
 ·unfold Ie;rw [if_neg f,if_neg g,if_pos h];rfl
 ·unfold Ie;rw [if_neg f,if_neg g,if_neg h];rfl
theorem Qh (h:lO w p r R) {a:ep} {arg:Int}:Calls ZQ 264 #[.pointer (some ⟨p,0,none⟩),.agg (bz a).toArray,QH arg] w (Ok λn w'=>n= QH (mG R.p a arg)/\ai w w'):=by
 refine yk (PA.mk λo d s i=>?_);have e:=(h.af d).at';refine⟨_,ae i rfl,p,0,rfl,_,ae e rfl,al.dX (λf=>⟨_,ae i rfl,Ok.mk ⟨?_,d⟩⟩) (λf=>⟨p,0,rfl,_,ae e rfl,al.dX (λg=>⟨_,ae i rfl,Ok.mk ⟨?_,d⟩⟩) (λg=>⟨λm w'=>m=decide (R.p.make=5\/a.count=1/\(R.p.make=3\/R.p.make=4))/\o=w',?_,?_⟩)⟩)⟩
 ·unfold mG;rw [if_pos f]
 ·unfold mG;rw [if_neg f,if_pos g]
 ·refine⟨p,0,rfl,_,ae e rfl,al.dX (λj=>⟨?_,rfl⟩) (λj=>al.dX (λl=>⟨p,0,rfl,_,ae e rfl,al.dX (λb=>⟨?_,rfl⟩) (λb=>⟨p,0,rfl,_,ae e rfl,?_,rfl⟩)⟩) (λl=>⟨?_,rfl⟩))⟩
  ·rw [decide_eq_true (.inl j)];simpa using j
  ·rw [decide_eq_true (.inr ⟨l,.inl b⟩)]
  ·by_cases c:R.p.make=4
   ·rw [decide_eq_true (.inr ⟨l,.inr c⟩)];simpa using c
   ·rw [Xv (by rintro(h|⟨-,h|h⟩);exact j h;exact b h;exact c h)];simpa using c
  ·rw [Xv (by rintro(h|⟨h,-⟩);exact j h;exact l h)]
 ·rintro m _ _ ⟨q,rfl⟩
  subst q;refine al.dec (λk=>Ok.mk ⟨?_,d⟩) (λk=>⟨p,0,rfl,_,ae e rfl,al.dX (λb=>⟨_,ae i rfl,Ok.mk ⟨?_,d⟩⟩) (λb=>⟨p,0,rfl,_,ae e rfl,al.dX (λc=>⟨_,ae i rfl,Ok.mk ⟨?_,d⟩⟩) (λc=>Ok.mk ⟨?_,d⟩)⟩)⟩)
  ·unfold mG;rw [if_neg f,if_neg g,if_pos k]
  ·have:(if arg<a.value then arg else a.value)=min a.value arg:=by split<;>omega
   unfold mG;rw [if_neg f,if_neg g,if_neg k,if_pos b,<-this]
  ·have:(if arg>a.value then arg else a.value)=max a.value arg:=by split<;>omega
   unfold mG;rw [if_neg f,if_neg g,if_neg k,if_neg b,if_pos c,<-this]
  ·unfold mG;rw [if_neg f,if_neg g,if_neg k,if_neg b,if_neg c]
end
theorem SN:nu ZQ 286 3 268 (ub ⟨0,0,0⟩):=⟨kR,kR⟩
theorem OD {b f g:Type} [BEq b] (c:f->g) (d:b):∀a:List (b×f),ay (a.map λe=>(e.1,c e.2)) d=(ay a d).map c
 |[]=>rfl
 |(e,h)::a=>by
  simp only [QY];unfold ay;split
  ·rfl
  ·exact OD c d a
theorem OE {d e h:Type} [BEq d] (b:e->h) (f:d) (g:e):∀c:List (d×e),aJ (c.map λa=>(a.1,b a.2)) f (b g)=(aJ c f g).map λa=>(a.1,b a.2)
 |[]=>rfl
 |(a,i)::c=>by
  simp only [QY];unfold aJ;split
  ·simp
  ·simp [OE b f g c]
section
variable {w w':World} {p r:Nat} {R:ef}
theorem ef.add_def (r:ef) (e:df) (b:Int):r.add e b=match Ie r.p e.ev b with
  |none=>r
  |some a=>if e.void||e.ev.bd !=r.p.bd||e.ev.field !=r.p.field then r else
   {r with rows:=aJ r.rows a ⟨a,mG r.p ⟨a,((ay r.rows a).getD ⟨0,0,0⟩).value,pH (((ay r.rows a).getD ⟨0,0,0⟩).count+1)⟩ e.ev.arg,pH (((ay r.rows a).getD ⟨0,0,0⟩).count+1)⟩}:=rfl
theorem IF:aN 0:=by unfold aN;omega
theorem Wq {a:ep} {arg:Int} (b:ep.Ok a) (c:aN arg):aN (mG d9 a arg):=by
 obtain⟨e,f,d⟩:=b;unfold mG;split;exact d;split;exact NU _;split;exact c;split
 ·unfold aN at*;omega
 split
 ·unfold aN at*;omega
 ·exact IF
theorem Ro (j:lO w p r R) (a1:p≠r) {x:df} (y:x.ev.Ok) (a2:aN e):Calls ZQ 201 #[.pointer (some ⟨p,0,none⟩),GP x d a c,QH e] w (Ok λm w'=>m= .tuple #[]/\lO w' p r (R.add x e)/\aj (·=r) w w'):=by
 have b1:=aC j.at';have b2:=j.map.lt;refine AA (PA.mk λw1 M s1 N=>Wr (cs:=aE x.ev d a c) (bg _ _ _ _) N (λa3 m O=>?_) (PC.ok (MP (j.af M)) ?_))
 ·rw [Xz]
  have a4:=(Qv.1 O).1;show(aE x.ev d a c++_).toArray[a3]? =_;simp only [List.getElem?_toArray];rw [XW a4];exact O
 rintro _ P ⟨rfl,Q⟩;have n:=M.then Q;have o:=Q.get N id;have s:=j.af n;have g:R.add x e=R->∀i,bE P i->Ok (λm w'=>m= .tuple #[]/\lO w' p r (R.add x e)/\aj (·=r) w w') (.returned (.tuple #[])) i:=λhe i k=>Ok.mk ⟨rfl,by rw [he];exact s.af k.keep,ai.keep (n.then k.keep)⟩;refine⟨_,_,rfl,al.not (al.mk (λz=>?_) (λz=>g ?_))⟩
 rotate_left
 ·rw [ef.add_def,show Ie R.p x.ev e=none by simpa using z]
 obtain⟨f,h⟩:=Option.isSome_iff_exists.1 z;rw [h,Option.getD_some];have t:∀{q:ef},(if x.void||x.ev.bd !=R.p.bd||x.ev.field !=R.p.field then R else
   {R with rows:=aJ R.rows f ⟨f,mG R.p ⟨f,((ay R.rows f).getD ⟨0,0,0⟩).value,pH (((ay R.rows f).getD ⟨0,0,0⟩).count+1)⟩ x.ev.arg,pH (((ay R.rows f).getD ⟨0,0,0⟩).count+1)⟩})=q->R.add x e=q:=λ{q} A=>by
  rw [ef.add_def,h];exact A
 refine⟨_,ae o rfl,al.mk (λl=>g (t (by rw [l];rfl))) (λl=>⟨_,ae o rfl,p,0,rfl,_,ae s.at' rfl,al.dw (λB=>g (t ?_)) (λB=>⟨_,ae o rfl,p,0,rfl,_,ae s.at' rfl,λi k=>?_⟩)⟩)⟩
 ·rw [l,show(x.ev.bd !=R.p.bd)=true by simpa using B];rfl
 have S:(x.ev.bd !=R.p.bd)=false:=by simpa using B
 have u:ai P i:=k.keep;have v:=s.af u;refine al.dw (λC=>g (t (by rw [l,S,show(x.ev.field !=R.p.field)=true by simpa using C];rfl)) i k) (λC=>?_);have a5:(x.ev.field !=R.p.field)=false:=by simpa using C
 have T:aN f:=by
  unfold Ie at h;split at h
  ·cases h;exact y.agg
  split at h
  ·cases h;exact y.arg
  split at h
  ·cases h;exact a2
  ·cases h
 obtain⟨b,E⟩:∃b,b=(ay R.rows f).getD ⟨0,0,0⟩:=⟨_,rfl⟩
 have a6:ep.Ok b:=by
  rw [E]
  cases A:ay R.rows f with
  |none=>exact⟨IF,IF,IF⟩
  |some U=>exact(j.ok _ (cF A)).1
 have a7:(ay (R.rows.map λx=>(x.1,ub x.2)) f).getD (ub ⟨0,0,0⟩)=ub b:=by
  rw [OD,E];cases ay R.rows f<;>rfl
 refine⟨p,0,rfl,_,ae v.at' rfl,AY SN GZ v.map ?_⟩;rw [a7];refine cu (Za b) ⟨rfl,PA.mk λw4 k4 s4 g4=>aD (PM b) g4 rfl λw5 k5 s5 g5=>PS.mk g5 (by simp [bz]) λw6 k6 s6 V=>⟨_,ae V rfl,PS.mk V (by simp [bz]) λw7 k7 s7 W=>?_⟩⟩;have F:ai i w7:=((k4.new k5 λH I=>.inr oM).new k6 λH I=>.inr oM).new k7 λH I=>.inr oM;have a8:=F.get (u.get o id) id;refine aw (cs:=bz ⟨f,b.value,pH (b.count+1)⟩) (PM _) W ⟨_,ae a8 rfl,PC.ok (Qh (v.af F)) ?_⟩;rintro _ w8 ⟨rfl,J⟩;have z8:=J.size;refine⟨_,rfl,PS.mk (J.get W id) (by simp [bz]) λw9 k9 s9 g9=>λX a9=>?_⟩;have Y:ai w9 X:=a9.keep;have Z:ai i X:=((F.then J).new k9 λH I=>.inr oM).then Y;have K:=v.af Z;have z3:=(n.then u).size;refine⟨p,0,rfl,_,ae K.at' rfl,aw (cs:=bz ⟨f,mG R.p ⟨f,b.value,pH (b.count+1)⟩ x.ev.arg,pH (b.count+1)⟩) (PM _) (Y.get g9 id) (jz SN GZ K.map λb3 b0 a0 b4=>Ok.mk ⟨rfl,?_,?_⟩)⟩
 ·rw [t (q:={R with rows:=aJ R.rows f ⟨f,mG R.p ⟨f,b.value,pH (b.count+1)⟩ x.ev.arg,pH (b.count+1)⟩}) (by rw [l,S,a5,E];rfl)]
  refine⟨a0.get K.at' a1,?_,λU L=>?_⟩
  ·rw [<-OE];exact b0
  ·rcases fG L with rfl|L
   ·exact⟨⟨T,Wq ⟨T,a6.2.1,NU _⟩ y.arg,NU _⟩,rfl⟩
   ·exact j.ok U L
 ·exact(ai.keep ((n.then u).then Z)).then a0
end
section
variable {w w':World} {p r:Nat} {R:ef}
theorem OT (g:lO w p r R):Calls ZQ 250 #[.pointer (some ⟨p,0,none⟩)] w (Ok λh w'=>∃d f,h= .pointer (some ⟨d,0,none⟩)/\lO w' d f R/\d≠f/\w.heap.size<=d/\w.heap.size<=f/\d<w'.heap.size/\f<w'.heap.size/\ai w w'):=by
 refine yj λb j=>?_;have k:ai w b:=j.keep;have u:b.heap.size=w.heap.size:=by rw [j.heap]
 have c:=g.af k;obtain⟨e,a,m,n,o,q⟩:=c.map.at';refine⟨no,p,0,rfl,id,_,_,_,_,_,ae c.at' rfl,ae c.at' rfl,ae c.at' rfl,ae c.at' rfl,ae c.at' rfl,p,0,rfl,_,ae c.at' rfl,PC.ok (φ:=λh w'=>h= .map (some b.heap.size)/\w'=b.alloc (.map e a)) ((AnyW.maps_Clone Tryz.Ws r e a b m).mono ?_) ?_⟩
 ·rintro v w' ⟨rfl,s⟩
  exact Ok.mk ⟨rfl,s⟩
 ·rintro _ x ⟨rfl,rfl⟩
  have l:ai b (b.alloc (.map e a)):=aj.alloc _ _;have y:(b.alloc (.map e a)).heap.size=b.heap.size+1:=sM
  refine⟨_,rfl,ai.keep l,PA.mk λz i A t=>⟨ai.keep i,Ok.mk ⟨_,b.heap.size,rfl,⟨t,⟨⟨e,a,i.get (heap_alloc_new b _) id,n,o,q⟩,g.map.tidy⟩,g.ok⟩,?_⟩⟩⟩;refine⟨oM,oM,oM,oM,oM,(k.then l).then i⟩
end
open Go.ax Go.Sort
theorem oq {d:Type} {h:Nat} {a:d->List Value} {f:d->Prop} {hl h1} {i:World} {D:Nat->Prop}:∀{b:List d} {cs:List Value},bT (flat h a f hl h1) i D b cs↔cs=b.flatMap a/\∀x∈b,f x
 |[],cs=>by simp [bT]
 |x::b,cs=>by
  constructor
  ·rintro⟨m,n,rfl,⟨rfl,j⟩,k⟩
   obtain⟨rfl,l⟩:=oq.1 k;exact⟨rfl,λe c=>by rcases Q2.1 c with rfl|c;exact j;exact l e c⟩
  ·rintro⟨rfl,g⟩
   exact⟨a x,b.flatMap a,rfl,⟨rfl,g x (QV ..)⟩,oq.2 ⟨rfl,λe c=>g e (QJ _ c)⟩⟩
section
variable {α:Type} {enc:α->List Value} {K:Nat}
theorem lk [Inhabited α] (h:0<K) (c:∀e,(enc e).length=K) {b:List α} (f:a<b.length*K):(b.flatMap enc)[a]? =(enc b[a/K]!)[a % K]? :=by
 induction b generalizing a with
 |nil=>simp at f
 |cons e b i=>
  rw [List.flatMap_cons]
  by_cases d:a<K
  ·rw [XW (by rw [c];exact d),Nat.div_eq_of_lt d,Nat.mod_eq_of_lt d];rfl
  ·rw [Xq,X7]at f
   rw [X8 (by rw [c];omega),c,i oM];obtain⟨g,rfl⟩:∃g,a=g+K:=⟨a-K,oM⟩
   rw [Nat.add_sub_cancel,Nat.add_div_right _ h,Nat.add_mod_right];simp
end
instance:Inhabited ep:=⟨⟨0,0,0⟩⟩
end Go.Proofs.YtfchlbaidamodaaGreatDoor
namespace Go.ax
open Go
structure bS (w:World) (F:Nat->Prop) (cls:Nat->Nat) (C:Nat->World->(Nat->Prop)->Prop):Prop where
 at':∀k,C k w (λb=>F b/\cls b=k)
 aF:∀b,F b->b<w.heap.size
def vC (a:Nat->World->(Nat->Prop)->Prop):Prop:=∀b c d G e,a b c G->aj e c d->(∀f,G f->¬e f)->a b d G
section
variable {w w':World} {F T:Nat->Prop} {cls:Nat->Nat} {C C2:Nat->World->(Nat->Prop)->Prop}
theorem bS.keep (c:bS w F cls C) (f:vC C) (d:aj T w w') (g:∀a,F a->¬T a):bS w' F cls C:=
 ⟨λe=>f e w w' _ T (c.at' e) d λa b=>g a b.1,λa b=>Qk (c.aF a b) d.size⟩
theorem bS.af (a:bS w F cls C) (b:vC C) (c:ai w w'):bS w' F cls C:=a.keep b c λ_ _ a=>a
theorem bS.II (i:bS w F cls C) (n:vC C) {k:Nat} {G':Nat->Prop} (h:aj (λa=>F a/\cls a=k) w w') (o:∀a,G' a->F a->cls a=k) (p:∀a,G' a->a<w'.heap.size)
  (q:C2 k w' G') (r:∀c G,c≠k->C c w' G->C2 c w' G):∃g d,bS w' g d C2/\aj F w w'/\(∀a,g a->((F a/\cls a≠k)\/G' a))/\(∀c,c≠k->(λa=>g a/\d a=c)=λa=>F a/\cls a=c)/\(λa=>g a/\d a=k)=G':=by
 classical
 have j:∀c,c≠k->(λa=>((F a/\cls a≠k)\/G' a)/\(if G' a then k else cls a)=c)=λa=>F a/\cls a=c:=λc f=>by
  funext a
  refine propext ⟨λb=>?_,λb=>?_⟩
  ·by_cases e:G' a
   ·rw [if_pos e]at b;exact absurd b.2.symm f
   ·rw [if_neg e]at b
    exact⟨(b.1.resolve_right e).1,b.2⟩
  ·have l:cls a≠k:=λs=>f (b.2.symm.trans s)
   rw [if_neg λe=>l (o a e b.1)];exact⟨.inl ⟨b.1,l⟩,b.2⟩
 have m:(λa=>((F a/\cls a≠k)\/G' a)/\(if G' a then k else cls a)=k)=G':=by
  funext a
  refine propext ⟨λb=>?_,λb=>⟨.inr b,if_pos b⟩⟩
  by_cases e:G' a
  ·exact e
  ·rw [if_neg e]at b;exact absurd b.2 (b.1.resolve_right e).2
 refine⟨λa=>(F a/\cls a≠k)\/G' a,λa=>if G' a then k else cls a,⟨λc=>?_,λa b=>?_⟩,h.mono λa _ b=>b.1,λa b=>b,j,m⟩
 ·by_cases f:c=k
  ·subst f
   rw [m];exact q
  ·rw [j c f]
   refine r c _ f (n c w w' _ _ (i.at' c) h λa b t=>f (b.2.symm.trans t.2))
 ·rcases b with b|b
  ·exact Qk (i.aF a b.1) h.size
  ·exact p a b
theorem bS.fr (e:bS w F cls C) (j:vC C) {k:Nat} {G':Nat->Prop} (l:aj (λa=>F a/\cls a=k) w w') (g:∀a,G' a->(F a/\cls a=k)\/w.heap.size<=a) (m:∀a,G' a->a<w'.heap.size)
  (f:C2 k w' G') (n:∀c G,c≠k->C c w' G->C2 c w' G):∃d b,bS w' d b C2/\de F w d w'/\(∀a,d a->((F a/\cls a≠k)\/G' a))/\(∀c,c≠k->(λa=>d a/\b a=c)=λa=>F a/\cls a=c)/\(λa=>d a/\b a=k)=G':=by
 obtain⟨d,b,h,f,i,o⟩:=e.II j l (λa p q=>(g a p).elim (·.2) λh=>by have:=e.aF a q;omega) m f n;exact⟨d,b,h,⟨f,λa r=>(i a r).elim (λe=>.inl e.1) λe=>(g a e).imp (·.1) id⟩,i,o⟩
theorem bS.same (e:bS w F cls C) (g:vC C) {k:Nat} (f:aj (λa=>F a/\cls a=k) w w') (h:C2 k w' (λa=>F a/\cls a=k)) (i:∀b G,b≠k->C b w' G->C2 b w' G):bS w' F cls C2:=
 ⟨λb=>by
  by_cases c:b=k
  ·subst c;exact h
  ·exact i b _ c (g b w w' _ _ (e.at' b) f λa d j=>c (d.2.symm.trans j.2)),λa d=>Qk (e.aF a d) f.size⟩
theorem bS.Ec (f:bS w F cls C) (g:vC C) {k:Nat} {G':Nat->Prop} (e:de (λa=>F a/\cls a=k) w G' w') (h:∀a,G' a->a<w'.heap.size)
  (i:C2 k w' G') (j:∀c G,c≠k->C c w' G->C2 c w' G):∃d b,bS w' d b C2/\de F w d w'/\(∀a,d a->((F a/\cls a≠k)\/G' a))/\(∀c,c≠k->(λa=>d a/\b a=c)=λa=>F a/\cls a=c)/\(λa=>d a/\b a=k)=G':=f.fr g e.1 e.2 h i j
theorem bS.join {G:Nat->Nat->Prop} (c:∀a,C a w (G a)) (i:∀f g b,G f b->G g b->f=g) (j:∀a b,G a b->b<w.heap.size):∃cls,bS w (λb=>∃a,G a b) cls C:=by
 classical
 refine⟨λb=>if c:∃a,G a b then c.choose else 0,⟨λa=>?_,λb ⟨a,d⟩=>j a b d⟩⟩;have:(λb=>(∃a,G a b)/\(if c:∃a,G a b then c.choose else 0)=a)=G a:=by
  funext b
  refine propext ⟨λ⟨e,h⟩=>?_,λd=>⟨⟨a,d⟩,?_⟩⟩
  ·rw [dif_pos e]at h;exact h▸e.choose_spec
  ·have e:∃a,G a b:=⟨a,d⟩
   rw [dif_pos e];exact i _ _ b e.choose_spec d
 rw [this];exact c a
end
end Go.ax
namespace Go.Proofs.YtfchlbaidamodaaGreatDoor
open Go.ax
def XS:kM Nat:=flat 1 (λb=>[.pointer (some ⟨b,0,none⟩)]) (λ_=>True) (λ_=>rfl) (λc d a=>by simp at a;subst a;rfl)
theorem Rl:jP ZQ 217 224 1 8:=⟨kR,kR,dC⟩
structure cU (w:World) (G:Nat->Prop) (a:Option Addr) (n c:Nat) (Rs:List ef):Prop where
 body:∃ps:List (Nat×Nat),ps.length=Rs.length/\aV XS 224 (λb=>aI a=some b) w a n c (ps.map (·.1))/\
  (∀(i j:Nat) (x y:Nat×Nat),ps[i]? =some x->ps[j]? =some y->x.1≠y.2/\(x.2=y.2->i=j))/\(∀x∈ps,G x.1/\G x.2/\aI a≠some x.1/\aI a≠some x.2)/\
  ∀(i:Nat) (x:Nat×Nat) (R:ef),ps[i]? =some x->Rs[i]? =some R->lO w x.1 x.2 R
 self:∀b,aI a=some b->G b
variable{I:Nat×Nat}{h:Program}{g p:TypeId}{m t:Value->World->Prop}
section
variable {w w':World} {G G' T:Nat->Prop} {a:Option Addr} {n c:Nat} {Rs:List ef}
theorem cU.keep (d:cU w G a n c Rs) (i:aj T w w') (e:∀b,G b->¬T b):cU w' G a n c Rs:=by
 obtain⟨j,k,l,m,f,o⟩:=d.body;exact⟨⟨j,k,l.keep i λb p=>e b (d.self b p),m,f,λq g r h s=>(o q g r h s).keep i (e _ (f g (QZ h)).1) (e _ (f g (QZ h)).2.1)⟩,d.self⟩
theorem cU.af (b:cU w G a n c Rs) (d:ai w w'):cU w' G a n c Rs:=b.keep d λ_ _ b=>b
theorem cU.mono (h:cU w G a n c Rs) (d:∀b,G b->G' b):cU w G' a n c Rs:=by
 obtain⟨i,j,k,l,e,m⟩:=h.body;exact⟨⟨i,j,k,l,λf g=>⟨d _ (e f g).1,d _ (e f g).2.1,(e f g).2.2⟩,m⟩,λb o=>d b (h.self b o)⟩
theorem cU.len (b:cU w G a n c Rs):n=Rs.length:=by
 obtain⟨f,d,e,-⟩:=b.body;rw [e.len dC,Q8,d]
theorem cU.nil (w:World):cU w (λ_=>False) none 0 0 []:=⟨⟨[],rfl,(aV.nil w).mono (λb a=>a.elim) (λb a=>by cases a),sM,sM,sM⟩,λb a=>by cases a⟩
theorem cU.elem (o:cU w G a n c Rs) {b:Nat} {p:ef} (v:Rs[b]? =some p):∃g f h,a=some ⟨g,0,none⟩/\w.cell? ⟨g,0+b,none⟩=some (.pointer (some ⟨f,0,none⟩))/\lO w f h p/\f≠h/\G f/\G h/\G g/\
  ∀w' q,aj (·=h) w w'->lO w' f h q->cU w' G a n c (Rs.set b q):=by
 obtain⟨i,C,x,k,y,z⟩:=o.body;have M:=(Qv.1 v).1;have d:i[b]? =some i[b]:=Qq oM;generalize i[b]=e at d;obtain⟨cs,D,E,F,N⟩:=x.body;have r:=y e (QZ d);obtain⟨rfl,-⟩:=oq.1 F;have H:((i.map (·.1)).flatMap λf=>[Value.pointer (some ⟨f,0,none⟩)])[b]? =some (.pointer (some ⟨e.1,0,none⟩)):=by
  rw [lk (K:=1) dC (λ_=>rfl) (by simp;omega),Nat.div_one,Nat.mod_one,getElem!_pos _ b (by simp;omega)];simp [(Qv.1 d).2]
 obtain⟨g,A,I⟩:=E.cell H;refine⟨g,e.1,e.2,A,by rw [Xz];exact I.2,z b e p d v,(k b b e e d d).1,r.1,r.2.1,o.self g (by rw [A];rfl),λw' q B J=>⟨⟨i,by simpa using C,x.keep B λO K s=>r.2.2.2 (s▸K),k,y,λl t L j m=>?_⟩,o.self⟩⟩
 by_cases u:b=l
 ·subst u
  rw [d]at j;cases j
  rw [List.getElem?_set_self oM]at m;cases m
  exact J
 ·rw [List.getElem?_set_ne u]at m
  exact(z l t L j m).keep B (k l b t e j d).1 λs=>u ((k b l e t d j).2 s.symm)
theorem cU.push (s:cU w G a n c Rs) (J:∀b,G b->b<w.heap.size) {f i N:Nat} {O:ef} (K:lO w f i O) (P:¬G f) (y:¬G i) (W:f≠i) (Y:jP h g 224 1 8)
  (Z:w.heap[N]? =some (.cells #[.pointer (some ⟨f,0,none⟩)] 224 I)) (d:Rs.length<=1000) 
  (L:∀l z w' G',cU w' G' l (n+1) z (Rs++[O])->aj G w w'->(∀b,G' b->G b\/b=f\/b=i\/w.heap.size<=b)->(∀b,G' b->b<w'.heap.size)->m (.slice l (n+1) z) w'):
  aH h (Builtin.append_ #[g,g] p #[.slice a n c,.slice (some ⟨N,0,none⟩) 1 1]) w m t:=by
 obtain⟨o,q,M,h3,A,h5⟩:=s.body;have a1:f<w.heap.size:=aC K.at';have a2:i<w.heap.size:=K.map.lt;refine fh M Y Z (D:=λ_=>False) (x:=f) ⟨rfl,trivial⟩ (λb d=>d.elim) (by unfold aQ;simp;omega) (by unfold maxLen;simp;omega) λl z w' F' Q C hF=>?_;have a0:∀b,aI l=some b->aI a=some b\/w.heap.size<=b:=λb d=>(hF b (Q.self b d)).imp id λs=>s.resolve_left id;have u:=Q.alone;have a5:=C.size;have R:∀b,aI l=some b->aI a=some b\/w.heap.size<=b:=a0;have F:∀b,b<w.heap.size->aI a≠some b->aI l≠some b:=λb d q M=>(R b M).elim q oM;have S:aI a≠some f:=λk=>P (s.self f k);have T:aI a≠some i:=λk=>y (s.self i k);refine L l z w' (λb=>(G b\/b=f\/b=i\/aI l=some b)) ⟨⟨o++[(f,i)],by simp [q],by rw [Q3];exact u,λj U x v B H=>?_,λx B=>?_,λj x a3 B r=>?_⟩,λb d=>.inr (.inr (.inr d))⟩ (C.mono λb _ d=>s.self b d) (λb d=>?_) λb d=>?_
 ·have E:∀j x,(o++[(f,i)])[j]? =some x->(o[j]? =some x)\/(j=o.length/\x=(f,i)):=λj x B=>by
   rw [List.getElem?_append]at B;split at B
   ·exact .inl B
   ·rename_i V
    have:j-o.length=0:=by
     rcases Nat.eq_zero_or_pos (j-o.length)with X|X
     ·exact X
     ·rw [Q7 (by simp;omega)]at B;cases B
    rw [this]at B;simp at B;exact .inr ⟨oM,B.symm⟩
  rcases E j x B with B|⟨rfl,rfl⟩<;>rcases E U v H with H|⟨rfl,rfl⟩
  ·exact h3 j U x v B H
  ·have e:=A x (QZ B)
   exact⟨λk=>y ((show x.1=i from k)▸e.1),λk=>absurd ((show x.2=i from k)▸e.2.1) y⟩
  ·have e:=A v (QZ H)
   exact⟨λk=>P ((show f=v.2 from k)▸e.2.1),λk=>absurd ((show i=v.2 from k)▸e.2.1) y⟩
  ·exact⟨W,λ_=>rfl⟩
 ·rcases Q6.1 B with B|B
  ·have e:=A x B
   exact⟨.inl e.1,.inl e.2.1,F _ (J _ e.1) e.2.2.1,F _ (J _ e.2.1) e.2.2.2⟩
  ·simp at B;subst B
   exact⟨.inr (.inl rfl),.inr (.inr (.inl rfl)),F _ a1 S,F _ a2 T⟩
 ·rw [List.getElem?_append]at B r
  rw [<-q]at r;split at B
  ·rename_i a4
   rw [if_pos a4]at r;have e:=A x (QZ B);exact(h5 j x a3 B r).keep C e.2.2.1 e.2.2.2
  ·rename_i V
   rw [if_neg V]at r;have:j-o.length=0:=by
    rcases Nat.eq_zero_or_pos (j-o.length)with X|X
    ·exact X
    ·rw [Q7 (by simp;omega)]at B;cases B
   rw [this]at B r;simp at B r;subst B r;exact K.keep C S T
 ·rcases d with d|d|d|d
  ·exact .inl d
  ·exact .inr (.inl d)
  ·exact .inr (.inr (.inl d))
  ·rcases R b d with q|q
   ·exact .inl (s.self b q)
   ·exact .inr (.inr (.inr q))
 ·rcases d with d|d|d|d
  ·have:=J b d;omega
  ·omega
  ·omega
  ·exact u.aF b d
def Zh:kM (List ef) where
 k:=2
 rep:=λw D Rs cs=>∃b a n c,cs=[.pointer b,.slice a n c]/\cU w D a n c Rs
 keep:=λ⟨b,a,n,c,d,e⟩ h f=>⟨b,a,n,c,d,e.keep h f⟩
 mono:=λ⟨b,a,n,c,d,e⟩ f=>⟨b,a,n,c,d,e.mono f⟩
 len:=λ⟨b,a,n,c,d,e⟩=>by rw [d];rfl
 one:=λ⟨b,a,n,c,d,e⟩ i g=>by
  rw [d]at g;simp only [Q2,List.not_mem_nil,or_false]at g;rcases g with rfl|rfl<;>rfl
theorem Xa:jP ZQ 220 219 2 32:=⟨kR,kR,dC⟩
end
theorem Lf (a:aR) (b:List ah) (c:ah):eN a (b++[c])=(eN a b).add c:=by unfold eN;rw [List.foldl_append];rfl
theorem Lh (a:aR) (b:List ah) (c:ah):cG a (b++[c])=((cG a b).add c).2:=by unfold cG;rw [List.foldl_append];rfl
theorem Lg (c:aR) (a:List ah):(eN c a).view=cG c a:=by
 have:∀(a:List ah) (b:kL),(a.foldl kL.add b).view=a.foldl (λe d=>(e.add d).2) b.view:=by
  intro a
  induction a with
  |nil=>intro b;rfl
  |cons d a f=>intro b;rw [List.foldl_cons,List.foldl_cons,f];rfl
 exact this a _
variable{r:Array Value}{B:List ah}{g1:List ef}{a c:Nat}{O:aR}{k:ah}{d8:bk}
theorem IP (e:dd O=0) (b:List ah):(cG O b).OK/\(cG O b).decl=O:=by
 have:∀(b:List ah) (a:bk),a.OK->(b.foldl (λa c=>(a.add c).2) a).OK/\(b.foldl (λa c=>(a.add c).2) a).decl=a.decl:=by
  intro b
  induction b with
  |nil=>intro a d;exact⟨d,rfl⟩
  |cons c b f=>
   intro a d;obtain⟨g,h⟩:=bk.Bn d c;obtain⟨i,j⟩:=f _ g;exact⟨i,j.trans h⟩
 exact this b _ (bk.uk e)
theorem ef.Xb (b:ef) (c:df) (a:Int):(b.add c a).p=b.p:=by
 unfold ef.add;dsimp only;split
 ·rfl
 ·split<;>rfl
theorem IH (e:aR) (a:List ah):(eN e a).rows.map (·.p)=e.projs:=by
 have:∀(a:List ah) (b:kL),(a.foldl kL.add b).rows.map (·.p)=b.rows.map (·.p):=by
  intro a
  induction a with
  |nil=>intro b;rfl
  |cons c a f=>
   intro b;rw [List.foldl_cons,f];show((b.rows.map λd=>d.add (b.view.add c).1 (tI ((b.view.add c).2.state c.bd c.agg) d.p)).map (·.p))=_;rw [List.map_map];exact List.map_congr_left λd _=>d.Xb _ _
 refine(this a _).trans ?_;show(e.projs.map λg=>(⟨g,[]⟩:ef)).map (·.p)=_;rw [List.map_map];exact List.map_id _
theorem qI (a:aR) (b:List ah):(eN a b).rows.length=a.projs.length:=by
 rw [<-IH a b,Q8]
def kY (c:aR) (a:Nat) (b:List ah):List (List ef):=(List.range (b.length/a+1)).map λd=>(eN c (b.take (d*a))).rows
section
variable {d:aR} {every:Nat} {l:List ah}
theorem Bl:(kY d every l).length=l.length/every+1:=by simp [kY]
theorem Rq (b:a<=l.length/every):(kY d every l)[a]? =some (eN d (l.take (a*every))).rows:=by
 unfold kY;rw [Q9,List.getElem?_range oM];rfl
theorem Ru:kY d every []=[(eN d []).rows]:=by
 unfold kY;rw [List.length_nil,Nat.zero_div];simp
theorem OU (f:0<every) (g:ah):kY d every (l++[g])=if l.length+1=(l.length/every+1)*every then kY d every l++[(eN d (l++[g])).rows]else kY d every l:=by
 have i:=Nat.div_add_mod l.length every;have j:=Nat.mod_lt l.length f;have b:∀a,a<=l.length/every->(l++[g]).take (a*every)=l.take (a*every):=λa c=>by
  have:a*every<=l.length:=Xx (Q0 _ c) (Nat.div_mul_le_self ..);rw [List.take_append_of_le_length this]
 split
 ·rename_i e
  have h:(l.length+1)/every=l.length/every+1:=by rw [e];exact Nat.mul_div_cancel _ f
  unfold kY;rw [QX,List.length_singleton,h,List.range_succ,Q3]
  congr 1
  ·refine List.map_congr_left λa c=>?_
   rw [b a (by have:=List.mem_range.1 c;omega)]
  ·rw [List.map_singleton,<-e,Qz sM]
 ·rename_i e
  have h:(l.length+1)/every=l.length/every:=by
   have k:(l.length+1)/every<l.length/every+1:=by
    rw [Nat.div_lt_iff_lt_mul f];rw [X7,Nat.one_mul,Nat.mul_comm]at e⊢;omega
   have m:l.length/every<=(l.length+1)/every:=Nat.div_le_div_right oM;omega
  unfold kY;rw [QX,List.length_singleton,h];refine List.map_congr_left λa c=>?_;rw [b a (by have:=List.mem_range.1 c;omega)]
theorem OX (c:0<every) (e:a<=l.length/every):(kY d every l).take (a+1)=kY d every (l.take (a*every)):=by
 have f:a*every<=l.length:=Xx (Q0 _ e) (Nat.div_mul_le_self ..);unfold kY;rw [Qy,X2 f,Nat.mul_div_cancel _ c,<-List.map_take,List.take_range,X2 oM];refine List.map_congr_left λg h=>?_;have b:g<=a:=by have:=List.mem_range.1 h;omega
 rw [List.take_take,X2 (Q0 _ b)]
end
structure xC where
 ta:Option Addr
 tn:Nat
 tc:Nat
 pa:Option Addr
 pn:Nat
 pc:Nat
 every:Nat
 ea:Option Addr
 en:Nat
 ec:Nat
 vp:Nat
 ra:Option Addr
 rn:Nat
 rc:Nat
 qa:Option Addr
 qn:Nat
 qc:Nat
abbrev xC.cells (a:xC):Array Value:= #[.slice a.ta a.tn a.tc,.slice a.pa a.pn a.pc,QH (a.every:Int),.slice a.ea a.en a.ec,.pointer (some ⟨a.vp,0,none⟩),.slice a.ra a.rn a.rc,.slice a.qa a.qn a.qc]
def Bj (d:Nat) (e:Array Value) (a:xC) (f:aR) (g:bk) (h:List ef) (i:List ah) (c:List (List ef)):Nat->World->(Nat->Prop)->Prop
 |0=>λb G=>G d/\b.heap[d]? =some (.cells e 222 (0,0))
 |1=>λb G=>bh b G f a.ta a.tn a.pa a.pn
 |2=>λb G=>aV fZ 59 G b a.ea a.en a.ec i
 |3=>λb G=>cT b a.vp G g
 |4=>λb G=>cU b G a.ra a.rn a.rc h
 |5=>λb G=>aV Zh 219 G b a.qa a.qn a.qc c
 |_=>λ_ _=>True
theorem ej {f:xC} {e:List (List ef)}:vC (Bj a r f O d8 g1 B e):=by
 intro k g w' G h b c d
 match k,b with
 |0,b=>exact⟨b.1,c.get b.2 (d a b.1)⟩
 |1,b=>exact bh.keep b c d
 |2,b=>exact aV.keep b c d
 |3,b=>exact cT.keep b c d
 |4,b=>exact cU.keep b c d
 |5,b=>exact aV.keep b c d
 |k+6,b=>trivial
abbrev eH (d:World) (e:Nat->Prop) (a:Nat->Nat) (f:Nat) (c:xC) (g:aR) (h:bk) (i:List ef) (j:List ah) (b:List (List ef)):Prop:=bS d e a (Bj f c.cells c g h i j b)
section
variable {w w':World} {p:Nat} {F T D:Nat->Prop} {cls:Nat->Nat} {q:xC} {d:aR} {V:bk} {Rs:List ef} {l:List ah} {pts:List (List ef)}
theorem eH.af (a:eH w F cls p q d V Rs l pts) (b:ai w w'):eH w' F cls p q d V Rs l pts:=bS.af a ej b
theorem eH.bG (a:eH w F cls p q d V Rs l pts):w.heap[p]? =some (.cells q.cells 222 (0,0)):=(a.at' 0).2
theorem eH.self (a:eH w F cls p q d V Rs l pts):F p/\cls p=0:=(a.at' 0).1
theorem Fj (t:eH w F cls p q d V Rs l pts) (hd:dd d=0) (hT:eM w) (hl:l.length<=20000000) {vp:Option Addr} {z:Option Addr} (hr:cU w D z a c g1) (hD:∀b,D b->b<w.heap.size) (hn:g1.length<=8):
  Calls ZQ 180 #[.pointer (some ⟨p,0,none⟩),.agg #[.pointer vp,.slice z a c]] w (Ok λT w'=>∃i z a c g G,T= .agg #[.pointer (some ⟨i,0,none⟩),.slice z a c]/\cT w' i g (cG d l)/\cU w' G z a c g1/\(∀b,g b->w.heap.size<=b)/\(∀b,G b->w.heap.size<=b/\b<w'.heap.size/\¬g b)/\ai w w'):=by
 have U:=t.aF;have g4:=hr.len;refine uf (PA.mk λu k5 s5 g5=>PA.mk λA k6 s6 g6=>?_);have B:=k5.then k6;have c0:∀{k:World},ai w k->Row fZ 96 k (λb=>F b/\cls b=2) q.ea q.en l:=λ{k} v=>((show aV fZ 59 (λb=>F b/\cls b=2) w q.ea q.en q.ec l from t.at' 2).af v).row dC (by unfold aQ;omega);have o:∀{k:World},ai w k->Calls ZQ 40 #[.agg #[.slice q.ta q.tn q.tc,.slice q.pa q.pn q.pc],.slice q.ea q.en q.ec] k (Ok λT w'=>∃p F,T= .pointer (some ⟨p,0,none⟩)/\cT w' p F (cG d l)/\(∀b,F b->k.heap.size<=b)/\ai k w'):=λ{k} v=>
  ID hd (hT.af v) (show bh k (λb=>F b/\cls b=1) d q.ta q.tn q.pa q.pn from bh.keep (t.at' 1) v λ_ _ t=>t) (λb e=>by have:=U b e.1;have:=v.size;omega) (c0 v) (λb e=>by have:=U b e.1;have:=v.size;omega) hl
 refine⟨λj oo w'=>oo=0/\∃i g,w'.heap[j]? =some (.cells #[.pointer (some ⟨i,0,none⟩),.slice none 0 0] 219 (0,0))/\cT w' i g (cG d l)/\(∀b,g b->A.heap.size<=b)/\¬g j/\A.heap.size<=j/\ai A w',?_,?_⟩
 ·intro r d9
  have x:ai A r:=d9.keep;have s9:r.heap.size=A.heap.size:=by rw [d9.heap]
  have W:=(t.af (B.then x)).bG;have zp:=U p t.self.1;have nS:¬r.heap.size<=p:=by have:=(B.then x).size;omega
  refine⟨λb=>r.heap.size<=b,p,0,rfl,nS,_,_,_,_,_,_,ae W rfl,ae W rfl,p,0,rfl,nS,_,_,_,ae W rfl,PC.ok (o (B.then x)) ?_,PA.mk λg7 X g8 d2=>⟨ai.keep X,PC.ok (o ((B.then x).then X)) ?_⟩⟩
  ·rintro _ K ⟨i,g,rfl,s,C,Y⟩
   refine⟨_,rfl,ai.keep Y,PA.mk λd3 Z g9 d4=>⟨ai.keep Z,PS.mk d4 sM λh0 d5 h2 d6=>PS.mk d6 sM λd7 d8 h3 e0=>?_⟩⟩;have E:=s.aF;have h4:=Y.size;have h:aj (λb=>b=K.heap.size) d3 d7:=d5.then d8;refine⟨h.mono λb _ f=>by have f:b=K.heap.size:=f;omega,rfl,i,g,e0,(s.af Z).keep h λb e f=>by have f:b=K.heap.size:=f;have:=E b e;omega,λb e=>by have:=C b e;omega,λe=>by have:=E _ e;omega,oM,((x.then Y).then Z).new h λb e=>.inr (by have e:b=K.heap.size:=e;omega)⟩
  ·rintro _ e1 ⟨i,g,rfl,s,C,L⟩
   have e2:=L.get d2 id;have E:=s.aF;have h5:=L.size;refine⟨_,rfl,ai.keep L,PS.mk e2 sM λh6 e3 h7 e4=>PS.mk e4 sM λe5 e6 h8 e7=>?_⟩;have h:aj (λb=>b=r.heap.size) e1 e5:=e3.then e6;refine⟨h.mono λb _ f=>by have f:b=r.heap.size:=f;omega,rfl,i,g,e7,s.keep h λb e f=>by have f:b=r.heap.size:=f;have:=C b e;omega,λb e=>by have:=C b e;omega,λe=>by have:=C _ e;omega,oM,((x.then X).then L).new h λb e=>.inr (by have e:b=r.heap.size:=e;omega)⟩
 rintro j _ _ M ⟨rfl,i,g,H,s,c1,e8,g3,N⟩;have a5:=B.then N;have h9:=N.size;have a3:j<M.heap.size:=aC H;have E:=s.aF;have c4:=N.get (k6.get g5 id) id;have c5:=N.get g6 id;refine⟨_,_,_,ae c4 rfl,λa2 a4 w'=>∃m:Nat,a4=m/\m<=a/\a2=a-m/\∃O I P G,w'.heap[j]? =some (.cells #[.pointer (some ⟨i,0,none⟩),.slice O I P] 219 (0,0))/\cU w' G O I P (g1.take m)/\(∀b,G b->M.heap.size<=b/\b<w'.heap.size)/\aj (·=j) M w',
  ⟨_,0,rfl,Qj _,rfl,none,0,0,λ_=>False,H,cU.nil _,λb e=>e.elim,aj.refl _⟩,?_⟩
 rintro a2 _ _ J ⟨m,rfl,hj,rfl,O,I,P,G,Q,R,n,y⟩;have i0:=y.size;refine al.dec (λi1=>?_) (λi2=>?_)
 ·have e9:m<g1.length:=oM
  have hx:g1[m]? =some g1[m]:=Qq e9;generalize g1[m]=f0 at hx;obtain⟨a7,pj,rj,ha,a0,hR,a8,a9,b0,-,-⟩:=((hr.af a5).keep y λb e f=>by have f:b=j:=f;have:=hD b e;omega).elem hx;have f2:=R.len;rw [Qy,X2 oM]at f2;refine⟨a7,0,ha,oM,oM,_,by rw [Qx];exact a0,λc6 c7=>⟨λ_=>False,id,?_⟩⟩;have b2:ai J c6:=c7.keep;have i3:c6.heap.size=J.heap.size:=by rw [c7.heap]
  refine⟨_,_,_,ae (b2.get Q id) rfl,PC.ok (OT (hR.af b2)) ?_⟩;rintro _ i4 ⟨p',r',rfl,f3,f4,i5,i6,i7,i8,b3⟩;have i9:=b3.size;refine⟨_,rfl,b3,PA.mk λj0 b4 j1 f6=>⟨b4,?_⟩⟩;have a1:=(b2.then b3).then b4;refine(R.af a1).push (λb e=>by have:=(n b e).2;omega) (f3.af b4) (λe=>by have:=(n _ e).2;omega) (λe=>by have:=(n _ e).2;omega) f4 Rl f6 (by rw [Qy];omega) λb1 c3 j2 G3 f7 b5 g0 c8=>⟨_,_,_,rfl,?_⟩
  have j3:=b5.size;have b6:=b5.get (a1.get Q id) λe=>by have:=(n _ e).1;omega
  have a6:∀b,G3 b->M.heap.size<=b:=λb e=>by
   rcases g0 b e with S|S|S|S
   ·exact(n b S).1
   ·omega
   ·omega
   ·omega
  refine PS.mk b6 sM λj4 c9 j5 c2=>⟨_,oM,m+1,an oM,oM,rfl,b1,I+1,c3,G3,c2,?_,λb e=>⟨a6 b e,by have:=c8 b e;omega⟩,?_⟩
  ·rw [Qw,hx]
   exact f7.keep c9 λb e f=>by have f:b=j:=f;have:=a6 b e;omega
  ·exact((y.af a1).new b5 λb e=>.inr (n b e).1).then c9
 ·rw [Qz oM]at R
  have d0:=y.get c5 λf=>by have f:u.heap.size=j:=f;omega
  refine⟨_,_,_,_,ae Q rfl,ae Q rfl,PS.mk d0 sM λj6 b7 j7 g2=>PS.mk g2 sM λb8 b9 j8 d1=>⟨_,_,_,_,ae d1 rfl,ae d1 rfl,Ok.mk ⟨i,O,I,P,g,G,rfl,?_,?_,λb e=>by have:=c1 b e;omega,λb e=>⟨?_,?_,?_⟩,?_⟩⟩⟩
  ·have h:aj (λb=>b=u.heap.size) J b8:=b7.then b9
   exact(s.keep y λb e f=>e8 ((show b=j from f)▸e)).keep h λb e f=>by have f:b=u.heap.size:=f;have:=c1 b e;omega
  ·have h:aj (λb=>b=u.heap.size) J b8:=b7.then b9
   exact R.keep h λb e f=>by have f:b=u.heap.size:=f;have:=n b e;omega
  ·have:=n b e;omega
  ·have:=n b e;omega
  ·intro hf;have:=n b e;have:=E b hf;omega
  ·have h:aj (λb=>b=u.heap.size) J b8:=b7.then b9
   exact(a5.new y λb e=>.inr (by have e:b=j:=e;omega)).new h λb e=>.inr (by have e:b=u.heap.size:=e;omega)
end
section
variable {w w':World} {p:Nat} {F T D:Nat->Prop} {cls:Nat->Nat} {q:xC} {d:aR} {V:bk} {Rs:List ef} {l:List ah} {pts:List (List ef)}
theorem Ef {e:Option Addr} {w:World} {D:Nat->Prop} (i:Row aP 8 w D e a k.aK) (t:∀b,D b->b<w.heap.size):
  Calls ZQ 202 #[kK k e a c] w (Ok λu w'=>∃e a c G,u=kK k e a c/\Row aP 8 w' G e a k.aK/\(∀b,G b->w.heap.size<=b/\b<w'.heap.size)/\ai w w'):=by
 have v:=i.d_;have x:=i.len;refine Aa (PA.mk λA n B f=>PA.mk λC g E j=>⟨_,_,_,ae (g.get f id) rfl,PC.ok (cH (i.af (n.then g)) λb d=>by have:=t b d;omega) ?_⟩);rintro _ F ⟨o,p,q,G,rfl,r,h,l⟩;have f:=h.get (g.get f id) id;have j:=h.get j id;refine⟨_,_,_,rfl,PS.mk f (by simp [aE]) λH m I y=>?_⟩;refine aw (cs:=aE k o p q) (bg _ _ _ _) y (aD (bg _ _ _ _) (m.get j oM) rfl λJ s K z=>aw (bg _ _ _ _) z (Ok.mk ⟨o,p,q,G,rfl,?_,?_,?_⟩))
 ·refine(((r.keep m λb d=>?_).keep s λb d=>?_).row (bytes:=8) dC (by rw [<-x];exact v))
  ·have:=l b d;omega
  ·have:=l b d;omega
 ·intro b d
  have:=l b d;have:=r.aF b d;omega
 ·have L:=h.size
  exact((aj.new ((n.then g).then h) m λb d=>.inr oM).new s λb d=>.inr oM)
theorem eH.store {b:xC} (a:bS w F cls (Bj p q.cells b d V Rs l pts)) (e:aj (·=p) w w') (f:w'.heap[p]? =some (.cells r 222 (0,0))):bS w' F cls (Bj p r b d V Rs l pts):=by
 refine bS.same a ej (k:=0) (e.mono λj _ g=>g▸(a.at' 0).1) ⟨(a.at' 0).1,f⟩ λc G h i=>?_;rcases c with _|_|_|_|_|_|c<;>first|exact i|exact absurd rfl h
theorem Fk (b:eH w F cls p q d V Rs l pts) (J:dd d=0) (K:eM w) (L:l.length<=20000000) (M:Rs.length<=8) (b2:pts.length*q.every<9223372036854775808) (b3:pts.length<=20000001):
  Calls ZQ 134 #[.pointer (some ⟨p,0,none⟩)] w (Ok λN w'=>N= .tuple #[]/\∃u v g,eH w' v g p u d V Rs l (if l.length=pts.length*q.every then pts++[Rs]else pts)/\u.every=q.every/\de F w v w'):=by
 have k:=b.bG;have O:=aV.len (b.at' 2) dC;have P:=aV.len (b.at' 5) dC;have Q:=b.aF;have R:IntKind.wrap .i64 (((q.qn:Nat):Int)*(q.every:Int))=((pts.length*q.every:Nat):Int):=by
  rw [P,show((pts.length:Nat):Int)*(q.every:Int)=((pts.length*q.every:Nat):Int) by push_cast;rfl,wrap_i64 (by unfold aN;omega)]
 refine ug ⟨p,0,rfl,_,_,_,ae k rfl,p,0,rfl,_,_,_,ae k rfl,p,0,rfl,_,ae k rfl,λS T=>?_⟩;rw [R,O];have m:ai w S:=T.keep;refine al.dX (λb4=>?_) (λb5=>Ok.mk ⟨rfl,q,F,cls,?_,rfl,ai.keep m,λa c=>.inl c⟩)
 rotate_left
 ·rw [if_neg oM];exact eH.af b m
 rw [if_pos oM];intro x U;have j:ai w x:=m.then U.keep;have f:=eH.af b j;have n:=f.bG;refine⟨λ_=>False,p,0,rfl,id,_,_,_,ae n rfl,p,0,rfl,_,_,_,_,ae n rfl,ae n rfl,PC.ok (Fj f J (K.af j) L (f.at' 4) (λa c=>f.aF a c.1) M) ?_⟩;rintro _ b6 ⟨b7,a3,n2,c2,Fv,G,rfl,-,W,-,o,r⟩;refine⟨_,_,_,_,rfl,r,PA.mk λb8 s b9 X=>⟨s,?_⟩⟩;have y:=r.then s;have Y:=eH.af f y;have c0:=j.size;have c1:=r.size;have t:∀a,aI q.qa=some a->F a/\cls a=5:=λa c=>aV.self (b.at' 5) a c;refine fh (c:=Zh) (x:=Rs) (Y.at' 5) Xa X (D:=G) ⟨_,_,_,_,rfl,W.af s⟩ (λa c=>⟨by have:=(o a c).2.1;omega,λh=>by have:=Q a (t a h).1;have:=(o a c).1;omega⟩) (by unfold aQ;omega) (by unfold maxLen;omega) λz e Z F2 A B b0=>⟨_,_,_,rfl,p,0,rfl,?_⟩
 have a0:¬aI q.qa=some p:=λh=>by have i:=(t p h).2;rw [b.self.2]at i;cases i
 have c3:=B.size;have a1:aj (λa=>F a/\cls a=5) x Z:=(ai.keep y).then (B.mono λa _ c=>t a c);obtain⟨F3,a2,C,E,-,-⟩:=f.fr ej (k:=5) (G':=F2) (C2:=Bj p q.cells {q with qa:=z,qn:=q.qn+1,qc:=e} d V Rs l (pts++[Rs])) a1
  (λa c=>(b0 a c).imp id λb=>b.elim (λb=>(o a b).1) λb=>oM) A.aF A λH G hj hc=>by
   rcases H with _|_|_|_|_|_|H<;>first|exact hc|exact absurd rfl hj
 refine PS.mk (C.at' 0).2 sM λc4 I c5 b1=>Ok.mk ⟨rfl,{q with qa:=z,qn:=q.qn+1,qc:=e},F3,a2,eH.store C I b1,rfl,?_,λa c=>?_⟩
 ·refine((ai.keep j).then E.keep).then (I.mono λa _ h=>h▸b.self.1)
 ·rcases E.new a c with i|i
  ·exact .inl i
  ·exact .inr oM
end
end Go.Proofs.YtfchlbaidamodaaGreatDoor

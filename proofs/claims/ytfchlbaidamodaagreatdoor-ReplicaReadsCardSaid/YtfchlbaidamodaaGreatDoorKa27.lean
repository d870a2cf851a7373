import Derived.Test.YtfchlbaidamodaaGreatDoorKa26
set_option linter.all false
set_option maxRecDepth 100000
namespace Go.Proofs.YtfchlbaidamodaaGreatDoor
open Go.ax
def au (no:Int):ByteArray:=cR (aB no)
structure oT where
 no:Int
 out:List ah
 V:cY
 D:ak
def cZ:List Int->List ah->cY->ak->oT
 |[],a,b,D=>⟨0,a,b,D⟩
 |no::c,a,b,D=>
  if(D.read (au no)).2≠0 then⟨0,a,b,D⟩else
  if(bN (D.read (au no)).1).2<(D.read (au no)).1.length then
   ⟨(D.nT (au no) (bN (D.read (au no)).1).2).1,a++(bN (D.read (au no)).1).1,⟨b.size,b.aX++[no],(bN (D.read (au no)).1).2,b.next⟩,(D.nT (au no) (bN (D.read (au no)).1).2).2⟩
  else cZ c (a++(bN (D.read (au no)).1).1) ⟨b.size,b.aX++[no],(bN (D.read (au no)).1).2,b.next⟩ D
variable{u:List Int}{a c:Nat}{f:Nat->Prop}{d:Option Addr}{o:Value->World->Prop}{y:World->Prop}
section
variable {w0 w w1 w':World} {p q:Nat} {D D':ak} {V V':cY} {X Y Z G S:Nat->Prop}
theorem bf.fr (d:bf w0 w p D X) (e:aj Y w w') (f:∀a,Y a->X a/\w0.heap.size<=a) (g:∀a,Z a->(X a\/w.heap.size<=a)/\a<w'.heap.size):bf w0 w' p D Z:=by
 obtain⟨i,h,j,c,m⟩:=d;exact⟨i,h.keep e λa b k=>(c a b).2 (f a k).1,j.new e λa b=>.inr (f a b).2,λa b=>⟨(c a b).1,λl=>(g a l).1.elim (c a b).2 λd=>by have:=h.aF a b;omega⟩,λa b=>(g a b).2⟩
theorem cQ.fr (h:cQ w0 w p q V D X) (c:aj Y w w') (d:∀a,Y a->X a/\w0.heap.size<=a) (e:∀a,Z a->(X a\/w.heap.size<=a)/\a<w'.heap.size):cQ w0 w' p q V D Z:=by
 obtain⟨G,i,f,g⟩:=h;refine⟨G,i.fr c (λa b=>⟨.inl (d a b).1,(d a b).2⟩) λa b=>?_,f.keep c λa b j=>(g a b).2 (d a j).1,λa b=>⟨(g a b).1,λk=>(e a k).1.elim (g a b).2 λh=>by have:=f.aF a b;omega⟩⟩;rcases b with b|b
 ·exact⟨(e a b).1.imp .inl id,(e a b).2⟩
 ·exact⟨.inl (.inr b),Qk (f.aF a b) c.size⟩
theorem SG {no C:Int} (h:cQ w0 w p q V D X) (P:aN no) (Q:V.aX.length+1<=64) 
  (t:∀w',cQ w0 w' p q ⟨V.size,V.aX++[no],C,V.next⟩ D X->aj (et X) w w'->y w'):
  ∃E F,(some ⟨q,0,none⟩:Option Addr)=some ⟨E,F,none⟩/\∃(j:Option Addr) (u v:Nat),w.cell? ⟨E,F+2,none⟩=some (.slice j u v)/\
   PA w (.cells #[QH no] 3) λR=>aH ZQ (Builtin.append_ #[55,55] 55 #[.slice j u v,.slice (some ⟨w.heap.size,0,none⟩) 1 1]) R (λS T=>
    ∃(e:Option Addr) (H k:Nat),S= .slice e H k/\∃I J,(some ⟨q,0,none⟩:Option Addr)=some ⟨I,J,none⟩/\PS T ⟨I,J+2,none⟩ (.slice e H k) λU=>
     ∃K L,(some ⟨q,0,none⟩:Option Addr)=some ⟨K,L,none⟩/\PS U ⟨K,L+3,none⟩ (QH C) y) o:=by
 obtain⟨G,W,d,f⟩:=id h;obtain⟨j,u,v,a0,M,g,i⟩:=d.body;have a8:=d.aF q d.self;refine⟨q,0,rfl,_,_,_,ae M rfl,PA.mk λw1 l s1 Y=>?_⟩;refine lH (g.af l) tN (D:=(·=w.heap.size)) (Row.lit Y [no] rfl (λa1 m=>by simp at m;subst m;exact P) (by unfold aQ;simp)) (λa c=>⟨oM,λZ=>by have:=g.aF a (g.self a Z);omega⟩) (by unfold aQ;simp;omega) (by unfold maxLen;simp;omega) λe k w2 F' n r _ x=>?_
 replace n:=n.alone
 have a6:¬aI j=some q:=λc=>(i q (g.self q c)).2 rfl;have g2:=r.get (l.get M id) a6;have z2:=r.size;have z:¬aI e=some q:=λc=>by
  rcases x q c with h|h
  ·exact(i q h).2 rfl
  ·omega
 refine⟨_,_,_,rfl,q,0,rfl,PS.mk g2 sM λw3 A s3 g3=>⟨q,0,rfl,PS.mk g3 sM λs B s4 g4=>t s ?_ ?_⟩⟩
 ·have a7:aj (λa=>aI j=some a\/a=q) w1 s:=((r.mono λa _ b=>.inl b).then (A.mono λa _ b=>.inr b)).then (B.mono λa _ b=>.inr b)
  have kG:aj G w s:=(ai.keep l).then (a7.mono λa _ b=>b.elim (λh=>(i a (g.self a h)).1) λh=>h▸d.self);have N:∀a,aI e=some a->a<s.heap.size:=λa b=>by have:=n.aF a b;omega
  refine⟨λa=>a=q\/aI e=some a,W.fr kG (λa b=>⟨.inr b,(f a b).1⟩) λa b=>?_,⟨⟨e,_,k,(λa=>aI e=some a),g4,?_,λa b=>⟨.inr b,λc=>z (c▸b)⟩⟩,.inl rfl,?_,by simpa using Q,d.Cj⟩,?_⟩
  ·rcases b with b|rfl|b
   ·exact⟨.inl (.inl b),by have:=h.aF a b;omega⟩
   ·exact⟨.inl (.inr d.self),oM⟩
   ·refine⟨?_,N a b⟩
    rcases x a b with h|h
    ·exact .inl (.inr (i a h).1)
    ·exact .inr oM
  ·exact(n.keep A λa b c=>z (c▸b)).keep B λa b c=>z (c▸b)
  ·rintro a (rfl|b)
   ·omega
   ·exact N a b
  ·rintro a (rfl|b)
   ·exact f _ d.self
   ·rcases x a b with O|O
    ·exact f a (i a O).1
    ·exact⟨by have:=h.gr.size;omega,λm=>by have:=h.aF a m;omega⟩
 ·refine(((ai.keep l).then (r.mono λa _ b=>?_)).then (A.mono λa _ b=>?_)).then (B.mono λa _ b=>?_)
  ·exact(f a (i a (g.self a b)).1).2
  ·exact(f a (b▸d.self)).2
  ·exact(f a (b▸d.self)).2
theorem Wi {j a:Nat} (b:j<=64) (c:a<=j*262144):a<=16777216:=oM
def UD (w0 w:World) (p q:Nat) (X:Nat->Prop) (a:oT) (f:Value) (w':World):Prop:=
 ∃c d e G,f= .tuple #[.slice c d e,QH a.no]/\aV qz 59 G w' c d e a.out/\cQ w0 w' p q a.V a.D (λb=>X b\/G b)/\aj (et X) w w'/\(∀b,G b->w.heap.size<=b)/\a.out.length<=16777216
theorem SH (C:Laid w0) (h:cQ w0 w p q V D X) (P:Row aP 8 w f d a u) (c2:∀b,f b->X b) (f3:V.aX.length+u.length<=64):
  Calls ZQ 137 #[.pointer (some ⟨q,0,none⟩),.agg #[.slice d a c]] w (Ok (UD w0 w p q X (cZ u [] V D))):=by
 have l:=P.len;have Q:=h.aF;have f7:=h.gr.size;refine uV (PA.mk λw1 R s1 g1=>⟨_,_,_,ae g1 rfl,λS T U W Y w'=>∃(i:Nat) (j:cY) (g:List ah) (G:Nat->Prop),Y=i/\i<=u.length/\S=u.length-i/\cZ u [] V D=cZ (u.drop i) g j D/\j.aX.length=V.aX.length+i/\g.length<=i*262144/\
  aV qz 59 G w' T U W g/\cQ w0 w' p q j D (λb=>X b\/G b)/\aj (et X) w w'/\∀b,G b->w.heap.size<=b,
  ⟨_,0,V,[],λ_=>False,rfl,Qj _,rfl,rfl,rfl,Qj _,aV.nil w1,(h.af R).mono λb e=>e.elim id λh=>h.elim,ai.keep R,λ_ h=>h.elim⟩,?_⟩)
 rintro S T U W Y _ Z ⟨i,j,g,G,rfl,hj,rfl,a4,g0,a0,m,hN,r,t⟩;rw [a4];refine al.dec (λg2=>?_) (λg3=>?_)
 rotate_left
 ·obtain rfl:i=u.length:=oM
  rw [List.drop_of_length_le (Q4 _)];exact Ok.mk ⟨_,_,_,G,rfl,m,hN,r,t,Wi oM a0⟩
 obtain⟨b,E,no,rfl,n,k,F⟩:=(P.keep r λb e l=>l (c2 b e)).mh (i:=i) oM;have a2:u.drop i=no::u.drop (i+1):=by
  obtain⟨c4,rfl⟩:=Qv.1 n;exact X4 c4
 rw [a2]at a4⊢;refine⟨b,E,rfl,oM,oM,no,F,λw3 d3=>?_⟩;have k3:ai Z w3:=d3.keep;have H:=hN.af k3;obtain⟨G3,c8,d0,g4⟩:=id H;obtain⟨a3,n3,c3,E3,d1,-,-,-⟩:=d0.row;refine⟨λ_=>False,q,0,rfl,id,_,ae d1 rfl,PC.ok (jV (C.af H.gr) k) ?_⟩;rintro _ w4 ⟨rfl,z⟩;have d2:=H.af z;refine⟨_,rfl,z,PC.ok ((c8.af z).read (k:=au no)) ?_⟩;rintro _ w5 ⟨a5,n5,c5,F5,rfl,d4,g5,-,I⟩;have v:=d2.af I;have x:ai Z w5:=(k3.then z).then I;have g6:=d4.len dC;have g7:=JQ v.ok (au no);refine⟨_,_,_,_,rfl,I,al.dw (λd5=>?_) (λhe=>?_)⟩
 ·rw [show cZ (no::u.drop (i+1)) g j D=⟨0,g,j,D⟩ by unfold cZ;rw [if_pos d5]]
  exact Ok.mk ⟨_,_,_,G,rfl,m.af x,v,r.af x,t,Wi oM a0⟩
 obtain⟨G5,d6,d7,g8⟩:=id v;obtain⟨g9,h0,h2,E5,d8,-,-,-⟩:=d7.row;obtain⟨a7,e0,-,-,-⟩:=id d6;refine⟨q,0,rfl,_,ae d8 rfl,PC.ok (SI (C.af v.gr) e0 k) ?_⟩;rintro _ w6 ⟨a6,n6,c6,F6,rfl,s,J,K,a8⟩;have e1:cQ w0 w6 p q j D (λb=>(X b\/G b)\/F6 b):=v.add J λb e=>⟨K b e,s.aF b e⟩
 have b0:=x.then J;have e2:=m.aF;generalize e3:bN (D.read (cR (aB no))).1=sl at s a8;obtain⟨evs,o⟩:=sl;dsimp only at s a8;have a1:bN (D.read (au no)).1=(evs,o):=e3;have b1:Row qz 96 w6 F6 a6 n6 evs:=s.row dC (by unfold aQ;omega);refine⟨_,_,_,_,rfl,sE (m.af b0) Eg b1 (λL=>s.Pq L) (λb e=>⟨s.aF b e,λF=>by have:=e2 b (m.self b F);have:=K b e;have:=x.size;omega⟩) (by unfold aQ;omega) (by unfold maxLen;omega) λa9 c7 w7 A b2 M b3 _=>?_⟩;have h3:=x.size;have z6:=J.size;have b4:=b2.aF;have e4:cQ w0 w7 p q j D (λb=>X b\/A b):=e1.fr M (λb e=>⟨.inl (.inr (m.self b e)),by have:=t b (m.self b e);omega⟩) λb e=>by
  rcases e with e|e
  ·exact⟨.inl (.inl (.inl e)),by have:=Q b e;have:=r.size;have:=M.size;omega⟩
  ·refine⟨?_,b4 b e⟩
   rcases b3 b e with h|h|h
   ·exact .inl (.inl (.inr h))
   ·exact .inl (.inr h)
   ·exact .inr h
 have e5:aj (et X) w w7:=(r.af b0).then (M.mono λb _ e n=>by have:=t b (m.self b e);have:=Q b n;omega);have b5:∀b,A b->w.heap.size<=b:=λb e=>by
  have:=r.size;rcases b3 b e with h|h|h
  ·exact t b h
  ·have:=K b h;omega
  ·omega
 refine⟨_,_,_,rfl,SG e4 k oM λw8 b6 k8=>?_⟩;have b7:aj (et X) w w8:=e5.then (k8.mono λb _ e n=>e (.inl n));have b8:=b2.keep k8 λb e l=>l (.inr e);refine al.dec (λf4=>?_) (λf5=>?_)
 ·rw [show cZ (no::u.drop (i+1)) g j D=⟨(D.nT (au no) o).1,g++evs,⟨j.size,j.aX++[no],o,j.next⟩,(D.nT (au no) o).2⟩ by
   unfold cZ;rw [a1,if_neg (by simpa using he),if_pos (by show o<_;omega)]]
  intro w9 d9;have N:ai w8 w9:=d9.keep;have b9:=b6.af N;obtain⟨G9,e6,O,e7⟩:=id b9;obtain⟨c9,n9,f0,E9,e8,-,-,-⟩:=O.row;refine⟨λb=>b≠q,q,0,rfl,λhs=>hs rfl,_,ae e8 rfl,PC.ok (jV (C.af b9.gr) k) ?_⟩;rintro _ e9 ⟨rfl,y⟩;refine⟨_,rfl,y.keep,PC.ok ((e6.af y).nT (k:=au no)) ?_⟩;rintro _ f2 ⟨rfl,c0,B⟩;have c1:aj (et X) e9 f2:=B.mono λb _ e n=>e (.inl (.inl n));refine⟨_,rfl,B.mono λb _ e L=>e (.inr (L▸O.self)),Ok.mk ⟨_,_,_,A,rfl,?_,⟨G9,c0,(O.af y).keep B λb e l=>l (.inr e),e7⟩,((b7.af N).af y).then c1,b5,?_⟩⟩
  ·exact((b8.af N).af y).keep B λb e l=>l (.inl (.inr e))
  ·exact Wi (j:=i+1) oM (by simp;omega)
 ·refine⟨_,?_,i+1,⟨j.size,j.aX++[no],o,j.next⟩,g++evs,A,an oM,oM,rfl,?_,by simp;omega,by simp;omega,b8,b6,b7,b5⟩
  ·omega
  ·conv=>lhs;unfold cZ
   rw [a1,if_neg (by simpa using he),if_neg (by show¬o<_;omega)]
end
def jB (D:ak) (a:ByteArray):Bool:=decide (a=aS)||((gV a).2&& !decide ((gV a).1∈(dR D).getD []))
def Hf (D:ak):List ByteArray:=D.list.filter (jB D)
def Lu (D:ak) (a:List ByteArray):ak:=a.foldl (λD b=>(D.delete b).2) D
def dH (D:ak):ak:=Lu D (Hf D)
def BH (a:List ByteArray):List (List Value):=a.map λb=>[.string b]
def RL (D:ak) (a:List (List Value)):ak:=a.foldl (λD b=>match b with
 |[.string c]=>(D.delete c).2
 |_=>D) D
theorem Fz:∀(a:List ByteArray) (D:ak),RL D (BH a)=Lu D a
 |[],D=>rfl
 |s::a,D=>Fz a (D.delete s).2
theorem Ph (D:ak) (a:List (List Value)) (b:ByteArray):RL D (a++[[.string b]])=((RL D a).delete b).2:=by
 unfold RL;rw [List.foldl_append];rfl
theorem FA (a:List ByteArray) (b:ByteArray):BH (a++[b])=BH a++[[.string b]]:=by unfold BH;simp
variable{s:Ending->World->Prop}{F V b2 e m:Int}{C:List ah}{E b5 i l:Nat}{a4:Nat->Prop}{a9 g7 p:Option Addr}{b k:World}{n:ah}{a1:bQ}{b1:cY}
theorem Eo {D:Nat->Prop} (g:Row aP 8 b D d a u):
  Calls ZQ 249 #[.slice d a c,QH e] b (Ok λq j=>(∃n:Int,q= QH n/\(0<=n↔e∈u))/\b=j):=by
 have x:=g.len;have r:=g.d_;unfold aQ at r;refine oE ⟨λo i j=>∃f:Nat,i=f/\f<=a/\o=a-f/\e∉u.take f/\b=j,⟨_,0,rfl,Qj _,rfl,sM,rfl⟩,?_⟩;rintro o i _ _ ⟨f,rfl,y,rfl,k,rfl⟩;refine al.dec (λs=>?_) (λs=>?_)
 ·obtain⟨t,l,z,rfl,p,_,v⟩:=g.mh (i:=f) oM
  refine⟨t,l,rfl,oM,oM,_,v,al.dX (λm=>?_) (λm=>?_)⟩
  ·exact Ok.mk ⟨⟨_,rfl,λ_=>m▸QZ p,λ_=>oM⟩,rfl⟩
  ·refine⟨_,oM,f+1,an oM,oM,rfl,?_,rfl⟩
   rw [Qw,p];intro w;rcases Q6.1 w with h|h
   ·exact k h
   ·simp at h;exact m h
 ·rw [Qz oM]at k
  exact Ok.mk ⟨⟨_,rfl,λh=>oM,λh=>absurd h k⟩,rfl⟩
theorem xN {D:Nat->Prop} (f:Row aP 8 b D d a u):
  Calls ZQ 178 #[.slice d a c,QH e] b (Ok λg h=>g= .bool (decide (e∈u))/\b=h):=by
 refine lV (PC.ok (Eo f) ?_);rintro _ _ ⟨⟨j,rfl,i⟩,rfl⟩;exact⟨_,rfl,Ok.mk ⟨by rw [decide_eq_decide.2 i],rfl⟩⟩
section
variable {w0 w w1 w':World} {p:Nat} {D D':ak} {X Y:Nat->Prop}
theorem bf.lt (b:bf w0 w p D X):∀a,X a->a<w.heap.size:=by obtain⟨d,e,f,g,c⟩:=b;exact c
theorem Pj (j:bf w0 w p D X) (t:qU w0):Calls ZQ 124 #[.pointer (some ⟨p,0,none⟩)] w (Ok λu w'=>∃k l e f g,∃Y G:Nat->Prop,u= .func (.func 175) #[] #[.pointer (some ⟨k,0,none⟩),.pointer (some ⟨l,0,none⟩)]/\
  (∃h m,w'.heap[k]? =some (.cells #[.pointer (some ⟨p,0,none⟩)] h m))/\(∃h m,w'.heap[l]? =some (.cells #[.slice e f g] h m))/\aV aP 3 G w' e f g ((dR D).getD [])/\Y k/\Y l/\(∀b,G b->Y b)/\bf w0 w' p D (λb=>X b\/Y b)/\ai w w'):=by
 have B:=j.gr.size;refine Af (PA.mk λw1 o C q=>⟨_,ae q rfl,PC.ok ((j.add o (Y:=(·=w.heap.size)) λb a=>⟨oM,oM⟩).iK t) ?_⟩);rintro _ c ⟨e,f,g,G,rfl,r,E,v,n⟩;refine⟨_,_,_,_,rfl,PA.mk λF i H x=>PS.mk x sM λI d J y=>Ok.mk ⟨w.heap.size,c.heap.size,e,f,g,λb=>(b=w.heap.size\/G b)\/b=c.heap.size,G,rfl,?_⟩⟩;have K:=n.size;have z:w.heap.size≠c.heap.size:=oM
 have s:∀b,G b->b<c.heap.size:=r.aF;have A:=v.add i (Y:=(·=c.heap.size)) λb a=>⟨oM,oM⟩
 refine⟨⟨_,_,d.get (i.get (n.get q id) id) z⟩,⟨_,_,y⟩,(r.af i).keep d (λb a h=>by have:=s b a;omega),.inl (.inl rfl),.inr rfl,λb a=>.inl (.inr a),?_,?_⟩
 ·refine A.fr d (λb a=>⟨.inr a,oM⟩) λb a=>⟨.inl ?_,?_⟩
  ·rcases a with a|(a|a)|a
   ·exact .inl (.inl (.inl a))
   ·exact .inl (.inl (.inr a))
   ·exact .inl (.inr a)
   ·exact .inr a
  ·have:=d.size
   rcases a with a|(a|a)|a
   ·have:=j.lt b a;omega
   ·omega
   ·have:=s b a;omega
   ·omega
 ·exact aj.new ((o.then n).then i) d λb a=>.inr oM
def CJ (w0 b:World) (p:Nat) (D:ak) (f:Nat->Prop) (c:World×(Nat->Prop)) (d:List (List Value)) (e:World):Prop:=
 bf w0 e p (RL D d) (λa=>(f a\/(b.heap.size<=a/\a<b.heap.size+2))\/c.2 a)/\aj (et f) b e/\aj (et c.2) c.1 e/\∀a,c.2 a->b.heap.size+2<=a
variable {w5:World} {X5:Nat->Prop} {s:World×(Nat->Prop)} {pre:List (List Value)} {A B:World}
theorem CJ.af (a:CJ w0 w5 p D X5 s pre A) (b:ai A B):CJ w0 w5 p D X5 s pre B:=⟨a.1.af b,a.2.1.af b,a.2.2.1.af b,a.2.2.2⟩
theorem CJ.fr (f:ai w0 w5) (g:CJ w0 w5 p D X5 s pre A) (h:qV (w5.heap.size+1) A B):CJ w0 w5 p D X5 s pre B:=by
 obtain⟨d,i,j,e⟩:=g;obtain⟨c,k⟩:=h;have:=f.size;refine⟨d.fr c (λa b=>⟨.inl (.inr ⟨oM,oM⟩),oM⟩) λa b=>⟨.inl b,by rw [k];exact d.lt a b⟩,i.new c λa b=>.inr oM,j.new c λa b=>.inl λl=>?_,e⟩;have:=e a l;omega
theorem Je {G:Nat->Prop} {R:World->Prop} (X:Laid w0) (a5:∀b,X5 b->b<w5.heap.size)
  (t:∃u v,w5.heap[a]? =some (.cells #[.pointer (some ⟨p,0,none⟩)] u v)) (Y:X5 a) (w:∃u v,w5.heap[c]? =some (.cells #[.slice d i l] u v)) (Z:X5 c) (hl:aV aP 3 G w5 d i l ((dR D).getD [])) (hG:∀b,G b->X5 b)
  (F:∀A B,R A->aj (oF w5) A B->R B)
  (H:∀s pre x A,CJ w0 w5 p D X5 s pre A->R A->uw [.string ⟨#[]⟩] x->ks ZQ (w5.heap.size+1) x A λb o=>b=true/\CJ w0 w5 p D X5 s (pre++[x]) o/\R o)
  (y:CJ w0 w5 p D X5 (w5,no) [] w1) (a0:R w1) (a1:w5.heap.size+2<=w1.heap.size):
  Calls ZQ 175 #[.func (.yield (w5.heap.size+1)) #[] #[],.pointer (some ⟨a,0,none⟩),.pointer (some ⟨c,0,none⟩)] w1 (Ok λa4 w'=>R w'/\∃s,CJ w0 w5 p D X5 s (BH (Hf D)) w'):=by
 obtain⟨e2,f2,t⟩:=t;obtain⟨e4,f4,w⟩:=w;have I:bf w0 w1 p D _:=y.1;refine ux ⟨_,ae (y.2.1.get t λf=>f Y) rfl,PC.ok I.list ?_⟩;rintro _ z ⟨a8,J,c8,K,rfl,L,a2,h8,M⟩;have a6:D.list.length<=64:=by rw [oG];exact I.ok.many
 have a7:=L.len dC;have a3:CJ w0 w5 p D X5 (z,K) [] z:=⟨h8.mono λb g=>g.elim (λh=>.inl (.inl h)) .inr,y.2.1.af M,aj.refl _,λb g=>Xx a1 (a2 b g)⟩
 refine⟨_,_,_,rfl,λN O w'=>∃e:Nat,O=e/\e<=J/\N=J-e/\CJ w0 w5 p D X5 (z,K) (BH ((D.list.take e).filter (jB D))) w'/\R w',⟨_,0,rfl,Qj _,rfl,a3,F _ _ a0 (ai.keep M)⟩,?_⟩;rintro N O _ a9 ⟨e,rfl,hj,rfl,m,P⟩;refine al.dec (λb0=>?_) (λb1=>?_)
 ·obtain⟨b,C,s,rfl,Q,_,n⟩:=((L.keep m.2.2.1 λb g f=>f g).row (bytes:=16) dC (by unfold aQ;omega)).mh (i:=e) oM
  refine⟨b,C,rfl,oM,oM,_,n,PC.ok (BI (X.af m.1.gr)) ?_⟩;rintro _ b2 ⟨rfl,S⟩;have k:=m.af S;have q:=F _ _ P (ai.keep S);have T:uw [.string ⟨#[]⟩] [.string s]:=λφ h=>h s;have U:jB D s=true->(D.list.take (e+1)).filter (jB D)=(D.list.take e).filter (jB D)++[s]:=λh=>by
   rw [Qw,Q,List.filter_append];simp [h]
  have V:jB D s=false->(D.list.take (e+1)).filter (jB D)=(D.list.take e).filter (jB D):=λh=>by
   rw [Qw,Q,List.filter_append];simp [h]
  refine⟨_,_,rfl,al.YJ (λhe=>?_) (λW=>al.mk (λr=>?_) (λr=>?_))⟩
  ·refine⟨_,rfl,(H _ _ _ _ k q T).mono ?_⟩
   rintro _ o ⟨rfl,j,E⟩;refine al.ff rfl ⟨_,?_,e+1,an oM,oM,rfl,?_,E⟩
   ·omega
   ·rw [U (by unfold jB;rw [show s=aS from he];simp),FA];exact j
  ·refine⟨_,_,_,ae (k.2.1.get w λf=>f Z) rfl,PC.ok (xN ((hl.keep k.2.1 λb g f=>f (hG b g)).row (bytes:=8) dC (by have:=FB (D:=D);unfold aQ;omega))) ?_⟩
   rintro _ _ ⟨rfl,rfl⟩;refine⟨_,rfl,al.mk (λn=>?_) (λn=>?_)⟩
   ·refine⟨_,rfl,(H _ _ _ _ k q T).mono ?_⟩
    rintro _ o ⟨rfl,j,E⟩;refine al.ff rfl ⟨_,?_,e+1,an oM,oM,rfl,?_,E⟩
    ·omega
    ·rw [U (by unfold jB;rw [r,n];simp),FA];exact j
   ·refine⟨_,?_,e+1,an oM,oM,rfl,?_,q⟩
    ·omega
    ·rw [V (by unfold jB;rw [r,n,Xv (show¬s=aS from W)];rfl)];exact k
  ·refine⟨_,?_,e+1,an oM,oM,rfl,?_,q⟩
   ·omega
   ·rw [V (by unfold jB;rw [r,Xv (show¬s=aS from W)];rfl)];exact k
 ·rw [Qz oM]at m
  exact Ok.mk ⟨P,_,m⟩
theorem Pk (t:Laid w0) (d:bf w0 w p D X):Calls ZQ 64 #[.pointer (some ⟨p,0,none⟩)] w (Ok λj w'=>j= .tuple #[]/\bf w0 w' p (dH D) X/\aj (et X) w w'):=by
 have a6:=d.gr.size;refine Ag (PA.mk λw1 u s1 v=>⟨_,ae v rfl,PC.ok (Pj (d.add u (Y:=(·=w.heap.size)) λa b=>⟨oM,oM⟩) t.oH) ?_⟩);rintro _ w5 ⟨b2,b4,a0,a1,a2,Y,G,rfl,E,F,H,I,J,K,k,l⟩;have L:=l.get v id;have m:=k.gr;have z5:=l.size;refine⟨_,rfl,175,_,rfl,kR,World×(Nat->Prop),(w5,no),CJ w0 w5 p D λa=>(X a\/a=w.heap.size)\/Y a,λ_ _ _=>False,λ_ _=>True,λn=>n=BH (Hf D),?_,λs pre A B e f=>e.fr m f,λ_ _ _ _ d _=>d,?_,?_,?_,trivial⟩
 ·intro M o s6
  exact⟨(k.add o (Y:=λa=>w5.heap.size<=a/\a<w5.heap.size+2) λa b=>⟨b.1,oM⟩).mono λa b=>b.elim id False.elim,ai.keep o,ai.keep o,λa b=>b.elim⟩
 ·intro s pre A e a7 a8 _
  refine⟨aj.refl _,λa9 f=>?_⟩;obtain⟨g,i,x,y⟩:=e.fr m f;refine⟨_,ae (i.get L λc=>c (.inl (.inr rfl))) rfl,PC.ok g.delete ?_⟩;rintro _ b0 ⟨rfl,N,q⟩;refine⟨_,rfl,q.mono λa _ c=>⟨λO=>c (.inl (.inr ⟨oM,oM⟩)),λO=>c (.inl (.inr ⟨oM,oM⟩))⟩,?_⟩;show CJ _ _ _ _ _ _ _ _;refine⟨by rw [Ph];exact N,i.new q λa c=>.inl λh=>c (.inl (.inl h)),x.new q λa c=>.inl λh=>c (.inr h),y⟩
 ·intro P Rx Q _ R S M T z
  refine Calls.mono (Je (R:=P) t k.lt E (.inr I) F (.inr J) H (λa b=>.inr (K a b)) Q (λs pre U A e V f=>(S s pre U A e V f trivial).mono ?_) T z (R _ z)) ?_
  ·rintro a W (d|⟨-,a3,d,-⟩)
   ·exact d
   ·exact d.elim
  ·rintro _ W ⟨j,rfl,Z,s,r⟩
   exact⟨⟨j,rfl⟩,.inl ⟨Z,s,_,r,rfl⟩⟩
 ·rintro s _ A ⟨g,i,x,y⟩ rfl hm
  refine⟨hm,λb1 ⟨C,a5⟩=>Ok.mk ⟨rfl,?_,?_⟩⟩
  ·rw [Fz]at g
   exact(g.fr C (λa b=>⟨.inl (.inr ⟨oM,oM⟩),by have:=m.size;omega⟩) λa b=>⟨.inl b,by rw [a5];exact g.lt a b⟩).mono λa b=>.inl (.inl (.inl (.inl b)))
  ·exact aj.new (aj.new (ai.keep (u.then l)) i λa c=>.inl λh=>c (.inl (.inl h))) C λa b=>.inr oM
end
def LN:fS:=⟨[(2,[(10,QH 0)])],[],[],[],[]⟩
theorem LO (k:(∃h:Nat->Int->World->Prop,(∃g,h g 0 b)/\∀(g:Nat) (f:Int) (t:Nat->Value) (i:World),h g f i->al (decide (f<(a:Int))) ((ix_ d f a λl n=>PS i (ad l (n+Int.toNat f*5+1)) (.ii e) λo=>(ix_ d f a λp q=>PS o (ad p (q+Int.toNat f*5+2)) (.ii m) λr=>(∃j,j<g/\h j (IntKind.wrap .i64 (f+1)) r)))) (rt s ((.slice d a c)) i))):Calls ZQ 110 #[.ii e,.ii m,.slice d a c] b s:=DC LN Tryz.func110 rfl k
def Cd:fS:=⟨[(2,[(7,QH 0)]),(5,[(8,QH 0)]),(10,[(9,QH 0)])],[],[],[],[]⟩
theorem Ce (B:PA b (.cells #[.slice a9 a c,.slice g7 i l] 25) λD=>(∃o:Nat->Int->World->Prop,(∃h,o h (-1) D)/\∀(h:Nat) (f:Int) (Z:Nat->Value) (j:World),o h f j->(rS j (ab_ b 0) λa4 C a5=>al (decide (f<=(C:Int))) ((∃q:Nat->Int->World->Prop,(∃k,q k 0 j)/\∀(k:Nat) (e:Int) (a6:Nat->Value) (r:World),q k e r->al (decide (e<4)) (PC_ 31 #[.pointer d,.ii f,.ii e] r (kX_ 46 λE G=>PC_ 31 #[.pointer p,.ii f,.ii e] G (kX_ 46 λF H=>PC_ 47 #[E,F] H (kB λI u=>al (!I) (rt s ((.bool false)) u) (PC_ 48 #[.pointer d,.ii f,.ii e,.ii e] u (kX_ 46 λJ K=>PC_ 48 #[.pointer p,.ii f,.ii e,.ii e] K (kX_ 46 λL M=>PC_ 47 #[J,L] M (kB λN v=>al (!N) (rt s ((.bool false)) v) ((∃w,w<k/\q w (IntKind.wrap .i64 (e+1)) v))) (pE s)) (pE s)) (pE s))) (pE s)) (pE s)) (pE s)) ((∃x,x<h/\o x (IntKind.wrap .i64 (f+1)) r)))) ((∃t:Nat->Int->World->Prop,(∃m,t m (-1) j)/\∀(m:Nat) (g:Int) (a7:Nat->Value) (n:World),t m g n->(rS n (ab_ b (0+1)) λa8 O a0=>al (decide (g<=(O:Int))) (PC_ 49 #[.pointer d,.ii g,.ii (-9223372036854775808)] n (kX_ 46 λP Q=>PC_ 49 #[.pointer p,.ii g,.ii (-9223372036854775808)] Q (kX_ 46 λR S=>PC_ 47 #[P,R] S (kB λT y=>al (!T) (rt s ((.bool false)) y) (PC_ 49 #[.pointer d,.ii g,.ii 2] y (kX_ 46 λU V=>PC_ 49 #[.pointer p,.ii g,.ii 2] V (kX_ 46 λW X=>PC_ 47 #[U,W] X (kB λY z=>al (!Y) (rt s ((.bool false)) z) ((∃A,A<m/\t A (IntKind.wrap .i64 (g+1)) z))) (pE s)) (pE s)) (pE s))) (pE s)) (pE s)) (pE s)) (rt s ((.bool true)) n))))))):Calls ZQ 21 #[.pointer d,.pointer p,.agg #[.slice a9 a c,.slice g7 i l]] b s:=DC Cd Tryz.func21 rfl B
def yr:fS:=⟨[(13,[(68,QH 0)])],[(11,[]),(20,[(25,.pointer (some ⟨0,0,none⟩)),(26,QH 0)])],[19],[],[(19,⟨[0,0,0,4,0,24,0,96,171,256,512,512,0,6143,16383],[32767,32767,32767,32763,32767,32751,32767,32671,32628,32511,32255,32255,32767,27647,30719],[1,0,0,2,0,2,0,0,2,0,0,0,2,2,0]⟩)]⟩
theorem yt {r g X Y Z a4 a5 a6 a7:Int} (a1:PA b (.cells #[.slice d a c,.slice p i l] 25) λf=>PA f (.cells #[.ii X,.ii Y,.ii Z,.ii a4,.ii a5,.ii a6,.ii a7] 49) λh=>PA h (.cells #[.ii 0,.ii 0,.ii 0,.slice none 0 0,.ii 0,.ii 0,.ii 0,.ii 0,.ii 0,.ii 0] 59) λv=>(∃a8 a0 b0 b1 b2 b3,v.cell? (ab_ b 0)=some (.slice a8 a0 b0)/\v.cell? (ab_ b (0+1))=some (.slice b1 b2 b3)/\(Ld 49 (ab_ f 0) v λf2=>PC_ 82 #[.agg #[.slice a8 a0 b0,.slice b1 b2 b3],f2] v (kI_ λb4 A=>al (b4 !=0) (St 59 (ab_ h 0) (.agg #[.ii 0,.ii 0,.ii 0,.slice none 0 0,.ii 0,.ii 0,.ii 0,.ii 0,.ii 0,.ii 0]) A λb5=>(Ld 59 (ab_ h 0) b5 λf3=>rt s ((.tuple #[f3,.bool false,.ii b4])) b5)) ((rI A (ab_ f (0+6)) λf4=>PC_ 83 #[.pointer a9,.ii f4] A (λf5 B=>yY (fe ZQ 59) λb6=>∃b7,f5= .tuple #[b6,.bool b7]/\PA B (.cells #[.ii 0,.ii 0,.ii 0,.slice none 0 0,.ii 0,.ii 0,.ii 0,.ii 0,.ii 0,.ii 0] 59) λf6=>St 59 (ab_ B 0) b6 f6 λj=>al b7 ((Ld 59 (ab_ B 0) j λf7=>St 59 (ab_ h 0) f7 j λb8=>(Ld 59 (ab_ h 0) b8 λf8=>rt s ((.tuple #[f8,.bool false,.ii 0])) b8))) ((rS j (ab_ b 0) λf9 g0 j1=>(rI j (ab_ f 0) λb9=>(ix_ f9 b9 g0 λg1 g2=>(rS j (ad g1 (g2+Int.toNat b9)) λg3 g4 g5=>PA j (.cells #[.slice none 0 0] 130) λg6=>PS g6 (ab_ j 0) (.slice g3 g4 g5) λC=>(rI C (ab_ f 0) λa2=>(rI C (ab_ f (0+1)) λg8=>PC_ 84 #[.pointer g7,.ii a2,.ii g8] C (λg9 o=>∃c0 c1 c2 c3 c4,g9= .tuple #[.agg #[.ii c0,.slice c1 c2 c3],.bool c4]/\PA o (.cells #[.ii 0,.slice none 0 0] 42) λh0=>PS h0 (ab_ o 0) (.ii c0) λh1=>PS h1 (ab_ o (0+1)) (.slice c1 c2 c3) λE=>(∃F:World->Prop,(al (!c4) ((rS E (ab_ j 0) λh2 h3 h4=>PC_ 85 #[.agg #[.slice h2 h3 h4]] E (kS_ λh5 h6 h7 h8=>PS h8 (ab_ o (0+1)) (.slice h5 h6 h7) λh9=>F h9) (pE s))) (F E))/\∀(j2:Nat->Value) (H:World),F H->PA H (.cells #[.func (.func 86) #[] #[.pointer (some (ab_ f 0)),.pointer (some (ab_ o 0))],.func (.func 87) #[] #[.pointer (some (ab_ j 0)),.pointer (some (ab_ o 0)),.pointer (some (ab_ f 0))]] 75) λi0=>(∃I:Nat->Int->World->Prop,(∃w,I w 0 i0)/\∀(w:Nat) (q:Int) (j3:Nat->Value) (x:World),I w q x->al (decide (q<(2:Int))) ((∃c5 c6,((some (ab_ H 0)):Option Addr)=some ⟨c5,c6,none⟩/\(0:Int)<=q/\q<(2:Int)/\(∃(c7:Value),x.cell? (ad c5 (c6+Int.toNat q))=some c7/\(∃J c8 d0,(c7:Value)= .func (.func J) c8 d0/\enters ZQ J=true/\PC_ J (c8++ #[]++d0) x (kI_ λd1 d2=>al (d1 !=0) (St 59 (ab_ h 0) (.agg #[.ii 0,.ii 0,.ii 0,.slice none 0 0,.ii 0,.ii 0,.ii 0,.ii 0,.ii 0,.ii 0]) d2 λd3=>(Ld 59 (ab_ h 0) d3 λi1=>rt s ((.tuple #[i1,.bool false,.ii d1])) d3)) ((∃d4,d4<w/\I d4 (IntKind.wrap .i64 (q+1)) d2))) (pE s))))) ((∃t:Nat->Nat->Int->World->Prop,((∀k,bE x k->∃e:Nat->Prop,(¬e f.heap.size/\(Ld 49 (ab_ f 0) k λy=>((PC_ 46 #[.pointer a9] k (kS_ λD K L m=>(aj e k m/\((PC_ 90 #[.pointer a9] m (kI_ λz n=>(aj e m n/\((PC_ 89 #[y,.ii r,.slice D K L,.ii (if g>z then g else z)] n (λi2 u=>yY (fe ZQ 59) λd5=>∃d6,i2= .tuple #[d5,.ii d6]/\(aj e n u/\PA u (.cells #[.ii 0,.ii 0,.ii 0,.slice none 0 0,.ii 0,.ii 0,.ii 0,.ii 0,.ii 0,.ii 0] 59) λG=>(aj e u G/\St 59 (ab_ u 0) d5 G λd7=>(aj e G d7/\t u.heap.size 0 d6 d7)))) (pZ s))/\(PA n (.cells #[.ii 0,.ii 0,.ii 0,.slice none 0 0,.ii 0,.ii 0,.ii 0,.ii 0,.ii 0,.ii 0] 59) λM=>(aj e n M/\PC_ 89 #[y,.ii r,.slice D K L,.ii (if g>z then g else z)] M (λi3 N=>yY (fe ZQ 59) λd8=>∃d9,i3= .tuple #[d8,.ii d9]/\(aj e M N/\St 59 (ab_ n 0) d8 N λe0=>(aj e N e0/\t n.heap.size 0 d9 e0))) (pZ s)))))) (pZ s))/\(PA m (.cells #[.ii 0,.ii 0,.ii 0,.slice none 0 0,.ii 0,.ii 0,.ii 0,.ii 0,.ii 0,.ii 0] 59) λO=>(aj e m O/\PC_ 90 #[.pointer a9] O (kI_ λe1 P=>(aj e O P/\PC_ 89 #[y,.ii r,.slice D K L,.ii (if g>e1 then g else e1)] P (λi4 Q=>yY (fe ZQ 59) λe2=>∃e3,i4= .tuple #[e2,.ii e3]/\(aj e P Q/\St 59 (ab_ m 0) e2 Q λe4=>(aj e Q e4/\t m.heap.size 0 e3 e4))) (pZ s))) (pZ s)))))) (pZ s))/\(PA k (.cells #[.ii 0,.ii 0,.ii 0,.slice none 0 0,.ii 0,.ii 0,.ii 0,.ii 0,.ii 0,.ii 0] 59) λR=>(aj e k R/\PC_ 46 #[.pointer a9] R (kS_ λi5 i6 i7 S=>(aj e R S/\PC_ 90 #[.pointer a9] S (kI_ λe5 T=>(aj e S T/\PC_ 89 #[y,.ii r,.slice i5 i6 i7,.ii (if g>e5 then g else e5)] T (λi8 U=>yY (fe ZQ 59) λe6=>∃e7,i8= .tuple #[e6,.ii e7]/\(aj e T U/\St 59 (ab_ k 0) e6 U λe8=>(aj e U e8/\t k.heap.size 0 e7 e8))) (pZ s))) (pZ s))) (pZ s))))))))/\∀(e9:Nat) (f0:Nat) (V:Int) (j4:Nat->Value) (W:World),t e9 f0 V W->(Ld 59 (ad e9 f0) W λi9=>St 59 (ab_ h 0) i9 W λf1=>(Ld 59 (ab_ h 0) f1 λj0=>rt s ((.tuple #[j0,.bool (V==0),.ii V])) f1))))))) (pE s))))))))) (pE s)))) (pE s)))):Calls ZQ 42 #[.agg #[.slice d a c,.slice p i l],.pointer a9,.pointer g7,.ii r,.ii g,.agg #[.ii X,.ii Y,.ii Z,.ii a4,.ii a5,.ii a6,.ii a7]] b s:=DC yr Tryz.func42 rfl a1
def Ch:fS:=⟨[],[(3,[]),(7,[(9,.slice none 0 0)]),(11,[(9,.slice none 0 0)])],[],[],[]⟩
theorem Ci {x y D z:Nat} (R:PA b (.cells #[.ii m,.ii F,.ii V,.slice p x y,.slice a9 D z] 67) λc=>(∃l:World->Prop,((rI c (ab_ b 0) λS=>al (S !=1) ((rI c (ab_ b 0) λT=>al (T !=2) (rt s ((.slice none 0 0)) c) (l c))) (l c)))/\∀(d8:Nat->Value) (n:World),l n->(∃o:Option Addr->Nat->Nat->World->Prop,((rS n (ab_ b (0+3)) λU W X=>PC_ 55 #[.pointer d,.slice U W X,.ii (if(if 32<b2 then 32 else b2)>1 then(if 32<b2 then 32 else b2)else 1)] n (kS_ λY A Z q=>al (decide ((A:Int)>0)) (PA q (.cells #[.ii 3,.ii 0,.ii 0,.slice none 0 0,.slice Y A Z] 67) λa3=>PR_ (ap_ 63 (.slice none 0 0) (.slice (some (ab_ q 0)) 1 1)) a3 (kS_ λa4 a5 a6 a7=>o a4 a5 a6 a7) (pV s)) (o none 0 0 q)) (pE s)))/\∀(f:Option Addr) (g:Nat) (h:Nat) (d9:Nat->Value) (G:World),o f g h G->PC_ 46 #[.pointer d] G (kS_ λr t u B=>(∃i:Option Addr->Nat->Nat->World->Prop,((rS B (ab_ b (0+3)) λa8 a0 b0=>PC_ 109 #[.slice a8 a0 b0,.slice r t u] B (kI_ λC a=>(rI a (ab_ b 0) λb1=>al (b1==1) (al (C==2) (PA a (.cells #[.ii 2,.ii 0,.ii 0,.slice r t u,.slice none 0 0] 67) λa1=>PR_ (ap_ 63 (.slice f g h) (.slice (some (ab_ a 0)) 1 1)) a1 (kS_ λb3 b4 b5 b6=>i b3 b4 b5 b6) (pV s)) (al (C==3) (PA a (.cells #[.ii 2,.ii 0,.ii 0,.slice r t u,.slice none 0 0] 67) λb7=>PR_ (ap_ 63 (.slice f g h) (.slice (some (ab_ a 0)) 1 1)) b7 (kS_ λb8 b9 c0 c1=>i b8 b9 c0 c1) (pV s)) (i f g h a))) (i f g h a))) (pE s)))/\∀(v:Option Addr) (k:Nat) (w:Nat) (e0:Nat->Value) (j:World),i v k w j->al ((k:Int)==0) ((rI j (ab_ b (0+1)) λc2=>PC_ 107 #[.pointer d,.ii e,.ii c2] j (λc3 E=>∃H I J K L M N O P,c3= .agg #[.ii H,.ii I,.ii J,.slice K L M,.slice N O P]/\PA E (.cells #[.ii H,.ii I,.ii J,.slice K L M,.slice N O P] 67) λc4=>PR_ (ap_ 63 (.slice v k w) (.slice (some (ab_ E 0)) 1 1)) c4 (kS_ λc5 c6 c7 Q=>(rI Q (ab_ b (0+1)) λc8=>PC_ 110 #[.ii e,.ii c8,.slice c5 c6 c7] Q (kS_ λc9 d0 d1 d2=>rt s ((.slice c9 d0 d1)) d2) (pE s))) (pV s)) (pE s))) ((rI j (ab_ b (0+1)) λd3=>PC_ 110 #[.ii e,.ii d3,.slice v k w] j (kS_ λd4 d5 d6 d7=>rt s ((.slice d4 d5 d6)) d7) (pE s))))) (pE s)))):Calls ZQ 54 #[.pointer d,.ii e,.agg #[.ii m,.ii F,.ii V,.slice p x y,.slice a9 D z],.ii b2] b s:=DC Ch Tryz.func54 rfl R
def qx:fS:=⟨[(7,[(11,QH 0)]),(22,[(16,QH 0)])],[(17,[(2,QH 0)])],[],[],[]⟩
theorem qy {J D K L G M N O r P:Int} (a1:PA b (.cells #[.ii J,.ii D,.ii K,.ii L,.ii G,.ii M,.ii N,.ii O,.slice d a c,.slice p i l] 28) λQ=>(Ld 28 (ab_ b 0) Q λb2=>PC_ 10 #[b2,.slice a9 E b5] Q (kB λb3 k=>al b3 (PC_ 11 #[] k (kB λb4 a2=>rt s ((.bool b4)) a2) (pE s)) ((rI k (ab_ b 0) λb6=>al (decide (b6<2)) (PC_ 11 #[] k (kB λb7 b8=>rt s ((.bool b7)) b8) (pE s)) ((Ld 28 (ab_ b 0) k λb9=>PC_ 13 #[b9] k (kX_ 28 λc0 c1=>PC_ 12 #[c0,.ii r] c1 (λd0 R=>∃m S,d0= .tuple #[.pointer m,.ii S]/\al (S !=0) (PC_ 11 #[] R (kB λd1 d2=>rt s ((.bool d1)) d2) (pE s)) ((∃z:Nat->Int->World->Prop,(∃t,z t 0 R)/\∀(t:Nat) (n:Int) (h7:Nat->Value) (o:World),z t n o->al (decide (n<(E:Int))) ((ix_ a9 n E λd3 d4=>(Ld 72 (ad d3 (d4+Int.toNat n*15)) o λd5=>PC_ 24 #[.pointer m,d5] o (kI_ λh8 d6=>(∃T,T<t/\z T (IntKind.wrap .i64 (n+1)) d6)) (pE s)))) ((Ld 28 (ab_ b 0) o λd7=>PC_ 13 #[d7] o (kX_ 28 λd8 g=>PA g (.cells #[.ii 0,.ii 0,.ii 0,.ii 0,.ii 0,.ii 0,.ii 0,.ii 0,.slice none 0 0,.slice none 0 0] 28) λd9=>St 28 (ab_ g 0) d8 d9 λe0=>PS e0 (ab_ g (0+1)) (.ii 262144) λe1=>PS e1 (ab_ g (0+2)) (.ii 131072) λe2=>PS e2 (ab_ g (0+6)) (.ii 3) λU=>(rI U (ab_ b 0) λe3=>PC_ 9 #[.ii P,.ii e3] U (kI_ λA B=>(∃C:Int->World->Prop,(al (A==r) ((rI B (ab_ b 0) λe4=>PR_ (eq_ .rem 3 (.tmp 63) (.tmp 65) (.ii (IntKind.wrap .i64 (A+1))) (.ii e4)) B (kI_ λe5 e6=>C e5 e6) (pV s))) (C A B))/\∀(F:Int) (h9:Nat->Value) (H:World),C F H->(Ld 28 (ab_ g 0) H λe7=>PC_ 12 #[e7,.ii F] H (λe8 V=>∃h W,e8= .tuple #[.pointer h,.ii W]/\al (W !=0) (rt s ((.bool false)) V) (PR_ (eq_ .eql 33 (.tmp 76) (.const (.pointer none)) (.pointer h) (.pointer none)) V (kB λe9 X=>al e9 (rt s ((.bool false)) X) (PC_ 15 #[.pointer m] X (kS_ λY f u f0=>(∃I:Nat->Int->World->Prop,(∃v,I v 0 f0)/\∀(v:Nat) (e:Int) (i0:Nat->Value) (w:World),I v e w->al (decide (e<(f:Int))) ((rI w (ab_ b (0+3)) λj=>((0:Int)<=e/\(e:Int)<=(if(IntKind.wrap .i64 (e+j))<(f:Int)then(IntKind.wrap .i64 (e+j))else(f:Int))/\((if(IntKind.wrap .i64 (e+j))<(f:Int)then(IntKind.wrap .i64 (e+j))else(f:Int)):Int)<=(u:Int)/\PC_ 23 #[.pointer h,.agg #[.ii 3,.ii r,.ii F,.slice none 0 0,.slice (cM Y (Int.toNat e) u 10) (Int.toNat (if(IntKind.wrap .i64 (e+j))<(f:Int)then(IntKind.wrap .i64 (e+j))else(f:Int))-Int.toNat e) (u-Int.toNat e)]] w (λf1 q=>∃f2 f3 f4 x,f1= .tuple #[.slice f2 f3 f4,.ii x]/\al (x==12) (PC_ 11 #[] q (kB λf5 f6=>rt s ((.bool f5)) f6) (pE s)) (al (x==3) (PC_ 11 #[] q (kB λf7 f8=>rt s ((.bool f7)) f8) (pE s)) (al (x !=0) (rt s ((.bool false)) q) ((rI q (ab_ b (0+3)) λf9=>(∃Z,Z<v/\I Z (IntKind.wrap .i64 (e+f9)) q)))))) (pE s)))) (PC_ 15 #[.pointer h] w (kS_ λg0 g1 g2 g3=>PC_ 17 #[.slice g0 g1 g2,.slice Y f u] g3 (kB λg4 a4=>al g4 (PC_ 19 #[.pointer m] a4 (kS_ λg5 g6 g7 g8=>PC_ 19 #[.pointer h] g8 (kS_ λg9 h0 h1 h2=>PC_ 18 #[.slice g5 g6 g7,.slice g9 h0 h1] h2 (kB λh3 y=>al h3 ((∃a5 a6 a7 a8 a0 b0,y.cell? (ab_ b (0+8))=some (.slice a5 a6 a7)/\y.cell? (ab_ b (0+8+1))=some (.slice a8 a0 b0)/\PC_ 21 #[.pointer m,.pointer h,.agg #[.slice a5 a6 a7,.slice a8 a0 b0]] y (kB λh4 b1=>al h4 (PC_ 11 #[] b1 (kB λh5 h6=>rt s ((.bool h5)) h6) (pE s)) (rt s ((.bool false)) b1)) (pE s))) (rt s ((.bool false)) y)) (pE s)) (pE s)) (pE s)) (rt s ((.bool false)) a4)) (pE s)) (pE s)))) (pE s))) (pV s))) (pE s)))) (pE s))) (pE s)))))) (pE s)) (pE s)))))) (pE s))):Calls ZQ 6 #[.agg #[.ii J,.ii D,.ii K,.ii L,.ii G,.ii M,.ii N,.ii O,.slice d a c,.slice p i l],.ii r,.ii P,.slice a9 E b5] b s:=DC qx Tryz.func6 rfl a1
def uW:fS:=⟨[],[],[],[],[]⟩
theorem uX (d:(rI b (ad a (c+5)) λe=>al (e==(-1)) (rt s ((.ii 0)) b) ((rI b (ad a (c+5)) λf=>(rI b (ad i l) λg=>al (f==g) (rt s ((.ii 0)) b) (rt s ((.ii 11)) b)))))):Calls ZQ 86 #[.pointer (some ⟨a,c,none⟩),.pointer (some ⟨i,l,none⟩)] b s:=DC uW Tryz.func86 rfl d
def uY:fS:=⟨[],[],[],[],[]⟩
theorem uZ (d:(rS b (ad a c) λe f g=>(rS b (ad i (l+1)) λh j k=>(rI b (ad E (b5+2)) λm=>(rI b (ad E (b5+3)) λn=>(rI b (ad E (b5+4)) λo=>PC_ 88 #[.agg #[.slice e f g],.slice h j k,.ii m,.ii n,.ii o] b (kI_ λp q=>rt s ((.ii p)) q) (pE s))))))):Calls ZQ 87 #[.pointer (some ⟨a,c,none⟩),.pointer (some ⟨i,l,none⟩),.pointer (some ⟨E,b5,none⟩)] b s:=DC uY Tryz.func87 rfl d
def dY (D:ak) (a:Int):cY:=⟨a,[],0,iq D⟩
def told (D:ak):List Int:=(dR D).getD []
def gj (b:Nat) (a:oT):oT:=
 if a.no≠0 then a else
 if a.V.aX=[]then⟨(aG a.V a.D).1,a.out,(aG a.V a.D).2.1,(aG a.V a.D).2.2⟩else
 if a.V.aX.length<b then⟨(bJ a.D a.V.aX).1,a.out,a.V,(bJ a.D a.V.aX).2⟩else a
def aM (D:ak) (a:Int):oT:=gj (told D).length (cZ (told D) [] (dY D a) D)
def UE (g d:World) (h:Nat) (e:Nat->Prop) (a:oT) (i:Value) (b:World):Prop:=
 (a.no≠0/\i= .tuple #[.pointer none,.slice none 0 0,QH a.no]/\bf g b h a.D e/\aj (et e) d b)\/
 (a.no=0/\∃f j k l G,i= .tuple #[.pointer (some ⟨f,0,none⟩),.slice j k l,QH 0]/\aV qz 59 G b j k l a.out/\cQ g b h f a.V a.D (λc=>e c\/G c)/\aj (et e) d b/\(∀c,G c->d.heap.size<=c)/\d.heap.size<=f/\a.out.length<=16777216)
theorem Jp {D:ak} {size:Int} (t:Laid b) (j:bf b k a D f):
  Calls ZQ 74 #[.pointer (some ⟨a,0,none⟩),QH size] k (Ok (UE b k a f (aM D size))):=by
 have S:∀c,f c->c<k.heap.size:=by obtain⟨a0,h1,h2,h3,h4⟩:=j;exact h4
 have d0:=j.gr.size;obtain⟨a0,hF,-,-,-⟩:=id j;refine Ew (PC.ok (JY (t.af j.gr) hF) ?_);rintro _ g ⟨rfl,H⟩;have T:=j.af H;have d1:=sI D.list;refine⟨_,rfl,PA.mk λw2 U s2 g2=>PC.ok ((T.af U).iK t.oH) ?_⟩;rintro _ u ⟨y,z,V,A,rfl,W,X,-,I⟩;have z1:=H.size;have z3:=I.size
 change aV aP 3 A u y z V (told D)at W
 have d2:(told D).length<=64:=FB;have b4:ai g u:=U.then I;refine⟨_,_,_,_,rfl,PA.mk λw4 k4 s4 g4=>PS.mk g4 sM λm k5 s5 Y=>⟨_,_,_,ae Y rfl,?_⟩⟩;have b5:m.heap[u.heap.size]? =some (.cells #[.slice y z V] 230 (0,0)):=Y;have J:ai u m:=k4.new k5 λc d=>.inr oM;have Z:ai g m:=b4.then J;have a8:ai k m:=H.then Z;have b6:=J.get (I.get g2 id) id;have a9:=W.af J
 let K:Nat->Prop:=λc=>f c\/(A c\/c=u.heap.size)
 have b7:cQ b m a g.heap.size (dY D size) D K:=by
  refine⟨(·=g.heap.size),T.fr Z (Y:=λ_=>False) (λc d=>d.elim) λc d=>?_,⟨⟨none,0,0,λ_=>False,b6,aV.nil m,λ_ j=>j.elim⟩,rfl,λc d=>oM,Qj _,?_⟩,λc d=>⟨oM,λE=>?_⟩⟩
  ·rcases d with(d|d|d)|d
   ·exact⟨.inl d,by have:=S c d;omega⟩
   ·exact⟨.inr (by have:=X c d;omega),a9.aF c d⟩
   ·exact⟨.inr oM,oM⟩
   ·exact⟨.inr oM,oM⟩
  ·show aN (tX D.list);unfold aN;omega
  ·subst d
   rcases E with E|E|E
   ·have:=S _ E;omega
   ·have:=X _ E;omega
   ·omega
 have L:Row aP 8 m A y z (told D):=a9.row dC (by unfold aQ;omega);refine PC.ok (SH t b7 L (λc d=>.inr (.inl d)) (by show 0+_<=_;omega)) ?_;rintro _ M ⟨a6,n6,c6,n,rfl,B,v,N,b8,b0⟩;have z5:=a8.size;have hq:k.heap.size<=g.heap.size:=z1;have O:aj (et f) k M:=(ai.keep a8).then (N.mono λc _ d E=>d (.inl E));have g6:=N.get b5 λl=>l (.inr (.inr rfl));have b9:Row aP 8 M A y z (told D):=L.keep N λc d l=>l (.inr (.inl d));have d3:=L.len;show _;unfold aM;generalize cZ (told D) [] (dY D size) D=h at B v b0;have b1:∀c,n c->k.heap.size<=c:=λc d=>by have:=b8 c d;omega
 refine⟨_,_,_,_,rfl,λno o=>∃p q,gj (told D).length h=⟨no,h.out,p,q⟩/\aV qz 59 n o a6 n6 c6 h.out/\cQ b o a g.heap.size p q (λc=>f c\/n c)/\aj (et f) k o,?_,?_⟩
 ·have e:∀{o p q},cQ b o a g.heap.size p q (λc=>K c\/n c)->cQ b o a g.heap.size p q (λc=>f c\/n c):=λj=>j.mono λc d=>d.imp .inl id
  refine al.dw (λr=>⟨h.V,h.D,by unfold gj;rw [if_pos r],B,e v,O⟩) (λw=>?_);obtain⟨GL,c0,b2,c1⟩:=id v;obtain⟨aL,nL,cL,EL,P,b3,c2,c4⟩:=b2.row;refine⟨_,_,rfl,_,_,_,ae P rfl,al.dX (λhz=>?_) (λc5=>?_)⟩
  ·have Q:h.V.aX=[]:=QW oM
   refine PC.ok (Gi t v) ?_;rintro _ C ⟨rfl,s,i⟩;exact⟨_,rfl,_,_,by unfold gj;rw [if_neg (by simpa using w),if_pos Q],B.keep i λc d l=>l (.inr d),e s,O.then (i.mono λc _ d E=>d (.inl (.inl E)))⟩
  ·have r:¬h.V.aX=[]:=λa1=>c5 (by rw [c4,a1];rfl)
   refine⟨_,_,rfl,_,_,_,ae P rfl,_,_,_,ae g6 rfl,λC d7=>?_⟩;have i:ai M C:=d7.keep;have s:=v.af i;have F:=B.af i;have x:aj (et f) k C:=O.af i;refine al.dec (λd4=>?_) (λd5=>⟨_,_,by unfold gj;rw [if_neg (by simpa using w),if_neg r,if_neg oM],F,e s,x⟩);have c7:=i.get P id;refine⟨_,_,rfl,_,_,_,ae c7 rfl,PC.ok ((c0.af i).bJ t.oH (b3.af i) (Ow b3) λc d=>.inr (.inr (c2 c d).1)) ?_⟩;rintro _ w8 ⟨rfl,c8,R⟩;have c9:cQ b w8 a g.heap.size h.V (bJ h.D h.V.aX).2 (λc=>K c\/n c):=⟨GL,c8,(b2.af i).keep R λc d l=>l (.inr d),c1⟩
   exact⟨_,rfl,_,_,by unfold gj;rw [if_neg (by simpa using w),if_neg r,if_pos oM],F.keep R λc d l=>l (.inl (.inr d)),e c9,x.then (R.mono λc _ d E=>d (.inl (.inl (.inl E))))⟩
 ·rintro no _ C ⟨p,q,Q,F,s,x⟩
  rw [Q];refine al.dw (λr=>Ok.mk (.inl ⟨r,rfl,s.nY.mono λc d=>.inl d,x⟩)) (λw=>Ok.mk (.inr ⟨w,g.heap.size,a6,n6,c6,n,by rfl,F,s,x,b1,hq,b0⟩))
def eD (a:ah):Bool:=decide (64<a.aK.length)
def az (b:cY) (D:ak) (c:List ah):Int×cY×ak:=
 if c.any eD then(3,b,D)else if c=[]then(0,b,D)else
 let a:=if b.size<=b.bytes then aG b D else(0,b,D)
 if a.1≠0 then a else
 let d:=a.2.2.append a.2.1.last (ar c)
 if d.1≠0 then(d.1,a.2.1,d.2)else(0,⟨a.2.1.size,a.2.1.aX,IntKind.wrap .i64 (a.2.1.bytes+((ar c).length:Nat)),a.2.1.next⟩,d.2)
theorem tY {D:ak} (a:(aG b1 D).1=0):(aG b1 D).2.1.aX≠[]:=by
 have e:∀b:ak,(m_ b1 b).1=0->(m_ b1 b).2.1.aX≠[]:=by
  intro b;unfold m_;dsimp only;split
  ·rename_i c;intro a;exact absurd a c
  ·split
   ·rename_i c;intro a;exact absurd a c
   ·intro _;simp
 have d:∀b:ak,(bF b1 b).1=0->(bF b1 b).2.1.aX≠[]:=by
  intro b;unfold bF;dsimp only;split
  ·rename_i c;intro a;exact absurd a c
  ·exact e _
 revert a
 unfold aG;dsimp only;split
 ·exact d D
 ·split
  ·rename_i c;intro a;exact absurd a c
  ·exact d _
theorem NW (a:n.Ok) (b:n.aK.length<=64):(nP n).length<=675:=by
 have:=Gg a b;have c:=rk a b;unfold nP at*;rw [fp];omega
theorem oS (a:List ah) (b:ah):ar (a++[b])=ar a++nP b:=by simp [ar]
theorem MG {D:ak} {w b6:Nat} (V:Laid b) (v:cQ b k a c b1 D f) (d0:b1.aX≠[]) (hr:Row fZ 96 k a4 d w C) (d1:∀e,a4 e->e<k.heap.size) (hl:C.length<=20000000):
  Calls ZQ 91 #[.pointer (some ⟨c,0,none⟩),.slice d w b6] k (Ok (Gh b k a c f (az b1 D C))):=by
 have A:=hr.len;have e9:=v.aF;refine tg ⟨λa6 L M W a7 x=>∃(j:Nat) (y:Nat->Prop),a7=j/\j<=w/\a6=w-j/\(∀h∈C.take j,h.Ok/\h.aK.length<=64)/\(ar (C.take j)).length<=675*j/\aV gq 5 y x L M W (ar (C.take j))/\ai k x/\∀e,y e->k.heap.size<=e,
  ⟨_,0,λ_=>False,rfl,Qj _,rfl,sM,by simp [ar],aV.nil k,aj.refl _,λ_ v=>v.elim⟩,?_⟩
 rintro a6 L M W a7 _ X ⟨j,y,rfl,hj,rfl,Z,d4,q,n,hF⟩;have b3:=q.len dC;refine al.dec (λd5=>?_) (λd6=>?_)
 ·obtain⟨e,a0,h,es,rfl,_,_,r,l,c0,n1,c1,rfl,hd,N⟩:=(hr.af n).sS (i:=j) oM
  have o:=λi (hi:i<10)=>l i hi;refine⟨e,a0,rfl,oM,oM,_,_,_,_,_,_,_,_,_,_,_,_,o 0 dC,o 1 dC,o 2 dC,o 3 dC,o 4 dC,o 5 dC,o 6 dC,o 7 dC,o 8 dC,o 9 dC,PA.mk λB E s2 g2=>?_⟩;refine storeAll (aE h c0 n1 c1) g2 rfl λF s s3 p=>?_;have z:ai X F:=E.new s λe g=>.inr oM;refine⟨_,_,_,_,_,_,_,_,_,_,_,_,ae p rfl,ae p rfl,ae p rfl,ae p rfl,ae p rfl,ae p rfl,ae p rfl,ae p rfl,ae p rfl,ae p rfl,?_⟩;refine PC.ok (FC (V.af ((v.gr.then n).then z)) (hd.af z) N λe g=>by have:=d1 e g;have:=(n.then z).size;omega) ?_;rintro _ w4 ⟨c3,n4,f0,F4,rfl,t,u,b4⟩
  by_cases O:h.aK.length<=64
  ·have a8:=rk N O
   rw [a8]at t⊢;have f1:=NW N O;refine⟨_,_,_,_,rfl,al.dw (λl=>absurd rfl l) (λ_=>?_)⟩;have a9:=z.then u;have c4:Row gq 1 w4 F4 c3 n4 (nP h):=t.row (bytes:=1) dC (by unfold aQ;dsimp only;omega);have f2:=a9.size;have f3:=z.size;refine sE (q.af a9) ur c4 (λh=>t.Pq h) (λe g=>⟨t.aF e g,λl=>by have:=q.aF e (q.self e l);have:=b4 e g;omega⟩) (by unfold aQ;omega) (by unfold maxLen;omega) λb5 c5 w5 F5 b0 d7 d8 _=>?_;have a1:C.take (j+1)=C.take j++[h]:=by rw [Qw,r];rfl
   refine⟨_,_,_,rfl,w-(j+1),oM,j+1,F5,an oM,oM,rfl,?_,?_,?_,(n.then a9).new d7 λe g=>.inr (by have:=hF e (q.self e g);omega),?_⟩
   ·rw [a1]
    intro c6 a2;rcases Q6.1 a2 with Y|Y
    ·exact Z c6 Y
    ·simp at Y;subst Y;exact⟨N,O⟩
   ·rw [a1,oS];simp;omega
   ·rw [a1,oS];exact b0
   ·intro e g
    have:=n.size;rcases d8 e g with Y|Y|Y
    ·exact hF e Y
    ·have:=b4 e Y;omega
    ·omega
  ·have a8:=y_ O
   rw [a8]at t⊢;refine⟨_,_,_,_,rfl,al.dw (λ_=>?_) (λl=>absurd l dC)⟩;have d2:C.any eD=true:=List.any_eq_true.2 ⟨h,QZ r,by unfold eD;simp;omega⟩;refine Ok.mk ?_;rw [show az b1 D C=(3,b1,D) by unfold az;rw [if_pos d2]];have b7:=(n.then z).then u;exact⟨rfl,v.af b7,ai.keep b7⟩
 ·obtain rfl:j=w:=oM
  rw [Qz oM]at Z d4 q b3;have b8:C.any eD=false:=by
   rw [<-Bool.not_eq_true];intro l;obtain⟨h,he,h2⟩:=List.any_eq_true.1 l;have:=(Z h he).2;unfold eD at h2;simp at h2;omega
  refine al.dX (λhz=>?_) (λd9=>?_)
  ·have he:C=[]:=QW oM
   refine Ok.mk ?_;rw [show az b1 D C=(0,b1,D) by unfold az;rw [if_neg (by simp [b8]),if_pos he]];exact⟨rfl,v.af n,ai.keep n⟩
  have e0:C≠[]:=λh=>d9 (by rw [A,h];rfl)
  let H:Nat->Prop:=λe=>f e\/y e
  have b9:cQ b X a c b1 D H:=v.add n λe g=>⟨hF e g,q.aF e g⟩
  have d3:az b1 D C=if(if b1.size<=b1.bytes then aG b1 D else(0,b1,D)).1≠0 then(if b1.size<=b1.bytes then aG b1 D else(0,b1,D))else
    if((if b1.size<=b1.bytes then aG b1 D else(0,b1,D)).2.2.append (if b1.size<=b1.bytes then aG b1 D else(0,b1,D)).2.1.last (ar C)).1≠0 then(((if b1.size<=b1.bytes then aG b1 D else(0,b1,D)).2.2.append (if b1.size<=b1.bytes then aG b1 D else(0,b1,D)).2.1.last (ar C)).1,(if b1.size<=b1.bytes then aG b1 D else(0,b1,D)).2.1,((if b1.size<=b1.bytes then aG b1 D else(0,b1,D)).2.2.append (if b1.size<=b1.bytes then aG b1 D else(0,b1,D)).2.1.last (ar C)).2)
    else(0,⟨(if b1.size<=b1.bytes then aG b1 D else(0,b1,D)).2.1.size,(if b1.size<=b1.bytes then aG b1 D else(0,b1,D)).2.1.aX,IntKind.wrap .i64 ((if b1.size<=b1.bytes then aG b1 D else(0,b1,D)).2.1.bytes+((ar C).length:Nat)),(if b1.size<=b1.bytes then aG b1 D else(0,b1,D)).2.1.next⟩,((if b1.size<=b1.bytes then aG b1 D else(0,b1,D)).2.2.append (if b1.size<=b1.bytes then aG b1 D else(0,b1,D)).2.1.last (ar C)).2):=by
   unfold az;rw [if_neg (by simp [b8]),if_neg e0]
  obtain⟨GL,f4,e2,f5⟩:=id b9;obtain⟨aL,nL,cL,EL,gL,f6,f7,g0⟩:=e2.row;rw [d3];refine⟨λx=>∃I P,(if b1.size<=b1.bytes then aG b1 D else(0,b1,D))=(0,I,P)/\I.aX≠[]/\cQ b x a c I P H/\aj (et f) k x/\aV gq 5 y x L M W (ar C),?_,?_⟩
  ·refine⟨c,0,rfl,_,ae gL rfl,c,0,rfl,_,ae gL rfl,λB e1=>?_⟩
   have E:ai X B:=e1.keep;have Q:=b9.af E;have R:=q.af E;have S:aj (et f) k B:=ai.keep (n.then E);refine al.dec (λd6=>?_) (λd5=>⟨b1,D,by rw [if_neg oM],d0,Q,S,R⟩);refine PC.ok (Gi V Q) ?_;rintro _ F ⟨rfl,J,s⟩;have c2:aj (et f) k F:=S.then (s.mono λe _ g r=>g (.inl r));have a3:(if b1.size<=b1.bytes then aG b1 D else(0,b1,D))=aG b1 D:=if_pos oM;rw [a3];refine⟨_,rfl,al.dw (λa5=>?_) (λT=>⟨_,_,by rw [<-T],tY T,J,c2,R.keep s λe g A=>A (.inr g)⟩)⟩;rw [if_pos a5];exact Ok.mk ⟨rfl,J.mono λe g=>.inl g,c2⟩
  ·rintro _ B ⟨I,P,a3,e3,Q,S,R⟩ F e4
   rw [a3];have s:ai B F:=e4.keep;have J:=Q.af s;have e5:=R.af s;obtain⟨G3,e6,U,K⟩:=id J;obtain⟨f8,n3,f9,E3,e7,-,-,-⟩:=U.row;refine⟨λe=>e≠c,c,0,rfl,λhs=>hs rfl,_,ae e7 rfl,PC.ok (JZ (V.af J.gr) U e3) ?_⟩;rintro _ w4 ⟨rfl,u⟩;have t:=e5.af u;have e8:Row gq 1 w4 y L M (ar C):=t.row (bytes:=1) dC (by unfold aQ;omega);refine⟨_,rfl,u.keep,PC.ok ((e6.af u).append e8 (λh=>t.Pq h) λe g=>.inr (.inl (.inr g))) ?_⟩;rintro _ w5 ⟨rfl,b2,k5⟩;have m:=(U.af u).keep k5 λe g A=>A (.inr g);have c7:aj (et f) k w5:=((S.af s).af u).then (k5.mono λe _ g r=>g (.inl (.inl r)));refine⟨_,rfl,k5.mono λe _ g h=>g (.inr (h▸U.self)),?_⟩;rw [if_neg (λl:((0,I,P):Int×cY×ak).1≠0=>l rfl)];refine al.dw (λa5=>?_) (λT=>?_)
   ·rw [if_pos a5]
    exact Ok.mk ⟨rfl,cQ.mono (X:=H) ⟨G3,b2,m,K⟩ λe g=>.inl g,c7⟩
   ·rw [if_neg (by simpa using T)]
    obtain⟨b5,n5,c5,E5,c8,b0,c9⟩:=m.body;refine⟨c,0,rfl,_,ae c8 rfl,c,0,rfl,PS.mk c8 sM λw6 k6 s6 g6=>Ok.mk ⟨rfl,?_,c7.then (k6.mono λe _ g r=>(K e (g▸m.self)).2 (.inl r))⟩⟩;rw [b3]at g6;refine cQ.mono (X:=H) ⟨G3,b2.fr k6 (λe g=>⟨.inr (g▸m.self),(K e (g▸m.self)).1⟩) (λe g=>⟨.inl g,by have:=(g.elim (cQ.aF (X:=H) ⟨G3,b2,m,K⟩ e) (m.aF e):e<w5.heap.size);omega⟩),⟨⟨b5,n5,c5,E5,g6,b0.keep k6 λe g h=>(c9 e g).2 h,c9⟩,m.self,λe g=>by have:=m.aF e g;omega,m.many,m.Cj⟩,K⟩ λe g=>.inl g
def dB (a:List UInt8):bQ:=⟨a,a.length,true⟩
structure bK (D:ak):Prop where
 dead:D.dead=false
 js:D.js=false
section
variable {D E:ak} {k:ByteArray} {l:List Int}
theorem Cq (D:ak) (a:ak->Int×ak):D.op a=(15,D.gone)\/D.op a=a D.di:=by
 unfold ak.op;split
 ·exact .inl rfl
 ·exact .inr rfl
theorem bK.op (b:bK D) (a:ak->Int×ak):D.op a=a D:=by
 unfold ak.op ak.dies ak.di;rw [b.dead,b.js]
 rfl
theorem bK.same (a:bK D) (b:E.dead=D.dead) (c:E.js=D.js):bK E:=⟨b.trans a.dead,c.trans a.js⟩
theorem Jt (a:bQ):a.cut a.bytes.length=dB a.bytes:=by
 have b:gY (a.bytes.length:Int) a.bytes.length=a.bytes.length:=by unfold gY;omega
 simp [bQ.cut,b,dB]
theorem lz (D:ak) (k:ByteArray):((D.create k).1≠0/\(D.create k).2.files=D.files)\/((D.create k).1=0/\dv k=true/\ay D.files k=none/\(D.create k).2.files=aJ D.files k ⟨[],0,false⟩):=by
 unfold ak.create;rcases Cq D λD=>if dv k then(if(ay D.files k).isSome then(16,D)else if 64<=D.files.length then(12,D)else(0,D.eJ k ⟨[],0,false⟩))else(1,D)with h|h
 ·rw [h];exact .inl ⟨sM,rfl⟩
 ·rw [h]
  have a:=eP D;split
  ·rename_i b
   split
   ·exact .inl ⟨sM,a⟩
   ·split
    ·exact .inl ⟨sM,a⟩
    ·rename_i c _
     refine .inr ⟨rfl,b,?_,?_⟩
     ·rw [<-a];simpa using c
     ·show aJ D.di.files k _=_;rw [a]
  ·exact .inl ⟨sM,a⟩
theorem bK.create (a:bK D) (k:ByteArray):bK (D.create k).2/\(dv k=true->ay D.files k=none->(D.create k).1=0\/(D.create k).1=12):=by
 unfold ak.create;rw [a.op];split
 ·split
  ·rename_i e c;exact⟨a,λ_ b=>by rw [b]at c;cases c⟩
  ·split
   ·exact⟨a,λ_ _=>.inr rfl⟩
   ·exact⟨a.same rfl rfl,λ_ _=>.inl rfl⟩
 ·rename_i b;exact⟨a,λd=>absurd d b⟩
theorem wA (D:ak) (k:ByteArray) (a:ak->bQ->Int×ak):((D.op (ak.Cr k a)).1≠0/\(D.op (ak.Cr k a)).2.files=D.files)\/∃b,ay D.files k=some b/\D.op (ak.Cr k a)=a D.di b:=by
 rcases Cq D (ak.Cr k a)with h|h
 ·rw [h];exact .inl ⟨sM,rfl⟩
 ·rw [h]
  unfold ak.Cr;rw [eP];split
  ·exact .inl ⟨sM,eP D⟩
  ·rename_i b c;exact .inr ⟨b,c,rfl⟩
theorem bK.on (b:bK D) (c:ay D.files k=some a1) (a:ak->bQ->Int×ak):D.op (ak.Cr k a)=a D a1:=by
 rw [b.op];unfold ak.Cr;rw [c]
theorem bK.YK (b:bK D) {a:ak->bQ->Int×ak} (c:∀d,bK (a D d).2):bK (D.op (ak.Cr k a)).2:=by
 rw [b.op];unfold ak.Cr;split
 ·exact b
 ·exact c _
theorem lA (D:ak) (k:ByteArray) (b:List UInt8):((D.append k b).1≠0/\(D.append k b).2.files=D.files)\/((D.append k b).1=0/\∃a,ay D.files k=some a/\(D.append k b).2.files=aJ D.files k {a with bytes:=a.bytes++b}):=by
 unfold ak.append;rcases wA D k λD a=>if(b.length:Int)>D.room then(12,D)else(0,D.eJ k {a with bytes:=a.bytes++b})with c|⟨a,d,c⟩
 ·exact .inl c
 ·rw [c]
  split
  ·exact .inl ⟨sM,eP D⟩
  ·exact .inr ⟨rfl,a,d,by show aJ D.di.files k _=_;rw [eP]⟩
theorem bK.append (a:bK D) (k:ByteArray) (b:List UInt8):bK (D.append k b).2/\∀c,ay D.files k=some c->(D.append k b).1=0\/(D.append k b).1=12:=by
 refine⟨?_,λc d=>?_⟩
 ·unfold ak.append
  refine a.YK λc=>?_;split
  ·exact a
  ·exact a.same rfl rfl
 ·unfold ak.append
  rw [a.on d];split
  ·exact .inr rfl
  ·exact .inl rfl
theorem iL (D:ak) (k:ByteArray):((D.sync k).1≠0/\(D.sync k).2.files=D.files)\/((D.sync k).1=0/\∃a,ay D.files k=some a/\(D.sync k).2.files=aJ D.files k (dB a.bytes)):=by
 unfold ak.sync;rcases wA D k λD a=>(0,D.eJ k (a.cut a.bytes.length))with b|⟨a,c,b⟩
 ·exact .inl b
 ·rw [b,Jt];exact .inr ⟨rfl,a,c,by show aJ D.di.files k _=_;rw [eP]⟩
theorem bK.sync (a:bK D) (k:ByteArray):bK (D.sync k).2/\∀b,ay D.files k=some b->(D.sync k).1=0:=by
 refine⟨?_,λb c=>?_⟩
 ·unfold ak.sync;exact a.YK λb=>a.same rfl rfl
 ·unfold ak.sync;rw [a.on c]
theorem jA (D:ak) (k:ByteArray):(D.delete k).2.files=D.files\/(D.delete k).2.files=bV D.files k:=by
 unfold ak.delete;rcases wA D k λD b=>(0,D.wB k)with a|⟨b,c,a⟩
 ·exact .inl a.2
 ·rw [a];exact .inr (by show bV D.di.files k=_;rw [eP])
theorem bK.delete (a:bK D) (k:ByteArray):bK (D.delete k).2/\((D.delete k).2.files=bV D.files k\/(ay D.files k=none/\(D.delete k).2.files=D.files)):=by
 unfold ak.delete;refine⟨a.YK λc=>a.same rfl rfl,?_⟩;rw [a.op];unfold ak.Cr;split
 ·rename_i b;exact .inr ⟨b,rfl⟩
 ·exact .inl rfl
def uz (k:ByteArray) (D E:ak):Prop:=Tidy E.files/\∀a,a≠k->ay E.files a=ay D.files a
theorem uz.refl (a:Tidy D.files):uz k D D:=⟨a,λ_ _=>rfl⟩
theorem uz.of (a:uz k D E) {b:ak} (c:b.files=E.files):uz k D b:=⟨by rw [c];exact a.1,λd e=>by rw [c];exact a.2 d e⟩
theorem uz.put (a:uz k D E) {b:ak} (c:b.files=aJ E.files k a1):uz k D b:=⟨by rw [c];exact a.1.aJ _ _,λe d=>by rw [c,bu,if_neg (by simpa using d)];exact a.2 e d⟩
theorem uz.del (a:uz k D E) {F:ak} (b:F.files=bV E.files k):uz k D F:=⟨by rw [b];exact a.1.bV _,λd c=>by rw [b,gh a.1,if_neg (by simpa using c)];exact a.2 d c⟩
theorem uz.clean (a:uz aS D E):uz aS D (eK E).2:=by
 unfold eK;split
 ·rcases jA E aS with e|e
  ·exact a.of e
  ·exact a.del e
 ·exact a
theorem AW:aS≠cg:=λa=>by have:=tn;rw [a]at this;simp at this
def TX (D:ak) (l:List Int) (a:Int×ak):Prop:=(a.1≠0/\uz aS D a.2)\/
  (a.1=0/\l.length<=64/\Tidy a.2.files/\ay a.2.files cg=some (dB (bW l))/\∀b,b≠aS->b≠cg->ay a.2.files b=ay D.files b)
theorem TX.step {b k:Nat} {r:Int×ak} (g:pK l b E=r) (c:r.1≠0->uz aS D r.2) (j:r.1=0->TX D l (oU l (b+1) k r.2)):TX D l (oU l b (k+1) E):=by
 rw [oU,g];split
 ·rename_i a;exact .inl ⟨a,(c a).clean⟩
 ·rename_i a;exact j (by simpa using a)
theorem Lx (p:Tidy D.files) (l:List Int):TX D l (bJ D l):=by
 unfold bJ;split
 ·exact .inl ⟨sM,uz.refl p⟩
 rename_i A;have j:uz aS D (eK D).2:=(uz.refl p).clean;refine TX.step (r:=eK D) rfl (λ_=>j) λ_=>?_;generalize(eK D).2=f at j;have B:=lz f aS;refine TX.step (r:=f.create aS) rfl (λe=>?_) λv=>?_
 ·rcases B with B|B
  ·exact j.of B.2
  ·exact absurd B.1 e
 rcases B with B|⟨_,_,_,B⟩
 ·exact absurd v B.1
 have m:uz aS D (f.create aS).2:=j.put B;have q:ay (f.create aS).2.files aS=some ⟨[],0,false⟩:=by rw [B,bu];simp
 generalize(f.create aS).2=g at m q;have c:=lA g aS (bW l);refine TX.step (r:=g.append aS (bW l)) rfl (λe=>?_) λw=>?_
 ·rcases c with c|c
  ·exact m.of c.2
  ·exact absurd c.1 e
 rcases c with c|⟨_,k,d,c⟩
 ·exact absurd w c.1
 rw [q]at d;cases d
 have n:uz aS D (g.append aS (bW l)).2:=m.put c;have r:ay (g.append aS (bW l)).2.files aS=some ⟨bW l,0,false⟩:=by rw [c,bu];simp
 generalize(g.append aS (bW l)).2=h at n r;have F:=iL h aS;refine TX.step (r:=h.sync aS) rfl (λe=>?_) λx=>?_
 ·rcases F with F|F
  ·exact n.of F.2
  ·exact absurd F.1 e
 rcases F with F|⟨_,k,d,F⟩
 ·exact absurd x F.1
 rw [r]at d;cases d
 have i:uz aS D (h.sync aS).2:=n.put F;have s:ay (h.sync aS).2.files aS=some (dB (bW l)):=by rw [F,bu];simp
 generalize(h.sync aS).2=a at i s;have b:((a.rename aS cg).1≠0/\(a.rename aS cg).2.files=a.files)\/((a.rename aS cg).1=0/\(a.rename aS cg).2.files=aJ (bV a.files aS) cg (dB (bW l))):=by
  unfold ak.rename;rcases wA a aS λD k=>if dv cg then(0,(D.wB aS).eJ cg {k with jk:=true})else(1,D)with o|⟨k,d,o⟩
  ·exact .inl o
  ·rw [o,if_pos Ju]
   rw [s]at d;cases d
   exact .inr ⟨rfl,by show aJ (bV a.di.files aS) cg _=_;rw [eP];rfl⟩
 refine TX.step (r:=a.rename aS cg) rfl (λe=>?_) λy=>?_
 ·rcases b with b|b
  ·exact i.of b.2
  ·exact absurd b.1 e
 rcases b with b|⟨_,b⟩
 ·exact absurd y b.1
 refine .inr ⟨rfl,oM,?_,?_,λt u z=>?_⟩
 ·show Tidy (a.rename aS cg).2.files;rw [b];exact(i.1.bV _).aJ _ _
 ·show ay (a.rename aS cg).2.files cg=_;rw [b,bu];simp
 ·show ay (a.rename aS cg).2.files t=_
  rw [b,bu,if_neg (by simpa using z),gh i.1,if_neg (by simpa using u)];exact i.2 t u
def TY (a:Int×ak):Prop:=bK a.2/\(a.1=0\/a.1=3\/a.1=12)
theorem bK.clean (a:bK D):bK (eK D).2:=by
 unfold eK;split
 ·exact(a.delete _).1
 ·exact a
theorem LX (c:bK D) (a:Tidy D.files):(eK D).1=0/\ay (eK D).2.files aS=none/\Tidy (eK D).2.files:=by
 unfold eK;split
 ·rename_i b
  obtain⟨f,d⟩:=Option.isSome_iff_exists.1 b;have e:D.delete aS=(0,D.wB aS):=by unfold ak.delete;rw [c.on d]
  rw [e];exact⟨rfl,by show ay (bV _ _) _=_;rw [gh a];simp,a.bV _⟩
 ·rename_i b;exact⟨rfl,by simpa using b,a⟩
theorem TY.step {a k:Nat} {r:Int×ak} (g:pK l a E=r) (b:bK r.2) (j:r.1=0\/r.1=3\/r.1=12) (c:r.1=0->TY (oU l (a+1) k r.2)):TY (oU l a (k+1) E):=by
 rw [oU,g];split
 ·exact⟨b.clean,j⟩
 ·rename_i d;exact c (by simpa using d)
theorem bK.bJ (j:bK D) (t:Tidy D.files) (l:List Int):TY (bJ D l):=by
 unfold Go.Proofs.YtfchlbaidamodaaGreatDoor.bJ;split
 ·exact⟨j,.inr (.inl rfl)⟩
 obtain⟨z1,q,u⟩:=LX j t;have k:=j.clean;refine TY.step (r:=eK D) rfl k (.inl z1) λ_=>?_;generalize(eK D).2=f at k q u;have a:=lz f aS;obtain⟨m,v⟩:=k.create aS;refine TY.step (r:=f.create aS) rfl m ((v TZ q).imp id .inr) λw=>?_;rcases a with a|⟨_,_,_,a⟩
 ·exact absurd w a.1
 have r:ay (f.create aS).2.files aS=some ⟨[],0,false⟩:=by rw [a,bu];simp
 generalize(f.create aS).2=g at m r;have b:=lA g aS (bW l);obtain⟨n,x⟩:=m.append aS (bW l);refine TY.step (r:=g.append aS (bW l)) rfl n ((x _ r).imp id .inr) λy=>?_;rcases b with b|⟨_,c,B,b⟩
 ·exact absurd y b.1
 have h:∃c,ay (g.append aS (bW l)).2.files aS=some c:=by rw [b,bu];simp
 generalize(g.append aS (bW l)).2=i at n h;obtain⟨C,h⟩:=h;have d:=iL i aS;obtain⟨e,z⟩:=n.sync aS;refine TY.step (r:=i.sync aS) rfl e (.inl (z _ h)) λA=>?_;rcases d with d|⟨_,c,E,d⟩
 ·exact absurd A d.1
 have s:ay (i.sync aS).2.files aS=some (dB c.bytes):=by rw [d,bu];simp
 generalize(i.sync aS).2=o at e s;have p:o.rename aS cg=(0,(o.wB aS).eJ cg {dB c.bytes with jk:=true}):=by
  unfold ak.rename;rw [e.on s,if_pos Ju]
 refine TY.step (r:=o.rename aS cg) rfl (by rw [p];exact e.same rfl rfl) (.inl (by rw [p])) λF=>?_;rw [p];exact⟨e.same rfl rfl,.inl rfl⟩
end
end Go.Proofs.YtfchlbaidamodaaGreatDoor

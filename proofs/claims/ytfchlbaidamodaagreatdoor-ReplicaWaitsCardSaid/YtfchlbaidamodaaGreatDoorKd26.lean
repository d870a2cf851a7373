import Derived.Test.YtfchlbaidamodaaGreatDoorKd25
set_option linter.all false
set_option maxRecDepth 100000
namespace Go.Proofs.YtfchlbaidamodaaGreatDoor
open Go.ax
def au (no:Int):ByteArray:=cR (aB no)
structure oT where
 no:Int
 out:List ah
 V:cY
 D:ak
def cZ:List Int->List ah->cY->ak->oT
 |[],a,b,D=>⟨0,a,b,D⟩
 |no::c,a,b,D=>
  if(D.read (au no)).2≠0 then⟨0,a,b,D⟩else
  if(bN (D.read (au no)).1).2<(D.read (au no)).1.length then
   ⟨(D.nT (au no) (bN (D.read (au no)).1).2).1,a++(bN (D.read (au no)).1).1,⟨b.size,b.aX++[no],(bN (D.read (au no)).1).2,b.next⟩,(D.nT (au no) (bN (D.read (au no)).1).2).2⟩
  else cZ c (a++(bN (D.read (au no)).1).1) ⟨b.size,b.aX++[no],(bN (D.read (au no)).1).2,b.next⟩ D
variable{u:List Int}{a c:Nat}{f:Nat->Prop}{d:Option Addr}{o:Value->World->Prop}{y:World->Prop}
section
variable {w0 w w1 w':World} {p q:Nat} {D D':ak} {V V':cY} {X Y Z G S:Nat->Prop}
theorem bf.fr (d:bf w0 w p D X) (e:aj Y w w') (f:∀a,Y a->X a/\w0.heap.size<=a) (g:∀a,Z a->(X a\/w.heap.size<=a)/\a<w'.heap.size):bf w0 w' p D Z:=by
 obtain⟨i,h,j,c,m⟩:=d;exact⟨i,h.keep e λa b k=>(c a b).2 (f a k).1,j.new e λa b=>.inr (f a b).2,λa b=>⟨(c a b).1,λl=>(g a l).1.elim (c a b).2 λd=>by have:=h.aF a b;omega⟩,λa b=>(g a b).2⟩
theorem cQ.fr (h:cQ w0 w p q V D X) (c:aj Y w w') (d:∀a,Y a->X a/\w0.heap.size<=a) (e:∀a,Z a->(X a\/w.heap.size<=a)/\a<w'.heap.size):cQ w0 w' p q V D Z:=by
 obtain⟨G,i,f,g⟩:=h;refine⟨G,i.fr c (λa b=>⟨.inl (d a b).1,(d a b).2⟩) λa b=>?_,f.keep c λa b j=>(g a b).2 (d a j).1,λa b=>⟨(g a b).1,λk=>(e a k).1.elim (g a b).2 λh=>by have:=f.aF a b;omega⟩⟩;rcases b with b|b
 ·exact⟨(e a b).1.imp .inl id,(e a b).2⟩
 ·exact⟨.inl (.inr b),Qk (f.aF a b) c.size⟩
theorem SG {no C:Int} (h:cQ w0 w p q V D X) (P:aN no) (Q:V.aX.length+1<=64) 
  (t:∀w',cQ w0 w' p q ⟨V.size,V.aX++[no],C,V.next⟩ D X->aj (et X) w w'->y w'):
  ∃E F,(some ⟨q,0,none⟩:Option Addr)=some ⟨E,F,none⟩/\∃(j:Option Addr) (u v:Nat),w.cell? ⟨E,F+2,none⟩=some (.slice j u v)/\
   PA w (.cells #[XG no] 3) λR=>aH ZX (Builtin.append_ #[55,55] 55 #[.slice j u v,.slice (some ⟨w.heap.size,0,none⟩) 1 1]) R (λS T=>
    ∃(e:Option Addr) (H k:Nat),S= .slice e H k/\∃I J,(some ⟨q,0,none⟩:Option Addr)=some ⟨I,J,none⟩/\PS T ⟨I,J+2,none⟩ (.slice e H k) λU=>
     ∃K L,(some ⟨q,0,none⟩:Option Addr)=some ⟨K,L,none⟩/\PS U ⟨K,L+3,none⟩ (XG C) y) o:=by
 obtain⟨G,W,d,f⟩:=id h;obtain⟨j,u,v,a0,M,g,i⟩:=d.body;have a8:=d.aF q d.self;refine⟨q,0,rfl,_,_,_,ae M rfl,PA.mk λw1 l s1 Y=>?_⟩;refine lH (g.af l) tN (D:=(·=w.heap.size)) (Row.lit Y [no] rfl (λa1 m=>by simp at m;subst m;exact P) (by unfold aQ;simp)) (λa c=>⟨oM,λZ=>by have:=g.aF a (g.self a Z);omega⟩) (by unfold aQ;simp;omega) (by unfold maxLen;simp;omega) λe k w2 F' n r _ x=>?_
 replace n:=n.alone
 have a6:¬aI j=some q:=λc=>(i q (g.self q c)).2 rfl;have g2:=r.get (l.get M id) a6;have z2:=r.size;have z:¬aI e=some q:=λc=>by
  rcases x q c with h|h
  ·exact(i q h).2 rfl
  ·omega
 refine⟨_,_,_,rfl,q,0,rfl,PS.mk g2 sM λw3 A s3 g3=>⟨q,0,rfl,PS.mk g3 sM λs B s4 g4=>t s ?_ ?_⟩⟩
 ·have a7:aj (λa=>aI j=some a\/a=q) w1 s:=((r.mono λa _ b=>.inl b).then (A.mono λa _ b=>.inr b)).then (B.mono λa _ b=>.inr b)
  have kG:aj G w s:=(ai.keep l).then (a7.mono λa _ b=>b.elim (λh=>(i a (g.self a h)).1) λh=>h▸d.self);have N:∀a,aI e=some a->a<s.heap.size:=λa b=>by have:=n.aF a b;omega
  refine⟨λa=>a=q\/aI e=some a,W.fr kG (λa b=>⟨.inr b,(f a b).1⟩) λa b=>?_,⟨⟨e,_,k,(λa=>aI e=some a),g4,?_,λa b=>⟨.inr b,λc=>z (c▸b)⟩⟩,.inl rfl,?_,by simpa using Q,d.Cj⟩,?_⟩
  ·rcases b with b|rfl|b
   ·exact⟨.inl (.inl b),by have:=h.aF a b;omega⟩
   ·exact⟨.inl (.inr d.self),oM⟩
   ·refine⟨?_,N a b⟩
    rcases x a b with h|h
    ·exact .inl (.inr (i a h).1)
    ·exact .inr oM
  ·exact(n.keep A λa b c=>z (c▸b)).keep B λa b c=>z (c▸b)
  ·rintro a (rfl|b)
   ·omega
   ·exact N a b
  ·rintro a (rfl|b)
   ·exact f _ d.self
   ·rcases x a b with O|O
    ·exact f a (i a O).1
    ·exact⟨by have:=h.gr.size;omega,λm=>by have:=h.aF a m;omega⟩
 ·refine(((ai.keep l).then (r.mono λa _ b=>?_)).then (A.mono λa _ b=>?_)).then (B.mono λa _ b=>?_)
  ·exact(f a (i a (g.self a b)).1).2
  ·exact(f a (b▸d.self)).2
  ·exact(f a (b▸d.self)).2
theorem Wi {j a:Nat} (b:j<=64) (c:a<=j*262144):a<=16777216:=oM
def UD (w0 w:World) (p q:Nat) (X:Nat->Prop) (a:oT) (f:Value) (w':World):Prop:=
 ∃c d e G,f= .tuple #[.slice c d e,XG a.no]/\aV qz 59 G w' c d e a.out/\cQ w0 w' p q a.V a.D (λb=>X b\/G b)/\aj (et X) w w'/\(∀b,G b->w.heap.size<=b)/\a.out.length<=16777216
theorem SH (C:Laid w0) (h:cQ w0 w p q V D X) (P:Row aP 8 w f d a u) (c2:∀b,f b->X b) (f3:V.aX.length+u.length<=64):
  Calls ZX 137 #[.pointer (some ⟨q,0,none⟩),.agg #[.slice d a c]] w (Ok (UD w0 w p q X (cZ u [] V D))):=by
 have l:=P.len;have Q:=h.aF;have f7:=h.gr.size;refine uV (PA.mk λw1 R s1 g1=>⟨_,_,_,ae g1 rfl,λS T U W Y w'=>∃(i:Nat) (j:cY) (g:List ah) (G:Nat->Prop),Y=i/\i<=u.length/\S=u.length-i/\cZ u [] V D=cZ (u.drop i) g j D/\j.aX.length=V.aX.length+i/\g.length<=i*262144/\
  aV qz 59 G w' T U W g/\cQ w0 w' p q j D (λb=>X b\/G b)/\aj (et X) w w'/\∀b,G b->w.heap.size<=b,
  ⟨_,0,V,[],λ_=>False,rfl,Qj _,rfl,rfl,rfl,Qj _,aV.nil w1,(h.af R).mono λb e=>e.elim id λh=>h.elim,ai.keep R,λ_ h=>h.elim⟩,?_⟩)
 rintro S T U W Y _ Z ⟨i,j,g,G,rfl,hj,rfl,a4,g0,a0,m,hN,r,t⟩;rw [a4];refine al.dec (λg2=>?_) (λg3=>?_)
 rotate_left
 ·obtain rfl:i=u.length:=oM
  rw [List.drop_of_length_le (Q4 _)];exact Ok.mk ⟨_,_,_,G,rfl,m,hN,r,t,Wi oM a0⟩
 obtain⟨b,E,no,rfl,n,k,F⟩:=(P.keep r λb e l=>l (c2 b e)).mh (i:=i) oM;have a2:u.drop i=no::u.drop (i+1):=by
  obtain⟨c4,rfl⟩:=Qv.1 n;exact X4 c4
 rw [a2]at a4⊢;refine⟨b,E,rfl,oM,oM,no,F,λw3 d3=>?_⟩;have k3:ai Z w3:=d3.keep;have H:=hN.af k3;obtain⟨G3,c8,d0,g4⟩:=id H;obtain⟨a3,n3,c3,E3,d1,-,-,-⟩:=d0.row;refine⟨λ_=>False,q,0,rfl,id,_,ae d1 rfl,PC.ok (jV (C.af H.gr) k) ?_⟩;rintro _ w4 ⟨rfl,z⟩;have d2:=H.af z;refine⟨_,rfl,z,PC.ok ((c8.af z).read (k:=au no)) ?_⟩;rintro _ w5 ⟨a5,n5,c5,F5,rfl,d4,g5,-,I⟩;have v:=d2.af I;have x:ai Z w5:=(k3.then z).then I;have g6:=d4.len dC;have g7:=JQ v.ok (au no);refine⟨_,_,_,_,rfl,I,al.dw (λd5=>?_) (λhe=>?_)⟩
 ·rw [show cZ (no::u.drop (i+1)) g j D=⟨0,g,j,D⟩ by unfold cZ;rw [if_pos d5]]
  exact Ok.mk ⟨_,_,_,G,rfl,m.af x,v,r.af x,t,Wi oM a0⟩
 obtain⟨G5,d6,d7,g8⟩:=id v;obtain⟨g9,h0,h2,E5,d8,-,-,-⟩:=d7.row;obtain⟨a7,e0,-,-,-⟩:=id d6;refine⟨q,0,rfl,_,ae d8 rfl,PC.ok (SI (C.af v.gr) e0 k) ?_⟩;rintro _ w6 ⟨a6,n6,c6,F6,rfl,s,J,K,a8⟩;have e1:cQ w0 w6 p q j D (λb=>(X b\/G b)\/F6 b):=v.add J λb e=>⟨K b e,s.aF b e⟩
 have b0:=x.then J;have e2:=m.aF;generalize e3:bN (D.read (cR (aB no))).1=sl at s a8;obtain⟨evs,o⟩:=sl;dsimp only at s a8;have a1:bN (D.read (au no)).1=(evs,o):=e3;have b1:Row qz 96 w6 F6 a6 n6 evs:=s.row dC (by unfold aQ;omega);refine⟨_,_,_,_,rfl,sE (m.af b0) Eg b1 (λL=>s.Pq L) (λb e=>⟨s.aF b e,λF=>by have:=e2 b (m.self b F);have:=K b e;have:=x.size;omega⟩) (by unfold aQ;omega) (by unfold maxLen;omega) λa9 c7 w7 A b2 M b3 _=>?_⟩;have h3:=x.size;have z6:=J.size;have b4:=b2.aF;have e4:cQ w0 w7 p q j D (λb=>X b\/A b):=e1.fr M (λb e=>⟨.inl (.inr (m.self b e)),by have:=t b (m.self b e);omega⟩) λb e=>by
  rcases e with e|e
  ·exact⟨.inl (.inl (.inl e)),by have:=Q b e;have:=r.size;have:=M.size;omega⟩
  ·refine⟨?_,b4 b e⟩
   rcases b3 b e with h|h|h
   ·exact .inl (.inl (.inr h))
   ·exact .inl (.inr h)
   ·exact .inr h
 have e5:aj (et X) w w7:=(r.af b0).then (M.mono λb _ e n=>by have:=t b (m.self b e);have:=Q b n;omega);have b5:∀b,A b->w.heap.size<=b:=λb e=>by
  have:=r.size;rcases b3 b e with h|h|h
  ·exact t b h
  ·have:=K b h;omega
  ·omega
 refine⟨_,_,_,rfl,SG e4 k oM λw8 b6 k8=>?_⟩;have b7:aj (et X) w w8:=e5.then (k8.mono λb _ e n=>e (.inl n));have b8:=b2.keep k8 λb e l=>l (.inr e);refine al.dec (λf5=>?_) (λf6=>?_)
 ·rw [show cZ (no::u.drop (i+1)) g j D=⟨(D.nT (au no) o).1,g++evs,⟨j.size,j.aX++[no],o,j.next⟩,(D.nT (au no) o).2⟩ by
   unfold cZ;rw [a1,if_neg (by simpa using he),if_pos (by show o<_;omega)]]
  intro w9 d9;have N:ai w8 w9:=d9.keep;have b9:=b6.af N;obtain⟨G9,e6,O,e7⟩:=id b9;obtain⟨c9,n9,f0,E9,e8,-,-,-⟩:=O.row;refine⟨λb=>b≠q,q,0,rfl,λhs=>hs rfl,_,ae e8 rfl,PC.ok (jV (C.af b9.gr) k) ?_⟩;rintro _ e9 ⟨rfl,y⟩;refine⟨_,rfl,y.keep,PC.ok ((e6.af y).nT (k:=au no)) ?_⟩;rintro _ f2 ⟨rfl,c0,B⟩;have c1:aj (et X) e9 f2:=B.mono λb _ e n=>e (.inl (.inl n));refine⟨_,rfl,B.mono λb _ e L=>e (.inr (L▸O.self)),Ok.mk ⟨_,_,_,A,rfl,?_,⟨G9,c0,(O.af y).keep B λb e l=>l (.inr e),e7⟩,((b7.af N).af y).then c1,b5,?_⟩⟩
  ·exact((b8.af N).af y).keep B λb e l=>l (.inl (.inr e))
  ·exact Wi (j:=i+1) oM (by simp;omega)
 ·refine⟨_,?_,i+1,⟨j.size,j.aX++[no],o,j.next⟩,g++evs,A,an oM,oM,rfl,?_,by simp;omega,by simp;omega,b8,b6,b7,b5⟩
  ·omega
  ·conv=>lhs;unfold cZ
   rw [a1,if_neg (by simpa using he),if_neg (by show¬o<_;omega)]
end
def LN:fS:=⟨[(2,[(10,XG 0)])],[],[],[],[]⟩
variable{s:Ending->World->Prop}{B U a8 e m:Int}{M:List ah}{H c4 i n:Nat}{a6:Nat->Prop}{b3 f1 p:Option Addr}{b l:World}{k:ah}{W:bQ}{b5:cY}
theorem LO (k:(∃h:Nat->Int->World->Prop,(∃g,h g 0 b)/\∀(g:Nat) (f:Int) (t:Nat->Value) (i:World),h g f i->al (decide (f<(a:Int))) ((ix_ d f a λl n=>PS i (ad l (n+Int.toNat f*5+1)) (.ii e) λo=>(ix_ d f a λp q=>PS o (ad p (q+Int.toNat f*5+2)) (.ii m) λr=>(∃j,j<g/\h j (IntKind.wrap .i64 (f+1)) r)))) (rt s ((.slice d a c)) i))):Calls ZX 110 #[.ii e,.ii m,.slice d a c] b s:=DC LN Tryz.func110 rfl k
def Cd:fS:=⟨[(2,[(7,XG 0)]),(5,[(8,XG 0)]),(10,[(9,XG 0)])],[],[],[],[]⟩
theorem Ce (B:PA b (.cells #[.slice b3 a c,.slice f1 i n] 25) λD=>(∃o:Nat->Int->World->Prop,(∃h,o h (-1) D)/\∀(h:Nat) (f:Int) (Z:Nat->Value) (j:World),o h f j->(rS j (ab_ b 0) λa4 C a5=>al (decide (f<=(C:Int))) ((∃q:Nat->Int->World->Prop,(∃k,q k 0 j)/\∀(k:Nat) (e:Int) (a6:Nat->Value) (r:World),q k e r->al (decide (e<4)) (PC_ 31 #[.pointer d,.ii f,.ii e] r (kX_ 46 λE G=>PC_ 31 #[.pointer p,.ii f,.ii e] G (kX_ 46 λF H=>PC_ 47 #[E,F] H (kB λI u=>al (!I) (rt s ((.bool false)) u) (PC_ 48 #[.pointer d,.ii f,.ii e,.ii e] u (kX_ 46 λJ K=>PC_ 48 #[.pointer p,.ii f,.ii e,.ii e] K (kX_ 46 λL M=>PC_ 47 #[J,L] M (kB λN v=>al (!N) (rt s ((.bool false)) v) ((∃w,w<k/\q w (IntKind.wrap .i64 (e+1)) v))) (pE s)) (pE s)) (pE s))) (pE s)) (pE s)) (pE s)) ((∃x,x<h/\o x (IntKind.wrap .i64 (f+1)) r)))) ((∃t:Nat->Int->World->Prop,(∃l,t l (-1) j)/\∀(l:Nat) (g:Int) (a7:Nat->Value) (m:World),t l g m->(rS m (ab_ b (0+1)) λa8 O a9=>al (decide (g<=(O:Int))) (PC_ 49 #[.pointer d,.ii g,.ii (-9223372036854775808)] m (kX_ 46 λP Q=>PC_ 49 #[.pointer p,.ii g,.ii (-9223372036854775808)] Q (kX_ 46 λR S=>PC_ 47 #[P,R] S (kB λT y=>al (!T) (rt s ((.bool false)) y) (PC_ 49 #[.pointer d,.ii g,.ii 2] y (kX_ 46 λU V=>PC_ 49 #[.pointer p,.ii g,.ii 2] V (kX_ 46 λW X=>PC_ 47 #[U,W] X (kB λY z=>al (!Y) (rt s ((.bool false)) z) ((∃A,A<l/\t A (IntKind.wrap .i64 (g+1)) z))) (pE s)) (pE s)) (pE s))) (pE s)) (pE s)) (pE s)) (rt s ((.bool true)) m))))))):Calls ZX 21 #[.pointer d,.pointer p,.agg #[.slice b3 a c,.slice f1 i n]] b s:=DC Cd Tryz.func21 rfl B
def qq:fS:=⟨[(12,[(12,XG 0)]),(18,[(14,.slice none 0 0),(15,XG 0)]),(25,[(18,XG 0)])],[(23,[(16,XG 0)])],[],[],[(30,⟨[0,0,0,6,9,0,0,64,160,272,1023],[2047,2047,2047,2041,2038,2047,2047,1983,1887,1775,1501],[2,0,0,0,2,0,0,0,0,2,0]⟩)]⟩
theorem qs {G H I J:Option Addr} {K L M N l c7 g c8:Nat} (a0:PA b (.cells #[.slice G K L,.slice H M N] 25) λc9=>PC_ 8 #[.ii 2] c9 (kX_ 28 λd0 e=>PA e (.cells #[.ii 0,.ii 0,.ii 0,.ii 0,.ii 0,.ii 0,.ii 0,.ii 0,.slice none 0 0,.slice none 0 0] 28) λd1=>St 28 (ab_ e 0) d0 d1 λy=>(∃O P Q R S T,y.cell? (ab_ b 0)=some (.slice O P Q)/\y.cell? (ab_ b (0+1))=some (.slice R S T)/\PS y (ab_ e (0+8)) (.slice O P Q) λd2=>PS d2 (ab_ e (0+8+1)) (.slice R S T) λd3=>PS d3 (ab_ e (0+1)) (.ii 262144) λd4=>PS d4 (ab_ e (0+2)) (.ii 65536) λU=>(Ld 28 (ab_ e 0) U λd5=>PC_ 10 #[d5,.slice none 0 0] U (kB λd6 h=>al d6 (PC_ 11 #[] h (kB λd7 d8=>rt s ((.bool d7)) d8) (pE s)) (al (decide ((l:Int)>20)) (PC_ 11 #[] h (kB λd9 e0=>rt s ((.bool d9)) e0) (pE s)) (al (decide ((g:Int)>100)) (PC_ 11 #[] h (kB λe1 e2=>rt s ((.bool e1)) e2) (pE s)) ((Ld 28 (ab_ e 0) h λe3=>PC_ 13 #[e3] h (kX_ 28 λe4 e5=>PC_ 12 #[e4,.ii 0] e5 (λe6 V=>∃m n,e6= .tuple #[.pointer m,.ii n]/\(Ld 28 (ab_ e 0) V λe7=>PC_ 13 #[e7] V (kX_ 28 λe8 e9=>PC_ 12 #[e8,.ii 1] e9 (λf0 i=>∃o p,f0= .tuple #[.pointer o,.ii p]/\al (n !=0) (al (n==p) (PC_ 11 #[] i (kB λf1 f2=>rt s ((.bool f1)) f2) (pE s)) (rt s ((.bool false)) i)) (al (p !=0) (al (n==p) (PC_ 11 #[] i (kB λf3 f4=>rt s ((.bool f3)) f4) (pE s)) (rt s ((.bool false)) i)) ((∃z:Nat->Int->World->Prop,(∃q,z q 0 i)/\∀(q:Nat) (j:Int) (j6:Nat->Value) (r:World),z q j r->al (decide (j<(l:Int))) ((ix_ I j l λf5 f6=>(Ld 49 (ad f5 (f6+Int.toNat j*7)) r λf7=>PC_ 14 #[.pointer m,f7] r (kX_ 46 λj7 f8=>(∃W,W<q/\z W (IntKind.wrap .i64 (j+1)) f8)) (pE s)))) (PC_ 15 #[.pointer m] r (kS_ λX Y Z f9=>PC_ 22 #[.slice X Y Z] f9 (kS_ λg0 g1 g2 g3=>(∃A:Nat->Option Addr->Nat->Nat->Int->World->Prop,(∃t,A t g0 g1 g2 0 g3)/\∀(t:Nat) (u:Option Addr) (f:Nat) (k:Nat) (B:Int) (j8:Nat->Value) (v:World),A t u f k B v->al (decide ((f:Int)>0)) ((∃C:Int->World->Prop,(al (decide ((g:Int)>0)) (PR_ (eq_ .rem 3 (.tmp 88) (.tmp 90) (.ii B) (.ii (g:Int))) v (kI_ λa2 a3=>(ix_ J a2 g λg4 g5=>(rI a3 (ad g4 (g5+Int.toNat a2)) λg6=>PC_ 9 #[.ii g6,.ii (f:Int)] a3 (kI_ λg7 g8=>C g7 g8) (pE s)))) (pV s)) (C 0 v))/\∀(d:Int) (j9:Nat->Value) (a:World),C d a->(ix_ u d f λg9 h0=>(Ld 59 (ad g9 (h0+Int.toNat d*10)) a λh1=>PA a (.cells #[.ii 0,.ii 0,.ii 0,.slice none 0 0,.ii 0,.ii 0,.ii 0,.ii 0,.ii 0,.ii 0] 59) λh2=>St 59 (ab_ a 0) h1 h2 λh3=>(∃D:Nat->Int->World->Prop,(∃w,D w 0 h3)/\∀(w:Nat) (E:Int) (k1:Nat->Value) (c:World),D w E c->al (decide (E<2)) ((∃a4 a5 a6 a7 a8 a9 b0 b1 b2 b3 b4 b5,c.cell? (ab_ a 0)=some (.ii a4)/\c.cell? (ab_ a (0+1))=some (.ii a5)/\c.cell? (ab_ a (0+2))=some (.ii a6)/\c.cell? (ab_ a (0+3))=some (.slice a7 a8 a9)/\c.cell? (ab_ a (0+4))=some (.ii b0)/\c.cell? (ab_ a (0+5))=some (.ii b1)/\c.cell? (ab_ a (0+6))=some (.ii b2)/\c.cell? (ab_ a (0+7))=some (.ii b3)/\c.cell? (ab_ a (0+8))=some (.ii b4)/\c.cell? (ab_ a (0+9))=some (.ii b5)/\PA c (.cells #[.ii a4,.ii a5,.ii a6,.slice a7 a8 a9,.ii b0,.ii b1,.ii b2,.ii b3,.ii b4,.ii b5] 59) λh4=>PC_ 23 #[.pointer o,.agg #[.ii 3,.ii 0,.ii 1,.slice none 0 0,.slice (some (ab_ c 0)) 1 1]] h4 (λh5 b6=>∃h6 h7 h8 b7,h5= .tuple #[.slice h6 h7 h8,.ii b7]/\al (b7 !=0) (rt s ((.bool false)) b6) ((∃b8,b8<w/\D b8 (IntKind.wrap .i64 (E+1)) b6))) (pE s))) ((∀F,bE c F->((0:Int)<=d/\(d:Int)<=(k:Int)/\((0:Int)<=(IntKind.wrap .i64 (d+1))/\((IntKind.wrap .i64 (d+1)):Int)<=(f:Int)/\PA F (.cells #[] 59) λh9=>PR_ (ap_ 50 (.slice (some (ab_ F 0)) 0 0) (.slice u (Int.toNat d) k)) h9 (kS_ λi0 i1 i2 i3=>PR_ (ap_ 50 (.slice i0 i1 i2) (.slice (cM u (Int.toNat (IntKind.wrap .i64 (d+1))) k 10) (f-Int.toNat (IntKind.wrap .i64 (d+1))) (k-Int.toNat (IntKind.wrap .i64 (d+1))))) i3 (kS_ λi4 i5 i6 i7=>(∃b9,b9<t/\A b9 i4 i5 i6 (IntKind.wrap .i64 (B+1)) i7)) (pY s)) (pY s)))))))))) (PC_ 15 #[.pointer o] v (kS_ λi8 i9 j0 j1=>PC_ 17 #[.slice i8 i9 j0,.slice X Y Z] j1 (kB λj2 x=>al j2 ((∃c0 c1 c2 c3 c4 c5,x.cell? (ab_ b 0)=some (.slice c0 c1 c2)/\x.cell? (ab_ b (0+1))=some (.slice c3 c4 c5)/\PC_ 21 #[.pointer m,.pointer o,.agg #[.slice c0 c1 c2,.slice c3 c4 c5]] x (kB λj3 c6=>al j3 (PC_ 11 #[] c6 (kB λj4 j5=>rt s ((.bool j4)) j5) (pE s)) (rt s ((.bool false)) c6)) (pE s))) (rt s ((.bool false)) x)) (pE s)) (pE s)))) (pE s)) (pE s)))))) (pE s)) (pE s))) (pE s)) (pE s)))))) (pE s)))) (pE s)):Calls ZX 4 #[.agg #[.slice G K L,.slice H M N],.slice I l c7,.slice J g c8] b s:=DC qq Tryz.func4 rfl a0
def yr:fS:=⟨[(13,[(68,XG 0)])],[(11,[]),(20,[(25,.pointer (some ⟨0,0,none⟩)),(26,XG 0)])],[19],[],[(19,⟨[0,0,0,4,0,24,0,96,171,256,512,512,0,6143,16383],[32767,32767,32767,32763,32767,32751,32767,32671,32628,32511,32255,32255,32767,27647,30719],[1,0,0,2,0,2,0,0,2,0,0,0,2,2,0]⟩)]⟩
theorem yt {r g X Y Z a4 a5 a6 a7:Int} (a2:PA b (.cells #[.slice d a c,.slice p i n] 25) λf=>PA f (.cells #[.ii X,.ii Y,.ii Z,.ii a4,.ii a5,.ii a6,.ii a7] 49) λh=>PA h (.cells #[.ii 0,.ii 0,.ii 0,.slice none 0 0,.ii 0,.ii 0,.ii 0,.ii 0,.ii 0,.ii 0] 59) λv=>(∃a8 a9 b0 b1 b2 a0,v.cell? (ab_ b 0)=some (.slice a8 a9 b0)/\v.cell? (ab_ b (0+1))=some (.slice b1 b2 a0)/\(Ld 49 (ab_ f 0) v λf2=>PC_ 82 #[.agg #[.slice a8 a9 b0,.slice b1 b2 a0],f2] v (kI_ λb4 A=>al (b4 !=0) (St 59 (ab_ h 0) (.agg #[.ii 0,.ii 0,.ii 0,.slice none 0 0,.ii 0,.ii 0,.ii 0,.ii 0,.ii 0,.ii 0]) A λb5=>(Ld 59 (ab_ h 0) b5 λf3=>rt s ((.tuple #[f3,.bool false,.ii b4])) b5)) ((rI A (ab_ f (0+6)) λf4=>PC_ 83 #[.pointer b3,.ii f4] A (λf5 B=>yY (fe ZX 59) λb6=>∃b7,f5= .tuple #[b6,.bool b7]/\PA B (.cells #[.ii 0,.ii 0,.ii 0,.slice none 0 0,.ii 0,.ii 0,.ii 0,.ii 0,.ii 0,.ii 0] 59) λf6=>St 59 (ab_ B 0) b6 f6 λj=>al b7 ((Ld 59 (ab_ B 0) j λf7=>St 59 (ab_ h 0) f7 j λb8=>(Ld 59 (ab_ h 0) b8 λf8=>rt s ((.tuple #[f8,.bool false,.ii 0])) b8))) ((rS j (ab_ b 0) λf9 g0 j1=>(rI j (ab_ f 0) λb9=>(ix_ f9 b9 g0 λg1 g2=>(rS j (ad g1 (g2+Int.toNat b9)) λg3 g4 g5=>PA j (.cells #[.slice none 0 0] 130) λg6=>PS g6 (ab_ j 0) (.slice g3 g4 g5) λC=>(rI C (ab_ f 0) λg7=>(rI C (ab_ f (0+1)) λg8=>PC_ 84 #[.pointer f1,.ii g7,.ii g8] C (λg9 o=>∃c0 c1 c2 c3 c4,g9= .tuple #[.agg #[.ii c0,.slice c1 c2 c3],.bool c4]/\PA o (.cells #[.ii 0,.slice none 0 0] 42) λh0=>PS h0 (ab_ o 0) (.ii c0) λh1=>PS h1 (ab_ o (0+1)) (.slice c1 c2 c3) λE=>(∃F:World->Prop,(al (!c4) ((rS E (ab_ j 0) λh2 h3 h4=>PC_ 85 #[.agg #[.slice h2 h3 h4]] E (kS_ λh5 h6 h7 h8=>PS h8 (ab_ o (0+1)) (.slice h5 h6 h7) λh9=>F h9) (pE s))) (F E))/\∀(j2:Nat->Value) (H:World),F H->PA H (.cells #[.func (.func 86) #[] #[.pointer (some (ab_ f 0)),.pointer (some (ab_ o 0))],.func (.func 87) #[] #[.pointer (some (ab_ j 0)),.pointer (some (ab_ o 0)),.pointer (some (ab_ f 0))]] 75) λi0=>(∃I:Nat->Int->World->Prop,(∃w,I w 0 i0)/\∀(w:Nat) (q:Int) (j3:Nat->Value) (x:World),I w q x->al (decide (q<(2:Int))) ((∃c5 c6,((some (ab_ H 0)):Option Addr)=some ⟨c5,c6,none⟩/\(0:Int)<=q/\q<(2:Int)/\(∃(c7:Value),x.cell? (ad c5 (c6+Int.toNat q))=some c7/\(∃J c8 d0,(c7:Value)= .func (.func J) c8 d0/\enters ZX J=true/\PC_ J (c8++ #[]++d0) x (kI_ λd1 d2=>al (d1 !=0) (St 59 (ab_ h 0) (.agg #[.ii 0,.ii 0,.ii 0,.slice none 0 0,.ii 0,.ii 0,.ii 0,.ii 0,.ii 0,.ii 0]) d2 λd3=>(Ld 59 (ab_ h 0) d3 λi1=>rt s ((.tuple #[i1,.bool false,.ii d1])) d3)) ((∃d4,d4<w/\I d4 (IntKind.wrap .i64 (q+1)) d2))) (pE s))))) ((∃t:Nat->Nat->Int->World->Prop,((∀k,bE x k->∃e:Nat->Prop,(¬e f.heap.size/\(Ld 49 (ab_ f 0) k λy=>((PC_ 46 #[.pointer b3] k (kS_ λD K L l=>(aj e k l/\((PC_ 90 #[.pointer b3] l (kI_ λz m=>(aj e l m/\((PC_ 89 #[y,.ii r,.slice D K L,.ii (if g>z then g else z)] m (λi2 u=>yY (fe ZX 59) λd5=>∃d6,i2= .tuple #[d5,.ii d6]/\(aj e m u/\PA u (.cells #[.ii 0,.ii 0,.ii 0,.slice none 0 0,.ii 0,.ii 0,.ii 0,.ii 0,.ii 0,.ii 0] 59) λG=>(aj e u G/\St 59 (ab_ u 0) d5 G λd7=>(aj e G d7/\t u.heap.size 0 d6 d7)))) (pZ s))/\(PA m (.cells #[.ii 0,.ii 0,.ii 0,.slice none 0 0,.ii 0,.ii 0,.ii 0,.ii 0,.ii 0,.ii 0] 59) λM=>(aj e m M/\PC_ 89 #[y,.ii r,.slice D K L,.ii (if g>z then g else z)] M (λi3 N=>yY (fe ZX 59) λd8=>∃d9,i3= .tuple #[d8,.ii d9]/\(aj e M N/\St 59 (ab_ m 0) d8 N λe0=>(aj e N e0/\t m.heap.size 0 d9 e0))) (pZ s)))))) (pZ s))/\(PA l (.cells #[.ii 0,.ii 0,.ii 0,.slice none 0 0,.ii 0,.ii 0,.ii 0,.ii 0,.ii 0,.ii 0] 59) λO=>(aj e l O/\PC_ 90 #[.pointer b3] O (kI_ λe1 P=>(aj e O P/\PC_ 89 #[y,.ii r,.slice D K L,.ii (if g>e1 then g else e1)] P (λi4 Q=>yY (fe ZX 59) λe2=>∃e3,i4= .tuple #[e2,.ii e3]/\(aj e P Q/\St 59 (ab_ l 0) e2 Q λe4=>(aj e Q e4/\t l.heap.size 0 e3 e4))) (pZ s))) (pZ s)))))) (pZ s))/\(PA k (.cells #[.ii 0,.ii 0,.ii 0,.slice none 0 0,.ii 0,.ii 0,.ii 0,.ii 0,.ii 0,.ii 0] 59) λR=>(aj e k R/\PC_ 46 #[.pointer b3] R (kS_ λi5 i6 i7 S=>(aj e R S/\PC_ 90 #[.pointer b3] S (kI_ λe5 T=>(aj e S T/\PC_ 89 #[y,.ii r,.slice i5 i6 i7,.ii (if g>e5 then g else e5)] T (λi8 U=>yY (fe ZX 59) λe6=>∃e7,i8= .tuple #[e6,.ii e7]/\(aj e T U/\St 59 (ab_ k 0) e6 U λe8=>(aj e U e8/\t k.heap.size 0 e7 e8))) (pZ s))) (pZ s))) (pZ s))))))))/\∀(e9:Nat) (f0:Nat) (V:Int) (j4:Nat->Value) (W:World),t e9 f0 V W->(Ld 59 (ad e9 f0) W λi9=>St 59 (ab_ h 0) i9 W λa1=>(Ld 59 (ab_ h 0) a1 λj0=>rt s ((.tuple #[j0,.bool (V==0),.ii V])) a1))))))) (pE s))))))))) (pE s)))) (pE s)))):Calls ZX 42 #[.agg #[.slice d a c,.slice p i n],.pointer b3,.pointer f1,.ii r,.ii g,.agg #[.ii X,.ii Y,.ii Z,.ii a4,.ii a5,.ii a6,.ii a7]] b s:=DC yr Tryz.func42 rfl a2
def Ch:fS:=⟨[],[(3,[]),(7,[(9,.slice none 0 0)]),(11,[(9,.slice none 0 0)])],[],[],[]⟩
theorem Ci {x y D z:Nat} (R:PA b (.cells #[.ii m,.ii B,.ii U,.slice p x y,.slice b3 D z] 67) λc=>(∃l:World->Prop,((rI c (ab_ b 0) λS=>al (S !=1) ((rI c (ab_ b 0) λT=>al (T !=2) (rt s ((.slice none 0 0)) c) (l c))) (l c)))/\∀(d8:Nat->Value) (n:World),l n->(∃o:Option Addr->Nat->Nat->World->Prop,((rS n (ab_ b (0+3)) λV W X=>PC_ 55 #[.pointer d,.slice V W X,.ii (if(if 32<a8 then 32 else a8)>1 then(if 32<a8 then 32 else a8)else 1)] n (kS_ λY A Z q=>al (decide ((A:Int)>0)) (PA q (.cells #[.ii 3,.ii 0,.ii 0,.slice none 0 0,.slice Y A Z] 67) λa3=>PR_ (ap_ 63 (.slice none 0 0) (.slice (some (ab_ q 0)) 1 1)) a3 (kS_ λa4 a5 a6 a7=>o a4 a5 a6 a7) (pV s)) (o none 0 0 q)) (pE s)))/\∀(f:Option Addr) (g:Nat) (h:Nat) (d9:Nat->Value) (G:World),o f g h G->PC_ 46 #[.pointer d] G (kS_ λr t u C=>(∃i:Option Addr->Nat->Nat->World->Prop,((rS C (ab_ b (0+3)) λa0 a9 b0=>PC_ 109 #[.slice a0 a9 b0,.slice r t u] C (kI_ λE a=>(rI a (ab_ b 0) λb1=>al (b1==1) (al (E==2) (PA a (.cells #[.ii 2,.ii 0,.ii 0,.slice r t u,.slice none 0 0] 67) λb2=>PR_ (ap_ 63 (.slice f g h) (.slice (some (ab_ a 0)) 1 1)) b2 (kS_ λa1 b4 b5 b6=>i a1 b4 b5 b6) (pV s)) (al (E==3) (PA a (.cells #[.ii 2,.ii 0,.ii 0,.slice r t u,.slice none 0 0] 67) λb7=>PR_ (ap_ 63 (.slice f g h) (.slice (some (ab_ a 0)) 1 1)) b7 (kS_ λb8 b9 c0 c1=>i b8 b9 c0 c1) (pV s)) (i f g h a))) (i f g h a))) (pE s)))/\∀(v:Option Addr) (k:Nat) (w:Nat) (e0:Nat->Value) (j:World),i v k w j->al ((k:Int)==0) ((rI j (ab_ b (0+1)) λc2=>PC_ 107 #[.pointer d,.ii e,.ii c2] j (λc3 F=>∃H I J K L M N O P,c3= .agg #[.ii H,.ii I,.ii J,.slice K L M,.slice N O P]/\PA F (.cells #[.ii H,.ii I,.ii J,.slice K L M,.slice N O P] 67) λc4=>PR_ (ap_ 63 (.slice v k w) (.slice (some (ab_ F 0)) 1 1)) c4 (kS_ λc5 c6 c7 Q=>(rI Q (ab_ b (0+1)) λc8=>PC_ 110 #[.ii e,.ii c8,.slice c5 c6 c7] Q (kS_ λc9 d0 d1 d2=>rt s ((.slice c9 d0 d1)) d2) (pE s))) (pV s)) (pE s))) ((rI j (ab_ b (0+1)) λd3=>PC_ 110 #[.ii e,.ii d3,.slice v k w] j (kS_ λd4 d5 d6 d7=>rt s ((.slice d4 d5 d6)) d7) (pE s))))) (pE s)))):Calls ZX 54 #[.pointer d,.ii e,.agg #[.ii m,.ii B,.ii U,.slice p x y,.slice b3 D z],.ii a8] b s:=DC Ch Tryz.func54 rfl R
def uW:fS:=⟨[],[],[],[],[]⟩
theorem uX (d:(rI b (ad a (c+5)) λe=>al (e==(-1)) (rt s ((.ii 0)) b) ((rI b (ad a (c+5)) λf=>(rI b (ad i n) λg=>al (f==g) (rt s ((.ii 0)) b) (rt s ((.ii 11)) b)))))):Calls ZX 86 #[.pointer (some ⟨a,c,none⟩),.pointer (some ⟨i,n,none⟩)] b s:=DC uW Tryz.func86 rfl d
def uY:fS:=⟨[],[],[],[],[]⟩
theorem uZ (d:(rS b (ad a c) λe f g=>(rS b (ad i (n+1)) λh j k=>(rI b (ad H (c4+2)) λl=>(rI b (ad H (c4+3)) λm=>(rI b (ad H (c4+4)) λo=>PC_ 88 #[.agg #[.slice e f g],.slice h j k,.ii l,.ii m,.ii o] b (kI_ λp q=>rt s ((.ii p)) q) (pE s))))))):Calls ZX 87 #[.pointer (some ⟨a,c,none⟩),.pointer (some ⟨i,n,none⟩),.pointer (some ⟨H,c4,none⟩)] b s:=DC uY Tryz.func87 rfl d
def dY (D:ak) (a:Int):cY:=⟨a,[],0,iq D⟩
def told (D:ak):List Int:=(dR D).getD []
def gj (b:Nat) (a:oT):oT:=
 if a.no≠0 then a else
 if a.V.aX=[]then⟨(aG a.V a.D).1,a.out,(aG a.V a.D).2.1,(aG a.V a.D).2.2⟩else
 if a.V.aX.length<b then⟨(bJ a.D a.V.aX).1,a.out,a.V,(bJ a.D a.V.aX).2⟩else a
def aM (D:ak) (a:Int):oT:=gj (told D).length (cZ (told D) [] (dY D a) D)
def UE (g d:World) (h:Nat) (e:Nat->Prop) (a:oT) (i:Value) (b:World):Prop:=
 (a.no≠0/\i= .tuple #[.pointer none,.slice none 0 0,XG a.no]/\bf g b h a.D e/\aj (et e) d b)\/
 (a.no=0/\∃f j k l G,i= .tuple #[.pointer (some ⟨f,0,none⟩),.slice j k l,XG 0]/\aV qz 59 G b j k l a.out/\cQ g b h f a.V a.D (λc=>e c\/G c)/\aj (et e) d b/\(∀c,G c->d.heap.size<=c)/\d.heap.size<=f/\a.out.length<=16777216)
theorem Jp {D:ak} (u:Laid b) (k:bf b l a D f):
  Calls ZX 74 #[.pointer (some ⟨a,0,none⟩),XG e] l (Ok (UE b l a f (aM D e))):=by
 have T:∀c,f c->c<l.heap.size:=by obtain⟨a0,h1,h2,h3,h4⟩:=k;exact h4
 have d0:=k.gr.size;obtain⟨a0,hF,-,-,-⟩:=id k;refine Ew (PC.ok (JY (u.af k.gr) hF) ?_);rintro _ h ⟨rfl,I⟩;have U:=k.af I;have d1:=sI D.list;refine⟨_,rfl,PA.mk λw2 V s2 g2=>PC.ok ((U.af V).iK u.oH) ?_⟩;rintro _ v ⟨z,A,W,B,rfl,X,Y,-,J⟩;have z1:=I.size;have z3:=J.size
 change aV aP 3 B v z A W (told D)at X
 have d2:(told D).length<=64:=FB;have b4:ai h v:=V.then J;refine⟨_,_,_,_,rfl,PA.mk λw4 k4 s4 g4=>PS.mk g4 sM λn k5 s5 Z=>⟨_,_,_,ae Z rfl,?_⟩⟩;have b5:n.heap[v.heap.size]? =some (.cells #[.slice z A W] 230 (0,0)):=Z;have K:ai v n:=k4.new k5 λc d=>.inr oM;have a7:ai h n:=b4.then K;have a8:ai l n:=I.then a7;have b6:=K.get (J.get g2 id) id;have a9:=X.af K
 let L:Nat->Prop:=λc=>f c\/(B c\/c=v.heap.size)
 have b7:cQ b n a h.heap.size (dY D e) D L:=by
  refine⟨(·=h.heap.size),U.fr a7 (Y:=λ_=>False) (λc d=>d.elim) λc d=>?_,⟨⟨none,0,0,λ_=>False,b6,aV.nil n,λ_ k=>k.elim⟩,rfl,λc d=>oM,Qj _,?_⟩,λc d=>⟨oM,λE=>?_⟩⟩
  ·rcases d with(d|d|d)|d
   ·exact⟨.inl d,by have:=T c d;omega⟩
   ·exact⟨.inr (by have:=Y c d;omega),a9.aF c d⟩
   ·exact⟨.inr oM,oM⟩
   ·exact⟨.inr oM,oM⟩
  ·show aN (tX D.list);unfold aN;omega
  ·subst d
   rcases E with E|E|E
   ·have:=T _ E;omega
   ·have:=Y _ E;omega
   ·omega
 have M:Row aP 8 n B z A (told D):=a9.row dC (by unfold aQ;omega);refine PC.ok (SH u b7 M (λc d=>.inr (.inl d)) (by show 0+_<=_;omega)) ?_;rintro _ N ⟨a6,n6,c6,o,rfl,C,w,O,b8,b0⟩;have z5:=a8.size;have hq:l.heap.size<=h.heap.size:=z1;have P:aj (et f) l N:=(ai.keep a8).then (O.mono λc _ d E=>d (.inl E));have g6:=O.get b5 λm=>m (.inr (.inr rfl));have b9:Row aP 8 N B z A (told D):=M.keep O λc d m=>m (.inr (.inl d));have d3:=M.len;show _;unfold aM;generalize cZ (told D) [] (dY D e) D=i at C w b0;have b1:∀c,o c->l.heap.size<=c:=λc d=>by have:=b8 c d;omega
 refine⟨_,_,_,_,rfl,λno p=>∃q r,gj (told D).length i=⟨no,i.out,q,r⟩/\aV qz 59 o p a6 n6 c6 i.out/\cQ b p a h.heap.size q r (λc=>f c\/o c)/\aj (et f) l p,?_,?_⟩
 ·have g:∀{p q r},cQ b p a h.heap.size q r (λc=>L c\/o c)->cQ b p a h.heap.size q r (λc=>f c\/o c):=λk=>k.mono λc d=>d.imp .inl id
  refine al.dw (λs=>⟨i.V,i.D,by unfold gj;rw [if_pos s],C,g w,P⟩) (λx=>?_);obtain⟨GL,c0,b2,c1⟩:=id w;obtain⟨aL,nL,cL,EL,Q,b3,c2,c4⟩:=b2.row;refine⟨_,_,rfl,_,_,_,ae Q rfl,al.dX (λhz=>?_) (λc5=>?_)⟩
  ·have R:i.V.aX=[]:=QW oM
   refine PC.ok (Gi u w) ?_;rintro _ F ⟨rfl,t,j⟩;exact⟨_,rfl,_,_,by unfold gj;rw [if_neg (by simpa using x),if_pos R],C.keep j λc d m=>m (.inr d),g t,P.then (j.mono λc _ d E=>d (.inl (.inl E)))⟩
  ·have s:¬i.V.aX=[]:=λa1=>c5 (by rw [c4,a1];rfl)
   refine⟨_,_,rfl,_,_,_,ae Q rfl,_,_,_,ae g6 rfl,λF d7=>?_⟩;have j:ai N F:=d7.keep;have t:=w.af j;have H:=C.af j;have y:aj (et f) l F:=P.af j;refine al.dec (λd4=>?_) (λd5=>⟨_,_,by unfold gj;rw [if_neg (by simpa using x),if_neg s,if_neg oM],H,g t,y⟩);have c7:=j.get Q id;refine⟨_,_,rfl,_,_,_,ae c7 rfl,PC.ok ((c0.af j).bJ u.oH (b3.af j) (Ow b3) λc d=>.inr (.inr (c2 c d).1)) ?_⟩;rintro _ w8 ⟨rfl,c8,S⟩;have c9:cQ b w8 a h.heap.size i.V (bJ i.D i.V.aX).2 (λc=>L c\/o c):=⟨GL,c8,(b2.af j).keep S λc d m=>m (.inr d),c1⟩
   exact⟨_,rfl,_,_,by unfold gj;rw [if_neg (by simpa using x),if_neg s,if_pos oM],H.keep S λc d m=>m (.inl (.inr d)),g c9,y.then (S.mono λc _ d E=>d (.inl (.inl (.inl E))))⟩
 ·rintro no _ F ⟨q,r,R,H,t,y⟩
  rw [R];refine al.dw (λs=>Ok.mk (.inl ⟨s,rfl,t.nY.mono λc d=>.inl d,y⟩)) (λx=>Ok.mk (.inr ⟨x,h.heap.size,a6,n6,c6,o,by rfl,H,t,y,b1,hq,b0⟩))
def eD (a:ah):Bool:=decide (64<a.aK.length)
def az (b:cY) (D:ak) (c:List ah):Int×cY×ak:=
 if c.any eD then(3,b,D)else if c=[]then(0,b,D)else
 let a:=if b.size<=b.bytes then aG b D else(0,b,D)
 if a.1≠0 then a else
 let d:=a.2.2.append a.2.1.last (ar c)
 if d.1≠0 then(d.1,a.2.1,d.2)else(0,⟨a.2.1.size,a.2.1.aX,IntKind.wrap .i64 (a.2.1.bytes+((ar c).length:Nat)),a.2.1.next⟩,d.2)
theorem tY {D:ak} (a:(aG b5 D).1=0):(aG b5 D).2.1.aX≠[]:=by
 have e:∀b:ak,(m_ b5 b).1=0->(m_ b5 b).2.1.aX≠[]:=by
  intro b;unfold m_;dsimp only;split
  ·rename_i c;intro a;exact absurd a c
  ·split
   ·rename_i c;intro a;exact absurd a c
   ·intro _;simp
 have d:∀b:ak,(bF b5 b).1=0->(bF b5 b).2.1.aX≠[]:=by
  intro b;unfold bF;dsimp only;split
  ·rename_i c;intro a;exact absurd a c
  ·exact e _
 revert a
 unfold aG;dsimp only;split
 ·exact d D
 ·split
  ·rename_i c;intro a;exact absurd a c
  ·exact d _
theorem NW (a:k.Ok) (b:k.aK.length<=64):(nP k).length<=675:=by
 have:=Gg a b;have c:=rk a b;unfold nP at*;rw [fp];omega
theorem oS (a:List ah) (b:ah):ar (a++[b])=ar a++nP b:=by simp [ar]
theorem MG {D:ak} {w b6:Nat} (V:Laid b) (v:cQ b l a c b5 D f) (d0:b5.aX≠[]) (hr:Row fZ 96 l a6 d w M) (d1:∀e,a6 e->e<l.heap.size) (hl:M.length<=20000000):
  Calls ZX 91 #[.pointer (some ⟨c,0,none⟩),.slice d w b6] l (Ok (Gh b l a c f (az b5 D M))):=by
 have A:=hr.len;have e9:=v.aF;refine tg ⟨λa4 K L W a5 x=>∃(j:Nat) (y:Nat->Prop),a5=j/\j<=w/\a4=w-j/\(∀h∈M.take j,h.Ok/\h.aK.length<=64)/\(ar (M.take j)).length<=675*j/\aV gq 5 y x K L W (ar (M.take j))/\ai l x/\∀e,y e->l.heap.size<=e,
  ⟨_,0,λ_=>False,rfl,Qj _,rfl,sM,by simp [ar],aV.nil l,aj.refl _,λ_ v=>v.elim⟩,?_⟩
 rintro a4 K L W a5 _ X ⟨j,y,rfl,hj,rfl,Z,d4,q,n,hF⟩;have b3:=q.len dC;refine al.dec (λd5=>?_) (λd6=>?_)
 ·obtain⟨e,a0,h,es,rfl,_,_,r,k,c0,n1,c1,rfl,hd,N⟩:=(hr.af n).sS (i:=j) oM
  have o:=λi (hi:i<10)=>k i hi;refine⟨e,a0,rfl,oM,oM,_,_,_,_,_,_,_,_,_,_,_,_,o 0 dC,o 1 dC,o 2 dC,o 3 dC,o 4 dC,o 5 dC,o 6 dC,o 7 dC,o 8 dC,o 9 dC,PA.mk λB C s2 g2=>?_⟩;refine storeAll (aE h c0 n1 c1) g2 rfl λE s s3 p=>?_;have z:ai X E:=C.new s λe g=>.inr oM;refine⟨_,_,_,_,_,_,_,_,_,_,_,_,ae p rfl,ae p rfl,ae p rfl,ae p rfl,ae p rfl,ae p rfl,ae p rfl,ae p rfl,ae p rfl,ae p rfl,?_⟩;refine PC.ok (FC (V.af ((v.gr.then n).then z)) (hd.af z) N λe g=>by have:=d1 e g;have:=(n.then z).size;omega) ?_;rintro _ w4 ⟨c3,n4,f0,F4,rfl,t,u,b4⟩
  by_cases O:h.aK.length<=64
  ·have a8:=rk N O
   rw [a8]at t⊢;have f1:=NW N O;refine⟨_,_,_,_,rfl,al.dw (λk=>absurd rfl k) (λ_=>?_)⟩;have a9:=z.then u;have c4:Row gq 1 w4 F4 c3 n4 (nP h):=t.row (bytes:=1) dC (by unfold aQ;dsimp only;omega);have f2:=a9.size;have f3:=z.size;refine sE (q.af a9) ur c4 (λh=>t.Pq h) (λe g=>⟨t.aF e g,λk=>by have:=q.aF e (q.self e k);have:=b4 e g;omega⟩) (by unfold aQ;omega) (by unfold maxLen;omega) λa7 c5 w5 F5 b0 d7 d8 _=>?_;have b1:M.take (j+1)=M.take j++[h]:=by rw [Qw,r];rfl
   refine⟨_,_,_,rfl,w-(j+1),oM,j+1,F5,an oM,oM,rfl,?_,?_,?_,(n.then a9).new d7 λe g=>.inr (by have:=hF e (q.self e g);omega),?_⟩
   ·rw [b1]
    intro c6 a1;rcases Q6.1 a1 with Y|Y
    ·exact Z c6 Y
    ·simp at Y;subst Y;exact⟨N,O⟩
   ·rw [b1,oS];simp;omega
   ·rw [b1,oS];exact b0
   ·intro e g
    have:=n.size;rcases d8 e g with Y|Y|Y
    ·exact hF e Y
    ·have:=b4 e Y;omega
    ·omega
  ·have a8:=y_ O
   rw [a8]at t⊢;refine⟨_,_,_,_,rfl,al.dw (λ_=>?_) (λk=>absurd k dC)⟩;have d2:M.any eD=true:=List.any_eq_true.2 ⟨h,QZ r,by unfold eD;simp;omega⟩;refine Ok.mk ?_;rw [show az b5 D M=(3,b5,D) by unfold az;rw [if_pos d2]];have b7:=(n.then z).then u;exact⟨rfl,v.af b7,ai.keep b7⟩
 ·obtain rfl:j=w:=oM
  rw [Qz oM]at Z d4 q b3;have b8:M.any eD=false:=by
   rw [<-Bool.not_eq_true];intro k;obtain⟨h,he,h2⟩:=List.any_eq_true.1 k;have:=(Z h he).2;unfold eD at h2;simp at h2;omega
  refine al.dX (λhz=>?_) (λd9=>?_)
  ·have he:M=[]:=QW oM
   refine Ok.mk ?_;rw [show az b5 D M=(0,b5,D) by unfold az;rw [if_neg (by simp [b8]),if_pos he]];exact⟨rfl,v.af n,ai.keep n⟩
  have e0:M≠[]:=λh=>d9 (by rw [A,h];rfl)
  let F:Nat->Prop:=λe=>f e\/y e
  have b9:cQ b X a c b5 D F:=v.add n λe g=>⟨hF e g,q.aF e g⟩
  have d3:az b5 D M=if(if b5.size<=b5.bytes then aG b5 D else(0,b5,D)).1≠0 then(if b5.size<=b5.bytes then aG b5 D else(0,b5,D))else
    if((if b5.size<=b5.bytes then aG b5 D else(0,b5,D)).2.2.append (if b5.size<=b5.bytes then aG b5 D else(0,b5,D)).2.1.last (ar M)).1≠0 then(((if b5.size<=b5.bytes then aG b5 D else(0,b5,D)).2.2.append (if b5.size<=b5.bytes then aG b5 D else(0,b5,D)).2.1.last (ar M)).1,(if b5.size<=b5.bytes then aG b5 D else(0,b5,D)).2.1,((if b5.size<=b5.bytes then aG b5 D else(0,b5,D)).2.2.append (if b5.size<=b5.bytes then aG b5 D else(0,b5,D)).2.1.last (ar M)).2)
    else(0,⟨(if b5.size<=b5.bytes then aG b5 D else(0,b5,D)).2.1.size,(if b5.size<=b5.bytes then aG b5 D else(0,b5,D)).2.1.aX,IntKind.wrap .i64 ((if b5.size<=b5.bytes then aG b5 D else(0,b5,D)).2.1.bytes+((ar M).length:Nat)),(if b5.size<=b5.bytes then aG b5 D else(0,b5,D)).2.1.next⟩,((if b5.size<=b5.bytes then aG b5 D else(0,b5,D)).2.2.append (if b5.size<=b5.bytes then aG b5 D else(0,b5,D)).2.1.last (ar M)).2):=by
   unfold az;rw [if_neg (by simp [b8]),if_neg e0]
  obtain⟨GL,f4,e2,f5⟩:=id b9;obtain⟨aL,nL,cL,EL,gL,f6,f7,g0⟩:=e2.row;rw [d3];refine⟨λx=>∃H P,(if b5.size<=b5.bytes then aG b5 D else(0,b5,D))=(0,H,P)/\H.aX≠[]/\cQ b x a c H P F/\aj (et f) l x/\aV gq 5 y x K L W (ar M),?_,?_⟩
  ·refine⟨c,0,rfl,_,ae gL rfl,c,0,rfl,_,ae gL rfl,λB e1=>?_⟩
   have C:ai X B:=e1.keep;have Q:=b9.af C;have R:=q.af C;have S:aj (et f) l B:=ai.keep (n.then C);refine al.dec (λd6=>?_) (λd5=>⟨b5,D,by rw [if_neg oM],d0,Q,S,R⟩);refine PC.ok (Gi V Q) ?_;rintro _ E ⟨rfl,I,s⟩;have c2:aj (et f) l E:=S.then (s.mono λe _ g r=>g (.inl r));have a2:(if b5.size<=b5.bytes then aG b5 D else(0,b5,D))=aG b5 D:=if_pos oM;rw [a2];refine⟨_,rfl,al.dw (λa3=>?_) (λT=>⟨_,_,by rw [<-T],tY T,I,c2,R.keep s λe g A=>A (.inr g)⟩)⟩;rw [if_pos a3];exact Ok.mk ⟨rfl,I.mono λe g=>.inl g,c2⟩
  ·rintro _ B ⟨H,P,a2,e3,Q,S,R⟩ E e4
   rw [a2];have s:ai B E:=e4.keep;have I:=Q.af s;have e5:=R.af s;obtain⟨G3,e6,U,J⟩:=id I;obtain⟨f8,n3,f9,E3,e7,-,-,-⟩:=U.row;refine⟨λe=>e≠c,c,0,rfl,λhs=>hs rfl,_,ae e7 rfl,PC.ok (JZ (V.af I.gr) U e3) ?_⟩;rintro _ w4 ⟨rfl,u⟩;have t:=e5.af u;have e8:Row gq 1 w4 y K L (ar M):=t.row (bytes:=1) dC (by unfold aQ;omega);refine⟨_,rfl,u.keep,PC.ok ((e6.af u).append e8 (λh=>t.Pq h) λe g=>.inr (.inl (.inr g))) ?_⟩;rintro _ w5 ⟨rfl,b2,k5⟩;have m:=(U.af u).keep k5 λe g A=>A (.inr g);have c7:aj (et f) l w5:=((S.af s).af u).then (k5.mono λe _ g r=>g (.inl (.inl r)));refine⟨_,rfl,k5.mono λe _ g h=>g (.inr (h▸U.self)),?_⟩;rw [if_neg (λk:((0,H,P):Int×cY×ak).1≠0=>k rfl)];refine al.dw (λa3=>?_) (λT=>?_)
   ·rw [if_pos a3]
    exact Ok.mk ⟨rfl,cQ.mono (X:=F) ⟨G3,b2,m,J⟩ λe g=>.inl g,c7⟩
   ·rw [if_neg (by simpa using T)]
    obtain⟨a7,n5,c5,E5,c8,b0,c9⟩:=m.body;refine⟨c,0,rfl,_,ae c8 rfl,c,0,rfl,PS.mk c8 sM λw6 k6 s6 g6=>Ok.mk ⟨rfl,?_,c7.then (k6.mono λe _ g r=>(J e (g▸m.self)).2 (.inl r))⟩⟩;rw [b3]at g6;refine cQ.mono (X:=F) ⟨G3,b2.fr k6 (λe g=>⟨.inr (g▸m.self),(J e (g▸m.self)).1⟩) (λe g=>⟨.inl g,by have:=(g.elim (cQ.aF (X:=F) ⟨G3,b2,m,J⟩ e) (m.aF e):e<w5.heap.size);omega⟩),⟨⟨a7,n5,c5,E5,g6,b0.keep k6 λe g h=>(c9 e g).2 h,c9⟩,m.self,λe g=>by have:=m.aF e g;omega,m.many,m.Cj⟩,J⟩ λe g=>.inl g
def dB (a:List UInt8):bQ:=⟨a,a.length,true⟩
structure bK (D:ak):Prop where
 dead:D.dead=false
 js:D.js=false
section
variable {D E:ak} {k:ByteArray} {l:List Int}
theorem Cq (D:ak) (a:ak->Int×ak):D.op a=(15,D.gone)\/D.op a=a D.di:=by
 unfold ak.op;split
 ·exact .inl rfl
 ·exact .inr rfl
theorem bK.op (b:bK D) (a:ak->Int×ak):D.op a=a D:=by
 unfold ak.op ak.dies ak.di;rw [b.dead,b.js]
 rfl
theorem bK.same (a:bK D) (b:E.dead=D.dead) (c:E.js=D.js):bK E:=⟨b.trans a.dead,c.trans a.js⟩
theorem Jt (a:bQ):a.cut a.bytes.length=dB a.bytes:=by
 have b:gY (a.bytes.length:Int) a.bytes.length=a.bytes.length:=by unfold gY;omega
 simp [bQ.cut,b,dB]
theorem lz (D:ak) (k:ByteArray):((D.create k).1≠0/\(D.create k).2.files=D.files)\/((D.create k).1=0/\dv k=true/\ay D.files k=none/\(D.create k).2.files=aJ D.files k ⟨[],0,false⟩):=by
 unfold ak.create;rcases Cq D λD=>if dv k then(if(ay D.files k).isSome then(16,D)else if 64<=D.files.length then(12,D)else(0,D.eJ k ⟨[],0,false⟩))else(1,D)with h|h
 ·rw [h];exact .inl ⟨sM,rfl⟩
 ·rw [h]
  have a:=eP D;split
  ·rename_i b
   split
   ·exact .inl ⟨sM,a⟩
   ·split
    ·exact .inl ⟨sM,a⟩
    ·rename_i c _
     refine .inr ⟨rfl,b,?_,?_⟩
     ·rw [<-a];simpa using c
     ·show aJ D.di.files k _=_;rw [a]
  ·exact .inl ⟨sM,a⟩
theorem bK.create (a:bK D) (k:ByteArray):bK (D.create k).2/\(dv k=true->ay D.files k=none->(D.create k).1=0\/(D.create k).1=12):=by
 unfold ak.create;rw [a.op];split
 ·split
  ·rename_i e c;exact⟨a,λ_ b=>by rw [b]at c;cases c⟩
  ·split
   ·exact⟨a,λ_ _=>.inr rfl⟩
   ·exact⟨a.same rfl rfl,λ_ _=>.inl rfl⟩
 ·rename_i b;exact⟨a,λd=>absurd d b⟩
theorem wA (D:ak) (k:ByteArray) (a:ak->bQ->Int×ak):((D.op (ak.Cr k a)).1≠0/\(D.op (ak.Cr k a)).2.files=D.files)\/∃b,ay D.files k=some b/\D.op (ak.Cr k a)=a D.di b:=by
 rcases Cq D (ak.Cr k a)with h|h
 ·rw [h];exact .inl ⟨sM,rfl⟩
 ·rw [h]
  unfold ak.Cr;rw [eP];split
  ·exact .inl ⟨sM,eP D⟩
  ·rename_i b c;exact .inr ⟨b,c,rfl⟩
theorem bK.on (b:bK D) (c:ay D.files k=some W) (a:ak->bQ->Int×ak):D.op (ak.Cr k a)=a D W:=by
 rw [b.op];unfold ak.Cr;rw [c]
theorem bK.YK (b:bK D) {a:ak->bQ->Int×ak} (c:∀d,bK (a D d).2):bK (D.op (ak.Cr k a)).2:=by
 rw [b.op];unfold ak.Cr;split
 ·exact b
 ·exact c _
theorem lA (D:ak) (k:ByteArray) (b:List UInt8):((D.append k b).1≠0/\(D.append k b).2.files=D.files)\/((D.append k b).1=0/\∃a,ay D.files k=some a/\(D.append k b).2.files=aJ D.files k {a with bytes:=a.bytes++b}):=by
 unfold ak.append;rcases wA D k λD a=>if(b.length:Int)>D.room then(12,D)else(0,D.eJ k {a with bytes:=a.bytes++b})with c|⟨a,d,c⟩
 ·exact .inl c
 ·rw [c]
  split
  ·exact .inl ⟨sM,eP D⟩
  ·exact .inr ⟨rfl,a,d,by show aJ D.di.files k _=_;rw [eP]⟩
theorem bK.append (a:bK D) (k:ByteArray) (b:List UInt8):bK (D.append k b).2/\∀c,ay D.files k=some c->(D.append k b).1=0\/(D.append k b).1=12:=by
 refine⟨?_,λc d=>?_⟩
 ·unfold ak.append
  refine a.YK λc=>?_;split
  ·exact a
  ·exact a.same rfl rfl
 ·unfold ak.append
  rw [a.on d];split
  ·exact .inr rfl
  ·exact .inl rfl
theorem iL (D:ak) (k:ByteArray):((D.sync k).1≠0/\(D.sync k).2.files=D.files)\/((D.sync k).1=0/\∃a,ay D.files k=some a/\(D.sync k).2.files=aJ D.files k (dB a.bytes)):=by
 unfold ak.sync;rcases wA D k λD a=>(0,D.eJ k (a.cut a.bytes.length))with b|⟨a,c,b⟩
 ·exact .inl b
 ·rw [b,Jt];exact .inr ⟨rfl,a,c,by show aJ D.di.files k _=_;rw [eP]⟩
theorem bK.sync (a:bK D) (k:ByteArray):bK (D.sync k).2/\∀b,ay D.files k=some b->(D.sync k).1=0:=by
 refine⟨?_,λb c=>?_⟩
 ·unfold ak.sync;exact a.YK λb=>a.same rfl rfl
 ·unfold ak.sync;rw [a.on c]
theorem jA (D:ak) (k:ByteArray):(D.delete k).2.files=D.files\/(D.delete k).2.files=bV D.files k:=by
 unfold ak.delete;rcases wA D k λD b=>(0,D.wB k)with a|⟨b,c,a⟩
 ·exact .inl a.2
 ·rw [a];exact .inr (by show bV D.di.files k=_;rw [eP])
theorem bK.delete (a:bK D) (k:ByteArray):bK (D.delete k).2/\((D.delete k).2.files=bV D.files k\/(ay D.files k=none/\(D.delete k).2.files=D.files)):=by
 unfold ak.delete;refine⟨a.YK λc=>a.same rfl rfl,?_⟩;rw [a.op];unfold ak.Cr;split
 ·rename_i b;exact .inr ⟨b,rfl⟩
 ·exact .inl rfl
def uz (k:ByteArray) (D E:ak):Prop:=Tidy E.files/\∀a,a≠k->ay E.files a=ay D.files a
theorem uz.refl (a:Tidy D.files):uz k D D:=⟨a,λ_ _=>rfl⟩
theorem uz.of (a:uz k D E) {b:ak} (c:b.files=E.files):uz k D b:=⟨by rw [c];exact a.1,λd e=>by rw [c];exact a.2 d e⟩
theorem uz.put (a:uz k D E) {b:ak} (c:b.files=aJ E.files k W):uz k D b:=⟨by rw [c];exact a.1.aJ _ _,λe d=>by rw [c,bu,if_neg (by simpa using d)];exact a.2 e d⟩
theorem uz.del (a:uz k D E) {F:ak} (b:F.files=bV E.files k):uz k D F:=⟨by rw [b];exact a.1.bV _,λd c=>by rw [b,gh a.1,if_neg (by simpa using c)];exact a.2 d c⟩
theorem uz.clean (a:uz aS D E):uz aS D (eK E).2:=by
 unfold eK;split
 ·rcases jA E aS with e|e
  ·exact a.of e
  ·exact a.del e
 ·exact a
def TX (D:ak) (l:List Int) (a:Int×ak):Prop:=(a.1≠0/\uz aS D a.2)\/
  (a.1=0/\l.length<=64/\Tidy a.2.files/\ay a.2.files cg=some (dB (bW l))/\∀b,b≠aS->b≠cg->ay a.2.files b=ay D.files b)
theorem TX.step {b k:Nat} {r:Int×ak} (g:pK l b E=r) (c:r.1≠0->uz aS D r.2) (d:r.1=0->TX D l (oU l (b+1) k r.2)):TX D l (oU l b (k+1) E):=by
 rw [oU,g];split
 ·rename_i a;exact .inl ⟨a,(c a).clean⟩
 ·rename_i a;exact d (by simpa using a)
theorem Lx (p:Tidy D.files) (l:List Int):TX D l (bJ D l):=by
 unfold bJ;split
 ·exact .inl ⟨sM,uz.refl p⟩
 rename_i A;have j:uz aS D (eK D).2:=(uz.refl p).clean;refine TX.step (r:=eK D) rfl (λ_=>j) λ_=>?_;generalize(eK D).2=f at j;have B:=lz f aS;refine TX.step (r:=f.create aS) rfl (λe=>?_) λv=>?_
 ·rcases B with B|B
  ·exact j.of B.2
  ·exact absurd B.1 e
 rcases B with B|⟨_,_,_,B⟩
 ·exact absurd v B.1
 have m:uz aS D (f.create aS).2:=j.put B;have q:ay (f.create aS).2.files aS=some ⟨[],0,false⟩:=by rw [B,bu];simp
 generalize(f.create aS).2=g at m q;have c:=lA g aS (bW l);refine TX.step (r:=g.append aS (bW l)) rfl (λe=>?_) λw=>?_
 ·rcases c with c|c
  ·exact m.of c.2
  ·exact absurd c.1 e
 rcases c with c|⟨_,k,d,c⟩
 ·exact absurd w c.1
 rw [q]at d;cases d
 have n:uz aS D (g.append aS (bW l)).2:=m.put c;have r:ay (g.append aS (bW l)).2.files aS=some ⟨bW l,0,false⟩:=by rw [c,bu];simp
 generalize(g.append aS (bW l)).2=h at n r;have F:=iL h aS;refine TX.step (r:=h.sync aS) rfl (λe=>?_) λx=>?_
 ·rcases F with F|F
  ·exact n.of F.2
  ·exact absurd F.1 e
 rcases F with F|⟨_,k,d,F⟩
 ·exact absurd x F.1
 rw [r]at d;cases d
 have i:uz aS D (h.sync aS).2:=n.put F;have s:ay (h.sync aS).2.files aS=some (dB (bW l)):=by rw [F,bu];simp
 generalize(h.sync aS).2=a at i s;have b:((a.rename aS cg).1≠0/\(a.rename aS cg).2.files=a.files)\/((a.rename aS cg).1=0/\(a.rename aS cg).2.files=aJ (bV a.files aS) cg (dB (bW l))):=by
  unfold ak.rename;rcases wA a aS λD k=>if dv cg then(0,(D.wB aS).eJ cg {k with jk:=true})else(1,D)with o|⟨k,d,o⟩
  ·exact .inl o
  ·rw [o,if_pos Ju]
   rw [s]at d;cases d
   exact .inr ⟨rfl,by show aJ (bV a.di.files aS) cg _=_;rw [eP];rfl⟩
 refine TX.step (r:=a.rename aS cg) rfl (λe=>?_) λy=>?_
 ·rcases b with b|b
  ·exact i.of b.2
  ·exact absurd b.1 e
 rcases b with b|⟨_,b⟩
 ·exact absurd y b.1
 refine .inr ⟨rfl,oM,?_,?_,λt u z=>?_⟩
 ·show Tidy (a.rename aS cg).2.files;rw [b];exact(i.1.bV _).aJ _ _
 ·show ay (a.rename aS cg).2.files cg=_;rw [b,bu];simp
 ·show ay (a.rename aS cg).2.files t=_
  rw [b,bu,if_neg (by simpa using z),gh i.1,if_neg (by simpa using u)];exact i.2 t u
def TY (a:Int×ak):Prop:=bK a.2/\(a.1=0\/a.1=3\/a.1=12)
theorem bK.clean (a:bK D):bK (eK D).2:=by
 unfold eK;split
 ·exact(a.delete _).1
 ·exact a
theorem LX (c:bK D) (a:Tidy D.files):(eK D).1=0/\ay (eK D).2.files aS=none/\Tidy (eK D).2.files:=by
 unfold eK;split
 ·rename_i b
  obtain⟨f,d⟩:=Option.isSome_iff_exists.1 b;have e:D.delete aS=(0,D.wB aS):=by unfold ak.delete;rw [c.on d]
  rw [e];exact⟨rfl,by show ay (bV _ _) _=_;rw [gh a];simp,a.bV _⟩
 ·rename_i b;exact⟨rfl,by simpa using b,a⟩
theorem TY.step {a k:Nat} {r:Int×ak} (g:pK l a E=r) (b:bK r.2) (c:r.1=0\/r.1=3\/r.1=12) (d:r.1=0->TY (oU l (a+1) k r.2)):TY (oU l a (k+1) E):=by
 rw [oU,g];split
 ·exact⟨b.clean,c⟩
 ·rename_i e;exact d (by simpa using e)
theorem bK.bJ (j:bK D) (t:Tidy D.files) (l:List Int):TY (bJ D l):=by
 unfold Go.Proofs.YtfchlbaidamodaaGreatDoor.bJ;split
 ·exact⟨j,.inr (.inl rfl)⟩
 obtain⟨z1,q,u⟩:=LX j t;have k:=j.clean;refine TY.step (r:=eK D) rfl k (.inl z1) λ_=>?_;generalize(eK D).2=f at k q u;have a:=lz f aS;obtain⟨m,v⟩:=k.create aS;refine TY.step (r:=f.create aS) rfl m ((v TZ q).imp id .inr) λw=>?_;rcases a with a|⟨_,_,_,a⟩
 ·exact absurd w a.1
 have r:ay (f.create aS).2.files aS=some ⟨[],0,false⟩:=by rw [a,bu];simp
 generalize(f.create aS).2=g at m r;have b:=lA g aS (bW l);obtain⟨n,x⟩:=m.append aS (bW l);refine TY.step (r:=g.append aS (bW l)) rfl n ((x _ r).imp id .inr) λy=>?_;rcases b with b|⟨_,c,B,b⟩
 ·exact absurd y b.1
 have h:∃c,ay (g.append aS (bW l)).2.files aS=some c:=by rw [b,bu];simp
 generalize(g.append aS (bW l)).2=i at n h;obtain⟨C,h⟩:=h;have d:=iL i aS;obtain⟨e,z⟩:=n.sync aS;refine TY.step (r:=i.sync aS) rfl e (.inl (z _ h)) λA=>?_;rcases d with d|⟨_,c,E,d⟩
 ·exact absurd A d.1
 have s:ay (i.sync aS).2.files aS=some (dB c.bytes):=by rw [d,bu];simp
 generalize(i.sync aS).2=o at e s;have p:o.rename aS cg=(0,(o.wB aS).eJ cg {dB c.bytes with jk:=true}):=by
  unfold ak.rename;rw [e.on s,if_pos Ju]
 refine TY.step (r:=o.rename aS cg) rfl (by rw [p];exact e.same rfl rfl) (.inl (by rw [p])) λF=>?_;rw [p];exact⟨e.same rfl rfl,.inl rfl⟩
end
abbrev oA:=List (Int×List ah)
def dt (a:oA):List Int:=a.map (·.1)
def cI (a:oA) (b:List ah):List ah:=(a.map (·.2)).flatten++b
structure cE (D:ak) (A:oA) (no:Int) (l:List ah) (k:Nat):Prop where
 tidy:Tidy D.files
 full:∀x∈A,ay D.files (au x.1)=some (dB (ar x.2))
 last:∃s,ay D.files (au no)=some ⟨ar l,s,true⟩/\(ar (l.take k)).length<=s/\s<=(ar l).length
 kl:k<=l.length
 WV:ay D.files cg=some (dB (bW (dt A++[no])))
 AS:∀n∈dt A++[no],1<=n/\n<1000000000000
 Ac:(dt A++[no]).Pairwise (·<·)
 evs:∀e∈cI A l,e.Ok/\e.aK.length<=64
 many:A.length+1<=64
structure AV (V:cY) (A:oA) (no:Int) (l:List ah):Prop where
 aX:V.aX=dt A++[no]
 bytes:V.bytes=((ar l).length:Nat)
 next:no<V.next/\V.next<=1000000000000
theorem fk {n:Int} (e:dv (au n)=true\/0<=n/\n<1000000000000):au n≠cg/\au n≠aS:=by
 have c:cg.data.toList.take 4≠dV:=by decide+kernel
 have d:aS.data.toList.take 4≠dV:=by decide+kernel
 have a:(au n).data.toList.take 4=dV\/(au n).data.toList=[]:=by
  unfold au;rw [og];unfold aB;split
  ·exact .inr rfl
  ·exact .inl (by simp [dV])
 refine⟨λb=>?_,λb=>?_⟩
 ·rw [b]at a
  rcases a with a|a
  ·exact c a
  ·revert a;decide+kernel
 ·rw [b]at a
  rcases a with a|a
  ·exact d a
  ·revert a;decide+kernel
theorem gi {a b:Int} (c:0<=a/\a<1000000000000) (d:au b=au a):b=a:=Ka c.1 c.2 (Ox d)
theorem uy (b:0<=e):dv (au e)=true↔e<1000000000000:=by
 constructor
 ·intro a
  by_cases c:e<1000000000000
  ·exact c
  ·have:au e=cR []:=by unfold au aB;rw [if_pos (.inr oM)]
   have d:dv (cR [])=false:=by decide+kernel
   rw [this,d]at a;cases a
 ·intro a;exact Kb b a
section
variable {D E:ak} {A:oA} {no:Int} {l x:List ah} {k j:Nat} {V:cY}
theorem cE.same (a:cE D A no l k) (e:Tidy E.files) (b:∀c∈dt A++[no],ay E.files (au c)=ay D.files (au c)) (f:ay E.files cg=ay D.files cg):cE E A no l k:=
 ⟨e,λx d=>(b x.1 (List.mem_append_left _ (Xk.2 ⟨x,d,rfl⟩))).trans (a.full x d),by
  obtain⟨g,h,i⟩:=a.last;exact⟨g,(b no (List.mem_append_right _ (List.mem_singleton.2 rfl))).trans h,i⟩,a.kl,f.trans a.WV,a.AS,a.Ac,a.evs,a.many⟩
theorem cE.files (b:cE D A no l k) (a:E.files=D.files):cE E A no l k:=b.same (by rw [a];exact b.tidy) (λ_ _=>by rw [a]) (by rw [a])
theorem cE.mL (a:cE D A no l k):1<=no/\no<1000000000000:=a.AS no (List.mem_append_right _ (List.mem_singleton.2 rfl))
theorem cE.Vu (b:cE D A no l k):∀a∈A,au a.1≠au no:=λa d e=>by
 have f:=b.mL;have:=gi ⟨oM,f.2⟩ e;have c:=b.Ac;rw [List.pairwise_append]at c;have:=c.2.2 a.1 (Xk.2 ⟨a,d,rfl⟩) no (List.mem_singleton.2 rfl);omega
theorem cE.put (a:cE D A no l k) {l':List ah} {s d:Nat} (b:E.files=aJ D.files (au no) ⟨ar l',s,true⟩) (g:d<=l'.length) (h:(ar (l'.take d)).length<=s) (i:s<=(ar l').length) (j:∀c∈l',c.Ok/\c.aK.length<=64):cE E A no l' d:=
 ⟨by rw [b];exact a.tidy.aJ _ _,λe f=>by rw [b,bu,if_neg (by simpa using a.Vu e f)];exact a.full e f,⟨s,by rw [b,bu];simp,h,i⟩,g,by
  have:=(fk (n:=no) (.inr (by have:=a.mL;omega))).1;rw [b,bu,if_neg (by simpa using this.symm)];exact a.WV,a.AS,a.Ac,λc b=>by
  rcases Q6.1 b with F|F
  ·exact a.evs c (List.mem_append_left _ F)
  ·exact j c F,a.many⟩
theorem cE.Yr (b:cE D A no l k):∀a∈l,a.Ok/\a.aK.length<=64:=λa c=>b.evs a (List.mem_append_right _ c)
theorem cE.rQ (a:AV V A no l):V.last=au no:=by unfold cY.last;rw [a.aX];simp [au]
theorem sK (a:cE D A no l k):((D.sync (au no)).1=0/\cE (D.sync (au no)).2 A no l l.length)\/((D.sync (au no)).1≠0/\cE (D.sync (au no)).2 A no l k):=by
 rcases iL D (au no)with⟨b,c⟩|⟨b,f,d,c⟩
 ·exact .inr ⟨b,a.files c⟩
 ·obtain⟨g,e,h,i⟩:=a.last
  rw [e]at d;cases d
  exact .inl ⟨b,a.put c (Q4 _) (by rw [List.take_length];exact Q4 _) (Q4 _) a.Yr⟩
theorem vl (o:Tidy D.files) (p:0<=V.next):((bF V D).1≠0/\(bF V D).2.1=V/\Tidy (bF V D).2.2.files/\∀x,x≠au V.next->x≠aS->ay (bF V D).2.2.files x=ay D.files x)\/
  ((bF V D).1=0/\V.next<1000000000000/\V.aX.length+1<=64/\ay D.files (au V.next)=none/\(bF V D).2.1=⟨V.size,V.aX++[V.next],0,V.next+1⟩/\Tidy (bF V D).2.2.files/\ay (bF V D).2.2.files (au V.next)=some (dB [])/\
   ay (bF V D).2.2.files cg=some (dB (bW (V.aX++[V.next])))/\∀x,x≠au V.next->x≠aS->x≠cg->ay (bF V D).2.2.files x=ay D.files x):=by
 unfold bF;dsimp only;rw [show cR (aB V.next)=au V.next from rfl];rcases lz D (au V.next)with⟨g,h⟩|⟨g,h,y,q⟩
 ·rw [if_pos g]
  exact .inl ⟨g,rfl,by show Tidy (D.create _).2.files;rw [h];exact o,λx _ _=>by show ay (D.create (au V.next)).2.files x=_;rw [h]⟩
 have r:=(uy p).1 h;obtain⟨z,nt⟩:=fk (n:=V.next) (.inr ⟨p,r⟩);rw [if_neg (show¬(D.create (au V.next)).1≠0 by simpa using g)];have i:uz (au V.next) D (D.create (au V.next)).2:=(uz.refl o).put q;have s:ay (D.create (au V.next)).2.files (au V.next)=some ⟨[],0,false⟩:=by rw [q,bu];simp
 generalize(D.create (au V.next)).2=b at i s;unfold m_;dsimp only;rw [show cR (aB V.next)=au V.next from rfl];have c:∀{F:ak},Tidy F.files->(∀x,x≠au V.next->x≠aS->ay F.files x=ay D.files x)->Tidy (F.delete (au V.next)).2.files/\∀x,x≠au V.next->x≠aS->ay (F.delete (au V.next)).2.files x=ay D.files x:=by
  intro F n t;rcases jA F (au V.next)with e|e
  ·rw [e];exact⟨n,t⟩
  ·rw [e];exact⟨n.bV _,λx a d=>by rw [gh n,if_neg (by simpa using a)];exact t x a d⟩
 rcases iL b (au V.next)with⟨j,f⟩|⟨j,H,u,f⟩
 ·rw [if_pos j]
  have:=c (F:=(b.sync (au V.next)).2) (by rw [f];exact i.1) λx a _=>by rw [f];exact i.2 x a
  exact .inl ⟨j,rfl,this⟩
 rw [s]at u;cases u
 have k:uz (au V.next) D (b.sync (au V.next)).2:=i.put f;have v:ay (b.sync (au V.next)).2.files (au V.next)=some (dB []):=by rw [f,bu];simp
 rw [if_neg (show¬(b.sync (au V.next)).1≠0 by simpa using j)];generalize(b.sync (au V.next)).2=A at k v;rcases Lx k.1 (V.aX++[V.next])with⟨l,m⟩|⟨l,m,B,C,w⟩
 ·rw [if_pos l]
  have:=c (F:=(bJ A (V.aX++[V.next])).2) m.1 λx a d=>(m.2 x d).trans (k.2 x a);exact .inl ⟨l,rfl,this⟩
 ·rw [if_neg (by simpa using l)]
  refine .inr ⟨rfl,r,by simpa using m,y,?_,B,(w _ nt z).trans v,C,λx a d E=>(w x d E).trans (k.2 x a)⟩;rw [wrap_i64 (by unfold aN;omega)]
end
end Go.Proofs.YtfchlbaidamodaaGreatDoor
namespace Go.Proofs
open Go.RowKit Go.Maps Go.Sort Go.Shelf
end Go.Proofs
namespace Go.Proofs.YtfchlbaidamodaaGreatDoor
open Go.ax
open Go.RowKit Go.Maps Go.Sort Go.Shelf
end Go.Proofs.YtfchlbaidamodaaGreatDoor

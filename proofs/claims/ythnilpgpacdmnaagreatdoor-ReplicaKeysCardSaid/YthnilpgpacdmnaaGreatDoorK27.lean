import Derived.Test.YthnilpgpacdmnaaGreatDoorK26
namespace Go.Proofs.YthnilpgpacdmnaaGreatDoor
open Go.au
set_option maxRecDepth 100000
set_option linter.unusedVariables false
def IM:fq:=⟨[(2,[(10,.int .i64 0)])],[],[],[],[]⟩
variable{t:Ending->World->Prop}{E V b1 e n:Int}{x:List UInt8}{H:List aj}{C a b4 c i l:Nat}{a2 f:Nat->Prop}{a9 d g6 p:Option Addr}{b k:World}{m:aj}{b0:dU}
theorem IN (k:(∃h:Nat->Int->World->Prop,(∃g,h g 0 b)/\∀(g:Nat) (f:Int) (s:Nat->Value) (i:World),h g f i->al (decide (f<(a:Int))) ((ix_ d f a λl m=>PS i (ad l (m+Int.toNat f*5+1)) (.ii e) λo=>(ix_ d f a λp q=>PS o (ad p (q+Int.toNat f*5+2)) (.ii n) λr=>(∃j,j<g/\h j (IntKind.wrap .i64 (f+1)) r)))) (rt t ((.slice d a c)) i))):Calls Tryz.prog 126 #[.ii e,.ii n,.slice d a c] b t:=DC IM Tryz.func126 rfl k
def zD:fq:=⟨[(2,[(7,.int .i64 0)]),(5,[(8,.int .i64 0)]),(10,[(9,.int .i64 0)])],[],[],[],[]⟩
theorem zF (B:PA b (.cells #[.slice a9 a c,.slice g6 i l] 25) λD=>(∃o:Nat->Int->World->Prop,(∃h,o h (-1) D)/\∀(h:Nat) (f:Int) (Z:Nat->Value) (j:World),o h f j->(rS j (ab_ b 0) λa4 C a5=>al (decide (f<=(C:Int))) ((∃q:Nat->Int->World->Prop,(∃k,q k 0 j)/\∀(k:Nat) (e:Int) (a6:Nat->Value) (r:World),q k e r->al (decide (e<4)) (PC_ 18 #[.pointer d,.ii f,.ii e] r (kX_ 55 λE G=>PC_ 18 #[.pointer p,.ii f,.ii e] G (kX_ 55 λF H=>PC_ 43 #[E,F] H (kB λI u=>al (!I) (rt t ((.bool false)) u) (PC_ 44 #[.pointer d,.ii f,.ii e,.ii e] u (kX_ 55 λJ K=>PC_ 44 #[.pointer p,.ii f,.ii e,.ii e] K (kX_ 55 λL M=>PC_ 43 #[J,L] M (kB λN v=>al (!N) (rt t ((.bool false)) v) ((∃w,w<k/\q w (IntKind.wrap .i64 (e+1)) v))) (pE t)) (pE t)) (pE t))) (pE t)) (pE t)) (pE t)) ((∃x,x<h/\o x (IntKind.wrap .i64 (f+1)) r)))) ((∃s:Nat->Int->World->Prop,(∃m,s m (-1) j)/\∀(m:Nat) (g:Int) (a7:Nat->Value) (n:World),s m g n->(rS n (ab_ b (0+1)) λa8 O a0=>al (decide (g<=(O:Int))) (PC_ 45 #[.pointer d,.ii g,.ii (-9223372036854775808)] n (kX_ 55 λP Q=>PC_ 45 #[.pointer p,.ii g,.ii (-9223372036854775808)] Q (kX_ 55 λR S=>PC_ 43 #[P,R] S (kB λT y=>al (!T) (rt t ((.bool false)) y) (PC_ 45 #[.pointer d,.ii g,.ii 2] y (kX_ 55 λU V=>PC_ 45 #[.pointer p,.ii g,.ii 2] V (kX_ 55 λW X=>PC_ 43 #[U,W] X (kB λY z=>al (!Y) (rt t ((.bool false)) z) ((∃A,A<m/\s A (IntKind.wrap .i64 (g+1)) z))) (pE t)) (pE t)) (pE t))) (pE t)) (pE t)) (pE t)) (rt t ((.bool true)) n))))))):Calls Tryz.prog 13 #[.pointer d,.pointer p,.agg #[.slice a9 a c,.slice g6 i l]] b t:=DC zD Tryz.func13 rfl B
def vL:fq:=⟨[(13,[(68,.int .i64 0)])],[(11,[]),(20,[(25,.pointer (some ⟨0,0,none⟩)),(26,.int .i64 0)])],[19],[],[(19,⟨[0,0,0,4,0,24,0,96,171,256,512,512,0,6143,16383],[32767,32767,32767,32763,32767,32751,32767,32671,32628,32511,32255,32255,32767,27647,30719],[1,0,0,2,0,2,0,0,2,0,0,0,2,2,0]⟩)]⟩
theorem vM {r g X Y Z a4 a5 a6 a7:Int} (a1:PA b (.cells #[.slice d a c,.slice p i l] 25) λf=>PA f (.cells #[.ii X,.ii Y,.ii Z,.ii a4,.ii a5,.ii a6,.ii a7] 30) λh=>PA h (.cells #[.ii 0,.ii 0,.ii 0,.slice none 0 0,.ii 0,.ii 0,.ii 0,.ii 0,.ii 0,.ii 0] 60) λv=>(∃a8 a0 b0 b1 b2 b3,v.cell? (ab_ b 0)=some (.slice a8 a0 b0)/\v.cell? (ab_ b (0+1))=some (.slice b1 b2 b3)/\(Ld 30 (ab_ f 0) v λf2=>PC_ 82 #[.agg #[.slice a8 a0 b0,.slice b1 b2 b3],f2] v (kI_ λb4 A=>al (b4 !=0) (St 60 (ab_ h 0) (.agg #[.ii 0,.ii 0,.ii 0,.slice none 0 0,.ii 0,.ii 0,.ii 0,.ii 0,.ii 0,.ii 0]) A λb5=>(Ld 60 (ab_ h 0) b5 λf3=>rt t ((.tuple #[f3,.bool false,.ii b4])) b5)) ((rI A (ab_ f (0+6)) λf4=>PC_ 83 #[.pointer a9,.ii f4] A (λf5 B=>xC (dT Tryz.prog 60) λb6=>∃b7,f5= .tuple #[b6,.bool b7]/\PA B (.cells #[.ii 0,.ii 0,.ii 0,.slice none 0 0,.ii 0,.ii 0,.ii 0,.ii 0,.ii 0,.ii 0] 60) λf6=>St 60 (ab_ B 0) b6 f6 λj=>al b7 ((Ld 60 (ab_ B 0) j λf7=>St 60 (ab_ h 0) f7 j λb8=>(Ld 60 (ab_ h 0) b8 λf8=>rt t ((.tuple #[f8,.bool false,.ii 0])) b8))) ((rS j (ab_ b 0) λf9 g0 j1=>(rI j (ab_ f 0) λb9=>(ix_ f9 b9 g0 λg1 g2=>(rS j (ad g1 (g2+Int.toNat b9)) λg3 g4 g5=>PA j (.cells #[.slice none 0 0] 107) λa2=>PS a2 (ab_ j 0) (.slice g3 g4 g5) λC=>(rI C (ab_ f 0) λg7=>(rI C (ab_ f (0+1)) λg8=>PC_ 84 #[.pointer g6,.ii g7,.ii g8] C (λg9 o=>∃c0 c1 c2 c3 c4,g9= .tuple #[.agg #[.ii c0,.slice c1 c2 c3],.bool c4]/\PA o (.cells #[.ii 0,.slice none 0 0] 51) λh0=>PS h0 (ab_ o 0) (.ii c0) λh1=>PS h1 (ab_ o (0+1)) (.slice c1 c2 c3) λE=>(∃F:World->Prop,(al (!c4) ((rS E (ab_ j 0) λh2 h3 h4=>PC_ 85 #[.agg #[.slice h2 h3 h4]] E (kS_ λh5 h6 h7 h8=>PS h8 (ab_ o (0+1)) (.slice h5 h6 h7) λh9=>F h9) (pE t))) (F E))/\∀(j2:Nat->Value) (H:World),F H->PA H (.cells #[.func (.func 86) #[] #[.pointer (some (ab_ f 0)),.pointer (some (ab_ o 0))],.func (.func 87) #[] #[.pointer (some (ab_ j 0)),.pointer (some (ab_ o 0)),.pointer (some (ab_ f 0))]] 86) λi0=>(∃I:Nat->Int->World->Prop,(∃w,I w 0 i0)/\∀(w:Nat) (q:Int) (j3:Nat->Value) (x:World),I w q x->al (decide (q<(2:Int))) ((∃c5 c6,((some (ab_ H 0)):Option Addr)=some ⟨c5,c6,none⟩/\(0:Int)<=q/\q<(2:Int)/\(∃(c7:Value),x.cell? (ad c5 (c6+Int.toNat q))=some c7/\(∃J c8 d0,(c7:Value)= .func (.func J) c8 d0/\enters Tryz.prog J=true/\PC_ J (c8++ #[]++d0) x (kI_ λd1 d2=>al (d1 !=0) (St 60 (ab_ h 0) (.agg #[.ii 0,.ii 0,.ii 0,.slice none 0 0,.ii 0,.ii 0,.ii 0,.ii 0,.ii 0,.ii 0]) d2 λd3=>(Ld 60 (ab_ h 0) d3 λi1=>rt t ((.tuple #[i1,.bool false,.ii d1])) d3)) ((∃d4,d4<w/\I d4 (IntKind.wrap .i64 (q+1)) d2))) (pE t))))) ((∃s:Nat->Nat->Int->World->Prop,((∀k,bd x k->∃e:Nat->Prop,(¬e f.heap.size/\(Ld 30 (ab_ f 0) k λy=>((PC_ 38 #[.pointer a9] k (kS_ λD K L m=>(ak e k m/\((PC_ 90 #[.pointer a9] m (kI_ λz n=>(ak e m n/\((PC_ 89 #[y,.ii r,.slice D K L,.ii (if g>z then g else z)] n (λi2 u=>xC (dT Tryz.prog 60) λd5=>∃d6,i2= .tuple #[d5,.ii d6]/\(ak e n u/\PA u (.cells #[.ii 0,.ii 0,.ii 0,.slice none 0 0,.ii 0,.ii 0,.ii 0,.ii 0,.ii 0,.ii 0] 60) λG=>(ak e u G/\St 60 (ab_ u 0) d5 G λd7=>(ak e G d7/\s u.heap.size 0 d6 d7)))) (pZ t))/\(PA n (.cells #[.ii 0,.ii 0,.ii 0,.slice none 0 0,.ii 0,.ii 0,.ii 0,.ii 0,.ii 0,.ii 0] 60) λM=>(ak e n M/\PC_ 89 #[y,.ii r,.slice D K L,.ii (if g>z then g else z)] M (λi3 N=>xC (dT Tryz.prog 60) λd8=>∃d9,i3= .tuple #[d8,.ii d9]/\(ak e M N/\St 60 (ab_ n 0) d8 N λe0=>(ak e N e0/\s n.heap.size 0 d9 e0))) (pZ t)))))) (pZ t))/\(PA m (.cells #[.ii 0,.ii 0,.ii 0,.slice none 0 0,.ii 0,.ii 0,.ii 0,.ii 0,.ii 0,.ii 0] 60) λO=>(ak e m O/\PC_ 90 #[.pointer a9] O (kI_ λe1 P=>(ak e O P/\PC_ 89 #[y,.ii r,.slice D K L,.ii (if g>e1 then g else e1)] P (λi4 Q=>xC (dT Tryz.prog 60) λe2=>∃e3,i4= .tuple #[e2,.ii e3]/\(ak e P Q/\St 60 (ab_ m 0) e2 Q λe4=>(ak e Q e4/\s m.heap.size 0 e3 e4))) (pZ t))) (pZ t)))))) (pZ t))/\(PA k (.cells #[.ii 0,.ii 0,.ii 0,.slice none 0 0,.ii 0,.ii 0,.ii 0,.ii 0,.ii 0,.ii 0] 60) λR=>(ak e k R/\PC_ 38 #[.pointer a9] R (kS_ λi5 i6 i7 S=>(ak e R S/\PC_ 90 #[.pointer a9] S (kI_ λe5 T=>(ak e S T/\PC_ 89 #[y,.ii r,.slice i5 i6 i7,.ii (if g>e5 then g else e5)] T (λi8 U=>xC (dT Tryz.prog 60) λe6=>∃e7,i8= .tuple #[e6,.ii e7]/\(ak e T U/\St 60 (ab_ k 0) e6 U λe8=>(ak e U e8/\s k.heap.size 0 e7 e8))) (pZ t))) (pZ t))) (pZ t))))))))/\∀(e9:Nat) (f0:Nat) (V:Int) (j4:Nat->Value) (W:World),s e9 f0 V W->(Ld 60 (ad e9 f0) W λi9=>St 60 (ab_ h 0) i9 W λf1=>(Ld 60 (ab_ h 0) f1 λj0=>rt t ((.tuple #[j0,.bool (V==0),.ii V])) f1))))))) (pE t))))))))) (pE t)))) (pE t)))):Calls Tryz.prog 40 #[.agg #[.slice d a c,.slice p i l],.pointer a9,.pointer g6,.ii r,.ii g,.agg #[.ii X,.ii Y,.ii Z,.ii a4,.ii a5,.ii a6,.ii a7]] b t:=DC vL Tryz.func40 rfl a1
def zK:fq:=⟨[],[(3,[]),(7,[(9,.slice none 0 0)]),(11,[(9,.slice none 0 0)])],[],[],[]⟩
theorem zM {x y D z:Nat} (R:PA b (.cells #[.ii n,.ii E,.ii V,.slice p x y,.slice a9 D z] 42) λc=>(∃l:World->Prop,((rI c (ab_ b 0) λS=>al (S !=1) ((rI c (ab_ b 0) λT=>al (T !=2) (rt t ((.slice none 0 0)) c) (l c))) (l c)))/\∀(d8:Nat->Value) (m:World),l m->(∃o:Option Addr->Nat->Nat->World->Prop,((rS m (ab_ b (0+3)) λU W X=>PC_ 67 #[.pointer d,.slice U W X,.ii (if(if 32<b1 then 32 else b1)>1 then(if 32<b1 then 32 else b1)else 1)] m (kS_ λY A Z q=>al (decide ((A:Int)>0)) (PA q (.cells #[.ii 3,.ii 0,.ii 0,.slice none 0 0,.slice Y A Z] 42) λa3=>PR_ (ap_ 87 (.slice none 0 0) (.slice (some (ab_ q 0)) 1 1)) a3 (kS_ λa4 a5 a6 a7=>o a4 a5 a6 a7) (pV t)) (o none 0 0 q)) (pE t)))/\∀(f:Option Addr) (g:Nat) (h:Nat) (d9:Nat->Value) (G:World),o f g h G->PC_ 38 #[.pointer d] G (kS_ λr s u B=>(∃i:Option Addr->Nat->Nat->World->Prop,((rS B (ab_ b (0+3)) λa8 a0 b0=>PC_ 125 #[.slice a8 a0 b0,.slice r s u] B (kI_ λC a=>(rI a (ab_ b 0) λa1=>al (a1==1) (al (C==2) (PA a (.cells #[.ii 2,.ii 0,.ii 0,.slice r s u,.slice none 0 0] 42) λb2=>PR_ (ap_ 87 (.slice f g h) (.slice (some (ab_ a 0)) 1 1)) b2 (kS_ λb3 b4 b5 b6=>i b3 b4 b5 b6) (pV t)) (al (C==3) (PA a (.cells #[.ii 2,.ii 0,.ii 0,.slice r s u,.slice none 0 0] 42) λb7=>PR_ (ap_ 87 (.slice f g h) (.slice (some (ab_ a 0)) 1 1)) b7 (kS_ λb8 b9 c0 c1=>i b8 b9 c0 c1) (pV t)) (i f g h a))) (i f g h a))) (pE t)))/\∀(v:Option Addr) (k:Nat) (w:Nat) (e0:Nat->Value) (j:World),i v k w j->al ((k:Int)==0) ((rI j (ab_ b (0+1)) λc2=>PC_ 123 #[.pointer d,.ii e,.ii c2] j (λc3 F=>∃H I J K L M N O P,c3= .agg #[.ii H,.ii I,.ii J,.slice K L M,.slice N O P]/\PA F (.cells #[.ii H,.ii I,.ii J,.slice K L M,.slice N O P] 42) λc4=>PR_ (ap_ 87 (.slice v k w) (.slice (some (ab_ F 0)) 1 1)) c4 (kS_ λc5 c6 c7 Q=>(rI Q (ab_ b (0+1)) λc8=>PC_ 126 #[.ii e,.ii c8,.slice c5 c6 c7] Q (kS_ λc9 d0 d1 d2=>rt t ((.slice c9 d0 d1)) d2) (pE t))) (pV t)) (pE t))) ((rI j (ab_ b (0+1)) λd3=>PC_ 126 #[.ii e,.ii d3,.slice v k w] j (kS_ λd4 d5 d6 d7=>rt t ((.slice d4 d5 d6)) d7) (pE t))))) (pE t)))):Calls Tryz.prog 66 #[.pointer d,.ii e,.agg #[.ii n,.ii E,.ii V,.slice p x y,.slice a9 D z],.ii b1] b t:=DC zK Tryz.func66 rfl R
def sI:fq:=⟨[],[],[],[],[]⟩
theorem sJ (d:(rI b (ad a (c+5)) λe=>al (e==(-1)) (rt t ((.ii 0)) b) ((rI b (ad a (c+5)) λf=>(rI b (ad i l) λg=>al (f==g) (rt t ((.ii 0)) b) (rt t ((.ii 11)) b)))))):Calls Tryz.prog 86 #[.pointer (some ⟨a,c,none⟩),.pointer (some ⟨i,l,none⟩)] b t:=DC sI Tryz.func86 rfl d
def sK:fq:=⟨[],[],[],[],[]⟩
theorem sL (d:(rS b (ad a c) λe f g=>(rS b (ad i (l+1)) λh j k=>(rI b (ad C (b4+2)) λm=>(rI b (ad C (b4+3)) λn=>(rI b (ad C (b4+4)) λo=>PC_ 88 #[.agg #[.slice e f g],.slice h j k,.ii m,.ii n,.ii o] b (kI_ λp q=>rt t ((.ii p)) q) (pE t))))))):Calls Tryz.prog 87 #[.pointer (some ⟨a,c,none⟩),.pointer (some ⟨i,l,none⟩),.pointer (some ⟨C,b4,none⟩)] b t:=DC sK Tryz.func87 rfl d
set_option maxRecDepth 20000
def uC (D:an) (a:Int):dU:=⟨a,[],0,Ax D⟩
def told (D:an):List Int:=(eK D).getD []
def nm (b:Nat) (a:pg):pg:=
 if a.no≠0 then a else
 if a.V.bC=[]then⟨(aY a.V a.D).1,a.out,(aY a.V a.D).2.1,(aY a.V a.D).2.2⟩else
 if a.V.bC.length<b then⟨(bZ a.D a.V.bC).1,a.out,a.V,(bZ a.D a.V.bC).2⟩else a
def eh (D:an) (a:Int):pg:=nm (told D).length (jf (told D) [] (uC D a) D)
def QD (g d:World) (h:Nat) (e:Nat->Prop) (a:pg) (i:Value) (b:World):Prop:=
 (a.no≠0/\i= .tuple #[.pointer none,.slice none 0 0,.int .i64 a.no]/\aS g b h a.D e/\ak (dv e) d b)\/
 (a.no=0/\∃f j k l G,i= .tuple #[.pointer (some ⟨f,0,none⟩),.slice j k l,.int .i64 0]/\aO pw 60 G b j k l a.out/\bY g b h f a.V a.D (λc=>e c\/G c)/\ak (dv e) d b/\(∀c,G c->d.heap.size<=c)/\d.heap.size<=f/\a.out.length<=16777216)
theorem GB {D:an} {size:Int} (t:Laid b) (j:aS b k a D f):
  Calls Tryz.prog 56 #[.pointer (some ⟨a,0,none⟩),.int .i64 size] k (Ok (QD b k a f (eh D size))):=by
 have S:∀c,f c->c<k.heap.size:=by obtain⟨a0,h1,h2,h3,h4⟩:=j;exact h4
 have c9:=j.gr.size;obtain⟨a0,hF,-,-,-⟩:=id j;refine BI (PC.ok (Hh (t.ah j.gr) hF) ?_);rintro _ g ⟨rfl,H⟩;have T:=j.ah H;have d0:=CZ D.list;refine⟨_,rfl,PA.mk λw2 U s2 g2=>PC.ok ((T.ah U).iW t.mN) ?_⟩;rintro _ u ⟨y,z,V,A,rfl,W,X,-,I⟩;have z1:=H.size;have z3:=I.size
 change aO aG 3 A u y z V (told D)at W
 have d1:(told D).length<=64:=CB;have b3:ai g u:=U.then I;refine⟨_,_,_,_,rfl,PA.mk λw4 k4 s4 g4=>PS.mk g4 sM λm k5 s5 Y=>⟨_,_,_,ae Y rfl,?_⟩⟩;have b4:m.heap[u.heap.size]? =some (.cells #[.slice y z V] 202 (0,0)):=Y;have J:ai u m:=k4.new k5 λc d=>.inr oM;have Z:ai g m:=b3.then J;have a7:ai k m:=H.then Z;have b5:=J.get (I.get g2 id) id;have a8:=W.ah J
 let K:Nat->Prop:=λc=>f c\/(A c\/c=u.heap.size)
 have b6:bY b m a g.heap.size (uC D size) D K:=by
  refine⟨(·=g.heap.size),T.dZ Z (Y:=λ_=>False) (λc d=>d.elim) λc d=>?_,⟨⟨none,0,0,λ_=>False,b5,aO.nil m,λ_ j=>j.elim⟩,rfl,λc d=>oM,Qj _,?_⟩,λc d=>⟨oM,λE=>?_⟩⟩
  ·rcases d with(d|d|d)|d
   ·exact⟨.inl d,by have:=S c d;omega⟩
   ·exact⟨.inr (by have:=X c d;omega),a8.aC c d⟩
   ·exact⟨.inr oM,oM⟩
   ·exact⟨.inr oM,oM⟩
  ·show aK (wV D.list);unfold aK;omega
  ·subst d
   rcases E with E|E|E
   ·have:=S _ E;omega
   ·have:=X _ E;omega
   ·omega
 have L:Row aG 8 m A y z (told D):=a8.row dC (by unfold aI;omega);refine PC.ok (OF t b6 L (λc d=>.inr (.inl d)) (by show 0+_<=_;omega)) ?_;rintro _ M ⟨a6,n6,c6,n,rfl,B,v,N,b7,a9⟩;have z5:=a7.size;have hq:k.heap.size<=g.heap.size:=z1;have O:ak (dv f) k M:=(ai.af a7).then (N.mono λc _ d E=>d (.inl E));have g6:=N.get b4 λl=>l (.inr (.inr rfl));have b8:Row aG 8 M A y z (told D):=L.af N λc d l=>l (.inr (.inl d));have d2:=L.len;show _;unfold eh;generalize jf (told D) [] (uC D size) D=h at B v a9;have b0:∀c,n c->k.heap.size<=c:=λc d=>by have:=b7 c d;omega
 refine⟨_,_,_,_,rfl,λno o=>∃p q,nm (told D).length h=⟨no,h.out,p,q⟩/\aO pw 60 n o a6 n6 c6 h.out/\bY b o a g.heap.size p q (λc=>f c\/n c)/\ak (dv f) k o,?_,?_⟩
 ·have e:∀{o p q},bY b o a g.heap.size p q (λc=>K c\/n c)->bY b o a g.heap.size p q (λc=>f c\/n c):=λj=>j.mono λc d=>d.imp .inl id
  refine al.df (λr=>⟨h.V,h.D,by unfold nm;rw [if_pos r],B,e v,O⟩) (λw=>?_);obtain⟨GL,b9,b1,c0⟩:=id v;obtain⟨aL,nL,cL,EL,P,b2,c1,c2⟩:=b1.row;refine⟨_,_,rfl,_,_,_,ae P rfl,al.dJ (λhz=>?_) (λc4=>?_)⟩
  ·have Q:h.V.bC=[]:=QW oM
   refine PC.ok (Da t v) ?_;rintro _ C ⟨rfl,s,i⟩;exact⟨_,rfl,_,_,by unfold nm;rw [if_neg (by simpa using w),if_pos Q],B.af i λc d l=>l (.inr d),e s,O.then (i.mono λc _ d E=>d (.inl (.inl E)))⟩
  ·have r:¬h.V.bC=[]:=λa1=>c4 (by rw [c2,a1];rfl)
   refine⟨_,_,rfl,_,_,_,ae P rfl,_,_,_,ae g6 rfl,λC d7=>?_⟩;have i:ai M C:=d7.af;have s:=v.ah i;have F:=B.ah i;have x:ak (dv f) k C:=O.ah i;refine al.dec (λd3=>?_) (λd4=>⟨_,_,by unfold nm;rw [if_neg (by simpa using w),if_neg r,if_neg oM],F,e s,x⟩);have c5:=i.get P id;refine⟨_,_,rfl,_,_,_,ae c5 rfl,PC.ok ((b9.ah i).bZ t.mN (b2.ah i) (KS b2) λc d=>.inr (.inr (c1 c d).1)) ?_⟩;rintro _ w8 ⟨rfl,c7,R⟩;have c8:bY b w8 a g.heap.size h.V (bZ h.D h.V.bC).2 (λc=>K c\/n c):=⟨GL,c7,(b1.ah i).af R λc d l=>l (.inr d),c0⟩
   exact⟨_,rfl,_,_,by unfold nm;rw [if_neg (by simpa using w),if_neg r,if_pos oM],F.af R λc d l=>l (.inl (.inr d)),e c8,x.then (R.mono λc _ d E=>d (.inl (.inl (.inl E))))⟩
 ·rintro no _ C ⟨p,q,Q,F,s,x⟩
  rw [Q];refine al.df (λr=>Ok.mk (.inl ⟨r,rfl,s.ug.mono λc d=>.inl d,x⟩)) (λw=>Ok.mk (.inr ⟨w,g.heap.size,a6,n6,c6,n,by rfl,F,s,x,b0,hq,a9⟩))
def fD (a:aj):Bool:=decide (64<a.aN.length)
def bl (b:dU) (D:an) (c:List aj):Int×dU×an:=
 if c.any fD then(3,b,D)else if c=[]then(0,b,D)else
 let a:=if b.size<=b.bytes then aY b D else(0,b,D)
 if a.1≠0 then a else
 let d:=a.2.2.append a.2.1.last (dm c)
 if d.1≠0 then(d.1,a.2.1,d.2)else(0,⟨a.2.1.size,a.2.1.bC,IntKind.wrap .i64 (a.2.1.bytes+((dm c).length:Nat)),a.2.1.next⟩,d.2)
theorem rE {D:an} (a:(aY b0 D).1=0):(aY b0 D).2.1.bC≠[]:=by
 have e:∀b:an,(pS b0 b).1=0->(pS b0 b).2.1.bC≠[]:=by
  intro b;unfold pS;dsimp only;split
  ·rename_i c;intro a;exact absurd a c
  ·split
   ·rename_i c;intro a;exact absurd a c
   ·intro _;simp
 have d:∀b:an,(lz b0 b).1=0->(lz b0 b).2.1.bC≠[]:=by
  intro b;unfold lz;dsimp only;split
  ·rename_i c;intro a;exact absurd a c
  ·exact e _
 revert a
 unfold aY;dsimp only;split
 ·exact d D
 ·split
  ·rename_i c;intro a;exact absurd a c
  ·exact d _
theorem Kw (a:m.Ok) (b:m.aN.length<=64):(vP m).length<=675:=by
 have:=KR a b;have c:=o_ a b;unfold vP at*;rw [jS];omega
theorem mW (a:List aj) (b:aj):dm (a++[b])=dm a++vP b:=by simp [dm]
theorem JC {D:an} {w b6:Nat} (V:Laid b) (v:bY b k a c b0 D f) (d0:b0.bC≠[]) (hr:Row f_ 96 k a2 d w H) (d1:∀e,a2 e->e<k.heap.size) (hl:H.length<=20000000):
  Calls Tryz.prog 91 #[.pointer (some ⟨c,0,none⟩),.slice d w b6] k (Ok (C_ b k a c f (bl b0 D H))):=by
 have A:=hr.len;have e9:=v.aC;refine qJ ⟨λa6 L M W a7 x=>∃(j:Nat) (y:Nat->Prop),a7=j/\j<=w/\a6=w-j/\(∀h∈H.take j,h.Ok/\h.aN.length<=64)/\(dm (H.take j)).length<=675*j/\aO fg 5 y x L M W (dm (H.take j))/\ai k x/\∀e,y e->k.heap.size<=e,
  ⟨_,0,λ_=>False,rfl,Qj _,rfl,sM,by simp [dm],aO.nil k,ak.refl _,λ_ v=>v.elim⟩,?_⟩
 rintro a6 L M W a7 _ X ⟨j,y,rfl,hj,rfl,Z,d4,q,n,hF⟩;have b3:=q.len dC;refine al.dec (λd5=>?_) (λd6=>?_)
 ·obtain⟨e,a0,h,es,rfl,_,_,r,l,c0,n1,c1,rfl,hd,N⟩:=(hr.ah n).vO (i:=j) oM
  have o:=λi (hi:i<10)=>l i hi;refine⟨e,a0,rfl,oM,oM,_,_,_,_,_,_,_,_,_,_,_,_,o 0 dC,o 1 dC,o 2 dC,o 3 dC,o 4 dC,o 5 dC,o 6 dC,o 7 dC,o 8 dC,o 9 dC,PA.mk λB C s2 g2=>?_⟩;refine storeAll (aB h c0 n1 c1) g2 rfl λE s s3 p=>?_;have z:ai X E:=C.new s λe g=>.inr oM;refine⟨_,_,_,_,_,_,_,_,_,_,_,_,ae p rfl,ae p rfl,ae p rfl,ae p rfl,ae p rfl,ae p rfl,ae p rfl,ae p rfl,ae p rfl,ae p rfl,?_⟩;refine PC.ok (CC (V.ah ((v.gr.then n).then z)) (hd.ah z) N λe g=>by have:=d1 e g;have:=(n.then z).size;omega) ?_;rintro _ w4 ⟨c3,n4,f0,F4,rfl,t,u,b4⟩
  by_cases O:h.aN.length<=64
  ·have a8:=o_ N O
   rw [a8]at t⊢;have f1:=Kw N O;refine⟨_,_,_,_,rfl,al.df (λl=>absurd rfl l) (λ_=>?_)⟩;have a9:=z.then u;have c4:Row fg 1 w4 F4 c3 n4 (vP h):=t.row (bytes:=1) dC (by unfold aI;dsimp only;omega);have f2:=a9.size;have f3:=z.size;refine yp (q.ah a9) rZ c4 (λh=>t.LK h) (λe g=>⟨t.aC e g,λl=>by have:=q.aC e (q.self e l);have:=b4 e g;omega⟩) (by unfold aI;omega) (by unfold maxLen;omega) λb5 c5 w5 F5 a1 d7 d8 _=>?_;have b1:H.take (j+1)=H.take j++[h]:=by rw [Qw,r];rfl
   refine⟨_,_,_,rfl,w-(j+1),oM,j+1,F5,aq oM,oM,rfl,?_,?_,?_,(n.then a9).new d7 λe g=>.inr (by have:=hF e (q.self e g);omega),?_⟩
   ·rw [b1]
    intro c6 a3;rcases Q6.1 a3 with Y|Y
    ·exact Z c6 Y
    ·simp at Y;subst Y;exact⟨N,O⟩
   ·rw [b1,mW];simp;omega
   ·rw [b1,mW];exact a1
   ·intro e g
    have:=n.size;rcases d8 e g with Y|Y|Y
    ·exact hF e Y
    ·have:=b4 e Y;omega
    ·omega
  ·have a8:=wF O
   rw [a8]at t⊢;refine⟨_,_,_,_,rfl,al.df (λ_=>?_) (λl=>absurd l dC)⟩;have d2:H.any fD=true:=List.any_eq_true.2 ⟨h,QZ r,by unfold fD;simp;omega⟩;refine Ok.mk ?_;rw [show bl b0 D H=(3,b0,D) by unfold bl;rw [if_pos d2]];have b7:=(n.then z).then u;exact⟨rfl,v.ah b7,ai.af b7⟩
 ·obtain rfl:j=w:=oM
  rw [Qz oM]at Z d4 q b3;have b8:H.any fD=false:=by
   rw [<-Bool.not_eq_true];intro l;obtain⟨h,he,h2⟩:=List.any_eq_true.1 l;have:=(Z h he).2;unfold fD at h2;simp at h2;omega
  refine al.dJ (λhz=>?_) (λd9=>?_)
  ·have he:H=[]:=QW oM
   refine Ok.mk ?_;rw [show bl b0 D H=(0,b0,D) by unfold bl;rw [if_neg (by simp [b8]),if_pos he]];exact⟨rfl,v.ah n,ai.af n⟩
  have e0:H≠[]:=λh=>d9 (by rw [A,h];rfl)
  let F:Nat->Prop:=λe=>f e\/y e
  have b9:bY b X a c b0 D F:=v.add n λe g=>⟨hF e g,q.aC e g⟩
  have d3:bl b0 D H=if(if b0.size<=b0.bytes then aY b0 D else(0,b0,D)).1≠0 then(if b0.size<=b0.bytes then aY b0 D else(0,b0,D))else
    if((if b0.size<=b0.bytes then aY b0 D else(0,b0,D)).2.2.append (if b0.size<=b0.bytes then aY b0 D else(0,b0,D)).2.1.last (dm H)).1≠0 then(((if b0.size<=b0.bytes then aY b0 D else(0,b0,D)).2.2.append (if b0.size<=b0.bytes then aY b0 D else(0,b0,D)).2.1.last (dm H)).1,(if b0.size<=b0.bytes then aY b0 D else(0,b0,D)).2.1,((if b0.size<=b0.bytes then aY b0 D else(0,b0,D)).2.2.append (if b0.size<=b0.bytes then aY b0 D else(0,b0,D)).2.1.last (dm H)).2)
    else(0,⟨(if b0.size<=b0.bytes then aY b0 D else(0,b0,D)).2.1.size,(if b0.size<=b0.bytes then aY b0 D else(0,b0,D)).2.1.bC,IntKind.wrap .i64 ((if b0.size<=b0.bytes then aY b0 D else(0,b0,D)).2.1.bytes+((dm H).length:Nat)),(if b0.size<=b0.bytes then aY b0 D else(0,b0,D)).2.1.next⟩,((if b0.size<=b0.bytes then aY b0 D else(0,b0,D)).2.2.append (if b0.size<=b0.bytes then aY b0 D else(0,b0,D)).2.1.last (dm H)).2):=by
   unfold bl;rw [if_neg (by simp [b8]),if_neg e0]
  obtain⟨GL,g0,e2,g1⟩:=id b9;obtain⟨aL,nL,cL,EL,gL,g4,g5,g7⟩:=e2.row;rw [d3];refine⟨λx=>∃I P,(if b0.size<=b0.bytes then aY b0 D else(0,b0,D))=(0,I,P)/\I.bC≠[]/\bY b x a c I P F/\ak (dv f) k x/\aO fg 5 y x L M W (dm H),?_,?_⟩
  ·refine⟨c,0,rfl,_,ae gL rfl,c,0,rfl,_,ae gL rfl,λB e1=>?_⟩
   have C:ai X B:=e1.af;have Q:=b9.ah C;have R:=q.ah C;have S:ak (dv f) k B:=ai.af (n.then C);refine al.dec (λd6=>?_) (λd5=>⟨b0,D,by rw [if_neg oM],d0,Q,S,R⟩);refine PC.ok (Da V Q) ?_;rintro _ E ⟨rfl,J,s⟩;have c2:ak (dv f) k E:=S.then (s.mono λe _ g r=>g (.inl r));have a4:(if b0.size<=b0.bytes then aY b0 D else(0,b0,D))=aY b0 D:=if_pos oM;rw [a4];refine⟨_,rfl,al.df (λa5=>?_) (λT=>⟨_,_,by rw [<-T],rE T,J,c2,R.af s λe g A=>A (.inr g)⟩)⟩;rw [if_pos a5];exact Ok.mk ⟨rfl,J.mono λe g=>.inl g,c2⟩
  ·rintro _ B ⟨I,P,a4,e3,Q,S,R⟩ E e4
   rw [a4];have s:ai B E:=e4.af;have J:=Q.ah s;have e5:=R.ah s;obtain⟨G3,e6,U,K⟩:=id J;obtain⟨f4,n3,f5,E3,e7,-,-,-⟩:=U.row;refine⟨λe=>e≠c,c,0,rfl,λhs=>hs rfl,_,ae e7 rfl,PC.ok (Hi (V.ah J.gr) U e3) ?_⟩;rintro _ w4 ⟨rfl,u⟩;have t:=e5.ah u;have e8:Row fg 1 w4 y L M (dm H):=t.row (bytes:=1) dC (by unfold aI;omega);refine⟨_,rfl,u.af,PC.ok ((e6.ah u).append e8 (λh=>t.LK h) λe g=>.inr (.inl (.inr g))) ?_⟩;rintro _ w5 ⟨rfl,b2,k5⟩;have m:=(U.ah u).af k5 λe g A=>A (.inr g);have c7:ak (dv f) k w5:=((S.ah s).ah u).then (k5.mono λe _ g r=>g (.inl (.inl r)));refine⟨_,rfl,k5.mono λe _ g h=>g (.inr (h▸U.self)),?_⟩;rw [if_neg (λl:((0,I,P):Int×dU×an).1≠0=>l rfl)];refine al.df (λa5=>?_) (λT=>?_)
   ·rw [if_pos a5]
    exact Ok.mk ⟨rfl,bY.mono (X:=F) ⟨G3,b2,m,K⟩ λe g=>.inl g,c7⟩
   ·rw [if_neg (by simpa using T)]
    obtain⟨b5,n5,c5,E5,c8,a1,c9⟩:=m.body;refine⟨c,0,rfl,_,ae c8 rfl,c,0,rfl,PS.mk c8 sM λw6 k6 s6 g6=>Ok.mk ⟨rfl,?_,c7.then (k6.mono λe _ g r=>(K e (g▸m.self)).2 (.inl r))⟩⟩;rw [b3]at g6;refine bY.mono (X:=F) ⟨G3,b2.dZ k6 (λe g=>⟨.inr (g▸m.self),(K e (g▸m.self)).1⟩) (λe g=>⟨.inl g,by have:=(g.elim (bY.aC (X:=F) ⟨G3,b2,m,K⟩ e) (m.aC e):e<w5.heap.size);omega⟩),⟨⟨b5,n5,c5,E5,g6,a1.af k6 λe g h=>(c9 e g).2 h,c9⟩,m.self,λe g=>by have:=m.aC e g;omega,m.many,m.zN⟩,K⟩ λe g=>.inl g
def bL (a:List aj):List UInt8×Int:=if a.any fD then([],3)else(dm a,0)
theorem IP (V:Laid b) (E:Row f_ 96 b f d a H) (W:∀e,f e->e<b.heap.size) (hl:H.length<=20000000):
  Calls Tryz.prog 136 #[.slice d a c] b (Ok λX r=>∃F I J n,X= .tuple #[.slice F I J,.int .i64 (bL H).2]/\aO fg 5 n r F I J (bL H).1/\ai b r/\∀e,n e->b.heap.size<=e):=by
 have hn:=E.len;refine vx ⟨λK L N O P r=>∃(g:Nat) (n:Nat->Prop),P=g/\g<=a/\K=a-g/\(∀h∈H.take g,h.Ok/\h.aN.length<=64)/\(dm (H.take g)).length<=675*g/\aO fg 5 n r L N O (dm (H.take g))/\ai b r/\∀e,n e->b.heap.size<=e,
  ⟨_,0,λ_=>False,rfl,Qj _,rfl,sM,by simp [dm],aO.nil b,ak.refl _,λ_ v=>v.elim⟩,?_⟩
 rintro K L N O P _ Y ⟨g,n,rfl,hj,rfl,w,Z,p,o,x⟩;refine al.dec (λa9=>?_) (λb0=>?_)
 ·obtain⟨e,y,h,es,rfl,_,_,Q,l,a1,n1,c1,rfl,hd,t⟩:=(E.ah o).vO (i:=g) oM
  have j:=λi (hi:i<10)=>l i hi;refine⟨e,y,rfl,oM,oM,_,_,_,_,_,_,_,_,_,_,_,_,j 0 dC,j 1 dC,j 2 dC,j 3 dC,j 4 dC,j 5 dC,j 6 dC,j 7 dC,j 8 dC,j 9 dC,PA.mk λw2 k2 s2 g2=>?_⟩;refine storeAll (aB h a1 n1 c1) g2 rfl λw3 k3 s3 k=>?_;have q:ai Y w3:=k2.new k3 λe m=>.inr oM;refine⟨_,_,_,_,_,_,_,_,_,_,_,_,ae k rfl,ae k rfl,ae k rfl,ae k rfl,ae k rfl,ae k rfl,ae k rfl,ae k rfl,ae k rfl,ae k rfl,?_⟩;refine PC.ok (CC (V.ah (o.then q)) (hd.ah q) t λe m=>by have:=W e m;have:=(o.then q).size;omega) ?_;rintro _ R ⟨a4,n4,c4,F4,rfl,s,S,T⟩
  by_cases u:h.aN.length<=64
  ·have z:=o_ t u
   rw [z]at s⊢;have b1:=Kw t u;refine⟨_,_,_,_,rfl,al.df (λl=>absurd rfl l) (λ_=>?_)⟩;have A:=q.then S;have a0:Row fg 1 R F4 a4 n4 (vP h):=s.row (bytes:=1) dC (by unfold aI;dsimp only;omega);have b2:=A.size;have b3:=q.size;refine yp (p.ah A) rZ a0 (λh=>s.LK h) (λe m=>⟨s.aC e m,λl=>by have:=p.aC e (p.self e l);have:=T e m;omega⟩) (by unfold aI;omega) (by unfold maxLen;omega) λb4 c5 w5 F5 a3 a6 a7 _=>?_;have B:H.take (g+1)=H.take g++[h]:=by rw [Qw,Q];rfl
   refine⟨_,_,_,rfl,a-(g+1),oM,g+1,F5,aq oM,oM,rfl,?_,?_,?_,(o.then A).new a6 λe m=>.inr (by have:=x e (p.self e m);omega),?_⟩
   ·rw [B]
    intro a2 C;rcases Q6.1 C with M|M
    ·exact w a2 M
    ·simp at M;subst M;exact⟨t,u⟩
   ·rw [B,mW];simp;omega
   ·rw [B,mW];exact a3
   ·intro e m
    have:=o.size;rcases a7 e m with M|M|M
    ·exact x e M
    ·have:=T e M;omega
    ·omega
  ·have z:=wF u
   rw [z]at s⊢;refine⟨_,_,_,_,rfl,al.df (λ_=>?_) (λl=>absurd l dC)⟩;have a5:H.any fD=true:=List.any_eq_true.2 ⟨h,QZ Q,by unfold fD;simp;omega⟩;rw [show bL H=([],3) by unfold bL;rw [if_pos a5]];exact Ok.mk ⟨none,0,0,λ_=>False,rfl,aO.nil R,(o.then q).then S,λ_ v=>v.elim⟩
 ·obtain rfl:g=a:=oM
  rw [Qz oM]at w Z p;have a8:H.any fD=false:=by
   rw [<-Bool.not_eq_true];intro l;obtain⟨h,he,U⟩:=List.any_eq_true.1 l;have:=(w h he).2;unfold fD at U;simp at U;omega
  rw [show bL H=(dm H,0) by unfold bL;rw [if_neg (by simp [a8])]];exact Ok.mk ⟨_,_,_,n,rfl,p,o,x⟩
def eC (no:Int) (f:List UInt8) (D:an):Int×an:=
 let a:=cx (aA no)
 let b:=D.create a
 if b.1≠0 then(b.1,b.2)else
 let c:=b.2.append a f
 if c.1≠0 then(c.1,(c.2.delete a).2)else
 let d:=c.2.sync a
 if d.1≠0 then(d.1,(d.2.delete a).2)else
 let e:=bZ d.2 [no]
 (e.1,if e.1≠0 then(e.2.delete a).2 else e.2)
theorem LM {D:an} {no:Int} (hL:Laid b) (M:aS b k a D f) (R:aK no) (h:Row fg 1 k a2 d c x) (c4:d=none->c=0/\i=0) (b1:∀e,a2 e->f e):
  Calls Tryz.prog 137 #[.pointer (some ⟨a,0,none⟩),.int .i64 no,.slice d c i] k (Ok (lX b k a f (eC no x D))):=by
 have e3:=M.gr.size;have S:∀e,f e->e<k.heap.size:=by obtain⟨b0,f1,f2,T,U⟩:=M;exact U
 refine xB (PA.mk λy k1 s1 g1=>PA.mk λw2 V s2 g2=>PC.ok (iE (hL.ah ((M.gr.then k1).then V)) R) ?_);rintro _ W ⟨rfl,N⟩;have z3:=N.size;refine⟨_,rfl,PA.mk λw4 X s4 g4=>PS.mk g4 sM λY Z s5 g5=>?_⟩
 let t:Nat->Prop:=λe=>f e\/(e=k.heap.size\/e=y.heap.size\/e=W.heap.size)
 have b2:ai k Y:=((((k1.then V).then N).then X)).new Z λe h=>.inr oM;have c8:aS b Y a D t:=M.add b2 λe h=>by omega
 let z:World->Int->Prop:=λl n=>l.heap[k.heap.size]? =some (.cells #[.pointer (some ⟨a,0,none⟩)] 73 (0,0))/\l.heap[y.heap.size]? =some (.cells #[.int .i64 n] 34 (0,0))/\l.heap[W.heap.size]? =some (.cells #[.string (cx (aA no))] 9 (0,0))
 have C5:z Y 0:=⟨Z.get (X.get (N.get (V.get g1 id) id) id) oM,Z.get (X.get (N.get g2 id) id) oM,g5⟩
 have j:∀{l p:World} {n:Int},z l n->ak (dv t) l p->z p n:=λo u=>
  ⟨u.get o.1 λq=>q (.inr (.inl rfl)),u.get o.2.1 λq=>q (.inr (.inr (.inl rfl))),u.get o.2.2 λq=>q (.inr (.inr (.inr rfl)))⟩
 have I:∀{l p:World},ak (dv f) k l->ak (dv t) l p->ak (dv f) k p:=λd e=>d.then (e.mono λe _ h r=>h (.inl r));have g:∀{l:World} {n C:Int} {v:an} {κ:World->Prop},z l n->aS b l a v t->ak (dv f) k l->(∀p,z p C->aS b p a v t->ak (dv f) k p->ak (·=y.heap.size) l p->κ p)->PS l ⟨y.heap.size,0,none⟩ (.int .i64 C) κ:=by
  intro l n C v κ o hN u a0;have h1:=ay o.2.1;refine PS.mk o.2.1 sM λp A e4 c9=>a0 p ⟨A.get o.1 oM,c9,A.get o.2.2 oM⟩ ?_ (u.then (A.mono λe _ h r=>by have:=S e r;omega)) A;obtain⟨b0,f1,f2,T,U⟩:=hN;exact⟨b0,f1.af A λe h n=>(T e h).2 (.inr (.inr (.inl n))),f2.new A λe h=>.inr oM,T,λe h=>Qk (U e h) A.size⟩
 have m:∀{J:Int×an} (n:Int) (v:an) (l:World),aS b l a v t->ak (dv f) k l->z l n->J=(n,if n≠0 then(v.delete (cx (aA no))).2 else v)->
   Lv Tryz.prog (λb3=>∃b4:Int,b3.cell? ⟨y.heap.size,0,none⟩=some (.int .i64 b4)/\Ok (lX b k a f J) (.returned (.int .i64 b4)) b3) (λch l=>Ok (lX b k a f J) (.panicked ch) l)
    ([{target:=.fn (.func 198) #[.pointer (some ⟨y.heap.size,0,none⟩),.pointer (some ⟨k.heap.size,0,none⟩),.pointer (some ⟨W.heap.size,0,none⟩)],args:= #[]}]:List Deferred) .returning l:=by
  intro J n v l q u o hr;refine Lv.one sM kR (CallsD.mono (si (R:=λC K=>C= .returned (.tuple #[])/\∃b5:Int,K.cell? ⟨y.heap.size,0,none⟩=some (.int .i64 b5)/\Ok (lX b k a f J) (.returned (.int .i64 b5)) K) ⟨_,ae o.2.1 rfl,al.df (λs=>⟨_,ae o.1 rfl,_,ae o.2.2 rfl,PC.ok q.delete ?_⟩) (λB=>⟨rfl,_,ae o.2.1 rfl,Ok.mk ?_⟩)⟩) ?_)
  ·rintro _ wb ⟨rfl,d0,kb⟩
   have d1:=j o kb;refine⟨_,rfl,rfl,_,ae d1.2.1 rfl,Ok.mk ?_⟩;rw [hr,if_pos s];exact⟨rfl,d0.mono λe h=>.inl h,I u kb⟩
  ·rw [hr,if_neg (by simpa using B)]
   exact⟨rfl,q.mono λe h=>.inl h,u⟩
  ·rintro C u' K ⟨rfl,rfl,S⟩
   exact Lv.ret rfl S
 refine⟨_,ae C5.1 rfl,_,ae C5.2.2 rfl,PC.ok c8.create ?_⟩;rintro _ w6 ⟨rfl,b6,k6⟩;have C6:=j C5 k6;have d2:=I (ai.af b2) k6;have hW:eC no x D=if(D.create (cx (aA no))).1≠0 then((D.create (cx (aA no))).1,(D.create (cx (aA no))).2)else
   if((D.create (cx (aA no))).2.append (cx (aA no)) x).1≠0 then(((D.create (cx (aA no))).2.append (cx (aA no)) x).1,(((D.create (cx (aA no))).2.append (cx (aA no)) x).2.delete (cx (aA no))).2)else
   if((((D.create (cx (aA no))).2.append (cx (aA no)) x).2).sync (cx (aA no))).1≠0 then(((((D.create (cx (aA no))).2.append (cx (aA no)) x).2).sync (cx (aA no))).1,(((((D.create (cx (aA no))).2.append (cx (aA no)) x).2).sync (cx (aA no))).2.delete (cx (aA no))).2)else
   ((bZ ((((D.create (cx (aA no))).2.append (cx (aA no)) x).2).sync (cx (aA no))).2 [no]).1,if(bZ ((((D.create (cx (aA no))).2.append (cx (aA no)) x).2).sync (cx (aA no))).2 [no]).1≠0 then((bZ ((((D.create (cx (aA no))).2.append (cx (aA no)) x).2).sync (cx (aA no))).2 [no]).2.delete (cx (aA no))).2 else(bZ ((((D.create (cx (aA no))).2.append (cx (aA no)) x).2).sync (cx (aA no))).2 [no]).2):=rfl
 rw [hW];generalize D.create (cx (aA no))=cr at b6⊢;refine⟨_,rfl,g C6 b6 d2 λK E b7 a4 k7=>⟨_,ae E.2.1 rfl,al.df (λs=>?_) (λB=>?_)⟩⟩
 ·refine⟨_,ae E.2.1 rfl,g E b7 a4 λw8 C8 O a5 k8=>⟨_,ae C8.2.1 rfl,Ok.mk ?_⟩⟩
  rw [if_pos s];exact⟨rfl,O.mono λe h=>.inl h,a5⟩
 rw [if_neg (by simpa using B)];have d3:Row fg 1 K a2 d c x:=h.af a4 λe h q=>q (b1 e h);refine⟨_,ae E.1 rfl,_,ae E.2.2 rfl,PC.ok (b7.append d3 c4 λe h=>.inr (.inl (b1 e h))) ?_⟩;rintro _ w8 ⟨rfl,O,k8⟩;have C8:=j E k8;have a5:=I a4 k8;generalize cr.2.append (cx (aA no)) x=ap at O⊢;refine⟨_,rfl,g C8 O a5 λw9 F b8 b9 k9=>⟨_,ae F.2.1 rfl,al.df (λs=>?_) (λB=>?_)⟩⟩
 ·refine⟨_,ae F.2.1 rfl,g F b8 b9 λc0 a6 P a1 a7=>?_⟩
  rw [if_pos s];exact m _ _ c0 P a1 a6 (by rw [if_pos s])
 rw [if_neg (by simpa using B)];refine⟨_,ae F.1 rfl,_,ae F.2.2 rfl,PC.ok b8.sync ?_⟩;rintro _ c0 ⟨rfl,P,a7⟩;have a6:=j F a7;have a1:=I b9 a7;generalize ap.2.sync (cx (aA no))=sy at P⊢;refine⟨_,rfl,g a6 P a1 λa8 L c1 c2 e5=>⟨_,ae L.2.1 rfl,al.df (λs=>?_) (λB=>?_)⟩⟩
 ·refine⟨_,ae L.2.1 rfl,g L c1 c2 λH a9 a3 c5 Q=>?_⟩
  rw [if_pos s];exact m _ _ H a3 c5 a9 (by rw [if_pos s])
 rw [if_neg (by simpa using B)];refine⟨_,ae L.1 rfl,PA.mk λH Q e6 c3=>?_⟩;have a3:aS b H a sy.2 (λe=>t e\/e=a8.heap.size):=c1.add Q λe h=>by subst h;exact⟨Q4 _,ay c3⟩
 have c6:Row aG 8 H (·=a8.heap.size) (some ⟨a8.heap.size,0,none⟩) 1 [no]:=Row.lit c3 [no] rfl (λc7 r=>by simp at r;subst r;exact R) (by unfold aI;simp);refine PC.ok (a3.bZ hL.mN c6 (λc7 r=>by simp at r;subst r;exact R) λe h=>.inr (.inr h)) ?_;rintro _ d4 ⟨rfl,d5,d6⟩;have w:ak (dv t) H d4:=d6.mono λe _ h hy=>h (.inl hy);have a9:z H sy.1:=j L (ai.af Q);have d7:=j a9 w;have d8:=I (c2.ah Q) w;exact⟨_,rfl,g d7 (d5.mono λe h=>.inl h) d8 λd9 e0 e1 e2 e7=>m _ _ d9 e1 e2 e0 rfl⟩
def pf:List Int->an->an
 |[],D=>D
 |no::a,D=>if(D.delete (fr no)).1≠0 then(D.delete (fr no)).2 else pf a (D.delete (fr no)).2
def cm (a:dU) (D:an) (b:List aj) (c:Int):pg:=
 if(bL b).2≠0 then⟨(bL b).2,[],a,D⟩else
 if(eC a.next (bL b).1 D).1≠0 then⟨(eC a.next (bL b).1 D).1,[],a,(eC a.next (bL b).1 D).2⟩else
 eh (pf a.bC (eC a.next (bL b).1 D).2) c
def IQ (e i:World) (f j:Nat) (k:dU) (c:Nat->Prop) (b:pg) (g:Value) (d:World):Prop:=
 ∃G,gY d f j G k/\(∀a,G a->e.heap.size<=a/\¬c a)/\ak (dv c) i d/\
  ((b.no≠0/\g= .tuple #[.pointer none,.int .i64 b.no]/\aS e d f b.D (λa=>c a\/G a))\/
   (b.no=0/\∃h,g= .tuple #[.pointer (some ⟨h,0,none⟩),.int .i64 0]/\bY e d f h b.V b.D (λa=>c a\/G a)))
theorem GA {D:an} {U a5:Nat} (A:Laid b) (V:bY b k a c b0 D f) (W:Row f_ 96 k a2 d U H) (b3:∀g,a2 g->g<k.heap.size) (hl:H.length<=20000000):
  Calls Tryz.prog 76 #[.pointer (some ⟨a,0,none⟩),.pointer (some ⟨c,0,none⟩),.slice d U a5,.int .i64 e] k (Ok (IQ b k a c b0 f (cm b0 D H e))):=by
 obtain⟨G,J,v,B⟩:=id V;have d0:=v.many;refine tA (PC.ok (IP (A.ah V.gr) W b3 hl) ?_);rintro _ w1 ⟨b4,n1,c1,F1,rfl,K,q,b5⟩;have hz:∀g,(f g\/G g)->g<k.heap.size:=by obtain⟨d1,f1,f2,f3,f4⟩:=J;exact f4
 refine⟨_,_,_,_,rfl,al.df (λl=>Ok.mk ?_) (λr=>PC.ok (NH (v.ah q)) ?_)⟩
 ·rw [show cm b0 D H e=⟨(bL H).2,[],b0,D⟩ by unfold cm;rw [if_pos l]]
  exact⟨G,v.ah q,B,ai.af q,.inl ⟨l,rfl,J.ah q⟩⟩
 rintro _ _ ⟨rfl,rfl⟩;have b6:aS b w1 a D (λg=>(f g\/G g)\/F1 g):=J.add q λg h=>⟨b5 g h,K.aC g h⟩
 have d2:(bL H).1.length<=13500000000:=by
  unfold bL;split
  ·simp
  ·rename_i b8
   have:∀o∈H,o.Ok/\o.aN.length<=64:=λo X=>by
    obtain⟨i,hi⟩:=List.mem_iff_getElem?.1 X;obtain⟨g,w,es,-,-,-,-,b4,n1,c1,-,-,b9⟩:=W.el i o hi;refine⟨b9,?_⟩;have:¬fD o=true:=λL=>b8 (List.any_eq_true.2 ⟨o,X,L⟩);unfold fD at this;simp at this;omega
   have:=NI this;show(dm H).length<=_;omega
 refine⟨_,rfl,PC.ok (LM A b6 v.zN (K.row (bytes:=1) dC (by unfold aI;omega)) (λo=>K.LK o) λg h=>.inr h) ?_⟩;rintro _ Y ⟨rfl,c0,Z⟩;have M:aS b Y a (eC b0.next (bL H).1 D).2 (λg=>f g\/G g):=c0.mono λg h=>.inl h;have N:=(v.ah q).af Z λg h m=>m (.inl (.inr h));have a6:ak (dv f) k Y:=(ai.af q).then (Z.mono λg _ h n=>h (.inl (.inl n)));have hC:cm b0 D H e=if(eC b0.next (bL H).1 D).1≠0 then⟨(eC b0.next (bL H).1 D).1,[],b0,(eC b0.next (bL H).1 D).2⟩else eh (pf b0.bC (eC b0.next (bL H).1 D).2) e:=by
  unfold cm;rw [if_neg (by simpa using r)]
 rw [hC];generalize eC b0.next (bL H).1 D=x at M⊢;refine⟨_,rfl,al.df (λl=>Ok.mk ?_) (λr=>?_)⟩
 ·rw [if_pos l]
  exact⟨G,N,B,a6,.inl ⟨l,rfl,M⟩⟩
 rw [if_neg (by simpa using r)];refine⟨λp=>aS b p a (pf b0.bC x.2) (λg=>f g\/G g)/\gY p a c G b0/\ak (dv f) k p,PC.ok (Et N) ?_,?_⟩
 ·rintro _ w3 ⟨a3,t,c3,C,rfl,O,P,c2⟩
  have d3:=O.len dC;have Q:aS b w3 a x.2 (λg=>(f g\/G g)\/C g):=M.add P λg h=>⟨c2 g h,O.aC g h⟩
  refine⟨_,_,_,rfl,λa0 a1 p=>∃(j:Nat) (s:an),a1=j/\j<=t/\a0=t-j/\pf b0.bC x.2=pf (b0.bC.drop j) s/\aS b p a s (λg=>(f g\/G g)\/C g)/\aO aG 3 C p a3 t c3 b0.bC/\gY p a c G b0/\ak (dv f) k p,
   ⟨_,0,x.2,rfl,Qj _,rfl,rfl,Q,O,N.ah P,a6.ah P⟩,?_⟩
  rintro a0 a1 _ w4 ⟨j,s,rfl,hj,rfl,E,y,R,a7,a8⟩;refine al.dec (λd4=>?_) (λd5=>?_)
  ·have c5:Row aG 8 w4 C a3 t b0.bC:=R.row dC (by unfold aI;omega)
   obtain⟨g,w,u,rfl,n,c6,L⟩:=c5.kp (i:=j) oM;refine⟨g,w,rfl,oM,oM,u,L,PC.ok (iE (A.ah y.gr) c6) ?_⟩;rintro _ w5 ⟨rfl,F⟩;refine⟨_,rfl,PC.ok (y.ah F).delete ?_⟩;rintro _ w6 ⟨rfl,S,T⟩;have b7:b0.bC.drop j=u::b0.bC.drop (j+1):=by
    obtain⟨c7,rfl⟩:=Qv.1 n;exact X4 c7
   rw [b7]at E;have I:pf b0.bC x.2=if(s.delete (cx (aA u))).1≠0 then(s.delete (cx (aA u))).2 else pf (b0.bC.drop (j+1)) (s.delete (cx (aA u))).2:=E
   have a9:=(a7.ah F).af T λg h m=>m (.inl (.inr h));have a4:ak (dv f) k w6:=(a8.ah F).then (T.mono λg _ h n=>h (.inl (.inl n)));have c8:=(R.ah F).af T λg h m=>m (.inr h);generalize s.delete (cx (aA u))=c4 at I S⊢;refine⟨_,rfl,al.df (λl=>?_) (λr=>?_)⟩
   ·rw [I,if_pos l]
    exact⟨S.mono λg h=>.inl h,a9,a4⟩
   ·rw [if_neg (by simpa using r)]at I
    exact⟨t-(j+1),oM,j+1,c4.2,aq oM,oM,rfl,I,S,c8,a9,a4⟩
  ·obtain rfl:j=t:=oM
   rw [List.drop_of_length_le oM]at E;rw [E];exact⟨y.mono λg h=>.inl h,a7,a8⟩
 ·rintro _ w3 ⟨Q,b1,b2⟩
  refine PC.ok (GB (size:=e) A Q) ?_;rintro _ w4 (⟨l,rfl,y,z⟩|⟨r,q2,d6,n4,d7,G4,rfl,R,c9,z,-,-,-⟩)
  ·exact⟨_,_,_,_,_,rfl,Ok.mk ⟨G,b1.af z λg h m=>m (.inr h),B,b2.then (z.mono λg _ h n=>h (.inl n)),.inl ⟨l,rfl,y⟩⟩⟩
  ·exact⟨_,_,_,_,_,rfl,Ok.mk ⟨G,b1.af z λg h m=>m (.inr h),B,b2.then (z.mono λg _ h n=>h (.inl n)),.inr ⟨r,q2,rfl,c9.mono λg h=>.inl h⟩⟩⟩
theorem NQ:Reads Tryz.prog f_ 60:=λa5 t a6 a7 b cs c u v=>by
 obtain⟨w,n2,_,rfl,x,y,a⟩:=DataW.trod_struct (Tryz.underlying60) u;have z:Tryz.prog.cellsOf 60=10:=kR
 have A:cs.length=10:=x.trans z;have d:Tryz.prog.cellsOf 3=1:=kR
 have e:Tryz.prog.cellsOf 48=2:=kR
 have f:Tryz.prog.cellsOf 39=1:=kR
 match cs,A with
 |[v0,v1,v2,v3,v4,v5,v6,v7,v8,v9],_=>
 match w,y with
 |[y0,y1,B,y3,y4,y5,y6,y7,y8],_=>
  have g:=a 0 _ rfl;have h:=a 1 _ rfl;have i:=a 2 _ rfl;have j:=a 3 _ rfl;have k:=a 4 _ rfl;have l:=a 5 _ rfl;have m:=a 6 _ rfl;have n:=a 7 _ rfl;have o:=a 8 _ rfl;simp only [d,e,f,List.drop_zero,List.drop_succ_cons,List.take_succ_cons,List.take_zero,List.getElem?_cons_zero,List.getElem?_cons_succ]at g h i j k l m n o;obtain⟨C,n3,_,a8,a9,E,p⟩:=DataW.trod_struct (Tryz.underlying48) g
  match C,E with
  |[u0,u1],_=>
  have q:=p 0 _ rfl;have r:=p 1 _ rfl;simp only [d,e,f,List.drop_zero,List.drop_succ_cons,List.take_succ_cons,List.take_zero,List.getElem?_cons_zero,List.getElem?_cons_succ]at q r;obtain⟨F,H,-,I⟩:=DataW.trod_int Tryz.underlying3 q;obtain⟨z1,J,-,K⟩:=DataW.trod_int Tryz.underlying3 r;obtain⟨L,M,-,N⟩:=DataW.trod_int Tryz.underlying3 h;obtain⟨O,P,-,Q⟩:=DataW.trod_int Tryz.underlying3 j;obtain⟨R,S,-,T⟩:=DataW.trod_int Tryz.underlying3 k;obtain⟨U,V,-,W⟩:=DataW.trod_int Tryz.underlying3 l;obtain⟨X,Y,-,Z⟩:=DataW.trod_int Tryz.underlying3 m;obtain⟨z8,e8,-,w8⟩:=DataW.trod_int Tryz.underlying3 n;obtain⟨z9,e9,-,w9⟩:=DataW.trod_int Tryz.underlying3 o;have a0:iF Tryz.prog 39 B.1:=by
   intro a1 hq;refine v a1 ?_;have hu:Tryz.prog.underlying 60=_:=Tryz.underlying60;simp only [DataW.weights,hu,QY,List.map_nil,DataW.weightsEach,Q6];right;right;left;exact hq
  obtain⟨a3,n4,c4,l4,e3,-,-,s⟩:=open_row (bytes:=8) Tryz.underlying39 kR dC kR (CL Tryz.underlying3) i a0
  cases H;cases J;cases M;cases e3;cases P;cases S;cases V;cases Y;cases e8;cases e9
  exact⟨⟨F,z1,L,l4,O,R,U,X,z8,z9⟩,a3,n4,c4,rfl,s,aJ I,aJ K,aJ N,λc hx=>by
   obtain⟨a2,hi⟩:=List.mem_iff_getElem?.1 hx;obtain⟨b0,a4,es,-,-,-,-,hr⟩:=s.el a2 c hi;exact hr.2,aJ Q,aJ T,aJ W,aJ Z,aJ w8,aJ w9⟩
end Go.Proofs.YthnilpgpacdmnaaGreatDoor
namespace Go.Proofs
open Go.RowKit Go.Maps Go.Sort Go.Shelf
theorem Tryz.SZ (d:Nat):AnyZI.SortsIn Tryz.prog Tryz.xj Fence.wide d:=
 ⟨λaF b a e c f g h=>callsIn_wide.2 (AnyM.slices_Sort_int Tryz.uH aF b a e c f g h),
  λi a c=>callsIn_wide.2 (AnyM.slices_Sort_int_none Tryz.uH i a c)⟩
end Go.Proofs
namespace Go.Proofs.YthnilpgpacdmnaaGreatDoor
open Go.au
open Go.RowKit Go.Maps Go.Sort Go.Shelf
set_option linter.unusedVariables false
def uH (a:List Int):List Int:=a.mergeSort (λb c=>decide (b<=c))
variable{g7:List (Int×Value)}{a c:Nat}{F:Nat×Nat}{g:TypeId}{b:World}
theorem yk (x:bG b a (Value.int .i64) g7) (I:∀i∈g7,aK i.1) (y:g7.length*8<=aI) 
  (z:b.heap[c]? =some (.cells #[.map (some a)] g F)):
  Calls Tryz.prog 191 #[.func (.func 259) #[] #[.pointer (some ⟨c,0,none⟩)]] b
   (Ok λq A=>FB b 3 (uH (g7.map (·.1))) q A):=by
 unfold aI at y;obtain⟨f,j,J,n,K,L⟩:=x.at';have M:Tryz.prog.underlying 3=some (.int .i64):=Tryz.underlying3;have N:f.size=g7.length:=by have:=congrArg List.length n;simpa using this
 have O:∀d:Int,aK d->(Lit.int .i64 d).wf=true:=λd k=>by unfold aK at k;simp [Lit.wf,IntKind.min,IntKind.max,IntKind.signed,IntKind.bits];omega
 have B:∀e∈f.toList,∃d,e.key=Value.int .i64 d/\aK d:=λe h=>by
  have P:(e.key,e.val)∈g7.map (λi=>(Value.int .i64 i.1,i.2)):=by rw [<-n];exact Xk.2 ⟨e,h,rfl⟩
  obtain⟨i,Q,R⟩:=Xk.1 P;exact⟨i.1,(Prod.mk.inj R).1.symm,I i Q⟩
 have C:∀e∈f.toList,∀d,e.key=Value.int .i64 d->aK d->WideElems.rd Tryz.prog 3 (λ_=>some ((.nil:DataW Unit),[])) e=some (.int .i64 d,.nil):=λe _ d k l=>by
  simp [WideElems.rd,k,Maps.keyOf_int_mk M (O d l)]
 have S:WideElems.Fit Tryz.prog 3 (λ_=>some ((.nil:DataW Unit),[])) f j:=by
  refine⟨by unfold maxLen;omega,⟨K,L,?_⟩,λe h=>?_⟩
  ·have:f.toList.map (·.key)=(g7.map (·.1)).map (Value.int .i64):=by
    have:=congrArg (List.map (λr:Value×Value=>r.1)) n;simpa [Function.comp_def]using this
   rw [this];exact List.pairwise_map.2 (List.Pairwise.imp (λT=>by simpa using T) x.tidy)
  ·obtain⟨d,k,l⟩:=B e h
   exact⟨_,C e h d k l⟩
 have U:b.ownsMap Tryz.prog 3 (λ_=>some ((.nil:DataW Unit),[])) a f.size (.map ((f.toList.map (WideElems.rg Tryz.prog 3 (λ_=>some ((.nil:DataW Unit),[])))).foldr DataW.insert [])):=
  ⟨f,j,J,S,Q4 _,rfl⟩
 have E:Maps.size (.map ((f.toList.map (WideElems.rg Tryz.prog 3 (λ_=>some ((.nil:DataW Unit),[])))).foldr DataW.insert []))=g7.length:=by
  show(List.foldr DataW.insert [] _).length=_;rw [(WideShapes.sorted_perm _).length_eq];simp [N]
 have V:(intKeys (.map ((f.toList.map (WideElems.rg Tryz.prog 3 (λ_=>some ((.nil:DataW Unit),[])))).foldr DataW.insert []))).Perm (g7.map (·.1)):=by
  refine(List.Perm.map (λi:Lit×DataW Unit=>Go.intOf i.1) (WideShapes.sorted_perm _)).trans ?_;have:(f.toList.map (WideElems.rg Tryz.prog 3 (λ_=>some ((.nil:DataW Unit),[])))).map (λi=>Go.intOf i.1)=g7.map (·.1):=by
   have W:f.toList.map (λe=>match e.key with| .int _ d=>d|_=>0)=g7.map (·.1):=by
    have:=congrArg (List.map (λr:Value×Value=>match r.1 with| .int _ d=>d|_=>0)) n;simpa [Function.comp_def]using this
   rw [<-W,List.map_map];refine List.map_congr_left λe h=>?_;obtain⟨d,k,l⟩:=B e h;simp [WideElems.rg,C e h d k l,k,Go.intOf]
  rw [this]
 have X:SeqGives Fence.wide 1 Tryz.prog 259 #[.pointer (some ⟨c,0,none⟩)] encZ (λm=>m.Perm (intKeys _)) (Maps.size _) b:=
  AnyZI.keys_gives (ρ:=Tryz.Dz) {Tryz.Ub with} Fence.wide _ trivial rfl oM c a f.size _ b (ay z) (ae z rfl) U
 have Y:=AnyZI.sorted_in Tryz.Rh Fence.wide 4 trivial trivial trivial trivial rfl oM (Tryz.SZ _) (enters_of Tryz.func258 kR rfl) 259 #[.pointer (some ⟨c,0,none⟩)] trivial
  (enters_of Tryz.func259 kR rfl) _ _ (by rw [E];unfold maxLen;omega) (by rw [E];exact y) b X
 refine((callsIn_wide (n:=4)).1 Y).mono ?_;rintro e A ⟨q,m,rfl,Z,o,a5,s⟩;have H:m.mergeSort (λd a0=>decide (d<=a0))=uH (g7.map (·.1)):=mergeSort_of_perm_i (Z.trans V);have a6:m.length=(uH (g7.map (·.1))).length:=by rw [<-H];simp
 rw [H]at o;have hv:∃t u,q= .slice t m.length u:=by
  rcases o.2 with⟨rfl,h0⟩|⟨g',v,w,rfl,_⟩
  ·exact⟨none,0,by rw [h0]⟩
  ·exact⟨_,_,rfl⟩
 obtain⟨t,u,rfl⟩:=hv;refine Ok.mk ⟨t,_,u,rfl,⟨ownsRow_base_a o (Qj _)⟩,ak.FY s,λa1 p=>?_⟩;rcases o.2 with⟨h,_⟩|⟨g',v,w,h,a7,_⟩
 ·simp only [XX]at h
  rw [h.1]at p;cases p
 ·simp only [XX]at h
  rw [h.1]at p;simp only [aF,Q1]at p;omega
end Go.Proofs.YthnilpgpacdmnaaGreatDoor

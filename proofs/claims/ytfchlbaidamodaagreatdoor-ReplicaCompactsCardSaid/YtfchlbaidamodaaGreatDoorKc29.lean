import Derived.Test.YtfchlbaidamodaaGreatDoorKc28
set_option linter.all false
set_option maxRecDepth 100000
namespace Go.Proofs.YtfchlbaidamodaaGreatDoor
open Go.ax
variable{c8:List dz}{a c:Nat}{d:Option Addr}{b:World}
section
variable {w w':World} {p:Nat} {F D E:Nat->Prop} {S:aq} {m:dz} {va ea:Option Addr} {vn vc en ec:Nat}
def bB.IS{d:Value}(g:bB b c8 d w)(e:ai w' b):bB w' c8 d w:=by
 obtain⟨h,i,j,k,D,l,m,n,o,f,p,q⟩:=g;have:=e.size;exact⟨h,i,j,k,D,l,m,n,o,λa c=>⟨by have:=(f a c).1;omega,(f a c).2⟩,λa c=>by have:=p a c;omega,e.then q⟩
def bB.len(e:bB b c8 (.slice d a c) w):a=c8.length:=by
 obtain⟨i,j,k,l,D,f,g,h,-⟩:=e
 cases f
 rw[g.len dC,<-h,Q8]
def bB.sl{a:Value}(c:bB b c8 a w):∃d e f,a= .slice d e f:=by
 obtain⟨h,i,j,k,D,g,-⟩:=c;exact⟨_,_,_,g⟩
def Ks(h:cV w p F S)(hl:S.l.length<=20000000)(Z:Row aP 8 w D va vn m.vec){d a:Int}:
  Calls ZQ 54 #[ZX p,QH d,kD m va vn vc ea en ec,QH a] w (Ok (bB w (mE S d m a))):=by
 have hS:=h.1;have hN:=hS.n;refine Ci (PA.mk λe q f6 y=>⟨λw'=>e=w'/\(m.kind=1\/m.kind=2),⟨_,ae y rfl,al.dw (λr=>⟨_,ae y rfl,al.dw (λg=>Ok.mk ?_) (λg=>⟨rfl,.inr g⟩)⟩) (λr=>⟨rfl,.inl r⟩)⟩,?_⟩)
 ·unfold mE;rw[if_pos ⟨r,g⟩];exact(bB.nil e).IS q
 rintro _ _ ⟨rfl,hk⟩;have b9:¬(m.kind≠1/\m.kind≠2):=oM
 obtain⟨t,L⟩:∃t,t=S.missing m.vec (max 1 (min a 32)):=⟨_,rfl⟩
 have b4:(if(if 32<a then 32 else a)>1 then(if 32<a then 32 else a)else 1)=max 1 (min a 32):=by split<;>split<;>omega
 obtain⟨i,H⟩:∃i:List dz,i=if 0<t.length then [⟨3,0,0,[],t⟩]else []:=⟨_,rfl⟩
 have g0:i.length<=1:=by rw[H];split<;>simp
 refine⟨λk l n w'=>bB e i (.slice k l n) w'/\ai e w',⟨_,_,_,ae y rfl,?_⟩,?_⟩
 ·rw[b4]
  refine PC.ok (zN (h.af q) hl (Z.af q)) ?_;rw[<-L];rintro _ g1 ⟨b7,n2,z,G,rfl,M,I,hG⟩;have g2:=M.len dC;have e0:=M.aF;refine⟨_,_,_,rfl,al.dec (λf4=>PA.mk λg3 N g4 e1=>?_) (λhz=>⟨?_,I⟩)⟩
  rotate_left
  ·rw[H,if_neg oM]
   exact(bB.nil e).af I
  have g5:t.length<=20000000:=by
   rw[L];unfold aq.missing;rw[Qy];have:=List.length_filter_le (λj:ah=>decide (max 0 (fH m.vec j.origin)<j.seq)) S.l;omega
  refine bB.push (m:=⟨3,0,0,[],t⟩) (E:=G) ((bB.nil e).af (I.then N)) OJ ⟨eE _ _,(M.af N).row dC (by unfold aQ;omega)⟩ (λb c=>⟨by have:=hG b c;omega,by have:=e0 b c;omega,λj=>by cases j⟩) e1 sM λa' c' g6 c0 e2=>⟨_,_,_,rfl,?_,?_⟩
  ·rw[H,if_pos oM];exact c0
  ·exact(I.then N).new e2 λb c=>(by cases c)
 rintro J on oc _ e3 ⟨O,P⟩;have a0:=q.then P;have e4:=P.size;refine PC.ok (mi (h.af a0)) ?_;rintro _ v ⟨a3,n3,c3,G3,rfl,c4,c6,c7⟩;have g7:=a0.size;have c8:=c4.aF;have c9:Row aP 8 v G3 a3 n3 S.vec:=c4.row dC (by rw[S.b_];unfold aQ;omega);obtain⟨f,x⟩:∃f:List dz,f=if m.kind=1/\(sk m.vec S.vec=2\/sk m.vec S.vec=3)then [⟨2,0,0,S.vec,[]⟩]else []:=⟨_,rfl⟩
 have g8:f.length<=1:=by rw[x];split<;>simp
 have A:=P.then c6;have Q:∀b,aI J=some b->b<e3.heap.size:=λb c=>by
  obtain⟨a1,n1,u,a2,D,o,g,-⟩:=O
  cases o
  exact g.aF b c
 refine⟨_,_,_,rfl,λk l n w'=>bB e (i++f) (.slice k l n) w'/\w'.heap[w.heap.size]? =some (.cells (cD m va vn vc ea en ec).toArray 67 (0,0))/\ai e w',⟨_,_,_,ae (A.get y id) rfl,PC.ok (OP ((Z.af (q.then A)).uv) c9.uv) ?_⟩,?_⟩
 ·rintro _ _ ⟨rfl,rfl⟩
  have R:=A.get y id;have a4:=O.af c6;have s:∀b,aI J=some b->e.heap.size<=b:=λb c=>by
   obtain⟨a1,n1,u,a2,D,o,g,B,h4,h5,T,h7⟩:=O
   cases o
   exact T b c
  have no:f=[]->bB e (i++f) (.slice J on oc) v/\v.heap[w.heap.size]? =some (.cells (cD m va vn vc ea en ec).toArray 67 (0,0))/\ai e v:=λc=>⟨by rw[c,List.append_nil];exact a4,R,A⟩
  have C:∀{ε:Value->World->Prop} {U:Option Addr->Nat->Nat->World->Prop},f=[⟨2,0,0,S.vec,[]⟩]->(∀k l n w',bB e (i++f) (.slice k l n) w'/\w'.heap[w.heap.size]? =some (.cells (cD m va vn vc ea en ec).toArray 67 (0,0))/\ai e w'->U k l n w')->
    PA v (.cells #[QH 2,QH 0,QH 0,.slice a3 n3 c3,.slice none 0 0] 67) λd0=>aH ZQ (Builtin.append_ #[63,63] 63 #[.slice J on oc,.slice (ZZ v.heap.size) 1 1]) d0 (λe5 d1=>∃(a5:Option Addr) (a6:Nat) (a7:Nat),e5= .slice a5 a6 a7/\U a5 a6 a7 d1) ε:=λ{ε U} c V=>by
   refine PA.mk λd0 K g9 e6=>bB.push (m:=⟨2,0,0,S.vec,[]⟩) (E:=G3) (a4.af K) OJ ⟨c9.af K,eE _ _⟩ (λb c=>⟨by have:=c7 b c;omega,by have:=c8 b c;omega,λj=>by have:=Q b j;have:=c7 b c;omega⟩) e6 oM λa' c' d1 d2 d3=>⟨_,_,_,rfl,V _ _ _ _ ⟨by rw[c];exact d2,d3.get (K.get R id) λj=>?_,?_⟩⟩
   ·have:=s _ j;omega
   ·exact(A.then K).new d3 λb c=>.inr (s b c)
  refine⟨_,rfl,_,ae R rfl,al.dX (λr=>al.dX (λg=>C (by rw[x,if_pos ⟨r,.inl g⟩]) λk l n w' h=>h) (λg=>al.dX (λB=>C (by rw[x,if_pos ⟨r,.inr B⟩]) λk l n w' h=>h) (λB=>no (by rw[x,if_neg];rintro⟨-,h|h⟩;exact g h;exact B h)))) (λr=>no (by rw[x,if_neg λh=>r h.1]))⟩
 rintro e7 h8 h9 _ e8 ⟨E,W,a8⟩;have d4:=q.then a8;have e9:=a8.size;have a9:=E.len;have f5:(i++f).length<=2:=by rw[QX];omega
 have b0:∀{X:List dz},(if(i++f).isEmpty then [yN S d m.ck]else(i++f).map λb5=>{b5 with ck:=d,qF:=m.ck})=X->mE S d m a=X:=λ{X} hq=>by
  rw[<-hq];unfold mE;rw[if_neg b9,<-L];rw[H,x];have p1:(decide (sk m.vec S.vec=2\/sk m.vec S.vec=3))=decide (sk m.vec S.vec=2\/sk m.vec S.vec=3):=rfl
  by_cases u:0<t.length<;>by_cases z:m.kind=1/\(sk m.vec S.vec=2\/sk m.vec S.vec=3)
  ·simp[u,z]
  ·simp[u,z]
  ·simp[u,z]
  ·simp[u,z]
 refine al.dX (λh0=>⟨_,ae W rfl,PC.ok (Ki (h.af d4)) ?_⟩) (λh0=>⟨_,ae W rfl,PC.ok (OR E oM) ?_⟩)
 ·have o:i++f=[]:=QW oM
  rintro _ i0 ⟨b8,n5,c5,G5,rfl,d5,d6,d7⟩;have d8:=d5.aF;rw[o]at E;refine⟨_,_,_,_,_,_,_,_,_,rfl,PA.mk λi1 Y i2 f2=>?_⟩;have b1:∀b,aI e7=some b->e.heap.size<=b/\b<e8.heap.size:=λb c=>by
   obtain⟨a1,n1,u,a2,D,o,g,B,h4,h5,T,h7⟩:=E
   cases o
   exact⟨T b c,g.aF b c⟩
  refine bB.push (m:=yN S d m.ck) (E:=G5) (E.af (d7.then Y)) OJ ⟨(d5.af Y).row dC (by show S.vec.length*8<=aQ;rw[S.b_];unfold aQ;omega),eE _ _⟩ (λb c=>⟨by have:=d6 b c;have:=d4.size;omega,by have:=d8 b c;omega,λj=>by have:=(b1 b j).2;have:=d6 b c;omega⟩) f2 sM λa' c' i3 d9 f3=>⟨_,_,_,rfl,_,ae (f3.get ((d7.then Y).get W id) λj=>by have:=(b1 _ j).1;omega) rfl,?_⟩
  refine PC.ok (OR d9 sM) ?_;rintro b6 i4 b2;obtain⟨k,l,n,rfl⟩:=b2.sl;refine⟨_,_,_,rfl,Ok.mk ?_⟩;rw[b0 (if_pos (by rw[o];rfl))];exact b2.IS q
 ·rintro b6 i5 b3
  obtain⟨k,l,n,rfl⟩:=b3.sl;refine⟨_,_,_,rfl,Ok.mk ?_⟩;rw[b0 (if_neg (by
   intro o;have:i++f=[]:=by simpa using o
   rw[this]at a9;simp at a9;omega))]
  exact b3.IS q
end
def uY:fS:=⟨[],[],[],[],[]⟩
variable{r:Array Value}{t:Ending->World->Prop}{e m:Int}{s:List Int}{a1 f1:List PanicEntry->World->Prop}{B:List ah}{E c6 i n:Nat}{f:Nat->Prop}{c0 g7 p:Option Addr}{M:aR}{L l:ah}{H:aq}{b0:cY}{d3:jS}
def uZ(d:(rS b (ad a c) λe f g=>(rS b (ad i (n+1)) λh j k=>(rI b (ad E (c6+2)) λl=>(rI b (ad E (c6+3)) λm=>(rI b (ad E (c6+4)) λo=>PC_ 88 #[.agg #[.slice e f g],.slice h j k,.ii l,.ii m,.ii o] b (kI_ λp q=>rt t ((.ii p)) q) (pE t))))))):Calls ZQ 87 #[.pointer (some ⟨a,c,none⟩),.pointer (some ⟨i,n,none⟩),.pointer (some ⟨E,c6,none⟩)] b t:=DC uY Tryz.func87 rfl d
def yr:fS:=⟨[(13,[(68,QH 0)])],[(11,[]),(20,[(25,.pointer (some ⟨0,0,none⟩)),(26,QH 0)])],[19],[],[(19,⟨[0,0,0,4,0,24,0,96,171,256,512,512,0,6143,16383],[32767,32767,32767,32763,32767,32751,32767,32671,32628,32511,32255,32255,32767,27647,30719],[1,0,0,2,0,2,0,0,2,0,0,0,2,2,0]⟩)]⟩
def yt{r g X Y Z a4 a5 a6 a7:Int}(a1:PA b (.cells #[.slice d a c,.slice p i n] 25) λf=>PA f (.cells #[.ii X,.ii Y,.ii Z,.ii a4,.ii a5,.ii a6,.ii a7] 49) λh=>PA h (.cells #[.ii 0,.ii 0,.ii 0,.slice none 0 0,.ii 0,.ii 0,.ii 0,.ii 0,.ii 0,.ii 0] 59) λv=>(∃a8 a9 b0 b1 b2 b3,v.cell? (ab_ b 0)=some (.slice a8 a9 b0)/\v.cell? (ab_ b (0+1))=some (.slice b1 b2 b3)/\(Ld 49 (ab_ f 0) v λf2=>PC_ 82 #[.agg #[.slice a8 a9 b0,.slice b1 b2 b3],f2] v (kI_ λb4 A=>al (b4 !=0) (St 59 (ab_ h 0) (.agg #[.ii 0,.ii 0,.ii 0,.slice none 0 0,.ii 0,.ii 0,.ii 0,.ii 0,.ii 0,.ii 0]) A λb5=>(Ld 59 (ab_ h 0) b5 λf3=>rt t ((.tuple #[f3,.bool false,.ii b4])) b5)) ((rI A (ab_ f (0+6)) λf4=>PC_ 83 #[.pointer c0,.ii f4] A (λf5 B=>yY (fe ZQ 59) λb6=>∃b7,f5= .tuple #[b6,.bool b7]/\PA B (.cells #[.ii 0,.ii 0,.ii 0,.slice none 0 0,.ii 0,.ii 0,.ii 0,.ii 0,.ii 0,.ii 0] 59) λf6=>St 59 (ab_ B 0) b6 f6 λj=>al b7 ((Ld 59 (ab_ B 0) j λf7=>St 59 (ab_ h 0) f7 j λb8=>(Ld 59 (ab_ h 0) b8 λf8=>rt t ((.tuple #[f8,.bool false,.ii 0])) b8))) ((rS j (ab_ b 0) λf9 g0 j1=>(rI j (ab_ f 0) λb9=>(ix_ f9 b9 g0 λg1 g2=>(rS j (ad g1 (g2+Int.toNat b9)) λg3 g4 g5=>PA j (.cells #[.slice none 0 0] 130) λg6=>PS g6 (ab_ j 0) (.slice g3 g4 g5) λC=>(rI C (ab_ f 0) λa2=>(rI C (ab_ f (0+1)) λg8=>PC_ 84 #[.pointer g7,.ii a2,.ii g8] C (λg9 o=>∃a0 c1 c2 c3 c4,g9= .tuple #[.agg #[.ii a0,.slice c1 c2 c3],.bool c4]/\PA o (.cells #[.ii 0,.slice none 0 0] 42) λh0=>PS h0 (ab_ o 0) (.ii a0) λh1=>PS h1 (ab_ o (0+1)) (.slice c1 c2 c3) λE=>(∃F:World->Prop,(al (!c4) ((rS E (ab_ j 0) λh2 h3 h4=>PC_ 85 #[.agg #[.slice h2 h3 h4]] E (kS_ λh5 h6 h7 h8=>PS h8 (ab_ o (0+1)) (.slice h5 h6 h7) λh9=>F h9) (pE t))) (F E))/\∀(j2:Nat->Value) (H:World),F H->PA H (.cells #[.func (.func 86) #[] #[.pointer (some (ab_ f 0)),.pointer (some (ab_ o 0))],.func (.func 87) #[] #[.pointer (some (ab_ j 0)),.pointer (some (ab_ o 0)),.pointer (some (ab_ f 0))]] 75) λi0=>(∃I:Nat->Int->World->Prop,(∃w,I w 0 i0)/\∀(w:Nat) (q:Int) (j3:Nat->Value) (x:World),I w q x->al (decide (q<(2:Int))) ((∃c5 c6,((some (ab_ H 0)):Option Addr)=some ⟨c5,c6,none⟩/\(0:Int)<=q/\q<(2:Int)/\(∃(c7:Value),x.cell? (ad c5 (c6+Int.toNat q))=some c7/\(∃J c8 d0,(c7:Value)= .func (.func J) c8 d0/\enters ZQ J=true/\PC_ J (c8++ #[]++d0) x (kI_ λd1 d2=>al (d1 !=0) (St 59 (ab_ h 0) (.agg #[.ii 0,.ii 0,.ii 0,.slice none 0 0,.ii 0,.ii 0,.ii 0,.ii 0,.ii 0,.ii 0]) d2 λd3=>(Ld 59 (ab_ h 0) d3 λi1=>rt t ((.tuple #[i1,.bool false,.ii d1])) d3)) ((∃d4,d4<w/\I d4 (IntKind.wrap .i64 (q+1)) d2))) (pE t))))) ((∃s:Nat->Nat->Int->World->Prop,((∀k,bE x k->∃e:Nat->Prop,(¬e f.heap.size/\(Ld 49 (ab_ f 0) k λy=>((PC_ 46 #[.pointer c0] k (kS_ λD K L l=>(aj e k l/\((PC_ 90 #[.pointer c0] l (kI_ λz m=>(aj e l m/\((PC_ 89 #[y,.ii r,.slice D K L,.ii (if g>z then g else z)] m (λi2 u=>yY (fe ZQ 59) λd5=>∃d6,i2= .tuple #[d5,.ii d6]/\(aj e m u/\PA u (.cells #[.ii 0,.ii 0,.ii 0,.slice none 0 0,.ii 0,.ii 0,.ii 0,.ii 0,.ii 0,.ii 0] 59) λG=>(aj e u G/\St 59 (ab_ u 0) d5 G λd7=>(aj e G d7/\s u.heap.size 0 d6 d7)))) (pZ t))/\(PA m (.cells #[.ii 0,.ii 0,.ii 0,.slice none 0 0,.ii 0,.ii 0,.ii 0,.ii 0,.ii 0,.ii 0] 59) λM=>(aj e m M/\PC_ 89 #[y,.ii r,.slice D K L,.ii (if g>z then g else z)] M (λi3 N=>yY (fe ZQ 59) λd8=>∃d9,i3= .tuple #[d8,.ii d9]/\(aj e M N/\St 59 (ab_ m 0) d8 N λe0=>(aj e N e0/\s m.heap.size 0 d9 e0))) (pZ t)))))) (pZ t))/\(PA l (.cells #[.ii 0,.ii 0,.ii 0,.slice none 0 0,.ii 0,.ii 0,.ii 0,.ii 0,.ii 0,.ii 0] 59) λO=>(aj e l O/\PC_ 90 #[.pointer c0] O (kI_ λe1 P=>(aj e O P/\PC_ 89 #[y,.ii r,.slice D K L,.ii (if g>e1 then g else e1)] P (λi4 Q=>yY (fe ZQ 59) λe2=>∃e3,i4= .tuple #[e2,.ii e3]/\(aj e P Q/\St 59 (ab_ l 0) e2 Q λe4=>(aj e Q e4/\s l.heap.size 0 e3 e4))) (pZ t))) (pZ t)))))) (pZ t))/\(PA k (.cells #[.ii 0,.ii 0,.ii 0,.slice none 0 0,.ii 0,.ii 0,.ii 0,.ii 0,.ii 0,.ii 0] 59) λR=>(aj e k R/\PC_ 46 #[.pointer c0] R (kS_ λi5 i6 i7 S=>(aj e R S/\PC_ 90 #[.pointer c0] S (kI_ λe5 T=>(aj e S T/\PC_ 89 #[y,.ii r,.slice i5 i6 i7,.ii (if g>e5 then g else e5)] T (λi8 U=>yY (fe ZQ 59) λe6=>∃e7,i8= .tuple #[e6,.ii e7]/\(aj e T U/\St 59 (ab_ k 0) e6 U λe8=>(aj e U e8/\s k.heap.size 0 e7 e8))) (pZ t))) (pZ t))) (pZ t))))))))/\∀(e9:Nat) (f0:Nat) (V:Int) (j4:Nat->Value) (W:World),s e9 f0 V W->(Ld 59 (ad e9 f0) W λi9=>St 59 (ab_ h 0) i9 W λf1=>(Ld 59 (ab_ h 0) f1 λj0=>rt t ((.tuple #[j0,.bool (V==0),.ii V])) f1))))))) (pE t))))))))) (pE t)))) (pE t)))):Calls ZQ 42 #[.agg #[.slice d a c,.slice p i n],.pointer c0,.pointer g7,.ii r,.ii g,.agg #[.ii X,.ii Y,.ii Z,.ii a4,.ii a5,.ii a6,.ii a7]] b t:=DC yr Tryz.func42 rfl a1
def uW:fS:=⟨[],[],[],[],[]⟩
def uX(d:(rI b (ad a (c+5)) λe=>al (e==(-1)) (rt t ((.ii 0)) b) ((rI b (ad a (c+5)) λf=>(rI b (ad i n) λg=>al (f==g) (rt t ((.ii 0)) b) (rt t ((.ii 11)) b)))))):Calls ZQ 86 #[.pointer (some ⟨a,c,none⟩),.pointer (some ⟨i,n,none⟩)] b t:=DC uW Tryz.func86 rfl d
def yu:fS:=⟨[],[],[6],[],[(6,⟨[0,1,0,4,0,16,0,64,0,256,0,1024,0,4096,0,16384,43690,0,262143],[524287,524286,524287,524283,524287,524271,524287,524223,524287,524031,524287,523263,524287,520191,524287,507903,480597,524287,327679],[0,0,0,2,0,1,0,1,0,1,0,1,0,1,0,1,0,2,2]⟩)]⟩
def xM{q r s u v w x i j:Int}(P:PA b (.cells #[.ii q,.ii r,.ii s,.ii u,.ii v,.ii w,.ii x] 49) λe=>PA e (.cells #[.ii 0,.ii 0,.ii 0,.slice none 0 0,.ii 0,.ii 0,.ii 0,.ii 0,.ii 0,.ii 0] 59) λk=>al (decide (i<0)) (St 59 (ab_ e 0) (.agg #[.ii 0,.ii 0,.ii 0,.slice none 0 0,.ii 0,.ii 0,.ii 0,.ii 0,.ii 0,.ii 0]) k λy=>(Ld 59 (ab_ e 0) y λQ=>rt t ((.tuple #[Q,.ii 1])) y)) (al (decide (i>=(a:Int))) (St 59 (ab_ e 0) (.agg #[.ii 0,.ii 0,.ii 0,.slice none 0 0,.ii 0,.ii 0,.ii 0,.ii 0,.ii 0,.ii 0]) k λz=>(Ld 59 (ab_ e 0) z λR=>rt t ((.tuple #[R,.ii 1])) z)) (al (decide (j<0)) (St 59 (ab_ e 0) (.agg #[.ii 0,.ii 0,.ii 0,.slice none 0 0,.ii 0,.ii 0,.ii 0,.ii 0,.ii 0,.ii 0]) k λA=>(Ld 59 (ab_ e 0) A λS=>rt t ((.tuple #[S,.ii 1])) A)) (PC_ 112 #[.slice d a c,.ii i] k (kI_ λl m=>al (l==9223372036854775807) (St 59 (ab_ e 0) (.agg #[.ii 0,.ii 0,.ii 0,.slice none 0 0,.ii 0,.ii 0,.ii 0,.ii 0,.ii 0,.ii 0]) m λB=>(Ld 59 (ab_ e 0) B λT=>rt t ((.tuple #[T,.ii 13])) B)) (al (j==9223372036854775807) (St 59 (ab_ e 0) (.agg #[.ii 0,.ii 0,.ii 0,.slice none 0 0,.ii 0,.ii 0,.ii 0,.ii 0,.ii 0,.ii 0]) m λC=>(Ld 59 (ab_ e 0) C λU=>rt t ((.tuple #[U,.ii 13])) C)) ((∀f,bE m f->∃g:Nat->Prop,(¬g b.heap.size/\(rI f (ab_ b 0) λD=>(¬g b.heap.size/\(rI f (ab_ b (0+1)) λE=>(¬g b.heap.size/\(rI f (ab_ b (0+2)) λF=>(¬g b.heap.size/\(rI f (ab_ b (0+3)) λG=>(¬g b.heap.size/\(rI f (ab_ b (0+4)) λH=>(¬g b.heap.size/\(rI f (ab_ b (0+6)) λI=>((PC_ 108 #[.slice d a c,.slice none 0 0] f (kS_ λV W X h=>(aj g f h/\PA h (.cells #[.ii 0,.ii 0,.ii 0,.slice none 0 0,.ii 0,.ii 0,.ii 0,.ii 0,.ii 0,.ii 0] 59) λn=>(aj g h n/\St 59 (ab_ h 0) (.agg #[.ii 0,.ii 0,.ii (IntKind.wrap .i64 (j+1)),.slice V W X,.ii D,.ii E,.ii F,.ii G,.ii H,.ii I]) n λJ=>(aj g n J/\PS J (ab_ h 0) (.ii i) λY=>PS Y (ab_ h (0+1)) (.ii (IntKind.wrap .i64 (l+1))) λK=>(Ld 59 (ab_ h 0) K λZ=>St 59 (ab_ e 0) Z K λL=>(Ld 59 (ab_ e 0) L λa1=>rt t ((.tuple #[a1,.ii 0])) L)))))) (pZ t))/\(PA f (.cells #[.ii 0,.ii 0,.ii 0,.slice none 0 0,.ii 0,.ii 0,.ii 0,.ii 0,.ii 0,.ii 0] 59) λo=>(aj g f o/\PC_ 108 #[.slice d a c,.slice none 0 0] o (kS_ λa2 a3 a4 p=>(aj g o p/\St 59 (ab_ f 0) (.agg #[.ii 0,.ii 0,.ii (IntKind.wrap .i64 (j+1)),.slice a2 a3 a4,.ii D,.ii E,.ii F,.ii G,.ii H,.ii I]) p λM=>(aj g p M/\PS M (ab_ f 0) (.ii i) λa5=>PS a5 (ab_ f (0+1)) (.ii (IntKind.wrap .i64 (l+1))) λN=>(Ld 59 (ab_ f 0) N λa6=>St 59 (ab_ e 0) a6 N λO=>(Ld 59 (ab_ e 0) O λa7=>rt t ((.tuple #[a7,.ii 0])) O))))) (pZ t)))))))))))))))))))) (pE t))))):Calls ZQ 89 #[.agg #[.ii q,.ii r,.ii s,.ii u,.ii v,.ii w,.ii x],.ii i,.slice d a c,.ii j] b t:=DC yu Tryz.func89 rfl P
def gJ(a:jS):List Value:=[QH a.bd,QH a.agg,QH a.field,QH a.op,QH a.arg,QH a.expect,QH a.key]
abbrev uu(a:jS):Value:=.agg (gJ a).toArray
def BF(a:jS):jg ZQ 49 (gJ a)=true:=kR
section
variable {w w':World} {D:Nat->Prop}
def En{tn o m q:Nat}(r:eM w)(h:bh w D M d tn p m)(s:∀c,D c->c<w.heap.size):
  Calls ZQ 82 #[.agg #[.slice d tn o,.slice p m q],uu d3] w (Ok λg w'=>g= QH (fB M d3)/\ai w w'):=by
 refine Ae (PA.mk λx t y e=>PA.mk λu n z a=>?_);have e:=n.get e id;have f:=t.then n;have b:(d3.agg<0\/d3.key<0\/d3.expect< -1)->Ok (λg w'=>g= QH (fB M d3)/\ai w w') (.returned (QH 1)) u:=λi=>Ok.mk ⟨by unfold fB;rw[if_pos i],f⟩;refine⟨_,ae a rfl,al.dec (λj=>b (.inl j)) (λj=>⟨_,ae a rfl,al.dec (λk=>b (.inr (.inl k))) (λk=>⟨_,ae a rfl,al.dec (λl=>b (.inr (.inr l))) (λl=>⟨_,_,_,_,_,_,ae e rfl,ae e rfl,_,ae a rfl,_,ae a rfl,_,ae a rfl,_,ae a rfl,PC.ok (yX (r.af f) (h.af f) λc i=>by have:=s c i;omega) ?_⟩)⟩)⟩)⟩;rintro _ A ⟨rfl,v⟩;exact⟨_,rfl,Ok.mk ⟨by unfold fB;rw[if_neg (by rintro(h|h|h);exact j h;exact k h;exact l h)],f.then v⟩⟩
def He(c:∀d∈s,aN d)(a:Int):0<=fH s a/\fH s a<=9223372036854775807:=by
 unfold fH;split
 ·omega
 ·by_cases b:a.toNat<s.length
  ·have:=c _ (XY b)
   unfold aN at this;simp only[QQ,Qq b,Option.getD_some];omega
  ·simp only[QQ,Q7 (Nat.le_of_not_lt b),Option.getD_none]
   omega
def Pg(a b:List Int):(jo a b).length=max a.length b.length:=by unfold jo;rw[tO]
def TS(b c:List Int)(f:∀a∈b,aN a)(g:∀a∈c,aN a):∀a∈jo b c,aN a:=by
 intro a d;unfold jo oC at d;obtain⟨e,-,rfl⟩:=Xk.1 d;have h:=He f e;have i:=He g e;unfold aN;omega
def jL(Q:Row aP 8 w D d a s)(hl:m<=9223372036854775807)(hn:s.length<=20000000):
  Calls ZQ 89 #[uu d3,QH e,.slice d a c,QH m] w (Ok λx w'=>∃d a l G,x= .tuple #[kK (a_ d3 e s m).2 d a l,QH (a_ d3 e s m).1]/\Row aP 8 w' G d a (a_ d3 e s m).2.aK/\(∀b,G b->w.heap.size<=b/\b<w'.heap.size)/\ai w w'):=by
 have a9:=Q.len;have B:=Q.uv;refine xM (PA.mk λC k1 s1 L=>PA.mk λM R s2 S=>?_);have L:=R.get L id;have l:=k1.then R;have n:∀{p:World} {no:Int},ai M p->a_ d3 e s m=(no,sY)->xJ ZQ 59 (ZX C.heap.size) (kK sY none 0 0) p λw4=>ow ZQ 59 (ZX C.heap.size) w4 λx=>Ok (λx w'=>∃d a l G,x= .tuple #[kK (a_ d3 e s m).2 d a l,QH (a_ d3 e s m).1]/\Row aP 8 w' G d a (a_ d3 e s m).2.aK/\(∀b,G b->w.heap.size<=b/\b<w'.heap.size)/\ai w w') (.returned (.tuple #[x,QH no])) w4:=λ{p no} E T=>
  aD (bg sY none 0 0) (E.get S id) rfl λw4 o s4 N=>aw (bg sY none 0 0) N (Ok.mk ⟨none,0,0,λ_=>False,by rw[T],by rw[T];exact Row.nil _ _,λb f=>f.elim,(l.then E).new o λb f=>.inr oM⟩)
 refine al.dec (λU=>n (aj.refl _) ?_) (λU=>al.dec (λh2=>n (aj.refl _) ?_) (λh2=>al.dec (λE=>n (aj.refl _) ?_) (λE=>PC.ok (oD (B.af l)) ?_)))
 ·unfold a_;rw[if_pos (.inl U)]
 ·unfold a_;rw[if_pos (.inr (.inl oM))]
 ·unfold a_;rw[if_pos (.inr (.inr E))]
 rintro _ _ ⟨rfl,rfl⟩;have O:¬(e<0\/(s.length:Int)<=e\/m<0):=by rintro(h|h|h)<;>omega
 refine⟨_,rfl,al.dX (λK=>n (aj.refl _) ?_) (λK=>al.dX (λF=>n (aj.refl _) ?_) (λF=>λp V=>?_))⟩
 ·unfold a_;rw[if_neg O,if_pos (.inl K)]
 ·unfold a_;rw[if_neg O,if_pos (.inr F)]
 have W:a_ d3 e s m=(0,⟨e,fH s e+1,m+1,jo s [],d3.bd,d3.agg,d3.field,d3.op,d3.arg,d3.key⟩):=by
  unfold a_;rw[if_neg O,if_neg (by rintro(h|h);exact K h;exact F h)]
 have hg:=He B.AS e;have wl:IntKind.wrap .i64 (m+1)=m+1:=wrap_i64 (by unfold aN;omega);have ws:IntKind.wrap .i64 (fH s e+1)=fH s e+1:=wrap_i64 (by unfold aN;have:fH s e≠9223372036854775807:=K;omega);rw[wl,ws];have H:ai M p:=V.keep;have s3:p.heap.size=M.heap.size:=by rw[V.heap]
 have X:=l.then H;have z:=H.get L id;have Y:=H.get S id;have jl:(jo s []).length<=20000000:=by rw[Pg];simp;omega
 have jI:∀a0∈jo s [],aN a0:=TS s [] B.AS sM;have A:¬(p.heap.size<=w.heap.size):=oM
 have I:∀{w4 t:World} {g:Option Addr} {j k y:Nat},ai w t->Own t 3 1 g j k (ints (jo s []))->(∀b,aI g=some b->p.heap.size<=b/\b≠y)->t.heap[C.heap.size]? =some (.cells (aE sY none 0 0).toArray 59 (0,0))->t.heap[y]? =some (.cells #[QH 0,QH 0,QH (m+1),.slice g j k,QH d3.bd,QH d3.agg,QH d3.field,QH d3.op,QH d3.arg,QH d3.key] 59 (0,0))->p.heap.size<=y->
   PS t ⟨y,0,none⟩ (QH e) λa4=>PS a4 ⟨y,0+1,none⟩ (QH (fH s e+1)) λZ=>ow ZQ 59 (ZX y) Z λa5=>xJ ZQ 59 (ZX C.heap.size) a5 Z λa2=>ow ZQ 59 (ZX C.heap.size) a2 λa6=>Ok (λx w'=>∃d a l G,x= .tuple #[kK (a_ d3 e s m).2 d a l,QH (a_ d3 e s m).1]/\Row aP 8 w' G d a (a_ d3 e s m).2.aK/\(∀b,G b->w.heap.size<=b/\b<w'.heap.size)/\ai w w') (.returned (.tuple #[a6,QH 0])) a2:=λ{w4 t g j k y} F u q hz a7 b0=>by
  refine PS.mk a7 sM λw6 i s6 J=>PS.mk J sM λw7 P s7 g7=>?_;have a8:=P.get (i.get hz oM) oM;refine aw (cs:=aE ⟨e,fH s e+1,m+1,jo s [],d3.bd,d3.agg,d3.field,d3.op,d3.arg,d3.key⟩ g j k) (bg _ _ _ _) g7 (aD (bg _ _ _ _) a8 rfl λw8 k8 s8 g8=>aw (bg _ _ _ _) g8 (Ok.mk ⟨g,j,k,λb=>aI g=some b,by rw[W],?_,λb f=>⟨by have:=q b f;omega,?_⟩,?_⟩))
  ·rw[W]
   have a3:=(((u.keep i (dN.2 λb f v=>(q b f).2 v)).keep P (dN.2 λb f v=>(q b f).2 v)).keep k8 (dN.2 λb f v=>by have:=q b f;omega))
   exact(⟨⟨_,λ_=>False,a3,lq.2 ⟨rfl,jI⟩,λ_ h=>h.elim⟩,λb f=>f,λb f=>a3.lt f⟩:aV aP 3 (λb=>aI g=some b) w8 g j k (jo s [])).row dC (by unfold aQ;omega)
  ·have:=u.lt f;omega
  ·exact((F.new i λb f=>.inr oM).new P λb f=>.inr oM).new k8 λb f=>.inr oM
 refine⟨λb=>p.heap.size<=b,A,_,ae z rfl,A,_,ae z rfl,A,_,ae z rfl,A,_,ae z rfl,A,_,ae z rfl,A,_,ae z rfl,PC.ok (BG ((B.af l).af H) (Ints.nil _)) ?_,PA.mk λw4 o s4 N=>⟨ai.keep o,PC.ok (BG (((B.af l).af H).af o) (Ints.nil _)) ?_⟩⟩
 ·rintro _ w4 ⟨g,j,k,rfl,u,o,q⟩
  have z4:=o.size;refine⟨_,_,_,rfl,ai.keep o,PA.mk λt r s5 g5=>⟨ai.keep r,aD (cs:=[QH 0,QH 0,QH (m+1),.slice g j k,QH d3.bd,QH d3.agg,QH d3.field,QH d3.op,QH d3.arg,QH d3.key]) (bg ⟨0,0,m+1,[],d3.bd,d3.agg,d3.field,d3.op,d3.arg,d3.key⟩ g j k) g5 rfl λw6 i s6 J=>⟨i.mono λb _ v=>oM,I (w4:=w4) (((X.then o).then r).new i λb f=>.inr oM) ((u.af r).keep i (dN.2 λb f v=>by have:=u.lt f;omega)) (λb f=>⟨q b f,by have:=u.lt f;omega⟩) (i.get (r.get (o.get Y id) id) oM) J oM⟩⟩⟩
 ·rintro _ t ⟨g,j,k,rfl,u,r,q⟩
  have z5:=r.size;refine⟨_,_,_,rfl,ai.keep r,aD (cs:=[QH 0,QH 0,QH (m+1),.slice g j k,QH d3.bd,QH d3.agg,QH d3.field,QH d3.op,QH d3.arg,QH d3.key]) (bg ⟨0,0,m+1,[],d3.bd,d3.agg,d3.field,d3.op,d3.arg,d3.key⟩ g j k) (r.get N id) rfl λw6 i s6 J=>⟨i.mono λb _ v=>oM,I (w4:=w4) (((X.then o).then r).new i λb f=>.inr oM) (u.keep i (dN.2 λb f v=>by have:=q b f;omega)) (λb f=>⟨by have:=q b f;omega,by have:=q b f;omega⟩) (i.get (r.get (o.get Y id) id) oM) J oM⟩⟩
end
section
variable {w w':World} {D Fs Fv:Nat->Prop} {s v:Nat} {S:aq} {V:bk} {d:aR} {c:jS} {origin start:Int}
def xp(w:World)(a:ah×Bool×Int)(e:Value)(w':World):Prop:=∃c d f G,e= .tuple #[kK a.1 c d f,.bool a.2.1,QH a.2.2]/\Row aP 8 w' G c d a.1.aK/\(∀b,G b->w.heap.size<=b/\b<w'.heap.size)/\ai w w'
def nZ(d:aR)(s:aq)(v:bk)(origin start:Int)(c:jS):kV d s v origin start c=if fB d c≠0 then(sY,false,fB d c)else
  match s.keyed c.key with
  |some a=>(a,false,0)
  |none=>if¬(c.expect= -1\/c.expect=((v.state c.bd c.agg).getD ⟨0,[]⟩).version)then(sY,false,11)else
   if xL (d.at c.bd) (match v.state c.bd c.agg with|some b=>b.cells|none=>dG (d.at c.bd)) c.field c.op c.arg≠0 then(sY,false,10)else
   ((a_ c origin s.vec (max s.top start)).2,decide ((a_ c origin s.vec (max s.top start)).1=0),(a_ c origin s.vec (max s.top start)).1):=rfl
def EZ{ta pa:Option Addr}{tn tc pn pc:Nat}(hT:eM w)(hd:bh w D d ta tn pa pn)(hD:∀a,D a->a<w.heap.size)(j0:dd d=0)(hs:cV w s Fs S)(j1:S.l.length<=20000000)(hv:cT w v Fv V)(j2:V.decl=d)(o4:start<=9223372036854775807)(o1:S.top<=9223372036854775807):
  Calls ZQ 42 #[.agg #[.slice ta tn tc,.slice pa pn pc],ZX s,ZX v,QH origin,QH start,uu c] w (Ok (xp w (kV d S V origin start c))):=by
 refine yt (PA.mk λw1 k1 s1 g1=>PA.mk λw2 k2 s2 g2=>PA.mk λw3 k3 s3 g3=>?_);have t:=(k1.then k2).then k3;have gd:=k3.get (k2.get g1 id) id;have gc:=k3.get g2 id;have z:∀{A:World} {no:Int},ai w3 A->kV d S V origin start c=(sY,false,no)->xJ ZQ 59 (ZX w2.heap.size) (kK sY none 0 0) A λu=>ow ZQ 59 (ZX w2.heap.size) u λr=>Ok (xp w (kV d S V origin start c)) (.returned (.tuple #[r,.bool false,QH no])) u:=λ{A no} h4 R=>
  aD (bg sY none 0 0) (h4.get g3 id) rfl λu k5 s5 g5=>aw (bg sY none 0 0) g5 (Ok.mk ⟨none,0,0,λ_=>False,by rw[R],by rw[R];exact Row.nil _ _,λa b=>b.elim,(t.then h4).new k5 λa b=>.inr oM⟩)
 refine⟨_,_,_,_,_,_,ae gd rfl,ae gd rfl,aw (BF c) gc (PC.ok (En (hT.af t) (hd.af t) λa b=>by have:=hD a b;omega) ?_)⟩;rintro _ A ⟨rfl,T⟩;refine⟨_,rfl,al.dw (λU=>z T (by rw[nZ,if_pos U])) (λe5=>⟨_,ae (T.get gc id) rfl,PC.ok (QM (hs.af (t.then T)) j1) ?_⟩)⟩;rintro _ u ⟨W,X,Y,G5,rfl,e6,e7,k5⟩;have b6:=T.then k5;have o5:=b6.size;have B:∀{r:ah×Bool×Int},(match S.keyed c.key with
  |some m=>(m,false,0)
  |none=>if¬(c.expect= -1\/c.expect=((V.state c.bd c.agg).getD ⟨0,[]⟩).version)then(sY,false,11)else
   if xL (d.at c.bd) (match V.state c.bd c.agg with|some C=>C.cells|none=>dG (d.at c.bd)) c.field c.op c.arg≠0 then(sY,false,10)else
   ((a_ c origin S.vec (max S.top start)).2,decide ((a_ c origin S.vec (max S.top start)).1=0),(a_ c origin S.vec (max S.top start)).1))=r->kV d S V origin start c=r:=λ{r} hr=>by
  rw[nZ,if_neg (by simpa using e5)];exact hr
 refine cu (sW _ W X Y) ⟨_,rfl,PA.mk λw6 k6 s6 g6=>aD (bg _ W X Y) g6 rfl λn k7 s7 g7=>al.mk (λhk=>?_) (λhk=>?_)⟩
 ·obtain⟨m,R⟩:=Option.isSome_iff_exists.1 hk
  rw[R]at e6 g7 B;have b2:ai u n:=k6.new k7 λa b=>.inr oM;refine aw (bg _ W X Y) g7 (aD (bg _ W X Y) (b2.get (b6.get g3 id) id) rfl λw8 k8 s8 g8=>aw (bg _ W X Y) g8 (Ok.mk ⟨W,X,Y,G5,?_,?_,λa b=>?_,?_⟩))
  ·rw[B rfl];rfl
  ·rw[B rfl]
   exact(e6.af b2).keep k8 λa b m=>by have:=e7 a b;have:=t.size;have:=T.size;omega
  ·have:=e7 a b;have:=t.size;have:=T.size;omega
  ·exact((t.then b6).then b2).new k8 λa b=>.inr oM
 have d2:S.keyed c.key=none:=by simpa using hk
 rw[d2]at B;have b2:ai u n:=k6.new k7 λa b=>.inr oM;have M:=b6.then b2;have o6:=M.size;have b7:=t.then M;have e8:jY d c.bd c.field c.op c.arg=0:=by
  have:=e5;unfold fB at this;split at this
  ·simp at this
  ·exact this
 have j3:V.decl.at c.bd=d.at c.bd:=by rw[j2]
 obtain⟨hV,b0,hq⟩:=hv;have a6:(match V.state c.bd c.agg with|some C=>C.cells|none=>dG (d.at c.bd)).length=(d.at c.bd).length:=by
  unfold bk.state
  cases hs:ay V.fj (c.bd,c.agg)with
  |none=>simp[dG]
  |some s=>rw[<-j3];exact hV.st _ (cF hs)
 obtain⟨c4,t0,t1,o7⟩:=HN j0 e8 a6;obtain⟨E,e9⟩:∃E:Nat,c.bd=E:=⟨c.bd.toNat,oM⟩
 have j4:d.at c.bd=d.types.getD E []:=by
  unfold aR.at;rw[if_pos (bO.2 ⟨t0,oM⟩),e9,Qx]
 obtain⟨tb,qF,es,j5,o8,o2,j6,fa,fn,fc,rfl,b3⟩:=(hd.af b7).bd.el E d.types[E] sM;have b3:Row pT 48 n D fa fn (d.at c.bd):=by
  rw[j4];have:d.types.getD E []=d.types[E]:=by simp[QQ,show E<d.types.length by omega]
  rw[this];exact b3
 have o9:=(hd.af b7).bd.len;have c7:=j6 0 dC;have f2:lv.k=1:=rfl;rw[f2,Nat.mul_one]at c7;have j7:=M.get gd id;have f3:=M.get gc id;refine⟨_,_,_,ae j7 rfl,_,ae f3 rfl,tb,qF,j5,t0,oM,fa,fn,fc,by rw[e9,Qx];exact c7,PA.mk λw8 k8 s8 g8=>PS.mk g8 sM λw9 k9 s9 g9=>?_⟩;have Z:ai n w9:=k8.new k9 λa b=>.inr oM;have d3:=Z.get f3 id;have d4:cT w v Fv V:=⟨hV,b0,hq⟩
 refine⟨_,ae d3 rfl,_,ae d3 rfl,PC.ok (ox (d4.af (b7.then Z))) ?_⟩;rintro _ d5 ⟨ca,cn,cc,j8,rfl,f4,o3,N⟩;have b4:=Z.then N;have f5:=b7.then b4;have p0:=b4.size;obtain⟨F,hX⟩:∃F,F=(match V.state c.bd c.agg with|some C=>C.cells|none=>dG (d.at c.bd)):=⟨_,rfl⟩
 rw[<-hX]at c4 a6 B;refine⟨_,_,_,_,_,rfl,PA.mk λp1 j9 p2 k0=>PS.mk k0 sM λp3 l0 p4 l3=>PS.mk l3 sM λf6 l4 p5 g0=>?_⟩;have a5:ai d5 f6:=(j9.new l0 λa b=>.inr oM).new l4 λa b=>.inr oM;have l5:f6.heap[n.heap.size]? =some (.cells #[.slice fa fn fc] 130 (0,0)):=a5.get (N.get g9 id) id;have c8:=f4.af a5;refine⟨λw'=>ai d5 w'/\∃ca cn cc G,w'.heap[d5.heap.size]? =some (.cells #[QH ((V.state c.bd c.agg).getD IB).version,.slice ca cn cc] 42 (0,0))/\Row fL 32 w' G ca cn F,?_,?_⟩
 ·refine al.not (al.mk (λl6=>⟨a5,ca,cn,cc,j8,g0,?_⟩) (λl7=>⟨_,_,_,ae l5 rfl,PC.ok (Jd (t:=d.at c.bd) rfl b3.len (by rw[b3.len];omega)) ?_⟩))
  ·obtain⟨C,hx⟩:=Option.isSome_iff_exists.1 l6
   rw[hx]at c8 hX;have b8:F=C.cells:=hX;rw[b8];exact c8.row dC (by show C.cells.length*32<=aQ;rw[<-b8,a6];unfold aQ;omega)
  ·rintro _ p6 ⟨b1,n6,c6,G6,rfl,l8,d6,l9⟩
   have p7:=d6.size;refine⟨_,_,_,rfl,PS.mk (d6.get g0 id) sM λp8 g4 p9 m0=>⟨(a5.then d6).new g4 λa b=>.inr oM,b1,n6,c6,G6,m0,?_⟩⟩;have hn:V.state c.bd c.agg=none:=by simpa using l7
   rw[hn]at hX;have b8:F=dG (d.at c.bd):=hX;rw[b8];exact(l8.keep g4 λa b m=>by have:=l9 a b;omega).row dC (by unfold aQ dG;simp;omega)
 rintro _ m1 ⟨m2,q0,q1,q2,G2,h3,h5⟩;refine PA.mk λh8 d7 q3 m3=>?_;have H:=m2.then d7;have m4:=H.size;have c9:=f5.then H;have h9:=d7.get h3 id;have i0:=H.get (N.get d3 id) id;have i1:=H.get (N.get g9 id) id;have i2:=(((M.then Z).then N).then H).get g3 id;have o:∀{A:World} {no:Int},ai h8 A->kV d S V origin start c=(sY,false,no)->xJ ZQ 59 (ZX w2.heap.size) (kK sY none 0 0) A λu=>ow ZQ 59 (ZX w2.heap.size) u λr=>Ok (xp w (kV d S V origin start c)) (.returned (.tuple #[r,.bool false,QH no])) u:=λ{A no} h4 R=>z (((M.then Z).then N).then (H.then h4)) R;refine⟨λa9 c5 w'=>∃I:Nat,c5=I/\I<=2/\a9=2-I/\ai h8 w'/\(1<=I->c.expect= -1\/c.expect=((V.state c.bd c.agg).getD ⟨0,[]⟩).version)/\(2<=I->xL (d.at c.bd) F c.field c.op c.arg=0),⟨_,0,rfl,oM,rfl,aj.refl _,λh=>oM,λh=>oM⟩,?_⟩;rintro a9 _ _ J ⟨I,rfl,hj,rfl,k,d8,m5⟩;have d0:=k.get h9 id;have a0:=k.get i0 id;have i3:=k.get i1 id;have d1:=k.get m3 id;refine al.dec (λq4=>⟨m1.heap.size,0,rfl,oM,oM,?_⟩) (λq5=>?_)
 ·have m6:I=0\/I=1:=oM
  rcases m6 with rfl|rfl
  ·refine⟨_,ae d1 rfl,_,_,_,rfl,kR,PC.ok (φ:=λv w'=>v= QH (if c.expect= -1\/c.expect=((V.state c.bd c.agg).getD ⟨0,[]⟩).version then 0 else 11)/\J=w') (uX ⟨_,ae a0 rfl,al.dX (λh1=>Ok.mk ⟨by rw[if_pos (.inl h1)],rfl⟩) (λh1=>⟨_,ae a0 rfl,_,ae d0 rfl,al.dX (λh2=>Ok.mk ⟨by rw[if_pos (.inr h2)],rfl⟩) (λh2=>Ok.mk ⟨by rw[if_neg (by rintro(h|h);exact h1 h;exact h2 h)],rfl⟩)⟩)⟩) ?_⟩
   rintro _ _ ⟨rfl,rfl⟩
   by_cases hx:c.expect= -1\/c.expect=((V.state c.bd c.agg).getD ⟨0,[]⟩).version
   ·rw[if_pos hx]
    exact⟨_,rfl,al.ff rfl ⟨_,oM,1,rfl,oM,rfl,k,λ_=>hx,λh=>oM⟩⟩
   ·rw[if_neg hx]
    exact⟨_,rfl,al.tt rfl (o k (B (by rw[if_pos hx])))⟩
  ·refine⟨_,ae d1 rfl,_,_,_,rfl,kR,PC.ok (φ:=λv w'=>v= QH (xL (d.at c.bd) F c.field c.op c.arg)/\ai J w') (uZ ⟨_,_,_,ae i3 rfl,_,_,_,ae d0 rfl,_,ae a0 rfl,_,ae a0 rfl,_,ae a0 rfl,PC.ok (Jc c4 ((b3.af (b4.then H)).af k) ((h5.af d7).af k)) ?_⟩) ?_⟩
   ·rintro _ m7 ⟨rfl,b9⟩
    exact⟨_,rfl,Ok.mk ⟨rfl,b9⟩⟩
   ·rintro _ m7 ⟨rfl,b9⟩
    refine⟨_,rfl,al.dw (λU=>o (k.then b9) (B ?_)) (λh0=>⟨_,oM,2,rfl,oM,rfl,k.then b9,λ_=>d8 oM,λ_=>h0⟩)⟩;have m8:xL (d.at c.bd) F c.field c.op c.arg=10:=by
     rw[Ha]at U⊢;split at U
     ·simp at U
     ·rename_i hq;rw[if_neg hq]
    rw[if_neg (λh=>h (d8 oM)),if_pos U,m8]
 have i4:=B (r:=((a_ c origin S.vec (max S.top start)).2,decide ((a_ c origin S.vec (max S.top start)).1=0),(a_ c origin S.vec (max S.top start)).1)) (by rw[if_neg (λh=>h (d8 oM)),if_neg (by rw[m5 oM];simp)]);have K:(if start>S.top then start else S.top)=max S.top start:=by split<;>omega
 have c0:(if start>S.top then start else S.top)<=9223372036854775807:=by split<;>omega
 refine⟨λeb eo no w'=>eo=0/\no=(a_ c origin S.vec (max S.top start)).1/\ai J w'/\∃a2 a3 a7 G,w'.heap[eb]? =some (.cells (aE (a_ c origin S.vec (max S.top start)).2 a2 a3 a7).toArray 59 (0,0))/\Row aP 8 w' G a2 a3 (a_ c origin S.vec (max S.top start)).2.aK/\∀a,G a->J.heap.size<=a/\a<w'.heap.size,?_,?_⟩
 rotate_left
 ·rintro eb _ no _ q6 ⟨rfl,rfl,d9,e,f,g,q,ge,x,i⟩
  have i5:=d9.get (k.get i2 id) id;have zk:=k.size;have q7:=d9.size;have zw:=t.size;refine aw (bg _ e f g) ge (aD (bg _ e f g) i5 rfl λq8 i6 q9 m9=>aw (bg _ e f g) m9 (Ok.mk ⟨e,f,g,q,?_,?_,λa b=>?_,?_⟩))
  ·rw[i4];rfl
  ·rw[i4];exact x.keep i6 λa b m=>by have:=i a b;omega
  ·have:=i a b;omega
  ·exact(((c9.then k).then d9)).new i6 λa b=>.inr oM
 ·intro O i7
  have e0:ai J O:=i7.keep;have r0:O.heap.size=J.heap.size:=by rw[i7.heap]
  have i8:=e0.get a0 id;have a4:=hs.af ((c9.then k).then e0);have zk:=k.size;have hn:=hs.1.n;have c1:S.vec.length<=20000000:=by rw[S.b_];omega
  have c2:S.vec.length*8<=aQ:=by unfold aQ;omega
  have y:∀{wE w6 n:World} {a1:Nat} {e:Option Addr} {f g:Nat} {q:Nat->Prop},ai O wE->Row aP 8 wE q e f (a_ c origin S.vec (max S.top start)).2.aK->(∀a,q a->O.heap.size<=a/\a<wE.heap.size/\a≠a1)->ai wE w6->O.heap.size<=a1->aj (λa=>a=a1) w6 n->n.heap.size=w6.heap.size->n.heap[a1]? =some (.cells (aE (a_ c origin S.vec (max S.top start)).2 e f g).toArray 59 (0,0))->
    (λ(eb eo:Nat) (no:Int) (w':World)=>eo=0/\no=(a_ c origin S.vec (max S.top start)).1/\ai J w'/\∃a2 a3 a7 G,w'.heap[eb]? =some (.cells (aE (a_ c origin S.vec (max S.top start)).2 a2 a3 a7).toArray 59 (0,0))/\Row aP 8 w' G a2 a3 (a_ c origin S.vec (max S.top start)).2.aK/\∀a,G a->J.heap.size<=a/\a<w'.heap.size) a1 0 (a_ c origin S.vec (max S.top start)).1 n:=λ{wE w6 n a1 e f g q} hE hr hG h6 hg h7 r3 n0=>by
   have z6:=h6.size;exact⟨rfl,rfl,((e0.then hE).then h6).new h7 λa b=>.inr oM,e,f,g,q,n0,(hr.af h6).keep h7 λa b m=>(hG a b).2.2 m,λa b=>by have:=hG a b;omega⟩
  have zc:¬(O.heap.size<=w1.heap.size):=by
   have h1:=((((k3.then M).then Z).then N).then H).size;omega
  refine⟨λa=>O.heap.size<=a,zc,aw (BF c) i8 ⟨PC.ok (mi a4) ?_,PA.mk λr4 c3 r5 n1=>⟨ai.keep c3,PC.ok (mi (a4.af c3)) ?_⟩⟩⟩
  ·rintro _ n2 ⟨av,nv,cv,a8,rfl,b5,l,n3⟩
   have n4:=l.size;refine⟨_,_,_,rfl,ai.keep l,PC.ok (Iy (a4.af l)) ?_,PA.mk λn8 L n9 e1=>⟨ai.keep L,PC.ok (Iy ((a4.af l).af L)) ?_⟩⟩
   ·rintro _ _ ⟨rfl,rfl⟩
    refine⟨_,rfl,aj.refl _,?_,?_⟩
    ·rw[K]
     refine PC.ok (jL (b5.row dC c2) (by rw[<-K];exact c0) c1) ?_;rintro _ e2 ⟨e,f,g,q,rfl,x,i,j⟩;have e3:=j.size;exact cu (sW _ e f g) ⟨_,rfl,ai.keep j,PA.mk λr6 i9 r7 o0=>⟨ai.keep i9,aD (bg _ e f g) o0 rfl λe4 p P Q=>⟨p.mono λa _ m=>oM,y (l.then j) x (λa b=>⟨by have:=i a b;omega,(i a b).2,by have:=i a b;omega⟩) i9 oM p P Q⟩⟩⟩
    ·refine PA.mk λn8 L n9 e1=>⟨ai.keep L,?_⟩
     rw[K];refine PC.ok (jL ((b5.af L).row dC c2) (by rw[<-K];exact c0) c1) ?_;rintro _ e2 ⟨e,f,g,q,rfl,x,i,j⟩;have e3:=j.size;exact cu (sW _ e f g) ⟨_,rfl,ai.keep j,aD (bg _ e f g) (j.get e1 id) rfl λe4 p P Q=>⟨p.mono λa _ m=>oM,y ((l.then L).then j) x (λa b=>⟨by have:=i a b;omega,(i a b).2,by have:=i a b;omega⟩) (aj.refl _) oM p P Q⟩⟩
   ·rintro _ _ ⟨rfl,rfl⟩
    refine⟨_,rfl,aj.refl _,?_⟩;rw[K];refine PC.ok (jL ((b5.af L).row dC c2) (by rw[<-K];exact c0) c1) ?_;rintro _ e2 ⟨e,f,g,q,rfl,x,i,j⟩;have e3:=j.size;exact cu (sW _ e f g) ⟨_,rfl,ai.keep j,aD (bg _ e f g) (j.get e1 id) rfl λe4 p P Q=>⟨p.mono λa _ m=>oM,y ((l.then L).then j) x (λa b=>⟨by have:=i a b;omega,(i a b).2,by have:=i a b;omega⟩) (aj.refl _) oM p P Q⟩⟩
  ·rintro _ n2 ⟨av,nv,cv,a8,rfl,b5,l,n3⟩
   have n4:=l.size;refine⟨_,_,_,rfl,ai.keep l,PC.ok (Iy ((a4.af c3).af l)) ?_⟩;rintro _ _ ⟨rfl,rfl⟩;refine⟨_,rfl,aj.refl _,?_⟩;rw[K];refine PC.ok (jL (b5.row dC c2) (by rw[<-K];exact c0) c1) ?_;rintro _ e2 ⟨e,f,g,q,rfl,x,i,j⟩;have e3:=j.size;exact cu (sW _ e f g) ⟨_,rfl,ai.keep j,aD (bg _ e f g) ((l.then j).get n1 id) rfl λe4 p P Q=>⟨p.mono λa _ m=>oM,y ((c3.then l).then j) x (λa b=>⟨by have:=i a b;omega,(i a b).2,by have:=i a b;omega⟩) (aj.refl _) oM p P Q⟩⟩
end
structure ko where
 ta:Option Addr
 tn:Nat
 tc:Nat
 pa:Option Addr
 pn:Nat
 pc:Nat
 dp:Nat
 lp:Option Addr
 sp:Nat
 bp:Nat
 wp:Nat
 tp:Nat
abbrev ko.cells(a:ko)(b:cz)(c:Int):Array Value:= #[QH b.bl,QH b.nY,QH b.aZ,QH b.chunk,QH b.buffer,QH b.dx,QH b.every,QH b.start,.slice a.ta a.tn a.tc,.slice a.pa a.pn a.pc,QH c,
 ZX a.dp,.pointer a.lp,ZX a.sp,ZX a.bp,ZX a.wp,ZX a.tp]
def DL(d:World)(G:Nat->Prop)(e:Nat)(f:Option Addr)(D:ak)(b:Option cY):Prop:=
 ∃c,aW d e c D/\(∀a,c a->G a)/\match b with
  |none=>f=none
  |some g=>g.aX≠[]/\∃h i,f=some ⟨h,0,none⟩/\jr d e h i g/\∀a,i a->G a/\¬c a
def Mw(d:World)(G:Nat->Prop)(e:Nat)(a:Nat)(f:List ah):Prop:=∃c D,ij d e c D a f/\(∀b,c b->G b)/\∀b,D b->G b
def mf(e:Nat)(f:Array Value)(b:ko)(d:cz)(c:bw)(g:List ah):Nat->World->(Nat->Prop)->Prop
 |0=>λa G=>G e/\a.heap[e]? =some (.cells f 99 (0,0))
 |1=>λa G=>bh a G d.decl b.ta b.tn b.pa b.pn
 |2=>λa G=>DL a G b.dp b.lp c.D c.log
 |3=>λa G=>cV a b.sp G c.S/\c.S.Cl/\c.S.n=d.bl.toNat
 |4=>λa G=>dF a b.bp G d.decl d.every.toNat g
 |5=>λa G=>Mw a G b.wp d.buffer.toNat c.waits
 |6=>λa G=>eG a b.tp G c.fP
 |_=>λ_ _=>True
section
variable {w w' w0:World} {p:Nat} {F G T:Nat->Prop} {cls:Nat->Nat} {h:ko} {c:cz} {self:Int} {X:bw} {dp:Nat} {lp:Option Addr} {D:ak} {log:Option cY}
def DL.keep(h:DL w G dp lp D log)(c:aj T w w')(d:∀a,G a->¬T a):DL w' G dp lp D log:=by
 obtain⟨i,j,e,f⟩:=h;refine⟨i,j.keep c λa b=>d a (e a b),e,?_⟩
 cases log with
 |none=>exact f
 |some p=>
  obtain⟨k,l,m,n,o,g⟩:=f;exact⟨k,l,m,n,o.keep c λa b=>d a (g a b).1,g⟩
def cj:vC (mf p r h c X B):=by
 intro k w w' G T a d b
 match k,a with
 |0,a=>exact⟨a.1,d.get a.2 (b p a.1)⟩
 |1,a=>exact bh.keep a d b
 |2,a=>exact DL.keep a d b
 |3,a=>exact⟨cV.keep a.1 d b,a.2⟩
 |4,a=>exact dF.keep a d b
 |5,a=>obtain⟨j,D,l,g,i⟩:=a;exact⟨j,D,l.keep d (λe f=>b e (g e f)) λe f=>b e (i e f),g,i⟩
 |6,a=>exact eG.keep a d b
 |k+7,a=>trivial
structure kU (c:cz) (me:Int):Prop where
 right:gG c me=true
 decl:dd c.decl=0
 Zw:aN c.aZ
 every:aN c.every
 start:aN c.start
structure Env (w0 w:World) (F:Nat->Prop):Prop where
 oH:eM w0
 laid:Laid w0
 gr:ai w0 w
 aF:∀b,F b->w0.heap.size<=b
def Env.Ec(h:Env w0 w F)(c:de F w f w'):Env w0 w' f:=⟨h.oH,h.laid,h.gr.new c.keep λa b=>.inr (h.aF a b),λa b=>(c.new a b).elim (h.aF a) λd=>by have:=h.gr.size;omega⟩
def Env.af(h:Env w0 w F)(a:ai w w'):Env w0 w' F:=⟨h.oH,h.laid,h.gr.then a,h.aF⟩
abbrev c_(w:World)(F:Nat->Prop)(cls:Nat->Nat)(p:Nat)(h:ko)(c:cz)(self:Int)(X:bw):Prop:=bS w F cls (mf p (h.cells c self) h c X X.S.l)
def bP(w:World)(p:Nat)(F:Nat->Prop)(c:cz)(self:Int)(X:bw):Prop:=kU c self/\∃h cls,c_ w F cls p h c self X
def c_.af(a:c_ w F cls p h c self X)(b:ai w w'):c_ w' F cls p h c self X:=bS.af a cj b
def c_.bG(a:c_ w F cls p h c self X):w.heap[p]? =some (.cells (h.cells c self) 99 (0,0)):=(a.at' 0).2
def c_.Kp(a:c_ w F cls p h c self X):F p/\cls p=0:=(a.at' 0).1
def bP.keep(b:bP w p F c self X)(d:aj T w w')(e:∀a,F a->¬T a):bP w' p F c self X:=by
 obtain⟨f,h,cls,g⟩:=b;exact⟨f,h,cls,bS.keep g cj d e⟩
def bP.af(a:bP w p F c self X)(b:ai w w'):bP w' p F c self X:=a.keep b λ_ _ h=>h
def bP.aF(b:bP w p F c self X):∀a,F a->a<w.heap.size:=by obtain⟨e,h,cls,d⟩:=b;exact d.aF
def c_.store{g d:Array Value}{e:ko}(a:bS w F cls (mf p g e c X B))(h:aj (·=p) w w')(i:w'.heap[p]? =some (.cells d 99 (0,0))):bS w' F cls (mf p d e c X B):=by
 refine bS.same a cj (k:=0) (h.mono λj _ b=>by have b:j=p:=b;exact b▸(a.at' 0).1) ⟨(a.at' 0).1,i⟩ λf G k l=>?_;rcases f with _|_|_|_|_|_|_|f<;>first|exact l|exact absurd rfl k
def DL.Qo(i:DL w G dp lp D (some b0))(e:Env w0 w G)(n:∀a,G a->a<w.heap.size):∃d,lp=ZZ d/\b0.aX≠[]/\cQ w0 w dp d b0 D (λa=>a<w.heap.size/\¬G a):=by
 obtain⟨j,k,g,l,d,m,rfl,h,f⟩:=i;refine⟨d,rfl,l,m,⟨j,k,e.gr,λa b=>⟨e.aF a (g a b),λc=>?_⟩,λa b=>?_⟩,h,λa b=>⟨e.aF a (f a b).1,λc=>c.2 (f a b).1⟩⟩
 ·rcases c with c|c
  ·exact c.2 (g a b)
  ·exact(f a c).2 b
 ·rcases b with b|b
  ·exact b.1
  ·exact h.aF a b
def DL.nY(e:DL w G dp lp D log)(c:Env w0 w G):bf w0 w dp D (λa=>a<w.heap.size/\¬G a):=by
 obtain⟨f,g,d,-⟩:=e;exact⟨f,g,c.gr,λa b=>⟨c.aF a (d a b),λh=>h.2 (d a b)⟩,λa b=>b.1⟩
def DL.Ii{Y:Nat->Prop}(n:cQ w0 w' dp a b0 D (λb=>(b<w.heap.size/\¬G b)\/Y b))(o:aj (et λb=>b<w.heap.size/\¬G b) w w')(p:b0.aX≠[]):∃e,DL w' e dp (ZZ a) D (some b0)/\de G w e w'/\(∀b,e b->b<w'.heap.size)/\∀b,e b->¬Y b:=by
 obtain⟨h,⟨i,j,s,f,t⟩,k,l⟩:=n;have g:∀b,¬(b<w.heap.size/\¬G b)->G b\/w.heap.size<=b:=λb c=>by
  rcases Nat.lt_or_ge b w.heap.size with d|d
  ·exact .inl (Classical.byContradiction λq=>c ⟨d,q⟩)
  ·exact .inr d
 refine⟨λb=>i b\/h b,⟨i,j,λb c=>.inl c,p,a,h,rfl,k,λb c=>⟨.inr c,λr=>(f b r).2 (.inr c)⟩⟩,⟨o.mono λb u c=>(g b c).resolve_right oM,λb c=>?_⟩,λb c=>?_,λb c m=>?_⟩
 ·rcases c with c|c
  ·exact g b λd=>(f b c).2 (.inl (.inl d))
  ·exact g b λd=>(l b c).2 (.inl d)
 ·exact c.elim (j.aF b) (k.aF b)
 ·rcases c with c|c
  ·exact(f b c).2 (.inl (.inr m))
  ·exact(l b c).2 (.inr m)
def DL.OG{Y:Nat->Prop}(i:bf w0 w' dp D (λa=>(a<w.heap.size/\¬G a)\/Y a))(j:aj (et λa=>a<w.heap.size/\¬G a) w w'):∃d,DL w' d dp none D none/\de G w d w'/\(∀a,d a->a<w'.heap.size)/\∀a,d a->¬Y a:=by
 obtain⟨e,f,m,g,n⟩:=i;have h:∀a,¬(a<w.heap.size/\¬G a)->G a\/w.heap.size<=a:=λa b=>by
  rcases Nat.lt_or_ge a w.heap.size with c|c
  ·exact .inl (Classical.byContradiction λk=>b ⟨c,k⟩)
  ·exact .inr c
 exact⟨e,⟨e,f,λa b=>b,rfl⟩,⟨j.mono λa o b=>(h a b).resolve_right oM,λa b=>h a λc=>(g a b).2 (.inl c)⟩,λa b=>f.aF a b,λa b l=>(g a b).2 (.inr l)⟩
end
def Kx{D:ak}(b:b0.aX≠[]):(aG b0 D).2.1.aX≠[]:=by
 have d:∀a:ak,(m_ b0 a).2.1.aX≠[]:=by
  intro a;unfold m_;dsimp only;split
  ·exact b
  ·split
   ·exact b
   ·simp
 have c:∀a:ak,(bF b0 a).2.1.aX≠[]:=by
  intro a;unfold bF;dsimp only;split
  ·exact b
  ·exact d _
 unfold aG;dsimp only;split
 ·exact c D
 ·split
  ·exact b
  ·exact c _
def Il{D:ak}{l:List ah}(a:b0.aX≠[]):(az b0 D l).2.1.aX≠[]:=by
 unfold az;dsimp only;have b:(if b0.size<=b0.bytes then aG b0 D else(0,b0,D)).2.1.aX≠[]:=by
  split
  ·exact Kx a
  ·exact a
 generalize(if b0.size<=b0.bytes then aG b0 D else(0,b0,D))=c at b⊢;split
 ·exact a
 split
 ·exact a
 split
 ·exact b
 split
 ·exact b
 ·exact b
def Im(g:Row fZ 96 b f d a B):∀c∈B,c.Ok:=λc h=>by
 obtain⟨e,i,rfl⟩:=List.getElem_of_mem h;obtain⟨k,l,m,-,-,-,-,n,o,p,-,-,j⟩:=g.el e B[e] (Qq i);exact j
def aq.Ky:∀{l:List ah} {S:aq} {a:ah},a∈S.l->a∈(S.eI l).l
 |[],S,a,b=>b
 |e::l,S,a,b=>aq.Ky (l:=l) (S:=(S.add e).2) (by
  rcases S.gg e with⟨-,c⟩|⟨d,-⟩
  ·rw[c];exact b
  ·rw[d];exact(cX e S.l).mem_iff.2 (QJ _ b))
def lJ{a:cz}(c:H.Cl)(d:H.n=a.bl.toNat)(b:List ah):dZ a H b=H.eI b:=by
 unfold dZ;rw[aq.BE,<-d,c.VI]
section
variable {w w' w0:World} {p:Nat} {F E T:Nat->Prop} {cls:Nat->Nat} {h:ko} {c:cz} {self:Int} {X:bw} {evs:List ah} {ea:Option Addr} {en ec:Nat}
def kU.bl(a:kU c self):c.bl=(c.bl.toNat:Int)/\c.bl.toNat<=64/\1<=c.bl.toNat:=by
 have:=a.right;unfold gG within at this;simp only[QK,decide_eq_true_eq]at this;omega
def Kz(t:c_ w F cls p h c self X)(b0:kU c self)(hr:Row fZ 96 w E ea en evs)(u:∀a,E a->a<w.heap.size)(hl:X.S.l.length+evs.length<=20000000):
  Calls ZQ 93 #[ZX p,.slice ea en ec] w (Ok λa0 w'=>∃M e,a0= ZX M/\cV w' M e (dZ c X.S evs)/\(∀a,e a->w.heap.size<=a)/\ai w w'):=by
 obtain⟨b1,b2,c5⟩:=b0.bl;have fz:=(t.at' 3).1;refine oP ⟨p,0,rfl,_,ae t.bG rfl,?_⟩;rw[b1];refine PC.ok (GX b2) ?_;rintro _ w7 ⟨v,l,rfl,N,x,m⟩;have i:=c_.af t m;refine⟨_,rfl,p,0,rfl,_,ae i.bG rfl,PC.ok (sD (fz.af m) oM) ?_⟩;rintro _ c6 ⟨a2,y,c1,G,rfl,j,z,n⟩;have O:=N.aF;have c7:=j.aF;have z7:=m.size;have c8:=z.size;have P:=m.then z;refine⟨_,_,_,rfl,AZ j Eg (hr.af P) (λa b=>⟨by have:=u a b;omega,λA=>by have:=u a b;have:=n a (j.self a A);omega⟩) (by unfold aQ;omega) (by unfold maxLen;omega) λa' c' o Q B C b3 _=>⟨_,_,_,rfl,?_⟩⟩;have b4:=B.len dC;have c9:=C.size;rw[QX]at b4;have a3:Row fZ 96 o Q a' (y+en) (X.S.l++evs):=B.row dC (by rw[QX];unfold aQ;omega);have R:=B.aF;have S:∀a,Q a->¬l a:=λa b q=>by
  have f:=x a q;have h6:=O a q;rcases b3 a b with i|i|i
  ·have:=n a i;omega
  ·have:=u a i;omega
  ·omega
 have a4:ai w o:=P.new C λa b=>.inr (by have:=n a (j.self a b);omega);have a5:=(N.af z).keep C λa b A=>by have:=O a b;have:=n a (j.self a A);omega
 refine⟨λT H w'=>∃(d:Nat) (e:Nat->Prop),H=d/\d<=y+en/\T=y+en-d/\cV w' v e ((⟨c.bl.toNat,[]⟩:aq).eI ((X.S.l++evs).take d))/\(∀a,e a->l a\/o.heap.size<=a)/\aj l o w',⟨_,0,l,rfl,Qj _,rfl,a5,λa b=>.inl b,aj.refl _⟩,?_⟩;rintro T _ _ U ⟨d,e,rfl,hj,rfl,I,r,s⟩;have d0:=s.size;refine al.dec (λd1=>?_) (λd2=>?_)
 ·obtain⟨g,V⟩:∃g,(X.S.l++evs)[d]? =some g:=⟨_,Qq (by rw[QX];omega)⟩
  obtain⟨a,a1,es,ha,d3,d4,b5,J,K,L,rfl,b6,a7⟩:=(a3.keep s S).el d g V;refine⟨a,a1,ha,oM,oM,br (es:=aE g J K L) (k:=10) (bg _ _ _ _) rfl (λH ht=>by rw[Qx];exact b5 H ht) (PA.mk λd5 b7 d6 b8=>aD (bg g J K L) b8 rfl λb9 c0 d7 c2=>aw (bg g J K L) c2 ?_)⟩;have k:ai U b9:=b7.new c0 λa b=>.inr (by have b:a=U.heap.size:=b;omega);have W:=aq.np ((X.S.l++evs).take d) ⟨c.bl.toNat,[]⟩;rw[Qy,QX]at W;simp only[List.length_nil]at W;refine PC.ok (vH (I.af k) (b6.af k) (λa b=>⟨by have:=R a b;have:=k.size;omega,λq=>?_⟩) a7 oM) ?_
  ·rcases r a q with f|f
   ·exact S a b f
   ·have:=R a b;omega
  rintro _ c3 ⟨rfl,Y,c4,Z⟩;refine⟨_,rfl,_,oM,d+1,Y,an oM,oM,rfl,?_,λa b=>?_,(s.af k).new Z.keep λa b=>r a b⟩
  ·rw[Qw,V]
   show cV c3 v Y (aq.eI _ ((X.S.l++evs).take d++[g]));rw[aq.nq];exact c4
  ·rcases Z.new a b with f|f
   ·exact r a f
   ·have:=k.size;exact .inr oM
 ·rw[Qz (by rw[QX];omega)]at I
  exact Ok.mk ⟨v,e,rfl,I,λa b=>(r a b).elim (x a) λf=>oM,a4.new s λa b=>.inr (x a b)⟩
end
section
variable {w w' w0:World} {p:Nat} {F E T:Nat->Prop} {cls:Nat->Nat} {h:ko} {c:cz} {self:Int} {X:bw} {evs lB:List ah} {ea:Option Addr} {en ec:Nat}
def Env.sub(b:Env w0 w F)(c:∀a,f a->F a):Env w0 w f:=⟨b.oH,b.laid,b.gr,λa d=>b.aF a (c a d)⟩
def SS(a:H.OK)(c:l∈H.l)(d:L∈H.l)(e:aO l=aO L):l=L:=by
 have b:=a.get c;have f:=a.get d;rw[e,f]at b;exact(XJ b).symm
def DF(x:bS w F cls (mf p (h.cells c self) h c X lB))(m:Env w0 w F)(R:∀(y:Nat) (n o:ah),lB[y]? =some n->X.S.l[y]? =some o->aO n=aO o->n=o)(z:X.S.l.length<=20000000){κ:Value->World->Prop}(q:∀w' i b,c_ w' i b p h c self X->de F w i w'->κ (QH 0) w'):
  ∀pH,bE w pH->∃r:Nat->Prop,(∃s A,(ZZ p:Option Addr)=some ⟨s,A,none⟩/\(¬r s/\(∃(B:Option Addr),pH.cell? ⟨s,A+14,none⟩=some (.pointer B)/\(∃C E,(ZZ p:Option Addr)=some ⟨C,E,none⟩/\(∃(H:Option Addr),pH.cell? ⟨C,E+13,none⟩=some (.pointer H)/\
   PC ZQ 41 #[.pointer H] pH (λS e=>∃(I:Option Addr) (J:Nat) (K:Nat),S= .slice I J K/\(aj r pH e/\PC ZQ 76 #[.pointer B,.slice I J K] e (λT j=>∃(U:Int),T= QH U/\(aj r e j/\κ (QH 0) j)) a1)) f1))))):=by
 intro pH V;have t:ai w pH:=V.keep;have l:=bS.af x cj t;have L:=(l.at' 0).2;refine⟨λa=>F a/\cls a=4,p,0,rfl,λW=>?_,_,ae L rfl,p,0,rfl,_,ae L rfl,PC.ok (sD (show cV pH h.sp (λa=>F a/\cls a=3) X.S from(l.at' 3).1) z) ?_⟩
 ·have:=W.2
  have Y:=(show(F p/\cls p=0)/\_ from x.at' 0).1.2;rw[Y]at this;cases this
 rintro _ e ⟨a2,a3,cc,G,rfl,u,g,Z⟩;have b5:=g.size;have a6:=l.aF;have M:=bS.af l cj g;have a8:=u.jx;have a0:dF e h.bp (λa=>F a/\cls a=4) c.decl c.every.toNat lB:=M.at' 4;refine⟨_,_,_,rfl,ai.keep g,PC.ok (IJ a0 m.oH ((m.gr.then t).then g) (λa f=>m.aF a f.1) (u.row dC (by unfold aQ;omega)) a8 (λa f=>⟨u.aF a f,λhf=>by have:=a6 a hf.1;have:=Z a f;omega⟩) z R) ?_⟩;rintro _ j ⟨k,rfl,G4,N,O⟩;obtain⟨i,b,v,d,-,-⟩:=M.Ec cj (k:=4) (G':=G4) (C2:=mf p (h.cells c self) h c X X.S.l) O N.aF N λP G hj hc=>by
  rcases P with _|_|_|_|_|_|_|P<;>first|exact hc|exact absurd rfl hj
 have Q:ai w e:=t.then g;exact⟨_,rfl,O.keep,q j i b v ⟨(ai.keep Q).then d.keep,λa f=>(d.new a f).imp id λh1=>by have:=Q.size;omega⟩⟩
def Kq(y:c_ w F cls p h c self X)(c1:kU c self)(z:Env w0 w F){V:cY}(b3:X.log=some V)(Y:Row fZ 96 w E ea en evs)(Z:∀b,E b->b<w.heap.size/\¬(F b/\cls b=2))(hl:X.S.l.length+evs.length<=20000000):
  Calls ZQ 43 #[ZX p,.slice ea en ec] w (Ok λA w'=>A= QH (bU c X evs).1/\∃B s f,c_ w' s f p B c self (bU c X evs).2/\de F w s w'/\B.wp=h.wp):=by
 obtain⟨e,D,c2,a,k⟩:=X;simp only at b3 hl;subst b3;obtain⟨hS,C,hn⟩:=(show cV w h.sp (λb=>F b/\cls b=3) e/\e.Cl/\e.n=c.bl.toNat from y.at' 3)
 have c3:=y.aF;obtain⟨e1,H,I,a0⟩:=DL.Qo (show DL w (λb=>F b/\cls b=2) h.dp h.lp D (some V)from y.at' 2) (z.sub λb d=>d.1) λb d=>c3 b d.1;have c4:=Im Y;have a2:∀b,E b->b<w.heap.size:=λb d=>(Z b d).1;refine oL ⟨p,0,rfl,_,ae y.bG rfl,?_⟩;rw[H];refine PC.ok (MG z.laid a0 I Y a2 oM) ?_;rintro _ w7 ⟨rfl,a1,k7⟩;have J:=Il (D:=D) (l:=evs) I;have t:∀{a3},(if(az V D evs).1≠0 then((az V D evs).1,({S:=e,D:=(az V D evs).2.2,log:=some (az V D evs).2.1,waits:=a,fP:=k}:bw))else
   if((az V D evs).2.2.sync (az V D evs).2.1.last).1≠0 then(((az V D evs).2.2.sync (az V D evs).2.1.last).1,{S:=e,D:=((az V D evs).2.2.sync (az V D evs).2.1.last).2,log:=some (az V D evs).2.1,waits:=a,fP:=k})else
   (0,{S:=dZ c e evs,D:=((az V D evs).2.2.sync (az V D evs).2.1.last).2,log:=some (az V D evs).2.1,waits:=a,fP:=k}))=a3->bU c ⟨e,D,some V,a,k⟩ evs=a3:=λ{a3} hq=>hq
 generalize e2:az V D evs=ap at a1 J t;obtain⟨e3,u,D7⟩:=ap;simp only at a1 J t;obtain⟨G7,K,a4,a5,-⟩:=DL.Ii (Y:=λ_=>False) (a1.mono λb d=>d.elim id False.elim) k7 J;obtain⟨F7,m,L,g,-,-,c5⟩:=y.Ec cj (k:=2) (G':=G7) (C2:=mf p (h.cells c self) h c ⟨e,D7,some u,a,k⟩ e.l) a4 a5 (by rw[<-H]at K;exact K) λn G M N=>by
  rcases n with _|_|_|_|_|_|_|n<;>first|exact N|exact absurd rfl M
 refine⟨_,rfl,al.dw (λa6=>Ok.mk ?_) (λh0=>?_)⟩
 ·rw[t (if_pos a6)]
  exact⟨rfl,h,F7,m,L,g,rfl⟩
 simp only at h0;have c6:=z.Ec g;obtain⟨q2,o,-,v⟩:=DL.Qo (show DL w7 (λb=>F7 b/\m b=2) h.dp h.lp D7 (some u)from L.at' 2) (c6.sub λb d=>d.1) λb d=>L.aF b d.1;refine⟨p,0,rfl,_,ae (L.at' 0).2 rfl,?_⟩;rw[o];refine PC.ok (J_ z.laid v J) ?_;rintro _ b4 ⟨rfl,a7,c7⟩;generalize e4:D7.sync u.last=sy at a7 t;obtain⟨s1,S⟩:=sy;simp only at a7 t;obtain⟨a8,q,j,O,-⟩:=DL.Ii (Y:=λ_=>False) (a7.mono λb d=>d.elim id False.elim) c7 J;obtain⟨P,x,i,l,-,a9,T⟩:=L.Ec cj (k:=2) (G':=a8) (C2:=mf p (h.cells c self) h c ⟨e,S,some u,a,k⟩ e.l) j O (by rw[<-o]at q;exact q) λn G M N=>by
  rcases n with _|_|_|_|_|_|_|n<;>first|exact N|exact absurd rfl M
 have b0:=g.trans l;refine⟨_,rfl,al.dw (λa6=>Ok.mk ?_) (λh1=>?_)⟩
 ·rw[t ((if_neg (by simpa using h0)).trans (if_pos a6))]
  exact⟨rfl,h,P,x,i,b0,rfl⟩
 simp only at h1;have c8:=t ((if_neg (by simpa using h0)).trans (if_neg (by simpa using h1)));rw[c8];have c9:Row fZ 96 b4 E ea en evs:=by
  refine(Y.keep a4.keep λb d=>(Z b d).2).keep j.keep λb d hf=>?_;rcases a4.new b (c5▸hf)with h5|h5
  ·exact(Z b d).2 h5
  ·have:=a2 b d;omega
 refine PC.ok (Kz i c1 c9 (λb d=>by have:=a2 b d;have:=b0.keep.size;omega) hl) ?_;rintro _ d0 ⟨U,F2,rfl,b5,d1,d2⟩;have d3:(dZ c e evs).n=c.bl.toNat:=aq.RJ _ _;have b1:=lJ C hn evs;have b6:(dZ c e evs).Cl:=by rw[b1];exact aq.Cl.eI C c4
 obtain⟨F3,Q,b7,r,d4,-⟩:=i.fr cj (k:=3) (w':=d0) (G':=F2) (C2:=mf p (h.cells c self) {h with sp:=U} c ⟨dZ c e evs,S,some u,a,k⟩ e.l) (ai.keep d2) (λb d=>.inr (d1 b d)) b5.aF ⟨b5,b6,d3⟩ λn G M N=>by
  rcases n with _|_|_|_|_|_|_|n<;>first|exact N|exact absurd rfl M
 refine⟨_,rfl,p,0,rfl,PS.mk (b7.at' 0).2 sM λb8 b9 e5 d5=>?_⟩;have d6:bS b8 F3 Q (mf p (({h with sp:=U}:ko).cells c self) {h with sp:=U} c ⟨dZ c e evs,S,some u,a,k⟩ e.l):=c_.store b7 b9 d5;have d7:de P b4 F3 b8:=⟨r.keep.then (b9.mono λb _ R=>by have R:b=p:=R;rw[R];exact(i.at' 0).1.1),r.new⟩
 have c0:=b0.trans d7;have d8:∀W∈e.l,W∈(dZ c e evs).l:=λW hx=>by rw[b1];exact aq.Ky hx
 have d9:(dZ c e evs).l.length<=20000000:=by rw[b1];exact Xx (aq.np _ _) hl
 exact DF d6 (z.Ec c0) (λe6 W e7 hx hy R=>SS b6.ok (d8 W (QZ hx)) (QZ hy) R) d9 (κ:=λA w'=>Ok (λA w'=>A= QH 0/\∃B s f,c_ w' s f p B c self ⟨dZ c e evs,S,some u,a,k⟩/\de F w s w'/\B.wp=h.wp) (.returned A) w')
  λw' s f b2 e0=>Ok.mk ⟨rfl,{h with sp:=U},s,f,b2,c0.trans e0,rfl⟩
end
end Go.Proofs.YtfchlbaidamodaaGreatDoor

import Derived.Test.YtjgjkeponbeekaaGreatDoorKa27
set_option linter.all false
set_option maxHeartbeats 4000000
set_option maxRecDepth 100000
namespace Go.Proofs.YtjgjkeponbeekaaGreatDoor
open Go.ar
variable{b1:List bR}{a c:Nat}{d:Option Addr}{v:Value}{b:World}
section
variable {w w':World} {p:Nat} {F D E:Nat->Prop} {S:aw} {m:bR} {va ea:Option Addr} {vn vc en ec:Nat}
def a_.GG(f:a_ b b1 v w)(d:ai w' b):a_ w' b1 v w:=by
 obtain⟨g,h,i,j,D,k,l,m,n,e,o,p⟩:=f;have:=d.size;exact⟨g,h,i,j,D,k,l,m,n,λa c=>⟨by have:=(e a c).1;omega,(e a c).2⟩,λa c=>by have:=o a c;omega,d.then p⟩
def a_.len(e:a_ b b1 (.slice d a c) w):a=b1.length:=by
 obtain⟨i,j,k,l,D,f,g,h,-⟩:=e
 cases f
 rw[g.len dC,<-h,Q8]
def a_.sl(a:a_ b b1 v w):∃c d e,v= .slice c d e:=by
 obtain⟨g,h,i,j,D,f,-⟩:=a;exact⟨_,_,_,f⟩
def Ig(h:cf w p F S)(hl:S.l.length<=20000000)(Z:Row aJ 8 w D va vn m.vec){d a:Int}:
  Calls XP 121 #[ZQ p,XH d,gM m va vn vc ea en ec,XH a] w (Ok (a_ w (kY S d m a))):=by
 have hS:=h.1;have hN:=hS.n;refine Az (PA.mk λe q g0 y=>⟨λw'=>e=w'/\(m.kind=1\/m.kind=2),⟨_,ae y rfl,al.dB (λr=>⟨_,ae y rfl,al.dB (λg=>Ok.mk ?_) (λg=>⟨rfl,.inr g⟩)⟩) (λr=>⟨rfl,.inl r⟩)⟩,?_⟩)
 ·unfold kY;rw[if_pos ⟨r,g⟩];exact(a_.nil e).GG q
 rintro _ _ ⟨rfl,hk⟩;have b9:¬(m.kind≠1/\m.kind≠2):=oM
 obtain⟨t,L⟩:∃t,t=S.missing m.vec (max 1 (min a 32)):=⟨_,rfl⟩
 have b4:(if(if 32<a then 32 else a)>1 then(if 32<a then 32 else a)else 1)=max 1 (min a 32):=by split<;>split<;>omega
 obtain⟨i,H⟩:∃i:List bR,i=if 0<t.length then [⟨3,0,0,[],t⟩]else []:=⟨_,rfl⟩
 have g1:i.length<=1:=by rw[H];split<;>simp
 refine⟨λk l n w'=>a_ e i (.slice k l n) w'/\ai e w',⟨_,_,_,ae y rfl,?_⟩,?_⟩
 ·rw[b4]
  refine PC.ok (xN (h.ah q) hl (Z.ah q)) ?_;rw[<-L];rintro _ g2 ⟨b7,n2,z,G,rfl,M,I,hG⟩;have g3:=M.len dC;have e1:=M.aB;refine⟨_,_,_,rfl,al.dec (λf6=>PA.mk λg4 N g5 e2=>?_) (λhz=>⟨?_,I⟩)⟩
  rotate_left
  ·rw[H,if_neg oM]
   exact(a_.nil e).ah I
  have g6:t.length<=20000000:=by
   rw[L];unfold aw.missing;rw[Qy];have:=List.length_filter_le (λj:aj=>decide (max 0 (fh m.vec j.origin)<j.seq)) S.l;omega
  refine a_.push (m:=⟨3,0,0,[],t⟩) (E:=G) ((a_.nil e).ah (I.then N)) Dx ⟨cU _ _,(M.ah N).row dC (by unfold aK;omega)⟩ (λb c=>⟨by have:=hG b c;omega,by have:=e1 b c;omega,λj=>by cases j⟩) e2 sM λa' c' g7 c4 e3=>⟨_,_,_,rfl,?_,?_⟩
  ·rw[H,if_pos oM];exact c4
  ·exact(I.then N).new e3 λb c=>(by cases c)
 rintro J on oc _ e4 ⟨O,P⟩;have a0:=q.then P;have e5:=P.size;refine PC.ok (nj (h.ah a0)) ?_;rintro _ v ⟨a3,n3,c3,G3,rfl,c6,c7,c8⟩;have g8:=a0.size;have c9:=c6.aB;have d0:Row aJ 8 v G3 a3 n3 S.vec:=c6.row dC (by rw[S.bL];unfold aK;omega);obtain⟨f,x⟩:∃f:List bR,f=if m.kind=1/\(lA m.vec S.vec=2\/lA m.vec S.vec=3)then [⟨2,0,0,S.vec,[]⟩]else []:=⟨_,rfl⟩
 have g9:f.length<=1:=by rw[x];split<;>simp
 have A:=P.then c7;have Q:∀b,aF J=some b->b<e4.heap.size:=λb c=>by
  obtain⟨a1,n1,u,a2,D,o,g,-⟩:=O
  cases o
  exact g.aB b c
 refine⟨_,_,_,rfl,λk l n w'=>a_ e (i++f) (.slice k l n) w'/\w'.heap[w.heap.size]? =some (.cells (dv m va vn vc ea en ec).toArray 127 (0,0))/\ai e w',⟨_,_,_,ae (A.get y id) rfl,PC.ok (Me ((Z.ah (q.then A)).sQ) d0.sQ) ?_⟩,?_⟩
 ·rintro _ _ ⟨rfl,rfl⟩
  have R:=A.get y id;have a4:=O.ah c7;have s:∀b,aF J=some b->e.heap.size<=b:=λb c=>by
   obtain⟨a1,n1,u,a2,D,o,g,B,h4,h5,T,h7⟩:=O
   cases o
   exact T b c
  have no:f=[]->a_ e (i++f) (.slice J on oc) v/\v.heap[w.heap.size]? =some (.cells (dv m va vn vc ea en ec).toArray 127 (0,0))/\ai e v:=λc=>⟨by rw[c,List.append_nil];exact a4,R,A⟩
  have C:∀{ε:Value->World->Prop} {U:Option Addr->Nat->Nat->World->Prop},f=[⟨2,0,0,S.vec,[]⟩]->(∀k l n w',a_ e (i++f) (.slice k l n) w'/\w'.heap[w.heap.size]? =some (.cells (dv m va vn vc ea en ec).toArray 127 (0,0))/\ai e w'->U k l n w')->
    PA v (.cells #[XH 2,XH 0,XH 0,.slice a3 n3 c3,.slice none 0 0] 127) λd1=>aG XP (Builtin.append_ #[69,69] 69 #[.slice J on oc,.slice (ZX v.heap.size) 1 1]) d1 (λe6 d2=>∃(a5:Option Addr) (a6:Nat) (a7:Nat),e6= .slice a5 a6 a7/\U a5 a6 a7 d2) ε:=λ{ε U} c V=>by
   refine PA.mk λd1 K h8 e7=>a_.push (m:=⟨2,0,0,S.vec,[]⟩) (E:=G3) (a4.ah K) Dx ⟨d0.ah K,cU _ _⟩ (λb c=>⟨by have:=c8 b c;omega,by have:=c9 b c;omega,λj=>by have:=Q b j;have:=c8 b c;omega⟩) e7 oM λa' c' d2 d3 d4=>⟨_,_,_,rfl,V _ _ _ _ ⟨by rw[c];exact d3,d4.get (K.get R id) λj=>?_,?_⟩⟩
   ·have:=s _ j;omega
   ·exact(A.then K).new d4 λb c=>.inr (s b c)
  refine⟨_,rfl,_,ae R rfl,al.dA (λr=>al.dA (λg=>C (by rw[x,if_pos ⟨r,.inl g⟩]) λk l n w' h=>h) (λg=>al.dA (λB=>C (by rw[x,if_pos ⟨r,.inr B⟩]) λk l n w' h=>h) (λB=>no (by rw[x,if_neg];rintro⟨-,h|h⟩;exact g h;exact B h)))) (λr=>no (by rw[x,if_neg λh=>r h.1]))⟩
 rintro e8 h9 i0 _ e9 ⟨E,W,a8⟩;have d5:=q.then a8;have f2:=a8.size;have a9:=E.len;have f8:(i++f).length<=2:=by rw[QX];omega
 have b0:∀{X:List bR},(if(i++f).isEmpty then [yP S d m.bw]else(i++f).map λb5=>{b5 with bw:=d,ng:=m.bw})=X->kY S d m a=X:=λ{X} hq=>by
  rw[<-hq];unfold kY;rw[if_neg b9,<-L];rw[H,x];have p1:(decide (lA m.vec S.vec=2\/lA m.vec S.vec=3))=decide (lA m.vec S.vec=2\/lA m.vec S.vec=3):=rfl
  by_cases u:0<t.length<;>by_cases z:m.kind=1/\(lA m.vec S.vec=2\/lA m.vec S.vec=3)
  ·simp[u,z]
  ·simp[u,z]
  ·simp[u,z]
  ·simp[u,z]
 refine al.dA (λh0=>⟨_,ae W rfl,PC.ok (HV (h.ah d5)) ?_⟩) (λh0=>⟨_,ae W rfl,PC.ok (Mg E oM) ?_⟩)
 ·have o:i++f=[]:=QW oM
  rintro _ i1 ⟨b8,n5,c5,G5,rfl,d6,d7,d8⟩;have d9:=d6.aB;rw[o]at E;refine⟨_,_,_,_,_,_,_,_,_,rfl,PA.mk λi2 Y i3 f3=>?_⟩;have b1:∀b,aF e8=some b->e.heap.size<=b/\b<e9.heap.size:=λb c=>by
   obtain⟨a1,n1,u,a2,D,o,g,B,h4,h5,T,h7⟩:=E
   cases o
   exact⟨T b c,g.aB b c⟩
  refine a_.push (m:=yP S d m.bw) (E:=G5) (E.ah (d8.then Y)) Dx ⟨(d6.ah Y).row dC (by show S.vec.length*8<=aK;rw[S.bL];unfold aK;omega),cU _ _⟩ (λb c=>⟨by have:=d7 b c;have:=d5.size;omega,by have:=d9 b c;omega,λj=>by have:=(b1 b j).2;have:=d7 b c;omega⟩) f3 sM λa' c' i4 e0 f5=>⟨_,_,_,rfl,_,ae (f5.get ((d8.then Y).get W id) λj=>by have:=(b1 _ j).1;omega) rfl,?_⟩
  refine PC.ok (Mg e0 sM) ?_;rintro b6 i5 b2;obtain⟨k,l,n,rfl⟩:=b2.sl;refine⟨_,_,_,rfl,Ok.mk ?_⟩;rw[b0 (if_pos (by rw[o];rfl))];exact b2.GG q
 ·rintro b6 i6 b3
  obtain⟨k,l,n,rfl⟩:=b3.sl;refine⟨_,_,_,rfl,Ok.mk ?_⟩;rw[b0 (if_neg (by
   intro o;have:i++f=[]:=by simpa using o
   rw[this]at a9;simp at a9;omega))]
  exact b3.GG q
end
def tw:ft:=⟨[],[],[],[],[]⟩
variable{V n:Array Value}{s:Ending->World->Prop}{e m:Int}{t:List Int}{a0 h4:List PanicEntry->World->Prop}{K:List aj}{C b5 i k:Nat}{f:Nat->Prop}{r:Option Addr}{P:aM}{N o:aj}{F:aw}{b0:ej}{d4:lF}
def tx(d:(rS b (ad a c) λe f g=>(rS b (ad i (k+1)) λh j l=>(rI b (ad C (b5+2)) λm=>(rI b (ad C (b5+3)) λn=>(rI b (ad C (b5+4)) λo=>PC_ 131 #[.agg #[.slice e f g],.slice h j l,.ii m,.ii n,.ii o] b (kI_ λp q=>rt s ((.ii p)) q) (pE s))))))):Calls XP 130 #[.pointer (some ⟨a,c,none⟩),.pointer (some ⟨i,k,none⟩),.pointer (some ⟨C,b5,none⟩)] b s:=DC tw Tryz.func130 rfl d
def wH:ft:=⟨[(13,[(68,XH 0)])],[(11,[]),(20,[(25,.pointer (some ⟨0,0,none⟩)),(26,XH 0)])],[19],[],[(19,⟨[0,0,0,4,0,24,0,96,171,256,512,512,0,6143,16383],[32767,32767,32767,32763,32767,32751,32767,32671,32628,32511,32255,32255,32767,27647,30719],[1,0,0,2,0,2,0,0,2,0,0,0,2,2,0]⟩)]⟩
def wI{W X l Y:Option Addr}{q f Z a2 a3 a4 a5 a6 a7:Int}(a0:PA b (.cells #[.slice W a c,.slice X i k] 25) λe=>PA e (.cells #[.ii Z,.ii a2,.ii a3,.ii a4,.ii a5,.ii a6,.ii a7] 38) λg=>PA g (.cells #[.ii 0,.ii 0,.ii 0,.slice none 0 0,.ii 0,.ii 0,.ii 0,.ii 0,.ii 0,.ii 0] 63) λu=>(∃a8 a9 b0 b1 b2 b3,u.cell? (ab_ b 0)=some (.slice a8 a9 b0)/\u.cell? (ab_ b (0+1))=some (.slice b1 b2 b3)/\(Ld 38 (ab_ e 0) u λf2=>PC_ 125 #[.agg #[.slice a8 a9 b0,.slice b1 b2 b3],f2] u (kI_ λb4 z=>al (b4 !=0) (St 63 (ab_ g 0) (.agg #[.ii 0,.ii 0,.ii 0,.slice none 0 0,.ii 0,.ii 0,.ii 0,.ii 0,.ii 0,.ii 0]) z λb5=>(Ld 63 (ab_ g 0) b5 λf3=>rt s ((.tuple #[f3,.bool false,.ii b4])) b5)) ((rI z (ab_ e (0+6)) λf4=>PC_ 126 #[.pointer l,.ii f4] z (λf5 A=>pI (cJ XP 63) λb6=>∃b7,f5= .tuple #[b6,.bool b7]/\PA A (.cells #[.ii 0,.ii 0,.ii 0,.slice none 0 0,.ii 0,.ii 0,.ii 0,.ii 0,.ii 0,.ii 0] 63) λf6=>St 63 (ab_ A 0) b6 f6 λh=>al b7 ((Ld 63 (ab_ A 0) h λf7=>St 63 (ab_ g 0) f7 h λb8=>(Ld 63 (ab_ g 0) b8 λf8=>rt s ((.tuple #[f8,.bool false,.ii 0])) b8))) ((rS h (ab_ b 0) λf9 g0 j1=>(rI h (ab_ e 0) λb9=>(ix_ f9 b9 g0 λg1 g2=>(rS h (ad g1 (g2+Int.toNat b9)) λg3 g4 g5=>PA h (.cells #[.slice none 0 0] 118) λg6=>PS g6 (ab_ h 0) (.slice g3 g4 g5) λB=>(rI B (ab_ e 0) λg7=>(rI B (ab_ e (0+1)) λg8=>PC_ 127 #[.pointer Y,.ii g7,.ii g8] B (λg9 o=>∃c0 c1 c2 c3 c4,g9= .tuple #[.agg #[.ii c0,.slice c1 c2 c3],.bool c4]/\PA o (.cells #[.ii 0,.slice none 0 0] 49) λh0=>PS h0 (ab_ o 0) (.ii c0) λh1=>PS h1 (ab_ o (0+1)) (.slice c1 c2 c3) λC=>(∃E:World->Prop,(al (!c4) ((rS C (ab_ h 0) λh2 h3 h4=>PC_ 128 #[.agg #[.slice h2 h3 h4]] C (kS_ λh5 h6 h7 h8=>PS h8 (ab_ o (0+1)) (.slice h5 h6 h7) λh9=>E h9) (pE s))) (E C))/\∀(j2:Nat->Value) (F:World),E F->PA F (.cells #[.func (.func 129) #[] #[.pointer (some (ab_ e 0)),.pointer (some (ab_ o 0))],.func (.func 130) #[] #[.pointer (some (ab_ h 0)),.pointer (some (ab_ o 0)),.pointer (some (ab_ e 0))]] 106) λi0=>(∃H:Nat->Int->World->Prop,(∃v,H v 0 i0)/\∀(v:Nat) (p:Int) (j3:Nat->Value) (w:World),H v p w->al (decide (p<(2:Int))) ((∃c5 c6,((some (ab_ F 0)):Option Addr)=some ⟨c5,c6,none⟩/\(0:Int)<=p/\p<(2:Int)/\(∃(c7:Value),w.cell? (ad c5 (c6+Int.toNat p))=some c7/\(∃I c8 d0,(c7:Value)= .func (.func I) c8 d0/\enters XP I=true/\PC_ I (c8++ #[]++d0) w (kI_ λd1 d2=>al (d1 !=0) (St 63 (ab_ g 0) (.agg #[.ii 0,.ii 0,.ii 0,.slice none 0 0,.ii 0,.ii 0,.ii 0,.ii 0,.ii 0,.ii 0]) d2 λd3=>(Ld 63 (ab_ g 0) d3 λi1=>rt s ((.tuple #[i1,.bool false,.ii d1])) d3)) ((∃d4,d4<v/\H d4 (IntKind.wrap .i64 (p+1)) d2))) (pE s))))) ((∃r:Nat->Nat->Int->World->Prop,((∀j,bd w j->∃d:Nat->Prop,(¬d e.heap.size/\(Ld 38 (ab_ e 0) j λx=>((PC_ 58 #[.pointer l] j (kS_ λD J K m=>(ak d j m/\((PC_ 133 #[.pointer l] m (kI_ λy n=>(ak d m n/\((PC_ 132 #[x,.ii q,.slice D J K,.ii (if f>y then f else y)] n (λi2 t=>pI (cJ XP 63) λd5=>∃d6,i2= .tuple #[d5,.ii d6]/\(ak d n t/\PA t (.cells #[.ii 0,.ii 0,.ii 0,.slice none 0 0,.ii 0,.ii 0,.ii 0,.ii 0,.ii 0,.ii 0] 63) λG=>(ak d t G/\St 63 (ab_ t 0) d5 G λd7=>(ak d G d7/\r t.heap.size 0 d6 d7)))) (pZ s))/\(PA n (.cells #[.ii 0,.ii 0,.ii 0,.slice none 0 0,.ii 0,.ii 0,.ii 0,.ii 0,.ii 0,.ii 0] 63) λL=>(ak d n L/\PC_ 132 #[x,.ii q,.slice D J K,.ii (if f>y then f else y)] L (λi3 M=>pI (cJ XP 63) λd8=>∃d9,i3= .tuple #[d8,.ii d9]/\(ak d L M/\St 63 (ab_ n 0) d8 M λe0=>(ak d M e0/\r n.heap.size 0 d9 e0))) (pZ s)))))) (pZ s))/\(PA m (.cells #[.ii 0,.ii 0,.ii 0,.slice none 0 0,.ii 0,.ii 0,.ii 0,.ii 0,.ii 0,.ii 0] 63) λN=>(ak d m N/\PC_ 133 #[.pointer l] N (kI_ λe1 O=>(ak d N O/\PC_ 132 #[x,.ii q,.slice D J K,.ii (if f>e1 then f else e1)] O (λi4 P=>pI (cJ XP 63) λe2=>∃e3,i4= .tuple #[e2,.ii e3]/\(ak d O P/\St 63 (ab_ m 0) e2 P λe4=>(ak d P e4/\r m.heap.size 0 e3 e4))) (pZ s))) (pZ s)))))) (pZ s))/\(PA j (.cells #[.ii 0,.ii 0,.ii 0,.slice none 0 0,.ii 0,.ii 0,.ii 0,.ii 0,.ii 0,.ii 0] 63) λQ=>(ak d j Q/\PC_ 58 #[.pointer l] Q (kS_ λi5 i6 i7 R=>(ak d Q R/\PC_ 133 #[.pointer l] R (kI_ λe5 S=>(ak d R S/\PC_ 132 #[x,.ii q,.slice i5 i6 i7,.ii (if f>e5 then f else e5)] S (λi8 T=>pI (cJ XP 63) λe6=>∃e7,i8= .tuple #[e6,.ii e7]/\(ak d S T/\St 63 (ab_ j 0) e6 T λe8=>(ak d T e8/\r j.heap.size 0 e7 e8))) (pZ s))) (pZ s))) (pZ s))))))))/\∀(e9:Nat) (f0:Nat) (U:Int) (j4:Nat->Value) (V:World),r e9 f0 U V->(Ld 63 (ad e9 f0) V λi9=>St 63 (ab_ g 0) i9 V λf1=>(Ld 63 (ab_ g 0) f1 λj0=>rt s ((.tuple #[j0,.bool (U==0),.ii U])) f1))))))) (pE s))))))))) (pE s)))) (pE s)))):Calls XP 80 #[.agg #[.slice W a c,.slice X i k],.pointer l,.pointer Y,.ii q,.ii f,.agg #[.ii Z,.ii a2,.ii a3,.ii a4,.ii a5,.ii a6,.ii a7]] b s:=DC wH Tryz.func80 rfl a0
def tu:ft:=⟨[],[],[],[],[]⟩
def tv(d:(rI b (ad a (c+5)) λe=>al (e==(-1)) (rt s ((.ii 0)) b) ((rI b (ad a (c+5)) λf=>(rI b (ad i k) λg=>al (f==g) (rt s ((.ii 0)) b) (rt s ((.ii 11)) b)))))):Calls XP 129 #[.pointer (some ⟨a,c,none⟩),.pointer (some ⟨i,k,none⟩)] b s:=DC tu Tryz.func129 rfl d
def wD:ft:=⟨[],[],[6],[],[(6,⟨[0,1,0,4,0,16,0,64,0,256,0,1024,0,4096,0,16384,43690,0,262143],[524287,524286,524287,524283,524287,524271,524287,524223,524287,524031,524287,523263,524287,520191,524287,507903,480597,524287,327679],[0,0,0,2,0,1,0,1,0,1,0,1,0,1,0,1,0,2,2]⟩)]⟩
def vP{q r t u v w x i j:Int}(P:PA b (.cells #[.ii q,.ii r,.ii t,.ii u,.ii v,.ii w,.ii x] 38) λe=>PA e (.cells #[.ii 0,.ii 0,.ii 0,.slice none 0 0,.ii 0,.ii 0,.ii 0,.ii 0,.ii 0,.ii 0] 63) λk=>al (decide (i<0)) (St 63 (ab_ e 0) (.agg #[.ii 0,.ii 0,.ii 0,.slice none 0 0,.ii 0,.ii 0,.ii 0,.ii 0,.ii 0,.ii 0]) k λy=>(Ld 63 (ab_ e 0) y λQ=>rt s ((.tuple #[Q,.ii 1])) y)) (al (decide (i>=(a:Int))) (St 63 (ab_ e 0) (.agg #[.ii 0,.ii 0,.ii 0,.slice none 0 0,.ii 0,.ii 0,.ii 0,.ii 0,.ii 0,.ii 0]) k λz=>(Ld 63 (ab_ e 0) z λR=>rt s ((.tuple #[R,.ii 1])) z)) (al (decide (j<0)) (St 63 (ab_ e 0) (.agg #[.ii 0,.ii 0,.ii 0,.slice none 0 0,.ii 0,.ii 0,.ii 0,.ii 0,.ii 0,.ii 0]) k λA=>(Ld 63 (ab_ e 0) A λS=>rt s ((.tuple #[S,.ii 1])) A)) (PC_ 196 #[.slice d a c,.ii i] k (kI_ λl m=>al (l==9223372036854775807) (St 63 (ab_ e 0) (.agg #[.ii 0,.ii 0,.ii 0,.slice none 0 0,.ii 0,.ii 0,.ii 0,.ii 0,.ii 0,.ii 0]) m λB=>(Ld 63 (ab_ e 0) B λT=>rt s ((.tuple #[T,.ii 13])) B)) (al (j==9223372036854775807) (St 63 (ab_ e 0) (.agg #[.ii 0,.ii 0,.ii 0,.slice none 0 0,.ii 0,.ii 0,.ii 0,.ii 0,.ii 0,.ii 0]) m λC=>(Ld 63 (ab_ e 0) C λU=>rt s ((.tuple #[U,.ii 13])) C)) ((∀f,bd m f->∃g:Nat->Prop,(¬g b.heap.size/\(rI f (ab_ b 0) λD=>(¬g b.heap.size/\(rI f (ab_ b (0+1)) λE=>(¬g b.heap.size/\(rI f (ab_ b (0+2)) λF=>(¬g b.heap.size/\(rI f (ab_ b (0+3)) λG=>(¬g b.heap.size/\(rI f (ab_ b (0+4)) λH=>(¬g b.heap.size/\(rI f (ab_ b (0+6)) λI=>((PC_ 192 #[.slice d a c,.slice none 0 0] f (kS_ λV W X h=>(ak g f h/\PA h (.cells #[.ii 0,.ii 0,.ii 0,.slice none 0 0,.ii 0,.ii 0,.ii 0,.ii 0,.ii 0,.ii 0] 63) λn=>(ak g h n/\St 63 (ab_ h 0) (.agg #[.ii 0,.ii 0,.ii (IntKind.wrap .i64 (j+1)),.slice V W X,.ii D,.ii E,.ii F,.ii G,.ii H,.ii I]) n λJ=>(ak g n J/\PS J (ab_ h 0) (.ii i) λY=>PS Y (ab_ h (0+1)) (.ii (IntKind.wrap .i64 (l+1))) λK=>(Ld 63 (ab_ h 0) K λZ=>St 63 (ab_ e 0) Z K λL=>(Ld 63 (ab_ e 0) L λa1=>rt s ((.tuple #[a1,.ii 0])) L)))))) (pZ s))/\(PA f (.cells #[.ii 0,.ii 0,.ii 0,.slice none 0 0,.ii 0,.ii 0,.ii 0,.ii 0,.ii 0,.ii 0] 63) λo=>(ak g f o/\PC_ 192 #[.slice d a c,.slice none 0 0] o (kS_ λa2 a3 a4 p=>(ak g o p/\St 63 (ab_ f 0) (.agg #[.ii 0,.ii 0,.ii (IntKind.wrap .i64 (j+1)),.slice a2 a3 a4,.ii D,.ii E,.ii F,.ii G,.ii H,.ii I]) p λM=>(ak g p M/\PS M (ab_ f 0) (.ii i) λa5=>PS a5 (ab_ f (0+1)) (.ii (IntKind.wrap .i64 (l+1))) λN=>(Ld 63 (ab_ f 0) N λa6=>St 63 (ab_ e 0) a6 N λO=>(Ld 63 (ab_ e 0) O λa7=>rt s ((.tuple #[a7,.ii 0])) O))))) (pZ s)))))))))))))))))))) (pE s))))):Calls XP 132 #[.agg #[.ii q,.ii r,.ii t,.ii u,.ii v,.ii w,.ii x],.ii i,.slice d a c,.ii j] b s:=DC wD Tryz.func132 rfl P
def gP(a:lF):List Value:=[XH a.aS,XH a.agg,XH a.field,XH a.op,XH a.arg,XH a.expect,XH a.key]
abbrev vO(a:lF):Value:=.agg (gP a).toArray
def xl(a:lF):gH XP 38 (gP a)=true:=kR
section
variable {w w':World} {D:Nat->Prop}
def Cd{tn o m p:Nat}(q:eA w)(h:bb w D P d tn r m)(s:∀c,D c->c<w.heap.size):
  Calls XP 125 #[.agg #[.slice d tn o,.slice r m p],vO d4] w (Ok λg w'=>g= XH (iV P d4)/\ai w w'):=by
 refine x_ (PA.mk λx t y e=>PA.mk λu n z a=>?_);have e:=n.get e id;have f:=t.then n;have b:(d4.agg<0\/d4.key<0\/d4.expect< -1)->Ok (λg w'=>g= XH (iV P d4)/\ai w w') (.returned (XH 1)) u:=λi=>Ok.mk ⟨by unfold iV;rw[if_pos i],f⟩;refine⟨_,ae a rfl,al.dec (λj=>b (.inl j)) (λj=>⟨_,ae a rfl,al.dec (λk=>b (.inr (.inl k))) (λk=>⟨_,ae a rfl,al.dec (λl=>b (.inr (.inr l))) (λl=>⟨_,_,_,_,_,_,ae e rfl,ae e rfl,_,ae a rfl,_,ae a rfl,_,ae a rfl,_,ae a rfl,PC.ok (xo (q.ah f) (h.ah f) λc i=>by have:=s c i;omega) ?_⟩)⟩)⟩)⟩;rintro _ A ⟨rfl,v⟩;exact⟨_,rfl,Ok.mk ⟨by unfold iV;rw[if_neg (by rintro(h|h|h);exact j h;exact k h;exact l h)],f.then v⟩⟩
def EJ(c:∀d∈t,aH d)(a:Int):0<=fh t a/\fh t a<=9223372036854775807:=by
 unfold fh;split
 ·omega
 ·by_cases b:a.toNat<t.length
  ·have:=c _ (XY b)
   unfold aH at this;simp only[QQ,Qq b,Option.getD_some];omega
  ·simp only[QQ,Q7 (Nat.le_of_not_lt b),Option.getD_none]
   omega
def MG(a b:List Int):(jF a b).length=max a.length b.length:=by unfold jF;rw[sd]
def RE(b c:List Int)(f:∀a∈b,aH a)(g:∀a∈c,aH a):∀a∈jF b c,aH a:=by
 intro a d;unfold jF pM at d;obtain⟨e,-,rfl⟩:=Xk.1 d;have h:=EJ f e;have i:=EJ g e;unfold aH;omega
def iO(Q:Row aJ 8 w D d a t)(hl:m<=9223372036854775807)(hn:t.length<=20000000):
  Calls XP 132 #[vO d4,XH e,.slice d a c,XH m] w (Ok λx w'=>∃d a l G,x= .tuple #[jA (aQ d4 e t m).2 d a l,XH (aQ d4 e t m).1]/\Row aJ 8 w' G d a (aQ d4 e t m).2.aP/\(∀b,G b->w.heap.size<=b/\b<w'.heap.size)/\ai w w'):=by
 have a9:=Q.len;have B:=Q.sQ;refine vP (PA.mk λC k1 s1 L=>PA.mk λM R s2 S=>?_);have L:=R.get L id;have l:=k1.then R;have n:∀{p:World} {no:Int},ai M p->aQ d4 e t m=(no,rl)->mg XP 63 (ZQ C.heap.size) (jA rl none 0 0) p λw4=>il XP 63 (ZQ C.heap.size) w4 λx=>Ok (λx w'=>∃d a l G,x= .tuple #[jA (aQ d4 e t m).2 d a l,XH (aQ d4 e t m).1]/\Row aJ 8 w' G d a (aQ d4 e t m).2.aP/\(∀b,G b->w.heap.size<=b/\b<w'.heap.size)/\ai w w') (.returned (.tuple #[x,XH no])) w4:=λ{p no} E T=>
  az (aV rl none 0 0) (E.get S id) rfl λw4 o s4 N=>au (aV rl none 0 0) N (Ok.mk ⟨none,0,0,λ_=>False,by rw[T],by rw[T];exact Row.nil _ _,λb f=>f.elim,(l.then E).new o λb f=>.inr oM⟩)
 refine al.dec (λU=>n (ak.refl _) ?_) (λU=>al.dec (λh2=>n (ak.refl _) ?_) (λh2=>al.dec (λE=>n (ak.refl _) ?_) (λE=>PC.ok (nu (B.ah l)) ?_)))
 ·unfold aQ;rw[if_pos (.inl U)]
 ·unfold aQ;rw[if_pos (.inr (.inl oM))]
 ·unfold aQ;rw[if_pos (.inr (.inr E))]
 rintro _ _ ⟨rfl,rfl⟩;have O:¬(e<0\/(t.length:Int)<=e\/m<0):=by rintro(h|h|h)<;>omega
 refine⟨_,rfl,al.dA (λK=>n (ak.refl _) ?_) (λK=>al.dA (λF=>n (ak.refl _) ?_) (λF=>λp V=>?_))⟩
 ·unfold aQ;rw[if_neg O,if_pos (.inl K)]
 ·unfold aQ;rw[if_neg O,if_pos (.inr F)]
 have W:aQ d4 e t m=(0,⟨e,fh t e+1,m+1,jF t [],d4.aS,d4.agg,d4.field,d4.op,d4.arg,d4.key⟩):=by
  unfold aQ;rw[if_neg O,if_neg (by rintro(h|h);exact K h;exact F h)]
 have hg:=EJ B.To e;have wl:IntKind.wrap .i64 (m+1)=m+1:=wrap_i64 (by unfold aH;omega);have ws:IntKind.wrap .i64 (fh t e+1)=fh t e+1:=wrap_i64 (by unfold aH;have:fh t e≠9223372036854775807:=K;omega);rw[wl,ws];have H:ai M p:=V.af;have s3:p.heap.size=M.heap.size:=by rw[V.heap]
 have X:=l.then H;have z:=H.get L id;have Y:=H.get S id;have jl:(jF t []).length<=20000000:=by rw[MG];simp;omega
 have jI:∀a0∈jF t [],aH a0:=RE t [] B.To sM;have A:¬(p.heap.size<=w.heap.size):=oM
 have I:∀{w4 s:World} {g:Option Addr} {j k y:Nat},ai w s->Own s 3 1 g j k (ints (jF t []))->(∀b,aF g=some b->p.heap.size<=b/\b≠y)->s.heap[C.heap.size]? =some (.cells (aC rl none 0 0).toArray 63 (0,0))->s.heap[y]? =some (.cells #[XH 0,XH 0,XH (m+1),.slice g j k,XH d4.aS,XH d4.agg,XH d4.field,XH d4.op,XH d4.arg,XH d4.key] 63 (0,0))->p.heap.size<=y->
   PS s ⟨y,0,none⟩ (XH e) λa4=>PS a4 ⟨y,0+1,none⟩ (XH (fh t e+1)) λZ=>il XP 63 (ZQ y) Z λa5=>mg XP 63 (ZQ C.heap.size) a5 Z λa2=>il XP 63 (ZQ C.heap.size) a2 λa6=>Ok (λx w'=>∃d a l G,x= .tuple #[jA (aQ d4 e t m).2 d a l,XH (aQ d4 e t m).1]/\Row aJ 8 w' G d a (aQ d4 e t m).2.aP/\(∀b,G b->w.heap.size<=b/\b<w'.heap.size)/\ai w w') (.returned (.tuple #[a6,XH 0])) a2:=λ{w4 s g j k y} F u q hz a7 b0=>by
  refine PS.mk a7 sM λw6 i s6 J=>PS.mk J sM λw7 P s7 g7=>?_;have a8:=P.get (i.get hz oM) oM;refine au (cs:=aC ⟨e,fh t e+1,m+1,jF t [],d4.aS,d4.agg,d4.field,d4.op,d4.arg,d4.key⟩ g j k) (aV _ _ _ _) g7 (az (aV _ _ _ _) a8 rfl λw8 k8 s8 g8=>au (aV _ _ _ _) g8 (Ok.mk ⟨g,j,k,λb=>aF g=some b,by rw[W],?_,λb f=>⟨by have:=q b f;omega,?_⟩,?_⟩))
  ·rw[W]
   have a3:=(((u.af i (cT.2 λb f v=>(q b f).2 v)).af P (cT.2 λb f v=>(q b f).2 v)).af k8 (cT.2 λb f v=>by have:=q b f;omega))
   exact(⟨⟨_,λ_=>False,a3,jR.2 ⟨rfl,jI⟩,λ_ h=>h.elim⟩,λb f=>f,λb f=>a3.lt f⟩:aO aJ 3 (λb=>aF g=some b) w8 g j k (jF t [])).row dC (by unfold aK;omega)
  ·have:=u.lt f;omega
  ·exact((F.new i λb f=>.inr oM).new P λb f=>.inr oM).new k8 λb f=>.inr oM
 refine⟨λb=>p.heap.size<=b,A,_,ae z rfl,A,_,ae z rfl,A,_,ae z rfl,A,_,ae z rfl,A,_,ae z rfl,A,_,ae z rfl,PC.ok (Ad ((B.ah l).ah H) (Ints.nil _)) ?_,PA.mk λw4 o s4 N=>⟨ai.af o,PC.ok (Ad (((B.ah l).ah H).ah o) (Ints.nil _)) ?_⟩⟩
 ·rintro _ w4 ⟨g,j,k,rfl,u,o,q⟩
  have z4:=o.size;refine⟨_,_,_,rfl,ai.af o,PA.mk λs r s5 g5=>⟨ai.af r,az (cs:=[XH 0,XH 0,XH (m+1),.slice g j k,XH d4.aS,XH d4.agg,XH d4.field,XH d4.op,XH d4.arg,XH d4.key]) (aV ⟨0,0,m+1,[],d4.aS,d4.agg,d4.field,d4.op,d4.arg,d4.key⟩ g j k) g5 rfl λw6 i s6 J=>⟨i.mono λb _ v=>oM,I (w4:=w4) (((X.then o).then r).new i λb f=>.inr oM) ((u.ah r).af i (cT.2 λb f v=>by have:=u.lt f;omega)) (λb f=>⟨q b f,by have:=u.lt f;omega⟩) (i.get (r.get (o.get Y id) id) oM) J oM⟩⟩⟩
 ·rintro _ s ⟨g,j,k,rfl,u,r,q⟩
  have z5:=r.size;refine⟨_,_,_,rfl,ai.af r,az (cs:=[XH 0,XH 0,XH (m+1),.slice g j k,XH d4.aS,XH d4.agg,XH d4.field,XH d4.op,XH d4.arg,XH d4.key]) (aV ⟨0,0,m+1,[],d4.aS,d4.agg,d4.field,d4.op,d4.arg,d4.key⟩ g j k) (r.get N id) rfl λw6 i s6 J=>⟨i.mono λb _ v=>oM,I (w4:=w4) (((X.then o).then r).new i λb f=>.inr oM) (u.af i (cT.2 λb f v=>by have:=q b f;omega)) (λb f=>⟨by have:=q b f;omega,by have:=q b f;omega⟩) (i.get (r.get (o.get Y id) id) oM) J oM⟩⟩
end
section
variable {w w':World} {D Fs Fv:Nat->Prop} {s v:Nat} {S:aw} {V:aU} {d:aM} {c:lF} {origin start:Int}
def vj(w:World)(a:aj×Bool×Int)(e:Value)(w':World):Prop:=∃c d f G,e= .tuple #[jA a.1 c d f,.bool a.2.1,XH a.2.2]/\Row aJ 8 w' G c d a.1.aP/\(∀b,G b->w.heap.size<=b/\b<w'.heap.size)/\ai w w'
def xd(d:aM)(s:aw)(v:aU)(origin start:Int)(c:lF):qG d s v origin start c=if iV d c≠0 then(rl,false,iV d c)else
  match s.keyed c.key with
  |some a=>(a,false,0)
  |none=>if¬(c.expect= -1\/c.expect=((v.state c.aS c.agg).getD ⟨0,[]⟩).version)then(rl,false,11)else
   if vJ (d.at c.aS) (match v.state c.aS c.agg with|some b=>b.cells|none=>du (d.at c.aS)) c.field c.op c.arg≠0 then(rl,false,10)else
   ((aQ c origin s.vec (max s.top start)).2,decide ((aQ c origin s.vec (max s.top start)).1=0),(aQ c origin s.vec (max s.top start)).1):=rfl
def CL{ta pa:Option Addr}{tn tc pn pc:Nat}(hT:eA w)(hd:bb w D d ta tn pa pn)(hD:∀a,D a->a<w.heap.size)(j0:cN d=0)(hs:cf w s Fs S)(j1:S.l.length<=20000000)(hv:b_ w v Fv V)(j2:V.decl=d)(o4:start<=9223372036854775807)(o1:S.top<=9223372036854775807):
  Calls XP 80 #[.agg #[.slice ta tn tc,.slice pa pn pc],ZQ s,ZQ v,XH origin,XH start,vO c] w (Ok (vj w (qG d S V origin start c))):=by
 refine wI (PA.mk λw1 k1 s1 g1=>PA.mk λw2 k2 s2 g2=>PA.mk λw3 k3 s3 g3=>?_);have t:=(k1.then k2).then k3;have gd:=k3.get (k2.get g1 id) id;have gc:=k3.get g2 id;have z:∀{A:World} {no:Int},ai w3 A->qG d S V origin start c=(rl,false,no)->mg XP 63 (ZQ w2.heap.size) (jA rl none 0 0) A λu=>il XP 63 (ZQ w2.heap.size) u λr=>Ok (vj w (qG d S V origin start c)) (.returned (.tuple #[r,.bool false,XH no])) u:=λ{A no} h4 Q=>
  az (aV rl none 0 0) (h4.get g3 id) rfl λu k5 s5 g5=>au (aV rl none 0 0) g5 (Ok.mk ⟨none,0,0,λ_=>False,by rw[Q],by rw[Q];exact Row.nil _ _,λa b=>b.elim,(t.then h4).new k5 λa b=>.inr oM⟩)
 refine⟨_,_,_,_,_,_,ae gd rfl,ae gd rfl,au (xl c) gc (PC.ok (Cd (hT.ah t) (hd.ah t) λa b=>by have:=hD a b;omega) ?_)⟩;rintro _ A ⟨rfl,R⟩;refine⟨_,rfl,al.dB (λT=>z R (by rw[xd,if_pos T])) (λe5=>⟨_,ae (R.get gc id) rfl,PC.ok (NS (hs.ah (t.then R)) j1) ?_⟩)⟩;rintro _ u ⟨U,W,X,G5,rfl,e6,e7,k5⟩;have b5:=R.then k5;have o5:=b5.size;have B:∀{r:aj×Bool×Int},(match S.keyed c.key with
  |some m=>(m,false,0)
  |none=>if¬(c.expect= -1\/c.expect=((V.state c.aS c.agg).getD ⟨0,[]⟩).version)then(rl,false,11)else
   if vJ (d.at c.aS) (match V.state c.aS c.agg with|some C=>C.cells|none=>du (d.at c.aS)) c.field c.op c.arg≠0 then(rl,false,10)else
   ((aQ c origin S.vec (max S.top start)).2,decide ((aQ c origin S.vec (max S.top start)).1=0),(aQ c origin S.vec (max S.top start)).1))=r->qG d S V origin start c=r:=λ{r} hr=>by
  rw[xd,if_neg (by simpa using e5)];exact hr
 refine bN (ri _ U W X) ⟨_,rfl,PA.mk λw6 k6 s6 g6=>az (aV _ U W X) g6 rfl λn k7 s7 g7=>al.mk (λhk=>?_) (λhk=>?_)⟩
 ·obtain⟨m,Q⟩:=Option.isSome_iff_exists.1 hk
  rw[Q]at e6 g7 B;have b1:ai u n:=k6.new k7 λa b=>.inr oM;refine au (aV _ U W X) g7 (az (aV _ U W X) (b1.get (b5.get g3 id) id) rfl λw8 k8 s8 g8=>au (aV _ U W X) g8 (Ok.mk ⟨U,W,X,G5,?_,?_,λa b=>?_,?_⟩))
  ·rw[B rfl];rfl
  ·rw[B rfl]
   exact(e6.ah b1).af k8 λa b m=>by have:=e7 a b;have:=t.size;have:=R.size;omega
  ·have:=e7 a b;have:=t.size;have:=R.size;omega
  ·exact((t.then b5).then b1).new k8 λa b=>.inr oM
 have d2:S.keyed c.key=none:=by simpa using hk
 rw[d2]at B;have b1:ai u n:=k6.new k7 λa b=>.inr oM;have L:=b5.then b1;have o6:=L.size;have b6:=t.then L;have e8:ks d c.aS c.field c.op c.arg=0:=by
  have:=e5;unfold iV at this;split at this
  ·simp at this
  ·exact this
 have j3:V.decl.at c.aS=d.at c.aS:=by rw[j2]
 obtain⟨hV,b0,hq⟩:=hv;have a6:(match V.state c.aS c.agg with|some C=>C.cells|none=>du (d.at c.aS)).length=(d.at c.aS).length:=by
  unfold aU.state
  cases hs:aE V.dP (c.aS,c.agg)with
  |none=>simp[du]
  |some s=>rw[<-j3];exact hV.st _ (bS hs)
 obtain⟨c4,t0,t1,o7⟩:=Mh j0 e8 a6;obtain⟨E,e9⟩:∃E:Nat,c.aS=E:=⟨c.aS.toNat,oM⟩
 have j4:d.at c.aS=d.types.getD E []:=by
  unfold aM.at;rw[if_pos (br.2 ⟨t0,oM⟩),e9,Qx]
 obtain⟨tb,ng,es,j5,o8,o2,j6,fa,fn,fc,rfl,b2⟩:=(hd.ah b6).aS.el E d.types[E] sM;have b2:Row rk 48 n D fa fn (d.at c.aS):=by
  rw[j4];have:d.types.getD E []=d.types[E]:=by simp[QQ,show E<d.types.length by omega]
  rw[this];exact b2
 have o9:=(hd.ah b6).aS.len;have c7:=j6 0 dC;have f2:mj.k=1:=rfl;rw[f2,Nat.mul_one]at c7;have j7:=L.get gd id;have f3:=L.get gc id;refine⟨_,_,_,ae j7 rfl,_,ae f3 rfl,tb,ng,j5,t0,oM,fa,fn,fc,by rw[e9,Qx];exact c7,PA.mk λw8 k8 s8 g8=>PS.mk g8 sM λw9 k9 s9 g9=>?_⟩;have Y:ai n w9:=k8.new k9 λa b=>.inr oM;have d3:=Y.get f3 id;have d4:b_ w v Fv V:=⟨hV,b0,hq⟩
 refine⟨_,ae d3 rfl,_,ae d3 rfl,PC.ok (nh (d4.ah (b6.then Y))) ?_⟩;rintro _ d5 ⟨ca,cn,cc,j8,rfl,f5,o3,M⟩;have b3:=Y.then M;have f6:=b6.then b3;have p0:=b3.size;obtain⟨F,hX⟩:∃F,F=(match V.state c.aS c.agg with|some C=>C.cells|none=>du (d.at c.aS)):=⟨_,rfl⟩
 rw[<-hX]at c4 a6 B;refine⟨_,_,_,_,_,rfl,PA.mk λp1 j9 p2 k0=>PS.mk k0 sM λp3 l0 p4 l3=>PS.mk l3 sM λf8 l4 p5 g0=>?_⟩;have a5:ai d5 f8:=(j9.new l0 λa b=>.inr oM).new l4 λa b=>.inr oM;have l5:f8.heap[n.heap.size]? =some (.cells #[.slice fa fn fc] 118 (0,0)):=a5.get (M.get g9 id) id;have c8:=f5.ah a5;refine⟨λw'=>ai d5 w'/\∃ca cn cc G,w'.heap[d5.heap.size]? =some (.cells #[XH ((V.state c.aS c.agg).getD Gs).version,.slice ca cn cc] 49 (0,0))/\Row ei 32 w' G ca cn F,?_,?_⟩
 ·refine al.not (al.mk (λl6=>⟨a5,ca,cn,cc,j8,g0,?_⟩) (λl7=>⟨_,_,_,ae l5 rfl,PC.ok (GS (t:=d.at c.aS) rfl b2.len (by rw[b2.len];omega)) ?_⟩))
  ·obtain⟨C,Z⟩:=Option.isSome_iff_exists.1 l6
   rw[Z]at c8 hX;have b7:F=C.cells:=hX;rw[b7];exact c8.row dC (by show C.cells.length*32<=aK;rw[<-b7,a6];unfold aK;omega)
  ·rintro _ p6 ⟨c0,n6,c6,G6,rfl,l8,d6,l9⟩
   have p7:=d6.size;refine⟨_,_,_,rfl,PS.mk (d6.get g0 id) sM λp8 g4 p9 m0=>⟨(a5.then d6).new g4 λa b=>.inr oM,c0,n6,c6,G6,m0,?_⟩⟩;have hn:V.state c.aS c.agg=none:=by simpa using l7
   rw[hn]at hX;have b7:F=du (d.at c.aS):=hX;rw[b7];exact(l8.af g4 λa b m=>by have:=l9 a b;omega).row dC (by unfold aK du;simp;omega)
 rintro _ m1 ⟨m2,q0,q1,q2,G2,h3,h5⟩;refine PA.mk λh8 d7 q3 m3=>?_;have H:=m2.then d7;have m4:=H.size;have c9:=f6.then H;have h9:=d7.get h3 id;have i0:=H.get (M.get d3 id) id;have i1:=H.get (M.get g9 id) id;have i2:=(((L.then Y).then M).then H).get g3 id;have o:∀{A:World} {no:Int},ai h8 A->qG d S V origin start c=(rl,false,no)->mg XP 63 (ZQ w2.heap.size) (jA rl none 0 0) A λu=>il XP 63 (ZQ w2.heap.size) u λr=>Ok (vj w (qG d S V origin start c)) (.returned (.tuple #[r,.bool false,XH no])) u:=λ{A no} h4 Q=>z (((L.then Y).then M).then (H.then h4)) Q;refine⟨λa9 c5 w'=>∃I:Nat,c5=I/\I<=2/\a9=2-I/\ai h8 w'/\(1<=I->c.expect= -1\/c.expect=((V.state c.aS c.agg).getD ⟨0,[]⟩).version)/\(2<=I->vJ (d.at c.aS) F c.field c.op c.arg=0),⟨_,0,rfl,oM,rfl,ak.refl _,λh=>oM,λh=>oM⟩,?_⟩;rintro a9 _ _ vC ⟨I,rfl,hj,rfl,k,d8,m5⟩;have d0:=k.get h9 id;have a0:=k.get i0 id;have i3:=k.get i1 id;have d1:=k.get m3 id;refine al.dec (λq4=>⟨m1.heap.size,0,rfl,oM,oM,?_⟩) (λq5=>?_)
 ·have m6:I=0\/I=1:=oM
  rcases m6 with rfl|rfl
  ·refine⟨_,ae d1 rfl,_,_,_,rfl,kR,PC.ok (φ:=λv w'=>v= XH (if c.expect= -1\/c.expect=((V.state c.aS c.agg).getD ⟨0,[]⟩).version then 0 else 11)/\vC=w') (tv ⟨_,ae a0 rfl,al.dA (λh1=>Ok.mk ⟨by rw[if_pos (.inl h1)],rfl⟩) (λh1=>⟨_,ae a0 rfl,_,ae d0 rfl,al.dA (λh2=>Ok.mk ⟨by rw[if_pos (.inr h2)],rfl⟩) (λh2=>Ok.mk ⟨by rw[if_neg (by rintro(h|h);exact h1 h;exact h2 h)],rfl⟩)⟩)⟩) ?_⟩
   rintro _ _ ⟨rfl,rfl⟩
   by_cases Z:c.expect= -1\/c.expect=((V.state c.aS c.agg).getD ⟨0,[]⟩).version
   ·rw[if_pos Z]
    exact⟨_,rfl,al.ff rfl ⟨_,oM,1,rfl,oM,rfl,k,λ_=>Z,λh=>oM⟩⟩
   ·rw[if_neg Z]
    exact⟨_,rfl,al.tt rfl (o k (B (by rw[if_pos Z])))⟩
  ·refine⟨_,ae d1 rfl,_,_,_,rfl,kR,PC.ok (φ:=λv w'=>v= XH (vJ (d.at c.aS) F c.field c.op c.arg)/\ai vC w') (tx ⟨_,_,_,ae i3 rfl,_,_,_,ae d0 rfl,_,ae a0 rfl,_,ae a0 rfl,_,ae a0 rfl,PC.ok (GR c4 ((b2.ah (b3.then H)).ah k) ((h5.ah d7).ah k)) ?_⟩) ?_⟩
   ·rintro _ m7 ⟨rfl,b8⟩
    exact⟨_,rfl,Ok.mk ⟨rfl,b8⟩⟩
   ·rintro _ m7 ⟨rfl,b8⟩
    refine⟨_,rfl,al.dB (λT=>o (k.then b8) (B ?_)) (λh0=>⟨_,oM,2,rfl,oM,rfl,k.then b8,λ_=>d8 oM,λ_=>h0⟩)⟩;have m8:vJ (d.at c.aS) F c.field c.op c.arg=10:=by
     rw[Ex]at T⊢;split at T
     ·simp at T
     ·rename_i hq;rw[if_neg hq]
    rw[if_neg (λh=>h (d8 oM)),if_pos T,m8]
 have i4:=B (r:=((aQ c origin S.vec (max S.top start)).2,decide ((aQ c origin S.vec (max S.top start)).1=0),(aQ c origin S.vec (max S.top start)).1)) (by rw[if_neg (λh=>h (d8 oM)),if_neg (by rw[m5 oM];simp)]);have J:(if start>S.top then start else S.top)=max S.top start:=by split<;>omega
 have b9:(if start>S.top then start else S.top)<=9223372036854775807:=by split<;>omega
 refine⟨λeb eo no w'=>eo=0/\no=(aQ c origin S.vec (max S.top start)).1/\ai vC w'/\∃a2 a3 a7 G,w'.heap[eb]? =some (.cells (aC (aQ c origin S.vec (max S.top start)).2 a2 a3 a7).toArray 63 (0,0))/\Row aJ 8 w' G a2 a3 (aQ c origin S.vec (max S.top start)).2.aP/\∀a,G a->vC.heap.size<=a/\a<w'.heap.size,?_,?_⟩
 rotate_left
 ·rintro eb _ no _ q6 ⟨rfl,rfl,d9,e,f,g,q,ge,x,i⟩
  have i5:=d9.get (k.get i2 id) id;have zk:=k.size;have q7:=d9.size;have zw:=t.size;refine au (aV _ e f g) ge (az (aV _ e f g) i5 rfl λq8 i6 q9 m9=>au (aV _ e f g) m9 (Ok.mk ⟨e,f,g,q,?_,?_,λa b=>?_,?_⟩))
  ·rw[i4];rfl
  ·rw[i4];exact x.af i6 λa b m=>by have:=i a b;omega
  ·have:=i a b;omega
  ·exact(((c9.then k).then d9)).new i6 λa b=>.inr oM
 ·intro N i7
  have e0:ai vC N:=i7.af;have r0:N.heap.size=vC.heap.size:=by rw[i7.heap]
  have i8:=e0.get a0 id;have a4:=hs.ah ((c9.then k).then e0);have zk:=k.size;have hn:=hs.1.n;have c1:S.vec.length<=20000000:=by rw[S.bL];omega
  have c2:S.vec.length*8<=aK:=by unfold aK;omega
  have y:∀{wE w6 n:World} {a1:Nat} {e:Option Addr} {f g:Nat} {q:Nat->Prop},ai N wE->Row aJ 8 wE q e f (aQ c origin S.vec (max S.top start)).2.aP->(∀a,q a->N.heap.size<=a/\a<wE.heap.size/\a≠a1)->ai wE w6->N.heap.size<=a1->ak (λa=>a=a1) w6 n->n.heap.size=w6.heap.size->n.heap[a1]? =some (.cells (aC (aQ c origin S.vec (max S.top start)).2 e f g).toArray 63 (0,0))->
    (λ(eb eo:Nat) (no:Int) (w':World)=>eo=0/\no=(aQ c origin S.vec (max S.top start)).1/\ai vC w'/\∃a2 a3 a7 G,w'.heap[eb]? =some (.cells (aC (aQ c origin S.vec (max S.top start)).2 a2 a3 a7).toArray 63 (0,0))/\Row aJ 8 w' G a2 a3 (aQ c origin S.vec (max S.top start)).2.aP/\∀a,G a->vC.heap.size<=a/\a<w'.heap.size) a1 0 (aQ c origin S.vec (max S.top start)).1 n:=λ{wE w6 n a1 e f g q} hE hr hG h6 hg h7 r3 n0=>by
   have z6:=h6.size;exact⟨rfl,rfl,((e0.then hE).then h6).new h7 λa b=>.inr oM,e,f,g,q,n0,(hr.ah h6).af h7 λa b m=>(hG a b).2.2 m,λa b=>by have:=hG a b;omega⟩
  have zc:¬(N.heap.size<=w1.heap.size):=by
   have h1:=((((k3.then L).then Y).then M).then H).size;omega
  refine⟨λa=>N.heap.size<=a,zc,au (xl c) i8 ⟨PC.ok (nj a4) ?_,PA.mk λr4 c3 r5 n1=>⟨ai.af c3,PC.ok (nj (a4.ah c3)) ?_⟩⟩⟩
  ·rintro _ n2 ⟨av,nv,cv,a8,rfl,b4,l,n3⟩
   have n4:=l.size;refine⟨_,_,_,rfl,ai.af l,PC.ok (Gn (a4.ah l)) ?_,PA.mk λn8 K n9 e1=>⟨ai.af K,PC.ok (Gn ((a4.ah l).ah K)) ?_⟩⟩
   ·rintro _ _ ⟨rfl,rfl⟩
    refine⟨_,rfl,ak.refl _,?_,?_⟩
    ·rw[J]
     refine PC.ok (iO (b4.row dC c2) (by rw[<-J];exact b9) c1) ?_;rintro _ e2 ⟨e,f,g,q,rfl,x,i,j⟩;have e3:=j.size;exact bN (ri _ e f g) ⟨_,rfl,ai.af j,PA.mk λr6 i9 r7 o0=>⟨ai.af i9,az (aV _ e f g) o0 rfl λe4 p O P=>⟨p.mono λa _ m=>oM,y (l.then j) x (λa b=>⟨by have:=i a b;omega,(i a b).2,by have:=i a b;omega⟩) i9 oM p O P⟩⟩⟩
    ·refine PA.mk λn8 K n9 e1=>⟨ai.af K,?_⟩
     rw[J];refine PC.ok (iO ((b4.ah K).row dC c2) (by rw[<-J];exact b9) c1) ?_;rintro _ e2 ⟨e,f,g,q,rfl,x,i,j⟩;have e3:=j.size;exact bN (ri _ e f g) ⟨_,rfl,ai.af j,az (aV _ e f g) (j.get e1 id) rfl λe4 p O P=>⟨p.mono λa _ m=>oM,y ((l.then K).then j) x (λa b=>⟨by have:=i a b;omega,(i a b).2,by have:=i a b;omega⟩) (ak.refl _) oM p O P⟩⟩
   ·rintro _ _ ⟨rfl,rfl⟩
    refine⟨_,rfl,ak.refl _,?_⟩;rw[J];refine PC.ok (iO ((b4.ah K).row dC c2) (by rw[<-J];exact b9) c1) ?_;rintro _ e2 ⟨e,f,g,q,rfl,x,i,j⟩;have e3:=j.size;exact bN (ri _ e f g) ⟨_,rfl,ai.af j,az (aV _ e f g) (j.get e1 id) rfl λe4 p O P=>⟨p.mono λa _ m=>oM,y ((l.then K).then j) x (λa b=>⟨by have:=i a b;omega,(i a b).2,by have:=i a b;omega⟩) (ak.refl _) oM p O P⟩⟩
  ·rintro _ n2 ⟨av,nv,cv,a8,rfl,b4,l,n3⟩
   have n4:=l.size;refine⟨_,_,_,rfl,ai.af l,PC.ok (Gn ((a4.ah c3).ah l)) ?_⟩;rintro _ _ ⟨rfl,rfl⟩;refine⟨_,rfl,ak.refl _,?_⟩;rw[J];refine PC.ok (iO (b4.row dC c2) (by rw[<-J];exact b9) c1) ?_;rintro _ e2 ⟨e,f,g,q,rfl,x,i,j⟩;have e3:=j.size;exact bN (ri _ e f g) ⟨_,rfl,ai.af j,az (aV _ e f g) ((l.then j).get n1 id) rfl λe4 p O P=>⟨p.mono λa _ m=>oM,y ((c3.then l).then j) x (λa b=>⟨by have:=i a b;omega,(i a b).2,by have:=i a b;omega⟩) (ak.refl _) oM p O P⟩⟩
end
structure jh where
 ta:Option Addr
 tn:Nat
 tc:Nat
 pa:Option Addr
 pn:Nat
 pc:Nat
 dp:Nat
 lp:Option Addr
 sp:Nat
 bp:Nat
 wp:Nat
 tp:Nat
abbrev jh.cells(a:jh)(b:bP)(c:Int):Array Value:= #[XH b.aD,XH b.uM,XH b.bM,XH b.chunk,XH b.buffer,XH b.cP,XH b.every,XH b.start,.slice a.ta a.tn a.tc,.slice a.pa a.pn a.pc,XH c,
 ZQ a.dp,.pointer a.lp,ZQ a.sp,ZQ a.bp,ZQ a.wp,ZQ a.tp]
def DL(d:World)(G:Nat->Prop)(e:Nat)(f:Option Addr)(D:an)(b:Option ej):Prop:=
 ∃c,aN d e c D/\(∀a,c a->G a)/\match b with
  |none=>f=none
  |some g=>g.bH≠[]/\∃h i,f=some ⟨h,0,none⟩/\iA d e h i g/\∀a,i a->G a/\¬c a
def Nj(d:World)(G:Nat->Prop)(e:Nat)(a:Nat)(f:List aj):Prop:=∃c D,fZ d e c D a f/\(∀b,c b->G b)/\∀b,D b->G b
def kQ(e:Nat)(f:Array Value)(b:jh)(d:bP)(c:bj)(g:List aj):Nat->World->(Nat->Prop)->Prop
 |0=>λa G=>G e/\a.heap[e]? =some (.cells f 105 (0,0))
 |1=>λa G=>bb a G d.decl b.ta b.tn b.pa b.pn
 |2=>λa G=>DL a G b.dp b.lp c.D c.log
 |3=>λa G=>cf a b.sp G c.S/\c.S.Cl/\c.S.n=d.aD.toNat
 |4=>λa G=>cO a b.bp G d.decl d.every.toNat g
 |5=>λa G=>Nj a G b.wp d.buffer.toNat c.waits
 |6=>λa G=>dy a b.tp G c.fI
 |_=>λ_ _=>True
section
variable {w w' w0:World} {p:Nat} {F G T:Nat->Prop} {cls:Nat->Nat} {h:jh} {c:bP} {self:Int} {X:bj} {dp:Nat} {lp:Option Addr} {D:an} {log:Option ej}
def DL.af(h:DL w G dp lp D log)(c:ak T w w')(d:∀a,G a->¬T a):DL w' G dp lp D log:=by
 obtain⟨i,j,e,f⟩:=h;refine⟨i,j.af c λa b=>d a (e a b),e,?_⟩
 cases log with
 |none=>exact f
 |some p=>
  obtain⟨k,l,m,n,o,g⟩:=f;exact⟨k,l,m,n,o.af c λa b=>d a (g a b).1,g⟩
def bF:kV (kQ p n h c X K):=by
 intro k w w' G T a d b
 match k,a with
 |0,a=>exact⟨a.1,d.get a.2 (b p a.1)⟩
 |1,a=>exact bb.af a d b
 |2,a=>exact DL.af a d b
 |3,a=>exact⟨cf.af a.1 d b,a.2⟩
 |4,a=>exact cO.af a d b
 |5,a=>obtain⟨j,D,l,g,i⟩:=a;exact⟨j,D,l.af d (λe f=>b e (g e f)) λe f=>b e (i e f),g,i⟩
 |6,a=>exact dy.af a d b
 |k+7,a=>trivial
structure iS (c:bP) (me:Int):Prop where
 right:eP c me=true
 decl:cN c.decl=0
 Xu:aH c.bM
 every:aH c.every
 start:aH c.start
structure Env (w0 w:World) (F:Nat->Prop):Prop where
 oE:eA w0
 laid:Laid w0
 gr:ai w0 w
 aB:∀b,F b->w0.heap.size<=b
def Env.gv(h:Env w0 w F)(c:bK F w f w'):Env w0 w' f:=⟨h.oE,h.laid,h.gr.new c.af λa b=>.inr (h.aB a b),λa b=>(c.new a b).elim (h.aB a) λd=>by have:=h.gr.size;omega⟩
def Env.ah(h:Env w0 w F)(a:ai w w'):Env w0 w' F:=⟨h.oE,h.laid,h.gr.then a,h.aB⟩
abbrev cu(w:World)(F:Nat->Prop)(cls:Nat->Nat)(p:Nat)(h:jh)(c:bP)(self:Int)(X:bj):Prop:=aT w F cls (kQ p (h.cells c self) h c X X.S.l)
def bO(w:World)(p:Nat)(F:Nat->Prop)(c:bP)(self:Int)(X:bj):Prop:=iS c self/\∃h cls,cu w F cls p h c self X
def cu.ah(a:cu w F cls p h c self X)(b:ai w w'):cu w' F cls p h c self X:=aT.ah a bF b
def cu.bh(a:cu w F cls p h c self X):w.heap[p]? =some (.cells (h.cells c self) 105 (0,0)):=(a.at' 0).2
def cu.Ib(a:cu w F cls p h c self X):F p/\cls p=0:=(a.at' 0).1
def bO.af(b:bO w p F c self X)(d:ak T w w')(e:∀a,F a->¬T a):bO w' p F c self X:=by
 obtain⟨f,h,cls,g⟩:=b;exact⟨f,h,cls,aT.af g bF d e⟩
def bO.ah(a:bO w p F c self X)(b:ai w w'):bO w' p F c self X:=a.af b λ_ _ h=>h
def bO.aB(b:bO w p F c self X):∀a,F a->a<w.heap.size:=by obtain⟨e,h,cls,d⟩:=b;exact d.aB
def cu.store{d:jh}(a:aT w F cls (kQ p n d c X K))(f:ak (·=p) w w')(g:w'.heap[p]? =some (.cells V 105 (0,0))):aT w' F cls (kQ p V d c X K):=by
 refine aT.same a bF (k:=0) (f.mono λh _ b=>by have b:h=p:=b;exact b▸(a.at' 0).1) ⟨(a.at' 0).1,g⟩ λe G i j=>?_;rcases e with _|_|_|_|_|_|_|e<;>first|exact j|exact absurd rfl i
def DL.ND(i:DL w G dp lp D (some b0))(e:Env w0 w G)(n:∀a,G a->a<w.heap.size):∃d,lp=ZX d/\b0.bH≠[]/\bX w0 w dp d b0 D (λa=>a<w.heap.size/\¬G a):=by
 obtain⟨j,k,g,l,d,m,rfl,h,f⟩:=i;refine⟨d,rfl,l,m,⟨j,k,e.gr,λa b=>⟨e.aB a (g a b),λc=>?_⟩,λa b=>?_⟩,h,λa b=>⟨e.aB a (f a b).1,λc=>c.2 (f a b).1⟩⟩
 ·rcases c with c|c
  ·exact c.2 (g a b)
  ·exact(f a c).2 b
 ·rcases b with b|b
  ·exact b.1
  ·exact h.aB a b
def DL.uM(e:DL w G dp lp D log)(c:Env w0 w G):aR w0 w dp D (λa=>a<w.heap.size/\¬G a):=by
 obtain⟨f,g,d,-⟩:=e;exact⟨f,g,c.gr,λa b=>⟨c.aB a (d a b),λh=>h.2 (d a b)⟩,λa b=>b.1⟩
def DL.FU{Y:Nat->Prop}(n:bX w0 w' dp a b0 D (λb=>(b<w.heap.size/\¬G b)\/Y b))(o:ak (dj λb=>b<w.heap.size/\¬G b) w w')(p:b0.bH≠[]):∃e,DL w' e dp (ZX a) D (some b0)/\bK G w e w'/\(∀b,e b->b<w'.heap.size)/\∀b,e b->¬Y b:=by
 obtain⟨h,⟨i,j,s,f,t⟩,k,l⟩:=n;have g:∀b,¬(b<w.heap.size/\¬G b)->G b\/w.heap.size<=b:=λb c=>by
  rcases Nat.lt_or_ge b w.heap.size with d|d
  ·exact .inl (Classical.byContradiction λq=>c ⟨d,q⟩)
  ·exact .inr d
 refine⟨λb=>i b\/h b,⟨i,j,λb c=>.inl c,p,a,h,rfl,k,λb c=>⟨.inr c,λr=>(f b r).2 (.inr c)⟩⟩,⟨o.mono λb u c=>(g b c).resolve_right oM,λb c=>?_⟩,λb c=>?_,λb c m=>?_⟩
 ·rcases c with c|c
  ·exact g b λd=>(f b c).2 (.inl (.inl d))
  ·exact g b λd=>(l b c).2 (.inl d)
 ·exact c.elim (j.aB b) (k.aB b)
 ·rcases c with c|c
  ·exact(f b c).2 (.inl (.inr m))
  ·exact(l b c).2 (.inr m)
def DL.L_{Y:Nat->Prop}(i:aR w0 w' dp D (λa=>(a<w.heap.size/\¬G a)\/Y a))(j:ak (dj λa=>a<w.heap.size/\¬G a) w w'):∃d,DL w' d dp none D none/\bK G w d w'/\(∀a,d a->a<w'.heap.size)/\∀a,d a->¬Y a:=by
 obtain⟨e,f,m,g,n⟩:=i;have h:∀a,¬(a<w.heap.size/\¬G a)->G a\/w.heap.size<=a:=λa b=>by
  rcases Nat.lt_or_ge a w.heap.size with c|c
  ·exact .inl (Classical.byContradiction λk=>b ⟨c,k⟩)
  ·exact .inr c
 exact⟨e,⟨e,f,λa b=>b,rfl⟩,⟨j.mono λa o b=>(h a b).resolve_right oM,λa b=>h a λc=>(g a b).2 (.inl c)⟩,λa b=>f.aB a b,λa b l=>(g a b).2 (.inr l)⟩
end
def Il{D:an}(b:b0.bH≠[]):(aZ b0 D).2.1.bH≠[]:=by
 have d:∀a:an,(qB b0 a).2.1.bH≠[]:=by
  intro a;unfold qB;dsimp only;split
  ·exact b
  ·split
   ·exact b
   ·simp
 have c:∀a:an,(lW b0 a).2.1.bH≠[]:=by
  intro a;unfold lW;dsimp only;split
  ·exact b
  ·exact d _
 unfold aZ;dsimp only;split
 ·exact c D
 ·split
  ·exact b
  ·exact c _
def FZ{D:an}{l:List aj}(a:b0.bH≠[]):(bl b0 D l).2.1.bH≠[]:=by
 unfold bl;dsimp only;have b:(if b0.size<=b0.bytes then aZ b0 D else(0,b0,D)).2.1.bH≠[]:=by
  split
  ·exact Il a
  ·exact a
 generalize(if b0.size<=b0.bytes then aZ b0 D else(0,b0,D))=c at b⊢;split
 ·exact a
 split
 ·exact a
 split
 ·exact b
 split
 ·exact b
 ·exact b
def Qm(g:Row jj 96 b f d a K):∀c∈K,c.Ok:=λc h=>by
 obtain⟨e,i,rfl⟩:=List.getElem_of_mem h;obtain⟨k,l,m,-,-,-,-,n,o,p,-,-,j⟩:=g.el e K[e] (Qq i);exact j
def aw.Im:∀{l:List aj} {S:aw} {a:aj},a∈S.l->a∈(S.fr l).l
 |[],S,a,b=>b
 |e::l,S,a,b=>aw.Im (l:=l) (S:=(S.add e).2) (by
  rcases S.iG e with⟨-,c⟩|⟨d,-⟩
  ·rw[c];exact b
  ·rw[d];exact(cV e S.l).mem_iff.2 (QJ _ b))
def Io{a:bP}(c:F.Cl)(d:F.n=a.aD.toNat)(b:List aj):eK a F b=F.fr b:=by
 unfold eK;rw[aw.OJ,<-d,c.UE]
section
variable {w w' w0:World} {p:Nat} {F E T:Nat->Prop} {cls:Nat->Nat} {h:jh} {c:bP} {self:Int} {X:bj} {evs:List aj} {ea:Option Addr} {en ec:Nat}
def iS.aD(a:iS c self):c.aD=(c.aD.toNat:Int)/\c.aD.toNat<=64/\1<=c.aD.toNat:=by
 have:=a.right;unfold eP within at this;simp only[QK,decide_eq_true_eq]at this;omega
def Ip(t:cu w F cls p h c self X)(b0:iS c self)(hr:Row jj 96 w E ea en evs)(u:∀a,E a->a<w.heap.size)(hl:X.S.l.length+evs.length<=20000000):
  Calls XP 136 #[ZQ p,.slice ea en ec] w (Ok λa0 w'=>∃M e,a0= ZQ M/\cf w' M e (eK c X.S evs)/\(∀a,e a->w.heap.size<=a)/\ai w w'):=by
 obtain⟨b1,b2,c6⟩:=b0.aD;have eX:=(t.at' 3).1;refine nH ⟨p,0,rfl,_,ae t.bh rfl,?_⟩;rw[b1];refine PC.ok (Eu b2) ?_;rintro _ w7 ⟨v,l,rfl,N,x,m⟩;have i:=cu.ah t m;refine⟨_,rfl,p,0,rfl,_,ae i.bh rfl,PC.ok (qO (eX.ah m) oM) ?_⟩;rintro _ c7 ⟨a2,y,c1,G,rfl,j,z,n⟩;have O:=N.aB;have c8:=j.aB;have z7:=m.size;have c9:=z.size;have P:=m.then z;refine⟨_,_,_,rfl,y_ j IV (hr.ah P) (λa b=>⟨by have:=u a b;omega,λA=>by have:=u a b;have:=n a (j.self a A);omega⟩) (by unfold aK;omega) (by unfold maxLen;omega) λa' c' o Q B C b3 _=>⟨_,_,_,rfl,?_⟩⟩;have b4:=B.len dC;have d0:=C.size;rw[QX]at b4;have a3:Row jj 96 o Q a' (y+en) (X.S.l++evs):=B.row dC (by rw[QX];unfold aK;omega);have R:=B.aB;have S:∀a,Q a->¬l a:=λa b q=>by
  have f:=x a q;have h6:=O a q;rcases b3 a b with i|i|i
  ·have:=n a i;omega
  ·have:=u a i;omega
  ·omega
 have a4:ai w o:=P.new C λa b=>.inr (by have:=n a (j.self a b);omega);have a5:=(N.ah z).af C λa b A=>by have:=O a b;have:=n a (j.self a A);omega
 refine⟨λT H w'=>∃(d:Nat) (e:Nat->Prop),H=d/\d<=y+en/\T=y+en-d/\cf w' v e ((⟨c.aD.toNat,[]⟩:aw).fr ((X.S.l++evs).take d))/\(∀a,e a->l a\/o.heap.size<=a)/\ak l o w',⟨_,0,l,rfl,Qj _,rfl,a5,λa b=>.inl b,ak.refl _⟩,?_⟩;rintro T _ _ U ⟨d,e,rfl,hj,rfl,I,r,s⟩;have d1:=s.size;refine al.dec (λd2=>?_) (λd3=>?_)
 ·obtain⟨g,V⟩:∃g,(X.S.l++evs)[d]? =some g:=⟨_,Qq (by rw[QX];omega)⟩
  obtain⟨a,a1,es,ha,d4,d5,b5,J,K,L,rfl,b6,a7⟩:=(a3.af s S).el d g V;refine⟨a,a1,ha,oM,oM,bA (es:=aC g J K L) (k:=10) (aV _ _ _ _) rfl (λH ht=>by rw[Qx];exact b5 H ht) (PA.mk λd6 b7 d7 b8=>az (aV g J K L) b8 rfl λb9 c2 d8 c3=>au (aV g J K L) c3 ?_)⟩;have k:ai U b9:=b7.new c2 λa b=>.inr (by have b:a=U.heap.size:=b;omega);have W:=aw.mu ((X.S.l++evs).take d) ⟨c.aD.toNat,[]⟩;rw[Qy,QX]at W;simp only[List.length_nil]at W;refine PC.ok (tO (I.ah k) (b6.ah k) (λa b=>⟨by have:=R a b;have:=k.size;omega,λq=>?_⟩) a7 oM) ?_
  ·rcases r a q with f|f
   ·exact S a b f
   ·have:=R a b;omega
  rintro _ c4 ⟨rfl,Y,c5,Z⟩;refine⟨_,rfl,_,oM,d+1,Y,aq oM,oM,rfl,?_,λa b=>?_,(s.ah k).new Z.af λa b=>r a b⟩
  ·rw[Qw,V]
   show cf c4 v Y (aw.fr _ ((X.S.l++evs).take d++[g]));rw[aw.qP];exact c5
  ·rcases Z.new a b with f|f
   ·exact r a f
   ·have:=k.size;exact .inr oM
 ·rw[Qz (by rw[QX];omega)]at I
  exact Ok.mk ⟨v,e,rfl,I,λa b=>(r a b).elim (x a) λf=>oM,a4.new s λa b=>.inr (x a b)⟩
end
section
variable {w w' w0:World} {p:Nat} {F E T:Nat->Prop} {cls:Nat->Nat} {h:jh} {c:bP} {self:Int} {X:bj} {evs lB:List aj} {ea:Option Addr} {en ec:Nat}
def Env.sub(b:Env w0 w F)(c:∀a,f a->F a):Env w0 w f:=⟨b.oE,b.laid,b.gr,λa d=>b.aB a (c a d)⟩
def Qn{a:aw}(b:a.OK)(d:o∈a.l)(e:N∈a.l)(f:aW o=aW N):o=N:=by
 have c:=b.get d;have g:=b.get e;rw[f,g]at c;exact(XJ c).symm
def BB(x:aT w F cls (kQ p (h.cells c self) h c X lB))(m:Env w0 w F)(R:∀(y:Nat) (n o:aj),lB[y]? =some n->X.S.l[y]? =some o->aW n=aW o->n=o)(z:X.S.l.length<=20000000){κ:Value->World->Prop}(q:∀w' i b,cu w' i b p h c self X->bK F w i w'->κ (XH 0) w'):
  ∀oD,bd w oD->∃r:Nat->Prop,(∃s A,(ZX p:Option Addr)=some ⟨s,A,none⟩/\(¬r s/\(∃(B:Option Addr),oD.cell? ⟨s,A+14,none⟩=some (.pointer B)/\(∃C E,(ZX p:Option Addr)=some ⟨C,E,none⟩/\(∃(H:Option Addr),oD.cell? ⟨C,E+13,none⟩=some (.pointer H)/\
   PC XP 59 #[.pointer H] oD (λS e=>∃(I:Option Addr) (J:Nat) (K:Nat),S= .slice I J K/\(ak r oD e/\PC XP 75 #[.pointer B,.slice I J K] e (λT j=>∃(U:Int),T= XH U/\(ak r e j/\κ (XH 0) j)) a0)) h4))))):=by
 intro oD V;have t:ai w oD:=V.af;have l:=aT.ah x bF t;have L:=(l.at' 0).2;refine⟨λa=>F a/\cls a=4,p,0,rfl,λW=>?_,_,ae L rfl,p,0,rfl,_,ae L rfl,PC.ok (qO (show cf oD h.sp (λa=>F a/\cls a=3) X.S from(l.at' 3).1) z) ?_⟩
 ·have:=W.2
  have Y:=(show(F p/\cls p=0)/\_ from x.at' 0).1.2;rw[Y]at this;cases this
 rintro _ e ⟨a2,a3,cc,G,rfl,u,g,Z⟩;have b5:=g.size;have a6:=l.aB;have M:=aT.ah l bF g;have a8:=u.jT;have a1:cO e h.bp (λa=>F a/\cls a=4) c.decl c.every.toNat lB:=M.at' 4;refine⟨_,_,_,rfl,ai.af g,PC.ok (GA a1 m.oE ((m.gr.then t).then g) (λa f=>m.aB a f.1) (u.row dC (by unfold aK;omega)) a8 (λa f=>⟨u.aB a f,λhf=>by have:=a6 a hf.1;have:=Z a f;omega⟩) z R) ?_⟩;rintro _ j ⟨k,rfl,G4,N,O⟩;obtain⟨i,b,v,d,-,-⟩:=M.gv bF (k:=4) (G':=G4) (C2:=kQ p (h.cells c self) h c X X.S.l) O N.aB N λP G hj hc=>by
  rcases P with _|_|_|_|_|_|_|P<;>first|exact hc|exact absurd rfl hj
 have Q:ai w e:=t.then g;exact⟨_,rfl,O.af,q j i b v ⟨(ai.af Q).then d.af,λa f=>(d.new a f).imp id λh1=>by have:=Q.size;omega⟩⟩
def Ic(y:cu w F cls p h c self X)(c1:iS c self)(z:Env w0 w F){V:ej}(b3:X.log=some V)(Y:Row jj 96 w E ea en evs)(Z:∀b,E b->b<w.heap.size/\¬(F b/\cls b=2))(hl:X.S.l.length+evs.length<=20000000):
  Calls XP 81 #[ZQ p,.slice ea en ec] w (Ok λA w'=>A= XH (fB c X evs).1/\∃B s f,cu w' s f p B c self (fB c X evs).2/\bK F w s w'/\B.wp=h.wp):=by
 obtain⟨e,D,c2,a,k⟩:=X;simp only at b3 hl;subst b3;obtain⟨hS,C,hn⟩:=(show cf w h.sp (λb=>F b/\cls b=3) e/\e.Cl/\e.n=c.aD.toNat from y.at' 3)
 have c3:=y.aB;obtain⟨e1,H,I,a0⟩:=DL.ND (show DL w (λb=>F b/\cls b=2) h.dp h.lp D (some V)from y.at' 2) (z.sub λb d=>d.1) λb d=>c3 b d.1;have c4:=Qm Y;have a2:∀b,E b->b<w.heap.size:=λb d=>(Z b d).1;refine nC ⟨p,0,rfl,_,ae y.bh rfl,?_⟩;rw[H];refine PC.ok (KB z.laid a0 I Y a2 oM) ?_;rintro _ w7 ⟨rfl,a1,k7⟩;have J:=FZ (D:=D) (l:=evs) I;have t:∀{a3},(if(bl V D evs).1≠0 then((bl V D evs).1,({S:=e,D:=(bl V D evs).2.2,log:=some (bl V D evs).2.1,waits:=a,fI:=k}:bj))else
   if((bl V D evs).2.2.sync (bl V D evs).2.1.last).1≠0 then(((bl V D evs).2.2.sync (bl V D evs).2.1.last).1,{S:=e,D:=((bl V D evs).2.2.sync (bl V D evs).2.1.last).2,log:=some (bl V D evs).2.1,waits:=a,fI:=k})else
   (0,{S:=eK c e evs,D:=((bl V D evs).2.2.sync (bl V D evs).2.1.last).2,log:=some (bl V D evs).2.1,waits:=a,fI:=k}))=a3->fB c ⟨e,D,some V,a,k⟩ evs=a3:=λ{a3} hq=>hq
 generalize e2:bl V D evs=ap at a1 J t;obtain⟨e3,u,D7⟩:=ap;simp only at a1 J t;obtain⟨G7,K,a4,a5,-⟩:=DL.FU (Y:=λ_=>False) (a1.mono λb d=>d.elim id False.elim) k7 J;obtain⟨F7,m,L,g,-,-,c5⟩:=y.gv bF (k:=2) (G':=G7) (C2:=kQ p (h.cells c self) h c ⟨e,D7,some u,a,k⟩ e.l) a4 a5 (by rw[<-H]at K;exact K) λn G M N=>by
  rcases n with _|_|_|_|_|_|_|n<;>first|exact N|exact absurd rfl M
 refine⟨_,rfl,al.dB (λa6=>Ok.mk ?_) (λh0=>?_)⟩
 ·rw[t (if_pos a6)]
  exact⟨rfl,h,F7,m,L,g,rfl⟩
 simp only at h0;have c6:=z.gv g;obtain⟨q2,o,-,v⟩:=DL.ND (show DL w7 (λb=>F7 b/\m b=2) h.dp h.lp D7 (some u)from L.at' 2) (c6.sub λb d=>d.1) λb d=>L.aB b d.1;refine⟨p,0,rfl,_,ae (L.at' 0).2 rfl,?_⟩;rw[o];refine PC.ok (HS z.laid v J) ?_;rintro _ b4 ⟨rfl,a7,c7⟩;generalize e4:D7.sync u.last=sy at a7 t;obtain⟨s1,S⟩:=sy;simp only at a7 t;obtain⟨a8,q,j,O,-⟩:=DL.FU (Y:=λ_=>False) (a7.mono λb d=>d.elim id False.elim) c7 J;obtain⟨P,x,i,l,-,a9,T⟩:=L.gv bF (k:=2) (G':=a8) (C2:=kQ p (h.cells c self) h c ⟨e,S,some u,a,k⟩ e.l) j O (by rw[<-o]at q;exact q) λn G M N=>by
  rcases n with _|_|_|_|_|_|_|n<;>first|exact N|exact absurd rfl M
 have b0:=g.trans l;refine⟨_,rfl,al.dB (λa6=>Ok.mk ?_) (λh1=>?_)⟩
 ·rw[t ((if_neg (by simpa using h0)).trans (if_pos a6))]
  exact⟨rfl,h,P,x,i,b0,rfl⟩
 simp only at h1;have c8:=t ((if_neg (by simpa using h0)).trans (if_neg (by simpa using h1)));rw[c8];have c9:Row jj 96 b4 E ea en evs:=by
  refine(Y.af a4.af λb d=>(Z b d).2).af j.af λb d hf=>?_;rcases a4.new b (c5▸hf)with h5|h5
  ·exact(Z b d).2 h5
  ·have:=a2 b d;omega
 refine PC.ok (Ip i c1 c9 (λb d=>by have:=a2 b d;have:=b0.af.size;omega) hl) ?_;rintro _ d0 ⟨U,F2,rfl,b5,d1,d2⟩;have d3:(eK c e evs).n=c.aD.toNat:=aw.OL _ _;have b1:=Io C hn evs;have b6:(eK c e evs).Cl:=by rw[b1];exact aw.Cl.fr C c4
 obtain⟨F3,Q,b7,r,d4,-⟩:=i.d_ bF (k:=3) (w':=d0) (G':=F2) (C2:=kQ p (h.cells c self) {h with sp:=U} c ⟨eK c e evs,S,some u,a,k⟩ e.l) (ai.af d2) (λb d=>.inr (d1 b d)) b5.aB ⟨b5,b6,d3⟩ λn G M N=>by
  rcases n with _|_|_|_|_|_|_|n<;>first|exact N|exact absurd rfl M
 refine⟨_,rfl,p,0,rfl,PS.mk (b7.at' 0).2 sM λb8 b9 e5 d5=>?_⟩;have d6:aT b8 F3 Q (kQ p (({h with sp:=U}:jh).cells c self) {h with sp:=U} c ⟨eK c e evs,S,some u,a,k⟩ e.l):=cu.store b7 b9 d5;have d7:bK P b4 F3 b8:=⟨r.af.then (b9.mono λb _ R=>by have R:b=p:=R;rw[R];exact(i.at' 0).1.1),r.new⟩
 have c0:=b0.trans d7;have d8:∀W∈e.l,W∈(eK c e evs).l:=λW hx=>by rw[b1];exact aw.Im hx
 have d9:(eK c e evs).l.length<=20000000:=by rw[b1];exact Xx (aw.mu _ _) hl
 exact BB d6 (z.gv c0) (λe6 W e7 hx hy R=>Qn b6.ok (d8 W (QZ hx)) (QZ hy) R) d9 (κ:=λA w'=>Ok (λA w'=>A= XH 0/\∃B s f,cu w' s f p B c self ⟨eK c e evs,S,some u,a,k⟩/\bK F w s w'/\B.wp=h.wp) (.returned A) w')
  λw' s f b2 e0=>Ok.mk ⟨rfl,{h with sp:=U},s,f,b2,c0.trans e0,rfl⟩
end
end Go.Proofs.YtjgjkeponbeekaaGreatDoor

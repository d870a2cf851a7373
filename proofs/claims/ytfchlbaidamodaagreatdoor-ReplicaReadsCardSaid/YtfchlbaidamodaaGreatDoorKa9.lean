import Derived.Test.YtfchlbaidamodaaGreatDoorYaCode
import Derived.Maps.AppendAt
import Derived.Below
import Derived.Laws.Strings
import Derived.Laws.OwnMore
import Derived.Laws.MakeOwn
import Derived.Lib.BitFns
import Derived.Lib.ItoaNum
set_option linter.all false
set_option maxRecDepth 100000
namespace Go.Proofs.YtfchlbaidamodaaGreatDoor
open Go.ax
def ED:fS:=⟨[],[],[],[],[]⟩
variable{U r:Array Value}{s:Ending->World->Prop}{z:FuncId}{e:Int}{a c:Nat}{d p:Option Addr}{b:World}
theorem EE (f:((0:Int)<=(if(a:Int)<(if 0>e then 0 else e)then(a:Int)else(if 0>e then 0 else e))/\((if(a:Int)<(if 0>e then 0 else e)then(a:Int)else(if 0>e then 0 else e)):Int)<=(if(a:Int)<(if 0>e then 0 else e)then(a:Int)else(if 0>e then 0 else e))/\((if(a:Int)<(if 0>e then 0 else e)then(a:Int)else(if 0>e then 0 else e)):Int)<=(c:Int)/\PC_ 227 #[.slice d (Int.toNat (if(a:Int)<(if 0>e then 0 else e)then(a:Int)else(if 0>e then 0 else e))) (Int.toNat (if(a:Int)<(if 0>e then 0 else e)then(a:Int)else(if 0>e then 0 else e)))] b (kS_ λg h i j=>rt s ((.tuple #[.slice g h i,.bool (decide (((if(a:Int)<(if 0>e then 0 else e)then(a:Int)else(if 0>e then 0 else e)):Int)<(a:Int)))])) j) (pE s))):Calls ZQ 165 #[.slice d a c,.ii e] b s:=DC ED Tryz.func165 rfl f
def Cb:fS:=⟨[(2,[(5,QH 0),(6,QH 0)])],[],[],[],[]⟩
theorem Cc (m:(∃g:Nat->Int->Int->World->Prop,(∃d,g d 0 e b)/\∀(d:Nat) (a:Int) (c:Int) (o:Nat->Value) (h:World),g d a c h->al (decide (a<c)) ((∃i j k,(.func (.func z) r U:Value)= .func (.func i) j k/\enters ZQ i=true/\PC_ i (j++ #[.ii (IntKind.wrap .i64 (iA .u64 (IntKind.wrap .u64 (IntKind.wrap .i64 (a+c))) 1))]++k) h (kB λn l=>al (!n) ((∃f,f<d/\g f (IntKind.wrap .i64 ((IntKind.wrap .i64 (iA .u64 (IntKind.wrap .u64 (IntKind.wrap .i64 (a+c))) 1))+1)) c l)) ((∃f,f<d/\g f a (IntKind.wrap .i64 (iA .u64 (IntKind.wrap .u64 (IntKind.wrap .i64 (a+c))) 1)) l))) (pE s))) (rt s ((.ii a)) h))):Calls ZQ 163 #[.ii e,.func (.func z) r U] b s:=DC Cb Tryz.func163 rfl m
def yp:fS:=⟨[(5,[(51,QH 0)])],[(4,[(6,.pointer (some ⟨0,0,none⟩)),(7,.pointer (some ⟨0,0,none⟩))]),(13,[])],[3,10,15,16],[],[(1,⟨[0,1,2,4,0,16,0,64,0,256,0,1024,2728,4096],[16383,16382,16381,16379,16383,16367,16383,16319,16383,16127,16383,15359,13655,12287],[0,0,0,1,0,1,0,1,0,1,0,1,2,0]⟩),(3,⟨[0,1,2,4,8,0,32,80,128,0,512,0,2048,5120,0,16384,40960,0,0,393727,1048575],[2097151,2097150,2097149,2097147,2097143,2097151,2097119,2097071,2097023,2097151,2096639,2097151,2095103,2092031,2097151,2080767,2056191,2097151,2097151,1965823,1769471],[0,0,0,0,1,0,1,0,1,0,1,0,1,0,0,1,0,2,2,2,2]⟩),(10,⟨[0,1,2,4,0,16,40,64,128,128,0,1535,4095],[8191,8190,8189,8187,8191,8175,8151,8127,8063,8063,8191,6911,7679],[0,0,0,1,0,1,1,0,0,0,2,2,0]⟩),(15,⟨[0,1,2,4,0,16,0,64,128,0,0,1024,0,4096,0,16384,0,65536,174592,262400,1048575],[2097151,2097150,2097149,2097147,2097151,2097135,2097151,2097087,2097023,2097151,2097151,2096127,2097151,2093055,2097151,2080767,2097151,2031615,1922559,1834751,1572823],[0,0,0,1,0,1,0,1,0,1,0,1,0,1,0,1,0,1,2,0,2]⟩),(16,⟨[0,1,2,4,0,0,32,127,128,448,128,2047],[4095,4094,4093,4091,4095,4095,4063,4071,3967,3775,3967,2551],[0,0,0,1,1,1,2,2,0,2,0,2]⟩)]⟩
theorem yq {Z a0 a1 a2 a3 a4 a5 a6 a7:Int} (a9:PA b (.cells #[.ii Z,.ii a0,.ii a1,.slice p a c,.ii a2,.ii a3,.ii a4,.ii a5,.ii a6,.ii a7] 59) λe=>PA e (.cells #[.ii 0,.ii 0] 39) λi9=>(∀l,bE i9 l->(dr d λb0 b1=>(∃b2 b3 b4 b5 b6 b7,l.cell? (ad b0 b1)=some (.slice b2 b3 b4)/\l.cell? (ad b0 (b1+1))=some (.slice b5 b6 b7)/\(rI l (ab_ b (0+4)) λj0=>(rI l (ab_ b (0+6)) λj1=>(rI l (ab_ b (0+7)) λj2=>(rI l (ab_ b (0+8)) λj3=>PC_ 151 #[.agg #[.slice b2 b3 b4,.slice b5 b6 b7],.ii j0,.ii j1,.ii j2,.ii j3] l (kI_ λj4 b8=>al (j4 !=0) ((∀B,bE b8 B->(∃b9 c0,B.cell? (ab_ e 0)=some (.ii b9)/\B.cell? (ab_ e (0+1))=some (.ii c0)/\PS B (ab_ e 0) (.ii b9) λj5=>PS j5 (ab_ e (0+1)) (.ii c0) λI=>(∃c1 c2,I.cell? (ab_ e 0)=some (.ii c1)/\I.cell? (ab_ e (0+1))=some (.ii c2)/\rt s ((.tuple #[.bool true,.agg #[.ii c1,.ii c2]])) I)))) ((∃G:Nat->Nat->Nat->Nat->World->Prop,((∀g,bE b8 g->∃h:Nat->Prop,(dr d λc3 j6=>(¬h c3/\(rS g (ad c3 j6) λj7 j8 q4=>(¬h b.heap.size/\(rI g (ab_ b (0+4)) λc4=>(ix_ j7 c4 j8 λc5 j9=>(¬h c5/\(rS g (ad c5 (j9+Int.toNat c4)) λc6 c7 c8=>(¬h b.heap.size/\(rI g (ab_ b (0+4)) λc9=>(¬h b.heap.size/\(rI g (ab_ b (0+5)) λd0=>(¬h b.heap.size/\(rI g (ab_ b (0+6)) λd1=>((PA g (.cells #[.slice none 0 0] 130) λu=>(aj h g u/\PA u (.cells #[.ii 0,.ii 0,.ii 0] 306) λJ=>(aj h u J/\PS J (ab_ g 0) (.slice c6 c7 c8) λK=>(aj h J K/\St 306 (ab_ u 0) (.agg #[.ii c9,.ii d0,.ii d1]) K λd2=>(aj h K d2/\G g.heap.size 0 u.heap.size 0 d2)))))/\(PA g (.cells #[.ii 0,.ii 0,.ii 0] 306) λv=>(aj h g v/\PA v (.cells #[.slice none 0 0] 130) λL=>(aj h v L/\PS L (ab_ v 0) (.slice c6 c7 c8) λM=>(aj h L M/\St 306 (ab_ g 0) (.agg #[.ii c9,.ii d0,.ii d1]) M λd3=>(aj h M d3/\G v.heap.size 0 g.heap.size 0 d3))))))))))))))))))))))/\∀(w:Nat) (x:Nat) (k:Nat) (n:Nat) (q5:Nat->Value) (r:World),G w x k n r->(dr d λk1 k2=>(rM r (ad k1 (k2+4)) λk3=>(Ld 306 (ad k n) r λk4=>(∃d4 N k5,(∀a8,(Instr.lookup 240 (.map k3) k4 false).run ZQ (r.drewN a8)= .ok (.slice d4 N k5) (r.drewN a8))/\(∀d5,bE r d5->(∃O:Nat->Int->World->Prop,(∃C,O C 0 d5)/\∀(C:Nat) (y:Int) (q6:Nat->Value) (m:World),O C y m->al (decide (y<(N:Int))) ((ix_ d4 y N λk6 k7=>(Ld 59 (ad k6 (k7+Int.toNat y*10)) m λk8=>PA m (.cells #[.ii 0,.ii 0,.ii 0,.slice none 0 0,.ii 0,.ii 0,.ii 0,.ii 0,.ii 0,.ii 0] 59) λk9=>St 59 (ab_ m 0) k8 k9 λl0=>(∀o,bE l0 o->(rS o (ad w x) λl1 l2 q7=>(rI o (ab_ b (0+6)) λd6=>(ix_ l1 d6 l2 λl3 l4=>(Ld 123 (ad l3 (l4+Int.toNat d6*4)) o λl5=>(Ld 59 (ab_ m 0) o λl6=>(Ld 59 (ab_ b 0) o λl7=>PC_ 203 #[l5,l6,l7] o (kB λl8 d7=>al l8 ((∀E,bE d7 E->(∃d8 d9,E.cell? (ab_ m 0)=some (.ii d8)/\E.cell? (ab_ m (0+1))=some (.ii d9)/\PS E (ab_ e 0) (.ii d8) λl9=>PS l9 (ab_ e (0+1)) (.ii d9) λP=>(∃e0 e1,P.cell? (ab_ e 0)=some (.ii e0)/\P.cell? (ab_ e (0+1))=some (.ii e1)/\rt s ((.tuple #[.bool true,.agg #[.ii e0,.ii e1]])) P)))) ((∃e2,e2<C/\O e2 (IntKind.wrap .i64 (y+1)) d7))) (pZ s))))))))))) ((∀i,bE m i->∃z:Nat->Prop,(dr d λe6 m0=>(¬z e6/\(rM i (ad e6 (m0+3)) λm1=>(¬z k/\(∃f0 f1,i.cell? (ad k n)=some (.ii f0)/\i.cell? (ad k (n+1))=some (.ii f1)/\(∃f2 f3 f4 f5 f6,(∀Q,aj z i Q->(Instr.lookup 239 (.map m1) (.agg #[.ii f0,.ii f1]) true).run ZQ Q= .ok (.tuple #[.agg #[.ii f2,.slice f3 f4 f5],.bool f6]) Q)/\PA i (.cells #[.ii 0,.slice none 0 0] 42) λR=>(aj z i R/\PS R (ab_ i 0) (.ii f2) λm2=>PS m2 (ab_ i (0+1)) (.slice f3 f4 f5) λF=>(aj z R F/\(∃S:World->Prop,(al (!f6) ((rS F (ad w x) λm3 m4 m5=>PC_ 85 #[.agg #[.slice m3 m4 m5]] F (kS_ λm6 m7 m8 m9=>PS m9 (ab_ i (0+1)) (.slice m6 m7 m8) λn0=>S n0) (pE s))) (S F))/\∀(q8:Nat->Value) (q:World),S q->(rS q (ad w x) λn1 n2 n3=>(rS q (ab_ i (0+1)) λn4 n5 n6=>(rI q (ab_ b (0+6)) λn7=>(rI q (ab_ b (0+7)) λn8=>(rI q (ab_ b (0+8)) λn9=>PC_ 88 #[.agg #[.slice n1 n2 n3],.slice n4 n5 n6,.ii n7,.ii n8,.ii n9] q (kI_ λo0 f7=>al (o0 !=0) ((∀D,bE f7 D->(∃f8 f9,D.cell? (ab_ e 0)=some (.ii f8)/\D.cell? (ab_ e (0+1))=some (.ii f9)/\PS D (ab_ e 0) (.ii f8) λo1=>PS o1 (ab_ e (0+1)) (.ii f9) λT=>(∃g0 g1,T.cell? (ab_ e 0)=some (.ii g0)/\T.cell? (ab_ e (0+1))=some (.ii g1)/\rt s ((.tuple #[.bool true,.agg #[.ii g0,.ii g1]])) T)))) ((∀j,bE f7 j->∃A:Nat->Prop,(dr d λg2 o2=>(¬A g2/\(rM j (ad g2 (o2+3)) λo3=>(¬A k/\(∃g3 g4,j.cell? (ad k n)=some (.ii g3)/\j.cell? (ad k (n+1))=some (.ii g4)/\(¬A i.heap.size/\(rI j (ab_ i 0) λo4=>(rS j (ad w x) λo5 o6 o7=>(rS j (ab_ i (0+1)) λo8 o9 p0=>(rI j (ab_ b (0+6)) λp1=>(rI j (ab_ b (0+7)) λp2=>(rI j (ab_ b (0+8)) λp3=>PC_ 204 #[.agg #[.slice o5 o6 o7],.slice o8 o9 p0,.ii p1,.ii p2,.ii p3] j (kS_ λp4 p5 p6 U=>(aj A j U/\jU ZQ (Instr.mapUpdate 239 (.map o3) (.agg #[.ii g3,.ii g4]) (.agg #[.ii (IntKind.wrap .i64 (o4+1)),.slice p4 p5 p6])) U (λg5=>(aj A U g5/\(∀f,bE g5 f->∃t:Nat->Prop,(dr d λg6 p7=>(¬t g6/\(rM f (ad g6 (p7+4)) λg7=>(¬t k/\(Ld 306 (ad k n) f λp8=>(∃g8 g9 h0 h1 h2 h3 h4 h5 h6 h7 h8 h9,f.cell? (ab_ b 0)=some (.ii g8)/\f.cell? (ab_ b (0+1))=some (.ii g9)/\f.cell? (ab_ b (0+2))=some (.ii h0)/\f.cell? (ab_ b (0+3))=some (.slice h1 h2 h3)/\f.cell? (ab_ b (0+4))=some (.ii h4)/\f.cell? (ab_ b (0+5))=some (.ii h5)/\f.cell? (ab_ b (0+6))=some (.ii h6)/\f.cell? (ab_ b (0+7))=some (.ii h7)/\f.cell? (ab_ b (0+8))=some (.ii h8)/\f.cell? (ab_ b (0+9))=some (.ii h9)/\PA f (.cells #[.ii g8,.ii g9,.ii h0,.slice h1 h2 h3,.ii h4,.ii h5,.ii h6,.ii h7,.ii h8,.ii h9] 59) λV=>(aj t f V/\PR_ (Instr.mapEntry 240 (.map g7) p8) V (λp9 W=>∃i0 i1 i2 i3,p9= .tuple #[.slice i0 i1 i2,.ii i3]/\(aj t V W/\PR_ (ap_ 50 (.slice i0 i1 i2) (.slice (some (ab_ f 0)) 1 1)) W (kS_ λq0 q1 q2 X=>(aj t W X/\jU ZQ (Instr.entryStore 240 (.map g7) (.ii i3) (.slice q0 q1 q2)) X (λi4=>(aj t X i4/\(∀H,bE i4 H->(∃i5 i6,H.cell? (ab_ e 0)=some (.ii i5)/\H.cell? (ab_ e (0+1))=some (.ii i6)/\PS H (ab_ e 0) (.ii i5) λq3=>PS q3 (ab_ e (0+1)) (.ii i6) λY=>(∃i7 i8,Y.cell? (ab_ e 0)=some (.ii i7)/\Y.cell? (ab_ e (0+1))=some (.ii i8)/\rt s ((.tuple #[.bool false,.agg #[.ii i7,.ii i8]])) Y))))) (pY s))) (pY s))) (pY s))))))))))) (pY s))) (pZ s)))))))))))))))) (pE s)))))))))))))))))))))))))) (pZ s))))))))):Calls ZQ 146 #[.pointer d,.agg #[.ii Z,.ii a0,.ii a1,.slice p a c,.ii a2,.ii a3,.ii a4,.ii a5,.ii a6,.ii a7]] b s:=DC yp Tryz.func146 rfl a9
def jE:fS:=⟨[(3,[(7,QH 0),(8,QH 0)])],[],[],[],[]⟩
theorem jy (n:(∃k:Nat->Int->Int->World->Prop,(∃i,k i 0 (a:Int) b)/\∀(i:Nat) (f:Int) (g:Int) (C:Nat->Value) (h:World),k i f g h->al (decide (f<g)) ((dr d λo p=>(0:Int)<=(IntKind.wrap .i64 (iA .u64 (IntKind.wrap .u64 (IntKind.wrap .i64 (f+g))) 1))/\(IntKind.wrap .i64 (iA .u64 (IntKind.wrap .u64 (IntKind.wrap .i64 (f+g))) 1))<(a:Int)/\(rI h (ad o (p+Int.toNat (IntKind.wrap .i64 (iA .u64 (IntKind.wrap .u64 (IntKind.wrap .i64 (f+g))) 1)))) λq=>PC_ 311 #[.ii q,.ii e] h (kB λr l=>al r ((∃j,j<i/\k j (IntKind.wrap .i64 ((IntKind.wrap .i64 (iA .u64 (IntKind.wrap .u64 (IntKind.wrap .i64 (f+g))) 1))+1)) g l)) ((∃j,j<i/\k j f (IntKind.wrap .i64 (iA .u64 (IntKind.wrap .u64 (IntKind.wrap .i64 (f+g))) 1)) l))) (pE s)))) (al (decide (f<(a:Int))) ((ix_ d f a λt u=>(rI h (ad t (u+Int.toNat f)) λv=>al (v==e) (rt s ((.tuple #[.ii f,.bool true])) h) ((ix_ d f a λw x=>(rI h (ad w (x+Int.toNat f)) λy=>PC_ 312 #[.ii y] h (kB λz m=>al z (PC_ 312 #[.ii e] m (kB λA B=>rt s ((.tuple #[.ii f,.bool A])) B) (pE s)) (rt s ((.tuple #[.ii f,.bool false])) m)) (pE s))))))) (rt s ((.tuple #[.ii f,.bool false])) h)))):Calls ZQ 279 #[.slice d a c,.ii e] b s:=DC jE Tryz.func279 rfl n
def lE:fS:=⟨[(3,[(3,QH 0),(11,QH 0)]),(11,[(6,.slice none 0 0),(27,QH 0)])],[],[],[],[]⟩
theorem lF 
  (K:(∃n:Nat->Int->Int->World->Prop,(∃j,n j 0 0 b)/\∀(j:Nat) (k:Int) (h:Int) (T:Nat->Value) (l:World),n j k h l->al (decide ((h:Int)<((a:Nat):Int))) ((∃u v,d=some ⟨u,v,none⟩/\
   (0:Int)<=h/\h<((a:Nat):Int)/\(∃(L:Option Addr) (o:Nat) (M:Nat),l.cell? ⟨u,v+Int.toNat h,none⟩=some (.slice L o M)/\
   al (decide (((IntKind.wrap .i64 (k+((o:Nat):Int))):Int)<0)) (aH ZQ (Instr.panic (.iface 9 (.string (⟨#[108,101,110,32,111,117,116,32,111,102,32,114,97,110,103,101]⟩:ByteArray)))) l (λU N=>
   (∃m,m<j/\n m (IntKind.wrap .i64 (k+((o:Nat):Int))) (IntKind.wrap .i64 (h+1)) N)) (λr b=>s (.panicked [{v:=r,recovered:=false}]) b)) ((∃m,m<j/\
   n m (IntKind.wrap .i64 (k+((o:Nat):Int))) (IntKind.wrap .i64 (h+1)) l))))) (PC ZQ 315 #[.slice none 0 0,QH k] l (λO P=>
   ∃(w:Option Addr) (x:Nat) (y:Nat),O= .slice w x y/\(∃t:Nat->Option Addr->Nat->Nat->Int->World->Prop,(∃p,t p w x y 0 P)/\
   ∀(p:Nat) (e:Option Addr) (f:Nat) (g:Nat) (i:Int) (V:Nat->Value) (q:World),t p e f g i q->al (decide ((i:Int)<((a:Nat):Int))) ((∃z A,d=some ⟨z,A,none⟩/\
   (0:Int)<=i/\i<((a:Nat):Int)/\(∃(B:Option Addr) (C:Nat) (E:Nat),q.cell? ⟨z,A+Int.toNat i,none⟩=some (.slice B C E)/\
   aH ZQ (Builtin.append_ #[197,197] 197 #[.slice e f g,.slice B C E]) q (λQ R=>∃(F:Option Addr) (H:Nat) (I:Nat),Q= .slice F H I/\
   (∃J,J<p/\t J F H I (IntKind.wrap .i64 (i+1)) R)) (λr b=>s (.panicked [{v:=r,recovered:=false}]) b)))) (s (.returned (.slice e f g)) q))) (λS b=>
   s (.panicked S) b)))):
  Calls ZQ 283 #[.slice d a c] b s:=
 gl lE mixed Tryz.func283 rfl (Nat.le_of_ble_eq_true kR) kR (Eq.mp kR K)
def mQ:fS:=⟨[],[(3,[])],[],[],[]⟩
theorem mR 
  (n:(∃h:World->Prop,(al (decide ((e:Int)<0)) (aH ZQ (Instr.panic (.iface 9 (.string (⟨#[99,97,110,110,111,116,32,98,101,32,110,101,103,97,116,105,118,101]⟩:ByteArray)))) b (λw o=>
   h o) (λf b=>s (.panicked [{v:=f,recovered:=false}]) b)) (h b))/\∀(x:Nat->Value) (k:World),h k->aH ZQ (Builtin.cap_ #[197] 3 #[.slice d a c]) k (λp l=>
   ∃(i:Int),p= QH i/\al (decide (((IntKind.wrap .i64 (e-(IntKind.wrap .i64 (i-((a:Nat):Int))))):Int)>0)) (aH ZQ (Builtin.cap_ #[197] 3 #[.slice d a c]) l (λq r=>
   ∃(g:Int),q= QH g/\((0:Int)<=g/\(g:Int)<=((c:Nat):Int)/\aH ZQ (Builtin.append_ #[197,3] 197 #[.slice d (Int.toNat g) c,QH (IntKind.wrap .i64 (e-(IntKind.wrap .i64 (i-((a:Nat):Int)))))]) r (λt u=>
   ∃(m:Option Addr) (v:Nat) (j:Nat),t= .slice m v j/\((0:Int)<=((a:Nat):Int)/\(((a:Nat):Int):Int)<=((j:Nat):Int)/\
   s (.returned (.slice m (Int.toNat ((a:Nat):Int)) j)) u)) (λf b=>s (.panicked [{v:=f,recovered:=false}]) b))) (λf b=>s (.panicked [{v:=f,recovered:=false}]) b)) (s (.returned (.slice d a c)) l)) (λf b=>
   s (.panicked [{v:=f,recovered:=false}]) b))):
  Calls ZQ 315 #[.slice d a c,QH e] b s:=
 gl mQ mixed Tryz.func315 rfl (Nat.le_of_ble_eq_true kR) kR (Eq.mp kR n)
def qo:fS:=⟨[(8,[(6,.int .u64 0),(37,QH 0)])],[(4,[]),(6,[])],[],[],[]⟩
theorem qp (u:PC_ 302 #[.pointer d,.ii 1] b (kS_ λv w J h=>(ix_ v 0 w λx y=>(∃a,h.cell? (ad x (y+Int.toNat 0))=some (.int .u8 a)/\(∃i:World->Prop,(al (decide (((IntKind.wrap .i64 (ml .u8 a 16)):Int)<=8)) (PC_ 301 #[.bool (a !=16),.ii 5] h (k0_ λz=>i z) (pE s)) (PC_ 301 #[.bool false,.ii 5] h (k0_ λA=>i A) (pE s)))/\∀(K:Nat->Value) (n:World),i n->PC_ 302 #[.pointer d,.ii (IntKind.wrap .i64 (ml .u8 a 16))] n (kS_ λo j L k=>(∃l:World->Prop,(al (((IntKind.wrap .i64 (ml .u8 a 16)):Int)==0) (PC_ 301 #[.bool true,.ii 5] k (k0_ λB=>l B) (pE s)) ((ix_ o 0 j λC E=>(∃p,k.cell? (ad C (E+Int.toNat 0))=some (.int .u8 p)/\PC_ 301 #[.bool (p !=0),.ii 5] k (k0_ λD=>l D) (pE s)))))/\∀(M:Nat->Value) (q:World),l q->(∃m:Nat->Int->Int->World->Prop,(∃g,m g 0 0 q)/\∀(g:Nat) (c:Int) (e:Int) (N:Nat->Value) (f:World),m g c e f->al (decide (e<(j:Int))) ((ix_ o e j λF H=>(∃r,f.cell? (ad F (H+Int.toNat e))=some (.int .u8 r)/\(∃t,t<g/\m t (Rg .u64 (Jn .u64 c 8) (IntKind.wrap .u64 r)) (IntKind.wrap .i64 (e+1)) f)))) (al (((BL .u8 a 16):Int)==0) (PC_ 301 #[.bool (decide (c<9223372036854775808)),.ii 5] f (k0_ λG=>rt s ((.ii (IntKind.wrap .i64 c))) G) (pE s)) (PC_ 301 #[.bool (decide (c<=9223372036854775808)),.ii 5] f (k0_ λI=>rt s ((.ii (IntKind.wrap .i64 (IntKind.wrap .u64 (0-c))))) I) (pE s)))))) (pE s))))) (pE s)):Calls ZQ 256 #[.pointer d] b s:=DC qo Tryz.func256 rfl u
end Go.Proofs.YtfchlbaidamodaaGreatDoor
namespace Go.ax
open Go
abbrev ai (a b:World):Prop:=aj (λ_=>False) a b
variable{d3:Addr}{e4:Array MapEntry}{r:Array Value}{z:FuncId}{e:Int}{u:List Int}{a0:List PanicEntry->World->Prop}{E a c i l:Nat}{a4 f:Nat->Prop}{H:Nat×Nat}{d1:Obj}{Q W:Operand}{d:Option Addr}{d2:Option Nat}{h:Program}{B g q:TypeId}{o t:Value->World->Prop}{a8 b k:World}{y:World->Prop}
theorem aj.refl (a:World):aj f a a:=⟨rfl,rfl,rfl,Q4 _,λ_ _ _=>rfl⟩
theorem aj.trans {f h i:Nat->Prop} (c:aj h b k) (a:aj i k a8) (l:∀a,a<b.heap.size->h a->f a) (m:∀a,a<b.heap.size->i a->f a):aj f b a8:=
 ⟨a.os.trans c.os,a.tape.trans c.tape,a.output.trans c.output,Xx c.size a.size,λd e j=>
  (a.block d (Qk e c.size) (λg=>j (m d e g))).trans (c.block d e (λg=>j (l d e g)))⟩
theorem aj.mono (c:aj f b k) (e:∀a,a<b.heap.size->f a->a4 a):aj a4 b k:=
 ⟨c.os,c.tape,c.output,c.size,λa d g=>c.block a d λh=>g (e a d h)⟩
theorem aj.then (a:aj f b k) (c:aj f k a8):aj f b a8:=a.trans c (λ_ _ a=>a) (λ_ _ a=>a)
theorem aj.new (c:aj f b k) (a:aj a4 k a8) (d:∀a,a4 a->f a\/b.heap.size<=a):aj f b a8:=
 c.trans a (λ_ _ c=>c) (λe h g=>(d e g).resolve_right oM)
theorem aj.af (a:aj f b k) (c:ai k a8):aj f b a8:=a.trans c (λ_ _ a=>a) (λ_ _ a=>a.elim)
theorem ai.keep {S:Nat->Prop} (a:ai b k):aj S b k:=a.mono λ_ _ a=>a.elim
theorem aj.alloc (a:World) (b:Obj):aj f a (a.alloc b):=
 ⟨rfl,rfl,rfl,sM,λc d _=>heap_alloc_old a b c d⟩
theorem aj.drewN {S:Nat->Prop} (a:World) (b:Nat):aj S a (a.drewN b):=⟨rfl,rfl,rfl,Q4 _,λ_ _ _=>rfl⟩
theorem bE.keep {S:Nat->Prop} (a:bE b k):aj S b k:=by obtain⟨c,rfl⟩:=a;exact aj.drewN b c
theorem bE.heap (a:bE b k):k.heap=b.heap:=by obtain⟨c,rfl⟩:=a;rfl
theorem aj.setCell (a:World) (b:Addr) (c:Value) (d:f b.block):aj f a (a.setCell b c):=
 ⟨rfl,rfl,rfl,by simp [World.setCell],λg _ e=>by
  simp only [World.setCell,Array.getElem?_modify];rw [if_neg (by rintro rfl;exact e d)]⟩
theorem aj.below (a:ai b k):RowKit.Below b.heap.size b k:=⟨a.os,a.tape,a.output,a.size,λc d=>a.block c d (λa=>a)⟩
theorem aj.IQ (a:RowKit.Below b.heap.size b k):ai b k:=⟨a.os,a.tape,a.output,a.size,λc d _=>a.block c d⟩
theorem aj.of_grownBy (a:b.grownBy k d2):aj (λc=>some c=d2) b k:=⟨a.os,a.tape,a.output,a.size,λc d e=>a.block c d e⟩
theorem aj.cell (c:aj f b k) {a:Addr} (d:a.block<b.heap.size) (j:¬f a.block):k.cell? a=b.cell? a:=
 World.cell?_of_block (w:=b) (c.block a.block d j)
theorem aj.get (d:aj f b k) (c:b.heap[a]? =some d1) (e:¬f a):k.heap[a]? =some d1:=by
 rw [d.block a (Q5.1 c).1 e];exact c
theorem aC (c:b.heap[a]? =some d1):a<b.heap.size:=(Q5.1 c).1
theorem ae {cs:Array Value} (c:b.heap[a]? =some (Obj.cells cs g H)) {off:Nat} {v:Value} (d:cs[off]? =some v):
  b.cell? ⟨a,off,none⟩=some v:=by simp [World.cell?,c,d]
theorem PA.mk (c:∀a,ai b a->a.heap.size=b.heap.size+1->a.heap[b.heap.size]? =some d1->y a):PA b d1 y:=
 c (b.alloc d1) (aj.alloc b d1) sM (heap_alloc_new b d1)
theorem PS.mk {v:Value} {cs:Array Value} (e:b.heap[a]? =some (.cells cs g (0,0))) (f:c<cs.size)
  (h:∀d,aj (·=a) b d->d.heap.size=b.heap.size->d.heap[a]? =some (.cells (cs.setIfInBounds c v) g (0,0))->y d):PS b ⟨a,c,none⟩ v y:=by
 refine⟨⟨cs[c],ae e (by simp [f])⟩,by simp [World.frozen?,e],h _ (aj.setCell b _ v rfl) (by simp [World.setCell]) ?_⟩;simp [World.setCell,Array.getElem?_modify,e]
def Ok (b:Value->World->Prop):Ending->World->Prop:=λc d=>∃a,c= .returned a/\b a d
theorem Ok.mk {v:Value} (a:o v b):Ok o (.returned v) b:=⟨v,rfl,a⟩
theorem PC.ok {φ d:Value->World->Prop} (e:Calls h z r b (Ok φ))
  (f:∀a c,φ a c->d a c):PC h z r b d a0:=
 e.mono λj c ⟨a,g,i⟩=>by subst g;exact f a c i
theorem Calls.ok {φ d:Value->World->Prop} (e:Calls h z r b (Ok φ)) (f:∀a c,φ a c->d a c):Calls h z r b (Ok d):=
 e.mono λj c ⟨a,g,i⟩=>⟨a,g,f a c i⟩
def aN (a:Int):Prop:= -9223372036854775808<=a/\a<=9223372036854775807
theorem wrap_i64 {x:Int} (a:aN x):IntKind.wrap .i64 x=x:=by
 unfold aN at a;unfold IntKind.wrap;simp [IntKind.signed,IntKind.bits];omega
def aQ:Nat:=140737488355328
structure Ints (w:World) (a:Option Addr) (n:Nat) (xs:List Int):Prop where
 len:n=xs.length
 d_:n*8<=aQ
 AS:∀x∈xs,aN x
 cell:∀(i:Nat) x,xs[i]? =some x->∃b off,a=some ⟨b,off,none⟩/\b<w.heap.size/\w.cell? ⟨b,off+i,none⟩=some (QH x)
def pF (b:Nat->Prop) (c:Option Addr):Prop:=∀a,c=some a->¬b a.block
theorem pF.none :pF f Option.none:=λ_ a=>by cases a
theorem Ints.keep {S:Nat->Prop} {a:Option Addr} {f:Nat} (d:Ints b a f u) (g:aj S b k) (j:pF S a):Ints k a f u:=
 ⟨d.len,d.d_,d.AS,λh l m=>by
  obtain⟨e,c,rfl,i,n⟩:=d.cell h l m;exact⟨e,c,rfl,Qk i g.size,(g.cell (a:=⟨e,c+h,none⟩) i (j ⟨e,c,none⟩ rfl)).trans n⟩⟩
theorem Ints.af (c:Ints b d a u) (e:ai b k):Ints k d a u:=c.keep e λ_ _ c=>c
theorem Ints.nil (a:World):Ints a none 0 []:=⟨rfl,by simp [aQ],sM,λc d b=>by simp at b⟩
theorem Ints.at (f:Ints b d a u) {i:Int} (l:0<=i) (m:i<(a:Int)):
  ∃e c x,d=some ⟨e,c,none⟩/\e<b.heap.size/\u[i.toNat]? =some x/\aN x/\b.cell? ⟨e,c+i.toNat,none⟩=some (QH x):=by
 have n:=f.len;have g:i.toNat<u.length:=oM
 obtain⟨e,c,h,j,k⟩:=f.cell i.toNat u[i.toNat] (by simp [g]);exact⟨e,c,_,h,j,by simp [g],f.AS _ (XY g),k⟩
def aI:Option Addr->Option Nat
 |none=>none
 |some a=>some a.block
theorem Ints.IS (c:Ints b d a u) (g:aj f b k) (h:u≠[]->pF f d):Ints k d a u:=by
 by_cases e:u=[]
 ·subst e;exact⟨c.len,c.d_,c.AS,λj l i=>by simp at i⟩
 ·exact c.keep g (h e)
theorem dN :pF f d↔∀a,aI d=some a->¬f a:=by
 cases d with
 |none=>simp [pF,aI]
 |some d=>simp [pF,aI]
structure Own (w:World) (e:TypeId) (k:Nat) (a:Option Addr) (n c:Nat) (cs:List Value):Prop where
 row:w.ownsRow 0 e k (.slice a n c) n cs
theorem Own.nil (a:World) (e:TypeId) (b:Nat):Own a e b none 0 0 []:=⟨World.ownsRow_nil a 0 e b⟩
theorem Own.length {cs:List Value} (e:Own b g a d c i cs):cs.length=c*a:=e.row.1
theorem Own.cases {cs:List Value} (j:Own b g a d c i cs):
  (d=none/\c=0/\i=0/\cs=[])\/
  ∃h e,d=some ⟨h,0,none⟩/\b.heap[h]? =some (.cells e g (0,0))/\c<=i/\e.size=i*a/\e.toList.take (c*a)=cs:=by
 rcases j.row.2 with⟨f,p⟩|⟨h,k,e,f,_,l,m,_,n,o⟩
 ·simp only [XX]at f
  obtain⟨rfl,rfl,rfl⟩:=f;exact .inl ⟨rfl,rfl,rfl,QW (by simpa using j.row.1)⟩
 ·simp only [XX]at f
  obtain⟨rfl,-,rfl⟩:=f;exact .inr ⟨h,e,rfl,l,m,n,o⟩
theorem Own.keep {S:Nat->Prop} {cs:List Value} (l:Own b g a d c i cs) (m:aj S b k) (n:pF S d):Own k g a d c i cs:=by
 refine⟨⟨l.row.1,?_⟩⟩;rcases l.row.2 with o|⟨p,f,h,j,q,r,e⟩
 ·exact .inl o
 ·refine .inr ⟨p,f,h,j,q,m.get r ?_,e⟩
  simp only [XX]at j;exact n _ j.1
theorem Own.af {cs:List Value} (e:Own b g a d c i cs) (f:ai b k):Own k g a d c i cs:=e.keep f λ_ _ e=>e
theorem Own.lt {cs:List Value} (f:Own b g a d c i cs) (e:aI d=some l):l<b.heap.size:=by
 rcases f.cases with⟨rfl,_⟩|⟨k,h,rfl,j,_⟩
 ·cases e
 ·simp only [aI,Q1]at e
  subst e;exact aC j
theorem Own.cell {d:World} {f:TypeId} {g:Nat} {a:Option Addr} {h i:Nat} {cs:List Value} (k:Own d f g a h i cs) {j:Nat} {u:Value} (b:cs[j]? =some u):
  ∃c,a=some ⟨c,0,none⟩/\c<d.heap.size/\d.cell? ⟨c,j,none⟩=some u:=by
 rcases k.cases with⟨_,_,_,rfl⟩|⟨c,l,rfl,e,_,_,m⟩
 ·simp at b
 ·refine⟨c,rfl,aC e,ae e ?_⟩
  rw [<-m,Xw]at b;split at b
  ·simpa using b
  ·cases b
theorem Own.xF {cur:Array Value} (e:b.heap[c]? =some (.cells cur g (0,0))) (d:cur.size=i*a) (f:i<=maxLen):
  Own b g a (some ⟨c,0,none⟩) i i cur.toList:=
 ⟨⟨by simpa using d,.inr ⟨c,i,cur,rfl,Qj _,e,Q4 _,f,d,by rw [Qz];simp [d]⟩⟩⟩
structure jP (P:Program) (t e:TypeId) (k bytes:Nat):Prop where
 under:P.underlying t=some (.slice e)
 row:(P.info? e).map (λi=>(i.zero.map λz=>z.cells.size,i.size,i.bytes))=some (some k,k,bytes)
 pos:0<k
theorem jP.info {d:Program} {i e:TypeId} {f bytes:Nat} (j:jP d i e f bytes):∃b c,d.info? e=some b/\b.zero=some c/\b.size=f/\b.bytes=bytes/\c.cells.size=f:=by
 have a:=j.row
 cases h:d.info? e with
 |none=>rw [h]at a;cases a
 |some b=>
  rw [h]at a;simp only [Option.map_some,Q1,Prod.mk.injEq]at a
  cases g:b.zero with
  |none=>rw [g]at a;cases a.1
  |some c=>
   rw [g]at a;exact⟨b,c,rfl,g,a.2.1,a.2.2,by simpa using a.1⟩
theorem GU {P:Program} {h bytes:Nat} (n:jP P g q h bytes) {p news:List Value} 
  (x:Own b q h d a c p) (y:∀k m,news[k]? =some m->b.cell? (d3.add k)=some m) (z:news.length=i*h) (A:∀m∈news,m.oneCell'=true) (C:(a+i)*bytes<=aQ) (E:a+i<=maxLen)
  (F:∀e f j,Own j q h e (a+i) f (p++news)->aj (λk=>some k=aI d) b j->(aI e=aI d\/aI e=some b.heap.size)->o (.slice e (a+i) f) j):
  aH P (Builtin.append_ #[g,g] B #[.slice d a c,.slice (some d3) i l]) b o t:=by
 obtain⟨H,I,J,K,L,M,N⟩:=jP.info n;obtain⟨O,j,Q,r,s,U,u⟩:=run_append_own_at (P:=P) b 0 g B q H I h bytes n.under J K L M N n.pos (.slice d a c) a p x.row
  d3 i l news z y A E C (Qj _)
 have R:∀(d:Option Addr) a c,(Value.slice d a c).ownBlock=aI d:=λd a c=>by cases d<;>rfl
 have S:∃e f,O= .slice e (a+i) f:=by
  rcases r.2 with⟨rfl,T⟩|⟨V,v,w,rfl,_⟩
  ·exact⟨none,0,by rw [T]⟩
  ·exact⟨_,_,rfl⟩
 obtain⟨e,f,rfl⟩:=S;simp only [R]at s u;exact aH.mk Q (F e f j ⟨r⟩ (aj.of_grownBy s) u)
theorem AT {e bytes:Nat} (u:jP h g q e bytes) {m news:List Value} 
  (v:Own b q e d a c m) (w:b.heap[i]? =some (.cells r q H)) (x:r.toList.take (l*e)=news) (y:news.length=l*e) (z:∀n∈news,n.oneCell'=true) (A:(a+l)*bytes<=aQ) (C:a+l<=maxLen)
  (F:∀f p k,Own k q e f (a+l) p (m++news)->aj (λs=>some s=aI d) b k->(aI f=aI d\/aI f=some b.heap.size)->o (.slice f (a+l) p) k):
  aH h (Builtin.append_ #[g,g] B #[.slice d a c,.slice (some ⟨i,0,none⟩) l E]) b o t:=by
 exact GU u v (λs n j=>by
   rw [Addr.add_lit,Xz];refine ae w ?_;rw [<-x,Xw]at j;split at j
   ·simpa using j
   ·cases j) y z A C F
def ints (a:List Int):List Value:=a.map (Value.int .i64)
theorem jQ (a:List Int):(ints a).length=a.length:=by simp [ints]
theorem Own.ints (f:Own b g 1 d a c (ints u)) (i:a*8<=aQ) (j:∀e∈u,aN e):Ints b d a u:=by
 have h:=f.length;rw [jQ,Nat.mul_one]at h;refine⟨h.symm,i,j,λk e l=>?_⟩;obtain⟨m,n,o,p⟩:=f.cell (j:=k) (u:=QH e) (by simp [ax.ints,l]);exact⟨m,0,n,o,by rw [Xz];exact p⟩
theorem NQ (m:jP h g q 1 8) 
  (n:Own b q 1 d a c (ints u)) (p:b.heap[i]? =some (.cells #[QH e] q (0,0))) (l:(a+1)*8<=aQ)
  (r:∀f k j,Own j q 1 f (a+1) k (ints (u++[e]))->aj (λs=>some s=aI d) b j->(aI f=aI d\/aI f=some b.heap.size)->o (.slice f (a+1) k) j):
  aH h (Builtin.append_ #[g,g] B #[.slice d a c,.slice (some ⟨i,0,none⟩) 1 1]) b o t:=
 AT m (news:=[QH e]) n p sM sM (by simp [Value.oneCell']) l (by unfold aQ at l;unfold maxLen;omega)
  λf k j v w x=>r f k j (by simpa [ints]using v) w x
theorem Ei (c:h.underlying g=some (.slice q)) (d:Nat) (a:Option Addr) (e f:Nat) (b:World):
  (Op.equalIn (d+1) g (.slice a e f) (.slice none 0 0)).run h b= .ok a.isNone b:=by
 cases a<;>simp [Op.equalIn,run_underlying c]
theorem yV (c:h.underlying g=some (.pointer q)) (d:Nat) (a:Option Addr) (b:World):
  (Op.equalIn (d+1) g (.pointer a) (.pointer none)).run h b= .ok a.isNone b:=by
 cases a<;>simp [Op.equalIn,run_underlying c]
theorem kZ (e:h.underlying g=some (.slice q)) (f:o (.bool d.isNone) b):
  aH h (do eqGuard .eql g Q W (.slice d a c) (.slice none 0 0);binOp .eql g (.slice d a c) (.slice none 0 0)) b o t:=by
 refine aH.mk (v:=.bool d.isNone) ?_ f;have i:(do eqGuard .eql g Q W (.slice d a c) (.slice none 0 0);binOp .eql g (.slice d a c) (.slice none 0 0):Sem Value).run h b=
  ((Op.equalIn (9999+1) g (.slice d a c) (.slice none 0 0))>>=λj=>(pure (Value.bool j):Sem Value)).run h b:=rfl
 rw [i,Sem.run_bind,Ei e]
 rfl
theorem fQ (a:h.underlying g=some (.pointer q)) (c:o (.bool d.isNone) b):
  aH h (do eqGuard .eql g Q W (.pointer d) (.pointer none);binOp .eql g (.pointer d) (.pointer none)) b o t:=by
 refine aH.mk (v:=.bool d.isNone) ?_ c;have e:(do eqGuard .eql g Q W (.pointer d) (.pointer none);binOp .eql g (.pointer d) (.pointer none):Sem Value).run h b=
  ((Op.equalIn (9999+1) g (.pointer d) (.pointer none))>>=λf=>(pure (Value.bool f):Sem Value)).run h b:=rfl
 rw [e,Sem.run_bind,yV a]
 rfl
theorem qM (e:h.underlying g=some (.pointer q)) (c d:Operand) (a:Option Addr) (b:World):
  (do eqGuard .neq g c d (.pointer a) (.pointer none);binOp .neq g (.pointer a) (.pointer none):Sem Value).run h b= .ok (.bool a.isSome) b:=by
 have f:(do eqGuard .neq g c d (.pointer a) (.pointer none);binOp .neq g (.pointer a) (.pointer none):Sem Value).run h b=
  ((Op.equalIn (9999+1) g (.pointer a) (.pointer none))>>=λi=>(pure (Value.bool !i):Sem Value)).run h b:=rfl
 rw [f,Sem.run_bind,yV e]
 cases a<;>rfl
theorem Bo (a:h.underlying g=some (.pointer q)) (c:o (.bool d.isSome) b):
  aH h (do eqGuard .neq g Q W (.pointer d) (.pointer none);binOp .neq g (.pointer d) (.pointer none)) b o t:=aH.mk (qM a Q W d b) c
theorem Own.VC {cs:List Value} (h:Own b g a d c i cs) (f:b.heap[l]? =some (.map e4 E)):aI d≠some l:=by
 intro e;rcases h.cases with⟨rfl,_⟩|⟨m,j,rfl,k,_⟩
 ·cases e
 ·simp only [aI,Q1]at e
  subst e;rw [k]at f;cases f
structure de (F:Nat->Prop) (w:World) (F':Nat->Prop) (w':World):Prop where
 keep:aj F w w'
 new:∀b,F' b->F b\/w.heap.size<=b
theorem de.refl (b:Nat->Prop) (a:World):de b a b a:=⟨aj.refl a,λ_ c=>.inl c⟩
theorem de.trans {d G e:Nat->Prop} {f g h:World} (a:de d f G g) (i:de G g e h):de d f e h:=
 ⟨a.keep.trans i.keep (λ_ _ a=>a) (λb j k=>(a.new b k).resolve_right oM),λb j=>by
  rcases i.new b j with c|c
  ·exact a.new b c
  ·exact .inr (Xx a.keep.size c)⟩
end Go.ax
namespace Go.ax
open Go
variable{d3:Addr}{r:Array Value}{J:Bool}{c5 w:ByteArray}{e m:Int}{a3:List Value}{a c i l:Nat}{f:Nat->Prop}{H:Nat×Nat}{d p:Option Addr}{h:Program}{M a6:Prop}{j:Type}{B g q:TypeId}{o t:Value->World->Prop}{a8 b k:World}
theorem al.dec [Decidable M] {b c:Prop} (d:M->b) (e:¬M->c):al (decide M) b c:=
 al.mk (λa=>d (XV a)) (λa=>e (Xy a))
theorem al.dw (b:e≠m->M) (c:e=m->a6):al (e !=m) M a6:=
 al.mk (λa=>b (by simpa using a)) (λa=>c (by simpa using a))
theorem al.dX (b:e=m->M) (c:e≠m->a6):al (e==m) M a6:=
 al.mk (λa=>b (by simpa using a)) (λa=>c (by simpa using a))
theorem al.not (a:al J a6 M):al (!J) M a6:=by cases J<;>exact a
theorem Qn (b:w.toList=c5.toList):w=c5:=by
 have c:∀a:ByteArray,a.toList=a.data.toList:=λa=>ByteArray.toList_eq a;rw [c,c]at b;exact ByteArray.ext (Array.toList_inj.1 b)
theorem al.YJ (b:w=c5->M) (c:w≠c5->a6):al (ByteArray.toList w==ByteArray.toList c5) M a6:=
 al.mk (λa=>b (Qn (by simpa using a))) (λa=>c (λd=>by subst d;simp at a))
theorem al.Zl (a:w≠c5->M) (b:w=c5->a6):al (!(ByteArray.toList w==ByteArray.toList c5)) M a6:=(al.YJ b a).not
theorem an (b:a<4611686018427387904):IntKind.wrap .i64 ((a:Int)+1)=((a+1:Nat):Int):=by
 rw [wrap_i64 (by unfold aN;omega)];simp
theorem bE.then (a:bE b k) (c:bE k a8):bE b a8:=by obtain⟨d,rfl⟩:=a;obtain⟨e,rfl⟩:=c;exact⟨d+e,sM⟩
theorem bE.refl (a:World):bE a a:=⟨0,rfl⟩
theorem FV {b c:List j} {d:j} (e:b.take a=c.take a) (f:b[a]? =some d) (g:c[a]? =some d):b.take (a+1)=c.take (a+1):=by
 rw [Qw,Qw,e,f,g]
structure kM (α:Type) where
 k:Nat
 rep:World->(Nat->Prop)->α->List Value->Prop
 keep:∀{S D:Nat->Prop} {w w':World} {x:α} {cs:List Value},rep w D x cs->aj S w w'->(∀b,D b->¬S b)->rep w' D x cs
 mono:∀{D D':Nat->Prop} {w:World} {x:α} {cs:List Value},rep w D x cs->(∀b,D b->D' b)->rep w D' x cs
 len:∀{D:Nat->Prop} {w:World} {x:α} {cs:List Value},rep w D x cs->cs.length=k
 one:∀{D:Nat->Prop} {w:World} {x:α} {cs:List Value},rep w D x cs->∀u∈cs,u.oneCell'=true
def flat {d:Type} (e:Nat) (a:d->List Value) (f:d->Prop) (g:∀c,(a c).length=e) (h:∀c,∀i∈a c,i.oneCell'=true):kM d where
 k:=e
 rep:=λ_ _ c cs=>cs=a c/\f c
 keep:=λb _ _=>b
 mono:=λb _=>b
 len:=λb=>by rw [b.1];exact g _
 one:=λb=>by rw [b.1];exact h _
def aP:kM Int:=flat 1 (λa=>[QH a]) aN (λ_=>rfl) (λa c b=>by simp at b;subst b;rfl)
def gq:kM UInt8:=flat 1 (λa=>[.int .u8 a.toNat]) (λ_=>True) (λ_=>rfl) (λa c b=>by simp at b;subst b;rfl)
def Px:kM ByteArray:=flat 1 (λa=>[.string a]) (λ_=>True) (λ_=>rfl) (λa c b=>by simp at b;subst b;rfl)
structure Row {α:Type} (c:kM α) (bytes:Nat) (w:World) (D:Nat->Prop) (a:Option Addr) (n:Nat) (xs:List α):Prop where
 len:n=xs.length
 d_:n*bytes<=aQ
 el:∀(i:Nat) x,xs[i]? =some x->∃b off es,a=some ⟨b,off,none⟩/\b<w.heap.size/\D b/\(∀j,j<c.k->w.cell? ⟨b,off+i*c.k+j,none⟩=es[j]?)/\c.rep w D x es
section
variable {α:Type} {c:kM α} {bytes:Nat} {w w':World} {D D' S:Nat->Prop} {a:Option Addr} {n:Nat} {xs:List α}
theorem Row.keep (e:Row c bytes w D a n xs) (f:aj S w w') (g:∀b,D b->¬S b):Row c bytes w' D a n xs:=
 ⟨e.len,e.d_,λh l m=>by
  obtain⟨b,d,o,p,i,j,q,r⟩:=e.el h l m;exact⟨b,d,o,p,Qk i f.size,j,λk s=>(f.cell (a:=⟨b,d+h*c.k+k,none⟩) i (g b j)).trans (q k s),c.keep r f g⟩⟩
theorem Row.af (b:Row c bytes w D a n xs) (d:ai w w'):Row c bytes w' D a n xs:=b.keep d λ_ _ b=>b
theorem Row.mono (d:Row c bytes w D a n xs) (f:∀b,D b->D' b):Row c bytes w D' a n xs:=
 ⟨d.len,d.d_,λg h i=>by
  obtain⟨b,e,j,k,l,m,o,p⟩:=d.el g h i;exact⟨b,e,j,k,l,f b m,o,c.mono p f⟩⟩
theorem Row.nil (w:World) (D:Nat->Prop):Row c bytes w D none 0 []:=⟨rfl,sM,λb d a=>by simp at a⟩
theorem Row.at (g:Row c bytes w D a n xs) {i:Int} (p:0<=i) (q:i<(n:Int)):
  ∃d b x e,a=some ⟨d,b,none⟩/\d<w.heap.size/\D d/\xs[i.toNat]? =some x/\(∀f,f<c.k->w.cell? ⟨d,b+i.toNat*c.k+f,none⟩=e[f]?)/\c.rep w D x e:=by
 have r:=g.len;have h:i.toNat<xs.length:=oM
 obtain⟨d,b,e,j,k,l,m,o⟩:=g.el i.toNat xs[i.toNat] (by simp [h]);exact⟨d,b,_,e,j,k,l,by simp [h],m,o⟩
theorem Row.sS (h:Row c bytes w D a n xs) {i:Nat} (j:i<n):
  ∃d b f g,a=some ⟨d,b,none⟩/\d<w.heap.size/\D d/\xs[i]? =some f/\(∀e,e<c.k->w.cell? ⟨d,b+i*c.k+e,none⟩=g[e]?)/\c.rep w D f g:=by
 have:=h.at (i:=(i:Int)) oM oM;simpa using this
end
theorem Row.mh {f:j->Value} {h:j->Prop} {hl h1} {bytes:Nat} {D:Nat->Prop} {k:List j} (l:Row (flat 1 (λe=>[f e]) h hl h1) bytes b D d a k) {i:Nat} (m:i<a):
  ∃g c e,d=some ⟨g,c,none⟩/\k[i]? =some e/\h e/\b.cell? ⟨g,c+i,none⟩=some (f e):=by
 obtain⟨g,c,e,r,n,s,_,o,p,rfl,q⟩:=l.sS m;refine⟨g,c,e,n,o,q,?_⟩;have:=p 0 Nat.one_pos;simpa [flat]using this
def bT {a:Type} (b:kM a) (c:World) (D:Nat->Prop):List a->List Value->Prop
 |[],cs=>cs=[]
 |x::f,cs=>∃d e,cs=d++e/\b.rep c D x d/\bT b c D f e
section
variable {α:Type} {c:kM α} {w w':World} {D D' S:Nat->Prop}
theorem bT.keep (b:aj S w w') (d:∀e,D e->¬S e):∀{a:List α} {cs:List Value},bT c w D a cs->bT c w' D a cs
 |[],_,f=>f
 |x::a,_,⟨g,h,i,j,k⟩=>⟨g,h,i,c.keep j b d,bT.keep b d k⟩
theorem bT.mono (b:∀d,D d->D' d):∀{a:List α} {cs:List Value},bT c w D a cs->bT c w D' a cs
 |[],_,e=>e
 |x::a,_,⟨f,g,h,i,j⟩=>⟨f,g,h,c.mono i b,bT.mono b j⟩
theorem bT.append:∀{xs b:List α} {cs a:List Value},bT c w D xs cs->bT c w D b a->bT c w D (xs++b) (cs++a)
 |[],b,_,a,e,d=>by cases e;exact d
 |x::xs,b,_,a,⟨f,g,h,i,j⟩,d=>⟨f,g++a,by rw [h,XQ],i,bT.append j d⟩
theorem bT.one {x:α} (a:c.rep w D x a3):bT c w D [x] a3:=⟨a3,[],sM,a,rfl⟩
theorem bT.length:∀{a:List α} {cs:List Value},bT c w D a cs->cs.length=a.length*c.k
 |[],_,b=>by cases b;simp
 |x::a,_,⟨g,h,d,e,f⟩=>by
  rw [d,QX,c.len e,bT.length f,Xq,X7,Nat.one_mul,Nat.add_comm]
theorem bT.Sk:∀{d:List α} {cs:List Value},bT c w D d cs->∀b∈cs,b.oneCell'=true
 |[],_,e,b,a=>by cases e;simp at a
 |x::d,_,⟨i,j,f,g,h⟩,b,a=>by
  rw [f]at a;rcases Q6.1 a with a|a
  ·exact c.one g b a
  ·exact bT.Sk h b a
theorem bT.at:∀{e:List α} {cs:List Value},bT c w D e cs->∀{i:Nat} {x:α},e[i]? =some x->∃d,(∀a,a<c.k->cs[i*c.k+a]? =d[a]?)/\c.rep w D x d
 |[],_,n,i,x,b=>by simp at b
 |y::e,_,⟨d,o,f,g,j⟩,i,x,b=>by
  have p:=c.len g
  cases i with
  |zero=>
   simp at b;subst b;refine⟨d,λa h=>?_,g⟩;rw [f,Nat.zero_mul,Xz,XW oM]
  |succ i=>
   obtain⟨k,l,m⟩:=bT.at j (i:=i) (x:=x) (by simpa using b);refine⟨k,λa h=>?_,m⟩;rw [f,X7,Nat.one_mul,X8 oM,<-l a h]
   congr 1
   omega
theorem bT.take:∀{a:List α} {cs:List Value},bT c w D a cs->∀(m:Nat),bT c w D (a.take m) (cs.take (m*c.k))
 |[],_,d,m=>by cases d;simp [bT]
 |x::a,_,⟨e,f,g,b,h⟩,m=>by
  have i:=c.len b
  cases m with
  |zero=>simp [bT]
  |succ m=>
   refine⟨e,f.take (m*c.k),?_,b,bT.take h m⟩;rw [g,X7,Nat.one_mul,Nat.add_comm,List.take_append,i,Qz oM]
   congr 2
   omega
theorem Row.bl {bytes:Nat} {j:List α} (x:Row c bytes w D d a j):∃cs,bT c w D j cs/\(j≠[]->0<c.k->∃e b,d=some ⟨e,b,none⟩/\e<w.heap.size/\D e/\∀f g,cs[f]? =some g->w.cell? ⟨e,b+f,none⟩=some g):=by
 have m:∀(n:List α) (h:Nat),(∀k l,n[k]? =some l->j[h+k]? =some l)->∃cs,bT c w D n cs/\∀e b,d=some ⟨e,b,none⟩->0<c.k->∀f g,cs[f]? =some g->w.cell? ⟨e,b+h*c.k+f,none⟩=some g:=by
  intro n
  induction n with
  |nil=>intro h _;exact⟨[],rfl,λe b _ _ f g i=>by simp at i⟩
  |cons y n H=>
   intro h z;obtain⟨A,r,s⟩:=H (h+1) (λk l t=>by have:=z (k+1) l (by simpa using t);rw [show h+1+k=h+(k+1) by omega];exact this);obtain⟨e,b,q,o,B,C,E,u⟩:=x.el h y (z 0 y rfl);refine⟨q++A,⟨q,A,rfl,u,r⟩,λK F p v f g i=>?_⟩;rw [o]at p;cases p
   have L:=c.len u
   by_cases I:f<c.k
   ·rw [XW oM]at i
    rw [<-i];exact E f I
   ·rw [X8 oM]at i
    have:=s e b o v (f-q.length) g i;rw [<-this]
    congr 2
    rw [X7];omega
 obtain⟨cs,r,s⟩:=m j 0 (λk l t=>by simpa using t);refine⟨cs,r,λJ v=>?_⟩
 cases j with
 |nil=>exact absurd rfl J
 |cons l j=>
  obtain⟨e,b,q,o,B,C,E,u⟩:=x.el 0 l rfl;refine⟨e,b,o,B,C,λf g i=>?_⟩;have:=s e b o v f g i;simpa using this
end
structure aV {α:Type} (c:kM α) (e:TypeId) (F:Nat->Prop) (w:World) (a:Option Addr) (n cap:Nat) (xs:List α):Prop where
 body:∃cs D,Own w e c.k a n cap cs/\bT c w D xs cs/\(∀b,D b->F b/\aI a≠some b)
 self:∀b,aI a=some b->F b
 aF:∀b,F b->b<w.heap.size
section
variable {α:Type} {c:kM α} {e:TypeId} {w w':World} {F F' S:Nat->Prop} {a:Option Addr} {n cap:Nat} {xs:List α}
theorem aV.nil (w:World):aV c e (λ_=>False) w none 0 0 []:=
 ⟨⟨[],λ_=>False,Own.nil _ _ _,rfl,λ_ a=>a.elim⟩,λb a=>(by cases a),λ_ a=>a.elim⟩
theorem aV.keep (f:aV c e F w a n cap xs) (g:aj S w w') (h:∀b,F b->¬S b):aV c e F w' a n cap xs:=by
 obtain⟨cs,D,j,k,i⟩:=f.body;exact⟨⟨cs,D,j.keep g (dN.2 λb d=>h b (f.self b d)),k.keep g (λb d=>h b (i b d).1),i⟩,f.self,λb d=>Qk (f.aF b d) g.size⟩
theorem aV.af (b:aV c e F w a n cap xs) (d:ai w w'):aV c e F w' a n cap xs:=b.keep d λ_ _ b=>b
theorem aV.mono (f:aV c e F w a n cap xs) (g:∀b,F b->F' b) (i:∀b,F' b->b<w.heap.size):aV c e F' w a n cap xs:=by
 obtain⟨cs,D,j,k,h⟩:=f.body;exact⟨⟨cs,D,j,k,λb d=>⟨g b (h b d).1,(h b d).2⟩⟩,λb d=>g b (f.self b d),i⟩
theorem aV.len (d:aV c e F w a n cap xs) (f:0<c.k):n=xs.length:=by
 obtain⟨cs,D,g,h,i⟩:=d.body;have b:=g.length;rw [h.length]at b;exact(Nat.eq_of_mul_eq_mul_right f b).symm
theorem Own.Sj {b:Nat} {cs:List Value} (c:Own w e b a n cap cs):n<=cap:=by
 rcases c.cases with⟨_,rfl,rfl,_⟩|⟨g,d,_,_,f,_,_⟩
 ·exact Q4 _
 ·exact f
theorem aV.row {bytes:Nat} (f:aV c e F w a n cap xs) (j:0<c.k) (g:xs.length*bytes<=aQ):Row c bytes w F a n xs:=by
 have k:=f.len j;obtain⟨cs,D,l,s,t⟩:=f.body;refine⟨k,by rw [k];exact g,λA B u=>?_⟩;obtain⟨h,m,o⟩:=s.at u;have C:=c.len o;have p:=m 0 j;rw [Nat.add_zero,Qq (show 0<h.length by omega)]at p;obtain⟨q,i,v,_⟩:=l.cell p;refine⟨q,0,h,i,v,f.self q (by rw [i];rfl),λr x=>?_,c.mono o λy g=>(t y g).1⟩;have b:=m r x;rw [Qq (show r<h.length by omega)]at b⊢;obtain⟨E,d,_,z⟩:=l.cell b;rw [i]at d;cases d
 rw [Xz];exact z
theorem IL {bytes:Nat} {x:α} (i:aV c e F w a n cap xs) (A:jP h g e c.k bytes)
  {D:Nat->Prop} (s:c.rep w D x r.toList) (l:∀b,D b->b<w.heap.size/\aI a≠some b) (d:(xs.length+1)*bytes<=aQ) (J:xs.length+1<=maxLen)
  (u:∀k j w' F',aV c e F' w' k (n+1) j (xs++[x])->aj (λv=>aI a=some v) w w'->(∀b,F' b->F b\/D b\/w.heap.size<=b)->(∀b,aI k=some b->F b\/w.heap.size<=b)->o (.slice k (n+1) j) w'):
  PA w (.cells r e) λy=>aH h (Builtin.append_ #[g,g] q #[.slice a n cap,.slice (some ⟨w.heap.size,0,none⟩) 1 1]) y o t:=by
 have C:=i.len A.pos;obtain⟨cs,K,L,M,m⟩:=i.body;refine PA.mk λy E R N=>?_;have S:=c.len s;have O:=L.af E;refine AT A (news:=r.toList) O N (by rw [Qz oM]) oM (c.one s) (by rw [C];exact d) (by rw [C];exact J) λk P p H I B=>?_;have z:aj (λv=>aI a=some v) w p:=(ai.keep E).then (I.mono λ_ _ i=>i.symm)
 let F':Nat->Prop:=λb=>F b\/D b\/(w.heap.size<=b/\b<p.heap.size)
 have T:y.heap.size<=p.heap.size:=I.size;refine u k P p F' ⟨⟨_,λb=>K b\/D b,H,bT.append ((M.keep z λb d=>(m b d).2).mono λb d=>.inl d) (bT.one (c.mono (c.keep s z λb d=>(l b d).2) λb d=>.inr d)),?_⟩,?_,?_⟩ z ?_ ?_
 ·intro b d
  have U:b<w.heap.size:=d.elim (λf=>i.aF b (m b f).1) λf=>(l b f).1;refine⟨d.elim (λf=>.inl (m b f).1) λf=>.inr (.inl f),?_⟩;rcases B with B|B
  ·rw [B];exact d.elim (λf=>(m b f).2) λf=>(l b f).2
  ·rw [B];intro Q;cases Q;omega
 ·intro b d
  rcases B with B|B
  ·exact .inl (i.self b (B▸d))
  ·have:=H.lt d
   rw [B]at d;cases d;exact .inr (.inr ⟨oM,this⟩)
 ·rintro b (d|d|d)
  ·have:=i.aF b d;omega
  ·have:=(l b d).1;omega
  ·exact d.2
 ·rintro b (d|d|d)
  ·exact .inl d
  ·exact .inr (.inl d)
  ·exact .inr (.inr d.1)
 ·intro b d
  rcases B with B|B
  ·exact .inl (i.self b (B▸d))
  ·rw [B]at d;cases d;exact .inr oM
theorem lH {bytes:Nat} (i:aV c e F w a n cap xs) (y:jP h g e c.k bytes)
  {D:Nat->Prop} {p M:Nat} {l:List α} (E:Row c bytes w D (some d3) p l) (r:∀b,D b->b<w.heap.size/\aI a≠some b) (d:(xs.length+l.length)*bytes<=aQ) (N:xs.length+l.length<=maxLen)
  (z:∀m j w' F',aV c e F' w' m (n+p) j (xs++l)->aj (λk=>aI a=some k) w w'->(∀b,F' b->F b\/D b\/w.heap.size<=b)->(∀b,aI m=some b->F b\/w.heap.size<=b)->o (.slice m (n+p) j) w'):
  aH h (Builtin.append_ #[g,g] q #[.slice a n cap,.slice (some d3) p M]) w o t:=by
 have H:=i.len y.pos;have A:=E.len;obtain⟨cs,O,P,Q,s⟩:=i.body;obtain⟨I,u,R⟩:=E.bl;have S:∀k v,I[k]? =some v->w.cell? (d3.add k)=some v:=λk v J=>by
  have T:l≠[]:=by rintro rfl;have:=u.length;simp at this;subst this;simp at J
  obtain⟨b,U,V,_,_,W⟩:=R T y.pos
  cases V
  rw [Addr.add_lit];exact W k v J
 refine GU y (news:=I) P S (by rw [u.length,A]) u.Sk (by rw [H,A];exact d) (by rw [H,A];exact N) λm X x K L B=>?_;have C:aj (λk=>aI a=some k) w x:=L.mono λ_ _ i=>i.symm
 let F':Nat->Prop:=λb=>F b\/D b\/(w.heap.size<=b/\b<x.heap.size)
 have Z:w.heap.size<=x.heap.size:=L.size;refine z m X x F' ⟨⟨_,λb=>O b\/D b,K,bT.append ((Q.keep C λb d=>(s b d).2).mono λb d=>.inl d) ((u.keep C λb d=>(r b d).2).mono λb d=>.inr d),?_⟩,?_,?_⟩ C ?_ ?_
 ·intro b d
  have a1:b<w.heap.size:=d.elim (λf=>i.aF b (s b f).1) λf=>(r b f).1;refine⟨d.elim (λf=>.inl (s b f).1) λf=>.inr (.inl f),?_⟩;rcases B with B|B
  ·rw [B];exact d.elim (λf=>(s b f).2) λf=>(r b f).2
  ·rw [B];intro Y;cases Y;omega
 ·intro b d
  rcases B with B|B
  ·exact .inl (i.self b (B▸d))
  ·have:=K.lt d
   rw [B]at d;cases d;exact .inr (.inr ⟨Q4 _,this⟩)
 ·rintro b (d|d|d)
  ·have:=i.aF b d;omega
  ·have:=(r b d).1;omega
  ·exact d.2
 ·rintro b (d|d|d)
  ·exact .inl d
  ·exact .inr (.inl d)
  ·exact .inr (.inr d.1)
 ·intro b d
  rcases B with B|B
  ·exact .inl (i.self b (B▸d))
  ·rw [B]at d;cases d;exact .inr oM
end
theorem bT.free {c:Type} {e:Nat} {a:c->List Value} {f:c->Prop} {hl b} {g h:World} {D i:Nat->Prop}:∀{d:List c} {cs:List Value},bT (flat e a f hl b) g D d cs->bT (flat e a f hl b) h i d cs
 |[],_,j=>j
 |x::d,_,⟨k,l,b,m,n⟩=>⟨k,l,b,m,n.free⟩
theorem aV.alone {e:j->List Value} {m:j->Prop} {hl h1} {n:List j} (h:aV (flat a e m hl h1) g f b d c i n):
  aV (flat a e m hl h1) g (λk=>aI d=some k) b d c i n:=by
 obtain⟨cs,q,o,p,r⟩:=h.body;exact⟨⟨cs,λ_=>False,o,p.free,λ_ h=>h.elim⟩,λk l=>l,λk l=>h.aF k (h.self k l)⟩
def qD {b:Type} (i:kM b) (j:TypeId) (c:World) (k:List b) (l:Value) (d:World):Prop:=
 ∃e f a g,l= .slice e f a/\aV i j g d e f a k/\ai c d/\∀h,g h->c.heap.size<=h
theorem Row.lit {enc:j->Value} {e:j->Prop} {hl h1} {bytes:Nat} {cs:Array Value} (f:b.heap[a]? =some (.cells cs g H)) (d:List j) (k:cs.toList=d.map enc) (l:∀c∈d,e c) (m:d.length*bytes<=aQ):
  Row (flat 1 (λc=>[enc c]) e hl h1) bytes b (·=a) (some ⟨a,0,none⟩) d.length d:=
 ⟨rfl,m,λh c i=>⟨a,0,[enc c],rfl,aC f,rfl,λn o=>by
  have:n=0:=Nat.lt_one_iff.1 o;subst this;have:cs.toList[h]? =some (enc c):=by rw [k];simp [i]
  have p:=ae f (off:=h) (v:=enc c) (by simpa using this);simpa [flat]using p,rfl,l c (QZ i)⟩⟩
theorem Row.part {c:kM j} {bytes:Nat} {D:Nat->Prop} {h:List j} (f:Row c bytes b D d a h) {lo hi cap:Nat} (v:lo<=hi) (w:hi<=a) (x:a<=cap):
  Row c bytes b D (cM d lo cap c.k) (hi-lo) ((h.take hi).drop lo):=by
 have y:=f.len;refine⟨by simp;omega,Xx (Q0 _ oM) f.d_,λi k e=>?_⟩;rw [List.getElem?_drop,Xw]at e;split at e
 ·rename_i z
  obtain⟨l,g,m,n,o,p,q,r⟩:=f.el (lo+i) k e
  by_cases s:cap=lo
  ·omega
  ·exact⟨l,g+lo*c.k,m,by rw [n];simp [cM,s,Addr.add_lit],o,p,λt u=>by rw [<-q t u];congr 2;rw [X7];omega,r⟩
 ·cases e
theorem aV.jx {e:kM j} {h:List j} (i:aV e g f b d a c h):a<=c:=by
 obtain⟨cs,l,k,_⟩:=i.body;exact k.Sj
theorem Row.take {f:kM j} {bytes:Nat} {D:Nat->Prop} {g:List j} (e:Row f bytes b D d a g) {m:Nat} (h:m<=a):Row f bytes b D d m (g.take m):=by
 have l:=e.len;refine⟨by simp;omega,Xx (Q0 _ h) e.d_,λi k c=>?_⟩;rw [Xw]at c;split at c
 ·exact e.el i k c
 ·cases c
theorem sE {m:kM j} {u:List j} {bytes:Nat} (v:aV m g f b d a c u) (w:jP h q g m.k bytes)
  {D:Nat->Prop} {n:List j} (z:Row m bytes b D p i n) (C:p=none->i=0/\l=0) (E:∀e,D e->e<b.heap.size/\aI d≠some e) (r:(u.length+n.length)*bytes<=aQ) (F:u.length+n.length<=maxLen)
  (s:∀x k y A,aV m g A y x (a+i) k (u++n)->aj (λH=>aI d=some H) b y->(∀e,A e->f e\/D e\/b.heap.size<=e)->(∀e,aI x=some e->f e\/b.heap.size<=e)->o (.slice x (a+i) k) y):
  aH h (Builtin.append_ #[q,q] B #[.slice d a c,.slice p i l]) b o t:=by
 cases p with
 |some N=>exact lH v w z E r F s
 |none=>
  obtain⟨rfl,rfl⟩:=C rfl;have I:n=[]:=QW z.len.symm;subst I;obtain⟨J,O,K,P,Q,R,S⟩:=jP.info w;obtain⟨cs,T,L,U,V⟩:=v.body;have M:=run_append_owned_none (P:=h) (w:=b) 0 q B g J m.k w.under K (.slice d a c) a cs L.row;exact aH.mk M (s d c b f (by simpa using v) (aj.refl _) (λe r=>.inl r) λe r=>.inl (v.self e r))
theorem aV.Pq {e:kM j} {h:List j} (i:aV e g f b d a c h) (k:d=none):a=0/\c=0:=by
 obtain⟨cs,p,l,_⟩:=i.body;rcases l.cases with⟨_,m,n,_⟩|⟨q,o,rfl,_⟩
 ·exact⟨m,n⟩
 ·cases k
theorem Wp (k:jP h g q 1 1) (f:(h.info? q).bind (·.zero)=some (.int .u8 0)) (l:a<=c) (d:c<=aQ) 
  (i:∀e,aV gq q (·=b.heap.size) e (some ⟨b.heap.size,0,none⟩) a c (List.replicate a 0)->ai b e->e.heap.size=b.heap.size+1->o (.slice (some ⟨b.heap.size,0,none⟩) a c) e):
  aH h (Instr.makeSlice g (QH (a:Int)) (QH (c:Int))) b o t:=by
 unfold aQ at d;obtain⟨r,s,m,n,u,v,B⟩:=k.info;have w:s= .int .u8 0:=by
  rw [m]at f;simp only [Option.bind_some,n]at f;exact XJ f
 subst w;have p:=run_make (P:=h) b g q r _ k.under m n .i64 .i64 a c oM oM (by rw [v];omega) oM;rw [Qx,Qx,u,Nat.mul_one]at p;have x:ai b (b.alloc (.cells (madeCells (Value.int .u8 0).cells c) q)):=aj.alloc b _;have y:(madeCells (Value.int .u8 0).cells c).toList=List.replicate c (.int .u8 0):=by
  unfold madeCells;rw [Array.toList_map];apply List.ext_getElem
  ·simp
  ·intro C E F
   simp [Value.cells,Nat.mod_one]
 refine aH.mk p (i _ ⟨⟨List.replicate a (.int .u8 0),λ_=>False,⟨⟨by simp [gq,flat],.inr ⟨b.heap.size,c,_,rfl,Qj _,heap_alloc_new b _,l,by unfold maxLen;omega,by simp [size_madeCells,gq,flat],?_⟩⟩⟩,?_,λ_ i=>i.elim⟩,λz d=>by simpa [aI]using d.symm,λz d=>by subst d;simp⟩ x sM)
 ·rw [y]
  simp only [gq,flat,Nat.mul_one,List.take_replicate];rw [X2 l]
 ·have j:∀a:Nat,bT gq (b.alloc (.cells (madeCells (Value.int .u8 0).cells c) q)) (λ_=>False) (List.replicate a 0) (List.replicate a (.int .u8 0)):=by
   intro a
   induction a with
   |zero=>rfl
   |succ a A=>exact⟨[.int .u8 0],List.replicate a (.int .u8 0),rfl,⟨rfl,trivial⟩,A⟩
  exact j a
end Go.ax
namespace Go.ax
open Go
def fW (a:Nat):List UInt8:=if b:a=0 then []else UInt8.ofNat (a % 256)::fW (a/256)
termination_by a
decreasing_by omega
theorem jK:fW 0=[]:=by rw [fW];simp
variable{a:Nat}
theorem lP (b:a≠0):fW a=UInt8.ofNat (a % 256)::fW (a/256):=by rw [fW];simp [b]
theorem zK:∀(a:Nat),a<2 ^ 64->(fW a).length=(Lib.bitLen a+7)/8:=by
 intro a
 induction a using Nat.strongRecOn with
 |_ a d=>
  intro c
  by_cases b:a=0
  ·subst b;rw [jK];decide
  ·rw [lP b,Xq]
   by_cases e:a<256
   ·have f:a/256=0:=oM
    rw [f,jK];have h:Lib.bitLen a<=8:=Lib.bitLen_le8 ⟨a,e⟩;have i:1<=Lib.bitLen a:=(Lib.bitLenAux_bounds 64 a c b).1;simp;omega
   ·have:=d (a/256) oM oM
    rw [this];have g:=Lib.bitLen_shift 8 a oM c;rw [show(2:Nat) ^ 8=256 from rfl]at g;omega
theorem Dx {u:Nat} (a:u<2 ^ 64):(fW u).length<=8:=by
 rw [zK u a]
 by_cases b:u=0
 ·subst b;decide
 ·have c:=Lib.bitLenAux_bounds 64 u a b
  have:Lib.bitLen u<=64:=by
   apply Nat.le_of_not_lt;intro d;have e:2 ^ 64<=2 ^(Lib.bitLen u-1):=Nat.pow_le_pow_right oM oM;have f:2 ^(Lib.bitLen u-1)<=u:=c.2.1;omega
  omega
theorem SO:∀(c a:Nat),c<(fW a).length->(fW a)[c]? =some (UInt8.ofNat (a/256 ^ c % 256)):=by
 intro c
 induction c with
 |zero=>
  intro a b
  by_cases d:a=0
  ·subst d;rw [jK]at b;simp at b
  ·rw [lP d];simp
 |succ c e=>
  intro a b
  by_cases d:a=0
  ·subst d;rw [jK]at b;simp at b
  ·rw [lP d]at b⊢
   have:=e (a/256) (by simpa using b);rw [List.getElem?_cons_succ,this,Nat.div_div_eq_div_mul,Nat.pow_succ,Nat.mul_comm 256]
def gO (a:List UInt8):Nat:=a.foldl (λb c=>b*256+c.toNat) 0
theorem zM (a:List UInt8) (b:UInt8):gO (a++[b])=gO a*256+b.toNat:=by simp [gO,List.foldl_append]
theorem OC (a:List UInt8):gO a<256 ^ a.length:=by
 suffices d:∀(a:List UInt8) (b c:Nat),b<256 ^ c->a.foldl (λb e=>b*256+e.toNat) b<256 ^(c+a.length) by
  have:=d a 0 0 sM;simpa [gO]using this
 intro a
 induction a with
 |nil=>intro b c d;simpa using d
 |cons e a f=>
  intro b c d;have g:=e.toNat_lt;have:=f (b*256+e.toNat) (c+1) (by rw [Nat.pow_succ];omega);rw [List.foldl_cons,Xq];rw [show c+(a.length+1)=c+1+a.length by omega];exact this
def eB (a:Int):List UInt8:=UInt8.ofNat ((fW a.natAbs).length+if a<0 then 16 else 0)::(fW a.natAbs).reverse
def rdNum (d:List UInt8):Int×Int×Nat:=match d with
 |[]=>(4,0,0)
 |h::c=>
  let a:=if 16<h.toNat then h.toNat-16 else h.toNat
  let b:=gO (c.take a)
  if 8<a then(5,0,0)
  else if c.length<a then(4,0,0)
  else if(0<a/\c.head? =some 0)\/(¬16<h.toNat/\2 ^ 63<=b)\/(16<h.toNat/\2 ^ 63<b)then(5,0,0)
  else(0,if 16<h.toNat then-(b:Int)else b,a+1)
end Go.ax

import Derived.Test.YtjgjkeponbeekaaGreatDoorYaCode
import Derived.Maps.AppendAt
import Derived.Below
import Derived.Laws.Strings
import Derived.Laws.OwnMore
import Derived.Laws.MakeOwn
import Derived.Lib.BitFns
import Derived.Lib.ItoaNum
set_option linter.all false
set_option maxHeartbeats 4000000
set_option maxRecDepth 100000
namespace Go.Proofs.YtjgjkeponbeekaaGreatDoor
open Go.ar
def Cr:ft:=⟨[],[],[],[],[]⟩
variable{V n:Array Value}{s:Ending->World->Prop}{z:FuncId}{e:Int}{a c:Nat}{d r:Option Addr}{b:World}
def Cs(f:((0:Int)<=(if(a:Int)<(if 0>e then 0 else e)then(a:Int)else(if 0>e then 0 else e))/\((if(a:Int)<(if 0>e then 0 else e)then(a:Int)else(if 0>e then 0 else e)):Int)<=(if(a:Int)<(if 0>e then 0 else e)then(a:Int)else(if 0>e then 0 else e))/\((if(a:Int)<(if 0>e then 0 else e)then(a:Int)else(if 0>e then 0 else e)):Int)<=(c:Int)/\PC_ 215 #[.slice d (Int.toNat (if(a:Int)<(if 0>e then 0 else e)then(a:Int)else(if 0>e then 0 else e))) (Int.toNat (if(a:Int)<(if 0>e then 0 else e)then(a:Int)else(if 0>e then 0 else e)))] b (kS_ λg h i j=>rt s ((.tuple #[.slice g h i,.bool (decide (((if(a:Int)<(if 0>e then 0 else e)then(a:Int)else(if 0>e then 0 else e)):Int)<(a:Int)))])) j) (pE s))):Calls XP 152 #[.slice d a c,.ii e] b s:=DC Cr Tryz.func152 rfl f
def AA:ft:=⟨[(2,[(5,XH 0),(6,XH 0)])],[],[],[],[]⟩
def AB(m:(∃g:Nat->Int->Int->World->Prop,(∃d,g d 0 e b)/\∀(d:Nat) (a:Int) (c:Int) (p:Nat->Value) (h:World),g d a c h->al (decide (a<c)) ((∃i j k,(.func (.func z) n V:Value)= .func (.func i) j k/\enters XP i=true/\PC_ i (j++ #[.ii (IntKind.wrap .i64 (gw .u64 (IntKind.wrap .u64 (IntKind.wrap .i64 (a+c))) 1))]++k) h (kB λo l=>al (!o) ((∃f,f<d/\g f (IntKind.wrap .i64 ((IntKind.wrap .i64 (gw .u64 (IntKind.wrap .u64 (IntKind.wrap .i64 (a+c))) 1))+1)) c l)) ((∃f,f<d/\g f a (IntKind.wrap .i64 (gw .u64 (IntKind.wrap .u64 (IntKind.wrap .i64 (a+c))) 1)) l))) (pE s))) (rt s ((.ii a)) h))):Calls XP 150 #[.ii e,.func (.func z) n V] b s:=DC AA Tryz.func150 rfl m
def wF:ft:=⟨[(5,[(51,XH 0)])],[(4,[(6,.pointer (some ⟨0,0,none⟩)),(7,.pointer (some ⟨0,0,none⟩))]),(13,[])],[3,10,15,16],[],[(1,⟨[0,1,2,4,0,16,0,64,0,256,0,1024,2728,4096],[16383,16382,16381,16379,16383,16367,16383,16319,16383,16127,16383,15359,13655,12287],[0,0,0,1,0,1,0,1,0,1,0,1,2,0]⟩),(3,⟨[0,1,2,4,8,0,32,80,128,0,512,0,2048,5120,0,16384,40960,0,0,393727,1048575],[2097151,2097150,2097149,2097147,2097143,2097151,2097119,2097071,2097023,2097151,2096639,2097151,2095103,2092031,2097151,2080767,2056191,2097151,2097151,1965823,1769471],[0,0,0,0,1,0,1,0,1,0,1,0,1,0,0,1,0,2,2,2,2]⟩),(10,⟨[0,1,2,4,0,16,40,64,128,128,0,1535,4095],[8191,8190,8189,8187,8191,8175,8151,8127,8063,8063,8191,6911,7679],[0,0,0,1,0,1,1,0,0,0,2,2,0]⟩),(15,⟨[0,1,2,4,0,16,0,64,128,0,0,1024,0,4096,0,16384,0,65536,174592,262400,1048575],[2097151,2097150,2097149,2097147,2097151,2097135,2097151,2097087,2097023,2097151,2097151,2096127,2097151,2093055,2097151,2080767,2097151,2031615,1922559,1834751,1572823],[0,0,0,1,0,1,0,1,0,1,0,1,0,1,0,1,0,1,2,0,2]⟩),(16,⟨[0,1,2,4,0,0,32,127,128,448,128,2047],[4095,4094,4093,4091,4095,4095,4063,4071,3967,3775,3967,2551],[0,0,0,1,1,1,2,2,0,2,0,2]⟩)]⟩
def wG{Z a0 a1 a2 a3 a4 a5 a6 a7:Int}(a9:PA b (.cells #[.ii Z,.ii a0,.ii a1,.slice r a c,.ii a2,.ii a3,.ii a4,.ii a5,.ii a6,.ii a7] 63) λe=>PA e (.cells #[.ii 0,.ii 0] 46) λi9=>(∀l,bd i9 l->(dr d λb0 b1=>(∃b2 b3 b4 b5 b6 b7,l.cell? (ad b0 b1)=some (.slice b2 b3 b4)/\l.cell? (ad b0 (b1+1))=some (.slice b5 b6 b7)/\(rI l (ab_ b (0+4)) λj0=>(rI l (ab_ b (0+6)) λj1=>(rI l (ab_ b (0+7)) λj2=>(rI l (ab_ b (0+8)) λj3=>PC_ 201 #[.agg #[.slice b2 b3 b4,.slice b5 b6 b7],.ii j0,.ii j1,.ii j2,.ii j3] l (kI_ λj4 b8=>al (j4 !=0) ((∀B,bd b8 B->(∃b9 c0,B.cell? (ab_ e 0)=some (.ii b9)/\B.cell? (ab_ e (0+1))=some (.ii c0)/\PS B (ab_ e 0) (.ii b9) λj5=>PS j5 (ab_ e (0+1)) (.ii c0) λI=>(∃c1 c2,I.cell? (ab_ e 0)=some (.ii c1)/\I.cell? (ab_ e (0+1))=some (.ii c2)/\rt s ((.tuple #[.bool true,.agg #[.ii c1,.ii c2]])) I)))) ((∃G:Nat->Nat->Nat->Nat->World->Prop,((∀g,bd b8 g->∃h:Nat->Prop,(dr d λc3 j6=>(¬h c3/\(rS g (ad c3 j6) λj7 j8 q4=>(¬h b.heap.size/\(rI g (ab_ b (0+4)) λc4=>(ix_ j7 c4 j8 λc5 j9=>(¬h c5/\(rS g (ad c5 (j9+Int.toNat c4)) λc6 c7 c8=>(¬h b.heap.size/\(rI g (ab_ b (0+4)) λc9=>(¬h b.heap.size/\(rI g (ab_ b (0+5)) λd0=>(¬h b.heap.size/\(rI g (ab_ b (0+6)) λd1=>((PA g (.cells #[.slice none 0 0] 118) λu=>(ak h g u/\PA u (.cells #[.ii 0,.ii 0,.ii 0] 350) λJ=>(ak h u J/\PS J (ab_ g 0) (.slice c6 c7 c8) λK=>(ak h J K/\St 350 (ab_ u 0) (.agg #[.ii c9,.ii d0,.ii d1]) K λd2=>(ak h K d2/\G g.heap.size 0 u.heap.size 0 d2)))))/\(PA g (.cells #[.ii 0,.ii 0,.ii 0] 350) λv=>(ak h g v/\PA v (.cells #[.slice none 0 0] 118) λL=>(ak h v L/\PS L (ab_ v 0) (.slice c6 c7 c8) λM=>(ak h L M/\St 350 (ab_ g 0) (.agg #[.ii c9,.ii d0,.ii d1]) M λd3=>(ak h M d3/\G v.heap.size 0 g.heap.size 0 d3))))))))))))))))))))))/\∀(w:Nat) (x:Nat) (k:Nat) (n:Nat) (q5:Nat->Value) (q:World),G w x k n q->(dr d λk1 k2=>(rM q (ad k1 (k2+4)) λk3=>(Ld 350 (ad k n) q λk4=>(∃d4 N k5,(∀a8,(Instr.lookup 264 (.map k3) k4 false).run XP (q.drewN a8)= .ok (.slice d4 N k5) (q.drewN a8))/\(∀d5,bd q d5->(∃O:Nat->Int->World->Prop,(∃C,O C 0 d5)/\∀(C:Nat) (y:Int) (q6:Nat->Value) (m:World),O C y m->al (decide (y<(N:Int))) ((ix_ d4 y N λk6 k7=>(Ld 63 (ad k6 (k7+Int.toNat y*10)) m λk8=>PA m (.cells #[.ii 0,.ii 0,.ii 0,.slice none 0 0,.ii 0,.ii 0,.ii 0,.ii 0,.ii 0,.ii 0] 63) λk9=>St 63 (ab_ m 0) k8 k9 λl0=>(∀o,bd l0 o->(rS o (ad w x) λl1 l2 q7=>(rI o (ab_ b (0+6)) λd6=>(ix_ l1 d6 l2 λl3 l4=>(Ld 121 (ad l3 (l4+Int.toNat d6*4)) o λl5=>(Ld 63 (ab_ m 0) o λl6=>(Ld 63 (ab_ b 0) o λl7=>PC_ 251 #[l5,l6,l7] o (kB λl8 d7=>al l8 ((∀E,bd d7 E->(∃d8 d9,E.cell? (ab_ m 0)=some (.ii d8)/\E.cell? (ab_ m (0+1))=some (.ii d9)/\PS E (ab_ e 0) (.ii d8) λl9=>PS l9 (ab_ e (0+1)) (.ii d9) λP=>(∃e0 e1,P.cell? (ab_ e 0)=some (.ii e0)/\P.cell? (ab_ e (0+1))=some (.ii e1)/\rt s ((.tuple #[.bool true,.agg #[.ii e0,.ii e1]])) P)))) ((∃e2,e2<C/\O e2 (IntKind.wrap .i64 (y+1)) d7))) (pZ s))))))))))) ((∀i,bd m i->∃z:Nat->Prop,(dr d λe6 m0=>(¬z e6/\(rM i (ad e6 (m0+3)) λm1=>(¬z k/\(∃f0 f1,i.cell? (ad k n)=some (.ii f0)/\i.cell? (ad k (n+1))=some (.ii f1)/\(∃f2 f3 f4 f5 f6,(∀Q,ak z i Q->(Instr.lookup 263 (.map m1) (.agg #[.ii f0,.ii f1]) true).run XP Q= .ok (.tuple #[.agg #[.ii f2,.slice f3 f4 f5],.bool f6]) Q)/\PA i (.cells #[.ii 0,.slice none 0 0] 49) λR=>(ak z i R/\PS R (ab_ i 0) (.ii f2) λm2=>PS m2 (ab_ i (0+1)) (.slice f3 f4 f5) λF=>(ak z R F/\(∃S:World->Prop,(al (!f6) ((rS F (ad w x) λm3 m4 m5=>PC_ 128 #[.agg #[.slice m3 m4 m5]] F (kS_ λm6 m7 m8 m9=>PS m9 (ab_ i (0+1)) (.slice m6 m7 m8) λn0=>S n0) (pE s))) (S F))/\∀(q8:Nat->Value) (p:World),S p->(rS p (ad w x) λn1 n2 n3=>(rS p (ab_ i (0+1)) λn4 n5 n6=>(rI p (ab_ b (0+6)) λn7=>(rI p (ab_ b (0+7)) λn8=>(rI p (ab_ b (0+8)) λn9=>PC_ 131 #[.agg #[.slice n1 n2 n3],.slice n4 n5 n6,.ii n7,.ii n8,.ii n9] p (kI_ λo0 f7=>al (o0 !=0) ((∀D,bd f7 D->(∃f8 f9,D.cell? (ab_ e 0)=some (.ii f8)/\D.cell? (ab_ e (0+1))=some (.ii f9)/\PS D (ab_ e 0) (.ii f8) λo1=>PS o1 (ab_ e (0+1)) (.ii f9) λT=>(∃g0 g1,T.cell? (ab_ e 0)=some (.ii g0)/\T.cell? (ab_ e (0+1))=some (.ii g1)/\rt s ((.tuple #[.bool true,.agg #[.ii g0,.ii g1]])) T)))) ((∀j,bd f7 j->∃A:Nat->Prop,(dr d λg2 o2=>(¬A g2/\(rM j (ad g2 (o2+3)) λo3=>(¬A k/\(∃g3 g4,j.cell? (ad k n)=some (.ii g3)/\j.cell? (ad k (n+1))=some (.ii g4)/\(¬A i.heap.size/\(rI j (ab_ i 0) λo4=>(rS j (ad w x) λo5 o6 o7=>(rS j (ab_ i (0+1)) λo8 o9 p0=>(rI j (ab_ b (0+6)) λp1=>(rI j (ab_ b (0+7)) λp2=>(rI j (ab_ b (0+8)) λp3=>PC_ 252 #[.agg #[.slice o5 o6 o7],.slice o8 o9 p0,.ii p1,.ii p2,.ii p3] j (kS_ λp4 p5 p6 U=>(ak A j U/\iX XP (Instr.mapUpdate 263 (.map o3) (.agg #[.ii g3,.ii g4]) (.agg #[.ii (IntKind.wrap .i64 (o4+1)),.slice p4 p5 p6])) U (λg5=>(ak A U g5/\(∀f,bd g5 f->∃t:Nat->Prop,(dr d λg6 p7=>(¬t g6/\(rM f (ad g6 (p7+4)) λg7=>(¬t k/\(Ld 350 (ad k n) f λp8=>(∃g8 g9 h0 h1 h2 h3 h4 h5 h6 h7 h8 h9,f.cell? (ab_ b 0)=some (.ii g8)/\f.cell? (ab_ b (0+1))=some (.ii g9)/\f.cell? (ab_ b (0+2))=some (.ii h0)/\f.cell? (ab_ b (0+3))=some (.slice h1 h2 h3)/\f.cell? (ab_ b (0+4))=some (.ii h4)/\f.cell? (ab_ b (0+5))=some (.ii h5)/\f.cell? (ab_ b (0+6))=some (.ii h6)/\f.cell? (ab_ b (0+7))=some (.ii h7)/\f.cell? (ab_ b (0+8))=some (.ii h8)/\f.cell? (ab_ b (0+9))=some (.ii h9)/\PA f (.cells #[.ii g8,.ii g9,.ii h0,.slice h1 h2 h3,.ii h4,.ii h5,.ii h6,.ii h7,.ii h8,.ii h9] 63) λV=>(ak t f V/\PR_ (Instr.mapEntry 264 (.map g7) p8) V (λp9 W=>∃i0 i1 i2 i3,p9= .tuple #[.slice i0 i1 i2,.ii i3]/\(ak t V W/\PR_ (ap_ 59 (.slice i0 i1 i2) (.slice (some (ab_ f 0)) 1 1)) W (kS_ λq0 q1 q2 X=>(ak t W X/\iX XP (Instr.entryStore 264 (.map g7) (.ii i3) (.slice q0 q1 q2)) X (λi4=>(ak t X i4/\(∀H,bd i4 H->(∃i5 i6,H.cell? (ab_ e 0)=some (.ii i5)/\H.cell? (ab_ e (0+1))=some (.ii i6)/\PS H (ab_ e 0) (.ii i5) λq3=>PS q3 (ab_ e (0+1)) (.ii i6) λY=>(∃i7 i8,Y.cell? (ab_ e 0)=some (.ii i7)/\Y.cell? (ab_ e (0+1))=some (.ii i8)/\rt s ((.tuple #[.bool false,.agg #[.ii i7,.ii i8]])) Y))))) (pY s))) (pY s))) (pY s))))))))))) (pY s))) (pZ s)))))))))))))))) (pE s)))))))))))))))))))))))))) (pZ s))))))))):Calls XP 199 #[.pointer d,.agg #[.ii Z,.ii a0,.ii a1,.slice r a c,.ii a2,.ii a3,.ii a4,.ii a5,.ii a6,.ii a7]] b s:=DC wF Tryz.func199 rfl a9
def iK:ft:=⟨[(3,[(7,XH 0),(8,XH 0)])],[],[],[],[]⟩
def iF(n:(∃k:Nat->Int->Int->World->Prop,(∃i,k i 0 (a:Int) b)/\∀(i:Nat) (f:Int) (g:Int) (C:Nat->Value) (h:World),k i f g h->al (decide (f<g)) ((dr d λo p=>(0:Int)<=(IntKind.wrap .i64 (gw .u64 (IntKind.wrap .u64 (IntKind.wrap .i64 (f+g))) 1))/\(IntKind.wrap .i64 (gw .u64 (IntKind.wrap .u64 (IntKind.wrap .i64 (f+g))) 1))<(a:Int)/\(rI h (ad o (p+Int.toNat (IntKind.wrap .i64 (gw .u64 (IntKind.wrap .u64 (IntKind.wrap .i64 (f+g))) 1)))) λq=>PC_ 337 #[.ii q,.ii e] h (kB λr l=>al r ((∃j,j<i/\k j (IntKind.wrap .i64 ((IntKind.wrap .i64 (gw .u64 (IntKind.wrap .u64 (IntKind.wrap .i64 (f+g))) 1))+1)) g l)) ((∃j,j<i/\k j f (IntKind.wrap .i64 (gw .u64 (IntKind.wrap .u64 (IntKind.wrap .i64 (f+g))) 1)) l))) (pE s)))) (al (decide (f<(a:Int))) ((ix_ d f a λt u=>(rI h (ad t (u+Int.toNat f)) λv=>al (v==e) (rt s ((.tuple #[.ii f,.bool true])) h) ((ix_ d f a λw x=>(rI h (ad w (x+Int.toNat f)) λy=>PC_ 341 #[.ii y] h (kB λz m=>al z (PC_ 341 #[.ii e] m (kB λA B=>rt s ((.tuple #[.ii f,.bool A])) B) (pE s)) (rt s ((.tuple #[.ii f,.bool false])) m)) (pE s))))))) (rt s ((.tuple #[.ii f,.bool false])) h)))):Calls XP 311 #[.slice d a c,.ii e] b s:=DC iK Tryz.func311 rfl n
def lL:ft:=⟨[],[(3,[])],[],[],[]⟩
def lM(n:(∃h:World->Prop,(al (decide ((e:Int)<0)) (aG XP (Instr.panic (.iface 9 (.string (⟨#[99,97,110,110,111,116,32,98,101,32,110,101,103,97,116,105,118,101]⟩:ByteArray)))) b (λw o=>
   h o) (λf b=>s (.panicked [{v:=f,recovered:=false}]) b)) (h b))/\∀(x:Nat->Value) (k:World),h k->aG XP (Builtin.cap_ #[237] 3 #[.slice d a c]) k (λp l=>
   ∃(i:Int),p= XH i/\al (decide (((IntKind.wrap .i64 (e-(IntKind.wrap .i64 (i-((a:Nat):Int))))):Int)>0)) (aG XP (Builtin.cap_ #[237] 3 #[.slice d a c]) l (λq r=>
   ∃(g:Int),q= XH g/\((0:Int)<=g/\(g:Int)<=((c:Nat):Int)/\aG XP (Builtin.append_ #[237,3] 237 #[.slice d (Int.toNat g) c,XH (IntKind.wrap .i64 (e-(IntKind.wrap .i64 (i-((a:Nat):Int)))))]) r (λt u=>
   ∃(m:Option Addr) (v:Nat) (j:Nat),t= .slice m v j/\((0:Int)<=((a:Nat):Int)/\(((a:Nat):Int):Int)<=((j:Nat):Int)/\
   s (.returned (.slice m (Int.toNat ((a:Nat):Int)) j)) u)) (λf b=>s (.panicked [{v:=f,recovered:=false}]) b))) (λf b=>s (.panicked [{v:=f,recovered:=false}]) b)) (s (.returned (.slice d a c)) l)) (λf b=>
   s (.panicked [{v:=f,recovered:=false}]) b))):
  Calls XP 328 #[.slice d a c,XH e] b s:=
 fu lL mixed Tryz.func328 rfl (Nat.le_of_ble_eq_true kR) kR (Eq.mp kR n)
def j_:ft:=⟨[(3,[(3,XH 0),(11,XH 0)]),(11,[(6,.slice none 0 0),(27,XH 0)])],[],[],[],[]⟩
def ke(K:(∃n:Nat->Int->Int->World->Prop,(∃j,n j 0 0 b)/\∀(j:Nat) (k:Int) (h:Int) (T:Nat->Value) (l:World),n j k h l->al (decide ((h:Int)<((a:Nat):Int))) ((∃u v,d=some ⟨u,v,none⟩/\
   (0:Int)<=h/\h<((a:Nat):Int)/\(∃(L:Option Addr) (o:Nat) (M:Nat),l.cell? ⟨u,v+Int.toNat h,none⟩=some (.slice L o M)/\
   al (decide (((IntKind.wrap .i64 (k+((o:Nat):Int))):Int)<0)) (aG XP (Instr.panic (.iface 9 (.string (⟨#[108,101,110,32,111,117,116,32,111,102,32,114,97,110,103,101]⟩:ByteArray)))) l (λU N=>
   (∃m,m<j/\n m (IntKind.wrap .i64 (k+((o:Nat):Int))) (IntKind.wrap .i64 (h+1)) N)) (λr b=>s (.panicked [{v:=r,recovered:=false}]) b)) ((∃m,m<j/\
   n m (IntKind.wrap .i64 (k+((o:Nat):Int))) (IntKind.wrap .i64 (h+1)) l))))) (PC XP 328 #[.slice none 0 0,XH k] l (λO P=>
   ∃(w:Option Addr) (x:Nat) (y:Nat),O= .slice w x y/\(∃t:Nat->Option Addr->Nat->Nat->Int->World->Prop,(∃p,t p w x y 0 P)/\
   ∀(p:Nat) (e:Option Addr) (f:Nat) (g:Nat) (i:Int) (V:Nat->Value) (q:World),t p e f g i q->al (decide ((i:Int)<((a:Nat):Int))) ((∃z A,d=some ⟨z,A,none⟩/\
   (0:Int)<=i/\i<((a:Nat):Int)/\(∃(B:Option Addr) (C:Nat) (E:Nat),q.cell? ⟨z,A+Int.toNat i,none⟩=some (.slice B C E)/\
   aG XP (Builtin.append_ #[237,237] 237 #[.slice e f g,.slice B C E]) q (λQ R=>∃(F:Option Addr) (H:Nat) (I:Nat),Q= .slice F H I/\
   (∃J,J<p/\t J F H I (IntKind.wrap .i64 (i+1)) R)) (λr b=>s (.panicked [{v:=r,recovered:=false}]) b)))) (s (.returned (.slice e f g)) q))) (λS b=>
   s (.panicked S) b)))):
  Calls XP 294 #[.slice d a c] b s:=
 fu j_ mixed Tryz.func294 rfl (Nat.le_of_ble_eq_true kR) kR (Eq.mp kR K)
def oZ:ft:=⟨[(8,[(6,.int .u64 0),(37,XH 0)])],[(4,[]),(6,[])],[],[],[]⟩
def o_(u:PC_ 288 #[.pointer d,.ii 1] b (kS_ λv w J h=>(ix_ v 0 w λx y=>(∃a,h.cell? (ad x (y+Int.toNat 0))=some (.int .u8 a)/\(∃i:World->Prop,(al (decide (((IntKind.wrap .i64 (lf .u8 a 16)):Int)<=8)) (PC_ 287 #[.bool (a !=16),.ii 5] h (k0_ λz=>i z) (pE s)) (PC_ 287 #[.bool false,.ii 5] h (k0_ λA=>i A) (pE s)))/\∀(K:Nat->Value) (n:World),i n->PC_ 288 #[.pointer d,.ii (IntKind.wrap .i64 (lf .u8 a 16))] n (kS_ λo j L k=>(∃l:World->Prop,(al (((IntKind.wrap .i64 (lf .u8 a 16)):Int)==0) (PC_ 287 #[.bool true,.ii 5] k (k0_ λB=>l B) (pE s)) ((ix_ o 0 j λC E=>(∃p,k.cell? (ad C (E+Int.toNat 0))=some (.int .u8 p)/\PC_ 287 #[.bool (p !=0),.ii 5] k (k0_ λD=>l D) (pE s)))))/\∀(M:Nat->Value) (q:World),l q->(∃m:Nat->Int->Int->World->Prop,(∃g,m g 0 0 q)/\∀(g:Nat) (c:Int) (e:Int) (N:Nat->Value) (f:World),m g c e f->al (decide (e<(j:Int))) ((ix_ o e j λF H=>(∃r,f.cell? (ad F (H+Int.toNat e))=some (.int .u8 r)/\(∃t,t<g/\m t (Oe .u64 (Ht .u64 c 8) (IntKind.wrap .u64 r)) (IntKind.wrap .i64 (e+1)) f)))) (al (((Ai .u8 a 16):Int)==0) (PC_ 287 #[.bool (decide (c<9223372036854775808)),.ii 5] f (k0_ λG=>rt s ((.ii (IntKind.wrap .i64 c))) G) (pE s)) (PC_ 287 #[.bool (decide (c<=9223372036854775808)),.ii 5] f (k0_ λI=>rt s ((.ii (IntKind.wrap .i64 (IntKind.wrap .u64 (0-c))))) I) (pE s)))))) (pE s))))) (pE s)):Calls XP 230 #[.pointer d] b s:=DC oZ Tryz.func230 rfl u
end Go.Proofs.YtjgjkeponbeekaaGreatDoor
namespace Go.ar
open Go
abbrev ai(a b:World):Prop:=ak (λ_=>False) a b
variable{d2:Addr}{e3:Array MapEntry}{n:Array Value}{z:FuncId}{e:Int}{t:List Int}{a0:List PanicEntry->World->Prop}{C a c i k:Nat}{a3 f:Nat->Prop}{E:Nat×Nat}{c9:Obj}{R W:Operand}{d:Option Addr}{d0:Option Nat}{h:Program}{B g q:TypeId}{p u:Value->World->Prop}{b b3 l:World}{y:World->Prop}
def ak.refl(a:World):ak f a a:=⟨rfl,rfl,rfl,Q4 _,λ_ _ _=>rfl⟩
def ak.trans{f h i:Nat->Prop}(c:ak h b l)(a:ak i l b3)(k:∀a,a<b.heap.size->h a->f a)(m:∀a,a<b.heap.size->i a->f a):ak f b b3:=
 ⟨a.os.trans c.os,a.tape.trans c.tape,a.output.trans c.output,Xx c.size a.size,λd e j=>
  (a.block d (Qk e c.size) (λg=>j (m d e g))).trans (c.block d e (λg=>j (k d e g)))⟩
def ak.mono(c:ak f b l)(e:∀a,a<b.heap.size->f a->a3 a):ak a3 b l:=
 ⟨c.os,c.tape,c.output,c.size,λa d g=>c.block a d λh=>g (e a d h)⟩
def ak.then(a:ak f b l)(c:ak f l b3):ak f b b3:=a.trans c (λ_ _ a=>a) (λ_ _ a=>a)
def ak.new(c:ak f b l)(a:ak a3 l b3)(d:∀a,a3 a->f a\/b.heap.size<=a):ak f b b3:=
 c.trans a (λ_ _ c=>c) (λe h g=>(d e g).resolve_right oM)
def ak.ah(a:ak f b l)(c:ai l b3):ak f b b3:=a.trans c (λ_ _ a=>a) (λ_ _ a=>a.elim)
def ai.af{S:Nat->Prop}(a:ai b l):ak S b l:=a.mono λ_ _ a=>a.elim
def ak.alloc(a:World)(b:Obj):ak f a (a.alloc b):=
 ⟨rfl,rfl,rfl,sM,λc d _=>heap_alloc_old a b c d⟩
def ak.drewN{S:Nat->Prop}(a:World)(b:Nat):ak S a (a.drewN b):=⟨rfl,rfl,rfl,Q4 _,λ_ _ _=>rfl⟩
def bd.af{S:Nat->Prop}(a:bd b l):ak S b l:=by obtain⟨c,rfl⟩:=a;exact ak.drewN b c
def bd.heap(a:bd b l):l.heap=b.heap:=by obtain⟨c,rfl⟩:=a;rfl
def ak.setCell(a:World)(b:Addr)(c:Value)(d:f b.block):ak f a (a.setCell b c):=
 ⟨rfl,rfl,rfl,by simp[World.setCell],λg _ e=>by
  simp only[World.setCell,Array.getElem?_modify];rw[if_neg (by rintro rfl;exact e d)]⟩
def ak.below(a:ai b l):RowKit.Below b.heap.size b l:=⟨a.os,a.tape,a.output,a.size,λc d=>a.block c d (λa=>a)⟩
def ak.GF(a:RowKit.Below b.heap.size b l):ai b l:=⟨a.os,a.tape,a.output,a.size,λc d _=>a.block c d⟩
def ak.of_grownBy(a:b.grownBy l d0):ak (λc=>some c=d0) b l:=⟨a.os,a.tape,a.output,a.size,λc d e=>a.block c d e⟩
def ak.cell(c:ak f b l){a:Addr}(d:a.block<b.heap.size)(j:¬f a.block):l.cell? a=b.cell? a:=
 World.cell?_of_block (w:=b) (c.block a.block d j)
def ak.get(d:ak f b l)(c:b.heap[a]? =some c9)(e:¬f a):l.heap[a]? =some c9:=by
 rw[d.block a (Q5.1 c).1 e];exact c
def ax(c:b.heap[a]? =some c9):a<b.heap.size:=(Q5.1 c).1
def ae{cs:Array Value}(c:b.heap[a]? =some (Obj.cells cs g E)){off:Nat}{v:Value}(d:cs[off]? =some v):
  b.cell? ⟨a,off,none⟩=some v:=by simp[World.cell?,c,d]
def PA.mk(c:∀a,ai b a->a.heap.size=b.heap.size+1->a.heap[b.heap.size]? =some c9->y a):PA b c9 y:=
 c (b.alloc c9) (ak.alloc b c9) sM (heap_alloc_new b c9)
def PS.mk{v:Value}{cs:Array Value}(e:b.heap[a]? =some (.cells cs g (0,0)))(f:c<cs.size)(h:∀d,ak (·=a) b d->d.heap.size=b.heap.size->d.heap[a]? =some (.cells (cs.setIfInBounds c v) g (0,0))->y d):PS b ⟨a,c,none⟩ v y:=by
 refine⟨⟨cs[c],ae e (by simp[f])⟩,by simp[World.frozen?,e],h _ (ak.setCell b _ v rfl) (by simp[World.setCell]) ?_⟩;simp[World.setCell,Array.getElem?_modify,e]
def Ok(b:Value->World->Prop):Ending->World->Prop:=λc d=>∃a,c= .returned a/\b a d
def Ok.mk{v:Value}(a:p v b):Ok p (.returned v) b:=⟨v,rfl,a⟩
def PC.ok{φ d:Value->World->Prop}(e:Calls h z n b (Ok φ))(f:∀a c,φ a c->d a c):PC h z n b d a0:=
 e.mono λj c ⟨a,g,i⟩=>by subst g;exact f a c i
def Calls.ok{φ d:Value->World->Prop}(e:Calls h z n b (Ok φ))(f:∀a c,φ a c->d a c):Calls h z n b (Ok d):=
 e.mono λj c ⟨a,g,i⟩=>⟨a,g,f a c i⟩
def aH(a:Int):Prop:= -9223372036854775808<=a/\a<=9223372036854775807
def wrap_i64{x:Int}(a:aH x):IntKind.wrap .i64 x=x:=by
 unfold aH at a;unfold IntKind.wrap;simp[IntKind.signed,IntKind.bits];omega
def aK:Nat:=140737488355328
structure Ints (w:World) (a:Option Addr) (n:Nat) (xs:List Int):Prop where
 len:n=xs.length
 dN:n*8<=aK
 To:∀x∈xs,aH x
 cell:∀(i:Nat) x,xs[i]? =some x->∃b off,a=some ⟨b,off,none⟩/\b<w.heap.size/\w.cell? ⟨b,off+i,none⟩=some (XH x)
def ou(b:Nat->Prop)(c:Option Addr):Prop:=∀a,c=some a->¬b a.block
def ou.none:ou f Option.none:=λ_ a=>by cases a
def Ints.af{S:Nat->Prop}{a:Option Addr}{f:Nat}(d:Ints b a f t)(g:ak S b l)(j:ou S a):Ints l a f t:=
 ⟨d.len,d.dN,d.To,λh k m=>by
  obtain⟨e,c,rfl,i,n⟩:=d.cell h k m;exact⟨e,c,rfl,Qk i g.size,(g.cell (a:=⟨e,c+h,none⟩) i (j ⟨e,c,none⟩ rfl)).trans n⟩⟩
def Ints.ah(c:Ints b d a t)(e:ai b l):Ints l d a t:=c.af e λ_ _ c=>c
def Ints.nil(a:World):Ints a none 0 []:=⟨rfl,by simp[aK],sM,λc d b=>by simp at b⟩
def Ints.at(f:Ints b d a t){i:Int}(l:0<=i)(m:i<(a:Int)):
  ∃e c x,d=some ⟨e,c,none⟩/\e<b.heap.size/\t[i.toNat]? =some x/\aH x/\b.cell? ⟨e,c+i.toNat,none⟩=some (XH x):=by
 have n:=f.len;have g:i.toNat<t.length:=oM
 obtain⟨e,c,h,j,k⟩:=f.cell i.toNat t[i.toNat] (by simp[g]);exact⟨e,c,_,h,j,by simp[g],f.To _ (XY g),k⟩
def aF:Option Addr->Option Nat
 |none=>none
 |some a=>some a.block
def Ints.GG(c:Ints b d a t)(g:ak f b l)(h:t≠[]->ou f d):Ints l d a t:=by
 by_cases e:t=[]
 ·subst e;exact⟨c.len,c.dN,c.To,λj k i=>by simp at i⟩
 ·exact c.af g (h e)
def cT:ou f d↔∀a,aF d=some a->¬f a:=by
 cases d with
 |none=>simp[ou,aF]
 |some d=>simp[ou,aF]
structure Own (w:World) (e:TypeId) (k:Nat) (a:Option Addr) (n c:Nat) (cs:List Value):Prop where
 row:w.ownsRow 0 e k (.slice a n c) n cs
def Own.nil(a:World)(e:TypeId)(b:Nat):Own a e b none 0 0 []:=⟨World.ownsRow_nil a 0 e b⟩
def Own.length{cs:List Value}(e:Own b g a d c i cs):cs.length=c*a:=e.row.1
def Own.cases{cs:List Value}(j:Own b g a d c i cs):
  (d=none/\c=0/\i=0/\cs=[])\/
  ∃h e,d=ZX h/\b.heap[h]? =some (.cells e g (0,0))/\c<=i/\e.size=i*a/\e.toList.take (c*a)=cs:=by
 rcases j.row.2 with⟨f,p⟩|⟨h,k,e,f,_,l,m,_,n,o⟩
 ·simp only[XX]at f
  obtain⟨rfl,rfl,rfl⟩:=f;exact .inl ⟨rfl,rfl,rfl,QW (by simpa using j.row.1)⟩
 ·simp only[XX]at f
  obtain⟨rfl,-,rfl⟩:=f;exact .inr ⟨h,e,rfl,l,m,n,o⟩
def Own.af{S:Nat->Prop}{cs:List Value}(k:Own b g a d c i cs)(m:ak S b l)(n:ou S d):Own l g a d c i cs:=by
 refine⟨⟨k.row.1,?_⟩⟩;rcases k.row.2 with o|⟨p,f,h,j,q,r,e⟩
 ·exact .inl o
 ·refine .inr ⟨p,f,h,j,q,m.get r ?_,e⟩
  simp only[XX]at j;exact n _ j.1
def Own.ah{cs:List Value}(e:Own b g a d c i cs)(f:ai b l):Own l g a d c i cs:=e.af f λ_ _ e=>e
def Own.lt{cs:List Value}(f:Own b g a d c i cs)(e:aF d=some k):k<b.heap.size:=by
 rcases f.cases with⟨rfl,_⟩|⟨l,h,rfl,j,_⟩
 ·cases e
 ·simp only[aF,Q1]at e
  subst e;exact ax j
def Own.cell{d:World}{f:TypeId}{g:Nat}{a:Option Addr}{h i:Nat}{cs:List Value}(k:Own d f g a h i cs){j:Nat}{u:Value}(b:cs[j]? =some u):
  ∃c,a=ZX c/\c<d.heap.size/\d.cell? ⟨c,j,none⟩=some u:=by
 rcases k.cases with⟨_,_,_,rfl⟩|⟨c,l,rfl,e,_,_,m⟩
 ·simp at b
 ·refine⟨c,rfl,ax e,ae e ?_⟩
  rw[<-m,Xw]at b;split at b
  ·simpa using b
  ·cases b
def Own.zz{cur:Array Value}(e:b.heap[c]? =some (.cells cur g (0,0)))(d:cur.size=i*a)(f:i<=maxLen):
  Own b g a (ZX c) i i cur.toList:=
 ⟨⟨by simpa using d,.inr ⟨c,i,cur,rfl,Qj _,e,Q4 _,f,d,by rw[Qz];simp[d]⟩⟩⟩
structure jC (P:Program) (t e:TypeId) (k bytes:Nat):Prop where
 under:P.underlying t=some (.slice e)
 row:(P.info? e).map (λi=>(i.zero.map λz=>z.cells.size,i.size,i.bytes))=some (some k,k,bytes)
 pos:0<k
def jC.info{d:Program}{i e:TypeId}{f bytes:Nat}(j:jC d i e f bytes):∃b c,d.info? e=some b/\b.zero=some c/\b.size=f/\b.bytes=bytes/\c.cells.size=f:=by
 have a:=j.row
 cases h:d.info? e with
 |none=>rw[h]at a;cases a
 |some b=>
  rw[h]at a;simp only[Option.map_some,Q1,Prod.mk.injEq]at a
  cases g:b.zero with
  |none=>rw[g]at a;cases a.1
  |some c=>
   rw[g]at a;exact⟨b,c,rfl,g,a.2.1,a.2.2,by simpa using a.1⟩
def Ll{P:Program}{h bytes:Nat}(n:jC P g q h bytes){o news:List Value}(x:Own b q h d a c o)(y:∀l m,news[l]? =some m->b.cell? (d2.add l)=some m)(z:news.length=i*h)(A:∀m∈news,m.oneCell'=true)(C:(a+i)*bytes<=aK)(E:a+i<=maxLen)(F:∀e f j,Own j q h e (a+i) f (o++news)->ak (λl=>some l=aF d) b j->(aF e=aF d\/aF e=some b.heap.size)->p (.slice e (a+i) f) j):
  aG P (Builtin.append_ #[g,g] B #[.slice d a c,.slice (some d2) i k]) b p u:=by
 obtain⟨H,I,J,K,L,M,N⟩:=jC.info n;obtain⟨O,j,Q,r,s,U,t⟩:=run_append_own_at (P:=P) b 0 g B q H I h bytes n.under J K L M N n.pos (.slice d a c) a o x.row
  d2 i k news z y A E C (Qj _)
 have R:∀(d:Option Addr) a c,(Value.slice d a c).ownBlock=aF d:=λd a c=>by cases d<;>rfl
 have S:∃e f,O= .slice e (a+i) f:=by
  rcases r.2 with⟨rfl,T⟩|⟨V,v,w,rfl,_⟩
  ·exact⟨none,0,by rw[T]⟩
  ·exact⟨_,_,rfl⟩
 obtain⟨e,f,rfl⟩:=S;simp only[R]at s t;exact aG.mk Q (F e f j ⟨r⟩ (ak.of_grownBy s) t)
def yT{e bytes:Nat}(t:jC h g q e bytes){m news:List Value}(v:Own b q e d a c m)(w:b.heap[i]? =some (.cells n q E))(x:n.toList.take (k*e)=news)(y:news.length=k*e)(z:∀o∈news,o.oneCell'=true)(A:(a+k)*bytes<=aK)(F:a+k<=maxLen)(H:∀f r l,Own l q e f (a+k) r (m++news)->ak (λs=>some s=aF d) b l->(aF f=aF d\/aF f=some b.heap.size)->p (.slice f (a+k) r) l):
  aG h (Builtin.append_ #[g,g] B #[.slice d a c,.slice (ZX i) k C]) b p u:=by
 exact Ll t v (λs o j=>by
   rw[Addr.add_lit,Xz];refine ae w ?_;rw[<-x,Xw]at j;split at j
   ·simpa using j
   ·cases j) y z A F H
def ints(a:List Int):List Value:=a.map (Value.int .i64)
def iQ(a:List Int):(ints a).length=a.length:=by simp[ints]
def Own.ints(f:Own b g 1 d a c (ints t))(i:a*8<=aK)(j:∀e∈t,aH e):Ints b d a t:=by
 have h:=f.length;rw[iQ,Nat.mul_one]at h;refine⟨h.symm,i,j,λk e l=>?_⟩;obtain⟨m,n,o,p⟩:=f.cell (j:=k) (u:=XH e) (by simp[ar.ints,l]);exact⟨m,0,n,o,by rw[Xz];exact p⟩
def Lm(m:jC h g q 1 8)(n:Own b q 1 d a c (ints t))(o:b.heap[i]? =some (.cells #[XH e] q (0,0)))(l:(a+1)*8<=aK)(r:∀f k j,Own j q 1 f (a+1) k (ints (t++[e]))->ak (λs=>some s=aF d) b j->(aF f=aF d\/aF f=some b.heap.size)->p (.slice f (a+1) k) j):
  aG h (Builtin.append_ #[g,g] B #[.slice d a c,.slice (ZX i) 1 1]) b p u:=
 yT m (news:=[XH e]) n o sM sM (by simp[Value.oneCell']) l (by unfold aK at l;unfold maxLen;omega)
  λf k j v w x=>r f k j (by simpa[ints]using v) w x
def BW(c:h.underlying g=some (.slice q))(d:Nat)(a:Option Addr)(e f:Nat)(b:World):
  (Op.equalIn (d+1) g (.slice a e f) (.slice none 0 0)).run h b= .ok a.isNone b:=by
 cases a<;>simp[Op.equalIn,run_underlying c]
def xi(c:h.underlying g=some (.pointer q))(d:Nat)(a:Option Addr)(b:World):
  (Op.equalIn (d+1) g (.pointer a) (.pointer none)).run h b= .ok a.isNone b:=by
 cases a<;>simp[Op.equalIn,run_underlying c]
def jJ(e:h.underlying g=some (.slice q))(f:p (.bool d.isNone) b):
  aG h (do eqGuard .eql g R W (.slice d a c) (.slice none 0 0);binOp .eql g (.slice d a c) (.slice none 0 0)) b p u:=by
 refine aG.mk (v:=.bool d.isNone) ?_ f;have i:(do eqGuard .eql g R W (.slice d a c) (.slice none 0 0);binOp .eql g (.slice d a c) (.slice none 0 0):Sem Value).run h b=
  ((Op.equalIn (9999+1) g (.slice d a c) (.slice none 0 0))>>=λj=>(pure (Value.bool j):Sem Value)).run h b:=rfl
 rw[i,Sem.run_bind,BW e]
 rfl
def e_(a:h.underlying g=some (.pointer q))(c:p (.bool d.isNone) b):
  aG h (do eqGuard .eql g R W (.pointer d) (.pointer none);binOp .eql g (.pointer d) (.pointer none)) b p u:=by
 refine aG.mk (v:=.bool d.isNone) ?_ c;have e:(do eqGuard .eql g R W (.pointer d) (.pointer none);binOp .eql g (.pointer d) (.pointer none):Sem Value).run h b=
  ((Op.equalIn (9999+1) g (.pointer d) (.pointer none))>>=λf=>(pure (Value.bool f):Sem Value)).run h b:=rfl
 rw[e,Sem.run_bind,xi a]
 rfl
def pA(e:h.underlying g=some (.pointer q))(c d:Operand)(a:Option Addr)(b:World):
  (do eqGuard .neq g c d (.pointer a) (.pointer none);binOp .neq g (.pointer a) (.pointer none):Sem Value).run h b= .ok (.bool a.isSome) b:=by
 have f:(do eqGuard .neq g c d (.pointer a) (.pointer none);binOp .neq g (.pointer a) (.pointer none):Sem Value).run h b=
  ((Op.equalIn (9999+1) g (.pointer a) (.pointer none))>>=λi=>(pure (Value.bool !i):Sem Value)).run h b:=rfl
 rw[f,Sem.run_bind,xi e]
 cases a<;>rfl
def zB(a:h.underlying g=some (.pointer q))(c:p (.bool d.isSome) b):
  aG h (do eqGuard .neq g R W (.pointer d) (.pointer none);binOp .neq g (.pointer d) (.pointer none)) b p u:=aG.mk (pA a R W d b) c
def Own.Tp{cs:List Value}(h:Own b g a d c i cs)(f:b.heap[k]? =some (.map e3 C)):aF d≠some k:=by
 intro e;rcases h.cases with⟨rfl,_⟩|⟨m,j,rfl,l,_⟩
 ·cases e
 ·simp only[aF,Q1]at e
  subst e;rw[l]at f;cases f
structure bK (F:Nat->Prop) (w:World) (F':Nat->Prop) (w':World):Prop where
 af:ak F w w'
 new:∀b,F' b->F b\/w.heap.size<=b
def bK.refl(b:Nat->Prop)(a:World):bK b a b a:=⟨ak.refl a,λ_ c=>.inl c⟩
def bK.trans{d G e:Nat->Prop}{f g h:World}(a:bK d f G g)(i:bK G g e h):bK d f e h:=
 ⟨a.af.trans i.af (λ_ _ a=>a) (λb j k=>(a.new b k).resolve_right oM),λb j=>by
  rcases i.new b j with c|c
  ·exact a.new b c
  ·exact .inr (Xx a.af.size c)⟩
end Go.ar
namespace Go.ar
open Go
variable{d2:Addr}{I:Bool}{c4 w:ByteArray}{e m:Int}{a2:List Value}{a c i k:Nat}{f:Nat->Prop}{E:Nat×Nat}{d r:Option Addr}{h:Program}{L a5:Prop}{j:Type}{B g q:TypeId}{p u:Value->World->Prop}{b b3 l:World}
def al.dec[Decidable L]{b c:Prop}(d:L->b)(e:¬L->c):al (decide L) b c:=
 al.mk (λa=>d (XV a)) (λa=>e (Xy a))
def al.dB(b:e≠m->L)(c:e=m->a5):al (e !=m) L a5:=
 al.mk (λa=>b (by simpa using a)) (λa=>c (by simpa using a))
def al.dA(b:e=m->L)(c:e≠m->a5):al (e==m) L a5:=
 al.mk (λa=>b (by simpa using a)) (λa=>c (by simpa using a))
def al.not(a:al I a5 L):al (!I) L a5:=by cases I<;>exact a
def NC(b:w.toList=c4.toList):w=c4:=by
 have c:∀a:ByteArray,a.toList=a.data.toList:=λa=>ByteArray.toList_eq a;rw[c,c]at b;exact ByteArray.ext (Array.toList_inj.1 b)
def al.Wv(b:w=c4->L)(c:w≠c4->a5):al (ByteArray.toList w==ByteArray.toList c4) L a5:=
 al.mk (λa=>b (NC (by simpa using a))) (λa=>c (λd=>by subst d;simp at a))
def al.WX(a:w≠c4->L)(b:w=c4->a5):al (!(ByteArray.toList w==ByteArray.toList c4)) L a5:=(al.Wv b a).not
def aq(b:a<4611686018427387904):IntKind.wrap .i64 ((a:Int)+1)=((a+1:Nat):Int):=by
 rw[wrap_i64 (by unfold aH;omega)];simp
def bd.then(a:bd b l)(c:bd l b3):bd b b3:=by obtain⟨d,rfl⟩:=a;obtain⟨e,rfl⟩:=c;exact⟨d+e,sM⟩
def bd.refl(a:World):bd a a:=⟨0,rfl⟩
def DD{b c:List j}{d:j}(e:b.take a=c.take a)(f:b[a]? =some d)(g:c[a]? =some d):b.take (a+1)=c.take (a+1):=by
 rw[Qw,Qw,e,f,g]
structure jo (α:Type) where
 k:Nat
 rep:World->(Nat->Prop)->α->List Value->Prop
 af:∀{S D:Nat->Prop} {w w':World} {x:α} {cs:List Value},rep w D x cs->ak S w w'->(∀b,D b->¬S b)->rep w' D x cs
 mono:∀{D D':Nat->Prop} {w:World} {x:α} {cs:List Value},rep w D x cs->(∀b,D b->D' b)->rep w D' x cs
 len:∀{D:Nat->Prop} {w:World} {x:α} {cs:List Value},rep w D x cs->cs.length=k
 one:∀{D:Nat->Prop} {w:World} {x:α} {cs:List Value},rep w D x cs->∀u∈cs,u.oneCell'=true
def flat{d:Type}(e:Nat)(a:d->List Value)(f:d->Prop)(g:∀c,(a c).length=e)(h:∀c,∀i∈a c,i.oneCell'=true):jo d where
 k:=e
 rep:=λ_ _ c cs=>cs=a c/\f c
 af:=λb _ _=>b
 mono:=λb _=>b
 len:=λb=>by rw[b.1];exact g _
 one:=λb=>by rw[b.1];exact h _
def aJ:jo Int:=flat 1 (λa=>[XH a]) aH (λ_=>rfl) (λa c b=>by simp at b;subst b;rfl)
def fv:jo UInt8:=flat 1 (λa=>[.int .u8 a.toNat]) (λ_=>True) (λ_=>rfl) (λa c b=>by simp at b;subst b;rfl)
def MU:jo ByteArray:=flat 1 (λa=>[.string a]) (λ_=>True) (λ_=>rfl) (λa c b=>by simp at b;subst b;rfl)
structure Row {α:Type} (c:jo α) (bytes:Nat) (w:World) (D:Nat->Prop) (a:Option Addr) (n:Nat) (xs:List α):Prop where
 len:n=xs.length
 dN:n*bytes<=aK
 el:∀(i:Nat) x,xs[i]? =some x->∃b off es,a=some ⟨b,off,none⟩/\b<w.heap.size/\D b/\(∀j,j<c.k->w.cell? ⟨b,off+i*c.k+j,none⟩=es[j]?)/\c.rep w D x es
section
variable {α:Type} {c:jo α} {bytes:Nat} {w w':World} {D D' S:Nat->Prop} {a:Option Addr} {n:Nat} {xs:List α}
def Row.af(e:Row c bytes w D a n xs)(f:ak S w w')(g:∀b,D b->¬S b):Row c bytes w' D a n xs:=
 ⟨e.len,e.dN,λh l m=>by
  obtain⟨b,d,o,p,i,j,q,r⟩:=e.el h l m;exact⟨b,d,o,p,Qk i f.size,j,λk s=>(f.cell (a:=⟨b,d+h*c.k+k,none⟩) i (g b j)).trans (q k s),c.af r f g⟩⟩
def Row.ah(b:Row c bytes w D a n xs)(d:ai w w'):Row c bytes w' D a n xs:=b.af d λ_ _ b=>b
def Row.mono(d:Row c bytes w D a n xs)(f:∀b,D b->D' b):Row c bytes w D' a n xs:=
 ⟨d.len,d.dN,λg h i=>by
  obtain⟨b,e,j,k,l,m,o,p⟩:=d.el g h i;exact⟨b,e,j,k,l,f b m,o,c.mono p f⟩⟩
def Row.nil(w:World)(D:Nat->Prop):Row c bytes w D none 0 []:=⟨rfl,sM,λb d a=>by simp at a⟩
def Row.at(g:Row c bytes w D a n xs){i:Int}(p:0<=i)(q:i<(n:Int)):
  ∃d b x e,a=some ⟨d,b,none⟩/\d<w.heap.size/\D d/\xs[i.toNat]? =some x/\(∀f,f<c.k->w.cell? ⟨d,b+i.toNat*c.k+f,none⟩=e[f]?)/\c.rep w D x e:=by
 have r:=g.len;have h:i.toNat<xs.length:=oM
 obtain⟨d,b,e,j,k,l,m,o⟩:=g.el i.toNat xs[i.toNat] (by simp[h]);exact⟨d,b,_,e,j,k,l,by simp[h],m,o⟩
def Row.yV(h:Row c bytes w D a n xs){i:Nat}(j:i<n):
  ∃d b f g,a=some ⟨d,b,none⟩/\d<w.heap.size/\D d/\xs[i]? =some f/\(∀e,e<c.k->w.cell? ⟨d,b+i*c.k+e,none⟩=g[e]?)/\c.rep w D f g:=by
 have:=h.at (i:=(i:Int)) oM oM;simpa using this
end
def Row.l_{f:j->Value}{h:j->Prop}{hl h1}{bytes:Nat}{D:Nat->Prop}{k:List j}(l:Row (flat 1 (λe=>[f e]) h hl h1) bytes b D d a k){i:Nat}(m:i<a):
  ∃g c e,d=some ⟨g,c,none⟩/\k[i]? =some e/\h e/\b.cell? ⟨g,c+i,none⟩=some (f e):=by
 obtain⟨g,c,e,r,n,s,_,o,p,rfl,q⟩:=l.yV m;refine⟨g,c,e,n,o,q,?_⟩;have:=p 0 Nat.one_pos;simpa[flat]using this
def bu{a:Type}(b:jo a)(c:World)(D:Nat->Prop):List a->List Value->Prop
 |[],cs=>cs=[]
 |x::f,cs=>∃d e,cs=d++e/\b.rep c D x d/\bu b c D f e
section
variable {α:Type} {c:jo α} {w w':World} {D D' S:Nat->Prop}
def bu.af(b:ak S w w')(d:∀e,D e->¬S e):∀{a:List α} {cs:List Value},bu c w D a cs->bu c w' D a cs
 |[],_,f=>f
 |x::a,_,⟨g,h,i,j,k⟩=>⟨g,h,i,c.af j b d,bu.af b d k⟩
def bu.mono(b:∀d,D d->D' d):∀{a:List α} {cs:List Value},bu c w D a cs->bu c w D' a cs
 |[],_,e=>e
 |x::a,_,⟨f,g,h,i,j⟩=>⟨f,g,h,c.mono i b,bu.mono b j⟩
def bu.append:∀{xs b:List α} {cs a:List Value},bu c w D xs cs->bu c w D b a->bu c w D (xs++b) (cs++a)
 |[],b,_,a,e,d=>by cases e;exact d
 |x::xs,b,_,a,⟨f,g,h,i,j⟩,d=>⟨f,g++a,by rw[h,XQ],i,bu.append j d⟩
def bu.one{x:α}(a:c.rep w D x a2):bu c w D [x] a2:=⟨a2,[],sM,a,rfl⟩
def bu.length:∀{a:List α} {cs:List Value},bu c w D a cs->cs.length=a.length*c.k
 |[],_,b=>by cases b;simp
 |x::a,_,⟨g,h,d,e,f⟩=>by
  rw[d,QX,c.len e,bu.length f,Xq,X7,Nat.one_mul,Nat.add_comm]
def bu.PJ:∀{d:List α} {cs:List Value},bu c w D d cs->∀b∈cs,b.oneCell'=true
 |[],_,e,b,a=>by cases e;simp at a
 |x::d,_,⟨i,j,f,g,h⟩,b,a=>by
  rw[f]at a;rcases Q6.1 a with a|a
  ·exact c.one g b a
  ·exact bu.PJ h b a
def bu.at:∀{e:List α} {cs:List Value},bu c w D e cs->∀{i:Nat} {x:α},e[i]? =some x->∃d,(∀a,a<c.k->cs[i*c.k+a]? =d[a]?)/\c.rep w D x d
 |[],_,n,i,x,b=>by simp at b
 |y::e,_,⟨d,o,f,g,j⟩,i,x,b=>by
  have p:=c.len g
  cases i with
  |zero=>
   simp at b;subst b;refine⟨d,λa h=>?_,g⟩;rw[f,Nat.zero_mul,Xz,XW oM]
  |succ i=>
   obtain⟨k,l,m⟩:=bu.at j (i:=i) (x:=x) (by simpa using b);refine⟨k,λa h=>?_,m⟩;rw[f,X7,Nat.one_mul,X8 oM,<-l a h]
   congr 1
   omega
def bu.take:∀{a:List α} {cs:List Value},bu c w D a cs->∀(m:Nat),bu c w D (a.take m) (cs.take (m*c.k))
 |[],_,d,m=>by cases d;simp[bu]
 |x::a,_,⟨e,f,g,b,h⟩,m=>by
  have i:=c.len b
  cases m with
  |zero=>simp[bu]
  |succ m=>
   refine⟨e,f.take (m*c.k),?_,b,bu.take h m⟩;rw[g,X7,Nat.one_mul,Nat.add_comm,List.take_append,i,Qz oM]
   congr 2
   omega
def Row.aD{bytes:Nat}{j:List α}(x:Row c bytes w D d a j):∃cs,bu c w D j cs/\(j≠[]->0<c.k->∃e b,d=some ⟨e,b,none⟩/\e<w.heap.size/\D e/\∀f g,cs[f]? =some g->w.cell? ⟨e,b+f,none⟩=some g):=by
 have m:∀(n:List α) (h:Nat),(∀k l,n[k]? =some l->j[h+k]? =some l)->∃cs,bu c w D n cs/\∀e b,d=some ⟨e,b,none⟩->0<c.k->∀f g,cs[f]? =some g->w.cell? ⟨e,b+h*c.k+f,none⟩=some g:=by
  intro n
  induction n with
  |nil=>intro h _;exact⟨[],rfl,λe b _ _ f g i=>by simp at i⟩
  |cons y n H=>
   intro h z;obtain⟨A,r,s⟩:=H (h+1) (λk l t=>by have:=z (k+1) l (by simpa using t);rw[show h+1+k=h+(k+1) by omega];exact this);obtain⟨e,b,q,o,B,C,E,u⟩:=x.el h y (z 0 y rfl);refine⟨q++A,⟨q,A,rfl,u,r⟩,λK F p v f g i=>?_⟩;rw[o]at p;cases p
   have L:=c.len u
   by_cases I:f<c.k
   ·rw[XW oM]at i
    rw[<-i];exact E f I
   ·rw[X8 oM]at i
    have:=s e b o v (f-q.length) g i;rw[<-this]
    congr 2
    rw[X7];omega
 obtain⟨cs,r,s⟩:=m j 0 (λk l t=>by simpa using t);refine⟨cs,r,λJ v=>?_⟩
 cases j with
 |nil=>exact absurd rfl J
 |cons l j=>
  obtain⟨e,b,q,o,B,C,E,u⟩:=x.el 0 l rfl;refine⟨e,b,o,B,C,λf g i=>?_⟩;have:=s e b o v f g i;simpa using this
end
structure aO {α:Type} (c:jo α) (e:TypeId) (F:Nat->Prop) (w:World) (a:Option Addr) (n cap:Nat) (xs:List α):Prop where
 body:∃cs D,Own w e c.k a n cap cs/\bu c w D xs cs/\(∀b,D b->F b/\aF a≠some b)
 self:∀b,aF a=some b->F b
 aB:∀b,F b->b<w.heap.size
section
variable {α:Type} {c:jo α} {e:TypeId} {w w':World} {F F' S:Nat->Prop} {a:Option Addr} {n cap:Nat} {xs:List α}
def aO.nil(w:World):aO c e (λ_=>False) w none 0 0 []:=
 ⟨⟨[],λ_=>False,Own.nil _ _ _,rfl,λ_ a=>a.elim⟩,λb a=>(by cases a),λ_ a=>a.elim⟩
def aO.af(f:aO c e F w a n cap xs)(g:ak S w w')(h:∀b,F b->¬S b):aO c e F w' a n cap xs:=by
 obtain⟨cs,D,j,k,i⟩:=f.body;exact⟨⟨cs,D,j.af g (cT.2 λb d=>h b (f.self b d)),k.af g (λb d=>h b (i b d).1),i⟩,f.self,λb d=>Qk (f.aB b d) g.size⟩
def aO.ah(b:aO c e F w a n cap xs)(d:ai w w'):aO c e F w' a n cap xs:=b.af d λ_ _ b=>b
def aO.mono(f:aO c e F w a n cap xs)(g:∀b,F b->F' b)(i:∀b,F' b->b<w.heap.size):aO c e F' w a n cap xs:=by
 obtain⟨cs,D,j,k,h⟩:=f.body;exact⟨⟨cs,D,j,k,λb d=>⟨g b (h b d).1,(h b d).2⟩⟩,λb d=>g b (f.self b d),i⟩
def aO.len(d:aO c e F w a n cap xs)(f:0<c.k):n=xs.length:=by
 obtain⟨cs,D,g,h,i⟩:=d.body;have b:=g.length;rw[h.length]at b;exact(Nat.eq_of_mul_eq_mul_right f b).symm
def Own.PI{b:Nat}{cs:List Value}(c:Own w e b a n cap cs):n<=cap:=by
 rcases c.cases with⟨_,rfl,rfl,_⟩|⟨g,d,_,_,f,_,_⟩
 ·exact Q4 _
 ·exact f
def aO.row{bytes:Nat}(f:aO c e F w a n cap xs)(j:0<c.k)(g:xs.length*bytes<=aK):Row c bytes w F a n xs:=by
 have k:=f.len j;obtain⟨cs,D,l,s,t⟩:=f.body;refine⟨k,by rw[k];exact g,λA B u=>?_⟩;obtain⟨h,m,o⟩:=s.at u;have C:=c.len o;have p:=m 0 j;rw[Nat.add_zero,Qq (show 0<h.length by omega)]at p;obtain⟨q,i,v,_⟩:=l.cell p;refine⟨q,0,h,i,v,f.self q (by rw[i];rfl),λr x=>?_,c.mono o λy g=>(t y g).1⟩;have b:=m r x;rw[Qq (show r<h.length by omega)]at b⊢;obtain⟨E,d,_,z⟩:=l.cell b;rw[i]at d;cases d
 rw[Xz];exact z
def Mo{bytes:Nat}{k:Array Value}{x:α}(i:aO c e F w a n cap xs)(A:jC h g e c.k bytes){D:Nat->Prop}(s:c.rep w D x k.toList)(m:∀b,D b->b<w.heap.size/\aF a≠some b)(d:(xs.length+1)*bytes<=aK)(J:xs.length+1<=maxLen)(t:∀l j w' F',aO c e F' w' l (n+1) j (xs++[x])->ak (λv=>aF a=some v) w w'->(∀b,F' b->F b\/D b\/w.heap.size<=b)->(∀b,aF l=some b->F b\/w.heap.size<=b)->p (.slice l (n+1) j) w'):
  PA w (.cells k e) λy=>aG h (Builtin.append_ #[g,g] q #[.slice a n cap,.slice (ZX w.heap.size) 1 1]) y p u:=by
 have C:=i.len A.pos;obtain⟨cs,K,L,M,o⟩:=i.body;refine PA.mk λy E R N=>?_;have S:=c.len s;have O:=L.ah E;refine yT A (news:=k.toList) O N (by rw[Qz oM]) oM (c.one s) (by rw[C];exact d) (by rw[C];exact J) λl P r H I B=>?_;have z:ak (λv=>aF a=some v) w r:=(ai.af E).then (I.mono λ_ _ i=>i.symm)
 let F':Nat->Prop:=λb=>F b\/D b\/(w.heap.size<=b/\b<r.heap.size)
 have T:y.heap.size<=r.heap.size:=I.size;refine t l P r F' ⟨⟨_,λb=>K b\/D b,H,bu.append ((M.af z λb d=>(o b d).2).mono λb d=>.inl d) (bu.one (c.mono (c.af s z λb d=>(m b d).2) λb d=>.inr d)),?_⟩,?_,?_⟩ z ?_ ?_
 ·intro b d
  have U:b<w.heap.size:=d.elim (λf=>i.aB b (o b f).1) λf=>(m b f).1;refine⟨d.elim (λf=>.inl (o b f).1) λf=>.inr (.inl f),?_⟩;rcases B with B|B
  ·rw[B];exact d.elim (λf=>(o b f).2) λf=>(m b f).2
  ·rw[B];intro Q;cases Q;omega
 ·intro b d
  rcases B with B|B
  ·exact .inl (i.self b (B▸d))
  ·have:=H.lt d
   rw[B]at d;cases d;exact .inr (.inr ⟨oM,this⟩)
 ·rintro b (d|d|d)
  ·have:=i.aB b d;omega
  ·have:=(m b d).1;omega
  ·exact d.2
 ·rintro b (d|d|d)
  ·exact .inl d
  ·exact .inr (.inl d)
  ·exact .inr (.inr d.1)
 ·intro b d
  rcases B with B|B
  ·exact .inl (i.self b (B▸d))
  ·rw[B]at d;cases d;exact .inr oM
def kh{bytes:Nat}(i:aO c e F w a n cap xs)(y:jC h g e c.k bytes){D:Nat->Prop}{o M:Nat}{l:List α}(E:Row c bytes w D (some d2) o l)(r:∀b,D b->b<w.heap.size/\aF a≠some b)(d:(xs.length+l.length)*bytes<=aK)(N:xs.length+l.length<=maxLen)(z:∀m j w' F',aO c e F' w' m (n+o) j (xs++l)->ak (λk=>aF a=some k) w w'->(∀b,F' b->F b\/D b\/w.heap.size<=b)->(∀b,aF m=some b->F b\/w.heap.size<=b)->p (.slice m (n+o) j) w'):
  aG h (Builtin.append_ #[g,g] q #[.slice a n cap,.slice (some d2) o M]) w p u:=by
 have H:=i.len y.pos;have A:=E.len;obtain⟨cs,O,P,Q,s⟩:=i.body;obtain⟨I,t,R⟩:=E.aD;have S:∀k v,I[k]? =some v->w.cell? (d2.add k)=some v:=λk v J=>by
  have T:l≠[]:=by rintro rfl;have:=t.length;simp at this;subst this;simp at J
  obtain⟨b,U,V,_,_,W⟩:=R T y.pos
  cases V
  rw[Addr.add_lit];exact W k v J
 refine Ll y (news:=I) P S (by rw[t.length,A]) t.PJ (by rw[H,A];exact d) (by rw[H,A];exact N) λm X x K L B=>?_;have C:ak (λk=>aF a=some k) w x:=L.mono λ_ _ i=>i.symm
 let F':Nat->Prop:=λb=>F b\/D b\/(w.heap.size<=b/\b<x.heap.size)
 have Z:w.heap.size<=x.heap.size:=L.size;refine z m X x F' ⟨⟨_,λb=>O b\/D b,K,bu.append ((Q.af C λb d=>(s b d).2).mono λb d=>.inl d) ((t.af C λb d=>(r b d).2).mono λb d=>.inr d),?_⟩,?_,?_⟩ C ?_ ?_
 ·intro b d
  have a1:b<w.heap.size:=d.elim (λf=>i.aB b (s b f).1) λf=>(r b f).1;refine⟨d.elim (λf=>.inl (s b f).1) λf=>.inr (.inl f),?_⟩;rcases B with B|B
  ·rw[B];exact d.elim (λf=>(s b f).2) λf=>(r b f).2
  ·rw[B];intro Y;cases Y;omega
 ·intro b d
  rcases B with B|B
  ·exact .inl (i.self b (B▸d))
  ·have:=K.lt d
   rw[B]at d;cases d;exact .inr (.inr ⟨Q4 _,this⟩)
 ·rintro b (d|d|d)
  ·have:=i.aB b d;omega
  ·have:=(r b d).1;omega
  ·exact d.2
 ·rintro b (d|d|d)
  ·exact .inl d
  ·exact .inr (.inl d)
  ·exact .inr (.inr d.1)
 ·intro b d
  rcases B with B|B
  ·exact .inl (i.self b (B▸d))
  ·rw[B]at d;cases d;exact .inr oM
end
def bu.free{c:Type}{e:Nat}{a:c->List Value}{f:c->Prop}{hl b}{g h:World}{D i:Nat->Prop}:∀{d:List c} {cs:List Value},bu (flat e a f hl b) g D d cs->bu (flat e a f hl b) h i d cs
 |[],_,j=>j
 |x::d,_,⟨k,l,b,m,n⟩=>⟨k,l,b,m,n.free⟩
def aO.alone{e:j->List Value}{m:j->Prop}{hl h1}{n:List j}(h:aO (flat a e m hl h1) g f b d c i n):
  aO (flat a e m hl h1) g (λk=>aF d=some k) b d c i n:=by
 obtain⟨cs,q,o,p,r⟩:=h.body;exact⟨⟨cs,λ_=>False,o,p.free,λ_ h=>h.elim⟩,λk l=>l,λk l=>h.aB k (h.self k l)⟩
def py{b:Type}(i:jo b)(j:TypeId)(c:World)(k:List b)(l:Value)(d:World):Prop:=
 ∃e f a g,l= .slice e f a/\aO i j g d e f a k/\ai c d/\∀h,g h->c.heap.size<=h
def Row.lit{enc:j->Value}{e:j->Prop}{hl h1}{bytes:Nat}{cs:Array Value}(f:b.heap[a]? =some (.cells cs g E))(d:List j)(k:cs.toList=d.map enc)(l:∀c∈d,e c)(m:d.length*bytes<=aK):
  Row (flat 1 (λc=>[enc c]) e hl h1) bytes b (·=a) (ZX a) d.length d:=
 ⟨rfl,m,λh c i=>⟨a,0,[enc c],rfl,ax f,rfl,λn o=>by
  have:n=0:=Nat.lt_one_iff.1 o;subst this;have:cs.toList[h]? =some (enc c):=by rw[k];simp[i]
  have p:=ae f (off:=h) (v:=enc c) (by simpa using this);simpa[flat]using p,rfl,l c (QZ i)⟩⟩
def Row.part{c:jo j}{bytes:Nat}{D:Nat->Prop}{h:List j}(f:Row c bytes b D d a h){lo hi cap:Nat}(v:lo<=hi)(w:hi<=a)(x:a<=cap):
  Row c bytes b D (cG d lo cap c.k) (hi-lo) ((h.take hi).drop lo):=by
 have y:=f.len;refine⟨by simp;omega,Xx (Q0 _ oM) f.dN,λi k e=>?_⟩;rw[List.getElem?_drop,Xw]at e;split at e
 ·rename_i z
  obtain⟨l,g,m,n,o,p,q,r⟩:=f.el (lo+i) k e
  by_cases s:cap=lo
  ·omega
  ·exact⟨l,g+lo*c.k,m,by rw[n];simp[cG,s,Addr.add_lit],o,p,λt u=>by rw[<-q t u];congr 2;rw[X7];omega,r⟩
 ·cases e
def aO.jT{e:jo j}{h:List j}(i:aO e g f b d a c h):a<=c:=by
 obtain⟨cs,l,k,_⟩:=i.body;exact k.PI
def Row.take{f:jo j}{bytes:Nat}{D:Nat->Prop}{g:List j}(e:Row f bytes b D d a g){m:Nat}(h:m<=a):Row f bytes b D d m (g.take m):=by
 have l:=e.len;refine⟨by simp;omega,Xx (Q0 _ h) e.dN,λi k c=>?_⟩;rw[Xw]at c;split at c
 ·exact e.el i k c
 ·cases c
def yX{m:jo j}{t:List j}{bytes:Nat}(v:aO m g f b d a c t)(w:jC h q g m.k bytes){D:Nat->Prop}{n:List j}(z:Row m bytes b D r i n)(C:r=none->i=0/\k=0)(E:∀e,D e->e<b.heap.size/\aF d≠some e)(o:(t.length+n.length)*bytes<=aK)(F:t.length+n.length<=maxLen)(s:∀x l y A,aO m g A y x (a+i) l (t++n)->ak (λH=>aF d=some H) b y->(∀e,A e->f e\/D e\/b.heap.size<=e)->(∀e,aF x=some e->f e\/b.heap.size<=e)->p (.slice x (a+i) l) y):
  aG h (Builtin.append_ #[q,q] B #[.slice d a c,.slice r i k]) b p u:=by
 cases r with
 |some N=>exact kh v w z E o F s
 |none=>
  obtain⟨rfl,rfl⟩:=C rfl;have I:n=[]:=QW z.len.symm;subst I;obtain⟨J,O,K,P,Q,R,S⟩:=jC.info w;obtain⟨cs,T,L,U,V⟩:=v.body;have M:=run_append_owned_none (P:=h) (w:=b) 0 q B g J m.k w.under K (.slice d a c) a cs L.row;exact aG.mk M (s d c b f (by simpa using v) (ak.refl _) (λe o=>.inl o) λe o=>.inl (v.self e o))
def aO.MO{e:jo j}{h:List j}(i:aO e g f b d a c h)(k:d=none):a=0/\c=0:=by
 obtain⟨cs,p,l,_⟩:=i.body;rcases l.cases with⟨_,m,n,_⟩|⟨q,o,rfl,_⟩
 ·exact⟨m,n⟩
 ·cases k
def Uf(k:jC h g q 1 1)(f:(h.info? q).bind (·.zero)=some (.int .u8 0))(l:a<=c)(d:c<=aK)(i:∀e,aO fv q (·=b.heap.size) e (ZX b.heap.size) a c (List.replicate a 0)->ai b e->e.heap.size=b.heap.size+1->p (.slice (ZX b.heap.size) a c) e):
  aG h (Instr.makeSlice g (XH (a:Int)) (XH (c:Int))) b p u:=by
 unfold aK at d;obtain⟨r,s,m,n,t,v,B⟩:=k.info;have w:s= .int .u8 0:=by
  rw[m]at f;simp only[Option.bind_some,n]at f;exact XJ f
 subst w;have o:=run_make (P:=h) b g q r _ k.under m n .i64 .i64 a c oM oM (by rw[v];omega) oM;rw[Qx,Qx,t,Nat.mul_one]at o;have x:ai b (b.alloc (.cells (madeCells (Value.int .u8 0).cells c) q)):=ak.alloc b _;have y:(madeCells (Value.int .u8 0).cells c).toList=List.replicate c (.int .u8 0):=by
  unfold madeCells;rw[Array.toList_map];apply List.ext_getElem
  ·simp
  ·intro C E F
   simp[Value.cells,Nat.mod_one]
 refine aG.mk o (i _ ⟨⟨List.replicate a (.int .u8 0),λ_=>False,⟨⟨by simp[fv,flat],.inr ⟨b.heap.size,c,_,rfl,Qj _,heap_alloc_new b _,l,by unfold maxLen;omega,by simp[size_madeCells,fv,flat],?_⟩⟩⟩,?_,λ_ i=>i.elim⟩,λz d=>by simpa[aF]using d.symm,λz d=>by subst d;simp⟩ x sM)
 ·rw[y]
  simp only[fv,flat,Nat.mul_one,List.take_replicate];rw[X2 l]
 ·have j:∀a:Nat,bu fv (b.alloc (.cells (madeCells (Value.int .u8 0).cells c) q)) (λ_=>False) (List.replicate a 0) (List.replicate a (.int .u8 0)):=by
   intro a
   induction a with
   |zero=>rfl
   |succ a A=>exact⟨[.int .u8 0],List.replicate a (.int .u8 0),rfl,⟨rfl,trivial⟩,A⟩
  exact j a
end Go.ar
namespace Go.ar
open Go
def jz(a:Nat):List UInt8:=if b:a=0 then []else UInt8.ofNat (a % 256)::jz (a/256)
termination_by a
decreasing_by omega
def qX:jz 0=[]:=by rw[jz];simp
variable{a:Nat}
def Bu(b:a≠0):jz a=UInt8.ofNat (a % 256)::jz (a/256):=by rw[jz];simp[b]
def xM:∀(a:Nat),a<2 ^ 64->(jz a).length=(Lib.bitLen a+7)/8:=by
 intro a
 induction a using Nat.strongRecOn with
 |_ a d=>
  intro c
  by_cases b:a=0
  ·subst b;rw[qX];decide
  ·rw[Bu b,Xq]
   by_cases e:a<256
   ·have f:a/256=0:=oM
    rw[f,qX];have h:Lib.bitLen a<=8:=Lib.bitLen_le8 ⟨a,e⟩;have i:1<=Lib.bitLen a:=(Lib.bitLenAux_bounds 64 a c b).1;simp;omega
   ·have:=d (a/256) oM oM
    rw[this];have g:=Lib.bitLen_shift 8 a oM c;rw[show(2:Nat) ^ 8=256 from rfl]at g;omega
def HW{u:Nat}(a:u<2 ^ 64):(jz u).length<=8:=by
 rw[xM u a]
 by_cases b:u=0
 ·subst b;decide
 ·have c:=Lib.bitLenAux_bounds 64 u a b
  have:Lib.bitLen u<=64:=by
   apply Nat.le_of_not_lt;intro d;have e:2 ^ 64<=2 ^(Lib.bitLen u-1):=Nat.pow_le_pow_right oM oM;have f:2 ^(Lib.bitLen u-1)<=u:=c.2.1;omega
  omega
def Qh:∀(c a:Nat),c<(jz a).length->(jz a)[c]? =some (UInt8.ofNat (a/256 ^ c % 256)):=by
 intro c
 induction c with
 |zero=>
  intro a b
  by_cases d:a=0
  ·subst d;rw[qX]at b;simp at b
  ·rw[Bu d];simp
 |succ c e=>
  intro a b
  by_cases d:a=0
  ·subst d;rw[qX]at b;simp at b
  ·rw[Bu d]at b⊢
   have:=e (a/256) (by simpa using b);rw[List.getElem?_cons_succ,this,Nat.div_div_eq_div_mul,Nat.pow_succ,Nat.mul_comm 256]
def fX(a:List UInt8):Nat:=a.foldl (λb c=>b*256+c.toNat) 0
def HX(a:List UInt8)(b:UInt8):fX (a++[b])=fX a*256+b.toNat:=by simp[fX,List.foldl_append]
def LW(a:List UInt8):fX a<256 ^ a.length:=by
 suffices d:∀(a:List UInt8) (b c:Nat),b<256 ^ c->a.foldl (λb e=>b*256+e.toNat) b<256 ^(c+a.length) by
  have:=d a 0 0 sM;simpa[fX]using this
 intro a
 induction a with
 |nil=>intro b c d;simpa using d
 |cons e a f=>
  intro b c d;have g:=e.toNat_lt;have:=f (b*256+e.toNat) (c+1) (by rw[Nat.pow_succ];omega);rw[List.foldl_cons,Xq];rw[show c+(a.length+1)=c+1+a.length by omega];exact this
def nP(a:Int):List UInt8:=UInt8.ofNat ((jz a.natAbs).length+if a<0 then 16 else 0)::(jz a.natAbs).reverse
def rdNum(d:List UInt8):Int×Int×Nat:=match d with
 |[]=>(4,0,0)
 |h::c=>
  let a:=if 16<h.toNat then h.toNat-16 else h.toNat
  let b:=fX (c.take a)
  if 8<a then(5,0,0)
  else if c.length<a then(4,0,0)
  else if(0<a/\c.head? =some 0)\/(¬16<h.toNat/\2 ^ 63<=b)\/(16<h.toNat/\2 ^ 63<b)then(5,0,0)
  else(0,if 16<h.toNat then-(b:Int)else b,a+1)
end Go.ar

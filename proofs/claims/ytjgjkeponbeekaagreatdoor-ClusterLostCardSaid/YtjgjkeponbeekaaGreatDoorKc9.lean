import Derived.Test.YtjgjkeponbeekaaGreatDoorYcCode
import Derived.Maps.AppendAt
import Derived.Below
import Derived.Laws.Strings
import Derived.Laws.OwnMore
import Derived.Laws.MakeOwn
import Derived.Lib.BitFns
import Derived.Lib.ItoaNum
import Derived.Shelf.SlIter.Nil
import Derived.Shelf.SlIterI.Nil
import Derived.Shelf.SortM.Plain
import Derived.Shelf.SortM.SortNone
import Derived.Shelf.Strconv.Itoa3
import Derived.Shelf.Small.Strs
import Derived.Ground.GgzProg
import Derived.Ground.SlgmProg
import Derived.Ground.NamesProg
import Derived.Test.YtjgjkeponbeekaaGreatDoorProg
import Derived.Laws.CopyRow
import Derived.Laws.IdiomCopy
set_option linter.all false
set_option maxRecDepth 100000
open Go.IntKind renaming wrap→ZU
namespace Go.Proofs.YtjgjkeponbeekaaGreatDoor
open Go.aq
def DJ:gA:=⟨[],[],[],[],[]⟩
variable{Z o:Array Value}{s:RK}{A:FuncId}{e:Int}{a c:Nat}{d v:ac}{b:World}
def DK(n:((0:Int)<=(if(a:Int)<(if 0>e then 0 else e)then(a:Int)else(if 0>e then 0 else e))/\((if(a:Int)<(if 0>e then 0 else e)then(a:Int)else(if 0>e then 0 else e)):Int)<=(if(a:Int)<(if 0>e then 0 else e)then(a:Int)else(if 0>e then 0 else e))/\((if(a:Int)<(if 0>e then 0 else e)then(a:Int)else(if 0>e then 0 else e)):Int)<=(c:Int)/\PC_ 215 #[.slice d (Int.toNat (if(a:Int)<(if 0>e then 0 else e)then(a:Int)else(if 0>e then 0 else e))) (Int.toNat (if(a:Int)<(if 0>e then 0 else e)then(a:Int)else(if 0>e then 0 else e)))] b (kS_ λP f g h=>rt s ((.tuple #[.slice P f g,.bool (decide (((if(a:Int)<(if 0>e then 0 else e)then(a:Int)else(if 0>e then 0 else e)):Int)<(a:Int)))])) h) (pE s))):am 152 #[.slice d a c,.ii e] b s:=DC DJ Tryz.func152 rfl n
def BB:gA:=⟨[(2,[(5,ZT 0),(6,ZT 0)])],[],[],[],[]⟩
def BC(k:(∃d:Nat->Int->Int->UV,(∃a,d a 0 e b)/\∀(a:Nat) (n:Int) (P:Int) (m:Nat->Value) (f:World),d a n P f->al (decide (n<P)) ((∃g h i,(.func (.func A) o Z:Value)= .func (.func g) h i/\enters WP g=true/\PC_ g (h++ #[.ii (ZU .i64 (iA .u64 (ZU .u64 (ZU .i64 (n+P))) 1))]++i) f (kB λl j=>al (!l) ((∃c,c<a/\d c (ZU .i64 ((ZU .i64 (iA .u64 (ZU .u64 (ZU .i64 (n+P))) 1))+1)) P j)) ((∃c,c<a/\d c n (ZU .i64 (iA .u64 (ZU .u64 (ZU .i64 (n+P))) 1)) j))) (pE s))) (rt s ((.ii n)) f))):am 150 #[.ii e,.func (.func A) o Z] b s:=DC BB Tryz.func150 rfl k
def xJ:gA:=⟨[(5,[(51,ZT 0)])],[(4,[(6,.pointer (some ⟨0,0,none⟩)),(7,.pointer (some ⟨0,0,none⟩))]),(13,[])],[3,10,15,16],[],[(1,⟨[0,1,2,4,0,16,0,64,0,256,0,1024,2728,4096],[16383,16382,16381,16379,16383,16367,16383,16319,16383,16127,16383,15359,13655,12287],[0,0,0,1,0,1,0,1,0,1,0,1,2,0]⟩),(3,⟨[0,1,2,4,8,0,32,80,128,0,512,0,2048,5120,0,16384,40960,0,0,393727,1048575],[2097151,2097150,2097149,2097147,2097143,2097151,2097119,2097071,2097023,2097151,2096639,2097151,2095103,2092031,2097151,2080767,2056191,2097151,2097151,1965823,1769471],[0,0,0,0,1,0,1,0,1,0,1,0,1,0,0,1,0,2,2,2,2]⟩),(10,⟨[0,1,2,4,0,16,40,64,128,128,0,1535,4095],[8191,8190,8189,8187,8191,8175,8151,8127,8063,8063,8191,6911,7679],[0,0,0,1,0,1,1,0,0,0,2,2,0]⟩),(15,⟨[0,1,2,4,0,16,0,64,128,0,0,1024,0,4096,0,16384,0,65536,174592,262400,1048575],[2097151,2097150,2097149,2097147,2097151,2097135,2097151,2097087,2097023,2097151,2097151,2096127,2097151,2093055,2097151,2080767,2097151,2031615,1922559,1834751,1572823],[0,0,0,1,0,1,0,1,0,1,0,1,0,1,0,1,0,1,2,0,2]⟩),(16,⟨[0,1,2,4,0,0,32,127,128,448,128,2047],[4095,4094,4093,4091,4095,4095,4063,4071,3967,3775,3967,2551],[0,0,0,1,1,1,2,2,0,2,0,2]⟩)]⟩
def xK{Z a0 a1 a2 a3 a4 a5 a6 a7:Int}(a9:PA b (.cells #[.ii Z,.ii a0,.ii a1,.slice v a c,.ii a2,.ii a3,.ii a4,.ii a5,.ii a6,.ii a7] 63) λn=>PA n (.cells #[.ii 0,.ii 0] 46) λi9=>(∀j,bC i9 j->(dr d λb0 b1=>(∃b2 b3 b4 b5 b6 b7,j.cell? (ad b0 b1)=some (.slice b2 b3 b4)/\j.cell? (ad b0 (b1+1))=some (.slice b5 b6 b7)/\(rI j (ab_ b (0+4)) λj0=>(rI j (ab_ b (0+6)) λj1=>(rI j (ab_ b (0+7)) λj2=>(rI j (ab_ b (0+8)) λj3=>PC_ 201 #[.agg #[.slice b2 b3 b4,.slice b5 b6 b7],.ii j0,.ii j1,.ii j2,.ii j3] j (kI_ λj4 b8=>al (j4 !=0) ((∀A,bC b8 A->(∃b9 c0,A.cell? (ab_ n 0)=some (.ii b9)/\A.cell? (ab_ n (0+1))=some (.ii c0)/\PS A (ab_ n 0) (.ii b9) λj5=>PS j5 (ab_ n (0+1)) (.ii c0) λH=>(∃c1 c2,H.cell? (ab_ n 0)=some (.ii c1)/\H.cell? (ab_ n (0+1))=some (.ii c2)/\rt s ((.tuple #[.bool true,.agg #[.ii c1,.ii c2]])) H)))) ((∃G:Nat->Nat->Nat->Nat->UV,((∀e,bC b8 e->∃f:LL,(dr d λc3 j6=>(¬f c3/\(rS e (ad c3 j6) λj7 j8 q4=>(¬f b.heap.size/\(rI e (ab_ b (0+4)) λc4=>(ix_ j7 c4 j8 λc5 j9=>(¬f c5/\(rS e (ad c5 (j9+Int.toNat c4)) λc6 c7 c8=>(¬f b.heap.size/\(rI e (ab_ b (0+4)) λc9=>(¬f b.heap.size/\(rI e (ab_ b (0+5)) λd0=>(¬f b.heap.size/\(rI e (ab_ b (0+6)) λd1=>((PA e (.cells #[.slice none 0 0] 118) λr=>(aj f e r/\PA r (.cells #[.ii 0,.ii 0,.ii 0] 350) λI=>(aj f r I/\PS I (ab_ e 0) (.slice c6 c7 c8) λJ=>(aj f I J/\St 350 (ab_ r 0) (.agg #[.ii c9,.ii d0,.ii d1]) J λd2=>(aj f J d2/\G e.heap.size 0 r.heap.size 0 d2)))))/\(PA e (.cells #[.ii 0,.ii 0,.ii 0] 350) λt=>(aj f e t/\PA t (.cells #[.slice none 0 0] 118) λK=>(aj f t K/\PS K (ab_ t 0) (.slice c6 c7 c8) λL=>(aj f K L/\St 350 (ab_ e 0) (.agg #[.ii c9,.ii d0,.ii d1]) L λd3=>(aj f L d3/\G t.heap.size 0 e.heap.size 0 d3))))))))))))))))))))))/\∀(u:Nat) (w:Nat) (i:Nat) (l:Nat) (q5:Nat->Value) (p:World),G u w i l p->(dr d λk1 k2=>(rM p (ad k1 (k2+4)) λk3=>(Ld 350 (ad i l) p λk4=>(∃d4 M k5,(∀a8,(Instr.lookup 264 (.map k3) k4 false).run WP (p.drewN a8)= .ok (.slice d4 M k5) (p.drewN a8))/\(∀d5,bC p d5->(∃N:Nat->Int->UV,(∃B,N B 0 d5)/\∀(B:Nat) (x:Int) (q6:Nat->Value) (k:World),N B x k->al (decide (x<(M:Int))) ((ix_ d4 x M λk6 k7=>(Ld 63 (ad k6 (k7+Int.toNat x*10)) k λk8=>PA k (.cells #[.ii 0,.ii 0,.ii 0,.slice none 0 0,.ii 0,.ii 0,.ii 0,.ii 0,.ii 0,.ii 0] 63) λk9=>St 63 (ab_ k 0) k8 k9 λl0=>(∀m,bC l0 m->(rS m (ad u w) λl1 l2 q7=>(rI m (ab_ b (0+6)) λd6=>(ix_ l1 d6 l2 λl3 l4=>(Ld 121 (ad l3 (l4+Int.toNat d6*4)) m λl5=>(Ld 63 (ab_ k 0) m λl6=>(Ld 63 (ab_ b 0) m λl7=>PC_ 251 #[l5,l6,l7] m (kB λl8 d7=>al l8 ((∀C,bC d7 C->(∃d8 d9,C.cell? (ab_ k 0)=some (.ii d8)/\C.cell? (ab_ k (0+1))=some (.ii d9)/\PS C (ab_ n 0) (.ii d8) λl9=>PS l9 (ab_ n (0+1)) (.ii d9) λO=>(∃e0 e1,O.cell? (ab_ n 0)=some (.ii e0)/\O.cell? (ab_ n (0+1))=some (.ii e1)/\rt s ((.tuple #[.bool true,.agg #[.ii e0,.ii e1]])) O)))) ((∃e2,e2<B/\N e2 (ZU .i64 (x+1)) d7))) (pZ s))))))))))) ((∀g,bC k g->∃y:LL,(dr d λe6 m0=>(¬y e6/\(rM g (ad e6 (m0+3)) λm1=>(¬y i/\(∃f0 f1,g.cell? (ad i l)=some (.ii f0)/\g.cell? (ad i (l+1))=some (.ii f1)/\(∃f2 f3 f4 f5 f6,(∀Q,aj y g Q->(Instr.lookup 263 (.map m1) (.agg #[.ii f0,.ii f1]) true).run WP Q= .ok (.tuple #[.agg #[.ii f2,.slice f3 f4 f5],.bool f6]) Q)/\PA g (.cells #[.ii 0,.slice none 0 0] 49) λR=>(aj y g R/\PS R (ab_ g 0) (.ii f2) λm2=>PS m2 (ab_ g (0+1)) (.slice f3 f4 f5) λE=>(aj y R E/\(∃S:UV,(al (!f6) ((rS E (ad u w) λm3 m4 m5=>PC_ 128 #[.agg #[.slice m3 m4 m5]] E (kS_ λm6 m7 m8 m9=>PS m9 (ab_ g (0+1)) (.slice m6 m7 m8) λn0=>S n0) (pE s))) (S E))/\∀(q8:Nat->Value) (o:World),S o->(rS o (ad u w) λn1 n2 n3=>(rS o (ab_ g (0+1)) λn4 n5 n6=>(rI o (ab_ b (0+6)) λn7=>(rI o (ab_ b (0+7)) λn8=>(rI o (ab_ b (0+8)) λn9=>PC_ 131 #[.agg #[.slice n1 n2 n3],.slice n4 n5 n6,.ii n7,.ii n8,.ii n9] o (kI_ λo0 f7=>al (o0 !=0) ((∀D,bC f7 D->(∃f8 f9,D.cell? (ab_ n 0)=some (.ii f8)/\D.cell? (ab_ n (0+1))=some (.ii f9)/\PS D (ab_ n 0) (.ii f8) λo1=>PS o1 (ab_ n (0+1)) (.ii f9) λT=>(∃g0 g1,T.cell? (ab_ n 0)=some (.ii g0)/\T.cell? (ab_ n (0+1))=some (.ii g1)/\rt s ((.tuple #[.bool true,.agg #[.ii g0,.ii g1]])) T)))) ((∀h,bC f7 h->∃z:LL,(dr d λg2 o2=>(¬z g2/\(rM h (ad g2 (o2+3)) λo3=>(¬z i/\(∃g3 g4,h.cell? (ad i l)=some (.ii g3)/\h.cell? (ad i (l+1))=some (.ii g4)/\(¬z g.heap.size/\(rI h (ab_ g 0) λo4=>(rS h (ad u w) λo5 o6 o7=>(rS h (ab_ g (0+1)) λo8 o9 p0=>(rI h (ab_ b (0+6)) λp1=>(rI h (ab_ b (0+7)) λp2=>(rI h (ab_ b (0+8)) λp3=>PC_ 252 #[.agg #[.slice o5 o6 o7],.slice o8 o9 p0,.ii p1,.ii p2,.ii p3] h (kS_ λp4 p5 p6 U=>(aj z h U/\jY WP (Instr.mapUpdate 263 (.map o3) (.agg #[.ii g3,.ii g4]) (.agg #[.ii (ZU .i64 (o4+1)),.slice p4 p5 p6])) U (λg5=>(aj z U g5/\(∀P,bC g5 P->∃q:LL,(dr d λg6 p7=>(¬q g6/\(rM P (ad g6 (p7+4)) λg7=>(¬q i/\(Ld 350 (ad i l) P λp8=>(∃g8 g9 h0 h1 h2 h3 h4 h5 h6 h7 h8 h9,P.cell? (ab_ b 0)=some (.ii g8)/\P.cell? (ab_ b (0+1))=some (.ii g9)/\P.cell? (ab_ b (0+2))=some (.ii h0)/\P.cell? (ab_ b (0+3))=some (.slice h1 h2 h3)/\P.cell? (ab_ b (0+4))=some (.ii h4)/\P.cell? (ab_ b (0+5))=some (.ii h5)/\P.cell? (ab_ b (0+6))=some (.ii h6)/\P.cell? (ab_ b (0+7))=some (.ii h7)/\P.cell? (ab_ b (0+8))=some (.ii h8)/\P.cell? (ab_ b (0+9))=some (.ii h9)/\PA P (.cells #[.ii g8,.ii g9,.ii h0,.slice h1 h2 h3,.ii h4,.ii h5,.ii h6,.ii h7,.ii h8,.ii h9] 63) λV=>(aj q P V/\PR_ (Instr.mapEntry 264 (.map g7) p8) V (λp9 W=>∃i0 i1 i2 i3,p9= .tuple #[.slice i0 i1 i2,.ii i3]/\(aj q V W/\PR_ (ap_ 59 (.slice i0 i1 i2) (.slice (some (ab_ P 0)) 1 1)) W (kS_ λq0 q1 q2 X=>(aj q W X/\jY WP (Instr.entryStore 264 (.map g7) (.ii i3) (.slice q0 q1 q2)) X (λi4=>(aj q X i4/\(∀F,bC i4 F->(∃i5 i6,F.cell? (ab_ n 0)=some (.ii i5)/\F.cell? (ab_ n (0+1))=some (.ii i6)/\PS F (ab_ n 0) (.ii i5) λq3=>PS q3 (ab_ n (0+1)) (.ii i6) λY=>(∃i7 i8,Y.cell? (ab_ n 0)=some (.ii i7)/\Y.cell? (ab_ n (0+1))=some (.ii i8)/\rt s ((.tuple #[.bool false,.agg #[.ii i7,.ii i8]])) Y))))) (pY s))) (pY s))) (pY s))))))))))) (pY s))) (pZ s)))))))))))))))) (pE s)))))))))))))))))))))))))) (pZ s))))))))):am 199 #[.pointer d,.agg #[.ii Z,.ii a0,.ii a1,.slice v a c,.ii a2,.ii a3,.ii a4,.ii a5,.ii a6,.ii a7]] b s:=DC xJ Tryz.func199 rfl a9
def jJ:gA:=⟨[(3,[(7,ZT 0),(8,ZT 0)])],[],[],[],[]⟩
def jz(l:(∃i:Nat->Int->Int->UV,(∃g,i g 0 (a:Int) b)/\∀(g:Nat) (n:Int) (P:Int) (B:Nat->Value) (f:World),i g n P f->al (decide (n<P)) ((dr d λm o=>(0:Int)<=(ZU .i64 (iA .u64 (ZU .u64 (ZU .i64 (n+P))) 1))/\(ZU .i64 (iA .u64 (ZU .u64 (ZU .i64 (n+P))) 1))<(a:Int)/\(rI f (ad m (o+Int.toNat (ZU .i64 (iA .u64 (ZU .u64 (ZU .i64 (n+P))) 1)))) λp=>PC_ 337 #[.ii p,.ii e] f (kB λq j=>al q ((∃h,h<g/\i h (ZU .i64 ((ZU .i64 (iA .u64 (ZU .u64 (ZU .i64 (n+P))) 1))+1)) P j)) ((∃h,h<g/\i h n (ZU .i64 (iA .u64 (ZU .u64 (ZU .i64 (n+P))) 1)) j))) (pE s)))) (al (decide (n<(a:Int))) ((ix_ d n a λr t=>(rI f (ad r (t+Int.toNat n)) λu=>al (u==e) (rt s ((.tuple #[.ii n,.bool true])) f) ((ix_ d n a λv w=>(rI f (ad v (w+Int.toNat n)) λx=>PC_ 341 #[.ii x] f (kB λy k=>al y (PC_ 341 #[.ii e] k (kB λz A=>rt s ((.tuple #[.ii n,.bool z])) A) (pE s)) (rt s ((.tuple #[.ii n,.bool false])) k)) (pE s))))))) (rt s ((.tuple #[.ii n,.bool false])) f)))):am 311 #[.slice d a c,.ii e] b s:=DC jJ Tryz.func311 rfl l
def mT:gA:=⟨[],[(3,[])],[],[],[]⟩
def mU(l:(∃f:UV,(al (decide ((e:Int)<0)) (aJ WP (Instr.panic (.iface 9 (.string (⟨#[99,97,110,110,111,116,32,98,101,32,110,101,103,97,116,105,118,101]⟩:ByteArray)))) b (λv m=>
   f m) (λn b=>s (.panicked [{v:=n,recovered:=false}]) b)) (f b))/\∀(w:Nat->Value) (i:World),f i->aJ WP (Builtin.cap_ #[237] 3 #[.slice d a c]) i (λo j=>
   ∃(g:Int),o= ZT g/\al (decide (((ZU .i64 (e-(ZU .i64 (g-((a:Nat):Int))))):Int)>0)) (aJ WP (Builtin.cap_ #[237] 3 #[.slice d a c]) j (λp q=>
   ∃(P:Int),p= ZT P/\((0:Int)<=P/\(P:Int)<=((c:Nat):Int)/\aJ WP (Builtin.append_ #[237,3] 237 #[.slice d (Int.toNat P) c,ZT (ZU .i64 (e-(ZU .i64 (g-((a:Nat):Int)))))]) q (λr t=>
   ∃(k:ac) (u:Nat) (h:Nat),r= .slice k u h/\((0:Int)<=((a:Nat):Int)/\(((a:Nat):Int):Int)<=((h:Nat):Int)/\
   s (.returned (.slice k (Int.toNat ((a:Nat):Int)) h)) t)) (λn b=>s (.panicked [{v:=n,recovered:=false}]) b))) (λn b=>s (.panicked [{v:=n,recovered:=false}]) b)) (s (.returned (.slice d a c)) j)) (λn b=>
   s (.panicked [{v:=n,recovered:=false}]) b))):
  am 328 #[.slice d a c,ZT e] b s:=
 gg mT mixed Tryz.func328 rfl (Zv kR) kR (Eq.mp kR l)
def lD:gA:=⟨[(3,[(3,ZT 0),(11,ZT 0)]),(11,[(6,.slice none 0 0),(27,ZT 0)])],[],[],[],[]⟩
def lE(J:(∃l:Nat->Int->Int->UV,(∃h,l h 0 0 b)/\∀(h:Nat) (i:Int) (f:Int) (T:Nat->Value) (j:World),l h i f j->al (decide ((f:Int)<((a:Nat):Int))) ((∃t u,d=some ⟨t,u,none⟩/\
   (0:Int)<=f/\f<((a:Nat):Int)/\(∃(K:ac) (m:Nat) (L:Nat),j.cell? ⟨t,u+Int.toNat f,none⟩=some (.slice K m L)/\
   al (decide (((ZU .i64 (i+((m:Nat):Int))):Int)<0)) (aJ WP (Instr.panic (.iface 9 (.string (⟨#[108,101,110,32,111,117,116,32,111,102,32,114,97,110,103,101]⟩:ByteArray)))) j (λU M=>
   (∃k,k<h/\l k (ZU .i64 (i+((m:Nat):Int))) (ZU .i64 (f+1)) M)) (λq b=>s (.panicked [{v:=q,recovered:=false}]) b)) ((∃k,k<h/\
   l k (ZU .i64 (i+((m:Nat):Int))) (ZU .i64 (f+1)) j))))) (PC WP 328 #[.slice none 0 0,ZT i] j (λN O=>
   ∃(v:ac) (w:Nat) (x:Nat),N= .slice v w x/\(∃r:Nat->ac->Nat->Nat->Int->UV,(∃o,r o v w x 0 O)/\
   ∀(o:Nat) (n:ac) (P:Nat) (e:Nat) (g:Int) (V:Nat->Value) (p:World),r o n P e g p->al (decide ((g:Int)<((a:Nat):Int))) ((∃y z,d=some ⟨y,z,none⟩/\
   (0:Int)<=g/\g<((a:Nat):Int)/\(∃(A:ac) (B:Nat) (C:Nat),p.cell? ⟨y,z+Int.toNat g,none⟩=some (.slice A B C)/\
   aJ WP (Builtin.append_ #[237,237] 237 #[.slice n P e,.slice A B C]) p (λQ R=>∃(E:ac) (F:Nat) (H:Nat),Q= .slice E F H/\
   (∃I,I<o/\r I E F H (ZU .i64 (g+1)) R)) (λq b=>s (.panicked [{v:=q,recovered:=false}]) b)))) (s (.returned (.slice n P e)) p))) (λS b=>
   s (.panicked S) b)))):
  am 294 #[.slice d a c] b s:=
 gg lD mixed Tryz.func294 rfl (Zv kR) kR (Eq.mp kR J)
def qt:gA:=⟨[(8,[(6,.int .u64 0),(37,ZT 0)])],[(4,[]),(6,[])],[],[],[]⟩
def qu(t:PC_ 288 #[.pointer d,.ii 1] b (kS_ λu v I f=>(ix_ u 0 v λw x=>(∃n,f.cell? (ad w (x+Int.toNat 0))=some (.int .u8 n)/\(∃g:UV,(al (decide (((ZU .i64 (mj .u8 n 16)):Int)<=8)) (PC_ 287 #[.bool (n !=16),.ii 5] f (k0_ λy=>g y) (pE s)) (PC_ 287 #[.bool false,.ii 5] f (k0_ λz=>g z) (pE s)))/\∀(J:Nat->Value) (l:World),g l->PC_ 288 #[.pointer d,.ii (ZU .i64 (mj .u8 n 16))] l (kS_ λm h K i=>(∃j:UV,(al (((ZU .i64 (mj .u8 n 16)):Int)==0) (PC_ 287 #[.bool true,.ii 5] i (k0_ λA=>j A) (pE s)) ((ix_ m 0 h λB C=>(∃o,i.cell? (ad B (C+Int.toNat 0))=some (.int .u8 o)/\PC_ 287 #[.bool (o !=0),.ii 5] i (k0_ λD=>j D) (pE s)))))/\∀(L:Nat->Value) (p:World),j p->(∃k:Nat->Int->Int->UV,(∃e,k e 0 0 p)/\∀(e:Nat) (P:Int) (a:Int) (M:Nat->Value) (c:World),k e P a c->al (decide (a<(h:Int))) ((ix_ m a h λE F=>(∃q,c.cell? (ad E (F+Int.toNat a))=some (.int .u8 q)/\(∃r,r<e/\k r (PZ .u64 (IH .u64 P 8) (ZU .u64 q)) (ZU .i64 (a+1)) c)))) (al (((Bm .u8 n 16):Int)==0) (PC_ 287 #[.bool (decide (P<9223372036854775808)),.ii 5] c (k0_ λG=>rt s ((.ii (ZU .i64 P))) G) (pE s)) (PC_ 287 #[.bool (decide (P<=9223372036854775808)),.ii 5] c (k0_ λH=>rt s ((.ii (ZU .i64 (ZU .u64 (0-P))))) H) (pE s)))))) (pE s))))) (pE s)):am 230 #[.pointer d] b s:=DC qt Tryz.func230 rfl t
end Go.Proofs.YtjgjkeponbeekaaGreatDoor
namespace Go.aq
open Go
abbrev ai(n P:World):Prop:=aj (λ_=>False) n P
variable{d5:Addr}{e7:Array MapEntry}{o:Array Value}{A:FuncId}{e:Int}{t:List Int}{a7:List PanicEntry->UV}{F a c i p:Nat}{a5 f:LL}{H:Nat×Nat}{d3:Obj}{Y a1:Operand}{d:ac}{d4:Option Nat}{h:Program}{C g r:TypeId}{q u:L1}{b b5 k:World}{z:UV}
def aj.refl(n:World):aj f n n:=⟨rfl,rfl,rfl,Q4 _,λ_ _ _=>rfl⟩
def aj.trans{d f g:LL}(P:aj f b k)(n:aj g k b5)(i:∀n,n<b.heap.size->f n->d n)(j:∀n,n<b.heap.size->g n->d n):aj d b b5:=
 ⟨n.os.trans P.os,n.tape.trans P.tape,n.output.trans P.output,Xx P.size n.size,λa c h=>
  (n.block a (Qk c P.size) (λe=>h (j a c e))).trans (P.block a c (λe=>h (i a c e)))⟩
def aj.mono(P:aj f b k)(c:∀n,n<b.heap.size->f n->a5 n):aj a5 b k:=
 ⟨P.os,P.tape,P.output,P.size,λn a d=>P.block n a λe=>d (c n a e)⟩
def aj.then(n:aj f b k)(P:aj f k b5):aj f b b5:=n.trans P (λ_ _ n=>n) (λ_ _ n=>n)
def aj.new(P:aj f b k)(n:aj a5 k b5)(a:∀n,a5 n->f n\/b.heap.size<=n):aj f b b5:=
 P.trans n (λ_ _ P=>P) (λc e d=>(a c d).resolve_right oM)
def aj.af(n:aj f b k)(P:ai k b5):aj f b b5:=n.trans P (λ_ _ n=>n) (λ_ _ n=>n.elim)
def ai.keep{S:LL}(n:ai b k):aj S b k:=n.mono λ_ _ n=>n.elim
def aj.alloc{b:LL}(n:World)(P:Obj):aj b n (n.alloc P):=
 ⟨rfl,rfl,rfl,sM,λc a _=>by first|exact heap_alloc_old n P c a|exact heap_alloc_old n P a⟩
def aj.drewN{S:LL}(n:World)(P:Nat):aj S n (n.drewN P):=⟨rfl,rfl,rfl,Q4 _,λ_ _ _=>rfl⟩
def bC.keep{S:LL}(n:bC b k):aj S b k:=by obtain⟨P,rfl⟩:=n;exact aj.drewN b P
def bC.heap(n:bC b k):k.heap=b.heap:=by obtain⟨P,rfl⟩:=n;rfl
def aj.setCell(n:World)(P:Addr)(a:Value)(b:f P.block):aj f n (n.setCell P a):=
 ⟨rfl,rfl,rfl,by simp[World.setCell],λd _ c=>by
  simp only[World.setCell,Array.getElem?_modify];rw[Zq (by rintro rfl;exact c b)]⟩
def aj.below(n:ai b k):RowKit.Below b.heap.size b k:=⟨n.os,n.tape,n.output,n.size,λP a=>n.block P a (λn=>n)⟩
def aj.HP(n:RowKit.Below b.heap.size b k):ai b k:=⟨n.os,n.tape,n.output,n.size,λP a _=>n.block P a⟩
def aj.of_grownBy(n:b.grownBy k d4):aj (λP=>some P=d4) b k:=⟨n.os,n.tape,n.output,n.size,λP a c=>n.block P a c⟩
def aj.cell(n:aj f b k){a:Addr}(P:a.block<b.heap.size)(j:¬f a.block):k.cell? a=b.cell? a:=
 World.cell?_of_block (w:=b) (n.block a.block P j)
def aj.get(P:aj f b k)(n:b.heap[a]? =some d3)(c:¬f a):k.heap[a]? =some d3:=by
 rw[P.block a (Q5.1 n).1 c];exact n
def aA(n:b.heap[a]? =some d3):a<b.heap.size:=(Q5.1 n).1
def ae{cs:Array Value}(n:b.heap[a]? =some (Obj.cells cs g H)){off:Nat}{v:Value}(P:cs[off]? =some v):
  b.cell? ⟨a,off,none⟩=some v:=by simp[World.cell?,n,P]
def PA.mk(P:∀n,ai b n->n.heap.size=b.heap.size+1->n.heap[b.heap.size]? =some d3->z n):PA b d3 z:=
 P (b.alloc d3) (aj.alloc b d3) sM (heap_alloc_new b d3)
def PS.mk{v:Value}{cs:Array Value}(P:b.heap[a]? =some (.cells cs g (0,0)))(d:c<cs.size)(e:∀n,aj (·=a) b n->n.heap.size=b.heap.size->n.heap[a]? =some (.cells (cs.setIfInBounds c v) g (0,0))->z n):PS b ⟨a,c,none⟩ v z:=by
 refine⟨⟨cs[c],ae P (by simp[d])⟩,by simp[World.frozen?,P],e _ (aj.setCell b _ v rfl) (by simp[World.setCell]) ?_⟩;simp[World.setCell,Array.getElem?_modify,P]
def Ok(P:L1):RK:=λa b=>∃n,a= .returned n/\P n b
def Ok.mk{v:Value}(n:q v b):Ok q (.returned v) b:=⟨v,rfl,n⟩
def PC.ok{φ a:L1}(c:Calls h A o b (Ok φ))(d:∀n P,φ n P->a n P):PC h A o b a a7:=
 c.mono λg P ⟨n,e,f⟩=>by subst e;exact d n P f
def Calls.ok{φ a:L1}(c:Calls h A o b (Ok φ))(d:∀n P,φ n P->a n P):Calls h A o b (Ok a):=
 c.mono λg P ⟨n,e,f⟩=>⟨n,e,d n P f⟩
def aM(n:Int):Prop:= -9223372036854775808<=n/\n<=9223372036854775807
def wrap_i64{x:Int}(n:aM x):ZU .i64 x=x:=by
 unfold aM at n;unfold ZU;simp[IntKind.signed,IntKind.bits];omega
def aT:Nat:=140737488355328
structure Ints (w:World) (a:ac) (n:Nat) (xs:List Int):Prop where
 len:n=xs.length
 fe:n*8<=aT
 Aj:∀x∈xs,aM x
 cell:∀(i:Nat) x,xs[i]? =some x->∃b off,a=some ⟨b,off,none⟩/\b<w.heap.size/\w.cell? ⟨b,off+i,none⟩=some (ZT x)
def pG(P:LL)(a:ac):Prop:=∀n,a=some n->¬P n.block
def pG.none:pG f Option.none:=λ_ n=>by cases n
def Ints.keep{S:LL}{a:ac}{d:Nat}(P:Ints b a d t)(e:aj S b k)(h:pG S a):Ints k a d t:=
 ⟨P.len,P.fe,P.Aj,λf i j=>by
  obtain⟨c,n,rfl,g,l⟩:=P.cell f i j;exact⟨c,n,rfl,Qk g e.size,(e.cell (a:=⟨c,n+f,none⟩) g (h ⟨c,n,none⟩ rfl)).trans l⟩⟩
def Ints.af(n:Ints b d a t)(P:ai b k):Ints k d a t:=n.keep P λ_ _ n=>n
def Ints.nil(n:World):Ints n none 0 []:=⟨rfl,by simp[aT],sM,λa b P=>by simp at P⟩
def Ints.at(c:Ints b d a t){i:Int}(j:0<=i)(k:i<(a:Int)):
  ∃P n x,d=some ⟨P,n,none⟩/\P<b.heap.size/\t[i.toNat]? =some x/\aM x/\b.cell? ⟨P,n+i.toNat,none⟩=some (ZT x):=by
 have l:=c.len;have e:i.toNat<t.length:=oM
 obtain⟨P,n,f,g,h⟩:=c.cell i.toNat t[i.toNat] (by simp[e]);exact⟨P,n,_,f,g,by simp[e],c.Aj _ (XY e),h⟩
def aG:ac->Option Nat
 |none=>none
 |some n=>some n.block
def Ints.HQ(n:Ints b d a t)(c:aj f b k)(e:t≠[]->pG f d):Ints k d a t:=by
 by_cases P:t=[]
 ·subst P;exact⟨n.len,n.fe,n.Aj,λh i g=>by simp at g⟩
 ·exact n.keep c (e P)
def dx:pG f d↔∀n,aG d=some n->¬f n:=by
 cases d with
 |none=>simp[pG,aG]
 |some d=>simp[pG,aG]
structure Own (w:World) (e:TypeId) (k:Nat) (a:ac) (n c:Nat) (cs:List Value):Prop where
 row:w.ownsRow 0 e k (.slice a n c) n cs
def Own.nil(n:World)(e:TypeId)(P:Nat):Own n e P none 0 0 []:=⟨World.ownsRow_nil n 0 e P⟩
def Own.length{cs:List Value}(n:Own b g a d c i cs):cs.length=c*a:=n.row.1
def Own.cases{cs:List Value}(f:Own b g a d c i cs):
  (d=none/\c=0/\i=0/\cs=[])\/
  ∃e n,d=PP e/\b.heap[e]? =some (.cells n g (0,0))/\c<=i/\n.size=i*a/\n.toList.take (c*a)=cs:=by
 rcases f.row.2 with⟨P,o⟩|⟨e,h,n,P,_,j,k,_,l,m⟩
 ·simp only[XX]at P
  obtain⟨rfl,rfl,rfl⟩:=P;exact .inl ⟨rfl,rfl,rfl,QW (by simpa using f.row.1)⟩
 ·simp only[XX]at P
  obtain⟨rfl,-,rfl⟩:=P;exact .inr ⟨e,n,rfl,j,k,l,m⟩
def Own.keep{S:LL}{cs:List Value}(h:Own b g a d c i cs)(j:aj S b k)(l:pG S d):Own k g a d c i cs:=by
 refine⟨⟨h.row.1,?_⟩⟩;rcases h.row.2 with m|⟨o,P,e,f,p,q,n⟩
 ·exact .inl m
 ·refine .inr ⟨o,P,e,f,p,j.get q ?_,n⟩
  simp only[XX]at f;exact l _ f.1
def Own.af{cs:List Value}(n:Own b g a d c i cs)(P:ai b k):Own k g a d c i cs:=n.keep P λ_ _ n=>n
def Own.lt{cs:List Value}(P:Own b g a d c i cs)(n:aG d=some p):p<b.heap.size:=by
 rcases P.cases with⟨rfl,_⟩|⟨h,e,rfl,f,_⟩
 ·cases n
 ·simp only[aG,Q1]at n
  subst n;exact aA f
def Own.cell{b:World}{d:TypeId}{e:Nat}{a:ac}{f g:Nat}{cs:List Value}(h:Own b d e a f g cs){j:Nat}{u:Value}(n:cs[j]? =some u):
  ∃P,a=PP P/\P<b.heap.size/\b.cell? ⟨P,j,none⟩=some u:=by
 rcases h.cases with⟨_,_,_,rfl⟩|⟨P,i,rfl,c,_,_,k⟩
 ·simp at n
 ·refine⟨P,rfl,aA c,ae c ?_⟩
  rw[<-k,Xw]at n;split at n
  ·simpa using n
  ·cases n
def Own.AJ{cur:Array Value}(P:b.heap[c]? =some (.cells cur g (0,0)))(n:cur.size=i*a)(d:i<=maxLen):
  Own b g a (PP c) i i cur.toList:=
 ⟨⟨by simpa using n,.inr ⟨c,i,cur,rfl,Qj _,P,Q4 _,d,n,by rw[Qz];simp[n]⟩⟩⟩
structure kM (P:Program) (t e:TypeId) (k bytes:Nat):Prop where
 under:P.underlying t=some (.slice e)
 row:(P.info? e).map (λi=>(i.zero.map λz=>z.cells.size,i.size,i.bytes))=some (some k,k,bytes)
 pos:0<k
def kM.info{b:Program}{g c:TypeId}{d bytes:Nat}(h:kM b g c d bytes):∃P a,b.info? c=some P/\P.zero=some a/\P.size=d/\P.bytes=bytes/\a.cells.size=d:=by
 have n:=h.row
 cases f:b.info? c with
 |none=>rw[f]at n;cases n
 |some P=>
  rw[f]at n;simp only[Option.map_some,Q1,Prod.mk.injEq]at n
  cases e:P.zero with
  |none=>rw[e]at n;cases n.1
  |some a=>
   rw[e]at n;exact⟨P,a,rfl,e,n.2.1,n.2.2,by simpa using n.1⟩
def MP{P:Program}{f bytes:Nat}(l:kM P g r f bytes){m news:List Value}(x:Own b r f d a c m)(y:∀j k,news[j]? =some k->b.cell? (d5.add j)=some k)(z:news.length=i*f)(A:∀k∈news,k.oneCell'=true)(B:(a+i)*bytes<=aT)(E:a+i<=maxLen)(F:∀n e h,Own h r f n (a+i) e (m++news)->aj (λj=>some j=aG d) b h->(aG n=aG d\/aG n=some b.heap.size)->q (.slice n (a+i) e) h):
  aJ P (Builtin.append_ #[g,g] C #[.slice d a c,.slice (some d5) i p]) b q u:=by
 obtain⟨H,I,J,K,L,M,N⟩:=kM.info l;obtain⟨O,h,Q,o,s,U,t⟩:=run_append_own_at (P:=P) b 0 g C r H I f bytes l.under J K L M N l.pos (.slice d a c) a m x.row
  d5 i p news z y A E B (Qj _)
 have R:∀(d:ac) a c,(Value.slice d a c).ownBlock=aG d:=λd a c=>by cases d<;>rfl
 have S:∃n e,O= .slice n (a+i) e:=by
  rcases o.2 with⟨rfl,T⟩|⟨V,v,w,rfl,_⟩
  ·exact⟨none,0,by rw[T]⟩
  ·exact⟨_,_,rfl⟩
 obtain⟨n,e,rfl⟩:=S;simp only[R]at s t;exact aJ.mk Q (F n e h ⟨o⟩ (aj.of_grownBy s) t)
def Ak{n bytes:Nat}(s:kM h g r n bytes){j news:List Value}(t:Own b r n d a c j)(v:b.heap[i]? =some (.cells o r H))(w:o.toList.take (p*n)=news)(x:news.length=p*n)(y:∀k∈news,k.oneCell'=true)(z:(a+p)*bytes<=aT)(A:a+p<=maxLen)(B:∀P l f,Own f r n P (a+p) l (j++news)->aj (λm=>some m=aG d) b f->(aG P=aG d\/aG P=some b.heap.size)->q (.slice P (a+p) l) f):
  aJ h (Builtin.append_ #[g,g] C #[.slice d a c,.slice (PP i) p F]) b q u:=by
 exact MP s t (λm k e=>by
   rw[Addr.add_lit,Xz];refine ae v ?_;rw[<-w,Xw]at e;split at e
   ·simpa using e
   ·cases e) x y z A B
def ints(n:List Int):List Value:=n.map (Value.int .i64)
def jS(n:List Int):(ints n).length=n.length:=by simp[ints]
def Own.ints(P:Own b g 1 d a c (ints t))(f:a*8<=aT)(h:∀n∈t,aM n):Ints b d a t:=by
 have e:=P.length;rw[jS,Nat.mul_one]at e;refine⟨e.symm,f,h,λi n j=>?_⟩;obtain⟨k,l,m,o⟩:=P.cell (j:=i) (u:=ZT n) (by simp[aq.ints,j]);exact⟨k,0,l,m,by rw[Xz];exact o⟩
def MQ(k:kM h g r 1 8)(l:Own b r 1 d a c (ints t))(m:b.heap[i]? =some (.cells #[ZT e] r (0,0)))(j:(a+1)*8<=aT)(o:∀n f P,Own P r 1 n (a+1) f (ints (t++[e]))->aj (λp=>some p=aG d) b P->(aG n=aG d\/aG n=some b.heap.size)->q (.slice n (a+1) f) P):
  aJ h (Builtin.append_ #[g,g] C #[.slice d a c,.slice (PP i) 1 1]) b q u:=
 Ak k (news:=[ZT e]) l m sM sM (by simp[Value.oneCell']) j (by unfold aT at j;unfold maxLen;omega)
  λn f P s v w=>o n f P (by simpa[ints]using s) v w
def Dg(a:h.underlying g=some (.slice r))(b:Nat)(n:ac)(c d:Nat)(P:World):
  (Op.equalIn (b+1) g (.slice n c d) (.slice none 0 0)).run h P= .ok n.isNone P:=by
 cases n<;>simp[Op.equalIn,run_underlying a]
def yq(a:h.underlying g=some (.pointer r))(b:Nat)(n:ac)(P:World):
  (Op.equalIn (b+1) g (.pointer n) (.pointer none)).run h P= .ok n.isNone P:=by
 cases n<;>simp[Op.equalIn,run_underlying a]
def kW(n:h.underlying g=some (.slice r))(P:q (.bool d.isNone) b):
  aJ h (do eqGuard .eql g Y a1 (.slice d a c) (.slice none 0 0);binOp .eql g (.slice d a c) (.slice none 0 0)) b q u:=by
 refine aJ.mk (v:=.bool d.isNone) ?_ P;have e:(do eqGuard .eql g Y a1 (.slice d a c) (.slice none 0 0);binOp .eql g (.slice d a c) (.slice none 0 0):Sem Value).run h b=
  ((Op.equalIn (9999+1) g (.slice d a c) (.slice none 0 0))>>=λf=>(pure (Value.bool f):Sem Value)).run h b:=rfl
 rw[e,Sem.run_bind,Dg n]
 rfl
def gT(n:h.underlying g=some (.pointer r))(P:q (.bool d.isNone) b):
  aJ h (do eqGuard .eql g Y a1 (.pointer d) (.pointer none);binOp .eql g (.pointer d) (.pointer none)) b q u:=by
 refine aJ.mk (v:=.bool d.isNone) ?_ P;have a:(do eqGuard .eql g Y a1 (.pointer d) (.pointer none);binOp .eql g (.pointer d) (.pointer none):Sem Value).run h b=
  ((Op.equalIn (9999+1) g (.pointer d) (.pointer none))>>=λc=>(pure (Value.bool c):Sem Value)).run h b:=rfl
 rw[a,Sem.run_bind,yq n]
 rfl
def qE(c:h.underlying g=some (.pointer r))(a b:Operand)(n:ac)(P:World):
  (do eqGuard .neq g a b (.pointer n) (.pointer none);binOp .neq g (.pointer n) (.pointer none):Sem Value).run h P= .ok (.bool n.isSome) P:=by
 have d:(do eqGuard .neq g a b (.pointer n) (.pointer none);binOp .neq g (.pointer n) (.pointer none):Sem Value).run h P=
  ((Op.equalIn (9999+1) g (.pointer n) (.pointer none))>>=λe=>(pure (Value.bool !e):Sem Value)).run h P:=rfl
 rw[d,Sem.run_bind,yq c]
 cases n<;>rfl
def AK(n:h.underlying g=some (.pointer r))(P:q (.bool d.isSome) b):
  aJ h (do eqGuard .neq g Y a1 (.pointer d) (.pointer none);binOp .neq g (.pointer d) (.pointer none)) b q u:=aJ.mk (qE n Y a1 d b) P
def Own.Vs{cs:List Value}(e:Own b g a d c i cs)(P:b.heap[p]? =some (.map e7 F)):aG d≠some p:=by
 intro n;rcases e.cases with⟨rfl,_⟩|⟨j,f,rfl,h,_⟩
 ·cases n
 ·simp only[aG,Q1]at n
  subst n;rw[h]at P;cases P
structure cu (F:LL) (w:World) (F':LL) (w':World):Prop where
 keep:aj F w w'
 new:∀b,F' b->F b\/w.heap.size<=b
def cu.refl(P:LL)(n:World):cu P n P n:=⟨aj.refl n,λ_ a=>.inl a⟩
def cu.trans{b G c:LL}{d e f:World}(n:cu b d G e)(g:cu G e c f):cu b d c f:=
 ⟨n.keep.trans g.keep (λ_ _ n=>n) (λP h i=>(n.new P i).resolve_right oM),λP h=>by
  rcases g.new P h with a|a
  ·exact n.new P a
  ·exact .inr (Xx n.keep.size a)⟩
end Go.aq
namespace Go.aq
open Go
variable{d5:Addr}{o:Array Value}{J:Bool}{c7 y:ByteArray}{e l:Int}{a4:List Value}{a c i p:Nat}{f:LL}{H:Nat×Nat}{d v:ac}{h:Program}{M a9:Prop}{j:Type}{C g r:TypeId}{q u:L1}{b b5 k:World}
def al.dec[Decidable M]{P a:Prop}(b:M->P)(c:¬M->a):al (decide M) P a:=
 al.mk (λn=>b (XV n)) (λn=>c (Xy n))
def al.eM(P:e≠l->M)(a:e=l->a9):al (e !=l) M a9:=
 al.mk (λn=>P (by simpa using n)) (λn=>a (by simpa using n))
def al.eL(P:e=l->M)(a:e≠l->a9):al (e==l) M a9:=
 al.mk (λn=>P (by simpa using n)) (λn=>a (by simpa using n))
def al.not(n:al J a9 M):al (!J) M a9:=by cases J<;>exact n
def Ps(P:y.toList=c7.toList):y=c7:=by
 have a:∀n:ByteArray,n.toList=n.data.toList:=λn=>ByteArray.toList_eq n;rw[a,a]at P;exact ByteArray.ext (Array.toList_inj.1 P)
def al.YM(P:y=c7->M)(a:y≠c7->a9):al (ByteArray.toList y==ByteArray.toList c7) M a9:=
 al.mk (λn=>P (Ps (by simpa using n))) (λn=>a (λb=>by subst b;simp at n))
def al.Zo(n:y≠c7->M)(P:y=c7->a9):al (!(ByteArray.toList y==ByteArray.toList c7)) M a9:=(al.YM P n).not
def an(n:a<4611686018427387904):ZU .i64 ((a:Int)+1)=((a+1:Nat):Int):=by
 rw[wrap_i64 (by unfold aM;omega)];simp
def bC.then(n:bC b k)(P:bC k b5):bC b b5:=by obtain⟨a,rfl⟩:=n;obtain⟨c,rfl⟩:=P;exact⟨a+c,sM⟩
def bC.refl(n:World):bC n n:=⟨0,rfl⟩
structure kr (α:Type) where
 k:Nat
 rep:World->(LL)->α->List Value->Prop
 keep:∀{S D:LL} {w w':World} {x:α} {cs:List Value},rep w D x cs->aj S w w'->(∀b,D b->¬S b)->rep w' D x cs
 mono:∀{D D':LL} {w:World} {x:α} {cs:List Value},rep w D x cs->(∀b,D b->D' b)->rep w D' x cs
 len:∀{D:LL} {w:World} {x:α} {cs:List Value},rep w D x cs->cs.length=k
 one:∀{D:LL} {w:World} {x:α} {cs:List Value},rep w D x cs->∀u∈cs,u.oneCell'=true
def flat{b:Type}(c:Nat)(n:b->List Value)(d:b->Prop)(e:∀a,(n a).length=c)(f:∀a,∀g∈n a,g.oneCell'=true):kr b where
 k:=c
 rep:=λ_ _ a cs=>cs=n a/\d a
 keep:=λP _ _=>P
 mono:=λP _=>P
 len:=λP=>by rw[P.1];exact e _
 one:=λP=>by rw[P.1];exact f _
def aP:kr Int:=flat 1 (λn=>[ZT n]) aM (λ_=>rfl) (λn a P=>by simp at P;subst P;rfl)
def gh:kr UInt8:=flat 1 (λn=>[.int .u8 n.toNat]) (λ_=>True) (λ_=>rfl) (λn a P=>by simp at P;subst P;rfl)
def OH:kr ByteArray:=flat 1 (λn=>[.string n]) (λ_=>True) (λ_=>rfl) (λn a P=>by simp at P;subst P;rfl)
structure Row {α:Type} (c:kr α) (bytes:Nat) (w:World) (D:LL) (a:ac) (n:Nat) (xs:List α):Prop where
 len:n=xs.length
 fe:n*bytes<=aT
 el:∀(i:Nat) x,xs[i]? =some x->∃b off es,a=some ⟨b,off,none⟩/\b<w.heap.size/\D b/\(∀j,j<c.k->w.cell? ⟨b,off+i*c.k+j,none⟩=es[j]?)/\c.rep w D x es
section
variable {α:Type} {c:kr α} {bytes:Nat} {w w':World} {D D' S:LL} {a:ac} {n:Nat} {xs:List α}
def Row.keep(d:Row c bytes w D a n xs)(e:aj S w w')(f:∀P,D P->¬S P):Row c bytes w' D a n xs:=
 ⟨d.len,d.fe,λg k l=>by
  obtain⟨P,b,m,o,h,i,p,q⟩:=d.el g k l;exact⟨P,b,m,o,Qk h e.size,i,λj r=>(e.cell (a:=⟨P,b+g*c.k+j,none⟩) h (f P i)).trans (p j r),c.keep q e f⟩⟩
def Row.af(P:Row c bytes w D a n xs)(b:ai w w'):Row c bytes w' D a n xs:=P.keep b λ_ _ P=>P
def Row.mono(b:Row c bytes w D a n xs)(e:∀P,D P->D' P):Row c bytes w D' a n xs:=
 ⟨b.len,b.fe,λf g h=>by
  obtain⟨P,d,i,j,k,l,m,o⟩:=b.el f g h;exact⟨P,d,i,j,k,e P l,m,c.mono o e⟩⟩
def Row.nil(w:World)(D:LL):Row c bytes w D none 0 []:=⟨rfl,sM,λP a n=>by simp at n⟩
def Row.at(f:Row c bytes w D a n xs){i:Int}(o:0<=i)(p:i<(n:Int)):
  ∃b P x d,a=some ⟨b,P,none⟩/\b<w.heap.size/\D b/\xs[i.toNat]? =some x/\(∀e,e<c.k->w.cell? ⟨b,P+i.toNat*c.k+e,none⟩=d[e]?)/\c.rep w D x d:=by
 have q:=f.len;have g:i.toNat<xs.length:=oM
 obtain⟨b,P,d,h,j,k,l,m⟩:=f.el i.toNat xs[i.toNat] (by simp[g]);exact⟨b,P,_,d,h,j,k,by simp[g],l,m⟩
def Row.Ie(g:Row c bytes w D a n xs){i:Nat}(h:i<n):
  ∃b P e f,a=some ⟨b,P,none⟩/\b<w.heap.size/\D b/\xs[i]? =some e/\(∀d,d<c.k->w.cell? ⟨b,P+i*c.k+d,none⟩=f[d]?)/\c.rep w D e f:=by
 have:=g.at (i:=(i:Int)) oM oM;simpa using this
end
def Row.oy{c:j->Value}{f:j->Prop}{hl h1}{bytes:Nat}{D:LL}{g:List j}(h:Row (flat 1 (λP=>[c P]) f hl h1) bytes b D d a g){i:Nat}(k:i<a):
  ∃e n P,d=some ⟨e,n,none⟩/\g[i]? =some P/\f P/\b.cell? ⟨e,n+i,none⟩=some (c P):=by
 obtain⟨e,n,P,q,l,r,_,m,o,rfl,p⟩:=h.Ie k;refine⟨e,n,P,l,m,p,?_⟩;have:=o 0 Nat.one_pos;simpa[flat]using this
def bM{n:Type}(P:kr n)(a:World)(D:LL):List n->List Value->Prop
 |[],cs=>cs=[]
 |x::d,cs=>∃b c,cs=b++c/\P.rep a D x b/\bM P a D d c
section
variable {α:Type} {c:kr α} {w w':World} {D D' S:LL}
def bM.keep(P:aj S w w')(a:∀b,D b->¬S b):∀{n:List α} {cs:List Value},bM c w D n cs->bM c w' D n cs
 |[],_,d=>d
 |x::n,_,⟨e,f,g,h,i⟩=>⟨e,f,g,c.keep h P a,bM.keep P a i⟩
def bM.mono(P:∀a,D a->D' a):∀{n:List α} {cs:List Value},bM c w D n cs->bM c w D' n cs
 |[],_,b=>b
 |x::n,_,⟨d,e,f,g,h⟩=>⟨d,e,f,c.mono g P,bM.mono P h⟩
def bM.append:∀{xs P:List α} {cs n:List Value},bM c w D xs cs->bM c w D P n->bM c w D (xs++P) (cs++n)
 |[],P,_,n,b,a=>by cases b;exact a
 |x::xs,P,_,n,⟨d,e,f,g,h⟩,a=>⟨d,e++n,by rw[f,XQ],g,bM.append h a⟩
def bM.one{x:α}(n:c.rep w D x a4):bM c w D [x] a4:=⟨a4,[],sM,n,rfl⟩
def bM.length:∀{n:List α} {cs:List Value},bM c w D n cs->cs.length=n.length*c.k
 |[],_,P=>by cases P;simp
 |x::n,_,⟨e,f,a,b,d⟩=>by
  rw[a,QX,c.len b,bM.length d,Xq,X7,Nat.one_mul,Nat.add_comm]
def bM.RP:∀{a:List α} {cs:List Value},bM c w D a cs->∀P∈cs,P.oneCell'=true
 |[],_,b,P,n=>by cases b;simp at n
 |x::a,_,⟨g,h,d,e,f⟩,P,n=>by
  rw[d]at n;rcases Q6.1 n with n|n
  ·exact c.one e P n
  ·exact bM.RP f P n
def bM.at:∀{b:List α} {cs:List Value},bM c w D b cs->∀{i:Nat} {x:α},b[i]? =some x->∃a,(∀n,n<c.k->cs[i*c.k+n]? =a[n]?)/\c.rep w D x a
 |[],_,l,i,x,P=>by simp at P
 |y::b,_,⟨a,m,d,e,g⟩,i,x,P=>by
  have o:=c.len e
  cases i with
  |zero=>
   simp at P;subst P;refine⟨a,λn f=>?_,e⟩;rw[d,Nat.zero_mul,Xz,XW oM]
  |succ i=>
   obtain⟨h,j,k⟩:=bM.at g (i:=i) (x:=x) (by simpa using P);refine⟨h,λn f=>?_,k⟩;rw[d,X7,Nat.one_mul,X8 oM,<-j n f]
   congr 1
   omega
def bM.take:∀{n:List α} {cs:List Value},bM c w D n cs->∀(m:Nat),bM c w D (n.take m) (cs.take (m*c.k))
 |[],_,a,m=>by cases a;simp[bM]
 |x::n,_,⟨b,d,e,P,f⟩,m=>by
  have g:=c.len P
  cases m with
  |zero=>simp[bM]
  |succ m=>
   refine⟨b,d.take (m*c.k),?_,P,bM.take f m⟩;rw[e,X7,Nat.one_mul,Nat.add_comm,List.take_append,g,Qz oM]
   congr 2
   omega
def Row.aD{bytes:Nat}{h:List α}(v:Row c bytes w D d a h):∃cs,bM c w D h cs/\(h≠[]->0<c.k->∃P n,d=some ⟨P,n,none⟩/\P<w.heap.size/\D P/\∀b e,cs[b]? =some e->w.cell? ⟨P,n+b,none⟩=some e):=by
 have k:∀(l:List α) (f:Nat),(∀i j,l[i]? =some j->h[f+i]? =some j)->∃cs,bM c w D l cs/\∀P n,d=some ⟨P,n,none⟩->0<c.k->∀b e,cs[b]? =some e->w.cell? ⟨P,n+f*c.k+b,none⟩=some e:=by
  intro l
  induction l with
  |nil=>intro f _;exact⟨[],rfl,λP n _ _ b e g=>by simp at g⟩
  |cons x l F=>
   intro f y;obtain⟨z,q,r⟩:=F (f+1) (λi j s=>by have:=y (i+1) j (by simpa using s);rw[show f+1+i=f+(i+1) by omega];exact this);obtain⟨P,n,p,m,A,B,C,t⟩:=v.el f x (y 0 x rfl);refine⟨p++z,⟨p,z,rfl,t,q⟩,λJ E o u b e g=>?_⟩;rw[m]at o;cases o
   have K:=c.len t
   by_cases H:b<c.k
   ·rw[XW oM]at g
    rw[<-g];exact C b H
   ·rw[X8 oM]at g
    have:=r P n m u (b-p.length) e g;rw[<-this]
    congr 2
    rw[X7];omega
 obtain⟨cs,q,r⟩:=k h 0 (λi j s=>by simpa using s);refine⟨cs,q,λI u=>?_⟩
 cases h with
 |nil=>exact Zz rfl I
 |cons j h=>
  obtain⟨P,n,p,m,A,B,C,t⟩:=v.el 0 j rfl;refine⟨P,n,m,A,B,λb e g=>?_⟩;have:=r P n m u b e g;simpa using this
end
structure aV {α:Type} (c:kr α) (e:TypeId) (F:LL) (w:World) (a:ac) (n cap:Nat) (xs:List α):Prop where
 body:∃cs D,Own w e c.k a n cap cs/\bM c w D xs cs/\(∀b,D b->F b/\aG a≠some b)
 self:∀b,aG a=some b->F b
 aE:∀b,F b->b<w.heap.size
section
variable {α:Type} {c:kr α} {e:TypeId} {w w':World} {F F' S:LL} {a:ac} {n cap:Nat} {xs:List α}
def aV.nil(w:World):aV c e (λ_=>False) w none 0 0 []:=
 ⟨⟨[],λ_=>False,Own.nil _ _ _,rfl,λ_ n=>n.elim⟩,λP n=>(by cases n),λ_ n=>n.elim⟩
def aV.keep(d:aV c e F w a n cap xs)(f:aj S w w')(g:∀P,F P->¬S P):aV c e F w' a n cap xs:=by
 obtain⟨cs,D,i,j,h⟩:=d.body;exact⟨⟨cs,D,i.keep f (dx.2 λP b=>g P (d.self P b)),j.keep f (λP b=>g P (h P b).1),h⟩,d.self,λP b=>Qk (d.aE P b) f.size⟩
def aV.af(P:aV c e F w a n cap xs)(b:ai w w'):aV c e F w' a n cap xs:=P.keep b λ_ _ P=>P
def aV.mono(d:aV c e F w a n cap xs)(f:∀P,F P->F' P)(h:∀P,F' P->P<w.heap.size):aV c e F' w a n cap xs:=by
 obtain⟨cs,D,i,j,g⟩:=d.body;exact⟨⟨cs,D,i,j,λP b=>⟨f P (g P b).1,(g P b).2⟩⟩,λP b=>f P (d.self P b),h⟩
def aV.len(b:aV c e F w a n cap xs)(d:0<c.k):n=xs.length:=by
 obtain⟨cs,D,f,g,h⟩:=b.body;have P:=f.length;rw[g.length]at P;exact(Nat.eq_of_mul_eq_mul_right d P).symm
def Own.RO{P:Nat}{cs:List Value}(b:Own w e P a n cap cs):n<=cap:=by
 rcases b.cases with⟨_,rfl,rfl,_⟩|⟨f,c,_,_,d,_,_⟩
 ·exact Q4 _
 ·exact d
def aV.row{bytes:Nat}(d:aV c e F w a n cap xs)(i:0<c.k)(f:xs.length*bytes<=aT):Row c bytes w F a n xs:=by
 have j:=d.len i;obtain⟨cs,D,k,r,s⟩:=d.body;refine⟨j,by rw[j];exact f,λz A t=>?_⟩;obtain⟨g,l,m⟩:=r.at t;have B:=c.len m;have o:=l 0 i;rw[Nat.add_zero,Qq (show 0<g.length by omega)]at o;obtain⟨p,h,u,_⟩:=k.cell o;refine⟨p,0,g,h,u,d.self p (by rw[h];rfl),λq v=>?_,c.mono m λx f=>(s x f).1⟩;have P:=l q v;rw[Qq (show q<g.length by omega)]at P⊢;obtain⟨C,b,_,y⟩:=k.cell P;rw[h]at b;cases b
 rw[Xz];exact y
def NV{bytes:Nat}{x:α}(f:aV c e F w a n cap xs)(z:kM h g e c.k bytes){D:LL}(p:c.rep w D x o.toList)(k:∀P,D P->P<w.heap.size/\aG a≠some P)(b:(xs.length+1)*bytes<=aT)(I:xs.length+1<=maxLen)(s:∀j i w' F',aV c e F' w' j (n+1) i (xs++[x])->aj (λt=>aG a=some t) w w'->(∀P,F' P->F P\/D P\/w.heap.size<=P)->(∀P,aG j=some P->F P\/w.heap.size<=P)->q (.slice j (n+1) i) w'):
  PA w (.cells o e) λv=>aJ h (Builtin.append_ #[g,g] r #[.slice a n cap,.slice (PP w.heap.size) 1 1]) v q u:=by
 have A:=f.len z.pos;obtain⟨cs,J,K,L,l⟩:=f.body;refine PA.mk λv C R M=>?_;have S:=c.len p;have N:=K.af C;refine Ak z (news:=o.toList) N M (by rw[Qz oM]) oM (c.one p) (by rw[A];exact b) (by rw[A];exact I) λj O m E H B=>?_;have y:aj (λt=>aG a=some t) w m:=(ai.keep C).then (H.mono λ_ _ f=>f.symm)
 let F':LL:=λP=>F P\/D P\/(w.heap.size<=P/\P<m.heap.size)
 have T:v.heap.size<=m.heap.size:=H.size;refine s j O m F' ⟨⟨_,λP=>J P\/D P,E,bM.append ((L.keep y λP b=>(l P b).2).mono λP b=>.inl b) (bM.one (c.mono (c.keep p y λP b=>(k P b).2) λP b=>.inr b)),?_⟩,?_,?_⟩ y ?_ ?_
 ·intro P b
  have U:P<w.heap.size:=b.elim (λd=>f.aE P (l P d).1) λd=>(k P d).1;refine⟨b.elim (λd=>.inl (l P d).1) λd=>.inr (.inl d),?_⟩;rcases B with B|B
  ·rw[B];exact b.elim (λd=>(l P d).2) λd=>(k P d).2
  ·rw[B];intro Q;cases Q;omega
 ·intro P b
  rcases B with B|B
  ·exact .inl (f.self P (B▸b))
  ·have:=E.lt b
   rw[B]at b;cases b;exact .inr (.inr ⟨oM,this⟩)
 ·rintro P (b|b|b)
  ·have:=f.aE P b;omega
  ·have:=(k P b).1;omega
  ·exact b.2
 ·rintro P (b|b|b)
  ·exact .inl b
  ·exact .inr (.inl b)
  ·exact .inr (.inr b.1)
 ·intro P b
  rcases B with B|B
  ·exact .inl (f.self P (B▸b))
  ·rw[B]at b;cases b;exact .inr oM
def lG{bytes:Nat}(f:aV c e F w a n cap xs)(x:kM h g e c.k bytes){D:LL}{m L:Nat}{k:List α}(C:Row c bytes w D (some d5) m k)(o:∀P,D P->P<w.heap.size/\aG a≠some P)(b:(xs.length+k.length)*bytes<=aT)(M:xs.length+k.length<=maxLen)(y:∀l i w' F',aV c e F' w' l (n+m) i (xs++k)->aj (λj=>aG a=some j) w w'->(∀P,F' P->F P\/D P\/w.heap.size<=P)->(∀P,aG l=some P->F P\/w.heap.size<=P)->q (.slice l (n+m) i) w'):
  aJ h (Builtin.append_ #[g,g] r #[.slice a n cap,.slice (some d5) m L]) w q u:=by
 have E:=f.len x.pos;have z:=C.len;obtain⟨cs,N,O,Q,p⟩:=f.body;obtain⟨H,s,R⟩:=C.aD;have S:∀j t,H[j]? =some t->w.cell? (d5.add j)=some t:=λj t I=>by
  have T:k≠[]:=by rintro rfl;have:=s.length;simp at this;subst this;simp at I
  obtain⟨P,U,V,_,_,W⟩:=R T x.pos
  cases V
  rw[Addr.add_lit];exact W j t I
 refine MP x (news:=H) O S (by rw[s.length,z]) s.RP (by rw[E,z];exact b) (by rw[E,z];exact M) λl X v J K B=>?_;have A:aj (λj=>aG a=some j) w v:=K.mono λ_ _ f=>f.symm
 let F':LL:=λP=>F P\/D P\/(w.heap.size<=P/\P<v.heap.size)
 have Z:w.heap.size<=v.heap.size:=K.size;refine y l X v F' ⟨⟨_,λP=>N P\/D P,J,bM.append ((Q.keep A λP b=>(p P b).2).mono λP b=>.inl b) ((s.keep A λP b=>(o P b).2).mono λP b=>.inr b),?_⟩,?_,?_⟩ A ?_ ?_
 ·intro P b
  have a1:P<w.heap.size:=b.elim (λd=>f.aE P (p P d).1) λd=>(o P d).1;refine⟨b.elim (λd=>.inl (p P d).1) λd=>.inr (.inl d),?_⟩;rcases B with B|B
  ·rw[B];exact b.elim (λd=>(p P d).2) λd=>(o P d).2
  ·rw[B];intro Y;cases Y;omega
 ·intro P b
  rcases B with B|B
  ·exact .inl (f.self P (B▸b))
  ·have:=J.lt b
   rw[B]at b;cases b;exact .inr (.inr ⟨Q4 _,this⟩)
 ·rintro P (b|b|b)
  ·have:=f.aE P b;omega
  ·have:=(o P b).1;omega
  ·exact b.2
 ·rintro P (b|b|b)
  ·exact .inl b
  ·exact .inr (.inl b)
  ·exact .inr (.inr b.1)
 ·intro P b
  rcases B with B|B
  ·exact .inl (f.self P (B▸b))
  ·rw[B]at b;cases b;exact .inr oM
end
def bM.free{a:Type}{c:Nat}{n:a->List Value}{d:a->Prop}{hl P}{e f:World}{D g:LL}:∀{b:List a} {cs:List Value},bM (flat c n d hl P) e D b cs->bM (flat c n d hl P) f g b cs
 |[],_,h=>h
 |x::b,_,⟨i,j,P,k,l⟩=>⟨i,j,P,k,l.free⟩
def aV.alone{n:j->List Value}{k:j->Prop}{hl h1}{l:List j}(P:aV (flat a n k hl h1) g f b d c i l):
  aV (flat a n k hl h1) g (λe=>aG d=some e) b d c i l:=by
 obtain⟨cs,p,m,o,q⟩:=P.body;exact⟨⟨cs,λ_=>False,m,o.free,λ_ P=>P.elim⟩,λe h=>h,λe h=>P.aE e (P.self e h)⟩
def qD{P:Type}(g:kr P)(h:TypeId)(a:World)(i:List P)(j:Value)(b:World):Prop:=
 ∃c d n e,j= .slice c d n/\aV g h e b c d n i/\ai a b/\∀f,e f->a.heap.size<=f
def Row.lit{enc:j->Value}{c:j->Prop}{hl h1}{bytes:Nat}{cs:Array Value}(d:b.heap[a]? =some (.cells cs g H))(P:List j)(h:cs.toList=P.map enc)(i:∀n∈P,c n)(k:P.length*bytes<=aT):
  Row (flat 1 (λn=>[enc n]) c hl h1) bytes b (·=a) (PP a) P.length P:=
 ⟨rfl,k,λe n f=>⟨a,0,[enc n],rfl,aA d,rfl,λl m=>by
  have:l=0:=Nat.lt_one_iff.1 m;subst this;have:cs.toList[e]? =some (enc n):=by rw[h];simp[f]
  have o:=ae d (off:=e) (v:=enc n) (by simpa using this);simpa[flat]using o,rfl,i n (QZ f)⟩⟩
def Row.part{n:kr j}{bytes:Nat}{D:LL}{f:List j}(c:Row n bytes b D d a f){lo hi cap:Nat}(u:lo<=hi)(v:hi<=a)(w:a<=cap):
  Row n bytes b D (cZ d lo cap n.k) (hi-lo) ((f.take hi).drop lo):=by
 have x:=c.len;refine⟨by simp;omega,Xx (Q0 _ oM) c.fe,λg h P=>?_⟩;rw[List.getElem?_drop,Xw]at P;split at P
 ·rename_i y
  obtain⟨i,e,k,l,m,o,p,q⟩:=c.el (lo+g) h P
  by_cases r:cap=lo
  ·omega
  ·exact⟨i,e+lo*n.k,k,by rw[l];simp[cZ,r,Addr.add_lit],m,o,λs t=>by rw[<-p s t];congr 2;rw[X7];omega,q⟩
 ·cases P
def aV.lv{n:kr j}{P:List j}(e:aV n g f b d a c P):a<=c:=by
 obtain⟨cs,i,h,_⟩:=e.body;exact h.RO
def Row.take{c:kr j}{bytes:Nat}{D:LL}{e:List j}(P:Row c bytes b D d a e){m:Nat}(f:m<=a):Row c bytes b D d m (e.take m):=by
 have h:=P.len;refine⟨by simp;omega,Xx (Q0 _ f) P.fe,λg x n=>?_⟩;rw[Xw]at n;split at n
 ·exact P.el g x n
 ·cases n
def Aq{e:kr j}{o:List j}{bytes:Nat}(s:aV e g f b d a c o)(t:kM h r g e.k bytes){D:LL}{k:List j}(y:Row e bytes b D v i k)(A:v=none->i=0/\p=0)(B:∀n,D n->n<b.heap.size/\aG d≠some n)(l:(o.length+k.length)*bytes<=aT)(E:o.length+k.length<=maxLen)(m:∀w P x z,aV e g z x w (a+i) P (o++k)->aj (λF=>aG d=some F) b x->(∀n,z n->f n\/D n\/b.heap.size<=n)->(∀n,aG w=some n->f n\/b.heap.size<=n)->q (.slice w (a+i) P) x):
  aJ h (Builtin.append_ #[r,r] C #[.slice d a c,.slice v i p]) b q u:=by
 cases v with
 |some M=>exact lG s t y B l E m
 |none=>
  obtain⟨rfl,rfl⟩:=A rfl;have H:k=[]:=QW y.len.symm;subst H;obtain⟨I,N,J,O,Q,R,S⟩:=kM.info t;obtain⟨cs,T,K,U,V⟩:=s.body;have L:=run_append_owned_none (P:=h) (w:=b) 0 r C g I e.k t.under J (.slice d a c) a cs K.row;exact aJ.mk L (m d c b f (by simpa using s) (aj.refl _) (λn l=>.inl l) λn l=>.inl (s.self n l))
def aV.OB{n:kr j}{P:List j}(e:aV n g f b d a c P)(h:d=none):a=0/\c=0:=by
 obtain⟨cs,o,i,_⟩:=e.body;rcases i.cases with⟨_,k,l,_⟩|⟨p,m,rfl,_⟩
 ·exact⟨k,l⟩
 ·cases h
def Wd(i:kM h g r 1 1)(d:(h.info? r).bind (·.zero)=some (.int .u8 0))(j:a<=c)(n:c<=aT)(e:∀P,aV gh r (·=b.heap.size) P (PP b.heap.size) a c (List.replicate a 0)->ai b P->P.heap.size=b.heap.size+1->q (.slice (PP b.heap.size) a c) P):
  aJ h (Instr.makeSlice g (ZT (a:Int)) (ZT (c:Int))) b q u:=by
 unfold aT at n;obtain⟨o,p,k,l,s,t,A⟩:=i.info;have v:p= .int .u8 0:=by
  rw[k]at d;simp only[Option.bind_some,l]at d;exact XJ d
 subst v;have m:=run_make (P:=h) b g r o _ i.under k l .i64 .i64 a c oM oM (by rw[t];omega) oM;rw[Qx,Qx,s,Nat.mul_one]at m;have w:ai b (b.alloc (.cells (madeCells (Value.int .u8 0).cells c) r)):=aj.alloc b _;have x:(madeCells (Value.int .u8 0).cells c).toList=List.replicate c (.int .u8 0):=by
  unfold madeCells;rw[Array.toList_map];apply List.ext_getElem
  ·simp
  ·intro B C E
   simp[Value.cells,Nat.mod_one]
 refine aJ.mk m (e _ ⟨⟨List.replicate a (.int .u8 0),λ_=>False,⟨⟨by simp[gh,flat],.inr ⟨b.heap.size,c,_,rfl,Qj _,heap_alloc_new b _,j,by unfold maxLen;omega,by simp[size_madeCells,gh,flat],?_⟩⟩⟩,?_,λ_ e=>e.elim⟩,λy n=>by simpa[aG]using n.symm,λy n=>by subst n;simp⟩ w sM)
 ·rw[x]
  simp only[gh,flat,Nat.mul_one,List.take_replicate];rw[X2 j]
 ·have f:∀a:Nat,bM gh (b.alloc (.cells (madeCells (Value.int .u8 0).cells c) r)) (λ_=>False) (List.replicate a 0) (List.replicate a (.int .u8 0)):=by
   intro a
   induction a with
   |zero=>rfl
   |succ a z=>exact⟨[.int .u8 0],List.replicate a (.int .u8 0),rfl,⟨rfl,trivial⟩,z⟩
  exact f a
end Go.aq
namespace Go.aq
open Go
def fV(n:Nat):List UInt8:=if P:n=0 then []else UInt8.ofNat (n % 256)::fV (n/256)
termination_by n
decreasing_by omega
def jO:fV 0=[]:=by rw[fV];simp
variable{e:Int}{a:Nat}
def lM(n:a≠0):fV a=UInt8.ofNat (a % 256)::fV (a/256):=by rw[fV];simp[n]
def yS:∀(n:Nat),n<2 ^ 64->(fV n).length=(Lib.bitLen n+7)/8:=by
 intro n
 induction n using Nat.strongRecOn with
 |_ n b=>
  intro a
  by_cases P:n=0
  ·subst P;rw[jO];decide
  ·rw[lM P,Xq]
   by_cases c:n<256
   ·have d:n/256=0:=oM
    rw[d,jO];have f:Lib.bitLen n<=8:=Lib.bitLen_le8 ⟨n,c⟩;have g:1<=Lib.bitLen n:=(Lib.bitLenAux_bounds 64 n a P).1;simp;omega
   ·have:=b (n/256) oM oM
    rw[this];have e:=Lib.bitLen_shift 8 n oM a;rw[show(2:Nat) ^ 8=256 from rfl]at e;omega
def CB{u:Nat}(n:u<2 ^ 64):(fV u).length<=8:=by
 rw[yS u n]
 by_cases P:u=0
 ·subst P;decide
 ·have a:=Lib.bitLenAux_bounds 64 u n P
  have:Lib.bitLen u<=64:=by
   apply Nat.le_of_not_lt;intro b;have c:2 ^ 64<=2 ^(Lib.bitLen u-1):=Nat.pow_le_pow_right oM oM;have d:2 ^(Lib.bitLen u-1)<=u:=a.2.1;omega
  omega
def Sn:∀(a n:Nat),a<(fV n).length->(fV n)[a]? =some (UInt8.ofNat (n/256 ^ a % 256)):=by
 intro a
 induction a with
 |zero=>
  intro n P
  by_cases b:n=0
  ·subst b;rw[jO]at P;simp at P
  ·rw[lM b];simp
 |succ a c=>
  intro n P
  by_cases b:n=0
  ·subst b;rw[jO]at P;simp at P
  ·rw[lM b]at P⊢
   have:=c (n/256) (by simpa using P);rw[ZZ,this,Nat.div_div_eq_div_mul,Nat.pow_succ,Nat.mul_comm 256]
def gM(n:List UInt8):Nat:=n.foldl (λP a=>P*256+a.toNat) 0
def yT(n:List UInt8)(P:UInt8):gM (n++[P])=gM n*256+P.toNat:=by simp[gM,List.foldl_append]
def NB(n:List UInt8):gM n<256 ^ n.length:=by
 suffices b:∀(n:List UInt8) (P a:Nat),P<256 ^ a->n.foldl (λP c=>P*256+c.toNat) P<256 ^(a+n.length) by
  have:=b n 0 0 sM;simpa[gM]using this
 intro n
 induction n with
 |nil=>intro P a b;simpa using b
 |cons c n d=>
  intro P a b;have e:=c.toNat_lt;have:=d (P*256+c.toNat) (a+1) (by rw[Nat.pow_succ];omega);rw[List.foldl_cons,Xq];rw[show a+(n.length+1)=a+1+n.length by omega];exact this
def Sp:∀(n:Nat),gM (fV n).reverse=n:=by
 intro n
 induction n using Nat.strongRecOn with
 |_ n a=>
  by_cases P:n=0
  ·subst P;rw[jO];rfl
  ·rw[lM P,List.reverse_cons,yT,a (n/256) oM]
   have:(UInt8.ofNat (n % 256)).toNat=n % 256:=by rw[ZK];omega
   rw[this];omega
def Po:∀(n:Nat),n≠0->(fV n).getLast? ≠some 0:=by
 intro n
 induction n using Nat.strongRecOn with
 |_ n b=>
  intro c;rw[lM c]
  by_cases P:n/256=0
  ·rw[P,jO]
   simp only[List.getLast?_singleton,ne_eq,Q1];intro d;have:=Zj UInt8.toNat d;rw[ZK]at this;simp at this;omega
  ·have a:fV (n/256)≠[]:=by rw[lM P];simp
   rw[List.getLast?_cons,List.getLast?_eq_some_getLast a,Option.getD_some];have:=b (n/256) oM P;rw[List.getLast?_eq_some_getLast a]at this;exact this
def dY(n:Int):List UInt8:=UInt8.ofNat ((fV n.natAbs).length+if n<0 then 16 else 0)::(fV n.natAbs).reverse
def rdNum(b:List UInt8):Int×Int×Nat:=match b with
 |[]=>(4,0,0)
 |h::a=>
  let n:=if 16<h.toNat then h.toNat-16 else h.toNat
  let P:=gM (a.take n)
  if 8<n then(5,0,0)
  else if a.length<n then(4,0,0)
  else if(0<n/\a.head? =some 0)\/(¬16<h.toNat/\2 ^ 63<=P)\/(16<h.toNat/\2 ^ 63<P)then(5,0,0)
  else(0,if 16<h.toNat then-(P:Int)else P,n+1)
def Fw(p:aM e)(c:List UInt8):rdNum (dY e++c)=(0,e,(dY e).length):=by
 unfold aM at p;have q:e.natAbs<2 ^ 64:=oM
 have r:=CB q;have d:(fV e.natAbs).reverse.length=(fV e.natAbs).length:=List.length_reverse ..;have g:=Sp e.natAbs;have l:e<0->1<=(fV e.natAbs).length:=λu=>by rw[lM oM];simp
 have h:0<(fV e.natAbs).length->((fV e.natAbs).reverse++c).head? ≠some 0:=λf=>by
  have s:e.natAbs≠0:=λb=>by rw[b,jO]at f;simp at f
  have:=Po _ s;rw[List.head?_append,List.head?_reverse]
  cases i:(fV e.natAbs).getLast? with
  |none=>rw[List.getLast?_eq_none_iff]at i;rw[i]at f;simp at f
  |some v=>rw[i]at this;simpa using this
 unfold dY;rw[List.cons_append];generalize fV e.natAbs=n at r d g l h⊢;have t:(UInt8.ofNat (n.length+if e<0 then 16 else 0)).toNat=n.length+if e<0 then 16 else 0:=by
  rw[ZK];split<;>omega
 have m:(n.reverse++c).take n.length=n.reverse:=by
  rw[<-d,List.take_left]
 have o:¬(n.reverse++c).length<n.length:=sM
 unfold rdNum;simp only[t]
 by_cases j:e<0
 ·have w:=l j
  simp only[Zx j];have k:(if 16<n.length+16 then n.length+16-16 else n.length+16)=n.length:=by rw[Zx oM];omega
  simp only[k,m,g];rw[Zq oM,Zq o,Zq,Zx oM]
  ·have b: -(e.natAbs:Int)=e:=oM
   rw[b,Xq,d]
  ·rintro(⟨P,a⟩|⟨P,a⟩|⟨P,a⟩)
   ·exact h P a
   ·omega
   ·omega
 ·simp only[Zq j,Nat.add_zero]
  have k:(if 16<n.length then n.length-16 else n.length)=n.length:=by rw[Zq oM]
  simp only[k,m,g];rw[Zq oM,Zq o,Zq,Zq oM]
  ·have b:(e.natAbs:Int)=e:=oM
   rw[b,Xq,d]
  ·rintro(⟨P,a⟩|⟨P,a⟩|⟨P,a⟩)
   ·exact h P a
   ·omega
   ·omega
end Go.aq
namespace Go.aq
open Go
abbrev sk:=BitVec 32
def BK:sk:=0xEDB88320#32
def nZ(n:sk):sk:=(n>>>1) ^^^(if n.getLsbD 0 then BK else 0#32)
def BL(n P:sk):nZ (n ^^^ P)=nZ n ^^^ nZ P:=by
 unfold nZ;rw[BitVec.ushiftRight_xor_distrib,BitVec.getLsbD_xor]
 cases n.getLsbD 0<;>cases P.getLsbD 0<;>simp only[Bool.xor_false,Bool.xor_true,Bool.not_true,Bool.not_false,if_true,if_false,Bool.false_eq_true,BitVec.xor_zero,BitVec.zero_xor]
 ·ac_rfl
 ·ac_rfl
 ·have:(n>>>1 ^^^ BK) ^^^(P>>>1 ^^^ BK)=(n>>>1 ^^^ P>>>1) ^^^(BK ^^^ BK):=by ac_rfl
  rw[this,BitVec.xor_self,BitVec.xor_zero]
def pI(n:sk):sk:=nZ (nZ (nZ (nZ (nZ (nZ (nZ (nZ n)))))))
def Ez(n P:sk):pI (n ^^^ P)=pI n ^^^ pI P:=by
 unfold pI;simp only[BL]
def VH(n:Bool):sk:=if n then 1#32 else 0#32
def BM(n:sk)(P:Bool):sk:=(n>>>1) ^^^(if n.getLsbD 0 !=P then BK else 0#32)
def EA(n:sk)(P:Bool):BM n P=nZ (n ^^^ VH P):=by
 unfold BM
 cases P
 ·simp[VH,nZ]
 ·rw[BL]
  have:nZ (VH true)=BK:=by decide+kernel
  rw[this];unfold nZ
  cases n.getLsbD 0
  ·simp
  ·have a:(n>>>1 ^^^(if true=true then BK else 0#32)) ^^^ BK=n>>>1 ^^^(BK ^^^ BK):=by rw[Zx rfl];ac_rfl
   rw[a,BitVec.xor_self];simp
def k_(n:sk)(P:UInt8):sk:=(List.range 8).foldl (λn a=>BM n (P.toNat.testBit a)) n
def yz(n:UInt8):sk:=BitVec.ofNat 32 n.toNat
def IM(n:sk)(a:UInt8):k_ n a=pI n ^^^ k_ 0#32 a:=by
 have e:∀(P:List Nat) (b c:sk),(P.foldl (λn d=>BM n (a.toNat.testBit d)) (b ^^^ c))=(P.foldl (λn _=>nZ n) b) ^^^(P.foldl (λn d=>BM n (a.toNat.testBit d)) c):=by
  intro P
  induction P with
  |nil=>intro b c;rfl
  |cons d P f=>
   intro b c;simp only[List.foldl_cons];rw[<-f]
   congr 1
   rw[EA,EA];simp only[BL]
   ac_rfl
 have:=e (List.range 8) n 0#32;rw[BitVec.xor_zero]at this;exact this
def IN(n:UInt8):k_ 0#32 n=pI (yz n):=by
 have a:(List.range 256).all (λP=>k_ 0#32 (UInt8.ofNat P)==pI (yz (UInt8.ofNat P)))=true:=by decide+kernel
 have:=ZY.1 a n.toNat (List.mem_range.2 n.toNat_lt);simpa using this
def Lz(n:sk)(P:UInt8):k_ n P=pI (n ^^^ yz P):=by
 rw[IM,IN,Ez]
def OE{n:sk}(P:n.getLsbD 0=false):nZ n=n>>>1:=by
 unfold nZ;rw[P];simp
def LA(P:sk):pI (P&&&0xFFFFFF00#32)=P>>>8:=by
 have bit:∀n,n<8->((P&&&0xFFFFFF00#32)>>>n).getLsbD 0=false:=λn b=>by
  rw[BitVec.getLsbD_ushiftRight,BitVec.getLsbD_and,Nat.add_zero];have:(0xFFFFFF00#32:sk).getLsbD n=false:=by
   have c:(List.range 8).all (λn=>(0xFFFFFF00#32:sk).getLsbD n==false)=true:=by decide+kernel
   simpa using ZY.1 c n (List.mem_range.2 b)
  rw[this,Bool.and_false]
 have step:∀n,n<8->nZ ((P&&&0xFFFFFF00#32)>>>n)=(P&&&0xFFFFFF00#32)>>>(n+1):=λn b=>by
  rw[OE (bit n b),BitVec.shiftRight_add]
 have d:P&&&0xFFFFFF00#32=(P&&&0xFFFFFF00#32)>>>0:=sM
 unfold pI;rw[d,step 0 oM,step 1 oM,step 2 oM,step 3 oM,step 4 oM,step 5 oM,step 6 oM,step 7 oM];apply BitVec.eq_of_getLsbD_eq;intro a e;rw[BitVec.getLsbD_ushiftRight,BitVec.getLsbD_ushiftRight,BitVec.getLsbD_and]
 by_cases f:7+1+a<32
 ·have:(0xFFFFFF00#32:sk).getLsbD (7+1+a)=true:=by
   have c:(List.range 24).all (λa=>(0xFFFFFF00#32:sk).getLsbD (7+1+a)==true)=true:=by decide+kernel
   simpa using ZY.1 c a (List.mem_range.2 oM)
  rw[this,Bool.and_true]
 ·rw[BitVec.getLsbD_of_ge _ _ oM]
  simp
def ky:List Nat:=[0x00000000,0x77073096,0xEE0E612C,0x990951BA,0x076DC419,0x706AF48F,0xE963A535,0x9E6495A3,0x0EDB8832,0x79DCB8A4,0xE0D5E91E,0x97D2D988,0x09B64C2B,0x7EB17CBD,0xE7B82D07,0x90BF1D91]
def kC:List Nat:=[0x00000000,0x1DB71064,0x3B6E20C8,0x26D930AC,0x76DC4190,0x6B6B51F4,0x4DB26158,0x5005713C,0xEDB88320,0xF00F9344,0xD6D6A3E8,0xCB61B38C,0x9B64C2B0,0x86D3D2D4,0xA00AE278,0xBDBDF21C]
def LB(n:UInt8):pI (yz n)=BitVec.ofNat 32 (ky.getD (n.toNat % 16) 0) ^^^ BitVec.ofNat 32 (kC.getD (n.toNat/16) 0):=by
 have a:(List.range 256).all (λP=>pI (yz (UInt8.ofNat P))==BitVec.ofNat 32 (ky.getD ((UInt8.ofNat P).toNat % 16) 0) ^^^ BitVec.ofNat 32 (kC.getD ((UInt8.ofNat P).toNat/16) 0))=true:=by decide+kernel
 have:=ZY.1 a n.toNat (List.mem_range.2 n.toNat_lt);simpa using this
def OD(n:sk)(a:UInt8):k_ n a=n>>>8 ^^^ BitVec.ofNat 32 (ky.getD ((a.toNat ^^^ n.toNat % 256) % 16) 0) ^^^ BitVec.ofNat 32 (kC.getD ((a.toNat ^^^ n.toNat % 256)/16) 0):=by
 have f:=a.toNat_lt;have m:a.toNat ^^^ n.toNat % 256<2 ^ 8:=Nat.xor_lt_two_pow oM oM;have b:(UInt8.ofNat (a.toNat ^^^ n.toNat % 256)).toNat=a.toNat ^^^ n.toNat % 256:=by
  rw[ZK];omega
 have c:=LB (UInt8.ofNat (a.toNat ^^^ n.toNat % 256));rw[b]at c;have g:n ^^^ yz a=yz (UInt8.ofNat (a.toNat ^^^ n.toNat % 256)) ^^^(n&&&0xFFFFFF00#32):=by
  apply BitVec.eq_of_getLsbD_eq;intro P d;unfold yz;rw[b,BitVec.getLsbD_xor,BitVec.getLsbD_xor,BitVec.getLsbD_and,BitVec.getLsbD_ofNat,BitVec.getLsbD_ofNat,Nat.testBit_xor];have h:(n.toNat % 256).testBit P=(decide (P<8)&&n.toNat.testBit P):=by
   rw[show 256=2 ^ 8 from rfl,Nat.testBit_mod_two_pow]
  have i:n.getLsbD P=n.toNat.testBit P:=rfl;rw[h,i];have j:(0xFFFFFF00#32:sk).getLsbD P=decide (8<=P):=by
   have k:(List.range 32).all (λP=>(0xFFFFFF00#32:sk).getLsbD P==decide (8<=P))=true:=by decide+kernel
   simpa using ZY.1 k P (List.mem_range.2 d)
  rw[j,Zy d]
  by_cases e:P<8
  ·rw[Zy e,Xv oM]
   cases n.toNat.testBit P<;>cases a.toNat.testBit P<;>rfl
  ·have l:a.toNat.testBit P=false:=Nat.testBit_lt_two_pow (Qk f (by
    have:=Nat.pow_le_pow_right (n:=2) oM (show 8<=P by omega);simpa using this))
   rw[Xv e,Zy oM,l]
   cases n.toNat.testBit P<;>rfl
 rw[Lz,g,Ez,LA,c]
 ac_rfl
def Nf(n:sk)(P:List UInt8):sk:= ~~~(P.foldl k_ (~~~n))
def Ly(n:List UInt8):sk:=Nf 0#32 n
end Go.aq
namespace Go.aq
open Go
structure ia where
 bytes:List UInt8
 pos:Nat
 sv:Int
def ia.num(n:ia):Int×Int×Nat:=rdNum (n.bytes.drop n.pos)
def fl(n:ia):Int×ia:=if n.sv≠0 then(0,n)else if n.num.1=0 then(n.num.2.1,⟨n.bytes,n.pos+n.num.2.2,0⟩)else(0,⟨n.bytes,n.pos,n.num.1⟩)
def bE(P:Int)(n:ia):Int×ia:=if n.sv≠0 then(0,n)else if n.num.1=0 then(if n.num.2.1<0\/P<n.num.2.1 then(0,⟨n.bytes,n.pos,3⟩)else(n.num.2.1,⟨n.bytes,n.pos+n.num.2.2,0⟩))else(0,⟨n.bytes,n.pos,n.num.1⟩)
def ic(n:ia):Int:=if n.sv=0/\n.pos<n.bytes.length then 5 else n.sv
def aW:Nat->ia->List Int×ia
 |0,n=>([],n)
 |k+1,n=>((aW k n).1++[(fl (aW k n).2).1],(fl (aW k n).2).2)
def ki(n:List UInt8):aM (rdNum n).2.1/\(rdNum n).2.2<=n.length/\(rdNum n).2.2<=9/\((rdNum n).1=0\/(rdNum n).1=4\/(rdNum n).1=5)/\((rdNum n).1=0->1<=(rdNum n).2.2):=by
 unfold rdNum
 cases n with
 |nil=>simp[aM]
 |cons P c=>
  simp only;generalize(if 16<P.toNat then P.toNat-16 else P.toNat)=a;have j:=NB (c.take a);generalize gM (c.take a)=b at j
  by_cases g:8<a
  ·rw[Zx g];simp[aM]
  rw[Zq g]
  by_cases h:c.length<a
  ·rw[Zx h];simp[aM]
  rw[Zq h]
  by_cases d:(0<a/\c.head? =some 0)\/(¬16<P.toNat/\2 ^ 63<=b)\/(16<P.toNat/\2 ^ 63<b)
  ·rw[Zx d];simp[aM]
  rw[Zq d];have i:(¬16<P.toNat->b<2 ^ 63)/\(16<P.toNat->b<=2 ^ 63):=by
   refine⟨λe=>?_,λe=>?_⟩
   ·exact Nat.lt_of_not_le λf=>d (.inr (.inl ⟨e,f⟩))
   ·exact Nat.le_of_not_lt λf=>d (.inr (.inr ⟨e,f⟩))
  refine⟨?_,by simp;omega,by show a+1<=9;omega,.inl rfl,λ_=>by show 1<=a+1;omega⟩;show aM (if 16<P.toNat then-(b:Int)else b);unfold aM;split
  ·have:=i.2 (by assumption);omega
  ·have:=i.1 (by assumption);omega
structure ia.Fit (r:ia):Prop where
 pos:r.pos<=r.bytes.length
 sv:r.sv=0\/r.sv=3\/r.sv=4\/r.sv=5
variable{e:Int}{t:List Int}{b0 w:List UInt8}{a:Nat}{T:ia}
def ia.Fit.int(P:T.Fit):(fl T).2.Fit/\aM (fl T).1/\(fl T).2.bytes=T.bytes:=by
 obtain⟨a,b,d,n,e⟩:=ki (T.bytes.drop T.pos);have c:=P.pos;rw[XZ]at b;unfold fl ia.num;split
 ·exact⟨P,by simp[aM],rfl⟩
 ·split
  ·exact⟨⟨by show T.pos+_<=T.bytes.length;omega,.inl rfl⟩,a,rfl⟩
  ·exact⟨⟨c,by show _\/_;rcases n with n|n|n<;>simp[n]⟩,by simp[aM],rfl⟩
def ia.Fit.count{r:ia}(a:r.Fit){m:Int}(P:0<=m):(bE m r).2.Fit/\0<=(bE m r).1/\(bE m r).1<=m/\(bE m r).2.bytes=r.bytes:=by
 obtain⟨d,c,e,n,f⟩:=ki (r.bytes.drop r.pos);have b:=a.pos;rw[XZ]at c;unfold bE ia.num;split
 ·exact⟨a,sM,P,rfl⟩
 ·split
  ·split
   ·exact⟨⟨b,.inr (.inl rfl)⟩,sM,P,rfl⟩
   ·exact⟨⟨by show r.pos+_<=r.bytes.length;omega,.inl rfl⟩,by simp only;omega,by simp only;omega,rfl⟩
  ·exact⟨⟨b,by show _\/_;rcases n with n|n|n<;>simp[n]⟩,by simp,P,rfl⟩
def ia.Fit.ints{n:ia}(b:n.Fit):∀k,(aW k n).2.Fit/\(∀a∈(aW k n).1,aM a)/\(aW k n).1.length=k/\(aW k n).2.bytes=n.bytes
 |0=>⟨b,by simp[aW],rfl,rfl⟩
 |k+1=>by
  obtain⟨c,d,e,f⟩:=ia.Fit.ints b k;obtain⟨g,h,i⟩:=c.int;refine⟨g,?_,?_,i.trans f⟩
  ·intro a P
   rcases Q6.1 P with P|P
   ·exact d a P
   ·rw[List.mem_singleton]at P;subst P;exact h
  ·simp[aW,e]
structure ia.At (r:ia) (b:List UInt8) (l:List UInt8):Prop where
 bytes:r.bytes=b
 pos:r.pos<=b.length
 sv:r.sv=0
 rest:b.drop r.pos=l
def ia.At.int(n:T.At w (dY e++b0))(P:aM e):(fl T).1=e/\(fl T).2.At w b0:=by
 have a:T.num=(0,e,(dY e).length):=by unfold ia.num;rw[n.bytes,n.rest];exact Fw P b0
 have b:w.length-T.pos=(dY e).length+b0.length:=by
  have:=Zj List.length n.rest
  rwa [XZ,QX]at this
 have c:=n.pos;unfold fl;rw[a,Zq (by simp[n.sv]),Zx rfl];refine⟨rfl,n.bytes,by show T.pos+(dY e).length<=_;omega,rfl,?_⟩;show w.drop (T.pos+(dY e).length)=b0;rw[<-List.drop_drop,n.rest,List.drop_left]
def ia.At.count{r:ia}{n m:Int}(P:r.At w (dY n++b0))(a:aM n)(c:0<=n)(d:n<=m):(bE m r).1=n/\(bE m r).2.At w b0:=by
 have b:r.num=(0,n,(dY n).length):=by unfold ia.num;rw[P.bytes,P.rest];exact Fw a b0
 have e:w.length-r.pos=(dY n).length+b0.length:=by
  have:=Zj List.length P.rest
  rwa [XZ,QX]at this
 have f:=P.pos;unfold bE;rw[b,Zq (by simp[P.sv]),Zx rfl,Zq (by simp;omega)];refine⟨rfl,P.bytes,by show r.pos+(dY n).length<=_;omega,rfl,?_⟩;show w.drop (r.pos+(dY n).length)=b0;rw[<-List.drop_drop,P.rest,List.drop_left]
def bj(n:List Int):List UInt8:=(n.map dY).flatten
def lf(n:Int)(P:List Int):bj (n::P)=dY n++bj P:=by simp[bj]
def iS(n P:List Int):bj (n++P)=bj n++bj P:=by simp[bj]
def ia.At.ints:∀(n:List Int) {zs:List Int},T.At w (bj (n++zs)++b0)->(∀b∈n,aM b)->(aW n.length T).1=n/\(aW n.length T).2.At w (bj zs++b0):=by
 intro n;generalize P:n.length=d
 induction d generalizing n with
 |zero=>intro zs a _;have:=QW P;subst this;exact⟨rfl,a⟩
 |succ d c=>
  rcases List.eq_nil_or_concat n with rfl|⟨n,b,rfl⟩
  ·cases P
  rw[List.concat_eq_append]at P⊢;intro zs a e;rw[XQ]at a;rw[QX,List.length_singleton]at P;have c:=λ{zs:List Int}=>c n oM (zs:=zs);obtain⟨g,f⟩:=c a λh i=>e h (ZV _ i);rw[List.singleton_append,lf,XQ]at f;obtain⟨j,k⟩:=f.int (e b sM);exact⟨by show _++[_]=_;rw[g,j],k⟩
def ia.At.done(n:T.At w []):ic T=0:=by
 have P:=Zj List.length n.rest;rw[XZ,ZQ]at P;unfold ic;rw[n.bytes,n.sv,Zq oM]
structure ah where
 origin:Int
 seq:Int
 aB:Int
 aN:List Int
 aZ:Int
 agg:Int
 field:Int
 op:Int
 arg:Int
 key:Int
deriving DecidableEq
structure ah.Ok (e:ah):Prop where
 origin:aM e.origin
 seq:aM e.seq
 aB:aM e.aB
 aN:∀x∈e.aN,aM x
 aZ:aM e.aZ
 agg:aM e.agg
 field:aM e.field
 op:aM e.op
 arg:aM e.arg
 key:aM e.key
def BW:ah:=⟨0,0,0,[],0,0,0,0,0,0⟩
def PT:BW.Ok:=by constructor<;>simp[BW,aM]
def fU(n:ah):List Int:=[n.origin,n.seq,n.aB,(n.aN.length:Int)]++n.aN++[n.aZ,n.agg,n.field,n.op,n.arg,n.key]
def jw(n:ah):List UInt8×Int:=if 64<n.aN.length then([],3)else(bj (fU n),0)
def jL(c:ia):ah×ia:=
 (λP=>(λa=>(λb=>(λn=>(⟨P.1.getD 0 0,P.1.getD 1 0,P.1.getD 2 0,b.1,n.1.getD 0 0,n.1.getD 1 0,n.1.getD 2 0,n.1.getD 3 0,n.1.getD 4 0,n.1.getD 5 0⟩,n.2))
  (aW 6 b.2)) (aW a.1.toNat a.2)) (bE 64 P.2)) (aW 3 c)
def iU(n:List UInt8):ah×Int:=if ic (jL ⟨n,0,0⟩).2≠0 then(BW,ic (jL ⟨n,0,0⟩).2)else((jL ⟨n,0,0⟩).1,0)
def fq(a:∀n∈t,aM n)(P:Nat):aM (t.getD P 0):=by
 rw[QQ]
 cases b:t[P]? with
 |none=>simp[aM]
 |some n=>exact a n (QZ b)
def PU{r:ia}(a:r.Fit):(jL r).2.Fit/\(jL r).1.Ok/\(jL r).1.aN.length<=64:=by
 obtain⟨b,P,h,i⟩:=a.ints 3;obtain⟨c,j,k,l⟩:=b.count (m:=64) oM;obtain⟨d,e,f,m⟩:=c.ints (bE 64 (aW 3 r).2).1.toNat;obtain⟨g,n,o,p⟩:=d.ints 6;refine⟨g,⟨fq P 0,fq P 1,fq P 2,e,fq n 0,fq n 1,fq n 2,fq n 3,fq n 4,fq n 5⟩,?_⟩;show(aW _ _).1.length<=64;rw[f];omega
def SE(n:List UInt8):(iU n).1.Ok/\(iU n).1.aN.length<=64:=by
 unfold iU;have:=PU (r:=⟨n,0,0⟩) ⟨Qj _,.inl rfl⟩;split
 ·exact⟨PT,by simp[BW]⟩
 ·exact this.2
variable{m:ah}
def PV(n:m.Ok)(u:m.aN.length<=64):iU (bj (fU m))=(m,0):=by
 have b:(ia.mk (bj (fU m)) 0 0).At (bj (fU m)) (bj ([m.origin,m.seq,m.aB]++((m.aN.length:Int)::(m.aN++[m.aZ,m.agg,m.field,m.op,m.arg,m.key])))++[]):=
  ⟨rfl,Qj _,rfl,by rw[List.drop_zero,List.append_nil];simp[fU]⟩
 generalize bj (fU m)=P at b⊢;obtain⟨e,c⟩:=ia.At.ints [m.origin,m.seq,m.aB] b (by intro f a;simp at a;rcases a with rfl|rfl|rfl<;>first|exact n.origin|exact n.seq|exact n.aB);rw[lf,XQ]at c;obtain⟨g,h⟩:=c.count (m:=64) (by unfold aM;omega) oM oM;obtain⟨i,j⟩:=ia.At.ints m.aN h n.aN;have k:(aW m.aN.length (bE 64 (aW [m.origin,m.seq,m.aB].length ⟨P,0,0⟩).2).2).2.At P (bj ([m.aZ,m.agg,m.field,m.op,m.arg,m.key]++[])++[]):=j;obtain⟨l,o⟩:=ia.At.ints [m.aZ,m.agg,m.field,m.op,m.arg,m.key] k (by intro f a;simp at a;rcases a with rfl|rfl|rfl|rfl|rfl|rfl<;>first|exact n.aZ|exact n.agg|exact n.field|exact n.op|exact n.arg|exact n.key);have d:jL ⟨P,0,0⟩=(m,(aW 6 (aW m.aN.length (bE 64 (aW 3 ⟨P,0,0⟩).2).2).2).2):=by
  have p:(bE 64 (aW 3 ⟨P,0,0⟩).2).1=(m.aN.length:Int):=g;have q:(aW 3 ⟨P,0,0⟩).1=[m.origin,m.seq,m.aB]:=e;have r:(aW 6 (aW m.aN.length (bE 64 (aW 3 ⟨P,0,0⟩).2).2).2).1=[m.aZ,m.agg,m.field,m.op,m.arg,m.key]:=l;have s:(aW m.aN.length (bE 64 (aW 3 ⟨P,0,0⟩).2).2).1=m.aN:=i;unfold jL;simp only[p,q,Qx,r,s]
  rfl
 have t:ic (jL ⟨P,0,0⟩).2=0:=by rw[d];exact ia.At.done (by simpa[bj]using o)
 unfold iU;rw[t,Zq sM,d]
def Qa(n:Nat):List UInt8:=[UInt8.ofNat (n/16777216),UInt8.ofNat (n/65536),UInt8.ofNat (n/256),UInt8.ofNat n]
def kD(P:Int)(n:List UInt8):List UInt8:=[UInt8.ofNat P.toNat,UInt8.ofNat (n.length/65536),UInt8.ofNat (n.length/256),UInt8.ofNat n.length]++n
def cC(n:Int)(P:List UInt8):List UInt8:=kD n P++Qa (Ly (kD n P)).toNat++[10]
def kU(n:Int)(P:List UInt8):List UInt8×Int:=if n<1\/255<n then([],2)else if 65536<P.length then([],5)else(cC n P,0)
structure ZR where
 kind:Int
 body:List UInt8
 n:Nat
 no:Int
def br(n:List UInt8):ZR:=if n.length<4 then⟨0,[],0,4⟩else if n.getD 0 0=0 then⟨0,[],0,2⟩else
 (λP=>if 65536<P then⟨0,[],0,5⟩else if n.length<P+9 then⟨0,[],0,4⟩else
  if n.take (P+9)=cC (n.getD 0 0).toNat ((n.drop 4).take P)then⟨(n.getD 0 0).toNat,(n.drop 4).take P,P+9,0⟩else⟨0,[],0,6⟩)
  ((n.getD 1 0).toNat*65536+(n.getD 2 0).toNat*256+(n.getD 3 0).toNat)
def eZ(P:Int)(n:List UInt8):(cC P n).length=n.length+9:=by simp[cC,kD,Qa]
def vV(n:(br w).no=0):(br w).n<=w.length/\9<=(br w).n/\(br w).n=(br w).body.length+9:=by
 unfold br at n⊢;generalize(w.getD 1 0).toNat*65536+(w.getD 2 0).toNat*256+(w.getD 3 0).toNat=e at n⊢;split at n
 ·cases n
 rename_i P;rw[Zq P];split at n
 ·cases n
 rename_i a;rw[Zq a];simp only at n⊢;split at n
 ·cases n
 rename_i b;rw[Zq b];split at n
 ·cases n
 rename_i c;rw[Zq c];split at n
 ·rename_i d
  rw[Zx d];refine⟨by simp only;omega,by simp only;omega,by simp;omega⟩
 ·cases n
def SZ(n:a<=65536):(UInt8.ofNat (a/65536)).toNat*65536+(UInt8.ofNat (a/256)).toNat*256+(UInt8.ofNat a).toNat=a:=by
 simp only[ZK];omega
def Fh{k:Int}{body r:List UInt8}(h:1<=k)(i:k<=255)(P:body.length<=65536):br (cC k body++r)=⟨k,body,body.length+9,0⟩:=by
 have n:(UInt8.ofNat k.toNat).toNat=k.toNat:=by rw[ZK];omega
 have a:(cC k body++r).getD 0 0=UInt8.ofNat k.toNat:=rfl;have b:(cC k body++r).getD 1 0=UInt8.ofNat (body.length/65536):=rfl;have c:(cC k body++r).getD 2 0=UInt8.ofNat (body.length/256):=rfl;have d:(cC k body++r).getD 3 0=UInt8.ofNat body.length:=rfl;have e:((cC k body++r).drop 4).take body.length=body:=by
  have:(cC k body++r).drop 4=body++(Qa (Ly (kD k body)).toNat++[10]++r):=by simp[cC,kD]
  rw[this,List.take_left]
 have f:=eZ k body;unfold br;rw[a,b,c,d,SZ P,Zq (by rw[QX];omega),Zq (by intro g;have:=Zj UInt8.toNat g;rw[n]at this;simp at this;omega)];simp only[e,n];rw[Zq oM,Zq (by rw[QX];omega),Zx]
 ·congr 1;omega
 ·rw[<-f,List.take_left]
  congr 1;omega
def XO(a:List UInt8)(n:a.length=4)(P:Nat)(j:P<2 ^ 32):gM a=P↔a=Qa P:=by
 match a,n with
 |[b,c,d,e],_=>
  have k:=b.toNat_lt;have l:=c.toNat_lt;have m:=d.toNat_lt;have o:=e.toNat_lt;have i:gM [b,c,d,e]=((b.toNat*256+c.toNat)*256+d.toNat)*256+e.toNat:=by simp[gM]
  rw[i];constructor
  ·intro n
   unfold Qa;have f:∀(g:UInt8) (h:Nat),g.toNat=h % 256->g=UInt8.ofNat h:=λg h n=>UInt8.toNat_inj.1 (by rw[ZK,n]);rw[f b (P/16777216) oM,f c (P/65536) oM,f d (P/256) oM,f e P oM]
  ·intro n
   unfold Qa at n;simp only[List.cons.injEq,and_true]at n;obtain⟨rfl,rfl,rfl,rfl⟩:=n;simp only[ZK];omega
def Ve:∀{P:List UInt8},4<=P.length->P.take 4=[P.getD 0 0,P.getD 1 0,P.getD 2 0,P.getD 3 0]
 |x::a::b::c::d,_=>rfl
 |[],n=>by simp at n
 |[_],n=>by simp at n
 |[_,_],n=>by simp at n
 |[_,_,_],n=>by simp at n
def VT{b:List UInt8}{n:Nat}(l:n+9<=b.length)(m:(b.getD 1 0).toNat*65536+(b.getD 2 0).toNat*256+(b.getD 3 0).toNat=n)(o:n<=65536):
  b.take (n+9)=cC (b.getD 0 0).toNat ((b.drop 4).take n)↔((Ly (b.take (4+n))).toNat=gM ((b.drop (4+n)).take 4)/\b.getD (8+n) 0=10):=by
 have g:((b.drop 4).take n).length=n:=by simp;omega
 have P:∀(a:UInt8) (c:Nat),a.toNat=c % 256->UInt8.ofNat c=a:=λa c d=>UInt8.toNat_inj.1 (by rw[ZK,d]);have p:=(b.getD 1 0).toNat_lt;have q:=(b.getD 2 0).toNat_lt;have r:=(b.getD 3 0).toNat_lt;have h:kD (b.getD 0 0).toNat ((b.drop 4).take n)=b.take (4+n):=by
  unfold kD;rw[g,Qx,P (b.getD 0 0) _ (by have:=(b.getD 0 0).toNat_lt;omega),P (b.getD 1 0) (n/65536) oM,P (b.getD 2 0) (n/256) oM,P (b.getD 3 0) n oM];rw[List.take_add]
  congr 1
  exact(Ve oM).symm
 have i:b.take (n+9)=b.take (4+n)++(b.drop (4+n)).take 4++[b.getD (8+n) 0]:=by
  rw[show n+9=(4+n)+(4+1) by omega,List.take_add,XQ,List.take_add (l:=b.drop (4+n)),List.drop_drop]
  congr 2
  rw[show 4+n+4=8+n by omega,QQ,Qq oM,Option.getD_some];rw[X4 oM]
  rfl
 unfold cC;rw[h,i];have j:((b.drop (4+n)).take 4).length=4:=by simp;omega
 have k:(Ly (b.take (4+n))).toNat<2 ^ 32:=(Ly (b.take (4+n))).isLt;rw[eq_comm (b:=gM _),XO _ j _ k];constructor
 ·intro d
  obtain⟨e,f⟩:=List.append_inj' d rfl;exact⟨List.append_cancel_left e,by simpa using f⟩
 ·rintro⟨e,f⟩
  rw[e,f]
def bF(n:List UInt8):List ah×Nat:=
 if P:(br n).no=0/\(br n).kind=1/\(iU (br n).body).2=0 then((iU (br n).body).1::(bF (n.drop (br n).n)).1,(br n).n+(bF (n.drop (br n).n)).2)else([],0)
termination_by n.length
decreasing_by all_goals(have:=vV P.1;simp;omega)
def yW(n:(br w).no=0/\(br w).kind=1/\(iU (br w).body).2=0):bF w=((iU (br w).body).1::(bF (w.drop (br w).n)).1,(br w).n+(bF (w.drop (br w).n)).2):=by
 rw[bF,dif_pos n]
def CO(n:¬((br w).no=0/\(br w).kind=1/\(iU (br w).body).2=0)):bF w=([],0):=by
 rw[bF,dif_neg n]
def PW(n:aM e):(dY e).length<=9:=by
 unfold aM at n;have:=CB (u:=e.natAbs) oM;simp[dY];omega
def fT:∀{l:List Int},(∀P∈l,aM P)->(bj l).length<=9*l.length
 |[],_=>by simp[bj]
 |n::l,a=>by
  rw[lf,QX,Xq];have c:=PW (a n (QV ..));have d:=fT (l:=l) λP b=>a P (QJ _ b);omega
def ah.Ok.ints(n:m.Ok)(b:m.aN.length<=4611686018427387904):∀a∈fU m,aM a:=by
 intro a P;simp only[fU,Q6,Q2,List.not_mem_nil,or_false]at P;rcases P with((rfl|rfl|rfl|rfl)|P)|(rfl|rfl|rfl|rfl|rfl|rfl)
 ·exact n.origin
 ·exact n.seq
 ·exact n.aB
 ·unfold aM;omega
 ·exact n.aN a P
 ·exact n.aZ
 ·exact n.agg
 ·exact n.field
 ·exact n.op
 ·exact n.arg
 ·exact n.key
def EW(n:m.Ok)(P:m.aN.length<=64):(bj (fU m)).length<=666:=by
 have:=fT (n.ints oM);have a:(fU m).length=10+m.aN.length:=by simp[fU];omega
 omega
def nX(n:ah):List UInt8:=cC 1 (bj (fU n))
def Ka(n:m.Ok)(P:m.aN.length<=64):(nX m).length<=675/\9<=(nX m).length:=by
 have:=EW n P;unfold nX;rw[eZ];omega
def S_(n:m.Ok)(P:m.aN.length<=64)(a:List UInt8):br (nX m++a)=⟨1,bj (fU m),(nX m).length,0⟩:=by
 unfold nX;rw[Fh dC dC (by have:=EW n P;omega),eZ]
def Da(P:m.Ok)(a:m.aN.length<=64)(n:List UInt8):bF (nX m++n)=(m::(bF n).1,(nX m).length+(bF n).2):=by
 have b:=S_ P a n;have c:=PV P a;rw[yW (by rw[b];exact⟨rfl,rfl,by rw[c]⟩),b,c,List.drop_left]
def az(n:List ah):List UInt8:=(n.map nX).flatten
def ij(n:ah)(P:List ah):az (n::P)=nX n++az P:=by simp[az]
def gl(n P:List ah):az (n++P)=az n++az P:=by simp[az]
def yM:∀{n:List ah},(∀e∈n,e.Ok/\e.aN.length<=64)->∀P,bF (az n++P)=(n++(bF P).1,(az n).length+(bF P).2)
 |[],_,P=>by simp[az]
 |e::n,a,P=>by
  obtain⟨b,c⟩:=a e (QV ..);rw[ij,XQ,Da b c,yM (λd f=>a d (QJ _ f)),QX];simp only[List.cons_append,Nat.add_assoc]
def zj(n:w.length<4):(br w).no≠0:=by unfold br;rw[Zx n];simp
def ML(b:w.length<=65536)(g:a<(cC e w).length):(br ((cC e w).take a)).no≠0:=by
 by_cases h:a<4
 ·exact zj (by rw[Qy];omega)
 have n:∀P,P<4->((cC e w).take a).getD P 0=(cC e w).getD P 0:=λP i=>by
  rw[QQ,QQ,Xw,Zx oM]
 have j:=eZ e w;have c:(cC e w).getD 1 0=UInt8.ofNat (w.length/65536):=rfl;have d:(cC e w).getD 2 0=UInt8.ofNat (w.length/256):=rfl;have f:(cC e w).getD 3 0=UInt8.ofNat w.length:=rfl;unfold br;rw[n 0 oM,n 1 oM,n 2 oM,n 3 oM,c,d,f,SZ b];split
 ·simp
 split
 ·simp
 simp only;rw[Zq oM,Zx (by rw[Qy];omega)];simp
def zl(n:(br w).no≠0):bF w=([],0):=CO λP=>n P.1
def rQ:bF []=([],0):=zl (zj sM)
def wF:∀{l:List ah},(∀e∈l,e.Ok/\e.aN.length<=64)->∀(P:Nat),∃n,n<=l.length/\bF ((az l).take P)=(l.take n,(az (l.take n)).length)/\(az (l.take n)).length<=P/\(n<l.length->P<(az (l.take (n+1))).length)
 |[],_,P=>⟨0,Q4 _,by simp[az,rQ],by simp[az],sM⟩
 |e::l,a,P=>by
  obtain⟨b,c⟩:=a e (QV ..)
  by_cases d:P<(nX e).length
  ·refine⟨0,Qj _,?_,by simp[az],λ_=>by simpa[az]using d⟩
   rw[ij,List.take_append_of_le_length oM,zl]
   ·rfl
   ·exact ML (by have:=EW b c;omega) d
  ·obtain⟨n,f,g,m,h⟩:=wF (l:=l) (λi j=>a i (QJ _ j)) (P-(nX e).length)
   refine⟨n+1,by simpa using f,?_,?_,λk=>?_⟩
   ·rw[ij,List.take_append,Qz oM,Da b c,g,Zw,ij,QX]
   ·rw[Zw,ij,QX];omega
   ·have:=h (by simpa using k)
    rw[Zw,ij,QX];omega
def gQ(n:ah):List UInt8×Int:=if(jw n).2≠0 then([],(jw n).2)else kU 1 (jw n).1
end Go.aq
namespace Go.Proofs.YtjgjkeponbeekaaGreatDoor
open Go.aq
def tT:kM WP 237 5 1 1:=⟨kR,kR,dC⟩
end Go.Proofs.YtjgjkeponbeekaaGreatDoor
namespace Go.Proofs
open Go.Shelf
def Tryz.ED:Go.Shelf.Ren:=⟨λ|7=>223|10=>282|n=>n,λ|23=>141|26=>9|3=>236|28=>242|0=>0|27=>241|33=>319|4=>4|n=>n,λ|n=>n⟩
def Tryz.tv:Go.Proofs.SlLaysZ.n7 Tryz.prog Tryz.ED:={
 mixed:=by kernel_rfl
 f7:=⟨Tryz.f223.name,bc,Tryz.func223.trans ba⟩
 f10:=⟨Tryz.f282.name,bc,Tryz.func282.trans ba⟩
 t0:=Tryz.underlying0
 a0:=Tryz.isAgg0
 z0:=Tryz.sizeOf0
 v0:=Tryz.zeroValue0
 t4:=Tryz.underlying4
 a4:=Tryz.isAgg4
 z4:=Tryz.sizeOf4
 v4:=Tryz.zeroValue4
 t23:=Tryz.underlying141
 a23:=Tryz.isAgg141
 z23:=Tryz.sizeOf141
 v23:=Tryz.zeroValue141
 t26:=Tryz.underlying9
 a26:=Tryz.isAgg9
 z26:=Tryz.sizeOf9
 v26:=Tryz.zeroValue9
 t27:=Tryz.underlying241
 a27:=Tryz.isAgg241
 z27:=Tryz.sizeOf241
 v27:=Tryz.zeroValue241
 t28:=Tryz.underlying242
 a28:=Tryz.isAgg242
 z28:=Tryz.sizeOf242
 v28:=Tryz.zeroValue242
 t33:=Tryz.underlying319
 a33:=Tryz.isAgg319
 z33:=Tryz.sizeOf319
 v33:=Tryz.zeroValue319}
def Tryz.yA:Go.Shelf.Ren:=⟨λ|6=>222|8=>280|9=>281|11=>322|13=>218|12=>323|23=>276|24=>277|14=>349|15=>350|16=>351|17=>352|18=>353|19=>354|20=>355|21=>356|22=>357|25=>372|26=>317|27=>318|28=>373|29=>374|30=>375|31=>382|n=>n,λ|26=>9|28=>242|24=>271|0=>0|3=>3|37=>324|48=>365|50=>367|4=>4|40=>359|39=>358|45=>273|5=>5|9=>9|51=>400|55=>375|57=>426|58=>427|33=>319|n=>n,λ|n=>n⟩
def Tryz.TM:Go.Proofs.SlLaysZ.n6 Tryz.prog Tryz.yA:={
 mixed:=by kernel_rfl
 f6:=⟨Tryz.f222.name,bc,Tryz.func222.trans ba⟩
 f8:=⟨Tryz.f280.name,bc,Tryz.func280.trans ba⟩
 f11:=⟨Tryz.f322.name,bc,Tryz.func322.trans ba⟩
 t0:=Tryz.underlying0
 a0:=Tryz.isAgg0
 z0:=Tryz.sizeOf0
 v0:=Tryz.zeroValue0
 t24:=Tryz.underlying271
 a24:=Tryz.isAgg271
 z24:=Tryz.sizeOf271
 v24:=Tryz.zeroValue271
 t26:=Tryz.underlying9
 a26:=Tryz.isAgg9
 z26:=Tryz.sizeOf9
 v26:=Tryz.zeroValue9
 t28:=Tryz.underlying242
 a28:=Tryz.isAgg242
 z28:=Tryz.sizeOf242
 v28:=Tryz.zeroValue242
 i26:=by kernel_rfl}
def Tryz.PK:Go.Shelf.Ren:=⟨λ|6=>281|8=>218|9=>323|19=>276|20=>277|21=>349|22=>350|23=>351|24=>352|25=>353|26=>354|27=>355|28=>356|29=>357|36=>372|31=>317|32=>318|37=>373|38=>374|39=>375|41=>382|n=>n,λ|27=>271|29=>9|3=>3|32=>324|26=>271|0=>0|44=>365|46=>367|4=>4|36=>359|35=>358|41=>273|5=>5|9=>9|53=>400|57=>375|63=>426|64=>427|n=>n,λ|n=>n⟩
def Tryz.US:Go.Proofs.SlLaysM.n6 Tryz.prog Tryz.PK:={
 mixed:=by kernel_rfl
 f6:=⟨Tryz.f281.name,bc,Tryz.func281.trans ba⟩
 f8:=Tryz.func218.trans ba
 f9:=⟨Tryz.f323.name,bc,Tryz.func323.trans ba⟩
 f19:=Tryz.func276.trans ba
 f20:=Tryz.func277.trans ba
 f21:=⟨Tryz.f349.name,bc,Tryz.func349.trans ba⟩
 f22:=⟨Tryz.f350.name,bc,Tryz.func350.trans ba⟩
 f23:=⟨Tryz.f351.name,bc,Tryz.func351.trans ba⟩
 f24:=⟨Tryz.f352.name,bc,Tryz.func352.trans ba⟩
 f25:=⟨Tryz.f353.name,bc,Tryz.func353.trans ba⟩
 f26:=⟨Tryz.f354.name,bc,Tryz.func354.trans ba⟩
 f27:=⟨Tryz.f355.name,bc,Tryz.func355.trans ba⟩
 f28:=⟨Tryz.f356.name,bc,Tryz.func356.trans ba⟩
 f29:=⟨Tryz.f357.name,bc,Tryz.func357.trans ba⟩
 f31:=Tryz.func317.trans ba
 f32:=Tryz.func318.trans ba
 f36:=⟨Tryz.f372.name,bc,Tryz.func372.trans ba⟩
 f37:=⟨Tryz.f373.name,bc,Tryz.func373.trans ba⟩
 f38:=⟨Tryz.f374.name,bc,Tryz.func374.trans ba⟩
 f39:=⟨Tryz.f375.name,bc,Tryz.func375.trans ba⟩
 f41:=⟨Tryz.f382.name,bc,Tryz.func382.trans ba⟩
 t0:=Tryz.underlying0
 a0:=Tryz.isAgg0
 z0:=Tryz.sizeOf0
 v0:=Tryz.zeroValue0
 t3:=Tryz.underlying3
 a3:=Tryz.isAgg3
 z3:=Tryz.sizeOf3
 v3:=Tryz.zeroValue3
 t4:=Tryz.underlying4
 a4:=Tryz.isAgg4
 z4:=Tryz.sizeOf4
 v4:=Tryz.zeroValue4
 t5:=Tryz.underlying5
 a5:=Tryz.isAgg5
 z5:=Tryz.sizeOf5
 v5:=Tryz.zeroValue5
 t9:=Tryz.underlying9
 a9:=Tryz.isAgg9
 z9:=Tryz.sizeOf9
 v9:=Tryz.zeroValue9
 t26:=Tryz.underlying271
 a26:=Tryz.isAgg271
 z26:=Tryz.sizeOf271
 v26:=Tryz.zeroValue271
 t27:=Tryz.underlying271
 a27:=Tryz.isAgg271
 z27:=Tryz.sizeOf271
 v27:=Tryz.zeroValue271
 t29:=Tryz.underlying9
 a29:=Tryz.isAgg9
 z29:=Tryz.sizeOf9
 v29:=Tryz.zeroValue9
 t32:=Tryz.underlying324
 a32:=Tryz.isAgg324
 z32:=Tryz.sizeOf324
 v32:=Tryz.zeroValue324
 t35:=Tryz.underlying358
 a35:=Tryz.isAgg358
 z35:=Tryz.sizeOf358
 v35:=Tryz.zeroValue358
 t36:=Tryz.underlying359
 a36:=Tryz.isAgg359
 z36:=Tryz.sizeOf359
 v36:=Tryz.zeroValue359
 t41:=Tryz.underlying273
 a41:=Tryz.isAgg273
 z41:=Tryz.sizeOf273
 v41:=Tryz.zeroValue273
 t44:=Tryz.underlying365
 a44:=Tryz.isAgg365
 z44:=Tryz.sizeOf365
 v44:=Tryz.zeroValue365
 t46:=Tryz.underlying367
 a46:=Tryz.isAgg367
 z46:=Tryz.sizeOf367
 v46:=Tryz.zeroValue367
 t53:=Tryz.underlying400
 a53:=Tryz.isAgg400
 z53:=Tryz.sizeOf400
 v53:=Tryz.zeroValue400
 t57:=Tryz.underlying375
 a57:=Tryz.isAgg375
 z57:=Tryz.sizeOf375
 v57:=Tryz.zeroValue375
 t63:=Tryz.underlying426
 a63:=Tryz.isAgg426
 z63:=Tryz.sizeOf426
 v63:=Tryz.zeroValue426
 t64:=Tryz.underlying427
 a64:=Tryz.isAgg427
 z64:=Tryz.sizeOf427
 v64:=Tryz.zeroValue427}
def Tryz.Ke:Go.Shelf.Ren:=⟨λ|137=>358|217=>376|266=>383|n=>n,λ|9=>9|5=>5|3=>3|n=>n,λ|n=>n⟩
def Tryz.Ub:Go.Proofs.Lays.n137 Tryz.prog Tryz.Ke:={
 mixed:=by kernel_rfl
 f137:=Tryz.func358.trans ba
 f217:=Tryz.func376.trans ba
 f266:=Tryz.func383.trans ba
 t3:=Tryz.underlying3
 a3:=Tryz.isAgg3
 z3:=Tryz.sizeOf3
 v3:=Tryz.zeroValue3
 t5:=Tryz.underlying5
 a5:=Tryz.isAgg5
 z5:=Tryz.sizeOf5
 v5:=Tryz.zeroValue5
 t9:=Tryz.underlying9
 a9:=Tryz.isAgg9
 z9:=Tryz.sizeOf9
 v9:=Tryz.zeroValue9}
def Tryz.Kf:Go.Shelf.Ren:=⟨λ|129=>277|n=>n,λ|53=>367|3=>3|4=>4|46=>324|5=>5|9=>9|n=>n,λ|n=>n⟩
def Tryz.Uu:Go.Proofs.Lays.n129 Tryz.prog Tryz.Kf:={
 mixed:=by kernel_rfl
 f129:=Tryz.func277.trans ba
 t3:=Tryz.underlying3
 a3:=Tryz.isAgg3
 z3:=Tryz.sizeOf3
 v3:=Tryz.zeroValue3
 t4:=Tryz.underlying4
 a4:=Tryz.isAgg4
 z4:=Tryz.sizeOf4
 v4:=Tryz.zeroValue4
 t5:=Tryz.underlying5
 a5:=Tryz.isAgg5
 z5:=Tryz.sizeOf5
 v5:=Tryz.zeroValue5
 t9:=Tryz.underlying9
 a9:=Tryz.isAgg9
 z9:=Tryz.sizeOf9
 v9:=Tryz.zeroValue9
 t46:=Tryz.underlying324
 a46:=Tryz.isAgg324
 z46:=Tryz.sizeOf324
 v46:=Tryz.zeroValue324
 t53:=Tryz.underlying367
 a53:=Tryz.isAgg367
 z53:=Tryz.sizeOf367
 v53:=Tryz.zeroValue367}
def Tryz.HB:Go.Shelf.Ren:=⟨λ|171=>213|243=>267|246=>315|283=>344|284=>345|285=>346|286=>347|129=>277|317=>368|318=>369|319=>370|320=>371|337=>380|338=>381|n=>n,λ|3=>3|9=>9|2=>2|4=>4|171=>422|0=>0|53=>367|37=>237|5=>5|173=>424|212=>441|51=>365|20=>20|213=>442|46=>324|232=>448|233=>449|n=>n,λ|17=>4|18=>6|19=>7|n=>n⟩
def Tryz.SC:Go.Proofs.LaysM.n171 Tryz.prog Tryz.HB:={
 mixed:=by kernel_rfl
 f129:=Tryz.func277.trans ba
 f171:=Tryz.func213.trans ba
 f243:=Tryz.func267.trans ba
 f246:=Tryz.func315.trans ba
 f283:=Tryz.func344.trans ba
 f284:=Tryz.func345.trans ba
 f285:=Tryz.func346.trans ba
 f286:=Tryz.func347.trans ba
 f317:=Tryz.func368.trans ba
 f318:=Tryz.func369.trans ba
 f319:=Tryz.func370.trans ba
 f320:=Tryz.func371.trans ba
 f337:=Tryz.func380.trans ba
 f338:=Tryz.func381.trans ba
 t0:=Tryz.underlying0
 a0:=Tryz.isAgg0
 z0:=Tryz.sizeOf0
 v0:=Tryz.zeroValue0
 t2:=Tryz.underlying2
 a2:=Tryz.isAgg2
 z2:=Tryz.sizeOf2
 v2:=Tryz.zeroValue2
 t3:=Tryz.underlying3
 a3:=Tryz.isAgg3
 z3:=Tryz.sizeOf3
 v3:=Tryz.zeroValue3
 t4:=Tryz.underlying4
 a4:=Tryz.isAgg4
 z4:=Tryz.sizeOf4
 v4:=Tryz.zeroValue4
 t5:=Tryz.underlying5
 a5:=Tryz.isAgg5
 z5:=Tryz.sizeOf5
 v5:=Tryz.zeroValue5
 t9:=Tryz.underlying9
 a9:=Tryz.isAgg9
 z9:=Tryz.sizeOf9
 v9:=Tryz.zeroValue9
 t20:=Tryz.underlying20
 a20:=Tryz.isAgg20
 z20:=Tryz.sizeOf20
 v20:=Tryz.zeroValue20
 t37:=Tryz.underlying237
 a37:=Tryz.isAgg237
 z37:=Tryz.sizeOf237
 v37:=Tryz.zeroValue237
 t46:=Tryz.underlying324
 a46:=Tryz.isAgg324
 z46:=Tryz.sizeOf324
 v46:=Tryz.zeroValue324
 t51:=Tryz.underlying365
 a51:=Tryz.isAgg365
 z51:=Tryz.sizeOf365
 v51:=Tryz.zeroValue365
 t53:=Tryz.underlying367
 a53:=Tryz.isAgg367
 z53:=Tryz.sizeOf367
 v53:=Tryz.zeroValue367
 t171:=Tryz.underlying422
 a171:=Tryz.isAgg422
 z171:=Tryz.sizeOf422
 v171:=Tryz.zeroValue422
 t173:=Tryz.underlying424
 a173:=Tryz.isAgg424
 z173:=Tryz.sizeOf424
 v173:=Tryz.zeroValue424
 t212:=Tryz.underlying441
 a212:=Tryz.isAgg441
 z212:=Tryz.sizeOf441
 v212:=Tryz.zeroValue441
 t213:=Tryz.underlying442
 a213:=Tryz.isAgg442
 z213:=Tryz.sizeOf442
 t232:=Tryz.underlying448
 a232:=Tryz.isAgg448
 z232:=Tryz.sizeOf448
 v232:=Tryz.zeroValue448
 t233:=Tryz.underlying449
 a233:=Tryz.isAgg449
 z233:=Tryz.sizeOf449
 v233:=Tryz.zeroValue449
 g17:=by kernel_rfl
 g18:=by kernel_rfl
 g19:=by kernel_rfl
 i0:=by kernel_rfl
 i2:=by kernel_rfl
 i3:=by kernel_rfl
 i4:=by kernel_rfl
 i5:=by kernel_rfl
 i9:=by kernel_rfl
 i20:=by kernel_rfl
 i37:=by kernel_rfl
 i46:=by kernel_rfl
 i51:=by kernel_rfl
 i53:=by kernel_rfl
 i171:=by kernel_rfl
 i173:=by kernel_rfl
 i212:=by kernel_rfl
 i232:=by kernel_rfl
 i233:=by kernel_rfl
 m17:=by kernel_rfl
 m18:=by kernel_rfl
 m19:=by kernel_rfl}
def Tryz.FG:Go.Shelf.Ren:=⟨λ|7=>198|10=>250|n=>n,λ|23=>148|26=>3|3=>3|28=>299|0=>0|27=>298|33=>83|4=>4|n=>n,λ|n=>n⟩
def Tryz.XG:Go.Proofs.SlLaysZI.n7 Tryz.prog Tryz.FG:={
 mixed:=by kernel_rfl
 f7:=⟨Tryz.f198.name,bc,Tryz.func198.trans ba⟩
 f10:=⟨Tryz.f250.name,bc,Tryz.func250.trans ba⟩
 t0:=Tryz.underlying0
 a0:=Tryz.isAgg0
 z0:=Tryz.sizeOf0
 v0:=Tryz.zeroValue0
 t4:=Tryz.underlying4
 a4:=Tryz.isAgg4
 z4:=Tryz.sizeOf4
 v4:=Tryz.zeroValue4
 t23:=Tryz.underlying148
 a23:=Tryz.isAgg148
 z23:=Tryz.sizeOf148
 v23:=Tryz.zeroValue148
 t26:=Tryz.underlying3
 a26:=Tryz.isAgg3
 z26:=Tryz.sizeOf3
 v26:=Tryz.zeroValue3
 t27:=Tryz.underlying298
 a27:=Tryz.isAgg298
 z27:=Tryz.sizeOf298
 v27:=Tryz.zeroValue298
 t28:=Tryz.underlying299
 a28:=Tryz.isAgg299
 z28:=Tryz.sizeOf299
 v28:=Tryz.zeroValue299
 t33:=Tryz.underlying83
 a33:=Tryz.isAgg83
 z33:=Tryz.sizeOf83
 v33:=Tryz.zeroValue83}
def Tryz.yY:Go.Shelf.Ren:=⟨λ|6=>197|8=>248|9=>249|11=>306|13=>218|12=>307|23=>276|24=>277|14=>331|15=>332|16=>333|17=>334|18=>335|19=>336|20=>337|21=>338|22=>339|25=>364|26=>317|27=>318|28=>365|29=>366|30=>278|31=>378|n=>n,λ|26=>3|28=>299|24=>42|0=>0|3=>3|37=>324|48=>365|50=>367|4=>4|40=>359|39=>358|45=>273|5=>5|9=>9|51=>400|55=>375|57=>426|58=>427|33=>83|n=>n,λ|n=>n⟩
def Tryz.UJ:Go.Proofs.SlLaysZI.n6 Tryz.prog Tryz.yY:={
 mixed:=by kernel_rfl
 f6:=⟨Tryz.f197.name,bc,Tryz.func197.trans ba⟩
 f8:=⟨Tryz.f248.name,bc,Tryz.func248.trans ba⟩
 f11:=⟨Tryz.f306.name,bc,Tryz.func306.trans ba⟩
 t0:=Tryz.underlying0
 a0:=Tryz.isAgg0
 z0:=Tryz.sizeOf0
 v0:=Tryz.zeroValue0
 t24:=Tryz.underlying42
 a24:=Tryz.isAgg42
 z24:=Tryz.sizeOf42
 v24:=Tryz.zeroValue42
 t26:=Tryz.underlying3
 a26:=Tryz.isAgg3
 z26:=Tryz.sizeOf3
 v26:=Tryz.zeroValue3
 t28:=Tryz.underlying299
 a28:=Tryz.isAgg299
 z28:=Tryz.sizeOf299
 v28:=Tryz.zeroValue299
 i26:=by kernel_rfl}
def Tryz.PL:Go.Shelf.Ren:=⟨λ|5=>249|8=>218|7=>307|19=>276|20=>277|10=>331|11=>332|12=>333|13=>334|14=>335|15=>336|16=>337|17=>338|18=>339|30=>364|31=>317|32=>318|33=>365|34=>366|35=>278|40=>378|n=>n,λ|23=>42|25=>3|3=>3|32=>324|22=>42|0=>0|44=>365|46=>367|4=>4|36=>359|35=>358|41=>273|5=>5|9=>9|53=>400|57=>375|63=>426|64=>427|n=>n,λ|n=>n⟩
def Tryz.wI:Go.Proofs.SlLaysM.n5 Tryz.prog Tryz.PL:={
 mixed:=by kernel_rfl
 f5:=⟨Tryz.f249.name,bc,Tryz.func249.trans ba⟩
 f7:=⟨Tryz.f307.name,bc,Tryz.func307.trans ba⟩
 f8:=Tryz.func218.trans ba
 f10:=⟨Tryz.f331.name,bc,Tryz.func331.trans ba⟩
 f11:=⟨Tryz.f332.name,bc,Tryz.func332.trans ba⟩
 f12:=⟨Tryz.f333.name,bc,Tryz.func333.trans ba⟩
 f13:=⟨Tryz.f334.name,bc,Tryz.func334.trans ba⟩
 f14:=⟨Tryz.f335.name,bc,Tryz.func335.trans ba⟩
 f15:=⟨Tryz.f336.name,bc,Tryz.func336.trans ba⟩
 f16:=⟨Tryz.f337.name,bc,Tryz.func337.trans ba⟩
 f17:=⟨Tryz.f338.name,bc,Tryz.func338.trans ba⟩
 f18:=⟨Tryz.f339.name,bc,Tryz.func339.trans ba⟩
 f19:=Tryz.func276.trans ba
 f20:=Tryz.func277.trans ba
 f30:=⟨Tryz.f364.name,bc,Tryz.func364.trans ba⟩
 f31:=Tryz.func317.trans ba
 f32:=Tryz.func318.trans ba
 f33:=⟨Tryz.f365.name,bc,Tryz.func365.trans ba⟩
 f34:=⟨Tryz.f366.name,bc,Tryz.func366.trans ba⟩
 f35:=⟨Tryz.f278.name,bc,Tryz.func278.trans ba⟩
 f40:=⟨Tryz.f378.name,bc,Tryz.func378.trans ba⟩
 t0:=Tryz.underlying0
 a0:=Tryz.isAgg0
 z0:=Tryz.sizeOf0
 v0:=Tryz.zeroValue0
 t3:=Tryz.underlying3
 a3:=Tryz.isAgg3
 z3:=Tryz.sizeOf3
 v3:=Tryz.zeroValue3
 t4:=Tryz.underlying4
 a4:=Tryz.isAgg4
 z4:=Tryz.sizeOf4
 v4:=Tryz.zeroValue4
 t5:=Tryz.underlying5
 a5:=Tryz.isAgg5
 z5:=Tryz.sizeOf5
 v5:=Tryz.zeroValue5
 t9:=Tryz.underlying9
 a9:=Tryz.isAgg9
 z9:=Tryz.sizeOf9
 v9:=Tryz.zeroValue9
 t22:=Tryz.underlying42
 a22:=Tryz.isAgg42
 z22:=Tryz.sizeOf42
 v22:=Tryz.zeroValue42
 t23:=Tryz.underlying42
 a23:=Tryz.isAgg42
 z23:=Tryz.sizeOf42
 v23:=Tryz.zeroValue42
 t25:=Tryz.underlying3
 a25:=Tryz.isAgg3
 z25:=Tryz.sizeOf3
 v25:=Tryz.zeroValue3
 t32:=Tryz.underlying324
 a32:=Tryz.isAgg324
 z32:=Tryz.sizeOf324
 v32:=Tryz.zeroValue324
 t35:=Tryz.underlying358
 a35:=Tryz.isAgg358
 z35:=Tryz.sizeOf358
 v35:=Tryz.zeroValue358
 t36:=Tryz.underlying359
 a36:=Tryz.isAgg359
 z36:=Tryz.sizeOf359
 v36:=Tryz.zeroValue359
 t41:=Tryz.underlying273
 a41:=Tryz.isAgg273
 z41:=Tryz.sizeOf273
 v41:=Tryz.zeroValue273
 t44:=Tryz.underlying365
 a44:=Tryz.isAgg365
 z44:=Tryz.sizeOf365
 v44:=Tryz.zeroValue365
 t46:=Tryz.underlying367
 a46:=Tryz.isAgg367
 z46:=Tryz.sizeOf367
 v46:=Tryz.zeroValue367
 t53:=Tryz.underlying400
 a53:=Tryz.isAgg400
 z53:=Tryz.sizeOf400
 v53:=Tryz.zeroValue400
 t57:=Tryz.underlying375
 a57:=Tryz.isAgg375
 z57:=Tryz.sizeOf375
 v57:=Tryz.zeroValue375
 t63:=Tryz.underlying426
 a63:=Tryz.isAgg426
 z63:=Tryz.sizeOf426
 v63:=Tryz.zeroValue426
 t64:=Tryz.underlying427
 a64:=Tryz.isAgg427
 z64:=Tryz.sizeOf427
 v64:=Tryz.zeroValue427}
end Go.Proofs
namespace Go.aq
open Go
def wrap_u64(n:Int):ZU .u64 n=n % 18446744073709551616:=by
 unfold ZU;simp[IntKind.signed,IntKind.bits]
variable{b0 w:List UInt8}{a c i p:Nat}{d:ac}{h:Program}{C g r:TypeId}{q u:L1}{b:World}
def Fu(n:a<18446744073709551616):ZU .u64 (a:Int)=a:=by rw[wrap_u64];omega
def Ml(s:kM h g r 1 1){L D:LL}(P:aV gh r L b (PP a) c i w)(B:Row gh 1 b D d c b0)(j:∀k,aV gh r (·=a) k (PP a) c i b0->aj (·=a) b k->k.heap.size=b.heap.size->q (ZT c) k):
  aJ h (Builtin.copy_ #[g,g] C #[.slice (PP a) c i,.slice d c p]) b q u:=by
 obtain⟨a1,a2,M,hz,N,a4,a5⟩:=s.info;have E:(h.info? r).map (·.size)=some 1:=by rw[M];simp[N]
 have l:=B.len;have O:=P.len dC;obtain⟨a6,D0,F,a7,a8⟩:=P.body;rcases F.cases with⟨t,_⟩|⟨Q,n,t,v,R,S,a9⟩
 ·cases t
 cases t
 by_cases H:c=0
 ·subst H
  have:b0=[]:=QW l.symm;subst this;have:w=[]:=QW O.symm;subst this;have m:=run_copy_none (P:=h) b g g C r (PP a) d 0 i 0 p s.under E (by rfl);refine aJ.mk (v:=ZT 0) m (j b ?_ (aj.refl _) rfl);have:=P.alone;exact⟨by obtain⟨cs,D,T,e,a3⟩:=this.body;exact⟨cs,λ_=>False,T,by rw[show cs=[]from e];rfl,λ_ P=>P.elim⟩,λe f=>by simpa[aG]using f.symm,λe f=>by rw[f];exact aA v⟩
 ·obtain⟨cs,x,U⟩:=B.aD
  have y:b0≠[]:=by rintro rfl;simp at l;exact H l
  obtain⟨e,z,V,_,_,W⟩:=U y dC;subst V;have o:cs.length=c:=by have:=x.length;rw[this,l];show _*1=_;omega
  have b1:n.size=i:=by rw[S];show i*1=i;omega
  have m:=run_copy_row (P:=h) b g g C r a 0 c i ⟨e,z,none⟩ c p n r cs s.under E v (by rw[o];simp[Nat.min_self]) (λX Y Z=>by rw[Addr.add_lit];exact W X Y Z) oM (x.RP);rw[o]at m;have I:=setRow_heap b a n (n.toList.take 0++cs++n.toList.drop (0+c)).toArray r (0,0) v;refine aJ.mk m (j _ ⟨⟨cs,λ_=>False,⟨⟨by rw[o];show c=c*1;omega,.inr ⟨a,i,_,rfl,Qj _,I,R,?_,?_,?_⟩⟩⟩,x.free,λ_ P=>P.elim⟩,λe f=>by simpa[aG]using f.symm,λe f=>by subst f;exact aA I⟩ ⟨rfl,rfl,rfl,by simp[World.setRow],λa0 hk y=>setRow_other b a a0 _ y⟩ (by simp[World.setRow]))
  ·rcases F.row.2 with⟨A,_⟩|⟨Q,J,K,A,_,_,_,hm,_⟩
   ·cases A
   ·cases A;exact hm
  ·show _=i*1
   simp;omega
  ·simp only[List.take_zero,List.nil_append,Xz]
   show(cs++n.toList.drop c).take (c*1)=cs;rw[Nat.mul_one,<-o,List.take_left]
end Go.aq
namespace Go.Proofs.YtjgjkeponbeekaaGreatDoor
open Go.aq
variable{e:Int}{w:List UInt8}{a c:Nat}{d:ac}{b:World}
def Pn(a:aM e):am 293 #[ZT e] b (Ok λc d=>c= .tuple #[.int .u64 (e.natAbs:Int),.int .u8 (if e<0 then 16 else 0)]/\b=d):=by
 unfold aM at a;refine IF (al.dec (λn=>?_) (λn=>?_))
 ·refine Ok.mk ⟨?_,rfl⟩
  rw[Zx n,wrap_u64,wrap_u64];have P:(0-e % 18446744073709551616) % 18446744073709551616=(e.natAbs:Int):=oM
  rw[P]
 ·refine Ok.mk ⟨?_,rfl⟩
  rw[Zq n,wrap_u64];have P:e % 18446744073709551616=(e.natAbs:Int):=oM
  rw[P]
def bits_Len64{n:Nat}{P:World}(c:n<18446744073709551616):am 277 #[.int .u64 (n:Int)] P (Ok λb a=>b= ZT (Lib.bitLen n:Int)/\P=a):=by
 refine(Any.bits_Len64 Tryz.Uu (n:Int) P oM oM).mono ?_;rintro d a ⟨rfl,rfl⟩;exact Ok.mk ⟨by rw[Qx],rfl⟩
def Wc(b:a<=8)(n:Bool):PZ .u8 (if n then 16 else 0) (ZU .u8 (a:Int))=((UInt8.ofNat (a+if n then 16 else 0)).toNat:Int):=by
 have P:(List.range 9).all (λa=>PZ .u8 16 (ZU .u8 (a:Int))==((UInt8.ofNat (a+16)).toNat:Int)&&PZ .u8 0 (ZU .u8 (a:Int))==((UInt8.ofNat (a+0)).toNat:Int))=true:=by decide+kernel
 have:=ZY.1 P a (List.mem_range.2 oM);simp only[QK,beq_iff_eq]at this
 cases n
 ·exact this.2
 ·exact this.1
def BU{m:Int}{D:LL}(s:aM m)(f:Row gh 1 b D d a w)(K:a+9<=aT)(hD:∀e,D e->e<b.heap.size):
  am 240 #[.slice d a c,ZT m] b (Ok (qD gh 5 b (w++dY m))):=by
 have j:=f.len;have k:=s;unfold aM at k;have L:=K;unfold aT at L;have t:m.natAbs<2 ^ 64:=oM
 have u:=CB t;have M:=yS _ t;refine Ll (PC.ok (Pn s) ?_);rintro _ _ ⟨rfl,rfl⟩;refine⟨_,_,rfl,PC.ok (bits_Len64 oM) ?_⟩;rintro _ _ ⟨rfl,rfl⟩;have N:ZU .i64 (Int.tdiv (ZU .i64 ((Lib.bitLen m.natAbs:Int)+7)) 8)=((fV m.natAbs).length:Int):=by
  rw[wrap_i64 (x:=(Lib.bitLen m.natAbs:Int)+7) (by unfold aM;omega),Int.tdiv_eq_ediv_of_nonneg oM,wrap_i64 (by unfold aM;omega),M];omega
 have O:ZU .i64 ((ZU .i64 (((a:Nat):Int)+1))+((fV m.natAbs).length:Int))=((a+1+(fV m.natAbs).length:Nat):Int):=by
  rw[wrap_i64 (x:=((a:Nat):Int)+1) (by unfold aM;omega),wrap_i64 (by unfold aM;omega)];omega
 refine⟨_,rfl,?_⟩;rw[N,O];refine Wd tT kR oM (by unfold aT;omega) λw1 Q v b4=>?_;refine⟨_,_,_,rfl,Ml tT Q (f.af v) λR S T b5=>⟨_,rfl,?_⟩⟩;have y:ai b R:=v.new T λe f=>.inr oM;rw[show ZU .u8 ((fV m.natAbs).length:Int)=ZU .u8 ((fV m.natAbs).length:Int)from rfl];have z:=Wc u (decide (m<0));simp only[Zk]at z;rw[z];refine NV S tT (x:=UInt8.ofNat ((fV m.natAbs).length+if m<0 then 16 else 0)) (D:=λ_=>False) ⟨rfl,trivial⟩ (λ_ h=>h.elim) (by rw[<-j];unfold aT;omega) (by rw[<-j];unfold maxLen;omega) λa4 c3 U V A W X b6=>?_;have Y:ai b U:=y.new W λe f=>.inr (by simp only[aG,Q1]at f;omega);have Z:a+1=(w++[UInt8.ofNat ((fV m.natAbs).length+if m<0 then 16 else 0)]).length:=by simp[j]
 generalize a8:w++[UInt8.ofNat ((fV m.natAbs).length+if m<0 then 16 else 0)]=l at A Z;have a0:w++dY m=l++(fV m.natAbs).reverse:=by rw[<-a8,XQ];rfl
 rw[a0];generalize a9:(fV m.natAbs).length=P at u⊢;refine⟨_,_,_,rfl,λB C o E F H=>∃n:Nat,n<=P/\F=(P:Int)-1-n/\B=P-n/\o=a+1+n/\∃g,aV gh 5 g H C o E (l++(fV m.natAbs).reverse.take n)/\ai b H/\∀e,g e->b.heap.size<=e,
  ⟨_,0,Qj _,by rw[wrap_i64 (by unfold aM;omega)];omega,rfl,rfl,V,by simpa using A,Y,λe f=>?_⟩,?_⟩
 ·rcases X e f with h|h|h
  ·omega
  ·exact h.elim
  ·have:=y.size;omega
 rintro B C o E F _ p ⟨n,hj,rfl,rfl,rfl,g,i,q,r⟩;refine al.dec (λh1=>?_) (λh1=>?_)
 ·have b7:n<P:=oM
  have b0:ZU .i64 (8*((P:Int)-1-n))=((8*(P-1-n):Nat):Int):=by rw[wrap_i64 (by unfold aM;omega)];omega
  rw[b0];have a1:∀x I,(do eqGuard .shr 367 x I (.int .u64 (m.natAbs:Int)) (ZT ((8*(P-1-n):Nat):Int));binOp .shr 367 (.int .u64 (m.natAbs:Int)) (ZT ((8*(P-1-n):Nat):Int)):Sem Value).run WP p=
    .ok (.int .u64 ((m.natAbs/256 ^(P-1-n):Nat):Int)) p:=λx I=>by
   have h0:=shift_shr .u64 .i64 (m.natAbs:Int) ((8*(P-1-n):Nat):Int) oM (by show _<=((64:Nat):Int);omega);have e1:(m.natAbs:Int)/2 ^(Int.toNat ((8*(P-1-n):Nat):Int))=((m.natAbs/256 ^(P-1-n):Nat):Int):=by
    have e2:(256:Nat) ^(P-1-n)=2 ^(8*(P-1-n)):=by rw[Nat.pow_mul]
    rw[Qx,e2];simp
   show(Op.shift .shr .u64 (m.natAbs:Int) .i64 ((8*(P-1-n):Nat):Int)).run WP p=_;rw[h0,e1]
   rfl
  refine aJ.mk (a1 _ _) ⟨_,rfl,?_⟩;have a2:(fV m.natAbs).reverse[n]? =some (UInt8.ofNat (m.natAbs/256 ^(P-1-n))):=by
   rw[List.getElem?_reverse oM,a9];rw[Sn _ _ oM]
   congr 1
   refine UInt8.toNat_inj.1 ?_;rw[ZK,ZK];omega
  have a3:ZU .u8 ((m.natAbs/256 ^(P-1-n):Nat):Int)=((UInt8.ofNat (m.natAbs/256 ^(P-1-n))).toNat:Int):=by
   rw[ZK];unfold ZU;simp[IntKind.signed,IntKind.bits]
  rw[a3];have J:(l++(fV m.natAbs).reverse.take n).length=a+1+n:=by simp;omega
  refine NV i tT (x:=UInt8.ofNat (m.natAbs/256 ^(P-1-n))) (D:=λ_=>False) ⟨rfl,trivial⟩ (λ_ h=>h.elim) (by rw[J];unfold aT;omega) (by rw[J];unfold maxLen;omega) λa5 c5 w5 F5 b1 b2 b3 b8=>?_;refine⟨_,_,_,rfl,_,oM,n+1,oM,by rw[wrap_i64 (by unfold aM;omega)];omega,rfl,oM,F5,?_,q.new b2 λe f=>.inr (r e (i.self e f)),λe f=>?_⟩
  ·rw[Qw,a2]
   simpa using b1
  ·rcases b3 e f with h|h|h
   ·exact r e h
   ·exact h.elim
   ·exact Xx q.size h
 ·obtain rfl:n=P:=oM
  rw[Qz (by simp;omega)]at i;exact Ok.mk ⟨_,_,_,g,rfl,i,q,r⟩
end Go.Proofs.YtjgjkeponbeekaaGreatDoor
namespace Go.aq
open Go
def Own.set{d:World}{i:TypeId}{k:Nat}{e:ac}{l P:Nat}{cs:List Value}(o:Own d i k e l P cs){m:Nat}{p:Value}{q:UV}(E:m<cs.length){a b:Nat}(f:e=some ⟨a,b,none⟩)(g:∀n,Own n i k e l P (cs.set m p)->aj (λa=>aG e=some a) d n->n.heap.size=d.heap.size->q n):PS d ⟨a,b+m,none⟩ p q:=by
 have r:=o.row.1;rcases o.row.2 with⟨c,F⟩|⟨H,I,h,c,s,t,u,v,w,j⟩
 ·simp only[XX]at c
  rw[c.1]at f;cases f
 ·simp only[XX]at c
  obtain⟨x,-,y⟩:=c;subst x;subst y
  cases f
  rw[Xz];have z:m<h.size:=by
   have:=Zj List.length j;simp at this;omega
  refine PS.mk t z λn A B C=>g n ⟨⟨by simpa using r,.inr ⟨_,_,_,rfl,s,C,u,v,by simpa using w,?_⟩⟩⟩ (A.mono λa _ X=>by rw[X];rfl) B;rw[Array.toList_setIfInBounds,List.take_set,j]
def bM.ou{a:Type}{b:Nat}{n:a->List Value}{hl h1}{c:World}{D:LL}:∀{P:List a} {cs:List Value},bM (flat b n (λ_=>True) hl h1) c D P cs↔cs=P.flatMap n
 |[],cs=>by simp[bM]
 |x::P,cs=>by
  constructor
  ·rintro⟨e,f,rfl,⟨rfl,-⟩,d⟩
   rw[bM.ou.1 d];rfl
  ·rintro rfl
   exact⟨n x,P.flatMap n,rfl,⟨rfl,trivial⟩,bM.ou.2 rfl⟩
def rV{c:Type}{enc:c->List Value}{k:Nat}(d:∀P,(enc P).length=k){x':c}{v:Value}{a:Nat}(g:a<k):∀(e:List c) (n:Nat) (P:c),e[n]? =some P->enc x'=(enc P).set a v->(e.flatMap enc).set (n*k+a) v=(e.set n x').flatMap enc
 |[],n,P,b,_=>by simp at b
 |y::h,0,P,b,f=>by
  simp at b;subst b;rw[List.flatMap_cons,List.set_cons_zero,List.flatMap_cons,Nat.zero_mul,Xz,List.set_append_left _ _ (by rw[d];exact g),f]
 |y::h,n+1,P,b,f=>by
  have:=rV d g h n P (by simpa using b) f;have i:(n+1)*k+a-k=n*k+a:=by rw[X7];omega
  have j:k<=(n+1)*k+a:=by rw[X7];omega
  rw[List.flatMap_cons,List.set_cons_succ,List.flatMap_cons,List.set_append_right _ _ (by rw[d];exact j),d,i,this]
def lJ{a:Type}{n:a->List Value}{b:Nat}(c:∀x,(n x).length=b):∀P:List a,(P.flatMap n).length=P.length*b
 |[]=>by simp
 |x::P=>by rw[List.flatMap_cons,QX,c,lJ c P,Xq,X7,Nat.one_mul,Nat.add_comm]
variable{F a c i p:Nat}{f:LL}{d v:ac}{h:Program}{j:Type}{C g r:TypeId}{q u:L1}{b:World}{z:UV}
def aV.set{k:Type}{n:k->List Value}{hl h1}{e:List k}(l:aV (flat a n (λ_=>True) hl h1) g f b d c i e){P j:Nat}{x x':k}{o:Value}(q:e[P]? =some x)(s:j<a)(t:n x'=(n x).set j o)(u:d=some ⟨p,F,none⟩)(m:∀h,aV (flat a n (λ_=>True) hl h1) g f h d c i (e.set P x')->aj (λp=>aG d=some p) b h->h.heap.size=b.heap.size->z h):PS b ⟨p,F+P*a+j,none⟩ o z:=by
 obtain⟨cs,D,v,w,y⟩:=l.body;have A:=bM.ou.1 w;subst A;have B:P<e.length:=(Qv.1 q).1;rw[Nat.add_assoc];refine v.set (m:=P*a+j) ?_ u λh C E r=>m h ⟨⟨_,D,C,bM.ou.2 (rV hl s e P x q t),y⟩,l.self,λp H=>by rw[r];exact l.aE p H⟩ E r;rw[lJ hl];have:(P+1)*a<=e.length*a:=Q0 _ B;rw[X7]at this;omega
def yi{P:Program}{w:World}(n:Nat)(b g c:TypeId)(h:TypeInfo)(a:Nat)(e:P.underlying b=some (.slice c))(f:P.info? c=some h)(d:Value)(i:Nat)(j:List Value)(k:w.ownsRow n c a d i j)(l:Nat):
  (Builtin.append_ #[b,b] g #[d,.slice none 0 l]).run P w= .ok d w:=by
 rcases k.2 with⟨rfl,rfl⟩|⟨q,m,o,rfl,_,_,p,_⟩
 ·simp[Builtin.append_,run_underlying e,sizeOf,typeInfo,f,Builtin.lenOf,Builtin.firstCells]
 ·simp[Builtin.append_,run_underlying e,sizeOf,typeInfo,f,Builtin.lenOf,Builtin.firstCells,p,storeCells]
def Au{k:kr j}{o:List j}{bytes:Nat}(s:aV k g f b d a c o)(t:kM h r g k.k bytes){D:LL}{e:List j}(w:Row k bytes b D v i e)(A:∀n,D n->n<b.heap.size/\aG d≠some n)(l:(o.length+e.length)*bytes<=aT)(B:o.length+e.length<=maxLen)(m:∀x P y z,aV k g z y x (a+i) P (o++e)->aj (λE=>aG d=some E) b y->(∀n,z n->f n\/D n\/b.heap.size<=n)->(∀n,aG x=some n->f n\/b.heap.size<=n)->q (.slice x (a+i) P) y):
  aJ h (Builtin.append_ #[r,r] C #[.slice d a c,.slice v i p]) b q u:=by
 cases v with
 |some N=>exact lG s t w A l B m
 |none=>
  have F:e=[]:=by
   cases e with
   |nil=>rfl
   |cons H O=>obtain⟨n,I,Q,J,_⟩:=w.el 0 H rfl;cases J
  subst F;obtain rfl:i=0:=w.len;obtain⟨K,R,L,S,T,U,V⟩:=kM.info t;obtain⟨cs,W,M,X,Y⟩:=s.body;exact aJ.mk (yi (P:=h) (w:=b) 0 r C g K k.k t.under L (.slice d a c) a cs M.row p) (m d c b f (by simpa using s) (aj.refl _) (λn l=>.inl l) λn l=>.inl (s.self n l))
end Go.aq
namespace Go.aq
open Go
def LU(n:UInt8):ZU .i64 (n.toNat:Int)=n.toNat:=wrap_i64 (by have:=n.toNat_lt;unfold aM;omega)
def lO(n:UInt8):Nat:=if 16<n.toNat then n.toNat-16 else n.toNat
def Mp(P:UInt8):(ZU .i64 (mj .u8 (P.toNat:Int) 16)<=8/\((P.toNat:Int)≠16)↔lO P<=8)/\(lO P<=8->ZU .i64 (mj .u8 (P.toNat:Int) 16)=(lO P:Int)/\Bm .u8 (P.toNat:Int) 16=if 16<P.toNat then 16 else 0):=by
 have a:(List.range 256).all (λn=>decide ((ZU .i64 (mj .u8 (n:Int) 16)<=8/\((n:Int)≠16)↔(if 16<n then n-16 else n)<=8)/\((if 16<n then n-16 else n)<=8->ZU .i64 (mj .u8 (n:Int) 16)=((if 16<n then n-16 else n:Nat):Int)/\Bm .u8 (n:Int) 16=if 16<n then 16 else 0)))=true:=by decide+kernel
 have:=ZY.1 a P.toNat (List.mem_range.2 P.toNat_lt);exact XV this
def Mq{n d:Nat}(b:n<72057594037927936)(c:d<256):PZ .u64 (IH .u64 (n:Int) 8) (ZU .u64 (d:Int))=((n*256+d:Nat):Int):=by
 have P:IH .u64 (n:Int) 8=((n*256:Nat):Int):=by
  unfold IH;have:min (Int.toNat 8) (IntKind.bits .u64)=8:=dC
  rw[this,wrap_u64];have:((2:Int) ^ 8)=256:=dC
  rw[this];omega
 rw[P,Fu oM];unfold PZ;show ZU .u64 ((BitVec.ofInt 64 ((n*256:Nat):Int)|||BitVec.ofInt 64 (d:Int)).toNat:Int)=_;have a:n*256|||d=n*256+d:=by
  have:=(Nat.shiftLeft_add_eq_or_of_lt (a:=n) (i:=8) (b:=d) oM).symm
  rwa [Nat.shiftLeft_eq]at this
 rw[BitVec.ofInt_natCast,BitVec.ofInt_natCast,BitVec.toNat_or,BitVec.toNat_ofNat,BitVec.toNat_ofNat,Nat.mod_eq_of_lt oM,Nat.mod_eq_of_lt oM,a,Fu oM]
variable{w:List UInt8}{a:Nat}{c3:UInt8}
def EJ(n:w[a]? =some c3):gM (w.take (a+1))=gM (w.take a)*256+c3.toNat:=by
 rw[Qw,n];exact yT _ _
def oZ(n:List UInt8){j m:Nat}(P:j<=m):gM (n.take j)<256 ^ m:=by
 have a:=NB (n.take j);have b:256 ^(n.take j).length<=256 ^ m:=Nat.pow_le_pow_right oM (by simp;omega);omega
def Mr(n:¬lO c3<=8):rdNum (c3::w)=(5,0,0):=by
 unfold rdNum lO at*;simp only;rw[Zx oM]
def JB(P:lO c3<=8)(n:w.length<lO c3):rdNum (c3::w)=(4,0,0):=by
 unfold rdNum lO at*;simp only;rw[Zq oM,Zx n]
def Pq(a:lO c3<=8)(n:¬w.length<lO c3)(P:(0<lO c3/\w.head? =some 0)\/(¬16<c3.toNat/\2 ^ 63<=gM (w.take (lO c3)))\/(16<c3.toNat/\2 ^ 63<gM (w.take (lO c3)))):rdNum (c3::w)=(5,0,0):=by
 unfold rdNum lO at*;simp only;rw[Zq oM,Zq n,Zx P]
def CD(a:lO c3<=8)(n:¬w.length<lO c3)(P:¬((0<lO c3/\w.head? =some 0)\/(¬16<c3.toNat/\2 ^ 63<=gM (w.take (lO c3)))\/(16<c3.toNat/\2 ^ 63<gM (w.take (lO c3))))):
  rdNum (c3::w)=(0,if 16<c3.toNat then-(gM (w.take (lO c3)):Int)else gM (w.take (lO c3)),lO c3+1):=by
 unfold rdNum lO at*;simp only;rw[Zq oM,Zq n,Zq P]
end Go.aq
namespace Go.Proofs.YtjgjkeponbeekaaGreatDoor
section
open Go.aq
structure fy (w:World) (p:Nat) (F:LL) (r:ia):Prop where
 body:∃a n cap G,w.heap[p]? =some (.cells #[.slice a n cap,ZT (r.pos:Int),ZT r.sv] 337 (0,0))/\aV gh 5 G w a n cap r.bytes/\(∀b,G b->F b/\b≠p)
 self:F p
 aE:∀b,F b->b<w.heap.size
 fit:r.Fit
 fe:r.bytes.length<=aT
variable{o:Array Value}{J:Bool}{A:FuncId}{e:Int}{a7:List PanicEntry->UV}{w:List UInt8}{a c i:Nat}{f:LL}{d:ac}{q u:L1}{b k:World}{T:ia}
def fy.keep{S c:LL}(P:fy b a c T)(d:aj S b k)(g:∀n,c n->¬S n):fy k a c T:=by
 obtain⟨i,j,e,G,l,m,h⟩:=P.body;exact⟨⟨i,j,e,G,d.get l (g _ P.self),m.keep d (λn f=>g n (h n f).1),h⟩,P.self,λn f=>Qk (P.aE n f) d.size,P.fit,P.fe⟩
def fy.af(n:fy b a f T)(P:ai b k):fy k a f T:=n.keep P λ_ _ n=>n
def fy.fg{b w':World}{e r':ia}(g:fy b a f e){G:LL}(k:aV gh 5 G b d c i e.bytes)(h:∀n,G n->f n/\n≠a)(j:aj (·=a) b w')(l:w'.heap[a]? =some (.cells #[.slice d c i,ZT (r'.pos:Int),ZT r'.sv] 337 (0,0)))(P:r'.bytes=e.bytes)(m:r'.Fit):fy w' a f r':=
 ⟨⟨d,c,i,G,l,by rw[P];exact k.keep j λn P=>(h n P).2,h⟩,g.self,λn P=>Qk (g.aE n P) j.size,m,by rw[P];exact g.fe⟩
def EH{D:LL}(P:Row gh 1 b D d a w)(o:∀n,D n->n<b.heap.size):
  am 164 #[.slice d a c] b (Ok λp j=>∃k l,p= L2 k/\fy j k l ⟨w,0,0⟩/\ai b j/\∀n,l n->b.heap.size<=n):=by
 have q:=P.len;have r:=P.fe;refine IC (Au (aV.nil b) tT P (λn g=>⟨o n g,by simp[aG]⟩) (by simp;omega) (by unfold aT at r;unfold maxLen;simp;omega) λe s h z t u _ v=>?_);refine⟨_,_,_,rfl,PA.mk λA i B x=>?_⟩;have m:ai b h:=u.mono λn _ P=>by simp[aG]at P
 have f:=t.alone;rw[List.nil_append]at f;have y:∀n,aG e=some n->b.heap.size<=n:=λn P=>(v n P).elim (λg=>g.elim) id;refine Ok.mk ⟨h.heap.size,λn=>n=h.heap.size\/aG e=some n,rfl,⟨⟨e,_,s,λn=>aG e=some n,x,f.af i,λn P=>⟨.inr P,?_⟩⟩,.inl rfl,?_,⟨Qj _,.inl rfl⟩,by rw[<-q];omega⟩,m.then i,?_⟩
 ·have:=f.aE n P;omega
 ·rintro n (rfl|P)
  ·omega
  ·have:=f.aE n P;have:=i.size;omega
 ·rintro n (rfl|P)
  ·exact m.size
  ·exact y n P
def Vm(n:Int):List PanicEntry:=[{v:=.iface 372 (ZT n),recovered:=false}]
def gq(n:J=true->q (.tuple #[]) b)(P:J=false->a7 (Vm e) b):
  PC WP 287 #[.bool J,ZT e] b q a7:=by
 cases J
 ·refine yx (al.tt rfl ?_)
  exact aJ.panics (v:=.iface 372 (ZT e)) rfl (P rfl)
 ·exact yx (al.ff rfl (n rfl))
def Wh(b:World)(a:Nat)(c:LL)(n:ia)(no:Int)(f:L1)(g:Nat):RK:=λd P=>
 ((no=0/\fy P a c ⟨n.bytes,n.pos+g,n.sv⟩/\∃e,d= .returned e/\f e P)\/(no≠0/\d= .panicked (Vm no)/\∃h,fy P a c ⟨n.bytes,h,n.sv⟩))/\aj (·=a) b P/\P.heap.size=b.heap.size
def PC.red{no:Int}(d:am A o b (Wh b a f T no q c))(j:no=0->∀P n,fy n a f ⟨T.bytes,T.pos+c,T.sv⟩->q P n->aj (·=a) b n->n.heap.size=b.heap.size->u P n)(k:no≠0->∀n,(∃l,fy n a f ⟨T.bytes,l,T.sv⟩)->aj (·=a) b n->n.heap.size=b.heap.size->a7 (Vm no) n):PC WP A o b u a7:=
 d.mono λp n ⟨d,h,i⟩=>by
  rcases d with⟨e,g,P,rfl,m⟩|⟨e,rfl,g⟩
  ·exact j e P n g m h i
  ·exact k e n g h i
def NF{m:Nat}(c:fy b a f T)(M:m<=2147483647):
  am 288 #[L2 a,ZT (m:Int)] b (Wh b a f T (if m<=T.bytes.length-T.pos then 0 else 4) (λx y=>∃d z,x= .slice d m z/\Row gh 1 y f d m ((T.bytes.drop T.pos).take m)) m):=by
 obtain⟨d,q,n,G,A,g,j⟩:=c.body;have N:=c.fit.pos;have B:=c.fe;have O:=g.len dC;have C:=g.lv;unfold aT at B;refine ux λr s=>?_;have h:ai b r:=s.keep;have i:=h.get A id;have t:r.heap.size=b.heap.size:=by rw[s.heap]
 refine⟨a,0,rfl,d,q,n,ae i rfl,a,0,rfl,_,ae i rfl,gq (λP=>?_) (λP=>?_)⟩
 ·have P:=XV P
  rw[wrap_i64 (by unfold aM;omega)]at P;refine⟨rfl,a,0,rfl,_,ae i rfl,a,0,rfl,PS.mk i sM λE F H e=>?_⟩;have I:ZU .i64 ((T.pos:Int)+(m:Int))=((T.pos+m:Nat):Int):=by rw[wrap_i64 (by unfold aM;omega)];omega
  rw[I]at e;have J:ZU .i64 (((T.pos+m:Nat):Int)-(m:Int))=(T.pos:Int):=by rw[wrap_i64 (by unfold aM;omega)];omega
  refine⟨a,0,rfl,d,q,n,ae e rfl,a,0,rfl,_,ae e rfl,a,0,rfl,_,ae e rfl,?_⟩;rw[J];refine⟨oM,oM,oM,λk u=>?_⟩;have v:ai E k:=u.keep;have l:aj (·=a) b k:=((h.keep).then F).af v;have K:fy k a f ⟨T.bytes,T.pos+m,T.sv⟩:=c.fg (r':=⟨T.bytes,T.pos+m,T.sv⟩) g j l (v.get e id) rfl ⟨by show T.pos+m<=T.bytes.length;omega,c.fit.sv⟩;refine⟨.inl ⟨Zx oM,K,_,rfl,cZ d T.pos n 1,n-T.pos,?_⟩,l,by rw[u.heap,H,t]⟩;simp only[Qx];rw[show T.pos+m-T.pos=m by omega];refine⟨rfl,?_⟩;have o:=(g.row (bytes:=1) dC (by unfold aT;omega)).part (lo:=T.pos) (hi:=T.pos+m) (cap:=n) oM oM C;rw[show T.pos+m-T.pos=m by omega]at o;have L:(T.bytes.take (T.pos+m)).drop T.pos=(T.bytes.drop T.pos).take m:=by rw[List.drop_take];congr 1;omega
  rw[L]at o;exact((o.keep l λp P=>(j p P).2)).mono λp P=>(j p P).1
 ·intro _ _
  have P:=Xy P;rw[wrap_i64 (by unfold aM;omega)]at P;have w:¬m<=T.bytes.length-T.pos:=oM
  refine⟨.inr ⟨by rw[Zq w];decide,by rw[Zq w],T.pos,?_⟩,h.keep,t⟩;exact c.af h
def Fy(M:fy b a f T):
  am 230 #[L2 a] b (Wh b a f T T.num.1 (λt e=>t= ZT T.num.2.1) T.num.2.2):=by
 have x:=M.fit.pos;have r:(T.bytes.drop T.pos).length=T.bytes.length-T.pos:=XZ ..;generalize s:T.bytes.drop T.pos=A at r;have Z:T.num=rdNum A:=by unfold ia.num;rw[s]
 rw[Z];refine qu (PC.red (NF (m:=1) M oM) ?_ ?_)
 rotate_left
 ·intro k y B u v
  have:¬1<=T.bytes.length-T.pos:=λg=>k (Zx g);rw[Zq this];have:A=[]:=QW oM;subst this;exact⟨.inr ⟨dC,rfl,B⟩,u,v⟩
 rintro k _ y N ⟨a1,c1,rfl,O⟩ u v;have Q:1<=T.bytes.length-T.pos:=by
  by_cases g:1<=T.bytes.length-T.pos
  ·exact g
  ·rw[Zq g]at k;cases k
 rw[s]at O
 match A,s,r with
 |[],s,r=>simp at r;omega
 |n::d,s,r=>
 have b1:d.length=T.bytes.length-T.pos-1:=by simp at r;omega
 have a7:T.bytes.drop (T.pos+1)=d:=by rw[<-List.drop_drop,s];rfl
 obtain⟨b5,o6,m,rfl,o,_,P⟩:=O.oy (i:=0) oM;obtain rfl:n=m:=by simpa using o
 obtain⟨C,a8⟩:=Mp n;refine⟨_,_,_,rfl,b5,o6,rfl,oM,oM,_,P,?_⟩;refine⟨λe=>lO n<=8/\e=y,?_,?_⟩
 ·have h:¬lO n<=8->∀e,e=y->Wh b a f T (rdNum (n::d)).1 (λt e=>t= ZT (rdNum (n::d)).2.1) (rdNum (n::d)).2.2 (.panicked (Vm 5)) e:=by
   rintro p e rfl;rw[Mr p];exact⟨.inr ⟨dC,rfl,T.pos+1,N⟩,u,v⟩
  refine al.dec (λE=>gq (λc=>⟨rfl,?_,rfl⟩) (λc=>h ?_ _ rfl)) (λE=>gq (λc=>(by cases c)) λ_=>h ?_ _ rfl)
  ·exact C.1 ⟨E,by simpa using c⟩
  ·intro p
   have:=(C.2 p).2;simp only[bne_eq_false_iff_eq]at c;exact this c
  ·intro p
   exact E (C.2 p).1
 rintro _ y ⟨w,rfl⟩;obtain⟨p,a9⟩:=a8 w;rw[p];refine PC.red (NF (m:=lO n) N oM) ?_ ?_
 rotate_left
 ·intro k l B F H
  have hn:¬lO n<=T.bytes.length-(T.pos+1):=λg=>k (Zx g);rw[Zq hn,JB w oM];exact⟨.inr ⟨dC,rfl,B⟩,u.then F,H.trans v⟩
 rintro k _ l R ⟨a2,c2,rfl,z⟩ F H;have b2:lO n<=d.length:=by
  by_cases g:lO n<=T.bytes.length-(T.pos+1)
  ·omega
  ·simp only at k;rw[Zq g]at k;cases k
 change Row gh 1 l f a2 (lO n) ((T.bytes.drop (T.pos+1)).take (lO n))at z
 rw[a7]at z;have S:fy l a f ⟨T.bytes,T.pos+(lO n+1),T.sv⟩:=by have:=R;rwa [show T.pos+(lO n+1)=T.pos+1+lO n by omega]
 have I:aj (·=a) b l:=u.then F;have J:=H.trans v;have h:((0<lO n/\d.head? =some 0)\/(¬16<n.toNat/\2 ^ 63<=gM (d.take (lO n)))\/(16<n.toNat/\2 ^ 63<gM (d.take (lO n))))->∀e,e=l->Wh b a f T (rdNum (n::d)).1 (λt e=>t= ZT (rdNum (n::d)).2.1) (rdNum (n::d)).2.2 (.panicked (Vm 5)) e:=by
  rintro c e rfl;rw[Pq w oM c];exact⟨.inr ⟨dC,rfl,_,R⟩,I,J⟩
 refine⟨_,_,_,rfl,λe=>¬(0<lO n/\d.head? =some 0)/\e=l,?_,?_⟩
 ·refine al.eL (λg=>gq (λ_=>⟨rfl,λP=>oM,rfl⟩) (λc=>by cases c)) (λg=>?_)
  have x:0<lO n:=oM
  obtain⟨K,L,m,rfl,o,_,P⟩:=z.oy (i:=0) x;have U:d.head? =some m:=by
   rw[Xw,Zx x]at o;rw[List.head?_eq_getElem?];exact o
  refine⟨K,L,rfl,oM,oM,_,P,gq (λc=>⟨rfl,λP=>?_,rfl⟩) (λc=>h (.inl ⟨x,?_⟩) _ rfl)⟩
  ·rw[U]at P
   have:=P.2;simp only[Q1]at this;subst this;simp at c
  ·rw[U]
   have:(m.toNat:Int)=0:=by simpa using c
   exact Zj some (UInt8.toNat_inj.1 (by
                         have:m.toNat=0:=oM
                         rw[this];rfl))
 rintro _ l ⟨V,rfl⟩;refine⟨λW X i e=>∃j:Nat,j<=lO n/\i=j/\W=lO n-j/\e=l/\X=(gM (d.take j):Int),⟨_,0,Qj _,rfl,rfl,rfl,rfl⟩,?_⟩;rintro W X i _ l ⟨j,hj,rfl,rfl,rfl,rfl⟩;refine al.dec (λh1=>?_) (λh1=>?_)
 ·have Y:j<lO n:=oM
  obtain⟨K,L,m,rfl,o,_,P⟩:=z.oy (i:=j) Y;rw[Xw,Zx Y]at o;refine⟨K,L,rfl,oM,oM,_,P,_,oM,j+1,oM,an oM,rfl,rfl,?_⟩;have b0:=oZ d (j:=j) (m:=7) oM;rw[Mq (by
            have:(256:Nat) ^ 7=72057594037927936:=dC
            omega) m.toNat_lt,EJ o]
 ·obtain rfl:j=lO n:=oM
  have b0:=oZ d (j:=lO n) (m:=8) oM;have b3:(256:Nat) ^ 8=18446744073709551616:=dC
  have b4:(2:Nat) ^ 63=9223372036854775808:=dC
  rw[a9];refine al.eL (λg=>?_) (λg=>?_)
  ·have q:¬16<n.toNat:=by intro P;rw[Zx P]at g;cases g
   refine gq (λc=>⟨rfl,?_⟩) (λc=>h (.inr (.inl ⟨q,?_⟩)) _ rfl)
   ·have c:=XV c
    rw[CD w oM (λP=>P.elim V λP=>P.elim (λP=>oM) λP=>q P.1),Zq q];exact⟨.inl ⟨rfl,S,_,rfl,by rw[wrap_i64 (by unfold aM;omega)]⟩,I,J⟩
   ·have c:=Xy c
    omega
  ·have q:16<n.toNat:=by
    by_cases P:16<n.toNat
    ·exact P
    ·rw[Zq P]at g;exact Zz rfl g
   refine gq (λc=>⟨rfl,?_⟩) (λc=>h (.inr (.inr ⟨q,?_⟩)) _ rfl)
   ·have c:=XV c
    rw[CD w oM (λP=>P.elim V λP=>P.elim (λP=>P.1 q) λP=>oM),Zx q];refine⟨.inl ⟨rfl,S,_,rfl,?_⟩,I,J⟩;have e1:ZU .i64 (ZU .u64 (0-(gM (d.take (lO n)):Int)))= -(gM (d.take (lO n)):Int):=by
     unfold ZU;simp[IntKind.signed,IntKind.bits];omega
    rw[e1]
   ·have c:=Xy c
    omega
end
section
open Go.aq
def vE:gA:=⟨[],[],[],[],[(0,⟨[0,0,2,4,8,0,0,64,128,256,512,1056,2048,4112,8192,32767,65535,98303],[262143,262143,262141,262139,262135,262143,262143,262079,262015,261887,261631,261087,260095,258031,253951,262142,229375,180223],[0,0,0,0,1,0,0,0,0,1,0,0,0,0,2,0,0,2]⟩)]⟩
variable{s:RK}{e:Int}{d:ac}{b:World}
def vF(z:(∀P,bC b P->(∃f g,d=some ⟨f,g,none⟩/\(∃(h:ac) (A:Nat) (a:Nat),P.cell? ⟨f,g,none⟩=some (.slice h A a)/\
   (∃i j,d=some ⟨i,j,none⟩/\(∃(B:ac) (n:Nat) (C:Nat),P.cell? ⟨i,j,none⟩=some (.slice B n C)/\((0:Int)<=(if(if((n:Nat):Int)<e then((n:Nat):Int)else e)>0 then(if((n:Nat):Int)<e then((n:Nat):Int)else e)else 0)/\
   ((if(if((n:Nat):Int)<e then((n:Nat):Int)else e)>0 then(if((n:Nat):Int)<e then((n:Nat):Int)else e)else 0):Int)<=((a:Nat):Int)/\
   PC WP 207 #[.slice h (Int.toNat (if(if((n:Nat):Int)<e then((n:Nat):Int)else e)>0 then(if((n:Nat):Int)<e then((n:Nat):Int)else e)else 0)) a] P (λE F=>
   ∃(k:ac) (l:Nat) (m:Nat),E= .slice k l m/\(∃o p,d=some ⟨o,p,none⟩/\PS F ⟨o,p,none⟩ (.slice k l m) λq=>
   (∃r t,d=some ⟨r,t,none⟩/\(∃(H:ac) (u:Nat) (I:Nat),q.cell? ⟨r,t,none⟩=some (.slice H u I)/\
   (∃v w,d=some ⟨v,w,none⟩/\PS q ⟨v,w+1,none⟩ (ZT ((u:Nat):Int)) λJ=>(∃x y,d=some ⟨x,y,none⟩/\
   PS J ⟨x,y+2,none⟩ (.bool true) λK=>s (.returned (.tuple #[])) K)))))) (λL c=>∀(_:cf) (_:cU),s (.panicked L) c)))))))):
  am 139 #[.pointer d,ZT e] b s:=
 gg vE mixed Tryz.func139 rfl (Zv kR) kR (Eq.mp kR z)

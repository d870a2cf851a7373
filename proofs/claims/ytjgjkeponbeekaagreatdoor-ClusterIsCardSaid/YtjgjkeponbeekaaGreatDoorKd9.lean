import Derived.Test.YtjgjkeponbeekaaGreatDoorYdCode
import Derived.Maps.AppendAt
import Derived.Below
import Derived.Laws.Strings
import Derived.Laws.OwnMore
import Derived.Laws.MakeOwn
import Derived.Lib.BitFns
import Derived.Lib.ItoaNum
import Derived.Shelf.SlIter.Nil
import Derived.Shelf.SlIterI.Nil
import Derived.Shelf.SortM.Plain
import Derived.Shelf.SortM.SortNone
import Derived.Shelf.Strconv.Itoa3
import Derived.Shelf.Small.Strs
import Derived.Ground.GgzProg
import Derived.Ground.SlgmProg
import Derived.Ground.NamesProg
import Derived.Test.YtjgjkeponbeekaaGreatDoorProg
import Derived.Laws.CopyRow
import Derived.Laws.IdiomCopy
set_option linter.all false
set_option maxHeartbeats 4000000
set_option maxRecDepth 100000
open Go.IntKind renaming wrap→ZG
namespace Go.Proofs.YtjgjkeponbeekaaGreatDoor
open Go.ar
def DA:fL:=⟨[],[],[],[],[]⟩
variable{X o:Array Value}{t:ZT}{A:FuncId}{e:Int}{a c:Nat}{d s:YQ}{b:World}
def DB(n:((0:Int)<=(if(a:Int)<(if 0>e then 0 else e)then(a:Int)else(if 0>e then 0 else e))/\((if(a:Int)<(if 0>e then 0 else e)then(a:Int)else(if 0>e then 0 else e)):Int)<=(if(a:Int)<(if 0>e then 0 else e)then(a:Int)else(if 0>e then 0 else e))/\((if(a:Int)<(if 0>e then 0 else e)then(a:Int)else(if 0>e then 0 else e)):Int)<=(c:Int)/\PC_ 215 #[.slice d (Int.toNat (if(a:Int)<(if 0>e then 0 else e)then(a:Int)else(if 0>e then 0 else e))) (Int.toNat (if(a:Int)<(if 0>e then 0 else e)then(a:Int)else(if 0>e then 0 else e)))] b (kS_ λP f g h=>rt t ((.tuple #[.slice P f g,.bool (decide (((if(a:Int)<(if 0>e then 0 else e)then(a:Int)else(if 0>e then 0 else e)):Int)<(a:Int)))])) h) (pE t))):YX 152 #[.slice d a c,.ii e] b t:=DC DA Tryz.func152 rfl n
def Bw:fL:=⟨[(2,[(5,ZH 0),(6,ZH 0)])],[],[],[],[]⟩
def By(k:(∃d:Nat->Int->Int->ZU,(∃a,d a 0 e b)/\∀(a:Nat) (n:Int) (P:Int) (m:Nat->Value) (f:World),d a n P f->al (decide (n<P)) ((∃g h i,(.func (.func A) o X:Value)= .func (.func g) h i/\enters ZP g=true/\PC_ g (h++ #[.ii (ZG .i64 (gY .u64 (ZG .u64 (ZG .i64 (n+P))) 1))]++i) f (kB λl j=>al (!l) ((∃c,c<a/\d c (ZG .i64 ((ZG .i64 (gY .u64 (ZG .u64 (ZG .i64 (n+P))) 1))+1)) P j)) ((∃c,c<a/\d c n (ZG .i64 (gY .u64 (ZG .u64 (ZG .i64 (n+P))) 1)) j))) (pE t))) (rt t ((.ii n)) f))):YX 150 #[.ii e,.func (.func A) o X] b t:=DC Bw Tryz.func150 rfl k
def xp:fL:=⟨[(5,[(51,ZH 0)])],[(4,[(6,.pointer (some ⟨0,0,none⟩)),(7,.pointer (some ⟨0,0,none⟩))]),(13,[])],[3,10,15,16],[],[(1,⟨[0,1,2,4,0,16,0,64,0,256,0,1024,2728,4096],[16383,16382,16381,16379,16383,16367,16383,16319,16383,16127,16383,15359,13655,12287],[0,0,0,1,0,1,0,1,0,1,0,1,2,0]⟩),(3,⟨[0,1,2,4,8,0,32,80,128,0,512,0,2048,5120,0,16384,40960,0,0,393727,1048575],[2097151,2097150,2097149,2097147,2097143,2097151,2097119,2097071,2097023,2097151,2096639,2097151,2095103,2092031,2097151,2080767,2056191,2097151,2097151,1965823,1769471],[0,0,0,0,1,0,1,0,1,0,1,0,1,0,0,1,0,2,2,2,2]⟩),(10,⟨[0,1,2,4,0,16,40,64,128,128,0,1535,4095],[8191,8190,8189,8187,8191,8175,8151,8127,8063,8063,8191,6911,7679],[0,0,0,1,0,1,1,0,0,0,2,2,0]⟩),(15,⟨[0,1,2,4,0,16,0,64,128,0,0,1024,0,4096,0,16384,0,65536,174592,262400,1048575],[2097151,2097150,2097149,2097147,2097151,2097135,2097151,2097087,2097023,2097151,2097151,2096127,2097151,2093055,2097151,2080767,2097151,2031615,1922559,1834751,1572823],[0,0,0,1,0,1,0,1,0,1,0,1,0,1,0,1,0,1,2,0,2]⟩),(16,⟨[0,1,2,4,0,0,32,127,128,448,128,2047],[4095,4094,4093,4091,4095,4095,4063,4071,3967,3775,3967,2551],[0,0,0,1,1,1,2,2,0,2,0,2]⟩)]⟩
def xq{Z a0 a1 a2 a3 a4 a5 a6 a7:Int}(a9:PA b (.cells #[.ii Z,.ii a0,.ii a1,.slice s a c,.ii a2,.ii a3,.ii a4,.ii a5,.ii a6,.ii a7] 63) λn=>PA n (.cells #[.ii 0,.ii 0] 46) λi9=>(∀j,aV i9 j->(dr d λb0 b1=>(∃b2 b3 b4 b5 b6 b7,j.cell? (ad b0 b1)=some (.slice b2 b3 b4)/\j.cell? (ad b0 (b1+1))=some (.slice b5 b6 b7)/\(rI j (ab_ b (0+4)) λj0=>(rI j (ab_ b (0+6)) λj1=>(rI j (ab_ b (0+7)) λj2=>(rI j (ab_ b (0+8)) λj3=>PC_ 201 #[.agg #[.slice b2 b3 b4,.slice b5 b6 b7],.ii j0,.ii j1,.ii j2,.ii j3] j (kI_ λj4 b8=>al (j4 !=0) ((∀A,aV b8 A->(∃b9 c0,A.cell? (ab_ n 0)=some (.ii b9)/\A.cell? (ab_ n (0+1))=some (.ii c0)/\PS A (ab_ n 0) (.ii b9) λj5=>PS j5 (ab_ n (0+1)) (.ii c0) λH=>(∃c1 c2,H.cell? (ab_ n 0)=some (.ii c1)/\H.cell? (ab_ n (0+1))=some (.ii c2)/\rt t ((.tuple #[.bool true,.agg #[.ii c1,.ii c2]])) H)))) ((∃G:Nat->Nat->Nat->Nat->ZU,((∀e,aV b8 e->∃f:ZN,(dr d λc3 j6=>(¬f c3/\(rS e (ad c3 j6) λj7 j8 q4=>(¬f b.heap.size/\(rI e (ab_ b (0+4)) λc4=>(ix_ j7 c4 j8 λc5 j9=>(¬f c5/\(rS e (ad c5 (j9+Int.toNat c4)) λc6 c7 c8=>(¬f b.heap.size/\(rI e (ab_ b (0+4)) λc9=>(¬f b.heap.size/\(rI e (ab_ b (0+5)) λd0=>(¬f b.heap.size/\(rI e (ab_ b (0+6)) λd1=>((PA e (.cells #[.slice none 0 0] 118) λr=>(ak f e r/\PA r (.cells #[.ii 0,.ii 0,.ii 0] 350) λI=>(ak f r I/\PS I (ab_ e 0) (.slice c6 c7 c8) λJ=>(ak f I J/\St 350 (ab_ r 0) (.agg #[.ii c9,.ii d0,.ii d1]) J λd2=>(ak f J d2/\G e.heap.size 0 r.heap.size 0 d2)))))/\(PA e (.cells #[.ii 0,.ii 0,.ii 0] 350) λu=>(ak f e u/\PA u (.cells #[.slice none 0 0] 118) λK=>(ak f u K/\PS K (ab_ u 0) (.slice c6 c7 c8) λL=>(ak f K L/\St 350 (ab_ e 0) (.agg #[.ii c9,.ii d0,.ii d1]) L λd3=>(ak f L d3/\G u.heap.size 0 e.heap.size 0 d3))))))))))))))))))))))/\∀(v:Nat) (w:Nat) (i:Nat) (l:Nat) (q5:Nat->Value) (p:World),G v w i l p->(dr d λk1 k2=>(rM p (ad k1 (k2+4)) λk3=>(Ld 350 (ad i l) p λk4=>(∃d4 M k5,(∀a8,(Instr.lookup 264 (.map k3) k4 false).run ZP (p.drewN a8)= .ok (.slice d4 M k5) (p.drewN a8))/\(∀d5,aV p d5->(∃N:Nat->Int->ZU,(∃B,N B 0 d5)/\∀(B:Nat) (x:Int) (q6:Nat->Value) (k:World),N B x k->al (decide (x<(M:Int))) ((ix_ d4 x M λk6 k7=>(Ld 63 (ad k6 (k7+Int.toNat x*10)) k λk8=>PA k (.cells #[.ii 0,.ii 0,.ii 0,.slice none 0 0,.ii 0,.ii 0,.ii 0,.ii 0,.ii 0,.ii 0] 63) λk9=>St 63 (ab_ k 0) k8 k9 λl0=>(∀m,aV l0 m->(rS m (ad v w) λl1 l2 q7=>(rI m (ab_ b (0+6)) λd6=>(ix_ l1 d6 l2 λl3 l4=>(Ld 121 (ad l3 (l4+Int.toNat d6*4)) m λl5=>(Ld 63 (ab_ k 0) m λl6=>(Ld 63 (ab_ b 0) m λl7=>PC_ 251 #[l5,l6,l7] m (kB λl8 d7=>al l8 ((∀C,aV d7 C->(∃d8 d9,C.cell? (ab_ k 0)=some (.ii d8)/\C.cell? (ab_ k (0+1))=some (.ii d9)/\PS C (ab_ n 0) (.ii d8) λl9=>PS l9 (ab_ n (0+1)) (.ii d9) λO=>(∃e0 e1,O.cell? (ab_ n 0)=some (.ii e0)/\O.cell? (ab_ n (0+1))=some (.ii e1)/\rt t ((.tuple #[.bool true,.agg #[.ii e0,.ii e1]])) O)))) ((∃e2,e2<B/\N e2 (ZG .i64 (x+1)) d7))) (pZ t))))))))))) ((∀g,aV k g->∃y:ZN,(dr d λe6 m0=>(¬y e6/\(rM g (ad e6 (m0+3)) λm1=>(¬y i/\(∃f0 f1,g.cell? (ad i l)=some (.ii f0)/\g.cell? (ad i (l+1))=some (.ii f1)/\(∃f2 f3 f4 f5 f6,(∀Q,ak y g Q->(Instr.lookup 263 (.map m1) (.agg #[.ii f0,.ii f1]) true).run ZP Q= .ok (.tuple #[.agg #[.ii f2,.slice f3 f4 f5],.bool f6]) Q)/\PA g (.cells #[.ii 0,.slice none 0 0] 49) λR=>(ak y g R/\PS R (ab_ g 0) (.ii f2) λm2=>PS m2 (ab_ g (0+1)) (.slice f3 f4 f5) λE=>(ak y R E/\(∃S:ZU,(al (!f6) ((rS E (ad v w) λm3 m4 m5=>PC_ 128 #[.agg #[.slice m3 m4 m5]] E (kS_ λm6 m7 m8 m9=>PS m9 (ab_ g (0+1)) (.slice m6 m7 m8) λn0=>S n0) (pE t))) (S E))/\∀(q8:Nat->Value) (o:World),S o->(rS o (ad v w) λn1 n2 n3=>(rS o (ab_ g (0+1)) λn4 n5 n6=>(rI o (ab_ b (0+6)) λn7=>(rI o (ab_ b (0+7)) λn8=>(rI o (ab_ b (0+8)) λn9=>PC_ 131 #[.agg #[.slice n1 n2 n3],.slice n4 n5 n6,.ii n7,.ii n8,.ii n9] o (kI_ λo0 f7=>al (o0 !=0) ((∀D,aV f7 D->(∃f8 f9,D.cell? (ab_ n 0)=some (.ii f8)/\D.cell? (ab_ n (0+1))=some (.ii f9)/\PS D (ab_ n 0) (.ii f8) λo1=>PS o1 (ab_ n (0+1)) (.ii f9) λT=>(∃g0 g1,T.cell? (ab_ n 0)=some (.ii g0)/\T.cell? (ab_ n (0+1))=some (.ii g1)/\rt t ((.tuple #[.bool true,.agg #[.ii g0,.ii g1]])) T)))) ((∀h,aV f7 h->∃z:ZN,(dr d λg2 o2=>(¬z g2/\(rM h (ad g2 (o2+3)) λo3=>(¬z i/\(∃g3 g4,h.cell? (ad i l)=some (.ii g3)/\h.cell? (ad i (l+1))=some (.ii g4)/\(¬z g.heap.size/\(rI h (ab_ g 0) λo4=>(rS h (ad v w) λo5 o6 o7=>(rS h (ab_ g (0+1)) λo8 o9 p0=>(rI h (ab_ b (0+6)) λp1=>(rI h (ab_ b (0+7)) λp2=>(rI h (ab_ b (0+8)) λp3=>PC_ 252 #[.agg #[.slice o5 o6 o7],.slice o8 o9 p0,.ii p1,.ii p2,.ii p3] h (kS_ λp4 p5 p6 U=>(ak z h U/\jw ZP (Instr.mapUpdate 263 (.map o3) (.agg #[.ii g3,.ii g4]) (.agg #[.ii (ZG .i64 (o4+1)),.slice p4 p5 p6])) U (λg5=>(ak z U g5/\(∀P,aV g5 P->∃q:ZN,(dr d λg6 p7=>(¬q g6/\(rM P (ad g6 (p7+4)) λg7=>(¬q i/\(Ld 350 (ad i l) P λp8=>(∃g8 g9 h0 h1 h2 h3 h4 h5 h6 h7 h8 h9,P.cell? (ab_ b 0)=some (.ii g8)/\P.cell? (ab_ b (0+1))=some (.ii g9)/\P.cell? (ab_ b (0+2))=some (.ii h0)/\P.cell? (ab_ b (0+3))=some (.slice h1 h2 h3)/\P.cell? (ab_ b (0+4))=some (.ii h4)/\P.cell? (ab_ b (0+5))=some (.ii h5)/\P.cell? (ab_ b (0+6))=some (.ii h6)/\P.cell? (ab_ b (0+7))=some (.ii h7)/\P.cell? (ab_ b (0+8))=some (.ii h8)/\P.cell? (ab_ b (0+9))=some (.ii h9)/\PA P (.cells #[.ii g8,.ii g9,.ii h0,.slice h1 h2 h3,.ii h4,.ii h5,.ii h6,.ii h7,.ii h8,.ii h9] 63) λV=>(ak q P V/\PR_ (Instr.mapEntry 264 (.map g7) p8) V (λp9 W=>∃i0 i1 i2 i3,p9= .tuple #[.slice i0 i1 i2,.ii i3]/\(ak q V W/\PR_ (ap_ 59 (.slice i0 i1 i2) (.slice (some (ab_ P 0)) 1 1)) W (kS_ λq0 q1 q2 X=>(ak q W X/\jw ZP (Instr.entryStore 264 (.map g7) (.ii i3) (.slice q0 q1 q2)) X (λi4=>(ak q X i4/\(∀F,aV i4 F->(∃i5 i6,F.cell? (ab_ n 0)=some (.ii i5)/\F.cell? (ab_ n (0+1))=some (.ii i6)/\PS F (ab_ n 0) (.ii i5) λq3=>PS q3 (ab_ n (0+1)) (.ii i6) λY=>(∃i7 i8,Y.cell? (ab_ n 0)=some (.ii i7)/\Y.cell? (ab_ n (0+1))=some (.ii i8)/\rt t ((.tuple #[.bool false,.agg #[.ii i7,.ii i8]])) Y))))) (pY t))) (pY t))) (pY t))))))))))) (pY t))) (pZ t)))))))))))))))) (pE t)))))))))))))))))))))))))) (pZ t))))))))):YX 199 #[.pointer d,.agg #[.ii Z,.ii a0,.ii a1,.slice s a c,.ii a2,.ii a3,.ii a4,.ii a5,.ii a6,.ii a7]] b t:=DC xp Tryz.func199 rfl a9
def jg:fL:=⟨[(3,[(7,ZH 0),(8,ZH 0)])],[],[],[],[]⟩
def i_(l:(∃i:Nat->Int->Int->ZU,(∃g,i g 0 (a:Int) b)/\∀(g:Nat) (n:Int) (P:Int) (B:Nat->Value) (f:World),i g n P f->al (decide (n<P)) ((dr d λm o=>(0:Int)<=(ZG .i64 (gY .u64 (ZG .u64 (ZG .i64 (n+P))) 1))/\(ZG .i64 (gY .u64 (ZG .u64 (ZG .i64 (n+P))) 1))<(a:Int)/\(rI f (ad m (o+Int.toNat (ZG .i64 (gY .u64 (ZG .u64 (ZG .i64 (n+P))) 1)))) λp=>PC_ 337 #[.ii p,.ii e] f (kB λq j=>al q ((∃h,h<g/\i h (ZG .i64 ((ZG .i64 (gY .u64 (ZG .u64 (ZG .i64 (n+P))) 1))+1)) P j)) ((∃h,h<g/\i h n (ZG .i64 (gY .u64 (ZG .u64 (ZG .i64 (n+P))) 1)) j))) (pE t)))) (al (decide (n<(a:Int))) ((ix_ d n a λr s=>(rI f (ad r (s+Int.toNat n)) λu=>al (u==e) (rt t ((.tuple #[.ii n,.bool true])) f) ((ix_ d n a λv w=>(rI f (ad v (w+Int.toNat n)) λx=>PC_ 341 #[.ii x] f (kB λy k=>al y (PC_ 341 #[.ii e] k (kB λz A=>rt t ((.tuple #[.ii n,.bool z])) A) (pE t)) (rt t ((.tuple #[.ii n,.bool false])) k)) (pE t))))))) (rt t ((.tuple #[.ii n,.bool false])) f)))):YX 311 #[.slice d a c,.ii e] b t:=DC jg Tryz.func311 rfl l
def mz:fL:=⟨[],[(3,[])],[],[],[]⟩
def mB(l:(∃f:ZU,(al (decide ((e:Int)<0)) (aG ZP (Instr.panic (.iface 9 (.string (⟨#[99,97,110,110,111,116,32,98,101,32,110,101,103,97,116,105,118,101]⟩:ByteArray)))) b (λv m=>
   f m) (λn b=>t (.panicked [{v:=n,recovered:=false}]) b)) (f b))/\∀(w:Nat->Value) (i:World),f i->aG ZP (Builtin.cap_ #[237] 3 #[.slice d a c]) i (λo j=>
   ∃(g:Int),o= ZH g/\al (decide (((ZG .i64 (e-(ZG .i64 (g-((a:Nat):Int))))):Int)>0)) (aG ZP (Builtin.cap_ #[237] 3 #[.slice d a c]) j (λp q=>
   ∃(P:Int),p= ZH P/\((0:Int)<=P/\(P:Int)<=((c:Nat):Int)/\aG ZP (Builtin.append_ #[237,3] 237 #[.slice d (Int.toNat P) c,ZH (ZG .i64 (e-(ZG .i64 (g-((a:Nat):Int)))))]) q (λr s=>
   ∃(k:YQ) (u:Nat) (h:Nat),r= .slice k u h/\((0:Int)<=((a:Nat):Int)/\(((a:Nat):Int):Int)<=((h:Nat):Int)/\
   t (.returned (.slice k (Int.toNat ((a:Nat):Int)) h)) s)) (λn b=>t (.panicked [{v:=n,recovered:=false}]) b))) (λn b=>t (.panicked [{v:=n,recovered:=false}]) b)) (t (.returned (.slice d a c)) j)) (λn b=>
   t (.panicked [{v:=n,recovered:=false}]) b))):
  YX 328 #[.slice d a c,ZH e] b t:=
 fO mz mixed Tryz.func328 rfl (Zv kR) kR (Eq.mp kR l)
def kK:fL:=⟨[(3,[(3,ZH 0),(11,ZH 0)]),(11,[(6,.slice none 0 0),(27,ZH 0)])],[],[],[],[]⟩
def kL(J:(∃l:Nat->Int->Int->ZU,(∃h,l h 0 0 b)/\∀(h:Nat) (i:Int) (f:Int) (T:Nat->Value) (j:World),l h i f j->al (decide ((f:Int)<((a:Nat):Int))) ((∃s u,d=some ⟨s,u,none⟩/\
   (0:Int)<=f/\f<((a:Nat):Int)/\(∃(K:YQ) (m:Nat) (L:Nat),j.cell? ⟨s,u+Int.toNat f,none⟩=some (.slice K m L)/\
   al (decide (((ZG .i64 (i+((m:Nat):Int))):Int)<0)) (aG ZP (Instr.panic (.iface 9 (.string (⟨#[108,101,110,32,111,117,116,32,111,102,32,114,97,110,103,101]⟩:ByteArray)))) j (λU M=>
   (∃k,k<h/\l k (ZG .i64 (i+((m:Nat):Int))) (ZG .i64 (f+1)) M)) (λq b=>t (.panicked [{v:=q,recovered:=false}]) b)) ((∃k,k<h/\
   l k (ZG .i64 (i+((m:Nat):Int))) (ZG .i64 (f+1)) j))))) (PC ZP 328 #[.slice none 0 0,ZH i] j (λN O=>
   ∃(v:YQ) (w:Nat) (x:Nat),N= .slice v w x/\(∃r:Nat->YQ->Nat->Nat->Int->ZU,(∃o,r o v w x 0 O)/\
   ∀(o:Nat) (n:YQ) (P:Nat) (e:Nat) (g:Int) (V:Nat->Value) (p:World),r o n P e g p->al (decide ((g:Int)<((a:Nat):Int))) ((∃y z,d=some ⟨y,z,none⟩/\
   (0:Int)<=g/\g<((a:Nat):Int)/\(∃(A:YQ) (B:Nat) (C:Nat),p.cell? ⟨y,z+Int.toNat g,none⟩=some (.slice A B C)/\
   aG ZP (Builtin.append_ #[237,237] 237 #[.slice n P e,.slice A B C]) p (λQ R=>∃(E:YQ) (F:Nat) (H:Nat),Q= .slice E F H/\
   (∃I,I<o/\r I E F H (ZG .i64 (g+1)) R)) (λq b=>t (.panicked [{v:=q,recovered:=false}]) b)))) (t (.returned (.slice n P e)) p))) (λS b=>
   t (.panicked S) b)))):
  YX 294 #[.slice d a c] b t:=
 fO kK mixed Tryz.func294 rfl (Zv kR) kR (Eq.mp kR J)
def pP:fL:=⟨[(8,[(6,.int .u64 0),(37,ZH 0)])],[(4,[]),(6,[])],[],[],[]⟩
def pQ(s:PC_ 288 #[.pointer d,.ii 1] b (kS_ λu v I f=>(ix_ u 0 v λw x=>(∃n,f.cell? (ad w (x+Int.toNat 0))=some (.int .u8 n)/\(∃g:ZU,(al (decide (((ZG .i64 (lO .u8 n 16)):Int)<=8)) (PC_ 287 #[.bool (n !=16),.ii 5] f (k0_ λy=>g y) (pE t)) (PC_ 287 #[.bool false,.ii 5] f (k0_ λz=>g z) (pE t)))/\∀(J:Nat->Value) (l:World),g l->PC_ 288 #[.pointer d,.ii (ZG .i64 (lO .u8 n 16))] l (kS_ λm h K i=>(∃j:ZU,(al (((ZG .i64 (lO .u8 n 16)):Int)==0) (PC_ 287 #[.bool true,.ii 5] i (k0_ λA=>j A) (pE t)) ((ix_ m 0 h λB C=>(∃o,i.cell? (ad B (C+Int.toNat 0))=some (.int .u8 o)/\PC_ 287 #[.bool (o !=0),.ii 5] i (k0_ λD=>j D) (pE t)))))/\∀(L:Nat->Value) (p:World),j p->(∃k:Nat->Int->Int->ZU,(∃e,k e 0 0 p)/\∀(e:Nat) (P:Int) (a:Int) (M:Nat->Value) (c:World),k e P a c->al (decide (a<(h:Int))) ((ix_ m a h λE F=>(∃q,c.cell? (ad E (F+Int.toNat a))=some (.int .u8 q)/\(∃r,r<e/\k r (Pd .u64 (IA .u64 P 8) (ZG .u64 q)) (ZG .i64 (a+1)) c)))) (al (((Bg .u8 n 16):Int)==0) (PC_ 287 #[.bool (decide (P<9223372036854775808)),.ii 5] c (k0_ λG=>rt t ((.ii (ZG .i64 P))) G) (pE t)) (PC_ 287 #[.bool (decide (P<=9223372036854775808)),.ii 5] c (k0_ λH=>rt t ((.ii (ZG .i64 (ZG .u64 (0-P))))) H) (pE t)))))) (pE t))))) (pE t)):YX 230 #[.pointer d] b t:=DC pP Tryz.func230 rfl s
end Go.Proofs.YtjgjkeponbeekaaGreatDoor
namespace Go.ar
open Go
abbrev ai(n P:World):Prop:=ak (λ_=>False) n P
variable{d5:Addr}{f2:Array MapEntry}{o:Array Value}{A:FuncId}{e:Int}{v:List Int}{a6:List PanicEntry->ZU}{E a c i l:Nat}{a5 f:ZN}{F:Nat×Nat}{d2:Obj}{U Y:Operand}{d:YQ}{d3:Option Nat}{h:Program}{C g r:TypeId}{p u:ZR}{b b8 k:World}{z:ZU}
def ak.refl(n:World):ak f n n:=⟨rfl,rfl,rfl,Q4 _,λ_ _ _=>rfl⟩
def ak.trans{d f g:ZN}(P:ak f b k)(n:ak g k b8)(i:∀n,n<b.heap.size->f n->d n)(j:∀n,n<b.heap.size->g n->d n):ak d b b8:=
 ⟨n.os.trans P.os,n.tape.trans P.tape,n.output.trans P.output,Xx P.size n.size,λa c h=>
  (n.block a (Qk c P.size) (λe=>h (j a c e))).trans (P.block a c (λe=>h (i a c e)))⟩
def ak.mono(P:ak f b k)(c:∀n,n<b.heap.size->f n->a5 n):ak a5 b k:=
 ⟨P.os,P.tape,P.output,P.size,λn a d=>P.block n a λe=>d (c n a e)⟩
def ak.then(n:ak f b k)(P:ak f k b8):ak f b b8:=n.trans P (λ_ _ n=>n) (λ_ _ n=>n)
def ak.new(P:ak f b k)(n:ak a5 k b8)(a:∀n,a5 n->f n\/b.heap.size<=n):ak f b b8:=
 P.trans n (λ_ _ P=>P) (λc e d=>(a c d).resolve_right oM)
def ak.ah(n:ak f b k)(P:ai k b8):ak f b b8:=n.trans P (λ_ _ n=>n) (λ_ _ n=>n.elim)
def ai.af{S:ZN}(n:ai b k):ak S b k:=n.mono λ_ _ n=>n.elim
def ak.alloc{b:ZN}(n:World)(P:Obj):ak b n (n.alloc P):=
 ⟨rfl,rfl,rfl,sM,λc a _=>by first|exact heap_alloc_old n P c a|exact heap_alloc_old n P a⟩
def ak.drewN{S:ZN}(n:World)(P:Nat):ak S n (n.drewN P):=⟨rfl,rfl,rfl,Q4 _,λ_ _ _=>rfl⟩
def aV.af{S:ZN}(n:aV b k):ak S b k:=by obtain⟨P,rfl⟩:=n;exact ak.drewN b P
def aV.heap(n:aV b k):k.heap=b.heap:=by obtain⟨P,rfl⟩:=n;rfl
def ak.setCell(n:World)(P:Addr)(a:Value)(b:f P.block):ak f n (n.setCell P a):=
 ⟨rfl,rfl,rfl,by simp[World.setCell],λd _ c=>by
  simp only[World.setCell,Array.getElem?_modify];rw[Zq (by rintro rfl;exact c b)]⟩
def ak.below(n:ai b k):RowKit.Below b.heap.size b k:=⟨n.os,n.tape,n.output,n.size,λP a=>n.block P a (λn=>n)⟩
def ak.HL(n:RowKit.Below b.heap.size b k):ai b k:=⟨n.os,n.tape,n.output,n.size,λP a _=>n.block P a⟩
def ak.of_grownBy(n:b.grownBy k d3):ak (λP=>some P=d3) b k:=⟨n.os,n.tape,n.output,n.size,λP a c=>n.block P a c⟩
def ak.cell(n:ak f b k){a:Addr}(P:a.block<b.heap.size)(j:¬f a.block):k.cell? a=b.cell? a:=
 World.cell?_of_block (w:=b) (n.block a.block P j)
def ak.get(P:ak f b k)(n:b.heap[a]? =some d2)(c:¬f a):k.heap[a]? =some d2:=by
 rw[P.block a (Q5.1 n).1 c];exact n
def ax(n:b.heap[a]? =some d2):a<b.heap.size:=(Q5.1 n).1
def ae{cs:Array Value}(n:b.heap[a]? =some (Obj.cells cs g F)){off:Nat}{v:Value}(P:cs[off]? =some v):
  b.cell? ⟨a,off,none⟩=some v:=by simp[World.cell?,n,P]
def PA.mk(P:∀n,ai b n->n.heap.size=b.heap.size+1->n.heap[b.heap.size]? =some d2->z n):PA b d2 z:=
 P (b.alloc d2) (ak.alloc b d2) sM (heap_alloc_new b d2)
def PS.mk{v:Value}{cs:Array Value}(P:b.heap[a]? =some (.cells cs g (0,0)))(d:c<cs.size)(e:∀n,ak (·=a) b n->n.heap.size=b.heap.size->n.heap[a]? =some (.cells (cs.setIfInBounds c v) g (0,0))->z n):PS b ⟨a,c,none⟩ v z:=by
 refine⟨⟨cs[c],ae P (by simp[d])⟩,by simp[World.frozen?,P],e _ (ak.setCell b _ v rfl) (by simp[World.setCell]) ?_⟩;simp[World.setCell,Array.getElem?_modify,P]
def Ok(P:ZR):ZT:=λa b=>∃n,a= .returned n/\P n b
def Ok.mk{v:Value}(n:p v b):Ok p (.returned v) b:=⟨v,rfl,n⟩
def PC.ok{φ a:ZR}(c:Calls h A o b (Ok φ))(d:∀n P,φ n P->a n P):PC h A o b a a6:=
 c.mono λg P ⟨n,e,f⟩=>by subst e;exact d n P f
def Calls.ok{φ a:ZR}(c:Calls h A o b (Ok φ))(d:∀n P,φ n P->a n P):Calls h A o b (Ok a):=
 c.mono λg P ⟨n,e,f⟩=>⟨n,e,d n P f⟩
def aJ(n:Int):Prop:= -9223372036854775808<=n/\n<=9223372036854775807
def wrap_i64{x:Int}(n:aJ x):ZG .i64 x=x:=by
 unfold aJ at n;unfold ZG;simp[IntKind.signed,IntKind.bits];omega
def aK:Nat:=140737488355328
structure Ints (w:World) (a:YQ) (n:Nat) (xs:List Int):Prop where
 len:n=xs.length
 ef:n*8<=aK
 Uc:∀x∈xs,aJ x
 cell:∀(i:Nat) x,xs[i]? =some x->∃b off,a=some ⟨b,off,none⟩/\b<w.heap.size/\w.cell? ⟨b,off+i,none⟩=some (ZH x)
def oW(P:ZN)(a:YQ):Prop:=∀n,a=some n->¬P n.block
def oW.none:oW f Option.none:=λ_ n=>by cases n
def Ints.af{S:ZN}{a:YQ}{d:Nat}(P:Ints b a d v)(e:ak S b k)(h:oW S a):Ints k a d v:=
 ⟨P.len,P.ef,P.Uc,λf i j=>by
  obtain⟨c,n,rfl,g,l⟩:=P.cell f i j;exact⟨c,n,rfl,Qk g e.size,(e.cell (a:=⟨c,n+f,none⟩) g (h ⟨c,n,none⟩ rfl)).trans l⟩⟩
def Ints.ah(n:Ints b d a v)(P:ai b k):Ints k d a v:=n.af P λ_ _ n=>n
def Ints.nil(n:World):Ints n none 0 []:=⟨rfl,by simp[aK],sM,λa b P=>by simp at P⟩
def Ints.at(c:Ints b d a v){i:Int}(j:0<=i)(k:i<(a:Int)):
  ∃P n x,d=some ⟨P,n,none⟩/\P<b.heap.size/\v[i.toNat]? =some x/\aJ x/\b.cell? ⟨P,n+i.toNat,none⟩=some (ZH x):=by
 have l:=c.len;have e:i.toNat<v.length:=oM
 obtain⟨P,n,f,g,h⟩:=c.cell i.toNat v[i.toNat] (by simp[e]);exact⟨P,n,_,f,g,by simp[e],c.Uc _ (XY e),h⟩
def aD:YQ->Option Nat
 |none=>none
 |some n=>some n.block
def Ints.HM(n:Ints b d a v)(c:ak f b k)(e:v≠[]->oW f d):Ints k d a v:=by
 by_cases P:v=[]
 ·subst P;exact⟨n.len,n.ef,n.Uc,λh i g=>by simp at g⟩
 ·exact n.af c (e P)
def cZ:oW f d↔∀n,aD d=some n->¬f n:=by
 cases d with
 |none=>simp[oW,aD]
 |some d=>simp[oW,aD]
structure Own (w:World) (e:TypeId) (k:Nat) (a:YQ) (n c:Nat) (cs:List Value):Prop where
 row:w.ownsRow 0 e k (.slice a n c) n cs
def Own.nil(n:World)(e:TypeId)(P:Nat):Own n e P none 0 0 []:=⟨World.ownsRow_nil n 0 e P⟩
def Own.length{cs:List Value}(n:Own b g a d c i cs):cs.length=c*a:=n.row.1
def Own.cases{cs:List Value}(f:Own b g a d c i cs):
  (d=none/\c=0/\i=0/\cs=[])\/
  ∃e n,d=ZM e/\b.heap[e]? =some (.cells n g (0,0))/\c<=i/\n.size=i*a/\n.toList.take (c*a)=cs:=by
 rcases f.row.2 with⟨P,o⟩|⟨e,h,n,P,_,j,k,_,l,m⟩
 ·simp only[XX]at P
  obtain⟨rfl,rfl,rfl⟩:=P;exact .inl ⟨rfl,rfl,rfl,QW (by simpa using f.row.1)⟩
 ·simp only[XX]at P
  obtain⟨rfl,-,rfl⟩:=P;exact .inr ⟨e,n,rfl,j,k,l,m⟩
def Own.af{S:ZN}{cs:List Value}(h:Own b g a d c i cs)(j:ak S b k)(l:oW S d):Own k g a d c i cs:=by
 refine⟨⟨h.row.1,?_⟩⟩;rcases h.row.2 with m|⟨o,P,e,f,p,q,n⟩
 ·exact .inl m
 ·refine .inr ⟨o,P,e,f,p,j.get q ?_,n⟩
  simp only[XX]at f;exact l _ f.1
def Own.ah{cs:List Value}(n:Own b g a d c i cs)(P:ai b k):Own k g a d c i cs:=n.af P λ_ _ n=>n
def Own.lt{cs:List Value}(P:Own b g a d c i cs)(n:aD d=some l):l<b.heap.size:=by
 rcases P.cases with⟨rfl,_⟩|⟨h,e,rfl,f,_⟩
 ·cases n
 ·simp only[aD,Q1]at n
  subst n;exact ax f
def Own.cell{b:World}{d:TypeId}{e:Nat}{a:YQ}{f g:Nat}{cs:List Value}(h:Own b d e a f g cs){j:Nat}{u:Value}(n:cs[j]? =some u):
  ∃P,a=ZM P/\P<b.heap.size/\b.cell? ⟨P,j,none⟩=some u:=by
 rcases h.cases with⟨_,_,_,rfl⟩|⟨P,i,rfl,c,_,_,k⟩
 ·simp at n
 ·refine⟨P,rfl,ax c,ae c ?_⟩
  rw[<-k,Xw]at n;split at n
  ·simpa using n
  ·cases n
def Own.Aw{cur:Array Value}(P:b.heap[c]? =some (.cells cur g (0,0)))(n:cur.size=i*a)(d:i<=maxLen):
  Own b g a (ZM c) i i cur.toList:=
 ⟨⟨by simpa using n,.inr ⟨c,i,cur,rfl,Qj _,P,Q4 _,d,n,by rw[Qz];simp[n]⟩⟩⟩
structure jV (P:Program) (t e:TypeId) (k bytes:Nat):Prop where
 under:P.underlying t=some (.slice e)
 row:(P.info? e).map (λi=>(i.zero.map λz=>z.cells.size,i.size,i.bytes))=some (some k,k,bytes)
 pos:0<k
def jV.info{b:Program}{g c:TypeId}{d bytes:Nat}(h:jV b g c d bytes):∃P a,b.info? c=some P/\P.zero=some a/\P.size=d/\P.bytes=bytes/\a.cells.size=d:=by
 have n:=h.row
 cases f:b.info? c with
 |none=>rw[f]at n;cases n
 |some P=>
  rw[f]at n;simp only[Option.map_some,Q1,Prod.mk.injEq]at n
  cases e:P.zero with
  |none=>rw[e]at n;cases n.1
  |some a=>
   rw[e]at n;exact⟨P,a,rfl,e,n.2.1,n.2.2,by simpa using n.1⟩
def Ml{P:Program}{f bytes:Nat}(m:jV P g r f bytes){o news:List Value}(x:Own b r f d a c o)(y:∀j k,news[j]? =some k->b.cell? (d5.add j)=some k)(z:news.length=i*f)(A:∀k∈news,k.oneCell'=true)(B:(a+i)*bytes<=aK)(E:a+i<=maxLen)(F:∀n e h,Own h r f n (a+i) e (o++news)->ak (λj=>some j=aD d) b h->(aD n=aD d\/aD n=some b.heap.size)->p (.slice n (a+i) e) h):
  aG P (Builtin.append_ #[g,g] C #[.slice d a c,.slice (some d5) i l]) b p u:=by
 obtain⟨H,I,J,K,L,M,N⟩:=jV.info m;obtain⟨O,h,Q,q,s,U,t⟩:=run_append_own_at (P:=P) b 0 g C r H I f bytes m.under J K L M N m.pos (.slice d a c) a o x.row
  d5 i l news z y A E B (Qj _)
 have R:∀(d:YQ) a c,(Value.slice d a c).ownBlock=aD d:=λd a c=>by cases d<;>rfl
 have S:∃n e,O= .slice n (a+i) e:=by
  rcases q.2 with⟨rfl,T⟩|⟨V,v,w,rfl,_⟩
  ·exact⟨none,0,by rw[T]⟩
  ·exact⟨_,_,rfl⟩
 obtain⟨n,e,rfl⟩:=S;simp only[R]at s t;exact aG.mk Q (F n e h ⟨q⟩ (ak.of_grownBy s) t)
def Ab{n bytes:Nat}(s:jV h g r n bytes){j news:List Value}(t:Own b r n d a c j)(v:b.heap[i]? =some (.cells o r F))(w:o.toList.take (l*n)=news)(x:news.length=l*n)(y:∀k∈news,k.oneCell'=true)(z:(a+l)*bytes<=aK)(A:a+l<=maxLen)(B:∀P m f,Own f r n P (a+l) m (j++news)->ak (λq=>some q=aD d) b f->(aD P=aD d\/aD P=some b.heap.size)->p (.slice P (a+l) m) f):
  aG h (Builtin.append_ #[g,g] C #[.slice d a c,.slice (ZM i) l E]) b p u:=by
 exact Ml s t (λq k e=>by
   rw[Addr.add_lit,Xz];refine ae v ?_;rw[<-w,Xw]at e;split at e
   ·simpa using e
   ·cases e) x y z A B
def ints(n:List Int):List Value:=n.map (Value.int .i64)
def js(n:List Int):(ints n).length=n.length:=by simp[ints]
def Own.ints(P:Own b g 1 d a c (ints v))(f:a*8<=aK)(h:∀n∈v,aJ n):Ints b d a v:=by
 have e:=P.length;rw[js,Nat.mul_one]at e;refine⟨e.symm,f,h,λi n j=>?_⟩;obtain⟨k,l,m,o⟩:=P.cell (j:=i) (u:=ZH n) (by simp[ar.ints,j]);exact⟨k,0,l,m,by rw[Xz];exact o⟩
def Mm(k:jV h g r 1 8)(l:Own b r 1 d a c (ints v))(m:b.heap[i]? =some (.cells #[ZH e] r (0,0)))(j:(a+1)*8<=aK)(o:∀n f P,Own P r 1 n (a+1) f (ints (v++[e]))->ak (λq=>some q=aD d) b P->(aD n=aD d\/aD n=some b.heap.size)->p (.slice n (a+1) f) P):
  aG h (Builtin.append_ #[g,g] C #[.slice d a c,.slice (ZM i) 1 1]) b p u:=
 Ab k (news:=[ZH e]) l m sM sM (by simp[Value.oneCell']) j (by unfold aK at j;unfold maxLen;omega)
  λn f P s t w=>o n f P (by simpa[ints]using s) t w
def CY(a:h.underlying g=some (.slice r))(b:Nat)(n:YQ)(c d:Nat)(P:World):
  (Op.equalIn (b+1) g (.slice n c d) (.slice none 0 0)).run h P= .ok n.isNone P:=by
 cases n<;>simp[Op.equalIn,run_underlying a]
def xV(a:h.underlying g=some (.pointer r))(b:Nat)(n:YQ)(P:World):
  (Op.equalIn (b+1) g (.pointer n) (.pointer none)).run h P= .ok n.isNone P:=by
 cases n<;>simp[Op.equalIn,run_underlying a]
def ke(n:h.underlying g=some (.slice r))(P:p (.bool d.isNone) b):
  aG h (do eqGuard .eql g U Y (.slice d a c) (.slice none 0 0);binOp .eql g (.slice d a c) (.slice none 0 0)) b p u:=by
 refine aG.mk (v:=.bool d.isNone) ?_ P;have e:(do eqGuard .eql g U Y (.slice d a c) (.slice none 0 0);binOp .eql g (.slice d a c) (.slice none 0 0):Sem Value).run h b=
  ((Op.equalIn (9999+1) g (.slice d a c) (.slice none 0 0))>>=λf=>(pure (Value.bool f):Sem Value)).run h b:=rfl
 rw[e,Sem.run_bind,CY n]
 rfl
def fz(n:h.underlying g=some (.pointer r))(P:p (.bool d.isNone) b):
  aG h (do eqGuard .eql g U Y (.pointer d) (.pointer none);binOp .eql g (.pointer d) (.pointer none)) b p u:=by
 refine aG.mk (v:=.bool d.isNone) ?_ P;have a:(do eqGuard .eql g U Y (.pointer d) (.pointer none);binOp .eql g (.pointer d) (.pointer none):Sem Value).run h b=
  ((Op.equalIn (9999+1) g (.pointer d) (.pointer none))>>=λc=>(pure (Value.bool c):Sem Value)).run h b:=rfl
 rw[a,Sem.run_bind,xV n]
 rfl
def qd(c:h.underlying g=some (.pointer r))(a b:Operand)(n:YQ)(P:World):
  (do eqGuard .neq g a b (.pointer n) (.pointer none);binOp .neq g (.pointer n) (.pointer none):Sem Value).run h P= .ok (.bool n.isSome) P:=by
 have d:(do eqGuard .neq g a b (.pointer n) (.pointer none);binOp .neq g (.pointer n) (.pointer none):Sem Value).run h P=
  ((Op.equalIn (9999+1) g (.pointer n) (.pointer none))>>=λe=>(pure (Value.bool !e):Sem Value)).run h P:=rfl
 rw[d,Sem.run_bind,xV c]
 cases n<;>rfl
def Ax(n:h.underlying g=some (.pointer r))(P:p (.bool d.isSome) b):
  aG h (do eqGuard .neq g U Y (.pointer d) (.pointer none);binOp .neq g (.pointer d) (.pointer none)) b p u:=aG.mk (qd n U Y d b) P
def Own.Ud{cs:List Value}(e:Own b g a d c i cs)(P:b.heap[l]? =some (.map f2 E)):aD d≠some l:=by
 intro n;rcases e.cases with⟨rfl,_⟩|⟨j,f,rfl,h,_⟩
 ·cases n
 ·simp only[aD,Q1]at n
  subst n;rw[h]at P;cases P
structure bB (F:ZN) (w:World) (F':ZN) (w':World):Prop where
 af:ak F w w'
 new:∀b,F' b->F b\/w.heap.size<=b
def bB.refl(P:ZN)(n:World):bB P n P n:=⟨ak.refl n,λ_ a=>.inl a⟩
def bB.trans{b G c:ZN}{d e f:World}(n:bB b d G e)(g:bB G e c f):bB b d c f:=
 ⟨n.af.trans g.af (λ_ _ n=>n) (λP h i=>(n.new P i).resolve_right oM),λP h=>by
  rcases g.new P h with a|a
  ·exact n.new P a
  ·exact .inr (Xx n.af.size a)⟩
end Go.ar
namespace Go.ar
open Go
variable{d5:Addr}{o:Array Value}{K:Bool}{c6 x:ByteArray}{e m:Int}{a4:List Value}{a c i l:Nat}{f:ZN}{F:Nat×Nat}{d s:YQ}{h:Program}{M a8:Prop}{j:Type}{C g r:TypeId}{p u:ZR}{b b8 k:World}
def al.dec[Decidable M]{P a:Prop}(b:M->P)(c:¬M->a):al (decide M) P a:=
 al.mk (λn=>b (XV n)) (λn=>c (Xy n))
def al.dP(P:e≠m->M)(a:e=m->a8):al (e !=m) M a8:=
 al.mk (λn=>P (by simpa using n)) (λn=>a (by simpa using n))
def al.cX(P:e=m->M)(a:e≠m->a8):al (e==m) M a8:=
 al.mk (λn=>P (by simpa using n)) (λn=>a (by simpa using n))
def al.not(n:al K a8 M):al (!K) M a8:=by cases K<;>exact n
def OA(P:x.toList=c6.toList):x=c6:=by
 have a:∀n:ByteArray,n.toList=n.data.toList:=λn=>ByteArray.toList_eq n;rw[a,a]at P;exact ByteArray.ext (Array.toList_inj.1 P)
def al.Xl(P:x=c6->M)(a:x≠c6->a8):al (ByteArray.toList x==ByteArray.toList c6) M a8:=
 al.mk (λn=>P (OA (by simpa using n))) (λn=>a (λb=>by subst b;simp at n))
def al.XT(n:x≠c6->M)(P:x=c6->a8):al (!(ByteArray.toList x==ByteArray.toList c6)) M a8:=(al.Xl P n).not
def aq(n:a<4611686018427387904):ZG .i64 ((a:Int)+1)=((a+1:Nat):Int):=by
 rw[wrap_i64 (by unfold aJ;omega)];simp
def aV.then(n:aV b k)(P:aV k b8):aV b b8:=by obtain⟨a,rfl⟩:=n;obtain⟨c,rfl⟩:=P;exact⟨a+c,sM⟩
def aV.refl(n:World):aV n n:=⟨0,rfl⟩
def EF{n P:List j}{b:j}(c:n.take a=P.take a)(d:n[a]? =some b)(e:P[a]? =some b):n.take (a+1)=P.take (a+1):=by
 rw[Qw,Qw,c,d,e]
structure jJ (α:Type) where
 k:Nat
 rep:World->(ZN)->α->List Value->Prop
 af:∀{S D:ZN} {w w':World} {x:α} {cs:List Value},rep w D x cs->ak S w w'->(∀b,D b->¬S b)->rep w' D x cs
 mono:∀{D D':ZN} {w:World} {x:α} {cs:List Value},rep w D x cs->(∀b,D b->D' b)->rep w D' x cs
 len:∀{D:ZN} {w:World} {x:α} {cs:List Value},rep w D x cs->cs.length=k
 one:∀{D:ZN} {w:World} {x:α} {cs:List Value},rep w D x cs->∀u∈cs,u.oneCell'=true
def flat{b:Type}(c:Nat)(n:b->List Value)(d:b->Prop)(e:∀a,(n a).length=c)(f:∀a,∀g∈n a,g.oneCell'=true):jJ b where
 k:=c
 rep:=λ_ _ a cs=>cs=n a/\d a
 af:=λP _ _=>P
 mono:=λP _=>P
 len:=λP=>by rw[P.1];exact e _
 one:=λP=>by rw[P.1];exact f _
def aI:jJ Int:=flat 1 (λn=>[ZH n]) aJ (λ_=>rfl) (λn a P=>by simp at P;subst P;rfl)
def fP:jJ UInt8:=flat 1 (λn=>[.int .u8 n.toNat]) (λ_=>True) (λ_=>rfl) (λn a P=>by simp at P;subst P;rfl)
def NQ:jJ ByteArray:=flat 1 (λn=>[.string n]) (λ_=>True) (λ_=>rfl) (λn a P=>by simp at P;subst P;rfl)
structure Row {α:Type} (c:jJ α) (bytes:Nat) (w:World) (D:ZN) (a:YQ) (n:Nat) (xs:List α):Prop where
 len:n=xs.length
 ef:n*bytes<=aK
 el:∀(i:Nat) x,xs[i]? =some x->∃b off es,a=some ⟨b,off,none⟩/\b<w.heap.size/\D b/\(∀j,j<c.k->w.cell? ⟨b,off+i*c.k+j,none⟩=es[j]?)/\c.rep w D x es
section
variable {α:Type} {c:jJ α} {bytes:Nat} {w w':World} {D D' S:ZN} {a:YQ} {n:Nat} {xs:List α}
def Row.af(d:Row c bytes w D a n xs)(e:ak S w w')(f:∀P,D P->¬S P):Row c bytes w' D a n xs:=
 ⟨d.len,d.ef,λg k l=>by
  obtain⟨P,b,m,o,h,i,p,q⟩:=d.el g k l;exact⟨P,b,m,o,Qk h e.size,i,λj r=>(e.cell (a:=⟨P,b+g*c.k+j,none⟩) h (f P i)).trans (p j r),c.af q e f⟩⟩
def Row.ah(P:Row c bytes w D a n xs)(b:ai w w'):Row c bytes w' D a n xs:=P.af b λ_ _ P=>P
def Row.mono(b:Row c bytes w D a n xs)(e:∀P,D P->D' P):Row c bytes w D' a n xs:=
 ⟨b.len,b.ef,λf g h=>by
  obtain⟨P,d,i,j,k,l,m,o⟩:=b.el f g h;exact⟨P,d,i,j,k,e P l,m,c.mono o e⟩⟩
def Row.nil(w:World)(D:ZN):Row c bytes w D none 0 []:=⟨rfl,sM,λP a n=>by simp at n⟩
def Row.at(f:Row c bytes w D a n xs){i:Int}(o:0<=i)(p:i<(n:Int)):
  ∃b P x d,a=some ⟨b,P,none⟩/\b<w.heap.size/\D b/\xs[i.toNat]? =some x/\(∀e,e<c.k->w.cell? ⟨b,P+i.toNat*c.k+e,none⟩=d[e]?)/\c.rep w D x d:=by
 have q:=f.len;have g:i.toNat<xs.length:=oM
 obtain⟨b,P,d,h,j,k,l,m⟩:=f.el i.toNat xs[i.toNat] (by simp[g]);exact⟨b,P,_,d,h,j,k,by simp[g],l,m⟩
def Row.wv(g:Row c bytes w D a n xs){i:Nat}(h:i<n):
  ∃b P e f,a=some ⟨b,P,none⟩/\b<w.heap.size/\D b/\xs[i]? =some e/\(∀d,d<c.k->w.cell? ⟨b,P+i*c.k+d,none⟩=f[d]?)/\c.rep w D e f:=by
 have:=g.at (i:=(i:Int)) oM oM;simpa using this
end
def Row.mR{c:j->Value}{f:j->Prop}{hl h1}{bytes:Nat}{D:ZN}{g:List j}(h:Row (flat 1 (λP=>[c P]) f hl h1) bytes b D d a g){i:Nat}(k:i<a):
  ∃e n P,d=some ⟨e,n,none⟩/\g[i]? =some P/\f P/\b.cell? ⟨e,n+i,none⟩=some (c P):=by
 obtain⟨e,n,P,q,l,r,_,m,o,rfl,p⟩:=h.wv k;refine⟨e,n,P,l,m,p,?_⟩;have:=o 0 Nat.one_pos;simpa[flat]using this
def bF{n:Type}(P:jJ n)(a:World)(D:ZN):List n->List Value->Prop
 |[],cs=>cs=[]
 |x::d,cs=>∃b c,cs=b++c/\P.rep a D x b/\bF P a D d c
section
variable {α:Type} {c:jJ α} {w w':World} {D D' S:ZN}
def bF.af(P:ak S w w')(a:∀b,D b->¬S b):∀{n:List α} {cs:List Value},bF c w D n cs->bF c w' D n cs
 |[],_,d=>d
 |x::n,_,⟨e,f,g,h,i⟩=>⟨e,f,g,c.af h P a,bF.af P a i⟩
def bF.mono(P:∀a,D a->D' a):∀{n:List α} {cs:List Value},bF c w D n cs->bF c w D' n cs
 |[],_,b=>b
 |x::n,_,⟨d,e,f,g,h⟩=>⟨d,e,f,c.mono g P,bF.mono P h⟩
def bF.append:∀{xs P:List α} {cs n:List Value},bF c w D xs cs->bF c w D P n->bF c w D (xs++P) (cs++n)
 |[],P,_,n,b,a=>by cases b;exact a
 |x::xs,P,_,n,⟨d,e,f,g,h⟩,a=>⟨d,e++n,by rw[f,XQ],g,bF.append h a⟩
def bF.one{x:α}(n:c.rep w D x a4):bF c w D [x] a4:=⟨a4,[],sM,n,rfl⟩
def bF.length:∀{n:List α} {cs:List Value},bF c w D n cs->cs.length=n.length*c.k
 |[],_,P=>by cases P;simp
 |x::n,_,⟨e,f,a,b,d⟩=>by
  rw[a,QX,c.len b,bF.length d,Xq,X7,Nat.one_mul,Nat.add_comm]
def bF.QM:∀{a:List α} {cs:List Value},bF c w D a cs->∀P∈cs,P.oneCell'=true
 |[],_,b,P,n=>by cases b;simp at n
 |x::a,_,⟨g,h,d,e,f⟩,P,n=>by
  rw[d]at n;rcases Q6.1 n with n|n
  ·exact c.one e P n
  ·exact bF.QM f P n
def bF.at:∀{b:List α} {cs:List Value},bF c w D b cs->∀{i:Nat} {x:α},b[i]? =some x->∃a,(∀n,n<c.k->cs[i*c.k+n]? =a[n]?)/\c.rep w D x a
 |[],_,l,i,x,P=>by simp at P
 |y::b,_,⟨a,m,d,e,g⟩,i,x,P=>by
  have o:=c.len e
  cases i with
  |zero=>
   simp at P;subst P;refine⟨a,λn f=>?_,e⟩;rw[d,Nat.zero_mul,Xz,XW oM]
  |succ i=>
   obtain⟨h,j,k⟩:=bF.at g (i:=i) (x:=x) (by simpa using P);refine⟨h,λn f=>?_,k⟩;rw[d,X7,Nat.one_mul,X8 oM,<-j n f]
   congr 1
   omega
def bF.take:∀{n:List α} {cs:List Value},bF c w D n cs->∀(m:Nat),bF c w D (n.take m) (cs.take (m*c.k))
 |[],_,a,m=>by cases a;simp[bF]
 |x::n,_,⟨b,d,e,P,f⟩,m=>by
  have g:=c.len P
  cases m with
  |zero=>simp[bF]
  |succ m=>
   refine⟨b,d.take (m*c.k),?_,P,bF.take f m⟩;rw[e,X7,Nat.one_mul,Nat.add_comm,List.take_append,g,Qz oM]
   congr 2
   omega
def Row.ay{bytes:Nat}{h:List α}(v:Row c bytes w D d a h):∃cs,bF c w D h cs/\(h≠[]->0<c.k->∃P n,d=some ⟨P,n,none⟩/\P<w.heap.size/\D P/\∀b e,cs[b]? =some e->w.cell? ⟨P,n+b,none⟩=some e):=by
 have k:∀(l:List α) (f:Nat),(∀i j,l[i]? =some j->h[f+i]? =some j)->∃cs,bF c w D l cs/\∀P n,d=some ⟨P,n,none⟩->0<c.k->∀b e,cs[b]? =some e->w.cell? ⟨P,n+f*c.k+b,none⟩=some e:=by
  intro l
  induction l with
  |nil=>intro f _;exact⟨[],rfl,λP n _ _ b e g=>by simp at g⟩
  |cons x l F=>
   intro f y;obtain⟨z,q,r⟩:=F (f+1) (λi j s=>by have:=y (i+1) j (by simpa using s);rw[show f+1+i=f+(i+1) by omega];exact this);obtain⟨P,n,p,m,A,B,C,t⟩:=v.el f x (y 0 x rfl);refine⟨p++z,⟨p,z,rfl,t,q⟩,λJ E o u b e g=>?_⟩;rw[m]at o;cases o
   have K:=c.len t
   by_cases H:b<c.k
   ·rw[XW oM]at g
    rw[<-g];exact C b H
   ·rw[X8 oM]at g
    have:=r P n m u (b-p.length) e g;rw[<-this]
    congr 2
    rw[X7];omega
 obtain⟨cs,q,r⟩:=k h 0 (λi j s=>by simpa using s);refine⟨cs,q,λI u=>?_⟩
 cases h with
 |nil=>exact Zz rfl I
 |cons j h=>
  obtain⟨P,n,p,m,A,B,C,t⟩:=v.el 0 j rfl;refine⟨P,n,m,A,B,λb e g=>?_⟩;have:=r P n m u b e g;simpa using this
end
structure aM {α:Type} (c:jJ α) (e:TypeId) (F:ZN) (w:World) (a:YQ) (n cap:Nat) (xs:List α):Prop where
 body:∃cs D,Own w e c.k a n cap cs/\bF c w D xs cs/\(∀b,D b->F b/\aD a≠some b)
 self:∀b,aD a=some b->F b
 aC:∀b,F b->b<w.heap.size
section
variable {α:Type} {c:jJ α} {e:TypeId} {w w':World} {F F' S:ZN} {a:YQ} {n cap:Nat} {xs:List α}
def aM.nil(w:World):aM c e (λ_=>False) w none 0 0 []:=
 ⟨⟨[],λ_=>False,Own.nil _ _ _,rfl,λ_ n=>n.elim⟩,λP n=>(by cases n),λ_ n=>n.elim⟩
def aM.af(d:aM c e F w a n cap xs)(f:ak S w w')(g:∀P,F P->¬S P):aM c e F w' a n cap xs:=by
 obtain⟨cs,D,i,j,h⟩:=d.body;exact⟨⟨cs,D,i.af f (cZ.2 λP b=>g P (d.self P b)),j.af f (λP b=>g P (h P b).1),h⟩,d.self,λP b=>Qk (d.aC P b) f.size⟩
def aM.ah(P:aM c e F w a n cap xs)(b:ai w w'):aM c e F w' a n cap xs:=P.af b λ_ _ P=>P
def aM.mono(d:aM c e F w a n cap xs)(f:∀P,F P->F' P)(h:∀P,F' P->P<w.heap.size):aM c e F' w a n cap xs:=by
 obtain⟨cs,D,i,j,g⟩:=d.body;exact⟨⟨cs,D,i,j,λP b=>⟨f P (g P b).1,(g P b).2⟩⟩,λP b=>f P (d.self P b),h⟩
def aM.len(b:aM c e F w a n cap xs)(d:0<c.k):n=xs.length:=by
 obtain⟨cs,D,f,g,h⟩:=b.body;have P:=f.length;rw[g.length]at P;exact(Nat.eq_of_mul_eq_mul_right d P).symm
def Own.QL{P:Nat}{cs:List Value}(b:Own w e P a n cap cs):n<=cap:=by
 rcases b.cases with⟨_,rfl,rfl,_⟩|⟨f,c,_,_,d,_,_⟩
 ·exact Q4 _
 ·exact d
def aM.row{bytes:Nat}(d:aM c e F w a n cap xs)(i:0<c.k)(f:xs.length*bytes<=aK):Row c bytes w F a n xs:=by
 have j:=d.len i;obtain⟨cs,D,k,r,s⟩:=d.body;refine⟨j,by rw[j];exact f,λz A t=>?_⟩;obtain⟨g,l,m⟩:=r.at t;have B:=c.len m;have o:=l 0 i;rw[Nat.add_zero,Qq (show 0<g.length by omega)]at o;obtain⟨p,h,u,_⟩:=k.cell o;refine⟨p,0,g,h,u,d.self p (by rw[h];rfl),λq v=>?_,c.mono m λx f=>(s x f).1⟩;have P:=l q v;rw[Qq (show q<g.length by omega)]at P⊢;obtain⟨C,b,_,y⟩:=k.cell P;rw[h]at b;cases b
 rw[Xz];exact y
def HI{bytes:Nat}{x:α}(f:aM c e F w a n cap xs)(z:jV h g e c.k bytes){D:ZN}(q:c.rep w D x o.toList)(k:∀P,D P->P<w.heap.size/\aD a≠some P)(b:(xs.length+1)*bytes<=aK)(I:xs.length+1<=maxLen)(s:∀j i w' F',aM c e F' w' j (n+1) i (xs++[x])->ak (λt=>aD a=some t) w w'->(∀P,F' P->F P\/D P\/w.heap.size<=P)->(∀P,aD j=some P->F P\/w.heap.size<=P)->p (.slice j (n+1) i) w'):
  PA w (.cells o e) λv=>aG h (Builtin.append_ #[g,g] r #[.slice a n cap,.slice (ZM w.heap.size) 1 1]) v p u:=by
 have A:=f.len z.pos;obtain⟨cs,J,K,L,l⟩:=f.body;refine PA.mk λv C R M=>?_;have S:=c.len q;have N:=K.ah C;refine Ab z (news:=o.toList) N M (by rw[Qz oM]) oM (c.one q) (by rw[A];exact b) (by rw[A];exact I) λj O m E H B=>?_;have y:ak (λt=>aD a=some t) w m:=(ai.af C).then (H.mono λ_ _ f=>f.symm)
 let F':ZN:=λP=>F P\/D P\/(w.heap.size<=P/\P<m.heap.size)
 have T:v.heap.size<=m.heap.size:=H.size;refine s j O m F' ⟨⟨_,λP=>J P\/D P,E,bF.append ((L.af y λP b=>(l P b).2).mono λP b=>.inl b) (bF.one (c.mono (c.af q y λP b=>(k P b).2) λP b=>.inr b)),?_⟩,?_,?_⟩ y ?_ ?_
 ·intro P b
  have U:P<w.heap.size:=b.elim (λd=>f.aC P (l P d).1) λd=>(k P d).1;refine⟨b.elim (λd=>.inl (l P d).1) λd=>.inr (.inl d),?_⟩;rcases B with B|B
  ·rw[B];exact b.elim (λd=>(l P d).2) λd=>(k P d).2
  ·rw[B];intro Q;cases Q;omega
 ·intro P b
  rcases B with B|B
  ·exact .inl (f.self P (B▸b))
  ·have:=E.lt b
   rw[B]at b;cases b;exact .inr (.inr ⟨oM,this⟩)
 ·rintro P (b|b|b)
  ·have:=f.aC P b;omega
  ·have:=(k P b).1;omega
  ·exact b.2
 ·rintro P (b|b|b)
  ·exact .inl b
  ·exact .inr (.inl b)
  ·exact .inr (.inr b.1)
 ·intro P b
  rcases B with B|B
  ·exact .inl (f.self P (B▸b))
  ·rw[B]at b;cases b;exact .inr oM
def kN{bytes:Nat}(f:aM c e F w a n cap xs)(x:jV h g e c.k bytes){D:ZN}{m L:Nat}{k:List α}(C:Row c bytes w D (some d5) m k)(o:∀P,D P->P<w.heap.size/\aD a≠some P)(b:(xs.length+k.length)*bytes<=aK)(M:xs.length+k.length<=maxLen)(y:∀l i w' F',aM c e F' w' l (n+m) i (xs++k)->ak (λj=>aD a=some j) w w'->(∀P,F' P->F P\/D P\/w.heap.size<=P)->(∀P,aD l=some P->F P\/w.heap.size<=P)->p (.slice l (n+m) i) w'):
  aG h (Builtin.append_ #[g,g] r #[.slice a n cap,.slice (some d5) m L]) w p u:=by
 have E:=f.len x.pos;have z:=C.len;obtain⟨cs,N,O,Q,q⟩:=f.body;obtain⟨H,s,R⟩:=C.ay;have S:∀j t,H[j]? =some t->w.cell? (d5.add j)=some t:=λj t I=>by
  have T:k≠[]:=by rintro rfl;have:=s.length;simp at this;subst this;simp at I
  obtain⟨P,U,V,_,_,W⟩:=R T x.pos
  cases V
  rw[Addr.add_lit];exact W j t I
 refine Ml x (news:=H) O S (by rw[s.length,z]) s.QM (by rw[E,z];exact b) (by rw[E,z];exact M) λl X v J K B=>?_;have A:ak (λj=>aD a=some j) w v:=K.mono λ_ _ f=>f.symm
 let F':ZN:=λP=>F P\/D P\/(w.heap.size<=P/\P<v.heap.size)
 have Z:w.heap.size<=v.heap.size:=K.size;refine y l X v F' ⟨⟨_,λP=>N P\/D P,J,bF.append ((Q.af A λP b=>(q P b).2).mono λP b=>.inl b) ((s.af A λP b=>(o P b).2).mono λP b=>.inr b),?_⟩,?_,?_⟩ A ?_ ?_
 ·intro P b
  have a1:P<w.heap.size:=b.elim (λd=>f.aC P (q P d).1) λd=>(o P d).1;refine⟨b.elim (λd=>.inl (q P d).1) λd=>.inr (.inl d),?_⟩;rcases B with B|B
  ·rw[B];exact b.elim (λd=>(q P d).2) λd=>(o P d).2
  ·rw[B];intro Y;cases Y;omega
 ·intro P b
  rcases B with B|B
  ·exact .inl (f.self P (B▸b))
  ·have:=J.lt b
   rw[B]at b;cases b;exact .inr (.inr ⟨Q4 _,this⟩)
 ·rintro P (b|b|b)
  ·have:=f.aC P b;omega
  ·have:=(o P b).1;omega
  ·exact b.2
 ·rintro P (b|b|b)
  ·exact .inl b
  ·exact .inr (.inl b)
  ·exact .inr (.inr b.1)
 ·intro P b
  rcases B with B|B
  ·exact .inl (f.self P (B▸b))
  ·rw[B]at b;cases b;exact .inr oM
end
def bF.free{a:Type}{c:Nat}{n:a->List Value}{d:a->Prop}{hl P}{e f:World}{D g:ZN}:∀{b:List a} {cs:List Value},bF (flat c n d hl P) e D b cs->bF (flat c n d hl P) f g b cs
 |[],_,h=>h
 |x::b,_,⟨i,j,P,k,l⟩=>⟨i,j,P,k,l.free⟩
def aM.alone{n:j->List Value}{k:j->Prop}{hl h1}{l:List j}(P:aM (flat a n k hl h1) g f b d c i l):
  aM (flat a n k hl h1) g (λe=>aD d=some e) b d c i l:=by
 obtain⟨cs,p,m,o,q⟩:=P.body;exact⟨⟨cs,λ_=>False,m,o.free,λ_ P=>P.elim⟩,λe h=>h,λe h=>P.aC e (P.self e h)⟩
def oZ{P:Type}(g:jJ P)(h:TypeId)(a:World)(i:List P)(j:Value)(b:World):Prop:=
 ∃c d n e,j= .slice c d n/\aM g h e b c d n i/\ai a b/\∀f,e f->a.heap.size<=f
def Row.lit{enc:j->Value}{c:j->Prop}{hl h1}{bytes:Nat}{cs:Array Value}(d:b.heap[a]? =some (.cells cs g F))(P:List j)(h:cs.toList=P.map enc)(i:∀n∈P,c n)(k:P.length*bytes<=aK):
  Row (flat 1 (λn=>[enc n]) c hl h1) bytes b (·=a) (ZM a) P.length P:=
 ⟨rfl,k,λe n f=>⟨a,0,[enc n],rfl,ax d,rfl,λl m=>by
  have:l=0:=Nat.lt_one_iff.1 m;subst this;have:cs.toList[e]? =some (enc n):=by rw[h];simp[f]
  have o:=ae d (off:=e) (v:=enc n) (by simpa using this);simpa[flat]using o,rfl,i n (QZ f)⟩⟩
def Row.part{n:jJ j}{bytes:Nat}{D:ZN}{f:List j}(c:Row n bytes b D d a f){lo hi cap:Nat}(u:lo<=hi)(v:hi<=a)(w:a<=cap):
  Row n bytes b D (cI d lo cap n.k) (hi-lo) ((f.take hi).drop lo):=by
 have x:=c.len;refine⟨by simp;omega,Xx (Q0 _ oM) c.ef,λg h P=>?_⟩;rw[List.getElem?_drop,Xw]at P;split at P
 ·rename_i y
  obtain⟨i,e,k,l,m,o,p,q⟩:=c.el (lo+g) h P
  by_cases r:cap=lo
  ·omega
  ·exact⟨i,e+lo*n.k,k,by rw[l];simp[cI,r,Addr.add_lit],m,o,λs t=>by rw[<-p s t];congr 2;rw[X7];omega,q⟩
 ·cases P
def aM.jH{n:jJ j}{P:List j}(e:aM n g f b d a c P):a<=c:=by
 obtain⟨cs,i,h,_⟩:=e.body;exact h.QL
def Row.take{c:jJ j}{bytes:Nat}{D:ZN}{e:List j}(P:Row c bytes b D d a e){m:Nat}(f:m<=a):Row c bytes b D d m (e.take m):=by
 have i:=P.len;refine⟨by simp;omega,Xx (Q0 _ f) P.ef,λg h n=>?_⟩;rw[Xw]at n;split at n
 ·exact P.el g h n
 ·cases n
def Ae{e:jJ j}{q:List j}{bytes:Nat}(t:aM e g f b d a c q)(v:jV h r g e.k bytes){D:ZN}{k:List j}(y:Row e bytes b D s i k)(A:s=none->i=0/\l=0)(B:∀n,D n->n<b.heap.size/\aD d≠some n)(m:(q.length+k.length)*bytes<=aK)(E:q.length+k.length<=maxLen)(o:∀w P x z,aM e g z x w (a+i) P (q++k)->ak (λF=>aD d=some F) b x->(∀n,z n->f n\/D n\/b.heap.size<=n)->(∀n,aD w=some n->f n\/b.heap.size<=n)->p (.slice w (a+i) P) x):
  aG h (Builtin.append_ #[r,r] C #[.slice d a c,.slice s i l]) b p u:=by
 cases s with
 |some M=>exact kN t v y B m E o
 |none=>
  obtain⟨rfl,rfl⟩:=A rfl;have H:k=[]:=QW y.len.symm;subst H;obtain⟨I,N,J,O,Q,R,S⟩:=jV.info v;obtain⟨cs,T,K,U,V⟩:=t.body;have L:=run_append_owned_none (P:=h) (w:=b) 0 r C g I e.k v.under J (.slice d a c) a cs K.row;exact aG.mk L (o d c b f (by simpa using t) (ak.refl _) (λn m=>.inl m) λn m=>.inl (t.self n m))
def aM.NK{n:jJ j}{P:List j}(e:aM n g f b d a c P)(h:d=none):a=0/\c=0:=by
 obtain⟨cs,o,i,_⟩:=e.body;rcases i.cases with⟨_,k,l,_⟩|⟨p,m,rfl,_⟩
 ·exact⟨k,l⟩
 ·cases h
def UR(i:jV h g r 1 1)(d:(h.info? r).bind (·.zero)=some (.int .u8 0))(j:a<=c)(n:c<=aK)(e:∀P,aM fP r (·=b.heap.size) P (ZM b.heap.size) a c (List.replicate a 0)->ai b P->P.heap.size=b.heap.size+1->p (.slice (ZM b.heap.size) a c) P):
  aG h (Instr.makeSlice g (ZH (a:Int)) (ZH (c:Int))) b p u:=by
 unfold aK at n;obtain⟨o,q,k,l,s,t,A⟩:=i.info;have v:q= .int .u8 0:=by
  rw[k]at d;simp only[Option.bind_some,l]at d;exact XJ d
 subst v;have m:=run_make (P:=h) b g r o _ i.under k l .i64 .i64 a c oM oM (by rw[t];omega) oM;rw[Qx,Qx,s,Nat.mul_one]at m;have w:ai b (b.alloc (.cells (madeCells (Value.int .u8 0).cells c) r)):=ak.alloc b _;have x:(madeCells (Value.int .u8 0).cells c).toList=List.replicate c (.int .u8 0):=by
  unfold madeCells;rw[Array.toList_map];apply List.ext_getElem
  ·simp
  ·intro B C E
   simp[Value.cells,Nat.mod_one]
 refine aG.mk m (e _ ⟨⟨List.replicate a (.int .u8 0),λ_=>False,⟨⟨by simp[fP,flat],.inr ⟨b.heap.size,c,_,rfl,Qj _,heap_alloc_new b _,j,by unfold maxLen;omega,by simp[size_madeCells,fP,flat],?_⟩⟩⟩,?_,λ_ e=>e.elim⟩,λy n=>by simpa[aD]using n.symm,λy n=>by subst n;simp⟩ w sM)
 ·rw[x]
  simp only[fP,flat,Nat.mul_one,List.take_replicate];rw[X2 j]
 ·have f:∀a:Nat,bF fP (b.alloc (.cells (madeCells (Value.int .u8 0).cells c) r)) (λ_=>False) (List.replicate a 0) (List.replicate a (.int .u8 0)):=by
   intro a
   induction a with
   |zero=>rfl
   |succ a z=>exact⟨[.int .u8 0],List.replicate a (.int .u8 0),rfl,⟨rfl,trivial⟩,z⟩
  exact f a
end Go.ar
namespace Go.ar
open Go
def jS(n:Nat):List UInt8:=if P:n=0 then []else UInt8.ofNat (n % 256)::jS (n/256)
termination_by n
decreasing_by omega
def rQ:jS 0=[]:=by rw[jS];simp
variable{a:Nat}
def Cu(n:a≠0):jS a=UInt8.ofNat (a % 256)::jS (a/256):=by rw[jS];simp[n]
def yJ:∀(n:Nat),n<2 ^ 64->(jS n).length=(Lib.bitLen n+7)/8:=by
 intro n
 induction n using Nat.strongRecOn with
 |_ n b=>
  intro a
  by_cases P:n=0
  ·subst P;rw[rQ];decide
  ·rw[Cu P,Xq]
   by_cases c:n<256
   ·have d:n/256=0:=oM
    rw[d,rQ];have f:Lib.bitLen n<=8:=Lib.bitLen_le8 ⟨n,c⟩;have g:1<=Lib.bitLen n:=(Lib.bitLenAux_bounds 64 n a P).1;simp;omega
   ·have:=b (n/256) oM oM
    rw[this];have e:=Lib.bitLen_shift 8 n oM a;rw[show(2:Nat) ^ 8=256 from rfl]at e;omega
def Jk{u:Nat}(n:u<2 ^ 64):(jS u).length<=8:=by
 rw[yJ u n]
 by_cases P:u=0
 ·subst P;decide
 ·have a:=Lib.bitLenAux_bounds 64 u n P
  have:Lib.bitLen u<=64:=by
   apply Nat.le_of_not_lt;intro b;have c:2 ^ 64<=2 ^(Lib.bitLen u-1):=Nat.pow_le_pow_right oM oM;have d:2 ^(Lib.bitLen u-1)<=u:=a.2.1;omega
  omega
def Rn:∀(a n:Nat),a<(jS n).length->(jS n)[a]? =some (UInt8.ofNat (n/256 ^ a % 256)):=by
 intro a
 induction a with
 |zero=>
  intro n P
  by_cases b:n=0
  ·subst b;rw[rQ]at P;simp at P
  ·rw[Cu b];simp
 |succ a c=>
  intro n P
  by_cases b:n=0
  ·subst b;rw[rQ]at P;simp at P
  ·rw[Cu b]at P⊢
   have:=c (n/256) (by simpa using P);rw[ZZ,this,Nat.div_div_eq_div_mul,Nat.pow_succ,Nat.mul_comm 256]
def gJ(n:List UInt8):Nat:=n.foldl (λP a=>P*256+a.toNat) 0
def Jl(n:List UInt8)(P:UInt8):gJ (n++[P])=gJ n*256+P.toNat:=by simp[gJ,List.foldl_append]
def MU(n:List UInt8):gJ n<256 ^ n.length:=by
 suffices b:∀(n:List UInt8) (P a:Nat),P<256 ^ a->n.foldl (λP c=>P*256+c.toNat) P<256 ^(a+n.length) by
  have:=b n 0 0 sM;simpa[gJ]using this
 intro n
 induction n with
 |nil=>intro P a b;simpa using b
 |cons c n d=>
  intro P a b;have e:=c.toNat_lt;have:=d (P*256+c.toNat) (a+1) (by rw[Nat.pow_succ];omega);rw[List.foldl_cons,Xq];rw[show a+(n.length+1)=a+1+n.length by omega];exact this
def oC(n:Int):List UInt8:=UInt8.ofNat ((jS n.natAbs).length+if n<0 then 16 else 0)::(jS n.natAbs).reverse
def rdNum(b:List UInt8):Int×Int×Nat:=match b with
 |[]=>(4,0,0)
 |h::a=>
  let n:=if 16<h.toNat then h.toNat-16 else h.toNat
  let P:=gJ (a.take n)
  if 8<n then(5,0,0)
  else if a.length<n then(4,0,0)
  else if(0<n/\a.head? =some 0)\/(¬16<h.toNat/\2 ^ 63<=P)\/(16<h.toNat/\2 ^ 63<P)then(5,0,0)
  else(0,if 16<h.toNat then-(P:Int)else P,n+1)
end Go.ar
namespace Go.ar
open Go
abbrev rJ:=BitVec 32
def BG:rJ:=0xEDB88320#32
def nC(n:rJ):rJ:=(n>>>1) ^^^(if n.getLsbD 0 then BG else 0#32)
def BH(n P:rJ):nC (n ^^^ P)=nC n ^^^ nC P:=by
 unfold nC;rw[BitVec.ushiftRight_xor_distrib,BitVec.getLsbD_xor]
 cases n.getLsbD 0<;>cases P.getLsbD 0<;>simp only[Bool.xor_false,Bool.xor_true,Bool.not_true,Bool.not_false,if_true,if_false,Bool.false_eq_true,BitVec.xor_zero,BitVec.zero_xor]
 ·ac_rfl
 ·ac_rfl
 ·have:(n>>>1 ^^^ BG) ^^^(P>>>1 ^^^ BG)=(n>>>1 ^^^ P>>>1) ^^^(BG ^^^ BG):=by ac_rfl
  rw[this,BitVec.xor_self,BitVec.xor_zero]
def oX(n:rJ):rJ:=nC (nC (nC (nC (nC (nC (nC (nC n)))))))
def Es(n P:rJ):oX (n ^^^ P)=oX n ^^^ oX P:=by
 unfold oX;simp only[BH]
def Uq(n:Bool):rJ:=if n then 1#32 else 0#32
def BI(n:rJ)(P:Bool):rJ:=(n>>>1) ^^^(if n.getLsbD 0 !=P then BG else 0#32)
def Et(n:rJ)(P:Bool):BI n P=nC (n ^^^ Uq P):=by
 unfold BI
 cases P
 ·simp[Uq,nC]
 ·rw[BH]
  have:nC (Uq true)=BG:=by decide+kernel
  rw[this];unfold nC
  cases n.getLsbD 0
  ·simp
  ·have a:(n>>>1 ^^^(if true=true then BG else 0#32)) ^^^ BG=n>>>1 ^^^(BG ^^^ BG):=by rw[Zx rfl];ac_rfl
   rw[a,BitVec.xor_self];simp
def kh(n:rJ)(P:UInt8):rJ:=(List.range 8).foldl (λn a=>BI n (P.toNat.testBit a)) n
def yo(n:UInt8):rJ:=BitVec.ofNat 32 n.toNat
def IE(n:rJ)(a:UInt8):kh n a=oX n ^^^ kh 0#32 a:=by
 have e:∀(P:List Nat) (b c:rJ),(P.foldl (λn d=>BI n (a.toNat.testBit d)) (b ^^^ c))=(P.foldl (λn _=>nC n) b) ^^^(P.foldl (λn d=>BI n (a.toNat.testBit d)) c):=by
  intro P
  induction P with
  |nil=>intro b c;rfl
  |cons d P f=>
   intro b c;simp only[List.foldl_cons];rw[<-f]
   congr 1
   rw[Et,Et];simp only[BH]
   ac_rfl
 have:=e (List.range 8) n 0#32;rw[BitVec.xor_zero]at this;exact this
def IF(n:UInt8):kh 0#32 n=oX (yo n):=by
 have a:(List.range 256).all (λP=>kh 0#32 (UInt8.ofNat P)==oX (yo (UInt8.ofNat P)))=true:=by decide+kernel
 have:=ZY.1 a n.toNat (List.mem_range.2 n.toNat_lt);simpa using this
def KW(n:rJ)(P:UInt8):kh n P=oX (n ^^^ yo P):=by
 rw[IE,IF,Es]
def NO{n:rJ}(P:n.getLsbD 0=false):nC n=n>>>1:=by
 unfold nC;rw[P];simp
def KX(P:rJ):oX (P&&&0xFFFFFF00#32)=P>>>8:=by
 have bit:∀n,n<8->((P&&&0xFFFFFF00#32)>>>n).getLsbD 0=false:=λn b=>by
  rw[BitVec.getLsbD_ushiftRight,BitVec.getLsbD_and,Nat.add_zero];have:(0xFFFFFF00#32:rJ).getLsbD n=false:=by
   have c:(List.range 8).all (λn=>(0xFFFFFF00#32:rJ).getLsbD n==false)=true:=by decide+kernel
   simpa using ZY.1 c n (List.mem_range.2 b)
  rw[this,Bool.and_false]
 have step:∀n,n<8->nC ((P&&&0xFFFFFF00#32)>>>n)=(P&&&0xFFFFFF00#32)>>>(n+1):=λn b=>by
  rw[NO (bit n b),BitVec.shiftRight_add]
 have d:P&&&0xFFFFFF00#32=(P&&&0xFFFFFF00#32)>>>0:=sM
 unfold oX;rw[d,step 0 oM,step 1 oM,step 2 oM,step 3 oM,step 4 oM,step 5 oM,step 6 oM,step 7 oM];apply BitVec.eq_of_getLsbD_eq;intro a e;rw[BitVec.getLsbD_ushiftRight,BitVec.getLsbD_ushiftRight,BitVec.getLsbD_and]
 by_cases f:7+1+a<32
 ·have:(0xFFFFFF00#32:rJ).getLsbD (7+1+a)=true:=by
   have c:(List.range 24).all (λa=>(0xFFFFFF00#32:rJ).getLsbD (7+1+a)==true)=true:=by decide+kernel
   simpa using ZY.1 c a (List.mem_range.2 oM)
  rw[this,Bool.and_true]
 ·rw[BitVec.getLsbD_of_ge _ _ oM]
  simp
def jP:List Nat:=[0x00000000,0x77073096,0xEE0E612C,0x990951BA,0x076DC419,0x706AF48F,0xE963A535,0x9E6495A3,0x0EDB8832,0x79DCB8A4,0xE0D5E91E,0x97D2D988,0x09B64C2B,0x7EB17CBD,0xE7B82D07,0x90BF1D91]
def jQ:List Nat:=[0x00000000,0x1DB71064,0x3B6E20C8,0x26D930AC,0x76DC4190,0x6B6B51F4,0x4DB26158,0x5005713C,0xEDB88320,0xF00F9344,0xD6D6A3E8,0xCB61B38C,0x9B64C2B0,0x86D3D2D4,0xA00AE278,0xBDBDF21C]
def KY(n:UInt8):oX (yo n)=BitVec.ofNat 32 (jP.getD (n.toNat % 16) 0) ^^^ BitVec.ofNat 32 (jQ.getD (n.toNat/16) 0):=by
 have a:(List.range 256).all (λP=>oX (yo (UInt8.ofNat P))==BitVec.ofNat 32 (jP.getD ((UInt8.ofNat P).toNat % 16) 0) ^^^ BitVec.ofNat 32 (jQ.getD ((UInt8.ofNat P).toNat/16) 0))=true:=by decide+kernel
 have:=ZY.1 a n.toNat (List.mem_range.2 n.toNat_lt);simpa using this
def NM(n:rJ)(a:UInt8):kh n a=n>>>8 ^^^ BitVec.ofNat 32 (jP.getD ((a.toNat ^^^ n.toNat % 256) % 16) 0) ^^^ BitVec.ofNat 32 (jQ.getD ((a.toNat ^^^ n.toNat % 256)/16) 0):=by
 have f:=a.toNat_lt;have m:a.toNat ^^^ n.toNat % 256<2 ^ 8:=Nat.xor_lt_two_pow oM oM;have b:(UInt8.ofNat (a.toNat ^^^ n.toNat % 256)).toNat=a.toNat ^^^ n.toNat % 256:=by
  rw[ZK];omega
 have c:=KY (UInt8.ofNat (a.toNat ^^^ n.toNat % 256));rw[b]at c;have g:n ^^^ yo a=yo (UInt8.ofNat (a.toNat ^^^ n.toNat % 256)) ^^^(n&&&0xFFFFFF00#32):=by
  apply BitVec.eq_of_getLsbD_eq;intro P d;unfold yo;rw[b,BitVec.getLsbD_xor,BitVec.getLsbD_xor,BitVec.getLsbD_and,BitVec.getLsbD_ofNat,BitVec.getLsbD_ofNat,Nat.testBit_xor];have h:(n.toNat % 256).testBit P=(decide (P<8)&&n.toNat.testBit P):=by
   rw[show 256=2 ^ 8 from rfl,Nat.testBit_mod_two_pow]
  have i:n.getLsbD P=n.toNat.testBit P:=rfl;rw[h,i];have j:(0xFFFFFF00#32:rJ).getLsbD P=decide (8<=P):=by
   have k:(List.range 32).all (λP=>(0xFFFFFF00#32:rJ).getLsbD P==decide (8<=P))=true:=by decide+kernel
   simpa using ZY.1 k P (List.mem_range.2 d)
  rw[j,Zy d]
  by_cases e:P<8
  ·rw[Zy e,Xv oM]
   cases n.toNat.testBit P<;>cases a.toNat.testBit P<;>rfl
  ·have l:a.toNat.testBit P=false:=Nat.testBit_lt_two_pow (Qk f (by
    have:=Nat.pow_le_pow_right (n:=2) oM (show 8<=P by omega);simpa using this))
   rw[Xv e,Zy oM,l]
   cases n.toNat.testBit P<;>rfl
 rw[KW,g,Es,KX,c]
 ac_rfl
def Mz(n:rJ)(P:List UInt8):rJ:= ~~~(P.foldl kh (~~~n))
def NN(n:List UInt8):rJ:=Mz 0#32 n
end Go.ar
namespace Go.ar
open Go
structure mE where
 bytes:List UInt8
 pos:Nat
 vO:Int
def mE.num(n:mE):Int×Int×Nat:=rdNum (n.bytes.drop n.pos)
def fF(n:mE):Int×mE:=if n.vO≠0 then(0,n)else if n.num.1=0 then(n.num.2.1,⟨n.bytes,n.pos+n.num.2.2,0⟩)else(0,⟨n.bytes,n.pos,n.num.1⟩)
def bZ(P:Int)(n:mE):Int×mE:=if n.vO≠0 then(0,n)else if n.num.1=0 then(if n.num.2.1<0\/P<n.num.2.1 then(0,⟨n.bytes,n.pos,3⟩)else(n.num.2.1,⟨n.bytes,n.pos+n.num.2.2,0⟩))else(0,⟨n.bytes,n.pos,n.num.1⟩)
def kQ(n:mE):Int:=if n.vO=0/\n.pos<n.bytes.length then 5 else n.vO
def bj:Nat->mE->List Int×mE
 |0,n=>([],n)
 |k+1,n=>((bj k n).1++[(fF (bj k n).2).1],(fF (bj k n).2).2)
def jC(n:List UInt8):aJ (rdNum n).2.1/\(rdNum n).2.2<=n.length/\(rdNum n).2.2<=9/\((rdNum n).1=0\/(rdNum n).1=4\/(rdNum n).1=5)/\((rdNum n).1=0->1<=(rdNum n).2.2):=by
 unfold rdNum
 cases n with
 |nil=>simp[aJ]
 |cons P c=>
  simp only;generalize(if 16<P.toNat then P.toNat-16 else P.toNat)=a;have j:=MU (c.take a);generalize gJ (c.take a)=b at j
  by_cases g:8<a
  ·rw[Zx g];simp[aJ]
  rw[Zq g]
  by_cases h:c.length<a
  ·rw[Zx h];simp[aJ]
  rw[Zq h]
  by_cases d:(0<a/\c.head? =some 0)\/(¬16<P.toNat/\2 ^ 63<=b)\/(16<P.toNat/\2 ^ 63<b)
  ·rw[Zx d];simp[aJ]
  rw[Zq d];have i:(¬16<P.toNat->b<2 ^ 63)/\(16<P.toNat->b<=2 ^ 63):=by
   refine⟨λe=>?_,λe=>?_⟩
   ·exact Nat.lt_of_not_le λf=>d (.inr (.inl ⟨e,f⟩))
   ·exact Nat.le_of_not_lt λf=>d (.inr (.inr ⟨e,f⟩))
  refine⟨?_,by simp;omega,by show a+1<=9;omega,.inl rfl,λ_=>by show 1<=a+1;omega⟩;show aJ (if 16<P.toNat then-(b:Int)else b);unfold aJ;split
  ·have:=i.2 (by assumption);omega
  ·have:=i.1 (by assumption);omega
structure mE.Fit (r:mE):Prop where
 pos:r.pos<=r.bytes.length
 vO:r.vO=0\/r.vO=3\/r.vO=4\/r.vO=5
variable{e:Int}{v:List Int}{y:List UInt8}{a0:mE}
def mE.Fit.int(P:a0.Fit):(fF a0).2.Fit/\aJ (fF a0).1/\(fF a0).2.bytes=a0.bytes:=by
 obtain⟨a,b,d,n,e⟩:=jC (a0.bytes.drop a0.pos);have c:=P.pos;rw[XZ]at b;unfold fF mE.num;split
 ·exact⟨P,by simp[aJ],rfl⟩
 ·split
  ·exact⟨⟨by show a0.pos+_<=a0.bytes.length;omega,.inl rfl⟩,a,rfl⟩
  ·exact⟨⟨c,by show _\/_;rcases n with n|n|n<;>simp[n]⟩,by simp[aJ],rfl⟩
def mE.Fit.count{r:mE}(a:r.Fit){m:Int}(P:0<=m):(bZ m r).2.Fit/\0<=(bZ m r).1/\(bZ m r).1<=m/\(bZ m r).2.bytes=r.bytes:=by
 obtain⟨d,c,e,n,f⟩:=jC (r.bytes.drop r.pos);have b:=a.pos;rw[XZ]at c;unfold bZ mE.num;split
 ·exact⟨a,sM,P,rfl⟩
 ·split
  ·split
   ·exact⟨⟨b,.inr (.inl rfl)⟩,sM,P,rfl⟩
   ·exact⟨⟨by show r.pos+_<=r.bytes.length;omega,.inl rfl⟩,by simp only;omega,by simp only;omega,rfl⟩
  ·exact⟨⟨b,by show _\/_;rcases n with n|n|n<;>simp[n]⟩,by simp,P,rfl⟩
def mE.Fit.ints{n:mE}(b:n.Fit):∀k,(bj k n).2.Fit/\(∀a∈(bj k n).1,aJ a)/\(bj k n).1.length=k/\(bj k n).2.bytes=n.bytes
 |0=>⟨b,by simp[bj],rfl,rfl⟩
 |k+1=>by
  obtain⟨c,d,e,f⟩:=mE.Fit.ints b k;obtain⟨g,h,i⟩:=c.int;refine⟨g,?_,?_,i.trans f⟩
  ·intro a P
   rcases Q6.1 P with P|P
   ·exact d a P
   ·rw[List.mem_singleton]at P;subst P;exact h
  ·simp[bj,e]
def bR(n:List Int):List UInt8:=(n.map oC).flatten
def Hy(n:Int)(P:List Int):bR (n::P)=oC n++bR P:=by simp[bR]
def iz(n P:List Int):bR (n++P)=bR n++bR P:=by simp[bR]
structure aj where
 origin:Int
 seq:Int
 aA:Int
 aQ:List Int
 aU:Int
 agg:Int
 field:Int
 op:Int
 arg:Int
 key:Int
deriving DecidableEq
structure aj.Ok (e:aj):Prop where
 origin:aJ e.origin
 seq:aJ e.seq
 aA:aJ e.aA
 aQ:∀x∈e.aQ,aJ x
 aU:aJ e.aU
 agg:aJ e.agg
 field:aJ e.field
 op:aJ e.op
 arg:aJ e.arg
 key:aJ e.key
def BR:aj:=⟨0,0,0,[],0,0,0,0,0,0⟩
def OZ:BR.Ok:=by constructor<;>simp[BR,aJ]
def kO(n:aj):List Int:=[n.origin,n.seq,n.aA,(n.aQ.length:Int)]++n.aQ++[n.aU,n.agg,n.field,n.op,n.arg,n.key]
def iV(n:aj):List UInt8×Int:=if 64<n.aQ.length then([],3)else(bR (kO n),0)
def mG(c:mE):aj×mE:=
 (λP=>(λa=>(λb=>(λn=>(⟨P.1.getD 0 0,P.1.getD 1 0,P.1.getD 2 0,b.1,n.1.getD 0 0,n.1.getD 1 0,n.1.getD 2 0,n.1.getD 3 0,n.1.getD 4 0,n.1.getD 5 0⟩,n.2))
  (bj 6 b.2)) (bj a.1.toNat a.2)) (bZ 64 P.2)) (bj 3 c)
def jy(n:List UInt8):aj×Int:=if kQ (mG ⟨n,0,0⟩).2≠0 then(BR,kQ (mG ⟨n,0,0⟩).2)else((mG ⟨n,0,0⟩).1,0)
def eO(a:∀n∈v,aJ n)(P:Nat):aJ (v.getD P 0):=by
 rw[QQ]
 cases b:v[P]? with
 |none=>simp[aJ]
 |some n=>exact a n (QZ b)
def O_{r:mE}(a:r.Fit):(mG r).2.Fit/\(mG r).1.Ok/\(mG r).1.aQ.length<=64:=by
 obtain⟨b,P,h,i⟩:=a.ints 3;obtain⟨c,j,k,l⟩:=b.count (m:=64) oM;obtain⟨d,e,f,m⟩:=c.ints (bZ 64 (bj 3 r).2).1.toNat;obtain⟨g,n,o,p⟩:=d.ints 6;refine⟨g,⟨eO P 0,eO P 1,eO P 2,e,eO n 0,eO n 1,eO n 2,eO n 3,eO n 4,eO n 5⟩,?_⟩;show(bj _ _).1.length<=64;rw[f];omega
def RC(n:List UInt8):(jy n).1.Ok/\(jy n).1.aQ.length<=64:=by
 unfold jy;have:=O_ (r:=⟨n,0,0⟩) ⟨Qj _,.inl rfl⟩;split
 ·exact⟨OZ,by simp[BR]⟩
 ·exact this.2
def QI(n:Nat):List UInt8:=[UInt8.ofNat (n/16777216),UInt8.ofNat (n/65536),UInt8.ofNat (n/256),UInt8.ofNat n]
def mI(P:Int)(n:List UInt8):List UInt8:=[UInt8.ofNat P.toNat,UInt8.ofNat (n.length/65536),UInt8.ofNat (n.length/256),UInt8.ofNat n.length]++n
def gC(n:Int)(P:List UInt8):List UInt8:=mI n P++QI (NN (mI n P)).toNat++[10]
def jZ(n:Int)(P:List UInt8):List UInt8×Int:=if n<1\/255<n then([],2)else if 65536<P.length then([],5)else(gC n P,0)
structure Yr where
 kind:Int
 body:List UInt8
 n:Nat
 no:Int
def br(n:List UInt8):Yr:=if n.length<4 then⟨0,[],0,4⟩else if n.getD 0 0=0 then⟨0,[],0,2⟩else
 (λP=>if 65536<P then⟨0,[],0,5⟩else if n.length<P+9 then⟨0,[],0,4⟩else
  if n.take (P+9)=gC (n.getD 0 0).toNat ((n.drop 4).take P)then⟨(n.getD 0 0).toNat,(n.drop 4).take P,P+9,0⟩else⟨0,[],0,6⟩)
  ((n.getD 1 0).toNat*65536+(n.getD 2 0).toNat*256+(n.getD 3 0).toNat)
def lf(P:Int)(n:List UInt8):(gC P n).length=n.length+9:=by simp[gC,mI,QI]
def vC(n:(br y).no=0):(br y).n<=y.length/\9<=(br y).n/\(br y).n=(br y).body.length+9:=by
 unfold br at n⊢;generalize(y.getD 1 0).toNat*65536+(y.getD 2 0).toNat*256+(y.getD 3 0).toNat=e at n⊢;split at n
 ·cases n
 rename_i P;rw[Zq P];split at n
 ·cases n
 rename_i a;rw[Zq a];simp only at n⊢;split at n
 ·cases n
 rename_i b;rw[Zq b];split at n
 ·cases n
 rename_i c;rw[Zq c];split at n
 ·rename_i d
  rw[Zx d];refine⟨by simp only;omega,by simp only;omega,by simp;omega⟩
 ·cases n
def Wu(a:List UInt8)(n:a.length=4)(P:Nat)(j:P<2 ^ 32):gJ a=P↔a=QI P:=by
 match a,n with
 |[b,c,d,e],_=>
  have k:=b.toNat_lt;have l:=c.toNat_lt;have m:=d.toNat_lt;have o:=e.toNat_lt;have i:gJ [b,c,d,e]=((b.toNat*256+c.toNat)*256+d.toNat)*256+e.toNat:=by simp[gJ]
  rw[i];constructor
  ·intro n
   unfold QI;have f:∀(g:UInt8) (h:Nat),g.toNat=h % 256->g=UInt8.ofNat h:=λg h n=>UInt8.toNat_inj.1 (by rw[ZK,n]);rw[f b (P/16777216) oM,f c (P/65536) oM,f d (P/256) oM,f e P oM]
  ·intro n
   unfold QI at n;simp only[List.cons.injEq,and_true]at n;obtain⟨rfl,rfl,rfl,rfl⟩:=n;simp only[ZK];omega
def TO:∀{P:List UInt8},4<=P.length->P.take 4=[P.getD 0 0,P.getD 1 0,P.getD 2 0,P.getD 3 0]
 |x::a::b::c::d,_=>rfl
 |[],n=>by simp at n
 |[_],n=>by simp at n
 |[_,_],n=>by simp at n
 |[_,_,_],n=>by simp at n
def UE{b:List UInt8}{n:Nat}(l:n+9<=b.length)(m:(b.getD 1 0).toNat*65536+(b.getD 2 0).toNat*256+(b.getD 3 0).toNat=n)(o:n<=65536):
  b.take (n+9)=gC (b.getD 0 0).toNat ((b.drop 4).take n)↔((NN (b.take (4+n))).toNat=gJ ((b.drop (4+n)).take 4)/\b.getD (8+n) 0=10):=by
 have g:((b.drop 4).take n).length=n:=by simp;omega
 have P:∀(a:UInt8) (c:Nat),a.toNat=c % 256->UInt8.ofNat c=a:=λa c d=>UInt8.toNat_inj.1 (by rw[ZK,d]);have p:=(b.getD 1 0).toNat_lt;have q:=(b.getD 2 0).toNat_lt;have r:=(b.getD 3 0).toNat_lt;have h:mI (b.getD 0 0).toNat ((b.drop 4).take n)=b.take (4+n):=by
  unfold mI;rw[g,Qx,P (b.getD 0 0) _ (by have:=(b.getD 0 0).toNat_lt;omega),P (b.getD 1 0) (n/65536) oM,P (b.getD 2 0) (n/256) oM,P (b.getD 3 0) n oM];rw[List.take_add]
  congr 1
  exact(TO oM).symm
 have i:b.take (n+9)=b.take (4+n)++(b.drop (4+n)).take 4++[b.getD (8+n) 0]:=by
  rw[show n+9=(4+n)+(4+1) by omega,List.take_add,XQ,List.take_add (l:=b.drop (4+n)),List.drop_drop]
  congr 2
  rw[show 4+n+4=8+n by omega,QQ,Qq oM,Option.getD_some];rw[X4 oM]
  rfl
 unfold gC;rw[h,i];have j:((b.drop (4+n)).take 4).length=4:=by simp;omega
 have k:(NN (b.take (4+n))).toNat<2 ^ 32:=(NN (b.take (4+n))).isLt;rw[eq_comm (b:=gJ _),Wu _ j _ k];constructor
 ·intro d
  obtain⟨e,f⟩:=List.append_inj' d rfl;exact⟨List.append_cancel_left e,by simpa using f⟩
 ·rintro⟨e,f⟩
  rw[e,f]
def bV(n:List UInt8):List aj×Nat:=
 if P:(br n).no=0/\(br n).kind=1/\(jy (br n).body).2=0 then((jy (br n).body).1::(bV (n.drop (br n).n)).1,(br n).n+(bV (n.drop (br n).n)).2)else([],0)
termination_by n.length
decreasing_by all_goals(have:=vC P.1;simp;omega)
def JQ(n:(br y).no=0/\(br y).kind=1/\(jy (br y).body).2=0):bV y=((jy (br y).body).1::(bV (y.drop (br y).n)).1,(br y).n+(bV (y.drop (br y).n)).2):=by
 rw[bV,dif_pos n]
def CG(n:¬((br y).no=0/\(br y).kind=1/\(jy (br y).body).2=0)):bV y=([],0):=by
 rw[bV,dif_neg n]
def Pa(n:aJ e):(oC e).length<=9:=by
 unfold aJ at n;have:=Jk (u:=e.natAbs) oM;simp[oC];omega
def fE:∀{l:List Int},(∀P∈l,aJ P)->(bR l).length<=9*l.length
 |[],_=>by simp[bR]
 |n::l,a=>by
  rw[Hy,QX,Xq];have c:=Pa (a n (QV ..));have d:=fE (l:=l) λP b=>a P (QJ _ b);omega
variable{q:aj}
def aj.Ok.ints(n:q.Ok)(b:q.aQ.length<=4611686018427387904):∀a∈kO q,aJ a:=by
 intro a P;simp only[kO,Q6,Q2,List.not_mem_nil,or_false]at P;rcases P with((rfl|rfl|rfl|rfl)|P)|(rfl|rfl|rfl|rfl|rfl|rfl)
 ·exact n.origin
 ·exact n.seq
 ·exact n.aA
 ·unfold aJ;omega
 ·exact n.aQ a P
 ·exact n.aU
 ·exact n.agg
 ·exact n.field
 ·exact n.op
 ·exact n.arg
 ·exact n.key
def MR(n:q.Ok)(P:q.aQ.length<=64):(bR (kO q)).length<=666:=by
 have:=fE (n.ints oM);have a:(kO q).length=10+q.aQ.length:=by simp[kO];omega
 omega
def xx(n:aj):List UInt8:=gC 1 (bR (kO n))
def JR(n:q.Ok)(P:q.aQ.length<=64):(xx q).length<=675/\9<=(xx q).length:=by
 have:=MR n P;unfold xx;rw[lf];omega
def eu(n:List aj):List UInt8:=(n.map xx).flatten
def LY(n:aj)(P:List aj):eu (n::P)=xx n++eu P:=by simp[eu]
def Ka(n:y.length<4):(br y).no≠0:=by unfold br;rw[Zx n];simp
def Kb(n:(br y).no≠0):bV y=([],0):=CG λP=>n P.1
def JP:bV []=([],0):=Kb (Ka sM)
def gw(n:aj):List UInt8×Int:=if(iV n).2≠0 then([],(iV n).2)else jZ 1 (iV n).1
end Go.ar
namespace Go.Proofs.YtjgjkeponbeekaaGreatDoor
open Go.ar
def tA:jV ZP 237 5 1 1:=⟨kR,kR,dC⟩
end Go.Proofs.YtjgjkeponbeekaaGreatDoor
namespace Go.Proofs
open Go.Shelf
def Tryz.Eu:Go.Shelf.Ren:=⟨λ|7=>223|10=>282|n=>n,λ|23=>141|26=>9|3=>236|28=>242|0=>0|27=>241|33=>319|4=>4|n=>n,λ|n=>n⟩
def Tryz.sS:Go.Proofs.SlLaysZ.n7 Tryz.prog Tryz.Eu:={
 mixed:=by kernel_rfl
 f7:=⟨Tryz.f223.name,am,Tryz.func223.trans ac⟩
 f10:=⟨Tryz.f282.name,am,Tryz.func282.trans ac⟩
 t0:=Tryz.underlying0
 a0:=Tryz.isAgg0
 z0:=Tryz.sizeOf0
 v0:=Tryz.zeroValue0
 t4:=Tryz.underlying4
 a4:=Tryz.isAgg4
 z4:=Tryz.sizeOf4
 v4:=Tryz.zeroValue4
 t23:=Tryz.underlying141
 a23:=Tryz.isAgg141
 z23:=Tryz.sizeOf141
 v23:=Tryz.zeroValue141
 t26:=Tryz.underlying9
 a26:=Tryz.isAgg9
 z26:=Tryz.sizeOf9
 v26:=Tryz.zeroValue9
 t27:=Tryz.underlying241
 a27:=Tryz.isAgg241
 z27:=Tryz.sizeOf241
 v27:=Tryz.zeroValue241
 t28:=Tryz.underlying242
 a28:=Tryz.isAgg242
 z28:=Tryz.sizeOf242
 v28:=Tryz.zeroValue242
 t33:=Tryz.underlying319
 a33:=Tryz.isAgg319
 z33:=Tryz.sizeOf319
 v33:=Tryz.zeroValue319}
def Tryz.yp:Go.Shelf.Ren:=⟨λ|6=>222|8=>280|9=>281|11=>322|13=>218|12=>323|23=>276|24=>277|14=>349|15=>350|16=>351|17=>352|18=>353|19=>354|20=>355|21=>356|22=>357|25=>372|26=>317|27=>318|28=>373|29=>374|30=>375|31=>382|n=>n,λ|26=>9|28=>242|24=>271|0=>0|3=>3|37=>324|48=>365|50=>367|4=>4|40=>359|39=>358|45=>273|5=>5|9=>9|51=>400|55=>375|57=>426|58=>427|33=>319|n=>n,λ|n=>n⟩
def Tryz.Sw:Go.Proofs.SlLaysZ.n6 Tryz.prog Tryz.yp:={
 mixed:=by kernel_rfl
 f6:=⟨Tryz.f222.name,am,Tryz.func222.trans ac⟩
 f8:=⟨Tryz.f280.name,am,Tryz.func280.trans ac⟩
 f11:=⟨Tryz.f322.name,am,Tryz.func322.trans ac⟩
 t0:=Tryz.underlying0
 a0:=Tryz.isAgg0
 z0:=Tryz.sizeOf0
 v0:=Tryz.zeroValue0
 t24:=Tryz.underlying271
 a24:=Tryz.isAgg271
 z24:=Tryz.sizeOf271
 v24:=Tryz.zeroValue271
 t26:=Tryz.underlying9
 a26:=Tryz.isAgg9
 z26:=Tryz.sizeOf9
 v26:=Tryz.zeroValue9
 t28:=Tryz.underlying242
 a28:=Tryz.isAgg242
 z28:=Tryz.sizeOf242
 v28:=Tryz.zeroValue242
 i26:=by kernel_rfl}
def Tryz.OR:Go.Shelf.Ren:=⟨λ|6=>281|8=>218|9=>323|19=>276|20=>277|21=>349|22=>350|23=>351|24=>352|25=>353|26=>354|27=>355|28=>356|29=>357|36=>372|31=>317|32=>318|37=>373|38=>374|39=>375|41=>382|n=>n,λ|27=>271|29=>9|3=>3|32=>324|26=>271|0=>0|44=>365|46=>367|4=>4|36=>359|35=>358|41=>273|5=>5|9=>9|53=>400|57=>375|63=>426|64=>427|n=>n,λ|n=>n⟩
def Tryz.TC:Go.Proofs.SlLaysM.n6 Tryz.prog Tryz.OR:={
 mixed:=by kernel_rfl
 f6:=⟨Tryz.f281.name,am,Tryz.func281.trans ac⟩
 f8:=Tryz.func218.trans ac
 f9:=⟨Tryz.f323.name,am,Tryz.func323.trans ac⟩
 f19:=Tryz.func276.trans ac
 f20:=Tryz.func277.trans ac
 f21:=⟨Tryz.f349.name,am,Tryz.func349.trans ac⟩
 f22:=⟨Tryz.f350.name,am,Tryz.func350.trans ac⟩
 f23:=⟨Tryz.f351.name,am,Tryz.func351.trans ac⟩
 f24:=⟨Tryz.f352.name,am,Tryz.func352.trans ac⟩
 f25:=⟨Tryz.f353.name,am,Tryz.func353.trans ac⟩
 f26:=⟨Tryz.f354.name,am,Tryz.func354.trans ac⟩
 f27:=⟨Tryz.f355.name,am,Tryz.func355.trans ac⟩
 f28:=⟨Tryz.f356.name,am,Tryz.func356.trans ac⟩
 f29:=⟨Tryz.f357.name,am,Tryz.func357.trans ac⟩
 f31:=Tryz.func317.trans ac
 f32:=Tryz.func318.trans ac
 f36:=⟨Tryz.f372.name,am,Tryz.func372.trans ac⟩
 f37:=⟨Tryz.f373.name,am,Tryz.func373.trans ac⟩
 f38:=⟨Tryz.f374.name,am,Tryz.func374.trans ac⟩
 f39:=⟨Tryz.f375.name,am,Tryz.func375.trans ac⟩
 f41:=⟨Tryz.f382.name,am,Tryz.func382.trans ac⟩
 t0:=Tryz.underlying0
 a0:=Tryz.isAgg0
 z0:=Tryz.sizeOf0
 v0:=Tryz.zeroValue0
 t3:=Tryz.underlying3
 a3:=Tryz.isAgg3
 z3:=Tryz.sizeOf3
 v3:=Tryz.zeroValue3
 t4:=Tryz.underlying4
 a4:=Tryz.isAgg4
 z4:=Tryz.sizeOf4
 v4:=Tryz.zeroValue4
 t5:=Tryz.underlying5
 a5:=Tryz.isAgg5
 z5:=Tryz.sizeOf5
 v5:=Tryz.zeroValue5
 t9:=Tryz.underlying9
 a9:=Tryz.isAgg9
 z9:=Tryz.sizeOf9
 v9:=Tryz.zeroValue9
 t26:=Tryz.underlying271
 a26:=Tryz.isAgg271
 z26:=Tryz.sizeOf271
 v26:=Tryz.zeroValue271
 t27:=Tryz.underlying271
 a27:=Tryz.isAgg271
 z27:=Tryz.sizeOf271
 v27:=Tryz.zeroValue271
 t29:=Tryz.underlying9
 a29:=Tryz.isAgg9
 z29:=Tryz.sizeOf9
 v29:=Tryz.zeroValue9
 t32:=Tryz.underlying324
 a32:=Tryz.isAgg324
 z32:=Tryz.sizeOf324
 v32:=Tryz.zeroValue324
 t35:=Tryz.underlying358
 a35:=Tryz.isAgg358
 z35:=Tryz.sizeOf358
 v35:=Tryz.zeroValue358
 t36:=Tryz.underlying359
 a36:=Tryz.isAgg359
 z36:=Tryz.sizeOf359
 v36:=Tryz.zeroValue359
 t41:=Tryz.underlying273
 a41:=Tryz.isAgg273
 z41:=Tryz.sizeOf273
 v41:=Tryz.zeroValue273
 t44:=Tryz.underlying365
 a44:=Tryz.isAgg365
 z44:=Tryz.sizeOf365
 v44:=Tryz.zeroValue365
 t46:=Tryz.underlying367
 a46:=Tryz.isAgg367
 z46:=Tryz.sizeOf367
 v46:=Tryz.zeroValue367
 t53:=Tryz.underlying400
 a53:=Tryz.isAgg400
 z53:=Tryz.sizeOf400
 v53:=Tryz.zeroValue400
 t57:=Tryz.underlying375
 a57:=Tryz.isAgg375
 z57:=Tryz.sizeOf375
 v57:=Tryz.zeroValue375
 t63:=Tryz.underlying426
 a63:=Tryz.isAgg426
 z63:=Tryz.sizeOf426
 v63:=Tryz.zeroValue426
 t64:=Tryz.underlying427
 a64:=Tryz.isAgg427
 z64:=Tryz.sizeOf427
 v64:=Tryz.zeroValue427}
def Tryz.JV:Go.Shelf.Ren:=⟨λ|137=>358|217=>376|266=>383|n=>n,λ|9=>9|5=>5|3=>3|n=>n,λ|n=>n⟩
def Tryz.SN:Go.Proofs.Lays.n137 Tryz.prog Tryz.JV:={
 mixed:=by kernel_rfl
 f137:=Tryz.func358.trans ac
 f217:=Tryz.func376.trans ac
 f266:=Tryz.func383.trans ac
 t3:=Tryz.underlying3
 a3:=Tryz.isAgg3
 z3:=Tryz.sizeOf3
 v3:=Tryz.zeroValue3
 t5:=Tryz.underlying5
 a5:=Tryz.isAgg5
 z5:=Tryz.sizeOf5
 v5:=Tryz.zeroValue5
 t9:=Tryz.underlying9
 a9:=Tryz.isAgg9
 z9:=Tryz.sizeOf9
 v9:=Tryz.zeroValue9}
def Tryz.JW:Go.Shelf.Ren:=⟨λ|129=>277|n=>n,λ|53=>367|3=>3|4=>4|46=>324|5=>5|9=>9|n=>n,λ|n=>n⟩
def Tryz.Ta:Go.Proofs.Lays.n129 Tryz.prog Tryz.JW:={
 mixed:=by kernel_rfl
 f129:=Tryz.func277.trans ac
 t3:=Tryz.underlying3
 a3:=Tryz.isAgg3
 z3:=Tryz.sizeOf3
 v3:=Tryz.zeroValue3
 t4:=Tryz.underlying4
 a4:=Tryz.isAgg4
 z4:=Tryz.sizeOf4
 v4:=Tryz.zeroValue4
 t5:=Tryz.underlying5
 a5:=Tryz.isAgg5
 z5:=Tryz.sizeOf5
 v5:=Tryz.zeroValue5
 t9:=Tryz.underlying9
 a9:=Tryz.isAgg9
 z9:=Tryz.sizeOf9
 v9:=Tryz.zeroValue9
 t46:=Tryz.underlying324
 a46:=Tryz.isAgg324
 z46:=Tryz.sizeOf324
 v46:=Tryz.zeroValue324
 t53:=Tryz.underlying367
 a53:=Tryz.isAgg367
 z53:=Tryz.sizeOf367
 v53:=Tryz.zeroValue367}
def Tryz.Hw:Go.Shelf.Ren:=⟨λ|171=>213|243=>267|246=>315|283=>344|284=>345|285=>346|286=>347|129=>277|317=>368|318=>369|319=>370|320=>371|337=>380|338=>381|n=>n,λ|3=>3|9=>9|2=>2|4=>4|171=>422|0=>0|53=>367|37=>237|5=>5|173=>424|212=>441|51=>365|20=>20|213=>442|46=>324|232=>448|233=>449|n=>n,λ|17=>4|18=>6|19=>7|n=>n⟩
def Tryz.RA:Go.Proofs.LaysM.n171 Tryz.prog Tryz.Hw:={
 mixed:=by kernel_rfl
 f129:=Tryz.func277.trans ac
 f171:=Tryz.func213.trans ac
 f243:=Tryz.func267.trans ac
 f246:=Tryz.func315.trans ac
 f283:=Tryz.func344.trans ac
 f284:=Tryz.func345.trans ac
 f285:=Tryz.func346.trans ac
 f286:=Tryz.func347.trans ac
 f317:=Tryz.func368.trans ac
 f318:=Tryz.func369.trans ac
 f319:=Tryz.func370.trans ac
 f320:=Tryz.func371.trans ac
 f337:=Tryz.func380.trans ac
 f338:=Tryz.func381.trans ac
 t0:=Tryz.underlying0
 a0:=Tryz.isAgg0
 z0:=Tryz.sizeOf0
 v0:=Tryz.zeroValue0
 t2:=Tryz.underlying2
 a2:=Tryz.isAgg2
 z2:=Tryz.sizeOf2
 v2:=Tryz.zeroValue2
 t3:=Tryz.underlying3
 a3:=Tryz.isAgg3
 z3:=Tryz.sizeOf3
 v3:=Tryz.zeroValue3
 t4:=Tryz.underlying4
 a4:=Tryz.isAgg4
 z4:=Tryz.sizeOf4
 v4:=Tryz.zeroValue4
 t5:=Tryz.underlying5
 a5:=Tryz.isAgg5
 z5:=Tryz.sizeOf5
 v5:=Tryz.zeroValue5
 t9:=Tryz.underlying9
 a9:=Tryz.isAgg9
 z9:=Tryz.sizeOf9
 v9:=Tryz.zeroValue9
 t20:=Tryz.underlying20
 a20:=Tryz.isAgg20
 z20:=Tryz.sizeOf20
 v20:=Tryz.zeroValue20
 t37:=Tryz.underlying237
 a37:=Tryz.isAgg237
 z37:=Tryz.sizeOf237
 v37:=Tryz.zeroValue237
 t46:=Tryz.underlying324
 a46:=Tryz.isAgg324
 z46:=Tryz.sizeOf324
 v46:=Tryz.zeroValue324
 t51:=Tryz.underlying365
 a51:=Tryz.isAgg365
 z51:=Tryz.sizeOf365
 v51:=Tryz.zeroValue365
 t53:=Tryz.underlying367
 a53:=Tryz.isAgg367
 z53:=Tryz.sizeOf367
 v53:=Tryz.zeroValue367
 t171:=Tryz.underlying422
 a171:=Tryz.isAgg422
 z171:=Tryz.sizeOf422
 v171:=Tryz.zeroValue422
 t173:=Tryz.underlying424
 a173:=Tryz.isAgg424
 z173:=Tryz.sizeOf424
 v173:=Tryz.zeroValue424
 t212:=Tryz.underlying441
 a212:=Tryz.isAgg441
 z212:=Tryz.sizeOf441
 v212:=Tryz.zeroValue441
 t213:=Tryz.underlying442
 a213:=Tryz.isAgg442
 z213:=Tryz.sizeOf442
 t232:=Tryz.underlying448
 a232:=Tryz.isAgg448
 z232:=Tryz.sizeOf448
 v232:=Tryz.zeroValue448
 t233:=Tryz.underlying449
 a233:=Tryz.isAgg449
 z233:=Tryz.sizeOf449
 v233:=Tryz.zeroValue449
 g17:=by kernel_rfl
 g18:=by kernel_rfl
 g19:=by kernel_rfl
 i0:=by kernel_rfl
 i2:=by kernel_rfl
 i3:=by kernel_rfl
 i4:=by kernel_rfl
 i5:=by kernel_rfl
 i9:=by kernel_rfl
 i20:=by kernel_rfl
 i37:=by kernel_rfl
 i46:=by kernel_rfl
 i51:=by kernel_rfl
 i53:=by kernel_rfl
 i171:=by kernel_rfl
 i173:=by kernel_rfl
 i212:=by kernel_rfl
 i232:=by kernel_rfl
 i233:=by kernel_rfl
 m17:=by kernel_rfl
 m18:=by kernel_rfl
 m19:=by kernel_rfl}
def Tryz.Fk:Go.Shelf.Ren:=⟨λ|7=>198|10=>250|n=>n,λ|23=>148|26=>3|3=>3|28=>299|0=>0|27=>298|33=>83|4=>4|n=>n,λ|n=>n⟩
def Tryz.Wo:Go.Proofs.SlLaysZI.n7 Tryz.prog Tryz.Fk:={
 mixed:=by kernel_rfl
 f7:=⟨Tryz.f198.name,am,Tryz.func198.trans ac⟩
 f10:=⟨Tryz.f250.name,am,Tryz.func250.trans ac⟩
 t0:=Tryz.underlying0
 a0:=Tryz.isAgg0
 z0:=Tryz.sizeOf0
 v0:=Tryz.zeroValue0
 t4:=Tryz.underlying4
 a4:=Tryz.isAgg4
 z4:=Tryz.sizeOf4
 v4:=Tryz.zeroValue4
 t23:=Tryz.underlying148
 a23:=Tryz.isAgg148
 z23:=Tryz.sizeOf148
 v23:=Tryz.zeroValue148
 t26:=Tryz.underlying3
 a26:=Tryz.isAgg3
 z26:=Tryz.sizeOf3
 v26:=Tryz.zeroValue3
 t27:=Tryz.underlying298
 a27:=Tryz.isAgg298
 z27:=Tryz.sizeOf298
 v27:=Tryz.zeroValue298
 t28:=Tryz.underlying299
 a28:=Tryz.isAgg299
 z28:=Tryz.sizeOf299
 v28:=Tryz.zeroValue299
 t33:=Tryz.underlying83
 a33:=Tryz.isAgg83
 z33:=Tryz.sizeOf83
 v33:=Tryz.zeroValue83}
def Tryz.yN:Go.Shelf.Ren:=⟨λ|6=>197|8=>248|9=>249|11=>306|13=>218|12=>307|23=>276|24=>277|14=>331|15=>332|16=>333|17=>334|18=>335|19=>336|20=>337|21=>338|22=>339|25=>364|26=>317|27=>318|28=>365|29=>366|30=>278|31=>378|n=>n,λ|26=>3|28=>299|24=>42|0=>0|3=>3|37=>324|48=>365|50=>367|4=>4|40=>359|39=>358|45=>273|5=>5|9=>9|51=>400|55=>375|57=>426|58=>427|33=>83|n=>n,λ|n=>n⟩
def Tryz.Tq:Go.Proofs.SlLaysZI.n6 Tryz.prog Tryz.yN:={
 mixed:=by kernel_rfl
 f6:=⟨Tryz.f197.name,am,Tryz.func197.trans ac⟩
 f8:=⟨Tryz.f248.name,am,Tryz.func248.trans ac⟩
 f11:=⟨Tryz.f306.name,am,Tryz.func306.trans ac⟩
 t0:=Tryz.underlying0
 a0:=Tryz.isAgg0
 z0:=Tryz.sizeOf0
 v0:=Tryz.zeroValue0
 t24:=Tryz.underlying42
 a24:=Tryz.isAgg42
 z24:=Tryz.sizeOf42
 v24:=Tryz.zeroValue42
 t26:=Tryz.underlying3
 a26:=Tryz.isAgg3
 z26:=Tryz.sizeOf3
 v26:=Tryz.zeroValue3
 t28:=Tryz.underlying299
 a28:=Tryz.isAgg299
 z28:=Tryz.sizeOf299
 v28:=Tryz.zeroValue299
 i26:=by kernel_rfl}
def Tryz.OS:Go.Shelf.Ren:=⟨λ|5=>249|8=>218|7=>307|19=>276|20=>277|10=>331|11=>332|12=>333|13=>334|14=>335|15=>336|16=>337|17=>338|18=>339|30=>364|31=>317|32=>318|33=>365|34=>366|35=>278|40=>378|n=>n,λ|23=>42|25=>3|3=>3|32=>324|22=>42|0=>0|44=>365|46=>367|4=>4|36=>359|35=>358|41=>273|5=>5|9=>9|53=>400|57=>375|63=>426|64=>427|n=>n,λ|n=>n⟩
def Tryz.vU:Go.Proofs.SlLaysM.n5 Tryz.prog Tryz.OS:={
 mixed:=by kernel_rfl
 f5:=⟨Tryz.f249.name,am,Tryz.func249.trans ac⟩
 f7:=⟨Tryz.f307.name,am,Tryz.func307.trans ac⟩
 f8:=Tryz.func218.trans ac
 f10:=⟨Tryz.f331.name,am,Tryz.func331.trans ac⟩
 f11:=⟨Tryz.f332.name,am,Tryz.func332.trans ac⟩
 f12:=⟨Tryz.f333.name,am,Tryz.func333.trans ac⟩
 f13:=⟨Tryz.f334.name,am,Tryz.func334.trans ac⟩
 f14:=⟨Tryz.f335.name,am,Tryz.func335.trans ac⟩
 f15:=⟨Tryz.f336.name,am,Tryz.func336.trans ac⟩
 f16:=⟨Tryz.f337.name,am,Tryz.func337.trans ac⟩
 f17:=⟨Tryz.f338.name,am,Tryz.func338.trans ac⟩
 f18:=⟨Tryz.f339.name,am,Tryz.func339.trans ac⟩
 f19:=Tryz.func276.trans ac
 f20:=Tryz.func277.trans ac
 f30:=⟨Tryz.f364.name,am,Tryz.func364.trans ac⟩
 f31:=Tryz.func317.trans ac
 f32:=Tryz.func318.trans ac
 f33:=⟨Tryz.f365.name,am,Tryz.func365.trans ac⟩
 f34:=⟨Tryz.f366.name,am,Tryz.func366.trans ac⟩
 f35:=⟨Tryz.f278.name,am,Tryz.func278.trans ac⟩
 f40:=⟨Tryz.f378.name,am,Tryz.func378.trans ac⟩
 t0:=Tryz.underlying0
 a0:=Tryz.isAgg0
 z0:=Tryz.sizeOf0
 v0:=Tryz.zeroValue0
 t3:=Tryz.underlying3
 a3:=Tryz.isAgg3
 z3:=Tryz.sizeOf3
 v3:=Tryz.zeroValue3
 t4:=Tryz.underlying4
 a4:=Tryz.isAgg4
 z4:=Tryz.sizeOf4
 v4:=Tryz.zeroValue4
 t5:=Tryz.underlying5
 a5:=Tryz.isAgg5
 z5:=Tryz.sizeOf5
 v5:=Tryz.zeroValue5
 t9:=Tryz.underlying9
 a9:=Tryz.isAgg9
 z9:=Tryz.sizeOf9
 v9:=Tryz.zeroValue9
 t22:=Tryz.underlying42
 a22:=Tryz.isAgg42
 z22:=Tryz.sizeOf42
 v22:=Tryz.zeroValue42
 t23:=Tryz.underlying42
 a23:=Tryz.isAgg42
 z23:=Tryz.sizeOf42
 v23:=Tryz.zeroValue42
 t25:=Tryz.underlying3
 a25:=Tryz.isAgg3
 z25:=Tryz.sizeOf3
 v25:=Tryz.zeroValue3
 t32:=Tryz.underlying324
 a32:=Tryz.isAgg324
 z32:=Tryz.sizeOf324
 v32:=Tryz.zeroValue324
 t35:=Tryz.underlying358
 a35:=Tryz.isAgg358
 z35:=Tryz.sizeOf358
 v35:=Tryz.zeroValue358
 t36:=Tryz.underlying359
 a36:=Tryz.isAgg359
 z36:=Tryz.sizeOf359
 v36:=Tryz.zeroValue359
 t41:=Tryz.underlying273
 a41:=Tryz.isAgg273
 z41:=Tryz.sizeOf273
 v41:=Tryz.zeroValue273
 t44:=Tryz.underlying365
 a44:=Tryz.isAgg365
 z44:=Tryz.sizeOf365
 v44:=Tryz.zeroValue365
 t46:=Tryz.underlying367
 a46:=Tryz.isAgg367
 z46:=Tryz.sizeOf367
 v46:=Tryz.zeroValue367
 t53:=Tryz.underlying400
 a53:=Tryz.isAgg400
 z53:=Tryz.sizeOf400
 v53:=Tryz.zeroValue400
 t57:=Tryz.underlying375
 a57:=Tryz.isAgg375
 z57:=Tryz.sizeOf375
 v57:=Tryz.zeroValue375
 t63:=Tryz.underlying426
 a63:=Tryz.isAgg426
 z63:=Tryz.sizeOf426
 v63:=Tryz.zeroValue426
 t64:=Tryz.underlying427
 a64:=Tryz.isAgg427
 z64:=Tryz.sizeOf427
 v64:=Tryz.zeroValue427}
end Go.Proofs
namespace Go.ar
open Go
def wrap_u64(n:Int):ZG .u64 n=n % 18446744073709551616:=by
 unfold ZG;simp[IntKind.signed,IntKind.bits]
variable{d1 y:List UInt8}{a c i l:Nat}{d:YQ}{h:Program}{C g r:TypeId}{p u:ZR}{b:World}
def EX(n:a<18446744073709551616):ZG .u64 (a:Int)=a:=by rw[wrap_u64];omega
def LC(s:jV h g r 1 1){L D:ZN}(P:aM fP r L b (ZM a) c i y)(B:Row fP 1 b D d c d1)(j:∀k,aM fP r (·=a) k (ZM a) c i d1->ak (·=a) b k->k.heap.size=b.heap.size->p (ZH c) k):
  aG h (Builtin.copy_ #[g,g] C #[.slice (ZM a) c i,.slice d c l]) b p u:=by
 obtain⟨a1,a2,M,hz,N,a4,a5⟩:=s.info;have E:(h.info? r).map (·.size)=some 1:=by rw[M];simp[N]
 have m:=B.len;have O:=P.len dC;obtain⟨a6,D0,F,a7,a8⟩:=P.body;rcases F.cases with⟨t,_⟩|⟨Q,n,t,v,R,S,a9⟩
 ·cases t
 cases t
 by_cases H:c=0
 ·subst H
  have:d1=[]:=QW m.symm;subst this;have:y=[]:=QW O.symm;subst this;have o:=run_copy_none (P:=h) b g g C r (ZM a) d 0 i 0 l s.under E (by rfl);refine aG.mk (v:=ZH 0) o (j b ?_ (ak.refl _) rfl);have:=P.alone;exact⟨by obtain⟨cs,D,T,e,a3⟩:=this.body;exact⟨cs,λ_=>False,T,by rw[show cs=[]from e];rfl,λ_ P=>P.elim⟩,λe f=>by simpa[aD]using f.symm,λe f=>by rw[f];exact ax v⟩
 ·obtain⟨cs,w,U⟩:=B.ay
  have x:d1≠[]:=by rintro rfl;simp at m;exact H m
  obtain⟨e,z,V,_,_,W⟩:=U x dC;subst V;have q:cs.length=c:=by have:=w.length;rw[this,m];show _*1=_;omega
  have b0:n.size=i:=by rw[S];show i*1=i;omega
  have o:=run_copy_row (P:=h) b g g C r a 0 c i ⟨e,z,none⟩ c l n r cs s.under E v (by rw[q];simp[Nat.min_self]) (λX Y Z=>by rw[Addr.add_lit];exact W X Y Z) oM (w.QM);rw[q]at o;have I:=setRow_heap b a n (n.toList.take 0++cs++n.toList.drop (0+c)).toArray r (0,0) v;refine aG.mk o (j _ ⟨⟨cs,λ_=>False,⟨⟨by rw[q];show c=c*1;omega,.inr ⟨a,i,_,rfl,Qj _,I,R,?_,?_,?_⟩⟩⟩,w.free,λ_ P=>P.elim⟩,λe f=>by simpa[aD]using f.symm,λe f=>by subst f;exact ax I⟩ ⟨rfl,rfl,rfl,by simp[World.setRow],λa0 hk x=>setRow_other b a a0 _ x⟩ (by simp[World.setRow]))
  ·rcases F.row.2 with⟨A,_⟩|⟨Q,J,K,A,_,_,_,hm,_⟩
   ·cases A
   ·cases A;exact hm
  ·show _=i*1
   simp;omega
  ·simp only[List.take_zero,List.nil_append,Xz]
   show(cs++n.toList.drop c).take (c*1)=cs;rw[Nat.mul_one,<-q,List.take_left]
end Go.ar
namespace Go.Proofs.YtjgjkeponbeekaaGreatDoor
open Go.ar
variable{e:Int}{y:List UInt8}{a c:Nat}{d:YQ}{b:World}
def Ox(a:aJ e):YX 293 #[ZH e] b (Ok λc d=>c= .tuple #[.int .u64 (e.natAbs:Int),.int .u8 (if e<0 then 16 else 0)]/\b=d):=by
 unfold aJ at a;refine Iy (al.dec (λn=>?_) (λn=>?_))
 ·refine Ok.mk ⟨?_,rfl⟩
  rw[Zx n,wrap_u64,wrap_u64];have P:(0-e % 18446744073709551616) % 18446744073709551616=(e.natAbs:Int):=oM
  rw[P]
 ·refine Ok.mk ⟨?_,rfl⟩
  rw[Zq n,wrap_u64];have P:e % 18446744073709551616=(e.natAbs:Int):=oM
  rw[P]
def bits_Len64{n:Nat}{P:World}(c:n<18446744073709551616):YX 277 #[.int .u64 (n:Int)] P (Ok λb a=>b= ZH (Lib.bitLen n:Int)/\P=a):=by
 refine(Any.bits_Len64 Tryz.Ta (n:Int) P oM oM).mono ?_;rintro d a ⟨rfl,rfl⟩;exact Ok.mk ⟨by rw[Qx],rfl⟩
def UQ(b:a<=8)(n:Bool):Pd .u8 (if n then 16 else 0) (ZG .u8 (a:Int))=((UInt8.ofNat (a+if n then 16 else 0)).toNat:Int):=by
 have P:(List.range 9).all (λa=>Pd .u8 16 (ZG .u8 (a:Int))==((UInt8.ofNat (a+16)).toNat:Int)&&Pd .u8 0 (ZG .u8 (a:Int))==((UInt8.ofNat (a+0)).toNat:Int))=true:=by decide+kernel
 have:=ZY.1 P a (List.mem_range.2 oM);simp only[QK,beq_iff_eq]at this
 cases n
 ·exact this.2
 ·exact this.1
def BP{m:Int}{D:ZN}(s:aJ m)(f:Row fP 1 b D d a y)(K:a+9<=aK)(hD:∀e,D e->e<b.heap.size):
  YX 240 #[.slice d a c,ZH m] b (Ok (oZ fP 5 b (y++oC m))):=by
 have j:=f.len;have k:=s;unfold aJ at k;have L:=K;unfold aK at L;have t:m.natAbs<2 ^ 64:=oM
 have u:=Jk t;have M:=yJ _ t;refine KL (PC.ok (Ox s) ?_);rintro _ _ ⟨rfl,rfl⟩;refine⟨_,_,rfl,PC.ok (bits_Len64 oM) ?_⟩;rintro _ _ ⟨rfl,rfl⟩;have N:ZG .i64 (Int.tdiv (ZG .i64 ((Lib.bitLen m.natAbs:Int)+7)) 8)=((jS m.natAbs).length:Int):=by
  rw[wrap_i64 (x:=(Lib.bitLen m.natAbs:Int)+7) (by unfold aJ;omega),Int.tdiv_eq_ediv_of_nonneg oM,wrap_i64 (by unfold aJ;omega),M];omega
 have O:ZG .i64 ((ZG .i64 (((a:Nat):Int)+1))+((jS m.natAbs).length:Int))=((a+1+(jS m.natAbs).length:Nat):Int):=by
  rw[wrap_i64 (x:=((a:Nat):Int)+1) (by unfold aJ;omega),wrap_i64 (by unfold aJ;omega)];omega
 refine⟨_,rfl,?_⟩;rw[N,O];refine UR tA kR oM (by unfold aK;omega) λw1 Q v b4=>?_;refine⟨_,_,_,rfl,LC tA Q (f.ah v) λR S T b5=>⟨_,rfl,?_⟩⟩;have w:ai b R:=v.new T λe f=>.inr oM;rw[show ZG .u8 ((jS m.natAbs).length:Int)=ZG .u8 ((jS m.natAbs).length:Int)from rfl];have z:=UQ u (decide (m<0));simp only[Zk]at z;rw[z];refine HI S tA (x:=UInt8.ofNat ((jS m.natAbs).length+if m<0 then 16 else 0)) (D:=λ_=>False) ⟨rfl,trivial⟩ (λ_ h=>h.elim) (by rw[<-j];unfold aK;omega) (by rw[<-j];unfold maxLen;omega) λa4 c3 U V A W X b6=>?_;have Y:ai b U:=w.new W λe f=>.inr (by simp only[aD,Q1]at f;omega);have Z:a+1=(y++[UInt8.ofNat ((jS m.natAbs).length+if m<0 then 16 else 0)]).length:=by simp[j]
 generalize a8:y++[UInt8.ofNat ((jS m.natAbs).length+if m<0 then 16 else 0)]=l at A Z;have a0:y++oC m=l++(jS m.natAbs).reverse:=by rw[<-a8,XQ];rfl
 rw[a0];generalize a9:(jS m.natAbs).length=P at u⊢;refine⟨_,_,_,rfl,λB C o E F H=>∃n:Nat,n<=P/\F=(P:Int)-1-n/\B=P-n/\o=a+1+n/\∃g,aM fP 5 g H C o E (l++(jS m.natAbs).reverse.take n)/\ai b H/\∀e,g e->b.heap.size<=e,
  ⟨_,0,Qj _,by rw[wrap_i64 (by unfold aJ;omega)];omega,rfl,rfl,V,by simpa using A,Y,λe f=>?_⟩,?_⟩
 ·rcases X e f with h|h|h
  ·omega
  ·exact h.elim
  ·have:=w.size;omega
 rintro B C o E F _ p ⟨n,hj,rfl,rfl,rfl,g,i,q,r⟩;refine al.dec (λh1=>?_) (λh1=>?_)
 ·have b7:n<P:=oM
  have b0:ZG .i64 (8*((P:Int)-1-n))=((8*(P-1-n):Nat):Int):=by rw[wrap_i64 (by unfold aJ;omega)];omega
  rw[b0];have a1:∀x I,(do eqGuard .shr 367 x I (.int .u64 (m.natAbs:Int)) (ZH ((8*(P-1-n):Nat):Int));binOp .shr 367 (.int .u64 (m.natAbs:Int)) (ZH ((8*(P-1-n):Nat):Int)):Sem Value).run ZP p=
    .ok (.int .u64 ((m.natAbs/256 ^(P-1-n):Nat):Int)) p:=λx I=>by
   have h0:=shift_shr .u64 .i64 (m.natAbs:Int) ((8*(P-1-n):Nat):Int) oM (by show _<=((64:Nat):Int);omega);have e1:(m.natAbs:Int)/2 ^(Int.toNat ((8*(P-1-n):Nat):Int))=((m.natAbs/256 ^(P-1-n):Nat):Int):=by
    have e2:(256:Nat) ^(P-1-n)=2 ^(8*(P-1-n)):=by rw[Nat.pow_mul]
    rw[Qx,e2];simp
   show(Op.shift .shr .u64 (m.natAbs:Int) .i64 ((8*(P-1-n):Nat):Int)).run ZP p=_;rw[h0,e1]
   rfl
  refine aG.mk (a1 _ _) ⟨_,rfl,?_⟩;have a2:(jS m.natAbs).reverse[n]? =some (UInt8.ofNat (m.natAbs/256 ^(P-1-n))):=by
   rw[List.getElem?_reverse oM,a9];rw[Rn _ _ oM]
   congr 1
   refine UInt8.toNat_inj.1 ?_;rw[ZK,ZK];omega
  have a3:ZG .u8 ((m.natAbs/256 ^(P-1-n):Nat):Int)=((UInt8.ofNat (m.natAbs/256 ^(P-1-n))).toNat:Int):=by
   rw[ZK];unfold ZG;simp[IntKind.signed,IntKind.bits]
  rw[a3];have J:(l++(jS m.natAbs).reverse.take n).length=a+1+n:=by simp;omega
  refine HI i tA (x:=UInt8.ofNat (m.natAbs/256 ^(P-1-n))) (D:=λ_=>False) ⟨rfl,trivial⟩ (λ_ h=>h.elim) (by rw[J];unfold aK;omega) (by rw[J];unfold maxLen;omega) λa5 c5 w5 F5 b1 b2 b3 b8=>?_;refine⟨_,_,_,rfl,_,oM,n+1,oM,by rw[wrap_i64 (by unfold aJ;omega)];omega,rfl,oM,F5,?_,q.new b2 λe f=>.inr (r e (i.self e f)),λe f=>?_⟩
  ·rw[Qw,a2]
   simpa using b1
  ·rcases b3 e f with h|h|h
   ·exact r e h
   ·exact h.elim
   ·exact Xx q.size h
 ·obtain rfl:n=P:=oM
  rw[Qz (by simp;omega)]at i;exact Ok.mk ⟨_,_,_,g,rfl,i,q,r⟩
end Go.Proofs.YtjgjkeponbeekaaGreatDoor
namespace Go.ar
open Go
def Own.set{d:World}{i:TypeId}{k:Nat}{e:YQ}{l P:Nat}{cs:List Value}(o:Own d i k e l P cs){m:Nat}{p:Value}{q:ZU}(F:m<cs.length){a b:Nat}(f:e=some ⟨a,b,none⟩)(g:∀n,Own n i k e l P (cs.set m p)->ak (λa=>aD e=some a) d n->n.heap.size=d.heap.size->q n):PS d ⟨a,b+m,none⟩ p q:=by
 have r:=o.row.1;rcases o.row.2 with⟨c,H⟩|⟨I,J,h,c,s,t,u,v,w,j⟩
 ·simp only[XX]at c
  rw[c.1]at f;cases f
 ·simp only[XX]at c
  obtain⟨x,-,y⟩:=c;subst x;subst y
  cases f
  rw[Xz];have z:m<h.size:=by
   have:=Zj List.length j;simp at this;omega
  refine PS.mk t z λn A B C=>g n ⟨⟨by simpa using r,.inr ⟨_,_,_,rfl,s,C,u,v,by simpa using w,?_⟩⟩⟩ (A.mono λa _ E=>by rw[E];rfl) B;rw[Array.toList_setIfInBounds,List.take_set,j]
def bF.nQ{a:Type}{b:Nat}{n:a->List Value}{hl h1}{c:World}{D:ZN}:∀{P:List a} {cs:List Value},bF (flat b n (λ_=>True) hl h1) c D P cs↔cs=P.flatMap n
 |[],cs=>by simp[bF]
 |x::P,cs=>by
  constructor
  ·rintro⟨e,f,rfl,⟨rfl,-⟩,d⟩
   rw[bF.nQ.1 d];rfl
  ·rintro rfl
   exact⟨n x,P.flatMap n,rfl,⟨rfl,trivial⟩,bF.nQ.2 rfl⟩
def rl{c:Type}{enc:c->List Value}{k:Nat}(d:∀P,(enc P).length=k){x':c}{v:Value}{a:Nat}(g:a<k):∀(e:List c) (n:Nat) (P:c),e[n]? =some P->enc x'=(enc P).set a v->(e.flatMap enc).set (n*k+a) v=(e.set n x').flatMap enc
 |[],n,P,b,_=>by simp at b
 |y::h,0,P,b,f=>by
  simp at b;subst b;rw[List.flatMap_cons,List.set_cons_zero,List.flatMap_cons,Nat.zero_mul,Xz,List.set_append_left _ _ (by rw[d];exact g),f]
 |y::h,n+1,P,b,f=>by
  have:=rl d g h n P (by simpa using b) f;have i:(n+1)*k+a-k=n*k+a:=by rw[X7];omega
  have j:k<=(n+1)*k+a:=by rw[X7];omega
  rw[List.flatMap_cons,List.set_cons_succ,List.flatMap_cons,List.set_append_right _ _ (by rw[d];exact j),d,i,this]
def lg{a:Type}{n:a->List Value}{b:Nat}(c:∀x,(n x).length=b):∀P:List a,(P.flatMap n).length=P.length*b
 |[]=>by simp
 |x::P=>by rw[List.flatMap_cons,QX,c,lg c P,Xq,X7,Nat.one_mul,Nat.add_comm]
variable{E a c i l:Nat}{f:ZN}{d s:YQ}{h:Program}{j:Type}{C g r:TypeId}{w:Value}{p u:ZR}{b:World}{z:ZU}
def aM.set{k:Type}{n:k->List Value}{hl h1}{e:List k}(m:aM (flat a n (λ_=>True) hl h1) g f b d c i e){P j:Nat}{x x':k}(p:e[P]? =some x)(r:j<a)(s:n x'=(n x).set j w)(t:d=some ⟨l,E,none⟩)(o:∀h,aM (flat a n (λ_=>True) hl h1) g f h d c i (e.set P x')->ak (λl=>aD d=some l) b h->h.heap.size=b.heap.size->z h):PS b ⟨l,E+P*a+j,none⟩ w z:=by
 obtain⟨cs,D,u,v,y⟩:=m.body;have A:=bF.nQ.1 v;subst A;have B:P<e.length:=(Qv.1 p).1;rw[Nat.add_assoc];refine u.set (m:=P*a+j) ?_ t λh C F q=>o h ⟨⟨_,D,C,bF.nQ.2 (rl hl r e P x p s),y⟩,m.self,λl H=>by rw[q];exact m.aC l H⟩ F q;rw[lg hl];have:(P+1)*a<=e.length*a:=Q0 _ B;rw[X7]at this;omega
def xN{P:Program}{w:World}(n:Nat)(b g c:TypeId)(h:TypeInfo)(a:Nat)(e:P.underlying b=some (.slice c))(f:P.info? c=some h)(d:Value)(i:Nat)(j:List Value)(k:w.ownsRow n c a d i j)(l:Nat):
  (Builtin.append_ #[b,b] g #[d,.slice none 0 l]).run P w= .ok d w:=by
 rcases k.2 with⟨rfl,rfl⟩|⟨q,m,o,rfl,_,_,p,_⟩
 ·simp[Builtin.append_,run_underlying e,sizeOf,typeInfo,f,Builtin.lenOf,Builtin.firstCells]
 ·simp[Builtin.append_,run_underlying e,sizeOf,typeInfo,f,Builtin.lenOf,Builtin.firstCells,p,storeCells]
def Ah{k:jJ j}{q:List j}{bytes:Nat}(t:aM k g f b d a c q)(v:jV h r g k.k bytes){D:ZN}{e:List j}(w:Row k bytes b D s i e)(A:∀n,D n->n<b.heap.size/\aD d≠some n)(m:(q.length+e.length)*bytes<=aK)(B:q.length+e.length<=maxLen)(o:∀x P y z,aM k g z y x (a+i) P (q++e)->ak (λE=>aD d=some E) b y->(∀n,z n->f n\/D n\/b.heap.size<=n)->(∀n,aD x=some n->f n\/b.heap.size<=n)->p (.slice x (a+i) P) y):
  aG h (Builtin.append_ #[r,r] C #[.slice d a c,.slice s i l]) b p u:=by
 cases s with
 |some N=>exact kN t v w A m B o
 |none=>
  have F:e=[]:=by
   cases e with
   |nil=>rfl
   |cons H O=>obtain⟨n,I,Q,J,_⟩:=w.el 0 H rfl;cases J
  subst F;obtain rfl:i=0:=w.len;obtain⟨K,R,L,S,T,U,V⟩:=jV.info v;obtain⟨cs,W,M,X,Y⟩:=t.body;exact aG.mk (xN (P:=h) (w:=b) 0 r C g K k.k v.under L (.slice d a c) a cs M.row l) (o d c b f (by simpa using t) (ak.refl _) (λn m=>.inl m) λn m=>.inl (t.self n m))
end Go.ar
namespace Go.ar
open Go
def Lp(n:UInt8):ZG .i64 (n.toNat:Int)=n.toNat:=wrap_i64 (by have:=n.toNat_lt;unfold aJ;omega)
def lu(n:UInt8):Nat:=if 16<n.toNat then n.toNat-16 else n.toNat
def LH(P:UInt8):(ZG .i64 (lO .u8 (P.toNat:Int) 16)<=8/\((P.toNat:Int)≠16)↔lu P<=8)/\(lu P<=8->ZG .i64 (lO .u8 (P.toNat:Int) 16)=(lu P:Int)/\Bg .u8 (P.toNat:Int) 16=if 16<P.toNat then 16 else 0):=by
 have a:(List.range 256).all (λn=>decide ((ZG .i64 (lO .u8 (n:Int) 16)<=8/\((n:Int)≠16)↔(if 16<n then n-16 else n)<=8)/\((if 16<n then n-16 else n)<=8->ZG .i64 (lO .u8 (n:Int) 16)=((if 16<n then n-16 else n:Nat):Int)/\Bg .u8 (n:Int) 16=if 16<n then 16 else 0)))=true:=by decide+kernel
 have:=ZY.1 a P.toNat (List.mem_range.2 P.toNat_lt);exact XV this
def LI{n d:Nat}(b:n<72057594037927936)(c:d<256):Pd .u64 (IA .u64 (n:Int) 8) (ZG .u64 (d:Int))=((n*256+d:Nat):Int):=by
 have P:IA .u64 (n:Int) 8=((n*256:Nat):Int):=by
  unfold IA;have:min (Int.toNat 8) (IntKind.bits .u64)=8:=dC
  rw[this,wrap_u64];have:((2:Int) ^ 8)=256:=dC
  rw[this];omega
 rw[P,EX oM];unfold Pd;show ZG .u64 ((BitVec.ofInt 64 ((n*256:Nat):Int)|||BitVec.ofInt 64 (d:Int)).toNat:Int)=_;have a:n*256|||d=n*256+d:=by
  have:=(Nat.shiftLeft_add_eq_or_of_lt (a:=n) (i:=8) (b:=d) oM).symm
  rwa [Nat.shiftLeft_eq]at this
 rw[BitVec.ofInt_natCast,BitVec.ofInt_natCast,BitVec.toNat_or,BitVec.toNat_ofNat,BitVec.toNat_ofNat,Nat.mod_eq_of_lt oM,Nat.mod_eq_of_lt oM,a,EX oM]
variable{y:List UInt8}{a:Nat}{c5:UInt8}
def EB(n:y[a]? =some c5):gJ (y.take (a+1))=gJ (y.take a)*256+c5.toNat:=by
 rw[Qw,n];exact Jl _ _
def oF(n:List UInt8){j m:Nat}(P:j<=m):gJ (n.take j)<256 ^ m:=by
 have a:=MU (n.take j);have b:256 ^(n.take j).length<=256 ^ m:=Nat.pow_le_pow_right oM (by simp;omega);omega
def LJ(n:¬lu c5<=8):rdNum (c5::y)=(5,0,0):=by
 unfold rdNum lu at*;simp only;rw[Zx oM]
def Jn(P:lu c5<=8)(n:y.length<lu c5):rdNum (c5::y)=(4,0,0):=by
 unfold rdNum lu at*;simp only;rw[Zq oM,Zx n]
def Oz(a:lu c5<=8)(n:¬y.length<lu c5)(P:(0<lu c5/\y.head? =some 0)\/(¬16<c5.toNat/\2 ^ 63<=gJ (y.take (lu c5)))\/(16<c5.toNat/\2 ^ 63<gJ (y.take (lu c5)))):rdNum (c5::y)=(5,0,0):=by
 unfold rdNum lu at*;simp only;rw[Zq oM,Zq n,Zx P]
def Cw(a:lu c5<=8)(n:¬y.length<lu c5)(P:¬((0<lu c5/\y.head? =some 0)\/(¬16<c5.toNat/\2 ^ 63<=gJ (y.take (lu c5)))\/(16<c5.toNat/\2 ^ 63<gJ (y.take (lu c5))))):
  rdNum (c5::y)=(0,if 16<c5.toNat then-(gJ (y.take (lu c5)):Int)else gJ (y.take (lu c5)),lu c5+1):=by
 unfold rdNum lu at*;simp only;rw[Zq oM,Zq n,Zq P]
end Go.ar
namespace Go.Proofs.YtjgjkeponbeekaaGreatDoor
section
open Go.ar
structure e_ (w:World) (p:Nat) (F:ZN) (r:mE):Prop where
 body:∃a n cap G,w.heap[p]? =some (.cells #[.slice a n cap,ZH (r.pos:Int),ZH r.vO] 337 (0,0))/\aM fP 5 G w a n cap r.bytes/\(∀b,G b->F b/\b≠p)
 self:F p
 aC:∀b,F b->b<w.heap.size
 fit:r.Fit
 ef:r.bytes.length<=aK
variable{o:Array Value}{K:Bool}{A:FuncId}{e:Int}{a6:List PanicEntry->ZU}{y:List UInt8}{a c i:Nat}{f:ZN}{d:YQ}{p u:ZR}{b k:World}{a0:mE}
def e_.af{S c:ZN}(P:e_ b a c a0)(d:ak S b k)(g:∀n,c n->¬S n):e_ k a c a0:=by
 obtain⟨i,j,e,G,l,m,h⟩:=P.body;exact⟨⟨i,j,e,G,d.get l (g _ P.self),m.af d (λn f=>g n (h n f).1),h⟩,P.self,λn f=>Qk (P.aC n f) d.size,P.fit,P.ef⟩
def e_.ah(n:e_ b a f a0)(P:ai b k):e_ k a f a0:=n.af P λ_ _ n=>n
def e_.dT{b w':World}{e r':mE}(g:e_ b a f e){G:ZN}(k:aM fP 5 G b d c i e.bytes)(h:∀n,G n->f n/\n≠a)(j:ak (·=a) b w')(l:w'.heap[a]? =some (.cells #[.slice d c i,ZH (r'.pos:Int),ZH r'.vO] 337 (0,0)))(P:r'.bytes=e.bytes)(m:r'.Fit):e_ w' a f r':=
 ⟨⟨d,c,i,G,l,by rw[P];exact k.af j λn P=>(h n P).2,h⟩,g.self,λn P=>Qk (g.aC n P) j.size,m,by rw[P];exact g.ef⟩
def Ez{D:ZN}(P:Row fP 1 b D d a y)(o:∀n,D n->n<b.heap.size):
  YX 164 #[.slice d a c] b (Ok λp j=>∃k l,p= ZL k/\e_ j k l ⟨y,0,0⟩/\ai b j/\∀n,l n->b.heap.size<=n):=by
 have q:=P.len;have r:=P.ef;refine Iv (Ah (aM.nil b) tA P (λn g=>⟨o n g,by simp[aD]⟩) (by simp;omega) (by unfold aK at r;unfold maxLen;simp;omega) λe s h z t u _ v=>?_);refine⟨_,_,_,rfl,PA.mk λA i B w=>?_⟩;have m:ai b h:=u.mono λn _ P=>by simp[aD]at P
 have f:=t.alone;rw[List.nil_append]at f;have x:∀n,aD e=some n->b.heap.size<=n:=λn P=>(v n P).elim (λg=>g.elim) id;refine Ok.mk ⟨h.heap.size,λn=>n=h.heap.size\/aD e=some n,rfl,⟨⟨e,_,s,λn=>aD e=some n,w,f.ah i,λn P=>⟨.inr P,?_⟩⟩,.inl rfl,?_,⟨Qj _,.inl rfl⟩,by rw[<-q];omega⟩,m.then i,?_⟩
 ·have:=f.aC n P;omega
 ·rintro n (rfl|P)
  ·omega
  ·have:=f.aC n P;have:=i.size;omega
 ·rintro n (rfl|P)
  ·exact m.size
  ·exact x n P
def TX(n:Int):List PanicEntry:=[{v:=.iface 372 (ZH n),recovered:=false}]
def fS(n:K=true->p (.tuple #[]) b)(P:K=false->a6 (TX e) b):
  PC ZP 287 #[.bool K,ZH e] b p a6:=by
 cases K
 ·refine yl (al.tt rfl ?_)
  exact aG.panics (v:=.iface 372 (ZH e)) rfl (P rfl)
 ·exact yl (al.ff rfl (n rfl))
def UW(b:World)(a:Nat)(c:ZN)(n:mE)(no:Int)(f:ZR)(g:Nat):ZT:=λd P=>
 ((no=0/\e_ P a c ⟨n.bytes,n.pos+g,n.vO⟩/\∃e,d= .returned e/\f e P)\/(no≠0/\d= .panicked (TX no)/\∃h,e_ P a c ⟨n.bytes,h,n.vO⟩))/\ak (·=a) b P/\P.heap.size=b.heap.size
def PC.red{no:Int}(d:YX A o b (UW b a f a0 no p c))(j:no=0->∀P n,e_ n a f ⟨a0.bytes,a0.pos+c,a0.vO⟩->p P n->ak (·=a) b n->n.heap.size=b.heap.size->u P n)(k:no≠0->∀n,(∃l,e_ n a f ⟨a0.bytes,l,a0.vO⟩)->ak (·=a) b n->n.heap.size=b.heap.size->a6 (TX no) n):PC ZP A o b u a6:=
 d.mono λq n ⟨d,h,i⟩=>by
  rcases d with⟨e,g,P,rfl,m⟩|⟨e,rfl,g⟩
  ·exact j e P n g m h i
  ·exact k e n g h i
def MX{m:Nat}(c:e_ b a f a0)(M:m<=2147483647):
  YX 288 #[ZL a,ZH (m:Int)] b (UW b a f a0 (if m<=a0.bytes.length-a0.pos then 0 else 4) (λx y=>∃d z,x= .slice d m z/\Row fP 1 y f d m ((a0.bytes.drop a0.pos).take m)) m):=by
 obtain⟨d,q,n,G,A,g,j⟩:=c.body;have N:=c.fit.pos;have B:=c.ef;have O:=g.len dC;have C:=g.jH;unfold aK at B;refine tX λr s=>?_;have h:ai b r:=s.af;have i:=h.get A id;have t:r.heap.size=b.heap.size:=by rw[s.heap]
 refine⟨a,0,rfl,d,q,n,ae i rfl,a,0,rfl,_,ae i rfl,fS (λP=>?_) (λP=>?_)⟩
 ·have P:=XV P
  rw[wrap_i64 (by unfold aJ;omega)]at P;refine⟨rfl,a,0,rfl,_,ae i rfl,a,0,rfl,PS.mk i sM λE F H e=>?_⟩;have I:ZG .i64 ((a0.pos:Int)+(m:Int))=((a0.pos+m:Nat):Int):=by rw[wrap_i64 (by unfold aJ;omega)];omega
  rw[I]at e;have J:ZG .i64 (((a0.pos+m:Nat):Int)-(m:Int))=(a0.pos:Int):=by rw[wrap_i64 (by unfold aJ;omega)];omega
  refine⟨a,0,rfl,d,q,n,ae e rfl,a,0,rfl,_,ae e rfl,a,0,rfl,_,ae e rfl,?_⟩;rw[J];refine⟨oM,oM,oM,λk u=>?_⟩;have v:ai E k:=u.af;have l:ak (·=a) b k:=((h.af).then F).ah v;have K:e_ k a f ⟨a0.bytes,a0.pos+m,a0.vO⟩:=c.dT (r':=⟨a0.bytes,a0.pos+m,a0.vO⟩) g j l (v.get e id) rfl ⟨by show a0.pos+m<=a0.bytes.length;omega,c.fit.vO⟩;refine⟨.inl ⟨Zx oM,K,_,rfl,cI d a0.pos n 1,n-a0.pos,?_⟩,l,by rw[u.heap,H,t]⟩;simp only[Qx];rw[show a0.pos+m-a0.pos=m by omega];refine⟨rfl,?_⟩;have o:=(g.row (bytes:=1) dC (by unfold aK;omega)).part (lo:=a0.pos) (hi:=a0.pos+m) (cap:=n) oM oM C;rw[show a0.pos+m-a0.pos=m by omega]at o;have L:(a0.bytes.take (a0.pos+m)).drop a0.pos=(a0.bytes.drop a0.pos).take m:=by rw[List.drop_take];congr 1;omega
  rw[L]at o;exact((o.af l λp P=>(j p P).2)).mono λp P=>(j p P).1
 ·intro _ _
  have P:=Xy P;rw[wrap_i64 (by unfold aJ;omega)]at P;have w:¬m<=a0.bytes.length-a0.pos:=oM
  refine⟨.inr ⟨by rw[Zq w];decide,by rw[Zq w],a0.pos,?_⟩,h.af,t⟩;exact c.ah h
def EY(M:e_ b a f a0):
  YX 230 #[ZL a] b (UW b a f a0 a0.num.1 (λt e=>t= ZH a0.num.2.1) a0.num.2.2):=by
 have x:=M.fit.pos;have r:(a0.bytes.drop a0.pos).length=a0.bytes.length-a0.pos:=XZ ..;generalize s:a0.bytes.drop a0.pos=A at r;have Y:a0.num=rdNum A:=by unfold mE.num;rw[s]
 rw[Y];refine pQ (PC.red (MX (m:=1) M oM) ?_ ?_)
 rotate_left
 ·intro k y B u v
  have:¬1<=a0.bytes.length-a0.pos:=λg=>k (Zx g);rw[Zq this];have:A=[]:=QW oM;subst this;exact⟨.inr ⟨dC,rfl,B⟩,u,v⟩
 rintro k _ y N ⟨a1,c1,rfl,O⟩ u v;have Q:1<=a0.bytes.length-a0.pos:=by
  by_cases g:1<=a0.bytes.length-a0.pos
  ·exact g
  ·rw[Zq g]at k;cases k
 rw[s]at O
 match A,s,r with
 |[],s,r=>simp at r;omega
 |n::d,s,r=>
 have b1:d.length=a0.bytes.length-a0.pos-1:=by simp at r;omega
 have Z:a0.bytes.drop (a0.pos+1)=d:=by rw[<-List.drop_drop,s];rfl
 obtain⟨b5,o6,m,rfl,o,_,P⟩:=O.mR (i:=0) oM;obtain rfl:n=m:=by simpa using o
 obtain⟨C,a8⟩:=LH n;refine⟨_,_,_,rfl,b5,o6,rfl,oM,oM,_,P,?_⟩;refine⟨λe=>lu n<=8/\e=y,?_,?_⟩
 ·have h:¬lu n<=8->∀e,e=y->UW b a f a0 (rdNum (n::d)).1 (λt e=>t= ZH (rdNum (n::d)).2.1) (rdNum (n::d)).2.2 (.panicked (TX 5)) e:=by
   rintro p e rfl;rw[LJ p];exact⟨.inr ⟨dC,rfl,a0.pos+1,N⟩,u,v⟩
  refine al.dec (λE=>fS (λc=>⟨rfl,?_,rfl⟩) (λc=>h ?_ _ rfl)) (λE=>fS (λc=>(by cases c)) λ_=>h ?_ _ rfl)
  ·exact C.1 ⟨E,by simpa using c⟩
  ·intro p
   have:=(C.2 p).2;simp only[bne_eq_false_iff_eq]at c;exact this c
  ·intro p
   exact E (C.2 p).1
 rintro _ y ⟨w,rfl⟩;obtain⟨p,a9⟩:=a8 w;rw[p];refine PC.red (MX (m:=lu n) N oM) ?_ ?_
 rotate_left
 ·intro k l B F H
  have hn:¬lu n<=a0.bytes.length-(a0.pos+1):=λg=>k (Zx g);rw[Zq hn,Jn w oM];exact⟨.inr ⟨dC,rfl,B⟩,u.then F,H.trans v⟩
 rintro k _ l R ⟨a2,c2,rfl,z⟩ F H;have b2:lu n<=d.length:=by
  by_cases g:lu n<=a0.bytes.length-(a0.pos+1)
  ·omega
  ·simp only at k;rw[Zq g]at k;cases k
 change Row fP 1 l f a2 (lu n) ((a0.bytes.drop (a0.pos+1)).take (lu n))at z
 rw[Z]at z;have S:e_ l a f ⟨a0.bytes,a0.pos+(lu n+1),a0.vO⟩:=by have:=R;rwa [show a0.pos+(lu n+1)=a0.pos+1+lu n by omega]
 have I:ak (·=a) b l:=u.then F;have J:=H.trans v;have h:((0<lu n/\d.head? =some 0)\/(¬16<n.toNat/\2 ^ 63<=gJ (d.take (lu n)))\/(16<n.toNat/\2 ^ 63<gJ (d.take (lu n))))->∀e,e=l->UW b a f a0 (rdNum (n::d)).1 (λt e=>t= ZH (rdNum (n::d)).2.1) (rdNum (n::d)).2.2 (.panicked (TX 5)) e:=by
  rintro c e rfl;rw[Oz w oM c];exact⟨.inr ⟨dC,rfl,_,R⟩,I,J⟩
 refine⟨_,_,_,rfl,λe=>¬(0<lu n/\d.head? =some 0)/\e=l,?_,?_⟩
 ·refine al.cX (λg=>fS (λ_=>⟨rfl,λP=>oM,rfl⟩) (λc=>by cases c)) (λg=>?_)
  have x:0<lu n:=oM
  obtain⟨K,L,m,rfl,o,_,P⟩:=z.mR (i:=0) x;have T:d.head? =some m:=by
   rw[Xw,Zx x]at o;rw[List.head?_eq_getElem?];exact o
  refine⟨K,L,rfl,oM,oM,_,P,fS (λc=>⟨rfl,λP=>?_,rfl⟩) (λc=>h (.inl ⟨x,?_⟩) _ rfl)⟩
  ·rw[T]at P
   have:=P.2;simp only[Q1]at this;subst this;simp at c
  ·rw[T]
   have:(m.toNat:Int)=0:=by simpa using c
   exact Zj some (UInt8.toNat_inj.1 (by
                         have:m.toNat=0:=oM
                         rw[this];rfl))
 rintro _ l ⟨U,rfl⟩;refine⟨λV W i e=>∃j:Nat,j<=lu n/\i=j/\V=lu n-j/\e=l/\W=(gJ (d.take j):Int),⟨_,0,Qj _,rfl,rfl,rfl,rfl⟩,?_⟩;rintro V W i _ l ⟨j,hj,rfl,rfl,rfl,rfl⟩;refine al.dec (λh1=>?_) (λh1=>?_)
 ·have X:j<lu n:=oM
  obtain⟨K,L,m,rfl,o,_,P⟩:=z.mR (i:=j) X;rw[Xw,Zx X]at o;refine⟨K,L,rfl,oM,oM,_,P,_,oM,j+1,oM,aq oM,rfl,rfl,?_⟩;have b0:=oF d (j:=j) (m:=7) oM;rw[LI (by
            have:(256:Nat) ^ 7=72057594037927936:=dC
            omega) m.toNat_lt,EB o]
 ·obtain rfl:j=lu n:=oM
  have b0:=oF d (j:=lu n) (m:=8) oM;have b3:(256:Nat) ^ 8=18446744073709551616:=dC
  have b4:(2:Nat) ^ 63=9223372036854775808:=dC
  rw[a9];refine al.cX (λg=>?_) (λg=>?_)
  ·have q:¬16<n.toNat:=by intro P;rw[Zx P]at g;cases g
   refine fS (λc=>⟨rfl,?_⟩) (λc=>h (.inr (.inl ⟨q,?_⟩)) _ rfl)
   ·have c:=XV c
    rw[Cw w oM (λP=>P.elim U λP=>P.elim (λP=>oM) λP=>q P.1),Zq q];exact⟨.inl ⟨rfl,S,_,rfl,by rw[wrap_i64 (by unfold aJ;omega)]⟩,I,J⟩
   ·have c:=Xy c
    omega
  ·have q:16<n.toNat:=by
    by_cases P:16<n.toNat
    ·exact P
    ·rw[Zq P]at g;exact Zz rfl g
   refine fS (λc=>⟨rfl,?_⟩) (λc=>h (.inr (.inr ⟨q,?_⟩)) _ rfl)
   ·have c:=XV c
    rw[Cw w oM (λP=>P.elim U λP=>P.elim (λP=>P.1 q) λP=>oM),Zx q];refine⟨.inl ⟨rfl,S,_,rfl,?_⟩,I,J⟩;have e1:ZG .i64 (ZG .u64 (0-(gJ (d.take (lu n)):Int)))= -(gJ (d.take (lu n)):Int):=by
     unfold ZG;simp[IntKind.signed,IntKind.bits];omega
    rw[e1]
   ·have c:=Xy c
    omega
end
section
open Go.ar
def vi:fL:=⟨[],[],[],[],[(0,⟨[0,0,2,4,8,0,0,64,128,256,512,1056,2048,4112,8192,32767,65535,98303],[262143,262143,262141,262139,262135,262143,262143,262079,262015,261887,261631,261087,260095,258031,253951,262142,229375,180223],[0,0,0,0,1,0,0,0,0,1,0,0,0,0,2,0,0,2]⟩)]⟩
variable{t:ZT}{e:Int}{d:YQ}{b:World}
def vj(z:(∀P,aV b P->(∃f g,d=some ⟨f,g,none⟩/\(∃(h:YQ) (A:Nat) (a:Nat),P.cell? ⟨f,g,none⟩=some (.slice h A a)/\
   (∃i j,d=some ⟨i,j,none⟩/\(∃(B:YQ) (n:Nat) (C:Nat),P.cell? ⟨i,j,none⟩=some (.slice B n C)/\((0:Int)<=(if(if((n:Nat):Int)<e then((n:Nat):Int)else e)>0 then(if((n:Nat):Int)<e then((n:Nat):Int)else e)else 0)/\
   ((if(if((n:Nat):Int)<e then((n:Nat):Int)else e)>0 then(if((n:Nat):Int)<e then((n:Nat):Int)else e)else 0):Int)<=((a:Nat):Int)/\
   PC ZP 207 #[.slice h (Int.toNat (if(if((n:Nat):Int)<e then((n:Nat):Int)else e)>0 then(if((n:Nat):Int)<e then((n:Nat):Int)else e)else 0)) a] P (λE F=>
   ∃(k:YQ) (l:Nat) (m:Nat),E= .slice k l m/\(∃o p,d=some ⟨o,p,none⟩/\PS F ⟨o,p,none⟩ (.slice k l m) λq=>
   (∃r s,d=some ⟨r,s,none⟩/\(∃(H:YQ) (u:Nat) (I:Nat),q.cell? ⟨r,s,none⟩=some (.slice H u I)/\
   (∃v w,d=some ⟨v,w,none⟩/\PS q ⟨v,w+1,none⟩ (ZH ((u:Nat):Int)) λJ=>(∃x y,d=some ⟨x,y,none⟩/\
   PS J ⟨x,y+2,none⟩ (.bool true) λK=>t (.returned (.tuple #[])) K)))))) (λL c=>∀(_:bL) (_:cy),t (.panicked L) c)))))))):
  YX 139 #[.pointer d,ZH e] b t:=
 fO vi mixed Tryz.func139 rfl (Zv kR) kR (Eq.mp kR z)
end
end Go.Proofs.YtjgjkeponbeekaaGreatDoor
namespace Go.ar
open Go
def aF{n P:Type}[BEq n](b:List (n×P))(a:n):Option P:=match b with
 |[]=>none
 |(c,d)::e=>if a==c then some d else aF e a
def aH{n a:Type}[BEq n](e:List (n×a))(P:n)(b:a):List (n×a):=match e with
 |[]=>[(P,b)]
 |(c,f)::d=>if P==c then(P,b)::d else(c,f)::aH d P b
def bY{n P:Type}[BEq n](d:List (n×P))(a:n):List (n×P):=match d with
 |[]=>[]
 |(b,e)::c=>if a==b then c else(b,e)::bY c a
variable{f2:Array MapEntry}{a c:Nat}{h:Program}{J j:Type}{f3:TypeDesc}{C c4 f9 g r:TypeId}{f4:TypeInfo}{c7 w:Value}{p u:ZR}{b k:World}{z:ZU}
def rK[BEq j][LawfulBEq j](d:List (j×J))(P n:j)(f:J):aF (aH d P f) n=if n==P then some f else aF d n:=by
 induction d with
 |nil=>simp[aH,aF]
 |cons g k h=>
  obtain⟨b,l⟩:=g;unfold aH
  by_cases a:P==b
  ·rw[Zx a]
   have e:P=b:=by simpa using a
   subst e;unfold aF;split<;>rfl
  ·rw[Zq a]
   unfold aF
   by_cases c:n==b
   ·rw[Zx c]
    have e:n=b:=by simpa using c
    subst e;have:(n==P)=false:=by
     cases i:n==P
     ·rfl
     ·exfalso;apply a;have:n=P:=by simpa using i
      simp[this]
    rw[this];simp[aF,a]
   ·rw[Zq c];rw[h];simp[aF,c]
def Tidy{n P:Type}(a:List (n×P)):Prop:=(a.map (·.1)).Nodup
def IV[BEq j][LawfulBEq j]{P:List (j×J)}{n:j}{c:J}{a:j}:a∈(aH P n c).map (·.1)↔a=n\/a∈P.map (·.1):=by
 induction P with
 |nil=>simp[aH]
 |cons d g e=>
  obtain⟨b,i⟩:=d;unfold aH
  by_cases h:n==b
  ·rw[Zx h]
   have f:n=b:=by simpa using h
   subst f;simp
  ·rw[Zq h]
   simp only[QY,Q2,e];constructor
   ·rintro(h|h|h)<;>simp[h]
   ·rintro(h|h|h)<;>simp[h]
def Tidy.aH{n e:Type}[BEq n][LawfulBEq n]{b:List (n×e)}(P:Tidy b)(c:n)(g:e):Tidy (aH b c g):=by
 unfold Tidy at*
 induction b with
 |nil=>simp[ar.aH]
 |cons h k i=>
  obtain⟨f,l⟩:=h;simp only[QY,List.nodup_cons]at P;unfold ar.aH
  by_cases a:c==f
  ·rw[Zx a]
   have j:c=f:=by simpa using a
   subst j;simpa using P
  ·rw[Zq a]
   simp only[QY,List.nodup_cons];refine⟨λd=>?_,i P.2⟩;rcases IV.1 d with rfl|d
   ·simp at a
   ·exact P.1 d
def IS[BEq j][LawfulBEq j]{P:List (j×J)}{b a:j}(n:a∈(bY P b).map (·.1)):a∈P.map (·.1):=by
 induction P with
 |nil=>simp[bY]at n
 |cons c e d=>
  obtain⟨f,g⟩:=c;unfold bY at n;split at n
  ·simp only[QY,Q2];exact .inr n
  ·simp only[QY,Q2]at n⊢
   rcases n with n|n
   ·exact .inl n
   ·exact .inr (d n)
def Tidy.bY{n b:Type}[BEq n][LawfulBEq n]{a:List (n×b)}(P:Tidy a)(c:n):Tidy (bY a c):=by
 unfold Tidy at*
 induction a with
 |nil=>simp[ar.bY]
 |cons d g e=>
  obtain⟨h,i⟩:=d;simp only[QY,List.nodup_cons]at P;unfold ar.bY;split
  ·exact P.2
  ·simp only[QY,List.nodup_cons]
   exact⟨λf=>P.1 (IS f),e P.2⟩
def kp[BEq j][LawfulBEq j]{a:List (j×J)}{n:j}:aF a n=none↔n∉a.map (·.1):=by
 induction a with
 |nil=>simp[aF]
 |cons c f d=>
  obtain⟨b,g⟩:=c;unfold aF
  by_cases P:n==b
  ·have e:n=b:=by simpa using P
   rw[Zx P];subst e;simp
  ·rw[Zq P,d]
   have:n≠b:=by rintro rfl;simp at P
   simp[this]
def NR[BEq j][LawfulBEq j]{b:List (j×J)}(g:Tidy b)(P n:j):aF (bY b P) n=if n==P then none else aF b n:=by
 induction b with
 |nil=>simp[bY,aF]
 |cons h l i=>
  obtain⟨c,m⟩:=h;have e:=g;simp only[Tidy,QY,List.nodup_cons]at e;unfold bY
  by_cases d:P==c
  ·rw[Zx d]
   have f:P=c:=by simpa using d
   subst f
   by_cases a:n==P
   ·have:n=P:=by simpa using a
    subst this;simp only[beq_self_eq_true,if_true];exact kp.2 e.1
   ·rw[Zq a]
    simp[aF,a]
  ·rw[Zq d]
   unfold aF
   by_cases a:n==c
   ·have f:n=c:=by simpa using a
    subst f;have:(n==P)=false:=by
     cases k:n==P
     ·rfl
     ·exfalso;apply d;have:n=P:=by simpa using k
      simp[this]
    simp[this]
   ·rw[Zq a,Zq a];exact i e.2
def bW[BEq j][LawfulBEq j]{P:List (j×J)}{a:j}{b:J}(n:aF P a=some b):(a,b)∈P:=by
 induction P with
 |nil=>simp[aF]at n
 |cons c h d=>
  obtain⟨e,i⟩:=c;unfold aF at n;split at n
  ·rename_i f
   have g:a=e:=by simpa using f
   subst g
   cases n
   simp
  ·exact QJ _ (d n)
def fj[BEq j][LawfulBEq j]{n:List (j×J)}{a:j}{b:J}{P:j×J}(h:P∈aH n a b):P=(a,b)\/P∈n:=by
 induction n with
 |nil=>simpa[aH]using h
 |cons c e d=>
  obtain⟨f,g⟩:=c;unfold aH at h;split at h
  ·rcases Q2.1 h with h|h
   ·exact .inl h
   ·exact .inr (QJ _ h)
  ·rcases Q2.1 h with h|h
   ·exact .inr (h▸QV ..)
   ·rcases d h with h|h
    ·exact .inl h
    ·exact .inr (QJ _ h)
def gu[BEq j][LawfulBEq j]{n:List (j×J)}{a:j}{P:j×J}(h:P∈bY n a):P∈n:=by
 induction n with
 |nil=>simp[bY]at h
 |cons b d c=>
  obtain⟨e,f⟩:=b;unfold bY at h;split at h
  ·exact QJ _ h
  ·rcases Q2.1 h with h|h
   ·exact h▸QV ..
   ·exact QJ _ (c h)
def qK[BEq j][LawfulBEq j]{n:List (j×J)}(a:Tidy n){k:j}{v:J}(b:(k,v)∈n):aF n k=some v:=by
 induction n with
 |nil=>cases b
 |cons c g d=>
  obtain⟨e,h⟩:=c;simp only[Tidy,QY,List.nodup_cons]at a;unfold aF;rcases Q2.1 b with P|P
  ·cases P;simp
  ·have:k≠e:=by
    intro f;exact a.1 (Xk.2 ⟨(k,v),P,f⟩)
   rw[Zq (by simpa using this)];exact d a.2 P
def xU[BEq j](n:List (j×J))(P:j)(a:J):(aH n P a).length<=n.length+1:=by
 induction n with
 |nil=>simp[aH]
 |cons b c d=>
  unfold aH;split
  ·simp
  ·simp;omega
def IJ[BEq j](n:List (j×J))(P:j):(bY n P).length<=n.length:=by
 induction n with
 |nil=>simp[bY]
 |cons a b c=>
  unfold bY;split
  ·simp
  ·simp;omega
def fu{n P a:Type}(b:P->a->Prop):List (n×P)->List (n×a)->Prop
 |[],[]=>True
 |(c,d)::e,(f,g)::h=>c=f/\b d g/\fu b e h
 |_,_=>False
def fu.keys{a b c:Type}{e:b->c->Prop}:∀{n:List (a×b)} {P:List (a×c)},fu e n P->n.map (·.1)=P.map (·.1)
 |[],[],_=>rfl
 |(f,g)::n,(h,i)::P,d=>by simp[d.1,fu.keys d.2.2]
def fu.mono{d e f:Type}{g h:e->f->Prop}:∀{n:List (d×e)} {P:List (d×f)},fu g n P->(∀a b,g a b->h a b)->fu h n P
 |[],[],_,_=>trivial
 |(j,a)::n,(k,b)::P,c,i=>⟨c.1,i _ _ c.2.1,fu.mono c.2.2 i⟩
def fu.aF{P e f:Type}[BEq P]{g:e->f->Prop}(n:P):∀{a:List (P×e)} {b:List (P×f)},fu g a b->
  (ar.aF a n=none/\ar.aF b n=none)\/∃c d,ar.aF a n=some c/\ar.aF b n=some d/\g c d
 |[],[],_=>.inl ⟨rfl,rfl⟩
 |(i,c)::a,(m,d)::b,j=>by
  obtain⟨rfl,k,l⟩:=j;unfold ar.aF
  by_cases h:n==i
  ·simp only[h,if_true];exact .inr ⟨c,d,rfl,rfl,k⟩
  ·simp only[h];exact fu.aF n l
def fu.aH{n P a:Type}[BEq n]{R:P->a->Prop}{b:n}{f:P}{g:a}(c:R f g):∀{d:List (n×P)} {e:List (n×a)},fu R d e->fu R (ar.aH d b f) (ar.aH e b g)
 |[],[],_=>⟨rfl,c,trivial⟩
 |(j,m)::d,(o,p)::e,k=>by
  obtain⟨rfl,l,h⟩:=k;unfold ar.aH
  by_cases i:b==j
  ·simp only[i,if_true];exact⟨rfl,c,h⟩
  ·simp only[i];exact⟨rfl,l,fu.aH c h⟩
def fu.bY{n c d:Type}[BEq n]{e:c->d->Prop}{P:n}:∀{a:List (n×c)} {b:List (n×d)},fu e a b->fu e (ar.bY a P) (ar.bY b P)
 |[],[],_=>trivial
 |(h,k)::a,(l,m)::b,i=>by
  obtain⟨rfl,j,f⟩:=i;unfold ar.bY
  by_cases g:P==h
  ·simp only[g,if_true];exact f
  ·simp only[g];exact⟨rfl,j,fu.bY f⟩
def fu.length{n P a:Type}{d:P->a->Prop}{b:List (n×P)}{c:List (n×a)}(e:fu d b c):b.length=c.length:=by
 have:=Zj List.length e.keys;simpa using this
structure bJ {κ:Type} (w:World) (r:Nat) (enc:κ->Value) (l:List (κ×Value)):Prop where
 at':∃es clock,w.heap[r]? =some (.map es clock)/\es.toList.map (λe=>(e.key,e.val))=l.map (λp=>(enc p.1,p.2))/\
  (∀e∈es.toList,e.born<clock)/\(es.toList.map (·.born)).Nodup
 tidy:Tidy l
def bJ.af{S:ZN}{P:j->Value}{d:List (j×Value)}(e:bJ b a P d)(f:ak S b k)(g:¬S a):bJ k a P d:=by
 obtain⟨h,n,i,c⟩:=e.at';exact⟨⟨h,n,f.get i g,c⟩,e.tidy⟩
def bJ.ah{n:j->Value}{P:List (j×Value)}(c:bJ b a n P)(d:ai b k):bJ k a n P:=c.af d id
def bJ.lt{n:j->Value}{d:List (j×Value)}(e:bJ b a n d):a<b.heap.size:=by
 obtain⟨g,P,f,c⟩:=e.at';exact ax f
def bJ.new{n:j->Value}(P:b.heap[a]? =some (.map #[] 0)):bJ b a n ([]:List (j×Value)):=
 ⟨⟨_,_,P,rfl,sM,sM⟩,by simp[Tidy]⟩
def mN{n:Type}[BEq n](b:List (n×Value))(P:n)(a:Nat):Option (Nat×Value):=match b with
 |[]=>none
 |(c,d)::e=>if P==c then some (a,d)else mN e P (a+1)
def Cp{a:Type}[BEq a][LawfulBEq a]{n:a->Value}{g:TypeDesc}(h:∀i j,Instr.sameNow g (n i) (n j)=some (i==j))(b:a):
  ∀(c:List MapEntry) (d:List (a×Value)) (f:Nat),c.map (λe=>(e.key,e.val))=d.map (λk=>(n k.1,k.2))->Instr.findNow g (n b) c f=some (mN d b f)
 |[],[],_,_=>rfl
 |[],_::_,_,P=>by simp at P
 |_::_,[],_,P=>by simp at P
 |e::c,(l,q)::d,f,P=>by
  simp only[QY,List.cons.injEq,Prod.mk.injEq]at P;obtain⟨⟨m,o⟩,p⟩:=P;unfold Instr.findNow mN;rw[m,h]
  cases r:b==l
  ·simp only[Bool.false_eq_true,if_false]
   exact Cp h b c d (f+1) p
  ·simp[o]
def Hd[BEq j]{n:j->Value}(a:∀b c,Instr.sameNow f3 (n b) (n c)=none)(d:j)(P:MapEntry)(e:List MapEntry)(f:j)(g:P.key=n f)(h:Nat):Instr.findNow f3 (n d) (P::e) h=none:=by
 unfold Instr.findNow;rw[g,a]
def te{a:Type}[BEq a]{h:Program}{i:TypeId}{n:a->Value}{b:World}(j:∀k l,(Op.equal i (n k) (n l)).run h b= .ok (k==l) b)(c:a):
  ∀(d:List MapEntry) (f:List (a×Value)) (g:Nat),d.map (λe=>(e.key,e.val))=f.map (λm=>(n m.1,m.2))->(Instr.findAsking i (n c) d g).run h b= .ok (mN f c g) b
 |[],[],_,_=>rfl
 |[],_::_,_,P=>by simp at P
 |_::_,[],_,P=>by simp at P
 |e::d,(o,s)::f,g,P=>by
  simp only[QY,List.cons.injEq,Prod.mk.injEq]at P;obtain⟨⟨p,q⟩,r⟩:=P;unfold Instr.findAsking mN;rw[p];simp only[Sem.run_bind,j,Result.andThen_ok]
  cases t:c==o
  ·simpa using te j c d f (g+1) r
  ·simp[q]
structure iK {κ:Type} [BEq κ] (P:Program) (kt:TypeId) (enc:κ->Value):Prop where
 find:∀(k:κ) (es:List MapEntry) (l:List (κ×Value)) (w:World),es.map (λe=>(e.key,e.val))=l.map (λp=>(enc p.1,p.2))->(Instr.findKey kt (enc k) es).run P w= .ok (mN l k 0) w
 check:∀k w e,(Instr.checkKey e 10000 kt (enc k)).run P w= .ok () w
 same:∀n a,Instr.sameBits (n+1) (enc a) (enc a)=true
 inj:∀{a b},enc a=enc b->a=b
def iK.flat[BEq j][LawfulBEq j]{n:j->Value}(l:h.underlying g=some f3)(f:∀P a,Instr.sameNow f3 (n P) (n a)=some (P==a))(m:∀i b c d,(Instr.checkKey d (i+1) g (n b)).run h c= .ok () c)(e:∀i P,Instr.sameBits (i+1) (n P) (n P)=true):iK h g n:=
 ⟨λb o p c q=>by simp[Instr.findKey,run_underlying l,Cp f b o p 0 q],λb c d=>m 9999 b c d,e,λ{P a} d=>by
  have k:=f P a;rw[d,f a a]at k;simpa using k.symm⟩
def iK.struct[BEq j]{n:j->Value}(o:h.underlying g=some f3)(q:∀P a,Instr.sameNow f3 (n P) (n a)=none)(r:∀P a b,(Op.equal g (n P) (n a)).run h b= .ok (P==a) b)(s:∀e b f,(Instr.checkKey f 10000 g (n e)).run h b= .ok () b)(c:∀t P,Instr.sameBits (t+1) (n P) (n P)=true)(l:∀{P a},n P=n a->P=a):iK h g n:=by
 refine⟨λe i d b k=>?_,s,c,l⟩
 cases i with
 |nil=>
  cases d with
  |nil=>simp[Instr.findKey,run_underlying o,Instr.findNow,mN]
  |cons m d=>simp at k
 |cons f i=>
  cases d with
  |nil=>simp at k
  |cons m d=>
   have p:=k;simp only[QY,List.cons.injEq,Prod.mk.injEq]at p;simp only[Instr.findKey,Sem.run_bind,run_underlying o,Result.andThen_ok,Hd q e f i m.1 p.1.1];exact te (λP a=>r P a b) e (f::i) (m::d) 0 k
def xK[BEq j][LawfulBEq j](P:List (j×Value))(a:j):∀n,(mN P a n).map (·.2)=aF P a:=by
 induction P with
 |nil=>intro n;rfl
 |cons b d c=>
  intro n;obtain⟨e,f⟩:=b;unfold mN aF;split
  ·rfl
  ·exact c (n+1)
def jB[BEq j][LawfulBEq j]{n:j->Value}(f:iK h g n)(P:j)(a:List MapEntry)(b:List (j×Value))(i:a.map (λd=>(d.key,d.val))=b.map (λe=>(n e.1,e.2)))(c:World):
  (Instr.findKey g (n P) a).run h c= .ok (mN b P 0) c:=by
 exact f.find P a b c i
def dj(n:b.heap[a]? =some (.map f2 c)):(getObj a).run h b= .ok (.map f2 c) b:=by
 simp[getObj,Sem.run,n]
def du[BEq j][LawfulBEq j]{n:j->Value}(c:iK h g n)(a:Bool)(b:j)(P:World):(Instr.checkKey a 10000 g (n b)).run h P= .ok () P:=by
 exact c.check b P a
def DP(P:h.info? g=some f4)(a:f4.zero=some w)(n:World):(zeroValue g).run h n= .ok w n:=by
 simp[zeroValue,typeInfo,P,a]
structure lY (P:Program) (t kt vt:TypeId) (z:Value):Prop where
 under:P.underlying t=some (.map kt vt)
 zero:(P.info? vt).bind (·.zero)=some z
def lY.MT(b:lY h g r C w)(P:World):(zeroValue C).run h P= .ok w P:=by
 have n:=b.zero
 cases a:h.info? C with
 |none=>rw[a]at n;cases n
 |some c=>rw[a]at n;exact DP a n P
def dX[BEq j][LawfulBEq j]{n:j->Value}(i:lY h g r C w)(k:iK h r n){P:List (j×Value)}(m:bJ b a n P)(c:j)(e:Bool):
  (Instr.lookup g (.map (some a)) (n c) e).run h b= .ok (if e then .tuple #[(aF P c).getD w,.bool (aF P c).isSome]else(aF P c).getD w) b:=by
 obtain⟨o,f,p,q,_⟩:=m.at';have s:=jB k c o.toList P q b;have d:=xK P c 0;simp only[Instr.lookup,Sem.run_bind,run_underlying i.under,Result.andThen_ok,dj p,du k,s,Sem.run_pure]
 cases l:mN P c 0 with
 |none=>rw[l]at d;simp only[Option.map_none]at d;rw[<-d];cases e<;>simp[i.MT]
 |some t=>rw[l]at d;simp only[Option.map_some]at d;rw[<-d];cases e<;>simp
def Ag[BEq j][LawfulBEq j]{n:j->Value}(d:lY h g r C w)(e:iK h r n){c:List (j×Value)}(f:bJ b a n c){P:j}(i:p ((aF c P).getD w) b):aG h (Instr.lookup g (.map (some a)) (n P) false) b p u:=aG.mk (dX d e f P false) i
def je[BEq j][LawfulBEq j]{enc:j->Value}(P:lY h g r C w)(c:iK h r enc){n:List (j×Value)}(d:bJ b a enc n){k:j}(e:p (.tuple #[(aF n k).getD w,.bool (aF n k).isSome]) b):aG h (Instr.lookup g (.map (some a)) (enc k) true) b p u:=aG.mk (dX P c d k true) e
def ak.setObj(n:World)(P:Nat)(a:Obj):ak (·=P) n {n with heap:=n.heap.setIfInBounds P a}:=
 ⟨rfl,rfl,rfl,sM,λc d b=>by simp[Array.getElem?_setIfInBounds,Ne.symm b]⟩
def nP[BEq j][LawfulBEq j]{a:List (j×Value)}{b:j}:∀{n P:Nat} {e:Value},mN a b n=some (P,e)->n<=P/\P-n<a.length/\a[P-n]? =some (b,e)/\∀g,aH a b g=a.set (P-n) (b,g)/\bY a b=a.eraseIdx (P-n):=by
 induction a with
 |nil=>intro n P e c;simp[mN]at c
 |cons l v m=>
  intro n P e c;obtain⟨o,g⟩:=l;unfold mN at c;split at c
  ·rename_i f
   cases c
   have p:b=o:=by simpa using f
   subst p;simp[aH,bY]
  ·rename_i f
   obtain⟨w,h,i,k⟩:=m c;obtain⟨d,rfl⟩:∃d,P=n+1+d:=⟨P-(n+1),oM⟩
   have q:n+1+d-n=d+1:=oM
   have r:n+1+d-(n+1)=d:=oM
   rw[r]at h i k;rw[q];refine⟨oM,by simpa using h,by simpa using i,λs=>?_⟩;obtain⟨t,u⟩:=k s;unfold aH bY;rw[Zq f,Zq f];simp[t,u]
def rO[BEq j][LawfulBEq j]{n:List (j×Value)}{P:j}:∀{b:Nat},mN n P b=none->(∀c,aH n P c=n++[(P,c)])/\bY n P=n:=by
 induction n with
 |nil=>intro b _;simp[aH,bY]
 |cons e i f=>
  intro b a;obtain⟨k,c⟩:=e;unfold mN at a;split at a
  ·cases a
  ·rename_i d
   obtain⟨g,h⟩:=f a;refine⟨λl=>?_,?_⟩
   ·unfold aH;rw[Zq d,g];rfl
   ·unfold bY;rw[Zq d,h]
def map_eraseIdx{b c:Type}(a:b->c):∀(n:List b) (P:Nat),(n.eraseIdx P).map a=(n.map a).eraseIdx P
 |[],_=>by simp
 |x::n,0=>rfl
 |x::n,P+1=>by simp[map_eraseIdx a n P]
def cE(n:World)(P:Nat)(a:Obj)(b:P<n.heap.size):({n with heap:=n.heap.setIfInBounds P a}:World).heap[P]? =some a:=by simp[b]
def d_(P:b.heap[a]? =some (.map f2 c))(n:Obj):(setObj a n).run h b= .ok () {b with heap:=b.heap.setIfInBounds a n}:=by
 simp[setObj,Sem.run,P]
def de[BEq j][LawfulBEq j]{enc:j->Value}(F:lY h g r C w)(s:iK h r enc){m:List (j×Value)}(x:bJ b a enc m){k:j}(H:∀t,bJ t a enc (aH m k c7)->ak (·=a) b t->t.heap.size=b.heap.size->z t):jw h (Instr.mapUpdate g (.map (some a)) (enc k) c7) b z p:=by
 obtain⟨c,n,o,q,y,I⟩:=x.at';have u:=jB s k c.toList m q b;have N:c.toList.length=m.length:=by have:=Zj List.length q;simpa using this
 have J:=ax o
 cases v:mN m k 0 with
 |none=>
  rw[v]at u;refine jw.mk (w':={b with heap:=b.heap.setIfInBounds a (.map (c.push {key:=enc k,val:=c7,born:=n}) (n+1))}) ?_ (H _ ⟨⟨_,_,cE b a _ J,?_,?_,?_⟩,x.tidy.aH k c7⟩ (ak.setObj b a _) sM)
  ·simp[Instr.mapUpdate,run_underlying F.under,dj o,du s,u,d_ o]
  ·rw[(rO v).1 c7];simp[q]
  ·intro e d
   simp only[Array.toList_push,Q6,List.mem_singleton]at d;rcases d with d|rfl
   ·have:=y e d;omega
   ·show n<n+1;omega
  ·simp only[Array.toList_push,Q3,QY,List.map_nil]
   rw[List.nodup_append];refine⟨I,sM,?_⟩;intro V O W A X;simp only[List.mem_singleton]at A;obtain⟨e,d,rfl⟩:=Xk.1 O;have:=y e d;omega
 |some Q=>
  obtain⟨f,Y⟩:=Q;rw[v]at u;obtain⟨_,K,L,M⟩:=nP v;rw[Nat.sub_zero]at K L M;have B:f<c.size:=by
                 have:c.size=m.length:=by simpa using N
                 omega
  have R:c[f].key=enc k:=by
   have:=Zj (·[f]?) q;simp only[Q9,L,Option.map_some]at this;simp[B]at this;exact this.1
  refine jw.mk (w':={b with heap:=b.heap.setIfInBounds a (.map (c.modify f λe=>{e with key:=enc k,val:=c7}) n)}) ?_ (H _ ⟨⟨_,_,cE b a _ J,?_,?_,?_⟩,x.tidy.aH k c7⟩ (ak.setObj b a _) sM)
  ·have S:(Instr.keyThatStays (enc k) (enc k)).run h b= .ok (enc k) b:=by simp[Instr.keyThatStays,s.same]
   simp[Instr.mapUpdate,run_underlying F.under,dj o,du s,u,B,R,S,d_ o]
  ·rw[(M c7).1]
   apply X3;intro i;have P:=Zj (·[i]?) q;simp only[Q9]at P;simp only[Array.toList_modify,Q9,Xj,List.getElem?_modify]
   by_cases l:f=i
   ·subst l
    simp[B,K]
   ·simp only[l,if_false,Option.map_map]at P⊢
    simpa using P
  ·intro e d
   rw[Array.toList_modify]at d;obtain⟨i,P⟩:=List.getElem?_of_mem d;rw[List.getElem?_modify]at P
   cases E:c.toList[i]? with
   |none=>rw[E]at P;simp at P
   |some T=>
    rw[E]at P;have U:=QZ E;have:=y T U
    by_cases l:f=i
    ·simp[l]at P;subst P;exact this
    ·simp[l]at P;subst P;exact this
  ·have:(c.modify f λe=>{e with key:=enc k,val:=c7}).toList.map (·.born)=c.toList.map (·.born):=by
    apply X3;intro i;simp only[Array.toList_modify,Q9,List.getElem?_modify,Option.map_map]
    by_cases l:f=i<;>simp[l]<;>rfl
   rw[this];exact I
def Lb[BEq j][LawfulBEq j]{c:j->Value}(v:lY h g r C w)(q:iK h r c){e:List (j×Value)}(s:bJ b a c e){f:j}(x:∀k,bJ k a c (bY e f)->ak (·=a) b k->k.heap.size=b.heap.size->p (.tuple #[]) k):aG h (Builtin.delete_ #[g,c4] f9 #[.map (some a),c f]) b p u:=by
 obtain⟨n,P,i,l,y,z⟩:=s.at';have m:=jB q f n.toList e l b;have F:n.toList.length=e.length:=by have:=Zj List.length l;simpa using this
 have A:=ax i
 cases o:mN e f 0 with
 |none=>
  rw[o]at m;refine aG.mk (w':={b with heap:=b.heap.setIfInBounds a (.map n P)}) ?_ (x _ ⟨⟨_,_,cE b a _ A,?_,y,z⟩,s.tidy.bY f⟩ (ak.setObj b a _) sM)
  ·simp[Builtin.delete_,run_underlying v.under,dj i,du q,m,d_ i]
  ·rw[(rO o).2];exact l
 |some H=>
  obtain⟨d,I⟩:=H;rw[o]at m;obtain⟨_,J,K,B⟩:=nP o;rw[Nat.sub_zero]at J K B;have t:d<n.size:=by
                 have:n.size=e.length:=by simpa using F
                 omega
  refine aG.mk (w':={b with heap:=b.heap.setIfInBounds a (.map (n.eraseIdxIfInBounds d) P)}) ?_ (x _ ⟨⟨_,_,cE b a _ A,?_,?_,?_⟩,s.tidy.bY f⟩ (ak.setObj b a _) sM)
  ·simp[Builtin.delete_,run_underlying v.under,dj i,du q,m,d_ i]
  ·rw[(B I).2]
   have:(n.eraseIdxIfInBounds d).toList=n.toList.eraseIdx d:=by simp[Array.eraseIdxIfInBounds,t]
   rw[this,map_eraseIdx,l,map_eraseIdx]
  ·intro L E
   have:(n.eraseIdxIfInBounds d).toList=n.toList.eraseIdx d:=by simp[Array.eraseIdxIfInBounds,t]
   rw[this]at E;exact y L (List.mem_of_mem_eraseIdx E)
  ·have:(n.eraseIdxIfInBounds d).toList=n.toList.eraseIdx d:=by simp[Array.eraseIdxIfInBounds,t]
   rw[this,map_eraseIdx];exact z.sublist (List.eraseIdx_sublist _ _)
def Jh[BEq j][LawfulBEq j]{P:j->Value}(e:lY h g r C w){f:List (j×Value)}(i:bJ b a P f)(k:∀c,bJ c a P ([]:List (j×Value))->ak (·=a) b c->c.heap.size=b.heap.size->p (.tuple #[]) c):aG h (Builtin.clear_ #[g] c4 #[.map (some a)]) b p u:=by
 obtain⟨m,n,d,o,q,s⟩:=i.at';have l:=ax d;refine aG.mk (w':={b with heap:=b.heap.setIfInBounds a (.map #[] n)}) ?_ (k _ ⟨⟨_,_,cE b a _ l,rfl,sM,sM⟩,by simp[Tidy]⟩ (ak.setObj b a _) sM);simp[Builtin.clear_,run_underlying e.under,dj d,d_ d]
def Vt(n:h.underlying g=some (.int .i64)):iK h g (Value.int .i64):=
 iK.flat n (λP b=>by simp[Instr.sameNow]) (λa c d e=>by simp[Instr.checkKey,run_underlying n]) λa P=>by simp[Instr.sameBits]

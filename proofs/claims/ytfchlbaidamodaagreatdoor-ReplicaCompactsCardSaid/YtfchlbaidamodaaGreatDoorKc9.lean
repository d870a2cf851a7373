import Derived.Test.YtfchlbaidamodaaGreatDoorYcCode
import Derived.Maps.AppendAt
import Derived.Below
import Derived.Laws.Strings
import Derived.Laws.OwnMore
import Derived.Laws.MakeOwn
import Derived.Lib.BitFns
import Derived.Lib.ItoaNum
set_option linter.all false
set_option maxRecDepth 100000
namespace Go.Proofs.YtfchlbaidamodaaGreatDoor
open Go.ax
def Cd:fS:=⟨[(2,[(7,QH 0)]),(5,[(8,QH 0)]),(10,[(9,QH 0)])],[],[],[],[]⟩
variable{c9 x:ByteArray}{t:Ending->World->Prop}{C V b1 b6 b7 b8 e m:Int}{a c i n:Nat}{c0 d g7 p:Option Addr}{b:World}
def Ce(B:PA b (.cells #[.slice c0 a c,.slice g7 i n] 25) λD=>(∃o:Nat->Int->World->Prop,(∃h,o h (-1) D)/\∀(h:Nat) (f:Int) (Z:Nat->Value) (j:World),o h f j->(rS j (ab_ b 0) λa4 C a5=>al (decide (f<=(C:Int))) ((∃q:Nat->Int->World->Prop,(∃k,q k 0 j)/\∀(k:Nat) (e:Int) (a6:Nat->Value) (r:World),q k e r->al (decide (e<4)) (PC_ 31 #[.pointer d,.ii f,.ii e] r (kX_ 46 λE G=>PC_ 31 #[.pointer p,.ii f,.ii e] G (kX_ 46 λF H=>PC_ 47 #[E,F] H (kB λI u=>al (!I) (rt t ((.bool false)) u) (PC_ 48 #[.pointer d,.ii f,.ii e,.ii e] u (kX_ 46 λJ K=>PC_ 48 #[.pointer p,.ii f,.ii e,.ii e] K (kX_ 46 λL M=>PC_ 47 #[J,L] M (kB λN v=>al (!N) (rt t ((.bool false)) v) ((∃w,w<k/\q w (IntKind.wrap .i64 (e+1)) v))) (pE t)) (pE t)) (pE t))) (pE t)) (pE t)) (pE t)) ((∃x,x<h/\o x (IntKind.wrap .i64 (f+1)) r)))) ((∃s:Nat->Int->World->Prop,(∃l,s l (-1) j)/\∀(l:Nat) (g:Int) (a7:Nat->Value) (m:World),s l g m->(rS m (ab_ b (0+1)) λa8 O a9=>al (decide (g<=(O:Int))) (PC_ 49 #[.pointer d,.ii g,.ii (-9223372036854775808)] m (kX_ 46 λP Q=>PC_ 49 #[.pointer p,.ii g,.ii (-9223372036854775808)] Q (kX_ 46 λR S=>PC_ 47 #[P,R] S (kB λT y=>al (!T) (rt t ((.bool false)) y) (PC_ 49 #[.pointer d,.ii g,.ii 2] y (kX_ 46 λU V=>PC_ 49 #[.pointer p,.ii g,.ii 2] V (kX_ 46 λW X=>PC_ 47 #[U,W] X (kB λY z=>al (!Y) (rt t ((.bool false)) z) ((∃A,A<l/\s A (IntKind.wrap .i64 (g+1)) z))) (pE t)) (pE t)) (pE t))) (pE t)) (pE t)) (pE t)) (rt t ((.bool true)) m))))))):Calls ZQ 21 #[.pointer d,.pointer p,.agg #[.slice c0 a c,.slice g7 i n]] b t:=DC Cd Tryz.func21 rfl B
def B_:fS:=⟨[],[],[],[],[]⟩
def Ca{r:Int}{j:Int}(N:PA b (.cells #[QH e,QH m,QH C,.slice d a c,QH V,QH b1,QH b6,QH b7,QH b8,QH r] 59) λf=>
   (∃(s:Int),f.cell? ⟨b.heap.size,0,none⟩=some (QH s)/\al (decide ((s:Int)<0)) (t (.returned (QH 1)) f) ((∃(u:Int),f.cell? ⟨b.heap.size,0,none⟩=some (QH u)/\
   al (decide ((u:Int)>=j)) (t (.returned (QH 1)) f) ((∃(k:Int),f.cell? ⟨b.heap.size,0+1,none⟩=some (QH k)/\(∃(l:Int),f.cell? ⟨b.heap.size,0+2,none⟩=some (QH l)/\
   al (decide (((if l<k then l else k):Int)<1)) (t (.returned (QH 1)) f) ((∃(n:Int),f.cell? ⟨b.heap.size,0+5,none⟩=some (QH n)/\
   (∃(o:Int),f.cell? ⟨b.heap.size,0+9,none⟩=some (QH o)/\al (decide (((if o<n then o else n):Int)<0)) (t (.returned (QH 1)) f) ((∃(O:Option Addr) (v:Nat) (P:Nat),f.cell? ⟨b.heap.size,0+3,none⟩=some (.slice O v P)/\
   al ((((v:Nat):Int):Int) !=j) (t (.returned (QH 1)) f) ((∃(w:Option Addr) (x:Nat) (y:Nat),f.cell? ⟨b.heap.size,0+3,none⟩=some (.slice w x y)/\
   PC ZQ 200 #[.slice w x y,.func (.func 199) #[] #[]] f (λQ h=>∃(z:Bool),Q= .bool z/\al z (t (.returned (QH 1)) h) ((∃(A:Option Addr) (B:Nat) (R:Nat),h.cell? ⟨b.heap.size,0+3,none⟩=some (.slice A B R)/\
   (∃(i:Int),h.cell? ⟨b.heap.size,0,none⟩=some (QH i)/\(∃E F,A=some ⟨E,F,none⟩/\(0:Int)<=i/\i<((B:Nat):Int)/\
   (∃(H:Int),h.cell? ⟨E,F+Int.toNat i,none⟩=some (QH H)/\(∃(I:Int),h.cell? ⟨b.heap.size,0+1,none⟩=some (QH I)/\
   (∀g,bE h g->al ((H:Int) !=(IntKind.wrap .i64 (I-1))) (t (.returned (QH 9)) g) ((∃(J:Int),g.cell? ⟨b.heap.size,0+7,none⟩=some (QH J)/\
   al (decide ((J:Int)<1)) (t (.returned (QH 2)) g) ((∃(K:Int),g.cell? ⟨b.heap.size,0+7,none⟩=some (QH K)/\al (decide ((K:Int)>5)) (t (.returned (QH 2)) g) ((∃(p:Int),g.cell? ⟨b.heap.size,0+4,none⟩=some (QH p)/\
   (∃(q:Int),g.cell? ⟨b.heap.size,0+6,none⟩=some (QH q)/\al (decide (((if q<p then q else p):Int)<0)) (t (.returned (QH 8)) g) ((∃(L:Int),g.cell? ⟨b.heap.size,0+4,none⟩=some (QH L)/\
   al (decide ((L:Int)>=8)) (t (.returned (QH 8)) g) ((∃(M:Int),g.cell? ⟨b.heap.size,0+6,none⟩=some (QH M)/\al (decide ((M:Int)>=8)) (t (.returned (QH 8)) g) (t (.returned (QH 0)) g)))))))))))))))))))) (λS b=>
   t (.panicked S) b))))))))))))))):
  Calls ZQ 140 #[.agg #[QH e,QH m,QH C,.slice d a c,QH V,QH b1,QH b6,QH b7,QH b8,QH r],QH j] b t:=
 gl B_ mixed Tryz.func140 rfl (Nat.le_of_ble_eq_true kR) kR (Eq.mp kR N)
def iB:fS:=⟨[],[],[],[],[]⟩
def iC(c:PC_ 328 #[.string x,.string c9] b (kB λd a=>al (!d) (rt t ((.tuple #[.string x,.bool false])) a) (((0:Int)<=((ByteArray.size c9:Nat):Int)/\(((ByteArray.size c9:Nat):Int):Int)<=((ByteArray.size x:Nat):Int)/\rt t ((.tuple #[.string (ByteArray.extract x (Int.toNat ((ByteArray.size c9:Nat):Int)) (ByteArray.size x)),.bool true])) a))) (pE t)):Calls ZQ 297 #[.string x,.string c9] b t:=DC iB Tryz.func297 rfl c
def iD:fS:=⟨[],[],[],[],[]⟩
def iE(a:al (decide ((((ByteArray.size x:Nat):Int):Int)>=((ByteArray.size c9:Nat):Int))) (((0:Int)<=((ByteArray.size c9:Nat):Int)/\(((ByteArray.size c9:Nat):Int):Int)<=((ByteArray.size x:Nat):Int)/\rt t ((.bool ((ByteArray.toList (ByteArray.extract x 0 (Int.toNat ((ByteArray.size c9:Nat):Int))))==(ByteArray.toList c9)))) b)) (rt t ((.bool false)) b)):Calls ZQ 328 #[.string x,.string c9] b t:=DC iD Tryz.func328 rfl a
def rb:fS:=⟨[],[],[],[],[]⟩
def rf(d:PC_ 297 #[.string x,.string c9] b (λe f=>∃a c,e= .tuple #[.string a,.bool c]/\rt t ((.tuple #[.string a,.bool c])) f) (pE t)):Calls ZQ 248 #[.string x,.string c9] b t:=DC rb Tryz.func248 rfl d
def Cf:fS:=⟨[],[],[],[],[(11,⟨[0,1,0,4,10,18,48,64,192,320,576,1088],[4095,4094,4095,4091,4087,4077,4063,4031,3903,3775,3519,3007],[0,2,0,0,2,0,0,0,0,1,0,0]⟩)]⟩
def Cg(p:al (decide ((a:Int)<4)) (rt t ((.tuple #[.ii 0,.ii 4])) b) (((0:Int)<=1/\(1:Int)<=4/\(4:Int)<=(c:Int)/\PC_ 299 #[.slice (cM d (Int.toNat 1) c 1) (Int.toNat 4-Int.toNat 1) (c-Int.toNat 1)] b (λq f=>∃e,q= .int .u32 e/\(ix_ d 0 a λr s=>(∃h,f.cell? (ad r (s+Int.toNat 0))=some (.int .u8 h)/\al (h==0) (rt t ((.tuple #[.ii 0,.ii 2])) f) (al (decide (((IntKind.wrap .i64 e):Int)>65536)) (rt t ((.tuple #[.ii 0,.ii 5])) f) (al (decide ((a:Int)<(IntKind.wrap .i64 ((IntKind.wrap .i64 (4+(IntKind.wrap .i64 e)))+5)))) (rt t ((.tuple #[.ii 0,.ii 4])) f) (((0:Int)<=(IntKind.wrap .i64 (4+(IntKind.wrap .i64 e)))/\((IntKind.wrap .i64 (4+(IntKind.wrap .i64 e))):Int)<=(c:Int)/\((0:Int)<=(IntKind.wrap .i64 (4+(IntKind.wrap .i64 e)))/\((IntKind.wrap .i64 (4+(IntKind.wrap .i64 e))):Int)<=(IntKind.wrap .i64 ((IntKind.wrap .i64 (4+(IntKind.wrap .i64 e)))+5))/\((IntKind.wrap .i64 ((IntKind.wrap .i64 (4+(IntKind.wrap .i64 e)))+5)):Int)<=(c:Int)/\(∀i,bE f i->(∀j,bE i j->((0:Int)<=4/\(4:Int)<=(((c-Int.toNat (IntKind.wrap .i64 (4+(IntKind.wrap .i64 e)))):Nat):Int)/\PC_ 284 #[.slice d (Int.toNat (IntKind.wrap .i64 (4+(IntKind.wrap .i64 e)))) c] j (λu v=>∃k,u= .int .u32 k/\PC_ 299 #[.slice (cM d (Int.toNat (IntKind.wrap .i64 (4+(IntKind.wrap .i64 e)))) c 1) (Int.toNat 4) (c-Int.toNat (IntKind.wrap .i64 (4+(IntKind.wrap .i64 e))))] v (λw g=>∃l,w= .int .u32 l/\al (k !=l) (rt t ((.tuple #[.ii 0,.ii 6])) g) ((∃m n,(cM d (Int.toNat (IntKind.wrap .i64 (4+(IntKind.wrap .i64 e)))) c 1)=some ⟨m,n,none⟩/\(0:Int)<=4/\4<((Int.toNat (IntKind.wrap .i64 ((IntKind.wrap .i64 (4+(IntKind.wrap .i64 e)))+5))-Int.toNat (IntKind.wrap .i64 (4+(IntKind.wrap .i64 e))):Nat):Int)/\(∃o,g.cell? (ad m (n+Int.toNat 4))=some (.int .u8 o)/\al (o !=10) (rt t ((.tuple #[.ii 0,.ii 6])) g) (rt t ((.tuple #[.ii (IntKind.wrap .i64 e),.ii 0])) g))))) (pZ t)) (pZ t)))))))))))) (pE t)))):Calls ZQ 251 #[.slice d a c] b t:=DC Cf Tryz.func251 rfl p
def Hv:fS:=⟨[],[],[4],[],[(4,⟨[0,1,2,4,0,0,32,80,128,264,0,1024,2048,1023,16383,32767],[65535,65534,65533,65531,65535,65535,65503,65455,65407,65271,65535,64511,63487,65023,61439,65535],[0,0,1,0,0,0,0,0,2,0,0,0,0,2,0,0]⟩)]⟩
def Hw(x:PA b (.cells #[.ii 0,.slice none 0 0] 292) λy=>PC_ 251 #[.slice d a c] y (λz l=>∃e h,z= .tuple #[.ii e,.ii h]/\al (h !=0) (PS l (ab_ b 0) (.ii 0) λA=>PS A (ab_ b (0+1)) (.slice none 0 0) λi=>(∃m n o p,i.cell? (ab_ b 0)=some (.ii m)/\i.cell? (ab_ b (0+1))=some (.slice n o p)/\rt t ((.tuple #[.agg #[.ii m,.slice n o p],.ii 0,.ii h])) i)) ((∀f,bE l f->∃j:Nat->Prop,(ix_ d 0 a λq B=>(¬j q/\(∃r,f.cell? (ad q (B+Int.toNat 0))=some (.int .u8 r)/\((0:Int)<=4/\(4:Int)<=(IntKind.wrap .i64 (4+e))/\((IntKind.wrap .i64 (4+e)):Int)<=(c:Int)/\PC_ 174 #[.slice (cM d (Int.toNat 4) c 1) (Int.toNat (IntKind.wrap .i64 (4+e))-Int.toNat 4) (c-Int.toNat 4)] f (kS_ λC E D k=>(aj j f k/\PS k (ab_ b 0) (.ii (IntKind.wrap .i64 r)) λF=>PS F (ab_ b (0+1)) (.slice C E D) λg=>(aj j k g/\(∃s u v w,g.cell? (ab_ b 0)=some (.ii s)/\g.cell? (ab_ b (0+1))=some (.slice u v w)/\rt t ((.tuple #[.agg #[.ii s,.slice u v w],.ii (IntKind.wrap .i64 ((IntKind.wrap .i64 (4+e))+5)),.ii 0])) g)))) (pZ t)))))))) (pE t)):Calls ZQ 182 #[.slice d a c] b t:=DC Hv Tryz.func182 rfl x
def Hx:fS:=⟨[],[],[],[],[]⟩
def Hy(n:PA b (.cells #[.ii e,.slice d a c] 292) λf=>(rS f (ab_ b (0+1)) λE h D=>(rI f (ab_ b 0) λo=>al (decide (o<1)) (rt t ((.tuple #[.slice none 0 0,.ii 2])) f) ((rI f (ab_ b 0) λp=>al (decide (p>255)) (rt t ((.tuple #[.slice none 0 0,.ii 2])) f) (al (decide ((h:Int)>65536)) (rt t ((.tuple #[.slice none 0 0,.ii 5])) f) ((rI f (ab_ b 0) λq=>PA f (.cells #[.int .u8 (IntKind.wrap .u8 q),.int .u8 (IntKind.wrap .u8 (iA .i64 (h:Int) 16)),.int .u8 (IntKind.wrap .u8 (iA .i64 (h:Int) 8)),.int .u8 (IntKind.wrap .u8 (h:Int))] 5) λi=>(rS i (ab_ b (0+1)) λr s u=>PA i (.cells #[.slice (some (ab_ f 0)) 4 4,.slice r s u] 197) λv=>PC_ 283 #[.slice (some (ab_ i 0)) 2 2] v (kS_ λj k l w=>PC_ 284 #[.slice j k l] w (λx m=>∃g,x= .int .u32 g/\PA m (.cells #[.int .u8 (IntKind.wrap .u8 (iA .u32 g 24)),.int .u8 (IntKind.wrap .u8 (iA .u32 g 16)),.int .u8 (IntKind.wrap .u8 (iA .u32 g 8)),.int .u8 (IntKind.wrap .u8 g),.int .u8 10] 5) λy=>PR_ (ap_ 197 (.slice j k l) (.slice (some (ab_ m 0)) 5 5)) y (kS_ λz A B C=>rt t ((.tuple #[.slice z A B,.ii 0])) C) (pV t)) (pE t)) (pE t)))))))))):Calls ZQ 222 #[.agg #[.ii e,.slice d a c]] b t:=DC Hx Tryz.func222 rfl n
def lE:fS:=⟨[(3,[(3,QH 0),(11,QH 0)]),(11,[(6,.slice none 0 0),(27,QH 0)])],[],[],[],[]⟩
def lF(K:(∃n:Nat->Int->Int->World->Prop,(∃j,n j 0 0 b)/\∀(j:Nat) (k:Int) (h:Int) (T:Nat->Value) (l:World),n j k h l->al (decide ((h:Int)<((a:Nat):Int))) ((∃u v,d=some ⟨u,v,none⟩/\
   (0:Int)<=h/\h<((a:Nat):Int)/\(∃(L:Option Addr) (o:Nat) (M:Nat),l.cell? ⟨u,v+Int.toNat h,none⟩=some (.slice L o M)/\
   al (decide (((IntKind.wrap .i64 (k+((o:Nat):Int))):Int)<0)) (aH ZQ (Instr.panic (.iface 9 (.string (⟨#[108,101,110,32,111,117,116,32,111,102,32,114,97,110,103,101]⟩:ByteArray)))) l (λU N=>
   (∃m,m<j/\n m (IntKind.wrap .i64 (k+((o:Nat):Int))) (IntKind.wrap .i64 (h+1)) N)) (λr b=>t (.panicked [{v:=r,recovered:=false}]) b)) ((∃m,m<j/\
   n m (IntKind.wrap .i64 (k+((o:Nat):Int))) (IntKind.wrap .i64 (h+1)) l))))) (PC ZQ 315 #[.slice none 0 0,QH k] l (λO P=>
   ∃(w:Option Addr) (x:Nat) (y:Nat),O= .slice w x y/\(∃s:Nat->Option Addr->Nat->Nat->Int->World->Prop,(∃p,s p w x y 0 P)/\
   ∀(p:Nat) (e:Option Addr) (f:Nat) (g:Nat) (i:Int) (V:Nat->Value) (q:World),s p e f g i q->al (decide ((i:Int)<((a:Nat):Int))) ((∃z A,d=some ⟨z,A,none⟩/\
   (0:Int)<=i/\i<((a:Nat):Int)/\(∃(B:Option Addr) (C:Nat) (E:Nat),q.cell? ⟨z,A+Int.toNat i,none⟩=some (.slice B C E)/\
   aH ZQ (Builtin.append_ #[197,197] 197 #[.slice e f g,.slice B C E]) q (λQ R=>∃(F:Option Addr) (H:Nat) (I:Nat),Q= .slice F H I/\
   (∃J,J<p/\s J F H I (IntKind.wrap .i64 (i+1)) R)) (λr b=>t (.panicked [{v:=r,recovered:=false}]) b)))) (t (.returned (.slice e f g)) q))) (λS b=>
   t (.panicked S) b)))):
  Calls ZQ 283 #[.slice d a c] b t:=
 gl lE mixed Tryz.func283 rfl (Nat.le_of_ble_eq_true kR) kR (Eq.mp kR K)
def mQ:fS:=⟨[],[(3,[])],[],[],[]⟩
def mR(n:(∃h:World->Prop,(al (decide ((e:Int)<0)) (aH ZQ (Instr.panic (.iface 9 (.string (⟨#[99,97,110,110,111,116,32,98,101,32,110,101,103,97,116,105,118,101]⟩:ByteArray)))) b (λw o=>
   h o) (λf b=>t (.panicked [{v:=f,recovered:=false}]) b)) (h b))/\∀(x:Nat->Value) (k:World),h k->aH ZQ (Builtin.cap_ #[197] 3 #[.slice d a c]) k (λp l=>
   ∃(i:Int),p= QH i/\al (decide (((IntKind.wrap .i64 (e-(IntKind.wrap .i64 (i-((a:Nat):Int))))):Int)>0)) (aH ZQ (Builtin.cap_ #[197] 3 #[.slice d a c]) l (λq r=>
   ∃(g:Int),q= QH g/\((0:Int)<=g/\(g:Int)<=((c:Nat):Int)/\aH ZQ (Builtin.append_ #[197,3] 197 #[.slice d (Int.toNat g) c,QH (IntKind.wrap .i64 (e-(IntKind.wrap .i64 (i-((a:Nat):Int)))))]) r (λs u=>
   ∃(m:Option Addr) (v:Nat) (j:Nat),s= .slice m v j/\((0:Int)<=((a:Nat):Int)/\(((a:Nat):Int):Int)<=((j:Nat):Int)/\
   t (.returned (.slice m (Int.toNat ((a:Nat):Int)) j)) u)) (λf b=>t (.panicked [{v:=f,recovered:=false}]) b))) (λf b=>t (.panicked [{v:=f,recovered:=false}]) b)) (t (.returned (.slice d a c)) l)) (λf b=>
   t (.panicked [{v:=f,recovered:=false}]) b))):
  Calls ZQ 315 #[.slice d a c,QH e] b t:=
 gl mQ mixed Tryz.func315 rfl (Nat.le_of_ble_eq_true kR) kR (Eq.mp kR n)
def qo:fS:=⟨[(8,[(6,.int .u64 0),(37,QH 0)])],[(4,[]),(6,[])],[],[],[]⟩
def qp(u:PC_ 302 #[.pointer d,.ii 1] b (kS_ λv w J h=>(ix_ v 0 w λx y=>(∃a,h.cell? (ad x (y+Int.toNat 0))=some (.int .u8 a)/\(∃i:World->Prop,(al (decide (((IntKind.wrap .i64 (ml .u8 a 16)):Int)<=8)) (PC_ 301 #[.bool (a !=16),.ii 5] h (k0_ λz=>i z) (pE t)) (PC_ 301 #[.bool false,.ii 5] h (k0_ λA=>i A) (pE t)))/\∀(K:Nat->Value) (n:World),i n->PC_ 302 #[.pointer d,.ii (IntKind.wrap .i64 (ml .u8 a 16))] n (kS_ λo j L k=>(∃l:World->Prop,(al (((IntKind.wrap .i64 (ml .u8 a 16)):Int)==0) (PC_ 301 #[.bool true,.ii 5] k (k0_ λB=>l B) (pE t)) ((ix_ o 0 j λC E=>(∃p,k.cell? (ad C (E+Int.toNat 0))=some (.int .u8 p)/\PC_ 301 #[.bool (p !=0),.ii 5] k (k0_ λD=>l D) (pE t)))))/\∀(M:Nat->Value) (q:World),l q->(∃m:Nat->Int->Int->World->Prop,(∃g,m g 0 0 q)/\∀(g:Nat) (c:Int) (e:Int) (N:Nat->Value) (f:World),m g c e f->al (decide (e<(j:Int))) ((ix_ o e j λF H=>(∃r,f.cell? (ad F (H+Int.toNat e))=some (.int .u8 r)/\(∃s,s<g/\m s (Rg .u64 (Jn .u64 c 8) (IntKind.wrap .u64 r)) (IntKind.wrap .i64 (e+1)) f)))) (al (((BL .u8 a 16):Int)==0) (PC_ 301 #[.bool (decide (c<9223372036854775808)),.ii 5] f (k0_ λG=>rt t ((.ii (IntKind.wrap .i64 c))) G) (pE t)) (PC_ 301 #[.bool (decide (c<=9223372036854775808)),.ii 5] f (k0_ λI=>rt t ((.ii (IntKind.wrap .i64 (IntKind.wrap .u64 (0-c))))) I) (pE t)))))) (pE t))))) (pE t)):Calls ZQ 256 #[.pointer d] b t:=DC qo Tryz.func256 rfl u
end Go.Proofs.YtfchlbaidamodaaGreatDoor
namespace Go.ax
open Go
abbrev ai(a b:World):Prop:=aj (λ_=>False) a b
variable{d2:Addr}{e4:Array MapEntry}{r:Array Value}{z:FuncId}{e:Int}{s:List Int}{a1:List PanicEntry->World->Prop}{E a c i n:Nat}{a4 f:Nat->Prop}{F:Nat×Nat}{d0:Obj}{R Y:Operand}{d:Option Addr}{d1:Option Nat}{h:Program}{A g q:TypeId}{o u:Value->World->Prop}{a9 b k:World}{y:World->Prop}
def aj.refl(a:World):aj f a a:=⟨rfl,rfl,rfl,Q4 _,λ_ _ _=>rfl⟩
def aj.trans{f h i:Nat->Prop}(c:aj h b k)(a:aj i k a9)(l:∀a,a<b.heap.size->h a->f a)(m:∀a,a<b.heap.size->i a->f a):aj f b a9:=
 ⟨a.os.trans c.os,a.tape.trans c.tape,a.output.trans c.output,Xx c.size a.size,λd e j=>
  (a.block d (Qk e c.size) (λg=>j (m d e g))).trans (c.block d e (λg=>j (l d e g)))⟩
def aj.mono(c:aj f b k)(e:∀a,a<b.heap.size->f a->a4 a):aj a4 b k:=
 ⟨c.os,c.tape,c.output,c.size,λa d g=>c.block a d λh=>g (e a d h)⟩
def aj.then(a:aj f b k)(c:aj f k a9):aj f b a9:=a.trans c (λ_ _ a=>a) (λ_ _ a=>a)
def aj.new(c:aj f b k)(a:aj a4 k a9)(d:∀a,a4 a->f a\/b.heap.size<=a):aj f b a9:=
 c.trans a (λ_ _ c=>c) (λe h g=>(d e g).resolve_right oM)
def aj.af(a:aj f b k)(c:ai k a9):aj f b a9:=a.trans c (λ_ _ a=>a) (λ_ _ a=>a.elim)
def ai.keep{S:Nat->Prop}(a:ai b k):aj S b k:=a.mono λ_ _ a=>a.elim
def aj.alloc(a:World)(b:Obj):aj f a (a.alloc b):=
 ⟨rfl,rfl,rfl,sM,λc d _=>heap_alloc_old a b c d⟩
def aj.drewN{S:Nat->Prop}(a:World)(b:Nat):aj S a (a.drewN b):=⟨rfl,rfl,rfl,Q4 _,λ_ _ _=>rfl⟩
def bE.keep{S:Nat->Prop}(a:bE b k):aj S b k:=by obtain⟨c,rfl⟩:=a;exact aj.drewN b c
def bE.heap(a:bE b k):k.heap=b.heap:=by obtain⟨c,rfl⟩:=a;rfl
def aj.setCell(a:World)(b:Addr)(c:Value)(d:f b.block):aj f a (a.setCell b c):=
 ⟨rfl,rfl,rfl,by simp[World.setCell],λg _ e=>by
  simp only[World.setCell,Array.getElem?_modify];rw[if_neg (by rintro rfl;exact e d)]⟩
def aj.below(a:ai b k):RowKit.Below b.heap.size b k:=⟨a.os,a.tape,a.output,a.size,λc d=>a.block c d (λa=>a)⟩
def aj.IQ(a:RowKit.Below b.heap.size b k):ai b k:=⟨a.os,a.tape,a.output,a.size,λc d _=>a.block c d⟩
def aj.of_grownBy(a:b.grownBy k d1):aj (λc=>some c=d1) b k:=⟨a.os,a.tape,a.output,a.size,λc d e=>a.block c d e⟩
def aj.cell(c:aj f b k){a:Addr}(d:a.block<b.heap.size)(j:¬f a.block):k.cell? a=b.cell? a:=
 World.cell?_of_block (w:=b) (c.block a.block d j)
def aj.get(d:aj f b k)(c:b.heap[a]? =some d0)(e:¬f a):k.heap[a]? =some d0:=by
 rw[d.block a (Q5.1 c).1 e];exact c
def aC(c:b.heap[a]? =some d0):a<b.heap.size:=(Q5.1 c).1
def ae{cs:Array Value}(c:b.heap[a]? =some (Obj.cells cs g F)){off:Nat}{v:Value}(d:cs[off]? =some v):
  b.cell? ⟨a,off,none⟩=some v:=by simp[World.cell?,c,d]
def PA.mk(c:∀a,ai b a->a.heap.size=b.heap.size+1->a.heap[b.heap.size]? =some d0->y a):PA b d0 y:=
 c (b.alloc d0) (aj.alloc b d0) sM (heap_alloc_new b d0)
def PS.mk{v:Value}{cs:Array Value}(e:b.heap[a]? =some (.cells cs g (0,0)))(f:c<cs.size)(h:∀d,aj (·=a) b d->d.heap.size=b.heap.size->d.heap[a]? =some (.cells (cs.setIfInBounds c v) g (0,0))->y d):PS b ⟨a,c,none⟩ v y:=by
 refine⟨⟨cs[c],ae e (by simp[f])⟩,by simp[World.frozen?,e],h _ (aj.setCell b _ v rfl) (by simp[World.setCell]) ?_⟩;simp[World.setCell,Array.getElem?_modify,e]
def Ok(b:Value->World->Prop):Ending->World->Prop:=λc d=>∃a,c= .returned a/\b a d
def Ok.mk{v:Value}(a:o v b):Ok o (.returned v) b:=⟨v,rfl,a⟩
def PC.ok{φ d:Value->World->Prop}(e:Calls h z r b (Ok φ))(f:∀a c,φ a c->d a c):PC h z r b d a1:=
 e.mono λj c ⟨a,g,i⟩=>by subst g;exact f a c i
def Calls.ok{φ d:Value->World->Prop}(e:Calls h z r b (Ok φ))(f:∀a c,φ a c->d a c):Calls h z r b (Ok d):=
 e.mono λj c ⟨a,g,i⟩=>⟨a,g,f a c i⟩
def aN(a:Int):Prop:= -9223372036854775808<=a/\a<=9223372036854775807
def wrap_i64{x:Int}(a:aN x):IntKind.wrap .i64 x=x:=by
 unfold aN at a;unfold IntKind.wrap;simp[IntKind.signed,IntKind.bits];omega
def aQ:Nat:=140737488355328
structure Ints (w:World) (a:Option Addr) (n:Nat) (xs:List Int):Prop where
 len:n=xs.length
 d_:n*8<=aQ
 AS:∀x∈xs,aN x
 cell:∀(i:Nat) x,xs[i]? =some x->∃b off,a=some ⟨b,off,none⟩/\b<w.heap.size/\w.cell? ⟨b,off+i,none⟩=some (QH x)
def pF(b:Nat->Prop)(c:Option Addr):Prop:=∀a,c=some a->¬b a.block
def pF.none:pF f Option.none:=λ_ a=>by cases a
def Ints.keep{S:Nat->Prop}{a:Option Addr}{f:Nat}(d:Ints b a f s)(g:aj S b k)(j:pF S a):Ints k a f s:=
 ⟨d.len,d.d_,d.AS,λh l m=>by
  obtain⟨e,c,rfl,i,n⟩:=d.cell h l m;exact⟨e,c,rfl,Qk i g.size,(g.cell (a:=⟨e,c+h,none⟩) i (j ⟨e,c,none⟩ rfl)).trans n⟩⟩
def Ints.af(c:Ints b d a s)(e:ai b k):Ints k d a s:=c.keep e λ_ _ c=>c
def Ints.nil(a:World):Ints a none 0 []:=⟨rfl,by simp[aQ],sM,λc d b=>by simp at b⟩
def Ints.at(f:Ints b d a s){i:Int}(l:0<=i)(m:i<(a:Int)):
  ∃e c x,d=some ⟨e,c,none⟩/\e<b.heap.size/\s[i.toNat]? =some x/\aN x/\b.cell? ⟨e,c+i.toNat,none⟩=some (QH x):=by
 have n:=f.len;have g:i.toNat<s.length:=oM
 obtain⟨e,c,h,j,k⟩:=f.cell i.toNat s[i.toNat] (by simp[g]);exact⟨e,c,_,h,j,by simp[g],f.AS _ (XY g),k⟩
def aI:Option Addr->Option Nat
 |none=>none
 |some a=>some a.block
def Ints.IS(c:Ints b d a s)(g:aj f b k)(h:s≠[]->pF f d):Ints k d a s:=by
 by_cases e:s=[]
 ·subst e;exact⟨c.len,c.d_,c.AS,λj l i=>by simp at i⟩
 ·exact c.keep g (h e)
def dN:pF f d↔∀a,aI d=some a->¬f a:=by
 cases d with
 |none=>simp[pF,aI]
 |some d=>simp[pF,aI]
structure Own (w:World) (e:TypeId) (k:Nat) (a:Option Addr) (n c:Nat) (cs:List Value):Prop where
 row:w.ownsRow 0 e k (.slice a n c) n cs
def Own.nil(a:World)(e:TypeId)(b:Nat):Own a e b none 0 0 []:=⟨World.ownsRow_nil a 0 e b⟩
def Own.length{cs:List Value}(e:Own b g a d c i cs):cs.length=c*a:=e.row.1
def Own.cases{cs:List Value}(j:Own b g a d c i cs):
  (d=none/\c=0/\i=0/\cs=[])\/
  ∃h e,d=ZZ h/\b.heap[h]? =some (.cells e g (0,0))/\c<=i/\e.size=i*a/\e.toList.take (c*a)=cs:=by
 rcases j.row.2 with⟨f,p⟩|⟨h,k,e,f,_,l,m,_,n,o⟩
 ·simp only[XX]at f
  obtain⟨rfl,rfl,rfl⟩:=f;exact .inl ⟨rfl,rfl,rfl,QW (by simpa using j.row.1)⟩
 ·simp only[XX]at f
  obtain⟨rfl,-,rfl⟩:=f;exact .inr ⟨h,e,rfl,l,m,n,o⟩
def Own.keep{S:Nat->Prop}{cs:List Value}(l:Own b g a d c i cs)(m:aj S b k)(n:pF S d):Own k g a d c i cs:=by
 refine⟨⟨l.row.1,?_⟩⟩;rcases l.row.2 with o|⟨p,f,h,j,q,r,e⟩
 ·exact .inl o
 ·refine .inr ⟨p,f,h,j,q,m.get r ?_,e⟩
  simp only[XX]at j;exact n _ j.1
def Own.af{cs:List Value}(e:Own b g a d c i cs)(f:ai b k):Own k g a d c i cs:=e.keep f λ_ _ e=>e
def Own.lt{cs:List Value}(f:Own b g a d c i cs)(e:aI d=some n):n<b.heap.size:=by
 rcases f.cases with⟨rfl,_⟩|⟨k,h,rfl,j,_⟩
 ·cases e
 ·simp only[aI,Q1]at e
  subst e;exact aC j
def Own.cell{d:World}{f:TypeId}{g:Nat}{a:Option Addr}{h i:Nat}{cs:List Value}(k:Own d f g a h i cs){j:Nat}{u:Value}(b:cs[j]? =some u):
  ∃c,a=ZZ c/\c<d.heap.size/\d.cell? ⟨c,j,none⟩=some u:=by
 rcases k.cases with⟨_,_,_,rfl⟩|⟨c,l,rfl,e,_,_,m⟩
 ·simp at b
 ·refine⟨c,rfl,aC e,ae e ?_⟩
  rw[<-m,Xw]at b;split at b
  ·simpa using b
  ·cases b
def Own.xF{cur:Array Value}(e:b.heap[c]? =some (.cells cur g (0,0)))(d:cur.size=i*a)(f:i<=maxLen):
  Own b g a (ZZ c) i i cur.toList:=
 ⟨⟨by simpa using d,.inr ⟨c,i,cur,rfl,Qj _,e,Q4 _,f,d,by rw[Qz];simp[d]⟩⟩⟩
structure jP (P:Program) (t e:TypeId) (k bytes:Nat):Prop where
 under:P.underlying t=some (.slice e)
 row:(P.info? e).map (λi=>(i.zero.map λz=>z.cells.size,i.size,i.bytes))=some (some k,k,bytes)
 pos:0<k
def jP.info{d:Program}{i e:TypeId}{f bytes:Nat}(j:jP d i e f bytes):∃b c,d.info? e=some b/\b.zero=some c/\b.size=f/\b.bytes=bytes/\c.cells.size=f:=by
 have a:=j.row
 cases h:d.info? e with
 |none=>rw[h]at a;cases a
 |some b=>
  rw[h]at a;simp only[Option.map_some,Q1,Prod.mk.injEq]at a
  cases g:b.zero with
  |none=>rw[g]at a;cases a.1
  |some c=>
   rw[g]at a;exact⟨b,c,rfl,g,a.2.1,a.2.2,by simpa using a.1⟩
def GU{P:Program}{h bytes:Nat}(m:jP P g q h bytes){p news:List Value}(x:Own b q h d a c p)(y:∀k l,news[k]? =some l->b.cell? (d2.add k)=some l)(z:news.length=i*h)(B:∀l∈news,l.oneCell'=true)(C:(a+i)*bytes<=aQ)(E:a+i<=maxLen)(F:∀e f j,Own j q h e (a+i) f (p++news)->aj (λk=>some k=aI d) b j->(aI e=aI d\/aI e=some b.heap.size)->o (.slice e (a+i) f) j):
  aH P (Builtin.append_ #[g,g] A #[.slice d a c,.slice (some d2) i n]) b o u:=by
 obtain⟨H,I,J,K,L,M,N⟩:=jP.info m;obtain⟨O,j,Q,r,s,U,t⟩:=run_append_own_at (P:=P) b 0 g A q H I h bytes m.under J K L M N m.pos (.slice d a c) a p x.row
  d2 i n news z y B E C (Qj _)
 have R:∀(d:Option Addr) a c,(Value.slice d a c).ownBlock=aI d:=λd a c=>by cases d<;>rfl
 have S:∃e f,O= .slice e (a+i) f:=by
  rcases r.2 with⟨rfl,T⟩|⟨V,v,w,rfl,_⟩
  ·exact⟨none,0,by rw[T]⟩
  ·exact⟨_,_,rfl⟩
 obtain⟨e,f,rfl⟩:=S;simp only[R]at s t;exact aH.mk Q (F e f j ⟨r⟩ (aj.of_grownBy s) t)
def AT{e bytes:Nat}(t:jP h g q e bytes){l news:List Value}(v:Own b q e d a c l)(w:b.heap[i]? =some (.cells r q F))(x:r.toList.take (n*e)=news)(y:news.length=n*e)(z:∀m∈news,m.oneCell'=true)(B:(a+n)*bytes<=aQ)(C:a+n<=maxLen)(H:∀f p k,Own k q e f (a+n) p (l++news)->aj (λs=>some s=aI d) b k->(aI f=aI d\/aI f=some b.heap.size)->o (.slice f (a+n) p) k):
  aH h (Builtin.append_ #[g,g] A #[.slice d a c,.slice (ZZ i) n E]) b o u:=by
 exact GU t v (λs m j=>by
   rw[Addr.add_lit,Xz];refine ae w ?_;rw[<-x,Xw]at j;split at j
   ·simpa using j
   ·cases j) y z B C H
def ints(a:List Int):List Value:=a.map (Value.int .i64)
def jQ(a:List Int):(ints a).length=a.length:=by simp[ints]
def Own.ints(f:Own b g 1 d a c (ints s))(i:a*8<=aQ)(j:∀e∈s,aN e):Ints b d a s:=by
 have h:=f.length;rw[jQ,Nat.mul_one]at h;refine⟨h.symm,i,j,λk e l=>?_⟩;obtain⟨m,n,o,p⟩:=f.cell (j:=k) (u:=QH e) (by simp[ax.ints,l]);exact⟨m,0,n,o,by rw[Xz];exact p⟩
def NQ(m:jP h g q 1 8)(n:Own b q 1 d a c (ints s))(p:b.heap[i]? =some (.cells #[QH e] q (0,0)))(l:(a+1)*8<=aQ)(r:∀f k j,Own j q 1 f (a+1) k (ints (s++[e]))->aj (λt=>some t=aI d) b j->(aI f=aI d\/aI f=some b.heap.size)->o (.slice f (a+1) k) j):
  aH h (Builtin.append_ #[g,g] A #[.slice d a c,.slice (ZZ i) 1 1]) b o u:=
 AT m (news:=[QH e]) n p sM sM (by simp[Value.oneCell']) l (by unfold aQ at l;unfold maxLen;omega)
  λf k j v w x=>r f k j (by simpa[ints]using v) w x
def Ei(c:h.underlying g=some (.slice q))(d:Nat)(a:Option Addr)(e f:Nat)(b:World):
  (Op.equalIn (d+1) g (.slice a e f) (.slice none 0 0)).run h b= .ok a.isNone b:=by
 cases a<;>simp[Op.equalIn,run_underlying c]
def yV(c:h.underlying g=some (.pointer q))(d:Nat)(a:Option Addr)(b:World):
  (Op.equalIn (d+1) g (.pointer a) (.pointer none)).run h b= .ok a.isNone b:=by
 cases a<;>simp[Op.equalIn,run_underlying c]
def kZ(e:h.underlying g=some (.slice q))(f:o (.bool d.isNone) b):
  aH h (do eqGuard .eql g R Y (.slice d a c) (.slice none 0 0);binOp .eql g (.slice d a c) (.slice none 0 0)) b o u:=by
 refine aH.mk (v:=.bool d.isNone) ?_ f;have i:(do eqGuard .eql g R Y (.slice d a c) (.slice none 0 0);binOp .eql g (.slice d a c) (.slice none 0 0):Sem Value).run h b=
  ((Op.equalIn (9999+1) g (.slice d a c) (.slice none 0 0))>>=λj=>(pure (Value.bool j):Sem Value)).run h b:=rfl
 rw[i,Sem.run_bind,Ei e]
 rfl
def fQ(a:h.underlying g=some (.pointer q))(c:o (.bool d.isNone) b):
  aH h (do eqGuard .eql g R Y (.pointer d) (.pointer none);binOp .eql g (.pointer d) (.pointer none)) b o u:=by
 refine aH.mk (v:=.bool d.isNone) ?_ c;have e:(do eqGuard .eql g R Y (.pointer d) (.pointer none);binOp .eql g (.pointer d) (.pointer none):Sem Value).run h b=
  ((Op.equalIn (9999+1) g (.pointer d) (.pointer none))>>=λf=>(pure (Value.bool f):Sem Value)).run h b:=rfl
 rw[e,Sem.run_bind,yV a]
 rfl
def qM(e:h.underlying g=some (.pointer q))(c d:Operand)(a:Option Addr)(b:World):
  (do eqGuard .neq g c d (.pointer a) (.pointer none);binOp .neq g (.pointer a) (.pointer none):Sem Value).run h b= .ok (.bool a.isSome) b:=by
 have f:(do eqGuard .neq g c d (.pointer a) (.pointer none);binOp .neq g (.pointer a) (.pointer none):Sem Value).run h b=
  ((Op.equalIn (9999+1) g (.pointer a) (.pointer none))>>=λi=>(pure (Value.bool !i):Sem Value)).run h b:=rfl
 rw[f,Sem.run_bind,yV e]
 cases a<;>rfl
def Bo(a:h.underlying g=some (.pointer q))(c:o (.bool d.isSome) b):
  aH h (do eqGuard .neq g R Y (.pointer d) (.pointer none);binOp .neq g (.pointer d) (.pointer none)) b o u:=aH.mk (qM a R Y d b) c
def Own.VC{cs:List Value}(h:Own b g a d c i cs)(f:b.heap[n]? =some (.map e4 E)):aI d≠some n:=by
 intro e;rcases h.cases with⟨rfl,_⟩|⟨l,j,rfl,k,_⟩
 ·cases e
 ·simp only[aI,Q1]at e
  subst e;rw[k]at f;cases f
structure de (F:Nat->Prop) (w:World) (F':Nat->Prop) (w':World):Prop where
 keep:aj F w w'
 new:∀b,F' b->F b\/w.heap.size<=b
def de.refl(b:Nat->Prop)(a:World):de b a b a:=⟨aj.refl a,λ_ c=>.inl c⟩
def de.trans{d G e:Nat->Prop}{f g h:World}(a:de d f G g)(i:de G g e h):de d f e h:=
 ⟨a.keep.trans i.keep (λ_ _ a=>a) (λb j k=>(a.new b k).resolve_right oM),λb j=>by
  rcases i.new b j with c|c
  ·exact a.new b c
  ·exact .inr (Xx a.keep.size c)⟩
end Go.ax
namespace Go.ax
open Go
variable{d2:Addr}{r:Array Value}{I:Bool}{c9 x:ByteArray}{e m:Int}{a3:List Value}{a c i n:Nat}{f:Nat->Prop}{F:Nat×Nat}{d p:Option Addr}{h:Program}{N a6:Prop}{j:Type}{A g q:TypeId}{o u:Value->World->Prop}{a9 b k:World}
def al.dec[Decidable N]{b c:Prop}(d:N->b)(e:¬N->c):al (decide N) b c:=
 al.mk (λa=>d (XV a)) (λa=>e (Xy a))
def al.dw(b:e≠m->N)(c:e=m->a6):al (e !=m) N a6:=
 al.mk (λa=>b (by simpa using a)) (λa=>c (by simpa using a))
def al.dX(b:e=m->N)(c:e≠m->a6):al (e==m) N a6:=
 al.mk (λa=>b (by simpa using a)) (λa=>c (by simpa using a))
def al.not(a:al I a6 N):al (!I) N a6:=by cases I<;>exact a
def Qn(b:x.toList=c9.toList):x=c9:=by
 have c:∀a:ByteArray,a.toList=a.data.toList:=λa=>ByteArray.toList_eq a;rw[c,c]at b;exact ByteArray.ext (Array.toList_inj.1 b)
def al.YJ(b:x=c9->N)(c:x≠c9->a6):al (ByteArray.toList x==ByteArray.toList c9) N a6:=
 al.mk (λa=>b (Qn (by simpa using a))) (λa=>c (λd=>by subst d;simp at a))
def al.Zl(a:x≠c9->N)(b:x=c9->a6):al (!(ByteArray.toList x==ByteArray.toList c9)) N a6:=(al.YJ b a).not
def an(b:a<4611686018427387904):IntKind.wrap .i64 ((a:Int)+1)=((a+1:Nat):Int):=by
 rw[wrap_i64 (by unfold aN;omega)];simp
def bE.then(a:bE b k)(c:bE k a9):bE b a9:=by obtain⟨d,rfl⟩:=a;obtain⟨e,rfl⟩:=c;exact⟨d+e,sM⟩
def bE.refl(a:World):bE a a:=⟨0,rfl⟩
def FV{b c:List j}{d:j}(e:b.take a=c.take a)(f:b[a]? =some d)(g:c[a]? =some d):b.take (a+1)=c.take (a+1):=by
 rw[Qw,Qw,e,f,g]
structure kM (α:Type) where
 k:Nat
 rep:World->(Nat->Prop)->α->List Value->Prop
 keep:∀{S D:Nat->Prop} {w w':World} {x:α} {cs:List Value},rep w D x cs->aj S w w'->(∀b,D b->¬S b)->rep w' D x cs
 mono:∀{D D':Nat->Prop} {w:World} {x:α} {cs:List Value},rep w D x cs->(∀b,D b->D' b)->rep w D' x cs
 len:∀{D:Nat->Prop} {w:World} {x:α} {cs:List Value},rep w D x cs->cs.length=k
 one:∀{D:Nat->Prop} {w:World} {x:α} {cs:List Value},rep w D x cs->∀u∈cs,u.oneCell'=true
def flat{d:Type}(e:Nat)(a:d->List Value)(f:d->Prop)(g:∀c,(a c).length=e)(h:∀c,∀i∈a c,i.oneCell'=true):kM d where
 k:=e
 rep:=λ_ _ c cs=>cs=a c/\f c
 keep:=λb _ _=>b
 mono:=λb _=>b
 len:=λb=>by rw[b.1];exact g _
 one:=λb=>by rw[b.1];exact h _
def aP:kM Int:=flat 1 (λa=>[QH a]) aN (λ_=>rfl) (λa c b=>by simp at b;subst b;rfl)
def gq:kM UInt8:=flat 1 (λa=>[.int .u8 a.toNat]) (λ_=>True) (λ_=>rfl) (λa c b=>by simp at b;subst b;rfl)
def Px:kM ByteArray:=flat 1 (λa=>[.string a]) (λ_=>True) (λ_=>rfl) (λa c b=>by simp at b;subst b;rfl)
structure Row {α:Type} (c:kM α) (bytes:Nat) (w:World) (D:Nat->Prop) (a:Option Addr) (n:Nat) (xs:List α):Prop where
 len:n=xs.length
 d_:n*bytes<=aQ
 el:∀(i:Nat) x,xs[i]? =some x->∃b off es,a=some ⟨b,off,none⟩/\b<w.heap.size/\D b/\(∀j,j<c.k->w.cell? ⟨b,off+i*c.k+j,none⟩=es[j]?)/\c.rep w D x es
section
variable {α:Type} {c:kM α} {bytes:Nat} {w w':World} {D D' S:Nat->Prop} {a:Option Addr} {n:Nat} {xs:List α}
def Row.keep(e:Row c bytes w D a n xs)(f:aj S w w')(g:∀b,D b->¬S b):Row c bytes w' D a n xs:=
 ⟨e.len,e.d_,λh l m=>by
  obtain⟨b,d,o,p,i,j,q,r⟩:=e.el h l m;exact⟨b,d,o,p,Qk i f.size,j,λk s=>(f.cell (a:=⟨b,d+h*c.k+k,none⟩) i (g b j)).trans (q k s),c.keep r f g⟩⟩
def Row.af(b:Row c bytes w D a n xs)(d:ai w w'):Row c bytes w' D a n xs:=b.keep d λ_ _ b=>b
def Row.mono(d:Row c bytes w D a n xs)(f:∀b,D b->D' b):Row c bytes w D' a n xs:=
 ⟨d.len,d.d_,λg h i=>by
  obtain⟨b,e,j,k,l,m,o,p⟩:=d.el g h i;exact⟨b,e,j,k,l,f b m,o,c.mono p f⟩⟩
def Row.nil(w:World)(D:Nat->Prop):Row c bytes w D none 0 []:=⟨rfl,sM,λb d a=>by simp at a⟩
def Row.at(g:Row c bytes w D a n xs){i:Int}(p:0<=i)(q:i<(n:Int)):
  ∃d b x e,a=some ⟨d,b,none⟩/\d<w.heap.size/\D d/\xs[i.toNat]? =some x/\(∀f,f<c.k->w.cell? ⟨d,b+i.toNat*c.k+f,none⟩=e[f]?)/\c.rep w D x e:=by
 have r:=g.len;have h:i.toNat<xs.length:=oM
 obtain⟨d,b,e,j,k,l,m,o⟩:=g.el i.toNat xs[i.toNat] (by simp[h]);exact⟨d,b,_,e,j,k,l,by simp[h],m,o⟩
def Row.sS(h:Row c bytes w D a n xs){i:Nat}(j:i<n):
  ∃d b f g,a=some ⟨d,b,none⟩/\d<w.heap.size/\D d/\xs[i]? =some f/\(∀e,e<c.k->w.cell? ⟨d,b+i*c.k+e,none⟩=g[e]?)/\c.rep w D f g:=by
 have:=h.at (i:=(i:Int)) oM oM;simpa using this
end
def Row.mh{f:j->Value}{h:j->Prop}{hl h1}{bytes:Nat}{D:Nat->Prop}{k:List j}(l:Row (flat 1 (λe=>[f e]) h hl h1) bytes b D d a k){i:Nat}(m:i<a):
  ∃g c e,d=some ⟨g,c,none⟩/\k[i]? =some e/\h e/\b.cell? ⟨g,c+i,none⟩=some (f e):=by
 obtain⟨g,c,e,r,n,s,_,o,p,rfl,q⟩:=l.sS m;refine⟨g,c,e,n,o,q,?_⟩;have:=p 0 Nat.one_pos;simpa[flat]using this
def bT{a:Type}(b:kM a)(c:World)(D:Nat->Prop):List a->List Value->Prop
 |[],cs=>cs=[]
 |x::f,cs=>∃d e,cs=d++e/\b.rep c D x d/\bT b c D f e
section
variable {α:Type} {c:kM α} {w w':World} {D D' S:Nat->Prop}
def bT.keep(b:aj S w w')(d:∀e,D e->¬S e):∀{a:List α} {cs:List Value},bT c w D a cs->bT c w' D a cs
 |[],_,f=>f
 |x::a,_,⟨g,h,i,j,k⟩=>⟨g,h,i,c.keep j b d,bT.keep b d k⟩
def bT.mono(b:∀d,D d->D' d):∀{a:List α} {cs:List Value},bT c w D a cs->bT c w D' a cs
 |[],_,e=>e
 |x::a,_,⟨f,g,h,i,j⟩=>⟨f,g,h,c.mono i b,bT.mono b j⟩
def bT.append:∀{xs b:List α} {cs a:List Value},bT c w D xs cs->bT c w D b a->bT c w D (xs++b) (cs++a)
 |[],b,_,a,e,d=>by cases e;exact d
 |x::xs,b,_,a,⟨f,g,h,i,j⟩,d=>⟨f,g++a,by rw[h,XQ],i,bT.append j d⟩
def bT.one{x:α}(a:c.rep w D x a3):bT c w D [x] a3:=⟨a3,[],sM,a,rfl⟩
def bT.length:∀{a:List α} {cs:List Value},bT c w D a cs->cs.length=a.length*c.k
 |[],_,b=>by cases b;simp
 |x::a,_,⟨g,h,d,e,f⟩=>by
  rw[d,QX,c.len e,bT.length f,Xq,X7,Nat.one_mul,Nat.add_comm]
def bT.Sk:∀{d:List α} {cs:List Value},bT c w D d cs->∀b∈cs,b.oneCell'=true
 |[],_,e,b,a=>by cases e;simp at a
 |x::d,_,⟨i,j,f,g,h⟩,b,a=>by
  rw[f]at a;rcases Q6.1 a with a|a
  ·exact c.one g b a
  ·exact bT.Sk h b a
def bT.at:∀{e:List α} {cs:List Value},bT c w D e cs->∀{i:Nat} {x:α},e[i]? =some x->∃d,(∀a,a<c.k->cs[i*c.k+a]? =d[a]?)/\c.rep w D x d
 |[],_,n,i,x,b=>by simp at b
 |y::e,_,⟨d,o,f,g,j⟩,i,x,b=>by
  have p:=c.len g
  cases i with
  |zero=>
   simp at b;subst b;refine⟨d,λa h=>?_,g⟩;rw[f,Nat.zero_mul,Xz,XW oM]
  |succ i=>
   obtain⟨k,l,m⟩:=bT.at j (i:=i) (x:=x) (by simpa using b);refine⟨k,λa h=>?_,m⟩;rw[f,X7,Nat.one_mul,X8 oM,<-l a h]
   congr 1
   omega
def bT.take:∀{a:List α} {cs:List Value},bT c w D a cs->∀(m:Nat),bT c w D (a.take m) (cs.take (m*c.k))
 |[],_,d,m=>by cases d;simp[bT]
 |x::a,_,⟨e,f,g,b,h⟩,m=>by
  have i:=c.len b
  cases m with
  |zero=>simp[bT]
  |succ m=>
   refine⟨e,f.take (m*c.k),?_,b,bT.take h m⟩;rw[g,X7,Nat.one_mul,Nat.add_comm,List.take_append,i,Qz oM]
   congr 2
   omega
def Row.bl{bytes:Nat}{j:List α}(x:Row c bytes w D d a j):∃cs,bT c w D j cs/\(j≠[]->0<c.k->∃e b,d=some ⟨e,b,none⟩/\e<w.heap.size/\D e/\∀f g,cs[f]? =some g->w.cell? ⟨e,b+f,none⟩=some g):=by
 have m:∀(n:List α) (h:Nat),(∀k l,n[k]? =some l->j[h+k]? =some l)->∃cs,bT c w D n cs/\∀e b,d=some ⟨e,b,none⟩->0<c.k->∀f g,cs[f]? =some g->w.cell? ⟨e,b+h*c.k+f,none⟩=some g:=by
  intro n
  induction n with
  |nil=>intro h _;exact⟨[],rfl,λe b _ _ f g i=>by simp at i⟩
  |cons y n H=>
   intro h z;obtain⟨A,r,s⟩:=H (h+1) (λk l t=>by have:=z (k+1) l (by simpa using t);rw[show h+1+k=h+(k+1) by omega];exact this);obtain⟨e,b,q,o,B,C,E,u⟩:=x.el h y (z 0 y rfl);refine⟨q++A,⟨q,A,rfl,u,r⟩,λK F p v f g i=>?_⟩;rw[o]at p;cases p
   have L:=c.len u
   by_cases I:f<c.k
   ·rw[XW oM]at i
    rw[<-i];exact E f I
   ·rw[X8 oM]at i
    have:=s e b o v (f-q.length) g i;rw[<-this]
    congr 2
    rw[X7];omega
 obtain⟨cs,r,s⟩:=m j 0 (λk l t=>by simpa using t);refine⟨cs,r,λJ v=>?_⟩
 cases j with
 |nil=>exact absurd rfl J
 |cons l j=>
  obtain⟨e,b,q,o,B,C,E,u⟩:=x.el 0 l rfl;refine⟨e,b,o,B,C,λf g i=>?_⟩;have:=s e b o v f g i;simpa using this
end
structure aV {α:Type} (c:kM α) (e:TypeId) (F:Nat->Prop) (w:World) (a:Option Addr) (n cap:Nat) (xs:List α):Prop where
 body:∃cs D,Own w e c.k a n cap cs/\bT c w D xs cs/\(∀b,D b->F b/\aI a≠some b)
 self:∀b,aI a=some b->F b
 aF:∀b,F b->b<w.heap.size
section
variable {α:Type} {c:kM α} {e:TypeId} {w w':World} {F F' S:Nat->Prop} {a:Option Addr} {n cap:Nat} {xs:List α}
def aV.nil(w:World):aV c e (λ_=>False) w none 0 0 []:=
 ⟨⟨[],λ_=>False,Own.nil _ _ _,rfl,λ_ a=>a.elim⟩,λb a=>(by cases a),λ_ a=>a.elim⟩
def aV.keep(f:aV c e F w a n cap xs)(g:aj S w w')(h:∀b,F b->¬S b):aV c e F w' a n cap xs:=by
 obtain⟨cs,D,j,k,i⟩:=f.body;exact⟨⟨cs,D,j.keep g (dN.2 λb d=>h b (f.self b d)),k.keep g (λb d=>h b (i b d).1),i⟩,f.self,λb d=>Qk (f.aF b d) g.size⟩
def aV.af(b:aV c e F w a n cap xs)(d:ai w w'):aV c e F w' a n cap xs:=b.keep d λ_ _ b=>b
def aV.mono(f:aV c e F w a n cap xs)(g:∀b,F b->F' b)(i:∀b,F' b->b<w.heap.size):aV c e F' w a n cap xs:=by
 obtain⟨cs,D,j,k,h⟩:=f.body;exact⟨⟨cs,D,j,k,λb d=>⟨g b (h b d).1,(h b d).2⟩⟩,λb d=>g b (f.self b d),i⟩
def aV.len(d:aV c e F w a n cap xs)(f:0<c.k):n=xs.length:=by
 obtain⟨cs,D,g,h,i⟩:=d.body;have b:=g.length;rw[h.length]at b;exact(Nat.eq_of_mul_eq_mul_right f b).symm
def Own.Sj{b:Nat}{cs:List Value}(c:Own w e b a n cap cs):n<=cap:=by
 rcases c.cases with⟨_,rfl,rfl,_⟩|⟨g,d,_,_,f,_,_⟩
 ·exact Q4 _
 ·exact f
def aV.row{bytes:Nat}(f:aV c e F w a n cap xs)(j:0<c.k)(g:xs.length*bytes<=aQ):Row c bytes w F a n xs:=by
 have k:=f.len j;obtain⟨cs,D,l,s,t⟩:=f.body;refine⟨k,by rw[k];exact g,λA B u=>?_⟩;obtain⟨h,m,o⟩:=s.at u;have C:=c.len o;have p:=m 0 j;rw[Nat.add_zero,Qq (show 0<h.length by omega)]at p;obtain⟨q,i,v,_⟩:=l.cell p;refine⟨q,0,h,i,v,f.self q (by rw[i];rfl),λr x=>?_,c.mono o λy g=>(t y g).1⟩;have b:=m r x;rw[Qq (show r<h.length by omega)]at b⊢;obtain⟨E,d,_,z⟩:=l.cell b;rw[i]at d;cases d
 rw[Xz];exact z
def IL{bytes:Nat}{x:α}(i:aV c e F w a n cap xs)(A:jP h g e c.k bytes){D:Nat->Prop}(s:c.rep w D x r.toList)(l:∀b,D b->b<w.heap.size/\aI a≠some b)(d:(xs.length+1)*bytes<=aQ)(J:xs.length+1<=maxLen)(t:∀k j w' F',aV c e F' w' k (n+1) j (xs++[x])->aj (λv=>aI a=some v) w w'->(∀b,F' b->F b\/D b\/w.heap.size<=b)->(∀b,aI k=some b->F b\/w.heap.size<=b)->o (.slice k (n+1) j) w'):
  PA w (.cells r e) λy=>aH h (Builtin.append_ #[g,g] q #[.slice a n cap,.slice (ZZ w.heap.size) 1 1]) y o u:=by
 have C:=i.len A.pos;obtain⟨cs,K,L,M,m⟩:=i.body;refine PA.mk λy E R N=>?_;have S:=c.len s;have O:=L.af E;refine AT A (news:=r.toList) O N (by rw[Qz oM]) oM (c.one s) (by rw[C];exact d) (by rw[C];exact J) λk P p H I B=>?_;have z:aj (λv=>aI a=some v) w p:=(ai.keep E).then (I.mono λ_ _ i=>i.symm)
 let F':Nat->Prop:=λb=>F b\/D b\/(w.heap.size<=b/\b<p.heap.size)
 have T:y.heap.size<=p.heap.size:=I.size;refine t k P p F' ⟨⟨_,λb=>K b\/D b,H,bT.append ((M.keep z λb d=>(m b d).2).mono λb d=>.inl d) (bT.one (c.mono (c.keep s z λb d=>(l b d).2) λb d=>.inr d)),?_⟩,?_,?_⟩ z ?_ ?_
 ·intro b d
  have U:b<w.heap.size:=d.elim (λf=>i.aF b (m b f).1) λf=>(l b f).1;refine⟨d.elim (λf=>.inl (m b f).1) λf=>.inr (.inl f),?_⟩;rcases B with B|B
  ·rw[B];exact d.elim (λf=>(m b f).2) λf=>(l b f).2
  ·rw[B];intro Q;cases Q;omega
 ·intro b d
  rcases B with B|B
  ·exact .inl (i.self b (B▸d))
  ·have:=H.lt d
   rw[B]at d;cases d;exact .inr (.inr ⟨oM,this⟩)
 ·rintro b (d|d|d)
  ·have:=i.aF b d;omega
  ·have:=(l b d).1;omega
  ·exact d.2
 ·rintro b (d|d|d)
  ·exact .inl d
  ·exact .inr (.inl d)
  ·exact .inr (.inr d.1)
 ·intro b d
  rcases B with B|B
  ·exact .inl (i.self b (B▸d))
  ·rw[B]at d;cases d;exact .inr oM
def lH{bytes:Nat}(i:aV c e F w a n cap xs)(y:jP h g e c.k bytes){D:Nat->Prop}{p M:Nat}{l:List α}(E:Row c bytes w D (some d2) p l)(r:∀b,D b->b<w.heap.size/\aI a≠some b)(d:(xs.length+l.length)*bytes<=aQ)(N:xs.length+l.length<=maxLen)(z:∀m j w' F',aV c e F' w' m (n+p) j (xs++l)->aj (λk=>aI a=some k) w w'->(∀b,F' b->F b\/D b\/w.heap.size<=b)->(∀b,aI m=some b->F b\/w.heap.size<=b)->o (.slice m (n+p) j) w'):
  aH h (Builtin.append_ #[g,g] q #[.slice a n cap,.slice (some d2) p M]) w o u:=by
 have H:=i.len y.pos;have A:=E.len;obtain⟨cs,O,P,Q,s⟩:=i.body;obtain⟨I,t,R⟩:=E.bl;have S:∀k v,I[k]? =some v->w.cell? (d2.add k)=some v:=λk v J=>by
  have T:l≠[]:=by rintro rfl;have:=t.length;simp at this;subst this;simp at J
  obtain⟨b,U,V,_,_,W⟩:=R T y.pos
  cases V
  rw[Addr.add_lit];exact W k v J
 refine GU y (news:=I) P S (by rw[t.length,A]) t.Sk (by rw[H,A];exact d) (by rw[H,A];exact N) λm X x K L B=>?_;have C:aj (λk=>aI a=some k) w x:=L.mono λ_ _ i=>i.symm
 let F':Nat->Prop:=λb=>F b\/D b\/(w.heap.size<=b/\b<x.heap.size)
 have Z:w.heap.size<=x.heap.size:=L.size;refine z m X x F' ⟨⟨_,λb=>O b\/D b,K,bT.append ((Q.keep C λb d=>(s b d).2).mono λb d=>.inl d) ((t.keep C λb d=>(r b d).2).mono λb d=>.inr d),?_⟩,?_,?_⟩ C ?_ ?_
 ·intro b d
  have a1:b<w.heap.size:=d.elim (λf=>i.aF b (s b f).1) λf=>(r b f).1;refine⟨d.elim (λf=>.inl (s b f).1) λf=>.inr (.inl f),?_⟩;rcases B with B|B
  ·rw[B];exact d.elim (λf=>(s b f).2) λf=>(r b f).2
  ·rw[B];intro Y;cases Y;omega
 ·intro b d
  rcases B with B|B
  ·exact .inl (i.self b (B▸d))
  ·have:=K.lt d
   rw[B]at d;cases d;exact .inr (.inr ⟨Q4 _,this⟩)
 ·rintro b (d|d|d)
  ·have:=i.aF b d;omega
  ·have:=(r b d).1;omega
  ·exact d.2
 ·rintro b (d|d|d)
  ·exact .inl d
  ·exact .inr (.inl d)
  ·exact .inr (.inr d.1)
 ·intro b d
  rcases B with B|B
  ·exact .inl (i.self b (B▸d))
  ·rw[B]at d;cases d;exact .inr oM
end
def bT.free{c:Type}{e:Nat}{a:c->List Value}{f:c->Prop}{hl b}{g h:World}{D i:Nat->Prop}:∀{d:List c} {cs:List Value},bT (flat e a f hl b) g D d cs->bT (flat e a f hl b) h i d cs
 |[],_,j=>j
 |x::d,_,⟨k,l,b,m,n⟩=>⟨k,l,b,m,n.free⟩
def aV.alone{e:j->List Value}{m:j->Prop}{hl h1}{n:List j}(h:aV (flat a e m hl h1) g f b d c i n):
  aV (flat a e m hl h1) g (λk=>aI d=some k) b d c i n:=by
 obtain⟨cs,q,o,p,r⟩:=h.body;exact⟨⟨cs,λ_=>False,o,p.free,λ_ h=>h.elim⟩,λk l=>l,λk l=>h.aF k (h.self k l)⟩
def qD{b:Type}(i:kM b)(j:TypeId)(c:World)(k:List b)(l:Value)(d:World):Prop:=
 ∃e f a g,l= .slice e f a/\aV i j g d e f a k/\ai c d/\∀h,g h->c.heap.size<=h
def Row.lit{enc:j->Value}{e:j->Prop}{hl h1}{bytes:Nat}{cs:Array Value}(f:b.heap[a]? =some (.cells cs g F))(d:List j)(k:cs.toList=d.map enc)(l:∀c∈d,e c)(m:d.length*bytes<=aQ):
  Row (flat 1 (λc=>[enc c]) e hl h1) bytes b (·=a) (ZZ a) d.length d:=
 ⟨rfl,m,λh c i=>⟨a,0,[enc c],rfl,aC f,rfl,λn o=>by
  have:n=0:=Nat.lt_one_iff.1 o;subst this;have:cs.toList[h]? =some (enc c):=by rw[k];simp[i]
  have p:=ae f (off:=h) (v:=enc c) (by simpa using this);simpa[flat]using p,rfl,l c (QZ i)⟩⟩
def Row.part{c:kM j}{bytes:Nat}{D:Nat->Prop}{h:List j}(f:Row c bytes b D d a h){lo hi cap:Nat}(v:lo<=hi)(w:hi<=a)(x:a<=cap):
  Row c bytes b D (cM d lo cap c.k) (hi-lo) ((h.take hi).drop lo):=by
 have y:=f.len;refine⟨by simp;omega,Xx (Q0 _ oM) f.d_,λi k e=>?_⟩;rw[List.getElem?_drop,Xw]at e;split at e
 ·rename_i z
  obtain⟨l,g,m,n,o,p,q,r⟩:=f.el (lo+i) k e
  by_cases s:cap=lo
  ·omega
  ·exact⟨l,g+lo*c.k,m,by rw[n];simp[cM,s,Addr.add_lit],o,p,λt u=>by rw[<-q t u];congr 2;rw[X7];omega,r⟩
 ·cases e
def aV.jx{e:kM j}{h:List j}(i:aV e g f b d a c h):a<=c:=by
 obtain⟨cs,l,k,_⟩:=i.body;exact k.Sj
def Row.take{f:kM j}{bytes:Nat}{D:Nat->Prop}{g:List j}(e:Row f bytes b D d a g){m:Nat}(h:m<=a):Row f bytes b D d m (g.take m):=by
 have k:=e.len;refine⟨by simp;omega,Xx (Q0 _ h) e.d_,λi x c=>?_⟩;rw[Xw]at c;split at c
 ·exact e.el i x c
 ·cases c
def sE{l:kM j}{t:List j}{bytes:Nat}(v:aV l g f b d a c t)(w:jP h q g l.k bytes){D:Nat->Prop}{m:List j}(z:Row l bytes b D p i m)(C:p=none->i=0/\n=0)(E:∀e,D e->e<b.heap.size/\aI d≠some e)(r:(t.length+m.length)*bytes<=aQ)(F:t.length+m.length<=maxLen)(s:∀x k y B,aV l g B y x (a+i) k (t++m)->aj (λH=>aI d=some H) b y->(∀e,B e->f e\/D e\/b.heap.size<=e)->(∀e,aI x=some e->f e\/b.heap.size<=e)->o (.slice x (a+i) k) y):
  aH h (Builtin.append_ #[q,q] A #[.slice d a c,.slice p i n]) b o u:=by
 cases p with
 |some N=>exact lH v w z E r F s
 |none=>
  obtain⟨rfl,rfl⟩:=C rfl;have I:m=[]:=QW z.len.symm;subst I;obtain⟨J,O,K,P,Q,R,S⟩:=jP.info w;obtain⟨cs,T,L,U,V⟩:=v.body;have M:=run_append_owned_none (P:=h) (w:=b) 0 q A g J l.k w.under K (.slice d a c) a cs L.row;exact aH.mk M (s d c b f (by simpa using v) (aj.refl _) (λe r=>.inl r) λe r=>.inl (v.self e r))
def aV.Pq{e:kM j}{h:List j}(i:aV e g f b d a c h)(k:d=none):a=0/\c=0:=by
 obtain⟨cs,p,l,_⟩:=i.body;rcases l.cases with⟨_,m,n,_⟩|⟨q,o,rfl,_⟩
 ·exact⟨m,n⟩
 ·cases k
def Wp(k:jP h g q 1 1)(f:(h.info? q).bind (·.zero)=some (.int .u8 0))(l:a<=c)(d:c<=aQ)(i:∀e,aV gq q (·=b.heap.size) e (ZZ b.heap.size) a c (List.replicate a 0)->ai b e->e.heap.size=b.heap.size+1->o (.slice (ZZ b.heap.size) a c) e):
  aH h (Instr.makeSlice g (QH (a:Int)) (QH (c:Int))) b o u:=by
 unfold aQ at d;obtain⟨r,s,m,n,t,v,B⟩:=k.info;have w:s= .int .u8 0:=by
  rw[m]at f;simp only[Option.bind_some,n]at f;exact XJ f
 subst w;have p:=run_make (P:=h) b g q r _ k.under m n .i64 .i64 a c oM oM (by rw[v];omega) oM;rw[Qx,Qx,t,Nat.mul_one]at p;have x:ai b (b.alloc (.cells (madeCells (Value.int .u8 0).cells c) q)):=aj.alloc b _;have y:(madeCells (Value.int .u8 0).cells c).toList=List.replicate c (.int .u8 0):=by
  unfold madeCells;rw[Array.toList_map];apply List.ext_getElem
  ·simp
  ·intro C E F
   simp[Value.cells,Nat.mod_one]
 refine aH.mk p (i _ ⟨⟨List.replicate a (.int .u8 0),λ_=>False,⟨⟨by simp[gq,flat],.inr ⟨b.heap.size,c,_,rfl,Qj _,heap_alloc_new b _,l,by unfold maxLen;omega,by simp[size_madeCells,gq,flat],?_⟩⟩⟩,?_,λ_ i=>i.elim⟩,λz d=>by simpa[aI]using d.symm,λz d=>by subst d;simp⟩ x sM)
 ·rw[y]
  simp only[gq,flat,Nat.mul_one,List.take_replicate];rw[X2 l]
 ·have j:∀a:Nat,bT gq (b.alloc (.cells (madeCells (Value.int .u8 0).cells c) q)) (λ_=>False) (List.replicate a 0) (List.replicate a (.int .u8 0)):=by
   intro a
   induction a with
   |zero=>rfl
   |succ a A=>exact⟨[.int .u8 0],List.replicate a (.int .u8 0),rfl,⟨rfl,trivial⟩,A⟩
  exact j a
end Go.ax
namespace Go.ax
open Go
def fW(a:Nat):List UInt8:=if b:a=0 then []else UInt8.ofNat (a % 256)::fW (a/256)
termination_by a
decreasing_by omega
def jK:fW 0=[]:=by rw[fW];simp
variable{e:Int}{a:Nat}
def lP(b:a≠0):fW a=UInt8.ofNat (a % 256)::fW (a/256):=by rw[fW];simp[b]
def zK:∀(a:Nat),a<2 ^ 64->(fW a).length=(Lib.bitLen a+7)/8:=by
 intro a
 induction a using Nat.strongRecOn with
 |_ a d=>
  intro c
  by_cases b:a=0
  ·subst b;rw[jK];decide
  ·rw[lP b,Xq]
   by_cases e:a<256
   ·have f:a/256=0:=oM
    rw[f,jK];have h:Lib.bitLen a<=8:=Lib.bitLen_le8 ⟨a,e⟩;have i:1<=Lib.bitLen a:=(Lib.bitLenAux_bounds 64 a c b).1;simp;omega
   ·have:=d (a/256) oM oM
    rw[this];have g:=Lib.bitLen_shift 8 a oM c;rw[show(2:Nat) ^ 8=256 from rfl]at g;omega
def Dx{u:Nat}(a:u<2 ^ 64):(fW u).length<=8:=by
 rw[zK u a]
 by_cases b:u=0
 ·subst b;decide
 ·have c:=Lib.bitLenAux_bounds 64 u a b
  have:Lib.bitLen u<=64:=by
   apply Nat.le_of_not_lt;intro d;have e:2 ^ 64<=2 ^(Lib.bitLen u-1):=Nat.pow_le_pow_right oM oM;have f:2 ^(Lib.bitLen u-1)<=u:=c.2.1;omega
  omega
def SO:∀(c a:Nat),c<(fW a).length->(fW a)[c]? =some (UInt8.ofNat (a/256 ^ c % 256)):=by
 intro c
 induction c with
 |zero=>
  intro a b
  by_cases d:a=0
  ·subst d;rw[jK]at b;simp at b
  ·rw[lP d];simp
 |succ c e=>
  intro a b
  by_cases d:a=0
  ·subst d;rw[jK]at b;simp at b
  ·rw[lP d]at b⊢
   have:=e (a/256) (by simpa using b);rw[List.getElem?_cons_succ,this,Nat.div_div_eq_div_mul,Nat.pow_succ,Nat.mul_comm 256]
def gO(a:List UInt8):Nat:=a.foldl (λb c=>b*256+c.toNat) 0
def zM(a:List UInt8)(b:UInt8):gO (a++[b])=gO a*256+b.toNat:=by simp[gO,List.foldl_append]
def OC(a:List UInt8):gO a<256 ^ a.length:=by
 suffices d:∀(a:List UInt8) (b c:Nat),b<256 ^ c->a.foldl (λb e=>b*256+e.toNat) b<256 ^(c+a.length) by
  have:=d a 0 0 sM;simpa[gO]using this
 intro a
 induction a with
 |nil=>intro b c d;simpa using d
 |cons e a f=>
  intro b c d;have g:=e.toNat_lt;have:=f (b*256+e.toNat) (c+1) (by rw[Nat.pow_succ];omega);rw[List.foldl_cons,Xq];rw[show c+(a.length+1)=c+1+a.length by omega];exact this
def SP:∀(a:Nat),gO (fW a).reverse=a:=by
 intro a
 induction a using Nat.strongRecOn with
 |_ a c=>
  by_cases b:a=0
  ·subst b;rw[jK];rfl
  ·rw[lP b,List.reverse_cons,zM,c (a/256) oM]
   have:(UInt8.ofNat (a % 256)).toNat=a % 256:=by rw[UInt8.toNat_ofNat'];omega
   rw[this];omega
def Qg:∀(a:Nat),a≠0->(fW a).getLast? ≠some 0:=by
 intro a
 induction a using Nat.strongRecOn with
 |_ a d=>
  intro e;rw[lP e]
  by_cases b:a/256=0
  ·rw[b,jK]
   simp only[List.getLast?_singleton,ne_eq,Q1];intro f;have:=congrArg UInt8.toNat f;rw[UInt8.toNat_ofNat']at this;simp at this;omega
  ·have c:fW (a/256)≠[]:=by rw[lP b];simp
   rw[List.getLast?_cons,List.getLast?_eq_some_getLast c,Option.getD_some];have:=d (a/256) oM b;rw[List.getLast?_eq_some_getLast c]at this;exact this
def eB(a:Int):List UInt8:=UInt8.ofNat ((fW a.natAbs).length+if a<0 then 16 else 0)::(fW a.natAbs).reverse
def rdNum(d:List UInt8):Int×Int×Nat:=match d with
 |[]=>(4,0,0)
 |h::c=>
  let a:=if 16<h.toNat then h.toNat-16 else h.toNat
  let b:=gO (c.take a)
  if 8<a then(5,0,0)
  else if c.length<a then(4,0,0)
  else if(0<a/\c.head? =some 0)\/(¬16<h.toNat/\2 ^ 63<=b)\/(16<h.toNat/\2 ^ 63<b)then(5,0,0)
  else(0,if 16<h.toNat then-(b:Int)else b,a+1)
def Gt(q:aN e)(f:List UInt8):rdNum (eB e++f)=(0,e,(eB e).length):=by
 unfold aN at q;have r:e.natAbs<2 ^ 64:=oM
 have s:=Dx r;have g:(fW e.natAbs).reverse.length=(fW e.natAbs).length:=List.length_reverse ..;have i:=SP e.natAbs;have n:e<0->1<=(fW e.natAbs).length:=λv=>by rw[lP oM];simp
 have j:0<(fW e.natAbs).length->((fW e.natAbs).reverse++f).head? ≠some 0:=λh=>by
  have t:e.natAbs≠0:=λd=>by rw[d,jK]at h;simp at h
  have:=Qg _ t;rw[List.head?_append,List.head?_reverse]
  cases k:(fW e.natAbs).getLast? with
  |none=>rw[List.getLast?_eq_none_iff]at k;rw[k]at h;simp at h
  |some w=>rw[k]at this;simpa using this
 unfold eB;rw[List.cons_append];generalize fW e.natAbs=a at s g i n j⊢;have u:(UInt8.ofNat (a.length+if e<0 then 16 else 0)).toNat=a.length+if e<0 then 16 else 0:=by
  rw[UInt8.toNat_ofNat'];split<;>omega
 have o:(a.reverse++f).take a.length=a.reverse:=by
  rw[<-g,List.take_left]
 have p:¬(a.reverse++f).length<a.length:=sM
 unfold rdNum;simp only[u]
 by_cases l:e<0
 ·have x:=n l
  simp only[if_pos l];have m:(if 16<a.length+16 then a.length+16-16 else a.length+16)=a.length:=by rw[if_pos oM];omega
  simp only[m,o,i];rw[if_neg oM,if_neg p,if_neg,if_pos oM]
  ·have d: -(e.natAbs:Int)=e:=oM
   rw[d,Xq,g]
  ·rintro(⟨b,c⟩|⟨b,c⟩|⟨b,c⟩)
   ·exact j b c
   ·omega
   ·omega
 ·simp only[if_neg l,Nat.add_zero]
  have m:(if 16<a.length then a.length-16 else a.length)=a.length:=by rw[if_neg oM]
  simp only[m,o,i];rw[if_neg oM,if_neg p,if_neg,if_neg oM]
  ·have d:(e.natAbs:Int)=e:=oM
   rw[d,Xq,g]
  ·rintro(⟨b,c⟩|⟨b,c⟩|⟨b,c⟩)
   ·exact j b c
   ·omega
   ·omega
end Go.ax

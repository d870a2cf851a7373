import Derived.Test.YtblabbpipmodgaaGreatDoorYrCode
import Derived.Maps.AppendAt
import Derived.Below
import Derived.Laws.Strings
import Derived.Laws.OwnMore
import Derived.Laws.MakeOwn
import Derived.Lib.BitFns
import Derived.Lib.ItoaNum
import Derived.Shelf.SlIter.Nil
import Derived.Shelf.SlIterI.Nil
import Derived.Shelf.SortM.Plain
import Derived.Shelf.SortM.SortNone
import Derived.Shelf.Strconv.Itoa3
import Derived.Shelf.Small.Strs
import Derived.Ground.GgzProg
import Derived.Ground.SlgmProg
import Derived.Ground.NamesProg
import Derived.Test.YtblabbpipmodgaaGreatDoorProg
import Derived.Laws.CopyRow
import Derived.Laws.IdiomCopy
set_option maxHeartbeats 4000000
set_option linter.all false
set_option maxRecDepth 100000
open Go.IntKind renaming wrap→ZG
namespace Go.Proofs.YtblabbpipmodgaaGreatDoor
open Go.aw
def AG:kf:=⟨[(2,[(7,ZH 0)]),(5,[(8,ZH 0)]),(10,[(9,ZH 0)])],[],[],[],[]⟩
variable{d1 w:ByteArray}{z:ZT}{e:Int}{a c i o:Nat}{d:YQ}{b:World}
def AH{f g s t:YQ}(C:PA b (.cells #[.slice s a c,.slice t i o] 25) λD=>(∃n:Nat->Int->ZU,(∃h,n h (-1) D)/\∀(h:Nat) (d:Int) (a3:Nat->Value) (j:World),n h d j->(rS j (ab_ b 0) λa4 E a5=>al (decide (d<=(E:Int))) ((∃p:Nat->Int->ZU,(∃k,p k 0 j)/\∀(k:Nat) (P:Int) (a6:Nat->Value) (q:World),p k P q->al (decide (P<4)) (PC_ 30 #[.pointer f,.ii d,.ii P] q (kX_ 46 λF G=>PC_ 30 #[.pointer g,.ii d,.ii P] G (kX_ 46 λH I=>PC_ 52 #[F,H] I (kB λJ u=>al (!J) (rt z ((.bool false)) u) (PC_ 53 #[.pointer f,.ii d,.ii P,.ii P] u (kX_ 46 λK L=>PC_ 53 #[.pointer g,.ii d,.ii P,.ii P] L (kX_ 46 λM N=>PC_ 52 #[K,M] N (kB λO v=>al (!O) (rt z ((.bool false)) v) ((∃w,w<k/\p w (ZG .i64 (P+1)) v))) (pE z)) (pE z)) (pE z))) (pE z)) (pE z)) (pE z)) ((∃x,x<h/\n x (ZG .i64 (d+1)) q)))) ((∃r:Nat->Int->ZU,(∃l,r l (-1) j)/\∀(l:Nat) (e:Int) (a7:Nat->Value) (m:World),r l e m->(rS m (ab_ b (0+1)) λa8 Q a9=>al (decide (e<=(Q:Int))) (PC_ 54 #[.pointer f,.ii e,.ii (-9223372036854775808)] m (kX_ 46 λR S=>PC_ 54 #[.pointer g,.ii e,.ii (-9223372036854775808)] S (kX_ 46 λT U=>PC_ 52 #[R,T] U (kB λV y=>al (!V) (rt z ((.bool false)) y) (PC_ 54 #[.pointer f,.ii e,.ii 2] y (kX_ 46 λW X=>PC_ 54 #[.pointer g,.ii e,.ii 2] X (kX_ 46 λY Z=>PC_ 52 #[W,Y] Z (kB λa2 A=>al (!a2) (rt z ((.bool false)) A) ((∃B,B<l/\r B (ZG .i64 (e+1)) A))) (pE z)) (pE z)) (pE z))) (pE z)) (pE z)) (pE z)) (rt z ((.bool true)) m))))))):YX 19 #[.pointer f,.pointer g,.agg #[.slice s a c,.slice t i o]] b z:=DC AG Tryz.func19 rfl C
def gZ:kf:=⟨[],[],[],[],[]⟩
def g_(P:al (decide ((((ByteArray.size w:Nat):Int):Int)>=((ByteArray.size d1:Nat):Int))) (((0:Int)<=((ByteArray.size d1:Nat):Int)/\(((ByteArray.size d1:Nat):Int):Int)<=((ByteArray.size w:Nat):Int)/\rt z ((.bool ((ByteArray.toList (ByteArray.extract w 0 (Int.toNat ((ByteArray.size d1:Nat):Int))))==(ByteArray.toList d1)))) b)) (rt z ((.bool false)) b)):YX 328 #[.string w,.string d1] b z:=DC gZ Tryz.func328 rfl P
def gX:kf:=⟨[],[],[],[],[]⟩
def gY(a:PC_ 328 #[.string w,.string d1] b (kB λc P=>al (!c) (rt z ((.tuple #[.string w,.bool false])) P) (((0:Int)<=((ByteArray.size d1:Nat):Int)/\(((ByteArray.size d1:Nat):Int):Int)<=((ByteArray.size w:Nat):Int)/\rt z ((.tuple #[.string (ByteArray.extract w (Int.toNat ((ByteArray.size d1:Nat):Int)) (ByteArray.size w)),.bool true])) P))) (pE z)):YX 297 #[.string w,.string d1] b z:=DC gX Tryz.func297 rfl a
def AI:kf:=⟨[],[],[],[],[(11,⟨[0,1,0,4,10,18,48,64,192,320,576,1088],[4095,4094,4095,4091,4087,4077,4063,4031,3903,3775,3519,3007],[0,2,0,0,2,0,0,0,0,1,0,0]⟩)]⟩
def AJ(o:al (decide ((a:Int)<4)) (rt z ((.tuple #[.ii 0,.ii 4])) b) (((0:Int)<=1/\(1:Int)<=4/\(4:Int)<=(c:Int)/\PC_ 299 #[.slice (cI d (Int.toNat 1) c 1) (Int.toNat 4-Int.toNat 1) (c-Int.toNat 1)] b (λp e=>∃P,p= .int .u32 P/\(ix_ d 0 a λq r=>(∃g,e.cell? (ad q (r+Int.toNat 0))=some (.int .u8 g)/\al (g==0) (rt z ((.tuple #[.ii 0,.ii 2])) e) (al (decide (((ZG .i64 P):Int)>65536)) (rt z ((.tuple #[.ii 0,.ii 5])) e) (al (decide ((a:Int)<(ZG .i64 ((ZG .i64 (4+(ZG .i64 P)))+5)))) (rt z ((.tuple #[.ii 0,.ii 4])) e) (((0:Int)<=(ZG .i64 (4+(ZG .i64 P)))/\((ZG .i64 (4+(ZG .i64 P))):Int)<=(c:Int)/\((0:Int)<=(ZG .i64 (4+(ZG .i64 P)))/\((ZG .i64 (4+(ZG .i64 P))):Int)<=(ZG .i64 ((ZG .i64 (4+(ZG .i64 P)))+5))/\((ZG .i64 ((ZG .i64 (4+(ZG .i64 P)))+5)):Int)<=(c:Int)/\(∀h,bX e h->(∀i,bX h i->((0:Int)<=4/\(4:Int)<=(((c-Int.toNat (ZG .i64 (4+(ZG .i64 P)))):Nat):Int)/\PC_ 284 #[.slice d (Int.toNat (ZG .i64 (4+(ZG .i64 P)))) c] i (λs t=>∃j,s= .int .u32 j/\PC_ 299 #[.slice (cI d (Int.toNat (ZG .i64 (4+(ZG .i64 P)))) c 1) (Int.toNat 4) (c-Int.toNat (ZG .i64 (4+(ZG .i64 P))))] t (λu f=>∃k,u= .int .u32 k/\al (j !=k) (rt z ((.tuple #[.ii 0,.ii 6])) f) ((∃l m,(cI d (Int.toNat (ZG .i64 (4+(ZG .i64 P)))) c 1)=some ⟨l,m,none⟩/\(0:Int)<=4/\4<((Int.toNat (ZG .i64 ((ZG .i64 (4+(ZG .i64 P)))+5))-Int.toNat (ZG .i64 (4+(ZG .i64 P))):Nat):Int)/\(∃n,f.cell? (ad l (m+Int.toNat 4))=some (.int .u8 n)/\al (n !=10) (rt z ((.tuple #[.ii 0,.ii 6])) f) (rt z ((.tuple #[.ii (ZG .i64 P),.ii 0])) f))))) (pZ z)) (pZ z)))))))))))) (pE z)))):YX 251 #[.slice d a c] b z:=DC AI Tryz.func251 rfl o
def lT:kf:=⟨[],[(3,[])],[],[],[]⟩
def lU(m:(∃g:ZU,(al (decide ((e:Int)<0)) (aG ZP (Instr.panic (.iface 9 (.string (⟨#[99,97,110,110,111,116,32,98,101,32,110,101,103,97,116,105,118,101]⟩:ByteArray)))) b (λu n=>
   g n) (λP b=>z (.panicked [{v:=P,recovered:=false}]) b)) (g b))/\∀(v:Nat->Value) (j:World),g j->aG ZP (Builtin.cap_ #[197] 3 #[.slice d a c]) j (λo k=>
   ∃(h:Int),o= ZH h/\al (decide (((ZG .i64 (e-(ZG .i64 (h-((a:Nat):Int))))):Int)>0)) (aG ZP (Builtin.cap_ #[197] 3 #[.slice d a c]) k (λp q=>
   ∃(f:Int),p= ZH f/\((0:Int)<=f/\(f:Int)<=((c:Nat):Int)/\aG ZP (Builtin.append_ #[197,3] 197 #[.slice d (Int.toNat f) c,ZH (ZG .i64 (e-(ZG .i64 (h-((a:Nat):Int)))))]) q (λr s=>
   ∃(l:YQ) (t:Nat) (i:Nat),r= .slice l t i/\((0:Int)<=((a:Nat):Int)/\(((a:Nat):Int):Int)<=((i:Nat):Int)/\
   z (.returned (.slice l (Int.toNat ((a:Nat):Int)) i)) s)) (λP b=>z (.panicked [{v:=P,recovered:=false}]) b))) (λP b=>z (.panicked [{v:=P,recovered:=false}]) b)) (z (.returned (.slice d a c)) k)) (λP b=>
   z (.panicked [{v:=P,recovered:=false}]) b))):
  YX 315 #[.slice d a c,ZH e] b z:=
 qZ lT mixed Tryz.func315 rfl (Zv kR) kR (Eq.mp kR m)
def kD:kf:=⟨[(3,[(3,ZH 0),(11,ZH 0)]),(11,[(6,.slice none 0 0),(27,ZH 0)])],[],[],[],[]⟩
def kH(J:(∃m:Nat->Int->Int->ZU,(∃i,m i 0 0 b)/\∀(i:Nat) (j:Int) (g:Int) (T:Nat->Value) (k:World),m i j g k->al (decide ((g:Int)<((a:Nat):Int))) ((∃s t,d=some ⟨s,t,none⟩/\
   (0:Int)<=g/\g<((a:Nat):Int)/\(∃(K:YQ) (n:Nat) (L:Nat),k.cell? ⟨s,t+Int.toNat g,none⟩=some (.slice K n L)/\
   al (decide (((ZG .i64 (j+((n:Nat):Int))):Int)<0)) (aG ZP (Instr.panic (.iface 9 (.string (⟨#[108,101,110,32,111,117,116,32,111,102,32,114,97,110,103,101]⟩:ByteArray)))) k (λU M=>
   (∃l,l<i/\m l (ZG .i64 (j+((n:Nat):Int))) (ZG .i64 (g+1)) M)) (λq b=>z (.panicked [{v:=q,recovered:=false}]) b)) ((∃l,l<i/\
   m l (ZG .i64 (j+((n:Nat):Int))) (ZG .i64 (g+1)) k))))) (PC ZP 315 #[.slice none 0 0,ZH j] k (λN O=>
   ∃(u:YQ) (v:Nat) (w:Nat),N= .slice u v w/\(∃r:Nat->YQ->Nat->Nat->Int->ZU,(∃o,r o u v w 0 O)/\
   ∀(o:Nat) (P:YQ) (e:Nat) (f:Nat) (h:Int) (V:Nat->Value) (p:World),r o P e f h p->al (decide ((h:Int)<((a:Nat):Int))) ((∃x y,d=some ⟨x,y,none⟩/\
   (0:Int)<=h/\h<((a:Nat):Int)/\(∃(A:YQ) (B:Nat) (C:Nat),p.cell? ⟨x,y+Int.toNat h,none⟩=some (.slice A B C)/\
   aG ZP (Builtin.append_ #[197,197] 197 #[.slice P e f,.slice A B C]) p (λQ R=>∃(E:YQ) (F:Nat) (H:Nat),Q= .slice E F H/\
   (∃I,I<o/\r I E F H (ZG .i64 (h+1)) R)) (λq b=>z (.panicked [{v:=q,recovered:=false}]) b)))) (z (.returned (.slice P e f)) p))) (λS b=>
   z (.panicked S) b)))):
  YX 283 #[.slice d a c] b z:=
 qZ kD mixed Tryz.func283 rfl (Zv kR) kR (Eq.mp kR J)
end Go.Proofs.YtblabbpipmodgaaGreatDoor
namespace Go.aw
open Go
abbrev ai(P a:World):Prop:=aj (λ_=>False) P a
variable{c8:Addr}{e7:Array MapEntry}{p:Array Value}{y:FuncId}{e:Int}{s:List Int}{a3:List PanicEntry->ZU}{F a c i o:Nat}{a4 f:ZN}{C:Nat×Nat}{c4:Obj}{S Y:Operand}{d:YQ}{c5:Option Nat}{h:Program}{A g n:TypeId}{m t:ZR}{a9 b k:World}{x:ZU}
def aj.refl(P:World):aj f P P:=⟨rfl,rfl,rfl,Q4 _,λ_ _ _=>rfl⟩
def aj.trans{e g h:ZN}(a:aj g b k)(P:aj h k a9)(j:∀P,P<b.heap.size->g P->e P)(l:∀P,P<b.heap.size->h P->e P):aj e b a9:=
 ⟨P.os.trans a.os,P.tape.trans a.tape,P.output.trans a.output,Xx a.size P.size,λc d i=>
  (P.block c (Qk d a.size) (λf=>i (l c d f))).trans (a.block c d (λf=>i (j c d f)))⟩
def aj.mono(a:aj f b k)(d:∀P,P<b.heap.size->f P->a4 P):aj a4 b k:=
 ⟨a.os,a.tape,a.output,a.size,λP c e=>a.block P c λg=>e (d P c g)⟩
def aj.then(P:aj f b k)(a:aj f k a9):aj f b a9:=P.trans a (λ_ _ P=>P) (λ_ _ P=>P)
def aj.new(a:aj f b k)(P:aj a4 k a9)(c:∀P,a4 P->f P\/b.heap.size<=P):aj f b a9:=
 a.trans P (λ_ _ a=>a) (λd g e=>(c d e).resolve_right oM)
def aj.af(P:aj f b k)(a:ai k a9):aj f b a9:=P.trans a (λ_ _ P=>P) (λ_ _ P=>P.elim)
def ai.keep{S:ZN}(P:ai b k):aj S b k:=P.mono λ_ _ P=>P.elim
def aj.alloc{c:ZN}(P:World)(a:Obj):aj c P (P.alloc a):=
 ⟨rfl,rfl,rfl,sM,λd b _=>by first|exact heap_alloc_old P a d b|exact heap_alloc_old P a b⟩
def aj.drewN{S:ZN}(P:World)(a:Nat):aj S P (P.drewN a):=⟨rfl,rfl,rfl,Q4 _,λ_ _ _=>rfl⟩
def bX.keep{S:ZN}(P:bX b k):aj S b k:=by obtain⟨a,rfl⟩:=P;exact aj.drewN b a
def bX.heap(P:bX b k):k.heap=b.heap:=by obtain⟨a,rfl⟩:=P;rfl
def aj.setCell(P:World)(a:Addr)(b:Value)(c:f a.block):aj f P (P.setCell a b):=
 ⟨rfl,rfl,rfl,by simp[World.setCell],λe _ d=>by
  simp only[World.setCell,Array.getElem?_modify];rw[Zq (by rintro rfl;exact d c)]⟩
def aj.below(P:ai b k):RowKit.Below b.heap.size b k:=⟨P.os,P.tape,P.output,P.size,λa c=>P.block a c (λP=>P)⟩
def aj.Hj(P:RowKit.Below b.heap.size b k):ai b k:=⟨P.os,P.tape,P.output,P.size,λa c _=>P.block a c⟩
def aj.of_grownBy(P:b.grownBy k c5):aj (λa=>some a=c5) b k:=⟨P.os,P.tape,P.output,P.size,λa c d=>P.block a c d⟩
def aj.cell(P:aj f b k){a:Addr}(c:a.block<b.heap.size)(j:¬f a.block):k.cell? a=b.cell? a:=
 World.cell?_of_block (w:=b) (P.block a.block c j)
def aj.get(c:aj f b k)(P:b.heap[a]? =some c4)(d:¬f a):k.heap[a]? =some c4:=by
 rw[c.block a (Q5.1 P).1 d];exact P
def aA(P:b.heap[a]? =some c4):a<b.heap.size:=(Q5.1 P).1
def ae{cs:Array Value}(P:b.heap[a]? =some (Obj.cells cs g C)){off:Nat}{v:Value}(c:cs[off]? =some v):
  b.cell? ⟨a,off,none⟩=some v:=by simp[World.cell?,P,c]
def PA.mk(a:∀P,ai b P->P.heap.size=b.heap.size+1->P.heap[b.heap.size]? =some c4->x P):PA b c4 x:=
 a (b.alloc c4) (aj.alloc b c4) sM (heap_alloc_new b c4)
def PS.mk{v:Value}{cs:Array Value}(d:b.heap[a]? =some (.cells cs g (0,0)))(e:c<cs.size)(f:∀P,aj (·=a) b P->P.heap.size=b.heap.size->P.heap[a]? =some (.cells (cs.setIfInBounds c v) g (0,0))->x P):PS b ⟨a,c,none⟩ v x:=by
 refine⟨⟨cs[c],ae d (by simp[e])⟩,by simp[World.frozen?,d],f _ (aj.setCell b _ v rfl) (by simp[World.setCell]) ?_⟩;simp[World.setCell,Array.getElem?_modify,d]
def Ok(a:ZR):ZT:=λb c=>∃P,b= .returned P/\a P c
def Ok.mk{v:Value}(P:m v b):Ok m (.returned v) b:=⟨v,rfl,P⟩
def PC.ok{φ c:ZR}(d:Calls h y p b (Ok φ))(e:∀P a,φ P a->c P a):PC h y p b c a3:=
 d.mono λi a ⟨P,f,g⟩=>by subst f;exact e P a g
def Calls.ok{φ c:ZR}(d:Calls h y p b (Ok φ))(e:∀P a,φ P a->c P a):Calls h y p b (Ok c):=
 d.mono λi a ⟨P,f,g⟩=>⟨P,f,e P a g⟩
def aN(P:Int):Prop:= -9223372036854775808<=P/\P<=9223372036854775807
theorem bb{p:Prop}(h:p:=by unfold aN;omega):p:=h
def wrap_i64{x:Int}(P:aN x):ZG .i64 x=x:=by
 unfold aN at P;unfold ZG;simp[IntKind.signed,IntKind.bits];omega
def aO:Nat:=140737488355328
theorem ba{p:Prop}(h:p:=by unfold aO;omega):p:=h
structure Ints (w:World) (a:YQ) (n:Nat) (xs:List Int):Prop where
 len:n=xs.length
 dO:n*8<=aO
 zf:∀x∈xs,aN x
 cell:∀(i:Nat) x,xs[i]? =some x->∃b off,a=some ⟨b,off,none⟩/\b<w.heap.size/\w.cell? ⟨b,off+i,none⟩=some (ZH x)
def oF(a:ZN)(b:YQ):Prop:=∀P,b=some P->¬a P.block
def oF.none:oF f Option.none:=λ_ P=>by cases P
def Ints.keep{S:ZN}{a:YQ}{e:Nat}(c:Ints b a e s)(f:aj S b k)(i:oF S a):Ints k a e s:=
 ⟨c.len,c.dO,c.zf,λg j l=>by
  obtain⟨d,P,rfl,h,m⟩:=c.cell g j l;exact⟨d,P,rfl,Qk h f.size,(f.cell (a:=⟨d,P+g,none⟩) h (i ⟨d,P,none⟩ rfl)).trans m⟩⟩
def Ints.af(P:Ints b d a s)(c:ai b k):Ints k d a s:=P.keep c λ_ _ P=>P
def Ints.nil(P:World):Ints P none 0 []:=⟨rfl,by simp[aO],sM,λb c a=>by simp at a⟩
def Ints.at(e:Ints b d a s){i:Int}(k:0<=i)(l:i<(a:Int)):
  ∃c P x,d=some ⟨c,P,none⟩/\c<b.heap.size/\s[i.toNat]? =some x/\aN x/\b.cell? ⟨c,P+i.toNat,none⟩=some (ZH x):=by
 have m:=e.len;have f:i.toNat<s.length:=oM
 obtain⟨c,P,g,h,j⟩:=e.cell i.toNat s[i.toNat] (by simp[f]);exact⟨c,P,_,g,h,by simp[f],e.zf _ (XY f),j⟩
def aH:YQ->Option Nat
 |none=>none
 |some P=>some P.block
def Ints.Hk(P:Ints b d a s)(e:aj f b k)(g:s≠[]->oF f d):Ints k d a s:=by
 by_cases c:s=[]
 ·subst c;exact⟨P.len,P.dO,P.zf,λi j h=>by simp at h⟩
 ·exact P.keep e (g c)
def dx:oF f d↔∀P,aH d=some P->¬f P:=by
 cases d with
 |none=>simp[oF,aH]
 |some d=>simp[oF,aH]
structure Own (w:World) (e:TypeId) (k:Nat) (a:YQ) (n c:Nat) (cs:List Value):Prop where
 row:w.ownsRow 0 e k (.slice a n c) n cs
def Own.nil(P:World)(e:TypeId)(a:Nat):Own P e a none 0 0 []:=⟨World.ownsRow_nil P 0 e a⟩
def Own.length{cs:List Value}(P:Own b g a d c i cs):cs.length=c*a:=P.row.1
def Own.cases{cs:List Value}(h:Own b g a d c i cs):
  (d=none/\c=0/\i=0/\cs=[])\/
  ∃f P,d=ZM f/\b.heap[f]? =some (.cells P g (0,0))/\c<=i/\P.size=i*a/\P.toList.take (c*a)=cs:=by
 rcases h.row.2 with⟨e,o⟩|⟨f,j,P,e,_,k,l,_,m,n⟩
 ·simp only[XX]at e
  obtain⟨rfl,rfl,rfl⟩:=e;exact .inl ⟨rfl,rfl,rfl,QW (by simpa using h.row.1)⟩
 ·simp only[XX]at e
  obtain⟨rfl,-,rfl⟩:=e;exact .inr ⟨f,P,rfl,k,l,m,n⟩
def Own.keep{S:ZN}{cs:List Value}(j:Own b g a d c i cs)(l:aj S b k)(m:oF S d):Own k g a d c i cs:=by
 refine⟨⟨j.row.1,?_⟩⟩;rcases j.row.2 with n|⟨o,e,f,h,p,q,P⟩
 ·exact .inl n
 ·refine .inr ⟨o,e,f,h,p,l.get q ?_,P⟩
  simp only[XX]at h;exact m _ h.1
def Own.af{cs:List Value}(P:Own b g a d c i cs)(e:ai b k):Own k g a d c i cs:=P.keep e λ_ _ P=>P
def Own.lt{cs:List Value}(e:Own b g a d c i cs)(P:aH d=some o):o<b.heap.size:=by
 rcases e.cases with⟨rfl,_⟩|⟨j,f,rfl,h,_⟩
 ·cases P
 ·simp only[aH,Q1]at P
  subst P;exact aA h
def Own.cell{c:World}{e:TypeId}{f:Nat}{a:YQ}{g h:Nat}{cs:List Value}(i:Own c e f a g h cs){j:Nat}{u:Value}(P:cs[j]? =some u):
  ∃b,a=ZM b/\b<c.heap.size/\c.cell? ⟨b,j,none⟩=some u:=by
 rcases i.cases with⟨_,_,_,rfl⟩|⟨b,k,rfl,d,_,_,l⟩
 ·simp at P
 ·refine⟨b,rfl,aA d,ae d ?_⟩
  rw[<-l,Xw]at P;split at P
  ·simpa using P
  ·cases P
def Own.zO{cur:Array Value}(d:b.heap[c]? =some (.cells cur g (0,0)))(P:cur.size=i*a)(e:i<=maxLen):
  Own b g a (ZM c) i i cur.toList:=
 ⟨⟨by simpa using P,.inr ⟨c,i,cur,rfl,Qj _,d,Q4 _,e,P,by rw[Qz];simp[P]⟩⟩⟩
structure jq (P:Program) (t e:TypeId) (k bytes:Nat):Prop where
 under:P.underlying t=some (.slice e)
 row:(P.info? e).map (λi=>(i.zero.map λz=>z.cells.size,i.size,i.bytes))=some (some k,k,bytes)
 pos:0<k
def jq.info{c:Program}{h d:TypeId}{e bytes:Nat}(i:jq c h d e bytes):∃a b,c.info? d=some a/\a.zero=some b/\a.size=e/\a.bytes=bytes/\b.cells.size=e:=by
 have P:=i.row
 cases g:c.info? d with
 |none=>rw[g]at P;cases P
 |some a=>
  rw[g]at P;simp only[Option.map_some,Q1,Prod.mk.injEq]at P
  cases f:a.zero with
  |none=>rw[f]at P;cases P.1
  |some b=>
   rw[f]at P;exact⟨a,b,rfl,f,P.2.1,P.2.2,by simpa using P.1⟩
def EU{P:Program}{h bytes:Nat}(p:jq P g n h bytes){q news:List Value}(x:Own b n h d a c q)(y:∀k l,news[k]? =some l->b.cell? (c8.add k)=some l)(z:news.length=i*h)(B:∀l∈news,l.oneCell'=true)(C:(a+i)*bytes<=aO)(E:a+i<=maxLen)(F:∀e f j,Own j n h e (a+i) f (q++news)->aj (λk=>some k=aH d) b j->(aH e=aH d\/aH e=some b.heap.size)->m (.slice e (a+i) f) j):
  aG P (Builtin.append_ #[g,g] A #[.slice d a c,.slice (some c8) i o]) b m t:=by
 obtain⟨H,I,J,K,L,M,N⟩:=jq.info p;obtain⟨O,j,Q,r,s,U,u⟩:=run_append_own_at (P:=P) b 0 g A n H I h bytes p.under J K L M N p.pos (.slice d a c) a q x.row
  c8 i o news z y B E C (Qj _)
 have R:∀(d:YQ) a c,(Value.slice d a c).ownBlock=aH d:=λd a c=>by cases d<;>rfl
 have S:∃e f,O= .slice e (a+i) f:=by
  rcases r.2 with⟨rfl,T⟩|⟨V,v,w,rfl,_⟩
  ·exact⟨none,0,by rw[T]⟩
  ·exact⟨_,_,rfl⟩
 obtain⟨e,f,rfl⟩:=S;simp only[R]at s u;exact aG.mk Q (F e f j ⟨r⟩ (aj.of_grownBy s) u)
def zh{P bytes:Nat}(s:jq h g n P bytes){k news:List Value}(u:Own b n P d a c k)(v:b.heap[i]? =some (.cells p n C))(w:p.toList.take (o*P)=news)(x:news.length=o*P)(y:∀l∈news,l.oneCell'=true)(z:(a+o)*bytes<=aO)(B:a+o<=maxLen)(E:∀e q j,Own j n P e (a+o) q (k++news)->aj (λr=>some r=aH d) b j->(aH e=aH d\/aH e=some b.heap.size)->m (.slice e (a+o) q) j):
  aG h (Builtin.append_ #[g,g] A #[.slice d a c,.slice (ZM i) o F]) b m t:=by
 exact EU s u (λr l f=>by
   rw[Addr.add_lit,Xz];refine ae v ?_;rw[<-w,Xw]at f;split at f
   ·simpa using f
   ·cases f) x y z B E
def ints(P:List Int):List Value:=P.map (Value.int .i64)
def jr(P:List Int):(ints P).length=P.length:=by simp[ints]
def Own.ints(e:Own b g 1 d a c (ints s))(h:a*8<=aO)(i:∀P∈s,aN P):Ints b d a s:=by
 have f:=e.length;rw[jr,Nat.mul_one]at f;refine⟨f.symm,h,i,λj P k=>?_⟩;obtain⟨l,m,n,o⟩:=e.cell (j:=j) (u:=ZH P) (by simp[aw.ints,k]);exact⟨l,0,m,n,by rw[Xz];exact o⟩
def LU(l:jq h g n 1 8)(o:Own b n 1 d a c (ints s))(p:b.heap[i]? =some (.cells #[ZH e] n (0,0)))(k:(a+1)*8<=aO)(q:∀P j f,Own f n 1 P (a+1) j (ints (s++[e]))->aj (λr=>some r=aH d) b f->(aH P=aH d\/aH P=some b.heap.size)->m (.slice P (a+1) j) f):
  aG h (Builtin.append_ #[g,g] A #[.slice d a c,.slice (ZM i) 1 1]) b m t:=
 zh l (news:=[ZH e]) o p sM sM (by simp[Value.oneCell']) k (by unfold aO at k;unfold maxLen;omega)
  λP j f u v w=>q P j f (by simpa[ints]using u) v w
def Cq(b:h.underlying g=some (.slice n))(c:Nat)(P:YQ)(d e:Nat)(a:World):
  (Op.equalIn (c+1) g (.slice P d e) (.slice none 0 0)).run h a= .ok P.isNone a:=by
 cases P<;>simp[Op.equalIn,run_underlying b]
def xm(b:h.underlying g=some (.pointer n))(c:Nat)(P:YQ)(a:World):
  (Op.equalIn (c+1) g (.pointer P) (.pointer none)).run h a= .ok P.isNone a:=by
 cases P<;>simp[Op.equalIn,run_underlying b]
def j_(P:h.underlying g=some (.slice n))(e:m (.bool d.isNone) b):
  aG h (do eqGuard .eql g S Y (.slice d a c) (.slice none 0 0);binOp .eql g (.slice d a c) (.slice none 0 0)) b m t:=by
 refine aG.mk (v:=.bool d.isNone) ?_ e;have f:(do eqGuard .eql g S Y (.slice d a c) (.slice none 0 0);binOp .eql g (.slice d a c) (.slice none 0 0):Sem Value).run h b=
  ((Op.equalIn (9999+1) g (.slice d a c) (.slice none 0 0))>>=λi=>(pure (Value.bool i):Sem Value)).run h b:=rfl
 rw[f,Sem.run_bind,Cq P]
 rfl
def gA(P:h.underlying g=some (.pointer n))(a:m (.bool d.isNone) b):
  aG h (do eqGuard .eql g S Y (.pointer d) (.pointer none);binOp .eql g (.pointer d) (.pointer none)) b m t:=by
 refine aG.mk (v:=.bool d.isNone) ?_ a;have c:(do eqGuard .eql g S Y (.pointer d) (.pointer none);binOp .eql g (.pointer d) (.pointer none):Sem Value).run h b=
  ((Op.equalIn (9999+1) g (.pointer d) (.pointer none))>>=λe=>(pure (Value.bool e):Sem Value)).run h b:=rfl
 rw[c,Sem.run_bind,xm P]
 rfl
def pM(d:h.underlying g=some (.pointer n))(b c:Operand)(P:YQ)(a:World):
  (do eqGuard .neq g b c (.pointer P) (.pointer none);binOp .neq g (.pointer P) (.pointer none):Sem Value).run h a= .ok (.bool P.isSome) a:=by
 have e:(do eqGuard .neq g b c (.pointer P) (.pointer none);binOp .neq g (.pointer P) (.pointer none):Sem Value).run h a=
  ((Op.equalIn (9999+1) g (.pointer P) (.pointer none))>>=λf=>(pure (Value.bool !f):Sem Value)).run h a:=rfl
 rw[e,Sem.run_bind,xm d]
 cases P<;>rfl
def zP(P:h.underlying g=some (.pointer n))(a:m (.bool d.isSome) b):
  aG h (do eqGuard .neq g S Y (.pointer d) (.pointer none);binOp .neq g (.pointer d) (.pointer none)) b m t:=aG.mk (pM P S Y d b) a
def Own.TQ{cs:List Value}(f:Own b g a d c i cs)(e:b.heap[o]? =some (.map e7 F)):aH d≠some o:=by
 intro P;rcases f.cases with⟨rfl,_⟩|⟨k,h,rfl,j,_⟩
 ·cases P
 ·simp only[aH,Q1]at P
  subst P;rw[j]at e;cases e
structure cQ (F:ZN) (w:World) (F':ZN) (w':World):Prop where
 keep:aj F w w'
 new:∀b,F' b->F b\/w.heap.size<=b
def cQ.refl(a:ZN)(P:World):cQ a P a P:=⟨aj.refl P,λ_ b=>.inl b⟩
def cQ.trans{c G d:ZN}{e f g:World}(P:cQ c e G f)(h:cQ G f d g):cQ c e d g:=
 ⟨P.keep.trans h.keep (λ_ _ P=>P) (λa i j=>(P.new a j).resolve_right oM),λa i=>by
  rcases h.new a i with b|b
  ·exact P.new a b
  ·exact .inr (Xx P.keep.size b)⟩
def cQ.left{d G e:ZN}(f:cQ d b e k):cQ (λP=>d P\/G P) b (λP=>e P\/G P) k:=⟨f.keep.mono λP _ a=>.inl a,λP a=>a.elim (λc=>(f.new P c).imp .inl id) λc=>.inl (.inr c)⟩
def cQ.right{d G e:ZN}(f:cQ G b e k):cQ (λP=>d P\/G P) b (λP=>d P\/e P) k:=⟨f.keep.mono λP _ a=>.inr a,λP a=>a.elim (λc=>.inl (.inl c)) λc=>(f.new P c).imp .inr id⟩
end Go.aw
namespace Go.aw
open Go
variable{c8:Addr}{p:Array Value}{J:Bool}{d1 w:ByteArray}{e q:Int}{a2:List Value}{a c i o:Nat}{f:ZN}{C:Nat×Nat}{d r:YQ}{h:Program}{M a6:Prop}{j:Type}{A g n:TypeId}{m t:ZR}{a9 b k:World}
def al.dec[Decidable M]{a b:Prop}(c:M->a)(d:¬M->b):al (decide M) a b:=
 al.mk (λP=>c (XV P)) (λP=>d (Xy P))
def al.dV(a:e≠q->M)(b:e=q->a6):al (e !=q) M a6:=
 al.mk (λP=>a (by simpa using P)) (λP=>b (by simpa using P))
def al.eD(a:e=q->M)(b:e≠q->a6):al (e==q) M a6:=
 al.mk (λP=>a (by simpa using P)) (λP=>b (by simpa using P))
def al.not(P:al J a6 M):al (!J) M a6:=by cases J<;>exact P
def Oe(a:w.toList=d1.toList):w=d1:=by
 have b:∀P:ByteArray,P.toList=P.data.toList:=λP=>ByteArray.toList_eq P;rw[b,b]at a;exact ByteArray.ext (Array.toList_inj.1 a)
def al.Wn(a:w=d1->M)(b:w≠d1->a6):al (ByteArray.toList w==ByteArray.toList d1) M a6:=
 al.mk (λP=>a (Oe (by simpa using P))) (λP=>b (λc=>by subst c;simp at P))
def al.Xr(P:w≠d1->M)(a:w=d1->a6):al (!(ByteArray.toList w==ByteArray.toList d1)) M a6:=(al.Wn a P).not
def an(P:a<4611686018427387904):ZG .i64 ((a:Int)+1)=((a+1:Nat):Int):=by
 rw[wrap_i64 bb];simp
def bX.then(P:bX b k)(a:bX k a9):bX b a9:=by obtain⟨c,rfl⟩:=P;obtain⟨d,rfl⟩:=a;exact⟨c+d,sM⟩
def bX.refl(P:World):bX P P:=⟨0,rfl⟩
def Ec{P b:List j}{c:j}(d:P.take a=b.take a)(e:P[a]? =some c)(f:b[a]? =some c):P.take (a+1)=b.take (a+1):=by
 rw[Qw,Qw,d,e,f]
structure jU (α:Type) where
 k:Nat
 rep:World->(ZN)->α->List Value->Prop
 keep:∀{S D:ZN} {w w':World} {x:α} {cs:List Value},rep w D x cs->aj S w w'->(∀b,D b->¬S b)->rep w' D x cs
 mono:∀{D D':ZN} {w:World} {x:α} {cs:List Value},rep w D x cs->(∀b,D b->D' b)->rep w D' x cs
 len:∀{D:ZN} {w:World} {x:α} {cs:List Value},rep w D x cs->cs.length=k
 one:∀{D:ZN} {w:World} {x:α} {cs:List Value},rep w D x cs->∀u∈cs,u.oneCell'=true
def flat{c:Type}(d:Nat)(P:c->List Value)(e:c->Prop)(f:∀b,(P b).length=d)(g:∀b,∀h∈P b,h.oneCell'=true):jU c where
 k:=d
 rep:=λ_ _ b cs=>cs=P b/\e b
 keep:=λa _ _=>a
 mono:=λa _=>a
 len:=λa=>by rw[a.1];exact f _
 one:=λa=>by rw[a.1];exact g _
def aM:jU Int:=flat 1 (λP=>[ZH P]) aN (λ_=>rfl) (λP b a=>by simp at a;subst a;rfl)
def fN:jU UInt8:=flat 1 (λP=>[.int .u8 P.toNat]) (λ_=>True) (λ_=>rfl) (λP b a=>by simp at a;subst a;rfl)
def Ns:jU ByteArray:=flat 1 (λP=>[.string P]) (λ_=>True) (λ_=>rfl) (λP b a=>by simp at a;subst a;rfl)
structure Row {α:Type} (c:jU α) (bytes:Nat) (w:World) (D:ZN) (a:YQ) (n:Nat) (xs:List α):Prop where
 len:n=xs.length
 dO:n*bytes<=aO
 el:∀(i:Nat) x,xs[i]? =some x->∃b off es,a=some ⟨b,off,none⟩/\b<w.heap.size/\D b/\(∀j,j<c.k->w.cell? ⟨b,off+i*c.k+j,none⟩=es[j]?)/\c.rep w D x es
section
variable {α:Type} {c:jU α} {bytes:Nat} {w w':World} {D D' S:ZN} {a:YQ} {n:Nat} {xs:List α}
def Row.keep(d:Row c bytes w D a n xs)(e:aj S w w')(f:∀P,D P->¬S P):Row c bytes w' D a n xs:=
 ⟨d.len,d.dO,λg k l=>by
  obtain⟨P,b,m,o,h,i,p,q⟩:=d.el g k l;exact⟨P,b,m,o,Qk h e.size,i,λj r=>(e.cell (a:=⟨P,b+g*c.k+j,none⟩) h (f P i)).trans (p j r),c.keep q e f⟩⟩
def Row.af(P:Row c bytes w D a n xs)(b:ai w w'):Row c bytes w' D a n xs:=P.keep b λ_ _ P=>P
def Row.mono(b:Row c bytes w D a n xs)(e:∀P,D P->D' P):Row c bytes w D' a n xs:=
 ⟨b.len,b.dO,λf g h=>by
  obtain⟨P,d,i,j,k,l,m,o⟩:=b.el f g h;exact⟨P,d,i,j,k,e P l,m,c.mono o e⟩⟩
def Row.nil(w:World)(D:ZN):Row c bytes w D none 0 []:=⟨rfl,sM,λa b P=>by simp at P⟩
def Row.at(f:Row c bytes w D a n xs){i:Int}(o:0<=i)(p:i<(n:Int)):
  ∃b P x d,a=some ⟨b,P,none⟩/\b<w.heap.size/\D b/\xs[i.toNat]? =some x/\(∀e,e<c.k->w.cell? ⟨b,P+i.toNat*c.k+e,none⟩=d[e]?)/\c.rep w D x d:=by
 have q:=f.len;have g:i.toNat<xs.length:=oM
 obtain⟨b,P,d,h,j,k,l,m⟩:=f.el i.toNat xs[i.toNat] (by simp[g]);exact⟨b,P,_,d,h,j,k,by simp[g],l,m⟩
def Row.vQ(g:Row c bytes w D a n xs){i:Nat}(h:i<n):
  ∃b P e f,a=some ⟨b,P,none⟩/\b<w.heap.size/\D b/\xs[i]? =some e/\(∀d,d<c.k->w.cell? ⟨b,P+i*c.k+d,none⟩=f[d]?)/\c.rep w D e f:=by
 have:=g.at (i:=(i:Int)) oM oM;simpa using this
end
def Row.lN{e:j->Value}{g:j->Prop}{hl h1}{bytes:Nat}{D:ZN}{h:List j}(k:Row (flat 1 (λc=>[e c]) g hl h1) bytes b D d a h){i:Nat}(l:i<a):
  ∃f P c,d=some ⟨f,P,none⟩/\h[i]? =some c/\g c/\b.cell? ⟨f,P+i,none⟩=some (e c):=by
 obtain⟨f,P,c,q,m,r,_,n,o,rfl,p⟩:=k.vQ l;refine⟨f,P,c,m,n,p,?_⟩;have:=o 0 Nat.one_pos;simpa[flat]using this
def bR{P:Type}(a:jU P)(b:World)(D:ZN):List P->List Value->Prop
 |[],cs=>cs=[]
 |x::e,cs=>∃c d,cs=c++d/\a.rep b D x c/\bR a b D e d
section
variable {α:Type} {c:jU α} {w w':World} {D D' S:ZN}
def bR.keep(a:aj S w w')(b:∀d,D d->¬S d):∀{P:List α} {cs:List Value},bR c w D P cs->bR c w' D P cs
 |[],_,e=>e
 |x::P,_,⟨f,g,h,i,j⟩=>⟨f,g,h,c.keep i a b,bR.keep a b j⟩
def bR.mono(a:∀b,D b->D' b):∀{P:List α} {cs:List Value},bR c w D P cs->bR c w D' P cs
 |[],_,d=>d
 |x::P,_,⟨e,f,g,h,i⟩=>⟨e,f,g,c.mono h a,bR.mono a i⟩
def bR.append:∀{xs a:List α} {cs P:List Value},bR c w D xs cs->bR c w D a P->bR c w D (xs++a) (cs++P)
 |[],a,_,P,d,b=>by cases d;exact b
 |x::xs,a,_,P,⟨e,f,g,h,i⟩,b=>⟨e,f++P,by rw[g,XQ],h,bR.append i b⟩
def bR.one{x:α}(P:c.rep w D x a2):bR c w D [x] a2:=⟨a2,[],sM,P,rfl⟩
def bR.length:∀{P:List α} {cs:List Value},bR c w D P cs->cs.length=P.length*c.k
 |[],_,a=>by cases a;simp
 |x::P,_,⟨f,g,b,d,e⟩=>by
  rw[b,QX,c.len d,bR.length e,Xq,X7,Nat.one_mul,Nat.add_comm]
def bR.PV:∀{b:List α} {cs:List Value},bR c w D b cs->∀a∈cs,a.oneCell'=true
 |[],_,d,a,P=>by cases d;simp at P
 |x::b,_,⟨h,i,e,f,g⟩,a,P=>by
  rw[e]at P;rcases Q6.1 P with P|P
  ·exact c.one f a P
  ·exact bR.PV g a P
def bR.at:∀{d:List α} {cs:List Value},bR c w D d cs->∀{i:Nat} {x:α},d[i]? =some x->∃b,(∀P,P<c.k->cs[i*c.k+P]? =b[P]?)/\c.rep w D x b
 |[],_,m,i,x,a=>by simp at a
 |y::d,_,⟨b,n,e,f,h⟩,i,x,a=>by
  have o:=c.len f
  cases i with
  |zero=>
   simp at a;subst a;refine⟨b,λP g=>?_,f⟩;rw[e,Nat.zero_mul,Xz,XW oM]
  |succ i=>
   obtain⟨j,k,l⟩:=bR.at h (i:=i) (x:=x) (by simpa using a);refine⟨j,λP g=>?_,l⟩;rw[e,X7,Nat.one_mul,X8 oM,<-k P g]
   congr 1
   omega
def bR.take:∀{P:List α} {cs:List Value},bR c w D P cs->∀(m:Nat),bR c w D (P.take m) (cs.take (m*c.k))
 |[],_,b,m=>by cases b;simp[bR]
 |x::P,_,⟨d,e,f,a,g⟩,m=>by
  have h:=c.len a
  cases m with
  |zero=>simp[bR]
  |succ m=>
   refine⟨d,e.take (m*c.k),?_,a,bR.take g m⟩;rw[f,X7,Nat.one_mul,Nat.add_comm,List.take_append,h,Qz oM]
   congr 2
   omega
def Row.bW{bytes:Nat}{i:List α}(v:Row c bytes w D d a i):∃cs,bR c w D i cs/\(i≠[]->0<c.k->∃b P,d=some ⟨b,P,none⟩/\b<w.heap.size/\D b/\∀e f,cs[e]? =some f->w.cell? ⟨b,P+e,none⟩=some f):=by
 have l:∀(m:List α) (g:Nat),(∀j k,m[j]? =some k->i[g+j]? =some k)->∃cs,bR c w D m cs/\∀b P,d=some ⟨b,P,none⟩->0<c.k->∀e f,cs[e]? =some f->w.cell? ⟨b,P+g*c.k+e,none⟩=some f:=by
  intro m
  induction m with
  |nil=>intro g _;exact⟨[],rfl,λb P _ _ e f h=>by simp at h⟩
  |cons x m F=>
   intro g y;obtain⟨z,q,r⟩:=F (g+1) (λj k s=>by have:=y (j+1) k (by simpa using s);rw[show g+1+j=g+(j+1) by omega];exact this);obtain⟨b,P,p,n,A,B,C,t⟩:=v.el g x (y 0 x rfl);refine⟨p++z,⟨p,z,rfl,t,q⟩,λJ E o u e f h=>?_⟩;rw[n]at o;cases o
   have K:=c.len t
   by_cases H:e<c.k
   ·rw[XW oM]at h
    rw[<-h];exact C e H
   ·rw[X8 oM]at h
    have:=r b P n u (e-p.length) f h;rw[<-this]
    congr 2
    rw[X7];omega
 obtain⟨cs,q,r⟩:=l i 0 (λj k s=>by simpa using s);refine⟨cs,q,λI u=>?_⟩
 cases i with
 |nil=>exact Zz rfl I
 |cons k i=>
  obtain⟨b,P,p,n,A,B,C,t⟩:=v.el 0 k rfl;refine⟨b,P,n,A,B,λe f h=>?_⟩;have:=r b P n u e f h;simpa using this
end
structure aU {α:Type} (c:jU α) (e:TypeId) (F:ZN) (w:World) (a:YQ) (n cap:Nat) (xs:List α):Prop where
 body:∃cs D,Own w e c.k a n cap cs/\bR c w D xs cs/\(∀b,D b->F b/\aH a≠some b)
 self:∀b,aH a=some b->F b
 aE:∀b,F b->b<w.heap.size
section
variable {α:Type} {c:jU α} {e:TypeId} {w w':World} {F F' S:ZN} {a:YQ} {n cap:Nat} {xs:List α}
def aU.nil(w:World):aU c e (λ_=>False) w none 0 0 []:=
 ⟨⟨[],λ_=>False,Own.nil _ _ _,rfl,λ_ P=>P.elim⟩,λa P=>(by cases P),λ_ P=>P.elim⟩
def aU.keep(d:aU c e F w a n cap xs)(f:aj S w w')(g:∀P,F P->¬S P):aU c e F w' a n cap xs:=by
 obtain⟨cs,D,i,j,h⟩:=d.body;exact⟨⟨cs,D,i.keep f (dx.2 λP b=>g P (d.self P b)),j.keep f (λP b=>g P (h P b).1),h⟩,d.self,λP b=>Qk (d.aE P b) f.size⟩
def aU.af(P:aU c e F w a n cap xs)(b:ai w w'):aU c e F w' a n cap xs:=P.keep b λ_ _ P=>P
def aU.mono(d:aU c e F w a n cap xs)(f:∀P,F P->F' P)(h:∀P,F' P->P<w.heap.size):aU c e F' w a n cap xs:=by
 obtain⟨cs,D,i,j,g⟩:=d.body;exact⟨⟨cs,D,i,j,λP b=>⟨f P (g P b).1,(g P b).2⟩⟩,λP b=>f P (d.self P b),h⟩
def aU.len(b:aU c e F w a n cap xs)(d:0<c.k):n=xs.length:=by
 obtain⟨cs,D,f,g,h⟩:=b.body;have P:=f.length;rw[g.length]at P;exact(Nat.eq_of_mul_eq_mul_right d P).symm
def Own.PU{P:Nat}{cs:List Value}(b:Own w e P a n cap cs):n<=cap:=by
 rcases b.cases with⟨_,rfl,rfl,_⟩|⟨f,c,_,_,d,_,_⟩
 ·exact Q4 _
 ·exact d
def aU.row{bytes:Nat}(d:aU c e F w a n cap xs)(i:0<c.k)(f:xs.length*bytes<=aO):Row c bytes w F a n xs:=by
 have j:=d.len i;obtain⟨cs,D,k,r,s⟩:=d.body;refine⟨j,by rw[j];exact f,λz A t=>?_⟩;obtain⟨g,l,m⟩:=r.at t;have B:=c.len m;have o:=l 0 i;rw[Nat.add_zero,Qq (show 0<g.length by omega)]at o;obtain⟨p,h,u,_⟩:=k.cell o;refine⟨p,0,g,h,u,d.self p (by rw[h];rfl),λq v=>?_,c.mono m λx f=>(s x f).1⟩;have P:=l q v;rw[Qq (show q<g.length by omega)]at P⊢;obtain⟨C,b,_,y⟩:=k.cell P;rw[h]at b;cases b
 rw[Xz];exact y
def Hf{o H:TypeId}{bytes:Nat}{x:α}(f:aU c e F w a n cap xs)(y:jq h o e c.k bytes){D:ZN}(q:c.rep w D x p.toList)(j:∀P,D P->P<w.heap.size/\aH a≠some P)(b:(xs.length+1)*bytes<=aO)(I:xs.length+1<=maxLen)(r:∀i g w' F',aU c e F' w' i (n+1) g (xs++[x])->aj (λs=>aH a=some s) w w'->(∀P,F' P->F P\/D P\/w.heap.size<=P)->(∀P,aH i=some P->F P\/w.heap.size<=P)->m (.slice i (n+1) g) w'):
  PA w (.cells p e) λu=>aG h (Builtin.append_ #[o,o] H #[.slice a n cap,.slice (ZM w.heap.size) 1 1]) u m t:=by
 have z:=f.len y.pos;obtain⟨cs,J,K,L,k⟩:=f.body;refine PA.mk λu A R M=>?_;have S:=c.len q;have N:=K.af A;refine zh y (news:=p.toList) N M (by rw[Qz oM]) oM (c.one q) (by rw[z];exact b) (by rw[z];exact I) λi O l C E B=>?_;have v:aj (λs=>aH a=some s) w l:=(ai.keep A).then (E.mono λ_ _ f=>f.symm)
 let F':ZN:=λP=>F P\/D P\/(w.heap.size<=P/\P<l.heap.size)
 have T:u.heap.size<=l.heap.size:=E.size;refine r i O l F' ⟨⟨_,λP=>J P\/D P,C,bR.append ((L.keep v λP b=>(k P b).2).mono λP b=>.inl b) (bR.one (c.mono (c.keep q v λP b=>(j P b).2) λP b=>.inr b)),?_⟩,?_,?_⟩ v ?_ ?_
 ·intro P b
  have U:P<w.heap.size:=b.elim (λd=>f.aE P (k P d).1) λd=>(j P d).1;refine⟨b.elim (λd=>.inl (k P d).1) λd=>.inr (.inl d),?_⟩;rcases B with B|B
  ·rw[B];exact b.elim (λd=>(k P d).2) λd=>(j P d).2
  ·rw[B];intro Q;cases Q;omega
 ·intro P b
  rcases B with B|B
  ·exact .inl (f.self P (B▸b))
  ·have:=C.lt b
   rw[B]at b;cases b;exact .inr (.inr ⟨oM,this⟩)
 ·rintro P (b|b|b)
  ·have:=f.aE P b;omega
  ·have:=(j P b).1;omega
  ·exact b.2
 ·rintro P (b|b|b)
  ·exact .inl b
  ·exact .inr (.inl b)
  ·exact .inr (.inr b.1)
 ·intro P b
  rcases B with B|B
  ·exact .inl (f.self P (B▸b))
  ·rw[B]at b;cases b;exact .inr oM
def kK{u K:TypeId}{bytes:Nat}(f:aU c e F w a n cap xs)(v:jq h u e c.k bytes){D:ZN}{l L:Nat}{j:List α}(A:Row c bytes w D (some c8) l j)(o:∀P,D P->P<w.heap.size/\aH a≠some P)(b:(xs.length+j.length)*bytes<=aO)(M:xs.length+j.length<=maxLen)(x:∀k g w' F',aU c e F' w' k (n+l) g (xs++j)->aj (λi=>aH a=some i) w w'->(∀P,F' P->F P\/D P\/w.heap.size<=P)->(∀P,aH k=some P->F P\/w.heap.size<=P)->m (.slice k (n+l) g) w'):
  aG h (Builtin.append_ #[u,u] K #[.slice a n cap,.slice (some c8) l L]) w m t:=by
 have C:=f.len v.pos;have y:=A.len;obtain⟨cs,N,O,Q,p⟩:=f.body;obtain⟨E,q,R⟩:=A.bW;have S:∀i r,E[i]? =some r->w.cell? (c8.add i)=some r:=λi r H=>by
  have T:j≠[]:=by rintro rfl;have:=q.length;simp at this;subst this;simp at H
  obtain⟨P,U,V,_,_,W⟩:=R T v.pos
  cases V
  rw[Addr.add_lit];exact W i r H
 refine EU v (news:=E) O S (by rw[q.length,y]) q.PV (by rw[C,y];exact b) (by rw[C,y];exact M) λk X s I J B=>?_;have z:aj (λi=>aH a=some i) w s:=J.mono λ_ _ f=>f.symm
 let F':ZN:=λP=>F P\/D P\/(w.heap.size<=P/\P<s.heap.size)
 have Z:w.heap.size<=s.heap.size:=J.size;refine x k X s F' ⟨⟨_,λP=>N P\/D P,I,bR.append ((Q.keep z λP b=>(p P b).2).mono λP b=>.inl b) ((q.keep z λP b=>(o P b).2).mono λP b=>.inr b),?_⟩,?_,?_⟩ z ?_ ?_
 ·intro P b
  have a1:P<w.heap.size:=b.elim (λd=>f.aE P (p P d).1) λd=>(o P d).1;refine⟨b.elim (λd=>.inl (p P d).1) λd=>.inr (.inl d),?_⟩;rcases B with B|B
  ·rw[B];exact b.elim (λd=>(p P d).2) λd=>(o P d).2
  ·rw[B];intro Y;cases Y;omega
 ·intro P b
  rcases B with B|B
  ·exact .inl (f.self P (B▸b))
  ·have:=I.lt b
   rw[B]at b;cases b;exact .inr (.inr ⟨Q4 _,this⟩)
 ·rintro P (b|b|b)
  ·have:=f.aE P b;omega
  ·have:=(o P b).1;omega
  ·exact b.2
 ·rintro P (b|b|b)
  ·exact .inl b
  ·exact .inr (.inl b)
  ·exact .inr (.inr b.1)
 ·intro P b
  rcases B with B|B
  ·exact .inl (f.self P (B▸b))
  ·rw[B]at b;cases b;exact .inr oM
end
def bR.free{b:Type}{d:Nat}{P:b->List Value}{e:b->Prop}{hl a}{f g:World}{D h:ZN}:∀{c:List b} {cs:List Value},bR (flat d P e hl a) f D c cs->bR (flat d P e hl a) g h c cs
 |[],_,i=>i
 |x::c,_,⟨j,k,a,l,m⟩=>⟨j,k,a,l,m.free⟩
def aU.alone{P:j->List Value}{l:j->Prop}{hl h1}{m:List j}(e:aU (flat a P l hl h1) g f b d c i m):
  aU (flat a P l hl h1) g (λh=>aH d=some h) b d c i m:=by
 obtain⟨cs,p,n,o,q⟩:=e.body;exact⟨⟨cs,λ_=>False,n,o.free,λ_ e=>e.elim⟩,λh k=>k,λh k=>e.aE h (e.self h k)⟩
def pC{a:Type}(h:jU a)(i:TypeId)(b:World)(j:List a)(k:Value)(c:World):Prop:=
 ∃d e P f,k= .slice d e P/\aU h i f c d e P j/\ai b c/\∀g,f g->b.heap.size<=g
def Row.lit{enc:j->Value}{d:j->Prop}{hl h1}{bytes:Nat}{cs:Array Value}(e:b.heap[a]? =some (.cells cs g C))(c:List j)(i:cs.toList=c.map enc)(k:∀P∈c,d P)(l:c.length*bytes<=aO):
  Row (flat 1 (λP=>[enc P]) d hl h1) bytes b (·=a) (ZM a) c.length c:=
 ⟨rfl,l,λf P h=>⟨a,0,[enc P],rfl,aA e,rfl,λm n=>by
  have:m=0:=Nat.lt_one_iff.1 n;subst this;have:cs.toList[f]? =some (enc P):=by rw[i];simp[h]
  have o:=ae e (off:=f) (v:=enc P) (by simpa using this);simpa[flat]using o,rfl,k P (QZ h)⟩⟩
def Row.part{P:jU j}{bytes:Nat}{D:ZN}{g:List j}(e:Row P bytes b D d a g){lo hi cap:Nat}(u:lo<=hi)(v:hi<=a)(w:a<=cap):
  Row P bytes b D (cI d lo cap P.k) (hi-lo) ((g.take hi).drop lo):=by
 have x:=e.len;refine⟨by simp;omega,Xx (Q0 _ oM) e.dO,λh i c=>?_⟩;rw[List.getElem?_drop,Xw]at c;split at c
 ·rename_i y
  obtain⟨k,f,l,m,n,o,p,q⟩:=e.el (lo+h) i c
  by_cases r:cap=lo
  ·omega
  ·exact⟨k,f+lo*P.k,l,by rw[m];simp[cI,r,Addr.add_lit],n,o,λs t=>by rw[<-p s t];congr 2;rw[X7];omega,q⟩
 ·cases c
def aU.lM{P:jU j}{e:List j}(h:aU P g f b d a c e):a<=c:=by
 obtain⟨cs,k,i,_⟩:=h.body;exact i.PU
def Row.take{e:jU j}{bytes:Nat}{D:ZN}{f:List j}(c:Row e bytes b D d a f){m:Nat}(g:m<=a):Row e bytes b D d m (f.take m):=by
 have i:=c.len;refine⟨by simp;omega,Xx (Q0 _ g) c.dO,λh x P=>?_⟩;rw[Xw]at P;split at P
 ·exact c.el h x P
 ·cases P
def zn{k:jU j}{s:List j}{bytes:Nat}(u:aU k g f b d a c s)(v:jq h n g k.k bytes){D:ZN}{l:List j}(y:Row k bytes b D r i l)(B:r=none->i=0/\o=0)(C:∀P,D P->P<b.heap.size/\aH d≠some P)(p:(s.length+l.length)*bytes<=aO)(E:s.length+l.length<=maxLen)(q:∀w e x z,aU k g z x w (a+i) e (s++l)->aj (λF=>aH d=some F) b x->(∀P,z P->f P\/D P\/b.heap.size<=P)->(∀P,aH w=some P->f P\/b.heap.size<=P)->m (.slice w (a+i) e) x):
  aG h (Builtin.append_ #[n,n] A #[.slice d a c,.slice r i o]) b m t:=by
 cases r with
 |some M=>exact kK u v y C p E q
 |none=>
  obtain⟨rfl,rfl⟩:=B rfl;have H:l=[]:=QW y.len.symm;subst H;obtain⟨I,N,J,O,Q,R,S⟩:=jq.info v;obtain⟨cs,T,K,U,V⟩:=u.body;have L:=run_append_owned_none (P:=h) (w:=b) 0 n A g I k.k v.under J (.slice d a c) a cs K.row;exact aG.mk L (q d c b f (by simpa using u) (aj.refl _) (λP p=>.inl p) λP p=>.inl (u.self P p))
def aU.Nl{P:jU j}{e:List j}(h:aU P g f b d a c e)(i:d=none):a=0/\c=0:=by
 obtain⟨cs,o,k,_⟩:=h.body;rcases k.cases with⟨_,l,m,_⟩|⟨p,n,rfl,_⟩
 ·exact⟨l,m⟩
 ·cases i
def UB(j:jq h g n 1 1)(e:(h.info? n).bind (·.zero)=some (.int .u8 0))(k:a<=c)(P:c<=aO)(f:∀d,aU fN n (·=b.heap.size) d (ZM b.heap.size) a c (List.replicate a 0)->ai b d->d.heap.size=b.heap.size+1->m (.slice (ZM b.heap.size) a c) d):
  aG h (Instr.makeSlice g (ZH (a:Int)) (ZH (c:Int))) b m t:=by
 unfold aO at P;obtain⟨q,r,l,o,s,u,A⟩:=j.info;have v:r= .int .u8 0:=by
  rw[l]at e;simp only[Option.bind_some,o]at e;exact XJ e
 subst v;have p:=run_make (P:=h) b g n q _ j.under l o .i64 .i64 a c oM oM (by rw[u];omega) oM;rw[Qx,Qx,s,Nat.mul_one]at p;have w:ai b (b.alloc (.cells (madeCells (Value.int .u8 0).cells c) n)):=aj.alloc b _;have x:(madeCells (Value.int .u8 0).cells c).toList=List.replicate c (.int .u8 0):=by
  unfold madeCells;rw[Array.toList_map];apply List.ext_getElem
  ·simp
  ·intro B C E
   simp[Value.cells,Nat.mod_one]
 refine aG.mk p (f _ ⟨⟨List.replicate a (.int .u8 0),λ_=>False,⟨⟨by simp[fN,flat],.inr ⟨b.heap.size,c,_,rfl,Qj _,heap_alloc_new b _,k,by unfold maxLen;omega,by simp[size_madeCells,fN,flat],?_⟩⟩⟩,?_,λ_ f=>f.elim⟩,λy P=>by simpa[aH]using P.symm,λy P=>by subst P;simp⟩ w sM)
 ·rw[x]
  simp only[fN,flat,Nat.mul_one,List.take_replicate];rw[X2 k]
 ·have i:∀a:Nat,bR fN (b.alloc (.cells (madeCells (Value.int .u8 0).cells c) n)) (λ_=>False) (List.replicate a 0) (List.replicate a (.int .u8 0)):=by
   intro a
   induction a with
   |zero=>rfl
   |succ a z=>exact⟨[.int .u8 0],List.replicate a (.int .u8 0),rfl,⟨rfl,trivial⟩,z⟩
  exact i a
end Go.aw
namespace Go.aw
open Go
def fH(P:Nat):List UInt8:=if a:P=0 then []else UInt8.ofNat (P % 256)::fH (P/256)
termination_by P
decreasing_by omega
def jj:fH 0=[]:=by rw[fH];simp
variable{e:Int}{a:Nat}
def kW(P:a≠0):fH a=UInt8.ofNat (a % 256)::fH (a/256):=by rw[fH];simp[P]
def xS:∀(P:Nat),P<2 ^ 64->(fH P).length=(Lib.bitLen P+7)/8:=by
 intro P
 induction P using Nat.strongRecOn with
 |_ P c=>
  intro b
  by_cases a:P=0
  ·subst a;rw[jj];decide
  ·rw[kW a,Xq]
   by_cases d:P<256
   ·have e:P/256=0:=oM
    rw[e,jj];have g:Lib.bitLen P<=8:=Lib.bitLen_le8 ⟨P,d⟩;have h:1<=Lib.bitLen P:=(Lib.bitLenAux_bounds 64 P b a).1;simp;omega
   ·have:=c (P/256) oM oM
    rw[this];have f:=Lib.bitLen_shift 8 P oM b;rw[show(2:Nat) ^ 8=256 from rfl]at f;omega
def BN{u:Nat}(P:u<2 ^ 64):(fH u).length<=8:=by
 rw[xS u P]
 by_cases a:u=0
 ·subst a;decide
 ·have b:=Lib.bitLenAux_bounds 64 u P a
  have:Lib.bitLen u<=64:=by
   apply Nat.le_of_not_lt;intro c;have d:2 ^ 64<=2 ^(Lib.bitLen u-1):=Nat.pow_le_pow_right oM oM;have e:2 ^(Lib.bitLen u-1)<=u:=b.2.1;omega
  omega
def QI:∀(b P:Nat),b<(fH P).length->(fH P)[b]? =some (UInt8.ofNat (P/256 ^ b % 256)):=by
 intro b
 induction b with
 |zero=>
  intro P a
  by_cases c:P=0
  ·subst c;rw[jj]at a;simp at a
  ·rw[kW c];simp
 |succ b d=>
  intro P a
  by_cases c:P=0
  ·subst c;rw[jj]at a;simp at a
  ·rw[kW c]at a⊢
   have:=d (P/256) (by simpa using a);rw[ZZ,this,Nat.div_div_eq_div_mul,Nat.pow_succ,Nat.mul_comm 256]
def gi(P:List UInt8):Nat:=P.foldl (λa b=>a*256+b.toNat) 0
def xU(P:List UInt8)(a:UInt8):gi (P++[a])=gi P*256+a.toNat:=by simp[gi,List.foldl_append]
def My(P:List UInt8):gi P<256 ^ P.length:=by
 suffices c:∀(P:List UInt8) (a b:Nat),a<256 ^ b->P.foldl (λa d=>a*256+d.toNat) a<256 ^(b+P.length) by
  have:=c P 0 0 sM;simpa[gi]using this
 intro P
 induction P with
 |nil=>intro a b c;simpa using c
 |cons d P e=>
  intro a b c;have f:=d.toNat_lt;have:=e (a*256+d.toNat) (b+1) (by rw[Nat.pow_succ];omega);rw[List.foldl_cons,Xq];rw[show b+(P.length+1)=b+1+P.length by omega];exact this
def QL:∀(P:Nat),gi (fH P).reverse=P:=by
 intro P
 induction P using Nat.strongRecOn with
 |_ P b=>
  by_cases a:P=0
  ·subst a;rw[jj];rfl
  ·rw[kW a,List.reverse_cons,xU,b (P/256) oM]
   have:(UInt8.ofNat (P % 256)).toNat=P % 256:=by rw[ZK];omega
   rw[this];omega
def Ob:∀(P:Nat),P≠0->(fH P).getLast? ≠some 0:=by
 intro P
 induction P using Nat.strongRecOn with
 |_ P c=>
  intro d;rw[kW d]
  by_cases a:P/256=0
  ·rw[a,jj]
   simp only[List.getLast?_singleton,ne_eq,Q1];intro e;have:=Zj UInt8.toNat e;rw[ZK]at this;simp at this;omega
  ·have b:fH (P/256)≠[]:=by rw[kW a];simp
   rw[List.getLast?_cons,List.getLast?_eq_some_getLast b,Option.getD_some];have:=c (P/256) oM a;rw[List.getLast?_eq_some_getLast b]at this;exact this
def dZ(P:Int):List UInt8:=UInt8.ofNat ((fH P.natAbs).length+if P<0 then 16 else 0)::(fH P.natAbs).reverse
def rdNum(c:List UInt8):Int×Int×Nat:=match c with
 |[]=>(4,0,0)
 |h::b=>
  let P:=if 16<h.toNat then h.toNat-16 else h.toNat
  let a:=gi (b.take P)
  if 8<P then(5,0,0)
  else if b.length<P then(4,0,0)
  else if(0<P/\b.head? =some 0)\/(¬16<h.toNat/\2 ^ 63<=a)\/(16<h.toNat/\2 ^ 63<a)then(5,0,0)
  else(0,if 16<h.toNat then-(a:Int)else a,P+1)
def Ew(p:aN e)(d:List UInt8):rdNum (dZ e++d)=(0,e,(dZ e).length):=by
 unfold aN at p;have q:e.natAbs<2 ^ 64:=oM
 have r:=BN q;have f:(fH e.natAbs).reverse.length=(fH e.natAbs).length:=List.length_reverse ..;have h:=QL e.natAbs;have m:e<0->1<=(fH e.natAbs).length:=λu=>by rw[kW oM];simp
 have i:0<(fH e.natAbs).length->((fH e.natAbs).reverse++d).head? ≠some 0:=λg=>by
  have s:e.natAbs≠0:=λc=>by rw[c,jj]at g;simp at g
  have:=Ob _ s;rw[List.head?_append,List.head?_reverse]
  cases j:(fH e.natAbs).getLast? with
  |none=>rw[List.getLast?_eq_none_iff]at j;rw[j]at g;simp at g
  |some v=>rw[j]at this;simpa using this
 unfold dZ;rw[List.cons_append];generalize fH e.natAbs=P at r f h m i⊢;have t:(UInt8.ofNat (P.length+if e<0 then 16 else 0)).toNat=P.length+if e<0 then 16 else 0:=by
  rw[ZK];split<;>omega
 have n:(P.reverse++d).take P.length=P.reverse:=by
  rw[<-f,List.take_left]
 have o:¬(P.reverse++d).length<P.length:=sM
 unfold rdNum;simp only[t]
 by_cases k:e<0
 ·have w:=m k
  simp only[Zx k];have l:(if 16<P.length+16 then P.length+16-16 else P.length+16)=P.length:=by rw[Zx oM];omega
  simp only[l,n,h];rw[Zq oM,Zq o,Zq,Zx oM]
  ·have c: -(e.natAbs:Int)=e:=oM
   rw[c,Xq,f]
  ·rintro(⟨a,b⟩|⟨a,b⟩|⟨a,b⟩)
   ·exact i a b
   ·omega
   ·omega
 ·simp only[Zq k,Nat.add_zero]
  have l:(if 16<P.length then P.length-16 else P.length)=P.length:=by rw[Zq oM]
  simp only[l,n,h];rw[Zq oM,Zq o,Zq,Zq oM]
  ·have c:(e.natAbs:Int)=e:=oM
   rw[c,Xq,f]
  ·rintro(⟨a,b⟩|⟨a,b⟩|⟨a,b⟩)
   ·exact i a b
   ·omega
   ·omega
end Go.aw
namespace Go.aw
open Go
abbrev q_:=BitVec 32
def AN:q_:=0xEDB88320#32
def mV(P:q_):q_:=(P>>>1) ^^^(if P.getLsbD 0 then AN else 0#32)
def AO(P a:q_):mV (P ^^^ a)=mV P ^^^ mV a:=by
 unfold mV;rw[BitVec.ushiftRight_xor_distrib,BitVec.getLsbD_xor]
 cases P.getLsbD 0<;>cases a.getLsbD 0<;>simp only[Bool.xor_false,Bool.xor_true,Bool.not_true,Bool.not_false,if_true,if_false,Bool.false_eq_true,BitVec.xor_zero,BitVec.zero_xor]
 ·ac_rfl
 ·ac_rfl
 ·have:(P>>>1 ^^^ AN) ^^^(a>>>1 ^^^ AN)=(P>>>1 ^^^ a>>>1) ^^^(AN ^^^ AN):=by ac_rfl
  rw[this,BitVec.xor_self,BitVec.xor_zero]
def oH(P:q_):q_:=mV (mV (mV (mV (mV (mV (mV (mV P)))))))
def DK(P a:q_):oH (P ^^^ a)=oH P ^^^ oH a:=by
 unfold oH;simp only[AO]
def Ub(P:Bool):q_:=if P then 1#32 else 0#32
def AP(P:q_)(a:Bool):q_:=(P>>>1) ^^^(if P.getLsbD 0 !=a then AN else 0#32)
def DM(P:q_)(a:Bool):AP P a=mV (P ^^^ Ub a):=by
 unfold AP
 cases a
 ·simp[Ub,mV]
 ·rw[AO]
  have:mV (Ub true)=AN:=by decide+kernel
  rw[this];unfold mV
  cases P.getLsbD 0
  ·simp
  ·have b:(P>>>1 ^^^(if true=true then AN else 0#32)) ^^^ AN=P>>>1 ^^^(AN ^^^ AN):=by rw[Zx rfl];ac_rfl
   rw[b,BitVec.xor_self];simp
def kh(P:q_)(a:UInt8):q_:=(List.range 8).foldl (λP b=>AP P (a.toNat.testBit b)) P
def xt(P:UInt8):q_:=BitVec.ofNat 32 P.toNat
def HM(P:q_)(b:UInt8):kh P b=oH P ^^^ kh 0#32 b:=by
 have f:∀(a:List Nat) (c d:q_),(a.foldl (λP e=>AP P (b.toNat.testBit e)) (c ^^^ d))=(a.foldl (λP _=>mV P) c) ^^^(a.foldl (λP e=>AP P (b.toNat.testBit e)) d):=by
  intro a
  induction a with
  |nil=>intro c d;rfl
  |cons e a g=>
   intro c d;simp only[List.foldl_cons];rw[<-g]
   congr 1
   rw[DM,DM];simp only[AO]
   ac_rfl
 have:=f (List.range 8) P 0#32;rw[BitVec.xor_zero]at this;exact this
def HN(P:UInt8):kh 0#32 P=oH (xt P):=by
 have b:(List.range 256).all (λa=>kh 0#32 (UInt8.ofNat a)==oH (xt (UInt8.ofNat a)))=true:=by decide+kernel
 have:=ZY.1 b P.toNat (List.mem_range.2 P.toNat_lt);simpa using this
def Kj(P:q_)(a:UInt8):kh P a=oH (P ^^^ xt a):=by
 rw[HM,HN,DK]
def Np{P:q_}(a:P.getLsbD 0=false):mV P=P>>>1:=by
 unfold mV;rw[a];simp
def Kk(a:q_):oH (a&&&0xFFFFFF00#32)=a>>>8:=by
 have bit:∀P,P<8->((a&&&0xFFFFFF00#32)>>>P).getLsbD 0=false:=λP c=>by
  rw[BitVec.getLsbD_ushiftRight,BitVec.getLsbD_and,Nat.add_zero];have:(0xFFFFFF00#32:q_).getLsbD P=false:=by
   have d:(List.range 8).all (λP=>(0xFFFFFF00#32:q_).getLsbD P==false)=true:=by decide+kernel
   simpa using ZY.1 d P (List.mem_range.2 c)
  rw[this,Bool.and_false]
 have step:∀P,P<8->mV ((a&&&0xFFFFFF00#32)>>>P)=(a&&&0xFFFFFF00#32)>>>(P+1):=λP c=>by
  rw[Np (bit P c),BitVec.shiftRight_add]
 have e:a&&&0xFFFFFF00#32=(a&&&0xFFFFFF00#32)>>>0:=sM
 unfold oH;rw[e,step 0 oM,step 1 oM,step 2 oM,step 3 oM,step 4 oM,step 5 oM,step 6 oM,step 7 oM];apply BitVec.eq_of_getLsbD_eq;intro b f;rw[BitVec.getLsbD_ushiftRight,BitVec.getLsbD_ushiftRight,BitVec.getLsbD_and]
 by_cases g:7+1+b<32
 ·have:(0xFFFFFF00#32:q_).getLsbD (7+1+b)=true:=by
   have d:(List.range 24).all (λb=>(0xFFFFFF00#32:q_).getLsbD (7+1+b)==true)=true:=by decide+kernel
   simpa using ZY.1 d b (List.mem_range.2 oM)
  rw[this,Bool.and_true]
 ·rw[BitVec.getLsbD_of_ge _ _ oM]
  simp
def jL:List Nat:=[0x00000000,0x77073096,0xEE0E612C,0x990951BA,0x076DC419,0x706AF48F,0xE963A535,0x9E6495A3,0x0EDB8832,0x79DCB8A4,0xE0D5E91E,0x97D2D988,0x09B64C2B,0x7EB17CBD,0xE7B82D07,0x90BF1D91]
def jM:List Nat:=[0x00000000,0x1DB71064,0x3B6E20C8,0x26D930AC,0x76DC4190,0x6B6B51F4,0x4DB26158,0x5005713C,0xEDB88320,0xF00F9344,0xD6D6A3E8,0xCB61B38C,0x9B64C2B0,0x86D3D2D4,0xA00AE278,0xBDBDF21C]
def Kl(P:UInt8):oH (xt P)=BitVec.ofNat 32 (jL.getD (P.toNat % 16) 0) ^^^ BitVec.ofNat 32 (jM.getD (P.toNat/16) 0):=by
 have b:(List.range 256).all (λa=>oH (xt (UInt8.ofNat a))==BitVec.ofNat 32 (jL.getD ((UInt8.ofNat a).toNat % 16) 0) ^^^ BitVec.ofNat 32 (jM.getD ((UInt8.ofNat a).toNat/16) 0))=true:=by decide+kernel
 have:=ZY.1 b P.toNat (List.mem_range.2 P.toNat_lt);simpa using this
def No(P:q_)(b:UInt8):kh P b=P>>>8 ^^^ BitVec.ofNat 32 (jL.getD ((b.toNat ^^^ P.toNat % 256) % 16) 0) ^^^ BitVec.ofNat 32 (jM.getD ((b.toNat ^^^ P.toNat % 256)/16) 0):=by
 have g:=b.toNat_lt;have n:b.toNat ^^^ P.toNat % 256<2 ^ 8:=Nat.xor_lt_two_pow oM oM;have c:(UInt8.ofNat (b.toNat ^^^ P.toNat % 256)).toNat=b.toNat ^^^ P.toNat % 256:=by
  rw[ZK];omega
 have d:=Kl (UInt8.ofNat (b.toNat ^^^ P.toNat % 256));rw[c]at d;have h:P ^^^ xt b=xt (UInt8.ofNat (b.toNat ^^^ P.toNat % 256)) ^^^(P&&&0xFFFFFF00#32):=by
  apply BitVec.eq_of_getLsbD_eq;intro a e;unfold xt;rw[c,BitVec.getLsbD_xor,BitVec.getLsbD_xor,BitVec.getLsbD_and,BitVec.getLsbD_ofNat,BitVec.getLsbD_ofNat,Nat.testBit_xor];have i:(P.toNat % 256).testBit a=(decide (a<8)&&P.toNat.testBit a):=by
   rw[show 256=2 ^ 8 from rfl,Nat.testBit_mod_two_pow]
  have j:P.getLsbD a=P.toNat.testBit a:=rfl;rw[i,j];have k:(0xFFFFFF00#32:q_).getLsbD a=decide (8<=a):=by
   have l:(List.range 32).all (λa=>(0xFFFFFF00#32:q_).getLsbD a==decide (8<=a))=true:=by decide+kernel
   simpa using ZY.1 l a (List.mem_range.2 e)
  rw[k,Zy e]
  by_cases f:a<8
  ·rw[Zy f,Xv oM]
   cases P.toNat.testBit a<;>cases b.toNat.testBit a<;>rfl
  ·have m:b.toNat.testBit a=false:=Nat.testBit_lt_two_pow (Qk g (by
    have:=Nat.pow_le_pow_right (n:=2) oM (show 8<=a by omega);simpa using this))
   rw[Xv f,Zy oM,m]
   cases P.toNat.testBit a<;>rfl
 rw[Kj,h,DK,Kk,d]
 ac_rfl
def L_(P:q_)(a:List UInt8):q_:= ~~~(a.foldl kh (~~~P))
def Ki(P:List UInt8):q_:=L_ 0#32 P
end Go.aw
namespace Go.aw
open Go
structure gH where
 bytes:List UInt8
 pos:Nat
 rm:Int
def gH.num(P:gH):Int×Int×Nat:=rdNum (P.bytes.drop P.pos)
def eY(P:gH):Int×gH:=if P.rm≠0 then(0,P)else if P.num.1=0 then(P.num.2.1,⟨P.bytes,P.pos+P.num.2.2,0⟩)else(0,⟨P.bytes,P.pos,P.num.1⟩)
def bF(a:Int)(P:gH):Int×gH:=if P.rm≠0 then(0,P)else if P.num.1=0 then(if P.num.2.1<0\/a<P.num.2.1 then(0,⟨P.bytes,P.pos,3⟩)else(P.num.2.1,⟨P.bytes,P.pos+P.num.2.2,0⟩))else(0,⟨P.bytes,P.pos,P.num.1⟩)
def gI(P:gH):Int:=if P.rm=0/\P.pos<P.bytes.length then 5 else P.rm
def aW:Nat->gH->List Int×gH
 |0,P=>([],P)
 |k+1,P=>((aW k P).1++[(eY (aW k P).2).1],(eY (aW k P).2).2)
def jD(P:List UInt8):aN (rdNum P).2.1/\(rdNum P).2.2<=P.length/\(rdNum P).2.2<=9/\((rdNum P).1=0\/(rdNum P).1=4\/(rdNum P).1=5)/\((rdNum P).1=0->1<=(rdNum P).2.2):=by
 unfold rdNum
 cases P with
 |nil=>simp[aN]
 |cons a d=>
  simp only;generalize(if 16<a.toNat then a.toNat-16 else a.toNat)=b;have k:=My (d.take b);generalize gi (d.take b)=c at k
  by_cases h:8<b
  ·rw[Zx h];simp[aN]
  rw[Zq h]
  by_cases i:d.length<b
  ·rw[Zx i];simp[aN]
  rw[Zq i]
  by_cases e:(0<b/\d.head? =some 0)\/(¬16<a.toNat/\2 ^ 63<=c)\/(16<a.toNat/\2 ^ 63<c)
  ·rw[Zx e];simp[aN]
  rw[Zq e];have j:(¬16<a.toNat->c<2 ^ 63)/\(16<a.toNat->c<=2 ^ 63):=by
   refine⟨λf=>?_,λf=>?_⟩
   ·exact Nat.lt_of_not_le λg=>e (.inr (.inl ⟨f,g⟩))
   ·exact Nat.le_of_not_lt λg=>e (.inr (.inr ⟨f,g⟩))
  refine⟨?_,by simp;omega,by show b+1<=9;omega,.inl rfl,λ_=>by show 1<=b+1;omega⟩;show aN (if 16<a.toNat then-(c:Int)else c);unfold aN;split
  ·have:=j.2 (by assumption);omega
  ·have:=j.1 (by assumption);omega
structure gH.Fit (r:gH):Prop where
 pos:r.pos<=r.bytes.length
 rm:r.rm=0\/r.rm=3\/r.rm=4\/r.rm=5
variable{e:Int}{s:List Int}{a7 v:List UInt8}{a:Nat}{R:gH}
def gH.Fit.int(a:R.Fit):(eY R).2.Fit/\aN (eY R).1/\(eY R).2.bytes=R.bytes:=by
 obtain⟨b,c,e,P,f⟩:=jD (R.bytes.drop R.pos);have d:=a.pos;rw[XZ]at c;unfold eY gH.num;split
 ·exact⟨a,by simp[aN],rfl⟩
 ·split
  ·exact⟨⟨by show R.pos+_<=R.bytes.length;omega,.inl rfl⟩,b,rfl⟩
  ·exact⟨⟨d,by show _\/_;rcases P with P|P|P<;>simp[P]⟩,by simp[aN],rfl⟩
def gH.Fit.count{r:gH}(b:r.Fit){m:Int}(a:0<=m):(bF m r).2.Fit/\0<=(bF m r).1/\(bF m r).1<=m/\(bF m r).2.bytes=r.bytes:=by
 obtain⟨e,d,f,P,g⟩:=jD (r.bytes.drop r.pos);have c:=b.pos;rw[XZ]at d;unfold bF gH.num;split
 ·exact⟨b,sM,a,rfl⟩
 ·split
  ·split
   ·exact⟨⟨c,.inr (.inl rfl)⟩,sM,a,rfl⟩
   ·exact⟨⟨by show r.pos+_<=r.bytes.length;omega,.inl rfl⟩,by simp only;omega,by simp only;omega,rfl⟩
  ·exact⟨⟨c,by show _\/_;rcases P with P|P|P<;>simp[P]⟩,by simp,a,rfl⟩
def gH.Fit.ints{P:gH}(c:P.Fit):∀k,(aW k P).2.Fit/\(∀b∈(aW k P).1,aN b)/\(aW k P).1.length=k/\(aW k P).2.bytes=P.bytes
 |0=>⟨c,by simp[aW],rfl,rfl⟩
 |k+1=>by
  obtain⟨d,e,f,g⟩:=gH.Fit.ints c k;obtain⟨h,i,j⟩:=d.int;refine⟨h,?_,?_,j.trans g⟩
  ·intro b a
   rcases Q6.1 a with a|a
   ·exact e b a
   ·rw[List.mem_singleton]at a;subst a;exact i
  ·simp[aW,f]
structure gH.At (r:gH) (b:List UInt8) (l:List UInt8):Prop where
 bytes:r.bytes=b
 pos:r.pos<=b.length
 rm:r.rm=0
 rest:b.drop r.pos=l
def gH.At.int(P:R.At v (dZ e++a7))(a:aN e):(eY R).1=e/\(eY R).2.At v a7:=by
 have b:R.num=(0,e,(dZ e).length):=by unfold gH.num;rw[P.bytes,P.rest];exact Ew a a7
 have c:v.length-R.pos=(dZ e).length+a7.length:=by
  have:=Zj List.length P.rest
  rwa [XZ,QX]at this
 have d:=P.pos;unfold eY;rw[b,Zq (by simp[P.rm]),Zx rfl];refine⟨rfl,P.bytes,by show R.pos+(dZ e).length<=_;omega,rfl,?_⟩;show v.drop (R.pos+(dZ e).length)=a7;rw[<-List.drop_drop,P.rest,List.drop_left]
def gH.At.count{r:gH}{P m:Int}(a:r.At v (dZ P++a7))(b:aN P)(d:0<=P)(e:P<=m):(bF m r).1=P/\(bF m r).2.At v a7:=by
 have c:r.num=(0,P,(dZ P).length):=by unfold gH.num;rw[a.bytes,a.rest];exact Ew b a7
 have f:v.length-r.pos=(dZ P).length+a7.length:=by
  have:=Zj List.length a.rest
  rwa [XZ,QX]at this
 have g:=a.pos;unfold bF;rw[c,Zq (by simp[a.rm]),Zx rfl,Zq bc];refine⟨rfl,a.bytes,by show r.pos+(dZ P).length<=_;omega,rfl,?_⟩;show v.drop (r.pos+(dZ P).length)=a7;rw[<-List.drop_drop,a.rest,List.drop_left]
def bk(P:List Int):List UInt8:=(P.map dZ).flatten
def kj(P:Int)(a:List Int):bk (P::a)=dZ P++bk a:=by simp[bk]
def iu(P a:List Int):bk (P++a)=bk P++bk a:=by simp[bk]
def gH.At.ints:∀(P:List Int) {zs:List Int},R.At v (bk (P++zs)++a7)->(∀c∈P,aN c)->(aW P.length R).1=P/\(aW P.length R).2.At v (bk zs++a7):=by
 intro P;generalize a:P.length=e
 induction e generalizing P with
 |zero=>intro zs b _;have:=QW a;subst this;exact⟨rfl,b⟩
 |succ e d=>
  rcases List.eq_nil_or_concat P with rfl|⟨P,c,rfl⟩
  ·cases a
  rw[List.concat_eq_append]at a⊢;intro zs b f;rw[XQ]at b;rw[QX,List.length_singleton]at a;have d:=λ{zs:List Int}=>d P oM (zs:=zs);obtain⟨h,g⟩:=d b λi j=>f i (ZV _ j);rw[List.singleton_append,kj,XQ]at g;obtain⟨k,l⟩:=g.int (f c sM);exact⟨by show _++[_]=_;rw[h,k],l⟩
def gH.At.done(P:R.At v []):gI R=0:=by
 have a:=Zj List.length P.rest;rw[XZ,ZQ]at a;unfold gI;rw[P.bytes,P.rm,Zq oM]
structure ah where
 origin:Int
 seq:Int
 aB:Int
 aJ:List Int
 aY:Int
 agg:Int
 field:Int
 op:Int
 arg:Int
 key:Int
deriving DecidableEq
structure ah.Ok (e:ah):Prop where
 origin:aN e.origin
 seq:aN e.seq
 aB:aN e.aB
 aJ:∀x∈e.aJ,aN x
 aY:aN e.aY
 agg:aN e.agg
 field:aN e.field
 op:aN e.op
 arg:aN e.arg
 key:aN e.key
def AZ:ah:=⟨0,0,0,[],0,0,0,0,0,0⟩
def OF:AZ.Ok:=by constructor<;>simp[AZ,aN]
def fG(P:ah):List Int:=[P.origin,P.seq,P.aB,(P.aJ.length:Int)]++P.aJ++[P.aY,P.agg,P.field,P.op,P.arg,P.key]
def iR(P:ah):List UInt8×Int:=if 64<P.aJ.length then([],3)else(bk (fG P),0)
def jg(d:gH):ah×gH:=
 (λa=>(λb=>(λc=>(λP=>(⟨a.1.getD 0 0,a.1.getD 1 0,a.1.getD 2 0,c.1,P.1.getD 0 0,P.1.getD 1 0,P.1.getD 2 0,P.1.getD 3 0,P.1.getD 4 0,P.1.getD 5 0⟩,P.2))
  (aW 6 c.2)) (aW b.1.toNat b.2)) (bF 64 a.2)) (aW 3 d)
def iv(P:List UInt8):ah×Int:=if gI (jg ⟨P,0,0⟩).2≠0 then(AZ,gI (jg ⟨P,0,0⟩).2)else((jg ⟨P,0,0⟩).1,0)
def fg(b:∀P∈s,aN P)(a:Nat):aN (s.getD a 0):=by
 rw[QQ]
 cases c:s[a]? with
 |none=>simp[aN]
 |some P=>exact b P (QZ c)
def OG{r:gH}(b:r.Fit):(jg r).2.Fit/\(jg r).1.Ok/\(jg r).1.aJ.length<=64:=by
 obtain⟨c,a,i,j⟩:=b.ints 3;obtain⟨d,k,l,m⟩:=c.count (m:=64) oM;obtain⟨e,f,g,n⟩:=d.ints (bF 64 (aW 3 r).2).1.toNat;obtain⟨h,P,o,p⟩:=e.ints 6;refine⟨h,⟨fg a 0,fg a 1,fg a 2,f,fg P 0,fg P 1,fg P 2,fg P 3,fg P 4,fg P 5⟩,?_⟩;show(aW _ _).1.length<=64;rw[g];omega
def Rg(P:List UInt8):(iv P).1.Ok/\(iv P).1.aJ.length<=64:=by
 unfold iv;have:=OG (r:=⟨P,0,0⟩) ⟨Qj _,.inl rfl⟩;split
 ·exact⟨OF,by simp[AZ]⟩
 ·exact this.2
variable{l:ah}
def OH(P:l.Ok)(u:l.aJ.length<=64):iv (bk (fG l))=(l,0):=by
 have c:(gH.mk (bk (fG l)) 0 0).At (bk (fG l)) (bk ([l.origin,l.seq,l.aB]++((l.aJ.length:Int)::(l.aJ++[l.aY,l.agg,l.field,l.op,l.arg,l.key])))++[]):=
  ⟨rfl,Qj _,rfl,by rw[List.drop_zero,List.append_nil];simp[fG]⟩
 generalize bk (fG l)=a at c⊢;obtain⟨f,d⟩:=gH.At.ints [l.origin,l.seq,l.aB] c (by intro g b;simp at b;rcases b with rfl|rfl|rfl<;>first|exact P.origin|exact P.seq|exact P.aB);rw[kj,XQ]at d;obtain⟨h,i⟩:=d.count (m:=64) bb oM oM;obtain⟨j,k⟩:=gH.At.ints l.aJ i P.aJ;have m:(aW l.aJ.length (bF 64 (aW [l.origin,l.seq,l.aB].length ⟨a,0,0⟩).2).2).2.At a (bk ([l.aY,l.agg,l.field,l.op,l.arg,l.key]++[])++[]):=k;obtain⟨n,o⟩:=gH.At.ints [l.aY,l.agg,l.field,l.op,l.arg,l.key] m (by intro g b;simp at b;rcases b with rfl|rfl|rfl|rfl|rfl|rfl<;>first|exact P.aY|exact P.agg|exact P.field|exact P.op|exact P.arg|exact P.key);have e:jg ⟨a,0,0⟩=(l,(aW 6 (aW l.aJ.length (bF 64 (aW 3 ⟨a,0,0⟩).2).2).2).2):=by
  have p:(bF 64 (aW 3 ⟨a,0,0⟩).2).1=(l.aJ.length:Int):=h;have q:(aW 3 ⟨a,0,0⟩).1=[l.origin,l.seq,l.aB]:=f;have r:(aW 6 (aW l.aJ.length (bF 64 (aW 3 ⟨a,0,0⟩).2).2).2).1=[l.aY,l.agg,l.field,l.op,l.arg,l.key]:=n;have s:(aW l.aJ.length (bF 64 (aW 3 ⟨a,0,0⟩).2).2).1=l.aJ:=j;unfold jg;simp only[p,q,Qx,r,s]
  rfl
 have t:gI (jg ⟨a,0,0⟩).2=0:=by rw[e];exact gH.At.done (by simpa[bk]using o)
 unfold iv;rw[t,Zq sM,e]
def OM(P:Nat):List UInt8:=[UInt8.ofNat (P/16777216),UInt8.ofNat (P/65536),UInt8.ofNat (P/256),UInt8.ofNat P]
def jN(a:Int)(P:List UInt8):List UInt8:=[UInt8.ofNat a.toNat,UInt8.ofNat (P.length/65536),UInt8.ofNat (P.length/256),UInt8.ofNat P.length]++P
def cz(P:Int)(a:List UInt8):List UInt8:=jN P a++OM (Ki (jN P a)).toNat++[10]
def jY(P:Int)(a:List UInt8):List UInt8×Int:=if P<1\/255<P then([],2)else if 65536<a.length then([],5)else(cz P a,0)
structure Ya where
 kind:Int
 body:List UInt8
 n:Nat
 no:Int
def bt(P:List UInt8):Ya:=if P.length<4 then⟨0,[],0,4⟩else if P.getD 0 0=0 then⟨0,[],0,2⟩else
 (λa=>if 65536<a then⟨0,[],0,5⟩else if P.length<a+9 then⟨0,[],0,4⟩else
  if P.take (a+9)=cz (P.getD 0 0).toNat ((P.drop 4).take a)then⟨(P.getD 0 0).toNat,(P.drop 4).take a,a+9,0⟩else⟨0,[],0,6⟩)
  ((P.getD 1 0).toNat*65536+(P.getD 2 0).toNat*256+(P.getD 3 0).toNat)
def eT(a:Int)(P:List UInt8):(cz a P).length=P.length+9:=by simp[cz,jN,OM]
def vd(P:(bt v).no=0):(bt v).n<=v.length/\9<=(bt v).n/\(bt v).n=(bt v).body.length+9:=by
 unfold bt at P⊢;generalize(v.getD 1 0).toNat*65536+(v.getD 2 0).toNat*256+(v.getD 3 0).toNat=f at P⊢;split at P
 ·cases P
 rename_i a;rw[Zq a];split at P
 ·cases P
 rename_i b;rw[Zq b];simp only at P⊢;split at P
 ·cases P
 rename_i c;rw[Zq c];split at P
 ·cases P
 rename_i d;rw[Zq d];split at P
 ·rename_i e
  rw[Zx e];refine⟨by simp only;omega,by simp only;omega,by simp;omega⟩
 ·cases P
def Rz(P:a<=65536):(UInt8.ofNat (a/65536)).toNat*65536+(UInt8.ofNat (a/256)).toNat*256+(UInt8.ofNat a).toNat=a:=by
 simp only[ZK];omega
def Es{k:Int}{body r:List UInt8}(i:1<=k)(j:k<=255)(a:body.length<=65536):bt (cz k body++r)=⟨k,body,body.length+9,0⟩:=by
 have P:(UInt8.ofNat k.toNat).toNat=k.toNat:=by rw[ZK];omega
 have b:(cz k body++r).getD 0 0=UInt8.ofNat k.toNat:=rfl;have c:(cz k body++r).getD 1 0=UInt8.ofNat (body.length/65536):=rfl;have d:(cz k body++r).getD 2 0=UInt8.ofNat (body.length/256):=rfl;have e:(cz k body++r).getD 3 0=UInt8.ofNat body.length:=rfl;have f:((cz k body++r).drop 4).take body.length=body:=by
  have:(cz k body++r).drop 4=body++(OM (Ki (jN k body)).toNat++[10]++r):=by simp[cz,jN]
  rw[this,List.take_left]
 have g:=eT k body;unfold bt;rw[b,c,d,e,Rz a,Zq (by rw[QX];omega),Zq (by intro h;have:=Zj UInt8.toNat h;rw[P]at this;simp at this;omega)];simp only[f,P];rw[Zq oM,Zq (by rw[QX];omega),Zx]
 ·congr 1;omega
 ·rw[<-g,List.take_left]
  congr 1;omega
def VT(b:List UInt8)(P:b.length=4)(a:Nat)(k:a<2 ^ 32):gi b=a↔b=OM a:=by
 match b,P with
 |[c,d,e,f],_=>
  have l:=c.toNat_lt;have m:=d.toNat_lt;have n:=e.toNat_lt;have o:=f.toNat_lt;have j:gi [c,d,e,f]=((c.toNat*256+d.toNat)*256+e.toNat)*256+f.toNat:=by simp[gi]
  rw[j];constructor
  ·intro P
   unfold OM;have g:∀(h:UInt8) (i:Nat),h.toNat=i % 256->h=UInt8.ofNat i:=λh i P=>UInt8.toNat_inj.1 (by rw[ZK,P]);rw[g c (a/16777216) oM,g d (a/65536) oM,g e (a/256) oM,g f a oM]
  ·intro P
   unfold OM at P;simp only[List.cons.injEq,and_true]at P;obtain⟨rfl,rfl,rfl,rfl⟩:=P;simp only[ZK];omega
def Tz:∀{a:List UInt8},4<=a.length->a.take 4=[a.getD 0 0,a.getD 1 0,a.getD 2 0,a.getD 3 0]
 |x::b::c::d::e,_=>rfl
 |[],P=>by simp at P
 |[_],P=>by simp at P
 |[_,_],P=>by simp at P
 |[_,_,_],P=>by simp at P
def Un{b:List UInt8}{n:Nat}(l:n+9<=b.length)(m:(b.getD 1 0).toNat*65536+(b.getD 2 0).toNat*256+(b.getD 3 0).toNat=n)(o:n<=65536):
  b.take (n+9)=cz (b.getD 0 0).toNat ((b.drop 4).take n)↔((Ki (b.take (4+n))).toNat=gi ((b.drop (4+n)).take 4)/\b.getD (8+n) 0=10):=by
 have g:((b.drop 4).take n).length=n:=by simp;omega
 have P:∀(a:UInt8) (c:Nat),a.toNat=c % 256->UInt8.ofNat c=a:=λa c d=>UInt8.toNat_inj.1 (by rw[ZK,d]);have p:=(b.getD 1 0).toNat_lt;have q:=(b.getD 2 0).toNat_lt;have r:=(b.getD 3 0).toNat_lt;have h:jN (b.getD 0 0).toNat ((b.drop 4).take n)=b.take (4+n):=by
  unfold jN;rw[g,Qx,P (b.getD 0 0) _ (by have:=(b.getD 0 0).toNat_lt;omega),P (b.getD 1 0) (n/65536) oM,P (b.getD 2 0) (n/256) oM,P (b.getD 3 0) n oM];rw[List.take_add]
  congr 1
  exact(Tz oM).symm
 have i:b.take (n+9)=b.take (4+n)++(b.drop (4+n)).take 4++[b.getD (8+n) 0]:=by
  rw[show n+9=(4+n)+(4+1) by omega,List.take_add,XQ,List.take_add (l:=b.drop (4+n)),List.drop_drop]
  congr 2
  rw[show 4+n+4=8+n by omega,QQ,Qq oM,Option.getD_some];rw[X4 oM]
  rfl
 unfold cz;rw[h,i];have j:((b.drop (4+n)).take 4).length=4:=by simp;omega
 have k:(Ki (b.take (4+n))).toNat<2 ^ 32:=(Ki (b.take (4+n))).isLt;rw[eq_comm (b:=gi _),VT _ j _ k];constructor
 ·intro d
  obtain⟨e,f⟩:=List.append_inj' d rfl;exact⟨List.append_cancel_left e,by simpa using f⟩
 ·rintro⟨e,f⟩
  rw[e,f]
def bG(P:List UInt8):List ah×Nat:=
 if a:(bt P).no=0/\(bt P).kind=1/\(iv (bt P).body).2=0 then((iv (bt P).body).1::(bG (P.drop (bt P).n)).1,(bt P).n+(bG (P.drop (bt P).n)).2)else([],0)
termination_by P.length
decreasing_by all_goals(have:=vd a.1;simp;omega)
def xX(P:(bt v).no=0/\(bt v).kind=1/\(iv (bt v).body).2=0):bG v=((iv (bt v).body).1::(bG (v.drop (bt v).n)).1,(bt v).n+(bG (v.drop (bt v).n)).2):=by
 rw[bG,dif_pos P]
def BZ(P:¬((bt v).no=0/\(bt v).kind=1/\(iv (bt v).body).2=0)):bG v=([],0):=by
 rw[bG,dif_neg P]
def OI(P:aN e):(dZ e).length<=9:=by
 unfold aN at P;have:=BN (u:=e.natAbs) oM;simp[dZ];omega
def fF:∀{l:List Int},(∀P∈l,aN P)->(bk l).length<=9*l.length
 |[],_=>by simp[bk]
 |n::l,a=>by
  rw[kj,QX,Xq];have c:=OI (a n (QV ..));have d:=fF (l:=l) λP b=>a P (QJ _ b);omega
def ah.Ok.ints(P:l.Ok)(c:l.aJ.length<=4611686018427387904):∀b∈fG l,aN b:=by
 intro b a;simp only[fG,Q6,Q2,List.not_mem_nil,or_false]at a;rcases a with((rfl|rfl|rfl|rfl)|a)|(rfl|rfl|rfl|rfl|rfl|rfl)
 ·exact P.origin
 ·exact P.seq
 ·exact P.aB
 ·unfold aN;omega
 ·exact P.aJ b a
 ·exact P.aY
 ·exact P.agg
 ·exact P.field
 ·exact P.op
 ·exact P.arg
 ·exact P.key
def Ek(P:l.Ok)(a:l.aJ.length<=64):(bk (fG l)).length<=666:=by
 have:=fF (P.ints oM);have b:(fG l).length=10+l.aJ.length:=by simp[fG];omega
 omega
def mT(P:ah):List UInt8:=cz 1 (bk (fG P))
def Jm(P:l.Ok)(a:l.aJ.length<=64):(mT l).length<=675/\9<=(mT l).length:=by
 have:=Ek P a;unfold mT;rw[eT];omega
def RA(P:l.Ok)(a:l.aJ.length<=64)(b:List UInt8):bt (mT l++b)=⟨1,bk (fG l),(mT l).length,0⟩:=by
 unfold mT;rw[Es dC dC (by have:=Ek P a;omega),eT]
def Cm(a:l.Ok)(b:l.aJ.length<=64)(P:List UInt8):bG (mT l++P)=(l::(bG P).1,(mT l).length+(bG P).2):=by
 have c:=RA a b P;have d:=OH a b;rw[xX (by rw[c];exact⟨rfl,rfl,by rw[d]⟩),c,d,List.drop_left]
def az(P:List ah):List UInt8:=(P.map mT).flatten
def gM(P:ah)(a:List ah):az (P::a)=mT P++az a:=by simp[az]
def fQ(P a:List ah):az (P++a)=az P++az a:=by simp[az]
def xK:∀{P:List ah},(∀e∈P,e.Ok/\e.aJ.length<=64)->∀a,bG (az P++a)=(P++(bG a).1,(az P).length+(bG a).2)
 |[],_,a=>by simp[az]
 |e::P,b,a=>by
  obtain⟨c,d⟩:=b e (QV ..);rw[gM,XQ,Cm c d,xK (λf g=>b f (QJ _ g)),QX];simp only[List.cons_append,Nat.add_assoc]
def yh(P:v.length<4):(bt v).no≠0:=by unfold bt;rw[Zx P];simp
def LN(c:v.length<=65536)(h:a<(cz e v).length):(bt ((cz e v).take a)).no≠0:=by
 by_cases i:a<4
 ·exact yh (by rw[Qy];omega)
 have P:∀b,b<4->((cz e v).take a).getD b 0=(cz e v).getD b 0:=λb j=>by
  rw[QQ,QQ,Xw,Zx oM]
 have k:=eT e v;have d:(cz e v).getD 1 0=UInt8.ofNat (v.length/65536):=rfl;have f:(cz e v).getD 2 0=UInt8.ofNat (v.length/256):=rfl;have g:(cz e v).getD 3 0=UInt8.ofNat v.length:=rfl;unfold bt;rw[P 0 oM,P 1 oM,P 2 oM,P 3 oM,d,f,g,Rz c];split
 ·simp
 split
 ·simp
 simp only;rw[Zq oM,Zx (by rw[Qy];omega)];simp
def yi(P:(bt v).no≠0):bG v=([],0):=BZ λa=>P a.1
def qJ:bG []=([],0):=yi (yh sM)
def vC:∀{l:List ah},(∀e∈l,e.Ok/\e.aJ.length<=64)->∀(a:Nat),∃P,P<=l.length/\bG ((az l).take a)=(l.take P,(az (l.take P)).length)/\(az (l.take P)).length<=a/\(P<l.length->a<(az (l.take (P+1))).length)
 |[],_,a=>⟨0,Q4 _,by simp[az,qJ],by simp[az],sM⟩
 |e::l,b,a=>by
  obtain⟨c,d⟩:=b e (QV ..)
  by_cases f:a<(mT e).length
  ·refine⟨0,Qj _,?_,by simp[az],λ_=>by simpa[az]using f⟩
   rw[gM,List.take_append_of_le_length oM,yi]
   ·rfl
   ·exact LN (by have:=Ek c d;omega) f
  ·obtain⟨P,g,h,n,i⟩:=vC (l:=l) (λj k=>b j (QJ _ k)) (a-(mT e).length)
   refine⟨P+1,by simpa using g,?_,?_,λm=>?_⟩
   ·rw[gM,List.take_append,Qz oM,Cm c d,h,Zw,gM,QX]
   ·rw[Zw,gM,QX];omega
   ·have:=i (by simpa using m)
    rw[Zw,gM,QX];omega
def gv(P:ah):List UInt8×Int:=if(iR P).2≠0 then([],(iR P).2)else jY 1 (iR P).1
end Go.aw
namespace Go.Proofs.YtblabbpipmodgaaGreatDoor
open Go.aw
def sU:jq ZP 197 5 1 1:=⟨kR,kR,dC⟩
end Go.Proofs.YtblabbpipmodgaaGreatDoor
namespace Go.Proofs
open Go.Shelf
def Tryz.DP:Go.Shelf.Ren:=⟨λ|7=>247|10=>296|n=>n,λ|23=>140|26=>9|3=>204|28=>209|0=>0|27=>208|33=>280|4=>4|n=>n,λ|n=>n⟩
def Tryz.sr:Go.Proofs.SlLaysZ.n7 Tryz.prog Tryz.DP:={
 mixed:=by kernel_rfl
 f7:=⟨Tryz.f247.name,am,Tryz.func247.trans ac⟩
 f10:=⟨Tryz.f296.name,am,Tryz.func296.trans ac⟩
 t0:=Tryz.underlying0
 a0:=Tryz.isAgg0
 z0:=Tryz.sizeOf0
 v0:=Tryz.zeroValue0
 t4:=Tryz.underlying4
 a4:=Tryz.isAgg4
 z4:=Tryz.sizeOf4
 v4:=Tryz.zeroValue4
 t23:=Tryz.underlying140
 a23:=Tryz.isAgg140
 z23:=Tryz.sizeOf140
 v23:=Tryz.zeroValue140
 t26:=Tryz.underlying9
 a26:=Tryz.isAgg9
 z26:=Tryz.sizeOf9
 v26:=Tryz.zeroValue9
 t27:=Tryz.underlying208
 a27:=Tryz.isAgg208
 z27:=Tryz.sizeOf208
 v27:=Tryz.zeroValue208
 t28:=Tryz.underlying209
 a28:=Tryz.isAgg209
 z28:=Tryz.sizeOf209
 v28:=Tryz.zeroValue209
 t33:=Tryz.underlying280
 a33:=Tryz.isAgg280
 z33:=Tryz.sizeOf280
 v33:=Tryz.zeroValue280}
def Tryz.xu:Go.Shelf.Ren:=⟨λ|6=>246|8=>294|9=>295|11=>326|13=>207|12=>327|23=>275|24=>276|14=>350|15=>351|16=>352|17=>353|18=>354|19=>355|20=>356|21=>357|22=>358|25=>366|26=>307|27=>308|28=>367|29=>368|30=>369|31=>372|n=>n,λ|26=>9|28=>209|24=>281|0=>0|3=>3|37=>311|48=>357|50=>359|4=>4|40=>351|39=>350|45=>180|5=>5|9=>9|51=>386|55=>379|57=>406|58=>407|33=>280|n=>n,λ|n=>n⟩
def Tryz.Sb:Go.Proofs.SlLaysZ.n6 Tryz.prog Tryz.xu:={
 mixed:=by kernel_rfl
 f6:=⟨Tryz.f246.name,am,Tryz.func246.trans ac⟩
 f8:=⟨Tryz.f294.name,am,Tryz.func294.trans ac⟩
 f11:=⟨Tryz.f326.name,am,Tryz.func326.trans ac⟩
 t0:=Tryz.underlying0
 a0:=Tryz.isAgg0
 z0:=Tryz.sizeOf0
 v0:=Tryz.zeroValue0
 t24:=Tryz.underlying281
 a24:=Tryz.isAgg281
 z24:=Tryz.sizeOf281
 v24:=Tryz.zeroValue281
 t26:=Tryz.underlying9
 a26:=Tryz.isAgg9
 z26:=Tryz.sizeOf9
 v26:=Tryz.zeroValue9
 t28:=Tryz.underlying209
 a28:=Tryz.isAgg209
 z28:=Tryz.sizeOf209
 v28:=Tryz.zeroValue209
 i26:=by kernel_rfl}
def Tryz.Oy:Go.Shelf.Ren:=⟨λ|6=>295|8=>207|9=>327|19=>275|20=>276|21=>350|22=>351|23=>352|24=>353|25=>354|26=>355|27=>356|28=>357|29=>358|36=>366|31=>307|32=>308|37=>367|38=>368|39=>369|41=>372|n=>n,λ|27=>281|29=>9|3=>3|32=>311|26=>281|0=>0|44=>357|46=>359|4=>4|36=>351|35=>350|41=>180|5=>5|9=>9|53=>386|57=>379|63=>406|64=>407|n=>n,λ|n=>n⟩
def Tryz.Tm:Go.Proofs.SlLaysM.n6 Tryz.prog Tryz.Oy:={
 mixed:=by kernel_rfl
 f6:=⟨Tryz.f295.name,am,Tryz.func295.trans ac⟩
 f8:=Tryz.func207.trans ac
 f9:=⟨Tryz.f327.name,am,Tryz.func327.trans ac⟩
 f19:=Tryz.func275.trans ac
 f20:=Tryz.func276.trans ac
 f21:=⟨Tryz.f350.name,am,Tryz.func350.trans ac⟩
 f22:=⟨Tryz.f351.name,am,Tryz.func351.trans ac⟩
 f23:=⟨Tryz.f352.name,am,Tryz.func352.trans ac⟩
 f24:=⟨Tryz.f353.name,am,Tryz.func353.trans ac⟩
 f25:=⟨Tryz.f354.name,am,Tryz.func354.trans ac⟩
 f26:=⟨Tryz.f355.name,am,Tryz.func355.trans ac⟩
 f27:=⟨Tryz.f356.name,am,Tryz.func356.trans ac⟩
 f28:=⟨Tryz.f357.name,am,Tryz.func357.trans ac⟩
 f29:=⟨Tryz.f358.name,am,Tryz.func358.trans ac⟩
 f31:=Tryz.func307.trans ac
 f32:=Tryz.func308.trans ac
 f36:=⟨Tryz.f366.name,am,Tryz.func366.trans ac⟩
 f37:=⟨Tryz.f367.name,am,Tryz.func367.trans ac⟩
 f38:=⟨Tryz.f368.name,am,Tryz.func368.trans ac⟩
 f39:=⟨Tryz.f369.name,am,Tryz.func369.trans ac⟩
 f41:=⟨Tryz.f372.name,am,Tryz.func372.trans ac⟩
 t0:=Tryz.underlying0
 a0:=Tryz.isAgg0
 z0:=Tryz.sizeOf0
 v0:=Tryz.zeroValue0
 t3:=Tryz.underlying3
 a3:=Tryz.isAgg3
 z3:=Tryz.sizeOf3
 v3:=Tryz.zeroValue3
 t4:=Tryz.underlying4
 a4:=Tryz.isAgg4
 z4:=Tryz.sizeOf4
 v4:=Tryz.zeroValue4
 t5:=Tryz.underlying5
 a5:=Tryz.isAgg5
 z5:=Tryz.sizeOf5
 v5:=Tryz.zeroValue5
 t9:=Tryz.underlying9
 a9:=Tryz.isAgg9
 z9:=Tryz.sizeOf9
 v9:=Tryz.zeroValue9
 t26:=Tryz.underlying281
 a26:=Tryz.isAgg281
 z26:=Tryz.sizeOf281
 v26:=Tryz.zeroValue281
 t27:=Tryz.underlying281
 a27:=Tryz.isAgg281
 z27:=Tryz.sizeOf281
 v27:=Tryz.zeroValue281
 t29:=Tryz.underlying9
 a29:=Tryz.isAgg9
 z29:=Tryz.sizeOf9
 v29:=Tryz.zeroValue9
 t32:=Tryz.underlying311
 a32:=Tryz.isAgg311
 z32:=Tryz.sizeOf311
 v32:=Tryz.zeroValue311
 t35:=Tryz.underlying350
 a35:=Tryz.isAgg350
 z35:=Tryz.sizeOf350
 v35:=Tryz.zeroValue350
 t36:=Tryz.underlying351
 a36:=Tryz.isAgg351
 z36:=Tryz.sizeOf351
 v36:=Tryz.zeroValue351
 t41:=Tryz.underlying180
 a41:=Tryz.isAgg180
 z41:=Tryz.sizeOf180
 v41:=Tryz.zeroValue180
 t44:=Tryz.underlying357
 a44:=Tryz.isAgg357
 z44:=Tryz.sizeOf357
 v44:=Tryz.zeroValue357
 t46:=Tryz.underlying359
 a46:=Tryz.isAgg359
 z46:=Tryz.sizeOf359
 v46:=Tryz.zeroValue359
 t53:=Tryz.underlying386
 a53:=Tryz.isAgg386
 z53:=Tryz.sizeOf386
 v53:=Tryz.zeroValue386
 t57:=Tryz.underlying379
 a57:=Tryz.isAgg379
 z57:=Tryz.sizeOf379
 v57:=Tryz.zeroValue379
 t63:=Tryz.underlying406
 a63:=Tryz.isAgg406
 z63:=Tryz.sizeOf406
 v63:=Tryz.zeroValue406
 t64:=Tryz.underlying407
 a64:=Tryz.isAgg407
 z64:=Tryz.sizeOf407
 v64:=Tryz.zeroValue407}
def Tryz.Jq:Go.Shelf.Ren:=⟨λ|137=>341|217=>363|266=>371|n=>n,λ|9=>9|5=>5|3=>3|n=>n,λ|n=>n⟩
def Tryz.Ss:Go.Proofs.Lays.n137 Tryz.prog Tryz.Jq:={
 mixed:=by kernel_rfl
 f137:=Tryz.func341.trans ac
 f217:=Tryz.func363.trans ac
 f266:=Tryz.func371.trans ac
 t3:=Tryz.underlying3
 a3:=Tryz.isAgg3
 z3:=Tryz.sizeOf3
 v3:=Tryz.zeroValue3
 t5:=Tryz.underlying5
 a5:=Tryz.isAgg5
 z5:=Tryz.sizeOf5
 v5:=Tryz.zeroValue5
 t9:=Tryz.underlying9
 a9:=Tryz.isAgg9
 z9:=Tryz.sizeOf9
 v9:=Tryz.zeroValue9}
def Tryz.Jr:Go.Shelf.Ren:=⟨λ|129=>276|n=>n,λ|53=>359|3=>3|4=>4|46=>311|5=>5|9=>9|n=>n,λ|n=>n⟩
def Tryz.SL:Go.Proofs.Lays.n129 Tryz.prog Tryz.Jr:={
 mixed:=by kernel_rfl
 f129:=Tryz.func276.trans ac
 t3:=Tryz.underlying3
 a3:=Tryz.isAgg3
 z3:=Tryz.sizeOf3
 v3:=Tryz.zeroValue3
 t4:=Tryz.underlying4
 a4:=Tryz.isAgg4
 z4:=Tryz.sizeOf4
 v4:=Tryz.zeroValue4
 t5:=Tryz.underlying5
 a5:=Tryz.isAgg5
 z5:=Tryz.sizeOf5
 v5:=Tryz.zeroValue5
 t9:=Tryz.underlying9
 a9:=Tryz.isAgg9
 z9:=Tryz.sizeOf9
 v9:=Tryz.zeroValue9
 t46:=Tryz.underlying311
 a46:=Tryz.isAgg311
 z46:=Tryz.sizeOf311
 v46:=Tryz.zeroValue311
 t53:=Tryz.underlying359
 a53:=Tryz.isAgg359
 z53:=Tryz.sizeOf359
 v53:=Tryz.zeroValue359}
def Tryz.GQ:Go.Shelf.Ren:=⟨λ|171=>173|243=>245|246=>293|283=>322|284=>323|285=>324|286=>325|129=>276|317=>346|318=>347|319=>348|320=>349|337=>364|338=>365|n=>n,λ|3=>3|9=>9|2=>2|4=>4|171=>398|0=>0|53=>359|37=>197|5=>5|173=>400|212=>420|51=>357|20=>20|213=>421|46=>311|232=>432|233=>433|n=>n,λ|17=>4|18=>6|19=>7|n=>n⟩
def Tryz.Re:Go.Proofs.LaysM.n171 Tryz.prog Tryz.GQ:={
 mixed:=by kernel_rfl
 f129:=Tryz.func276.trans ac
 f171:=Tryz.func173.trans ac
 f243:=Tryz.func245.trans ac
 f246:=Tryz.func293.trans ac
 f283:=Tryz.func322.trans ac
 f284:=Tryz.func323.trans ac
 f285:=Tryz.func324.trans ac
 f286:=Tryz.func325.trans ac
 f317:=Tryz.func346.trans ac
 f318:=Tryz.func347.trans ac
 f319:=Tryz.func348.trans ac
 f320:=Tryz.func349.trans ac
 f337:=Tryz.func364.trans ac
 f338:=Tryz.func365.trans ac
 t0:=Tryz.underlying0
 a0:=Tryz.isAgg0
 z0:=Tryz.sizeOf0
 v0:=Tryz.zeroValue0
 t2:=Tryz.underlying2
 a2:=Tryz.isAgg2
 z2:=Tryz.sizeOf2
 v2:=Tryz.zeroValue2
 t3:=Tryz.underlying3
 a3:=Tryz.isAgg3
 z3:=Tryz.sizeOf3
 v3:=Tryz.zeroValue3
 t4:=Tryz.underlying4
 a4:=Tryz.isAgg4
 z4:=Tryz.sizeOf4
 v4:=Tryz.zeroValue4
 t5:=Tryz.underlying5
 a5:=Tryz.isAgg5
 z5:=Tryz.sizeOf5
 v5:=Tryz.zeroValue5
 t9:=Tryz.underlying9
 a9:=Tryz.isAgg9
 z9:=Tryz.sizeOf9
 v9:=Tryz.zeroValue9
 t20:=Tryz.underlying20
 a20:=Tryz.isAgg20
 z20:=Tryz.sizeOf20
 v20:=Tryz.zeroValue20
 t37:=Tryz.underlying197
 a37:=Tryz.isAgg197
 z37:=Tryz.sizeOf197
 v37:=Tryz.zeroValue197
 t46:=Tryz.underlying311
 a46:=Tryz.isAgg311
 z46:=Tryz.sizeOf311
 v46:=Tryz.zeroValue311
 t51:=Tryz.underlying357
 a51:=Tryz.isAgg357
 z51:=Tryz.sizeOf357
 v51:=Tryz.zeroValue357
 t53:=Tryz.underlying359
 a53:=Tryz.isAgg359
 z53:=Tryz.sizeOf359
 v53:=Tryz.zeroValue359
 t171:=Tryz.underlying398
 a171:=Tryz.isAgg398
 z171:=Tryz.sizeOf398
 v171:=Tryz.zeroValue398
 t173:=Tryz.underlying400
 a173:=Tryz.isAgg400
 z173:=Tryz.sizeOf400
 v173:=Tryz.zeroValue400
 t212:=Tryz.underlying420
 a212:=Tryz.isAgg420
 z212:=Tryz.sizeOf420
 v212:=Tryz.zeroValue420
 t213:=Tryz.underlying421
 a213:=Tryz.isAgg421
 z213:=Tryz.sizeOf421
 t232:=Tryz.underlying432
 a232:=Tryz.isAgg432
 z232:=Tryz.sizeOf432
 v232:=Tryz.zeroValue432
 t233:=Tryz.underlying433
 a233:=Tryz.isAgg433
 z233:=Tryz.sizeOf433
 v233:=Tryz.zeroValue433
 g17:=by kernel_rfl
 g18:=by kernel_rfl
 g19:=by kernel_rfl
 i0:=by kernel_rfl
 i2:=by kernel_rfl
 i3:=by kernel_rfl
 i4:=by kernel_rfl
 i5:=by kernel_rfl
 i9:=by kernel_rfl
 i20:=by kernel_rfl
 i37:=by kernel_rfl
 i46:=by kernel_rfl
 i51:=by kernel_rfl
 i53:=by kernel_rfl
 i171:=by kernel_rfl
 i173:=by kernel_rfl
 i212:=by kernel_rfl
 i232:=by kernel_rfl
 i233:=by kernel_rfl
 m17:=by kernel_rfl
 m18:=by kernel_rfl
 m19:=by kernel_rfl}
def Tryz.EF:Go.Shelf.Ren:=⟨λ|7=>240|10=>289|n=>n,λ|23=>147|26=>3|3=>3|28=>329|0=>0|27=>328|33=>175|4=>4|n=>n,λ|n=>n⟩
def Tryz.VN:Go.Proofs.SlLaysZI.n7 Tryz.prog Tryz.EF:={
 mixed:=by kernel_rfl
 f7:=⟨Tryz.f240.name,am,Tryz.func240.trans ac⟩
 f10:=⟨Tryz.f289.name,am,Tryz.func289.trans ac⟩
 t0:=Tryz.underlying0
 a0:=Tryz.isAgg0
 z0:=Tryz.sizeOf0
 v0:=Tryz.zeroValue0
 t4:=Tryz.underlying4
 a4:=Tryz.isAgg4
 z4:=Tryz.sizeOf4
 v4:=Tryz.zeroValue4
 t23:=Tryz.underlying147
 a23:=Tryz.isAgg147
 z23:=Tryz.sizeOf147
 v23:=Tryz.zeroValue147
 t26:=Tryz.underlying3
 a26:=Tryz.isAgg3
 z26:=Tryz.sizeOf3
 v26:=Tryz.zeroValue3
 t27:=Tryz.underlying328
 a27:=Tryz.isAgg328
 z27:=Tryz.sizeOf328
 v27:=Tryz.zeroValue328
 t28:=Tryz.underlying329
 a28:=Tryz.isAgg329
 z28:=Tryz.sizeOf329
 v28:=Tryz.zeroValue329
 t33:=Tryz.underlying175
 a33:=Tryz.isAgg175
 z33:=Tryz.sizeOf175
 v33:=Tryz.zeroValue175}
def Tryz.xZ:Go.Shelf.Ren:=⟨λ|6=>239|8=>287|9=>288|11=>318|13=>207|12=>319|23=>275|24=>276|14=>333|15=>334|16=>335|17=>336|18=>337|19=>338|20=>311|21=>339|22=>340|25=>360|26=>307|27=>308|28=>361|29=>362|30=>277|31=>370|n=>n,λ|26=>3|28=>329|24=>27|0=>0|3=>3|37=>311|48=>357|50=>359|4=>4|40=>351|39=>350|45=>180|5=>5|9=>9|51=>386|55=>379|57=>406|58=>407|33=>175|n=>n,λ|n=>n⟩
def Tryz.Te:Go.Proofs.SlLaysZI.n6 Tryz.prog Tryz.xZ:={
 mixed:=by kernel_rfl
 f6:=⟨Tryz.f239.name,am,Tryz.func239.trans ac⟩
 f8:=⟨Tryz.f287.name,am,Tryz.func287.trans ac⟩
 f11:=⟨Tryz.f318.name,am,Tryz.func318.trans ac⟩
 t0:=Tryz.underlying0
 a0:=Tryz.isAgg0
 z0:=Tryz.sizeOf0
 v0:=Tryz.zeroValue0
 t24:=Tryz.underlying27
 a24:=Tryz.isAgg27
 z24:=Tryz.sizeOf27
 v24:=Tryz.zeroValue27
 t26:=Tryz.underlying3
 a26:=Tryz.isAgg3
 z26:=Tryz.sizeOf3
 v26:=Tryz.zeroValue3
 t28:=Tryz.underlying329
 a28:=Tryz.isAgg329
 z28:=Tryz.sizeOf329
 v28:=Tryz.zeroValue329
 i26:=by kernel_rfl}
def Tryz.Oz:Go.Shelf.Ren:=⟨λ|5=>288|8=>207|7=>319|19=>275|20=>276|10=>333|11=>334|12=>335|13=>336|14=>337|15=>338|16=>311|17=>339|18=>340|30=>360|31=>307|32=>308|33=>361|34=>362|35=>277|40=>370|n=>n,λ|23=>27|25=>3|3=>3|32=>311|22=>27|0=>0|44=>357|46=>359|4=>4|36=>351|35=>350|41=>180|5=>5|9=>9|53=>386|57=>379|63=>406|64=>407|n=>n,λ|n=>n⟩
def Tryz.vF:Go.Proofs.SlLaysM.n5 Tryz.prog Tryz.Oz:={
 mixed:=by kernel_rfl
 f5:=⟨Tryz.f288.name,am,Tryz.func288.trans ac⟩
 f7:=⟨Tryz.f319.name,am,Tryz.func319.trans ac⟩
 f8:=Tryz.func207.trans ac
 f10:=⟨Tryz.f333.name,am,Tryz.func333.trans ac⟩
 f11:=⟨Tryz.f334.name,am,Tryz.func334.trans ac⟩
 f12:=⟨Tryz.f335.name,am,Tryz.func335.trans ac⟩
 f13:=⟨Tryz.f336.name,am,Tryz.func336.trans ac⟩
 f14:=⟨Tryz.f337.name,am,Tryz.func337.trans ac⟩
 f15:=⟨Tryz.f338.name,am,Tryz.func338.trans ac⟩
 f16:=⟨Tryz.f311.name,am,Tryz.func311.trans ac⟩
 f17:=⟨Tryz.f339.name,am,Tryz.func339.trans ac⟩
 f18:=⟨Tryz.f340.name,am,Tryz.func340.trans ac⟩
 f19:=Tryz.func275.trans ac
 f20:=Tryz.func276.trans ac
 f30:=⟨Tryz.f360.name,am,Tryz.func360.trans ac⟩
 f31:=Tryz.func307.trans ac
 f32:=Tryz.func308.trans ac
 f33:=⟨Tryz.f361.name,am,Tryz.func361.trans ac⟩
 f34:=⟨Tryz.f362.name,am,Tryz.func362.trans ac⟩
 f35:=⟨Tryz.f277.name,am,Tryz.func277.trans ac⟩
 f40:=⟨Tryz.f370.name,am,Tryz.func370.trans ac⟩
 t0:=Tryz.underlying0
 a0:=Tryz.isAgg0
 z0:=Tryz.sizeOf0
 v0:=Tryz.zeroValue0
 t3:=Tryz.underlying3
 a3:=Tryz.isAgg3
 z3:=Tryz.sizeOf3
 v3:=Tryz.zeroValue3
 t4:=Tryz.underlying4
 a4:=Tryz.isAgg4
 z4:=Tryz.sizeOf4
 v4:=Tryz.zeroValue4
 t5:=Tryz.underlying5
 a5:=Tryz.isAgg5
 z5:=Tryz.sizeOf5
 v5:=Tryz.zeroValue5
 t9:=Tryz.underlying9
 a9:=Tryz.isAgg9
 z9:=Tryz.sizeOf9
 v9:=Tryz.zeroValue9
 t22:=Tryz.underlying27
 a22:=Tryz.isAgg27
 z22:=Tryz.sizeOf27
 v22:=Tryz.zeroValue27
 t23:=Tryz.underlying27
 a23:=Tryz.isAgg27
 z23:=Tryz.sizeOf27
 v23:=Tryz.zeroValue27
 t25:=Tryz.underlying3
 a25:=Tryz.isAgg3
 z25:=Tryz.sizeOf3
 v25:=Tryz.zeroValue3
 t32:=Tryz.underlying311
 a32:=Tryz.isAgg311
 z32:=Tryz.sizeOf311
 v32:=Tryz.zeroValue311
 t35:=Tryz.underlying350
 a35:=Tryz.isAgg350
 z35:=Tryz.sizeOf350
 v35:=Tryz.zeroValue350
 t36:=Tryz.underlying351
 a36:=Tryz.isAgg351
 z36:=Tryz.sizeOf351
 v36:=Tryz.zeroValue351
 t41:=Tryz.underlying180
 a41:=Tryz.isAgg180
 z41:=Tryz.sizeOf180
 v41:=Tryz.zeroValue180
 t44:=Tryz.underlying357
 a44:=Tryz.isAgg357
 z44:=Tryz.sizeOf357
 v44:=Tryz.zeroValue357
 t46:=Tryz.underlying359
 a46:=Tryz.isAgg359
 z46:=Tryz.sizeOf359
 v46:=Tryz.zeroValue359
 t53:=Tryz.underlying386
 a53:=Tryz.isAgg386
 z53:=Tryz.sizeOf386
 v53:=Tryz.zeroValue386
 t57:=Tryz.underlying379
 a57:=Tryz.isAgg379
 z57:=Tryz.sizeOf379
 v57:=Tryz.zeroValue379
 t63:=Tryz.underlying406
 a63:=Tryz.isAgg406
 z63:=Tryz.sizeOf406
 v63:=Tryz.zeroValue406
 t64:=Tryz.underlying407
 a64:=Tryz.isAgg407
 z64:=Tryz.sizeOf407
 v64:=Tryz.zeroValue407}
end Go.Proofs
namespace Go.aw
open Go
def wrap_u64(P:Int):ZG .u64 P=P % 18446744073709551616:=by
 unfold ZG;simp[IntKind.signed,IntKind.bits]
variable{a7 v:List UInt8}{a c i o:Nat}{d:YQ}{h:Program}{A g n:TypeId}{m t:ZR}{b:World}
def Ev(P:a<18446744073709551616):ZG .u64 (a:Int)=a:=by rw[wrap_u64];omega
def Le(s:jq h g n 1 1){L D:ZN}(e:aU fN n L b (ZM a) c i v)(C:Row fN 1 b D d c a7)(k:∀l,aU fN n (·=a) l (ZM a) c i a7->aj (·=a) b l->l.heap.size=b.heap.size->m (ZH c) l):
  aG h (Builtin.copy_ #[g,g] A #[.slice (ZM a) c i,.slice d c o]) b m t:=by
 obtain⟨a1,a2,M,hz,N,a3,a4⟩:=s.info;have E:(h.info? n).map (·.size)=some 1:=by rw[M];simp[N]
 have p:=C.len;have O:=e.len dC;obtain⟨a5,D0,F,a6,a8⟩:=e.body;rcases F.cases with⟨u,_⟩|⟨Q,P,u,w,R,S,a9⟩
 ·cases u
 cases u
 by_cases H:c=0
 ·subst H
  have:a7=[]:=QW p.symm;subst this;have:v=[]:=QW O.symm;subst this;have q:=run_copy_none (P:=h) b g g A n (ZM a) d 0 i 0 o s.under E (by rfl);refine aG.mk (v:=ZH 0) q (k b ?_ (aj.refl _) rfl);have:=e.alone;exact⟨by obtain⟨cs,D,T,f,b0⟩:=this.body;exact⟨cs,λ_=>False,T,by rw[show cs=[]from f];rfl,λ_ e=>e.elim⟩,λf j=>by simpa[aH]using j.symm,λf j=>by rw[j];exact aA w⟩
 ·obtain⟨cs,x,U⟩:=C.bW
  have y:a7≠[]:=by rintro rfl;simp at p;exact H p
  obtain⟨f,z,V,_,_,W⟩:=U y dC;subst V;have r:cs.length=c:=by have:=x.length;rw[this,p];show _*1=_;omega
  have b1:P.size=i:=by rw[S];show i*1=i;omega
  have q:=run_copy_row (P:=h) b g g A n a 0 c i ⟨f,z,none⟩ c o P n cs s.under E w (by rw[r];simp[Nat.min_self]) (λX Y Z=>by rw[Addr.add_lit];exact W X Y Z) oM (x.PV);rw[r]at q;have I:=setRow_heap b a P (P.toList.take 0++cs++P.toList.drop (0+c)).toArray n (0,0) w;refine aG.mk q (k _ ⟨⟨cs,λ_=>False,⟨⟨by rw[r];show c=c*1;omega,.inr ⟨a,i,_,rfl,Qj _,I,R,?_,?_,?_⟩⟩⟩,x.free,λ_ e=>e.elim⟩,λf j=>by simpa[aH]using j.symm,λf j=>by subst j;exact aA I⟩ ⟨rfl,rfl,rfl,by simp[World.setRow],λa0 hk y=>setRow_other b a a0 _ y⟩ (by simp[World.setRow]))
  ·rcases F.row.2 with⟨B,_⟩|⟨Q,J,K,B,_,_,_,hm,_⟩
   ·cases B
   ·cases B;exact hm
  ·show _=i*1
   simp;omega
  ·simp only[List.take_zero,List.nil_append,Xz]
   show(cs++P.toList.drop c).take (c*1)=cs;rw[Nat.mul_one,<-r,List.take_left]
end Go.aw
namespace Go.Proofs.YtblabbpipmodgaaGreatDoor
open Go.aw
variable{e:Int}{v:List UInt8}{a c:Nat}{d:YQ}{b:World}
def Oa(c:aN e):YX 304 #[ZH e] b (Ok λd f=>d= .tuple #[.int .u64 (e.natAbs:Int),.int .u8 (if e<0 then 16 else 0)]/\b=f):=by
 unfold aN at c;refine HH (al.dec (λP=>?_) (λP=>?_))
 ·refine Ok.mk ⟨?_,rfl⟩
  rw[Zx P,wrap_u64,wrap_u64];have a:(0-e % 18446744073709551616) % 18446744073709551616=(e.natAbs:Int):=oM
  rw[a]
 ·refine Ok.mk ⟨?_,rfl⟩
  rw[Zq P,wrap_u64];have a:e % 18446744073709551616=(e.natAbs:Int):=oM
  rw[a]
def bits_Len64{P:Nat}{a:World}(d:P<18446744073709551616):YX 276 #[.int .u64 (P:Int)] a (Ok λc b=>c= ZH (Lib.bitLen P:Int)/\a=b):=by
 refine(Any.bits_Len64 Tryz.SL (P:Int) a oM oM).mono ?_;rintro e b ⟨rfl,rfl⟩;exact Ok.mk ⟨by rw[Qx],rfl⟩
def UA(c:a<=8)(P:Bool):Pq .u8 (if P then 16 else 0) (ZG .u8 (a:Int))=((UInt8.ofNat (a+if P then 16 else 0)).toNat:Int):=by
 have b:(List.range 9).all (λa=>Pq .u8 16 (ZG .u8 (a:Int))==((UInt8.ofNat (a+16)).toNat:Int)&&Pq .u8 0 (ZG .u8 (a:Int))==((UInt8.ofNat (a+0)).toNat:Int))=true:=by decide+kernel
 have:=ZY.1 b a (List.mem_range.2 oM);simp only[QK,beq_iff_eq]at this
 cases P
 ·exact this.2
 ·exact this.1
def AX{m:Int}{D:ZN}(s:aN m)(g:Row fN 1 b D d a v)(K:a+9<=aO)(hD:∀f,D f->f<b.heap.size):
  YX 260 #[.slice d a c,ZH m] b (Ok (pC fN 5 b (v++dZ m))):=by
 have k:=g.len;have l:=s;unfold aN at l;have L:=K;unfold aO at L;have t:m.natAbs<2 ^ 64:=oM
 have u:=BN t;have M:=xS _ t;refine JW (PC.ok (Oa s) ?_);rintro _ _ ⟨rfl,rfl⟩;refine⟨_,_,rfl,PC.ok (bits_Len64 oM) ?_⟩;rintro _ _ ⟨rfl,rfl⟩;have N:ZG .i64 (Int.tdiv (ZG .i64 ((Lib.bitLen m.natAbs:Int)+7)) 8)=((fH m.natAbs).length:Int):=by
  rw[wrap_i64 (x:=(Lib.bitLen m.natAbs:Int)+7) bb,Int.tdiv_eq_ediv_of_nonneg oM,wrap_i64 bb,M];omega
 have O:ZG .i64 ((ZG .i64 (((a:Nat):Int)+1))+((fH m.natAbs).length:Int))=((a+1+(fH m.natAbs).length:Nat):Int):=by
  rw[wrap_i64 (x:=((a:Nat):Int)+1) bb,wrap_i64 bb];omega
 refine⟨_,rfl,?_⟩;rw[N,O];refine UB sU kR oM ba λw1 Q w b4=>?_;refine⟨_,_,_,rfl,Le sU Q (g.af w) λR S T b5=>⟨_,rfl,?_⟩⟩;have y:ai b R:=w.new T λf g=>.inr oM;rw[show ZG .u8 ((fH m.natAbs).length:Int)=ZG .u8 ((fH m.natAbs).length:Int)from rfl];have z:=UA u (decide (m<0));simp only[Zk]at z;rw[z];refine Hf S sU (x:=UInt8.ofNat ((fH m.natAbs).length+if m<0 then 16 else 0)) (D:=λ_=>False) ⟨rfl,trivial⟩ (λ_ h=>h.elim) (by rw[<-k];unfold aO;omega) (by rw[<-k];unfold maxLen;omega) λa4 c3 U V A W X b6=>?_;have Y:ai b U:=y.new W λf g=>.inr (by simp only[aH,Q1]at g;omega);have Z:a+1=(v++[UInt8.ofNat ((fH m.natAbs).length+if m<0 then 16 else 0)]).length:=by simp[k]
 generalize a8:v++[UInt8.ofNat ((fH m.natAbs).length+if m<0 then 16 else 0)]=n at A Z;have a0:v++dZ m=n++(fH m.natAbs).reverse:=by rw[<-a8,XQ];rfl
 rw[a0];generalize a9:(fH m.natAbs).length=e at u⊢;refine⟨_,_,_,rfl,λB C o E F H=>∃P:Nat,P<=e/\F=(e:Int)-1-P/\B=e-P/\o=a+1+P/\∃i,aU fN 5 i H C o E (n++(fH m.natAbs).reverse.take P)/\ai b H/\∀f,i f->b.heap.size<=f,
  ⟨_,0,Qj _,by rw[wrap_i64 bb];omega,rfl,rfl,V,by simpa using A,Y,λf g=>?_⟩,?_⟩
 ·rcases X f g with h|h|h
  ·omega
  ·exact h.elim
  ·have:=y.size;omega
 rintro B C o E F _ p ⟨P,hj,rfl,rfl,rfl,i,j,q,r⟩;refine al.dec (λh1=>?_) (λh1=>?_)
 ·have b7:P<e:=oM
  have b0:ZG .i64 (8*((e:Int)-1-P))=((8*(e-1-P):Nat):Int):=by rw[wrap_i64 bb];omega
  rw[b0];have a1:∀x I,(do eqGuard .shr 359 x I (.int .u64 (m.natAbs:Int)) (ZH ((8*(e-1-P):Nat):Int));binOp .shr 359 (.int .u64 (m.natAbs:Int)) (ZH ((8*(e-1-P):Nat):Int)):Sem Value).run ZP p=
    .ok (.int .u64 ((m.natAbs/256 ^(e-1-P):Nat):Int)) p:=λx I=>by
   have h0:=shift_shr .u64 .i64 (m.natAbs:Int) ((8*(e-1-P):Nat):Int) oM (by show _<=((64:Nat):Int);omega);have e1:(m.natAbs:Int)/2 ^(Int.toNat ((8*(e-1-P):Nat):Int))=((m.natAbs/256 ^(e-1-P):Nat):Int):=by
    have e2:(256:Nat) ^(e-1-P)=2 ^(8*(e-1-P)):=by rw[Nat.pow_mul]
    rw[Qx,e2];simp
   show(Op.shift .shr .u64 (m.natAbs:Int) .i64 ((8*(e-1-P):Nat):Int)).run ZP p=_;rw[h0,e1]
   rfl
  refine aG.mk (a1 _ _) ⟨_,rfl,?_⟩;have a2:(fH m.natAbs).reverse[P]? =some (UInt8.ofNat (m.natAbs/256 ^(e-1-P))):=by
   rw[List.getElem?_reverse oM,a9];rw[QI _ _ oM]
   congr 1
   refine UInt8.toNat_inj.1 ?_;rw[ZK,ZK];omega
  have a3:ZG .u8 ((m.natAbs/256 ^(e-1-P):Nat):Int)=((UInt8.ofNat (m.natAbs/256 ^(e-1-P))).toNat:Int):=by
   rw[ZK];unfold ZG;simp[IntKind.signed,IntKind.bits]
  rw[a3];have J:(n++(fH m.natAbs).reverse.take P).length=a+1+P:=by simp;omega
  refine Hf j sU (x:=UInt8.ofNat (m.natAbs/256 ^(e-1-P))) (D:=λ_=>False) ⟨rfl,trivial⟩ (λ_ h=>h.elim) (by rw[J];unfold aO;omega) (by rw[J];unfold maxLen;omega) λa5 c5 w5 F5 b1 b2 b3 b8=>?_;refine⟨_,_,_,rfl,_,oM,P+1,oM,by rw[wrap_i64 bb];omega,rfl,oM,F5,?_,q.new b2 λf g=>.inr (r f (j.self f g)),λf g=>?_⟩
  ·rw[Qw,a2]
   simpa using b1
  ·rcases b3 f g with h|h|h
   ·exact r f h
   ·exact h.elim
   ·exact Xx q.size h
 ·obtain rfl:P=e:=oM
  rw[Qz bc]at j;exact Ok.mk ⟨_,_,_,i,rfl,j,q,r⟩
end Go.Proofs.YtblabbpipmodgaaGreatDoor
namespace Go.aw
open Go
def Own.set{e:World}{k:TypeId}{l:Nat}{f:YQ}{n a:Nat}{cs:List Value}(o:Own e k l f n a cs){m:Nat}{p:Value}{q:ZU}(F:m<cs.length){b c:Nat}(g:f=some ⟨b,c,none⟩)(h:∀P,Own P k l f n a (cs.set m p)->aj (λb=>aH f=some b) e P->P.heap.size=e.heap.size->q P):PS e ⟨b,c+m,none⟩ p q:=by
 have r:=o.row.1;rcases o.row.2 with⟨d,H⟩|⟨I,J,i,d,s,t,u,v,w,j⟩
 ·simp only[XX]at d
  rw[d.1]at g;cases g
 ·simp only[XX]at d
  obtain⟨x,-,y⟩:=d;subst x;subst y
  cases g
  rw[Xz];have z:m<i.size:=by
   have:=Zj List.length j;simp at this;omega
  refine PS.mk t z λP A B C=>h P ⟨⟨by simpa using r,.inr ⟨_,_,_,rfl,s,C,u,v,by simpa using w,?_⟩⟩⟩ (A.mono λb _ E=>by rw[E];rfl) B;rw[Array.toList_setIfInBounds,List.take_set,j]
def bR.nq{b:Type}{c:Nat}{P:b->List Value}{hl h1}{d:World}{D:ZN}:∀{a:List b} {cs:List Value},bR (flat c P (λ_=>True) hl h1) d D a cs↔cs=a.flatMap P
 |[],cs=>by simp[bR]
 |x::a,cs=>by
  constructor
  ·rintro⟨f,g,rfl,⟨rfl,-⟩,e⟩
   rw[bR.nq.1 e];rfl
  ·rintro rfl
   exact⟨P x,a.flatMap P,rfl,⟨rfl,trivial⟩,bR.nq.2 rfl⟩
def qM{d:Type}{enc:d->List Value}{k:Nat}(e:∀a,(enc a).length=k){x':d}{v:Value}{b:Nat}(h:b<k):∀(f:List d) (P:Nat) (a:d),f[P]? =some a->enc x'=(enc a).set b v->(f.flatMap enc).set (P*k+b) v=(f.set P x').flatMap enc
 |[],P,a,c,_=>by simp at c
 |y::i,0,a,c,g=>by
  simp at c;subst c;rw[List.flatMap_cons,List.set_cons_zero,List.flatMap_cons,Nat.zero_mul,Xz,List.set_append_left _ _ (by rw[e];exact h),g]
 |y::i,P+1,a,c,g=>by
  have:=qM e h i P a (by simpa using c) g;have j:(P+1)*k+b-k=P*k+b:=by rw[X7];omega
  have l:k<=(P+1)*k+b:=by rw[X7];omega
  rw[List.flatMap_cons,List.set_cons_succ,List.flatMap_cons,List.set_append_right _ _ (by rw[e];exact l),e,j,this]
def kQ{b:Type}{P:b->List Value}{c:Nat}(d:∀x,(P x).length=c):∀a:List b,(a.flatMap P).length=a.length*c
 |[]=>by simp
 |x::a=>by rw[List.flatMap_cons,QX,d,kQ d a,Xq,X7,Nat.one_mul,Nat.add_comm]
variable{F a c i o:Nat}{f:ZN}{d r:YQ}{h:Program}{j:Type}{A g n:TypeId}{u:Value}{m t:ZR}{b:World}
def aU.set{l:Type}{P:l->List Value}{hl h1}{h:List l}(m:aU (flat a P (λ_=>True) hl h1) g f b d c i h){e j:Nat}{x x':l}{p:ZU}(q:h[e]? =some x)(s:j<a)(t:P x'=(P x).set j u)(v:d=some ⟨o,F,none⟩)(n:∀k,aU (flat a P (λ_=>True) hl h1) g f k d c i (h.set e x')->aj (λo=>aH d=some o) b k->k.heap.size=b.heap.size->p k):PS b ⟨o,F+e*a+j,none⟩ u p:=by
 obtain⟨cs,D,w,y,z⟩:=m.body;have A:=bR.nq.1 y;subst A;have B:e<h.length:=(Qv.1 q).1;rw[Nat.add_assoc];refine w.set (m:=e*a+j) ?_ v λk C E r=>n k ⟨⟨_,D,C,bR.nq.2 (qM hl s h e x q t),z⟩,m.self,λo H=>by rw[r];exact m.aE o H⟩ E r;rw[kQ hl];have:(e+1)*a<=h.length*a:=Q0 _ B;rw[X7]at this;omega
def xf{P:Program}{w:World}(a:Nat)(c h d:TypeId)(i:TypeInfo)(b:Nat)(f:P.underlying c=some (.slice d))(g:P.info? d=some i)(e:Value)(j:Nat)(k:List Value)(l:w.ownsRow a d b e j k)(m:Nat):
  (Builtin.append_ #[c,c] h #[e,.slice none 0 m]).run P w= .ok e w:=by
 rcases l.2 with⟨rfl,rfl⟩|⟨q,n,o,rfl,_,_,p,_⟩
 ·simp[Builtin.append_,run_underlying f,sizeOf,typeInfo,g,Builtin.lenOf,Builtin.firstCells]
 ·simp[Builtin.append_,run_underlying f,sizeOf,typeInfo,g,Builtin.lenOf,Builtin.firstCells,p,storeCells]
def zr{l:jU j}{s:List j}{bytes:Nat}(u:aU l g f b d a c s)(v:jq h n g l.k bytes){D:ZN}{k:List j}(w:Row l bytes b D r i k)(B:∀P,D P->P<b.heap.size/\aH d≠some P)(p:(s.length+k.length)*bytes<=aO)(C:s.length+k.length<=maxLen)(q:∀x e y z,aU l g z y x (a+i) e (s++k)->aj (λE=>aH d=some E) b y->(∀P,z P->f P\/D P\/b.heap.size<=P)->(∀P,aH x=some P->f P\/b.heap.size<=P)->m (.slice x (a+i) e) y):
  aG h (Builtin.append_ #[n,n] A #[.slice d a c,.slice r i o]) b m t:=by
 cases r with
 |some N=>exact kK u v w B p C q
 |none=>
  have F:k=[]:=by
   cases k with
   |nil=>rfl
   |cons H O=>obtain⟨P,I,Q,J,_⟩:=w.el 0 H rfl;cases J
  subst F;obtain rfl:i=0:=w.len;obtain⟨K,R,L,S,T,U,V⟩:=jq.info v;obtain⟨cs,W,M,X,Y⟩:=u.body;exact aG.mk (xf (P:=h) (w:=b) 0 n A g K l.k v.under L (.slice d a c) a cs M.row o) (q d c b f (by simpa using u) (aj.refl _) (λP p=>.inl p) λP p=>.inl (u.self P p))
end Go.aw
namespace Go.aw
open Go
def KD(P:UInt8):ZG .i64 (P.toNat:Int)=P.toNat:=wrap_i64 (by have:=P.toNat_lt;unfold aN;omega)
def k_(P:UInt8):Nat:=if 16<P.toNat then P.toNat-16 else P.toNat
def Lj(a:UInt8):(ZG .i64 (uZ .u8 (a.toNat:Int) 16)<=8/\((a.toNat:Int)≠16)↔k_ a<=8)/\(k_ a<=8->ZG .i64 (uZ .u8 (a.toNat:Int) 16)=(k_ a:Int)/\Fu .u8 (a.toNat:Int) 16=if 16<a.toNat then 16 else 0):=by
 have b:(List.range 256).all (λP=>decide ((ZG .i64 (uZ .u8 (P:Int) 16)<=8/\((P:Int)≠16)↔(if 16<P then P-16 else P)<=8)/\((if 16<P then P-16 else P)<=8->ZG .i64 (uZ .u8 (P:Int) 16)=((if 16<P then P-16 else P:Nat):Int)/\Fu .u8 (P:Int) 16=if 16<P then 16 else 0)))=true:=by decide+kernel
 have:=ZY.1 b a.toNat (List.mem_range.2 a.toNat_lt);exact XV this
def Lk{P d:Nat}(c:P<72057594037927936)(e:d<256):Pq .u64 (Kz .u64 (P:Int) 8) (ZG .u64 (d:Int))=((P*256+d:Nat):Int):=by
 have a:Kz .u64 (P:Int) 8=((P*256:Nat):Int):=by
  unfold Kz;have:min (Int.toNat 8) (IntKind.bits .u64)=8:=dC
  rw[this,wrap_u64];have:((2:Int) ^ 8)=256:=dC
  rw[this];omega
 rw[a,Ev oM];unfold Pq;show ZG .u64 ((BitVec.ofInt 64 ((P*256:Nat):Int)|||BitVec.ofInt 64 (d:Int)).toNat:Int)=_;have b:P*256|||d=P*256+d:=by
  have:=(Nat.shiftLeft_add_eq_or_of_lt (a:=P) (i:=8) (b:=d) oM).symm
  rwa [Nat.shiftLeft_eq]at this
 rw[BitVec.ofInt_natCast,BitVec.ofInt_natCast,BitVec.toNat_or,BitVec.toNat_ofNat,BitVec.toNat_ofNat,Nat.mod_eq_of_lt oM,Nat.mod_eq_of_lt oM,b,Ev oM]
variable{v:List UInt8}{a:Nat}{b9:UInt8}
def DW(P:v[a]? =some b9):gi (v.take (a+1))=gi (v.take a)*256+b9.toNat:=by
 rw[Qw,P];exact xU _ _
def ob(P:List UInt8){j m:Nat}(a:j<=m):gi (P.take j)<256 ^ m:=by
 have b:=My (P.take j);have c:256 ^(P.take j).length<=256 ^ m:=Nat.pow_le_pow_right oM bc;omega
def Ll(P:¬k_ b9<=8):rdNum (b9::v)=(5,0,0):=by
 unfold rdNum k_ at*;simp only;rw[Zx oM]
def IJ(a:k_ b9<=8)(P:v.length<k_ b9):rdNum (b9::v)=(4,0,0):=by
 unfold rdNum k_ at*;simp only;rw[Zq oM,Zx P]
def Od(b:k_ b9<=8)(P:¬v.length<k_ b9)(a:(0<k_ b9/\v.head? =some 0)\/(¬16<b9.toNat/\2 ^ 63<=gi (v.take (k_ b9)))\/(16<b9.toNat/\2 ^ 63<gi (v.take (k_ b9)))):rdNum (b9::v)=(5,0,0):=by
 unfold rdNum k_ at*;simp only;rw[Zq oM,Zq P,Zx a]
def BP(b:k_ b9<=8)(P:¬v.length<k_ b9)(a:¬((0<k_ b9/\v.head? =some 0)\/(¬16<b9.toNat/\2 ^ 63<=gi (v.take (k_ b9)))\/(16<b9.toNat/\2 ^ 63<gi (v.take (k_ b9))))):
  rdNum (b9::v)=(0,if 16<b9.toNat then-(gi (v.take (k_ b9)):Int)else gi (v.take (k_ b9)),k_ b9+1):=by
 unfold rdNum k_ at*;simp only;rw[Zq oM,Zq P,Zq a]
end Go.aw
namespace Go.Proofs.YtblabbpipmodgaaGreatDoor
open Go.aw
structure fp (w:World) (p:Nat) (F:ZN) (r:gH):Prop where
 body:∃a n cap G,w.heap[p]? =some (.cells #[.slice a n cap,ZH (r.pos:Int),ZH r.rm] 340 (0,0))/\aU fN 5 G w a n cap r.bytes/\(∀b,G b->F b/\b≠p)
 self:F p
 aE:∀b,F b->b<w.heap.size
 fit:r.Fit
 dO:r.bytes.length<=aO
variable{p:Array Value}{J:Bool}{y:FuncId}{e:Int}{a3:List PanicEntry->ZU}{v:List UInt8}{a c i:Nat}{f:ZN}{d:YQ}{m t:ZR}{b k:World}{R:gH}
def fp.keep{S d:ZN}(c:fp b a d R)(e:aj S b k)(h:∀P,d P->¬S P):fp k a d R:=by
 obtain⟨j,l,f,G,m,n,i⟩:=c.body;exact⟨⟨j,l,f,G,e.get m (h _ c.self),n.keep e (λP g=>h P (i P g).1),i⟩,c.self,λP g=>Qk (c.aE P g) e.size,c.fit,c.dO⟩
def fp.af(P:fp b a f R)(c:ai b k):fp k a f R:=P.keep c λ_ _ P=>P
def fp.eV{e w':World}{g r':gH}(h:fp e a f g){G:ZN}(l:aU fN 5 G e d c i g.bytes)(j:∀P,G P->f P/\P≠a)(k:aj (·=a) e w')(m:w'.heap[a]? =some (.cells #[.slice d c i,ZH (r'.pos:Int),ZH r'.rm] 340 (0,0)))(b:r'.bytes=g.bytes)(n:r'.Fit):fp w' a f r':=
 ⟨⟨d,c,i,G,m,by rw[b];exact l.keep k λP b=>(j P b).2,j⟩,h.self,λP b=>Qk (h.aE P b) k.size,n,by rw[b];exact h.dO⟩
def DV{D:ZN}(e:Row fN 1 b D d a v)(o:∀P,D P->P<b.heap.size):
  YX 183 #[.slice d a c] b (Ok λp k=>∃l m,p= ZL l/\fp k l m ⟨v,0,0⟩/\ai b k/\∀P,m P->b.heap.size<=P):=by
 have q:=e.len;have r:=e.dO;refine HD (zr (aU.nil b) sU e (λP h=>⟨o P h,by simp[aH]⟩) bc (by unfold aO at r;unfold maxLen;simp;omega) λf s i z t u _ w=>?_);refine⟨_,_,_,rfl,PA.mk λA j B x=>?_⟩;have n:ai b i:=u.mono λP _ e=>by simp[aH]at e
 have g:=t.alone;rw[List.nil_append]at g;have y:∀P,aH f=some P->b.heap.size<=P:=λP e=>(w P e).elim (λh=>h.elim) id;refine Ok.mk ⟨i.heap.size,λP=>P=i.heap.size\/aH f=some P,rfl,⟨⟨f,_,s,λP=>aH f=some P,x,g.af j,λP e=>⟨.inr e,?_⟩⟩,.inl rfl,?_,⟨Qj _,.inl rfl⟩,by rw[<-q];omega⟩,n.then j,?_⟩
 ·have:=g.aE P e;omega
 ·rintro P (rfl|e)
  ·omega
  ·have:=g.aE P e;have:=j.size;omega
 ·rintro P (rfl|e)
  ·exact n.size
  ·exact y P e
def TJ(P:Int):List PanicEntry:=[{v:=.iface 376 (ZH P),recovered:=false}]
def fR(P:J=true->m (.tuple #[]) b)(a:J=false->a3 (TJ e) b):
  PC ZP 301 #[.bool J,ZH e] b m a3:=by
 cases J
 ·refine xq (al.tt rfl ?_)
  exact aG.panics (v:=.iface 376 (ZH e)) rfl (a rfl)
 ·exact xq (al.ff rfl (P rfl))
def UF(c:World)(b:Nat)(d:ZN)(P:gH)(no:Int)(g:ZR)(h:Nat):ZT:=λe a=>
 ((no=0/\fp a b d ⟨P.bytes,P.pos+h,P.rm⟩/\∃f,e= .returned f/\g f a)\/(no≠0/\e= .panicked (TJ no)/\∃i,fp a b d ⟨P.bytes,i,P.rm⟩))/\aj (·=b) c a/\a.heap.size=c.heap.size
def PC.red{no:Int}(e:YX y p b (UF b a f R no m c))(k:no=0->∀d P,fp P a f ⟨R.bytes,R.pos+c,R.rm⟩->m d P->aj (·=a) b P->P.heap.size=b.heap.size->t d P)(l:no≠0->∀P,(∃n,fp P a f ⟨R.bytes,n,R.rm⟩)->aj (·=a) b P->P.heap.size=b.heap.size->a3 (TJ no) P):PC ZP y p b t a3:=
 e.mono λq P ⟨e,i,j⟩=>by
  rcases e with⟨g,h,d,rfl,o⟩|⟨g,rfl,h⟩
  ·exact k g d P h o i j
  ·exact l g P h i j
def MB{m:Nat}(d:fp b a f R)(M:m<=2147483647):
  YX 302 #[ZL a,ZH (m:Int)] b (UF b a f R (if m<=R.bytes.length-R.pos then 0 else 4) (λx y=>∃e z,x= .slice e m z/\Row fN 1 y f e m ((R.bytes.drop R.pos).take m)) m):=by
 obtain⟨e,q,P,G,A,h,k⟩:=d.body;have N:=d.fit.pos;have B:=d.dO;have O:=h.len dC;have C:=h.lM;unfold aO at B;refine tI λr s=>?_;have i:ai b r:=s.keep;have j:=i.get A id;have t:r.heap.size=b.heap.size:=by rw[s.heap]
 refine⟨a,0,rfl,e,q,P,ae j rfl,a,0,rfl,_,ae j rfl,fR (λc=>?_) (λc=>?_)⟩
 ·have c:=XV c
  rw[wrap_i64 bb]at c;refine⟨rfl,a,0,rfl,_,ae j rfl,a,0,rfl,PS.mk j sM λE F H g=>?_⟩;have I:ZG .i64 ((R.pos:Int)+(m:Int))=((R.pos+m:Nat):Int):=by rw[wrap_i64 bb];omega
  rw[I]at g;have J:ZG .i64 (((R.pos+m:Nat):Int)-(m:Int))=(R.pos:Int):=by rw[wrap_i64 bb];omega
  refine⟨a,0,rfl,e,q,P,ae g rfl,a,0,rfl,_,ae g rfl,a,0,rfl,_,ae g rfl,?_⟩;rw[J];refine⟨oM,oM,oM,λl u=>?_⟩;have v:ai E l:=u.keep;have n:aj (·=a) b l:=((i.keep).then F).af v;have K:fp l a f ⟨R.bytes,R.pos+m,R.rm⟩:=d.eV (r':=⟨R.bytes,R.pos+m,R.rm⟩) h k n (v.get g id) rfl ⟨by show R.pos+m<=R.bytes.length;omega,d.fit.rm⟩;refine⟨.inl ⟨Zx oM,K,_,rfl,cI e R.pos P 1,P-R.pos,?_⟩,n,by rw[u.heap,H,t]⟩;simp only[Qx];rw[show R.pos+m-R.pos=m by omega];refine⟨rfl,?_⟩;have o:=(h.row (bytes:=1) dC ba).part (lo:=R.pos) (hi:=R.pos+m) (cap:=P) oM oM C;rw[show R.pos+m-R.pos=m by omega]at o;have L:(R.bytes.take (R.pos+m)).drop R.pos=(R.bytes.drop R.pos).take m:=by rw[List.drop_take];congr 1;omega
  rw[L]at o;exact((o.keep n λp c=>(k p c).2)).mono λp c=>(k p c).1
 ·intro _ _
  have c:=Xy c;rw[wrap_i64 bb]at c;have w:¬m<=R.bytes.length-R.pos:=oM
  refine⟨.inr ⟨by rw[Zq w];decide,by rw[Zq w],R.pos,?_⟩,i.keep,t⟩;exact d.af i
def Ex(M:fp b a f R):
  YX 256 #[ZL a] b (UF b a f R R.num.1 (λt h=>t= ZH R.num.2.1) R.num.2.2):=by
 have x:=M.fit.pos;have r:(R.bytes.drop R.pos).length=R.bytes.length-R.pos:=XZ ..;generalize s:R.bytes.drop R.pos=A at r;have Z:R.num=rdNum A:=by unfold gH.num;rw[s]
 rw[Z];refine qh (PC.red (MB (m:=1) M oM) ?_ ?_)
 rotate_left
 ·intro l y B u v
  have:¬1<=R.bytes.length-R.pos:=λg=>l (Zx g);rw[Zq this];have:A=[]:=QW oM;subst this;exact⟨.inr ⟨dC,rfl,B⟩,u,v⟩
 rintro l _ y N ⟨a1,c1,rfl,O⟩ u v;have Q:1<=R.bytes.length-R.pos:=by
  by_cases g:1<=R.bytes.length-R.pos
  ·exact g
  ·rw[Zq g]at l;cases l
 rw[s]at O
 match A,s,r with
 |[],s,r=>simp at r;omega
 |P::e,s,r=>
 have b1:e.length=R.bytes.length-R.pos-1:=by simp at r;omega
 have a7:R.bytes.drop (R.pos+1)=e:=by rw[<-List.drop_drop,s];rfl
 obtain⟨b5,o6,n,rfl,o,_,c⟩:=O.lN (i:=0) oM;obtain rfl:P=n:=by simpa using o
 obtain⟨C,a8⟩:=Lj P;refine⟨_,_,_,rfl,b5,o6,rfl,oM,oM,_,c,?_⟩;refine⟨λh=>k_ P<=8/\h=y,?_,?_⟩
 ·have k:¬k_ P<=8->∀h,h=y->UF b a f R (rdNum (P::e)).1 (λt h=>t= ZH (rdNum (P::e)).2.1) (rdNum (P::e)).2.2 (.panicked (TJ 5)) h:=by
   rintro p h rfl;rw[Ll p];exact⟨.inr ⟨dC,rfl,R.pos+1,N⟩,u,v⟩
  refine al.dec (λE=>fR (λd=>⟨rfl,?_,rfl⟩) (λd=>k ?_ _ rfl)) (λE=>fR (λd=>(by cases d)) λ_=>k ?_ _ rfl)
  ·exact C.1 ⟨E,by simpa using d⟩
  ·intro p
   have:=(C.2 p).2;simp only[bne_eq_false_iff_eq]at d;exact this d
  ·intro p
   exact E (C.2 p).1
 rintro _ y ⟨w,rfl⟩;obtain⟨p,a9⟩:=a8 w;rw[p];refine PC.red (MB (m:=k_ P) N oM) ?_ ?_
 rotate_left
 ·intro l m B F H
  have hn:¬k_ P<=R.bytes.length-(R.pos+1):=λg=>l (Zx g);rw[Zq hn,IJ w oM];exact⟨.inr ⟨dC,rfl,B⟩,u.then F,H.trans v⟩
 rintro l _ m S ⟨a2,c2,rfl,z⟩ F H;have b2:k_ P<=e.length:=by
  by_cases g:k_ P<=R.bytes.length-(R.pos+1)
  ·omega
  ·simp only at l;rw[Zq g]at l;cases l
 change Row fN 1 m f a2 (k_ P) ((R.bytes.drop (R.pos+1)).take (k_ P))at z
 rw[a7]at z;have T:fp m a f ⟨R.bytes,R.pos+(k_ P+1),R.rm⟩:=by have:=S;rwa [show R.pos+(k_ P+1)=R.pos+1+k_ P by omega]
 have I:aj (·=a) b m:=u.then F;have J:=H.trans v;have k:((0<k_ P/\e.head? =some 0)\/(¬16<P.toNat/\2 ^ 63<=gi (e.take (k_ P)))\/(16<P.toNat/\2 ^ 63<gi (e.take (k_ P))))->∀h,h=m->UF b a f R (rdNum (P::e)).1 (λt h=>t= ZH (rdNum (P::e)).2.1) (rdNum (P::e)).2.2 (.panicked (TJ 5)) h:=by
  rintro d h rfl;rw[Od w oM d];exact⟨.inr ⟨dC,rfl,_,S⟩,I,J⟩
 refine⟨_,_,_,rfl,λh=>¬(0<k_ P/\e.head? =some 0)/\h=m,?_,?_⟩
 ·refine al.eD (λg=>fR (λ_=>⟨rfl,λc=>oM,rfl⟩) (λd=>by cases d)) (λg=>?_)
  have x:0<k_ P:=oM
  obtain⟨K,L,n,rfl,o,_,c⟩:=z.lN (i:=0) x;have U:e.head? =some n:=by
   rw[Xw,Zx x]at o;rw[List.head?_eq_getElem?];exact o
  refine⟨K,L,rfl,oM,oM,_,c,fR (λd=>⟨rfl,λc=>?_,rfl⟩) (λd=>k (.inl ⟨x,?_⟩) _ rfl)⟩
  ·rw[U]at c
   have:=c.2;simp only[Q1]at this;subst this;simp at d
  ·rw[U]
   have:(n.toNat:Int)=0:=by simpa using d
   exact Zj some (UInt8.toNat_inj.1 (by
                         have:n.toNat=0:=oM
                         rw[this];rfl))
 rintro _ m ⟨V,rfl⟩;refine⟨λW X i h=>∃j:Nat,j<=k_ P/\i=j/\W=k_ P-j/\h=m/\X=(gi (e.take j):Int),⟨_,0,Qj _,rfl,rfl,rfl,rfl⟩,?_⟩;rintro W X i _ m ⟨j,hj,rfl,rfl,rfl,rfl⟩;refine al.dec (λh1=>?_) (λh1=>?_)
 ·have Y:j<k_ P:=oM
  obtain⟨K,L,n,rfl,o,_,c⟩:=z.lN (i:=j) Y;rw[Xw,Zx Y]at o;refine⟨K,L,rfl,oM,oM,_,c,_,oM,j+1,oM,an oM,rfl,rfl,?_⟩;have b0:=ob e (j:=j) (m:=7) oM;rw[Lk (by
            have:(256:Nat) ^ 7=72057594037927936:=dC
            omega) n.toNat_lt,DW o]
 ·obtain rfl:j=k_ P:=oM
  have b0:=ob e (j:=k_ P) (m:=8) oM;have b3:(256:Nat) ^ 8=18446744073709551616:=dC
  have b4:(2:Nat) ^ 63=9223372036854775808:=dC
  refine al.eD (λg=>?_) (λg=>?_)<;>rw[a9]at g
  ·have q:¬16<P.toNat:=by intro c;rw[Zx c]at g;cases g
   refine fR (λd=>⟨rfl,?_⟩) (λd=>k (.inr (.inl ⟨q,?_⟩)) _ rfl)
   ·have d:=XV d
    rw[BP w oM (λc=>c.elim V λc=>c.elim (λc=>oM) λc=>q c.1),Zq q];exact⟨.inl ⟨rfl,T,_,rfl,by rw[wrap_i64 bb]⟩,I,J⟩
   ·have d:=Xy d
    omega
  ·have q:16<P.toNat:=by
    by_cases c:16<P.toNat
    ·exact c
    ·rw[Zq c]at g;exact Zz rfl g
   refine fR (λd=>⟨rfl,?_⟩) (λd=>k (.inr (.inr ⟨q,?_⟩)) _ rfl)
   ·have d:=XV d
    rw[BP w oM (λc=>c.elim V λc=>c.elim (λc=>c.1 q) λc=>oM),Zx q];refine⟨.inl ⟨rfl,T,_,rfl,?_⟩,I,J⟩;have e1:ZG .i64 (ZG .u64 (0-(gi (e.take (k_ P)):Int)))= -(gi (e.take (k_ P)):Int):=by
     unfold ZG;simp[IntKind.signed,IntKind.bits];omega
    rw[e1]
   ·have d:=Xy d
    omega
end Go.Proofs.YtblabbpipmodgaaGreatDoor
namespace Go.aw
open Go
def aq{P a:Type}[BEq P](c:List (P×a))(b:P):Option a:=match c with
 |[]=>none
 |(d,e)::f=>if b==d then some e else aq f b
def aI{P b:Type}[BEq P](f:List (P×b))(a:P)(c:b):List (P×b):=match f with
 |[]=>[(a,c)]
 |(d,g)::e=>if a==d then(a,c)::e else(d,g)::aI e a c
def bL{P a:Type}[BEq P](e:List (P×a))(b:P):List (P×a):=match e with
 |[]=>[]
 |(c,f)::d=>if b==c then d else(c,f)::bL d b
variable{e7:Array MapEntry}{a c:Nat}{h:Program}{I j:Type}{e8:TypeDesc}{A b8 f4 g n:TypeId}{e9:TypeInfo}{c0 u:Value}{m t:ZR}{b k:World}{x:ZU}
def bD[BEq j][LawfulBEq j](e:List (j×I))(a P:j)(g:I):aq (aI e a g) P=if P==a then some g else aq e P:=by
 induction e with
 |nil=>simp[aI,aq]
 |cons h l i=>
  obtain⟨c,m⟩:=h;unfold aI
  by_cases b:a==c
  ·rw[Zx b]
   have f:a=c:=by simpa using b
   subst f;unfold aq;split<;>rfl
  ·rw[Zq b]
   unfold aq
   by_cases d:P==c
   ·rw[Zx d]
    have f:P=c:=by simpa using d
    subst f;have:(P==a)=false:=by
     cases k:P==a
     ·rfl
     ·exfalso;apply b;have:P=a:=by simpa using k
      simp[this]
    rw[this];simp[aq,b]
   ·rw[Zq d];rw[i];simp[aq,d]
def Tidy{P a:Type}(b:List (P×a)):Prop:=(b.map (·.1)).Nodup
def QD[BEq j][LawfulBEq j]{a:List (j×I)}{P:j}{d:I}{b:j}:b∈(aI a P d).map (·.1)↔b=P\/b∈a.map (·.1):=by
 induction a with
 |nil=>simp[aI]
 |cons e i f=>
  obtain⟨c,k⟩:=e;unfold aI
  by_cases h:P==c
  ·rw[Zx h]
   have g:P=c:=by simpa using h
   subst g;simp
  ·rw[Zq h]
   simp only[QY,Q2,f];constructor
   ·rintro(h|h|h)<;>simp[h]
   ·rintro(h|h|h)<;>simp[h]
def Tidy.aI{P f:Type}[BEq P][LawfulBEq P]{c:List (P×f)}(a:Tidy c)(d:P)(h:f):Tidy (aI c d h):=by
 unfold Tidy at*
 induction c with
 |nil=>simp[aw.aI]
 |cons i l j=>
  obtain⟨g,m⟩:=i;simp only[QY,List.nodup_cons]at a;unfold aw.aI
  by_cases b:d==g
  ·rw[Zx b]
   have k:d=g:=by simpa using b
   subst k;simpa using a
  ·rw[Zq b]
   simp only[QY,List.nodup_cons];refine⟨λe=>?_,j a.2⟩;rcases QD.1 e with rfl|e
   ·simp at b
   ·exact a.1 e
def QE[BEq j][LawfulBEq j]{a:List (j×I)}{c b:j}(P:b∈(bL a c).map (·.1)):b∈a.map (·.1):=by
 induction a with
 |nil=>simp[bL]at P
 |cons d f e=>
  obtain⟨g,h⟩:=d;unfold bL at P;split at P
  ·simp only[QY,Q2];exact .inr P
  ·simp only[QY,Q2]at P⊢
   rcases P with P|P
   ·exact .inl P
   ·exact .inr (e P)
def Tidy.bL{P c:Type}[BEq P][LawfulBEq P]{b:List (P×c)}(a:Tidy b)(d:P):Tidy (bL b d):=by
 unfold Tidy at*
 induction b with
 |nil=>simp[aw.bL]
 |cons e h f=>
  obtain⟨i,j⟩:=e;simp only[QY,List.nodup_cons]at a;unfold aw.bL;split
  ·exact a.2
  ·simp only[QY,List.nodup_cons]
   exact⟨λg=>a.1 (QE g),f a.2⟩
def mX[BEq j][LawfulBEq j]{b:List (j×I)}{P:j}:aq b P=none↔P∉b.map (·.1):=by
 induction b with
 |nil=>simp[aq]
 |cons d g e=>
  obtain⟨c,h⟩:=d;unfold aq
  by_cases a:P==c
  ·have f:P=c:=by simpa using a
   rw[Zx a];subst f;simp
  ·rw[Zq a,e]
   have:P≠c:=by rintro rfl;simp at a
   simp[this]
def fL[BEq j][LawfulBEq j]{c:List (j×I)}(h:Tidy c)(a P:j):aq (bL c a) P=if P==a then none else aq c P:=by
 induction c with
 |nil=>simp[bL,aq]
 |cons i m k=>
  obtain⟨d,n⟩:=i;have f:=h;simp only[Tidy,QY,List.nodup_cons]at f;unfold bL
  by_cases e:a==d
  ·rw[Zx e]
   have g:a=d:=by simpa using e
   subst g
   by_cases b:P==a
   ·have:P=a:=by simpa using b
    subst this;simp only[beq_self_eq_true,if_true];exact mX.2 f.1
   ·rw[Zq b]
    simp[aq,b]
  ·rw[Zq e]
   unfold aq
   by_cases b:P==d
   ·have g:P=d:=by simpa using b
    subst g;have:(P==a)=false:=by
     cases l:P==a
     ·rfl
     ·exfalso;apply e;have:P=a:=by simpa using l
      simp[this]
    simp[this]
   ·rw[Zq b,Zq b];exact k f.2
def cf[BEq j][LawfulBEq j]{a:List (j×I)}{b:j}{c:I}(P:aq a b=some c):(b,c)∈a:=by
 induction a with
 |nil=>simp[aq]at P
 |cons d i e=>
  obtain⟨f,k⟩:=d;unfold aq at P;split at P
  ·rename_i g
   have h:b=f:=by simpa using g
   subst h
   cases P
   simp
  ·exact QJ _ (e P)
def fr[BEq j][LawfulBEq j]{P:List (j×I)}{b:j}{c:I}{a:j×I}(h:a∈aI P b c):a=(b,c)\/a∈P:=by
 induction P with
 |nil=>simpa[aI]using h
 |cons d f e=>
  obtain⟨g,i⟩:=d;unfold aI at h;split at h
  ·rcases Q2.1 h with h|h
   ·exact .inl h
   ·exact .inr (QJ _ h)
  ·rcases Q2.1 h with h|h
   ·exact .inr (h▸QV ..)
   ·rcases e h with h|h
    ·exact .inl h
    ·exact .inr (QJ _ h)
def gh[BEq j][LawfulBEq j]{P:List (j×I)}{b:j}{a:j×I}(h:a∈bL P b):a∈P:=by
 induction P with
 |nil=>simp[bL]at h
 |cons c e d=>
  obtain⟨f,g⟩:=c;unfold bL at h;split at h
  ·exact QJ _ h
  ·rcases Q2.1 h with h|h
   ·exact h▸QV ..
   ·exact QJ _ (d h)
def qm[BEq j][LawfulBEq j]{P:List (j×I)}(b:Tidy P){k:j}{v:I}(c:(k,v)∈P):aq P k=some v:=by
 induction P with
 |nil=>cases c
 |cons d h e=>
  obtain⟨f,i⟩:=d;simp only[Tidy,QY,List.nodup_cons]at b;unfold aq;rcases Q2.1 c with a|a
  ·cases a;simp
  ·have:k≠f:=by
    intro g;exact b.1 (Xk.2 ⟨(k,v),a,g⟩)
   rw[Zq (by simpa using this)];exact e b.2 a
def xl[BEq j](P:List (j×I))(a:j)(b:I):(aI P a b).length<=P.length+1:=by
 induction P with
 |nil=>simp[aI]
 |cons c d e=>
  unfold aI;split
  ·simp
  ·simp;omega
def HS[BEq j](P:List (j×I))(a:j):(bL P a).length<=P.length:=by
 induction P with
 |nil=>simp[bL]
 |cons b c d=>
  unfold bL;split
  ·simp
  ·simp;omega
def fu{P a b:Type}(c:a->b->Prop):List (P×a)->List (P×b)->Prop
 |[],[]=>True
 |(d,e)::f,(g,h)::i=>d=g/\c e h/\fu c f i
 |_,_=>False
def fu.keys{b c d:Type}{f:c->d->Prop}:∀{P:List (b×c)} {a:List (b×d)},fu f P a->P.map (·.1)=a.map (·.1)
 |[],[],_=>rfl
 |(g,h)::P,(i,j)::a,e=>by simp[e.1,fu.keys e.2.2]
def fu.mono{e f g:Type}{h i:f->g->Prop}:∀{P:List (e×f)} {a:List (e×g)},fu h P a->(∀b c,h b c->i b c)->fu i P a
 |[],[],_,_=>trivial
 |(k,b)::P,(l,c)::a,d,j=>⟨d.1,j _ _ d.2.1,fu.mono d.2.2 j⟩
def fu.aq{a f g:Type}[BEq a]{h:f->g->Prop}(P:a):∀{b:List (a×f)} {c:List (a×g)},fu h b c->
  (aw.aq b P=none/\aw.aq c P=none)\/∃d e,aw.aq b P=some d/\aw.aq c P=some e/\h d e
 |[],[],_=>.inl ⟨rfl,rfl⟩
 |(j,d)::b,(n,e)::c,k=>by
  obtain⟨rfl,l,m⟩:=k;unfold aw.aq
  by_cases i:P==j
  ·simp only[i,if_true];exact .inr ⟨d,e,rfl,rfl,l⟩
  ·simp only[i];exact fu.aq P m
def fu.aI{P a b:Type}[BEq P]{R:a->b->Prop}{c:P}{g:a}{h:b}(d:R g h):∀{e:List (P×a)} {f:List (P×b)},fu R e f->fu R (aw.aI e c g) (aw.aI f c h)
 |[],[],_=>⟨rfl,d,trivial⟩
 |(k,n)::e,(o,p)::f,l=>by
  obtain⟨rfl,m,i⟩:=l;unfold aw.aI
  by_cases j:c==k
  ·simp only[j,if_true];exact⟨rfl,d,i⟩
  ·simp only[j];exact⟨rfl,m,fu.aI d i⟩
def fu.bL{P d e:Type}[BEq P]{f:d->e->Prop}{a:P}:∀{b:List (P×d)} {c:List (P×e)},fu f b c->fu f (aw.bL b a) (aw.bL c a)
 |[],[],_=>trivial
 |(i,l)::b,(m,n)::c,j=>by
  obtain⟨rfl,k,g⟩:=j;unfold aw.bL
  by_cases h:a==i
  ·simp only[h,if_true];exact g
  ·simp only[h];exact⟨rfl,k,fu.bL g⟩
def fu.Xs{f g j:Type}{h:g->j->Prop}{k:f}{l:g}:∀{i c:List (f×g)} {b:List (f×j)},fu h (i++(k,l)::c) b->∃d a e,b=d++(k,a)::e/\h l a/\fu h (i++c) (d++e)
 |[],c,(m,a)::b,P=>⟨[],a,b,by rw[P.1];rfl,P.2.1,P.2.2⟩
 |(q,r)::i,c,(m,n)::b,P=>by
  obtain⟨d,a,e,rfl,o,p⟩:=fu.Xs P.2.2;exact⟨(m,n)::d,a,e,rfl,o,P.1,P.2.1,p⟩
def fu.length{P a b:Type}{e:a->b->Prop}{c:List (P×a)}{d:List (P×b)}(f:fu e c d):c.length=d.length:=by
 have:=Zj List.length f.keys;simpa using this
structure bY {κ:Type} (w:World) (r:Nat) (enc:κ->Value) (l:List (κ×Value)):Prop where
 at':∃es clock,w.heap[r]? =some (.map es clock)/\es.toList.map (λe=>(e.key,e.val))=l.map (λp=>(enc p.1,p.2))/\
  (∀e∈es.toList,e.born<clock)/\(es.toList.map (·.born)).Nodup
 tidy:Tidy l
def bY.keep{S:ZN}{c:j->Value}{e:List (j×Value)}(f:bY b a c e)(g:aj S b k)(h:¬S a):bY k a c e:=by
 obtain⟨i,P,l,d⟩:=f.at';exact⟨⟨i,P,g.get l h,d⟩,f.tidy⟩
def bY.af{P:j->Value}{c:List (j×Value)}(d:bY b a P c)(e:ai b k):bY k a P c:=d.keep e id
def bY.lt{P:j->Value}{e:List (j×Value)}(f:bY b a P e):a<b.heap.size:=by
 obtain⟨h,c,g,d⟩:=f.at';exact aA g
def bY.new{P:j->Value}(c:b.heap[a]? =some (.map #[] 0)):bY b a P ([]:List (j×Value)):=
 ⟨⟨_,_,c,rfl,sM,sM⟩,by simp[Tidy]⟩
def ml{P:Type}[BEq P](c:List (P×Value))(a:P)(b:Nat):Option (Nat×Value):=match c with
 |[]=>none
 |(d,e)::f=>if a==d then some (b,e)else ml f a (b+1)
def BI{b:Type}[BEq b][LawfulBEq b]{P:b->Value}{h:TypeDesc}(i:∀j k,Instr.sameNow h (P j) (P k)=some (j==k))(c:b):
  ∀(d:List MapEntry) (f:List (b×Value)) (g:Nat),d.map (λe=>(e.key,e.val))=f.map (λl=>(P l.1,l.2))->Instr.findNow h (P c) d g=some (ml f c g)
 |[],[],_,_=>rfl
 |[],_::_,_,a=>by simp at a
 |_::_,[],_,a=>by simp at a
 |e::d,(m,q)::f,g,a=>by
  simp only[QY,List.cons.injEq,Prod.mk.injEq]at a;obtain⟨⟨n,o⟩,p⟩:=a;unfold Instr.findNow ml;rw[n,i]
  cases r:c==m
  ·simp only[Bool.false_eq_true,if_false]
   exact BI i c d f (g+1) p
  ·simp[o]
def Gu[BEq j]{P:j->Value}(b:∀c d,Instr.sameNow e8 (P c) (P d)=none)(e:j)(a:MapEntry)(f:List MapEntry)(g:j)(h:a.key=P g)(i:Nat):Instr.findNow e8 (P e) (a::f) i=none:=by
 unfold Instr.findNow;rw[h,b]
def sG{b:Type}[BEq b]{i:Program}{j:TypeId}{P:b->Value}{c:World}(k:∀l m,(Op.equal j (P l) (P m)).run i c= .ok (l==m) c)(d:b):
  ∀(f:List MapEntry) (g:List (b×Value)) (h:Nat),f.map (λe=>(e.key,e.val))=g.map (λn=>(P n.1,n.2))->(Instr.findAsking j (P d) f h).run i c= .ok (ml g d h) c
 |[],[],_,_=>rfl
 |[],_::_,_,a=>by simp at a
 |_::_,[],_,a=>by simp at a
 |e::f,(o,s)::g,h,a=>by
  simp only[QY,List.cons.injEq,Prod.mk.injEq]at a;obtain⟨⟨p,q⟩,r⟩:=a;unfold Instr.findAsking ml;rw[p];simp only[Sem.run_bind,k,Result.andThen_ok]
  cases t:d==o
  ·simpa using sG k d f g (h+1) r
  ·simp[q]
structure iJ {κ:Type} [BEq κ] (P:Program) (kt:TypeId) (enc:κ->Value):Prop where
 find:∀(k:κ) (es:List MapEntry) (l:List (κ×Value)) (w:World),es.map (λe=>(e.key,e.val))=l.map (λp=>(enc p.1,p.2))->(Instr.findKey kt (enc k) es).run P w= .ok (ml l k 0) w
 check:∀k w e,(Instr.checkKey e 10000 kt (enc k)).run P w= .ok () w
 same:∀n a,Instr.sameBits (n+1) (enc a) (enc a)=true
 inj:∀{a b},enc a=enc b->a=b
def iJ.flat[BEq j][LawfulBEq j]{P:j->Value}(m:h.underlying g=some e8)(i:∀a b,Instr.sameNow e8 (P a) (P b)=some (a==b))(n:∀k c d e,(Instr.checkKey e (k+1) g (P c)).run h d= .ok () d)(f:∀k a,Instr.sameBits (k+1) (P a) (P a)=true):iJ h g P:=
 ⟨λc o p d q=>by simp[Instr.findKey,run_underlying m,BI i c o p 0 q],λc d e=>n 9999 c d e,f,λ{a b} e=>by
  have l:=i a b;rw[e,i b b]at l;simpa using l.symm⟩
def iJ.struct[BEq j]{P:j->Value}(o:h.underlying g=some e8)(q:∀a b,Instr.sameNow e8 (P a) (P b)=none)(r:∀a b c,(Op.equal g (P a) (P b)).run h c= .ok (a==b) c)(s:∀f c i,(Instr.checkKey i 10000 g (P f)).run h c= .ok () c)(d:∀t a,Instr.sameBits (t+1) (P a) (P a)=true)(m:∀{a b},P a=P b->a=b):iJ h g P:=by
 refine⟨λf k e c l=>?_,s,d,m⟩
 cases k with
 |nil=>
  cases e with
  |nil=>simp[Instr.findKey,run_underlying o,Instr.findNow,ml]
  |cons n e=>simp at l
 |cons i k=>
  cases e with
  |nil=>simp at l
  |cons n e=>
   have p:=l;simp only[QY,List.cons.injEq,Prod.mk.injEq]at p;simp only[Instr.findKey,Sem.run_bind,run_underlying o,Result.andThen_ok,Gu q f i k n.1 p.1.1];exact sG (λa b=>r a b c) f (i::k) (n::e) 0 l
def w_[BEq j][LawfulBEq j](a:List (j×Value))(b:j):∀P,(ml a b P).map (·.2)=aq a b:=by
 induction a with
 |nil=>intro P;rfl
 |cons c e d=>
  intro P;obtain⟨f,g⟩:=c;unfold ml aq;split
  ·rfl
  ·exact d (P+1)
def jC[BEq j][LawfulBEq j]{P:j->Value}(i:iJ h g P)(a:j)(b:List MapEntry)(c:List (j×Value))(k:b.map (λe=>(e.key,e.val))=c.map (λf=>(P f.1,f.2)))(d:World):
  (Instr.findKey g (P a) b).run h d= .ok (ml c a 0) d:=by
 exact i.find a b c d k
def dG(P:b.heap[a]? =some (.map e7 c)):(getObj a).run h b= .ok (.map e7 c) b:=by
 simp[getObj,Sem.run,P]
def dN[BEq j][LawfulBEq j]{P:j->Value}(d:iJ h g P)(b:Bool)(c:j)(a:World):(Instr.checkKey b 10000 g (P c)).run h a= .ok () a:=by
 exact d.check c a b
def Dg(a:h.info? g=some e9)(b:e9.zero=some u)(P:World):(zeroValue g).run h P= .ok u P:=by
 simp[zeroValue,typeInfo,a,b]
structure mE (P:Program) (t kt vt:TypeId) (z:Value):Prop where
 under:P.underlying t=some (.map kt vt)
 zero:(P.info? vt).bind (·.zero)=some z
def mE.Mw(c:mE h g n A u)(a:World):(zeroValue A).run h a= .ok u a:=by
 have P:=c.zero
 cases b:h.info? A with
 |none=>rw[b]at P;cases P
 |some d=>rw[b]at P;exact Dg b P a
def eH[BEq j][LawfulBEq j]{P:j->Value}(k:mE h g n A u)(l:iJ h n P){c:List (j×Value)}(o:bY b a P c)(d:j)(f:Bool):
  (Instr.lookup g (.map (some a)) (P d) f).run h b= .ok (if f then .tuple #[(aq c d).getD u,.bool (aq c d).isSome]else(aq c d).getD u) b:=by
 obtain⟨p,i,q,r,_⟩:=o.at';have s:=jC l d p.toList c r b;have e:=w_ c d 0;simp only[Instr.lookup,Sem.run_bind,run_underlying k.under,Result.andThen_ok,dG q,dN l,s,Sem.run_pure]
 cases m:ml c d 0 with
 |none=>rw[m]at e;simp only[Option.map_none]at e;rw[<-e];cases f<;>simp[k.Mw]
 |some t=>rw[m]at e;simp only[Option.map_some]at e;rw[<-e];cases f<;>simp
def zq[BEq j][LawfulBEq j]{P:j->Value}(e:mE h g n A u)(f:iJ h n P){d:List (j×Value)}(i:bY b a P d){c:j}(k:m ((aq d c).getD u) b):aG h (Instr.lookup g (.map (some a)) (P c) false) b m t:=aG.mk (eH e f i c false) k
def mG[BEq j][LawfulBEq j]{enc:j->Value}(c:mE h g n A u)(d:iJ h n enc){P:List (j×Value)}(e:bY b a enc P){k:j}(f:m (.tuple #[(aq P k).getD u,.bool (aq P k).isSome]) b):aG h (Instr.lookup g (.map (some a)) (enc k) true) b m t:=aG.mk (eH c d e k true) f
def aj.setObj(P:World)(a:Nat)(b:Obj):aj (·=a) P {P with heap:=P.heap.setIfInBounds a b}:=
 ⟨rfl,rfl,rfl,sM,λd e c=>by simp[Array.getElem?_setIfInBounds,Ne.symm c]⟩
def np[BEq j][LawfulBEq j]{b:List (j×Value)}{c:j}:∀{P a:Nat} {f:Value},ml b c P=some (a,f)->P<=a/\a-P<b.length/\b[a-P]? =some (c,f)/\∀h,aI b c h=b.set (a-P) (c,h)/\bL b c=b.eraseIdx (a-P):=by
 induction b with
 |nil=>intro P a f d;simp[ml]at d
 |cons m v n=>
  intro P a f d;obtain⟨o,h⟩:=m;unfold ml at d;split at d
  ·rename_i g
   cases d
   have p:c=o:=by simpa using g
   subst p;simp[aI,bL]
  ·rename_i g
   obtain⟨w,i,k,l⟩:=n d;obtain⟨e,rfl⟩:∃e,a=P+1+e:=⟨a-(P+1),oM⟩
   have q:P+1+e-P=e+1:=oM
   have r:P+1+e-(P+1)=e:=oM
   rw[r]at i k l;rw[q];refine⟨oM,by simpa using i,by simpa using k,λs=>?_⟩;obtain⟨t,u⟩:=l s;unfold aI bL;rw[Zq g,Zq g];simp[t,u]
def rp[BEq j][LawfulBEq j]{P:List (j×Value)}{a:j}:∀{c:Nat},ml P a c=none->(∀d,aI P a d=P++[(a,d)])/\bL P a=P:=by
 induction P with
 |nil=>intro c _;simp[aI,bL]
 |cons f k g=>
  intro c b;obtain⟨l,d⟩:=f;unfold ml at b;split at b
  ·cases b
  ·rename_i e
   obtain⟨h,i⟩:=g b;refine⟨λm=>?_,?_⟩
   ·unfold aI;rw[Zq e,h];rfl
   ·unfold bL;rw[Zq e,i]
def map_eraseIdx{c d:Type}(b:c->d):∀(P:List c) (a:Nat),(P.eraseIdx a).map b=(P.map b).eraseIdx a
 |[],_=>by simp
 |x::P,0=>rfl
 |x::P,a+1=>by simp[map_eraseIdx b P a]
def cW(P:World)(a:Nat)(b:Obj)(c:a<P.heap.size):({P with heap:=P.heap.setIfInBounds a b}:World).heap[a]? =some b:=by simp[c]
def eI(d:b.heap[a]? =some (.map e7 c))(P:Obj):(setObj a P).run h b= .ok () {b with heap:=b.heap.setIfInBounds a P}:=by
 simp[setObj,Sem.run,d]
def iX[BEq j][LawfulBEq j]{enc:j->Value}(F:mE h g n A u)(s:iJ h n enc){p:List (j×Value)}(y:bY b a enc p){k:j}(H:∀t,bY t a enc (aI p k c0)->aj (·=a) b t->t.heap.size=b.heap.size->x t):kL h (Instr.mapUpdate g (.map (some a)) (enc k) c0) b x m:=by
 obtain⟨d,P,q,r,z,I⟩:=y.at';have v:=jC s k d.toList p r b;have N:d.toList.length=p.length:=by have:=Zj List.length r;simpa using this
 have J:=aA q
 cases w:ml p k 0 with
 |none=>
  rw[w]at v;refine kL.mk (w':={b with heap:=b.heap.setIfInBounds a (.map (d.push {key:=enc k,val:=c0,born:=P}) (P+1))}) ?_ (H _ ⟨⟨_,_,cW b a _ J,?_,?_,?_⟩,y.tidy.aI k c0⟩ (aj.setObj b a _) sM)
  ·simp[Instr.mapUpdate,run_underlying F.under,dG q,dN s,v,eI q]
  ·rw[(rp w).1 c0];simp[r]
  ·intro f e
   simp only[Array.toList_push,Q6,List.mem_singleton]at e;rcases e with e|rfl
   ·have:=z f e;omega
   ·show P<P+1;omega
  ·simp only[Array.toList_push,Q3,QY,List.map_nil]
   rw[List.nodup_append];refine⟨I,sM,?_⟩;intro V O W B X;simp only[List.mem_singleton]at B;obtain⟨f,e,rfl⟩:=Xk.1 O;have:=z f e;omega
 |some Q=>
  obtain⟨i,Y⟩:=Q;rw[w]at v;obtain⟨_,K,L,M⟩:=np w;rw[Nat.sub_zero]at K L M;have C:i<d.size:=by
                 have:d.size=p.length:=by simpa using N
                 omega
  have R:d[i].key=enc k:=by
   have:=Zj (·[i]?) r;simp only[Q9,L,Option.map_some]at this;simp[C]at this;exact this.1
  refine kL.mk (w':={b with heap:=b.heap.setIfInBounds a (.map (d.modify i λf=>{f with key:=enc k,val:=c0}) P)}) ?_ (H _ ⟨⟨_,_,cW b a _ J,?_,?_,?_⟩,y.tidy.aI k c0⟩ (aj.setObj b a _) sM)
  ·have S:(Instr.keyThatStays (enc k) (enc k)).run h b= .ok (enc k) b:=by simp[Instr.keyThatStays,s.same]
   simp[Instr.mapUpdate,run_underlying F.under,dG q,dN s,v,C,R,S,eI q]
  ·rw[(M c0).1]
   apply X3;intro l;have c:=Zj (·[l]?) r;simp only[Q9]at c;simp only[Array.toList_modify,Q9,Xj,List.getElem?_modify]
   by_cases o:i=l
   ·subst o
    simp[C,K]
   ·simp only[o,if_false,Option.map_map]at c⊢
    simpa using c
  ·intro f e
   rw[Array.toList_modify]at e;obtain⟨l,c⟩:=List.getElem?_of_mem e;rw[List.getElem?_modify]at c
   cases E:d.toList[l]? with
   |none=>rw[E]at c;simp at c
   |some T=>
    rw[E]at c;have U:=QZ E;have:=z T U
    by_cases o:i=l
    ·simp[o]at c;subst c;exact this
    ·simp[o]at c;subst c;exact this
  ·have:(d.modify i λf=>{f with key:=enc k,val:=c0}).toList.map (·.born)=d.toList.map (·.born):=by
    apply X3;intro l;simp only[Array.toList_modify,Q9,List.getElem?_modify,Option.map_map]
    by_cases o:i=l<;>simp[o]<;>rfl
   rw[this];exact I
def Ks[BEq j][LawfulBEq j]{d:j->Value}(w:mE h g n A u)(r:iJ h n d){f:List (j×Value)}(s:bY b a d f){i:j}(x:∀l,bY l a d (bL f i)->aj (·=a) b l->l.heap.size=b.heap.size->m (.tuple #[]) l):aG h (Builtin.delete_ #[g,b8] f4 #[.map (some a),d i]) b m t:=by
 obtain⟨P,c,k,o,y,z⟩:=s.at';have p:=jC r i P.toList f o b;have F:P.toList.length=f.length:=by have:=Zj List.length o;simpa using this
 have B:=aA k
 cases q:ml f i 0 with
 |none=>
  rw[q]at p;refine aG.mk (w':={b with heap:=b.heap.setIfInBounds a (.map P c)}) ?_ (x _ ⟨⟨_,_,cW b a _ B,?_,y,z⟩,s.tidy.bL i⟩ (aj.setObj b a _) sM)
  ·simp[Builtin.delete_,run_underlying w.under,dG k,dN r,p,eI k]
  ·rw[(rp q).2];exact o
 |some H=>
  obtain⟨e,I⟩:=H;rw[q]at p;obtain⟨_,J,K,C⟩:=np q;rw[Nat.sub_zero]at J K C;have v:e<P.size:=by
                 have:P.size=f.length:=by simpa using F
                 omega
  refine aG.mk (w':={b with heap:=b.heap.setIfInBounds a (.map (P.eraseIdxIfInBounds e) c)}) ?_ (x _ ⟨⟨_,_,cW b a _ B,?_,?_,?_⟩,s.tidy.bL i⟩ (aj.setObj b a _) sM)
  ·simp[Builtin.delete_,run_underlying w.under,dG k,dN r,p,eI k]
  ·rw[(C I).2]
   have:(P.eraseIdxIfInBounds e).toList=P.toList.eraseIdx e:=by simp[Array.eraseIdxIfInBounds,v]
   rw[this,map_eraseIdx,o,map_eraseIdx]
  ·intro L E
   have:(P.eraseIdxIfInBounds e).toList=P.toList.eraseIdx e:=by simp[Array.eraseIdxIfInBounds,v]
   rw[this]at E;exact y L (List.mem_of_mem_eraseIdx E)
  ·have:(P.eraseIdxIfInBounds e).toList=P.toList.eraseIdx e:=by simp[Array.eraseIdxIfInBounds,v]
   rw[this,map_eraseIdx];exact z.sublist (List.eraseIdx_sublist _ _)
def IE[BEq j][LawfulBEq j]{c:j->Value}(f:mE h g n A u){i:List (j×Value)}(k:bY b a c i)(l:∀d,bY d a c ([]:List (j×Value))->aj (·=a) b d->d.heap.size=b.heap.size->m (.tuple #[]) d):aG h (Builtin.clear_ #[g] b8 #[.map (some a)]) b m t:=by
 obtain⟨p,P,e,q,r,s⟩:=k.at';have o:=aA e;refine aG.mk (w':={b with heap:=b.heap.setIfInBounds a (.map #[] P)}) ?_ (l _ ⟨⟨_,_,cW b a _ o,rfl,sM,sM⟩,by simp[Tidy]⟩ (aj.setObj b a _) sM);simp[Builtin.clear_,run_underlying f.under,dG e,eI e]
def Va(P:h.underlying g=some (.int .i64)):iJ h g (Value.int .i64):=
 iJ.flat P (λa c=>by simp[Instr.sameNow]) (λb d e f=>by simp[Instr.checkKey,run_underlying P]) λb a=>by simp[Instr.sameBits]

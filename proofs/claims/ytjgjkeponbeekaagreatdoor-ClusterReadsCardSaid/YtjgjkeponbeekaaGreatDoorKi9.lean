import Derived.Test.YtjgjkeponbeekaaGreatDoorYiCode
import Derived.Maps.AppendAt
import Derived.Below
import Derived.Laws.Strings
import Derived.Laws.OwnMore
import Derived.Laws.MakeOwn
import Derived.Lib.BitFns
import Derived.Lib.ItoaNum
import Derived.Shelf.SlIter.Nil
import Derived.Shelf.SlIterI.Nil
import Derived.Shelf.SortM.Plain
import Derived.Shelf.SortM.SortNone
import Derived.Shelf.Strconv.Itoa3
import Derived.Shelf.Small.Strs
import Derived.Ground.GgzProg
import Derived.Ground.SlgmProg
import Derived.Ground.NamesProg
import Derived.Test.YtjgjkeponbeekaaGreatDoorProg
import Derived.Laws.CopyRow
import Derived.Laws.IdiomCopy
import Derived.Maps.RangeRun
import Derived.Laws.RangeAny
set_option maxHeartbeats 4000000
set_option linter.all false
set_option maxRecDepth 100000
open Go.IntKind renaming wrap→XG
namespace Go.Proofs.YtjgjkeponbeekaaGreatDoor
open Go.au
def Ap:jN:=⟨[(2,[(5,XH 0),(6,XH 0)])],[],[],[],[]⟩
variable{W l:Array Value}{A:XT}{z:FuncId}{e:Int}{a c:Nat}{d:ZH}{b:World}
def Aq(k:(∃d:Nat->Int->Int->XU,(∃a,d a 0 e b)/\∀(a:Nat) (n:Int) (P:Int) (o:Nat->Value) (f:World),d a n P f->an (decide (n<P)) ((∃g h i,(.func (.func z) l W:Value)= .func (.func g) h i/\enters XP g=true/\PC_ g (h++ #[.ii (XG .i64 (js .u64 (XG .u64 (XG .i64 (n+P))) 1))]++i) f (kB λm j=>an (!m) ((∃c,c<a/\d c (XG .i64 ((XG .i64 (js .u64 (XG .u64 (XG .i64 (n+P))) 1))+1)) P j)) ((∃c,c<a/\d c n (XG .i64 (js .u64 (XG .u64 (XG .i64 (n+P))) 1)) j))) (pE A))) (rt A ((.ii n)) f))):ZG 150 #[.ii e,.func (.func z) l W] b A:=DC Ap Tryz.func150 rfl k
def Cj:jN:=⟨[],[],[],[],[]⟩
def Ck(n:((0:Int)<=(if(a:Int)<(if 0>e then 0 else e)then(a:Int)else(if 0>e then 0 else e))/\((if(a:Int)<(if 0>e then 0 else e)then(a:Int)else(if 0>e then 0 else e)):Int)<=(if(a:Int)<(if 0>e then 0 else e)then(a:Int)else(if 0>e then 0 else e))/\((if(a:Int)<(if 0>e then 0 else e)then(a:Int)else(if 0>e then 0 else e)):Int)<=(c:Int)/\PC_ 215 #[.slice d (Int.toNat (if(a:Int)<(if 0>e then 0 else e)then(a:Int)else(if 0>e then 0 else e))) (Int.toNat (if(a:Int)<(if 0>e then 0 else e)then(a:Int)else(if 0>e then 0 else e)))] b (kS_ λP f g h=>rt A ((.tuple #[.slice P f g,.bool (decide (((if(a:Int)<(if 0>e then 0 else e)then(a:Int)else(if 0>e then 0 else e)):Int)<(a:Int)))])) h) (pE A))):ZG 152 #[.slice d a c,.ii e] b A:=DC Cj Tryz.func152 rfl n
def iN:jN:=⟨[(3,[(7,XH 0),(8,XH 0)])],[],[],[],[]⟩
def iH(l:(∃i:Nat->Int->Int->XU,(∃g,i g 0 (a:Int) b)/\∀(g:Nat) (n:Int) (P:Int) (B:Nat->Value) (f:World),i g n P f->an (decide (n<P)) ((dr d λm o=>(0:Int)<=(XG .i64 (js .u64 (XG .u64 (XG .i64 (n+P))) 1))/\(XG .i64 (js .u64 (XG .u64 (XG .i64 (n+P))) 1))<(a:Int)/\(rI f (ad m (o+Int.toNat (XG .i64 (js .u64 (XG .u64 (XG .i64 (n+P))) 1)))) λp=>PC_ 337 #[.ii p,.ii e] f (kB λq j=>an q ((∃h,h<g/\i h (XG .i64 ((XG .i64 (js .u64 (XG .u64 (XG .i64 (n+P))) 1))+1)) P j)) ((∃h,h<g/\i h n (XG .i64 (js .u64 (XG .u64 (XG .i64 (n+P))) 1)) j))) (pE A)))) (an (decide (n<(a:Int))) ((ix_ d n a λr s=>(rI f (ad r (s+Int.toNat n)) λt=>an (t==e) (rt A ((.tuple #[.ii n,.bool true])) f) ((ix_ d n a λu v=>(rI f (ad u (v+Int.toNat n)) λw=>PC_ 341 #[.ii w] f (kB λx k=>an x (PC_ 341 #[.ii e] k (kB λy z=>rt A ((.tuple #[.ii n,.bool y])) z) (pE A)) (rt A ((.tuple #[.ii n,.bool false])) k)) (pE A))))))) (rt A ((.tuple #[.ii n,.bool false])) f)))):ZG 311 #[.slice d a c,.ii e] b A:=DC iN Tryz.func311 rfl l
def lU:jN:=⟨[],[(3,[])],[],[],[]⟩
def lV(l:(∃f:XU,(an (decide ((e:Int)<0)) (aG XP (Instr.panic (.iface 9 (.string (⟨#[99,97,110,110,111,116,32,98,101,32,110,101,103,97,116,105,118,101]⟩:ByteArray)))) b (λu m=>
   f m) (λn b=>A (.panicked [{v:=n,recovered:=false}]) b)) (f b))/\∀(v:Nat->Value) (i:World),f i->aG XP (Builtin.cap_ #[237] 3 #[.slice d a c]) i (λo j=>
   ∃(g:Int),o= XH g/\an (decide (((XG .i64 (e-(XG .i64 (g-((a:Nat):Int))))):Int)>0)) (aG XP (Builtin.cap_ #[237] 3 #[.slice d a c]) j (λp q=>
   ∃(P:Int),p= XH P/\((0:Int)<=P/\(P:Int)<=((c:Nat):Int)/\aG XP (Builtin.append_ #[237,3] 237 #[.slice d (Int.toNat P) c,XH (XG .i64 (e-(XG .i64 (g-((a:Nat):Int)))))]) q (λr s=>
   ∃(k:ZH) (t:Nat) (h:Nat),r= .slice k t h/\((0:Int)<=((a:Nat):Int)/\(((a:Nat):Int):Int)<=((h:Nat):Int)/\
   A (.returned (.slice k (Int.toNat ((a:Nat):Int)) h)) s)) (λn b=>A (.panicked [{v:=n,recovered:=false}]) b))) (λn b=>A (.panicked [{v:=n,recovered:=false}]) b)) (A (.returned (.slice d a c)) j)) (λn b=>
   A (.panicked [{v:=n,recovered:=false}]) b))):
  ZG 328 #[.slice d a c,XH e] b A:=
 qT lU mixed Tryz.func328 rfl (Zv kR) kR (Eq.mp kR l)
def ki:jN:=⟨[(3,[(3,XH 0),(11,XH 0)]),(11,[(6,.slice none 0 0),(27,XH 0)])],[],[],[],[]⟩
def kj(J:(∃l:Nat->Int->Int->XU,(∃h,l h 0 0 b)/\∀(h:Nat) (i:Int) (f:Int) (T:Nat->Value) (j:World),l h i f j->an (decide ((f:Int)<((a:Nat):Int))) ((∃s t,d=some ⟨s,t,none⟩/\
   (0:Int)<=f/\f<((a:Nat):Int)/\(∃(K:ZH) (m:Nat) (L:Nat),j.cell? ⟨s,t+Int.toNat f,none⟩=some (.slice K m L)/\
   an (decide (((XG .i64 (i+((m:Nat):Int))):Int)<0)) (aG XP (Instr.panic (.iface 9 (.string (⟨#[108,101,110,32,111,117,116,32,111,102,32,114,97,110,103,101]⟩:ByteArray)))) j (λU M=>
   (∃k,k<h/\l k (XG .i64 (i+((m:Nat):Int))) (XG .i64 (f+1)) M)) (λq b=>A (.panicked [{v:=q,recovered:=false}]) b)) ((∃k,k<h/\
   l k (XG .i64 (i+((m:Nat):Int))) (XG .i64 (f+1)) j))))) (PC XP 328 #[.slice none 0 0,XH i] j (λN O=>
   ∃(u:ZH) (v:Nat) (w:Nat),N= .slice u v w/\(∃r:Nat->ZH->Nat->Nat->Int->XU,(∃o,r o u v w 0 O)/\
   ∀(o:Nat) (n:ZH) (P:Nat) (e:Nat) (g:Int) (V:Nat->Value) (p:World),r o n P e g p->an (decide ((g:Int)<((a:Nat):Int))) ((∃x y,d=some ⟨x,y,none⟩/\
   (0:Int)<=g/\g<((a:Nat):Int)/\(∃(z:ZH) (B:Nat) (C:Nat),p.cell? ⟨x,y+Int.toNat g,none⟩=some (.slice z B C)/\
   aG XP (Builtin.append_ #[237,237] 237 #[.slice n P e,.slice z B C]) p (λQ R=>∃(E:ZH) (F:Nat) (H:Nat),Q= .slice E F H/\
   (∃I,I<o/\r I E F H (XG .i64 (g+1)) R)) (λq b=>A (.panicked [{v:=q,recovered:=false}]) b)))) (A (.returned (.slice n P e)) p))) (λS b=>
   A (.panicked S) b)))):
  ZG 294 #[.slice d a c] b A:=
 qT ki mixed Tryz.func294 rfl (Zv kR) kR (Eq.mp kR J)
end Go.Proofs.YtjgjkeponbeekaaGreatDoor
namespace Go.au
open Go
abbrev ai(n P:World):Prop:=ak (λ_=>False) n P
variable{d0:Addr}{e7:Array MapEntry}{l:Array Value}{z:FuncId}{e:Int}{t:List Int}{a4:List PanicEntry->XU}{E a c i p:Nat}{Y f g5:XN}{C:Nat×Nat}{c8:Obj}{T X:Operand}{d:ZH}{c9:Option Nat}{h:Program}{B g q:TypeId}{m s:XR}{a5 b k:World}{y:XU}
def ak.refl(n:World):ak f n n:=⟨rfl,rfl,rfl,Q4 _,λ_ _ _=>rfl⟩
def ak.trans(P:ak Y b k)(n:ak g5 k a5)(g:∀n,n<b.heap.size->Y n->f n)(h:∀n,n<b.heap.size->g5 n->f n):ak f b a5:=
 ⟨n.os.trans P.os,n.tape.trans P.tape,n.output.trans P.output,Xx P.size n.size,λa c e=>
  (n.block a (Qk c P.size) (λd=>e (h a c d))).trans (P.block a c (λd=>e (g a c d)))⟩
def ak.mono(P:ak f b k)(c:∀n,n<b.heap.size->f n->Y n):ak Y b k:=
 ⟨P.os,P.tape,P.output,P.size,λn a d=>P.block n a λe=>d (c n a e)⟩
def ak.then(n:ak f b k)(P:ak f k a5):ak f b a5:=n.trans P (λ_ _ n=>n) (λ_ _ n=>n)
def ak.new(P:ak f b k)(n:ak Y k a5)(a:∀n,Y n->f n\/b.heap.size<=n):ak f b a5:=
 P.trans n (λ_ _ P=>P) (λc e d=>(a c d).resolve_right oM)
def ak.ah(n:ak f b k)(P:ai k a5):ak f b a5:=n.trans P (λ_ _ n=>n) (λ_ _ n=>n.elim)
def ai.af{S:XN}(n:ai b k):ak S b k:=n.mono λ_ _ n=>n.elim
def ak.alloc{b:XN}(n:World)(P:Obj):ak b n (n.alloc P):=
 ⟨rfl,rfl,rfl,sM,λc a _=>by first|exact heap_alloc_old n P c a|exact heap_alloc_old n P a⟩
def ak.drewN{S:XN}(n:World)(P:Nat):ak S n (n.drewN P):=⟨rfl,rfl,rfl,Q4 _,λ_ _ _=>rfl⟩
def bF.af{S:XN}(n:bF b k):ak S b k:=by obtain⟨P,rfl⟩:=n;exact ak.drewN b P
def bF.heap(n:bF b k):k.heap=b.heap:=by obtain⟨P,rfl⟩:=n;rfl
def ak.setCell(n:World)(P:Addr)(a:Value)(b:f P.block):ak f n (n.setCell P a):=
 ⟨rfl,rfl,rfl,by simp[World.setCell],λd _ c=>by
  simp only[World.setCell,Array.getElem?_modify];rw[Zq (by rintro rfl;exact c b)]⟩
def ak.below(n:ai b k):RowKit.Below b.heap.size b k:=⟨n.os,n.tape,n.output,n.size,λP a=>n.block P a (λn=>n)⟩
def ak.Gu(n:RowKit.Below b.heap.size b k):ai b k:=⟨n.os,n.tape,n.output,n.size,λP a _=>n.block P a⟩
def ak.of_grownBy(n:b.grownBy k c9):ak (λP=>some P=c9) b k:=⟨n.os,n.tape,n.output,n.size,λP a c=>n.block P a c⟩
def ak.cell(n:ak f b k){a:Addr}(P:a.block<b.heap.size)(j:¬f a.block):k.cell? a=b.cell? a:=
 World.cell?_of_block (w:=b) (n.block a.block P j)
def ak.get(P:ak f b k)(n:b.heap[a]? =some c8)(c:¬f a):k.heap[a]? =some c8:=by
 rw[P.block a (Q5.1 n).1 c];exact n
def ax(n:b.heap[a]? =some c8):a<b.heap.size:=(Q5.1 n).1
def ae{cs:Array Value}(n:b.heap[a]? =some (Obj.cells cs g C)){off:Nat}{v:Value}(P:cs[off]? =some v):
  b.cell? ⟨a,off,none⟩=some v:=by simp[World.cell?,n,P]
def PA.mk(P:∀n,ai b n->n.heap.size=b.heap.size+1->n.heap[b.heap.size]? =some c8->y n):PA b c8 y:=
 P (b.alloc c8) (ak.alloc b c8) sM (heap_alloc_new b c8)
def PS.mk{v:Value}{cs:Array Value}(P:b.heap[a]? =some (.cells cs g (0,0)))(d:c<cs.size)(e:∀n,ak (·=a) b n->n.heap.size=b.heap.size->n.heap[a]? =some (.cells (cs.setIfInBounds c v) g (0,0))->y n):PS b ⟨a,c,none⟩ v y:=by
 refine⟨⟨cs[c],ae P (by simp[d])⟩,by simp[World.frozen?,P],e _ (ak.setCell b _ v rfl) (by simp[World.setCell]) ?_⟩;simp[World.setCell,Array.getElem?_modify,P]
def Ok(P:XR):XT:=λa b=>∃n,a= .returned n/\P n b
def Ok.mk{v:Value}(n:m v b):Ok m (.returned v) b:=⟨v,rfl,n⟩
def PC.ok{φ a:XR}(c:Calls h z l b (Ok φ))(d:∀n P,φ n P->a n P):PC h z l b a a4:=
 c.mono λg P ⟨n,e,f⟩=>by subst e;exact d n P f
def Calls.ok{φ a:XR}(c:Calls h z l b (Ok φ))(d:∀n P,φ n P->a n P):Calls h z l b (Ok a):=
 c.mono λg P ⟨n,e,f⟩=>⟨n,e,d n P f⟩
def aH(n:Int):Prop:= -9223372036854775808<=n/\n<=9223372036854775807
theorem bc{p:Prop}(h:p:=by unfold aH;omega):p:=h
def wrap_i64{x:Int}(n:aH x):XG .i64 x=x:=by
 unfold aH at n;unfold XG;simp[IntKind.signed,IntKind.bits];omega
def aK:Nat:=140737488355328
theorem ba{p:Prop}(h:p:=by unfold aK;omega):p:=h
structure Ints (w:World) (a:ZH) (n:Nat) (xs:List Int):Prop where
 len:n=xs.length
 dP:n*8<=aK
 Te:∀x∈xs,aH x
 cell:∀(i:Nat) x,xs[i]? =some x->∃b off,a=some ⟨b,off,none⟩/\b<w.heap.size/\w.cell? ⟨b,off+i,none⟩=some (XH x)
def oD(P:XN)(a:ZH):Prop:=∀n,a=some n->¬P n.block
def oD.none:oD f Option.none:=λ_ n=>by cases n
def Ints.af{S:XN}{a:ZH}{d:Nat}(P:Ints b a d t)(e:ak S b k)(h:oD S a):Ints k a d t:=
 ⟨P.len,P.dP,P.Te,λf i j=>by
  obtain⟨c,n,rfl,g,l⟩:=P.cell f i j;exact⟨c,n,rfl,Qk g e.size,(e.cell (a:=⟨c,n+f,none⟩) g (h ⟨c,n,none⟩ rfl)).trans l⟩⟩
def Ints.ah(n:Ints b d a t)(P:ai b k):Ints k d a t:=n.af P λ_ _ n=>n
def Ints.nil(n:World):Ints n none 0 []:=⟨rfl,by simp[aK],sM,λa b P=>by simp at P⟩
def Ints.at(c:Ints b d a t){i:Int}(j:0<=i)(k:i<(a:Int)):
  ∃P n x,d=some ⟨P,n,none⟩/\P<b.heap.size/\t[i.toNat]? =some x/\aH x/\b.cell? ⟨P,n+i.toNat,none⟩=some (XH x):=by
 have l:=c.len;have e:i.toNat<t.length:=oM
 obtain⟨P,n,f,g,h⟩:=c.cell i.toNat t[i.toNat] (by simp[e]);exact⟨P,n,_,f,g,by simp[e],c.Te _ (XY e),h⟩
def aF:ZH->Option Nat
 |none=>none
 |some n=>some n.block
def Ints.Gv(n:Ints b d a t)(c:ak f b k)(e:t≠[]->oD f d):Ints k d a t:=by
 by_cases P:t=[]
 ·subst P;exact⟨n.len,n.dP,n.Te,λh i g=>by simp at g⟩
 ·exact n.af c (e P)
def cR:oD f d↔∀n,aF d=some n->¬f n:=by
 cases d with
 |none=>simp[oD,aF]
 |some d=>simp[oD,aF]
structure Own (w:World) (e:TypeId) (k:Nat) (a:ZH) (n c:Nat) (cs:List Value):Prop where
 row:w.ownsRow 0 e k (.slice a n c) n cs
def Own.nil(n:World)(e:TypeId)(P:Nat):Own n e P none 0 0 []:=⟨World.ownsRow_nil n 0 e P⟩
def Own.length{cs:List Value}(n:Own b g a d c i cs):cs.length=c*a:=n.row.1
def Own.cases{cs:List Value}(f:Own b g a d c i cs):
  (d=none/\c=0/\i=0/\cs=[])\/
  ∃e n,d=XM e/\b.heap[e]? =some (.cells n g (0,0))/\c<=i/\n.size=i*a/\n.toList.take (c*a)=cs:=by
 rcases f.row.2 with⟨P,o⟩|⟨e,h,n,P,_,j,k,_,l,m⟩
 ·simp only[XX]at P
  obtain⟨rfl,rfl,rfl⟩:=P;exact .inl ⟨rfl,rfl,rfl,QW (by simpa using f.row.1)⟩
 ·simp only[XX]at P
  obtain⟨rfl,-,rfl⟩:=P;exact .inr ⟨e,n,rfl,j,k,l,m⟩
def Own.af{S:XN}{cs:List Value}(h:Own b g a d c i cs)(j:ak S b k)(l:oD S d):Own k g a d c i cs:=by
 refine⟨⟨h.row.1,?_⟩⟩;rcases h.row.2 with m|⟨o,P,e,f,p,q,n⟩
 ·exact .inl m
 ·refine .inr ⟨o,P,e,f,p,j.get q ?_,n⟩
  simp only[XX]at f;exact l _ f.1
def Own.ah{cs:List Value}(n:Own b g a d c i cs)(P:ai b k):Own k g a d c i cs:=n.af P λ_ _ n=>n
def Own.lt{cs:List Value}(P:Own b g a d c i cs)(n:aF d=some p):p<b.heap.size:=by
 rcases P.cases with⟨rfl,_⟩|⟨h,e,rfl,f,_⟩
 ·cases n
 ·simp only[aF,Q1]at n
  subst n;exact ax f
def Own.cell{b:World}{d:TypeId}{e:Nat}{a:ZH}{f g:Nat}{cs:List Value}(h:Own b d e a f g cs){j:Nat}{u:Value}(n:cs[j]? =some u):
  ∃P,a=XM P/\P<b.heap.size/\b.cell? ⟨P,j,none⟩=some u:=by
 rcases h.cases with⟨_,_,_,rfl⟩|⟨P,i,rfl,c,_,_,k⟩
 ·simp at n
 ·refine⟨P,rfl,ax c,ae c ?_⟩
  rw[<-k,Xw]at n;split at n
  ·simpa using n
  ·cases n
def Own.zq{cur:Array Value}(P:b.heap[c]? =some (.cells cur g (0,0)))(n:cur.size=i*a)(d:i<=maxLen):
  Own b g a (XM c) i i cur.toList:=
 ⟨⟨by simpa using n,.inr ⟨c,i,cur,rfl,Qj _,P,Q4 _,d,n,by rw[Qz];simp[n]⟩⟩⟩
structure jF (P:Program) (t e:TypeId) (k bytes:Nat):Prop where
 under:P.underlying t=some (.slice e)
 row:(P.info? e).map (λi=>(i.zero.map λz=>z.cells.size,i.size,i.bytes))=some (some k,k,bytes)
 pos:0<k
def jF.info{b:Program}{g c:TypeId}{d bytes:Nat}(h:jF b g c d bytes):∃P a,b.info? c=some P/\P.zero=some a/\P.size=d/\P.bytes=bytes/\a.cells.size=d:=by
 have n:=h.row
 cases f:b.info? c with
 |none=>rw[f]at n;cases n
 |some P=>
  rw[f]at n;simp only[Option.map_some,Q1,Prod.mk.injEq]at n
  cases e:P.zero with
  |none=>rw[e]at n;cases n.1
  |some a=>
   rw[e]at n;exact⟨P,a,rfl,e,n.2.1,n.2.2,by simpa using n.1⟩
def K_{P:Program}{f bytes:Nat}(l:jF P g q f bytes){o news:List Value}(x:Own b q f d a c o)(y:∀j k,news[j]? =some k->b.cell? (d0.add j)=some k)(z:news.length=i*f)(A:∀k∈news,k.oneCell'=true)(C:(a+i)*bytes<=aK)(E:a+i<=maxLen)(F:∀n e h,Own h q f n (a+i) e (o++news)->ak (λj=>some j=aF d) b h->(aF n=aF d\/aF n=some b.heap.size)->m (.slice n (a+i) e) h):
  aG P (Builtin.append_ #[g,g] B #[.slice d a c,.slice (some d0) i p]) b m s:=by
 obtain⟨H,I,J,K,L,M,N⟩:=jF.info l;obtain⟨O,h,Q,r,t,U,u⟩:=run_append_own_at (P:=P) b 0 g B q H I f bytes l.under J K L M N l.pos (.slice d a c) a o x.row
  d0 i p news z y A E C (Qj _)
 have R:∀(d:ZH) a c,(Value.slice d a c).ownBlock=aF d:=λd a c=>by cases d<;>rfl
 have S:∃n e,O= .slice n (a+i) e:=by
  rcases r.2 with⟨rfl,T⟩|⟨V,v,w,rfl,_⟩
  ·exact⟨none,0,by rw[T]⟩
  ·exact⟨_,_,rfl⟩
 obtain⟨n,e,rfl⟩:=S;simp only[R]at t u;exact aG.mk Q (F n e h ⟨r⟩ (ak.of_grownBy t) u)
def yN{n bytes:Nat}(t:jF h g q n bytes){j news:List Value}(u:Own b q n d a c j)(v:b.heap[i]? =some (.cells l q C))(w:l.toList.take (p*n)=news)(x:news.length=p*n)(y:∀k∈news,k.oneCell'=true)(z:(a+p)*bytes<=aK)(A:a+p<=maxLen)(F:∀P o f,Own f q n P (a+p) o (j++news)->ak (λr=>some r=aF d) b f->(aF P=aF d\/aF P=some b.heap.size)->m (.slice P (a+p) o) f):
  aG h (Builtin.append_ #[g,g] B #[.slice d a c,.slice (XM i) p E]) b m s:=by
 exact K_ t u (λr k e=>by
   rw[Addr.add_lit,Xz];refine ae v ?_;rw[<-w,Xw]at e;split at e
   ·simpa using e
   ·cases e) x y z A F
def ints(n:List Int):List Value:=n.map (Value.int .i64)
def iW(n:List Int):(ints n).length=n.length:=by simp[ints]
def Own.ints(P:Own b g 1 d a c (ints t))(f:a*8<=aK)(h:∀n∈t,aH n):Ints b d a t:=by
 have e:=P.length;rw[iW,Nat.mul_one]at e;refine⟨e.symm,f,h,λi n j=>?_⟩;obtain⟨k,l,m,o⟩:=P.cell (j:=i) (u:=XH n) (by simp[au.ints,j]);exact⟨k,0,l,m,by rw[Xz];exact o⟩
def La(k:jF h g q 1 8)(l:Own b q 1 d a c (ints t))(o:b.heap[i]? =some (.cells #[XH e] q (0,0)))(j:(a+1)*8<=aK)(p:∀n f P,Own P q 1 n (a+1) f (ints (t++[e]))->ak (λr=>some r=aF d) b P->(aF n=aF d\/aF n=some b.heap.size)->m (.slice n (a+1) f) P):
  aG h (Builtin.append_ #[g,g] B #[.slice d a c,.slice (XM i) 1 1]) b m s:=
 yN k (news:=[XH e]) l o sM sM (by simp[Value.oneCell']) j (by unfold aK at j;unfold maxLen;omega)
  λn f P u v w=>p n f P (by simpa[ints]using u) v w
def BN(a:h.underlying g=some (.slice q))(b:Nat)(n:ZH)(c d:Nat)(P:World):
  (Op.equalIn (b+1) g (.slice n c d) (.slice none 0 0)).run h P= .ok n.isNone P:=by
 cases n<;>simp[Op.equalIn,run_underlying a]
def wX(a:h.underlying g=some (.pointer q))(b:Nat)(n:ZH)(P:World):
  (Op.equalIn (b+1) g (.pointer n) (.pointer none)).run h P= .ok n.isNone P:=by
 cases n<;>simp[Op.equalIn,run_underlying a]
def jM(n:h.underlying g=some (.slice q))(P:m (.bool d.isNone) b):
  aG h (do eqGuard .eql g T X (.slice d a c) (.slice none 0 0);binOp .eql g (.slice d a c) (.slice none 0 0)) b m s:=by
 refine aG.mk (v:=.bool d.isNone) ?_ P;have e:(do eqGuard .eql g T X (.slice d a c) (.slice none 0 0);binOp .eql g (.slice d a c) (.slice none 0 0):Sem Value).run h b=
  ((Op.equalIn (9999+1) g (.slice d a c) (.slice none 0 0))>>=λf=>(pure (Value.bool f):Sem Value)).run h b:=rfl
 rw[e,Sem.run_bind,BN n]
 rfl
def fh(n:h.underlying g=some (.pointer q))(P:m (.bool d.isNone) b):
  aG h (do eqGuard .eql g T X (.pointer d) (.pointer none);binOp .eql g (.pointer d) (.pointer none)) b m s:=by
 refine aG.mk (v:=.bool d.isNone) ?_ P;have a:(do eqGuard .eql g T X (.pointer d) (.pointer none);binOp .eql g (.pointer d) (.pointer none):Sem Value).run h b=
  ((Op.equalIn (9999+1) g (.pointer d) (.pointer none))>>=λc=>(pure (Value.bool c):Sem Value)).run h b:=rfl
 rw[a,Sem.run_bind,wX n]
 rfl
def py(c:h.underlying g=some (.pointer q))(a b:Operand)(n:ZH)(P:World):
  (do eqGuard .neq g a b (.pointer n) (.pointer none);binOp .neq g (.pointer n) (.pointer none):Sem Value).run h P= .ok (.bool n.isSome) P:=by
 have d:(do eqGuard .neq g a b (.pointer n) (.pointer none);binOp .neq g (.pointer n) (.pointer none):Sem Value).run h P=
  ((Op.equalIn (9999+1) g (.pointer n) (.pointer none))>>=λe=>(pure (Value.bool !e):Sem Value)).run h P:=rfl
 rw[d,Sem.run_bind,wX c]
 cases n<;>rfl
def zr(n:h.underlying g=some (.pointer q))(P:m (.bool d.isSome) b):
  aG h (do eqGuard .neq g T X (.pointer d) (.pointer none);binOp .neq g (.pointer d) (.pointer none)) b m s:=aG.mk (py n T X d b) P
def Own.Tf{cs:List Value}(e:Own b g a d c i cs)(P:b.heap[p]? =some (.map e7 E)):aF d≠some p:=by
 intro n;rcases e.cases with⟨rfl,_⟩|⟨j,f,rfl,h,_⟩
 ·cases n
 ·simp only[aF,Q1]at n
  subst n;rw[h]at P;cases P
structure bL (F:XN) (w:World) (F':XN) (w':World):Prop where
 af:ak F w w'
 new:∀b,F' b->F b\/w.heap.size<=b
def bL.refl(P:XN)(n:World):bL P n P n:=⟨ak.refl n,λ_ a=>.inl a⟩
def bL.trans{b G c:XN}{d e f:World}(n:bL b d G e)(g:bL G e c f):bL b d c f:=
 ⟨n.af.trans g.af (λ_ _ n=>n) (λP h i=>(n.new P i).resolve_right oM),λP h=>by
  rcases g.new P h with a|a
  ·exact n.new P a
  ·exact .inr (Xx n.af.size a)⟩
def bL.last(P:bL f b Y k)(a:ak g5 k a5)(c:∀n,g5 n->b.heap.size<=n):bL f b Y a5:=⟨P.af.new a λn d=>.inr (c n d),P.new⟩
def bL.ah(n:bL f b Y k)(P:ai k a5):bL f b Y a5:=⟨n.af.then (ai.af P),n.new⟩
def bL.of(n:ai b k):bL f b f k:=⟨ai.af n,λa P=>.inl P⟩
end Go.au
namespace Go.au
open Go
variable{d0:Addr}{l:Array Value}{K:Bool}{c7 w:ByteArray}{e r:Int}{a3:List Value}{a c i p:Nat}{f:XN}{C:Nat×Nat}{d u:ZH}{h:Program}{L a7:Prop}{j:Type}{B g q:TypeId}{m s:XR}{a5 b k:World}
def an.dec[Decidable L]{P a:Prop}(b:L->P)(c:¬L->a):an (decide L) P a:=
 an.mk (λn=>b (XV n)) (λn=>c (Xy n))
def an.dF(P:e≠r->L)(a:e=r->a7):an (e !=r) L a7:=
 an.mk (λn=>P (by simpa using n)) (λn=>a (by simpa using n))
def an.dE(P:e=r->L)(a:e≠r->a7):an (e==r) L a7:=
 an.mk (λn=>P (by simpa using n)) (λn=>a (by simpa using n))
def an.not(n:an K a7 L):an (!K) L a7:=by cases K<;>exact n
def Nv(P:w.toList=c7.toList):w=c7:=by
 have a:∀n:ByteArray,n.toList=n.data.toList:=λn=>ByteArray.toList_eq n;rw[a,a]at P;exact ByteArray.ext (Array.toList_inj.1 P)
def an.Wi(P:w=c7->L)(a:w≠c7->a7):an (ByteArray.toList w==ByteArray.toList c7) L a7:=
 an.mk (λn=>P (Nv (by simpa using n))) (λn=>a (λb=>by subst b;simp at n))
def an.WJ(n:w≠c7->L)(P:w=c7->a7):an (!(ByteArray.toList w==ByteArray.toList c7)) L a7:=(an.Wi P n).not
def aq(n:a<4611686018427387904):XG .i64 ((a:Int)+1)=((a+1:Nat):Int):=by
 rw[wrap_i64 bc];simp
def bF.then(n:bF b k)(P:bF k a5):bF b a5:=by obtain⟨a,rfl⟩:=n;obtain⟨c,rfl⟩:=P;exact⟨a+c,sM⟩
def bF.refl(n:World):bF n n:=⟨0,rfl⟩
def Dr{n P:List j}{b:j}(c:n.take a=P.take a)(d:n[a]? =some b)(e:P[a]? =some b):n.take (a+1)=P.take (a+1):=by
 rw[Qw,Qw,c,d,e]
structure jt (α:Type) where
 k:Nat
 rep:World->(XN)->α->List Value->Prop
 af:∀{S D:XN} {w w':World} {x:α} {cs:List Value},rep w D x cs->ak S w w'->(∀b,D b->¬S b)->rep w' D x cs
 mono:∀{D D':XN} {w:World} {x:α} {cs:List Value},rep w D x cs->(∀b,D b->D' b)->rep w D' x cs
 len:∀{D:XN} {w:World} {x:α} {cs:List Value},rep w D x cs->cs.length=k
 one:∀{D:XN} {w:World} {x:α} {cs:List Value},rep w D x cs->∀u∈cs,u.oneCell'=true
def flat{b:Type}(c:Nat)(n:b->List Value)(d:b->Prop)(e:∀a,(n a).length=c)(f:∀a,∀g∈n a,g.oneCell'=true):jt b where
 k:=c
 rep:=λ_ _ a cs=>cs=n a/\d a
 af:=λP _ _=>P
 mono:=λP _=>P
 len:=λP=>by rw[P.1];exact e _
 one:=λP=>by rw[P.1];exact f _
def aJ:jt Int:=flat 1 (λn=>[XH n]) aH (λ_=>rfl) (λn a P=>by simp at P;subst P;rfl)
def fx:jt UInt8:=flat 1 (λn=>[.int .u8 n.toNat]) (λ_=>True) (λ_=>rfl) (λn a P=>by simp at P;subst P;rfl)
def MM:jt ByteArray:=flat 1 (λn=>[.string n]) (λ_=>True) (λ_=>rfl) (λn a P=>by simp at P;subst P;rfl)
structure Row {α:Type} (c:jt α) (bytes:Nat) (w:World) (D:XN) (a:ZH) (n:Nat) (xs:List α):Prop where
 len:n=xs.length
 dP:n*bytes<=aK
 el:∀(i:Nat) x,xs[i]? =some x->∃b off es,a=some ⟨b,off,none⟩/\b<w.heap.size/\D b/\(∀j,j<c.k->w.cell? ⟨b,off+i*c.k+j,none⟩=es[j]?)/\c.rep w D x es
section
variable {α:Type} {c:jt α} {bytes:Nat} {w w':World} {D D' S:XN} {a:ZH} {n:Nat} {xs:List α}
def Row.af(d:Row c bytes w D a n xs)(e:ak S w w')(f:∀P,D P->¬S P):Row c bytes w' D a n xs:=
 ⟨d.len,d.dP,λg k l=>by
  obtain⟨P,b,m,o,h,i,p,q⟩:=d.el g k l;exact⟨P,b,m,o,Qk h e.size,i,λj r=>(e.cell (a:=⟨P,b+g*c.k+j,none⟩) h (f P i)).trans (p j r),c.af q e f⟩⟩
def Row.ah(P:Row c bytes w D a n xs)(b:ai w w'):Row c bytes w' D a n xs:=P.af b λ_ _ P=>P
def Row.mono(b:Row c bytes w D a n xs)(e:∀P,D P->D' P):Row c bytes w D' a n xs:=
 ⟨b.len,b.dP,λf g h=>by
  obtain⟨P,d,i,j,k,l,m,o⟩:=b.el f g h;exact⟨P,d,i,j,k,e P l,m,c.mono o e⟩⟩
def Row.nil(w:World)(D:XN):Row c bytes w D none 0 []:=⟨rfl,sM,λP a n=>by simp at n⟩
def Row.at(f:Row c bytes w D a n xs){i:Int}(o:0<=i)(p:i<(n:Int)):
  ∃b P x d,a=some ⟨b,P,none⟩/\b<w.heap.size/\D b/\xs[i.toNat]? =some x/\(∀e,e<c.k->w.cell? ⟨b,P+i.toNat*c.k+e,none⟩=d[e]?)/\c.rep w D x d:=by
 have q:=f.len;have g:i.toNat<xs.length:=oM
 obtain⟨b,P,d,h,j,k,l,m⟩:=f.el i.toNat xs[i.toNat] (by simp[g]);exact⟨b,P,_,d,h,j,k,by simp[g],l,m⟩
def Row.yP(g:Row c bytes w D a n xs){i:Nat}(h:i<n):
  ∃b P e f,a=some ⟨b,P,none⟩/\b<w.heap.size/\D b/\xs[i]? =some e/\(∀d,d<c.k->w.cell? ⟨b,P+i*c.k+d,none⟩=f[d]?)/\c.rep w D e f:=by
 have:=g.at (i:=(i:Int)) oM oM;simpa using this
end
def Row.mr{c:j->Value}{f:j->Prop}{hl h1}{bytes:Nat}{D:XN}{g:List j}(h:Row (flat 1 (λP=>[c P]) f hl h1) bytes b D d a g){i:Nat}(k:i<a):
  ∃e n P,d=some ⟨e,n,none⟩/\g[i]? =some P/\f P/\b.cell? ⟨e,n+i,none⟩=some (c P):=by
 obtain⟨e,n,P,q,l,r,_,m,o,rfl,p⟩:=h.yP k;refine⟨e,n,P,l,m,p,?_⟩;have:=o 0 Nat.one_pos;simpa[flat]using this
def bD{n:Type}(P:jt n)(a:World)(D:XN):List n->List Value->Prop
 |[],cs=>cs=[]
 |x::d,cs=>∃b c,cs=b++c/\P.rep a D x b/\bD P a D d c
section
variable {α:Type} {c:jt α} {w w':World} {D D' S:XN}
def bD.af(P:ak S w w')(a:∀b,D b->¬S b):∀{n:List α} {cs:List Value},bD c w D n cs->bD c w' D n cs
 |[],_,d=>d
 |x::n,_,⟨e,f,g,h,i⟩=>⟨e,f,g,c.af h P a,bD.af P a i⟩
def bD.mono(P:∀a,D a->D' a):∀{n:List α} {cs:List Value},bD c w D n cs->bD c w D' n cs
 |[],_,b=>b
 |x::n,_,⟨d,e,f,g,h⟩=>⟨d,e,f,c.mono g P,bD.mono P h⟩
def bD.append:∀{xs P:List α} {cs n:List Value},bD c w D xs cs->bD c w D P n->bD c w D (xs++P) (cs++n)
 |[],P,_,n,b,a=>by cases b;exact a
 |x::xs,P,_,n,⟨d,e,f,g,h⟩,a=>⟨d,e++n,by rw[f,XQ],g,bD.append h a⟩
def bD.one{x:α}(n:c.rep w D x a3):bD c w D [x] a3:=⟨a3,[],sM,n,rfl⟩
def bD.length:∀{n:List α} {cs:List Value},bD c w D n cs->cs.length=n.length*c.k
 |[],_,P=>by cases P;simp
 |x::n,_,⟨e,f,a,b,d⟩=>by
  rw[a,QX,c.len b,bD.length d,Xq,X7,Nat.one_mul,Nat.add_comm]
def bD.Pz:∀{a:List α} {cs:List Value},bD c w D a cs->∀P∈cs,P.oneCell'=true
 |[],_,b,P,n=>by cases b;simp at n
 |x::a,_,⟨g,h,d,e,f⟩,P,n=>by
  rw[d]at n;rcases Q6.1 n with n|n
  ·exact c.one e P n
  ·exact bD.Pz f P n
def bD.at:∀{b:List α} {cs:List Value},bD c w D b cs->∀{i:Nat} {x:α},b[i]? =some x->∃a,(∀n,n<c.k->cs[i*c.k+n]? =a[n]?)/\c.rep w D x a
 |[],_,l,i,x,P=>by simp at P
 |y::b,_,⟨a,m,d,e,g⟩,i,x,P=>by
  have o:=c.len e
  cases i with
  |zero=>
   simp at P;subst P;refine⟨a,λn f=>?_,e⟩;rw[d,Nat.zero_mul,Xz,XW oM]
  |succ i=>
   obtain⟨h,j,k⟩:=bD.at g (i:=i) (x:=x) (by simpa using P);refine⟨h,λn f=>?_,k⟩;rw[d,X7,Nat.one_mul,X8 oM,<-j n f]
   congr 1
   omega
def bD.take:∀{n:List α} {cs:List Value},bD c w D n cs->∀(m:Nat),bD c w D (n.take m) (cs.take (m*c.k))
 |[],_,a,m=>by cases a;simp[bD]
 |x::n,_,⟨b,d,e,P,f⟩,m=>by
  have g:=c.len P
  cases m with
  |zero=>simp[bD]
  |succ m=>
   refine⟨b,d.take (m*c.k),?_,P,bD.take f m⟩;rw[e,X7,Nat.one_mul,Nat.add_comm,List.take_append,g,Qz oM]
   congr 2
   omega
def Row.aD{bytes:Nat}{h:List α}(v:Row c bytes w D d a h):∃cs,bD c w D h cs/\(h≠[]->0<c.k->∃P n,d=some ⟨P,n,none⟩/\P<w.heap.size/\D P/\∀b e,cs[b]? =some e->w.cell? ⟨P,n+b,none⟩=some e):=by
 have k:∀(l:List α) (f:Nat),(∀i j,l[i]? =some j->h[f+i]? =some j)->∃cs,bD c w D l cs/\∀P n,d=some ⟨P,n,none⟩->0<c.k->∀b e,cs[b]? =some e->w.cell? ⟨P,n+f*c.k+b,none⟩=some e:=by
  intro l
  induction l with
  |nil=>intro f _;exact⟨[],rfl,λP n _ _ b e g=>by simp at g⟩
  |cons x l F=>
   intro f y;obtain⟨z,q,r⟩:=F (f+1) (λi j s=>by have:=y (i+1) j (by simpa using s);rw[show f+1+i=f+(i+1) by omega];exact this);obtain⟨P,n,p,m,A,B,C,t⟩:=v.el f x (y 0 x rfl);refine⟨p++z,⟨p,z,rfl,t,q⟩,λJ E o u b e g=>?_⟩;rw[m]at o;cases o
   have K:=c.len t
   by_cases H:b<c.k
   ·rw[XW oM]at g
    rw[<-g];exact C b H
   ·rw[X8 oM]at g
    have:=r P n m u (b-p.length) e g;rw[<-this]
    congr 2
    rw[X7];omega
 obtain⟨cs,q,r⟩:=k h 0 (λi j s=>by simpa using s);refine⟨cs,q,λI u=>?_⟩
 cases h with
 |nil=>exact Zz rfl I
 |cons j h=>
  obtain⟨P,n,p,m,A,B,C,t⟩:=v.el 0 j rfl;refine⟨P,n,m,A,B,λb e g=>?_⟩;have:=r P n m u b e g;simpa using this
end
structure aO {α:Type} (c:jt α) (e:TypeId) (F:XN) (w:World) (a:ZH) (n cap:Nat) (xs:List α):Prop where
 body:∃cs D,Own w e c.k a n cap cs/\bD c w D xs cs/\(∀b,D b->F b/\aF a≠some b)
 self:∀b,aF a=some b->F b
 aB:∀b,F b->b<w.heap.size
section
variable {α:Type} {c:jt α} {e:TypeId} {w w':World} {F F' S:XN} {a:ZH} {n cap:Nat} {xs:List α}
def aO.nil(w:World):aO c e (λ_=>False) w none 0 0 []:=
 ⟨⟨[],λ_=>False,Own.nil _ _ _,rfl,λ_ n=>n.elim⟩,λP n=>(by cases n),λ_ n=>n.elim⟩
def aO.af(d:aO c e F w a n cap xs)(f:ak S w w')(g:∀P,F P->¬S P):aO c e F w' a n cap xs:=by
 obtain⟨cs,D,i,j,h⟩:=d.body;exact⟨⟨cs,D,i.af f (cR.2 λP b=>g P (d.self P b)),j.af f (λP b=>g P (h P b).1),h⟩,d.self,λP b=>Qk (d.aB P b) f.size⟩
def aO.ah(P:aO c e F w a n cap xs)(b:ai w w'):aO c e F w' a n cap xs:=P.af b λ_ _ P=>P
def aO.mono(d:aO c e F w a n cap xs)(f:∀P,F P->F' P)(h:∀P,F' P->P<w.heap.size):aO c e F' w a n cap xs:=by
 obtain⟨cs,D,i,j,g⟩:=d.body;exact⟨⟨cs,D,i,j,λP b=>⟨f P (g P b).1,(g P b).2⟩⟩,λP b=>f P (d.self P b),h⟩
def aO.len(b:aO c e F w a n cap xs)(d:0<c.k):n=xs.length:=by
 obtain⟨cs,D,f,g,h⟩:=b.body;have P:=f.length;rw[g.length]at P;exact(Nat.eq_of_mul_eq_mul_right d P).symm
def Own.Py{P:Nat}{cs:List Value}(b:Own w e P a n cap cs):n<=cap:=by
 rcases b.cases with⟨_,rfl,rfl,_⟩|⟨f,c,_,_,d,_,_⟩
 ·exact Q4 _
 ·exact d
def aO.row{bytes:Nat}(d:aO c e F w a n cap xs)(i:0<c.k)(f:xs.length*bytes<=aK):Row c bytes w F a n xs:=by
 have j:=d.len i;obtain⟨cs,D,k,r,s⟩:=d.body;refine⟨j,by rw[j];exact f,λz A t=>?_⟩;obtain⟨g,l,m⟩:=r.at t;have B:=c.len m;have o:=l 0 i;rw[Nat.add_zero,Qq (show 0<g.length by omega)]at o;obtain⟨p,h,u,_⟩:=k.cell o;refine⟨p,0,g,h,u,d.self p (by rw[h];rfl),λq v=>?_,c.mono m λx f=>(s x f).1⟩;have P:=l q v;rw[Qq (show q<g.length by omega)]at P⊢;obtain⟨C,b,_,y⟩:=k.cell P;rw[h]at b;cases b
 rw[Xz];exact y
def Mg{bytes:Nat}{x:α}(f:aO c e F w a n cap xs)(z:jF h g e c.k bytes){D:XN}(r:c.rep w D x l.toList)(k:∀P,D P->P<w.heap.size/\aF a≠some P)(b:(xs.length+1)*bytes<=aK)(I:xs.length+1<=maxLen)(t:∀j i w' F',aO c e F' w' j (n+1) i (xs++[x])->ak (λu=>aF a=some u) w w'->(∀P,F' P->F P\/D P\/w.heap.size<=P)->(∀P,aF j=some P->F P\/w.heap.size<=P)->m (.slice j (n+1) i) w'):
  PA w (.cells l e) λv=>aG h (Builtin.append_ #[g,g] q #[.slice a n cap,.slice (XM w.heap.size) 1 1]) v m s:=by
 have A:=f.len z.pos;obtain⟨cs,J,K,L,o⟩:=f.body;refine PA.mk λv C R M=>?_;have S:=c.len r;have N:=K.ah C;refine yN z (news:=l.toList) N M (by rw[Qz oM]) oM (c.one r) (by rw[A];exact b) (by rw[A];exact I) λj O p E H B=>?_;have y:ak (λu=>aF a=some u) w p:=(ai.af C).then (H.mono λ_ _ f=>f.symm)
 let F':XN:=λP=>F P\/D P\/(w.heap.size<=P/\P<p.heap.size)
 have T:v.heap.size<=p.heap.size:=H.size;refine t j O p F' ⟨⟨_,λP=>J P\/D P,E,bD.append ((L.af y λP b=>(o P b).2).mono λP b=>.inl b) (bD.one (c.mono (c.af r y λP b=>(k P b).2) λP b=>.inr b)),?_⟩,?_,?_⟩ y ?_ ?_
 ·intro P b
  have U:P<w.heap.size:=b.elim (λd=>f.aB P (o P d).1) λd=>(k P d).1;refine⟨b.elim (λd=>.inl (o P d).1) λd=>.inr (.inl d),?_⟩;rcases B with B|B
  ·rw[B];exact b.elim (λd=>(o P d).2) λd=>(k P d).2
  ·rw[B];intro Q;cases Q;omega
 ·intro P b
  rcases B with B|B
  ·exact .inl (f.self P (B▸b))
  ·have:=E.lt b
   rw[B]at b;cases b;exact .inr (.inr ⟨oM,this⟩)
 ·rintro P (b|b|b)
  ·have:=f.aB P b;omega
  ·have:=(k P b).1;omega
  ·exact b.2
 ·rintro P (b|b|b)
  ·exact .inl b
  ·exact .inr (.inl b)
  ·exact .inr (.inr b.1)
 ·intro P b
  rcases B with B|B
  ·exact .inl (f.self P (B▸b))
  ·rw[B]at b;cases b;exact .inr oM
def ko{bytes:Nat}(f:aO c e F w a n cap xs)(x:jF h g e c.k bytes){D:XN}{o L:Nat}{k:List α}(C:Row c bytes w D (some d0) o k)(p:∀P,D P->P<w.heap.size/\aF a≠some P)(b:(xs.length+k.length)*bytes<=aK)(M:xs.length+k.length<=maxLen)(y:∀l i w' F',aO c e F' w' l (n+o) i (xs++k)->ak (λj=>aF a=some j) w w'->(∀P,F' P->F P\/D P\/w.heap.size<=P)->(∀P,aF l=some P->F P\/w.heap.size<=P)->m (.slice l (n+o) i) w'):
  aG h (Builtin.append_ #[g,g] q #[.slice a n cap,.slice (some d0) o L]) w m s:=by
 have E:=f.len x.pos;have z:=C.len;obtain⟨cs,N,O,Q,r⟩:=f.body;obtain⟨H,t,R⟩:=C.aD;have S:∀j u,H[j]? =some u->w.cell? (d0.add j)=some u:=λj u I=>by
  have T:k≠[]:=by rintro rfl;have:=t.length;simp at this;subst this;simp at I
  obtain⟨P,U,V,_,_,W⟩:=R T x.pos
  cases V
  rw[Addr.add_lit];exact W j u I
 refine K_ x (news:=H) O S (by rw[t.length,z]) t.Pz (by rw[E,z];exact b) (by rw[E,z];exact M) λl X v J K B=>?_;have A:ak (λj=>aF a=some j) w v:=K.mono λ_ _ f=>f.symm
 let F':XN:=λP=>F P\/D P\/(w.heap.size<=P/\P<v.heap.size)
 have Z:w.heap.size<=v.heap.size:=K.size;refine y l X v F' ⟨⟨_,λP=>N P\/D P,J,bD.append ((Q.af A λP b=>(r P b).2).mono λP b=>.inl b) ((t.af A λP b=>(p P b).2).mono λP b=>.inr b),?_⟩,?_,?_⟩ A ?_ ?_
 ·intro P b
  have a1:P<w.heap.size:=b.elim (λd=>f.aB P (r P d).1) λd=>(p P d).1;refine⟨b.elim (λd=>.inl (r P d).1) λd=>.inr (.inl d),?_⟩;rcases B with B|B
  ·rw[B];exact b.elim (λd=>(r P d).2) λd=>(p P d).2
  ·rw[B];intro Y;cases Y;omega
 ·intro P b
  rcases B with B|B
  ·exact .inl (f.self P (B▸b))
  ·have:=J.lt b
   rw[B]at b;cases b;exact .inr (.inr ⟨Q4 _,this⟩)
 ·rintro P (b|b|b)
  ·have:=f.aB P b;omega
  ·have:=(p P b).1;omega
  ·exact b.2
 ·rintro P (b|b|b)
  ·exact .inl b
  ·exact .inr (.inl b)
  ·exact .inr (.inr b.1)
 ·intro P b
  rcases B with B|B
  ·exact .inl (f.self P (B▸b))
  ·rw[B]at b;cases b;exact .inr oM
end
def bD.free{a:Type}{c:Nat}{n:a->List Value}{d:a->Prop}{hl P}{e f:World}{D g:XN}:∀{b:List a} {cs:List Value},bD (flat c n d hl P) e D b cs->bD (flat c n d hl P) f g b cs
 |[],_,h=>h
 |x::b,_,⟨i,j,P,k,l⟩=>⟨i,j,P,k,l.free⟩
def aO.alone{n:j->List Value}{k:j->Prop}{hl h1}{l:List j}(P:aO (flat a n k hl h1) g f b d c i l):
  aO (flat a n k hl h1) g (λe=>aF d=some e) b d c i l:=by
 obtain⟨cs,p,m,o,q⟩:=P.body;exact⟨⟨cs,λ_=>False,m,o.free,λ_ P=>P.elim⟩,λe h=>h,λe h=>P.aB e (P.self e h)⟩
def px{P:Type}(g:jt P)(h:TypeId)(a:World)(i:List P)(j:Value)(b:World):Prop:=
 ∃c d n e,j= .slice c d n/\aO g h e b c d n i/\ai a b/\∀f,e f->a.heap.size<=f
def Row.lit{enc:j->Value}{c:j->Prop}{hl h1}{bytes:Nat}{cs:Array Value}(d:b.heap[a]? =some (.cells cs g C))(P:List j)(h:cs.toList=P.map enc)(i:∀n∈P,c n)(k:P.length*bytes<=aK):
  Row (flat 1 (λn=>[enc n]) c hl h1) bytes b (·=a) (XM a) P.length P:=
 ⟨rfl,k,λe n f=>⟨a,0,[enc n],rfl,ax d,rfl,λl m=>by
  have:l=0:=Nat.lt_one_iff.1 m;subst this;have:cs.toList[e]? =some (enc n):=by rw[h];simp[f]
  have o:=ae d (off:=e) (v:=enc n) (by simpa using this);simpa[flat]using o,rfl,i n (QZ f)⟩⟩
def Row.part{n:jt j}{bytes:Nat}{D:XN}{f:List j}(c:Row n bytes b D d a f){lo hi cap:Nat}(u:lo<=hi)(v:hi<=a)(w:a<=cap):
  Row n bytes b D (cH d lo cap n.k) (hi-lo) ((f.take hi).drop lo):=by
 have x:=c.len;refine⟨by simp;omega,Xx (Q0 _ oM) c.dP,λg h P=>?_⟩;rw[List.getElem?_drop,Xw]at P;split at P
 ·rename_i y
  obtain⟨i,e,k,l,m,o,p,q⟩:=c.el (lo+g) h P
  by_cases r:cap=lo
  ·omega
  ·exact⟨i,e+lo*n.k,k,by rw[l];simp[cH,r,Addr.add_lit],m,o,λs t=>by rw[<-p s t];congr 2;rw[X7];omega,q⟩
 ·cases P
def aO.jX{n:jt j}{P:List j}(e:aO n g f b d a c P):a<=c:=by
 obtain⟨cs,i,h,_⟩:=e.body;exact h.Py
def Row.take{c:jt j}{bytes:Nat}{D:XN}{e:List j}(P:Row c bytes b D d a e){m:Nat}(f:m<=a):Row c bytes b D d m (e.take m):=by
 have i:=P.len;refine⟨by simp;omega,Xx (Q0 _ f) P.dP,λg h n=>?_⟩;rw[Xw]at n;split at n
 ·exact P.el g h n
 ·cases n
def yR{e:jt j}{r:List j}{bytes:Nat}(t:aO e g f b d a c r)(v:jF h q g e.k bytes){D:XN}{k:List j}(y:Row e bytes b D u i k)(A:u=none->i=0/\p=0)(C:∀n,D n->n<b.heap.size/\aF d≠some n)(l:(r.length+k.length)*bytes<=aK)(E:r.length+k.length<=maxLen)(o:∀w P x z,aO e g z x w (a+i) P (r++k)->ak (λF=>aF d=some F) b x->(∀n,z n->f n\/D n\/b.heap.size<=n)->(∀n,aF w=some n->f n\/b.heap.size<=n)->m (.slice w (a+i) P) x):
  aG h (Builtin.append_ #[q,q] B #[.slice d a c,.slice u i p]) b m s:=by
 cases u with
 |some M=>exact ko t v y C l E o
 |none=>
  obtain⟨rfl,rfl⟩:=A rfl;have H:k=[]:=QW y.len.symm;subst H;obtain⟨I,N,J,O,Q,R,S⟩:=jF.info v;obtain⟨cs,T,K,U,V⟩:=t.body;have L:=run_append_owned_none (P:=h) (w:=b) 0 q B g I e.k v.under J (.slice d a c) a cs K.row;exact aG.mk L (o d c b f (by simpa using t) (ak.refl _) (λn l=>.inl l) λn l=>.inl (t.self n l))
def aO.MG{n:jt j}{P:List j}(e:aO n g f b d a c P)(h:d=none):a=0/\c=0:=by
 obtain⟨cs,o,i,_⟩:=e.body;rcases i.cases with⟨_,k,l,_⟩|⟨p,m,rfl,_⟩
 ·exact⟨k,l⟩
 ·cases h
def TV(i:jF h g q 1 1)(d:(h.info? q).bind (·.zero)=some (.int .u8 0))(j:a<=c)(n:c<=aK)(e:∀P,aO fx q (·=b.heap.size) P (XM b.heap.size) a c (List.replicate a 0)->ai b P->P.heap.size=b.heap.size+1->m (.slice (XM b.heap.size) a c) P):
  aG h (Instr.makeSlice g (XH (a:Int)) (XH (c:Int))) b m s:=by
 unfold aK at n;obtain⟨p,r,k,l,t,u,A⟩:=i.info;have v:r= .int .u8 0:=by
  rw[k]at d;simp only[Option.bind_some,l]at d;exact XJ d
 subst v;have o:=run_make (P:=h) b g q p _ i.under k l .i64 .i64 a c oM oM (by rw[u];omega) oM;rw[Qx,Qx,t,Nat.mul_one]at o;have w:ai b (b.alloc (.cells (madeCells (Value.int .u8 0).cells c) q)):=ak.alloc b _;have x:(madeCells (Value.int .u8 0).cells c).toList=List.replicate c (.int .u8 0):=by
  unfold madeCells;rw[Array.toList_map];apply List.ext_getElem
  ·simp
  ·intro B C E
   simp[Value.cells,Nat.mod_one]
 refine aG.mk o (e _ ⟨⟨List.replicate a (.int .u8 0),λ_=>False,⟨⟨by simp[fx,flat],.inr ⟨b.heap.size,c,_,rfl,Qj _,heap_alloc_new b _,j,by unfold maxLen;omega,by simp[size_madeCells,fx,flat],?_⟩⟩⟩,?_,λ_ e=>e.elim⟩,λy n=>by simpa[aF]using n.symm,λy n=>by subst n;simp⟩ w sM)
 ·rw[x]
  simp only[fx,flat,Nat.mul_one,List.take_replicate];rw[X2 j]
 ·have f:∀a:Nat,bD fx (b.alloc (.cells (madeCells (Value.int .u8 0).cells c) q)) (λ_=>False) (List.replicate a 0) (List.replicate a (.int .u8 0)):=by
   intro a
   induction a with
   |zero=>rfl
   |succ a z=>exact⟨[.int .u8 0],List.replicate a (.int .u8 0),rfl,⟨rfl,trivial⟩,z⟩
  exact f a
end Go.au
namespace Go.au
open Go
def jC(n:Nat):List UInt8:=if P:n=0 then []else UInt8.ofNat (n % 256)::jC (n/256)
termination_by n
decreasing_by omega
def qY:jC 0=[]:=by rw[jC];simp
variable{a:Nat}
def Bl(n:a≠0):jC a=UInt8.ofNat (a % 256)::jC (a/256):=by rw[jC];simp[n]
def xE:∀(n:Nat),n<2 ^ 64->(jC n).length=(Lib.bitLen n+7)/8:=by
 intro n
 induction n using Nat.strongRecOn with
 |_ n b=>
  intro a
  by_cases P:n=0
  ·subst P;rw[qY];decide
  ·rw[Bl P,Xq]
   by_cases c:n<256
   ·have d:n/256=0:=oM
    rw[d,qY];have f:Lib.bitLen n<=8:=Lib.bitLen_le8 ⟨n,c⟩;have g:1<=Lib.bitLen n:=(Lib.bitLenAux_bounds 64 n a P).1;simp;omega
   ·have:=b (n/256) oM oM
    rw[this];have e:=Lib.bitLen_shift 8 n oM a;rw[show(2:Nat) ^ 8=256 from rfl]at e;omega
def HN{u:Nat}(n:u<2 ^ 64):(jC u).length<=8:=by
 rw[xE u n]
 by_cases P:u=0
 ·subst P;decide
 ·have a:=Lib.bitLenAux_bounds 64 u n P
  have:Lib.bitLen u<=64:=by
   apply Nat.le_of_not_lt;intro b;have c:2 ^ 64<=2 ^(Lib.bitLen u-1):=Nat.pow_le_pow_right oM oM;have d:2 ^(Lib.bitLen u-1)<=u:=a.2.1;omega
  omega
def P_:∀(a n:Nat),a<(jC n).length->(jC n)[a]? =some (UInt8.ofNat (n/256 ^ a % 256)):=by
 intro a
 induction a with
 |zero=>
  intro n P
  by_cases b:n=0
  ·subst b;rw[qY]at P;simp at P
  ·rw[Bl b];simp
 |succ a c=>
  intro n P
  by_cases b:n=0
  ·subst b;rw[qY]at P;simp at P
  ·rw[Bl b]at P⊢
   have:=c (n/256) (by simpa using P);rw[ZZ,this,Nat.div_div_eq_div_mul,Nat.pow_succ,Nat.mul_comm 256]
def f_(n:List UInt8):Nat:=n.foldl (λP a=>P*256+a.toNat) 0
def HO(n:List UInt8)(P:UInt8):f_ (n++[P])=f_ n*256+P.toNat:=by simp[f_,List.foldl_append]
def LN(n:List UInt8):f_ n<256 ^ n.length:=by
 suffices b:∀(n:List UInt8) (P a:Nat),P<256 ^ a->n.foldl (λP c=>P*256+c.toNat) P<256 ^(a+n.length) by
  have:=b n 0 0 sM;simpa[f_]using this
 intro n
 induction n with
 |nil=>intro P a b;simpa using b
 |cons c n d=>
  intro P a b;have e:=c.toNat_lt;have:=d (P*256+c.toNat) (a+1) (by rw[Nat.pow_succ];omega);rw[List.foldl_cons,Xq];rw[show a+(n.length+1)=a+1+n.length by omega];exact this
def nZ(n:Int):List UInt8:=UInt8.ofNat ((jC n.natAbs).length+if n<0 then 16 else 0)::(jC n.natAbs).reverse
def rdNum(b:List UInt8):Int×Int×Nat:=match b with
 |[]=>(4,0,0)
 |h::a=>
  let n:=if 16<h.toNat then h.toNat-16 else h.toNat
  let P:=f_ (a.take n)
  if 8<n then(5,0,0)
  else if a.length<n then(4,0,0)
  else if(0<n/\a.head? =some 0)\/(¬16<h.toNat/\2 ^ 63<=P)\/(16<h.toNat/\2 ^ 63<P)then(5,0,0)
  else(0,if 16<h.toNat then-(P:Int)else P,n+1)
end Go.au
namespace Go.au
open Go
abbrev qU:=BitVec 32
def Az:qU:=0xEDB88320#32
def mY(n:qU):qU:=(n>>>1) ^^^(if n.getLsbD 0 then Az else 0#32)
def AA(n P:qU):mY (n ^^^ P)=mY n ^^^ mY P:=by
 unfold mY;rw[BitVec.ushiftRight_xor_distrib,BitVec.getLsbD_xor]
 cases n.getLsbD 0<;>cases P.getLsbD 0<;>simp only[Bool.xor_false,Bool.xor_true,Bool.not_true,Bool.not_false,if_true,if_false,Bool.false_eq_true,BitVec.xor_zero,BitVec.zero_xor]
 ·ac_rfl
 ·ac_rfl
 ·have:(n>>>1 ^^^ Az) ^^^(P>>>1 ^^^ Az)=(n>>>1 ^^^ P>>>1) ^^^(Az ^^^ Az):=by ac_rfl
  rw[this,BitVec.xor_self,BitVec.xor_zero]
def oE(n:qU):qU:=mY (mY (mY (mY (mY (mY (mY (mY n)))))))
def CW(n P:qU):oE (n ^^^ P)=oE n ^^^ oE P:=by
 unfold oE;simp only[AA]
def Tu(n:Bool):qU:=if n then 1#32 else 0#32
def AB(n:qU)(P:Bool):qU:=(n>>>1) ^^^(if n.getLsbD 0 !=P then Az else 0#32)
def CX(n:qU)(P:Bool):AB n P=mY (n ^^^ Tu P):=by
 unfold AB
 cases P
 ·simp[Tu,mY]
 ·rw[AA]
  have:mY (Tu true)=Az:=by decide+kernel
  rw[this];unfold mY
  cases n.getLsbD 0
  ·simp
  ·have a:(n>>>1 ^^^(if true=true then Az else 0#32)) ^^^ Az=n>>>1 ^^^(Az ^^^ Az):=by rw[Zx rfl];ac_rfl
   rw[a,BitVec.xor_self];simp
def jO(n:qU)(P:UInt8):qU:=(List.range 8).foldl (λn a=>AB n (P.toNat.testBit a)) n
def xi(n:UInt8):qU:=BitVec.ofNat 32 n.toNat
def Ho(n:qU)(a:UInt8):jO n a=oE n ^^^ jO 0#32 a:=by
 have e:∀(P:List Nat) (b c:qU),(P.foldl (λn d=>AB n (a.toNat.testBit d)) (b ^^^ c))=(P.foldl (λn _=>mY n) b) ^^^(P.foldl (λn d=>AB n (a.toNat.testBit d)) c):=by
  intro P
  induction P with
  |nil=>intro b c;rfl
  |cons d P f=>
   intro b c;simp only[List.foldl_cons];rw[<-f]
   congr 1
   rw[CX,CX];simp only[AA]
   ac_rfl
 have:=e (List.range 8) n 0#32;rw[BitVec.xor_zero]at this;exact this
def Hp(n:UInt8):jO 0#32 n=oE (xi n):=by
 have a:(List.range 256).all (λP=>jO 0#32 (UInt8.ofNat P)==oE (xi (UInt8.ofNat P)))=true:=by decide+kernel
 have:=ZY.1 a n.toNat (List.mem_range.2 n.toNat_lt);simpa using this
def JT(n:qU)(P:UInt8):jO n P=oE (n ^^^ xi P):=by
 rw[Ho,Hp,CW]
def MK{n:qU}(P:n.getLsbD 0=false):mY n=n>>>1:=by
 unfold mY;rw[P];simp
def JU(P:qU):oE (P&&&0xFFFFFF00#32)=P>>>8:=by
 have bit:∀n,n<8->((P&&&0xFFFFFF00#32)>>>n).getLsbD 0=false:=λn b=>by
  rw[BitVec.getLsbD_ushiftRight,BitVec.getLsbD_and,Nat.add_zero];have:(0xFFFFFF00#32:qU).getLsbD n=false:=by
   have c:(List.range 8).all (λn=>(0xFFFFFF00#32:qU).getLsbD n==false)=true:=by decide+kernel
   simpa using ZY.1 c n (List.mem_range.2 b)
  rw[this,Bool.and_false]
 have step:∀n,n<8->mY ((P&&&0xFFFFFF00#32)>>>n)=(P&&&0xFFFFFF00#32)>>>(n+1):=λn b=>by
  rw[MK (bit n b),BitVec.shiftRight_add]
 have d:P&&&0xFFFFFF00#32=(P&&&0xFFFFFF00#32)>>>0:=sM
 unfold oE;rw[d,step 0 oM,step 1 oM,step 2 oM,step 3 oM,step 4 oM,step 5 oM,step 6 oM,step 7 oM];apply BitVec.eq_of_getLsbD_eq;intro a e;rw[BitVec.getLsbD_ushiftRight,BitVec.getLsbD_ushiftRight,BitVec.getLsbD_and]
 by_cases f:7+1+a<32
 ·have:(0xFFFFFF00#32:qU).getLsbD (7+1+a)=true:=by
   have c:(List.range 24).all (λa=>(0xFFFFFF00#32:qU).getLsbD (7+1+a)==true)=true:=by decide+kernel
   simpa using ZY.1 c a (List.mem_range.2 oM)
  rw[this,Bool.and_true]
 ·rw[BitVec.getLsbD_of_ge _ _ oM]
  simp
def jz:List Nat:=[0x00000000,0x77073096,0xEE0E612C,0x990951BA,0x076DC419,0x706AF48F,0xE963A535,0x9E6495A3,0x0EDB8832,0x79DCB8A4,0xE0D5E91E,0x97D2D988,0x09B64C2B,0x7EB17CBD,0xE7B82D07,0x90BF1D91]
def jA:List Nat:=[0x00000000,0x1DB71064,0x3B6E20C8,0x26D930AC,0x76DC4190,0x6B6B51F4,0x4DB26158,0x5005713C,0xEDB88320,0xF00F9344,0xD6D6A3E8,0xCB61B38C,0x9B64C2B0,0x86D3D2D4,0xA00AE278,0xBDBDF21C]
def JV(n:UInt8):oE (xi n)=BitVec.ofNat 32 (jz.getD (n.toNat % 16) 0) ^^^ BitVec.ofNat 32 (jA.getD (n.toNat/16) 0):=by
 have a:(List.range 256).all (λP=>oE (xi (UInt8.ofNat P))==BitVec.ofNat 32 (jz.getD ((UInt8.ofNat P).toNat % 16) 0) ^^^ BitVec.ofNat 32 (jA.getD ((UInt8.ofNat P).toNat/16) 0))=true:=by decide+kernel
 have:=ZY.1 a n.toNat (List.mem_range.2 n.toNat_lt);simpa using this
def MI(n:qU)(a:UInt8):jO n a=n>>>8 ^^^ BitVec.ofNat 32 (jz.getD ((a.toNat ^^^ n.toNat % 256) % 16) 0) ^^^ BitVec.ofNat 32 (jA.getD ((a.toNat ^^^ n.toNat % 256)/16) 0):=by
 have f:=a.toNat_lt;have m:a.toNat ^^^ n.toNat % 256<2 ^ 8:=Nat.xor_lt_two_pow oM oM;have b:(UInt8.ofNat (a.toNat ^^^ n.toNat % 256)).toNat=a.toNat ^^^ n.toNat % 256:=by
  rw[ZK];omega
 have c:=JV (UInt8.ofNat (a.toNat ^^^ n.toNat % 256));rw[b]at c;have g:n ^^^ xi a=xi (UInt8.ofNat (a.toNat ^^^ n.toNat % 256)) ^^^(n&&&0xFFFFFF00#32):=by
  apply BitVec.eq_of_getLsbD_eq;intro P d;unfold xi;rw[b,BitVec.getLsbD_xor,BitVec.getLsbD_xor,BitVec.getLsbD_and,BitVec.getLsbD_ofNat,BitVec.getLsbD_ofNat,Nat.testBit_xor];have h:(n.toNat % 256).testBit P=(decide (P<8)&&n.toNat.testBit P):=by
   rw[show 256=2 ^ 8 from rfl,Nat.testBit_mod_two_pow]
  have i:n.getLsbD P=n.toNat.testBit P:=rfl;rw[h,i];have j:(0xFFFFFF00#32:qU).getLsbD P=decide (8<=P):=by
   have k:(List.range 32).all (λP=>(0xFFFFFF00#32:qU).getLsbD P==decide (8<=P))=true:=by decide+kernel
   simpa using ZY.1 k P (List.mem_range.2 d)
  rw[j,Zy d]
  by_cases e:P<8
  ·rw[Zy e,Xv oM]
   cases n.toNat.testBit P<;>cases a.toNat.testBit P<;>rfl
  ·have l:a.toNat.testBit P=false:=Nat.testBit_lt_two_pow (Qk f (by
    have:=Nat.pow_le_pow_right (n:=2) oM (show 8<=P by omega);simpa using this))
   rw[Xv e,Zy oM,l]
   cases n.toNat.testBit P<;>rfl
 rw[JT,g,CW,JU,c]
 ac_rfl
def Lp(n:qU)(P:List UInt8):qU:= ~~~(P.foldl jO (~~~n))
def MJ(n:List UInt8):qU:=Lp 0#32 n
end Go.au
namespace Go.au
open Go
structure lY where
 bytes:List UInt8
 pos:Nat
 uV:Int
def lY.num(n:lY):Int×Int×Nat:=rdNum (n.bytes.drop n.pos)
def fp(n:lY):Int×lY:=if n.uV≠0 then(0,n)else if n.num.1=0 then(n.num.2.1,⟨n.bytes,n.pos+n.num.2.2,0⟩)else(0,⟨n.bytes,n.pos,n.num.1⟩)
def bW(P:Int)(n:lY):Int×lY:=if n.uV≠0 then(0,n)else if n.num.1=0 then(if n.num.2.1<0\/P<n.num.2.1 then(0,⟨n.bytes,n.pos,3⟩)else(n.num.2.1,⟨n.bytes,n.pos+n.num.2.2,0⟩))else(0,⟨n.bytes,n.pos,n.num.1⟩)
def kq(n:lY):Int:=if n.uV=0/\n.pos<n.bytes.length then 5 else n.uV
def bf:Nat->lY->List Int×lY
 |0,n=>([],n)
 |k+1,n=>((bf k n).1++[(fp (bf k n).2).1],(fp (bf k n).2).2)
def jj(n:List UInt8):aH (rdNum n).2.1/\(rdNum n).2.2<=n.length/\(rdNum n).2.2<=9/\((rdNum n).1=0\/(rdNum n).1=4\/(rdNum n).1=5)/\((rdNum n).1=0->1<=(rdNum n).2.2):=by
 unfold rdNum
 cases n with
 |nil=>simp[aH]
 |cons P c=>
  simp only;generalize(if 16<P.toNat then P.toNat-16 else P.toNat)=a;have j:=LN (c.take a);generalize f_ (c.take a)=b at j
  by_cases g:8<a
  ·rw[Zx g];simp[aH]
  rw[Zq g]
  by_cases h:c.length<a
  ·rw[Zx h];simp[aH]
  rw[Zq h]
  by_cases d:(0<a/\c.head? =some 0)\/(¬16<P.toNat/\2 ^ 63<=b)\/(16<P.toNat/\2 ^ 63<b)
  ·rw[Zx d];simp[aH]
  rw[Zq d];have i:(¬16<P.toNat->b<2 ^ 63)/\(16<P.toNat->b<=2 ^ 63):=by
   refine⟨λe=>?_,λe=>?_⟩
   ·exact Nat.lt_of_not_le λf=>d (.inr (.inl ⟨e,f⟩))
   ·exact Nat.le_of_not_lt λf=>d (.inr (.inr ⟨e,f⟩))
  refine⟨?_,by simp;omega,by show a+1<=9;omega,.inl rfl,λ_=>by show 1<=a+1;omega⟩;show aH (if 16<P.toNat then-(b:Int)else b);unfold aH;split
  ·have:=i.2 (by assumption);omega
  ·have:=i.1 (by assumption);omega
structure lY.Fit (r:lY):Prop where
 pos:r.pos<=r.bytes.length
 uV:r.uV=0\/r.uV=3\/r.uV=4\/r.uV=5
variable{e:Int}{t:List Int}{x:List UInt8}{a0:lY}
def lY.Fit.int(P:a0.Fit):(fp a0).2.Fit/\aH (fp a0).1/\(fp a0).2.bytes=a0.bytes:=by
 obtain⟨a,b,d,n,e⟩:=jj (a0.bytes.drop a0.pos);have c:=P.pos;rw[XZ]at b;unfold fp lY.num;split
 ·exact⟨P,by simp[aH],rfl⟩
 ·split
  ·exact⟨⟨by show a0.pos+_<=a0.bytes.length;omega,.inl rfl⟩,a,rfl⟩
  ·exact⟨⟨c,by show _\/_;rcases n with n|n|n<;>simp[n]⟩,by simp[aH],rfl⟩
def lY.Fit.count{r:lY}(a:r.Fit){m:Int}(P:0<=m):(bW m r).2.Fit/\0<=(bW m r).1/\(bW m r).1<=m/\(bW m r).2.bytes=r.bytes:=by
 obtain⟨d,c,e,n,f⟩:=jj (r.bytes.drop r.pos);have b:=a.pos;rw[XZ]at c;unfold bW lY.num;split
 ·exact⟨a,sM,P,rfl⟩
 ·split
  ·split
   ·exact⟨⟨b,.inr (.inl rfl)⟩,sM,P,rfl⟩
   ·exact⟨⟨by show r.pos+_<=r.bytes.length;omega,.inl rfl⟩,by simp only;omega,by simp only;omega,rfl⟩
  ·exact⟨⟨b,by show _\/_;rcases n with n|n|n<;>simp[n]⟩,by simp,P,rfl⟩
def lY.Fit.ints{n:lY}(b:n.Fit):∀k,(bf k n).2.Fit/\(∀a∈(bf k n).1,aH a)/\(bf k n).1.length=k/\(bf k n).2.bytes=n.bytes
 |0=>⟨b,by simp[bf],rfl,rfl⟩
 |k+1=>by
  obtain⟨c,d,e,f⟩:=lY.Fit.ints b k;obtain⟨g,h,i⟩:=c.int;refine⟨g,?_,?_,i.trans f⟩
  ·intro a P
   rcases Q6.1 P with P|P
   ·exact d a P
   ·rw[List.mem_singleton]at P;subst P;exact h
  ·simp[bf,e]
def bJ(n:List Int):List UInt8:=(n.map nZ).flatten
def Gc(n:Int)(P:List Int):bJ (n::P)=nZ n++bJ P:=by simp[bJ]
def gY(n P:List Int):bJ (n++P)=bJ n++bJ P:=by simp[bJ]
structure aj where
 origin:Int
 seq:Int
 ay:Int
 aP:List Int
 aS:Int
 agg:Int
 field:Int
 op:Int
 arg:Int
 key:Int
deriving DecidableEq
structure aj.Ok (e:aj):Prop where
 origin:aH e.origin
 seq:aH e.seq
 ay:aH e.ay
 aP:∀x∈e.aP,aH x
 aS:aH e.aS
 agg:aH e.agg
 field:aH e.field
 op:aH e.op
 arg:aH e.arg
 key:aH e.key
def AL:aj:=⟨0,0,0,[],0,0,0,0,0,0⟩
def NT:AL.Ok:=by constructor<;>simp[AL,aH]
def kp(n:aj):List Int:=[n.origin,n.seq,n.ay,(n.aP.length:Int)]++n.aP++[n.aS,n.agg,n.field,n.op,n.arg,n.key]
def iB(n:aj):List UInt8×Int:=if 64<n.aP.length then([],3)else(bJ (kp n),0)
def lZ(c:lY):aj×lY:=
 (λP=>(λa=>(λb=>(λn=>(⟨P.1.getD 0 0,P.1.getD 1 0,P.1.getD 2 0,b.1,n.1.getD 0 0,n.1.getD 1 0,n.1.getD 2 0,n.1.getD 3 0,n.1.getD 4 0,n.1.getD 5 0⟩,n.2))
  (bf 6 b.2)) (bf a.1.toNat a.2)) (bW 64 P.2)) (bf 3 c)
def jf(n:List UInt8):aj×Int:=if kq (lZ ⟨n,0,0⟩).2≠0 then(AL,kq (lZ ⟨n,0,0⟩).2)else((lZ ⟨n,0,0⟩).1,0)
def eC(a:∀n∈t,aH n)(P:Nat):aH (t.getD P 0):=by
 rw[QQ]
 cases b:t[P]? with
 |none=>simp[aH]
 |some n=>exact a n (QZ b)
def NU{r:lY}(a:r.Fit):(lZ r).2.Fit/\(lZ r).1.Ok/\(lZ r).1.aP.length<=64:=by
 obtain⟨b,P,h,i⟩:=a.ints 3;obtain⟨c,j,k,l⟩:=b.count (m:=64) oM;obtain⟨d,e,f,m⟩:=c.ints (bW 64 (bf 3 r).2).1.toNat;obtain⟨g,n,o,p⟩:=d.ints 6;refine⟨g,⟨eC P 0,eC P 1,eC P 2,e,eC n 0,eC n 1,eC n 2,eC n 3,eC n 4,eC n 5⟩,?_⟩;show(bf _ _).1.length<=64;rw[f];omega
def Qp(n:List UInt8):(jf n).1.Ok/\(jf n).1.aP.length<=64:=by
 unfold jf;have:=NU (r:=⟨n,0,0⟩) ⟨Qj _,.inl rfl⟩;split
 ·exact⟨NT,by simp[AL]⟩
 ·exact this.2
def Px(n:Nat):List UInt8:=[UInt8.ofNat (n/16777216),UInt8.ofNat (n/65536),UInt8.ofNat (n/256),UInt8.ofNat n]
def l_(P:Int)(n:List UInt8):List UInt8:=[UInt8.ofNat P.toNat,UInt8.ofNat (n.length/65536),UInt8.ofNat (n.length/256),UInt8.ofNat n.length]++n
def fU(n:Int)(P:List UInt8):List UInt8:=l_ n P++Px (MJ (l_ n P)).toNat++[10]
def jK(n:Int)(P:List UInt8):List UInt8×Int:=if n<1\/255<n then([],2)else if 65536<P.length then([],5)else(fU n P,0)
structure Xe where
 kind:Int
 body:List UInt8
 n:Nat
 no:Int
def bj(n:List UInt8):Xe:=if n.length<4 then⟨0,[],0,4⟩else if n.getD 0 0=0 then⟨0,[],0,2⟩else
 (λP=>if 65536<P then⟨0,[],0,5⟩else if n.length<P+9 then⟨0,[],0,4⟩else
  if n.take (P+9)=fU (n.getD 0 0).toNat ((n.drop 4).take P)then⟨(n.getD 0 0).toNat,(n.drop 4).take P,P+9,0⟩else⟨0,[],0,6⟩)
  ((n.getD 1 0).toNat*65536+(n.getD 2 0).toNat*256+(n.getD 3 0).toNat)
def kJ(P:Int)(n:List UInt8):(fU P n).length=n.length+9:=by simp[fU,l_,Px]
def uJ(n:(bj x).no=0):(bj x).n<=x.length/\9<=(bj x).n/\(bj x).n=(bj x).body.length+9:=by
 unfold bj at n⊢;generalize(x.getD 1 0).toNat*65536+(x.getD 2 0).toNat*256+(x.getD 3 0).toNat=e at n⊢;split at n
 ·cases n
 rename_i P;rw[Zq P];split at n
 ·cases n
 rename_i a;rw[Zq a];simp only at n⊢;split at n
 ·cases n
 rename_i b;rw[Zq b];split at n
 ·cases n
 rename_i c;rw[Zq c];split at n
 ·rename_i d
  rw[Zx d];refine⟨by simp only;omega,by simp only;omega,by simp;omega⟩
 ·cases n
def Vt(a:List UInt8)(n:a.length=4)(P:Nat)(j:P<2 ^ 32):f_ a=P↔a=Px P:=by
 match a,n with
 |[b,c,d,e],_=>
  have k:=b.toNat_lt;have l:=c.toNat_lt;have m:=d.toNat_lt;have o:=e.toNat_lt;have i:f_ [b,c,d,e]=((b.toNat*256+c.toNat)*256+d.toNat)*256+e.toNat:=by simp[f_]
  rw[i];constructor
  ·intro n
   unfold Px;have f:∀(g:UInt8) (h:Nat),g.toNat=h % 256->g=UInt8.ofNat h:=λg h n=>UInt8.toNat_inj.1 (by rw[ZK,n]);rw[f b (P/16777216) oM,f c (P/65536) oM,f d (P/256) oM,f e P oM]
  ·intro n
   unfold Px at n;simp only[List.cons.injEq,and_true]at n;obtain⟨rfl,rfl,rfl,rfl⟩:=n;simp only[ZK];omega
def SP:∀{P:List UInt8},4<=P.length->P.take 4=[P.getD 0 0,P.getD 1 0,P.getD 2 0,P.getD 3 0]
 |x::a::b::c::d,_=>rfl
 |[],n=>by simp at n
 |[_],n=>by simp at n
 |[_,_],n=>by simp at n
 |[_,_,_],n=>by simp at n
def TI{b:List UInt8}{n:Nat}(l:n+9<=b.length)(m:(b.getD 1 0).toNat*65536+(b.getD 2 0).toNat*256+(b.getD 3 0).toNat=n)(o:n<=65536):
  b.take (n+9)=fU (b.getD 0 0).toNat ((b.drop 4).take n)↔((MJ (b.take (4+n))).toNat=f_ ((b.drop (4+n)).take 4)/\b.getD (8+n) 0=10):=by
 have g:((b.drop 4).take n).length=n:=by simp;omega
 have P:∀(a:UInt8) (c:Nat),a.toNat=c % 256->UInt8.ofNat c=a:=λa c d=>UInt8.toNat_inj.1 (by rw[ZK,d]);have p:=(b.getD 1 0).toNat_lt;have q:=(b.getD 2 0).toNat_lt;have r:=(b.getD 3 0).toNat_lt;have h:l_ (b.getD 0 0).toNat ((b.drop 4).take n)=b.take (4+n):=by
  unfold l_;rw[g,Qx,P (b.getD 0 0) _ (by have:=(b.getD 0 0).toNat_lt;omega),P (b.getD 1 0) (n/65536) oM,P (b.getD 2 0) (n/256) oM,P (b.getD 3 0) n oM];rw[List.take_add]
  congr 1
  exact(SP oM).symm
 have i:b.take (n+9)=b.take (4+n)++(b.drop (4+n)).take 4++[b.getD (8+n) 0]:=by
  rw[show n+9=(4+n)+(4+1) by omega,List.take_add,XQ,List.take_add (l:=b.drop (4+n)),List.drop_drop]
  congr 2
  rw[show 4+n+4=8+n by omega,QQ,Qq oM,Option.getD_some];rw[X4 oM]
  rfl
 unfold fU;rw[h,i];have j:((b.drop (4+n)).take 4).length=4:=by simp;omega
 have k:(MJ (b.take (4+n))).toNat<2 ^ 32:=(MJ (b.take (4+n))).isLt;rw[eq_comm (b:=f_ _),Vt _ j _ k];constructor
 ·intro d
  obtain⟨e,f⟩:=List.append_inj' d rfl;exact⟨List.append_cancel_left e,by simpa using f⟩
 ·rintro⟨e,f⟩
  rw[e,f]
def bR(n:List UInt8):List aj×Nat:=
 if P:(bj n).no=0/\(bj n).kind=1/\(jf (bj n).body).2=0 then((jf (bj n).body).1::(bR (n.drop (bj n).n)).1,(bj n).n+(bR (n.drop (bj n).n)).2)else([],0)
termination_by n.length
decreasing_by all_goals(have:=uJ P.1;simp;omega)
def Iu(n:(bj x).no=0/\(bj x).kind=1/\(jf (bj x).body).2=0):bR x=((jf (bj x).body).1::(bR (x.drop (bj x).n)).1,(bj x).n+(bR (x.drop (bj x).n)).2):=by
 rw[bR,dif_pos n]
def By(n:¬((bj x).no=0/\(bj x).kind=1/\(jf (bj x).body).2=0)):bR x=([],0):=by
 rw[bR,dif_neg n]
def NV(n:aH e):(nZ e).length<=9:=by
 unfold aH at n;have:=HN (u:=e.natAbs) oM;simp[nZ];omega
def fm:∀{l:List Int},(∀P∈l,aH P)->(bJ l).length<=9*l.length
 |[],_=>by simp[bJ]
 |n::l,a=>by
  rw[Gc,QX,Xq];have c:=NV (a n (QV ..));have d:=fm (l:=l) λP b=>a P (QJ _ b);omega
variable{o:aj}
def aj.Ok.ints(n:o.Ok)(b:o.aP.length<=4611686018427387904):∀a∈kp o,aH a:=by
 intro a P;simp only[kp,Q6,Q2,List.not_mem_nil,or_false]at P;rcases P with((rfl|rfl|rfl|rfl)|P)|(rfl|rfl|rfl|rfl|rfl|rfl)
 ·exact n.origin
 ·exact n.seq
 ·exact n.ay
 ·unfold aH;omega
 ·exact n.aP a P
 ·exact n.aS
 ·exact n.agg
 ·exact n.field
 ·exact n.op
 ·exact n.arg
 ·exact n.key
def LJ(n:o.Ok)(P:o.aP.length<=64):(bJ (kp o)).length<=666:=by
 have:=fm (n.ints oM);have a:(kp o).length=10+o.aP.length:=by simp[kp];omega
 omega
def wy(n:aj):List UInt8:=fU 1 (bJ (kp n))
def Iv(n:o.Ok)(P:o.aP.length<=64):(wy o).length<=675/\9<=(wy o).length:=by
 have:=LJ n P;unfold wy;rw[kJ];omega
def dX(n:List aj):List UInt8:=(n.map wy).flatten
def KN(n:aj)(P:List aj):dX (n::P)=wy n++dX P:=by simp[dX]
def IG(n:x.length<4):(bj x).no≠0:=by unfold bj;rw[Zx n];simp
def IH(n:(bj x).no≠0):bR x=([],0):=By λP=>n P.1
def It:bR []=([],0):=IH (IG sM)
def fR(n:aj):List UInt8×Int:=if(iB n).2≠0 then([],(iB n).2)else jK 1 (iB n).1
end Go.au
namespace Go.Proofs.YtjgjkeponbeekaaGreatDoor
open Go.au
def sJ:jF XP 237 5 1 1:=⟨kR,kR,dC⟩
end Go.Proofs.YtjgjkeponbeekaaGreatDoor
namespace Go.Proofs
open Go.Shelf
def Tryz.CY:Go.Shelf.Ren:=⟨λ|7=>223|10=>282|n=>n,λ|23=>141|26=>9|3=>236|28=>242|0=>0|27=>241|33=>319|4=>4|n=>n,λ|n=>n⟩
def Tryz.r_:Go.Proofs.SlLaysZ.n7 Tryz.prog Tryz.CY:={
 mixed:=by kernel_rfl
 f7:=⟨Tryz.f223.name,am,Tryz.func223.trans ac⟩
 f10:=⟨Tryz.f282.name,am,Tryz.func282.trans ac⟩
 t0:=Tryz.underlying0
 a0:=Tryz.isAgg0
 z0:=Tryz.sizeOf0
 v0:=Tryz.zeroValue0
 t4:=Tryz.underlying4
 a4:=Tryz.isAgg4
 z4:=Tryz.sizeOf4
 v4:=Tryz.zeroValue4
 t23:=Tryz.underlying141
 a23:=Tryz.isAgg141
 z23:=Tryz.sizeOf141
 v23:=Tryz.zeroValue141
 t26:=Tryz.underlying9
 a26:=Tryz.isAgg9
 z26:=Tryz.sizeOf9
 v26:=Tryz.zeroValue9
 t27:=Tryz.underlying241
 a27:=Tryz.isAgg241
 z27:=Tryz.sizeOf241
 v27:=Tryz.zeroValue241
 t28:=Tryz.underlying242
 a28:=Tryz.isAgg242
 z28:=Tryz.sizeOf242
 v28:=Tryz.zeroValue242
 t33:=Tryz.underlying319
 a33:=Tryz.isAgg319
 z33:=Tryz.sizeOf319
 v33:=Tryz.zeroValue319}
def Tryz.xj:Go.Shelf.Ren:=⟨λ|6=>222|8=>280|9=>281|11=>322|13=>218|12=>323|23=>276|24=>277|14=>349|15=>350|16=>351|17=>352|18=>353|19=>354|20=>355|21=>356|22=>357|25=>372|26=>317|27=>318|28=>373|29=>374|30=>375|31=>382|n=>n,λ|26=>9|28=>242|24=>271|0=>0|3=>3|37=>324|48=>365|50=>367|4=>4|40=>359|39=>358|45=>273|5=>5|9=>9|51=>400|55=>375|57=>426|58=>427|33=>319|n=>n,λ|n=>n⟩
def Tryz.Ry:Go.Proofs.SlLaysZ.n6 Tryz.prog Tryz.xj:={
 mixed:=by kernel_rfl
 f6:=⟨Tryz.f222.name,am,Tryz.func222.trans ac⟩
 f8:=⟨Tryz.f280.name,am,Tryz.func280.trans ac⟩
 f11:=⟨Tryz.f322.name,am,Tryz.func322.trans ac⟩
 t0:=Tryz.underlying0
 a0:=Tryz.isAgg0
 z0:=Tryz.sizeOf0
 v0:=Tryz.zeroValue0
 t24:=Tryz.underlying271
 a24:=Tryz.isAgg271
 z24:=Tryz.sizeOf271
 v24:=Tryz.zeroValue271
 t26:=Tryz.underlying9
 a26:=Tryz.isAgg9
 z26:=Tryz.sizeOf9
 v26:=Tryz.zeroValue9
 t28:=Tryz.underlying242
 a28:=Tryz.isAgg242
 z28:=Tryz.sizeOf242
 v28:=Tryz.zeroValue242
 i26:=by kernel_rfl}
def Tryz.NM:Go.Shelf.Ren:=⟨λ|6=>281|8=>218|9=>323|19=>276|20=>277|21=>349|22=>350|23=>351|24=>352|25=>353|26=>354|27=>355|28=>356|29=>357|36=>372|31=>317|32=>318|37=>373|38=>374|39=>375|41=>382|n=>n,λ|27=>271|29=>9|3=>3|32=>324|26=>271|0=>0|44=>365|46=>367|4=>4|36=>359|35=>358|41=>273|5=>5|9=>9|53=>400|57=>375|63=>426|64=>427|n=>n,λ|n=>n⟩
def Tryz.SC:Go.Proofs.SlLaysM.n6 Tryz.prog Tryz.NM:={
 mixed:=by kernel_rfl
 f6:=⟨Tryz.f281.name,am,Tryz.func281.trans ac⟩
 f8:=Tryz.func218.trans ac
 f9:=⟨Tryz.f323.name,am,Tryz.func323.trans ac⟩
 f19:=Tryz.func276.trans ac
 f20:=Tryz.func277.trans ac
 f21:=⟨Tryz.f349.name,am,Tryz.func349.trans ac⟩
 f22:=⟨Tryz.f350.name,am,Tryz.func350.trans ac⟩
 f23:=⟨Tryz.f351.name,am,Tryz.func351.trans ac⟩
 f24:=⟨Tryz.f352.name,am,Tryz.func352.trans ac⟩
 f25:=⟨Tryz.f353.name,am,Tryz.func353.trans ac⟩
 f26:=⟨Tryz.f354.name,am,Tryz.func354.trans ac⟩
 f27:=⟨Tryz.f355.name,am,Tryz.func355.trans ac⟩
 f28:=⟨Tryz.f356.name,am,Tryz.func356.trans ac⟩
 f29:=⟨Tryz.f357.name,am,Tryz.func357.trans ac⟩
 f31:=Tryz.func317.trans ac
 f32:=Tryz.func318.trans ac
 f36:=⟨Tryz.f372.name,am,Tryz.func372.trans ac⟩
 f37:=⟨Tryz.f373.name,am,Tryz.func373.trans ac⟩
 f38:=⟨Tryz.f374.name,am,Tryz.func374.trans ac⟩
 f39:=⟨Tryz.f375.name,am,Tryz.func375.trans ac⟩
 f41:=⟨Tryz.f382.name,am,Tryz.func382.trans ac⟩
 t0:=Tryz.underlying0
 a0:=Tryz.isAgg0
 z0:=Tryz.sizeOf0
 v0:=Tryz.zeroValue0
 t3:=Tryz.underlying3
 a3:=Tryz.isAgg3
 z3:=Tryz.sizeOf3
 v3:=Tryz.zeroValue3
 t4:=Tryz.underlying4
 a4:=Tryz.isAgg4
 z4:=Tryz.sizeOf4
 v4:=Tryz.zeroValue4
 t5:=Tryz.underlying5
 a5:=Tryz.isAgg5
 z5:=Tryz.sizeOf5
 v5:=Tryz.zeroValue5
 t9:=Tryz.underlying9
 a9:=Tryz.isAgg9
 z9:=Tryz.sizeOf9
 v9:=Tryz.zeroValue9
 t26:=Tryz.underlying271
 a26:=Tryz.isAgg271
 z26:=Tryz.sizeOf271
 v26:=Tryz.zeroValue271
 t27:=Tryz.underlying271
 a27:=Tryz.isAgg271
 z27:=Tryz.sizeOf271
 v27:=Tryz.zeroValue271
 t29:=Tryz.underlying9
 a29:=Tryz.isAgg9
 z29:=Tryz.sizeOf9
 v29:=Tryz.zeroValue9
 t32:=Tryz.underlying324
 a32:=Tryz.isAgg324
 z32:=Tryz.sizeOf324
 v32:=Tryz.zeroValue324
 t35:=Tryz.underlying358
 a35:=Tryz.isAgg358
 z35:=Tryz.sizeOf358
 v35:=Tryz.zeroValue358
 t36:=Tryz.underlying359
 a36:=Tryz.isAgg359
 z36:=Tryz.sizeOf359
 v36:=Tryz.zeroValue359
 t41:=Tryz.underlying273
 a41:=Tryz.isAgg273
 z41:=Tryz.sizeOf273
 v41:=Tryz.zeroValue273
 t44:=Tryz.underlying365
 a44:=Tryz.isAgg365
 z44:=Tryz.sizeOf365
 v44:=Tryz.zeroValue365
 t46:=Tryz.underlying367
 a46:=Tryz.isAgg367
 z46:=Tryz.sizeOf367
 v46:=Tryz.zeroValue367
 t53:=Tryz.underlying400
 a53:=Tryz.isAgg400
 z53:=Tryz.sizeOf400
 v53:=Tryz.zeroValue400
 t57:=Tryz.underlying375
 a57:=Tryz.isAgg375
 z57:=Tryz.sizeOf375
 v57:=Tryz.zeroValue375
 t63:=Tryz.underlying426
 a63:=Tryz.isAgg426
 z63:=Tryz.sizeOf426
 v63:=Tryz.zeroValue426
 t64:=Tryz.underlying427
 a64:=Tryz.isAgg427
 z64:=Tryz.sizeOf427
 v64:=Tryz.zeroValue427}
def Tryz.Iz:Go.Shelf.Ren:=⟨λ|137=>358|217=>376|266=>383|n=>n,λ|9=>9|5=>5|3=>3|n=>n,λ|n=>n⟩
def Tryz.RO:Go.Proofs.Lays.n137 Tryz.prog Tryz.Iz:={
 mixed:=by kernel_rfl
 f137:=Tryz.func358.trans ac
 f217:=Tryz.func376.trans ac
 f266:=Tryz.func383.trans ac
 t3:=Tryz.underlying3
 a3:=Tryz.isAgg3
 z3:=Tryz.sizeOf3
 v3:=Tryz.zeroValue3
 t5:=Tryz.underlying5
 a5:=Tryz.isAgg5
 z5:=Tryz.sizeOf5
 v5:=Tryz.zeroValue5
 t9:=Tryz.underlying9
 a9:=Tryz.isAgg9
 z9:=Tryz.sizeOf9
 v9:=Tryz.zeroValue9}
def Tryz.IA:Go.Shelf.Ren:=⟨λ|129=>277|n=>n,λ|53=>367|3=>3|4=>4|46=>324|5=>5|9=>9|n=>n,λ|n=>n⟩
def Tryz.R_:Go.Proofs.Lays.n129 Tryz.prog Tryz.IA:={
 mixed:=by kernel_rfl
 f129:=Tryz.func277.trans ac
 t3:=Tryz.underlying3
 a3:=Tryz.isAgg3
 z3:=Tryz.sizeOf3
 v3:=Tryz.zeroValue3
 t4:=Tryz.underlying4
 a4:=Tryz.isAgg4
 z4:=Tryz.sizeOf4
 v4:=Tryz.zeroValue4
 t5:=Tryz.underlying5
 a5:=Tryz.isAgg5
 z5:=Tryz.sizeOf5
 v5:=Tryz.zeroValue5
 t9:=Tryz.underlying9
 a9:=Tryz.isAgg9
 z9:=Tryz.sizeOf9
 v9:=Tryz.zeroValue9
 t46:=Tryz.underlying324
 a46:=Tryz.isAgg324
 z46:=Tryz.sizeOf324
 v46:=Tryz.zeroValue324
 t53:=Tryz.underlying367
 a53:=Tryz.isAgg367
 z53:=Tryz.sizeOf367
 v53:=Tryz.zeroValue367}
def Tryz.F_:Go.Shelf.Ren:=⟨λ|171=>213|243=>267|246=>315|283=>344|284=>345|285=>346|286=>347|129=>277|317=>368|318=>369|319=>370|320=>371|337=>380|338=>381|n=>n,λ|3=>3|9=>9|2=>2|4=>4|171=>422|0=>0|53=>367|37=>237|5=>5|173=>424|212=>441|51=>365|20=>20|213=>442|46=>324|232=>448|233=>449|n=>n,λ|17=>4|18=>6|19=>7|n=>n⟩
def Tryz.Qn:Go.Proofs.LaysM.n171 Tryz.prog Tryz.F_:={
 mixed:=by kernel_rfl
 f129:=Tryz.func277.trans ac
 f171:=Tryz.func213.trans ac
 f243:=Tryz.func267.trans ac
 f246:=Tryz.func315.trans ac
 f283:=Tryz.func344.trans ac
 f284:=Tryz.func345.trans ac
 f285:=Tryz.func346.trans ac
 f286:=Tryz.func347.trans ac
 f317:=Tryz.func368.trans ac
 f318:=Tryz.func369.trans ac
 f319:=Tryz.func370.trans ac
 f320:=Tryz.func371.trans ac
 f337:=Tryz.func380.trans ac
 f338:=Tryz.func381.trans ac
 t0:=Tryz.underlying0
 a0:=Tryz.isAgg0
 z0:=Tryz.sizeOf0
 v0:=Tryz.zeroValue0
 t2:=Tryz.underlying2
 a2:=Tryz.isAgg2
 z2:=Tryz.sizeOf2
 v2:=Tryz.zeroValue2
 t3:=Tryz.underlying3
 a3:=Tryz.isAgg3
 z3:=Tryz.sizeOf3
 v3:=Tryz.zeroValue3
 t4:=Tryz.underlying4
 a4:=Tryz.isAgg4
 z4:=Tryz.sizeOf4
 v4:=Tryz.zeroValue4
 t5:=Tryz.underlying5
 a5:=Tryz.isAgg5
 z5:=Tryz.sizeOf5
 v5:=Tryz.zeroValue5
 t9:=Tryz.underlying9
 a9:=Tryz.isAgg9
 z9:=Tryz.sizeOf9
 v9:=Tryz.zeroValue9
 t20:=Tryz.underlying20
 a20:=Tryz.isAgg20
 z20:=Tryz.sizeOf20
 v20:=Tryz.zeroValue20
 t37:=Tryz.underlying237
 a37:=Tryz.isAgg237
 z37:=Tryz.sizeOf237
 v37:=Tryz.zeroValue237
 t46:=Tryz.underlying324
 a46:=Tryz.isAgg324
 z46:=Tryz.sizeOf324
 v46:=Tryz.zeroValue324
 t51:=Tryz.underlying365
 a51:=Tryz.isAgg365
 z51:=Tryz.sizeOf365
 v51:=Tryz.zeroValue365
 t53:=Tryz.underlying367
 a53:=Tryz.isAgg367
 z53:=Tryz.sizeOf367
 v53:=Tryz.zeroValue367
 t171:=Tryz.underlying422
 a171:=Tryz.isAgg422
 z171:=Tryz.sizeOf422
 v171:=Tryz.zeroValue422
 t173:=Tryz.underlying424
 a173:=Tryz.isAgg424
 z173:=Tryz.sizeOf424
 v173:=Tryz.zeroValue424
 t212:=Tryz.underlying441
 a212:=Tryz.isAgg441
 z212:=Tryz.sizeOf441
 v212:=Tryz.zeroValue441
 t213:=Tryz.underlying442
 a213:=Tryz.isAgg442
 z213:=Tryz.sizeOf442
 t232:=Tryz.underlying448
 a232:=Tryz.isAgg448
 z232:=Tryz.sizeOf448
 v232:=Tryz.zeroValue448
 t233:=Tryz.underlying449
 a233:=Tryz.isAgg449
 z233:=Tryz.sizeOf449
 v233:=Tryz.zeroValue449
 g17:=by kernel_rfl
 g18:=by kernel_rfl
 g19:=by kernel_rfl
 i0:=by kernel_rfl
 i2:=by kernel_rfl
 i3:=by kernel_rfl
 i4:=by kernel_rfl
 i5:=by kernel_rfl
 i9:=by kernel_rfl
 i20:=by kernel_rfl
 i37:=by kernel_rfl
 i46:=by kernel_rfl
 i51:=by kernel_rfl
 i53:=by kernel_rfl
 i171:=by kernel_rfl
 i173:=by kernel_rfl
 i212:=by kernel_rfl
 i232:=by kernel_rfl
 i233:=by kernel_rfl
 m17:=by kernel_rfl
 m18:=by kernel_rfl
 m19:=by kernel_rfl}
def Tryz.DU:Go.Shelf.Ren:=⟨λ|7=>198|10=>250|n=>n,λ|23=>148|26=>3|3=>3|28=>299|0=>0|27=>298|33=>83|4=>4|n=>n,λ|n=>n⟩
def Tryz.Vn:Go.Proofs.SlLaysZI.n7 Tryz.prog Tryz.DU:={
 mixed:=by kernel_rfl
 f7:=⟨Tryz.f198.name,am,Tryz.func198.trans ac⟩
 f10:=⟨Tryz.f250.name,am,Tryz.func250.trans ac⟩
 t0:=Tryz.underlying0
 a0:=Tryz.isAgg0
 z0:=Tryz.sizeOf0
 v0:=Tryz.zeroValue0
 t4:=Tryz.underlying4
 a4:=Tryz.isAgg4
 z4:=Tryz.sizeOf4
 v4:=Tryz.zeroValue4
 t23:=Tryz.underlying148
 a23:=Tryz.isAgg148
 z23:=Tryz.sizeOf148
 v23:=Tryz.zeroValue148
 t26:=Tryz.underlying3
 a26:=Tryz.isAgg3
 z26:=Tryz.sizeOf3
 v26:=Tryz.zeroValue3
 t27:=Tryz.underlying298
 a27:=Tryz.isAgg298
 z27:=Tryz.sizeOf298
 v27:=Tryz.zeroValue298
 t28:=Tryz.underlying299
 a28:=Tryz.isAgg299
 z28:=Tryz.sizeOf299
 v28:=Tryz.zeroValue299
 t33:=Tryz.underlying83
 a33:=Tryz.isAgg83
 z33:=Tryz.sizeOf83
 v33:=Tryz.zeroValue83}
def Tryz.xI:Go.Shelf.Ren:=⟨λ|6=>197|8=>248|9=>249|11=>306|13=>218|12=>307|23=>276|24=>277|14=>331|15=>332|16=>333|17=>334|18=>335|19=>336|20=>337|21=>338|22=>339|25=>364|26=>317|27=>318|28=>365|29=>366|30=>278|31=>378|n=>n,λ|26=>3|28=>299|24=>42|0=>0|3=>3|37=>324|48=>365|50=>367|4=>4|40=>359|39=>358|45=>273|5=>5|9=>9|51=>400|55=>375|57=>426|58=>427|33=>83|n=>n,λ|n=>n⟩
def Tryz.Sr:Go.Proofs.SlLaysZI.n6 Tryz.prog Tryz.xI:={
 mixed:=by kernel_rfl
 f6:=⟨Tryz.f197.name,am,Tryz.func197.trans ac⟩
 f8:=⟨Tryz.f248.name,am,Tryz.func248.trans ac⟩
 f11:=⟨Tryz.f306.name,am,Tryz.func306.trans ac⟩
 t0:=Tryz.underlying0
 a0:=Tryz.isAgg0
 z0:=Tryz.sizeOf0
 v0:=Tryz.zeroValue0
 t24:=Tryz.underlying42
 a24:=Tryz.isAgg42
 z24:=Tryz.sizeOf42
 v24:=Tryz.zeroValue42
 t26:=Tryz.underlying3
 a26:=Tryz.isAgg3
 z26:=Tryz.sizeOf3
 v26:=Tryz.zeroValue3
 t28:=Tryz.underlying299
 a28:=Tryz.isAgg299
 z28:=Tryz.sizeOf299
 v28:=Tryz.zeroValue299
 i26:=by kernel_rfl}
def Tryz.NN:Go.Shelf.Ren:=⟨λ|5=>249|8=>218|7=>307|19=>276|20=>277|10=>331|11=>332|12=>333|13=>334|14=>335|15=>336|16=>337|17=>338|18=>339|30=>364|31=>317|32=>318|33=>365|34=>366|35=>278|40=>378|n=>n,λ|23=>42|25=>3|3=>3|32=>324|22=>42|0=>0|44=>365|46=>367|4=>4|36=>359|35=>358|41=>273|5=>5|9=>9|53=>400|57=>375|63=>426|64=>427|n=>n,λ|n=>n⟩
def Tryz.ve:Go.Proofs.SlLaysM.n5 Tryz.prog Tryz.NN:={
 mixed:=by kernel_rfl
 f5:=⟨Tryz.f249.name,am,Tryz.func249.trans ac⟩
 f7:=⟨Tryz.f307.name,am,Tryz.func307.trans ac⟩
 f8:=Tryz.func218.trans ac
 f10:=⟨Tryz.f331.name,am,Tryz.func331.trans ac⟩
 f11:=⟨Tryz.f332.name,am,Tryz.func332.trans ac⟩
 f12:=⟨Tryz.f333.name,am,Tryz.func333.trans ac⟩
 f13:=⟨Tryz.f334.name,am,Tryz.func334.trans ac⟩
 f14:=⟨Tryz.f335.name,am,Tryz.func335.trans ac⟩
 f15:=⟨Tryz.f336.name,am,Tryz.func336.trans ac⟩
 f16:=⟨Tryz.f337.name,am,Tryz.func337.trans ac⟩
 f17:=⟨Tryz.f338.name,am,Tryz.func338.trans ac⟩
 f18:=⟨Tryz.f339.name,am,Tryz.func339.trans ac⟩
 f19:=Tryz.func276.trans ac
 f20:=Tryz.func277.trans ac
 f30:=⟨Tryz.f364.name,am,Tryz.func364.trans ac⟩
 f31:=Tryz.func317.trans ac
 f32:=Tryz.func318.trans ac
 f33:=⟨Tryz.f365.name,am,Tryz.func365.trans ac⟩
 f34:=⟨Tryz.f366.name,am,Tryz.func366.trans ac⟩
 f35:=⟨Tryz.f278.name,am,Tryz.func278.trans ac⟩
 f40:=⟨Tryz.f378.name,am,Tryz.func378.trans ac⟩
 t0:=Tryz.underlying0
 a0:=Tryz.isAgg0
 z0:=Tryz.sizeOf0
 v0:=Tryz.zeroValue0
 t3:=Tryz.underlying3
 a3:=Tryz.isAgg3
 z3:=Tryz.sizeOf3
 v3:=Tryz.zeroValue3
 t4:=Tryz.underlying4
 a4:=Tryz.isAgg4
 z4:=Tryz.sizeOf4
 v4:=Tryz.zeroValue4
 t5:=Tryz.underlying5
 a5:=Tryz.isAgg5
 z5:=Tryz.sizeOf5
 v5:=Tryz.zeroValue5
 t9:=Tryz.underlying9
 a9:=Tryz.isAgg9
 z9:=Tryz.sizeOf9
 v9:=Tryz.zeroValue9
 t22:=Tryz.underlying42
 a22:=Tryz.isAgg42
 z22:=Tryz.sizeOf42
 v22:=Tryz.zeroValue42
 t23:=Tryz.underlying42
 a23:=Tryz.isAgg42
 z23:=Tryz.sizeOf42
 v23:=Tryz.zeroValue42
 t25:=Tryz.underlying3
 a25:=Tryz.isAgg3
 z25:=Tryz.sizeOf3
 v25:=Tryz.zeroValue3
 t32:=Tryz.underlying324
 a32:=Tryz.isAgg324
 z32:=Tryz.sizeOf324
 v32:=Tryz.zeroValue324
 t35:=Tryz.underlying358
 a35:=Tryz.isAgg358
 z35:=Tryz.sizeOf358
 v35:=Tryz.zeroValue358
 t36:=Tryz.underlying359
 a36:=Tryz.isAgg359
 z36:=Tryz.sizeOf359
 v36:=Tryz.zeroValue359
 t41:=Tryz.underlying273
 a41:=Tryz.isAgg273
 z41:=Tryz.sizeOf273
 v41:=Tryz.zeroValue273
 t44:=Tryz.underlying365
 a44:=Tryz.isAgg365
 z44:=Tryz.sizeOf365
 v44:=Tryz.zeroValue365
 t46:=Tryz.underlying367
 a46:=Tryz.isAgg367
 z46:=Tryz.sizeOf367
 v46:=Tryz.zeroValue367
 t53:=Tryz.underlying400
 a53:=Tryz.isAgg400
 z53:=Tryz.sizeOf400
 v53:=Tryz.zeroValue400
 t57:=Tryz.underlying375
 a57:=Tryz.isAgg375
 z57:=Tryz.sizeOf375
 v57:=Tryz.zeroValue375
 t63:=Tryz.underlying426
 a63:=Tryz.isAgg426
 z63:=Tryz.sizeOf426
 v63:=Tryz.zeroValue426
 t64:=Tryz.underlying427
 a64:=Tryz.isAgg427
 z64:=Tryz.sizeOf427
 v64:=Tryz.zeroValue427}
end Go.Proofs
namespace Go.au
open Go
def wrap_u64(n:Int):XG .u64 n=n % 18446744073709551616:=by
 unfold XG;simp[IntKind.signed,IntKind.bits]
variable{c6 x:List UInt8}{a c i p:Nat}{d:ZH}{h:Program}{B g q:TypeId}{m s:XR}{b:World}
def DJ(n:a<18446744073709551616):XG .u64 (a:Int)=a:=by rw[wrap_u64];omega
def Ku(t:jF h g q 1 1){L D:XN}(P:aO fx q L b (XM a) c i x)(C:Row fx 1 b D d c c6)(j:∀k,aO fx q (·=a) k (XM a) c i c6->ak (·=a) b k->k.heap.size=b.heap.size->m (XH c) k):
  aG h (Builtin.copy_ #[g,g] B #[.slice (XM a) c i,.slice d c p]) b m s:=by
 obtain⟨a1,a2,M,hz,N,a4,a5⟩:=t.info;have E:(h.info? q).map (·.size)=some 1:=by rw[M];simp[N]
 have l:=C.len;have O:=P.len dC;obtain⟨a6,D0,F,a7,a8⟩:=P.body;rcases F.cases with⟨u,_⟩|⟨Q,n,u,v,R,S,a9⟩
 ·cases u
 cases u
 by_cases H:c=0
 ·subst H
  have:c6=[]:=QW l.symm;subst this;have:x=[]:=QW O.symm;subst this;have o:=run_copy_none (P:=h) b g g B q (XM a) d 0 i 0 p t.under E (by rfl);refine aG.mk (v:=XH 0) o (j b ?_ (ak.refl _) rfl);have:=P.alone;exact⟨by obtain⟨cs,D,T,e,a3⟩:=this.body;exact⟨cs,λ_=>False,T,by rw[show cs=[]from e];rfl,λ_ P=>P.elim⟩,λe f=>by simpa[aF]using f.symm,λe f=>by rw[f];exact ax v⟩
 ·obtain⟨cs,w,U⟩:=C.aD
  have y:c6≠[]:=by rintro rfl;simp at l;exact H l
  obtain⟨e,z,V,_,_,W⟩:=U y dC;subst V;have r:cs.length=c:=by have:=w.length;rw[this,l];show _*1=_;omega
  have b0:n.size=i:=by rw[S];show i*1=i;omega
  have o:=run_copy_row (P:=h) b g g B q a 0 c i ⟨e,z,none⟩ c p n q cs t.under E v (by rw[r];simp[Nat.min_self]) (λX Y Z=>by rw[Addr.add_lit];exact W X Y Z) oM (w.Pz);rw[r]at o;have I:=setRow_heap b a n (n.toList.take 0++cs++n.toList.drop (0+c)).toArray q (0,0) v;refine aG.mk o (j _ ⟨⟨cs,λ_=>False,⟨⟨by rw[r];show c=c*1;omega,.inr ⟨a,i,_,rfl,Qj _,I,R,?_,?_,?_⟩⟩⟩,w.free,λ_ P=>P.elim⟩,λe f=>by simpa[aF]using f.symm,λe f=>by subst f;exact ax I⟩ ⟨rfl,rfl,rfl,by simp[World.setRow],λa0 hk y=>setRow_other b a a0 _ y⟩ (by simp[World.setRow]))
  ·rcases F.row.2 with⟨A,_⟩|⟨Q,J,K,A,_,_,_,hm,_⟩
   ·cases A
   ·cases A;exact hm
  ·show _=i*1
   simp;omega
  ·simp only[List.take_zero,List.nil_append,Xz]
   show(cs++n.toList.drop c).take (c*1)=cs;rw[Nat.mul_one,<-r,List.take_left]
end Go.au
namespace Go.Proofs.YtjgjkeponbeekaaGreatDoor
open Go.au
variable{e:Int}{a c:Nat}{d:ZH}{b:World}
def Ns(a:aH e):ZG 293 #[XH e] b (Ok λc d=>c= .tuple #[.int .u64 (e.natAbs:Int),.int .u8 (if e<0 then 16 else 0)]/\b=d):=by
 unfold aH at a;refine Hj (an.dec (λn=>?_) (λn=>?_))
 ·refine Ok.mk ⟨?_,rfl⟩
  rw[Zx n,wrap_u64,wrap_u64];have P:(0-e % 18446744073709551616) % 18446744073709551616=(e.natAbs:Int):=oM
  rw[P]
 ·refine Ok.mk ⟨?_,rfl⟩
  rw[Zq n,wrap_u64];have P:e % 18446744073709551616=(e.natAbs:Int):=oM
  rw[P]
def bits_Len64{n:Nat}{P:World}(c:n<18446744073709551616):ZG 277 #[.int .u64 (n:Int)] P (Ok λb a=>b= XH (Lib.bitLen n:Int)/\P=a):=by
 refine(Any.bits_Len64 Tryz.R_ (n:Int) P oM oM).mono ?_;rintro d a ⟨rfl,rfl⟩;exact Ok.mk ⟨by rw[Qx],rfl⟩
def TU(b:a<=8)(n:Bool):OZ .u8 (if n then 16 else 0) (XG .u8 (a:Int))=((UInt8.ofNat (a+if n then 16 else 0)).toNat:Int):=by
 have P:(List.range 9).all (λa=>OZ .u8 16 (XG .u8 (a:Int))==((UInt8.ofNat (a+16)).toNat:Int)&&OZ .u8 0 (XG .u8 (a:Int))==((UInt8.ofNat (a+0)).toNat:Int))=true:=by decide+kernel
 have:=ZY.1 P a (List.mem_range.2 oM);simp only[QK,beq_iff_eq]at this
 cases n
 ·exact this.2
 ·exact this.1
def AJ{g:List UInt8}{m:Int}{D:XN}(t:aH m)(f:Row fx 1 b D d a g)(K:a+9<=aK)(hD:∀e,D e->e<b.heap.size):
  ZG 240 #[.slice d a c,XH m] b (Ok (px fx 5 b (g++nZ m))):=by
 have k:=f.len;have l:=t;unfold aH at l;have L:=K;unfold aK at L;have u:m.natAbs<2 ^ 64:=oM
 have v:=HN u;have M:=xE _ u;refine JH (PC.ok (Ns t) ?_);rintro _ _ ⟨rfl,rfl⟩;refine⟨_,_,rfl,PC.ok (bits_Len64 oM) ?_⟩;rintro _ _ ⟨rfl,rfl⟩;have N:XG .i64 (Int.tdiv (XG .i64 ((Lib.bitLen m.natAbs:Int)+7)) 8)=((jC m.natAbs).length:Int):=by
  rw[wrap_i64 (x:=(Lib.bitLen m.natAbs:Int)+7) bc,Int.tdiv_eq_ediv_of_nonneg oM,wrap_i64 bc,M];omega
 have O:XG .i64 ((XG .i64 (((a:Nat):Int)+1))+((jC m.natAbs).length:Int))=((a+1+(jC m.natAbs).length:Nat):Int):=by
  rw[wrap_i64 (x:=((a:Nat):Int)+1) bc,wrap_i64 bc];omega
 refine⟨_,rfl,?_⟩;rw[N,O];refine TV sJ kR oM ba λw1 Q w b4=>?_;refine⟨_,_,_,rfl,Ku sJ Q (f.ah w) λR S T b5=>⟨_,rfl,?_⟩⟩;have y:ai b R:=w.new T λe f=>.inr oM;rw[show XG .u8 ((jC m.natAbs).length:Int)=XG .u8 ((jC m.natAbs).length:Int)from rfl];have z:=TU v (decide (m<0));simp only[Zk]at z;rw[z];refine Mg S sJ (x:=UInt8.ofNat ((jC m.natAbs).length+if m<0 then 16 else 0)) (D:=λ_=>False) ⟨rfl,trivial⟩ (λ_ h=>h.elim) (by rw[<-k];unfold aK;omega) (by rw[<-k];unfold maxLen;omega) λa4 c3 U V A W X b6=>?_;have Y:ai b U:=y.new W λe f=>.inr (by simp only[aF,Q1]at f;omega);have Z:a+1=(g++[UInt8.ofNat ((jC m.natAbs).length+if m<0 then 16 else 0)]).length:=by simp[k]
 generalize a8:g++[UInt8.ofNat ((jC m.natAbs).length+if m<0 then 16 else 0)]=o at A Z;have a0:g++nZ m=o++(jC m.natAbs).reverse:=by rw[<-a8,XQ];rfl
 rw[a0];generalize a9:(jC m.natAbs).length=P at v⊢;refine⟨_,_,_,rfl,λB C p E F H=>∃n:Nat,n<=P/\F=(P:Int)-1-n/\B=P-n/\p=a+1+n/\∃i,aO fx 5 i H C p E (o++(jC m.natAbs).reverse.take n)/\ai b H/\∀e,i e->b.heap.size<=e,
  ⟨_,0,Qj _,by rw[wrap_i64 bc];omega,rfl,rfl,V,by simpa using A,Y,λe f=>?_⟩,?_⟩
 ·rcases X e f with h|h|h
  ·omega
  ·exact h.elim
  ·have:=y.size;omega
 rintro B C p E F _ q ⟨n,hj,rfl,rfl,rfl,i,j,r,s⟩;refine an.dec (λh1=>?_) (λh1=>?_)
 ·have b7:n<P:=oM
  have b0:XG .i64 (8*((P:Int)-1-n))=((8*(P-1-n):Nat):Int):=by rw[wrap_i64 bc];omega
  rw[b0];have a1:∀x I,(do eqGuard .shr 367 x I (.int .u64 (m.natAbs:Int)) (XH ((8*(P-1-n):Nat):Int));binOp .shr 367 (.int .u64 (m.natAbs:Int)) (XH ((8*(P-1-n):Nat):Int)):Sem Value).run XP q=
    .ok (.int .u64 ((m.natAbs/256 ^(P-1-n):Nat):Int)) q:=λx I=>by
   have h0:=shift_shr .u64 .i64 (m.natAbs:Int) ((8*(P-1-n):Nat):Int) oM (by show _<=((64:Nat):Int);omega);have e1:(m.natAbs:Int)/2 ^(Int.toNat ((8*(P-1-n):Nat):Int))=((m.natAbs/256 ^(P-1-n):Nat):Int):=by
    have e2:(256:Nat) ^(P-1-n)=2 ^(8*(P-1-n)):=by rw[Nat.pow_mul]
    rw[Qx,e2];simp
   show(Op.shift .shr .u64 (m.natAbs:Int) .i64 ((8*(P-1-n):Nat):Int)).run XP q=_;rw[h0,e1]
   rfl
  refine aG.mk (a1 _ _) ⟨_,rfl,?_⟩;have a2:(jC m.natAbs).reverse[n]? =some (UInt8.ofNat (m.natAbs/256 ^(P-1-n))):=by
   rw[List.getElem?_reverse oM,a9];rw[P_ _ _ oM]
   congr 1
   refine UInt8.toNat_inj.1 ?_;rw[ZK,ZK];omega
  have a3:XG .u8 ((m.natAbs/256 ^(P-1-n):Nat):Int)=((UInt8.ofNat (m.natAbs/256 ^(P-1-n))).toNat:Int):=by
   rw[ZK];unfold XG;simp[IntKind.signed,IntKind.bits]
  rw[a3];have J:(o++(jC m.natAbs).reverse.take n).length=a+1+n:=by simp;omega
  refine Mg j sJ (x:=UInt8.ofNat (m.natAbs/256 ^(P-1-n))) (D:=λ_=>False) ⟨rfl,trivial⟩ (λ_ h=>h.elim) (by rw[J];unfold aK;omega) (by rw[J];unfold maxLen;omega) λa5 c5 w5 F5 b1 b2 b3 b8=>?_;refine⟨_,_,_,rfl,_,oM,n+1,oM,by rw[wrap_i64 bc];omega,rfl,oM,F5,?_,r.new b2 λe f=>.inr (s e (j.self e f)),λe f=>?_⟩
  ·rw[Qw,a2]
   simpa using b1
  ·rcases b3 e f with h|h|h
   ·exact s e h
   ·exact h.elim
   ·exact Xx r.size h
 ·obtain rfl:n=P:=oM
  rw[Qz be]at j;exact Ok.mk ⟨_,_,_,i,rfl,j,r,s⟩
end Go.Proofs.YtjgjkeponbeekaaGreatDoor
namespace Go.au
open Go
def Own.set{d:World}{i:TypeId}{k:Nat}{e:ZH}{l P:Nat}{cs:List Value}(o:Own d i k e l P cs){m:Nat}{p:Value}{q:XU}(F:m<cs.length){a b:Nat}(f:e=some ⟨a,b,none⟩)(g:∀n,Own n i k e l P (cs.set m p)->ak (λa=>aF e=some a) d n->n.heap.size=d.heap.size->q n):PS d ⟨a,b+m,none⟩ p q:=by
 have r:=o.row.1;rcases o.row.2 with⟨c,H⟩|⟨I,J,h,c,s,t,u,v,w,j⟩
 ·simp only[XX]at c
  rw[c.1]at f;cases f
 ·simp only[XX]at c
  obtain⟨x,-,y⟩:=c;subst x;subst y
  cases f
  rw[Xz];have z:m<h.size:=by
   have:=Zj List.length j;simp at this;omega
  refine PS.mk t z λn A B C=>g n ⟨⟨by simpa using r,.inr ⟨_,_,_,rfl,s,C,u,v,by simpa using w,?_⟩⟩⟩ (A.mono λa _ E=>by rw[E];rfl) B;rw[Array.toList_setIfInBounds,List.take_set,j]
def bD.nk{a:Type}{b:Nat}{n:a->List Value}{hl h1}{c:World}{D:XN}:∀{P:List a} {cs:List Value},bD (flat b n (λ_=>True) hl h1) c D P cs↔cs=P.flatMap n
 |[],cs=>by simp[bD]
 |x::P,cs=>by
  constructor
  ·rintro⟨e,f,rfl,⟨rfl,-⟩,d⟩
   rw[bD.nk.1 d];rfl
  ·rintro rfl
   exact⟨n x,P.flatMap n,rfl,⟨rfl,trivial⟩,bD.nk.2 rfl⟩
def qE{c:Type}{enc:c->List Value}{k:Nat}(d:∀P,(enc P).length=k){x':c}{v:Value}{a:Nat}(g:a<k):∀(e:List c) (n:Nat) (P:c),e[n]? =some P->enc x'=(enc P).set a v->(e.flatMap enc).set (n*k+a) v=(e.set n x').flatMap enc
 |[],n,P,b,_=>by simp at b
 |y::h,0,P,b,f=>by
  simp at b;subst b;rw[List.flatMap_cons,List.set_cons_zero,List.flatMap_cons,Nat.zero_mul,Xz,List.set_append_left _ _ (by rw[d];exact g),f]
 |y::h,n+1,P,b,f=>by
  have:=qE d g h n P (by simpa using b) f;have i:(n+1)*k+a-k=n*k+a:=by rw[X7];omega
  have j:k<=(n+1)*k+a:=by rw[X7];omega
  rw[List.flatMap_cons,List.set_cons_succ,List.flatMap_cons,List.set_append_right _ _ (by rw[d];exact j),d,i,this]
def kK{a:Type}{n:a->List Value}{b:Nat}(c:∀x,(n x).length=b):∀P:List a,(P.flatMap n).length=P.length*b
 |[]=>by simp
 |x::P=>by rw[List.flatMap_cons,QX,c,kK c P,Xq,X7,Nat.one_mul,Nat.add_comm]
variable{E a c i p:Nat}{f:XN}{d u:ZH}{h:Program}{j:Type}{B g q:TypeId}{v:Value}{m s:XR}{b:World}{y:XU}
def aO.set{k:Type}{n:k->List Value}{hl h1}{e:List k}(l:aO (flat a n (λ_=>True) hl h1) g f b d c i e){P j:Nat}{x x':k}(o:e[P]? =some x)(r:j<a)(s:n x'=(n x).set j v)(t:d=some ⟨p,E,none⟩)(m:∀h,aO (flat a n (λ_=>True) hl h1) g f h d c i (e.set P x')->ak (λp=>aF d=some p) b h->h.heap.size=b.heap.size->y h):PS b ⟨p,E+P*a+j,none⟩ v y:=by
 obtain⟨cs,D,u,w,z⟩:=l.body;have A:=bD.nk.1 w;subst A;have B:P<e.length:=(Qv.1 o).1;rw[Nat.add_assoc];refine u.set (m:=P*a+j) ?_ t λh C F q=>m h ⟨⟨_,D,C,bD.nk.2 (qE hl r e P x o s),z⟩,l.self,λp H=>by rw[q];exact l.aB p H⟩ F q;rw[kK hl];have:(P+1)*a<=e.length*a:=Q0 _ B;rw[X7]at this;omega
def wQ{P:Program}{w:World}(n:Nat)(b g c:TypeId)(h:TypeInfo)(a:Nat)(e:P.underlying b=some (.slice c))(f:P.info? c=some h)(d:Value)(i:Nat)(j:List Value)(k:w.ownsRow n c a d i j)(l:Nat):
  (Builtin.append_ #[b,b] g #[d,.slice none 0 l]).run P w= .ok d w:=by
 rcases k.2 with⟨rfl,rfl⟩|⟨q,m,o,rfl,_,_,p,_⟩
 ·simp[Builtin.append_,run_underlying e,sizeOf,typeInfo,f,Builtin.lenOf,Builtin.firstCells]
 ·simp[Builtin.append_,run_underlying e,sizeOf,typeInfo,f,Builtin.lenOf,Builtin.firstCells,p,storeCells]
def yU{k:jt j}{r:List j}{bytes:Nat}(t:aO k g f b d a c r)(v:jF h q g k.k bytes){D:XN}{e:List j}(w:Row k bytes b D u i e)(A:∀n,D n->n<b.heap.size/\aF d≠some n)(l:(r.length+e.length)*bytes<=aK)(C:r.length+e.length<=maxLen)(o:∀x P y z,aO k g z y x (a+i) P (r++e)->ak (λE=>aF d=some E) b y->(∀n,z n->f n\/D n\/b.heap.size<=n)->(∀n,aF x=some n->f n\/b.heap.size<=n)->m (.slice x (a+i) P) y):
  aG h (Builtin.append_ #[q,q] B #[.slice d a c,.slice u i p]) b m s:=by
 cases u with
 |some N=>exact ko t v w A l C o
 |none=>
  have F:e=[]:=by
   cases e with
   |nil=>rfl
   |cons H O=>obtain⟨n,I,Q,J,_⟩:=w.el 0 H rfl;cases J
  subst F;obtain rfl:i=0:=w.len;obtain⟨K,R,L,S,T,U,V⟩:=jF.info v;obtain⟨cs,W,M,X,Y⟩:=t.body;exact aG.mk (wQ (P:=h) (w:=b) 0 q B g K k.k v.under L (.slice d a c) a cs M.row p) (o d c b f (by simpa using t) (ak.refl _) (λn l=>.inl l) λn l=>.inl (t.self n l))
end Go.au
namespace Go.au
open Go
def Ki(n:UInt8):XG .i64 (n.toNat:Int)=n.toNat:=wrap_i64 (by have:=n.toNat_lt;unfold aH;omega)
def kU(n:UInt8):Nat:=if 16<n.toNat then n.toNat-16 else n.toNat
def Ky(P:UInt8):(XG .i64 (uG .u8 (P.toNat:Int) 16)<=8/\((P.toNat:Int)≠16)↔kU P<=8)/\(kU P<=8->XG .i64 (uG .u8 (P.toNat:Int) 16)=(kU P:Int)/\EC .u8 (P.toNat:Int) 16=if 16<P.toNat then 16 else 0):=by
 have a:(List.range 256).all (λn=>decide ((XG .i64 (uG .u8 (n:Int) 16)<=8/\((n:Int)≠16)↔(if 16<n then n-16 else n)<=8)/\((if 16<n then n-16 else n)<=8->XG .i64 (uG .u8 (n:Int) 16)=((if 16<n then n-16 else n:Nat):Int)/\EC .u8 (n:Int) 16=if 16<n then 16 else 0)))=true:=by decide+kernel
 have:=ZY.1 a P.toNat (List.mem_range.2 P.toNat_lt);exact XV this
def Kz{n d:Nat}(b:n<72057594037927936)(c:d<256):OZ .u64 (Ke .u64 (n:Int) 8) (XG .u64 (d:Int))=((n*256+d:Nat):Int):=by
 have P:Ke .u64 (n:Int) 8=((n*256:Nat):Int):=by
  unfold Ke;have:min (Int.toNat 8) (IntKind.bits .u64)=8:=dC
  rw[this,wrap_u64];have:((2:Int) ^ 8)=256:=dC
  rw[this];omega
 rw[P,DJ oM];unfold OZ;show XG .u64 ((BitVec.ofInt 64 ((n*256:Nat):Int)|||BitVec.ofInt 64 (d:Int)).toNat:Int)=_;have a:n*256|||d=n*256+d:=by
  have:=(Nat.shiftLeft_add_eq_or_of_lt (a:=n) (i:=8) (b:=d) oM).symm
  rwa [Nat.shiftLeft_eq]at this
 rw[BitVec.ofInt_natCast,BitVec.ofInt_natCast,BitVec.toNat_or,BitVec.toNat_ofNat,BitVec.toNat_ofNat,Nat.mod_eq_of_lt oM,Nat.mod_eq_of_lt oM,a,DJ oM]
variable{x:List UInt8}{a:Nat}{b7:UInt8}
def Dh(n:x[a]? =some b7):f_ (x.take (a+1))=f_ (x.take a)*256+b7.toNat:=by
 rw[Qw,n];exact HO _ _
def ob(n:List UInt8){j m:Nat}(P:j<=m):f_ (n.take j)<256 ^ m:=by
 have a:=LN (n.take j);have b:256 ^(n.take j).length<=256 ^ m:=Nat.pow_le_pow_right oM be;omega
def KA(n:¬kU b7<=8):rdNum (b7::x)=(5,0,0):=by
 unfold rdNum kU at*;simp only;rw[Zx oM]
def HQ(P:kU b7<=8)(n:x.length<kU b7):rdNum (b7::x)=(4,0,0):=by
 unfold rdNum kU at*;simp only;rw[Zq oM,Zx n]
def Nu(a:kU b7<=8)(n:¬x.length<kU b7)(P:(0<kU b7/\x.head? =some 0)\/(¬16<b7.toNat/\2 ^ 63<=f_ (x.take (kU b7)))\/(16<b7.toNat/\2 ^ 63<f_ (x.take (kU b7)))):rdNum (b7::x)=(5,0,0):=by
 unfold rdNum kU at*;simp only;rw[Zq oM,Zq n,Zx P]
def Bn(a:kU b7<=8)(n:¬x.length<kU b7)(P:¬((0<kU b7/\x.head? =some 0)\/(¬16<b7.toNat/\2 ^ 63<=f_ (x.take (kU b7)))\/(16<b7.toNat/\2 ^ 63<f_ (x.take (kU b7))))):
  rdNum (b7::x)=(0,if 16<b7.toNat then-(f_ (x.take (kU b7)):Int)else f_ (x.take (kU b7)),kU b7+1):=by
 unfold rdNum kU at*;simp only;rw[Zq oM,Zq n,Zq P]
end Go.au
namespace Go.Proofs.YtjgjkeponbeekaaGreatDoor
open Go.au
structure eM (w:World) (p:Nat) (F:XN) (r:lY):Prop where
 body:∃a n cap G,w.heap[p]? =some (.cells #[.slice a n cap,XH (r.pos:Int),XH r.uV] 337 (0,0))/\aO fx 5 G w a n cap r.bytes/\(∀b,G b->F b/\b≠p)
 self:F p
 aB:∀b,F b->b<w.heap.size
 fit:r.Fit
 dP:r.bytes.length<=aK
variable{l:Array Value}{K:Bool}{z:FuncId}{e:Int}{a4:List PanicEntry->XU}{x:List UInt8}{a c i:Nat}{f:XN}{d:ZH}{m s:XR}{b k:World}{a0:lY}
def eM.af{S c:XN}(P:eM b a c a0)(d:ak S b k)(g:∀n,c n->¬S n):eM k a c a0:=by
 obtain⟨i,j,e,G,l,m,h⟩:=P.body;exact⟨⟨i,j,e,G,d.get l (g _ P.self),m.af d (λn f=>g n (h n f).1),h⟩,P.self,λn f=>Qk (P.aB n f) d.size,P.fit,P.dP⟩
def eM.ah(n:eM b a f a0)(P:ai b k):eM k a f a0:=n.af P λ_ _ n=>n
def eM.eg{b w':World}{e r':lY}(g:eM b a f e){G:XN}(k:aO fx 5 G b d c i e.bytes)(h:∀n,G n->f n/\n≠a)(j:ak (·=a) b w')(l:w'.heap[a]? =some (.cells #[.slice d c i,XH (r'.pos:Int),XH r'.uV] 337 (0,0)))(P:r'.bytes=e.bytes)(m:r'.Fit):eM w' a f r':=
 ⟨⟨d,c,i,G,l,by rw[P];exact k.af j λn P=>(h n P).2,h⟩,g.self,λn P=>Qk (g.aB n P) j.size,m,by rw[P];exact g.dP⟩
def Df{D:XN}(P:Row fx 1 b D d a x)(o:∀n,D n->n<b.heap.size):
  ZG 164 #[.slice d a c] b (Ok λp j=>∃k l,p= XL k/\eM j k l ⟨x,0,0⟩/\ai b j/\∀n,l n->b.heap.size<=n):=by
 have q:=P.len;have r:=P.dP;refine Hf (yU (aO.nil b) sJ P (λn g=>⟨o n g,by simp[aF]⟩) be (by unfold aK at r;unfold maxLen;simp;omega) λe s h z t u _ v=>?_);refine⟨_,_,_,rfl,PA.mk λA i B w=>?_⟩;have m:ai b h:=u.mono λn _ P=>by simp[aF]at P
 have f:=t.alone;rw[List.nil_append]at f;have y:∀n,aF e=some n->b.heap.size<=n:=λn P=>(v n P).elim (λg=>g.elim) id;refine Ok.mk ⟨h.heap.size,λn=>n=h.heap.size\/aF e=some n,rfl,⟨⟨e,_,s,λn=>aF e=some n,w,f.ah i,λn P=>⟨.inr P,?_⟩⟩,.inl rfl,?_,⟨Qj _,.inl rfl⟩,by rw[<-q];omega⟩,m.then i,?_⟩
 ·have:=f.aB n P;omega
 ·rintro n (rfl|P)
  ·omega
  ·have:=f.aB n P;have:=i.size;omega
 ·rintro n (rfl|P)
  ·exact m.size
  ·exact y n P
def SZ(n:Int):List PanicEntry:=[{v:=.iface 372 (XH n),recovered:=false}]
def fA(n:K=true->m (.tuple #[]) b)(P:K=false->a4 (SZ e) b):
  PC XP 287 #[.bool K,XH e] b m a4:=by
 cases K
 ·refine xg (an.tt rfl ?_)
  exact aG.panics (v:=.iface 372 (XH e)) rfl (P rfl)
 ·exact xg (an.ff rfl (n rfl))
def TZ(b:World)(a:Nat)(c:XN)(n:lY)(no:Int)(f:XR)(g:Nat):XT:=λd P=>
 ((no=0/\eM P a c ⟨n.bytes,n.pos+g,n.uV⟩/\∃e,d= .returned e/\f e P)\/(no≠0/\d= .panicked (SZ no)/\∃h,eM P a c ⟨n.bytes,h,n.uV⟩))/\ak (·=a) b P/\P.heap.size=b.heap.size
def PC.red{no:Int}(d:ZG z l b (TZ b a f a0 no m c))(j:no=0->∀P n,eM n a f ⟨a0.bytes,a0.pos+c,a0.uV⟩->m P n->ak (·=a) b n->n.heap.size=b.heap.size->s P n)(k:no≠0->∀n,(∃o,eM n a f ⟨a0.bytes,o,a0.uV⟩)->ak (·=a) b n->n.heap.size=b.heap.size->a4 (SZ no) n):PC XP z l b s a4:=
 d.mono λq n ⟨d,h,i⟩=>by
  rcases d with⟨e,g,P,rfl,p⟩|⟨e,rfl,g⟩
  ·exact j e P n g p h i
  ·exact k e n g h i
def LQ{m:Nat}(c:eM b a f a0)(M:m<=2147483647):
  ZG 288 #[XL a,XH (m:Int)] b (TZ b a f a0 (if m<=a0.bytes.length-a0.pos then 0 else 4) (λx y=>∃d z,x= .slice d m z/\Row fx 1 y f d m ((a0.bytes.drop a0.pos).take m)) m):=by
 obtain⟨d,q,n,G,A,g,j⟩:=c.body;have N:=c.fit.pos;have B:=c.dP;have O:=g.len dC;have C:=g.jX;unfold aK at B;refine tq λr s=>?_;have h:ai b r:=s.af;have i:=h.get A id;have t:r.heap.size=b.heap.size:=by rw[s.heap]
 refine⟨a,0,rfl,d,q,n,ae i rfl,a,0,rfl,_,ae i rfl,fA (λP=>?_) (λP=>?_)⟩
 ·have P:=XV P
  rw[wrap_i64 bc]at P;refine⟨rfl,a,0,rfl,_,ae i rfl,a,0,rfl,PS.mk i sM λE F H e=>?_⟩;have I:XG .i64 ((a0.pos:Int)+(m:Int))=((a0.pos+m:Nat):Int):=by rw[wrap_i64 bc];omega
  rw[I]at e;have J:XG .i64 (((a0.pos+m:Nat):Int)-(m:Int))=(a0.pos:Int):=by rw[wrap_i64 bc];omega
  refine⟨a,0,rfl,d,q,n,ae e rfl,a,0,rfl,_,ae e rfl,a,0,rfl,_,ae e rfl,?_⟩;rw[J];refine⟨oM,oM,oM,λk u=>?_⟩;have v:ai E k:=u.af;have l:ak (·=a) b k:=((h.af).then F).ah v;have K:eM k a f ⟨a0.bytes,a0.pos+m,a0.uV⟩:=c.eg (r':=⟨a0.bytes,a0.pos+m,a0.uV⟩) g j l (v.get e id) rfl ⟨by show a0.pos+m<=a0.bytes.length;omega,c.fit.uV⟩;refine⟨.inl ⟨Zx oM,K,_,rfl,cH d a0.pos n 1,n-a0.pos,?_⟩,l,by rw[u.heap,H,t]⟩;simp only[Qx];rw[show a0.pos+m-a0.pos=m by omega];refine⟨rfl,?_⟩;have o:=(g.row (bytes:=1) dC ba).part (lo:=a0.pos) (hi:=a0.pos+m) (cap:=n) oM oM C;rw[show a0.pos+m-a0.pos=m by omega]at o;have L:(a0.bytes.take (a0.pos+m)).drop a0.pos=(a0.bytes.drop a0.pos).take m:=by rw[List.drop_take];congr 1;omega
  rw[L]at o;exact((o.af l λp P=>(j p P).2)).mono λp P=>(j p P).1
 ·intro _ _
  have P:=Xy P;rw[wrap_i64 bc]at P;have w:¬m<=a0.bytes.length-a0.pos:=oM
  refine⟨.inr ⟨by rw[Zq w];decide,by rw[Zq w],a0.pos,?_⟩,h.af,t⟩;exact c.ah h
def DK(M:eM b a f a0):
  ZG 230 #[XL a] b (TZ b a f a0 a0.num.1 (λt g=>t= XH a0.num.2.1) a0.num.2.2):=by
 have x:=M.fit.pos;have r:(a0.bytes.drop a0.pos).length=a0.bytes.length-a0.pos:=XZ ..;generalize s:a0.bytes.drop a0.pos=A at r;have Y:a0.num=rdNum A:=by unfold lY.num;rw[s]
 rw[Y];refine pT (PC.red (LQ (m:=1) M oM) ?_ ?_)
 rotate_left
 ·intro k y B u v
  have:¬1<=a0.bytes.length-a0.pos:=λe=>k (Zx e);rw[Zq this];have:A=[]:=QW oM;subst this;exact⟨.inr ⟨dC,rfl,B⟩,u,v⟩
 rintro k _ y N ⟨a1,c1,rfl,O⟩ u v;have Q:1<=a0.bytes.length-a0.pos:=by
  by_cases e:1<=a0.bytes.length-a0.pos
  ·exact e
  ·rw[Zq e]at k;cases k
 rw[s]at O
 match A,s,r with
 |[],s,r=>simp at r;omega
 |n::d,s,r=>
 have b1:d.length=a0.bytes.length-a0.pos-1:=by simp at r;omega
 have Z:a0.bytes.drop (a0.pos+1)=d:=by rw[<-List.drop_drop,s];rfl
 obtain⟨b5,o6,m,rfl,o,_,P⟩:=O.mr (i:=0) oM;obtain rfl:n=m:=by simpa using o
 obtain⟨C,a8⟩:=Ky n;refine⟨_,_,_,rfl,b5,o6,rfl,oM,oM,_,P,?_⟩;refine⟨λg=>kU n<=8/\g=y,?_,?_⟩
 ·have h:¬kU n<=8->∀g,g=y->TZ b a f a0 (rdNum (n::d)).1 (λt g=>t= XH (rdNum (n::d)).2.1) (rdNum (n::d)).2.2 (.panicked (SZ 5)) g:=by
   rintro p g rfl;rw[KA p];exact⟨.inr ⟨dC,rfl,a0.pos+1,N⟩,u,v⟩
  refine an.dec (λE=>fA (λc=>⟨rfl,?_,rfl⟩) (λc=>h ?_ _ rfl)) (λE=>fA (λc=>(by cases c)) λ_=>h ?_ _ rfl)
  ·exact C.1 ⟨E,by simpa using c⟩
  ·intro p
   have:=(C.2 p).2;simp only[bne_eq_false_iff_eq]at c;exact this c
  ·intro p
   exact E (C.2 p).1
 rintro _ y ⟨w,rfl⟩;obtain⟨p,a9⟩:=a8 w;rw[p];refine PC.red (LQ (m:=kU n) N oM) ?_ ?_
 rotate_left
 ·intro k l B F H
  have hn:¬kU n<=a0.bytes.length-(a0.pos+1):=λe=>k (Zx e);rw[Zq hn,HQ w oM];exact⟨.inr ⟨dC,rfl,B⟩,u.then F,H.trans v⟩
 rintro k _ l R ⟨a2,c2,rfl,z⟩ F H;have b2:kU n<=d.length:=by
  by_cases e:kU n<=a0.bytes.length-(a0.pos+1)
  ·omega
  ·simp only at k;rw[Zq e]at k;cases k
 change Row fx 1 l f a2 (kU n) ((a0.bytes.drop (a0.pos+1)).take (kU n))at z
 rw[Z]at z;have S:eM l a f ⟨a0.bytes,a0.pos+(kU n+1),a0.uV⟩:=by have:=R;rwa [show a0.pos+(kU n+1)=a0.pos+1+kU n by omega]
 have I:ak (·=a) b l:=u.then F;have J:=H.trans v;have h:((0<kU n/\d.head? =some 0)\/(¬16<n.toNat/\2 ^ 63<=f_ (d.take (kU n)))\/(16<n.toNat/\2 ^ 63<f_ (d.take (kU n))))->∀g,g=l->TZ b a f a0 (rdNum (n::d)).1 (λt g=>t= XH (rdNum (n::d)).2.1) (rdNum (n::d)).2.2 (.panicked (SZ 5)) g:=by
  rintro c g rfl;rw[Nu w oM c];exact⟨.inr ⟨dC,rfl,_,R⟩,I,J⟩
 refine⟨_,_,_,rfl,λg=>¬(0<kU n/\d.head? =some 0)/\g=l,?_,?_⟩
 ·refine an.dE (λe=>fA (λ_=>⟨rfl,λP=>oM,rfl⟩) (λc=>by cases c)) (λe=>?_)
  have x:0<kU n:=oM
  obtain⟨K,L,m,rfl,o,_,P⟩:=z.mr (i:=0) x;have T:d.head? =some m:=by
   rw[Xw,Zx x]at o;rw[List.head?_eq_getElem?];exact o
  refine⟨K,L,rfl,oM,oM,_,P,fA (λc=>⟨rfl,λP=>?_,rfl⟩) (λc=>h (.inl ⟨x,?_⟩) _ rfl)⟩
  ·rw[T]at P
   have:=P.2;simp only[Q1]at this;subst this;simp at c
  ·rw[T]
   have:(m.toNat:Int)=0:=by simpa using c
   exact Zj some (UInt8.toNat_inj.1 (by
                         have:m.toNat=0:=oM
                         rw[this];rfl))
 rintro _ l ⟨U,rfl⟩;refine⟨λV W i g=>∃j:Nat,j<=kU n/\i=j/\V=kU n-j/\g=l/\W=(f_ (d.take j):Int),⟨_,0,Qj _,rfl,rfl,rfl,rfl⟩,?_⟩;rintro V W i _ l ⟨j,hj,rfl,rfl,rfl,rfl⟩;refine an.dec (λh1=>?_) (λh1=>?_)
 ·have X:j<kU n:=oM
  obtain⟨K,L,m,rfl,o,_,P⟩:=z.mr (i:=j) X;rw[Xw,Zx X]at o;refine⟨K,L,rfl,oM,oM,_,P,_,oM,j+1,oM,aq oM,rfl,rfl,?_⟩;have b0:=ob d (j:=j) (m:=7) oM;rw[Kz (by
            have:(256:Nat) ^ 7=72057594037927936:=dC
            omega) m.toNat_lt,Dh o]
 ·obtain rfl:j=kU n:=oM
  have b0:=ob d (j:=kU n) (m:=8) oM;have b3:(256:Nat) ^ 8=18446744073709551616:=dC
  have b4:(2:Nat) ^ 63=9223372036854775808:=dC
  refine an.dE (λe=>?_) (λe=>?_)<;>rw[a9]at e
  ·have q:¬16<n.toNat:=by intro P;rw[Zx P]at e;cases e
   refine fA (λc=>⟨rfl,?_⟩) (λc=>h (.inr (.inl ⟨q,?_⟩)) _ rfl)
   ·have c:=XV c
    rw[Bn w oM (λP=>P.elim U λP=>P.elim (λP=>oM) λP=>q P.1),Zq q];exact⟨.inl ⟨rfl,S,_,rfl,by rw[wrap_i64 bc]⟩,I,J⟩
   ·have c:=Xy c
    omega
  ·have q:16<n.toNat:=by
    by_cases P:16<n.toNat
    ·exact P
    ·rw[Zq P]at e;exact Zz rfl e
   refine fA (λc=>⟨rfl,?_⟩) (λc=>h (.inr (.inr ⟨q,?_⟩)) _ rfl)
   ·have c:=XV c
    rw[Bn w oM (λP=>P.elim U λP=>P.elim (λP=>P.1 q) λP=>oM),Zx q];refine⟨.inl ⟨rfl,S,_,rfl,?_⟩,I,J⟩;have e1:XG .i64 (XG .u64 (0-(f_ (d.take (kU n)):Int)))= -(f_ (d.take (kU n)):Int):=by
     unfold XG;simp[IntKind.signed,IntKind.bits];omega
    rw[e1]
   ·have c:=Xy c
    omega
end Go.Proofs.YtjgjkeponbeekaaGreatDoor
namespace Go.au
open Go
def aE{n P:Type}[BEq n](b:List (n×P))(a:n):Option P:=match b with
 |[]=>none
 |(c,d)::e=>if a==c then some d else aE e a
def aI{n a:Type}[BEq n](e:List (n×a))(P:n)(b:a):List (n×a):=match e with
 |[]=>[(P,b)]
 |(c,f)::d=>if P==c then(P,b)::d else(c,f)::aI d P b
def bV{n P:Type}[BEq n](d:List (n×P))(a:n):List (n×P):=match d with
 |[]=>[]
 |(b,e)::c=>if a==b then c else(b,e)::bV c a
variable{e7:Array MapEntry}{a c:Nat}{h:Program}{I j:Type}{e8:TypeDesc}{B c4 g g6 q:TypeId}{e9:TypeInfo}{b8 v:Value}{m s:XR}{b k:World}{y:XU}
def qV[BEq j][LawfulBEq j](d:List (j×I))(P n:j)(f:I):aE (aI d P f) n=if n==P then some f else aE d n:=by
 induction d with
 |nil=>simp[aI,aE]
 |cons g k h=>
  obtain⟨b,l⟩:=g;unfold aI
  by_cases a:P==b
  ·rw[Zx a]
   have e:P=b:=by simpa using a
   subst e;unfold aE;split<;>rfl
  ·rw[Zq a]
   unfold aE
   by_cases c:n==b
   ·rw[Zx c]
    have e:n=b:=by simpa using c
    subst e;have:(n==P)=false:=by
     cases i:n==P
     ·rfl
     ·exfalso;apply a;have:n=P:=by simpa using i
      simp[this]
    rw[this];simp[aE,a]
   ·rw[Zq c];rw[h];simp[aE,c]
def Tidy{n P:Type}(a:List (n×P)):Prop:=(a.map (·.1)).Nodup
def PV[BEq j][LawfulBEq j]{P:List (j×I)}{n:j}{c:I}{a:j}:a∈(aI P n c).map (·.1)↔a=n\/a∈P.map (·.1):=by
 induction P with
 |nil=>simp[aI]
 |cons d g e=>
  obtain⟨b,i⟩:=d;unfold aI
  by_cases h:n==b
  ·rw[Zx h]
   have f:n=b:=by simpa using h
   subst f;simp
  ·rw[Zq h]
   simp only[QY,Q2,e];constructor
   ·rintro(h|h|h)<;>simp[h]
   ·rintro(h|h|h)<;>simp[h]
def Tidy.aI{n e:Type}[BEq n][LawfulBEq n]{b:List (n×e)}(P:Tidy b)(c:n)(g:e):Tidy (aI b c g):=by
 unfold Tidy at*
 induction b with
 |nil=>simp[au.aI]
 |cons h k i=>
  obtain⟨f,l⟩:=h;simp only[QY,List.nodup_cons]at P;unfold au.aI
  by_cases a:c==f
  ·rw[Zx a]
   have j:c=f:=by simpa using a
   subst j;simpa using P
  ·rw[Zq a]
   simp only[QY,List.nodup_cons];refine⟨λd=>?_,i P.2⟩;rcases PV.1 d with rfl|d
   ·simp at a
   ·exact P.1 d
def PW[BEq j][LawfulBEq j]{P:List (j×I)}{b a:j}(n:a∈(bV P b).map (·.1)):a∈P.map (·.1):=by
 induction P with
 |nil=>simp[bV]at n
 |cons c e d=>
  obtain⟨f,g⟩:=c;unfold bV at n;split at n
  ·simp only[QY,Q2];exact .inr n
  ·simp only[QY,Q2]at n⊢
   rcases n with n|n
   ·exact .inl n
   ·exact .inr (d n)
def Tidy.bV{n b:Type}[BEq n][LawfulBEq n]{a:List (n×b)}(P:Tidy a)(c:n):Tidy (bV a c):=by
 unfold Tidy at*
 induction a with
 |nil=>simp[au.bV]
 |cons d g e=>
  obtain⟨h,i⟩:=d;simp only[QY,List.nodup_cons]at P;unfold au.bV;split
  ·exact P.2
  ·simp only[QY,List.nodup_cons]
   exact⟨λf=>P.1 (PW f),e P.2⟩
def jT[BEq j][LawfulBEq j]{a:List (j×I)}{n:j}:aE a n=none↔n∉a.map (·.1):=by
 induction a with
 |nil=>simp[aE]
 |cons c f d=>
  obtain⟨b,g⟩:=c;unfold aE
  by_cases P:n==b
  ·have e:n=b:=by simpa using P
   rw[Zx P];subst e;simp
  ·rw[Zq P,d]
   have:n≠b:=by rintro rfl;simp at P
   simp[this]
def MN[BEq j][LawfulBEq j]{b:List (j×I)}(g:Tidy b)(P n:j):aE (bV b P) n=if n==P then none else aE b n:=by
 induction b with
 |nil=>simp[bV,aE]
 |cons h l i=>
  obtain⟨c,m⟩:=h;have e:=g;simp only[Tidy,QY,List.nodup_cons]at e;unfold bV
  by_cases d:P==c
  ·rw[Zx d]
   have f:P=c:=by simpa using d
   subst f
   by_cases a:n==P
   ·have:n=P:=by simpa using a
    subst this;simp only[beq_self_eq_true,if_true];exact jT.2 e.1
   ·rw[Zq a]
    simp[aE,a]
  ·rw[Zq d]
   unfold aE
   by_cases a:n==c
   ·have f:n=c:=by simpa using a
    subst f;have:(n==P)=false:=by
     cases k:n==P
     ·rfl
     ·exfalso;apply d;have:n=P:=by simpa using k
      simp[this]
    simp[this]
   ·rw[Zq a,Zq a];exact i e.2
def bT[BEq j][LawfulBEq j]{P:List (j×I)}{a:j}{b:I}(n:aE P a=some b):(a,b)∈P:=by
 induction P with
 |nil=>simp[aE]at n
 |cons c h d=>
  obtain⟨e,i⟩:=c;unfold aE at n;split at n
  ·rename_i f
   have g:a=e:=by simpa using f
   subst g
   cases n
   simp
  ·exact QJ _ (d n)
def eQ[BEq j][LawfulBEq j]{n:List (j×I)}{a:j}{b:I}{P:j×I}(h:P∈aI n a b):P=(a,b)\/P∈n:=by
 induction n with
 |nil=>simpa[aI]using h
 |cons c e d=>
  obtain⟨f,g⟩:=c;unfold aI at h;split at h
  ·rcases Q2.1 h with h|h
   ·exact .inl h
   ·exact .inr (QJ _ h)
  ·rcases Q2.1 h with h|h
   ·exact .inr (h▸QV ..)
   ·rcases d h with h|h
    ·exact .inl h
    ·exact .inr (QJ _ h)
def fP[BEq j][LawfulBEq j]{n:List (j×I)}{a:j}{P:j×I}(h:P∈bV n a):P∈n:=by
 induction n with
 |nil=>simp[bV]at h
 |cons b d c=>
  obtain⟨e,f⟩:=b;unfold bV at h;split at h
  ·exact QJ _ h
  ·rcases Q2.1 h with h|h
   ·exact h▸QV ..
   ·exact QJ _ (c h)
def qh[BEq j][LawfulBEq j]{n:List (j×I)}(a:Tidy n){k:j}{v:I}(b:(k,v)∈n):aE n k=some v:=by
 induction n with
 |nil=>cases b
 |cons c g d=>
  obtain⟨e,h⟩:=c;simp only[Tidy,QY,List.nodup_cons]at a;unfold aE;rcases Q2.1 b with P|P
  ·cases P;simp
  ·have:k≠e:=by
    intro f;exact a.1 (Xk.2 ⟨(k,v),P,f⟩)
   rw[Zq (by simpa using this)];exact d a.2 P
def wW[BEq j](n:List (j×I))(P:j)(a:I):(aI n P a).length<=n.length+1:=by
 induction n with
 |nil=>simp[aI]
 |cons b c d=>
  unfold aI;split
  ·simp
  ·simp;omega
def Ht[BEq j](n:List (j×I))(P:j):(bV n P).length<=n.length:=by
 induction n with
 |nil=>simp[bV]
 |cons a b c=>
  unfold bV;split
  ·simp
  ·simp;omega
def eW{n P a:Type}(b:P->a->Prop):List (n×P)->List (n×a)->Prop
 |[],[]=>True
 |(c,d)::e,(f,g)::h=>c=f/\b d g/\eW b e h
 |_,_=>False
def eW.keys{a b c:Type}{e:b->c->Prop}:∀{n:List (a×b)} {P:List (a×c)},eW e n P->n.map (·.1)=P.map (·.1)
 |[],[],_=>rfl
 |(f,g)::n,(h,i)::P,d=>by simp[d.1,eW.keys d.2.2]
def eW.mono{d e f:Type}{g h:e->f->Prop}:∀{n:List (d×e)} {P:List (d×f)},eW g n P->(∀a b,g a b->h a b)->eW h n P
 |[],[],_,_=>trivial
 |(j,a)::n,(k,b)::P,c,i=>⟨c.1,i _ _ c.2.1,eW.mono c.2.2 i⟩
def eW.aE{P e f:Type}[BEq P]{g:e->f->Prop}(n:P):∀{a:List (P×e)} {b:List (P×f)},eW g a b->
  (au.aE a n=none/\au.aE b n=none)\/∃c d,au.aE a n=some c/\au.aE b n=some d/\g c d
 |[],[],_=>.inl ⟨rfl,rfl⟩
 |(i,c)::a,(m,d)::b,j=>by
  obtain⟨rfl,k,l⟩:=j;unfold au.aE
  by_cases h:n==i
  ·simp only[h,if_true];exact .inr ⟨c,d,rfl,rfl,k⟩
  ·simp only[h];exact eW.aE n l
def eW.aI{n P a:Type}[BEq n]{R:P->a->Prop}{b:n}{f:P}{g:a}(c:R f g):∀{d:List (n×P)} {e:List (n×a)},eW R d e->eW R (au.aI d b f) (au.aI e b g)
 |[],[],_=>⟨rfl,c,trivial⟩
 |(j,m)::d,(o,p)::e,k=>by
  obtain⟨rfl,l,h⟩:=k;unfold au.aI
  by_cases i:b==j
  ·simp only[i,if_true];exact⟨rfl,c,h⟩
  ·simp only[i];exact⟨rfl,l,eW.aI c h⟩
def eW.bV{n c d:Type}[BEq n]{e:c->d->Prop}{P:n}:∀{a:List (n×c)} {b:List (n×d)},eW e a b->eW e (au.bV a P) (au.bV b P)
 |[],[],_=>trivial
 |(h,k)::a,(l,m)::b,i=>by
  obtain⟨rfl,j,f⟩:=i;unfold au.bV
  by_cases g:P==h
  ·simp only[g,if_true];exact f
  ·simp only[g];exact⟨rfl,j,eW.bV f⟩
def eW.WK{e f i:Type}{g:f->i->Prop}{j:e}{k:f}:∀{h b:List (e×f)} {a:List (e×i)},eW g (h++(j,k)::b) a->∃c P d,a=c++(j,P)::d/\g k P/\eW g (h++b) (c++d)
 |[],b,(l,P)::a,n=>⟨[],P,a,by rw[n.1];rfl,n.2.1,n.2.2⟩
 |(q,r)::h,b,(l,m)::a,n=>by
  obtain⟨c,P,d,rfl,o,p⟩:=eW.WK n.2.2;exact⟨(l,m)::c,P,d,rfl,o,n.1,n.2.1,p⟩
def eW.length{n P a:Type}{d:P->a->Prop}{b:List (n×P)}{c:List (n×a)}(e:eW d b c):b.length=c.length:=by
 have:=Zj List.length e.keys;simpa using this
structure bB {κ:Type} (w:World) (r:Nat) (enc:κ->Value) (l:List (κ×Value)):Prop where
 at':∃es clock,w.heap[r]? =some (.map es clock)/\es.toList.map (λe=>(e.key,e.val))=l.map (λp=>(enc p.1,p.2))/\
  (∀e∈es.toList,e.born<clock)/\(es.toList.map (·.born)).Nodup
 tidy:Tidy l
def bB.af{S:XN}{P:j->Value}{d:List (j×Value)}(e:bB b a P d)(f:ak S b k)(g:¬S a):bB k a P d:=by
 obtain⟨h,n,i,c⟩:=e.at';exact⟨⟨h,n,f.get i g,c⟩,e.tidy⟩
def bB.ah{n:j->Value}{P:List (j×Value)}(c:bB b a n P)(d:ai b k):bB k a n P:=c.af d id
def bB.lt{n:j->Value}{d:List (j×Value)}(e:bB b a n d):a<b.heap.size:=by
 obtain⟨g,P,f,c⟩:=e.at';exact ax f
def bB.new{n:j->Value}(P:b.heap[a]? =some (.map #[] 0)):bB b a n ([]:List (j×Value)):=
 ⟨⟨_,_,P,rfl,sM,sM⟩,by simp[Tidy]⟩
def mj{n:Type}[BEq n](b:List (n×Value))(P:n)(a:Nat):Option (Nat×Value):=match b with
 |[]=>none
 |(c,d)::e=>if P==c then some (a,d)else mj e P (a+1)
def Bg{a:Type}[BEq a][LawfulBEq a]{n:a->Value}{g:TypeDesc}(h:∀i j,Instr.sameNow g (n i) (n j)=some (i==j))(b:a):
  ∀(c:List MapEntry) (d:List (a×Value)) (f:Nat),c.map (λe=>(e.key,e.val))=d.map (λk=>(n k.1,k.2))->Instr.findNow g (n b) c f=some (mj d b f)
 |[],[],_,_=>rfl
 |[],_::_,_,P=>by simp at P
 |_::_,[],_,P=>by simp at P
 |e::c,(l,q)::d,f,P=>by
  simp only[QY,List.cons.injEq,Prod.mk.injEq]at P;obtain⟨⟨m,o⟩,p⟩:=P;unfold Instr.findNow mj;rw[m,h]
  cases r:b==l
  ·simp only[Bool.false_eq_true,if_false]
   exact Bg h b c d (f+1) p
  ·simp[o]
def FF[BEq j]{n:j->Value}(a:∀b c,Instr.sameNow e8 (n b) (n c)=none)(d:j)(P:MapEntry)(e:List MapEntry)(f:j)(g:P.key=n f)(h:Nat):Instr.findNow e8 (n d) (P::e) h=none:=by
 unfold Instr.findNow;rw[g,a]
def ss{a:Type}[BEq a]{h:Program}{i:TypeId}{n:a->Value}{b:World}(j:∀k l,(Op.equal i (n k) (n l)).run h b= .ok (k==l) b)(c:a):
  ∀(d:List MapEntry) (f:List (a×Value)) (g:Nat),d.map (λe=>(e.key,e.val))=f.map (λm=>(n m.1,m.2))->(Instr.findAsking i (n c) d g).run h b= .ok (mj f c g) b
 |[],[],_,_=>rfl
 |[],_::_,_,P=>by simp at P
 |_::_,[],_,P=>by simp at P
 |e::d,(o,s)::f,g,P=>by
  simp only[QY,List.cons.injEq,Prod.mk.injEq]at P;obtain⟨⟨p,q⟩,r⟩:=P;unfold Instr.findAsking mj;rw[p];simp only[Sem.run_bind,j,Result.andThen_ok]
  cases t:c==o
  ·simpa using ss j c d f (g+1) r
  ·simp[q]
structure im {κ:Type} [BEq κ] (P:Program) (kt:TypeId) (enc:κ->Value):Prop where
 find:∀(k:κ) (es:List MapEntry) (l:List (κ×Value)) (w:World),es.map (λe=>(e.key,e.val))=l.map (λp=>(enc p.1,p.2))->(Instr.findKey kt (enc k) es).run P w= .ok (mj l k 0) w
 check:∀k w e,(Instr.checkKey e 10000 kt (enc k)).run P w= .ok () w
 same:∀n a,Instr.sameBits (n+1) (enc a) (enc a)=true
 inj:∀{a b},enc a=enc b->a=b
def im.flat[BEq j][LawfulBEq j]{n:j->Value}(l:h.underlying g=some e8)(f:∀P a,Instr.sameNow e8 (n P) (n a)=some (P==a))(m:∀i b c d,(Instr.checkKey d (i+1) g (n b)).run h c= .ok () c)(e:∀i P,Instr.sameBits (i+1) (n P) (n P)=true):im h g n:=
 ⟨λb o p c q=>by simp[Instr.findKey,run_underlying l,Bg f b o p 0 q],λb c d=>m 9999 b c d,e,λ{P a} d=>by
  have k:=f P a;rw[d,f a a]at k;simpa using k.symm⟩
def im.struct[BEq j]{n:j->Value}(o:h.underlying g=some e8)(q:∀P a,Instr.sameNow e8 (n P) (n a)=none)(r:∀P a b,(Op.equal g (n P) (n a)).run h b= .ok (P==a) b)(s:∀e b f,(Instr.checkKey f 10000 g (n e)).run h b= .ok () b)(c:∀t P,Instr.sameBits (t+1) (n P) (n P)=true)(l:∀{P a},n P=n a->P=a):im h g n:=by
 refine⟨λe i d b k=>?_,s,c,l⟩
 cases i with
 |nil=>
  cases d with
  |nil=>simp[Instr.findKey,run_underlying o,Instr.findNow,mj]
  |cons m d=>simp at k
 |cons f i=>
  cases d with
  |nil=>simp at k
  |cons m d=>
   have p:=k;simp only[QY,List.cons.injEq,Prod.mk.injEq]at p;simp only[Instr.findKey,Sem.run_bind,run_underlying o,Result.andThen_ok,FF q e f i m.1 p.1.1];exact ss (λP a=>r P a b) e (f::i) (m::d) 0 k
def wN[BEq j][LawfulBEq j](P:List (j×Value))(a:j):∀n,(mj P a n).map (·.2)=aE P a:=by
 induction P with
 |nil=>intro n;rfl
 |cons b d c=>
  intro n;obtain⟨e,f⟩:=b;unfold mj aE;split
  ·rfl
  ·exact c (n+1)
def ji[BEq j][LawfulBEq j]{n:j->Value}(f:im h g n)(P:j)(a:List MapEntry)(b:List (j×Value))(i:a.map (λd=>(d.key,d.val))=b.map (λe=>(n e.1,e.2)))(c:World):
  (Instr.findKey g (n P) a).run h c= .ok (mj b P 0) c:=by
 exact f.find P a b c i
def cZ(n:b.heap[a]? =some (.map e7 c)):(getObj a).run h b= .ok (.map e7 c) b:=by
 simp[getObj,Sem.run,n]
def de[BEq j][LawfulBEq j]{n:j->Value}(c:im h g n)(a:Bool)(b:j)(P:World):(Instr.checkKey a 10000 g (n b)).run h P= .ok () P:=by
 exact c.check b P a
def Cw(P:h.info? g=some e9)(a:e9.zero=some v)(n:World):(zeroValue g).run h n= .ok v n:=by
 simp[zeroValue,typeInfo,P,a]
structure lH (P:Program) (t kt vt:TypeId) (z:Value):Prop where
 under:P.underlying t=some (.map kt vt)
 zero:(P.info? vt).bind (·.zero)=some z
def lH.LM(b:lH h g q B v)(P:World):(zeroValue B).run h P= .ok v P:=by
 have n:=b.zero
 cases a:h.info? B with
 |none=>rw[a]at n;cases n
 |some c=>rw[a]at n;exact Cw a n P
def dK[BEq j][LawfulBEq j]{n:j->Value}(i:lH h g q B v)(k:im h q n){P:List (j×Value)}(m:bB b a n P)(c:j)(e:Bool):
  (Instr.lookup g (.map (some a)) (n c) e).run h b= .ok (if e then .tuple #[(aE P c).getD v,.bool (aE P c).isSome]else(aE P c).getD v) b:=by
 obtain⟨o,f,p,r,_⟩:=m.at';have s:=ji k c o.toList P r b;have d:=wN P c 0;simp only[Instr.lookup,Sem.run_bind,run_underlying i.under,Result.andThen_ok,cZ p,de k,s,Sem.run_pure]
 cases l:mj P c 0 with
 |none=>rw[l]at d;simp only[Option.map_none]at d;rw[<-d];cases e<;>simp[i.LM]
 |some t=>rw[l]at d;simp only[Option.map_some]at d;rw[<-d];cases e<;>simp
def yT[BEq j][LawfulBEq j]{n:j->Value}(d:lH h g q B v)(e:im h q n){c:List (j×Value)}(f:bB b a n c){P:j}(i:m ((aE c P).getD v) b):aG h (Instr.lookup g (.map (some a)) (n P) false) b m s:=aG.mk (dK d e f P false) i
def iJ[BEq j][LawfulBEq j]{enc:j->Value}(P:lH h g q B v)(c:im h q enc){n:List (j×Value)}(d:bB b a enc n){k:j}(e:m (.tuple #[(aE n k).getD v,.bool (aE n k).isSome]) b):aG h (Instr.lookup g (.map (some a)) (enc k) true) b m s:=aG.mk (dK P c d k true) e
def ak.setObj(n:World)(P:Nat)(a:Obj):ak (·=P) n {n with heap:=n.heap.setIfInBounds P a}:=
 ⟨rfl,rfl,rfl,sM,λc d b=>by simp[Array.getElem?_setIfInBounds,Ne.symm b]⟩
def nj[BEq j][LawfulBEq j]{a:List (j×Value)}{b:j}:∀{n P:Nat} {e:Value},mj a b n=some (P,e)->n<=P/\P-n<a.length/\a[P-n]? =some (b,e)/\∀g,aI a b g=a.set (P-n) (b,g)/\bV a b=a.eraseIdx (P-n):=by
 induction a with
 |nil=>intro n P e c;simp[mj]at c
 |cons l v m=>
  intro n P e c;obtain⟨o,g⟩:=l;unfold mj at c;split at c
  ·rename_i f
   cases c
   have p:b=o:=by simpa using f
   subst p;simp[aI,bV]
  ·rename_i f
   obtain⟨w,h,i,k⟩:=m c;obtain⟨d,rfl⟩:∃d,P=n+1+d:=⟨P-(n+1),oM⟩
   have q:n+1+d-n=d+1:=oM
   have r:n+1+d-(n+1)=d:=oM
   rw[r]at h i k;rw[q];refine⟨oM,by simpa using h,by simpa using i,λs=>?_⟩;obtain⟨t,u⟩:=k s;unfold aI bV;rw[Zq f,Zq f];simp[t,u]
def qX[BEq j][LawfulBEq j]{n:List (j×Value)}{P:j}:∀{b:Nat},mj n P b=none->(∀c,aI n P c=n++[(P,c)])/\bV n P=n:=by
 induction n with
 |nil=>intro b _;simp[aI,bV]
 |cons e i f=>
  intro b a;obtain⟨k,c⟩:=e;unfold mj at a;split at a
  ·cases a
  ·rename_i d
   obtain⟨g,h⟩:=f a;refine⟨λl=>?_,?_⟩
   ·unfold aI;rw[Zq d,g];rfl
   ·unfold bV;rw[Zq d,h]
def map_eraseIdx{b c:Type}(a:b->c):∀(n:List b) (P:Nat),(n.eraseIdx P).map a=(n.map a).eraseIdx P
 |[],_=>by simp
 |x::n,0=>rfl
 |x::n,P+1=>by simp[map_eraseIdx a n P]
def cC(n:World)(P:Nat)(a:Obj)(b:P<n.heap.size):({n with heap:=n.heap.setIfInBounds P a}:World).heap[P]? =some a:=by simp[b]
def dO(P:b.heap[a]? =some (.map e7 c))(n:Obj):(setObj a n).run h b= .ok () {b with heap:=b.heap.setIfInBounds a n}:=by
 simp[setObj,Sem.run,P]
def cV[BEq j][LawfulBEq j]{enc:j->Value}(F:lH h g q B v)(s:im h q enc){o:List (j×Value)}(x:bB b a enc o){k:j}(H:∀t,bB t a enc (aI o k b8)->ak (·=a) b t->t.heap.size=b.heap.size->y t):kr h (Instr.mapUpdate g (.map (some a)) (enc k) b8) b y m:=by
 obtain⟨c,n,p,r,z,I⟩:=x.at';have u:=ji s k c.toList o r b;have N:c.toList.length=o.length:=by have:=Zj List.length r;simpa using this
 have J:=ax p
 cases w:mj o k 0 with
 |none=>
  rw[w]at u;refine kr.mk (w':={b with heap:=b.heap.setIfInBounds a (.map (c.push {key:=enc k,val:=b8,born:=n}) (n+1))}) ?_ (H _ ⟨⟨_,_,cC b a _ J,?_,?_,?_⟩,x.tidy.aI k b8⟩ (ak.setObj b a _) sM)
  ·simp[Instr.mapUpdate,run_underlying F.under,cZ p,de s,u,dO p]
  ·rw[(qX w).1 b8];simp[r]
  ·intro e d
   simp only[Array.toList_push,Q6,List.mem_singleton]at d;rcases d with d|rfl
   ·have:=z e d;omega
   ·show n<n+1;omega
  ·simp only[Array.toList_push,Q3,QY,List.map_nil]
   rw[List.nodup_append];refine⟨I,sM,?_⟩;intro V O W A X;simp only[List.mem_singleton]at A;obtain⟨e,d,rfl⟩:=Xk.1 O;have:=z e d;omega
 |some Q=>
  obtain⟨f,Y⟩:=Q;rw[w]at u;obtain⟨_,K,L,M⟩:=nj w;rw[Nat.sub_zero]at K L M;have C:f<c.size:=by
                 have:c.size=o.length:=by simpa using N
                 omega
  have R:c[f].key=enc k:=by
   have:=Zj (·[f]?) r;simp only[Q9,L,Option.map_some]at this;simp[C]at this;exact this.1
  refine kr.mk (w':={b with heap:=b.heap.setIfInBounds a (.map (c.modify f λe=>{e with key:=enc k,val:=b8}) n)}) ?_ (H _ ⟨⟨_,_,cC b a _ J,?_,?_,?_⟩,x.tidy.aI k b8⟩ (ak.setObj b a _) sM)
  ·have S:(Instr.keyThatStays (enc k) (enc k)).run h b= .ok (enc k) b:=by simp[Instr.keyThatStays,s.same]
   simp[Instr.mapUpdate,run_underlying F.under,cZ p,de s,u,C,R,S,dO p]
  ·rw[(M b8).1]
   apply X3;intro i;have P:=Zj (·[i]?) r;simp only[Q9]at P;simp only[Array.toList_modify,Q9,Xj,List.getElem?_modify]
   by_cases l:f=i
   ·subst l
    simp[C,K]
   ·simp only[l,if_false,Option.map_map]at P⊢
    simpa using P
  ·intro e d
   rw[Array.toList_modify]at d;obtain⟨i,P⟩:=List.getElem?_of_mem d;rw[List.getElem?_modify]at P
   cases E:c.toList[i]? with
   |none=>rw[E]at P;simp at P
   |some T=>
    rw[E]at P;have U:=QZ E;have:=z T U
    by_cases l:f=i
    ·simp[l]at P;subst P;exact this
    ·simp[l]at P;subst P;exact this
  ·have:(c.modify f λe=>{e with key:=enc k,val:=b8}).toList.map (·.born)=c.toList.map (·.born):=by
    apply X3;intro i;simp only[Array.toList_modify,Q9,List.getElem?_modify,Option.map_map]
    by_cases l:f=i<;>simp[l]<;>rfl
   rw[this];exact I
def JZ[BEq j][LawfulBEq j]{c:j->Value}(w:lH h g q B v)(r:im h q c){e:List (j×Value)}(t:bB b a c e){f:j}(x:∀k,bB k a c (bV e f)->ak (·=a) b k->k.heap.size=b.heap.size->m (.tuple #[]) k):aG h (Builtin.delete_ #[g,c4] g6 #[.map (some a),c f]) b m s:=by
 obtain⟨n,P,i,l,y,z⟩:=t.at';have o:=ji r f n.toList e l b;have F:n.toList.length=e.length:=by have:=Zj List.length l;simpa using this
 have A:=ax i
 cases p:mj e f 0 with
 |none=>
  rw[p]at o;refine aG.mk (w':={b with heap:=b.heap.setIfInBounds a (.map n P)}) ?_ (x _ ⟨⟨_,_,cC b a _ A,?_,y,z⟩,t.tidy.bV f⟩ (ak.setObj b a _) sM)
  ·simp[Builtin.delete_,run_underlying w.under,cZ i,de r,o,dO i]
  ·rw[(qX p).2];exact l
 |some H=>
  obtain⟨d,I⟩:=H;rw[p]at o;obtain⟨_,J,K,C⟩:=nj p;rw[Nat.sub_zero]at J K C;have u:d<n.size:=by
                 have:n.size=e.length:=by simpa using F
                 omega
  refine aG.mk (w':={b with heap:=b.heap.setIfInBounds a (.map (n.eraseIdxIfInBounds d) P)}) ?_ (x _ ⟨⟨_,_,cC b a _ A,?_,?_,?_⟩,t.tidy.bV f⟩ (ak.setObj b a _) sM)
  ·simp[Builtin.delete_,run_underlying w.under,cZ i,de r,o,dO i]
  ·rw[(C I).2]
   have:(n.eraseIdxIfInBounds d).toList=n.toList.eraseIdx d:=by simp[Array.eraseIdxIfInBounds,u]
   rw[this,map_eraseIdx,l,map_eraseIdx]
  ·intro L E
   have:(n.eraseIdxIfInBounds d).toList=n.toList.eraseIdx d:=by simp[Array.eraseIdxIfInBounds,u]
   rw[this]at E;exact y L (List.mem_of_mem_eraseIdx E)
  ·have:(n.eraseIdxIfInBounds d).toList=n.toList.eraseIdx d:=by simp[Array.eraseIdxIfInBounds,u]
   rw[this,map_eraseIdx];exact z.sublist (List.eraseIdx_sublist _ _)
def HK[BEq j][LawfulBEq j]{P:j->Value}(e:lH h g q B v){f:List (j×Value)}(i:bB b a P f)(k:∀c,bB c a P ([]:List (j×Value))->ak (·=a) b c->c.heap.size=b.heap.size->m (.tuple #[]) c):aG h (Builtin.clear_ #[g] c4 #[.map (some a)]) b m s:=by
 obtain⟨o,n,d,p,r,t⟩:=i.at';have l:=ax d;refine aG.mk (w':={b with heap:=b.heap.setIfInBounds a (.map #[] n)}) ?_ (k _ ⟨⟨_,_,cC b a _ l,rfl,sM,sM⟩,by simp[Tidy]⟩ (ak.setObj b a _) sM);simp[Builtin.clear_,run_underlying e.under,cZ d,dO d]
def Uv(n:h.underlying g=some (.int .i64)):im h g (Value.int .i64):=
 im.flat n (λP b=>by simp[Instr.sameNow]) (λa c d e=>by simp[Instr.checkKey,run_underlying n]) λa P=>by simp[Instr.sameBits]
end Go.au
namespace Go.au
open Go
instance:LawfulBEq ByteArray where
 eq_of_beq:=λ{a b} h=>ByteArray.ext (eq_of_beq (show(a.data==b.data)=true from h))
 rfl:=λ{a}=>show(a.data==a.data)=true from by simp
variable{a:Nat}{h:Program}{B c4 g g6 q:TypeId}{v:Value}{m s:XR}
def Wj(n:h.underlying g=some .string):im h g Value.string:=
 im.flat n (λP b=>rfl) (λa c d e=>by simp[Instr.checkKey,run_underlying n]) λa P=>by simp[Instr.sameBits]
structure cB {κ:Type} (w:World) (it r:Nat) (enc:κ->Value) (l left:List (κ×Value)):Prop where
 at':∃es clock since seen c0,w.heap[r]? =some (.map es clock)/\es.toList.map (λe=>(e.key,e.val))=l.map (λp=>(enc p.1,p.2))/\
  (∀e∈es.toList,e.born<clock)/\(es.toList.map (·.born)).Nodup/\w.heap[it]? =some (.mapIter (some r) since seen c0)/\(∀x∈es.toList,x.born<since)/\since<=c0/\since<=clock/\
  (leftOf es seen).toList.map (λe=>(e.key,e.val))=left.map (λp=>(enc p.1,p.2))
 tidy:Tidy l
structure SY {κ:Type} (w:World) (it r:Nat) (enc:κ->Value) (k:κ) (v:Value):Prop where
 at':∃(es:Array MapEntry) (clock since:Nat) (seen:Array Nat) (e:MapEntry),w.heap[r]? =some (.map es clock)/\w.heap[it]? =some (.mapIter (some r) since (seen.push e.born) clock)/\e∈es.toList/\(es.toList.map (·.born)).Nodup/\e.key=enc k/\e.val=v
section
variable {κ:Type} {w w':World} {it r:Nat} {enc:κ->Value} {l left:List (κ×Value)} {S:XN}
def cB.af(b:cB w it r enc l left)(c:ak S w w')(d:¬S it)(e:¬S r):cB w' it r enc l left:=by
 obtain⟨f,n,P,seen,g,h,i,j,k,m,a⟩:=b.at';exact⟨⟨f,n,P,seen,g,c.get h e,i,j,k,c.get m d,a⟩,b.tidy⟩
def cB.ah(n:cB w it r enc l left)(P:ai w w'):cB w' it r enc l left:=n.af P id id
def cB.map(a:cB w it r enc l left):bB w r enc l:=by
 obtain⟨c,n,P,seen,h,d,e,f,g,i,b⟩:=a.at';exact⟨⟨c,n,d,e,f,g⟩,a.tidy⟩
def cB.ne(c:cB w it r enc l left):it≠r:=by
 obtain⟨e,n,P,seen,f,d,g,h,i,a,b⟩:=c.at';rintro rfl;rw[d]at a;cases a
def cB.lt(b:cB w it r enc l left):it<w.heap.size:=by
 obtain⟨d,n,P,seen,e,f,g,h,i,c,a⟩:=b.at';exact ax c
def mapRange(f:lH h g q B v)(P:bB w r enc l)(i:∀w',cB w' w.heap.size r enc l l->ai w w'->w'.heap.size=w.heap.size+1->m (XL w.heap.size) w'):aG h (Instr.range g (.map (some r))) w m s:=by
 obtain⟨a,n,b,c,d,j⟩:=P.at';have e:ai w (w.alloc (.mapIter (some r) n #[] n)):=ak.alloc w _;refine aG.mk (run_range_map w g q B r a n f.under b) (i _ ⟨⟨a,n,n,#[],n,e.get b id,c,d,j,heap_alloc_new w _,d,Q4 _,Q4 _,?_⟩,P.tidy⟩ e sM);rw[<-c]
 congr 2
 unfold leftOf;simp
def m_{P:Program}(q:cB w it r enc l left)(U:left=[]->m (.tuple #[.bool false]) w)(V:∀t u A B w',left=A++(t,u)::B->cB w' it r enc l (A++B)->SY w' it r enc t u->ak (·=it) w w'->w'.heap.size=w.heap.size->m (.tuple #[.bool true,enc t,u]) w'):
  aG P (Instr.next (XL it) false g) w m s:=by
 have W:=q.ne;obtain⟨d,n,b,seen,C,E,X,Y,v,F,H,Z,I,k⟩:=q.at';rcases run_next_at (P:=P) w g it r b C seen d n F E H Z with⟨hz,x⟩|⟨c,J,f,K,x⟩
 ·refine aG.mk x (U ?_)
  have:(leftOf d seen).toList=[]:=by rw[Array.eq_empty_of_size_eq_zero hz]
  rw[this]at k;simpa using k.symm
 ·have y:ai w f:=by rcases K with rfl|rfl;exact ak.refl _;exact ak.drewN w 1
  have b0:f.heap.size=w.heap.size:=by rcases K with rfl|rfl<;>rfl
  have a0:f.heap[it]? =some (.mapIter (some r) b seen C):=y.get F id;have b1:f.heap[r]? =some (.map d n):=y.get E id;have a1:=ax a0
  let p:=ChangeMaps.setBlock f it (.mapIter (some r) b (seen.push c.born) n)
  have L:ak (·=it) f p:=ak.setObj f it _;have M:p.heap[it]? =some (.mapIter (some r) b (seen.push c.born) n):=cC f it _ a1;have N:p.heap[r]? =some (.map d n):=L.get b1 (λc=>W c.symm);have a2:=mem_left J;obtain⟨a,h,O⟩:=List.getElem_of_mem J;have Q:a<left.length:=by have:=Zj List.length k;simp at this;simp at h;omega
  have R:(c.key,c.val)=(enc left[a].1,left[a].2):=by
   have:=Zj (λa3=>a3[a]?) k;simp only[Q9]at this;rw[Qq h,Qq Q,O]at this;simpa using this
  have a4:left=left.take a++(left[a].1,left[a].2)::left.drop (a+1):=by
   have:=(ZX a left).symm;rw[X4 Q]at this;exact this
  have a5:(leftOf d (seen.push c.born)).toList=(leftOf d seen).toList.eraseIdx a:=by
   have j:((leftOf d seen).toList.map (·.born)).Nodup:=by
    unfold leftOf;rw[Array.toList_filter];exact v.sublist (List.Sublist.map _ List.filter_sublist)
   have hf:(leftOf d (seen.push c.born)).toList=(leftOf d seen).toList.filter (λi=>i.born !=c.born):=by
    unfold leftOf;rw[Array.toList_filter,Array.toList_filter,List.filter_filter]
    congr 1
    funext i
    rw[contains_push]
    cases seen.contains i.born<;>cases hx:(i.born==c.born)<;>simp only[bne,hx]<;>rfl
   rw[hf];have z:∀(e:List MapEntry) (a:Nat) (h:a<e.length),(e.map (·.born)).Nodup->e.filter (λi=>i.born !=e[a].born)=e.eraseIdx a:=by
    intro e
    induction e with
    |nil=>intro a h;simp at h
    |cons i e ih=>
     intro a h j;simp only[QY,List.nodup_cons]at j
     cases a with
     |zero=>
      simp only[List.getElem_cons_zero,List.eraseIdx_zero,List.tail_cons];rw[List.filter_cons_of_neg sM];apply List.filter_eq_self.2;intro a6 hy;simp only[bne_iff_ne,ne_eq];intro c;exact j.1 (c▸Xk.2 ⟨a6,hy,rfl⟩)
     |succ a=>
      simp only[List.getElem_cons_succ,List.eraseIdx_cons_succ];have o:a<e.length:=by simpa using h
      rw[List.filter_cons_of_pos,ih a o j.2];simp only[bne_iff_ne,ne_eq];intro c;exact j.1 (c▸Xk.2 ⟨e[a],XY o,rfl⟩)
   have:=z _ a h j;rw[O]at this;exact this
  have S:c.key=enc left[a].1:=(Prod.mk.inj R).1;have T:c.val=left[a].2:=(Prod.mk.inj R).2;refine aG.mk x ?_;rw[S,T];refine V left[a].1 left[a].2 (left.take a) (left.drop (a+1)) p a4 ⟨⟨d,n,b,seen.push c.born,n,N,X,Y,v,M,H,I,I,?_⟩,q.tidy⟩ ⟨d,n,b,seen,c,N,M,a2.1,v,S,T⟩ ((ai.af y).then L) ?_
  ·rw[a5,map_eraseIdx,k,<-map_eraseIdx]
   congr 1
   rw[List.eraseIdx_eq_take_drop_succ]
  ·show(f.heap.setIfInBounds it _).size=_
   simp[b0]
def qj{a:κ}(b:SY w it r enc a v)(c:m (.tuple #[enc a,v]) w):aG h (Instr.entry (XL it)) w m s:=by
 obtain⟨d,n,P,seen,e,f,g,i,j,k,l⟩:=b.at';refine aG.mk (run_entry_at w it r P seen d n e g f i j) ?_;rw[k,l];exact c
def Pg[BEq κ][LawfulBEq κ]{c:κ}(J:lH h g q B v)(x:im h q enc)(y:cB w it r enc l left)(X:c∉left.map (·.1))(K:∀w',cB w' it r enc (bV l c) left->ak (·=r) w w'->w'.heap.size=w.heap.size->m (.tuple #[]) w'):aG h (Builtin.delete_ #[g,c4] g6 #[.map (some r),enc c]) w m s:=by
 have L:=y.ne;obtain⟨P,a,b,seen,M,j,k,N,O,Q,R,S,T,F⟩:=y.at';have z:=ji x c P.toList l k w;have Y:P.toList.length=l.length:=by have:=Zj List.length k;simpa using this
 have U:=ax j
 cases A:mj l c 0 with
 |none=>
  rw[A]at z;refine aG.mk (w':={w with heap:=w.heap.setIfInBounds r (.map P a)}) ?_ (K _ ⟨⟨_,_,b,seen,M,cC w r _ U,?_,N,O,(ak.setObj w r _).get Q L,R,S,T,F⟩,y.tidy.bV c⟩ (ak.setObj w r _) sM)
  ·simp[Builtin.delete_,run_underlying J.under,cZ j,de x,z,dO j]
  ·rw[(qX A).2];exact k
 |some d=>
  obtain⟨n,Z⟩:=d;rw[A]at z;obtain⟨_,f,V,W⟩:=nj A;rw[Nat.sub_zero]at f V W;have o:n<P.size:=by
                 have:P.size=l.length:=by simpa using Y
                 omega
  have p:(P.eraseIdxIfInBounds n).toList=P.toList.eraseIdx n:=by simp[Array.eraseIdxIfInBounds,o]
  have a0:(P.toList[n]'(by simpa using o)).key=enc c:=by
   have:=Zj (λC=>C[n]?) k;simp only[Q9,V,Option.map_some]at this;rw[Qq (by simpa using o)]at this;simpa using(Prod.mk.inj (XJ this)).1
  have H:∀i∈(leftOf P seen).toList,i.key≠enc c:=by
   intro i hx t;have:(i.key,i.val)∈left.map (λd=>(enc d.1,d.2)):=by rw[<-F];exact Xk.2 ⟨i,hx,rfl⟩
   obtain⟨C,hq,a1⟩:=Xk.1 this;have a2:enc C.1=enc c:=(Prod.mk.inj a1).1.trans t;exact X (Xk.2 ⟨C,hq,x.inj a2⟩)
  have a3:(leftOf (P.eraseIdxIfInBounds n) seen).toList=(leftOf P seen).toList:=by
   unfold leftOf at H⊢;rw[Array.toList_filter]at H;rw[Array.toList_filter,Array.toList_filter,p];have I:∀(e:List MapEntry) (d:MapEntry->Bool) (n:Nat) (f:n<e.length),d e[n]=false->(e.eraseIdx n).filter d=e.filter d:=by
    intro e d
    induction e with
    |nil=>intro n f;simp at f
    |cons i e ih=>
     intro n f E
     cases n with
     |zero=>
      simp only[List.getElem_cons_zero]at E;simp[E]
     |succ n=>
      simp only[List.getElem_cons_succ]at E;simp only[List.eraseIdx_cons_succ,List.filter_cons];rw[ih n (by simpa using f) E]
   refine I _ _ n (by simpa using o) ?_
   cases a4: !seen.contains (P.toList[n]'(by simpa using o)).born with
   |false=>rfl
   |true=>exact Zz a0 (H _ (List.mem_filter.2 ⟨XY _,a4⟩))
  refine aG.mk (w':={w with heap:=w.heap.setIfInBounds r (.map (P.eraseIdxIfInBounds n) a)}) ?_ (K _ ⟨⟨_,_,b,seen,M,cC w r _ U,?_,?_,?_,(ak.setObj w r _).get Q L,?_,S,T,?_⟩,y.tidy.bV c⟩ (ak.setObj w r _) sM)
  ·simp[Builtin.delete_,run_underlying J.under,cZ j,de x,z,dO j]
  ·rw[(W Z).2,p,map_eraseIdx,k,map_eraseIdx]
  ·intro t u
   rw[p]at u;exact N t (List.mem_of_mem_eraseIdx u)
  ·rw[p,map_eraseIdx]
   exact O.sublist (List.eraseIdx_sublist _ _)
  ·intro t u
   rw[p]at u;exact R t (List.mem_of_mem_eraseIdx u)
  ·rw[a3];exact F
def Tw(P:lH h g q B v)(a:bB w r enc l)(b:m (XH (l.length:Int)) w):aG h (Builtin.len_ #[g] c4 #[.map (some r)]) w m s:=by
 obtain⟨c,n,d,e,_⟩:=a.at';have f:c.size=l.length:=by have:=Zj List.length e;simpa using this
 refine aG.mk (v:=XH (l.length:Int)) ?_ b;rw[<-f];simp[Builtin.len_,Builtin.lenOf,run_underlying P.under,cZ d,goInt]
def AS{n:ByteArray}(P:h.underlying g=some .string)(a:∀w',w'.heap[w.heap.size]? =some (.stringIter n 0)->ai w w'->w'.heap.size=w.heap.size+1->m (XL w.heap.size) w'):aG h (Instr.range g (.string n)) w m s:=
 aG.mk (run_range_string w g n P) (a _ (World.iter_heap w n 0) (ak.alloc w _) (by simp[World.iter]))
def Fc{n:ByteArray}(P:w.heap[it]? =some (.stringIter n a))(c:n.size<=a->m (.tuple #[.bool false]) w)(d:a<n.size->∀w',w'.heap[it]? =some (.stringIter n (a+(Utf8.decode n a).2))->ak (·=it) w w'->w'.heap.size=w.heap.size->m (.tuple #[.bool true,XH (a:Int),.int .i32 ((Utf8.decode n a).1:Int)]) w'):
  aG h (Instr.next (XL it) true g) w m s:=by
 by_cases b:a<n.size
 ·refine aG.mk (w':={w with heap:=w.heap.setIfInBounds it (.stringIter n (a+(Utf8.decode n a).2))}) ?_ (d b _ (cC w it _ (ax P)) (ak.setObj w it _) sM)
  simp[Instr.next,getObj,setObj,Sem.run,P,b,goInt]
 ·refine aG.mk ?_ (c oM)
  simp[Instr.next,getObj,Sem.run,P,b]

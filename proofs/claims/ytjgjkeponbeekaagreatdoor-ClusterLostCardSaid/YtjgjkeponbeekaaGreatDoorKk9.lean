import Derived.Test.YtjgjkeponbeekaaGreatDoorYkCode
import Derived.Maps.AppendAt
import Derived.Below
import Derived.Laws.Strings
import Derived.Laws.OwnMore
import Derived.Laws.MakeOwn
import Derived.Lib.BitFns
import Derived.Lib.ItoaNum
import Derived.Shelf.SlIter.Nil
import Derived.Shelf.SlIterI.Nil
import Derived.Shelf.SortM.Plain
import Derived.Shelf.SortM.SortNone
import Derived.Shelf.Strconv.Itoa3
import Derived.Shelf.Small.Strs
import Derived.Ground.GgzProg
import Derived.Ground.SlgmProg
import Derived.Ground.NamesProg
import Derived.Test.YtjgjkeponbeekaaGreatDoorProg
import Derived.Laws.CopyRow
import Derived.Laws.IdiomCopy
set_option maxHeartbeats 4000000
set_option linter.all false
set_option maxRecDepth 100000
open Go.IntKind renaming wrap→ZG
namespace Go.Proofs.YtjgjkeponbeekaaGreatDoor
open Go.aw
def Br:lx:=⟨[(2,[(5,ZH 0),(6,ZH 0)])],[],[],[],[]⟩
variable{Y m:Array Value}{A:ZT}{z:FuncId}{e:Int}{a c:Nat}{d:WP}{b:World}
def Bs(k:(∃d:Nat->Int->Int->ZU,(∃a,d a 0 e b)/\∀(a:Nat) (n:Int) (P:Int) (o:Nat->Value) (f:World),d a n P f->al (decide (n<P)) ((∃g h i,(.func (.func z) m Y:Value)= .func (.func g) h i/\enters ZP g=true/\PC_ g (h++ #[.ii (ZG .i64 (kv .u64 (ZG .u64 (ZG .i64 (n+P))) 1))]++i) f (kB λl j=>al (!l) ((∃c,c<a/\d c (ZG .i64 ((ZG .i64 (kv .u64 (ZG .u64 (ZG .i64 (n+P))) 1))+1)) P j)) ((∃c,c<a/\d c n (ZG .i64 (kv .u64 (ZG .u64 (ZG .i64 (n+P))) 1)) j))) (pE A))) (rt A ((.ii n)) f))):PP 150 #[.ii e,.func (.func z) m Y] b A:=DC Br Tryz.func150 rfl k
def DD:lx:=⟨[],[],[],[],[]⟩
def DE(n:((0:Int)<=(if(a:Int)<(if 0>e then 0 else e)then(a:Int)else(if 0>e then 0 else e))/\((if(a:Int)<(if 0>e then 0 else e)then(a:Int)else(if 0>e then 0 else e)):Int)<=(if(a:Int)<(if 0>e then 0 else e)then(a:Int)else(if 0>e then 0 else e))/\((if(a:Int)<(if 0>e then 0 else e)then(a:Int)else(if 0>e then 0 else e)):Int)<=(c:Int)/\PC_ 215 #[.slice d (Int.toNat (if(a:Int)<(if 0>e then 0 else e)then(a:Int)else(if 0>e then 0 else e))) (Int.toNat (if(a:Int)<(if 0>e then 0 else e)then(a:Int)else(if 0>e then 0 else e)))] b (kS_ λP f g h=>rt A ((.tuple #[.slice P f g,.bool (decide (((if(a:Int)<(if 0>e then 0 else e)then(a:Int)else(if 0>e then 0 else e)):Int)<(a:Int)))])) h) (pE A))):PP 152 #[.slice d a c,.ii e] b A:=DC DD Tryz.func152 rfl n
def jL:lx:=⟨[(3,[(7,ZH 0),(8,ZH 0)])],[],[],[],[]⟩
def jB(l:(∃i:Nat->Int->Int->ZU,(∃g,i g 0 (a:Int) b)/\∀(g:Nat) (n:Int) (P:Int) (B:Nat->Value) (f:World),i g n P f->al (decide (n<P)) ((dr d λm o=>(0:Int)<=(ZG .i64 (kv .u64 (ZG .u64 (ZG .i64 (n+P))) 1))/\(ZG .i64 (kv .u64 (ZG .u64 (ZG .i64 (n+P))) 1))<(a:Int)/\(rI f (ad m (o+Int.toNat (ZG .i64 (kv .u64 (ZG .u64 (ZG .i64 (n+P))) 1)))) λp=>PC_ 337 #[.ii p,.ii e] f (kB λq j=>al q ((∃h,h<g/\i h (ZG .i64 ((ZG .i64 (kv .u64 (ZG .u64 (ZG .i64 (n+P))) 1))+1)) P j)) ((∃h,h<g/\i h n (ZG .i64 (kv .u64 (ZG .u64 (ZG .i64 (n+P))) 1)) j))) (pE A)))) (al (decide (n<(a:Int))) ((ix_ d n a λr s=>(rI f (ad r (s+Int.toNat n)) λt=>al (t==e) (rt A ((.tuple #[.ii n,.bool true])) f) ((ix_ d n a λu v=>(rI f (ad u (v+Int.toNat n)) λw=>PC_ 341 #[.ii w] f (kB λx k=>al x (PC_ 341 #[.ii e] k (kB λy z=>rt A ((.tuple #[.ii n,.bool y])) z) (pE A)) (rt A ((.tuple #[.ii n,.bool false])) k)) (pE A))))))) (rt A ((.tuple #[.ii n,.bool false])) f)))):PP 311 #[.slice d a c,.ii e] b A:=DC jL Tryz.func311 rfl l
def nh:lx:=⟨[],[(3,[])],[],[],[]⟩
def ni(l:(∃f:ZU,(al (decide ((e:Int)<0)) (aJ ZP (Instr.panic (.iface 9 (.string (⟨#[99,97,110,110,111,116,32,98,101,32,110,101,103,97,116,105,118,101]⟩:ByteArray)))) b (λu m=>
   f m) (λn b=>A (.panicked [{v:=n,recovered:=false}]) b)) (f b))/\∀(v:Nat->Value) (i:World),f i->aJ ZP (Builtin.cap_ #[237] 3 #[.slice d a c]) i (λo j=>
   ∃(g:Int),o= ZH g/\al (decide (((ZG .i64 (e-(ZG .i64 (g-((a:Nat):Int))))):Int)>0)) (aJ ZP (Builtin.cap_ #[237] 3 #[.slice d a c]) j (λp q=>
   ∃(P:Int),p= ZH P/\((0:Int)<=P/\(P:Int)<=((c:Nat):Int)/\aJ ZP (Builtin.append_ #[237,3] 237 #[.slice d (Int.toNat P) c,ZH (ZG .i64 (e-(ZG .i64 (g-((a:Nat):Int)))))]) q (λr s=>
   ∃(k:WP) (t:Nat) (h:Nat),r= .slice k t h/\((0:Int)<=((a:Nat):Int)/\(((a:Nat):Int):Int)<=((h:Nat):Int)/\
   A (.returned (.slice k (Int.toNat ((a:Nat):Int)) h)) s)) (λn b=>A (.panicked [{v:=n,recovered:=false}]) b))) (λn b=>A (.panicked [{v:=n,recovered:=false}]) b)) (A (.returned (.slice d a c)) j)) (λn b=>
   A (.panicked [{v:=n,recovered:=false}]) b))):
  PP 328 #[.slice d a c,ZH e] b A:=
 sq nh mixed Tryz.func328 rfl (Zv kR) kR (Eq.mp kR l)
def lH:lx:=⟨[(3,[(3,ZH 0),(11,ZH 0)]),(11,[(6,.slice none 0 0),(27,ZH 0)])],[],[],[],[]⟩
def lI(J:(∃l:Nat->Int->Int->ZU,(∃h,l h 0 0 b)/\∀(h:Nat) (i:Int) (f:Int) (T:Nat->Value) (j:World),l h i f j->al (decide ((f:Int)<((a:Nat):Int))) ((∃s t,d=some ⟨s,t,none⟩/\
   (0:Int)<=f/\f<((a:Nat):Int)/\(∃(K:WP) (m:Nat) (L:Nat),j.cell? ⟨s,t+Int.toNat f,none⟩=some (.slice K m L)/\
   al (decide (((ZG .i64 (i+((m:Nat):Int))):Int)<0)) (aJ ZP (Instr.panic (.iface 9 (.string (⟨#[108,101,110,32,111,117,116,32,111,102,32,114,97,110,103,101]⟩:ByteArray)))) j (λU M=>
   (∃k,k<h/\l k (ZG .i64 (i+((m:Nat):Int))) (ZG .i64 (f+1)) M)) (λq b=>A (.panicked [{v:=q,recovered:=false}]) b)) ((∃k,k<h/\
   l k (ZG .i64 (i+((m:Nat):Int))) (ZG .i64 (f+1)) j))))) (PC ZP 328 #[.slice none 0 0,ZH i] j (λN O=>
   ∃(u:WP) (v:Nat) (w:Nat),N= .slice u v w/\(∃r:Nat->WP->Nat->Nat->Int->ZU,(∃o,r o u v w 0 O)/\
   ∀(o:Nat) (n:WP) (P:Nat) (e:Nat) (g:Int) (V:Nat->Value) (p:World),r o n P e g p->al (decide ((g:Int)<((a:Nat):Int))) ((∃x y,d=some ⟨x,y,none⟩/\
   (0:Int)<=g/\g<((a:Nat):Int)/\(∃(z:WP) (B:Nat) (C:Nat),p.cell? ⟨x,y+Int.toNat g,none⟩=some (.slice z B C)/\
   aJ ZP (Builtin.append_ #[237,237] 237 #[.slice n P e,.slice z B C]) p (λQ R=>∃(E:WP) (F:Nat) (H:Nat),Q= .slice E F H/\
   (∃I,I<o/\r I E F H (ZG .i64 (g+1)) R)) (λq b=>A (.panicked [{v:=q,recovered:=false}]) b)))) (A (.returned (.slice n P e)) p))) (λS b=>
   A (.panicked S) b)))):
  PP 294 #[.slice d a c] b A:=
 sq lH mixed Tryz.func294 rfl (Zv kR) kR (Eq.mp kR J)
end Go.Proofs.YtjgjkeponbeekaaGreatDoor
namespace Go.aw
open Go
abbrev ai(n P:World):Prop:=aj (λ_=>False) n P
variable{d1:Addr}{e5:Array MapEntry}{m:Array Value}{z:FuncId}{e:Int}{s:List Int}{a6:List PanicEntry->ZU}{F a c i r:Nat}{Z f g5:ZN}{E:Nat×Nat}{c9:Obj}{X a1:Operand}{d:WP}{d0:Option Nat}{h:Program}{C g p:TypeId}{o t:ZR}{a7 b k:World}{y:ZU}
def aj.refl(n:World):aj f n n:=⟨rfl,rfl,rfl,Q4 _,λ_ _ _=>rfl⟩
def aj.trans(P:aj Z b k)(n:aj g5 k a7)(g:∀n,n<b.heap.size->Z n->f n)(h:∀n,n<b.heap.size->g5 n->f n):aj f b a7:=
 ⟨n.os.trans P.os,n.tape.trans P.tape,n.output.trans P.output,Xx P.size n.size,λa c e=>
  (n.block a (Qk c P.size) (λd=>e (h a c d))).trans (P.block a c (λd=>e (g a c d)))⟩
def aj.mono(P:aj f b k)(c:∀n,n<b.heap.size->f n->Z n):aj Z b k:=
 ⟨P.os,P.tape,P.output,P.size,λn a d=>P.block n a λe=>d (c n a e)⟩
def aj.then(n:aj f b k)(P:aj f k a7):aj f b a7:=n.trans P (λ_ _ n=>n) (λ_ _ n=>n)
def aj.new(P:aj f b k)(n:aj Z k a7)(a:∀n,Z n->f n\/b.heap.size<=n):aj f b a7:=
 P.trans n (λ_ _ P=>P) (λc e d=>(a c d).resolve_right oM)
def aj.af(n:aj f b k)(P:ai k a7):aj f b a7:=n.trans P (λ_ _ n=>n) (λ_ _ n=>n.elim)
def ai.keep{S:ZN}(n:ai b k):aj S b k:=n.mono λ_ _ n=>n.elim
def aj.alloc{b:ZN}(n:World)(P:Obj):aj b n (n.alloc P):=
 ⟨rfl,rfl,rfl,sM,λc a _=>by first|exact heap_alloc_old n P c a|exact heap_alloc_old n P a⟩
def aj.drewN{S:ZN}(n:World)(P:Nat):aj S n (n.drewN P):=⟨rfl,rfl,rfl,Q4 _,λ_ _ _=>rfl⟩
def cy.keep{S:ZN}(n:cy b k):aj S b k:=by obtain⟨P,rfl⟩:=n;exact aj.drewN b P
def cy.heap(n:cy b k):k.heap=b.heap:=by obtain⟨P,rfl⟩:=n;rfl
def aj.setCell(n:World)(P:Addr)(a:Value)(b:f P.block):aj f n (n.setCell P a):=
 ⟨rfl,rfl,rfl,by simp[World.setCell],λd _ c=>by
  simp only[World.setCell,Array.getElem?_modify];rw[Zq (by rintro rfl;exact c b)]⟩
def aj.below(n:ai b k):RowKit.Below b.heap.size b k:=⟨n.os,n.tape,n.output,n.size,λP a=>n.block P a (λn=>n)⟩
def aj.HF(n:RowKit.Below b.heap.size b k):ai b k:=⟨n.os,n.tape,n.output,n.size,λP a _=>n.block P a⟩
def aj.of_grownBy(n:b.grownBy k d0):aj (λP=>some P=d0) b k:=⟨n.os,n.tape,n.output,n.size,λP a c=>n.block P a c⟩
def aj.cell(n:aj f b k){a:Addr}(P:a.block<b.heap.size)(j:¬f a.block):k.cell? a=b.cell? a:=
 World.cell?_of_block (w:=b) (n.block a.block P j)
def aj.get(P:aj f b k)(n:b.heap[a]? =some c9)(c:¬f a):k.heap[a]? =some c9:=by
 rw[P.block a (Q5.1 n).1 c];exact n
def aA(n:b.heap[a]? =some c9):a<b.heap.size:=(Q5.1 n).1
def ae{cs:Array Value}(n:b.heap[a]? =some (Obj.cells cs g E)){off:Nat}{v:Value}(P:cs[off]? =some v):
  b.cell? ⟨a,off,none⟩=some v:=by simp[World.cell?,n,P]
def PA.mk(P:∀n,ai b n->n.heap.size=b.heap.size+1->n.heap[b.heap.size]? =some c9->y n):PA b c9 y:=
 P (b.alloc c9) (aj.alloc b c9) sM (heap_alloc_new b c9)
def PS.mk{v:Value}{cs:Array Value}(P:b.heap[a]? =some (.cells cs g (0,0)))(d:c<cs.size)(e:∀n,aj (·=a) b n->n.heap.size=b.heap.size->n.heap[a]? =some (.cells (cs.setIfInBounds c v) g (0,0))->y n):PS b ⟨a,c,none⟩ v y:=by
 refine⟨⟨cs[c],ae P (by simp[d])⟩,by simp[World.frozen?,P],e _ (aj.setCell b _ v rfl) (by simp[World.setCell]) ?_⟩;simp[World.setCell,Array.getElem?_modify,P]
def Ok(P:ZR):ZT:=λa b=>∃n,a= .returned n/\P n b
def Ok.mk{v:Value}(n:o v b):Ok o (.returned v) b:=⟨v,rfl,n⟩
def PC.ok{φ a:ZR}(c:Calls h z m b (Ok φ))(d:∀n P,φ n P->a n P):PC h z m b a a6:=
 c.mono λg P ⟨n,e,f⟩=>by subst e;exact d n P f
def Calls.ok{φ a:ZR}(c:Calls h z m b (Ok φ))(d:∀n P,φ n P->a n P):Calls h z m b (Ok a):=
 c.mono λg P ⟨n,e,f⟩=>⟨n,e,d n P f⟩
def aM(n:Int):Prop:= -9223372036854775808<=n/\n<=9223372036854775807
theorem bc{p:Prop}(h:p:=by unfold aM;omega):p:=h
def wrap_i64{x:Int}(n:aM x):ZG .i64 x=x:=by
 unfold aM at n;unfold ZG;simp[IntKind.signed,IntKind.bits];omega
def aT:Nat:=140737488355328
theorem ba{p:Prop}(h:p:=by unfold aT;omega):p:=h
structure Ints (w:World) (a:WP) (n:Nat) (xs:List Int):Prop where
 len:n=xs.length
 fj:n*8<=aT
 Ad:∀x∈xs,aM x
 cell:∀(i:Nat) x,xs[i]? =some x->∃b off,a=some ⟨b,off,none⟩/\b<w.heap.size/\w.cell? ⟨b,off+i,none⟩=some (ZH x)
def pO(P:ZN)(a:WP):Prop:=∀n,a=some n->¬P n.block
def pO.none:pO f Option.none:=λ_ n=>by cases n
def Ints.keep{S:ZN}{a:WP}{d:Nat}(P:Ints b a d s)(e:aj S b k)(h:pO S a):Ints k a d s:=
 ⟨P.len,P.fj,P.Ad,λf i j=>by
  obtain⟨c,n,rfl,g,l⟩:=P.cell f i j;exact⟨c,n,rfl,Qk g e.size,(e.cell (a:=⟨c,n+f,none⟩) g (h ⟨c,n,none⟩ rfl)).trans l⟩⟩
def Ints.af(n:Ints b d a s)(P:ai b k):Ints k d a s:=n.keep P λ_ _ n=>n
def Ints.nil(n:World):Ints n none 0 []:=⟨rfl,by simp[aT],sM,λa b P=>by simp at P⟩
def Ints.at(c:Ints b d a s){i:Int}(j:0<=i)(k:i<(a:Int)):
  ∃P n x,d=some ⟨P,n,none⟩/\P<b.heap.size/\s[i.toNat]? =some x/\aM x/\b.cell? ⟨P,n+i.toNat,none⟩=some (ZH x):=by
 have l:=c.len;have e:i.toNat<s.length:=oM
 obtain⟨P,n,f,g,h⟩:=c.cell i.toNat s[i.toNat] (by simp[e]);exact⟨P,n,_,f,g,by simp[e],c.Ad _ (XY e),h⟩
def aG:WP->Option Nat
 |none=>none
 |some n=>some n.block
def Ints.HG(n:Ints b d a s)(c:aj f b k)(e:s≠[]->pO f d):Ints k d a s:=by
 by_cases P:s=[]
 ·subst P;exact⟨n.len,n.fj,n.Ad,λh i g=>by simp at g⟩
 ·exact n.keep c (e P)
def dw:pO f d↔∀n,aG d=some n->¬f n:=by
 cases d with
 |none=>simp[pO,aG]
 |some d=>simp[pO,aG]
structure Own (w:World) (e:TypeId) (k:Nat) (a:WP) (n c:Nat) (cs:List Value):Prop where
 row:w.ownsRow 0 e k (.slice a n c) n cs
def Own.nil(n:World)(e:TypeId)(P:Nat):Own n e P none 0 0 []:=⟨World.ownsRow_nil n 0 e P⟩
def Own.length{cs:List Value}(n:Own b g a d c i cs):cs.length=c*a:=n.row.1
def Own.cases{cs:List Value}(f:Own b g a d c i cs):
  (d=none/\c=0/\i=0/\cs=[])\/
  ∃e n,d=ZM e/\b.heap[e]? =some (.cells n g (0,0))/\c<=i/\n.size=i*a/\n.toList.take (c*a)=cs:=by
 rcases f.row.2 with⟨P,o⟩|⟨e,h,n,P,_,j,k,_,l,m⟩
 ·simp only[XX]at P
  obtain⟨rfl,rfl,rfl⟩:=P;exact .inl ⟨rfl,rfl,rfl,QW (by simpa using f.row.1)⟩
 ·simp only[XX]at P
  obtain⟨rfl,-,rfl⟩:=P;exact .inr ⟨e,n,rfl,j,k,l,m⟩
def Own.keep{S:ZN}{cs:List Value}(h:Own b g a d c i cs)(j:aj S b k)(l:pO S d):Own k g a d c i cs:=by
 refine⟨⟨h.row.1,?_⟩⟩;rcases h.row.2 with m|⟨o,P,e,f,p,q,n⟩
 ·exact .inl m
 ·refine .inr ⟨o,P,e,f,p,j.get q ?_,n⟩
  simp only[XX]at f;exact l _ f.1
def Own.af{cs:List Value}(n:Own b g a d c i cs)(P:ai b k):Own k g a d c i cs:=n.keep P λ_ _ n=>n
def Own.lt{cs:List Value}(P:Own b g a d c i cs)(n:aG d=some r):r<b.heap.size:=by
 rcases P.cases with⟨rfl,_⟩|⟨h,e,rfl,f,_⟩
 ·cases n
 ·simp only[aG,Q1]at n
  subst n;exact aA f
def Own.cell{b:World}{d:TypeId}{e:Nat}{a:WP}{f g:Nat}{cs:List Value}(h:Own b d e a f g cs){j:Nat}{u:Value}(n:cs[j]? =some u):
  ∃P,a=ZM P/\P<b.heap.size/\b.cell? ⟨P,j,none⟩=some u:=by
 rcases h.cases with⟨_,_,_,rfl⟩|⟨P,i,rfl,c,_,_,k⟩
 ·simp at n
 ·refine⟨P,rfl,aA c,ae c ?_⟩
  rw[<-k,Xw]at n;split at n
  ·simpa using n
  ·cases n
def Own.AD{cur:Array Value}(P:b.heap[c]? =some (.cells cur g (0,0)))(n:cur.size=i*a)(d:i<=maxLen):
  Own b g a (ZM c) i i cur.toList:=
 ⟨⟨by simpa using n,.inr ⟨c,i,cur,rfl,Qj _,P,Q4 _,d,n,by rw[Qz];simp[n]⟩⟩⟩
structure kQ (P:Program) (t e:TypeId) (k bytes:Nat):Prop where
 under:P.underlying t=some (.slice e)
 row:(P.info? e).map (λi=>(i.zero.map λz=>z.cells.size,i.size,i.bytes))=some (some k,k,bytes)
 pos:0<k
def kQ.info{b:Program}{g c:TypeId}{d bytes:Nat}(h:kQ b g c d bytes):∃P a,b.info? c=some P/\P.zero=some a/\P.size=d/\P.bytes=bytes/\a.cells.size=d:=by
 have n:=h.row
 cases f:b.info? c with
 |none=>rw[f]at n;cases n
 |some P=>
  rw[f]at n;simp only[Option.map_some,Q1,Prod.mk.injEq]at n
  cases e:P.zero with
  |none=>rw[e]at n;cases n.1
  |some a=>
   rw[e]at n;exact⟨P,a,rfl,e,n.2.1,n.2.2,by simpa using n.1⟩
def MF{P:Program}{f bytes:Nat}(l:kQ P g p f bytes){m news:List Value}(x:Own b p f d a c m)(y:∀j k,news[j]? =some k->b.cell? (d1.add j)=some k)(z:news.length=i*f)(A:∀k∈news,k.oneCell'=true)(B:(a+i)*bytes<=aT)(E:a+i<=maxLen)(F:∀n e h,Own h p f n (a+i) e (m++news)->aj (λj=>some j=aG d) b h->(aG n=aG d\/aG n=some b.heap.size)->o (.slice n (a+i) e) h):
  aJ P (Builtin.append_ #[g,g] C #[.slice d a c,.slice (some d1) i r]) b o t:=by
 obtain⟨H,I,J,K,L,M,N⟩:=kQ.info l;obtain⟨O,h,Q,q,s,U,u⟩:=run_append_own_at (P:=P) b 0 g C p H I f bytes l.under J K L M N l.pos (.slice d a c) a m x.row
  d1 i r news z y A E B (Qj _)
 have R:∀(d:WP) a c,(Value.slice d a c).ownBlock=aG d:=λd a c=>by cases d<;>rfl
 have S:∃n e,O= .slice n (a+i) e:=by
  rcases q.2 with⟨rfl,T⟩|⟨V,v,w,rfl,_⟩
  ·exact⟨none,0,by rw[T]⟩
  ·exact⟨_,_,rfl⟩
 obtain⟨n,e,rfl⟩:=S;simp only[R]at s u;exact aJ.mk Q (F n e h ⟨q⟩ (aj.of_grownBy s) u)
def Ae{n bytes:Nat}(s:kQ h g p n bytes){j news:List Value}(u:Own b p n d a c j)(v:b.heap[i]? =some (.cells m p E))(w:m.toList.take (r*n)=news)(x:news.length=r*n)(y:∀k∈news,k.oneCell'=true)(z:(a+r)*bytes<=aT)(A:a+r<=maxLen)(B:∀P l f,Own f p n P (a+r) l (j++news)->aj (λq=>some q=aG d) b f->(aG P=aG d\/aG P=some b.heap.size)->o (.slice P (a+r) l) f):
  aJ h (Builtin.append_ #[g,g] C #[.slice d a c,.slice (ZM i) r F]) b o t:=by
 exact MF s u (λq k e=>by
   rw[Addr.add_lit,Xz];refine ae v ?_;rw[<-w,Xw]at e;split at e
   ·simpa using e
   ·cases e) x y z A B
def ints(n:List Int):List Value:=n.map (Value.int .i64)
def jW(n:List Int):(ints n).length=n.length:=by simp[ints]
def Own.ints(P:Own b g 1 d a c (ints s))(f:a*8<=aT)(h:∀n∈s,aM n):Ints b d a s:=by
 have e:=P.length;rw[jW,Nat.mul_one]at e;refine⟨e.symm,f,h,λi n j=>?_⟩;obtain⟨k,l,m,o⟩:=P.cell (j:=i) (u:=ZH n) (by simp[aw.ints,j]);exact⟨k,0,l,m,by rw[Xz];exact o⟩
def MG(k:kQ h g p 1 8)(l:Own b p 1 d a c (ints s))(m:b.heap[i]? =some (.cells #[ZH e] p (0,0)))(j:(a+1)*8<=aT)(q:∀n f P,Own P p 1 n (a+1) f (ints (s++[e]))->aj (λr=>some r=aG d) b P->(aG n=aG d\/aG n=some b.heap.size)->o (.slice n (a+1) f) P):
  aJ h (Builtin.append_ #[g,g] C #[.slice d a c,.slice (ZM i) 1 1]) b o t:=
 Ae k (news:=[ZH e]) l m sM sM (by simp[Value.oneCell']) j (by unfold aT at j;unfold maxLen;omega)
  λn f P u v w=>q n f P (by simpa[ints]using u) v w
def CW(a:h.underlying g=some (.slice p))(b:Nat)(n:WP)(c d:Nat)(P:World):
  (Op.equalIn (b+1) g (.slice n c d) (.slice none 0 0)).run h P= .ok n.isNone P:=by
 cases n<;>simp[Op.equalIn,run_underlying a]
def yh(a:h.underlying g=some (.pointer p))(b:Nat)(n:WP)(P:World):
  (Op.equalIn (b+1) g (.pointer n) (.pointer none)).run h P= .ok n.isNone P:=by
 cases n<;>simp[Op.equalIn,run_underlying a]
def k_(n:h.underlying g=some (.slice p))(P:o (.bool d.isNone) b):
  aJ h (do eqGuard .eql g X a1 (.slice d a c) (.slice none 0 0);binOp .eql g (.slice d a c) (.slice none 0 0)) b o t:=by
 refine aJ.mk (v:=.bool d.isNone) ?_ P;have e:(do eqGuard .eql g X a1 (.slice d a c) (.slice none 0 0);binOp .eql g (.slice d a c) (.slice none 0 0):Sem Value).run h b=
  ((Op.equalIn (9999+1) g (.slice d a c) (.slice none 0 0))>>=λf=>(pure (Value.bool f):Sem Value)).run h b:=rfl
 rw[e,Sem.run_bind,CW n]
 rfl
def gW(n:h.underlying g=some (.pointer p))(P:o (.bool d.isNone) b):
  aJ h (do eqGuard .eql g X a1 (.pointer d) (.pointer none);binOp .eql g (.pointer d) (.pointer none)) b o t:=by
 refine aJ.mk (v:=.bool d.isNone) ?_ P;have a:(do eqGuard .eql g X a1 (.pointer d) (.pointer none);binOp .eql g (.pointer d) (.pointer none):Sem Value).run h b=
  ((Op.equalIn (9999+1) g (.pointer d) (.pointer none))>>=λc=>(pure (Value.bool c):Sem Value)).run h b:=rfl
 rw[a,Sem.run_bind,yh n]
 rfl
def qD(c:h.underlying g=some (.pointer p))(a b:Operand)(n:WP)(P:World):
  (do eqGuard .neq g a b (.pointer n) (.pointer none);binOp .neq g (.pointer n) (.pointer none):Sem Value).run h P= .ok (.bool n.isSome) P:=by
 have d:(do eqGuard .neq g a b (.pointer n) (.pointer none);binOp .neq g (.pointer n) (.pointer none):Sem Value).run h P=
  ((Op.equalIn (9999+1) g (.pointer n) (.pointer none))>>=λe=>(pure (Value.bool !e):Sem Value)).run h P:=rfl
 rw[d,Sem.run_bind,yh c]
 cases n<;>rfl
def AE(n:h.underlying g=some (.pointer p))(P:o (.bool d.isSome) b):
  aJ h (do eqGuard .neq g X a1 (.pointer d) (.pointer none);binOp .neq g (.pointer d) (.pointer none)) b o t:=aJ.mk (qD n X a1 d b) P
def Own.Vi{cs:List Value}(e:Own b g a d c i cs)(P:b.heap[r]? =some (.map e5 F)):aG d≠some r:=by
 intro n;rcases e.cases with⟨rfl,_⟩|⟨j,f,rfl,h,_⟩
 ·cases n
 ·simp only[aG,Q1]at n
  subst n;rw[h]at P;cases P
structure cu (F:ZN) (w:World) (F':ZN) (w':World):Prop where
 keep:aj F w w'
 new:∀b,F' b->F b\/w.heap.size<=b
def cu.refl(P:ZN)(n:World):cu P n P n:=⟨aj.refl n,λ_ a=>.inl a⟩
def cu.trans{b G c:ZN}{d e f:World}(n:cu b d G e)(g:cu G e c f):cu b d c f:=
 ⟨n.keep.trans g.keep (λ_ _ n=>n) (λP h i=>(n.new P i).resolve_right oM),λP h=>by
  rcases g.new P h with a|a
  ·exact n.new P a
  ·exact .inr (Xx n.keep.size a)⟩
def cu.last(P:cu f b Z k)(a:aj g5 k a7)(c:∀n,g5 n->b.heap.size<=n):cu f b Z a7:=⟨P.keep.new a λn d=>.inr (c n d),P.new⟩
def cu.af(n:cu f b Z k)(P:ai k a7):cu f b Z a7:=⟨n.keep.then (ai.keep P),n.new⟩
def cu.of(n:ai b k):cu f b f k:=⟨ai.keep n,λa P=>.inl P⟩
end Go.aw
namespace Go.aw
open Go
variable{d1:Addr}{m:Array Value}{K:Bool}{c7 w:ByteArray}{e q:Int}{a4:List Value}{a c i r:Nat}{f:ZN}{E:Nat×Nat}{d x:WP}{h:Program}{L a9:Prop}{j:Type}{C g p:TypeId}{o t:ZR}{a7 b k:World}
def al.dec[Decidable L]{P a:Prop}(b:L->P)(c:¬L->a):al (decide L) P a:=
 al.mk (λn=>b (XV n)) (λn=>c (Xy n))
def al.eO(P:e≠q->L)(a:e=q->a9):al (e !=q) L a9:=
 al.mk (λn=>P (by simpa using n)) (λn=>a (by simpa using n))
def al.eN(P:e=q->L)(a:e≠q->a9):al (e==q) L a9:=
 al.mk (λn=>P (by simpa using n)) (λn=>a (by simpa using n))
def al.not(n:al K a9 L):al (!K) L a9:=by cases K<;>exact n
def Pk(P:w.toList=c7.toList):w=c7:=by
 have a:∀n:ByteArray,n.toList=n.data.toList:=λn=>ByteArray.toList_eq n;rw[a,a]at P;exact ByteArray.ext (Array.toList_inj.1 P)
def al.YA(P:w=c7->L)(a:w≠c7->a9):al (ByteArray.toList w==ByteArray.toList c7) L a9:=
 al.mk (λn=>P (Pk (by simpa using n))) (λn=>a (λb=>by subst b;simp at n))
def al.Y_(n:w≠c7->L)(P:w=c7->a9):al (!(ByteArray.toList w==ByteArray.toList c7)) L a9:=(al.YA P n).not
def an(n:a<4611686018427387904):ZG .i64 ((a:Int)+1)=((a+1:Nat):Int):=by
 rw[wrap_i64 bc];simp
def cy.then(n:cy b k)(P:cy k a7):cy b a7:=by obtain⟨a,rfl⟩:=n;obtain⟨c,rfl⟩:=P;exact⟨a+c,sM⟩
def cy.refl(n:World):cy n n:=⟨0,rfl⟩
structure ky (α:Type) where
 k:Nat
 rep:World->(ZN)->α->List Value->Prop
 keep:∀{S D:ZN} {w w':World} {x:α} {cs:List Value},rep w D x cs->aj S w w'->(∀b,D b->¬S b)->rep w' D x cs
 mono:∀{D D':ZN} {w:World} {x:α} {cs:List Value},rep w D x cs->(∀b,D b->D' b)->rep w D' x cs
 len:∀{D:ZN} {w:World} {x:α} {cs:List Value},rep w D x cs->cs.length=k
 one:∀{D:ZN} {w:World} {x:α} {cs:List Value},rep w D x cs->∀u∈cs,u.oneCell'=true
def flat{b:Type}(c:Nat)(n:b->List Value)(d:b->Prop)(e:∀a,(n a).length=c)(f:∀a,∀g∈n a,g.oneCell'=true):ky b where
 k:=c
 rep:=λ_ _ a cs=>cs=n a/\d a
 keep:=λP _ _=>P
 mono:=λP _=>P
 len:=λP=>by rw[P.1];exact e _
 one:=λP=>by rw[P.1];exact f _
def aP:ky Int:=flat 1 (λn=>[ZH n]) aM (λ_=>rfl) (λn a P=>by simp at P;subst P;rfl)
def gl:ky UInt8:=flat 1 (λn=>[.int .u8 n.toNat]) (λ_=>True) (λ_=>rfl) (λn a P=>by simp at P;subst P;rfl)
def Oz:ky ByteArray:=flat 1 (λn=>[.string n]) (λ_=>True) (λ_=>rfl) (λn a P=>by simp at P;subst P;rfl)
structure Row {α:Type} (c:ky α) (bytes:Nat) (w:World) (D:ZN) (a:WP) (n:Nat) (xs:List α):Prop where
 len:n=xs.length
 fj:n*bytes<=aT
 el:∀(i:Nat) x,xs[i]? =some x->∃b off es,a=some ⟨b,off,none⟩/\b<w.heap.size/\D b/\(∀j,j<c.k->w.cell? ⟨b,off+i*c.k+j,none⟩=es[j]?)/\c.rep w D x es
section
variable {α:Type} {c:ky α} {bytes:Nat} {w w':World} {D D' S:ZN} {a:WP} {n:Nat} {xs:List α}
def Row.keep(d:Row c bytes w D a n xs)(e:aj S w w')(f:∀P,D P->¬S P):Row c bytes w' D a n xs:=
 ⟨d.len,d.fj,λg k l=>by
  obtain⟨P,b,m,o,h,i,p,q⟩:=d.el g k l;exact⟨P,b,m,o,Qk h e.size,i,λj r=>(e.cell (a:=⟨P,b+g*c.k+j,none⟩) h (f P i)).trans (p j r),c.keep q e f⟩⟩
def Row.af(P:Row c bytes w D a n xs)(b:ai w w'):Row c bytes w' D a n xs:=P.keep b λ_ _ P=>P
def Row.mono(b:Row c bytes w D a n xs)(e:∀P,D P->D' P):Row c bytes w D' a n xs:=
 ⟨b.len,b.fj,λf g h=>by
  obtain⟨P,d,i,j,k,l,m,o⟩:=b.el f g h;exact⟨P,d,i,j,k,e P l,m,c.mono o e⟩⟩
def Row.nil(w:World)(D:ZN):Row c bytes w D none 0 []:=⟨rfl,sM,λP a n=>by simp at n⟩
def Row.at(f:Row c bytes w D a n xs){i:Int}(o:0<=i)(p:i<(n:Int)):
  ∃b P x d,a=some ⟨b,P,none⟩/\b<w.heap.size/\D b/\xs[i.toNat]? =some x/\(∀e,e<c.k->w.cell? ⟨b,P+i.toNat*c.k+e,none⟩=d[e]?)/\c.rep w D x d:=by
 have q:=f.len;have g:i.toNat<xs.length:=oM
 obtain⟨b,P,d,h,j,k,l,m⟩:=f.el i.toNat xs[i.toNat] (by simp[g]);exact⟨b,P,_,d,h,j,k,by simp[g],l,m⟩
def Row.HU(g:Row c bytes w D a n xs){i:Nat}(h:i<n):
  ∃b P e f,a=some ⟨b,P,none⟩/\b<w.heap.size/\D b/\xs[i]? =some e/\(∀d,d<c.k->w.cell? ⟨b,P+i*c.k+d,none⟩=f[d]?)/\c.rep w D e f:=by
 have:=g.at (i:=(i:Int)) oM oM;simpa using this
end
def Row.oF{c:j->Value}{f:j->Prop}{hl h1}{bytes:Nat}{D:ZN}{g:List j}(h:Row (flat 1 (λP=>[c P]) f hl h1) bytes b D d a g){i:Nat}(k:i<a):
  ∃e n P,d=some ⟨e,n,none⟩/\g[i]? =some P/\f P/\b.cell? ⟨e,n+i,none⟩=some (c P):=by
 obtain⟨e,n,P,q,l,r,_,m,o,rfl,p⟩:=h.HU k;refine⟨e,n,P,l,m,p,?_⟩;have:=o 0 Nat.one_pos;simpa[flat]using this
def bV{n:Type}(P:ky n)(a:World)(D:ZN):List n->List Value->Prop
 |[],cs=>cs=[]
 |x::d,cs=>∃b c,cs=b++c/\P.rep a D x b/\bV P a D d c
section
variable {α:Type} {c:ky α} {w w':World} {D D' S:ZN}
def bV.keep(P:aj S w w')(a:∀b,D b->¬S b):∀{n:List α} {cs:List Value},bV c w D n cs->bV c w' D n cs
 |[],_,d=>d
 |x::n,_,⟨e,f,g,h,i⟩=>⟨e,f,g,c.keep h P a,bV.keep P a i⟩
def bV.mono(P:∀a,D a->D' a):∀{n:List α} {cs:List Value},bV c w D n cs->bV c w D' n cs
 |[],_,b=>b
 |x::n,_,⟨d,e,f,g,h⟩=>⟨d,e,f,c.mono g P,bV.mono P h⟩
def bV.append:∀{xs P:List α} {cs n:List Value},bV c w D xs cs->bV c w D P n->bV c w D (xs++P) (cs++n)
 |[],P,_,n,b,a=>by cases b;exact a
 |x::xs,P,_,n,⟨d,e,f,g,h⟩,a=>⟨d,e++n,by rw[f,XQ],g,bV.append h a⟩
def bV.one{x:α}(n:c.rep w D x a4):bV c w D [x] a4:=⟨a4,[],sM,n,rfl⟩
def bV.length:∀{n:List α} {cs:List Value},bV c w D n cs->cs.length=n.length*c.k
 |[],_,P=>by cases P;simp
 |x::n,_,⟨e,f,a,b,d⟩=>by
  rw[a,QX,c.len b,bV.length d,Xq,X7,Nat.one_mul,Nat.add_comm]
def bV.RG:∀{a:List α} {cs:List Value},bV c w D a cs->∀P∈cs,P.oneCell'=true
 |[],_,b,P,n=>by cases b;simp at n
 |x::a,_,⟨g,h,d,e,f⟩,P,n=>by
  rw[d]at n;rcases Q6.1 n with n|n
  ·exact c.one e P n
  ·exact bV.RG f P n
def bV.at:∀{b:List α} {cs:List Value},bV c w D b cs->∀{i:Nat} {x:α},b[i]? =some x->∃a,(∀n,n<c.k->cs[i*c.k+n]? =a[n]?)/\c.rep w D x a
 |[],_,l,i,x,P=>by simp at P
 |y::b,_,⟨a,m,d,e,g⟩,i,x,P=>by
  have o:=c.len e
  cases i with
  |zero=>
   simp at P;subst P;refine⟨a,λn f=>?_,e⟩;rw[d,Nat.zero_mul,Xz,XW oM]
  |succ i=>
   obtain⟨h,j,k⟩:=bV.at g (i:=i) (x:=x) (by simpa using P);refine⟨h,λn f=>?_,k⟩;rw[d,X7,Nat.one_mul,X8 oM,<-j n f]
   congr 1
   omega
def bV.take:∀{n:List α} {cs:List Value},bV c w D n cs->∀(m:Nat),bV c w D (n.take m) (cs.take (m*c.k))
 |[],_,a,m=>by cases a;simp[bV]
 |x::n,_,⟨b,d,e,P,f⟩,m=>by
  have g:=c.len P
  cases m with
  |zero=>simp[bV]
  |succ m=>
   refine⟨b,d.take (m*c.k),?_,P,bV.take f m⟩;rw[e,X7,Nat.one_mul,Nat.add_comm,List.take_append,g,Qz oM]
   congr 2
   omega
def Row.aD{bytes:Nat}{h:List α}(v:Row c bytes w D d a h):∃cs,bV c w D h cs/\(h≠[]->0<c.k->∃P n,d=some ⟨P,n,none⟩/\P<w.heap.size/\D P/\∀b e,cs[b]? =some e->w.cell? ⟨P,n+b,none⟩=some e):=by
 have k:∀(l:List α) (f:Nat),(∀i j,l[i]? =some j->h[f+i]? =some j)->∃cs,bV c w D l cs/\∀P n,d=some ⟨P,n,none⟩->0<c.k->∀b e,cs[b]? =some e->w.cell? ⟨P,n+f*c.k+b,none⟩=some e:=by
  intro l
  induction l with
  |nil=>intro f _;exact⟨[],rfl,λP n _ _ b e g=>by simp at g⟩
  |cons x l F=>
   intro f y;obtain⟨z,q,r⟩:=F (f+1) (λi j s=>by have:=y (i+1) j (by simpa using s);rw[show f+1+i=f+(i+1) by omega];exact this);obtain⟨P,n,p,m,A,B,C,t⟩:=v.el f x (y 0 x rfl);refine⟨p++z,⟨p,z,rfl,t,q⟩,λJ E o u b e g=>?_⟩;rw[m]at o;cases o
   have K:=c.len t
   by_cases H:b<c.k
   ·rw[XW oM]at g
    rw[<-g];exact C b H
   ·rw[X8 oM]at g
    have:=r P n m u (b-p.length) e g;rw[<-this]
    congr 2
    rw[X7];omega
 obtain⟨cs,q,r⟩:=k h 0 (λi j s=>by simpa using s);refine⟨cs,q,λI u=>?_⟩
 cases h with
 |nil=>exact Zz rfl I
 |cons j h=>
  obtain⟨P,n,p,m,A,B,C,t⟩:=v.el 0 j rfl;refine⟨P,n,m,A,B,λb e g=>?_⟩;have:=r P n m u b e g;simpa using this
end
structure aV {α:Type} (c:ky α) (e:TypeId) (F:ZN) (w:World) (a:WP) (n cap:Nat) (xs:List α):Prop where
 body:∃cs D,Own w e c.k a n cap cs/\bV c w D xs cs/\(∀b,D b->F b/\aG a≠some b)
 self:∀b,aG a=some b->F b
 aE:∀b,F b->b<w.heap.size
section
variable {α:Type} {c:ky α} {e:TypeId} {w w':World} {F F' S:ZN} {a:WP} {n cap:Nat} {xs:List α}
def aV.nil(w:World):aV c e (λ_=>False) w none 0 0 []:=
 ⟨⟨[],λ_=>False,Own.nil _ _ _,rfl,λ_ n=>n.elim⟩,λP n=>(by cases n),λ_ n=>n.elim⟩
def aV.keep(d:aV c e F w a n cap xs)(f:aj S w w')(g:∀P,F P->¬S P):aV c e F w' a n cap xs:=by
 obtain⟨cs,D,i,j,h⟩:=d.body;exact⟨⟨cs,D,i.keep f (dw.2 λP b=>g P (d.self P b)),j.keep f (λP b=>g P (h P b).1),h⟩,d.self,λP b=>Qk (d.aE P b) f.size⟩
def aV.af(P:aV c e F w a n cap xs)(b:ai w w'):aV c e F w' a n cap xs:=P.keep b λ_ _ P=>P
def aV.mono(d:aV c e F w a n cap xs)(f:∀P,F P->F' P)(h:∀P,F' P->P<w.heap.size):aV c e F' w a n cap xs:=by
 obtain⟨cs,D,i,j,g⟩:=d.body;exact⟨⟨cs,D,i,j,λP b=>⟨f P (g P b).1,(g P b).2⟩⟩,λP b=>f P (d.self P b),h⟩
def aV.len(b:aV c e F w a n cap xs)(d:0<c.k):n=xs.length:=by
 obtain⟨cs,D,f,g,h⟩:=b.body;have P:=f.length;rw[g.length]at P;exact(Nat.eq_of_mul_eq_mul_right d P).symm
def Own.RF{P:Nat}{cs:List Value}(b:Own w e P a n cap cs):n<=cap:=by
 rcases b.cases with⟨_,rfl,rfl,_⟩|⟨f,c,_,_,d,_,_⟩
 ·exact Q4 _
 ·exact d
def aV.row{bytes:Nat}(d:aV c e F w a n cap xs)(i:0<c.k)(f:xs.length*bytes<=aT):Row c bytes w F a n xs:=by
 have j:=d.len i;obtain⟨cs,D,k,r,s⟩:=d.body;refine⟨j,by rw[j];exact f,λz A t=>?_⟩;obtain⟨g,l,m⟩:=r.at t;have B:=c.len m;have o:=l 0 i;rw[Nat.add_zero,Qq (show 0<g.length by omega)]at o;obtain⟨p,h,u,_⟩:=k.cell o;refine⟨p,0,g,h,u,d.self p (by rw[h];rfl),λq v=>?_,c.mono m λx f=>(s x f).1⟩;have P:=l q v;rw[Qq (show q<g.length by omega)]at P⊢;obtain⟨C,b,_,y⟩:=k.cell P;rw[h]at b;cases b
 rw[Xz];exact y
def NM{bytes:Nat}{x:α}(f:aV c e F w a n cap xs)(z:kQ h g e c.k bytes){D:ZN}(r:c.rep w D x m.toList)(k:∀P,D P->P<w.heap.size/\aG a≠some P)(b:(xs.length+1)*bytes<=aT)(I:xs.length+1<=maxLen)(s:∀j i w' F',aV c e F' w' j (n+1) i (xs++[x])->aj (λu=>aG a=some u) w w'->(∀P,F' P->F P\/D P\/w.heap.size<=P)->(∀P,aG j=some P->F P\/w.heap.size<=P)->o (.slice j (n+1) i) w'):
  PA w (.cells m e) λv=>aJ h (Builtin.append_ #[g,g] p #[.slice a n cap,.slice (ZM w.heap.size) 1 1]) v o t:=by
 have A:=f.len z.pos;obtain⟨cs,J,K,L,l⟩:=f.body;refine PA.mk λv C R M=>?_;have S:=c.len r;have N:=K.af C;refine Ae z (news:=m.toList) N M (by rw[Qz oM]) oM (c.one r) (by rw[A];exact b) (by rw[A];exact I) λj O q E H B=>?_;have y:aj (λu=>aG a=some u) w q:=(ai.keep C).then (H.mono λ_ _ f=>f.symm)
 let F':ZN:=λP=>F P\/D P\/(w.heap.size<=P/\P<q.heap.size)
 have T:v.heap.size<=q.heap.size:=H.size;refine s j O q F' ⟨⟨_,λP=>J P\/D P,E,bV.append ((L.keep y λP b=>(l P b).2).mono λP b=>.inl b) (bV.one (c.mono (c.keep r y λP b=>(k P b).2) λP b=>.inr b)),?_⟩,?_,?_⟩ y ?_ ?_
 ·intro P b
  have U:P<w.heap.size:=b.elim (λd=>f.aE P (l P d).1) λd=>(k P d).1;refine⟨b.elim (λd=>.inl (l P d).1) λd=>.inr (.inl d),?_⟩;rcases B with B|B
  ·rw[B];exact b.elim (λd=>(l P d).2) λd=>(k P d).2
  ·rw[B];intro Q;cases Q;omega
 ·intro P b
  rcases B with B|B
  ·exact .inl (f.self P (B▸b))
  ·have:=E.lt b
   rw[B]at b;cases b;exact .inr (.inr ⟨oM,this⟩)
 ·rintro P (b|b|b)
  ·have:=f.aE P b;omega
  ·have:=(k P b).1;omega
  ·exact b.2
 ·rintro P (b|b|b)
  ·exact .inl b
  ·exact .inr (.inl b)
  ·exact .inr (.inr b.1)
 ·intro P b
  rcases B with B|B
  ·exact .inl (f.self P (B▸b))
  ·rw[B]at b;cases b;exact .inr oM
def lK{bytes:Nat}(f:aV c e F w a n cap xs)(x:kQ h g e c.k bytes){D:ZN}{m L:Nat}{k:List α}(C:Row c bytes w D (some d1) m k)(q:∀P,D P->P<w.heap.size/\aG a≠some P)(b:(xs.length+k.length)*bytes<=aT)(M:xs.length+k.length<=maxLen)(y:∀l i w' F',aV c e F' w' l (n+m) i (xs++k)->aj (λj=>aG a=some j) w w'->(∀P,F' P->F P\/D P\/w.heap.size<=P)->(∀P,aG l=some P->F P\/w.heap.size<=P)->o (.slice l (n+m) i) w'):
  aJ h (Builtin.append_ #[g,g] p #[.slice a n cap,.slice (some d1) m L]) w o t:=by
 have E:=f.len x.pos;have z:=C.len;obtain⟨cs,N,O,Q,r⟩:=f.body;obtain⟨H,s,R⟩:=C.aD;have S:∀j u,H[j]? =some u->w.cell? (d1.add j)=some u:=λj u I=>by
  have T:k≠[]:=by rintro rfl;have:=s.length;simp at this;subst this;simp at I
  obtain⟨P,U,V,_,_,W⟩:=R T x.pos
  cases V
  rw[Addr.add_lit];exact W j u I
 refine MF x (news:=H) O S (by rw[s.length,z]) s.RG (by rw[E,z];exact b) (by rw[E,z];exact M) λl X v J K B=>?_;have A:aj (λj=>aG a=some j) w v:=K.mono λ_ _ f=>f.symm
 let F':ZN:=λP=>F P\/D P\/(w.heap.size<=P/\P<v.heap.size)
 have Z:w.heap.size<=v.heap.size:=K.size;refine y l X v F' ⟨⟨_,λP=>N P\/D P,J,bV.append ((Q.keep A λP b=>(r P b).2).mono λP b=>.inl b) ((s.keep A λP b=>(q P b).2).mono λP b=>.inr b),?_⟩,?_,?_⟩ A ?_ ?_
 ·intro P b
  have a1:P<w.heap.size:=b.elim (λd=>f.aE P (r P d).1) λd=>(q P d).1;refine⟨b.elim (λd=>.inl (r P d).1) λd=>.inr (.inl d),?_⟩;rcases B with B|B
  ·rw[B];exact b.elim (λd=>(r P d).2) λd=>(q P d).2
  ·rw[B];intro Y;cases Y;omega
 ·intro P b
  rcases B with B|B
  ·exact .inl (f.self P (B▸b))
  ·have:=J.lt b
   rw[B]at b;cases b;exact .inr (.inr ⟨Q4 _,this⟩)
 ·rintro P (b|b|b)
  ·have:=f.aE P b;omega
  ·have:=(q P b).1;omega
  ·exact b.2
 ·rintro P (b|b|b)
  ·exact .inl b
  ·exact .inr (.inl b)
  ·exact .inr (.inr b.1)
 ·intro P b
  rcases B with B|B
  ·exact .inl (f.self P (B▸b))
  ·rw[B]at b;cases b;exact .inr oM
end
def bV.free{a:Type}{c:Nat}{n:a->List Value}{d:a->Prop}{hl P}{e f:World}{D g:ZN}:∀{b:List a} {cs:List Value},bV (flat c n d hl P) e D b cs->bV (flat c n d hl P) f g b cs
 |[],_,h=>h
 |x::b,_,⟨i,j,P,k,l⟩=>⟨i,j,P,k,l.free⟩
def aV.alone{n:j->List Value}{k:j->Prop}{hl h1}{l:List j}(P:aV (flat a n k hl h1) g f b d c i l):
  aV (flat a n k hl h1) g (λe=>aG d=some e) b d c i l:=by
 obtain⟨cs,p,m,o,q⟩:=P.body;exact⟨⟨cs,λ_=>False,m,o.free,λ_ P=>P.elim⟩,λe h=>h,λe h=>P.aE e (P.self e h)⟩
def qC{P:Type}(g:ky P)(h:TypeId)(a:World)(i:List P)(j:Value)(b:World):Prop:=
 ∃c d n e,j= .slice c d n/\aV g h e b c d n i/\ai a b/\∀f,e f->a.heap.size<=f
def Row.lit{enc:j->Value}{c:j->Prop}{hl h1}{bytes:Nat}{cs:Array Value}(d:b.heap[a]? =some (.cells cs g E))(P:List j)(h:cs.toList=P.map enc)(i:∀n∈P,c n)(k:P.length*bytes<=aT):
  Row (flat 1 (λn=>[enc n]) c hl h1) bytes b (·=a) (ZM a) P.length P:=
 ⟨rfl,k,λe n f=>⟨a,0,[enc n],rfl,aA d,rfl,λl m=>by
  have:l=0:=Nat.lt_one_iff.1 m;subst this;have:cs.toList[e]? =some (enc n):=by rw[h];simp[f]
  have o:=ae d (off:=e) (v:=enc n) (by simpa using this);simpa[flat]using o,rfl,i n (QZ f)⟩⟩
def Row.part{n:ky j}{bytes:Nat}{D:ZN}{f:List j}(c:Row n bytes b D d a f){lo hi cap:Nat}(u:lo<=hi)(v:hi<=a)(w:a<=cap):
  Row n bytes b D (dd d lo cap n.k) (hi-lo) ((f.take hi).drop lo):=by
 have x:=c.len;refine⟨by simp;omega,Xx (Q0 _ oM) c.fj,λg h P=>?_⟩;rw[List.getElem?_drop,Xw]at P;split at P
 ·rename_i y
  obtain⟨i,e,k,l,m,o,p,q⟩:=c.el (lo+g) h P
  by_cases r:cap=lo
  ·omega
  ·exact⟨i,e+lo*n.k,k,by rw[l];simp[dd,r,Addr.add_lit],m,o,λs t=>by rw[<-p s t];congr 2;rw[X7];omega,q⟩
 ·cases P
def aV.lA{n:ky j}{P:List j}(e:aV n g f b d a c P):a<=c:=by
 obtain⟨cs,i,h,_⟩:=e.body;exact h.RF
def Row.take{c:ky j}{bytes:Nat}{D:ZN}{e:List j}(P:Row c bytes b D d a e){m:Nat}(f:m<=a):Row c bytes b D d m (e.take m):=by
 have h:=P.len;refine⟨by simp;omega,Xx (Q0 _ f) P.fj,λg x n=>?_⟩;rw[Xw]at n;split at n
 ·exact P.el g x n
 ·cases n
def Aj{e:ky j}{q:List j}{bytes:Nat}(s:aV e g f b d a c q)(u:kQ h p g e.k bytes){D:ZN}{k:List j}(y:Row e bytes b D x i k)(A:x=none->i=0/\r=0)(B:∀n,D n->n<b.heap.size/\aG d≠some n)(l:(q.length+k.length)*bytes<=aT)(E:q.length+k.length<=maxLen)(m:∀v P w z,aV e g z w v (a+i) P (q++k)->aj (λF=>aG d=some F) b w->(∀n,z n->f n\/D n\/b.heap.size<=n)->(∀n,aG v=some n->f n\/b.heap.size<=n)->o (.slice v (a+i) P) w):
  aJ h (Builtin.append_ #[p,p] C #[.slice d a c,.slice x i r]) b o t:=by
 cases x with
 |some M=>exact lK s u y B l E m
 |none=>
  obtain⟨rfl,rfl⟩:=A rfl;have H:k=[]:=QW y.len.symm;subst H;obtain⟨I,N,J,O,Q,R,S⟩:=kQ.info u;obtain⟨cs,T,K,U,V⟩:=s.body;have L:=run_append_owned_none (P:=h) (w:=b) 0 p C g I e.k u.under J (.slice d a c) a cs K.row;exact aJ.mk L (m d c b f (by simpa using s) (aj.refl _) (λn l=>.inl l) λn l=>.inl (s.self n l))
def aV.Ot{n:ky j}{P:List j}(e:aV n g f b d a c P)(h:d=none):a=0/\c=0:=by
 obtain⟨cs,o,i,_⟩:=e.body;rcases i.cases with⟨_,k,l,_⟩|⟨p,m,rfl,_⟩
 ·exact⟨k,l⟩
 ·cases h
def VT(i:kQ h g p 1 1)(d:(h.info? p).bind (·.zero)=some (.int .u8 0))(j:a<=c)(n:c<=aT)(e:∀P,aV gl p (·=b.heap.size) P (ZM b.heap.size) a c (List.replicate a 0)->ai b P->P.heap.size=b.heap.size+1->o (.slice (ZM b.heap.size) a c) P):
  aJ h (Instr.makeSlice g (ZH (a:Int)) (ZH (c:Int))) b o t:=by
 unfold aT at n;obtain⟨q,r,k,l,s,u,A⟩:=i.info;have v:r= .int .u8 0:=by
  rw[k]at d;simp only[Option.bind_some,l]at d;exact XJ d
 subst v;have m:=run_make (P:=h) b g p q _ i.under k l .i64 .i64 a c oM oM (by rw[u];omega) oM;rw[Qx,Qx,s,Nat.mul_one]at m;have w:ai b (b.alloc (.cells (madeCells (Value.int .u8 0).cells c) p)):=aj.alloc b _;have x:(madeCells (Value.int .u8 0).cells c).toList=List.replicate c (.int .u8 0):=by
  unfold madeCells;rw[Array.toList_map];apply List.ext_getElem
  ·simp
  ·intro B C E
   simp[Value.cells,Nat.mod_one]
 refine aJ.mk m (e _ ⟨⟨List.replicate a (.int .u8 0),λ_=>False,⟨⟨by simp[gl,flat],.inr ⟨b.heap.size,c,_,rfl,Qj _,heap_alloc_new b _,j,by unfold maxLen;omega,by simp[size_madeCells,gl,flat],?_⟩⟩⟩,?_,λ_ e=>e.elim⟩,λy n=>by simpa[aG]using n.symm,λy n=>by subst n;simp⟩ w sM)
 ·rw[x]
  simp only[gl,flat,Nat.mul_one,List.take_replicate];rw[X2 j]
 ·have f:∀a:Nat,bV gl (b.alloc (.cells (madeCells (Value.int .u8 0).cells c) p)) (λ_=>False) (List.replicate a 0) (List.replicate a (.int .u8 0)):=by
   intro a
   induction a with
   |zero=>rfl
   |succ a z=>exact⟨[.int .u8 0],List.replicate a (.int .u8 0),rfl,⟨rfl,trivial⟩,z⟩
  exact f a
end Go.aw
namespace Go.aw
open Go
def fZ(n:Nat):List UInt8:=if P:n=0 then []else UInt8.ofNat (n % 256)::fZ (n/256)
termination_by n
decreasing_by omega
def jS:fZ 0=[]:=by rw[fZ];simp
variable{e:Int}{a:Nat}
def lW(n:a≠0):fZ a=UInt8.ofNat (a % 256)::fZ (a/256):=by rw[fZ];simp[n]
def yK:∀(n:Nat),n<2 ^ 64->(fZ n).length=(Lib.bitLen n+7)/8:=by
 intro n
 induction n using Nat.strongRecOn with
 |_ n b=>
  intro a
  by_cases P:n=0
  ·subst P;rw[jS];decide
  ·rw[lW P,Xq]
   by_cases c:n<256
   ·have d:n/256=0:=oM
    rw[d,jS];have f:Lib.bitLen n<=8:=Lib.bitLen_le8 ⟨n,c⟩;have g:1<=Lib.bitLen n:=(Lib.bitLenAux_bounds 64 n a P).1;simp;omega
   ·have:=b (n/256) oM oM
    rw[this];have e:=Lib.bitLen_shift 8 n oM a;rw[show(2:Nat) ^ 8=256 from rfl]at e;omega
def Ct{u:Nat}(n:u<2 ^ 64):(fZ u).length<=8:=by
 rw[yK u n]
 by_cases P:u=0
 ·subst P;decide
 ·have a:=Lib.bitLenAux_bounds 64 u n P
  have:Lib.bitLen u<=64:=by
   apply Nat.le_of_not_lt;intro b;have c:2 ^ 64<=2 ^(Lib.bitLen u-1):=Nat.pow_le_pow_right oM oM;have d:2 ^(Lib.bitLen u-1)<=u:=a.2.1;omega
  omega
def Sf:∀(a n:Nat),a<(fZ n).length->(fZ n)[a]? =some (UInt8.ofNat (n/256 ^ a % 256)):=by
 intro a
 induction a with
 |zero=>
  intro n P
  by_cases b:n=0
  ·subst b;rw[jS]at P;simp at P
  ·rw[lW b];simp
 |succ a c=>
  intro n P
  by_cases b:n=0
  ·subst b;rw[jS]at P;simp at P
  ·rw[lW b]at P⊢
   have:=c (n/256) (by simpa using P);rw[ZZ,this,Nat.div_div_eq_div_mul,Nat.pow_succ,Nat.mul_comm 256]
def gO(n:List UInt8):Nat:=n.foldl (λP a=>P*256+a.toNat) 0
def yL(n:List UInt8)(P:UInt8):gO (n++[P])=gO n*256+P.toNat:=by simp[gO,List.foldl_append]
def Ns(n:List UInt8):gO n<256 ^ n.length:=by
 suffices b:∀(n:List UInt8) (P a:Nat),P<256 ^ a->n.foldl (λP c=>P*256+c.toNat) P<256 ^(a+n.length) by
  have:=b n 0 0 sM;simpa[gO]using this
 intro n
 induction n with
 |nil=>intro P a b;simpa using b
 |cons c n d=>
  intro P a b;have e:=c.toNat_lt;have:=d (P*256+c.toNat) (a+1) (by rw[Nat.pow_succ];omega);rw[List.foldl_cons,Xq];rw[show a+(n.length+1)=a+1+n.length by omega];exact this
def Sg:∀(n:Nat),gO (fZ n).reverse=n:=by
 intro n
 induction n using Nat.strongRecOn with
 |_ n a=>
  by_cases P:n=0
  ·subst P;rw[jS];rfl
  ·rw[lW P,List.reverse_cons,yL,a (n/256) oM]
   have:(UInt8.ofNat (n % 256)).toNat=n % 256:=by rw[ZK];omega
   rw[this];omega
def Pg:∀(n:Nat),n≠0->(fZ n).getLast? ≠some 0:=by
 intro n
 induction n using Nat.strongRecOn with
 |_ n b=>
  intro c;rw[lW c]
  by_cases P:n/256=0
  ·rw[P,jS]
   simp only[List.getLast?_singleton,ne_eq,Q1];intro d;have:=Zj UInt8.toNat d;rw[ZK]at this;simp at this;omega
  ·have a:fZ (n/256)≠[]:=by rw[lW P];simp
   rw[List.getLast?_cons,List.getLast?_eq_some_getLast a,Option.getD_some];have:=b (n/256) oM P;rw[List.getLast?_eq_some_getLast a]at this;exact this
def dY(n:Int):List UInt8:=UInt8.ofNat ((fZ n.natAbs).length+if n<0 then 16 else 0)::(fZ n.natAbs).reverse
def rdNum(b:List UInt8):Int×Int×Nat:=match b with
 |[]=>(4,0,0)
 |h::a=>
  let n:=if 16<h.toNat then h.toNat-16 else h.toNat
  let P:=gO (a.take n)
  if 8<n then(5,0,0)
  else if a.length<n then(4,0,0)
  else if(0<n/\a.head? =some 0)\/(¬16<h.toNat/\2 ^ 63<=P)\/(16<h.toNat/\2 ^ 63<P)then(5,0,0)
  else(0,if 16<h.toNat then-(P:Int)else P,n+1)
def EY(p:aM e)(c:List UInt8):rdNum (dY e++c)=(0,e,(dY e).length):=by
 unfold aM at p;have q:e.natAbs<2 ^ 64:=oM
 have r:=Ct q;have d:(fZ e.natAbs).reverse.length=(fZ e.natAbs).length:=List.length_reverse ..;have g:=Sg e.natAbs;have l:e<0->1<=(fZ e.natAbs).length:=λu=>by rw[lW oM];simp
 have h:0<(fZ e.natAbs).length->((fZ e.natAbs).reverse++c).head? ≠some 0:=λf=>by
  have s:e.natAbs≠0:=λb=>by rw[b,jS]at f;simp at f
  have:=Pg _ s;rw[List.head?_append,List.head?_reverse]
  cases i:(fZ e.natAbs).getLast? with
  |none=>rw[List.getLast?_eq_none_iff]at i;rw[i]at f;simp at f
  |some v=>rw[i]at this;simpa using this
 unfold dY;rw[List.cons_append];generalize fZ e.natAbs=n at r d g l h⊢;have t:(UInt8.ofNat (n.length+if e<0 then 16 else 0)).toNat=n.length+if e<0 then 16 else 0:=by
  rw[ZK];split<;>omega
 have m:(n.reverse++c).take n.length=n.reverse:=by
  rw[<-d,List.take_left]
 have o:¬(n.reverse++c).length<n.length:=sM
 unfold rdNum;simp only[t]
 by_cases j:e<0
 ·have w:=l j
  simp only[Zx j];have k:(if 16<n.length+16 then n.length+16-16 else n.length+16)=n.length:=by rw[Zx oM];omega
  simp only[k,m,g];rw[Zq oM,Zq o,Zq,Zx oM]
  ·have b: -(e.natAbs:Int)=e:=oM
   rw[b,Xq,d]
  ·rintro(⟨P,a⟩|⟨P,a⟩|⟨P,a⟩)
   ·exact h P a
   ·omega
   ·omega
 ·simp only[Zq j,Nat.add_zero]
  have k:(if 16<n.length then n.length-16 else n.length)=n.length:=by rw[Zq oM]
  simp only[k,m,g];rw[Zq oM,Zq o,Zq,Zq oM]
  ·have b:(e.natAbs:Int)=e:=oM
   rw[b,Xq,d]
  ·rintro(⟨P,a⟩|⟨P,a⟩|⟨P,a⟩)
   ·exact h P a
   ·omega
   ·omega
end Go.aw
namespace Go.aw
open Go
abbrev sr:=BitVec 32
def BB:sr:=0xEDB88320#32
def og(n:sr):sr:=(n>>>1) ^^^(if n.getLsbD 0 then BB else 0#32)
def BC(n P:sr):og (n ^^^ P)=og n ^^^ og P:=by
 unfold og;rw[BitVec.ushiftRight_xor_distrib,BitVec.getLsbD_xor]
 cases n.getLsbD 0<;>cases P.getLsbD 0<;>simp only[Bool.xor_false,Bool.xor_true,Bool.not_true,Bool.not_false,if_true,if_false,Bool.false_eq_true,BitVec.xor_zero,BitVec.zero_xor]
 ·ac_rfl
 ·ac_rfl
 ·have:(n>>>1 ^^^ BB) ^^^(P>>>1 ^^^ BB)=(n>>>1 ^^^ P>>>1) ^^^(BB ^^^ BB):=by ac_rfl
  rw[this,BitVec.xor_self,BitVec.xor_zero]
def pQ(n:sr):sr:=og (og (og (og (og (og (og (og n)))))))
def Eo(n P:sr):pQ (n ^^^ P)=pQ n ^^^ pQ P:=by
 unfold pQ;simp only[BC]
def Vx(n:Bool):sr:=if n then 1#32 else 0#32
def BD(n:sr)(P:Bool):sr:=(n>>>1) ^^^(if n.getLsbD 0 !=P then BB else 0#32)
def Ep(n:sr)(P:Bool):BD n P=og (n ^^^ Vx P):=by
 unfold BD
 cases P
 ·simp[Vx,og]
 ·rw[BC]
  have:og (Vx true)=BB:=by decide+kernel
  rw[this];unfold og
  cases n.getLsbD 0
  ·simp
  ·have a:(n>>>1 ^^^(if true=true then BB else 0#32)) ^^^ BB=n>>>1 ^^^(BB ^^^ BB):=by rw[Zx rfl];ac_rfl
   rw[a,BitVec.xor_self];simp
def lg(n:sr)(P:UInt8):sr:=(List.range 8).foldl (λn a=>BD n (P.toNat.testBit a)) n
def yq(n:UInt8):sr:=BitVec.ofNat 32 n.toNat
def ID(n:sr)(a:UInt8):lg n a=pQ n ^^^ lg 0#32 a:=by
 have e:∀(P:List Nat) (b c:sr),(P.foldl (λn d=>BD n (a.toNat.testBit d)) (b ^^^ c))=(P.foldl (λn _=>og n) b) ^^^(P.foldl (λn d=>BD n (a.toNat.testBit d)) c):=by
  intro P
  induction P with
  |nil=>intro b c;rfl
  |cons d P f=>
   intro b c;simp only[List.foldl_cons];rw[<-f]
   congr 1
   rw[Ep,Ep];simp only[BC]
   ac_rfl
 have:=e (List.range 8) n 0#32;rw[BitVec.xor_zero]at this;exact this
def IE(n:UInt8):lg 0#32 n=pQ (yq n):=by
 have a:(List.range 256).all (λP=>lg 0#32 (UInt8.ofNat P)==pQ (yq (UInt8.ofNat P)))=true:=by decide+kernel
 have:=ZY.1 a n.toNat (List.mem_range.2 n.toNat_lt);simpa using this
def Lq(n:sr)(P:UInt8):lg n P=pQ (n ^^^ yq P):=by
 rw[ID,IE,Eo]
def Ow{n:sr}(P:n.getLsbD 0=false):og n=n>>>1:=by
 unfold og;rw[P];simp
def Lr(P:sr):pQ (P&&&0xFFFFFF00#32)=P>>>8:=by
 have bit:∀n,n<8->((P&&&0xFFFFFF00#32)>>>n).getLsbD 0=false:=λn b=>by
  rw[BitVec.getLsbD_ushiftRight,BitVec.getLsbD_and,Nat.add_zero];have:(0xFFFFFF00#32:sr).getLsbD n=false:=by
   have c:(List.range 8).all (λn=>(0xFFFFFF00#32:sr).getLsbD n==false)=true:=by decide+kernel
   simpa using ZY.1 c n (List.mem_range.2 b)
  rw[this,Bool.and_false]
 have step:∀n,n<8->og ((P&&&0xFFFFFF00#32)>>>n)=(P&&&0xFFFFFF00#32)>>>(n+1):=λn b=>by
  rw[Ow (bit n b),BitVec.shiftRight_add]
 have d:P&&&0xFFFFFF00#32=(P&&&0xFFFFFF00#32)>>>0:=sM
 unfold pQ;rw[d,step 0 oM,step 1 oM,step 2 oM,step 3 oM,step 4 oM,step 5 oM,step 6 oM,step 7 oM];apply BitVec.eq_of_getLsbD_eq;intro a e;rw[BitVec.getLsbD_ushiftRight,BitVec.getLsbD_ushiftRight,BitVec.getLsbD_and]
 by_cases f:7+1+a<32
 ·have:(0xFFFFFF00#32:sr).getLsbD (7+1+a)=true:=by
   have c:(List.range 24).all (λa=>(0xFFFFFF00#32:sr).getLsbD (7+1+a)==true)=true:=by decide+kernel
   simpa using ZY.1 c a (List.mem_range.2 oM)
  rw[this,Bool.and_true]
 ·rw[BitVec.getLsbD_of_ge _ _ oM]
  simp
def kJ:List Nat:=[0x00000000,0x77073096,0xEE0E612C,0x990951BA,0x076DC419,0x706AF48F,0xE963A535,0x9E6495A3,0x0EDB8832,0x79DCB8A4,0xE0D5E91E,0x97D2D988,0x09B64C2B,0x7EB17CBD,0xE7B82D07,0x90BF1D91]
def kK:List Nat:=[0x00000000,0x1DB71064,0x3B6E20C8,0x26D930AC,0x76DC4190,0x6B6B51F4,0x4DB26158,0x5005713C,0xEDB88320,0xF00F9344,0xD6D6A3E8,0xCB61B38C,0x9B64C2B0,0x86D3D2D4,0xA00AE278,0xBDBDF21C]
def Ls(n:UInt8):pQ (yq n)=BitVec.ofNat 32 (kJ.getD (n.toNat % 16) 0) ^^^ BitVec.ofNat 32 (kK.getD (n.toNat/16) 0):=by
 have a:(List.range 256).all (λP=>pQ (yq (UInt8.ofNat P))==BitVec.ofNat 32 (kJ.getD ((UInt8.ofNat P).toNat % 16) 0) ^^^ BitVec.ofNat 32 (kK.getD ((UInt8.ofNat P).toNat/16) 0))=true:=by decide+kernel
 have:=ZY.1 a n.toNat (List.mem_range.2 n.toNat_lt);simpa using this
def Ov(n:sr)(a:UInt8):lg n a=n>>>8 ^^^ BitVec.ofNat 32 (kJ.getD ((a.toNat ^^^ n.toNat % 256) % 16) 0) ^^^ BitVec.ofNat 32 (kK.getD ((a.toNat ^^^ n.toNat % 256)/16) 0):=by
 have f:=a.toNat_lt;have m:a.toNat ^^^ n.toNat % 256<2 ^ 8:=Nat.xor_lt_two_pow oM oM;have b:(UInt8.ofNat (a.toNat ^^^ n.toNat % 256)).toNat=a.toNat ^^^ n.toNat % 256:=by
  rw[ZK];omega
 have c:=Ls (UInt8.ofNat (a.toNat ^^^ n.toNat % 256));rw[b]at c;have g:n ^^^ yq a=yq (UInt8.ofNat (a.toNat ^^^ n.toNat % 256)) ^^^(n&&&0xFFFFFF00#32):=by
  apply BitVec.eq_of_getLsbD_eq;intro P d;unfold yq;rw[b,BitVec.getLsbD_xor,BitVec.getLsbD_xor,BitVec.getLsbD_and,BitVec.getLsbD_ofNat,BitVec.getLsbD_ofNat,Nat.testBit_xor];have h:(n.toNat % 256).testBit P=(decide (P<8)&&n.toNat.testBit P):=by
   rw[show 256=2 ^ 8 from rfl,Nat.testBit_mod_two_pow]
  have i:n.getLsbD P=n.toNat.testBit P:=rfl;rw[h,i];have j:(0xFFFFFF00#32:sr).getLsbD P=decide (8<=P):=by
   have k:(List.range 32).all (λP=>(0xFFFFFF00#32:sr).getLsbD P==decide (8<=P))=true:=by decide+kernel
   simpa using ZY.1 k P (List.mem_range.2 d)
  rw[j,Zy d]
  by_cases e:P<8
  ·rw[Zy e,Xv oM]
   cases n.toNat.testBit P<;>cases a.toNat.testBit P<;>rfl
  ·have l:a.toNat.testBit P=false:=Nat.testBit_lt_two_pow (Qk f (by
    have:=Nat.pow_le_pow_right (n:=2) oM (show 8<=P by omega);simpa using this))
   rw[Xv e,Zy oM,l]
   cases n.toNat.testBit P<;>rfl
 rw[Lq,g,Eo,Lr,c]
 ac_rfl
def MV(n:sr)(P:List UInt8):sr:= ~~~(P.foldl lg (~~~n))
def Lp(n:List UInt8):sr:=MV 0#32 n
end Go.aw
namespace Go.aw
open Go
structure ig where
 bytes:List UInt8
 pos:Nat
 sw:Int
def ig.num(n:ig):Int×Int×Nat:=rdNum (n.bytes.drop n.pos)
def fr(n:ig):Int×ig:=if n.sw≠0 then(0,n)else if n.num.1=0 then(n.num.2.1,⟨n.bytes,n.pos+n.num.2.2,0⟩)else(0,⟨n.bytes,n.pos,n.num.1⟩)
def bD(P:Int)(n:ig):Int×ig:=if n.sw≠0 then(0,n)else if n.num.1=0 then(if n.num.2.1<0\/P<n.num.2.1 then(0,⟨n.bytes,n.pos,3⟩)else(n.num.2.1,⟨n.bytes,n.pos+n.num.2.2,0⟩))else(0,⟨n.bytes,n.pos,n.num.1⟩)
def ij(n:ig):Int:=if n.sw=0/\n.pos<n.bytes.length then 5 else n.sw
def aW:Nat->ig->List Int×ig
 |0,n=>([],n)
 |k+1,n=>((aW k n).1++[(fr (aW k n).2).1],(fr (aW k n).2).2)
def ko(n:List UInt8):aM (rdNum n).2.1/\(rdNum n).2.2<=n.length/\(rdNum n).2.2<=9/\((rdNum n).1=0\/(rdNum n).1=4\/(rdNum n).1=5)/\((rdNum n).1=0->1<=(rdNum n).2.2):=by
 unfold rdNum
 cases n with
 |nil=>simp[aM]
 |cons P c=>
  simp only;generalize(if 16<P.toNat then P.toNat-16 else P.toNat)=a;have j:=Ns (c.take a);generalize gO (c.take a)=b at j
  by_cases g:8<a
  ·rw[Zx g];simp[aM]
  rw[Zq g]
  by_cases h:c.length<a
  ·rw[Zx h];simp[aM]
  rw[Zq h]
  by_cases d:(0<a/\c.head? =some 0)\/(¬16<P.toNat/\2 ^ 63<=b)\/(16<P.toNat/\2 ^ 63<b)
  ·rw[Zx d];simp[aM]
  rw[Zq d];have i:(¬16<P.toNat->b<2 ^ 63)/\(16<P.toNat->b<=2 ^ 63):=by
   refine⟨λe=>?_,λe=>?_⟩
   ·exact Nat.lt_of_not_le λf=>d (.inr (.inl ⟨e,f⟩))
   ·exact Nat.le_of_not_lt λf=>d (.inr (.inr ⟨e,f⟩))
  refine⟨?_,by simp;omega,by show a+1<=9;omega,.inl rfl,λ_=>by show 1<=a+1;omega⟩;show aM (if 16<P.toNat then-(b:Int)else b);unfold aM;split
  ·have:=i.2 (by assumption);omega
  ·have:=i.1 (by assumption);omega
structure ig.Fit (r:ig):Prop where
 pos:r.pos<=r.bytes.length
 sw:r.sw=0\/r.sw=3\/r.sw=4\/r.sw=5
variable{e:Int}{s:List Int}{b0 u:List UInt8}{a:Nat}{T:ig}
def ig.Fit.int(P:T.Fit):(fr T).2.Fit/\aM (fr T).1/\(fr T).2.bytes=T.bytes:=by
 obtain⟨a,b,d,n,e⟩:=ko (T.bytes.drop T.pos);have c:=P.pos;rw[XZ]at b;unfold fr ig.num;split
 ·exact⟨P,by simp[aM],rfl⟩
 ·split
  ·exact⟨⟨by show T.pos+_<=T.bytes.length;omega,.inl rfl⟩,a,rfl⟩
  ·exact⟨⟨c,by show _\/_;rcases n with n|n|n<;>simp[n]⟩,by simp[aM],rfl⟩
def ig.Fit.count{r:ig}(a:r.Fit){m:Int}(P:0<=m):(bD m r).2.Fit/\0<=(bD m r).1/\(bD m r).1<=m/\(bD m r).2.bytes=r.bytes:=by
 obtain⟨d,c,e,n,f⟩:=ko (r.bytes.drop r.pos);have b:=a.pos;rw[XZ]at c;unfold bD ig.num;split
 ·exact⟨a,sM,P,rfl⟩
 ·split
  ·split
   ·exact⟨⟨b,.inr (.inl rfl)⟩,sM,P,rfl⟩
   ·exact⟨⟨by show r.pos+_<=r.bytes.length;omega,.inl rfl⟩,by simp only;omega,by simp only;omega,rfl⟩
  ·exact⟨⟨b,by show _\/_;rcases n with n|n|n<;>simp[n]⟩,by simp,P,rfl⟩
def ig.Fit.ints{n:ig}(b:n.Fit):∀k,(aW k n).2.Fit/\(∀a∈(aW k n).1,aM a)/\(aW k n).1.length=k/\(aW k n).2.bytes=n.bytes
 |0=>⟨b,by simp[aW],rfl,rfl⟩
 |k+1=>by
  obtain⟨c,d,e,f⟩:=ig.Fit.ints b k;obtain⟨g,h,i⟩:=c.int;refine⟨g,?_,?_,i.trans f⟩
  ·intro a P
   rcases Q6.1 P with P|P
   ·exact d a P
   ·rw[List.mem_singleton]at P;subst P;exact h
  ·simp[aW,e]
structure ig.At (r:ig) (b:List UInt8) (l:List UInt8):Prop where
 bytes:r.bytes=b
 pos:r.pos<=b.length
 sw:r.sw=0
 rest:b.drop r.pos=l
def ig.At.int(n:T.At u (dY e++b0))(P:aM e):(fr T).1=e/\(fr T).2.At u b0:=by
 have a:T.num=(0,e,(dY e).length):=by unfold ig.num;rw[n.bytes,n.rest];exact EY P b0
 have b:u.length-T.pos=(dY e).length+b0.length:=by
  have:=Zj List.length n.rest
  rwa [XZ,QX]at this
 have c:=n.pos;unfold fr;rw[a,Zq (by simp[n.sw]),Zx rfl];refine⟨rfl,n.bytes,by show T.pos+(dY e).length<=_;omega,rfl,?_⟩;show u.drop (T.pos+(dY e).length)=b0;rw[<-List.drop_drop,n.rest,List.drop_left]
def ig.At.count{r:ig}{n m:Int}(P:r.At u (dY n++b0))(a:aM n)(c:0<=n)(d:n<=m):(bD m r).1=n/\(bD m r).2.At u b0:=by
 have b:r.num=(0,n,(dY n).length):=by unfold ig.num;rw[P.bytes,P.rest];exact EY a b0
 have e:u.length-r.pos=(dY n).length+b0.length:=by
  have:=Zj List.length P.rest
  rwa [XZ,QX]at this
 have f:=P.pos;unfold bD;rw[b,Zq (by simp[P.sw]),Zx rfl,Zq be];refine⟨rfl,P.bytes,by show r.pos+(dY n).length<=_;omega,rfl,?_⟩;show u.drop (r.pos+(dY n).length)=b0;rw[<-List.drop_drop,P.rest,List.drop_left]
def bj(n:List Int):List UInt8:=(n.map dY).flatten
def lk(n:Int)(P:List Int):bj (n::P)=dY n++bj P:=by simp[bj]
def iX(n P:List Int):bj (n++P)=bj n++bj P:=by simp[bj]
def ig.At.ints:∀(n:List Int) {zs:List Int},T.At u (bj (n++zs)++b0)->(∀b∈n,aM b)->(aW n.length T).1=n/\(aW n.length T).2.At u (bj zs++b0):=by
 intro n;generalize P:n.length=d
 induction d generalizing n with
 |zero=>intro zs a _;have:=QW P;subst this;exact⟨rfl,a⟩
 |succ d c=>
  rcases List.eq_nil_or_concat n with rfl|⟨n,b,rfl⟩
  ·cases P
  rw[List.concat_eq_append]at P⊢;intro zs a e;rw[XQ]at a;rw[QX,List.length_singleton]at P;have c:=λ{zs:List Int}=>c n oM (zs:=zs);obtain⟨g,f⟩:=c a λh i=>e h (ZV _ i);rw[List.singleton_append,lk,XQ]at f;obtain⟨j,k⟩:=f.int (e b sM);exact⟨by show _++[_]=_;rw[g,j],k⟩
def ig.At.done(n:T.At u []):ij T=0:=by
 have P:=Zj List.length n.rest;rw[XZ,ZQ]at P;unfold ij;rw[n.bytes,n.sw,Zq oM]
structure ah where
 origin:Int
 seq:Int
 aB:Int
 aN:List Int
 aZ:Int
 agg:Int
 field:Int
 op:Int
 arg:Int
 key:Int
deriving DecidableEq
structure ah.Ok (e:ah):Prop where
 origin:aM e.origin
 seq:aM e.seq
 aB:aM e.aB
 aN:∀x∈e.aN,aM x
 aZ:aM e.aZ
 agg:aM e.agg
 field:aM e.field
 op:aM e.op
 arg:aM e.arg
 key:aM e.key
def BN:ah:=⟨0,0,0,[],0,0,0,0,0,0⟩
def PK:BN.Ok:=by constructor<;>simp[BN,aM]
def fX(n:ah):List Int:=[n.origin,n.seq,n.aB,(n.aN.length:Int)]++n.aN++[n.aZ,n.agg,n.field,n.op,n.arg,n.key]
def jw(n:ah):List UInt8×Int:=if 64<n.aN.length then([],3)else(bj (fX n),0)
def jN(c:ig):ah×ig:=
 (λP=>(λa=>(λb=>(λn=>(⟨P.1.getD 0 0,P.1.getD 1 0,P.1.getD 2 0,b.1,n.1.getD 0 0,n.1.getD 1 0,n.1.getD 2 0,n.1.getD 3 0,n.1.getD 4 0,n.1.getD 5 0⟩,n.2))
  (aW 6 b.2)) (aW a.1.toNat a.2)) (bD 64 P.2)) (aW 3 c)
def iY(n:List UInt8):ah×Int:=if ij (jN ⟨n,0,0⟩).2≠0 then(BN,ij (jN ⟨n,0,0⟩).2)else((jN ⟨n,0,0⟩).1,0)
def fv(a:∀n∈s,aM n)(P:Nat):aM (s.getD P 0):=by
 rw[QQ]
 cases b:s[P]? with
 |none=>simp[aM]
 |some n=>exact a n (QZ b)
def PL{r:ig}(a:r.Fit):(jN r).2.Fit/\(jN r).1.Ok/\(jN r).1.aN.length<=64:=by
 obtain⟨b,P,h,i⟩:=a.ints 3;obtain⟨c,j,k,l⟩:=b.count (m:=64) oM;obtain⟨d,e,f,m⟩:=c.ints (bD 64 (aW 3 r).2).1.toNat;obtain⟨g,n,o,p⟩:=d.ints 6;refine⟨g,⟨fv P 0,fv P 1,fv P 2,e,fv n 0,fv n 1,fv n 2,fv n 3,fv n 4,fv n 5⟩,?_⟩;show(aW _ _).1.length<=64;rw[f];omega
def Sw(n:List UInt8):(iY n).1.Ok/\(iY n).1.aN.length<=64:=by
 unfold iY;have:=PL (r:=⟨n,0,0⟩) ⟨Qj _,.inl rfl⟩;split
 ·exact⟨PK,by simp[BN]⟩
 ·exact this.2
variable{l:ah}
def PM(n:l.Ok)(u:l.aN.length<=64):iY (bj (fX l))=(l,0):=by
 have b:(ig.mk (bj (fX l)) 0 0).At (bj (fX l)) (bj ([l.origin,l.seq,l.aB]++((l.aN.length:Int)::(l.aN++[l.aZ,l.agg,l.field,l.op,l.arg,l.key])))++[]):=
  ⟨rfl,Qj _,rfl,by rw[List.drop_zero,List.append_nil];simp[fX]⟩
 generalize bj (fX l)=P at b⊢;obtain⟨e,c⟩:=ig.At.ints [l.origin,l.seq,l.aB] b (by intro f a;simp at a;rcases a with rfl|rfl|rfl<;>first|exact n.origin|exact n.seq|exact n.aB);rw[lk,XQ]at c;obtain⟨g,h⟩:=c.count (m:=64) bc oM oM;obtain⟨i,j⟩:=ig.At.ints l.aN h n.aN;have k:(aW l.aN.length (bD 64 (aW [l.origin,l.seq,l.aB].length ⟨P,0,0⟩).2).2).2.At P (bj ([l.aZ,l.agg,l.field,l.op,l.arg,l.key]++[])++[]):=j;obtain⟨m,o⟩:=ig.At.ints [l.aZ,l.agg,l.field,l.op,l.arg,l.key] k (by intro f a;simp at a;rcases a with rfl|rfl|rfl|rfl|rfl|rfl<;>first|exact n.aZ|exact n.agg|exact n.field|exact n.op|exact n.arg|exact n.key);have d:jN ⟨P,0,0⟩=(l,(aW 6 (aW l.aN.length (bD 64 (aW 3 ⟨P,0,0⟩).2).2).2).2):=by
  have p:(bD 64 (aW 3 ⟨P,0,0⟩).2).1=(l.aN.length:Int):=g;have q:(aW 3 ⟨P,0,0⟩).1=[l.origin,l.seq,l.aB]:=e;have r:(aW 6 (aW l.aN.length (bD 64 (aW 3 ⟨P,0,0⟩).2).2).2).1=[l.aZ,l.agg,l.field,l.op,l.arg,l.key]:=m;have s:(aW l.aN.length (bD 64 (aW 3 ⟨P,0,0⟩).2).2).1=l.aN:=i;unfold jN;simp only[p,q,Qx,r,s]
  rfl
 have t:ij (jN ⟨P,0,0⟩).2=0:=by rw[d];exact ig.At.done (by simpa[bj]using o)
 unfold iY;rw[t,Zq sM,d]
def PT(n:Nat):List UInt8:=[UInt8.ofNat (n/16777216),UInt8.ofNat (n/65536),UInt8.ofNat (n/256),UInt8.ofNat n]
def kL(P:Int)(n:List UInt8):List UInt8:=[UInt8.ofNat P.toNat,UInt8.ofNat (n.length/65536),UInt8.ofNat (n.length/256),UInt8.ofNat n.length]++n
def cC(n:Int)(P:List UInt8):List UInt8:=kL n P++PT (Lp (kL n P)).toNat++[10]
def kY(n:Int)(P:List UInt8):List UInt8×Int:=if n<1\/255<n then([],2)else if 65536<P.length then([],5)else(cC n P,0)
structure ZB where
 kind:Int
 body:List UInt8
 n:Nat
 no:Int
def br(n:List UInt8):ZB:=if n.length<4 then⟨0,[],0,4⟩else if n.getD 0 0=0 then⟨0,[],0,2⟩else
 (λP=>if 65536<P then⟨0,[],0,5⟩else if n.length<P+9 then⟨0,[],0,4⟩else
  if n.take (P+9)=cC (n.getD 0 0).toNat ((n.drop 4).take P)then⟨(n.getD 0 0).toNat,(n.drop 4).take P,P+9,0⟩else⟨0,[],0,6⟩)
  ((n.getD 1 0).toNat*65536+(n.getD 2 0).toNat*256+(n.getD 3 0).toNat)
def fg(P:Int)(n:List UInt8):(cC P n).length=n.length+9:=by simp[cC,kL,PT]
def vU(n:(br u).no=0):(br u).n<=u.length/\9<=(br u).n/\(br u).n=(br u).body.length+9:=by
 unfold br at n⊢;generalize(u.getD 1 0).toNat*65536+(u.getD 2 0).toNat*256+(u.getD 3 0).toNat=e at n⊢;split at n
 ·cases n
 rename_i P;rw[Zq P];split at n
 ·cases n
 rename_i a;rw[Zq a];simp only at n⊢;split at n
 ·cases n
 rename_i b;rw[Zq b];split at n
 ·cases n
 rename_i c;rw[Zq c];split at n
 ·rename_i d
  rw[Zx d];refine⟨by simp only;omega,by simp only;omega,by simp;omega⟩
 ·cases n
def SO(n:a<=65536):(UInt8.ofNat (a/65536)).toNat*65536+(UInt8.ofNat (a/256)).toNat*256+(UInt8.ofNat a).toNat=a:=by
 simp only[ZK];omega
def EU{k:Int}{body r:List UInt8}(h:1<=k)(i:k<=255)(P:body.length<=65536):br (cC k body++r)=⟨k,body,body.length+9,0⟩:=by
 have n:(UInt8.ofNat k.toNat).toNat=k.toNat:=by rw[ZK];omega
 have a:(cC k body++r).getD 0 0=UInt8.ofNat k.toNat:=rfl;have b:(cC k body++r).getD 1 0=UInt8.ofNat (body.length/65536):=rfl;have c:(cC k body++r).getD 2 0=UInt8.ofNat (body.length/256):=rfl;have d:(cC k body++r).getD 3 0=UInt8.ofNat body.length:=rfl;have e:((cC k body++r).drop 4).take body.length=body:=by
  have:(cC k body++r).drop 4=body++(PT (Lp (kL k body)).toNat++[10]++r):=by simp[cC,kL]
  rw[this,List.take_left]
 have f:=fg k body;unfold br;rw[a,b,c,d,SO P,Zq (by rw[QX];omega),Zq (by intro g;have:=Zj UInt8.toNat g;rw[n]at this;simp at this;omega)];simp only[e,n];rw[Zq oM,Zq (by rw[QX];omega),Zx]
 ·congr 1;omega
 ·rw[<-f,List.take_left]
  congr 1;omega
def XB(a:List UInt8)(n:a.length=4)(P:Nat)(j:P<2 ^ 32):gO a=P↔a=PT P:=by
 match a,n with
 |[b,c,d,e],_=>
  have k:=b.toNat_lt;have l:=c.toNat_lt;have m:=d.toNat_lt;have o:=e.toNat_lt;have i:gO [b,c,d,e]=((b.toNat*256+c.toNat)*256+d.toNat)*256+e.toNat:=by simp[gO]
  rw[i];constructor
  ·intro n
   unfold PT;have f:∀(g:UInt8) (h:Nat),g.toNat=h % 256->g=UInt8.ofNat h:=λg h n=>UInt8.toNat_inj.1 (by rw[ZK,n]);rw[f b (P/16777216) oM,f c (P/65536) oM,f d (P/256) oM,f e P oM]
  ·intro n
   unfold PT at n;simp only[List.cons.injEq,and_true]at n;obtain⟨rfl,rfl,rfl,rfl⟩:=n;simp only[ZK];omega
def US:∀{P:List UInt8},4<=P.length->P.take 4=[P.getD 0 0,P.getD 1 0,P.getD 2 0,P.getD 3 0]
 |x::a::b::c::d,_=>rfl
 |[],n=>by simp at n
 |[_],n=>by simp at n
 |[_,_],n=>by simp at n
 |[_,_,_],n=>by simp at n
def VJ{b:List UInt8}{n:Nat}(l:n+9<=b.length)(m:(b.getD 1 0).toNat*65536+(b.getD 2 0).toNat*256+(b.getD 3 0).toNat=n)(o:n<=65536):
  b.take (n+9)=cC (b.getD 0 0).toNat ((b.drop 4).take n)↔((Lp (b.take (4+n))).toNat=gO ((b.drop (4+n)).take 4)/\b.getD (8+n) 0=10):=by
 have g:((b.drop 4).take n).length=n:=by simp;omega
 have P:∀(a:UInt8) (c:Nat),a.toNat=c % 256->UInt8.ofNat c=a:=λa c d=>UInt8.toNat_inj.1 (by rw[ZK,d]);have p:=(b.getD 1 0).toNat_lt;have q:=(b.getD 2 0).toNat_lt;have r:=(b.getD 3 0).toNat_lt;have h:kL (b.getD 0 0).toNat ((b.drop 4).take n)=b.take (4+n):=by
  unfold kL;rw[g,Qx,P (b.getD 0 0) _ (by have:=(b.getD 0 0).toNat_lt;omega),P (b.getD 1 0) (n/65536) oM,P (b.getD 2 0) (n/256) oM,P (b.getD 3 0) n oM];rw[List.take_add]
  congr 1
  exact(US oM).symm
 have i:b.take (n+9)=b.take (4+n)++(b.drop (4+n)).take 4++[b.getD (8+n) 0]:=by
  rw[show n+9=(4+n)+(4+1) by omega,List.take_add,XQ,List.take_add (l:=b.drop (4+n)),List.drop_drop]
  congr 2
  rw[show 4+n+4=8+n by omega,QQ,Qq oM,Option.getD_some];rw[X4 oM]
  rfl
 unfold cC;rw[h,i];have j:((b.drop (4+n)).take 4).length=4:=by simp;omega
 have k:(Lp (b.take (4+n))).toNat<2 ^ 32:=(Lp (b.take (4+n))).isLt;rw[eq_comm (b:=gO _),XB _ j _ k];constructor
 ·intro d
  obtain⟨e,f⟩:=List.append_inj' d rfl;exact⟨List.append_cancel_left e,by simpa using f⟩
 ·rintro⟨e,f⟩
  rw[e,f]
def bE(n:List UInt8):List ah×Nat:=
 if P:(br n).no=0/\(br n).kind=1/\(iY (br n).body).2=0 then((iY (br n).body).1::(bE (n.drop (br n).n)).1,(br n).n+(bE (n.drop (br n).n)).2)else([],0)
termination_by n.length
decreasing_by all_goals(have:=vU P.1;simp;omega)
def yO(n:(br u).no=0/\(br u).kind=1/\(iY (br u).body).2=0):bE u=((iY (br u).body).1::(bE (u.drop (br u).n)).1,(br u).n+(bE (u.drop (br u).n)).2):=by
 rw[bE,dif_pos n]
def CF(n:¬((br u).no=0/\(br u).kind=1/\(iY (br u).body).2=0)):bE u=([],0):=by
 rw[bE,dif_neg n]
def PN(n:aM e):(dY e).length<=9:=by
 unfold aM at n;have:=Ct (u:=e.natAbs) oM;simp[dY];omega
def fW:∀{l:List Int},(∀P∈l,aM P)->(bj l).length<=9*l.length
 |[],_=>by simp[bj]
 |n::l,a=>by
  rw[lk,QX,Xq];have c:=PN (a n (QV ..));have d:=fW (l:=l) λP b=>a P (QJ _ b);omega
def ah.Ok.ints(n:l.Ok)(b:l.aN.length<=4611686018427387904):∀a∈fX l,aM a:=by
 intro a P;simp only[fX,Q6,Q2,List.not_mem_nil,or_false]at P;rcases P with((rfl|rfl|rfl|rfl)|P)|(rfl|rfl|rfl|rfl|rfl|rfl)
 ·exact n.origin
 ·exact n.seq
 ·exact n.aB
 ·unfold aM;omega
 ·exact n.aN a P
 ·exact n.aZ
 ·exact n.agg
 ·exact n.field
 ·exact n.op
 ·exact n.arg
 ·exact n.key
def EM(n:l.Ok)(P:l.aN.length<=64):(bj (fX l)).length<=666:=by
 have:=fW (n.ints oM);have a:(fX l).length=10+l.aN.length:=by simp[fX];omega
 omega
def od(n:ah):List UInt8:=cC 1 (bj (fX n))
def JS(n:l.Ok)(P:l.aN.length<=64):(od l).length<=675/\9<=(od l).length:=by
 have:=EM n P;unfold od;rw[fg];omega
def SP(n:l.Ok)(P:l.aN.length<=64)(a:List UInt8):br (od l++a)=⟨1,bj (fX l),(od l).length,0⟩:=by
 unfold od;rw[EU dC dC (by have:=EM n P;omega),fg]
def CT(P:l.Ok)(a:l.aN.length<=64)(n:List UInt8):bE (od l++n)=(l::(bE n).1,(od l).length+(bE n).2):=by
 have b:=SP P a n;have c:=PM P a;rw[yO (by rw[b];exact⟨rfl,rfl,by rw[c]⟩),b,c,List.drop_left]
def az(n:List ah):List UInt8:=(n.map od).flatten
def ir(n:ah)(P:List ah):az (n::P)=od n++az P:=by simp[az]
def gv(n P:List ah):az (n++P)=az n++az P:=by simp[az]
def yE:∀{n:List ah},(∀e∈n,e.Ok/\e.aN.length<=64)->∀P,bE (az n++P)=(n++(bE P).1,(az n).length+(bE P).2)
 |[],_,P=>by simp[az]
 |e::n,a,P=>by
  obtain⟨b,c⟩:=a e (QV ..);rw[ir,XQ,CT b c,yE (λd f=>a d (QJ _ f)),QX];simp only[List.cons_append,Nat.add_assoc]
def yX(n:u.length<4):(br u).no≠0:=by unfold br;rw[Zx n];simp
def MB(b:u.length<=65536)(g:a<(cC e u).length):(br ((cC e u).take a)).no≠0:=by
 by_cases h:a<4
 ·exact yX (by rw[Qy];omega)
 have n:∀P,P<4->((cC e u).take a).getD P 0=(cC e u).getD P 0:=λP i=>by
  rw[QQ,QQ,Xw,Zx oM]
 have j:=fg e u;have c:(cC e u).getD 1 0=UInt8.ofNat (u.length/65536):=rfl;have d:(cC e u).getD 2 0=UInt8.ofNat (u.length/256):=rfl;have f:(cC e u).getD 3 0=UInt8.ofNat u.length:=rfl;unfold br;rw[n 0 oM,n 1 oM,n 2 oM,n 3 oM,c,d,f,SO b];split
 ·simp
 split
 ·simp
 simp only;rw[Zq oM,Zx (by rw[Qy];omega)];simp
def yY(n:(br u).no≠0):bE u=([],0):=CF λP=>n P.1
def rU:bE []=([],0):=yY (yX sM)
def wA:∀{l:List ah},(∀e∈l,e.Ok/\e.aN.length<=64)->∀(P:Nat),∃n,n<=l.length/\bE ((az l).take P)=(l.take n,(az (l.take n)).length)/\(az (l.take n)).length<=P/\(n<l.length->P<(az (l.take (n+1))).length)
 |[],_,P=>⟨0,Q4 _,by simp[az,rU],by simp[az],sM⟩
 |e::l,a,P=>by
  obtain⟨b,c⟩:=a e (QV ..)
  by_cases d:P<(od e).length
  ·refine⟨0,Qj _,?_,by simp[az],λ_=>by simpa[az]using d⟩
   rw[ir,List.take_append_of_le_length oM,yY]
   ·rfl
   ·exact MB (by have:=EM b c;omega) d
  ·obtain⟨n,f,g,m,h⟩:=wA (l:=l) (λi j=>a i (QJ _ j)) (P-(od e).length)
   refine⟨n+1,by simpa using f,?_,?_,λk=>?_⟩
   ·rw[ir,List.take_append,Qz oM,CT b c,g,Zw,ir,QX]
   ·rw[Zw,ir,QX];omega
   ·have:=h (by simpa using k)
    rw[Zw,ir,QX];omega
def gT(n:ah):List UInt8×Int:=if(jw n).2≠0 then([],(jw n).2)else kY 1 (jw n).1
end Go.aw
namespace Go.Proofs.YtjgjkeponbeekaaGreatDoor
open Go.aw
def tS:kQ ZP 237 5 1 1:=⟨kR,kR,dC⟩
end Go.Proofs.YtjgjkeponbeekaaGreatDoor
namespace Go.Proofs
open Go.Shelf
def Tryz.Et:Go.Shelf.Ren:=⟨λ|7=>223|10=>282|n=>n,λ|23=>141|26=>9|3=>236|28=>242|0=>0|27=>241|33=>319|4=>4|n=>n,λ|n=>n⟩
def Tryz.tr:Go.Proofs.SlLaysZ.n7 Tryz.prog Tryz.Et:={
 mixed:=by kernel_rfl
 f7:=⟨Tryz.f223.name,am,Tryz.func223.trans ac⟩
 f10:=⟨Tryz.f282.name,am,Tryz.func282.trans ac⟩
 t0:=Tryz.underlying0
 a0:=Tryz.isAgg0
 z0:=Tryz.sizeOf0
 v0:=Tryz.zeroValue0
 t4:=Tryz.underlying4
 a4:=Tryz.isAgg4
 z4:=Tryz.sizeOf4
 v4:=Tryz.zeroValue4
 t23:=Tryz.underlying141
 a23:=Tryz.isAgg141
 z23:=Tryz.sizeOf141
 v23:=Tryz.zeroValue141
 t26:=Tryz.underlying9
 a26:=Tryz.isAgg9
 z26:=Tryz.sizeOf9
 v26:=Tryz.zeroValue9
 t27:=Tryz.underlying241
 a27:=Tryz.isAgg241
 z27:=Tryz.sizeOf241
 v27:=Tryz.zeroValue241
 t28:=Tryz.underlying242
 a28:=Tryz.isAgg242
 z28:=Tryz.sizeOf242
 v28:=Tryz.zeroValue242
 t33:=Tryz.underlying319
 a33:=Tryz.isAgg319
 z33:=Tryz.sizeOf319
 v33:=Tryz.zeroValue319}
def Tryz.yr:Go.Shelf.Ren:=⟨λ|6=>222|8=>280|9=>281|11=>322|13=>218|12=>323|23=>276|24=>277|14=>349|15=>350|16=>351|17=>352|18=>353|19=>354|20=>355|21=>356|22=>357|25=>372|26=>317|27=>318|28=>373|29=>374|30=>375|31=>382|n=>n,λ|26=>9|28=>242|24=>271|0=>0|3=>3|37=>324|48=>365|50=>367|4=>4|40=>359|39=>358|45=>273|5=>5|9=>9|51=>400|55=>375|57=>426|58=>427|33=>319|n=>n,λ|n=>n⟩
def Tryz.TD:Go.Proofs.SlLaysZ.n6 Tryz.prog Tryz.yr:={
 mixed:=by kernel_rfl
 f6:=⟨Tryz.f222.name,am,Tryz.func222.trans ac⟩
 f8:=⟨Tryz.f280.name,am,Tryz.func280.trans ac⟩
 f11:=⟨Tryz.f322.name,am,Tryz.func322.trans ac⟩
 t0:=Tryz.underlying0
 a0:=Tryz.isAgg0
 z0:=Tryz.sizeOf0
 v0:=Tryz.zeroValue0
 t24:=Tryz.underlying271
 a24:=Tryz.isAgg271
 z24:=Tryz.sizeOf271
 v24:=Tryz.zeroValue271
 t26:=Tryz.underlying9
 a26:=Tryz.isAgg9
 z26:=Tryz.sizeOf9
 v26:=Tryz.zeroValue9
 t28:=Tryz.underlying242
 a28:=Tryz.isAgg242
 z28:=Tryz.sizeOf242
 v28:=Tryz.zeroValue242
 i26:=by kernel_rfl}
def Tryz.PD:Go.Shelf.Ren:=⟨λ|6=>281|8=>218|9=>323|19=>276|20=>277|21=>349|22=>350|23=>351|24=>352|25=>353|26=>354|27=>355|28=>356|29=>357|36=>372|31=>317|32=>318|37=>373|38=>374|39=>375|41=>382|n=>n,λ|27=>271|29=>9|3=>3|32=>324|26=>271|0=>0|44=>365|46=>367|4=>4|36=>359|35=>358|41=>273|5=>5|9=>9|53=>400|57=>375|63=>426|64=>427|n=>n,λ|n=>n⟩
def Tryz.UG:Go.Proofs.SlLaysM.n6 Tryz.prog Tryz.PD:={
 mixed:=by kernel_rfl
 f6:=⟨Tryz.f281.name,am,Tryz.func281.trans ac⟩
 f8:=Tryz.func218.trans ac
 f9:=⟨Tryz.f323.name,am,Tryz.func323.trans ac⟩
 f19:=Tryz.func276.trans ac
 f20:=Tryz.func277.trans ac
 f21:=⟨Tryz.f349.name,am,Tryz.func349.trans ac⟩
 f22:=⟨Tryz.f350.name,am,Tryz.func350.trans ac⟩
 f23:=⟨Tryz.f351.name,am,Tryz.func351.trans ac⟩
 f24:=⟨Tryz.f352.name,am,Tryz.func352.trans ac⟩
 f25:=⟨Tryz.f353.name,am,Tryz.func353.trans ac⟩
 f26:=⟨Tryz.f354.name,am,Tryz.func354.trans ac⟩
 f27:=⟨Tryz.f355.name,am,Tryz.func355.trans ac⟩
 f28:=⟨Tryz.f356.name,am,Tryz.func356.trans ac⟩
 f29:=⟨Tryz.f357.name,am,Tryz.func357.trans ac⟩
 f31:=Tryz.func317.trans ac
 f32:=Tryz.func318.trans ac
 f36:=⟨Tryz.f372.name,am,Tryz.func372.trans ac⟩
 f37:=⟨Tryz.f373.name,am,Tryz.func373.trans ac⟩
 f38:=⟨Tryz.f374.name,am,Tryz.func374.trans ac⟩
 f39:=⟨Tryz.f375.name,am,Tryz.func375.trans ac⟩
 f41:=⟨Tryz.f382.name,am,Tryz.func382.trans ac⟩
 t0:=Tryz.underlying0
 a0:=Tryz.isAgg0
 z0:=Tryz.sizeOf0
 v0:=Tryz.zeroValue0
 t3:=Tryz.underlying3
 a3:=Tryz.isAgg3
 z3:=Tryz.sizeOf3
 v3:=Tryz.zeroValue3
 t4:=Tryz.underlying4
 a4:=Tryz.isAgg4
 z4:=Tryz.sizeOf4
 v4:=Tryz.zeroValue4
 t5:=Tryz.underlying5
 a5:=Tryz.isAgg5
 z5:=Tryz.sizeOf5
 v5:=Tryz.zeroValue5
 t9:=Tryz.underlying9
 a9:=Tryz.isAgg9
 z9:=Tryz.sizeOf9
 v9:=Tryz.zeroValue9
 t26:=Tryz.underlying271
 a26:=Tryz.isAgg271
 z26:=Tryz.sizeOf271
 v26:=Tryz.zeroValue271
 t27:=Tryz.underlying271
 a27:=Tryz.isAgg271
 z27:=Tryz.sizeOf271
 v27:=Tryz.zeroValue271
 t29:=Tryz.underlying9
 a29:=Tryz.isAgg9
 z29:=Tryz.sizeOf9
 v29:=Tryz.zeroValue9
 t32:=Tryz.underlying324
 a32:=Tryz.isAgg324
 z32:=Tryz.sizeOf324
 v32:=Tryz.zeroValue324
 t35:=Tryz.underlying358
 a35:=Tryz.isAgg358
 z35:=Tryz.sizeOf358
 v35:=Tryz.zeroValue358
 t36:=Tryz.underlying359
 a36:=Tryz.isAgg359
 z36:=Tryz.sizeOf359
 v36:=Tryz.zeroValue359
 t41:=Tryz.underlying273
 a41:=Tryz.isAgg273
 z41:=Tryz.sizeOf273
 v41:=Tryz.zeroValue273
 t44:=Tryz.underlying365
 a44:=Tryz.isAgg365
 z44:=Tryz.sizeOf365
 v44:=Tryz.zeroValue365
 t46:=Tryz.underlying367
 a46:=Tryz.isAgg367
 z46:=Tryz.sizeOf367
 v46:=Tryz.zeroValue367
 t53:=Tryz.underlying400
 a53:=Tryz.isAgg400
 z53:=Tryz.sizeOf400
 v53:=Tryz.zeroValue400
 t57:=Tryz.underlying375
 a57:=Tryz.isAgg375
 z57:=Tryz.sizeOf375
 v57:=Tryz.zeroValue375
 t63:=Tryz.underlying426
 a63:=Tryz.isAgg426
 z63:=Tryz.sizeOf426
 v63:=Tryz.zeroValue426
 t64:=Tryz.underlying427
 a64:=Tryz.isAgg427
 z64:=Tryz.sizeOf427
 v64:=Tryz.zeroValue427}
def Tryz.JW:Go.Shelf.Ren:=⟨λ|137=>358|217=>376|266=>383|n=>n,λ|9=>9|5=>5|3=>3|n=>n,λ|n=>n⟩
def Tryz.TS:Go.Proofs.Lays.n137 Tryz.prog Tryz.JW:={
 mixed:=by kernel_rfl
 f137:=Tryz.func358.trans ac
 f217:=Tryz.func376.trans ac
 f266:=Tryz.func383.trans ac
 t3:=Tryz.underlying3
 a3:=Tryz.isAgg3
 z3:=Tryz.sizeOf3
 v3:=Tryz.zeroValue3
 t5:=Tryz.underlying5
 a5:=Tryz.isAgg5
 z5:=Tryz.sizeOf5
 v5:=Tryz.zeroValue5
 t9:=Tryz.underlying9
 a9:=Tryz.isAgg9
 z9:=Tryz.sizeOf9
 v9:=Tryz.zeroValue9}
def Tryz.JX:Go.Shelf.Ren:=⟨λ|129=>277|n=>n,λ|53=>367|3=>3|4=>4|46=>324|5=>5|9=>9|n=>n,λ|n=>n⟩
def Tryz.Ui:Go.Proofs.Lays.n129 Tryz.prog Tryz.JX:={
 mixed:=by kernel_rfl
 f129:=Tryz.func277.trans ac
 t3:=Tryz.underlying3
 a3:=Tryz.isAgg3
 z3:=Tryz.sizeOf3
 v3:=Tryz.zeroValue3
 t4:=Tryz.underlying4
 a4:=Tryz.isAgg4
 z4:=Tryz.sizeOf4
 v4:=Tryz.zeroValue4
 t5:=Tryz.underlying5
 a5:=Tryz.isAgg5
 z5:=Tryz.sizeOf5
 v5:=Tryz.zeroValue5
 t9:=Tryz.underlying9
 a9:=Tryz.isAgg9
 z9:=Tryz.sizeOf9
 v9:=Tryz.zeroValue9
 t46:=Tryz.underlying324
 a46:=Tryz.isAgg324
 z46:=Tryz.sizeOf324
 v46:=Tryz.zeroValue324
 t53:=Tryz.underlying367
 a53:=Tryz.isAgg367
 z53:=Tryz.sizeOf367
 v53:=Tryz.zeroValue367}
def Tryz.Hr:Go.Shelf.Ren:=⟨λ|171=>213|243=>267|246=>315|283=>344|284=>345|285=>346|286=>347|129=>277|317=>368|318=>369|319=>370|320=>371|337=>380|338=>381|n=>n,λ|3=>3|9=>9|2=>2|4=>4|171=>422|0=>0|53=>367|37=>237|5=>5|173=>424|212=>441|51=>365|20=>20|213=>442|46=>324|232=>448|233=>449|n=>n,λ|17=>4|18=>6|19=>7|n=>n⟩
def Tryz.Su:Go.Proofs.LaysM.n171 Tryz.prog Tryz.Hr:={
 mixed:=by kernel_rfl
 f129:=Tryz.func277.trans ac
 f171:=Tryz.func213.trans ac
 f243:=Tryz.func267.trans ac
 f246:=Tryz.func315.trans ac
 f283:=Tryz.func344.trans ac
 f284:=Tryz.func345.trans ac
 f285:=Tryz.func346.trans ac
 f286:=Tryz.func347.trans ac
 f317:=Tryz.func368.trans ac
 f318:=Tryz.func369.trans ac
 f319:=Tryz.func370.trans ac
 f320:=Tryz.func371.trans ac
 f337:=Tryz.func380.trans ac
 f338:=Tryz.func381.trans ac
 t0:=Tryz.underlying0
 a0:=Tryz.isAgg0
 z0:=Tryz.sizeOf0
 v0:=Tryz.zeroValue0
 t2:=Tryz.underlying2
 a2:=Tryz.isAgg2
 z2:=Tryz.sizeOf2
 v2:=Tryz.zeroValue2
 t3:=Tryz.underlying3
 a3:=Tryz.isAgg3
 z3:=Tryz.sizeOf3
 v3:=Tryz.zeroValue3
 t4:=Tryz.underlying4
 a4:=Tryz.isAgg4
 z4:=Tryz.sizeOf4
 v4:=Tryz.zeroValue4
 t5:=Tryz.underlying5
 a5:=Tryz.isAgg5
 z5:=Tryz.sizeOf5
 v5:=Tryz.zeroValue5
 t9:=Tryz.underlying9
 a9:=Tryz.isAgg9
 z9:=Tryz.sizeOf9
 v9:=Tryz.zeroValue9
 t20:=Tryz.underlying20
 a20:=Tryz.isAgg20
 z20:=Tryz.sizeOf20
 v20:=Tryz.zeroValue20
 t37:=Tryz.underlying237
 a37:=Tryz.isAgg237
 z37:=Tryz.sizeOf237
 v37:=Tryz.zeroValue237
 t46:=Tryz.underlying324
 a46:=Tryz.isAgg324
 z46:=Tryz.sizeOf324
 v46:=Tryz.zeroValue324
 t51:=Tryz.underlying365
 a51:=Tryz.isAgg365
 z51:=Tryz.sizeOf365
 v51:=Tryz.zeroValue365
 t53:=Tryz.underlying367
 a53:=Tryz.isAgg367
 z53:=Tryz.sizeOf367
 v53:=Tryz.zeroValue367
 t171:=Tryz.underlying422
 a171:=Tryz.isAgg422
 z171:=Tryz.sizeOf422
 v171:=Tryz.zeroValue422
 t173:=Tryz.underlying424
 a173:=Tryz.isAgg424
 z173:=Tryz.sizeOf424
 v173:=Tryz.zeroValue424
 t212:=Tryz.underlying441
 a212:=Tryz.isAgg441
 z212:=Tryz.sizeOf441
 v212:=Tryz.zeroValue441
 t213:=Tryz.underlying442
 a213:=Tryz.isAgg442
 z213:=Tryz.sizeOf442
 t232:=Tryz.underlying448
 a232:=Tryz.isAgg448
 z232:=Tryz.sizeOf448
 v232:=Tryz.zeroValue448
 t233:=Tryz.underlying449
 a233:=Tryz.isAgg449
 z233:=Tryz.sizeOf449
 v233:=Tryz.zeroValue449
 g17:=by kernel_rfl
 g18:=by kernel_rfl
 g19:=by kernel_rfl
 i0:=by kernel_rfl
 i2:=by kernel_rfl
 i3:=by kernel_rfl
 i4:=by kernel_rfl
 i5:=by kernel_rfl
 i9:=by kernel_rfl
 i20:=by kernel_rfl
 i37:=by kernel_rfl
 i46:=by kernel_rfl
 i51:=by kernel_rfl
 i53:=by kernel_rfl
 i171:=by kernel_rfl
 i173:=by kernel_rfl
 i212:=by kernel_rfl
 i232:=by kernel_rfl
 i233:=by kernel_rfl
 m17:=by kernel_rfl
 m18:=by kernel_rfl
 m19:=by kernel_rfl}
def Tryz.Fw:Go.Shelf.Ren:=⟨λ|7=>198|10=>250|n=>n,λ|23=>148|26=>3|3=>3|28=>299|0=>0|27=>298|33=>83|4=>4|n=>n,λ|n=>n⟩
def Tryz.Xp:Go.Proofs.SlLaysZI.n7 Tryz.prog Tryz.Fw:={
 mixed:=by kernel_rfl
 f7:=⟨Tryz.f198.name,am,Tryz.func198.trans ac⟩
 f10:=⟨Tryz.f250.name,am,Tryz.func250.trans ac⟩
 t0:=Tryz.underlying0
 a0:=Tryz.isAgg0
 z0:=Tryz.sizeOf0
 v0:=Tryz.zeroValue0
 t4:=Tryz.underlying4
 a4:=Tryz.isAgg4
 z4:=Tryz.sizeOf4
 v4:=Tryz.zeroValue4
 t23:=Tryz.underlying148
 a23:=Tryz.isAgg148
 z23:=Tryz.sizeOf148
 v23:=Tryz.zeroValue148
 t26:=Tryz.underlying3
 a26:=Tryz.isAgg3
 z26:=Tryz.sizeOf3
 v26:=Tryz.zeroValue3
 t27:=Tryz.underlying298
 a27:=Tryz.isAgg298
 z27:=Tryz.sizeOf298
 v27:=Tryz.zeroValue298
 t28:=Tryz.underlying299
 a28:=Tryz.isAgg299
 z28:=Tryz.sizeOf299
 v28:=Tryz.zeroValue299
 t33:=Tryz.underlying83
 a33:=Tryz.isAgg83
 z33:=Tryz.sizeOf83
 v33:=Tryz.zeroValue83}
def Tryz.yQ:Go.Shelf.Ren:=⟨λ|6=>197|8=>248|9=>249|11=>306|13=>218|12=>307|23=>276|24=>277|14=>331|15=>332|16=>333|17=>334|18=>335|19=>336|20=>337|21=>338|22=>339|25=>364|26=>317|27=>318|28=>365|29=>366|30=>278|31=>378|n=>n,λ|26=>3|28=>299|24=>42|0=>0|3=>3|37=>324|48=>365|50=>367|4=>4|40=>359|39=>358|45=>273|5=>5|9=>9|51=>400|55=>375|57=>426|58=>427|33=>83|n=>n,λ|n=>n⟩
def Tryz.Ux:Go.Proofs.SlLaysZI.n6 Tryz.prog Tryz.yQ:={
 mixed:=by kernel_rfl
 f6:=⟨Tryz.f197.name,am,Tryz.func197.trans ac⟩
 f8:=⟨Tryz.f248.name,am,Tryz.func248.trans ac⟩
 f11:=⟨Tryz.f306.name,am,Tryz.func306.trans ac⟩
 t0:=Tryz.underlying0
 a0:=Tryz.isAgg0
 z0:=Tryz.sizeOf0
 v0:=Tryz.zeroValue0
 t24:=Tryz.underlying42
 a24:=Tryz.isAgg42
 z24:=Tryz.sizeOf42
 v24:=Tryz.zeroValue42
 t26:=Tryz.underlying3
 a26:=Tryz.isAgg3
 z26:=Tryz.sizeOf3
 v26:=Tryz.zeroValue3
 t28:=Tryz.underlying299
 a28:=Tryz.isAgg299
 z28:=Tryz.sizeOf299
 v28:=Tryz.zeroValue299
 i26:=by kernel_rfl}
def Tryz.PE:Go.Shelf.Ren:=⟨λ|5=>249|8=>218|7=>307|19=>276|20=>277|10=>331|11=>332|12=>333|13=>334|14=>335|15=>336|16=>337|17=>338|18=>339|30=>364|31=>317|32=>318|33=>365|34=>366|35=>278|40=>378|n=>n,λ|23=>42|25=>3|3=>3|32=>324|22=>42|0=>0|44=>365|46=>367|4=>4|36=>359|35=>358|41=>273|5=>5|9=>9|53=>400|57=>375|63=>426|64=>427|n=>n,λ|n=>n⟩
def Tryz.wD:Go.Proofs.SlLaysM.n5 Tryz.prog Tryz.PE:={
 mixed:=by kernel_rfl
 f5:=⟨Tryz.f249.name,am,Tryz.func249.trans ac⟩
 f7:=⟨Tryz.f307.name,am,Tryz.func307.trans ac⟩
 f8:=Tryz.func218.trans ac
 f10:=⟨Tryz.f331.name,am,Tryz.func331.trans ac⟩
 f11:=⟨Tryz.f332.name,am,Tryz.func332.trans ac⟩
 f12:=⟨Tryz.f333.name,am,Tryz.func333.trans ac⟩
 f13:=⟨Tryz.f334.name,am,Tryz.func334.trans ac⟩
 f14:=⟨Tryz.f335.name,am,Tryz.func335.trans ac⟩
 f15:=⟨Tryz.f336.name,am,Tryz.func336.trans ac⟩
 f16:=⟨Tryz.f337.name,am,Tryz.func337.trans ac⟩
 f17:=⟨Tryz.f338.name,am,Tryz.func338.trans ac⟩
 f18:=⟨Tryz.f339.name,am,Tryz.func339.trans ac⟩
 f19:=Tryz.func276.trans ac
 f20:=Tryz.func277.trans ac
 f30:=⟨Tryz.f364.name,am,Tryz.func364.trans ac⟩
 f31:=Tryz.func317.trans ac
 f32:=Tryz.func318.trans ac
 f33:=⟨Tryz.f365.name,am,Tryz.func365.trans ac⟩
 f34:=⟨Tryz.f366.name,am,Tryz.func366.trans ac⟩
 f35:=⟨Tryz.f278.name,am,Tryz.func278.trans ac⟩
 f40:=⟨Tryz.f378.name,am,Tryz.func378.trans ac⟩
 t0:=Tryz.underlying0
 a0:=Tryz.isAgg0
 z0:=Tryz.sizeOf0
 v0:=Tryz.zeroValue0
 t3:=Tryz.underlying3
 a3:=Tryz.isAgg3
 z3:=Tryz.sizeOf3
 v3:=Tryz.zeroValue3
 t4:=Tryz.underlying4
 a4:=Tryz.isAgg4
 z4:=Tryz.sizeOf4
 v4:=Tryz.zeroValue4
 t5:=Tryz.underlying5
 a5:=Tryz.isAgg5
 z5:=Tryz.sizeOf5
 v5:=Tryz.zeroValue5
 t9:=Tryz.underlying9
 a9:=Tryz.isAgg9
 z9:=Tryz.sizeOf9
 v9:=Tryz.zeroValue9
 t22:=Tryz.underlying42
 a22:=Tryz.isAgg42
 z22:=Tryz.sizeOf42
 v22:=Tryz.zeroValue42
 t23:=Tryz.underlying42
 a23:=Tryz.isAgg42
 z23:=Tryz.sizeOf42
 v23:=Tryz.zeroValue42
 t25:=Tryz.underlying3
 a25:=Tryz.isAgg3
 z25:=Tryz.sizeOf3
 v25:=Tryz.zeroValue3
 t32:=Tryz.underlying324
 a32:=Tryz.isAgg324
 z32:=Tryz.sizeOf324
 v32:=Tryz.zeroValue324
 t35:=Tryz.underlying358
 a35:=Tryz.isAgg358
 z35:=Tryz.sizeOf358
 v35:=Tryz.zeroValue358
 t36:=Tryz.underlying359
 a36:=Tryz.isAgg359
 z36:=Tryz.sizeOf359
 v36:=Tryz.zeroValue359
 t41:=Tryz.underlying273
 a41:=Tryz.isAgg273
 z41:=Tryz.sizeOf273
 v41:=Tryz.zeroValue273
 t44:=Tryz.underlying365
 a44:=Tryz.isAgg365
 z44:=Tryz.sizeOf365
 v44:=Tryz.zeroValue365
 t46:=Tryz.underlying367
 a46:=Tryz.isAgg367
 z46:=Tryz.sizeOf367
 v46:=Tryz.zeroValue367
 t53:=Tryz.underlying400
 a53:=Tryz.isAgg400
 z53:=Tryz.sizeOf400
 v53:=Tryz.zeroValue400
 t57:=Tryz.underlying375
 a57:=Tryz.isAgg375
 z57:=Tryz.sizeOf375
 v57:=Tryz.zeroValue375
 t63:=Tryz.underlying426
 a63:=Tryz.isAgg426
 z63:=Tryz.sizeOf426
 v63:=Tryz.zeroValue426
 t64:=Tryz.underlying427
 a64:=Tryz.isAgg427
 z64:=Tryz.sizeOf427
 v64:=Tryz.zeroValue427}
end Go.Proofs
namespace Go.aw
open Go
def wrap_u64(n:Int):ZG .u64 n=n % 18446744073709551616:=by
 unfold ZG;simp[IntKind.signed,IntKind.bits]
variable{b0 u:List UInt8}{a c i r:Nat}{d:WP}{h:Program}{C g p:TypeId}{o t:ZR}{b:World}
def EX(n:a<18446744073709551616):ZG .u64 (a:Int)=a:=by rw[wrap_u64];omega
def Mb(s:kQ h g p 1 1){L D:ZN}(P:aV gl p L b (ZM a) c i u)(B:Row gl 1 b D d c b0)(j:∀k,aV gl p (·=a) k (ZM a) c i b0->aj (·=a) b k->k.heap.size=b.heap.size->o (ZH c) k):
  aJ h (Builtin.copy_ #[g,g] C #[.slice (ZM a) c i,.slice d c r]) b o t:=by
 obtain⟨a1,a2,M,hz,N,a4,a5⟩:=s.info;have E:(h.info? p).map (·.size)=some 1:=by rw[M];simp[N]
 have l:=B.len;have O:=P.len dC;obtain⟨a6,D0,F,a7,a8⟩:=P.body;rcases F.cases with⟨v,_⟩|⟨Q,n,v,w,R,S,a9⟩
 ·cases v
 cases v
 by_cases H:c=0
 ·subst H
  have:b0=[]:=QW l.symm;subst this;have:u=[]:=QW O.symm;subst this;have m:=run_copy_none (P:=h) b g g C p (ZM a) d 0 i 0 r s.under E (by rfl);refine aJ.mk (v:=ZH 0) m (j b ?_ (aj.refl _) rfl);have:=P.alone;exact⟨by obtain⟨cs,D,T,e,a3⟩:=this.body;exact⟨cs,λ_=>False,T,by rw[show cs=[]from e];rfl,λ_ P=>P.elim⟩,λe f=>by simpa[aG]using f.symm,λe f=>by rw[f];exact aA w⟩
 ·obtain⟨cs,x,U⟩:=B.aD
  have y:b0≠[]:=by rintro rfl;simp at l;exact H l
  obtain⟨e,z,V,_,_,W⟩:=U y dC;subst V;have q:cs.length=c:=by have:=x.length;rw[this,l];show _*1=_;omega
  have b1:n.size=i:=by rw[S];show i*1=i;omega
  have m:=run_copy_row (P:=h) b g g C p a 0 c i ⟨e,z,none⟩ c r n p cs s.under E w (by rw[q];simp[Nat.min_self]) (λX Y Z=>by rw[Addr.add_lit];exact W X Y Z) oM (x.RG);rw[q]at m;have I:=setRow_heap b a n (n.toList.take 0++cs++n.toList.drop (0+c)).toArray p (0,0) w;refine aJ.mk m (j _ ⟨⟨cs,λ_=>False,⟨⟨by rw[q];show c=c*1;omega,.inr ⟨a,i,_,rfl,Qj _,I,R,?_,?_,?_⟩⟩⟩,x.free,λ_ P=>P.elim⟩,λe f=>by simpa[aG]using f.symm,λe f=>by subst f;exact aA I⟩ ⟨rfl,rfl,rfl,by simp[World.setRow],λa0 hk y=>setRow_other b a a0 _ y⟩ (by simp[World.setRow]))
  ·rcases F.row.2 with⟨A,_⟩|⟨Q,J,K,A,_,_,_,hm,_⟩
   ·cases A
   ·cases A;exact hm
  ·show _=i*1
   simp;omega
  ·simp only[List.take_zero,List.nil_append,Xz]
   show(cs++n.toList.drop c).take (c*1)=cs;rw[Nat.mul_one,<-q,List.take_left]
end Go.aw
namespace Go.Proofs.YtjgjkeponbeekaaGreatDoor
open Go.aw
variable{e:Int}{u:List UInt8}{a c:Nat}{d:WP}{b:World}
def Pf(a:aM e):PP 293 #[ZH e] b (Ok λc d=>c= .tuple #[.int .u64 (e.natAbs:Int),.int .u8 (if e<0 then 16 else 0)]/\b=d):=by
 unfold aM at a;refine Ix (al.dec (λn=>?_) (λn=>?_))
 ·refine Ok.mk ⟨?_,rfl⟩
  rw[Zx n,wrap_u64,wrap_u64];have P:(0-e % 18446744073709551616) % 18446744073709551616=(e.natAbs:Int):=oM
  rw[P]
 ·refine Ok.mk ⟨?_,rfl⟩
  rw[Zq n,wrap_u64];have P:e % 18446744073709551616=(e.natAbs:Int):=oM
  rw[P]
def bits_Len64{n:Nat}{P:World}(c:n<18446744073709551616):PP 277 #[.int .u64 (n:Int)] P (Ok λb a=>b= ZH (Lib.bitLen n:Int)/\P=a):=by
 refine(Any.bits_Len64 Tryz.Ui (n:Int) P oM oM).mono ?_;rintro d a ⟨rfl,rfl⟩;exact Ok.mk ⟨by rw[Qx],rfl⟩
def VS(b:a<=8)(n:Bool):Ri .u8 (if n then 16 else 0) (ZG .u8 (a:Int))=((UInt8.ofNat (a+if n then 16 else 0)).toNat:Int):=by
 have P:(List.range 9).all (λa=>Ri .u8 16 (ZG .u8 (a:Int))==((UInt8.ofNat (a+16)).toNat:Int)&&Ri .u8 0 (ZG .u8 (a:Int))==((UInt8.ofNat (a+0)).toNat:Int))=true:=by decide+kernel
 have:=ZY.1 P a (List.mem_range.2 oM);simp only[QK,beq_iff_eq]at this
 cases n
 ·exact this.2
 ·exact this.1
def BL{m:Int}{D:ZN}(s:aM m)(f:Row gl 1 b D d a u)(K:a+9<=aT)(hD:∀e,D e->e<b.heap.size):
  PP 240 #[.slice d a c,ZH m] b (Ok (qC gl 5 b (u++dY m))):=by
 have j:=f.len;have k:=s;unfold aM at k;have L:=K;unfold aT at L;have t:m.natAbs<2 ^ 64:=oM
 have v:=Ct t;have M:=yK _ t;refine Lb (PC.ok (Pf s) ?_);rintro _ _ ⟨rfl,rfl⟩;refine⟨_,_,rfl,PC.ok (bits_Len64 oM) ?_⟩;rintro _ _ ⟨rfl,rfl⟩;have N:ZG .i64 (Int.tdiv (ZG .i64 ((Lib.bitLen m.natAbs:Int)+7)) 8)=((fZ m.natAbs).length:Int):=by
  rw[wrap_i64 (x:=(Lib.bitLen m.natAbs:Int)+7) bc,Int.tdiv_eq_ediv_of_nonneg oM,wrap_i64 bc,M];omega
 have O:ZG .i64 ((ZG .i64 (((a:Nat):Int)+1))+((fZ m.natAbs).length:Int))=((a+1+(fZ m.natAbs).length:Nat):Int):=by
  rw[wrap_i64 (x:=((a:Nat):Int)+1) bc,wrap_i64 bc];omega
 refine⟨_,rfl,?_⟩;rw[N,O];refine VT tS kR oM ba λw1 Q w b4=>?_;refine⟨_,_,_,rfl,Mb tS Q (f.af w) λR S T b5=>⟨_,rfl,?_⟩⟩;have y:ai b R:=w.new T λe f=>.inr oM;rw[show ZG .u8 ((fZ m.natAbs).length:Int)=ZG .u8 ((fZ m.natAbs).length:Int)from rfl];have z:=VS v (decide (m<0));simp only[Zk]at z;rw[z];refine NM S tS (x:=UInt8.ofNat ((fZ m.natAbs).length+if m<0 then 16 else 0)) (D:=λ_=>False) ⟨rfl,trivial⟩ (λ_ h=>h.elim) (by rw[<-j];unfold aT;omega) (by rw[<-j];unfold maxLen;omega) λa4 c3 U V A W X b6=>?_;have Y:ai b U:=y.new W λe f=>.inr (by simp only[aG,Q1]at f;omega);have Z:a+1=(u++[UInt8.ofNat ((fZ m.natAbs).length+if m<0 then 16 else 0)]).length:=by simp[j]
 generalize a8:u++[UInt8.ofNat ((fZ m.natAbs).length+if m<0 then 16 else 0)]=l at A Z;have a0:u++dY m=l++(fZ m.natAbs).reverse:=by rw[<-a8,XQ];rfl
 rw[a0];generalize a9:(fZ m.natAbs).length=P at v⊢;refine⟨_,_,_,rfl,λB C o E F H=>∃n:Nat,n<=P/\F=(P:Int)-1-n/\B=P-n/\o=a+1+n/\∃g,aV gl 5 g H C o E (l++(fZ m.natAbs).reverse.take n)/\ai b H/\∀e,g e->b.heap.size<=e,
  ⟨_,0,Qj _,by rw[wrap_i64 bc];omega,rfl,rfl,V,by simpa using A,Y,λe f=>?_⟩,?_⟩
 ·rcases X e f with h|h|h
  ·omega
  ·exact h.elim
  ·have:=y.size;omega
 rintro B C o E F _ p ⟨n,hj,rfl,rfl,rfl,g,i,q,r⟩;refine al.dec (λh1=>?_) (λh1=>?_)
 ·have b7:n<P:=oM
  have b0:ZG .i64 (8*((P:Int)-1-n))=((8*(P-1-n):Nat):Int):=by rw[wrap_i64 bc];omega
  rw[b0];have a1:∀x I,(do eqGuard .shr 367 x I (.int .u64 (m.natAbs:Int)) (ZH ((8*(P-1-n):Nat):Int));binOp .shr 367 (.int .u64 (m.natAbs:Int)) (ZH ((8*(P-1-n):Nat):Int)):Sem Value).run ZP p=
    .ok (.int .u64 ((m.natAbs/256 ^(P-1-n):Nat):Int)) p:=λx I=>by
   have h0:=shift_shr .u64 .i64 (m.natAbs:Int) ((8*(P-1-n):Nat):Int) oM (by show _<=((64:Nat):Int);omega);have e1:(m.natAbs:Int)/2 ^(Int.toNat ((8*(P-1-n):Nat):Int))=((m.natAbs/256 ^(P-1-n):Nat):Int):=by
    have e2:(256:Nat) ^(P-1-n)=2 ^(8*(P-1-n)):=by rw[Nat.pow_mul]
    rw[Qx,e2];simp
   show(Op.shift .shr .u64 (m.natAbs:Int) .i64 ((8*(P-1-n):Nat):Int)).run ZP p=_;rw[h0,e1]
   rfl
  refine aJ.mk (a1 _ _) ⟨_,rfl,?_⟩;have a2:(fZ m.natAbs).reverse[n]? =some (UInt8.ofNat (m.natAbs/256 ^(P-1-n))):=by
   rw[List.getElem?_reverse oM,a9];rw[Sf _ _ oM]
   congr 1
   refine UInt8.toNat_inj.1 ?_;rw[ZK,ZK];omega
  have a3:ZG .u8 ((m.natAbs/256 ^(P-1-n):Nat):Int)=((UInt8.ofNat (m.natAbs/256 ^(P-1-n))).toNat:Int):=by
   rw[ZK];unfold ZG;simp[IntKind.signed,IntKind.bits]
  rw[a3];have J:(l++(fZ m.natAbs).reverse.take n).length=a+1+n:=by simp;omega
  refine NM i tS (x:=UInt8.ofNat (m.natAbs/256 ^(P-1-n))) (D:=λ_=>False) ⟨rfl,trivial⟩ (λ_ h=>h.elim) (by rw[J];unfold aT;omega) (by rw[J];unfold maxLen;omega) λa5 c5 w5 F5 b1 b2 b3 b8=>?_;refine⟨_,_,_,rfl,_,oM,n+1,oM,by rw[wrap_i64 bc];omega,rfl,oM,F5,?_,q.new b2 λe f=>.inr (r e (i.self e f)),λe f=>?_⟩
  ·rw[Qw,a2]
   simpa using b1
  ·rcases b3 e f with h|h|h
   ·exact r e h
   ·exact h.elim
   ·exact Xx q.size h
 ·obtain rfl:n=P:=oM
  rw[Qz be]at i;exact Ok.mk ⟨_,_,_,g,rfl,i,q,r⟩
end Go.Proofs.YtjgjkeponbeekaaGreatDoor
namespace Go.aw
open Go
def Own.set{d:World}{i:TypeId}{k:Nat}{e:WP}{l P:Nat}{cs:List Value}(o:Own d i k e l P cs){m:Nat}{p:Value}{q:ZU}(E:m<cs.length){a b:Nat}(f:e=some ⟨a,b,none⟩)(g:∀n,Own n i k e l P (cs.set m p)->aj (λa=>aG e=some a) d n->n.heap.size=d.heap.size->q n):PS d ⟨a,b+m,none⟩ p q:=by
 have r:=o.row.1;rcases o.row.2 with⟨c,F⟩|⟨H,I,h,c,s,t,u,v,w,j⟩
 ·simp only[XX]at c
  rw[c.1]at f;cases f
 ·simp only[XX]at c
  obtain⟨x,-,y⟩:=c;subst x;subst y
  cases f
  rw[Xz];have z:m<h.size:=by
   have:=Zj List.length j;simp at this;omega
  refine PS.mk t z λn A B C=>g n ⟨⟨by simpa using r,.inr ⟨_,_,_,rfl,s,C,u,v,by simpa using w,?_⟩⟩⟩ (A.mono λa _ X=>by rw[X];rfl) B;rw[Array.toList_setIfInBounds,List.take_set,j]
def bV.oC{a:Type}{b:Nat}{n:a->List Value}{hl h1}{c:World}{D:ZN}:∀{P:List a} {cs:List Value},bV (flat b n (λ_=>True) hl h1) c D P cs↔cs=P.flatMap n
 |[],cs=>by simp[bV]
 |x::P,cs=>by
  constructor
  ·rintro⟨e,f,rfl,⟨rfl,-⟩,d⟩
   rw[bV.oC.1 d];rfl
  ·rintro rfl
   exact⟨n x,P.flatMap n,rfl,⟨rfl,trivial⟩,bV.oC.2 rfl⟩
def rX{c:Type}{enc:c->List Value}{k:Nat}(d:∀P,(enc P).length=k){x':c}{v:Value}{a:Nat}(g:a<k):∀(e:List c) (n:Nat) (P:c),e[n]? =some P->enc x'=(enc P).set a v->(e.flatMap enc).set (n*k+a) v=(e.set n x').flatMap enc
 |[],n,P,b,_=>by simp at b
 |y::h,0,P,b,f=>by
  simp at b;subst b;rw[List.flatMap_cons,List.set_cons_zero,List.flatMap_cons,Nat.zero_mul,Xz,List.set_append_left _ _ (by rw[d];exact g),f]
 |y::h,n+1,P,b,f=>by
  have:=rX d g h n P (by simpa using b) f;have i:(n+1)*k+a-k=n*k+a:=by rw[X7];omega
  have j:k<=(n+1)*k+a:=by rw[X7];omega
  rw[List.flatMap_cons,List.set_cons_succ,List.flatMap_cons,List.set_append_right _ _ (by rw[d];exact j),d,i,this]
def lT{a:Type}{n:a->List Value}{b:Nat}(c:∀x,(n x).length=b):∀P:List a,(P.flatMap n).length=P.length*b
 |[]=>by simp
 |x::P=>by rw[List.flatMap_cons,QX,c,lT c P,Xq,X7,Nat.one_mul,Nat.add_comm]
variable{F a c i r:Nat}{f:ZN}{d x:WP}{h:Program}{j:Type}{C g p:TypeId}{v:Value}{o t:ZR}{b:World}{y:ZU}
def aV.set{k:Type}{n:k->List Value}{hl h1}{e:List k}(l:aV (flat a n (λ_=>True) hl h1) g f b d c i e){P j:Nat}{x x':k}(o:e[P]? =some x)(q:j<a)(s:n x'=(n x).set j v)(t:d=some ⟨r,F,none⟩)(m:∀h,aV (flat a n (λ_=>True) hl h1) g f h d c i (e.set P x')->aj (λr=>aG d=some r) b h->h.heap.size=b.heap.size->y h):PS b ⟨r,F+P*a+j,none⟩ v y:=by
 obtain⟨cs,D,u,w,z⟩:=l.body;have A:=bV.oC.1 w;subst A;have B:P<e.length:=(Qv.1 o).1;rw[Nat.add_assoc];refine u.set (m:=P*a+j) ?_ t λh C E p=>m h ⟨⟨_,D,C,bV.oC.2 (rX hl q e P x o s),z⟩,l.self,λr H=>by rw[p];exact l.aE r H⟩ E p;rw[lT hl];have:(P+1)*a<=e.length*a:=Q0 _ B;rw[X7]at this;omega
def xV{P:Program}{w:World}(n:Nat)(b g c:TypeId)(h:TypeInfo)(a:Nat)(e:P.underlying b=some (.slice c))(f:P.info? c=some h)(d:Value)(i:Nat)(j:List Value)(k:w.ownsRow n c a d i j)(l:Nat):
  (Builtin.append_ #[b,b] g #[d,.slice none 0 l]).run P w= .ok d w:=by
 rcases k.2 with⟨rfl,rfl⟩|⟨q,m,o,rfl,_,_,p,_⟩
 ·simp[Builtin.append_,run_underlying e,sizeOf,typeInfo,f,Builtin.lenOf,Builtin.firstCells]
 ·simp[Builtin.append_,run_underlying e,sizeOf,typeInfo,f,Builtin.lenOf,Builtin.firstCells,p,storeCells]
def Am{k:ky j}{q:List j}{bytes:Nat}(s:aV k g f b d a c q)(u:kQ h p g k.k bytes){D:ZN}{e:List j}(v:Row k bytes b D x i e)(A:∀n,D n->n<b.heap.size/\aG d≠some n)(l:(q.length+e.length)*bytes<=aT)(B:q.length+e.length<=maxLen)(m:∀w P y z,aV k g z y w (a+i) P (q++e)->aj (λE=>aG d=some E) b y->(∀n,z n->f n\/D n\/b.heap.size<=n)->(∀n,aG w=some n->f n\/b.heap.size<=n)->o (.slice w (a+i) P) y):
  aJ h (Builtin.append_ #[p,p] C #[.slice d a c,.slice x i r]) b o t:=by
 cases x with
 |some N=>exact lK s u v A l B m
 |none=>
  have F:e=[]:=by
   cases e with
   |nil=>rfl
   |cons H O=>obtain⟨n,I,Q,J,_⟩:=v.el 0 H rfl;cases J
  subst F;obtain rfl:i=0:=v.len;obtain⟨K,R,L,S,T,U,V⟩:=kQ.info u;obtain⟨cs,W,M,X,Y⟩:=s.body;exact aJ.mk (xV (P:=h) (w:=b) 0 p C g K k.k u.under L (.slice d a c) a cs M.row r) (m d c b f (by simpa using s) (aj.refl _) (λn l=>.inl l) λn l=>.inl (s.self n l))
end Go.aw
namespace Go.aw
open Go
def LM(n:UInt8):ZG .i64 (n.toNat:Int)=n.toNat:=wrap_i64 (by have:=n.toNat_lt;unfold aM;omega)
def lY(n:UInt8):Nat:=if 16<n.toNat then n.toNat-16 else n.toNat
def Mf(P:UInt8):(ZG .i64 (vR .u8 (P.toNat:Int) 16)<=8/\((P.toNat:Int)≠16)↔lY P<=8)/\(lY P<=8->ZG .i64 (vR .u8 (P.toNat:Int) 16)=(lY P:Int)/\Gk .u8 (P.toNat:Int) 16=if 16<P.toNat then 16 else 0):=by
 have a:(List.range 256).all (λn=>decide ((ZG .i64 (vR .u8 (n:Int) 16)<=8/\((n:Int)≠16)↔(if 16<n then n-16 else n)<=8)/\((if 16<n then n-16 else n)<=8->ZG .i64 (vR .u8 (n:Int) 16)=((if 16<n then n-16 else n:Nat):Int)/\Gk .u8 (n:Int) 16=if 16<n then 16 else 0)))=true:=by decide+kernel
 have:=ZY.1 a P.toNat (List.mem_range.2 P.toNat_lt);exact XV this
def Mg{n d:Nat}(b:n<72057594037927936)(c:d<256):Ri .u64 (LH .u64 (n:Int) 8) (ZG .u64 (d:Int))=((n*256+d:Nat):Int):=by
 have P:LH .u64 (n:Int) 8=((n*256:Nat):Int):=by
  unfold LH;have:min (Int.toNat 8) (IntKind.bits .u64)=8:=dC
  rw[this,wrap_u64];have:((2:Int) ^ 8)=256:=dC
  rw[this];omega
 rw[P,EX oM];unfold Ri;show ZG .u64 ((BitVec.ofInt 64 ((n*256:Nat):Int)|||BitVec.ofInt 64 (d:Int)).toNat:Int)=_;have a:n*256|||d=n*256+d:=by
  have:=(Nat.shiftLeft_add_eq_or_of_lt (a:=n) (i:=8) (b:=d) oM).symm
  rwa [Nat.shiftLeft_eq]at this
 rw[BitVec.ofInt_natCast,BitVec.ofInt_natCast,BitVec.toNat_or,BitVec.toNat_ofNat,BitVec.toNat_ofNat,Nat.mod_eq_of_lt oM,Nat.mod_eq_of_lt oM,a,EX oM]
variable{u:List UInt8}{a:Nat}{b9:UInt8}
def Ez(n:u[a]? =some b9):gO (u.take (a+1))=gO (u.take a)*256+b9.toNat:=by
 rw[Qw,n];exact yL _ _
def pw(n:List UInt8){j m:Nat}(P:j<=m):gO (n.take j)<256 ^ m:=by
 have a:=Ns (n.take j);have b:256 ^(n.take j).length<=256 ^ m:=Nat.pow_le_pow_right oM be;omega
def Mh(n:¬lY b9<=8):rdNum (b9::u)=(5,0,0):=by
 unfold rdNum lY at*;simp only;rw[Zx oM]
def Jr(P:lY b9<=8)(n:u.length<lY b9):rdNum (b9::u)=(4,0,0):=by
 unfold rdNum lY at*;simp only;rw[Zq oM,Zx n]
def Pj(a:lY b9<=8)(n:¬u.length<lY b9)(P:(0<lY b9/\u.head? =some 0)\/(¬16<b9.toNat/\2 ^ 63<=gO (u.take (lY b9)))\/(16<b9.toNat/\2 ^ 63<gO (u.take (lY b9)))):rdNum (b9::u)=(5,0,0):=by
 unfold rdNum lY at*;simp only;rw[Zq oM,Zq n,Zx P]
def Cv(a:lY b9<=8)(n:¬u.length<lY b9)(P:¬((0<lY b9/\u.head? =some 0)\/(¬16<b9.toNat/\2 ^ 63<=gO (u.take (lY b9)))\/(16<b9.toNat/\2 ^ 63<gO (u.take (lY b9))))):
  rdNum (b9::u)=(0,if 16<b9.toNat then-(gO (u.take (lY b9)):Int)else gO (u.take (lY b9)),lY b9+1):=by
 unfold rdNum lY at*;simp only;rw[Zq oM,Zq n,Zq P]
end Go.aw
namespace Go.Proofs.YtjgjkeponbeekaaGreatDoor
open Go.aw
structure fB (w:World) (p:Nat) (F:ZN) (r:ig):Prop where
 body:∃a n cap G,w.heap[p]? =some (.cells #[.slice a n cap,ZH (r.pos:Int),ZH r.sw] 337 (0,0))/\aV gl 5 G w a n cap r.bytes/\(∀b,G b->F b/\b≠p)
 self:F p
 aE:∀b,F b->b<w.heap.size
 fit:r.Fit
 fj:r.bytes.length<=aT
variable{m:Array Value}{K:Bool}{z:FuncId}{e:Int}{a6:List PanicEntry->ZU}{u:List UInt8}{a c i:Nat}{f:ZN}{d:WP}{o t:ZR}{b k:World}{T:ig}
def fB.keep{S c:ZN}(P:fB b a c T)(d:aj S b k)(g:∀n,c n->¬S n):fB k a c T:=by
 obtain⟨i,j,e,G,l,m,h⟩:=P.body;exact⟨⟨i,j,e,G,d.get l (g _ P.self),m.keep d (λn f=>g n (h n f).1),h⟩,P.self,λn f=>Qk (P.aE n f) d.size,P.fit,P.fj⟩
def fB.af(n:fB b a f T)(P:ai b k):fB k a f T:=n.keep P λ_ _ n=>n
def fB.fk{b w':World}{e r':ig}(g:fB b a f e){G:ZN}(k:aV gl 5 G b d c i e.bytes)(h:∀n,G n->f n/\n≠a)(j:aj (·=a) b w')(l:w'.heap[a]? =some (.cells #[.slice d c i,ZH (r'.pos:Int),ZH r'.sw] 337 (0,0)))(P:r'.bytes=e.bytes)(m:r'.Fit):fB w' a f r':=
 ⟨⟨d,c,i,G,l,by rw[P];exact k.keep j λn P=>(h n P).2,h⟩,g.self,λn P=>Qk (g.aE n P) j.size,m,by rw[P];exact g.fj⟩
def Ex{D:ZN}(P:Row gl 1 b D d a u)(o:∀n,D n->n<b.heap.size):
  PP 164 #[.slice d a c] b (Ok λp j=>∃k l,p= ZL k/\fB j k l ⟨u,0,0⟩/\ai b j/\∀n,l n->b.heap.size<=n):=by
 have q:=P.len;have r:=P.fj;refine It (Am (aV.nil b) tS P (λn g=>⟨o n g,by simp[aG]⟩) be (by unfold aT at r;unfold maxLen;simp;omega) λe s h z t v _ w=>?_);refine⟨_,_,_,rfl,PA.mk λA i B x=>?_⟩;have m:ai b h:=v.mono λn _ P=>by simp[aG]at P
 have f:=t.alone;rw[List.nil_append]at f;have y:∀n,aG e=some n->b.heap.size<=n:=λn P=>(w n P).elim (λg=>g.elim) id;refine Ok.mk ⟨h.heap.size,λn=>n=h.heap.size\/aG e=some n,rfl,⟨⟨e,_,s,λn=>aG e=some n,x,f.af i,λn P=>⟨.inr P,?_⟩⟩,.inl rfl,?_,⟨Qj _,.inl rfl⟩,by rw[<-q];omega⟩,m.then i,?_⟩
 ·have:=f.aE n P;omega
 ·rintro n (rfl|P)
  ·omega
  ·have:=f.aE n P;have:=i.size;omega
 ·rintro n (rfl|P)
  ·exact m.size
  ·exact y n P
def Vc(n:Int):List PanicEntry:=[{v:=.iface 372 (ZH n),recovered:=false}]
def gw(n:K=true->o (.tuple #[]) b)(P:K=false->a6 (Vc e) b):
  PC ZP 287 #[.bool K,ZH e] b o a6:=by
 cases K
 ·refine yo (al.tt rfl ?_)
  exact aJ.panics (v:=.iface 372 (ZH e)) rfl (P rfl)
 ·exact yo (al.ff rfl (n rfl))
def VX(b:World)(a:Nat)(c:ZN)(n:ig)(no:Int)(f:ZR)(g:Nat):ZT:=λd P=>
 ((no=0/\fB P a c ⟨n.bytes,n.pos+g,n.sw⟩/\∃e,d= .returned e/\f e P)\/(no≠0/\d= .panicked (Vc no)/\∃h,fB P a c ⟨n.bytes,h,n.sw⟩))/\aj (·=a) b P/\P.heap.size=b.heap.size
def PC.red{no:Int}(d:PP z m b (VX b a f T no o c))(j:no=0->∀P n,fB n a f ⟨T.bytes,T.pos+c,T.sw⟩->o P n->aj (·=a) b n->n.heap.size=b.heap.size->t P n)(k:no≠0->∀n,(∃l,fB n a f ⟨T.bytes,l,T.sw⟩)->aj (·=a) b n->n.heap.size=b.heap.size->a6 (Vc no) n):PC ZP z m b t a6:=
 d.mono λq n ⟨d,h,i⟩=>by
  rcases d with⟨e,g,P,rfl,p⟩|⟨e,rfl,g⟩
  ·exact j e P n g p h i
  ·exact k e n g h i
def Nv{m:Nat}(c:fB b a f T)(M:m<=2147483647):
  PP 288 #[ZL a,ZH (m:Int)] b (VX b a f T (if m<=T.bytes.length-T.pos then 0 else 4) (λx y=>∃d z,x= .slice d m z/\Row gl 1 y f d m ((T.bytes.drop T.pos).take m)) m):=by
 obtain⟨d,q,n,G,A,g,j⟩:=c.body;have N:=c.fit.pos;have B:=c.fj;have O:=g.len dC;have C:=g.lA;unfold aT at B;refine uy λr s=>?_;have h:ai b r:=s.keep;have i:=h.get A id;have t:r.heap.size=b.heap.size:=by rw[s.heap]
 refine⟨a,0,rfl,d,q,n,ae i rfl,a,0,rfl,_,ae i rfl,gw (λP=>?_) (λP=>?_)⟩
 ·have P:=XV P
  rw[wrap_i64 bc]at P;refine⟨rfl,a,0,rfl,_,ae i rfl,a,0,rfl,PS.mk i sM λE F H e=>?_⟩;have I:ZG .i64 ((T.pos:Int)+(m:Int))=((T.pos+m:Nat):Int):=by rw[wrap_i64 bc];omega
  rw[I]at e;have J:ZG .i64 (((T.pos+m:Nat):Int)-(m:Int))=(T.pos:Int):=by rw[wrap_i64 bc];omega
  refine⟨a,0,rfl,d,q,n,ae e rfl,a,0,rfl,_,ae e rfl,a,0,rfl,_,ae e rfl,?_⟩;rw[J];refine⟨oM,oM,oM,λk u=>?_⟩;have v:ai E k:=u.keep;have l:aj (·=a) b k:=((h.keep).then F).af v;have K:fB k a f ⟨T.bytes,T.pos+m,T.sw⟩:=c.fk (r':=⟨T.bytes,T.pos+m,T.sw⟩) g j l (v.get e id) rfl ⟨by show T.pos+m<=T.bytes.length;omega,c.fit.sw⟩;refine⟨.inl ⟨Zx oM,K,_,rfl,dd d T.pos n 1,n-T.pos,?_⟩,l,by rw[u.heap,H,t]⟩;simp only[Qx];rw[show T.pos+m-T.pos=m by omega];refine⟨rfl,?_⟩;have o:=(g.row (bytes:=1) dC ba).part (lo:=T.pos) (hi:=T.pos+m) (cap:=n) oM oM C;rw[show T.pos+m-T.pos=m by omega]at o;have L:(T.bytes.take (T.pos+m)).drop T.pos=(T.bytes.drop T.pos).take m:=by rw[List.drop_take];congr 1;omega
  rw[L]at o;exact((o.keep l λp P=>(j p P).2)).mono λp P=>(j p P).1
 ·intro _ _
  have P:=Xy P;rw[wrap_i64 bc]at P;have w:¬m<=T.bytes.length-T.pos:=oM
  refine⟨.inr ⟨by rw[Zq w];decide,by rw[Zq w],T.pos,?_⟩,h.keep,t⟩;exact c.af h
def EZ(M:fB b a f T):
  PP 230 #[ZL a] b (VX b a f T T.num.1 (λt g=>t= ZH T.num.2.1) T.num.2.2):=by
 have x:=M.fit.pos;have r:(T.bytes.drop T.pos).length=T.bytes.length-T.pos:=XZ ..;generalize s:T.bytes.drop T.pos=A at r;have Z:T.num=rdNum A:=by unfold ig.num;rw[s]
 rw[Z];refine qY (PC.red (Nv (m:=1) M oM) ?_ ?_)
 rotate_left
 ·intro k y B u v
  have:¬1<=T.bytes.length-T.pos:=λe=>k (Zx e);rw[Zq this];have:A=[]:=QW oM;subst this;exact⟨.inr ⟨dC,rfl,B⟩,u,v⟩
 rintro k _ y N ⟨a1,c1,rfl,O⟩ u v;have Q:1<=T.bytes.length-T.pos:=by
  by_cases e:1<=T.bytes.length-T.pos
  ·exact e
  ·rw[Zq e]at k;cases k
 rw[s]at O
 match A,s,r with
 |[],s,r=>simp at r;omega
 |n::d,s,r=>
 have b1:d.length=T.bytes.length-T.pos-1:=by simp at r;omega
 have a7:T.bytes.drop (T.pos+1)=d:=by rw[<-List.drop_drop,s];rfl
 obtain⟨b5,o6,m,rfl,o,_,P⟩:=O.oF (i:=0) oM;obtain rfl:n=m:=by simpa using o
 obtain⟨C,a8⟩:=Mf n;refine⟨_,_,_,rfl,b5,o6,rfl,oM,oM,_,P,?_⟩;refine⟨λg=>lY n<=8/\g=y,?_,?_⟩
 ·have h:¬lY n<=8->∀g,g=y->VX b a f T (rdNum (n::d)).1 (λt g=>t= ZH (rdNum (n::d)).2.1) (rdNum (n::d)).2.2 (.panicked (Vc 5)) g:=by
   rintro p g rfl;rw[Mh p];exact⟨.inr ⟨dC,rfl,T.pos+1,N⟩,u,v⟩
  refine al.dec (λE=>gw (λc=>⟨rfl,?_,rfl⟩) (λc=>h ?_ _ rfl)) (λE=>gw (λc=>(by cases c)) λ_=>h ?_ _ rfl)
  ·exact C.1 ⟨E,by simpa using c⟩
  ·intro p
   have:=(C.2 p).2;simp only[bne_eq_false_iff_eq]at c;exact this c
  ·intro p
   exact E (C.2 p).1
 rintro _ y ⟨w,rfl⟩;obtain⟨p,a9⟩:=a8 w;rw[p];refine PC.red (Nv (m:=lY n) N oM) ?_ ?_
 rotate_left
 ·intro k l B F H
  have hn:¬lY n<=T.bytes.length-(T.pos+1):=λe=>k (Zx e);rw[Zq hn,Jr w oM];exact⟨.inr ⟨dC,rfl,B⟩,u.then F,H.trans v⟩
 rintro k _ l R ⟨a2,c2,rfl,z⟩ F H;have b2:lY n<=d.length:=by
  by_cases e:lY n<=T.bytes.length-(T.pos+1)
  ·omega
  ·simp only at k;rw[Zq e]at k;cases k
 change Row gl 1 l f a2 (lY n) ((T.bytes.drop (T.pos+1)).take (lY n))at z
 rw[a7]at z;have S:fB l a f ⟨T.bytes,T.pos+(lY n+1),T.sw⟩:=by have:=R;rwa [show T.pos+(lY n+1)=T.pos+1+lY n by omega]
 have I:aj (·=a) b l:=u.then F;have J:=H.trans v;have h:((0<lY n/\d.head? =some 0)\/(¬16<n.toNat/\2 ^ 63<=gO (d.take (lY n)))\/(16<n.toNat/\2 ^ 63<gO (d.take (lY n))))->∀g,g=l->VX b a f T (rdNum (n::d)).1 (λt g=>t= ZH (rdNum (n::d)).2.1) (rdNum (n::d)).2.2 (.panicked (Vc 5)) g:=by
  rintro c g rfl;rw[Pj w oM c];exact⟨.inr ⟨dC,rfl,_,R⟩,I,J⟩
 refine⟨_,_,_,rfl,λg=>¬(0<lY n/\d.head? =some 0)/\g=l,?_,?_⟩
 ·refine al.eN (λe=>gw (λ_=>⟨rfl,λP=>oM,rfl⟩) (λc=>by cases c)) (λe=>?_)
  have x:0<lY n:=oM
  obtain⟨K,L,m,rfl,o,_,P⟩:=z.oF (i:=0) x;have U:d.head? =some m:=by
   rw[Xw,Zx x]at o;rw[List.head?_eq_getElem?];exact o
  refine⟨K,L,rfl,oM,oM,_,P,gw (λc=>⟨rfl,λP=>?_,rfl⟩) (λc=>h (.inl ⟨x,?_⟩) _ rfl)⟩
  ·rw[U]at P
   have:=P.2;simp only[Q1]at this;subst this;simp at c
  ·rw[U]
   have:(m.toNat:Int)=0:=by simpa using c
   exact Zj some (UInt8.toNat_inj.1 (by
                         have:m.toNat=0:=oM
                         rw[this];rfl))
 rintro _ l ⟨V,rfl⟩;refine⟨λW X i g=>∃j:Nat,j<=lY n/\i=j/\W=lY n-j/\g=l/\X=(gO (d.take j):Int),⟨_,0,Qj _,rfl,rfl,rfl,rfl⟩,?_⟩;rintro W X i _ l ⟨j,hj,rfl,rfl,rfl,rfl⟩;refine al.dec (λh1=>?_) (λh1=>?_)
 ·have Y:j<lY n:=oM
  obtain⟨K,L,m,rfl,o,_,P⟩:=z.oF (i:=j) Y;rw[Xw,Zx Y]at o;refine⟨K,L,rfl,oM,oM,_,P,_,oM,j+1,oM,an oM,rfl,rfl,?_⟩;have b0:=pw d (j:=j) (m:=7) oM;rw[Mg (by
            have:(256:Nat) ^ 7=72057594037927936:=dC
            omega) m.toNat_lt,Ez o]
 ·obtain rfl:j=lY n:=oM
  have b0:=pw d (j:=lY n) (m:=8) oM;have b3:(256:Nat) ^ 8=18446744073709551616:=dC
  have b4:(2:Nat) ^ 63=9223372036854775808:=dC
  refine al.eN (λe=>?_) (λe=>?_)<;>rw[a9]at e
  ·have q:¬16<n.toNat:=by intro P;rw[Zx P]at e;cases e
   refine gw (λc=>⟨rfl,?_⟩) (λc=>h (.inr (.inl ⟨q,?_⟩)) _ rfl)
   ·have c:=XV c
    rw[Cv w oM (λP=>P.elim V λP=>P.elim (λP=>oM) λP=>q P.1),Zq q];exact⟨.inl ⟨rfl,S,_,rfl,by rw[wrap_i64 bc]⟩,I,J⟩
   ·have c:=Xy c
    omega
  ·have q:16<n.toNat:=by
    by_cases P:16<n.toNat
    ·exact P
    ·rw[Zq P]at e;exact Zz rfl e
   refine gw (λc=>⟨rfl,?_⟩) (λc=>h (.inr (.inr ⟨q,?_⟩)) _ rfl)
   ·have c:=XV c
    rw[Cv w oM (λP=>P.elim V λP=>P.elim (λP=>P.1 q) λP=>oM),Zx q];refine⟨.inl ⟨rfl,S,_,rfl,?_⟩,I,J⟩;have e1:ZG .i64 (ZG .u64 (0-(gO (d.take (lY n)):Int)))= -(gO (d.take (lY n)):Int):=by
     unfold ZG;simp[IntKind.signed,IntKind.bits];omega
    rw[e1]
   ·have c:=Xy c
    omega
end Go.Proofs.YtjgjkeponbeekaaGreatDoor
namespace Go.aw
open Go
def aq{n P:Type}[BEq n](b:List (n×P))(a:n):Option P:=match b with
 |[]=>none
 |(c,d)::e=>if a==c then some d else aq e a
def aI{n a:Type}[BEq n](e:List (n×a))(P:n)(b:a):List (n×a):=match e with
 |[]=>[(P,b)]
 |(c,f)::d=>if P==c then(P,b)::d else(c,f)::aI d P b
def bL{n P:Type}[BEq n](d:List (n×P))(a:n):List (n×P):=match d with
 |[]=>[]
 |(b,e)::c=>if a==b then c else(b,e)::bL c a
variable{e5:Array MapEntry}{a c:Nat}{h:Program}{J j:Type}{e6:TypeDesc}{C b8 f2 g p:TypeId}{e7:TypeInfo}{c8 v:Value}{o t:ZR}{b k:World}{y:ZU}
def bB[BEq j][LawfulBEq j](d:List (j×J))(P n:j)(f:J):aq (aI d P f) n=if n==P then some f else aq d n:=by
 induction d with
 |nil=>simp[aI,aq]
 |cons g k h=>
  obtain⟨b,l⟩:=g;unfold aI
  by_cases a:P==b
  ·rw[Zx a]
   have e:P=b:=by simpa using a
   subst e;unfold aq;split<;>rfl
  ·rw[Zq a]
   unfold aq
   by_cases c:n==b
   ·rw[Zx c]
    have e:n=b:=by simpa using c
    subst e;have:(n==P)=false:=by
     cases i:n==P
     ·rfl
     ·exfalso;apply a;have:n=P:=by simpa using i
      simp[this]
    rw[this];simp[aq,a]
   ·rw[Zq c];rw[h];simp[aq,c]
def Tidy{n P:Type}(a:List (n×P)):Prop:=(a.map (·.1)).Nodup
def Sa[BEq j][LawfulBEq j]{P:List (j×J)}{n:j}{c:J}{a:j}:a∈(aI P n c).map (·.1)↔a=n\/a∈P.map (·.1):=by
 induction P with
 |nil=>simp[aI]
 |cons d g e=>
  obtain⟨b,i⟩:=d;unfold aI
  by_cases h:n==b
  ·rw[Zx h]
   have f:n=b:=by simpa using h
   subst f;simp
  ·rw[Zq h]
   simp only[QY,Q2,e];constructor
   ·rintro(h|h|h)<;>simp[h]
   ·rintro(h|h|h)<;>simp[h]
def Tidy.aI{n e:Type}[BEq n][LawfulBEq n]{b:List (n×e)}(P:Tidy b)(c:n)(g:e):Tidy (aI b c g):=by
 unfold Tidy at*
 induction b with
 |nil=>simp[aw.aI]
 |cons h k i=>
  obtain⟨f,l⟩:=h;simp only[QY,List.nodup_cons]at P;unfold aw.aI
  by_cases a:c==f
  ·rw[Zx a]
   have j:c=f:=by simpa using a
   subst j;simpa using P
  ·rw[Zq a]
   simp only[QY,List.nodup_cons];refine⟨λd=>?_,i P.2⟩;rcases Sa.1 d with rfl|d
   ·simp at a
   ·exact P.1 d
def Sb[BEq j][LawfulBEq j]{P:List (j×J)}{b a:j}(n:a∈(bL P b).map (·.1)):a∈P.map (·.1):=by
 induction P with
 |nil=>simp[bL]at n
 |cons c e d=>
  obtain⟨f,g⟩:=c;unfold bL at n;split at n
  ·simp only[QY,Q2];exact .inr n
  ·simp only[QY,Q2]at n⊢
   rcases n with n|n
   ·exact .inl n
   ·exact .inr (d n)
def Tidy.bL{n b:Type}[BEq n][LawfulBEq n]{a:List (n×b)}(P:Tidy a)(c:n):Tidy (bL a c):=by
 unfold Tidy at*
 induction a with
 |nil=>simp[aw.bL]
 |cons d g e=>
  obtain⟨h,i⟩:=d;simp only[QY,List.nodup_cons]at P;unfold aw.bL;split
  ·exact P.2
  ·simp only[QY,List.nodup_cons]
   exact⟨λf=>P.1 (Sb f),e P.2⟩
def jG[BEq j][LawfulBEq j]{a:List (j×J)}{n:j}:aq a n=none↔n∉a.map (·.1):=by
 induction a with
 |nil=>simp[aq]
 |cons c f d=>
  obtain⟨b,g⟩:=c;unfold aq
  by_cases P:n==b
  ·have e:n=b:=by simpa using P
   rw[Zx P];subst e;simp
  ·rw[Zq P,d]
   have:n≠b:=by rintro rfl;simp at P
   simp[this]
def gi[BEq j][LawfulBEq j]{b:List (j×J)}(g:Tidy b)(P n:j):aq (bL b P) n=if n==P then none else aq b n:=by
 induction b with
 |nil=>simp[bL,aq]
 |cons h l i=>
  obtain⟨c,m⟩:=h;have e:=g;simp only[Tidy,QY,List.nodup_cons]at e;unfold bL
  by_cases d:P==c
  ·rw[Zx d]
   have f:P=c:=by simpa using d
   subst f
   by_cases a:n==P
   ·have:n=P:=by simpa using a
    subst this;simp only[beq_self_eq_true,if_true];exact jG.2 e.1
   ·rw[Zq a]
    simp[aq,a]
  ·rw[Zq d]
   unfold aq
   by_cases a:n==c
   ·have f:n=c:=by simpa using a
    subst f;have:(n==P)=false:=by
     cases k:n==P
     ·rfl
     ·exfalso;apply d;have:n=P:=by simpa using k
      simp[this]
    simp[this]
   ·rw[Zq a,Zq a];exact i e.2
def cm[BEq j][LawfulBEq j]{P:List (j×J)}{a:j}{b:J}(n:aq P a=some b):(a,b)∈P:=by
 induction P with
 |nil=>simp[aq]at n
 |cons c h d=>
  obtain⟨e,i⟩:=c;unfold aq at n;split at n
  ·rename_i f
   have g:a=e:=by simpa using f
   subst g
   cases n
   simp
  ·exact QJ _ (d n)
def fF[BEq j][LawfulBEq j]{n:List (j×J)}{a:j}{b:J}{P:j×J}(h:P∈aI n a b):P=(a,b)\/P∈n:=by
 induction n with
 |nil=>simpa[aI]using h
 |cons c e d=>
  obtain⟨f,g⟩:=c;unfold aI at h;split at h
  ·rcases Q2.1 h with h|h
   ·exact .inl h
   ·exact .inr (QJ _ h)
  ·rcases Q2.1 h with h|h
   ·exact .inr (h▸QV ..)
   ·rcases d h with h|h
    ·exact .inl h
    ·exact .inr (QJ _ h)
def gN[BEq j][LawfulBEq j]{n:List (j×J)}{a:j}{P:j×J}(h:P∈bL n a):P∈n:=by
 induction n with
 |nil=>simp[bL]at h
 |cons b d c=>
  obtain⟨e,f⟩:=b;unfold bL at h;split at h
  ·exact QJ _ h
  ·rcases Q2.1 h with h|h
   ·exact h▸QV ..
   ·exact QJ _ (c h)
def rp[BEq j][LawfulBEq j]{n:List (j×J)}(a:Tidy n){k:j}{v:J}(b:(k,v)∈n):aq n k=some v:=by
 induction n with
 |nil=>cases b
 |cons c g d=>
  obtain⟨e,h⟩:=c;simp only[Tidy,QY,List.nodup_cons]at a;unfold aq;rcases Q2.1 b with P|P
  ·cases P;simp
  ·have:k≠e:=by
    intro f;exact a.1 (Xk.2 ⟨(k,v),P,f⟩)
   rw[Zq (by simpa using this)];exact d a.2 P
def ye[BEq j](n:List (j×J))(P:j)(a:J):(aI n P a).length<=n.length+1:=by
 induction n with
 |nil=>simp[aI]
 |cons b c d=>
  unfold aI;split
  ·simp
  ·simp;omega
def IJ[BEq j](n:List (j×J))(P:j):(bL n P).length<=n.length:=by
 induction n with
 |nil=>simp[bL]
 |cons a b c=>
  unfold bL;split
  ·simp
  ·simp;omega
def fI{n P a:Type}(b:P->a->Prop):List (n×P)->List (n×a)->Prop
 |[],[]=>True
 |(c,d)::e,(f,g)::h=>c=f/\b d g/\fI b e h
 |_,_=>False
def fI.keys{a b c:Type}{e:b->c->Prop}:∀{n:List (a×b)} {P:List (a×c)},fI e n P->n.map (·.1)=P.map (·.1)
 |[],[],_=>rfl
 |(f,g)::n,(h,i)::P,d=>by simp[d.1,fI.keys d.2.2]
def fI.mono{d e f:Type}{g h:e->f->Prop}:∀{n:List (d×e)} {P:List (d×f)},fI g n P->(∀a b,g a b->h a b)->fI h n P
 |[],[],_,_=>trivial
 |(j,a)::n,(k,b)::P,c,i=>⟨c.1,i _ _ c.2.1,fI.mono c.2.2 i⟩
def fI.aq{P e f:Type}[BEq P]{g:e->f->Prop}(n:P):∀{a:List (P×e)} {b:List (P×f)},fI g a b->
  (aw.aq a n=none/\aw.aq b n=none)\/∃c d,aw.aq a n=some c/\aw.aq b n=some d/\g c d
 |[],[],_=>.inl ⟨rfl,rfl⟩
 |(i,c)::a,(m,d)::b,j=>by
  obtain⟨rfl,k,l⟩:=j;unfold aw.aq
  by_cases h:n==i
  ·simp only[h,if_true];exact .inr ⟨c,d,rfl,rfl,k⟩
  ·simp only[h];exact fI.aq n l
def fI.aI{n P a:Type}[BEq n]{R:P->a->Prop}{b:n}{f:P}{g:a}(c:R f g):∀{d:List (n×P)} {e:List (n×a)},fI R d e->fI R (aw.aI d b f) (aw.aI e b g)
 |[],[],_=>⟨rfl,c,trivial⟩
 |(j,m)::d,(o,p)::e,k=>by
  obtain⟨rfl,l,h⟩:=k;unfold aw.aI
  by_cases i:b==j
  ·simp only[i,if_true];exact⟨rfl,c,h⟩
  ·simp only[i];exact⟨rfl,l,fI.aI c h⟩
def fI.bL{n c d:Type}[BEq n]{e:c->d->Prop}{P:n}:∀{a:List (n×c)} {b:List (n×d)},fI e a b->fI e (aw.bL a P) (aw.bL b P)
 |[],[],_=>trivial
 |(h,k)::a,(l,m)::b,i=>by
  obtain⟨rfl,j,f⟩:=i;unfold aw.bL
  by_cases g:P==h
  ·simp only[g,if_true];exact f
  ·simp only[g];exact⟨rfl,j,fI.bL f⟩
def fI.Za{e f i:Type}{g:f->i->Prop}{j:e}{k:f}:∀{h b:List (e×f)} {a:List (e×i)},fI g (h++(j,k)::b) a->∃c P d,a=c++(j,P)::d/\g k P/\fI g (h++b) (c++d)
 |[],b,(l,P)::a,n=>⟨[],P,a,by rw[n.1];rfl,n.2.1,n.2.2⟩
 |(q,r)::h,b,(l,m)::a,n=>by
  obtain⟨c,P,d,rfl,o,p⟩:=fI.Za n.2.2;exact⟨(l,m)::c,P,d,rfl,o,n.1,n.2.1,p⟩
def fI.length{n P a:Type}{d:P->a->Prop}{b:List (n×P)}{c:List (n×a)}(e:fI d b c):b.length=c.length:=by
 have:=Zj List.length e.keys;simpa using this
structure bQ {κ:Type} (w:World) (r:Nat) (enc:κ->Value) (l:List (κ×Value)):Prop where
 at':∃es clock,w.heap[r]? =some (.map es clock)/\es.toList.map (λe=>(e.key,e.val))=l.map (λp=>(enc p.1,p.2))/\
  (∀e∈es.toList,e.born<clock)/\(es.toList.map (·.born)).Nodup
 tidy:Tidy l
def bQ.keep{S:ZN}{P:j->Value}{d:List (j×Value)}(e:bQ b a P d)(f:aj S b k)(g:¬S a):bQ k a P d:=by
 obtain⟨h,n,i,c⟩:=e.at';exact⟨⟨h,n,f.get i g,c⟩,e.tidy⟩
def bQ.af{n:j->Value}{P:List (j×Value)}(c:bQ b a n P)(d:ai b k):bQ k a n P:=c.keep d id
def bQ.lt{n:j->Value}{d:List (j×Value)}(e:bQ b a n d):a<b.heap.size:=by
 obtain⟨g,P,f,c⟩:=e.at';exact aA f
def bQ.new{n:j->Value}(P:b.heap[a]? =some (.map #[] 0)):bQ b a n ([]:List (j×Value)):=
 ⟨⟨_,_,P,rfl,sM,sM⟩,by simp[Tidy]⟩
def ns{n:Type}[BEq n](b:List (n×Value))(P:n)(a:Nat):Option (Nat×Value):=match b with
 |[]=>none
 |(c,d)::e=>if P==c then some (a,d)else ns e P (a+1)
def Cp{a:Type}[BEq a][LawfulBEq a]{n:a->Value}{g:TypeDesc}(h:∀i j,Instr.sameNow g (n i) (n j)=some (i==j))(b:a):
  ∀(c:List MapEntry) (d:List (a×Value)) (f:Nat),c.map (λe=>(e.key,e.val))=d.map (λk=>(n k.1,k.2))->Instr.findNow g (n b) c f=some (ns d b f)
 |[],[],_,_=>rfl
 |[],_::_,_,P=>by simp at P
 |_::_,[],_,P=>by simp at P
 |e::c,(l,q)::d,f,P=>by
  simp only[QY,List.cons.injEq,Prod.mk.injEq]at P;obtain⟨⟨m,o⟩,p⟩:=P;unfold Instr.findNow ns;rw[m,h]
  cases r:b==l
  ·simp only[Bool.false_eq_true,if_false]
   exact Cp h b c d (f+1) p
  ·simp[o]
def G_[BEq j]{n:j->Value}(a:∀b c,Instr.sameNow e6 (n b) (n c)=none)(d:j)(P:MapEntry)(e:List MapEntry)(f:j)(g:P.key=n f)(h:Nat):Instr.findNow e6 (n d) (P::e) h=none:=by
 unfold Instr.findNow;rw[g,a]
def tF{a:Type}[BEq a]{h:Program}{i:TypeId}{n:a->Value}{b:World}(j:∀k l,(Op.equal i (n k) (n l)).run h b= .ok (k==l) b)(c:a):
  ∀(d:List MapEntry) (f:List (a×Value)) (g:Nat),d.map (λe=>(e.key,e.val))=f.map (λm=>(n m.1,m.2))->(Instr.findAsking i (n c) d g).run h b= .ok (ns f c g) b
 |[],[],_,_=>rfl
 |[],_::_,_,P=>by simp at P
 |_::_,[],_,P=>by simp at P
 |e::d,(o,s)::f,g,P=>by
  simp only[QY,List.cons.injEq,Prod.mk.injEq]at P;obtain⟨⟨p,q⟩,r⟩:=P;unfold Instr.findAsking ns;rw[p];simp only[Sem.run_bind,j,Result.andThen_ok]
  cases t:c==o
  ·simpa using tF j c d f (g+1) r
  ·simp[q]
structure ji {κ:Type} [BEq κ] (P:Program) (kt:TypeId) (enc:κ->Value):Prop where
 find:∀(k:κ) (es:List MapEntry) (l:List (κ×Value)) (w:World),es.map (λe=>(e.key,e.val))=l.map (λp=>(enc p.1,p.2))->(Instr.findKey kt (enc k) es).run P w= .ok (ns l k 0) w
 check:∀k w e,(Instr.checkKey e 10000 kt (enc k)).run P w= .ok () w
 same:∀n a,Instr.sameBits (n+1) (enc a) (enc a)=true
 inj:∀{a b},enc a=enc b->a=b
def ji.flat[BEq j][LawfulBEq j]{n:j->Value}(l:h.underlying g=some e6)(f:∀P a,Instr.sameNow e6 (n P) (n a)=some (P==a))(m:∀i b c d,(Instr.checkKey d (i+1) g (n b)).run h c= .ok () c)(e:∀i P,Instr.sameBits (i+1) (n P) (n P)=true):ji h g n:=
 ⟨λb o p c q=>by simp[Instr.findKey,run_underlying l,Cp f b o p 0 q],λb c d=>m 9999 b c d,e,λ{P a} d=>by
  have k:=f P a;rw[d,f a a]at k;simpa using k.symm⟩
def ji.struct[BEq j]{n:j->Value}(o:h.underlying g=some e6)(q:∀P a,Instr.sameNow e6 (n P) (n a)=none)(r:∀P a b,(Op.equal g (n P) (n a)).run h b= .ok (P==a) b)(s:∀e b f,(Instr.checkKey f 10000 g (n e)).run h b= .ok () b)(c:∀t P,Instr.sameBits (t+1) (n P) (n P)=true)(l:∀{P a},n P=n a->P=a):ji h g n:=by
 refine⟨λe i d b k=>?_,s,c,l⟩
 cases i with
 |nil=>
  cases d with
  |nil=>simp[Instr.findKey,run_underlying o,Instr.findNow,ns]
  |cons m d=>simp at k
 |cons f i=>
  cases d with
  |nil=>simp at k
  |cons m d=>
   have p:=k;simp only[QY,List.cons.injEq,Prod.mk.injEq]at p;simp only[Instr.findKey,Sem.run_bind,run_underlying o,Result.andThen_ok,G_ q e f i m.1 p.1.1];exact tF (λP a=>r P a b) e (f::i) (m::d) 0 k
def xS[BEq j][LawfulBEq j](P:List (j×Value))(a:j):∀n,(ns P a n).map (·.2)=aq P a:=by
 induction P with
 |nil=>intro n;rfl
 |cons b d c=>
  intro n;obtain⟨e,f⟩:=b;unfold ns aq;split
  ·rfl
  ·exact c (n+1)
def km[BEq j][LawfulBEq j]{n:j->Value}(f:ji h g n)(P:j)(a:List MapEntry)(b:List (j×Value))(i:a.map (λd=>(d.key,d.val))=b.map (λe=>(n e.1,e.2)))(c:World):
  (Instr.findKey g (n P) a).run h c= .ok (ns b P 0) c:=by
 exact f.find P a b c i
def dH(n:b.heap[a]? =some (.map e5 c)):(getObj a).run h b= .ok (.map e5 c) b:=by
 simp[getObj,Sem.run,n]
def dP[BEq j][LawfulBEq j]{n:j->Value}(c:ji h g n)(a:Bool)(b:j)(P:World):(Instr.checkKey a 10000 g (n b)).run h P= .ok () P:=by
 exact c.check b P a
def DN(P:h.info? g=some e7)(a:e7.zero=some v)(n:World):(zeroValue g).run h n= .ok v n:=by
 simp[zeroValue,typeInfo,P,a]
structure mQ (P:Program) (t kt vt:TypeId) (z:Value):Prop where
 under:P.underlying t=some (.map kt vt)
 zero:(P.info? vt).bind (·.zero)=some z
def mQ.Nr(b:mQ h g p C v)(P:World):(zeroValue C).run h P= .ok v P:=by
 have n:=b.zero
 cases a:h.info? C with
 |none=>rw[a]at n;cases n
 |some c=>rw[a]at n;exact DN a n P
def eI[BEq j][LawfulBEq j]{n:j->Value}(i:mQ h g p C v)(k:ji h p n){P:List (j×Value)}(m:bQ b a n P)(c:j)(e:Bool):
  (Instr.lookup g (.map (some a)) (n c) e).run h b= .ok (if e then .tuple #[(aq P c).getD v,.bool (aq P c).isSome]else(aq P c).getD v) b:=by
 obtain⟨o,f,q,r,_⟩:=m.at';have s:=km k c o.toList P r b;have d:=xS P c 0;simp only[Instr.lookup,Sem.run_bind,run_underlying i.under,Result.andThen_ok,dH q,dP k,s,Sem.run_pure]
 cases l:ns P c 0 with
 |none=>rw[l]at d;simp only[Option.map_none]at d;rw[<-d];cases e<;>simp[i.Nr]
 |some t=>rw[l]at d;simp only[Option.map_some]at d;rw[<-d];cases e<;>simp
def Al[BEq j][LawfulBEq j]{n:j->Value}(d:mQ h g p C v)(e:ji h p n){c:List (j×Value)}(f:bQ b a n c){P:j}(i:o ((aq c P).getD v) b):aJ h (Instr.lookup g (.map (some a)) (n P) false) b o t:=aJ.mk (eI d e f P false) i
def jC[BEq j][LawfulBEq j]{enc:j->Value}(P:mQ h g p C v)(c:ji h p enc){n:List (j×Value)}(d:bQ b a enc n){k:j}(e:o (.tuple #[(aq n k).getD v,.bool (aq n k).isSome]) b):aJ h (Instr.lookup g (.map (some a)) (enc k) true) b o t:=aJ.mk (eI P c d k true) e
def aj.setObj(n:World)(P:Nat)(a:Obj):aj (·=P) n {n with heap:=n.heap.setIfInBounds P a}:=
 ⟨rfl,rfl,rfl,sM,λc d b=>by simp[Array.getElem?_setIfInBounds,Ne.symm b]⟩
def oB[BEq j][LawfulBEq j]{a:List (j×Value)}{b:j}:∀{n P:Nat} {e:Value},ns a b n=some (P,e)->n<=P/\P-n<a.length/\a[P-n]? =some (b,e)/\∀g,aI a b g=a.set (P-n) (b,g)/\bL a b=a.eraseIdx (P-n):=by
 induction a with
 |nil=>intro n P e c;simp[ns]at c
 |cons l v m=>
  intro n P e c;obtain⟨o,g⟩:=l;unfold ns at c;split at c
  ·rename_i f
   cases c
   have p:b=o:=by simpa using f
   subst p;simp[aI,bL]
  ·rename_i f
   obtain⟨w,h,i,k⟩:=m c;obtain⟨d,rfl⟩:∃d,P=n+1+d:=⟨P-(n+1),oM⟩
   have q:n+1+d-n=d+1:=oM
   have r:n+1+d-(n+1)=d:=oM
   rw[r]at h i k;rw[q];refine⟨oM,by simpa using h,by simpa using i,λs=>?_⟩;obtain⟨t,u⟩:=k s;unfold aI bL;rw[Zq f,Zq f];simp[t,u]
def sx[BEq j][LawfulBEq j]{n:List (j×Value)}{P:j}:∀{b:Nat},ns n P b=none->(∀c,aI n P c=n++[(P,c)])/\bL n P=n:=by
 induction n with
 |nil=>intro b _;simp[aI,bL]
 |cons e i f=>
  intro b a;obtain⟨k,c⟩:=e;unfold ns at a;split at a
  ·cases a
  ·rename_i d
   obtain⟨g,h⟩:=f a;refine⟨λl=>?_,?_⟩
   ·unfold aI;rw[Zq d,g];rfl
   ·unfold bL;rw[Zq d,h]
def map_eraseIdx{b c:Type}(a:b->c):∀(n:List b) (P:Nat),(n.eraseIdx P).map a=(n.map a).eraseIdx P
 |[],_=>by simp
 |x::n,0=>rfl
 |x::n,P+1=>by simp[map_eraseIdx a n P]
def cU(n:World)(P:Nat)(a:Obj)(b:P<n.heap.size):({n with heap:=n.heap.setIfInBounds P a}:World).heap[P]? =some a:=by simp[b]
def eL(P:b.heap[a]? =some (.map e5 c))(n:Obj):(setObj a n).run h b= .ok () {b with heap:=b.heap.setIfInBounds a n}:=by
 simp[setObj,Sem.run,P]
def dy[BEq j][LawfulBEq j]{enc:j->Value}(F:mQ h g p C v)(s:ji h p enc){m:List (j×Value)}(x:bQ b a enc m){k:j}(H:∀t,bQ t a enc (aI m k c8)->aj (·=a) b t->t.heap.size=b.heap.size->y t):lL h (Instr.mapUpdate g (.map (some a)) (enc k) c8) b y o:=by
 obtain⟨c,n,q,r,z,I⟩:=x.at';have u:=km s k c.toList m r b;have N:c.toList.length=m.length:=by have:=Zj List.length r;simpa using this
 have J:=aA q
 cases w:ns m k 0 with
 |none=>
  rw[w]at u;refine lL.mk (w':={b with heap:=b.heap.setIfInBounds a (.map (c.push {key:=enc k,val:=c8,born:=n}) (n+1))}) ?_ (H _ ⟨⟨_,_,cU b a _ J,?_,?_,?_⟩,x.tidy.aI k c8⟩ (aj.setObj b a _) sM)
  ·simp[Instr.mapUpdate,run_underlying F.under,dH q,dP s,u,eL q]
  ·rw[(sx w).1 c8];simp[r]
  ·intro e d
   simp only[Array.toList_push,Q6,List.mem_singleton]at d;rcases d with d|rfl
   ·have:=z e d;omega
   ·show n<n+1;omega
  ·simp only[Array.toList_push,Q3,QY,List.map_nil]
   rw[List.nodup_append];refine⟨I,sM,?_⟩;intro V O W A X;simp only[List.mem_singleton]at A;obtain⟨e,d,rfl⟩:=Xk.1 O;have:=z e d;omega
 |some Q=>
  obtain⟨f,Y⟩:=Q;rw[w]at u;obtain⟨_,K,L,M⟩:=oB w;rw[Nat.sub_zero]at K L M;have B:f<c.size:=by
                 have:c.size=m.length:=by simpa using N
                 omega
  have R:c[f].key=enc k:=by
   have:=Zj (·[f]?) r;simp only[Q9,L,Option.map_some]at this;simp[B]at this;exact this.1
  refine lL.mk (w':={b with heap:=b.heap.setIfInBounds a (.map (c.modify f λe=>{e with key:=enc k,val:=c8}) n)}) ?_ (H _ ⟨⟨_,_,cU b a _ J,?_,?_,?_⟩,x.tidy.aI k c8⟩ (aj.setObj b a _) sM)
  ·have S:(Instr.keyThatStays (enc k) (enc k)).run h b= .ok (enc k) b:=by simp[Instr.keyThatStays,s.same]
   simp[Instr.mapUpdate,run_underlying F.under,dH q,dP s,u,B,R,S,eL q]
  ·rw[(M c8).1]
   apply X3;intro i;have P:=Zj (·[i]?) r;simp only[Q9]at P;simp only[Array.toList_modify,Q9,Xj,List.getElem?_modify]
   by_cases l:f=i
   ·subst l
    simp[B,K]
   ·simp only[l,if_false,Option.map_map]at P⊢
    simpa using P
  ·intro e d
   rw[Array.toList_modify]at d;obtain⟨i,P⟩:=List.getElem?_of_mem d;rw[List.getElem?_modify]at P
   cases E:c.toList[i]? with
   |none=>rw[E]at P;simp at P
   |some T=>
    rw[E]at P;have U:=QZ E;have:=z T U
    by_cases l:f=i
    ·simp[l]at P;subst P;exact this
    ·simp[l]at P;subst P;exact this
  ·have:(c.modify f λe=>{e with key:=enc k,val:=c8}).toList.map (·.born)=c.toList.map (·.born):=by
    apply X3;intro i;simp only[Array.toList_modify,Q9,List.getElem?_modify,Option.map_map]
    by_cases l:f=i<;>simp[l]<;>rfl
   rw[this];exact I
def Lz[BEq j][LawfulBEq j]{c:j->Value}(w:mQ h g p C v)(r:ji h p c){e:List (j×Value)}(s:bQ b a c e){f:j}(x:∀k,bQ k a c (bL e f)->aj (·=a) b k->k.heap.size=b.heap.size->o (.tuple #[]) k):aJ h (Builtin.delete_ #[g,b8] f2 #[.map (some a),c f]) b o t:=by
 obtain⟨n,P,i,l,y,z⟩:=s.at';have m:=km r f n.toList e l b;have F:n.toList.length=e.length:=by have:=Zj List.length l;simpa using this
 have A:=aA i
 cases q:ns e f 0 with
 |none=>
  rw[q]at m;refine aJ.mk (w':={b with heap:=b.heap.setIfInBounds a (.map n P)}) ?_ (x _ ⟨⟨_,_,cU b a _ A,?_,y,z⟩,s.tidy.bL f⟩ (aj.setObj b a _) sM)
  ·simp[Builtin.delete_,run_underlying w.under,dH i,dP r,m,eL i]
  ·rw[(sx q).2];exact l
 |some H=>
  obtain⟨d,I⟩:=H;rw[q]at m;obtain⟨_,J,K,B⟩:=oB q;rw[Nat.sub_zero]at J K B;have u:d<n.size:=by
                 have:n.size=e.length:=by simpa using F
                 omega
  refine aJ.mk (w':={b with heap:=b.heap.setIfInBounds a (.map (n.eraseIdxIfInBounds d) P)}) ?_ (x _ ⟨⟨_,_,cU b a _ A,?_,?_,?_⟩,s.tidy.bL f⟩ (aj.setObj b a _) sM)
  ·simp[Builtin.delete_,run_underlying w.under,dH i,dP r,m,eL i]
  ·rw[(B I).2]
   have:(n.eraseIdxIfInBounds d).toList=n.toList.eraseIdx d:=by simp[Array.eraseIdxIfInBounds,u]
   rw[this,map_eraseIdx,l,map_eraseIdx]
  ·intro L E
   have:(n.eraseIdxIfInBounds d).toList=n.toList.eraseIdx d:=by simp[Array.eraseIdxIfInBounds,u]
   rw[this]at E;exact y L (List.mem_of_mem_eraseIdx E)
  ·have:(n.eraseIdxIfInBounds d).toList=n.toList.eraseIdx d:=by simp[Array.eraseIdxIfInBounds,u]
   rw[this,map_eraseIdx];exact z.sublist (List.eraseIdx_sublist _ _)
def Jn[BEq j][LawfulBEq j]{P:j->Value}(e:mQ h g p C v){f:List (j×Value)}(i:bQ b a P f)(k:∀c,bQ c a P ([]:List (j×Value))->aj (·=a) b c->c.heap.size=b.heap.size->o (.tuple #[]) c):aJ h (Builtin.clear_ #[g] b8 #[.map (some a)]) b o t:=by
 obtain⟨m,n,d,q,r,s⟩:=i.at';have l:=aA d;refine aJ.mk (w':={b with heap:=b.heap.setIfInBounds a (.map #[] n)}) ?_ (k _ ⟨⟨_,_,cU b a _ l,rfl,sM,sM⟩,by simp[Tidy]⟩ (aj.setObj b a _) sM);simp[Builtin.clear_,run_underlying e.under,dH d,eL d]
def Wu(n:h.underlying g=some (.int .i64)):ji h g (Value.int .i64):=
 ji.flat n (λP b=>by simp[Instr.sameNow]) (λa c d e=>by simp[Instr.checkKey,run_underlying n]) λa P=>by simp[Instr.sameBits]

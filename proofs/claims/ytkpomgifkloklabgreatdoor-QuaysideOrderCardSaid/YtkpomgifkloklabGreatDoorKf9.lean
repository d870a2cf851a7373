import Derived.Test.YtkpomgifkloklabGreatDoorYfCode
import Derived.Maps.AppendAt
import Derived.Below
import Derived.Laws.Strings
import Derived.Laws.OwnMore
import Derived.Laws.MakeOwn
import Derived.Lib.BitFns
import Derived.Lib.ItoaNum
import Derived.Shelf.SlIter.Nil
import Derived.Shelf.SlIterI.Nil
import Derived.Shelf.SortM.Plain
import Derived.Shelf.SortM.SortNone
import Derived.Shelf.Strconv.Itoa3
import Derived.Shelf.Small.Strs
import Derived.Ground.GgzProg
import Derived.Ground.SlgmProg
import Derived.Ground.NamesProg
import Derived.Test.YtkpomgifkloklabGreatDoorProg
import Derived.Laws.CopyRow
import Derived.Laws.IdiomCopy
set_option maxHeartbeats 4000000
set_option linter.all false
set_option maxRecDepth 100000
open Go.IntKind renaming wrap→PP
namespace Go.Proofs.YtkpomgifkloklabGreatDoor
open Go.aw
def Bq:jF:=⟨[(2,[(5,WP 0),(6,WP 0)])],[],[],[],[]⟩
variable{Y o:Array Value}{y:am}{A:FuncId}{e:Int}{a c:Nat}{d:bc}{b:World}
def Br(k:(∃d:Nat->Int->Int->ba,(∃a,d a 0 e b)/\∀(a:Nat) (n:Int) (P:Int) (m:Nat->Value) (f:World),d a n P f->al (decide (n<P)) ((∃g h i,(.func (.func A) o Y:Value)= .func (.func g) h i/\enters LL g=true/\PC_ g (h++ #[.ii (PP .i64 (ks .u64 (PP .u64 (PP .i64 (n+P))) 1))]++i) f (kB λl j=>al (!l) ((∃c,c<a/\d c (PP .i64 ((PP .i64 (ks .u64 (PP .u64 (PP .i64 (n+P))) 1))+1)) P j)) ((∃c,c<a/\d c n (PP .i64 (ks .u64 (PP .u64 (PP .i64 (n+P))) 1)) j))) (pE y))) (rt y ((.ii n)) f))):be 121 #[.ii e,.func (.func A) o Y] b y:=DC Bq Tryz.func121 rfl k
def DG:jF:=⟨[],[],[],[],[]⟩
def DH(n:((0:Int)<=(if(a:Int)<(if 0>e then 0 else e)then(a:Int)else(if 0>e then 0 else e))/\((if(a:Int)<(if 0>e then 0 else e)then(a:Int)else(if 0>e then 0 else e)):Int)<=(if(a:Int)<(if 0>e then 0 else e)then(a:Int)else(if 0>e then 0 else e))/\((if(a:Int)<(if 0>e then 0 else e)then(a:Int)else(if 0>e then 0 else e)):Int)<=(c:Int)/\PC_ 182 #[.slice d (Int.toNat (if(a:Int)<(if 0>e then 0 else e)then(a:Int)else(if 0>e then 0 else e))) (Int.toNat (if(a:Int)<(if 0>e then 0 else e)then(a:Int)else(if 0>e then 0 else e)))] b (kS_ λP f g h=>rt y ((.tuple #[.slice P f g,.bool (decide (((if(a:Int)<(if 0>e then 0 else e)then(a:Int)else(if 0>e then 0 else e)):Int)<(a:Int)))])) h) (pE y))):be 123 #[.slice d a c,.ii e] b y:=DC DG Tryz.func123 rfl n
def jH:jF:=⟨[(3,[(7,WP 0),(8,WP 0)])],[],[],[],[]⟩
def jz(l:(∃i:Nat->Int->Int->ba,(∃g,i g 0 (a:Int) b)/\∀(g:Nat) (n:Int) (P:Int) (B:Nat->Value) (f:World),i g n P f->al (decide (n<P)) ((dr d λm o=>(0:Int)<=(PP .i64 (ks .u64 (PP .u64 (PP .i64 (n+P))) 1))/\(PP .i64 (ks .u64 (PP .u64 (PP .i64 (n+P))) 1))<(a:Int)/\(rI f (ad m (o+Int.toNat (PP .i64 (ks .u64 (PP .u64 (PP .i64 (n+P))) 1)))) λp=>PC_ 317 #[.ii p,.ii e] f (kB λq j=>al q ((∃h,h<g/\i h (PP .i64 ((PP .i64 (ks .u64 (PP .u64 (PP .i64 (n+P))) 1))+1)) P j)) ((∃h,h<g/\i h n (PP .i64 (ks .u64 (PP .u64 (PP .i64 (n+P))) 1)) j))) (pE y)))) (al (decide (n<(a:Int))) ((ix_ d n a λr s=>(rI f (ad r (s+Int.toNat n)) λt=>al (t==e) (rt y ((.tuple #[.ii n,.bool true])) f) ((ix_ d n a λu v=>(rI f (ad u (v+Int.toNat n)) λw=>PC_ 321 #[.ii w] f (kB λx k=>al x (PC_ 321 #[.ii e] k (kB λz A=>rt y ((.tuple #[.ii n,.bool z])) A) (pE y)) (rt y ((.tuple #[.ii n,.bool false])) k)) (pE y))))))) (rt y ((.tuple #[.ii n,.bool false])) f)))):be 283 #[.slice d a c,.ii e] b y:=DC jH Tryz.func283 rfl l
def mT:jF:=⟨[],[(3,[])],[],[],[]⟩
def mU(l:(∃f:ba,(al (decide ((e:Int)<0)) (aJ LL (Instr.panic (.iface 9 (.string (⟨#[99,97,110,110,111,116,32,98,101,32,110,101,103,97,116,105,118,101]⟩:ByteArray)))) b (λu m=>
   f m) (λn b=>y (.panicked [{v:=n,recovered:=false}]) b)) (f b))/\∀(v:Nat->Value) (i:World),f i->aJ LL (Builtin.cap_ #[199] 3 #[.slice d a c]) i (λo j=>
   ∃(g:Int),o= WP g/\al (decide (((PP .i64 (e-(PP .i64 (g-((a:Nat):Int))))):Int)>0)) (aJ LL (Builtin.cap_ #[199] 3 #[.slice d a c]) j (λp q=>
   ∃(P:Int),p= WP P/\((0:Int)<=P/\(P:Int)<=((c:Nat):Int)/\aJ LL (Builtin.append_ #[199,3] 199 #[.slice d (Int.toNat P) c,WP (PP .i64 (e-(PP .i64 (g-((a:Nat):Int)))))]) q (λr s=>
   ∃(k:bc) (t:Nat) (h:Nat),r= .slice k t h/\((0:Int)<=((a:Nat):Int)/\(((a:Nat):Int):Int)<=((h:Nat):Int)/\
   y (.returned (.slice k (Int.toNat ((a:Nat):Int)) h)) s)) (λn b=>y (.panicked [{v:=n,recovered:=false}]) b))) (λn b=>y (.panicked [{v:=n,recovered:=false}]) b)) (y (.returned (.slice d a c)) j)) (λn b=>
   y (.panicked [{v:=n,recovered:=false}]) b))):
  be 324 #[.slice d a c,WP e] b y:=
 sf mT mixed Tryz.func324 rfl (Zv kR) kR (Eq.mp kR l)
def lI:jF:=⟨[(3,[(3,WP 0),(11,WP 0)]),(11,[(6,.slice none 0 0),(27,WP 0)])],[],[],[],[]⟩
def lJ(J:(∃l:Nat->Int->Int->ba,(∃h,l h 0 0 b)/\∀(h:Nat) (i:Int) (f:Int) (T:Nat->Value) (j:World),l h i f j->al (decide ((f:Int)<((a:Nat):Int))) ((∃s t,d=some ⟨s,t,none⟩/\
   (0:Int)<=f/\f<((a:Nat):Int)/\(∃(K:bc) (m:Nat) (L:Nat),j.cell? ⟨s,t+Int.toNat f,none⟩=some (.slice K m L)/\
   al (decide (((PP .i64 (i+((m:Nat):Int))):Int)<0)) (aJ LL (Instr.panic (.iface 9 (.string (⟨#[108,101,110,32,111,117,116,32,111,102,32,114,97,110,103,101]⟩:ByteArray)))) j (λU M=>
   (∃k,k<h/\l k (PP .i64 (i+((m:Nat):Int))) (PP .i64 (f+1)) M)) (λq b=>y (.panicked [{v:=q,recovered:=false}]) b)) ((∃k,k<h/\
   l k (PP .i64 (i+((m:Nat):Int))) (PP .i64 (f+1)) j))))) (PC LL 324 #[.slice none 0 0,WP i] j (λN O=>
   ∃(u:bc) (v:Nat) (w:Nat),N= .slice u v w/\(∃r:Nat->bc->Nat->Nat->Int->ba,(∃o,r o u v w 0 O)/\
   ∀(o:Nat) (n:bc) (P:Nat) (e:Nat) (g:Int) (V:Nat->Value) (p:World),r o n P e g p->al (decide ((g:Int)<((a:Nat):Int))) ((∃x z,d=some ⟨x,z,none⟩/\
   (0:Int)<=g/\g<((a:Nat):Int)/\(∃(A:bc) (B:Nat) (C:Nat),p.cell? ⟨x,z+Int.toNat g,none⟩=some (.slice A B C)/\
   aJ LL (Builtin.append_ #[199,199] 199 #[.slice n P e,.slice A B C]) p (λQ R=>∃(E:bc) (F:Nat) (H:Nat),Q= .slice E F H/\
   (∃I,I<o/\r I E F H (PP .i64 (g+1)) R)) (λq b=>y (.panicked [{v:=q,recovered:=false}]) b)))) (y (.returned (.slice n P e)) p))) (λS b=>
   y (.panicked S) b)))):
  be 287 #[.slice d a c] b y:=
 sf lI mixed Tryz.func287 rfl (Zv kR) kR (Eq.mp kR J)
end Go.Proofs.YtkpomgifkloklabGreatDoor
namespace Go.aw
open Go
abbrev ai(n P:World):Prop:=aj (λ_=>False) n P
variable{d4:Addr}{f0:Array MapEntry}{o:Array Value}{A:FuncId}{e:Int}{s:List Int}{a6:List PanicEntry->ba}{F a c i r:Nat}{Z f h1:UL}{H:Nat×Nat}{d2:Obj}{X a2:Operand}{d:bc}{d3:Option Nat}{h:Program}{C g q:TypeId}{m t:ac}{a8 b k:World}{z:ba}
def aj.refl(n:World):aj f n n:=⟨rfl,rfl,rfl,Q4 _,λ_ _ _=>rfl⟩
def aj.trans(P:aj Z b k)(n:aj h1 k a8)(g:∀n,n<b.heap.size->Z n->f n)(h:∀n,n<b.heap.size->h1 n->f n):aj f b a8:=
 ⟨n.os.trans P.os,n.tape.trans P.tape,n.output.trans P.output,Xx P.size n.size,λa c e=>
  (n.block a (Qk c P.size) (λd=>e (h a c d))).trans (P.block a c (λd=>e (g a c d)))⟩
def aj.mono(P:aj f b k)(c:∀n,n<b.heap.size->f n->Z n):aj Z b k:=
 ⟨P.os,P.tape,P.output,P.size,λn a d=>P.block n a λe=>d (c n a e)⟩
def aj.then(n:aj f b k)(P:aj f k a8):aj f b a8:=n.trans P (λ_ _ n=>n) (λ_ _ n=>n)
def aj.new(P:aj f b k)(n:aj Z k a8)(a:∀n,Z n->f n\/b.heap.size<=n):aj f b a8:=
 P.trans n (λ_ _ P=>P) (λc e d=>(a c d).resolve_right oM)
def aj.af(n:aj f b k)(P:ai k a8):aj f b a8:=n.trans P (λ_ _ n=>n) (λ_ _ n=>n.elim)
def ai.keep{S:UL}(n:ai b k):aj S b k:=n.mono λ_ _ n=>n.elim
def aj.alloc{b:UL}(n:World)(P:Obj):aj b n (n.alloc P):=
 ⟨rfl,rfl,rfl,sM,λc a _=>by first|exact heap_alloc_old n P c a|exact heap_alloc_old n P a⟩
def aj.drewN{S:UL}(n:World)(P:Nat):aj S n (n.drewN P):=⟨rfl,rfl,rfl,Q4 _,λ_ _ _=>rfl⟩
def bH.keep{S:UL}(n:bH b k):aj S b k:=by obtain⟨P,rfl⟩:=n;exact aj.drewN b P
def bH.heap(n:bH b k):k.heap=b.heap:=by obtain⟨P,rfl⟩:=n;rfl
def aj.setCell(n:World)(P:Addr)(a:Value)(b:f P.block):aj f n (n.setCell P a):=
 ⟨rfl,rfl,rfl,by simp[World.setCell],λd _ c=>by
  simp only[World.setCell,Array.getElem?_modify];rw[Zq (by rintro rfl;exact c b)]⟩
def aj.below(n:ai b k):RowKit.Below b.heap.size b k:=⟨n.os,n.tape,n.output,n.size,λP a=>n.block P a (λn=>n)⟩
def aj.HZ(n:RowKit.Below b.heap.size b k):ai b k:=⟨n.os,n.tape,n.output,n.size,λP a _=>n.block P a⟩
def aj.of_grownBy(n:b.grownBy k d3):aj (λP=>some P=d3) b k:=⟨n.os,n.tape,n.output,n.size,λP a c=>n.block P a c⟩
def aj.cell(n:aj f b k){a:Addr}(P:a.block<b.heap.size)(j:¬f a.block):k.cell? a=b.cell? a:=
 World.cell?_of_block (w:=b) (n.block a.block P j)
def aj.get(P:aj f b k)(n:b.heap[a]? =some d2)(c:¬f a):k.heap[a]? =some d2:=by
 rw[P.block a (Q5.1 n).1 c];exact n
def aA(n:b.heap[a]? =some d2):a<b.heap.size:=(Q5.1 n).1
def ae{cs:Array Value}(n:b.heap[a]? =some (Obj.cells cs g H)){off:Nat}{v:Value}(P:cs[off]? =some v):
  b.cell? ⟨a,off,none⟩=some v:=by simp[World.cell?,n,P]
def PA.mk(P:∀n,ai b n->n.heap.size=b.heap.size+1->n.heap[b.heap.size]? =some d2->z n):PA b d2 z:=
 P (b.alloc d2) (aj.alloc b d2) sM (heap_alloc_new b d2)
def PS.mk{v:Value}{cs:Array Value}(P:b.heap[a]? =some (.cells cs g (0,0)))(d:c<cs.size)(e:∀n,aj (·=a) b n->n.heap.size=b.heap.size->n.heap[a]? =some (.cells (cs.setIfInBounds c v) g (0,0))->z n):PS b ⟨a,c,none⟩ v z:=by
 refine⟨⟨cs[c],ae P (by simp[d])⟩,by simp[World.frozen?,P],e _ (aj.setCell b _ v rfl) (by simp[World.setCell]) ?_⟩;simp[World.setCell,Array.getElem?_modify,P]
def Ok(P:ac):am:=λa b=>∃n,a= .returned n/\P n b
def Ok.mk{v:Value}(n:m v b):Ok m (.returned v) b:=⟨v,rfl,n⟩
def PC.ok{φ a:ac}(c:Calls h A o b (Ok φ))(d:∀n P,φ n P->a n P):PC h A o b a a6:=
 c.mono λg P ⟨n,e,f⟩=>by subst e;exact d n P f
def Calls.ok{φ a:ac}(c:Calls h A o b (Ok φ))(d:∀n P,φ n P->a n P):Calls h A o b (Ok a):=
 c.mono λg P ⟨n,e,f⟩=>⟨n,e,d n P f⟩
def aK(n:Int):Prop:= -9223372036854775808<=n/\n<=9223372036854775807
theorem cw{p:Prop}(h:p:=by unfold aK;omega):p:=h
def wrap_i64{x:Int}(n:aK x):PP .i64 x=x:=by
 unfold aK at n;unfold PP;simp[IntKind.signed,IntKind.bits];omega
def aP:Nat:=140737488355328
theorem ce{p:Prop}(h:p:=by unfold aP;omega):p:=h
structure Ints (w:World) (a:bc) (n:Nat) (xs:List Int):Prop where
 len:n=xs.length
 eR:n*8<=aP
 Ah:∀x∈xs,aK x
 cell:∀(i:Nat) x,xs[i]? =some x->∃b off,a=some ⟨b,off,none⟩/\b<w.heap.size/\w.cell? ⟨b,off+i,none⟩=some (WP x)
def pI(P:UL)(a:bc):Prop:=∀n,a=some n->¬P n.block
def pI.none:pI f Option.none:=λ_ n=>by cases n
def Ints.keep{S:UL}{a:bc}{d:Nat}(P:Ints b a d s)(e:aj S b k)(h:pI S a):Ints k a d s:=
 ⟨P.len,P.eR,P.Ah,λf i j=>by
  obtain⟨c,n,rfl,g,l⟩:=P.cell f i j;exact⟨c,n,rfl,Qk g e.size,(e.cell (a:=⟨c,n+f,none⟩) g (h ⟨c,n,none⟩ rfl)).trans l⟩⟩
def Ints.af(n:Ints b d a s)(P:ai b k):Ints k d a s:=n.keep P λ_ _ n=>n
def Ints.nil(n:World):Ints n none 0 []:=⟨rfl,by simp[aP],sM,λa b P=>by simp at P⟩
def Ints.at(c:Ints b d a s){i:Int}(j:0<=i)(k:i<(a:Int)):
  ∃P n x,d=some ⟨P,n,none⟩/\P<b.heap.size/\s[i.toNat]? =some x/\aK x/\b.cell? ⟨P,n+i.toNat,none⟩=some (WP x):=by
 have l:=c.len;have e:i.toNat<s.length:=oM
 obtain⟨P,n,f,g,h⟩:=c.cell i.toNat s[i.toNat] (by simp[e]);exact⟨P,n,_,f,g,by simp[e],c.Ah _ (XY e),h⟩
def aH:bc->Option Nat
 |none=>none
 |some n=>some n.block
def Ints.H_(n:Ints b d a s)(c:aj f b k)(e:s≠[]->pI f d):Ints k d a s:=by
 by_cases P:s=[]
 ·subst P;exact⟨n.len,n.eR,n.Ah,λh i g=>by simp at g⟩
 ·exact n.keep c (e P)
def dy:pI f d↔∀n,aH d=some n->¬f n:=by
 cases d with
 |none=>simp[pI,aH]
 |some d=>simp[pI,aH]
structure Own (w:World) (e:TypeId) (k:Nat) (a:bc) (n c:Nat) (cs:List Value):Prop where
 row:w.ownsRow 0 e k (.slice a n c) n cs
def Own.nil(n:World)(e:TypeId)(P:Nat):Own n e P none 0 0 []:=⟨World.ownsRow_nil n 0 e P⟩
def Own.length{cs:List Value}(n:Own b g a d c i cs):cs.length=c*a:=n.row.1
def Own.cases{cs:List Value}(f:Own b g a d c i cs):
  (d=none/\c=0/\i=0/\cs=[])\/
  ∃e n,d=UV e/\b.heap[e]? =some (.cells n g (0,0))/\c<=i/\n.size=i*a/\n.toList.take (c*a)=cs:=by
 rcases f.row.2 with⟨P,o⟩|⟨e,h,n,P,_,j,k,_,l,m⟩
 ·simp only[XX]at P
  obtain⟨rfl,rfl,rfl⟩:=P;exact .inl ⟨rfl,rfl,rfl,QW (by simpa using f.row.1)⟩
 ·simp only[XX]at P
  obtain⟨rfl,-,rfl⟩:=P;exact .inr ⟨e,n,rfl,j,k,l,m⟩
def Own.keep{S:UL}{cs:List Value}(h:Own b g a d c i cs)(j:aj S b k)(l:pI S d):Own k g a d c i cs:=by
 refine⟨⟨h.row.1,?_⟩⟩;rcases h.row.2 with m|⟨o,P,e,f,p,q,n⟩
 ·exact .inl m
 ·refine .inr ⟨o,P,e,f,p,j.get q ?_,n⟩
  simp only[XX]at f;exact l _ f.1
def Own.af{cs:List Value}(n:Own b g a d c i cs)(P:ai b k):Own k g a d c i cs:=n.keep P λ_ _ n=>n
def Own.lt{cs:List Value}(P:Own b g a d c i cs)(n:aH d=some r):r<b.heap.size:=by
 rcases P.cases with⟨rfl,_⟩|⟨h,e,rfl,f,_⟩
 ·cases n
 ·simp only[aH,Q1]at n
  subst n;exact aA f
def Own.cell{b:World}{d:TypeId}{e:Nat}{a:bc}{f g:Nat}{cs:List Value}(h:Own b d e a f g cs){j:Nat}{u:Value}(n:cs[j]? =some u):
  ∃P,a=UV P/\P<b.heap.size/\b.cell? ⟨P,j,none⟩=some u:=by
 rcases h.cases with⟨_,_,_,rfl⟩|⟨P,i,rfl,c,_,_,k⟩
 ·simp at n
 ·refine⟨P,rfl,aA c,ae c ?_⟩
  rw[<-k,Xw]at n;split at n
  ·simpa using n
  ·cases n
def Own.AB{cur:Array Value}(P:b.heap[c]? =some (.cells cur g (0,0)))(n:cur.size=i*a)(d:i<=maxLen):
  Own b g a (UV c) i i cur.toList:=
 ⟨⟨by simpa using n,.inr ⟨c,i,cur,rfl,Qj _,P,Q4 _,d,n,by rw[Qz];simp[n]⟩⟩⟩
structure jU (P:Program) (t e:TypeId) (k bytes:Nat):Prop where
 under:P.underlying t=some (.slice e)
 row:(P.info? e).map (λi=>(i.zero.map λz=>z.cells.size,i.size,i.bytes))=some (some k,k,bytes)
 pos:0<k
def jU.info{b:Program}{g c:TypeId}{d bytes:Nat}(h:jU b g c d bytes):∃P a,b.info? c=some P/\P.zero=some a/\P.size=d/\P.bytes=bytes/\a.cells.size=d:=by
 have n:=h.row
 cases f:b.info? c with
 |none=>rw[f]at n;cases n
 |some P=>
  rw[f]at n;simp only[Option.map_some,Q1,Prod.mk.injEq]at n
  cases e:P.zero with
  |none=>rw[e]at n;cases n.1
  |some a=>
   rw[e]at n;exact⟨P,a,rfl,e,n.2.1,n.2.2,by simpa using n.1⟩
def Nk{P:Program}{f bytes:Nat}(l:jU P g q f bytes){o news:List Value}(x:Own b q f d a c o)(y:∀j k,news[j]? =some k->b.cell? (d4.add j)=some k)(z:news.length=i*f)(A:∀k∈news,k.oneCell'=true)(B:(a+i)*bytes<=aP)(E:a+i<=maxLen)(F:∀n e h,Own h q f n (a+i) e (o++news)->aj (λj=>some j=aH d) b h->(aH n=aH d\/aH n=some b.heap.size)->m (.slice n (a+i) e) h):
  aJ P (Builtin.append_ #[g,g] C #[.slice d a c,.slice (some d4) i r]) b m t:=by
 obtain⟨H,I,J,K,L,M,N⟩:=jU.info l;obtain⟨O,h,Q,p,s,U,u⟩:=run_append_own_at (P:=P) b 0 g C q H I f bytes l.under J K L M N l.pos (.slice d a c) a o x.row
  d4 i r news z y A E B (Qj _)
 have R:∀(d:bc) a c,(Value.slice d a c).ownBlock=aH d:=λd a c=>by cases d<;>rfl
 have S:∃n e,O= .slice n (a+i) e:=by
  rcases p.2 with⟨rfl,T⟩|⟨V,v,w,rfl,_⟩
  ·exact⟨none,0,by rw[T]⟩
  ·exact⟨_,_,rfl⟩
 obtain⟨n,e,rfl⟩:=S;simp only[R]at s u;exact aJ.mk Q (F n e h ⟨p⟩ (aj.of_grownBy s) u)
def uU{n bytes:Nat}(s:jU h g q n bytes){j news:List Value}(u:Own b q n d a c j)(v:b.heap[i]? =some (.cells o q H))(w:o.toList.take (r*n)=news)(x:news.length=r*n)(y:∀k∈news,k.oneCell'=true)(z:(a+r)*bytes<=aP)(A:a+r<=maxLen)(B:∀P l f,Own f q n P (a+r) l (j++news)->aj (λp=>some p=aH d) b f->(aH P=aH d\/aH P=some b.heap.size)->m (.slice P (a+r) l) f):
  aJ h (Builtin.append_ #[g,g] C #[.slice d a c,.slice (UV i) r F]) b m t:=by
 exact Nk s u (λp k e=>by
   rw[Addr.add_lit,Xz];refine ae v ?_;rw[<-w,Xw]at e;split at e
   ·simpa using e
   ·cases e) x y z A B
def ints(n:List Int):List Value:=n.map (Value.int .i64)
def jV(n:List Int):(ints n).length=n.length:=by simp[ints]
def Own.ints(P:Own b g 1 d a c (ints s))(f:a*8<=aP)(h:∀n∈s,aK n):Ints b d a s:=by
 have e:=P.length;rw[jV,Nat.mul_one]at e;refine⟨e.symm,f,h,λi n j=>?_⟩;obtain⟨k,l,m,o⟩:=P.cell (j:=i) (u:=WP n) (by simp[aw.ints,j]);exact⟨k,0,l,m,by rw[Xz];exact o⟩
def Nl(k:jU h g q 1 8)(l:Own b q 1 d a c (ints s))(o:b.heap[i]? =some (.cells #[WP e] q (0,0)))(j:(a+1)*8<=aP)(p:∀n f P,Own P q 1 n (a+1) f (ints (s++[e]))->aj (λr=>some r=aH d) b P->(aH n=aH d\/aH n=some b.heap.size)->m (.slice n (a+1) f) P):
  aJ h (Builtin.append_ #[g,g] C #[.slice d a c,.slice (UV i) 1 1]) b m t:=
 uU k (news:=[WP e]) l o sM sM (by simp[Value.oneCell']) j (by unfold aP at j;unfold maxLen;omega)
  λn f P u v w=>p n f P (by simpa[ints]using u) v w
def C_(a:h.underlying g=some (.slice q))(b:Nat)(n:bc)(c d:Nat)(P:World):
  (Op.equalIn (b+1) g (.slice n c d) (.slice none 0 0)).run h P= .ok n.isNone P:=by
 cases n<;>simp[Op.equalIn,run_underlying a]
def ym(a:h.underlying g=some (.pointer q))(b:Nat)(n:bc)(P:World):
  (Op.equalIn (b+1) g (.pointer n) (.pointer none)).run h P= .ok n.isNone P:=by
 cases n<;>simp[Op.equalIn,run_underlying a]
def kZ(n:h.underlying g=some (.slice q))(P:m (.bool d.isNone) b):
  aJ h (do eqGuard .eql g X a2 (.slice d a c) (.slice none 0 0);binOp .eql g (.slice d a c) (.slice none 0 0)) b m t:=by
 refine aJ.mk (v:=.bool d.isNone) ?_ P;have e:(do eqGuard .eql g X a2 (.slice d a c) (.slice none 0 0);binOp .eql g (.slice d a c) (.slice none 0 0):Sem Value).run h b=
  ((Op.equalIn (9999+1) g (.slice d a c) (.slice none 0 0))>>=λf=>(pure (Value.bool f):Sem Value)).run h b:=rfl
 rw[e,Sem.run_bind,C_ n]
 rfl
def jy(n:h.underlying g=some (.pointer q))(P:m (.bool d.isNone) b):
  aJ h (do eqGuard .eql g X a2 (.pointer d) (.pointer none);binOp .eql g (.pointer d) (.pointer none)) b m t:=by
 refine aJ.mk (v:=.bool d.isNone) ?_ P;have a:(do eqGuard .eql g X a2 (.pointer d) (.pointer none);binOp .eql g (.pointer d) (.pointer none):Sem Value).run h b=
  ((Op.equalIn (9999+1) g (.pointer d) (.pointer none))>>=λc=>(pure (Value.bool c):Sem Value)).run h b:=rfl
 rw[a,Sem.run_bind,ym n]
 rfl
def lz(c:h.underlying g=some (.pointer q))(a b:Operand)(n:bc)(P:World):
  (do eqGuard .neq g a b (.pointer n) (.pointer none);binOp .neq g (.pointer n) (.pointer none):Sem Value).run h P= .ok (.bool n.isSome) P:=by
 have d:(do eqGuard .neq g a b (.pointer n) (.pointer none);binOp .neq g (.pointer n) (.pointer none):Sem Value).run h P=
  ((Op.equalIn (9999+1) g (.pointer n) (.pointer none))>>=λe=>(pure (Value.bool !e):Sem Value)).run h P:=rfl
 rw[d,Sem.run_bind,ym c]
 cases n<;>rfl
def AD(n:h.underlying g=some (.pointer q))(P:m (.bool d.isSome) b):
  aJ h (do eqGuard .neq g X a2 (.pointer d) (.pointer none);binOp .neq g (.pointer d) (.pointer none)) b m t:=aJ.mk (lz n X a2 d b) P
def Own.VS{cs:List Value}(e:Own b g a d c i cs)(P:b.heap[r]? =some (.map f0 F)):aH d≠some r:=by
 intro n;rcases e.cases with⟨rfl,_⟩|⟨j,f,rfl,h,_⟩
 ·cases n
 ·simp only[aH,Q1]at n
  subst n;rw[h]at P;cases P
structure cm (F:UL) (w:World) (F':UL) (w':World):Prop where
 keep:aj F w w'
 new:∀b,F' b->F b\/w.heap.size<=b
def cm.refl(P:UL)(n:World):cm P n P n:=⟨aj.refl n,λ_ a=>.inl a⟩
def cm.trans{b G c:UL}{d e f:World}(n:cm b d G e)(g:cm G e c f):cm b d c f:=
 ⟨n.keep.trans g.keep (λ_ _ n=>n) (λP h i=>(n.new P i).resolve_right oM),λP h=>by
  rcases g.new P h with a|a
  ·exact n.new P a
  ·exact .inr (Xx n.keep.size a)⟩
def cm.last(P:cm f b Z k)(a:aj h1 k a8)(c:∀n,h1 n->b.heap.size<=n):cm f b Z a8:=⟨P.keep.new a λn d=>.inr (c n d),P.new⟩
def cm.af(n:cm f b Z k)(P:ai k a8):cm f b Z a8:=⟨n.keep.then (ai.keep P),n.new⟩
def cm.of(n:ai b k):cm f b f k:=⟨ai.keep n,λa P=>.inl P⟩
end Go.aw
namespace Go.aw
open Go
variable{d4:Addr}{o:Array Value}{J:Bool}{d0 x:ByteArray}{e p:Int}{a5:List Value}{a c i r:Nat}{f:UL}{H:Nat×Nat}{d v:bc}{h:Program}{N b0:Prop}{j:Type}{C g q:TypeId}{m t:ac}{a8 b k:World}
def al.dec[Decidable N]{P a:Prop}(b:N->P)(c:¬N->a):al (decide N) P a:=
 al.mk (λn=>b (XV n)) (λn=>c (Xy n))
def al.eP(P:e≠p->N)(a:e=p->b0):al (e !=p) N b0:=
 al.mk (λn=>P (by simpa using n)) (λn=>a (by simpa using n))
def al.ey(P:e=p->N)(a:e≠p->b0):al (e==p) N b0:=
 al.mk (λn=>P (by simpa using n)) (λn=>a (by simpa using n))
def al.not(n:al J b0 N):al (!J) N b0:=by cases J<;>exact n
def PW(P:x.toList=d0.toList):x=d0:=by
 have a:∀n:ByteArray,n.toList=n.data.toList:=λn=>ByteArray.toList_eq n;rw[a,a]at P;exact ByteArray.ext (Array.toList_inj.1 P)
def al.YU(P:x=d0->N)(a:x≠d0->b0):al (ByteArray.toList x==ByteArray.toList d0) N b0:=
 al.mk (λn=>P (PW (by simpa using n))) (λn=>a (λb=>by subst b;simp at n))
def al.neS(n:x≠d0->N)(P:x=d0->b0):al (!(ByteArray.toList x==ByteArray.toList d0)) N b0:=(al.YU P n).not
def an(n:a<4611686018427387904):PP .i64 ((a:Int)+1)=((a+1:Nat):Int):=by
 rw[wrap_i64 cw];simp
def bH.then(n:bH b k)(P:bH k a8):bH b a8:=by obtain⟨a,rfl⟩:=n;obtain⟨c,rfl⟩:=P;exact⟨a+c,sM⟩
def bH.refl(n:World):bH n n:=⟨0,rfl⟩
def Pv{n P:List j}{b:j}(c:n.take a=P.take a)(d:n[a]? =some b)(e:P[a]? =some b):n.take (a+1)=P.take (a+1):=by
 rw[Qw,Qw,c,d,e]
structure kq (α:Type) where
 k:Nat
 rep:World->(UL)->α->List Value->Prop
 keep:∀{S D:UL} {w w':World} {x:α} {cs:List Value},rep w D x cs->aj S w w'->(∀b,D b->¬S b)->rep w' D x cs
 mono:∀{D D':UL} {w:World} {x:α} {cs:List Value},rep w D x cs->(∀b,D b->D' b)->rep w D' x cs
 len:∀{D:UL} {w:World} {x:α} {cs:List Value},rep w D x cs->cs.length=k
 one:∀{D:UL} {w:World} {x:α} {cs:List Value},rep w D x cs->∀u∈cs,u.oneCell'=true
def flat{b:Type}(c:Nat)(n:b->List Value)(d:b->Prop)(e:∀a,(n a).length=c)(f:∀a,∀g∈n a,g.oneCell'=true):kq b where
 k:=c
 rep:=λ_ _ a cs=>cs=n a/\d a
 keep:=λP _ _=>P
 mono:=λP _=>P
 len:=λP=>by rw[P.1];exact e _
 one:=λP=>by rw[P.1];exact f _
def aO:kq Int:=flat 1 (λn=>[WP n]) aK (λ_=>rfl) (λn a P=>by simp at P;subst P;rfl)
def gj:kq UInt8:=flat 1 (λn=>[.int .u8 n.toNat]) (λ_=>True) (λ_=>rfl) (λn a P=>by simp at P;subst P;rfl)
def Pd:kq ByteArray:=flat 1 (λn=>[.string n]) (λ_=>True) (λ_=>rfl) (λn a P=>by simp at P;subst P;rfl)
structure Row {α:Type} (c:kq α) (bytes:Nat) (w:World) (D:UL) (a:bc) (n:Nat) (xs:List α):Prop where
 len:n=xs.length
 eR:n*bytes<=aP
 el:∀(i:Nat) x,xs[i]? =some x->∃b off es,a=some ⟨b,off,none⟩/\b<w.heap.size/\D b/\(∀j,j<c.k->w.cell? ⟨b,off+i*c.k+j,none⟩=es[j]?)/\c.rep w D x es
section
variable {α:Type} {c:kq α} {bytes:Nat} {w w':World} {D D' S:UL} {a:bc} {n:Nat} {xs:List α}
def Row.keep(d:Row c bytes w D a n xs)(e:aj S w w')(f:∀P,D P->¬S P):Row c bytes w' D a n xs:=
 ⟨d.len,d.eR,λg k l=>by
  obtain⟨P,b,m,o,h,i,p,q⟩:=d.el g k l;exact⟨P,b,m,o,Qk h e.size,i,λj r=>(e.cell (a:=⟨P,b+g*c.k+j,none⟩) h (f P i)).trans (p j r),c.keep q e f⟩⟩
def Row.af(P:Row c bytes w D a n xs)(b:ai w w'):Row c bytes w' D a n xs:=P.keep b λ_ _ P=>P
def Row.mono(b:Row c bytes w D a n xs)(e:∀P,D P->D' P):Row c bytes w D' a n xs:=
 ⟨b.len,b.eR,λf g h=>by
  obtain⟨P,d,i,j,k,l,m,o⟩:=b.el f g h;exact⟨P,d,i,j,k,e P l,m,c.mono o e⟩⟩
def Row.nil(w:World)(D:UL):Row c bytes w D none 0 []:=⟨rfl,sM,λP a n=>by simp at n⟩
def Row.at(f:Row c bytes w D a n xs){i:Int}(o:0<=i)(p:i<(n:Int)):
  ∃b P x d,a=some ⟨b,P,none⟩/\b<w.heap.size/\D b/\xs[i.toNat]? =some x/\(∀e,e<c.k->w.cell? ⟨b,P+i.toNat*c.k+e,none⟩=d[e]?)/\c.rep w D x d:=by
 have q:=f.len;have g:i.toNat<xs.length:=oM
 obtain⟨b,P,d,h,j,k,l,m⟩:=f.el i.toNat xs[i.toNat] (by simp[g]);exact⟨b,P,_,d,h,j,k,by simp[g],l,m⟩
def Row.AV(g:Row c bytes w D a n xs){i:Nat}(h:i<n):
  ∃b P e f,a=some ⟨b,P,none⟩/\b<w.heap.size/\D b/\xs[i]? =some e/\(∀d,d<c.k->w.cell? ⟨b,P+i*c.k+d,none⟩=f[d]?)/\c.rep w D e f:=by
 have:=g.at (i:=(i:Int)) oM oM;simpa using this
end
def Row.ni{c:j->Value}{f:j->Prop}{hl h1}{bytes:Nat}{D:UL}{g:List j}(h:Row (flat 1 (λP=>[c P]) f hl h1) bytes b D d a g){i:Nat}(k:i<a):
  ∃e n P,d=some ⟨e,n,none⟩/\g[i]? =some P/\f P/\b.cell? ⟨e,n+i,none⟩=some (c P):=by
 obtain⟨e,n,P,q,l,r,_,m,o,rfl,p⟩:=h.AV k;refine⟨e,n,P,l,m,p,?_⟩;have:=o 0 Nat.one_pos;simpa[flat]using this
def cd{n:Type}(P:kq n)(a:World)(D:UL):List n->List Value->Prop
 |[],cs=>cs=[]
 |x::d,cs=>∃b c,cs=b++c/\P.rep a D x b/\cd P a D d c
section
variable {α:Type} {c:kq α} {w w':World} {D D' S:UL}
def cd.keep(P:aj S w w')(a:∀b,D b->¬S b):∀{n:List α} {cs:List Value},cd c w D n cs->cd c w' D n cs
 |[],_,d=>d
 |x::n,_,⟨e,f,g,h,i⟩=>⟨e,f,g,c.keep h P a,cd.keep P a i⟩
def cd.mono(P:∀a,D a->D' a):∀{n:List α} {cs:List Value},cd c w D n cs->cd c w D' n cs
 |[],_,b=>b
 |x::n,_,⟨d,e,f,g,h⟩=>⟨d,e,f,c.mono g P,cd.mono P h⟩
def cd.append:∀{xs P:List α} {cs n:List Value},cd c w D xs cs->cd c w D P n->cd c w D (xs++P) (cs++n)
 |[],P,_,n,b,a=>by cases b;exact a
 |x::xs,P,_,n,⟨d,e,f,g,h⟩,a=>⟨d,e++n,by rw[f,XQ],g,cd.append h a⟩
def cd.one{x:α}(n:c.rep w D x a5):cd c w D [x] a5:=⟨a5,[],sM,n,rfl⟩
def cd.length:∀{n:List α} {cs:List Value},cd c w D n cs->cs.length=n.length*c.k
 |[],_,P=>by cases P;simp
 |x::n,_,⟨e,f,a,b,d⟩=>by
  rw[a,QX,c.len b,cd.length d,Xq,X7,Nat.one_mul,Nat.add_comm]
def cd.Sj:∀{a:List α} {cs:List Value},cd c w D a cs->∀P∈cs,P.oneCell'=true
 |[],_,b,P,n=>by cases b;simp at n
 |x::a,_,⟨g,h,d,e,f⟩,P,n=>by
  rw[d]at n;rcases Q6.1 n with n|n
  ·exact c.one e P n
  ·exact cd.Sj f P n
def cd.at:∀{b:List α} {cs:List Value},cd c w D b cs->∀{i:Nat} {x:α},b[i]? =some x->∃a,(∀n,n<c.k->cs[i*c.k+n]? =a[n]?)/\c.rep w D x a
 |[],_,l,i,x,P=>by simp at P
 |y::b,_,⟨a,m,d,e,g⟩,i,x,P=>by
  have o:=c.len e
  cases i with
  |zero=>
   simp at P;subst P;refine⟨a,λn f=>?_,e⟩;rw[d,Nat.zero_mul,Xz,XW oM]
  |succ i=>
   obtain⟨h,j,k⟩:=cd.at g (i:=i) (x:=x) (by simpa using P);refine⟨h,λn f=>?_,k⟩;rw[d,X7,Nat.one_mul,X8 oM,<-j n f]
   congr 1
   omega
def cd.take:∀{n:List α} {cs:List Value},cd c w D n cs->∀(m:Nat),cd c w D (n.take m) (cs.take (m*c.k))
 |[],_,a,m=>by cases a;simp[cd]
 |x::n,_,⟨b,d,e,P,f⟩,m=>by
  have g:=c.len P
  cases m with
  |zero=>simp[cd]
  |succ m=>
   refine⟨b,d.take (m*c.k),?_,P,cd.take f m⟩;rw[e,X7,Nat.one_mul,Nat.add_comm,List.take_append,g,Qz oM]
   congr 2
   omega
def Row.aD{bytes:Nat}{h:List α}(v:Row c bytes w D d a h):∃cs,cd c w D h cs/\(h≠[]->0<c.k->∃P n,d=some ⟨P,n,none⟩/\P<w.heap.size/\D P/\∀b e,cs[b]? =some e->w.cell? ⟨P,n+b,none⟩=some e):=by
 have k:∀(l:List α) (f:Nat),(∀i j,l[i]? =some j->h[f+i]? =some j)->∃cs,cd c w D l cs/\∀P n,d=some ⟨P,n,none⟩->0<c.k->∀b e,cs[b]? =some e->w.cell? ⟨P,n+f*c.k+b,none⟩=some e:=by
  intro l
  induction l with
  |nil=>intro f _;exact⟨[],rfl,λP n _ _ b e g=>by simp at g⟩
  |cons x l F=>
   intro f y;obtain⟨z,q,r⟩:=F (f+1) (λi j s=>by have:=y (i+1) j (by simpa using s);rw[show f+1+i=f+(i+1) by omega];exact this);obtain⟨P,n,p,m,A,B,C,t⟩:=v.el f x (y 0 x rfl);refine⟨p++z,⟨p,z,rfl,t,q⟩,λJ E o u b e g=>?_⟩;rw[m]at o;cases o
   have K:=c.len t
   by_cases H:b<c.k
   ·rw[XW oM]at g
    rw[<-g];exact C b H
   ·rw[X8 oM]at g
    have:=r P n m u (b-p.length) e g;rw[<-this]
    congr 2
    rw[X7];omega
 obtain⟨cs,q,r⟩:=k h 0 (λi j s=>by simpa using s);refine⟨cs,q,λI u=>?_⟩
 cases h with
 |nil=>exact Zz rfl I
 |cons j h=>
  obtain⟨P,n,p,m,A,B,C,t⟩:=v.el 0 j rfl;refine⟨P,n,m,A,B,λb e g=>?_⟩;have:=r P n m u b e g;simpa using this
end
structure aT {α:Type} (c:kq α) (e:TypeId) (F:UL) (w:World) (a:bc) (n cap:Nat) (xs:List α):Prop where
 body:∃cs D,Own w e c.k a n cap cs/\cd c w D xs cs/\(∀b,D b->F b/\aH a≠some b)
 self:∀b,aH a=some b->F b
 aE:∀b,F b->b<w.heap.size
section
variable {α:Type} {c:kq α} {e:TypeId} {w w':World} {F F' S:UL} {a:bc} {n cap:Nat} {xs:List α}
def aT.nil(w:World):aT c e (λ_=>False) w none 0 0 []:=
 ⟨⟨[],λ_=>False,Own.nil _ _ _,rfl,λ_ n=>n.elim⟩,λP n=>(by cases n),λ_ n=>n.elim⟩
def aT.keep(d:aT c e F w a n cap xs)(f:aj S w w')(g:∀P,F P->¬S P):aT c e F w' a n cap xs:=by
 obtain⟨cs,D,i,j,h⟩:=d.body;exact⟨⟨cs,D,i.keep f (dy.2 λP b=>g P (d.self P b)),j.keep f (λP b=>g P (h P b).1),h⟩,d.self,λP b=>Qk (d.aE P b) f.size⟩
def aT.af(P:aT c e F w a n cap xs)(b:ai w w'):aT c e F w' a n cap xs:=P.keep b λ_ _ P=>P
def aT.mono(d:aT c e F w a n cap xs)(f:∀P,F P->F' P)(h:∀P,F' P->P<w.heap.size):aT c e F' w a n cap xs:=by
 obtain⟨cs,D,i,j,g⟩:=d.body;exact⟨⟨cs,D,i,j,λP b=>⟨f P (g P b).1,(g P b).2⟩⟩,λP b=>f P (d.self P b),h⟩
def aT.len(b:aT c e F w a n cap xs)(d:0<c.k):n=xs.length:=by
 obtain⟨cs,D,f,g,h⟩:=b.body;have P:=f.length;rw[g.length]at P;exact(Nat.eq_of_mul_eq_mul_right d P).symm
def Own.Si{P:Nat}{cs:List Value}(b:Own w e P a n cap cs):n<=cap:=by
 rcases b.cases with⟨_,rfl,rfl,_⟩|⟨f,c,_,_,d,_,_⟩
 ·exact Q4 _
 ·exact d
def aT.row{bytes:Nat}(d:aT c e F w a n cap xs)(i:0<c.k)(f:xs.length*bytes<=aP):Row c bytes w F a n xs:=by
 have j:=d.len i;obtain⟨cs,D,k,r,s⟩:=d.body;refine⟨j,by rw[j];exact f,λz A t=>?_⟩;obtain⟨g,l,m⟩:=r.at t;have B:=c.len m;have o:=l 0 i;rw[Nat.add_zero,Qq (show 0<g.length by omega)]at o;obtain⟨p,h,u,_⟩:=k.cell o;refine⟨p,0,g,h,u,d.self p (by rw[h];rfl),λq v=>?_,c.mono m λx f=>(s x f).1⟩;have P:=l q v;rw[Qq (show q<g.length by omega)]at P⊢;obtain⟨C,b,_,y⟩:=k.cell P;rw[h]at b;cases b
 rw[Xz];exact y
def Ou{bytes:Nat}{x:α}(f:aT c e F w a n cap xs)(z:jU h g e c.k bytes){D:UL}(r:c.rep w D x o.toList)(k:∀P,D P->P<w.heap.size/\aH a≠some P)(b:(xs.length+1)*bytes<=aP)(I:xs.length+1<=maxLen)(s:∀j i w' F',aT c e F' w' j (n+1) i (xs++[x])->aj (λu=>aH a=some u) w w'->(∀P,F' P->F P\/D P\/w.heap.size<=P)->(∀P,aH j=some P->F P\/w.heap.size<=P)->m (.slice j (n+1) i) w'):
  PA w (.cells o e) λv=>aJ h (Builtin.append_ #[g,g] q #[.slice a n cap,.slice (UV w.heap.size) 1 1]) v m t:=by
 have A:=f.len z.pos;obtain⟨cs,J,K,L,l⟩:=f.body;refine PA.mk λv C R M=>?_;have S:=c.len r;have N:=K.af C;refine uU z (news:=o.toList) N M (by rw[Qz oM]) oM (c.one r) (by rw[A];exact b) (by rw[A];exact I) λj O p E H B=>?_;have y:aj (λu=>aH a=some u) w p:=(ai.keep C).then (H.mono λ_ _ f=>f.symm)
 let F':UL:=λP=>F P\/D P\/(w.heap.size<=P/\P<p.heap.size)
 have T:v.heap.size<=p.heap.size:=H.size;refine s j O p F' ⟨⟨_,λP=>J P\/D P,E,cd.append ((L.keep y λP b=>(l P b).2).mono λP b=>.inl b) (cd.one (c.mono (c.keep r y λP b=>(k P b).2) λP b=>.inr b)),?_⟩,?_,?_⟩ y ?_ ?_
 ·intro P b
  have U:P<w.heap.size:=b.elim (λd=>f.aE P (l P d).1) λd=>(k P d).1;refine⟨b.elim (λd=>.inl (l P d).1) λd=>.inr (.inl d),?_⟩;rcases B with B|B
  ·rw[B];exact b.elim (λd=>(l P d).2) λd=>(k P d).2
  ·rw[B];intro Q;cases Q;omega
 ·intro P b
  rcases B with B|B
  ·exact .inl (f.self P (B▸b))
  ·have:=E.lt b
   rw[B]at b;cases b;exact .inr (.inr ⟨oM,this⟩)
 ·rintro P (b|b|b)
  ·have:=f.aE P b;omega
  ·have:=(k P b).1;omega
  ·exact b.2
 ·rintro P (b|b|b)
  ·exact .inl b
  ·exact .inr (.inl b)
  ·exact .inr (.inr b.1)
 ·intro P b
  rcases B with B|B
  ·exact .inl (f.self P (B▸b))
  ·rw[B]at b;cases b;exact .inr oM
def lL{bytes:Nat}(f:aT c e F w a n cap xs)(x:jU h g e c.k bytes){D:UL}{o L:Nat}{k:List α}(C:Row c bytes w D (some d4) o k)(p:∀P,D P->P<w.heap.size/\aH a≠some P)(b:(xs.length+k.length)*bytes<=aP)(M:xs.length+k.length<=maxLen)(y:∀l i w' F',aT c e F' w' l (n+o) i (xs++k)->aj (λj=>aH a=some j) w w'->(∀P,F' P->F P\/D P\/w.heap.size<=P)->(∀P,aH l=some P->F P\/w.heap.size<=P)->m (.slice l (n+o) i) w'):
  aJ h (Builtin.append_ #[g,g] q #[.slice a n cap,.slice (some d4) o L]) w m t:=by
 have E:=f.len x.pos;have z:=C.len;obtain⟨cs,N,O,Q,r⟩:=f.body;obtain⟨H,s,R⟩:=C.aD;have S:∀j u,H[j]? =some u->w.cell? (d4.add j)=some u:=λj u I=>by
  have T:k≠[]:=by rintro rfl;have:=s.length;simp at this;subst this;simp at I
  obtain⟨P,U,V,_,_,W⟩:=R T x.pos
  cases V
  rw[Addr.add_lit];exact W j u I
 refine Nk x (news:=H) O S (by rw[s.length,z]) s.Sj (by rw[E,z];exact b) (by rw[E,z];exact M) λl X v J K B=>?_;have A:aj (λj=>aH a=some j) w v:=K.mono λ_ _ f=>f.symm
 let F':UL:=λP=>F P\/D P\/(w.heap.size<=P/\P<v.heap.size)
 have Z:w.heap.size<=v.heap.size:=K.size;refine y l X v F' ⟨⟨_,λP=>N P\/D P,J,cd.append ((Q.keep A λP b=>(r P b).2).mono λP b=>.inl b) ((s.keep A λP b=>(p P b).2).mono λP b=>.inr b),?_⟩,?_,?_⟩ A ?_ ?_
 ·intro P b
  have a1:P<w.heap.size:=b.elim (λd=>f.aE P (r P d).1) λd=>(p P d).1;refine⟨b.elim (λd=>.inl (r P d).1) λd=>.inr (.inl d),?_⟩;rcases B with B|B
  ·rw[B];exact b.elim (λd=>(r P d).2) λd=>(p P d).2
  ·rw[B];intro Y;cases Y;omega
 ·intro P b
  rcases B with B|B
  ·exact .inl (f.self P (B▸b))
  ·have:=J.lt b
   rw[B]at b;cases b;exact .inr (.inr ⟨Q4 _,this⟩)
 ·rintro P (b|b|b)
  ·have:=f.aE P b;omega
  ·have:=(p P b).1;omega
  ·exact b.2
 ·rintro P (b|b|b)
  ·exact .inl b
  ·exact .inr (.inl b)
  ·exact .inr (.inr b.1)
 ·intro P b
  rcases B with B|B
  ·exact .inl (f.self P (B▸b))
  ·rw[B]at b;cases b;exact .inr oM
end
def cd.free{a:Type}{c:Nat}{n:a->List Value}{d:a->Prop}{hl P}{e f:World}{D g:UL}:∀{b:List a} {cs:List Value},cd (flat c n d hl P) e D b cs->cd (flat c n d hl P) f g b cs
 |[],_,h=>h
 |x::b,_,⟨i,j,P,k,l⟩=>⟨i,j,P,k,l.free⟩
def aT.alone{n:j->List Value}{k:j->Prop}{hl h1}{l:List j}(P:aT (flat a n k hl h1) g f b d c i l):
  aT (flat a n k hl h1) g (λe=>aH d=some e) b d c i l:=by
 obtain⟨cs,p,m,o,q⟩:=P.body;exact⟨⟨cs,λ_=>False,m,o.free,λ_ P=>P.elim⟩,λe h=>h,λe h=>P.aE e (P.self e h)⟩
def pQ{P:Type}(g:kq P)(h:TypeId)(a:World)(i:List P)(j:Value)(b:World):Prop:=
 ∃c d n e,j= .slice c d n/\aT g h e b c d n i/\ai a b/\∀f,e f->a.heap.size<=f
def Row.lit{enc:j->Value}{c:j->Prop}{hl h1}{bytes:Nat}{cs:Array Value}(d:b.heap[a]? =some (.cells cs g H))(P:List j)(h:cs.toList=P.map enc)(i:∀n∈P,c n)(k:P.length*bytes<=aP):
  Row (flat 1 (λn=>[enc n]) c hl h1) bytes b (·=a) (UV a) P.length P:=
 ⟨rfl,k,λe n f=>⟨a,0,[enc n],rfl,aA d,rfl,λl m=>by
  have:l=0:=Nat.lt_one_iff.1 m;subst this;have:cs.toList[e]? =some (enc n):=by rw[h];simp[f]
  have o:=ae d (off:=e) (v:=enc n) (by simpa using this);simpa[flat]using o,rfl,i n (QZ f)⟩⟩
def Row.part{n:kq j}{bytes:Nat}{D:UL}{f:List j}(c:Row n bytes b D d a f){lo hi cap:Nat}(u:lo<=hi)(v:hi<=a)(w:a<=cap):
  Row n bytes b D (dd d lo cap n.k) (hi-lo) ((f.take hi).drop lo):=by
 have x:=c.len;refine⟨by simp;omega,Xx (Q0 _ oM) c.eR,λg h P=>?_⟩;rw[List.getElem?_drop,Xw]at P;split at P
 ·rename_i y
  obtain⟨i,e,k,l,m,o,p,q⟩:=c.el (lo+g) h P
  by_cases r:cap=lo
  ·omega
  ·exact⟨i,e+lo*n.k,k,by rw[l];simp[dd,r,Addr.add_lit],m,o,λs t=>by rw[<-p s t];congr 2;rw[X7];omega,q⟩
 ·cases P
def aT.ly{n:kq j}{P:List j}(e:aT n g f b d a c P):a<=c:=by
 obtain⟨cs,i,h,_⟩:=e.body;exact h.Si
def Row.take{c:kq j}{bytes:Nat}{D:UL}{e:List j}(P:Row c bytes b D d a e){m:Nat}(f:m<=a):Row c bytes b D d m (e.take m):=by
 have h:=P.len;refine⟨by simp;omega,Xx (Q0 _ f) P.eR,λg x n=>?_⟩;rw[Xw]at n;split at n
 ·exact P.el g x n
 ·cases n
def Al{e:kq j}{p:List j}{bytes:Nat}(s:aT e g f b d a c p)(u:jU h q g e.k bytes){D:UL}{k:List j}(y:Row e bytes b D v i k)(A:v=none->i=0/\r=0)(B:∀n,D n->n<b.heap.size/\aH d≠some n)(l:(p.length+k.length)*bytes<=aP)(E:p.length+k.length<=maxLen)(o:∀w P x z,aT e g z x w (a+i) P (p++k)->aj (λF=>aH d=some F) b x->(∀n,z n->f n\/D n\/b.heap.size<=n)->(∀n,aH w=some n->f n\/b.heap.size<=n)->m (.slice w (a+i) P) x):
  aJ h (Builtin.append_ #[q,q] C #[.slice d a c,.slice v i r]) b m t:=by
 cases v with
 |some M=>exact lL s u y B l E o
 |none=>
  obtain⟨rfl,rfl⟩:=A rfl;have H:k=[]:=QW y.len.symm;subst H;obtain⟨I,N,J,O,Q,R,S⟩:=jU.info u;obtain⟨cs,T,K,U,V⟩:=s.body;have L:=run_append_owned_none (P:=h) (w:=b) 0 q C g I e.k u.under J (.slice d a c) a cs K.row;exact aJ.mk L (o d c b f (by simpa using s) (aj.refl _) (λn l=>.inl l) λn l=>.inl (s.self n l))
def aT.OY{n:kq j}{P:List j}(e:aT n g f b d a c P)(h:d=none):a=0/\c=0:=by
 obtain⟨cs,o,i,_⟩:=e.body;rcases i.cases with⟨_,k,l,_⟩|⟨p,m,rfl,_⟩
 ·exact⟨k,l⟩
 ·cases h
def WI(i:jU h g q 1 1)(d:(h.info? q).bind (·.zero)=some (.int .u8 0))(j:a<=c)(n:c<=aP)(e:∀P,aT gj q (·=b.heap.size) P (UV b.heap.size) a c (List.replicate a 0)->ai b P->P.heap.size=b.heap.size+1->m (.slice (UV b.heap.size) a c) P):
  aJ h (Instr.makeSlice g (WP (a:Int)) (WP (c:Int))) b m t:=by
 unfold aP at n;obtain⟨p,r,k,l,s,u,A⟩:=i.info;have v:r= .int .u8 0:=by
  rw[k]at d;simp only[Option.bind_some,l]at d;exact XJ d
 subst v;have o:=run_make (P:=h) b g q p _ i.under k l .i64 .i64 a c oM oM (by rw[u];omega) oM;rw[Qx,Qx,s,Nat.mul_one]at o;have w:ai b (b.alloc (.cells (madeCells (Value.int .u8 0).cells c) q)):=aj.alloc b _;have x:(madeCells (Value.int .u8 0).cells c).toList=List.replicate c (.int .u8 0):=by
  unfold madeCells;rw[Array.toList_map];apply List.ext_getElem
  ·simp
  ·intro B C E
   simp[Value.cells,Nat.mod_one]
 refine aJ.mk o (e _ ⟨⟨List.replicate a (.int .u8 0),λ_=>False,⟨⟨by simp[gj,flat],.inr ⟨b.heap.size,c,_,rfl,Qj _,heap_alloc_new b _,j,by unfold maxLen;omega,by simp[size_madeCells,gj,flat],?_⟩⟩⟩,?_,λ_ e=>e.elim⟩,λy n=>by simpa[aH]using n.symm,λy n=>by subst n;simp⟩ w sM)
 ·rw[x]
  simp only[gj,flat,Nat.mul_one,List.take_replicate];rw[X2 j]
 ·have f:∀a:Nat,cd gj (b.alloc (.cells (madeCells (Value.int .u8 0).cells c) q)) (λ_=>False) (List.replicate a 0) (List.replicate a (.int .u8 0)):=by
   intro a
   induction a with
   |zero=>rfl
   |succ a z=>exact⟨[.int .u8 0],List.replicate a (.int .u8 0),rfl,⟨rfl,trivial⟩,z⟩
  exact f a
end Go.aw
namespace Go.aw
open Go
def fY(n:Nat):List UInt8:=if P:n=0 then []else UInt8.ofNat (n % 256)::fY (n/256)
termination_by n
decreasing_by omega
def jN:fY 0=[]:=by rw[fY];simp
variable{e:Int}{a:Nat}
def lS(n:a≠0):fY a=UInt8.ofNat (a % 256)::fY (a/256):=by rw[fY];simp[n]
def yR:∀(n:Nat),n<2 ^ 64->(fY n).length=(Lib.bitLen n+7)/8:=by
 intro n
 induction n using Nat.strongRecOn with
 |_ n b=>
  intro a
  by_cases P:n=0
  ·subst P;rw[jN];decide
  ·rw[lS P,Xq]
   by_cases c:n<256
   ·have d:n/256=0:=oM
    rw[d,jN];have f:Lib.bitLen n<=8:=Lib.bitLen_le8 ⟨n,c⟩;have g:1<=Lib.bitLen n:=(Lib.bitLenAux_bounds 64 n a P).1;simp;omega
   ·have:=b (n/256) oM oM
    rw[this];have e:=Lib.bitLen_shift 8 n oM a;rw[show(2:Nat) ^ 8=256 from rfl]at e;omega
def Cy{u:Nat}(n:u<2 ^ 64):(fY u).length<=8:=by
 rw[yR u n]
 by_cases P:u=0
 ·subst P;decide
 ·have a:=Lib.bitLenAux_bounds 64 u n P
  have:Lib.bitLen u<=64:=by
   apply Nat.le_of_not_lt;intro b;have c:2 ^ 64<=2 ^(Lib.bitLen u-1):=Nat.pow_le_pow_right oM oM;have d:2 ^(Lib.bitLen u-1)<=u:=a.2.1;omega
  omega
def SU:∀(a n:Nat),a<(fY n).length->(fY n)[a]? =some (UInt8.ofNat (n/256 ^ a % 256)):=by
 intro a
 induction a with
 |zero=>
  intro n P
  by_cases b:n=0
  ·subst b;rw[jN]at P;simp at P
  ·rw[lS b];simp
 |succ a c=>
  intro n P
  by_cases b:n=0
  ·subst b;rw[jN]at P;simp at P
  ·rw[lS b]at P⊢
   have:=c (n/256) (by simpa using P);rw[ZZ,this,Nat.div_div_eq_div_mul,Nat.pow_succ,Nat.mul_comm 256]
def gM(n:List UInt8):Nat:=n.foldl (λP a=>P*256+a.toNat) 0
def yS(n:List UInt8)(P:UInt8):gM (n++[P])=gM n*256+P.toNat:=by simp[gM,List.foldl_append]
def NZ(n:List UInt8):gM n<256 ^ n.length:=by
 suffices b:∀(n:List UInt8) (P a:Nat),P<256 ^ a->n.foldl (λP c=>P*256+c.toNat) P<256 ^(a+n.length) by
  have:=b n 0 0 sM;simpa[gM]using this
 intro n
 induction n with
 |nil=>intro P a b;simpa using b
 |cons c n d=>
  intro P a b;have e:=c.toNat_lt;have:=d (P*256+c.toNat) (a+1) (by rw[Nat.pow_succ];omega);rw[List.foldl_cons,Xq];rw[show a+(n.length+1)=a+1+n.length by omega];exact this
def SV:∀(n:Nat),gM (fY n).reverse=n:=by
 intro n
 induction n using Nat.strongRecOn with
 |_ n a=>
  by_cases P:n=0
  ·subst P;rw[jN];rfl
  ·rw[lS P,List.reverse_cons,yS,a (n/256) oM]
   have:(UInt8.ofNat (n % 256)).toNat=n % 256:=by rw[ZK];omega
   rw[this];omega
def PT:∀(n:Nat),n≠0->(fY n).getLast? ≠some 0:=by
 intro n
 induction n using Nat.strongRecOn with
 |_ n b=>
  intro c;rw[lS c]
  by_cases P:n/256=0
  ·rw[P,jN]
   simp only[List.getLast?_singleton,ne_eq,Q1];intro d;have:=Zj UInt8.toNat d;rw[ZK]at this;simp at this;omega
  ·have a:fY (n/256)≠[]:=by rw[lS P];simp
   rw[List.getLast?_cons,List.getLast?_eq_some_getLast a,Option.getD_some];have:=b (n/256) oM P;rw[List.getLast?_eq_some_getLast a]at this;exact this
def d_(n:Int):List UInt8:=UInt8.ofNat ((fY n.natAbs).length+if n<0 then 16 else 0)::(fY n.natAbs).reverse
def rdNum(b:List UInt8):Int×Int×Nat:=match b with
 |[]=>(4,0,0)
 |h::a=>
  let n:=if 16<h.toNat then h.toNat-16 else h.toNat
  let P:=gM (a.take n)
  if 8<n then(5,0,0)
  else if a.length<n then(4,0,0)
  else if(0<n/\a.head? =some 0)\/(¬16<h.toNat/\2 ^ 63<=P)\/(16<h.toNat/\2 ^ 63<P)then(5,0,0)
  else(0,if 16<h.toNat then-(P:Int)else P,n+1)
def Fy(p:aK e)(c:List UInt8):rdNum (d_ e++c)=(0,e,(d_ e).length):=by
 unfold aK at p;have q:e.natAbs<2 ^ 64:=oM
 have r:=Cy q;have d:(fY e.natAbs).reverse.length=(fY e.natAbs).length:=List.length_reverse ..;have g:=SV e.natAbs;have l:e<0->1<=(fY e.natAbs).length:=λu=>by rw[lS oM];simp
 have h:0<(fY e.natAbs).length->((fY e.natAbs).reverse++c).head? ≠some 0:=λf=>by
  have s:e.natAbs≠0:=λb=>by rw[b,jN]at f;simp at f
  have:=PT _ s;rw[List.head?_append,List.head?_reverse]
  cases i:(fY e.natAbs).getLast? with
  |none=>rw[List.getLast?_eq_none_iff]at i;rw[i]at f;simp at f
  |some v=>rw[i]at this;simpa using this
 unfold d_;rw[List.cons_append];generalize fY e.natAbs=n at r d g l h⊢;have t:(UInt8.ofNat (n.length+if e<0 then 16 else 0)).toNat=n.length+if e<0 then 16 else 0:=by
  rw[ZK];split<;>omega
 have m:(n.reverse++c).take n.length=n.reverse:=by
  rw[<-d,List.take_left]
 have o:¬(n.reverse++c).length<n.length:=sM
 unfold rdNum;simp only[t]
 by_cases j:e<0
 ·have w:=l j
  simp only[Zx j];have k:(if 16<n.length+16 then n.length+16-16 else n.length+16)=n.length:=by rw[Zx oM];omega
  simp only[k,m,g];rw[Zq oM,Zq o,Zq,Zx oM]
  ·have b: -(e.natAbs:Int)=e:=oM
   rw[b,Xq,d]
  ·rintro(⟨P,a⟩|⟨P,a⟩|⟨P,a⟩)
   ·exact h P a
   ·omega
   ·omega
 ·simp only[Zq j,Nat.add_zero]
  have k:(if 16<n.length then n.length-16 else n.length)=n.length:=by rw[Zq oM]
  simp only[k,m,g];rw[Zq oM,Zq o,Zq,Zq oM]
  ·have b:(e.natAbs:Int)=e:=oM
   rw[b,Xq,d]
  ·rintro(⟨P,a⟩|⟨P,a⟩|⟨P,a⟩)
   ·exact h P a
   ·omega
   ·omega
end Go.aw
namespace Go.aw
open Go
abbrev sg:=BitVec 32
def BD:sg:=0xEDB88320#32
def nZ(n:sg):sg:=(n>>>1) ^^^(if n.getLsbD 0 then BD else 0#32)
def BE(n P:sg):nZ (n ^^^ P)=nZ n ^^^ nZ P:=by
 unfold nZ;rw[BitVec.ushiftRight_xor_distrib,BitVec.getLsbD_xor]
 cases n.getLsbD 0<;>cases P.getLsbD 0<;>simp only[Bool.xor_false,Bool.xor_true,Bool.not_true,Bool.not_false,if_true,if_false,Bool.false_eq_true,BitVec.xor_zero,BitVec.zero_xor]
 ·ac_rfl
 ·ac_rfl
 ·have:(n>>>1 ^^^ BD) ^^^(P>>>1 ^^^ BD)=(n>>>1 ^^^ P>>>1) ^^^(BD ^^^ BD):=by ac_rfl
  rw[this,BitVec.xor_self,BitVec.xor_zero]
def pK(n:sg):sg:=nZ (nZ (nZ (nZ (nZ (nZ (nZ (nZ n)))))))
def Ey(n P:sg):pK (n ^^^ P)=pK n ^^^ pK P:=by
 unfold pK;simp only[BE]
def Wf(n:Bool):sg:=if n then 1#32 else 0#32
def BF(n:sg)(P:Bool):sg:=(n>>>1) ^^^(if n.getLsbD 0 !=P then BD else 0#32)
def Ez(n:sg)(P:Bool):BF n P=nZ (n ^^^ Wf P):=by
 unfold BF
 cases P
 ·simp[Wf,nZ]
 ·rw[BE]
  have:nZ (Wf true)=BD:=by decide+kernel
  rw[this];unfold nZ
  cases n.getLsbD 0
  ·simp
  ·have a:(n>>>1 ^^^(if true=true then BD else 0#32)) ^^^ BD=n>>>1 ^^^(BD ^^^ BD):=by rw[Zx rfl];ac_rfl
   rw[a,BitVec.xor_self];simp
def lf(n:sg)(P:UInt8):sg:=(List.range 8).foldl (λn a=>BF n (P.toNat.testBit a)) n
def yw(n:UInt8):sg:=BitVec.ofNat 32 n.toNat
def IY(n:sg)(a:UInt8):lf n a=pK n ^^^ lf 0#32 a:=by
 have e:∀(P:List Nat) (b c:sg),(P.foldl (λn d=>BF n (a.toNat.testBit d)) (b ^^^ c))=(P.foldl (λn _=>nZ n) b) ^^^(P.foldl (λn d=>BF n (a.toNat.testBit d)) c):=by
  intro P
  induction P with
  |nil=>intro b c;rfl
  |cons d P f=>
   intro b c;simp only[List.foldl_cons];rw[<-f]
   congr 1
   rw[Ez,Ez];simp only[BE]
   ac_rfl
 have:=e (List.range 8) n 0#32;rw[BitVec.xor_zero]at this;exact this
def IZ(n:UInt8):lf 0#32 n=pK (yw n):=by
 have a:(List.range 256).all (λP=>lf 0#32 (UInt8.ofNat P)==pK (yw (UInt8.ofNat P)))=true:=by decide+kernel
 have:=ZY.1 a n.toNat (List.mem_range.2 n.toNat_lt);simpa using this
def LR(n:sg)(P:UInt8):lf n P=pK (n ^^^ yw P):=by
 rw[IY,IZ,Ey]
def Pa{n:sg}(P:n.getLsbD 0=false):nZ n=n>>>1:=by
 unfold nZ;rw[P];simp
def LS(P:sg):pK (P&&&0xFFFFFF00#32)=P>>>8:=by
 have bit:∀n,n<8->((P&&&0xFFFFFF00#32)>>>n).getLsbD 0=false:=λn b=>by
  rw[BitVec.getLsbD_ushiftRight,BitVec.getLsbD_and,Nat.add_zero];have:(0xFFFFFF00#32:sg).getLsbD n=false:=by
   have c:(List.range 8).all (λn=>(0xFFFFFF00#32:sg).getLsbD n==false)=true:=by decide+kernel
   simpa using ZY.1 c n (List.mem_range.2 b)
  rw[this,Bool.and_false]
 have step:∀n,n<8->nZ ((P&&&0xFFFFFF00#32)>>>n)=(P&&&0xFFFFFF00#32)>>>(n+1):=λn b=>by
  rw[Pa (bit n b),BitVec.shiftRight_add]
 have d:P&&&0xFFFFFF00#32=(P&&&0xFFFFFF00#32)>>>0:=sM
 unfold pK;rw[d,step 0 oM,step 1 oM,step 2 oM,step 3 oM,step 4 oM,step 5 oM,step 6 oM,step 7 oM];apply BitVec.eq_of_getLsbD_eq;intro a e;rw[BitVec.getLsbD_ushiftRight,BitVec.getLsbD_ushiftRight,BitVec.getLsbD_and]
 by_cases f:7+1+a<32
 ·have:(0xFFFFFF00#32:sg).getLsbD (7+1+a)=true:=by
   have c:(List.range 24).all (λa=>(0xFFFFFF00#32:sg).getLsbD (7+1+a)==true)=true:=by decide+kernel
   simpa using ZY.1 c a (List.mem_range.2 oM)
  rw[this,Bool.and_true]
 ·rw[BitVec.getLsbD_of_ge _ _ oM]
  simp
def kD:List Nat:=[0x00000000,0x77073096,0xEE0E612C,0x990951BA,0x076DC419,0x706AF48F,0xE963A535,0x9E6495A3,0x0EDB8832,0x79DCB8A4,0xE0D5E91E,0x97D2D988,0x09B64C2B,0x7EB17CBD,0xE7B82D07,0x90BF1D91]
def kH:List Nat:=[0x00000000,0x1DB71064,0x3B6E20C8,0x26D930AC,0x76DC4190,0x6B6B51F4,0x4DB26158,0x5005713C,0xEDB88320,0xF00F9344,0xD6D6A3E8,0xCB61B38C,0x9B64C2B0,0x86D3D2D4,0xA00AE278,0xBDBDF21C]
def LU(n:UInt8):pK (yw n)=BitVec.ofNat 32 (kD.getD (n.toNat % 16) 0) ^^^ BitVec.ofNat 32 (kH.getD (n.toNat/16) 0):=by
 have a:(List.range 256).all (λP=>pK (yw (UInt8.ofNat P))==BitVec.ofNat 32 (kD.getD ((UInt8.ofNat P).toNat % 16) 0) ^^^ BitVec.ofNat 32 (kH.getD ((UInt8.ofNat P).toNat/16) 0))=true:=by decide+kernel
 have:=ZY.1 a n.toNat (List.mem_range.2 n.toNat_lt);simpa using this
def O_(n:sg)(a:UInt8):lf n a=n>>>8 ^^^ BitVec.ofNat 32 (kD.getD ((a.toNat ^^^ n.toNat % 256) % 16) 0) ^^^ BitVec.ofNat 32 (kH.getD ((a.toNat ^^^ n.toNat % 256)/16) 0):=by
 have f:=a.toNat_lt;have m:a.toNat ^^^ n.toNat % 256<2 ^ 8:=Nat.xor_lt_two_pow oM oM;have b:(UInt8.ofNat (a.toNat ^^^ n.toNat % 256)).toNat=a.toNat ^^^ n.toNat % 256:=by
  rw[ZK];omega
 have c:=LU (UInt8.ofNat (a.toNat ^^^ n.toNat % 256));rw[b]at c;have g:n ^^^ yw a=yw (UInt8.ofNat (a.toNat ^^^ n.toNat % 256)) ^^^(n&&&0xFFFFFF00#32):=by
  apply BitVec.eq_of_getLsbD_eq;intro P d;unfold yw;rw[b,BitVec.getLsbD_xor,BitVec.getLsbD_xor,BitVec.getLsbD_and,BitVec.getLsbD_ofNat,BitVec.getLsbD_ofNat,Nat.testBit_xor];have h:(n.toNat % 256).testBit P=(decide (P<8)&&n.toNat.testBit P):=by
   rw[show 256=2 ^ 8 from rfl,Nat.testBit_mod_two_pow]
  have i:n.getLsbD P=n.toNat.testBit P:=rfl;rw[h,i];have j:(0xFFFFFF00#32:sg).getLsbD P=decide (8<=P):=by
   have k:(List.range 32).all (λP=>(0xFFFFFF00#32:sg).getLsbD P==decide (8<=P))=true:=by decide+kernel
   simpa using ZY.1 k P (List.mem_range.2 d)
  rw[j,Zy d]
  by_cases e:P<8
  ·rw[Zy e,Xv oM]
   cases n.toNat.testBit P<;>cases a.toNat.testBit P<;>rfl
  ·have l:a.toNat.testBit P=false:=Nat.testBit_lt_two_pow (Qk f (by
    have:=Nat.pow_le_pow_right (n:=2) oM (show 8<=P by omega);simpa using this))
   rw[Xv e,Zy oM,l]
   cases n.toNat.testBit P<;>rfl
 rw[LR,g,Ey,LS,c]
 ac_rfl
def Ny(n:sg)(P:List UInt8):sg:= ~~~(P.foldl lf (~~~n))
def LQ(n:List UInt8):sg:=Ny 0#32 n
end Go.aw
namespace Go.aw
open Go
structure h_ where
 bytes:List UInt8
 pos:Nat
 sq:Int
def h_.num(n:h_):Int×Int×Nat:=rdNum (n.bytes.drop n.pos)
def ft(n:h_):Int×h_:=if n.sq≠0 then(0,n)else if n.num.1=0 then(n.num.2.1,⟨n.bytes,n.pos+n.num.2.2,0⟩)else(0,⟨n.bytes,n.pos,n.num.1⟩)
def bF(P:Int)(n:h_):Int×h_:=if n.sq≠0 then(0,n)else if n.num.1=0 then(if n.num.2.1<0\/P<n.num.2.1 then(0,⟨n.bytes,n.pos,3⟩)else(n.num.2.1,⟨n.bytes,n.pos+n.num.2.2,0⟩))else(0,⟨n.bytes,n.pos,n.num.1⟩)
def ia(n:h_):Int:=if n.sq=0/\n.pos<n.bytes.length then 5 else n.sq
def aW:Nat->h_->List Int×h_
 |0,n=>([],n)
 |k+1,n=>((aW k n).1++[(ft (aW k n).2).1],(ft (aW k n).2).2)
def kj(n:List UInt8):aK (rdNum n).2.1/\(rdNum n).2.2<=n.length/\(rdNum n).2.2<=9/\((rdNum n).1=0\/(rdNum n).1=4\/(rdNum n).1=5)/\((rdNum n).1=0->1<=(rdNum n).2.2):=by
 unfold rdNum
 cases n with
 |nil=>simp[aK]
 |cons P c=>
  simp only;generalize(if 16<P.toNat then P.toNat-16 else P.toNat)=a;have j:=NZ (c.take a);generalize gM (c.take a)=b at j
  by_cases g:8<a
  ·rw[Zx g];simp[aK]
  rw[Zq g]
  by_cases h:c.length<a
  ·rw[Zx h];simp[aK]
  rw[Zq h]
  by_cases d:(0<a/\c.head? =some 0)\/(¬16<P.toNat/\2 ^ 63<=b)\/(16<P.toNat/\2 ^ 63<b)
  ·rw[Zx d];simp[aK]
  rw[Zq d];have i:(¬16<P.toNat->b<2 ^ 63)/\(16<P.toNat->b<=2 ^ 63):=by
   refine⟨λe=>?_,λe=>?_⟩
   ·exact Nat.lt_of_not_le λf=>d (.inr (.inl ⟨e,f⟩))
   ·exact Nat.le_of_not_lt λf=>d (.inr (.inr ⟨e,f⟩))
  refine⟨?_,by simp;omega,by show a+1<=9;omega,.inl rfl,λ_=>by show 1<=a+1;omega⟩;show aK (if 16<P.toNat then-(b:Int)else b);unfold aK;split
  ·have:=i.2 (by assumption);omega
  ·have:=i.1 (by assumption);omega
structure h_.Fit (r:h_):Prop where
 pos:r.pos<=r.bytes.length
 sq:r.sq=0\/r.sq=3\/r.sq=4\/r.sq=5
variable{e:Int}{s:List Int}{b1 u:List UInt8}{a:Nat}{T:h_}
def h_.Fit.int(P:T.Fit):(ft T).2.Fit/\aK (ft T).1/\(ft T).2.bytes=T.bytes:=by
 obtain⟨a,b,d,n,e⟩:=kj (T.bytes.drop T.pos);have c:=P.pos;rw[XZ]at b;unfold ft h_.num;split
 ·exact⟨P,by simp[aK],rfl⟩
 ·split
  ·exact⟨⟨by show T.pos+_<=T.bytes.length;omega,.inl rfl⟩,a,rfl⟩
  ·exact⟨⟨c,by show _\/_;rcases n with n|n|n<;>simp[n]⟩,by simp[aK],rfl⟩
def h_.Fit.count{r:h_}(a:r.Fit){m:Int}(P:0<=m):(bF m r).2.Fit/\0<=(bF m r).1/\(bF m r).1<=m/\(bF m r).2.bytes=r.bytes:=by
 obtain⟨d,c,e,n,f⟩:=kj (r.bytes.drop r.pos);have b:=a.pos;rw[XZ]at c;unfold bF h_.num;split
 ·exact⟨a,sM,P,rfl⟩
 ·split
  ·split
   ·exact⟨⟨b,.inr (.inl rfl)⟩,sM,P,rfl⟩
   ·exact⟨⟨by show r.pos+_<=r.bytes.length;omega,.inl rfl⟩,by simp only;omega,by simp only;omega,rfl⟩
  ·exact⟨⟨b,by show _\/_;rcases n with n|n|n<;>simp[n]⟩,by simp,P,rfl⟩
def h_.Fit.ints{n:h_}(b:n.Fit):∀k,(aW k n).2.Fit/\(∀a∈(aW k n).1,aK a)/\(aW k n).1.length=k/\(aW k n).2.bytes=n.bytes
 |0=>⟨b,by simp[aW],rfl,rfl⟩
 |k+1=>by
  obtain⟨c,d,e,f⟩:=h_.Fit.ints b k;obtain⟨g,h,i⟩:=c.int;refine⟨g,?_,?_,i.trans f⟩
  ·intro a P
   rcases Q6.1 P with P|P
   ·exact d a P
   ·rw[List.mem_singleton]at P;subst P;exact h
  ·simp[aW,e]
structure h_.At (r:h_) (b:List UInt8) (l:List UInt8):Prop where
 bytes:r.bytes=b
 pos:r.pos<=b.length
 sq:r.sq=0
 rest:b.drop r.pos=l
def h_.At.int(n:T.At u (d_ e++b1))(P:aK e):(ft T).1=e/\(ft T).2.At u b1:=by
 have a:T.num=(0,e,(d_ e).length):=by unfold h_.num;rw[n.bytes,n.rest];exact Fy P b1
 have b:u.length-T.pos=(d_ e).length+b1.length:=by
  have:=Zj List.length n.rest
  rwa [XZ,QX]at this
 have c:=n.pos;unfold ft;rw[a,Zq (by simp[n.sq]),Zx rfl];refine⟨rfl,n.bytes,by show T.pos+(d_ e).length<=_;omega,rfl,?_⟩;show u.drop (T.pos+(d_ e).length)=b1;rw[<-List.drop_drop,n.rest,List.drop_left]
def h_.At.count{r:h_}{n m:Int}(P:r.At u (d_ n++b1))(a:aK n)(c:0<=n)(d:n<=m):(bF m r).1=n/\(bF m r).2.At u b1:=by
 have b:r.num=(0,n,(d_ n).length):=by unfold h_.num;rw[P.bytes,P.rest];exact Fy a b1
 have e:u.length-r.pos=(d_ n).length+b1.length:=by
  have:=Zj List.length P.rest
  rwa [XZ,QX]at this
 have f:=P.pos;unfold bF;rw[b,Zq (by simp[P.sq]),Zx rfl,Zq cS];refine⟨rfl,P.bytes,by show r.pos+(d_ n).length<=_;omega,rfl,?_⟩;show u.drop (r.pos+(d_ n).length)=b1;rw[<-List.drop_drop,P.rest,List.drop_left]
def bk(n:List Int):List UInt8:=(n.map d_).flatten
def lk(n:Int)(P:List Int):bk (n::P)=d_ n++bk P:=by simp[bk]
def iS(n P:List Int):bk (n++P)=bk n++bk P:=by simp[bk]
def h_.At.ints:∀(n:List Int) {zs:List Int},T.At u (bk (n++zs)++b1)->(∀b∈n,aK b)->(aW n.length T).1=n/\(aW n.length T).2.At u (bk zs++b1):=by
 intro n;generalize P:n.length=d
 induction d generalizing n with
 |zero=>intro zs a _;have:=QW P;subst this;exact⟨rfl,a⟩
 |succ d c=>
  rcases List.eq_nil_or_concat n with rfl|⟨n,b,rfl⟩
  ·cases P
  rw[List.concat_eq_append]at P⊢;intro zs a e;rw[XQ]at a;rw[QX,List.length_singleton]at P;have c:=λ{zs:List Int}=>c n oM (zs:=zs);obtain⟨g,f⟩:=c a λh i=>e h (ZV _ i);rw[List.singleton_append,lk,XQ]at f;obtain⟨j,k⟩:=f.int (e b sM);exact⟨by show _++[_]=_;rw[g,j],k⟩
def h_.At.done(n:T.At u []):ia T=0:=by
 have P:=Zj List.length n.rest;rw[XZ,ZQ]at P;unfold ia;rw[n.bytes,n.sq,Zq oM]
structure ah where
 origin:Int
 seq:Int
 az:Int
 aM:List Int
 aX:Int
 agg:Int
 field:Int
 op:Int
 arg:Int
 key:Int
deriving DecidableEq
structure ah.Ok (e:ah):Prop where
 origin:aK e.origin
 seq:aK e.seq
 az:aK e.az
 aM:∀x∈e.aM,aK x
 aX:aK e.aX
 agg:aK e.agg
 field:aK e.field
 op:aK e.op
 arg:aK e.arg
 key:aK e.key
def BQ:ah:=⟨0,0,0,[],0,0,0,0,0,0⟩
def QA:BQ.Ok:=by constructor<;>simp[BQ,aK]
def fX(n:ah):List Int:=[n.origin,n.seq,n.az,(n.aM.length:Int)]++n.aM++[n.aX,n.agg,n.field,n.op,n.arg,n.key]
def jv(n:ah):List UInt8×Int:=if 64<n.aM.length then([],3)else(bk (fX n),0)
def jK(c:h_):ah×h_:=
 (λP=>(λa=>(λb=>(λn=>(⟨P.1.getD 0 0,P.1.getD 1 0,P.1.getD 2 0,b.1,n.1.getD 0 0,n.1.getD 1 0,n.1.getD 2 0,n.1.getD 3 0,n.1.getD 4 0,n.1.getD 5 0⟩,n.2))
  (aW 6 b.2)) (aW a.1.toNat a.2)) (bF 64 P.2)) (aW 3 c)
def iU(n:List UInt8):ah×Int:=if ia (jK ⟨n,0,0⟩).2≠0 then(BQ,ia (jK ⟨n,0,0⟩).2)else((jK ⟨n,0,0⟩).1,0)
def fx(a:∀n∈s,aK n)(P:Nat):aK (s.getD P 0):=by
 rw[QQ]
 cases b:s[P]? with
 |none=>simp[aK]
 |some n=>exact a n (QZ b)
def QB{r:h_}(a:r.Fit):(jK r).2.Fit/\(jK r).1.Ok/\(jK r).1.aM.length<=64:=by
 obtain⟨b,P,h,i⟩:=a.ints 3;obtain⟨c,j,k,l⟩:=b.count (m:=64) oM;obtain⟨d,e,f,m⟩:=c.ints (bF 64 (aW 3 r).2).1.toNat;obtain⟨g,n,o,p⟩:=d.ints 6;refine⟨g,⟨fx P 0,fx P 1,fx P 2,e,fx n 0,fx n 1,fx n 2,fx n 3,fx n 4,fx n 5⟩,?_⟩;show(aW _ _).1.length<=64;rw[f];omega
def Ti(n:List UInt8):(iU n).1.Ok/\(iU n).1.aM.length<=64:=by
 unfold iU;have:=QB (r:=⟨n,0,0⟩) ⟨Qj _,.inl rfl⟩;split
 ·exact⟨QA,by simp[BQ]⟩
 ·exact this.2
variable{l:ah}
def QC(n:l.Ok)(u:l.aM.length<=64):iU (bk (fX l))=(l,0):=by
 have b:(h_.mk (bk (fX l)) 0 0).At (bk (fX l)) (bk ([l.origin,l.seq,l.az]++((l.aM.length:Int)::(l.aM++[l.aX,l.agg,l.field,l.op,l.arg,l.key])))++[]):=
  ⟨rfl,Qj _,rfl,by rw[List.drop_zero,List.append_nil];simp[fX]⟩
 generalize bk (fX l)=P at b⊢;obtain⟨e,c⟩:=h_.At.ints [l.origin,l.seq,l.az] b (by intro f a;simp at a;rcases a with rfl|rfl|rfl<;>first|exact n.origin|exact n.seq|exact n.az);rw[lk,XQ]at c;obtain⟨g,h⟩:=c.count (m:=64) cw oM oM;obtain⟨i,j⟩:=h_.At.ints l.aM h n.aM;have k:(aW l.aM.length (bF 64 (aW [l.origin,l.seq,l.az].length ⟨P,0,0⟩).2).2).2.At P (bk ([l.aX,l.agg,l.field,l.op,l.arg,l.key]++[])++[]):=j;obtain⟨m,o⟩:=h_.At.ints [l.aX,l.agg,l.field,l.op,l.arg,l.key] k (by intro f a;simp at a;rcases a with rfl|rfl|rfl|rfl|rfl|rfl<;>first|exact n.aX|exact n.agg|exact n.field|exact n.op|exact n.arg|exact n.key);have d:jK ⟨P,0,0⟩=(l,(aW 6 (aW l.aM.length (bF 64 (aW 3 ⟨P,0,0⟩).2).2).2).2):=by
  have p:(bF 64 (aW 3 ⟨P,0,0⟩).2).1=(l.aM.length:Int):=g;have q:(aW 3 ⟨P,0,0⟩).1=[l.origin,l.seq,l.az]:=e;have r:(aW 6 (aW l.aM.length (bF 64 (aW 3 ⟨P,0,0⟩).2).2).2).1=[l.aX,l.agg,l.field,l.op,l.arg,l.key]:=m;have s:(aW l.aM.length (bF 64 (aW 3 ⟨P,0,0⟩).2).2).1=l.aM:=i;unfold jK;simp only[p,q,Qx,r,s]
  rfl
 have t:ia (jK ⟨P,0,0⟩).2=0:=by rw[d];exact h_.At.done (by simpa[bk]using o)
 unfold iU;rw[t,Zq sM,d]
def QG(n:Nat):List UInt8:=[UInt8.ofNat (n/16777216),UInt8.ofNat (n/65536),UInt8.ofNat (n/256),UInt8.ofNat n]
def kJ(P:Int)(n:List UInt8):List UInt8:=[UInt8.ofNat P.toNat,UInt8.ofNat (n.length/65536),UInt8.ofNat (n.length/256),UInt8.ofNat n.length]++n
def cE(n:Int)(P:List UInt8):List UInt8:=kJ n P++QG (LQ (kJ n P)).toNat++[10]
def kW(n:Int)(P:List UInt8):List UInt8×Int:=if n<1\/255<n then([],2)else if 65536<P.length then([],5)else(cE n P,0)
structure FrV where
 kind:Int
 body:List UInt8
 n:Nat
 no:Int
def br(n:List UInt8):FrV:=if n.length<4 then⟨0,[],0,4⟩else if n.getD 0 0=0 then⟨0,[],0,2⟩else
 (λP=>if 65536<P then⟨0,[],0,5⟩else if n.length<P+9 then⟨0,[],0,4⟩else
  if n.take (P+9)=cE (n.getD 0 0).toNat ((n.drop 4).take P)then⟨(n.getD 0 0).toNat,(n.drop 4).take P,P+9,0⟩else⟨0,[],0,6⟩)
  ((n.getD 1 0).toNat*65536+(n.getD 2 0).toNat*256+(n.getD 3 0).toNat)
def fk(P:Int)(n:List UInt8):(cE P n).length=n.length+9:=by simp[cE,kJ,QG]
def vX(n:(br u).no=0):(br u).n<=u.length/\9<=(br u).n/\(br u).n=(br u).body.length+9:=by
 unfold br at n⊢;generalize(u.getD 1 0).toNat*65536+(u.getD 2 0).toNat*256+(u.getD 3 0).toNat=e at n⊢;split at n
 ·cases n
 rename_i P;rw[Zq P];split at n
 ·cases n
 rename_i a;rw[Zq a];simp only at n⊢;split at n
 ·cases n
 rename_i b;rw[Zq b];split at n
 ·cases n
 rename_i c;rw[Zq c];split at n
 ·rename_i d
  rw[Zx d];refine⟨by simp only;omega,by simp only;omega,by simp;omega⟩
 ·cases n
def Tz(n:a<=65536):(UInt8.ofNat (a/65536)).toNat*65536+(UInt8.ofNat (a/256)).toNat*256+(UInt8.ofNat a).toNat=a:=by
 simp only[ZK];omega
def Fg{k:Int}{body r:List UInt8}(h:1<=k)(i:k<=255)(P:body.length<=65536):br (cE k body++r)=⟨k,body,body.length+9,0⟩:=by
 have n:(UInt8.ofNat k.toNat).toNat=k.toNat:=by rw[ZK];omega
 have a:(cE k body++r).getD 0 0=UInt8.ofNat k.toNat:=rfl;have b:(cE k body++r).getD 1 0=UInt8.ofNat (body.length/65536):=rfl;have c:(cE k body++r).getD 2 0=UInt8.ofNat (body.length/256):=rfl;have d:(cE k body++r).getD 3 0=UInt8.ofNat body.length:=rfl;have e:((cE k body++r).drop 4).take body.length=body:=by
  have:(cE k body++r).drop 4=body++(QG (LQ (kJ k body)).toNat++[10]++r):=by simp[cE,kJ]
  rw[this,List.take_left]
 have f:=fk k body;unfold br;rw[a,b,c,d,Tz P,Zq (by rw[QX];omega),Zq (by intro g;have:=Zj UInt8.toNat g;rw[n]at this;simp at this;omega)];simp only[e,n];rw[Zq oM,Zq (by rw[QX];omega),Zx]
 ·congr 1;omega
 ·rw[<-f,List.take_left]
  congr 1;omega
def Yy(a:List UInt8)(n:a.length=4)(P:Nat)(j:P<2 ^ 32):gM a=P↔a=QG P:=by
 match a,n with
 |[b,c,d,e],_=>
  have k:=b.toNat_lt;have l:=c.toNat_lt;have m:=d.toNat_lt;have o:=e.toNat_lt;have i:gM [b,c,d,e]=((b.toNat*256+c.toNat)*256+d.toNat)*256+e.toNat:=by simp[gM]
  rw[i];constructor
  ·intro n
   unfold QG;have f:∀(g:UInt8) (h:Nat),g.toNat=h % 256->g=UInt8.ofNat h:=λg h n=>UInt8.toNat_inj.1 (by rw[ZK,n]);rw[f b (P/16777216) oM,f c (P/65536) oM,f d (P/256) oM,f e P oM]
  ·intro n
   unfold QG at n;simp only[List.cons.injEq,and_true]at n;obtain⟨rfl,rfl,rfl,rfl⟩:=n;simp only[ZK];omega
def VE:∀{P:List UInt8},4<=P.length->P.take 4=[P.getD 0 0,P.getD 1 0,P.getD 2 0,P.getD 3 0]
 |x::a::b::c::d,_=>rfl
 |[],n=>by simp at n
 |[_],n=>by simp at n
 |[_,_],n=>by simp at n
 |[_,_,_],n=>by simp at n
def Ws{b:List UInt8}{n:Nat}(l:n+9<=b.length)(m:(b.getD 1 0).toNat*65536+(b.getD 2 0).toNat*256+(b.getD 3 0).toNat=n)(o:n<=65536):
  b.take (n+9)=cE (b.getD 0 0).toNat ((b.drop 4).take n)↔((LQ (b.take (4+n))).toNat=gM ((b.drop (4+n)).take 4)/\b.getD (8+n) 0=10):=by
 have g:((b.drop 4).take n).length=n:=by simp;omega
 have P:∀(a:UInt8) (c:Nat),a.toNat=c % 256->UInt8.ofNat c=a:=λa c d=>UInt8.toNat_inj.1 (by rw[ZK,d]);have p:=(b.getD 1 0).toNat_lt;have q:=(b.getD 2 0).toNat_lt;have r:=(b.getD 3 0).toNat_lt;have h:kJ (b.getD 0 0).toNat ((b.drop 4).take n)=b.take (4+n):=by
  unfold kJ;rw[g,Qx,P (b.getD 0 0) _ (by have:=(b.getD 0 0).toNat_lt;omega),P (b.getD 1 0) (n/65536) oM,P (b.getD 2 0) (n/256) oM,P (b.getD 3 0) n oM];rw[List.take_add]
  congr 1
  exact(VE oM).symm
 have i:b.take (n+9)=b.take (4+n)++(b.drop (4+n)).take 4++[b.getD (8+n) 0]:=by
  rw[show n+9=(4+n)+(4+1) by omega,List.take_add,XQ,List.take_add (l:=b.drop (4+n)),List.drop_drop]
  congr 2
  rw[show 4+n+4=8+n by omega,QQ,Qq oM,Option.getD_some];rw[X4 oM]
  rfl
 unfold cE;rw[h,i];have j:((b.drop (4+n)).take 4).length=4:=by simp;omega
 have k:(LQ (b.take (4+n))).toNat<2 ^ 32:=(LQ (b.take (4+n))).isLt;rw[eq_comm (b:=gM _),Yy _ j _ k];constructor
 ·intro d
  obtain⟨e,f⟩:=List.append_inj' d rfl;exact⟨List.append_cancel_left e,by simpa using f⟩
 ·rintro⟨e,f⟩
  rw[e,f]
def bG(n:List UInt8):List ah×Nat:=
 if P:(br n).no=0/\(br n).kind=1/\(iU (br n).body).2=0 then((iU (br n).body).1::(bG (n.drop (br n).n)).1,(br n).n+(bG (n.drop (br n).n)).2)else([],0)
termination_by n.length
decreasing_by all_goals(have:=vX P.1;simp;omega)
def yV(n:(br u).no=0/\(br u).kind=1/\(iU (br u).body).2=0):bG u=((iU (br u).body).1::(bG (u.drop (br u).n)).1,(br u).n+(bG (u.drop (br u).n)).2):=by
 rw[bG,dif_pos n]
def CL(n:¬((br u).no=0/\(br u).kind=1/\(iU (br u).body).2=0)):bG u=([],0):=by
 rw[bG,dif_neg n]
def QD(n:aK e):(d_ e).length<=9:=by
 unfold aK at n;have:=Cy (u:=e.natAbs) oM;simp[d_];omega
def fW:∀{l:List Int},(∀P∈l,aK P)->(bk l).length<=9*l.length
 |[],_=>by simp[bk]
 |n::l,a=>by
  rw[lk,QX,Xq];have c:=QD (a n (QV ..));have d:=fW (l:=l) λP b=>a P (QJ _ b);omega
def ah.Ok.ints(n:l.Ok)(b:l.aM.length<=4611686018427387904):∀a∈fX l,aK a:=by
 intro a P;simp only[fX,Q6,Q2,List.not_mem_nil,or_false]at P;rcases P with((rfl|rfl|rfl|rfl)|P)|(rfl|rfl|rfl|rfl|rfl|rfl)
 ·exact n.origin
 ·exact n.seq
 ·exact n.az
 ·unfold aK;omega
 ·exact n.aM a P
 ·exact n.aX
 ·exact n.agg
 ·exact n.field
 ·exact n.op
 ·exact n.arg
 ·exact n.key
def EV(n:l.Ok)(P:l.aM.length<=64):(bk (fX l)).length<=666:=by
 have:=fW (n.ints oM);have a:(fX l).length=10+l.aM.length:=by simp[fX];omega
 omega
def nX(n:ah):List UInt8:=cE 1 (bk (fX n))
def Kw(n:l.Ok)(P:l.aM.length<=64):(nX l).length<=675/\9<=(nX l).length:=by
 have:=EV n P;unfold nX;rw[fk];omega
def TA(n:l.Ok)(P:l.aM.length<=64)(a:List UInt8):br (nX l++a)=⟨1,bk (fX l),(nX l).length,0⟩:=by
 unfold nX;rw[Fg dC dC (by have:=EV n P;omega),fk]
def CY(P:l.Ok)(a:l.aM.length<=64)(n:List UInt8):bG (nX l++n)=(l::(bG n).1,(nX l).length+(bG n).2):=by
 have b:=TA P a n;have c:=QC P a;rw[yV (by rw[b];exact⟨rfl,rfl,by rw[c]⟩),b,c,List.drop_left]
def aB(n:List ah):List UInt8:=(n.map nX).flatten
def ig(n:ah)(P:List ah):aB (n::P)=nX n++aB P:=by simp[aB]
def gu(n P:List ah):aB (n++P)=aB n++aB P:=by simp[aB]
def yK:∀{n:List ah},(∀e∈n,e.Ok/\e.aM.length<=64)->∀P,bG (aB n++P)=(n++(bG P).1,(aB n).length+(bG P).2)
 |[],_,P=>by simp[aB]
 |e::n,a,P=>by
  obtain⟨b,c⟩:=a e (QV ..);rw[ig,XQ,CY b c,yK (λd f=>a d (QJ _ f)),QX];simp only[List.cons_append,Nat.add_assoc]
def zf(n:u.length<4):(br u).no≠0:=by unfold br;rw[Zx n];simp
def Nh(b:u.length<=65536)(g:a<(cE e u).length):(br ((cE e u).take a)).no≠0:=by
 by_cases h:a<4
 ·exact zf (by rw[Qy];omega)
 have n:∀P,P<4->((cE e u).take a).getD P 0=(cE e u).getD P 0:=λP i=>by
  rw[QQ,QQ,Xw,Zx oM]
 have j:=fk e u;have c:(cE e u).getD 1 0=UInt8.ofNat (u.length/65536):=rfl;have d:(cE e u).getD 2 0=UInt8.ofNat (u.length/256):=rfl;have f:(cE e u).getD 3 0=UInt8.ofNat u.length:=rfl;unfold br;rw[n 0 oM,n 1 oM,n 2 oM,n 3 oM,c,d,f,Tz b];split
 ·simp
 split
 ·simp
 simp only;rw[Zq oM,Zx (by rw[Qy];omega)];simp
def zh(n:(br u).no≠0):bG u=([],0):=CL λP=>n P.1
def rL:bG []=([],0):=zh (zf sM)
def wH:∀{l:List ah},(∀e∈l,e.Ok/\e.aM.length<=64)->∀(P:Nat),∃n,n<=l.length/\bG ((aB l).take P)=(l.take n,(aB (l.take n)).length)/\(aB (l.take n)).length<=P/\(n<l.length->P<(aB (l.take (n+1))).length)
 |[],_,P=>⟨0,Q4 _,by simp[aB,rL],by simp[aB],sM⟩
 |e::l,a,P=>by
  obtain⟨b,c⟩:=a e (QV ..)
  by_cases d:P<(nX e).length
  ·refine⟨0,Qj _,?_,by simp[aB],λ_=>by simpa[aB]using d⟩
   rw[ig,List.take_append_of_le_length oM,zh]
   ·rfl
   ·exact Nh (by have:=EV b c;omega) d
  ·obtain⟨n,f,g,m,h⟩:=wH (l:=l) (λi j=>a i (QJ _ j)) (P-(nX e).length)
   refine⟨n+1,by simpa using f,?_,?_,λk=>?_⟩
   ·rw[ig,List.take_append,Qz oM,CY b c,g,Zw,ig,QX]
   ·rw[Zw,ig,QX];omega
   ·have:=h (by simpa using k)
    rw[Zw,ig,QX];omega
def gQ(n:ah):List UInt8×Int:=if(jv n).2≠0 then([],(jv n).2)else kW 1 (jv n).1
end Go.aw
namespace Go.Proofs.YtkpomgifkloklabGreatDoor
open Go.aw
def tQ:jU LL 199 5 1 1:=⟨kR,kR,dC⟩
end Go.Proofs.YtkpomgifkloklabGreatDoor
namespace Go.Proofs
open Go.Shelf
def Tryz.EC:Go.Shelf.Ren:=⟨λ|7=>234|10=>291|n=>n,λ|23=>159|26=>9|3=>198|28=>204|0=>0|27=>203|33=>289|4=>4|n=>n,λ|n=>n⟩
def Tryz.tl:Go.Proofs.SlLaysZ.n7 Tryz.prog Tryz.EC:={
 mixed:=by kernel_rfl
 f7:=⟨Tryz.f234.name,bv,Tryz.func234.trans bn⟩
 f10:=⟨Tryz.f291.name,bv,Tryz.func291.trans bn⟩
 t0:=Tryz.underlying0
 a0:=Tryz.isAgg0
 z0:=Tryz.sizeOf0
 v0:=Tryz.zeroValue0
 t4:=Tryz.underlying4
 a4:=Tryz.isAgg4
 z4:=Tryz.sizeOf4
 v4:=Tryz.zeroValue4
 t23:=Tryz.underlying159
 a23:=Tryz.isAgg159
 z23:=Tryz.sizeOf159
 v23:=Tryz.zeroValue159
 t26:=Tryz.underlying9
 a26:=Tryz.isAgg9
 z26:=Tryz.sizeOf9
 v26:=Tryz.zeroValue9
 t27:=Tryz.underlying203
 a27:=Tryz.isAgg203
 z27:=Tryz.sizeOf203
 v27:=Tryz.zeroValue203
 t28:=Tryz.underlying204
 a28:=Tryz.isAgg204
 z28:=Tryz.sizeOf204
 v28:=Tryz.zeroValue204
 t33:=Tryz.underlying289
 a33:=Tryz.isAgg289
 z33:=Tryz.sizeOf289
 v33:=Tryz.zeroValue289}
def Tryz.yx:Go.Shelf.Ren:=⟨λ|6=>233|8=>289|9=>290|11=>326|13=>185|12=>327|23=>250|24=>251|14=>342|15=>343|16=>344|17=>345|18=>346|19=>347|20=>348|21=>349|22=>350|25=>363|26=>298|27=>299|28=>364|29=>365|30=>366|31=>370|n=>n,λ|26=>9|28=>204|24=>290|0=>0|3=>3|37=>297|48=>346|50=>348|4=>4|40=>340|39=>339|45=>259|5=>5|9=>9|51=>383|55=>387|57=>419|58=>420|33=>289|n=>n,λ|n=>n⟩
def Tryz.Uj:Go.Proofs.SlLaysZ.n6 Tryz.prog Tryz.yx:={
 mixed:=by kernel_rfl
 f6:=⟨Tryz.f233.name,bv,Tryz.func233.trans bn⟩
 f8:=⟨Tryz.f289.name,bv,Tryz.func289.trans bn⟩
 f11:=⟨Tryz.f326.name,bv,Tryz.func326.trans bn⟩
 t0:=Tryz.underlying0
 a0:=Tryz.isAgg0
 z0:=Tryz.sizeOf0
 v0:=Tryz.zeroValue0
 t24:=Tryz.underlying290
 a24:=Tryz.isAgg290
 z24:=Tryz.sizeOf290
 v24:=Tryz.zeroValue290
 t26:=Tryz.underlying9
 a26:=Tryz.isAgg9
 z26:=Tryz.sizeOf9
 v26:=Tryz.zeroValue9
 t28:=Tryz.underlying204
 a28:=Tryz.isAgg204
 z28:=Tryz.sizeOf204
 v28:=Tryz.zeroValue204
 i26:=by kernel_rfl}
def Tryz.Qn:Go.Shelf.Ren:=⟨λ|6=>290|8=>185|9=>327|19=>250|20=>251|21=>342|22=>343|23=>344|24=>345|25=>346|26=>347|27=>348|28=>349|29=>350|36=>363|31=>298|32=>299|37=>364|38=>365|39=>366|41=>370|n=>n,λ|27=>290|29=>9|3=>3|32=>297|26=>290|0=>0|44=>346|46=>348|4=>4|36=>340|35=>339|41=>259|5=>5|9=>9|53=>383|57=>387|63=>419|64=>420|n=>n,λ|n=>n⟩
def Tryz.Vs:Go.Proofs.SlLaysM.n6 Tryz.prog Tryz.Qn:={
 mixed:=by kernel_rfl
 f6:=⟨Tryz.f290.name,bv,Tryz.func290.trans bn⟩
 f8:=Tryz.func185.trans bn
 f9:=⟨Tryz.f327.name,bv,Tryz.func327.trans bn⟩
 f19:=Tryz.func250.trans bn
 f20:=Tryz.func251.trans bn
 f21:=⟨Tryz.f342.name,bv,Tryz.func342.trans bn⟩
 f22:=⟨Tryz.f343.name,bv,Tryz.func343.trans bn⟩
 f23:=⟨Tryz.f344.name,bv,Tryz.func344.trans bn⟩
 f24:=⟨Tryz.f345.name,bv,Tryz.func345.trans bn⟩
 f25:=⟨Tryz.f346.name,bv,Tryz.func346.trans bn⟩
 f26:=⟨Tryz.f347.name,bv,Tryz.func347.trans bn⟩
 f27:=⟨Tryz.f348.name,bv,Tryz.func348.trans bn⟩
 f28:=⟨Tryz.f349.name,bv,Tryz.func349.trans bn⟩
 f29:=⟨Tryz.f350.name,bv,Tryz.func350.trans bn⟩
 f31:=Tryz.func298.trans bn
 f32:=Tryz.func299.trans bn
 f36:=⟨Tryz.f363.name,bv,Tryz.func363.trans bn⟩
 f37:=⟨Tryz.f364.name,bv,Tryz.func364.trans bn⟩
 f38:=⟨Tryz.f365.name,bv,Tryz.func365.trans bn⟩
 f39:=⟨Tryz.f366.name,bv,Tryz.func366.trans bn⟩
 f41:=⟨Tryz.f370.name,bv,Tryz.func370.trans bn⟩
 t0:=Tryz.underlying0
 a0:=Tryz.isAgg0
 z0:=Tryz.sizeOf0
 v0:=Tryz.zeroValue0
 t3:=Tryz.underlying3
 a3:=Tryz.isAgg3
 z3:=Tryz.sizeOf3
 v3:=Tryz.zeroValue3
 t4:=Tryz.underlying4
 a4:=Tryz.isAgg4
 z4:=Tryz.sizeOf4
 v4:=Tryz.zeroValue4
 t5:=Tryz.underlying5
 a5:=Tryz.isAgg5
 z5:=Tryz.sizeOf5
 v5:=Tryz.zeroValue5
 t9:=Tryz.underlying9
 a9:=Tryz.isAgg9
 z9:=Tryz.sizeOf9
 v9:=Tryz.zeroValue9
 t26:=Tryz.underlying290
 a26:=Tryz.isAgg290
 z26:=Tryz.sizeOf290
 v26:=Tryz.zeroValue290
 t27:=Tryz.underlying290
 a27:=Tryz.isAgg290
 z27:=Tryz.sizeOf290
 v27:=Tryz.zeroValue290
 t29:=Tryz.underlying9
 a29:=Tryz.isAgg9
 z29:=Tryz.sizeOf9
 v29:=Tryz.zeroValue9
 t32:=Tryz.underlying297
 a32:=Tryz.isAgg297
 z32:=Tryz.sizeOf297
 v32:=Tryz.zeroValue297
 t35:=Tryz.underlying339
 a35:=Tryz.isAgg339
 z35:=Tryz.sizeOf339
 v35:=Tryz.zeroValue339
 t36:=Tryz.underlying340
 a36:=Tryz.isAgg340
 z36:=Tryz.sizeOf340
 v36:=Tryz.zeroValue340
 t41:=Tryz.underlying259
 a41:=Tryz.isAgg259
 z41:=Tryz.sizeOf259
 v41:=Tryz.zeroValue259
 t44:=Tryz.underlying346
 a44:=Tryz.isAgg346
 z44:=Tryz.sizeOf346
 v44:=Tryz.zeroValue346
 t46:=Tryz.underlying348
 a46:=Tryz.isAgg348
 z46:=Tryz.sizeOf348
 v46:=Tryz.zeroValue348
 t53:=Tryz.underlying383
 a53:=Tryz.isAgg383
 z53:=Tryz.sizeOf383
 v53:=Tryz.zeroValue383
 t57:=Tryz.underlying387
 a57:=Tryz.isAgg387
 z57:=Tryz.sizeOf387
 v57:=Tryz.zeroValue387
 t63:=Tryz.underlying419
 a63:=Tryz.isAgg419
 z63:=Tryz.sizeOf419
 v63:=Tryz.zeroValue419
 t64:=Tryz.underlying420
 a64:=Tryz.isAgg420
 z64:=Tryz.sizeOf420
 v64:=Tryz.zeroValue420}
def Tryz.KA:Go.Shelf.Ren:=⟨λ|137=>351|217=>367|266=>371|n=>n,λ|9=>9|5=>5|3=>3|n=>n,λ|n=>n⟩
def Tryz.Uy:Go.Proofs.Lays.n137 Tryz.prog Tryz.KA:={
 mixed:=by kernel_rfl
 f137:=Tryz.func351.trans bn
 f217:=Tryz.func367.trans bn
 f266:=Tryz.func371.trans bn
 t3:=Tryz.underlying3
 a3:=Tryz.isAgg3
 z3:=Tryz.sizeOf3
 v3:=Tryz.zeroValue3
 t5:=Tryz.underlying5
 a5:=Tryz.isAgg5
 z5:=Tryz.sizeOf5
 v5:=Tryz.zeroValue5
 t9:=Tryz.underlying9
 a9:=Tryz.isAgg9
 z9:=Tryz.sizeOf9
 v9:=Tryz.zeroValue9}
def Tryz.KB:Go.Shelf.Ren:=⟨λ|129=>251|n=>n,λ|53=>348|3=>3|4=>4|46=>297|5=>5|9=>9|n=>n,λ|n=>n⟩
def Tryz.UW:Go.Proofs.Lays.n129 Tryz.prog Tryz.KB:={
 mixed:=by kernel_rfl
 f129:=Tryz.func251.trans bn
 t3:=Tryz.underlying3
 a3:=Tryz.isAgg3
 z3:=Tryz.sizeOf3
 v3:=Tryz.zeroValue3
 t4:=Tryz.underlying4
 a4:=Tryz.isAgg4
 z4:=Tryz.sizeOf4
 v4:=Tryz.zeroValue4
 t5:=Tryz.underlying5
 a5:=Tryz.isAgg5
 z5:=Tryz.sizeOf5
 v5:=Tryz.zeroValue5
 t9:=Tryz.underlying9
 a9:=Tryz.isAgg9
 z9:=Tryz.sizeOf9
 v9:=Tryz.zeroValue9
 t46:=Tryz.underlying297
 a46:=Tryz.isAgg297
 z46:=Tryz.sizeOf297
 v46:=Tryz.zeroValue297
 t53:=Tryz.underlying348
 a53:=Tryz.isAgg348
 z53:=Tryz.sizeOf348
 v53:=Tryz.zeroValue348}
def Tryz.HK:Go.Shelf.Ren:=⟨λ|171=>180|243=>241|246=>296|283=>331|284=>332|285=>333|286=>334|129=>251|317=>356|318=>357|319=>358|320=>359|337=>368|338=>369|n=>n,λ|3=>3|9=>9|2=>2|4=>4|171=>415|0=>0|53=>348|37=>199|5=>5|173=>417|212=>435|51=>346|20=>20|213=>436|46=>297|232=>442|233=>443|n=>n,λ|17=>4|18=>6|19=>7|n=>n⟩
def Tryz.Tg:Go.Proofs.LaysM.n171 Tryz.prog Tryz.HK:={
 mixed:=by kernel_rfl
 f129:=Tryz.func251.trans bn
 f171:=Tryz.func180.trans bn
 f243:=Tryz.func241.trans bn
 f246:=Tryz.func296.trans bn
 f283:=Tryz.func331.trans bn
 f284:=Tryz.func332.trans bn
 f285:=Tryz.func333.trans bn
 f286:=Tryz.func334.trans bn
 f317:=Tryz.func356.trans bn
 f318:=Tryz.func357.trans bn
 f319:=Tryz.func358.trans bn
 f320:=Tryz.func359.trans bn
 f337:=Tryz.func368.trans bn
 f338:=Tryz.func369.trans bn
 t0:=Tryz.underlying0
 a0:=Tryz.isAgg0
 z0:=Tryz.sizeOf0
 v0:=Tryz.zeroValue0
 t2:=Tryz.underlying2
 a2:=Tryz.isAgg2
 z2:=Tryz.sizeOf2
 v2:=Tryz.zeroValue2
 t3:=Tryz.underlying3
 a3:=Tryz.isAgg3
 z3:=Tryz.sizeOf3
 v3:=Tryz.zeroValue3
 t4:=Tryz.underlying4
 a4:=Tryz.isAgg4
 z4:=Tryz.sizeOf4
 v4:=Tryz.zeroValue4
 t5:=Tryz.underlying5
 a5:=Tryz.isAgg5
 z5:=Tryz.sizeOf5
 v5:=Tryz.zeroValue5
 t9:=Tryz.underlying9
 a9:=Tryz.isAgg9
 z9:=Tryz.sizeOf9
 v9:=Tryz.zeroValue9
 t20:=Tryz.underlying20
 a20:=Tryz.isAgg20
 z20:=Tryz.sizeOf20
 v20:=Tryz.zeroValue20
 t37:=Tryz.underlying199
 a37:=Tryz.isAgg199
 z37:=Tryz.sizeOf199
 v37:=Tryz.zeroValue199
 t46:=Tryz.underlying297
 a46:=Tryz.isAgg297
 z46:=Tryz.sizeOf297
 v46:=Tryz.zeroValue297
 t51:=Tryz.underlying346
 a51:=Tryz.isAgg346
 z51:=Tryz.sizeOf346
 v51:=Tryz.zeroValue346
 t53:=Tryz.underlying348
 a53:=Tryz.isAgg348
 z53:=Tryz.sizeOf348
 v53:=Tryz.zeroValue348
 t171:=Tryz.underlying415
 a171:=Tryz.isAgg415
 z171:=Tryz.sizeOf415
 v171:=Tryz.zeroValue415
 t173:=Tryz.underlying417
 a173:=Tryz.isAgg417
 z173:=Tryz.sizeOf417
 v173:=Tryz.zeroValue417
 t212:=Tryz.underlying435
 a212:=Tryz.isAgg435
 z212:=Tryz.sizeOf435
 v212:=Tryz.zeroValue435
 t213:=Tryz.underlying436
 a213:=Tryz.isAgg436
 z213:=Tryz.sizeOf436
 t232:=Tryz.underlying442
 a232:=Tryz.isAgg442
 z232:=Tryz.sizeOf442
 v232:=Tryz.zeroValue442
 t233:=Tryz.underlying443
 a233:=Tryz.isAgg443
 z233:=Tryz.sizeOf443
 v233:=Tryz.zeroValue443
 g17:=by kernel_rfl
 g18:=by kernel_rfl
 g19:=by kernel_rfl
 i0:=by kernel_rfl
 i2:=by kernel_rfl
 i3:=by kernel_rfl
 i4:=by kernel_rfl
 i5:=by kernel_rfl
 i9:=by kernel_rfl
 i20:=by kernel_rfl
 i37:=by kernel_rfl
 i46:=by kernel_rfl
 i51:=by kernel_rfl
 i53:=by kernel_rfl
 i171:=by kernel_rfl
 i173:=by kernel_rfl
 i212:=by kernel_rfl
 i232:=by kernel_rfl
 i233:=by kernel_rfl
 m17:=by kernel_rfl
 m18:=by kernel_rfl
 m19:=by kernel_rfl}
def Tryz.FH:Go.Shelf.Ren:=⟨λ|7=>159|10=>214|n=>n,λ|23=>166|26=>3|3=>3|28=>264|0=>0|27=>263|33=>72|4=>4|n=>n,λ|n=>n⟩
def Tryz.Ys:Go.Proofs.SlLaysZI.n7 Tryz.prog Tryz.FH:={
 mixed:=by kernel_rfl
 f7:=⟨Tryz.f159.name,bv,Tryz.func159.trans bn⟩
 f10:=⟨Tryz.f214.name,bv,Tryz.func214.trans bn⟩
 t0:=Tryz.underlying0
 a0:=Tryz.isAgg0
 z0:=Tryz.sizeOf0
 v0:=Tryz.zeroValue0
 t4:=Tryz.underlying4
 a4:=Tryz.isAgg4
 z4:=Tryz.sizeOf4
 v4:=Tryz.zeroValue4
 t23:=Tryz.underlying166
 a23:=Tryz.isAgg166
 z23:=Tryz.sizeOf166
 v23:=Tryz.zeroValue166
 t26:=Tryz.underlying3
 a26:=Tryz.isAgg3
 z26:=Tryz.sizeOf3
 v26:=Tryz.zeroValue3
 t27:=Tryz.underlying263
 a27:=Tryz.isAgg263
 z27:=Tryz.sizeOf263
 v27:=Tryz.zeroValue263
 t28:=Tryz.underlying264
 a28:=Tryz.isAgg264
 z28:=Tryz.sizeOf264
 v28:=Tryz.zeroValue264
 t33:=Tryz.underlying72
 a33:=Tryz.isAgg72
 z33:=Tryz.sizeOf72
 v33:=Tryz.zeroValue72}
def Tryz.yX:Go.Shelf.Ren:=⟨λ|6=>158|8=>212|9=>213|11=>278|13=>185|12=>279|23=>250|24=>251|14=>311|15=>312|16=>313|17=>314|18=>315|19=>316|20=>317|21=>318|22=>319|25=>338|26=>298|27=>299|28=>339|29=>340|30=>124|31=>361|n=>n,λ|26=>3|28=>264|24=>55|0=>0|3=>3|37=>297|48=>346|50=>348|4=>4|40=>340|39=>339|45=>259|5=>5|9=>9|51=>383|55=>387|57=>419|58=>420|33=>72|n=>n,λ|n=>n⟩
def Tryz.Vj:Go.Proofs.SlLaysZI.n6 Tryz.prog Tryz.yX:={
 mixed:=by kernel_rfl
 f6:=⟨Tryz.f158.name,bv,Tryz.func158.trans bn⟩
 f8:=⟨Tryz.f212.name,bv,Tryz.func212.trans bn⟩
 f11:=⟨Tryz.f278.name,bv,Tryz.func278.trans bn⟩
 t0:=Tryz.underlying0
 a0:=Tryz.isAgg0
 z0:=Tryz.sizeOf0
 v0:=Tryz.zeroValue0
 t24:=Tryz.underlying55
 a24:=Tryz.isAgg55
 z24:=Tryz.sizeOf55
 v24:=Tryz.zeroValue55
 t26:=Tryz.underlying3
 a26:=Tryz.isAgg3
 z26:=Tryz.sizeOf3
 v26:=Tryz.zeroValue3
 t28:=Tryz.underlying264
 a28:=Tryz.isAgg264
 z28:=Tryz.sizeOf264
 v28:=Tryz.zeroValue264
 i26:=by kernel_rfl}
def Tryz.Qo:Go.Shelf.Ren:=⟨λ|5=>213|8=>185|7=>279|19=>250|20=>251|10=>311|11=>312|12=>313|13=>314|14=>315|15=>316|16=>317|17=>318|18=>319|30=>338|31=>298|32=>299|33=>339|34=>340|35=>124|40=>361|n=>n,λ|23=>55|25=>3|3=>3|32=>297|22=>55|0=>0|44=>346|46=>348|4=>4|36=>340|35=>339|41=>259|5=>5|9=>9|53=>383|57=>387|63=>419|64=>420|n=>n,λ|n=>n⟩
def Tryz.wM:Go.Proofs.SlLaysM.n5 Tryz.prog Tryz.Qo:={
 mixed:=by kernel_rfl
 f5:=⟨Tryz.f213.name,bv,Tryz.func213.trans bn⟩
 f7:=⟨Tryz.f279.name,bv,Tryz.func279.trans bn⟩
 f8:=Tryz.func185.trans bn
 f10:=⟨Tryz.f311.name,bv,Tryz.func311.trans bn⟩
 f11:=⟨Tryz.f312.name,bv,Tryz.func312.trans bn⟩
 f12:=⟨Tryz.f313.name,bv,Tryz.func313.trans bn⟩
 f13:=⟨Tryz.f314.name,bv,Tryz.func314.trans bn⟩
 f14:=⟨Tryz.f315.name,bv,Tryz.func315.trans bn⟩
 f15:=⟨Tryz.f316.name,bv,Tryz.func316.trans bn⟩
 f16:=⟨Tryz.f317.name,bv,Tryz.func317.trans bn⟩
 f17:=⟨Tryz.f318.name,bv,Tryz.func318.trans bn⟩
 f18:=⟨Tryz.f319.name,bv,Tryz.func319.trans bn⟩
 f19:=Tryz.func250.trans bn
 f20:=Tryz.func251.trans bn
 f30:=⟨Tryz.f338.name,bv,Tryz.func338.trans bn⟩
 f31:=Tryz.func298.trans bn
 f32:=Tryz.func299.trans bn
 f33:=⟨Tryz.f339.name,bv,Tryz.func339.trans bn⟩
 f34:=⟨Tryz.f340.name,bv,Tryz.func340.trans bn⟩
 f35:=⟨Tryz.f124.name,bv,Tryz.func124.trans bn⟩
 f40:=⟨Tryz.f361.name,bv,Tryz.func361.trans bn⟩
 t0:=Tryz.underlying0
 a0:=Tryz.isAgg0
 z0:=Tryz.sizeOf0
 v0:=Tryz.zeroValue0
 t3:=Tryz.underlying3
 a3:=Tryz.isAgg3
 z3:=Tryz.sizeOf3
 v3:=Tryz.zeroValue3
 t4:=Tryz.underlying4
 a4:=Tryz.isAgg4
 z4:=Tryz.sizeOf4
 v4:=Tryz.zeroValue4
 t5:=Tryz.underlying5
 a5:=Tryz.isAgg5
 z5:=Tryz.sizeOf5
 v5:=Tryz.zeroValue5
 t9:=Tryz.underlying9
 a9:=Tryz.isAgg9
 z9:=Tryz.sizeOf9
 v9:=Tryz.zeroValue9
 t22:=Tryz.underlying55
 a22:=Tryz.isAgg55
 z22:=Tryz.sizeOf55
 v22:=Tryz.zeroValue55
 t23:=Tryz.underlying55
 a23:=Tryz.isAgg55
 z23:=Tryz.sizeOf55
 v23:=Tryz.zeroValue55
 t25:=Tryz.underlying3
 a25:=Tryz.isAgg3
 z25:=Tryz.sizeOf3
 v25:=Tryz.zeroValue3
 t32:=Tryz.underlying297
 a32:=Tryz.isAgg297
 z32:=Tryz.sizeOf297
 v32:=Tryz.zeroValue297
 t35:=Tryz.underlying339
 a35:=Tryz.isAgg339
 z35:=Tryz.sizeOf339
 v35:=Tryz.zeroValue339
 t36:=Tryz.underlying340
 a36:=Tryz.isAgg340
 z36:=Tryz.sizeOf340
 v36:=Tryz.zeroValue340
 t41:=Tryz.underlying259
 a41:=Tryz.isAgg259
 z41:=Tryz.sizeOf259
 v41:=Tryz.zeroValue259
 t44:=Tryz.underlying346
 a44:=Tryz.isAgg346
 z44:=Tryz.sizeOf346
 v44:=Tryz.zeroValue346
 t46:=Tryz.underlying348
 a46:=Tryz.isAgg348
 z46:=Tryz.sizeOf348
 v46:=Tryz.zeroValue348
 t53:=Tryz.underlying383
 a53:=Tryz.isAgg383
 z53:=Tryz.sizeOf383
 v53:=Tryz.zeroValue383
 t57:=Tryz.underlying387
 a57:=Tryz.isAgg387
 z57:=Tryz.sizeOf387
 v57:=Tryz.zeroValue387
 t63:=Tryz.underlying419
 a63:=Tryz.isAgg419
 z63:=Tryz.sizeOf419
 v63:=Tryz.zeroValue419
 t64:=Tryz.underlying420
 a64:=Tryz.isAgg420
 z64:=Tryz.sizeOf420
 v64:=Tryz.zeroValue420}
end Go.Proofs
namespace Go.aw
open Go
def wrap_u64(n:Int):PP .u64 n=n % 18446744073709551616:=by
 unfold PP;simp[IntKind.signed,IntKind.bits]
variable{b1 u:List UInt8}{a c i r:Nat}{d:bc}{h:Program}{C g q:TypeId}{m t:ac}{b:World}
def Fw(n:a<18446744073709551616):PP .u64 (a:Int)=a:=by rw[wrap_u64];omega
def MH(s:jU h g q 1 1){L D:UL}(P:aT gj q L b (UV a) c i u)(B:Row gj 1 b D d c b1)(j:∀k,aT gj q (·=a) k (UV a) c i b1->aj (·=a) b k->k.heap.size=b.heap.size->m (WP c) k):
  aJ h (Builtin.copy_ #[g,g] C #[.slice (UV a) c i,.slice d c r]) b m t:=by
 obtain⟨a1,a2,M,hz,N,a4,a5⟩:=s.info;have E:(h.info? q).map (·.size)=some 1:=by rw[M];simp[N]
 have l:=B.len;have O:=P.len dC;obtain⟨a6,D0,F,a7,a8⟩:=P.body;rcases F.cases with⟨v,_⟩|⟨Q,n,v,w,R,S,a9⟩
 ·cases v
 cases v
 by_cases H:c=0
 ·subst H
  have:b1=[]:=QW l.symm;subst this;have:u=[]:=QW O.symm;subst this;have o:=run_copy_none (P:=h) b g g C q (UV a) d 0 i 0 r s.under E (by rfl);refine aJ.mk (v:=WP 0) o (j b ?_ (aj.refl _) rfl);have:=P.alone;exact⟨by obtain⟨cs,D,T,e,a3⟩:=this.body;exact⟨cs,λ_=>False,T,by rw[show cs=[]from e];rfl,λ_ P=>P.elim⟩,λe f=>by simpa[aH]using f.symm,λe f=>by rw[f];exact aA w⟩
 ·obtain⟨cs,x,U⟩:=B.aD
  have y:b1≠[]:=by rintro rfl;simp at l;exact H l
  obtain⟨e,z,V,_,_,W⟩:=U y dC;subst V;have p:cs.length=c:=by have:=x.length;rw[this,l];show _*1=_;omega
  have b0:n.size=i:=by rw[S];show i*1=i;omega
  have o:=run_copy_row (P:=h) b g g C q a 0 c i ⟨e,z,none⟩ c r n q cs s.under E w (by rw[p];simp[Nat.min_self]) (λX Y Z=>by rw[Addr.add_lit];exact W X Y Z) oM (x.Sj);rw[p]at o;have I:=setRow_heap b a n (n.toList.take 0++cs++n.toList.drop (0+c)).toArray q (0,0) w;refine aJ.mk o (j _ ⟨⟨cs,λ_=>False,⟨⟨by rw[p];show c=c*1;omega,.inr ⟨a,i,_,rfl,Qj _,I,R,?_,?_,?_⟩⟩⟩,x.free,λ_ P=>P.elim⟩,λe f=>by simpa[aH]using f.symm,λe f=>by subst f;exact aA I⟩ ⟨rfl,rfl,rfl,by simp[World.setRow],λa0 hk y=>setRow_other b a a0 _ y⟩ (by simp[World.setRow]))
  ·rcases F.row.2 with⟨A,_⟩|⟨Q,J,K,A,_,_,_,hm,_⟩
   ·cases A
   ·cases A;exact hm
  ·show _=i*1
   simp;omega
  ·simp only[List.take_zero,List.nil_append,Xz]
   show(cs++n.toList.drop c).take (c*1)=cs;rw[Nat.mul_one,<-p,List.take_left]
end Go.aw
namespace Go.Proofs.YtkpomgifkloklabGreatDoor
open Go.aw
variable{e:Int}{u:List UInt8}{a c:Nat}{d:bc}{b:World}
def PR(a:aK e):be 308 #[WP e] b (Ok λc d=>c= .tuple #[.int .u64 (e.natAbs:Int),.int .u8 (if e<0 then 16 else 0)]/\b=d):=by
 unfold aK at a;refine IN (al.dec (λn=>?_) (λn=>?_))
 ·refine Ok.mk ⟨?_,rfl⟩
  rw[Zx n,wrap_u64,wrap_u64];have P:(0-e % 18446744073709551616) % 18446744073709551616=(e.natAbs:Int):=oM
  rw[P]
 ·refine Ok.mk ⟨?_,rfl⟩
  rw[Zq n,wrap_u64];have P:e % 18446744073709551616=(e.natAbs:Int):=oM
  rw[P]
def bits_Len64{n:Nat}{P:World}(c:n<18446744073709551616):be 251 #[.int .u64 (n:Int)] P (Ok λb a=>b= WP (Lib.bitLen n:Int)/\P=a):=by
 refine(Any.bits_Len64 Tryz.UW (n:Int) P oM oM).mono ?_;rintro d a ⟨rfl,rfl⟩;exact Ok.mk ⟨by rw[Qx],rfl⟩
def WH(b:a<=8)(n:Bool):RL .u8 (if n then 16 else 0) (PP .u8 (a:Int))=((UInt8.ofNat (a+if n then 16 else 0)).toNat:Int):=by
 have P:(List.range 9).all (λa=>RL .u8 16 (PP .u8 (a:Int))==((UInt8.ofNat (a+16)).toNat:Int)&&RL .u8 0 (PP .u8 (a:Int))==((UInt8.ofNat (a+0)).toNat:Int))=true:=by decide+kernel
 have:=ZY.1 P a (List.mem_range.2 oM);simp only[QK,beq_iff_eq]at this
 cases n
 ·exact this.2
 ·exact this.1
def BO{m:Int}{D:UL}(s:aK m)(f:Row gj 1 b D d a u)(K:a+9<=aP)(hD:∀e,D e->e<b.heap.size):
  be 262 #[.slice d a c,WP m] b (Ok (pQ gj 5 b (u++d_ m))):=by
 have j:=f.len;have k:=s;unfold aK at k;have L:=K;unfold aP at L;have t:m.natAbs<2 ^ 64:=oM
 have v:=Cy t;have M:=yR _ t;refine LD (PC.ok (PR s) ?_);rintro _ _ ⟨rfl,rfl⟩;refine⟨_,_,rfl,PC.ok (bits_Len64 oM) ?_⟩;rintro _ _ ⟨rfl,rfl⟩;have N:PP .i64 (Int.tdiv (PP .i64 ((Lib.bitLen m.natAbs:Int)+7)) 8)=((fY m.natAbs).length:Int):=by
  rw[wrap_i64 (x:=(Lib.bitLen m.natAbs:Int)+7) cw,Int.tdiv_eq_ediv_of_nonneg oM,wrap_i64 cw,M];omega
 have O:PP .i64 ((PP .i64 (((a:Nat):Int)+1))+((fY m.natAbs).length:Int))=((a+1+(fY m.natAbs).length:Nat):Int):=by
  rw[wrap_i64 (x:=((a:Nat):Int)+1) cw,wrap_i64 cw];omega
 refine⟨_,rfl,?_⟩;rw[N,O];refine WI tQ kR oM ce λw1 Q w b4=>?_;refine⟨_,_,_,rfl,MH tQ Q (f.af w) λR S T b5=>⟨_,rfl,?_⟩⟩;have y:ai b R:=w.new T λe f=>.inr oM;rw[show PP .u8 ((fY m.natAbs).length:Int)=PP .u8 ((fY m.natAbs).length:Int)from rfl];have z:=WH v (decide (m<0));simp only[Zk]at z;rw[z];refine Ou S tQ (x:=UInt8.ofNat ((fY m.natAbs).length+if m<0 then 16 else 0)) (D:=λ_=>False) ⟨rfl,trivial⟩ (λ_ h=>h.elim) (by rw[<-j];unfold aP;omega) (by rw[<-j];unfold maxLen;omega) λa4 c3 U V A W X b6=>?_;have Y:ai b U:=y.new W λe f=>.inr (by simp only[aH,Q1]at f;omega);have Z:a+1=(u++[UInt8.ofNat ((fY m.natAbs).length+if m<0 then 16 else 0)]).length:=by simp[j]
 generalize a8:u++[UInt8.ofNat ((fY m.natAbs).length+if m<0 then 16 else 0)]=l at A Z;have a0:u++d_ m=l++(fY m.natAbs).reverse:=by rw[<-a8,XQ];rfl
 rw[a0];generalize a9:(fY m.natAbs).length=P at v⊢;refine⟨_,_,_,rfl,λB C o E F H=>∃n:Nat,n<=P/\F=(P:Int)-1-n/\B=P-n/\o=a+1+n/\∃g,aT gj 5 g H C o E (l++(fY m.natAbs).reverse.take n)/\ai b H/\∀e,g e->b.heap.size<=e,
  ⟨_,0,Qj _,by rw[wrap_i64 cw];omega,rfl,rfl,V,by simpa using A,Y,λe f=>?_⟩,?_⟩
 ·rcases X e f with h|h|h
  ·omega
  ·exact h.elim
  ·have:=y.size;omega
 rintro B C o E F _ p ⟨n,hj,rfl,rfl,rfl,g,i,q,r⟩;refine al.dec (λh1=>?_) (λh1=>?_)
 ·have b7:n<P:=oM
  have b0:PP .i64 (8*((P:Int)-1-n))=((8*(P-1-n):Nat):Int):=by rw[wrap_i64 cw];omega
  rw[b0];have a1:∀x I,(do eqGuard .shr 348 x I (.int .u64 (m.natAbs:Int)) (WP ((8*(P-1-n):Nat):Int));binOp .shr 348 (.int .u64 (m.natAbs:Int)) (WP ((8*(P-1-n):Nat):Int)):Sem Value).run LL p=
    .ok (.int .u64 ((m.natAbs/256 ^(P-1-n):Nat):Int)) p:=λx I=>by
   have h0:=shift_shr .u64 .i64 (m.natAbs:Int) ((8*(P-1-n):Nat):Int) oM (by show _<=((64:Nat):Int);omega);have e1:(m.natAbs:Int)/2 ^(Int.toNat ((8*(P-1-n):Nat):Int))=((m.natAbs/256 ^(P-1-n):Nat):Int):=by
    have e2:(256:Nat) ^(P-1-n)=2 ^(8*(P-1-n)):=by rw[Nat.pow_mul]
    rw[Qx,e2];simp
   show(Op.shift .shr .u64 (m.natAbs:Int) .i64 ((8*(P-1-n):Nat):Int)).run LL p=_;rw[h0,e1]
   rfl
  refine aJ.mk (a1 _ _) ⟨_,rfl,?_⟩;have a2:(fY m.natAbs).reverse[n]? =some (UInt8.ofNat (m.natAbs/256 ^(P-1-n))):=by
   rw[List.getElem?_reverse oM,a9];rw[SU _ _ oM]
   congr 1
   refine UInt8.toNat_inj.1 ?_;rw[ZK,ZK];omega
  have a3:PP .u8 ((m.natAbs/256 ^(P-1-n):Nat):Int)=((UInt8.ofNat (m.natAbs/256 ^(P-1-n))).toNat:Int):=by
   rw[ZK];unfold PP;simp[IntKind.signed,IntKind.bits]
  rw[a3];have J:(l++(fY m.natAbs).reverse.take n).length=a+1+n:=by simp;omega
  refine Ou i tQ (x:=UInt8.ofNat (m.natAbs/256 ^(P-1-n))) (D:=λ_=>False) ⟨rfl,trivial⟩ (λ_ h=>h.elim) (by rw[J];unfold aP;omega) (by rw[J];unfold maxLen;omega) λa5 c5 w5 F5 b1 b2 b3 b8=>?_;refine⟨_,_,_,rfl,_,oM,n+1,oM,by rw[wrap_i64 cw];omega,rfl,oM,F5,?_,q.new b2 λe f=>.inr (r e (i.self e f)),λe f=>?_⟩
  ·rw[Qw,a2]
   simpa using b1
  ·rcases b3 e f with h|h|h
   ·exact r e h
   ·exact h.elim
   ·exact Xx q.size h
 ·obtain rfl:n=P:=oM
  rw[Qz cS]at i;exact Ok.mk ⟨_,_,_,g,rfl,i,q,r⟩
end Go.Proofs.YtkpomgifkloklabGreatDoor
namespace Go.aw
open Go
def Own.set{d:World}{i:TypeId}{k:Nat}{e:bc}{l P:Nat}{cs:List Value}(o:Own d i k e l P cs){m:Nat}{p:Value}{q:ba}(E:m<cs.length){a b:Nat}(f:e=some ⟨a,b,none⟩)(g:∀n,Own n i k e l P (cs.set m p)->aj (λa=>aH e=some a) d n->n.heap.size=d.heap.size->q n):PS d ⟨a,b+m,none⟩ p q:=by
 have r:=o.row.1;rcases o.row.2 with⟨c,F⟩|⟨H,I,h,c,s,t,u,v,w,j⟩
 ·simp only[XX]at c
  rw[c.1]at f;cases f
 ·simp only[XX]at c
  obtain⟨x,-,y⟩:=c;subst x;subst y
  cases f
  rw[Xz];have z:m<h.size:=by
   have:=Zj List.length j;simp at this;omega
  refine PS.mk t z λn A B C=>g n ⟨⟨by simpa using r,.inr ⟨_,_,_,rfl,s,C,u,v,by simpa using w,?_⟩⟩⟩ (A.mono λa _ X=>by rw[X];rfl) B;rw[Array.toList_setIfInBounds,List.take_set,j]
def cd.ow{a:Type}{b:Nat}{n:a->List Value}{hl h1}{c:World}{D:UL}:∀{P:List a} {cs:List Value},cd (flat b n (λ_=>True) hl h1) c D P cs↔cs=P.flatMap n
 |[],cs=>by simp[cd]
 |x::P,cs=>by
  constructor
  ·rintro⟨e,f,rfl,⟨rfl,-⟩,d⟩
   rw[cd.ow.1 d];rfl
  ·rintro rfl
   exact⟨n x,P.flatMap n,rfl,⟨rfl,trivial⟩,cd.ow.2 rfl⟩
def rQ{c:Type}{enc:c->List Value}{k:Nat}(d:∀P,(enc P).length=k){x':c}{v:Value}{a:Nat}(g:a<k):∀(e:List c) (n:Nat) (P:c),e[n]? =some P->enc x'=(enc P).set a v->(e.flatMap enc).set (n*k+a) v=(e.set n x').flatMap enc
 |[],n,P,b,_=>by simp at b
 |y::h,0,P,b,f=>by
  simp at b;subst b;rw[List.flatMap_cons,List.set_cons_zero,List.flatMap_cons,Nat.zero_mul,Xz,List.set_append_left _ _ (by rw[d];exact g),f]
 |y::h,n+1,P,b,f=>by
  have:=rQ d g h n P (by simpa using b) f;have i:(n+1)*k+a-k=n*k+a:=by rw[X7];omega
  have j:k<=(n+1)*k+a:=by rw[X7];omega
  rw[List.flatMap_cons,List.set_cons_succ,List.flatMap_cons,List.set_append_right _ _ (by rw[d];exact j),d,i,this]
def lP{a:Type}{n:a->List Value}{b:Nat}(c:∀x,(n x).length=b):∀P:List a,(P.flatMap n).length=P.length*b
 |[]=>by simp
 |x::P=>by rw[List.flatMap_cons,QX,c,lP c P,Xq,X7,Nat.one_mul,Nat.add_comm]
variable{F a c i r:Nat}{f:UL}{d v:bc}{h:Program}{j:Type}{C g q:TypeId}{w:Value}{m t:ac}{b:World}{z:ba}
def aT.set{k:Type}{n:k->List Value}{hl h1}{e:List k}(l:aT (flat a n (λ_=>True) hl h1) g f b d c i e){P j:Nat}{x x':k}(o:e[P]? =some x)(q:j<a)(s:n x'=(n x).set j w)(t:d=some ⟨r,F,none⟩)(m:∀h,aT (flat a n (λ_=>True) hl h1) g f h d c i (e.set P x')->aj (λr=>aH d=some r) b h->h.heap.size=b.heap.size->z h):PS b ⟨r,F+P*a+j,none⟩ w z:=by
 obtain⟨cs,D,u,v,y⟩:=l.body;have A:=cd.ow.1 v;subst A;have B:P<e.length:=(Qv.1 o).1;rw[Nat.add_assoc];refine u.set (m:=P*a+j) ?_ t λh C E p=>m h ⟨⟨_,D,C,cd.ow.2 (rQ hl q e P x o s),y⟩,l.self,λr H=>by rw[p];exact l.aE r H⟩ E p;rw[lP hl];have:(P+1)*a<=e.length*a:=Q0 _ B;rw[X7]at this;omega
def ye{P:Program}{w:World}(n:Nat)(b g c:TypeId)(h:TypeInfo)(a:Nat)(e:P.underlying b=some (.slice c))(f:P.info? c=some h)(d:Value)(i:Nat)(j:List Value)(k:w.ownsRow n c a d i j)(l:Nat):
  (Builtin.append_ #[b,b] g #[d,.slice none 0 l]).run P w= .ok d w:=by
 rcases k.2 with⟨rfl,rfl⟩|⟨q,m,o,rfl,_,_,p,_⟩
 ·simp[Builtin.append_,run_underlying e,sizeOf,typeInfo,f,Builtin.lenOf,Builtin.firstCells]
 ·simp[Builtin.append_,run_underlying e,sizeOf,typeInfo,f,Builtin.lenOf,Builtin.firstCells,p,storeCells]
def vW{c:kq j}{e P:Nat}{p:List j}{bytes:Nat}(r:aT c g f b d e P p)(s:jU h q g c.k bytes){D:UL}{k y:Nat}{i:List j}(u:Row c bytes b D v k i)(A:∀n,D n->n<b.heap.size/\aH d≠some n)(l:(p.length+i.length)*bytes<=aP)(B:p.length+i.length<=maxLen)(o:∀w a x z,aT c g z x w (e+k) a (p++i)->aj (λE=>aH d=some E) b x->(∀n,z n->f n\/D n\/b.heap.size<=n)->(∀n,aH w=some n->f n\/b.heap.size<=n)->m (.slice w (e+k) a) x):
  aJ h (Builtin.append_ #[q,q] C #[.slice d e P,.slice v k y]) b m t:=by
 cases v with
 |some N=>exact lL r s u A l B o
 |none=>
  have F:i=[]:=by
   cases i with
   |nil=>rfl
   |cons H O=>obtain⟨n,I,Q,J,_⟩:=u.el 0 H rfl;cases J
  subst F;obtain rfl:k=0:=u.len;obtain⟨K,R,L,S,T,U,V⟩:=jU.info s;obtain⟨cs,W,M,X,Y⟩:=r.body;exact aJ.mk (ye (P:=h) (w:=b) 0 q C g K c.k s.under L (.slice d e P) e cs M.row y) (o d P b f (by simpa using r) (aj.refl _) (λn l=>.inl l) λn l=>.inl (r.self n l))
end Go.aw
namespace Go.aw
open Go
def Mj(n:UInt8):PP .i64 (n.toNat:Int)=n.toNat:=wrap_i64 (by have:=n.toNat_lt;unfold aK;omega)
def lU(n:UInt8):Nat:=if 16<n.toNat then n.toNat-16 else n.toNat
def ML(P:UInt8):(PP .i64 (vT .u8 (P.toNat:Int) 16)<=8/\((P.toNat:Int)≠16)↔lU P<=8)/\(lU P<=8->PP .i64 (vT .u8 (P.toNat:Int) 16)=(lU P:Int)/\GB .u8 (P.toNat:Int) 16=if 16<P.toNat then 16 else 0):=by
 have a:(List.range 256).all (λn=>decide ((PP .i64 (vT .u8 (n:Int) 16)<=8/\((n:Int)≠16)↔(if 16<n then n-16 else n)<=8)/\((if 16<n then n-16 else n)<=8->PP .i64 (vT .u8 (n:Int) 16)=((if 16<n then n-16 else n:Nat):Int)/\GB .u8 (n:Int) 16=if 16<n then 16 else 0)))=true:=by decide+kernel
 have:=ZY.1 a P.toNat (List.mem_range.2 P.toNat_lt);exact XV this
def MM{n d:Nat}(b:n<72057594037927936)(c:d<256):RL .u64 (Mf .u64 (n:Int) 8) (PP .u64 (d:Int))=((n*256+d:Nat):Int):=by
 have P:Mf .u64 (n:Int) 8=((n*256:Nat):Int):=by
  unfold Mf;have:min (Int.toNat 8) (IntKind.bits .u64)=8:=dC
  rw[this,wrap_u64];have:((2:Int) ^ 8)=256:=dC
  rw[this];omega
 rw[P,Fw oM];unfold RL;show PP .u64 ((BitVec.ofInt 64 ((n*256:Nat):Int)|||BitVec.ofInt 64 (d:Int)).toNat:Int)=_;have a:n*256|||d=n*256+d:=by
  have:=(Nat.shiftLeft_add_eq_or_of_lt (a:=n) (i:=8) (b:=d) oM).symm
  rwa [Nat.shiftLeft_eq]at this
 rw[BitVec.ofInt_natCast,BitVec.ofInt_natCast,BitVec.toNat_or,BitVec.toNat_ofNat,BitVec.toNat_ofNat,Nat.mod_eq_of_lt oM,Nat.mod_eq_of_lt oM,a,Fw oM]
variable{u:List UInt8}{a:Nat}{c2:UInt8}
def EI(n:u[a]? =some c2):gM (u.take (a+1))=gM (u.take a)*256+c2.toNat:=by
 rw[Qw,n];exact yS _ _
def pd(n:List UInt8){j m:Nat}(P:j<=m):gM (n.take j)<256 ^ m:=by
 have a:=NZ (n.take j);have b:256 ^(n.take j).length<=256 ^ m:=Nat.pow_le_pow_right oM cS;omega
def MN(n:¬lU c2<=8):rdNum (c2::u)=(5,0,0):=by
 unfold rdNum lU at*;simp only;rw[Zx oM]
def JX(P:lU c2<=8)(n:u.length<lU c2):rdNum (c2::u)=(4,0,0):=by
 unfold rdNum lU at*;simp only;rw[Zq oM,Zx n]
def PV(a:lU c2<=8)(n:¬u.length<lU c2)(P:(0<lU c2/\u.head? =some 0)\/(¬16<c2.toNat/\2 ^ 63<=gM (u.take (lU c2)))\/(16<c2.toNat/\2 ^ 63<gM (u.take (lU c2)))):rdNum (c2::u)=(5,0,0):=by
 unfold rdNum lU at*;simp only;rw[Zq oM,Zq n,Zx P]
def CA(a:lU c2<=8)(n:¬u.length<lU c2)(P:¬((0<lU c2/\u.head? =some 0)\/(¬16<c2.toNat/\2 ^ 63<=gM (u.take (lU c2)))\/(16<c2.toNat/\2 ^ 63<gM (u.take (lU c2))))):
  rdNum (c2::u)=(0,if 16<c2.toNat then-(gM (u.take (lU c2)):Int)else gM (u.take (lU c2)),lU c2+1):=by
 unfold rdNum lU at*;simp only;rw[Zq oM,Zq n,Zq P]
end Go.aw
namespace Go.Proofs.YtkpomgifkloklabGreatDoor
open Go.aw
structure fD (w:World) (p:Nat) (F:UL) (r:h_):Prop where
 body:∃a n cap G,w.heap[p]? =some (.cells #[.slice a n cap,WP (r.pos:Int),WP r.sq] 353 (0,0))/\aT gj 5 G w a n cap r.bytes/\(∀b,G b->F b/\b≠p)
 self:F p
 aE:∀b,F b->b<w.heap.size
 fit:r.Fit
 eR:r.bytes.length<=aP
variable{o:Array Value}{J:Bool}{A:FuncId}{e:Int}{a6:List PanicEntry->ba}{u:List UInt8}{a c i:Nat}{f:UL}{d:bc}{m t:ac}{b k:World}{T:h_}
def fD.keep{S c:UL}(P:fD b a c T)(d:aj S b k)(g:∀n,c n->¬S n):fD k a c T:=by
 obtain⟨i,j,e,G,l,m,h⟩:=P.body;exact⟨⟨i,j,e,G,d.get l (g _ P.self),m.keep d (λn f=>g n (h n f).1),h⟩,P.self,λn f=>Qk (P.aE n f) d.size,P.fit,P.eR⟩
def fD.af(n:fD b a f T)(P:ai b k):fD k a f T:=n.keep P λ_ _ n=>n
def fD.fm{b w':World}{e r':h_}(g:fD b a f e){G:UL}(k:aT gj 5 G b d c i e.bytes)(h:∀n,G n->f n/\n≠a)(j:aj (·=a) b w')(l:w'.heap[a]? =some (.cells #[.slice d c i,WP (r'.pos:Int),WP r'.sq] 353 (0,0)))(P:r'.bytes=e.bytes)(m:r'.Fit):fD w' a f r':=
 ⟨⟨d,c,i,G,l,by rw[P];exact k.keep j λn P=>(h n P).2,h⟩,g.self,λn P=>Qk (g.aE n P) j.size,m,by rw[P];exact g.eR⟩
def EG{D:UL}(P:Row gj 1 b D d a u)(o:∀n,D n->n<b.heap.size):
  be 190 #[.slice d a c] b (Ok λp j=>∃k l,p= RK k/\fD j k l ⟨u,0,0⟩/\ai b j/\∀n,l n->b.heap.size<=n):=by
 have q:=P.len;have r:=P.eR;refine IJ (vW (aT.nil b) tQ P (λn g=>⟨o n g,by simp[aH]⟩) cS (by unfold aP at r;unfold maxLen;simp;omega) λe s h z t v _ w=>?_);refine⟨_,_,_,rfl,PA.mk λA i B x=>?_⟩;have m:ai b h:=v.mono λn _ P=>by simp[aH]at P
 have f:=t.alone;rw[List.nil_append]at f;have y:∀n,aH e=some n->b.heap.size<=n:=λn P=>(w n P).elim (λg=>g.elim) id;refine Ok.mk ⟨h.heap.size,λn=>n=h.heap.size\/aH e=some n,rfl,⟨⟨e,_,s,λn=>aH e=some n,x,f.af i,λn P=>⟨.inr P,?_⟩⟩,.inl rfl,?_,⟨Qj _,.inl rfl⟩,by rw[<-q];omega⟩,m.then i,?_⟩
 ·have:=f.aE n P;omega
 ·rintro n (rfl|P)
  ·omega
  ·have:=f.aE n P;have:=i.size;omega
 ·rintro n (rfl|P)
  ·exact m.size
  ·exact y n P
def VN(n:Int):List PanicEntry:=[{v:=.iface 391 (WP n),recovered:=false}]
def gv(n:J=true->m (.tuple #[]) b)(P:J=false->a6 (VN e) b):
  PC LL 305 #[.bool J,WP e] b m a6:=by
 cases J
 ·refine yu (al.tt rfl ?_)
  exact aJ.panics (v:=.iface 391 (WP e)) rfl (P rfl)
 ·exact yu (al.ff rfl (n rfl))
def WM(b:World)(a:Nat)(c:UL)(n:h_)(no:Int)(f:ac)(g:Nat):am:=λd P=>
 ((no=0/\fD P a c ⟨n.bytes,n.pos+g,n.sq⟩/\∃e,d= .returned e/\f e P)\/(no≠0/\d= .panicked (VN no)/\∃h,fD P a c ⟨n.bytes,h,n.sq⟩))/\aj (·=a) b P/\P.heap.size=b.heap.size
def PC.red{no:Int}(d:be A o b (WM b a f T no m c))(j:no=0->∀P n,fD n a f ⟨T.bytes,T.pos+c,T.sq⟩->m P n->aj (·=a) b n->n.heap.size=b.heap.size->t P n)(k:no≠0->∀n,(∃l,fD n a f ⟨T.bytes,l,T.sq⟩)->aj (·=a) b n->n.heap.size=b.heap.size->a6 (VN no) n):PC LL A o b t a6:=
 d.mono λq n ⟨d,h,i⟩=>by
  rcases d with⟨e,g,P,rfl,p⟩|⟨e,rfl,g⟩
  ·exact j e P n g p h i
  ·exact k e n g h i
def Ob{m:Nat}(c:fD b a f T)(M:m<=2147483647):
  be 306 #[RK a,WP (m:Int)] b (WM b a f T (if m<=T.bytes.length-T.pos then 0 else 4) (λx y=>∃d z,x= .slice d m z/\Row gj 1 y f d m ((T.bytes.drop T.pos).take m)) m):=by
 obtain⟨d,q,n,G,A,g,j⟩:=c.body;have N:=c.fit.pos;have B:=c.eR;have O:=g.len dC;have C:=g.ly;unfold aP at B;refine uA λr s=>?_;have h:ai b r:=s.keep;have i:=h.get A id;have t:r.heap.size=b.heap.size:=by rw[s.heap]
 refine⟨a,0,rfl,d,q,n,ae i rfl,a,0,rfl,_,ae i rfl,gv (λP=>?_) (λP=>?_)⟩
 ·have P:=XV P
  rw[wrap_i64 cw]at P;refine⟨rfl,a,0,rfl,_,ae i rfl,a,0,rfl,PS.mk i sM λE F H e=>?_⟩;have I:PP .i64 ((T.pos:Int)+(m:Int))=((T.pos+m:Nat):Int):=by rw[wrap_i64 cw];omega
  rw[I]at e;have J:PP .i64 (((T.pos+m:Nat):Int)-(m:Int))=(T.pos:Int):=by rw[wrap_i64 cw];omega
  refine⟨a,0,rfl,d,q,n,ae e rfl,a,0,rfl,_,ae e rfl,a,0,rfl,_,ae e rfl,?_⟩;rw[J];refine⟨oM,oM,oM,λk u=>?_⟩;have v:ai E k:=u.keep;have l:aj (·=a) b k:=((h.keep).then F).af v;have K:fD k a f ⟨T.bytes,T.pos+m,T.sq⟩:=c.fm (r':=⟨T.bytes,T.pos+m,T.sq⟩) g j l (v.get e id) rfl ⟨by show T.pos+m<=T.bytes.length;omega,c.fit.sq⟩;refine⟨.inl ⟨Zx oM,K,_,rfl,dd d T.pos n 1,n-T.pos,?_⟩,l,by rw[u.heap,H,t]⟩;simp only[Qx];rw[show T.pos+m-T.pos=m by omega];refine⟨rfl,?_⟩;have o:=(g.row (bytes:=1) dC ce).part (lo:=T.pos) (hi:=T.pos+m) (cap:=n) oM oM C;rw[show T.pos+m-T.pos=m by omega]at o;have L:(T.bytes.take (T.pos+m)).drop T.pos=(T.bytes.drop T.pos).take m:=by rw[List.drop_take];congr 1;omega
  rw[L]at o;exact((o.keep l λp P=>(j p P).2)).mono λp P=>(j p P).1
 ·intro _ _
  have P:=Xy P;rw[wrap_i64 cw]at P;have w:¬m<=T.bytes.length-T.pos:=oM
  refine⟨.inr ⟨by rw[Zq w];decide,by rw[Zq w],T.pos,?_⟩,h.keep,t⟩;exact c.af h
def Fz(M:fD b a f T):
  be 258 #[RK a] b (WM b a f T T.num.1 (λt g=>t= WP T.num.2.1) T.num.2.2):=by
 have x:=M.fit.pos;have r:(T.bytes.drop T.pos).length=T.bytes.length-T.pos:=XZ ..;generalize s:T.bytes.drop T.pos=A at r;have Z:T.num=rdNum A:=by unfold h_.num;rw[s]
 rw[Z];refine qT (PC.red (Ob (m:=1) M oM) ?_ ?_)
 rotate_left
 ·intro k y B u v
  have:¬1<=T.bytes.length-T.pos:=λe=>k (Zx e);rw[Zq this];have:A=[]:=QW oM;subst this;exact⟨.inr ⟨dC,rfl,B⟩,u,v⟩
 rintro k _ y N ⟨a1,c1,rfl,O⟩ u v;have Q:1<=T.bytes.length-T.pos:=by
  by_cases e:1<=T.bytes.length-T.pos
  ·exact e
  ·rw[Zq e]at k;cases k
 rw[s]at O
 match A,s,r with
 |[],s,r=>simp at r;omega
 |n::d,s,r=>
 have b1:d.length=T.bytes.length-T.pos-1:=by simp at r;omega
 have a7:T.bytes.drop (T.pos+1)=d:=by rw[<-List.drop_drop,s];rfl
 obtain⟨b5,o6,m,rfl,o,_,P⟩:=O.ni (i:=0) oM;obtain rfl:n=m:=by simpa using o
 obtain⟨C,a8⟩:=ML n;refine⟨_,_,_,rfl,b5,o6,rfl,oM,oM,_,P,?_⟩;refine⟨λg=>lU n<=8/\g=y,?_,?_⟩
 ·have h:¬lU n<=8->∀g,g=y->WM b a f T (rdNum (n::d)).1 (λt g=>t= WP (rdNum (n::d)).2.1) (rdNum (n::d)).2.2 (.panicked (VN 5)) g:=by
   rintro p g rfl;rw[MN p];exact⟨.inr ⟨dC,rfl,T.pos+1,N⟩,u,v⟩
  refine al.dec (λE=>gv (λc=>⟨rfl,?_,rfl⟩) (λc=>h ?_ _ rfl)) (λE=>gv (λc=>(by cases c)) λ_=>h ?_ _ rfl)
  ·exact C.1 ⟨E,by simpa using c⟩
  ·intro p
   have:=(C.2 p).2;simp only[bne_eq_false_iff_eq]at c;exact this c
  ·intro p
   exact E (C.2 p).1
 rintro _ y ⟨w,rfl⟩;obtain⟨p,a9⟩:=a8 w;rw[p];refine PC.red (Ob (m:=lU n) N oM) ?_ ?_
 rotate_left
 ·intro k l B F H
  have hn:¬lU n<=T.bytes.length-(T.pos+1):=λe=>k (Zx e);rw[Zq hn,JX w oM];exact⟨.inr ⟨dC,rfl,B⟩,u.then F,H.trans v⟩
 rintro k _ l R ⟨a2,c2,rfl,z⟩ F H;have b2:lU n<=d.length:=by
  by_cases e:lU n<=T.bytes.length-(T.pos+1)
  ·omega
  ·simp only at k;rw[Zq e]at k;cases k
 change Row gj 1 l f a2 (lU n) ((T.bytes.drop (T.pos+1)).take (lU n))at z
 rw[a7]at z;have S:fD l a f ⟨T.bytes,T.pos+(lU n+1),T.sq⟩:=by have:=R;rwa [show T.pos+(lU n+1)=T.pos+1+lU n by omega]
 have I:aj (·=a) b l:=u.then F;have J:=H.trans v;have h:((0<lU n/\d.head? =some 0)\/(¬16<n.toNat/\2 ^ 63<=gM (d.take (lU n)))\/(16<n.toNat/\2 ^ 63<gM (d.take (lU n))))->∀g,g=l->WM b a f T (rdNum (n::d)).1 (λt g=>t= WP (rdNum (n::d)).2.1) (rdNum (n::d)).2.2 (.panicked (VN 5)) g:=by
  rintro c g rfl;rw[PV w oM c];exact⟨.inr ⟨dC,rfl,_,R⟩,I,J⟩
 refine⟨_,_,_,rfl,λg=>¬(0<lU n/\d.head? =some 0)/\g=l,?_,?_⟩
 ·refine al.ey (λe=>gv (λ_=>⟨rfl,λP=>oM,rfl⟩) (λc=>by cases c)) (λe=>?_)
  have x:0<lU n:=oM
  obtain⟨K,L,m,rfl,o,_,P⟩:=z.ni (i:=0) x;have U:d.head? =some m:=by
   rw[Xw,Zx x]at o;rw[List.head?_eq_getElem?];exact o
  refine⟨K,L,rfl,oM,oM,_,P,gv (λc=>⟨rfl,λP=>?_,rfl⟩) (λc=>h (.inl ⟨x,?_⟩) _ rfl)⟩
  ·rw[U]at P
   have:=P.2;simp only[Q1]at this;subst this;simp at c
  ·rw[U]
   have:(m.toNat:Int)=0:=by simpa using c
   exact Zj some (UInt8.toNat_inj.1 (by
                         have:m.toNat=0:=oM
                         rw[this];rfl))
 rintro _ l ⟨V,rfl⟩;refine⟨λW X i g=>∃j:Nat,j<=lU n/\i=j/\W=lU n-j/\g=l/\X=(gM (d.take j):Int),⟨_,0,Qj _,rfl,rfl,rfl,rfl⟩,?_⟩;rintro W X i _ l ⟨j,hj,rfl,rfl,rfl,rfl⟩;refine al.dec (λh1=>?_) (λh1=>?_)
 ·have Y:j<lU n:=oM
  obtain⟨K,L,m,rfl,o,_,P⟩:=z.ni (i:=j) Y;rw[Xw,Zx Y]at o;refine⟨K,L,rfl,oM,oM,_,P,_,oM,j+1,oM,an oM,rfl,rfl,?_⟩;have b0:=pd d (j:=j) (m:=7) oM;rw[MM (by
            have:(256:Nat) ^ 7=72057594037927936:=dC
            omega) m.toNat_lt,EI o]
 ·obtain rfl:j=lU n:=oM
  have b0:=pd d (j:=lU n) (m:=8) oM;have b3:(256:Nat) ^ 8=18446744073709551616:=dC
  have b4:(2:Nat) ^ 63=9223372036854775808:=dC
  refine al.ey (λe=>?_) (λe=>?_)<;>rw[a9]at e
  ·have q:¬16<n.toNat:=by intro P;rw[Zx P]at e;cases e
   refine gv (λc=>⟨rfl,?_⟩) (λc=>h (.inr (.inl ⟨q,?_⟩)) _ rfl)
   ·have c:=XV c
    rw[CA w oM (λP=>P.elim V λP=>P.elim (λP=>oM) λP=>q P.1),Zq q];exact⟨.inl ⟨rfl,S,_,rfl,by rw[wrap_i64 cw]⟩,I,J⟩
   ·have c:=Xy c
    omega
  ·have q:16<n.toNat:=by
    by_cases P:16<n.toNat
    ·exact P
    ·rw[Zq P]at e;exact Zz rfl e
   refine gv (λc=>⟨rfl,?_⟩) (λc=>h (.inr (.inr ⟨q,?_⟩)) _ rfl)
   ·have c:=XV c
    rw[CA w oM (λP=>P.elim V λP=>P.elim (λP=>P.1 q) λP=>oM),Zx q];refine⟨.inl ⟨rfl,S,_,rfl,?_⟩,I,J⟩;have e1:PP .i64 (PP .u64 (0-(gM (d.take (lU n)):Int)))= -(gM (d.take (lU n)):Int):=by
     unfold PP;simp[IntKind.signed,IntKind.bits];omega
    rw[e1]
   ·have c:=Xy c
    omega
end Go.Proofs.YtkpomgifkloklabGreatDoor
namespace Go.aw
open Go
def au{n P:Type}[BEq n](b:List (n×P))(a:n):Option P:=match b with
 |[]=>none
 |(c,d)::e=>if a==c then some d else au e a
def aI{n a:Type}[BEq n](e:List (n×a))(P:n)(b:a):List (n×a):=match e with
 |[]=>[(P,b)]
 |(c,f)::d=>if P==c then(P,b)::d else(c,f)::aI d P b
def bQ{n P:Type}[BEq n](d:List (n×P))(a:n):List (n×P):=match d with
 |[]=>[]
 |(b,e)::c=>if a==b then c else(b,e)::bQ c a
variable{f0:Array MapEntry}{a c:Nat}{h:Program}{L j:Type}{f1:TypeDesc}{C c1 f7 g q:TypeId}{f2:TypeInfo}{d1 w:Value}{m t:ac}{b k:World}{z:ba}
def bB[BEq j][LawfulBEq j](d:List (j×L))(P n:j)(f:L):au (aI d P f) n=if n==P then some f else au d n:=by
 induction d with
 |nil=>simp[aI,au]
 |cons g k h=>
  obtain⟨b,l⟩:=g;unfold aI
  by_cases a:P==b
  ·rw[Zx a]
   have e:P=b:=by simpa using a
   subst e;unfold au;split<;>rfl
  ·rw[Zq a]
   unfold au
   by_cases c:n==b
   ·rw[Zx c]
    have e:n=b:=by simpa using c
    subst e;have:(n==P)=false:=by
     cases i:n==P
     ·rfl
     ·exfalso;apply a;have:n=P:=by simpa using i
      simp[this]
    rw[this];simp[au,a]
   ·rw[Zq c];rw[h];simp[au,c]
def Tidy{n P:Type}(a:List (n×P)):Prop:=(a.map (·.1)).Nodup
def SI[BEq j][LawfulBEq j]{P:List (j×L)}{n:j}{c:L}{a:j}:a∈(aI P n c).map (·.1)↔a=n\/a∈P.map (·.1):=by
 induction P with
 |nil=>simp[aI]
 |cons d g e=>
  obtain⟨b,i⟩:=d;unfold aI
  by_cases h:n==b
  ·rw[Zx h]
   have f:n=b:=by simpa using h
   subst f;simp
  ·rw[Zq h]
   simp only[QY,Q2,e];constructor
   ·rintro(h|h|h)<;>simp[h]
   ·rintro(h|h|h)<;>simp[h]
def Tidy.aI{n e:Type}[BEq n][LawfulBEq n]{b:List (n×e)}(P:Tidy b)(c:n)(g:e):Tidy (aI b c g):=by
 unfold Tidy at*
 induction b with
 |nil=>simp[aw.aI]
 |cons h k i=>
  obtain⟨f,l⟩:=h;simp only[QY,List.nodup_cons]at P;unfold aw.aI
  by_cases a:c==f
  ·rw[Zx a]
   have j:c=f:=by simpa using a
   subst j;simpa using P
  ·rw[Zq a]
   simp only[QY,List.nodup_cons];refine⟨λd=>?_,i P.2⟩;rcases SI.1 d with rfl|d
   ·simp at a
   ·exact P.1 d
def SK[BEq j][LawfulBEq j]{P:List (j×L)}{b a:j}(n:a∈(bQ P b).map (·.1)):a∈P.map (·.1):=by
 induction P with
 |nil=>simp[bQ]at n
 |cons c e d=>
  obtain⟨f,g⟩:=c;unfold bQ at n;split at n
  ·simp only[QY,Q2];exact .inr n
  ·simp only[QY,Q2]at n⊢
   rcases n with n|n
   ·exact .inl n
   ·exact .inr (d n)
def Tidy.bQ{n b:Type}[BEq n][LawfulBEq n]{a:List (n×b)}(P:Tidy a)(c:n):Tidy (bQ a c):=by
 unfold Tidy at*
 induction a with
 |nil=>simp[aw.bQ]
 |cons d g e=>
  obtain⟨h,i⟩:=d;simp only[QY,List.nodup_cons]at P;unfold aw.bQ;split
  ·exact P.2
  ·simp only[QY,List.nodup_cons]
   exact⟨λf=>P.1 (SK f),e P.2⟩
def jC[BEq j][LawfulBEq j]{a:List (j×L)}{n:j}:au a n=none↔n∉a.map (·.1):=by
 induction a with
 |nil=>simp[au]
 |cons c f d=>
  obtain⟨b,g⟩:=c;unfold au
  by_cases P:n==b
  ·have e:n=b:=by simpa using P
   rw[Zx P];subst e;simp
  ·rw[Zq P,d]
   have:n≠b:=by rintro rfl;simp at P
   simp[this]
def gh[BEq j][LawfulBEq j]{b:List (j×L)}(g:Tidy b)(P n:j):au (bQ b P) n=if n==P then none else au b n:=by
 induction b with
 |nil=>simp[bQ,au]
 |cons h l i=>
  obtain⟨c,m⟩:=h;have e:=g;simp only[Tidy,QY,List.nodup_cons]at e;unfold bQ
  by_cases d:P==c
  ·rw[Zx d]
   have f:P=c:=by simpa using d
   subst f
   by_cases a:n==P
   ·have:n=P:=by simpa using a
    subst this;simp only[beq_self_eq_true,if_true];exact jC.2 e.1
   ·rw[Zq a]
    simp[au,a]
  ·rw[Zq d]
   unfold au
   by_cases a:n==c
   ·have f:n=c:=by simpa using a
    subst f;have:(n==P)=false:=by
     cases k:n==P
     ·rfl
     ·exfalso;apply d;have:n=P:=by simpa using k
      simp[this]
    simp[this]
   ·rw[Zq a,Zq a];exact i e.2
def cz[BEq j][LawfulBEq j]{P:List (j×L)}{a:j}{b:L}(n:au P a=some b):(a,b)∈P:=by
 induction P with
 |nil=>simp[au]at n
 |cons c h d=>
  obtain⟨e,i⟩:=c;unfold au at n;split at n
  ·rename_i f
   have g:a=e:=by simpa using f
   subst g
   cases n
   simp
  ·exact QJ _ (d n)
def fG[BEq j][LawfulBEq j]{n:List (j×L)}{a:j}{b:L}{P:j×L}(h:P∈aI n a b):P=(a,b)\/P∈n:=by
 induction n with
 |nil=>simpa[aI]using h
 |cons c e d=>
  obtain⟨f,g⟩:=c;unfold aI at h;split at h
  ·rcases Q2.1 h with h|h
   ·exact .inl h
   ·exact .inr (QJ _ h)
  ·rcases Q2.1 h with h|h
   ·exact .inr (h▸QV ..)
   ·rcases d h with h|h
    ·exact .inl h
    ·exact .inr (QJ _ h)
def gK[BEq j][LawfulBEq j]{n:List (j×L)}{a:j}{P:j×L}(h:P∈bQ n a):P∈n:=by
 induction n with
 |nil=>simp[bQ]at h
 |cons b d c=>
  obtain⟨e,f⟩:=b;unfold bQ at h;split at h
  ·exact QJ _ h
  ·rcases Q2.1 h with h|h
   ·exact h▸QV ..
   ·exact QJ _ (c h)
def ri[BEq j][LawfulBEq j]{n:List (j×L)}(a:Tidy n){k:j}{v:L}(b:(k,v)∈n):au n k=some v:=by
 induction n with
 |nil=>cases b
 |cons c g d=>
  obtain⟨e,h⟩:=c;simp only[Tidy,QY,List.nodup_cons]at a;unfold au;rcases Q2.1 b with P|P
  ·cases P;simp
  ·have:k≠e:=by
    intro f;exact a.1 (Xk.2 ⟨(k,v),P,f⟩)
   rw[Zq (by simpa using this)];exact d a.2 P
def yl[BEq j](n:List (j×L))(P:j)(a:L):(aI n P a).length<=n.length+1:=by
 induction n with
 |nil=>simp[aI]
 |cons b c d=>
  unfold aI;split
  ·simp
  ·simp;omega
def Jd[BEq j](n:List (j×L))(P:j):(bQ n P).length<=n.length:=by
 induction n with
 |nil=>simp[bQ]
 |cons a b c=>
  unfold bQ;split
  ·simp
  ·simp;omega
def fL{n P a:Type}(b:P->a->Prop):List (n×P)->List (n×a)->Prop
 |[],[]=>True
 |(c,d)::e,(f,g)::h=>c=f/\b d g/\fL b e h
 |_,_=>False
def fL.keys{a b c:Type}{e:b->c->Prop}:∀{n:List (a×b)} {P:List (a×c)},fL e n P->n.map (·.1)=P.map (·.1)
 |[],[],_=>rfl
 |(f,g)::n,(h,i)::P,d=>by simp[d.1,fL.keys d.2.2]
def fL.mono{d e f:Type}{g h:e->f->Prop}:∀{n:List (d×e)} {P:List (d×f)},fL g n P->(∀a b,g a b->h a b)->fL h n P
 |[],[],_,_=>trivial
 |(j,a)::n,(k,b)::P,c,i=>⟨c.1,i _ _ c.2.1,fL.mono c.2.2 i⟩
def fL.au{P e f:Type}[BEq P]{g:e->f->Prop}(n:P):∀{a:List (P×e)} {b:List (P×f)},fL g a b->
  (aw.au a n=none/\aw.au b n=none)\/∃c d,aw.au a n=some c/\aw.au b n=some d/\g c d
 |[],[],_=>.inl ⟨rfl,rfl⟩
 |(i,c)::a,(m,d)::b,j=>by
  obtain⟨rfl,k,l⟩:=j;unfold aw.au
  by_cases h:n==i
  ·simp only[h,if_true];exact .inr ⟨c,d,rfl,rfl,k⟩
  ·simp only[h];exact fL.au n l
def fL.aI{n P a:Type}[BEq n]{R:P->a->Prop}{b:n}{f:P}{g:a}(c:R f g):∀{d:List (n×P)} {e:List (n×a)},fL R d e->fL R (aw.aI d b f) (aw.aI e b g)
 |[],[],_=>⟨rfl,c,trivial⟩
 |(j,m)::d,(o,p)::e,k=>by
  obtain⟨rfl,l,h⟩:=k;unfold aw.aI
  by_cases i:b==j
  ·simp only[i,if_true];exact⟨rfl,c,h⟩
  ·simp only[i];exact⟨rfl,l,fL.aI c h⟩
def fL.bQ{n c d:Type}[BEq n]{e:c->d->Prop}{P:n}:∀{a:List (n×c)} {b:List (n×d)},fL e a b->fL e (aw.bQ a P) (aw.bQ b P)
 |[],[],_=>trivial
 |(h,k)::a,(l,m)::b,i=>by
  obtain⟨rfl,j,f⟩:=i;unfold aw.bQ
  by_cases g:P==h
  ·simp only[g,if_true];exact f
  ·simp only[g];exact⟨rfl,j,fL.bQ f⟩
def fL.mid{e f i:Type}{g:f->i->Prop}{j:e}{k:f}:∀{h b:List (e×f)} {a:List (e×i)},fL g (h++(j,k)::b) a->∃c P d,a=c++(j,P)::d/\g k P/\fL g (h++b) (c++d)
 |[],b,(l,P)::a,n=>⟨[],P,a,by rw[n.1];rfl,n.2.1,n.2.2⟩
 |(q,r)::h,b,(l,m)::a,n=>by
  obtain⟨c,P,d,rfl,o,p⟩:=fL.mid n.2.2;exact⟨(l,m)::c,P,d,rfl,o,n.1,n.2.1,p⟩
def fL.length{n P a:Type}{d:P->a->Prop}{b:List (n×P)}{c:List (n×a)}(e:fL d b c):b.length=c.length:=by
 have:=Zj List.length e.keys;simpa using this
structure bW {κ:Type} (w:World) (r:Nat) (enc:κ->Value) (l:List (κ×Value)):Prop where
 at':∃es clock,w.heap[r]? =some (.map es clock)/\es.toList.map (λe=>(e.key,e.val))=l.map (λp=>(enc p.1,p.2))/\
  (∀e∈es.toList,e.born<clock)/\(es.toList.map (·.born)).Nodup
 tidy:Tidy l
def bW.keep{S:UL}{P:j->Value}{d:List (j×Value)}(e:bW b a P d)(f:aj S b k)(g:¬S a):bW k a P d:=by
 obtain⟨h,n,i,c⟩:=e.at';exact⟨⟨h,n,f.get i g,c⟩,e.tidy⟩
def bW.af{n:j->Value}{P:List (j×Value)}(c:bW b a n P)(d:ai b k):bW k a n P:=c.keep d id
def bW.lt{n:j->Value}{d:List (j×Value)}(e:bW b a n d):a<b.heap.size:=by
 obtain⟨g,P,f,c⟩:=e.at';exact aA f
def bW.new{n:j->Value}(P:b.heap[a]? =some (.map #[] 0)):bW b a n ([]:List (j×Value)):=
 ⟨⟨_,_,P,rfl,sM,sM⟩,by simp[Tidy]⟩
def m_{n:Type}[BEq n](b:List (n×Value))(P:n)(a:Nat):Option (Nat×Value):=match b with
 |[]=>none
 |(c,d)::e=>if P==c then some (a,d)else m_ e P (a+1)
def Cu{a:Type}[BEq a][LawfulBEq a]{n:a->Value}{g:TypeDesc}(h:∀i j,Instr.sameNow g (n i) (n j)=some (i==j))(b:a):
  ∀(c:List MapEntry) (d:List (a×Value)) (f:Nat),c.map (λe=>(e.key,e.val))=d.map (λk=>(n k.1,k.2))->Instr.findNow g (n b) c f=some (m_ d b f)
 |[],[],_,_=>rfl
 |[],_::_,_,P=>by simp at P
 |_::_,[],_,P=>by simp at P
 |e::c,(l,q)::d,f,P=>by
  simp only[QY,List.cons.injEq,Prod.mk.injEq]at P;obtain⟨⟨m,o⟩,p⟩:=P;unfold Instr.findNow m_;rw[m,h]
  cases r:b==l
  ·simp only[Bool.false_eq_true,if_false]
   exact Cu h b c d (f+1) p
  ·simp[o]
def Hr[BEq j]{n:j->Value}(a:∀b c,Instr.sameNow f1 (n b) (n c)=none)(d:j)(P:MapEntry)(e:List MapEntry)(f:j)(g:P.key=n f)(h:Nat):Instr.findNow f1 (n d) (P::e) h=none:=by
 unfold Instr.findNow;rw[g,a]
def tC{a:Type}[BEq a]{h:Program}{i:TypeId}{n:a->Value}{b:World}(j:∀k l,(Op.equal i (n k) (n l)).run h b= .ok (k==l) b)(c:a):
  ∀(d:List MapEntry) (f:List (a×Value)) (g:Nat),d.map (λe=>(e.key,e.val))=f.map (λm=>(n m.1,m.2))->(Instr.findAsking i (n c) d g).run h b= .ok (m_ f c g) b
 |[],[],_,_=>rfl
 |[],_::_,_,P=>by simp at P
 |_::_,[],_,P=>by simp at P
 |e::d,(o,s)::f,g,P=>by
  simp only[QY,List.cons.injEq,Prod.mk.injEq]at P;obtain⟨⟨p,q⟩,r⟩:=P;unfold Instr.findAsking m_;rw[p];simp only[Sem.run_bind,j,Result.andThen_ok]
  cases t:c==o
  ·simpa using tC j c d f (g+1) r
  ·simp[q]
structure ji {κ:Type} [BEq κ] (P:Program) (kt:TypeId) (enc:κ->Value):Prop where
 find:∀(k:κ) (es:List MapEntry) (l:List (κ×Value)) (w:World),es.map (λe=>(e.key,e.val))=l.map (λp=>(enc p.1,p.2))->(Instr.findKey kt (enc k) es).run P w= .ok (m_ l k 0) w
 check:∀k w e,(Instr.checkKey e 10000 kt (enc k)).run P w= .ok () w
 same:∀n a,Instr.sameBits (n+1) (enc a) (enc a)=true
 inj:∀{a b},enc a=enc b->a=b
def ji.flat[BEq j][LawfulBEq j]{n:j->Value}(l:h.underlying g=some f1)(f:∀P a,Instr.sameNow f1 (n P) (n a)=some (P==a))(m:∀i b c d,(Instr.checkKey d (i+1) g (n b)).run h c= .ok () c)(e:∀i P,Instr.sameBits (i+1) (n P) (n P)=true):ji h g n:=
 ⟨λb o p c q=>by simp[Instr.findKey,run_underlying l,Cu f b o p 0 q],λb c d=>m 9999 b c d,e,λ{P a} d=>by
  have k:=f P a;rw[d,f a a]at k;simpa using k.symm⟩
def ji.struct[BEq j]{n:j->Value}(o:h.underlying g=some f1)(q:∀P a,Instr.sameNow f1 (n P) (n a)=none)(r:∀P a b,(Op.equal g (n P) (n a)).run h b= .ok (P==a) b)(s:∀e b f,(Instr.checkKey f 10000 g (n e)).run h b= .ok () b)(c:∀t P,Instr.sameBits (t+1) (n P) (n P)=true)(l:∀{P a},n P=n a->P=a):ji h g n:=by
 refine⟨λe i d b k=>?_,s,c,l⟩
 cases i with
 |nil=>
  cases d with
  |nil=>simp[Instr.findKey,run_underlying o,Instr.findNow,m_]
  |cons m d=>simp at k
 |cons f i=>
  cases d with
  |nil=>simp at k
  |cons m d=>
   have p:=k;simp only[QY,List.cons.injEq,Prod.mk.injEq]at p;simp only[Instr.findKey,Sem.run_bind,run_underlying o,Result.andThen_ok,Hr q e f i m.1 p.1.1];exact tC (λP a=>r P a b) e (f::i) (m::d) 0 k
def xZ[BEq j][LawfulBEq j](P:List (j×Value))(a:j):∀n,(m_ P a n).map (·.2)=au P a:=by
 induction P with
 |nil=>intro n;rfl
 |cons b d c=>
  intro n;obtain⟨e,f⟩:=b;unfold m_ au;split
  ·rfl
  ·exact c (n+1)
def ki[BEq j][LawfulBEq j]{n:j->Value}(f:ji h g n)(P:j)(a:List MapEntry)(b:List (j×Value))(i:a.map (λd=>(d.key,d.val))=b.map (λe=>(n e.1,e.2)))(c:World):
  (Instr.findKey g (n P) a).run h c= .ok (m_ b P 0) c:=by
 exact f.find P a b c i
def dJ(n:b.heap[a]? =some (.map f0 c)):(getObj a).run h b= .ok (.map f0 c) b:=by
 simp[getObj,Sem.run,n]
def dQ[BEq j][LawfulBEq j]{n:j->Value}(c:ji h g n)(a:Bool)(b:j)(P:World):(Instr.checkKey a 10000 g (n b)).run h P= .ok () P:=by
 exact c.check b P a
def DW(P:h.info? g=some f2)(a:f2.zero=some w)(n:World):(zeroValue g).run h n= .ok w n:=by
 simp[zeroValue,typeInfo,P,a]
structure mK (P:Program) (t kt vt:TypeId) (z:Value):Prop where
 under:P.underlying t=some (.map kt vt)
 zero:(P.info? vt).bind (·.zero)=some z
def mK.NU(b:mK h g q C w)(P:World):(zeroValue C).run h P= .ok w P:=by
 have n:=b.zero
 cases a:h.info? C with
 |none=>rw[a]at n;cases n
 |some c=>rw[a]at n;exact DW a n P
def eL[BEq j][LawfulBEq j]{n:j->Value}(i:mK h g q C w)(k:ji h q n){P:List (j×Value)}(m:bW b a n P)(c:j)(e:Bool):
  (Instr.lookup g (.map (some a)) (n c) e).run h b= .ok (if e then .tuple #[(au P c).getD w,.bool (au P c).isSome]else(au P c).getD w) b:=by
 obtain⟨o,f,p,r,_⟩:=m.at';have s:=ki k c o.toList P r b;have d:=xZ P c 0;simp only[Instr.lookup,Sem.run_bind,run_underlying i.under,Result.andThen_ok,dJ p,dQ k,s,Sem.run_pure]
 cases l:m_ P c 0 with
 |none=>rw[l]at d;simp only[Option.map_none]at d;rw[<-d];cases e<;>simp[i.NU]
 |some t=>rw[l]at d;simp only[Option.map_some]at d;rw[<-d];cases e<;>simp
def Ao[BEq j][LawfulBEq j]{n:j->Value}(d:mK h g q C w)(e:ji h q n){c:List (j×Value)}(f:bW b a n c){P:j}(i:m ((au c P).getD w) b):aJ h (Instr.lookup g (.map (some a)) (n P) false) b m t:=aJ.mk (eL d e f P false) i
def jA[BEq j][LawfulBEq j]{enc:j->Value}(P:mK h g q C w)(c:ji h q enc){n:List (j×Value)}(d:bW b a enc n){k:j}(e:m (.tuple #[(au n k).getD w,.bool (au n k).isSome]) b):aJ h (Instr.lookup g (.map (some a)) (enc k) true) b m t:=aJ.mk (eL P c d k true) e
def aj.setObj(n:World)(P:Nat)(a:Obj):aj (·=P) n {n with heap:=n.heap.setIfInBounds P a}:=
 ⟨rfl,rfl,rfl,sM,λc d b=>by simp[Array.getElem?_setIfInBounds,Ne.symm b]⟩
def ou[BEq j][LawfulBEq j]{a:List (j×Value)}{b:j}:∀{n P:Nat} {e:Value},m_ a b n=some (P,e)->n<=P/\P-n<a.length/\a[P-n]? =some (b,e)/\∀g,aI a b g=a.set (P-n) (b,g)/\bQ a b=a.eraseIdx (P-n):=by
 induction a with
 |nil=>intro n P e c;simp[m_]at c
 |cons l v m=>
  intro n P e c;obtain⟨o,g⟩:=l;unfold m_ at c;split at c
  ·rename_i f
   cases c
   have p:b=o:=by simpa using f
   subst p;simp[aI,bQ]
  ·rename_i f
   obtain⟨w,h,i,k⟩:=m c;obtain⟨d,rfl⟩:∃d,P=n+1+d:=⟨P-(n+1),oM⟩
   have q:n+1+d-n=d+1:=oM
   have r:n+1+d-(n+1)=d:=oM
   rw[r]at h i k;rw[q];refine⟨oM,by simpa using h,by simpa using i,λs=>?_⟩;obtain⟨t,u⟩:=k s;unfold aI bQ;rw[Zq f,Zq f];simp[t,u]
def sr[BEq j][LawfulBEq j]{n:List (j×Value)}{P:j}:∀{b:Nat},m_ n P b=none->(∀c,aI n P c=n++[(P,c)])/\bQ n P=n:=by
 induction n with
 |nil=>intro b _;simp[aI,bQ]
 |cons e i f=>
  intro b a;obtain⟨k,c⟩:=e;unfold m_ at a;split at a
  ·cases a
  ·rename_i d
   obtain⟨g,h⟩:=f a;refine⟨λl=>?_,?_⟩
   ·unfold aI;rw[Zq d,g];rfl
   ·unfold bQ;rw[Zq d,h]
def map_eraseIdx{b c:Type}(a:b->c):∀(n:List b) (P:Nat),(n.eraseIdx P).map a=(n.map a).eraseIdx P
 |[],_=>by simp
 |x::n,0=>rfl
 |x::n,P+1=>by simp[map_eraseIdx a n P]
def cV(n:World)(P:Nat)(a:Obj)(b:P<n.heap.size):({n with heap:=n.heap.setIfInBounds P a}:World).heap[P]? =some a:=by simp[b]
def eM(P:b.heap[a]? =some (.map f0 c))(n:Obj):(setObj a n).run h b= .ok () {b with heap:=b.heap.setIfInBounds a n}:=by
 simp[setObj,Sem.run,P]
def dA[BEq j][LawfulBEq j]{enc:j->Value}(F:mK h g q C w)(s:ji h q enc){o:List (j×Value)}(x:bW b a enc o){k:j}(H:∀t,bW t a enc (aI o k d1)->aj (·=a) b t->t.heap.size=b.heap.size->z t):lM h (Instr.mapUpdate g (.map (some a)) (enc k) d1) b z m:=by
 obtain⟨c,n,p,r,y,I⟩:=x.at';have u:=ki s k c.toList o r b;have N:c.toList.length=o.length:=by have:=Zj List.length r;simpa using this
 have J:=aA p
 cases v:m_ o k 0 with
 |none=>
  rw[v]at u;refine lM.mk (w':={b with heap:=b.heap.setIfInBounds a (.map (c.push {key:=enc k,val:=d1,born:=n}) (n+1))}) ?_ (H _ ⟨⟨_,_,cV b a _ J,?_,?_,?_⟩,x.tidy.aI k d1⟩ (aj.setObj b a _) sM)
  ·simp[Instr.mapUpdate,run_underlying F.under,dJ p,dQ s,u,eM p]
  ·rw[(sr v).1 d1];simp[r]
  ·intro e d
   simp only[Array.toList_push,Q6,List.mem_singleton]at d;rcases d with d|rfl
   ·have:=y e d;omega
   ·show n<n+1;omega
  ·simp only[Array.toList_push,Q3,QY,List.map_nil]
   rw[List.nodup_append];refine⟨I,sM,?_⟩;intro V O W A X;simp only[List.mem_singleton]at A;obtain⟨e,d,rfl⟩:=Xk.1 O;have:=y e d;omega
 |some Q=>
  obtain⟨f,Y⟩:=Q;rw[v]at u;obtain⟨_,K,L,M⟩:=ou v;rw[Nat.sub_zero]at K L M;have B:f<c.size:=by
                 have:c.size=o.length:=by simpa using N
                 omega
  have R:c[f].key=enc k:=by
   have:=Zj (·[f]?) r;simp only[Q9,L,Option.map_some]at this;simp[B]at this;exact this.1
  refine lM.mk (w':={b with heap:=b.heap.setIfInBounds a (.map (c.modify f λe=>{e with key:=enc k,val:=d1}) n)}) ?_ (H _ ⟨⟨_,_,cV b a _ J,?_,?_,?_⟩,x.tidy.aI k d1⟩ (aj.setObj b a _) sM)
  ·have S:(Instr.keyThatStays (enc k) (enc k)).run h b= .ok (enc k) b:=by simp[Instr.keyThatStays,s.same]
   simp[Instr.mapUpdate,run_underlying F.under,dJ p,dQ s,u,B,R,S,eM p]
  ·rw[(M d1).1]
   apply X3;intro i;have P:=Zj (·[i]?) r;simp only[Q9]at P;simp only[Array.toList_modify,Q9,Xj,List.getElem?_modify]
   by_cases l:f=i
   ·subst l
    simp[B,K]
   ·simp only[l,if_false,Option.map_map]at P⊢
    simpa using P
  ·intro e d
   rw[Array.toList_modify]at d;obtain⟨i,P⟩:=List.getElem?_of_mem d;rw[List.getElem?_modify]at P
   cases E:c.toList[i]? with
   |none=>rw[E]at P;simp at P
   |some T=>
    rw[E]at P;have U:=QZ E;have:=y T U
    by_cases l:f=i
    ·simp[l]at P;subst P;exact this
    ·simp[l]at P;subst P;exact this
  ·have:(c.modify f λe=>{e with key:=enc k,val:=d1}).toList.map (·.born)=c.toList.map (·.born):=by
    apply X3;intro i;simp only[Array.toList_modify,Q9,List.getElem?_modify,Option.map_map]
    by_cases l:f=i<;>simp[l]<;>rfl
   rw[this];exact I
def L_[BEq j][LawfulBEq j]{c:j->Value}(v:mK h g q C w)(r:ji h q c){e:List (j×Value)}(s:bW b a c e){f:j}(x:∀k,bW k a c (bQ e f)->aj (·=a) b k->k.heap.size=b.heap.size->m (.tuple #[]) k):aJ h (Builtin.delete_ #[g,c1] f7 #[.map (some a),c f]) b m t:=by
 obtain⟨n,P,i,l,y,z⟩:=s.at';have o:=ki r f n.toList e l b;have F:n.toList.length=e.length:=by have:=Zj List.length l;simpa using this
 have A:=aA i
 cases p:m_ e f 0 with
 |none=>
  rw[p]at o;refine aJ.mk (w':={b with heap:=b.heap.setIfInBounds a (.map n P)}) ?_ (x _ ⟨⟨_,_,cV b a _ A,?_,y,z⟩,s.tidy.bQ f⟩ (aj.setObj b a _) sM)
  ·simp[Builtin.delete_,run_underlying v.under,dJ i,dQ r,o,eM i]
  ·rw[(sr p).2];exact l
 |some H=>
  obtain⟨d,I⟩:=H;rw[p]at o;obtain⟨_,J,K,B⟩:=ou p;rw[Nat.sub_zero]at J K B;have u:d<n.size:=by
                 have:n.size=e.length:=by simpa using F
                 omega
  refine aJ.mk (w':={b with heap:=b.heap.setIfInBounds a (.map (n.eraseIdxIfInBounds d) P)}) ?_ (x _ ⟨⟨_,_,cV b a _ A,?_,?_,?_⟩,s.tidy.bQ f⟩ (aj.setObj b a _) sM)
  ·simp[Builtin.delete_,run_underlying v.under,dJ i,dQ r,o,eM i]
  ·rw[(B I).2]
   have:(n.eraseIdxIfInBounds d).toList=n.toList.eraseIdx d:=by simp[Array.eraseIdxIfInBounds,u]
   rw[this,map_eraseIdx,l,map_eraseIdx]
  ·intro L E
   have:(n.eraseIdxIfInBounds d).toList=n.toList.eraseIdx d:=by simp[Array.eraseIdxIfInBounds,u]
   rw[this]at E;exact y L (List.mem_of_mem_eraseIdx E)
  ·have:(n.eraseIdxIfInBounds d).toList=n.toList.eraseIdx d:=by simp[Array.eraseIdxIfInBounds,u]
   rw[this,map_eraseIdx];exact z.sublist (List.eraseIdx_sublist _ _)
def JL[BEq j][LawfulBEq j]{P:j->Value}(e:mK h g q C w){f:List (j×Value)}(i:bW b a P f)(k:∀c,bW c a P ([]:List (j×Value))->aj (·=a) b c->c.heap.size=b.heap.size->m (.tuple #[]) c):aJ h (Builtin.clear_ #[g] c1 #[.map (some a)]) b m t:=by
 obtain⟨o,n,d,p,r,s⟩:=i.at';have l:=aA d;refine aJ.mk (w':={b with heap:=b.heap.setIfInBounds a (.map #[] n)}) ?_ (k _ ⟨⟨_,_,cV b a _ l,rfl,sM,sM⟩,by simp[Tidy]⟩ (aj.setObj b a _) sM);simp[Builtin.clear_,run_underlying e.under,dJ d,eM d]
def Xh(n:h.underlying g=some (.int .i64)):ji h g (Value.int .i64):=
 ji.flat n (λP b=>by simp[Instr.sameNow]) (λa c d e=>by simp[Instr.checkKey,run_underlying n]) λa P=>by simp[Instr.sameBits]

import Derived.Test.YtjgjkeponbeekaaGreatDoorYjCode
import Derived.Maps.AppendAt
import Derived.Below
import Derived.Laws.Strings
import Derived.Laws.OwnMore
import Derived.Laws.MakeOwn
import Derived.Lib.BitFns
import Derived.Lib.ItoaNum
import Derived.Shelf.SlIter.Nil
import Derived.Shelf.SlIterI.Nil
import Derived.Shelf.SortM.Plain
import Derived.Shelf.SortM.SortNone
import Derived.Shelf.Strconv.Itoa3
import Derived.Shelf.Small.Strs
import Derived.Ground.GgzProg
import Derived.Ground.SlgmProg
import Derived.Ground.NamesProg
import Derived.Test.YtjgjkeponbeekaaGreatDoorProg
import Derived.Laws.CopyRow
import Derived.Laws.IdiomCopy
set_option maxHeartbeats 4000000
set_option linter.all false
set_option maxRecDepth 100000
open Go.IntKind renaming wrap→PP
namespace Go.Proofs.YtjgjkeponbeekaaGreatDoor
open Go.aw
def BF:lA:=⟨[(2,[(5,WP 0),(6,WP 0)])],[],[],[],[]⟩
variable{Y m:Array Value}{A:am}{z:FuncId}{e:Int}{a c:Nat}{d:bc}{b:World}
def BG(k:(∃d:Nat->Int->Int->ba,(∃a,d a 0 e b)/\∀(a:Nat) (n:Int) (P:Int) (o:Nat->Value) (f:World),d a n P f->al (decide (n<P)) ((∃g h i,(.func (.func z) m Y:Value)= .func (.func g) h i/\enters LL g=true/\PC_ g (h++ #[.ii (PP .i64 (kH .u64 (PP .u64 (PP .i64 (n+P))) 1))]++i) f (kB λl j=>al (!l) ((∃c,c<a/\d c (PP .i64 ((PP .i64 (kH .u64 (PP .u64 (PP .i64 (n+P))) 1))+1)) P j)) ((∃c,c<a/\d c n (PP .i64 (kH .u64 (PP .u64 (PP .i64 (n+P))) 1)) j))) (pE A))) (rt A ((.ii n)) f))):be 150 #[.ii e,.func (.func z) m Y] b A:=DC BF Tryz.func150 rfl k
def DQ:lA:=⟨[],[],[],[],[]⟩
def DS(n:((0:Int)<=(if(a:Int)<(if 0>e then 0 else e)then(a:Int)else(if 0>e then 0 else e))/\((if(a:Int)<(if 0>e then 0 else e)then(a:Int)else(if 0>e then 0 else e)):Int)<=(if(a:Int)<(if 0>e then 0 else e)then(a:Int)else(if 0>e then 0 else e))/\((if(a:Int)<(if 0>e then 0 else e)then(a:Int)else(if 0>e then 0 else e)):Int)<=(c:Int)/\PC_ 215 #[.slice d (Int.toNat (if(a:Int)<(if 0>e then 0 else e)then(a:Int)else(if 0>e then 0 else e))) (Int.toNat (if(a:Int)<(if 0>e then 0 else e)then(a:Int)else(if 0>e then 0 else e)))] b (kS_ λP f g h=>rt A ((.tuple #[.slice P f g,.bool (decide (((if(a:Int)<(if 0>e then 0 else e)then(a:Int)else(if 0>e then 0 else e)):Int)<(a:Int)))])) h) (pE A))):be 152 #[.slice d a c,.ii e] b A:=DC DQ Tryz.func152 rfl n
def jO:lA:=⟨[(3,[(7,WP 0),(8,WP 0)])],[],[],[],[]⟩
def jF(l:(∃i:Nat->Int->Int->ba,(∃g,i g 0 (a:Int) b)/\∀(g:Nat) (n:Int) (P:Int) (B:Nat->Value) (f:World),i g n P f->al (decide (n<P)) ((dr d λm o=>(0:Int)<=(PP .i64 (kH .u64 (PP .u64 (PP .i64 (n+P))) 1))/\(PP .i64 (kH .u64 (PP .u64 (PP .i64 (n+P))) 1))<(a:Int)/\(rI f (ad m (o+Int.toNat (PP .i64 (kH .u64 (PP .u64 (PP .i64 (n+P))) 1)))) λp=>PC_ 337 #[.ii p,.ii e] f (kB λq j=>al q ((∃h,h<g/\i h (PP .i64 ((PP .i64 (kH .u64 (PP .u64 (PP .i64 (n+P))) 1))+1)) P j)) ((∃h,h<g/\i h n (PP .i64 (kH .u64 (PP .u64 (PP .i64 (n+P))) 1)) j))) (pE A)))) (al (decide (n<(a:Int))) ((ix_ d n a λr s=>(rI f (ad r (s+Int.toNat n)) λt=>al (t==e) (rt A ((.tuple #[.ii n,.bool true])) f) ((ix_ d n a λu v=>(rI f (ad u (v+Int.toNat n)) λw=>PC_ 341 #[.ii w] f (kB λx k=>al x (PC_ 341 #[.ii e] k (kB λy z=>rt A ((.tuple #[.ii n,.bool y])) z) (pE A)) (rt A ((.tuple #[.ii n,.bool false])) k)) (pE A))))))) (rt A ((.tuple #[.ii n,.bool false])) f)))):be 311 #[.slice d a c,.ii e] b A:=DC jO Tryz.func311 rfl l
def ns:lA:=⟨[],[(3,[])],[],[],[]⟩
def nu(l:(∃f:ba,(al (decide ((e:Int)<0)) (aK LL (Instr.panic (.iface 9 (.string (⟨#[99,97,110,110,111,116,32,98,101,32,110,101,103,97,116,105,118,101]⟩:ByteArray)))) b (λu m=>
   f m) (λn b=>A (.panicked [{v:=n,recovered:=false}]) b)) (f b))/\∀(v:Nat->Value) (i:World),f i->aK LL (Builtin.cap_ #[237] 3 #[.slice d a c]) i (λo j=>
   ∃(g:Int),o= WP g/\al (decide (((PP .i64 (e-(PP .i64 (g-((a:Nat):Int))))):Int)>0)) (aK LL (Builtin.cap_ #[237] 3 #[.slice d a c]) j (λp q=>
   ∃(P:Int),p= WP P/\((0:Int)<=P/\(P:Int)<=((c:Nat):Int)/\aK LL (Builtin.append_ #[237,3] 237 #[.slice d (Int.toNat P) c,WP (PP .i64 (e-(PP .i64 (g-((a:Nat):Int)))))]) q (λr s=>
   ∃(k:bc) (t:Nat) (h:Nat),r= .slice k t h/\((0:Int)<=((a:Nat):Int)/\(((a:Nat):Int):Int)<=((h:Nat):Int)/\
   A (.returned (.slice k (Int.toNat ((a:Nat):Int)) h)) s)) (λn b=>A (.panicked [{v:=n,recovered:=false}]) b))) (λn b=>A (.panicked [{v:=n,recovered:=false}]) b)) (A (.returned (.slice d a c)) j)) (λn b=>
   A (.panicked [{v:=n,recovered:=false}]) b))):
  be 328 #[.slice d a c,WP e] b A:=
 sw ns mixed Tryz.func328 rfl (Zv kR) kR (Eq.mp kR l)
def lN:lA:=⟨[(3,[(3,WP 0),(11,WP 0)]),(11,[(6,.slice none 0 0),(27,WP 0)])],[],[],[],[]⟩
def lO(J:(∃l:Nat->Int->Int->ba,(∃h,l h 0 0 b)/\∀(h:Nat) (i:Int) (f:Int) (T:Nat->Value) (j:World),l h i f j->al (decide ((f:Int)<((a:Nat):Int))) ((∃s t,d=some ⟨s,t,none⟩/\
   (0:Int)<=f/\f<((a:Nat):Int)/\(∃(K:bc) (m:Nat) (L:Nat),j.cell? ⟨s,t+Int.toNat f,none⟩=some (.slice K m L)/\
   al (decide (((PP .i64 (i+((m:Nat):Int))):Int)<0)) (aK LL (Instr.panic (.iface 9 (.string (⟨#[108,101,110,32,111,117,116,32,111,102,32,114,97,110,103,101]⟩:ByteArray)))) j (λU M=>
   (∃k,k<h/\l k (PP .i64 (i+((m:Nat):Int))) (PP .i64 (f+1)) M)) (λq b=>A (.panicked [{v:=q,recovered:=false}]) b)) ((∃k,k<h/\
   l k (PP .i64 (i+((m:Nat):Int))) (PP .i64 (f+1)) j))))) (PC LL 328 #[.slice none 0 0,WP i] j (λN O=>
   ∃(u:bc) (v:Nat) (w:Nat),N= .slice u v w/\(∃r:Nat->bc->Nat->Nat->Int->ba,(∃o,r o u v w 0 O)/\
   ∀(o:Nat) (n:bc) (P:Nat) (e:Nat) (g:Int) (V:Nat->Value) (p:World),r o n P e g p->al (decide ((g:Int)<((a:Nat):Int))) ((∃x y,d=some ⟨x,y,none⟩/\
   (0:Int)<=g/\g<((a:Nat):Int)/\(∃(z:bc) (B:Nat) (C:Nat),p.cell? ⟨x,y+Int.toNat g,none⟩=some (.slice z B C)/\
   aK LL (Builtin.append_ #[237,237] 237 #[.slice n P e,.slice z B C]) p (λQ R=>∃(E:bc) (F:Nat) (H:Nat),Q= .slice E F H/\
   (∃I,I<o/\r I E F H (PP .i64 (g+1)) R)) (λq b=>A (.panicked [{v:=q,recovered:=false}]) b)))) (A (.returned (.slice n P e)) p))) (λS b=>
   A (.panicked S) b)))):
  be 294 #[.slice d a c] b A:=
 sw lN mixed Tryz.func294 rfl (Zv kR) kR (Eq.mp kR J)
end Go.Proofs.YtjgjkeponbeekaaGreatDoor
namespace Go.aw
open Go
abbrev ai(n P:World):Prop:=aj (λ_=>False) n P
variable{d0:Addr}{e8:Array MapEntry}{m:Array Value}{z:FuncId}{e:Int}{s:List Int}{a5:List PanicEntry->ba}{E a c i q:Nat}{Z f g8:UK}{C:Nat×Nat}{c8:Obj}{X a1:Operand}{d:bc}{c9:Option Nat}{h:Program}{B g p:TypeId}{o t:ac}{a6 b k:World}{y:ba}
def aj.refl(n:World):aj f n n:=⟨rfl,rfl,rfl,Q4 _,λ_ _ _=>rfl⟩
def aj.trans(P:aj Z b k)(n:aj g8 k a6)(g:∀n,n<b.heap.size->Z n->f n)(h:∀n,n<b.heap.size->g8 n->f n):aj f b a6:=
 ⟨n.os.trans P.os,n.tape.trans P.tape,n.output.trans P.output,Xx P.size n.size,λa c e=>
  (n.block a (Qk c P.size) (λd=>e (h a c d))).trans (P.block a c (λd=>e (g a c d)))⟩
def aj.mono(P:aj f b k)(c:∀n,n<b.heap.size->f n->Z n):aj Z b k:=
 ⟨P.os,P.tape,P.output,P.size,λn a d=>P.block n a λe=>d (c n a e)⟩
def aj.then(n:aj f b k)(P:aj f k a6):aj f b a6:=n.trans P (λ_ _ n=>n) (λ_ _ n=>n)
def aj.new(P:aj f b k)(n:aj Z k a6)(a:∀n,Z n->f n\/b.heap.size<=n):aj f b a6:=
 P.trans n (λ_ _ P=>P) (λc e d=>(a c d).resolve_right oM)
def aj.af(n:aj f b k)(P:ai k a6):aj f b a6:=n.trans P (λ_ _ n=>n) (λ_ _ n=>n.elim)
def ai.keep{S:UK}(n:ai b k):aj S b k:=n.mono λ_ _ n=>n.elim
def aj.alloc{b:UK}(n:World)(P:Obj):aj b n (n.alloc P):=
 ⟨rfl,rfl,rfl,sM,λc a _=>by first|exact heap_alloc_old n P c a|exact heap_alloc_old n P a⟩
def aj.drewN{S:UK}(n:World)(P:Nat):aj S n (n.drewN P):=⟨rfl,rfl,rfl,Q4 _,λ_ _ _=>rfl⟩
def cf.keep{S:UK}(n:cf b k):aj S b k:=by obtain⟨P,rfl⟩:=n;exact aj.drewN b P
def cf.heap(n:cf b k):k.heap=b.heap:=by obtain⟨P,rfl⟩:=n;rfl
def aj.setCell(n:World)(P:Addr)(a:Value)(b:f P.block):aj f n (n.setCell P a):=
 ⟨rfl,rfl,rfl,by simp[World.setCell],λd _ c=>by
  simp only[World.setCell,Array.getElem?_modify];rw[Zq (by rintro rfl;exact c b)]⟩
def aj.below(n:ai b k):RowKit.Below b.heap.size b k:=⟨n.os,n.tape,n.output,n.size,λP a=>n.block P a (λn=>n)⟩
def aj.HZ(n:RowKit.Below b.heap.size b k):ai b k:=⟨n.os,n.tape,n.output,n.size,λP a _=>n.block P a⟩
def aj.of_grownBy(n:b.grownBy k c9):aj (λP=>some P=c9) b k:=⟨n.os,n.tape,n.output,n.size,λP a c=>n.block P a c⟩
def aj.cell(n:aj f b k){a:Addr}(P:a.block<b.heap.size)(j:¬f a.block):k.cell? a=b.cell? a:=
 World.cell?_of_block (w:=b) (n.block a.block P j)
def aj.get(P:aj f b k)(n:b.heap[a]? =some c8)(c:¬f a):k.heap[a]? =some c8:=by
 rw[P.block a (Q5.1 n).1 c];exact n
def aA(n:b.heap[a]? =some c8):a<b.heap.size:=(Q5.1 n).1
def ae{cs:Array Value}(n:b.heap[a]? =some (Obj.cells cs g C)){off:Nat}{v:Value}(P:cs[off]? =some v):
  b.cell? ⟨a,off,none⟩=some v:=by simp[World.cell?,n,P]
def PA.mk(P:∀n,ai b n->n.heap.size=b.heap.size+1->n.heap[b.heap.size]? =some c8->y n):PA b c8 y:=
 P (b.alloc c8) (aj.alloc b c8) sM (heap_alloc_new b c8)
def PS.mk{v:Value}{cs:Array Value}(P:b.heap[a]? =some (.cells cs g (0,0)))(d:c<cs.size)(e:∀n,aj (·=a) b n->n.heap.size=b.heap.size->n.heap[a]? =some (.cells (cs.setIfInBounds c v) g (0,0))->y n):PS b ⟨a,c,none⟩ v y:=by
 refine⟨⟨cs[c],ae P (by simp[d])⟩,by simp[World.frozen?,P],e _ (aj.setCell b _ v rfl) (by simp[World.setCell]) ?_⟩;simp[World.setCell,Array.getElem?_modify,P]
def Ok(P:ac):am:=λa b=>∃n,a= .returned n/\P n b
def Ok.mk{v:Value}(n:o v b):Ok o (.returned v) b:=⟨v,rfl,n⟩
def PC.ok{φ a:ac}(c:Calls h z m b (Ok φ))(d:∀n P,φ n P->a n P):PC h z m b a a5:=
 c.mono λg P ⟨n,e,f⟩=>by subst e;exact d n P f
def Calls.ok{φ a:ac}(c:Calls h z m b (Ok φ))(d:∀n P,φ n P->a n P):Calls h z m b (Ok a):=
 c.mono λg P ⟨n,e,f⟩=>⟨n,e,d n P f⟩
def aM(n:Int):Prop:= -9223372036854775808<=n/\n<=9223372036854775807
theorem cw{p:Prop}(h:p:=by unfold aM;omega):p:=h
def wrap_i64{x:Int}(n:aM x):PP .i64 x=x:=by
 unfold aM at n;unfold PP;simp[IntKind.signed,IntKind.bits];omega
def aR:Nat:=140737488355328
theorem ce{p:Prop}(h:p:=by unfold aR;omega):p:=h
structure Ints (w:World) (a:bc) (n:Nat) (xs:List Int):Prop where
 len:n=xs.length
 fh:n*8<=aR
 Ar:∀x∈xs,aM x
 cell:∀(i:Nat) x,xs[i]? =some x->∃b off,a=some ⟨b,off,none⟩/\b<w.heap.size/\w.cell? ⟨b,off+i,none⟩=some (WP x)
def pR(P:UK)(a:bc):Prop:=∀n,a=some n->¬P n.block
def pR.none:pR f Option.none:=λ_ n=>by cases n
def Ints.keep{S:UK}{a:bc}{d:Nat}(P:Ints b a d s)(e:aj S b k)(h:pR S a):Ints k a d s:=
 ⟨P.len,P.fh,P.Ar,λf i j=>by
  obtain⟨c,n,rfl,g,l⟩:=P.cell f i j;exact⟨c,n,rfl,Qk g e.size,(e.cell (a:=⟨c,n+f,none⟩) g (h ⟨c,n,none⟩ rfl)).trans l⟩⟩
def Ints.af(n:Ints b d a s)(P:ai b k):Ints k d a s:=n.keep P λ_ _ n=>n
def Ints.nil(n:World):Ints n none 0 []:=⟨rfl,by simp[aR],sM,λa b P=>by simp at P⟩
def Ints.at(c:Ints b d a s){i:Int}(j:0<=i)(k:i<(a:Int)):
  ∃P n x,d=some ⟨P,n,none⟩/\P<b.heap.size/\s[i.toNat]? =some x/\aM x/\b.cell? ⟨P,n+i.toNat,none⟩=some (WP x):=by
 have l:=c.len;have e:i.toNat<s.length:=oM
 obtain⟨P,n,f,g,h⟩:=c.cell i.toNat s[i.toNat] (by simp[e]);exact⟨P,n,_,f,g,by simp[e],c.Ar _ (XY e),h⟩
def aG:bc->Option Nat
 |none=>none
 |some n=>some n.block
def Ints.H_(n:Ints b d a s)(c:aj f b k)(e:s≠[]->pR f d):Ints k d a s:=by
 by_cases P:s=[]
 ·subst P;exact⟨n.len,n.fh,n.Ar,λh i g=>by simp at g⟩
 ·exact n.keep c (e P)
def dy:pR f d↔∀n,aG d=some n->¬f n:=by
 cases d with
 |none=>simp[pR,aG]
 |some d=>simp[pR,aG]
structure Own (w:World) (e:TypeId) (k:Nat) (a:bc) (n c:Nat) (cs:List Value):Prop where
 row:w.ownsRow 0 e k (.slice a n c) n cs
def Own.nil(n:World)(e:TypeId)(P:Nat):Own n e P none 0 0 []:=⟨World.ownsRow_nil n 0 e P⟩
def Own.length{cs:List Value}(n:Own b g a d c i cs):cs.length=c*a:=n.row.1
def Own.cases{cs:List Value}(f:Own b g a d c i cs):
  (d=none/\c=0/\i=0/\cs=[])\/
  ∃e n,d=UV e/\b.heap[e]? =some (.cells n g (0,0))/\c<=i/\n.size=i*a/\n.toList.take (c*a)=cs:=by
 rcases f.row.2 with⟨P,o⟩|⟨e,h,n,P,_,j,k,_,l,m⟩
 ·simp only[XX]at P
  obtain⟨rfl,rfl,rfl⟩:=P;exact .inl ⟨rfl,rfl,rfl,QW (by simpa using f.row.1)⟩
 ·simp only[XX]at P
  obtain⟨rfl,-,rfl⟩:=P;exact .inr ⟨e,n,rfl,j,k,l,m⟩
def Own.keep{S:UK}{cs:List Value}(h:Own b g a d c i cs)(j:aj S b k)(l:pR S d):Own k g a d c i cs:=by
 refine⟨⟨h.row.1,?_⟩⟩;rcases h.row.2 with m|⟨o,P,e,f,p,q,n⟩
 ·exact .inl m
 ·refine .inr ⟨o,P,e,f,p,j.get q ?_,n⟩
  simp only[XX]at f;exact l _ f.1
def Own.af{cs:List Value}(n:Own b g a d c i cs)(P:ai b k):Own k g a d c i cs:=n.keep P λ_ _ n=>n
def Own.lt{cs:List Value}(P:Own b g a d c i cs)(n:aG d=some q):q<b.heap.size:=by
 rcases P.cases with⟨rfl,_⟩|⟨h,e,rfl,f,_⟩
 ·cases n
 ·simp only[aG,Q1]at n
  subst n;exact aA f
def Own.cell{b:World}{d:TypeId}{e:Nat}{a:bc}{f g:Nat}{cs:List Value}(h:Own b d e a f g cs){j:Nat}{u:Value}(n:cs[j]? =some u):
  ∃P,a=UV P/\P<b.heap.size/\b.cell? ⟨P,j,none⟩=some u:=by
 rcases h.cases with⟨_,_,_,rfl⟩|⟨P,i,rfl,c,_,_,k⟩
 ·simp at n
 ·refine⟨P,rfl,aA c,ae c ?_⟩
  rw[<-k,Xw]at n;split at n
  ·simpa using n
  ·cases n
def Own.AQ{cur:Array Value}(P:b.heap[c]? =some (.cells cur g (0,0)))(n:cur.size=i*a)(d:i<=maxLen):
  Own b g a (UV c) i i cur.toList:=
 ⟨⟨by simpa using n,.inr ⟨c,i,cur,rfl,Qj _,P,Q4 _,d,n,by rw[Qz];simp[n]⟩⟩⟩
structure kD (P:Program) (t e:TypeId) (k bytes:Nat):Prop where
 under:P.underlying t=some (.slice e)
 row:(P.info? e).map (λi=>(i.zero.map λz=>z.cells.size,i.size,i.bytes))=some (some k,k,bytes)
 pos:0<k
def kD.info{b:Program}{g c:TypeId}{d bytes:Nat}(h:kD b g c d bytes):∃P a,b.info? c=some P/\P.zero=some a/\P.size=d/\P.bytes=bytes/\a.cells.size=d:=by
 have n:=h.row
 cases f:b.info? c with
 |none=>rw[f]at n;cases n
 |some P=>
  rw[f]at n;simp only[Option.map_some,Q1,Prod.mk.injEq]at n
  cases e:P.zero with
  |none=>rw[e]at n;cases n.1
  |some a=>
   rw[e]at n;exact⟨P,a,rfl,e,n.2.1,n.2.2,by simpa using n.1⟩
def Ng{P:Program}{f bytes:Nat}(l:kD P g p f bytes){m news:List Value}(x:Own b p f d a c m)(y:∀j k,news[j]? =some k->b.cell? (d0.add j)=some k)(z:news.length=i*f)(A:∀k∈news,k.oneCell'=true)(C:(a+i)*bytes<=aR)(E:a+i<=maxLen)(F:∀n e h,Own h p f n (a+i) e (m++news)->aj (λj=>some j=aG d) b h->(aG n=aG d\/aG n=some b.heap.size)->o (.slice n (a+i) e) h):
  aK P (Builtin.append_ #[g,g] B #[.slice d a c,.slice (some d0) i q]) b o t:=by
 obtain⟨H,I,J,K,L,M,N⟩:=kD.info l;obtain⟨O,h,Q,r,s,U,u⟩:=run_append_own_at (P:=P) b 0 g B p H I f bytes l.under J K L M N l.pos (.slice d a c) a m x.row
  d0 i q news z y A E C (Qj _)
 have R:∀(d:bc) a c,(Value.slice d a c).ownBlock=aG d:=λd a c=>by cases d<;>rfl
 have S:∃n e,O= .slice n (a+i) e:=by
  rcases r.2 with⟨rfl,T⟩|⟨V,v,w,rfl,_⟩
  ·exact⟨none,0,by rw[T]⟩
  ·exact⟨_,_,rfl⟩
 obtain⟨n,e,rfl⟩:=S;simp only[R]at s u;exact aK.mk Q (F n e h ⟨r⟩ (aj.of_grownBy s) u)
def As{n bytes:Nat}(s:kD h g p n bytes){j news:List Value}(u:Own b p n d a c j)(v:b.heap[i]? =some (.cells m p C))(w:m.toList.take (q*n)=news)(x:news.length=q*n)(y:∀k∈news,k.oneCell'=true)(z:(a+q)*bytes<=aR)(A:a+q<=maxLen)(F:∀P l f,Own f p n P (a+q) l (j++news)->aj (λr=>some r=aG d) b f->(aG P=aG d\/aG P=some b.heap.size)->o (.slice P (a+q) l) f):
  aK h (Builtin.append_ #[g,g] B #[.slice d a c,.slice (UV i) q E]) b o t:=by
 exact Ng s u (λr k e=>by
   rw[Addr.add_lit,Xz];refine ae v ?_;rw[<-w,Xw]at e;split at e
   ·simpa using e
   ·cases e) x y z A F
def ints(n:List Int):List Value:=n.map (Value.int .i64)
def j_(n:List Int):(ints n).length=n.length:=by simp[ints]
def Own.ints(P:Own b g 1 d a c (ints s))(f:a*8<=aR)(h:∀n∈s,aM n):Ints b d a s:=by
 have e:=P.length;rw[j_,Nat.mul_one]at e;refine⟨e.symm,f,h,λi n j=>?_⟩;obtain⟨k,l,m,o⟩:=P.cell (j:=i) (u:=WP n) (by simp[aw.ints,j]);exact⟨k,0,l,m,by rw[Xz];exact o⟩
def Nh(k:kD h g p 1 8)(l:Own b p 1 d a c (ints s))(m:b.heap[i]? =some (.cells #[WP e] p (0,0)))(j:(a+1)*8<=aR)(q:∀n f P,Own P p 1 n (a+1) f (ints (s++[e]))->aj (λr=>some r=aG d) b P->(aG n=aG d\/aG n=some b.heap.size)->o (.slice n (a+1) f) P):
  aK h (Builtin.append_ #[g,g] B #[.slice d a c,.slice (UV i) 1 1]) b o t:=
 As k (news:=[WP e]) l m sM sM (by simp[Value.oneCell']) j (by unfold aR at j;unfold maxLen;omega)
  λn f P u v w=>q n f P (by simpa[ints]using u) v w
def Dp(a:h.underlying g=some (.slice p))(b:Nat)(n:bc)(c d:Nat)(P:World):
  (Op.equalIn (b+1) g (.slice n c d) (.slice none 0 0)).run h P= .ok n.isNone P:=by
 cases n<;>simp[Op.equalIn,run_underlying a]
def yr(a:h.underlying g=some (.pointer p))(b:Nat)(n:bc)(P:World):
  (Op.equalIn (b+1) g (.pointer n) (.pointer none)).run h P= .ok n.isNone P:=by
 cases n<;>simp[Op.equalIn,run_underlying a]
def lg(n:h.underlying g=some (.slice p))(P:o (.bool d.isNone) b):
  aK h (do eqGuard .eql g X a1 (.slice d a c) (.slice none 0 0);binOp .eql g (.slice d a c) (.slice none 0 0)) b o t:=by
 refine aK.mk (v:=.bool d.isNone) ?_ P;have e:(do eqGuard .eql g X a1 (.slice d a c) (.slice none 0 0);binOp .eql g (.slice d a c) (.slice none 0 0):Sem Value).run h b=
  ((Op.equalIn (9999+1) g (.slice d a c) (.slice none 0 0))>>=λf=>(pure (Value.bool f):Sem Value)).run h b:=rfl
 rw[e,Sem.run_bind,Dp n]
 rfl
def ic(n:h.underlying g=some (.pointer p))(P:o (.bool d.isNone) b):
  aK h (do eqGuard .eql g X a1 (.pointer d) (.pointer none);binOp .eql g (.pointer d) (.pointer none)) b o t:=by
 refine aK.mk (v:=.bool d.isNone) ?_ P;have a:(do eqGuard .eql g X a1 (.pointer d) (.pointer none);binOp .eql g (.pointer d) (.pointer none):Sem Value).run h b=
  ((Op.equalIn (9999+1) g (.pointer d) (.pointer none))>>=λc=>(pure (Value.bool c):Sem Value)).run h b:=rfl
 rw[a,Sem.run_bind,yr n]
 rfl
def qI(c:h.underlying g=some (.pointer p))(a b:Operand)(n:bc)(P:World):
  (do eqGuard .neq g a b (.pointer n) (.pointer none);binOp .neq g (.pointer n) (.pointer none):Sem Value).run h P= .ok (.bool n.isSome) P:=by
 have d:(do eqGuard .neq g a b (.pointer n) (.pointer none);binOp .neq g (.pointer n) (.pointer none):Sem Value).run h P=
  ((Op.equalIn (9999+1) g (.pointer n) (.pointer none))>>=λe=>(pure (Value.bool !e):Sem Value)).run h P:=rfl
 rw[d,Sem.run_bind,yr c]
 cases n<;>rfl
def AR(n:h.underlying g=some (.pointer p))(P:o (.bool d.isSome) b):
  aK h (do eqGuard .neq g X a1 (.pointer d) (.pointer none);binOp .neq g (.pointer d) (.pointer none)) b o t:=aK.mk (qI n X a1 d b) P
def Own.VR{cs:List Value}(e:Own b g a d c i cs)(P:b.heap[q]? =some (.map e8 E)):aG d≠some q:=by
 intro n;rcases e.cases with⟨rfl,_⟩|⟨j,f,rfl,h,_⟩
 ·cases n
 ·simp only[aG,Q1]at n
  subst n;rw[h]at P;cases P
structure cz (F:UK) (w:World) (F':UK) (w':World):Prop where
 keep:aj F w w'
 new:∀b,F' b->F b\/w.heap.size<=b
def cz.refl(P:UK)(n:World):cz P n P n:=⟨aj.refl n,λ_ a=>.inl a⟩
def cz.trans{b G c:UK}{d e f:World}(n:cz b d G e)(g:cz G e c f):cz b d c f:=
 ⟨n.keep.trans g.keep (λ_ _ n=>n) (λP h i=>(n.new P i).resolve_right oM),λP h=>by
  rcases g.new P h with a|a
  ·exact n.new P a
  ·exact .inr (Xx n.keep.size a)⟩
def cz.last(P:cz f b Z k)(a:aj g8 k a6)(c:∀n,g8 n->b.heap.size<=n):cz f b Z a6:=⟨P.keep.new a λn d=>.inr (c n d),P.new⟩
def cz.af(n:cz f b Z k)(P:ai k a6):cz f b Z a6:=⟨n.keep.then (ai.keep P),n.new⟩
def cz.of(n:ai b k):cz f b f k:=⟨ai.keep n,λa P=>.inl P⟩
end Go.aw
namespace Go.aw
open Go
variable{d0:Addr}{m:Array Value}{K:Bool}{c6 w:ByteArray}{e r:Int}{a4:List Value}{a c i q:Nat}{f:UK}{C:Nat×Nat}{d x:bc}{h:Program}{L a9:Prop}{j:Type}{B g p:TypeId}{o t:ac}{a6 b k:World}
def al.dec[Decidable L]{P a:Prop}(b:L->P)(c:¬L->a):al (decide L) P a:=
 al.mk (λn=>b (XV n)) (λn=>c (Xy n))
def al.eK(P:e≠r->L)(a:e=r->a9):al (e !=r) L a9:=
 al.mk (λn=>P (by simpa using n)) (λn=>a (by simpa using n))
def al.eI(P:e=r->L)(a:e≠r->a9):al (e==r) L a9:=
 al.mk (λn=>P (by simpa using n)) (λn=>a (by simpa using n))
def al.not(n:al K a9 L):al (!K) L a9:=by cases K<;>exact n
def PQ(P:w.toList=c6.toList):w=c6:=by
 have a:∀n:ByteArray,n.toList=n.data.toList:=λn=>ByteArray.toList_eq n;rw[a,a]at P;exact ByteArray.ext (Array.toList_inj.1 P)
def al.Zo(P:w=c6->L)(a:w≠c6->a9):al (ByteArray.toList w==ByteArray.toList c6) L a9:=
 al.mk (λn=>P (PQ (by simpa using n))) (λn=>a (λb=>by subst b;simp at n))
def al.neS(n:w≠c6->L)(P:w=c6->a9):al (!(ByteArray.toList w==ByteArray.toList c6)) L a9:=(al.Zo P n).not
def aq(n:a<4611686018427387904):PP .i64 ((a:Int)+1)=((a+1:Nat):Int):=by
 rw[wrap_i64 cw];simp
def cf.then(n:cf b k)(P:cf k a6):cf b a6:=by obtain⟨a,rfl⟩:=n;obtain⟨c,rfl⟩:=P;exact⟨a+c,sM⟩
def cf.refl(n:World):cf n n:=⟨0,rfl⟩
def Pq{n P:List j}{b:j}(c:n.take a=P.take a)(d:n[a]? =some b)(e:P[a]? =some b):n.take (a+1)=P.take (a+1):=by
 rw[Qw,Qw,c,d,e]
structure ky (α:Type) where
 k:Nat
 rep:World->(UK)->α->List Value->Prop
 keep:∀{S D:UK} {w w':World} {x:α} {cs:List Value},rep w D x cs->aj S w w'->(∀b,D b->¬S b)->rep w' D x cs
 mono:∀{D D':UK} {w:World} {x:α} {cs:List Value},rep w D x cs->(∀b,D b->D' b)->rep w D' x cs
 len:∀{D:UK} {w:World} {x:α} {cs:List Value},rep w D x cs->cs.length=k
 one:∀{D:UK} {w:World} {x:α} {cs:List Value},rep w D x cs->∀u∈cs,u.oneCell'=true
def flat{b:Type}(c:Nat)(n:b->List Value)(d:b->Prop)(e:∀a,(n a).length=c)(f:∀a,∀g∈n a,g.oneCell'=true):ky b where
 k:=c
 rep:=λ_ _ a cs=>cs=n a/\d a
 keep:=λP _ _=>P
 mono:=λP _=>P
 len:=λP=>by rw[P.1];exact e _
 one:=λP=>by rw[P.1];exact f _
def aP:ky Int:=flat 1 (λn=>[WP n]) aM (λ_=>rfl) (λn a P=>by simp at P;subst P;rfl)
def gw:ky UInt8:=flat 1 (λn=>[.int .u8 n.toNat]) (λ_=>True) (λ_=>rfl) (λn a P=>by simp at P;subst P;rfl)
def Pb:ky ByteArray:=flat 1 (λn=>[.string n]) (λ_=>True) (λ_=>rfl) (λn a P=>by simp at P;subst P;rfl)
structure Row {α:Type} (c:ky α) (bytes:Nat) (w:World) (D:UK) (a:bc) (n:Nat) (xs:List α):Prop where
 len:n=xs.length
 fh:n*bytes<=aR
 el:∀(i:Nat) x,xs[i]? =some x->∃b off es,a=some ⟨b,off,none⟩/\b<w.heap.size/\D b/\(∀j,j<c.k->w.cell? ⟨b,off+i*c.k+j,none⟩=es[j]?)/\c.rep w D x es
section
variable {α:Type} {c:ky α} {bytes:Nat} {w w':World} {D D' S:UK} {a:bc} {n:Nat} {xs:List α}
def Row.keep(d:Row c bytes w D a n xs)(e:aj S w w')(f:∀P,D P->¬S P):Row c bytes w' D a n xs:=
 ⟨d.len,d.fh,λg k l=>by
  obtain⟨P,b,m,o,h,i,p,q⟩:=d.el g k l;exact⟨P,b,m,o,Qk h e.size,i,λj r=>(e.cell (a:=⟨P,b+g*c.k+j,none⟩) h (f P i)).trans (p j r),c.keep q e f⟩⟩
def Row.af(P:Row c bytes w D a n xs)(b:ai w w'):Row c bytes w' D a n xs:=P.keep b λ_ _ P=>P
def Row.mono(b:Row c bytes w D a n xs)(e:∀P,D P->D' P):Row c bytes w D' a n xs:=
 ⟨b.len,b.fh,λf g h=>by
  obtain⟨P,d,i,j,k,l,m,o⟩:=b.el f g h;exact⟨P,d,i,j,k,e P l,m,c.mono o e⟩⟩
def Row.nil(w:World)(D:UK):Row c bytes w D none 0 []:=⟨rfl,sM,λP a n=>by simp at n⟩
def Row.at(f:Row c bytes w D a n xs){i:Int}(o:0<=i)(p:i<(n:Int)):
  ∃b P x d,a=some ⟨b,P,none⟩/\b<w.heap.size/\D b/\xs[i.toNat]? =some x/\(∀e,e<c.k->w.cell? ⟨b,P+i.toNat*c.k+e,none⟩=d[e]?)/\c.rep w D x d:=by
 have q:=f.len;have g:i.toNat<xs.length:=oM
 obtain⟨b,P,d,h,j,k,l,m⟩:=f.el i.toNat xs[i.toNat] (by simp[g]);exact⟨b,P,_,d,h,j,k,by simp[g],l,m⟩
def Row.Iq(g:Row c bytes w D a n xs){i:Nat}(h:i<n):
  ∃b P e f,a=some ⟨b,P,none⟩/\b<w.heap.size/\D b/\xs[i]? =some e/\(∀d,d<c.k->w.cell? ⟨b,P+i*c.k+d,none⟩=f[d]?)/\c.rep w D e f:=by
 have:=g.at (i:=(i:Int)) oM oM;simpa using this
end
def Row.nE{c:j->Value}{f:j->Prop}{hl h1}{bytes:Nat}{D:UK}{g:List j}(h:Row (flat 1 (λP=>[c P]) f hl h1) bytes b D d a g){i:Nat}(k:i<a):
  ∃e n P,d=some ⟨e,n,none⟩/\g[i]? =some P/\f P/\b.cell? ⟨e,n+i,none⟩=some (c P):=by
 obtain⟨e,n,P,q,l,r,_,m,o,rfl,p⟩:=h.Iq k;refine⟨e,n,P,l,m,p,?_⟩;have:=o 0 Nat.one_pos;simpa[flat]using this
def bY{n:Type}(P:ky n)(a:World)(D:UK):List n->List Value->Prop
 |[],cs=>cs=[]
 |x::d,cs=>∃b c,cs=b++c/\P.rep a D x b/\bY P a D d c
section
variable {α:Type} {c:ky α} {w w':World} {D D' S:UK}
def bY.keep(P:aj S w w')(a:∀b,D b->¬S b):∀{n:List α} {cs:List Value},bY c w D n cs->bY c w' D n cs
 |[],_,d=>d
 |x::n,_,⟨e,f,g,h,i⟩=>⟨e,f,g,c.keep h P a,bY.keep P a i⟩
def bY.mono(P:∀a,D a->D' a):∀{n:List α} {cs:List Value},bY c w D n cs->bY c w D' n cs
 |[],_,b=>b
 |x::n,_,⟨d,e,f,g,h⟩=>⟨d,e,f,c.mono g P,bY.mono P h⟩
def bY.append:∀{xs P:List α} {cs n:List Value},bY c w D xs cs->bY c w D P n->bY c w D (xs++P) (cs++n)
 |[],P,_,n,b,a=>by cases b;exact a
 |x::xs,P,_,n,⟨d,e,f,g,h⟩,a=>⟨d,e++n,by rw[f,XQ],g,bY.append h a⟩
def bY.one{x:α}(n:c.rep w D x a4):bY c w D [x] a4:=⟨a4,[],sM,n,rfl⟩
def bY.length:∀{n:List α} {cs:List Value},bY c w D n cs->cs.length=n.length*c.k
 |[],_,P=>by cases P;simp
 |x::n,_,⟨e,f,a,b,d⟩=>by
  rw[a,QX,c.len b,bY.length d,Xq,X7,Nat.one_mul,Nat.add_comm]
def bY.Sk:∀{a:List α} {cs:List Value},bY c w D a cs->∀P∈cs,P.oneCell'=true
 |[],_,b,P,n=>by cases b;simp at n
 |x::a,_,⟨g,h,d,e,f⟩,P,n=>by
  rw[d]at n;rcases Q6.1 n with n|n
  ·exact c.one e P n
  ·exact bY.Sk f P n
def bY.at:∀{b:List α} {cs:List Value},bY c w D b cs->∀{i:Nat} {x:α},b[i]? =some x->∃a,(∀n,n<c.k->cs[i*c.k+n]? =a[n]?)/\c.rep w D x a
 |[],_,l,i,x,P=>by simp at P
 |y::b,_,⟨a,m,d,e,g⟩,i,x,P=>by
  have o:=c.len e
  cases i with
  |zero=>
   simp at P;subst P;refine⟨a,λn f=>?_,e⟩;rw[d,Nat.zero_mul,Xz,XW oM]
  |succ i=>
   obtain⟨h,j,k⟩:=bY.at g (i:=i) (x:=x) (by simpa using P);refine⟨h,λn f=>?_,k⟩;rw[d,X7,Nat.one_mul,X8 oM,<-j n f]
   congr 1
   omega
def bY.take:∀{n:List α} {cs:List Value},bY c w D n cs->∀(m:Nat),bY c w D (n.take m) (cs.take (m*c.k))
 |[],_,a,m=>by cases a;simp[bY]
 |x::n,_,⟨b,d,e,P,f⟩,m=>by
  have g:=c.len P
  cases m with
  |zero=>simp[bY]
  |succ m=>
   refine⟨b,d.take (m*c.k),?_,P,bY.take f m⟩;rw[e,X7,Nat.one_mul,Nat.add_comm,List.take_append,g,Qz oM]
   congr 2
   omega
def Row.aC{bytes:Nat}{h:List α}(v:Row c bytes w D d a h):∃cs,bY c w D h cs/\(h≠[]->0<c.k->∃P n,d=some ⟨P,n,none⟩/\P<w.heap.size/\D P/\∀b e,cs[b]? =some e->w.cell? ⟨P,n+b,none⟩=some e):=by
 have k:∀(l:List α) (f:Nat),(∀i j,l[i]? =some j->h[f+i]? =some j)->∃cs,bY c w D l cs/\∀P n,d=some ⟨P,n,none⟩->0<c.k->∀b e,cs[b]? =some e->w.cell? ⟨P,n+f*c.k+b,none⟩=some e:=by
  intro l
  induction l with
  |nil=>intro f _;exact⟨[],rfl,λP n _ _ b e g=>by simp at g⟩
  |cons x l F=>
   intro f y;obtain⟨z,q,r⟩:=F (f+1) (λi j s=>by have:=y (i+1) j (by simpa using s);rw[show f+1+i=f+(i+1) by omega];exact this);obtain⟨P,n,p,m,A,B,C,t⟩:=v.el f x (y 0 x rfl);refine⟨p++z,⟨p,z,rfl,t,q⟩,λJ E o u b e g=>?_⟩;rw[m]at o;cases o
   have K:=c.len t
   by_cases H:b<c.k
   ·rw[XW oM]at g
    rw[<-g];exact C b H
   ·rw[X8 oM]at g
    have:=r P n m u (b-p.length) e g;rw[<-this]
    congr 2
    rw[X7];omega
 obtain⟨cs,q,r⟩:=k h 0 (λi j s=>by simpa using s);refine⟨cs,q,λI u=>?_⟩
 cases h with
 |nil=>exact Zz rfl I
 |cons j h=>
  obtain⟨P,n,p,m,A,B,C,t⟩:=v.el 0 j rfl;refine⟨P,n,m,A,B,λb e g=>?_⟩;have:=r P n m u b e g;simpa using this
end
structure aU {α:Type} (c:ky α) (e:TypeId) (F:UK) (w:World) (a:bc) (n cap:Nat) (xs:List α):Prop where
 body:∃cs D,Own w e c.k a n cap cs/\bY c w D xs cs/\(∀b,D b->F b/\aG a≠some b)
 self:∀b,aG a=some b->F b
 aF:∀b,F b->b<w.heap.size
section
variable {α:Type} {c:ky α} {e:TypeId} {w w':World} {F F' S:UK} {a:bc} {n cap:Nat} {xs:List α}
def aU.nil(w:World):aU c e (λ_=>False) w none 0 0 []:=
 ⟨⟨[],λ_=>False,Own.nil _ _ _,rfl,λ_ n=>n.elim⟩,λP n=>(by cases n),λ_ n=>n.elim⟩
def aU.keep(d:aU c e F w a n cap xs)(f:aj S w w')(g:∀P,F P->¬S P):aU c e F w' a n cap xs:=by
 obtain⟨cs,D,i,j,h⟩:=d.body;exact⟨⟨cs,D,i.keep f (dy.2 λP b=>g P (d.self P b)),j.keep f (λP b=>g P (h P b).1),h⟩,d.self,λP b=>Qk (d.aF P b) f.size⟩
def aU.af(P:aU c e F w a n cap xs)(b:ai w w'):aU c e F w' a n cap xs:=P.keep b λ_ _ P=>P
def aU.mono(d:aU c e F w a n cap xs)(f:∀P,F P->F' P)(h:∀P,F' P->P<w.heap.size):aU c e F' w a n cap xs:=by
 obtain⟨cs,D,i,j,g⟩:=d.body;exact⟨⟨cs,D,i,j,λP b=>⟨f P (g P b).1,(g P b).2⟩⟩,λP b=>f P (d.self P b),h⟩
def aU.len(b:aU c e F w a n cap xs)(d:0<c.k):n=xs.length:=by
 obtain⟨cs,D,f,g,h⟩:=b.body;have P:=f.length;rw[g.length]at P;exact(Nat.eq_of_mul_eq_mul_right d P).symm
def Own.Sj{P:Nat}{cs:List Value}(b:Own w e P a n cap cs):n<=cap:=by
 rcases b.cases with⟨_,rfl,rfl,_⟩|⟨f,c,_,_,d,_,_⟩
 ·exact Q4 _
 ·exact d
def aU.row{bytes:Nat}(d:aU c e F w a n cap xs)(i:0<c.k)(f:xs.length*bytes<=aR):Row c bytes w F a n xs:=by
 have j:=d.len i;obtain⟨cs,D,k,r,s⟩:=d.body;refine⟨j,by rw[j];exact f,λz A t=>?_⟩;obtain⟨g,l,m⟩:=r.at t;have B:=c.len m;have o:=l 0 i;rw[Nat.add_zero,Qq (show 0<g.length by omega)]at o;obtain⟨p,h,u,_⟩:=k.cell o;refine⟨p,0,g,h,u,d.self p (by rw[h];rfl),λq v=>?_,c.mono m λx f=>(s x f).1⟩;have P:=l q v;rw[Qq (show q<g.length by omega)]at P⊢;obtain⟨C,b,_,y⟩:=k.cell P;rw[h]at b;cases b
 rw[Xz];exact y
def KK{bytes:Nat}{x:α}(f:aU c e F w a n cap xs)(z:kD h g e c.k bytes){D:UK}(r:c.rep w D x m.toList)(k:∀P,D P->P<w.heap.size/\aG a≠some P)(b:(xs.length+1)*bytes<=aR)(I:xs.length+1<=maxLen)(s:∀j i w' F',aU c e F' w' j (n+1) i (xs++[x])->aj (λu=>aG a=some u) w w'->(∀P,F' P->F P\/D P\/w.heap.size<=P)->(∀P,aG j=some P->F P\/w.heap.size<=P)->o (.slice j (n+1) i) w'):
  PA w (.cells m e) λv=>aK h (Builtin.append_ #[g,g] p #[.slice a n cap,.slice (UV w.heap.size) 1 1]) v o t:=by
 have A:=f.len z.pos;obtain⟨cs,J,K,L,l⟩:=f.body;refine PA.mk λv C R M=>?_;have S:=c.len r;have N:=K.af C;refine As z (news:=m.toList) N M (by rw[Qz oM]) oM (c.one r) (by rw[A];exact b) (by rw[A];exact I) λj O q E H B=>?_;have y:aj (λu=>aG a=some u) w q:=(ai.keep C).then (H.mono λ_ _ f=>f.symm)
 let F':UK:=λP=>F P\/D P\/(w.heap.size<=P/\P<q.heap.size)
 have T:v.heap.size<=q.heap.size:=H.size;refine s j O q F' ⟨⟨_,λP=>J P\/D P,E,bY.append ((L.keep y λP b=>(l P b).2).mono λP b=>.inl b) (bY.one (c.mono (c.keep r y λP b=>(k P b).2) λP b=>.inr b)),?_⟩,?_,?_⟩ y ?_ ?_
 ·intro P b
  have U:P<w.heap.size:=b.elim (λd=>f.aF P (l P d).1) λd=>(k P d).1;refine⟨b.elim (λd=>.inl (l P d).1) λd=>.inr (.inl d),?_⟩;rcases B with B|B
  ·rw[B];exact b.elim (λd=>(l P d).2) λd=>(k P d).2
  ·rw[B];intro Q;cases Q;omega
 ·intro P b
  rcases B with B|B
  ·exact .inl (f.self P (B▸b))
  ·have:=E.lt b
   rw[B]at b;cases b;exact .inr (.inr ⟨oM,this⟩)
 ·rintro P (b|b|b)
  ·have:=f.aF P b;omega
  ·have:=(k P b).1;omega
  ·exact b.2
 ·rintro P (b|b|b)
  ·exact .inl b
  ·exact .inr (.inl b)
  ·exact .inr (.inr b.1)
 ·intro P b
  rcases B with B|B
  ·exact .inl (f.self P (B▸b))
  ·rw[B]at b;cases b;exact .inr oM
def lQ{bytes:Nat}(f:aU c e F w a n cap xs)(x:kD h g e c.k bytes){D:UK}{m L:Nat}{k:List α}(C:Row c bytes w D (some d0) m k)(q:∀P,D P->P<w.heap.size/\aG a≠some P)(b:(xs.length+k.length)*bytes<=aR)(M:xs.length+k.length<=maxLen)(y:∀l i w' F',aU c e F' w' l (n+m) i (xs++k)->aj (λj=>aG a=some j) w w'->(∀P,F' P->F P\/D P\/w.heap.size<=P)->(∀P,aG l=some P->F P\/w.heap.size<=P)->o (.slice l (n+m) i) w'):
  aK h (Builtin.append_ #[g,g] p #[.slice a n cap,.slice (some d0) m L]) w o t:=by
 have E:=f.len x.pos;have z:=C.len;obtain⟨cs,N,O,Q,r⟩:=f.body;obtain⟨H,s,R⟩:=C.aC;have S:∀j u,H[j]? =some u->w.cell? (d0.add j)=some u:=λj u I=>by
  have T:k≠[]:=by rintro rfl;have:=s.length;simp at this;subst this;simp at I
  obtain⟨P,U,V,_,_,W⟩:=R T x.pos
  cases V
  rw[Addr.add_lit];exact W j u I
 refine Ng x (news:=H) O S (by rw[s.length,z]) s.Sk (by rw[E,z];exact b) (by rw[E,z];exact M) λl X v J K B=>?_;have A:aj (λj=>aG a=some j) w v:=K.mono λ_ _ f=>f.symm
 let F':UK:=λP=>F P\/D P\/(w.heap.size<=P/\P<v.heap.size)
 have Z:w.heap.size<=v.heap.size:=K.size;refine y l X v F' ⟨⟨_,λP=>N P\/D P,J,bY.append ((Q.keep A λP b=>(r P b).2).mono λP b=>.inl b) ((s.keep A λP b=>(q P b).2).mono λP b=>.inr b),?_⟩,?_,?_⟩ A ?_ ?_
 ·intro P b
  have a1:P<w.heap.size:=b.elim (λd=>f.aF P (r P d).1) λd=>(q P d).1;refine⟨b.elim (λd=>.inl (r P d).1) λd=>.inr (.inl d),?_⟩;rcases B with B|B
  ·rw[B];exact b.elim (λd=>(r P d).2) λd=>(q P d).2
  ·rw[B];intro Y;cases Y;omega
 ·intro P b
  rcases B with B|B
  ·exact .inl (f.self P (B▸b))
  ·have:=J.lt b
   rw[B]at b;cases b;exact .inr (.inr ⟨Q4 _,this⟩)
 ·rintro P (b|b|b)
  ·have:=f.aF P b;omega
  ·have:=(q P b).1;omega
  ·exact b.2
 ·rintro P (b|b|b)
  ·exact .inl b
  ·exact .inr (.inl b)
  ·exact .inr (.inr b.1)
 ·intro P b
  rcases B with B|B
  ·exact .inl (f.self P (B▸b))
  ·rw[B]at b;cases b;exact .inr oM
end
def bY.free{a:Type}{c:Nat}{n:a->List Value}{d:a->Prop}{hl P}{e f:World}{D g:UK}:∀{b:List a} {cs:List Value},bY (flat c n d hl P) e D b cs->bY (flat c n d hl P) f g b cs
 |[],_,h=>h
 |x::b,_,⟨i,j,P,k,l⟩=>⟨i,j,P,k,l.free⟩
def aU.alone{n:j->List Value}{k:j->Prop}{hl h1}{l:List j}(P:aU (flat a n k hl h1) g f b d c i l):
  aU (flat a n k hl h1) g (λe=>aG d=some e) b d c i l:=by
 obtain⟨cs,p,m,o,q⟩:=P.body;exact⟨⟨cs,λ_=>False,m,o.free,λ_ P=>P.elim⟩,λe h=>h,λe h=>P.aF e (P.self e h)⟩
def qH{P:Type}(g:ky P)(h:TypeId)(a:World)(i:List P)(j:Value)(b:World):Prop:=
 ∃c d n e,j= .slice c d n/\aU g h e b c d n i/\ai a b/\∀f,e f->a.heap.size<=f
def Row.lit{enc:j->Value}{c:j->Prop}{hl h1}{bytes:Nat}{cs:Array Value}(d:b.heap[a]? =some (.cells cs g C))(P:List j)(h:cs.toList=P.map enc)(i:∀n∈P,c n)(k:P.length*bytes<=aR):
  Row (flat 1 (λn=>[enc n]) c hl h1) bytes b (·=a) (UV a) P.length P:=
 ⟨rfl,k,λe n f=>⟨a,0,[enc n],rfl,aA d,rfl,λl m=>by
  have:l=0:=Nat.lt_one_iff.1 m;subst this;have:cs.toList[e]? =some (enc n):=by rw[h];simp[f]
  have o:=ae d (off:=e) (v:=enc n) (by simpa using this);simpa[flat]using o,rfl,i n (QZ f)⟩⟩
def Row.part{n:ky j}{bytes:Nat}{D:UK}{f:List j}(c:Row n bytes b D d a f){lo hi cap:Nat}(u:lo<=hi)(v:hi<=a)(w:a<=cap):
  Row n bytes b D (dh d lo cap n.k) (hi-lo) ((f.take hi).drop lo):=by
 have x:=c.len;refine⟨by simp;omega,Xx (Q0 _ oM) c.fh,λg h P=>?_⟩;rw[List.getElem?_drop,Xw]at P;split at P
 ·rename_i y
  obtain⟨i,e,k,l,m,o,p,q⟩:=c.el (lo+g) h P
  by_cases r:cap=lo
  ·omega
  ·exact⟨i,e+lo*n.k,k,by rw[l];simp[dh,r,Addr.add_lit],m,o,λs t=>by rw[<-p s t];congr 2;rw[X7];omega,q⟩
 ·cases P
def aU.lE{n:ky j}{P:List j}(e:aU n g f b d a c P):a<=c:=by
 obtain⟨cs,i,h,_⟩:=e.body;exact h.Sj
def Row.take{c:ky j}{bytes:Nat}{D:UK}{e:List j}(P:Row c bytes b D d a e){m:Nat}(f:m<=a):Row c bytes b D d m (e.take m):=by
 have h:=P.len;refine⟨by simp;omega,Xx (Q0 _ f) P.fh,λg x n=>?_⟩;rw[Xw]at n;split at n
 ·exact P.el g x n
 ·cases n
def Ay{e:ky j}{r:List j}{bytes:Nat}(s:aU e g f b d a c r)(u:kD h p g e.k bytes){D:UK}{k:List j}(y:Row e bytes b D x i k)(A:x=none->i=0/\q=0)(C:∀n,D n->n<b.heap.size/\aG d≠some n)(l:(r.length+k.length)*bytes<=aR)(E:r.length+k.length<=maxLen)(m:∀v P w z,aU e g z w v (a+i) P (r++k)->aj (λF=>aG d=some F) b w->(∀n,z n->f n\/D n\/b.heap.size<=n)->(∀n,aG v=some n->f n\/b.heap.size<=n)->o (.slice v (a+i) P) w):
  aK h (Builtin.append_ #[p,p] B #[.slice d a c,.slice x i q]) b o t:=by
 cases x with
 |some M=>exact lQ s u y C l E m
 |none=>
  obtain⟨rfl,rfl⟩:=A rfl;have H:k=[]:=QW y.len.symm;subst H;obtain⟨I,N,J,O,Q,R,S⟩:=kD.info u;obtain⟨cs,T,K,U,V⟩:=s.body;have L:=run_append_owned_none (P:=h) (w:=b) 0 p B g I e.k u.under J (.slice d a c) a cs K.row;exact aK.mk L (m d c b f (by simpa using s) (aj.refl _) (λn l=>.inl l) λn l=>.inl (s.self n l))
def aU.OW{n:ky j}{P:List j}(e:aU n g f b d a c P)(h:d=none):a=0/\c=0:=by
 obtain⟨cs,o,i,_⟩:=e.body;rcases i.cases with⟨_,k,l,_⟩|⟨p,m,rfl,_⟩
 ·exact⟨k,l⟩
 ·cases h
def WE(i:kD h g p 1 1)(d:(h.info? p).bind (·.zero)=some (.int .u8 0))(j:a<=c)(n:c<=aR)(e:∀P,aU gw p (·=b.heap.size) P (UV b.heap.size) a c (List.replicate a 0)->ai b P->P.heap.size=b.heap.size+1->o (.slice (UV b.heap.size) a c) P):
  aK h (Instr.makeSlice g (WP (a:Int)) (WP (c:Int))) b o t:=by
 unfold aR at n;obtain⟨q,r,k,l,s,u,A⟩:=i.info;have v:r= .int .u8 0:=by
  rw[k]at d;simp only[Option.bind_some,l]at d;exact XJ d
 subst v;have m:=run_make (P:=h) b g p q _ i.under k l .i64 .i64 a c oM oM (by rw[u];omega) oM;rw[Qx,Qx,s,Nat.mul_one]at m;have w:ai b (b.alloc (.cells (madeCells (Value.int .u8 0).cells c) p)):=aj.alloc b _;have x:(madeCells (Value.int .u8 0).cells c).toList=List.replicate c (.int .u8 0):=by
  unfold madeCells;rw[Array.toList_map];apply List.ext_getElem
  ·simp
  ·intro B C E
   simp[Value.cells,Nat.mod_one]
 refine aK.mk m (e _ ⟨⟨List.replicate a (.int .u8 0),λ_=>False,⟨⟨by simp[gw,flat],.inr ⟨b.heap.size,c,_,rfl,Qj _,heap_alloc_new b _,j,by unfold maxLen;omega,by simp[size_madeCells,gw,flat],?_⟩⟩⟩,?_,λ_ e=>e.elim⟩,λy n=>by simpa[aG]using n.symm,λy n=>by subst n;simp⟩ w sM)
 ·rw[x]
  simp only[gw,flat,Nat.mul_one,List.take_replicate];rw[X2 j]
 ·have f:∀a:Nat,bY gw (b.alloc (.cells (madeCells (Value.int .u8 0).cells c) p)) (λ_=>False) (List.replicate a 0) (List.replicate a (.int .u8 0)):=by
   intro a
   induction a with
   |zero=>rfl
   |succ a z=>exact⟨[.int .u8 0],List.replicate a (.int .u8 0),rfl,⟨rfl,trivial⟩,z⟩
  exact f a
end Go.aw
namespace Go.aw
open Go
def gh(n:Nat):List UInt8:=if P:n=0 then []else UInt8.ofNat (n % 256)::gh (n/256)
termination_by n
decreasing_by omega
def jV:gh 0=[]:=by rw[gh];simp
variable{e:Int}{a:Nat}
def mh(n:a≠0):gh a=UInt8.ofNat (a % 256)::gh (a/256):=by rw[gh];simp[n]
def yW:∀(n:Nat),n<2 ^ 64->(gh n).length=(Lib.bitLen n+7)/8:=by
 intro n
 induction n using Nat.strongRecOn with
 |_ n b=>
  intro a
  by_cases P:n=0
  ·subst P;rw[jV];decide
  ·rw[mh P,Xq]
   by_cases c:n<256
   ·have d:n/256=0:=oM
    rw[d,jV];have f:Lib.bitLen n<=8:=Lib.bitLen_le8 ⟨n,c⟩;have g:1<=Lib.bitLen n:=(Lib.bitLenAux_bounds 64 n a P).1;simp;omega
   ·have:=b (n/256) oM oM
    rw[this];have e:=Lib.bitLen_shift 8 n oM a;rw[show(2:Nat) ^ 8=256 from rfl]at e;omega
def CE{u:Nat}(n:u<2 ^ 64):(gh u).length<=8:=by
 rw[yW u n]
 by_cases P:u=0
 ·subst P;decide
 ·have a:=Lib.bitLenAux_bounds 64 u n P
  have:Lib.bitLen u<=64:=by
   apply Nat.le_of_not_lt;intro b;have c:2 ^ 64<=2 ^(Lib.bitLen u-1):=Nat.pow_le_pow_right oM oM;have d:2 ^(Lib.bitLen u-1)<=u:=a.2.1;omega
  omega
def SP:∀(a n:Nat),a<(gh n).length->(gh n)[a]? =some (UInt8.ofNat (n/256 ^ a % 256)):=by
 intro a
 induction a with
 |zero=>
  intro n P
  by_cases b:n=0
  ·subst b;rw[jV]at P;simp at P
  ·rw[mh b];simp
 |succ a c=>
  intro n P
  by_cases b:n=0
  ·subst b;rw[jV]at P;simp at P
  ·rw[mh b]at P⊢
   have:=c (n/256) (by simpa using P);rw[ZZ,this,Nat.div_div_eq_div_mul,Nat.pow_succ,Nat.mul_comm 256]
def gU(n:List UInt8):Nat:=n.foldl (λP a=>P*256+a.toNat) 0
def yX(n:List UInt8)(P:UInt8):gU (n++[P])=gU n*256+P.toNat:=by simp[gU,List.foldl_append]
def NU(n:List UInt8):gU n<256 ^ n.length:=by
 suffices b:∀(n:List UInt8) (P a:Nat),P<256 ^ a->n.foldl (λP c=>P*256+c.toNat) P<256 ^(a+n.length) by
  have:=b n 0 0 sM;simpa[gU]using this
 intro n
 induction n with
 |nil=>intro P a b;simpa using b
 |cons c n d=>
  intro P a b;have e:=c.toNat_lt;have:=d (P*256+c.toNat) (a+1) (by rw[Nat.pow_succ];omega);rw[List.foldl_cons,Xq];rw[show a+(n.length+1)=a+1+n.length by omega];exact this
def SQ:∀(n:Nat),gU (gh n).reverse=n:=by
 intro n
 induction n using Nat.strongRecOn with
 |_ n a=>
  by_cases P:n=0
  ·subst P;rw[jV];rfl
  ·rw[mh P,List.reverse_cons,yX,a (n/256) oM]
   have:(UInt8.ofNat (n % 256)).toNat=n % 256:=by rw[ZK];omega
   rw[this];omega
def PM:∀(n:Nat),n≠0->(gh n).getLast? ≠some 0:=by
 intro n
 induction n using Nat.strongRecOn with
 |_ n b=>
  intro c;rw[mh c]
  by_cases P:n/256=0
  ·rw[P,jV]
   simp only[List.getLast?_singleton,ne_eq,Q1];intro d;have:=Zj UInt8.toNat d;rw[ZK]at this;simp at this;omega
  ·have a:gh (n/256)≠[]:=by rw[mh P];simp
   rw[List.getLast?_cons,List.getLast?_eq_some_getLast a,Option.getD_some];have:=b (n/256) oM P;rw[List.getLast?_eq_some_getLast a]at this;exact this
def eg(n:Int):List UInt8:=UInt8.ofNat ((gh n.natAbs).length+if n<0 then 16 else 0)::(gh n.natAbs).reverse
def rdNum(b:List UInt8):Int×Int×Nat:=match b with
 |[]=>(4,0,0)
 |h::a=>
  let n:=if 16<h.toNat then h.toNat-16 else h.toNat
  let P:=gU (a.take n)
  if 8<n then(5,0,0)
  else if a.length<n then(4,0,0)
  else if(0<n/\a.head? =some 0)\/(¬16<h.toNat/\2 ^ 63<=P)\/(16<h.toNat/\2 ^ 63<P)then(5,0,0)
  else(0,if 16<h.toNat then-(P:Int)else P,n+1)
def FG(p:aM e)(c:List UInt8):rdNum (eg e++c)=(0,e,(eg e).length):=by
 unfold aM at p;have q:e.natAbs<2 ^ 64:=oM
 have r:=CE q;have d:(gh e.natAbs).reverse.length=(gh e.natAbs).length:=List.length_reverse ..;have g:=SQ e.natAbs;have l:e<0->1<=(gh e.natAbs).length:=λu=>by rw[mh oM];simp
 have h:0<(gh e.natAbs).length->((gh e.natAbs).reverse++c).head? ≠some 0:=λf=>by
  have s:e.natAbs≠0:=λb=>by rw[b,jV]at f;simp at f
  have:=PM _ s;rw[List.head?_append,List.head?_reverse]
  cases i:(gh e.natAbs).getLast? with
  |none=>rw[List.getLast?_eq_none_iff]at i;rw[i]at f;simp at f
  |some v=>rw[i]at this;simpa using this
 unfold eg;rw[List.cons_append];generalize gh e.natAbs=n at r d g l h⊢;have t:(UInt8.ofNat (n.length+if e<0 then 16 else 0)).toNat=n.length+if e<0 then 16 else 0:=by
  rw[ZK];split<;>omega
 have m:(n.reverse++c).take n.length=n.reverse:=by
  rw[<-d,List.take_left]
 have o:¬(n.reverse++c).length<n.length:=sM
 unfold rdNum;simp only[t]
 by_cases j:e<0
 ·have w:=l j
  simp only[Zx j];have k:(if 16<n.length+16 then n.length+16-16 else n.length+16)=n.length:=by rw[Zx oM];omega
  simp only[k,m,g];rw[Zq oM,Zq o,Zq,Zx oM]
  ·have b: -(e.natAbs:Int)=e:=oM
   rw[b,Xq,d]
  ·rintro(⟨P,a⟩|⟨P,a⟩|⟨P,a⟩)
   ·exact h P a
   ·omega
   ·omega
 ·simp only[Zq j,Nat.add_zero]
  have k:(if 16<n.length then n.length-16 else n.length)=n.length:=by rw[Zq oM]
  simp only[k,m,g];rw[Zq oM,Zq o,Zq,Zq oM]
  ·have b:(e.natAbs:Int)=e:=oM
   rw[b,Xq,d]
  ·rintro(⟨P,a⟩|⟨P,a⟩|⟨P,a⟩)
   ·exact h P a
   ·omega
   ·omega
end Go.aw
namespace Go.aw
open Go
abbrev sx:=BitVec 32
def BO:sx:=0xEDB88320#32
def ot(n:sx):sx:=(n>>>1) ^^^(if n.getLsbD 0 then BO else 0#32)
def BP(n P:sx):ot (n ^^^ P)=ot n ^^^ ot P:=by
 unfold ot;rw[BitVec.ushiftRight_xor_distrib,BitVec.getLsbD_xor]
 cases n.getLsbD 0<;>cases P.getLsbD 0<;>simp only[Bool.xor_false,Bool.xor_true,Bool.not_true,Bool.not_false,if_true,if_false,Bool.false_eq_true,BitVec.xor_zero,BitVec.zero_xor]
 ·ac_rfl
 ·ac_rfl
 ·have:(n>>>1 ^^^ BO) ^^^(P>>>1 ^^^ BO)=(n>>>1 ^^^ P>>>1) ^^^(BO ^^^ BO):=by ac_rfl
  rw[this,BitVec.xor_self,BitVec.xor_zero]
def pT(n:sx):sx:=ot (ot (ot (ot (ot (ot (ot (ot n)))))))
def ED(n P:sx):pT (n ^^^ P)=pT n ^^^ pT P:=by
 unfold pT;simp only[BP]
def Wf(n:Bool):sx:=if n then 1#32 else 0#32
def BQ(n:sx)(P:Bool):sx:=(n>>>1) ^^^(if n.getLsbD 0 !=P then BO else 0#32)
def EE(n:sx)(P:Bool):BQ n P=ot (n ^^^ Wf P):=by
 unfold BQ
 cases P
 ·simp[Wf,ot]
 ·rw[BP]
  have:ot (Wf true)=BO:=by decide+kernel
  rw[this];unfold ot
  cases n.getLsbD 0
  ·simp
  ·have a:(n>>>1 ^^^(if true=true then BO else 0#32)) ^^^ BO=n>>>1 ^^^(BO ^^^ BO):=by rw[Zx rfl];ac_rfl
   rw[a,BitVec.xor_self];simp
def lk(n:sx)(P:UInt8):sx:=(List.range 8).foldl (λn a=>BQ n (P.toNat.testBit a)) n
def yA(n:UInt8):sx:=BitVec.ofNat 32 n.toNat
def Jb(n:sx)(a:UInt8):lk n a=pT n ^^^ lk 0#32 a:=by
 have e:∀(P:List Nat) (b c:sx),(P.foldl (λn d=>BQ n (a.toNat.testBit d)) (b ^^^ c))=(P.foldl (λn _=>ot n) b) ^^^(P.foldl (λn d=>BQ n (a.toNat.testBit d)) c):=by
  intro P
  induction P with
  |nil=>intro b c;rfl
  |cons d P f=>
   intro b c;simp only[List.foldl_cons];rw[<-f]
   congr 1
   rw[EE,EE];simp only[BP]
   ac_rfl
 have:=e (List.range 8) n 0#32;rw[BitVec.xor_zero]at this;exact this
def Jc(n:UInt8):lk 0#32 n=pT (yA n):=by
 have a:(List.range 256).all (λP=>lk 0#32 (UInt8.ofNat P)==pT (yA (UInt8.ofNat P)))=true:=by decide+kernel
 have:=ZY.1 a n.toNat (List.mem_range.2 n.toNat_lt);simpa using this
def LV(n:sx)(P:UInt8):lk n P=pT (n ^^^ yA P):=by
 rw[Jb,Jc,ED]
def OZ{n:sx}(P:n.getLsbD 0=false):ot n=n>>>1:=by
 unfold ot;rw[P];simp
def LW(P:sx):pT (P&&&0xFFFFFF00#32)=P>>>8:=by
 have bit:∀n,n<8->((P&&&0xFFFFFF00#32)>>>n).getLsbD 0=false:=λn b=>by
  rw[BitVec.getLsbD_ushiftRight,BitVec.getLsbD_and,Nat.add_zero];have:(0xFFFFFF00#32:sx).getLsbD n=false:=by
   have c:(List.range 8).all (λn=>(0xFFFFFF00#32:sx).getLsbD n==false)=true:=by decide+kernel
   simpa using ZY.1 c n (List.mem_range.2 b)
  rw[this,Bool.and_false]
 have step:∀n,n<8->ot ((P&&&0xFFFFFF00#32)>>>n)=(P&&&0xFFFFFF00#32)>>>(n+1):=λn b=>by
  rw[OZ (bit n b),BitVec.shiftRight_add]
 have d:P&&&0xFFFFFF00#32=(P&&&0xFFFFFF00#32)>>>0:=sM
 unfold pT;rw[d,step 0 oM,step 1 oM,step 2 oM,step 3 oM,step 4 oM,step 5 oM,step 6 oM,step 7 oM];apply BitVec.eq_of_getLsbD_eq;intro a e;rw[BitVec.getLsbD_ushiftRight,BitVec.getLsbD_ushiftRight,BitVec.getLsbD_and]
 by_cases f:7+1+a<32
 ·have:(0xFFFFFF00#32:sx).getLsbD (7+1+a)=true:=by
   have c:(List.range 24).all (λa=>(0xFFFFFF00#32:sx).getLsbD (7+1+a)==true)=true:=by decide+kernel
   simpa using ZY.1 c a (List.mem_range.2 oM)
  rw[this,Bool.and_true]
 ·rw[BitVec.getLsbD_of_ge _ _ oM]
  simp
def kL:List Nat:=[0x00000000,0x77073096,0xEE0E612C,0x990951BA,0x076DC419,0x706AF48F,0xE963A535,0x9E6495A3,0x0EDB8832,0x79DCB8A4,0xE0D5E91E,0x97D2D988,0x09B64C2B,0x7EB17CBD,0xE7B82D07,0x90BF1D91]
def kM:List Nat:=[0x00000000,0x1DB71064,0x3B6E20C8,0x26D930AC,0x76DC4190,0x6B6B51F4,0x4DB26158,0x5005713C,0xEDB88320,0xF00F9344,0xD6D6A3E8,0xCB61B38C,0x9B64C2B0,0x86D3D2D4,0xA00AE278,0xBDBDF21C]
def LX(n:UInt8):pT (yA n)=BitVec.ofNat 32 (kL.getD (n.toNat % 16) 0) ^^^ BitVec.ofNat 32 (kM.getD (n.toNat/16) 0):=by
 have a:(List.range 256).all (λP=>pT (yA (UInt8.ofNat P))==BitVec.ofNat 32 (kL.getD ((UInt8.ofNat P).toNat % 16) 0) ^^^ BitVec.ofNat 32 (kM.getD ((UInt8.ofNat P).toNat/16) 0))=true:=by decide+kernel
 have:=ZY.1 a n.toNat (List.mem_range.2 n.toNat_lt);simpa using this
def OY(n:sx)(a:UInt8):lk n a=n>>>8 ^^^ BitVec.ofNat 32 (kL.getD ((a.toNat ^^^ n.toNat % 256) % 16) 0) ^^^ BitVec.ofNat 32 (kM.getD ((a.toNat ^^^ n.toNat % 256)/16) 0):=by
 have f:=a.toNat_lt;have m:a.toNat ^^^ n.toNat % 256<2 ^ 8:=Nat.xor_lt_two_pow oM oM;have b:(UInt8.ofNat (a.toNat ^^^ n.toNat % 256)).toNat=a.toNat ^^^ n.toNat % 256:=by
  rw[ZK];omega
 have c:=LX (UInt8.ofNat (a.toNat ^^^ n.toNat % 256));rw[b]at c;have g:n ^^^ yA a=yA (UInt8.ofNat (a.toNat ^^^ n.toNat % 256)) ^^^(n&&&0xFFFFFF00#32):=by
  apply BitVec.eq_of_getLsbD_eq;intro P d;unfold yA;rw[b,BitVec.getLsbD_xor,BitVec.getLsbD_xor,BitVec.getLsbD_and,BitVec.getLsbD_ofNat,BitVec.getLsbD_ofNat,Nat.testBit_xor];have h:(n.toNat % 256).testBit P=(decide (P<8)&&n.toNat.testBit P):=by
   rw[show 256=2 ^ 8 from rfl,Nat.testBit_mod_two_pow]
  have i:n.getLsbD P=n.toNat.testBit P:=rfl;rw[h,i];have j:(0xFFFFFF00#32:sx).getLsbD P=decide (8<=P):=by
   have k:(List.range 32).all (λP=>(0xFFFFFF00#32:sx).getLsbD P==decide (8<=P))=true:=by decide+kernel
   simpa using ZY.1 k P (List.mem_range.2 d)
  rw[j,Zy d]
  by_cases e:P<8
  ·rw[Zy e,Xv oM]
   cases n.toNat.testBit P<;>cases a.toNat.testBit P<;>rfl
  ·have l:a.toNat.testBit P=false:=Nat.testBit_lt_two_pow (Qk f (by
    have:=Nat.pow_le_pow_right (n:=2) oM (show 8<=P by omega);simpa using this))
   rw[Xv e,Zy oM,l]
   cases n.toNat.testBit P<;>rfl
 rw[LV,g,ED,LW,c]
 ac_rfl
def Nx(n:sx)(P:List UInt8):sx:= ~~~(P.foldl lk (~~~n))
def LU(n:List UInt8):sx:=Nx 0#32 n
end Go.aw
namespace Go.aw
open Go
structure iu where
 bytes:List UInt8
 pos:Nat
 sD:Int
def iu.num(n:iu):Int×Int×Nat:=rdNum (n.bytes.drop n.pos)
def fq(n:iu):Int×iu:=if n.sD≠0 then(0,n)else if n.num.1=0 then(n.num.2.1,⟨n.bytes,n.pos+n.num.2.2,0⟩)else(0,⟨n.bytes,n.pos,n.num.1⟩)
def bD(P:Int)(n:iu):Int×iu:=if n.sD≠0 then(0,n)else if n.num.1=0 then(if n.num.2.1<0\/P<n.num.2.1 then(0,⟨n.bytes,n.pos,3⟩)else(n.num.2.1,⟨n.bytes,n.pos+n.num.2.2,0⟩))else(0,⟨n.bytes,n.pos,n.num.1⟩)
def iv(n:iu):Int:=if n.sD=0/\n.pos<n.bytes.length then 5 else n.sD
def aW:Nat->iu->List Int×iu
 |0,n=>([],n)
 |k+1,n=>((aW k n).1++[(fq (aW k n).2).1],(fq (aW k n).2).2)
def kr(n:List UInt8):aM (rdNum n).2.1/\(rdNum n).2.2<=n.length/\(rdNum n).2.2<=9/\((rdNum n).1=0\/(rdNum n).1=4\/(rdNum n).1=5)/\((rdNum n).1=0->1<=(rdNum n).2.2):=by
 unfold rdNum
 cases n with
 |nil=>simp[aM]
 |cons P c=>
  simp only;generalize(if 16<P.toNat then P.toNat-16 else P.toNat)=a;have j:=NU (c.take a);generalize gU (c.take a)=b at j
  by_cases g:8<a
  ·rw[Zx g];simp[aM]
  rw[Zq g]
  by_cases h:c.length<a
  ·rw[Zx h];simp[aM]
  rw[Zq h]
  by_cases d:(0<a/\c.head? =some 0)\/(¬16<P.toNat/\2 ^ 63<=b)\/(16<P.toNat/\2 ^ 63<b)
  ·rw[Zx d];simp[aM]
  rw[Zq d];have i:(¬16<P.toNat->b<2 ^ 63)/\(16<P.toNat->b<=2 ^ 63):=by
   refine⟨λe=>?_,λe=>?_⟩
   ·exact Nat.lt_of_not_le λf=>d (.inr (.inl ⟨e,f⟩))
   ·exact Nat.le_of_not_lt λf=>d (.inr (.inr ⟨e,f⟩))
  refine⟨?_,by simp;omega,by show a+1<=9;omega,.inl rfl,λ_=>by show 1<=a+1;omega⟩;show aM (if 16<P.toNat then-(b:Int)else b);unfold aM;split
  ·have:=i.2 (by assumption);omega
  ·have:=i.1 (by assumption);omega
structure iu.Fit (r:iu):Prop where
 pos:r.pos<=r.bytes.length
 sD:r.sD=0\/r.sD=3\/r.sD=4\/r.sD=5
variable{e:Int}{s:List Int}{b0 u:List UInt8}{a:Nat}{T:iu}
def iu.Fit.int(P:T.Fit):(fq T).2.Fit/\aM (fq T).1/\(fq T).2.bytes=T.bytes:=by
 obtain⟨a,b,d,n,e⟩:=kr (T.bytes.drop T.pos);have c:=P.pos;rw[XZ]at b;unfold fq iu.num;split
 ·exact⟨P,by simp[aM],rfl⟩
 ·split
  ·exact⟨⟨by show T.pos+_<=T.bytes.length;omega,.inl rfl⟩,a,rfl⟩
  ·exact⟨⟨c,by show _\/_;rcases n with n|n|n<;>simp[n]⟩,by simp[aM],rfl⟩
def iu.Fit.count{r:iu}(a:r.Fit){m:Int}(P:0<=m):(bD m r).2.Fit/\0<=(bD m r).1/\(bD m r).1<=m/\(bD m r).2.bytes=r.bytes:=by
 obtain⟨d,c,e,n,f⟩:=kr (r.bytes.drop r.pos);have b:=a.pos;rw[XZ]at c;unfold bD iu.num;split
 ·exact⟨a,sM,P,rfl⟩
 ·split
  ·split
   ·exact⟨⟨b,.inr (.inl rfl)⟩,sM,P,rfl⟩
   ·exact⟨⟨by show r.pos+_<=r.bytes.length;omega,.inl rfl⟩,by simp only;omega,by simp only;omega,rfl⟩
  ·exact⟨⟨b,by show _\/_;rcases n with n|n|n<;>simp[n]⟩,by simp,P,rfl⟩
def iu.Fit.ints{n:iu}(b:n.Fit):∀k,(aW k n).2.Fit/\(∀a∈(aW k n).1,aM a)/\(aW k n).1.length=k/\(aW k n).2.bytes=n.bytes
 |0=>⟨b,by simp[aW],rfl,rfl⟩
 |k+1=>by
  obtain⟨c,d,e,f⟩:=iu.Fit.ints b k;obtain⟨g,h,i⟩:=c.int;refine⟨g,?_,?_,i.trans f⟩
  ·intro a P
   rcases Q6.1 P with P|P
   ·exact d a P
   ·rw[List.mem_singleton]at P;subst P;exact h
  ·simp[aW,e]
structure iu.At (r:iu) (b:List UInt8) (l:List UInt8):Prop where
 bytes:r.bytes=b
 pos:r.pos<=b.length
 sD:r.sD=0
 rest:b.drop r.pos=l
def iu.At.int(n:T.At u (eg e++b0))(P:aM e):(fq T).1=e/\(fq T).2.At u b0:=by
 have a:T.num=(0,e,(eg e).length):=by unfold iu.num;rw[n.bytes,n.rest];exact FG P b0
 have b:u.length-T.pos=(eg e).length+b0.length:=by
  have:=Zj List.length n.rest
  rwa [XZ,QX]at this
 have c:=n.pos;unfold fq;rw[a,Zq (by simp[n.sD]),Zx rfl];refine⟨rfl,n.bytes,by show T.pos+(eg e).length<=_;omega,rfl,?_⟩;show u.drop (T.pos+(eg e).length)=b0;rw[<-List.drop_drop,n.rest,List.drop_left]
def iu.At.count{r:iu}{n m:Int}(P:r.At u (eg n++b0))(a:aM n)(c:0<=n)(d:n<=m):(bD m r).1=n/\(bD m r).2.At u b0:=by
 have b:r.num=(0,n,(eg n).length):=by unfold iu.num;rw[P.bytes,P.rest];exact FG a b0
 have e:u.length-r.pos=(eg n).length+b0.length:=by
  have:=Zj List.length P.rest
  rwa [XZ,QX]at this
 have f:=P.pos;unfold bD;rw[b,Zq (by simp[P.sD]),Zx rfl,Zq cS];refine⟨rfl,P.bytes,by show r.pos+(eg n).length<=_;omega,rfl,?_⟩;show u.drop (r.pos+(eg n).length)=b0;rw[<-List.drop_drop,P.rest,List.drop_left]
def bk(n:List Int):List UInt8:=(n.map eg).flatten
def lq(n:Int)(P:List Int):bk (n::P)=eg n++bk P:=by simp[bk]
def je(n P:List Int):bk (n++P)=bk n++bk P:=by simp[bk]
def iu.At.ints:∀(n:List Int) {zs:List Int},T.At u (bk (n++zs)++b0)->(∀b∈n,aM b)->(aW n.length T).1=n/\(aW n.length T).2.At u (bk zs++b0):=by
 intro n;generalize P:n.length=d
 induction d generalizing n with
 |zero=>intro zs a _;have:=QW P;subst this;exact⟨rfl,a⟩
 |succ d c=>
  rcases List.eq_nil_or_concat n with rfl|⟨n,b,rfl⟩
  ·cases P
  rw[List.concat_eq_append]at P⊢;intro zs a e;rw[XQ]at a;rw[QX,List.length_singleton]at P;have c:=λ{zs:List Int}=>c n oM (zs:=zs);obtain⟨g,f⟩:=c a λh i=>e h (ZV _ i);rw[List.singleton_append,lq,XQ]at f;obtain⟨j,k⟩:=f.int (e b sM);exact⟨by show _++[_]=_;rw[g,j],k⟩
def iu.At.done(n:T.At u []):iv T=0:=by
 have P:=Zj List.length n.rest;rw[XZ,ZQ]at P;unfold iv;rw[n.bytes,n.sD,Zq oM]
structure ah where
 origin:Int
 seq:Int
 aB:Int
 aN:List Int
 aZ:Int
 agg:Int
 field:Int
 op:Int
 arg:Int
 key:Int
deriving DecidableEq
structure ah.Ok (e:ah):Prop where
 origin:aM e.origin
 seq:aM e.seq
 aB:aM e.aB
 aN:∀x∈e.aN,aM x
 aZ:aM e.aZ
 agg:aM e.agg
 field:aM e.field
 op:aM e.op
 arg:aM e.arg
 key:aM e.key
def BY:ah:=⟨0,0,0,[],0,0,0,0,0,0⟩
def Qp:BY.Ok:=by constructor<;>simp[BY,aM]
def f_(n:ah):List Int:=[n.origin,n.seq,n.aB,(n.aN.length:Int)]++n.aN++[n.aZ,n.agg,n.field,n.op,n.arg,n.key]
def jA(n:ah):List UInt8×Int:=if 64<n.aN.length then([],3)else(bk (f_ n),0)
def jQ(c:iu):ah×iu:=
 (λP=>(λa=>(λb=>(λn=>(⟨P.1.getD 0 0,P.1.getD 1 0,P.1.getD 2 0,b.1,n.1.getD 0 0,n.1.getD 1 0,n.1.getD 2 0,n.1.getD 3 0,n.1.getD 4 0,n.1.getD 5 0⟩,n.2))
  (aW 6 b.2)) (aW a.1.toNat a.2)) (bD 64 P.2)) (aW 3 c)
def jf(n:List UInt8):ah×Int:=if iv (jQ ⟨n,0,0⟩).2≠0 then(BY,iv (jQ ⟨n,0,0⟩).2)else((jQ ⟨n,0,0⟩).1,0)
def fv(a:∀n∈s,aM n)(P:Nat):aM (s.getD P 0):=by
 rw[QQ]
 cases b:s[P]? with
 |none=>simp[aM]
 |some n=>exact a n (QZ b)
def Qr{r:iu}(a:r.Fit):(jQ r).2.Fit/\(jQ r).1.Ok/\(jQ r).1.aN.length<=64:=by
 obtain⟨b,P,h,i⟩:=a.ints 3;obtain⟨c,j,k,l⟩:=b.count (m:=64) oM;obtain⟨d,e,f,m⟩:=c.ints (bD 64 (aW 3 r).2).1.toNat;obtain⟨g,n,o,p⟩:=d.ints 6;refine⟨g,⟨fv P 0,fv P 1,fv P 2,e,fv n 0,fv n 1,fv n 2,fv n 3,fv n 4,fv n 5⟩,?_⟩;show(aW _ _).1.length<=64;rw[f];omega
def Tf(n:List UInt8):(jf n).1.Ok/\(jf n).1.aN.length<=64:=by
 unfold jf;have:=Qr (r:=⟨n,0,0⟩) ⟨Qj _,.inl rfl⟩;split
 ·exact⟨Qp,by simp[BY]⟩
 ·exact this.2
variable{l:ah}
def Qs(n:l.Ok)(u:l.aN.length<=64):jf (bk (f_ l))=(l,0):=by
 have b:(iu.mk (bk (f_ l)) 0 0).At (bk (f_ l)) (bk ([l.origin,l.seq,l.aB]++((l.aN.length:Int)::(l.aN++[l.aZ,l.agg,l.field,l.op,l.arg,l.key])))++[]):=
  ⟨rfl,Qj _,rfl,by rw[List.drop_zero,List.append_nil];simp[f_]⟩
 generalize bk (f_ l)=P at b⊢;obtain⟨e,c⟩:=iu.At.ints [l.origin,l.seq,l.aB] b (by intro f a;simp at a;rcases a with rfl|rfl|rfl<;>first|exact n.origin|exact n.seq|exact n.aB);rw[lq,XQ]at c;obtain⟨g,h⟩:=c.count (m:=64) cw oM oM;obtain⟨i,j⟩:=iu.At.ints l.aN h n.aN;have k:(aW l.aN.length (bD 64 (aW [l.origin,l.seq,l.aB].length ⟨P,0,0⟩).2).2).2.At P (bk ([l.aZ,l.agg,l.field,l.op,l.arg,l.key]++[])++[]):=j;obtain⟨m,o⟩:=iu.At.ints [l.aZ,l.agg,l.field,l.op,l.arg,l.key] k (by intro f a;simp at a;rcases a with rfl|rfl|rfl|rfl|rfl|rfl<;>first|exact n.aZ|exact n.agg|exact n.field|exact n.op|exact n.arg|exact n.key);have d:jQ ⟨P,0,0⟩=(l,(aW 6 (aW l.aN.length (bD 64 (aW 3 ⟨P,0,0⟩).2).2).2).2):=by
  have p:(bD 64 (aW 3 ⟨P,0,0⟩).2).1=(l.aN.length:Int):=g;have q:(aW 3 ⟨P,0,0⟩).1=[l.origin,l.seq,l.aB]:=e;have r:(aW 6 (aW l.aN.length (bD 64 (aW 3 ⟨P,0,0⟩).2).2).2).1=[l.aZ,l.agg,l.field,l.op,l.arg,l.key]:=m;have s:(aW l.aN.length (bD 64 (aW 3 ⟨P,0,0⟩).2).2).1=l.aN:=i;unfold jQ;simp only[p,q,Qx,r,s]
  rfl
 have t:iv (jQ ⟨P,0,0⟩).2=0:=by rw[d];exact iu.At.done (by simpa[bk]using o)
 unfold jf;rw[t,Zq sM,d]
def QC(n:Nat):List UInt8:=[UInt8.ofNat (n/16777216),UInt8.ofNat (n/65536),UInt8.ofNat (n/256),UInt8.ofNat n]
def kO(P:Int)(n:List UInt8):List UInt8:=[UInt8.ofNat P.toNat,UInt8.ofNat (n.length/65536),UInt8.ofNat (n.length/256),UInt8.ofNat n.length]++n
def cG(n:Int)(P:List UInt8):List UInt8:=kO n P++QC (LU (kO n P)).toNat++[10]
def k_(n:Int)(P:List UInt8):List UInt8×Int:=if n<1\/255<n then([],2)else if 65536<P.length then([],5)else(cG n P,0)
structure FrV where
 kind:Int
 body:List UInt8
 n:Nat
 no:Int
def bt(n:List UInt8):FrV:=if n.length<4 then⟨0,[],0,4⟩else if n.getD 0 0=0 then⟨0,[],0,2⟩else
 (λP=>if 65536<P then⟨0,[],0,5⟩else if n.length<P+9 then⟨0,[],0,4⟩else
  if n.take (P+9)=cG (n.getD 0 0).toNat ((n.drop 4).take P)then⟨(n.getD 0 0).toNat,(n.drop 4).take P,P+9,0⟩else⟨0,[],0,6⟩)
  ((n.getD 1 0).toNat*65536+(n.getD 2 0).toNat*256+(n.getD 3 0).toNat)
def fe(P:Int)(n:List UInt8):(cG P n).length=n.length+9:=by simp[cG,kO,QC]
def wo(n:(bt u).no=0):(bt u).n<=u.length/\9<=(bt u).n/\(bt u).n=(bt u).body.length+9:=by
 unfold bt at n⊢;generalize(u.getD 1 0).toNat*65536+(u.getD 2 0).toNat*256+(u.getD 3 0).toNat=e at n⊢;split at n
 ·cases n
 rename_i P;rw[Zq P];split at n
 ·cases n
 rename_i a;rw[Zq a];simp only at n⊢;split at n
 ·cases n
 rename_i b;rw[Zq b];split at n
 ·cases n
 rename_i c;rw[Zq c];split at n
 ·rename_i d
  rw[Zx d];refine⟨by simp only;omega,by simp only;omega,by simp;omega⟩
 ·cases n
def Tx(n:a<=65536):(UInt8.ofNat (a/65536)).toNat*65536+(UInt8.ofNat (a/256)).toNat*256+(UInt8.ofNat a).toNat=a:=by
 simp only[ZK];omega
def FB{k:Int}{body r:List UInt8}(h:1<=k)(i:k<=255)(P:body.length<=65536):bt (cG k body++r)=⟨k,body,body.length+9,0⟩:=by
 have n:(UInt8.ofNat k.toNat).toNat=k.toNat:=by rw[ZK];omega
 have a:(cG k body++r).getD 0 0=UInt8.ofNat k.toNat:=rfl;have b:(cG k body++r).getD 1 0=UInt8.ofNat (body.length/65536):=rfl;have c:(cG k body++r).getD 2 0=UInt8.ofNat (body.length/256):=rfl;have d:(cG k body++r).getD 3 0=UInt8.ofNat body.length:=rfl;have e:((cG k body++r).drop 4).take body.length=body:=by
  have:(cG k body++r).drop 4=body++(QC (LU (kO k body)).toNat++[10]++r):=by simp[cG,kO]
  rw[this,List.take_left]
 have f:=fe k body;unfold bt;rw[a,b,c,d,Tx P,Zq (by rw[QX];omega),Zq (by intro g;have:=Zj UInt8.toNat g;rw[n]at this;simp at this;omega)];simp only[e,n];rw[Zq oM,Zq (by rw[QX];omega),Zx]
 ·congr 1;omega
 ·rw[<-f,List.take_left]
  congr 1;omega
def Yt(a:List UInt8)(n:a.length=4)(P:Nat)(j:P<2 ^ 32):gU a=P↔a=QC P:=by
 match a,n with
 |[b,c,d,e],_=>
  have k:=b.toNat_lt;have l:=c.toNat_lt;have m:=d.toNat_lt;have o:=e.toNat_lt;have i:gU [b,c,d,e]=((b.toNat*256+c.toNat)*256+d.toNat)*256+e.toNat:=by simp[gU]
  rw[i];constructor
  ·intro n
   unfold QC;have f:∀(g:UInt8) (h:Nat),g.toNat=h % 256->g=UInt8.ofNat h:=λg h n=>UInt8.toNat_inj.1 (by rw[ZK,n]);rw[f b (P/16777216) oM,f c (P/65536) oM,f d (P/256) oM,f e P oM]
  ·intro n
   unfold QC at n;simp only[List.cons.injEq,and_true]at n;obtain⟨rfl,rfl,rfl,rfl⟩:=n;simp only[ZK];omega
def VB:∀{P:List UInt8},4<=P.length->P.take 4=[P.getD 0 0,P.getD 1 0,P.getD 2 0,P.getD 3 0]
 |x::a::b::c::d,_=>rfl
 |[],n=>by simp at n
 |[_],n=>by simp at n
 |[_,_],n=>by simp at n
 |[_,_,_],n=>by simp at n
def Ws{b:List UInt8}{n:Nat}(l:n+9<=b.length)(m:(b.getD 1 0).toNat*65536+(b.getD 2 0).toNat*256+(b.getD 3 0).toNat=n)(o:n<=65536):
  b.take (n+9)=cG (b.getD 0 0).toNat ((b.drop 4).take n)↔((LU (b.take (4+n))).toNat=gU ((b.drop (4+n)).take 4)/\b.getD (8+n) 0=10):=by
 have g:((b.drop 4).take n).length=n:=by simp;omega
 have P:∀(a:UInt8) (c:Nat),a.toNat=c % 256->UInt8.ofNat c=a:=λa c d=>UInt8.toNat_inj.1 (by rw[ZK,d]);have p:=(b.getD 1 0).toNat_lt;have q:=(b.getD 2 0).toNat_lt;have r:=(b.getD 3 0).toNat_lt;have h:kO (b.getD 0 0).toNat ((b.drop 4).take n)=b.take (4+n):=by
  unfold kO;rw[g,Qx,P (b.getD 0 0) _ (by have:=(b.getD 0 0).toNat_lt;omega),P (b.getD 1 0) (n/65536) oM,P (b.getD 2 0) (n/256) oM,P (b.getD 3 0) n oM];rw[List.take_add]
  congr 1
  exact(VB oM).symm
 have i:b.take (n+9)=b.take (4+n)++(b.drop (4+n)).take 4++[b.getD (8+n) 0]:=by
  rw[show n+9=(4+n)+(4+1) by omega,List.take_add,XQ,List.take_add (l:=b.drop (4+n)),List.drop_drop]
  congr 2
  rw[show 4+n+4=8+n by omega,QQ,Qq oM,Option.getD_some];rw[X4 oM]
  rfl
 unfold cG;rw[h,i];have j:((b.drop (4+n)).take 4).length=4:=by simp;omega
 have k:(LU (b.take (4+n))).toNat<2 ^ 32:=(LU (b.take (4+n))).isLt;rw[eq_comm (b:=gU _),Yt _ j _ k];constructor
 ·intro d
  obtain⟨e,f⟩:=List.append_inj' d rfl;exact⟨List.append_cancel_left e,by simpa using f⟩
 ·rintro⟨e,f⟩
  rw[e,f]
def bE(n:List UInt8):List ah×Nat:=
 if P:(bt n).no=0/\(bt n).kind=1/\(jf (bt n).body).2=0 then((jf (bt n).body).1::(bE (n.drop (bt n).n)).1,(bt n).n+(bE (n.drop (bt n).n)).2)else([],0)
termination_by n.length
decreasing_by all_goals(have:=wo P.1;simp;omega)
def y_(n:(bt u).no=0/\(bt u).kind=1/\(jf (bt u).body).2=0):bE u=((jf (bt u).body).1::(bE (u.drop (bt u).n)).1,(bt u).n+(bE (u.drop (bt u).n)).2):=by
 rw[bE,dif_pos n]
def CR(n:¬((bt u).no=0/\(bt u).kind=1/\(jf (bt u).body).2=0)):bE u=([],0):=by
 rw[bE,dif_neg n]
def Qt(n:aM e):(eg e).length<=9:=by
 unfold aM at n;have:=CE (u:=e.natAbs) oM;simp[eg];omega
def fZ:∀{l:List Int},(∀P∈l,aM P)->(bk l).length<=9*l.length
 |[],_=>by simp[bk]
 |n::l,a=>by
  rw[lq,QX,Xq];have c:=Qt (a n (QV ..));have d:=fZ (l:=l) λP b=>a P (QJ _ b);omega
def ah.Ok.ints(n:l.Ok)(b:l.aN.length<=4611686018427387904):∀a∈f_ l,aM a:=by
 intro a P;simp only[f_,Q6,Q2,List.not_mem_nil,or_false]at P;rcases P with((rfl|rfl|rfl|rfl)|P)|(rfl|rfl|rfl|rfl|rfl|rfl)
 ·exact n.origin
 ·exact n.seq
 ·exact n.aB
 ·unfold aM;omega
 ·exact n.aN a P
 ·exact n.aZ
 ·exact n.agg
 ·exact n.field
 ·exact n.op
 ·exact n.arg
 ·exact n.key
def Fj(n:l.Ok)(P:l.aN.length<=64):(bk (f_ l)).length<=666:=by
 have:=fZ (n.ints oM);have a:(f_ l).length=10+l.aN.length:=by simp[f_];omega
 omega
def om(n:ah):List UInt8:=cG 1 (bk (f_ n))
def Kp(n:l.Ok)(P:l.aN.length<=64):(om l).length<=675/\9<=(om l).length:=by
 have:=Fj n P;unfold om;rw[fe];omega
def Tz(n:l.Ok)(P:l.aN.length<=64)(a:List UInt8):bt (om l++a)=⟨1,bk (f_ l),(om l).length,0⟩:=by
 unfold om;rw[FB dC dC (by have:=Fj n P;omega),fe]
def Dg(P:l.Ok)(a:l.aN.length<=64)(n:List UInt8):bE (om l++n)=(l::(bE n).1,(om l).length+(bE n).2):=by
 have b:=Tz P a n;have c:=Qs P a;rw[y_ (by rw[b];exact⟨rfl,rfl,by rw[c]⟩),b,c,List.drop_left]
def az(n:List ah):List UInt8:=(n.map om).flatten
def iz(n:ah)(P:List ah):az (n::P)=om n++az P:=by simp[az]
def gB(n P:List ah):az (n++P)=az n++az P:=by simp[az]
def yQ:∀{n:List ah},(∀e∈n,e.Ok/\e.aN.length<=64)->∀P,bE (az n++P)=(n++(bE P).1,(az n).length+(bE P).2)
 |[],_,P=>by simp[az]
 |e::n,a,P=>by
  obtain⟨b,c⟩:=a e (QV ..);rw[iz,XQ,Dg b c,yQ (λd f=>a d (QJ _ f)),QX];simp only[List.cons_append,Nat.add_assoc]
def zt(n:u.length<4):(bt u).no≠0:=by unfold bt;rw[Zx n];simp
def Nb(b:u.length<=65536)(g:a<(cG e u).length):(bt ((cG e u).take a)).no≠0:=by
 by_cases h:a<4
 ·exact zt (by rw[Qy];omega)
 have n:∀P,P<4->((cG e u).take a).getD P 0=(cG e u).getD P 0:=λP i=>by
  rw[QQ,QQ,Xw,Zx oM]
 have j:=fe e u;have c:(cG e u).getD 1 0=UInt8.ofNat (u.length/65536):=rfl;have d:(cG e u).getD 2 0=UInt8.ofNat (u.length/256):=rfl;have f:(cG e u).getD 3 0=UInt8.ofNat u.length:=rfl;unfold bt;rw[n 0 oM,n 1 oM,n 2 oM,n 3 oM,c,d,f,Tx b];split
 ·simp
 split
 ·simp
 simp only;rw[Zq oM,Zx (by rw[Qy];omega)];simp
def zu(n:(bt u).no≠0):bE u=([],0):=CR λP=>n P.1
def rY:bE []=([],0):=zu (zt sM)
def wL:∀{l:List ah},(∀e∈l,e.Ok/\e.aN.length<=64)->∀(P:Nat),∃n,n<=l.length/\bE ((az l).take P)=(l.take n,(az (l.take n)).length)/\(az (l.take n)).length<=P/\(n<l.length->P<(az (l.take (n+1))).length)
 |[],_,P=>⟨0,Q4 _,by simp[az,rY],by simp[az],sM⟩
 |e::l,a,P=>by
  obtain⟨b,c⟩:=a e (QV ..)
  by_cases d:P<(om e).length
  ·refine⟨0,Qj _,?_,by simp[az],λ_=>by simpa[az]using d⟩
   rw[iz,List.take_append_of_le_length oM,zu]
   ·rfl
   ·exact Nb (by have:=Fj b c;omega) d
  ·obtain⟨n,f,g,m,h⟩:=wL (l:=l) (λi j=>a i (QJ _ j)) (P-(om e).length)
   refine⟨n+1,by simpa using f,?_,?_,λk=>?_⟩
   ·rw[iz,List.take_append,Qz oM,Dg b c,g,Zw,iz,QX]
   ·rw[Zw,iz,QX];omega
   ·have:=h (by simpa using k)
    rw[Zw,iz,QX];omega
def gZ(n:ah):List UInt8×Int:=if(jA n).2≠0 then([],(jA n).2)else k_ 1 (jA n).1
end Go.aw
namespace Go.Proofs.YtjgjkeponbeekaaGreatDoor
open Go.aw
def tY:kD LL 237 5 1 1:=⟨kR,kR,dC⟩
end Go.Proofs.YtjgjkeponbeekaaGreatDoor
namespace Go.Proofs
open Go.Shelf
def Tryz.EH:Go.Shelf.Ren:=⟨λ|7=>223|10=>282|n=>n,λ|23=>141|26=>9|3=>236|28=>242|0=>0|27=>241|33=>319|4=>4|n=>n,λ|n=>n⟩
def Tryz.tB:Go.Proofs.SlLaysZ.n7 Tryz.prog Tryz.EH:={
 mixed:=by kernel_rfl
 f7:=⟨Tryz.f223.name,bv,Tryz.func223.trans bn⟩
 f10:=⟨Tryz.f282.name,bv,Tryz.func282.trans bn⟩
 t0:=Tryz.underlying0
 a0:=Tryz.isAgg0
 z0:=Tryz.sizeOf0
 v0:=Tryz.zeroValue0
 t4:=Tryz.underlying4
 a4:=Tryz.isAgg4
 z4:=Tryz.sizeOf4
 v4:=Tryz.zeroValue4
 t23:=Tryz.underlying141
 a23:=Tryz.isAgg141
 z23:=Tryz.sizeOf141
 v23:=Tryz.zeroValue141
 t26:=Tryz.underlying9
 a26:=Tryz.isAgg9
 z26:=Tryz.sizeOf9
 v26:=Tryz.zeroValue9
 t27:=Tryz.underlying241
 a27:=Tryz.isAgg241
 z27:=Tryz.sizeOf241
 v27:=Tryz.zeroValue241
 t28:=Tryz.underlying242
 a28:=Tryz.isAgg242
 z28:=Tryz.sizeOf242
 v28:=Tryz.zeroValue242
 t33:=Tryz.underlying319
 a33:=Tryz.isAgg319
 z33:=Tryz.sizeOf319
 v33:=Tryz.zeroValue319}
def Tryz.yC:Go.Shelf.Ren:=⟨λ|6=>222|8=>280|9=>281|11=>322|13=>218|12=>323|23=>276|24=>277|14=>349|15=>350|16=>351|17=>352|18=>353|19=>354|20=>355|21=>356|22=>357|25=>372|26=>317|27=>318|28=>373|29=>374|30=>375|31=>382|n=>n,λ|26=>9|28=>242|24=>271|0=>0|3=>3|37=>324|48=>365|50=>367|4=>4|40=>359|39=>358|45=>273|5=>5|9=>9|51=>400|55=>375|57=>426|58=>427|33=>319|n=>n,λ|n=>n⟩
def Tryz.Uk:Go.Proofs.SlLaysZ.n6 Tryz.prog Tryz.yC:={
 mixed:=by kernel_rfl
 f6:=⟨Tryz.f222.name,bv,Tryz.func222.trans bn⟩
 f8:=⟨Tryz.f280.name,bv,Tryz.func280.trans bn⟩
 f11:=⟨Tryz.f322.name,bv,Tryz.func322.trans bn⟩
 t0:=Tryz.underlying0
 a0:=Tryz.isAgg0
 z0:=Tryz.sizeOf0
 v0:=Tryz.zeroValue0
 t24:=Tryz.underlying271
 a24:=Tryz.isAgg271
 z24:=Tryz.sizeOf271
 v24:=Tryz.zeroValue271
 t26:=Tryz.underlying9
 a26:=Tryz.isAgg9
 z26:=Tryz.sizeOf9
 v26:=Tryz.zeroValue9
 t28:=Tryz.underlying242
 a28:=Tryz.isAgg242
 z28:=Tryz.sizeOf242
 v28:=Tryz.zeroValue242
 i26:=by kernel_rfl}
def Tryz.Qg:Go.Shelf.Ren:=⟨λ|6=>281|8=>218|9=>323|19=>276|20=>277|21=>349|22=>350|23=>351|24=>352|25=>353|26=>354|27=>355|28=>356|29=>357|36=>372|31=>317|32=>318|37=>373|38=>374|39=>375|41=>382|n=>n,λ|27=>271|29=>9|3=>3|32=>324|26=>271|0=>0|44=>365|46=>367|4=>4|36=>359|35=>358|41=>273|5=>5|9=>9|53=>400|57=>375|63=>426|64=>427|n=>n,λ|n=>n⟩
def Tryz.Vp:Go.Proofs.SlLaysM.n6 Tryz.prog Tryz.Qg:={
 mixed:=by kernel_rfl
 f6:=⟨Tryz.f281.name,bv,Tryz.func281.trans bn⟩
 f8:=Tryz.func218.trans bn
 f9:=⟨Tryz.f323.name,bv,Tryz.func323.trans bn⟩
 f19:=Tryz.func276.trans bn
 f20:=Tryz.func277.trans bn
 f21:=⟨Tryz.f349.name,bv,Tryz.func349.trans bn⟩
 f22:=⟨Tryz.f350.name,bv,Tryz.func350.trans bn⟩
 f23:=⟨Tryz.f351.name,bv,Tryz.func351.trans bn⟩
 f24:=⟨Tryz.f352.name,bv,Tryz.func352.trans bn⟩
 f25:=⟨Tryz.f353.name,bv,Tryz.func353.trans bn⟩
 f26:=⟨Tryz.f354.name,bv,Tryz.func354.trans bn⟩
 f27:=⟨Tryz.f355.name,bv,Tryz.func355.trans bn⟩
 f28:=⟨Tryz.f356.name,bv,Tryz.func356.trans bn⟩
 f29:=⟨Tryz.f357.name,bv,Tryz.func357.trans bn⟩
 f31:=Tryz.func317.trans bn
 f32:=Tryz.func318.trans bn
 f36:=⟨Tryz.f372.name,bv,Tryz.func372.trans bn⟩
 f37:=⟨Tryz.f373.name,bv,Tryz.func373.trans bn⟩
 f38:=⟨Tryz.f374.name,bv,Tryz.func374.trans bn⟩
 f39:=⟨Tryz.f375.name,bv,Tryz.func375.trans bn⟩
 f41:=⟨Tryz.f382.name,bv,Tryz.func382.trans bn⟩
 t0:=Tryz.underlying0
 a0:=Tryz.isAgg0
 z0:=Tryz.sizeOf0
 v0:=Tryz.zeroValue0
 t3:=Tryz.underlying3
 a3:=Tryz.isAgg3
 z3:=Tryz.sizeOf3
 v3:=Tryz.zeroValue3
 t4:=Tryz.underlying4
 a4:=Tryz.isAgg4
 z4:=Tryz.sizeOf4
 v4:=Tryz.zeroValue4
 t5:=Tryz.underlying5
 a5:=Tryz.isAgg5
 z5:=Tryz.sizeOf5
 v5:=Tryz.zeroValue5
 t9:=Tryz.underlying9
 a9:=Tryz.isAgg9
 z9:=Tryz.sizeOf9
 v9:=Tryz.zeroValue9
 t26:=Tryz.underlying271
 a26:=Tryz.isAgg271
 z26:=Tryz.sizeOf271
 v26:=Tryz.zeroValue271
 t27:=Tryz.underlying271
 a27:=Tryz.isAgg271
 z27:=Tryz.sizeOf271
 v27:=Tryz.zeroValue271
 t29:=Tryz.underlying9
 a29:=Tryz.isAgg9
 z29:=Tryz.sizeOf9
 v29:=Tryz.zeroValue9
 t32:=Tryz.underlying324
 a32:=Tryz.isAgg324
 z32:=Tryz.sizeOf324
 v32:=Tryz.zeroValue324
 t35:=Tryz.underlying358
 a35:=Tryz.isAgg358
 z35:=Tryz.sizeOf358
 v35:=Tryz.zeroValue358
 t36:=Tryz.underlying359
 a36:=Tryz.isAgg359
 z36:=Tryz.sizeOf359
 v36:=Tryz.zeroValue359
 t41:=Tryz.underlying273
 a41:=Tryz.isAgg273
 z41:=Tryz.sizeOf273
 v41:=Tryz.zeroValue273
 t44:=Tryz.underlying365
 a44:=Tryz.isAgg365
 z44:=Tryz.sizeOf365
 v44:=Tryz.zeroValue365
 t46:=Tryz.underlying367
 a46:=Tryz.isAgg367
 z46:=Tryz.sizeOf367
 v46:=Tryz.zeroValue367
 t53:=Tryz.underlying400
 a53:=Tryz.isAgg400
 z53:=Tryz.sizeOf400
 v53:=Tryz.zeroValue400
 t57:=Tryz.underlying375
 a57:=Tryz.isAgg375
 z57:=Tryz.sizeOf375
 v57:=Tryz.zeroValue375
 t63:=Tryz.underlying426
 a63:=Tryz.isAgg426
 z63:=Tryz.sizeOf426
 v63:=Tryz.zeroValue426
 t64:=Tryz.underlying427
 a64:=Tryz.isAgg427
 z64:=Tryz.sizeOf427
 v64:=Tryz.zeroValue427}
def Tryz.Kt:Go.Shelf.Ren:=⟨λ|137=>358|217=>376|266=>383|n=>n,λ|9=>9|5=>5|3=>3|n=>n,λ|n=>n⟩
def Tryz.Uz:Go.Proofs.Lays.n137 Tryz.prog Tryz.Kt:={
 mixed:=by kernel_rfl
 f137:=Tryz.func358.trans bn
 f217:=Tryz.func376.trans bn
 f266:=Tryz.func383.trans bn
 t3:=Tryz.underlying3
 a3:=Tryz.isAgg3
 z3:=Tryz.sizeOf3
 v3:=Tryz.zeroValue3
 t5:=Tryz.underlying5
 a5:=Tryz.isAgg5
 z5:=Tryz.sizeOf5
 v5:=Tryz.zeroValue5
 t9:=Tryz.underlying9
 a9:=Tryz.isAgg9
 z9:=Tryz.sizeOf9
 v9:=Tryz.zeroValue9}
def Tryz.Ku:Go.Shelf.Ren:=⟨λ|129=>277|n=>n,λ|53=>367|3=>3|4=>4|46=>324|5=>5|9=>9|n=>n,λ|n=>n⟩
def Tryz.UR:Go.Proofs.Lays.n129 Tryz.prog Tryz.Ku:={
 mixed:=by kernel_rfl
 f129:=Tryz.func277.trans bn
 t3:=Tryz.underlying3
 a3:=Tryz.isAgg3
 z3:=Tryz.sizeOf3
 v3:=Tryz.zeroValue3
 t4:=Tryz.underlying4
 a4:=Tryz.isAgg4
 z4:=Tryz.sizeOf4
 v4:=Tryz.zeroValue4
 t5:=Tryz.underlying5
 a5:=Tryz.isAgg5
 z5:=Tryz.sizeOf5
 v5:=Tryz.zeroValue5
 t9:=Tryz.underlying9
 a9:=Tryz.isAgg9
 z9:=Tryz.sizeOf9
 v9:=Tryz.zeroValue9
 t46:=Tryz.underlying324
 a46:=Tryz.isAgg324
 z46:=Tryz.sizeOf324
 v46:=Tryz.zeroValue324
 t53:=Tryz.underlying367
 a53:=Tryz.isAgg367
 z53:=Tryz.sizeOf367
 v53:=Tryz.zeroValue367}
def Tryz.HM:Go.Shelf.Ren:=⟨λ|171=>213|243=>267|246=>315|283=>344|284=>345|285=>346|286=>347|129=>277|317=>368|318=>369|319=>370|320=>371|337=>380|338=>381|n=>n,λ|3=>3|9=>9|2=>2|4=>4|171=>422|0=>0|53=>367|37=>237|5=>5|173=>424|212=>441|51=>365|20=>20|213=>442|46=>324|232=>448|233=>449|n=>n,λ|17=>4|18=>6|19=>7|n=>n⟩
def Tryz.Td:Go.Proofs.LaysM.n171 Tryz.prog Tryz.HM:={
 mixed:=by kernel_rfl
 f129:=Tryz.func277.trans bn
 f171:=Tryz.func213.trans bn
 f243:=Tryz.func267.trans bn
 f246:=Tryz.func315.trans bn
 f283:=Tryz.func344.trans bn
 f284:=Tryz.func345.trans bn
 f285:=Tryz.func346.trans bn
 f286:=Tryz.func347.trans bn
 f317:=Tryz.func368.trans bn
 f318:=Tryz.func369.trans bn
 f319:=Tryz.func370.trans bn
 f320:=Tryz.func371.trans bn
 f337:=Tryz.func380.trans bn
 f338:=Tryz.func381.trans bn
 t0:=Tryz.underlying0
 a0:=Tryz.isAgg0
 z0:=Tryz.sizeOf0
 v0:=Tryz.zeroValue0
 t2:=Tryz.underlying2
 a2:=Tryz.isAgg2
 z2:=Tryz.sizeOf2
 v2:=Tryz.zeroValue2
 t3:=Tryz.underlying3
 a3:=Tryz.isAgg3
 z3:=Tryz.sizeOf3
 v3:=Tryz.zeroValue3
 t4:=Tryz.underlying4
 a4:=Tryz.isAgg4
 z4:=Tryz.sizeOf4
 v4:=Tryz.zeroValue4
 t5:=Tryz.underlying5
 a5:=Tryz.isAgg5
 z5:=Tryz.sizeOf5
 v5:=Tryz.zeroValue5
 t9:=Tryz.underlying9
 a9:=Tryz.isAgg9
 z9:=Tryz.sizeOf9
 v9:=Tryz.zeroValue9
 t20:=Tryz.underlying20
 a20:=Tryz.isAgg20
 z20:=Tryz.sizeOf20
 v20:=Tryz.zeroValue20
 t37:=Tryz.underlying237
 a37:=Tryz.isAgg237
 z37:=Tryz.sizeOf237
 v37:=Tryz.zeroValue237
 t46:=Tryz.underlying324
 a46:=Tryz.isAgg324
 z46:=Tryz.sizeOf324
 v46:=Tryz.zeroValue324
 t51:=Tryz.underlying365
 a51:=Tryz.isAgg365
 z51:=Tryz.sizeOf365
 v51:=Tryz.zeroValue365
 t53:=Tryz.underlying367
 a53:=Tryz.isAgg367
 z53:=Tryz.sizeOf367
 v53:=Tryz.zeroValue367
 t171:=Tryz.underlying422
 a171:=Tryz.isAgg422
 z171:=Tryz.sizeOf422
 v171:=Tryz.zeroValue422
 t173:=Tryz.underlying424
 a173:=Tryz.isAgg424
 z173:=Tryz.sizeOf424
 v173:=Tryz.zeroValue424
 t212:=Tryz.underlying441
 a212:=Tryz.isAgg441
 z212:=Tryz.sizeOf441
 v212:=Tryz.zeroValue441
 t213:=Tryz.underlying442
 a213:=Tryz.isAgg442
 z213:=Tryz.sizeOf442
 t232:=Tryz.underlying448
 a232:=Tryz.isAgg448
 z232:=Tryz.sizeOf448
 v232:=Tryz.zeroValue448
 t233:=Tryz.underlying449
 a233:=Tryz.isAgg449
 z233:=Tryz.sizeOf449
 v233:=Tryz.zeroValue449
 g17:=by kernel_rfl
 g18:=by kernel_rfl
 g19:=by kernel_rfl
 i0:=by kernel_rfl
 i2:=by kernel_rfl
 i3:=by kernel_rfl
 i4:=by kernel_rfl
 i5:=by kernel_rfl
 i9:=by kernel_rfl
 i20:=by kernel_rfl
 i37:=by kernel_rfl
 i46:=by kernel_rfl
 i51:=by kernel_rfl
 i53:=by kernel_rfl
 i171:=by kernel_rfl
 i173:=by kernel_rfl
 i212:=by kernel_rfl
 i232:=by kernel_rfl
 i233:=by kernel_rfl
 m17:=by kernel_rfl
 m18:=by kernel_rfl
 m19:=by kernel_rfl}
def Tryz.FP:Go.Shelf.Ren:=⟨λ|7=>198|10=>250|n=>n,λ|23=>148|26=>3|3=>3|28=>299|0=>0|27=>298|33=>83|4=>4|n=>n,λ|n=>n⟩
def Tryz.Yn:Go.Proofs.SlLaysZI.n7 Tryz.prog Tryz.FP:={
 mixed:=by kernel_rfl
 f7:=⟨Tryz.f198.name,bv,Tryz.func198.trans bn⟩
 f10:=⟨Tryz.f250.name,bv,Tryz.func250.trans bn⟩
 t0:=Tryz.underlying0
 a0:=Tryz.isAgg0
 z0:=Tryz.sizeOf0
 v0:=Tryz.zeroValue0
 t4:=Tryz.underlying4
 a4:=Tryz.isAgg4
 z4:=Tryz.sizeOf4
 v4:=Tryz.zeroValue4
 t23:=Tryz.underlying148
 a23:=Tryz.isAgg148
 z23:=Tryz.sizeOf148
 v23:=Tryz.zeroValue148
 t26:=Tryz.underlying3
 a26:=Tryz.isAgg3
 z26:=Tryz.sizeOf3
 v26:=Tryz.zeroValue3
 t27:=Tryz.underlying298
 a27:=Tryz.isAgg298
 z27:=Tryz.sizeOf298
 v27:=Tryz.zeroValue298
 t28:=Tryz.underlying299
 a28:=Tryz.isAgg299
 z28:=Tryz.sizeOf299
 v28:=Tryz.zeroValue299
 t33:=Tryz.underlying83
 a33:=Tryz.isAgg83
 z33:=Tryz.sizeOf83
 v33:=Tryz.zeroValue83}
def Tryz.zh:Go.Shelf.Ren:=⟨λ|6=>197|8=>248|9=>249|11=>306|13=>218|12=>307|23=>276|24=>277|14=>331|15=>332|16=>333|17=>334|18=>335|19=>336|20=>337|21=>338|22=>339|25=>364|26=>317|27=>318|28=>365|29=>366|30=>278|31=>378|n=>n,λ|26=>3|28=>299|24=>42|0=>0|3=>3|37=>324|48=>365|50=>367|4=>4|40=>359|39=>358|45=>273|5=>5|9=>9|51=>400|55=>375|57=>426|58=>427|33=>83|n=>n,λ|n=>n⟩
def Tryz.Vg:Go.Proofs.SlLaysZI.n6 Tryz.prog Tryz.zh:={
 mixed:=by kernel_rfl
 f6:=⟨Tryz.f197.name,bv,Tryz.func197.trans bn⟩
 f8:=⟨Tryz.f248.name,bv,Tryz.func248.trans bn⟩
 f11:=⟨Tryz.f306.name,bv,Tryz.func306.trans bn⟩
 t0:=Tryz.underlying0
 a0:=Tryz.isAgg0
 z0:=Tryz.sizeOf0
 v0:=Tryz.zeroValue0
 t24:=Tryz.underlying42
 a24:=Tryz.isAgg42
 z24:=Tryz.sizeOf42
 v24:=Tryz.zeroValue42
 t26:=Tryz.underlying3
 a26:=Tryz.isAgg3
 z26:=Tryz.sizeOf3
 v26:=Tryz.zeroValue3
 t28:=Tryz.underlying299
 a28:=Tryz.isAgg299
 z28:=Tryz.sizeOf299
 v28:=Tryz.zeroValue299
 i26:=by kernel_rfl}
def Tryz.Qh:Go.Shelf.Ren:=⟨λ|5=>249|8=>218|7=>307|19=>276|20=>277|10=>331|11=>332|12=>333|13=>334|14=>335|15=>336|16=>337|17=>338|18=>339|30=>364|31=>317|32=>318|33=>365|34=>366|35=>278|40=>378|n=>n,λ|23=>42|25=>3|3=>3|32=>324|22=>42|0=>0|44=>365|46=>367|4=>4|36=>359|35=>358|41=>273|5=>5|9=>9|53=>400|57=>375|63=>426|64=>427|n=>n,λ|n=>n⟩
def Tryz.wO:Go.Proofs.SlLaysM.n5 Tryz.prog Tryz.Qh:={
 mixed:=by kernel_rfl
 f5:=⟨Tryz.f249.name,bv,Tryz.func249.trans bn⟩
 f7:=⟨Tryz.f307.name,bv,Tryz.func307.trans bn⟩
 f8:=Tryz.func218.trans bn
 f10:=⟨Tryz.f331.name,bv,Tryz.func331.trans bn⟩
 f11:=⟨Tryz.f332.name,bv,Tryz.func332.trans bn⟩
 f12:=⟨Tryz.f333.name,bv,Tryz.func333.trans bn⟩
 f13:=⟨Tryz.f334.name,bv,Tryz.func334.trans bn⟩
 f14:=⟨Tryz.f335.name,bv,Tryz.func335.trans bn⟩
 f15:=⟨Tryz.f336.name,bv,Tryz.func336.trans bn⟩
 f16:=⟨Tryz.f337.name,bv,Tryz.func337.trans bn⟩
 f17:=⟨Tryz.f338.name,bv,Tryz.func338.trans bn⟩
 f18:=⟨Tryz.f339.name,bv,Tryz.func339.trans bn⟩
 f19:=Tryz.func276.trans bn
 f20:=Tryz.func277.trans bn
 f30:=⟨Tryz.f364.name,bv,Tryz.func364.trans bn⟩
 f31:=Tryz.func317.trans bn
 f32:=Tryz.func318.trans bn
 f33:=⟨Tryz.f365.name,bv,Tryz.func365.trans bn⟩
 f34:=⟨Tryz.f366.name,bv,Tryz.func366.trans bn⟩
 f35:=⟨Tryz.f278.name,bv,Tryz.func278.trans bn⟩
 f40:=⟨Tryz.f378.name,bv,Tryz.func378.trans bn⟩
 t0:=Tryz.underlying0
 a0:=Tryz.isAgg0
 z0:=Tryz.sizeOf0
 v0:=Tryz.zeroValue0
 t3:=Tryz.underlying3
 a3:=Tryz.isAgg3
 z3:=Tryz.sizeOf3
 v3:=Tryz.zeroValue3
 t4:=Tryz.underlying4
 a4:=Tryz.isAgg4
 z4:=Tryz.sizeOf4
 v4:=Tryz.zeroValue4
 t5:=Tryz.underlying5
 a5:=Tryz.isAgg5
 z5:=Tryz.sizeOf5
 v5:=Tryz.zeroValue5
 t9:=Tryz.underlying9
 a9:=Tryz.isAgg9
 z9:=Tryz.sizeOf9
 v9:=Tryz.zeroValue9
 t22:=Tryz.underlying42
 a22:=Tryz.isAgg42
 z22:=Tryz.sizeOf42
 v22:=Tryz.zeroValue42
 t23:=Tryz.underlying42
 a23:=Tryz.isAgg42
 z23:=Tryz.sizeOf42
 v23:=Tryz.zeroValue42
 t25:=Tryz.underlying3
 a25:=Tryz.isAgg3
 z25:=Tryz.sizeOf3
 v25:=Tryz.zeroValue3
 t32:=Tryz.underlying324
 a32:=Tryz.isAgg324
 z32:=Tryz.sizeOf324
 v32:=Tryz.zeroValue324
 t35:=Tryz.underlying358
 a35:=Tryz.isAgg358
 z35:=Tryz.sizeOf358
 v35:=Tryz.zeroValue358
 t36:=Tryz.underlying359
 a36:=Tryz.isAgg359
 z36:=Tryz.sizeOf359
 v36:=Tryz.zeroValue359
 t41:=Tryz.underlying273
 a41:=Tryz.isAgg273
 z41:=Tryz.sizeOf273
 v41:=Tryz.zeroValue273
 t44:=Tryz.underlying365
 a44:=Tryz.isAgg365
 z44:=Tryz.sizeOf365
 v44:=Tryz.zeroValue365
 t46:=Tryz.underlying367
 a46:=Tryz.isAgg367
 z46:=Tryz.sizeOf367
 v46:=Tryz.zeroValue367
 t53:=Tryz.underlying400
 a53:=Tryz.isAgg400
 z53:=Tryz.sizeOf400
 v53:=Tryz.zeroValue400
 t57:=Tryz.underlying375
 a57:=Tryz.isAgg375
 z57:=Tryz.sizeOf375
 v57:=Tryz.zeroValue375
 t63:=Tryz.underlying426
 a63:=Tryz.isAgg426
 z63:=Tryz.sizeOf426
 v63:=Tryz.zeroValue426
 t64:=Tryz.underlying427
 a64:=Tryz.isAgg427
 z64:=Tryz.sizeOf427
 v64:=Tryz.zeroValue427}
end Go.Proofs
namespace Go.aw
open Go
def wrap_u64(n:Int):PP .u64 n=n % 18446744073709551616:=by
 unfold PP;simp[IntKind.signed,IntKind.bits]
variable{b0 u:List UInt8}{a c i q:Nat}{d:bc}{h:Program}{B g p:TypeId}{o t:ac}{b:World}
def FF(n:a<18446744073709551616):PP .u64 (a:Int)=a:=by rw[wrap_u64];omega
def MC(s:kD h g p 1 1){L D:UK}(P:aU gw p L b (UV a) c i u)(C:Row gw 1 b D d c b0)(j:∀k,aU gw p (·=a) k (UV a) c i b0->aj (·=a) b k->k.heap.size=b.heap.size->o (WP c) k):
  aK h (Builtin.copy_ #[g,g] B #[.slice (UV a) c i,.slice d c q]) b o t:=by
 obtain⟨a1,a2,M,hz,N,a4,a5⟩:=s.info;have E:(h.info? p).map (·.size)=some 1:=by rw[M];simp[N]
 have l:=C.len;have O:=P.len dC;obtain⟨a6,D0,F,a7,a8⟩:=P.body;rcases F.cases with⟨v,_⟩|⟨Q,n,v,w,R,S,a9⟩
 ·cases v
 cases v
 by_cases H:c=0
 ·subst H
  have:b0=[]:=QW l.symm;subst this;have:u=[]:=QW O.symm;subst this;have m:=run_copy_none (P:=h) b g g B p (UV a) d 0 i 0 q s.under E (by rfl);refine aK.mk (v:=WP 0) m (j b ?_ (aj.refl _) rfl);have:=P.alone;exact⟨by obtain⟨cs,D,T,e,a3⟩:=this.body;exact⟨cs,λ_=>False,T,by rw[show cs=[]from e];rfl,λ_ P=>P.elim⟩,λe f=>by simpa[aG]using f.symm,λe f=>by rw[f];exact aA w⟩
 ·obtain⟨cs,x,U⟩:=C.aC
  have y:b0≠[]:=by rintro rfl;simp at l;exact H l
  obtain⟨e,z,V,_,_,W⟩:=U y dC;subst V;have r:cs.length=c:=by have:=x.length;rw[this,l];show _*1=_;omega
  have b1:n.size=i:=by rw[S];show i*1=i;omega
  have m:=run_copy_row (P:=h) b g g B p a 0 c i ⟨e,z,none⟩ c q n p cs s.under E w (by rw[r];simp[Nat.min_self]) (λX Y Z=>by rw[Addr.add_lit];exact W X Y Z) oM (x.Sk);rw[r]at m;have I:=setRow_heap b a n (n.toList.take 0++cs++n.toList.drop (0+c)).toArray p (0,0) w;refine aK.mk m (j _ ⟨⟨cs,λ_=>False,⟨⟨by rw[r];show c=c*1;omega,.inr ⟨a,i,_,rfl,Qj _,I,R,?_,?_,?_⟩⟩⟩,x.free,λ_ P=>P.elim⟩,λe f=>by simpa[aG]using f.symm,λe f=>by subst f;exact aA I⟩ ⟨rfl,rfl,rfl,by simp[World.setRow],λa0 hk y=>setRow_other b a a0 _ y⟩ (by simp[World.setRow]))
  ·rcases F.row.2 with⟨A,_⟩|⟨Q,J,K,A,_,_,_,hm,_⟩
   ·cases A
   ·cases A;exact hm
  ·show _=i*1
   simp;omega
  ·simp only[List.take_zero,List.nil_append,Xz]
   show(cs++n.toList.drop c).take (c*1)=cs;rw[Nat.mul_one,<-r,List.take_left]
end Go.aw
namespace Go.Proofs.YtjgjkeponbeekaaGreatDoor
open Go.aw
variable{e:Int}{u:List UInt8}{a c:Nat}{d:bc}{b:World}
def PL(a:aM e):be 293 #[WP e] b (Ok λc d=>c= .tuple #[.int .u64 (e.natAbs:Int),.int .u8 (if e<0 then 16 else 0)]/\b=d):=by
 unfold aM at a;refine IW (al.dec (λn=>?_) (λn=>?_))
 ·refine Ok.mk ⟨?_,rfl⟩
  rw[Zx n,wrap_u64,wrap_u64];have P:(0-e % 18446744073709551616) % 18446744073709551616=(e.natAbs:Int):=oM
  rw[P]
 ·refine Ok.mk ⟨?_,rfl⟩
  rw[Zq n,wrap_u64];have P:e % 18446744073709551616=(e.natAbs:Int):=oM
  rw[P]
def bits_Len64{n:Nat}{P:World}(c:n<18446744073709551616):be 277 #[.int .u64 (n:Int)] P (Ok λb a=>b= WP (Lib.bitLen n:Int)/\P=a):=by
 refine(Any.bits_Len64 Tryz.UR (n:Int) P oM oM).mono ?_;rintro d a ⟨rfl,rfl⟩;exact Ok.mk ⟨by rw[Qx],rfl⟩
def WD(b:a<=8)(n:Bool):RP .u8 (if n then 16 else 0) (PP .u8 (a:Int))=((UInt8.ofNat (a+if n then 16 else 0)).toNat:Int):=by
 have P:(List.range 9).all (λa=>RP .u8 16 (PP .u8 (a:Int))==((UInt8.ofNat (a+16)).toNat:Int)&&RP .u8 0 (PP .u8 (a:Int))==((UInt8.ofNat (a+0)).toNat:Int))=true:=by decide+kernel
 have:=ZY.1 P a (List.mem_range.2 oM);simp only[QK,beq_iff_eq]at this
 cases n
 ·exact this.2
 ·exact this.1
def BW{m:Int}{D:UK}(s:aM m)(f:Row gw 1 b D d a u)(K:a+9<=aR)(hD:∀e,D e->e<b.heap.size):
  be 240 #[.slice d a c,WP m] b (Ok (qH gw 5 b (u++eg m))):=by
 have j:=f.len;have k:=s;unfold aM at k;have L:=K;unfold aR at L;have t:m.natAbs<2 ^ 64:=oM
 have v:=CE t;have M:=yW _ t;refine LH (PC.ok (PL s) ?_);rintro _ _ ⟨rfl,rfl⟩;refine⟨_,_,rfl,PC.ok (bits_Len64 oM) ?_⟩;rintro _ _ ⟨rfl,rfl⟩;have N:PP .i64 (Int.tdiv (PP .i64 ((Lib.bitLen m.natAbs:Int)+7)) 8)=((gh m.natAbs).length:Int):=by
  rw[wrap_i64 (x:=(Lib.bitLen m.natAbs:Int)+7) cw,Int.tdiv_eq_ediv_of_nonneg oM,wrap_i64 cw,M];omega
 have O:PP .i64 ((PP .i64 (((a:Nat):Int)+1))+((gh m.natAbs).length:Int))=((a+1+(gh m.natAbs).length:Nat):Int):=by
  rw[wrap_i64 (x:=((a:Nat):Int)+1) cw,wrap_i64 cw];omega
 refine⟨_,rfl,?_⟩;rw[N,O];refine WE tY kR oM ce λw1 Q w b4=>?_;refine⟨_,_,_,rfl,MC tY Q (f.af w) λR S T b5=>⟨_,rfl,?_⟩⟩;have y:ai b R:=w.new T λe f=>.inr oM;rw[show PP .u8 ((gh m.natAbs).length:Int)=PP .u8 ((gh m.natAbs).length:Int)from rfl];have z:=WD v (decide (m<0));simp only[Zk]at z;rw[z];refine KK S tY (x:=UInt8.ofNat ((gh m.natAbs).length+if m<0 then 16 else 0)) (D:=λ_=>False) ⟨rfl,trivial⟩ (λ_ h=>h.elim) (by rw[<-j];unfold aR;omega) (by rw[<-j];unfold maxLen;omega) λa4 c3 U V A W X b6=>?_;have Y:ai b U:=y.new W λe f=>.inr (by simp only[aG,Q1]at f;omega);have Z:a+1=(u++[UInt8.ofNat ((gh m.natAbs).length+if m<0 then 16 else 0)]).length:=by simp[j]
 generalize a8:u++[UInt8.ofNat ((gh m.natAbs).length+if m<0 then 16 else 0)]=l at A Z;have a0:u++eg m=l++(gh m.natAbs).reverse:=by rw[<-a8,XQ];rfl
 rw[a0];generalize a9:(gh m.natAbs).length=P at v⊢;refine⟨_,_,_,rfl,λB C o E F H=>∃n:Nat,n<=P/\F=(P:Int)-1-n/\B=P-n/\o=a+1+n/\∃g,aU gw 5 g H C o E (l++(gh m.natAbs).reverse.take n)/\ai b H/\∀e,g e->b.heap.size<=e,
  ⟨_,0,Qj _,by rw[wrap_i64 cw];omega,rfl,rfl,V,by simpa using A,Y,λe f=>?_⟩,?_⟩
 ·rcases X e f with h|h|h
  ·omega
  ·exact h.elim
  ·have:=y.size;omega
 rintro B C o E F _ p ⟨n,hj,rfl,rfl,rfl,g,i,q,r⟩;refine al.dec (λh1=>?_) (λh1=>?_)
 ·have b7:n<P:=oM
  have b0:PP .i64 (8*((P:Int)-1-n))=((8*(P-1-n):Nat):Int):=by rw[wrap_i64 cw];omega
  rw[b0];have a1:∀x I,(do eqGuard .shr 367 x I (.int .u64 (m.natAbs:Int)) (WP ((8*(P-1-n):Nat):Int));binOp .shr 367 (.int .u64 (m.natAbs:Int)) (WP ((8*(P-1-n):Nat):Int)):Sem Value).run LL p=
    .ok (.int .u64 ((m.natAbs/256 ^(P-1-n):Nat):Int)) p:=λx I=>by
   have h0:=shift_shr .u64 .i64 (m.natAbs:Int) ((8*(P-1-n):Nat):Int) oM (by show _<=((64:Nat):Int);omega);have e1:(m.natAbs:Int)/2 ^(Int.toNat ((8*(P-1-n):Nat):Int))=((m.natAbs/256 ^(P-1-n):Nat):Int):=by
    have e2:(256:Nat) ^(P-1-n)=2 ^(8*(P-1-n)):=by rw[Nat.pow_mul]
    rw[Qx,e2];simp
   show(Op.shift .shr .u64 (m.natAbs:Int) .i64 ((8*(P-1-n):Nat):Int)).run LL p=_;rw[h0,e1]
   rfl
  refine aK.mk (a1 _ _) ⟨_,rfl,?_⟩;have a2:(gh m.natAbs).reverse[n]? =some (UInt8.ofNat (m.natAbs/256 ^(P-1-n))):=by
   rw[List.getElem?_reverse oM,a9];rw[SP _ _ oM]
   congr 1
   refine UInt8.toNat_inj.1 ?_;rw[ZK,ZK];omega
  have a3:PP .u8 ((m.natAbs/256 ^(P-1-n):Nat):Int)=((UInt8.ofNat (m.natAbs/256 ^(P-1-n))).toNat:Int):=by
   rw[ZK];unfold PP;simp[IntKind.signed,IntKind.bits]
  rw[a3];have J:(l++(gh m.natAbs).reverse.take n).length=a+1+n:=by simp;omega
  refine KK i tY (x:=UInt8.ofNat (m.natAbs/256 ^(P-1-n))) (D:=λ_=>False) ⟨rfl,trivial⟩ (λ_ h=>h.elim) (by rw[J];unfold aR;omega) (by rw[J];unfold maxLen;omega) λa5 c5 w5 F5 b1 b2 b3 b8=>?_;refine⟨_,_,_,rfl,_,oM,n+1,oM,by rw[wrap_i64 cw];omega,rfl,oM,F5,?_,q.new b2 λe f=>.inr (r e (i.self e f)),λe f=>?_⟩
  ·rw[Qw,a2]
   simpa using b1
  ·rcases b3 e f with h|h|h
   ·exact r e h
   ·exact h.elim
   ·exact Xx q.size h
 ·obtain rfl:n=P:=oM
  rw[Qz cS]at i;exact Ok.mk ⟨_,_,_,g,rfl,i,q,r⟩
end Go.Proofs.YtjgjkeponbeekaaGreatDoor
namespace Go.aw
open Go
def Own.set{d:World}{i:TypeId}{k:Nat}{e:bc}{l P:Nat}{cs:List Value}(o:Own d i k e l P cs){m:Nat}{p:Value}{q:ba}(E:m<cs.length){a b:Nat}(f:e=some ⟨a,b,none⟩)(g:∀n,Own n i k e l P (cs.set m p)->aj (λa=>aG e=some a) d n->n.heap.size=d.heap.size->q n):PS d ⟨a,b+m,none⟩ p q:=by
 have r:=o.row.1;rcases o.row.2 with⟨c,F⟩|⟨H,I,h,c,s,t,u,v,w,j⟩
 ·simp only[XX]at c
  rw[c.1]at f;cases f
 ·simp only[XX]at c
  obtain⟨x,-,y⟩:=c;subst x;subst y
  cases f
  rw[Xz];have z:m<h.size:=by
   have:=Zj List.length j;simp at this;omega
  refine PS.mk t z λn A B C=>g n ⟨⟨by simpa using r,.inr ⟨_,_,_,rfl,s,C,u,v,by simpa using w,?_⟩⟩⟩ (A.mono λa _ X=>by rw[X];rfl) B;rw[Array.toList_setIfInBounds,List.take_set,j]
def bY.oG{a:Type}{b:Nat}{n:a->List Value}{hl h1}{c:World}{D:UK}:∀{P:List a} {cs:List Value},bY (flat b n (λ_=>True) hl h1) c D P cs↔cs=P.flatMap n
 |[],cs=>by simp[bY]
 |x::P,cs=>by
  constructor
  ·rintro⟨e,f,rfl,⟨rfl,-⟩,d⟩
   rw[bY.oG.1 d];rfl
  ·rintro rfl
   exact⟨n x,P.flatMap n,rfl,⟨rfl,trivial⟩,bY.oG.2 rfl⟩
def sd{c:Type}{enc:c->List Value}{k:Nat}(d:∀P,(enc P).length=k){x':c}{v:Value}{a:Nat}(g:a<k):∀(e:List c) (n:Nat) (P:c),e[n]? =some P->enc x'=(enc P).set a v->(e.flatMap enc).set (n*k+a) v=(e.set n x').flatMap enc
 |[],n,P,b,_=>by simp at b
 |y::h,0,P,b,f=>by
  simp at b;subst b;rw[List.flatMap_cons,List.set_cons_zero,List.flatMap_cons,Nat.zero_mul,Xz,List.set_append_left _ _ (by rw[d];exact g),f]
 |y::h,n+1,P,b,f=>by
  have:=sd d g h n P (by simpa using b) f;have i:(n+1)*k+a-k=n*k+a:=by rw[X7];omega
  have j:k<=(n+1)*k+a:=by rw[X7];omega
  rw[List.flatMap_cons,List.set_cons_succ,List.flatMap_cons,List.set_append_right _ _ (by rw[d];exact j),d,i,this]
def l_{a:Type}{n:a->List Value}{b:Nat}(c:∀x,(n x).length=b):∀P:List a,(P.flatMap n).length=P.length*b
 |[]=>by simp
 |x::P=>by rw[List.flatMap_cons,QX,c,l_ c P,Xq,X7,Nat.one_mul,Nat.add_comm]
variable{E a c i q:Nat}{f:UK}{d x:bc}{h:Program}{j:Type}{B g p:TypeId}{v:Value}{o t:ac}{b:World}{y:ba}
def aU.set{k:Type}{n:k->List Value}{hl h1}{e:List k}(l:aU (flat a n (λ_=>True) hl h1) g f b d c i e){P j:Nat}{x x':k}(o:e[P]? =some x)(r:j<a)(s:n x'=(n x).set j v)(t:d=some ⟨q,E,none⟩)(m:∀h,aU (flat a n (λ_=>True) hl h1) g f h d c i (e.set P x')->aj (λq=>aG d=some q) b h->h.heap.size=b.heap.size->y h):PS b ⟨q,E+P*a+j,none⟩ v y:=by
 obtain⟨cs,D,u,w,z⟩:=l.body;have A:=bY.oG.1 w;subst A;have B:P<e.length:=(Qv.1 o).1;rw[Nat.add_assoc];refine u.set (m:=P*a+j) ?_ t λh C F p=>m h ⟨⟨_,D,C,bY.oG.2 (sd hl r e P x o s),z⟩,l.self,λq H=>by rw[p];exact l.aF q H⟩ F p;rw[l_ hl];have:(P+1)*a<=e.length*a:=Q0 _ B;rw[X7]at this;omega
def yj{P:Program}{w:World}(n:Nat)(b g c:TypeId)(h:TypeInfo)(a:Nat)(e:P.underlying b=some (.slice c))(f:P.info? c=some h)(d:Value)(i:Nat)(j:List Value)(k:w.ownsRow n c a d i j)(l:Nat):
  (Builtin.append_ #[b,b] g #[d,.slice none 0 l]).run P w= .ok d w:=by
 rcases k.2 with⟨rfl,rfl⟩|⟨q,m,o,rfl,_,_,p,_⟩
 ·simp[Builtin.append_,run_underlying e,sizeOf,typeInfo,f,Builtin.lenOf,Builtin.firstCells]
 ·simp[Builtin.append_,run_underlying e,sizeOf,typeInfo,f,Builtin.lenOf,Builtin.firstCells,p,storeCells]
def AB{k:ky j}{r:List j}{bytes:Nat}(s:aU k g f b d a c r)(u:kD h p g k.k bytes){D:UK}{e:List j}(v:Row k bytes b D x i e)(A:∀n,D n->n<b.heap.size/\aG d≠some n)(l:(r.length+e.length)*bytes<=aR)(C:r.length+e.length<=maxLen)(m:∀w P y z,aU k g z y w (a+i) P (r++e)->aj (λE=>aG d=some E) b y->(∀n,z n->f n\/D n\/b.heap.size<=n)->(∀n,aG w=some n->f n\/b.heap.size<=n)->o (.slice w (a+i) P) y):
  aK h (Builtin.append_ #[p,p] B #[.slice d a c,.slice x i q]) b o t:=by
 cases x with
 |some N=>exact lQ s u v A l C m
 |none=>
  have F:e=[]:=by
   cases e with
   |nil=>rfl
   |cons H O=>obtain⟨n,I,Q,J,_⟩:=v.el 0 H rfl;cases J
  subst F;obtain rfl:i=0:=v.len;obtain⟨K,R,L,S,T,U,V⟩:=kD.info u;obtain⟨cs,W,M,X,Y⟩:=s.body;exact aK.mk (yj (P:=h) (w:=b) 0 p B g K k.k u.under L (.slice d a c) a cs M.row q) (m d c b f (by simpa using s) (aj.refl _) (λn l=>.inl l) λn l=>.inl (s.self n l))
end Go.aw
namespace Go.aw
open Go
def Mm(n:UInt8):PP .i64 (n.toNat:Int)=n.toNat:=wrap_i64 (by have:=n.toNat_lt;unfold aM;omega)
def ml(n:UInt8):Nat:=if 16<n.toNat then n.toNat-16 else n.toNat
def MG(P:UInt8):(PP .i64 (wi .u8 (P.toNat:Int) 16)<=8/\((P.toNat:Int)≠16)↔ml P<=8)/\(ml P<=8->PP .i64 (wi .u8 (P.toNat:Int) 16)=(ml P:Int)/\GH .u8 (P.toNat:Int) 16=if 16<P.toNat then 16 else 0):=by
 have a:(List.range 256).all (λn=>decide ((PP .i64 (wi .u8 (n:Int) 16)<=8/\((n:Int)≠16)↔(if 16<n then n-16 else n)<=8)/\((if 16<n then n-16 else n)<=8->PP .i64 (wi .u8 (n:Int) 16)=((if 16<n then n-16 else n:Nat):Int)/\GH .u8 (n:Int) 16=if 16<n then 16 else 0)))=true:=by decide+kernel
 have:=ZY.1 a P.toNat (List.mem_range.2 P.toNat_lt);exact XV this
def MH{n d:Nat}(b:n<72057594037927936)(c:d<256):RP .u64 (Mi .u64 (n:Int) 8) (PP .u64 (d:Int))=((n*256+d:Nat):Int):=by
 have P:Mi .u64 (n:Int) 8=((n*256:Nat):Int):=by
  unfold Mi;have:min (Int.toNat 8) (IntKind.bits .u64)=8:=dC
  rw[this,wrap_u64];have:((2:Int) ^ 8)=256:=dC
  rw[this];omega
 rw[P,FF oM];unfold RP;show PP .u64 ((BitVec.ofInt 64 ((n*256:Nat):Int)|||BitVec.ofInt 64 (d:Int)).toNat:Int)=_;have a:n*256|||d=n*256+d:=by
  have:=(Nat.shiftLeft_add_eq_or_of_lt (a:=n) (i:=8) (b:=d) oM).symm
  rwa [Nat.shiftLeft_eq]at this
 rw[BitVec.ofInt_natCast,BitVec.ofInt_natCast,BitVec.toNat_or,BitVec.toNat_ofNat,BitVec.toNat_ofNat,Nat.mod_eq_of_lt oM,Nat.mod_eq_of_lt oM,a,FF oM]
variable{u:List UInt8}{a:Nat}{c1:UInt8}
def EO(n:u[a]? =some c1):gU (u.take (a+1))=gU (u.take a)*256+c1.toNat:=by
 rw[Qw,n];exact yX _ _
def py(n:List UInt8){j m:Nat}(P:j<=m):gU (n.take j)<256 ^ m:=by
 have a:=NU (n.take j);have b:256 ^(n.take j).length<=256 ^ m:=Nat.pow_le_pow_right oM cS;omega
def MI(n:¬ml c1<=8):rdNum (c1::u)=(5,0,0):=by
 unfold rdNum ml at*;simp only;rw[Zx oM]
def JQ(P:ml c1<=8)(n:u.length<ml c1):rdNum (c1::u)=(4,0,0):=by
 unfold rdNum ml at*;simp only;rw[Zq oM,Zx n]
def PO(a:ml c1<=8)(n:¬u.length<ml c1)(P:(0<ml c1/\u.head? =some 0)\/(¬16<c1.toNat/\2 ^ 63<=gU (u.take (ml c1)))\/(16<c1.toNat/\2 ^ 63<gU (u.take (ml c1)))):rdNum (c1::u)=(5,0,0):=by
 unfold rdNum ml at*;simp only;rw[Zq oM,Zq n,Zx P]
def CG(a:ml c1<=8)(n:¬u.length<ml c1)(P:¬((0<ml c1/\u.head? =some 0)\/(¬16<c1.toNat/\2 ^ 63<=gU (u.take (ml c1)))\/(16<c1.toNat/\2 ^ 63<gU (u.take (ml c1))))):
  rdNum (c1::u)=(0,if 16<c1.toNat then-(gU (u.take (ml c1)):Int)else gU (u.take (ml c1)),ml c1+1):=by
 unfold rdNum ml at*;simp only;rw[Zq oM,Zq n,Zq P]
end Go.aw
namespace Go.Proofs.YtjgjkeponbeekaaGreatDoor
open Go.aw
structure fE (w:World) (p:Nat) (F:UK) (r:iu):Prop where
 body:∃a n cap G,w.heap[p]? =some (.cells #[.slice a n cap,WP (r.pos:Int),WP r.sD] 337 (0,0))/\aU gw 5 G w a n cap r.bytes/\(∀b,G b->F b/\b≠p)
 self:F p
 aF:∀b,F b->b<w.heap.size
 fit:r.Fit
 fh:r.bytes.length<=aR
variable{m:Array Value}{K:Bool}{z:FuncId}{e:Int}{a5:List PanicEntry->ba}{u:List UInt8}{a c i:Nat}{f:UK}{d:bc}{o t:ac}{b k:World}{T:iu}
def fE.keep{S c:UK}(P:fE b a c T)(d:aj S b k)(g:∀n,c n->¬S n):fE k a c T:=by
 obtain⟨i,j,e,G,l,m,h⟩:=P.body;exact⟨⟨i,j,e,G,d.get l (g _ P.self),m.keep d (λn f=>g n (h n f).1),h⟩,P.self,λn f=>Qk (P.aF n f) d.size,P.fit,P.fh⟩
def fE.af(n:fE b a f T)(P:ai b k):fE k a f T:=n.keep P λ_ _ n=>n
def fE.fj{b w':World}{e r':iu}(g:fE b a f e){G:UK}(k:aU gw 5 G b d c i e.bytes)(h:∀n,G n->f n/\n≠a)(j:aj (·=a) b w')(l:w'.heap[a]? =some (.cells #[.slice d c i,WP (r'.pos:Int),WP r'.sD] 337 (0,0)))(P:r'.bytes=e.bytes)(m:r'.Fit):fE w' a f r':=
 ⟨⟨d,c,i,G,l,by rw[P];exact k.keep j λn P=>(h n P).2,h⟩,g.self,λn P=>Qk (g.aF n P) j.size,m,by rw[P];exact g.fh⟩
def EM{D:UK}(P:Row gw 1 b D d a u)(o:∀n,D n->n<b.heap.size):
  be 164 #[.slice d a c] b (Ok λp j=>∃k l,p= RK k/\fE j k l ⟨u,0,0⟩/\ai b j/\∀n,l n->b.heap.size<=n):=by
 have q:=P.len;have r:=P.fh;refine IS (AB (aU.nil b) tY P (λn g=>⟨o n g,by simp[aG]⟩) cS (by unfold aR at r;unfold maxLen;simp;omega) λe s h z t v _ w=>?_);refine⟨_,_,_,rfl,PA.mk λA i B x=>?_⟩;have m:ai b h:=v.mono λn _ P=>by simp[aG]at P
 have f:=t.alone;rw[List.nil_append]at f;have y:∀n,aG e=some n->b.heap.size<=n:=λn P=>(w n P).elim (λg=>g.elim) id;refine Ok.mk ⟨h.heap.size,λn=>n=h.heap.size\/aG e=some n,rfl,⟨⟨e,_,s,λn=>aG e=some n,x,f.af i,λn P=>⟨.inr P,?_⟩⟩,.inl rfl,?_,⟨Qj _,.inl rfl⟩,by rw[<-q];omega⟩,m.then i,?_⟩
 ·have:=f.aF n P;omega
 ·rintro n (rfl|P)
  ·omega
  ·have:=f.aF n P;have:=i.size;omega
 ·rintro n (rfl|P)
  ·exact m.size
  ·exact y n P
def VL(n:Int):List PanicEntry:=[{v:=.iface 372 (WP n),recovered:=false}]
def gD(n:K=true->o (.tuple #[]) b)(P:K=false->a5 (VL e) b):
  PC LL 287 #[.bool K,WP e] b o a5:=by
 cases K
 ·refine yy (al.tt rfl ?_)
  exact aK.panics (v:=.iface 372 (WP e)) rfl (P rfl)
 ·exact yy (al.ff rfl (n rfl))
def WJ(b:World)(a:Nat)(c:UK)(n:iu)(no:Int)(f:ac)(g:Nat):am:=λd P=>
 ((no=0/\fE P a c ⟨n.bytes,n.pos+g,n.sD⟩/\∃e,d= .returned e/\f e P)\/(no≠0/\d= .panicked (VL no)/\∃h,fE P a c ⟨n.bytes,h,n.sD⟩))/\aj (·=a) b P/\P.heap.size=b.heap.size
def PC.red{no:Int}(d:be z m b (WJ b a f T no o c))(j:no=0->∀P n,fE n a f ⟨T.bytes,T.pos+c,T.sD⟩->o P n->aj (·=a) b n->n.heap.size=b.heap.size->t P n)(k:no≠0->∀n,(∃l,fE n a f ⟨T.bytes,l,T.sD⟩)->aj (·=a) b n->n.heap.size=b.heap.size->a5 (VL no) n):PC LL z m b t a5:=
 d.mono λq n ⟨d,h,i⟩=>by
  rcases d with⟨e,g,P,rfl,p⟩|⟨e,rfl,g⟩
  ·exact j e P n g p h i
  ·exact k e n g h i
def NX{m:Nat}(c:fE b a f T)(M:m<=2147483647):
  be 288 #[RK a,WP (m:Int)] b (WJ b a f T (if m<=T.bytes.length-T.pos then 0 else 4) (λx y=>∃d z,x= .slice d m z/\Row gw 1 y f d m ((T.bytes.drop T.pos).take m)) m):=by
 obtain⟨d,q,n,G,A,g,j⟩:=c.body;have N:=c.fit.pos;have B:=c.fh;have O:=g.len dC;have C:=g.lE;unfold aR at B;refine uI λr s=>?_;have h:ai b r:=s.keep;have i:=h.get A id;have t:r.heap.size=b.heap.size:=by rw[s.heap]
 refine⟨a,0,rfl,d,q,n,ae i rfl,a,0,rfl,_,ae i rfl,gD (λP=>?_) (λP=>?_)⟩
 ·have P:=XV P
  rw[wrap_i64 cw]at P;refine⟨rfl,a,0,rfl,_,ae i rfl,a,0,rfl,PS.mk i sM λE F H e=>?_⟩;have I:PP .i64 ((T.pos:Int)+(m:Int))=((T.pos+m:Nat):Int):=by rw[wrap_i64 cw];omega
  rw[I]at e;have J:PP .i64 (((T.pos+m:Nat):Int)-(m:Int))=(T.pos:Int):=by rw[wrap_i64 cw];omega
  refine⟨a,0,rfl,d,q,n,ae e rfl,a,0,rfl,_,ae e rfl,a,0,rfl,_,ae e rfl,?_⟩;rw[J];refine⟨oM,oM,oM,λk u=>?_⟩;have v:ai E k:=u.keep;have l:aj (·=a) b k:=((h.keep).then F).af v;have K:fE k a f ⟨T.bytes,T.pos+m,T.sD⟩:=c.fj (r':=⟨T.bytes,T.pos+m,T.sD⟩) g j l (v.get e id) rfl ⟨by show T.pos+m<=T.bytes.length;omega,c.fit.sD⟩;refine⟨.inl ⟨Zx oM,K,_,rfl,dh d T.pos n 1,n-T.pos,?_⟩,l,by rw[u.heap,H,t]⟩;simp only[Qx];rw[show T.pos+m-T.pos=m by omega];refine⟨rfl,?_⟩;have o:=(g.row (bytes:=1) dC ce).part (lo:=T.pos) (hi:=T.pos+m) (cap:=n) oM oM C;rw[show T.pos+m-T.pos=m by omega]at o;have L:(T.bytes.take (T.pos+m)).drop T.pos=(T.bytes.drop T.pos).take m:=by rw[List.drop_take];congr 1;omega
  rw[L]at o;exact((o.keep l λp P=>(j p P).2)).mono λp P=>(j p P).1
 ·intro _ _
  have P:=Xy P;rw[wrap_i64 cw]at P;have w:¬m<=T.bytes.length-T.pos:=oM
  refine⟨.inr ⟨by rw[Zq w];decide,by rw[Zq w],T.pos,?_⟩,h.keep,t⟩;exact c.af h
def FH(M:fE b a f T):
  be 230 #[RK a] b (WJ b a f T T.num.1 (λt g=>t= WP T.num.2.1) T.num.2.2):=by
 have x:=M.fit.pos;have r:(T.bytes.drop T.pos).length=T.bytes.length-T.pos:=XZ ..;generalize s:T.bytes.drop T.pos=A at r;have Z:T.num=rdNum A:=by unfold iu.num;rw[s]
 rw[Z];refine rf (PC.red (NX (m:=1) M oM) ?_ ?_)
 rotate_left
 ·intro k y B u v
  have:¬1<=T.bytes.length-T.pos:=λe=>k (Zx e);rw[Zq this];have:A=[]:=QW oM;subst this;exact⟨.inr ⟨dC,rfl,B⟩,u,v⟩
 rintro k _ y N ⟨a1,c1,rfl,O⟩ u v;have Q:1<=T.bytes.length-T.pos:=by
  by_cases e:1<=T.bytes.length-T.pos
  ·exact e
  ·rw[Zq e]at k;cases k
 rw[s]at O
 match A,s,r with
 |[],s,r=>simp at r;omega
 |n::d,s,r=>
 have b1:d.length=T.bytes.length-T.pos-1:=by simp at r;omega
 have a7:T.bytes.drop (T.pos+1)=d:=by rw[<-List.drop_drop,s];rfl
 obtain⟨b5,o6,m,rfl,o,_,P⟩:=O.nE (i:=0) oM;obtain rfl:n=m:=by simpa using o
 obtain⟨C,a8⟩:=MG n;refine⟨_,_,_,rfl,b5,o6,rfl,oM,oM,_,P,?_⟩;refine⟨λg=>ml n<=8/\g=y,?_,?_⟩
 ·have h:¬ml n<=8->∀g,g=y->WJ b a f T (rdNum (n::d)).1 (λt g=>t= WP (rdNum (n::d)).2.1) (rdNum (n::d)).2.2 (.panicked (VL 5)) g:=by
   rintro p g rfl;rw[MI p];exact⟨.inr ⟨dC,rfl,T.pos+1,N⟩,u,v⟩
  refine al.dec (λE=>gD (λc=>⟨rfl,?_,rfl⟩) (λc=>h ?_ _ rfl)) (λE=>gD (λc=>(by cases c)) λ_=>h ?_ _ rfl)
  ·exact C.1 ⟨E,by simpa using c⟩
  ·intro p
   have:=(C.2 p).2;simp only[bne_eq_false_iff_eq]at c;exact this c
  ·intro p
   exact E (C.2 p).1
 rintro _ y ⟨w,rfl⟩;obtain⟨p,a9⟩:=a8 w;rw[p];refine PC.red (NX (m:=ml n) N oM) ?_ ?_
 rotate_left
 ·intro k l B F H
  have hn:¬ml n<=T.bytes.length-(T.pos+1):=λe=>k (Zx e);rw[Zq hn,JQ w oM];exact⟨.inr ⟨dC,rfl,B⟩,u.then F,H.trans v⟩
 rintro k _ l R ⟨a2,c2,rfl,z⟩ F H;have b2:ml n<=d.length:=by
  by_cases e:ml n<=T.bytes.length-(T.pos+1)
  ·omega
  ·simp only at k;rw[Zq e]at k;cases k
 change Row gw 1 l f a2 (ml n) ((T.bytes.drop (T.pos+1)).take (ml n))at z
 rw[a7]at z;have S:fE l a f ⟨T.bytes,T.pos+(ml n+1),T.sD⟩:=by have:=R;rwa [show T.pos+(ml n+1)=T.pos+1+ml n by omega]
 have I:aj (·=a) b l:=u.then F;have J:=H.trans v;have h:((0<ml n/\d.head? =some 0)\/(¬16<n.toNat/\2 ^ 63<=gU (d.take (ml n)))\/(16<n.toNat/\2 ^ 63<gU (d.take (ml n))))->∀g,g=l->WJ b a f T (rdNum (n::d)).1 (λt g=>t= WP (rdNum (n::d)).2.1) (rdNum (n::d)).2.2 (.panicked (VL 5)) g:=by
  rintro c g rfl;rw[PO w oM c];exact⟨.inr ⟨dC,rfl,_,R⟩,I,J⟩
 refine⟨_,_,_,rfl,λg=>¬(0<ml n/\d.head? =some 0)/\g=l,?_,?_⟩
 ·refine al.eI (λe=>gD (λ_=>⟨rfl,λP=>oM,rfl⟩) (λc=>by cases c)) (λe=>?_)
  have x:0<ml n:=oM
  obtain⟨K,L,m,rfl,o,_,P⟩:=z.nE (i:=0) x;have U:d.head? =some m:=by
   rw[Xw,Zx x]at o;rw[List.head?_eq_getElem?];exact o
  refine⟨K,L,rfl,oM,oM,_,P,gD (λc=>⟨rfl,λP=>?_,rfl⟩) (λc=>h (.inl ⟨x,?_⟩) _ rfl)⟩
  ·rw[U]at P
   have:=P.2;simp only[Q1]at this;subst this;simp at c
  ·rw[U]
   have:(m.toNat:Int)=0:=by simpa using c
   exact Zj some (UInt8.toNat_inj.1 (by
                         have:m.toNat=0:=oM
                         rw[this];rfl))
 rintro _ l ⟨V,rfl⟩;refine⟨λW X i g=>∃j:Nat,j<=ml n/\i=j/\W=ml n-j/\g=l/\X=(gU (d.take j):Int),⟨_,0,Qj _,rfl,rfl,rfl,rfl⟩,?_⟩;rintro W X i _ l ⟨j,hj,rfl,rfl,rfl,rfl⟩;refine al.dec (λh1=>?_) (λh1=>?_)
 ·have Y:j<ml n:=oM
  obtain⟨K,L,m,rfl,o,_,P⟩:=z.nE (i:=j) Y;rw[Xw,Zx Y]at o;refine⟨K,L,rfl,oM,oM,_,P,_,oM,j+1,oM,aq oM,rfl,rfl,?_⟩;have b0:=py d (j:=j) (m:=7) oM;rw[MH (by
            have:(256:Nat) ^ 7=72057594037927936:=dC
            omega) m.toNat_lt,EO o]
 ·obtain rfl:j=ml n:=oM
  have b0:=py d (j:=ml n) (m:=8) oM;have b3:(256:Nat) ^ 8=18446744073709551616:=dC
  have b4:(2:Nat) ^ 63=9223372036854775808:=dC
  refine al.eI (λe=>?_) (λe=>?_)<;>rw[a9]at e
  ·have q:¬16<n.toNat:=by intro P;rw[Zx P]at e;cases e
   refine gD (λc=>⟨rfl,?_⟩) (λc=>h (.inr (.inl ⟨q,?_⟩)) _ rfl)
   ·have c:=XV c
    rw[CG w oM (λP=>P.elim V λP=>P.elim (λP=>oM) λP=>q P.1),Zq q];exact⟨.inl ⟨rfl,S,_,rfl,by rw[wrap_i64 cw]⟩,I,J⟩
   ·have c:=Xy c
    omega
  ·have q:16<n.toNat:=by
    by_cases P:16<n.toNat
    ·exact P
    ·rw[Zq P]at e;exact Zz rfl e
   refine gD (λc=>⟨rfl,?_⟩) (λc=>h (.inr (.inr ⟨q,?_⟩)) _ rfl)
   ·have c:=XV c
    rw[CG w oM (λP=>P.elim V λP=>P.elim (λP=>P.1 q) λP=>oM),Zx q];refine⟨.inl ⟨rfl,S,_,rfl,?_⟩,I,J⟩;have e1:PP .i64 (PP .u64 (0-(gU (d.take (ml n)):Int)))= -(gU (d.take (ml n)):Int):=by
     unfold PP;simp[IntKind.signed,IntKind.bits];omega
    rw[e1]
   ·have c:=Xy c
    omega
end Go.Proofs.YtjgjkeponbeekaaGreatDoor
namespace Go.aw
open Go
def an{n P:Type}[BEq n](b:List (n×P))(a:n):Option P:=match b with
 |[]=>none
 |(c,d)::e=>if a==c then some d else an e a
def aJ{n a:Type}[BEq n](e:List (n×a))(P:n)(b:a):List (n×a):=match e with
 |[]=>[(P,b)]
 |(c,f)::d=>if P==c then(P,b)::d else(c,f)::aJ d P b
def bK{n P:Type}[BEq n](d:List (n×P))(a:n):List (n×P):=match d with
 |[]=>[]
 |(b,e)::c=>if a==b then c else(b,e)::bK c a
variable{e8:Array MapEntry}{a c:Nat}{h:Program}{J j:Type}{e9:TypeDesc}{B b9 f5 g p:TypeId}{f0:TypeInfo}{c7 v:Value}{o t:ac}{b k:World}{y:ba}
def bl[BEq j][LawfulBEq j](d:List (j×J))(P n:j)(f:J):an (aJ d P f) n=if n==P then some f else an d n:=by
 induction d with
 |nil=>simp[aJ,an]
 |cons g k h=>
  obtain⟨b,l⟩:=g;unfold aJ
  by_cases a:P==b
  ·rw[Zx a]
   have e:P=b:=by simpa using a
   subst e;unfold an;split<;>rfl
  ·rw[Zq a]
   unfold an
   by_cases c:n==b
   ·rw[Zx c]
    have e:n=b:=by simpa using c
    subst e;have:(n==P)=false:=by
     cases i:n==P
     ·rfl
     ·exfalso;apply a;have:n=P:=by simpa using i
      simp[this]
    rw[this];simp[an,a]
   ·rw[Zq c];rw[h];simp[an,c]
def Tidy{n P:Type}(a:List (n×P)):Prop:=(a.map (·.1)).Nodup
def SG[BEq j][LawfulBEq j]{P:List (j×J)}{n:j}{c:J}{a:j}:a∈(aJ P n c).map (·.1)↔a=n\/a∈P.map (·.1):=by
 induction P with
 |nil=>simp[aJ]
 |cons d g e=>
  obtain⟨b,i⟩:=d;unfold aJ
  by_cases h:n==b
  ·rw[Zx h]
   have f:n=b:=by simpa using h
   subst f;simp
  ·rw[Zq h]
   simp only[QY,Q2,e];constructor
   ·rintro(h|h|h)<;>simp[h]
   ·rintro(h|h|h)<;>simp[h]
def Tidy.aJ{n e:Type}[BEq n][LawfulBEq n]{b:List (n×e)}(P:Tidy b)(c:n)(g:e):Tidy (aJ b c g):=by
 unfold Tidy at*
 induction b with
 |nil=>simp[aw.aJ]
 |cons h k i=>
  obtain⟨f,l⟩:=h;simp only[QY,List.nodup_cons]at P;unfold aw.aJ
  by_cases a:c==f
  ·rw[Zx a]
   have j:c=f:=by simpa using a
   subst j;simpa using P
  ·rw[Zq a]
   simp only[QY,List.nodup_cons];refine⟨λd=>?_,i P.2⟩;rcases SG.1 d with rfl|d
   ·simp at a
   ·exact P.1 d
def SH[BEq j][LawfulBEq j]{P:List (j×J)}{b a:j}(n:a∈(bK P b).map (·.1)):a∈P.map (·.1):=by
 induction P with
 |nil=>simp[bK]at n
 |cons c e d=>
  obtain⟨f,g⟩:=c;unfold bK at n;split at n
  ·simp only[QY,Q2];exact .inr n
  ·simp only[QY,Q2]at n⊢
   rcases n with n|n
   ·exact .inl n
   ·exact .inr (d n)
def Tidy.bK{n b:Type}[BEq n][LawfulBEq n]{a:List (n×b)}(P:Tidy a)(c:n):Tidy (bK a c):=by
 unfold Tidy at*
 induction a with
 |nil=>simp[aw.bK]
 |cons d g e=>
  obtain⟨h,i⟩:=d;simp only[QY,List.nodup_cons]at P;unfold aw.bK;split
  ·exact P.2
  ·simp only[QY,List.nodup_cons]
   exact⟨λf=>P.1 (SH f),e P.2⟩
def jJ[BEq j][LawfulBEq j]{a:List (j×J)}{n:j}:an a n=none↔n∉a.map (·.1):=by
 induction a with
 |nil=>simp[an]
 |cons c f d=>
  obtain⟨b,g⟩:=c;unfold an
  by_cases P:n==b
  ·have e:n=b:=by simpa using P
   rw[Zx P];subst e;simp
  ·rw[Zq P,d]
   have:n≠b:=by rintro rfl;simp at P
   simp[this]
def gu[BEq j][LawfulBEq j]{b:List (j×J)}(g:Tidy b)(P n:j):an (bK b P) n=if n==P then none else an b n:=by
 induction b with
 |nil=>simp[bK,an]
 |cons h l i=>
  obtain⟨c,m⟩:=h;have e:=g;simp only[Tidy,QY,List.nodup_cons]at e;unfold bK
  by_cases d:P==c
  ·rw[Zx d]
   have f:P=c:=by simpa using d
   subst f
   by_cases a:n==P
   ·have:n=P:=by simpa using a
    subst this;simp only[beq_self_eq_true,if_true];exact jJ.2 e.1
   ·rw[Zq a]
    simp[an,a]
  ·rw[Zq d]
   unfold an
   by_cases a:n==c
   ·have f:n=c:=by simpa using a
    subst f;have:(n==P)=false:=by
     cases k:n==P
     ·rfl
     ·exfalso;apply d;have:n=P:=by simpa using k
      simp[this]
    simp[this]
   ·rw[Zq a,Zq a];exact i e.2
def cy[BEq j][LawfulBEq j]{P:List (j×J)}{a:j}{b:J}(n:an P a=some b):(a,b)∈P:=by
 induction P with
 |nil=>simp[an]at n
 |cons c h d=>
  obtain⟨e,i⟩:=c;unfold an at n;split at n
  ·rename_i f
   have g:a=e:=by simpa using f
   subst g
   cases n
   simp
  ·exact QJ _ (d n)
def fI[BEq j][LawfulBEq j]{n:List (j×J)}{a:j}{b:J}{P:j×J}(h:P∈aJ n a b):P=(a,b)\/P∈n:=by
 induction n with
 |nil=>simpa[aJ]using h
 |cons c e d=>
  obtain⟨f,g⟩:=c;unfold aJ at h;split at h
  ·rcases Q2.1 h with h|h
   ·exact .inl h
   ·exact .inr (QJ _ h)
  ·rcases Q2.1 h with h|h
   ·exact .inr (h▸QV ..)
   ·rcases d h with h|h
    ·exact .inl h
    ·exact .inr (QJ _ h)
def gT[BEq j][LawfulBEq j]{n:List (j×J)}{a:j}{P:j×J}(h:P∈bK n a):P∈n:=by
 induction n with
 |nil=>simp[bK]at h
 |cons b d c=>
  obtain⟨e,f⟩:=b;unfold bK at h;split at h
  ·exact QJ _ h
  ·rcases Q2.1 h with h|h
   ·exact h▸QV ..
   ·exact QJ _ (c h)
def ry[BEq j][LawfulBEq j]{n:List (j×J)}(a:Tidy n){k:j}{v:J}(b:(k,v)∈n):an n k=some v:=by
 induction n with
 |nil=>cases b
 |cons c g d=>
  obtain⟨e,h⟩:=c;simp only[Tidy,QY,List.nodup_cons]at a;unfold an;rcases Q2.1 b with P|P
  ·cases P;simp
  ·have:k≠e:=by
    intro f;exact a.1 (Xk.2 ⟨(k,v),P,f⟩)
   rw[Zq (by simpa using this)];exact d a.2 P
def yq[BEq j](n:List (j×J))(P:j)(a:J):(aJ n P a).length<=n.length+1:=by
 induction n with
 |nil=>simp[aJ]
 |cons b c d=>
  unfold aJ;split
  ·simp
  ·simp;omega
def Jh[BEq j](n:List (j×J))(P:j):(bK n P).length<=n.length:=by
 induction n with
 |nil=>simp[bK]
 |cons a b c=>
  unfold bK;split
  ·simp
  ·simp;omega
def fK{n P a:Type}(b:P->a->Prop):List (n×P)->List (n×a)->Prop
 |[],[]=>True
 |(c,d)::e,(f,g)::h=>c=f/\b d g/\fK b e h
 |_,_=>False
def fK.keys{a b c:Type}{e:b->c->Prop}:∀{n:List (a×b)} {P:List (a×c)},fK e n P->n.map (·.1)=P.map (·.1)
 |[],[],_=>rfl
 |(f,g)::n,(h,i)::P,d=>by simp[d.1,fK.keys d.2.2]
def fK.mono{d e f:Type}{g h:e->f->Prop}:∀{n:List (d×e)} {P:List (d×f)},fK g n P->(∀a b,g a b->h a b)->fK h n P
 |[],[],_,_=>trivial
 |(j,a)::n,(k,b)::P,c,i=>⟨c.1,i _ _ c.2.1,fK.mono c.2.2 i⟩
def fK.an{P e f:Type}[BEq P]{g:e->f->Prop}(n:P):∀{a:List (P×e)} {b:List (P×f)},fK g a b->
  (aw.an a n=none/\aw.an b n=none)\/∃c d,aw.an a n=some c/\aw.an b n=some d/\g c d
 |[],[],_=>.inl ⟨rfl,rfl⟩
 |(i,c)::a,(m,d)::b,j=>by
  obtain⟨rfl,k,l⟩:=j;unfold aw.an
  by_cases h:n==i
  ·simp only[h,if_true];exact .inr ⟨c,d,rfl,rfl,k⟩
  ·simp only[h];exact fK.an n l
def fK.aJ{n P a:Type}[BEq n]{R:P->a->Prop}{b:n}{f:P}{g:a}(c:R f g):∀{d:List (n×P)} {e:List (n×a)},fK R d e->fK R (aw.aJ d b f) (aw.aJ e b g)
 |[],[],_=>⟨rfl,c,trivial⟩
 |(j,m)::d,(o,p)::e,k=>by
  obtain⟨rfl,l,h⟩:=k;unfold aw.aJ
  by_cases i:b==j
  ·simp only[i,if_true];exact⟨rfl,c,h⟩
  ·simp only[i];exact⟨rfl,l,fK.aJ c h⟩
def fK.bK{n c d:Type}[BEq n]{e:c->d->Prop}{P:n}:∀{a:List (n×c)} {b:List (n×d)},fK e a b->fK e (aw.bK a P) (aw.bK b P)
 |[],[],_=>trivial
 |(h,k)::a,(l,m)::b,i=>by
  obtain⟨rfl,j,f⟩:=i;unfold aw.bK
  by_cases g:P==h
  ·simp only[g,if_true];exact f
  ·simp only[g];exact⟨rfl,j,fK.bK f⟩
def fK.mid{e f i:Type}{g:f->i->Prop}{j:e}{k:f}:∀{h b:List (e×f)} {a:List (e×i)},fK g (h++(j,k)::b) a->∃c P d,a=c++(j,P)::d/\g k P/\fK g (h++b) (c++d)
 |[],b,(l,P)::a,n=>⟨[],P,a,by rw[n.1];rfl,n.2.1,n.2.2⟩
 |(q,r)::h,b,(l,m)::a,n=>by
  obtain⟨c,P,d,rfl,o,p⟩:=fK.mid n.2.2;exact⟨(l,m)::c,P,d,rfl,o,n.1,n.2.1,p⟩
def fK.length{n P a:Type}{d:P->a->Prop}{b:List (n×P)}{c:List (n×a)}(e:fK d b c):b.length=c.length:=by
 have:=Zj List.length e.keys;simpa using this
structure bU {κ:Type} (w:World) (r:Nat) (enc:κ->Value) (l:List (κ×Value)):Prop where
 at':∃es clock,w.heap[r]? =some (.map es clock)/\es.toList.map (λe=>(e.key,e.val))=l.map (λp=>(enc p.1,p.2))/\
  (∀e∈es.toList,e.born<clock)/\(es.toList.map (·.born)).Nodup
 tidy:Tidy l
def bU.keep{S:UK}{P:j->Value}{d:List (j×Value)}(e:bU b a P d)(f:aj S b k)(g:¬S a):bU k a P d:=by
 obtain⟨h,n,i,c⟩:=e.at';exact⟨⟨h,n,f.get i g,c⟩,e.tidy⟩
def bU.af{n:j->Value}{P:List (j×Value)}(c:bU b a n P)(d:ai b k):bU k a n P:=c.keep d id
def bU.lt{n:j->Value}{d:List (j×Value)}(e:bU b a n d):a<b.heap.size:=by
 obtain⟨g,P,f,c⟩:=e.at';exact aA f
def bU.new{n:j->Value}(P:b.heap[a]? =some (.map #[] 0)):bU b a n ([]:List (j×Value)):=
 ⟨⟨_,_,P,rfl,sM,sM⟩,by simp[Tidy]⟩
def nz{n:Type}[BEq n](b:List (n×Value))(P:n)(a:Nat):Option (Nat×Value):=match b with
 |[]=>none
 |(c,d)::e=>if P==c then some (a,d)else nz e P (a+1)
def Cy{a:Type}[BEq a][LawfulBEq a]{n:a->Value}{g:TypeDesc}(h:∀i j,Instr.sameNow g (n i) (n j)=some (i==j))(b:a):
  ∀(c:List MapEntry) (d:List (a×Value)) (f:Nat),c.map (λe=>(e.key,e.val))=d.map (λk=>(n k.1,k.2))->Instr.findNow g (n b) c f=some (nz d b f)
 |[],[],_,_=>rfl
 |[],_::_,_,P=>by simp at P
 |_::_,[],_,P=>by simp at P
 |e::c,(l,q)::d,f,P=>by
  simp only[QY,List.cons.injEq,Prod.mk.injEq]at P;obtain⟨⟨m,o⟩,p⟩:=P;unfold Instr.findNow nz;rw[m,h]
  cases r:b==l
  ·simp only[Bool.false_eq_true,if_false]
   exact Cy h b c d (f+1) p
  ·simp[o]
def Ht[BEq j]{n:j->Value}(a:∀b c,Instr.sameNow e9 (n b) (n c)=none)(d:j)(P:MapEntry)(e:List MapEntry)(f:j)(g:P.key=n f)(h:Nat):Instr.findNow e9 (n d) (P::e) h=none:=by
 unfold Instr.findNow;rw[g,a]
def tL{a:Type}[BEq a]{h:Program}{i:TypeId}{n:a->Value}{b:World}(j:∀k l,(Op.equal i (n k) (n l)).run h b= .ok (k==l) b)(c:a):
  ∀(d:List MapEntry) (f:List (a×Value)) (g:Nat),d.map (λe=>(e.key,e.val))=f.map (λm=>(n m.1,m.2))->(Instr.findAsking i (n c) d g).run h b= .ok (nz f c g) b
 |[],[],_,_=>rfl
 |[],_::_,_,P=>by simp at P
 |_::_,[],_,P=>by simp at P
 |e::d,(o,s)::f,g,P=>by
  simp only[QY,List.cons.injEq,Prod.mk.injEq]at P;obtain⟨⟨p,q⟩,r⟩:=P;unfold Instr.findAsking nz;rw[p];simp only[Sem.run_bind,j,Result.andThen_ok]
  cases t:c==o
  ·simpa using tL j c d f (g+1) r
  ·simp[q]
structure jo {κ:Type} [BEq κ] (P:Program) (kt:TypeId) (enc:κ->Value):Prop where
 find:∀(k:κ) (es:List MapEntry) (l:List (κ×Value)) (w:World),es.map (λe=>(e.key,e.val))=l.map (λp=>(enc p.1,p.2))->(Instr.findKey kt (enc k) es).run P w= .ok (nz l k 0) w
 check:∀k w e,(Instr.checkKey e 10000 kt (enc k)).run P w= .ok () w
 same:∀n a,Instr.sameBits (n+1) (enc a) (enc a)=true
 inj:∀{a b},enc a=enc b->a=b
def jo.flat[BEq j][LawfulBEq j]{n:j->Value}(l:h.underlying g=some e9)(f:∀P a,Instr.sameNow e9 (n P) (n a)=some (P==a))(m:∀i b c d,(Instr.checkKey d (i+1) g (n b)).run h c= .ok () c)(e:∀i P,Instr.sameBits (i+1) (n P) (n P)=true):jo h g n:=
 ⟨λb o p c q=>by simp[Instr.findKey,run_underlying l,Cy f b o p 0 q],λb c d=>m 9999 b c d,e,λ{P a} d=>by
  have k:=f P a;rw[d,f a a]at k;simpa using k.symm⟩
def jo.struct[BEq j]{n:j->Value}(o:h.underlying g=some e9)(q:∀P a,Instr.sameNow e9 (n P) (n a)=none)(r:∀P a b,(Op.equal g (n P) (n a)).run h b= .ok (P==a) b)(s:∀e b f,(Instr.checkKey f 10000 g (n e)).run h b= .ok () b)(c:∀t P,Instr.sameBits (t+1) (n P) (n P)=true)(l:∀{P a},n P=n a->P=a):jo h g n:=by
 refine⟨λe i d b k=>?_,s,c,l⟩
 cases i with
 |nil=>
  cases d with
  |nil=>simp[Instr.findKey,run_underlying o,Instr.findNow,nz]
  |cons m d=>simp at k
 |cons f i=>
  cases d with
  |nil=>simp at k
  |cons m d=>
   have p:=k;simp only[QY,List.cons.injEq,Prod.mk.injEq]at p;simp only[Instr.findKey,Sem.run_bind,run_underlying o,Result.andThen_ok,Ht q e f i m.1 p.1.1];exact tL (λP a=>r P a b) e (f::i) (m::d) 0 k
def yh[BEq j][LawfulBEq j](P:List (j×Value))(a:j):∀n,(nz P a n).map (·.2)=an P a:=by
 induction P with
 |nil=>intro n;rfl
 |cons b d c=>
  intro n;obtain⟨e,f⟩:=b;unfold nz an;split
  ·rfl
  ·exact c (n+1)
def kq[BEq j][LawfulBEq j]{n:j->Value}(f:jo h g n)(P:j)(a:List MapEntry)(b:List (j×Value))(i:a.map (λd=>(d.key,d.val))=b.map (λe=>(n e.1,e.2)))(c:World):
  (Instr.findKey g (n P) a).run h c= .ok (nz b P 0) c:=by
 exact f.find P a b c i
def dL(n:b.heap[a]? =some (.map e8 c)):(getObj a).run h b= .ok (.map e8 c) b:=by
 simp[getObj,Sem.run,n]
def dS[BEq j][LawfulBEq j]{n:j->Value}(c:jo h g n)(a:Bool)(b:j)(P:World):(Instr.checkKey a 10000 g (n b)).run h P= .ok () P:=by
 exact c.check b P a
def D_(P:h.info? g=some f0)(a:f0.zero=some v)(n:World):(zeroValue g).run h n= .ok v n:=by
 simp[zeroValue,typeInfo,P,a]
structure mZ (P:Program) (t kt vt:TypeId) (z:Value):Prop where
 under:P.underlying t=some (.map kt vt)
 zero:(P.info? vt).bind (·.zero)=some z
def mZ.NT(b:mZ h g p B v)(P:World):(zeroValue B).run h P= .ok v P:=by
 have n:=b.zero
 cases a:h.info? B with
 |none=>rw[a]at n;cases n
 |some c=>rw[a]at n;exact D_ a n P
def eN[BEq j][LawfulBEq j]{n:j->Value}(i:mZ h g p B v)(k:jo h p n){P:List (j×Value)}(m:bU b a n P)(c:j)(e:Bool):
  (Instr.lookup g (.map (some a)) (n c) e).run h b= .ok (if e then .tuple #[(an P c).getD v,.bool (an P c).isSome]else(an P c).getD v) b:=by
 obtain⟨o,f,q,r,_⟩:=m.at';have s:=kq k c o.toList P r b;have d:=yh P c 0;simp only[Instr.lookup,Sem.run_bind,run_underlying i.under,Result.andThen_ok,dL q,dS k,s,Sem.run_pure]
 cases l:nz P c 0 with
 |none=>rw[l]at d;simp only[Option.map_none]at d;rw[<-d];cases e<;>simp[i.NT]
 |some t=>rw[l]at d;simp only[Option.map_some]at d;rw[<-d];cases e<;>simp
def AA[BEq j][LawfulBEq j]{n:j->Value}(d:mZ h g p B v)(e:jo h p n){c:List (j×Value)}(f:bU b a n c){P:j}(i:o ((an c P).getD v) b):aK h (Instr.lookup g (.map (some a)) (n P) false) b o t:=aK.mk (eN d e f P false) i
def jG[BEq j][LawfulBEq j]{enc:j->Value}(P:mZ h g p B v)(c:jo h p enc){n:List (j×Value)}(d:bU b a enc n){k:j}(e:o (.tuple #[(an n k).getD v,.bool (an n k).isSome]) b):aK h (Instr.lookup g (.map (some a)) (enc k) true) b o t:=aK.mk (eN P c d k true) e
def aj.setObj(n:World)(P:Nat)(a:Obj):aj (·=P) n {n with heap:=n.heap.setIfInBounds P a}:=
 ⟨rfl,rfl,rfl,sM,λc d b=>by simp[Array.getElem?_setIfInBounds,Ne.symm b]⟩
def oF[BEq j][LawfulBEq j]{a:List (j×Value)}{b:j}:∀{n P:Nat} {e:Value},nz a b n=some (P,e)->n<=P/\P-n<a.length/\a[P-n]? =some (b,e)/\∀g,aJ a b g=a.set (P-n) (b,g)/\bK a b=a.eraseIdx (P-n):=by
 induction a with
 |nil=>intro n P e c;simp[nz]at c
 |cons l v m=>
  intro n P e c;obtain⟨o,g⟩:=l;unfold nz at c;split at c
  ·rename_i f
   cases c
   have p:b=o:=by simpa using f
   subst p;simp[aJ,bK]
  ·rename_i f
   obtain⟨w,h,i,k⟩:=m c;obtain⟨d,rfl⟩:∃d,P=n+1+d:=⟨P-(n+1),oM⟩
   have q:n+1+d-n=d+1:=oM
   have r:n+1+d-(n+1)=d:=oM
   rw[r]at h i k;rw[q];refine⟨oM,by simpa using h,by simpa using i,λs=>?_⟩;obtain⟨t,u⟩:=k s;unfold aJ bK;rw[Zq f,Zq f];simp[t,u]
def sE[BEq j][LawfulBEq j]{n:List (j×Value)}{P:j}:∀{b:Nat},nz n P b=none->(∀c,aJ n P c=n++[(P,c)])/\bK n P=n:=by
 induction n with
 |nil=>intro b _;simp[aJ,bK]
 |cons e i f=>
  intro b a;obtain⟨k,c⟩:=e;unfold nz at a;split at a
  ·cases a
  ·rename_i d
   obtain⟨g,h⟩:=f a;refine⟨λl=>?_,?_⟩
   ·unfold aJ;rw[Zq d,g];rfl
   ·unfold bK;rw[Zq d,h]
def map_eraseIdx{b c:Type}(a:b->c):∀(n:List b) (P:Nat),(n.eraseIdx P).map a=(n.map a).eraseIdx P
 |[],_=>by simp
 |x::n,0=>rfl
 |x::n,P+1=>by simp[map_eraseIdx a n P]
def cW(n:World)(P:Nat)(a:Obj)(b:P<n.heap.size):({n with heap:=n.heap.setIfInBounds P a}:World).heap[P]? =some a:=by simp[b]
def eQ(P:b.heap[a]? =some (.map e8 c))(n:Obj):(setObj a n).run h b= .ok () {b with heap:=b.heap.setIfInBounds a n}:=by
 simp[setObj,Sem.run,P]
def dB[BEq j][LawfulBEq j]{enc:j->Value}(F:mZ h g p B v)(s:jo h p enc){m:List (j×Value)}(x:bU b a enc m){k:j}(H:∀t,bU t a enc (aJ m k c7)->aj (·=a) b t->t.heap.size=b.heap.size->y t):lR h (Instr.mapUpdate g (.map (some a)) (enc k) c7) b y o:=by
 obtain⟨c,n,q,r,z,I⟩:=x.at';have u:=kq s k c.toList m r b;have N:c.toList.length=m.length:=by have:=Zj List.length r;simpa using this
 have J:=aA q
 cases w:nz m k 0 with
 |none=>
  rw[w]at u;refine lR.mk (w':={b with heap:=b.heap.setIfInBounds a (.map (c.push {key:=enc k,val:=c7,born:=n}) (n+1))}) ?_ (H _ ⟨⟨_,_,cW b a _ J,?_,?_,?_⟩,x.tidy.aJ k c7⟩ (aj.setObj b a _) sM)
  ·simp[Instr.mapUpdate,run_underlying F.under,dL q,dS s,u,eQ q]
  ·rw[(sE w).1 c7];simp[r]
  ·intro e d
   simp only[Array.toList_push,Q6,List.mem_singleton]at d;rcases d with d|rfl
   ·have:=z e d;omega
   ·show n<n+1;omega
  ·simp only[Array.toList_push,Q3,QY,List.map_nil]
   rw[List.nodup_append];refine⟨I,sM,?_⟩;intro V O W A X;simp only[List.mem_singleton]at A;obtain⟨e,d,rfl⟩:=Xk.1 O;have:=z e d;omega
 |some Q=>
  obtain⟨f,Y⟩:=Q;rw[w]at u;obtain⟨_,K,L,M⟩:=oF w;rw[Nat.sub_zero]at K L M;have C:f<c.size:=by
                 have:c.size=m.length:=by simpa using N
                 omega
  have R:c[f].key=enc k:=by
   have:=Zj (·[f]?) r;simp only[Q9,L,Option.map_some]at this;simp[C]at this;exact this.1
  refine lR.mk (w':={b with heap:=b.heap.setIfInBounds a (.map (c.modify f λe=>{e with key:=enc k,val:=c7}) n)}) ?_ (H _ ⟨⟨_,_,cW b a _ J,?_,?_,?_⟩,x.tidy.aJ k c7⟩ (aj.setObj b a _) sM)
  ·have S:(Instr.keyThatStays (enc k) (enc k)).run h b= .ok (enc k) b:=by simp[Instr.keyThatStays,s.same]
   simp[Instr.mapUpdate,run_underlying F.under,dL q,dS s,u,C,R,S,eQ q]
  ·rw[(M c7).1]
   apply X3;intro i;have P:=Zj (·[i]?) r;simp only[Q9]at P;simp only[Array.toList_modify,Q9,Xj,List.getElem?_modify]
   by_cases l:f=i
   ·subst l
    simp[C,K]
   ·simp only[l,if_false,Option.map_map]at P⊢
    simpa using P
  ·intro e d
   rw[Array.toList_modify]at d;obtain⟨i,P⟩:=List.getElem?_of_mem d;rw[List.getElem?_modify]at P
   cases E:c.toList[i]? with
   |none=>rw[E]at P;simp at P
   |some T=>
    rw[E]at P;have U:=QZ E;have:=z T U
    by_cases l:f=i
    ·simp[l]at P;subst P;exact this
    ·simp[l]at P;subst P;exact this
  ·have:(c.modify f λe=>{e with key:=enc k,val:=c7}).toList.map (·.born)=c.toList.map (·.born):=by
    apply X3;intro i;simp only[Array.toList_modify,Q9,List.getElem?_modify,Option.map_map]
    by_cases l:f=i<;>simp[l]<;>rfl
   rw[this];exact I
def Mc[BEq j][LawfulBEq j]{c:j->Value}(w:mZ h g p B v)(r:jo h p c){e:List (j×Value)}(s:bU b a c e){f:j}(x:∀k,bU k a c (bK e f)->aj (·=a) b k->k.heap.size=b.heap.size->o (.tuple #[]) k):aK h (Builtin.delete_ #[g,b9] f5 #[.map (some a),c f]) b o t:=by
 obtain⟨n,P,i,l,y,z⟩:=s.at';have m:=kq r f n.toList e l b;have F:n.toList.length=e.length:=by have:=Zj List.length l;simpa using this
 have A:=aA i
 cases q:nz e f 0 with
 |none=>
  rw[q]at m;refine aK.mk (w':={b with heap:=b.heap.setIfInBounds a (.map n P)}) ?_ (x _ ⟨⟨_,_,cW b a _ A,?_,y,z⟩,s.tidy.bK f⟩ (aj.setObj b a _) sM)
  ·simp[Builtin.delete_,run_underlying w.under,dL i,dS r,m,eQ i]
  ·rw[(sE q).2];exact l
 |some H=>
  obtain⟨d,I⟩:=H;rw[q]at m;obtain⟨_,J,K,C⟩:=oF q;rw[Nat.sub_zero]at J K C;have u:d<n.size:=by
                 have:n.size=e.length:=by simpa using F
                 omega
  refine aK.mk (w':={b with heap:=b.heap.setIfInBounds a (.map (n.eraseIdxIfInBounds d) P)}) ?_ (x _ ⟨⟨_,_,cW b a _ A,?_,?_,?_⟩,s.tidy.bK f⟩ (aj.setObj b a _) sM)
  ·simp[Builtin.delete_,run_underlying w.under,dL i,dS r,m,eQ i]
  ·rw[(C I).2]
   have:(n.eraseIdxIfInBounds d).toList=n.toList.eraseIdx d:=by simp[Array.eraseIdxIfInBounds,u]
   rw[this,map_eraseIdx,l,map_eraseIdx]
  ·intro L E
   have:(n.eraseIdxIfInBounds d).toList=n.toList.eraseIdx d:=by simp[Array.eraseIdxIfInBounds,u]
   rw[this]at E;exact y L (List.mem_of_mem_eraseIdx E)
  ·have:(n.eraseIdxIfInBounds d).toList=n.toList.eraseIdx d:=by simp[Array.eraseIdxIfInBounds,u]
   rw[this,map_eraseIdx];exact z.sublist (List.eraseIdx_sublist _ _)
def JJ[BEq j][LawfulBEq j]{P:j->Value}(e:mZ h g p B v){f:List (j×Value)}(i:bU b a P f)(k:∀c,bU c a P ([]:List (j×Value))->aj (·=a) b c->c.heap.size=b.heap.size->o (.tuple #[]) c):aK h (Builtin.clear_ #[g] b9 #[.map (some a)]) b o t:=by
 obtain⟨m,n,d,q,r,s⟩:=i.at';have l:=aA d;refine aK.mk (w':={b with heap:=b.heap.setIfInBounds a (.map #[] n)}) ?_ (k _ ⟨⟨_,_,cW b a _ l,rfl,sM,sM⟩,by simp[Tidy]⟩ (aj.setObj b a _) sM);simp[Builtin.clear_,run_underlying e.under,dL d,eQ d]
def Xg(n:h.underlying g=some (.int .i64)):jo h g (Value.int .i64):=
 jo.flat n (λP b=>by simp[Instr.sameNow]) (λa c d e=>by simp[Instr.checkKey,run_underlying n]) λa P=>by simp[Instr.sameBits]

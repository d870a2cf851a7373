import Derived.Test.YtkpomgifkloklaaGreatDoorYeCode
import Derived.Maps.AppendAt
import Derived.Below
import Derived.Laws.Strings
import Derived.Laws.OwnMore
import Derived.Laws.MakeOwn
import Derived.Lib.BitFns
import Derived.Lib.ItoaNum
import Derived.Shelf.SlIter.Nil
import Derived.Shelf.SlIterI.Nil
import Derived.Shelf.SortM.Plain
import Derived.Shelf.SortM.SortNone
import Derived.Shelf.Strconv.Itoa3
import Derived.Shelf.Small.Strs
import Derived.Ground.GgzProg
import Derived.Ground.SlgmProg
import Derived.Ground.NamesProg
import Derived.Test.YtkpomgifkloklaaGreatDoorProg
import Derived.Laws.CopyRow
import Derived.Laws.IdiomCopy
set_option maxHeartbeats 4000000
set_option linter.all false
set_option maxRecDepth 100000
open Go.IntKind renaming wrap→PP
namespace Go.Proofs.YtkpomgifkloklaaGreatDoor
open Go.aw
def iM:lq:=⟨[],[],[],[],[]⟩
variable{d3 x:ByteArray}{B:ba}{e:Int}{a c:Nat}{d:be}{b:World}
def iN(n:al (decide ((((ByteArray.size x:Nat):Int):Int)>=((ByteArray.size d3:Nat):Int))) (((0:Int)<=((ByteArray.size d3:Nat):Int)/\(((ByteArray.size d3:Nat):Int):Int)<=((ByteArray.size x:Nat):Int)/\rt B ((.bool ((ByteArray.toList (ByteArray.extract x 0 (Int.toNat ((ByteArray.size d3:Nat):Int))))==(ByteArray.toList d3)))) b)) (rt B ((.bool false)) b)):bn 339 #[.string x,.string d3] b B:=DC iM Tryz.func339 rfl n
def iK:lq:=⟨[],[],[],[],[]⟩
def iL(P:PC_ 339 #[.string x,.string d3] b (kB λa n=>al (!a) (rt B ((.tuple #[.string x,.bool false])) n) (((0:Int)<=((ByteArray.size d3:Nat):Int)/\(((ByteArray.size d3:Nat):Int):Int)<=((ByteArray.size x:Nat):Int)/\rt B ((.tuple #[.string (ByteArray.extract x (Int.toNat ((ByteArray.size d3:Nat):Int)) (ByteArray.size x)),.bool true])) n))) (pE B)):bn 303 #[.string x,.string d3] b B:=DC iK Tryz.func303 rfl P
def BJ:lq:=⟨[],[],[],[],[(11,⟨[0,1,0,4,10,18,48,64,192,320,576,1088],[4095,4094,4095,4091,4087,4077,4063,4031,3903,3775,3519,3007],[0,2,0,0,2,0,0,0,0,1,0,0]⟩)]⟩
def BK(o:al (decide ((a:Int)<4)) (rt B ((.tuple #[.ii 0,.ii 4])) b) (((0:Int)<=1/\(1:Int)<=4/\(4:Int)<=(c:Int)/\PC_ 314 #[.slice (df d (Int.toNat 1) c 1) (Int.toNat 4-Int.toNat 1) (c-Int.toNat 1)] b (λp P=>∃n,p= .int .u32 n/\(ix_ d 0 a λq r=>(∃f,P.cell? (ad q (r+Int.toNat 0))=some (.int .u8 f)/\al (f==0) (rt B ((.tuple #[.ii 0,.ii 2])) P) (al (decide (((PP .i64 n):Int)>65536)) (rt B ((.tuple #[.ii 0,.ii 5])) P) (al (decide ((a:Int)<(PP .i64 ((PP .i64 (4+(PP .i64 n)))+5)))) (rt B ((.tuple #[.ii 0,.ii 4])) P) (((0:Int)<=(PP .i64 (4+(PP .i64 n)))/\((PP .i64 (4+(PP .i64 n))):Int)<=(c:Int)/\((0:Int)<=(PP .i64 (4+(PP .i64 n)))/\((PP .i64 (4+(PP .i64 n))):Int)<=(PP .i64 ((PP .i64 (4+(PP .i64 n)))+5))/\((PP .i64 ((PP .i64 (4+(PP .i64 n)))+5)):Int)<=(c:Int)/\(∀g,bW P g->(∀h,bW g h->((0:Int)<=4/\(4:Int)<=(((c-Int.toNat (PP .i64 (4+(PP .i64 n)))):Nat):Int)/\PC_ 299 #[.slice d (Int.toNat (PP .i64 (4+(PP .i64 n)))) c] h (λs t=>∃i,s= .int .u32 i/\PC_ 314 #[.slice (df d (Int.toNat (PP .i64 (4+(PP .i64 n)))) c 1) (Int.toNat 4) (c-Int.toNat (PP .i64 (4+(PP .i64 n))))] t (λu e=>∃j,u= .int .u32 j/\al (i !=j) (rt B ((.tuple #[.ii 0,.ii 6])) e) ((∃k l,(df d (Int.toNat (PP .i64 (4+(PP .i64 n)))) c 1)=some ⟨k,l,none⟩/\(0:Int)<=4/\4<((Int.toNat (PP .i64 ((PP .i64 (4+(PP .i64 n)))+5))-Int.toNat (PP .i64 (4+(PP .i64 n))):Nat):Int)/\(∃m,e.cell? (ad k (l+Int.toNat 4))=some (.int .u8 m)/\al (m !=10) (rt B ((.tuple #[.ii 0,.ii 6])) e) (rt B ((.tuple #[.ii (PP .i64 n),.ii 0])) e))))) (pZ B)) (pZ B)))))))))))) (pE B)))):bn 264 #[.slice d a c] b B:=DC BJ Tryz.func264 rfl o
def ns:lq:=⟨[],[(3,[])],[],[],[]⟩
def nu(l:(∃f:bc,(al (decide ((e:Int)<0)) (aK LL (Instr.panic (.iface 9 (.string (⟨#[99,97,110,110,111,116,32,98,101,32,110,101,103,97,116,105,118,101]⟩:ByteArray)))) b (λu m=>
   f m) (λn b=>B (.panicked [{v:=n,recovered:=false}]) b)) (f b))/\∀(v:Nat->Value) (i:World),f i->aK LL (Builtin.cap_ #[214] 3 #[.slice d a c]) i (λo j=>
   ∃(g:Int),o= WP g/\al (decide (((PP .i64 (e-(PP .i64 (g-((a:Nat):Int))))):Int)>0)) (aK LL (Builtin.cap_ #[214] 3 #[.slice d a c]) j (λp q=>
   ∃(P:Int),p= WP P/\((0:Int)<=P/\(P:Int)<=((c:Nat):Int)/\aK LL (Builtin.append_ #[214,3] 214 #[.slice d (Int.toNat P) c,WP (PP .i64 (e-(PP .i64 (g-((a:Nat):Int)))))]) q (λr s=>
   ∃(k:be) (t:Nat) (h:Nat),r= .slice k t h/\((0:Int)<=((a:Nat):Int)/\(((a:Nat):Int):Int)<=((h:Nat):Int)/\
   B (.returned (.slice k (Int.toNat ((a:Nat):Int)) h)) s)) (λn b=>B (.panicked [{v:=n,recovered:=false}]) b))) (λn b=>B (.panicked [{v:=n,recovered:=false}]) b)) (B (.returned (.slice d a c)) j)) (λn b=>
   B (.panicked [{v:=n,recovered:=false}]) b))):
  bn 335 #[.slice d a c,WP e] b B:=
 sw ns mixed Tryz.func335 rfl (Zv kR) kR (Eq.mp kR l)
def lT:lq:=⟨[(3,[(3,WP 0),(11,WP 0)]),(11,[(6,.slice none 0 0),(27,WP 0)])],[],[],[],[]⟩
def lU(J:(∃l:Nat->Int->Int->bc,(∃h,l h 0 0 b)/\∀(h:Nat) (i:Int) (f:Int) (T:Nat->Value) (j:World),l h i f j->al (decide ((f:Int)<((a:Nat):Int))) ((∃s t,d=some ⟨s,t,none⟩/\
   (0:Int)<=f/\f<((a:Nat):Int)/\(∃(K:be) (m:Nat) (L:Nat),j.cell? ⟨s,t+Int.toNat f,none⟩=some (.slice K m L)/\
   al (decide (((PP .i64 (i+((m:Nat):Int))):Int)<0)) (aK LL (Instr.panic (.iface 9 (.string (⟨#[108,101,110,32,111,117,116,32,111,102,32,114,97,110,103,101]⟩:ByteArray)))) j (λU M=>
   (∃k,k<h/\l k (PP .i64 (i+((m:Nat):Int))) (PP .i64 (f+1)) M)) (λq b=>B (.panicked [{v:=q,recovered:=false}]) b)) ((∃k,k<h/\
   l k (PP .i64 (i+((m:Nat):Int))) (PP .i64 (f+1)) j))))) (PC LL 335 #[.slice none 0 0,WP i] j (λN O=>
   ∃(u:be) (v:Nat) (w:Nat),N= .slice u v w/\(∃r:Nat->be->Nat->Nat->Int->bc,(∃o,r o u v w 0 O)/\
   ∀(o:Nat) (n:be) (P:Nat) (e:Nat) (g:Int) (V:Nat->Value) (p:World),r o n P e g p->al (decide ((g:Int)<((a:Nat):Int))) ((∃x y,d=some ⟨x,y,none⟩/\
   (0:Int)<=g/\g<((a:Nat):Int)/\(∃(z:be) (A:Nat) (C:Nat),p.cell? ⟨x,y+Int.toNat g,none⟩=some (.slice z A C)/\
   aK LL (Builtin.append_ #[214,214] 214 #[.slice n P e,.slice z A C]) p (λQ R=>∃(E:be) (F:Nat) (H:Nat),Q= .slice E F H/\
   (∃I,I<o/\r I E F H (PP .i64 (g+1)) R)) (λq b=>B (.panicked [{v:=q,recovered:=false}]) b)))) (B (.returned (.slice n P e)) p))) (λS b=>
   B (.panicked S) b)))):
  bn 298 #[.slice d a c] b B:=
 sw lT mixed Tryz.func298 rfl (Zv kR) kR (Eq.mp kR J)
end Go.Proofs.YtkpomgifkloklaaGreatDoor
namespace Go.aw
open Go
abbrev ai(n P:World):Prop:=aj (λ_=>False) n P
variable{d1:Addr}{f0:Array MapEntry}{o:Array Value}{A:FuncId}{e:Int}{s:List Int}{a6:List PanicEntry->bc}{I a c i p:Nat}{a0 f h0:ac}{F:Nat×Nat}{c8:Obj}{U Z:Operand}{d:be}{c9:Option Nat}{h:Program}{C g q:TypeId}{m t:am}{a7 b k:World}{z:bc}
def aj.refl(n:World):aj f n n:=⟨rfl,rfl,rfl,Q4 _,λ_ _ _=>rfl⟩
def aj.trans(P:aj a0 b k)(n:aj h0 k a7)(g:∀n,n<b.heap.size->a0 n->f n)(h:∀n,n<b.heap.size->h0 n->f n):aj f b a7:=
 ⟨n.os.trans P.os,n.tape.trans P.tape,n.output.trans P.output,Xx P.size n.size,λa c e=>
  (n.block a (Qk c P.size) (λd=>e (h a c d))).trans (P.block a c (λd=>e (g a c d)))⟩
def aj.mono(P:aj f b k)(c:∀n,n<b.heap.size->f n->a0 n):aj a0 b k:=
 ⟨P.os,P.tape,P.output,P.size,λn a d=>P.block n a λe=>d (c n a e)⟩
def aj.then(n:aj f b k)(P:aj f k a7):aj f b a7:=n.trans P (λ_ _ n=>n) (λ_ _ n=>n)
def aj.new(P:aj f b k)(n:aj a0 k a7)(a:∀n,a0 n->f n\/b.heap.size<=n):aj f b a7:=
 P.trans n (λ_ _ P=>P) (λc e d=>(a c d).resolve_right oM)
def aj.af(n:aj f b k)(P:ai k a7):aj f b a7:=n.trans P (λ_ _ n=>n) (λ_ _ n=>n.elim)
def ai.keep{S:ac}(n:ai b k):aj S b k:=n.mono λ_ _ n=>n.elim
def aj.alloc{b:ac}(n:World)(P:Obj):aj b n (n.alloc P):=
 ⟨rfl,rfl,rfl,sM,λc a _=>by first|exact heap_alloc_old n P c a|exact heap_alloc_old n P a⟩
def aj.drewN{S:ac}(n:World)(P:Nat):aj S n (n.drewN P):=⟨rfl,rfl,rfl,Q4 _,λ_ _ _=>rfl⟩
def bW.keep{S:ac}(n:bW b k):aj S b k:=by obtain⟨P,rfl⟩:=n;exact aj.drewN b P
def bW.heap(n:bW b k):k.heap=b.heap:=by obtain⟨P,rfl⟩:=n;rfl
def aj.setCell(n:World)(P:Addr)(a:Value)(b:f P.block):aj f n (n.setCell P a):=
 ⟨rfl,rfl,rfl,by simp[World.setCell],λd _ c=>by
  simp only[World.setCell,Array.getElem?_modify];rw[Zq (by rintro rfl;exact c b)]⟩
def aj.below(n:ai b k):RowKit.Below b.heap.size b k:=⟨n.os,n.tape,n.output,n.size,λP a=>n.block P a (λn=>n)⟩
def aj.It(n:RowKit.Below b.heap.size b k):ai b k:=⟨n.os,n.tape,n.output,n.size,λP a _=>n.block P a⟩
def aj.of_grownBy(n:b.grownBy k c9):aj (λP=>some P=c9) b k:=⟨n.os,n.tape,n.output,n.size,λP a c=>n.block P a c⟩
def aj.cell(n:aj f b k){a:Addr}(P:a.block<b.heap.size)(j:¬f a.block):k.cell? a=b.cell? a:=
 World.cell?_of_block (w:=b) (n.block a.block P j)
def aj.get(P:aj f b k)(n:b.heap[a]? =some c8)(c:¬f a):k.heap[a]? =some c8:=by
 rw[P.block a (Q5.1 n).1 c];exact n
def az(n:b.heap[a]? =some c8):a<b.heap.size:=(Q5.1 n).1
def ae{cs:Array Value}(n:b.heap[a]? =some (Obj.cells cs g F)){off:Nat}{v:Value}(P:cs[off]? =some v):
  b.cell? ⟨a,off,none⟩=some v:=by simp[World.cell?,n,P]
def PA.mk(P:∀n,ai b n->n.heap.size=b.heap.size+1->n.heap[b.heap.size]? =some c8->z n):PA b c8 z:=
 P (b.alloc c8) (aj.alloc b c8) sM (heap_alloc_new b c8)
def PS.mk{v:Value}{cs:Array Value}(P:b.heap[a]? =some (.cells cs g (0,0)))(d:c<cs.size)(e:∀n,aj (·=a) b n->n.heap.size=b.heap.size->n.heap[a]? =some (.cells (cs.setIfInBounds c v) g (0,0))->z n):PS b ⟨a,c,none⟩ v z:=by
 refine⟨⟨cs[c],ae P (by simp[d])⟩,by simp[World.frozen?,P],e _ (aj.setCell b _ v rfl) (by simp[World.setCell]) ?_⟩;simp[World.setCell,Array.getElem?_modify,P]
def Ok(P:am):ba:=λa b=>∃n,a= .returned n/\P n b
def Ok.mk{v:Value}(n:m v b):Ok m (.returned v) b:=⟨v,rfl,n⟩
def PC.ok{φ a:am}(c:Calls h A o b (Ok φ))(d:∀n P,φ n P->a n P):PC h A o b a a6:=
 c.mono λg P ⟨n,e,f⟩=>by subst e;exact d n P f
def Calls.ok{φ a:am}(c:Calls h A o b (Ok φ))(d:∀n P,φ n P->a n P):Calls h A o b (Ok a):=
 c.mono λg P ⟨n,e,f⟩=>⟨n,e,d n P f⟩
def aH(n:Int):Prop:= -9223372036854775808<=n/\n<=9223372036854775807
theorem cS{p:Prop}(h:p:=by unfold aH;omega):p:=h
def wrap_i64{x:Int}(n:aH x):PP .i64 x=x:=by
 unfold aH at n;unfold PP;simp[IntKind.signed,IntKind.bits];omega
def aP:Nat:=140737488355328
theorem cw{p:Prop}(h:p:=by unfold aP;omega):p:=h
structure Ints (w:World) (a:be) (n:Nat) (xs:List Int):Prop where
 len:n=xs.length
 eO:n*8<=aP
 zF:∀x∈xs,aH x
 cell:∀(i:Nat) x,xs[i]? =some x->∃b off,a=some ⟨b,off,none⟩/\b<w.heap.size/\w.cell? ⟨b,off+i,none⟩=some (WP x)
def pW(P:ac)(a:be):Prop:=∀n,a=some n->¬P n.block
def pW.none:pW f Option.none:=λ_ n=>by cases n
def Ints.keep{S:ac}{a:be}{d:Nat}(P:Ints b a d s)(e:aj S b k)(h:pW S a):Ints k a d s:=
 ⟨P.len,P.eO,P.zF,λf i j=>by
  obtain⟨c,n,rfl,g,l⟩:=P.cell f i j;exact⟨c,n,rfl,Qk g e.size,(e.cell (a:=⟨c,n+f,none⟩) g (h ⟨c,n,none⟩ rfl)).trans l⟩⟩
def Ints.af(n:Ints b d a s)(P:ai b k):Ints k d a s:=n.keep P λ_ _ n=>n
def Ints.nil(n:World):Ints n none 0 []:=⟨rfl,by simp[aP],sM,λa b P=>by simp at P⟩
def Ints.at(c:Ints b d a s){i:Int}(j:0<=i)(k:i<(a:Int)):
  ∃P n x,d=some ⟨P,n,none⟩/\P<b.heap.size/\s[i.toNat]? =some x/\aH x/\b.cell? ⟨P,n+i.toNat,none⟩=some (WP x):=by
 have l:=c.len;have e:i.toNat<s.length:=oM
 obtain⟨P,n,f,g,h⟩:=c.cell i.toNat s[i.toNat] (by simp[e]);exact⟨P,n,_,f,g,by simp[e],c.zF _ (XY e),h⟩
def aI:be->Option Nat
 |none=>none
 |some n=>some n.block
def Ints.Iu(n:Ints b d a s)(c:aj f b k)(e:s≠[]->pW f d):Ints k d a s:=by
 by_cases P:s=[]
 ·subst P;exact⟨n.len,n.eO,n.zF,λh i g=>by simp at g⟩
 ·exact n.keep c (e P)
def dB:pW f d↔∀n,aI d=some n->¬f n:=by
 cases d with
 |none=>simp[pW,aI]
 |some d=>simp[pW,aI]
structure Own (w:World) (e:TypeId) (k:Nat) (a:be) (n c:Nat) (cs:List Value):Prop where
 row:w.ownsRow 0 e k (.slice a n c) n cs
def Own.nil(n:World)(e:TypeId)(P:Nat):Own n e P none 0 0 []:=⟨World.ownsRow_nil n 0 e P⟩
def Own.length{cs:List Value}(n:Own b g a d c i cs):cs.length=c*a:=n.row.1
def Own.cases{cs:List Value}(f:Own b g a d c i cs):
  (d=none/\c=0/\i=0/\cs=[])\/
  ∃e n,d=UV e/\b.heap[e]? =some (.cells n g (0,0))/\c<=i/\n.size=i*a/\n.toList.take (c*a)=cs:=by
 rcases f.row.2 with⟨P,o⟩|⟨e,h,n,P,_,j,k,_,l,m⟩
 ·simp only[XX]at P
  obtain⟨rfl,rfl,rfl⟩:=P;exact .inl ⟨rfl,rfl,rfl,QW (by simpa using f.row.1)⟩
 ·simp only[XX]at P
  obtain⟨rfl,-,rfl⟩:=P;exact .inr ⟨e,n,rfl,j,k,l,m⟩
def Own.keep{S:ac}{cs:List Value}(h:Own b g a d c i cs)(j:aj S b k)(l:pW S d):Own k g a d c i cs:=by
 refine⟨⟨h.row.1,?_⟩⟩;rcases h.row.2 with m|⟨o,P,e,f,p,q,n⟩
 ·exact .inl m
 ·refine .inr ⟨o,P,e,f,p,j.get q ?_,n⟩
  simp only[XX]at f;exact l _ f.1
def Own.af{cs:List Value}(n:Own b g a d c i cs)(P:ai b k):Own k g a d c i cs:=n.keep P λ_ _ n=>n
def Own.lt{cs:List Value}(P:Own b g a d c i cs)(n:aI d=some p):p<b.heap.size:=by
 rcases P.cases with⟨rfl,_⟩|⟨h,e,rfl,f,_⟩
 ·cases n
 ·simp only[aI,Q1]at n
  subst n;exact az f
def Own.cell{b:World}{d:TypeId}{e:Nat}{a:be}{f g:Nat}{cs:List Value}(h:Own b d e a f g cs){j:Nat}{u:Value}(n:cs[j]? =some u):
  ∃P,a=UV P/\P<b.heap.size/\b.cell? ⟨P,j,none⟩=some u:=by
 rcases h.cases with⟨_,_,_,rfl⟩|⟨P,i,rfl,c,_,_,k⟩
 ·simp at n
 ·refine⟨P,rfl,az c,ae c ?_⟩
  rw[<-k,Xw]at n;split at n
  ·simpa using n
  ·cases n
def Own.AU{cur:Array Value}(P:b.heap[c]? =some (.cells cur g (0,0)))(n:cur.size=i*a)(d:i<=maxLen):
  Own b g a (UV c) i i cur.toList:=
 ⟨⟨by simpa using n,.inr ⟨c,i,cur,rfl,Qj _,P,Q4 _,d,n,by rw[Qz];simp[n]⟩⟩⟩
structure ki (P:Program) (t e:TypeId) (k bytes:Nat):Prop where
 under:P.underlying t=some (.slice e)
 row:(P.info? e).map (λi=>(i.zero.map λz=>z.cells.size,i.size,i.bytes))=some (some k,k,bytes)
 pos:0<k
def ki.info{b:Program}{g c:TypeId}{d bytes:Nat}(h:ki b g c d bytes):∃P a,b.info? c=some P/\P.zero=some a/\P.size=d/\P.bytes=bytes/\a.cells.size=d:=by
 have n:=h.row
 cases f:b.info? c with
 |none=>rw[f]at n;cases n
 |some P=>
  rw[f]at n;simp only[Option.map_some,Q1,Prod.mk.injEq]at n
  cases e:P.zero with
  |none=>rw[e]at n;cases n.1
  |some a=>
   rw[e]at n;exact⟨P,a,rfl,e,n.2.1,n.2.2,by simpa using n.1⟩
def NC{P:Program}{f bytes:Nat}(l:ki P g q f bytes){o news:List Value}(x:Own b q f d a c o)(y:∀j k,news[j]? =some k->b.cell? (d1.add j)=some k)(z:news.length=i*f)(A:∀k∈news,k.oneCell'=true)(B:(a+i)*bytes<=aP)(E:a+i<=maxLen)(F:∀n e h,Own h q f n (a+i) e (o++news)->aj (λj=>some j=aI d) b h->(aI n=aI d\/aI n=some b.heap.size)->m (.slice n (a+i) e) h):
  aK P (Builtin.append_ #[g,g] C #[.slice d a c,.slice (some d1) i p]) b m t:=by
 obtain⟨H,I,J,K,L,M,N⟩:=ki.info l;obtain⟨O,h,Q,r,s,U,u⟩:=run_append_own_at (P:=P) b 0 g C q H I f bytes l.under J K L M N l.pos (.slice d a c) a o x.row
  d1 i p news z y A E B (Qj _)
 have R:∀(d:be) a c,(Value.slice d a c).ownBlock=aI d:=λd a c=>by cases d<;>rfl
 have S:∃n e,O= .slice n (a+i) e:=by
  rcases r.2 with⟨rfl,T⟩|⟨V,v,w,rfl,_⟩
  ·exact⟨none,0,by rw[T]⟩
  ·exact⟨_,_,rfl⟩
 obtain⟨n,e,rfl⟩:=S;simp only[R]at s u;exact aK.mk Q (F n e h ⟨r⟩ (aj.of_grownBy s) u)
def vk{n bytes:Nat}(s:ki h g q n bytes){j news:List Value}(u:Own b q n d a c j)(v:b.heap[i]? =some (.cells o q F))(w:o.toList.take (p*n)=news)(x:news.length=p*n)(y:∀k∈news,k.oneCell'=true)(z:(a+p)*bytes<=aP)(A:a+p<=maxLen)(B:∀P l f,Own f q n P (a+p) l (j++news)->aj (λr=>some r=aI d) b f->(aI P=aI d\/aI P=some b.heap.size)->m (.slice P (a+p) l) f):
  aK h (Builtin.append_ #[g,g] C #[.slice d a c,.slice (UV i) p I]) b m t:=by
 exact NC s u (λr k e=>by
   rw[Addr.add_lit,Xz];refine ae v ?_;rw[<-w,Xw]at e;split at e
   ·simpa using e
   ·cases e) x y z A B
def ints(n:List Int):List Value:=n.map (Value.int .i64)
def kp(n:List Int):(ints n).length=n.length:=by simp[ints]
def Own.ints(P:Own b g 1 d a c (ints s))(f:a*8<=aP)(h:∀n∈s,aH n):Ints b d a s:=by
 have e:=P.length;rw[kp,Nat.mul_one]at e;refine⟨e.symm,f,h,λi n j=>?_⟩;obtain⟨k,l,m,o⟩:=P.cell (j:=i) (u:=WP n) (by simp[aw.ints,j]);exact⟨k,0,l,m,by rw[Xz];exact o⟩
def ND(k:ki h g q 1 8)(l:Own b q 1 d a c (ints s))(o:b.heap[i]? =some (.cells #[WP e] q (0,0)))(j:(a+1)*8<=aP)(p:∀n f P,Own P q 1 n (a+1) f (ints (s++[e]))->aj (λr=>some r=aI d) b P->(aI n=aI d\/aI n=some b.heap.size)->m (.slice n (a+1) f) P):
  aK h (Builtin.append_ #[g,g] C #[.slice d a c,.slice (UV i) 1 1]) b m t:=
 vk k (news:=[WP e]) l o sM sM (by simp[Value.oneCell']) j (by unfold aP at j;unfold maxLen;omega)
  λn f P u v w=>p n f P (by simpa[ints]using u) v w
def Dy(a:h.underlying g=some (.slice q))(b:Nat)(n:be)(c d:Nat)(P:World):
  (Op.equalIn (b+1) g (.slice n c d) (.slice none 0 0)).run h P= .ok n.isNone P:=by
 cases n<;>simp[Op.equalIn,run_underlying a]
def yE(a:h.underlying g=some (.pointer q))(b:Nat)(n:be)(P:World):
  (Op.equalIn (b+1) g (.pointer n) (.pointer none)).run h P= .ok n.isNone P:=by
 cases n<;>simp[Op.equalIn,run_underlying a]
def lx(n:h.underlying g=some (.slice q))(P:m (.bool d.isNone) b):
  aK h (do eqGuard .eql g U Z (.slice d a c) (.slice none 0 0);binOp .eql g (.slice d a c) (.slice none 0 0)) b m t:=by
 refine aK.mk (v:=.bool d.isNone) ?_ P;have e:(do eqGuard .eql g U Z (.slice d a c) (.slice none 0 0);binOp .eql g (.slice d a c) (.slice none 0 0):Sem Value).run h b=
  ((Op.equalIn (9999+1) g (.slice d a c) (.slice none 0 0))>>=λf=>(pure (Value.bool f):Sem Value)).run h b:=rfl
 rw[e,Sem.run_bind,Dy n]
 rfl
def jL(n:h.underlying g=some (.pointer q))(P:m (.bool d.isNone) b):
  aK h (do eqGuard .eql g U Z (.pointer d) (.pointer none);binOp .eql g (.pointer d) (.pointer none)) b m t:=by
 refine aK.mk (v:=.bool d.isNone) ?_ P;have a:(do eqGuard .eql g U Z (.pointer d) (.pointer none);binOp .eql g (.pointer d) (.pointer none):Sem Value).run h b=
  ((Op.equalIn (9999+1) g (.pointer d) (.pointer none))>>=λc=>(pure (Value.bool c):Sem Value)).run h b:=rfl
 rw[a,Sem.run_bind,yE n]
 rfl
def lM(c:h.underlying g=some (.pointer q))(a b:Operand)(n:be)(P:World):
  (do eqGuard .neq g a b (.pointer n) (.pointer none);binOp .neq g (.pointer n) (.pointer none):Sem Value).run h P= .ok (.bool n.isSome) P:=by
 have d:(do eqGuard .neq g a b (.pointer n) (.pointer none);binOp .neq g (.pointer n) (.pointer none):Sem Value).run h P=
  ((Op.equalIn (9999+1) g (.pointer n) (.pointer none))>>=λe=>(pure (Value.bool !e):Sem Value)).run h P:=rfl
 rw[d,Sem.run_bind,yE c]
 cases n<;>rfl
def AV(n:h.underlying g=some (.pointer q))(P:m (.bool d.isSome) b):
  aK h (do eqGuard .neq g U Z (.pointer d) (.pointer none);binOp .neq g (.pointer d) (.pointer none)) b m t:=aK.mk (lM n U Z d b) P
def Own.Wt{cs:List Value}(e:Own b g a d c i cs)(P:b.heap[p]? =some (.map f0 I)):aI d≠some p:=by
 intro n;rcases e.cases with⟨rfl,_⟩|⟨j,f,rfl,h,_⟩
 ·cases n
 ·simp only[aI,Q1]at n
  subst n;rw[h]at P;cases P
structure cd (F:ac) (w:World) (F':ac) (w':World):Prop where
 keep:aj F w w'
 new:∀b,F' b->F b\/w.heap.size<=b
def cd.refl(P:ac)(n:World):cd P n P n:=⟨aj.refl n,λ_ a=>.inl a⟩
def cd.trans{b G c:ac}{d e f:World}(n:cd b d G e)(g:cd G e c f):cd b d c f:=
 ⟨n.keep.trans g.keep (λ_ _ n=>n) (λP h i=>(n.new P i).resolve_right oM),λP h=>by
  rcases g.new P h with a|a
  ·exact n.new P a
  ·exact .inr (Xx n.keep.size a)⟩
def cd.last(P:cd f b a0 k)(a:aj h0 k a7)(c:∀n,h0 n->b.heap.size<=n):cd f b a0 a7:=⟨P.keep.new a λn d=>.inr (c n d),P.new⟩
def cd.af(n:cd f b a0 k)(P:ai k a7):cd f b a0 a7:=⟨n.keep.then (ai.keep P),n.new⟩
def cd.of(n:ai b k):cd f b f k:=⟨ai.keep n,λa P=>.inl P⟩
end Go.aw
namespace Go.aw
open Go
variable{d1:Addr}{o:Array Value}{H:Bool}{d3 x:ByteArray}{e r:Int}{a4:List Value}{a c i p:Nat}{f:ac}{F:Nat×Nat}{d v:be}{h:Program}{M a9:Prop}{j:Type}{C g q:TypeId}{m t:am}{a7 b k:World}
def al.dec[Decidable M]{P a:Prop}(b:M->P)(c:¬M->a):al (decide M) P a:=
 al.mk (λn=>b (XV n)) (λn=>c (Xy n))
def al.eu(P:e≠r->M)(a:e=r->a9):al (e !=r) M a9:=
 al.mk (λn=>P (by simpa using n)) (λn=>a (by simpa using n))
def al.eT(P:e=r->M)(a:e≠r->a9):al (e==r) M a9:=
 al.mk (λn=>P (by simpa using n)) (λn=>a (by simpa using n))
def al.not(n:al H a9 M):al (!H) M a9:=by cases H<;>exact n
def Qr(P:x.toList=d3.toList):x=d3:=by
 have a:∀n:ByteArray,n.toList=n.data.toList:=λn=>ByteArray.toList_eq n;rw[a,a]at P;exact ByteArray.ext (Array.toList_inj.1 P)
def al.ZC(P:x=d3->M)(a:x≠d3->a9):al (ByteArray.toList x==ByteArray.toList d3) M a9:=
 al.mk (λn=>P (Qr (by simpa using n))) (λn=>a (λb=>by subst b;simp at n))
def al.neS(n:x≠d3->M)(P:x=d3->a9):al (!(ByteArray.toList x==ByteArray.toList d3)) M a9:=(al.ZC P n).not
def an(n:a<4611686018427387904):PP .i64 ((a:Int)+1)=((a+1:Nat):Int):=by
 rw[wrap_i64 cS];simp
def bW.then(n:bW b k)(P:bW k a7):bW b a7:=by obtain⟨a,rfl⟩:=n;obtain⟨c,rfl⟩:=P;exact⟨a+c,sM⟩
def bW.refl(n:World):bW n n:=⟨0,rfl⟩
def Fu{n P:List j}{b:j}(c:n.take a=P.take a)(d:n[a]? =some b)(e:P[a]? =some b):n.take (a+1)=P.take (a+1):=by
 rw[Qw,Qw,c,d,e]
structure kq (α:Type) where
 k:Nat
 rep:World->(ac)->α->List Value->Prop
 keep:∀{S D:ac} {w w':World} {x:α} {cs:List Value},rep w D x cs->aj S w w'->(∀b,D b->¬S b)->rep w' D x cs
 mono:∀{D D':ac} {w:World} {x:α} {cs:List Value},rep w D x cs->(∀b,D b->D' b)->rep w D' x cs
 len:∀{D:ac} {w:World} {x:α} {cs:List Value},rep w D x cs->cs.length=k
 one:∀{D:ac} {w:World} {x:α} {cs:List Value},rep w D x cs->∀u∈cs,u.oneCell'=true
def flat{b:Type}(c:Nat)(n:b->List Value)(d:b->Prop)(e:∀a,(n a).length=c)(f:∀a,∀g∈n a,g.oneCell'=true):kq b where
 k:=c
 rep:=λ_ _ a cs=>cs=n a/\d a
 keep:=λP _ _=>P
 mono:=λP _=>P
 len:=λP=>by rw[P.1];exact e _
 one:=λP=>by rw[P.1];exact f _
def aO:kq Int:=flat 1 (λn=>[WP n]) aH (λ_=>rfl) (λn a P=>by simp at P;subst P;rfl)
def gC:kq UInt8:=flat 1 (λn=>[.int .u8 n.toNat]) (λ_=>True) (λ_=>rfl) (λn a P=>by simp at P;subst P;rfl)
def Px:kq ByteArray:=flat 1 (λn=>[.string n]) (λ_=>True) (λ_=>rfl) (λn a P=>by simp at P;subst P;rfl)
structure Row {α:Type} (c:kq α) (bytes:Nat) (w:World) (D:ac) (a:be) (n:Nat) (xs:List α):Prop where
 len:n=xs.length
 eO:n*bytes<=aP
 el:∀(i:Nat) x,xs[i]? =some x->∃b off es,a=some ⟨b,off,none⟩/\b<w.heap.size/\D b/\(∀j,j<c.k->w.cell? ⟨b,off+i*c.k+j,none⟩=es[j]?)/\c.rep w D x es
section
variable {α:Type} {c:kq α} {bytes:Nat} {w w':World} {D D' S:ac} {a:be} {n:Nat} {xs:List α}
def Row.keep(d:Row c bytes w D a n xs)(e:aj S w w')(f:∀P,D P->¬S P):Row c bytes w' D a n xs:=
 ⟨d.len,d.eO,λg k l=>by
  obtain⟨P,b,m,o,h,i,p,q⟩:=d.el g k l;exact⟨P,b,m,o,Qk h e.size,i,λj r=>(e.cell (a:=⟨P,b+g*c.k+j,none⟩) h (f P i)).trans (p j r),c.keep q e f⟩⟩
def Row.af(P:Row c bytes w D a n xs)(b:ai w w'):Row c bytes w' D a n xs:=P.keep b λ_ _ P=>P
def Row.mono(b:Row c bytes w D a n xs)(e:∀P,D P->D' P):Row c bytes w D' a n xs:=
 ⟨b.len,b.eO,λf g h=>by
  obtain⟨P,d,i,j,k,l,m,o⟩:=b.el f g h;exact⟨P,d,i,j,k,e P l,m,c.mono o e⟩⟩
def Row.nil(w:World)(D:ac):Row c bytes w D none 0 []:=⟨rfl,sM,λP a n=>by simp at n⟩
def Row.at(f:Row c bytes w D a n xs){i:Int}(o:0<=i)(p:i<(n:Int)):
  ∃b P x d,a=some ⟨b,P,none⟩/\b<w.heap.size/\D b/\xs[i.toNat]? =some x/\(∀e,e<c.k->w.cell? ⟨b,P+i.toNat*c.k+e,none⟩=d[e]?)/\c.rep w D x d:=by
 have q:=f.len;have g:i.toNat<xs.length:=oM
 obtain⟨b,P,d,h,j,k,l,m⟩:=f.el i.toNat xs[i.toNat] (by simp[g]);exact⟨b,P,_,d,h,j,k,by simp[g],l,m⟩
def Row.vv(g:Row c bytes w D a n xs){i:Nat}(h:i<n):
  ∃b P e f,a=some ⟨b,P,none⟩/\b<w.heap.size/\D b/\xs[i]? =some e/\(∀d,d<c.k->w.cell? ⟨b,P+i*c.k+d,none⟩=f[d]?)/\c.rep w D e f:=by
 have:=g.at (i:=(i:Int)) oM oM;simpa using this
end
def Row.nK{c:j->Value}{f:j->Prop}{hl h1}{bytes:Nat}{D:ac}{g:List j}(h:Row (flat 1 (λP=>[c P]) f hl h1) bytes b D d a g){i:Nat}(k:i<a):
  ∃e n P,d=some ⟨e,n,none⟩/\g[i]? =some P/\f P/\b.cell? ⟨e,n+i,none⟩=some (c P):=by
 obtain⟨e,n,P,q,l,r,_,m,o,rfl,p⟩:=h.vv k;refine⟨e,n,P,l,m,p,?_⟩;have:=o 0 Nat.one_pos;simpa[flat]using this
def cf{n:Type}(P:kq n)(a:World)(D:ac):List n->List Value->Prop
 |[],cs=>cs=[]
 |x::d,cs=>∃b c,cs=b++c/\P.rep a D x b/\cf P a D d c
section
variable {α:Type} {c:kq α} {w w':World} {D D' S:ac}
def cf.keep(P:aj S w w')(a:∀b,D b->¬S b):∀{n:List α} {cs:List Value},cf c w D n cs->cf c w' D n cs
 |[],_,d=>d
 |x::n,_,⟨e,f,g,h,i⟩=>⟨e,f,g,c.keep h P a,cf.keep P a i⟩
def cf.mono(P:∀a,D a->D' a):∀{n:List α} {cs:List Value},cf c w D n cs->cf c w D' n cs
 |[],_,b=>b
 |x::n,_,⟨d,e,f,g,h⟩=>⟨d,e,f,c.mono g P,cf.mono P h⟩
def cf.append:∀{xs P:List α} {cs n:List Value},cf c w D xs cs->cf c w D P n->cf c w D (xs++P) (cs++n)
 |[],P,_,n,b,a=>by cases b;exact a
 |x::xs,P,_,n,⟨d,e,f,g,h⟩,a=>⟨d,e++n,by rw[f,XQ],g,cf.append h a⟩
def cf.one{x:α}(n:c.rep w D x a4):cf c w D [x] a4:=⟨a4,[],sM,n,rfl⟩
def cf.length:∀{n:List α} {cs:List Value},cf c w D n cs->cs.length=n.length*c.k
 |[],_,P=>by cases P;simp
 |x::n,_,⟨e,f,a,b,d⟩=>by
  rw[a,QX,c.len b,cf.length d,Xq,X7,Nat.one_mul,Nat.add_comm]
def cf.SL:∀{a:List α} {cs:List Value},cf c w D a cs->∀P∈cs,P.oneCell'=true
 |[],_,b,P,n=>by cases b;simp at n
 |x::a,_,⟨g,h,d,e,f⟩,P,n=>by
  rw[d]at n;rcases Q6.1 n with n|n
  ·exact c.one e P n
  ·exact cf.SL f P n
def cf.at:∀{b:List α} {cs:List Value},cf c w D b cs->∀{i:Nat} {x:α},b[i]? =some x->∃a,(∀n,n<c.k->cs[i*c.k+n]? =a[n]?)/\c.rep w D x a
 |[],_,l,i,x,P=>by simp at P
 |y::b,_,⟨a,m,d,e,g⟩,i,x,P=>by
  have o:=c.len e
  cases i with
  |zero=>
   simp at P;subst P;refine⟨a,λn f=>?_,e⟩;rw[d,Nat.zero_mul,Xz,XW oM]
  |succ i=>
   obtain⟨h,j,k⟩:=cf.at g (i:=i) (x:=x) (by simpa using P);refine⟨h,λn f=>?_,k⟩;rw[d,X7,Nat.one_mul,X8 oM,<-j n f]
   congr 1
   omega
def cf.take:∀{n:List α} {cs:List Value},cf c w D n cs->∀(m:Nat),cf c w D (n.take m) (cs.take (m*c.k))
 |[],_,a,m=>by cases a;simp[cf]
 |x::n,_,⟨b,d,e,P,f⟩,m=>by
  have g:=c.len P
  cases m with
  |zero=>simp[cf]
  |succ m=>
   refine⟨b,d.take (m*c.k),?_,P,cf.take f m⟩;rw[e,X7,Nat.one_mul,Nat.add_comm,List.take_append,g,Qz oM]
   congr 2
   omega
def Row.aA{bytes:Nat}{h:List α}(v:Row c bytes w D d a h):∃cs,cf c w D h cs/\(h≠[]->0<c.k->∃P n,d=some ⟨P,n,none⟩/\P<w.heap.size/\D P/\∀b e,cs[b]? =some e->w.cell? ⟨P,n+b,none⟩=some e):=by
 have k:∀(l:List α) (f:Nat),(∀i j,l[i]? =some j->h[f+i]? =some j)->∃cs,cf c w D l cs/\∀P n,d=some ⟨P,n,none⟩->0<c.k->∀b e,cs[b]? =some e->w.cell? ⟨P,n+f*c.k+b,none⟩=some e:=by
  intro l
  induction l with
  |nil=>intro f _;exact⟨[],rfl,λP n _ _ b e g=>by simp at g⟩
  |cons x l F=>
   intro f y;obtain⟨z,q,r⟩:=F (f+1) (λi j s=>by have:=y (i+1) j (by simpa using s);rw[show f+1+i=f+(i+1) by omega];exact this);obtain⟨P,n,p,m,A,B,C,t⟩:=v.el f x (y 0 x rfl);refine⟨p++z,⟨p,z,rfl,t,q⟩,λJ E o u b e g=>?_⟩;rw[m]at o;cases o
   have K:=c.len t
   by_cases H:b<c.k
   ·rw[XW oM]at g
    rw[<-g];exact C b H
   ·rw[X8 oM]at g
    have:=r P n m u (b-p.length) e g;rw[<-this]
    congr 2
    rw[X7];omega
 obtain⟨cs,q,r⟩:=k h 0 (λi j s=>by simpa using s);refine⟨cs,q,λI u=>?_⟩
 cases h with
 |nil=>exact Zz rfl I
 |cons j h=>
  obtain⟨P,n,p,m,A,B,C,t⟩:=v.el 0 j rfl;refine⟨P,n,m,A,B,λb e g=>?_⟩;have:=r P n m u b e g;simpa using this
end
structure aS {α:Type} (c:kq α) (e:TypeId) (F:ac) (w:World) (a:be) (n cap:Nat) (xs:List α):Prop where
 body:∃cs D,Own w e c.k a n cap cs/\cf c w D xs cs/\(∀b,D b->F b/\aI a≠some b)
 self:∀b,aI a=some b->F b
 aE:∀b,F b->b<w.heap.size
section
variable {α:Type} {c:kq α} {e:TypeId} {w w':World} {F F' S:ac} {a:be} {n cap:Nat} {xs:List α}
def aS.nil(w:World):aS c e (λ_=>False) w none 0 0 []:=
 ⟨⟨[],λ_=>False,Own.nil _ _ _,rfl,λ_ n=>n.elim⟩,λP n=>(by cases n),λ_ n=>n.elim⟩
def aS.keep(d:aS c e F w a n cap xs)(f:aj S w w')(g:∀P,F P->¬S P):aS c e F w' a n cap xs:=by
 obtain⟨cs,D,i,j,h⟩:=d.body;exact⟨⟨cs,D,i.keep f (dB.2 λP b=>g P (d.self P b)),j.keep f (λP b=>g P (h P b).1),h⟩,d.self,λP b=>Qk (d.aE P b) f.size⟩
def aS.af(P:aS c e F w a n cap xs)(b:ai w w'):aS c e F w' a n cap xs:=P.keep b λ_ _ P=>P
def aS.mono(d:aS c e F w a n cap xs)(f:∀P,F P->F' P)(h:∀P,F' P->P<w.heap.size):aS c e F' w a n cap xs:=by
 obtain⟨cs,D,i,j,g⟩:=d.body;exact⟨⟨cs,D,i,j,λP b=>⟨f P (g P b).1,(g P b).2⟩⟩,λP b=>f P (d.self P b),h⟩
def aS.len(b:aS c e F w a n cap xs)(d:0<c.k):n=xs.length:=by
 obtain⟨cs,D,f,g,h⟩:=b.body;have P:=f.length;rw[g.length]at P;exact(Nat.eq_of_mul_eq_mul_right d P).symm
def Own.SK{P:Nat}{cs:List Value}(b:Own w e P a n cap cs):n<=cap:=by
 rcases b.cases with⟨_,rfl,rfl,_⟩|⟨f,c,_,_,d,_,_⟩
 ·exact Q4 _
 ·exact d
def aS.row{bytes:Nat}(d:aS c e F w a n cap xs)(i:0<c.k)(f:xs.length*bytes<=aP):Row c bytes w F a n xs:=by
 have j:=d.len i;obtain⟨cs,D,k,r,s⟩:=d.body;refine⟨j,by rw[j];exact f,λz A t=>?_⟩;obtain⟨g,l,m⟩:=r.at t;have B:=c.len m;have o:=l 0 i;rw[Nat.add_zero,Qq (show 0<g.length by omega)]at o;obtain⟨p,h,u,_⟩:=k.cell o;refine⟨p,0,g,h,u,d.self p (by rw[h];rfl),λq v=>?_,c.mono m λx f=>(s x f).1⟩;have P:=l q v;rw[Qq (show q<g.length by omega)]at P⊢;obtain⟨C,b,_,y⟩:=k.cell P;rw[h]at b;cases b
 rw[Xz];exact y
def ON{bytes:Nat}{x:α}(f:aS c e F w a n cap xs)(z:ki h g e c.k bytes){D:ac}(r:c.rep w D x o.toList)(k:∀P,D P->P<w.heap.size/\aI a≠some P)(b:(xs.length+1)*bytes<=aP)(I:xs.length+1<=maxLen)(s:∀j i w' F',aS c e F' w' j (n+1) i (xs++[x])->aj (λu=>aI a=some u) w w'->(∀P,F' P->F P\/D P\/w.heap.size<=P)->(∀P,aI j=some P->F P\/w.heap.size<=P)->m (.slice j (n+1) i) w'):
  PA w (.cells o e) λv=>aK h (Builtin.append_ #[g,g] q #[.slice a n cap,.slice (UV w.heap.size) 1 1]) v m t:=by
 have A:=f.len z.pos;obtain⟨cs,J,K,L,l⟩:=f.body;refine PA.mk λv C R M=>?_;have S:=c.len r;have N:=K.af C;refine vk z (news:=o.toList) N M (by rw[Qz oM]) oM (c.one r) (by rw[A];exact b) (by rw[A];exact I) λj O p E H B=>?_;have y:aj (λu=>aI a=some u) w p:=(ai.keep C).then (H.mono λ_ _ f=>f.symm)
 let F':ac:=λP=>F P\/D P\/(w.heap.size<=P/\P<p.heap.size)
 have T:v.heap.size<=p.heap.size:=H.size;refine s j O p F' ⟨⟨_,λP=>J P\/D P,E,cf.append ((L.keep y λP b=>(l P b).2).mono λP b=>.inl b) (cf.one (c.mono (c.keep r y λP b=>(k P b).2) λP b=>.inr b)),?_⟩,?_,?_⟩ y ?_ ?_
 ·intro P b
  have U:P<w.heap.size:=b.elim (λd=>f.aE P (l P d).1) λd=>(k P d).1;refine⟨b.elim (λd=>.inl (l P d).1) λd=>.inr (.inl d),?_⟩;rcases B with B|B
  ·rw[B];exact b.elim (λd=>(l P d).2) λd=>(k P d).2
  ·rw[B];intro Q;cases Q;omega
 ·intro P b
  rcases B with B|B
  ·exact .inl (f.self P (B▸b))
  ·have:=E.lt b
   rw[B]at b;cases b;exact .inr (.inr ⟨oM,this⟩)
 ·rintro P (b|b|b)
  ·have:=f.aE P b;omega
  ·have:=(k P b).1;omega
  ·exact b.2
 ·rintro P (b|b|b)
  ·exact .inl b
  ·exact .inr (.inl b)
  ·exact .inr (.inr b.1)
 ·intro P b
  rcases B with B|B
  ·exact .inl (f.self P (B▸b))
  ·rw[B]at b;cases b;exact .inr oM
def lW{bytes:Nat}(f:aS c e F w a n cap xs)(x:ki h g e c.k bytes){D:ac}{o L:Nat}{k:List α}(C:Row c bytes w D (some d1) o k)(p:∀P,D P->P<w.heap.size/\aI a≠some P)(b:(xs.length+k.length)*bytes<=aP)(M:xs.length+k.length<=maxLen)(y:∀l i w' F',aS c e F' w' l (n+o) i (xs++k)->aj (λj=>aI a=some j) w w'->(∀P,F' P->F P\/D P\/w.heap.size<=P)->(∀P,aI l=some P->F P\/w.heap.size<=P)->m (.slice l (n+o) i) w'):
  aK h (Builtin.append_ #[g,g] q #[.slice a n cap,.slice (some d1) o L]) w m t:=by
 have E:=f.len x.pos;have z:=C.len;obtain⟨cs,N,O,Q,r⟩:=f.body;obtain⟨H,s,R⟩:=C.aA;have S:∀j u,H[j]? =some u->w.cell? (d1.add j)=some u:=λj u I=>by
  have T:k≠[]:=by rintro rfl;have:=s.length;simp at this;subst this;simp at I
  obtain⟨P,U,V,_,_,W⟩:=R T x.pos
  cases V
  rw[Addr.add_lit];exact W j u I
 refine NC x (news:=H) O S (by rw[s.length,z]) s.SL (by rw[E,z];exact b) (by rw[E,z];exact M) λl X v J K B=>?_;have A:aj (λj=>aI a=some j) w v:=K.mono λ_ _ f=>f.symm
 let F':ac:=λP=>F P\/D P\/(w.heap.size<=P/\P<v.heap.size)
 have Z:w.heap.size<=v.heap.size:=K.size;refine y l X v F' ⟨⟨_,λP=>N P\/D P,J,cf.append ((Q.keep A λP b=>(r P b).2).mono λP b=>.inl b) ((s.keep A λP b=>(p P b).2).mono λP b=>.inr b),?_⟩,?_,?_⟩ A ?_ ?_
 ·intro P b
  have a1:P<w.heap.size:=b.elim (λd=>f.aE P (r P d).1) λd=>(p P d).1;refine⟨b.elim (λd=>.inl (r P d).1) λd=>.inr (.inl d),?_⟩;rcases B with B|B
  ·rw[B];exact b.elim (λd=>(r P d).2) λd=>(p P d).2
  ·rw[B];intro Y;cases Y;omega
 ·intro P b
  rcases B with B|B
  ·exact .inl (f.self P (B▸b))
  ·have:=J.lt b
   rw[B]at b;cases b;exact .inr (.inr ⟨Q4 _,this⟩)
 ·rintro P (b|b|b)
  ·have:=f.aE P b;omega
  ·have:=(p P b).1;omega
  ·exact b.2
 ·rintro P (b|b|b)
  ·exact .inl b
  ·exact .inr (.inl b)
  ·exact .inr (.inr b.1)
 ·intro P b
  rcases B with B|B
  ·exact .inl (f.self P (B▸b))
  ·rw[B]at b;cases b;exact .inr oM
end
def cf.free{a:Type}{c:Nat}{n:a->List Value}{d:a->Prop}{hl P}{e f:World}{D g:ac}:∀{b:List a} {cs:List Value},cf (flat c n d hl P) e D b cs->cf (flat c n d hl P) f g b cs
 |[],_,h=>h
 |x::b,_,⟨i,j,P,k,l⟩=>⟨i,j,P,k,l.free⟩
def aS.alone{n:j->List Value}{k:j->Prop}{hl h1}{l:List j}(P:aS (flat a n k hl h1) g f b d c i l):
  aS (flat a n k hl h1) g (λe=>aI d=some e) b d c i l:=by
 obtain⟨cs,p,m,o,q⟩:=P.body;exact⟨⟨cs,λ_=>False,m,o.free,λ_ P=>P.elim⟩,λe h=>h,λe h=>P.aE e (P.self e h)⟩
def qh{P:Type}(g:kq P)(h:TypeId)(a:World)(i:List P)(j:Value)(b:World):Prop:=
 ∃c d n e,j= .slice c d n/\aS g h e b c d n i/\ai a b/\∀f,e f->a.heap.size<=f
def Row.lit{enc:j->Value}{c:j->Prop}{hl h1}{bytes:Nat}{cs:Array Value}(d:b.heap[a]? =some (.cells cs g F))(P:List j)(h:cs.toList=P.map enc)(i:∀n∈P,c n)(k:P.length*bytes<=aP):
  Row (flat 1 (λn=>[enc n]) c hl h1) bytes b (·=a) (UV a) P.length P:=
 ⟨rfl,k,λe n f=>⟨a,0,[enc n],rfl,az d,rfl,λl m=>by
  have:l=0:=Nat.lt_one_iff.1 m;subst this;have:cs.toList[e]? =some (enc n):=by rw[h];simp[f]
  have o:=ae d (off:=e) (v:=enc n) (by simpa using this);simpa[flat]using o,rfl,i n (QZ f)⟩⟩
def Row.part{n:kq j}{bytes:Nat}{D:ac}{f:List j}(c:Row n bytes b D d a f){lo hi cap:Nat}(u:lo<=hi)(v:hi<=a)(w:a<=cap):
  Row n bytes b D (df d lo cap n.k) (hi-lo) ((f.take hi).drop lo):=by
 have x:=c.len;refine⟨by simp;omega,Xx (Q0 _ oM) c.eO,λg h P=>?_⟩;rw[List.getElem?_drop,Xw]at P;split at P
 ·rename_i y
  obtain⟨i,e,k,l,m,o,p,q⟩:=c.el (lo+g) h P
  by_cases r:cap=lo
  ·omega
  ·exact⟨i,e+lo*n.k,k,by rw[l];simp[df,r,Addr.add_lit],m,o,λs t=>by rw[<-p s t];congr 2;rw[X7];omega,q⟩
 ·cases P
def aS.lL{n:kq j}{P:List j}(e:aS n g f b d a c P):a<=c:=by
 obtain⟨cs,i,h,_⟩:=e.body;exact h.SK
def Row.take{c:kq j}{bytes:Nat}{D:ac}{e:List j}(P:Row c bytes b D d a e){m:Nat}(f:m<=a):Row c bytes b D d m (e.take m):=by
 have h:=P.len;refine⟨by simp;omega,Xx (Q0 _ f) P.eO,λg x n=>?_⟩;rw[Xw]at n;split at n
 ·exact P.el g x n
 ·cases n
def AD{e:kq j}{r:List j}{bytes:Nat}(s:aS e g f b d a c r)(u:ki h q g e.k bytes){D:ac}{k:List j}(y:Row e bytes b D v i k)(A:v=none->i=0/\p=0)(B:∀n,D n->n<b.heap.size/\aI d≠some n)(l:(r.length+k.length)*bytes<=aP)(E:r.length+k.length<=maxLen)(o:∀w P x z,aS e g z x w (a+i) P (r++k)->aj (λF=>aI d=some F) b x->(∀n,z n->f n\/D n\/b.heap.size<=n)->(∀n,aI w=some n->f n\/b.heap.size<=n)->m (.slice w (a+i) P) x):
  aK h (Builtin.append_ #[q,q] C #[.slice d a c,.slice v i p]) b m t:=by
 cases v with
 |some M=>exact lW s u y B l E o
 |none=>
  obtain⟨rfl,rfl⟩:=A rfl;have H:k=[]:=QW y.len.symm;subst H;obtain⟨I,N,J,O,Q,R,S⟩:=ki.info u;obtain⟨cs,T,K,U,V⟩:=s.body;have L:=run_append_owned_none (P:=h) (w:=b) 0 q C g I e.k u.under J (.slice d a c) a cs K.row;exact aK.mk L (o d c b f (by simpa using s) (aj.refl _) (λn l=>.inl l) λn l=>.inl (s.self n l))
def aS.Pq{n:kq j}{P:List j}(e:aS n g f b d a c P)(h:d=none):a=0/\c=0:=by
 obtain⟨cs,o,i,_⟩:=e.body;rcases i.cases with⟨_,k,l,_⟩|⟨p,m,rfl,_⟩
 ·exact⟨k,l⟩
 ·cases h
def Xm(i:ki h g q 1 1)(d:(h.info? q).bind (·.zero)=some (.int .u8 0))(j:a<=c)(n:c<=aP)(e:∀P,aS gC q (·=b.heap.size) P (UV b.heap.size) a c (List.replicate a 0)->ai b P->P.heap.size=b.heap.size+1->m (.slice (UV b.heap.size) a c) P):
  aK h (Instr.makeSlice g (WP (a:Int)) (WP (c:Int))) b m t:=by
 unfold aP at n;obtain⟨p,r,k,l,s,u,A⟩:=i.info;have v:r= .int .u8 0:=by
  rw[k]at d;simp only[Option.bind_some,l]at d;exact XJ d
 subst v;have o:=run_make (P:=h) b g q p _ i.under k l .i64 .i64 a c oM oM (by rw[u];omega) oM;rw[Qx,Qx,s,Nat.mul_one]at o;have w:ai b (b.alloc (.cells (madeCells (Value.int .u8 0).cells c) q)):=aj.alloc b _;have x:(madeCells (Value.int .u8 0).cells c).toList=List.replicate c (.int .u8 0):=by
  unfold madeCells;rw[Array.toList_map];apply List.ext_getElem
  ·simp
  ·intro B C E
   simp[Value.cells,Nat.mod_one]
 refine aK.mk o (e _ ⟨⟨List.replicate a (.int .u8 0),λ_=>False,⟨⟨by simp[gC,flat],.inr ⟨b.heap.size,c,_,rfl,Qj _,heap_alloc_new b _,j,by unfold maxLen;omega,by simp[size_madeCells,gC,flat],?_⟩⟩⟩,?_,λ_ e=>e.elim⟩,λy n=>by simpa[aI]using n.symm,λy n=>by subst n;simp⟩ w sM)
 ·rw[x]
  simp only[gC,flat,Nat.mul_one,List.take_replicate];rw[X2 j]
 ·have f:∀a:Nat,cf gC (b.alloc (.cells (madeCells (Value.int .u8 0).cells c) q)) (λ_=>False) (List.replicate a 0) (List.replicate a (.int .u8 0)):=by
   intro a
   induction a with
   |zero=>rfl
   |succ a z=>exact⟨[.int .u8 0],List.replicate a (.int .u8 0),rfl,⟨rfl,trivial⟩,z⟩
  exact f a
end Go.aw
namespace Go.aw
open Go
def gq(n:Nat):List UInt8:=if P:n=0 then []else UInt8.ofNat (n % 256)::gq (n/256)
termination_by n
decreasing_by omega
def kh:gq 0=[]:=by rw[gq];simp
variable{e:Int}{a:Nat}
def mi(n:a≠0):gq a=UInt8.ofNat (a % 256)::gq (a/256):=by rw[gq];simp[n]
def zf:∀(n:Nat),n<2 ^ 64->(gq n).length=(Lib.bitLen n+7)/8:=by
 intro n
 induction n using Nat.strongRecOn with
 |_ n b=>
  intro a
  by_cases P:n=0
  ·subst P;rw[kh];decide
  ·rw[mi P,Xq]
   by_cases c:n<256
   ·have d:n/256=0:=oM
    rw[d,kh];have f:Lib.bitLen n<=8:=Lib.bitLen_le8 ⟨n,c⟩;have g:1<=Lib.bitLen n:=(Lib.bitLenAux_bounds 64 n a P).1;simp;omega
   ·have:=b (n/256) oM oM
    rw[this];have e:=Lib.bitLen_shift 8 n oM a;rw[show(2:Nat) ^ 8=256 from rfl]at e;omega
def CN{u:Nat}(n:u<2 ^ 64):(gq u).length<=8:=by
 rw[zf u n]
 by_cases P:u=0
 ·subst P;decide
 ·have a:=Lib.bitLenAux_bounds 64 u n P
  have:Lib.bitLen u<=64:=by
   apply Nat.le_of_not_lt;intro b;have c:2 ^ 64<=2 ^(Lib.bitLen u-1):=Nat.pow_le_pow_right oM oM;have d:2 ^(Lib.bitLen u-1)<=u:=a.2.1;omega
  omega
def Tn:∀(a n:Nat),a<(gq n).length->(gq n)[a]? =some (UInt8.ofNat (n/256 ^ a % 256)):=by
 intro a
 induction a with
 |zero=>
  intro n P
  by_cases b:n=0
  ·subst b;rw[kh]at P;simp at P
  ·rw[mi b];simp
 |succ a c=>
  intro n P
  by_cases b:n=0
  ·subst b;rw[kh]at P;simp at P
  ·rw[mi b]at P⊢
   have:=c (n/256) (by simpa using P);rw[ZZ,this,Nat.div_div_eq_div_mul,Nat.pow_succ,Nat.mul_comm 256]
def gV(n:List UInt8):Nat:=n.foldl (λP a=>P*256+a.toNat) 0
def zh(n:List UInt8)(P:UInt8):gV (n++[P])=gV n*256+P.toNat:=by simp[gV,List.foldl_append]
def Oo(n:List UInt8):gV n<256 ^ n.length:=by
 suffices b:∀(n:List UInt8) (P a:Nat),P<256 ^ a->n.foldl (λP c=>P*256+c.toNat) P<256 ^(a+n.length) by
  have:=b n 0 0 sM;simpa[gV]using this
 intro n
 induction n with
 |nil=>intro P a b;simpa using b
 |cons c n d=>
  intro P a b;have e:=c.toNat_lt;have:=d (P*256+c.toNat) (a+1) (by rw[Nat.pow_succ];omega);rw[List.foldl_cons,Xq];rw[show a+(n.length+1)=a+1+n.length by omega];exact this
def To:∀(n:Nat),gV (gq n).reverse=n:=by
 intro n
 induction n using Nat.strongRecOn with
 |_ n a=>
  by_cases P:n=0
  ·subst P;rw[kh];rfl
  ·rw[mi P,List.reverse_cons,zh,a (n/256) oM]
   have:(UInt8.ofNat (n % 256)).toNat=n % 256:=by rw[ZK];omega
   rw[this];omega
def Ql:∀(n:Nat),n≠0->(gq n).getLast? ≠some 0:=by
 intro n
 induction n using Nat.strongRecOn with
 |_ n b=>
  intro c;rw[mi c]
  by_cases P:n/256=0
  ·rw[P,kh]
   simp only[List.getLast?_singleton,ne_eq,Q1];intro d;have:=Zj UInt8.toNat d;rw[ZK]at this;simp at this;omega
  ·have a:gq (n/256)≠[]:=by rw[mi P];simp
   rw[List.getLast?_cons,List.getLast?_eq_some_getLast a,Option.getD_some];have:=b (n/256) oM P;rw[List.getLast?_eq_some_getLast a]at this;exact this
def ep(n:Int):List UInt8:=UInt8.ofNat ((gq n.natAbs).length+if n<0 then 16 else 0)::(gq n.natAbs).reverse
def rdNum(b:List UInt8):Int×Int×Nat:=match b with
 |[]=>(4,0,0)
 |h::a=>
  let n:=if 16<h.toNat then h.toNat-16 else h.toNat
  let P:=gV (a.take n)
  if 8<n then(5,0,0)
  else if a.length<n then(4,0,0)
  else if(0<n/\a.head? =some 0)\/(¬16<h.toNat/\2 ^ 63<=P)\/(16<h.toNat/\2 ^ 63<P)then(5,0,0)
  else(0,if 16<h.toNat then-(P:Int)else P,n+1)
def FP(p:aH e)(c:List UInt8):rdNum (ep e++c)=(0,e,(ep e).length):=by
 unfold aH at p;have q:e.natAbs<2 ^ 64:=oM
 have r:=CN q;have d:(gq e.natAbs).reverse.length=(gq e.natAbs).length:=List.length_reverse ..;have g:=To e.natAbs;have l:e<0->1<=(gq e.natAbs).length:=λu=>by rw[mi oM];simp
 have h:0<(gq e.natAbs).length->((gq e.natAbs).reverse++c).head? ≠some 0:=λf=>by
  have s:e.natAbs≠0:=λb=>by rw[b,kh]at f;simp at f
  have:=Ql _ s;rw[List.head?_append,List.head?_reverse]
  cases i:(gq e.natAbs).getLast? with
  |none=>rw[List.getLast?_eq_none_iff]at i;rw[i]at f;simp at f
  |some v=>rw[i]at this;simpa using this
 unfold ep;rw[List.cons_append];generalize gq e.natAbs=n at r d g l h⊢;have t:(UInt8.ofNat (n.length+if e<0 then 16 else 0)).toNat=n.length+if e<0 then 16 else 0:=by
  rw[ZK];split<;>omega
 have m:(n.reverse++c).take n.length=n.reverse:=by
  rw[<-d,List.take_left]
 have o:¬(n.reverse++c).length<n.length:=sM
 unfold rdNum;simp only[t]
 by_cases j:e<0
 ·have w:=l j
  simp only[Zx j];have k:(if 16<n.length+16 then n.length+16-16 else n.length+16)=n.length:=by rw[Zx oM];omega
  simp only[k,m,g];rw[Zq oM,Zq o,Zq,Zx oM]
  ·have b: -(e.natAbs:Int)=e:=oM
   rw[b,Xq,d]
  ·rintro(⟨P,a⟩|⟨P,a⟩|⟨P,a⟩)
   ·exact h P a
   ·omega
   ·omega
 ·simp only[Zq j,Nat.add_zero]
  have k:(if 16<n.length then n.length-16 else n.length)=n.length:=by rw[Zq oM]
  simp only[k,m,g];rw[Zq oM,Zq o,Zq,Zq oM]
  ·have b:(e.natAbs:Int)=e:=oM
   rw[b,Xq,d]
  ·rintro(⟨P,a⟩|⟨P,a⟩|⟨P,a⟩)
   ·exact h P a
   ·omega
   ·omega
end Go.aw
namespace Go.aw
open Go
abbrev sx:=BitVec 32
def BO:sx:=0xEDB88320#32
def oC(n:sx):sx:=(n>>>1) ^^^(if n.getLsbD 0 then BO else 0#32)
def BP(n P:sx):oC (n ^^^ P)=oC n ^^^ oC P:=by
 unfold oC;rw[BitVec.ushiftRight_xor_distrib,BitVec.getLsbD_xor]
 cases n.getLsbD 0<;>cases P.getLsbD 0<;>simp only[Bool.xor_false,Bool.xor_true,Bool.not_true,Bool.not_false,if_true,if_false,Bool.false_eq_true,BitVec.xor_zero,BitVec.zero_xor]
 ·ac_rfl
 ·ac_rfl
 ·have:(n>>>1 ^^^ BO) ^^^(P>>>1 ^^^ BO)=(n>>>1 ^^^ P>>>1) ^^^(BO ^^^ BO):=by ac_rfl
  rw[this,BitVec.xor_self,BitVec.xor_zero]
def p_(n:sx):sx:=oC (oC (oC (oC (oC (oC (oC (oC n)))))))
def ET(n P:sx):p_ (n ^^^ P)=p_ n ^^^ p_ P:=by
 unfold p_;simp only[BP]
def WH(n:Bool):sx:=if n then 1#32 else 0#32
def BQ(n:sx)(P:Bool):sx:=(n>>>1) ^^^(if n.getLsbD 0 !=P then BO else 0#32)
def EU(n:sx)(P:Bool):BQ n P=oC (n ^^^ WH P):=by
 unfold BQ
 cases P
 ·simp[WH,oC]
 ·rw[BP]
  have:oC (WH true)=BO:=by decide+kernel
  rw[this];unfold oC
  cases n.getLsbD 0
  ·simp
  ·have a:(n>>>1 ^^^(if true=true then BO else 0#32)) ^^^ BO=n>>>1 ^^^(BO ^^^ BO):=by rw[Zx rfl];ac_rfl
   rw[a,BitVec.xor_self];simp
def lA(n:sx)(P:UInt8):sx:=(List.range 8).foldl (λn a=>BQ n (P.toNat.testBit a)) n
def yL(n:UInt8):sx:=BitVec.ofNat 32 n.toNat
def Jq(n:sx)(a:UInt8):lA n a=p_ n ^^^ lA 0#32 a:=by
 have e:∀(P:List Nat) (b c:sx),(P.foldl (λn d=>BQ n (a.toNat.testBit d)) (b ^^^ c))=(P.foldl (λn _=>oC n) b) ^^^(P.foldl (λn d=>BQ n (a.toNat.testBit d)) c):=by
  intro P
  induction P with
  |nil=>intro b c;rfl
  |cons d P f=>
   intro b c;simp only[List.foldl_cons];rw[<-f]
   congr 1
   rw[EU,EU];simp only[BP]
   ac_rfl
 have:=e (List.range 8) n 0#32;rw[BitVec.xor_zero]at this;exact this
def Jr(n:UInt8):lA 0#32 n=p_ (yL n):=by
 have a:(List.range 256).all (λP=>lA 0#32 (UInt8.ofNat P)==p_ (yL (UInt8.ofNat P)))=true:=by decide+kernel
 have:=ZY.1 a n.toNat (List.mem_range.2 n.toNat_lt);simpa using this
def Mh(n:sx)(P:UInt8):lA n P=p_ (n ^^^ yL P):=by
 rw[Jq,Jr,ET]
def Pu{n:sx}(P:n.getLsbD 0=false):oC n=n>>>1:=by
 unfold oC;rw[P];simp
def Mi(P:sx):p_ (P&&&0xFFFFFF00#32)=P>>>8:=by
 have bit:∀n,n<8->((P&&&0xFFFFFF00#32)>>>n).getLsbD 0=false:=λn b=>by
  rw[BitVec.getLsbD_ushiftRight,BitVec.getLsbD_and,Nat.add_zero];have:(0xFFFFFF00#32:sx).getLsbD n=false:=by
   have c:(List.range 8).all (λn=>(0xFFFFFF00#32:sx).getLsbD n==false)=true:=by decide+kernel
   simpa using ZY.1 c n (List.mem_range.2 b)
  rw[this,Bool.and_false]
 have step:∀n,n<8->oC ((P&&&0xFFFFFF00#32)>>>n)=(P&&&0xFFFFFF00#32)>>>(n+1):=λn b=>by
  rw[Pu (bit n b),BitVec.shiftRight_add]
 have d:P&&&0xFFFFFF00#32=(P&&&0xFFFFFF00#32)>>>0:=sM
 unfold p_;rw[d,step 0 oM,step 1 oM,step 2 oM,step 3 oM,step 4 oM,step 5 oM,step 6 oM,step 7 oM];apply BitVec.eq_of_getLsbD_eq;intro a e;rw[BitVec.getLsbD_ushiftRight,BitVec.getLsbD_ushiftRight,BitVec.getLsbD_and]
 by_cases f:7+1+a<32
 ·have:(0xFFFFFF00#32:sx).getLsbD (7+1+a)=true:=by
   have c:(List.range 24).all (λa=>(0xFFFFFF00#32:sx).getLsbD (7+1+a)==true)=true:=by decide+kernel
   simpa using ZY.1 c a (List.mem_range.2 oM)
  rw[this,Bool.and_true]
 ·rw[BitVec.getLsbD_of_ge _ _ oM]
  simp
def kY:List Nat:=[0x00000000,0x77073096,0xEE0E612C,0x990951BA,0x076DC419,0x706AF48F,0xE963A535,0x9E6495A3,0x0EDB8832,0x79DCB8A4,0xE0D5E91E,0x97D2D988,0x09B64C2B,0x7EB17CBD,0xE7B82D07,0x90BF1D91]
def kZ:List Nat:=[0x00000000,0x1DB71064,0x3B6E20C8,0x26D930AC,0x76DC4190,0x6B6B51F4,0x4DB26158,0x5005713C,0xEDB88320,0xF00F9344,0xD6D6A3E8,0xCB61B38C,0x9B64C2B0,0x86D3D2D4,0xA00AE278,0xBDBDF21C]
def Mj(n:UInt8):p_ (yL n)=BitVec.ofNat 32 (kY.getD (n.toNat % 16) 0) ^^^ BitVec.ofNat 32 (kZ.getD (n.toNat/16) 0):=by
 have a:(List.range 256).all (λP=>p_ (yL (UInt8.ofNat P))==BitVec.ofNat 32 (kY.getD ((UInt8.ofNat P).toNat % 16) 0) ^^^ BitVec.ofNat 32 (kZ.getD ((UInt8.ofNat P).toNat/16) 0))=true:=by decide+kernel
 have:=ZY.1 a n.toNat (List.mem_range.2 n.toNat_lt);simpa using this
def Pt(n:sx)(a:UInt8):lA n a=n>>>8 ^^^ BitVec.ofNat 32 (kY.getD ((a.toNat ^^^ n.toNat % 256) % 16) 0) ^^^ BitVec.ofNat 32 (kZ.getD ((a.toNat ^^^ n.toNat % 256)/16) 0):=by
 have f:=a.toNat_lt;have m:a.toNat ^^^ n.toNat % 256<2 ^ 8:=Nat.xor_lt_two_pow oM oM;have b:(UInt8.ofNat (a.toNat ^^^ n.toNat % 256)).toNat=a.toNat ^^^ n.toNat % 256:=by
  rw[ZK];omega
 have c:=Mj (UInt8.ofNat (a.toNat ^^^ n.toNat % 256));rw[b]at c;have g:n ^^^ yL a=yL (UInt8.ofNat (a.toNat ^^^ n.toNat % 256)) ^^^(n&&&0xFFFFFF00#32):=by
  apply BitVec.eq_of_getLsbD_eq;intro P d;unfold yL;rw[b,BitVec.getLsbD_xor,BitVec.getLsbD_xor,BitVec.getLsbD_and,BitVec.getLsbD_ofNat,BitVec.getLsbD_ofNat,Nat.testBit_xor];have h:(n.toNat % 256).testBit P=(decide (P<8)&&n.toNat.testBit P):=by
   rw[show 256=2 ^ 8 from rfl,Nat.testBit_mod_two_pow]
  have i:n.getLsbD P=n.toNat.testBit P:=rfl;rw[h,i];have j:(0xFFFFFF00#32:sx).getLsbD P=decide (8<=P):=by
   have k:(List.range 32).all (λP=>(0xFFFFFF00#32:sx).getLsbD P==decide (8<=P))=true:=by decide+kernel
   simpa using ZY.1 k P (List.mem_range.2 d)
  rw[j,Zy d]
  by_cases e:P<8
  ·rw[Zy e,Xv oM]
   cases n.toNat.testBit P<;>cases a.toNat.testBit P<;>rfl
  ·have l:a.toNat.testBit P=false:=Nat.testBit_lt_two_pow (Qk f (by
    have:=Nat.pow_le_pow_right (n:=2) oM (show 8<=P by omega);simpa using this))
   rw[Xv e,Zy oM,l]
   cases n.toNat.testBit P<;>rfl
 rw[Mh,g,ET,Mi,c]
 ac_rfl
def NQ(n:sx)(P:List UInt8):sx:= ~~~(P.foldl lA (~~~n))
def Mg(n:List UInt8):sx:=NQ 0#32 n
end Go.aw
namespace Go.aw
open Go
structure iu where
 bytes:List UInt8
 pos:Nat
 sE:Int
def iu.num(n:iu):Int×Int×Nat:=rdNum (n.bytes.drop n.pos)
def fA(n:iu):Int×iu:=if n.sE≠0 then(0,n)else if n.num.1=0 then(n.num.2.1,⟨n.bytes,n.pos+n.num.2.2,0⟩)else(0,⟨n.bytes,n.pos,n.num.1⟩)
def bK(P:Int)(n:iu):Int×iu:=if n.sE≠0 then(0,n)else if n.num.1=0 then(if n.num.2.1<0\/P<n.num.2.1 then(0,⟨n.bytes,n.pos,3⟩)else(n.num.2.1,⟨n.bytes,n.pos+n.num.2.2,0⟩))else(0,⟨n.bytes,n.pos,n.num.1⟩)
def iv(n:iu):Int:=if n.sE=0/\n.pos<n.bytes.length then 5 else n.sE
def aW:Nat->iu->List Int×iu
 |0,n=>([],n)
 |k+1,n=>((aW k n).1++[(fA (aW k n).2).1],(fA (aW k n).2).2)
def kL(n:List UInt8):aH (rdNum n).2.1/\(rdNum n).2.2<=n.length/\(rdNum n).2.2<=9/\((rdNum n).1=0\/(rdNum n).1=4\/(rdNum n).1=5)/\((rdNum n).1=0->1<=(rdNum n).2.2):=by
 unfold rdNum
 cases n with
 |nil=>simp[aH]
 |cons P c=>
  simp only;generalize(if 16<P.toNat then P.toNat-16 else P.toNat)=a;have j:=Oo (c.take a);generalize gV (c.take a)=b at j
  by_cases g:8<a
  ·rw[Zx g];simp[aH]
  rw[Zq g]
  by_cases h:c.length<a
  ·rw[Zx h];simp[aH]
  rw[Zq h]
  by_cases d:(0<a/\c.head? =some 0)\/(¬16<P.toNat/\2 ^ 63<=b)\/(16<P.toNat/\2 ^ 63<b)
  ·rw[Zx d];simp[aH]
  rw[Zq d];have i:(¬16<P.toNat->b<2 ^ 63)/\(16<P.toNat->b<=2 ^ 63):=by
   refine⟨λe=>?_,λe=>?_⟩
   ·exact Nat.lt_of_not_le λf=>d (.inr (.inl ⟨e,f⟩))
   ·exact Nat.le_of_not_lt λf=>d (.inr (.inr ⟨e,f⟩))
  refine⟨?_,by simp;omega,by show a+1<=9;omega,.inl rfl,λ_=>by show 1<=a+1;omega⟩;show aH (if 16<P.toNat then-(b:Int)else b);unfold aH;split
  ·have:=i.2 (by assumption);omega
  ·have:=i.1 (by assumption);omega
structure iu.Fit (r:iu):Prop where
 pos:r.pos<=r.bytes.length
 sE:r.sE=0\/r.sE=3\/r.sE=4\/r.sE=5
variable{e:Int}{s:List Int}{b0 u:List UInt8}{a:Nat}{T:iu}
def iu.Fit.int(P:T.Fit):(fA T).2.Fit/\aH (fA T).1/\(fA T).2.bytes=T.bytes:=by
 obtain⟨a,b,d,n,e⟩:=kL (T.bytes.drop T.pos);have c:=P.pos;rw[XZ]at b;unfold fA iu.num;split
 ·exact⟨P,by simp[aH],rfl⟩
 ·split
  ·exact⟨⟨by show T.pos+_<=T.bytes.length;omega,.inl rfl⟩,a,rfl⟩
  ·exact⟨⟨c,by show _\/_;rcases n with n|n|n<;>simp[n]⟩,by simp[aH],rfl⟩
def iu.Fit.count{r:iu}(a:r.Fit){m:Int}(P:0<=m):(bK m r).2.Fit/\0<=(bK m r).1/\(bK m r).1<=m/\(bK m r).2.bytes=r.bytes:=by
 obtain⟨d,c,e,n,f⟩:=kL (r.bytes.drop r.pos);have b:=a.pos;rw[XZ]at c;unfold bK iu.num;split
 ·exact⟨a,sM,P,rfl⟩
 ·split
  ·split
   ·exact⟨⟨b,.inr (.inl rfl)⟩,sM,P,rfl⟩
   ·exact⟨⟨by show r.pos+_<=r.bytes.length;omega,.inl rfl⟩,by simp only;omega,by simp only;omega,rfl⟩
  ·exact⟨⟨b,by show _\/_;rcases n with n|n|n<;>simp[n]⟩,by simp,P,rfl⟩
def iu.Fit.ints{n:iu}(b:n.Fit):∀k,(aW k n).2.Fit/\(∀a∈(aW k n).1,aH a)/\(aW k n).1.length=k/\(aW k n).2.bytes=n.bytes
 |0=>⟨b,by simp[aW],rfl,rfl⟩
 |k+1=>by
  obtain⟨c,d,e,f⟩:=iu.Fit.ints b k;obtain⟨g,h,i⟩:=c.int;refine⟨g,?_,?_,i.trans f⟩
  ·intro a P
   rcases Q6.1 P with P|P
   ·exact d a P
   ·rw[List.mem_singleton]at P;subst P;exact h
  ·simp[aW,e]
structure iu.At (r:iu) (b:List UInt8) (l:List UInt8):Prop where
 bytes:r.bytes=b
 pos:r.pos<=b.length
 sE:r.sE=0
 rest:b.drop r.pos=l
def iu.At.int(n:T.At u (ep e++b0))(P:aH e):(fA T).1=e/\(fA T).2.At u b0:=by
 have a:T.num=(0,e,(ep e).length):=by unfold iu.num;rw[n.bytes,n.rest];exact FP P b0
 have b:u.length-T.pos=(ep e).length+b0.length:=by
  have:=Zj List.length n.rest
  rwa [XZ,QX]at this
 have c:=n.pos;unfold fA;rw[a,Zq (by simp[n.sE]),Zx rfl];refine⟨rfl,n.bytes,by show T.pos+(ep e).length<=_;omega,rfl,?_⟩;show u.drop (T.pos+(ep e).length)=b0;rw[<-List.drop_drop,n.rest,List.drop_left]
def iu.At.count{r:iu}{n m:Int}(P:r.At u (ep n++b0))(a:aH n)(c:0<=n)(d:n<=m):(bK m r).1=n/\(bK m r).2.At u b0:=by
 have b:r.num=(0,n,(ep n).length):=by unfold iu.num;rw[P.bytes,P.rest];exact FP a b0
 have e:u.length-r.pos=(ep n).length+b0.length:=by
  have:=Zj List.length P.rest
  rwa [XZ,QX]at this
 have f:=P.pos;unfold bK;rw[b,Zq (by simp[P.sE]),Zx rfl,Zq dg];refine⟨rfl,P.bytes,by show r.pos+(ep n).length<=_;omega,rfl,?_⟩;show u.drop (r.pos+(ep n).length)=b0;rw[<-List.drop_drop,P.rest,List.drop_left]
def bl(n:List Int):List UInt8:=(n.map ep).flatten
def lE(n:Int)(P:List Int):bl (n::P)=ep n++bl P:=by simp[bl]
def je(n P:List Int):bl (n++P)=bl n++bl P:=by simp[bl]
def iu.At.ints:∀(n:List Int) {zs:List Int},T.At u (bl (n++zs)++b0)->(∀b∈n,aH b)->(aW n.length T).1=n/\(aW n.length T).2.At u (bl zs++b0):=by
 intro n;generalize P:n.length=d
 induction d generalizing n with
 |zero=>intro zs a _;have:=QW P;subst this;exact⟨rfl,a⟩
 |succ d c=>
  rcases List.eq_nil_or_concat n with rfl|⟨n,b,rfl⟩
  ·cases P
  rw[List.concat_eq_append]at P⊢;intro zs a e;rw[XQ]at a;rw[QX,List.length_singleton]at P;have c:=λ{zs:List Int}=>c n oM (zs:=zs);obtain⟨g,f⟩:=c a λh i=>e h (ZV _ i);rw[List.singleton_append,lE,XQ]at f;obtain⟨j,k⟩:=f.int (e b sM);exact⟨by show _++[_]=_;rw[g,j],k⟩
def iu.At.done(n:T.At u []):iv T=0:=by
 have P:=Zj List.length n.rest;rw[XZ,ZQ]at P;unfold iv;rw[n.bytes,n.sE,Zq oM]
structure ah where
 origin:Int
 seq:Int
 aC:Int
 aM:List Int
 a_:Int
 agg:Int
 field:Int
 op:Int
 arg:Int
 key:Int
deriving DecidableEq
structure ah.Ok (e:ah):Prop where
 origin:aH e.origin
 seq:aH e.seq
 aC:aH e.aC
 aM:∀x∈e.aM,aH x
 a_:aH e.a_
 agg:aH e.agg
 field:aH e.field
 op:aH e.op
 arg:aH e.arg
 key:aH e.key
def B_:ah:=⟨0,0,0,[],0,0,0,0,0,0⟩
def Ra:B_.Ok:=by constructor<;>simp[B_,aH]
def gl(n:ah):List Int:=[n.origin,n.seq,n.aC,(n.aM.length:Int)]++n.aM++[n.a_,n.agg,n.field,n.op,n.arg,n.key]
def jG(n:ah):List UInt8×Int:=if 64<n.aM.length then([],3)else(bl (gl n),0)
def j_(c:iu):ah×iu:=
 (λP=>(λa=>(λb=>(λn=>(⟨P.1.getD 0 0,P.1.getD 1 0,P.1.getD 2 0,b.1,n.1.getD 0 0,n.1.getD 1 0,n.1.getD 2 0,n.1.getD 3 0,n.1.getD 4 0,n.1.getD 5 0⟩,n.2))
  (aW 6 b.2)) (aW a.1.toNat a.2)) (bK 64 P.2)) (aW 3 c)
def jf(n:List UInt8):ah×Int:=if iv (j_ ⟨n,0,0⟩).2≠0 then(B_,iv (j_ ⟨n,0,0⟩).2)else((j_ ⟨n,0,0⟩).1,0)
def fD(a:∀n∈s,aH n)(P:Nat):aH (s.getD P 0):=by
 rw[QQ]
 cases b:s[P]? with
 |none=>simp[aH]
 |some n=>exact a n (QZ b)
def Rb{r:iu}(a:r.Fit):(j_ r).2.Fit/\(j_ r).1.Ok/\(j_ r).1.aM.length<=64:=by
 obtain⟨b,P,h,i⟩:=a.ints 3;obtain⟨c,j,k,l⟩:=b.count (m:=64) oM;obtain⟨d,e,f,m⟩:=c.ints (bK 64 (aW 3 r).2).1.toNat;obtain⟨g,n,o,p⟩:=d.ints 6;refine⟨g,⟨fD P 0,fD P 1,fD P 2,e,fD n 0,fD n 1,fD n 2,fD n 3,fD n 4,fD n 5⟩,?_⟩;show(aW _ _).1.length<=64;rw[f];omega
def TE(n:List UInt8):(jf n).1.Ok/\(jf n).1.aM.length<=64:=by
 unfold jf;have:=Rb (r:=⟨n,0,0⟩) ⟨Qj _,.inl rfl⟩;split
 ·exact⟨Ra,by simp[B_]⟩
 ·exact this.2
variable{l:ah}
def Re(n:l.Ok)(u:l.aM.length<=64):jf (bl (gl l))=(l,0):=by
 have b:(iu.mk (bl (gl l)) 0 0).At (bl (gl l)) (bl ([l.origin,l.seq,l.aC]++((l.aM.length:Int)::(l.aM++[l.a_,l.agg,l.field,l.op,l.arg,l.key])))++[]):=
  ⟨rfl,Qj _,rfl,by rw[List.drop_zero,List.append_nil];simp[gl]⟩
 generalize bl (gl l)=P at b⊢;obtain⟨e,c⟩:=iu.At.ints [l.origin,l.seq,l.aC] b (by intro f a;simp at a;rcases a with rfl|rfl|rfl<;>first|exact n.origin|exact n.seq|exact n.aC);rw[lE,XQ]at c;obtain⟨g,h⟩:=c.count (m:=64) cS oM oM;obtain⟨i,j⟩:=iu.At.ints l.aM h n.aM;have k:(aW l.aM.length (bK 64 (aW [l.origin,l.seq,l.aC].length ⟨P,0,0⟩).2).2).2.At P (bl ([l.a_,l.agg,l.field,l.op,l.arg,l.key]++[])++[]):=j;obtain⟨m,o⟩:=iu.At.ints [l.a_,l.agg,l.field,l.op,l.arg,l.key] k (by intro f a;simp at a;rcases a with rfl|rfl|rfl|rfl|rfl|rfl<;>first|exact n.a_|exact n.agg|exact n.field|exact n.op|exact n.arg|exact n.key);have d:j_ ⟨P,0,0⟩=(l,(aW 6 (aW l.aM.length (bK 64 (aW 3 ⟨P,0,0⟩).2).2).2).2):=by
  have p:(bK 64 (aW 3 ⟨P,0,0⟩).2).1=(l.aM.length:Int):=g;have q:(aW 3 ⟨P,0,0⟩).1=[l.origin,l.seq,l.aC]:=e;have r:(aW 6 (aW l.aM.length (bK 64 (aW 3 ⟨P,0,0⟩).2).2).2).1=[l.a_,l.agg,l.field,l.op,l.arg,l.key]:=m;have s:(aW l.aM.length (bK 64 (aW 3 ⟨P,0,0⟩).2).2).1=l.aM:=i;unfold j_;simp only[p,q,Qx,r,s]
  rfl
 have t:iv (j_ ⟨P,0,0⟩).2=0:=by rw[d];exact iu.At.done (by simpa[bl]using o)
 unfold jf;rw[t,Zq sM,d]
def Rh(n:Nat):List UInt8:=[UInt8.ofNat (n/16777216),UInt8.ofNat (n/65536),UInt8.ofNat (n/256),UInt8.ofNat n]
def k_(P:Int)(n:List UInt8):List UInt8:=[UInt8.ofNat P.toNat,UInt8.ofNat (n.length/65536),UInt8.ofNat (n.length/256),UInt8.ofNat n.length]++n
def cF(n:Int)(P:List UInt8):List UInt8:=k_ n P++Rh (Mg (k_ n P)).toNat++[10]
def lr(n:Int)(P:List UInt8):List UInt8×Int:=if n<1\/255<n then([],2)else if 65536<P.length then([],5)else(cF n P,0)
structure FrV where
 kind:Int
 body:List UInt8
 n:Nat
 no:Int
def bw(n:List UInt8):FrV:=if n.length<4 then⟨0,[],0,4⟩else if n.getD 0 0=0 then⟨0,[],0,2⟩else
 (λP=>if 65536<P then⟨0,[],0,5⟩else if n.length<P+9 then⟨0,[],0,4⟩else
  if n.take (P+9)=cF (n.getD 0 0).toNat ((n.drop 4).take P)then⟨(n.getD 0 0).toNat,(n.drop 4).take P,P+9,0⟩else⟨0,[],0,6⟩)
  ((n.getD 1 0).toNat*65536+(n.getD 2 0).toNat*256+(n.getD 3 0).toNat)
def ft(P:Int)(n:List UInt8):(cF P n).length=n.length+9:=by simp[cF,k_,Rh]
def wA(n:(bw u).no=0):(bw u).n<=u.length/\9<=(bw u).n/\(bw u).n=(bw u).body.length+9:=by
 unfold bw at n⊢;generalize(u.getD 1 0).toNat*65536+(u.getD 2 0).toNat*256+(u.getD 3 0).toNat=e at n⊢;split at n
 ·cases n
 rename_i P;rw[Zq P];split at n
 ·cases n
 rename_i a;rw[Zq a];simp only at n⊢;split at n
 ·cases n
 rename_i b;rw[Zq b];split at n
 ·cases n
 rename_i c;rw[Zq c];split at n
 ·rename_i d
  rw[Zx d];refine⟨by simp only;omega,by simp only;omega,by simp;omega⟩
 ·cases n
def TZ(n:a<=65536):(UInt8.ofNat (a/65536)).toNat*65536+(UInt8.ofNat (a/256)).toNat*256+(UInt8.ofNat a).toNat=a:=by
 simp only[ZK];omega
def FL{k:Int}{body r:List UInt8}(h:1<=k)(i:k<=255)(P:body.length<=65536):bw (cF k body++r)=⟨k,body,body.length+9,0⟩:=by
 have n:(UInt8.ofNat k.toNat).toNat=k.toNat:=by rw[ZK];omega
 have a:(cF k body++r).getD 0 0=UInt8.ofNat k.toNat:=rfl;have b:(cF k body++r).getD 1 0=UInt8.ofNat (body.length/65536):=rfl;have c:(cF k body++r).getD 2 0=UInt8.ofNat (body.length/256):=rfl;have d:(cF k body++r).getD 3 0=UInt8.ofNat body.length:=rfl;have e:((cF k body++r).drop 4).take body.length=body:=by
  have:(cF k body++r).drop 4=body++(Rh (Mg (k_ k body)).toNat++[10]++r):=by simp[cF,k_]
  rw[this,List.take_left]
 have f:=ft k body;unfold bw;rw[a,b,c,d,TZ P,Zq (by rw[QX];omega),Zq (by intro g;have:=Zj UInt8.toNat g;rw[n]at this;simp at this;omega)];simp only[e,n];rw[Zq oM,Zq (by rw[QX];omega),Zx]
 ·congr 1;omega
 ·rw[<-f,List.take_left]
  congr 1;omega
def YZ(a:List UInt8)(n:a.length=4)(P:Nat)(j:P<2 ^ 32):gV a=P↔a=Rh P:=by
 match a,n with
 |[b,c,d,e],_=>
  have k:=b.toNat_lt;have l:=c.toNat_lt;have m:=d.toNat_lt;have o:=e.toNat_lt;have i:gV [b,c,d,e]=((b.toNat*256+c.toNat)*256+d.toNat)*256+e.toNat:=by simp[gV]
  rw[i];constructor
  ·intro n
   unfold Rh;have f:∀(g:UInt8) (h:Nat),g.toNat=h % 256->g=UInt8.ofNat h:=λg h n=>UInt8.toNat_inj.1 (by rw[ZK,n]);rw[f b (P/16777216) oM,f c (P/65536) oM,f d (P/256) oM,f e P oM]
  ·intro n
   unfold Rh at n;simp only[List.cons.injEq,and_true]at n;obtain⟨rfl,rfl,rfl,rfl⟩:=n;simp only[ZK];omega
def We:∀{P:List UInt8},4<=P.length->P.take 4=[P.getD 0 0,P.getD 1 0,P.getD 2 0,P.getD 3 0]
 |x::a::b::c::d,_=>rfl
 |[],n=>by simp at n
 |[_],n=>by simp at n
 |[_,_],n=>by simp at n
 |[_,_,_],n=>by simp at n
def WU{b:List UInt8}{n:Nat}(l:n+9<=b.length)(m:(b.getD 1 0).toNat*65536+(b.getD 2 0).toNat*256+(b.getD 3 0).toNat=n)(o:n<=65536):
  b.take (n+9)=cF (b.getD 0 0).toNat ((b.drop 4).take n)↔((Mg (b.take (4+n))).toNat=gV ((b.drop (4+n)).take 4)/\b.getD (8+n) 0=10):=by
 have g:((b.drop 4).take n).length=n:=by simp;omega
 have P:∀(a:UInt8) (c:Nat),a.toNat=c % 256->UInt8.ofNat c=a:=λa c d=>UInt8.toNat_inj.1 (by rw[ZK,d]);have p:=(b.getD 1 0).toNat_lt;have q:=(b.getD 2 0).toNat_lt;have r:=(b.getD 3 0).toNat_lt;have h:k_ (b.getD 0 0).toNat ((b.drop 4).take n)=b.take (4+n):=by
  unfold k_;rw[g,Qx,P (b.getD 0 0) _ (by have:=(b.getD 0 0).toNat_lt;omega),P (b.getD 1 0) (n/65536) oM,P (b.getD 2 0) (n/256) oM,P (b.getD 3 0) n oM];rw[List.take_add]
  congr 1
  exact(We oM).symm
 have i:b.take (n+9)=b.take (4+n)++(b.drop (4+n)).take 4++[b.getD (8+n) 0]:=by
  rw[show n+9=(4+n)+(4+1) by omega,List.take_add,XQ,List.take_add (l:=b.drop (4+n)),List.drop_drop]
  congr 2
  rw[show 4+n+4=8+n by omega,QQ,Qq oM,Option.getD_some];rw[X4 oM]
  rfl
 unfold cF;rw[h,i];have j:((b.drop (4+n)).take 4).length=4:=by simp;omega
 have k:(Mg (b.take (4+n))).toNat<2 ^ 32:=(Mg (b.take (4+n))).isLt;rw[eq_comm (b:=gV _),YZ _ j _ k];constructor
 ·intro d
  obtain⟨e,f⟩:=List.append_inj' d rfl;exact⟨List.append_cancel_left e,by simpa using f⟩
 ·rintro⟨e,f⟩
  rw[e,f]
def bL(n:List UInt8):List ah×Nat:=
 if P:(bw n).no=0/\(bw n).kind=1/\(jf (bw n).body).2=0 then((jf (bw n).body).1::(bL (n.drop (bw n).n)).1,(bw n).n+(bL (n.drop (bw n).n)).2)else([],0)
termination_by n.length
decreasing_by all_goals(have:=wA P.1;simp;omega)
def zn(n:(bw u).no=0/\(bw u).kind=1/\(jf (bw u).body).2=0):bL u=((jf (bw u).body).1::(bL (u.drop (bw u).n)).1,(bw u).n+(bL (u.drop (bw u).n)).2):=by
 rw[bL,dif_pos n]
def C_(n:¬((bw u).no=0/\(bw u).kind=1/\(jf (bw u).body).2=0)):bL u=([],0):=by
 rw[bL,dif_neg n]
def Rf(n:aH e):(ep e).length<=9:=by
 unfold aH at n;have:=CN (u:=e.natAbs) oM;simp[ep];omega
def gj:∀{l:List Int},(∀P∈l,aH P)->(bl l).length<=9*l.length
 |[],_=>by simp[bl]
 |n::l,a=>by
  rw[lE,QX,Xq];have c:=Rf (a n (QV ..));have d:=gj (l:=l) λP b=>a P (QJ _ b);omega
def ah.Ok.ints(n:l.Ok)(b:l.aM.length<=4611686018427387904):∀a∈gl l,aH a:=by
 intro a P;simp only[gl,Q6,Q2,List.not_mem_nil,or_false]at P;rcases P with((rfl|rfl|rfl|rfl)|P)|(rfl|rfl|rfl|rfl|rfl|rfl)
 ·exact n.origin
 ·exact n.seq
 ·exact n.aC
 ·unfold aH;omega
 ·exact n.aM a P
 ·exact n.a_
 ·exact n.agg
 ·exact n.field
 ·exact n.op
 ·exact n.arg
 ·exact n.key
def FE(n:l.Ok)(P:l.aM.length<=64):(bl (gl l)).length<=666:=by
 have:=gj (n.ints oM);have a:(gl l).length=10+l.aM.length:=by simp[gl];omega
 omega
def oA(n:ah):List UInt8:=cF 1 (bl (gl n))
def KH(n:l.Ok)(P:l.aM.length<=64):(oA l).length<=675/\9<=(oA l).length:=by
 have:=FE n P;unfold oA;rw[ft];omega
def T_(n:l.Ok)(P:l.aM.length<=64)(a:List UInt8):bw (oA l++a)=⟨1,bl (gl l),(oA l).length,0⟩:=by
 unfold oA;rw[FL dC dC (by have:=FE n P;omega),ft]
def Dw(P:l.Ok)(a:l.aM.length<=64)(n:List UInt8):bL (oA l++n)=(l::(bL n).1,(oA l).length+(bL n).2):=by
 have b:=T_ P a n;have c:=Re P a;rw[zn (by rw[b];exact⟨rfl,rfl,by rw[c]⟩),b,c,List.drop_left]
def aB(n:List ah):List UInt8:=(n.map oA).flatten
def iy(n:ah)(P:List ah):aB (n::P)=oA n++aB P:=by simp[aB]
def gF(n P:List ah):aB (n++P)=aB n++aB P:=by simp[aB]
def yZ:∀{n:List ah},(∀e∈n,e.Ok/\e.aM.length<=64)->∀P,bL (aB n++P)=(n++(bL P).1,(aB n).length+(bL P).2)
 |[],_,P=>by simp[aB]
 |e::n,a,P=>by
  obtain⟨b,c⟩:=a e (QV ..);rw[iy,XQ,Dw b c,yZ (λd f=>a d (QJ _ f)),QX];simp only[List.cons_append,Nat.add_assoc]
def zy(n:u.length<4):(bw u).no≠0:=by unfold bw;rw[Zx n];simp
def Ny(b:u.length<=65536)(g:a<(cF e u).length):(bw ((cF e u).take a)).no≠0:=by
 by_cases h:a<4
 ·exact zy (by rw[Qy];omega)
 have n:∀P,P<4->((cF e u).take a).getD P 0=(cF e u).getD P 0:=λP i=>by
  rw[QQ,QQ,Xw,Zx oM]
 have j:=ft e u;have c:(cF e u).getD 1 0=UInt8.ofNat (u.length/65536):=rfl;have d:(cF e u).getD 2 0=UInt8.ofNat (u.length/256):=rfl;have f:(cF e u).getD 3 0=UInt8.ofNat u.length:=rfl;unfold bw;rw[n 0 oM,n 1 oM,n 2 oM,n 3 oM,c,d,f,TZ b];split
 ·simp
 split
 ·simp
 simp only;rw[Zq oM,Zx (by rw[Qy];omega)];simp
def zz(n:(bw u).no≠0):bL u=([],0):=C_ λP=>n P.1
def r_:bL []=([],0):=zz (zy sM)
def wW:∀{l:List ah},(∀e∈l,e.Ok/\e.aM.length<=64)->∀(P:Nat),∃n,n<=l.length/\bL ((aB l).take P)=(l.take n,(aB (l.take n)).length)/\(aB (l.take n)).length<=P/\(n<l.length->P<(aB (l.take (n+1))).length)
 |[],_,P=>⟨0,Q4 _,by simp[aB,r_],by simp[aB],sM⟩
 |e::l,a,P=>by
  obtain⟨b,c⟩:=a e (QV ..)
  by_cases d:P<(oA e).length
  ·refine⟨0,Qj _,?_,by simp[aB],λ_=>by simpa[aB]using d⟩
   rw[iy,List.take_append_of_le_length oM,zz]
   ·rfl
   ·exact Ny (by have:=FE b c;omega) d
  ·obtain⟨n,f,g,m,h⟩:=wW (l:=l) (λi j=>a i (QJ _ j)) (P-(oA e).length)
   refine⟨n+1,by simpa using f,?_,?_,λk=>?_⟩
   ·rw[iy,List.take_append,Qz oM,Dw b c,g,Zw,iy,QX]
   ·rw[Zw,iy,QX];omega
   ·have:=h (by simpa using k)
    rw[Zw,iy,QX];omega
def gZ(n:ah):List UInt8×Int:=if(jG n).2≠0 then([],(jG n).2)else lr 1 (jG n).1
end Go.aw
namespace Go.Proofs.YtkpomgifkloklaaGreatDoor
open Go.aw
def ue:ki LL 214 5 1 1:=⟨kR,kR,dC⟩
end Go.Proofs.YtkpomgifkloklaaGreatDoor
namespace Go.Proofs
open Go.Shelf
def Tryz.EX:Go.Shelf.Ren:=⟨λ|7=>244|10=>302|n=>n,λ|23=>174|26=>9|3=>213|28=>219|0=>0|27=>218|33=>298|4=>4|n=>n,λ|n=>n⟩
def Tryz.tJ:Go.Proofs.SlLaysZ.n7 Tryz.prog Tryz.EX:={
 mixed:=by kernel_rfl
 f7:=⟨Tryz.f244.name,ce,Tryz.func244.trans bv⟩
 f10:=⟨Tryz.f302.name,ce,Tryz.func302.trans bv⟩
 t0:=Tryz.underlying0
 a0:=Tryz.isAgg0
 z0:=Tryz.sizeOf0
 v0:=Tryz.zeroValue0
 t4:=Tryz.underlying4
 a4:=Tryz.isAgg4
 z4:=Tryz.sizeOf4
 v4:=Tryz.zeroValue4
 t23:=Tryz.underlying174
 a23:=Tryz.isAgg174
 z23:=Tryz.sizeOf174
 v23:=Tryz.zeroValue174
 t26:=Tryz.underlying9
 a26:=Tryz.isAgg9
 z26:=Tryz.sizeOf9
 v26:=Tryz.zeroValue9
 t27:=Tryz.underlying218
 a27:=Tryz.isAgg218
 z27:=Tryz.sizeOf218
 v27:=Tryz.zeroValue218
 t28:=Tryz.underlying219
 a28:=Tryz.isAgg219
 z28:=Tryz.sizeOf219
 v28:=Tryz.zeroValue219
 t33:=Tryz.underlying298
 a33:=Tryz.isAgg298
 z33:=Tryz.sizeOf298
 v33:=Tryz.zeroValue298}
def Tryz.yM:Go.Shelf.Ren:=⟨λ|6=>243|8=>300|9=>301|11=>337|13=>193|12=>338|23=>260|24=>261|14=>353|15=>354|16=>355|17=>356|18=>357|19=>358|20=>359|21=>360|22=>361|25=>374|26=>309|27=>310|28=>375|29=>376|30=>377|31=>381|n=>n,λ|26=>9|28=>219|24=>299|0=>0|3=>3|37=>306|48=>356|50=>358|4=>4|40=>350|39=>349|45=>56|5=>5|9=>9|51=>393|55=>397|57=>428|58=>429|33=>298|n=>n,λ|n=>n⟩
def Tryz.UJ:Go.Proofs.SlLaysZ.n6 Tryz.prog Tryz.yM:={
 mixed:=by kernel_rfl
 f6:=⟨Tryz.f243.name,ce,Tryz.func243.trans bv⟩
 f8:=⟨Tryz.f300.name,ce,Tryz.func300.trans bv⟩
 f11:=⟨Tryz.f337.name,ce,Tryz.func337.trans bv⟩
 t0:=Tryz.underlying0
 a0:=Tryz.isAgg0
 z0:=Tryz.sizeOf0
 v0:=Tryz.zeroValue0
 t24:=Tryz.underlying299
 a24:=Tryz.isAgg299
 z24:=Tryz.sizeOf299
 v24:=Tryz.zeroValue299
 t26:=Tryz.underlying9
 a26:=Tryz.isAgg9
 z26:=Tryz.sizeOf9
 v26:=Tryz.zeroValue9
 t28:=Tryz.underlying219
 a28:=Tryz.isAgg219
 z28:=Tryz.sizeOf219
 v28:=Tryz.zeroValue219
 i26:=by kernel_rfl}
def Tryz.QO:Go.Shelf.Ren:=⟨λ|6=>301|8=>193|9=>338|19=>260|20=>261|21=>353|22=>354|23=>355|24=>356|25=>357|26=>358|27=>359|28=>360|29=>361|36=>374|31=>309|32=>310|37=>375|38=>376|39=>377|41=>381|n=>n,λ|27=>299|29=>9|3=>3|32=>306|26=>299|0=>0|44=>356|46=>358|4=>4|36=>350|35=>349|41=>56|5=>5|9=>9|53=>393|57=>397|63=>428|64=>429|n=>n,λ|n=>n⟩
def Tryz.VT:Go.Proofs.SlLaysM.n6 Tryz.prog Tryz.QO:={
 mixed:=by kernel_rfl
 f6:=⟨Tryz.f301.name,ce,Tryz.func301.trans bv⟩
 f8:=Tryz.func193.trans bv
 f9:=⟨Tryz.f338.name,ce,Tryz.func338.trans bv⟩
 f19:=Tryz.func260.trans bv
 f20:=Tryz.func261.trans bv
 f21:=⟨Tryz.f353.name,ce,Tryz.func353.trans bv⟩
 f22:=⟨Tryz.f354.name,ce,Tryz.func354.trans bv⟩
 f23:=⟨Tryz.f355.name,ce,Tryz.func355.trans bv⟩
 f24:=⟨Tryz.f356.name,ce,Tryz.func356.trans bv⟩
 f25:=⟨Tryz.f357.name,ce,Tryz.func357.trans bv⟩
 f26:=⟨Tryz.f358.name,ce,Tryz.func358.trans bv⟩
 f27:=⟨Tryz.f359.name,ce,Tryz.func359.trans bv⟩
 f28:=⟨Tryz.f360.name,ce,Tryz.func360.trans bv⟩
 f29:=⟨Tryz.f361.name,ce,Tryz.func361.trans bv⟩
 f31:=Tryz.func309.trans bv
 f32:=Tryz.func310.trans bv
 f36:=⟨Tryz.f374.name,ce,Tryz.func374.trans bv⟩
 f37:=⟨Tryz.f375.name,ce,Tryz.func375.trans bv⟩
 f38:=⟨Tryz.f376.name,ce,Tryz.func376.trans bv⟩
 f39:=⟨Tryz.f377.name,ce,Tryz.func377.trans bv⟩
 f41:=⟨Tryz.f381.name,ce,Tryz.func381.trans bv⟩
 t0:=Tryz.underlying0
 a0:=Tryz.isAgg0
 z0:=Tryz.sizeOf0
 v0:=Tryz.zeroValue0
 t3:=Tryz.underlying3
 a3:=Tryz.isAgg3
 z3:=Tryz.sizeOf3
 v3:=Tryz.zeroValue3
 t4:=Tryz.underlying4
 a4:=Tryz.isAgg4
 z4:=Tryz.sizeOf4
 v4:=Tryz.zeroValue4
 t5:=Tryz.underlying5
 a5:=Tryz.isAgg5
 z5:=Tryz.sizeOf5
 v5:=Tryz.zeroValue5
 t9:=Tryz.underlying9
 a9:=Tryz.isAgg9
 z9:=Tryz.sizeOf9
 v9:=Tryz.zeroValue9
 t26:=Tryz.underlying299
 a26:=Tryz.isAgg299
 z26:=Tryz.sizeOf299
 v26:=Tryz.zeroValue299
 t27:=Tryz.underlying299
 a27:=Tryz.isAgg299
 z27:=Tryz.sizeOf299
 v27:=Tryz.zeroValue299
 t29:=Tryz.underlying9
 a29:=Tryz.isAgg9
 z29:=Tryz.sizeOf9
 v29:=Tryz.zeroValue9
 t32:=Tryz.underlying306
 a32:=Tryz.isAgg306
 z32:=Tryz.sizeOf306
 v32:=Tryz.zeroValue306
 t35:=Tryz.underlying349
 a35:=Tryz.isAgg349
 z35:=Tryz.sizeOf349
 v35:=Tryz.zeroValue349
 t36:=Tryz.underlying350
 a36:=Tryz.isAgg350
 z36:=Tryz.sizeOf350
 v36:=Tryz.zeroValue350
 t41:=Tryz.underlying56
 a41:=Tryz.isAgg56
 z41:=Tryz.sizeOf56
 v41:=Tryz.zeroValue56
 t44:=Tryz.underlying356
 a44:=Tryz.isAgg356
 z44:=Tryz.sizeOf356
 v44:=Tryz.zeroValue356
 t46:=Tryz.underlying358
 a46:=Tryz.isAgg358
 z46:=Tryz.sizeOf358
 v46:=Tryz.zeroValue358
 t53:=Tryz.underlying393
 a53:=Tryz.isAgg393
 z53:=Tryz.sizeOf393
 v53:=Tryz.zeroValue393
 t57:=Tryz.underlying397
 a57:=Tryz.isAgg397
 z57:=Tryz.sizeOf397
 v57:=Tryz.zeroValue397
 t63:=Tryz.underlying428
 a63:=Tryz.isAgg428
 z63:=Tryz.sizeOf428
 v63:=Tryz.zeroValue428
 t64:=Tryz.underlying429
 a64:=Tryz.isAgg429
 z64:=Tryz.sizeOf429
 v64:=Tryz.zeroValue429}
def Tryz.KL:Go.Shelf.Ren:=⟨λ|137=>362|217=>378|266=>382|n=>n,λ|9=>9|5=>5|3=>3|n=>n,λ|n=>n⟩
def Tryz.Vc:Go.Proofs.Lays.n137 Tryz.prog Tryz.KL:={
 mixed:=by kernel_rfl
 f137:=Tryz.func362.trans bv
 f217:=Tryz.func378.trans bv
 f266:=Tryz.func382.trans bv
 t3:=Tryz.underlying3
 a3:=Tryz.isAgg3
 z3:=Tryz.sizeOf3
 v3:=Tryz.zeroValue3
 t5:=Tryz.underlying5
 a5:=Tryz.isAgg5
 z5:=Tryz.sizeOf5
 v5:=Tryz.zeroValue5
 t9:=Tryz.underlying9
 a9:=Tryz.isAgg9
 z9:=Tryz.sizeOf9
 v9:=Tryz.zeroValue9}
def Tryz.KM:Go.Shelf.Ren:=⟨λ|129=>261|n=>n,λ|53=>358|3=>3|4=>4|46=>306|5=>5|9=>9|n=>n,λ|n=>n⟩
def Tryz.Vt:Go.Proofs.Lays.n129 Tryz.prog Tryz.KM:={
 mixed:=by kernel_rfl
 f129:=Tryz.func261.trans bv
 t3:=Tryz.underlying3
 a3:=Tryz.isAgg3
 z3:=Tryz.sizeOf3
 v3:=Tryz.zeroValue3
 t4:=Tryz.underlying4
 a4:=Tryz.isAgg4
 z4:=Tryz.sizeOf4
 v4:=Tryz.zeroValue4
 t5:=Tryz.underlying5
 a5:=Tryz.isAgg5
 z5:=Tryz.sizeOf5
 v5:=Tryz.zeroValue5
 t9:=Tryz.underlying9
 a9:=Tryz.isAgg9
 z9:=Tryz.sizeOf9
 v9:=Tryz.zeroValue9
 t46:=Tryz.underlying306
 a46:=Tryz.isAgg306
 z46:=Tryz.sizeOf306
 v46:=Tryz.zeroValue306
 t53:=Tryz.underlying358
 a53:=Tryz.isAgg358
 z53:=Tryz.sizeOf358
 v53:=Tryz.zeroValue358}
def Tryz.HY:Go.Shelf.Ren:=⟨λ|171=>188|243=>251|246=>307|283=>342|284=>343|285=>344|286=>345|129=>261|317=>367|318=>368|319=>369|320=>370|337=>379|338=>380|n=>n,λ|3=>3|9=>9|2=>2|4=>4|171=>424|0=>0|53=>358|37=>214|5=>5|173=>426|212=>444|51=>356|20=>20|213=>445|46=>306|232=>451|233=>452|n=>n,λ|17=>4|18=>6|19=>7|n=>n⟩
def Tryz.TC:Go.Proofs.LaysM.n171 Tryz.prog Tryz.HY:={
 mixed:=by kernel_rfl
 f129:=Tryz.func261.trans bv
 f171:=Tryz.func188.trans bv
 f243:=Tryz.func251.trans bv
 f246:=Tryz.func307.trans bv
 f283:=Tryz.func342.trans bv
 f284:=Tryz.func343.trans bv
 f285:=Tryz.func344.trans bv
 f286:=Tryz.func345.trans bv
 f317:=Tryz.func367.trans bv
 f318:=Tryz.func368.trans bv
 f319:=Tryz.func369.trans bv
 f320:=Tryz.func370.trans bv
 f337:=Tryz.func379.trans bv
 f338:=Tryz.func380.trans bv
 t0:=Tryz.underlying0
 a0:=Tryz.isAgg0
 z0:=Tryz.sizeOf0
 v0:=Tryz.zeroValue0
 t2:=Tryz.underlying2
 a2:=Tryz.isAgg2
 z2:=Tryz.sizeOf2
 v2:=Tryz.zeroValue2
 t3:=Tryz.underlying3
 a3:=Tryz.isAgg3
 z3:=Tryz.sizeOf3
 v3:=Tryz.zeroValue3
 t4:=Tryz.underlying4
 a4:=Tryz.isAgg4
 z4:=Tryz.sizeOf4
 v4:=Tryz.zeroValue4
 t5:=Tryz.underlying5
 a5:=Tryz.isAgg5
 z5:=Tryz.sizeOf5
 v5:=Tryz.zeroValue5
 t9:=Tryz.underlying9
 a9:=Tryz.isAgg9
 z9:=Tryz.sizeOf9
 v9:=Tryz.zeroValue9
 t20:=Tryz.underlying20
 a20:=Tryz.isAgg20
 z20:=Tryz.sizeOf20
 v20:=Tryz.zeroValue20
 t37:=Tryz.underlying214
 a37:=Tryz.isAgg214
 z37:=Tryz.sizeOf214
 v37:=Tryz.zeroValue214
 t46:=Tryz.underlying306
 a46:=Tryz.isAgg306
 z46:=Tryz.sizeOf306
 v46:=Tryz.zeroValue306
 t51:=Tryz.underlying356
 a51:=Tryz.isAgg356
 z51:=Tryz.sizeOf356
 v51:=Tryz.zeroValue356
 t53:=Tryz.underlying358
 a53:=Tryz.isAgg358
 z53:=Tryz.sizeOf358
 v53:=Tryz.zeroValue358
 t171:=Tryz.underlying424
 a171:=Tryz.isAgg424
 z171:=Tryz.sizeOf424
 v171:=Tryz.zeroValue424
 t173:=Tryz.underlying426
 a173:=Tryz.isAgg426
 z173:=Tryz.sizeOf426
 v173:=Tryz.zeroValue426
 t212:=Tryz.underlying444
 a212:=Tryz.isAgg444
 z212:=Tryz.sizeOf444
 v212:=Tryz.zeroValue444
 t213:=Tryz.underlying445
 a213:=Tryz.isAgg445
 z213:=Tryz.sizeOf445
 t232:=Tryz.underlying451
 a232:=Tryz.isAgg451
 z232:=Tryz.sizeOf451
 v232:=Tryz.zeroValue451
 t233:=Tryz.underlying452
 a233:=Tryz.isAgg452
 z233:=Tryz.sizeOf452
 v233:=Tryz.zeroValue452
 g17:=by kernel_rfl
 g18:=by kernel_rfl
 g19:=by kernel_rfl
 i0:=by kernel_rfl
 i2:=by kernel_rfl
 i3:=by kernel_rfl
 i4:=by kernel_rfl
 i5:=by kernel_rfl
 i9:=by kernel_rfl
 i20:=by kernel_rfl
 i37:=by kernel_rfl
 i46:=by kernel_rfl
 i51:=by kernel_rfl
 i53:=by kernel_rfl
 i171:=by kernel_rfl
 i173:=by kernel_rfl
 i212:=by kernel_rfl
 i232:=by kernel_rfl
 i233:=by kernel_rfl
 m17:=by kernel_rfl
 m18:=by kernel_rfl
 m19:=by kernel_rfl}
def Tryz.F_:Go.Shelf.Ren:=⟨λ|7=>167|10=>224|n=>n,λ|23=>181|26=>3|3=>3|28=>273|0=>0|27=>272|33=>72|4=>4|n=>n,λ|n=>n⟩
def Tryz.YT:Go.Proofs.SlLaysZI.n7 Tryz.prog Tryz.F_:={
 mixed:=by kernel_rfl
 f7:=⟨Tryz.f167.name,ce,Tryz.func167.trans bv⟩
 f10:=⟨Tryz.f224.name,ce,Tryz.func224.trans bv⟩
 t0:=Tryz.underlying0
 a0:=Tryz.isAgg0
 z0:=Tryz.sizeOf0
 v0:=Tryz.zeroValue0
 t4:=Tryz.underlying4
 a4:=Tryz.isAgg4
 z4:=Tryz.sizeOf4
 v4:=Tryz.zeroValue4
 t23:=Tryz.underlying181
 a23:=Tryz.isAgg181
 z23:=Tryz.sizeOf181
 v23:=Tryz.zeroValue181
 t26:=Tryz.underlying3
 a26:=Tryz.isAgg3
 z26:=Tryz.sizeOf3
 v26:=Tryz.zeroValue3
 t27:=Tryz.underlying272
 a27:=Tryz.isAgg272
 z27:=Tryz.sizeOf272
 v27:=Tryz.zeroValue272
 t28:=Tryz.underlying273
 a28:=Tryz.isAgg273
 z28:=Tryz.sizeOf273
 v28:=Tryz.zeroValue273
 t33:=Tryz.underlying72
 a33:=Tryz.isAgg72
 z33:=Tryz.sizeOf72
 v33:=Tryz.zeroValue72}
def Tryz.zq:Go.Shelf.Ren:=⟨λ|6=>166|8=>222|9=>223|11=>289|13=>193|12=>290|23=>260|24=>261|14=>322|15=>323|16=>324|17=>325|18=>326|19=>327|20=>328|21=>329|22=>330|25=>349|26=>309|27=>310|28=>350|29=>351|30=>262|31=>372|n=>n,λ|26=>3|28=>273|24=>52|0=>0|3=>3|37=>306|48=>356|50=>358|4=>4|40=>350|39=>349|45=>56|5=>5|9=>9|51=>393|55=>397|57=>428|58=>429|33=>72|n=>n,λ|n=>n⟩
def Tryz.VK:Go.Proofs.SlLaysZI.n6 Tryz.prog Tryz.zq:={
 mixed:=by kernel_rfl
 f6:=⟨Tryz.f166.name,ce,Tryz.func166.trans bv⟩
 f8:=⟨Tryz.f222.name,ce,Tryz.func222.trans bv⟩
 f11:=⟨Tryz.f289.name,ce,Tryz.func289.trans bv⟩
 t0:=Tryz.underlying0
 a0:=Tryz.isAgg0
 z0:=Tryz.sizeOf0
 v0:=Tryz.zeroValue0
 t24:=Tryz.underlying52
 a24:=Tryz.isAgg52
 z24:=Tryz.sizeOf52
 v24:=Tryz.zeroValue52
 t26:=Tryz.underlying3
 a26:=Tryz.isAgg3
 z26:=Tryz.sizeOf3
 v26:=Tryz.zeroValue3
 t28:=Tryz.underlying273
 a28:=Tryz.isAgg273
 z28:=Tryz.sizeOf273
 v28:=Tryz.zeroValue273
 i26:=by kernel_rfl}
def Tryz.QP:Go.Shelf.Ren:=⟨λ|5=>223|8=>193|7=>290|19=>260|20=>261|10=>322|11=>323|12=>324|13=>325|14=>326|15=>327|16=>328|17=>329|18=>330|30=>349|31=>309|32=>310|33=>350|34=>351|35=>262|40=>372|n=>n,λ|23=>52|25=>3|3=>3|32=>306|22=>52|0=>0|44=>356|46=>358|4=>4|36=>350|35=>349|41=>56|5=>5|9=>9|53=>393|57=>397|63=>428|64=>429|n=>n,λ|n=>n⟩
def Tryz.xd:Go.Proofs.SlLaysM.n5 Tryz.prog Tryz.QP:={
 mixed:=by kernel_rfl
 f5:=⟨Tryz.f223.name,ce,Tryz.func223.trans bv⟩
 f7:=⟨Tryz.f290.name,ce,Tryz.func290.trans bv⟩
 f8:=Tryz.func193.trans bv
 f10:=⟨Tryz.f322.name,ce,Tryz.func322.trans bv⟩
 f11:=⟨Tryz.f323.name,ce,Tryz.func323.trans bv⟩
 f12:=⟨Tryz.f324.name,ce,Tryz.func324.trans bv⟩
 f13:=⟨Tryz.f325.name,ce,Tryz.func325.trans bv⟩
 f14:=⟨Tryz.f326.name,ce,Tryz.func326.trans bv⟩
 f15:=⟨Tryz.f327.name,ce,Tryz.func327.trans bv⟩
 f16:=⟨Tryz.f328.name,ce,Tryz.func328.trans bv⟩
 f17:=⟨Tryz.f329.name,ce,Tryz.func329.trans bv⟩
 f18:=⟨Tryz.f330.name,ce,Tryz.func330.trans bv⟩
 f19:=Tryz.func260.trans bv
 f20:=Tryz.func261.trans bv
 f30:=⟨Tryz.f349.name,ce,Tryz.func349.trans bv⟩
 f31:=Tryz.func309.trans bv
 f32:=Tryz.func310.trans bv
 f33:=⟨Tryz.f350.name,ce,Tryz.func350.trans bv⟩
 f34:=⟨Tryz.f351.name,ce,Tryz.func351.trans bv⟩
 f35:=⟨Tryz.f262.name,ce,Tryz.func262.trans bv⟩
 f40:=⟨Tryz.f372.name,ce,Tryz.func372.trans bv⟩
 t0:=Tryz.underlying0
 a0:=Tryz.isAgg0
 z0:=Tryz.sizeOf0
 v0:=Tryz.zeroValue0
 t3:=Tryz.underlying3
 a3:=Tryz.isAgg3
 z3:=Tryz.sizeOf3
 v3:=Tryz.zeroValue3
 t4:=Tryz.underlying4
 a4:=Tryz.isAgg4
 z4:=Tryz.sizeOf4
 v4:=Tryz.zeroValue4
 t5:=Tryz.underlying5
 a5:=Tryz.isAgg5
 z5:=Tryz.sizeOf5
 v5:=Tryz.zeroValue5
 t9:=Tryz.underlying9
 a9:=Tryz.isAgg9
 z9:=Tryz.sizeOf9
 v9:=Tryz.zeroValue9
 t22:=Tryz.underlying52
 a22:=Tryz.isAgg52
 z22:=Tryz.sizeOf52
 v22:=Tryz.zeroValue52
 t23:=Tryz.underlying52
 a23:=Tryz.isAgg52
 z23:=Tryz.sizeOf52
 v23:=Tryz.zeroValue52
 t25:=Tryz.underlying3
 a25:=Tryz.isAgg3
 z25:=Tryz.sizeOf3
 v25:=Tryz.zeroValue3
 t32:=Tryz.underlying306
 a32:=Tryz.isAgg306
 z32:=Tryz.sizeOf306
 v32:=Tryz.zeroValue306
 t35:=Tryz.underlying349
 a35:=Tryz.isAgg349
 z35:=Tryz.sizeOf349
 v35:=Tryz.zeroValue349
 t36:=Tryz.underlying350
 a36:=Tryz.isAgg350
 z36:=Tryz.sizeOf350
 v36:=Tryz.zeroValue350
 t41:=Tryz.underlying56
 a41:=Tryz.isAgg56
 z41:=Tryz.sizeOf56
 v41:=Tryz.zeroValue56
 t44:=Tryz.underlying356
 a44:=Tryz.isAgg356
 z44:=Tryz.sizeOf356
 v44:=Tryz.zeroValue356
 t46:=Tryz.underlying358
 a46:=Tryz.isAgg358
 z46:=Tryz.sizeOf358
 v46:=Tryz.zeroValue358
 t53:=Tryz.underlying393
 a53:=Tryz.isAgg393
 z53:=Tryz.sizeOf393
 v53:=Tryz.zeroValue393
 t57:=Tryz.underlying397
 a57:=Tryz.isAgg397
 z57:=Tryz.sizeOf397
 v57:=Tryz.zeroValue397
 t63:=Tryz.underlying428
 a63:=Tryz.isAgg428
 z63:=Tryz.sizeOf428
 v63:=Tryz.zeroValue428
 t64:=Tryz.underlying429
 a64:=Tryz.isAgg429
 z64:=Tryz.sizeOf429
 v64:=Tryz.zeroValue429}
end Go.Proofs
namespace Go.aw
open Go
def wrap_u64(n:Int):PP .u64 n=n % 18446744073709551616:=by
 unfold PP;simp[IntKind.signed,IntKind.bits]
variable{b0 u:List UInt8}{a c i p:Nat}{d:be}{h:Program}{C g q:TypeId}{m t:am}{b:World}
def FO(n:a<18446744073709551616):PP .u64 (a:Int)=a:=by rw[wrap_u64];omega
def MV(s:ki h g q 1 1){L D:ac}(P:aS gC q L b (UV a) c i u)(B:Row gC 1 b D d c b0)(j:∀k,aS gC q (·=a) k (UV a) c i b0->aj (·=a) b k->k.heap.size=b.heap.size->m (WP c) k):
  aK h (Builtin.copy_ #[g,g] C #[.slice (UV a) c i,.slice d c p]) b m t:=by
 obtain⟨a1,a2,M,hz,N,a3,a4⟩:=s.info;have E:(h.info? q).map (·.size)=some 1:=by rw[M];simp[N]
 have l:=B.len;have O:=P.len dC;obtain⟨a5,D0,F,a6,a7⟩:=P.body;rcases F.cases with⟨v,_⟩|⟨Q,n,v,w,R,S,a8⟩
 ·cases v
 cases v
 by_cases H:c=0
 ·subst H
  have:b0=[]:=QW l.symm;subst this;have:u=[]:=QW O.symm;subst this;have o:=run_copy_none (P:=h) b g g C q (UV a) d 0 i 0 p s.under E (by rfl);refine aK.mk (v:=WP 0) o (j b ?_ (aj.refl _) rfl);have:=P.alone;exact⟨by obtain⟨cs,D,T,e,a9⟩:=this.body;exact⟨cs,λ_=>False,T,by rw[show cs=[]from e];rfl,λ_ P=>P.elim⟩,λe f=>by simpa[aI]using f.symm,λe f=>by rw[f];exact az w⟩
 ·obtain⟨cs,x,U⟩:=B.aA
  have y:b0≠[]:=by rintro rfl;simp at l;exact H l
  obtain⟨e,z,V,_,_,W⟩:=U y dC;subst V;have r:cs.length=c:=by have:=x.length;rw[this,l];show _*1=_;omega
  have b1:n.size=i:=by rw[S];show i*1=i;omega
  have o:=run_copy_row (P:=h) b g g C q a 0 c i ⟨e,z,none⟩ c p n q cs s.under E w (by rw[r];simp[Nat.min_self]) (λX Y Z=>by rw[Addr.add_lit];exact W X Y Z) oM (x.SL);rw[r]at o;have I:=setRow_heap b a n (n.toList.take 0++cs++n.toList.drop (0+c)).toArray q (0,0) w;refine aK.mk o (j _ ⟨⟨cs,λ_=>False,⟨⟨by rw[r];show c=c*1;omega,.inr ⟨a,i,_,rfl,Qj _,I,R,?_,?_,?_⟩⟩⟩,x.free,λ_ P=>P.elim⟩,λe f=>by simpa[aI]using f.symm,λe f=>by subst f;exact az I⟩ ⟨rfl,rfl,rfl,by simp[World.setRow],λa0 hk y=>setRow_other b a a0 _ y⟩ (by simp[World.setRow]))
  ·rcases F.row.2 with⟨A,_⟩|⟨Q,J,K,A,_,_,_,hm,_⟩
   ·cases A
   ·cases A;exact hm
  ·show _=i*1
   simp;omega
  ·simp only[List.take_zero,List.nil_append,Xz]
   show(cs++n.toList.drop c).take (c*1)=cs;rw[Nat.mul_one,<-r,List.take_left]
end Go.aw
namespace Go.Proofs.YtkpomgifkloklaaGreatDoor
open Go.aw
variable{e:Int}{u:List UInt8}{a c:Nat}{d:be}{b:World}
def Qi(a:aH e):bn 319 #[WP e] b (Ok λc d=>c= .tuple #[.int .u64 (e.natAbs:Int),.int .u8 (if e<0 then 16 else 0)]/\b=d):=by
 unfold aH at a;refine Jf (al.dec (λn=>?_) (λn=>?_))
 ·refine Ok.mk ⟨?_,rfl⟩
  rw[Zx n,wrap_u64,wrap_u64];have P:(0-e % 18446744073709551616) % 18446744073709551616=(e.natAbs:Int):=oM
  rw[P]
 ·refine Ok.mk ⟨?_,rfl⟩
  rw[Zq n,wrap_u64];have P:e % 18446744073709551616=(e.natAbs:Int):=oM
  rw[P]
def bits_Len64{n:Nat}{P:World}(c:n<18446744073709551616):bn 261 #[.int .u64 (n:Int)] P (Ok λb a=>b= WP (Lib.bitLen n:Int)/\P=a):=by
 refine(Any.bits_Len64 Tryz.Vt (n:Int) P oM oM).mono ?_;rintro d a ⟨rfl,rfl⟩;exact Ok.mk ⟨by rw[Qx],rfl⟩
def Xl(b:a<=8)(n:Bool):Sh .u8 (if n then 16 else 0) (PP .u8 (a:Int))=((UInt8.ofNat (a+if n then 16 else 0)).toNat:Int):=by
 have P:(List.range 9).all (λa=>Sh .u8 16 (PP .u8 (a:Int))==((UInt8.ofNat (a+16)).toNat:Int)&&Sh .u8 0 (PP .u8 (a:Int))==((UInt8.ofNat (a+0)).toNat:Int))=true:=by decide+kernel
 have:=ZY.1 P a (List.mem_range.2 oM);simp only[QK,beq_iff_eq]at this
 cases n
 ·exact this.2
 ·exact this.1
def BY{m:Int}{D:ac}(s:aH m)(f:Row gC 1 b D d a u)(K:a+9<=aP)(hD:∀e,D e->e<b.heap.size):
  bn 273 #[.slice d a c,WP m] b (Ok (qh gC 5 b (u++ep m))):=by
 have j:=f.len;have k:=s;unfold aH at k;have L:=K;unfold aP at L;have t:m.natAbs<2 ^ 64:=oM
 have v:=CN t;have M:=zf _ t;refine LV (PC.ok (Qi s) ?_);rintro _ _ ⟨rfl,rfl⟩;refine⟨_,_,rfl,PC.ok (bits_Len64 oM) ?_⟩;rintro _ _ ⟨rfl,rfl⟩;have N:PP .i64 (Int.tdiv (PP .i64 ((Lib.bitLen m.natAbs:Int)+7)) 8)=((gq m.natAbs).length:Int):=by
  rw[wrap_i64 (x:=(Lib.bitLen m.natAbs:Int)+7) cS,Int.tdiv_eq_ediv_of_nonneg oM,wrap_i64 cS,M];omega
 have O:PP .i64 ((PP .i64 (((a:Nat):Int)+1))+((gq m.natAbs).length:Int))=((a+1+(gq m.natAbs).length:Nat):Int):=by
  rw[wrap_i64 (x:=((a:Nat):Int)+1) cS,wrap_i64 cS];omega
 refine⟨_,rfl,?_⟩;rw[N,O];refine Xm ue kR oM cw λw1 Q w b4=>?_;refine⟨_,_,_,rfl,MV ue Q (f.af w) λR S T b5=>⟨_,rfl,?_⟩⟩;have y:ai b R:=w.new T λe f=>.inr oM;rw[show PP .u8 ((gq m.natAbs).length:Int)=PP .u8 ((gq m.natAbs).length:Int)from rfl];have z:=Xl v (decide (m<0));simp only[Zk]at z;rw[z];refine ON S ue (x:=UInt8.ofNat ((gq m.natAbs).length+if m<0 then 16 else 0)) (D:=λ_=>False) ⟨rfl,trivial⟩ (λ_ h=>h.elim) (by rw[<-j];unfold aP;omega) (by rw[<-j];unfold maxLen;omega) λa4 c3 U V A W X b6=>?_;have Y:ai b U:=y.new W λe f=>.inr (by simp only[aI,Q1]at f;omega);have Z:a+1=(u++[UInt8.ofNat ((gq m.natAbs).length+if m<0 then 16 else 0)]).length:=by simp[j]
 generalize a8:u++[UInt8.ofNat ((gq m.natAbs).length+if m<0 then 16 else 0)]=l at A Z;have a0:u++ep m=l++(gq m.natAbs).reverse:=by rw[<-a8,XQ];rfl
 rw[a0];generalize a9:(gq m.natAbs).length=P at v⊢;refine⟨_,_,_,rfl,λB C o E F H=>∃n:Nat,n<=P/\F=(P:Int)-1-n/\B=P-n/\o=a+1+n/\∃g,aS gC 5 g H C o E (l++(gq m.natAbs).reverse.take n)/\ai b H/\∀e,g e->b.heap.size<=e,
  ⟨_,0,Qj _,by rw[wrap_i64 cS];omega,rfl,rfl,V,by simpa using A,Y,λe f=>?_⟩,?_⟩
 ·rcases X e f with h|h|h
  ·omega
  ·exact h.elim
  ·have:=y.size;omega
 rintro B C o E F _ p ⟨n,hj,rfl,rfl,rfl,g,i,q,r⟩;refine al.dec (λh1=>?_) (λh1=>?_)
 ·have b7:n<P:=oM
  have b0:PP .i64 (8*((P:Int)-1-n))=((8*(P-1-n):Nat):Int):=by rw[wrap_i64 cS];omega
  rw[b0];have a1:∀x I,(do eqGuard .shr 358 x I (.int .u64 (m.natAbs:Int)) (WP ((8*(P-1-n):Nat):Int));binOp .shr 358 (.int .u64 (m.natAbs:Int)) (WP ((8*(P-1-n):Nat):Int)):Sem Value).run LL p=
    .ok (.int .u64 ((m.natAbs/256 ^(P-1-n):Nat):Int)) p:=λx I=>by
   have h0:=shift_shr .u64 .i64 (m.natAbs:Int) ((8*(P-1-n):Nat):Int) oM (by show _<=((64:Nat):Int);omega);have e1:(m.natAbs:Int)/2 ^(Int.toNat ((8*(P-1-n):Nat):Int))=((m.natAbs/256 ^(P-1-n):Nat):Int):=by
    have e2:(256:Nat) ^(P-1-n)=2 ^(8*(P-1-n)):=by rw[Nat.pow_mul]
    rw[Qx,e2];simp
   show(Op.shift .shr .u64 (m.natAbs:Int) .i64 ((8*(P-1-n):Nat):Int)).run LL p=_;rw[h0,e1]
   rfl
  refine aK.mk (a1 _ _) ⟨_,rfl,?_⟩;have a2:(gq m.natAbs).reverse[n]? =some (UInt8.ofNat (m.natAbs/256 ^(P-1-n))):=by
   rw[List.getElem?_reverse oM,a9];rw[Tn _ _ oM]
   congr 1
   refine UInt8.toNat_inj.1 ?_;rw[ZK,ZK];omega
  have a3:PP .u8 ((m.natAbs/256 ^(P-1-n):Nat):Int)=((UInt8.ofNat (m.natAbs/256 ^(P-1-n))).toNat:Int):=by
   rw[ZK];unfold PP;simp[IntKind.signed,IntKind.bits]
  rw[a3];have J:(l++(gq m.natAbs).reverse.take n).length=a+1+n:=by simp;omega
  refine ON i ue (x:=UInt8.ofNat (m.natAbs/256 ^(P-1-n))) (D:=λ_=>False) ⟨rfl,trivial⟩ (λ_ h=>h.elim) (by rw[J];unfold aP;omega) (by rw[J];unfold maxLen;omega) λa5 c5 w5 F5 b1 b2 b3 b8=>?_;refine⟨_,_,_,rfl,_,oM,n+1,oM,by rw[wrap_i64 cS];omega,rfl,oM,F5,?_,q.new b2 λe f=>.inr (r e (i.self e f)),λe f=>?_⟩
  ·rw[Qw,a2]
   simpa using b1
  ·rcases b3 e f with h|h|h
   ·exact r e h
   ·exact h.elim
   ·exact Xx q.size h
 ·obtain rfl:n=P:=oM
  rw[Qz dg]at i;exact Ok.mk ⟨_,_,_,g,rfl,i,q,r⟩
end Go.Proofs.YtkpomgifkloklaaGreatDoor
namespace Go.aw
open Go
def Own.set{d:World}{i:TypeId}{k:Nat}{e:be}{l P:Nat}{cs:List Value}(o:Own d i k e l P cs){m:Nat}{p:Value}{q:bc}(F:m<cs.length){a b:Nat}(f:e=some ⟨a,b,none⟩)(g:∀n,Own n i k e l P (cs.set m p)->aj (λa=>aI e=some a) d n->n.heap.size=d.heap.size->q n):PS d ⟨a,b+m,none⟩ p q:=by
 have r:=o.row.1;rcases o.row.2 with⟨c,H⟩|⟨I,X,h,c,s,t,u,v,w,j⟩
 ·simp only[XX]at c
  rw[c.1]at f;cases f
 ·simp only[XX]at c
  obtain⟨x,-,y⟩:=c;subst x;subst y
  cases f
  rw[Xz];have z:m<h.size:=by
   have:=Zj List.length j;simp at this;omega
  refine PS.mk t z λn A B C=>g n ⟨⟨by simpa using r,.inr ⟨_,_,_,rfl,s,C,u,v,by simpa using w,?_⟩⟩⟩ (A.mono λa _ E=>by rw[E];rfl) B;rw[Array.toList_setIfInBounds,List.take_set,j]
def cf.oN{a:Type}{b:Nat}{n:a->List Value}{hl h1}{c:World}{D:ac}:∀{P:List a} {cs:List Value},cf (flat b n (λ_=>True) hl h1) c D P cs↔cs=P.flatMap n
 |[],cs=>by simp[cf]
 |x::P,cs=>by
  constructor
  ·rintro⟨e,f,rfl,⟨rfl,-⟩,d⟩
   rw[cf.oN.1 d];rfl
  ·rintro rfl
   exact⟨n x,P.flatMap n,rfl,⟨rfl,trivial⟩,cf.oN.2 rfl⟩
def sf{c:Type}{enc:c->List Value}{k:Nat}(d:∀P,(enc P).length=k){x':c}{v:Value}{a:Nat}(g:a<k):∀(e:List c) (n:Nat) (P:c),e[n]? =some P->enc x'=(enc P).set a v->(e.flatMap enc).set (n*k+a) v=(e.set n x').flatMap enc
 |[],n,P,b,_=>by simp at b
 |y::h,0,P,b,f=>by
  simp at b;subst b;rw[List.flatMap_cons,List.set_cons_zero,List.flatMap_cons,Nat.zero_mul,Xz,List.set_append_left _ _ (by rw[d];exact g),f]
 |y::h,n+1,P,b,f=>by
  have:=sf d g h n P (by simpa using b) f;have i:(n+1)*k+a-k=n*k+a:=by rw[X7];omega
  have j:k<=(n+1)*k+a:=by rw[X7];omega
  rw[List.flatMap_cons,List.set_cons_succ,List.flatMap_cons,List.set_append_right _ _ (by rw[d];exact j),d,i,this]
def mf{a:Type}{n:a->List Value}{b:Nat}(c:∀x,(n x).length=b):∀P:List a,(P.flatMap n).length=P.length*b
 |[]=>by simp
 |x::P=>by rw[List.flatMap_cons,QX,c,mf c P,Xq,X7,Nat.one_mul,Nat.add_comm]
variable{I a c i p:Nat}{f:ac}{d v:be}{h:Program}{j:Type}{C g q:TypeId}{w:Value}{m t:am}{b:World}{z:bc}
def aS.set{k:Type}{n:k->List Value}{hl h1}{e:List k}(l:aS (flat a n (λ_=>True) hl h1) g f b d c i e){P j:Nat}{x x':k}(o:e[P]? =some x)(r:j<a)(s:n x'=(n x).set j w)(t:d=some ⟨p,I,none⟩)(m:∀h,aS (flat a n (λ_=>True) hl h1) g f h d c i (e.set P x')->aj (λp=>aI d=some p) b h->h.heap.size=b.heap.size->z h):PS b ⟨p,I+P*a+j,none⟩ w z:=by
 obtain⟨cs,D,u,v,y⟩:=l.body;have A:=cf.oN.1 v;subst A;have B:P<e.length:=(Qv.1 o).1;rw[Nat.add_assoc];refine u.set (m:=P*a+j) ?_ t λh C E q=>m h ⟨⟨_,D,C,cf.oN.2 (sf hl r e P x o s),y⟩,l.self,λp F=>by rw[q];exact l.aE p F⟩ E q;rw[mf hl];have:(P+1)*a<=e.length*a:=Q0 _ B;rw[X7]at this;omega
def yw{P:Program}{w:World}(n:Nat)(b g c:TypeId)(h:TypeInfo)(a:Nat)(e:P.underlying b=some (.slice c))(f:P.info? c=some h)(d:Value)(i:Nat)(j:List Value)(k:w.ownsRow n c a d i j)(l:Nat):
  (Builtin.append_ #[b,b] g #[d,.slice none 0 l]).run P w= .ok d w:=by
 rcases k.2 with⟨rfl,rfl⟩|⟨q,m,o,rfl,_,_,p,_⟩
 ·simp[Builtin.append_,run_underlying e,sizeOf,typeInfo,f,Builtin.lenOf,Builtin.firstCells]
 ·simp[Builtin.append_,run_underlying e,sizeOf,typeInfo,f,Builtin.lenOf,Builtin.firstCells,p,storeCells]
def AG{k:kq j}{r:List j}{bytes:Nat}(s:aS k g f b d a c r)(u:ki h q g k.k bytes){D:ac}{e:List j}(w:Row k bytes b D v i e)(A:∀n,D n->n<b.heap.size/\aI d≠some n)(l:(r.length+e.length)*bytes<=aP)(B:r.length+e.length<=maxLen)(o:∀x P y z,aS k g z y x (a+i) P (r++e)->aj (λE=>aI d=some E) b y->(∀n,z n->f n\/D n\/b.heap.size<=n)->(∀n,aI x=some n->f n\/b.heap.size<=n)->m (.slice x (a+i) P) y):
  aK h (Builtin.append_ #[q,q] C #[.slice d a c,.slice v i p]) b m t:=by
 cases v with
 |some N=>exact lW s u w A l B o
 |none=>
  have F:e=[]:=by
   cases e with
   |nil=>rfl
   |cons H O=>obtain⟨n,I,Q,J,_⟩:=w.el 0 H rfl;cases J
  subst F;obtain rfl:i=0:=w.len;obtain⟨K,R,L,S,T,U,V⟩:=ki.info u;obtain⟨cs,W,M,X,Y⟩:=s.body;exact aK.mk (yw (P:=h) (w:=b) 0 q C g K k.k u.under L (.slice d a c) a cs M.row p) (o d c b f (by simpa using s) (aj.refl _) (λn l=>.inl l) λn l=>.inl (s.self n l))
end Go.aw
namespace Go.aw
open Go
def Mz(n:UInt8):PP .i64 (n.toNat:Int)=n.toNat:=wrap_i64 (by have:=n.toNat_lt;unfold aH;omega)
def ml(n:UInt8):Nat:=if 16<n.toNat then n.toNat-16 else n.toNat
def Na(P:UInt8):(PP .i64 (wv .u8 (P.toNat:Int) 16)<=8/\((P.toNat:Int)≠16)↔ml P<=8)/\(ml P<=8->PP .i64 (wv .u8 (P.toNat:Int) 16)=(ml P:Int)/\GQ .u8 (P.toNat:Int) 16=if 16<P.toNat then 16 else 0):=by
 have a:(List.range 256).all (λn=>decide ((PP .i64 (wv .u8 (n:Int) 16)<=8/\((n:Int)≠16)↔(if 16<n then n-16 else n)<=8)/\((if 16<n then n-16 else n)<=8->PP .i64 (wv .u8 (n:Int) 16)=((if 16<n then n-16 else n:Nat):Int)/\GQ .u8 (n:Int) 16=if 16<n then 16 else 0)))=true:=by decide+kernel
 have:=ZY.1 a P.toNat (List.mem_range.2 P.toNat_lt);exact XV this
def Nb{n d:Nat}(b:n<72057594037927936)(c:d<256):Sh .u64 (Mv .u64 (n:Int) 8) (PP .u64 (d:Int))=((n*256+d:Nat):Int):=by
 have P:Mv .u64 (n:Int) 8=((n*256:Nat):Int):=by
  unfold Mv;have:min (Int.toNat 8) (IntKind.bits .u64)=8:=dC
  rw[this,wrap_u64];have:((2:Int) ^ 8)=256:=dC
  rw[this];omega
 rw[P,FO oM];unfold Sh;show PP .u64 ((BitVec.ofInt 64 ((n*256:Nat):Int)|||BitVec.ofInt 64 (d:Int)).toNat:Int)=_;have a:n*256|||d=n*256+d:=by
  have:=(Nat.shiftLeft_add_eq_or_of_lt (a:=n) (i:=8) (b:=d) oM).symm
  rwa [Nat.shiftLeft_eq]at this
 rw[BitVec.ofInt_natCast,BitVec.ofInt_natCast,BitVec.toNat_or,BitVec.toNat_ofNat,BitVec.toNat_ofNat,Nat.mod_eq_of_lt oM,Nat.mod_eq_of_lt oM,a,FO oM]
variable{u:List UInt8}{a:Nat}{c2:UInt8}
def Ff(n:u[a]? =some c2):gV (u.take (a+1))=gV (u.take a)*256+c2.toNat:=by
 rw[Qw,n];exact zh _ _
def pG(n:List UInt8){j m:Nat}(P:j<=m):gV (n.take j)<256 ^ m:=by
 have a:=Oo (n.take j);have b:256 ^(n.take j).length<=256 ^ m:=Nat.pow_le_pow_right oM dg;omega
def Nc(n:¬ml c2<=8):rdNum (c2::u)=(5,0,0):=by
 unfold rdNum ml at*;simp only;rw[Zx oM]
def Kh(P:ml c2<=8)(n:u.length<ml c2):rdNum (c2::u)=(4,0,0):=by
 unfold rdNum ml at*;simp only;rw[Zq oM,Zx n]
def Qp(a:ml c2<=8)(n:¬u.length<ml c2)(P:(0<ml c2/\u.head? =some 0)\/(¬16<c2.toNat/\2 ^ 63<=gV (u.take (ml c2)))\/(16<c2.toNat/\2 ^ 63<gV (u.take (ml c2)))):rdNum (c2::u)=(5,0,0):=by
 unfold rdNum ml at*;simp only;rw[Zq oM,Zq n,Zx P]
def CQ(a:ml c2<=8)(n:¬u.length<ml c2)(P:¬((0<ml c2/\u.head? =some 0)\/(¬16<c2.toNat/\2 ^ 63<=gV (u.take (ml c2)))\/(16<c2.toNat/\2 ^ 63<gV (u.take (ml c2))))):
  rdNum (c2::u)=(0,if 16<c2.toNat then-(gV (u.take (ml c2)):Int)else gV (u.take (ml c2)),ml c2+1):=by
 unfold rdNum ml at*;simp only;rw[Zq oM,Zq n,Zq P]
end Go.aw
namespace Go.Proofs.YtkpomgifkloklaaGreatDoor
open Go.aw
structure fL (w:World) (p:Nat) (F:ac) (r:iu):Prop where
 body:∃a n cap G,w.heap[p]? =some (.cells #[.slice a n cap,WP (r.pos:Int),WP r.sE] 363 (0,0))/\aS gC 5 G w a n cap r.bytes/\(∀b,G b->F b/\b≠p)
 self:F p
 aE:∀b,F b->b<w.heap.size
 fit:r.Fit
 eO:r.bytes.length<=aP
variable{o:Array Value}{H:Bool}{A:FuncId}{e:Int}{a6:List PanicEntry->bc}{u:List UInt8}{a c i:Nat}{f:ac}{d:be}{m t:am}{b k:World}{T:iu}
def fL.keep{S c:ac}(P:fL b a c T)(d:aj S b k)(g:∀n,c n->¬S n):fL k a c T:=by
 obtain⟨i,j,e,G,l,m,h⟩:=P.body;exact⟨⟨i,j,e,G,d.get l (g _ P.self),m.keep d (λn f=>g n (h n f).1),h⟩,P.self,λn f=>Qk (P.aE n f) d.size,P.fit,P.eO⟩
def fL.af(n:fL b a f T)(P:ai b k):fL k a f T:=n.keep P λ_ _ n=>n
def fL.fv{b w':World}{e r':iu}(g:fL b a f e){G:ac}(k:aS gC 5 G b d c i e.bytes)(h:∀n,G n->f n/\n≠a)(j:aj (·=a) b w')(l:w'.heap[a]? =some (.cells #[.slice d c i,WP (r'.pos:Int),WP r'.sE] 363 (0,0)))(P:r'.bytes=e.bytes)(m:r'.Fit):fL w' a f r':=
 ⟨⟨d,c,i,G,l,by rw[P];exact k.keep j λn P=>(h n P).2,h⟩,g.self,λn P=>Qk (g.aE n P) j.size,m,by rw[P];exact g.eO⟩
def Fc{D:ac}(P:Row gC 1 b D d a u)(o:∀n,D n->n<b.heap.size):
  bn 200 #[.slice d a c] b (Ok λp j=>∃k l,p= RK k/\fL j k l ⟨u,0,0⟩/\ai b j/\∀n,l n->b.heap.size<=n):=by
 have q:=P.len;have r:=P.eO;refine Jb (AG (aS.nil b) ue P (λn g=>⟨o n g,by simp[aI]⟩) dg (by unfold aP at r;unfold maxLen;simp;omega) λe s h z t v _ w=>?_);refine⟨_,_,_,rfl,PA.mk λA i B x=>?_⟩;have m:ai b h:=v.mono λn _ P=>by simp[aI]at P
 have f:=t.alone;rw[List.nil_append]at f;have y:∀n,aI e=some n->b.heap.size<=n:=λn P=>(w n P).elim (λg=>g.elim) id;refine Ok.mk ⟨h.heap.size,λn=>n=h.heap.size\/aI e=some n,rfl,⟨⟨e,_,s,λn=>aI e=some n,x,f.af i,λn P=>⟨.inr P,?_⟩⟩,.inl rfl,?_,⟨Qj _,.inl rfl⟩,by rw[<-q];omega⟩,m.then i,?_⟩
 ·have:=f.aE n P;omega
 ·rintro n (rfl|P)
  ·omega
  ·have:=f.aE n P;have:=i.size;omega
 ·rintro n (rfl|P)
  ·exact m.size
  ·exact y n P
def Wo(n:Int):List PanicEntry:=[{v:=.iface 401 (WP n),recovered:=false}]
def gG(n:H=true->m (.tuple #[]) b)(P:H=false->a6 (Wo e) b):
  PC LL 316 #[.bool H,WP e] b m a6:=by
 cases H
 ·refine yJ (al.tt rfl ?_)
  exact aK.panics (v:=.iface 401 (WP e)) rfl (P rfl)
 ·exact yJ (al.ff rfl (n rfl))
def Xr(b:World)(a:Nat)(c:ac)(n:iu)(no:Int)(f:am)(g:Nat):ba:=λd P=>
 ((no=0/\fL P a c ⟨n.bytes,n.pos+g,n.sE⟩/\∃e,d= .returned e/\f e P)\/(no≠0/\d= .panicked (Wo no)/\∃h,fL P a c ⟨n.bytes,h,n.sE⟩))/\aj (·=a) b P/\P.heap.size=b.heap.size
def PC.red{no:Int}(d:bn A o b (Xr b a f T no m c))(j:no=0->∀P n,fL n a f ⟨T.bytes,T.pos+c,T.sE⟩->m P n->aj (·=a) b n->n.heap.size=b.heap.size->t P n)(k:no≠0->∀n,(∃l,fL n a f ⟨T.bytes,l,T.sE⟩)->aj (·=a) b n->n.heap.size=b.heap.size->a6 (Wo no) n):PC LL A o b t a6:=
 d.mono λq n ⟨d,h,i⟩=>by
  rcases d with⟨e,g,P,rfl,p⟩|⟨e,rfl,g⟩
  ·exact j e P n g p h i
  ·exact k e n g h i
def Ov{m:Nat}(c:fL b a f T)(M:m<=2147483647):
  bn 317 #[RK a,WP (m:Int)] b (Xr b a f T (if m<=T.bytes.length-T.pos then 0 else 4) (λx y=>∃d z,x= .slice d m z/\Row gC 1 y f d m ((T.bytes.drop T.pos).take m)) m):=by
 obtain⟨d,q,n,G,A,g,j⟩:=c.body;have N:=c.fit.pos;have B:=c.eO;have O:=g.len dC;have C:=g.lL;unfold aP at B;refine uO λr s=>?_;have h:ai b r:=s.keep;have i:=h.get A id;have t:r.heap.size=b.heap.size:=by rw[s.heap]
 refine⟨a,0,rfl,d,q,n,ae i rfl,a,0,rfl,_,ae i rfl,gG (λP=>?_) (λP=>?_)⟩
 ·have P:=XV P
  rw[wrap_i64 cS]at P;refine⟨rfl,a,0,rfl,_,ae i rfl,a,0,rfl,PS.mk i sM λE F H e=>?_⟩;have I:PP .i64 ((T.pos:Int)+(m:Int))=((T.pos+m:Nat):Int):=by rw[wrap_i64 cS];omega
  rw[I]at e;have J:PP .i64 (((T.pos+m:Nat):Int)-(m:Int))=(T.pos:Int):=by rw[wrap_i64 cS];omega
  refine⟨a,0,rfl,d,q,n,ae e rfl,a,0,rfl,_,ae e rfl,a,0,rfl,_,ae e rfl,?_⟩;rw[J];refine⟨oM,oM,oM,λk u=>?_⟩;have v:ai E k:=u.keep;have l:aj (·=a) b k:=((h.keep).then F).af v;have K:fL k a f ⟨T.bytes,T.pos+m,T.sE⟩:=c.fv (r':=⟨T.bytes,T.pos+m,T.sE⟩) g j l (v.get e id) rfl ⟨by show T.pos+m<=T.bytes.length;omega,c.fit.sE⟩;refine⟨.inl ⟨Zx oM,K,_,rfl,df d T.pos n 1,n-T.pos,?_⟩,l,by rw[u.heap,H,t]⟩;simp only[Qx];rw[show T.pos+m-T.pos=m by omega];refine⟨rfl,?_⟩;have o:=(g.row (bytes:=1) dC cw).part (lo:=T.pos) (hi:=T.pos+m) (cap:=n) oM oM C;rw[show T.pos+m-T.pos=m by omega]at o;have L:(T.bytes.take (T.pos+m)).drop T.pos=(T.bytes.drop T.pos).take m:=by rw[List.drop_take];congr 1;omega
  rw[L]at o;exact((o.keep l λp P=>(j p P).2)).mono λp P=>(j p P).1
 ·intro _ _
  have P:=Xy P;rw[wrap_i64 cS]at P;have w:¬m<=T.bytes.length-T.pos:=oM
  refine⟨.inr ⟨by rw[Zq w];decide,by rw[Zq w],T.pos,?_⟩,h.keep,t⟩;exact c.af h
def FQ(M:fL b a f T):
  bn 269 #[RK a] b (Xr b a f T T.num.1 (λt g=>t= WP T.num.2.1) T.num.2.2):=by
 have x:=M.fit.pos;have r:(T.bytes.drop T.pos).length=T.bytes.length-T.pos:=XZ ..;generalize s:T.bytes.drop T.pos=A at r;have Z:T.num=rdNum A:=by unfold iu.num;rw[s]
 rw[Z];refine rm (PC.red (Ov (m:=1) M oM) ?_ ?_)
 rotate_left
 ·intro k y B u v
  have:¬1<=T.bytes.length-T.pos:=λe=>k (Zx e);rw[Zq this];have:A=[]:=QW oM;subst this;exact⟨.inr ⟨dC,rfl,B⟩,u,v⟩
 rintro k _ y N ⟨a1,c1,rfl,O⟩ u v;have Q:1<=T.bytes.length-T.pos:=by
  by_cases e:1<=T.bytes.length-T.pos
  ·exact e
  ·rw[Zq e]at k;cases k
 rw[s]at O
 match A,s,r with
 |[],s,r=>simp at r;omega
 |n::d,s,r=>
 have b0:d.length=T.bytes.length-T.pos-1:=by simp at r;omega
 have a6:T.bytes.drop (T.pos+1)=d:=by rw[<-List.drop_drop,s];rfl
 obtain⟨b5,o6,m,rfl,o,_,P⟩:=O.nK (i:=0) oM;obtain rfl:n=m:=by simpa using o
 obtain⟨C,a7⟩:=Na n;refine⟨_,_,_,rfl,b5,o6,rfl,oM,oM,_,P,?_⟩;refine⟨λg=>ml n<=8/\g=y,?_,?_⟩
 ·have h:¬ml n<=8->∀g,g=y->Xr b a f T (rdNum (n::d)).1 (λt g=>t= WP (rdNum (n::d)).2.1) (rdNum (n::d)).2.2 (.panicked (Wo 5)) g:=by
   rintro p g rfl;rw[Nc p];exact⟨.inr ⟨dC,rfl,T.pos+1,N⟩,u,v⟩
  refine al.dec (λE=>gG (λc=>⟨rfl,?_,rfl⟩) (λc=>h ?_ _ rfl)) (λE=>gG (λc=>(by cases c)) λ_=>h ?_ _ rfl)
  ·exact C.1 ⟨E,by simpa using c⟩
  ·intro p
   have:=(C.2 p).2;simp only[bne_eq_false_iff_eq]at c;exact this c
  ·intro p
   exact E (C.2 p).1
 rintro _ y ⟨w,rfl⟩;obtain⟨p,a8⟩:=a7 w;rw[p];refine PC.red (Ov (m:=ml n) N oM) ?_ ?_
 rotate_left
 ·intro k l B F H
  have hn:¬ml n<=T.bytes.length-(T.pos+1):=λe=>k (Zx e);rw[Zq hn,Kh w oM];exact⟨.inr ⟨dC,rfl,B⟩,u.then F,H.trans v⟩
 rintro k _ l R ⟨a2,c2,rfl,z⟩ F H;have b1:ml n<=d.length:=by
  by_cases e:ml n<=T.bytes.length-(T.pos+1)
  ·omega
  ·simp only at k;rw[Zq e]at k;cases k
 change Row gC 1 l f a2 (ml n) ((T.bytes.drop (T.pos+1)).take (ml n))at z
 rw[a6]at z;have S:fL l a f ⟨T.bytes,T.pos+(ml n+1),T.sE⟩:=by have:=R;rwa [show T.pos+(ml n+1)=T.pos+1+ml n by omega]
 have I:aj (·=a) b l:=u.then F;have J:=H.trans v;have h:((0<ml n/\d.head? =some 0)\/(¬16<n.toNat/\2 ^ 63<=gV (d.take (ml n)))\/(16<n.toNat/\2 ^ 63<gV (d.take (ml n))))->∀g,g=l->Xr b a f T (rdNum (n::d)).1 (λt g=>t= WP (rdNum (n::d)).2.1) (rdNum (n::d)).2.2 (.panicked (Wo 5)) g:=by
  rintro c g rfl;rw[Qp w oM c];exact⟨.inr ⟨dC,rfl,_,R⟩,I,J⟩
 refine⟨_,_,_,rfl,λg=>¬(0<ml n/\d.head? =some 0)/\g=l,?_,?_⟩
 ·refine al.eT (λe=>gG (λ_=>⟨rfl,λP=>oM,rfl⟩) (λc=>by cases c)) (λe=>?_)
  have x:0<ml n:=oM
  obtain⟨K,L,m,rfl,o,_,P⟩:=z.nK (i:=0) x;have U:d.head? =some m:=by
   rw[Xw,Zx x]at o;rw[List.head?_eq_getElem?];exact o
  refine⟨K,L,rfl,oM,oM,_,P,gG (λc=>⟨rfl,λP=>?_,rfl⟩) (λc=>h (.inl ⟨x,?_⟩) _ rfl)⟩
  ·rw[U]at P
   have:=P.2;simp only[Q1]at this;subst this;simp at c
  ·rw[U]
   have:(m.toNat:Int)=0:=by simpa using c
   exact Zj some (UInt8.toNat_inj.1 (by
                         have:m.toNat=0:=oM
                         rw[this];rfl))
 rintro _ l ⟨V,rfl⟩;refine⟨λW X i g=>∃j:Nat,j<=ml n/\i=j/\W=ml n-j/\g=l/\X=(gV (d.take j):Int),⟨_,0,Qj _,rfl,rfl,rfl,rfl⟩,?_⟩;rintro W X i _ l ⟨j,hj,rfl,rfl,rfl,rfl⟩;refine al.dec (λh1=>?_) (λh1=>?_)
 ·have Y:j<ml n:=oM
  obtain⟨K,L,m,rfl,o,_,P⟩:=z.nK (i:=j) Y;rw[Xw,Zx Y]at o;refine⟨K,L,rfl,oM,oM,_,P,_,oM,j+1,oM,an oM,rfl,rfl,?_⟩;have a9:=pG d (j:=j) (m:=7) oM;rw[Nb (by
            have:(256:Nat) ^ 7=72057594037927936:=dC
            omega) m.toNat_lt,Ff o]
 ·obtain rfl:j=ml n:=oM
  have a9:=pG d (j:=ml n) (m:=8) oM;have b2:(256:Nat) ^ 8=18446744073709551616:=dC
  have b3:(2:Nat) ^ 63=9223372036854775808:=dC
  refine al.eT (λe=>?_) (λe=>?_)<;>rw[a8]at e
  ·have q:¬16<n.toNat:=by intro P;rw[Zx P]at e;cases e
   refine gG (λc=>⟨rfl,?_⟩) (λc=>h (.inr (.inl ⟨q,?_⟩)) _ rfl)
   ·have c:=XV c
    rw[CQ w oM (λP=>P.elim V λP=>P.elim (λP=>oM) λP=>q P.1),Zq q];exact⟨.inl ⟨rfl,S,_,rfl,by rw[wrap_i64 cS]⟩,I,J⟩
   ·have c:=Xy c
    omega
  ·have q:16<n.toNat:=by
    by_cases P:16<n.toNat
    ·exact P
    ·rw[Zq P]at e;exact Zz rfl e
   refine gG (λc=>⟨rfl,?_⟩) (λc=>h (.inr (.inr ⟨q,?_⟩)) _ rfl)
   ·have c:=XV c
    rw[CQ w oM (λP=>P.elim V λP=>P.elim (λP=>P.1 q) λP=>oM),Zx q];refine⟨.inl ⟨rfl,S,_,rfl,?_⟩,I,J⟩;have e1:PP .i64 (PP .u64 (0-(gV (d.take (ml n)):Int)))= -(gV (d.take (ml n)):Int):=by
     unfold PP;simp[IntKind.signed,IntKind.bits];omega
    rw[e1]
   ·have c:=Xy c
    omega
end Go.Proofs.YtkpomgifkloklaaGreatDoor
namespace Go.aw
open Go
def au{n P:Type}[BEq n](b:List (n×P))(a:n):Option P:=match b with
 |[]=>none
 |(c,d)::e=>if a==c then some d else au e a
def aJ{n a:Type}[BEq n](e:List (n×a))(P:n)(b:a):List (n×a):=match e with
 |[]=>[(P,b)]
 |(c,f)::d=>if P==c then(P,b)::d else(c,f)::aJ d P b
def bR{n P:Type}[BEq n](d:List (n×P))(a:n):List (n×P):=match d with
 |[]=>[]
 |(b,e)::c=>if a==b then c else(b,e)::bR c a
variable{f0:Array MapEntry}{a c:Nat}{h:Program}{K j:Type}{f1:TypeDesc}{C c1 f7 g q:TypeId}{f2:TypeInfo}{c3 w:Value}{m t:am}{b k:World}{z:bc}
def bE[BEq j][LawfulBEq j](d:List (j×K))(P n:j)(f:K):au (aJ d P f) n=if n==P then some f else au d n:=by
 induction d with
 |nil=>simp[aJ,au]
 |cons g k h=>
  obtain⟨b,l⟩:=g;unfold aJ
  by_cases a:P==b
  ·rw[Zx a]
   have e:P=b:=by simpa using a
   subst e;unfold au;split<;>rfl
  ·rw[Zq a]
   unfold au
   by_cases c:n==b
   ·rw[Zx c]
    have e:n=b:=by simpa using c
    subst e;have:(n==P)=false:=by
     cases i:n==P
     ·rfl
     ·exfalso;apply a;have:n=P:=by simpa using i
      simp[this]
    rw[this];simp[au,a]
   ·rw[Zq c];rw[h];simp[au,c]
def Tidy{n P:Type}(a:List (n×P)):Prop:=(a.map (·.1)).Nodup
def Ti[BEq j][LawfulBEq j]{P:List (j×K)}{n:j}{c:K}{a:j}:a∈(aJ P n c).map (·.1)↔a=n\/a∈P.map (·.1):=by
 induction P with
 |nil=>simp[aJ]
 |cons d g e=>
  obtain⟨b,i⟩:=d;unfold aJ
  by_cases h:n==b
  ·rw[Zx h]
   have f:n=b:=by simpa using h
   subst f;simp
  ·rw[Zq h]
   simp only[QY,Q2,e];constructor
   ·rintro(h|h|h)<;>simp[h]
   ·rintro(h|h|h)<;>simp[h]
def Tidy.aJ{n e:Type}[BEq n][LawfulBEq n]{b:List (n×e)}(P:Tidy b)(c:n)(g:e):Tidy (aJ b c g):=by
 unfold Tidy at*
 induction b with
 |nil=>simp[aw.aJ]
 |cons h k i=>
  obtain⟨f,l⟩:=h;simp only[QY,List.nodup_cons]at P;unfold aw.aJ
  by_cases a:c==f
  ·rw[Zx a]
   have j:c=f:=by simpa using a
   subst j;simpa using P
  ·rw[Zq a]
   simp only[QY,List.nodup_cons];refine⟨λd=>?_,i P.2⟩;rcases Ti.1 d with rfl|d
   ·simp at a
   ·exact P.1 d
def Tj[BEq j][LawfulBEq j]{P:List (j×K)}{b a:j}(n:a∈(bR P b).map (·.1)):a∈P.map (·.1):=by
 induction P with
 |nil=>simp[bR]at n
 |cons c e d=>
  obtain⟨f,g⟩:=c;unfold bR at n;split at n
  ·simp only[QY,Q2];exact .inr n
  ·simp only[QY,Q2]at n⊢
   rcases n with n|n
   ·exact .inl n
   ·exact .inr (d n)
def Tidy.bR{n b:Type}[BEq n][LawfulBEq n]{a:List (n×b)}(P:Tidy a)(c:n):Tidy (bR a c):=by
 unfold Tidy at*
 induction a with
 |nil=>simp[aw.bR]
 |cons d g e=>
  obtain⟨h,i⟩:=d;simp only[QY,List.nodup_cons]at P;unfold aw.bR;split
  ·exact P.2
  ·simp only[QY,List.nodup_cons]
   exact⟨λf=>P.1 (Tj f),e P.2⟩
def jS[BEq j][LawfulBEq j]{a:List (j×K)}{n:j}:au a n=none↔n∉a.map (·.1):=by
 induction a with
 |nil=>simp[au]
 |cons c f d=>
  obtain⟨b,g⟩:=c;unfold au
  by_cases P:n==b
  ·have e:n=b:=by simpa using P
   rw[Zx P];subst e;simp
  ·rw[Zq P,d]
   have:n≠b:=by rintro rfl;simp at P
   simp[this]
def gy[BEq j][LawfulBEq j]{b:List (j×K)}(g:Tidy b)(P n:j):au (bR b P) n=if n==P then none else au b n:=by
 induction b with
 |nil=>simp[bR,au]
 |cons h l i=>
  obtain⟨c,m⟩:=h;have e:=g;simp only[Tidy,QY,List.nodup_cons]at e;unfold bR
  by_cases d:P==c
  ·rw[Zx d]
   have f:P=c:=by simpa using d
   subst f
   by_cases a:n==P
   ·have:n=P:=by simpa using a
    subst this;simp only[beq_self_eq_true,if_true];exact jS.2 e.1
   ·rw[Zq a]
    simp[au,a]
  ·rw[Zq d]
   unfold au
   by_cases a:n==c
   ·have f:n=c:=by simpa using a
    subst f;have:(n==P)=false:=by
     cases k:n==P
     ·rfl
     ·exfalso;apply d;have:n=P:=by simpa using k
      simp[this]
    simp[this]
   ·rw[Zq a,Zq a];exact i e.2
def cA[BEq j][LawfulBEq j]{P:List (j×K)}{a:j}{b:K}(n:au P a=some b):(a,b)∈P:=by
 induction P with
 |nil=>simp[au]at n
 |cons c h d=>
  obtain⟨e,i⟩:=c;unfold au at n;split at n
  ·rename_i f
   have g:a=e:=by simpa using f
   subst g
   cases n
   simp
  ·exact QJ _ (d n)
def fO[BEq j][LawfulBEq j]{n:List (j×K)}{a:j}{b:K}{P:j×K}(h:P∈aJ n a b):P=(a,b)\/P∈n:=by
 induction n with
 |nil=>simpa[aJ]using h
 |cons c e d=>
  obtain⟨f,g⟩:=c;unfold aJ at h;split at h
  ·rcases Q2.1 h with h|h
   ·exact .inl h
   ·exact .inr (QJ _ h)
  ·rcases Q2.1 h with h|h
   ·exact .inr (h▸QV ..)
   ·rcases d h with h|h
    ·exact .inl h
    ·exact .inr (QJ _ h)
def gU[BEq j][LawfulBEq j]{n:List (j×K)}{a:j}{P:j×K}(h:P∈bR n a):P∈n:=by
 induction n with
 |nil=>simp[bR]at h
 |cons b d c=>
  obtain⟨e,f⟩:=b;unfold bR at h;split at h
  ·exact QJ _ h
  ·rcases Q2.1 h with h|h
   ·exact h▸QV ..
   ·exact QJ _ (c h)
def rC[BEq j][LawfulBEq j]{n:List (j×K)}(a:Tidy n){k:j}{v:K}(b:(k,v)∈n):au n k=some v:=by
 induction n with
 |nil=>cases b
 |cons c g d=>
  obtain⟨e,h⟩:=c;simp only[Tidy,QY,List.nodup_cons]at a;unfold au;rcases Q2.1 b with P|P
  ·cases P;simp
  ·have:k≠e:=by
    intro f;exact a.1 (Xk.2 ⟨(k,v),P,f⟩)
   rw[Zq (by simpa using this)];exact d a.2 P
def yD[BEq j](n:List (j×K))(P:j)(a:K):(aJ n P a).length<=n.length+1:=by
 induction n with
 |nil=>simp[aJ]
 |cons b c d=>
  unfold aJ;split
  ·simp
  ·simp;omega
def Jw[BEq j](n:List (j×K))(P:j):(bR n P).length<=n.length:=by
 induction n with
 |nil=>simp[bR]
 |cons a b c=>
  unfold bR;split
  ·simp
  ·simp;omega
def fT{n P a:Type}(b:P->a->Prop):List (n×P)->List (n×a)->Prop
 |[],[]=>True
 |(c,d)::e,(f,g)::h=>c=f/\b d g/\fT b e h
 |_,_=>False
def fT.keys{a b c:Type}{e:b->c->Prop}:∀{n:List (a×b)} {P:List (a×c)},fT e n P->n.map (·.1)=P.map (·.1)
 |[],[],_=>rfl
 |(f,g)::n,(h,i)::P,d=>by simp[d.1,fT.keys d.2.2]
def fT.mono{d e f:Type}{g h:e->f->Prop}:∀{n:List (d×e)} {P:List (d×f)},fT g n P->(∀a b,g a b->h a b)->fT h n P
 |[],[],_,_=>trivial
 |(j,a)::n,(k,b)::P,c,i=>⟨c.1,i _ _ c.2.1,fT.mono c.2.2 i⟩
def fT.au{P e f:Type}[BEq P]{g:e->f->Prop}(n:P):∀{a:List (P×e)} {b:List (P×f)},fT g a b->
  (aw.au a n=none/\aw.au b n=none)\/∃c d,aw.au a n=some c/\aw.au b n=some d/\g c d
 |[],[],_=>.inl ⟨rfl,rfl⟩
 |(i,c)::a,(m,d)::b,j=>by
  obtain⟨rfl,k,l⟩:=j;unfold aw.au
  by_cases h:n==i
  ·simp only[h,if_true];exact .inr ⟨c,d,rfl,rfl,k⟩
  ·simp only[h];exact fT.au n l
def fT.aJ{n P a:Type}[BEq n]{R:P->a->Prop}{b:n}{f:P}{g:a}(c:R f g):∀{d:List (n×P)} {e:List (n×a)},fT R d e->fT R (aw.aJ d b f) (aw.aJ e b g)
 |[],[],_=>⟨rfl,c,trivial⟩
 |(j,m)::d,(o,p)::e,k=>by
  obtain⟨rfl,l,h⟩:=k;unfold aw.aJ
  by_cases i:b==j
  ·simp only[i,if_true];exact⟨rfl,c,h⟩
  ·simp only[i];exact⟨rfl,l,fT.aJ c h⟩
def fT.bR{n c d:Type}[BEq n]{e:c->d->Prop}{P:n}:∀{a:List (n×c)} {b:List (n×d)},fT e a b->fT e (aw.bR a P) (aw.bR b P)
 |[],[],_=>trivial
 |(h,k)::a,(l,m)::b,i=>by
  obtain⟨rfl,j,f⟩:=i;unfold aw.bR
  by_cases g:P==h
  ·simp only[g,if_true];exact f
  ·simp only[g];exact⟨rfl,j,fT.bR f⟩
def fT.mid{e f i:Type}{g:f->i->Prop}{j:e}{k:f}:∀{h b:List (e×f)} {a:List (e×i)},fT g (h++(j,k)::b) a->∃c P d,a=c++(j,P)::d/\g k P/\fT g (h++b) (c++d)
 |[],b,(l,P)::a,n=>⟨[],P,a,by rw[n.1];rfl,n.2.1,n.2.2⟩
 |(q,r)::h,b,(l,m)::a,n=>by
  obtain⟨c,P,d,rfl,o,p⟩:=fT.mid n.2.2;exact⟨(l,m)::c,P,d,rfl,o,n.1,n.2.1,p⟩
def fT.length{n P a:Type}{d:P->a->Prop}{b:List (n×P)}{c:List (n×a)}(e:fT d b c):b.length=c.length:=by
 have:=Zj List.length e.keys;simpa using this
structure bX {κ:Type} (w:World) (r:Nat) (enc:κ->Value) (l:List (κ×Value)):Prop where
 at':∃es clock,w.heap[r]? =some (.map es clock)/\es.toList.map (λe=>(e.key,e.val))=l.map (λp=>(enc p.1,p.2))/\
  (∀e∈es.toList,e.born<clock)/\(es.toList.map (·.born)).Nodup
 tidy:Tidy l
def bX.keep{S:ac}{P:j->Value}{d:List (j×Value)}(e:bX b a P d)(f:aj S b k)(g:¬S a):bX k a P d:=by
 obtain⟨h,n,i,c⟩:=e.at';exact⟨⟨h,n,f.get i g,c⟩,e.tidy⟩
def bX.af{n:j->Value}{P:List (j×Value)}(c:bX b a n P)(d:ai b k):bX k a n P:=c.keep d id
def bX.lt{n:j->Value}{d:List (j×Value)}(e:bX b a n d):a<b.heap.size:=by
 obtain⟨g,P,f,c⟩:=e.at';exact az f
def bX.new{n:j->Value}(P:b.heap[a]? =some (.map #[] 0)):bX b a n ([]:List (j×Value)):=
 ⟨⟨_,_,P,rfl,sM,sM⟩,by simp[Tidy]⟩
def nH{n:Type}[BEq n](b:List (n×Value))(P:n)(a:Nat):Option (Nat×Value):=match b with
 |[]=>none
 |(c,d)::e=>if P==c then some (a,d)else nH e P (a+1)
def CI{a:Type}[BEq a][LawfulBEq a]{n:a->Value}{g:TypeDesc}(h:∀i j,Instr.sameNow g (n i) (n j)=some (i==j))(b:a):
  ∀(c:List MapEntry) (d:List (a×Value)) (f:Nat),c.map (λe=>(e.key,e.val))=d.map (λk=>(n k.1,k.2))->Instr.findNow g (n b) c f=some (nH d b f)
 |[],[],_,_=>rfl
 |[],_::_,_,P=>by simp at P
 |_::_,[],_,P=>by simp at P
 |e::c,(l,q)::d,f,P=>by
  simp only[QY,List.cons.injEq,Prod.mk.injEq]at P;obtain⟨⟨m,o⟩,p⟩:=P;unfold Instr.findNow nH;rw[m,h]
  cases r:b==l
  ·simp only[Bool.false_eq_true,if_false]
   exact CI h b c d (f+1) p
  ·simp[o]
def HF[BEq j]{n:j->Value}(a:∀b c,Instr.sameNow f1 (n b) (n c)=none)(d:j)(P:MapEntry)(e:List MapEntry)(f:j)(g:P.key=n f)(h:Nat):Instr.findNow f1 (n d) (P::e) h=none:=by
 unfold Instr.findNow;rw[g,a]
def tS{a:Type}[BEq a]{h:Program}{i:TypeId}{n:a->Value}{b:World}(j:∀k l,(Op.equal i (n k) (n l)).run h b= .ok (k==l) b)(c:a):
  ∀(d:List MapEntry) (f:List (a×Value)) (g:Nat),d.map (λe=>(e.key,e.val))=f.map (λm=>(n m.1,m.2))->(Instr.findAsking i (n c) d g).run h b= .ok (nH f c g) b
 |[],[],_,_=>rfl
 |[],_::_,_,P=>by simp at P
 |_::_,[],_,P=>by simp at P
 |e::d,(o,s)::f,g,P=>by
  simp only[QY,List.cons.injEq,Prod.mk.injEq]at P;obtain⟨⟨p,q⟩,r⟩:=P;unfold Instr.findAsking nH;rw[p];simp only[Sem.run_bind,j,Result.andThen_ok]
  cases t:c==o
  ·simpa using tS j c d f (g+1) r
  ·simp[q]
structure jt {κ:Type} [BEq κ] (P:Program) (kt:TypeId) (enc:κ->Value):Prop where
 find:∀(k:κ) (es:List MapEntry) (l:List (κ×Value)) (w:World),es.map (λe=>(e.key,e.val))=l.map (λp=>(enc p.1,p.2))->(Instr.findKey kt (enc k) es).run P w= .ok (nH l k 0) w
 check:∀k w e,(Instr.checkKey e 10000 kt (enc k)).run P w= .ok () w
 same:∀n a,Instr.sameBits (n+1) (enc a) (enc a)=true
 inj:∀{a b},enc a=enc b->a=b
def jt.flat[BEq j][LawfulBEq j]{n:j->Value}(l:h.underlying g=some f1)(f:∀P a,Instr.sameNow f1 (n P) (n a)=some (P==a))(m:∀i b c d,(Instr.checkKey d (i+1) g (n b)).run h c= .ok () c)(e:∀i P,Instr.sameBits (i+1) (n P) (n P)=true):jt h g n:=
 ⟨λb o p c q=>by simp[Instr.findKey,run_underlying l,CI f b o p 0 q],λb c d=>m 9999 b c d,e,λ{P a} d=>by
  have k:=f P a;rw[d,f a a]at k;simpa using k.symm⟩
def jt.struct[BEq j]{n:j->Value}(o:h.underlying g=some f1)(q:∀P a,Instr.sameNow f1 (n P) (n a)=none)(r:∀P a b,(Op.equal g (n P) (n a)).run h b= .ok (P==a) b)(s:∀e b f,(Instr.checkKey f 10000 g (n e)).run h b= .ok () b)(c:∀t P,Instr.sameBits (t+1) (n P) (n P)=true)(l:∀{P a},n P=n a->P=a):jt h g n:=by
 refine⟨λe i d b k=>?_,s,c,l⟩
 cases i with
 |nil=>
  cases d with
  |nil=>simp[Instr.findKey,run_underlying o,Instr.findNow,nH]
  |cons m d=>simp at k
 |cons f i=>
  cases d with
  |nil=>simp at k
  |cons m d=>
   have p:=k;simp only[QY,List.cons.injEq,Prod.mk.injEq]at p;simp only[Instr.findKey,Sem.run_bind,run_underlying o,Result.andThen_ok,HF q e f i m.1 p.1.1];exact tS (λP a=>r P a b) e (f::i) (m::d) 0 k
def yu[BEq j][LawfulBEq j](P:List (j×Value))(a:j):∀n,(nH P a n).map (·.2)=au P a:=by
 induction P with
 |nil=>intro n;rfl
 |cons b d c=>
  intro n;obtain⟨e,f⟩:=b;unfold nH au;split
  ·rfl
  ·exact c (n+1)
def kK[BEq j][LawfulBEq j]{n:j->Value}(f:jt h g n)(P:j)(a:List MapEntry)(b:List (j×Value))(i:a.map (λd=>(d.key,d.val))=b.map (λe=>(n e.1,e.2)))(c:World):
  (Instr.findKey g (n P) a).run h c= .ok (nH b P 0) c:=by
 exact f.find P a b c i
def dO(n:b.heap[a]? =some (.map f0 c)):(getObj a).run h b= .ok (.map f0 c) b:=by
 simp[getObj,Sem.run,n]
def dU[BEq j][LawfulBEq j]{n:j->Value}(c:jt h g n)(a:Bool)(b:j)(P:World):(Instr.checkKey a 10000 g (n b)).run h P= .ok () P:=by
 exact c.check b P a
def En(P:h.info? g=some f2)(a:f2.zero=some w)(n:World):(zeroValue g).run h n= .ok w n:=by
 simp[zeroValue,typeInfo,P,a]
structure mZ (P:Program) (t kt vt:TypeId) (z:Value):Prop where
 under:P.underlying t=some (.map kt vt)
 zero:(P.info? vt).bind (·.zero)=some z
def mZ.On(b:mZ h g q C w)(P:World):(zeroValue C).run h P= .ok w P:=by
 have n:=b.zero
 cases a:h.info? C with
 |none=>rw[a]at n;cases n
 |some c=>rw[a]at n;exact En a n P
def eR[BEq j][LawfulBEq j]{n:j->Value}(i:mZ h g q C w)(k:jt h q n){P:List (j×Value)}(m:bX b a n P)(c:j)(e:Bool):
  (Instr.lookup g (.map (some a)) (n c) e).run h b= .ok (if e then .tuple #[(au P c).getD w,.bool (au P c).isSome]else(au P c).getD w) b:=by
 obtain⟨o,f,p,r,_⟩:=m.at';have s:=kK k c o.toList P r b;have d:=yu P c 0;simp only[Instr.lookup,Sem.run_bind,run_underlying i.under,Result.andThen_ok,dO p,dU k,s,Sem.run_pure]
 cases l:nH P c 0 with
 |none=>rw[l]at d;simp only[Option.map_none]at d;rw[<-d];cases e<;>simp[i.On]
 |some t=>rw[l]at d;simp only[Option.map_some]at d;rw[<-d];cases e<;>simp
def AF[BEq j][LawfulBEq j]{n:j->Value}(d:mZ h g q C w)(e:jt h q n){c:List (j×Value)}(f:bX b a n c){P:j}(i:m ((au c P).getD w) b):aK h (Instr.lookup g (.map (some a)) (n P) false) b m t:=aK.mk (eR d e f P false) i
def jN[BEq j][LawfulBEq j]{enc:j->Value}(P:mZ h g q C w)(c:jt h q enc){n:List (j×Value)}(d:bX b a enc n){k:j}(e:m (.tuple #[(au n k).getD w,.bool (au n k).isSome]) b):aK h (Instr.lookup g (.map (some a)) (enc k) true) b m t:=aK.mk (eR P c d k true) e
def aj.setObj(n:World)(P:Nat)(a:Obj):aj (·=P) n {n with heap:=n.heap.setIfInBounds P a}:=
 ⟨rfl,rfl,rfl,sM,λc d b=>by simp[Array.getElem?_setIfInBounds,Ne.symm b]⟩
def oL[BEq j][LawfulBEq j]{a:List (j×Value)}{b:j}:∀{n P:Nat} {e:Value},nH a b n=some (P,e)->n<=P/\P-n<a.length/\a[P-n]? =some (b,e)/\∀g,aJ a b g=a.set (P-n) (b,g)/\bR a b=a.eraseIdx (P-n):=by
 induction a with
 |nil=>intro n P e c;simp[nH]at c
 |cons l v m=>
  intro n P e c;obtain⟨o,g⟩:=l;unfold nH at c;split at c
  ·rename_i f
   cases c
   have p:b=o:=by simpa using f
   subst p;simp[aJ,bR]
  ·rename_i f
   obtain⟨w,h,i,k⟩:=m c;obtain⟨d,rfl⟩:∃d,P=n+1+d:=⟨P-(n+1),oM⟩
   have q:n+1+d-n=d+1:=oM
   have r:n+1+d-(n+1)=d:=oM
   rw[r]at h i k;rw[q];refine⟨oM,by simpa using h,by simpa using i,λs=>?_⟩;obtain⟨t,u⟩:=k s;unfold aJ bR;rw[Zq f,Zq f];simp[t,u]
def sF[BEq j][LawfulBEq j]{n:List (j×Value)}{P:j}:∀{b:Nat},nH n P b=none->(∀c,aJ n P c=n++[(P,c)])/\bR n P=n:=by
 induction n with
 |nil=>intro b _;simp[aJ,bR]
 |cons e i f=>
  intro b a;obtain⟨k,c⟩:=e;unfold nH at a;split at a
  ·cases a
  ·rename_i d
   obtain⟨g,h⟩:=f a;refine⟨λl=>?_,?_⟩
   ·unfold aJ;rw[Zq d,g];rfl
   ·unfold bR;rw[Zq d,h]
def map_eraseIdx{b c:Type}(a:b->c):∀(n:List b) (P:Nat),(n.eraseIdx P).map a=(n.map a).eraseIdx P
 |[],_=>by simp
 |x::n,0=>rfl
 |x::n,P+1=>by simp[map_eraseIdx a n P]
def cX(n:World)(P:Nat)(a:Obj)(b:P<n.heap.size):({n with heap:=n.heap.setIfInBounds P a}:World).heap[P]? =some a:=by simp[b]
def eS(P:b.heap[a]? =some (.map f0 c))(n:Obj):(setObj a n).run h b= .ok () {b with heap:=b.heap.setIfInBounds a n}:=by
 simp[setObj,Sem.run,P]
def dG[BEq j][LawfulBEq j]{enc:j->Value}(F:mZ h g q C w)(s:jt h q enc){o:List (j×Value)}(x:bX b a enc o){k:j}(H:∀t,bX t a enc (aJ o k c3)->aj (·=a) b t->t.heap.size=b.heap.size->z t):lX h (Instr.mapUpdate g (.map (some a)) (enc k) c3) b z m:=by
 obtain⟨c,n,p,r,y,I⟩:=x.at';have u:=kK s k c.toList o r b;have N:c.toList.length=o.length:=by have:=Zj List.length r;simpa using this
 have J:=az p
 cases v:nH o k 0 with
 |none=>
  rw[v]at u;refine lX.mk (w':={b with heap:=b.heap.setIfInBounds a (.map (c.push {key:=enc k,val:=c3,born:=n}) (n+1))}) ?_ (H _ ⟨⟨_,_,cX b a _ J,?_,?_,?_⟩,x.tidy.aJ k c3⟩ (aj.setObj b a _) sM)
  ·simp[Instr.mapUpdate,run_underlying F.under,dO p,dU s,u,eS p]
  ·rw[(sF v).1 c3];simp[r]
  ·intro e d
   simp only[Array.toList_push,Q6,List.mem_singleton]at d;rcases d with d|rfl
   ·have:=y e d;omega
   ·show n<n+1;omega
  ·simp only[Array.toList_push,Q3,QY,List.map_nil]
   rw[List.nodup_append];refine⟨I,sM,?_⟩;intro V O W A X;simp only[List.mem_singleton]at A;obtain⟨e,d,rfl⟩:=Xk.1 O;have:=y e d;omega
 |some Q=>
  obtain⟨f,Y⟩:=Q;rw[v]at u;obtain⟨_,K,L,M⟩:=oL v;rw[Nat.sub_zero]at K L M;have B:f<c.size:=by
                 have:c.size=o.length:=by simpa using N
                 omega
  have R:c[f].key=enc k:=by
   have:=Zj (·[f]?) r;simp only[Q9,L,Option.map_some]at this;simp[B]at this;exact this.1
  refine lX.mk (w':={b with heap:=b.heap.setIfInBounds a (.map (c.modify f λe=>{e with key:=enc k,val:=c3}) n)}) ?_ (H _ ⟨⟨_,_,cX b a _ J,?_,?_,?_⟩,x.tidy.aJ k c3⟩ (aj.setObj b a _) sM)
  ·have S:(Instr.keyThatStays (enc k) (enc k)).run h b= .ok (enc k) b:=by simp[Instr.keyThatStays,s.same]
   simp[Instr.mapUpdate,run_underlying F.under,dO p,dU s,u,B,R,S,eS p]
  ·rw[(M c3).1]
   apply X3;intro i;have P:=Zj (·[i]?) r;simp only[Q9]at P;simp only[Array.toList_modify,Q9,Xj,List.getElem?_modify]
   by_cases l:f=i
   ·subst l
    simp[B,K]
   ·simp only[l,if_false,Option.map_map]at P⊢
    simpa using P
  ·intro e d
   rw[Array.toList_modify]at d;obtain⟨i,P⟩:=List.getElem?_of_mem d;rw[List.getElem?_modify]at P
   cases E:c.toList[i]? with
   |none=>rw[E]at P;simp at P
   |some T=>
    rw[E]at P;have U:=QZ E;have:=y T U
    by_cases l:f=i
    ·simp[l]at P;subst P;exact this
    ·simp[l]at P;subst P;exact this
  ·have:(c.modify f λe=>{e with key:=enc k,val:=c3}).toList.map (·.born)=c.toList.map (·.born):=by
    apply X3;intro i;simp only[Array.toList_modify,Q9,List.getElem?_modify,Option.map_map]
    by_cases l:f=i<;>simp[l]<;>rfl
   rw[this];exact I
def Mp[BEq j][LawfulBEq j]{c:j->Value}(v:mZ h g q C w)(r:jt h q c){e:List (j×Value)}(s:bX b a c e){f:j}(x:∀k,bX k a c (bR e f)->aj (·=a) b k->k.heap.size=b.heap.size->m (.tuple #[]) k):aK h (Builtin.delete_ #[g,c1] f7 #[.map (some a),c f]) b m t:=by
 obtain⟨n,P,i,l,y,z⟩:=s.at';have o:=kK r f n.toList e l b;have F:n.toList.length=e.length:=by have:=Zj List.length l;simpa using this
 have A:=az i
 cases p:nH e f 0 with
 |none=>
  rw[p]at o;refine aK.mk (w':={b with heap:=b.heap.setIfInBounds a (.map n P)}) ?_ (x _ ⟨⟨_,_,cX b a _ A,?_,y,z⟩,s.tidy.bR f⟩ (aj.setObj b a _) sM)
  ·simp[Builtin.delete_,run_underlying v.under,dO i,dU r,o,eS i]
  ·rw[(sF p).2];exact l
 |some H=>
  obtain⟨d,I⟩:=H;rw[p]at o;obtain⟨_,J,K,B⟩:=oL p;rw[Nat.sub_zero]at J K B;have u:d<n.size:=by
                 have:n.size=e.length:=by simpa using F
                 omega
  refine aK.mk (w':={b with heap:=b.heap.setIfInBounds a (.map (n.eraseIdxIfInBounds d) P)}) ?_ (x _ ⟨⟨_,_,cX b a _ A,?_,?_,?_⟩,s.tidy.bR f⟩ (aj.setObj b a _) sM)
  ·simp[Builtin.delete_,run_underlying v.under,dO i,dU r,o,eS i]
  ·rw[(B I).2]
   have:(n.eraseIdxIfInBounds d).toList=n.toList.eraseIdx d:=by simp[Array.eraseIdxIfInBounds,u]
   rw[this,map_eraseIdx,l,map_eraseIdx]
  ·intro L E
   have:(n.eraseIdxIfInBounds d).toList=n.toList.eraseIdx d:=by simp[Array.eraseIdxIfInBounds,u]
   rw[this]at E;exact y L (List.mem_of_mem_eraseIdx E)
  ·have:(n.eraseIdxIfInBounds d).toList=n.toList.eraseIdx d:=by simp[Array.eraseIdxIfInBounds,u]
   rw[this,map_eraseIdx];exact z.sublist (List.eraseIdx_sublist _ _)
def Kd[BEq j][LawfulBEq j]{P:j->Value}(e:mZ h g q C w){f:List (j×Value)}(i:bX b a P f)(k:∀c,bX c a P ([]:List (j×Value))->aj (·=a) b c->c.heap.size=b.heap.size->m (.tuple #[]) c):aK h (Builtin.clear_ #[g] c1 #[.map (some a)]) b m t:=by
 obtain⟨o,n,d,p,r,s⟩:=i.at';have l:=az d;refine aK.mk (w':={b with heap:=b.heap.setIfInBounds a (.map #[] n)}) ?_ (k _ ⟨⟨_,_,cX b a _ l,rfl,sM,sM⟩,by simp[Tidy]⟩ (aj.setObj b a _) sM);simp[Builtin.clear_,run_underlying e.under,dO d,eS d]
def Yc(n:h.underlying g=some (.int .i64)):jt h g (Value.int .i64):=
 jt.flat n (λP b=>by simp[Instr.sameNow]) (λa c d e=>by simp[Instr.checkKey,run_underlying n]) λa P=>by simp[Instr.sameBits]

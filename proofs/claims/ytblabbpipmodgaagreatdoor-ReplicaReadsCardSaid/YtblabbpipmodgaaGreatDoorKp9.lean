import Derived.Test.YtblabbpipmodgaaGreatDoorYpCode
import Derived.Maps.AppendAt
import Derived.Below
import Derived.Laws.Strings
import Derived.Laws.OwnMore
import Derived.Laws.MakeOwn
import Derived.Lib.BitFns
import Derived.Lib.ItoaNum
import Derived.Shelf.SlIter.Nil
import Derived.Shelf.SlIterI.Nil
import Derived.Shelf.SortM.Plain
import Derived.Shelf.SortM.SortNone
import Derived.Shelf.Strconv.Itoa3
import Derived.Shelf.Small.Strs
import Derived.Ground.GgzProg
import Derived.Ground.SlgmProg
import Derived.Ground.NamesProg
import Derived.Test.YtblabbpipmodgaaGreatDoorProg
import Derived.Laws.CopyRow
import Derived.Laws.IdiomCopy
set_option maxHeartbeats 4000000
set_option linter.all false
set_option maxRecDepth 100000
open Go.IntKind renaming wrap→XG
namespace Go.Proofs.YtblabbpipmodgaaGreatDoor
open Go.aw
def zN:jC:=⟨[(2,[(5,XH 0),(6,XH 0)])],[],[],[],[]⟩
variable{V p:Array Value}{z:XT}{y:FuncId}{e:Int}{a c:Nat}{d:ZH}{b:World}
def zO(l:(∃f:Nat->Int->Int->XU,(∃c,f c 0 e b)/\∀(c:Nat) (P:Int) (a:Int) (n:Nat->Value) (g:World),f c P a g->an (decide (P<a)) ((∃h i j,(.func (.func y) p V:Value)= .func (.func h) i j/\enters XP h=true/\PC_ h (i++ #[.ii (XG .i64 (je .u64 (XG .u64 (XG .i64 (P+a))) 1))]++j) g (kB λm k=>an (!m) ((∃d,d<c/\f d (XG .i64 ((XG .i64 (je .u64 (XG .u64 (XG .i64 (P+a))) 1))+1)) a k)) ((∃d,d<c/\f d P (XG .i64 (je .u64 (XG .u64 (XG .i64 (P+a))) 1)) k))) (pE z))) (rt z ((.ii P)) g))):ZG 165 #[.ii e,.func (.func y) p V] b z:=DC zN Tryz.func165 rfl l
def BY:jC:=⟨[],[],[],[],[]⟩
def BZ(P:((0:Int)<=(if(a:Int)<(if 0>e then 0 else e)then(a:Int)else(if 0>e then 0 else e))/\((if(a:Int)<(if 0>e then 0 else e)then(a:Int)else(if 0>e then 0 else e)):Int)<=(if(a:Int)<(if 0>e then 0 else e)then(a:Int)else(if 0>e then 0 else e))/\((if(a:Int)<(if 0>e then 0 else e)then(a:Int)else(if 0>e then 0 else e)):Int)<=(c:Int)/\PC_ 238 #[.slice d (Int.toNat (if(a:Int)<(if 0>e then 0 else e)then(a:Int)else(if 0>e then 0 else e))) (Int.toNat (if(a:Int)<(if 0>e then 0 else e)then(a:Int)else(if 0>e then 0 else e)))] b (kS_ λf g h i=>rt z ((.tuple #[.slice f g h,.bool (decide (((if(a:Int)<(if 0>e then 0 else e)then(a:Int)else(if 0>e then 0 else e)):Int)<(a:Int)))])) i) (pE z))):ZG 167 #[.slice d a c,.ii e] b z:=DC BY Tryz.func167 rfl P
def iA:jC:=⟨[(3,[(7,XH 0),(8,XH 0)])],[],[],[],[]⟩
def ix(m:(∃j:Nat->Int->Int->XU,(∃h,j h 0 (a:Int) b)/\∀(h:Nat) (P:Int) (f:Int) (B:Nat->Value) (g:World),j h P f g->an (decide (P<f)) ((dr d λn o=>(0:Int)<=(XG .i64 (je .u64 (XG .u64 (XG .i64 (P+f))) 1))/\(XG .i64 (je .u64 (XG .u64 (XG .i64 (P+f))) 1))<(a:Int)/\(rI g (ad n (o+Int.toNat (XG .i64 (je .u64 (XG .u64 (XG .i64 (P+f))) 1)))) λp=>PC_ 311 #[.ii p,.ii e] g (kB λq k=>an q ((∃i,i<h/\j i (XG .i64 ((XG .i64 (je .u64 (XG .u64 (XG .i64 (P+f))) 1))+1)) f k)) ((∃i,i<h/\j i P (XG .i64 (je .u64 (XG .u64 (XG .i64 (P+f))) 1)) k))) (pE z)))) (an (decide (P<(a:Int))) ((ix_ d P a λr s=>(rI g (ad r (s+Int.toNat P)) λt=>an (t==e) (rt z ((.tuple #[.ii P,.bool true])) g) ((ix_ d P a λu v=>(rI g (ad u (v+Int.toNat P)) λw=>PC_ 312 #[.ii w] g (kB λx l=>an x (PC_ 312 #[.ii e] l (kB λy A=>rt z ((.tuple #[.ii P,.bool y])) A) (pE z)) (rt z ((.tuple #[.ii P,.bool false])) l)) (pE z))))))) (rt z ((.tuple #[.ii P,.bool false])) g)))):ZG 279 #[.slice d a c,.ii e] b z:=DC iA Tryz.func279 rfl m
def lD:jC:=⟨[],[(3,[])],[],[],[]⟩
def lE(m:(∃g:XU,(an (decide ((e:Int)<0)) (aH XP (Instr.panic (.iface 9 (.string (⟨#[99,97,110,110,111,116,32,98,101,32,110,101,103,97,116,105,118,101]⟩:ByteArray)))) b (λu n=>
   g n) (λP b=>z (.panicked [{v:=P,recovered:=false}]) b)) (g b))/\∀(v:Nat->Value) (j:World),g j->aH XP (Builtin.cap_ #[197] 3 #[.slice d a c]) j (λo k=>
   ∃(h:Int),o= XH h/\an (decide (((XG .i64 (e-(XG .i64 (h-((a:Nat):Int))))):Int)>0)) (aH XP (Builtin.cap_ #[197] 3 #[.slice d a c]) k (λp q=>
   ∃(f:Int),p= XH f/\((0:Int)<=f/\(f:Int)<=((c:Nat):Int)/\aH XP (Builtin.append_ #[197,3] 197 #[.slice d (Int.toNat f) c,XH (XG .i64 (e-(XG .i64 (h-((a:Nat):Int)))))]) q (λr s=>
   ∃(l:ZH) (t:Nat) (i:Nat),r= .slice l t i/\((0:Int)<=((a:Nat):Int)/\(((a:Nat):Int):Int)<=((i:Nat):Int)/\
   z (.returned (.slice l (Int.toNat ((a:Nat):Int)) i)) s)) (λP b=>z (.panicked [{v:=P,recovered:=false}]) b))) (λP b=>z (.panicked [{v:=P,recovered:=false}]) b)) (z (.returned (.slice d a c)) k)) (λP b=>
   z (.panicked [{v:=P,recovered:=false}]) b))):
  ZG 315 #[.slice d a c,XH e] b z:=
 qA lD mixed Tryz.func315 rfl (Zv kR) kR (Eq.mp kR m)
def jS:jC:=⟨[(3,[(3,XH 0),(11,XH 0)]),(11,[(6,.slice none 0 0),(27,XH 0)])],[],[],[],[]⟩
def jT(J:(∃m:Nat->Int->Int->XU,(∃i,m i 0 0 b)/\∀(i:Nat) (j:Int) (g:Int) (T:Nat->Value) (k:World),m i j g k->an (decide ((g:Int)<((a:Nat):Int))) ((∃s t,d=some ⟨s,t,none⟩/\
   (0:Int)<=g/\g<((a:Nat):Int)/\(∃(K:ZH) (n:Nat) (L:Nat),k.cell? ⟨s,t+Int.toNat g,none⟩=some (.slice K n L)/\
   an (decide (((XG .i64 (j+((n:Nat):Int))):Int)<0)) (aH XP (Instr.panic (.iface 9 (.string (⟨#[108,101,110,32,111,117,116,32,111,102,32,114,97,110,103,101]⟩:ByteArray)))) k (λU M=>
   (∃l,l<i/\m l (XG .i64 (j+((n:Nat):Int))) (XG .i64 (g+1)) M)) (λq b=>z (.panicked [{v:=q,recovered:=false}]) b)) ((∃l,l<i/\
   m l (XG .i64 (j+((n:Nat):Int))) (XG .i64 (g+1)) k))))) (PC XP 315 #[.slice none 0 0,XH j] k (λN O=>
   ∃(u:ZH) (v:Nat) (w:Nat),N= .slice u v w/\(∃r:Nat->ZH->Nat->Nat->Int->XU,(∃o,r o u v w 0 O)/\
   ∀(o:Nat) (P:ZH) (e:Nat) (f:Nat) (h:Int) (V:Nat->Value) (p:World),r o P e f h p->an (decide ((h:Int)<((a:Nat):Int))) ((∃x y,d=some ⟨x,y,none⟩/\
   (0:Int)<=h/\h<((a:Nat):Int)/\(∃(A:ZH) (B:Nat) (C:Nat),p.cell? ⟨x,y+Int.toNat h,none⟩=some (.slice A B C)/\
   aH XP (Builtin.append_ #[197,197] 197 #[.slice P e f,.slice A B C]) p (λQ R=>∃(E:ZH) (F:Nat) (H:Nat),Q= .slice E F H/\
   (∃I,I<o/\r I E F H (XG .i64 (h+1)) R)) (λq b=>z (.panicked [{v:=q,recovered:=false}]) b)))) (z (.returned (.slice P e f)) p))) (λS b=>
   z (.panicked S) b)))):
  ZG 283 #[.slice d a c] b z:=
 qA jS mixed Tryz.func283 rfl (Zv kR) kR (Eq.mp kR J)
end Go.Proofs.YtblabbpipmodgaaGreatDoor
namespace Go.aw
open Go
abbrev ai(P a:World):Prop:=ak (λ_=>False) P a
variable{d0:Addr}{e8:Array MapEntry}{p:Array Value}{y:FuncId}{e:Int}{t:List Int}{a3:List PanicEntry->XU}{F a c i n:Nat}{a4 f:XN}{E:Nat×Nat}{c8:Obj}{Q W:Operand}{d:ZH}{c9:Option Nat}{h:Program}{B g o:TypeId}{l s:XR}{a8 b k:World}{x:XU}
def ak.refl(P:World):ak f P P:=⟨rfl,rfl,rfl,Q4 _,λ_ _ _=>rfl⟩
def ak.trans{e g h:XN}(a:ak g b k)(P:ak h k a8)(j:∀P,P<b.heap.size->g P->e P)(l:∀P,P<b.heap.size->h P->e P):ak e b a8:=
 ⟨P.os.trans a.os,P.tape.trans a.tape,P.output.trans a.output,Xx a.size P.size,λc d i=>
  (P.block c (Qk d a.size) (λf=>i (l c d f))).trans (a.block c d (λf=>i (j c d f)))⟩
def ak.mono(a:ak f b k)(d:∀P,P<b.heap.size->f P->a4 P):ak a4 b k:=
 ⟨a.os,a.tape,a.output,a.size,λP c e=>a.block P c λg=>e (d P c g)⟩
def ak.then(P:ak f b k)(a:ak f k a8):ak f b a8:=P.trans a (λ_ _ P=>P) (λ_ _ P=>P)
def ak.new(a:ak f b k)(P:ak a4 k a8)(c:∀P,a4 P->f P\/b.heap.size<=P):ak f b a8:=
 a.trans P (λ_ _ a=>a) (λd g e=>(c d e).resolve_right oM)
def ak.ah(P:ak f b k)(a:ai k a8):ak f b a8:=P.trans a (λ_ _ P=>P) (λ_ _ P=>P.elim)
def ai.af{S:XN}(P:ai b k):ak S b k:=P.mono λ_ _ P=>P.elim
def ak.alloc{c:XN}(P:World)(a:Obj):ak c P (P.alloc a):=
 ⟨rfl,rfl,rfl,sM,λd b _=>by first|exact heap_alloc_old P a d b|exact heap_alloc_old P a b⟩
def ak.drewN{S:XN}(P:World)(a:Nat):ak S P (P.drewN a):=⟨rfl,rfl,rfl,Q4 _,λ_ _ _=>rfl⟩
def bQ.af{S:XN}(P:bQ b k):ak S b k:=by obtain⟨a,rfl⟩:=P;exact ak.drewN b a
def bQ.heap(P:bQ b k):k.heap=b.heap:=by obtain⟨a,rfl⟩:=P;rfl
def ak.setCell(P:World)(a:Addr)(b:Value)(c:f a.block):ak f P (P.setCell a b):=
 ⟨rfl,rfl,rfl,by simp[World.setCell],λe _ d=>by
  simp only[World.setCell,Array.getElem?_modify];rw[Zq (by rintro rfl;exact d c)]⟩
def ak.below(P:ai b k):RowKit.Below b.heap.size b k:=⟨P.os,P.tape,P.output,P.size,λa c=>P.block a c (λP=>P)⟩
def ak.Gi(P:RowKit.Below b.heap.size b k):ai b k:=⟨P.os,P.tape,P.output,P.size,λa c _=>P.block a c⟩
def ak.of_grownBy(P:b.grownBy k c9):ak (λa=>some a=c9) b k:=⟨P.os,P.tape,P.output,P.size,λa c d=>P.block a c d⟩
def ak.cell(P:ak f b k){a:Addr}(c:a.block<b.heap.size)(j:¬f a.block):k.cell? a=b.cell? a:=
 World.cell?_of_block (w:=b) (P.block a.block c j)
def ak.get(c:ak f b k)(P:b.heap[a]? =some c8)(d:¬f a):k.heap[a]? =some c8:=by
 rw[c.block a (Q5.1 P).1 d];exact P
def ay(P:b.heap[a]? =some c8):a<b.heap.size:=(Q5.1 P).1
def ae{cs:Array Value}(P:b.heap[a]? =some (Obj.cells cs g E)){off:Nat}{v:Value}(c:cs[off]? =some v):
  b.cell? ⟨a,off,none⟩=some v:=by simp[World.cell?,P,c]
def PA.mk(a:∀P,ai b P->P.heap.size=b.heap.size+1->P.heap[b.heap.size]? =some c8->x P):PA b c8 x:=
 a (b.alloc c8) (ak.alloc b c8) sM (heap_alloc_new b c8)
def PS.mk{v:Value}{cs:Array Value}(d:b.heap[a]? =some (.cells cs g (0,0)))(e:c<cs.size)(f:∀P,ak (·=a) b P->P.heap.size=b.heap.size->P.heap[a]? =some (.cells (cs.setIfInBounds c v) g (0,0))->x P):PS b ⟨a,c,none⟩ v x:=by
 refine⟨⟨cs[c],ae d (by simp[e])⟩,by simp[World.frozen?,d],f _ (ak.setCell b _ v rfl) (by simp[World.setCell]) ?_⟩;simp[World.setCell,Array.getElem?_modify,d]
def Ok(a:XR):XT:=λb c=>∃P,b= .returned P/\a P c
def Ok.mk{v:Value}(P:l v b):Ok l (.returned v) b:=⟨v,rfl,P⟩
def PC.ok{φ c:XR}(d:Calls h y p b (Ok φ))(e:∀P a,φ P a->c P a):PC h y p b c a3:=
 d.mono λi a ⟨P,f,g⟩=>by subst f;exact e P a g
def Calls.ok{φ c:XR}(d:Calls h y p b (Ok φ))(e:∀P a,φ P a->c P a):Calls h y p b (Ok c):=
 d.mono λi a ⟨P,f,g⟩=>⟨P,f,e P a g⟩
def aN(P:Int):Prop:= -9223372036854775808<=P/\P<=9223372036854775807
theorem bb{p:Prop}(h:p:=by unfold aN;omega):p:=h
def wrap_i64{x:Int}(P:aN x):XG .i64 x=x:=by
 unfold aN at P;unfold XG;simp[IntKind.signed,IntKind.bits];omega
def aO:Nat:=140737488355328
theorem ba{p:Prop}(h:p:=by unfold aO;omega):p:=h
structure Ints (w:World) (a:ZH) (n:Nat) (xs:List Int):Prop where
 len:n=xs.length
 dB:n*8<=aO
 IL:∀x∈xs,aN x
 cell:∀(i:Nat) x,xs[i]? =some x->∃b off,a=some ⟨b,off,none⟩/\b<w.heap.size/\w.cell? ⟨b,off+i,none⟩=some (XH x)
def nV(a:XN)(b:ZH):Prop:=∀P,b=some P->¬a P.block
def nV.none:nV f Option.none:=λ_ P=>by cases P
def Ints.af{S:XN}{a:ZH}{e:Nat}(c:Ints b a e t)(f:ak S b k)(i:nV S a):Ints k a e t:=
 ⟨c.len,c.dB,c.IL,λg j l=>by
  obtain⟨d,P,rfl,h,m⟩:=c.cell g j l;exact⟨d,P,rfl,Qk h f.size,(f.cell (a:=⟨d,P+g,none⟩) h (i ⟨d,P,none⟩ rfl)).trans m⟩⟩
def Ints.ah(P:Ints b d a t)(c:ai b k):Ints k d a t:=P.af c λ_ _ P=>P
def Ints.nil(P:World):Ints P none 0 []:=⟨rfl,by simp[aO],sM,λb c a=>by simp at a⟩
def Ints.at(e:Ints b d a t){i:Int}(k:0<=i)(l:i<(a:Int)):
  ∃c P x,d=some ⟨c,P,none⟩/\c<b.heap.size/\t[i.toNat]? =some x/\aN x/\b.cell? ⟨c,P+i.toNat,none⟩=some (XH x):=by
 have m:=e.len;have f:i.toNat<t.length:=oM
 obtain⟨c,P,g,h,j⟩:=e.cell i.toNat t[i.toNat] (by simp[f]);exact⟨c,P,_,g,h,by simp[f],e.IL _ (XY f),j⟩
def aI:ZH->Option Nat
 |none=>none
 |some P=>some P.block
def Ints.Gj(P:Ints b d a t)(e:ak f b k)(g:t≠[]->nV f d):Ints k d a t:=by
 by_cases c:t=[]
 ·subst c;exact⟨P.len,P.dB,P.IL,λi j h=>by simp at h⟩
 ·exact P.af e (g c)
def dh:nV f d↔∀P,aI d=some P->¬f P:=by
 cases d with
 |none=>simp[nV,aI]
 |some d=>simp[nV,aI]
structure Own (w:World) (e:TypeId) (k:Nat) (a:ZH) (n c:Nat) (cs:List Value):Prop where
 row:w.ownsRow 0 e k (.slice a n c) n cs
def Own.nil(P:World)(e:TypeId)(a:Nat):Own P e a none 0 0 []:=⟨World.ownsRow_nil P 0 e a⟩
def Own.length{cs:List Value}(P:Own b g a d c i cs):cs.length=c*a:=P.row.1
def Own.cases{cs:List Value}(h:Own b g a d c i cs):
  (d=none/\c=0/\i=0/\cs=[])\/
  ∃f P,d=XM f/\b.heap[f]? =some (.cells P g (0,0))/\c<=i/\P.size=i*a/\P.toList.take (c*a)=cs:=by
 rcases h.row.2 with⟨e,o⟩|⟨f,j,P,e,_,k,l,_,m,n⟩
 ·simp only[XX]at e
  obtain⟨rfl,rfl,rfl⟩:=e;exact .inl ⟨rfl,rfl,rfl,QW (by simpa using h.row.1)⟩
 ·simp only[XX]at e
  obtain⟨rfl,-,rfl⟩:=e;exact .inr ⟨f,P,rfl,k,l,m,n⟩
def Own.af{S:XN}{cs:List Value}(j:Own b g a d c i cs)(l:ak S b k)(m:nV S d):Own k g a d c i cs:=by
 refine⟨⟨j.row.1,?_⟩⟩;rcases j.row.2 with n|⟨o,e,f,h,p,q,P⟩
 ·exact .inl n
 ·refine .inr ⟨o,e,f,h,p,l.get q ?_,P⟩
  simp only[XX]at h;exact m _ h.1
def Own.ah{cs:List Value}(P:Own b g a d c i cs)(e:ai b k):Own k g a d c i cs:=P.af e λ_ _ P=>P
def Own.lt{cs:List Value}(e:Own b g a d c i cs)(P:aI d=some n):n<b.heap.size:=by
 rcases e.cases with⟨rfl,_⟩|⟨j,f,rfl,h,_⟩
 ·cases P
 ·simp only[aI,Q1]at P
  subst P;exact ay h
def Own.cell{c:World}{e:TypeId}{f:Nat}{a:ZH}{g h:Nat}{cs:List Value}(i:Own c e f a g h cs){j:Nat}{u:Value}(P:cs[j]? =some u):
  ∃b,a=XM b/\b<c.heap.size/\c.cell? ⟨b,j,none⟩=some u:=by
 rcases i.cases with⟨_,_,_,rfl⟩|⟨b,k,rfl,d,_,_,l⟩
 ·simp at P
 ·refine⟨b,rfl,ay d,ae d ?_⟩
  rw[<-l,Xw]at P;split at P
  ·simpa using P
  ·cases P
def Own.yS{cur:Array Value}(d:b.heap[c]? =some (.cells cur g (0,0)))(P:cur.size=i*a)(e:i<=maxLen):
  Own b g a (XM c) i i cur.toList:=
 ⟨⟨by simpa using P,.inr ⟨c,i,cur,rfl,Qj _,d,Q4 _,e,P,by rw[Qz];simp[P]⟩⟩⟩
structure iH (P:Program) (t e:TypeId) (k bytes:Nat):Prop where
 under:P.underlying t=some (.slice e)
 row:(P.info? e).map (λi=>(i.zero.map λz=>z.cells.size,i.size,i.bytes))=some (some k,k,bytes)
 pos:0<k
def iH.info{c:Program}{h d:TypeId}{e bytes:Nat}(i:iH c h d e bytes):∃a b,c.info? d=some a/\a.zero=some b/\a.size=e/\a.bytes=bytes/\b.cells.size=e:=by
 have P:=i.row
 cases g:c.info? d with
 |none=>rw[g]at P;cases P
 |some a=>
  rw[g]at P;simp only[Option.map_some,Q1,Prod.mk.injEq]at P
  cases f:a.zero with
  |none=>rw[f]at P;cases P.1
  |some b=>
   rw[f]at P;exact⟨a,b,rfl,f,P.2.1,P.2.2,by simpa using P.1⟩
def D_{P:Program}{h bytes:Nat}(p:iH P g o h bytes){q news:List Value}(x:Own b o h d a c q)(y:∀k m,news[k]? =some m->b.cell? (d0.add k)=some m)(z:news.length=i*h)(A:∀m∈news,m.oneCell'=true)(C:(a+i)*bytes<=aO)(E:a+i<=maxLen)(F:∀e f j,Own j o h e (a+i) f (q++news)->ak (λk=>some k=aI d) b j->(aI e=aI d\/aI e=some b.heap.size)->l (.slice e (a+i) f) j):
  aH P (Builtin.append_ #[g,g] B #[.slice d a c,.slice (some d0) i n]) b l s:=by
 obtain⟨H,I,J,K,L,M,N⟩:=iH.info p;obtain⟨O,j,Q,r,t,U,u⟩:=run_append_own_at (P:=P) b 0 g B o H I h bytes p.under J K L M N p.pos (.slice d a c) a q x.row
  d0 i n news z y A E C (Qj _)
 have R:∀(d:ZH) a c,(Value.slice d a c).ownBlock=aI d:=λd a c=>by cases d<;>rfl
 have S:∃e f,O= .slice e (a+i) f:=by
  rcases r.2 with⟨rfl,T⟩|⟨V,v,w,rfl,_⟩
  ·exact⟨none,0,by rw[T]⟩
  ·exact⟨_,_,rfl⟩
 obtain⟨e,f,rfl⟩:=S;simp only[R]at t u;exact aH.mk Q (F e f j ⟨r⟩ (ak.of_grownBy t) u)
def yw{P bytes:Nat}(t:iH h g o P bytes){k news:List Value}(u:Own b o P d a c k)(v:b.heap[i]? =some (.cells p o E))(w:p.toList.take (n*P)=news)(x:news.length=n*P)(y:∀m∈news,m.oneCell'=true)(z:(a+n)*bytes<=aO)(A:a+n<=maxLen)(C:∀e q j,Own j o P e (a+n) q (k++news)->ak (λr=>some r=aI d) b j->(aI e=aI d\/aI e=some b.heap.size)->l (.slice e (a+n) q) j):
  aH h (Builtin.append_ #[g,g] B #[.slice d a c,.slice (XM i) n F]) b l s:=by
 exact D_ t u (λr m f=>by
   rw[Addr.add_lit,Xz];refine ae v ?_;rw[<-w,Xw]at f;split at f
   ·simpa using f
   ·cases f) x y z A C
def ints(P:List Int):List Value:=P.map (Value.int .i64)
def iI(P:List Int):(ints P).length=P.length:=by simp[ints]
def Own.ints(e:Own b g 1 d a c (ints t))(h:a*8<=aO)(i:∀P∈t,aN P):Ints b d a t:=by
 have f:=e.length;rw[iI,Nat.mul_one]at f;refine⟨f.symm,h,i,λj P k=>?_⟩;obtain⟨l,m,n,o⟩:=e.cell (j:=j) (u:=XH P) (by simp[aw.ints,k]);exact⟨l,0,m,n,by rw[Xz];exact o⟩
def KP(m:iH h g o 1 8)(n:Own b o 1 d a c (ints t))(p:b.heap[i]? =some (.cells #[XH e] o (0,0)))(k:(a+1)*8<=aO)(q:∀P j f,Own f o 1 P (a+1) j (ints (t++[e]))->ak (λr=>some r=aI d) b f->(aI P=aI d\/aI P=some b.heap.size)->l (.slice P (a+1) j) f):
  aH h (Builtin.append_ #[g,g] B #[.slice d a c,.slice (XM i) 1 1]) b l s:=
 yw m (news:=[XH e]) n p sM sM (by simp[Value.oneCell']) k (by unfold aO at k;unfold maxLen;omega)
  λP j f u v w=>q P j f (by simpa[ints]using u) v w
def BB(b:h.underlying g=some (.slice o))(c:Nat)(P:ZH)(d e:Nat)(a:World):
  (Op.equalIn (c+1) g (.slice P d e) (.slice none 0 0)).run h a= .ok P.isNone a:=by
 cases P<;>simp[Op.equalIn,run_underlying b]
def wG(b:h.underlying g=some (.pointer o))(c:Nat)(P:ZH)(a:World):
  (Op.equalIn (c+1) g (.pointer P) (.pointer none)).run h a= .ok P.isNone a:=by
 cases P<;>simp[Op.equalIn,run_underlying b]
def jA(P:h.underlying g=some (.slice o))(e:l (.bool d.isNone) b):
  aH h (do eqGuard .eql g Q W (.slice d a c) (.slice none 0 0);binOp .eql g (.slice d a c) (.slice none 0 0)) b l s:=by
 refine aH.mk (v:=.bool d.isNone) ?_ e;have f:(do eqGuard .eql g Q W (.slice d a c) (.slice none 0 0);binOp .eql g (.slice d a c) (.slice none 0 0):Sem Value).run h b=
  ((Op.equalIn (9999+1) g (.slice d a c) (.slice none 0 0))>>=λi=>(pure (Value.bool i):Sem Value)).run h b:=rfl
 rw[f,Sem.run_bind,BB P]
 rfl
def fm(P:h.underlying g=some (.pointer o))(a:l (.bool d.isNone) b):
  aH h (do eqGuard .eql g Q W (.pointer d) (.pointer none);binOp .eql g (.pointer d) (.pointer none)) b l s:=by
 refine aH.mk (v:=.bool d.isNone) ?_ a;have c:(do eqGuard .eql g Q W (.pointer d) (.pointer none);binOp .eql g (.pointer d) (.pointer none):Sem Value).run h b=
  ((Op.equalIn (9999+1) g (.pointer d) (.pointer none))>>=λe=>(pure (Value.bool e):Sem Value)).run h b:=rfl
 rw[c,Sem.run_bind,wG P]
 rfl
def oU(d:h.underlying g=some (.pointer o))(b c:Operand)(P:ZH)(a:World):
  (do eqGuard .neq g b c (.pointer P) (.pointer none);binOp .neq g (.pointer P) (.pointer none):Sem Value).run h a= .ok (.bool P.isSome) a:=by
 have e:(do eqGuard .neq g b c (.pointer P) (.pointer none);binOp .neq g (.pointer P) (.pointer none):Sem Value).run h a=
  ((Op.equalIn (9999+1) g (.pointer P) (.pointer none))>>=λf=>(pure (Value.bool !f):Sem Value)).run h a:=rfl
 rw[e,Sem.run_bind,wG d]
 cases P<;>rfl
def yT(P:h.underlying g=some (.pointer o))(a:l (.bool d.isSome) b):
  aH h (do eqGuard .neq g Q W (.pointer d) (.pointer none);binOp .neq g (.pointer d) (.pointer none)) b l s:=aH.mk (oU P Q W d b) a
def Own.SC{cs:List Value}(f:Own b g a d c i cs)(e:b.heap[n]? =some (.map e8 F)):aI d≠some n:=by
 intro P;rcases f.cases with⟨rfl,_⟩|⟨k,h,rfl,j,_⟩
 ·cases P
 ·simp only[aI,Q1]at P
  subst P;rw[j]at e;cases e
structure cK (F:XN) (w:World) (F':XN) (w':World):Prop where
 af:ak F w w'
 new:∀b,F' b->F b\/w.heap.size<=b
def cK.refl(a:XN)(P:World):cK a P a P:=⟨ak.refl P,λ_ b=>.inl b⟩
def cK.trans{c G d:XN}{e f g:World}(P:cK c e G f)(h:cK G f d g):cK c e d g:=
 ⟨P.af.trans h.af (λ_ _ P=>P) (λa i j=>(P.new a j).resolve_right oM),λa i=>by
  rcases h.new a i with b|b
  ·exact P.new a b
  ·exact .inr (Xx P.af.size b)⟩
def cK.left{d G e:XN}(f:cK d b e k):cK (λP=>d P\/G P) b (λP=>e P\/G P) k:=⟨f.af.mono λP _ a=>.inl a,λP a=>a.elim (λc=>(f.new P c).imp .inl id) λc=>.inl (.inr c)⟩
def cK.right{d G e:XN}(f:cK G b e k):cK (λP=>d P\/G P) b (λP=>d P\/e P) k:=⟨f.af.mono λP _ a=>.inr a,λP a=>a.elim (λc=>.inl (.inl c)) λc=>(f.new P c).imp .inr id⟩
end Go.aw
namespace Go.aw
open Go
variable{d0:Addr}{p:Array Value}{K:Bool}{c7 v:ByteArray}{e q:Int}{a2:List Value}{a c i n:Nat}{f:XN}{E:Nat×Nat}{d r:ZH}{h:Program}{L a6:Prop}{j:Type}{B g o:TypeId}{l s:XR}{a8 b k:World}
def an.dec[Decidable L]{a b:Prop}(c:L->a)(d:¬L->b):an (decide L) a b:=
 an.mk (λP=>c (XV P)) (λP=>d (Xy P))
def an.dI(a:e≠q->L)(b:e=q->a6):an (e !=q) L a6:=
 an.mk (λP=>a (by simpa using P)) (λP=>b (by simpa using P))
def an.dO(a:e=q->L)(b:e≠q->a6):an (e==q) L a6:=
 an.mk (λP=>a (by simpa using P)) (λP=>b (by simpa using P))
def an.not(P:an K a6 L):an (!K) L a6:=by cases K<;>exact P
def Nd(a:v.toList=c7.toList):v=c7:=by
 have b:∀P:ByteArray,P.toList=P.data.toList:=λP=>ByteArray.toList_eq P;rw[b,b]at a;exact ByteArray.ext (Array.toList_inj.1 a)
def an.Vi(a:v=c7->L)(b:v≠c7->a6):an (ByteArray.toList v==ByteArray.toList c7) L a6:=
 an.mk (λP=>a (Nd (by simpa using P))) (λP=>b (λc=>by subst c;simp at P))
def an.Wg(P:v≠c7->L)(a:v=c7->a6):an (!(ByteArray.toList v==ByteArray.toList c7)) L a6:=(an.Vi a P).not
def aq(P:a<4611686018427387904):XG .i64 ((a:Int)+1)=((a+1:Nat):Int):=by
 rw[wrap_i64 bb];simp
def bQ.then(P:bQ b k)(a:bQ k a8):bQ b a8:=by obtain⟨c,rfl⟩:=P;obtain⟨d,rfl⟩:=a;exact⟨c+d,sM⟩
def bQ.refl(P:World):bQ P P:=⟨0,rfl⟩
def C_{P b:List j}{c:j}(d:P.take a=b.take a)(e:P[a]? =some c)(f:b[a]? =some c):P.take (a+1)=b.take (a+1):=by
 rw[Qw,Qw,d,e,f]
structure ju (α:Type) where
 k:Nat
 rep:World->(XN)->α->List Value->Prop
 af:∀{S D:XN} {w w':World} {x:α} {cs:List Value},rep w D x cs->ak S w w'->(∀b,D b->¬S b)->rep w' D x cs
 mono:∀{D D':XN} {w:World} {x:α} {cs:List Value},rep w D x cs->(∀b,D b->D' b)->rep w D' x cs
 len:∀{D:XN} {w:World} {x:α} {cs:List Value},rep w D x cs->cs.length=k
 one:∀{D:XN} {w:World} {x:α} {cs:List Value},rep w D x cs->∀u∈cs,u.oneCell'=true
def flat{c:Type}(d:Nat)(P:c->List Value)(e:c->Prop)(f:∀b,(P b).length=d)(g:∀b,∀h∈P b,h.oneCell'=true):ju c where
 k:=d
 rep:=λ_ _ b cs=>cs=P b/\e b
 af:=λa _ _=>a
 mono:=λa _=>a
 len:=λa=>by rw[a.1];exact f _
 one:=λa=>by rw[a.1];exact g _
def aM:ju Int:=flat 1 (λP=>[XH P]) aN (λ_=>rfl) (λP b a=>by simp at a;subst a;rfl)
def fz:ju UInt8:=flat 1 (λP=>[.int .u8 P.toNat]) (λ_=>True) (λ_=>rfl) (λP b a=>by simp at a;subst a;rfl)
def Mu:ju ByteArray:=flat 1 (λP=>[.string P]) (λ_=>True) (λ_=>rfl) (λP b a=>by simp at a;subst a;rfl)
structure Row {α:Type} (c:ju α) (bytes:Nat) (w:World) (D:XN) (a:ZH) (n:Nat) (xs:List α):Prop where
 len:n=xs.length
 dB:n*bytes<=aO
 el:∀(i:Nat) x,xs[i]? =some x->∃b off es,a=some ⟨b,off,none⟩/\b<w.heap.size/\D b/\(∀j,j<c.k->w.cell? ⟨b,off+i*c.k+j,none⟩=es[j]?)/\c.rep w D x es
section
variable {α:Type} {c:ju α} {bytes:Nat} {w w':World} {D D' S:XN} {a:ZH} {n:Nat} {xs:List α}
def Row.af(d:Row c bytes w D a n xs)(e:ak S w w')(f:∀P,D P->¬S P):Row c bytes w' D a n xs:=
 ⟨d.len,d.dB,λg k l=>by
  obtain⟨P,b,m,o,h,i,p,q⟩:=d.el g k l;exact⟨P,b,m,o,Qk h e.size,i,λj r=>(e.cell (a:=⟨P,b+g*c.k+j,none⟩) h (f P i)).trans (p j r),c.af q e f⟩⟩
def Row.ah(P:Row c bytes w D a n xs)(b:ai w w'):Row c bytes w' D a n xs:=P.af b λ_ _ P=>P
def Row.mono(b:Row c bytes w D a n xs)(e:∀P,D P->D' P):Row c bytes w D' a n xs:=
 ⟨b.len,b.dB,λf g h=>by
  obtain⟨P,d,i,j,k,l,m,o⟩:=b.el f g h;exact⟨P,d,i,j,k,e P l,m,c.mono o e⟩⟩
def Row.nil(w:World)(D:XN):Row c bytes w D none 0 []:=⟨rfl,sM,λa b P=>by simp at P⟩
def Row.at(f:Row c bytes w D a n xs){i:Int}(o:0<=i)(p:i<(n:Int)):
  ∃b P x d,a=some ⟨b,P,none⟩/\b<w.heap.size/\D b/\xs[i.toNat]? =some x/\(∀e,e<c.k->w.cell? ⟨b,P+i.toNat*c.k+e,none⟩=d[e]?)/\c.rep w D x d:=by
 have q:=f.len;have g:i.toNat<xs.length:=oM
 obtain⟨b,P,d,h,j,k,l,m⟩:=f.el i.toNat xs[i.toNat] (by simp[g]);exact⟨b,P,_,d,h,j,k,by simp[g],l,m⟩
def Row.wK(g:Row c bytes w D a n xs){i:Nat}(h:i<n):
  ∃b P e f,a=some ⟨b,P,none⟩/\b<w.heap.size/\D b/\xs[i]? =some e/\(∀d,d<c.k->w.cell? ⟨b,P+i*c.k+d,none⟩=f[d]?)/\c.rep w D e f:=by
 have:=g.at (i:=(i:Int)) oM oM;simpa using this
end
def Row.lu{e:j->Value}{g:j->Prop}{hl h1}{bytes:Nat}{D:XN}{h:List j}(k:Row (flat 1 (λc=>[e c]) g hl h1) bytes b D d a h){i:Nat}(l:i<a):
  ∃f P c,d=some ⟨f,P,none⟩/\h[i]? =some c/\g c/\b.cell? ⟨f,P+i,none⟩=some (e c):=by
 obtain⟨f,P,c,q,m,r,_,n,o,rfl,p⟩:=k.wK l;refine⟨f,P,c,m,n,p,?_⟩;have:=o 0 Nat.one_pos;simpa[flat]using this
def bJ{P:Type}(a:ju P)(b:World)(D:XN):List P->List Value->Prop
 |[],cs=>cs=[]
 |x::e,cs=>∃c d,cs=c++d/\a.rep b D x c/\bJ a b D e d
section
variable {α:Type} {c:ju α} {w w':World} {D D' S:XN}
def bJ.af(a:ak S w w')(b:∀d,D d->¬S d):∀{P:List α} {cs:List Value},bJ c w D P cs->bJ c w' D P cs
 |[],_,e=>e
 |x::P,_,⟨f,g,h,i,j⟩=>⟨f,g,h,c.af i a b,bJ.af a b j⟩
def bJ.mono(a:∀b,D b->D' b):∀{P:List α} {cs:List Value},bJ c w D P cs->bJ c w D' P cs
 |[],_,d=>d
 |x::P,_,⟨e,f,g,h,i⟩=>⟨e,f,g,c.mono h a,bJ.mono a i⟩
def bJ.append:∀{xs a:List α} {cs P:List Value},bJ c w D xs cs->bJ c w D a P->bJ c w D (xs++a) (cs++P)
 |[],a,_,P,d,b=>by cases d;exact b
 |x::xs,a,_,P,⟨e,f,g,h,i⟩,b=>⟨e,f++P,by rw[g,XQ],h,bJ.append i b⟩
def bJ.one{x:α}(P:c.rep w D x a2):bJ c w D [x] a2:=⟨a2,[],sM,P,rfl⟩
def bJ.length:∀{P:List α} {cs:List Value},bJ c w D P cs->cs.length=P.length*c.k
 |[],_,a=>by cases a;simp
 |x::P,_,⟨f,g,b,d,e⟩=>by
  rw[b,QX,c.len d,bJ.length e,Xq,X7,Nat.one_mul,Nat.add_comm]
def bJ.OQ:∀{b:List α} {cs:List Value},bJ c w D b cs->∀a∈cs,a.oneCell'=true
 |[],_,d,a,P=>by cases d;simp at P
 |x::b,_,⟨h,i,e,f,g⟩,a,P=>by
  rw[e]at P;rcases Q6.1 P with P|P
  ·exact c.one f a P
  ·exact bJ.OQ g a P
def bJ.at:∀{d:List α} {cs:List Value},bJ c w D d cs->∀{i:Nat} {x:α},d[i]? =some x->∃b,(∀P,P<c.k->cs[i*c.k+P]? =b[P]?)/\c.rep w D x b
 |[],_,m,i,x,a=>by simp at a
 |y::d,_,⟨b,n,e,f,h⟩,i,x,a=>by
  have o:=c.len f
  cases i with
  |zero=>
   simp at a;subst a;refine⟨b,λP g=>?_,f⟩;rw[e,Nat.zero_mul,Xz,XW oM]
  |succ i=>
   obtain⟨j,k,l⟩:=bJ.at h (i:=i) (x:=x) (by simpa using a);refine⟨j,λP g=>?_,l⟩;rw[e,X7,Nat.one_mul,X8 oM,<-k P g]
   congr 1
   omega
def bJ.take:∀{P:List α} {cs:List Value},bJ c w D P cs->∀(m:Nat),bJ c w D (P.take m) (cs.take (m*c.k))
 |[],_,b,m=>by cases b;simp[bJ]
 |x::P,_,⟨d,e,f,a,g⟩,m=>by
  have h:=c.len a
  cases m with
  |zero=>simp[bJ]
  |succ m=>
   refine⟨d,e.take (m*c.k),?_,a,bJ.take g m⟩;rw[f,X7,Nat.one_mul,Nat.add_comm,List.take_append,h,Qz oM]
   congr 2
   omega
def Row.br{bytes:Nat}{i:List α}(v:Row c bytes w D d a i):∃cs,bJ c w D i cs/\(i≠[]->0<c.k->∃b P,d=some ⟨b,P,none⟩/\b<w.heap.size/\D b/\∀e f,cs[e]? =some f->w.cell? ⟨b,P+e,none⟩=some f):=by
 have l:∀(m:List α) (g:Nat),(∀j k,m[j]? =some k->i[g+j]? =some k)->∃cs,bJ c w D m cs/\∀b P,d=some ⟨b,P,none⟩->0<c.k->∀e f,cs[e]? =some f->w.cell? ⟨b,P+g*c.k+e,none⟩=some f:=by
  intro m
  induction m with
  |nil=>intro g _;exact⟨[],rfl,λb P _ _ e f h=>by simp at h⟩
  |cons x m F=>
   intro g y;obtain⟨z,q,r⟩:=F (g+1) (λj k s=>by have:=y (j+1) k (by simpa using s);rw[show g+1+j=g+(j+1) by omega];exact this);obtain⟨b,P,p,n,A,B,C,t⟩:=v.el g x (y 0 x rfl);refine⟨p++z,⟨p,z,rfl,t,q⟩,λJ E o u e f h=>?_⟩;rw[n]at o;cases o
   have K:=c.len t
   by_cases H:e<c.k
   ·rw[XW oM]at h
    rw[<-h];exact C e H
   ·rw[X8 oM]at h
    have:=r b P n u (e-p.length) f h;rw[<-this]
    congr 2
    rw[X7];omega
 obtain⟨cs,q,r⟩:=l i 0 (λj k s=>by simpa using s);refine⟨cs,q,λI u=>?_⟩
 cases i with
 |nil=>exact Zz rfl I
 |cons k i=>
  obtain⟨b,P,p,n,A,B,C,t⟩:=v.el 0 k rfl;refine⟨b,P,n,A,B,λe f h=>?_⟩;have:=r b P n u e f h;simpa using this
end
structure aT {α:Type} (c:ju α) (e:TypeId) (F:XN) (w:World) (a:ZH) (n cap:Nat) (xs:List α):Prop where
 body:∃cs D,Own w e c.k a n cap cs/\bJ c w D xs cs/\(∀b,D b->F b/\aI a≠some b)
 self:∀b,aI a=some b->F b
 aF:∀b,F b->b<w.heap.size
section
variable {α:Type} {c:ju α} {e:TypeId} {w w':World} {F F' S:XN} {a:ZH} {n cap:Nat} {xs:List α}
def aT.nil(w:World):aT c e (λ_=>False) w none 0 0 []:=
 ⟨⟨[],λ_=>False,Own.nil _ _ _,rfl,λ_ P=>P.elim⟩,λa P=>(by cases P),λ_ P=>P.elim⟩
def aT.af(d:aT c e F w a n cap xs)(f:ak S w w')(g:∀P,F P->¬S P):aT c e F w' a n cap xs:=by
 obtain⟨cs,D,i,j,h⟩:=d.body;exact⟨⟨cs,D,i.af f (dh.2 λP b=>g P (d.self P b)),j.af f (λP b=>g P (h P b).1),h⟩,d.self,λP b=>Qk (d.aF P b) f.size⟩
def aT.ah(P:aT c e F w a n cap xs)(b:ai w w'):aT c e F w' a n cap xs:=P.af b λ_ _ P=>P
def aT.mono(d:aT c e F w a n cap xs)(f:∀P,F P->F' P)(h:∀P,F' P->P<w.heap.size):aT c e F' w a n cap xs:=by
 obtain⟨cs,D,i,j,g⟩:=d.body;exact⟨⟨cs,D,i,j,λP b=>⟨f P (g P b).1,(g P b).2⟩⟩,λP b=>f P (d.self P b),h⟩
def aT.len(b:aT c e F w a n cap xs)(d:0<c.k):n=xs.length:=by
 obtain⟨cs,D,f,g,h⟩:=b.body;have P:=f.length;rw[g.length]at P;exact(Nat.eq_of_mul_eq_mul_right d P).symm
def Own.OP{P:Nat}{cs:List Value}(b:Own w e P a n cap cs):n<=cap:=by
 rcases b.cases with⟨_,rfl,rfl,_⟩|⟨f,c,_,_,d,_,_⟩
 ·exact Q4 _
 ·exact d
def aT.row{bytes:Nat}(d:aT c e F w a n cap xs)(i:0<c.k)(f:xs.length*bytes<=aO):Row c bytes w F a n xs:=by
 have j:=d.len i;obtain⟨cs,D,k,r,s⟩:=d.body;refine⟨j,by rw[j];exact f,λz A t=>?_⟩;obtain⟨g,l,m⟩:=r.at t;have B:=c.len m;have o:=l 0 i;rw[Nat.add_zero,Qq (show 0<g.length by omega)]at o;obtain⟨p,h,u,_⟩:=k.cell o;refine⟨p,0,g,h,u,d.self p (by rw[h];rfl),λq v=>?_,c.mono m λx f=>(s x f).1⟩;have P:=l q v;rw[Qq (show q<g.length by omega)]at P⊢;obtain⟨C,b,_,y⟩:=k.cell P;rw[h]at b;cases b
 rw[Xz];exact y
def Gc{bytes:Nat}{x:α}(f:aT c e F w a n cap xs)(z:iH h g e c.k bytes){D:XN}(r:c.rep w D x p.toList)(k:∀P,D P->P<w.heap.size/\aI a≠some P)(b:(xs.length+1)*bytes<=aO)(I:xs.length+1<=maxLen)(t:∀j i w' F',aT c e F' w' j (n+1) i (xs++[x])->ak (λu=>aI a=some u) w w'->(∀P,F' P->F P\/D P\/w.heap.size<=P)->(∀P,aI j=some P->F P\/w.heap.size<=P)->l (.slice j (n+1) i) w'):
  PA w (.cells p e) λv=>aH h (Builtin.append_ #[g,g] o #[.slice a n cap,.slice (XM w.heap.size) 1 1]) v l s:=by
 have A:=f.len z.pos;obtain⟨cs,J,K,L,m⟩:=f.body;refine PA.mk λv C R M=>?_;have S:=c.len r;have N:=K.ah C;refine yw z (news:=p.toList) N M (by rw[Qz oM]) oM (c.one r) (by rw[A];exact b) (by rw[A];exact I) λj O q E H B=>?_;have y:ak (λu=>aI a=some u) w q:=(ai.af C).then (H.mono λ_ _ f=>f.symm)
 let F':XN:=λP=>F P\/D P\/(w.heap.size<=P/\P<q.heap.size)
 have T:v.heap.size<=q.heap.size:=H.size;refine t j O q F' ⟨⟨_,λP=>J P\/D P,E,bJ.append ((L.af y λP b=>(m P b).2).mono λP b=>.inl b) (bJ.one (c.mono (c.af r y λP b=>(k P b).2) λP b=>.inr b)),?_⟩,?_,?_⟩ y ?_ ?_
 ·intro P b
  have U:P<w.heap.size:=b.elim (λd=>f.aF P (m P d).1) λd=>(k P d).1;refine⟨b.elim (λd=>.inl (m P d).1) λd=>.inr (.inl d),?_⟩;rcases B with B|B
  ·rw[B];exact b.elim (λd=>(m P d).2) λd=>(k P d).2
  ·rw[B];intro Q;cases Q;omega
 ·intro P b
  rcases B with B|B
  ·exact .inl (f.self P (B▸b))
  ·have:=E.lt b
   rw[B]at b;cases b;exact .inr (.inr ⟨oM,this⟩)
 ·rintro P (b|b|b)
  ·have:=f.aF P b;omega
  ·have:=(k P b).1;omega
  ·exact b.2
 ·rintro P (b|b|b)
  ·exact .inl b
  ·exact .inr (.inl b)
  ·exact .inr (.inr b.1)
 ·intro P b
  rcases B with B|B
  ·exact .inl (f.self P (B▸b))
  ·rw[B]at b;cases b;exact .inr oM
def jX{bytes:Nat}(f:aT c e F w a n cap xs)(x:iH h g e c.k bytes){D:XN}{p L:Nat}{k:List α}(C:Row c bytes w D (some d0) p k)(q:∀P,D P->P<w.heap.size/\aI a≠some P)(b:(xs.length+k.length)*bytes<=aO)(M:xs.length+k.length<=maxLen)(y:∀m i w' F',aT c e F' w' m (n+p) i (xs++k)->ak (λj=>aI a=some j) w w'->(∀P,F' P->F P\/D P\/w.heap.size<=P)->(∀P,aI m=some P->F P\/w.heap.size<=P)->l (.slice m (n+p) i) w'):
  aH h (Builtin.append_ #[g,g] o #[.slice a n cap,.slice (some d0) p L]) w l s:=by
 have E:=f.len x.pos;have z:=C.len;obtain⟨cs,N,O,Q,r⟩:=f.body;obtain⟨H,t,R⟩:=C.br;have S:∀j u,H[j]? =some u->w.cell? (d0.add j)=some u:=λj u I=>by
  have T:k≠[]:=by rintro rfl;have:=t.length;simp at this;subst this;simp at I
  obtain⟨P,U,V,_,_,W⟩:=R T x.pos
  cases V
  rw[Addr.add_lit];exact W j u I
 refine D_ x (news:=H) O S (by rw[t.length,z]) t.OQ (by rw[E,z];exact b) (by rw[E,z];exact M) λm X v J K B=>?_;have A:ak (λj=>aI a=some j) w v:=K.mono λ_ _ f=>f.symm
 let F':XN:=λP=>F P\/D P\/(w.heap.size<=P/\P<v.heap.size)
 have Z:w.heap.size<=v.heap.size:=K.size;refine y m X v F' ⟨⟨_,λP=>N P\/D P,J,bJ.append ((Q.af A λP b=>(r P b).2).mono λP b=>.inl b) ((t.af A λP b=>(q P b).2).mono λP b=>.inr b),?_⟩,?_,?_⟩ A ?_ ?_
 ·intro P b
  have a1:P<w.heap.size:=b.elim (λd=>f.aF P (r P d).1) λd=>(q P d).1;refine⟨b.elim (λd=>.inl (r P d).1) λd=>.inr (.inl d),?_⟩;rcases B with B|B
  ·rw[B];exact b.elim (λd=>(r P d).2) λd=>(q P d).2
  ·rw[B];intro Y;cases Y;omega
 ·intro P b
  rcases B with B|B
  ·exact .inl (f.self P (B▸b))
  ·have:=J.lt b
   rw[B]at b;cases b;exact .inr (.inr ⟨Q4 _,this⟩)
 ·rintro P (b|b|b)
  ·have:=f.aF P b;omega
  ·have:=(q P b).1;omega
  ·exact b.2
 ·rintro P (b|b|b)
  ·exact .inl b
  ·exact .inr (.inl b)
  ·exact .inr (.inr b.1)
 ·intro P b
  rcases B with B|B
  ·exact .inl (f.self P (B▸b))
  ·rw[B]at b;cases b;exact .inr oM
end
def bJ.free{b:Type}{d:Nat}{P:b->List Value}{e:b->Prop}{hl a}{f g:World}{D h:XN}:∀{c:List b} {cs:List Value},bJ (flat d P e hl a) f D c cs->bJ (flat d P e hl a) g h c cs
 |[],_,i=>i
 |x::c,_,⟨j,k,a,l,m⟩=>⟨j,k,a,l,m.free⟩
def aT.alone{P:j->List Value}{l:j->Prop}{hl h1}{m:List j}(e:aT (flat a P l hl h1) g f b d c i m):
  aT (flat a P l hl h1) g (λh=>aI d=some h) b d c i m:=by
 obtain⟨cs,p,n,o,q⟩:=e.body;exact⟨⟨cs,λ_=>False,n,o.free,λ_ e=>e.elim⟩,λh k=>k,λh k=>e.aF h (e.self h k)⟩
def oK{a:Type}(h:ju a)(i:TypeId)(b:World)(j:List a)(k:Value)(c:World):Prop:=
 ∃d e P f,k= .slice d e P/\aT h i f c d e P j/\ai b c/\∀g,f g->b.heap.size<=g
def Row.lit{enc:j->Value}{d:j->Prop}{hl h1}{bytes:Nat}{cs:Array Value}(e:b.heap[a]? =some (.cells cs g E))(c:List j)(i:cs.toList=c.map enc)(k:∀P∈c,d P)(l:c.length*bytes<=aO):
  Row (flat 1 (λP=>[enc P]) d hl h1) bytes b (·=a) (XM a) c.length c:=
 ⟨rfl,l,λf P h=>⟨a,0,[enc P],rfl,ay e,rfl,λm n=>by
  have:m=0:=Nat.lt_one_iff.1 n;subst this;have:cs.toList[f]? =some (enc P):=by rw[i];simp[h]
  have o:=ae e (off:=f) (v:=enc P) (by simpa using this);simpa[flat]using o,rfl,k P (QZ h)⟩⟩
def Row.part{P:ju j}{bytes:Nat}{D:XN}{g:List j}(e:Row P bytes b D d a g){lo hi cap:Nat}(u:lo<=hi)(v:hi<=a)(w:a<=cap):
  Row P bytes b D (cx d lo cap P.k) (hi-lo) ((g.take hi).drop lo):=by
 have x:=e.len;refine⟨by simp;omega,Xx (Q0 _ oM) e.dB,λh i c=>?_⟩;rw[List.getElem?_drop,Xw]at c;split at c
 ·rename_i y
  obtain⟨k,f,l,m,n,o,p,q⟩:=e.el (lo+h) i c
  by_cases r:cap=lo
  ·omega
  ·exact⟨k,f+lo*P.k,l,by rw[m];simp[cx,r,Addr.add_lit],n,o,λs t=>by rw[<-p s t];congr 2;rw[X7];omega,q⟩
 ·cases c
def aT.jN{P:ju j}{e:List j}(h:aT P g f b d a c e):a<=c:=by
 obtain⟨cs,k,i,_⟩:=h.body;exact i.OP
def Row.take{e:ju j}{bytes:Nat}{D:XN}{f:List j}(c:Row e bytes b D d a f){m:Nat}(g:m<=a):Row e bytes b D d m (f.take m):=by
 have k:=c.len;refine⟨by simp;omega,Xx (Q0 _ g) c.dB,λh i P=>?_⟩;rw[Xw]at P;split at P
 ·exact c.el h i P
 ·cases P
def yy{k:ju j}{t:List j}{bytes:Nat}(u:aT k g f b d a c t)(v:iH h o g k.k bytes){D:XN}{m:List j}(y:Row k bytes b D r i m)(A:r=none->i=0/\n=0)(C:∀P,D P->P<b.heap.size/\aI d≠some P)(p:(t.length+m.length)*bytes<=aO)(E:t.length+m.length<=maxLen)(q:∀w e x z,aT k g z x w (a+i) e (t++m)->ak (λF=>aI d=some F) b x->(∀P,z P->f P\/D P\/b.heap.size<=P)->(∀P,aI w=some P->f P\/b.heap.size<=P)->l (.slice w (a+i) e) x):
  aH h (Builtin.append_ #[o,o] B #[.slice d a c,.slice r i n]) b l s:=by
 cases r with
 |some M=>exact jX u v y C p E q
 |none=>
  obtain⟨rfl,rfl⟩:=A rfl;have H:m=[]:=QW y.len.symm;subst H;obtain⟨I,N,J,O,Q,R,S⟩:=iH.info v;obtain⟨cs,T,K,U,V⟩:=u.body;have L:=run_append_owned_none (P:=h) (w:=b) 0 o B g I k.k v.under J (.slice d a c) a cs K.row;exact aH.mk L (q d c b f (by simpa using u) (ak.refl _) (λP p=>.inl p) λP p=>.inl (u.self P p))
def aT.Mo{P:ju j}{e:List j}(h:aT P g f b d a c e)(i:d=none):a=0/\c=0:=by
 obtain⟨cs,o,k,_⟩:=h.body;rcases k.cases with⟨_,l,m,_⟩|⟨p,n,rfl,_⟩
 ·exact⟨l,m⟩
 ·cases i
def Tq(j:iH h g o 1 1)(e:(h.info? o).bind (·.zero)=some (.int .u8 0))(k:a<=c)(P:c<=aO)(f:∀d,aT fz o (·=b.heap.size) d (XM b.heap.size) a c (List.replicate a 0)->ai b d->d.heap.size=b.heap.size+1->l (.slice (XM b.heap.size) a c) d):
  aH h (Instr.makeSlice g (XH (a:Int)) (XH (c:Int))) b l s:=by
 unfold aO at P;obtain⟨q,r,m,n,t,u,A⟩:=j.info;have v:r= .int .u8 0:=by
  rw[m]at e;simp only[Option.bind_some,n]at e;exact XJ e
 subst v;have p:=run_make (P:=h) b g o q _ j.under m n .i64 .i64 a c oM oM (by rw[u];omega) oM;rw[Qx,Qx,t,Nat.mul_one]at p;have w:ai b (b.alloc (.cells (madeCells (Value.int .u8 0).cells c) o)):=ak.alloc b _;have x:(madeCells (Value.int .u8 0).cells c).toList=List.replicate c (.int .u8 0):=by
  unfold madeCells;rw[Array.toList_map];apply List.ext_getElem
  ·simp
  ·intro B C E
   simp[Value.cells,Nat.mod_one]
 refine aH.mk p (f _ ⟨⟨List.replicate a (.int .u8 0),λ_=>False,⟨⟨by simp[fz,flat],.inr ⟨b.heap.size,c,_,rfl,Qj _,heap_alloc_new b _,k,by unfold maxLen;omega,by simp[size_madeCells,fz,flat],?_⟩⟩⟩,?_,λ_ f=>f.elim⟩,λy P=>by simpa[aI]using P.symm,λy P=>by subst P;simp⟩ w sM)
 ·rw[x]
  simp only[fz,flat,Nat.mul_one,List.take_replicate];rw[X2 k]
 ·have i:∀a:Nat,bJ fz (b.alloc (.cells (madeCells (Value.int .u8 0).cells c) o)) (λ_=>False) (List.replicate a 0) (List.replicate a (.int .u8 0)):=by
   intro a
   induction a with
   |zero=>rfl
   |succ a z=>exact⟨[.int .u8 0],List.replicate a (.int .u8 0),rfl,⟨rfl,trivial⟩,z⟩
  exact i a
end Go.aw
namespace Go.aw
open Go
def jr(P:Nat):List UInt8:=if a:P=0 then []else UInt8.ofNat (P % 256)::jr (P/256)
termination_by P
decreasing_by omega
def qH:jr 0=[]:=by rw[jr];simp
variable{a:Nat}
def AW(P:a≠0):jr a=UInt8.ofNat (a % 256)::jr (a/256):=by rw[jr];simp[P]
def xl:∀(P:Nat),P<2 ^ 64->(jr P).length=(Lib.bitLen P+7)/8:=by
 intro P
 induction P using Nat.strongRecOn with
 |_ P c=>
  intro b
  by_cases a:P=0
  ·subst a;rw[qH];decide
  ·rw[AW a,Xq]
   by_cases d:P<256
   ·have e:P/256=0:=oM
    rw[e,qH];have g:Lib.bitLen P<=8:=Lib.bitLen_le8 ⟨P,d⟩;have h:1<=Lib.bitLen P:=(Lib.bitLenAux_bounds 64 P b a).1;simp;omega
   ·have:=c (P/256) oM oM
    rw[this];have f:=Lib.bitLen_shift 8 P oM b;rw[show(2:Nat) ^ 8=256 from rfl]at f;omega
def HH{u:Nat}(P:u<2 ^ 64):(jr u).length<=8:=by
 rw[xl u P]
 by_cases a:u=0
 ·subst a;decide
 ·have b:=Lib.bitLenAux_bounds 64 u P a
  have:Lib.bitLen u<=64:=by
   apply Nat.le_of_not_lt;intro c;have d:2 ^ 64<=2 ^(Lib.bitLen u-1):=Nat.pow_le_pow_right oM oM;have e:2 ^(Lib.bitLen u-1)<=u:=b.2.1;omega
  omega
def Pt:∀(b P:Nat),b<(jr P).length->(jr P)[b]? =some (UInt8.ofNat (P/256 ^ b % 256)):=by
 intro b
 induction b with
 |zero=>
  intro P a
  by_cases c:P=0
  ·subst c;rw[qH]at a;simp at a
  ·rw[AW c];simp
 |succ b d=>
  intro P a
  by_cases c:P=0
  ·subst c;rw[qH]at a;simp at a
  ·rw[AW c]at a⊢
   have:=d (P/256) (by simpa using a);rw[ZZ,this,Nat.div_div_eq_div_mul,Nat.pow_succ,Nat.mul_comm 256]
def fX(P:List UInt8):Nat:=P.foldl (λa b=>a*256+b.toNat) 0
def HI(P:List UInt8)(a:UInt8):fX (P++[a])=fX P*256+a.toNat:=by simp[fX,List.foldl_append]
def Lz(P:List UInt8):fX P<256 ^ P.length:=by
 suffices c:∀(P:List UInt8) (a b:Nat),a<256 ^ b->P.foldl (λa d=>a*256+d.toNat) a<256 ^(b+P.length) by
  have:=c P 0 0 sM;simpa[fX]using this
 intro P
 induction P with
 |nil=>intro a b c;simpa using c
 |cons d P e=>
  intro a b c;have f:=d.toNat_lt;have:=e (a*256+d.toNat) (b+1) (by rw[Nat.pow_succ];omega);rw[List.foldl_cons,Xq];rw[show b+(P.length+1)=b+1+P.length by omega];exact this
def nu(P:Int):List UInt8:=UInt8.ofNat ((jr P.natAbs).length+if P<0 then 16 else 0)::(jr P.natAbs).reverse
def rdNum(c:List UInt8):Int×Int×Nat:=match c with
 |[]=>(4,0,0)
 |h::b=>
  let P:=if 16<h.toNat then h.toNat-16 else h.toNat
  let a:=fX (b.take P)
  if 8<P then(5,0,0)
  else if b.length<P then(4,0,0)
  else if(0<P/\b.head? =some 0)\/(¬16<h.toNat/\2 ^ 63<=a)\/(16<h.toNat/\2 ^ 63<a)then(5,0,0)
  else(0,if 16<h.toNat then-(a:Int)else a,P+1)
end Go.aw
namespace Go.aw
open Go
abbrev qB:=BitVec 32
def zY:qB:=0xEDB88320#32
def mz(P:qB):qB:=(P>>>1) ^^^(if P.getLsbD 0 then zY else 0#32)
def zZ(P a:qB):mz (P ^^^ a)=mz P ^^^ mz a:=by
 unfold mz;rw[BitVec.ushiftRight_xor_distrib,BitVec.getLsbD_xor]
 cases P.getLsbD 0<;>cases a.getLsbD 0<;>simp only[Bool.xor_false,Bool.xor_true,Bool.not_true,Bool.not_false,if_true,if_false,Bool.false_eq_true,BitVec.xor_zero,BitVec.zero_xor]
 ·ac_rfl
 ·ac_rfl
 ·have:(P>>>1 ^^^ zY) ^^^(a>>>1 ^^^ zY)=(P>>>1 ^^^ a>>>1) ^^^(zY ^^^ zY):=by ac_rfl
  rw[this,BitVec.xor_self,BitVec.xor_zero]
def nX(P:qB):qB:=mz (mz (mz (mz (mz (mz (mz (mz P)))))))
def CN(P a:qB):nX (P ^^^ a)=nX P ^^^ nX a:=by
 unfold nX;simp only[zZ]
def SN(P:Bool):qB:=if P then 1#32 else 0#32
def z_(P:qB)(a:Bool):qB:=(P>>>1) ^^^(if P.getLsbD 0 !=a then zY else 0#32)
def CO(P:qB)(a:Bool):z_ P a=mz (P ^^^ SN a):=by
 unfold z_
 cases a
 ·simp[SN,mz]
 ·rw[zZ]
  have:mz (SN true)=zY:=by decide+kernel
  rw[this];unfold mz
  cases P.getLsbD 0
  ·simp
  ·have b:(P>>>1 ^^^(if true=true then zY else 0#32)) ^^^ zY=P>>>1 ^^^(zY ^^^ zY):=by rw[Zx rfl];ac_rfl
   rw[b,BitVec.xor_self];simp
def jD(P:qB)(a:UInt8):qB:=(List.range 8).foldl (λP b=>z_ P (a.toNat.testBit b)) P
def wM(P:UInt8):qB:=BitVec.ofNat 32 P.toNat
def GQ(P:qB)(b:UInt8):jD P b=nX P ^^^ jD 0#32 b:=by
 have f:∀(a:List Nat) (c d:qB),(a.foldl (λP e=>z_ P (b.toNat.testBit e)) (c ^^^ d))=(a.foldl (λP _=>mz P) c) ^^^(a.foldl (λP e=>z_ P (b.toNat.testBit e)) d):=by
  intro a
  induction a with
  |nil=>intro c d;rfl
  |cons e a g=>
   intro c d;simp only[List.foldl_cons];rw[<-g]
   congr 1
   rw[CO,CO];simp only[zZ]
   ac_rfl
 have:=f (List.range 8) P 0#32;rw[BitVec.xor_zero]at this;exact this
def GR(P:UInt8):jD 0#32 P=nX (wM P):=by
 have b:(List.range 256).all (λa=>jD 0#32 (UInt8.ofNat a)==nX (wM (UInt8.ofNat a)))=true:=by decide+kernel
 have:=ZY.1 b P.toNat (List.mem_range.2 P.toNat_lt);simpa using this
def Jo(P:qB)(a:UInt8):jD P a=nX (P ^^^ wM a):=by
 rw[GQ,GR,CN]
def Ms{P:qB}(a:P.getLsbD 0=false):mz P=P>>>1:=by
 unfold mz;rw[a];simp
def Jp(a:qB):nX (a&&&0xFFFFFF00#32)=a>>>8:=by
 have bit:∀P,P<8->((a&&&0xFFFFFF00#32)>>>P).getLsbD 0=false:=λP c=>by
  rw[BitVec.getLsbD_ushiftRight,BitVec.getLsbD_and,Nat.add_zero];have:(0xFFFFFF00#32:qB).getLsbD P=false:=by
   have d:(List.range 8).all (λP=>(0xFFFFFF00#32:qB).getLsbD P==false)=true:=by decide+kernel
   simpa using ZY.1 d P (List.mem_range.2 c)
  rw[this,Bool.and_false]
 have step:∀P,P<8->mz ((a&&&0xFFFFFF00#32)>>>P)=(a&&&0xFFFFFF00#32)>>>(P+1):=λP c=>by
  rw[Ms (bit P c),BitVec.shiftRight_add]
 have e:a&&&0xFFFFFF00#32=(a&&&0xFFFFFF00#32)>>>0:=sM
 unfold nX;rw[e,step 0 oM,step 1 oM,step 2 oM,step 3 oM,step 4 oM,step 5 oM,step 6 oM,step 7 oM];apply BitVec.eq_of_getLsbD_eq;intro b f;rw[BitVec.getLsbD_ushiftRight,BitVec.getLsbD_ushiftRight,BitVec.getLsbD_and]
 by_cases g:7+1+b<32
 ·have:(0xFFFFFF00#32:qB).getLsbD (7+1+b)=true:=by
   have d:(List.range 24).all (λb=>(0xFFFFFF00#32:qB).getLsbD (7+1+b)==true)=true:=by decide+kernel
   simpa using ZY.1 d b (List.mem_range.2 oM)
  rw[this,Bool.and_true]
 ·rw[BitVec.getLsbD_of_ge _ _ oM]
  simp
def jj:List Nat:=[0x00000000,0x77073096,0xEE0E612C,0x990951BA,0x076DC419,0x706AF48F,0xE963A535,0x9E6495A3,0x0EDB8832,0x79DCB8A4,0xE0D5E91E,0x97D2D988,0x09B64C2B,0x7EB17CBD,0xE7B82D07,0x90BF1D91]
def jk:List Nat:=[0x00000000,0x1DB71064,0x3B6E20C8,0x26D930AC,0x76DC4190,0x6B6B51F4,0x4DB26158,0x5005713C,0xEDB88320,0xF00F9344,0xD6D6A3E8,0xCB61B38C,0x9B64C2B0,0x86D3D2D4,0xA00AE278,0xBDBDF21C]
def Jq(P:UInt8):nX (wM P)=BitVec.ofNat 32 (jj.getD (P.toNat % 16) 0) ^^^ BitVec.ofNat 32 (jk.getD (P.toNat/16) 0):=by
 have b:(List.range 256).all (λa=>nX (wM (UInt8.ofNat a))==BitVec.ofNat 32 (jj.getD ((UInt8.ofNat a).toNat % 16) 0) ^^^ BitVec.ofNat 32 (jk.getD ((UInt8.ofNat a).toNat/16) 0))=true:=by decide+kernel
 have:=ZY.1 b P.toNat (List.mem_range.2 P.toNat_lt);simpa using this
def Mq(P:qB)(b:UInt8):jD P b=P>>>8 ^^^ BitVec.ofNat 32 (jj.getD ((b.toNat ^^^ P.toNat % 256) % 16) 0) ^^^ BitVec.ofNat 32 (jk.getD ((b.toNat ^^^ P.toNat % 256)/16) 0):=by
 have g:=b.toNat_lt;have n:b.toNat ^^^ P.toNat % 256<2 ^ 8:=Nat.xor_lt_two_pow oM oM;have c:(UInt8.ofNat (b.toNat ^^^ P.toNat % 256)).toNat=b.toNat ^^^ P.toNat % 256:=by
  rw[ZK];omega
 have d:=Jq (UInt8.ofNat (b.toNat ^^^ P.toNat % 256));rw[c]at d;have h:P ^^^ wM b=wM (UInt8.ofNat (b.toNat ^^^ P.toNat % 256)) ^^^(P&&&0xFFFFFF00#32):=by
  apply BitVec.eq_of_getLsbD_eq;intro a e;unfold wM;rw[c,BitVec.getLsbD_xor,BitVec.getLsbD_xor,BitVec.getLsbD_and,BitVec.getLsbD_ofNat,BitVec.getLsbD_ofNat,Nat.testBit_xor];have i:(P.toNat % 256).testBit a=(decide (a<8)&&P.toNat.testBit a):=by
   rw[show 256=2 ^ 8 from rfl,Nat.testBit_mod_two_pow]
  have j:P.getLsbD a=P.toNat.testBit a:=rfl;rw[i,j];have k:(0xFFFFFF00#32:qB).getLsbD a=decide (8<=a):=by
   have l:(List.range 32).all (λa=>(0xFFFFFF00#32:qB).getLsbD a==decide (8<=a))=true:=by decide+kernel
   simpa using ZY.1 l a (List.mem_range.2 e)
  rw[k,Zy e]
  by_cases f:a<8
  ·rw[Zy f,Xv oM]
   cases P.toNat.testBit a<;>cases b.toNat.testBit a<;>rfl
  ·have m:b.toNat.testBit a=false:=Nat.testBit_lt_two_pow (Qk g (by
    have:=Nat.pow_le_pow_right (n:=2) oM (show 8<=a by omega);simpa using this))
   rw[Xv f,Zy oM,m]
   cases P.toNat.testBit a<;>rfl
 rw[Jo,h,CN,Jp,d]
 ac_rfl
def KV(P:qB)(a:List UInt8):qB:= ~~~(a.foldl jD (~~~P))
def Mr(P:List UInt8):qB:=KV 0#32 P
end Go.aw
namespace Go.aw
open Go
structure lG where
 bytes:List UInt8
 pos:Nat
 uP:Int
def lG.num(P:lG):Int×Int×Nat:=rdNum (P.bytes.drop P.pos)
def fv(P:lG):Int×lG:=if P.uP≠0 then(0,P)else if P.num.1=0 then(P.num.2.1,⟨P.bytes,P.pos+P.num.2.2,0⟩)else(0,⟨P.bytes,P.pos,P.num.1⟩)
def cg(a:Int)(P:lG):Int×lG:=if P.uP≠0 then(0,P)else if P.num.1=0 then(if P.num.2.1<0\/a<P.num.2.1 then(0,⟨P.bytes,P.pos,3⟩)else(P.num.2.1,⟨P.bytes,P.pos+P.num.2.2,0⟩))else(0,⟨P.bytes,P.pos,P.num.1⟩)
def jZ(P:lG):Int:=if P.uP=0/\P.pos<P.bytes.length then 5 else P.uP
def bk:Nat->lG->List Int×lG
 |0,P=>([],P)
 |k+1,P=>((bk k P).1++[(fv (bk k P).2).1],(fv (bk k P).2).2)
def iY(P:List UInt8):aN (rdNum P).2.1/\(rdNum P).2.2<=P.length/\(rdNum P).2.2<=9/\((rdNum P).1=0\/(rdNum P).1=4\/(rdNum P).1=5)/\((rdNum P).1=0->1<=(rdNum P).2.2):=by
 unfold rdNum
 cases P with
 |nil=>simp[aN]
 |cons a d=>
  simp only;generalize(if 16<a.toNat then a.toNat-16 else a.toNat)=b;have k:=Lz (d.take b);generalize fX (d.take b)=c at k
  by_cases h:8<b
  ·rw[Zx h];simp[aN]
  rw[Zq h]
  by_cases i:d.length<b
  ·rw[Zx i];simp[aN]
  rw[Zq i]
  by_cases e:(0<b/\d.head? =some 0)\/(¬16<a.toNat/\2 ^ 63<=c)\/(16<a.toNat/\2 ^ 63<c)
  ·rw[Zx e];simp[aN]
  rw[Zq e];have j:(¬16<a.toNat->c<2 ^ 63)/\(16<a.toNat->c<=2 ^ 63):=by
   refine⟨λf=>?_,λf=>?_⟩
   ·exact Nat.lt_of_not_le λg=>e (.inr (.inl ⟨f,g⟩))
   ·exact Nat.le_of_not_lt λg=>e (.inr (.inr ⟨f,g⟩))
  refine⟨?_,by simp;omega,by show b+1<=9;omega,.inl rfl,λ_=>by show 1<=b+1;omega⟩;show aN (if 16<a.toNat then-(c:Int)else c);unfold aN;split
  ·have:=j.2 (by assumption);omega
  ·have:=j.1 (by assumption);omega
structure lG.Fit (r:lG):Prop where
 pos:r.pos<=r.bytes.length
 uP:r.uP=0\/r.uP=3\/r.uP=4\/r.uP=5
variable{e:Int}{t:List Int}{w:List UInt8}{Y:lG}
def lG.Fit.int(a:Y.Fit):(fv Y).2.Fit/\aN (fv Y).1/\(fv Y).2.bytes=Y.bytes:=by
 obtain⟨b,c,e,P,f⟩:=iY (Y.bytes.drop Y.pos);have d:=a.pos;rw[XZ]at c;unfold fv lG.num;split
 ·exact⟨a,by simp[aN],rfl⟩
 ·split
  ·exact⟨⟨by show Y.pos+_<=Y.bytes.length;omega,.inl rfl⟩,b,rfl⟩
  ·exact⟨⟨d,by show _\/_;rcases P with P|P|P<;>simp[P]⟩,by simp[aN],rfl⟩
def lG.Fit.count{r:lG}(b:r.Fit){m:Int}(a:0<=m):(cg m r).2.Fit/\0<=(cg m r).1/\(cg m r).1<=m/\(cg m r).2.bytes=r.bytes:=by
 obtain⟨e,d,f,P,g⟩:=iY (r.bytes.drop r.pos);have c:=b.pos;rw[XZ]at d;unfold cg lG.num;split
 ·exact⟨b,sM,a,rfl⟩
 ·split
  ·split
   ·exact⟨⟨c,.inr (.inl rfl)⟩,sM,a,rfl⟩
   ·exact⟨⟨by show r.pos+_<=r.bytes.length;omega,.inl rfl⟩,by simp only;omega,by simp only;omega,rfl⟩
  ·exact⟨⟨c,by show _\/_;rcases P with P|P|P<;>simp[P]⟩,by simp,a,rfl⟩
def lG.Fit.ints{P:lG}(c:P.Fit):∀k,(bk k P).2.Fit/\(∀b∈(bk k P).1,aN b)/\(bk k P).1.length=k/\(bk k P).2.bytes=P.bytes
 |0=>⟨c,by simp[bk],rfl,rfl⟩
 |k+1=>by
  obtain⟨d,e,f,g⟩:=lG.Fit.ints c k;obtain⟨h,i,j⟩:=d.int;refine⟨h,?_,?_,j.trans g⟩
  ·intro b a
   rcases Q6.1 a with a|a
   ·exact e b a
   ·rw[List.mem_singleton]at a;subst a;exact i
  ·simp[bk,f]
def bT(P:List Int):List UInt8:=(P.map nu).flatten
def FO(P:Int)(a:List Int):bT (P::a)=nu P++bT a:=by simp[bT]
def gM(P a:List Int):bT (P++a)=bT P++bT a:=by simp[bT]
structure aj where
 origin:Int
 seq:Int
 aA:Int
 aQ:List Int
 aX:Int
 agg:Int
 field:Int
 op:Int
 arg:Int
 key:Int
deriving DecidableEq
structure aj.Ok (e:aj):Prop where
 origin:aN e.origin
 seq:aN e.seq
 aA:aN e.aA
 aQ:∀x∈e.aQ,aN x
 aX:aN e.aX
 agg:aN e.agg
 field:aN e.field
 op:aN e.op
 arg:aN e.arg
 key:aN e.key
def Ak:aj:=⟨0,0,0,[],0,0,0,0,0,0⟩
def NC:Ak.Ok:=by constructor<;>simp[Ak,aN]
def jY(P:aj):List Int:=[P.origin,P.seq,P.aA,(P.aQ.length:Int)]++P.aQ++[P.aX,P.agg,P.field,P.op,P.arg,P.key]
def ir(P:aj):List UInt8×Int:=if 64<P.aQ.length then([],3)else(bT (jY P),0)
def lH(d:lG):aj×lG:=
 (λa=>(λb=>(λc=>(λP=>(⟨a.1.getD 0 0,a.1.getD 1 0,a.1.getD 2 0,c.1,P.1.getD 0 0,P.1.getD 1 0,P.1.getD 2 0,P.1.getD 3 0,P.1.getD 4 0,P.1.getD 5 0⟩,P.2))
  (bk 6 c.2)) (bk b.1.toNat b.2)) (cg 64 a.2)) (bk 3 d)
def iQ(P:List UInt8):aj×Int:=if jZ (lH ⟨P,0,0⟩).2≠0 then(Ak,jZ (lH ⟨P,0,0⟩).2)else((lH ⟨P,0,0⟩).1,0)
def eO(b:∀P∈t,aN P)(a:Nat):aN (t.getD a 0):=by
 rw[QQ]
 cases c:t[a]? with
 |none=>simp[aN]
 |some P=>exact b P (QZ c)
def ND{r:lG}(b:r.Fit):(lH r).2.Fit/\(lH r).1.Ok/\(lH r).1.aQ.length<=64:=by
 obtain⟨c,a,i,j⟩:=b.ints 3;obtain⟨d,k,l,m⟩:=c.count (m:=64) oM;obtain⟨e,f,g,n⟩:=d.ints (cg 64 (bk 3 r).2).1.toNat;obtain⟨h,P,o,p⟩:=e.ints 6;refine⟨h,⟨eO a 0,eO a 1,eO a 2,f,eO P 0,eO P 1,eO P 2,eO P 3,eO P 4,eO P 5⟩,?_⟩;show(bk _ _).1.length<=64;rw[g];omega
def PK(P:List UInt8):(iQ P).1.Ok/\(iQ P).1.aQ.length<=64:=by
 unfold iQ;have:=ND (r:=⟨P,0,0⟩) ⟨Qj _,.inl rfl⟩;split
 ·exact⟨NC,by simp[Ak]⟩
 ·exact this.2
def OM(P:Nat):List UInt8:=[UInt8.ofNat (P/16777216),UInt8.ofNat (P/65536),UInt8.ofNat (P/256),UInt8.ofNat P]
def lI(a:Int)(P:List UInt8):List UInt8:=[UInt8.ofNat a.toNat,UInt8.ofNat (P.length/65536),UInt8.ofNat (P.length/256),UInt8.ofNat P.length]++P
def fS(P:Int)(a:List UInt8):List UInt8:=lI P a++OM (Mr (lI P a)).toNat++[10]
def jy(P:Int)(a:List UInt8):List UInt8×Int:=if P<1\/255<P then([],2)else if 65536<a.length then([],5)else(fS P a,0)
structure WG where
 kind:Int
 body:List UInt8
 n:Nat
 no:Int
def bw(P:List UInt8):WG:=if P.length<4 then⟨0,[],0,4⟩else if P.getD 0 0=0 then⟨0,[],0,2⟩else
 (λa=>if 65536<a then⟨0,[],0,5⟩else if P.length<a+9 then⟨0,[],0,4⟩else
  if P.take (a+9)=fS (P.getD 0 0).toNat ((P.drop 4).take a)then⟨(P.getD 0 0).toNat,(P.drop 4).take a,a+9,0⟩else⟨0,[],0,6⟩)
  ((P.getD 1 0).toNat*65536+(P.getD 2 0).toNat*256+(P.getD 3 0).toNat)
def kh(a:Int)(P:List UInt8):(fS a P).length=P.length+9:=by simp[fS,lI,OM]
def uw(P:(bw w).no=0):(bw w).n<=w.length/\9<=(bw w).n/\(bw w).n=(bw w).body.length+9:=by
 unfold bw at P⊢;generalize(w.getD 1 0).toNat*65536+(w.getD 2 0).toNat*256+(w.getD 3 0).toNat=f at P⊢;split at P
 ·cases P
 rename_i a;rw[Zq a];split at P
 ·cases P
 rename_i b;rw[Zq b];simp only at P⊢;split at P
 ·cases P
 rename_i c;rw[Zq c];split at P
 ·cases P
 rename_i d;rw[Zq d];split at P
 ·rename_i e
  rw[Zx e];refine⟨by simp only;omega,by simp only;omega,by simp;omega⟩
 ·cases P
def UP(b:List UInt8)(P:b.length=4)(a:Nat)(k:a<2 ^ 32):fX b=a↔b=OM a:=by
 match b,P with
 |[c,d,e,f],_=>
  have l:=c.toNat_lt;have m:=d.toNat_lt;have n:=e.toNat_lt;have o:=f.toNat_lt;have j:fX [c,d,e,f]=((c.toNat*256+d.toNat)*256+e.toNat)*256+f.toNat:=by simp[fX]
  rw[j];constructor
  ·intro P
   unfold OM;have g:∀(h:UInt8) (i:Nat),h.toNat=i % 256->h=UInt8.ofNat i:=λh i P=>UInt8.toNat_inj.1 (by rw[ZK,P]);rw[g c (a/16777216) oM,g d (a/65536) oM,g e (a/256) oM,g f a oM]
  ·intro P
   unfold OM at P;simp only[List.cons.injEq,and_true]at P;obtain⟨rfl,rfl,rfl,rfl⟩:=P;simp only[ZK];omega
def Sm:∀{a:List UInt8},4<=a.length->a.take 4=[a.getD 0 0,a.getD 1 0,a.getD 2 0,a.getD 3 0]
 |x::b::c::d::e,_=>rfl
 |[],P=>by simp at P
 |[_],P=>by simp at P
 |[_,_],P=>by simp at P
 |[_,_,_],P=>by simp at P
def Tb{b:List UInt8}{n:Nat}(l:n+9<=b.length)(m:(b.getD 1 0).toNat*65536+(b.getD 2 0).toNat*256+(b.getD 3 0).toNat=n)(o:n<=65536):
  b.take (n+9)=fS (b.getD 0 0).toNat ((b.drop 4).take n)↔((Mr (b.take (4+n))).toNat=fX ((b.drop (4+n)).take 4)/\b.getD (8+n) 0=10):=by
 have g:((b.drop 4).take n).length=n:=by simp;omega
 have P:∀(a:UInt8) (c:Nat),a.toNat=c % 256->UInt8.ofNat c=a:=λa c d=>UInt8.toNat_inj.1 (by rw[ZK,d]);have p:=(b.getD 1 0).toNat_lt;have q:=(b.getD 2 0).toNat_lt;have r:=(b.getD 3 0).toNat_lt;have h:lI (b.getD 0 0).toNat ((b.drop 4).take n)=b.take (4+n):=by
  unfold lI;rw[g,Qx,P (b.getD 0 0) _ (by have:=(b.getD 0 0).toNat_lt;omega),P (b.getD 1 0) (n/65536) oM,P (b.getD 2 0) (n/256) oM,P (b.getD 3 0) n oM];rw[List.take_add]
  congr 1
  exact(Sm oM).symm
 have i:b.take (n+9)=b.take (4+n)++(b.drop (4+n)).take 4++[b.getD (8+n) 0]:=by
  rw[show n+9=(4+n)+(4+1) by omega,List.take_add,XQ,List.take_add (l:=b.drop (4+n)),List.drop_drop]
  congr 2
  rw[show 4+n+4=8+n by omega,QQ,Qq oM,Option.getD_some];rw[X4 oM]
  rfl
 unfold fS;rw[h,i];have j:((b.drop (4+n)).take 4).length=4:=by simp;omega
 have k:(Mr (b.take (4+n))).toNat<2 ^ 32:=(Mr (b.take (4+n))).isLt;rw[eq_comm (b:=fX _),UP _ j _ k];constructor
 ·intro d
  obtain⟨e,f⟩:=List.append_inj' d rfl;exact⟨List.append_cancel_left e,by simpa using f⟩
 ·rintro⟨e,f⟩
  rw[e,f]
def bZ(P:List UInt8):List aj×Nat:=
 if a:(bw P).no=0/\(bw P).kind=1/\(iQ (bw P).body).2=0 then((iQ (bw P).body).1::(bZ (P.drop (bw P).n)).1,(bw P).n+(bZ (P.drop (bw P).n)).2)else([],0)
termination_by P.length
decreasing_by all_goals(have:=uw a.1;simp;omega)
def Iq(P:(bw w).no=0/\(bw w).kind=1/\(iQ (bw w).body).2=0):bZ w=((iQ (bw w).body).1::(bZ (w.drop (bw w).n)).1,(bw w).n+(bZ (w.drop (bw w).n)).2):=by
 rw[bZ,dif_pos P]
def Bl(P:¬((bw w).no=0/\(bw w).kind=1/\(iQ (bw w).body).2=0)):bZ w=([],0):=by
 rw[bZ,dif_neg P]
def NF(P:aN e):(nu e).length<=9:=by
 unfold aN at P;have:=HH (u:=e.natAbs) oM;simp[nu];omega
def fu:∀{l:List Int},(∀P∈l,aN P)->(bT l).length<=9*l.length
 |[],_=>by simp[bT]
 |n::l,a=>by
  rw[FO,QX,Xq];have c:=NF (a n (QV ..));have d:=fu (l:=l) λP b=>a P (QJ _ b);omega
variable{m:aj}
def aj.Ok.ints(P:m.Ok)(c:m.aQ.length<=4611686018427387904):∀b∈jY m,aN b:=by
 intro b a;simp only[jY,Q6,Q2,List.not_mem_nil,or_false]at a;rcases a with((rfl|rfl|rfl|rfl)|a)|(rfl|rfl|rfl|rfl|rfl|rfl)
 ·exact P.origin
 ·exact P.seq
 ·exact P.aA
 ·unfold aN;omega
 ·exact P.aQ b a
 ·exact P.aX
 ·exact P.agg
 ·exact P.field
 ·exact P.op
 ·exact P.arg
 ·exact P.key
def Lr(P:m.Ok)(a:m.aQ.length<=64):(bT (jY m)).length<=666:=by
 have:=fu (P.ints oM);have b:(jY m).length=10+m.aQ.length:=by simp[jY];omega
 omega
def vS(P:aj):List UInt8:=fS 1 (bT (jY P))
def Ir(P:m.Ok)(a:m.aQ.length<=64):(vS m).length<=675/\9<=(vS m).length:=by
 have:=Lr P a;unfold vS;rw[kh];omega
def aG(P:List aj):List UInt8:=(P.map vS).flatten
def KB(P:aj)(a:List aj):aG (P::a)=vS P++aG a:=by simp[aG]
def jF(P a:List aj):aG (P++a)=aG P++aG a:=by simp[aG]
def IC(P:w.length<4):(bw w).no≠0:=by unfold bw;rw[Zx P];simp
def ID(P:(bw w).no≠0):bZ w=([],0):=Bl λa=>P a.1
def Ip:bZ []=([],0):=ID (IC sM)
def fQ(P:aj):List UInt8×Int:=if(ir P).2≠0 then([],(ir P).2)else jy 1 (ir P).1
end Go.aw
namespace Go.Proofs.YtblabbpipmodgaaGreatDoor
open Go.aw
def si:iH XP 197 5 1 1:=⟨kR,kR,dC⟩
end Go.Proofs.YtblabbpipmodgaaGreatDoor
namespace Go.Proofs
open Go.Shelf
def Tryz.CP:Go.Shelf.Ren:=⟨λ|7=>247|10=>296|n=>n,λ|23=>140|26=>9|3=>204|28=>209|0=>0|27=>208|33=>280|4=>4|n=>n,λ|n=>n⟩
def Tryz.rF:Go.Proofs.SlLaysZ.n7 Tryz.prog Tryz.CP:={
 mixed:=by kernel_rfl
 f7:=⟨Tryz.f247.name,am,Tryz.func247.trans ac⟩
 f10:=⟨Tryz.f296.name,am,Tryz.func296.trans ac⟩
 t0:=Tryz.underlying0
 a0:=Tryz.isAgg0
 z0:=Tryz.sizeOf0
 v0:=Tryz.zeroValue0
 t4:=Tryz.underlying4
 a4:=Tryz.isAgg4
 z4:=Tryz.sizeOf4
 v4:=Tryz.zeroValue4
 t23:=Tryz.underlying140
 a23:=Tryz.isAgg140
 z23:=Tryz.sizeOf140
 v23:=Tryz.zeroValue140
 t26:=Tryz.underlying9
 a26:=Tryz.isAgg9
 z26:=Tryz.sizeOf9
 v26:=Tryz.zeroValue9
 t27:=Tryz.underlying208
 a27:=Tryz.isAgg208
 z27:=Tryz.sizeOf208
 v27:=Tryz.zeroValue208
 t28:=Tryz.underlying209
 a28:=Tryz.isAgg209
 z28:=Tryz.sizeOf209
 v28:=Tryz.zeroValue209
 t33:=Tryz.underlying280
 a33:=Tryz.isAgg280
 z33:=Tryz.sizeOf280
 v33:=Tryz.zeroValue280}
def Tryz.wN:Go.Shelf.Ren:=⟨λ|6=>246|8=>294|9=>295|11=>326|13=>207|12=>327|23=>275|24=>276|14=>350|15=>351|16=>352|17=>353|18=>354|19=>355|20=>356|21=>357|22=>358|25=>366|26=>307|27=>308|28=>367|29=>368|30=>369|31=>372|n=>n,λ|26=>9|28=>209|24=>281|0=>0|3=>3|37=>311|48=>357|50=>359|4=>4|40=>351|39=>350|45=>180|5=>5|9=>9|51=>386|55=>379|57=>406|58=>407|33=>280|n=>n,λ|n=>n⟩
def Tryz.QL:Go.Proofs.SlLaysZ.n6 Tryz.prog Tryz.wN:={
 mixed:=by kernel_rfl
 f6:=⟨Tryz.f246.name,am,Tryz.func246.trans ac⟩
 f8:=⟨Tryz.f294.name,am,Tryz.func294.trans ac⟩
 f11:=⟨Tryz.f326.name,am,Tryz.func326.trans ac⟩
 t0:=Tryz.underlying0
 a0:=Tryz.isAgg0
 z0:=Tryz.sizeOf0
 v0:=Tryz.zeroValue0
 t24:=Tryz.underlying281
 a24:=Tryz.isAgg281
 z24:=Tryz.sizeOf281
 v24:=Tryz.zeroValue281
 t26:=Tryz.underlying9
 a26:=Tryz.isAgg9
 z26:=Tryz.sizeOf9
 v26:=Tryz.zeroValue9
 t28:=Tryz.underlying209
 a28:=Tryz.isAgg209
 z28:=Tryz.sizeOf209
 v28:=Tryz.zeroValue209
 i26:=by kernel_rfl}
def Tryz.Nv:Go.Shelf.Ren:=⟨λ|6=>295|8=>207|9=>327|19=>275|20=>276|21=>350|22=>351|23=>352|24=>353|25=>354|26=>355|27=>356|28=>357|29=>358|36=>366|31=>307|32=>308|37=>367|38=>368|39=>369|41=>372|n=>n,λ|27=>281|29=>9|3=>3|32=>311|26=>281|0=>0|44=>357|46=>359|4=>4|36=>351|35=>350|41=>180|5=>5|9=>9|53=>386|57=>379|63=>406|64=>407|n=>n,λ|n=>n⟩
def Tryz.Sb:Go.Proofs.SlLaysM.n6 Tryz.prog Tryz.Nv:={
 mixed:=by kernel_rfl
 f6:=⟨Tryz.f295.name,am,Tryz.func295.trans ac⟩
 f8:=Tryz.func207.trans ac
 f9:=⟨Tryz.f327.name,am,Tryz.func327.trans ac⟩
 f19:=Tryz.func275.trans ac
 f20:=Tryz.func276.trans ac
 f21:=⟨Tryz.f350.name,am,Tryz.func350.trans ac⟩
 f22:=⟨Tryz.f351.name,am,Tryz.func351.trans ac⟩
 f23:=⟨Tryz.f352.name,am,Tryz.func352.trans ac⟩
 f24:=⟨Tryz.f353.name,am,Tryz.func353.trans ac⟩
 f25:=⟨Tryz.f354.name,am,Tryz.func354.trans ac⟩
 f26:=⟨Tryz.f355.name,am,Tryz.func355.trans ac⟩
 f27:=⟨Tryz.f356.name,am,Tryz.func356.trans ac⟩
 f28:=⟨Tryz.f357.name,am,Tryz.func357.trans ac⟩
 f29:=⟨Tryz.f358.name,am,Tryz.func358.trans ac⟩
 f31:=Tryz.func307.trans ac
 f32:=Tryz.func308.trans ac
 f36:=⟨Tryz.f366.name,am,Tryz.func366.trans ac⟩
 f37:=⟨Tryz.f367.name,am,Tryz.func367.trans ac⟩
 f38:=⟨Tryz.f368.name,am,Tryz.func368.trans ac⟩
 f39:=⟨Tryz.f369.name,am,Tryz.func369.trans ac⟩
 f41:=⟨Tryz.f372.name,am,Tryz.func372.trans ac⟩
 t0:=Tryz.underlying0
 a0:=Tryz.isAgg0
 z0:=Tryz.sizeOf0
 v0:=Tryz.zeroValue0
 t3:=Tryz.underlying3
 a3:=Tryz.isAgg3
 z3:=Tryz.sizeOf3
 v3:=Tryz.zeroValue3
 t4:=Tryz.underlying4
 a4:=Tryz.isAgg4
 z4:=Tryz.sizeOf4
 v4:=Tryz.zeroValue4
 t5:=Tryz.underlying5
 a5:=Tryz.isAgg5
 z5:=Tryz.sizeOf5
 v5:=Tryz.zeroValue5
 t9:=Tryz.underlying9
 a9:=Tryz.isAgg9
 z9:=Tryz.sizeOf9
 v9:=Tryz.zeroValue9
 t26:=Tryz.underlying281
 a26:=Tryz.isAgg281
 z26:=Tryz.sizeOf281
 v26:=Tryz.zeroValue281
 t27:=Tryz.underlying281
 a27:=Tryz.isAgg281
 z27:=Tryz.sizeOf281
 v27:=Tryz.zeroValue281
 t29:=Tryz.underlying9
 a29:=Tryz.isAgg9
 z29:=Tryz.sizeOf9
 v29:=Tryz.zeroValue9
 t32:=Tryz.underlying311
 a32:=Tryz.isAgg311
 z32:=Tryz.sizeOf311
 v32:=Tryz.zeroValue311
 t35:=Tryz.underlying350
 a35:=Tryz.isAgg350
 z35:=Tryz.sizeOf350
 v35:=Tryz.zeroValue350
 t36:=Tryz.underlying351
 a36:=Tryz.isAgg351
 z36:=Tryz.sizeOf351
 v36:=Tryz.zeroValue351
 t41:=Tryz.underlying180
 a41:=Tryz.isAgg180
 z41:=Tryz.sizeOf180
 v41:=Tryz.zeroValue180
 t44:=Tryz.underlying357
 a44:=Tryz.isAgg357
 z44:=Tryz.sizeOf357
 v44:=Tryz.zeroValue357
 t46:=Tryz.underlying359
 a46:=Tryz.isAgg359
 z46:=Tryz.sizeOf359
 v46:=Tryz.zeroValue359
 t53:=Tryz.underlying386
 a53:=Tryz.isAgg386
 z53:=Tryz.sizeOf386
 v53:=Tryz.zeroValue386
 t57:=Tryz.underlying379
 a57:=Tryz.isAgg379
 z57:=Tryz.sizeOf379
 v57:=Tryz.zeroValue379
 t63:=Tryz.underlying406
 a63:=Tryz.isAgg406
 z63:=Tryz.sizeOf406
 v63:=Tryz.zeroValue406
 t64:=Tryz.underlying407
 a64:=Tryz.isAgg407
 z64:=Tryz.sizeOf407
 v64:=Tryz.zeroValue407}
def Tryz.Iv:Go.Shelf.Ren:=⟨λ|137=>341|217=>363|266=>371|n=>n,λ|9=>9|5=>5|3=>3|n=>n,λ|n=>n⟩
def Tryz.Rj:Go.Proofs.Lays.n137 Tryz.prog Tryz.Iv:={
 mixed:=by kernel_rfl
 f137:=Tryz.func341.trans ac
 f217:=Tryz.func363.trans ac
 f266:=Tryz.func371.trans ac
 t3:=Tryz.underlying3
 a3:=Tryz.isAgg3
 z3:=Tryz.sizeOf3
 v3:=Tryz.zeroValue3
 t5:=Tryz.underlying5
 a5:=Tryz.isAgg5
 z5:=Tryz.sizeOf5
 v5:=Tryz.zeroValue5
 t9:=Tryz.underlying9
 a9:=Tryz.isAgg9
 z9:=Tryz.sizeOf9
 v9:=Tryz.zeroValue9}
def Tryz.Iw:Go.Shelf.Ren:=⟨λ|129=>276|n=>n,λ|53=>359|3=>3|4=>4|46=>311|5=>5|9=>9|n=>n,λ|n=>n⟩
def Tryz.RA:Go.Proofs.Lays.n129 Tryz.prog Tryz.Iw:={
 mixed:=by kernel_rfl
 f129:=Tryz.func276.trans ac
 t3:=Tryz.underlying3
 a3:=Tryz.isAgg3
 z3:=Tryz.sizeOf3
 v3:=Tryz.zeroValue3
 t4:=Tryz.underlying4
 a4:=Tryz.isAgg4
 z4:=Tryz.sizeOf4
 v4:=Tryz.zeroValue4
 t5:=Tryz.underlying5
 a5:=Tryz.isAgg5
 z5:=Tryz.sizeOf5
 v5:=Tryz.zeroValue5
 t9:=Tryz.underlying9
 a9:=Tryz.isAgg9
 z9:=Tryz.sizeOf9
 v9:=Tryz.zeroValue9
 t46:=Tryz.underlying311
 a46:=Tryz.isAgg311
 z46:=Tryz.sizeOf311
 v46:=Tryz.zeroValue311
 t53:=Tryz.underlying359
 a53:=Tryz.isAgg359
 z53:=Tryz.sizeOf359
 v53:=Tryz.zeroValue359}
def Tryz.FM:Go.Shelf.Ren:=⟨λ|171=>173|243=>245|246=>293|283=>322|284=>323|285=>324|286=>325|129=>276|317=>346|318=>347|319=>348|320=>349|337=>364|338=>365|n=>n,λ|3=>3|9=>9|2=>2|4=>4|171=>398|0=>0|53=>359|37=>197|5=>5|173=>400|212=>420|51=>357|20=>20|213=>421|46=>311|232=>432|233=>433|n=>n,λ|17=>4|18=>6|19=>7|n=>n⟩
def Tryz.PI:Go.Proofs.LaysM.n171 Tryz.prog Tryz.FM:={
 mixed:=by kernel_rfl
 f129:=Tryz.func276.trans ac
 f171:=Tryz.func173.trans ac
 f243:=Tryz.func245.trans ac
 f246:=Tryz.func293.trans ac
 f283:=Tryz.func322.trans ac
 f284:=Tryz.func323.trans ac
 f285:=Tryz.func324.trans ac
 f286:=Tryz.func325.trans ac
 f317:=Tryz.func346.trans ac
 f318:=Tryz.func347.trans ac
 f319:=Tryz.func348.trans ac
 f320:=Tryz.func349.trans ac
 f337:=Tryz.func364.trans ac
 f338:=Tryz.func365.trans ac
 t0:=Tryz.underlying0
 a0:=Tryz.isAgg0
 z0:=Tryz.sizeOf0
 v0:=Tryz.zeroValue0
 t2:=Tryz.underlying2
 a2:=Tryz.isAgg2
 z2:=Tryz.sizeOf2
 v2:=Tryz.zeroValue2
 t3:=Tryz.underlying3
 a3:=Tryz.isAgg3
 z3:=Tryz.sizeOf3
 v3:=Tryz.zeroValue3
 t4:=Tryz.underlying4
 a4:=Tryz.isAgg4
 z4:=Tryz.sizeOf4
 v4:=Tryz.zeroValue4
 t5:=Tryz.underlying5
 a5:=Tryz.isAgg5
 z5:=Tryz.sizeOf5
 v5:=Tryz.zeroValue5
 t9:=Tryz.underlying9
 a9:=Tryz.isAgg9
 z9:=Tryz.sizeOf9
 v9:=Tryz.zeroValue9
 t20:=Tryz.underlying20
 a20:=Tryz.isAgg20
 z20:=Tryz.sizeOf20
 v20:=Tryz.zeroValue20
 t37:=Tryz.underlying197
 a37:=Tryz.isAgg197
 z37:=Tryz.sizeOf197
 v37:=Tryz.zeroValue197
 t46:=Tryz.underlying311
 a46:=Tryz.isAgg311
 z46:=Tryz.sizeOf311
 v46:=Tryz.zeroValue311
 t51:=Tryz.underlying357
 a51:=Tryz.isAgg357
 z51:=Tryz.sizeOf357
 v51:=Tryz.zeroValue357
 t53:=Tryz.underlying359
 a53:=Tryz.isAgg359
 z53:=Tryz.sizeOf359
 v53:=Tryz.zeroValue359
 t171:=Tryz.underlying398
 a171:=Tryz.isAgg398
 z171:=Tryz.sizeOf398
 v171:=Tryz.zeroValue398
 t173:=Tryz.underlying400
 a173:=Tryz.isAgg400
 z173:=Tryz.sizeOf400
 v173:=Tryz.zeroValue400
 t212:=Tryz.underlying420
 a212:=Tryz.isAgg420
 z212:=Tryz.sizeOf420
 v212:=Tryz.zeroValue420
 t213:=Tryz.underlying421
 a213:=Tryz.isAgg421
 z213:=Tryz.sizeOf421
 t232:=Tryz.underlying432
 a232:=Tryz.isAgg432
 z232:=Tryz.sizeOf432
 v232:=Tryz.zeroValue432
 t233:=Tryz.underlying433
 a233:=Tryz.isAgg433
 z233:=Tryz.sizeOf433
 v233:=Tryz.zeroValue433
 g17:=by kernel_rfl
 g18:=by kernel_rfl
 g19:=by kernel_rfl
 i0:=by kernel_rfl
 i2:=by kernel_rfl
 i3:=by kernel_rfl
 i4:=by kernel_rfl
 i5:=by kernel_rfl
 i9:=by kernel_rfl
 i20:=by kernel_rfl
 i37:=by kernel_rfl
 i46:=by kernel_rfl
 i51:=by kernel_rfl
 i53:=by kernel_rfl
 i171:=by kernel_rfl
 i173:=by kernel_rfl
 i212:=by kernel_rfl
 i232:=by kernel_rfl
 i233:=by kernel_rfl
 m17:=by kernel_rfl
 m18:=by kernel_rfl
 m19:=by kernel_rfl}
def Tryz.DM:Go.Shelf.Ren:=⟨λ|7=>240|10=>289|n=>n,λ|23=>147|26=>3|3=>3|28=>329|0=>0|27=>328|33=>175|4=>4|n=>n,λ|n=>n⟩
def Tryz.UJ:Go.Proofs.SlLaysZI.n7 Tryz.prog Tryz.DM:={
 mixed:=by kernel_rfl
 f7:=⟨Tryz.f240.name,am,Tryz.func240.trans ac⟩
 f10:=⟨Tryz.f289.name,am,Tryz.func289.trans ac⟩
 t0:=Tryz.underlying0
 a0:=Tryz.isAgg0
 z0:=Tryz.sizeOf0
 v0:=Tryz.zeroValue0
 t4:=Tryz.underlying4
 a4:=Tryz.isAgg4
 z4:=Tryz.sizeOf4
 v4:=Tryz.zeroValue4
 t23:=Tryz.underlying147
 a23:=Tryz.isAgg147
 z23:=Tryz.sizeOf147
 v23:=Tryz.zeroValue147
 t26:=Tryz.underlying3
 a26:=Tryz.isAgg3
 z26:=Tryz.sizeOf3
 v26:=Tryz.zeroValue3
 t27:=Tryz.underlying328
 a27:=Tryz.isAgg328
 z27:=Tryz.sizeOf328
 v27:=Tryz.zeroValue328
 t28:=Tryz.underlying329
 a28:=Tryz.isAgg329
 z28:=Tryz.sizeOf329
 v28:=Tryz.zeroValue329
 t33:=Tryz.underlying175
 a33:=Tryz.isAgg175
 z33:=Tryz.sizeOf175
 v33:=Tryz.zeroValue175}
def Tryz.xq:Go.Shelf.Ren:=⟨λ|6=>239|8=>287|9=>288|11=>318|13=>207|12=>319|23=>275|24=>276|14=>333|15=>334|16=>335|17=>336|18=>337|19=>338|20=>311|21=>339|22=>340|25=>360|26=>307|27=>308|28=>361|29=>362|30=>277|31=>370|n=>n,λ|26=>3|28=>329|24=>27|0=>0|3=>3|37=>311|48=>357|50=>359|4=>4|40=>351|39=>350|45=>180|5=>5|9=>9|51=>386|55=>379|57=>406|58=>407|33=>175|n=>n,λ|n=>n⟩
def Tryz.RU:Go.Proofs.SlLaysZI.n6 Tryz.prog Tryz.xq:={
 mixed:=by kernel_rfl
 f6:=⟨Tryz.f239.name,am,Tryz.func239.trans ac⟩
 f8:=⟨Tryz.f287.name,am,Tryz.func287.trans ac⟩
 f11:=⟨Tryz.f318.name,am,Tryz.func318.trans ac⟩
 t0:=Tryz.underlying0
 a0:=Tryz.isAgg0
 z0:=Tryz.sizeOf0
 v0:=Tryz.zeroValue0
 t24:=Tryz.underlying27
 a24:=Tryz.isAgg27
 z24:=Tryz.sizeOf27
 v24:=Tryz.zeroValue27
 t26:=Tryz.underlying3
 a26:=Tryz.isAgg3
 z26:=Tryz.sizeOf3
 v26:=Tryz.zeroValue3
 t28:=Tryz.underlying329
 a28:=Tryz.isAgg329
 z28:=Tryz.sizeOf329
 v28:=Tryz.zeroValue329
 i26:=by kernel_rfl}
def Tryz.Nw:Go.Shelf.Ren:=⟨λ|5=>288|8=>207|7=>319|19=>275|20=>276|10=>333|11=>334|12=>335|13=>336|14=>337|15=>338|16=>311|17=>339|18=>340|30=>360|31=>307|32=>308|33=>361|34=>362|35=>277|40=>370|n=>n,λ|23=>27|25=>3|3=>3|32=>311|22=>27|0=>0|44=>357|46=>359|4=>4|36=>351|35=>350|41=>180|5=>5|9=>9|53=>386|57=>379|63=>406|64=>407|n=>n,λ|n=>n⟩
def Tryz.uV:Go.Proofs.SlLaysM.n5 Tryz.prog Tryz.Nw:={
 mixed:=by kernel_rfl
 f5:=⟨Tryz.f288.name,am,Tryz.func288.trans ac⟩
 f7:=⟨Tryz.f319.name,am,Tryz.func319.trans ac⟩
 f8:=Tryz.func207.trans ac
 f10:=⟨Tryz.f333.name,am,Tryz.func333.trans ac⟩
 f11:=⟨Tryz.f334.name,am,Tryz.func334.trans ac⟩
 f12:=⟨Tryz.f335.name,am,Tryz.func335.trans ac⟩
 f13:=⟨Tryz.f336.name,am,Tryz.func336.trans ac⟩
 f14:=⟨Tryz.f337.name,am,Tryz.func337.trans ac⟩
 f15:=⟨Tryz.f338.name,am,Tryz.func338.trans ac⟩
 f16:=⟨Tryz.f311.name,am,Tryz.func311.trans ac⟩
 f17:=⟨Tryz.f339.name,am,Tryz.func339.trans ac⟩
 f18:=⟨Tryz.f340.name,am,Tryz.func340.trans ac⟩
 f19:=Tryz.func275.trans ac
 f20:=Tryz.func276.trans ac
 f30:=⟨Tryz.f360.name,am,Tryz.func360.trans ac⟩
 f31:=Tryz.func307.trans ac
 f32:=Tryz.func308.trans ac
 f33:=⟨Tryz.f361.name,am,Tryz.func361.trans ac⟩
 f34:=⟨Tryz.f362.name,am,Tryz.func362.trans ac⟩
 f35:=⟨Tryz.f277.name,am,Tryz.func277.trans ac⟩
 f40:=⟨Tryz.f370.name,am,Tryz.func370.trans ac⟩
 t0:=Tryz.underlying0
 a0:=Tryz.isAgg0
 z0:=Tryz.sizeOf0
 v0:=Tryz.zeroValue0
 t3:=Tryz.underlying3
 a3:=Tryz.isAgg3
 z3:=Tryz.sizeOf3
 v3:=Tryz.zeroValue3
 t4:=Tryz.underlying4
 a4:=Tryz.isAgg4
 z4:=Tryz.sizeOf4
 v4:=Tryz.zeroValue4
 t5:=Tryz.underlying5
 a5:=Tryz.isAgg5
 z5:=Tryz.sizeOf5
 v5:=Tryz.zeroValue5
 t9:=Tryz.underlying9
 a9:=Tryz.isAgg9
 z9:=Tryz.sizeOf9
 v9:=Tryz.zeroValue9
 t22:=Tryz.underlying27
 a22:=Tryz.isAgg27
 z22:=Tryz.sizeOf27
 v22:=Tryz.zeroValue27
 t23:=Tryz.underlying27
 a23:=Tryz.isAgg27
 z23:=Tryz.sizeOf27
 v23:=Tryz.zeroValue27
 t25:=Tryz.underlying3
 a25:=Tryz.isAgg3
 z25:=Tryz.sizeOf3
 v25:=Tryz.zeroValue3
 t32:=Tryz.underlying311
 a32:=Tryz.isAgg311
 z32:=Tryz.sizeOf311
 v32:=Tryz.zeroValue311
 t35:=Tryz.underlying350
 a35:=Tryz.isAgg350
 z35:=Tryz.sizeOf350
 v35:=Tryz.zeroValue350
 t36:=Tryz.underlying351
 a36:=Tryz.isAgg351
 z36:=Tryz.sizeOf351
 v36:=Tryz.zeroValue351
 t41:=Tryz.underlying180
 a41:=Tryz.isAgg180
 z41:=Tryz.sizeOf180
 v41:=Tryz.zeroValue180
 t44:=Tryz.underlying357
 a44:=Tryz.isAgg357
 z44:=Tryz.sizeOf357
 v44:=Tryz.zeroValue357
 t46:=Tryz.underlying359
 a46:=Tryz.isAgg359
 z46:=Tryz.sizeOf359
 v46:=Tryz.zeroValue359
 t53:=Tryz.underlying386
 a53:=Tryz.isAgg386
 z53:=Tryz.sizeOf386
 v53:=Tryz.zeroValue386
 t57:=Tryz.underlying379
 a57:=Tryz.isAgg379
 z57:=Tryz.sizeOf379
 v57:=Tryz.zeroValue379
 t63:=Tryz.underlying406
 a63:=Tryz.isAgg406
 z63:=Tryz.sizeOf406
 v63:=Tryz.zeroValue406
 t64:=Tryz.underlying407
 a64:=Tryz.isAgg407
 z64:=Tryz.sizeOf407
 v64:=Tryz.zeroValue407}
end Go.Proofs
namespace Go.aw
open Go
def wrap_u64(P:Int):XG .u64 P=P % 18446744073709551616:=by
 unfold XG;simp[IntKind.signed,IntKind.bits]
variable{c6 w:List UInt8}{a c i n:Nat}{d:ZH}{h:Program}{B g o:TypeId}{l s:XR}{b:World}
def Dz(P:a<18446744073709551616):XG .u64 (a:Int)=a:=by rw[wrap_u64];omega
def Kg(t:iH h g o 1 1){L D:XN}(e:aT fz o L b (XM a) c i w)(C:Row fz 1 b D d c c6)(k:∀m,aT fz o (·=a) m (XM a) c i c6->ak (·=a) b m->m.heap.size=b.heap.size->l (XH c) m):
  aH h (Builtin.copy_ #[g,g] B #[.slice (XM a) c i,.slice d c n]) b l s:=by
 obtain⟨a1,a2,M,hz,N,a3,a4⟩:=t.info;have E:(h.info? o).map (·.size)=some 1:=by rw[M];simp[N]
 have p:=C.len;have O:=e.len dC;obtain⟨a5,D0,F,a6,a7⟩:=e.body;rcases F.cases with⟨u,_⟩|⟨Q,P,u,v,R,S,a8⟩
 ·cases u
 cases u
 by_cases H:c=0
 ·subst H
  have:c6=[]:=QW p.symm;subst this;have:w=[]:=QW O.symm;subst this;have q:=run_copy_none (P:=h) b g g B o (XM a) d 0 i 0 n t.under E (by rfl);refine aH.mk (v:=XH 0) q (k b ?_ (ak.refl _) rfl);have:=e.alone;exact⟨by obtain⟨cs,D,T,f,a9⟩:=this.body;exact⟨cs,λ_=>False,T,by rw[show cs=[]from f];rfl,λ_ e=>e.elim⟩,λf j=>by simpa[aI]using j.symm,λf j=>by rw[j];exact ay v⟩
 ·obtain⟨cs,x,U⟩:=C.br
  have y:c6≠[]:=by rintro rfl;simp at p;exact H p
  obtain⟨f,z,V,_,_,W⟩:=U y dC;subst V;have r:cs.length=c:=by have:=x.length;rw[this,p];show _*1=_;omega
  have b0:P.size=i:=by rw[S];show i*1=i;omega
  have q:=run_copy_row (P:=h) b g g B o a 0 c i ⟨f,z,none⟩ c n P o cs t.under E v (by rw[r];simp[Nat.min_self]) (λX Y Z=>by rw[Addr.add_lit];exact W X Y Z) oM (x.OQ);rw[r]at q;have I:=setRow_heap b a P (P.toList.take 0++cs++P.toList.drop (0+c)).toArray o (0,0) v;refine aH.mk q (k _ ⟨⟨cs,λ_=>False,⟨⟨by rw[r];show c=c*1;omega,.inr ⟨a,i,_,rfl,Qj _,I,R,?_,?_,?_⟩⟩⟩,x.free,λ_ e=>e.elim⟩,λf j=>by simpa[aI]using j.symm,λf j=>by subst j;exact ay I⟩ ⟨rfl,rfl,rfl,by simp[World.setRow],λa0 hk y=>setRow_other b a a0 _ y⟩ (by simp[World.setRow]))
  ·rcases F.row.2 with⟨A,_⟩|⟨Q,J,K,A,_,_,_,hm,_⟩
   ·cases A
   ·cases A;exact hm
  ·show _=i*1
   simp;omega
  ·simp only[List.take_zero,List.nil_append,Xz]
   show(cs++P.toList.drop c).take (c*1)=cs;rw[Nat.mul_one,<-r,List.take_left]
end Go.aw
namespace Go.Proofs.YtblabbpipmodgaaGreatDoor
open Go.aw
variable{e:Int}{w:List UInt8}{a c:Nat}{d:ZH}{b:World}
def MZ(c:aN e):ZG 304 #[XH e] b (Ok λd f=>d= .tuple #[.int .u64 (e.natAbs:Int),.int .u8 (if e<0 then 16 else 0)]/\b=f):=by
 unfold aN at c;refine GK (an.dec (λP=>?_) (λP=>?_))
 ·refine Ok.mk ⟨?_,rfl⟩
  rw[Zx P,wrap_u64,wrap_u64];have a:(0-e % 18446744073709551616) % 18446744073709551616=(e.natAbs:Int):=oM
  rw[a]
 ·refine Ok.mk ⟨?_,rfl⟩
  rw[Zq P,wrap_u64];have a:e % 18446744073709551616=(e.natAbs:Int):=oM
  rw[a]
def bits_Len64{P:Nat}{a:World}(d:P<18446744073709551616):ZG 276 #[.int .u64 (P:Int)] a (Ok λc b=>c= XH (Lib.bitLen P:Int)/\a=b):=by
 refine(Any.bits_Len64 Tryz.RA (P:Int) a oM oM).mono ?_;rintro e b ⟨rfl,rfl⟩;exact Ok.mk ⟨by rw[Qx],rfl⟩
def Tp(c:a<=8)(P:Bool):Oj .u8 (if P then 16 else 0) (XG .u8 (a:Int))=((UInt8.ofNat (a+if P then 16 else 0)).toNat:Int):=by
 have b:(List.range 9).all (λa=>Oj .u8 16 (XG .u8 (a:Int))==((UInt8.ofNat (a+16)).toNat:Int)&&Oj .u8 0 (XG .u8 (a:Int))==((UInt8.ofNat (a+0)).toNat:Int))=true:=by decide+kernel
 have:=ZY.1 b a (List.mem_range.2 oM);simp only[QK,beq_iff_eq]at this
 cases P
 ·exact this.2
 ·exact this.1
def Ai{m:Int}{D:XN}(s:aN m)(g:Row fz 1 b D d a w)(K:a+9<=aO)(hD:∀f,D f->f<b.heap.size):
  ZG 260 #[.slice d a c,XH m] b (Ok (oK fz 5 b (w++nu m))):=by
 have k:=g.len;have l:=s;unfold aN at l;have L:=K;unfold aO at L;have t:m.natAbs<2 ^ 64:=oM
 have u:=HH t;have M:=xl _ t;refine Jb (PC.ok (MZ s) ?_);rintro _ _ ⟨rfl,rfl⟩;refine⟨_,_,rfl,PC.ok (bits_Len64 oM) ?_⟩;rintro _ _ ⟨rfl,rfl⟩;have N:XG .i64 (Int.tdiv (XG .i64 ((Lib.bitLen m.natAbs:Int)+7)) 8)=((jr m.natAbs).length:Int):=by
  rw[wrap_i64 (x:=(Lib.bitLen m.natAbs:Int)+7) bb,Int.tdiv_eq_ediv_of_nonneg oM,wrap_i64 bb,M];omega
 have O:XG .i64 ((XG .i64 (((a:Nat):Int)+1))+((jr m.natAbs).length:Int))=((a+1+(jr m.natAbs).length:Nat):Int):=by
  rw[wrap_i64 (x:=((a:Nat):Int)+1) bb,wrap_i64 bb];omega
 refine⟨_,rfl,?_⟩;rw[N,O];refine Tq si kR oM ba λw1 Q v b4=>?_;refine⟨_,_,_,rfl,Kg si Q (g.ah v) λR S T b5=>⟨_,rfl,?_⟩⟩;have y:ai b R:=v.new T λf g=>.inr oM;rw[show XG .u8 ((jr m.natAbs).length:Int)=XG .u8 ((jr m.natAbs).length:Int)from rfl];have z:=Tp u (decide (m<0));simp only[Zk]at z;rw[z];refine Gc S si (x:=UInt8.ofNat ((jr m.natAbs).length+if m<0 then 16 else 0)) (D:=λ_=>False) ⟨rfl,trivial⟩ (λ_ h=>h.elim) (by rw[<-k];unfold aO;omega) (by rw[<-k];unfold maxLen;omega) λa4 c3 U V A W X b6=>?_;have Y:ai b U:=y.new W λf g=>.inr (by simp only[aI,Q1]at g;omega);have Z:a+1=(w++[UInt8.ofNat ((jr m.natAbs).length+if m<0 then 16 else 0)]).length:=by simp[k]
 generalize a8:w++[UInt8.ofNat ((jr m.natAbs).length+if m<0 then 16 else 0)]=n at A Z;have a0:w++nu m=n++(jr m.natAbs).reverse:=by rw[<-a8,XQ];rfl
 rw[a0];generalize a9:(jr m.natAbs).length=e at u⊢;refine⟨_,_,_,rfl,λB C o E F H=>∃P:Nat,P<=e/\F=(e:Int)-1-P/\B=e-P/\o=a+1+P/\∃i,aT fz 5 i H C o E (n++(jr m.natAbs).reverse.take P)/\ai b H/\∀f,i f->b.heap.size<=f,
  ⟨_,0,Qj _,by rw[wrap_i64 bb];omega,rfl,rfl,V,by simpa using A,Y,λf g=>?_⟩,?_⟩
 ·rcases X f g with h|h|h
  ·omega
  ·exact h.elim
  ·have:=y.size;omega
 rintro B C o E F _ p ⟨P,hj,rfl,rfl,rfl,i,j,q,r⟩;refine an.dec (λh1=>?_) (λh1=>?_)
 ·have b7:P<e:=oM
  have b0:XG .i64 (8*((e:Int)-1-P))=((8*(e-1-P):Nat):Int):=by rw[wrap_i64 bb];omega
  rw[b0];have a1:∀x I,(do eqGuard .shr 359 x I (.int .u64 (m.natAbs:Int)) (XH ((8*(e-1-P):Nat):Int));binOp .shr 359 (.int .u64 (m.natAbs:Int)) (XH ((8*(e-1-P):Nat):Int)):Sem Value).run XP p=
    .ok (.int .u64 ((m.natAbs/256 ^(e-1-P):Nat):Int)) p:=λx I=>by
   have h0:=shift_shr .u64 .i64 (m.natAbs:Int) ((8*(e-1-P):Nat):Int) oM (by show _<=((64:Nat):Int);omega);have e1:(m.natAbs:Int)/2 ^(Int.toNat ((8*(e-1-P):Nat):Int))=((m.natAbs/256 ^(e-1-P):Nat):Int):=by
    have e2:(256:Nat) ^(e-1-P)=2 ^(8*(e-1-P)):=by rw[Nat.pow_mul]
    rw[Qx,e2];simp
   show(Op.shift .shr .u64 (m.natAbs:Int) .i64 ((8*(e-1-P):Nat):Int)).run XP p=_;rw[h0,e1]
   rfl
  refine aH.mk (a1 _ _) ⟨_,rfl,?_⟩;have a2:(jr m.natAbs).reverse[P]? =some (UInt8.ofNat (m.natAbs/256 ^(e-1-P))):=by
   rw[List.getElem?_reverse oM,a9];rw[Pt _ _ oM]
   congr 1
   refine UInt8.toNat_inj.1 ?_;rw[ZK,ZK];omega
  have a3:XG .u8 ((m.natAbs/256 ^(e-1-P):Nat):Int)=((UInt8.ofNat (m.natAbs/256 ^(e-1-P))).toNat:Int):=by
   rw[ZK];unfold XG;simp[IntKind.signed,IntKind.bits]
  rw[a3];have J:(n++(jr m.natAbs).reverse.take P).length=a+1+P:=by simp;omega
  refine Gc j si (x:=UInt8.ofNat (m.natAbs/256 ^(e-1-P))) (D:=λ_=>False) ⟨rfl,trivial⟩ (λ_ h=>h.elim) (by rw[J];unfold aO;omega) (by rw[J];unfold maxLen;omega) λa5 c5 w5 F5 b1 b2 b3 b8=>?_;refine⟨_,_,_,rfl,_,oM,P+1,oM,by rw[wrap_i64 bb];omega,rfl,oM,F5,?_,q.new b2 λf g=>.inr (r f (j.self f g)),λf g=>?_⟩
  ·rw[Qw,a2]
   simpa using b1
  ·rcases b3 f g with h|h|h
   ·exact r f h
   ·exact h.elim
   ·exact Xx q.size h
 ·obtain rfl:P=e:=oM
  rw[Qz bc]at j;exact Ok.mk ⟨_,_,_,i,rfl,j,q,r⟩
end Go.Proofs.YtblabbpipmodgaaGreatDoor
namespace Go.aw
open Go
def Own.set{e:World}{k:TypeId}{l:Nat}{f:ZH}{n a:Nat}{cs:List Value}(o:Own e k l f n a cs){m:Nat}{p:Value}{q:XU}(F:m<cs.length){b c:Nat}(g:f=some ⟨b,c,none⟩)(h:∀P,Own P k l f n a (cs.set m p)->ak (λb=>aI f=some b) e P->P.heap.size=e.heap.size->q P):PS e ⟨b,c+m,none⟩ p q:=by
 have r:=o.row.1;rcases o.row.2 with⟨d,H⟩|⟨I,J,i,d,s,t,u,v,w,j⟩
 ·simp only[XX]at d
  rw[d.1]at g;cases g
 ·simp only[XX]at d
  obtain⟨x,-,y⟩:=d;subst x;subst y
  cases g
  rw[Xz];have z:m<i.size:=by
   have:=Zj List.length j;simp at this;omega
  refine PS.mk t z λP A B C=>h P ⟨⟨by simpa using r,.inr ⟨_,_,_,rfl,s,C,u,v,by simpa using w,?_⟩⟩⟩ (A.mono λb _ E=>by rw[E];rfl) B;rw[Array.toList_setIfInBounds,List.take_set,j]
def bJ.mL{b:Type}{c:Nat}{P:b->List Value}{hl h1}{d:World}{D:XN}:∀{a:List b} {cs:List Value},bJ (flat c P (λ_=>True) hl h1) d D a cs↔cs=a.flatMap P
 |[],cs=>by simp[bJ]
 |x::a,cs=>by
  constructor
  ·rintro⟨f,g,rfl,⟨rfl,-⟩,e⟩
   rw[bJ.mL.1 e];rfl
  ·rintro rfl
   exact⟨P x,a.flatMap P,rfl,⟨rfl,trivial⟩,bJ.mL.2 rfl⟩
def qj{d:Type}{enc:d->List Value}{k:Nat}(e:∀a,(enc a).length=k){x':d}{v:Value}{b:Nat}(h:b<k):∀(f:List d) (P:Nat) (a:d),f[P]? =some a->enc x'=(enc a).set b v->(f.flatMap enc).set (P*k+b) v=(f.set P x').flatMap enc
 |[],P,a,c,_=>by simp at c
 |y::i,0,a,c,g=>by
  simp at c;subst c;rw[List.flatMap_cons,List.set_cons_zero,List.flatMap_cons,Nat.zero_mul,Xz,List.set_append_left _ _ (by rw[e];exact h),g]
 |y::i,P+1,a,c,g=>by
  have:=qj e h i P a (by simpa using c) g;have j:(P+1)*k+b-k=P*k+b:=by rw[X7];omega
  have l:k<=(P+1)*k+b:=by rw[X7];omega
  rw[List.flatMap_cons,List.set_cons_succ,List.flatMap_cons,List.set_append_right _ _ (by rw[e];exact l),e,j,this]
def kj{b:Type}{P:b->List Value}{c:Nat}(d:∀x,(P x).length=c):∀a:List b,(a.flatMap P).length=a.length*c
 |[]=>by simp
 |x::a=>by rw[List.flatMap_cons,QX,d,kj d a,Xq,X7,Nat.one_mul,Nat.add_comm]
variable{F a c i n:Nat}{f:XN}{d r:ZH}{h:Program}{j:Type}{B g o:TypeId}{u:Value}{l s:XR}{b:World}
def aT.set{l:Type}{P:l->List Value}{hl h1}{h:List l}(m:aT (flat a P (λ_=>True) hl h1) g f b d c i h){e j:Nat}{x x':l}{p:XU}(q:h[e]? =some x)(s:j<a)(t:P x'=(P x).set j u)(v:d=some ⟨n,F,none⟩)(o:∀k,aT (flat a P (λ_=>True) hl h1) g f k d c i (h.set e x')->ak (λn=>aI d=some n) b k->k.heap.size=b.heap.size->p k):PS b ⟨n,F+e*a+j,none⟩ u p:=by
 obtain⟨cs,D,w,y,z⟩:=m.body;have A:=bJ.mL.1 y;subst A;have B:e<h.length:=(Qv.1 q).1;rw[Nat.add_assoc];refine w.set (m:=e*a+j) ?_ v λk C E r=>o k ⟨⟨_,D,C,bJ.mL.2 (qj hl s h e x q t),z⟩,m.self,λn H=>by rw[r];exact m.aF n H⟩ E r;rw[kj hl];have:(e+1)*a<=h.length*a:=Q0 _ B;rw[X7]at this;omega
def wx{P:Program}{w:World}(a:Nat)(c h d:TypeId)(i:TypeInfo)(b:Nat)(f:P.underlying c=some (.slice d))(g:P.info? d=some i)(e:Value)(j:Nat)(k:List Value)(l:w.ownsRow a d b e j k)(m:Nat):
  (Builtin.append_ #[c,c] h #[e,.slice none 0 m]).run P w= .ok e w:=by
 rcases l.2 with⟨rfl,rfl⟩|⟨q,n,o,rfl,_,_,p,_⟩
 ·simp[Builtin.append_,run_underlying f,sizeOf,typeInfo,g,Builtin.lenOf,Builtin.firstCells]
 ·simp[Builtin.append_,run_underlying f,sizeOf,typeInfo,g,Builtin.lenOf,Builtin.firstCells,p,storeCells]
def yB{m:ju j}{t:List j}{bytes:Nat}(u:aT m g f b d a c t)(v:iH h o g m.k bytes){D:XN}{k:List j}(w:Row m bytes b D r i k)(A:∀P,D P->P<b.heap.size/\aI d≠some P)(p:(t.length+k.length)*bytes<=aO)(C:t.length+k.length<=maxLen)(q:∀x e y z,aT m g z y x (a+i) e (t++k)->ak (λE=>aI d=some E) b y->(∀P,z P->f P\/D P\/b.heap.size<=P)->(∀P,aI x=some P->f P\/b.heap.size<=P)->l (.slice x (a+i) e) y):
  aH h (Builtin.append_ #[o,o] B #[.slice d a c,.slice r i n]) b l s:=by
 cases r with
 |some N=>exact jX u v w A p C q
 |none=>
  have F:k=[]:=by
   cases k with
   |nil=>rfl
   |cons H O=>obtain⟨P,I,Q,J,_⟩:=w.el 0 H rfl;cases J
  subst F;obtain rfl:i=0:=w.len;obtain⟨K,R,L,S,T,U,V⟩:=iH.info v;obtain⟨cs,W,M,X,Y⟩:=u.body;exact aH.mk (wx (P:=h) (w:=b) 0 o B g K m.k v.under L (.slice d a c) a cs M.row n) (q d c b f (by simpa using u) (ak.refl _) (λP p=>.inl p) λP p=>.inl (u.self P p))
end Go.aw
namespace Go.aw
open Go
def JH(P:UInt8):XG .i64 (P.toNat:Int)=P.toNat:=wrap_i64 (by have:=P.toNat_lt;unfold aN;omega)
def ks(P:UInt8):Nat:=if 16<P.toNat then P.toNat-16 else P.toNat
def Kk(a:UInt8):(XG .i64 (ur .u8 (a.toNat:Int) 16)<=8/\((a.toNat:Int)≠16)↔ks a<=8)/\(ks a<=8->XG .i64 (ur .u8 (a.toNat:Int) 16)=(ks a:Int)/\En .u8 (a.toNat:Int) 16=if 16<a.toNat then 16 else 0):=by
 have b:(List.range 256).all (λP=>decide ((XG .i64 (ur .u8 (P:Int) 16)<=8/\((P:Int)≠16)↔(if 16<P then P-16 else P)<=8)/\((if 16<P then P-16 else P)<=8->XG .i64 (ur .u8 (P:Int) 16)=((if 16<P then P-16 else P:Nat):Int)/\En .u8 (P:Int) 16=if 16<P then 16 else 0)))=true:=by decide+kernel
 have:=ZY.1 b a.toNat (List.mem_range.2 a.toNat_lt);exact XV this
def Kl{P d:Nat}(c:P<72057594037927936)(e:d<256):Oj .u64 (JD .u64 (P:Int) 8) (XG .u64 (d:Int))=((P*256+d:Nat):Int):=by
 have a:JD .u64 (P:Int) 8=((P*256:Nat):Int):=by
  unfold JD;have:min (Int.toNat 8) (IntKind.bits .u64)=8:=dC
  rw[this,wrap_u64];have:((2:Int) ^ 8)=256:=dC
  rw[this];omega
 rw[a,Dz oM];unfold Oj;show XG .u64 ((BitVec.ofInt 64 ((P*256:Nat):Int)|||BitVec.ofInt 64 (d:Int)).toNat:Int)=_;have b:P*256|||d=P*256+d:=by
  have:=(Nat.shiftLeft_add_eq_or_of_lt (a:=P) (i:=8) (b:=d) oM).symm
  rwa [Nat.shiftLeft_eq]at this
 rw[BitVec.ofInt_natCast,BitVec.ofInt_natCast,BitVec.toNat_or,BitVec.toNat_ofNat,BitVec.toNat_ofNat,Nat.mod_eq_of_lt oM,Nat.mod_eq_of_lt oM,b,Dz oM]
variable{w:List UInt8}{a:Nat}{b7:UInt8}
def CW(P:w[a]? =some b7):fX (w.take (a+1))=fX (w.take a)*256+b7.toNat:=by
 rw[Qw,P];exact HI _ _
def nx(P:List UInt8){j m:Nat}(a:j<=m):fX (P.take j)<256 ^ m:=by
 have b:=Lz (P.take j);have c:256 ^(P.take j).length<=256 ^ m:=Nat.pow_le_pow_right oM bc;omega
def Km(P:¬ks b7<=8):rdNum (b7::w)=(5,0,0):=by
 unfold rdNum ks at*;simp only;rw[Zx oM]
def HL(a:ks b7<=8)(P:w.length<ks b7):rdNum (b7::w)=(4,0,0):=by
 unfold rdNum ks at*;simp only;rw[Zq oM,Zx P]
def Nc(b:ks b7<=8)(P:¬w.length<ks b7)(a:(0<ks b7/\w.head? =some 0)\/(¬16<b7.toNat/\2 ^ 63<=fX (w.take (ks b7)))\/(16<b7.toNat/\2 ^ 63<fX (w.take (ks b7)))):rdNum (b7::w)=(5,0,0):=by
 unfold rdNum ks at*;simp only;rw[Zq oM,Zq P,Zx a]
def Ba(b:ks b7<=8)(P:¬w.length<ks b7)(a:¬((0<ks b7/\w.head? =some 0)\/(¬16<b7.toNat/\2 ^ 63<=fX (w.take (ks b7)))\/(16<b7.toNat/\2 ^ 63<fX (w.take (ks b7))))):
  rdNum (b7::w)=(0,if 16<b7.toNat then-(fX (w.take (ks b7)):Int)else fX (w.take (ks b7)),ks b7+1):=by
 unfold rdNum ks at*;simp only;rw[Zq oM,Zq P,Zq a]
end Go.aw
namespace Go.Proofs.YtblabbpipmodgaaGreatDoor
open Go.aw
structure eU (w:World) (p:Nat) (F:XN) (r:lG):Prop where
 body:∃a n cap G,w.heap[p]? =some (.cells #[.slice a n cap,XH (r.pos:Int),XH r.uP] 340 (0,0))/\aT fz 5 G w a n cap r.bytes/\(∀b,G b->F b/\b≠p)
 self:F p
 aF:∀b,F b->b<w.heap.size
 fit:r.Fit
 dB:r.bytes.length<=aO
variable{p:Array Value}{K:Bool}{y:FuncId}{e:Int}{a3:List PanicEntry->XU}{w:List UInt8}{a c i:Nat}{f:XN}{d:ZH}{l s:XR}{b k:World}{Y:lG}
def eU.af{S d:XN}(c:eU b a d Y)(e:ak S b k)(h:∀P,d P->¬S P):eU k a d Y:=by
 obtain⟨j,l,f,G,m,n,i⟩:=c.body;exact⟨⟨j,l,f,G,e.get m (h _ c.self),n.af e (λP g=>h P (i P g).1),i⟩,c.self,λP g=>Qk (c.aF P g) e.size,c.fit,c.dB⟩
def eU.ah(P:eU b a f Y)(c:ai b k):eU k a f Y:=P.af c λ_ _ P=>P
def eU.eE{e w':World}{g r':lG}(h:eU e a f g){G:XN}(l:aT fz 5 G e d c i g.bytes)(j:∀P,G P->f P/\P≠a)(k:ak (·=a) e w')(m:w'.heap[a]? =some (.cells #[.slice d c i,XH (r'.pos:Int),XH r'.uP] 340 (0,0)))(b:r'.bytes=g.bytes)(n:r'.Fit):eU w' a f r':=
 ⟨⟨d,c,i,G,m,by rw[b];exact l.af k λP b=>(j P b).2,j⟩,h.self,λP b=>Qk (h.aF P b) k.size,n,by rw[b];exact h.dB⟩
def CV{D:XN}(e:Row fz 1 b D d a w)(o:∀P,D P->P<b.heap.size):
  ZG 183 #[.slice d a c] b (Ok λp k=>∃l m,p= XL l/\eU k l m ⟨w,0,0⟩/\ai b k/\∀P,m P->b.heap.size<=P):=by
 have q:=e.len;have r:=e.dB;refine GF (yB (aT.nil b) si e (λP h=>⟨o P h,by simp[aI]⟩) bc (by unfold aO at r;unfold maxLen;simp;omega) λf s i z t u _ v=>?_);refine⟨_,_,_,rfl,PA.mk λA j B x=>?_⟩;have n:ai b i:=u.mono λP _ e=>by simp[aI]at e
 have g:=t.alone;rw[List.nil_append]at g;have y:∀P,aI f=some P->b.heap.size<=P:=λP e=>(v P e).elim (λh=>h.elim) id;refine Ok.mk ⟨i.heap.size,λP=>P=i.heap.size\/aI f=some P,rfl,⟨⟨f,_,s,λP=>aI f=some P,x,g.ah j,λP e=>⟨.inr e,?_⟩⟩,.inl rfl,?_,⟨Qj _,.inl rfl⟩,by rw[<-q];omega⟩,n.then j,?_⟩
 ·have:=g.aF P e;omega
 ·rintro P (rfl|e)
  ·omega
  ·have:=g.aF P e;have:=j.size;omega
 ·rintro P (rfl|e)
  ·exact n.size
  ·exact y P e
def Sv(P:Int):List PanicEntry:=[{v:=.iface 376 (XH P),recovered:=false}]
def fC(P:K=true->l (.tuple #[]) b)(a:K=false->a3 (Sv e) b):
  PC XP 301 #[.bool K,XH e] b l a3:=by
 cases K
 ·refine wJ (an.tt rfl ?_)
  exact aH.panics (v:=.iface 376 (XH e)) rfl (a rfl)
 ·exact wJ (an.ff rfl (P rfl))
def Tv(c:World)(b:Nat)(d:XN)(P:lG)(no:Int)(g:XR)(h:Nat):XT:=λe a=>
 ((no=0/\eU a b d ⟨P.bytes,P.pos+h,P.uP⟩/\∃f,e= .returned f/\g f a)\/(no≠0/\e= .panicked (Sv no)/\∃i,eU a b d ⟨P.bytes,i,P.uP⟩))/\ak (·=b) c a/\a.heap.size=c.heap.size
def PC.red{no:Int}(e:ZG y p b (Tv b a f Y no l c))(k:no=0->∀d P,eU P a f ⟨Y.bytes,Y.pos+c,Y.uP⟩->l d P->ak (·=a) b P->P.heap.size=b.heap.size->s d P)(m:no≠0->∀P,(∃n,eU P a f ⟨Y.bytes,n,Y.uP⟩)->ak (·=a) b P->P.heap.size=b.heap.size->a3 (Sv no) P):PC XP y p b s a3:=
 e.mono λq P ⟨e,i,j⟩=>by
  rcases e with⟨g,h,d,rfl,o⟩|⟨g,rfl,h⟩
  ·exact k g d P h o i j
  ·exact m g P h i j
def LD{m:Nat}(d:eU b a f Y)(M:m<=2147483647):
  ZG 302 #[XL a,XH (m:Int)] b (Tv b a f Y (if m<=Y.bytes.length-Y.pos then 0 else 4) (λx y=>∃e z,x= .slice e m z/\Row fz 1 y f e m ((Y.bytes.drop Y.pos).take m)) m):=by
 obtain⟨e,q,P,G,A,h,k⟩:=d.body;have N:=d.fit.pos;have B:=d.dB;have O:=h.len dC;have C:=h.jN;unfold aO at B;refine sR λr s=>?_;have i:ai b r:=s.af;have j:=i.get A id;have t:r.heap.size=b.heap.size:=by rw[s.heap]
 refine⟨a,0,rfl,e,q,P,ae j rfl,a,0,rfl,_,ae j rfl,fC (λc=>?_) (λc=>?_)⟩
 ·have c:=XV c
  rw[wrap_i64 bb]at c;refine⟨rfl,a,0,rfl,_,ae j rfl,a,0,rfl,PS.mk j sM λE F H g=>?_⟩;have I:XG .i64 ((Y.pos:Int)+(m:Int))=((Y.pos+m:Nat):Int):=by rw[wrap_i64 bb];omega
  rw[I]at g;have J:XG .i64 (((Y.pos+m:Nat):Int)-(m:Int))=(Y.pos:Int):=by rw[wrap_i64 bb];omega
  refine⟨a,0,rfl,e,q,P,ae g rfl,a,0,rfl,_,ae g rfl,a,0,rfl,_,ae g rfl,?_⟩;rw[J];refine⟨oM,oM,oM,λl u=>?_⟩;have v:ai E l:=u.af;have n:ak (·=a) b l:=((i.af).then F).ah v;have K:eU l a f ⟨Y.bytes,Y.pos+m,Y.uP⟩:=d.eE (r':=⟨Y.bytes,Y.pos+m,Y.uP⟩) h k n (v.get g id) rfl ⟨by show Y.pos+m<=Y.bytes.length;omega,d.fit.uP⟩;refine⟨.inl ⟨Zx oM,K,_,rfl,cx e Y.pos P 1,P-Y.pos,?_⟩,n,by rw[u.heap,H,t]⟩;simp only[Qx];rw[show Y.pos+m-Y.pos=m by omega];refine⟨rfl,?_⟩;have o:=(h.row (bytes:=1) dC ba).part (lo:=Y.pos) (hi:=Y.pos+m) (cap:=P) oM oM C;rw[show Y.pos+m-Y.pos=m by omega]at o;have L:(Y.bytes.take (Y.pos+m)).drop Y.pos=(Y.bytes.drop Y.pos).take m:=by rw[List.drop_take];congr 1;omega
  rw[L]at o;exact((o.af n λp c=>(k p c).2)).mono λp c=>(k p c).1
 ·intro _ _
  have c:=Xy c;rw[wrap_i64 bb]at c;have w:¬m<=Y.bytes.length-Y.pos:=oM
  refine⟨.inr ⟨by rw[Zq w];decide,by rw[Zq w],Y.pos,?_⟩,i.af,t⟩;exact d.ah i
def DB(M:eU b a f Y):
  ZG 256 #[XL a] b (Tv b a f Y Y.num.1 (λt h=>t= XH Y.num.2.1) Y.num.2.2):=by
 have x:=M.fit.pos;have r:(Y.bytes.drop Y.pos).length=Y.bytes.length-Y.pos:=XZ ..;generalize s:Y.bytes.drop Y.pos=A at r;have Z:Y.num=rdNum A:=by unfold lG.num;rw[s]
 rw[Z];refine pA (PC.red (LD (m:=1) M oM) ?_ ?_)
 rotate_left
 ·intro l y B u v
  have:¬1<=Y.bytes.length-Y.pos:=λg=>l (Zx g);rw[Zq this];have:A=[]:=QW oM;subst this;exact⟨.inr ⟨dC,rfl,B⟩,u,v⟩
 rintro l _ y N ⟨a1,c1,rfl,O⟩ u v;have Q:1<=Y.bytes.length-Y.pos:=by
  by_cases g:1<=Y.bytes.length-Y.pos
  ·exact g
  ·rw[Zq g]at l;cases l
 rw[s]at O
 match A,s,r with
 |[],s,r=>simp at r;omega
 |P::e,s,r=>
 have b1:e.length=Y.bytes.length-Y.pos-1:=by simp at r;omega
 have a7:Y.bytes.drop (Y.pos+1)=e:=by rw[<-List.drop_drop,s];rfl
 obtain⟨b5,o6,n,rfl,o,_,c⟩:=O.lu (i:=0) oM;obtain rfl:P=n:=by simpa using o
 obtain⟨C,a8⟩:=Kk P;refine⟨_,_,_,rfl,b5,o6,rfl,oM,oM,_,c,?_⟩;refine⟨λh=>ks P<=8/\h=y,?_,?_⟩
 ·have k:¬ks P<=8->∀h,h=y->Tv b a f Y (rdNum (P::e)).1 (λt h=>t= XH (rdNum (P::e)).2.1) (rdNum (P::e)).2.2 (.panicked (Sv 5)) h:=by
   rintro p h rfl;rw[Km p];exact⟨.inr ⟨dC,rfl,Y.pos+1,N⟩,u,v⟩
  refine an.dec (λE=>fC (λd=>⟨rfl,?_,rfl⟩) (λd=>k ?_ _ rfl)) (λE=>fC (λd=>(by cases d)) λ_=>k ?_ _ rfl)
  ·exact C.1 ⟨E,by simpa using d⟩
  ·intro p
   have:=(C.2 p).2;simp only[bne_eq_false_iff_eq]at d;exact this d
  ·intro p
   exact E (C.2 p).1
 rintro _ y ⟨w,rfl⟩;obtain⟨p,a9⟩:=a8 w;rw[p];refine PC.red (LD (m:=ks P) N oM) ?_ ?_
 rotate_left
 ·intro l m B F H
  have hn:¬ks P<=Y.bytes.length-(Y.pos+1):=λg=>l (Zx g);rw[Zq hn,HL w oM];exact⟨.inr ⟨dC,rfl,B⟩,u.then F,H.trans v⟩
 rintro l _ m R ⟨a2,c2,rfl,z⟩ F H;have b2:ks P<=e.length:=by
  by_cases g:ks P<=Y.bytes.length-(Y.pos+1)
  ·omega
  ·simp only at l;rw[Zq g]at l;cases l
 change Row fz 1 m f a2 (ks P) ((Y.bytes.drop (Y.pos+1)).take (ks P))at z
 rw[a7]at z;have S:eU m a f ⟨Y.bytes,Y.pos+(ks P+1),Y.uP⟩:=by have:=R;rwa [show Y.pos+(ks P+1)=Y.pos+1+ks P by omega]
 have I:ak (·=a) b m:=u.then F;have J:=H.trans v;have k:((0<ks P/\e.head? =some 0)\/(¬16<P.toNat/\2 ^ 63<=fX (e.take (ks P)))\/(16<P.toNat/\2 ^ 63<fX (e.take (ks P))))->∀h,h=m->Tv b a f Y (rdNum (P::e)).1 (λt h=>t= XH (rdNum (P::e)).2.1) (rdNum (P::e)).2.2 (.panicked (Sv 5)) h:=by
  rintro d h rfl;rw[Nc w oM d];exact⟨.inr ⟨dC,rfl,_,R⟩,I,J⟩
 refine⟨_,_,_,rfl,λh=>¬(0<ks P/\e.head? =some 0)/\h=m,?_,?_⟩
 ·refine an.dO (λg=>fC (λ_=>⟨rfl,λc=>oM,rfl⟩) (λd=>by cases d)) (λg=>?_)
  have x:0<ks P:=oM
  obtain⟨K,L,n,rfl,o,_,c⟩:=z.lu (i:=0) x;have T:e.head? =some n:=by
   rw[Xw,Zx x]at o;rw[List.head?_eq_getElem?];exact o
  refine⟨K,L,rfl,oM,oM,_,c,fC (λd=>⟨rfl,λc=>?_,rfl⟩) (λd=>k (.inl ⟨x,?_⟩) _ rfl)⟩
  ·rw[T]at c
   have:=c.2;simp only[Q1]at this;subst this;simp at d
  ·rw[T]
   have:(n.toNat:Int)=0:=by simpa using d
   exact Zj some (UInt8.toNat_inj.1 (by
                         have:n.toNat=0:=oM
                         rw[this];rfl))
 rintro _ m ⟨U,rfl⟩;refine⟨λV W i h=>∃j:Nat,j<=ks P/\i=j/\V=ks P-j/\h=m/\W=(fX (e.take j):Int),⟨_,0,Qj _,rfl,rfl,rfl,rfl⟩,?_⟩;rintro V W i _ m ⟨j,hj,rfl,rfl,rfl,rfl⟩;refine an.dec (λh1=>?_) (λh1=>?_)
 ·have X:j<ks P:=oM
  obtain⟨K,L,n,rfl,o,_,c⟩:=z.lu (i:=j) X;rw[Xw,Zx X]at o;refine⟨K,L,rfl,oM,oM,_,c,_,oM,j+1,oM,aq oM,rfl,rfl,?_⟩;have b0:=nx e (j:=j) (m:=7) oM;rw[Kl (by
            have:(256:Nat) ^ 7=72057594037927936:=dC
            omega) n.toNat_lt,CW o]
 ·obtain rfl:j=ks P:=oM
  have b0:=nx e (j:=ks P) (m:=8) oM;have b3:(256:Nat) ^ 8=18446744073709551616:=dC
  have b4:(2:Nat) ^ 63=9223372036854775808:=dC
  refine an.dO (λg=>?_) (λg=>?_)<;>rw[a9]at g
  ·have q:¬16<P.toNat:=by intro c;rw[Zx c]at g;cases g
   refine fC (λd=>⟨rfl,?_⟩) (λd=>k (.inr (.inl ⟨q,?_⟩)) _ rfl)
   ·have d:=XV d
    rw[Ba w oM (λc=>c.elim U λc=>c.elim (λc=>oM) λc=>q c.1),Zq q];exact⟨.inl ⟨rfl,S,_,rfl,by rw[wrap_i64 bb]⟩,I,J⟩
   ·have d:=Xy d
    omega
  ·have q:16<P.toNat:=by
    by_cases c:16<P.toNat
    ·exact c
    ·rw[Zq c]at g;exact Zz rfl g
   refine fC (λd=>⟨rfl,?_⟩) (λd=>k (.inr (.inr ⟨q,?_⟩)) _ rfl)
   ·have d:=XV d
    rw[Ba w oM (λc=>c.elim U λc=>c.elim (λc=>c.1 q) λc=>oM),Zx q];refine⟨.inl ⟨rfl,S,_,rfl,?_⟩,I,J⟩;have e1:XG .i64 (XG .u64 (0-(fX (e.take (ks P)):Int)))= -(fX (e.take (ks P)):Int):=by
     unfold XG;simp[IntKind.signed,IntKind.bits];omega
    rw[e1]
   ·have d:=Xy d
    omega
end Go.Proofs.YtblabbpipmodgaaGreatDoor
namespace Go.aw
open Go
def az{P a:Type}[BEq P](c:List (P×a))(b:P):Option a:=match c with
 |[]=>none
 |(d,e)::f=>if b==d then some e else az f b
def aK{P b:Type}[BEq P](f:List (P×b))(a:P)(c:b):List (P×b):=match f with
 |[]=>[(a,c)]
 |(d,g)::e=>if a==d then(a,c)::e else(d,g)::aK e a c
def bK{P a:Type}[BEq P](e:List (P×a))(b:P):List (P×a):=match e with
 |[]=>[]
 |(c,f)::d=>if b==c then d else(c,f)::bK d b
variable{e8:Array MapEntry}{a c:Nat}{h:Program}{I j:Type}{e9:TypeDesc}{B b6 f5 g o:TypeId}{f0:TypeInfo}{b8 u:Value}{l s:XR}{b k:World}{x:XU}
def bL[BEq j][LawfulBEq j](e:List (j×I))(a P:j)(g:I):az (aK e a g) P=if P==a then some g else az e P:=by
 induction e with
 |nil=>simp[aK,az]
 |cons h l i=>
  obtain⟨c,m⟩:=h;unfold aK
  by_cases b:a==c
  ·rw[Zx b]
   have f:a=c:=by simpa using b
   subst f;unfold az;split<;>rfl
  ·rw[Zq b]
   unfold az
   by_cases d:P==c
   ·rw[Zx d]
    have f:P=c:=by simpa using d
    subst f;have:(P==a)=false:=by
     cases k:P==a
     ·rfl
     ·exfalso;apply b;have:P=a:=by simpa using k
      simp[this]
    rw[this];simp[az,b]
   ·rw[Zq d];rw[i];simp[az,d]
def Tidy{P a:Type}(b:List (P×a)):Prop:=(b.map (·.1)).Nodup
def Pn[BEq j][LawfulBEq j]{a:List (j×I)}{P:j}{d:I}{b:j}:b∈(aK a P d).map (·.1)↔b=P\/b∈a.map (·.1):=by
 induction a with
 |nil=>simp[aK]
 |cons e i f=>
  obtain⟨c,k⟩:=e;unfold aK
  by_cases h:P==c
  ·rw[Zx h]
   have g:P=c:=by simpa using h
   subst g;simp
  ·rw[Zq h]
   simp only[QY,Q2,f];constructor
   ·rintro(h|h|h)<;>simp[h]
   ·rintro(h|h|h)<;>simp[h]
def Tidy.aK{P f:Type}[BEq P][LawfulBEq P]{c:List (P×f)}(a:Tidy c)(d:P)(h:f):Tidy (aK c d h):=by
 unfold Tidy at*
 induction c with
 |nil=>simp[aw.aK]
 |cons i l j=>
  obtain⟨g,m⟩:=i;simp only[QY,List.nodup_cons]at a;unfold aw.aK
  by_cases b:d==g
  ·rw[Zx b]
   have k:d=g:=by simpa using b
   subst k;simpa using a
  ·rw[Zq b]
   simp only[QY,List.nodup_cons];refine⟨λe=>?_,j a.2⟩;rcases Pn.1 e with rfl|e
   ·simp at b
   ·exact a.1 e
def Po[BEq j][LawfulBEq j]{a:List (j×I)}{c b:j}(P:b∈(bK a c).map (·.1)):b∈a.map (·.1):=by
 induction a with
 |nil=>simp[bK]at P
 |cons d f e=>
  obtain⟨g,h⟩:=d;unfold bK at P;split at P
  ·simp only[QY,Q2];exact .inr P
  ·simp only[QY,Q2]at P⊢
   rcases P with P|P
   ·exact .inl P
   ·exact .inr (e P)
def Tidy.bK{P c:Type}[BEq P][LawfulBEq P]{b:List (P×c)}(a:Tidy b)(d:P):Tidy (bK b d):=by
 unfold Tidy at*
 induction b with
 |nil=>simp[aw.bK]
 |cons e h f=>
  obtain⟨i,j⟩:=e;simp only[QY,List.nodup_cons]at a;unfold aw.bK;split
  ·exact a.2
  ·simp only[QY,List.nodup_cons]
   exact⟨λg=>a.1 (Po g),f a.2⟩
def qG[BEq j][LawfulBEq j]{b:List (j×I)}{P:j}:az b P=none↔P∉b.map (·.1):=by
 induction b with
 |nil=>simp[az]
 |cons d g e=>
  obtain⟨c,h⟩:=d;unfold az
  by_cases a:P==c
  ·have f:P=c:=by simpa using a
   rw[Zx a];subst f;simp
  ·rw[Zq a,e]
   have:P≠c:=by rintro rfl;simp at a
   simp[this]
def jL[BEq j][LawfulBEq j]{c:List (j×I)}(h:Tidy c)(a P:j):az (bK c a) P=if P==a then none else az c P:=by
 induction c with
 |nil=>simp[bK,az]
 |cons i m k=>
  obtain⟨d,n⟩:=i;have f:=h;simp only[Tidy,QY,List.nodup_cons]at f;unfold bK
  by_cases e:a==d
  ·rw[Zx e]
   have g:a=d:=by simpa using e
   subst g
   by_cases b:P==a
   ·have:P=a:=by simpa using b
    subst this;simp only[beq_self_eq_true,if_true];exact qG.2 f.1
   ·rw[Zq b]
    simp[az,b]
  ·rw[Zq e]
   unfold az
   by_cases b:P==d
   ·have g:P=d:=by simpa using b
    subst g;have:(P==a)=false:=by
     cases l:P==a
     ·rfl
     ·exfalso;apply e;have:P=a:=by simpa using l
      simp[this]
    simp[this]
   ·rw[Zq b,Zq b];exact k f.2
def bW[BEq j][LawfulBEq j]{a:List (j×I)}{b:j}{c:I}(P:az a b=some c):(b,c)∈a:=by
 induction a with
 |nil=>simp[az]at P
 |cons d i e=>
  obtain⟨f,k⟩:=d;unfold az at P;split at P
  ·rename_i g
   have h:b=f:=by simpa using g
   subst h
   cases P
   simp
  ·exact QJ _ (e P)
def eW[BEq j][LawfulBEq j]{P:List (j×I)}{b:j}{c:I}{a:j×I}(h:a∈aK P b c):a=(b,c)\/a∈P:=by
 induction P with
 |nil=>simpa[aK]using h
 |cons d f e=>
  obtain⟨g,i⟩:=d;unfold aK at h;split at h
  ·rcases Q2.1 h with h|h
   ·exact .inl h
   ·exact .inr (QJ _ h)
  ·rcases Q2.1 h with h|h
   ·exact .inr (h▸QV ..)
   ·rcases e h with h|h
    ·exact .inl h
    ·exact .inr (QJ _ h)
def fN[BEq j][LawfulBEq j]{P:List (j×I)}{b:j}{a:j×I}(h:a∈bK P b):a∈P:=by
 induction P with
 |nil=>simp[bK]at h
 |cons c e d=>
  obtain⟨f,g⟩:=c;unfold bK at h;split at h
  ·exact QJ _ h
  ·rcases Q2.1 h with h|h
   ·exact h▸QV ..
   ·exact QJ _ (d h)
def pH[BEq j][LawfulBEq j]{P:List (j×I)}(b:Tidy P){k:j}{v:I}(c:(k,v)∈P):az P k=some v:=by
 induction P with
 |nil=>cases c
 |cons d h e=>
  obtain⟨f,i⟩:=d;simp only[Tidy,QY,List.nodup_cons]at b;unfold az;rcases Q2.1 c with a|a
  ·cases a;simp
  ·have:k≠f:=by
    intro g;exact b.1 (Xk.2 ⟨(k,v),a,g⟩)
   rw[Zq (by simpa using this)];exact e b.2 a
def wF[BEq j](P:List (j×I))(a:j)(b:I):(aK P a b).length<=P.length+1:=by
 induction P with
 |nil=>simp[aK]
 |cons c d e=>
  unfold aK;split
  ·simp
  ·simp;omega
def GY[BEq j](P:List (j×I))(a:j):(bK P a).length<=P.length:=by
 induction P with
 |nil=>simp[bK]
 |cons b c d=>
  unfold bK;split
  ·simp
  ·simp;omega
def e_{P a b:Type}(c:a->b->Prop):List (P×a)->List (P×b)->Prop
 |[],[]=>True
 |(d,e)::f,(g,h)::i=>d=g/\c e h/\e_ c f i
 |_,_=>False
def e_.keys{b c d:Type}{f:c->d->Prop}:∀{P:List (b×c)} {a:List (b×d)},e_ f P a->P.map (·.1)=a.map (·.1)
 |[],[],_=>rfl
 |(g,h)::P,(i,j)::a,e=>by simp[e.1,e_.keys e.2.2]
def e_.mono{e f g:Type}{h i:f->g->Prop}:∀{P:List (e×f)} {a:List (e×g)},e_ h P a->(∀b c,h b c->i b c)->e_ i P a
 |[],[],_,_=>trivial
 |(k,b)::P,(l,c)::a,d,j=>⟨d.1,j _ _ d.2.1,e_.mono d.2.2 j⟩
def e_.az{a f g:Type}[BEq a]{h:f->g->Prop}(P:a):∀{b:List (a×f)} {c:List (a×g)},e_ h b c->
  (aw.az b P=none/\aw.az c P=none)\/∃d e,aw.az b P=some d/\aw.az c P=some e/\h d e
 |[],[],_=>.inl ⟨rfl,rfl⟩
 |(j,d)::b,(n,e)::c,k=>by
  obtain⟨rfl,l,m⟩:=k;unfold aw.az
  by_cases i:P==j
  ·simp only[i,if_true];exact .inr ⟨d,e,rfl,rfl,l⟩
  ·simp only[i];exact e_.az P m
def e_.aK{P a b:Type}[BEq P]{R:a->b->Prop}{c:P}{g:a}{h:b}(d:R g h):∀{e:List (P×a)} {f:List (P×b)},e_ R e f->e_ R (aw.aK e c g) (aw.aK f c h)
 |[],[],_=>⟨rfl,d,trivial⟩
 |(k,n)::e,(o,p)::f,l=>by
  obtain⟨rfl,m,i⟩:=l;unfold aw.aK
  by_cases j:c==k
  ·simp only[j,if_true];exact⟨rfl,d,i⟩
  ·simp only[j];exact⟨rfl,m,e_.aK d i⟩
def e_.bK{P d e:Type}[BEq P]{f:d->e->Prop}{a:P}:∀{b:List (P×d)} {c:List (P×e)},e_ f b c->e_ f (aw.bK b a) (aw.bK c a)
 |[],[],_=>trivial
 |(i,l)::b,(m,n)::c,j=>by
  obtain⟨rfl,k,g⟩:=j;unfold aw.bK
  by_cases h:a==i
  ·simp only[h,if_true];exact g
  ·simp only[h];exact⟨rfl,k,e_.bK g⟩
def e_.Wi{f g j:Type}{h:g->j->Prop}{k:f}{l:g}:∀{i c:List (f×g)} {b:List (f×j)},e_ h (i++(k,l)::c) b->∃d a e,b=d++(k,a)::e/\h l a/\e_ h (i++c) (d++e)
 |[],c,(m,a)::b,P=>⟨[],a,b,by rw[P.1];rfl,P.2.1,P.2.2⟩
 |(q,r)::i,c,(m,n)::b,P=>by
  obtain⟨d,a,e,rfl,o,p⟩:=e_.Wi P.2.2;exact⟨(m,n)::d,a,e,rfl,o,P.1,P.2.1,p⟩
def e_.length{P a b:Type}{e:a->b->Prop}{c:List (P×a)}{d:List (P×b)}(f:e_ e c d):c.length=d.length:=by
 have:=Zj List.length f.keys;simpa using this
structure bR {κ:Type} (w:World) (r:Nat) (enc:κ->Value) (l:List (κ×Value)):Prop where
 at':∃es clock,w.heap[r]? =some (.map es clock)/\es.toList.map (λe=>(e.key,e.val))=l.map (λp=>(enc p.1,p.2))/\
  (∀e∈es.toList,e.born<clock)/\(es.toList.map (·.born)).Nodup
 tidy:Tidy l
def bR.af{S:XN}{c:j->Value}{e:List (j×Value)}(f:bR b a c e)(g:ak S b k)(h:¬S a):bR k a c e:=by
 obtain⟨i,P,l,d⟩:=f.at';exact⟨⟨i,P,g.get l h,d⟩,f.tidy⟩
def bR.ah{P:j->Value}{c:List (j×Value)}(d:bR b a P c)(e:ai b k):bR k a P c:=d.af e id
def bR.lt{P:j->Value}{e:List (j×Value)}(f:bR b a P e):a<b.heap.size:=by
 obtain⟨h,c,g,d⟩:=f.at';exact ay g
def bR.new{P:j->Value}(c:b.heap[a]? =some (.map #[] 0)):bR b a P ([]:List (j×Value)):=
 ⟨⟨_,_,c,rfl,sM,sM⟩,by simp[Tidy]⟩
def lP{P:Type}[BEq P](c:List (P×Value))(a:P)(b:Nat):Option (Nat×Value):=match c with
 |[]=>none
 |(d,e)::f=>if a==d then some (b,e)else lP f a (b+1)
def AR{b:Type}[BEq b][LawfulBEq b]{P:b->Value}{h:TypeDesc}(i:∀j k,Instr.sameNow h (P j) (P k)=some (j==k))(c:b):
  ∀(d:List MapEntry) (f:List (b×Value)) (g:Nat),d.map (λe=>(e.key,e.val))=f.map (λl=>(P l.1,l.2))->Instr.findNow h (P c) d g=some (lP f c g)
 |[],[],_,_=>rfl
 |[],_::_,_,a=>by simp at a
 |_::_,[],_,a=>by simp at a
 |e::d,(m,q)::f,g,a=>by
  simp only[QY,List.cons.injEq,Prod.mk.injEq]at a;obtain⟨⟨n,o⟩,p⟩:=a;unfold Instr.findNow lP;rw[n,i]
  cases r:c==m
  ·simp only[Bool.false_eq_true,if_false]
   exact AR i c d f (g+1) p
  ·simp[o]
def Fh[BEq j]{P:j->Value}(b:∀c d,Instr.sameNow e9 (P c) (P d)=none)(e:j)(a:MapEntry)(f:List MapEntry)(g:j)(h:a.key=P g)(i:Nat):Instr.findNow e9 (P e) (a::f) i=none:=by
 unfold Instr.findNow;rw[h,b]
def rR{b:Type}[BEq b]{i:Program}{j:TypeId}{P:b->Value}{c:World}(k:∀l m,(Op.equal j (P l) (P m)).run i c= .ok (l==m) c)(d:b):
  ∀(f:List MapEntry) (g:List (b×Value)) (h:Nat),f.map (λe=>(e.key,e.val))=g.map (λn=>(P n.1,n.2))->(Instr.findAsking j (P d) f h).run i c= .ok (lP g d h) c
 |[],[],_,_=>rfl
 |[],_::_,_,a=>by simp at a
 |_::_,[],_,a=>by simp at a
 |e::f,(o,s)::g,h,a=>by
  simp only[QY,List.cons.injEq,Prod.mk.injEq]at a;obtain⟨⟨p,q⟩,r⟩:=a;unfold Instr.findAsking lP;rw[p];simp only[Sem.run_bind,k,Result.andThen_ok]
  cases t:d==o
  ·simpa using rR k d f g (h+1) r
  ·simp[q]
structure ic {κ:Type} [BEq κ] (P:Program) (kt:TypeId) (enc:κ->Value):Prop where
 find:∀(k:κ) (es:List MapEntry) (l:List (κ×Value)) (w:World),es.map (λe=>(e.key,e.val))=l.map (λp=>(enc p.1,p.2))->(Instr.findKey kt (enc k) es).run P w= .ok (lP l k 0) w
 check:∀k w e,(Instr.checkKey e 10000 kt (enc k)).run P w= .ok () w
 same:∀n a,Instr.sameBits (n+1) (enc a) (enc a)=true
 inj:∀{a b},enc a=enc b->a=b
def ic.flat[BEq j][LawfulBEq j]{P:j->Value}(m:h.underlying g=some e9)(i:∀a b,Instr.sameNow e9 (P a) (P b)=some (a==b))(n:∀k c d e,(Instr.checkKey e (k+1) g (P c)).run h d= .ok () d)(f:∀k a,Instr.sameBits (k+1) (P a) (P a)=true):ic h g P:=
 ⟨λc o p d q=>by simp[Instr.findKey,run_underlying m,AR i c o p 0 q],λc d e=>n 9999 c d e,f,λ{a b} e=>by
  have l:=i a b;rw[e,i b b]at l;simpa using l.symm⟩
def ic.struct[BEq j]{P:j->Value}(o:h.underlying g=some e9)(q:∀a b,Instr.sameNow e9 (P a) (P b)=none)(r:∀a b c,(Op.equal g (P a) (P b)).run h c= .ok (a==b) c)(s:∀f c i,(Instr.checkKey i 10000 g (P f)).run h c= .ok () c)(d:∀t a,Instr.sameBits (t+1) (P a) (P a)=true)(m:∀{a b},P a=P b->a=b):ic h g P:=by
 refine⟨λf k e c l=>?_,s,d,m⟩
 cases k with
 |nil=>
  cases e with
  |nil=>simp[Instr.findKey,run_underlying o,Instr.findNow,lP]
  |cons n e=>simp at l
 |cons i k=>
  cases e with
  |nil=>simp at l
  |cons n e=>
   have p:=l;simp only[QY,List.cons.injEq,Prod.mk.injEq]at p;simp only[Instr.findKey,Sem.run_bind,run_underlying o,Result.andThen_ok,Fh q f i k n.1 p.1.1];exact rR (λa b=>r a b c) f (i::k) (n::e) 0 l
def wq[BEq j][LawfulBEq j](a:List (j×Value))(b:j):∀P,(lP a b P).map (·.2)=az a b:=by
 induction a with
 |nil=>intro P;rfl
 |cons c e d=>
  intro P;obtain⟨f,g⟩:=c;unfold lP az;split
  ·rfl
  ·exact d (P+1)
def iX[BEq j][LawfulBEq j]{P:j->Value}(i:ic h g P)(a:j)(b:List MapEntry)(c:List (j×Value))(k:b.map (λe=>(e.key,e.val))=c.map (λf=>(P f.1,f.2)))(d:World):
  (Instr.findKey g (P a) b).run h d= .ok (lP c a 0) d:=by
 exact i.find a b c d k
def dv(P:b.heap[a]? =some (.map e8 c)):(getObj a).run h b= .ok (.map e8 c) b:=by
 simp[getObj,Sem.run,P]
def dz[BEq j][LawfulBEq j]{P:j->Value}(d:ic h g P)(b:Bool)(c:j)(a:World):(Instr.checkKey b 10000 g (P c)).run h a= .ok () a:=by
 exact d.check c a b
def Cq(a:h.info? g=some f0)(b:f0.zero=some u)(P:World):(zeroValue g).run h P= .ok u P:=by
 simp[zeroValue,typeInfo,a,b]
structure lZ (P:Program) (t kt vt:TypeId) (z:Value):Prop where
 under:P.underlying t=some (.map kt vt)
 zero:(P.info? vt).bind (·.zero)=some z
def lZ.Lw(c:lZ h g o B u)(a:World):(zeroValue B).run h a= .ok u a:=by
 have P:=c.zero
 cases b:h.info? B with
 |none=>rw[b]at P;cases P
 |some d=>rw[b]at P;exact Cq b P a
def ei[BEq j][LawfulBEq j]{P:j->Value}(k:lZ h g o B u)(l:ic h o P){c:List (j×Value)}(n:bR b a P c)(d:j)(f:Bool):
  (Instr.lookup g (.map (some a)) (P d) f).run h b= .ok (if f then .tuple #[(az c d).getD u,.bool (az c d).isSome]else(az c d).getD u) b:=by
 obtain⟨p,i,q,r,_⟩:=n.at';have s:=iX l d p.toList c r b;have e:=wq c d 0;simp only[Instr.lookup,Sem.run_bind,run_underlying k.under,Result.andThen_ok,dv q,dz l,s,Sem.run_pure]
 cases m:lP c d 0 with
 |none=>rw[m]at e;simp only[Option.map_none]at e;rw[<-e];cases f<;>simp[k.Lw]
 |some t=>rw[m]at e;simp only[Option.map_some]at e;rw[<-e];cases f<;>simp
def yA[BEq j][LawfulBEq j]{P:j->Value}(e:lZ h g o B u)(f:ic h o P){d:List (j×Value)}(i:bR b a P d){c:j}(k:l ((az d c).getD u) b):aH h (Instr.lookup g (.map (some a)) (P c) false) b l s:=aH.mk (ei e f i c false) k
def l_[BEq j][LawfulBEq j]{enc:j->Value}(c:lZ h g o B u)(d:ic h o enc){P:List (j×Value)}(e:bR b a enc P){k:j}(f:l (.tuple #[(az P k).getD u,.bool (az P k).isSome]) b):aH h (Instr.lookup g (.map (some a)) (enc k) true) b l s:=aH.mk (ei c d e k true) f
def ak.setObj(P:World)(a:Nat)(b:Obj):ak (·=a) P {P with heap:=P.heap.setIfInBounds a b}:=
 ⟨rfl,rfl,rfl,sM,λd e c=>by simp[Array.getElem?_setIfInBounds,Ne.symm c]⟩
def mK[BEq j][LawfulBEq j]{b:List (j×Value)}{c:j}:∀{P a:Nat} {f:Value},lP b c P=some (a,f)->P<=a/\a-P<b.length/\b[a-P]? =some (c,f)/\∀h,aK b c h=b.set (a-P) (c,h)/\bK b c=b.eraseIdx (a-P):=by
 induction b with
 |nil=>intro P a f d;simp[lP]at d
 |cons m v n=>
  intro P a f d;obtain⟨o,h⟩:=m;unfold lP at d;split at d
  ·rename_i g
   cases d
   have p:c=o:=by simpa using g
   subst p;simp[aK,bK]
  ·rename_i g
   obtain⟨w,i,k,l⟩:=n d;obtain⟨e,rfl⟩:∃e,a=P+1+e:=⟨a-(P+1),oM⟩
   have q:P+1+e-P=e+1:=oM
   have r:P+1+e-(P+1)=e:=oM
   rw[r]at i k l;rw[q];refine⟨oM,by simpa using i,by simpa using k,λs=>?_⟩;obtain⟨t,u⟩:=l s;unfold aK bK;rw[Zq g,Zq g];simp[t,u]
def qF[BEq j][LawfulBEq j]{P:List (j×Value)}{a:j}:∀{c:Nat},lP P a c=none->(∀d,aK P a d=P++[(a,d)])/\bK P a=P:=by
 induction P with
 |nil=>intro c _;simp[aK,bK]
 |cons f k g=>
  intro c b;obtain⟨l,d⟩:=f;unfold lP at b;split at b
  ·cases b
  ·rename_i e
   obtain⟨h,i⟩:=g b;refine⟨λm=>?_,?_⟩
   ·unfold aK;rw[Zq e,h];rfl
   ·unfold bK;rw[Zq e,i]
def map_eraseIdx{c d:Type}(b:c->d):∀(P:List c) (a:Nat),(P.eraseIdx a).map b=(P.map b).eraseIdx a
 |[],_=>by simp
 |x::P,0=>rfl
 |x::P,a+1=>by simp[map_eraseIdx b P a]
def cP(P:World)(a:Nat)(b:Obj)(c:a<P.heap.size):({P with heap:=P.heap.setIfInBounds a b}:World).heap[a]? =some b:=by simp[c]
def ej(d:b.heap[a]? =some (.map e8 c))(P:Obj):(setObj a P).run h b= .ok () {b with heap:=b.heap.setIfInBounds a P}:=by
 simp[setObj,Sem.run,d]
def iy[BEq j][LawfulBEq j]{enc:j->Value}(F:lZ h g o B u)(s:ic h o enc){p:List (j×Value)}(y:bR b a enc p){k:j}(H:∀t,bR t a enc (aK p k b8)->ak (·=a) b t->t.heap.size=b.heap.size->x t):j_ h (Instr.mapUpdate g (.map (some a)) (enc k) b8) b x l:=by
 obtain⟨d,P,q,r,z,I⟩:=y.at';have v:=iX s k d.toList p r b;have N:d.toList.length=p.length:=by have:=Zj List.length r;simpa using this
 have J:=ay q
 cases w:lP p k 0 with
 |none=>
  rw[w]at v;refine j_.mk (w':={b with heap:=b.heap.setIfInBounds a (.map (d.push {key:=enc k,val:=b8,born:=P}) (P+1))}) ?_ (H _ ⟨⟨_,_,cP b a _ J,?_,?_,?_⟩,y.tidy.aK k b8⟩ (ak.setObj b a _) sM)
  ·simp[Instr.mapUpdate,run_underlying F.under,dv q,dz s,v,ej q]
  ·rw[(qF w).1 b8];simp[r]
  ·intro f e
   simp only[Array.toList_push,Q6,List.mem_singleton]at e;rcases e with e|rfl
   ·have:=z f e;omega
   ·show P<P+1;omega
  ·simp only[Array.toList_push,Q3,QY,List.map_nil]
   rw[List.nodup_append];refine⟨I,sM,?_⟩;intro V O W A X;simp only[List.mem_singleton]at A;obtain⟨f,e,rfl⟩:=Xk.1 O;have:=z f e;omega
 |some Q=>
  obtain⟨i,Y⟩:=Q;rw[w]at v;obtain⟨_,K,L,M⟩:=mK w;rw[Nat.sub_zero]at K L M;have C:i<d.size:=by
                 have:d.size=p.length:=by simpa using N
                 omega
  have R:d[i].key=enc k:=by
   have:=Zj (·[i]?) r;simp only[Q9,L,Option.map_some]at this;simp[C]at this;exact this.1
  refine j_.mk (w':={b with heap:=b.heap.setIfInBounds a (.map (d.modify i λf=>{f with key:=enc k,val:=b8}) P)}) ?_ (H _ ⟨⟨_,_,cP b a _ J,?_,?_,?_⟩,y.tidy.aK k b8⟩ (ak.setObj b a _) sM)
  ·have S:(Instr.keyThatStays (enc k) (enc k)).run h b= .ok (enc k) b:=by simp[Instr.keyThatStays,s.same]
   simp[Instr.mapUpdate,run_underlying F.under,dv q,dz s,v,C,R,S,ej q]
  ·rw[(M b8).1]
   apply X3;intro m;have c:=Zj (·[m]?) r;simp only[Q9]at c;simp only[Array.toList_modify,Q9,Xj,List.getElem?_modify]
   by_cases n:i=m
   ·subst n
    simp[C,K]
   ·simp only[n,if_false,Option.map_map]at c⊢
    simpa using c
  ·intro f e
   rw[Array.toList_modify]at e;obtain⟨m,c⟩:=List.getElem?_of_mem e;rw[List.getElem?_modify]at c
   cases E:d.toList[m]? with
   |none=>rw[E]at c;simp at c
   |some T=>
    rw[E]at c;have U:=QZ E;have:=z T U
    by_cases n:i=m
    ·simp[n]at c;subst c;exact this
    ·simp[n]at c;subst c;exact this
  ·have:(d.modify i λf=>{f with key:=enc k,val:=b8}).toList.map (·.born)=d.toList.map (·.born):=by
    apply X3;intro m;simp only[Array.toList_modify,Q9,List.getElem?_modify,Option.map_map]
    by_cases n:i=m<;>simp[n]<;>rfl
   rw[this];exact I
def Jv[BEq j][LawfulBEq j]{d:j->Value}(w:lZ h g o B u)(r:ic h o d){f:List (j×Value)}(t:bR b a d f){i:j}(x:∀m,bR m a d (bK f i)->ak (·=a) b m->m.heap.size=b.heap.size->l (.tuple #[]) m):aH h (Builtin.delete_ #[g,b6] f5 #[.map (some a),d i]) b l s:=by
 obtain⟨P,c,k,n,y,z⟩:=t.at';have p:=iX r i P.toList f n b;have F:P.toList.length=f.length:=by have:=Zj List.length n;simpa using this
 have A:=ay k
 cases q:lP f i 0 with
 |none=>
  rw[q]at p;refine aH.mk (w':={b with heap:=b.heap.setIfInBounds a (.map P c)}) ?_ (x _ ⟨⟨_,_,cP b a _ A,?_,y,z⟩,t.tidy.bK i⟩ (ak.setObj b a _) sM)
  ·simp[Builtin.delete_,run_underlying w.under,dv k,dz r,p,ej k]
  ·rw[(qF q).2];exact n
 |some H=>
  obtain⟨e,I⟩:=H;rw[q]at p;obtain⟨_,J,K,C⟩:=mK q;rw[Nat.sub_zero]at J K C;have v:e<P.size:=by
                 have:P.size=f.length:=by simpa using F
                 omega
  refine aH.mk (w':={b with heap:=b.heap.setIfInBounds a (.map (P.eraseIdxIfInBounds e) c)}) ?_ (x _ ⟨⟨_,_,cP b a _ A,?_,?_,?_⟩,t.tidy.bK i⟩ (ak.setObj b a _) sM)
  ·simp[Builtin.delete_,run_underlying w.under,dv k,dz r,p,ej k]
  ·rw[(C I).2]
   have:(P.eraseIdxIfInBounds e).toList=P.toList.eraseIdx e:=by simp[Array.eraseIdxIfInBounds,v]
   rw[this,map_eraseIdx,n,map_eraseIdx]
  ·intro L E
   have:(P.eraseIdxIfInBounds e).toList=P.toList.eraseIdx e:=by simp[Array.eraseIdxIfInBounds,v]
   rw[this]at E;exact y L (List.mem_of_mem_eraseIdx E)
  ·have:(P.eraseIdxIfInBounds e).toList=P.toList.eraseIdx e:=by simp[Array.eraseIdxIfInBounds,v]
   rw[this,map_eraseIdx];exact z.sublist (List.eraseIdx_sublist _ _)
def HD[BEq j][LawfulBEq j]{c:j->Value}(f:lZ h g o B u){i:List (j×Value)}(k:bR b a c i)(m:∀d,bR d a c ([]:List (j×Value))->ak (·=a) b d->d.heap.size=b.heap.size->l (.tuple #[]) d):aH h (Builtin.clear_ #[g] b6 #[.map (some a)]) b l s:=by
 obtain⟨p,P,e,q,r,t⟩:=k.at';have n:=ay e;refine aH.mk (w':={b with heap:=b.heap.setIfInBounds a (.map #[] P)}) ?_ (m _ ⟨⟨_,_,cP b a _ n,rfl,sM,sM⟩,by simp[Tidy]⟩ (ak.setObj b a _) sM);simp[Builtin.clear_,run_underlying f.under,dv e,ej e]
def TU(P:h.underlying g=some (.int .i64)):ic h g (Value.int .i64):=
 ic.flat P (λa c=>by simp[Instr.sameNow]) (λb d e f=>by simp[Instr.checkKey,run_underlying P]) λb a=>by simp[Instr.sameBits]

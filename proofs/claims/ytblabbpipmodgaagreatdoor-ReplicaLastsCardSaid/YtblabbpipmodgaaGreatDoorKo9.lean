import Derived.Test.YtblabbpipmodgaaGreatDoorYoCode
import Derived.Maps.AppendAt
import Derived.Below
import Derived.Laws.Strings
import Derived.Laws.OwnMore
import Derived.Laws.MakeOwn
import Derived.Lib.BitFns
import Derived.Lib.ItoaNum
import Derived.Shelf.SlIter.Nil
import Derived.Shelf.SlIterI.Nil
import Derived.Shelf.SortM.Plain
import Derived.Shelf.SortM.SortNone
import Derived.Shelf.Strconv.Itoa3
import Derived.Shelf.Small.Strs
import Derived.Ground.GgzProg
import Derived.Ground.SlgmProg
import Derived.Ground.NamesProg
import Derived.Test.YtblabbpipmodgaaGreatDoorProg
import Derived.Laws.CopyRow
import Derived.Laws.IdiomCopy
set_option maxHeartbeats 4000000
set_option linter.all false
set_option maxRecDepth 100000
open Go.IntKind renaming wrap→XH
namespace Go.Proofs.YtblabbpipmodgaaGreatDoor
open Go.au
def gU:lv:=⟨[],[],[],[],[]⟩
variable{d1 w:ByteArray}{z:XR}{e:Int}{a c:Nat}{d:XU}{b:World}
def gV(P:al (decide ((((ByteArray.size w:Nat):Int):Int)>=((ByteArray.size d1:Nat):Int))) (((0:Int)<=((ByteArray.size d1:Nat):Int)/\(((ByteArray.size d1:Nat):Int):Int)<=((ByteArray.size w:Nat):Int)/\rt z ((.bool ((ByteArray.toList (ByteArray.extract w 0 (Int.toNat ((ByteArray.size d1:Nat):Int))))==(ByteArray.toList d1)))) b)) (rt z ((.bool false)) b)):ZH 328 #[.string w,.string d1] b z:=DC gU Tryz.func328 rfl P
def gS:lv:=⟨[],[],[],[],[]⟩
def gT(a:PC_ 328 #[.string w,.string d1] b (kB λc P=>al (!c) (rt z ((.tuple #[.string w,.bool false])) P) (((0:Int)<=((ByteArray.size d1:Nat):Int)/\(((ByteArray.size d1:Nat):Int):Int)<=((ByteArray.size w:Nat):Int)/\rt z ((.tuple #[.string (ByteArray.extract w (Int.toNat ((ByteArray.size d1:Nat):Int)) (ByteArray.size w)),.bool true])) P))) (pE z)):ZH 297 #[.string w,.string d1] b z:=DC gS Tryz.func297 rfl a
def zi:lv:=⟨[],[],[],[],[(11,⟨[0,1,0,4,10,18,48,64,192,320,576,1088],[4095,4094,4095,4091,4087,4077,4063,4031,3903,3775,3519,3007],[0,2,0,0,2,0,0,0,0,1,0,0]⟩)]⟩
def zj(o:al (decide ((a:Int)<4)) (rt z ((.tuple #[.ii 0,.ii 4])) b) (((0:Int)<=1/\(1:Int)<=4/\(4:Int)<=(c:Int)/\PC_ 299 #[.slice (cE d (Int.toNat 1) c 1) (Int.toNat 4-Int.toNat 1) (c-Int.toNat 1)] b (λp e=>∃P,p= .int .u32 P/\(ix_ d 0 a λq r=>(∃g,e.cell? (ad q (r+Int.toNat 0))=some (.int .u8 g)/\al (g==0) (rt z ((.tuple #[.ii 0,.ii 2])) e) (al (decide (((XH .i64 P):Int)>65536)) (rt z ((.tuple #[.ii 0,.ii 5])) e) (al (decide ((a:Int)<(XH .i64 ((XH .i64 (4+(XH .i64 P)))+5)))) (rt z ((.tuple #[.ii 0,.ii 4])) e) (((0:Int)<=(XH .i64 (4+(XH .i64 P)))/\((XH .i64 (4+(XH .i64 P))):Int)<=(c:Int)/\((0:Int)<=(XH .i64 (4+(XH .i64 P)))/\((XH .i64 (4+(XH .i64 P))):Int)<=(XH .i64 ((XH .i64 (4+(XH .i64 P)))+5))/\((XH .i64 ((XH .i64 (4+(XH .i64 P)))+5)):Int)<=(c:Int)/\(∀h,bY e h->(∀i,bY h i->((0:Int)<=4/\(4:Int)<=(((c-Int.toNat (XH .i64 (4+(XH .i64 P)))):Nat):Int)/\PC_ 284 #[.slice d (Int.toNat (XH .i64 (4+(XH .i64 P)))) c] i (λs t=>∃j,s= .int .u32 j/\PC_ 299 #[.slice (cE d (Int.toNat (XH .i64 (4+(XH .i64 P)))) c 1) (Int.toNat 4) (c-Int.toNat (XH .i64 (4+(XH .i64 P))))] t (λu f=>∃k,u= .int .u32 k/\al (j !=k) (rt z ((.tuple #[.ii 0,.ii 6])) f) ((∃l m,(cE d (Int.toNat (XH .i64 (4+(XH .i64 P)))) c 1)=some ⟨l,m,none⟩/\(0:Int)<=4/\4<((Int.toNat (XH .i64 ((XH .i64 (4+(XH .i64 P)))+5))-Int.toNat (XH .i64 (4+(XH .i64 P))):Nat):Int)/\(∃n,f.cell? (ad l (m+Int.toNat 4))=some (.int .u8 n)/\al (n !=10) (rt z ((.tuple #[.ii 0,.ii 6])) f) (rt z ((.tuple #[.ii (XH .i64 P),.ii 0])) f))))) (pZ z)) (pZ z)))))))))))) (pE z)))):ZH 251 #[.slice d a c] b z:=DC zi Tryz.func251 rfl o
def lA:lv:=⟨[],[(3,[])],[],[],[]⟩
def lC(m:(∃g:XT,(al (decide ((e:Int)<0)) (aG XG (Instr.panic (.iface 9 (.string (⟨#[99,97,110,110,111,116,32,98,101,32,110,101,103,97,116,105,118,101]⟩:ByteArray)))) b (λu n=>
   g n) (λP b=>z (.panicked [{v:=P,recovered:=false}]) b)) (g b))/\∀(v:Nat->Value) (j:World),g j->aG XG (Builtin.cap_ #[197] 3 #[.slice d a c]) j (λo k=>
   ∃(h:Int),o= QH h/\al (decide (((XH .i64 (e-(XH .i64 (h-((a:Nat):Int))))):Int)>0)) (aG XG (Builtin.cap_ #[197] 3 #[.slice d a c]) k (λp q=>
   ∃(f:Int),p= QH f/\((0:Int)<=f/\(f:Int)<=((c:Nat):Int)/\aG XG (Builtin.append_ #[197,3] 197 #[.slice d (Int.toNat f) c,QH (XH .i64 (e-(XH .i64 (h-((a:Nat):Int)))))]) q (λr s=>
   ∃(l:XU) (t:Nat) (i:Nat),r= .slice l t i/\((0:Int)<=((a:Nat):Int)/\(((a:Nat):Int):Int)<=((i:Nat):Int)/\
   z (.returned (.slice l (Int.toNat ((a:Nat):Int)) i)) s)) (λP b=>z (.panicked [{v:=P,recovered:=false}]) b))) (λP b=>z (.panicked [{v:=P,recovered:=false}]) b)) (z (.returned (.slice d a c)) k)) (λP b=>
   z (.panicked [{v:=P,recovered:=false}]) b))):
  ZH 315 #[.slice d a c,QH e] b z:=
 qo lA mixed Tryz.func315 rfl (Zv kR) kR (Eq.mp kR m)
def kf:lv:=⟨[(3,[(3,QH 0),(11,QH 0)]),(11,[(6,.slice none 0 0),(27,QH 0)])],[],[],[],[]⟩
def kh(J:(∃m:Nat->Int->Int->XT,(∃i,m i 0 0 b)/\∀(i:Nat) (j:Int) (g:Int) (T:Nat->Value) (k:World),m i j g k->al (decide ((g:Int)<((a:Nat):Int))) ((∃s t,d=some ⟨s,t,none⟩/\
   (0:Int)<=g/\g<((a:Nat):Int)/\(∃(K:XU) (n:Nat) (L:Nat),k.cell? ⟨s,t+Int.toNat g,none⟩=some (.slice K n L)/\
   al (decide (((XH .i64 (j+((n:Nat):Int))):Int)<0)) (aG XG (Instr.panic (.iface 9 (.string (⟨#[108,101,110,32,111,117,116,32,111,102,32,114,97,110,103,101]⟩:ByteArray)))) k (λU M=>
   (∃l,l<i/\m l (XH .i64 (j+((n:Nat):Int))) (XH .i64 (g+1)) M)) (λq b=>z (.panicked [{v:=q,recovered:=false}]) b)) ((∃l,l<i/\
   m l (XH .i64 (j+((n:Nat):Int))) (XH .i64 (g+1)) k))))) (PC XG 315 #[.slice none 0 0,QH j] k (λN O=>
   ∃(u:XU) (v:Nat) (w:Nat),N= .slice u v w/\(∃r:Nat->XU->Nat->Nat->Int->XT,(∃o,r o u v w 0 O)/\
   ∀(o:Nat) (P:XU) (e:Nat) (f:Nat) (h:Int) (V:Nat->Value) (p:World),r o P e f h p->al (decide ((h:Int)<((a:Nat):Int))) ((∃x y,d=some ⟨x,y,none⟩/\
   (0:Int)<=h/\h<((a:Nat):Int)/\(∃(A:XU) (B:Nat) (C:Nat),p.cell? ⟨x,y+Int.toNat h,none⟩=some (.slice A B C)/\
   aG XG (Builtin.append_ #[197,197] 197 #[.slice P e f,.slice A B C]) p (λQ R=>∃(E:XU) (F:Nat) (H:Nat),Q= .slice E F H/\
   (∃I,I<o/\r I E F H (XH .i64 (h+1)) R)) (λq b=>z (.panicked [{v:=q,recovered:=false}]) b)))) (z (.returned (.slice P e f)) p))) (λS b=>
   z (.panicked S) b)))):
  ZH 283 #[.slice d a c] b z:=
 qo kf mixed Tryz.func283 rfl (Zv kR) kR (Eq.mp kR J)
end Go.Proofs.YtblabbpipmodgaaGreatDoor
namespace Go.au
open Go
abbrev ai(P a:World):Prop:=aj (λ_=>False) P a
variable{c8:Addr}{e3:Array MapEntry}{o:Array Value}{y:FuncId}{e:Int}{q:List Int}{a4:List PanicEntry->XT}{I a c j p:Nat}{a2 f:XM}{H:Nat×Nat}{c3:Obj}{V X:Operand}{d:XU}{c4:Option Nat}{h:Program}{A g n:TypeId}{m r:XN}{b b1 k:World}{x:XT}
def aj.refl(P:World):aj f P P:=⟨rfl,rfl,rfl,Q4 _,λ_ _ _=>rfl⟩
def aj.trans{e g h:XM}(a:aj g b k)(P:aj h k b1)(j:∀P,P<b.heap.size->g P->e P)(l:∀P,P<b.heap.size->h P->e P):aj e b b1:=
 ⟨P.os.trans a.os,P.tape.trans a.tape,P.output.trans a.output,Xx a.size P.size,λc d i=>
  (P.block c (Qk d a.size) (λf=>i (l c d f))).trans (a.block c d (λf=>i (j c d f)))⟩
def aj.mono(a:aj f b k)(d:∀P,P<b.heap.size->f P->a2 P):aj a2 b k:=
 ⟨a.os,a.tape,a.output,a.size,λP c e=>a.block P c λg=>e (d P c g)⟩
def aj.then(P:aj f b k)(a:aj f k b1):aj f b b1:=P.trans a (λ_ _ P=>P) (λ_ _ P=>P)
def aj.new(a:aj f b k)(P:aj a2 k b1)(c:∀P,a2 P->f P\/b.heap.size<=P):aj f b b1:=
 a.trans P (λ_ _ a=>a) (λd g e=>(c d e).resolve_right oM)
def aj.af(P:aj f b k)(a:ai k b1):aj f b b1:=P.trans a (λ_ _ P=>P) (λ_ _ P=>P.elim)
def ai.keep{S:XM}(P:ai b k):aj S b k:=P.mono λ_ _ P=>P.elim
def aj.alloc{c:XM}(P:World)(a:Obj):aj c P (P.alloc a):=
 ⟨rfl,rfl,rfl,sM,λd b _=>by first|exact heap_alloc_old P a d b|exact heap_alloc_old P a b⟩
def aj.drewN{S:XM}(P:World)(a:Nat):aj S P (P.drewN a):=⟨rfl,rfl,rfl,Q4 _,λ_ _ _=>rfl⟩
def bY.keep{S:XM}(P:bY b k):aj S b k:=by obtain⟨a,rfl⟩:=P;exact aj.drewN b a
def bY.heap(P:bY b k):k.heap=b.heap:=by obtain⟨a,rfl⟩:=P;rfl
def aj.setCell(P:World)(a:Addr)(b:Value)(c:f a.block):aj f P (P.setCell a b):=
 ⟨rfl,rfl,rfl,by simp[World.setCell],λe _ d=>by
  simp only[World.setCell,Array.getElem?_modify];rw[Zq (by rintro rfl;exact d c)]⟩
def aj.below(P:ai b k):RowKit.Below b.heap.size b k:=⟨P.os,P.tape,P.output,P.size,λa c=>P.block a c (λP=>P)⟩
def aj.Fu(P:RowKit.Below b.heap.size b k):ai b k:=⟨P.os,P.tape,P.output,P.size,λa c _=>P.block a c⟩
def aj.of_grownBy(P:b.grownBy k c4):aj (λa=>some a=c4) b k:=⟨P.os,P.tape,P.output,P.size,λa c d=>P.block a c d⟩
def aj.cell(P:aj f b k){a:Addr}(c:a.block<b.heap.size)(j:¬f a.block):k.cell? a=b.cell? a:=
 World.cell?_of_block (w:=b) (P.block a.block c j)
def aj.get(c:aj f b k)(P:b.heap[a]? =some c3)(d:¬f a):k.heap[a]? =some c3:=by
 rw[c.block a (Q5.1 P).1 d];exact P
def aB(P:b.heap[a]? =some c3):a<b.heap.size:=(Q5.1 P).1
def ae{cs:Array Value}(P:b.heap[a]? =some (Obj.cells cs g H)){off:Nat}{v:Value}(c:cs[off]? =some v):
  b.cell? ⟨a,off,none⟩=some v:=by simp[World.cell?,P,c]
def PA.mk(a:∀P,ai b P->P.heap.size=b.heap.size+1->P.heap[b.heap.size]? =some c3->x P):PA b c3 x:=
 a (b.alloc c3) (aj.alloc b c3) sM (heap_alloc_new b c3)
def PS.mk{v:Value}{cs:Array Value}(d:b.heap[a]? =some (.cells cs g (0,0)))(e:c<cs.size)(f:∀P,aj (·=a) b P->P.heap.size=b.heap.size->P.heap[a]? =some (.cells (cs.setIfInBounds c v) g (0,0))->x P):PS b ⟨a,c,none⟩ v x:=by
 refine⟨⟨cs[c],ae d (by simp[e])⟩,by simp[World.frozen?,d],f _ (aj.setCell b _ v rfl) (by simp[World.setCell]) ?_⟩;simp[World.setCell,Array.getElem?_modify,d]
def Ok(a:XN):XR:=λb c=>∃P,b= .returned P/\a P c
def Ok.mk{v:Value}(P:m v b):Ok m (.returned v) b:=⟨v,rfl,P⟩
def PC.ok{φ c:XN}(d:Calls h y o b (Ok φ))(e:∀P a,φ P a->c P a):PC h y o b c a4:=
 d.mono λi a ⟨P,f,g⟩=>by subst f;exact e P a g
def Calls.ok{φ c:XN}(d:Calls h y o b (Ok φ))(e:∀P a,φ P a->c P a):Calls h y o b (Ok c):=
 d.mono λi a ⟨P,f,g⟩=>⟨P,f,e P a g⟩
def aN(P:Int):Prop:= -9223372036854775808<=P/\P<=9223372036854775807
theorem bb{p:Prop}(h:p:=by unfold aN;omega):p:=h
def wrap_i64{x:Int}(P:aN x):XH .i64 x=x:=by
 unfold aN at P;unfold XH;simp[IntKind.signed,IntKind.bits];omega
def aS:Nat:=140737488355328
theorem ba{p:Prop}(h:p:=by unfold aS;omega):p:=h
structure Ints (w:World) (a:XU) (n:Nat) (xs:List Int):Prop where
 len:n=xs.length
 ef:n*8<=aS
 yd:∀x∈xs,aN x
 cell:∀(i:Nat) x,xs[i]? =some x->∃b off,a=some ⟨b,off,none⟩/\b<w.heap.size/\w.cell? ⟨b,off+i,none⟩=some (QH x)
def nJ(a:XM)(b:XU):Prop:=∀P,b=some P->¬a P.block
def nJ.none:nJ f Option.none:=λ_ P=>by cases P
def Ints.keep{S:XM}{a:XU}{e:Nat}(c:Ints b a e q)(f:aj S b k)(i:nJ S a):Ints k a e q:=
 ⟨c.len,c.ef,c.yd,λg j l=>by
  obtain⟨d,P,rfl,h,m⟩:=c.cell g j l;exact⟨d,P,rfl,Qk h f.size,(f.cell (a:=⟨d,P+g,none⟩) h (i ⟨d,P,none⟩ rfl)).trans m⟩⟩
def Ints.af(P:Ints b d a q)(c:ai b k):Ints k d a q:=P.keep c λ_ _ P=>P
def Ints.nil(P:World):Ints P none 0 []:=⟨rfl,by simp[aS],sM,λb c a=>by simp at a⟩
def Ints.at(e:Ints b d a q){i:Int}(k:0<=i)(l:i<(a:Int)):
  ∃c P x,d=some ⟨c,P,none⟩/\c<b.heap.size/\q[i.toNat]? =some x/\aN x/\b.cell? ⟨c,P+i.toNat,none⟩=some (QH x):=by
 have m:=e.len;have f:i.toNat<q.length:=oM
 obtain⟨c,P,g,h,j⟩:=e.cell i.toNat q[i.toNat] (by simp[f]);exact⟨c,P,_,g,h,by simp[f],e.yd _ (XY f),j⟩
def aI:XU->Option Nat
 |none=>none
 |some P=>some P.block
def Ints.Fw(P:Ints b d a q)(e:aj f b k)(g:q≠[]->nJ f d):Ints k d a q:=by
 by_cases c:q=[]
 ·subst c;exact⟨P.len,P.ef,P.yd,λi j h=>by simp at h⟩
 ·exact P.keep e (g c)
def dq:nJ f d↔∀P,aI d=some P->¬f P:=by
 cases d with
 |none=>simp[nJ,aI]
 |some d=>simp[nJ,aI]
structure Own (w:World) (e:TypeId) (k:Nat) (a:XU) (n c:Nat) (cs:List Value):Prop where
 row:w.ownsRow 0 e k (.slice a n c) n cs
def Own.nil(P:World)(e:TypeId)(a:Nat):Own P e a none 0 0 []:=⟨World.ownsRow_nil P 0 e a⟩
def Own.length{cs:List Value}(P:Own b g a d c j cs):cs.length=c*a:=P.row.1
def Own.cases{cs:List Value}(h:Own b g a d c j cs):
  (d=none/\c=0/\j=0/\cs=[])\/
  ∃f P,d=XL f/\b.heap[f]? =some (.cells P g (0,0))/\c<=j/\P.size=j*a/\P.toList.take (c*a)=cs:=by
 rcases h.row.2 with⟨e,o⟩|⟨f,i,P,e,_,k,l,_,m,n⟩
 ·simp only[XX]at e
  obtain⟨rfl,rfl,rfl⟩:=e;exact .inl ⟨rfl,rfl,rfl,QW (by simpa using h.row.1)⟩
 ·simp only[XX]at e
  obtain⟨rfl,-,rfl⟩:=e;exact .inr ⟨f,P,rfl,k,l,m,n⟩
def Own.keep{S:XM}{cs:List Value}(i:Own b g a d c j cs)(l:aj S b k)(m:nJ S d):Own k g a d c j cs:=by
 refine⟨⟨i.row.1,?_⟩⟩;rcases i.row.2 with n|⟨o,e,f,h,p,q,P⟩
 ·exact .inl n
 ·refine .inr ⟨o,e,f,h,p,l.get q ?_,P⟩
  simp only[XX]at h;exact m _ h.1
def Own.af{cs:List Value}(P:Own b g a d c j cs)(e:ai b k):Own k g a d c j cs:=P.keep e λ_ _ P=>P
def Own.lt{cs:List Value}(e:Own b g a d c j cs)(P:aI d=some p):p<b.heap.size:=by
 rcases e.cases with⟨rfl,_⟩|⟨i,f,rfl,h,_⟩
 ·cases P
 ·simp only[aI,Q1]at P
  subst P;exact aB h
def Own.cell{c:World}{e:TypeId}{f:Nat}{a:XU}{g h:Nat}{cs:List Value}(i:Own c e f a g h cs){j:Nat}{u:Value}(P:cs[j]? =some u):
  ∃b,a=XL b/\b<c.heap.size/\c.cell? ⟨b,j,none⟩=some u:=by
 rcases i.cases with⟨_,_,_,rfl⟩|⟨b,k,rfl,d,_,_,l⟩
 ·simp at P
 ·refine⟨b,rfl,aB d,ae d ?_⟩
  rw[<-l,Xw]at P;split at P
  ·simpa using P
  ·cases P
def Own.yz{cur:Array Value}(d:b.heap[c]? =some (.cells cur g (0,0)))(P:cur.size=j*a)(e:j<=maxLen):
  Own b g a (XL c) j j cur.toList:=
 ⟨⟨by simpa using P,.inr ⟨c,j,cur,rfl,Qj _,d,Q4 _,e,P,by rw[Qz];simp[P]⟩⟩⟩
structure jx (P:Program) (t e:TypeId) (k bytes:Nat):Prop where
 under:P.underlying t=some (.slice e)
 row:(P.info? e).map (λi=>(i.zero.map λz=>z.cells.size,i.size,i.bytes))=some (some k,k,bytes)
 pos:0<k
def jx.info{c:Program}{h d:TypeId}{e bytes:Nat}(i:jx c h d e bytes):∃a b,c.info? d=some a/\a.zero=some b/\a.size=e/\a.bytes=bytes/\b.cells.size=e:=by
 have P:=i.row
 cases g:c.info? d with
 |none=>rw[g]at P;cases P
 |some a=>
  rw[g]at P;simp only[Option.map_some,Q1,Prod.mk.injEq]at P
  cases f:a.zero with
  |none=>rw[f]at P;cases P.1
  |some b=>
   rw[f]at P;exact⟨a,b,rfl,f,P.2.1,P.2.2,by simpa using P.1⟩
def Da{P:Program}{h bytes:Nat}(o:jx P g n h bytes){q news:List Value}(x:Own b n h d a c q)(y:∀k l,news[k]? =some l->b.cell? (c8.add k)=some l)(z:news.length=j*h)(B:∀l∈news,l.oneCell'=true)(C:(a+j)*bytes<=aS)(E:a+j<=maxLen)(F:∀e f i,Own i n h e (a+j) f (q++news)->aj (λk=>some k=aI d) b i->(aI e=aI d\/aI e=some b.heap.size)->m (.slice e (a+j) f) i):
  aG P (Builtin.append_ #[g,g] A #[.slice d a c,.slice (some c8) j p]) b m r:=by
 obtain⟨H,I,J,K,L,M,N⟩:=jx.info o;obtain⟨O,i,Q,s,t,U,u⟩:=run_append_own_at (P:=P) b 0 g A n H I h bytes o.under J K L M N o.pos (.slice d a c) a q x.row
  c8 j p news z y B E C (Qj _)
 have R:∀(d:XU) a c,(Value.slice d a c).ownBlock=aI d:=λd a c=>by cases d<;>rfl
 have S:∃e f,O= .slice e (a+j) f:=by
  rcases s.2 with⟨rfl,T⟩|⟨V,v,w,rfl,_⟩
  ·exact⟨none,0,by rw[T]⟩
  ·exact⟨_,_,rfl⟩
 obtain⟨e,f,rfl⟩:=S;simp only[R]at t u;exact aG.mk Q (F e f i ⟨s⟩ (aj.of_grownBy t) u)
def ye{P bytes:Nat}(t:jx h g n P bytes){k news:List Value}(u:Own b n P d a c k)(v:b.heap[j]? =some (.cells o n H))(w:o.toList.take (p*P)=news)(x:news.length=p*P)(y:∀l∈news,l.oneCell'=true)(z:(a+p)*bytes<=aS)(B:a+p<=maxLen)(C:∀e q i,Own i n P e (a+p) q (k++news)->aj (λs=>some s=aI d) b i->(aI e=aI d\/aI e=some b.heap.size)->m (.slice e (a+p) q) i):
  aG h (Builtin.append_ #[g,g] A #[.slice d a c,.slice (XL j) p I]) b m r:=by
 exact Da t u (λs l f=>by
   rw[Addr.add_lit,Xz];refine ae v ?_;rw[<-w,Xw]at f;split at f
   ·simpa using f
   ·cases f) x y z B C
def ints(P:List Int):List Value:=P.map (Value.int .i64)
def je(P:List Int):(ints P).length=P.length:=by simp[ints]
def Own.ints(e:Own b g 1 d a c (ints q))(h:a*8<=aS)(i:∀P∈q,aN P):Ints b d a q:=by
 have f:=e.length;rw[je,Nat.mul_one]at f;refine⟨f.symm,h,i,λj P k=>?_⟩;obtain⟨l,m,n,o⟩:=e.cell (j:=j) (u:=QH P) (by simp[au.ints,k]);exact⟨l,0,m,n,by rw[Xz];exact o⟩
def Kk(l:jx h g n 1 8)(o:Own b n 1 d a c (ints q))(p:b.heap[j]? =some (.cells #[QH e] n (0,0)))(k:(a+1)*8<=aS)(s:∀P i f,Own f n 1 P (a+1) i (ints (q++[e]))->aj (λt=>some t=aI d) b f->(aI P=aI d\/aI P=some b.heap.size)->m (.slice P (a+1) i) f):
  aG h (Builtin.append_ #[g,g] A #[.slice d a c,.slice (XL j) 1 1]) b m r:=
 ye l (news:=[QH e]) o p sM sM (by simp[Value.oneCell']) k (by unfold aS at k;unfold maxLen;omega)
  λP i f u v w=>s P i f (by simpa[ints]using u) v w
def Ba(b:h.underlying g=some (.slice n))(c:Nat)(P:XU)(d e:Nat)(a:World):
  (Op.equalIn (c+1) g (.slice P d e) (.slice none 0 0)).run h a= .ok P.isNone a:=by
 cases P<;>simp[Op.equalIn,run_underlying b]
def wm(b:h.underlying g=some (.pointer n))(c:Nat)(P:XU)(a:World):
  (Op.equalIn (c+1) g (.pointer P) (.pointer none)).run h a= .ok P.isNone a:=by
 cases P<;>simp[Op.equalIn,run_underlying b]
def jQ(P:h.underlying g=some (.slice n))(e:m (.bool d.isNone) b):
  aG h (do eqGuard .eql g V X (.slice d a c) (.slice none 0 0);binOp .eql g (.slice d a c) (.slice none 0 0)) b m r:=by
 refine aG.mk (v:=.bool d.isNone) ?_ e;have f:(do eqGuard .eql g V X (.slice d a c) (.slice none 0 0);binOp .eql g (.slice d a c) (.slice none 0 0):Sem Value).run h b=
  ((Op.equalIn (9999+1) g (.slice d a c) (.slice none 0 0))>>=λi=>(pure (Value.bool i):Sem Value)).run h b:=rfl
 rw[f,Sem.run_bind,Ba P]
 rfl
def gq(P:h.underlying g=some (.pointer n))(a:m (.bool d.isNone) b):
  aG h (do eqGuard .eql g V X (.pointer d) (.pointer none);binOp .eql g (.pointer d) (.pointer none)) b m r:=by
 refine aG.mk (v:=.bool d.isNone) ?_ a;have c:(do eqGuard .eql g V X (.pointer d) (.pointer none);binOp .eql g (.pointer d) (.pointer none):Sem Value).run h b=
  ((Op.equalIn (9999+1) g (.pointer d) (.pointer none))>>=λe=>(pure (Value.bool e):Sem Value)).run h b:=rfl
 rw[c,Sem.run_bind,wm P]
 rfl
def oN(d:h.underlying g=some (.pointer n))(b c:Operand)(P:XU)(a:World):
  (do eqGuard .neq g b c (.pointer P) (.pointer none);binOp .neq g (.pointer P) (.pointer none):Sem Value).run h a= .ok (.bool P.isSome) a:=by
 have e:(do eqGuard .neq g b c (.pointer P) (.pointer none);binOp .neq g (.pointer P) (.pointer none):Sem Value).run h a=
  ((Op.equalIn (9999+1) g (.pointer P) (.pointer none))>>=λf=>(pure (Value.bool !f):Sem Value)).run h a:=rfl
 rw[e,Sem.run_bind,wm d]
 cases P<;>rfl
def yA(P:h.underlying g=some (.pointer n))(a:m (.bool d.isSome) b):
  aG h (do eqGuard .neq g V X (.pointer d) (.pointer none);binOp .neq g (.pointer d) (.pointer none)) b m r:=aG.mk (oN P V X d b) a
def Own.RW{cs:List Value}(f:Own b g a d c j cs)(e:b.heap[p]? =some (.map e3 I)):aI d≠some p:=by
 intro P;rcases f.cases with⟨rfl,_⟩|⟨k,h,rfl,i,_⟩
 ·cases P
 ·simp only[aI,Q1]at P
  subst P;rw[i]at e;cases e
structure cO (F:XM) (w:World) (F':XM) (w':World):Prop where
 keep:aj F w w'
 new:∀b,F' b->F b\/w.heap.size<=b
def cO.refl(a:XM)(P:World):cO a P a P:=⟨aj.refl P,λ_ b=>.inl b⟩
def cO.trans{c G d:XM}{e f g:World}(P:cO c e G f)(h:cO G f d g):cO c e d g:=
 ⟨P.keep.trans h.keep (λ_ _ P=>P) (λa i j=>(P.new a j).resolve_right oM),λa i=>by
  rcases h.new a i with b|b
  ·exact P.new a b
  ·exact .inr (Xx P.keep.size b)⟩
def cO.left{d G e:XM}(f:cO d b e k):cO (λP=>d P\/G P) b (λP=>e P\/G P) k:=⟨f.keep.mono λP _ a=>.inl a,λP a=>a.elim (λc=>(f.new P c).imp .inl id) λc=>.inl (.inr c)⟩
def cO.right{d G e:XM}(f:cO G b e k):cO (λP=>d P\/G P) b (λP=>d P\/e P) k:=⟨f.keep.mono λP _ a=>.inr a,λP a=>a.elim (λc=>.inl (.inl c)) λc=>(f.new P c).imp .inr id⟩
end Go.au
namespace Go.au
open Go
variable{c8:Addr}{o:Array Value}{F:Bool}{d1 w:ByteArray}{e u:Int}{a3:List Value}{a c j p:Nat}{f:XM}{H:Nat×Nat}{d t:XU}{h:Program}{L a6:Prop}{i:Type}{A g n:TypeId}{m r:XN}{b b1 k:World}
def al.dec[Decidable L]{a b:Prop}(c:L->a)(d:¬L->b):al (decide L) a b:=
 al.mk (λP=>c (XV P)) (λP=>d (Xy P))
def al.dQ(a:e≠u->L)(b:e=u->a6):al (e !=u) L a6:=
 al.mk (λP=>a (by simpa using P)) (λP=>b (by simpa using P))
def al.dU(a:e=u->L)(b:e≠u->a6):al (e==u) L a6:=
 al.mk (λP=>a (by simpa using P)) (λP=>b (by simpa using P))
def al.not(P:al F a6 L):al (!F) L a6:=by cases F<;>exact P
def My(a:w.toList=d1.toList):w=d1:=by
 have b:∀P:ByteArray,P.toList=P.data.toList:=λP=>ByteArray.toList_eq P;rw[b,b]at a;exact ByteArray.ext (Array.toList_inj.1 a)
def al.Uy(a:w=d1->L)(b:w≠d1->a6):al (ByteArray.toList w==ByteArray.toList d1) L a6:=
 al.mk (λP=>a (My (by simpa using P))) (λP=>b (λc=>by subst c;simp at P))
def al.Vz(P:w≠d1->L)(a:w=d1->a6):al (!(ByteArray.toList w==ByteArray.toList d1)) L a6:=(al.Uy a P).not
def an(P:a<4611686018427387904):XH .i64 ((a:Int)+1)=((a+1:Nat):Int):=by
 rw[wrap_i64 bb];simp
def bY.then(P:bY b k)(a:bY k b1):bY b b1:=by obtain⟨c,rfl⟩:=P;obtain⟨d,rfl⟩:=a;exact⟨c+d,sM⟩
def bY.refl(P:World):bY P P:=⟨0,rfl⟩
def Mc{P b:List i}{c:i}(d:P.take a=b.take a)(e:P[a]? =some c)(f:b[a]? =some c):P.take (a+1)=b.take (a+1):=by
 rw[Qw,Qw,d,e,f]
structure jK (α:Type) where
 k:Nat
 rep:World->(XM)->α->List Value->Prop
 keep:∀{S D:XM} {w w':World} {x:α} {cs:List Value},rep w D x cs->aj S w w'->(∀b,D b->¬S b)->rep w' D x cs
 mono:∀{D D':XM} {w:World} {x:α} {cs:List Value},rep w D x cs->(∀b,D b->D' b)->rep w D' x cs
 len:∀{D:XM} {w:World} {x:α} {cs:List Value},rep w D x cs->cs.length=k
 one:∀{D:XM} {w:World} {x:α} {cs:List Value},rep w D x cs->∀u∈cs,u.oneCell'=true
def flat{c:Type}(d:Nat)(P:c->List Value)(e:c->Prop)(f:∀b,(P b).length=d)(g:∀b,∀h∈P b,h.oneCell'=true):jK c where
 k:=d
 rep:=λ_ _ b cs=>cs=P b/\e b
 keep:=λa _ _=>a
 mono:=λa _=>a
 len:=λa=>by rw[a.1];exact f _
 one:=λa=>by rw[a.1];exact g _
def aM:jK Int:=flat 1 (λP=>[QH P]) aN (λ_=>rfl) (λP b a=>by simp at a;subst a;rfl)
def fF:jK UInt8:=flat 1 (λP=>[.int .u8 P.toNat]) (λ_=>True) (λ_=>rfl) (λP b a=>by simp at a;subst a;rfl)
def LM:jK ByteArray:=flat 1 (λP=>[.string P]) (λ_=>True) (λ_=>rfl) (λP b a=>by simp at a;subst a;rfl)
structure Row {α:Type} (c:jK α) (bytes:Nat) (w:World) (D:XM) (a:XU) (n:Nat) (xs:List α):Prop where
 len:n=xs.length
 ef:n*bytes<=aS
 el:∀(i:Nat) x,xs[i]? =some x->∃b off es,a=some ⟨b,off,none⟩/\b<w.heap.size/\D b/\(∀j,j<c.k->w.cell? ⟨b,off+i*c.k+j,none⟩=es[j]?)/\c.rep w D x es
section
variable {α:Type} {c:jK α} {bytes:Nat} {w w':World} {D D' S:XM} {a:XU} {n:Nat} {xs:List α}
def Row.keep(d:Row c bytes w D a n xs)(e:aj S w w')(f:∀P,D P->¬S P):Row c bytes w' D a n xs:=
 ⟨d.len,d.ef,λg k l=>by
  obtain⟨P,b,m,o,h,i,p,q⟩:=d.el g k l;exact⟨P,b,m,o,Qk h e.size,i,λj r=>(e.cell (a:=⟨P,b+g*c.k+j,none⟩) h (f P i)).trans (p j r),c.keep q e f⟩⟩
def Row.af(P:Row c bytes w D a n xs)(b:ai w w'):Row c bytes w' D a n xs:=P.keep b λ_ _ P=>P
def Row.mono(b:Row c bytes w D a n xs)(e:∀P,D P->D' P):Row c bytes w D' a n xs:=
 ⟨b.len,b.ef,λf g h=>by
  obtain⟨P,d,i,j,k,l,m,o⟩:=b.el f g h;exact⟨P,d,i,j,k,e P l,m,c.mono o e⟩⟩
def Row.nil(w:World)(D:XM):Row c bytes w D none 0 []:=⟨rfl,sM,λa b P=>by simp at P⟩
def Row.at(f:Row c bytes w D a n xs){i:Int}(o:0<=i)(p:i<(n:Int)):
  ∃b P x d,a=some ⟨b,P,none⟩/\b<w.heap.size/\D b/\xs[i.toNat]? =some x/\(∀e,e<c.k->w.cell? ⟨b,P+i.toNat*c.k+e,none⟩=d[e]?)/\c.rep w D x d:=by
 have q:=f.len;have g:i.toNat<xs.length:=oM
 obtain⟨b,P,d,h,j,k,l,m⟩:=f.el i.toNat xs[i.toNat] (by simp[g]);exact⟨b,P,_,d,h,j,k,by simp[g],l,m⟩
def Row.BR(g:Row c bytes w D a n xs){i:Nat}(h:i<n):
  ∃b P e f,a=some ⟨b,P,none⟩/\b<w.heap.size/\D b/\xs[i]? =some e/\(∀d,d<c.k->w.cell? ⟨b,P+i*c.k+d,none⟩=f[d]?)/\c.rep w D e f:=by
 have:=g.at (i:=(i:Int)) oM oM;simpa using this
end
def Row.lq{g:Type}{e:g->Value}{h:g->Prop}{hl h1}{bytes:Nat}{D:XM}{j:List g}(k:Row (flat 1 (λc=>[e c]) h hl h1) bytes b D d a j){i:Nat}(l:i<a):
  ∃f P c,d=some ⟨f,P,none⟩/\j[i]? =some c/\h c/\b.cell? ⟨f,P+i,none⟩=some (e c):=by
 obtain⟨f,P,c,q,m,r,_,n,o,rfl,p⟩:=k.BR l;refine⟨f,P,c,m,n,p,?_⟩;have:=o 0 Nat.one_pos;simpa[flat]using this
def bR{P:Type}(a:jK P)(b:World)(D:XM):List P->List Value->Prop
 |[],cs=>cs=[]
 |x::e,cs=>∃c d,cs=c++d/\a.rep b D x c/\bR a b D e d
section
variable {α:Type} {c:jK α} {w w':World} {D D' S:XM}
def bR.keep(a:aj S w w')(b:∀d,D d->¬S d):∀{P:List α} {cs:List Value},bR c w D P cs->bR c w' D P cs
 |[],_,e=>e
 |x::P,_,⟨f,g,h,i,j⟩=>⟨f,g,h,c.keep i a b,bR.keep a b j⟩
def bR.mono(a:∀b,D b->D' b):∀{P:List α} {cs:List Value},bR c w D P cs->bR c w D' P cs
 |[],_,d=>d
 |x::P,_,⟨e,f,g,h,i⟩=>⟨e,f,g,c.mono h a,bR.mono a i⟩
def bR.append:∀{xs a:List α} {cs P:List Value},bR c w D xs cs->bR c w D a P->bR c w D (xs++a) (cs++P)
 |[],a,_,P,d,b=>by cases d;exact b
 |x::xs,a,_,P,⟨e,f,g,h,i⟩,b=>⟨e,f++P,by rw[g,XQ],h,bR.append i b⟩
def bR.one{x:α}(P:c.rep w D x a3):bR c w D [x] a3:=⟨a3,[],sM,P,rfl⟩
def bR.length:∀{P:List α} {cs:List Value},bR c w D P cs->cs.length=P.length*c.k
 |[],_,a=>by cases a;simp
 |x::P,_,⟨f,g,b,d,e⟩=>by
  rw[b,QX,c.len d,bR.length e,Xq,X7,Nat.one_mul,Nat.add_comm]
def bR.Oa:∀{b:List α} {cs:List Value},bR c w D b cs->∀a∈cs,a.oneCell'=true
 |[],_,d,a,P=>by cases d;simp at P
 |x::b,_,⟨h,i,e,f,g⟩,a,P=>by
  rw[e]at P;rcases Q6.1 P with P|P
  ·exact c.one f a P
  ·exact bR.Oa g a P
def bR.at:∀{d:List α} {cs:List Value},bR c w D d cs->∀{i:Nat} {x:α},d[i]? =some x->∃b,(∀P,P<c.k->cs[i*c.k+P]? =b[P]?)/\c.rep w D x b
 |[],_,m,i,x,a=>by simp at a
 |y::d,_,⟨b,n,e,f,h⟩,i,x,a=>by
  have o:=c.len f
  cases i with
  |zero=>
   simp at a;subst a;refine⟨b,λP g=>?_,f⟩;rw[e,Nat.zero_mul,Xz,XW oM]
  |succ i=>
   obtain⟨j,k,l⟩:=bR.at h (i:=i) (x:=x) (by simpa using a);refine⟨j,λP g=>?_,l⟩;rw[e,X7,Nat.one_mul,X8 oM,<-k P g]
   congr 1
   omega
def bR.take:∀{P:List α} {cs:List Value},bR c w D P cs->∀(m:Nat),bR c w D (P.take m) (cs.take (m*c.k))
 |[],_,b,m=>by cases b;simp[bR]
 |x::P,_,⟨d,e,f,a,g⟩,m=>by
  have h:=c.len a
  cases m with
  |zero=>simp[bR]
  |succ m=>
   refine⟨d,e.take (m*c.k),?_,a,bR.take g m⟩;rw[f,X7,Nat.one_mul,Nat.add_comm,List.take_append,h,Qz oM]
   congr 2
   omega
def Row.bT{bytes:Nat}{i:List α}(v:Row c bytes w D d a i):∃cs,bR c w D i cs/\(i≠[]->0<c.k->∃b P,d=some ⟨b,P,none⟩/\b<w.heap.size/\D b/\∀e f,cs[e]? =some f->w.cell? ⟨b,P+e,none⟩=some f):=by
 have l:∀(m:List α) (g:Nat),(∀j k,m[j]? =some k->i[g+j]? =some k)->∃cs,bR c w D m cs/\∀b P,d=some ⟨b,P,none⟩->0<c.k->∀e f,cs[e]? =some f->w.cell? ⟨b,P+g*c.k+e,none⟩=some f:=by
  intro m
  induction m with
  |nil=>intro g _;exact⟨[],rfl,λb P _ _ e f h=>by simp at h⟩
  |cons x m F=>
   intro g y;obtain⟨z,q,r⟩:=F (g+1) (λj k s=>by have:=y (j+1) k (by simpa using s);rw[show g+1+j=g+(j+1) by omega];exact this);obtain⟨b,P,p,n,A,B,C,t⟩:=v.el g x (y 0 x rfl);refine⟨p++z,⟨p,z,rfl,t,q⟩,λJ E o u e f h=>?_⟩;rw[n]at o;cases o
   have K:=c.len t
   by_cases H:e<c.k
   ·rw[XW oM]at h
    rw[<-h];exact C e H
   ·rw[X8 oM]at h
    have:=r b P n u (e-p.length) f h;rw[<-this]
    congr 2
    rw[X7];omega
 obtain⟨cs,q,r⟩:=l i 0 (λj k s=>by simpa using s);refine⟨cs,q,λI u=>?_⟩
 cases i with
 |nil=>exact Zz rfl I
 |cons k i=>
  obtain⟨b,P,p,n,A,B,C,t⟩:=v.el 0 k rfl;refine⟨b,P,n,A,B,λe f h=>?_⟩;have:=r b P n u e f h;simpa using this
end
structure aV {α:Type} (c:jK α) (e:TypeId) (F:XM) (w:World) (a:XU) (n cap:Nat) (xs:List α):Prop where
 body:∃cs D,Own w e c.k a n cap cs/\bR c w D xs cs/\(∀b,D b->F b/\aI a≠some b)
 self:∀b,aI a=some b->F b
 aE:∀b,F b->b<w.heap.size
section
variable {α:Type} {c:jK α} {e:TypeId} {w w':World} {F F' S:XM} {a:XU} {n cap:Nat} {xs:List α}
def aV.nil(w:World):aV c e (λ_=>False) w none 0 0 []:=
 ⟨⟨[],λ_=>False,Own.nil _ _ _,rfl,λ_ P=>P.elim⟩,λa P=>(by cases P),λ_ P=>P.elim⟩
def aV.keep(d:aV c e F w a n cap xs)(f:aj S w w')(g:∀P,F P->¬S P):aV c e F w' a n cap xs:=by
 obtain⟨cs,D,i,j,h⟩:=d.body;exact⟨⟨cs,D,i.keep f (dq.2 λP b=>g P (d.self P b)),j.keep f (λP b=>g P (h P b).1),h⟩,d.self,λP b=>Qk (d.aE P b) f.size⟩
def aV.af(P:aV c e F w a n cap xs)(b:ai w w'):aV c e F w' a n cap xs:=P.keep b λ_ _ P=>P
def aV.mono(d:aV c e F w a n cap xs)(f:∀P,F P->F' P)(h:∀P,F' P->P<w.heap.size):aV c e F' w a n cap xs:=by
 obtain⟨cs,D,i,j,g⟩:=d.body;exact⟨⟨cs,D,i,j,λP b=>⟨f P (g P b).1,(g P b).2⟩⟩,λP b=>f P (d.self P b),h⟩
def aV.len(b:aV c e F w a n cap xs)(d:0<c.k):n=xs.length:=by
 obtain⟨cs,D,f,g,h⟩:=b.body;have P:=f.length;rw[g.length]at P;exact(Nat.eq_of_mul_eq_mul_right d P).symm
def Own.N_{P:Nat}{cs:List Value}(b:Own w e P a n cap cs):n<=cap:=by
 rcases b.cases with⟨_,rfl,rfl,_⟩|⟨f,c,_,_,d,_,_⟩
 ·exact Q4 _
 ·exact d
def aV.row{bytes:Nat}(d:aV c e F w a n cap xs)(i:0<c.k)(f:xs.length*bytes<=aS):Row c bytes w F a n xs:=by
 have j:=d.len i;obtain⟨cs,D,k,r,s⟩:=d.body;refine⟨j,by rw[j];exact f,λz A t=>?_⟩;obtain⟨g,l,m⟩:=r.at t;have B:=c.len m;have o:=l 0 i;rw[Nat.add_zero,Qq (show 0<g.length by omega)]at o;obtain⟨p,h,u,_⟩:=k.cell o;refine⟨p,0,g,h,u,d.self p (by rw[h];rfl),λq v=>?_,c.mono m λx f=>(s x f).1⟩;have P:=l q v;rw[Qq (show q<g.length by omega)]at P⊢;obtain⟨C,b,_,y⟩:=k.cell P;rw[h]at b;cases b
 rw[Xz];exact y
def Fj{p H:TypeId}{bytes:Nat}{x:α}(f:aV c e F w a n cap xs)(y:jx h p e c.k bytes){D:XM}(q:c.rep w D x o.toList)(j:∀P,D P->P<w.heap.size/\aI a≠some P)(b:(xs.length+1)*bytes<=aS)(I:xs.length+1<=maxLen)(s:∀i g w' F',aV c e F' w' i (n+1) g (xs++[x])->aj (λt=>aI a=some t) w w'->(∀P,F' P->F P\/D P\/w.heap.size<=P)->(∀P,aI i=some P->F P\/w.heap.size<=P)->m (.slice i (n+1) g) w'):
  PA w (.cells o e) λu=>aG h (Builtin.append_ #[p,p] H #[.slice a n cap,.slice (XL w.heap.size) 1 1]) u m r:=by
 have z:=f.len y.pos;obtain⟨cs,J,K,L,k⟩:=f.body;refine PA.mk λu A R M=>?_;have S:=c.len q;have N:=K.af A;refine ye y (news:=o.toList) N M (by rw[Qz oM]) oM (c.one q) (by rw[z];exact b) (by rw[z];exact I) λi O l C E B=>?_;have v:aj (λt=>aI a=some t) w l:=(ai.keep A).then (E.mono λ_ _ f=>f.symm)
 let F':XM:=λP=>F P\/D P\/(w.heap.size<=P/\P<l.heap.size)
 have T:u.heap.size<=l.heap.size:=E.size;refine s i O l F' ⟨⟨_,λP=>J P\/D P,C,bR.append ((L.keep v λP b=>(k P b).2).mono λP b=>.inl b) (bR.one (c.mono (c.keep q v λP b=>(j P b).2) λP b=>.inr b)),?_⟩,?_,?_⟩ v ?_ ?_
 ·intro P b
  have U:P<w.heap.size:=b.elim (λd=>f.aE P (k P d).1) λd=>(j P d).1;refine⟨b.elim (λd=>.inl (k P d).1) λd=>.inr (.inl d),?_⟩;rcases B with B|B
  ·rw[B];exact b.elim (λd=>(k P d).2) λd=>(j P d).2
  ·rw[B];intro Q;cases Q;omega
 ·intro P b
  rcases B with B|B
  ·exact .inl (f.self P (B▸b))
  ·have:=C.lt b
   rw[B]at b;cases b;exact .inr (.inr ⟨oM,this⟩)
 ·rintro P (b|b|b)
  ·have:=f.aE P b;omega
  ·have:=(j P b).1;omega
  ·exact b.2
 ·rintro P (b|b|b)
  ·exact .inl b
  ·exact .inr (.inl b)
  ·exact .inr (.inr b.1)
 ·intro P b
  rcases B with B|B
  ·exact .inl (f.self P (B▸b))
  ·rw[B]at b;cases b;exact .inr oM
def kj{u K:TypeId}{bytes:Nat}(f:aV c e F w a n cap xs)(v:jx h u e c.k bytes){D:XM}{l L:Nat}{j:List α}(A:Row c bytes w D (some c8) l j)(o:∀P,D P->P<w.heap.size/\aI a≠some P)(b:(xs.length+j.length)*bytes<=aS)(M:xs.length+j.length<=maxLen)(x:∀k g w' F',aV c e F' w' k (n+l) g (xs++j)->aj (λi=>aI a=some i) w w'->(∀P,F' P->F P\/D P\/w.heap.size<=P)->(∀P,aI k=some P->F P\/w.heap.size<=P)->m (.slice k (n+l) g) w'):
  aG h (Builtin.append_ #[u,u] K #[.slice a n cap,.slice (some c8) l L]) w m r:=by
 have C:=f.len v.pos;have y:=A.len;obtain⟨cs,N,O,Q,p⟩:=f.body;obtain⟨E,q,R⟩:=A.bT;have S:∀i s,E[i]? =some s->w.cell? (c8.add i)=some s:=λi s H=>by
  have T:j≠[]:=by rintro rfl;have:=q.length;simp at this;subst this;simp at H
  obtain⟨P,U,V,_,_,W⟩:=R T v.pos
  cases V
  rw[Addr.add_lit];exact W i s H
 refine Da v (news:=E) O S (by rw[q.length,y]) q.Oa (by rw[C,y];exact b) (by rw[C,y];exact M) λk X t I J B=>?_;have z:aj (λi=>aI a=some i) w t:=J.mono λ_ _ f=>f.symm
 let F':XM:=λP=>F P\/D P\/(w.heap.size<=P/\P<t.heap.size)
 have Z:w.heap.size<=t.heap.size:=J.size;refine x k X t F' ⟨⟨_,λP=>N P\/D P,I,bR.append ((Q.keep z λP b=>(p P b).2).mono λP b=>.inl b) ((q.keep z λP b=>(o P b).2).mono λP b=>.inr b),?_⟩,?_,?_⟩ z ?_ ?_
 ·intro P b
  have a1:P<w.heap.size:=b.elim (λd=>f.aE P (p P d).1) λd=>(o P d).1;refine⟨b.elim (λd=>.inl (p P d).1) λd=>.inr (.inl d),?_⟩;rcases B with B|B
  ·rw[B];exact b.elim (λd=>(p P d).2) λd=>(o P d).2
  ·rw[B];intro Y;cases Y;omega
 ·intro P b
  rcases B with B|B
  ·exact .inl (f.self P (B▸b))
  ·have:=I.lt b
   rw[B]at b;cases b;exact .inr (.inr ⟨Q4 _,this⟩)
 ·rintro P (b|b|b)
  ·have:=f.aE P b;omega
  ·have:=(o P b).1;omega
  ·exact b.2
 ·rintro P (b|b|b)
  ·exact .inl b
  ·exact .inr (.inl b)
  ·exact .inr (.inr b.1)
 ·intro P b
  rcases B with B|B
  ·exact .inl (f.self P (B▸b))
  ·rw[B]at b;cases b;exact .inr oM
end
def bR.free{b:Type}{d:Nat}{P:b->List Value}{e:b->Prop}{hl a}{f g:World}{D h:XM}:∀{c:List b} {cs:List Value},bR (flat d P e hl a) f D c cs->bR (flat d P e hl a) g h c cs
 |[],_,i=>i
 |x::c,_,⟨j,k,a,l,m⟩=>⟨j,k,a,l,m.free⟩
def aV.alone{P:i->List Value}{l:i->Prop}{hl h1}{m:List i}(e:aV (flat a P l hl h1) g f b d c j m):
  aV (flat a P l hl h1) g (λh=>aI d=some h) b d c j m:=by
 obtain⟨cs,p,n,o,q⟩:=e.body;exact⟨⟨cs,λ_=>False,n,o.free,λ_ e=>e.elim⟩,λh k=>k,λh k=>e.aE h (e.self h k)⟩
def vh{a:Type}(h:jK a)(i:TypeId)(b:World)(j:List a)(k:Value)(c:World):Prop:=
 ∃d e P f,k= .slice d e P/\aV h i f c d e P j/\ai b c/\∀g,f g->b.heap.size<=g
def Row.lit{enc:i->Value}{d:i->Prop}{hl h1}{bytes:Nat}{cs:Array Value}(e:b.heap[a]? =some (.cells cs g H))(c:List i)(j:cs.toList=c.map enc)(k:∀P∈c,d P)(l:c.length*bytes<=aS):
  Row (flat 1 (λP=>[enc P]) d hl h1) bytes b (·=a) (XL a) c.length c:=
 ⟨rfl,l,λf P h=>⟨a,0,[enc P],rfl,aB e,rfl,λm n=>by
  have:m=0:=Nat.lt_one_iff.1 n;subst this;have:cs.toList[f]? =some (enc P):=by rw[j];simp[h]
  have o:=ae e (off:=f) (v:=enc P) (by simpa using this);simpa[flat]using o,rfl,k P (QZ h)⟩⟩
def Row.part{P:jK i}{bytes:Nat}{D:XM}{g:List i}(e:Row P bytes b D d a g){lo hi cap:Nat}(u:lo<=hi)(v:hi<=a)(w:a<=cap):
  Row P bytes b D (cE d lo cap P.k) (hi-lo) ((g.take hi).drop lo):=by
 have x:=e.len;refine⟨by simp;omega,Xx (Q0 _ oM) e.ef,λh j c=>?_⟩;rw[List.getElem?_drop,Xw]at c;split at c
 ·rename_i y
  obtain⟨k,f,l,m,n,o,p,q⟩:=e.el (lo+h) j c
  by_cases r:cap=lo
  ·omega
  ·exact⟨k,f+lo*P.k,l,by rw[m];simp[cE,r,Addr.add_lit],n,o,λs t=>by rw[<-p s t];congr 2;rw[X7];omega,q⟩
 ·cases c
def aV.mL{P:jK i}{e:List i}(h:aV P g f b d a c e):a<=c:=by
 obtain⟨cs,k,j,_⟩:=h.body;exact j.N_
def Row.take{e:jK i}{bytes:Nat}{D:XM}{f:List i}(c:Row e bytes b D d a f){m:Nat}(g:m<=a):Row e bytes b D d m (f.take m):=by
 have j:=c.len;refine⟨by simp;omega,Xx (Q0 _ g) c.ef,λh x P=>?_⟩;rw[Xw]at P;split at P
 ·exact c.el h x P
 ·cases P
def yi{k:jK i}{s:List i}{bytes:Nat}(u:aV k g f b d a c s)(v:jx h n g k.k bytes){D:XM}{l:List i}(y:Row k bytes b D t j l)(B:t=none->j=0/\p=0)(C:∀P,D P->P<b.heap.size/\aI d≠some P)(o:(s.length+l.length)*bytes<=aS)(E:s.length+l.length<=maxLen)(q:∀w e x z,aV k g z x w (a+j) e (s++l)->aj (λF=>aI d=some F) b x->(∀P,z P->f P\/D P\/b.heap.size<=P)->(∀P,aI w=some P->f P\/b.heap.size<=P)->m (.slice w (a+j) e) x):
  aG h (Builtin.append_ #[n,n] A #[.slice d a c,.slice t j p]) b m r:=by
 cases t with
 |some M=>exact kj u v y C o E q
 |none=>
  obtain⟨rfl,rfl⟩:=B rfl;have H:l=[]:=QW y.len.symm;subst H;obtain⟨I,N,J,O,Q,R,S⟩:=jx.info v;obtain⟨cs,T,K,U,V⟩:=u.body;have L:=run_append_owned_none (P:=h) (w:=b) 0 n A g I k.k v.under J (.slice d a c) a cs K.row;exact aG.mk L (q d c b f (by simpa using u) (aj.refl _) (λP o=>.inl o) λP o=>.inl (u.self P o))
def aV.LF{P:jK i}{e:List i}(h:aV P g f b d a c e)(j:d=none):a=0/\c=0:=by
 obtain⟨cs,o,k,_⟩:=h.body;rcases k.cases with⟨_,l,m,_⟩|⟨p,n,rfl,_⟩
 ·exact⟨l,m⟩
 ·cases j
def SH(j:jx h g n 1 1)(e:(h.info? n).bind (·.zero)=some (.int .u8 0))(k:a<=c)(P:c<=aS)(f:∀d,aV fF n (·=b.heap.size) d (XL b.heap.size) a c (List.replicate a 0)->ai b d->d.heap.size=b.heap.size+1->m (.slice (XL b.heap.size) a c) d):
  aG h (Instr.makeSlice g (QH (a:Int)) (QH (c:Int))) b m r:=by
 unfold aS at P;obtain⟨q,s,l,o,t,u,A⟩:=j.info;have v:s= .int .u8 0:=by
  rw[l]at e;simp only[Option.bind_some,o]at e;exact XJ e
 subst v;have p:=run_make (P:=h) b g n q _ j.under l o .i64 .i64 a c oM oM (by rw[u];omega) oM;rw[Qx,Qx,t,Nat.mul_one]at p;have w:ai b (b.alloc (.cells (madeCells (Value.int .u8 0).cells c) n)):=aj.alloc b _;have x:(madeCells (Value.int .u8 0).cells c).toList=List.replicate c (.int .u8 0):=by
  unfold madeCells;rw[Array.toList_map];apply List.ext_getElem
  ·simp
  ·intro B C E
   simp[Value.cells,Nat.mod_one]
 refine aG.mk p (f _ ⟨⟨List.replicate a (.int .u8 0),λ_=>False,⟨⟨by simp[fF,flat],.inr ⟨b.heap.size,c,_,rfl,Qj _,heap_alloc_new b _,k,by unfold maxLen;omega,by simp[size_madeCells,fF,flat],?_⟩⟩⟩,?_,λ_ f=>f.elim⟩,λy P=>by simpa[aI]using P.symm,λy P=>by subst P;simp⟩ w sM)
 ·rw[x]
  simp only[fF,flat,Nat.mul_one,List.take_replicate];rw[X2 k]
 ·have i:∀a:Nat,bR fF (b.alloc (.cells (madeCells (Value.int .u8 0).cells c) n)) (λ_=>False) (List.replicate a 0) (List.replicate a (.int .u8 0)):=by
   intro a
   induction a with
   |zero=>rfl
   |succ a z=>exact⟨[.int .u8 0],List.replicate a (.int .u8 0),rfl,⟨rfl,trivial⟩,z⟩
  exact i a
end Go.au
namespace Go.au
open Go
def fy(P:Nat):List UInt8:=if a:P=0 then []else UInt8.ofNat (P % 256)::fy (P/256)
termination_by P
decreasing_by omega
def iY:fy 0=[]:=by rw[fy];simp
variable{e:Int}{a:Nat}
def kr(P:a≠0):fy a=UInt8.ofNat (a % 256)::fy (a/256):=by rw[fy];simp[P]
def wV:∀(P:Nat),P<2 ^ 64->(fy P).length=(Lib.bitLen P+7)/8:=by
 intro P
 induction P using Nat.strongRecOn with
 |_ P c=>
  intro b
  by_cases a:P=0
  ·subst a;rw[iY];decide
  ·rw[kr a,Xq]
   by_cases d:P<256
   ·have e:P/256=0:=oM
    rw[e,iY];have g:Lib.bitLen P<=8:=Lib.bitLen_le8 ⟨P,d⟩;have h:1<=Lib.bitLen P:=(Lib.bitLenAux_bounds 64 P b a).1;simp;omega
   ·have:=c (P/256) oM oM
    rw[this];have f:=Lib.bitLen_shift 8 P oM b;rw[show(2:Nat) ^ 8=256 from rfl]at f;omega
def Ax{u:Nat}(P:u<2 ^ 64):(fy u).length<=8:=by
 rw[wV u P]
 by_cases a:u=0
 ·subst a;decide
 ·have b:=Lib.bitLenAux_bounds 64 u P a
  have:Lib.bitLen u<=64:=by
   apply Nat.le_of_not_lt;intro c;have d:2 ^ 64<=2 ^(Lib.bitLen u-1):=Nat.pow_le_pow_right oM oM;have e:2 ^(Lib.bitLen u-1)<=u:=b.2.1;omega
  omega
def OJ:∀(b P:Nat),b<(fy P).length->(fy P)[b]? =some (UInt8.ofNat (P/256 ^ b % 256)):=by
 intro b
 induction b with
 |zero=>
  intro P a
  by_cases c:P=0
  ·subst c;rw[iY]at a;simp at a
  ·rw[kr c];simp
 |succ b d=>
  intro P a
  by_cases c:P=0
  ·subst c;rw[iY]at a;simp at a
  ·rw[kr c]at a⊢
   have:=d (P/256) (by simpa using a);rw[ZZ,this,Nat.div_div_eq_div_mul,Nat.pow_succ,Nat.mul_comm 256]
def fY(P:List UInt8):Nat:=P.foldl (λa b=>a*256+b.toNat) 0
def wW(P:List UInt8)(a:UInt8):fY (P++[a])=fY P*256+a.toNat:=by simp[fY,List.foldl_append]
def KO(P:List UInt8):fY P<256 ^ P.length:=by
 suffices c:∀(P:List UInt8) (a b:Nat),a<256 ^ b->P.foldl (λa d=>a*256+d.toNat) a<256 ^(b+P.length) by
  have:=c P 0 0 sM;simpa[fY]using this
 intro P
 induction P with
 |nil=>intro a b c;simpa using c
 |cons d P e=>
  intro a b c;have f:=d.toNat_lt;have:=e (a*256+d.toNat) (b+1) (by rw[Nat.pow_succ];omega);rw[List.foldl_cons,Xq];rw[show b+(P.length+1)=b+1+P.length by omega];exact this
def OL:∀(P:Nat),fY (fy P).reverse=P:=by
 intro P
 induction P using Nat.strongRecOn with
 |_ P b=>
  by_cases a:P=0
  ·subst a;rw[iY];rfl
  ·rw[kr a,List.reverse_cons,wW,b (P/256) oM]
   have:(UInt8.ofNat (P % 256)).toNat=P % 256:=by rw[ZK];omega
   rw[this];omega
def Mv:∀(P:Nat),P≠0->(fy P).getLast? ≠some 0:=by
 intro P
 induction P using Nat.strongRecOn with
 |_ P c=>
  intro d;rw[kr d]
  by_cases a:P/256=0
  ·rw[a,iY]
   simp only[List.getLast?_singleton,ne_eq,Q1];intro e;have:=Zj UInt8.toNat e;rw[ZK]at this;simp at this;omega
  ·have b:fy (P/256)≠[]:=by rw[kr a];simp
   rw[List.getLast?_cons,List.getLast?_eq_some_getLast b,Option.getD_some];have:=c (P/256) oM a;rw[List.getLast?_eq_some_getLast b]at this;exact this
def dR(P:Int):List UInt8:=UInt8.ofNat ((fy P.natAbs).length+if P<0 then 16 else 0)::(fy P.natAbs).reverse
def rdNum(c:List UInt8):Int×Int×Nat:=match c with
 |[]=>(4,0,0)
 |h::b=>
  let P:=if 16<h.toNat then h.toNat-16 else h.toNat
  let a:=fY (b.take P)
  if 8<P then(5,0,0)
  else if b.length<P then(4,0,0)
  else if(0<P/\b.head? =some 0)\/(¬16<h.toNat/\2 ^ 63<=a)\/(16<h.toNat/\2 ^ 63<a)then(5,0,0)
  else(0,if 16<h.toNat then-(a:Int)else a,P+1)
def CK(p:aN e)(d:List UInt8):rdNum (dR e++d)=(0,e,(dR e).length):=by
 unfold aN at p;have q:e.natAbs<2 ^ 64:=oM
 have r:=Ax q;have f:(fy e.natAbs).reverse.length=(fy e.natAbs).length:=List.length_reverse ..;have h:=OL e.natAbs;have m:e<0->1<=(fy e.natAbs).length:=λu=>by rw[kr oM];simp
 have i:0<(fy e.natAbs).length->((fy e.natAbs).reverse++d).head? ≠some 0:=λg=>by
  have s:e.natAbs≠0:=λc=>by rw[c,iY]at g;simp at g
  have:=Mv _ s;rw[List.head?_append,List.head?_reverse]
  cases j:(fy e.natAbs).getLast? with
  |none=>rw[List.getLast?_eq_none_iff]at j;rw[j]at g;simp at g
  |some v=>rw[j]at this;simpa using this
 unfold dR;rw[List.cons_append];generalize fy e.natAbs=P at r f h m i⊢;have t:(UInt8.ofNat (P.length+if e<0 then 16 else 0)).toNat=P.length+if e<0 then 16 else 0:=by
  rw[ZK];split<;>omega
 have n:(P.reverse++d).take P.length=P.reverse:=by
  rw[<-f,List.take_left]
 have o:¬(P.reverse++d).length<P.length:=sM
 unfold rdNum;simp only[t]
 by_cases k:e<0
 ·have w:=m k
  simp only[Zx k];have l:(if 16<P.length+16 then P.length+16-16 else P.length+16)=P.length:=by rw[Zx oM];omega
  simp only[l,n,h];rw[Zq oM,Zq o,Zq,Zx oM]
  ·have c: -(e.natAbs:Int)=e:=oM
   rw[c,Xq,f]
  ·rintro(⟨a,b⟩|⟨a,b⟩|⟨a,b⟩)
   ·exact i a b
   ·omega
   ·omega
 ·simp only[Zq k,Nat.add_zero]
  have l:(if 16<P.length then P.length-16 else P.length)=P.length:=by rw[Zq oM]
  simp only[l,n,h];rw[Zq oM,Zq o,Zq,Zq oM]
  ·have c:(e.natAbs:Int)=e:=oM
   rw[c,Xq,f]
  ·rintro(⟨a,b⟩|⟨a,b⟩|⟨a,b⟩)
   ·exact i a b
   ·omega
   ·omega
end Go.au
namespace Go.au
open Go
abbrev qp:=BitVec 32
def zq:qp:=0xEDB88320#32
def ml(P:qp):qp:=(P>>>1) ^^^(if P.getLsbD 0 then zq else 0#32)
def zr(P a:qp):ml (P ^^^ a)=ml P ^^^ ml a:=by
 unfold ml;rw[BitVec.ushiftRight_xor_distrib,BitVec.getLsbD_xor]
 cases P.getLsbD 0<;>cases a.getLsbD 0<;>simp only[Bool.xor_false,Bool.xor_true,Bool.not_true,Bool.not_false,if_true,if_false,Bool.false_eq_true,BitVec.xor_zero,BitVec.zero_xor]
 ·ac_rfl
 ·ac_rfl
 ·have:(P>>>1 ^^^ zq) ^^^(a>>>1 ^^^ zq)=(P>>>1 ^^^ a>>>1) ^^^(zq ^^^ zq):=by ac_rfl
  rw[this,BitVec.xor_self,BitVec.xor_zero]
def nK(P:qp):qp:=ml (ml (ml (ml (ml (ml (ml (ml P)))))))
def Cd(P a:qp):nK (P ^^^ a)=nK P ^^^ nK a:=by
 unfold nK;simp only[zr]
def Sf(P:Bool):qp:=if P then 1#32 else 0#32
def zt(P:qp)(a:Bool):qp:=(P>>>1) ^^^(if P.getLsbD 0 !=a then zq else 0#32)
def Ce(P:qp)(a:Bool):zt P a=ml (P ^^^ Sf a):=by
 unfold zt
 cases a
 ·simp[Sf,ml]
 ·rw[zr]
  have:ml (Sf true)=zq:=by decide+kernel
  rw[this];unfold ml
  cases P.getLsbD 0
  ·simp
  ·have b:(P>>>1 ^^^(if true=true then zq else 0#32)) ^^^ zq=P>>>1 ^^^(zq ^^^ zq):=by rw[Zx rfl];ac_rfl
   rw[b,BitVec.xor_self];simp
def jR(P:qp)(a:UInt8):qp:=(List.range 8).foldl (λP b=>zt P (a.toNat.testBit b)) P
def wx(P:UInt8):qp:=BitVec.ofNat 32 P.toNat
def Gf(P:qp)(b:UInt8):jR P b=nK P ^^^ jR 0#32 b:=by
 have f:∀(a:List Nat) (c d:qp),(a.foldl (λP e=>zt P (b.toNat.testBit e)) (c ^^^ d))=(a.foldl (λP _=>ml P) c) ^^^(a.foldl (λP e=>zt P (b.toNat.testBit e)) d):=by
  intro a
  induction a with
  |nil=>intro c d;rfl
  |cons e a g=>
   intro c d;simp only[List.foldl_cons];rw[<-g]
   congr 1
   rw[Ce,Ce];simp only[zr]
   ac_rfl
 have:=f (List.range 8) P 0#32;rw[BitVec.xor_zero]at this;exact this
def Gg(P:UInt8):jR 0#32 P=nK (wx P):=by
 have b:(List.range 256).all (λa=>jR 0#32 (UInt8.ofNat a)==nK (wx (UInt8.ofNat a)))=true:=by decide+kernel
 have:=ZY.1 b P.toNat (List.mem_range.2 P.toNat_lt);simpa using this
def IH(P:qp)(a:UInt8):jR P a=nK (P ^^^ wx a):=by
 rw[Gf,Gg,Cd]
def LI{P:qp}(a:P.getLsbD 0=false):ml P=P>>>1:=by
 unfold ml;rw[a];simp
def II(a:qp):nK (a&&&0xFFFFFF00#32)=a>>>8:=by
 have bit:∀P,P<8->((a&&&0xFFFFFF00#32)>>>P).getLsbD 0=false:=λP c=>by
  rw[BitVec.getLsbD_ushiftRight,BitVec.getLsbD_and,Nat.add_zero];have:(0xFFFFFF00#32:qp).getLsbD P=false:=by
   have d:(List.range 8).all (λP=>(0xFFFFFF00#32:qp).getLsbD P==false)=true:=by decide+kernel
   simpa using ZY.1 d P (List.mem_range.2 c)
  rw[this,Bool.and_false]
 have step:∀P,P<8->ml ((a&&&0xFFFFFF00#32)>>>P)=(a&&&0xFFFFFF00#32)>>>(P+1):=λP c=>by
  rw[LI (bit P c),BitVec.shiftRight_add]
 have e:a&&&0xFFFFFF00#32=(a&&&0xFFFFFF00#32)>>>0:=sM
 unfold nK;rw[e,step 0 oM,step 1 oM,step 2 oM,step 3 oM,step 4 oM,step 5 oM,step 6 oM,step 7 oM];apply BitVec.eq_of_getLsbD_eq;intro b f;rw[BitVec.getLsbD_ushiftRight,BitVec.getLsbD_ushiftRight,BitVec.getLsbD_and]
 by_cases g:7+1+b<32
 ·have:(0xFFFFFF00#32:qp).getLsbD (7+1+b)=true:=by
   have d:(List.range 24).all (λb=>(0xFFFFFF00#32:qp).getLsbD (7+1+b)==true)=true:=by decide+kernel
   simpa using ZY.1 d b (List.mem_range.2 oM)
  rw[this,Bool.and_true]
 ·rw[BitVec.getLsbD_of_ge _ _ oM]
  simp
def jA:List Nat:=[0x00000000,0x77073096,0xEE0E612C,0x990951BA,0x076DC419,0x706AF48F,0xE963A535,0x9E6495A3,0x0EDB8832,0x79DCB8A4,0xE0D5E91E,0x97D2D988,0x09B64C2B,0x7EB17CBD,0xE7B82D07,0x90BF1D91]
def jB:List Nat:=[0x00000000,0x1DB71064,0x3B6E20C8,0x26D930AC,0x76DC4190,0x6B6B51F4,0x4DB26158,0x5005713C,0xEDB88320,0xF00F9344,0xD6D6A3E8,0xCB61B38C,0x9B64C2B0,0x86D3D2D4,0xA00AE278,0xBDBDF21C]
def IJ(P:UInt8):nK (wx P)=BitVec.ofNat 32 (jA.getD (P.toNat % 16) 0) ^^^ BitVec.ofNat 32 (jB.getD (P.toNat/16) 0):=by
 have b:(List.range 256).all (λa=>nK (wx (UInt8.ofNat a))==BitVec.ofNat 32 (jA.getD ((UInt8.ofNat a).toNat % 16) 0) ^^^ BitVec.ofNat 32 (jB.getD ((UInt8.ofNat a).toNat/16) 0))=true:=by decide+kernel
 have:=ZY.1 b P.toNat (List.mem_range.2 P.toNat_lt);simpa using this
def LH(P:qp)(b:UInt8):jR P b=P>>>8 ^^^ BitVec.ofNat 32 (jA.getD ((b.toNat ^^^ P.toNat % 256) % 16) 0) ^^^ BitVec.ofNat 32 (jB.getD ((b.toNat ^^^ P.toNat % 256)/16) 0):=by
 have g:=b.toNat_lt;have n:b.toNat ^^^ P.toNat % 256<2 ^ 8:=Nat.xor_lt_two_pow oM oM;have c:(UInt8.ofNat (b.toNat ^^^ P.toNat % 256)).toNat=b.toNat ^^^ P.toNat % 256:=by
  rw[ZK];omega
 have d:=IJ (UInt8.ofNat (b.toNat ^^^ P.toNat % 256));rw[c]at d;have h:P ^^^ wx b=wx (UInt8.ofNat (b.toNat ^^^ P.toNat % 256)) ^^^(P&&&0xFFFFFF00#32):=by
  apply BitVec.eq_of_getLsbD_eq;intro a e;unfold wx;rw[c,BitVec.getLsbD_xor,BitVec.getLsbD_xor,BitVec.getLsbD_and,BitVec.getLsbD_ofNat,BitVec.getLsbD_ofNat,Nat.testBit_xor];have i:(P.toNat % 256).testBit a=(decide (a<8)&&P.toNat.testBit a):=by
   rw[show 256=2 ^ 8 from rfl,Nat.testBit_mod_two_pow]
  have j:P.getLsbD a=P.toNat.testBit a:=rfl;rw[i,j];have k:(0xFFFFFF00#32:qp).getLsbD a=decide (8<=a):=by
   have l:(List.range 32).all (λa=>(0xFFFFFF00#32:qp).getLsbD a==decide (8<=a))=true:=by decide+kernel
   simpa using ZY.1 l a (List.mem_range.2 e)
  rw[k,Zy e]
  by_cases f:a<8
  ·rw[Zy f,Xv oM]
   cases P.toNat.testBit a<;>cases b.toNat.testBit a<;>rfl
  ·have m:b.toNat.testBit a=false:=Nat.testBit_lt_two_pow (Qk g (by
    have:=Nat.pow_le_pow_right (n:=2) oM (show 8<=a by omega);simpa using this))
   rw[Xv f,Zy oM,m]
   cases P.toNat.testBit a<;>rfl
 rw[IH,h,Cd,II,d]
 ac_rfl
def Kq(P:qp)(a:List UInt8):qp:= ~~~(a.foldl jR (~~~P))
def IG(P:List UInt8):qp:=Kq 0#32 P
end Go.au
namespace Go.au
open Go
structure gA where
 bytes:List UInt8
 pos:Nat
 qw:Int
def gA.num(P:gA):Int×Int×Nat:=rdNum (P.bytes.drop P.pos)
def eQ(P:gA):Int×gA:=if P.qw≠0 then(0,P)else if P.num.1=0 then(P.num.2.1,⟨P.bytes,P.pos+P.num.2.2,0⟩)else(0,⟨P.bytes,P.pos,P.num.1⟩)
def bB(a:Int)(P:gA):Int×gA:=if P.qw≠0 then(0,P)else if P.num.1=0 then(if P.num.2.1<0\/a<P.num.2.1 then(0,⟨P.bytes,P.pos,3⟩)else(P.num.2.1,⟨P.bytes,P.pos+P.num.2.2,0⟩))else(0,⟨P.bytes,P.pos,P.num.1⟩)
def gB(P:gA):Int:=if P.qw=0/\P.pos<P.bytes.length then 5 else P.qw
def aU:Nat->gA->List Int×gA
 |0,P=>([],P)
 |k+1,P=>((aU k P).1++[(eQ (aU k P).2).1],(eQ (aU k P).2).2)
def jv(P:List UInt8):aN (rdNum P).2.1/\(rdNum P).2.2<=P.length/\(rdNum P).2.2<=9/\((rdNum P).1=0\/(rdNum P).1=4\/(rdNum P).1=5)/\((rdNum P).1=0->1<=(rdNum P).2.2):=by
 unfold rdNum
 cases P with
 |nil=>simp[aN]
 |cons a d=>
  simp only;generalize(if 16<a.toNat then a.toNat-16 else a.toNat)=b;have k:=KO (d.take b);generalize fY (d.take b)=c at k
  by_cases h:8<b
  ·rw[Zx h];simp[aN]
  rw[Zq h]
  by_cases i:d.length<b
  ·rw[Zx i];simp[aN]
  rw[Zq i]
  by_cases e:(0<b/\d.head? =some 0)\/(¬16<a.toNat/\2 ^ 63<=c)\/(16<a.toNat/\2 ^ 63<c)
  ·rw[Zx e];simp[aN]
  rw[Zq e];have j:(¬16<a.toNat->c<2 ^ 63)/\(16<a.toNat->c<=2 ^ 63):=by
   refine⟨λf=>?_,λf=>?_⟩
   ·exact Nat.lt_of_not_le λg=>e (.inr (.inl ⟨f,g⟩))
   ·exact Nat.le_of_not_lt λg=>e (.inr (.inr ⟨f,g⟩))
  refine⟨?_,by simp;omega,by show b+1<=9;omega,.inl rfl,λ_=>by show 1<=b+1;omega⟩;show aN (if 16<a.toNat then-(c:Int)else c);unfold aN;split
  ·have:=j.2 (by assumption);omega
  ·have:=j.1 (by assumption);omega
structure gA.Fit (r:gA):Prop where
 pos:r.pos<=r.bytes.length
 qw:r.qw=0\/r.qw=3\/r.qw=4\/r.qw=5
variable{e:Int}{q:List Int}{a7 s:List UInt8}{a:Nat}{Q:gA}
def gA.Fit.int(a:Q.Fit):(eQ Q).2.Fit/\aN (eQ Q).1/\(eQ Q).2.bytes=Q.bytes:=by
 obtain⟨b,c,e,P,f⟩:=jv (Q.bytes.drop Q.pos);have d:=a.pos;rw[XZ]at c;unfold eQ gA.num;split
 ·exact⟨a,by simp[aN],rfl⟩
 ·split
  ·exact⟨⟨by show Q.pos+_<=Q.bytes.length;omega,.inl rfl⟩,b,rfl⟩
  ·exact⟨⟨d,by show _\/_;rcases P with P|P|P<;>simp[P]⟩,by simp[aN],rfl⟩
def gA.Fit.count{r:gA}(b:r.Fit){m:Int}(a:0<=m):(bB m r).2.Fit/\0<=(bB m r).1/\(bB m r).1<=m/\(bB m r).2.bytes=r.bytes:=by
 obtain⟨e,d,f,P,g⟩:=jv (r.bytes.drop r.pos);have c:=b.pos;rw[XZ]at d;unfold bB gA.num;split
 ·exact⟨b,sM,a,rfl⟩
 ·split
  ·split
   ·exact⟨⟨c,.inr (.inl rfl)⟩,sM,a,rfl⟩
   ·exact⟨⟨by show r.pos+_<=r.bytes.length;omega,.inl rfl⟩,by simp only;omega,by simp only;omega,rfl⟩
  ·exact⟨⟨c,by show _\/_;rcases P with P|P|P<;>simp[P]⟩,by simp,a,rfl⟩
def gA.Fit.ints{P:gA}(c:P.Fit):∀k,(aU k P).2.Fit/\(∀b∈(aU k P).1,aN b)/\(aU k P).1.length=k/\(aU k P).2.bytes=P.bytes
 |0=>⟨c,by simp[aU],rfl,rfl⟩
 |k+1=>by
  obtain⟨d,e,f,g⟩:=gA.Fit.ints c k;obtain⟨h,i,j⟩:=d.int;refine⟨h,?_,?_,j.trans g⟩
  ·intro b a
   rcases Q6.1 a with a|a
   ·exact e b a
   ·rw[List.mem_singleton]at a;subst a;exact i
  ·simp[aU,f]
structure gA.At (r:gA) (b:List UInt8) (l:List UInt8):Prop where
 bytes:r.bytes=b
 pos:r.pos<=b.length
 qw:r.qw=0
 rest:b.drop r.pos=l
def gA.At.int(P:Q.At s (dR e++a7))(a:aN e):(eQ Q).1=e/\(eQ Q).2.At s a7:=by
 have b:Q.num=(0,e,(dR e).length):=by unfold gA.num;rw[P.bytes,P.rest];exact CK a a7
 have c:s.length-Q.pos=(dR e).length+a7.length:=by
  have:=Zj List.length P.rest
  rwa [XZ,QX]at this
 have d:=P.pos;unfold eQ;rw[b,Zq (by simp[P.qw]),Zx rfl];refine⟨rfl,P.bytes,by show Q.pos+(dR e).length<=_;omega,rfl,?_⟩;show s.drop (Q.pos+(dR e).length)=a7;rw[<-List.drop_drop,P.rest,List.drop_left]
def gA.At.count{r:gA}{P m:Int}(a:r.At s (dR P++a7))(b:aN P)(d:0<=P)(e:P<=m):(bB m r).1=P/\(bB m r).2.At s a7:=by
 have c:r.num=(0,P,(dR P).length):=by unfold gA.num;rw[a.bytes,a.rest];exact CK b a7
 have f:s.length-r.pos=(dR P).length+a7.length:=by
  have:=Zj List.length a.rest
  rwa [XZ,QX]at this
 have g:=a.pos;unfold bB;rw[c,Zq (by simp[a.qw]),Zx rfl,Zq bc];refine⟨rfl,a.bytes,by show r.pos+(dR P).length<=_;omega,rfl,?_⟩;show s.drop (r.pos+(dR P).length)=a7;rw[<-List.drop_drop,a.rest,List.drop_left]
def bg(P:List Int):List UInt8:=(P.map dR).flatten
def jT(P:Int)(a:List Int):bg (P::a)=dR P++bg a:=by simp[bg]
def ig(P a:List Int):bg (P++a)=bg P++bg a:=by simp[bg]
def gA.At.ints:∀(P:List Int) {zs:List Int},Q.At s (bg (P++zs)++a7)->(∀c∈P,aN c)->(aU P.length Q).1=P/\(aU P.length Q).2.At s (bg zs++a7):=by
 intro P;generalize a:P.length=e
 induction e generalizing P with
 |zero=>intro zs b _;have:=QW a;subst this;exact⟨rfl,b⟩
 |succ e d=>
  rcases List.eq_nil_or_concat P with rfl|⟨P,c,rfl⟩
  ·cases a
  rw[List.concat_eq_append]at a⊢;intro zs b f;rw[XQ]at b;rw[QX,List.length_singleton]at a;have d:=λ{zs:List Int}=>d P oM (zs:=zs);obtain⟨h,g⟩:=d b λi j=>f i (ZV _ j);rw[List.singleton_append,jT,XQ]at g;obtain⟨k,l⟩:=g.int (f c sM);exact⟨by show _++[_]=_;rw[h,k],l⟩
def gA.At.done(P:Q.At s []):gB Q=0:=by
 have a:=Zj List.length P.rest;rw[XZ,ZQ]at a;unfold gB;rw[P.bytes,P.qw,Zq oM]
structure ah where
 origin:Int
 seq:Int
 aA:Int
 aJ:List Int
 bk:Int
 agg:Int
 field:Int
 op:Int
 arg:Int
 key:Int
deriving DecidableEq
structure ah.Ok (e:ah):Prop where
 origin:aN e.origin
 seq:aN e.seq
 aA:aN e.aA
 aJ:∀x∈e.aJ,aN x
 bk:aN e.bk
 agg:aN e.agg
 field:aN e.field
 op:aN e.op
 arg:aN e.arg
 key:aN e.key
def zI:ah:=⟨0,0,0,[],0,0,0,0,0,0⟩
def MQ:zI.Ok:=by constructor<;>simp[zI,aN]
def fx(P:ah):List Int:=[P.origin,P.seq,P.aA,(P.aJ.length:Int)]++P.aJ++[P.bk,P.agg,P.field,P.op,P.arg,P.key]
def iJ(P:ah):List UInt8×Int:=if 64<P.aJ.length then([],3)else(bg (fx P),0)
def iU(d:gA):ah×gA:=
 (λa=>(λb=>(λc=>(λP=>(⟨a.1.getD 0 0,a.1.getD 1 0,a.1.getD 2 0,c.1,P.1.getD 0 0,P.1.getD 1 0,P.1.getD 2 0,P.1.getD 3 0,P.1.getD 4 0,P.1.getD 5 0⟩,P.2))
  (aU 6 c.2)) (aU b.1.toNat b.2)) (bB 64 a.2)) (aU 3 d)
def ij(P:List UInt8):ah×Int:=if gB (iU ⟨P,0,0⟩).2≠0 then(zI,gB (iU ⟨P,0,0⟩).2)else((iU ⟨P,0,0⟩).1,0)
def eT(b:∀P∈q,aN P)(a:Nat):aN (q.getD a 0):=by
 rw[QQ]
 cases c:q[a]? with
 |none=>simp[aN]
 |some P=>exact b P (QZ c)
def MR{r:gA}(b:r.Fit):(iU r).2.Fit/\(iU r).1.Ok/\(iU r).1.aJ.length<=64:=by
 obtain⟨c,a,i,j⟩:=b.ints 3;obtain⟨d,k,l,m⟩:=c.count (m:=64) oM;obtain⟨e,f,g,n⟩:=d.ints (bB 64 (aU 3 r).2).1.toNat;obtain⟨h,P,o,p⟩:=e.ints 6;refine⟨h,⟨eT a 0,eT a 1,eT a 2,f,eT P 0,eT P 1,eT P 2,eT P 3,eT P 4,eT P 5⟩,?_⟩;show(aU _ _).1.length<=64;rw[g];omega
def O_(P:List UInt8):(ij P).1.Ok/\(ij P).1.aJ.length<=64:=by
 unfold ij;have:=MR (r:=⟨P,0,0⟩) ⟨Qj _,.inl rfl⟩;split
 ·exact⟨MQ,by simp[zI]⟩
 ·exact this.2
variable{l:ah}
def MS(P:l.Ok)(u:l.aJ.length<=64):ij (bg (fx l))=(l,0):=by
 have c:(gA.mk (bg (fx l)) 0 0).At (bg (fx l)) (bg ([l.origin,l.seq,l.aA]++((l.aJ.length:Int)::(l.aJ++[l.bk,l.agg,l.field,l.op,l.arg,l.key])))++[]):=
  ⟨rfl,Qj _,rfl,by rw[List.drop_zero,List.append_nil];simp[fx]⟩
 generalize bg (fx l)=a at c⊢;obtain⟨f,d⟩:=gA.At.ints [l.origin,l.seq,l.aA] c (by intro g b;simp at b;rcases b with rfl|rfl|rfl<;>first|exact P.origin|exact P.seq|exact P.aA);rw[jT,XQ]at d;obtain⟨h,i⟩:=d.count (m:=64) bb oM oM;obtain⟨j,k⟩:=gA.At.ints l.aJ i P.aJ;have m:(aU l.aJ.length (bB 64 (aU [l.origin,l.seq,l.aA].length ⟨a,0,0⟩).2).2).2.At a (bg ([l.bk,l.agg,l.field,l.op,l.arg,l.key]++[])++[]):=k;obtain⟨n,o⟩:=gA.At.ints [l.bk,l.agg,l.field,l.op,l.arg,l.key] m (by intro g b;simp at b;rcases b with rfl|rfl|rfl|rfl|rfl|rfl<;>first|exact P.bk|exact P.agg|exact P.field|exact P.op|exact P.arg|exact P.key);have e:iU ⟨a,0,0⟩=(l,(aU 6 (aU l.aJ.length (bB 64 (aU 3 ⟨a,0,0⟩).2).2).2).2):=by
  have p:(bB 64 (aU 3 ⟨a,0,0⟩).2).1=(l.aJ.length:Int):=h;have q:(aU 3 ⟨a,0,0⟩).1=[l.origin,l.seq,l.aA]:=f;have r:(aU 6 (aU l.aJ.length (bB 64 (aU 3 ⟨a,0,0⟩).2).2).2).1=[l.bk,l.agg,l.field,l.op,l.arg,l.key]:=n;have s:(aU l.aJ.length (bB 64 (aU 3 ⟨a,0,0⟩).2).2).1=l.aJ:=j;unfold iU;simp only[p,q,Qx,r,s]
  rfl
 have t:gB (iU ⟨a,0,0⟩).2=0:=by rw[e];exact gA.At.done (by simpa[bg]using o)
 unfold ij;rw[t,Zq sM,e]
def MW(P:Nat):List UInt8:=[UInt8.ofNat (P/16777216),UInt8.ofNat (P/65536),UInt8.ofNat (P/256),UInt8.ofNat P]
def jC(a:Int)(P:List UInt8):List UInt8:=[UInt8.ofNat a.toNat,UInt8.ofNat (P.length/65536),UInt8.ofNat (P.length/256),UInt8.ofNat P.length]++P
def cu(P:Int)(a:List UInt8):List UInt8:=jC P a++MW (IG (jC P a)).toNat++[10]
def jO(P:Int)(a:List UInt8):List UInt8×Int:=if P<1\/255<P then([],2)else if 65536<a.length then([],5)else(cu P a,0)
structure VV where
 kind:Int
 body:List UInt8
 n:Nat
 no:Int
def bq(P:List UInt8):VV:=if P.length<4 then⟨0,[],0,4⟩else if P.getD 0 0=0 then⟨0,[],0,2⟩else
 (λa=>if 65536<a then⟨0,[],0,5⟩else if P.length<a+9 then⟨0,[],0,4⟩else
  if P.take (a+9)=cu (P.getD 0 0).toNat ((P.drop 4).take a)then⟨(P.getD 0 0).toNat,(P.drop 4).take a,a+9,0⟩else⟨0,[],0,6⟩)
  ((P.getD 1 0).toNat*65536+(P.getD 2 0).toNat*256+(P.getD 3 0).toNat)
def eM(a:Int)(P:List UInt8):(cu a P).length=P.length+9:=by simp[cu,jC,MW]
def uh(P:(bq s).no=0):(bq s).n<=s.length/\9<=(bq s).n/\(bq s).n=(bq s).body.length+9:=by
 unfold bq at P⊢;generalize(s.getD 1 0).toNat*65536+(s.getD 2 0).toNat*256+(s.getD 3 0).toNat=f at P⊢;split at P
 ·cases P
 rename_i a;rw[Zq a];split at P
 ·cases P
 rename_i b;rw[Zq b];simp only at P⊢;split at P
 ·cases P
 rename_i c;rw[Zq c];split at P
 ·cases P
 rename_i d;rw[Zq d];split at P
 ·rename_i e
  rw[Zx e];refine⟨by simp only;omega,by simp only;omega,by simp;omega⟩
 ·cases P
def Pq(P:a<=65536):(UInt8.ofNat (a/65536)).toNat*65536+(UInt8.ofNat (a/256)).toNat*256+(UInt8.ofNat a).toNat=a:=by
 simp only[ZK];omega
def CG{k:Int}{body r:List UInt8}(i:1<=k)(j:k<=255)(a:body.length<=65536):bq (cu k body++r)=⟨k,body,body.length+9,0⟩:=by
 have P:(UInt8.ofNat k.toNat).toNat=k.toNat:=by rw[ZK];omega
 have b:(cu k body++r).getD 0 0=UInt8.ofNat k.toNat:=rfl;have c:(cu k body++r).getD 1 0=UInt8.ofNat (body.length/65536):=rfl;have d:(cu k body++r).getD 2 0=UInt8.ofNat (body.length/256):=rfl;have e:(cu k body++r).getD 3 0=UInt8.ofNat body.length:=rfl;have f:((cu k body++r).drop 4).take body.length=body:=by
  have:(cu k body++r).drop 4=body++(MW (IG (jC k body)).toNat++[10]++r):=by simp[cu,jC]
  rw[this,List.take_left]
 have g:=eM k body;unfold bq;rw[b,c,d,e,Pq a,Zq (by rw[QX];omega),Zq (by intro h;have:=Zj UInt8.toNat h;rw[P]at this;simp at this;omega)];simp only[f,P];rw[Zq oM,Zq (by rw[QX];omega),Zx]
 ·congr 1;omega
 ·rw[<-g,List.take_left]
  congr 1;omega
def Uf(b:List UInt8)(P:b.length=4)(a:Nat)(k:a<2 ^ 32):fY b=a↔b=MW a:=by
 match b,P with
 |[c,d,e,f],_=>
  have l:=c.toNat_lt;have m:=d.toNat_lt;have n:=e.toNat_lt;have o:=f.toNat_lt;have j:fY [c,d,e,f]=((c.toNat*256+d.toNat)*256+e.toNat)*256+f.toNat:=by simp[fY]
  rw[j];constructor
  ·intro P
   unfold MW;have g:∀(h:UInt8) (i:Nat),h.toNat=i % 256->h=UInt8.ofNat i:=λh i P=>UInt8.toNat_inj.1 (by rw[ZK,P]);rw[g c (a/16777216) oM,g d (a/65536) oM,g e (a/256) oM,g f a oM]
  ·intro P
   unfold MW at P;simp only[List.cons.injEq,and_true]at P;obtain⟨rfl,rfl,rfl,rfl⟩:=P;simp only[ZK];omega
def RG:∀{a:List UInt8},4<=a.length->a.take 4=[a.getD 0 0,a.getD 1 0,a.getD 2 0,a.getD 3 0]
 |x::b::c::d::e,_=>rfl
 |[],P=>by simp at P
 |[_],P=>by simp at P
 |[_,_],P=>by simp at P
 |[_,_,_],P=>by simp at P
def Ss{b:List UInt8}{n:Nat}(l:n+9<=b.length)(m:(b.getD 1 0).toNat*65536+(b.getD 2 0).toNat*256+(b.getD 3 0).toNat=n)(o:n<=65536):
  b.take (n+9)=cu (b.getD 0 0).toNat ((b.drop 4).take n)↔((IG (b.take (4+n))).toNat=fY ((b.drop (4+n)).take 4)/\b.getD (8+n) 0=10):=by
 have g:((b.drop 4).take n).length=n:=by simp;omega
 have P:∀(a:UInt8) (c:Nat),a.toNat=c % 256->UInt8.ofNat c=a:=λa c d=>UInt8.toNat_inj.1 (by rw[ZK,d]);have p:=(b.getD 1 0).toNat_lt;have q:=(b.getD 2 0).toNat_lt;have r:=(b.getD 3 0).toNat_lt;have h:jC (b.getD 0 0).toNat ((b.drop 4).take n)=b.take (4+n):=by
  unfold jC;rw[g,Qx,P (b.getD 0 0) _ (by have:=(b.getD 0 0).toNat_lt;omega),P (b.getD 1 0) (n/65536) oM,P (b.getD 2 0) (n/256) oM,P (b.getD 3 0) n oM];rw[List.take_add]
  congr 1
  exact(RG oM).symm
 have i:b.take (n+9)=b.take (4+n)++(b.drop (4+n)).take 4++[b.getD (8+n) 0]:=by
  rw[show n+9=(4+n)+(4+1) by omega,List.take_add,XQ,List.take_add (l:=b.drop (4+n)),List.drop_drop]
  congr 2
  rw[show 4+n+4=8+n by omega,QQ,Qq oM,Option.getD_some];rw[X4 oM]
  rfl
 unfold cu;rw[h,i];have j:((b.drop (4+n)).take 4).length=4:=by simp;omega
 have k:(IG (b.take (4+n))).toNat<2 ^ 32:=(IG (b.take (4+n))).isLt;rw[eq_comm (b:=fY _),Uf _ j _ k];constructor
 ·intro d
  obtain⟨e,f⟩:=List.append_inj' d rfl;exact⟨List.append_cancel_left e,by simpa using f⟩
 ·rintro⟨e,f⟩
  rw[e,f]
def bC(P:List UInt8):List ah×Nat:=
 if a:(bq P).no=0/\(bq P).kind=1/\(ij (bq P).body).2=0 then((ij (bq P).body).1::(bC (P.drop (bq P).n)).1,(bq P).n+(bC (P.drop (bq P).n)).2)else([],0)
termination_by P.length
decreasing_by all_goals(have:=uh a.1;simp;omega)
def w_(P:(bq s).no=0/\(bq s).kind=1/\(ij (bq s).body).2=0):bC s=((ij (bq s).body).1::(bC (s.drop (bq s).n)).1,(bq s).n+(bC (s.drop (bq s).n)).2):=by
 rw[bC,dif_pos P]
def AK(P:¬((bq s).no=0/\(bq s).kind=1/\(ij (bq s).body).2=0)):bC s=([],0):=by
 rw[bC,dif_neg P]
def MT(P:aN e):(dR e).length<=9:=by
 unfold aN at P;have:=Ax (u:=e.natAbs) oM;simp[dR];omega
def fw:∀{l:List Int},(∀P∈l,aN P)->(bg l).length<=9*l.length
 |[],_=>by simp[bg]
 |n::l,a=>by
  rw[jT,QX,Xq];have c:=MT (a n (QV ..));have d:=fw (l:=l) λP b=>a P (QJ _ b);omega
def ah.Ok.ints(P:l.Ok)(c:l.aJ.length<=4611686018427387904):∀b∈fx l,aN b:=by
 intro b a;simp only[fx,Q6,Q2,List.not_mem_nil,or_false]at a;rcases a with((rfl|rfl|rfl|rfl)|a)|(rfl|rfl|rfl|rfl|rfl|rfl)
 ·exact P.origin
 ·exact P.seq
 ·exact P.aA
 ·unfold aN;omega
 ·exact P.aJ b a
 ·exact P.bk
 ·exact P.agg
 ·exact P.field
 ·exact P.op
 ·exact P.arg
 ·exact P.key
def Cz(P:l.Ok)(a:l.aJ.length<=64):(bg (fx l)).length<=666:=by
 have:=fw (P.ints oM);have b:(fx l).length=10+l.aJ.length:=by simp[fx];omega
 omega
def mi(P:ah):List UInt8:=cu 1 (bg (fx P))
def HF(P:l.Ok)(a:l.aJ.length<=64):(mi l).length<=675/\9<=(mi l).length:=by
 have:=Cz P a;unfold mi;rw[eM];omega
def Ps(P:l.Ok)(a:l.aJ.length<=64)(b:List UInt8):bq (mi l++b)=⟨1,bg (fx l),(mi l).length,0⟩:=by
 unfold mi;rw[CG dC dC (by have:=Cz P a;omega),eM]
def AV(a:l.Ok)(b:l.aJ.length<=64)(P:List UInt8):bC (mi l++P)=(l::(bC P).1,(mi l).length+(bC P).2):=by
 have c:=Ps a b P;have d:=MS a b;rw[w_ (by rw[c];exact⟨rfl,rfl,by rw[d]⟩),c,d,List.drop_left]
def az(P:List ah):List UInt8:=(P.map mi).flatten
def gF(P:ah)(a:List ah):az (P::a)=mi P++az a:=by simp[az]
def fI(P a:List ah):az (P++a)=az P++az a:=by simp[az]
def wO:∀{P:List ah},(∀e∈P,e.Ok/\e.aJ.length<=64)->∀a,bC (az P++a)=(P++(bC a).1,(az P).length+(bC a).2)
 |[],_,a=>by simp[az]
 |e::P,b,a=>by
  obtain⟨c,d⟩:=b e (QV ..);rw[gF,XQ,AV c d,wO (λf g=>b f (QJ _ g)),QX];simp only[List.cons_append,Nat.add_assoc]
def xl(P:s.length<4):(bq s).no≠0:=by unfold bq;rw[Zx P];simp
def Ke(c:s.length<=65536)(h:a<(cu e s).length):(bq ((cu e s).take a)).no≠0:=by
 by_cases i:a<4
 ·exact xl (by rw[Qy];omega)
 have P:∀b,b<4->((cu e s).take a).getD b 0=(cu e s).getD b 0:=λb j=>by
  rw[QQ,QQ,Xw,Zx oM]
 have k:=eM e s;have d:(cu e s).getD 1 0=UInt8.ofNat (s.length/65536):=rfl;have f:(cu e s).getD 2 0=UInt8.ofNat (s.length/256):=rfl;have g:(cu e s).getD 3 0=UInt8.ofNat s.length:=rfl;unfold bq;rw[P 0 oM,P 1 oM,P 2 oM,P 3 oM,d,f,g,Pq c];split
 ·simp
 split
 ·simp
 simp only;rw[Zq oM,Zx (by rw[Qy];omega)];simp
def xm(P:(bq s).no≠0):bC s=([],0):=AK λa=>P a.1
def pU:bC []=([],0):=xm (xl sM)
def uK:∀{l:List ah},(∀e∈l,e.Ok/\e.aJ.length<=64)->∀(a:Nat),∃P,P<=l.length/\bC ((az l).take a)=(l.take P,(az (l.take P)).length)/\(az (l.take P)).length<=a/\(P<l.length->a<(az (l.take (P+1))).length)
 |[],_,a=>⟨0,Q4 _,by simp[az,pU],by simp[az],sM⟩
 |e::l,b,a=>by
  obtain⟨c,d⟩:=b e (QV ..)
  by_cases f:a<(mi e).length
  ·refine⟨0,Qj _,?_,by simp[az],λ_=>by simpa[az]using f⟩
   rw[gF,List.take_append_of_le_length oM,xm]
   ·rfl
   ·exact Ke (by have:=Cz c d;omega) f
  ·obtain⟨P,g,h,n,i⟩:=uK (l:=l) (λj k=>b j (QJ _ k)) (a-(mi e).length)
   refine⟨P+1,by simpa using g,?_,?_,λm=>?_⟩
   ·rw[gF,List.take_append,Qz oM,AV c d,h,Zw,gF,QX]
   ·rw[Zw,gF,QX];omega
   ·have:=i (by simpa using m)
    rw[Zw,gF,QX];omega
def gi(P:ah):List UInt8×Int:=if(iJ P).2≠0 then([],(iJ P).2)else jO 1 (iJ P).1
end Go.au
namespace Go.Proofs.YtblabbpipmodgaaGreatDoor
open Go.au
def rU:jx XG 197 5 1 1:=⟨kR,kR,dC⟩
end Go.Proofs.YtblabbpipmodgaaGreatDoor
namespace Go.Proofs
open Go.Shelf
def Tryz.Ch:Go.Shelf.Ren:=⟨λ|7=>247|10=>296|n=>n,λ|23=>140|26=>9|3=>204|28=>209|0=>0|27=>208|33=>280|4=>4|n=>n,λ|n=>n⟩
def Tryz.rl:Go.Proofs.SlLaysZ.n7 Tryz.prog Tryz.Ch:={
 mixed:=by kernel_rfl
 f7:=⟨Tryz.f247.name,am,Tryz.func247.trans ac⟩
 f10:=⟨Tryz.f296.name,am,Tryz.func296.trans ac⟩
 t0:=Tryz.underlying0
 a0:=Tryz.isAgg0
 z0:=Tryz.sizeOf0
 v0:=Tryz.zeroValue0
 t4:=Tryz.underlying4
 a4:=Tryz.isAgg4
 z4:=Tryz.sizeOf4
 v4:=Tryz.zeroValue4
 t23:=Tryz.underlying140
 a23:=Tryz.isAgg140
 z23:=Tryz.sizeOf140
 v23:=Tryz.zeroValue140
 t26:=Tryz.underlying9
 a26:=Tryz.isAgg9
 z26:=Tryz.sizeOf9
 v26:=Tryz.zeroValue9
 t27:=Tryz.underlying208
 a27:=Tryz.isAgg208
 z27:=Tryz.sizeOf208
 v27:=Tryz.zeroValue208
 t28:=Tryz.underlying209
 a28:=Tryz.isAgg209
 z28:=Tryz.sizeOf209
 v28:=Tryz.zeroValue209
 t33:=Tryz.underlying280
 a33:=Tryz.isAgg280
 z33:=Tryz.sizeOf280
 v33:=Tryz.zeroValue280}
def Tryz.wy:Go.Shelf.Ren:=⟨λ|6=>246|8=>294|9=>295|11=>326|13=>207|12=>327|23=>275|24=>276|14=>350|15=>351|16=>352|17=>353|18=>354|19=>355|20=>356|21=>357|22=>358|25=>366|26=>307|27=>308|28=>367|29=>368|30=>369|31=>372|n=>n,λ|26=>9|28=>209|24=>281|0=>0|3=>3|37=>311|48=>357|50=>359|4=>4|40=>351|39=>350|45=>180|5=>5|9=>9|51=>386|55=>379|57=>406|58=>407|33=>280|n=>n,λ|n=>n⟩
def Tryz.PX:Go.Proofs.SlLaysZ.n6 Tryz.prog Tryz.wy:={
 mixed:=by kernel_rfl
 f6:=⟨Tryz.f246.name,am,Tryz.func246.trans ac⟩
 f8:=⟨Tryz.f294.name,am,Tryz.func294.trans ac⟩
 f11:=⟨Tryz.f326.name,am,Tryz.func326.trans ac⟩
 t0:=Tryz.underlying0
 a0:=Tryz.isAgg0
 z0:=Tryz.sizeOf0
 v0:=Tryz.zeroValue0
 t24:=Tryz.underlying281
 a24:=Tryz.isAgg281
 z24:=Tryz.sizeOf281
 v24:=Tryz.zeroValue281
 t26:=Tryz.underlying9
 a26:=Tryz.isAgg9
 z26:=Tryz.sizeOf9
 v26:=Tryz.zeroValue9
 t28:=Tryz.underlying209
 a28:=Tryz.isAgg209
 z28:=Tryz.sizeOf209
 v28:=Tryz.zeroValue209
 i26:=by kernel_rfl}
def Tryz.MM:Go.Shelf.Ren:=⟨λ|6=>295|8=>207|9=>327|19=>275|20=>276|21=>350|22=>351|23=>352|24=>353|25=>354|26=>355|27=>356|28=>357|29=>358|36=>366|31=>307|32=>308|37=>367|38=>368|39=>369|41=>372|n=>n,λ|27=>281|29=>9|3=>3|32=>311|26=>281|0=>0|44=>357|46=>359|4=>4|36=>351|35=>350|41=>180|5=>5|9=>9|53=>386|57=>379|63=>406|64=>407|n=>n,λ|n=>n⟩
def Tryz.Ru:Go.Proofs.SlLaysM.n6 Tryz.prog Tryz.MM:={
 mixed:=by kernel_rfl
 f6:=⟨Tryz.f295.name,am,Tryz.func295.trans ac⟩
 f8:=Tryz.func207.trans ac
 f9:=⟨Tryz.f327.name,am,Tryz.func327.trans ac⟩
 f19:=Tryz.func275.trans ac
 f20:=Tryz.func276.trans ac
 f21:=⟨Tryz.f350.name,am,Tryz.func350.trans ac⟩
 f22:=⟨Tryz.f351.name,am,Tryz.func351.trans ac⟩
 f23:=⟨Tryz.f352.name,am,Tryz.func352.trans ac⟩
 f24:=⟨Tryz.f353.name,am,Tryz.func353.trans ac⟩
 f25:=⟨Tryz.f354.name,am,Tryz.func354.trans ac⟩
 f26:=⟨Tryz.f355.name,am,Tryz.func355.trans ac⟩
 f27:=⟨Tryz.f356.name,am,Tryz.func356.trans ac⟩
 f28:=⟨Tryz.f357.name,am,Tryz.func357.trans ac⟩
 f29:=⟨Tryz.f358.name,am,Tryz.func358.trans ac⟩
 f31:=Tryz.func307.trans ac
 f32:=Tryz.func308.trans ac
 f36:=⟨Tryz.f366.name,am,Tryz.func366.trans ac⟩
 f37:=⟨Tryz.f367.name,am,Tryz.func367.trans ac⟩
 f38:=⟨Tryz.f368.name,am,Tryz.func368.trans ac⟩
 f39:=⟨Tryz.f369.name,am,Tryz.func369.trans ac⟩
 f41:=⟨Tryz.f372.name,am,Tryz.func372.trans ac⟩
 t0:=Tryz.underlying0
 a0:=Tryz.isAgg0
 z0:=Tryz.sizeOf0
 v0:=Tryz.zeroValue0
 t3:=Tryz.underlying3
 a3:=Tryz.isAgg3
 z3:=Tryz.sizeOf3
 v3:=Tryz.zeroValue3
 t4:=Tryz.underlying4
 a4:=Tryz.isAgg4
 z4:=Tryz.sizeOf4
 v4:=Tryz.zeroValue4
 t5:=Tryz.underlying5
 a5:=Tryz.isAgg5
 z5:=Tryz.sizeOf5
 v5:=Tryz.zeroValue5
 t9:=Tryz.underlying9
 a9:=Tryz.isAgg9
 z9:=Tryz.sizeOf9
 v9:=Tryz.zeroValue9
 t26:=Tryz.underlying281
 a26:=Tryz.isAgg281
 z26:=Tryz.sizeOf281
 v26:=Tryz.zeroValue281
 t27:=Tryz.underlying281
 a27:=Tryz.isAgg281
 z27:=Tryz.sizeOf281
 v27:=Tryz.zeroValue281
 t29:=Tryz.underlying9
 a29:=Tryz.isAgg9
 z29:=Tryz.sizeOf9
 v29:=Tryz.zeroValue9
 t32:=Tryz.underlying311
 a32:=Tryz.isAgg311
 z32:=Tryz.sizeOf311
 v32:=Tryz.zeroValue311
 t35:=Tryz.underlying350
 a35:=Tryz.isAgg350
 z35:=Tryz.sizeOf350
 v35:=Tryz.zeroValue350
 t36:=Tryz.underlying351
 a36:=Tryz.isAgg351
 z36:=Tryz.sizeOf351
 v36:=Tryz.zeroValue351
 t41:=Tryz.underlying180
 a41:=Tryz.isAgg180
 z41:=Tryz.sizeOf180
 v41:=Tryz.zeroValue180
 t44:=Tryz.underlying357
 a44:=Tryz.isAgg357
 z44:=Tryz.sizeOf357
 v44:=Tryz.zeroValue357
 t46:=Tryz.underlying359
 a46:=Tryz.isAgg359
 z46:=Tryz.sizeOf359
 v46:=Tryz.zeroValue359
 t53:=Tryz.underlying386
 a53:=Tryz.isAgg386
 z53:=Tryz.sizeOf386
 v53:=Tryz.zeroValue386
 t57:=Tryz.underlying379
 a57:=Tryz.isAgg379
 z57:=Tryz.sizeOf379
 v57:=Tryz.zeroValue379
 t63:=Tryz.underlying406
 a63:=Tryz.isAgg406
 z63:=Tryz.sizeOf406
 v63:=Tryz.zeroValue406
 t64:=Tryz.underlying407
 a64:=Tryz.isAgg407
 z64:=Tryz.sizeOf407
 v64:=Tryz.zeroValue407}
def Tryz.HJ:Go.Shelf.Ren:=⟨λ|137=>341|217=>363|266=>371|n=>n,λ|9=>9|5=>5|3=>3|n=>n,λ|n=>n⟩
def Tryz.Qo:Go.Proofs.Lays.n137 Tryz.prog Tryz.HJ:={
 mixed:=by kernel_rfl
 f137:=Tryz.func341.trans ac
 f217:=Tryz.func363.trans ac
 f266:=Tryz.func371.trans ac
 t3:=Tryz.underlying3
 a3:=Tryz.isAgg3
 z3:=Tryz.sizeOf3
 v3:=Tryz.zeroValue3
 t5:=Tryz.underlying5
 a5:=Tryz.isAgg5
 z5:=Tryz.sizeOf5
 v5:=Tryz.zeroValue5
 t9:=Tryz.underlying9
 a9:=Tryz.isAgg9
 z9:=Tryz.sizeOf9
 v9:=Tryz.zeroValue9}
def Tryz.HK:Go.Shelf.Ren:=⟨λ|129=>276|n=>n,λ|53=>359|3=>3|4=>4|46=>311|5=>5|9=>9|n=>n,λ|n=>n⟩
def Tryz.QO:Go.Proofs.Lays.n129 Tryz.prog Tryz.HK:={
 mixed:=by kernel_rfl
 f129:=Tryz.func276.trans ac
 t3:=Tryz.underlying3
 a3:=Tryz.isAgg3
 z3:=Tryz.sizeOf3
 v3:=Tryz.zeroValue3
 t4:=Tryz.underlying4
 a4:=Tryz.isAgg4
 z4:=Tryz.sizeOf4
 v4:=Tryz.zeroValue4
 t5:=Tryz.underlying5
 a5:=Tryz.isAgg5
 z5:=Tryz.sizeOf5
 v5:=Tryz.zeroValue5
 t9:=Tryz.underlying9
 a9:=Tryz.isAgg9
 z9:=Tryz.sizeOf9
 v9:=Tryz.zeroValue9
 t46:=Tryz.underlying311
 a46:=Tryz.isAgg311
 z46:=Tryz.sizeOf311
 v46:=Tryz.zeroValue311
 t53:=Tryz.underlying359
 a53:=Tryz.isAgg359
 z53:=Tryz.sizeOf359
 v53:=Tryz.zeroValue359}
def Tryz.EO:Go.Shelf.Ren:=⟨λ|171=>173|243=>245|246=>293|283=>322|284=>323|285=>324|286=>325|129=>276|317=>346|318=>347|319=>348|320=>349|337=>364|338=>365|n=>n,λ|3=>3|9=>9|2=>2|4=>4|171=>398|0=>0|53=>359|37=>197|5=>5|173=>400|212=>420|51=>357|20=>20|213=>421|46=>311|232=>432|233=>433|n=>n,λ|17=>4|18=>6|19=>7|n=>n⟩
def Tryz.OY:Go.Proofs.LaysM.n171 Tryz.prog Tryz.EO:={
 mixed:=by kernel_rfl
 f129:=Tryz.func276.trans ac
 f171:=Tryz.func173.trans ac
 f243:=Tryz.func245.trans ac
 f246:=Tryz.func293.trans ac
 f283:=Tryz.func322.trans ac
 f284:=Tryz.func323.trans ac
 f285:=Tryz.func324.trans ac
 f286:=Tryz.func325.trans ac
 f317:=Tryz.func346.trans ac
 f318:=Tryz.func347.trans ac
 f319:=Tryz.func348.trans ac
 f320:=Tryz.func349.trans ac
 f337:=Tryz.func364.trans ac
 f338:=Tryz.func365.trans ac
 t0:=Tryz.underlying0
 a0:=Tryz.isAgg0
 z0:=Tryz.sizeOf0
 v0:=Tryz.zeroValue0
 t2:=Tryz.underlying2
 a2:=Tryz.isAgg2
 z2:=Tryz.sizeOf2
 v2:=Tryz.zeroValue2
 t3:=Tryz.underlying3
 a3:=Tryz.isAgg3
 z3:=Tryz.sizeOf3
 v3:=Tryz.zeroValue3
 t4:=Tryz.underlying4
 a4:=Tryz.isAgg4
 z4:=Tryz.sizeOf4
 v4:=Tryz.zeroValue4
 t5:=Tryz.underlying5
 a5:=Tryz.isAgg5
 z5:=Tryz.sizeOf5
 v5:=Tryz.zeroValue5
 t9:=Tryz.underlying9
 a9:=Tryz.isAgg9
 z9:=Tryz.sizeOf9
 v9:=Tryz.zeroValue9
 t20:=Tryz.underlying20
 a20:=Tryz.isAgg20
 z20:=Tryz.sizeOf20
 v20:=Tryz.zeroValue20
 t37:=Tryz.underlying197
 a37:=Tryz.isAgg197
 z37:=Tryz.sizeOf197
 v37:=Tryz.zeroValue197
 t46:=Tryz.underlying311
 a46:=Tryz.isAgg311
 z46:=Tryz.sizeOf311
 v46:=Tryz.zeroValue311
 t51:=Tryz.underlying357
 a51:=Tryz.isAgg357
 z51:=Tryz.sizeOf357
 v51:=Tryz.zeroValue357
 t53:=Tryz.underlying359
 a53:=Tryz.isAgg359
 z53:=Tryz.sizeOf359
 v53:=Tryz.zeroValue359
 t171:=Tryz.underlying398
 a171:=Tryz.isAgg398
 z171:=Tryz.sizeOf398
 v171:=Tryz.zeroValue398
 t173:=Tryz.underlying400
 a173:=Tryz.isAgg400
 z173:=Tryz.sizeOf400
 v173:=Tryz.zeroValue400
 t212:=Tryz.underlying420
 a212:=Tryz.isAgg420
 z212:=Tryz.sizeOf420
 v212:=Tryz.zeroValue420
 t213:=Tryz.underlying421
 a213:=Tryz.isAgg421
 z213:=Tryz.sizeOf421
 t232:=Tryz.underlying432
 a232:=Tryz.isAgg432
 z232:=Tryz.sizeOf432
 v232:=Tryz.zeroValue432
 t233:=Tryz.underlying433
 a233:=Tryz.isAgg433
 z233:=Tryz.sizeOf433
 v233:=Tryz.zeroValue433
 g17:=by kernel_rfl
 g18:=by kernel_rfl
 g19:=by kernel_rfl
 i0:=by kernel_rfl
 i2:=by kernel_rfl
 i3:=by kernel_rfl
 i4:=by kernel_rfl
 i5:=by kernel_rfl
 i9:=by kernel_rfl
 i20:=by kernel_rfl
 i37:=by kernel_rfl
 i46:=by kernel_rfl
 i51:=by kernel_rfl
 i53:=by kernel_rfl
 i171:=by kernel_rfl
 i173:=by kernel_rfl
 i212:=by kernel_rfl
 i232:=by kernel_rfl
 i233:=by kernel_rfl
 m17:=by kernel_rfl
 m18:=by kernel_rfl
 m19:=by kernel_rfl}
def Tryz.CT:Go.Shelf.Ren:=⟨λ|7=>240|10=>289|n=>n,λ|23=>147|26=>3|3=>3|28=>329|0=>0|27=>328|33=>175|4=>4|n=>n,λ|n=>n⟩
def Tryz.Ua:Go.Proofs.SlLaysZI.n7 Tryz.prog Tryz.CT:={
 mixed:=by kernel_rfl
 f7:=⟨Tryz.f240.name,am,Tryz.func240.trans ac⟩
 f10:=⟨Tryz.f289.name,am,Tryz.func289.trans ac⟩
 t0:=Tryz.underlying0
 a0:=Tryz.isAgg0
 z0:=Tryz.sizeOf0
 v0:=Tryz.zeroValue0
 t4:=Tryz.underlying4
 a4:=Tryz.isAgg4
 z4:=Tryz.sizeOf4
 v4:=Tryz.zeroValue4
 t23:=Tryz.underlying147
 a23:=Tryz.isAgg147
 z23:=Tryz.sizeOf147
 v23:=Tryz.zeroValue147
 t26:=Tryz.underlying3
 a26:=Tryz.isAgg3
 z26:=Tryz.sizeOf3
 v26:=Tryz.zeroValue3
 t27:=Tryz.underlying328
 a27:=Tryz.isAgg328
 z27:=Tryz.sizeOf328
 v27:=Tryz.zeroValue328
 t28:=Tryz.underlying329
 a28:=Tryz.isAgg329
 z28:=Tryz.sizeOf329
 v28:=Tryz.zeroValue329
 t33:=Tryz.underlying175
 a33:=Tryz.isAgg175
 z33:=Tryz.sizeOf175
 v33:=Tryz.zeroValue175}
def Tryz.xf:Go.Shelf.Ren:=⟨λ|6=>239|8=>287|9=>288|11=>318|13=>207|12=>319|23=>275|24=>276|14=>333|15=>334|16=>335|17=>336|18=>337|19=>338|20=>311|21=>339|22=>340|25=>360|26=>307|27=>308|28=>361|29=>362|30=>277|31=>370|n=>n,λ|26=>3|28=>329|24=>27|0=>0|3=>3|37=>311|48=>357|50=>359|4=>4|40=>351|39=>350|45=>180|5=>5|9=>9|51=>386|55=>379|57=>406|58=>407|33=>175|n=>n,λ|n=>n⟩
def Tryz.Rm:Go.Proofs.SlLaysZI.n6 Tryz.prog Tryz.xf:={
 mixed:=by kernel_rfl
 f6:=⟨Tryz.f239.name,am,Tryz.func239.trans ac⟩
 f8:=⟨Tryz.f287.name,am,Tryz.func287.trans ac⟩
 f11:=⟨Tryz.f318.name,am,Tryz.func318.trans ac⟩
 t0:=Tryz.underlying0
 a0:=Tryz.isAgg0
 z0:=Tryz.sizeOf0
 v0:=Tryz.zeroValue0
 t24:=Tryz.underlying27
 a24:=Tryz.isAgg27
 z24:=Tryz.sizeOf27
 v24:=Tryz.zeroValue27
 t26:=Tryz.underlying3
 a26:=Tryz.isAgg3
 z26:=Tryz.sizeOf3
 v26:=Tryz.zeroValue3
 t28:=Tryz.underlying329
 a28:=Tryz.isAgg329
 z28:=Tryz.sizeOf329
 v28:=Tryz.zeroValue329
 i26:=by kernel_rfl}
def Tryz.MN:Go.Shelf.Ren:=⟨λ|5=>288|8=>207|7=>319|19=>275|20=>276|10=>333|11=>334|12=>335|13=>336|14=>337|15=>338|16=>311|17=>339|18=>340|30=>360|31=>307|32=>308|33=>361|34=>362|35=>277|40=>370|n=>n,λ|23=>27|25=>3|3=>3|32=>311|22=>27|0=>0|44=>357|46=>359|4=>4|36=>351|35=>350|41=>180|5=>5|9=>9|53=>386|57=>379|63=>406|64=>407|n=>n,λ|n=>n⟩
def Tryz.uP:Go.Proofs.SlLaysM.n5 Tryz.prog Tryz.MN:={
 mixed:=by kernel_rfl
 f5:=⟨Tryz.f288.name,am,Tryz.func288.trans ac⟩
 f7:=⟨Tryz.f319.name,am,Tryz.func319.trans ac⟩
 f8:=Tryz.func207.trans ac
 f10:=⟨Tryz.f333.name,am,Tryz.func333.trans ac⟩
 f11:=⟨Tryz.f334.name,am,Tryz.func334.trans ac⟩
 f12:=⟨Tryz.f335.name,am,Tryz.func335.trans ac⟩
 f13:=⟨Tryz.f336.name,am,Tryz.func336.trans ac⟩
 f14:=⟨Tryz.f337.name,am,Tryz.func337.trans ac⟩
 f15:=⟨Tryz.f338.name,am,Tryz.func338.trans ac⟩
 f16:=⟨Tryz.f311.name,am,Tryz.func311.trans ac⟩
 f17:=⟨Tryz.f339.name,am,Tryz.func339.trans ac⟩
 f18:=⟨Tryz.f340.name,am,Tryz.func340.trans ac⟩
 f19:=Tryz.func275.trans ac
 f20:=Tryz.func276.trans ac
 f30:=⟨Tryz.f360.name,am,Tryz.func360.trans ac⟩
 f31:=Tryz.func307.trans ac
 f32:=Tryz.func308.trans ac
 f33:=⟨Tryz.f361.name,am,Tryz.func361.trans ac⟩
 f34:=⟨Tryz.f362.name,am,Tryz.func362.trans ac⟩
 f35:=⟨Tryz.f277.name,am,Tryz.func277.trans ac⟩
 f40:=⟨Tryz.f370.name,am,Tryz.func370.trans ac⟩
 t0:=Tryz.underlying0
 a0:=Tryz.isAgg0
 z0:=Tryz.sizeOf0
 v0:=Tryz.zeroValue0
 t3:=Tryz.underlying3
 a3:=Tryz.isAgg3
 z3:=Tryz.sizeOf3
 v3:=Tryz.zeroValue3
 t4:=Tryz.underlying4
 a4:=Tryz.isAgg4
 z4:=Tryz.sizeOf4
 v4:=Tryz.zeroValue4
 t5:=Tryz.underlying5
 a5:=Tryz.isAgg5
 z5:=Tryz.sizeOf5
 v5:=Tryz.zeroValue5
 t9:=Tryz.underlying9
 a9:=Tryz.isAgg9
 z9:=Tryz.sizeOf9
 v9:=Tryz.zeroValue9
 t22:=Tryz.underlying27
 a22:=Tryz.isAgg27
 z22:=Tryz.sizeOf27
 v22:=Tryz.zeroValue27
 t23:=Tryz.underlying27
 a23:=Tryz.isAgg27
 z23:=Tryz.sizeOf27
 v23:=Tryz.zeroValue27
 t25:=Tryz.underlying3
 a25:=Tryz.isAgg3
 z25:=Tryz.sizeOf3
 v25:=Tryz.zeroValue3
 t32:=Tryz.underlying311
 a32:=Tryz.isAgg311
 z32:=Tryz.sizeOf311
 v32:=Tryz.zeroValue311
 t35:=Tryz.underlying350
 a35:=Tryz.isAgg350
 z35:=Tryz.sizeOf350
 v35:=Tryz.zeroValue350
 t36:=Tryz.underlying351
 a36:=Tryz.isAgg351
 z36:=Tryz.sizeOf351
 v36:=Tryz.zeroValue351
 t41:=Tryz.underlying180
 a41:=Tryz.isAgg180
 z41:=Tryz.sizeOf180
 v41:=Tryz.zeroValue180
 t44:=Tryz.underlying357
 a44:=Tryz.isAgg357
 z44:=Tryz.sizeOf357
 v44:=Tryz.zeroValue357
 t46:=Tryz.underlying359
 a46:=Tryz.isAgg359
 z46:=Tryz.sizeOf359
 v46:=Tryz.zeroValue359
 t53:=Tryz.underlying386
 a53:=Tryz.isAgg386
 z53:=Tryz.sizeOf386
 v53:=Tryz.zeroValue386
 t57:=Tryz.underlying379
 a57:=Tryz.isAgg379
 z57:=Tryz.sizeOf379
 v57:=Tryz.zeroValue379
 t63:=Tryz.underlying406
 a63:=Tryz.isAgg406
 z63:=Tryz.sizeOf406
 v63:=Tryz.zeroValue406
 t64:=Tryz.underlying407
 a64:=Tryz.isAgg407
 z64:=Tryz.sizeOf407
 v64:=Tryz.zeroValue407}
end Go.Proofs
namespace Go.au
open Go
def wrap_u64(P:Int):XH .u64 P=P % 18446744073709551616:=by
 unfold XH;simp[IntKind.signed,IntKind.bits]
variable{a7 s:List UInt8}{a c j p:Nat}{d:XU}{h:Program}{A g n:TypeId}{m r:XN}{b:World}
def CI(P:a<18446744073709551616):XH .u64 (a:Int)=a:=by rw[wrap_u64];omega
def JE(u:jx h g n 1 1){L D:XM}(e:aV fF n L b (XL a) c j s)(C:Row fF 1 b D d c a7)(k:∀l,aV fF n (·=a) l (XL a) c j a7->aj (·=a) b l->l.heap.size=b.heap.size->m (QH c) l):
  aG h (Builtin.copy_ #[g,g] A #[.slice (XL a) c j,.slice d c p]) b m r:=by
 obtain⟨a1,a2,M,hz,N,a3,a4⟩:=u.info;have E:(h.info? n).map (·.size)=some 1:=by rw[M];simp[N]
 have o:=C.len;have O:=e.len dC;obtain⟨a5,D0,F,a6,a8⟩:=e.body;rcases F.cases with⟨v,_⟩|⟨Q,P,v,w,R,S,a9⟩
 ·cases v
 cases v
 by_cases H:c=0
 ·subst H
  have:a7=[]:=QW o.symm;subst this;have:s=[]:=QW O.symm;subst this;have q:=run_copy_none (P:=h) b g g A n (XL a) d 0 j 0 p u.under E (by rfl);refine aG.mk (v:=QH 0) q (k b ?_ (aj.refl _) rfl);have:=e.alone;exact⟨by obtain⟨cs,D,T,f,b0⟩:=this.body;exact⟨cs,λ_=>False,T,by rw[show cs=[]from f];rfl,λ_ e=>e.elim⟩,λf i=>by simpa[aI]using i.symm,λf i=>by rw[i];exact aB w⟩
 ·obtain⟨cs,x,U⟩:=C.bT
  have y:a7≠[]:=by rintro rfl;simp at o;exact H o
  obtain⟨f,z,V,_,_,W⟩:=U y dC;subst V;have t:cs.length=c:=by have:=x.length;rw[this,o];show _*1=_;omega
  have b1:P.size=j:=by rw[S];show j*1=j;omega
  have q:=run_copy_row (P:=h) b g g A n a 0 c j ⟨f,z,none⟩ c p P n cs u.under E w (by rw[t];simp[Nat.min_self]) (λX Y Z=>by rw[Addr.add_lit];exact W X Y Z) oM (x.Oa);rw[t]at q;have I:=setRow_heap b a P (P.toList.take 0++cs++P.toList.drop (0+c)).toArray n (0,0) w;refine aG.mk q (k _ ⟨⟨cs,λ_=>False,⟨⟨by rw[t];show c=c*1;omega,.inr ⟨a,j,_,rfl,Qj _,I,R,?_,?_,?_⟩⟩⟩,x.free,λ_ e=>e.elim⟩,λf i=>by simpa[aI]using i.symm,λf i=>by subst i;exact aB I⟩ ⟨rfl,rfl,rfl,by simp[World.setRow],λa0 hk y=>setRow_other b a a0 _ y⟩ (by simp[World.setRow]))
  ·rcases F.row.2 with⟨B,_⟩|⟨Q,J,K,B,_,_,_,hm,_⟩
   ·cases B
   ·cases B;exact hm
  ·show _=j*1
   simp;omega
  ·simp only[List.take_zero,List.nil_append,Xz]
   show(cs++P.toList.drop c).take (c*1)=cs;rw[Nat.mul_one,<-t,List.take_left]
end Go.au
namespace Go.Proofs.YtblabbpipmodgaaGreatDoor
open Go.au
variable{e:Int}{s:List UInt8}{a c:Nat}{d:XU}{b:World}
def Mu(c:aN e):ZH 304 #[QH e] b (Ok λd f=>d= .tuple #[.int .u64 (e.natAbs:Int),.int .u8 (if e<0 then 16 else 0)]/\b=f):=by
 unfold aN at c;refine FY (al.dec (λP=>?_) (λP=>?_))
 ·refine Ok.mk ⟨?_,rfl⟩
  rw[Zx P,wrap_u64,wrap_u64];have a:(0-e % 18446744073709551616) % 18446744073709551616=(e.natAbs:Int):=oM
  rw[a]
 ·refine Ok.mk ⟨?_,rfl⟩
  rw[Zq P,wrap_u64];have a:e % 18446744073709551616=(e.natAbs:Int):=oM
  rw[a]
def bits_Len64{P:Nat}{a:World}(d:P<18446744073709551616):ZH 276 #[.int .u64 (P:Int)] a (Ok λc b=>c= QH (Lib.bitLen P:Int)/\a=b):=by
 refine(Any.bits_Len64 Tryz.QO (P:Int) a oM oM).mono ?_;rintro e b ⟨rfl,rfl⟩;exact Ok.mk ⟨by rw[Qx],rfl⟩
def SG(c:a<=8)(P:Bool):NB .u8 (if P then 16 else 0) (XH .u8 (a:Int))=((UInt8.ofNat (a+if P then 16 else 0)).toNat:Int):=by
 have b:(List.range 9).all (λa=>NB .u8 16 (XH .u8 (a:Int))==((UInt8.ofNat (a+16)).toNat:Int)&&NB .u8 0 (XH .u8 (a:Int))==((UInt8.ofNat (a+0)).toNat:Int))=true:=by decide+kernel
 have:=ZY.1 b a (List.mem_range.2 oM);simp only[QK,beq_iff_eq]at this
 cases P
 ·exact this.2
 ·exact this.1
def zG{m:Int}{D:XM}(t:aN m)(g:Row fF 1 b D d a s)(K:a+9<=aS)(hD:∀f,D f->f<b.heap.size):
  ZH 260 #[.slice d a c,QH m] b (Ok (vh fF 5 b (s++dR m))):=by
 have k:=g.len;have l:=t;unfold aN at l;have L:=K;unfold aS at L;have u:m.natAbs<2 ^ 64:=oM
 have v:=Ax u;have M:=wV _ u;refine Is (PC.ok (Mu t) ?_);rintro _ _ ⟨rfl,rfl⟩;refine⟨_,_,rfl,PC.ok (bits_Len64 oM) ?_⟩;rintro _ _ ⟨rfl,rfl⟩;have N:XH .i64 (Int.tdiv (XH .i64 ((Lib.bitLen m.natAbs:Int)+7)) 8)=((fy m.natAbs).length:Int):=by
  rw[wrap_i64 (x:=(Lib.bitLen m.natAbs:Int)+7) bb,Int.tdiv_eq_ediv_of_nonneg oM,wrap_i64 bb,M];omega
 have O:XH .i64 ((XH .i64 (((a:Nat):Int)+1))+((fy m.natAbs).length:Int))=((a+1+(fy m.natAbs).length:Nat):Int):=by
  rw[wrap_i64 (x:=((a:Nat):Int)+1) bb,wrap_i64 bb];omega
 refine⟨_,rfl,?_⟩;rw[N,O];refine SH rU kR oM ba λw1 Q w b4=>?_;refine⟨_,_,_,rfl,JE rU Q (g.af w) λR S T b5=>⟨_,rfl,?_⟩⟩;have y:ai b R:=w.new T λf g=>.inr oM;rw[show XH .u8 ((fy m.natAbs).length:Int)=XH .u8 ((fy m.natAbs).length:Int)from rfl];have z:=SG v (decide (m<0));simp only[Zk]at z;rw[z];refine Fj S rU (x:=UInt8.ofNat ((fy m.natAbs).length+if m<0 then 16 else 0)) (D:=λ_=>False) ⟨rfl,trivial⟩ (λ_ h=>h.elim) (by rw[<-k];unfold aS;omega) (by rw[<-k];unfold maxLen;omega) λa4 c3 U V A W X b6=>?_;have Y:ai b U:=y.new W λf g=>.inr (by simp only[aI,Q1]at g;omega);have Z:a+1=(s++[UInt8.ofNat ((fy m.natAbs).length+if m<0 then 16 else 0)]).length:=by simp[k]
 generalize a8:s++[UInt8.ofNat ((fy m.natAbs).length+if m<0 then 16 else 0)]=n at A Z;have a0:s++dR m=n++(fy m.natAbs).reverse:=by rw[<-a8,XQ];rfl
 rw[a0];generalize a9:(fy m.natAbs).length=e at v⊢;refine⟨_,_,_,rfl,λB C o E F H=>∃P:Nat,P<=e/\F=(e:Int)-1-P/\B=e-P/\o=a+1+P/\∃i,aV fF 5 i H C o E (n++(fy m.natAbs).reverse.take P)/\ai b H/\∀f,i f->b.heap.size<=f,
  ⟨_,0,Qj _,by rw[wrap_i64 bb];omega,rfl,rfl,V,by simpa using A,Y,λf g=>?_⟩,?_⟩
 ·rcases X f g with h|h|h
  ·omega
  ·exact h.elim
  ·have:=y.size;omega
 rintro B C o E F _ p ⟨P,hj,rfl,rfl,rfl,i,j,q,r⟩;refine al.dec (λh1=>?_) (λh1=>?_)
 ·have b7:P<e:=oM
  have b0:XH .i64 (8*((e:Int)-1-P))=((8*(e-1-P):Nat):Int):=by rw[wrap_i64 bb];omega
  rw[b0];have a1:∀x I,(do eqGuard .shr 359 x I (.int .u64 (m.natAbs:Int)) (QH ((8*(e-1-P):Nat):Int));binOp .shr 359 (.int .u64 (m.natAbs:Int)) (QH ((8*(e-1-P):Nat):Int)):Sem Value).run XG p=
    .ok (.int .u64 ((m.natAbs/256 ^(e-1-P):Nat):Int)) p:=λx I=>by
   have h0:=shift_shr .u64 .i64 (m.natAbs:Int) ((8*(e-1-P):Nat):Int) oM (by show _<=((64:Nat):Int);omega);have e1:(m.natAbs:Int)/2 ^(Int.toNat ((8*(e-1-P):Nat):Int))=((m.natAbs/256 ^(e-1-P):Nat):Int):=by
    have e2:(256:Nat) ^(e-1-P)=2 ^(8*(e-1-P)):=by rw[Nat.pow_mul]
    rw[Qx,e2];simp
   show(Op.shift .shr .u64 (m.natAbs:Int) .i64 ((8*(e-1-P):Nat):Int)).run XG p=_;rw[h0,e1]
   rfl
  refine aG.mk (a1 _ _) ⟨_,rfl,?_⟩;have a2:(fy m.natAbs).reverse[P]? =some (UInt8.ofNat (m.natAbs/256 ^(e-1-P))):=by
   rw[List.getElem?_reverse oM,a9];rw[OJ _ _ oM]
   congr 1
   refine UInt8.toNat_inj.1 ?_;rw[ZK,ZK];omega
  have a3:XH .u8 ((m.natAbs/256 ^(e-1-P):Nat):Int)=((UInt8.ofNat (m.natAbs/256 ^(e-1-P))).toNat:Int):=by
   rw[ZK];unfold XH;simp[IntKind.signed,IntKind.bits]
  rw[a3];have J:(n++(fy m.natAbs).reverse.take P).length=a+1+P:=by simp;omega
  refine Fj j rU (x:=UInt8.ofNat (m.natAbs/256 ^(e-1-P))) (D:=λ_=>False) ⟨rfl,trivial⟩ (λ_ h=>h.elim) (by rw[J];unfold aS;omega) (by rw[J];unfold maxLen;omega) λa5 c5 w5 F5 b1 b2 b3 b8=>?_;refine⟨_,_,_,rfl,_,oM,P+1,oM,by rw[wrap_i64 bb];omega,rfl,oM,F5,?_,q.new b2 λf g=>.inr (r f (j.self f g)),λf g=>?_⟩
  ·rw[Qw,a2]
   simpa using b1
  ·rcases b3 f g with h|h|h
   ·exact r f h
   ·exact h.elim
   ·exact Xx q.size h
 ·obtain rfl:P=e:=oM
  rw[Qz bc]at j;exact Ok.mk ⟨_,_,_,i,rfl,j,q,r⟩
end Go.Proofs.YtblabbpipmodgaaGreatDoor
namespace Go.au
open Go
def Own.set{e:World}{k:TypeId}{l:Nat}{f:XU}{n a:Nat}{cs:List Value}(o:Own e k l f n a cs){m:Nat}{p:Value}{q:XT}(F:m<cs.length){b c:Nat}(g:f=some ⟨b,c,none⟩)(h:∀P,Own P k l f n a (cs.set m p)->aj (λb=>aI f=some b) e P->P.heap.size=e.heap.size->q P):PS e ⟨b,c+m,none⟩ p q:=by
 have r:=o.row.1;rcases o.row.2 with⟨d,H⟩|⟨I,J,i,d,s,t,u,v,w,j⟩
 ·simp only[XX]at d
  rw[d.1]at g;cases g
 ·simp only[XX]at d
  obtain⟨x,-,y⟩:=d;subst x;subst y
  cases g
  rw[Xz];have z:m<i.size:=by
   have:=Zj List.length j;simp at this;omega
  refine PS.mk t z λP A B C=>h P ⟨⟨by simpa using r,.inr ⟨_,_,_,rfl,s,C,u,v,by simpa using w,?_⟩⟩⟩ (A.mono λb _ E=>by rw[E];rfl) B;rw[Array.toList_setIfInBounds,List.take_set,j]
def bR.uM{b:Type}{c:Nat}{P:b->List Value}{hl h1}{d:World}{D:XM}:∀{a:List b} {cs:List Value},bR (flat c P (λ_=>True) hl h1) d D a cs↔cs=a.flatMap P
 |[],cs=>by simp[bR]
 |x::a,cs=>by
  constructor
  ·rintro⟨f,g,rfl,⟨rfl,-⟩,e⟩
   rw[bR.uM.1 e];rfl
  ·rintro rfl
   exact⟨P x,a.flatMap P,rfl,⟨rfl,trivial⟩,bR.uM.2 rfl⟩
def wU{f:Type}{P:f->List Value}{b:Nat}(g:∀c,(P c).length=b){j:f}{k:Value}{d:Nat}(l:d<b):∀(h:List f) (a:Nat) (c:f),h[a]? =some c->P j=(P c).set d k->(h.flatMap P).set (a*b+d) k=(h.set a j).flatMap P
 |[],a,c,e,_=>by simp at e
 |y::m,0,c,e,i=>by
  simp at e;subst e;rw[List.flatMap_cons,List.set_cons_zero,List.flatMap_cons,Nat.zero_mul,Xz,List.set_append_left _ _ (by rw[g];exact l),i]
 |y::m,a+1,c,e,i=>by
  have:=wU g l m a c (by simpa using e) i;have n:(a+1)*b+d-b=a*b+d:=by rw[X7];omega
  have o:b<=(a+1)*b+d:=by rw[X7];omega
  rw[List.flatMap_cons,List.set_cons_succ,List.flatMap_cons,List.set_append_right _ _ (by rw[g];exact o),g,n,this]
def p_{b:Type}{P:b->List Value}{c:Nat}(d:∀x,(P x).length=c):∀a:List b,(a.flatMap P).length=a.length*c
 |[]=>by simp
 |x::a=>by rw[List.flatMap_cons,QX,d,p_ d a,Xq,X7,Nat.one_mul,Nat.add_comm]
variable{a c j p:Nat}{f:XM}{d t:XU}{h:Program}{i:Type}{A g n:TypeId}{v:Value}{m r:XN}{b:World}
def aV.set{P:i->List Value}{hl h1}{p l:Nat}{e:List i}(n:aV (flat a P (λ_=>True) hl h1) g f b d p l e){c j:Nat}{x x':i}{q:XT}(r:e[c]? =some x)(t:j<a)(u:P x'=(P x).set j v){h m:Nat}(w:d=some ⟨h,m,none⟩)(o:∀k,aV (flat a P (λ_=>True) hl h1) g f k d p l (e.set c x')->aj (λh=>aI d=some h) b k->k.heap.size=b.heap.size->q k):PS b ⟨h,m+c*a+j,none⟩ v q:=by
 obtain⟨cs,D,y,z,A⟩:=n.body;have B:=bR.uM.1 z;subst B;have C:c<e.length:=(Qv.1 r).1;rw[Nat.add_assoc];refine y.set (m:=c*a+j) ?_ w λk E F s=>o k ⟨⟨_,D,E,bR.uM.2 (wU hl t e c x r u),A⟩,n.self,λh H=>by rw[s];exact n.aE h H⟩ F s;rw[p_ hl];have:(c+1)*a<=e.length*a:=Q0 _ C;rw[X7]at this;omega
def vZ{P:Program}{w:World}(a:Nat)(c h d:TypeId)(i:TypeInfo)(b:Nat)(f:P.underlying c=some (.slice d))(g:P.info? d=some i)(e:Value)(j:Nat)(k:List Value)(l:w.ownsRow a d b e j k)(m:Nat):
  (Builtin.append_ #[c,c] h #[e,.slice none 0 m]).run P w= .ok e w:=by
 rcases l.2 with⟨rfl,rfl⟩|⟨q,n,o,rfl,_,_,p,_⟩
 ·simp[Builtin.append_,run_underlying f,sizeOf,typeInfo,g,Builtin.lenOf,Builtin.firstCells]
 ·simp[Builtin.append_,run_underlying f,sizeOf,typeInfo,g,Builtin.lenOf,Builtin.firstCells,p,storeCells]
def yl{l:jK i}{s:List i}{bytes:Nat}(u:aV l g f b d a c s)(v:jx h n g l.k bytes){D:XM}{k:List i}(w:Row l bytes b D t j k)(B:∀P,D P->P<b.heap.size/\aI d≠some P)(o:(s.length+k.length)*bytes<=aS)(C:s.length+k.length<=maxLen)(q:∀x e y z,aV l g z y x (a+j) e (s++k)->aj (λE=>aI d=some E) b y->(∀P,z P->f P\/D P\/b.heap.size<=P)->(∀P,aI x=some P->f P\/b.heap.size<=P)->m (.slice x (a+j) e) y):
  aG h (Builtin.append_ #[n,n] A #[.slice d a c,.slice t j p]) b m r:=by
 cases t with
 |some N=>exact kj u v w B o C q
 |none=>
  have F:k=[]:=by
   cases k with
   |nil=>rfl
   |cons H O=>obtain⟨P,I,Q,J,_⟩:=w.el 0 H rfl;cases J
  subst F;obtain rfl:j=0:=w.len;obtain⟨K,R,L,S,T,U,V⟩:=jx.info v;obtain⟨cs,W,M,X,Y⟩:=u.body;exact aG.mk (vZ (P:=h) (w:=b) 0 n A g K l.k v.under L (.slice d a c) a cs M.row p) (q d c b f (by simpa using u) (aj.refl _) (λP o=>.inl o) λP o=>.inl (u.self P o))
end Go.au
namespace Go.au
open Go
def Jc(P:UInt8):XH .i64 (P.toNat:Int)=P.toNat:=wrap_i64 (by have:=P.toNat_lt;unfold aN;omega)
def ku(P:UInt8):Nat:=if 16<P.toNat then P.toNat-16 else P.toNat
def JH(a:UInt8):(XH .i64 (ue .u8 (a.toNat:Int) 16)<=8/\((a.toNat:Int)≠16)↔ku a<=8)/\(ku a<=8->XH .i64 (ue .u8 (a.toNat:Int) 16)=(ku a:Int)/\DA .u8 (a.toNat:Int) 16=if 16<a.toNat then 16 else 0):=by
 have b:(List.range 256).all (λP=>decide ((XH .i64 (ue .u8 (P:Int) 16)<=8/\((P:Int)≠16)↔(if 16<P then P-16 else P)<=8)/\((if 16<P then P-16 else P)<=8->XH .i64 (ue .u8 (P:Int) 16)=((if 16<P then P-16 else P:Nat):Int)/\DA .u8 (P:Int) 16=if 16<P then 16 else 0)))=true:=by decide+kernel
 have:=ZY.1 b a.toNat (List.mem_range.2 a.toNat_lt);exact XV this
def JI{P d:Nat}(c:P<72057594037927936)(e:d<256):NB .u64 (IZ .u64 (P:Int) 8) (XH .u64 (d:Int))=((P*256+d:Nat):Int):=by
 have a:IZ .u64 (P:Int) 8=((P*256:Nat):Int):=by
  unfold IZ;have:min (Int.toNat 8) (IntKind.bits .u64)=8:=dC
  rw[this,wrap_u64];have:((2:Int) ^ 8)=256:=dC
  rw[this];omega
 rw[a,CI oM];unfold NB;show XH .u64 ((BitVec.ofInt 64 ((P*256:Nat):Int)|||BitVec.ofInt 64 (d:Int)).toNat:Int)=_;have b:P*256|||d=P*256+d:=by
  have:=(Nat.shiftLeft_add_eq_or_of_lt (a:=P) (i:=8) (b:=d) oM).symm
  rwa [Nat.shiftLeft_eq]at this
 rw[BitVec.ofInt_natCast,BitVec.ofInt_natCast,BitVec.toNat_or,BitVec.toNat_ofNat,BitVec.toNat_ofNat,Nat.mod_eq_of_lt oM,Nat.mod_eq_of_lt oM,b,CI oM]
variable{s:List UInt8}{a:Nat}{b8:UInt8}
def Co(P:s[a]? =some b8):fY (s.take (a+1))=fY (s.take a)*256+b8.toNat:=by
 rw[Qw,P];exact wW _ _
def nj(P:List UInt8){j m:Nat}(a:j<=m):fY (P.take j)<256 ^ m:=by
 have b:=KO (P.take j);have c:256 ^(P.take j).length<=256 ^ m:=Nat.pow_le_pow_right oM bc;omega
def JJ(P:¬ku b8<=8):rdNum (b8::s)=(5,0,0):=by
 unfold rdNum ku at*;simp only;rw[Zx oM]
def He(a:ku b8<=8)(P:s.length<ku b8):rdNum (b8::s)=(4,0,0):=by
 unfold rdNum ku at*;simp only;rw[Zq oM,Zx P]
def Mx(b:ku b8<=8)(P:¬s.length<ku b8)(a:(0<ku b8/\s.head? =some 0)\/(¬16<b8.toNat/\2 ^ 63<=fY (s.take (ku b8)))\/(16<b8.toNat/\2 ^ 63<fY (s.take (ku b8)))):rdNum (b8::s)=(5,0,0):=by
 unfold rdNum ku at*;simp only;rw[Zq oM,Zq P,Zx a]
def Ay(b:ku b8<=8)(P:¬s.length<ku b8)(a:¬((0<ku b8/\s.head? =some 0)\/(¬16<b8.toNat/\2 ^ 63<=fY (s.take (ku b8)))\/(16<b8.toNat/\2 ^ 63<fY (s.take (ku b8))))):
  rdNum (b8::s)=(0,if 16<b8.toNat then-(fY (s.take (ku b8)):Int)else fY (s.take (ku b8)),ku b8+1):=by
 unfold rdNum ku at*;simp only;rw[Zq oM,Zq P,Zq a]
end Go.au
namespace Go.Proofs.YtblabbpipmodgaaGreatDoor
open Go.au
structure eZ (w:World) (p:Nat) (F:XM) (r:gA):Prop where
 body:∃a n cap G,w.heap[p]? =some (.cells #[.slice a n cap,QH (r.pos:Int),QH r.qw] 340 (0,0))/\aV fF 5 G w a n cap r.bytes/\(∀b,G b->F b/\b≠p)
 self:F p
 aE:∀b,F b->b<w.heap.size
 fit:r.Fit
 ef:r.bytes.length<=aS
variable{o:Array Value}{F:Bool}{y:FuncId}{e:Int}{a4:List PanicEntry->XT}{s:List UInt8}{a c j:Nat}{f:XM}{d:XU}{m r:XN}{b k:World}{Q:gA}
def eZ.keep{S d:XM}(c:eZ b a d Q)(e:aj S b k)(h:∀P,d P->¬S P):eZ k a d Q:=by
 obtain⟨j,l,f,G,m,n,i⟩:=c.body;exact⟨⟨j,l,f,G,e.get m (h _ c.self),n.keep e (λP g=>h P (i P g).1),i⟩,c.self,λP g=>Qk (c.aE P g) e.size,c.fit,c.ef⟩
def eZ.af(P:eZ b a f Q)(c:ai b k):eZ k a f Q:=P.keep c λ_ _ P=>P
def eZ.fB{e w':World}{g r':gA}(h:eZ e a f g){G:XM}(l:aV fF 5 G e d c j g.bytes)(i:∀P,G P->f P/\P≠a)(k:aj (·=a) e w')(m:w'.heap[a]? =some (.cells #[.slice d c j,QH (r'.pos:Int),QH r'.qw] 340 (0,0)))(b:r'.bytes=g.bytes)(n:r'.Fit):eZ w' a f r':=
 ⟨⟨d,c,j,G,m,by rw[b];exact l.keep k λP b=>(i P b).2,i⟩,h.self,λP b=>Qk (h.aE P b) k.size,n,by rw[b];exact h.ef⟩
def Cn{D:XM}(e:Row fF 1 b D d a s)(o:∀P,D P->P<b.heap.size):
  ZH 183 #[.slice d a c] b (Ok λp k=>∃l m,p= XP l/\eZ k l m ⟨s,0,0⟩/\ai b k/\∀P,m P->b.heap.size<=P):=by
 have q:=e.len;have r:=e.ef;refine FT (yl (aV.nil b) rU e (λP h=>⟨o P h,by simp[aI]⟩) bc (by unfold aS at r;unfold maxLen;simp;omega) λf t i z u v _ w=>?_);refine⟨_,_,_,rfl,PA.mk λA j B x=>?_⟩;have n:ai b i:=v.mono λP _ e=>by simp[aI]at e
 have g:=u.alone;rw[List.nil_append]at g;have y:∀P,aI f=some P->b.heap.size<=P:=λP e=>(w P e).elim (λh=>h.elim) id;refine Ok.mk ⟨i.heap.size,λP=>P=i.heap.size\/aI f=some P,rfl,⟨⟨f,_,t,λP=>aI f=some P,x,g.af j,λP e=>⟨.inr e,?_⟩⟩,.inl rfl,?_,⟨Qj _,.inl rfl⟩,by rw[<-q];omega⟩,n.then j,?_⟩
 ·have:=g.aE P e;omega
 ·rintro P (rfl|e)
  ·omega
  ·have:=g.aE P e;have:=j.size;omega
 ·rintro P (rfl|e)
  ·exact n.size
  ·exact y P e
def RQ(P:Int):List PanicEntry:=[{v:=.iface 376 (QH P),recovered:=false}]
def fJ(P:F=true->m (.tuple #[]) b)(a:F=false->a4 (RQ e) b):
  PC XG 301 #[.bool F,QH e] b m a4:=by
 cases F
 ·refine wu (al.tt rfl ?_)
  exact aG.panics (v:=.iface 376 (QH e)) rfl (a rfl)
 ·exact wu (al.ff rfl (P rfl))
def SN(c:World)(b:Nat)(d:XM)(P:gA)(no:Int)(g:XN)(h:Nat):XR:=λe a=>
 ((no=0/\eZ a b d ⟨P.bytes,P.pos+h,P.qw⟩/\∃f,e= .returned f/\g f a)\/(no≠0/\e= .panicked (RQ no)/\∃i,eZ a b d ⟨P.bytes,i,P.qw⟩))/\aj (·=b) c a/\a.heap.size=c.heap.size
def PC.red{no:Int}(e:ZH y o b (SN b a f Q no m c))(k:no=0->∀d P,eZ P a f ⟨Q.bytes,Q.pos+c,Q.qw⟩->m d P->aj (·=a) b P->P.heap.size=b.heap.size->r d P)(l:no≠0->∀P,(∃n,eZ P a f ⟨Q.bytes,n,Q.qw⟩)->aj (·=a) b P->P.heap.size=b.heap.size->a4 (RQ no) P):PC XG y o b r a4:=
 e.mono λq P ⟨e,i,j⟩=>by
  rcases e with⟨g,h,d,rfl,p⟩|⟨g,rfl,h⟩
  ·exact k g d P h p i j
  ·exact l g P h i j
def KR{m:Nat}(d:eZ b a f Q)(M:m<=2147483647):
  ZH 302 #[XP a,QH (m:Int)] b (SN b a f Q (if m<=Q.bytes.length-Q.pos then 0 else 4) (λx y=>∃e z,x= .slice e m z/\Row fF 1 y f e m ((Q.bytes.drop Q.pos).take m)) m):=by
 obtain⟨e,q,P,G,A,h,k⟩:=d.body;have N:=d.fit.pos;have B:=d.ef;have O:=h.len dC;have C:=h.mL;unfold aS at B;refine sG λr s=>?_;have i:ai b r:=s.keep;have j:=i.get A id;have t:r.heap.size=b.heap.size:=by rw[s.heap]
 refine⟨a,0,rfl,e,q,P,ae j rfl,a,0,rfl,_,ae j rfl,fJ (λc=>?_) (λc=>?_)⟩
 ·have c:=XV c
  rw[wrap_i64 bb]at c;refine⟨rfl,a,0,rfl,_,ae j rfl,a,0,rfl,PS.mk j sM λE F H g=>?_⟩;have I:XH .i64 ((Q.pos:Int)+(m:Int))=((Q.pos+m:Nat):Int):=by rw[wrap_i64 bb];omega
  rw[I]at g;have J:XH .i64 (((Q.pos+m:Nat):Int)-(m:Int))=(Q.pos:Int):=by rw[wrap_i64 bb];omega
  refine⟨a,0,rfl,e,q,P,ae g rfl,a,0,rfl,_,ae g rfl,a,0,rfl,_,ae g rfl,?_⟩;rw[J];refine⟨oM,oM,oM,λl u=>?_⟩;have v:ai E l:=u.keep;have n:aj (·=a) b l:=((i.keep).then F).af v;have K:eZ l a f ⟨Q.bytes,Q.pos+m,Q.qw⟩:=d.fB (r':=⟨Q.bytes,Q.pos+m,Q.qw⟩) h k n (v.get g id) rfl ⟨by show Q.pos+m<=Q.bytes.length;omega,d.fit.qw⟩;refine⟨.inl ⟨Zx oM,K,_,rfl,cE e Q.pos P 1,P-Q.pos,?_⟩,n,by rw[u.heap,H,t]⟩;simp only[Qx];rw[show Q.pos+m-Q.pos=m by omega];refine⟨rfl,?_⟩;have o:=(h.row (bytes:=1) dC ba).part (lo:=Q.pos) (hi:=Q.pos+m) (cap:=P) oM oM C;rw[show Q.pos+m-Q.pos=m by omega]at o;have L:(Q.bytes.take (Q.pos+m)).drop Q.pos=(Q.bytes.drop Q.pos).take m:=by rw[List.drop_take];congr 1;omega
  rw[L]at o;exact((o.keep n λp c=>(k p c).2)).mono λp c=>(k p c).1
 ·intro _ _
  have c:=Xy c;rw[wrap_i64 bb]at c;have w:¬m<=Q.bytes.length-Q.pos:=oM
  refine⟨.inr ⟨by rw[Zq w];decide,by rw[Zq w],Q.pos,?_⟩,i.keep,t⟩;exact d.af i
def CL(M:eZ b a f Q):
  ZH 256 #[XP a] b (SN b a f Q Q.num.1 (λt h=>t= QH Q.num.2.1) Q.num.2.2):=by
 have x:=M.fit.pos;have r:(Q.bytes.drop Q.pos).length=Q.bytes.length-Q.pos:=XZ ..;generalize s:Q.bytes.drop Q.pos=A at r;have Z:Q.num=rdNum A:=by unfold gA.num;rw[s]
 rw[Z];refine ph (PC.red (KR (m:=1) M oM) ?_ ?_)
 rotate_left
 ·intro l y B u v
  have:¬1<=Q.bytes.length-Q.pos:=λg=>l (Zx g);rw[Zq this];have:A=[]:=QW oM;subst this;exact⟨.inr ⟨dC,rfl,B⟩,u,v⟩
 rintro l _ y N ⟨a1,c1,rfl,O⟩ u v;have R:1<=Q.bytes.length-Q.pos:=by
  by_cases g:1<=Q.bytes.length-Q.pos
  ·exact g
  ·rw[Zq g]at l;cases l
 rw[s]at O
 match A,s,r with
 |[],s,r=>simp at r;omega
 |P::e,s,r=>
 have b1:e.length=Q.bytes.length-Q.pos-1:=by simp at r;omega
 have a7:Q.bytes.drop (Q.pos+1)=e:=by rw[<-List.drop_drop,s];rfl
 obtain⟨b5,o6,n,rfl,o,_,c⟩:=O.lq (i:=0) oM;obtain rfl:P=n:=by simpa using o
 obtain⟨C,a8⟩:=JH P;refine⟨_,_,_,rfl,b5,o6,rfl,oM,oM,_,c,?_⟩;refine⟨λh=>ku P<=8/\h=y,?_,?_⟩
 ·have k:¬ku P<=8->∀h,h=y->SN b a f Q (rdNum (P::e)).1 (λt h=>t= QH (rdNum (P::e)).2.1) (rdNum (P::e)).2.2 (.panicked (RQ 5)) h:=by
   rintro p h rfl;rw[JJ p];exact⟨.inr ⟨dC,rfl,Q.pos+1,N⟩,u,v⟩
  refine al.dec (λE=>fJ (λd=>⟨rfl,?_,rfl⟩) (λd=>k ?_ _ rfl)) (λE=>fJ (λd=>(by cases d)) λ_=>k ?_ _ rfl)
  ·exact C.1 ⟨E,by simpa using d⟩
  ·intro p
   have:=(C.2 p).2;simp only[bne_eq_false_iff_eq]at d;exact this d
  ·intro p
   exact E (C.2 p).1
 rintro _ y ⟨w,rfl⟩;obtain⟨p,a9⟩:=a8 w;rw[p];refine PC.red (KR (m:=ku P) N oM) ?_ ?_
 rotate_left
 ·intro l m B F H
  have hn:¬ku P<=Q.bytes.length-(Q.pos+1):=λg=>l (Zx g);rw[Zq hn,He w oM];exact⟨.inr ⟨dC,rfl,B⟩,u.then F,H.trans v⟩
 rintro l _ m S ⟨a2,c2,rfl,z⟩ F H;have b2:ku P<=e.length:=by
  by_cases g:ku P<=Q.bytes.length-(Q.pos+1)
  ·omega
  ·simp only at l;rw[Zq g]at l;cases l
 change Row fF 1 m f a2 (ku P) ((Q.bytes.drop (Q.pos+1)).take (ku P))at z
 rw[a7]at z;have T:eZ m a f ⟨Q.bytes,Q.pos+(ku P+1),Q.qw⟩:=by have:=S;rwa [show Q.pos+(ku P+1)=Q.pos+1+ku P by omega]
 have I:aj (·=a) b m:=u.then F;have J:=H.trans v;have k:((0<ku P/\e.head? =some 0)\/(¬16<P.toNat/\2 ^ 63<=fY (e.take (ku P)))\/(16<P.toNat/\2 ^ 63<fY (e.take (ku P))))->∀h,h=m->SN b a f Q (rdNum (P::e)).1 (λt h=>t= QH (rdNum (P::e)).2.1) (rdNum (P::e)).2.2 (.panicked (RQ 5)) h:=by
  rintro d h rfl;rw[Mx w oM d];exact⟨.inr ⟨dC,rfl,_,S⟩,I,J⟩
 refine⟨_,_,_,rfl,λh=>¬(0<ku P/\e.head? =some 0)/\h=m,?_,?_⟩
 ·refine al.dU (λg=>fJ (λ_=>⟨rfl,λc=>oM,rfl⟩) (λd=>by cases d)) (λg=>?_)
  have x:0<ku P:=oM
  obtain⟨K,L,n,rfl,o,_,c⟩:=z.lq (i:=0) x;have U:e.head? =some n:=by
   rw[Xw,Zx x]at o;rw[List.head?_eq_getElem?];exact o
  refine⟨K,L,rfl,oM,oM,_,c,fJ (λd=>⟨rfl,λc=>?_,rfl⟩) (λd=>k (.inl ⟨x,?_⟩) _ rfl)⟩
  ·rw[U]at c
   have:=c.2;simp only[Q1]at this;subst this;simp at d
  ·rw[U]
   have:(n.toNat:Int)=0:=by simpa using d
   exact Zj some (UInt8.toNat_inj.1 (by
                         have:n.toNat=0:=oM
                         rw[this];rfl))
 rintro _ m ⟨V,rfl⟩;refine⟨λW X i h=>∃j:Nat,j<=ku P/\i=j/\W=ku P-j/\h=m/\X=(fY (e.take j):Int),⟨_,0,Qj _,rfl,rfl,rfl,rfl⟩,?_⟩;rintro W X i _ m ⟨j,hj,rfl,rfl,rfl,rfl⟩;refine al.dec (λh1=>?_) (λh1=>?_)
 ·have Y:j<ku P:=oM
  obtain⟨K,L,n,rfl,o,_,c⟩:=z.lq (i:=j) Y;rw[Xw,Zx Y]at o;refine⟨K,L,rfl,oM,oM,_,c,_,oM,j+1,oM,an oM,rfl,rfl,?_⟩;have b0:=nj e (j:=j) (m:=7) oM;rw[JI (by
            have:(256:Nat) ^ 7=72057594037927936:=dC
            omega) n.toNat_lt,Co o]
 ·obtain rfl:j=ku P:=oM
  have b0:=nj e (j:=ku P) (m:=8) oM;have b3:(256:Nat) ^ 8=18446744073709551616:=dC
  have b4:(2:Nat) ^ 63=9223372036854775808:=dC
  refine al.dU (λg=>?_) (λg=>?_)<;>rw[a9]at g
  ·have q:¬16<P.toNat:=by intro c;rw[Zx c]at g;cases g
   refine fJ (λd=>⟨rfl,?_⟩) (λd=>k (.inr (.inl ⟨q,?_⟩)) _ rfl)
   ·have d:=XV d
    rw[Ay w oM (λc=>c.elim V λc=>c.elim (λc=>oM) λc=>q c.1),Zq q];exact⟨.inl ⟨rfl,T,_,rfl,by rw[wrap_i64 bb]⟩,I,J⟩
   ·have d:=Xy d
    omega
  ·have q:16<P.toNat:=by
    by_cases c:16<P.toNat
    ·exact c
    ·rw[Zq c]at g;exact Zz rfl g
   refine fJ (λd=>⟨rfl,?_⟩) (λd=>k (.inr (.inr ⟨q,?_⟩)) _ rfl)
   ·have d:=XV d
    rw[Ay w oM (λc=>c.elim V λc=>c.elim (λc=>c.1 q) λc=>oM),Zx q];refine⟨.inl ⟨rfl,T,_,rfl,?_⟩,I,J⟩;have e1:XH .i64 (XH .u64 (0-(fY (e.take (ku P)):Int)))= -(fY (e.take (ku P)):Int):=by
     unfold XH;simp[IntKind.signed,IntKind.bits];omega
    rw[e1]
   ·have d:=Xy d
    omega
end Go.Proofs.YtblabbpipmodgaaGreatDoor
namespace Go.au
open Go
def aq{P a:Type}[BEq P](c:List (P×a))(b:P):Option a:=match c with
 |[]=>none
 |(d,e)::f=>if b==d then some e else aq f b
def aH{P b:Type}[BEq P](f:List (P×b))(a:P)(c:b):List (P×b):=match f with
 |[]=>[(a,c)]
 |(d,g)::e=>if a==d then(a,c)::e else(d,g)::aH e a c
def bI{P a:Type}[BEq P](e:List (P×a))(b:P):List (P×a):=match e with
 |[]=>[]
 |(c,f)::d=>if b==c then d else(c,f)::bI d b
variable{e3:Array MapEntry}{a c:Nat}{h:Program}{J i:Type}{e4:TypeDesc}{A b7 f0 g n:TypeId}{e5:TypeInfo}{c2 v:Value}{m r:XN}{b k:World}{x:XT}
def bz[BEq i][LawfulBEq i](e:List (i×J))(a P:i)(g:J):aq (aH e a g) P=if P==a then some g else aq e P:=by
 induction e with
 |nil=>simp[aH,aq]
 |cons h l j=>
  obtain⟨c,m⟩:=h;unfold aH
  by_cases b:a==c
  ·rw[Zx b]
   have f:a=c:=by simpa using b
   subst f;unfold aq;split<;>rfl
  ·rw[Zq b]
   unfold aq
   by_cases d:P==c
   ·rw[Zx d]
    have f:P=c:=by simpa using d
    subst f;have:(P==a)=false:=by
     cases k:P==a
     ·rfl
     ·exfalso;apply b;have:P=a:=by simpa using k
      simp[this]
    rw[this];simp[aq,b]
   ·rw[Zq d];rw[j];simp[aq,d]
def Tidy{P a:Type}(b:List (P×a)):Prop:=(b.map (·.1)).Nodup
def OF[BEq i][LawfulBEq i]{a:List (i×J)}{P:i}{d:J}{b:i}:b∈(aH a P d).map (·.1)↔b=P\/b∈a.map (·.1):=by
 induction a with
 |nil=>simp[aH]
 |cons e j f=>
  obtain⟨c,k⟩:=e;unfold aH
  by_cases h:P==c
  ·rw[Zx h]
   have g:P=c:=by simpa using h
   subst g;simp
  ·rw[Zq h]
   simp only[QY,Q2,f];constructor
   ·rintro(h|h|h)<;>simp[h]
   ·rintro(h|h|h)<;>simp[h]
def Tidy.aH{P f:Type}[BEq P][LawfulBEq P]{c:List (P×f)}(a:Tidy c)(d:P)(h:f):Tidy (aH c d h):=by
 unfold Tidy at*
 induction c with
 |nil=>simp[au.aH]
 |cons i l j=>
  obtain⟨g,m⟩:=i;simp only[QY,List.nodup_cons]at a;unfold au.aH
  by_cases b:d==g
  ·rw[Zx b]
   have k:d=g:=by simpa using b
   subst k;simpa using a
  ·rw[Zq b]
   simp only[QY,List.nodup_cons];refine⟨λe=>?_,j a.2⟩;rcases OF.1 e with rfl|e
   ·simp at b
   ·exact a.1 e
def OG[BEq i][LawfulBEq i]{a:List (i×J)}{c b:i}(P:b∈(bI a c).map (·.1)):b∈a.map (·.1):=by
 induction a with
 |nil=>simp[bI]at P
 |cons d f e=>
  obtain⟨g,h⟩:=d;unfold bI at P;split at P
  ·simp only[QY,Q2];exact .inr P
  ·simp only[QY,Q2]at P⊢
   rcases P with P|P
   ·exact .inl P
   ·exact .inr (e P)
def Tidy.bI{P c:Type}[BEq P][LawfulBEq P]{b:List (P×c)}(a:Tidy b)(d:P):Tidy (bI b d):=by
 unfold Tidy at*
 induction b with
 |nil=>simp[au.bI]
 |cons e h f=>
  obtain⟨i,j⟩:=e;simp only[QY,List.nodup_cons]at a;unfold au.bI;split
  ·exact a.2
  ·simp only[QY,List.nodup_cons]
   exact⟨λg=>a.1 (OG g),f a.2⟩
def mr[BEq i][LawfulBEq i]{b:List (i×J)}{P:i}:aq b P=none↔P∉b.map (·.1):=by
 induction b with
 |nil=>simp[aq]
 |cons d g e=>
  obtain⟨c,h⟩:=d;unfold aq
  by_cases a:P==c
  ·have f:P=c:=by simpa using a
   rw[Zx a];subst f;simp
  ·rw[Zq a,e]
   have:P≠c:=by rintro rfl;simp at a
   simp[this]
def fD[BEq i][LawfulBEq i]{c:List (i×J)}(h:Tidy c)(a P:i):aq (bI c a) P=if P==a then none else aq c P:=by
 induction c with
 |nil=>simp[bI,aq]
 |cons j m k=>
  obtain⟨d,n⟩:=j;have f:=h;simp only[Tidy,QY,List.nodup_cons]at f;unfold bI
  by_cases e:a==d
  ·rw[Zx e]
   have g:a=d:=by simpa using e
   subst g
   by_cases b:P==a
   ·have:P=a:=by simpa using b
    subst this;simp only[beq_self_eq_true,if_true];exact mr.2 f.1
   ·rw[Zq b]
    simp[aq,b]
  ·rw[Zq e]
   unfold aq
   by_cases b:P==d
   ·have g:P=d:=by simpa using b
    subst g;have:(P==a)=false:=by
     cases l:P==a
     ·rfl
     ·exfalso;apply e;have:P=a:=by simpa using l
      simp[this]
    simp[this]
   ·rw[Zq b,Zq b];exact k f.2
def b_[BEq i][LawfulBEq i]{a:List (i×J)}{b:i}{c:J}(P:aq a b=some c):(b,c)∈a:=by
 induction a with
 |nil=>simp[aq]at P
 |cons d j e=>
  obtain⟨f,k⟩:=d;unfold aq at P;split at P
  ·rename_i g
   have h:b=f:=by simpa using g
   subst h
   cases P
   simp
  ·exact QJ _ (e P)
def fe[BEq i][LawfulBEq i]{P:List (i×J)}{b:i}{c:J}{a:i×J}(h:a∈aH P b c):a=(b,c)\/a∈P:=by
 induction P with
 |nil=>simpa[aH]using h
 |cons d f e=>
  obtain⟨g,j⟩:=d;unfold aH at h;split at h
  ·rcases Q2.1 h with h|h
   ·exact .inl h
   ·exact .inr (QJ _ h)
  ·rcases Q2.1 h with h|h
   ·exact .inr (h▸QV ..)
   ·rcases e h with h|h
    ·exact .inl h
    ·exact .inr (QJ _ h)
def fX[BEq i][LawfulBEq i]{P:List (i×J)}{b:i}{a:i×J}(h:a∈bI P b):a∈P:=by
 induction P with
 |nil=>simp[bI]at h
 |cons c e d=>
  obtain⟨f,g⟩:=c;unfold bI at h;split at h
  ·exact QJ _ h
  ·rcases Q2.1 h with h|h
   ·exact h▸QV ..
   ·exact QJ _ (d h)
def pw[BEq i][LawfulBEq i]{P:List (i×J)}(b:Tidy P){k:i}{v:J}(c:(k,v)∈P):aq P k=some v:=by
 induction P with
 |nil=>cases c
 |cons d h e=>
  obtain⟨f,j⟩:=d;simp only[Tidy,QY,List.nodup_cons]at b;unfold aq;rcases Q2.1 c with a|a
  ·cases a;simp
  ·have:k≠f:=by
    intro g;exact b.1 (Xk.2 ⟨(k,v),a,g⟩)
   rw[Zq (by simpa using this)];exact e b.2 a
def Gn[BEq i](P:List (i×J))(a:i)(b:J):(aH P a b).length<=P.length+1:=by
 induction P with
 |nil=>simp[aH]
 |cons c d e=>
  unfold aH;split
  ·simp
  ·simp;omega
def Gm[BEq i](P:List (i×J))(a:i):(bI P a).length<=P.length:=by
 induction P with
 |nil=>simp[bI]
 |cons b c d=>
  unfold bI;split
  ·simp
  ·simp;omega
def fh{P a b:Type}(c:a->b->Prop):List (P×a)->List (P×b)->Prop
 |[],[]=>True
 |(d,e)::f,(g,h)::i=>d=g/\c e h/\fh c f i
 |_,_=>False
def fh.keys{b c d:Type}{f:c->d->Prop}:∀{P:List (b×c)} {a:List (b×d)},fh f P a->P.map (·.1)=a.map (·.1)
 |[],[],_=>rfl
 |(g,h)::P,(i,j)::a,e=>by simp[e.1,fh.keys e.2.2]
def fh.mono{e f g:Type}{h i:f->g->Prop}:∀{P:List (e×f)} {a:List (e×g)},fh h P a->(∀b c,h b c->i b c)->fh i P a
 |[],[],_,_=>trivial
 |(k,b)::P,(l,c)::a,d,j=>⟨d.1,j _ _ d.2.1,fh.mono d.2.2 j⟩
def fh.aq{a f g:Type}[BEq a]{h:f->g->Prop}(P:a):∀{b:List (a×f)} {c:List (a×g)},fh h b c->
  (au.aq b P=none/\au.aq c P=none)\/∃d e,au.aq b P=some d/\au.aq c P=some e/\h d e
 |[],[],_=>.inl ⟨rfl,rfl⟩
 |(j,d)::b,(n,e)::c,k=>by
  obtain⟨rfl,l,m⟩:=k;unfold au.aq
  by_cases i:P==j
  ·simp only[i,if_true];exact .inr ⟨d,e,rfl,rfl,l⟩
  ·simp only[i];exact fh.aq P m
def fh.aH{P a b:Type}[BEq P]{R:a->b->Prop}{c:P}{g:a}{h:b}(d:R g h):∀{e:List (P×a)} {f:List (P×b)},fh R e f->fh R (au.aH e c g) (au.aH f c h)
 |[],[],_=>⟨rfl,d,trivial⟩
 |(k,n)::e,(o,p)::f,l=>by
  obtain⟨rfl,m,i⟩:=l;unfold au.aH
  by_cases j:c==k
  ·simp only[j,if_true];exact⟨rfl,d,i⟩
  ·simp only[j];exact⟨rfl,m,fh.aH d i⟩
def fh.bI{P d e:Type}[BEq P]{f:d->e->Prop}{a:P}:∀{b:List (P×d)} {c:List (P×e)},fh f b c->fh f (au.bI b a) (au.bI c a)
 |[],[],_=>trivial
 |(i,l)::b,(m,n)::c,j=>by
  obtain⟨rfl,k,g⟩:=j;unfold au.bI
  by_cases h:a==i
  ·simp only[h,if_true];exact g
  ·simp only[h];exact⟨rfl,k,fh.bI g⟩
def fh.VA{f g j:Type}{h:g->j->Prop}{k:f}{l:g}:∀{i c:List (f×g)} {b:List (f×j)},fh h (i++(k,l)::c) b->∃d a e,b=d++(k,a)::e/\h l a/\fh h (i++c) (d++e)
 |[],c,(m,a)::b,P=>⟨[],a,b,by rw[P.1];rfl,P.2.1,P.2.2⟩
 |(q,r)::i,c,(m,n)::b,P=>by
  obtain⟨d,a,e,rfl,o,p⟩:=fh.VA P.2.2;exact⟨(m,n)::d,a,e,rfl,o,P.1,P.2.1,p⟩
def fh.length{P a b:Type}{e:a->b->Prop}{c:List (P×a)}{d:List (P×b)}(f:fh e c d):c.length=d.length:=by
 have:=Zj List.length f.keys;simpa using this
structure bU {κ:Type} (w:World) (r:Nat) (enc:κ->Value) (l:List (κ×Value)):Prop where
 at':∃es clock,w.heap[r]? =some (.map es clock)/\es.toList.map (λe=>(e.key,e.val))=l.map (λp=>(enc p.1,p.2))/\
  (∀e∈es.toList,e.born<clock)/\(es.toList.map (·.born)).Nodup
 tidy:Tidy l
def bU.keep{S:XM}{c:i->Value}{e:List (i×Value)}(f:bU b a c e)(g:aj S b k)(h:¬S a):bU k a c e:=by
 obtain⟨j,P,l,d⟩:=f.at';exact⟨⟨j,P,g.get l h,d⟩,f.tidy⟩
def bU.af{P:i->Value}{c:List (i×Value)}(d:bU b a P c)(e:ai b k):bU k a P c:=d.keep e id
def bU.lt{P:i->Value}{e:List (i×Value)}(f:bU b a P e):a<b.heap.size:=by
 obtain⟨h,c,g,d⟩:=f.at';exact aB g
def bU.new{P:i->Value}(c:b.heap[a]? =some (.map #[] 0)):bU b a P ([]:List (i×Value)):=
 ⟨⟨_,_,c,rfl,sM,sM⟩,by simp[Tidy]⟩
def lK{P:Type}[BEq P](c:List (P×Value))(a:P)(b:Nat):Option (Nat×Value):=match c with
 |[]=>none
 |(d,e)::f=>if a==d then some (b,e)else lK f a (b+1)
def As{b:Type}[BEq b][LawfulBEq b]{P:b->Value}{h:TypeDesc}(i:∀j k,Instr.sameNow h (P j) (P k)=some (j==k))(c:b):
  ∀(d:List MapEntry) (f:List (b×Value)) (g:Nat),d.map (λe=>(e.key,e.val))=f.map (λl=>(P l.1,l.2))->Instr.findNow h (P c) d g=some (lK f c g)
 |[],[],_,_=>rfl
 |[],_::_,_,a=>by simp at a
 |_::_,[],_,a=>by simp at a
 |e::d,(m,q)::f,g,a=>by
  simp only[QY,List.cons.injEq,Prod.mk.injEq]at a;obtain⟨⟨n,o⟩,p⟩:=a;unfold Instr.findNow lK;rw[n,i]
  cases r:c==m
  ·simp only[Bool.false_eq_true,if_false]
   exact As i c d f (g+1) p
  ·simp[o]
def Et[BEq i]{P:i->Value}(b:∀c d,Instr.sameNow e4 (P c) (P d)=none)(e:i)(a:MapEntry)(f:List MapEntry)(g:i)(h:a.key=P g)(j:Nat):Instr.findNow e4 (P e) (a::f) j=none:=by
 unfold Instr.findNow;rw[h,b]
def rE{b:Type}[BEq b]{i:Program}{j:TypeId}{P:b->Value}{c:World}(k:∀l m,(Op.equal j (P l) (P m)).run i c= .ok (l==m) c)(d:b):
  ∀(f:List MapEntry) (g:List (b×Value)) (h:Nat),f.map (λe=>(e.key,e.val))=g.map (λn=>(P n.1,n.2))->(Instr.findAsking j (P d) f h).run i c= .ok (lK g d h) c
 |[],[],_,_=>rfl
 |[],_::_,_,a=>by simp at a
 |_::_,[],_,a=>by simp at a
 |e::f,(o,s)::g,h,a=>by
  simp only[QY,List.cons.injEq,Prod.mk.injEq]at a;obtain⟨⟨p,q⟩,r⟩:=a;unfold Instr.findAsking lK;rw[p];simp only[Sem.run_bind,k,Result.andThen_ok]
  cases t:d==o
  ·simpa using rE k d f g (h+1) r
  ·simp[q]
structure iD {κ:Type} [BEq κ] (P:Program) (kt:TypeId) (enc:κ->Value):Prop where
 find:∀(k:κ) (es:List MapEntry) (l:List (κ×Value)) (w:World),es.map (λe=>(e.key,e.val))=l.map (λp=>(enc p.1,p.2))->(Instr.findKey kt (enc k) es).run P w= .ok (lK l k 0) w
 check:∀k w e,(Instr.checkKey e 10000 kt (enc k)).run P w= .ok () w
 same:∀n a,Instr.sameBits (n+1) (enc a) (enc a)=true
 inj:∀{a b},enc a=enc b->a=b
def iD.flat[BEq i][LawfulBEq i]{P:i->Value}(m:h.underlying g=some e4)(j:∀a b,Instr.sameNow e4 (P a) (P b)=some (a==b))(n:∀k c d e,(Instr.checkKey e (k+1) g (P c)).run h d= .ok () d)(f:∀k a,Instr.sameBits (k+1) (P a) (P a)=true):iD h g P:=
 ⟨λc o p d q=>by simp[Instr.findKey,run_underlying m,As j c o p 0 q],λc d e=>n 9999 c d e,f,λ{a b} e=>by
  have l:=j a b;rw[e,j b b]at l;simpa using l.symm⟩
def iD.struct[BEq i]{P:i->Value}(o:h.underlying g=some e4)(q:∀a b,Instr.sameNow e4 (P a) (P b)=none)(r:∀a b c,(Op.equal g (P a) (P b)).run h c= .ok (a==b) c)(s:∀f c j,(Instr.checkKey j 10000 g (P f)).run h c= .ok () c)(d:∀t a,Instr.sameBits (t+1) (P a) (P a)=true)(m:∀{a b},P a=P b->a=b):iD h g P:=by
 refine⟨λf k e c l=>?_,s,d,m⟩
 cases k with
 |nil=>
  cases e with
  |nil=>simp[Instr.findKey,run_underlying o,Instr.findNow,lK]
  |cons n e=>simp at l
 |cons j k=>
  cases e with
  |nil=>simp at l
  |cons n e=>
   have p:=l;simp only[QY,List.cons.injEq,Prod.mk.injEq]at p;simp only[Instr.findKey,Sem.run_bind,run_underlying o,Result.andThen_ok,Et q f j k n.1 p.1.1];exact rE (λa b=>r a b c) f (j::k) (n::e) 0 l
def vX[BEq i][LawfulBEq i](a:List (i×Value))(b:i):∀P,(lK a b P).map (·.2)=aq a b:=by
 induction a with
 |nil=>intro P;rfl
 |cons c e d=>
  intro P;obtain⟨f,g⟩:=c;unfold lK aq;split
  ·rfl
  ·exact d (P+1)
def jt[BEq i][LawfulBEq i]{P:i->Value}(j:iD h g P)(a:i)(b:List MapEntry)(c:List (i×Value))(k:b.map (λe=>(e.key,e.val))=c.map (λf=>(P f.1,f.2)))(d:World):
  (Instr.findKey g (P a) b).run h d= .ok (lK c a 0) d:=by
 exact j.find a b c d k
def dz(P:b.heap[a]? =some (.map e3 c)):(getObj a).run h b= .ok (.map e3 c) b:=by
 simp[getObj,Sem.run,P]
def dH[BEq i][LawfulBEq i]{P:i->Value}(d:iD h g P)(b:Bool)(c:i)(a:World):(Instr.checkKey b 10000 g (P c)).run h a= .ok () a:=by
 exact d.check c a b
def BH(a:h.info? g=some e5)(b:e5.zero=some v)(P:World):(zeroValue g).run h P= .ok v P:=by
 simp[zeroValue,typeInfo,a,b]
structure lT (P:Program) (t kt vt:TypeId) (z:Value):Prop where
 under:P.underlying t=some (.map kt vt)
 zero:(P.info? vt).bind (·.zero)=some z
def lT.KL(c:lT h g n A v)(a:World):(zeroValue A).run h a= .ok v a:=by
 have P:=c.zero
 cases b:h.info? A with
 |none=>rw[b]at P;cases P
 |some d=>rw[b]at P;exact BH b P a
def eB[BEq i][LawfulBEq i]{P:i->Value}(k:lT h g n A v)(l:iD h n P){c:List (i×Value)}(o:bU b a P c)(d:i)(f:Bool):
  (Instr.lookup g (.map (some a)) (P d) f).run h b= .ok (if f then .tuple #[(aq c d).getD v,.bool (aq c d).isSome]else(aq c d).getD v) b:=by
 obtain⟨p,j,q,r,_⟩:=o.at';have s:=jt l d p.toList c r b;have e:=vX c d 0;simp only[Instr.lookup,Sem.run_bind,run_underlying k.under,Result.andThen_ok,dz q,dH l,s,Sem.run_pure]
 cases m:lK c d 0 with
 |none=>rw[m]at e;simp only[Option.map_none]at e;rw[<-e];cases f<;>simp[k.KL]
 |some t=>rw[m]at e;simp only[Option.map_some]at e;rw[<-e];cases f<;>simp
def yk[BEq i][LawfulBEq i]{P:i->Value}(e:lT h g n A v)(f:iD h n P){d:List (i×Value)}(j:bU b a P d){c:i}(k:m ((aq d c).getD v) b):aG h (Instr.lookup g (.map (some a)) (P c) false) b m r:=aG.mk (eB e f j c false) k
def lU[BEq i][LawfulBEq i]{enc:i->Value}(c:lT h g n A v)(d:iD h n enc){P:List (i×Value)}(e:bU b a enc P){k:i}(f:m (.tuple #[(aq P k).getD v,.bool (aq P k).isSome]) b):aG h (Instr.lookup g (.map (some a)) (enc k) true) b m r:=aG.mk (eB c d e k true) f
def aj.setObj(P:World)(a:Nat)(b:Obj):aj (·=a) P {P with heap:=P.heap.setIfInBounds a b}:=
 ⟨rfl,rfl,rfl,sM,λd e c=>by simp[Array.getElem?_setIfInBounds,Ne.symm c]⟩
def mG[BEq i][LawfulBEq i]{b:List (i×Value)}{c:i}:∀{P a:Nat} {f:Value},lK b c P=some (a,f)->P<=a/\a-P<b.length/\b[a-P]? =some (c,f)/\∀h,aH b c h=b.set (a-P) (c,h)/\bI b c=b.eraseIdx (a-P):=by
 induction b with
 |nil=>intro P a f d;simp[lK]at d
 |cons m v n=>
  intro P a f d;obtain⟨o,h⟩:=m;unfold lK at d;split at d
  ·rename_i g
   cases d
   have p:c=o:=by simpa using g
   subst p;simp[aH,bI]
  ·rename_i g
   obtain⟨w,j,k,l⟩:=n d;obtain⟨e,rfl⟩:∃e,a=P+1+e:=⟨a-(P+1),oM⟩
   have q:P+1+e-P=e+1:=oM
   have r:P+1+e-(P+1)=e:=oM
   rw[r]at j k l;rw[q];refine⟨oM,by simpa using j,by simpa using k,λs=>?_⟩;obtain⟨t,u⟩:=l s;unfold aH bI;rw[Zq g,Zq g];simp[t,u]
def qx[BEq i][LawfulBEq i]{P:List (i×Value)}{a:i}:∀{c:Nat},lK P a c=none->(∀d,aH P a d=P++[(a,d)])/\bI P a=P:=by
 induction P with
 |nil=>intro c _;simp[aH,bI]
 |cons f k g=>
  intro c b;obtain⟨l,d⟩:=f;unfold lK at b;split at b
  ·cases b
  ·rename_i e
   obtain⟨h,j⟩:=g b;refine⟨λm=>?_,?_⟩
   ·unfold aH;rw[Zq e,h];rfl
   ·unfold bI;rw[Zq e,j]
def map_eraseIdx{c d:Type}(b:c->d):∀(P:List c) (a:Nat),(P.eraseIdx a).map b=(P.map b).eraseIdx a
 |[],_=>by simp
 |x::P,0=>rfl
 |x::P,a+1=>by simp[map_eraseIdx b P a]
def cR(P:World)(a:Nat)(b:Obj)(c:a<P.heap.size):({P with heap:=P.heap.setIfInBounds a b}:World).heap[a]? =some b:=by simp[c]
def eC(d:b.heap[a]? =some (.map e3 c))(P:Obj):(setObj a P).run h b= .ok () {b with heap:=b.heap.setIfInBounds a P}:=by
 simp[setObj,Sem.run,d]
def iN[BEq i][LawfulBEq i]{enc:i->Value}(F:lT h g n A v)(s:iD h n enc){p:List (i×Value)}(y:bU b a enc p){k:i}(H:∀t,bU t a enc (aH p k c2)->aj (·=a) b t->t.heap.size=b.heap.size->x t):km h (Instr.mapUpdate g (.map (some a)) (enc k) c2) b x m:=by
 obtain⟨d,P,q,r,z,I⟩:=y.at';have u:=jt s k d.toList p r b;have N:d.toList.length=p.length:=by have:=Zj List.length r;simpa using this
 have J:=aB q
 cases w:lK p k 0 with
 |none=>
  rw[w]at u;refine km.mk (w':={b with heap:=b.heap.setIfInBounds a (.map (d.push {key:=enc k,val:=c2,born:=P}) (P+1))}) ?_ (H _ ⟨⟨_,_,cR b a _ J,?_,?_,?_⟩,y.tidy.aH k c2⟩ (aj.setObj b a _) sM)
  ·simp[Instr.mapUpdate,run_underlying F.under,dz q,dH s,u,eC q]
  ·rw[(qx w).1 c2];simp[r]
  ·intro f e
   simp only[Array.toList_push,Q6,List.mem_singleton]at e;rcases e with e|rfl
   ·have:=z f e;omega
   ·show P<P+1;omega
  ·simp only[Array.toList_push,Q3,QY,List.map_nil]
   rw[List.nodup_append];refine⟨I,sM,?_⟩;intro V O W B X;simp only[List.mem_singleton]at B;obtain⟨f,e,rfl⟩:=Xk.1 O;have:=z f e;omega
 |some Q=>
  obtain⟨j,Y⟩:=Q;rw[w]at u;obtain⟨_,K,L,M⟩:=mG w;rw[Nat.sub_zero]at K L M;have C:j<d.size:=by
                 have:d.size=p.length:=by simpa using N
                 omega
  have R:d[j].key=enc k:=by
   have:=Zj (·[j]?) r;simp only[Q9,L,Option.map_some]at this;simp[C]at this;exact this.1
  refine km.mk (w':={b with heap:=b.heap.setIfInBounds a (.map (d.modify j λf=>{f with key:=enc k,val:=c2}) P)}) ?_ (H _ ⟨⟨_,_,cR b a _ J,?_,?_,?_⟩,y.tidy.aH k c2⟩ (aj.setObj b a _) sM)
  ·have S:(Instr.keyThatStays (enc k) (enc k)).run h b= .ok (enc k) b:=by simp[Instr.keyThatStays,s.same]
   simp[Instr.mapUpdate,run_underlying F.under,dz q,dH s,u,C,R,S,eC q]
  ·rw[(M c2).1]
   apply X3;intro l;have c:=Zj (·[l]?) r;simp only[Q9]at c;simp only[Array.toList_modify,Q9,Xj,List.getElem?_modify]
   by_cases o:j=l
   ·subst o
    simp[C,K]
   ·simp only[o,if_false,Option.map_map]at c⊢
    simpa using c
  ·intro f e
   rw[Array.toList_modify]at e;obtain⟨l,c⟩:=List.getElem?_of_mem e;rw[List.getElem?_modify]at c
   cases E:d.toList[l]? with
   |none=>rw[E]at c;simp at c
   |some T=>
    rw[E]at c;have U:=QZ E;have:=z T U
    by_cases o:j=l
    ·simp[o]at c;subst c;exact this
    ·simp[o]at c;subst c;exact this
  ·have:(d.modify j λf=>{f with key:=enc k,val:=c2}).toList.map (·.born)=d.toList.map (·.born):=by
    apply X3;intro l;simp only[Array.toList_modify,Q9,List.getElem?_modify,Option.map_map]
    by_cases o:j=l<;>simp[o]<;>rfl
   rw[this];exact I
def IS[BEq i][LawfulBEq i]{d:i->Value}(w:lT h g n A v)(s:iD h n d){f:List (i×Value)}(t:bU b a d f){j:i}(x:∀l,bU l a d (bI f j)->aj (·=a) b l->l.heap.size=b.heap.size->m (.tuple #[]) l):aG h (Builtin.delete_ #[g,b7] f0 #[.map (some a),d j]) b m r:=by
 obtain⟨P,c,k,o,y,z⟩:=t.at';have p:=jt s j P.toList f o b;have F:P.toList.length=f.length:=by have:=Zj List.length o;simpa using this
 have B:=aB k
 cases q:lK f j 0 with
 |none=>
  rw[q]at p;refine aG.mk (w':={b with heap:=b.heap.setIfInBounds a (.map P c)}) ?_ (x _ ⟨⟨_,_,cR b a _ B,?_,y,z⟩,t.tidy.bI j⟩ (aj.setObj b a _) sM)
  ·simp[Builtin.delete_,run_underlying w.under,dz k,dH s,p,eC k]
  ·rw[(qx q).2];exact o
 |some H=>
  obtain⟨e,I⟩:=H;rw[q]at p;obtain⟨_,J,K,C⟩:=mG q;rw[Nat.sub_zero]at J K C;have u:e<P.size:=by
                 have:P.size=f.length:=by simpa using F
                 omega
  refine aG.mk (w':={b with heap:=b.heap.setIfInBounds a (.map (P.eraseIdxIfInBounds e) c)}) ?_ (x _ ⟨⟨_,_,cR b a _ B,?_,?_,?_⟩,t.tidy.bI j⟩ (aj.setObj b a _) sM)
  ·simp[Builtin.delete_,run_underlying w.under,dz k,dH s,p,eC k]
  ·rw[(C I).2]
   have:(P.eraseIdxIfInBounds e).toList=P.toList.eraseIdx e:=by simp[Array.eraseIdxIfInBounds,u]
   rw[this,map_eraseIdx,o,map_eraseIdx]
  ·intro L E
   have:(P.eraseIdxIfInBounds e).toList=P.toList.eraseIdx e:=by simp[Array.eraseIdxIfInBounds,u]
   rw[this]at E;exact y L (List.mem_of_mem_eraseIdx E)
  ·have:(P.eraseIdxIfInBounds e).toList=P.toList.eraseIdx e:=by simp[Array.eraseIdxIfInBounds,u]
   rw[this,map_eraseIdx];exact z.sublist (List.eraseIdx_sublist _ _)
def G_[BEq i][LawfulBEq i]{c:i->Value}(f:lT h g n A v){j:List (i×Value)}(k:bU b a c j)(l:∀d,bU d a c ([]:List (i×Value))->aj (·=a) b d->d.heap.size=b.heap.size->m (.tuple #[]) d):aG h (Builtin.clear_ #[g] b7 #[.map (some a)]) b m r:=by
 obtain⟨p,P,e,q,s,t⟩:=k.at';have o:=aB e;refine aG.mk (w':={b with heap:=b.heap.setIfInBounds a (.map #[] P)}) ?_ (l _ ⟨⟨_,_,cR b a _ o,rfl,sM,sM⟩,by simp[Tidy]⟩ (aj.setObj b a _) sM);simp[Builtin.clear_,run_underlying f.under,dz e,eC e]
def Tk(P:h.underlying g=some (.int .i64)):iD h g (Value.int .i64):=
 iD.flat P (λa c=>by simp[Instr.sameNow]) (λb d e f=>by simp[Instr.checkKey,run_underlying P]) λb a=>by simp[Instr.sameBits]

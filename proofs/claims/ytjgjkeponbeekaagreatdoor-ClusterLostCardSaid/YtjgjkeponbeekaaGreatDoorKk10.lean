import Derived.Test.YtjgjkeponbeekaaGreatDoorKk9
import Derived.Maps.RangeRun
import Derived.Laws.RangeAny
import Derived.Laws.Runes
import Derived.Lib.AppendZeros
import Derived.StringKeys
set_option maxHeartbeats 4000000
set_option linter.all false
set_option maxRecDepth 100000
open Go.IntKind renaming wrap→ZG
namespace Go.aw
open Go
instance:LawfulBEq ByteArray where
 eq_of_beq:=λ{a b} h=>ByteArray.ext (eq_of_beq (show(a.data==b.data)=true from h))
 rfl:=λ{a}=>show(a.data==a.data)=true from by simp
variable{a:Nat}{h:Program}{C b8 f2 g p:TypeId}{v:Value}{o t:ZR}
def YC(n:h.underlying g=some .string):ji h g Value.string:=
 ji.flat n (λP b=>rfl) (λa c d e=>by simp[Instr.checkKey,run_underlying n]) λa P=>by simp[Instr.sameBits]
structure cT {κ:Type} (w:World) (it r:Nat) (enc:κ->Value) (l left:List (κ×Value)):Prop where
 at':∃es clock since seen c0,w.heap[r]? =some (.map es clock)/\es.toList.map (λe=>(e.key,e.val))=l.map (λp=>(enc p.1,p.2))/\
  (∀e∈es.toList,e.born<clock)/\(es.toList.map (·.born)).Nodup/\w.heap[it]? =some (.mapIter (some r) since seen c0)/\(∀x∈es.toList,x.born<since)/\since<=c0/\since<=clock/\
  (leftOf es seen).toList.map (λe=>(e.key,e.val))=left.map (λp=>(enc p.1,p.2))
 tidy:Tidy l
structure Vb {κ:Type} (w:World) (it r:Nat) (enc:κ->Value) (k:κ) (v:Value):Prop where
 at':∃(es:Array MapEntry) (clock since:Nat) (seen:Array Nat) (e:MapEntry),w.heap[r]? =some (.map es clock)/\w.heap[it]? =some (.mapIter (some r) since (seen.push e.born) clock)/\e∈es.toList/\(es.toList.map (·.born)).Nodup/\e.key=enc k/\e.val=v
section
variable {κ:Type} {w w':World} {it r:Nat} {enc:κ->Value} {l left:List (κ×Value)} {S:ZN}
def cT.keep(b:cT w it r enc l left)(c:aj S w w')(d:¬S it)(e:¬S r):cT w' it r enc l left:=by
 obtain⟨f,n,P,seen,g,h,i,j,k,m,a⟩:=b.at';exact⟨⟨f,n,P,seen,g,c.get h e,i,j,k,c.get m d,a⟩,b.tidy⟩
def cT.af(n:cT w it r enc l left)(P:ai w w'):cT w' it r enc l left:=n.keep P id id
def cT.map(a:cT w it r enc l left):bQ w r enc l:=by
 obtain⟨c,n,P,seen,h,d,e,f,g,i,b⟩:=a.at';exact⟨⟨c,n,d,e,f,g⟩,a.tidy⟩
def cT.ne(c:cT w it r enc l left):it≠r:=by
 obtain⟨e,n,P,seen,f,d,g,h,i,a,b⟩:=c.at';rintro rfl;rw[d]at a;cases a
def cT.lt(b:cT w it r enc l left):it<w.heap.size:=by
 obtain⟨d,n,P,seen,e,f,g,h,i,c,a⟩:=b.at';exact aA c
def mapRange(f:mQ h g p C v)(P:bQ w r enc l)(i:∀w',cT w' w.heap.size r enc l l->ai w w'->w'.heap.size=w.heap.size+1->o (ZL w.heap.size) w'):aJ h (Instr.range g (.map (some r))) w o t:=by
 obtain⟨a,n,b,c,d,j⟩:=P.at';have e:ai w (w.alloc (.mapIter (some r) n #[] n)):=aj.alloc w _;refine aJ.mk (run_range_map w g p C r a n f.under b) (i _ ⟨⟨a,n,n,#[],n,e.get b id,c,d,j,heap_alloc_new w _,d,Q4 _,Q4 _,?_⟩,P.tidy⟩ e sM);rw[<-c]
 congr 2
 unfold leftOf;simp
def ot{P:Program}(q:cT w it r enc l left)(U:left=[]->o (.tuple #[.bool false]) w)(V:∀s u A B w',left=A++(s,u)::B->cT w' it r enc l (A++B)->Vb w' it r enc s u->aj (·=it) w w'->w'.heap.size=w.heap.size->o (.tuple #[.bool true,enc s,u]) w'):
  aJ P (Instr.next (ZL it) false g) w o t:=by
 have W:=q.ne;obtain⟨d,n,b,seen,C,E,X,Y,v,F,H,Z,I,k⟩:=q.at';rcases run_next_at (P:=P) w g it r b C seen d n F E H Z with⟨hz,x⟩|⟨c,J,f,K,x⟩
 ·refine aJ.mk x (U ?_)
  have:(leftOf d seen).toList=[]:=by rw[Array.eq_empty_of_size_eq_zero hz]
  rw[this]at k;simpa using k.symm
 ·have y:ai w f:=by rcases K with rfl|rfl;exact aj.refl _;exact aj.drewN w 1
  have b0:f.heap.size=w.heap.size:=by rcases K with rfl|rfl<;>rfl
  have a0:f.heap[it]? =some (.mapIter (some r) b seen C):=y.get F id;have b1:f.heap[r]? =some (.map d n):=y.get E id;have a1:=aA a0
  let p:=ChangeMaps.setBlock f it (.mapIter (some r) b (seen.push c.born) n)
  have L:aj (·=it) f p:=aj.setObj f it _;have M:p.heap[it]? =some (.mapIter (some r) b (seen.push c.born) n):=cU f it _ a1;have N:p.heap[r]? =some (.map d n):=L.get b1 (λc=>W c.symm);have a2:=mem_left J;obtain⟨a,h,O⟩:=List.getElem_of_mem J;have Q:a<left.length:=by have:=Zj List.length k;simp at this;simp at h;omega
  have R:(c.key,c.val)=(enc left[a].1,left[a].2):=by
   have:=Zj (λa3=>a3[a]?) k;simp only[Q9]at this;rw[Qq h,Qq Q,O]at this;simpa using this
  have a4:left=left.take a++(left[a].1,left[a].2)::left.drop (a+1):=by
   have:=(ZX a left).symm;rw[X4 Q]at this;exact this
  have a5:(leftOf d (seen.push c.born)).toList=(leftOf d seen).toList.eraseIdx a:=by
   have j:((leftOf d seen).toList.map (·.born)).Nodup:=by
    unfold leftOf;rw[Array.toList_filter];exact v.sublist (List.Sublist.map _ List.filter_sublist)
   have hf:(leftOf d (seen.push c.born)).toList=(leftOf d seen).toList.filter (λi=>i.born !=c.born):=by
    unfold leftOf;rw[Array.toList_filter,Array.toList_filter,List.filter_filter]
    congr 1
    funext i
    rw[contains_push]
    cases seen.contains i.born<;>cases hx:(i.born==c.born)<;>simp only[bne,hx]<;>rfl
   rw[hf];have z:∀(e:List MapEntry) (a:Nat) (h:a<e.length),(e.map (·.born)).Nodup->e.filter (λi=>i.born !=e[a].born)=e.eraseIdx a:=by
    intro e
    induction e with
    |nil=>intro a h;simp at h
    |cons i e ih=>
     intro a h j;simp only[QY,List.nodup_cons]at j
     cases a with
     |zero=>
      simp only[List.getElem_cons_zero,List.eraseIdx_zero,List.tail_cons];rw[List.filter_cons_of_neg sM];apply List.filter_eq_self.2;intro a6 hy;simp only[bne_iff_ne,ne_eq];intro c;exact j.1 (c▸Xk.2 ⟨a6,hy,rfl⟩)
     |succ a=>
      simp only[List.getElem_cons_succ,List.eraseIdx_cons_succ];have m:a<e.length:=by simpa using h
      rw[List.filter_cons_of_pos,ih a m j.2];simp only[bne_iff_ne,ne_eq];intro c;exact j.1 (c▸Xk.2 ⟨e[a],XY m,rfl⟩)
   have:=z _ a h j;rw[O]at this;exact this
  have S:c.key=enc left[a].1:=(Prod.mk.inj R).1;have T:c.val=left[a].2:=(Prod.mk.inj R).2;refine aJ.mk x ?_;rw[S,T];refine V left[a].1 left[a].2 (left.take a) (left.drop (a+1)) p a4 ⟨⟨d,n,b,seen.push c.born,n,N,X,Y,v,M,H,I,I,?_⟩,q.tidy⟩ ⟨d,n,b,seen,c,N,M,a2.1,v,S,T⟩ ((ai.keep y).then L) ?_
  ·rw[a5,map_eraseIdx,k,<-map_eraseIdx]
   congr 1
   rw[List.eraseIdx_eq_take_drop_succ]
  ·show(f.heap.setIfInBounds it _).size=_
   simp[b0]
def rr{a:κ}(b:Vb w it r enc a v)(c:o (.tuple #[enc a,v]) w):aJ h (Instr.entry (ZL it)) w o t:=by
 obtain⟨d,n,P,seen,e,f,g,i,j,k,l⟩:=b.at';refine aJ.mk (run_entry_at w it r P seen d n e g f i j) ?_;rw[k,l];exact c
def Rp[BEq κ][LawfulBEq κ]{c:κ}(J:mQ h g p C v)(x:ji h p enc)(y:cT w it r enc l left)(X:c∉left.map (·.1))(K:∀w',cT w' it r enc (bL l c) left->aj (·=r) w w'->w'.heap.size=w.heap.size->o (.tuple #[]) w'):aJ h (Builtin.delete_ #[g,b8] f2 #[.map (some r),enc c]) w o t:=by
 have L:=y.ne;obtain⟨P,a,b,seen,M,j,k,N,O,Q,R,S,T,F⟩:=y.at';have z:=km x c P.toList l k w;have Y:P.toList.length=l.length:=by have:=Zj List.length k;simpa using this
 have U:=aA j
 cases A:ns l c 0 with
 |none=>
  rw[A]at z;refine aJ.mk (w':={w with heap:=w.heap.setIfInBounds r (.map P a)}) ?_ (K _ ⟨⟨_,_,b,seen,M,cU w r _ U,?_,N,O,(aj.setObj w r _).get Q L,R,S,T,F⟩,y.tidy.bL c⟩ (aj.setObj w r _) sM)
  ·simp[Builtin.delete_,run_underlying J.under,dH j,dP x,z,eL j]
  ·rw[(sx A).2];exact k
 |some d=>
  obtain⟨n,Z⟩:=d;rw[A]at z;obtain⟨_,f,V,W⟩:=oB A;rw[Nat.sub_zero]at f V W;have m:n<P.size:=by
                 have:P.size=l.length:=by simpa using Y
                 omega
  have q:(P.eraseIdxIfInBounds n).toList=P.toList.eraseIdx n:=by simp[Array.eraseIdxIfInBounds,m]
  have a0:(P.toList[n]'(by simpa using m)).key=enc c:=by
   have:=Zj (λB=>B[n]?) k;simp only[Q9,V,Option.map_some]at this;rw[Qq (by simpa using m)]at this;simpa using(Prod.mk.inj (XJ this)).1
  have H:∀i∈(leftOf P seen).toList,i.key≠enc c:=by
   intro i hx s;have:(i.key,i.val)∈left.map (λd=>(enc d.1,d.2)):=by rw[<-F];exact Xk.2 ⟨i,hx,rfl⟩
   obtain⟨B,hq,a1⟩:=Xk.1 this;have a2:enc B.1=enc c:=(Prod.mk.inj a1).1.trans s;exact X (Xk.2 ⟨B,hq,x.inj a2⟩)
  have a3:(leftOf (P.eraseIdxIfInBounds n) seen).toList=(leftOf P seen).toList:=by
   unfold leftOf at H⊢;rw[Array.toList_filter]at H;rw[Array.toList_filter,Array.toList_filter,q];have I:∀(e:List MapEntry) (d:MapEntry->Bool) (n:Nat) (f:n<e.length),d e[n]=false->(e.eraseIdx n).filter d=e.filter d:=by
    intro e d
    induction e with
    |nil=>intro n f;simp at f
    |cons i e ih=>
     intro n f E
     cases n with
     |zero=>
      simp only[List.getElem_cons_zero]at E;simp[E]
     |succ n=>
      simp only[List.getElem_cons_succ]at E;simp only[List.eraseIdx_cons_succ,List.filter_cons];rw[ih n (by simpa using f) E]
   refine I _ _ n (by simpa using m) ?_
   cases a4: !seen.contains (P.toList[n]'(by simpa using m)).born with
   |false=>rfl
   |true=>exact Zz a0 (H _ (List.mem_filter.2 ⟨XY _,a4⟩))
  refine aJ.mk (w':={w with heap:=w.heap.setIfInBounds r (.map (P.eraseIdxIfInBounds n) a)}) ?_ (K _ ⟨⟨_,_,b,seen,M,cU w r _ U,?_,?_,?_,(aj.setObj w r _).get Q L,?_,S,T,?_⟩,y.tidy.bL c⟩ (aj.setObj w r _) sM)
  ·simp[Builtin.delete_,run_underlying J.under,dH j,dP x,z,eL j]
  ·rw[(W Z).2,q,map_eraseIdx,k,map_eraseIdx]
  ·intro s u
   rw[q]at u;exact N s (List.mem_of_mem_eraseIdx u)
  ·rw[q,map_eraseIdx]
   exact O.sublist (List.eraseIdx_sublist _ _)
  ·intro s u
   rw[q]at u;exact R s (List.mem_of_mem_eraseIdx u)
  ·rw[a3];exact F
def Vz(P:mQ h g p C v)(a:bQ w r enc l)(b:o (ZH (l.length:Int)) w):aJ h (Builtin.len_ #[g] b8 #[.map (some r)]) w o t:=by
 obtain⟨c,n,d,e,_⟩:=a.at';have f:c.size=l.length:=by have:=Zj List.length e;simpa using this
 refine aJ.mk (v:=ZH (l.length:Int)) ?_ b;rw[<-f];simp[Builtin.len_,Builtin.lenOf,run_underlying P.under,dH d,goInt]
def BU{n:ByteArray}(P:h.underlying g=some .string)(a:∀w',w'.heap[w.heap.size]? =some (.stringIter n 0)->ai w w'->w'.heap.size=w.heap.size+1->o (ZL w.heap.size) w'):aJ h (Instr.range g (.string n)) w o t:=
 aJ.mk (run_range_string w g n P) (a _ (World.iter_heap w n 0) (aj.alloc w _) (by simp[World.iter]))
def GK{n:ByteArray}(P:w.heap[it]? =some (.stringIter n a))(c:n.size<=a->o (.tuple #[.bool false]) w)(d:a<n.size->∀w',w'.heap[it]? =some (.stringIter n (a+(Utf8.decode n a).2))->aj (·=it) w w'->w'.heap.size=w.heap.size->o (.tuple #[.bool true,ZH (a:Int),.int .i32 ((Utf8.decode n a).1:Int)]) w'):
  aJ h (Instr.next (ZL it) true g) w o t:=by
 by_cases b:a<n.size
 ·refine aJ.mk (w':={w with heap:=w.heap.setIfInBounds it (.stringIter n (a+(Utf8.decode n a).2))}) ?_ (d b _ (cU w it _ (aA P)) (aj.setObj w it _) sM)
  simp[Instr.next,getObj,setObj,Sem.run,P,b,goInt]
 ·refine aJ.mk ?_ (c oM)
  simp[Instr.next,getObj,Sem.run,P,b]
end
end Go.aw
namespace Go.Proofs.YtjgjkeponbeekaaGreatDoor
open Go.aw
def eG(b:UInt8):Bool:=(97<=b&&b<=122)||(48<=b&&b<=57)||b==46
def cY(n:ByteArray):Bool:=decide (1<=n.size)&&decide (n.size<=16)&&n.data.toList.all eG
structure bS where
 bytes:List UInt8
 synced:Nat
 jM:Bool
 deriving DecidableEq
structure ak where
 most:Nat
 files:List (ByteArray×bS)
 jv:Bool
 left:Int
 dead:Bool
 deriving DecidableEq
def eY(n:List (ByteArray×bS)):Nat:=(n.map λP=>P.2.bytes.length).sum
def ak.used(D:ak):Nat:=eY D.files
structure ak.Ok (D:ak):Prop where
 most:D.most<=262144
 fits:D.used<=D.most
 many:D.files.length<=64
 tidy:Tidy D.files
 names:∀x∈D.files,cY x.1=true
 SU:∀x∈D.files,x.2.synced<=x.2.bytes.length
 BG:0<=D.left
 BH:aM D.left
variable{Y m:Array Value}{K:Bool}{w:ByteArray}{f3:ByteArray×bS}{z:FuncId}{e:Int}{g7:List (ByteArray×bS)}{u:List UInt8}{a c:Nat}{f:ZN}{d:WP}{J j:Type}{b9:UInt8}{b k:World}{y:ZU}{W:bS}
def Lw(h:f3∈g7):f3.2.bytes.length<=eY g7:=by
 unfold eY
 induction g7 with
 |nil=>cases h
 |cons P g7 n=>
  simp only[QY,List.sum_cons];rcases Q2.1 h with rfl|h
  ·omega
  ·have:=n h;omega
def ak.Ok.len{D:ak}(n:D.Ok)(P:f3∈D.files):f3.2.bytes.length<=262144:=by
 have:=Lw P;have:=n.fits;have:=n.most;unfold ak.used at*;omega
structure eH (w:World) (q:Nat) (G:ZN) (f:bS):Prop where
 body:∃a n cap F,w.heap[q]? =some (.cells #[.slice a n cap,ZH f.synced,.bool f.jM] 239 (0,0))/\aV gl 5 F w a n cap f.bytes/\(∀b,F b->G b)/\¬F q
 self:G q
 aE:∀b,G b->b<w.heap.size
def eH.keep{S G:ZN}(P:eH b a G W)(c:aj S b k)(f:∀n,G n->¬S n):eH k a G W:=by
 obtain⟨h,i,d,j,l,m,g,o⟩:=P.body;exact⟨⟨h,i,d,j,c.get l (f _ P.self),m.keep c (λn e=>f n (g n e)),g,o⟩,P.self,λn e=>Qk (P.aE n e) c.size⟩
structure oq where
 q:Nat
 G:ZN
 f:bS
def ptr(n:Nat):Value:=ZL n
def eD(n:ByteArray×oq):ByteArray×Value:=(n.1,ptr n.2.q)
def vM(n:ByteArray×oq):ByteArray×bS:=(n.1,n.2.f)
structure Eu (w:World) (L:List (ByteArray×oq)):Prop where
 each:∀x∈L,eH w x.2.q x.2.G x.2.f
 apart:∀x∈L,∀y∈L,x.1≠y.1->∀b,x.2.G b->¬y.2.G b
 tidy:Tidy L
structure aU (w:World) (p:Nat) (F:ZN) (D:ak):Prop where
 body:∃r L,w.heap[p]? =some (.cells #[ZH D.most,.map (some r),.bool D.jv,ZH D.left,.bool D.dead] 143 (0,0))/\bQ w r Value.string (L.map eD)/\D.files=L.map vM/\Eu w L/\
  (∀x∈L,∀b,x.2.G b->F b/\b≠p/\b≠r)/\F r/\p≠r
 self:F p
 aE:∀b,F b->b<w.heap.size
 ok:D.Ok
variable{a3:List (ByteArray×oq)}
def Eu.keep{S:ZN}(P:Eu b a3)(d:aj S b k)(e:∀n∈a3,∀a,n.2.G a->¬S a):Eu k a3:=
 ⟨λn c=>(P.each n c).keep d (e n c),P.apart,P.tidy⟩
def aU.keep{S d:ZN}{D:ak}(P:aU b a d D)(c:aj S b k)(e:∀n,d n->¬S n):aU k a d D:=by
 obtain⟨i,j,l,m,o,p,g,h,q⟩:=P.body;exact⟨⟨i,j,c.get l (e _ P.self),m.keep c (e _ h),o,p.keep c (λr s n f=>e n (g r s n f).1),g,h,q⟩,P.self,λn f=>Qk (P.aE n f) c.size,P.ok⟩
def aU.af{D:ak}(n:aU b a f D)(P:ai b k):aU k a f D:=n.keep P λ_ _ n=>n
def rm(a:j->J)(P:List (ByteArray×j))(b:ByteArray)(c:j):(aI P b c).map (λn=>(n.1,a n.2))=aI (P.map λn=>(n.1,a n.2)) b (a c):=by
 induction P with
 |nil=>rfl
 |cons d P e=>
  obtain⟨n,f⟩:=d;simp only[aI,QY];split
  ·rfl
  ·simp[e]
def BI(a:j->J)(P:List (ByteArray×j))(b:ByteArray):(bL P b).map (λn=>(n.1,a n.2))=bL (P.map λn=>(n.1,a n.2)) b:=by
 induction P with
 |nil=>rfl
 |cons c P d=>
  obtain⟨n,e⟩:=c;simp only[bL,QY];split
  ·rfl
  ·simp[d]
def BJ(a:j->J)(n:List (ByteArray×j))(b:ByteArray):aq (n.map λP=>(P.1,a P.2)) b=(aq n b).map a:=by
 induction n with
 |nil=>rfl
 |cons c n d=>
  obtain⟨P,e⟩:=c;simp only[aq,QY];split
  ·rfl
  ·exact d
def gq{P:List (ByteArray×j)}(c:Tidy P){a:j}{n:ByteArray×j}(h:n∈aI P w a):n=(w,a)\/(n∈P/\n.1≠w):=by
 by_cases b:n.1=w
 ·left
  have:=rp (c.aI w a) (k:=n.1) (v:=n.2) h;rw[bB,b]at this;simp at this;exact Prod.ext b this.symm
 ·rcases fF h with rfl|h
  ·exact .inl rfl
  ·exact .inr ⟨h,b⟩
def GA{P:List (ByteArray×j)}(a:Tidy P){n:ByteArray×j}(b:n∈bL P w):n∈P/\n.1≠w:=by
 refine⟨gN b,λd=>?_⟩;have c:=rp (a.bL w) (k:=n.1) (v:=n.2) b;rw[gi a,d]at c;simp at c
def yt{l:List (ByteArray×bS)}{k:ByteArray}{f:bS}:eY (aI l k f)+((aq l k).map λn=>n.bytes.length).getD 0=eY l+f.bytes.length:=by
 unfold eY
 induction l with
 |nil=>simp[aI,aq]
 |cons P l a=>
  obtain⟨b,c⟩:=P;simp only[aI,aq];split
  ·simp;omega
  ·simp only[QY,List.sum_cons]at a⊢;omega
def yu{l:List (ByteArray×bS)}{k:ByteArray}:eY (bL l k)+((aq l k).map λn=>n.bytes.length).getD 0=eY l:=by
 unfold eY
 induction l with
 |nil=>simp[bL,aq]
 |cons P l a=>
  obtain⟨b,c⟩:=P;simp only[bL,aq];split
  ·simp;omega
  ·simp only[QY,List.sum_cons]at a⊢;omega
def xF{n:List (ByteArray×j)}{a:j}(P:(aq n w).isSome=true):(aI n w a).length=n.length:=by
 induction n with
 |nil=>simp[aq]at P
 |cons b n c=>
  obtain⟨e,f⟩:=b;simp only[aI,aq]at P⊢;split
  ·rfl
  ·rename_i d
   rw[Zq d]at P;simp[c P]
def aU.head{D:ak}(P:aU b a f D):∃n,b.heap[a]? =some (.cells #[ZH D.most,.map (some n),.bool D.jv,ZH D.left,.bool D.dead] 143 (0,0)):=by
 obtain⟨n,d,c,_⟩:=P.body;exact⟨n,c⟩
def aU.Lx{D n:ak}(c:aU b a f D)(d:aj (·=a) b k)(j:∀P,b.heap[a]? =some (.cells #[ZH D.most,.map (some P),.bool D.jv,ZH D.left,.bool D.dead] 143 (0,0))->k.heap[a]? =some (.cells #[ZH n.most,.map (some P),.bool n.jv,ZH n.left,.bool n.dead] 143 (0,0)))(l:n.files=D.files)(m:n.Ok):aU k a f n:=by
 obtain⟨P,o,p,q,r,s,h,t,i⟩:=c.body;exact⟨⟨P,o,j P p,q.keep d (λu=>i u.symm),l.trans r,s.keep d (λv w e g=>(h v w e g).2.1),h,t,i⟩,c.self,λe g=>Qk (c.aE e g) d.size,m⟩
def aU.Ak{D:ak}(n:aU b a f D)(c:∀P,aU P a f {D with dead:=K}->aj f b P->P.heap.size=b.heap.size->y P):PS b ⟨a,0+4,none⟩ (.bool K) y:=by
 obtain⟨k,d⟩:=n.head;refine PS.mk d sM λP e h i=>c P (n.Lx e (λl g=>?_) rfl ⟨n.ok.most,n.ok.fits,n.ok.many,n.ok.tidy,n.ok.names,n.ok.SU,n.ok.BG,n.ok.BH⟩) (e.mono λK _ j=>j▸n.self) h;rw[d]at g;cases g;exact i
def aU.IH{D:ak}(n:aU b a f D)(c:∀P,aU P a f {D with jv:=K}->aj f b P->P.heap.size=b.heap.size->y P):PS b ⟨a,0+2,none⟩ (.bool K) y:=by
 obtain⟨k,d⟩:=n.head;refine PS.mk d sM λP e h i=>c P (n.Lx e (λl g=>?_) rfl ⟨n.ok.most,n.ok.fits,n.ok.many,n.ok.tidy,n.ok.names,n.ok.SU,n.ok.BG,n.ok.BH⟩) (e.mono λK _ j=>j▸n.self) h;rw[d]at g;cases g;exact i
def aU.MX{D:ak}(n:aU b a f D)(i:0<=e)(j:aM e)(c:∀P,aU P a f {D with left:=e}->aj f b P->P.heap.size=b.heap.size->y P):PS b ⟨a,0+3,none⟩ (ZH e) y:=by
 obtain⟨o,d⟩:=n.head;refine PS.mk d sM λP g k l=>c P (n.Lx g (λp h=>?_) rfl ⟨n.ok.most,n.ok.fits,n.ok.many,n.ok.tidy,n.ok.names,n.ok.SU,i,j⟩) (g.mono λq _ m=>m▸n.self) k;rw[d]at h;cases h;exact l
def OA:PP 42 #[ZH e] b (Ok λc a=>
  if e<64\/e>262144 then c= .tuple #[.pointer none,ZH 1]/\a=b
  else∃d f,c= .tuple #[ZL d,ZH 0]/\aU a d f ⟨e.toNat,[],false,0,false⟩/\ai b a/\∀n,f n->b.heap.size<=n):=by
 refine Ip (al.dec (λP=>?_) (λP=>al.dec (λg=>?_) (λg=>?_)))
 ·exact Ok.mk (by rw[Zx (.inl P)];exact⟨rfl,rfl⟩)
 ·exact Ok.mk (by rw[Zx (.inr g)];exact⟨rfl,rfl⟩)
 ·refine PA.mk λi j o k=>PA.mk λl h p m=>Ok.mk ?_
  rw[Zq oM];refine⟨i.heap.size,λn=>b.heap.size<=n/\n<l.heap.size,rfl,⟨⟨b.heap.size,[],?_,bQ.new (h.get k id),rfl,⟨sM,sM,by simp[Tidy]⟩,sM,oM,oM⟩,oM,λn P=>P.2,?_⟩,j.af h,λn P=>P.1⟩
  ·rw[m]
   have:((e.toNat:Nat):Int)=e:=oM
   rw[this]
  ·exact⟨by show e.toNat<=_;omega,by simp[ak.used,eY],by simp,by simp[Tidy],by simp,by simp,by simp,by unfold aM;simp⟩
def ak.Gb(D:ak)(n:Int):ak:={D with jv:=true,left:=max n 0}
def OB{D:ak}(k:aM e)(n:aU b a f D):PP 91 #[ZL a,ZH e] b (Ok λd P=>d= .tuple #[]/\aU P a f (D.Gb e)/\cu f b f P):=by
 have g:(if e>0 then e else 0)=max e 0:=oM
 refine vk ⟨a,0,rfl,n.IH λl h i m=>⟨a,0,rfl,h.MX oM (by unfold aM at*;omega) λo c j p=>Ok.mk ⟨rfl,?_,i.then j,λ_ n=>.inl n⟩⟩⟩;rw[g]at c;exact c
def ak.dies(D:ak):Bool:=D.dead||(D.jv&&D.left==0)
def ak.cR(D:ak):ak:=if D.jv then{D with left:=D.left-1}else D
def ak.gone(D:ak):ak:={D with dead:=true}
def Ly{D:ak}(k:aU b a f D){e:Int}{D':ak}(A:enters ZP z=true)(E:D.dies=false->∀n,aU n a f D.cR->aj f b n->n.heap.size=b.heap.size->PP z (m++ #[]++Y) n (Ok λg c=>∃d,g= ZH e/\aU c a d D'/\cu f n d c)):
  PP 233 #[ZL a,.func (.func z) m Y] b (Ok λg c=>∃d,g= ZH (if D.dies then 15 else e)/\aU c a d (if D.dies then D.gone else D')/\cu f b d c):=by
 obtain⟨L,v⟩:=k.head;have l:∀n,D.dies=true->aU n a f {D with dead:=true}->aj f b n->Ok (λg c=>∃d,g= ZH (if D.dies then 15 else e)/\aU c a d (if D.dies then D.gone else D')/\cu f b d c) (.returned (ZH 15)) n:=
  λn h P F=>Ok.mk ⟨f,by rw[h];rfl,by rw[h];exact P,F,λ_ k=>.inl k⟩
 refine uv ⟨λn=>aU n a f D/\aj f b n/\n.heap.size=b.heap.size/\D.dies=false,?_,?_⟩
 ·refine⟨a,0,rfl,_,ae v rfl,al.mk (λh=>⟨a,0,rfl,k.Ak λn P i q=>?_⟩) (λh=>⟨a,0,rfl,_,ae v rfl,al.mk (λo=>⟨a,0,rfl,_,ae v rfl,a,0,rfl,k.Ak λn P i q=>?_⟩) (λo=>⟨a,0,rfl,k.Ak λn P i q=>?_⟩)⟩)⟩
  ·obtain⟨w,p⟩:=P.head
   exact⟨a,0,rfl,true,ae p rfl,l n (by simp[ak.dies,h]) P i⟩
  ·obtain⟨w,p⟩:=P.head
   refine⟨a,0,rfl,D.left==0,ae p rfl,al.mk (λr=>l n (by unfold ak.dies;rw[o,r];simp) (by rw[r]at P;exact P) i) (λr=>⟨?_,i,q,by unfold ak.dies;rw[h,r];simp⟩)⟩;have:({D with dead:=D.left==0}:ak)=D:=by rw[r,<-h]
   rw[this]at P;exact P
  ·obtain⟨w,p⟩:=P.head
   refine⟨a,0,rfl,false,ae p rfl,?_,i,q,by simp[ak.dies,h,o]⟩;have:({D with dead:=false}:ak)=D:=by rw[<-h]
   rw[this]at P;exact P
 ·rintro M n ⟨P,i,q,t⟩
  obtain⟨w,p⟩:=P.head;have s:∀j,aU j a f D.cR->aj f b j->j.heap.size=b.heap.size->PC ZP z (m++ #[]++Y) j (λg c=>∃B:Int,g= ZH B/\Ok (λg c=>∃d,g= ZH (if D.dies then 15 else e)/\aU c a d (if D.dies then D.gone else D')/\cu f b d c) (.returned (ZH B)) c)
    (λH c=>Ok (λg c=>∃d,g= ZH (if D.dies then 15 else e)/\aU c a d (if D.dies then D.gone else D')/\cu f b d c) (.panicked H) c):=by
   intro j x u y;refine PC.ok (E t j x u y) ?_;rintro _ N ⟨d,rfl,I,J⟩;exact⟨e,rfl,Ok.mk ⟨d,by rw[t];rfl,by rw[t];exact I,(cu.mk u λ_ k=>.inl k:cu f b f j).trans J⟩⟩
  refine⟨a,0,rfl,_,ae p rfl,al.mk (λo=>?_) (λo=>?_)⟩
  ·have O:D.left≠0:=by
    intro C;simp[ak.dies,o,C]at t
   have C:=P.ok.BG;have Q:=P.ok.BH;have K:ZG .i64 (D.left-1)=D.left-1:=wrap_i64 (by unfold aM at*;omega);refine⟨a,0,rfl,_,ae p rfl,a,0,rfl,?_⟩;rw[K];refine P.MX oM (by unfold aM at*;omega) λj x u y=>⟨z,m,Y,rfl,A,s j ?_ (i.then u) (y.trans q)⟩
   unfold ak.cR;rw[Zx o];exact x
  ·refine⟨z,m,Y,rfl,A,s n ?_ i q⟩
   unfold ak.cR;rw[Zq (by simp[o])];exact P
def cs:ByteArray:=⟨#[97,98,99,100,101,102,103,104,105,106,107,108,109,110,111,112,113,114,115,116,117,118,119,120,121,122,48,49,50,51,52,53,54,55,56,57,46]⟩
def RI:∀n:UInt8,decide (0<=Lib.indexByte cs.data.toList n)=eG n:=by
 have a:(List.range 256).all (λP=>decide (0<=Lib.indexByte cs.data.toList (UInt8.ofNat P))==eG (UInt8.ofNat P))=true:=by decide+kernel
 intro n;have:=ZY.1 a n.toNat (List.mem_range.2 n.toNat_lt);simpa using this
def TQ(a:128<=b9.toNat):eG b9=false:=by
 have n:(List.range 128).all (λP=>eG (UInt8.ofNat (128+P))==false)=true:=by decide+kernel
 have:=ZY.1 n (b9.toNat-128) (List.mem_range.2 (by have:=b9.toNat_lt;omega));rw[show 128+(b9.toNat-128)=b9.toNat by omega]at this;simpa using this
def BS:∀n∈cs.data.toList,n.toNat<128:=by decide+kernel
def TR:cs.size=37:=by decide+kernel
def strings_IndexByte{n:ByteArray}{P:Int}{a:World}:PP 358 #[.string n,.int .u8 P] a (Ok λc b=>c= ZH (Lib.indexByte n.data.toList P.toNat.toUInt8)/\a=b):=
 (Any.strings_IndexByte Tryz.TS n P a).mono λf b ⟨d,e⟩=>⟨_,d,rfl,e.symm⟩
def BT:PP 359 #[.int .i32 e] b (Ok λc d=>c= .bool (Utf8.valid e)/\b=d):=by
 have a:=validRune_eq e;unfold validRune at a;refine ng (al.dec (λf=>al.dec (λg=>?_) (λg=>al.dec (λn=>al.dec (λP=>?_) (λP=>?_)) (λn=>?_))) (λf=>al.dec (λn=>al.dec (λP=>?_) (λP=>?_)) (λn=>?_)))
 all_goals
  refine Ok.mk ⟨?_,rfl⟩;rw[a]
  congr 1
  simp;omega
def rD(n:a<w.size):w[a]? =some (w[a]'n):=by simp[n]
def tv:∀{l:List UInt8} {n:UInt8},(∀b∈l,b≠n)->Lib.indexByte l n= -1
 |[],_,_=>rfl
 |b::l,n,P=>by
  have a:(b==n)=false:=beq_false_of_ne (P b (QV ..));have c:=tv (l:=l) λd e=>P d (QJ _ e);unfold Lib.indexByte;rw[a,c];rfl
def rE(x:0<=e):
  PP 326 #[.string cs,.int .i32 e] b (Ok λg n=>(∃a:Int,g= ZH a/\decide (a>=0)=(decide (e<128)&&eG e.toNat.toUInt8))/\ai b n):=by
 refine sK ⟨λh n=>h=decide (e<128)/\n=b,al.dec (λ_=>⟨rfl,rfl⟩) (λd=>Zz x d),?_⟩;rintro Q o f ⟨rfl,rfl⟩;refine al.dec (λd=>PC.ok strings_IndexByte ?_) (λd=>al.eN (λy=>?_) (λy=>PC.ok BT ?_))
 ·rintro _ _ ⟨rfl,rfl⟩
  refine⟨_,rfl,Ok.mk ⟨⟨_,rfl,?_⟩,aj.refl _⟩⟩;have z:ZG .u8 e=e:=by
   unfold ZG;simp[IntKind.signed,IntKind.bits];omega
  rw[z,Zy d,Bool.true_and];exact RI _
 ·have no:∀n,ai f n->Ok (λg n=>(∃a:Int,g= ZH a/\decide (a>=0)=(decide (e<128)&&eG e.toNat.toUInt8))/\ai f n) (.returned (ZH (-1))) n:=λn p=>
   Ok.mk ⟨⟨_,rfl,by rw[Xv d];rfl⟩,p⟩
  refine BU Tryz.underlying9 λA B q R=>⟨λi n=>∃P,i=cs.size-P/\n.heap[f.heap.size]? =some (.stringIter cs P)/\ai f n,⟨_,0,rfl,B,q⟩,?_⟩
  rintro i o r ⟨P,rfl,C,s⟩;refine GK C (λ_=>.inl ⟨rfl,no r s⟩) λj E t F S=>.inr ⟨_,_,rfl,?_⟩;have k:(cs[P]'j).toNat<128:=BS _ (by rw[show cs[P]'j=cs.data.toList[P]'(by simpa using j)from by simp;rfl];exact XY _);have H:=decode_ascii cs P j k;rw[H]at t⊢;refine al.eN (λd=>oM) (λ_=>⟨_,?_,P+1,rfl,t,s.new F λh k=>.inr oM⟩);omega
 ·have no:∀n,ai f n->Ok (λg n=>(∃a:Int,g= ZH a/\decide (a>=0)=(decide (e<128)&&eG e.toNat.toUInt8))/\ai f n) (.returned (ZH (-1))) n:=λn p=>
   Ok.mk ⟨⟨_,rfl,by rw[Xv d];rfl⟩,p⟩
  rintro _ _ ⟨rfl,rfl⟩;refine⟨_,rfl,al.not (al.mk (λI=>?_) (λ_=>no _ (aj.refl _)))⟩;obtain⟨J,K,u⟩:=encode_facts e I oM;refine aJ.mk (run_convert_int_string f _ _ .i32 e kR Tryz.underlying9) ⟨_,rfl,?_⟩;generalize Utf8.encode e=c at J K u⊢;have L:ZG .i64 (((c.size:Nat):Int)-1)=((c.size-1:Nat):Int):=by rw[wrap_i64 bc];omega
  rw[L];refine⟨λi a n=>a=((c.size-1:Nat):Int)/\ai f n,⟨0,rfl,aj.refl _⟩,?_⟩;rintro i a o A ⟨rfl,q⟩;have T:=TR;have l:c.size-1<c.size:=oM
  have m:c.size-1<cs.size:=oM
  have U:=u l;have V:(cs[c.size-1]'m).toNat<128:=BS _ (by rw[show cs[c.size-1]'m=cs.data.toList[c.size-1]'(by simpa using m)from by simp;rfl];exact XY _);refine al.dec (λW=>⟨λ_ _=>False,?_,λa o b d=>d.elim⟩) (λX=>oM);simp only[Qx];rw[an oM];refine⟨oM,_,rD m,oM,_,rD l,λr M=>al.eO (λ_=>λE N=>⟨oM,oM,oM,_,rD l,PC.ok strings_IndexByte ?_⟩) (λv=>oM)⟩;rintro _ _ ⟨rfl,rfl⟩;have O:Lib.indexByte (cs.extract (Int.toNat ((c.size-1+1:Nat):Int)) cs.size).data.toList ((((c[c.size-1]'l).toNat:Nat):Int).toNat.toUInt8)= -1:=by
   refine tv λh k v=>?_;have w:=BS h (mem_extract k);rw[v]at w;simp at w;omega
  refine⟨_,rfl,al.dec (λ_=>no _ ((q.af M.keep).af N.keep)) (λd=>?_)⟩;rw[O]at d;omega
def BV(c:0<=e):
  PP 289 #[.int .i32 e] b (Ok λn P=>n= .bool (!(decide (e<128)&&eG e.toNat.toUInt8))/\ai b P):=by
 refine xC (PC.ok (φ:=λn P=>n= .bool (decide (e<128)&&eG e.toNat.toUInt8)/\ai b P) (pf (PC.ok (rE c) ?_)) ?_)
 ·rintro _ d ⟨⟨f,rfl,g⟩,a⟩
  exact⟨f,rfl,Ok.mk ⟨by rw[g],a⟩⟩
 ·rintro _ d ⟨rfl,a⟩
  exact⟨_,rfl,Ok.mk ⟨rfl,a⟩⟩
def ml:
  PP 291 #[.string w,.func (.func 289) #[] #[]] b (Ok λe d=>e= .bool (!w.data.toList.all eG)/\ai b d):=by
 have t:enters ZP 289=true:=kR
 refine pg (PC.ok (φ:=λe d=>(∃a:Int,e= ZH a/\decide (a>=0)= !w.data.toList.all eG)/\ai b d) (sX (PC.ok (φ:=λe d=>(∃a:Int,e= ZH a/\decide (a>=0)= !w.data.toList.all eG)/\ai b d) (sY ?_) ?_)) ?_)
 ·refine BU Tryz.underlying9 λE u v F=>⟨λo d=>∃n,o=w.size-n/\n<=w.size/\d.heap[b.heap.size]? =some (.stringIter w n)/\ai b d/\(∀g∈w.data.toList.take n,eG g=true),⟨_,0,rfl,Qj _,u,v,sM⟩,?_⟩
  rintro o H I ⟨n,rfl,J,x,p,h⟩;refine GK x (λy=>.inl ⟨rfl,Ok.mk ⟨⟨_,rfl,?_⟩,p⟩⟩) λc z q A K=>.inr ⟨_,_,rfl,_,_,_,rfl,t,?_⟩
  ·rw[Qz (by simpa using y)]at h
   have:w.data.toList.all eG=true:=ZY.2 h;rw[this];rfl
  ·have r:ai b z:=p.new A λg P=>.inr oM
   have s:w.data.toList[n]? =some (w[n]'c):=by
    rw[Qq (by simpa using c)];simp;rfl
   refine PC.ok (BV (Int.natCast_nonneg _)) ?_;rintro _ L ⟨rfl,i⟩;refine⟨_,rfl,al.mk (λj=>?_) (λf=>?_)⟩
   ·
    refine Ok.mk ⟨⟨_,rfl,?_⟩,r.af i⟩;have k:eG (w[n]'c)=false:=by
     by_cases P:(w[n]'c).toNat<128
     ·rw[decode_ascii w n c P]at j
      simp at j;exact j.resolve_left oM
     ·exact TQ oM
    have:w.data.toList.all eG=false:=List.all_eq_false.2 ⟨_,QZ s,by simp[k]⟩;rw[this];simp
   ·have P:(w[n]'c).toNat<128:=by
     by_cases P:(w[n]'c).toNat<128
     ·exact P
     ·have M:=(decode_high w n c oM).1
      have B:¬(((Utf8.decode w n).1:Int)<128):=oM
      rw[Xv B]at f;simp at f
    rw[decode_ascii w n c P]at q f;have k:eG (w[n]'c)=true:=by
     simp at f;exact f.2
    refine⟨_,?_,n+1,rfl,oM,i.get q id,r.af i,λg P=>?_⟩
    ·omega
    ·rw[Qw,s]at P
     rcases Q6.1 P with P|P
     ·exact h g P
     ·simp at P;rw[P];exact k
 ·rintro _ C ⟨⟨a,rfl,l⟩,m⟩
  exact⟨a,rfl,Ok.mk ⟨⟨a,rfl,l⟩,m⟩⟩
 ·rintro _ C ⟨⟨a,rfl,l⟩,m⟩
  exact⟨a,rfl,Ok.mk ⟨by rw[l],m⟩⟩
def vP:PP 235 #[.string w] b (Ok λP a=>P= .bool (cY w)/\ai b a):=by
 refine Bo (al.Y_ (λn=>al.dec (λc=>PC.ok ml ?_) (λc=>Ok.mk ⟨?_,aj.refl _⟩)) (λn=>Ok.mk ⟨?_,aj.refl _⟩))
 ·rintro _ g ⟨rfl,d⟩
  refine⟨_,rfl,Ok.mk ⟨?_,d⟩⟩;have e:1<=w.size:=by
   by_cases f:w.size=0
   ·exact Zz (ByteArray.ext (Array.eq_empty_of_size_eq_zero f)) n
   ·omega
  unfold cY;rw[Zy e,Zy (show w.size<=16 by omega)];simp
 ·unfold cY
  rw[Xv (show¬w.size<=16 by omega)];simp
 ·subst n;rfl
def lJ{D:ZN}(h:Row gl 1 b D d a u)(f:∀n,D n->n<b.heap.size):
  PP 207 #[.slice d a c] b (Ok (qC gl 5 b u)):=by
 have x:=h.len;have P:=h.fj;refine nd (k_ tS.under ⟨_,rfl,al.mk (λe=>?_) (λe=>PA.mk λj g y k=>?_)⟩)
 ·have:u=[]:=by
   cases d with
   |none=>
    cases u with
    |nil=>rfl
    |cons l z=>obtain⟨n,m,A,o,_⟩:=h.el 0 l rfl;cases o
   |some p=>cases e
  subst this;exact Ok.mk ⟨none,0,0,λ_=>False,rfl,aV.nil b,aj.refl _,λ_ h=>h.elim⟩
 ·cases d with
  |none=>cases e
  |some p=>
   have q:aV gl 5 (·=b.heap.size) j (ZM b.heap.size) 0 0 []:=
    ⟨⟨[],λ_=>False,Own.AD (cur:= #[]) k rfl (Qj _),rfl,λ_ h=>h.elim⟩,λn P=>by simpa[aG]using P.symm,λn P=>oM⟩
   refine lK q tS (D:=D) (h.af g) (λn P=>⟨by have:=f n P;omega,by have:=f n P;simp only[aG];intro r;cases r;omega⟩) be (by unfold aT at P;unfold maxLen;simp;omega) λi s B C t v _ w=>?_;refine⟨_,_,_,rfl,Ok.mk ⟨i,_,s,λn=>aG i=some n,rfl,by have h:=t.alone;rw[List.nil_append]at h;exact h,g.new v λn P=>.inr ?_,λn P=>?_⟩⟩
   ·simp only[aG,Q1]at P;omega
   ·rcases w n P with h|h<;>omega
def ic(n:Int)(P:Nat):Nat:=(max 0 (min n P)).toNat
def om(P:Int)(n:Nat):ic P n<=n:=by unfold ic;omega
def bS.cut(n:bS)(P:Int):bS:=⟨n.bytes.take (ic P n.bytes.length),ic P n.bytes.length,true⟩
def TE(n:bS)(P:Int):(n.cut P).bytes.length=ic P n.bytes.length:=by
 have:=om P n.bytes.length;simp[bS.cut];omega
def BK{G:ZN}(h:eH b a G W)(P:W.bytes.length<=262144):
  PP 139 #[ZL a,ZH e] b (Ok λy p=>∃q,y= .tuple #[]/\eH p a q (W.cut e)/\cu G b q p):=by
 obtain⟨r,c,i,z,A,f,R,S⟩:=h.body;have B:c=W.bytes.length:=f.len dC;have T:=f.lA;refine xp λj C=>?_;have d:ai b j:=C.keep;have g:=d.get A id;have U:=om e W.bytes.length;have E:(if(if((c:Nat):Int)<e then((c:Nat):Int)else e)>0 then(if((c:Nat):Int)<e then((c:Nat):Int)else e)else 0)=((ic e W.bytes.length:Nat):Int):=by
  unfold ic;rw[B];omega
 refine⟨a,0,rfl,_,_,_,ae g rfl,a,0,rfl,r,c,i,ae g rfl,?_⟩;refine⟨oM,oM,?_⟩;have F:Row gl 1 j z r c W.bytes:=(f.row dC ba).af d;refine PC.ok (by rw[E,Qx];exact lJ (F.take (m:=ic e W.bytes.length) oM) (λn P=>Qk (f.aE n P) d.size)) ?_;rintro _ H ⟨s,k,t,l,rfl,m,o,u⟩;have I:k=ic e W.bytes.length:=by have:=m.len dC;rw[this];simp;omega
 have V:a<j.heap.size:=aA g;refine⟨_,_,_,rfl,a,0,rfl,PS.mk (o.get g id) sM λX J Y v=>⟨a,0,rfl,s,k,t,ae v rfl,a,0,rfl,PS.mk v sM λZ K s4 L=>⟨a,0,rfl,PS.mk L sM λM N s5 O=>Ok.mk ?_⟩⟩⟩;have w:aj (·=a) H M:=(J.then K).then N;have x:∀n,l n->n≠a:=λn P=>by have:=u n P;omega
 refine⟨λn=>n=a\/l n,rfl,⟨⟨s,k,t,l,?_,m.keep w x,λn P=>.inr P,λQ=>x a Q rfl⟩,.inl rfl,?_⟩,⟨((ai.keep d).then (ai.keep o)).then (w.mono λn _ P=>by rw[P];exact h.self),?_⟩⟩
 ·rw[O]
  subst I
  rfl
 ·rintro n (rfl|P)
  ·have:=o.size;omega
  ·have:=m.aE n P;omega
 ·rintro n (rfl|P)
  ·exact .inl h.self
  ·have:=u n P;have:=d.size;exact .inr oM
structure fA (w:World) (p:Nat) (F:ZN) (D:ak) (r:Nat) (L:List (ByteArray×oq)):Prop where
 head:w.heap[p]? =some (.cells #[ZH D.most,.map (some r),.bool D.jv,ZH D.left,.bool D.dead] 143 (0,0))
 map:bQ w r Value.string (L.map eD)
 files:D.files=L.map vM
 each:Eu w L
 II:∀x∈L,∀b,x.2.G b->F b/\b≠p/\b≠r
 Fr:F r
 pr:p≠r
 self:F p
 aE:∀b,F b->b<w.heap.size
 ok:D.Ok
def aU.open{D:ak}(n:aU b a f D):∃P c,fA b a f D P c:=by
 obtain⟨P,c,d,e,g,h,i,j,k⟩:=n.body;exact⟨P,c,d,e,g,h,i,j,k,n.self,n.aE,n.ok⟩
def fA.at{D:ak}(n:fA b a f D c a3):aU b a f D:=
 ⟨⟨c,a3,n.head,n.map,n.files,n.each,n.II,n.Fr,n.pr⟩,n.self,n.aE,n.ok⟩
def fA.keep{S e:ZN}{D:ak}(n:fA b a e D c a3)(d:aj S b k)(f:∀P,e P->¬S P):fA k a e D c a3:=
 ⟨d.get n.head (f _ n.self),n.map.keep d (f _ n.Fr),n.files,n.each.keep d (λh i P g=>f P (n.II h i P g).1),n.II,n.Fr,n.pr,n.self,λP g=>Qk (n.aE P g) d.size,n.ok⟩
def fA.af{D:ak}(n:fA b a f D c a3)(P:ai b k):fA k a f D c a3:=n.keep P λ_ _ n=>n
def fA.box{D:ak}(h:fA b a f D c a3)(P:ByteArray):
  (aq D.files P=none/\aq (a3.map eD) P=none)\/∃n,aq a3 P=some n/\(P,n)∈a3/\aq D.files P=some n.f/\aq (a3.map eD) P=some (ptr n.q):=by
 have d:aq (a3.map eD) P=(aq a3 P).map λn=>ptr n.q:=BJ (λn:oq=>ptr n.q) a3 P;have e:aq D.files P=(aq a3 P).map λn=>n.f:=by rw[h.files];exact BJ (λn:oq=>n.f) a3 P
 cases g:aq a3 P with
 |none=>rw[g]at d e;exact .inl ⟨e,d⟩
 |some n=>rw[g]at d e;exact .inr ⟨n,rfl,cm g,e,d⟩
def ak.fG(D:ak)(n:ByteArray)(P:bS):ak:={D with files:=aI D.files n P}
def ak.vL(D:ak)(n:ByteArray):ak:={D with files:=bL D.files n}
def rq{l:List (ByteArray×j)}{k:ByteArray}{v:j}(h:(k,v)∈l)(n:Tidy l):aI l k v=l:=by
 induction l with
 |nil=>cases h
 |cons P l a=>
  obtain⟨b,d⟩:=P;unfold aI;unfold Tidy at n;simp only[QY,List.nodup_cons]at n;rcases Q2.1 h with h|h
  ·cases h;simp
  ·have:(k==b)=false:=beq_false_of_ne λc=>n.1 (Xk.2 ⟨(k,v),h,c⟩)
   rw[Zq (by simp[this]),a h n.2]
def fA.fk{h w':World}{m G':ZN}{D:ak}(b:fA h a m D c a3){k:ByteArray}{x:oq}(v:aq a3 k=some x)(t:eH w' x.q G' W)(g:cu x.G h G' w')(w:(D.fG k W).Ok):∃u,fA w' a u (D.fG k W) c (aI a3 k ⟨x.q,G',W⟩)/\cu m h u w':=by
 have i:=cm v;have j:=b.II _ i;have y:aj m h w':=g.keep.mono λn _ P=>(j n P).1;have o:∀d∈aI a3 k ⟨x.q,G',W⟩,d=(k,⟨x.q,G',W⟩)\/(d∈a3/\d.1≠k):=λd e=>gq b.each.tidy e;refine⟨λn=>m n\/(h.heap.size<=n/\n<w'.heap.size),⟨g.keep.get b.head λP=>(j _ P).2.1 rfl,?_,?_,⟨?_,?_,b.each.tidy.aI _ _⟩,?_,.inl b.Fr,b.pr,.inl b.self,?_,w⟩,y,λn P=>P.imp id (·.1)⟩
 ·have z:(aI a3 k ⟨x.q,G',W⟩).map eD=a3.map eD:=by
   have f:(aI a3 k ⟨x.q,G',W⟩).map eD=aI (a3.map eD) k (ptr x.q):=rm (λx:oq=>ptr x.q) a3 k _;rw[f];have A:Tidy (a3.map eD):=b.map.tidy;exact rq (Xk.2 ⟨_,i,rfl⟩) A
  rw[z];exact b.map.keep g.keep λP=>(j _ P).2.2 rfl
 ·have f:(aI a3 k ⟨x.q,G',W⟩).map vM=aI (a3.map vM) k W:=rm (λx:oq=>x.f) a3 k _
  rw[f,<-b.files];rfl
 ·intro d e
  rcases o d e with rfl|⟨e,s⟩
  ·exact t
  ·exact(b.each.each d e).keep g.keep λn P=>b.each.apart d e _ i s n P
 ·intro d e p l q n P r
  rcases o d e with rfl|⟨e,s⟩<;>rcases o p l with rfl|⟨l,B⟩
  ·exact q rfl
  ·rcases g.new n P with f|f
   ·exact b.each.apart _ i p l q n f r
   ·have:=(b.each.each p l).aE n r;omega
  ·rcases g.new n r with f|f
   ·exact b.each.apart d e _ i q n P f
   ·have:=(b.each.each d e).aE n P;omega
  ·exact b.each.apart d e p l q n P r
 ·intro d e n P
  rcases o d e with rfl|⟨e,s⟩
  ·have C:=aA b.head
   have E:=b.map.lt;rcases g.new n P with f|f
   ·exact⟨.inl (j n f).1,(j n f).2⟩
   ·exact⟨.inr ⟨f,t.aE n P⟩,oM,oM⟩
  ·exact⟨.inl (b.II d e n P).1,(b.II d e n P).2⟩
 ·rintro n (P|P)
  ·exact Qk (b.aE n P) g.keep.size
  ·exact P.2
def fA.drop{D:ak}(P:fA b a f D c a3)(o:bQ k c Value.string (bL (a3.map eD) w))(h:aj (·=c) b k)(p:(D.vL w).Ok):fA k a f (D.vL w) c (bL a3 w):=by
 have e:∀n∈bL a3 w,n∈a3:=λn d=>gN d;refine⟨h.get P.head (λg=>P.pr g),?_,?_,⟨λn d=>((P.each.each n (e n d)).keep h λi j=>(P.II n (e n d) i j).2.2),λn d m q=>P.each.apart n (e n d) m (e m q),P.each.tidy.bL w⟩,λn d=>P.II n (e n d),P.Fr,P.pr,P.self,λi j=>Qk (P.aE i j) h.size,p⟩
 ·have g:(bL a3 w).map eD=bL (a3.map eD) w:=BI (λl:oq=>ptr l.q) a3 w
  rw[g];exact o
 ·have g:(bL a3 w).map vM=bL (a3.map vM) w:=BI (λl:oq=>l.f) a3 w
  rw[g,<-P.files];rfl
def fA.put{p G':ZN}{D:ak}(e:fA b a p D c a3){q:Nat}(v:bQ k c Value.string (aI (a3.map eD) w (ptr q)))(f:aj (·=c) b k)(r:eH b q G' W)(s:∀P∈a3,P.1≠w->∀n,G' n->¬P.2.G n)(t:∀n,G' n->n≠a/\n≠c)(x:(D.fG w W).Ok):
  fA k a (λn=>p n\/G' n) (D.fG w W) c (aI a3 w ⟨q,G',W⟩):=by
 have h:∀P∈aI a3 w ⟨q,G',W⟩,P=(w,⟨q,G',W⟩)\/(P∈a3/\P.1≠w):=λP d=>gq e.each.tidy d;refine⟨f.get e.head (λg=>e.pr g),?_,?_,⟨?_,?_,e.each.tidy.aI _ _⟩,?_,.inl e.Fr,e.pr,.inl e.self,?_,x⟩
 ·have g:(aI a3 w ⟨q,G',W⟩).map eD=aI (a3.map eD) w (ptr q):=rm (λj:oq=>ptr j.q) a3 w _
  rw[g];exact v
 ·have g:(aI a3 w ⟨q,G',W⟩).map vM=aI (a3.map vM) w W:=rm (λj:oq=>j.f) a3 w _
  rw[g,<-e.files];rfl
 ·intro P d
  rcases h P d with rfl|⟨d,l⟩
  ·exact r.keep f λn B=>(t n B).2
  ·exact(e.each.each P d).keep f λn B=>(e.II P d n B).2.2
 ·intro P d m i u n B o
  rcases h P d with rfl|⟨d,l⟩<;>rcases h m i with rfl|⟨i,y⟩
  ·exact u rfl
  ·exact s m i y n B o
  ·exact s P d l n o B
  ·exact e.each.apart P d m i u n B o
 ·intro P d n B
  rcases h P d with rfl|⟨d,l⟩
  ·exact⟨.inr B,t n B⟩
  ·exact⟨.inl (e.II P d n B).1,(e.II P d n B).2⟩
 ·rintro n (B|B)
  ·exact Qk (e.aE n B) f.size
  ·exact Qk (r.aE n B) f.size
end Go.Proofs.YtjgjkeponbeekaaGreatDoor
namespace Go.aw
open Go
def CP(cs:Array Value):Nat->List Value->Array Value
 |_,[]=>cs
 |n,P::a=>CP (cs.setIfInBounds n P) (n+1) a
def Fy:∀(a:List Value) (cs:Array Value) (P n:Nat),(CP cs P a)[n]? =if P<=n/\n<P+a.length/\n<cs.size then a[n-P]? else cs[n]?
 |[],cs,P,n=>by rw[Zq be];rfl
 |v::a,cs,P,n=>by
  unfold CP;rw[Fy a,Array.getElem?_setIfInBounds];simp only[Xq,Array.size_setIfInBounds]
  by_cases b:P+1<=n/\n<P+1+a.length/\n<cs.size
  ·rw[Zx b,Zx oM,show n-P=(n-(P+1))+1 by omega,ZZ]
  ·rw[Zq b]
   by_cases c:P=n
   ·subst c
    by_cases d:P<cs.size
    ·rw[Zx rfl,Zx d,Zx oM,Nat.sub_self,ZJ]
    ·rw[Zx rfl,Zq d,Zq oM,Array.getElem?_eq_none oM]
   ·rw[Zq c,Zq oM]
variable{a4:List Value}{a:Nat}{g:TypeId}{b:World}{y:ZU}
def Fz{cs:Array Value}(P:a4.length=cs.size):CP cs 0 a4=a4.toArray:=by
 apply Array.ext_getElem?;intro n;rw[Fy]
 by_cases a:n<cs.size
 ·rw[Zx oM];simp
 ·rw[Zq oM,Array.getElem?_eq_none oM]
  simp;omega
def yT{b:Nat}{f:TypeId}{g:ZU}:∀(a:List Value) (P:Nat) {n:World} {cs:Array Value},n.heap[b]? =some (.cells cs f (0,0))->P+a.length<=cs.size->
  (∀c,aj (·=b) n c->c.heap.size=n.heap.size->c.heap[b]? =some (.cells (CP cs P a) f (0,0))->g c)->jO ⟨b,0,none⟩ P a n g
 |[],P,n,cs,d,h,e=>e n (aj.refl _) rfl d
 |v::a,P,n,cs,d,h,e=>by
  unfold jO;rw[Addr.add_lit,Xz];rw[Xq]at h;exact PS.mk d oM λq i j k=>yT a (P+1) k be λl m o p=>e l (i.then m) (o.trans j) p
def storeAll{cs:Array Value}(P:List Value)(c:b.heap[a]? =some (.cells cs g (0,0)))(d:P.length=cs.size)(e:∀n,aj (·=a) b n->n.heap.size=b.heap.size->n.heap[a]? =some (.cells P.toArray g (0,0))->y n):jO ⟨a,0,none⟩ 0 P b y:=
 yT P 0 c oM λn f h i=>e n f h (by rw[i,Fz d])
end Go.aw
namespace Go.aw
open Go
def wrap_u32(n:Nat)(P:n<2 ^ 32):ZG .u32 (n:Int)=n:=by
 unfold ZG;simp[IntKind.signed,IntKind.bits];omega
def wrap_u8(n:Nat):ZG .u8 (n:Int)=((n % 256:Nat):Int):=by
 unfold ZG;simp[IntKind.signed,IntKind.bits]
def ofInt32(n:sr):BitVec.ofInt (IntKind.bits .u32) ((n.toNat:Nat):Int)=n:=by
 show BitVec.ofInt 32 ((n.toNat:Nat):Int)=n;rw[BitVec.ofInt_natCast];simp
def Ln(n P:sr):qT .u32 ((n.toNat:Nat):Int) ((P.toNat:Nat):Int)=(((n ^^^ P).toNat:Nat):Int):=by
 unfold qT;rw[ofInt32,ofInt32];exact wrap_u32 _ (n ^^^ P).isLt
def Rk(n:sr):qT .u32 (IntKind.max .u32) ((n.toNat:Nat):Int)=(((~~~n).toNat:Nat):Int):=by
 have P:IntKind.max .u32=(((BitVec.allOnes 32).toNat:Nat):Int):=by decide+kernel
 rw[P,Ln,BitVec.allOnes_xor]
def Vv(n:sr):kv .u32 ((n.toNat:Nat):Int) 8=(((n>>>8).toNat:Nat):Int):=by
 unfold kv;have:(min (Int.toNat 8) (IntKind.bits .u32))=8:=dC
 rw[this,BitVec.toNat_ushiftRight,Nat.shiftRight_eq_div_pow];show Int.fdiv _ ((2 ^ 8:Nat):Int)=_;rw[Int.fdiv_eq_ediv_of_nonneg _ (Int.natCast_nonneg _)]
 rfl
def WG(n P:Nat)(a:n<256)(b:P<256):qT .u8 (n:Int) (P:Int)=((n ^^^ P:Nat):Int):=by
 unfold qT;show ZG .u8 ((BitVec.ofInt 8 (n:Int) ^^^ BitVec.ofInt 8 (P:Int)).toNat:Int)=_;have c:n ^^^ P<2 ^ 8:=Nat.xor_lt_two_pow oM oM;rw[BitVec.ofInt_natCast,BitVec.ofInt_natCast,BitVec.toNat_xor,BitVec.toNat_ofNat,BitVec.toNat_ofNat,Nat.mod_eq_of_lt oM,Nat.mod_eq_of_lt oM,wrap_u8,Nat.mod_eq_of_lt oM]
def Vw(n:Nat)(a:n<256):Gk .u8 (n:Int) 15=((n % 16:Nat):Int):=by
 unfold Gk;show ZG .u8 ((BitVec.ofInt 8 (n:Int)&&&BitVec.ofInt 8 ((15:Nat):Int)).toNat:Int)=_;have P:n&&&15=n % 16:=Nat.and_two_pow_sub_one_eq_mod n 4;rw[BitVec.ofInt_natCast,BitVec.ofInt_natCast,BitVec.toNat_and,BitVec.toNat_ofNat,BitVec.toNat_ofNat,Nat.mod_eq_of_lt oM,Nat.mod_eq_of_lt oM,P,wrap_u8,Nat.mod_eq_of_lt oM]
def WH(n:Nat):kv .u8 (n:Int) 4=((n/16:Nat):Int):=by
 unfold kv;have:(min (Int.toNat 4) (IntKind.bits .u8))=4:=dC
 rw[this];show Int.fdiv _ ((2 ^ 4:Nat):Int)=_;rw[Int.fdiv_eq_ediv_of_nonneg _ (Int.natCast_nonneg _)]
 rfl
end Go.aw
namespace Go.Proofs.YtjgjkeponbeekaaGreatDoor
open Go.aw
structure qP (w:World):Prop where
 lower:∀i,i<16->w.cell? ⟨2,i,none⟩=some (.int .u32 ((kJ.getD i 0:Nat):Int))
 upper:∀i,i<16->w.cell? ⟨3,i,none⟩=some (.int .u32 ((kK.getD i 0:Nat):Int))
 lt:2<w.heap.size/\3<w.heap.size
variable{u:List UInt8}{a c:Nat}{f:ZN}{d:WP}{b k:World}
def qP.af(n:qP b)(a:ai b k):qP k:=
 ⟨λP c=>(a.cell (a:=⟨2,P,none⟩) n.lt.1 id).trans (n.lower P c),λP c=>(a.cell (a:=⟨3,P,none⟩) n.lt.2 id).trans (n.upper P c),Qk n.lt.1 a.size,Qk n.lt.2 a.size⟩
def Rl:∀n,kJ.getD n 0<2 ^ 32/\kK.getD n 0<2 ^ 32:=by
 intro n
 by_cases P:n<16
 ·have a:(List.range 16).all (λn=>decide (kJ.getD n 0<2 ^ 32/\kK.getD n 0<2 ^ 32))=true:=by decide+kernel
  simpa using ZY.1 a n (List.mem_range.2 P)
 ·rw[QQ,QQ,Q7 (by show 16<=n;omega),Q7 (by show 16<=n;omega)]
  decide
def Rm{s:sr}(p:qP b)(h:Row gl 1 b f d a u):
  PP 325 #[.int .u32 ((s.toNat:Nat):Int),.slice d a c] b (Ok λq j=>q= .int .u32 (((MV s u).toNat:Nat):Int)/\cy b j):=by
 have H:=h.len;have r:=h.fj;unfold aT at r;refine K_ ⟨λm n i j=>∃e:Nat,i=e/\e<=a/\m=a-e/\cy b j/\n=((((u.take e).foldl lg (~~~s)).toNat:Nat):Int),⟨_,0,rfl,Qj _,rfl,cy.refl b,by rw[Rk];rfl⟩,?_⟩;rintro m n i I J ⟨e,rfl,K,rfl,g,rfl⟩;generalize k:(u.take e).foldl lg (~~~s)=n;refine al.dec (λt=>?_) (λt=>Ok.mk ⟨?_,g⟩)
 ·obtain⟨v,l,P,rfl,w,_,x⟩:=(h.af g.keep).oF (i:=e) oM
  have o:=p.af g.keep;have L:=P.toNat_lt;have y:ZG .u8 ((n.toNat:Nat):Int)=((n.toNat % 256:Nat):Int):=wrap_u8 _;have M:P.toNat ^^^ n.toNat % 256<2 ^ 8:=Nat.xor_lt_two_pow oM oM;have z:qT .u8 ((P.toNat:Nat):Int) (ZG .u8 ((n.toNat:Nat):Int))=((P.toNat ^^^ n.toNat % 256:Nat):Int):=by rw[y,WG _ _ oM oM]
  refine⟨v,l,rfl,oM,oM,_,x,?_⟩;rw[z,Vw _ oM,WH];refine⟨2,0,rfl,oM,oM,((kJ.getD ((P.toNat ^^^ n.toNat % 256) % 16) 0:Nat):Int),?_,3,0,rfl,oM,oM,((kK.getD ((P.toNat ^^^ n.toNat % 256)/16) 0:Nat):Int),?_,λN A=>⟨_,oM,e+1,an oM,oM,rfl,g.then A,?_⟩⟩
  ·rw[Xz];exact o.lower _ oM
  ·rw[Xz];exact o.upper _ oM
  ·have B:=(Rl ((P.toNat ^^^ n.toNat % 256) % 16)).1
   have C:=(Rl ((P.toNat ^^^ n.toNat % 256)/16)).2;rw[Vv];have E:((kJ.getD ((P.toNat ^^^ n.toNat % 256) % 16) 0:Nat):Int)=(((BitVec.ofNat 32 (kJ.getD ((P.toNat ^^^ n.toNat % 256) % 16) 0)).toNat:Nat):Int):=by rw[BitVec.toNat_ofNat,Nat.mod_eq_of_lt B]
   have F:((kK.getD ((P.toNat ^^^ n.toNat % 256)/16) 0:Nat):Int)=(((BitVec.ofNat 32 (kK.getD ((P.toNat ^^^ n.toNat % 256)/16) 0)).toNat:Nat):Int):=by rw[BitVec.toNat_ofNat,Nat.mod_eq_of_lt C]
   rw[E,F,Ln,Ln,<-Ov,Qw,w,List.foldl_append,k]
   rfl
 ·rw[Qz oM]at k
  rw[Rk,<-k];rfl
def MW(n:qP b)(P:Row gl 1 b f d a u):
  PP 285 #[.slice d a c] b (Ok λe g=>e= .int .u32 (((Lp u).toNat:Nat):Int)/\cy b g):=by
 refine Oq (PC.ok (Rm (s:=0#32) n P) ?_);rintro _ i ⟨rfl,h⟩;exact⟨_,rfl,Ok.mk ⟨rfl,h⟩⟩
end Go.Proofs.YtjgjkeponbeekaaGreatDoor
namespace Go.aw
open Go
def wrap_u32'(n:Int):ZG .u32 n=n % 4294967296:=by
 unfold ZG;simp[IntKind.signed,IntKind.bits]
def LK{n d:Nat}(b:n<16777216)(c:d<256):Ri .u32 (LH .u32 (n:Int) 8) (ZG .u32 (d:Int))=((n*256+d:Nat):Int):=by
 have P:LH .u32 (n:Int) 8=((n*256:Nat):Int):=by
  unfold LH;have:min (Int.toNat 8) (IntKind.bits .u32)=8:=dC
  rw[this,wrap_u32'];have:((2:Int) ^ 8)=256:=dC
  rw[this];omega
 rw[P,wrap_u32 _ oM];unfold Ri;show ZG .u32 ((BitVec.ofInt 32 ((n*256:Nat):Int)|||BitVec.ofInt 32 (d:Int)).toNat:Int)=_;have a:n*256|||d=n*256+d:=by
  have:=(Nat.shiftLeft_add_eq_or_of_lt (a:=n) (i:=8) (b:=d) oM).symm
  rwa [Nat.shiftLeft_eq]at this
 rw[BitVec.ofInt_natCast,BitVec.ofInt_natCast,BitVec.toNat_or,BitVec.toNat_ofNat,BitVec.toNat_ofNat,Nat.mod_eq_of_lt oM,Nat.mod_eq_of_lt oM,a,wrap_u32 _ oM]
def ki(n:Nat):ZG .u8 (n:Int)=((UInt8.ofNat n).toNat:Int):=by
 rw[wrap_u8,ZK]
def NP{k:IntKind}{u m:Nat}(n:m<=k.bits):kv k (u:Int) (m:Int)=((u/2 ^ m:Nat):Int):=by
 unfold kv;rw[Qx,X2 n];show Int.fdiv _ ((2:Int) ^ m)=_;rw[Int.fdiv_eq_ediv_of_nonneg _ (Int.pow_nonneg dC)];simp
variable{a c:Nat}{d:WP}{h:Program}{C g p:TypeId}{o t:ZR}{b:World}
def OG{P tn i n:TypeId}(j:kQ h P n 1 1)(l:h.underlying tn=some (.int .i64))(m:0<a)(p:a<=aT)(c:∀d e,aV gl n (·=b.heap.size) d (ZM b.heap.size) 0 e []->a<=e->ai b d->o (.slice (ZM b.heap.size) a e) d):
  aJ h (Builtin.append_ #[P,tn] i #[.slice none 0 0,ZH (a:Int)]) b o t:=by
 obtain⟨q,f,r,s,A,u,v⟩:=j.info;unfold aT at p;have w:=Lib.run_append_nil_zeros (P:=h) b P tn i n q f .i64 .i64 j.under l r s a m oM oM (by rw[u];omega);have x:=grownCap_ge b a 0 n;refine aJ.mk w (c _ _ ?_ x ?_)
 ·have k:=heap_alloc_new b.drew (.cells (Builtin.zeroCells f.cells a++Builtin.zeroCells f.cells (grownCap b a 0 n-a)) n)
  refine⟨⟨[],λ_=>False,⟨⟨sM,.inr ⟨b.heap.size,grownCap b a 0 n,_,rfl,Qj _,k,Qj _,grownCap_le_maxLen b a 0 n (by unfold maxLen;omega),?_,sM⟩⟩⟩,rfl,λ_ c=>c.elim⟩,λy g=>by simpa[aG]using g.symm,λy g=>by rw[g];exact aA k⟩;rw[Array.size_append,size_zeroCells,size_zeroCells,v];show a*1+(grownCap b a 0 n-a)*1=grownCap b a 0 n*1;omega
 ·have z:ai b (b.drewN 1):=aj.drewN b 1
  exact z.then (aj.alloc _ _)
def UR(n:h.underlying g=some (.slice p))(P:o (ZH (c:Int)) b):aJ h (Builtin.cap_ #[g] C #[.slice d a c]) b o t:=by
 refine aJ.mk (v:=ZH (c:Int)) ?_ P;simp[Builtin.cap_,run_underlying n,goInt]
end Go.aw
namespace Go.Proofs.YtjgjkeponbeekaaGreatDoor
section
open Go.aw
variable{b0 u:List UInt8}{F a c i r:Nat}{E:Nat×Nat}{d x:WP}{b:World}
def vT{bs:List UInt8}{D:ZN}(e:Row gl 1 b D d a bs)(q:a<=4):
  PP 284 #[.slice d a c] b (Ok λg n=>g= .int .u32 (gO bs:Int)/\b=n):=by
 have r:=e.len;refine Bp ⟨λm f i n=>∃j:Nat,i=j/\j<=a/\m=a-j/\f=(gO (bs.take j):Int)/\b=n,⟨_,0,rfl,Qj _,rfl,rfl,rfl⟩,?_⟩;rintro m f i _ s ⟨j,rfl,t,rfl,rfl,rfl⟩;refine al.dec (λh=>?_) (λh=>?_)
 ·obtain⟨k,P,l,rfl,o,_,p⟩:=e.oF (i:=j) oM
  have u:=pw bs (j:=j) (m:=3) oM;refine⟨k,P,rfl,oM,oM,_,p,_,oM,j+1,an oM,oM,rfl,?_,rfl⟩;rw[LK (by
            have:(256:Nat) ^ 3=16777216:=dC
            omega) l.toNat_lt,Ez o]
 ·rw[Qz oM]
  exact Ok.mk ⟨rfl,rfl⟩
def GJ{m:Nat}(f:0<m)(c:m<=aT):
  PP 328 #[.slice none 0 0,ZH (m:Int)] b (Ok λg n=>∃P d,g= .slice (ZM P) 0 d/\aV gl 5 (·=P) n (ZM P) 0 d []/\ai b n/\b.heap.size<=P):=by
 have a:=c;unfold aT at a;refine ni ⟨λn=>n=b,al.dec (λe=>oM) (λ_=>rfl),?_⟩;rintro _ l rfl;refine UR tS.under ⟨_,rfl,?_⟩;have h:ZG .i64 ((m:Int)-ZG .i64 (((0:Nat):Int)-((0:Nat):Int)))=(m:Int):=by
  rw[wrap_i64 (x:=((0:Nat):Int)-((0:Nat):Int)) bc,wrap_i64 bc];omega
 rw[h];refine al.dec (λe=>?_) (λe=>oM);refine UR tS.under ⟨_,rfl,oM,oM,?_⟩;refine OG tS kR f c λo i j p k=>⟨_,_,_,rfl,oM,oM,Ok.mk ⟨_,i,rfl,j,k,Q4 _⟩⟩
def BP{D:ZN}(B:b.heap[a]? =some (.cells #[.slice d c r,.slice x i F] 237 E))(R:Row gl 1 b D d c u)(S:Row gl 1 b D x i b0)(C:∀n,D n->n<b.heap.size)(h0:0<c)(P:c+i<=aT):
  PP 294 #[.slice (ZM a) 2 2] b (Ok (qC gl 5 b (u++b0))):=by
 have l1:=R.len;have l2:=S.len;have H:=P;unfold aT at H;refine lI ⟨λf w g e=>b=e/\((f=2/\w=0/\g=0)\/(f=1/\w=(c:Int)/\g=1)\/(f=0/\w=((c+i:Nat):Int)/\g=2)),⟨2,rfl,.inl ⟨rfl,rfl,rfl⟩⟩,?_⟩;rintro f w g _ w1 ⟨rfl,I⟩;rcases I with⟨rfl,rfl,rfl⟩|⟨rfl,rfl,rfl⟩|⟨rfl,rfl,rfl⟩
 ·refine al.tt dC ⟨a,0,rfl,oM,oM,d,c,r,ae B rfl,?_⟩
  rw[wrap_i64 (x:=0+((c:Nat):Int)) bc];exact al.dec (λT=>oM) (λ_=>⟨1,oM,rfl,.inr (.inl ⟨rfl,oM,rfl⟩)⟩)
 ·refine al.tt dC ⟨a,0,rfl,oM,oM,x,i,F,ae B rfl,?_⟩
  rw[wrap_i64 (x:=((c:Nat):Int)+((i:Nat):Int)) bc];exact al.dec (λT=>oM) (λ_=>⟨0,oM,rfl,.inr (.inr ⟨rfl,oM,rfl⟩)⟩)
 refine al.ff dC (PC.ok (GJ (m:=c+i) oM P) ?_);rintro _ w2 ⟨U,cq,rfl,Z,k2,hq⟩;have a6:∀n,D n->n≠U:=λn P J=>by have:=C n P;omega
 refine⟨_,_,_,rfl,λf o j p g e=>ai b e/\∃k,(∀n,k n->b.heap.size<=n)/\((f=2/\g=0/\aV gl 5 k e o j p [])\/(f=1/\g=1/\aV gl 5 k e o j p u)\/(f=0/\g=2/\aV gl 5 k e o j p (u++b0))),
  ⟨2,k2,(·=U),λn J=>oM,.inl ⟨rfl,rfl,Z⟩⟩,?_⟩
 rintro f o j p g _ V ⟨q,k,y,I⟩;have W:=q.get B id;have ap:∀{z A:List UInt8} {K t X} {L Y:ZR},aV gl 5 k V o j p z->Row gl 1 b D K t A->z.length+A.length<=140737488355328->
   (∀l s e m,aV gl 5 m e l (j+t) s (z++A)->ai b e->(∀n,m n->b.heap.size<=n)->L (.slice l (j+t) s) e)->
   aJ ZP (Builtin.append_ #[237,237] 237 #[.slice o j p,.slice K t X]) V L Y:=by
  intro z A K t X L Y h hr a5 M;refine Am h tS (hr.af q) (λn P=>⟨by have:=C n P;have:=q.size;omega,λJ=>?_⟩) ba (by unfold maxLen;omega) λl s N m v a3 _ a4=>?_
  ·have:=C n P;have:=y n (h.self n J);omega
  ·exact M l s N (λn=>aG l=some n) v.alone (q.new a3 λn P=>.inr (y n (h.self n P))) λn P=>(a4 n P).elim (y n) λT=>by have:=q.size;omega
 rcases I with⟨rfl,rfl,h⟩|⟨rfl,rfl,h⟩|⟨rfl,rfl,h⟩
 ·refine al.tt dC ⟨a,0,rfl,oM,oM,d,c,r,ae W rfl,?_⟩
  exact ap h R be λl s N m v O Q=>⟨_,_,_,rfl,1,oM,O,m,Q,.inr (.inl ⟨rfl,rfl,v⟩)⟩
 ·refine al.tt dC ⟨a,0,rfl,oM,oM,x,i,F,ae W rfl,?_⟩
  exact ap h S oM λl s N m v O Q=>⟨_,_,_,rfl,0,oM,O,m,Q,.inr (.inr ⟨rfl,rfl,v⟩)⟩
 ·exact al.ff dC (Ok.mk ⟨_,_,_,k,rfl,h,q,y⟩)
end
section
open Go.aw
def iI:lx:=⟨[],[],[],[],[]⟩
variable{c7 w:ByteArray}{A:ZT}{a c:Nat}{d:WP}{b:World}
def iJ(n:al (decide ((((ByteArray.size w:Nat):Int):Int)>=((ByteArray.size c7:Nat):Int))) (((0:Int)<=((ByteArray.size c7:Nat):Int)/\(((ByteArray.size c7:Nat):Int):Int)<=((ByteArray.size w:Nat):Int)/\rt A ((.bool ((ByteArray.toList (ByteArray.extract w 0 (Int.toNat ((ByteArray.size c7:Nat):Int))))==(ByteArray.toList c7)))) b)) (rt A ((.bool false)) b)):PP 324 #[.string w,.string c7] b A:=DC iI Tryz.func324 rfl n
def iG:lx:=⟨[],[],[],[],[]⟩
def iH(P:PC_ 324 #[.string w,.string c7] b (kB λa n=>al (!a) (rt A ((.tuple #[.string w,.bool false])) n) (((0:Int)<=((ByteArray.size c7:Nat):Int)/\(((ByteArray.size c7:Nat):Int):Int)<=((ByteArray.size w:Nat):Int)/\rt A ((.tuple #[.string (ByteArray.extract w (Int.toNat ((ByteArray.size c7:Nat):Int)) (ByteArray.size w)),.bool true])) n))) (pE A)):PP 283 #[.string w,.string c7] b A:=DC iG Tryz.func283 rfl P
def Bt:lx:=⟨[],[],[],[],[(11,⟨[0,1,0,4,10,18,48,64,192,320,576,1088],[4095,4094,4095,4091,4087,4077,4063,4031,3903,3775,3519,3007],[0,2,0,0,2,0,0,0,0,1,0,0]⟩)]⟩
def Bu(o:al (decide ((a:Int)<4)) (rt A ((.tuple #[.ii 0,.ii 4])) b) (((0:Int)<=1/\(1:Int)<=4/\(4:Int)<=(c:Int)/\PC_ 284 #[.slice (dd d (Int.toNat 1) c 1) (Int.toNat 4-Int.toNat 1) (c-Int.toNat 1)] b (λp P=>∃n,p= .int .u32 n/\(ix_ d 0 a λq r=>(∃f,P.cell? (ad q (r+Int.toNat 0))=some (.int .u8 f)/\al (f==0) (rt A ((.tuple #[.ii 0,.ii 2])) P) (al (decide (((ZG .i64 n):Int)>65536)) (rt A ((.tuple #[.ii 0,.ii 5])) P) (al (decide ((a:Int)<(ZG .i64 ((ZG .i64 (4+(ZG .i64 n)))+5)))) (rt A ((.tuple #[.ii 0,.ii 4])) P) (((0:Int)<=(ZG .i64 (4+(ZG .i64 n)))/\((ZG .i64 (4+(ZG .i64 n))):Int)<=(c:Int)/\((0:Int)<=(ZG .i64 (4+(ZG .i64 n)))/\((ZG .i64 (4+(ZG .i64 n))):Int)<=(ZG .i64 ((ZG .i64 (4+(ZG .i64 n)))+5))/\((ZG .i64 ((ZG .i64 (4+(ZG .i64 n)))+5)):Int)<=(c:Int)/\(∀g,cy P g->(∀h,cy g h->((0:Int)<=4/\(4:Int)<=(((c-Int.toNat (ZG .i64 (4+(ZG .i64 n)))):Nat):Int)/\PC_ 285 #[.slice d (Int.toNat (ZG .i64 (4+(ZG .i64 n)))) c] h (λs t=>∃i,s= .int .u32 i/\PC_ 284 #[.slice (dd d (Int.toNat (ZG .i64 (4+(ZG .i64 n)))) c 1) (Int.toNat 4) (c-Int.toNat (ZG .i64 (4+(ZG .i64 n))))] t (λu e=>∃j,u= .int .u32 j/\al (i !=j) (rt A ((.tuple #[.ii 0,.ii 6])) e) ((∃k l,(dd d (Int.toNat (ZG .i64 (4+(ZG .i64 n)))) c 1)=some ⟨k,l,none⟩/\(0:Int)<=4/\4<((Int.toNat (ZG .i64 ((ZG .i64 (4+(ZG .i64 n)))+5))-Int.toNat (ZG .i64 (4+(ZG .i64 n))):Nat):Int)/\(∃m,e.cell? (ad k (l+Int.toNat 4))=some (.int .u8 m)/\al (m !=10) (rt A ((.tuple #[.ii 0,.ii 6])) e) (rt A ((.tuple #[.ii (ZG .i64 n),.ii 0])) e))))) (pZ A)) (pZ A)))))))))))) (pE A)))):PP 225 #[.slice d a c] b A:=DC Bt Tryz.func225 rfl o
end
end Go.Proofs.YtjgjkeponbeekaaGreatDoor
namespace Go.aw
open Go
def BQ(n:List UInt8)(P:Nat)(a:(n.getD 1 0).toNat*65536+(n.getD 2 0).toNat*256+(n.getD 3 0).toNat=P):
  br n=if n.length<4 then⟨0,[],0,4⟩else if n.getD 0 0=0 then⟨0,[],0,2⟩else if 65536<P then⟨0,[],0,5⟩else if n.length<P+9 then⟨0,[],0,4⟩else
   if n.take (P+9)=cC (n.getD 0 0).toNat ((n.drop 4).take P)then⟨(n.getD 0 0).toNat,(n.drop 4).take P,P+9,0⟩else⟨0,[],0,6⟩:=by
 unfold br;rw[a]
variable{u:List UInt8}
def RE(n:(br u).no=0):(br u).kind=((u.getD 0 0).toNat:Int)/\(br u).body=(u.drop 4).take ((br u).n-9)/\4<=u.length:=by
 rw[BQ u _ rfl]at n⊢;split at n
 ·cases n
 rename_i P;rw[Zq P];split at n
 ·cases n
 rename_i a;rw[Zq a];split at n
 ·cases n
 rename_i b;rw[Zq b];split at n
 ·cases n
 rename_i c;rw[Zq c];split at n
 ·rename_i d
  rw[Zx d];exact⟨rfl,sM,oM⟩
 ·cases n
end Go.aw
namespace Go.Proofs.YtjgjkeponbeekaaGreatDoor
section
open Go.aw
def BR(n:List UInt8):List Value:=n.map λP=>Value.int .u8 (P.toNat:Int)
variable{e:Int}{u:List UInt8}{a c:Nat}{d:WP}{b:World}
def EA{f:Nat×Nat}(n:List UInt8)(P:b.heap[a]? =some (.cells (BR n).toArray 5 f))(d:n.length<=1000):Row gl 1 b (·=a) (ZM a) n.length n:=
 Row.lit (enc:=λc:UInt8=>Value.int .u8 (c.toNat:Int)) P n (by simp[BR]) (λ_ _=>trivial) ba
def EB{D:ZN}(A:qP b)(P:Row gl 1 b D d a u)(B:∀n,D n->n<b.heap.size):
  PP 241 #[.agg #[ZH e,.slice d a c]] b (Ok λC E=>∃v,C= .tuple #[v,ZH (kY e u).2]/\qC gl 5 b (kY e u).1 v E):=by
 have F:=P.len;refine Iv (PA.mk λg j s1 k=>⟨d,a,c,ae k rfl,_,ae k rfl,al.dec (λh=>?_) (λh1=>⟨_,ae k rfl,al.dec (λh=>?_) (λh2=>al.dec (λh=>?_) (λh3=>?_))⟩)⟩)
 ·rw[show kY e u=([],2) by unfold kY;rw[Zx oM]]
  exact Ok.mk ⟨_,rfl,none,0,0,λ_=>False,rfl,aV.nil g,j,λ_ h=>h.elim⟩
 ·rw[show kY e u=([],2) by unfold kY;rw[Zx oM]]
  exact Ok.mk ⟨_,rfl,none,0,0,λ_=>False,rfl,aV.nil g,j,λ_ h=>h.elim⟩
 ·rw[show kY e u=([],5) by unfold kY;rw[Zq oM,Zx oM]]
  exact Ok.mk ⟨_,rfl,none,0,0,λ_=>False,rfl,aV.nil g,j,λ_ h=>h.elim⟩
 rw[show kY e u=(cC e u,0) by unfold kY;rw[Zq oM,Zq oM]];refine⟨_,ae k rfl,PA.mk λH l s2 I=>⟨d,a,c,ae (l.get k id) rfl,PA.mk λo m s3 J=>?_⟩⟩;have K:kv .i64 ((a:Nat):Int) 16=((a/65536:Nat):Int):=NP (k:=.i64) (u:=a) (m:=16) dC;have L:kv .i64 ((a:Nat):Int) 8=((a/256:Nat):Int):=NP (k:=.i64) (u:=a) (m:=8) dC;have M:e=((e.toNat:Nat):Int):=oM
 have N:H.heap[g.heap.size]? =some (.cells (BR [UInt8.ofNat e.toNat,UInt8.ofNat (u.length/65536),UInt8.ofNat (u.length/256),UInt8.ofNat u.length]).toArray 5 (0,0)):=by
  rw[I,K,L,M,ki,ki,ki,ki,F];simp[BR]
 have O:Row gl 1 o (λn=>D n\/n=g.heap.size) (ZM g.heap.size) 4 [UInt8.ofNat e.toNat,UInt8.ofNat (u.length/65536),UInt8.ofNat (u.length/256),UInt8.ofNat u.length]:=
  (EA (f:=(0,0)) [UInt8.ofNat e.toNat,UInt8.ofNat (u.length/65536),UInt8.ofNat (u.length/256),UInt8.ofNat u.length] (m.get N id) sM).mono λn P=>.inr P
 have Q:Row gl 1 o (λn=>D n\/n=g.heap.size) d a u:=(P.af ((j.then l).then m)).mono λn P=>.inl P;refine PC.ok (BP J O Q (λn P=>P.elim (λh=>by have:=B n h;omega) λh=>oM) oM ba) ?_;rintro _ p ⟨a4,n4,c4,F4,rfl,i,R,w⟩;have S:[UInt8.ofNat e.toNat,UInt8.ofNat (u.length/65536),UInt8.ofNat (u.length/256),UInt8.ofNat u.length]++u=kL e u:=rfl;rw[S]at i;have a8:=i.len dC;have q:(kL e u).length=4+u.length:=by simp[kL];omega
 have r:ai b p:=((j.then l).then m).then R;refine⟨_,_,_,rfl,PC.ok (MW (A.af r) (i.row (bytes:=1) dC (by rw[q];unfold aT;omega))) ?_⟩;rintro _ s ⟨rfl,T⟩;have t:ai p s:=T.keep;refine⟨_,rfl,?_⟩;generalize U:(Lp (kL e u)).toNat=f;have V:kv .u32 (f:Int) 24=((f/16777216:Nat):Int):=NP (k:=.u32) (u:=f) (m:=24) dC;have W:kv .u32 (f:Int) 16=((f/65536:Nat):Int):=NP (k:=.u32) (u:=f) (m:=16) dC;have X:kv .u32 (f:Int) 8=((f/256:Nat):Int):=NP (k:=.u32) (u:=f) (m:=8) dC;refine PA.mk λY x s6 Z=>?_;have a1:Y.heap[s.heap.size]? =some (.cells (BR (PT f++[10])).toArray 5 (0,0)):=by rw[Z,V,W,X,ki,ki,ki,ki];rfl
 have a2:=(i.af t).af x;have a9:p.heap.size<=s.heap.size:=t.size;refine lK a2 tS (EA (PT f++[10]) a1 (by simp[PT])) (λn y=>⟨oM,λe2=>by have:=i.aE n (i.self n e2);omega⟩) (by rw[q];unfold aT;simp[PT];omega) (by rw[q];unfold maxLen;simp[PT];omega) λz c7 w7 F7 a3 a5 _ a6=>?_;refine⟨_,_,_,rfl,Ok.mk ⟨_,rfl,z,_,c7,λn=>aG z=some n,rfl,?_,?_,?_⟩⟩
 ·have h7:=a3.alone
  have y:cC e u=kL e u++(PT f++[10]):=by unfold cC;rw[U,XQ]
  rw[y];exact h7
 ·exact((r.then t).then x).new a5 λn P=>.inr (by have:=w n (i.self n P);have:=j.size;have:=l.size;have:=m.size;omega)
 ·intro n P
  have b0:b.heap.size<=o.heap.size:=oM
  rcases a6 n P with h|h
  ·have:=w n h;omega
  ·have:=r.size;omega
def IP{D:ZN}(C:qP b)(f:Row gl 1 b D d a u)(q:a<=c):
  PP 225 #[.slice d a c] b (Ok λE F=>E= .tuple #[ZH (((br u).n-9:Nat):Int),ZH (br u).no]/\cy b F):=by
 have W:=f.len;have H:=f.fj;unfold aT at H;generalize r:(u.getD 1 0).toNat*65536+(u.getD 2 0).toNat*256+(u.getD 3 0).toNat=n;have P:=BQ u n r;refine Bu (al.dec (λk=>?_) (λX=>?_))
 ·rw[P,Zx oM]
  exact Ok.mk ⟨rfl,cy.refl b⟩
 rw[Zq (show¬u.length<4 by omega)]at P;refine⟨oM,oM,oM,PC.ok (vT (bs:=(u.take 4).drop 1) (f.part (lo:=1) (hi:=4) (cap:=c) oM oM q) dC) ?_⟩;rintro _ Y ⟨rfl,rfl⟩;have I:gO ((u.take 4).drop 1)=n:=by
  rw[US oM];show gO [u.getD 1 0,u.getD 2 0,u.getD 3 0]=n;simp only[gO,List.foldl];omega
 have Z:n<16777216:=by
  have h1:=(u.getD 1 0).toNat_lt;have h2:=(u.getD 2 0).toNat_lt;have h3:=(u.getD 3 0).toNat_lt;omega
 rw[I];obtain⟨i,e,s,rfl,J,_,g⟩:=f.oF (i:=0) oM;have h:u.getD 0 0=s:=by rw[QQ,J];rfl
 have K:ZG .i64 (n:Int)=(n:Int):=wrap_i64 bc;have L:ZG .i64 (4+(n:Int))=((4+n:Nat):Int):=by rw[wrap_i64 bc];omega
 have M:ZG .i64 (((4+n:Nat):Int)+5)=((4+n+5:Nat):Int):=by rw[wrap_i64 bc];omega
 refine⟨_,rfl,i,e,rfl,oM,oM,_,g,?_⟩;rw[K,L,M];refine al.eN (λk=>?_) (λl=>al.dec (λk=>?_) (λa8=>al.dec (λk=>?_) (λa7=>?_)))
 ·rw[P,h,Zx (UInt8.toNat_inj.1 (by
                        have:s.toNat=0:=oM
                        rw[this];rfl))]
  exact Ok.mk ⟨rfl,cy.refl b⟩
 ·rw[P,h,Zq (by rintro rfl;exact l rfl),Zx oM]
  exact Ok.mk ⟨rfl,cy.refl b⟩
 ·rw[P,h,Zq (by rintro rfl;exact l rfl),Zq oM,Zx oM]
  exact Ok.mk ⟨rfl,cy.refl b⟩
 rw[h,Zq (by rintro rfl;exact l rfl),Zq (show¬65536<n by omega),Zq (show¬u.length<n+9 by omega)]at P;have j:=VJ (b:=u) (n:=n) oM r oM;rw[h]at j;refine⟨oM,oM,oM,oM,oM,λw8 t N v=>⟨oM,oM,?_⟩⟩;have w:ai b N:=(t.then v).keep;have x:=f.af w;refine PC.ok (MW (C.af w) (x.take (m:=4+n) oM)) ?_;rintro _ O ⟨rfl,y⟩;have z:=x.af y.keep;have A:=z.part (lo:=4+n) (hi:=4+n+4) (cap:=c) oM oM q;rw[show 4+n+4-(4+n)=4 by omega]at A;refine⟨_,rfl,PC.ok (vT A dC) ?_⟩;rintro _ a9 ⟨rfl,rfl⟩;have Q:(u.take (4+n+4)).drop (4+n)=(u.drop (4+n)).take 4:=by rw[List.drop_take];congr 1;omega
 rw[Q];have m:cy b O:=(t.then v).then y;refine⟨_,rfl,al.eO (λo=>?_) (λb0=>?_)⟩
 ·rw[P,Zq (λg=>o (by rw[(j.1 g).1]))]
  exact Ok.mk ⟨rfl,m⟩
 obtain⟨b7,o8,p,R,S,_,T⟩:=z.oF (i:=8+n) oM
 cases R
 have B:u.getD (8+n) 0=p:=by rw[QQ,S];rfl
 have U:dd (some ⟨i,e,none⟩) (4+n) c 1=some ⟨i,e+(4+n),none⟩:=by
  unfold dd;rw[Zq oM];simp[Addr.add_lit]
 refine⟨i,e+(4+n),U,oM,oM,_,by rw[show e+(4+n)+Int.toNat 4=e+(8+n) by show e+(4+n)+4=_;omega];exact T,al.eO (λo=>?_) (λhe=>?_)⟩
 ·rw[P,Zq (λg=>o (by rw[<-B,(j.1 g).2];rfl))]
  exact Ok.mk ⟨rfl,m⟩
 ·have V:p=10:=UInt8.toNat_inj.1 (by show p.toNat=10;omega)
  rw[P,Zx (j.2 ⟨oM,B.trans V⟩)];exact Ok.mk ⟨sM,m⟩
def EC{D:ZN}(R:qP b)(P:Row gl 1 b D d a u)(s:a<=c)(t:∀n,D n->n<b.heap.size):
  PP 163 #[.slice d a c] b (Ok λS v=>∃w x y z,S= .tuple #[.agg #[ZH (br u).kind,.slice w x y],ZH ((br u).n:Int),ZH (br u).no]/\
   aV gl 5 z v w x y (br u).body/\ai b v/\∀n,z n->b.heap.size<=n):=by
 have hn:=P.len;have T:=P.fj;unfold aT at T;refine Is (PA.mk λA h s1 U=>PC.ok (IP (R.af h) (P.af h) s) ?_);rintro _ B ⟨rfl,V⟩;have i:ai A B:=V.keep;have C:=i.get U id;refine⟨_,_,rfl,al.eO (λj=>?_) (λk=>?_)⟩
 ·have l:(br u).kind=0/\(br u).body=[]/\(br u).n=0:=by
   rw[BQ u _ rfl]at j⊢
   repeat' split
   all_goals first|exact⟨rfl,rfl,rfl⟩|skip
   rename_i W X Y Z h5;rw[Zq W,Zq X,Zq Y,Zq Z,Zx h5]at j;exact Zz rfl j
  rw[l.1,l.2.1,l.2.2];refine storeAll [ZH 0,.slice none 0 0] C rfl λf g s3 E=>⟨0,none,0,0,ae E rfl,ae E rfl,Ok.mk ⟨none,0,0,λ_=>False,rfl,aV.nil f,?_,λ_ m=>m.elim⟩⟩
  exact(h.then i).new g λn P=>.inr oM
 obtain⟨a0,h9,a1⟩:=vU k;generalize a2:(br u).n=e at a0 h9 a1;obtain⟨a3,F,b1⟩:=RE k;rw[a2]at F;have H:(br u).kind=((u.getD 0 0).toNat:Int)/\(br u).body=(u.drop 4).take (e-9):=⟨a3,F⟩
 intro f a5;have g:ai B f:=a5.keep;have o:ai b f:=(h.then i).then g;have p:=P.af o;obtain⟨I,o6,J,rfl,hx,_,hc⟩:=p.oF (i:=0) oM;obtain⟨b2,b3,x',es,a6,_,a7,_⟩:=p.HU (i:=0) oM
 cases a6
 have a8:u.getD 0 0=J:=by rw[QQ,hx];rfl
 have K:ZG .i64 (4+((e-9:Nat):Int))=((4+(e-9):Nat):Int):=by rw[wrap_i64 bc];omega
 have e9:ZG .i64 (((4+(e-9):Nat):Int)+5)=(e:Int):=by rw[wrap_i64 bc];omega
 refine⟨λn=>b.heap.size<=n,I,o6,rfl,oM,oM,by have:=t I a7;omega,_,hc,?_⟩;refine⟨oM,oM,oM,?_⟩;have a4:=p.part (lo:=4) (hi:=4+(e-9)) (cap:=c) oM oM s;refine PC.ok (by rw[K];exact lJ a4 (λn m=>by have:=t n m;have:=o.size;omega)) ?_;rintro _ w4 ⟨L,M,N,F4,rfl,a9,q,O⟩;have b4:A.heap.size<=f.heap.size:=(i.then g).size;have g4:=q.get (g.get C id) id;refine⟨_,_,_,rfl,q.keep,?_⟩;refine storeAll [ZH (ZG .i64 (J.toNat:Int)),.slice L M N] g4 rfl λw5 r s5 Q=>⟨r.mono λn _ b0=>oM,_,_,_,_,ae Q rfl,ae Q rfl,Ok.mk ⟨L,M,N,F4,?_,?_,?_,?_⟩⟩
 ·rw[LM,H.1,a8,k,K,e9]
 ·rw[H.2,<-show(u.take (4+(e-9))).drop 4=(u.drop 4).take (e-9) by rw[List.drop_take];congr 1;omega]
  exact a9.keep r λn P b0=>by have:=O n P;omega
 ·exact(o.then q).new r λn P=>.inr oM
 ·intro n P;have:=O n P;omega
end
section
open Go.aw
variable{Y m:Array Value}{b1:FrameMode}{z:FuncId}{e:Int}{b3 s:List Int}{a6:List PanicEntry->ZU}{u:List UInt8}{H:List ah}{a c i:Nat}{f:ZN}{X a1:Operand}{d x:WP}{h:Program}{b:World}{y:ZU}{l:ah}{T:ig}
def Sh(k:fB b a f T):
  PP 228 #[ZL a,ZH e] b (VX b a f T (if T.num.1=0 then(if T.num.2.1<0\/e<T.num.2.1 then 3 else 0)else T.num.1) (λi l=>i= ZH T.num.2.1) T.num.2.2):=by
 refine sV (PC.red (EZ k) ?_ ?_)
 rotate_left
 ·intro c j d g h
  rw[Zq c];exact⟨.inr ⟨c,rfl,d⟩,g,h⟩
 rintro c _ j d rfl g h;rw[Zx c];have P:T.num.2.1<0\/e<T.num.2.1->VX b a f T (if T.num.2.1<0\/e<T.num.2.1 then 3 else 0) (λi l=>i= ZH T.num.2.1) T.num.2.2 (.panicked (Vc 3)) j:=λn=>by
  rw[Zx n];exact⟨.inr ⟨dC,rfl,_,d⟩,g,h⟩
 refine⟨_,rfl,al.dec (λm=>gw (λn=>⟨rfl,?_⟩) (λn=>P (.inr ?_))) (λm=>gw (λn=>by cases n) (λ_=>P (.inl oM)))⟩
 ·have n:=XV n
  rw[Zq oM];exact⟨.inl ⟨rfl,d,_,rfl,rfl⟩,g,h⟩
 ·have n:=Xy n
  omega
def Js:(do eqGuard .eql 20 X (.const .nilIface) .nilIface .nilIface;binOp .eql 20 .nilIface .nilIface:Sem Value).run ZP b= .ok (.bool true) b:=by
 cases X<;>rfl
def Hc:(do eqGuard .eql 20 X a1 (.iface 372 (ZH e)) .nilIface;binOp .eql 20 (.iface 372 (ZH e)) .nilIface:Sem Value).run ZP b= .ok (.bool false) b:=by
 rfl
def Jt:(Instr.typeAssert (.iface 372 (ZH e)) 20 372 true).run ZP b= .ok (.tuple #[ZH e,.bool true]) b:=by
 rfl
def Lv.ret{ret:ZU}(n:b1= .returning)(P:ret b):Lv h ret a6 [] b1 b:=by
 subst n;unfold Lv;exact P
def Lv.one(a:b1≠.run)(c:enters h z=true)(d:CallsD h z m b1 b λe n P=>RQ e (λ_=>Lv h y a6 [] (settle n) P) (λf=>Lv h y a6 [] (raised n f) P)):Lv h y a6 [{target:=.fn (.func z) m,args:= #[]}] b1 b:=
 ⟨a,z,m,rfl,c,by rw[show(#[]++m:Array Value)=m by simp];exact d⟩
def Cw{h S:ZN}(d:fB b a h T)(I:enters ZP z=true){A:ZU}{no:Int}(s:∀e,S e->e<b.heap.size)(J:T.sw=0->∀c,ai b c->PP z (m++ #[]++Y) c λP n=>aj S c n/\((no=0/\P= .returned (.tuple #[])/\A n)\/(no≠0/\(no=3\/no=4\/no=5)/\P= .panicked (Vc no)/\aj (·=a) c n/\∃t,fB n a h ⟨T.bytes,t,0⟩))):
  PP 226 #[ZL a,.func (.func z) m Y] b (Ok λK n=>K= .tuple #[]/\aj (λe=>S e\/e=a) b n/\
   ((T.sw≠0/\ai b n)\/(T.sw=0/\no=0/\aj S b n/\A n)\/(T.sw=0/\no≠0/\aj (·=a) b n/\fB n a h ⟨T.bytes,T.pos,no⟩))):=by
 obtain⟨a0,a2,L,G,u,h2,h3⟩:=d.body;have hp:=aA u;refine qj (PA.mk λc i s1 j=>?_);have v:=i.get u id;refine⟨_,ae j rfl,a,0,rfl,_,ae v rfl,al.eO (λM=>Ok.mk ⟨rfl,i.keep,.inl ⟨M,i⟩⟩) (λk=>?_)⟩;refine⟨_,ae j rfl,a,0,rfl,_,ae v rfl,PA.mk λw2 N s2 O=>PS.mk O sM λl Q s3 R=>⟨z,m,Y,rfl,I,?_⟩⟩;have w:aj (·=c.heap.size) c l:=N.keep.then Q;have o:ai b l:=i.new w λe hb=>.inr oM;refine(J k l o).mono ?_;rintro P f ⟨p,U⟩;have x:f.heap[b.heap.size]? =some (.cells #[ZL a] 280 (0,0)):=p.get (w.get j (by intro P;omega)) (λq=>by have:=s _ q;omega);have V:f.heap[c.heap.size]? =some (.cells #[ZH (T.pos:Int)] 3 (0,0)):=p.get R (λq=>by have:=s _ q;omega);have y:aj S b f:=o.keep.then p;rcases U with⟨r,rfl,W⟩|⟨r,X,rfl,Z,t,B⟩
 ·refine⟨rfl,Lv.one sM kR ?_⟩
  refine CallsD.mono (gJ (rv:=.nilIface) (u:=.returning) rfl (R:=λP g n=>P= .returned (.tuple #[])/\g= .returning/\n=f) ?_) ?_
  ·exact aJ.mk Js ⟨_,rfl,al.tt rfl ⟨rfl,rfl,rfl⟩⟩
  ·rintro P g n ⟨rfl,rfl,rfl⟩
   refine Lv.ret rfl ?_;exact Ok.mk ⟨rfl,y.mono λ_ _ d=>.inl d,.inr (.inl ⟨k,r,y,W⟩)⟩
 ·refine Lv.one sM kR ?_
  obtain⟨a',n',C,G',e1,e2,e3⟩:=B.body;refine CallsD.mono (gJ (rv:=.iface 372 (ZH no)) (u:=.panicking (Vc no)) rfl (R:=λP g n=>P= .returned (.tuple #[])/\settle g= .returning/\fB n a h ⟨T.bytes,T.pos,no⟩/\aj (·=a) b n) ?_) ?_
  ·refine aJ.mk (v:=.bool false) (w':=f) ?_ ⟨_,rfl,al.ff rfl (aJ.mk (v:=.tuple #[ZH no,.bool true]) (w':=f) ?_ ⟨_,_,rfl,al.tt rfl ?_⟩)⟩
   ·exact Hc
   ·exact Jt
   ·refine⟨_,ae x rfl,_,ae x rfl,_,ae V rfl,a,0,rfl,PS.mk e1 sM λw5 E s5 g5=>⟨a,0,rfl,PS.mk g5 sM λw6 F s6 g6=>⟨rfl,rfl,?_,?_⟩⟩⟩
    ·exact B.fk (r':=⟨T.bytes,T.pos,no⟩) e2 e3 (E.then F) g6 rfl ⟨d.fit.pos,.inr X⟩
    ·exact(o.keep.then Z).then (E.then F)
  ·rintro P g n ⟨rfl,fO,a1,H⟩
   refine Lv.ret fO ?_;exact Ok.mk ⟨rfl,H.mono λ_ _ d=>.inr d,.inr (.inr ⟨k,r,H,a1⟩)⟩
def GC(n:fB b a f T):
  PP 166 #[ZL a] b (Ok λq g=>q= ZH (fr T).1/\fB g a f (fr T).2/\aj (·=a) b g):=by
 have O:a<b.heap.size:=n.aE a n.self;refine vz (PA.mk λk F Q w=>PA.mk λH r R s=>⟨_,ae (r.get w id) rfl,?_⟩);have x:ai b H:=F.then r;have t:=n.af x;have I:=r.get w id;refine PC.ok (Cw (S:=λe=>e=a\/e=k.heap.size) (no:=T.num.1) (A:=λg=>fB g a f ⟨T.bytes,T.pos+T.num.2.2,T.sw⟩/\g.heap[k.heap.size]? =some (.cells #[ZH T.num.2.1] 3 (0,0))) t kR ?_ ?_) ?_
 ·rintro e (rfl|rfl)<;>omega
 ·intro J l p
  refine sW ⟨_,ae (p.get I id) rfl,PC.red (EZ (t.af p)) ?_ ?_⟩
  ·rintro h _ y P rfl i z
   have u:=i.get (p.get s id) oM;refine⟨_,rfl,PS.mk u sM λS A U K=>⟨(i.mono λ_ _ n=>.inl n).then (A.mono λ_ _ n=>.inr n),.inl ⟨h,rfl,P.keep A λe m d=>?_,K⟩⟩⟩;have:=n.aE e m;omega
  ·rintro h y P i z
   rw[J]at P;have:=ko (T.bytes.drop T.pos);exact⟨i.mono λ_ _ n=>.inl n,.inr ⟨h,by have:=this.2.2.2.1;unfold ig.num at h⊢;omega,rfl,i,P⟩⟩
 ·rintro _ l ⟨rfl,p,L⟩
  have M:aj (·=a) b l:=x.keep.new p λe m=>by
   rcases m with(rfl|rfl)|rfl
   ·exact .inl rfl
   ·exact .inr oM
   ·exact .inl rfl
  have c:∀v:Int,l.heap[k.heap.size]? =some (.cells #[ZH v] 3 (0,0))->fB l a f (fr T).2->v=(fr T).1->
    (∃B:Int,l.cell? ⟨k.heap.size,0,none⟩=some (ZH B)/\PS l ⟨k.heap.size,0,none⟩ (ZH B) λC=>∃E:Int,C.cell? ⟨k.heap.size,0,none⟩=some (ZH E)/\
     Ok (λq g=>q= ZH (fr T).1/\fB g a f (fr T).2/\aj (·=a) b g) (.returned (ZH E)) C):=by
   rintro v j P rfl;refine⟨_,ae j rfl,PS.mk j sM λy i z u=>⟨_,ae u rfl,Ok.mk ⟨rfl,P.keep i λe m d=>?_,M.new i λe m=>.inr oM⟩⟩⟩;have:=n.aE e m;omega
  refine⟨rfl,?_⟩;rcases L with⟨o,j⟩|⟨o,h,_,P,j⟩|⟨o,h,N,P⟩
  ·have d:fr T=(0,T):=by unfold fr;rw[Zx o]
   exact c 0 (j.get s id) (by rw[d];exact t.af j) (by rw[d])
  ·have d:fr T=(T.num.2.1,⟨T.bytes,T.pos+T.num.2.2,0⟩):=by unfold fr;rw[Zq (by simp[o]),Zx h]
   exact c _ j (by rw[d];rw[o]at P;exact P) (by rw[d])
  ·have d:fr T=(0,⟨T.bytes,T.pos,T.num.1⟩):=by unfold fr;rw[Zq (by simp[o]),Zq h]
   exact c 0 (N.get s oM) (by rw[d];exact P) (by rw[d])
def IN{m:Int}(P:fB b a f T):
  PP 165 #[ZL a,ZH m] b (Ok λv i=>v= ZH (bD m T).1/\fB i a f (bD m T).2/\aj (·=a) b i):=by
 have Y:a<b.heap.size:=P.aE a P.self;refine sQ (PA.mk λZ M s1 C=>PA.mk λl w sm N=>PA.mk λO u s2 x=>⟨_,ae (u.get (w.get C id) id) rfl,?_⟩);have E:ai b O:=(M.then w).then u;have y:=P.af E;have Q:=u.get (w.get C id) id;have R:=u.get N id;generalize g:(if T.num.1=0 then(if T.num.2.1<0\/m<T.num.2.1 then 3 else 0)else T.num.1:Int)=no;refine PC.ok (Cw (S:=λh=>h=a\/h=l.heap.size) (no:=no) (A:=λi=>fB i a f ⟨T.bytes,T.pos+T.num.2.2,T.sw⟩/\i.heap[l.heap.size]? =some (.cells #[ZH T.num.2.1] 3 (0,0))) y kR ?_ ?_) ?_
 ·rintro h (rfl|rfl)<;>omega
 ·intro S o p
  refine qt ⟨_,ae (p.get Q id) rfl,_,ae (p.get R id) rfl,PC.red (Sh (y.af p)) ?_ ?_⟩
  ·rintro c _ F d rfl j H
   rw[g]at c;have z:=j.get (p.get x id) oM;refine⟨_,rfl,PS.mk z sM λw5 I s5 U=>⟨(j.mono λ_ _ P=>.inl P).then (I.mono λ_ _ P=>.inr P),.inl ⟨c,rfl,d.keep I λh q n=>?_,U⟩⟩⟩;have:=P.aE h q;omega
  ·rintro c F d j H
   rw[g]at c⊢;rw[S]at d;have A:=(ko (T.bytes.drop T.pos)).2.2.2.1;refine⟨j.mono λ_ _ P=>.inl P,.inr ⟨c,?_,rfl,j,d⟩⟩
   change T.num.1=0\/T.num.1=4\/T.num.1=5 at A
   rw[<-g]at c⊢;split
   ·rename_i n
    rw[Zx n]at c;split
    ·exact .inl rfl
    ·rename_i s;rw[Zq s]at c;exact Zz rfl c
   ·omega
 ·rintro _ o ⟨rfl,p,V⟩
  have W:aj (·=a) b o:=E.keep.new p λh q=>by
   rcases q with(rfl|rfl)|rfl
   ·exact .inl rfl
   ·exact .inr oM
   ·exact .inl rfl
  have e:∀B:Int,o.heap[l.heap.size]? =some (.cells #[ZH B] 3 (0,0))->fB o a f (bD m T).2->B=(bD m T).1->
    (∃J:Int,o.cell? ⟨l.heap.size,0,none⟩=some (ZH J)/\PS o ⟨l.heap.size,0,none⟩ (ZH J) λK=>∃L:Int,K.cell? ⟨l.heap.size,0,none⟩=some (ZH L)/\
     Ok (λv i=>v= ZH (bD m T).1/\fB i a f (bD m T).2/\aj (·=a) b i) (.returned (ZH L)) K):=by
   rintro B k d rfl;refine⟨_,ae k rfl,PS.mk k sM λF j H z=>⟨_,ae z rfl,Ok.mk ⟨rfl,d.keep j λh q n=>?_,W.new j λh q=>.inr oM⟩⟩⟩;have:=P.aE h q;omega
  refine⟨rfl,?_⟩;rcases V with⟨r,k⟩|⟨r,c,_,d,k⟩|⟨r,c,X,d⟩
  ·have n:bD m T=(0,T):=by unfold bD;rw[Zx r]
   exact e 0 (k.get x id) (by rw[n];exact y.af k) (by rw[n])
  ·have n:bD m T=(T.num.2.1,⟨T.bytes,T.pos+T.num.2.2,0⟩):=by
    have A:=(ko (T.bytes.drop T.pos)).2.2.2.1
    change T.num.1=0\/T.num.1=4\/T.num.1=5 at A
    unfold bD;rw[Zq (by simp[r])];split at g
    ·rename_i t
     rw[Zx t];split at g
     ·omega
     ·rename_i s;rw[Zq s]
    ·omega
   exact e _ k (by rw[n];rw[r]at d;exact d) (by rw[n])
  ·have n:bD m T=(0,⟨T.bytes,T.pos,no⟩):=by
    unfold bD;rw[Zq (by simp[r])];split at g
    ·rename_i t
     rw[Zx t];split at g
     ·rename_i s;rw[Zx s,g]
     ·omega
    ·rename_i t;rw[Zq t,g]
   exact e 0 (X.get x oM) (by rw[n];exact d) (by rw[n])
def MZ(e:fB b a f T):
  PP 167 #[ZL a] b (Ok λg h=>g= ZH (ij T)/\cy b h):=by
 obtain⟨m,o,i,G,P,j,p⟩:=e.body;have q:=j.len dC;have d:T.sw≠0\/¬T.pos<T.bytes.length->ij T=T.sw:=λr=>by unfold ij;rw[Zq oM]
 refine uj ⟨a,0,rfl,_,ae P rfl,al.eN (λc=>⟨a,0,rfl,_,ae P rfl,a,0,rfl,_,_,_,ae P rfl,λk n=>al.dec (λl=>?_) λl=>?_⟩) (λc k n=>?_)⟩
 ·exact Ok.mk ⟨by unfold ij;rw[Zx ⟨c,oM⟩],n⟩
 ·exact⟨a,0,rfl,_,ae ((n.keep (S:=λ_=>False)).get P id) rfl,Ok.mk ⟨by rw[d (.inr oM)],n⟩⟩
 ·exact⟨a,0,rfl,_,ae ((n.keep (S:=λ_=>False)).get P id) rfl,Ok.mk ⟨by rw[d (.inl c)],n⟩⟩
def uW:kQ ZP 42 3 1 8:=⟨kR,kR,dC⟩
def aH(n:ah)(P:WP)(a b:Nat):List Value:=
 [ZH n.origin,ZH n.seq,ZH n.aB,.slice P a b,ZH n.aZ,ZH n.agg,ZH n.field,ZH n.op,ZH n.arg,ZH n.key]
def ku:ky ah where
 k:=10
 rep:=λh D c cs=>∃n P a,cs=aH c n P a/\Row aP 8 h D n P c.aN/\c.Ok
 keep:=λ⟨n,P,a,b,d,e⟩ i f=>⟨n,P,a,b,d.keep i f,e⟩
 mono:=λ⟨n,P,a,b,d,e⟩ f=>⟨n,P,a,b,d.mono f,e⟩
 len:=λ⟨n,P,a,b,_,_⟩=>by rw[b];rfl
 one:=λ⟨n,P,a,b,_,_⟩ j g=>by
  rw[b]at g;simp only[aH,Q2,List.not_mem_nil,or_false]at g;rcases g with rfl|rfl|rfl|rfl|rfl|rfl|rfl|rfl|rfl|rfl<;>rfl
def vQ:ky ah where
 k:=10
 rep:=λl D e cs=>∃n P a b,cs=aH e n P a/\aV aP 3 b l n P a e.aN/\(∀c,b c->D c)/\e.Ok/\e.aN.length*8<=aT
 keep:=λ⟨n,P,a,b,d,g,f,h⟩ m i=>⟨n,P,a,b,d,g.keep m (λc j=>i c (f c j)),f,h⟩
 mono:=λ⟨n,P,a,b,d,g,f,h⟩ i=>⟨n,P,a,b,d,g,λc j=>i c (f c j),h⟩
 len:=λ⟨n,P,a,b,d,_⟩=>by rw[d];rfl
 one:=λ⟨n,P,a,b,d,_⟩ o k=>by
  rw[d]at k;simp only[aH,Q2,List.not_mem_nil,or_false]at k;rcases k with rfl|rfl|rfl|rfl|rfl|rfl|rfl|rfl|rfl|rfl<;>rfl
def vQ.read{D:ZN}{cs:List Value}(n:vQ.rep b D l cs):ku.rep b D l cs:=by
 obtain⟨P,a,c,i,d,e,f,g,h⟩:=n;exact⟨P,a,c,d,(e.row dC h).mono f,g⟩
def vQ.row{D:ZN}(n:Row vQ 96 b D d a H):Row ku 96 b D d a H:=
 ⟨n.len,n.fj,λc e f=>by
  obtain⟨g,P,h,i,j,k,l,m⟩:=n.el c e f;exact⟨g,P,h,i,j,k,l,vQ.read m⟩⟩
def Kh:kQ ZP 59 63 10 96:=⟨kR,kR,dC⟩
def GB{r t:Nat}{k D:ZN}{l S:Nat}(C:b.heap[a]? =some (.cells #[.slice d r t] 237 (0,0)))(g:aV gl 5 k b d r t u)(q:Row aP 8 b D x l s)(T:¬k a)(U:¬D a)(V:u.length+9*s.length+9<=aT):
  PP 314 #[.slice x l S,ZL a] b (Ok λW h=>W= .tuple #[]/\∃c e f j,h.heap[a]? =some (.cells #[.slice c e f] 237 (0,0))/\
   aV gl 5 j h c e f (u++bj s)/\¬j a/\aj (·=a) b h/\∀n,j n->k n\/b.heap.size<=n):=by
 have X:=q.len;have a7:=aA C;have Y:=q.fj;unfold aT at Y;refine DB ⟨λE i h=>∃P:Nat,i=P/\P<=l/\E=l-P/\∃c e f j,h.heap[a]? =some (.cells #[.slice c e f] 237 (0,0))/\
   aV gl 5 j h c e f (u++bj (s.take P))/\¬j a/\aj (·=a) b h/\∀n,j n->k n\/b.heap.size<=n,
  ⟨_,0,rfl,Qj _,rfl,d,r,t,k,C,by simpa[bj]using g,T,aj.refl _,λn v=>.inl v⟩,?_⟩
 rintro E i _ w1 ⟨P,rfl,hj,rfl,F,H,I,Z,w,m,a0,o,a1⟩;refine al.dec (λh1=>?_) (λh1=>?_)
 ·obtain⟨n,y,z,rfl,A,B,hc⟩:=(q.keep o (λn g p=>U (p▸g))).oF (i:=P) oM
  refine⟨n,y,rfl,oM,oM,z,hc,F,H,I,ae w rfl,?_⟩;have a8:(bj (s.take P)).length<=9*P:=by
   have:=fW (l:=s.take P) (λa9 hy=>by
    obtain⟨J,K⟩:=List.getElem?_of_mem (List.mem_of_mem_take hy);have a2:J<l:=by rw[X];exact(Qv.1 K).1
    obtain⟨_,_,b0,_,L,a3,_⟩:=q.oF (i:=J) a2;rw[K]at L;cases L;exact a3)
   simp only[Qy]at this;omega
  have a4:=m.len dC;rw[QX]at a4;unfold aT at V;refine PC.ok (BL B (m.row (bytes:=1) dC (by rw[QX];unfold aT;omega)) ba m.aE) ?_;rintro _ w2 ⟨a5,n2,c2,M,rfl,a6,N,O⟩;have Q:¬M a:=λv=>by have:=O a v;have:=o.size;omega
  refine⟨_,_,_,rfl,PS.mk (N.get w id) sM λw3 R s3 g3=>⟨_,oM,P+1,an oM,oM,rfl,a5,n2,c2,M,g3,?_,Q,(o.af N).then R,λn g=>.inr (Xx o.size (O n g))⟩⟩;rw[Qw,A];have p:u++bj (List.take P s++(some z).toList)=u++bj (List.take P s)++dY z:=by rw[iX];simp[bj]
  rw[p];exact a6.keep R λn g p=>Q (p▸g)
 ·rw[Qz oM]at m
  exact Ok.mk ⟨rfl,F,H,I,Z,w,m,a0,o,a1⟩
def BM{f:Nat×Nat}(n:List Int)(P:b.heap[a]? =some (.cells (n.map (Value.int .i64)).toArray 3 f))(c:∀d∈n,aM d)(e:n.length<=1000):Row aP 8 b (·=a) (ZM a) n.length n:=
 Row.lit P n sM c ba
def OD{D:ZN}(w:Row aP 8 b D d a l.aN)(n:l.Ok)(F:∀P,D P->P<b.heap.size):
  PP 264 #[.agg (aH l d a c).toArray] b (Ok λH I=>∃x,H= .tuple #[x,ZH (jw l).2]/\qC gl 5 b (jw l).1 x I):=by
 have J:=w.len;refine Iu (PA.mk λi m s1 y=>⟨d,a,c,ae y rfl,al.dec (λh=>?_) (λh=>?_)⟩)
 ·have q:jw l=([],3):=by unfold jw;rw[Zx oM]
  rw[q];exact Ok.mk ⟨_,rfl,none,0,0,λ_=>False,rfl,aV.nil i,m,λ_ h=>h.elim⟩
 have a8:l.aN.length<=64:=oM
 have q:jw l=(bj (fX l),0):=by unfold jw;rw[Zq oM]
 rw[q];have z:∀P,D P->P<i.heap.size:=λP f=>Qk (F P f) m.size;refine PA.mk λj r s2 K=>?_;have k:=r.get y id;refine⟨_,ae k rfl,_,ae k rfl,_,ae k rfl,_,_,_,ae k rfl,PA.mk λA B s3 L=>⟨_,_,_,rfl,kR,?_⟩⟩;have M:Row aP 8 A (·=j.heap.size) (ZM j.heap.size) 4 [l.origin,l.seq,l.aB,(l.aN.length:Int)]:=
  BM (f:=(0,0)) [l.origin,l.seq,l.aB,(l.aN.length:Int)] (by rw[L,<-J];rfl) (by intro s e;simp at e;rcases e with rfl|rfl|rfl|rfl;exact n.origin;exact n.seq;exact n.aB;unfold aM;omega) sM
 refine PC.ok (GB (B.get K id) (aV.nil A) M id (by show¬i.heap.size=j.heap.size;omega) (by unfold aT;simp)) ?_;rintro _ C ⟨rfl,a4,n4,c4,F4,N,O,Q,R,S⟩;have o:aj (·=i.heap.size) j C:=B.keep.then R;have E:=o.get k oM;have T:Row aP 8 C D d a l.aN:=((w.af (m.then r)).keep o λP f l=>by have:=z P f;omega)
 refine⟨rfl,_,_,_,ae E rfl,_,_,_,rfl,kR,PC.ok (GB N O T Q (λh=>by have:=z _ h;omega) ?_) ?_⟩
 ·have t:=fW (l:=[l.origin,l.seq,l.aB,(l.aN.length:Int)]) (by intro s e;simp at e;rcases e with rfl|rfl|rfl|rfl;exact n.origin;exact n.seq;exact n.aB;unfold aM;omega)
  simp only[List.nil_append,Xq,ZQ]at t⊢;unfold aT;omega
 rintro _ u ⟨rfl,a5,n5,c5,F5,U,V,W,v,X⟩;have g:=v.get E oM;refine⟨rfl,_,ae g rfl,_,ae g rfl,_,ae g rfl,_,ae g rfl,_,ae g rfl,_,ae g rfl,PA.mk λY p s6 Z=>⟨_,_,_,rfl,kR,?_⟩⟩;have r6:Row aP 8 Y (·=u.heap.size) (ZM u.heap.size) 6 [l.aZ,l.agg,l.field,l.op,l.arg,l.key]:=
  BM (f:=(0,0)) [l.aZ,l.agg,l.field,l.op,l.arg,l.key] Z (by intro s e;simp at e;rcases e with rfl|rfl|rfl|rfl|rfl|rfl;exact n.aZ;exact n.agg;exact n.field;exact n.op;exact n.arg;exact n.key) sM
 have a6:=o.size;have a9:=v.size;refine PC.ok (GB (p.get U id) (V.af p) r6 W (by show¬i.heap.size=u.heap.size;omega) ?_) ?_
 ·have t:=fW (l:=[l.origin,l.seq,l.aB,(l.aN.length:Int)]) (by intro s e;simp at e;rcases e with rfl|rfl|rfl|rfl;exact n.origin;exact n.seq;exact n.aB;unfold aM;omega)
  have h2:=fW n.aN;simp only[List.nil_append,Xq,ZQ,QX]at t h2⊢;unfold aT;omega
 rintro _ w7 ⟨rfl,a7,n7,c7,F7,g7,a2,b0,k7,a3⟩;refine⟨rfl,_,_,_,ae g7 rfl,Ok.mk ⟨_,rfl,a7,n7,c7,F7,rfl,?_,?_,?_⟩⟩
 ·have:fX l=[l.origin,l.seq,l.aB,(l.aN.length:Int)]++l.aN++[l.aZ,l.agg,l.field,l.op,l.arg,l.key]:=rfl
  rw[this,iX,iX];exact a2
 ·have ka:ai b j:=m.then r
  exact(ka.new ((o.then v).then (p.keep.then k7)) λP f=>.inr oM)
 ·intro P f
  rcases a3 P f with h|h
  ·rcases X P h with h|h
   ·rcases S P h with h|h
    ·exact h.elim
    ·omega
   ·omega
  ·have:=p.size;omega
def ru(P:List Int)(a:WP)(b c:Nat)(n:List Int):List Value:=
 [ZH (P.getD 0 0),ZH (P.getD 1 0),ZH (P.getD 2 0),.slice a b c,ZH (n.getD 0 0),ZH (n.getD 1 0),ZH (n.getD 2 0),ZH (n.getD 3 0),ZH (n.getD 4 0),ZH (n.getD 5 0)]
def LB(n:s.length=i)(P:i<3):(ru s d a c b3).toArray.setIfInBounds i (ZH e)=(ru (s++[e]) d a c b3).toArray:=by
 match s,n with
 |[],n=>subst n;rfl
 |[_],n=>subst n;rfl
 |[_,_],n=>subst n;rfl
 |_::_::_::_,n=>simp at n;omega
def LD(n:b3.length=i)(P:i<6):(ru s d a c b3).toArray.setIfInBounds (4+i) (ZH e)=(ru s d a c (b3++[e])).toArray:=by
 match b3,n with
 |[],n=>subst n;rfl
 |[_],n=>subst n;rfl
 |[_,_],n=>subst n;rfl
 |[_,_,_],n=>subst n;rfl
 |[_,_,_,_],n=>subst n;rfl
 |[_,_,_,_,_],n=>subst n;rfl
 |_::_::_::_::_::_::_,n=>simp at n;omega
def mI(n:Nat)(P:ig):aW (n+1) P=((aW n P).1++[(fr (aW n P).2).1],(fr (aW n P).2).2):=rfl
def OE{D:ZN}(e:Row gl 1 b D d a u)(hD:∀n,D n->n<b.heap.size):
  PP 231 #[.slice d a c] b (Ok λa8 j=>∃a' n' c' w,a8= .tuple #[.agg (aH (iY u).1 a' n' c').toArray,ZH (iY u).2]/\aV aP 3 w j a' n' c' (iY u).1.aN/\ai b j/\∀n,w n->b.heap.size<=n):=by
 refine Iw (PA.mk λw1 k1 s1 g1=>PC.ok (Ex (e.af k1) (λn h=>by have:=hD n h;omega)) ?_);rintro _ g ⟨i,a0,rfl,T,k2,hP⟩;refine⟨_,rfl,PA.mk λw3 U s3 g3=>PA.mk λx y s4 g4=>?_⟩;have c3:=T.self;have h5:w1.heap.size<=i/\i<g.heap.size:=⟨hP i c3,T.aE i c3⟩
 have V:=T.aE;have h3:=k2.size;have d9:=y.get g3 id;have e0:=y.get (U.get (k2.get g1 id) id) id;have e1:=(T.af U).af y;have b1:ai b x:=((k1.then k2).then U).then y;refine⟨λm B j=>∃P:Nat,B=P/\P<=3/\m=3-P/\j.heap[g.heap.size]? =some (.cells (ru (aW P ⟨u,0,0⟩).1 none 0 0 []).toArray 63 (0,0))/\fB j i a0 (aW P ⟨u,0,0⟩).2/\aj (λn=>n=g.heap.size\/n=i) x j,
  ⟨_,0,rfl,oM,rfl,d9,e1,aj.refl _⟩,?_⟩
 rintro m B _ w5 ⟨P,rfl,hj,rfl,c4,c5,k5⟩;have c6:(ig.mk u 0 0).Fit:=⟨Qj _,.inl rfl⟩
 refine al.dec (λN=>?_) (λN=>?_)
 ·have c7:P<3:=oM
  have g5:=k5.get g4 oM;have a1:w5.cell? ⟨w3.heap.size,0+Int.toNat (P:Int),none⟩=some (.pointer (some ⟨g.heap.size,P,none⟩)):=by
   rw[Qx,Xz]
   match P,c7 with
   |0,_=>exact ae g5 rfl
   |1,_=>exact ae g5 rfl
   |2,_=>exact ae g5 rfl
  refine⟨_,_,rfl,oM,oM,_,a1,PC.ok (GC c5) ?_⟩;rintro _ w6 ⟨rfl,O,Q⟩;have W:=Q.get c4 oM;refine⟨_,rfl,_,_,rfl,PS.mk W (by simp[ru];omega) λX C s7 g7=>⟨_,oM,P+1,an oM,oM,rfl,?_,?_,?_⟩⟩
  ·rw[g7,LB (c6.ints P).2.2.1 c7];rfl
  ·rw[mI]
   exact O.keep C λn e r=>by have:=V n e;omega
  ·exact k5.then ((Q.mono λ_ _ h=>.inr h).then (C.mono λ_ _ h=>.inl h))
 obtain rfl:P=3:=oM
 obtain⟨c8,e3,h6,_⟩:=c6.ints 3;refine PC.ok (IN c5) ?_;rintro _ w6 ⟨rfl,O,Q⟩;have W:=Q.get c4 oM;have e4:aj (λn=>n=g.heap.size\/n=i) x w6:=k5.then (Q.mono λ_ _ h=>.inr h);generalize hL:(aW 3 ⟨u,0,0⟩).1=H at W e3;generalize hR:(aW 3 ⟨u,0,0⟩).2=a5 at O c8;obtain⟨Y,e5,c9,_⟩:=c8.count (m:=64) oM;generalize hC:(bD 64 a5).1=I at e5 c9;generalize e6:(bD 64 a5).2=E at O Y;refine⟨_,rfl,λm B j=>∃P:Nat,B=P/\P<=I.toNat/\m=I.toNat-P/\∃s o t w,j.heap[g.heap.size]? =some (.cells (ru H s o t []).toArray 63 (0,0))/\fB j i a0 (aW P E).2/\
   aV aP 3 w j s o t (aW P E).1/\(∀n,w n->x.heap.size<=n)/\aj (λn=>n=g.heap.size\/n=i) x j,
  ⟨_,0,rfl,oM,rfl,none,0,0,λ_=>False,W,O,aV.nil w6,λ_ h=>h.elim,e4⟩,?_⟩
 rintro m B _ X ⟨P,rfl,hj,rfl,s,o,t,w,b8,b9,c1,z,C⟩;have h7:=C.size;refine al.dec (λN=>?_) (λN=>?_)
 ·intro J d0
  have p:ai X J:=d0.keep;have s8:J.heap.size=X.heap.size:=by rw[d0.heap]
  refine⟨λn=>n≠g.heap.size,sM,s,o,t,ae (p.get b8 id) rfl,PC.ok (GC (b9.af p)) ?_⟩;rintro _ K ⟨rfl,Z,v⟩;have b2:=(Y.ints P).2.2.1;refine⟨_,rfl,v.mono (λn _ h=>oM),?_⟩;have L:aV aP 3 w K s o t (aW P E).1:=(c1.af p).keep v λn e r=>by have:=z n e;have:=y.size;omega
  refine PA.mk λA l h8 e7=>⟨l.keep,?_⟩
  have a2:=L.af l;have b0:=v.get (p.get b8 id) oM;have k:=l.get b0 id;have e8:=((Y.ints P).1.int).2.1;have d1:Row aP 8 A (·=K.heap.size) (ZM K.heap.size) 1 [(fr (aW P E).2).1]:=BM (f:=(0,0)) [(fr (aW P E).2).1] e7 (by simpa using e8) sM;refine lK a2 uW d1 (λn r=>⟨oM,?_⟩) (by rw[b2];unfold aT;simp;omega) (by rw[b2];unfold maxLen;simp;omega) λd2 e9 R h9 d3 a3 h4 b3=>?_
  ·intro e2
   have:=L.aE n (L.self n e2);omega
  refine⟨_,_,_,rfl,PS.mk (a3.get k ?_) (by simp[ru]) λi0 c2 i1 f2=>⟨_,oM,P+1,an oM,oM,rfl,d2,o+1,e9,λn=>aG d2=some n,?_,?_,?_,?_,?_⟩⟩
  ·intro r;have:=z _ (L.self _ r);have:=y.size;omega
  ·rw[f2];rfl
  ·rw[mI]
   refine((Z.af l).keep a3 λn e r=>?_).keep c2 λn e r=>?_
   ·have:=z _ (L.self _ r);have:=V n e;have:=y.size;have:=U.size;omega
   ·have:=V n e;omega
  ·have f3:=d3.alone
   rw[mI];refine f3.keep c2 λn e r=>?_;rcases b3 n e with h|h
   ·have:=z n h;have:=y.size;omega
   ·have:=l.size;have:=v.size;have:=p.size;omega
  ·intro n e
   rcases b3 n e with h|h
   ·exact z n h
   ·have:=l.size;have:=v.size;have:=p.size;omega
  ·have ka:aj (λn=>n=g.heap.size\/n=i) x A:=((C.af p).then (v.mono λ_ _ h=>.inr h)).af l
   have kb:aj (λn=>n=g.heap.size\/n=i) x R:=ka.new a3 λn e=>.inr (z n (L.self n e));exact kb.then (c2.mono λ_ _ h=>.inl h)
 obtain rfl:P=I.toNat:=oM
 obtain⟨d4,f4,f6,_⟩:=Y.ints I.toNat;generalize f8:(aW I.toNat E).1=S at c1 f4 f6;generalize g0:(aW I.toNat E).2=q at b9 d4;refine PA.mk λJ p s8 g8=>?_;have g2:=p.get b8 id;have g6:aj (λn=>n=g.heap.size\/n=i) x J:=C.af p;have h0:=c1.af p;have i2:=y.size;refine⟨λm B j=>∃P:Nat,B=P/\P<=6/\m=6-P/\j.heap[g.heap.size]? =some (.cells (ru H s o t (aW P q).1).toArray 63 (0,0))/\fB j i a0 (aW P q).2/\aj (λn=>n=g.heap.size\/n=i) J j,
  ⟨_,0,rfl,oM,rfl,g2,b9.af p,aj.refl _⟩,?_⟩
 rintro m B _ K ⟨P,rfl,hj,rfl,b0,Z,v⟩;refine al.dec (λN=>?_) (λN=>?_)
 ·have d5:P<6:=oM
  have M:=v.get g8 (by have:=C.size;omega);have a1:K.cell? ⟨X.heap.size,0+Int.toNat (P:Int),none⟩=some (.pointer (some ⟨g.heap.size,4+P,none⟩)):=by
   rw[Qx,Xz]
   match P,d5 with
   |0,_=>exact ae M rfl
   |1,_=>exact ae M rfl
   |2,_=>exact ae M rfl
   |3,_=>exact ae M rfl
   |4,_=>exact ae M rfl
   |5,_=>exact ae M rfl
  refine⟨_,_,rfl,oM,oM,_,a1,PC.ok (GC Z) ?_⟩;rintro _ A ⟨rfl,d6,l⟩;have k:=l.get b0 oM;refine⟨_,rfl,_,_,rfl,PS.mk k (by simp[ru];omega) λR F d7 f=>⟨_,oM,P+1,an oM,oM,rfl,?_,?_,?_⟩⟩
  ·rw[f,LD (d4.ints P).2.2.1 d5];rfl
  ·rw[mI]
   exact d6.keep F λn e r=>by have:=V n e;omega
  ·exact v.then ((l.mono λ_ _ h=>.inr h).then (F.mono λ_ _ h=>.inl h))
 obtain rfl:P=6:=oM
 have a6:jN ⟨u,0,0⟩=(⟨H.getD 0 0,H.getD 1 0,H.getD 2 0,S,(aW 6 q).1.getD 0 0,(aW 6 q).1.getD 1 0,(aW 6 q).1.getD 2 0,(aW 6 q).1.getD 3 0,(aW 6 q).1.getD 4 0,(aW 6 q).1.getD 5 0⟩,(aW 6 q).2):=by
  unfold jN;simp only[hL,hR,hC,e6,f8,g0]
 refine PC.ok (MZ Z) ?_;rintro _ A ⟨rfl,d8⟩;have l:ai K A:=d8.keep;have b4:aj (λn=>n=g.heap.size\/n=i) J A:=v.af l;have b5:aj (λn=>n=g.heap.size\/n=i) x A:=g6.then b4;have b6:=b5.get e0 oM;have k:=l.get b0 id;have a2:aV aP 3 w A s o t S:=h0.keep b4 λn e r=>by have:=z n e;omega
 have b7:ai b A:=b1.new b5 λn e=>.inr oM;have a7:ij (jN ⟨u,0,0⟩).2=ij (aW 6 q).2:=by rw[a6]
 refine⟨_,rfl,al.eO (λh2=>?_) (λhe=>?_)⟩
 ·have a4:iY u=(BN,ij (aW 6 q).2):=by unfold iY;rw[a7,Zx h2]
  rw[a4];refine storeAll [ZH 0,ZH 0,ZH 0,.slice none 0 0,ZH 0,ZH 0,ZH 0,ZH 0,ZH 0,ZH 0] b6 rfl λR F d7 f=>?_;refine⟨0,0,0,none,0,0,0,0,0,0,0,0,ae f rfl,ae f rfl,ae f rfl,ae f rfl,ae f rfl,ae f rfl,ae f rfl,ae f rfl,ae f rfl,ae f rfl,Ok.mk ⟨none,0,0,λ_=>False,rfl,aV.nil R,?_,λ_ h=>h.elim⟩⟩;exact b7.new F λn e=>.inr oM
 ·have a4:iY u=((jN ⟨u,0,0⟩).1,0):=by unfold iY;rw[a7,Zq (by simpa using he)]
  rw[a4,a6];refine⟨_,_,_,s,o,t,_,_,_,_,_,_,ae k rfl,ae k rfl,ae k rfl,ae k rfl,ae k rfl,ae k rfl,ae k rfl,ae k rfl,ae k rfl,ae k rfl,?_⟩;refine storeAll (ru H s o t (aW 6 q).1) b6 rfl λR F d7 f=>?_;refine⟨_,_,_,s,o,t,_,_,_,_,_,_,ae f rfl,ae f rfl,ae f rfl,ae f rfl,ae f rfl,ae f rfl,ae f rfl,ae f rfl,ae f rfl,ae f rfl,Ok.mk ⟨s,o,t,w,rfl,a2.keep F λn e r=>?_,?_,λn e=>?_⟩⟩
  ·have:=z n e;omega
  ·exact b7.new F λn e=>.inr oM
  ·have:=z n e;have:=b1.size;omega
end
end Go.Proofs.YtjgjkeponbeekaaGreatDoor
namespace Go.aw
open Go
def fh(n:List UInt8):Nat:=n.foldl (λP a=>P*10+(a.toNat-48)) 0
def gS(n:UInt8):Bool:=decide (48<=n.toNat/\n.toNat<=57)
def gg(n:List UInt8)(P:UInt8):fh (n++[P])=fh n*10+(P.toNat-48):=by simp[fh,List.foldl_append]
variable{e q:Int}{u:List UInt8}{a:Nat}{j:Type}
def wM{n P:List j}(a:n≠[]):(n++P).head? =n.head? :=by
 cases n with
 |nil=>exact Zz rfl a
 |cons b n=>rfl
def uN:∀(n:Nat),fh (Lib.decDigits n)=n/\(Lib.decDigits n).all gS=true/\Lib.decDigits n≠[]/\(n≠0->(Lib.decDigits n).head? ≠some 48):=by
 intro n
 induction n using Nat.strongRecOn with
 |_ n c=>
  rw[Lib.decDigits]
  by_cases a:n<10
  ·rw[dif_pos a]
   have P:(UInt8.ofNat (48+n)).toNat=48+n:=by rw[ZK];omega
   refine⟨by simp[fh];omega,by simp[gS,P];omega,sM,λh=>?_⟩;intro b;simp only[List.head?_cons,Q1]at b;have:=Zj UInt8.toNat b;rw[P]at this;simp at this;omega
  ·rw[dif_neg a]
   obtain⟨d,e,f,g⟩:=c (n/10) oM;have P:(UInt8.ofNat (48+n % 10)).toNat=48+n % 10:=by rw[ZK];omega
   refine⟨by rw[gg,d,P];omega,?_,sM,λ_=>?_⟩
   ·rw[List.all_append,e];simp[gS,P];omega
   ·rw[wM f];exact g oM
def CH:∀{n:List UInt8},n.all gS=true->n≠[]->n.head? ≠some 48->0<fh n:=by
 intro n;generalize P:n.length=e
 induction e generalizing n with
 |zero=>intro _ f;exact Zz (QW P) f
 |succ e g=>
  intro a i b;rcases List.eq_nil_or_concat n with rfl|⟨n,c,rfl⟩
  ·cases P
  rw[List.concat_eq_append]at P a b⊢;rw[List.all_append,QK]at a;have j:48<=c.toNat/\c.toNat<=57:=by simpa[gS]using a.2
  rw[gg]
  by_cases d:n=[]
  ·subst d
   have:c.toNat≠48:=λh=>b (by simp;exact UInt8.toNat_inj.1 h);omega
  ·have:=g (by simpa using P) a.1 d (by rwa [wM d]at b)
   omega
def DV:∀{n:List UInt8},n.all gS=true->n≠[]->(n.head? ≠some 48\/n.length=1)->Lib.decDigits (fh n)=n:=by
 intro n;generalize e:n.length=f
 induction f generalizing n with
 |zero=>intro _ i;exact Zz (QW e) i
 |succ f j=>
  intro a o b;rcases List.eq_nil_or_concat n with rfl|⟨n,P,rfl⟩
  ·cases e
  rw[List.concat_eq_append]at e a b⊢;rw[List.all_append,QK]at a;have p:48<=P.toNat/\P.toNat<=57:=by simpa[gS]using a.2
  have h:UInt8.ofNat (48+(P.toNat-48))=P:=UInt8.toNat_inj.1 (by rw[ZK];omega);rw[gg]
  by_cases c:n=[]
  ·subst c
   have k:fh []*10+(P.toNat-48)=P.toNat-48:=by simp[fh]
   rw[k,Lib.decDigits,dif_pos oM,h]
   rfl
  ·have q:0<n.length:=List.length_pos_iff.2 c
   have g:n.length=f:=by simpa using e
   have d:n.head? ≠some 48:=by
    rcases b with b|b
    ·rwa [wM c]at b
    ·omega
   have r:=CH a.1 c d;rw[Lib.decDigits,dif_neg oM];have l:(fh n*10+(P.toNat-48))/10=fh n:=oM
   have m:(fh n*10+(P.toNat-48)) % 10=P.toNat-48:=oM
   rw[l,m,h,j g a.1 c (.inl d)]
def xZ:∀(n:List UInt8),n.all gS=true->fh n<10 ^ n.length:=by
 intro n;generalize P:n.length=b
 induction b generalizing n with
 |zero=>intro _;have:=QW P;subst this;decide
 |succ b d=>
  intro a;rcases List.eq_nil_or_concat n with rfl|⟨n,c,rfl⟩
  ·cases P
  rw[List.concat_eq_append]at P a⊢;rw[List.all_append,QK]at a;have e:48<=c.toNat/\c.toNat<=57:=by simpa[gS]using a.2
  have:=d n (by simpa using P) a.1;rw[gg,Nat.pow_succ];omega
def pM{u:Nat}(g:u<1000000000000):(Lib.decDigits u).length<=12:=by
 rw[Lib.decDigits_length];apply Nat.le_of_not_lt;intro j
 by_cases h:u=0
 ·subst h;rw[Lib.nDigits_small oM]at j;omega
 ·have s:=Lib.lt_pow_nDigits u
  obtain⟨k,l,m,o⟩:=uN u;have i:=Lib.decDigits_length u;have key:∀(n:List UInt8),n.all gS=true->n≠[]->n.head? ≠some 48->10 ^(n.length-1)<=fh n:=by
   intro n;generalize a:n.length=P
   induction P generalizing n with
   |zero=>intro _ g;exact Zz (QW a) g
   |succ P p=>
    intro b t d;rcases List.eq_nil_or_concat n with rfl|⟨n,v,rfl⟩
    ·cases a
    rw[List.concat_eq_append]at a b d⊢;have e:=b;rw[List.all_append,QK]at b;rw[gg]
    by_cases c:n=[]
    ·subst c
     have:=CH e sM d;rw[gg]at this;have q:P=0:=by simpa using a.symm
     subst q;simp at this⊢;omega
    ·have f:n.length=P:=by simpa using a
     have i:0<n.length:=List.length_pos_iff.2 c;have:=p n f b.1 c (by rwa [wM c]at d);have r:P+1-1=(P-1)+1:=oM
     rw[r,Nat.pow_succ];omega
  have:=key _ l m (o h);rw[k,i]at this;have w:10 ^ 12<=10 ^(Lib.nDigits u-1):=Nat.pow_le_pow_right oM oM;have:(10:Nat) ^ 12=1000000000000:=dC
  omega
def dG:List UInt8:=[115,101,103,46]
def ax(n:Int):List UInt8:=if n<0\/1000000000000<=n then []else dG++Lib.decDigits n.toNat
def jA(n:List UInt8):Option Nat:=if n.take 4=dG/\5<=n.length/\n.length<=16/\(n.drop 4).all gS=true/\((n.drop 4).head? ≠some 48\/n.length=5)then some (fh (n.drop 4))else none
def mN(n:0<=e)(P:e<1000000000000):ax e=dG++Lib.decDigits e.toNat:=by unfold ax;rw[Zq oM]
def pD(P:0<=e)(a:e<1000000000000):jA (ax e)=some e.toNat:=by
 rw[mN P a];obtain⟨b,c,d,f⟩:=uN e.toNat;have j:=pM (u:=e.toNat) oM;have k:0<(Lib.decDigits e.toNat).length:=List.length_pos_iff.2 d;have g:(dG++Lib.decDigits e.toNat).drop 4=Lib.decDigits e.toNat:=rfl;have h:(dG++Lib.decDigits e.toNat).take 4=dG:=rfl;have i:(dG++Lib.decDigits e.toNat).length=4+(Lib.decDigits e.toNat).length:=by rw[QX];rfl
 unfold jA;rw[g,h,i,b,Zx];refine⟨rfl,oM,oM,c,?_⟩
 by_cases n:e.toNat=0
 ·right
  rw[n,Lib.decDigits_length,Lib.nDigits_small oM]
 ·exact .inl (f n)
def Cj(n:jA u=some a):ax a=u/\a<1000000000000:=by
 unfold jA at n;split at n
 ·rename_i d
  obtain⟨e,h,i,P,f⟩:=d;simp only[Q1]at n;have b:(u.drop 4).length=u.length-4:=sM
  have j:=xZ _ P;have k:10 ^(u.drop 4).length<=10 ^ 12:=Nat.pow_le_pow_right oM oM;have l:(10:Nat) ^ 12=1000000000000:=dC
  have g:a<1000000000000:=oM
  refine⟨?_,g⟩;rw[mN oM oM,<-n,Qx,DV P (λc=>by rw[c]at b;simp at b;omega) (f.imp id λc=>oM),<-e,ZX]
 ·cases n
def Jj(b:0<=e)(P:e<1000000000000)(n:ax q=ax e):q=e:=by
 have a:=pD b P
 by_cases c:q<0\/1000000000000<=q
 ·unfold ax at n
  rw[Zx c,Zq oM]at n;exact Zz (Zj List.length n) (by simp[dG])
 ·rw[<-n,pD oM oM]at a
  simp only[Q1]at a;omega
def CG(n:Int):(ax n).length<=16:=by
 unfold ax;split
 ·simp
 ·have:=pM (u:=n.toNat) oM
  rw[QX];show 4+_<=16;omega
def Hm(b:u.all gS=true)(c:u.length<=12):jA (dG++u)=if ax (fh u)=dG++u then some (fh u)else none:=by
 have e:=xZ _ b;have f:10 ^ u.length<=10 ^ 12:=Nat.pow_le_pow_right oM c;have g:(10:Nat) ^ 12=1000000000000:=dC
 split
 ·rename_i P
  rw[<-P,pD oM oM,Qx]
 ·rename_i P
  cases n:jA (dG++u)with
  |none=>rfl
  |some d=>
   obtain⟨a,h⟩:=Cj n;have:d=fh u:=by
    unfold jA at n;split at n
    ·exact(XJ n).symm
    ·cases n
   rw[this]at a;exact Zz a P
def JR(P:u.all gS=false):jA (dG++u)=none:=by
 unfold jA;rw[Zq];rintro⟨_,_,_,n,_⟩;have:(dG++u).drop 4=u:=rfl;rw[this,P]at n
 cases n
def Py(n:u.take 4≠dG):jA u=none:=by
 unfold jA;rw[Zq λP=>n P.1]
def Ms(n:16<u.length):jA u=none:=by
 unfold jA;rw[Zq λP=>oM]
end Go.aw
namespace Go.Proofs.YtjgjkeponbeekaaGreatDoor
open Go.aw
def pick(P n:Int):Int:=if n<1 then 0 else if P.tmod n<0 then P.tmod n+n else P.tmod n
end Go.Proofs.YtjgjkeponbeekaaGreatDoor
namespace Go.Proofs
open Go.RowKit Go.Maps Go.Sort Go.Shelf
def Tryz.Vy(b:Nat):AnyZ.SortsIn Tryz.prog Tryz.yr Fence.wide b:=
 ⟨λaG P n c a d e f=>callsIn_wide.2 (AnyM.slices_Sort_string Tryz.UG aG P n c a d e f),
  λg n a=>callsIn_wide.2 (AnyM.slices_Sort_string_none Tryz.UG g n a)⟩
end Go.Proofs
namespace Go.Proofs.YtjgjkeponbeekaaGreatDoor
section
open Go.aw
open Go.RowKit Go.Maps Go.Sort Go.Shelf
def Zs(n P:ByteArray):Bool:=decide (n.data.toList<=P.data.toList)
def tq(n:List ByteArray):List ByteArray:=n.mergeSort Zs
def Oy(P:List ByteArray):(tq P).map (λn=>n.data.toList)=(P.map λn=>n.data.toList).mergeSort (λn a=>decide (n<=a)):=
 List.map_mergeSort (λb _ c _=>rfl)
def bV.UH{a:Type}{n:a->Value}{b:a->Prop}{hl h1}{d:World}{D:ZN}:∀{P:List a},(∀x∈P,b x)->bV (flat 1 (λx=>[n x]) b hl h1) d D P (P.map n)
 |[],_=>rfl
 |x::P,c=>⟨[n x],P.map n,rfl,⟨rfl,c x (QV ..)⟩,bV.UH λe f=>c e (QJ _ f)⟩
variable{f4:List (ByteArray×Value)}{a c:Nat}{E:Nat×Nat}{g:TypeId}{b:World}
def zU(i:bQ b a Value.string f4)(I:∀f∈f4,f.1.size<=maxLen)(y:f4.length*16<=aT)(z:b.heap[c]? =some (.cells #[.map (some a)] g E)):
  PP 222 #[.func (.func 282) #[] #[ZL c]] b
   (Ok (qC Oz 9 b (tq (f4.map (·.1))))):=by
 unfold aT at y;obtain⟨d,h,J,p,K,L⟩:=i.at';have M:Tryz.prog.underlying 9=some .string:=Tryz.underlying9;have N:d.size=f4.length:=by have:=Zj List.length p;simpa using this
 have A:∀P∈d.toList,∃n:ByteArray,P.key=Value.string n/\n.size<=maxLen:=λP e=>by
  have O:(P.key,P.val)∈f4.map (λf=>(Value.string f.1,f.2)):=by rw[<-p];exact Xk.2 ⟨P,e,rfl⟩
  obtain⟨f,Q,R⟩:=Xk.1 O;exact⟨f.1,(Prod.mk.inj R).1.symm,I f Q⟩
 have B:∀P∈d.toList,∀n:ByteArray,P.key=Value.string n->n.size<=maxLen->WideElems.rd ZP 9 (λ_=>some ((.nil:DataW Unit),[])) P=some (.string n.data.toList,.nil):=λP _ n k m=>by
  simp[WideElems.rd,k,Go.WideMaps.keyOf_string_mk M m]
 have S:WideElems.Fit ZP 9 (λ_=>some ((.nil:DataW Unit),[])) d h:=by
  refine⟨by unfold maxLen;omega,⟨K,L,?_⟩,λP e=>?_⟩
  ·have:d.toList.map (·.key)=(f4.map (·.1)).map Value.string:=by
    have:=Zj (List.map (λs:Value×Value=>s.1)) p;simpa[Function.comp_def]using this
   rw[this];exact List.pairwise_map.2 (List.Pairwise.imp (λT=>by simpa using T) i.tidy)
  ·obtain⟨n,k,m⟩:=A P e
   exact⟨_,B P e n k m⟩
 have U:b.ownsMap ZP 9 (λ_=>some ((.nil:DataW Unit),[])) a d.size (.map ((d.toList.map (WideElems.rg ZP 9 (λ_=>some ((.nil:DataW Unit),[])))).foldr DataW.insert [])):=
  ⟨d,h,J,S,Q4 _,rfl⟩
 have C:Maps.size (.map ((d.toList.map (WideElems.rg ZP 9 (λ_=>some ((.nil:DataW Unit),[])))).foldr DataW.insert []))=f4.length:=by
  show(List.foldr DataW.insert [] _).length=_;rw[(WideShapes.sorted_perm _).length_eq];simp[N]
 have V:(strKeys (.map ((d.toList.map (WideElems.rg ZP 9 (λ_=>some ((.nil:DataW Unit),[])))).foldr DataW.insert []))).Perm ((f4.map (·.1)).map λn=>n.data.toList):=by
  refine(List.Perm.map (λf:Lit×DataW Unit=>Go.strOf f.1) (WideShapes.sorted_perm _)).trans ?_;have:(d.toList.map (WideElems.rg ZP 9 (λ_=>some ((.nil:DataW Unit),[])))).map (λf=>Go.strOf f.1)=(f4.map (·.1)).map λn=>n.data.toList:=by
   have W:d.toList.map (λP=>match P.key with| .string n=>n.data.toList|_=>[])=(f4.map (·.1)).map λn=>n.data.toList:=by
    have:=Zj (List.map (λs:Value×Value=>match s.1 with| .string n=>n.data.toList|_=>[])) p;simpa[Function.comp_def]using this
   rw[<-W,List.map_map];refine List.map_congr_left λP e=>?_;obtain⟨n,k,m⟩:=A P e;simp[WideElems.rg,B P e n k m,k,Go.strOf]
  rw[this]
 have X:SeqGives Fence.wide 1 ZP 282 #[ZL c] encStr (λl=>l.Perm (strKeys _)) (Maps.size _) b:=
  AnyZ.keys_gives (ρ:=Tryz.Et) {Tryz.tr with} Fence.wide _ trivial rfl oM c a d.size _ b (aA z) (ae z rfl) U
 have Y:=AnyZ.sorted_in Tryz.TD Fence.wide 4 trivial trivial trivial trivial rfl oM (Tryz.Vy _) (enters_of Tryz.func281 kR rfl) 282 #[ZL c] trivial
  (enters_of Tryz.func282 kR rfl) _ _ (by rw[C];unfold maxLen;omega) (by rw[C];exact y) b X
 refine((callsIn_wide (n:=4)).1 Y).mono ?_;rintro P Z ⟨a0,l,rfl,hS,q,a7,t⟩;have F:l.mergeSort (λn u=>decide (n<=u))=(tq (f4.map (·.1))).map λn=>n.data.toList:=by rw[Oy];exact Go.mergeSort_of_perm (hS.trans V)
 have a8:l.length=(tq (f4.map (·.1))).length:=by
  have:=Zj List.length F;simpa using this
 have a1:((l.mergeSort (λn u=>decide (n<=u))).map encStr)=(tq (f4.map (·.1))).map Value.string:=by
  rw[F,List.map_map];refine List.map_congr_left λn _=>?_;show Value.string ⟨n.data.toList.toArray⟩=Value.string n;simp
 rw[a1]at q;have hv:∃o v,a0= .slice o l.length v:=by
  rcases q.2 with⟨rfl,h0⟩|⟨g',w,x,rfl,_⟩
  ·exact⟨none,0,by rw[h0]⟩
  ·exact⟨_,_,rfl⟩
 obtain⟨o,v,rfl⟩:=hv;have H:∀j,aG o=some j->b.heap.size<=j/\j<Z.heap.size:=λj r=>by
  rcases q.2 with⟨e,_⟩|⟨g',w,x,e,a9,a6,_⟩
  ·simp only[XX]at e
   rw[e.1]at r;cases r
  ·simp only[XX]at e
   rw[e.1]at r;simp only[aG,Q1]at r;have:=aA a6;omega
 exact Ok.mk ⟨o,_,v,λj=>aG o=some j,rfl,⟨⟨_,λ_=>False,⟨ownsRow_base_a q (Qj _)⟩,bV.UH (λ_ _=>trivial),λ_ i=>i.elim⟩,λ_ i=>i,λj i=>(H j i).2⟩,aj.HF t,λj i=>(H j i).1⟩
end
section
open Go.aw
def kS:ji ZP 9 Value.string:=YC Tryz.underlying9
def mF:mQ ZP 141 9 236 (.pointer none):=⟨kR,kR⟩
def uF:Tryz.prog.underlying 236=some (.pointer 239):=kR
def ak.room(D:ak):Int:=(D.most:Int)-D.used
def ak.op(D:ak)(n:ak->Int×ak):Int×ak:=if D.dies then(15,D.gone)else n D.cR
def ak.BF(P:ByteArray)(n:ak->bS->Int×ak)(D:ak):Int×ak:=match aq D.files P with
 |none=>(14,D)
 |some a=>n D a
def ak.create(D:ak)(n:ByteArray):Int×ak:=D.op λD=>if cY n then(if(aq D.files n).isSome then(16,D)else if 64<=D.files.length then(12,D)else(0,D.fG n ⟨[],0,false⟩))else(1,D)
def ak.append(D:ak)(n:ByteArray)(P:List UInt8):Int×ak:=D.op (ak.BF n λD a=>if(P.length:Int)>D.room then(12,D)else(0,D.fG n {a with bytes:=a.bytes++P}))
def ak.sync(D:ak)(n:ByteArray):Int×ak:=D.op (ak.BF n λD P=>(0,D.fG n (P.cut P.bytes.length)))
def ak.oh(D:ak)(k:ByteArray)(n:Int):Int×ak:=D.op (ak.BF k λD P=>(0,D.fG k (P.cut n)))
def ak.delete(D:ak)(n:ByteArray):Int×ak:=D.op (ak.BF n λD P=>(0,D.vL n))
def ak.rename(D:ak)(n P:ByteArray):Int×ak:=D.op (ak.BF n λD a=>if cY P then(0,(D.vL n).fG P {a with jM:=true})else(1,D))
def ak.read(D:ak)(k:ByteArray):List UInt8×Int:=if D.dead then([],15)else match aq D.files k with
 |none=>([],14)
 |some n=>(n.bytes,0)
def ak.list(D:ak):List ByteArray:=tq (D.files.map (·.1))
def eC(D:ak):D.cR.files=D.files:=by unfold ak.cR;split<;>rfl
def vN(b:World)(c:Nat)(d:ZN)(n:Int×ak)(e:Value)(P:World):Prop:=∃a,e= ZH n.1/\aU P c a n.2/\cu d b a P
variable{Y m:Array Value}{w:ByteArray}{e:Int}{d3:Int×ak}{a3:List (ByteArray×oq)}{a c:Nat}{f:ZN}{j:Type}{b k:World}{y:ZU}{W:bS}
def vN.same{D:ak}(n:aU k a f D)(P:aj f b k):vN b a f (e,D) (ZH e) k:=⟨f,rfl,n,P,λ_ n=>.inl n⟩
def MY{D:ak}(P:aU b a f D){g:FuncId}{body:ak->Int×ak}(c:enters ZP g=true)(d:D.dies=false->∀n,aU n a f D.cR->aj f b n->PP g (m++ #[]++Y) n (Ok (vN n a f (body D.cR)))):
  PP 233 #[ZL a,.func (.func g) m Y] b (Ok (vN b a f (D.op body))):=by
 refine Calls.ok (Ly P (e:=(body D.cR).1) (D':=(body D.cR).2) c λe n h i o=>d e n h i) ?_;rintro p q ⟨j,k,r,l⟩;refine⟨j,?_,?_,l⟩
 ·rw[k];unfold ak.op;split<;>rfl
 ·unfold ak.op;split<;>simp_all
def vO{D:ak}(d:aU b a f D){k:ByteArray}{g:FuncId}{body:ak->bS->Int×ak}(C:enters ZP g=true)(E:D.dies=false->∀e j l n,fA e a f D.cR j l->aq l k=some n->aj f b e->PP g (m++ #[ptr n.q]++Y) e (Ok (vN e a f (body D.cR n.f)))):
  PP 210 #[ZL a,.string k,.func (.func g) m Y] b (Ok (vN b a f (D.op (ak.BF k body)))):=by
 refine zM (PA.mk λe F V z=>PA.mk λH r W I=>PA.mk λA o X J=>?_);have s:ai b A:=(F.af r).af o;have K:=d.af s;have t:=d.aE;refine⟨_,ae (o.get (r.get z id) id) rfl,PC.ok (MY K (body:=ak.BF k body) kR λL P B p=>?_) ?_⟩
 ·obtain⟨j,l,h⟩:=B.open
  have M:P.heap[b.heap.size]? =_:=p.get (o.get (r.get z id) id) (λi=>by have:=t _ i;omega);have N:P.heap[e.heap.size]? =_:=p.get (o.get I id) (λi=>by have:=t _ i;omega);have O:P.heap[H.heap.size]? =_:=p.get J (λi=>by have:=t _ i;omega);refine vD ⟨_,ae M rfl,a,0,rfl,some j,ae h.head rfl,_,ae N rfl,?_⟩;rcases h.box k with⟨u,v⟩|⟨n,Q,Z,u,v⟩
  ·refine⟨none,λw=>?_,λq c=>?_⟩
   ·have:=eI mF kS (h.map.keep (aj.drewN (S:=λ_=>False) P w) id) k false
    simpa[v]using this
   ·refine AE uF ⟨_,rfl,al.ff rfl (Ok.mk ?_)⟩
    have:ak.BF k body D.cR=(14,D.cR):=by unfold ak.BF;rw[u]
    rw[this];exact vN.same (B.af c.keep) c.keep
  ·refine⟨ZM n.q,λw=>?_,λq c=>?_⟩
   ·have:=eI mF kS (h.map.keep (aj.drewN (S:=λ_=>False) P w) id) k false
    simpa[v,ptr]using this
   ·refine AE uF ⟨_,rfl,al.tt rfl ⟨_,ae (c.keep (S:=λ_=>False)|>.get O id) rfl,g,m,Y,rfl,C,?_⟩⟩
    have R:aj f b q:=((s.keep (S:=f)).then p).af c.keep;refine PC.ok (E L q j l n (h.af c.keep) Q R) ?_;rintro S w6 ⟨x,rfl,T,y⟩;have:ak.BF k body D.cR=body D.cR n.f:=by unfold ak.BF;rw[u]
    refine⟨_,rfl,Ok.mk ?_⟩;rw[this];exact⟨x,rfl,T,(cu.mk c.keep λ_ d=>.inl d:cu f P f q).trans y⟩
 ·rintro S P ⟨x,rfl,U,y⟩
  exact⟨_,rfl,Ok.mk ⟨x,rfl,U,(cu.mk s.keep λ_ d=>.inl d:cu f b f A).trans y⟩⟩
def ak.Ok.set{D:ak}(n:D.Ok){b P:bS}(a:aq D.files w=some b)(c:P.bytes.length+D.used<=b.bytes.length+D.most)(d:P.synced<=P.bytes.length):(D.fG w P).Ok:=by
 have e:=cm a;refine⟨n.most,?_,?_,n.tidy.aI _ _,?_,?_,n.BG,n.BH⟩
 ·have:=yt (l:=D.files) (k:=w) (f:=P)
  rw[a]at this;simp only[Option.map_some,Option.getD_some]at this;show eY (aI D.files w P)<=D.most;unfold ak.used at c;omega
 ·show(aI D.files w P).length<=64
  rw[xF (by rw[a];rfl)];exact n.many
 ·intro x j
  rcases gq n.tidy j with rfl|⟨j,_⟩
  ·show cY w=true
   exact n.names _ e
  ·exact n.names x j
 ·intro x j
  rcases gq n.tidy j with rfl|⟨j,_⟩
  ·exact d
  ·exact n.SU x j
def ak.Ok.del{D:ak}(n:D.Ok)(P:ByteArray):(D.vL P).Ok:=by
 have d:=IJ D.files P;have e:=yu (l:=D.files) (k:=P);have c:=n.fits;have f:=n.many;unfold ak.used at c;exact⟨n.most,by show eY (bL D.files P)<=D.most;omega,by show(bL D.files P).length<=64;omega,n.tidy.bL P,λa b=>n.names a (gN b),λa b=>n.SU a (gN b),n.BG,n.BH⟩
def ak.Ok.put{D:ak}(n:D.Ok)(b:cY w=true)(c:W.bytes.length+D.used<=D.most)(e:D.files.length<64)(d:W.synced<=W.bytes.length):(D.fG w W).Ok:=by
 refine⟨n.most,?_,?_,n.tidy.aI _ _,?_,?_,n.BG,n.BH⟩
 ·have:=yt (l:=D.files) (k:=w) (f:=W)
  show eY (aI D.files w W)<=D.most;unfold ak.used at c;omega
 ·have:=ye D.files w W
  show(aI D.files w W).length<=64;omega
 ·intro a P
  rcases gq n.tidy P with rfl|⟨P,_⟩
  ·exact b
  ·exact n.names a P
 ·intro a P
  rcases gq n.tidy P with rfl|⟨P,_⟩
  ·exact d
  ·exact n.SU a P
def xG{l:List (ByteArray×j)}{k:ByteArray}(n:(aq l k).isSome=true):(bL l k).length+1=l.length:=by
 induction l with
 |nil=>simp[aq]at n
 |cons P l a=>
  obtain⟨c,d⟩:=P;simp only[bL,aq]at n⊢;split
  ·rfl
  ·rename_i b
   rw[Zq b]at n;simp[a n]
def xH(P:List (ByteArray×j))(a:ByteArray)(c b:j):aI (aI P a c) a b=aI P a b:=by
 induction P with
 |nil=>simp[aI]
 |cons d P e=>
  obtain⟨f,g⟩:=d;simp only[aI]
  by_cases n:(a==f)=true
  ·rw[Zx n,Zx n];simp[aI]
  ·rw[Zq n,Zq n];simp[aI,n,e]
def eH.TF{G:ZN}(P:eH b a G W)(c:∀n,eH n a G {W with jM:=true}->aj (·=a) b n->n.heap.size=b.heap.size->y n):PS b ⟨a,0+2,none⟩ (.bool true) y:=by
 obtain⟨i,j,d,k,l,m,o,f⟩:=P.body;refine PS.mk l sM λp g q r=>c p ⟨⟨i,j,d,k,r,m.keep g (λh e s=>f (s▸e)),o,f⟩,P.self,λh e=>by have:=P.aE h e;omega⟩ g q
def ak.Ok.cut{D:ak}(P:D.Ok)(a:aq D.files w=some W)(n:Int):(D.fG w (W.cut n)).Ok:=by
 have b:=TE W n;have c:=om n W.bytes.length;have d:=P.fits;exact P.set a oM (by rw[b];exact Q4 _)
def fA.get{D:ak}(P:fA b a f D c a3){n:oq}(d:aq a3 w=some n):aq D.files w=some n.f:=by
 rw[P.files];have:=BJ (λn:oq=>n.f) a3 w;rw[d]at this;exact this
def mG(P:Value)(c:World)(e:ai k b)(n:vN b a f d3 P c):∃d:Int,P= ZH d/\Ok (vN k a f d3) (.returned (ZH d)) c:=by
 obtain⟨g,rfl,h,i⟩:=n;exact⟨_,rfl,Ok.mk ⟨g,rfl,h,(cu.mk e.keep λ_ n=>.inl n:cu f k f b).trans i⟩⟩
def Ev{D:ak}(P:aU b a f D){k:ByteArray}:
  PP 172 #[ZL a,.string k] b (Ok (vN b a f (D.sync k))):=by
 refine vx (PC.ok (vO P (k:=k) (g:=236) (body:=λD d=>(0,D.fG k (d.cut d.bytes.length))) kR λv w x y i n c z=>?_) λj l P=>mG j l (aj.refl b) P);have e:=n.each.each _ (cm c);have g:=n.get c;obtain⟨A,B,m,C,o,p,E,F⟩:=e.body;have q:=p.len dC;refine sT ⟨i.q,0,rfl,_,_,_,ae o rfl,PC.ok (BK e (n.ok.len (cm g))) ?_⟩;rintro _ H ⟨I,rfl,h,r⟩;rw[q]at h;obtain⟨s,t,u⟩:=n.fk c h r (n.ok.cut g _);exact⟨rfl,Ok.mk ⟨s,rfl,t.at,u⟩⟩
def Ro{D:ak}(P:aU b a f D):
  PP 169 #[ZL a,.string w,ZH e] b (Ok (vN b a f (D.oh w e))):=by
 refine xu (PA.mk λu d v h=>PC.ok (vO (P.af d) (k:=w) (g:=232) (body:=λD i=>(0,D.fG w (i.cut e))) kR λx y z A B n c j=>?_) λk l P=>mG k l d P);have m:=n.each.each _ (cm c);have g:=n.get c;refine uu ⟨_,ae (j.get h λo=>by have:=P.aE _ o;omega) rfl,PC.ok (BK m (n.ok.len (cm g))) ?_⟩;rintro _ C ⟨E,rfl,p,q⟩;obtain⟨r,s,t⟩:=n.fk c p q (n.ok.cut g _);exact⟨rfl,Ok.mk ⟨r,rfl,s.at,t⟩⟩
def yv{D:ak}(n:aU b a f D):
  PP 141 #[ZL a,.string w] b (Ok (vN b a f (D.delete w))):=by
 refine sO (PA.mk λx g y h=>PA.mk λz d A i=>⟨_,ae (d.get h id) rfl,_,ae i rfl,PC.ok (vO ((n.af g).af d) (k:=w) (g:=211) (body:=λD B=>(0,D.vL w)) kR λC m o E F p H j=>?_) λq r n=>mG q r (g.af d) n⟩);have s:=j.get (d.get h id) λP=>by have:=n.aE _ P;omega
 have t:=j.get i λP=>by have:=n.aE _ P;omega
 refine qq λu k=>?_;have c:=p.af k.keep;have e:ai m u:=k.keep;refine⟨_,ae (e.get s id) rfl,a,0,rfl,some o,ae c.head rfl,w,ae (e.get t id) rfl,Lz mF kS c.map λI v l J=>Ok.mk ⟨f,rfl,(c.drop v l (c.ok.del w)).at,?_,λ_ n=>.inl n⟩⟩;exact e.keep.then (l.mono λK _ P=>by rw[P];exact c.Fr)
def IK{D:ak}(c:aU b a f D){k e:ByteArray}:
  PP 182 #[ZL a,.string k,.string e] b (Ok (vN b a f (D.rename k e))):=by
 refine sS (PA.mk λw1 J s1 K=>PA.mk λX o s2 L=>PA.mk λw3 g s3 Y=>⟨_,ae (g.get (o.get K id) id) rfl,_,ae (g.get L id) rfl,PC.ok (vO (((c.af J).af o).af g) (k:=k) (g:=242)
  (body:=λD Z=>if cY e then(0,(D.vL k).fG e {Z with jM:=true})else(1,D)) kR λhd s t b1 x d M u=>?_) λa0 w' c=>mG a0 w' ((J.af o).af g) c⟩)
 have h:=u.get (g.get (o.get K id) id) λn=>by have:=c.aE _ n;omega
 have v:=u.get (g.get L id) λn=>by have:=c.aE _ n;omega
 have N:=u.get Y λn=>by have:=c.aE _ n;omega
 have w:=cm M;have y:=d.get M;refine qv ⟨_,ae N rfl,PC.ok vP ?_⟩;rintro _ w5 ⟨rfl,z⟩;refine⟨_,rfl,al.not (al.mk (λp=>λw6 a6=>?_) (λp=>Ok.mk ?_))⟩
 ·have i:ai s w6:=z.af a6.keep
  have q:=d.af i;refine⟨_,ae (i.get h id) rfl,a,0,rfl,some t,ae q.head rfl,_,ae (i.get v id) rfl,Lz mF kS q.map λw7 a7 A b8=>λB C=>?_⟩;have a8:=q.drop a7 A (q.ok.del k);have E:=a8.af C.keep;have O:∀P,P=t->f P:=λP n=>by rw[n];exact d.Fr
  have F:aj f s B:=(i.keep.then (A.mono λP _ n=>O P n)).af C.keep;have Q:∀{P:Nat} {R:Obj},s.heap[P]? =some R->b.heap.size<=P->B.heap[P]? =some R:=λn b9=>F.get n λhF=>by have:=c.aE _ hF;omega
  have j:=d.II _ w;have S:eH B (oq.q x) (oq.G x) (oq.f x):=(((d.each.each _ w).keep i λ_ _ c=>c).keep A λP n=>(j P n).2.2).keep C.keep λ_ _ c=>c;have a1:b.heap.size<=X.heap.size:=oM
  refine⟨_,ae (Q h (Q4 _)) rfl,a,0,rfl,some t,ae E.head rfl,e,ae (Q N a1) rfl,dy mF kS E.map λw9 a9 H c2=>⟨x.q,0,rfl,?_⟩⟩;have b0:=d.ok.fits;have T:=yu (l:=D.cR.files) (k:=k);rw[y]at T;simp only[Option.map_some,Option.getD_some]at T;have b6:=xG (l:=D.cR.files) (k:=k) (by rw[y];rfl);have b7:=d.ok.many;have a2:=d.ok.SU _ (cm y);have U:∀l:bS,l.bytes=x.f.bytes->l.synced=x.f.synced->((D.cR.vL k).fG e l).Ok:=λl h v=>(d.ok.del k).put p (by
   show l.bytes.length+eY (bL D.cR.files k)<=D.cR.most;unfold ak.used at b0;rw[h];omega) (by show(bL D.cR.files k).length<64;omega) (by rw[h,v];exact a2)
  have b2:=E.put (q:=x.q) (G':=x.G) a9 H S (λa3 hy c3 P n b3=>by
   obtain⟨b4,b5⟩:=GA d.each.tidy hy;exact d.each.apart _ w a3 b4 (λI=>b5 I.symm) P n b3) (λP n=>(j P n).2) (U x.f rfl rfl)
  have V:eH w9 x.q x.G x.f:=S.keep H λP n=>(j P n).2.2;refine V.TF λc4 a4 a5 c0=>Ok.mk ?_;obtain⟨F',m,W⟩:=b2.fk (k:=e) (x:=⟨x.q,x.G,x.f⟩) (by rw[bB];simp) a4 ⟨a5.mono λP _ n=>n▸V.self,λ_ c=>.inl c⟩ (by
   unfold ak.fG;simp only[xH];exact U {x.f with jM:=true} rfl rfl)
  rw[p,Zx rfl];have I:((D.cR.vL k).fG e x.f).fG e {x.f with jM:=true}=(D.cR.vL k).fG e {x.f with jM:=true}:=by
   unfold ak.fG;simp only[xH]
  refine⟨F',rfl,by rw[<-I];exact m.at,⟨?_,λP n=>?_⟩⟩
  ·exact(F.then (H.mono λP _ n=>O P n)).then (W.keep.mono λP _ n=>n.elim id λc=>(j P c).1)
  ·rcases W.new P n with(r|r)|r
   ·exact .inl r
   ·exact .inl (j P r).1
   ·have:=F.size;exact .inr oM
 ·rw[p];exact⟨f,rfl,(d.af z).at,z.keep,λ_ c=>.inl c⟩
def yw{D:ak}(n:aU b a f D):
  PP 170 #[ZL a,.string w] b (Ok (vN b a f (D.create w))):=by
 refine sR (PA.mk λw1 H s1 I=>PA.mk λw2 m s2 N=>⟨_,ae (m.get I id) rfl,PC.ok (MY ((n.af H).af m) (g:=234)
  (body:=λD=>if cY w then(if(aq D.files w).isSome then(16,D)else if 64<=D.files.length then(12,D)else(0,D.fG w ⟨[],0,false⟩))else(1,D)) kR λhd r O s=>?_) λQ R n=>mG Q R (H.af m) n⟩)
 obtain⟨e,t,P⟩:=O.open;have u:=s.get (m.get I id) λc=>by have:=n.aE _ c;omega
 have v:=s.get N λc=>by have:=n.aE _ c;omega
 refine qu ⟨_,ae v rfl,PC.ok vP ?_⟩;rintro _ x ⟨rfl,g⟩;refine⟨_,rfl,al.not (al.mk (λh=>?_) (λh=>Ok.mk ?_))⟩
 ·have y:=P.af g
  have J:∀k,(Instr.lookup 141 (.map (some e)) (.string w) false).run ZP (x.drewN k)= .ok ((aq (t.map eD) w).getD (.pointer none)) (x.drewN k):=λk=>by
   have:=eI mF kS (y.map.keep (aj.drewN (S:=λ_=>False) x k) id) w false;simpa using this
  have S:∃i:WP,(aq (t.map eD) w).getD (.pointer none)= .pointer i/\i.isSome=(aq D.cR.files w).isSome:=by
   rcases P.box w with⟨z,A⟩|⟨T,b0,bm,z,A⟩
   ·exact⟨none,by rw[A];rfl,by rw[z];rfl⟩
   ·exact⟨ZM T.q,by rw[A];rfl,by rw[z];rfl⟩
  obtain⟨i,U,B⟩:=S;rw[U]at J;refine⟨_,ae (g.get u id) rfl,a,0,rfl,some e,ae y.head rfl,w,ae (g.get v id) rfl,i,J,i.isSome,λk=>qD uF _ _ i _,λV C=>al.mk (λW=>Ok.mk ?_) (λK=>?_)⟩
  ·rw[h,Zx rfl,Zx (by rw[<-B];exact W)]
   exact⟨f,rfl,(y.af C.keep).at,ai.keep (g.af C.keep),λ_ n=>.inl n⟩
  ·have o:ai r V:=g.af C.keep
   have E:=P.af o;have a8:(t.map eD).length=D.cR.files.length:=by rw[P.files];simp
   refine⟨_,ae (o.get u id) rfl,a,0,rfl,some e,ae E.head rfl,Vz mF E.map ⟨_,rfl,al.dec (λa9=>Ok.mk ?_) (λb3=>λl X=>?_)⟩⟩
   ·rw[h,Zx rfl,Zq (by rw[<-B,K];simp),Zx oM]
    exact⟨f,rfl,E.at,o.keep,λ_ n=>.inl n⟩
   ·have j:ai r l:=o.af X.keep
    have p:=P.af j;have b4:=P.map.lt;have b5:=aA P.head;have a7:b.heap.size<=r.heap.size:=by have:=s.size;omega
    have L:∀d,b.heap.size<=d->d≠e:=λd c a2=>by have:=n.aE e P.Fr;omega
    refine⟨(·=e),L _ (Q4 _),_,ae (j.get u id) rfl,a,0,rfl,P.pr,some e,ae p.head rfl,L _ oM,w,ae (j.get v id) rfl,PA.mk λM q s7 Y=>⟨q.keep,dy mF kS (p.af q).map λw8 Z F b6=>⟨F,Ok.mk ?_⟩⟩⟩;have a3:=p.af q;have a0:eH M l.heap.size (·=l.heap.size) ⟨[],0,false⟩:=⟨⟨none,0,0,λ_=>False,Y,aV.nil M,λ_ n=>n.elim,λn=>n⟩,rfl,λd c=>oM⟩
    have a4:(D.cR.fG w ⟨[],0,false⟩).Ok:=P.ok.put h (by have:=P.ok.fits;simpa using this) oM (Q4 _);have a5:=a3.put (q:=l.heap.size) (G':=(·=l.heap.size)) Z F a0 (λa1 hy _ d c a6=>by have:=(p.each.each a1 hy).aE d a6;omega) (λd c=>by have:=j.size;omega) a4;rw[h,Zx rfl,Zq (by rw[<-B,K];simp),Zq oM];refine⟨_,rfl,a5.at,⟨(j.keep.af q).then (F.mono λd _ c=>by rw[c];exact P.Fr),λd c=>c.imp id λn=>by have:=j.size;omega⟩⟩
 ·rw[h]
  exact⟨f,rfl,(P.af g).at,g.keep,λ_ n=>.inl n⟩

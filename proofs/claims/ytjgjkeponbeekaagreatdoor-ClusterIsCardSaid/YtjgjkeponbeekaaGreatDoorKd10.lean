import Derived.Test.YtjgjkeponbeekaaGreatDoorKd9
import Derived.Maps.RangeRun
import Derived.Laws.RangeAny
import Derived.Laws.Runes
import Derived.Lib.AppendZeros
import Derived.StringKeys
set_option linter.all false
set_option maxHeartbeats 4000000
set_option maxRecDepth 100000
open Go.IntKind renaming wrap→ZG
namespace Go.ar
open Go
instance:LawfulBEq ByteArray where
 eq_of_beq:=λ{a b} h=>ByteArray.ext (eq_of_beq (show(a.data==b.data)=true from h))
 rfl:=λ{a}=>show(a.data==a.data)=true from by simp
variable{x:ByteArray}{a:Nat}{h:Program}{g:TypeId}{p u:ZR}
def Xm(n:h.underlying g=some .string):iK h g Value.string:=
 iK.flat n (λP b=>rfl) (λa c d e=>by simp[Instr.checkKey,run_underlying n]) λa P=>by simp[Instr.sameBits]
structure cD {κ:Type} (w:World) (it r:Nat) (enc:κ->Value) (l left:List (κ×Value)):Prop where
 at':∃es clock since seen c0,w.heap[r]? =some (.map es clock)/\es.toList.map (λe=>(e.key,e.val))=l.map (λp=>(enc p.1,p.2))/\
  (∀e∈es.toList,e.born<clock)/\(es.toList.map (·.born)).Nodup/\w.heap[it]? =some (.mapIter (some r) since seen c0)/\(∀x∈es.toList,x.born<since)/\since<=c0/\since<=clock/\
  (leftOf es seen).toList.map (λe=>(e.key,e.val))=left.map (λp=>(enc p.1,p.2))
 tidy:Tidy l
structure TW {κ:Type} (w:World) (it r:Nat) (enc:κ->Value) (k:κ) (v:Value):Prop where
 at':∃(es:Array MapEntry) (clock since:Nat) (seen:Array Nat) (e:MapEntry),w.heap[r]? =some (.map es clock)/\w.heap[it]? =some (.mapIter (some r) since (seen.push e.born) clock)/\e∈es.toList/\(es.toList.map (·.born)).Nodup/\e.key=enc k/\e.val=v
section
variable {κ:Type} {w w':World} {it r:Nat} {enc:κ->Value} {l left:List (κ×Value)} {S:ZN}
def cD.af(b:cD w it r enc l left)(c:ak S w w')(d:¬S it)(e:¬S r):cD w' it r enc l left:=by
 obtain⟨f,n,P,seen,g,h,i,j,k,m,a⟩:=b.at';exact⟨⟨f,n,P,seen,g,c.get h e,i,j,k,c.get m d,a⟩,b.tidy⟩
def cD.ah(n:cD w it r enc l left)(P:ai w w'):cD w' it r enc l left:=n.af P id id
def cD.map(a:cD w it r enc l left):bJ w r enc l:=by
 obtain⟨c,n,P,seen,h,d,e,f,g,i,b⟩:=a.at';exact⟨⟨c,n,d,e,f,g⟩,a.tidy⟩
def cD.ne(c:cD w it r enc l left):it≠r:=by
 obtain⟨e,n,P,seen,f,d,g,h,i,a,b⟩:=c.at';rintro rfl;rw[d]at a;cases a
def cD.lt(b:cD w it r enc l left):it<w.heap.size:=by
 obtain⟨d,n,P,seen,e,f,g,h,i,c,a⟩:=b.at';exact ax c
def mapRange{P a b:TypeId}{j:Value}(k:lY h P a b j)(c:bJ w r enc l)(m:∀w',cD w' w.heap.size r enc l l->ai w w'->w'.heap.size=w.heap.size+1->p (ZL w.heap.size) w'):aG h (Instr.range P (.map (some r))) w p u:=by
 obtain⟨d,n,e,f,g,o⟩:=c.at';have i:ai w (w.alloc (.mapIter (some r) n #[] n)):=ak.alloc w _;refine aG.mk (run_range_map w P a b r d n k.under e) (m _ ⟨⟨d,n,n,#[],n,i.get e id,f,g,o,heap_alloc_new w _,g,Q4 _,Q4 _,?_⟩,c.tidy⟩ i sM);rw[<-f]
 congr 2
 unfold leftOf;simp
def nH{P:Program}(q:cD w it r enc l left)(U:left=[]->p (.tuple #[.bool false]) w)(V:∀s t A B w',left=A++(s,t)::B->cD w' it r enc l (A++B)->TW w' it r enc s t->ak (·=it) w w'->w'.heap.size=w.heap.size->p (.tuple #[.bool true,enc s,t]) w'):
  aG P (Instr.next (ZL it) false g) w p u:=by
 have W:=q.ne;obtain⟨d,n,b,seen,C,E,X,Y,v,F,H,Z,I,k⟩:=q.at';rcases run_next_at (P:=P) w g it r b C seen d n F E H Z with⟨hz,x⟩|⟨c,J,f,K,x⟩
 ·refine aG.mk x (U ?_)
  have:(leftOf d seen).toList=[]:=by rw[Array.eq_empty_of_size_eq_zero hz]
  rw[this]at k;simpa using k.symm
 ·have y:ai w f:=by rcases K with rfl|rfl;exact ak.refl _;exact ak.drewN w 1
  have b0:f.heap.size=w.heap.size:=by rcases K with rfl|rfl<;>rfl
  have a0:f.heap[it]? =some (.mapIter (some r) b seen C):=y.get F id;have b1:f.heap[r]? =some (.map d n):=y.get E id;have a1:=ax a0
  let o:=ChangeMaps.setBlock f it (.mapIter (some r) b (seen.push c.born) n)
  have L:ak (·=it) f o:=ak.setObj f it _;have M:o.heap[it]? =some (.mapIter (some r) b (seen.push c.born) n):=cE f it _ a1;have N:o.heap[r]? =some (.map d n):=L.get b1 (λc=>W c.symm);have a2:=mem_left J;obtain⟨a,h,O⟩:=List.getElem_of_mem J;have Q:a<left.length:=by have:=Zj List.length k;simp at this;simp at h;omega
  have R:(c.key,c.val)=(enc left[a].1,left[a].2):=by
   have:=Zj (λa3=>a3[a]?) k;simp only[Q9]at this;rw[Qq h,Qq Q,O]at this;simpa using this
  have a4:left=left.take a++(left[a].1,left[a].2)::left.drop (a+1):=by
   have:=(ZX a left).symm;rw[X4 Q]at this;exact this
  have a5:(leftOf d (seen.push c.born)).toList=(leftOf d seen).toList.eraseIdx a:=by
   have j:((leftOf d seen).toList.map (·.born)).Nodup:=by
    unfold leftOf;rw[Array.toList_filter];exact v.sublist (List.Sublist.map _ List.filter_sublist)
   have hf:(leftOf d (seen.push c.born)).toList=(leftOf d seen).toList.filter (λi=>i.born !=c.born):=by
    unfold leftOf;rw[Array.toList_filter,Array.toList_filter,List.filter_filter]
    congr 1
    funext i
    rw[contains_push]
    cases seen.contains i.born<;>cases hx:(i.born==c.born)<;>simp only[bne,hx]<;>rfl
   rw[hf];have z:∀(e:List MapEntry) (a:Nat) (h:a<e.length),(e.map (·.born)).Nodup->e.filter (λi=>i.born !=e[a].born)=e.eraseIdx a:=by
    intro e
    induction e with
    |nil=>intro a h;simp at h
    |cons i e ih=>
     intro a h j;simp only[QY,List.nodup_cons]at j
     cases a with
     |zero=>
      simp only[List.getElem_cons_zero,List.eraseIdx_zero,List.tail_cons];rw[List.filter_cons_of_neg sM];apply List.filter_eq_self.2;intro a6 hy;simp only[bne_iff_ne,ne_eq];intro c;exact j.1 (c▸Xk.2 ⟨a6,hy,rfl⟩)
     |succ a=>
      simp only[List.getElem_cons_succ,List.eraseIdx_cons_succ];have m:a<e.length:=by simpa using h
      rw[List.filter_cons_of_pos,ih a m j.2];simp only[bne_iff_ne,ne_eq];intro c;exact j.1 (c▸Xk.2 ⟨e[a],XY m,rfl⟩)
   have:=z _ a h j;rw[O]at this;exact this
  have S:c.key=enc left[a].1:=(Prod.mk.inj R).1;have T:c.val=left[a].2:=(Prod.mk.inj R).2;refine aG.mk x ?_;rw[S,T];refine V left[a].1 left[a].2 (left.take a) (left.drop (a+1)) o a4 ⟨⟨d,n,b,seen.push c.born,n,N,X,Y,v,M,H,I,I,?_⟩,q.tidy⟩ ⟨d,n,b,seen,c,N,M,a2.1,v,S,T⟩ ((ai.af y).then L) ?_
  ·rw[a5,map_eraseIdx,k,<-map_eraseIdx]
   congr 1
   rw[List.eraseIdx_eq_take_drop_succ]
  ·show(f.heap.setIfInBounds it _).size=_
   simp[b0]
def qM{a:κ}{b:Value}(c:TW w it r enc a b)(d:p (.tuple #[enc a,b]) w):aG h (Instr.entry (ZL it)) w p u:=by
 obtain⟨e,n,P,seen,f,g,i,j,k,l,m⟩:=c.at';refine aG.mk (run_entry_at w it r P seen e n f i g j k) ?_;rw[l,m];exact d
def Qh[BEq κ][LawfulBEq κ]{E F V W X:TypeId}{Y:Value}{c:κ}(H:lY h E F V Y)(s:iK h F enc)(t:cD w it r enc l left)(Z:c∉left.map (·.1))(I:∀w',cD w' it r enc (bY l c) left->ak (·=r) w w'->w'.heap.size=w.heap.size->p (.tuple #[]) w'):aG h (Builtin.delete_ #[E,W] X #[.map (some r),enc c]) w p u:=by
 have J:=t.ne;obtain⟨P,a,b,seen,K,i,j,L,M,N,O,Q,R,A⟩:=t.at';have v:=jB s c P.toList l j w;have a0:P.toList.length=l.length:=by have:=Zj List.length j;simpa using this
 have S:=ax i
 cases x:mN l c 0 with
 |none=>
  rw[x]at v;refine aG.mk (w':={w with heap:=w.heap.setIfInBounds r (.map P a)}) ?_ (I _ ⟨⟨_,_,b,seen,K,cE w r _ S,?_,L,M,(ak.setObj w r _).get N J,O,Q,R,A⟩,t.tidy.bY c⟩ (ak.setObj w r _) sM)
  ·simp[Builtin.delete_,run_underlying H.under,dj i,du s,v,d_ i]
  ·rw[(rO x).2];exact j
 |some d=>
  obtain⟨n,a1⟩:=d;rw[x]at v;obtain⟨_,f,T,U⟩:=nP x;rw[Nat.sub_zero]at f T U;have k:n<P.size:=by
                 have:P.size=l.length:=by simpa using a0
                 omega
  have m:(P.eraseIdxIfInBounds n).toList=P.toList.eraseIdx n:=by simp[Array.eraseIdxIfInBounds,k]
  have a2:(P.toList[n]'(by simpa using k)).key=enc c:=by
   have:=Zj (λy=>y[n]?) j;simp only[Q9,T,Option.map_some]at this;rw[Qq (by simpa using k)]at this;simpa using(Prod.mk.inj (XJ this)).1
  have B:∀g∈(leftOf P seen).toList,g.key≠enc c:=by
   intro g hx o;have:(g.key,g.val)∈left.map (λd=>(enc d.1,d.2)):=by rw[<-A];exact Xk.2 ⟨g,hx,rfl⟩
   obtain⟨y,hq,a3⟩:=Xk.1 this;have a4:enc y.1=enc c:=(Prod.mk.inj a3).1.trans o;exact Z (Xk.2 ⟨y,hq,s.inj a4⟩)
  have a5:(leftOf (P.eraseIdxIfInBounds n) seen).toList=(leftOf P seen).toList:=by
   unfold leftOf at B⊢;rw[Array.toList_filter]at B;rw[Array.toList_filter,Array.toList_filter,m];have C:∀(e:List MapEntry) (d:MapEntry->Bool) (n:Nat) (f:n<e.length),d e[n]=false->(e.eraseIdx n).filter d=e.filter d:=by
    intro e d
    induction e with
    |nil=>intro n f;simp at f
    |cons g e ih=>
     intro n f z
     cases n with
     |zero=>
      simp only[List.getElem_cons_zero]at z;simp[z]
     |succ n=>
      simp only[List.getElem_cons_succ]at z;simp only[List.eraseIdx_cons_succ,List.filter_cons];rw[ih n (by simpa using f) z]
   refine C _ _ n (by simpa using k) ?_
   cases a6: !seen.contains (P.toList[n]'(by simpa using k)).born with
   |false=>rfl
   |true=>exact Zz a2 (B _ (List.mem_filter.2 ⟨XY _,a6⟩))
  refine aG.mk (w':={w with heap:=w.heap.setIfInBounds r (.map (P.eraseIdxIfInBounds n) a)}) ?_ (I _ ⟨⟨_,_,b,seen,K,cE w r _ S,?_,?_,?_,(ak.setObj w r _).get N J,?_,Q,R,?_⟩,t.tidy.bY c⟩ (ak.setObj w r _) sM)
  ·simp[Builtin.delete_,run_underlying H.under,dj i,du s,v,d_ i]
  ·rw[(U a1).2,m,map_eraseIdx,j,map_eraseIdx]
  ·intro o q
   rw[m]at q;exact L o (List.mem_of_mem_eraseIdx q)
  ·rw[m,map_eraseIdx]
   exact M.sublist (List.eraseIdx_sublist _ _)
  ·intro o q
   rw[m]at q;exact O o (List.mem_of_mem_eraseIdx q)
  ·rw[a5];exact A
def Us{P a b c:TypeId}{d:Value}(e:lY h P a b d)(f:bJ w r enc l)(g:p (ZH (l.length:Int)) w):aG h (Builtin.len_ #[P] c #[.map (some r)]) w p u:=by
 obtain⟨i,n,j,k,_⟩:=f.at';have m:i.size=l.length:=by have:=Zj List.length k;simpa using this
 refine aG.mk (v:=ZH (l.length:Int)) ?_ g;rw[<-m];simp[Builtin.len_,Builtin.lenOf,run_underlying e.under,dj j,goInt]
def B_(n:h.underlying g=some .string)(P:∀w',w'.heap[w.heap.size]? =some (.stringIter x 0)->ai w w'->w'.heap.size=w.heap.size+1->p (ZL w.heap.size) w'):aG h (Instr.range g (.string x)) w p u:=
 aG.mk (run_range_string w g x n) (P _ (World.iter_heap w x 0) (ak.alloc w _) (by simp[World.iter]))
def GP(n:w.heap[it]? =some (.stringIter x a))(b:x.size<=a->p (.tuple #[.bool false]) w)(c:a<x.size->∀w',w'.heap[it]? =some (.stringIter x (a+(Utf8.decode x a).2))->ak (·=it) w w'->w'.heap.size=w.heap.size->p (.tuple #[.bool true,ZH (a:Int),.int .i32 ((Utf8.decode x a).1:Int)]) w'):
  aG h (Instr.next (ZL it) true g) w p u:=by
 by_cases P:a<x.size
 ·refine aG.mk (w':={w with heap:=w.heap.setIfInBounds it (.stringIter x (a+(Utf8.decode x a).2))}) ?_ (c P _ (cE w it _ (ax n)) (ak.setObj w it _) sM)
  simp[Instr.next,getObj,setObj,Sem.run,n,P,goInt]
 ·refine aG.mk ?_ (b oM)
  simp[Instr.next,getObj,Sem.run,n,P]
end
end Go.ar
namespace Go.Proofs.YtjgjkeponbeekaaGreatDoor
open Go.ar
def ft(b:UInt8):Bool:=(97<=b&&b<=122)||(48<=b&&b<=57)||b==46
def iy(n:ByteArray):Bool:=decide (1<=n.size)&&decide (n.size<=16)&&n.data.toList.all ft
structure cK where
 bytes:List UInt8
 synced:Nat
 mD:Bool
 deriving DecidableEq
structure an where
 most:Nat
 files:List (ByteArray×cK)
 qI:Bool
 left:Int
 dead:Bool
 deriving DecidableEq
def ez(n:List (ByteArray×cK)):Nat:=(n.map λP=>P.2.bytes.length).sum
def an.used(D:an):Nat:=ez D.files
structure an.Ok (D:an):Prop where
 most:D.most<=262144
 fits:D.used<=D.most
 many:D.files.length<=64
 tidy:Tidy D.files
 names:∀x∈D.files,iy x.1=true
 RY:∀x∈D.files,x.2.synced<=x.2.bytes.length
 BJ:0<=D.left
 BK:aJ D.left
variable{X o:Array Value}{K:Bool}{x:ByteArray}{g0:ByteArray×cK}{A:FuncId}{e:Int}{h2:List (ByteArray×cK)}{y:List UInt8}{a c:Nat}{f:ZN}{d:YQ}{J j:Type}{c5:UInt8}{b k:World}{z:ZU}{a9:cK}
def KZ(h:g0∈h2):g0.2.bytes.length<=ez h2:=by
 unfold ez
 induction h2 with
 |nil=>cases h
 |cons P h2 n=>
  simp only[QY,List.sum_cons];rcases Q2.1 h with rfl|h
  ·omega
  ·have:=n h;omega
def an.Ok.len{D:an}(n:D.Ok)(P:g0∈D.files):g0.2.bytes.length<=262144:=by
 have:=KZ P;have:=n.fits;have:=n.most;unfold an.used at*;omega
structure dW (w:World) (q:Nat) (G:ZN) (f:cK):Prop where
 body:∃a n cap F,w.heap[q]? =some (.cells #[.slice a n cap,ZH f.synced,.bool f.mD] 239 (0,0))/\aM fP 5 F w a n cap f.bytes/\(∀b,F b->G b)/\¬F q
 self:G q
 aC:∀b,G b->b<w.heap.size
def dW.af{S G:ZN}(P:dW b a G a9)(c:ak S b k)(f:∀n,G n->¬S n):dW k a G a9:=by
 obtain⟨h,i,d,j,l,m,g,o⟩:=P.body;exact⟨⟨h,i,d,j,c.get l (f _ P.self),m.af c (λn e=>f n (g n e)),g,o⟩,P.self,λn e=>Qk (P.aC n e) c.size⟩
structure nE where
 q:Nat
 G:ZN
 f:cK
def ptr(n:Nat):Value:=ZL n
def dR(n:ByteArray×nE):ByteArray×Value:=(n.1,ptr n.2.q)
def vv(n:ByteArray×nE):ByteArray×cK:=(n.1,n.2.f)
structure Ev (w:World) (L:List (ByteArray×nE)):Prop where
 each:∀x∈L,dW w x.2.q x.2.G x.2.f
 apart:∀x∈L,∀y∈L,x.1≠y.1->∀b,x.2.G b->¬y.2.G b
 tidy:Tidy L
structure aO (w:World) (p:Nat) (F:ZN) (D:an):Prop where
 body:∃r L,w.heap[p]? =some (.cells #[ZH D.most,.map (some r),.bool D.qI,ZH D.left,.bool D.dead] 143 (0,0))/\bJ w r Value.string (L.map dR)/\D.files=L.map vv/\Ev w L/\
  (∀x∈L,∀b,x.2.G b->F b/\b≠p/\b≠r)/\F r/\p≠r
 self:F p
 aC:∀b,F b->b<w.heap.size
 ok:D.Ok
variable{a3:List (ByteArray×nE)}
def Ev.af{S:ZN}(P:Ev b a3)(d:ak S b k)(e:∀n∈a3,∀a,n.2.G a->¬S a):Ev k a3:=
 ⟨λn c=>(P.each n c).af d (e n c),P.apart,P.tidy⟩
def aO.af{S d:ZN}{D:an}(P:aO b a d D)(c:ak S b k)(e:∀n,d n->¬S n):aO k a d D:=by
 obtain⟨i,j,l,m,o,p,g,h,q⟩:=P.body;exact⟨⟨i,j,c.get l (e _ P.self),m.af c (e _ h),o,p.af c (λr s n f=>e n (g r s n f).1),g,h,q⟩,P.self,λn f=>Qk (P.aC n f) c.size,P.ok⟩
def aO.ah{D:an}(n:aO b a f D)(P:ai b k):aO k a f D:=n.af P λ_ _ n=>n
def qJ(a:j->J)(P:List (ByteArray×j))(b:ByteArray)(c:j):(aH P b c).map (λn=>(n.1,a n.2))=aH (P.map λn=>(n.1,a n.2)) b (a c):=by
 induction P with
 |nil=>rfl
 |cons d P e=>
  obtain⟨n,f⟩:=d;simp only[aH,QY];split
  ·rfl
  ·simp[e]
def BL(a:j->J)(P:List (ByteArray×j))(b:ByteArray):(bY P b).map (λn=>(n.1,a n.2))=bY (P.map λn=>(n.1,a n.2)) b:=by
 induction P with
 |nil=>rfl
 |cons c P d=>
  obtain⟨n,e⟩:=c;simp only[bY,QY];split
  ·rfl
  ·simp[d]
def BM(a:j->J)(n:List (ByteArray×j))(b:ByteArray):aF (n.map λP=>(P.1,a P.2)) b=(aF n b).map a:=by
 induction n with
 |nil=>rfl
 |cons c n d=>
  obtain⟨P,e⟩:=c;simp only[aF,QY];split
  ·rfl
  ·exact d
def fQ{P:List (ByteArray×j)}(c:Tidy P){a:j}{n:ByteArray×j}(h:n∈aH P x a):n=(x,a)\/(n∈P/\n.1≠x):=by
 by_cases b:n.1=x
 ·left
  have:=qK (c.aH x a) (k:=n.1) (v:=n.2) h;rw[rK,b]at this;simp at this;exact Prod.ext b this.symm
 ·rcases fj h with rfl|h
  ·exact .inl rfl
  ·exact .inr ⟨h,b⟩
def GC{P:List (ByteArray×j)}(a:Tidy P){n:ByteArray×j}(b:n∈bY P x):n∈P/\n.1≠x:=by
 refine⟨gu b,λd=>?_⟩;have c:=qK (a.bY x) (k:=n.1) (v:=n.2) b;rw[NR a,d]at c;simp at c
def yq{l:List (ByteArray×cK)}{k:ByteArray}{f:cK}:ez (aH l k f)+((aF l k).map λn=>n.bytes.length).getD 0=ez l+f.bytes.length:=by
 unfold ez
 induction l with
 |nil=>simp[aH,aF]
 |cons P l a=>
  obtain⟨b,c⟩:=P;simp only[aH,aF];split
  ·simp;omega
  ·simp only[QY,List.sum_cons]at a⊢;omega
def yr{l:List (ByteArray×cK)}{k:ByteArray}:ez (bY l k)+((aF l k).map λn=>n.bytes.length).getD 0=ez l:=by
 unfold ez
 induction l with
 |nil=>simp[bY,aF]
 |cons P l a=>
  obtain⟨b,c⟩:=P;simp only[bY,aF];split
  ·simp;omega
  ·simp only[QY,List.sum_cons]at a⊢;omega
def xz{n:List (ByteArray×j)}{a:j}(P:(aF n x).isSome=true):(aH n x a).length=n.length:=by
 induction n with
 |nil=>simp[aF]at P
 |cons b n c=>
  obtain⟨e,f⟩:=b;simp only[aH,aF]at P⊢;split
  ·rfl
  ·rename_i d
   rw[Zq d]at P;simp[c P]
def aO.head{D:an}(P:aO b a f D):∃n,b.heap[a]? =some (.cells #[ZH D.most,.map (some n),.bool D.qI,ZH D.left,.bool D.dead] 143 (0,0)):=by
 obtain⟨n,d,c,_⟩:=P.body;exact⟨n,c⟩
def aO.K_{D n:an}(c:aO b a f D)(d:ak (·=a) b k)(j:∀P,b.heap[a]? =some (.cells #[ZH D.most,.map (some P),.bool D.qI,ZH D.left,.bool D.dead] 143 (0,0))->k.heap[a]? =some (.cells #[ZH n.most,.map (some P),.bool n.qI,ZH n.left,.bool n.dead] 143 (0,0)))(l:n.files=D.files)(m:n.Ok):aO k a f n:=by
 obtain⟨P,o,p,q,r,s,h,t,i⟩:=c.body;exact⟨⟨P,o,j P p,q.af d (λu=>i u.symm),l.trans r,s.af d (λv w e g=>(h v w e g).2.1),h,t,i⟩,c.self,λe g=>Qk (c.aC e g) d.size,m⟩
def aO.Af{D:an}(n:aO b a f D)(c:∀P,aO P a f {D with dead:=K}->ak f b P->P.heap.size=b.heap.size->z P):PS b ⟨a,0+4,none⟩ (.bool K) z:=by
 obtain⟨k,d⟩:=n.head;refine PS.mk d sM λP e h i=>c P (n.K_ e (λl g=>?_) rfl ⟨n.ok.most,n.ok.fits,n.ok.many,n.ok.tidy,n.ok.names,n.ok.RY,n.ok.BJ,n.ok.BK⟩) (e.mono λK _ j=>j▸n.self) h;rw[d]at g;cases g;exact i
def aO.IG{D:an}(n:aO b a f D)(c:∀P,aO P a f {D with qI:=K}->ak f b P->P.heap.size=b.heap.size->z P):PS b ⟨a,0+2,none⟩ (.bool K) z:=by
 obtain⟨k,d⟩:=n.head;refine PS.mk d sM λP e h i=>c P (n.K_ e (λl g=>?_) rfl ⟨n.ok.most,n.ok.fits,n.ok.many,n.ok.tidy,n.ok.names,n.ok.RY,n.ok.BJ,n.ok.BK⟩) (e.mono λK _ j=>j▸n.self) h;rw[d]at g;cases g;exact i
def aO.MB{D:an}(n:aO b a f D)(i:0<=e)(j:aJ e)(c:∀P,aO P a f {D with left:=e}->ak f b P->P.heap.size=b.heap.size->z P):PS b ⟨a,0+3,none⟩ (ZH e) z:=by
 obtain⟨o,d⟩:=n.head;refine PS.mk d sM λP g k l=>c P (n.K_ g (λp h=>?_) rfl ⟨n.ok.most,n.ok.fits,n.ok.many,n.ok.tidy,n.ok.names,n.ok.RY,i,j⟩) (g.mono λq _ m=>m▸n.self) k;rw[d]at h;cases h;exact l
def NS:YX 42 #[ZH e] b (Ok λc a=>
  if e<64\/e>262144 then c= .tuple #[.pointer none,ZH 1]/\a=b
  else∃d f,c= .tuple #[ZL d,ZH 0]/\aO a d f ⟨e.toNat,[],false,0,false⟩/\ai b a/\∀n,f n->b.heap.size<=n):=by
 refine Is (al.dec (λP=>?_) (λP=>al.dec (λg=>?_) (λg=>?_)))
 ·exact Ok.mk (by rw[Zx (.inl P)];exact⟨rfl,rfl⟩)
 ·exact Ok.mk (by rw[Zx (.inr g)];exact⟨rfl,rfl⟩)
 ·refine PA.mk λi j o k=>PA.mk λl h p m=>Ok.mk ?_
  rw[Zq oM];refine⟨i.heap.size,λn=>b.heap.size<=n/\n<l.heap.size,rfl,⟨⟨b.heap.size,[],?_,bJ.new (h.get k id),rfl,⟨sM,sM,by simp[Tidy]⟩,sM,oM,oM⟩,oM,λn P=>P.2,?_⟩,j.ah h,λn P=>P.1⟩
  ·rw[m]
   have:((e.toNat:Nat):Int)=e:=oM
   rw[this]
  ·exact⟨by show e.toNat<=_;omega,by simp[an.used,ez],by simp,by simp[Tidy],by simp,by simp,by simp,by unfold aJ;simp⟩
def an.PN(D:an)(n:Int):an:={D with qI:=true,left:=max n 0}
def NT{D:an}(k:aJ e)(n:aO b a f D):YX 91 #[ZL a,ZH e] b (Ok λd P=>d= .tuple #[]/\aO P a f (D.PN e)/\bB f b f P):=by
 have g:(if e>0 then e else 0)=max e 0:=oM
 refine uO ⟨a,0,rfl,n.IG λl h i m=>⟨a,0,rfl,h.MB oM (by unfold aJ at*;omega) λo c j p=>Ok.mk ⟨rfl,?_,i.then j,λ_ n=>.inl n⟩⟩⟩;rw[g]at c;exact c
def an.dies(D:an):Bool:=D.dead||(D.qI&&D.left==0)
def an.dS(D:an):an:=if D.qI then{D with left:=D.left-1}else D
def an.gone(D:an):an:={D with dead:=true}
def La{D:an}(k:aO b a f D){e:Int}{D':an}(z:enters ZP A=true)(E:D.dies=false->∀n,aO n a f D.dS->ak f b n->n.heap.size=b.heap.size->YX A (o++ #[]++X) n (Ok λg c=>∃d,g= ZH e/\aO c a d D'/\bB f n d c)):
  YX 233 #[ZL a,.func (.func A) o X] b (Ok λg c=>∃d,g= ZH (if D.dies then 15 else e)/\aO c a d (if D.dies then D.gone else D')/\bB f b d c):=by
 obtain⟨L,v⟩:=k.head;have l:∀n,D.dies=true->aO n a f {D with dead:=true}->ak f b n->Ok (λg c=>∃d,g= ZH (if D.dies then 15 else e)/\aO c a d (if D.dies then D.gone else D')/\bB f b d c) (.returned (ZH 15)) n:=
  λn h P F=>Ok.mk ⟨f,by rw[h];rfl,by rw[h];exact P,F,λ_ k=>.inl k⟩
 refine tU ⟨λn=>aO n a f D/\ak f b n/\n.heap.size=b.heap.size/\D.dies=false,?_,?_⟩
 ·refine⟨a,0,rfl,_,ae v rfl,al.mk (λh=>⟨a,0,rfl,k.Af λn P i q=>?_⟩) (λh=>⟨a,0,rfl,_,ae v rfl,al.mk (λm=>⟨a,0,rfl,_,ae v rfl,a,0,rfl,k.Af λn P i q=>?_⟩) (λm=>⟨a,0,rfl,k.Af λn P i q=>?_⟩)⟩)⟩
  ·obtain⟨w,p⟩:=P.head
   exact⟨a,0,rfl,true,ae p rfl,l n (by simp[an.dies,h]) P i⟩
  ·obtain⟨w,p⟩:=P.head
   refine⟨a,0,rfl,D.left==0,ae p rfl,al.mk (λr=>l n (by unfold an.dies;rw[m,r];simp) (by rw[r]at P;exact P) i) (λr=>⟨?_,i,q,by unfold an.dies;rw[h,r];simp⟩)⟩;have:({D with dead:=D.left==0}:an)=D:=by rw[r,<-h]
   rw[this]at P;exact P
  ·obtain⟨w,p⟩:=P.head
   refine⟨a,0,rfl,false,ae p rfl,?_,i,q,by simp[an.dies,h,m]⟩;have:({D with dead:=false}:an)=D:=by rw[<-h]
   rw[this]at P;exact P
 ·rintro M n ⟨P,i,q,t⟩
  obtain⟨w,p⟩:=P.head;have s:∀j,aO j a f D.dS->ak f b j->j.heap.size=b.heap.size->PC ZP A (o++ #[]++X) j (λg c=>∃B:Int,g= ZH B/\Ok (λg c=>∃d,g= ZH (if D.dies then 15 else e)/\aO c a d (if D.dies then D.gone else D')/\bB f b d c) (.returned (ZH B)) c)
    (λH c=>Ok (λg c=>∃d,g= ZH (if D.dies then 15 else e)/\aO c a d (if D.dies then D.gone else D')/\bB f b d c) (.panicked H) c):=by
   intro j x u y;refine PC.ok (E t j x u y) ?_;rintro _ N ⟨d,rfl,I,J⟩;exact⟨e,rfl,Ok.mk ⟨d,by rw[t];rfl,by rw[t];exact I,(bB.mk u λ_ k=>.inl k:bB f b f j).trans J⟩⟩
  refine⟨a,0,rfl,_,ae p rfl,al.mk (λm=>?_) (λm=>?_)⟩
  ·have O:D.left≠0:=by
    intro C;simp[an.dies,m,C]at t
   have C:=P.ok.BJ;have Q:=P.ok.BK;have K:ZG .i64 (D.left-1)=D.left-1:=wrap_i64 (by unfold aJ at*;omega);refine⟨a,0,rfl,_,ae p rfl,a,0,rfl,?_⟩;rw[K];refine P.MB oM (by unfold aJ at*;omega) λj x u y=>⟨A,o,X,rfl,z,s j ?_ (i.then u) (y.trans q)⟩
   unfold an.dS;rw[Zx m];exact x
  ·refine⟨A,o,X,rfl,z,s n ?_ i q⟩
   unfold an.dS;rw[Zq (by simp[m])];exact P
def cs:ByteArray:=⟨#[97,98,99,100,101,102,103,104,105,106,107,108,109,110,111,112,113,114,115,116,117,118,119,120,121,122,48,49,50,51,52,53,54,55,56,57,46]⟩
def QO:∀n:UInt8,decide (0<=Lib.indexByte cs.data.toList n)=ft n:=by
 have a:(List.range 256).all (λP=>decide (0<=Lib.indexByte cs.data.toList (UInt8.ofNat P))==ft (UInt8.ofNat P))=true:=by decide+kernel
 intro n;have:=ZY.1 a n.toNat (List.mem_range.2 n.toNat_lt);simpa using this
def SL(a:128<=c5.toNat):ft c5=false:=by
 have n:(List.range 128).all (λP=>ft (UInt8.ofNat (128+P))==false)=true:=by decide+kernel
 have:=ZY.1 n (c5.toNat-128) (List.mem_range.2 (by have:=c5.toNat_lt;omega));rw[show 128+(c5.toNat-128)=c5.toNat by omega]at this;simpa using this
def BY:∀n∈cs.data.toList,n.toNat<128:=by decide+kernel
def SM:cs.size=37:=by decide+kernel
def strings_IndexByte{n:ByteArray}{P:Int}{a:World}:YX 358 #[.string n,.int .u8 P] a (Ok λc b=>c= ZH (Lib.indexByte n.data.toList P.toNat.toUInt8)/\a=b):=
 (Any.strings_IndexByte Tryz.SN n P a).mono λf b ⟨d,e⟩=>⟨_,d,rfl,e.symm⟩
def BZ:YX 359 #[.int .i32 e] b (Ok λc d=>c= .bool (Utf8.valid e)/\b=d):=by
 have a:=validRune_eq e;unfold validRune at a;refine my (al.dec (λf=>al.dec (λg=>?_) (λg=>al.dec (λn=>al.dec (λP=>?_) (λP=>?_)) (λn=>?_))) (λf=>al.dec (λn=>al.dec (λP=>?_) (λP=>?_)) (λn=>?_)))
 all_goals
  refine Ok.mk ⟨?_,rfl⟩;rw[a]
  congr 1
  simp;omega
def qS(n:a<x.size):x[a]? =some (x[a]'n):=by simp[n]
def sU:∀{l:List UInt8} {n:UInt8},(∀b∈l,b≠n)->Lib.indexByte l n= -1
 |[],_,_=>rfl
 |b::l,n,P=>by
  have a:(b==n)=false:=beq_false_of_ne (P b (QV ..));have c:=sU (l:=l) λd e=>P d (QJ _ e);unfold Lib.indexByte;rw[a,c];rfl
def qT(x:0<=e):
  YX 326 #[.string cs,.int .i32 e] b (Ok λg n=>(∃a:Int,g= ZH a/\decide (a>=0)=(decide (e<128)&&ft e.toNat.toUInt8))/\ai b n):=by
 refine sf ⟨λh n=>h=decide (e<128)/\n=b,al.dec (λ_=>⟨rfl,rfl⟩) (λd=>Zz x d),?_⟩;rintro Q o f ⟨rfl,rfl⟩;refine al.dec (λd=>PC.ok strings_IndexByte ?_) (λd=>al.cX (λy=>?_) (λy=>PC.ok BZ ?_))
 ·rintro _ _ ⟨rfl,rfl⟩
  refine⟨_,rfl,Ok.mk ⟨⟨_,rfl,?_⟩,ak.refl _⟩⟩;have z:ZG .u8 e=e:=by
   unfold ZG;simp[IntKind.signed,IntKind.bits];omega
  rw[z,Zy d,Bool.true_and];exact QO _
 ·have no:∀n,ai f n->Ok (λg n=>(∃a:Int,g= ZH a/\decide (a>=0)=(decide (e<128)&&ft e.toNat.toUInt8))/\ai f n) (.returned (ZH (-1))) n:=λn p=>
   Ok.mk ⟨⟨_,rfl,by rw[Xv d];rfl⟩,p⟩
  refine B_ Tryz.underlying9 λA B q R=>⟨λi n=>∃P,i=cs.size-P/\n.heap[f.heap.size]? =some (.stringIter cs P)/\ai f n,⟨_,0,rfl,B,q⟩,?_⟩
  rintro i o r ⟨P,rfl,C,s⟩;refine GP C (λ_=>.inl ⟨rfl,no r s⟩) λj E t F S=>.inr ⟨_,_,rfl,?_⟩;have k:(cs[P]'j).toNat<128:=BY _ (by rw[show cs[P]'j=cs.data.toList[P]'(by simpa using j)from by simp;rfl];exact XY _);have H:=decode_ascii cs P j k;rw[H]at t⊢;refine al.cX (λd=>oM) (λ_=>⟨_,?_,P+1,rfl,t,s.new F λh k=>.inr oM⟩);omega
 ·have no:∀n,ai f n->Ok (λg n=>(∃a:Int,g= ZH a/\decide (a>=0)=(decide (e<128)&&ft e.toNat.toUInt8))/\ai f n) (.returned (ZH (-1))) n:=λn p=>
   Ok.mk ⟨⟨_,rfl,by rw[Xv d];rfl⟩,p⟩
  rintro _ _ ⟨rfl,rfl⟩;refine⟨_,rfl,al.not (al.mk (λI=>?_) (λ_=>no _ (ak.refl _)))⟩;obtain⟨J,K,u⟩:=encode_facts e I oM;refine aG.mk (run_convert_int_string f _ _ .i32 e kR Tryz.underlying9) ⟨_,rfl,?_⟩;generalize Utf8.encode e=c at J K u⊢;have L:ZG .i64 (((c.size:Nat):Int)-1)=((c.size-1:Nat):Int):=by rw[wrap_i64 (by unfold aJ;omega)];omega
  rw[L];refine⟨λi a n=>a=((c.size-1:Nat):Int)/\ai f n,⟨0,rfl,ak.refl _⟩,?_⟩;rintro i a o A ⟨rfl,q⟩;have T:=SM;have l:c.size-1<c.size:=oM
  have m:c.size-1<cs.size:=oM
  have U:=u l;have V:(cs[c.size-1]'m).toNat<128:=BY _ (by rw[show cs[c.size-1]'m=cs.data.toList[c.size-1]'(by simpa using m)from by simp;rfl];exact XY _);refine al.dec (λW=>⟨λ_ _=>False,?_,λa o b d=>d.elim⟩) (λX=>oM);simp only[Qx];rw[aq oM];refine⟨oM,_,qS m,oM,_,qS l,λr M=>al.dP (λ_=>λE N=>⟨oM,oM,oM,_,qS l,PC.ok strings_IndexByte ?_⟩) (λv=>oM)⟩;rintro _ _ ⟨rfl,rfl⟩;have O:Lib.indexByte (cs.extract (Int.toNat ((c.size-1+1:Nat):Int)) cs.size).data.toList ((((c[c.size-1]'l).toNat:Nat):Int).toNat.toUInt8)= -1:=by
   refine sU λh k v=>?_;have w:=BY h (mem_extract k);rw[v]at w;simp at w;omega
  refine⟨_,rfl,al.dec (λ_=>no _ ((q.ah M.af).ah N.af)) (λd=>?_)⟩;rw[O]at d;omega
def Ca(c:0<=e):
  YX 289 #[.int .i32 e] b (Ok λn P=>n= .bool (!(decide (e<128)&&ft e.toNat.toUInt8))/\ai b P):=by
 refine xl (PC.ok (φ:=λn P=>n= .bool (decide (e<128)&&ft e.toNat.toUInt8)/\ai b P) (oy (PC.ok (qT c) ?_)) ?_)
 ·rintro _ d ⟨⟨f,rfl,g⟩,a⟩
  exact⟨f,rfl,Ok.mk ⟨by rw[g],a⟩⟩
 ·rintro _ d ⟨rfl,a⟩
  exact⟨_,rfl,Ok.mk ⟨rfl,a⟩⟩
def lF:
  YX 291 #[.string x,.func (.func 289) #[] #[]] b (Ok λe d=>e= .bool (!x.data.toList.all ft)/\ai b d):=by
 have t:enters ZP 289=true:=kR
 refine oz (PC.ok (φ:=λe d=>(∃a:Int,e= ZH a/\decide (a>=0)= !x.data.toList.all ft)/\ai b d) (sw (PC.ok (φ:=λe d=>(∃a:Int,e= ZH a/\decide (a>=0)= !x.data.toList.all ft)/\ai b d) (sx ?_) ?_)) ?_)
 ·refine B_ Tryz.underlying9 λE u v F=>⟨λo d=>∃n,o=x.size-n/\n<=x.size/\d.heap[b.heap.size]? =some (.stringIter x n)/\ai b d/\(∀g∈x.data.toList.take n,ft g=true),⟨_,0,rfl,Qj _,u,v,sM⟩,?_⟩
  rintro o H I ⟨n,rfl,J,w,p,h⟩;refine GP w (λy=>.inl ⟨rfl,Ok.mk ⟨⟨_,rfl,?_⟩,p⟩⟩) λc z q A K=>.inr ⟨_,_,rfl,_,_,_,rfl,t,?_⟩
  ·rw[Qz (by simpa using y)]at h
   have:x.data.toList.all ft=true:=ZY.2 h;rw[this];rfl
  ·have r:ai b z:=p.new A λg P=>.inr oM
   have s:x.data.toList[n]? =some (x[n]'c):=by
    rw[Qq (by simpa using c)];simp;rfl
   refine PC.ok (Ca (Int.natCast_nonneg _)) ?_;rintro _ L ⟨rfl,i⟩;refine⟨_,rfl,al.mk (λj=>?_) (λf=>?_)⟩
   ·
    refine Ok.mk ⟨⟨_,rfl,?_⟩,r.ah i⟩;have k:ft (x[n]'c)=false:=by
     by_cases P:(x[n]'c).toNat<128
     ·rw[decode_ascii x n c P]at j
      simp at j;exact j.resolve_left oM
     ·exact SL oM
    have:x.data.toList.all ft=false:=List.all_eq_false.2 ⟨_,QZ s,by simp[k]⟩;rw[this];simp
   ·have P:(x[n]'c).toNat<128:=by
     by_cases P:(x[n]'c).toNat<128
     ·exact P
     ·have M:=(decode_high x n c oM).1
      have B:¬(((Utf8.decode x n).1:Int)<128):=oM
      rw[Xv B]at f;simp at f
    rw[decode_ascii x n c P]at q f;have k:ft (x[n]'c)=true:=by
     simp at f;exact f.2
    refine⟨_,?_,n+1,rfl,oM,i.get q id,r.ah i,λg P=>?_⟩
    ·omega
    ·rw[Qw,s]at P
     rcases Q6.1 P with P|P
     ·exact h g P
     ·simp at P;rw[P];exact k
 ·rintro _ C ⟨⟨a,rfl,l⟩,m⟩
  exact⟨a,rfl,Ok.mk ⟨⟨a,rfl,l⟩,m⟩⟩
 ·rintro _ C ⟨⟨a,rfl,l⟩,m⟩
  exact⟨a,rfl,Ok.mk ⟨by rw[l],m⟩⟩
def vy:YX 235 #[.string x] b (Ok λP a=>P= .bool (iy x)/\ai b a):=by
 refine Bp (al.XT (λn=>al.dec (λc=>PC.ok lF ?_) (λc=>Ok.mk ⟨?_,ak.refl _⟩)) (λn=>Ok.mk ⟨?_,ak.refl _⟩))
 ·rintro _ g ⟨rfl,d⟩
  refine⟨_,rfl,Ok.mk ⟨?_,d⟩⟩;have e:1<=x.size:=by
   by_cases f:x.size=0
   ·exact Zz (ByteArray.ext (Array.eq_empty_of_size_eq_zero f)) n
   ·omega
  unfold iy;rw[Zy e,Zy (show x.size<=16 by omega)];simp
 ·unfold iy
  rw[Xv (show¬x.size<=16 by omega)];simp
 ·subst n;rfl
def kM{D:ZN}(h:Row fP 1 b D d a y)(f:∀n,D n->n<b.heap.size):
  YX 207 #[.slice d a c] b (Ok (oZ fP 5 b y)):=by
 have w:=h.len;have P:=h.ef;refine mu (ke tA.under ⟨_,rfl,al.mk (λe=>?_) (λe=>PA.mk λj g x k=>?_)⟩)
 ·have:y=[]:=by
   cases d with
   |none=>
    cases y with
    |nil=>rfl
    |cons l z=>obtain⟨n,m,A,o,_⟩:=h.el 0 l rfl;cases o
   |some p=>cases e
  subst this;exact Ok.mk ⟨none,0,0,λ_=>False,rfl,aM.nil b,ak.refl _,λ_ h=>h.elim⟩
 ·cases d with
  |none=>cases e
  |some p=>
   have q:aM fP 5 (·=b.heap.size) j (ZM b.heap.size) 0 0 []:=
    ⟨⟨[],λ_=>False,Own.Aw (cur:= #[]) k rfl (Qj _),rfl,λ_ h=>h.elim⟩,λn P=>by simpa[aD]using P.symm,λn P=>oM⟩
   refine kN q tA (D:=D) (h.ah g) (λn P=>⟨by have:=f n P;omega,by have:=f n P;simp only[aD];intro r;cases r;omega⟩) (by simp;omega) (by unfold aK at P;unfold maxLen;simp;omega) λi s B C t u _ v=>?_;refine⟨_,_,_,rfl,Ok.mk ⟨i,_,s,λn=>aD i=some n,rfl,by have h:=t.alone;rw[List.nil_append]at h;exact h,g.new u λn P=>.inr ?_,λn P=>?_⟩⟩
   ·simp only[aD,Q1]at P;omega
   ·rcases v n P with h|h<;>omega
def oB(n:Int)(P:Nat):Nat:=(max 0 (min n P)).toNat
def xA(P:Int)(n:Nat):oB P n<=n:=by unfold oB;omega
def cK.cut(n:cK)(P:Int):cK:=⟨n.bytes.take (oB P n.bytes.length),oB P n.bytes.length,true⟩
def Sx(n:cK)(P:Int):(n.cut P).bytes.length=oB P n.bytes.length:=by
 have:=xA P n.bytes.length;simp[cK.cut];omega
def BN{G:ZN}(h:dW b a G a9)(P:a9.bytes.length<=262144):
  YX 139 #[ZL a,ZH e] b (Ok λy p=>∃q,y= .tuple #[]/\dW p a q (a9.cut e)/\bB G b q p):=by
 obtain⟨r,c,i,z,A,f,R,S⟩:=h.body;have B:c=a9.bytes.length:=f.len dC;have T:=f.jH;refine vj λj C=>?_;have d:ai b j:=C.af;have g:=d.get A id;have U:=xA e a9.bytes.length;have E:(if(if((c:Nat):Int)<e then((c:Nat):Int)else e)>0 then(if((c:Nat):Int)<e then((c:Nat):Int)else e)else 0)=((oB e a9.bytes.length:Nat):Int):=by
  unfold oB;rw[B];omega
 refine⟨a,0,rfl,_,_,_,ae g rfl,a,0,rfl,r,c,i,ae g rfl,?_⟩;rw[E];refine⟨oM,oM,?_⟩;rw[Qx];have F:Row fP 1 j z r c a9.bytes:=(f.row dC (by unfold aK;omega)).ah d;refine PC.ok (kM (F.take (m:=oB e a9.bytes.length) oM) (λn P=>Qk (f.aC n P) d.size)) ?_;rintro _ H ⟨s,k,t,l,rfl,m,o,u⟩;have I:k=oB e a9.bytes.length:=by have:=m.len dC;rw[this];simp;omega
 have V:a<j.heap.size:=ax g;refine⟨_,_,_,rfl,a,0,rfl,PS.mk (o.get g id) sM λW J X v=>⟨a,0,rfl,s,k,t,ae v rfl,a,0,rfl,PS.mk v sM λY K Z L=>⟨a,0,rfl,PS.mk L sM λM N s5 O=>Ok.mk ?_⟩⟩⟩;have w:ak (·=a) H M:=(J.then K).then N;have x:∀n,l n->n≠a:=λn P=>by have:=u n P;omega
 refine⟨λn=>n=a\/l n,rfl,⟨⟨s,k,t,l,?_,m.af w x,λn P=>.inr P,λQ=>x a Q rfl⟩,.inl rfl,?_⟩,⟨((ai.af d).then (ai.af o)).then (w.mono λn _ P=>by rw[P];exact h.self),?_⟩⟩
 ·rw[O]
  subst I
  rfl
 ·rintro n (rfl|P)
  ·have:=o.size;omega
  ·have:=m.aC n P;omega
 ·rintro n (rfl|P)
  ·exact .inl h.self
  ·have:=u n P;have:=d.size;exact .inr oM
structure eZ (w:World) (p:Nat) (F:ZN) (D:an) (r:Nat) (L:List (ByteArray×nE)):Prop where
 head:w.heap[p]? =some (.cells #[ZH D.most,.map (some r),.bool D.qI,ZH D.left,.bool D.dead] 143 (0,0))
 map:bJ w r Value.string (L.map dR)
 files:D.files=L.map vv
 each:Ev w L
 IH:∀x∈L,∀b,x.2.G b->F b/\b≠p/\b≠r
 Fr:F r
 pr:p≠r
 self:F p
 aC:∀b,F b->b<w.heap.size
 ok:D.Ok
def aO.open{D:an}(n:aO b a f D):∃P c,eZ b a f D P c:=by
 obtain⟨P,c,d,e,g,h,i,j,k⟩:=n.body;exact⟨P,c,d,e,g,h,i,j,k,n.self,n.aC,n.ok⟩
def eZ.at{D:an}(n:eZ b a f D c a3):aO b a f D:=
 ⟨⟨c,a3,n.head,n.map,n.files,n.each,n.IH,n.Fr,n.pr⟩,n.self,n.aC,n.ok⟩
def eZ.af{S e:ZN}{D:an}(n:eZ b a e D c a3)(d:ak S b k)(f:∀P,e P->¬S P):eZ k a e D c a3:=
 ⟨d.get n.head (f _ n.self),n.map.af d (f _ n.Fr),n.files,n.each.af d (λh i P g=>f P (n.IH h i P g).1),n.IH,n.Fr,n.pr,n.self,λP g=>Qk (n.aC P g) d.size,n.ok⟩
def eZ.ah{D:an}(n:eZ b a f D c a3)(P:ai b k):eZ k a f D c a3:=n.af P λ_ _ n=>n
def eZ.box{D:an}(h:eZ b a f D c a3)(P:ByteArray):
  (aF D.files P=none/\aF (a3.map dR) P=none)\/∃n,aF a3 P=some n/\(P,n)∈a3/\aF D.files P=some n.f/\aF (a3.map dR) P=some (ptr n.q):=by
 have d:aF (a3.map dR) P=(aF a3 P).map λn=>ptr n.q:=BM (λn:nE=>ptr n.q) a3 P;have e:aF D.files P=(aF a3 P).map λn=>n.f:=by rw[h.files];exact BM (λn:nE=>n.f) a3 P
 cases g:aF a3 P with
 |none=>rw[g]at d e;exact .inl ⟨e,d⟩
 |some n=>rw[g]at d e;exact .inr ⟨n,rfl,bW g,e,d⟩
def an.gZ(D:an)(n:ByteArray)(P:cK):an:={D with files:=aH D.files n P}
def an.DG(D:an)(n:ByteArray):an:={D with files:=bY D.files n}
def qL{l:List (ByteArray×j)}{k:ByteArray}{v:j}(h:(k,v)∈l)(n:Tidy l):aH l k v=l:=by
 induction l with
 |nil=>cases h
 |cons P l a=>
  obtain⟨b,d⟩:=P;unfold aH;unfold Tidy at n;simp only[QY,List.nodup_cons]at n;rcases Q2.1 h with h|h
  ·cases h;simp
  ·have:(k==b)=false:=beq_false_of_ne λc=>n.1 (Xk.2 ⟨(k,v),h,c⟩)
   rw[Zq (by simp[this]),a h n.2]
def eZ.dT{h w':World}{m G':ZN}{D:an}(b:eZ h a m D c a3){k:ByteArray}{x:nE}(v:aF a3 k=some x)(t:dW w' x.q G' a9)(g:bB x.G h G' w')(w:(D.gZ k a9).Ok):∃u,eZ w' a u (D.gZ k a9) c (aH a3 k ⟨x.q,G',a9⟩)/\bB m h u w':=by
 have i:=bW v;have j:=b.IH _ i;have y:ak m h w':=g.af.mono λn _ P=>(j n P).1;have o:∀d∈aH a3 k ⟨x.q,G',a9⟩,d=(k,⟨x.q,G',a9⟩)\/(d∈a3/\d.1≠k):=λd e=>fQ b.each.tidy e;refine⟨λn=>m n\/(h.heap.size<=n/\n<w'.heap.size),⟨g.af.get b.head λP=>(j _ P).2.1 rfl,?_,?_,⟨?_,?_,b.each.tidy.aH _ _⟩,?_,.inl b.Fr,b.pr,.inl b.self,?_,w⟩,y,λn P=>P.imp id (·.1)⟩
 ·have z:(aH a3 k ⟨x.q,G',a9⟩).map dR=a3.map dR:=by
   have f:(aH a3 k ⟨x.q,G',a9⟩).map dR=aH (a3.map dR) k (ptr x.q):=qJ (λx:nE=>ptr x.q) a3 k _;rw[f];have A:Tidy (a3.map dR):=b.map.tidy;exact qL (Xk.2 ⟨_,i,rfl⟩) A
  rw[z];exact b.map.af g.af λP=>(j _ P).2.2 rfl
 ·have f:(aH a3 k ⟨x.q,G',a9⟩).map vv=aH (a3.map vv) k a9:=qJ (λx:nE=>x.f) a3 k _
  rw[f,<-b.files];rfl
 ·intro d e
  rcases o d e with rfl|⟨e,s⟩
  ·exact t
  ·exact(b.each.each d e).af g.af λn P=>b.each.apart d e _ i s n P
 ·intro d e p l q n P r
  rcases o d e with rfl|⟨e,s⟩<;>rcases o p l with rfl|⟨l,B⟩
  ·exact q rfl
  ·rcases g.new n P with f|f
   ·exact b.each.apart _ i p l q n f r
   ·have:=(b.each.each p l).aC n r;omega
  ·rcases g.new n r with f|f
   ·exact b.each.apart d e _ i q n P f
   ·have:=(b.each.each d e).aC n P;omega
  ·exact b.each.apart d e p l q n P r
 ·intro d e n P
  rcases o d e with rfl|⟨e,s⟩
  ·have C:=ax b.head
   have E:=b.map.lt;rcases g.new n P with f|f
   ·exact⟨.inl (j n f).1,(j n f).2⟩
   ·exact⟨.inr ⟨f,t.aC n P⟩,oM,oM⟩
  ·exact⟨.inl (b.IH d e n P).1,(b.IH d e n P).2⟩
 ·rintro n (P|P)
  ·exact Qk (b.aC n P) g.af.size
  ·exact P.2
def eZ.drop{D:an}(P:eZ b a f D c a3)(o:bJ k c Value.string (bY (a3.map dR) x))(h:ak (·=c) b k)(p:(D.DG x).Ok):eZ k a f (D.DG x) c (bY a3 x):=by
 have e:∀n∈bY a3 x,n∈a3:=λn d=>gu d;refine⟨h.get P.head (λg=>P.pr g),?_,?_,⟨λn d=>((P.each.each n (e n d)).af h λi j=>(P.IH n (e n d) i j).2.2),λn d m q=>P.each.apart n (e n d) m (e m q),P.each.tidy.bY x⟩,λn d=>P.IH n (e n d),P.Fr,P.pr,P.self,λi j=>Qk (P.aC i j) h.size,p⟩
 ·have g:(bY a3 x).map dR=bY (a3.map dR) x:=BL (λl:nE=>ptr l.q) a3 x
  rw[g];exact o
 ·have g:(bY a3 x).map vv=bY (a3.map vv) x:=BL (λl:nE=>l.f) a3 x
  rw[g,<-P.files];rfl
def eZ.put{p G':ZN}{D:an}(e:eZ b a p D c a3){q:Nat}(v:bJ k c Value.string (aH (a3.map dR) x (ptr q)))(f:ak (·=c) b k)(r:dW b q G' a9)(s:∀P∈a3,P.1≠x->∀n,G' n->¬P.2.G n)(t:∀n,G' n->n≠a/\n≠c)(w:(D.gZ x a9).Ok):
  eZ k a (λn=>p n\/G' n) (D.gZ x a9) c (aH a3 x ⟨q,G',a9⟩):=by
 have h:∀P∈aH a3 x ⟨q,G',a9⟩,P=(x,⟨q,G',a9⟩)\/(P∈a3/\P.1≠x):=λP d=>fQ e.each.tidy d;refine⟨f.get e.head (λg=>e.pr g),?_,?_,⟨?_,?_,e.each.tidy.aH _ _⟩,?_,.inl e.Fr,e.pr,.inl e.self,?_,w⟩
 ·have g:(aH a3 x ⟨q,G',a9⟩).map dR=aH (a3.map dR) x (ptr q):=qJ (λj:nE=>ptr j.q) a3 x _
  rw[g];exact v
 ·have g:(aH a3 x ⟨q,G',a9⟩).map vv=aH (a3.map vv) x a9:=qJ (λj:nE=>j.f) a3 x _
  rw[g,<-e.files];rfl
 ·intro P d
  rcases h P d with rfl|⟨d,l⟩
  ·exact r.af f λn B=>(t n B).2
  ·exact(e.each.each P d).af f λn B=>(e.IH P d n B).2.2
 ·intro P d m i u n B o
  rcases h P d with rfl|⟨d,l⟩<;>rcases h m i with rfl|⟨i,y⟩
  ·exact u rfl
  ·exact s m i y n B o
  ·exact s P d l n o B
  ·exact e.each.apart P d m i u n B o
 ·intro P d n B
  rcases h P d with rfl|⟨d,l⟩
  ·exact⟨.inr B,t n B⟩
  ·exact⟨.inl (e.IH P d n B).1,(e.IH P d n B).2⟩
 ·rintro n (B|B)
  ·exact Qk (e.aC n B) f.size
  ·exact Qk (r.aC n B) f.size
end Go.Proofs.YtjgjkeponbeekaaGreatDoor
namespace Go.ar
open Go
def CR(cs:Array Value):Nat->List Value->Array Value
 |_,[]=>cs
 |n,P::a=>CR (cs.setIfInBounds n P) (n+1) a
def Fu:∀(a:List Value) (cs:Array Value) (P n:Nat),(CR cs P a)[n]? =if P<=n/\n<P+a.length/\n<cs.size then a[n-P]? else cs[n]?
 |[],cs,P,n=>by rw[Zq (by simp;omega)];rfl
 |v::a,cs,P,n=>by
  unfold CR;rw[Fu a,Array.getElem?_setIfInBounds];simp only[Xq,Array.size_setIfInBounds]
  by_cases b:P+1<=n/\n<P+1+a.length/\n<cs.size
  ·rw[Zx b,Zx oM,show n-P=(n-(P+1))+1 by omega,ZZ]
  ·rw[Zq b]
   by_cases c:P=n
   ·subst c
    by_cases d:P<cs.size
    ·rw[Zx rfl,Zx d,Zx oM,Nat.sub_self,ZJ]
    ·rw[Zx rfl,Zq d,Zq oM,Array.getElem?_eq_none oM]
   ·rw[Zq c,Zq oM]
variable{a4:List Value}{a:Nat}{g:TypeId}{b:World}{z:ZU}
def Fw{cs:Array Value}(P:a4.length=cs.size):CR cs 0 a4=a4.toArray:=by
 apply Array.ext_getElem?;intro n;rw[Fu]
 by_cases a:n<cs.size
 ·rw[Zx oM];simp
 ·rw[Zq oM,Array.getElem?_eq_none oM]
  simp;omega
def yP{b:Nat}{f:TypeId}{g:ZU}:∀(a:List Value) (P:Nat) {n:World} {cs:Array Value},n.heap[b]? =some (.cells cs f (0,0))->P+a.length<=cs.size->
  (∀c,ak (·=b) n c->c.heap.size=n.heap.size->c.heap[b]? =some (.cells (CR cs P a) f (0,0))->g c)->ji ⟨b,0,none⟩ P a n g
 |[],P,n,cs,d,h,e=>e n (ak.refl _) rfl d
 |v::a,P,n,cs,d,h,e=>by
  unfold ji;rw[Addr.add_lit,Xz];rw[Xq]at h;exact PS.mk d oM λq i j k=>yP a (P+1) k (by simp;omega) λl m o p=>e l (i.then m) (o.trans j) p
def storeAll{cs:Array Value}(P:List Value)(c:b.heap[a]? =some (.cells cs g (0,0)))(d:P.length=cs.size)(e:∀n,ak (·=a) b n->n.heap.size=b.heap.size->n.heap[a]? =some (.cells P.toArray g (0,0))->z n):ji ⟨a,0,none⟩ 0 P b z:=
 yP P 0 c oM λn f h i=>e n f h (by rw[i,Fw d])
end Go.ar
namespace Go.ar
open Go
def wrap_u32(n:Nat)(P:n<2 ^ 32):ZG .u32 (n:Int)=n:=by
 unfold ZG;simp[IntKind.signed,IntKind.bits];omega
def wrap_u8(n:Nat):ZG .u8 (n:Int)=((n % 256:Nat):Int):=by
 unfold ZG;simp[IntKind.signed,IntKind.bits]
def ofInt32(n:rJ):BitVec.ofInt (IntKind.bits .u32) ((n.toNat:Nat):Int)=n:=by
 show BitVec.ofInt 32 ((n.toNat:Nat):Int)=n;rw[BitVec.ofInt_natCast];simp
def KV(n P:rJ):qx .u32 ((n.toNat:Nat):Int) ((P.toNat:Nat):Int)=(((n ^^^ P).toNat:Nat):Int):=by
 unfold qx;rw[ofInt32,ofInt32];exact wrap_u32 _ (n ^^^ P).isLt
def Qc(n:rJ):qx .u32 (IntKind.max .u32) ((n.toNat:Nat):Int)=(((~~~n).toNat:Nat):Int):=by
 have P:IntKind.max .u32=(((BitVec.allOnes 32).toNat:Nat):Int):=by decide+kernel
 rw[P,KV,BitVec.allOnes_xor]
def Uo(n:rJ):gY .u32 ((n.toNat:Nat):Int) 8=(((n>>>8).toNat:Nat):Int):=by
 unfold gY;have:(min (Int.toNat 8) (IntKind.bits .u32))=8:=dC
 rw[this,BitVec.toNat_ushiftRight,Nat.shiftRight_eq_div_pow];show Int.fdiv _ ((2 ^ 8:Nat):Int)=_;rw[Int.fdiv_eq_ediv_of_nonneg _ (Int.natCast_nonneg _)]
 rfl
def VI(n P:Nat)(a:n<256)(b:P<256):qx .u8 (n:Int) (P:Int)=((n ^^^ P:Nat):Int):=by
 unfold qx;show ZG .u8 ((BitVec.ofInt 8 (n:Int) ^^^ BitVec.ofInt 8 (P:Int)).toNat:Int)=_;have c:n ^^^ P<2 ^ 8:=Nat.xor_lt_two_pow oM oM;rw[BitVec.ofInt_natCast,BitVec.ofInt_natCast,BitVec.toNat_xor,BitVec.toNat_ofNat,BitVec.toNat_ofNat,Nat.mod_eq_of_lt oM,Nat.mod_eq_of_lt oM,wrap_u8,Nat.mod_eq_of_lt oM]
def Up(n:Nat)(a:n<256):Bg .u8 (n:Int) 15=((n % 16:Nat):Int):=by
 unfold Bg;show ZG .u8 ((BitVec.ofInt 8 (n:Int)&&&BitVec.ofInt 8 ((15:Nat):Int)).toNat:Int)=_;have P:n&&&15=n % 16:=Nat.and_two_pow_sub_one_eq_mod n 4;rw[BitVec.ofInt_natCast,BitVec.ofInt_natCast,BitVec.toNat_and,BitVec.toNat_ofNat,BitVec.toNat_ofNat,Nat.mod_eq_of_lt oM,Nat.mod_eq_of_lt oM,P,wrap_u8,Nat.mod_eq_of_lt oM]
def VJ(n:Nat):gY .u8 (n:Int) 4=((n/16:Nat):Int):=by
 unfold gY;have:(min (Int.toNat 4) (IntKind.bits .u8))=4:=dC
 rw[this];show Int.fdiv _ ((2 ^ 4:Nat):Int)=_;rw[Int.fdiv_eq_ediv_of_nonneg _ (Int.natCast_nonneg _)]
 rfl
end Go.ar
namespace Go.Proofs.YtjgjkeponbeekaaGreatDoor
open Go.ar
structure qu (w:World):Prop where
 lower:∀i,i<16->w.cell? ⟨2,i,none⟩=some (.int .u32 ((jP.getD i 0:Nat):Int))
 upper:∀i,i<16->w.cell? ⟨3,i,none⟩=some (.int .u32 ((jQ.getD i 0:Nat):Int))
 lt:2<w.heap.size/\3<w.heap.size
variable{y:List UInt8}{a c:Nat}{f:ZN}{d:YQ}{b k:World}
def qu.ah(n:qu b)(a:ai b k):qu k:=
 ⟨λP c=>(a.cell (a:=⟨2,P,none⟩) n.lt.1 id).trans (n.lower P c),λP c=>(a.cell (a:=⟨3,P,none⟩) n.lt.2 id).trans (n.upper P c),Qk n.lt.1 a.size,Qk n.lt.2 a.size⟩
def Qd:∀n,jP.getD n 0<2 ^ 32/\jQ.getD n 0<2 ^ 32:=by
 intro n
 by_cases P:n<16
 ·have a:(List.range 16).all (λn=>decide (jP.getD n 0<2 ^ 32/\jQ.getD n 0<2 ^ 32))=true:=by decide+kernel
  simpa using ZY.1 a n (List.mem_range.2 P)
 ·rw[QQ,QQ,Q7 (by show 16<=n;omega),Q7 (by show 16<=n;omega)]
  decide
def Qe{s:rJ}(p:qu b)(h:Row fP 1 b f d a y):
  YX 325 #[.int .u32 ((s.toNat:Nat):Int),.slice d a c] b (Ok λq j=>q= .int .u32 (((Mz s y).toNat:Nat):Int)/\aV b j):=by
 have H:=h.len;have r:=h.ef;unfold aK at r;refine KJ ⟨λm n i j=>∃e:Nat,i=e/\e<=a/\m=a-e/\aV b j/\n=((((y.take e).foldl kh (~~~s)).toNat:Nat):Int),⟨_,0,rfl,Qj _,rfl,aV.refl b,by rw[Qc];rfl⟩,?_⟩;rintro m n i I J ⟨e,rfl,K,rfl,g,rfl⟩;generalize k:(y.take e).foldl kh (~~~s)=n;refine al.dec (λt=>?_) (λt=>Ok.mk ⟨?_,g⟩)
 ·obtain⟨u,l,P,rfl,v,_,w⟩:=(h.ah g.af).mR (i:=e) oM
  have o:=p.ah g.af;have L:=P.toNat_lt;have x:ZG .u8 ((n.toNat:Nat):Int)=((n.toNat % 256:Nat):Int):=wrap_u8 _;have M:P.toNat ^^^ n.toNat % 256<2 ^ 8:=Nat.xor_lt_two_pow oM oM;have z:qx .u8 ((P.toNat:Nat):Int) (ZG .u8 ((n.toNat:Nat):Int))=((P.toNat ^^^ n.toNat % 256:Nat):Int):=by rw[x,VI _ _ oM oM]
  refine⟨u,l,rfl,oM,oM,_,w,?_⟩;rw[z,Up _ oM,VJ];refine⟨2,0,rfl,oM,oM,((jP.getD ((P.toNat ^^^ n.toNat % 256) % 16) 0:Nat):Int),?_,3,0,rfl,oM,oM,((jQ.getD ((P.toNat ^^^ n.toNat % 256)/16) 0:Nat):Int),?_,λN A=>⟨_,oM,e+1,aq oM,oM,rfl,g.then A,?_⟩⟩
  ·rw[Xz];exact o.lower _ oM
  ·rw[Xz];exact o.upper _ oM
  ·have B:=(Qd ((P.toNat ^^^ n.toNat % 256) % 16)).1
   have C:=(Qd ((P.toNat ^^^ n.toNat % 256)/16)).2;rw[Uo];have E:((jP.getD ((P.toNat ^^^ n.toNat % 256) % 16) 0:Nat):Int)=(((BitVec.ofNat 32 (jP.getD ((P.toNat ^^^ n.toNat % 256) % 16) 0)).toNat:Nat):Int):=by rw[BitVec.toNat_ofNat,Nat.mod_eq_of_lt B]
   have F:((jQ.getD ((P.toNat ^^^ n.toNat % 256)/16) 0:Nat):Int)=(((BitVec.ofNat 32 (jQ.getD ((P.toNat ^^^ n.toNat % 256)/16) 0)).toNat:Nat):Int):=by rw[BitVec.toNat_ofNat,Nat.mod_eq_of_lt C]
   rw[E,F,KV,KV,<-NM,Qw,v,List.foldl_append,k]
   rfl
 ·rw[Qz oM]at k
  rw[Qc,<-k];rfl
def MA(n:qu b)(P:Row fP 1 b f d a y):
  YX 285 #[.slice d a c] b (Ok λe g=>e= .int .u32 (((NN y).toNat:Nat):Int)/\aV b g):=by
 refine NJ (PC.ok (Qe (s:=0#32) n P) ?_);rintro _ i ⟨rfl,h⟩;exact⟨_,rfl,Ok.mk ⟨rfl,h⟩⟩
end Go.Proofs.YtjgjkeponbeekaaGreatDoor
namespace Go.ar
open Go
def wrap_u32'(n:Int):ZG .u32 n=n % 4294967296:=by
 unfold ZG;simp[IntKind.signed,IntKind.bits]
def Ln{n d:Nat}(b:n<16777216)(c:d<256):Pd .u32 (IA .u32 (n:Int) 8) (ZG .u32 (d:Int))=((n*256+d:Nat):Int):=by
 have P:IA .u32 (n:Int) 8=((n*256:Nat):Int):=by
  unfold IA;have:min (Int.toNat 8) (IntKind.bits .u32)=8:=dC
  rw[this,wrap_u32'];have:((2:Int) ^ 8)=256:=dC
  rw[this];omega
 rw[P,wrap_u32 _ oM];unfold Pd;show ZG .u32 ((BitVec.ofInt 32 ((n*256:Nat):Int)|||BitVec.ofInt 32 (d:Int)).toNat:Int)=_;have a:n*256|||d=n*256+d:=by
  have:=(Nat.shiftLeft_add_eq_or_of_lt (a:=n) (i:=8) (b:=d) oM).symm
  rwa [Nat.shiftLeft_eq]at this
 rw[BitVec.ofInt_natCast,BitVec.ofInt_natCast,BitVec.toNat_or,BitVec.toNat_ofNat,BitVec.toNat_ofNat,Nat.mod_eq_of_lt oM,Nat.mod_eq_of_lt oM,a,wrap_u32 _ oM]
def jz(n:Nat):ZG .u8 (n:Int)=((UInt8.ofNat n).toNat:Int):=by
 rw[wrap_u8,ZK]
def Nq{k:IntKind}{u m:Nat}(n:m<=k.bits):gY k (u:Int) (m:Int)=((u/2 ^ m:Nat):Int):=by
 unfold gY;rw[Qx,X2 n];show Int.fdiv _ ((2:Int) ^ m)=_;rw[Int.fdiv_eq_ediv_of_nonneg _ (Int.pow_nonneg dC)];simp
variable{a c:Nat}{d:YQ}{h:Program}{C g r:TypeId}{p u:ZR}{b:World}
def NX{P tn i n:TypeId}(j:jV h P n 1 1)(l:h.underlying tn=some (.int .i64))(m:0<a)(o:a<=aK)(c:∀d e,aM fP n (·=b.heap.size) d (ZM b.heap.size) 0 e []->a<=e->ai b d->p (.slice (ZM b.heap.size) a e) d):
  aG h (Builtin.append_ #[P,tn] i #[.slice none 0 0,ZH (a:Int)]) b p u:=by
 obtain⟨q,f,r,s,A,t,v⟩:=j.info;unfold aK at o;have w:=Lib.run_append_nil_zeros (P:=h) b P tn i n q f .i64 .i64 j.under l r s a m oM oM (by rw[t];omega);have x:=grownCap_ge b a 0 n;refine aG.mk w (c _ _ ?_ x ?_)
 ·have k:=heap_alloc_new b.drew (.cells (Builtin.zeroCells f.cells a++Builtin.zeroCells f.cells (grownCap b a 0 n-a)) n)
  refine⟨⟨[],λ_=>False,⟨⟨sM,.inr ⟨b.heap.size,grownCap b a 0 n,_,rfl,Qj _,k,Qj _,grownCap_le_maxLen b a 0 n (by unfold maxLen;omega),?_,sM⟩⟩⟩,rfl,λ_ c=>c.elim⟩,λy g=>by simpa[aD]using g.symm,λy g=>by rw[g];exact ax k⟩;rw[Array.size_append,size_zeroCells,size_zeroCells,v];show a*1+(grownCap b a 0 n-a)*1=grownCap b a 0 n*1;omega
 ·have z:ai b (b.drewN 1):=ak.drewN b 1
  exact z.then (ak.alloc _ _)
def TN(n:h.underlying g=some (.slice r))(P:p (ZH (c:Int)) b):aG h (Builtin.cap_ #[g] C #[.slice d a c]) b p u:=by
 refine aG.mk (v:=ZH (c:Int)) ?_ P;simp[Builtin.cap_,run_underlying n,goInt]
end Go.ar
namespace Go.Proofs.YtjgjkeponbeekaaGreatDoor
section
open Go.ar
variable{d1 y:List UInt8}{E a c i l:Nat}{F:Nat×Nat}{d s:YQ}{b:World}
def vB{bs:List UInt8}{D:ZN}(e:Row fP 1 b D d a bs)(q:a<=4):
  YX 284 #[.slice d a c] b (Ok λg n=>g= .int .u32 (gJ bs:Int)/\b=n):=by
 have r:=e.len;refine Bq ⟨λm f i n=>∃j:Nat,i=j/\j<=a/\m=a-j/\f=(gJ (bs.take j):Int)/\b=n,⟨_,0,rfl,Qj _,rfl,rfl,rfl⟩,?_⟩;rintro m f i _ s ⟨j,rfl,t,rfl,rfl,rfl⟩;refine al.dec (λh=>?_) (λh=>?_)
 ·obtain⟨k,P,l,rfl,o,_,p⟩:=e.mR (i:=j) oM
  have u:=oF bs (j:=j) (m:=3) oM;refine⟨k,P,rfl,oM,oM,_,p,_,oM,j+1,aq oM,oM,rfl,?_,rfl⟩;rw[Ln (by
            have:(256:Nat) ^ 3=16777216:=dC
            omega) l.toNat_lt,EB o]
 ·rw[Qz oM]
  exact Ok.mk ⟨rfl,rfl⟩
def GO{m:Nat}(f:0<m)(c:m<=aK):
  YX 328 #[.slice none 0 0,ZH (m:Int)] b (Ok λg n=>∃P d,g= .slice (ZM P) 0 d/\aM fP 5 (·=P) n (ZM P) 0 d []/\ai b n/\b.heap.size<=P):=by
 have a:=c;unfold aK at a;refine mB ⟨λn=>n=b,al.dec (λe=>oM) (λ_=>rfl),?_⟩;rintro _ l rfl;refine TN tA.under ⟨_,rfl,?_⟩;have h:ZG .i64 ((m:Int)-ZG .i64 (((0:Nat):Int)-((0:Nat):Int)))=(m:Int):=by
  rw[wrap_i64 (x:=((0:Nat):Int)-((0:Nat):Int)) (by unfold aJ;omega),wrap_i64 (by unfold aJ;omega)];omega
 rw[h];refine al.dec (λe=>?_) (λe=>oM);refine TN tA.under ⟨_,rfl,oM,oM,?_⟩;refine NX tA kR f c λo i j p k=>⟨_,_,_,rfl,oM,oM,Ok.mk ⟨_,i,rfl,j,k,Q4 _⟩⟩
def BV{D:ZN}(B:b.heap[a]? =some (.cells #[.slice d c l,.slice s i E] 237 F))(R:Row fP 1 b D d c y)(S:Row fP 1 b D s i d1)(C:∀n,D n->n<b.heap.size)(h0:0<c)(P:c+i<=aK):
  YX 294 #[.slice (ZM a) 2 2] b (Ok (oZ fP 5 b (y++d1))):=by
 have l1:=R.len;have l2:=S.len;have H:=P;unfold aK at H;refine kL ⟨λf w g e=>b=e/\((f=2/\w=0/\g=0)\/(f=1/\w=(c:Int)/\g=1)\/(f=0/\w=((c+i:Nat):Int)/\g=2)),⟨2,rfl,.inl ⟨rfl,rfl,rfl⟩⟩,?_⟩;rintro f w g _ w1 ⟨rfl,I⟩;rcases I with⟨rfl,rfl,rfl⟩|⟨rfl,rfl,rfl⟩|⟨rfl,rfl,rfl⟩
 ·refine al.tt dC ⟨a,0,rfl,oM,oM,d,c,l,ae B rfl,?_⟩
  rw[wrap_i64 (x:=0+((c:Nat):Int)) (by unfold aJ;omega)];exact al.dec (λT=>oM) (λ_=>⟨1,oM,rfl,.inr (.inl ⟨rfl,oM,rfl⟩)⟩)
 ·refine al.tt dC ⟨a,0,rfl,oM,oM,s,i,E,ae B rfl,?_⟩
  rw[wrap_i64 (x:=((c:Nat):Int)+((i:Nat):Int)) (by unfold aJ;omega)];exact al.dec (λT=>oM) (λ_=>⟨0,oM,rfl,.inr (.inr ⟨rfl,oM,rfl⟩)⟩)
 refine al.ff dC (PC.ok (GO (m:=c+i) oM P) ?_);rintro _ w2 ⟨U,cq,rfl,Z,k2,hq⟩;have a6:∀n,D n->n≠U:=λn P J=>by have:=C n P;omega
 refine⟨_,_,_,rfl,λf p j q g e=>ai b e/\∃k,(∀n,k n->b.heap.size<=n)/\((f=2/\g=0/\aM fP 5 k e p j q [])\/(f=1/\g=1/\aM fP 5 k e p j q y)\/(f=0/\g=2/\aM fP 5 k e p j q (y++d1))),
  ⟨2,k2,(·=U),λn J=>oM,.inl ⟨rfl,rfl,Z⟩⟩,?_⟩
 rintro f p j q g _ V ⟨r,k,x,I⟩;have W:=r.get B id;have ap:∀{z A:List UInt8} {K u X} {L Y:ZR},aM fP 5 k V p j q z->Row fP 1 b D K u A->z.length+A.length<=140737488355328->
   (∀m t e o,aM fP 5 o e m (j+u) t (z++A)->ai b e->(∀n,o n->b.heap.size<=n)->L (.slice m (j+u) t) e)->
   aG ZP (Builtin.append_ #[237,237] 237 #[.slice p j q,.slice K u X]) V L Y:=by
  intro z A K u X L Y h hr a5 M;refine Ah h tA (hr.ah r) (λn P=>⟨by have:=C n P;have:=r.size;omega,λJ=>?_⟩) (by unfold aK;omega) (by unfold maxLen;omega) λm t N o v a3 _ a4=>?_
  ·have:=C n P;have:=x n (h.self n J);omega
  ·exact M m t N (λn=>aD m=some n) v.alone (r.new a3 λn P=>.inr (x n (h.self n P))) λn P=>(a4 n P).elim (x n) λT=>by have:=r.size;omega
 rcases I with⟨rfl,rfl,h⟩|⟨rfl,rfl,h⟩|⟨rfl,rfl,h⟩
 ·refine al.tt dC ⟨a,0,rfl,oM,oM,d,c,l,ae W rfl,?_⟩
  exact ap h R (by simp;omega) λm t N o v O Q=>⟨_,_,_,rfl,1,oM,O,o,Q,.inr (.inl ⟨rfl,rfl,v⟩)⟩
 ·refine al.tt dC ⟨a,0,rfl,oM,oM,s,i,E,ae W rfl,?_⟩
  exact ap h S oM λm t N o v O Q=>⟨_,_,_,rfl,0,oM,O,o,Q,.inr (.inr ⟨rfl,rfl,v⟩)⟩
 ·exact al.ff dC (Ok.mk ⟨_,_,_,k,rfl,h,r,x⟩)
end
section
open Go.ar
def pN:fL:=⟨[],[],[],[],[]⟩
variable{c6 x:ByteArray}{t:ZT}{B T b0 b5 b6 b7 e m:Int}{a c i l:Nat}{d s:YQ}{b:World}
def pO{P:Int}(j:PA b (.cells #[ZH e,ZH m,ZH B,.slice d a c,ZH T,ZH b0,ZH b5,ZH b6,ZH b7,ZH P] 63) λn=>
   (∃(f:Int),n.cell? ⟨i,l,none⟩=some (ZH f)/\al ((f:Int) !=0) ((∃(g:Int),n.cell? ⟨b.heap.size,0+9,none⟩=some (ZH g)/\
   (∃(h:Int),n.cell? ⟨i,l,none⟩=some (ZH h)/\t (.returned (.bool ((g:Int)==h))) n))) (t (.returned (.bool false)) n))):
  YX 202 #[.agg #[ZH e,ZH m,ZH B,.slice d a c,ZH T,ZH b0,ZH b5,ZH b6,ZH b7,ZH P],.pointer (some ⟨i,l,none⟩)] b t:=
 fO pN mixed Tryz.func202 rfl (Zv kR) kR (Eq.mp kR j)
def pL:fL:=⟨[],[],[],[],[]⟩
def pM(g:PA b (.cells #[.slice s a c] 42) λh=>PC ZP 93 #[.pointer d,.func (.func 195) #[] #[ZL b.heap.size]] h (λi j=>
   ∃(f:YQ) (n:Nat) (P:Nat),i= .slice f n P/\((0:Int)<=(if(if e>0 then e else 0)<((n:Nat):Int)then(if e>0 then e else 0)else((n:Nat):Int))/\
   ((if(if e>0 then e else 0)<((n:Nat):Int)then(if e>0 then e else 0)else((n:Nat):Int)):Int)<=((P:Nat):Int)/\
   t (.returned (.slice f (Int.toNat (if(if e>0 then e else 0)<((n:Nat):Int)then(if e>0 then e else 0)else((n:Nat):Int))) P)) j)) (λk b=>
   t (.panicked k) b)):
  YX 122 #[.pointer d,.slice s a c,ZH e] b t:=
 fO pL mixed Tryz.func122 rfl (Zv kR) kR (Eq.mp kR g)
def sD:fL:=⟨[],[],[],[],[]⟩
def sE(j:PA b (.cells #[ZH e] 3) λn=>PA n (.cells #[ZH 0,ZH 0,ZH 0,.slice none 0 0,ZH 0,ZH 0,ZH 0,ZH 0,ZH 0,ZH 0] 63) λk=>
   PC ZP 93 #[.pointer d,.func (.func 202) #[] #[ZL b.heap.size]] k (λl P=>∃(c:YQ) (a:Nat) (m:Nat),l= .slice c a m/\
   al ((((a:Nat):Int):Int)==0) (kv ZP 63 (ZL n.heap.size) (.agg #[ZH 0,ZH 0,ZH 0,.slice none 0 0,ZH 0,ZH 0,ZH 0,ZH 0,ZH 0,ZH 0]) P λf=>
   (gP ZP 63 (ZL n.heap.size) f λo=>t (.returned (.tuple #[o,.bool false])) f)) ((∃g h,c=some ⟨g,h,none⟩/\
   (0:Int)<=0/\0<((a:Nat):Int)/\(gP ZP 63 (.pointer (some ⟨g,h+Int.toNat 0*10,none⟩)) P λp=>kv ZP 63 (ZL n.heap.size) p P λi=>
   (gP ZP 63 (ZL n.heap.size) i λq=>t (.returned (.tuple #[q,.bool true])) i))))) (λr b=>t (.panicked r) b)):
  YX 126 #[.pointer d,ZH e] b t:=
 fO sD mixed Tryz.func126 rfl (Zv kR) kR (Eq.mp kR j)
def nx:fL:=⟨[],[],[1],[],[(1,⟨[0,1,2,0,0,16,32,72,128,260,1023],[2047,2046,2045,2047,2047,2031,2015,1975,1919,1787,1535],[0,0,1,1,0,0,1,2,0,0,0]⟩)]⟩
def ny{g:Int}(s:PA b (.cells #[ZH e,ZH m,ZH B,.slice d a c,ZH T,ZH b0,ZH b5,ZH b6,ZH b7,ZH g] 63) λu=>
   (∀n,aV u n->∃h:ZN,(¬h b.heap.size/\(∃(j:Int),n.cell? ⟨b.heap.size,0+1,none⟩=some (ZH j)/\(∃(k:YQ) (o:Nat) (p:Nat),n.cell? ⟨i,l,none⟩=some (.slice k o p)/\
   (∃(q:Int),n.cell? ⟨b.heap.size,0,none⟩=some (ZH q)/\PC ZP 196 #[.slice k o p,ZH q] n (λv r=>
   ∃(P:Int),v= ZH P/\(ak h n r/\t (.returned (.bool (decide ((j:Int)>(if P>0 then P else 0))))) r)) (λw f=>
   ∀(_:bL) (_:cy),t (.panicked w) f))))))):
  YX 195 #[.agg #[ZH e,ZH m,ZH B,.slice d a c,ZH T,ZH b0,ZH b5,ZH b6,ZH b7,ZH g],.pointer (some ⟨i,l,none⟩)] b t:=
 fO nx mixed Tryz.func195 rfl (Zv kR) kR (Eq.mp kR s)
def Bs:fL:=⟨[],[],[],[],[]⟩
def Bt{q:Int}{h:Int}(M:PA b (.cells #[ZH e,ZH m,ZH B,.slice d a c,ZH T,ZH b0,ZH b5,ZH b6,ZH b7,ZH q] 63) λn=>
   (∃(r:Int),n.cell? ⟨b.heap.size,0,none⟩=some (ZH r)/\al (decide ((r:Int)<0)) (t (.returned (ZH 1)) n) ((∃(s:Int),n.cell? ⟨b.heap.size,0,none⟩=some (ZH s)/\
   al (decide ((s:Int)>=h)) (t (.returned (ZH 1)) n) ((∃(i:Int),n.cell? ⟨b.heap.size,0+1,none⟩=some (ZH i)/\(∃(j:Int),n.cell? ⟨b.heap.size,0+2,none⟩=some (ZH j)/\
   al (decide (((if j<i then j else i):Int)<1)) (t (.returned (ZH 1)) n) ((∃(k:Int),n.cell? ⟨b.heap.size,0+5,none⟩=some (ZH k)/\
   (∃(l:Int),n.cell? ⟨b.heap.size,0+9,none⟩=some (ZH l)/\al (decide (((if l<k then l else k):Int)<0)) (t (.returned (ZH 1)) n) ((∃(N:YQ) (u:Nat) (O:Nat),n.cell? ⟨b.heap.size,0+3,none⟩=some (.slice N u O)/\
   al ((((u:Nat):Int):Int) !=h) (t (.returned (ZH 1)) n) ((∃(v:YQ) (w:Nat) (x:Nat),n.cell? ⟨b.heap.size,0+3,none⟩=some (.slice v w x)/\
   PC ZP 184 #[.slice v w x,.func (.func 183) #[] #[]] n (λQ f=>∃(y:Bool),Q= .bool y/\al y (t (.returned (ZH 1)) f) ((∃(z:YQ) (A:Nat) (R:Nat),f.cell? ⟨b.heap.size,0+3,none⟩=some (.slice z A R)/\
   (∃(g:Int),f.cell? ⟨b.heap.size,0,none⟩=some (ZH g)/\(∃C E,z=some ⟨C,E,none⟩/\(0:Int)<=g/\g<((A:Nat):Int)/\
   (∃(F:Int),f.cell? ⟨C,E+Int.toNat g,none⟩=some (ZH F)/\(∃(H:Int),f.cell? ⟨b.heap.size,0+1,none⟩=some (ZH H)/\
   (∀P,aV f P->al ((F:Int) !=(ZG .i64 (H-1))) (t (.returned (ZH 9)) P) ((∃(I:Int),P.cell? ⟨b.heap.size,0+7,none⟩=some (ZH I)/\
   al (decide ((I:Int)<1)) (t (.returned (ZH 2)) P) ((∃(J:Int),P.cell? ⟨b.heap.size,0+7,none⟩=some (ZH J)/\al (decide ((J:Int)>5)) (t (.returned (ZH 2)) P) ((∃(o:Int),P.cell? ⟨b.heap.size,0+4,none⟩=some (ZH o)/\
   (∃(p:Int),P.cell? ⟨b.heap.size,0+6,none⟩=some (ZH p)/\al (decide (((if p<o then p else o):Int)<0)) (t (.returned (ZH 8)) P) ((∃(K:Int),P.cell? ⟨b.heap.size,0+4,none⟩=some (ZH K)/\
   al (decide ((K:Int)>=8)) (t (.returned (ZH 8)) P) ((∃(L:Int),P.cell? ⟨b.heap.size,0+6,none⟩=some (ZH L)/\al (decide ((L:Int)>=8)) (t (.returned (ZH 8)) P) (t (.returned (ZH 0)) P)))))))))))))))))))) (λS b=>
   t (.panicked S) b))))))))))))))):
  YX 113 #[.agg #[ZH e,ZH m,ZH B,.slice d a c,ZH T,ZH b0,ZH b5,ZH b6,ZH b7,ZH q],ZH h] b t:=
 fO Bs mixed Tryz.func113 rfl (Zv kR) kR (Eq.mp kR M)
def ia:fL:=⟨[],[],[],[],[]⟩
def ic(n:al (decide ((((ByteArray.size x:Nat):Int):Int)>=((ByteArray.size c6:Nat):Int))) (((0:Int)<=((ByteArray.size c6:Nat):Int)/\(((ByteArray.size c6:Nat):Int):Int)<=((ByteArray.size x:Nat):Int)/\rt t ((.bool ((ByteArray.toList (ByteArray.extract x 0 (Int.toNat ((ByteArray.size c6:Nat):Int))))==(ByteArray.toList c6)))) b)) (rt t ((.bool false)) b)):YX 324 #[.string x,.string c6] b t:=DC ia Tryz.func324 rfl n
def qC:fL:=⟨[],[],[],[],[]⟩
def qD(a:PC_ 283 #[.string x,.string c6] b (λc d=>∃n P,c= .tuple #[.string n,.bool P]/\rt t ((.tuple #[.string n,.bool P])) d) (pE t)):YX 224 #[.string x,.string c6] b t:=DC qC Tryz.func224 rfl a
def g_:fL:=⟨[],[],[],[],[]⟩
def h_(P:PC_ 324 #[.string x,.string c6] b (kB λa n=>al (!a) (rt t ((.tuple #[.string x,.bool false])) n) (((0:Int)<=((ByteArray.size c6:Nat):Int)/\(((ByteArray.size c6:Nat):Int):Int)<=((ByteArray.size x:Nat):Int)/\rt t ((.tuple #[.string (ByteArray.extract x (Int.toNat ((ByteArray.size c6:Nat):Int)) (ByteArray.size x)),.bool true])) n))) (pE t)):YX 283 #[.string x,.string c6] b t:=DC g_ Tryz.func283 rfl P
def Gw:fL:=⟨[],[],[4],[],[(4,⟨[0,1,2,4,0,0,32,80,128,264,0,1024,2048,1023,16383,32767],[65535,65534,65533,65531,65535,65535,65503,65455,65407,65271,65535,64511,63487,65023,61439,65535],[0,0,1,0,0,0,0,0,2,0,0,0,0,2,0,0]⟩)]⟩
def Gx(w:PA b (.cells #[.ii 0,.slice none 0 0] 277) λx=>PC_ 225 #[.slice d a c] x (λy j=>∃n f,y= .tuple #[.ii n,.ii f]/\al (f !=0) (PS j (ab_ b 0) (.ii 0) λz=>PS z (ab_ b (0+1)) (.slice none 0 0) λg=>(∃k l m o,g.cell? (ab_ b 0)=some (.ii k)/\g.cell? (ab_ b (0+1))=some (.slice l m o)/\rt t ((.tuple #[.agg #[.ii k,.slice l m o],.ii 0,.ii f])) g)) ((∀P,aV j P->∃h:ZN,(ix_ d 0 a λp A=>(¬h p/\(∃q,P.cell? (ad p (A+Int.toNat 0))=some (.int .u8 q)/\((0:Int)<=4/\(4:Int)<=(ZG .i64 (4+n))/\((ZG .i64 (4+n)):Int)<=(c:Int)/\PC_ 207 #[.slice (cI d (Int.toNat 4) c 1) (Int.toNat (ZG .i64 (4+n))-Int.toNat 4) (c-Int.toNat 4)] P (kS_ λB C D i=>(ak h P i/\PS i (ab_ b 0) (.ii (ZG .i64 q)) λE=>PS E (ab_ b (0+1)) (.slice B C D) λe=>(ak h i e/\(∃r s u v,e.cell? (ab_ b 0)=some (.ii r)/\e.cell? (ab_ b (0+1))=some (.slice s u v)/\rt t ((.tuple #[.agg #[.ii r,.slice s u v],.ii (ZG .i64 ((ZG .i64 (4+n))+5)),.ii 0])) e)))) (pZ t)))))))) (pE t)):YX 163 #[.slice d a c] b t:=DC Gw Tryz.func163 rfl w
def Gy:fL:=⟨[],[],[],[],[]⟩
def Gz(l:PA b (.cells #[.ii e,.slice d a c] 277) λn=>(rS n (ab_ b (0+1)) λC f D=>(rI n (ab_ b 0) λm=>al (decide (m<1)) (rt t ((.tuple #[.slice none 0 0,.ii 2])) n) ((rI n (ab_ b 0) λo=>al (decide (o>255)) (rt t ((.tuple #[.slice none 0 0,.ii 2])) n) (al (decide ((f:Int)>65536)) (rt t ((.tuple #[.slice none 0 0,.ii 5])) n) ((rI n (ab_ b 0) λp=>PA n (.cells #[.int .u8 (ZG .u8 p),.int .u8 (ZG .u8 (gY .i64 (f:Int) 16)),.int .u8 (ZG .u8 (gY .i64 (f:Int) 8)),.int .u8 (ZG .u8 (f:Int))] 5) λg=>(rS g (ab_ b (0+1)) λq r s=>PA g (.cells #[.slice (some (ab_ n 0)) 4 4,.slice q r s] 237) λu=>PC_ 294 #[.slice (some (ab_ g 0)) 2 2] u (kS_ λh i j v=>PC_ 285 #[.slice h i j] v (λw k=>∃P,w= .int .u32 P/\PA k (.cells #[.int .u8 (ZG .u8 (gY .u32 P 24)),.int .u8 (ZG .u8 (gY .u32 P 16)),.int .u8 (ZG .u8 (gY .u32 P 8)),.int .u8 (ZG .u8 P),.int .u8 10] 5) λx=>PR_ (ap_ 237 (.slice h i j) (.slice (some (ab_ k 0)) 5 5)) x (kS_ λy z A B=>rt t ((.tuple #[.slice y z A,.ii 0])) B) (pV t)) (pE t)) (pE t)))))))))):YX 241 #[.agg #[.ii e,.slice d a c]] b t:=DC Gy Tryz.func241 rfl l
def Bz:fL:=⟨[],[],[],[],[(11,⟨[0,1,0,4,10,18,48,64,192,320,576,1088],[4095,4094,4095,4091,4087,4077,4063,4031,3903,3775,3519,3007],[0,2,0,0,2,0,0,0,0,1,0,0]⟩)]⟩
def BA(o:al (decide ((a:Int)<4)) (rt t ((.tuple #[.ii 0,.ii 4])) b) (((0:Int)<=1/\(1:Int)<=4/\(4:Int)<=(c:Int)/\PC_ 284 #[.slice (cI d (Int.toNat 1) c 1) (Int.toNat 4-Int.toNat 1) (c-Int.toNat 1)] b (λp P=>∃n,p= .int .u32 n/\(ix_ d 0 a λq r=>(∃f,P.cell? (ad q (r+Int.toNat 0))=some (.int .u8 f)/\al (f==0) (rt t ((.tuple #[.ii 0,.ii 2])) P) (al (decide (((ZG .i64 n):Int)>65536)) (rt t ((.tuple #[.ii 0,.ii 5])) P) (al (decide ((a:Int)<(ZG .i64 ((ZG .i64 (4+(ZG .i64 n)))+5)))) (rt t ((.tuple #[.ii 0,.ii 4])) P) (((0:Int)<=(ZG .i64 (4+(ZG .i64 n)))/\((ZG .i64 (4+(ZG .i64 n))):Int)<=(c:Int)/\((0:Int)<=(ZG .i64 (4+(ZG .i64 n)))/\((ZG .i64 (4+(ZG .i64 n))):Int)<=(ZG .i64 ((ZG .i64 (4+(ZG .i64 n)))+5))/\((ZG .i64 ((ZG .i64 (4+(ZG .i64 n)))+5)):Int)<=(c:Int)/\(∀g,aV P g->(∀h,aV g h->((0:Int)<=4/\(4:Int)<=(((c-Int.toNat (ZG .i64 (4+(ZG .i64 n)))):Nat):Int)/\PC_ 285 #[.slice d (Int.toNat (ZG .i64 (4+(ZG .i64 n)))) c] h (λs u=>∃i,s= .int .u32 i/\PC_ 284 #[.slice (cI d (Int.toNat (ZG .i64 (4+(ZG .i64 n)))) c 1) (Int.toNat 4) (c-Int.toNat (ZG .i64 (4+(ZG .i64 n))))] u (λv e=>∃j,v= .int .u32 j/\al (i !=j) (rt t ((.tuple #[.ii 0,.ii 6])) e) ((∃k l,(cI d (Int.toNat (ZG .i64 (4+(ZG .i64 n)))) c 1)=some ⟨k,l,none⟩/\(0:Int)<=4/\4<((Int.toNat (ZG .i64 ((ZG .i64 (4+(ZG .i64 n)))+5))-Int.toNat (ZG .i64 (4+(ZG .i64 n))):Nat):Int)/\(∃m,e.cell? (ad k (l+Int.toNat 4))=some (.int .u8 m)/\al (m !=10) (rt t ((.tuple #[.ii 0,.ii 6])) e) (rt t ((.tuple #[.ii (ZG .i64 n),.ii 0])) e))))) (pZ t)) (pZ t)))))))))))) (pE t)))):YX 225 #[.slice d a c] b t:=DC Bz Tryz.func225 rfl o
end
end Go.Proofs.YtjgjkeponbeekaaGreatDoor
namespace Go.ar
open Go
def BW(n:List UInt8)(P:Nat)(a:(n.getD 1 0).toNat*65536+(n.getD 2 0).toNat*256+(n.getD 3 0).toNat=P):
  br n=if n.length<4 then⟨0,[],0,4⟩else if n.getD 0 0=0 then⟨0,[],0,2⟩else if 65536<P then⟨0,[],0,5⟩else if n.length<P+9 then⟨0,[],0,4⟩else
   if n.take (P+9)=gC (n.getD 0 0).toNat ((n.drop 4).take P)then⟨(n.getD 0 0).toNat,(n.drop 4).take P,P+9,0⟩else⟨0,[],0,6⟩:=by
 unfold br;rw[a]
variable{y:List UInt8}
def QH(n:(br y).no=0):(br y).kind=((y.getD 0 0).toNat:Int)/\(br y).body=(y.drop 4).take ((br y).n-9)/\4<=y.length:=by
 rw[BW y _ rfl]at n⊢;split at n
 ·cases n
 rename_i P;rw[Zq P];split at n
 ·cases n
 rename_i a;rw[Zq a];split at n
 ·cases n
 rename_i b;rw[Zq b];split at n
 ·cases n
 rename_i c;rw[Zq c];split at n
 ·rename_i d
  rw[Zx d];exact⟨rfl,sM,oM⟩
 ·cases n
end Go.ar
namespace Go.Proofs.YtjgjkeponbeekaaGreatDoor
section
open Go.ar
def BX(n:List UInt8):List Value:=n.map λP=>Value.int .u8 (P.toNat:Int)
variable{e:Int}{y:List UInt8}{a c:Nat}{d:YQ}{b:World}
def EC{f:Nat×Nat}(n:List UInt8)(P:b.heap[a]? =some (.cells (BX n).toArray 5 f))(d:n.length<=1000):Row fP 1 b (·=a) (ZM a) n.length n:=
 Row.lit (enc:=λc:UInt8=>Value.int .u8 (c.toNat:Int)) P n (by simp[BX]) (λ_ _=>trivial) (by unfold aK;omega)
def ED{D:ZN}(A:qu b)(P:Row fP 1 b D d a y)(B:∀n,D n->n<b.heap.size):
  YX 241 #[.agg #[ZH e,.slice d a c]] b (Ok λC E=>∃u,C= .tuple #[u,ZH (jZ e y).2]/\oZ fP 5 b (jZ e y).1 u E):=by
 have F:=P.len;refine Gz (PA.mk λg j s1 k=>⟨d,a,c,ae k rfl,_,ae k rfl,al.dec (λh=>?_) (λh1=>⟨_,ae k rfl,al.dec (λh=>?_) (λh2=>al.dec (λh=>?_) (λh3=>?_))⟩)⟩)
 ·rw[show jZ e y=([],2) by unfold jZ;rw[Zx oM]]
  exact Ok.mk ⟨_,rfl,none,0,0,λ_=>False,rfl,aM.nil g,j,λ_ h=>h.elim⟩
 ·rw[show jZ e y=([],2) by unfold jZ;rw[Zx oM]]
  exact Ok.mk ⟨_,rfl,none,0,0,λ_=>False,rfl,aM.nil g,j,λ_ h=>h.elim⟩
 ·rw[show jZ e y=([],5) by unfold jZ;rw[Zq oM,Zx oM]]
  exact Ok.mk ⟨_,rfl,none,0,0,λ_=>False,rfl,aM.nil g,j,λ_ h=>h.elim⟩
 rw[show jZ e y=(gC e y,0) by unfold jZ;rw[Zq oM,Zq oM]];refine⟨_,ae k rfl,PA.mk λH l s2 I=>⟨d,a,c,ae (l.get k id) rfl,PA.mk λo m s3 J=>?_⟩⟩;have K:gY .i64 ((a:Nat):Int) 16=((a/65536:Nat):Int):=Nq (k:=.i64) (u:=a) (m:=16) dC;have L:gY .i64 ((a:Nat):Int) 8=((a/256:Nat):Int):=Nq (k:=.i64) (u:=a) (m:=8) dC;have M:e=((e.toNat:Nat):Int):=oM
 have N:H.heap[g.heap.size]? =some (.cells (BX [UInt8.ofNat e.toNat,UInt8.ofNat (y.length/65536),UInt8.ofNat (y.length/256),UInt8.ofNat y.length]).toArray 5 (0,0)):=by
  rw[I,K,L,M,jz,jz,jz,jz,F];simp[BX]
 have O:Row fP 1 o (λn=>D n\/n=g.heap.size) (ZM g.heap.size) 4 [UInt8.ofNat e.toNat,UInt8.ofNat (y.length/65536),UInt8.ofNat (y.length/256),UInt8.ofNat y.length]:=
  (EC (f:=(0,0)) [UInt8.ofNat e.toNat,UInt8.ofNat (y.length/65536),UInt8.ofNat (y.length/256),UInt8.ofNat y.length] (m.get N id) sM).mono λn P=>.inr P
 have Q:Row fP 1 o (λn=>D n\/n=g.heap.size) d a y:=(P.ah ((j.then l).then m)).mono λn P=>.inl P;refine PC.ok (BV J O Q (λn P=>P.elim (λh=>by have:=B n h;omega) λh=>oM) oM (by unfold aK;omega)) ?_;rintro _ p ⟨a4,n4,c4,F4,rfl,i,R,v⟩;have S:[UInt8.ofNat e.toNat,UInt8.ofNat (y.length/65536),UInt8.ofNat (y.length/256),UInt8.ofNat y.length]++y=mI e y:=rfl;rw[S]at i;have a8:=i.len dC;have q:(mI e y).length=4+y.length:=by simp[mI];omega
 have r:ai b p:=((j.then l).then m).then R;refine⟨_,_,_,rfl,PC.ok (MA (A.ah r) (i.row (bytes:=1) dC (by rw[q];unfold aK;omega))) ?_⟩;rintro _ s ⟨rfl,T⟩;have t:ai p s:=T.af;refine⟨_,rfl,?_⟩;generalize U:(NN (mI e y)).toNat=f;have V:gY .u32 (f:Int) 24=((f/16777216:Nat):Int):=Nq (k:=.u32) (u:=f) (m:=24) dC;have W:gY .u32 (f:Int) 16=((f/65536:Nat):Int):=Nq (k:=.u32) (u:=f) (m:=16) dC;have X:gY .u32 (f:Int) 8=((f/256:Nat):Int):=Nq (k:=.u32) (u:=f) (m:=8) dC;rw[V,W,X,jz,jz,jz,jz];refine PA.mk λY w s6 Z=>?_;have a1:Y.heap[s.heap.size]? =some (.cells (BX (QI f++[10])).toArray 5 (0,0)):=by rw[Z];rfl
 have a2:=(i.ah t).ah w;have a9:p.heap.size<=s.heap.size:=t.size;refine kN a2 tA (EC (QI f++[10]) a1 (by simp[QI])) (λn x=>⟨oM,λe2=>by have:=i.aC n (i.self n e2);omega⟩) (by rw[q];unfold aK;simp[QI];omega) (by rw[q];unfold maxLen;simp[QI];omega) λz c7 w7 F7 a3 a5 _ a6=>?_;refine⟨_,_,_,rfl,Ok.mk ⟨_,rfl,z,_,c7,λn=>aD z=some n,rfl,?_,?_,?_⟩⟩
 ·have h7:=a3.alone
  have x:gC e y=mI e y++(QI f++[10]):=by unfold gC;rw[U,XQ]
  rw[x];exact h7
 ·exact((r.then t).then w).new a5 λn P=>.inr (by have:=v n (i.self n P);have:=j.size;have:=l.size;have:=m.size;omega)
 ·intro n P
  have b0:b.heap.size<=o.heap.size:=oM
  rcases a6 n P with h|h
  ·have:=v n h;omega
  ·have:=r.size;omega
def IW{D:ZN}(C:qu b)(f:Row fP 1 b D d a y)(q:a<=c):
  YX 225 #[.slice d a c] b (Ok λE F=>E= .tuple #[ZH (((br y).n-9:Nat):Int),ZH (br y).no]/\aV b F):=by
 have W:=f.len;have H:=f.ef;unfold aK at H;generalize r:(y.getD 1 0).toNat*65536+(y.getD 2 0).toNat*256+(y.getD 3 0).toNat=n;have P:=BW y n r;refine BA (al.dec (λk=>?_) (λX=>?_))
 ·rw[P,Zx oM]
  exact Ok.mk ⟨rfl,aV.refl b⟩
 rw[Zq (show¬y.length<4 by omega)]at P;refine⟨oM,oM,oM,PC.ok (vB (bs:=(y.take 4).drop 1) (f.part (lo:=1) (hi:=4) (cap:=c) oM oM q) dC) ?_⟩;rintro _ Y ⟨rfl,rfl⟩;have I:gJ ((y.take 4).drop 1)=n:=by
  rw[TO oM];show gJ [y.getD 1 0,y.getD 2 0,y.getD 3 0]=n;simp only[gJ,List.foldl];omega
 have Z:n<16777216:=by
  have h1:=(y.getD 1 0).toNat_lt;have h2:=(y.getD 2 0).toNat_lt;have h3:=(y.getD 3 0).toNat_lt;omega
 rw[I];obtain⟨i,e,s,rfl,J,_,g⟩:=f.mR (i:=0) oM;have h:y.getD 0 0=s:=by rw[QQ,J];rfl
 have K:ZG .i64 (n:Int)=(n:Int):=wrap_i64 (by unfold aJ;omega);have L:ZG .i64 (4+(n:Int))=((4+n:Nat):Int):=by rw[wrap_i64 (by unfold aJ;omega)];omega
 have M:ZG .i64 (((4+n:Nat):Int)+5)=((4+n+5:Nat):Int):=by rw[wrap_i64 (by unfold aJ;omega)];omega
 refine⟨_,rfl,i,e,rfl,oM,oM,_,g,?_⟩;rw[K,L,M];refine al.cX (λk=>?_) (λl=>al.dec (λk=>?_) (λa8=>al.dec (λk=>?_) (λa7=>?_)))
 ·rw[P,h,Zx (UInt8.toNat_inj.1 (by
                        have:s.toNat=0:=oM
                        rw[this];rfl))]
  exact Ok.mk ⟨rfl,aV.refl b⟩
 ·rw[P,h,Zq (by rintro rfl;exact l rfl),Zx oM]
  exact Ok.mk ⟨rfl,aV.refl b⟩
 ·rw[P,h,Zq (by rintro rfl;exact l rfl),Zq oM,Zx oM]
  exact Ok.mk ⟨rfl,aV.refl b⟩
 rw[h,Zq (by rintro rfl;exact l rfl),Zq (show¬65536<n by omega),Zq (show¬y.length<n+9 by omega)]at P;have j:=UE (b:=y) (n:=n) oM r oM;rw[h]at j;refine⟨oM,oM,oM,oM,oM,λw8 t N u=>⟨oM,oM,?_⟩⟩;have v:ai b N:=(t.then u).af;have w:=f.ah v;refine PC.ok (MA (C.ah v) (w.take (m:=4+n) oM)) ?_;rintro _ O ⟨rfl,x⟩;have z:=w.ah x.af;have A:=z.part (lo:=4+n) (hi:=4+n+4) (cap:=c) oM oM q;rw[show 4+n+4-(4+n)=4 by omega]at A;refine⟨_,rfl,PC.ok (vB A dC) ?_⟩;rintro _ a9 ⟨rfl,rfl⟩;have Q:(y.take (4+n+4)).drop (4+n)=(y.drop (4+n)).take 4:=by rw[List.drop_take];congr 1;omega
 rw[Q];have m:aV b O:=(t.then u).then x;refine⟨_,rfl,al.dP (λo=>?_) (λb0=>?_)⟩
 ·rw[P,Zq (λg=>o (by rw[(j.1 g).1]))]
  exact Ok.mk ⟨rfl,m⟩
 obtain⟨b7,o8,p,R,S,_,T⟩:=z.mR (i:=8+n) oM
 cases R
 have B:y.getD (8+n) 0=p:=by rw[QQ,S];rfl
 have U:cI (some ⟨i,e,none⟩) (4+n) c 1=some ⟨i,e+(4+n),none⟩:=by
  unfold cI;rw[Zq oM];simp[Addr.add_lit]
 refine⟨i,e+(4+n),U,oM,oM,_,by rw[show e+(4+n)+Int.toNat 4=e+(8+n) by show e+(4+n)+4=_;omega];exact T,al.dP (λo=>?_) (λhe=>?_)⟩
 ·rw[P,Zq (λg=>o (by rw[<-B,(j.1 g).2];rfl))]
  exact Ok.mk ⟨rfl,m⟩
 ·have V:p=10:=UInt8.toNat_inj.1 (by show p.toNat=10;omega)
  rw[P,Zx (j.2 ⟨oM,B.trans V⟩)];exact Ok.mk ⟨sM,m⟩
def EE{D:ZN}(Q:qu b)(P:Row fP 1 b D d a y)(s:a<=c)(t:∀n,D n->n<b.heap.size):
  YX 163 #[.slice d a c] b (Ok λR u=>∃v w x z,R= .tuple #[.agg #[ZH (br y).kind,.slice v w x],ZH ((br y).n:Int),ZH (br y).no]/\
   aM fP 5 z u v w x (br y).body/\ai b u/\∀n,z n->b.heap.size<=n):=by
 have hn:=P.len;have S:=P.ef;unfold aK at S;refine Gx (PA.mk λA h s1 T=>PC.ok (IW (Q.ah h) (P.ah h) s) ?_);rintro _ B ⟨rfl,U⟩;have i:ai A B:=U.af;have C:=i.get T id;refine⟨_,_,rfl,al.dP (λj=>?_) (λk=>?_)⟩
 ·have l:(br y).kind=0/\(br y).body=[]/\(br y).n=0:=by
   rw[BW y _ rfl]at j⊢
   repeat' split
   all_goals first|exact⟨rfl,rfl,rfl⟩|skip
   rename_i V W X Y Z;rw[Zq V,Zq W,Zq X,Zq Y,Zx Z]at j;exact Zz rfl j
  rw[l.1,l.2.1,l.2.2];refine storeAll [ZH 0,.slice none 0 0] C rfl λf g s3 E=>⟨0,none,0,0,ae E rfl,ae E rfl,Ok.mk ⟨none,0,0,λ_=>False,rfl,aM.nil f,?_,λ_ m=>m.elim⟩⟩
  exact(h.then i).new g λn P=>.inr oM
 obtain⟨a0,h9,a1⟩:=vC k;generalize a2:(br y).n=e at a0 h9 a1;obtain⟨a3,F,b1⟩:=QH k;rw[a2]at F;have H:(br y).kind=((y.getD 0 0).toNat:Int)/\(br y).body=(y.drop 4).take (e-9):=⟨a3,F⟩
 intro f a5;have g:ai B f:=a5.af;have o:ai b f:=(h.then i).then g;have p:=P.ah o;obtain⟨I,o6,J,rfl,hx,_,hc⟩:=p.mR (i:=0) oM;obtain⟨b2,b3,x',es,a6,_,a7,_⟩:=p.wv (i:=0) oM
 cases a6
 have a8:y.getD 0 0=J:=by rw[QQ,hx];rfl
 have e4:ZG .i64 (4+((e-9:Nat):Int))=((4+(e-9):Nat):Int):=by rw[wrap_i64 (by unfold aJ;omega)];omega
 have e9:ZG .i64 (((4+(e-9):Nat):Int)+5)=(e:Int):=by rw[wrap_i64 (by unfold aJ;omega)];omega
 refine⟨λn=>b.heap.size<=n,I,o6,rfl,oM,oM,by have:=t I a7;omega,_,hc,?_⟩;rw[e4,e9];refine⟨oM,oM,oM,?_⟩;have a4:=p.part (lo:=4) (hi:=4+(e-9)) (cap:=c) oM oM s;refine PC.ok (kM a4 (λn m=>by have:=t n m;have:=o.size;omega)) ?_;rintro _ w4 ⟨K,L,M,F4,rfl,a9,q,N⟩;have b4:A.heap.size<=f.heap.size:=(i.then g).size;have g4:=q.get (g.get C id) id;refine⟨_,_,_,rfl,q.af,?_⟩;refine storeAll [ZH (ZG .i64 (J.toNat:Int)),.slice K L M] g4 rfl λw5 r s5 O=>⟨r.mono λn _ b0=>oM,_,_,_,_,ae O rfl,ae O rfl,Ok.mk ⟨K,L,M,F4,?_,?_,?_,?_⟩⟩
 ·rw[Lp,H.1,a8,k]
 ·rw[H.2,<-show(y.take (4+(e-9))).drop 4=(y.drop 4).take (e-9) by rw[List.drop_take];congr 1;omega]
  exact a9.af r λn P b0=>by have:=N n P;omega
 ·exact(o.then q).new r λn P=>.inr oM
 ·intro n P;have:=N n P;omega
end
section
open Go.ar
variable{X o:Array Value}{b1:FrameMode}{A:FuncId}{e:Int}{b2 v:List Int}{a6:List PanicEntry->ZU}{y:List UInt8}{L:List aj}{a c i:Nat}{f:ZN}{U Y:Operand}{d s:YQ}{h:Program}{b:World}{z:ZU}{q:aj}{a0:mE}
def Ro(k:e_ b a f a0):
  YX 228 #[ZL a,ZH e] b (UW b a f a0 (if a0.num.1=0 then(if a0.num.2.1<0\/e<a0.num.2.1 then 3 else 0)else a0.num.1) (λi l=>i= ZH a0.num.2.1) a0.num.2.2):=by
 refine su (PC.red (EY k) ?_ ?_)
 rotate_left
 ·intro c j d g h
  rw[Zq c];exact⟨.inr ⟨c,rfl,d⟩,g,h⟩
 rintro c _ j d rfl g h;rw[Zx c];have P:a0.num.2.1<0\/e<a0.num.2.1->UW b a f a0 (if a0.num.2.1<0\/e<a0.num.2.1 then 3 else 0) (λi l=>i= ZH a0.num.2.1) a0.num.2.2 (.panicked (TX 3)) j:=λn=>by
  rw[Zx n];exact⟨.inr ⟨dC,rfl,_,d⟩,g,h⟩
 refine⟨_,rfl,al.dec (λm=>fS (λn=>⟨rfl,?_⟩) (λn=>P (.inr ?_))) (λm=>fS (λn=>by cases n) (λ_=>P (.inl oM)))⟩
 ·have n:=XV n
  rw[Zq oM];exact⟨.inl ⟨rfl,d,_,rfl,rfl⟩,g,h⟩
 ·have n:=Xy n
  omega
def Jo:(do eqGuard .eql 20 U (.const .nilIface) .nilIface .nilIface;binOp .eql 20 .nilIface .nilIface:Sem Value).run ZP b= .ok (.bool true) b:=by
 cases U<;>rfl
def Hg:(do eqGuard .eql 20 U Y (.iface 372 (ZH e)) .nilIface;binOp .eql 20 (.iface 372 (ZH e)) .nilIface:Sem Value).run ZP b= .ok (.bool false) b:=by
 rfl
def Jp:(Instr.typeAssert (.iface 372 (ZH e)) 20 372 true).run ZP b= .ok (.tuple #[ZH e,.bool true]) b:=by
 rfl
def Lv.ret{ret:ZU}(n:b1= .returning)(P:ret b):Lv h ret a6 [] b1 b:=by
 subst n;unfold Lv;exact P
def Lv.one(a:b1≠.run)(c:enters h A=true)(d:CallsD h A o b1 b λe n P=>QU e (λ_=>Lv h z a6 [] (settle n) P) (λf=>Lv h z a6 [] (raised n f) P)):Lv h z a6 [{target:=.fn (.func A) o,args:= #[]}] b1 b:=
 ⟨a,A,o,rfl,c,by rw[show(#[]++o:Array Value)=o by simp];exact d⟩
def Cx{h S:ZN}(d:e_ b a h a0){i:FuncId}(I:enters ZP i=true){A:ZU}{no:Int}(t:∀e,S e->e<b.heap.size)(J:a0.vO=0->∀c,ai b c->YX i (o++ #[]++X) c λP n=>ak S c n/\((no=0/\P= .returned (.tuple #[])/\A n)\/(no≠0/\(no=3\/no=4\/no=5)/\P= .panicked (TX no)/\ak (·=a) c n/\∃u,e_ n a h ⟨a0.bytes,u,0⟩))):
  YX 226 #[ZL a,.func (.func i) o X] b (Ok λK n=>K= .tuple #[]/\ak (λe=>S e\/e=a) b n/\
   ((a0.vO≠0/\ai b n)\/(a0.vO=0/\no=0/\ak S b n/\A n)\/(a0.vO=0/\no≠0/\ak (·=a) b n/\e_ n a h ⟨a0.bytes,a0.pos,no⟩))):=by
 obtain⟨a2,a3,L,G,v,h2,h3⟩:=d.body;have hp:=ax v;refine px (PA.mk λc j s1 k=>?_);have w:=j.get v id;refine⟨_,ae k rfl,a,0,rfl,_,ae w rfl,al.dP (λM=>Ok.mk ⟨rfl,j.af,.inl ⟨M,j⟩⟩) (λl=>?_)⟩;refine⟨_,ae k rfl,a,0,rfl,_,ae w rfl,PA.mk λw2 N s2 O=>PS.mk O sM λm Q s3 R=>⟨i,o,X,rfl,I,?_⟩⟩;have x:ak (·=c.heap.size) c m:=N.af.then Q;have p:ai b m:=j.new x λe hb=>.inr oM;refine(J l m p).mono ?_;rintro P f ⟨q,T⟩;have y:f.heap[b.heap.size]? =some (.cells #[ZL a] 280 (0,0)):=q.get (x.get k (by intro P;omega)) (λr=>by have:=t _ r;omega);have U:f.heap[c.heap.size]? =some (.cells #[ZH (a0.pos:Int)] 3 (0,0)):=q.get R (λr=>by have:=t _ r;omega);have z:ak S b f:=p.af.then q;rcases T with⟨s,rfl,V⟩|⟨s,W,rfl,Y,u,B⟩
 ·refine⟨rfl,Lv.one sM kR ?_⟩
  refine CallsD.mono (gj (rv:=.nilIface) (u:=.returning) rfl (R:=λP g n=>P= .returned (.tuple #[])/\g= .returning/\n=f) ?_) ?_
  ·exact aG.mk Jo ⟨_,rfl,al.tt rfl ⟨rfl,rfl,rfl⟩⟩
  ·rintro P g n ⟨rfl,rfl,rfl⟩
   refine Lv.ret rfl ?_;exact Ok.mk ⟨rfl,z.mono λ_ _ d=>.inl d,.inr (.inl ⟨l,s,z,V⟩)⟩
 ·refine Lv.one sM kR ?_
  obtain⟨a',n',C,G',Z,e2,e3⟩:=B.body;refine CallsD.mono (gj (rv:=.iface 372 (ZH no)) (u:=.panicking (TX no)) rfl (R:=λP g n=>P= .returned (.tuple #[])/\settle g= .returning/\e_ n a h ⟨a0.bytes,a0.pos,no⟩/\ak (·=a) b n) ?_) ?_
  ·refine aG.mk (v:=.bool false) (w':=f) ?_ ⟨_,rfl,al.ff rfl (aG.mk (v:=.tuple #[ZH no,.bool true]) (w':=f) ?_ ⟨_,_,rfl,al.tt rfl ?_⟩)⟩
   ·exact Hg
   ·exact Jp
   ·refine⟨_,ae y rfl,_,ae y rfl,_,ae U rfl,a,0,rfl,PS.mk Z sM λw5 E s5 g5=>⟨a,0,rfl,PS.mk g5 sM λw6 F s6 g6=>⟨rfl,rfl,?_,?_⟩⟩⟩
    ·exact B.dT (r':=⟨a0.bytes,a0.pos,no⟩) e2 e3 (E.then F) g6 rfl ⟨d.fit.pos,.inr W⟩
    ·exact(p.af.then Y).then (E.then F)
  ·rintro P g n ⟨rfl,eh,a1,H⟩
   refine Lv.ret eh ?_;exact Ok.mk ⟨rfl,H.mono λ_ _ d=>.inr d,.inr (.inr ⟨l,s,H,a1⟩)⟩
def GG(n:e_ b a f a0):
  YX 166 #[ZL a] b (Ok λq g=>q= ZH (fF a0).1/\e_ g a f (fF a0).2/\ak (·=a) b g):=by
 have O:a<b.heap.size:=n.aC a n.self;refine uX (PA.mk λk F Q w=>PA.mk λH r R s=>⟨_,ae (r.get w id) rfl,?_⟩);have x:ai b H:=F.then r;have t:=n.ah x;have I:=r.get w id;refine PC.ok (Cx (S:=λe=>e=a\/e=k.heap.size) (no:=a0.num.1) (A:=λg=>e_ g a f ⟨a0.bytes,a0.pos+a0.num.2.2,a0.vO⟩/\g.heap[k.heap.size]? =some (.cells #[ZH a0.num.2.1] 3 (0,0))) t kR ?_ ?_) ?_
 ·rintro e (rfl|rfl)<;>omega
 ·intro J l p
  refine sv ⟨_,ae (p.get I id) rfl,PC.red (EY (t.ah p)) ?_ ?_⟩
  ·rintro h _ y P rfl i z
   have u:=i.get (p.get s id) oM;refine⟨_,rfl,PS.mk u sM λS A T K=>⟨(i.mono λ_ _ n=>.inl n).then (A.mono λ_ _ n=>.inr n),.inl ⟨h,rfl,P.af A λe m d=>?_,K⟩⟩⟩;have:=n.aC e m;omega
  ·rintro h y P i z
   rw[J]at P;have:=jC (a0.bytes.drop a0.pos);exact⟨i.mono λ_ _ n=>.inl n,.inr ⟨h,by have:=this.2.2.2.1;unfold mE.num at h⊢;omega,rfl,i,P⟩⟩
 ·rintro _ l ⟨rfl,p,L⟩
  have M:ak (·=a) b l:=x.af.new p λe m=>by
   rcases m with(rfl|rfl)|rfl
   ·exact .inl rfl
   ·exact .inr oM
   ·exact .inl rfl
  have c:∀v:Int,l.heap[k.heap.size]? =some (.cells #[ZH v] 3 (0,0))->e_ l a f (fF a0).2->v=(fF a0).1->
    (∃B:Int,l.cell? ⟨k.heap.size,0,none⟩=some (ZH B)/\PS l ⟨k.heap.size,0,none⟩ (ZH B) λC=>∃E:Int,C.cell? ⟨k.heap.size,0,none⟩=some (ZH E)/\
     Ok (λq g=>q= ZH (fF a0).1/\e_ g a f (fF a0).2/\ak (·=a) b g) (.returned (ZH E)) C):=by
   rintro v j P rfl;refine⟨_,ae j rfl,PS.mk j sM λy i z u=>⟨_,ae u rfl,Ok.mk ⟨rfl,P.af i λe m d=>?_,M.new i λe m=>.inr oM⟩⟩⟩;have:=n.aC e m;omega
  refine⟨rfl,?_⟩;rcases L with⟨o,j⟩|⟨o,h,_,P,j⟩|⟨o,h,N,P⟩
  ·have d:fF a0=(0,a0):=by unfold fF;rw[Zx o]
   exact c 0 (j.get s id) (by rw[d];exact t.ah j) (by rw[d])
  ·have d:fF a0=(a0.num.2.1,⟨a0.bytes,a0.pos+a0.num.2.2,0⟩):=by unfold fF;rw[Zq (by simp[o]),Zx h]
   exact c _ j (by rw[d];rw[o]at P;exact P) (by rw[d])
  ·have d:fF a0=(0,⟨a0.bytes,a0.pos,a0.num.1⟩):=by unfold fF;rw[Zq (by simp[o]),Zq h]
   exact c 0 (N.get s oM) (by rw[d];exact P) (by rw[d])
def IN{m:Int}(P:e_ b a f a0):
  YX 165 #[ZL a,ZH m] b (Ok λv i=>v= ZH (bZ m a0).1/\e_ i a f (bZ m a0).2/\ak (·=a) b i):=by
 have X:a<b.heap.size:=P.aC a P.self;refine sk (PA.mk λY M Z C=>PA.mk λl w sm N=>PA.mk λO u s2 x=>⟨_,ae (u.get (w.get C id) id) rfl,?_⟩);have E:ai b O:=(M.then w).then u;have y:=P.ah E;have Q:=u.get (w.get C id) id;have R:=u.get N id;generalize g:(if a0.num.1=0 then(if a0.num.2.1<0\/m<a0.num.2.1 then 3 else 0)else a0.num.1:Int)=no;refine PC.ok (Cx (S:=λh=>h=a\/h=l.heap.size) (no:=no) (A:=λi=>e_ i a f ⟨a0.bytes,a0.pos+a0.num.2.2,a0.vO⟩/\i.heap[l.heap.size]? =some (.cells #[ZH a0.num.2.1] 3 (0,0))) y kR ?_ ?_) ?_
 ·rintro h (rfl|rfl)<;>omega
 ·intro S o p
  refine pI ⟨_,ae (p.get Q id) rfl,_,ae (p.get R id) rfl,PC.red (Ro (y.ah p)) ?_ ?_⟩
  ·rintro c _ F d rfl j H
   rw[g]at c;have z:=j.get (p.get x id) oM;refine⟨_,rfl,PS.mk z sM λw5 I s5 T=>⟨(j.mono λ_ _ P=>.inl P).then (I.mono λ_ _ P=>.inr P),.inl ⟨c,rfl,d.af I λh q n=>?_,T⟩⟩⟩;have:=P.aC h q;omega
  ·rintro c F d j H
   rw[g]at c⊢;rw[S]at d;have A:=(jC (a0.bytes.drop a0.pos)).2.2.2.1;refine⟨j.mono λ_ _ P=>.inl P,.inr ⟨c,?_,rfl,j,d⟩⟩
   change a0.num.1=0\/a0.num.1=4\/a0.num.1=5 at A
   rw[<-g]at c⊢;split
   ·rename_i n
    rw[Zx n]at c;split
    ·exact .inl rfl
    ·rename_i s;rw[Zq s]at c;exact Zz rfl c
   ·omega
 ·rintro _ o ⟨rfl,p,U⟩
  have V:ak (·=a) b o:=E.af.new p λh q=>by
   rcases q with(rfl|rfl)|rfl
   ·exact .inl rfl
   ·exact .inr oM
   ·exact .inl rfl
  have e:∀B:Int,o.heap[l.heap.size]? =some (.cells #[ZH B] 3 (0,0))->e_ o a f (bZ m a0).2->B=(bZ m a0).1->
    (∃J:Int,o.cell? ⟨l.heap.size,0,none⟩=some (ZH J)/\PS o ⟨l.heap.size,0,none⟩ (ZH J) λK=>∃L:Int,K.cell? ⟨l.heap.size,0,none⟩=some (ZH L)/\
     Ok (λv i=>v= ZH (bZ m a0).1/\e_ i a f (bZ m a0).2/\ak (·=a) b i) (.returned (ZH L)) K):=by
   rintro B k d rfl;refine⟨_,ae k rfl,PS.mk k sM λF j H z=>⟨_,ae z rfl,Ok.mk ⟨rfl,d.af j λh q n=>?_,V.new j λh q=>.inr oM⟩⟩⟩;have:=P.aC h q;omega
  refine⟨rfl,?_⟩;rcases U with⟨r,k⟩|⟨r,c,_,d,k⟩|⟨r,c,W,d⟩
  ·have n:bZ m a0=(0,a0):=by unfold bZ;rw[Zx r]
   exact e 0 (k.get x id) (by rw[n];exact y.ah k) (by rw[n])
  ·have n:bZ m a0=(a0.num.2.1,⟨a0.bytes,a0.pos+a0.num.2.2,0⟩):=by
    have A:=(jC (a0.bytes.drop a0.pos)).2.2.2.1
    change a0.num.1=0\/a0.num.1=4\/a0.num.1=5 at A
    unfold bZ;rw[Zq (by simp[r])];split at g
    ·rename_i t
     rw[Zx t];split at g
     ·omega
     ·rename_i s;rw[Zq s]
    ·omega
   exact e _ k (by rw[n];rw[r]at d;exact d) (by rw[n])
  ·have n:bZ m a0=(0,⟨a0.bytes,a0.pos,no⟩):=by
    unfold bZ;rw[Zq (by simp[r])];split at g
    ·rename_i t
     rw[Zx t];split at g
     ·rename_i s;rw[Zx s,g]
     ·omega
    ·rename_i t;rw[Zq t,g]
   exact e 0 (W.get x oM) (by rw[n];exact d) (by rw[n])
def MD(e:e_ b a f a0):
  YX 167 #[ZL a] b (Ok λg h=>g= ZH (kQ a0)/\aV b h):=by
 obtain⟨m,o,i,G,P,j,p⟩:=e.body;have q:=j.len dC;have d:a0.vO≠0\/¬a0.pos<a0.bytes.length->kQ a0=a0.vO:=λr=>by unfold kQ;rw[Zq oM]
 refine tN ⟨a,0,rfl,_,ae P rfl,al.cX (λc=>⟨a,0,rfl,_,ae P rfl,a,0,rfl,_,_,_,ae P rfl,λk n=>al.dec (λl=>?_) λl=>?_⟩) (λc k n=>?_)⟩
 ·exact Ok.mk ⟨by unfold kQ;rw[Zx ⟨c,oM⟩],n⟩
 ·exact⟨a,0,rfl,_,ae ((n.af (S:=λ_=>False)).get P id) rfl,Ok.mk ⟨by rw[d (.inr oM)],n⟩⟩
 ·exact⟨a,0,rfl,_,ae ((n.af (S:=λ_=>False)).get P id) rfl,Ok.mk ⟨by rw[d (.inl c)],n⟩⟩
def uC:jV ZP 42 3 1 8:=⟨kR,kR,dC⟩
def aE(n:aj)(P:YQ)(a b:Nat):List Value:=
 [ZH n.origin,ZH n.seq,ZH n.aA,.slice P a b,ZH n.aU,ZH n.agg,ZH n.field,ZH n.op,ZH n.arg,ZH n.key]
def jF:jJ aj where
 k:=10
 rep:=λh D c cs=>∃n P a,cs=aE c n P a/\Row aI 8 h D n P c.aQ/\c.Ok
 af:=λ⟨n,P,a,b,d,e⟩ i f=>⟨n,P,a,b,d.af i f,e⟩
 mono:=λ⟨n,P,a,b,d,e⟩ f=>⟨n,P,a,b,d.mono f,e⟩
 len:=λ⟨n,P,a,b,_,_⟩=>by rw[b];rfl
 one:=λ⟨n,P,a,b,_,_⟩ j g=>by
  rw[b]at g;simp only[aE,Q2,List.not_mem_nil,or_false]at g;rcases g with rfl|rfl|rfl|rfl|rfl|rfl|rfl|rfl|rfl|rfl<;>rfl
def vz:jJ aj where
 k:=10
 rep:=λl D e cs=>∃n P a b,cs=aE e n P a/\aM aI 3 b l n P a e.aQ/\(∀c,b c->D c)/\e.Ok/\e.aQ.length*8<=aK
 af:=λ⟨n,P,a,b,d,g,f,h⟩ m i=>⟨n,P,a,b,d,g.af m (λc j=>i c (f c j)),f,h⟩
 mono:=λ⟨n,P,a,b,d,g,f,h⟩ i=>⟨n,P,a,b,d,g,λc j=>i c (f c j),h⟩
 len:=λ⟨n,P,a,b,d,_⟩=>by rw[d];rfl
 one:=λ⟨n,P,a,b,d,_⟩ o k=>by
  rw[d]at k;simp only[aE,Q2,List.not_mem_nil,or_false]at k;rcases k with rfl|rfl|rfl|rfl|rfl|rfl|rfl|rfl|rfl|rfl<;>rfl
def vz.read{D:ZN}{cs:List Value}(n:vz.rep b D q cs):jF.rep b D q cs:=by
 obtain⟨P,a,c,i,d,e,f,g,h⟩:=n;exact⟨P,a,c,d,(e.row dC h).mono f,g⟩
def vz.row{D:ZN}(n:Row vz 96 b D d a L):Row jF 96 b D d a L:=
 ⟨n.len,n.ef,λc e f=>by
  obtain⟨g,P,h,i,j,k,l,m⟩:=n.el c e f;exact⟨g,P,h,i,j,k,l,vz.read m⟩⟩
def Ke:jV ZP 59 63 10 96:=⟨kR,kR,dC⟩
def GF{r t:Nat}{k D:ZN}{l S:Nat}(C:b.heap[a]? =some (.cells #[.slice d r t] 237 (0,0)))(g:aM fP 5 k b d r t y)(q:Row aI 8 b D s l v)(T:¬k a)(U:¬D a)(V:y.length+9*v.length+9<=aK):
  YX 314 #[.slice s l S,ZL a] b (Ok λW h=>W= .tuple #[]/\∃c e f j,h.heap[a]? =some (.cells #[.slice c e f] 237 (0,0))/\
   aM fP 5 j h c e f (y++bR v)/\¬j a/\ak (·=a) b h/\∀n,j n->k n\/b.heap.size<=n):=by
 have X:=q.len;have a7:=ax C;have Y:=q.ef;unfold aK at Y;refine Dz ⟨λE i h=>∃P:Nat,i=P/\P<=l/\E=l-P/\∃c e f j,h.heap[a]? =some (.cells #[.slice c e f] 237 (0,0))/\
   aM fP 5 j h c e f (y++bR (v.take P))/\¬j a/\ak (·=a) b h/\∀n,j n->k n\/b.heap.size<=n,
  ⟨_,0,rfl,Qj _,rfl,d,r,t,k,C,by simpa[bR]using g,T,ak.refl _,λn u=>.inl u⟩,?_⟩
 rintro E i _ w1 ⟨P,rfl,hj,rfl,F,H,I,Z,w,m,a0,o,a1⟩;refine al.dec (λh1=>?_) (λh1=>?_)
 ·obtain⟨n,x,z,rfl,A,B,hc⟩:=(q.af o (λn g p=>U (p▸g))).mR (i:=P) oM
  refine⟨n,x,rfl,oM,oM,z,hc,F,H,I,ae w rfl,?_⟩;have a8:(bR (v.take P)).length<=9*P:=by
   have:=fE (l:=v.take P) (λa9 hy=>by
    obtain⟨J,K⟩:=List.getElem?_of_mem (List.mem_of_mem_take hy);have a2:J<l:=by rw[X];exact(Qv.1 K).1
    obtain⟨_,_,b0,_,L,a3,_⟩:=q.mR (i:=J) a2;rw[K]at L;cases L;exact a3)
   simp only[Qy]at this;omega
  have a4:=m.len dC;rw[QX]at a4;unfold aK at V;refine PC.ok (BP B (m.row (bytes:=1) dC (by rw[QX];unfold aK;omega)) (by unfold aK;omega) m.aC) ?_;rintro _ w2 ⟨a5,n2,c2,M,rfl,a6,N,O⟩;have Q:¬M a:=λu=>by have:=O a u;have:=o.size;omega
  refine⟨_,_,_,rfl,PS.mk (N.get w id) sM λw3 R s3 g3=>⟨_,oM,P+1,aq oM,oM,rfl,a5,n2,c2,M,g3,?_,Q,(o.ah N).then R,λn g=>.inr (Xx o.size (O n g))⟩⟩;rw[Qw,A];have p:y++bR (List.take P v++(some z).toList)=y++bR (List.take P v)++oC z:=by rw[iz];simp[bR]
  rw[p];exact a6.af R λn g p=>Q (p▸g)
 ·rw[Qz oM]at m
  exact Ok.mk ⟨rfl,F,H,I,Z,w,m,a0,o,a1⟩
def BQ{f:Nat×Nat}(n:List Int)(P:b.heap[a]? =some (.cells (n.map (Value.int .i64)).toArray 3 f))(c:∀d∈n,aJ d)(e:n.length<=1000):Row aI 8 b (·=a) (ZM a) n.length n:=
 Row.lit P n sM c (by unfold aK;omega)
def NV{D:ZN}(w:Row aI 8 b D d a q.aQ)(n:q.Ok)(F:∀P,D P->P<b.heap.size):
  YX 264 #[.agg (aE q d a c).toArray] b (Ok λH I=>∃x,H= .tuple #[x,ZH (iV q).2]/\oZ fP 5 b (iV q).1 x I):=by
 have J:=w.len;refine Iw (PA.mk λi l s1 y=>⟨d,a,c,ae y rfl,al.dec (λh=>?_) (λh=>?_)⟩)
 ·have p:iV q=([],3):=by unfold iV;rw[Zx oM]
  rw[p];exact Ok.mk ⟨_,rfl,none,0,0,λ_=>False,rfl,aM.nil i,l,λ_ h=>h.elim⟩
 have a8:q.aQ.length<=64:=oM
 have p:iV q=(bR (kO q),0):=by unfold iV;rw[Zq oM]
 rw[p];have z:∀P,D P->P<i.heap.size:=λP f=>Qk (F P f) l.size;refine PA.mk λj r s2 K=>?_;have k:=r.get y id;refine⟨_,ae k rfl,_,ae k rfl,_,ae k rfl,_,_,_,ae k rfl,PA.mk λA B s3 L=>⟨_,_,_,rfl,kR,?_⟩⟩;have M:Row aI 8 A (·=j.heap.size) (ZM j.heap.size) 4 [q.origin,q.seq,q.aA,(q.aQ.length:Int)]:=
  BQ (f:=(0,0)) [q.origin,q.seq,q.aA,(q.aQ.length:Int)] (by rw[L,<-J];rfl) (by intro s e;simp at e;rcases e with rfl|rfl|rfl|rfl;exact n.origin;exact n.seq;exact n.aA;unfold aJ;omega) sM
 refine PC.ok (GF (B.get K id) (aM.nil A) M id (by show¬i.heap.size=j.heap.size;omega) (by unfold aK;simp)) ?_;rintro _ C ⟨rfl,a4,n4,c4,F4,N,O,Q,R,S⟩;have m:ak (·=i.heap.size) j C:=B.af.then R;have E:=m.get k oM;have T:Row aI 8 C D d a q.aQ:=((w.ah (l.then r)).af m λP f q=>by have:=z P f;omega)
 refine⟨rfl,_,_,_,ae E rfl,_,_,_,rfl,kR,PC.ok (GF N O T Q (λh=>by have:=z _ h;omega) ?_) ?_⟩
 ·have t:=fE (l:=[q.origin,q.seq,q.aA,(q.aQ.length:Int)]) (by intro s e;simp at e;rcases e with rfl|rfl|rfl|rfl;exact n.origin;exact n.seq;exact n.aA;unfold aJ;omega)
  simp only[List.nil_append,Xq,ZQ]at t⊢;unfold aK;omega
 rintro _ u ⟨rfl,a5,n5,c5,F5,U,V,W,v,X⟩;have g:=v.get E oM;refine⟨rfl,_,ae g rfl,_,ae g rfl,_,ae g rfl,_,ae g rfl,_,ae g rfl,_,ae g rfl,PA.mk λY o s6 Z=>⟨_,_,_,rfl,kR,?_⟩⟩;have r6:Row aI 8 Y (·=u.heap.size) (ZM u.heap.size) 6 [q.aU,q.agg,q.field,q.op,q.arg,q.key]:=
  BQ (f:=(0,0)) [q.aU,q.agg,q.field,q.op,q.arg,q.key] Z (by intro s e;simp at e;rcases e with rfl|rfl|rfl|rfl|rfl|rfl;exact n.aU;exact n.agg;exact n.field;exact n.op;exact n.arg;exact n.key) sM
 have a6:=m.size;have a9:=v.size;refine PC.ok (GF (o.get U id) (V.ah o) r6 W (by show¬i.heap.size=u.heap.size;omega) ?_) ?_
 ·have t:=fE (l:=[q.origin,q.seq,q.aA,(q.aQ.length:Int)]) (by intro s e;simp at e;rcases e with rfl|rfl|rfl|rfl;exact n.origin;exact n.seq;exact n.aA;unfold aJ;omega)
  have h2:=fE n.aQ;simp only[List.nil_append,Xq,ZQ,QX]at t h2⊢;unfold aK;omega
 rintro _ w7 ⟨rfl,a7,n7,c7,F7,g7,a2,b0,k7,a3⟩;refine⟨rfl,_,_,_,ae g7 rfl,Ok.mk ⟨_,rfl,a7,n7,c7,F7,rfl,?_,?_,?_⟩⟩
 ·have:kO q=[q.origin,q.seq,q.aA,(q.aQ.length:Int)]++q.aQ++[q.aU,q.agg,q.field,q.op,q.arg,q.key]:=rfl
  rw[this,iz,iz];exact a2
 ·have ka:ai b j:=l.then r
  exact(ka.new ((m.then v).then (o.af.then k7)) λP f=>.inr oM)
 ·intro P f
  rcases a3 P f with h|h
  ·rcases X P h with h|h
   ·rcases S P h with h|h
    ·exact h.elim
    ·omega
   ·omega
  ·have:=o.size;omega
def qN(P:List Int)(a:YQ)(b c:Nat)(n:List Int):List Value:=
 [ZH (P.getD 0 0),ZH (P.getD 1 0),ZH (P.getD 2 0),.slice a b c,ZH (n.getD 0 0),ZH (n.getD 1 0),ZH (n.getD 2 0),ZH (n.getD 3 0),ZH (n.getD 4 0),ZH (n.getD 5 0)]
def Lf(n:v.length=i)(P:i<3):(qN v d a c b2).toArray.setIfInBounds i (ZH e)=(qN (v++[e]) d a c b2).toArray:=by
 match v,n with
 |[],n=>subst n;rfl
 |[_],n=>subst n;rfl
 |[_,_],n=>subst n;rfl
 |_::_::_::_,n=>simp at n;omega
def Lg(n:b2.length=i)(P:i<6):(qN v d a c b2).toArray.setIfInBounds (4+i) (ZH e)=(qN v d a c (b2++[e])).toArray:=by
 match b2,n with
 |[],n=>subst n;rfl
 |[_],n=>subst n;rfl
 |[_,_],n=>subst n;rfl
 |[_,_,_],n=>subst n;rfl
 |[_,_,_,_],n=>subst n;rfl
 |[_,_,_,_,_],n=>subst n;rfl
 |_::_::_::_::_::_::_,n=>simp at n;omega
def lR(n:Nat)(P:mE):bj (n+1) P=((bj n P).1++[(fF (bj n P).2).1],(fF (bj n P).2).2):=rfl
def NW{D:ZN}(e:Row fP 1 b D d a y)(hD:∀n,D n->n<b.heap.size):
  YX 231 #[.slice d a c] b (Ok λa8 j=>∃a' n' c' v,a8= .tuple #[.agg (aE (jy y).1 a' n' c').toArray,ZH (jy y).2]/\aM aI 3 v j a' n' c' (jy y).1.aQ/\ai b j/\∀n,v n->b.heap.size<=n):=by
 refine Ix (PA.mk λw1 k1 s1 g1=>PC.ok (Ez (e.ah k1) (λn h=>by have:=hD n h;omega)) ?_);rintro _ g ⟨i,a0,rfl,T,k2,hP⟩;refine⟨_,rfl,PA.mk λw3 U s3 g3=>PA.mk λw x s4 g4=>?_⟩;have c3:=T.self;have h5:w1.heap.size<=i/\i<g.heap.size:=⟨hP i c3,T.aC i c3⟩
 have V:=T.aC;have h3:=k2.size;have d9:=x.get g3 id;have e0:=x.get (U.get (k2.get g1 id) id) id;have e1:=(T.ah U).ah x;have b1:ai b w:=((k1.then k2).then U).then x;refine⟨λm B j=>∃P:Nat,B=P/\P<=3/\m=3-P/\j.heap[g.heap.size]? =some (.cells (qN (bj P ⟨y,0,0⟩).1 none 0 0 []).toArray 63 (0,0))/\e_ j i a0 (bj P ⟨y,0,0⟩).2/\ak (λn=>n=g.heap.size\/n=i) w j,
  ⟨_,0,rfl,oM,rfl,d9,e1,ak.refl _⟩,?_⟩
 rintro m B _ w5 ⟨P,rfl,hj,rfl,c4,c5,k5⟩;have c6:(mE.mk y 0 0).Fit:=⟨Qj _,.inl rfl⟩
 refine al.dec (λN=>?_) (λN=>?_)
 ·have c7:P<3:=oM
  have g5:=k5.get g4 oM;have a1:w5.cell? ⟨w3.heap.size,0+Int.toNat (P:Int),none⟩=some (.pointer (some ⟨g.heap.size,P,none⟩)):=by
   rw[Qx,Xz]
   match P,c7 with
   |0,_=>exact ae g5 rfl
   |1,_=>exact ae g5 rfl
   |2,_=>exact ae g5 rfl
  refine⟨_,_,rfl,oM,oM,_,a1,PC.ok (GG c5) ?_⟩;rintro _ w6 ⟨rfl,O,Q⟩;have W:=Q.get c4 oM;refine⟨_,rfl,_,_,rfl,PS.mk W (by simp[qN];omega) λX C s7 g7=>⟨_,oM,P+1,aq oM,oM,rfl,?_,?_,?_⟩⟩
  ·rw[g7,Lf (c6.ints P).2.2.1 c7];rfl
  ·rw[lR]
   exact O.af C λn e r=>by have:=V n e;omega
  ·exact k5.then ((Q.mono λ_ _ h=>.inr h).then (C.mono λ_ _ h=>.inl h))
 obtain rfl:P=3:=oM
 obtain⟨c8,e3,h6,_⟩:=c6.ints 3;refine PC.ok (IN c5) ?_;rintro _ w6 ⟨rfl,O,Q⟩;have W:=Q.get c4 oM;have e4:ak (λn=>n=g.heap.size\/n=i) w w6:=k5.then (Q.mono λ_ _ h=>.inr h);generalize hL:(bj 3 ⟨y,0,0⟩).1=H at W e3;generalize hR:(bj 3 ⟨y,0,0⟩).2=a5 at O c8;obtain⟨Y,e5,c9,_⟩:=c8.count (m:=64) oM;generalize hC:(bZ 64 a5).1=I at e5 c9;generalize e6:(bZ 64 a5).2=E at O Y;refine⟨_,rfl,λm B j=>∃P:Nat,B=P/\P<=I.toNat/\m=I.toNat-P/\∃s o t v,j.heap[g.heap.size]? =some (.cells (qN H s o t []).toArray 63 (0,0))/\e_ j i a0 (bj P E).2/\
   aM aI 3 v j s o t (bj P E).1/\(∀n,v n->w.heap.size<=n)/\ak (λn=>n=g.heap.size\/n=i) w j,
  ⟨_,0,rfl,oM,rfl,none,0,0,λ_=>False,W,O,aM.nil w6,λ_ h=>h.elim,e4⟩,?_⟩
 rintro m B _ X ⟨P,rfl,hj,rfl,s,o,t,v,b8,b9,c1,z,C⟩;have h7:=C.size;refine al.dec (λN=>?_) (λN=>?_)
 ·intro J d0
  have p:ai X J:=d0.af;have s8:J.heap.size=X.heap.size:=by rw[d0.heap]
  refine⟨λn=>n≠g.heap.size,sM,s,o,t,ae (p.get b8 id) rfl,PC.ok (GG (b9.ah p)) ?_⟩;rintro _ K ⟨rfl,Z,u⟩;have b2:=(Y.ints P).2.2.1;refine⟨_,rfl,u.mono (λn _ h=>oM),?_⟩;have L:aM aI 3 v K s o t (bj P E).1:=(c1.ah p).af u λn e r=>by have:=z n e;have:=x.size;omega
  refine PA.mk λA l h8 e7=>⟨l.af,?_⟩
  have a2:=L.ah l;have b0:=u.get (p.get b8 id) oM;have k:=l.get b0 id;have e8:=((Y.ints P).1.int).2.1;have d1:Row aI 8 A (·=K.heap.size) (ZM K.heap.size) 1 [(fF (bj P E).2).1]:=BQ (f:=(0,0)) [(fF (bj P E).2).1] e7 (by simpa using e8) sM;refine kN a2 uC d1 (λn r=>⟨oM,?_⟩) (by rw[b2];unfold aK;simp;omega) (by rw[b2];unfold maxLen;simp;omega) λd2 e9 R h9 d3 a3 h4 b3=>?_
  ·intro e2
   have:=L.aC n (L.self n e2);omega
  refine⟨_,_,_,rfl,PS.mk (a3.get k ?_) (by simp[qN]) λi0 c2 i1 f2=>⟨_,oM,P+1,aq oM,oM,rfl,d2,o+1,e9,λn=>aD d2=some n,?_,?_,?_,?_,?_⟩⟩
  ·intro r;have:=z _ (L.self _ r);have:=x.size;omega
  ·rw[f2];rfl
  ·rw[lR]
   refine((Z.ah l).af a3 λn e r=>?_).af c2 λn e r=>?_
   ·have:=z _ (L.self _ r);have:=V n e;have:=x.size;have:=U.size;omega
   ·have:=V n e;omega
  ·have f3:=d3.alone
   rw[lR];refine f3.af c2 λn e r=>?_;rcases b3 n e with h|h
   ·have:=z n h;have:=x.size;omega
   ·have:=l.size;have:=u.size;have:=p.size;omega
  ·intro n e
   rcases b3 n e with h|h
   ·exact z n h
   ·have:=l.size;have:=u.size;have:=p.size;omega
  ·have ka:ak (λn=>n=g.heap.size\/n=i) w A:=((C.ah p).then (u.mono λ_ _ h=>.inr h)).ah l
   have kb:ak (λn=>n=g.heap.size\/n=i) w R:=ka.new a3 λn e=>.inr (z n (L.self n e));exact kb.then (c2.mono λ_ _ h=>.inl h)
 obtain rfl:P=I.toNat:=oM
 obtain⟨d4,f4,f5,_⟩:=Y.ints I.toNat;generalize f8:(bj I.toNat E).1=S at c1 f4 f5;generalize g0:(bj I.toNat E).2=q at b9 d4;refine PA.mk λJ p s8 g8=>?_;have g2:=p.get b8 id;have g6:ak (λn=>n=g.heap.size\/n=i) w J:=C.ah p;have h0:=c1.ah p;have i2:=x.size;refine⟨λm B j=>∃P:Nat,B=P/\P<=6/\m=6-P/\j.heap[g.heap.size]? =some (.cells (qN H s o t (bj P q).1).toArray 63 (0,0))/\e_ j i a0 (bj P q).2/\ak (λn=>n=g.heap.size\/n=i) J j,
  ⟨_,0,rfl,oM,rfl,g2,b9.ah p,ak.refl _⟩,?_⟩
 rintro m B _ K ⟨P,rfl,hj,rfl,b0,Z,u⟩;refine al.dec (λN=>?_) (λN=>?_)
 ·have d5:P<6:=oM
  have M:=u.get g8 (by have:=C.size;omega);have a1:K.cell? ⟨X.heap.size,0+Int.toNat (P:Int),none⟩=some (.pointer (some ⟨g.heap.size,4+P,none⟩)):=by
   rw[Qx,Xz]
   match P,d5 with
   |0,_=>exact ae M rfl
   |1,_=>exact ae M rfl
   |2,_=>exact ae M rfl
   |3,_=>exact ae M rfl
   |4,_=>exact ae M rfl
   |5,_=>exact ae M rfl
  refine⟨_,_,rfl,oM,oM,_,a1,PC.ok (GG Z) ?_⟩;rintro _ A ⟨rfl,d6,l⟩;have k:=l.get b0 oM;refine⟨_,rfl,_,_,rfl,PS.mk k (by simp[qN];omega) λR F d7 f=>⟨_,oM,P+1,aq oM,oM,rfl,?_,?_,?_⟩⟩
  ·rw[f,Lg (d4.ints P).2.2.1 d5];rfl
  ·rw[lR]
   exact d6.af F λn e r=>by have:=V n e;omega
  ·exact u.then ((l.mono λ_ _ h=>.inr h).then (F.mono λ_ _ h=>.inl h))
 obtain rfl:P=6:=oM
 have a6:mG ⟨y,0,0⟩=(⟨H.getD 0 0,H.getD 1 0,H.getD 2 0,S,(bj 6 q).1.getD 0 0,(bj 6 q).1.getD 1 0,(bj 6 q).1.getD 2 0,(bj 6 q).1.getD 3 0,(bj 6 q).1.getD 4 0,(bj 6 q).1.getD 5 0⟩,(bj 6 q).2):=by
  unfold mG;simp only[hL,hR,hC,e6,f8,g0]
 refine PC.ok (MD Z) ?_;rintro _ A ⟨rfl,d8⟩;have l:ai K A:=d8.af;have b4:ak (λn=>n=g.heap.size\/n=i) J A:=u.ah l;have b5:ak (λn=>n=g.heap.size\/n=i) w A:=g6.then b4;have b6:=b5.get e0 oM;have k:=l.get b0 id;have a2:aM aI 3 v A s o t S:=h0.af b4 λn e r=>by have:=z n e;omega
 have b7:ai b A:=b1.new b5 λn e=>.inr oM;have a7:kQ (mG ⟨y,0,0⟩).2=kQ (bj 6 q).2:=by rw[a6]
 refine⟨_,rfl,al.dP (λh2=>?_) (λhe=>?_)⟩
 ·have a4:jy y=(BR,kQ (bj 6 q).2):=by unfold jy;rw[a7,Zx h2]
  rw[a4];refine storeAll [ZH 0,ZH 0,ZH 0,.slice none 0 0,ZH 0,ZH 0,ZH 0,ZH 0,ZH 0,ZH 0] b6 rfl λR F d7 f=>?_;refine⟨0,0,0,none,0,0,0,0,0,0,0,0,ae f rfl,ae f rfl,ae f rfl,ae f rfl,ae f rfl,ae f rfl,ae f rfl,ae f rfl,ae f rfl,ae f rfl,Ok.mk ⟨none,0,0,λ_=>False,rfl,aM.nil R,?_,λ_ h=>h.elim⟩⟩;exact b7.new F λn e=>.inr oM
 ·have a4:jy y=((mG ⟨y,0,0⟩).1,0):=by unfold jy;rw[a7,Zq (by simpa using he)]
  rw[a4,a6];refine⟨_,_,_,s,o,t,_,_,_,_,_,_,ae k rfl,ae k rfl,ae k rfl,ae k rfl,ae k rfl,ae k rfl,ae k rfl,ae k rfl,ae k rfl,ae k rfl,?_⟩;refine storeAll (qN H s o t (bj 6 q).1) b6 rfl λR F d7 f=>?_;refine⟨_,_,_,s,o,t,_,_,_,_,_,_,ae f rfl,ae f rfl,ae f rfl,ae f rfl,ae f rfl,ae f rfl,ae f rfl,ae f rfl,ae f rfl,ae f rfl,Ok.mk ⟨s,o,t,v,rfl,a2.af F λn e r=>?_,?_,λn e=>?_⟩⟩
  ·have:=z n e;omega
  ·exact b7.new F λn e=>.inr oM
  ·have:=z n e;have:=b1.size;omega
end
end Go.Proofs.YtjgjkeponbeekaaGreatDoor
namespace Go.ar
open Go
def eB(n:List UInt8):Nat:=n.foldl (λP a=>P*10+(a.toNat-48)) 0
def iJ(n:UInt8):Bool:=decide (48<=n.toNat/\n.toNat<=57)
def fJ(n:List UInt8)(P:UInt8):eB (n++[P])=eB n*10+(P.toNat-48):=by simp[eB,List.foldl_append]
variable{e:Int}{y:List UInt8}{a:Nat}{j:Type}
def wm{n P:List j}(a:n≠[]):(n++P).head? =n.head? :=by
 cases n with
 |nil=>exact Zz rfl a
 |cons b n=>rfl
def CH:∀(n:Nat),eB (Lib.decDigits n)=n/\(Lib.decDigits n).all iJ=true/\Lib.decDigits n≠[]/\(n≠0->(Lib.decDigits n).head? ≠some 48):=by
 intro n
 induction n using Nat.strongRecOn with
 |_ n c=>
  rw[Lib.decDigits]
  by_cases a:n<10
  ·rw[dif_pos a]
   have P:(UInt8.ofNat (48+n)).toNat=48+n:=by rw[ZK];omega
   refine⟨by simp[eB];omega,by simp[iJ,P];omega,sM,λh=>?_⟩;intro b;simp only[List.head?_cons,Q1]at b;have:=Zj UInt8.toNat b;rw[P]at this;simp at this;omega
  ·rw[dif_neg a]
   obtain⟨d,e,f,g⟩:=c (n/10) oM;have P:(UInt8.ofNat (48+n % 10)).toNat=48+n % 10:=by rw[ZK];omega
   refine⟨by rw[fJ,d,P];omega,?_,sM,λ_=>?_⟩
   ·rw[List.all_append,e];simp[iJ,P];omega
   ·rw[wm f];exact g oM
def CI:∀{n:List UInt8},n.all iJ=true->n≠[]->n.head? ≠some 48->0<eB n:=by
 intro n;generalize P:n.length=e
 induction e generalizing n with
 |zero=>intro _ f;exact Zz (QW P) f
 |succ e g=>
  intro a i b;rcases List.eq_nil_or_concat n with rfl|⟨n,c,rfl⟩
  ·cases P
  rw[List.concat_eq_append]at P a b⊢;rw[List.all_append,QK]at a;have j:48<=c.toNat/\c.toNat<=57:=by simpa[iJ]using a.2
  rw[fJ]
  by_cases d:n=[]
  ·subst d
   have:c.toNat≠48:=λh=>b (by simp;exact UInt8.toNat_inj.1 h);omega
  ·have:=g (by simpa using P) a.1 d (by rwa [wm d]at b)
   omega
def DX:∀{n:List UInt8},n.all iJ=true->n≠[]->(n.head? ≠some 48\/n.length=1)->Lib.decDigits (eB n)=n:=by
 intro n;generalize e:n.length=f
 induction f generalizing n with
 |zero=>intro _ i;exact Zz (QW e) i
 |succ f j=>
  intro a o b;rcases List.eq_nil_or_concat n with rfl|⟨n,P,rfl⟩
  ·cases e
  rw[List.concat_eq_append]at e a b⊢;rw[List.all_append,QK]at a;have p:48<=P.toNat/\P.toNat<=57:=by simpa[iJ]using a.2
  have h:UInt8.ofNat (48+(P.toNat-48))=P:=UInt8.toNat_inj.1 (by rw[ZK];omega);rw[fJ]
  by_cases c:n=[]
  ·subst c
   have k:eB []*10+(P.toNat-48)=P.toNat-48:=by simp[eB]
   rw[k,Lib.decDigits,dif_pos oM,h]
   rfl
  ·have q:0<n.length:=List.length_pos_iff.2 c
   have g:n.length=f:=by simpa using e
   have d:n.head? ≠some 48:=by
    rcases b with b|b
    ·rwa [wm c]at b
    ·omega
   have r:=CI a.1 c d;rw[Lib.decDigits,dif_neg oM];have l:(eB n*10+(P.toNat-48))/10=eB n:=oM
   have m:(eB n*10+(P.toNat-48)) % 10=P.toNat-48:=oM
   rw[l,m,h,j g a.1 c (.inl d)]
def xR:∀(n:List UInt8),n.all iJ=true->eB n<10 ^ n.length:=by
 intro n;generalize P:n.length=b
 induction b generalizing n with
 |zero=>intro _;have:=QW P;subst this;decide
 |succ b d=>
  intro a;rcases List.eq_nil_or_concat n with rfl|⟨n,c,rfl⟩
  ·cases P
  rw[List.concat_eq_append]at P a⊢;rw[List.all_append,QK]at a;have e:48<=c.toNat/\c.toNat<=57:=by simpa[iJ]using a.2
  have:=d n (by simpa using P) a.1;rw[fJ,Nat.pow_succ];omega
def wj{u:Nat}(g:u<1000000000000):(Lib.decDigits u).length<=12:=by
 rw[Lib.decDigits_length];apply Nat.le_of_not_lt;intro j
 by_cases h:u=0
 ·subst h;rw[Lib.nDigits_small oM]at j;omega
 ·have s:=Lib.lt_pow_nDigits u
  obtain⟨k,l,m,o⟩:=CH u;have i:=Lib.decDigits_length u;have key:∀(n:List UInt8),n.all iJ=true->n≠[]->n.head? ≠some 48->10 ^(n.length-1)<=eB n:=by
   intro n;generalize a:n.length=P
   induction P generalizing n with
   |zero=>intro _ g;exact Zz (QW a) g
   |succ P p=>
    intro b t d;rcases List.eq_nil_or_concat n with rfl|⟨n,v,rfl⟩
    ·cases a
    rw[List.concat_eq_append]at a b d⊢;have e:=b;rw[List.all_append,QK]at b;rw[fJ]
    by_cases c:n=[]
    ·subst c
     have:=CI e sM d;rw[fJ]at this;have q:P=0:=by simpa using a.symm
     subst q;simp at this⊢;omega
    ·have f:n.length=P:=by simpa using a
     have i:0<n.length:=List.length_pos_iff.2 c;have:=p n f b.1 c (by rwa [wm c]at d);have r:P+1-1=(P-1)+1:=oM
     rw[r,Nat.pow_succ];omega
  have:=key _ l m (o h);rw[k,i]at this;have w:10 ^ 12<=10 ^(Lib.nDigits u-1):=Nat.pow_le_pow_right oM oM;have:(10:Nat) ^ 12=1000000000000:=dC
  omega
def eA:List UInt8:=[115,101,103,46]
def aB(n:Int):List UInt8:=if n<0\/1000000000000<=n then []else eA++Lib.decDigits n.toNat
def iZ(n:List UInt8):Option Nat:=if n.take 4=eA/\5<=n.length/\n.length<=16/\(n.drop 4).all iJ=true/\((n.drop 4).head? ≠some 48\/n.length=5)then some (eB (n.drop 4))else none
def rz(n:0<=e)(P:e<1000000000000):aB e=eA++Lib.decDigits e.toNat:=by unfold aB;rw[Zq oM]
def LZ(P:0<=e)(a:e<1000000000000):iZ (aB e)=some e.toNat:=by
 rw[rz P a];obtain⟨b,c,d,f⟩:=CH e.toNat;have j:=wj (u:=e.toNat) oM;have k:0<(Lib.decDigits e.toNat).length:=List.length_pos_iff.2 d;have g:(eA++Lib.decDigits e.toNat).drop 4=Lib.decDigits e.toNat:=rfl;have h:(eA++Lib.decDigits e.toNat).take 4=eA:=rfl;have i:(eA++Lib.decDigits e.toNat).length=4+(Lib.decDigits e.toNat).length:=by rw[QX];rfl
 unfold iZ;rw[g,h,i,b,Zx];refine⟨rfl,oM,oM,c,?_⟩
 by_cases n:e.toNat=0
 ·right
  rw[n,Lib.decDigits_length,Lib.nDigits_small oM]
 ·exact .inl (f n)
def Cn(n:iZ y=some a):aB a=y/\a<1000000000000:=by
 unfold iZ at n;split at n
 ·rename_i d
  obtain⟨e,h,i,P,f⟩:=d;simp only[Q1]at n;have b:(y.drop 4).length=y.length-4:=sM
  have j:=xR _ P;have k:10 ^(y.drop 4).length<=10 ^ 12:=Nat.pow_le_pow_right oM oM;have l:(10:Nat) ^ 12=1000000000000:=dC
  have g:a<1000000000000:=oM
  refine⟨?_,g⟩;rw[rz oM oM,<-n,Qx,DX P (λc=>by rw[c]at b;simp at b;omega) (f.imp id λc=>oM),<-e,ZX]
 ·cases n
def Hr(b:y.all iJ=true)(c:y.length<=12):iZ (eA++y)=if aB (eB y)=eA++y then some (eB y)else none:=by
 have e:=xR _ b;have f:10 ^ y.length<=10 ^ 12:=Nat.pow_le_pow_right oM c;have g:(10:Nat) ^ 12=1000000000000:=dC
 split
 ·rename_i P
  rw[<-P,LZ oM oM,Qx]
 ·rename_i P
  cases n:iZ (eA++y)with
  |none=>rfl
  |some d=>
   obtain⟨a,h⟩:=Cn n;have:d=eB y:=by
    unfold iZ at n;split at n
    ·exact(XJ n).symm
    ·cases n
   rw[this]at a;exact Zz a P
def JO(P:y.all iJ=false):iZ (eA++y)=none:=by
 unfold iZ;rw[Zq];rintro⟨_,_,_,n,_⟩;have:(eA++y).drop 4=y:=rfl;rw[this,P]at n
 cases n
def OO(n:y.take 4≠eA):iZ y=none:=by
 unfold iZ;rw[Zq λP=>n P.1]
def LX(n:16<y.length):iZ y=none:=by
 unfold iZ;rw[Zq λP=>oM]
end Go.ar
namespace Go.Proofs.YtjgjkeponbeekaaGreatDoor
open Go.ar
end Go.Proofs.YtjgjkeponbeekaaGreatDoor
namespace Go.Proofs
open Go.RowKit Go.Maps Go.Sort Go.Shelf
def Tryz.Ur(b:Nat):AnyZ.SortsIn Tryz.prog Tryz.yp Fence.wide b:=
 ⟨λaD P n c a d e f=>callsIn_wide.2 (AnyM.slices_Sort_string Tryz.TC aD P n c a d e f),
  λg n a=>callsIn_wide.2 (AnyM.slices_Sort_string_none Tryz.TC g n a)⟩
end Go.Proofs
namespace Go.Proofs.YtjgjkeponbeekaaGreatDoor
section
open Go.ar
open Go.RowKit Go.Maps Go.Sort Go.Shelf
def Yn(n P:ByteArray):Bool:=decide (n.data.toList<=P.data.toList)
def vu(n:List ByteArray):List ByteArray:=n.mergeSort Yn
def NP(P:List ByteArray):(vu P).map (λn=>n.data.toList)=(P.map λn=>n.data.toList).mergeSort (λn a=>decide (n<=a)):=
 List.map_mergeSort (λb _ c _=>rfl)
def bF.TD{a:Type}{n:a->Value}{b:a->Prop}{hl h1}{d:World}{D:ZN}:∀{P:List a},(∀x∈P,b x)->bF (flat 1 (λx=>[n x]) b hl h1) d D P (P.map n)
 |[],_=>rfl
 |x::P,c=>⟨[n x],P.map n,rfl,⟨rfl,c x (QV ..)⟩,bF.TD λe f=>c e (QJ _ f)⟩
variable{g1:List (ByteArray×Value)}{a c:Nat}{F:Nat×Nat}{g:TypeId}{b:World}
def zR(i:bJ b a Value.string g1)(I:∀f∈g1,f.1.size<=maxLen)(y:g1.length*16<=aK)(z:b.heap[c]? =some (.cells #[.map (some a)] g F)):
  YX 222 #[.func (.func 282) #[] #[ZL c]] b
   (Ok (oZ NQ 9 b (vu (g1.map (·.1))))):=by
 unfold aK at y;obtain⟨d,h,J,p,K,L⟩:=i.at';have M:Tryz.prog.underlying 9=some .string:=Tryz.underlying9;have N:d.size=g1.length:=by have:=Zj List.length p;simpa using this
 have A:∀P∈d.toList,∃n:ByteArray,P.key=Value.string n/\n.size<=maxLen:=λP e=>by
  have O:(P.key,P.val)∈g1.map (λf=>(Value.string f.1,f.2)):=by rw[<-p];exact Xk.2 ⟨P,e,rfl⟩
  obtain⟨f,Q,R⟩:=Xk.1 O;exact⟨f.1,(Prod.mk.inj R).1.symm,I f Q⟩
 have B:∀P∈d.toList,∀n:ByteArray,P.key=Value.string n->n.size<=maxLen->WideElems.rd ZP 9 (λ_=>some ((.nil:DataW Unit),[])) P=some (.string n.data.toList,.nil):=λP _ n k m=>by
  simp[WideElems.rd,k,Go.WideMaps.keyOf_string_mk M m]
 have S:WideElems.Fit ZP 9 (λ_=>some ((.nil:DataW Unit),[])) d h:=by
  refine⟨by unfold maxLen;omega,⟨K,L,?_⟩,λP e=>?_⟩
  ·have:d.toList.map (·.key)=(g1.map (·.1)).map Value.string:=by
    have:=Zj (List.map (λs:Value×Value=>s.1)) p;simpa[Function.comp_def]using this
   rw[this];exact List.pairwise_map.2 (List.Pairwise.imp (λT=>by simpa using T) i.tidy)
  ·obtain⟨n,k,m⟩:=A P e
   exact⟨_,B P e n k m⟩
 have U:b.ownsMap ZP 9 (λ_=>some ((.nil:DataW Unit),[])) a d.size (.map ((d.toList.map (WideElems.rg ZP 9 (λ_=>some ((.nil:DataW Unit),[])))).foldr DataW.insert [])):=
  ⟨d,h,J,S,Q4 _,rfl⟩
 have C:Maps.size (.map ((d.toList.map (WideElems.rg ZP 9 (λ_=>some ((.nil:DataW Unit),[])))).foldr DataW.insert []))=g1.length:=by
  show(List.foldr DataW.insert [] _).length=_;rw[(WideShapes.sorted_perm _).length_eq];simp[N]
 have V:(strKeys (.map ((d.toList.map (WideElems.rg ZP 9 (λ_=>some ((.nil:DataW Unit),[])))).foldr DataW.insert []))).Perm ((g1.map (·.1)).map λn=>n.data.toList):=by
  refine(List.Perm.map (λf:Lit×DataW Unit=>Go.strOf f.1) (WideShapes.sorted_perm _)).trans ?_;have:(d.toList.map (WideElems.rg ZP 9 (λ_=>some ((.nil:DataW Unit),[])))).map (λf=>Go.strOf f.1)=(g1.map (·.1)).map λn=>n.data.toList:=by
   have W:d.toList.map (λP=>match P.key with| .string n=>n.data.toList|_=>[])=(g1.map (·.1)).map λn=>n.data.toList:=by
    have:=Zj (List.map (λs:Value×Value=>match s.1 with| .string n=>n.data.toList|_=>[])) p;simpa[Function.comp_def]using this
   rw[<-W,List.map_map];refine List.map_congr_left λP e=>?_;obtain⟨n,k,m⟩:=A P e;simp[WideElems.rg,B P e n k m,k,Go.strOf]
  rw[this]
 have X:SeqGives Fence.wide 1 ZP 282 #[ZL c] encStr (λl=>l.Perm (strKeys _)) (Maps.size _) b:=
  AnyZ.keys_gives (ρ:=Tryz.Eu) {Tryz.sS with} Fence.wide _ trivial rfl oM c a d.size _ b (ax z) (ae z rfl) U
 have Y:=AnyZ.sorted_in Tryz.Sw Fence.wide 4 trivial trivial trivial trivial rfl oM (Tryz.Ur _) (enters_of Tryz.func281 kR rfl) 282 #[ZL c] trivial
  (enters_of Tryz.func282 kR rfl) _ _ (by rw[C];unfold maxLen;omega) (by rw[C];exact y) b X
 refine((callsIn_wide (n:=4)).1 Y).mono ?_;rintro P Z ⟨a0,l,rfl,hS,q,a7,t⟩;have E:l.mergeSort (λn u=>decide (n<=u))=(vu (g1.map (·.1))).map λn=>n.data.toList:=by rw[NP];exact Go.mergeSort_of_perm (hS.trans V)
 have a8:l.length=(vu (g1.map (·.1))).length:=by
  have:=Zj List.length E;simpa using this
 have a1:((l.mergeSort (λn u=>decide (n<=u))).map encStr)=(vu (g1.map (·.1))).map Value.string:=by
  rw[E,List.map_map];refine List.map_congr_left λn _=>?_;show Value.string ⟨n.data.toList.toArray⟩=Value.string n;simp
 rw[a1]at q;have hv:∃o v,a0= .slice o l.length v:=by
  rcases q.2 with⟨rfl,h0⟩|⟨g',w,x,rfl,_⟩
  ·exact⟨none,0,by rw[h0]⟩
  ·exact⟨_,_,rfl⟩
 obtain⟨o,v,rfl⟩:=hv;have H:∀j,aD o=some j->b.heap.size<=j/\j<Z.heap.size:=λj r=>by
  rcases q.2 with⟨e,_⟩|⟨g',w,x,e,a9,a6,_⟩
  ·simp only[XX]at e
   rw[e.1]at r;cases r
  ·simp only[XX]at e
   rw[e.1]at r;simp only[aD,Q1]at r;have:=ax a6;omega
 exact Ok.mk ⟨o,_,v,λj=>aD o=some j,rfl,⟨⟨_,λ_=>False,⟨ownsRow_base_a q (Qj _)⟩,bF.TD (λ_ _=>trivial),λ_ i=>i.elim⟩,λ_ i=>i,λj i=>(H j i).2⟩,ak.HL t,λj i=>(H j i).1⟩
end
section
open Go.ar
def kS:iK ZP 9 Value.string:=Xm Tryz.underlying9
def mF:lY ZP 141 9 236 (.pointer none):=⟨kR,kR⟩
def uF:Tryz.prog.underlying 236=some (.pointer 239):=kR
def an.room(D:an):Int:=(D.most:Int)-D.used
def an.op(D:an)(n:an->Int×an):Int×an:=if D.dies then(15,D.gone)else n D.dS
def an.Qf(P:ByteArray)(n:an->cK->Int×an)(D:an):Int×an:=match aF D.files P with
 |none=>(14,D)
 |some a=>n D a
def an.create(D:an)(n:ByteArray):Int×an:=D.op λD=>if iy n then(if(aF D.files n).isSome then(16,D)else if 64<=D.files.length then(12,D)else(0,D.gZ n ⟨[],0,false⟩))else(1,D)
def an.append(D:an)(n:ByteArray)(P:List UInt8):Int×an:=D.op (an.Qf n λD a=>if(P.length:Int)>D.room then(12,D)else(0,D.gZ n {a with bytes:=a.bytes++P}))
def an.sync(D:an)(n:ByteArray):Int×an:=D.op (an.Qf n λD P=>(0,D.gZ n (P.cut P.bytes.length)))
def an.II(D:an)(k:ByteArray)(n:Int):Int×an:=D.op (an.Qf k λD P=>(0,D.gZ k (P.cut n)))
def an.delete(D:an)(n:ByteArray):Int×an:=D.op (an.Qf n λD P=>(0,D.DG n))
def an.rename(D:an)(n P:ByteArray):Int×an:=D.op (an.Qf n λD a=>if iy P then(0,(D.DG n).gZ P {a with mD:=true})else(1,D))
def an.read(D:an)(k:ByteArray):List UInt8×Int:=if D.dead then([],15)else match aF D.files k with
 |none=>([],14)
 |some n=>(n.bytes,0)
def an.list(D:an):List ByteArray:=vu (D.files.map (·.1))
def vw(b:World)(c:Nat)(d:ZN)(n:Int×an)(e:Value)(P:World):Prop:=∃a,e= ZH n.1/\aO P c a n.2/\bB d b a P
variable{X o:Array Value}{x:ByteArray}{e:Int}{d8:Int×an}{a3:List (ByteArray×nE)}{a c:Nat}{f:ZN}{j:Type}{b k:World}{z:ZU}{a9:cK}
def vw.same{D:an}(n:aO k a f D)(P:ak f b k):vw b a f (e,D) (ZH e) k:=⟨f,rfl,n,P,λ_ n=>.inl n⟩
def MC{D:an}(P:aO b a f D){g:FuncId}{body:an->Int×an}(c:enters ZP g=true)(d:D.dies=false->∀n,aO n a f D.dS->ak f b n->YX g (o++ #[]++X) n (Ok (vw n a f (body D.dS)))):
  YX 233 #[ZL a,.func (.func g) o X] b (Ok (vw b a f (D.op body))):=by
 refine Calls.ok (La P (e:=(body D.dS).1) (D':=(body D.dS).2) c λe n h i m=>d e n h i) ?_;rintro p q ⟨j,k,r,l⟩;refine⟨j,?_,?_,l⟩
 ·rw[k];unfold an.op;split<;>rfl
 ·unfold an.op;split<;>simp_all
def vx{D:an}(d:aO b a f D){k:ByteArray}{g:FuncId}{body:an->cK->Int×an}(C:enters ZP g=true)(E:D.dies=false->∀e j l n,eZ e a f D.dS j l->aF l k=some n->ak f b e->YX g (o++ #[ptr n.q]++X) e (Ok (vw e a f (body D.dS n.f)))):
  YX 210 #[ZL a,.string k,.func (.func g) o X] b (Ok (vw b a f (D.op (an.Qf k body)))):=by
 refine zH (PA.mk λe F V z=>PA.mk λH r W I=>PA.mk λA m Y J=>?_);have s:ai b A:=(F.ah r).ah m;have K:=d.ah s;have t:=d.aC;refine⟨_,ae (m.get (r.get z id) id) rfl,PC.ok (MC K (body:=an.Qf k body) kR λL P B p=>?_) ?_⟩
 ·obtain⟨j,l,h⟩:=B.open
  have M:P.heap[b.heap.size]? =_:=p.get (m.get (r.get z id) id) (λi=>by have:=t _ i;omega);have N:P.heap[e.heap.size]? =_:=p.get (m.get I id) (λi=>by have:=t _ i;omega);have O:P.heap[H.heap.size]? =_:=p.get J (λi=>by have:=t _ i;omega);refine ve ⟨_,ae M rfl,a,0,rfl,some j,ae h.head rfl,_,ae N rfl,?_⟩;rcases h.box k with⟨u,v⟩|⟨n,Q,Z,u,v⟩
  ·refine⟨none,λw=>?_,λq c=>?_⟩
   ·have:=dX mF kS (h.map.af (ak.drewN (S:=λ_=>False) P w) id) k false
    simpa[v]using this
   ·refine Ax uF ⟨_,rfl,al.ff rfl (Ok.mk ?_)⟩
    have:an.Qf k body D.dS=(14,D.dS):=by unfold an.Qf;rw[u]
    rw[this];exact vw.same (B.ah c.af) c.af
  ·refine⟨ZM n.q,λw=>?_,λq c=>?_⟩
   ·have:=dX mF kS (h.map.af (ak.drewN (S:=λ_=>False) P w) id) k false
    simpa[v,ptr]using this
   ·refine Ax uF ⟨_,rfl,al.tt rfl ⟨_,ae (c.af (S:=λ_=>False)|>.get O id) rfl,g,o,X,rfl,C,?_⟩⟩
    have R:ak f b q:=((s.af (S:=f)).then p).ah c.af;refine PC.ok (E L q j l n (h.ah c.af) Q R) ?_;rintro S w6 ⟨x,rfl,T,y⟩;have:an.Qf k body D.dS=body D.dS n.f:=by unfold an.Qf;rw[u]
    refine⟨_,rfl,Ok.mk ?_⟩;rw[this];exact⟨x,rfl,T,(bB.mk c.af λ_ d=>.inl d:bB f P f q).trans y⟩
 ·rintro S P ⟨x,rfl,U,y⟩
  exact⟨_,rfl,Ok.mk ⟨x,rfl,U,(bB.mk s.af λ_ d=>.inl d:bB f b f A).trans y⟩⟩
def an.Ok.set{D:an}(n:D.Ok){a:ByteArray}{c P:cK}(b:aF D.files a=some c)(d:P.bytes.length+D.used<=c.bytes.length+D.most)(e:P.synced<=P.bytes.length):(D.gZ a P).Ok:=by
 have f:=bW b;refine⟨n.most,?_,?_,n.tidy.aH _ _,?_,?_,n.BJ,n.BK⟩
 ·have:=yq (l:=D.files) (k:=a) (f:=P)
  rw[b]at this;simp only[Option.map_some,Option.getD_some]at this;show ez (aH D.files a P)<=D.most;unfold an.used at d;omega
 ·show(aH D.files a P).length<=64
  rw[xz (by rw[b];rfl)];exact n.many
 ·intro x j
  rcases fQ n.tidy j with rfl|⟨j,_⟩
  ·show iy a=true
   exact n.names _ f
  ·exact n.names x j
 ·intro x j
  rcases fQ n.tidy j with rfl|⟨j,_⟩
  ·exact e
  ·exact n.RY x j
def an.Ok.del{D:an}(n:D.Ok)(P:ByteArray):(D.DG P).Ok:=by
 have d:=IJ D.files P;have e:=yr (l:=D.files) (k:=P);have c:=n.fits;have f:=n.many;unfold an.used at c;exact⟨n.most,by show ez (bY D.files P)<=D.most;omega,by show(bY D.files P).length<=64;omega,n.tidy.bY P,λa b=>n.names a (gu b),λa b=>n.RY a (gu b),n.BJ,n.BK⟩
def an.Ok.put{D:an}(n:D.Ok)(b:iy x=true)(c:a9.bytes.length+D.used<=D.most)(e:D.files.length<64)(d:a9.synced<=a9.bytes.length):(D.gZ x a9).Ok:=by
 refine⟨n.most,?_,?_,n.tidy.aH _ _,?_,?_,n.BJ,n.BK⟩
 ·have:=yq (l:=D.files) (k:=x) (f:=a9)
  show ez (aH D.files x a9)<=D.most;unfold an.used at c;omega
 ·have:=xU D.files x a9
  show(aH D.files x a9).length<=64;omega
 ·intro a P
  rcases fQ n.tidy P with rfl|⟨P,_⟩
  ·exact b
  ·exact n.names a P
 ·intro a P
  rcases fQ n.tidy P with rfl|⟨P,_⟩
  ·exact d
  ·exact n.RY a P
def xB{l:List (ByteArray×j)}{k:ByteArray}(n:(aF l k).isSome=true):(bY l k).length+1=l.length:=by
 induction l with
 |nil=>simp[aF]at n
 |cons P l a=>
  obtain⟨c,d⟩:=P;simp only[bY,aF]at n⊢;split
  ·rfl
  ·rename_i b
   rw[Zq b]at n;simp[a n]
def Ew(P:List (ByteArray×j))(a:ByteArray)(c b:j):aH (aH P a c) a b=aH P a b:=by
 induction P with
 |nil=>simp[aH]
 |cons d P e=>
  obtain⟨f,g⟩:=d;simp only[aH]
  by_cases n:(a==f)=true
  ·rw[Zx n,Zx n];simp[aH]
  ·rw[Zq n,Zq n];simp[aH,n,e]
def dW.Sy{G:ZN}(P:dW b a G a9)(c:∀n,dW n a G {a9 with mD:=true}->ak (·=a) b n->n.heap.size=b.heap.size->z n):PS b ⟨a,0+2,none⟩ (.bool true) z:=by
 obtain⟨i,j,d,k,l,m,o,f⟩:=P.body;refine PS.mk l sM λp g q r=>c p ⟨⟨i,j,d,k,r,m.af g (λh e s=>f (s▸e)),o,f⟩,P.self,λh e=>by have:=P.aC h e;omega⟩ g q
def an.Ok.cut{D:an}(P:D.Ok)(a:aF D.files x=some a9)(n:Int):(D.gZ x (a9.cut n)).Ok:=by
 have b:=Sx a9 n;have c:=xA n a9.bytes.length;have d:=P.fits;exact P.set a oM (by rw[b];exact Q4 _)
def eZ.get{D:an}(P:eZ b a f D c a3){n:nE}(d:aF a3 x=some n):aF D.files x=some n.f:=by
 rw[P.files];have:=BM (λn:nE=>n.f) a3 x;rw[d]at this;exact this
def lQ(P:Value)(c:World)(e:ai k b)(n:vw b a f d8 P c):∃d:Int,P= ZH d/\Ok (vw k a f d8) (.returned (ZH d)) c:=by
 obtain⟨g,rfl,h,i⟩:=n;exact⟨_,rfl,Ok.mk ⟨g,rfl,h,(bB.mk e.af λ_ n=>.inl n:bB f k f b).trans i⟩⟩
def Ex{D:an}(P:aO b a f D){k:ByteArray}:
  YX 172 #[ZL a,.string k] b (Ok (vw b a f (D.sync k))):=by
 refine uV (PC.ok (vx P (k:=k) (g:=236) (body:=λD d=>(0,D.gZ k (d.cut d.bytes.length))) kR λv w x y i n c z=>?_) λj l P=>lQ j l (ak.refl b) P);have e:=n.each.each _ (bW c);have g:=n.get c;obtain⟨A,B,m,C,o,p,E,F⟩:=e.body;have q:=p.len dC;refine ss ⟨i.q,0,rfl,_,_,_,ae o rfl,PC.ok (BN e (n.ok.len (bW g))) ?_⟩;rintro _ H ⟨I,rfl,h,r⟩;rw[q]at h;obtain⟨s,t,u⟩:=n.dT c h r (n.ok.cut g _);exact⟨rfl,Ok.mk ⟨s,rfl,t.at,u⟩⟩
def Qg{D:an}(P:aO b a f D):
  YX 169 #[ZL a,.string x,ZH e] b (Ok (vw b a f (D.II x e))):=by
 refine xd (PA.mk λu d v h=>PC.ok (vx (P.ah d) (k:=x) (g:=232) (body:=λD i=>(0,D.gZ x (i.cut e))) kR λw y z A B n c j=>?_) λk l P=>lQ k l d P);have m:=n.each.each _ (bW c);have g:=n.get c;refine tT ⟨_,ae (j.get h λo=>by have:=P.aC _ o;omega) rfl,PC.ok (BN m (n.ok.len (bW g))) ?_⟩;rintro _ C ⟨E,rfl,p,q⟩;obtain⟨r,s,t⟩:=n.dT c p q (n.ok.cut g _);exact⟨rfl,Ok.mk ⟨r,rfl,s.at,t⟩⟩
def yt{D:an}(n:aO b a f D):
  YX 141 #[ZL a,.string x] b (Ok (vw b a f (D.delete x))):=by
 refine si (PA.mk λw g y h=>PA.mk λz d A i=>⟨_,ae (d.get h id) rfl,_,ae i rfl,PC.ok (vx ((n.ah g).ah d) (k:=x) (g:=211) (body:=λD B=>(0,D.DG x)) kR λC m o E F p H j=>?_) λq r n=>lQ q r (g.ah d) n⟩);have s:=j.get (d.get h id) λP=>by have:=n.aC _ P;omega
 have t:=j.get i λP=>by have:=n.aC _ P;omega
 refine pG λu k=>?_;have c:=p.ah k.af;have e:ai m u:=k.af;refine⟨_,ae (e.get s id) rfl,a,0,rfl,some o,ae c.head rfl,x,ae (e.get t id) rfl,Lb mF kS c.map λI v l J=>Ok.mk ⟨f,rfl,(c.drop v l (c.ok.del x)).at,?_,λ_ n=>.inl n⟩⟩;exact e.af.then (l.mono λK _ P=>by rw[P];exact c.Fr)
def IK{D:an}(c:aO b a f D){k e:ByteArray}:
  YX 182 #[ZL a,.string k,.string e] b (Ok (vw b a f (D.rename k e))):=by
 refine sr (PA.mk λw1 J s1 K=>PA.mk λX o s2 L=>PA.mk λw3 g s3 Y=>⟨_,ae (g.get (o.get K id) id) rfl,_,ae (g.get L id) rfl,PC.ok (vx (((c.ah J).ah o).ah g) (k:=k) (g:=242)
  (body:=λD Z=>if iy e then(0,(D.DG k).gZ e {Z with mD:=true})else(1,D)) kR λhd s t b1 x d M u=>?_) λa0 w' c=>lQ a0 w' ((J.ah o).ah g) c⟩)
 have h:=u.get (g.get (o.get K id) id) λn=>by have:=c.aC _ n;omega
 have v:=u.get (g.get L id) λn=>by have:=c.aC _ n;omega
 have N:=u.get Y λn=>by have:=c.aC _ n;omega
 have w:=bW M;have y:=d.get M;refine pK ⟨_,ae N rfl,PC.ok vy ?_⟩;rintro _ w5 ⟨rfl,z⟩;refine⟨_,rfl,al.not (al.mk (λp=>λw6 a6=>?_) (λp=>Ok.mk ?_))⟩
 ·have i:ai s w6:=z.ah a6.af
  have q:=d.ah i;refine⟨_,ae (i.get h id) rfl,a,0,rfl,some t,ae q.head rfl,_,ae (i.get v id) rfl,Lb mF kS q.map λw7 a7 A b8=>λB C=>?_⟩;have a8:=q.drop a7 A (q.ok.del k);have E:=a8.ah C.af;have O:∀P,P=t->f P:=λP n=>by rw[n];exact d.Fr
  have F:ak f s B:=(i.af.then (A.mono λP _ n=>O P n)).ah C.af;have Q:∀{P:Nat} {R:Obj},s.heap[P]? =some R->b.heap.size<=P->B.heap[P]? =some R:=λn b9=>F.get n λhF=>by have:=c.aC _ hF;omega
  have j:=d.IH _ w;have S:dW B (nE.q x) (nE.G x) (nE.f x):=(((d.each.each _ w).af i λ_ _ c=>c).af A λP n=>(j P n).2.2).af C.af λ_ _ c=>c;have a1:b.heap.size<=X.heap.size:=oM
  refine⟨_,ae (Q h (Q4 _)) rfl,a,0,rfl,some t,ae E.head rfl,e,ae (Q N a1) rfl,de mF kS E.map λw9 a9 H c2=>⟨x.q,0,rfl,?_⟩⟩;have b0:=d.ok.fits;have T:=yr (l:=D.dS.files) (k:=k);rw[y]at T;simp only[Option.map_some,Option.getD_some]at T;have b6:=xB (l:=D.dS.files) (k:=k) (by rw[y];rfl);have b7:=d.ok.many;have a2:=d.ok.RY _ (bW y);have U:∀l:cK,l.bytes=x.f.bytes->l.synced=x.f.synced->((D.dS.DG k).gZ e l).Ok:=λl h v=>(d.ok.del k).put p (by
   show l.bytes.length+ez (bY D.dS.files k)<=D.dS.most;unfold an.used at b0;rw[h];omega) (by show(bY D.dS.files k).length<64;omega) (by rw[h,v];exact a2)
  have b2:=E.put (q:=x.q) (G':=x.G) a9 H S (λa3 hy c3 P n b3=>by
   obtain⟨b4,b5⟩:=GC d.each.tidy hy;exact d.each.apart _ w a3 b4 (λI=>b5 I.symm) P n b3) (λP n=>(j P n).2) (U x.f rfl rfl)
  have V:dW w9 x.q x.G x.f:=S.af H λP n=>(j P n).2.2;refine V.Sy λc4 a4 a5 c0=>Ok.mk ?_;obtain⟨F',m,W⟩:=b2.dT (k:=e) (x:=⟨x.q,x.G,x.f⟩) (by rw[rK];simp) a4 ⟨a5.mono λP _ n=>n▸V.self,λ_ c=>.inl c⟩ (by
   unfold an.gZ;simp only[Ew];exact U {x.f with mD:=true} rfl rfl)
  rw[p,Zx rfl];have I:((D.dS.DG k).gZ e x.f).gZ e {x.f with mD:=true}=(D.dS.DG k).gZ e {x.f with mD:=true}:=by
   unfold an.gZ;simp only[Ew]
  refine⟨F',rfl,by rw[<-I];exact m.at,⟨?_,λP n=>?_⟩⟩
  ·exact(F.then (H.mono λP _ n=>O P n)).then (W.af.mono λP _ n=>n.elim id λc=>(j P c).1)
  ·rcases W.new P n with(r|r)|r
   ·exact .inl r
   ·exact .inl (j P r).1
   ·have:=F.size;exact .inr oM
 ·rw[p];exact⟨f,rfl,(d.ah z).at,z.af,λ_ c=>.inl c⟩
def yu{D:an}(n:aO b a f D):
  YX 170 #[ZL a,.string x] b (Ok (vw b a f (D.create x))):=by
 refine sq (PA.mk λw1 H s1 I=>PA.mk λw2 m s2 N=>⟨_,ae (m.get I id) rfl,PC.ok (MC ((n.ah H).ah m) (g:=234)
  (body:=λD=>if iy x then(if(aF D.files x).isSome then(16,D)else if 64<=D.files.length then(12,D)else(0,D.gZ x ⟨[],0,false⟩))else(1,D)) kR λhd r O s=>?_) λQ R n=>lQ Q R (H.ah m) n⟩)
 obtain⟨e,t,P⟩:=O.open;have u:=s.get (m.get I id) λc=>by have:=n.aC _ c;omega
 have v:=s.get N λc=>by have:=n.aC _ c;omega
 refine pJ ⟨_,ae v rfl,PC.ok vy ?_⟩;rintro _ w ⟨rfl,g⟩;refine⟨_,rfl,al.not (al.mk (λh=>?_) (λh=>Ok.mk ?_))⟩
 ·have y:=P.ah g
  have J:∀k,(Instr.lookup 141 (.map (some e)) (.string x) false).run ZP (w.drewN k)= .ok ((aF (t.map dR) x).getD (.pointer none)) (w.drewN k):=λk=>by
   have:=dX mF kS (y.map.af (ak.drewN (S:=λ_=>False) w k) id) x false;simpa using this
  have S:∃i:YQ,(aF (t.map dR) x).getD (.pointer none)= .pointer i/\i.isSome=(aF D.dS.files x).isSome:=by
   rcases P.box x with⟨z,A⟩|⟨T,b0,bm,z,A⟩
   ·exact⟨none,by rw[A];rfl,by rw[z];rfl⟩
   ·exact⟨ZM T.q,by rw[A];rfl,by rw[z];rfl⟩
  obtain⟨i,U,B⟩:=S;rw[U]at J;refine⟨_,ae (g.get u id) rfl,a,0,rfl,some e,ae y.head rfl,x,ae (g.get v id) rfl,i,J,i.isSome,λk=>qd uF _ _ i _,λV C=>al.mk (λW=>Ok.mk ?_) (λK=>?_)⟩
  ·rw[h,Zx rfl,Zx (by rw[<-B];exact W)]
   exact⟨f,rfl,(y.ah C.af).at,ai.af (g.ah C.af),λ_ n=>.inl n⟩
  ·have o:ai r V:=g.ah C.af
   have E:=P.ah o;have a8:(t.map dR).length=D.dS.files.length:=by rw[P.files];simp
   refine⟨_,ae (o.get u id) rfl,a,0,rfl,some e,ae E.head rfl,Us mF E.map ⟨_,rfl,al.dec (λa9=>Ok.mk ?_) (λb3=>λl X=>?_)⟩⟩
   ·rw[h,Zx rfl,Zq (by rw[<-B,K];simp),Zx oM]
    exact⟨f,rfl,E.at,o.af,λ_ n=>.inl n⟩
   ·have j:ai r l:=o.ah X.af
    have p:=P.ah j;have b4:=P.map.lt;have b5:=ax P.head;have a7:b.heap.size<=r.heap.size:=by have:=s.size;omega
    have L:∀d,b.heap.size<=d->d≠e:=λd c a2=>by have:=n.aC e P.Fr;omega
    refine⟨(·=e),L _ (Q4 _),_,ae (j.get u id) rfl,a,0,rfl,P.pr,some e,ae p.head rfl,L _ oM,x,ae (j.get v id) rfl,PA.mk λM q s7 Y=>⟨q.af,de mF kS (p.ah q).map λw8 Z F b6=>⟨F,Ok.mk ?_⟩⟩⟩;have a3:=p.ah q;have a0:dW M l.heap.size (·=l.heap.size) ⟨[],0,false⟩:=⟨⟨none,0,0,λ_=>False,Y,aM.nil M,λ_ n=>n.elim,λn=>n⟩,rfl,λd c=>oM⟩
    have a4:(D.dS.gZ x ⟨[],0,false⟩).Ok:=P.ok.put h (by have:=P.ok.fits;simpa using this) oM (Q4 _);have a5:=a3.put (q:=l.heap.size) (G':=(·=l.heap.size)) Z F a0 (λa1 hy _ d c a6=>by have:=(p.each.each a1 hy).aC d a6;omega) (λd c=>by have:=j.size;omega) a4;rw[h,Zx rfl,Zq (by rw[<-B,K];simp),Zq oM];refine⟨_,rfl,a5.at,⟨(j.af.ah q).then (F.mono λd _ c=>by rw[c];exact P.Fr),λd c=>c.imp id λn=>by have:=j.size;omega⟩⟩
 ·rw[h]
  exact⟨f,rfl,(P.ah g).at,g.af,λ_ n=>.inl n⟩

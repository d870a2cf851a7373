import Derived.Test.YtkpomgifkloklaaGreatDoorKe9
import Derived.Maps.RangeRun
import Derived.Laws.RangeAny
import Derived.Laws.Runes
import Derived.Lib.AppendZeros
import Derived.StringKeys
set_option maxHeartbeats 4000000
set_option linter.all false
set_option maxRecDepth 20000
open Go.IntKind renaming wrap→PP
namespace Go.aw
open Go
instance:LawfulBEq ByteArray where
 eq_of_beq:=λ{a b} h=>ByteArray.ext (eq_of_beq (show(a.data==b.data)=true from h))
 rfl:=λ{a}=>show(a.data==a.data)=true from by simp
variable{x:ByteArray}{a:Nat}{h:Program}{C c1 f7 g q:TypeId}{m t:am}
def ZE(n:h.underlying g=some .string):jt h g Value.string:=
 jt.flat n (λP b=>rfl) (λa c d e=>by simp[Instr.checkKey,run_underlying n]) λa P=>by simp[Instr.sameBits]
structure cW {κ:Type} (w:World) (it r:Nat) (enc:κ->Value) (l left:List (κ×Value)):Prop where
 at':∃es clock since seen c0,w.heap[r]? =some (.map es clock)/\es.toList.map (λe=>(e.key,e.val))=l.map (λp=>(enc p.1,p.2))/\
  (∀e∈es.toList,e.born<clock)/\(es.toList.map (·.born)).Nodup/\w.heap[it]? =some (.mapIter (some r) since seen c0)/\(∀x∈es.toList,x.born<since)/\since<=c0/\since<=clock/\
  (leftOf es seen).toList.map (λe=>(e.key,e.val))=left.map (λp=>(enc p.1,p.2))
 tidy:Tidy l
structure Wn {κ:Type} (w:World) (it r:Nat) (enc:κ->Value) (k:κ) (v:Value):Prop where
 at':∃(es:Array MapEntry) (clock since:Nat) (seen:Array Nat) (e:MapEntry),w.heap[r]? =some (.map es clock)/\w.heap[it]? =some (.mapIter (some r) since (seen.push e.born) clock)/\e∈es.toList/\(es.toList.map (·.born)).Nodup/\e.key=enc k/\e.val=v
section
variable {κ:Type} {w w':World} {it r:Nat} {enc:κ->Value} {l left:List (κ×Value)} {S:ac}
def cW.keep(b:cW w it r enc l left)(c:aj S w w')(d:¬S it)(e:¬S r):cW w' it r enc l left:=by
 obtain⟨f,n,P,seen,g,h,i,j,k,m,a⟩:=b.at';exact⟨⟨f,n,P,seen,g,c.get h e,i,j,k,c.get m d,a⟩,b.tidy⟩
def cW.af(n:cW w it r enc l left)(P:ai w w'):cW w' it r enc l left:=n.keep P id id
def cW.map(a:cW w it r enc l left):bX w r enc l:=by
 obtain⟨c,n,P,seen,h,d,e,f,g,i,b⟩:=a.at';exact⟨⟨c,n,d,e,f,g⟩,a.tidy⟩
def cW.ne(c:cW w it r enc l left):it≠r:=by
 obtain⟨e,n,P,seen,f,d,g,h,i,a,b⟩:=c.at';rintro rfl;rw[d]at a;cases a
def cW.lt(b:cW w it r enc l left):it<w.heap.size:=by
 obtain⟨d,n,P,seen,e,f,g,h,i,c,a⟩:=b.at';exact az c
def mapRange{f:Value}(i:mZ h g q C f)(P:bX w r enc l)(j:∀w',cW w' w.heap.size r enc l l->ai w w'->w'.heap.size=w.heap.size+1->m (RK w.heap.size) w'):aK h (Instr.range g (.map (some r))) w m t:=by
 obtain⟨a,n,b,c,d,k⟩:=P.at';have e:ai w (w.alloc (.mapIter (some r) n #[] n)):=aj.alloc w _;refine aK.mk (run_range_map w g q C r a n i.under b) (j _ ⟨⟨a,n,n,#[],n,e.get b id,c,d,k,heap_alloc_new w _,d,Q4 _,Q4 _,?_⟩,P.tidy⟩ e sM);rw[<-c]
 congr 2
 unfold leftOf;simp
def oG{P:Program}(q:cW w it r enc l left)(U:left=[]->m (.tuple #[.bool false]) w)(V:∀s u A B w',left=A++(s,u)::B->cW w' it r enc l (A++B)->Wn w' it r enc s u->aj (·=it) w w'->w'.heap.size=w.heap.size->m (.tuple #[.bool true,enc s,u]) w'):
  aK P (Instr.next (RK it) false g) w m t:=by
 have W:=q.ne;obtain⟨d,n,b,seen,C,E,X,Y,v,F,H,Z,I,k⟩:=q.at';rcases run_next_at (P:=P) w g it r b C seen d n F E H Z with⟨hz,x⟩|⟨c,J,f,K,x⟩
 ·refine aK.mk x (U ?_)
  have:(leftOf d seen).toList=[]:=by rw[Array.eq_empty_of_size_eq_zero hz]
  rw[this]at k;simpa using k.symm
 ·have y:ai w f:=by rcases K with rfl|rfl;exact aj.refl _;exact aj.drewN w 1
  have b0:f.heap.size=w.heap.size:=by rcases K with rfl|rfl<;>rfl
  have a0:f.heap[it]? =some (.mapIter (some r) b seen C):=y.get F id;have b1:f.heap[r]? =some (.map d n):=y.get E id;have a1:=az a0
  let p:=ChangeMaps.setBlock f it (.mapIter (some r) b (seen.push c.born) n)
  have L:aj (·=it) f p:=aj.setObj f it _;have M:p.heap[it]? =some (.mapIter (some r) b (seen.push c.born) n):=cX f it _ a1;have N:p.heap[r]? =some (.map d n):=L.get b1 (λc=>W c.symm);have a2:=mem_left J;obtain⟨a,h,O⟩:=List.getElem_of_mem J;have Q:a<left.length:=by have:=Zj List.length k;simp at this;simp at h;omega
  have R:(c.key,c.val)=(enc left[a].1,left[a].2):=by
   have:=Zj (λa3=>a3[a]?) k;simp only[Q9]at this;rw[Qq h,Qq Q,O]at this;simpa using this
  have a4:left=left.take a++(left[a].1,left[a].2)::left.drop (a+1):=by
   have:=(ZX a left).symm;rw[X4 Q]at this;exact this
  have a5:(leftOf d (seen.push c.born)).toList=(leftOf d seen).toList.eraseIdx a:=by
   have j:((leftOf d seen).toList.map (·.born)).Nodup:=by
    unfold leftOf;rw[Array.toList_filter];exact v.sublist (List.Sublist.map _ List.filter_sublist)
   have hf:(leftOf d (seen.push c.born)).toList=(leftOf d seen).toList.filter (λi=>i.born !=c.born):=by
    unfold leftOf;rw[Array.toList_filter,Array.toList_filter,List.filter_filter]
    congr 1
    funext i
    rw[contains_push]
    cases seen.contains i.born<;>cases hx:(i.born==c.born)<;>simp only[bne,hx]<;>rfl
   rw[hf];have z:∀(e:List MapEntry) (a:Nat) (h:a<e.length),(e.map (·.born)).Nodup->e.filter (λi=>i.born !=e[a].born)=e.eraseIdx a:=by
    intro e
    induction e with
    |nil=>intro a h;simp at h
    |cons i e ih=>
     intro a h j;simp only[QY,List.nodup_cons]at j
     cases a with
     |zero=>
      simp only[List.getElem_cons_zero,List.eraseIdx_zero,List.tail_cons];rw[List.filter_cons_of_neg sM];apply List.filter_eq_self.2;intro a6 hy;simp only[bne_iff_ne,ne_eq];intro c;exact j.1 (c▸Xk.2 ⟨a6,hy,rfl⟩)
     |succ a=>
      simp only[List.getElem_cons_succ,List.eraseIdx_cons_succ];have o:a<e.length:=by simpa using h
      rw[List.filter_cons_of_pos,ih a o j.2];simp only[bne_iff_ne,ne_eq];intro c;exact j.1 (c▸Xk.2 ⟨e[a],XY o,rfl⟩)
   have:=z _ a h j;rw[O]at this;exact this
  have S:c.key=enc left[a].1:=(Prod.mk.inj R).1;have T:c.val=left[a].2:=(Prod.mk.inj R).2;refine aK.mk x ?_;rw[S,T];refine V left[a].1 left[a].2 (left.take a) (left.drop (a+1)) p a4 ⟨⟨d,n,b,seen.push c.born,n,N,X,Y,v,M,H,I,I,?_⟩,q.tidy⟩ ⟨d,n,b,seen,c,N,M,a2.1,v,S,T⟩ ((ai.keep y).then L) ?_
  ·rw[a5,map_eraseIdx,k,<-map_eraseIdx]
   congr 1
   rw[List.eraseIdx_eq_take_drop_succ]
  ·show(f.heap.setIfInBounds it _).size=_
   simp[b0]
def rE{a:κ}{b:Value}(c:Wn w it r enc a b)(d:m (.tuple #[enc a,b]) w):aK h (Instr.entry (RK it)) w m t:=by
 obtain⟨e,n,P,seen,f,g,i,j,k,l,o⟩:=c.at';refine aK.mk (run_entry_at w it r P seen e n f i g j k) ?_;rw[l,o];exact d
def Sp[BEq κ][LawfulBEq κ]{W:Value}{c:κ}(I:mZ h g q C W)(v:jt h q enc)(x:cW w it r enc l left)(X:c∉left.map (·.1))(J:∀w',cW w' it r enc (bR l c) left->aj (·=r) w w'->w'.heap.size=w.heap.size->m (.tuple #[]) w'):aK h (Builtin.delete_ #[g,c1] f7 #[.map (some r),enc c]) w m t:=by
 have K:=x.ne;obtain⟨P,a,b,seen,L,j,k,M,N,O,Q,R,S,E⟩:=x.at';have y:=kK v c P.toList l k w;have Y:P.toList.length=l.length:=by have:=Zj List.length k;simpa using this
 have T:=az j
 cases z:nH l c 0 with
 |none=>
  rw[z]at y;refine aK.mk (w':={w with heap:=w.heap.setIfInBounds r (.map P a)}) ?_ (J _ ⟨⟨_,_,b,seen,L,cX w r _ T,?_,M,N,(aj.setObj w r _).get O K,Q,R,S,E⟩,x.tidy.bR c⟩ (aj.setObj w r _) sM)
  ·simp[Builtin.delete_,run_underlying I.under,dO j,dU v,y,eS j]
  ·rw[(sF z).2];exact k
 |some d=>
  obtain⟨n,Z⟩:=d;rw[z]at y;obtain⟨_,f,U,V⟩:=oL z;rw[Nat.sub_zero]at f U V;have o:n<P.size:=by
                 have:P.size=l.length:=by simpa using Y
                 omega
  have p:(P.eraseIdxIfInBounds n).toList=P.toList.eraseIdx n:=by simp[Array.eraseIdxIfInBounds,o]
  have a0:(P.toList[n]'(by simpa using o)).key=enc c:=by
   have:=Zj (λA=>A[n]?) k;simp only[Q9,U,Option.map_some]at this;rw[Qq (by simpa using o)]at this;simpa using(Prod.mk.inj (XJ this)).1
  have F:∀i∈(leftOf P seen).toList,i.key≠enc c:=by
   intro i hx s;have:(i.key,i.val)∈left.map (λd=>(enc d.1,d.2)):=by rw[<-E];exact Xk.2 ⟨i,hx,rfl⟩
   obtain⟨A,hq,a1⟩:=Xk.1 this;have a2:enc A.1=enc c:=(Prod.mk.inj a1).1.trans s;exact X (Xk.2 ⟨A,hq,v.inj a2⟩)
  have a3:(leftOf (P.eraseIdxIfInBounds n) seen).toList=(leftOf P seen).toList:=by
   unfold leftOf at F⊢;rw[Array.toList_filter]at F;rw[Array.toList_filter,Array.toList_filter,p];have H:∀(e:List MapEntry) (d:MapEntry->Bool) (n:Nat) (f:n<e.length),d e[n]=false->(e.eraseIdx n).filter d=e.filter d:=by
    intro e d
    induction e with
    |nil=>intro n f;simp at f
    |cons i e ih=>
     intro n f B
     cases n with
     |zero=>
      simp only[List.getElem_cons_zero]at B;simp[B]
     |succ n=>
      simp only[List.getElem_cons_succ]at B;simp only[List.eraseIdx_cons_succ,List.filter_cons];rw[ih n (by simpa using f) B]
   refine H _ _ n (by simpa using o) ?_
   cases a4: !seen.contains (P.toList[n]'(by simpa using o)).born with
   |false=>rfl
   |true=>exact Zz a0 (F _ (List.mem_filter.2 ⟨XY _,a4⟩))
  refine aK.mk (w':={w with heap:=w.heap.setIfInBounds r (.map (P.eraseIdxIfInBounds n) a)}) ?_ (J _ ⟨⟨_,_,b,seen,L,cX w r _ T,?_,?_,?_,(aj.setObj w r _).get O K,?_,R,S,?_⟩,x.tidy.bR c⟩ (aj.setObj w r _) sM)
  ·simp[Builtin.delete_,run_underlying I.under,dO j,dU v,y,eS j]
  ·rw[(V Z).2,p,map_eraseIdx,k,map_eraseIdx]
  ·intro s u
   rw[p]at u;exact M s (List.mem_of_mem_eraseIdx u)
  ·rw[p,map_eraseIdx]
   exact N.sublist (List.eraseIdx_sublist _ _)
  ·intro s u
   rw[p]at u;exact Q s (List.mem_of_mem_eraseIdx u)
  ·rw[a3];exact E
def WJ{P:Value}(a:mZ h g q C P)(b:bX w r enc l)(c:m (WP (l.length:Int)) w):aK h (Builtin.len_ #[g] c1 #[.map (some r)]) w m t:=by
 obtain⟨d,n,e,f,_⟩:=b.at';have i:d.size=l.length:=by have:=Zj List.length f;simpa using this
 refine aK.mk (v:=WP (l.length:Int)) ?_ c;rw[<-i];simp[Builtin.len_,Builtin.lenOf,run_underlying a.under,dO e,goInt]
def Cm(n:h.underlying g=some .string)(P:∀w',w'.heap[w.heap.size]? =some (.stringIter x 0)->ai w w'->w'.heap.size=w.heap.size+1->m (RK w.heap.size) w'):aK h (Instr.range g (.string x)) w m t:=
 aK.mk (run_range_string w g x n) (P _ (World.iter_heap w x 0) (aj.alloc w _) (by simp[World.iter]))
def Hq(n:w.heap[it]? =some (.stringIter x a))(b:x.size<=a->m (.tuple #[.bool false]) w)(c:a<x.size->∀w',w'.heap[it]? =some (.stringIter x (a+(Utf8.decode x a).2))->aj (·=it) w w'->w'.heap.size=w.heap.size->m (.tuple #[.bool true,WP (a:Int),.int .i32 ((Utf8.decode x a).1:Int)]) w'):
  aK h (Instr.next (RK it) true g) w m t:=by
 by_cases P:a<x.size
 ·refine aK.mk (w':={w with heap:=w.heap.setIfInBounds it (.stringIter x (a+(Utf8.decode x a).2))}) ?_ (c P _ (cX w it _ (az n)) (aj.setObj w it _) sM)
  simp[Instr.next,getObj,setObj,Sem.run,n,P,goInt]
 ·refine aK.mk ?_ (b oM)
  simp[Instr.next,getObj,Sem.run,n,P]
end
end Go.aw
namespace Go.Proofs.YtkpomgifkloklaaGreatDoor
open Go.aw
def eP(b:UInt8):Bool:=(97<=b&&b<=122)||(48<=b&&b<=57)||b==46
def dd(n:ByteArray):Bool:=decide (1<=n.size)&&decide (n.size<=16)&&n.data.toList.all eP
structure bZ where
 bytes:List UInt8
 synced:Nat
 jZ:Bool
 deriving DecidableEq
structure ak where
 most:Nat
 files:List (ByteArray×bZ)
 jF:Bool
 left:Int
 dead:Bool
 deriving DecidableEq
def fm(n:List (ByteArray×bZ)):Nat:=(n.map λP=>P.2.bytes.length).sum
def ak.used(D:ak):Nat:=fm D.files
structure ak.Ok (D:ak):Prop where
 most:D.most<=262144
 fits:D.used<=D.most
 many:D.files.length<=64
 tidy:Tidy D.files
 names:∀x∈D.files,dd x.1=true
 Ud:∀x∈D.files,x.2.synced<=x.2.bytes.length
 BT:0<=D.left
 BU:aH D.left
variable{Y o:Array Value}{H:Bool}{x:ByteArray}{f8:ByteArray×bZ}{A:FuncId}{e:Int}{h2:List (ByteArray×bZ)}{u:List UInt8}{a c:Nat}{f:ac}{d:be}{K j:Type}{c2:UInt8}{b k:World}{z:bc}{X:bZ}
def Mm(h:f8∈h2):f8.2.bytes.length<=fm h2:=by
 unfold fm
 induction h2 with
 |nil=>cases h
 |cons P h2 n=>
  simp only[QY,List.sum_cons];rcases Q2.1 h with rfl|h
  ·omega
  ·have:=n h;omega
def ak.Ok.len{D:ak}(n:D.Ok)(P:f8∈D.files):f8.2.bytes.length<=262144:=by
 have:=Mm P;have:=n.fits;have:=n.most;unfold ak.used at*;omega
structure eQ (w:World) (q:Nat) (G:ac) (f:bZ):Prop where
 body:∃a n cap F,w.heap[q]? =some (.cells #[.slice a n cap,WP f.synced,.bool f.jZ] 216 (0,0))/\aS gC 5 F w a n cap f.bytes/\(∀b,F b->G b)/\¬F q
 self:G q
 aE:∀b,G b->b<w.heap.size
def eQ.keep{S G:ac}(P:eQ b a G X)(c:aj S b k)(f:∀n,G n->¬S n):eQ k a G X:=by
 obtain⟨h,i,d,j,l,m,g,o⟩:=P.body;exact⟨⟨h,i,d,j,c.get l (f _ P.self),m.keep c (λn e=>f n (g n e)),g,o⟩,P.self,λn e=>Qk (P.aE n e) c.size⟩
structure oF where
 q:Nat
 G:ac
 f:bZ
def ptr(n:Nat):Value:=RK n
def eK(n:ByteArray×oF):ByteArray×Value:=(n.1,ptr n.2.q)
def wj(n:ByteArray×oF):ByteArray×bZ:=(n.1,n.2.f)
structure EY (w:World) (L:List (ByteArray×oF)):Prop where
 each:∀x∈L,eQ w x.2.q x.2.G x.2.f
 apart:∀x∈L,∀y∈L,x.1≠y.1->∀b,x.2.G b->¬y.2.G b
 tidy:Tidy L
structure aV (w:World) (p:Nat) (F:ac) (D:ak):Prop where
 body:∃r L,w.heap[p]? =some (.cells #[WP D.most,.map (some r),.bool D.jF,WP D.left,.bool D.dead] 176 (0,0))/\bX w r Value.string (L.map eK)/\D.files=L.map wj/\EY w L/\
  (∀x∈L,∀b,x.2.G b->F b/\b≠p/\b≠r)/\F r/\p≠r
 self:F p
 aE:∀b,F b->b<w.heap.size
 ok:D.Ok
variable{a3:List (ByteArray×oF)}
def EY.keep{S:ac}(P:EY b a3)(d:aj S b k)(e:∀n∈a3,∀a,n.2.G a->¬S a):EY k a3:=
 ⟨λn c=>(P.each n c).keep d (e n c),P.apart,P.tidy⟩
def aV.keep{S d:ac}{D:ak}(P:aV b a d D)(c:aj S b k)(e:∀n,d n->¬S n):aV k a d D:=by
 obtain⟨i,j,l,m,o,p,g,h,q⟩:=P.body;exact⟨⟨i,j,c.get l (e _ P.self),m.keep c (e _ h),o,p.keep c (λr s n f=>e n (g r s n f).1),g,h,q⟩,P.self,λn f=>Qk (P.aE n f) c.size,P.ok⟩
def aV.af{D:ak}(n:aV b a f D)(P:ai b k):aV k a f D:=n.keep P λ_ _ n=>n
def rA(a:j->K)(P:List (ByteArray×j))(b:ByteArray)(c:j):(aJ P b c).map (λn=>(n.1,a n.2))=aJ (P.map λn=>(n.1,a n.2)) b (a c):=by
 induction P with
 |nil=>rfl
 |cons d P e=>
  obtain⟨n,f⟩:=d;simp only[aJ,QY];split
  ·rfl
  ·simp[e]
def BV(a:j->K)(P:List (ByteArray×j))(b:ByteArray):(bR P b).map (λn=>(n.1,a n.2))=bR (P.map λn=>(n.1,a n.2)) b:=by
 induction P with
 |nil=>rfl
 |cons c P d=>
  obtain⟨n,e⟩:=c;simp only[bR,QY];split
  ·rfl
  ·simp[d]
def BW(a:j->K)(n:List (ByteArray×j))(b:ByteArray):au (n.map λP=>(P.1,a P.2)) b=(au n b).map a:=by
 induction n with
 |nil=>rfl
 |cons c n d=>
  obtain⟨P,e⟩:=c;simp only[au,QY];split
  ·rfl
  ·exact d
def gD{P:List (ByteArray×j)}(c:Tidy P){a:j}{n:ByteArray×j}(h:n∈aJ P x a):n=(x,a)\/(n∈P/\n.1≠x):=by
 by_cases b:n.1=x
 ·left
  have:=rC (c.aJ x a) (k:=n.1) (v:=n.2) h;rw[bE,b]at this;simp at this;exact Prod.ext b this.symm
 ·rcases fO h with rfl|h
  ·exact .inl rfl
  ·exact .inr ⟨h,b⟩
def He{P:List (ByteArray×j)}(a:Tidy P){n:ByteArray×j}(b:n∈bR P x):n∈P/\n.1≠x:=by
 refine⟨gU b,λd=>?_⟩;have c:=rC (a.bR x) (k:=n.1) (v:=n.2) b;rw[gy a,d]at c;simp at c
def yN{l:List (ByteArray×bZ)}{k:ByteArray}{f:bZ}:fm (aJ l k f)+((au l k).map λn=>n.bytes.length).getD 0=fm l+f.bytes.length:=by
 unfold fm
 induction l with
 |nil=>simp[aJ,au]
 |cons P l a=>
  obtain⟨b,c⟩:=P;simp only[aJ,au];split
  ·simp;omega
  ·simp only[QY,List.sum_cons]at a⊢;omega
def yO{l:List (ByteArray×bZ)}{k:ByteArray}:fm (bR l k)+((au l k).map λn=>n.bytes.length).getD 0=fm l:=by
 unfold fm
 induction l with
 |nil=>simp[bR,au]
 |cons P l a=>
  obtain⟨b,c⟩:=P;simp only[bR,au];split
  ·simp;omega
  ·simp only[QY,List.sum_cons]at a⊢;omega
def yf{n:List (ByteArray×j)}{a:j}(P:(au n x).isSome=true):(aJ n x a).length=n.length:=by
 induction n with
 |nil=>simp[au]at P
 |cons b n c=>
  obtain⟨e,f⟩:=b;simp only[aJ,au]at P⊢;split
  ·rfl
  ·rename_i d
   rw[Zq d]at P;simp[c P]
def aV.head{D:ak}(P:aV b a f D):∃n,b.heap[a]? =some (.cells #[WP D.most,.map (some n),.bool D.jF,WP D.left,.bool D.dead] 176 (0,0)):=by
 obtain⟨n,d,c,_⟩:=P.body;exact⟨n,c⟩
def aV.Mn{D n:ak}(c:aV b a f D)(d:aj (·=a) b k)(j:∀P,b.heap[a]? =some (.cells #[WP D.most,.map (some P),.bool D.jF,WP D.left,.bool D.dead] 176 (0,0))->k.heap[a]? =some (.cells #[WP n.most,.map (some P),.bool n.jF,WP n.left,.bool n.dead] 176 (0,0)))(l:n.files=D.files)(m:n.Ok):aV k a f n:=by
 obtain⟨P,o,p,q,r,s,h,t,i⟩:=c.body;exact⟨⟨P,o,j P p,q.keep d (λu=>i u.symm),l.trans r,s.keep d (λv w e g=>(h v w e g).2.1),h,t,i⟩,c.self,λe g=>Qk (c.aE e g) d.size,m⟩
def aV.AE{D:ak}(n:aV b a f D)(c:∀P,aV P a f {D with dead:=H}->aj f b P->P.heap.size=b.heap.size->z P):PS b ⟨a,0+4,none⟩ (.bool H) z:=by
 obtain⟨k,d⟩:=n.head;refine PS.mk d sM λP e h i=>c P (n.Mn e (λl g=>?_) rfl ⟨n.ok.most,n.ok.fits,n.ok.many,n.ok.tidy,n.ok.names,n.ok.Ud,n.ok.BT,n.ok.BU⟩) (e.mono λH _ j=>j▸n.self) h;rw[d]at g;cases g;exact i
def aV.Ju{D:ak}(n:aV b a f D)(c:∀P,aV P a f {D with jF:=H}->aj f b P->P.heap.size=b.heap.size->z P):PS b ⟨a,0+2,none⟩ (.bool H) z:=by
 obtain⟨k,d⟩:=n.head;refine PS.mk d sM λP e h i=>c P (n.Mn e (λl g=>?_) rfl ⟨n.ok.most,n.ok.fits,n.ok.many,n.ok.tidy,n.ok.names,n.ok.Ud,n.ok.BT,n.ok.BU⟩) (e.mono λH _ j=>j▸n.self) h;rw[d]at g;cases g;exact i
def aV.NS{D:ak}(n:aV b a f D)(i:0<=e)(j:aH e)(c:∀P,aV P a f {D with left:=e}->aj f b P->P.heap.size=b.heap.size->z P):PS b ⟨a,0+3,none⟩ (WP e) z:=by
 obtain⟨o,d⟩:=n.head;refine PS.mk d sM λP g k l=>c P (n.Mn g (λp h=>?_) rfl ⟨n.ok.most,n.ok.fits,n.ok.many,n.ok.tidy,n.ok.names,n.ok.Ud,i,j⟩) (g.mono λq _ m=>m▸n.self) k;rw[d]at h;cases h;exact l
def Py:bn 58 #[WP e] b (Ok λc a=>
  if e<64\/e>262144 then c= .tuple #[.pointer none,WP 1]/\a=b
  else∃d f,c= .tuple #[RK d,WP 0]/\aV a d f ⟨e.toNat,[],false,0,false⟩/\ai b a/\∀n,f n->b.heap.size<=n):=by
 refine IY (al.dec (λP=>?_) (λP=>al.dec (λg=>?_) (λg=>?_)))
 ·exact Ok.mk (by rw[Zx (.inl P)];exact⟨rfl,rfl⟩)
 ·exact Ok.mk (by rw[Zx (.inr g)];exact⟨rfl,rfl⟩)
 ·refine PA.mk λi j o k=>PA.mk λl h p m=>Ok.mk ?_
  rw[Zq oM];refine⟨i.heap.size,λn=>b.heap.size<=n/\n<l.heap.size,rfl,⟨⟨b.heap.size,[],?_,bX.new (h.get k id),rfl,⟨sM,sM,by simp[Tidy]⟩,sM,oM,oM⟩,oM,λn P=>P.2,?_⟩,j.af h,λn P=>P.1⟩
  ·rw[m]
   have:((e.toNat:Nat):Int)=e:=oM
   rw[this]
  ·exact⟨by show e.toNat<=_;omega,by simp[ak.used,fm],by simp,by simp[Tidy],by simp,by simp,by simp,by unfold aH;simp⟩
def ak.GJ(D:ak)(n:Int):ak:={D with jF:=true,left:=max n 0}
def Pz{D:ak}(k:aH e)(n:aV b a f D):bn 84 #[RK a,WP e] b (Ok λd P=>d= .tuple #[]/\aV P a f (D.GJ e)/\cd f b f P):=by
 have g:(if e>0 then e else 0)=max e 0:=oM
 refine vG ⟨a,0,rfl,n.Ju λl h i m=>⟨a,0,rfl,h.NS oM (by unfold aH at*;omega) λo c j p=>Ok.mk ⟨rfl,?_,i.then j,λ_ n=>.inl n⟩⟩⟩;rw[g]at c;exact c
def ak.dies(D:ak):Bool:=D.dead||(D.jF&&D.left==0)
def ak.cV(D:ak):ak:=if D.jF then{D with left:=D.left-1}else D
def ak.gone(D:ak):ak:={D with dead:=true}
def Mo{D:ak}(k:aV b a f D){e:Int}{D':ak}(z:enters LL A=true)(E:D.dies=false->∀n,aV n a f D.cV->aj f b n->n.heap.size=b.heap.size->bn A (o++ #[]++Y) n (Ok λg c=>∃d,g= WP e/\aV c a d D'/\cd f n d c)):
  bn 247 #[RK a,.func (.func A) o Y] b (Ok λg c=>∃d,g= WP (if D.dies then 15 else e)/\aV c a d (if D.dies then D.gone else D')/\cd f b d c):=by
 obtain⟨L,v⟩:=k.head;have l:∀n,D.dies=true->aV n a f {D with dead:=true}->aj f b n->Ok (λg c=>∃d,g= WP (if D.dies then 15 else e)/\aV c a d (if D.dies then D.gone else D')/\cd f b d c) (.returned (WP 15)) n:=
  λn h P F=>Ok.mk ⟨f,by rw[h];rfl,by rw[h];exact P,F,λ_ k=>.inl k⟩
 refine uL ⟨λn=>aV n a f D/\aj f b n/\n.heap.size=b.heap.size/\D.dies=false,?_,?_⟩
 ·refine⟨a,0,rfl,_,ae v rfl,al.mk (λh=>⟨a,0,rfl,k.AE λn P i q=>?_⟩) (λh=>⟨a,0,rfl,_,ae v rfl,al.mk (λm=>⟨a,0,rfl,_,ae v rfl,a,0,rfl,k.AE λn P i q=>?_⟩) (λm=>⟨a,0,rfl,k.AE λn P i q=>?_⟩)⟩)⟩
  ·obtain⟨w,p⟩:=P.head
   exact⟨a,0,rfl,true,ae p rfl,l n (by simp[ak.dies,h]) P i⟩
  ·obtain⟨w,p⟩:=P.head
   refine⟨a,0,rfl,D.left==0,ae p rfl,al.mk (λr=>l n (by unfold ak.dies;rw[m,r];simp) (by rw[r]at P;exact P) i) (λr=>⟨?_,i,q,by unfold ak.dies;rw[h,r];simp⟩)⟩;have:({D with dead:=D.left==0}:ak)=D:=by rw[r,<-h]
   rw[this]at P;exact P
  ·obtain⟨w,p⟩:=P.head
   refine⟨a,0,rfl,false,ae p rfl,?_,i,q,by simp[ak.dies,h,m]⟩;have:({D with dead:=false}:ak)=D:=by rw[<-h]
   rw[this]at P;exact P
 ·rintro M n ⟨P,i,q,t⟩
  obtain⟨w,p⟩:=P.head;have s:∀j,aV j a f D.cV->aj f b j->j.heap.size=b.heap.size->PC LL A (o++ #[]++Y) j (λg c=>∃B:Int,g= WP B/\Ok (λg c=>∃d,g= WP (if D.dies then 15 else e)/\aV c a d (if D.dies then D.gone else D')/\cd f b d c) (.returned (WP B)) c)
    (λH c=>Ok (λg c=>∃d,g= WP (if D.dies then 15 else e)/\aV c a d (if D.dies then D.gone else D')/\cd f b d c) (.panicked H) c):=by
   intro j x u y;refine PC.ok (E t j x u y) ?_;rintro _ N ⟨d,rfl,I,J⟩;exact⟨e,rfl,Ok.mk ⟨d,by rw[t];rfl,by rw[t];exact I,(cd.mk u λ_ k=>.inl k:cd f b f j).trans J⟩⟩
  refine⟨a,0,rfl,_,ae p rfl,al.mk (λm=>?_) (λm=>?_)⟩
  ·have O:D.left≠0:=by
    intro C;simp[ak.dies,m,C]at t
   have C:=P.ok.BT;have Q:=P.ok.BU;have K:PP .i64 (D.left-1)=D.left-1:=wrap_i64 (by unfold aH at*;omega);refine⟨a,0,rfl,_,ae p rfl,a,0,rfl,?_⟩;rw[K];refine P.NS oM (by unfold aH at*;omega) λj x u y=>⟨A,o,Y,rfl,z,s j ?_ (i.then u) (y.trans q)⟩
   unfold ak.cV;rw[Zx m];exact x
  ·refine⟨A,o,Y,rfl,z,s n ?_ i q⟩
   unfold ak.cV;rw[Zq (by simp[m])];exact P
def cs:ByteArray:=⟨#[97,98,99,100,101,102,103,104,105,106,107,108,109,110,111,112,113,114,115,116,117,118,119,120,121,122,48,49,50,51,52,53,54,55,56,57,46]⟩
def SN:∀n:UInt8,decide (0<=Lib.indexByte cs.data.toList n)=eP n:=by
 have a:(List.range 256).all (λP=>decide (0<=Lib.indexByte cs.data.toList (UInt8.ofNat P))==eP (UInt8.ofNat P))=true:=by decide+kernel
 intro n;have:=ZY.1 a n.toNat (List.mem_range.2 n.toNat_lt);simpa using this
def Va(a:128<=c2.toNat):eP c2=false:=by
 have n:(List.range 128).all (λP=>eP (UInt8.ofNat (128+P))==false)=true:=by decide+kernel
 have:=ZY.1 n (c2.toNat-128) (List.mem_range.2 (by have:=c2.toNat_lt;omega));rw[show 128+(c2.toNat-128)=c2.toNat by omega]at this;simpa using this
def Cj:∀n∈cs.data.toList,n.toNat<128:=by decide+kernel
def Vb:cs.size=37:=by decide+kernel
def strings_IndexByte{n:ByteArray}{P:Int}{a:World}:bn 362 #[.string n,.int .u8 P] a (Ok λc b=>c= WP (Lib.indexByte n.data.toList P.toNat.toUInt8)/\a=b):=
 (Any.strings_IndexByte Tryz.Vc n P a).mono λf b ⟨d,e⟩=>⟨_,d,rfl,e.symm⟩
def Ck:bn 363 #[.int .i32 e] b (Ok λc d=>c= .bool (Utf8.valid e)/\b=d):=by
 have a:=validRune_eq e;unfold validRune at a;refine nq (al.dec (λf=>al.dec (λg=>?_) (λg=>al.dec (λn=>al.dec (λP=>?_) (λP=>?_)) (λn=>?_))) (λf=>al.dec (λn=>al.dec (λP=>?_) (λP=>?_)) (λn=>?_)))
 all_goals
  refine Ok.mk ⟨?_,rfl⟩;rw[a]
  congr 1
  simp;omega
def rL(n:a<x.size):x[a]? =some (x[a]'n):=by simp[n]
def tL:∀{l:List UInt8} {n:UInt8},(∀b∈l,b≠n)->Lib.indexByte l n= -1
 |[],_,_=>rfl
 |b::l,n,P=>by
  have a:(b==n)=false:=beq_false_of_ne (P b (QV ..));have c:=tL (l:=l) λd e=>P d (QJ _ e);unfold Lib.indexByte;rw[a,c];rfl
def rN(x:0<=e):
  bn 340 #[.string cs,.int .i32 e] b (Ok λg n=>(∃a:Int,g= WP a/\decide (a>=0)=(decide (e<128)&&eP e.toNat.toUInt8))/\ai b n):=by
 refine sV ⟨λh n=>h=decide (e<128)/\n=b,al.dec (λ_=>⟨rfl,rfl⟩) (λd=>Zz x d),?_⟩;rintro Q o f ⟨rfl,rfl⟩;refine al.dec (λd=>PC.ok strings_IndexByte ?_) (λd=>al.eT (λy=>?_) (λy=>PC.ok Ck ?_))
 ·rintro _ _ ⟨rfl,rfl⟩
  refine⟨_,rfl,Ok.mk ⟨⟨_,rfl,?_⟩,aj.refl _⟩⟩;have z:PP .u8 e=e:=by
   unfold PP;simp[IntKind.signed,IntKind.bits];omega
  rw[z,Zy d,Bool.true_and];exact SN _
 ·have no:∀n,ai f n->Ok (λg n=>(∃a:Int,g= WP a/\decide (a>=0)=(decide (e<128)&&eP e.toNat.toUInt8))/\ai f n) (.returned (WP (-1))) n:=λn p=>
   Ok.mk ⟨⟨_,rfl,by rw[Xv d];rfl⟩,p⟩
  refine Cm Tryz.underlying9 λA B q R=>⟨λi n=>∃P,i=cs.size-P/\n.heap[f.heap.size]? =some (.stringIter cs P)/\ai f n,⟨_,0,rfl,B,q⟩,?_⟩
  rintro i o r ⟨P,rfl,C,s⟩;refine Hq C (λ_=>.inl ⟨rfl,no r s⟩) λj E t F S=>.inr ⟨_,_,rfl,?_⟩;have k:(cs[P]'j).toNat<128:=Cj _ (by rw[show cs[P]'j=cs.data.toList[P]'(by simpa using j)from by simp;rfl];exact XY _);have H:=decode_ascii cs P j k;rw[H]at t⊢;refine al.eT (λd=>oM) (λ_=>⟨_,?_,P+1,rfl,t,s.new F λh k=>.inr oM⟩);omega
 ·have no:∀n,ai f n->Ok (λg n=>(∃a:Int,g= WP a/\decide (a>=0)=(decide (e<128)&&eP e.toNat.toUInt8))/\ai f n) (.returned (WP (-1))) n:=λn p=>
   Ok.mk ⟨⟨_,rfl,by rw[Xv d];rfl⟩,p⟩
  rintro _ _ ⟨rfl,rfl⟩;refine⟨_,rfl,al.not (al.mk (λI=>?_) (λ_=>no _ (aj.refl _)))⟩;obtain⟨J,K,u⟩:=encode_facts e I oM;refine aK.mk (run_convert_int_string f _ _ .i32 e kR Tryz.underlying9) ⟨_,rfl,?_⟩;generalize Utf8.encode e=c at J K u⊢;have L:PP .i64 (((c.size:Nat):Int)-1)=((c.size-1:Nat):Int):=by rw[wrap_i64 cS];omega
  rw[L];refine⟨λi a n=>a=((c.size-1:Nat):Int)/\ai f n,⟨0,rfl,aj.refl _⟩,?_⟩;rintro i a o A ⟨rfl,q⟩;have T:=Vb;have l:c.size-1<c.size:=oM
  have m:c.size-1<cs.size:=oM
  have U:=u l;have V:(cs[c.size-1]'m).toNat<128:=Cj _ (by rw[show cs[c.size-1]'m=cs.data.toList[c.size-1]'(by simpa using m)from by simp;rfl];exact XY _);refine al.dec (λW=>⟨λ_ _=>False,?_,λa o b d=>d.elim⟩) (λX=>oM);simp only[Qx];rw[an oM];refine⟨oM,_,rL m,oM,_,rL l,λr M=>al.eu (λ_=>λE N=>⟨oM,oM,oM,_,rL l,PC.ok strings_IndexByte ?_⟩) (λv=>oM)⟩;rintro _ _ ⟨rfl,rfl⟩;have O:Lib.indexByte (cs.extract (Int.toNat ((c.size-1+1:Nat):Int)) cs.size).data.toList ((((c[c.size-1]'l).toNat:Nat):Int).toNat.toUInt8)= -1:=by
   refine tL λh k v=>?_;have w:=Cj h (mem_extract k);rw[v]at w;simp at w;omega
  refine⟨_,rfl,al.dec (λ_=>no _ ((q.af M.keep).af N.keep)) (λd=>?_)⟩;rw[O]at d;omega
def Cn(c:0<=e):
  bn 304 #[.int .i32 e] b (Ok λn P=>n= .bool (!(decide (e<128)&&eP e.toNat.toUInt8))/\ai b P):=by
 refine yb (PC.ok (φ:=λn P=>n= .bool (decide (e<128)&&eP e.toNat.toUInt8)/\ai b P) (py (PC.ok (rN c) ?_)) ?_)
 ·rintro _ d ⟨⟨f,rfl,g⟩,a⟩
  exact⟨f,rfl,Ok.mk ⟨by rw[g],a⟩⟩
 ·rintro _ d ⟨rfl,a⟩
  exact⟨_,rfl,Ok.mk ⟨rfl,a⟩⟩
def mE:
  bn 306 #[.string x,.func (.func 304) #[] #[]] b (Ok λe d=>e= .bool (!x.data.toList.all eP)/\ai b d):=by
 have t:enters LL 304=true:=kR
 refine pA (PC.ok (φ:=λe d=>(∃a:Int,e= WP a/\decide (a>=0)= !x.data.toList.all eP)/\ai b d) (tk (PC.ok (φ:=λe d=>(∃a:Int,e= WP a/\decide (a>=0)= !x.data.toList.all eP)/\ai b d) (tl ?_) ?_)) ?_)
 ·refine Cm Tryz.underlying9 λE u v F=>⟨λo d=>∃n,o=x.size-n/\n<=x.size/\d.heap[b.heap.size]? =some (.stringIter x n)/\ai b d/\(∀g∈x.data.toList.take n,eP g=true),⟨_,0,rfl,Qj _,u,v,sM⟩,?_⟩
  rintro o H I ⟨n,rfl,J,w,p,h⟩;refine Hq w (λy=>.inl ⟨rfl,Ok.mk ⟨⟨_,rfl,?_⟩,p⟩⟩) λc z q A K=>.inr ⟨_,_,rfl,_,_,_,rfl,t,?_⟩
  ·rw[Qz (by simpa using y)]at h
   have:x.data.toList.all eP=true:=ZY.2 h;rw[this];rfl
  ·have r:ai b z:=p.new A λg P=>.inr oM
   have s:x.data.toList[n]? =some (x[n]'c):=by
    rw[Qq (by simpa using c)];simp;rfl
   refine PC.ok (Cn (Int.natCast_nonneg _)) ?_;rintro _ L ⟨rfl,i⟩;refine⟨_,rfl,al.mk (λj=>?_) (λf=>?_)⟩
   ·
    refine Ok.mk ⟨⟨_,rfl,?_⟩,r.af i⟩;have k:eP (x[n]'c)=false:=by
     by_cases P:(x[n]'c).toNat<128
     ·rw[decode_ascii x n c P]at j
      simp at j;exact j.resolve_left oM
     ·exact Va oM
    have:x.data.toList.all eP=false:=List.all_eq_false.2 ⟨_,QZ s,by simp[k]⟩;rw[this];simp
   ·have P:(x[n]'c).toNat<128:=by
     by_cases P:(x[n]'c).toNat<128
     ·exact P
     ·have M:=(decode_high x n c oM).1
      have B:¬(((Utf8.decode x n).1:Int)<128):=oM
      rw[Xv B]at f;simp at f
    rw[decode_ascii x n c P]at q f;have k:eP (x[n]'c)=true:=by
     simp at f;exact f.2
    refine⟨_,?_,n+1,rfl,oM,i.get q id,r.af i,λg P=>?_⟩
    ·omega
    ·rw[Qw,s]at P
     rcases Q6.1 P with P|P
     ·exact h g P
     ·simp at P;rw[P];exact k
 ·rintro _ C ⟨⟨a,rfl,l⟩,m⟩
  exact⟨a,rfl,Ok.mk ⟨⟨a,rfl,l⟩,m⟩⟩
 ·rintro _ C ⟨⟨a,rfl,l⟩,m⟩
  exact⟨a,rfl,Ok.mk ⟨by rw[l],m⟩⟩
def wq:bn 250 #[.string x] b (Ok λP a=>P= .bool (dd x)/\ai b a):=by
 refine BE (al.neS (λn=>al.dec (λc=>PC.ok mE ?_) (λc=>Ok.mk ⟨?_,aj.refl _⟩)) (λn=>Ok.mk ⟨?_,aj.refl _⟩))
 ·rintro _ g ⟨rfl,d⟩
  refine⟨_,rfl,Ok.mk ⟨?_,d⟩⟩;have e:1<=x.size:=by
   by_cases f:x.size=0
   ·exact Zz (ByteArray.ext (Array.eq_empty_of_size_eq_zero f)) n
   ·omega
  unfold dd;rw[Zy e,Zy (show x.size<=16 by omega)];simp
 ·unfold dd
  rw[Xv (show¬x.size<=16 by omega)];simp
 ·subst n;rfl
def lV{D:ac}(h:Row gC 1 b D d a u)(f:∀n,D n->n<b.heap.size):
  bn 179 #[.slice d a c] b (Ok (qh gC 5 b u)):=by
 have x:=h.len;have P:=h.eO;refine nn (lx ue.under ⟨_,rfl,al.mk (λe=>?_) (λe=>PA.mk λj g y k=>?_)⟩)
 ·have:u=[]:=by
   cases d with
   |none=>
    cases u with
    |nil=>rfl
    |cons l z=>obtain⟨n,m,A,o,_⟩:=h.el 0 l rfl;cases o
   |some p=>cases e
  subst this;exact Ok.mk ⟨none,0,0,λ_=>False,rfl,aS.nil b,aj.refl _,λ_ h=>h.elim⟩
 ·cases d with
  |none=>cases e
  |some p=>
   have q:aS gC 5 (·=b.heap.size) j (UV b.heap.size) 0 0 []:=
    ⟨⟨[],λ_=>False,Own.AU (cur:= #[]) k rfl (Qj _),rfl,λ_ h=>h.elim⟩,λn P=>by simpa[aI]using P.symm,λn P=>oM⟩
   refine lW q ue (D:=D) (h.af g) (λn P=>⟨by have:=f n P;omega,by have:=f n P;simp only[aI];intro r;cases r;omega⟩) dg (by unfold aP at P;unfold maxLen;simp;omega) λi s B C t v _ w=>?_;refine⟨_,_,_,rfl,Ok.mk ⟨i,_,s,λn=>aI i=some n,rfl,by have h:=t.alone;rw[List.nil_append]at h;exact h,g.new v λn P=>.inr ?_,λn P=>?_⟩⟩
   ·simp only[aI,Q1]at P;omega
   ·rcases w n P with h|h<;>omega
def iq(n:Int)(P:Nat):Nat:=(max 0 (min n P)).toNat
def oE(P:Int)(n:Nat):iq P n<=n:=by unfold iq;omega
def bZ.cut(n:bZ)(P:Int):bZ:=⟨n.bytes.take (iq P n.bytes.length),iq P n.bytes.length,true⟩
def UK(n:bZ)(P:Int):(n.cut P).bytes.length=iq P n.bytes.length:=by
 have:=oE P n.bytes.length;simp[bZ.cut];omega
def BX{G:ac}(h:eQ b a G X)(P:X.bytes.length<=262144):
  bn 122 #[RK a,WP e] b (Ok λy p=>∃q,y= .tuple #[]/\eQ p a q (X.cut e)/\cd G b q p):=by
 obtain⟨r,c,i,z,A,f,R,S⟩:=h.body;have B:c=X.bytes.length:=f.len dC;have T:=f.lL;refine xP λj C=>?_;have d:ai b j:=C.keep;have g:=d.get A id;have U:=oE e X.bytes.length;have E:(if(if((c:Nat):Int)<e then((c:Nat):Int)else e)>0 then(if((c:Nat):Int)<e then((c:Nat):Int)else e)else 0)=((iq e X.bytes.length:Nat):Int):=by
  unfold iq;rw[B];omega
 refine⟨a,0,rfl,_,_,_,ae g rfl,a,0,rfl,r,c,i,ae g rfl,?_⟩;refine⟨oM,oM,?_⟩;have F:Row gC 1 j z r c X.bytes:=(f.row dC cw).af d;refine PC.ok (by rw[E,Qx];exact lV (F.take (m:=iq e X.bytes.length) oM) (λn P=>Qk (f.aE n P) d.size)) ?_;rintro _ H ⟨s,k,t,l,rfl,m,o,u⟩;have I:k=iq e X.bytes.length:=by have:=m.len dC;rw[this];simp;omega
 have V:a<j.heap.size:=az g;refine⟨_,_,_,rfl,a,0,rfl,PS.mk (o.get g id) sM λW J Y v=>⟨a,0,rfl,s,k,t,ae v rfl,a,0,rfl,PS.mk v sM λZ K s4 L=>⟨a,0,rfl,PS.mk L sM λM N s5 O=>Ok.mk ?_⟩⟩⟩;have w:aj (·=a) H M:=(J.then K).then N;have x:∀n,l n->n≠a:=λn P=>by have:=u n P;omega
 refine⟨λn=>n=a\/l n,rfl,⟨⟨s,k,t,l,?_,m.keep w x,λn P=>.inr P,λQ=>x a Q rfl⟩,.inl rfl,?_⟩,⟨((ai.keep d).then (ai.keep o)).then (w.mono λn _ P=>by rw[P];exact h.self),?_⟩⟩
 ·rw[O]
  subst I
  rfl
 ·rintro n (rfl|P)
  ·have:=o.size;omega
  ·have:=m.aE n P;omega
 ·rintro n (rfl|P)
  ·exact .inl h.self
  ·have:=u n P;have:=d.size;exact .inr oM
structure fK (w:World) (p:Nat) (F:ac) (D:ak) (r:Nat) (L:List (ByteArray×oF)):Prop where
 head:w.heap[p]? =some (.cells #[WP D.most,.map (some r),.bool D.jF,WP D.left,.bool D.dead] 176 (0,0))
 map:bX w r Value.string (L.map eK)
 files:D.files=L.map wj
 each:EY w L
 Jv:∀x∈L,∀b,x.2.G b->F b/\b≠p/\b≠r
 Fr:F r
 pr:p≠r
 self:F p
 aE:∀b,F b->b<w.heap.size
 ok:D.Ok
def aV.open{D:ak}(n:aV b a f D):∃P c,fK b a f D P c:=by
 obtain⟨P,c,d,e,g,h,i,j,k⟩:=n.body;exact⟨P,c,d,e,g,h,i,j,k,n.self,n.aE,n.ok⟩
def fK.at{D:ak}(n:fK b a f D c a3):aV b a f D:=
 ⟨⟨c,a3,n.head,n.map,n.files,n.each,n.Jv,n.Fr,n.pr⟩,n.self,n.aE,n.ok⟩
def fK.keep{S e:ac}{D:ak}(n:fK b a e D c a3)(d:aj S b k)(f:∀P,e P->¬S P):fK k a e D c a3:=
 ⟨d.get n.head (f _ n.self),n.map.keep d (f _ n.Fr),n.files,n.each.keep d (λh i P g=>f P (n.Jv h i P g).1),n.Jv,n.Fr,n.pr,n.self,λP g=>Qk (n.aE P g) d.size,n.ok⟩
def fK.af{D:ak}(n:fK b a f D c a3)(P:ai b k):fK k a f D c a3:=n.keep P λ_ _ n=>n
def fK.box{D:ak}(h:fK b a f D c a3)(P:ByteArray):
  (au D.files P=none/\au (a3.map eK) P=none)\/∃n,au a3 P=some n/\(P,n)∈a3/\au D.files P=some n.f/\au (a3.map eK) P=some (ptr n.q):=by
 have d:au (a3.map eK) P=(au a3 P).map λn=>ptr n.q:=BW (λn:oF=>ptr n.q) a3 P;have e:au D.files P=(au a3 P).map λn=>n.f:=by rw[h.files];exact BW (λn:oF=>n.f) a3 P
 cases g:au a3 P with
 |none=>rw[g]at d e;exact .inl ⟨e,d⟩
 |some n=>rw[g]at d e;exact .inr ⟨n,rfl,cA g,e,d⟩
def ak.fP(D:ak)(n:ByteArray)(P:bZ):ak:={D with files:=aJ D.files n P}
def ak.wi(D:ak)(n:ByteArray):ak:={D with files:=bR D.files n}
def rD{l:List (ByteArray×j)}{k:ByteArray}{v:j}(h:(k,v)∈l)(n:Tidy l):aJ l k v=l:=by
 induction l with
 |nil=>cases h
 |cons P l a=>
  obtain⟨b,d⟩:=P;unfold aJ;unfold Tidy at n;simp only[QY,List.nodup_cons]at n;rcases Q2.1 h with h|h
  ·cases h;simp
  ·have:(k==b)=false:=beq_false_of_ne λc=>n.1 (Xk.2 ⟨(k,v),h,c⟩)
   rw[Zq (by simp[this]),a h n.2]
def fK.fv{h w':World}{m G':ac}{D:ak}(b:fK h a m D c a3){k:ByteArray}{x:oF}(v:au a3 k=some x)(t:eQ w' x.q G' X)(g:cd x.G h G' w')(w:(D.fP k X).Ok):∃u,fK w' a u (D.fP k X) c (aJ a3 k ⟨x.q,G',X⟩)/\cd m h u w':=by
 have i:=cA v;have j:=b.Jv _ i;have y:aj m h w':=g.keep.mono λn _ P=>(j n P).1;have o:∀d∈aJ a3 k ⟨x.q,G',X⟩,d=(k,⟨x.q,G',X⟩)\/(d∈a3/\d.1≠k):=λd e=>gD b.each.tidy e;refine⟨λn=>m n\/(h.heap.size<=n/\n<w'.heap.size),⟨g.keep.get b.head λP=>(j _ P).2.1 rfl,?_,?_,⟨?_,?_,b.each.tidy.aJ _ _⟩,?_,.inl b.Fr,b.pr,.inl b.self,?_,w⟩,y,λn P=>P.imp id (·.1)⟩
 ·have z:(aJ a3 k ⟨x.q,G',X⟩).map eK=a3.map eK:=by
   have f:(aJ a3 k ⟨x.q,G',X⟩).map eK=aJ (a3.map eK) k (ptr x.q):=rA (λx:oF=>ptr x.q) a3 k _;rw[f];have A:Tidy (a3.map eK):=b.map.tidy;exact rD (Xk.2 ⟨_,i,rfl⟩) A
  rw[z];exact b.map.keep g.keep λP=>(j _ P).2.2 rfl
 ·have f:(aJ a3 k ⟨x.q,G',X⟩).map wj=aJ (a3.map wj) k X:=rA (λx:oF=>x.f) a3 k _
  rw[f,<-b.files];rfl
 ·intro d e
  rcases o d e with rfl|⟨e,s⟩
  ·exact t
  ·exact(b.each.each d e).keep g.keep λn P=>b.each.apart d e _ i s n P
 ·intro d e p l q n P r
  rcases o d e with rfl|⟨e,s⟩<;>rcases o p l with rfl|⟨l,B⟩
  ·exact q rfl
  ·rcases g.new n P with f|f
   ·exact b.each.apart _ i p l q n f r
   ·have:=(b.each.each p l).aE n r;omega
  ·rcases g.new n r with f|f
   ·exact b.each.apart d e _ i q n P f
   ·have:=(b.each.each d e).aE n P;omega
  ·exact b.each.apart d e p l q n P r
 ·intro d e n P
  rcases o d e with rfl|⟨e,s⟩
  ·have C:=az b.head
   have E:=b.map.lt;rcases g.new n P with f|f
   ·exact⟨.inl (j n f).1,(j n f).2⟩
   ·exact⟨.inr ⟨f,t.aE n P⟩,oM,oM⟩
  ·exact⟨.inl (b.Jv d e n P).1,(b.Jv d e n P).2⟩
 ·rintro n (P|P)
  ·exact Qk (b.aE n P) g.keep.size
  ·exact P.2
def fK.drop{D:ak}(P:fK b a f D c a3)(o:bX k c Value.string (bR (a3.map eK) x))(h:aj (·=c) b k)(p:(D.wi x).Ok):fK k a f (D.wi x) c (bR a3 x):=by
 have e:∀n∈bR a3 x,n∈a3:=λn d=>gU d;refine⟨h.get P.head (λg=>P.pr g),?_,?_,⟨λn d=>((P.each.each n (e n d)).keep h λi j=>(P.Jv n (e n d) i j).2.2),λn d m q=>P.each.apart n (e n d) m (e m q),P.each.tidy.bR x⟩,λn d=>P.Jv n (e n d),P.Fr,P.pr,P.self,λi j=>Qk (P.aE i j) h.size,p⟩
 ·have g:(bR a3 x).map eK=bR (a3.map eK) x:=BV (λl:oF=>ptr l.q) a3 x
  rw[g];exact o
 ·have g:(bR a3 x).map wj=bR (a3.map wj) x:=BV (λl:oF=>l.f) a3 x
  rw[g,<-P.files];rfl
def fK.put{i j:World}{p G':ac}{D:ak}(d:fK i a p D c a3){q:Nat}(v:bX j c Value.string (aJ (a3.map eK) x (ptr q)))(f:aj (·=c) i j)(r:eQ i q G' X)(s:∀n∈a3,n.1≠x->∀b,G' b->¬n.2.G b)(t:∀b,G' b->b≠a/\b≠c)(w:(D.fP x X).Ok):
  fK j a (λb=>p b\/G' b) (D.fP x X) c (aJ a3 x ⟨q,G',X⟩):=by
 have g:∀n∈aJ a3 x ⟨q,G',X⟩,n=(x,⟨q,G',X⟩)\/(n∈a3/\n.1≠x):=λn P=>gD d.each.tidy P;refine⟨f.get d.head (λe=>d.pr e),?_,?_,⟨?_,?_,d.each.tidy.aJ _ _⟩,?_,.inl d.Fr,d.pr,.inl d.self,?_,w⟩
 ·have e:(aJ a3 x ⟨q,G',X⟩).map eK=aJ (a3.map eK) x (ptr q):=rA (λk:oF=>ptr k.q) a3 x _
  rw[e];exact v
 ·have e:(aJ a3 x ⟨q,G',X⟩).map wj=aJ (a3.map wj) x X:=rA (λk:oF=>k.f) a3 x _
  rw[e,<-d.files];rfl
 ·intro n P
  rcases g n P with rfl|⟨P,l⟩
  ·exact r.keep f λb B=>(t b B).2
  ·exact(d.each.each n P).keep f λb B=>(d.Jv n P b B).2.2
 ·intro n P m h u b B o
  rcases g n P with rfl|⟨P,l⟩<;>rcases g m h with rfl|⟨h,y⟩
  ·exact u rfl
  ·exact s m h y b B o
  ·exact s n P l b o B
  ·exact d.each.apart n P m h u b B o
 ·intro n P b B
  rcases g n P with rfl|⟨P,l⟩
  ·exact⟨.inr B,t b B⟩
  ·exact⟨.inl (d.Jv n P b B).1,(d.Jv n P b B).2⟩
 ·rintro b (B|B)
  ·exact Qk (d.aE b B) f.size
  ·exact Qk (r.aE b B) f.size
end Go.Proofs.YtkpomgifkloklaaGreatDoor
namespace Go.aw
open Go
def Dq(cs:Array Value):Nat->List Value->Array Value
 |_,[]=>cs
 |n,P::a=>Dq (cs.setIfInBounds n P) (n+1) a
def Gb:∀(a:List Value) (cs:Array Value) (P n:Nat),(Dq cs P a)[n]? =if P<=n/\n<P+a.length/\n<cs.size then a[n-P]? else cs[n]?
 |[],cs,P,n=>by rw[Zq dg];rfl
 |v::a,cs,P,n=>by
  unfold Dq;rw[Gb a,Array.getElem?_setIfInBounds];simp only[Xq,Array.size_setIfInBounds]
  by_cases b:P+1<=n/\n<P+1+a.length/\n<cs.size
  ·rw[Zx b,Zx oM,show n-P=(n-(P+1))+1 by omega,ZZ]
  ·rw[Zq b]
   by_cases c:P=n
   ·subst c
    by_cases d:P<cs.size
    ·rw[Zx rfl,Zx d,Zx oM,Nat.sub_self,ZJ]
    ·rw[Zx rfl,Zq d,Zq oM,Array.getElem?_eq_none oM]
   ·rw[Zq c,Zq oM]
variable{a4:List Value}{a:Nat}{g:TypeId}{b:World}{z:bc}
def Gc{cs:Array Value}(P:a4.length=cs.size):Dq cs 0 a4=a4.toArray:=by
 apply Array.ext_getElem?;intro n;rw[Gb]
 by_cases a:n<cs.size
 ·rw[Zx oM];simp
 ·rw[Zq oM,Array.getElem?_eq_none oM]
  simp;omega
def zt{b:Nat}{f:TypeId}{g:bc}:∀(a:List Value) (P:Nat) {n:World} {cs:Array Value},n.heap[b]? =some (.cells cs f (0,0))->P+a.length<=cs.size->
  (∀c,aj (·=b) n c->c.heap.size=n.heap.size->c.heap[b]? =some (.cells (Dq cs P a) f (0,0))->g c)->ke ⟨b,0,none⟩ P a n g
 |[],P,n,cs,d,h,e=>e n (aj.refl _) rfl d
 |v::a,P,n,cs,d,h,e=>by
  unfold ke;rw[Addr.add_lit,Xz];rw[Xq]at h;exact PS.mk d oM λq i j k=>zt a (P+1) k dg λl m o p=>e l (i.then m) (o.trans j) p
def storeAll{cs:Array Value}(P:List Value)(c:b.heap[a]? =some (.cells cs g (0,0)))(d:P.length=cs.size)(e:∀n,aj (·=a) b n->n.heap.size=b.heap.size->n.heap[a]? =some (.cells P.toArray g (0,0))->z n):ke ⟨a,0,none⟩ 0 P b z:=
 zt P 0 c oM λn f h i=>e n f h (by rw[i,Gc d])
end Go.aw
namespace Go.aw
open Go
def wrap_u32(n:Nat)(P:n<2 ^ 32):PP .u32 (n:Int)=n:=by
 unfold PP;simp[IntKind.signed,IntKind.bits];omega
def wrap_u8(n:Nat):PP .u8 (n:Int)=((n % 256:Nat):Int):=by
 unfold PP;simp[IntKind.signed,IntKind.bits]
def ofInt32(n:sx):BitVec.ofInt (IntKind.bits .u32) ((n.toNat:Nat):Int)=n:=by
 show BitVec.ofInt 32 ((n.toNat:Nat):Int)=n;rw[BitVec.ofInt_natCast];simp
def Mf(n P:sx):rb .u32 ((n.toNat:Nat):Int) ((P.toNat:Nat):Int)=(((n ^^^ P).toNat:Nat):Int):=by
 unfold rb;rw[ofInt32,ofInt32];exact wrap_u32 _ (n ^^^ P).isLt
def Sj(n:sx):rb .u32 (IntKind.max .u32) ((n.toNat:Nat):Int)=(((~~~n).toNat:Nat):Int):=by
 have P:IntKind.max .u32=(((BitVec.allOnes 32).toNat:Nat):Int):=by decide+kernel
 rw[P,Mf,BitVec.allOnes_xor]
def WE(n:sx):kU .u32 ((n.toNat:Nat):Int) 8=(((n>>>8).toNat:Nat):Int):=by
 unfold kU;have:(min (Int.toNat 8) (IntKind.bits .u32))=8:=dC
 rw[this,BitVec.toNat_ushiftRight,Nat.shiftRight_eq_div_pow];show Int.fdiv _ ((2 ^ 8:Nat):Int)=_;rw[Int.fdiv_eq_ediv_of_nonneg _ (Int.natCast_nonneg _)]
 rfl
def Yk(n P:Nat)(a:n<256)(b:P<256):rb .u8 (n:Int) (P:Int)=((n ^^^ P:Nat):Int):=by
 unfold rb;show PP .u8 ((BitVec.ofInt 8 (n:Int) ^^^ BitVec.ofInt 8 (P:Int)).toNat:Int)=_;have c:n ^^^ P<2 ^ 8:=Nat.xor_lt_two_pow oM oM;rw[BitVec.ofInt_natCast,BitVec.ofInt_natCast,BitVec.toNat_xor,BitVec.toNat_ofNat,BitVec.toNat_ofNat,Nat.mod_eq_of_lt oM,Nat.mod_eq_of_lt oM,wrap_u8,Nat.mod_eq_of_lt oM]
def WG(n:Nat)(a:n<256):GQ .u8 (n:Int) 15=((n % 16:Nat):Int):=by
 unfold GQ;show PP .u8 ((BitVec.ofInt 8 (n:Int)&&&BitVec.ofInt 8 ((15:Nat):Int)).toNat:Int)=_;have P:n&&&15=n % 16:=Nat.and_two_pow_sub_one_eq_mod n 4;rw[BitVec.ofInt_natCast,BitVec.ofInt_natCast,BitVec.toNat_and,BitVec.toNat_ofNat,BitVec.toNat_ofNat,Nat.mod_eq_of_lt oM,Nat.mod_eq_of_lt oM,P,wrap_u8,Nat.mod_eq_of_lt oM]
def Yl(n:Nat):kU .u8 (n:Int) 4=((n/16:Nat):Int):=by
 unfold kU;have:(min (Int.toNat 4) (IntKind.bits .u8))=4:=dC
 rw[this];show Int.fdiv _ ((2 ^ 4:Nat):Int)=_;rw[Int.fdiv_eq_ediv_of_nonneg _ (Int.natCast_nonneg _)]
 rfl
end Go.aw
namespace Go.Proofs.YtkpomgifkloklaaGreatDoor
open Go.aw
structure qX (w:World):Prop where
 lower:∀i,i<16->w.cell? ⟨2,i,none⟩=some (.int .u32 ((kY.getD i 0:Nat):Int))
 upper:∀i,i<16->w.cell? ⟨3,i,none⟩=some (.int .u32 ((kZ.getD i 0:Nat):Int))
 lt:2<w.heap.size/\3<w.heap.size
variable{u:List UInt8}{a c:Nat}{f:ac}{d:be}{b k:World}
def qX.af(n:qX b)(a:ai b k):qX k:=
 ⟨λP c=>(a.cell (a:=⟨2,P,none⟩) n.lt.1 id).trans (n.lower P c),λP c=>(a.cell (a:=⟨3,P,none⟩) n.lt.2 id).trans (n.upper P c),Qk n.lt.1 a.size,Qk n.lt.2 a.size⟩
def Sk:∀n,kY.getD n 0<2 ^ 32/\kZ.getD n 0<2 ^ 32:=by
 intro n
 by_cases P:n<16
 ·have a:(List.range 16).all (λn=>decide (kY.getD n 0<2 ^ 32/\kZ.getD n 0<2 ^ 32))=true:=by decide+kernel
  simpa using ZY.1 a n (List.mem_range.2 P)
 ·rw[QQ,QQ,Q7 (by show 16<=n;omega),Q7 (by show 16<=n;omega)]
  decide
def Sl{s:sx}(p:qX b)(h:Row gC 1 b f d a u):
  bn 336 #[.int .u32 ((s.toNat:Nat):Int),.slice d a c] b (Ok λq j=>q= .int .u32 (((NQ s u).toNat:Nat):Int)/\bW b j):=by
 have H:=h.len;have r:=h.eO;unfold aP at r;refine LS ⟨λm n i j=>∃e:Nat,i=e/\e<=a/\m=a-e/\bW b j/\n=((((u.take e).foldl lA (~~~s)).toNat:Nat):Int),⟨_,0,rfl,Qj _,rfl,bW.refl b,by rw[Sj];rfl⟩,?_⟩;rintro m n i I J ⟨e,rfl,K,rfl,g,rfl⟩;generalize k:(u.take e).foldl lA (~~~s)=n;refine al.dec (λt=>?_) (λt=>Ok.mk ⟨?_,g⟩)
 ·obtain⟨v,l,P,rfl,w,_,x⟩:=(h.af g.keep).nK (i:=e) oM
  have o:=p.af g.keep;have L:=P.toNat_lt;have y:PP .u8 ((n.toNat:Nat):Int)=((n.toNat % 256:Nat):Int):=wrap_u8 _;have M:P.toNat ^^^ n.toNat % 256<2 ^ 8:=Nat.xor_lt_two_pow oM oM;have z:rb .u8 ((P.toNat:Nat):Int) (PP .u8 ((n.toNat:Nat):Int))=((P.toNat ^^^ n.toNat % 256:Nat):Int):=by rw[y,Yk _ _ oM oM]
  refine⟨v,l,rfl,oM,oM,_,x,?_⟩;rw[z,WG _ oM,Yl];refine⟨2,0,rfl,oM,oM,((kY.getD ((P.toNat ^^^ n.toNat % 256) % 16) 0:Nat):Int),?_,3,0,rfl,oM,oM,((kZ.getD ((P.toNat ^^^ n.toNat % 256)/16) 0:Nat):Int),?_,λN A=>⟨_,oM,e+1,an oM,oM,rfl,g.then A,?_⟩⟩
  ·rw[Xz];exact o.lower _ oM
  ·rw[Xz];exact o.upper _ oM
  ·have B:=(Sk ((P.toNat ^^^ n.toNat % 256) % 16)).1
   have C:=(Sk ((P.toNat ^^^ n.toNat % 256)/16)).2;rw[WE];have E:((kY.getD ((P.toNat ^^^ n.toNat % 256) % 16) 0:Nat):Int)=(((BitVec.ofNat 32 (kY.getD ((P.toNat ^^^ n.toNat % 256) % 16) 0)).toNat:Nat):Int):=by rw[BitVec.toNat_ofNat,Nat.mod_eq_of_lt B]
   have F:((kZ.getD ((P.toNat ^^^ n.toNat % 256)/16) 0:Nat):Int)=(((BitVec.ofNat 32 (kZ.getD ((P.toNat ^^^ n.toNat % 256)/16) 0)).toNat:Nat):Int):=by rw[BitVec.toNat_ofNat,Nat.mod_eq_of_lt C]
   rw[E,F,Mf,Mf,<-Pt,Qw,w,List.foldl_append,k]
   rfl
 ·rw[Qz oM]at k
  rw[Sj,<-k];rfl
def NR(n:qX b)(P:Row gC 1 b f d a u):
  bn 299 #[.slice d a c] b (Ok λe g=>e= .int .u32 (((Mg u).toNat:Nat):Int)/\bW b g):=by
 refine Pn (PC.ok (Sl (s:=0#32) n P) ?_);rintro _ i ⟨rfl,h⟩;exact⟨_,rfl,Ok.mk ⟨rfl,h⟩⟩
end Go.Proofs.YtkpomgifkloklaaGreatDoor
namespace Go.aw
open Go
def wrap_u32'(n:Int):PP .u32 n=n % 4294967296:=by
 unfold PP;simp[IntKind.signed,IntKind.bits]
def My{n d:Nat}(b:n<16777216)(c:d<256):Sh .u32 (Mv .u32 (n:Int) 8) (PP .u32 (d:Int))=((n*256+d:Nat):Int):=by
 have P:Mv .u32 (n:Int) 8=((n*256:Nat):Int):=by
  unfold Mv;have:min (Int.toNat 8) (IntKind.bits .u32)=8:=dC
  rw[this,wrap_u32'];have:((2:Int) ^ 8)=256:=dC
  rw[this];omega
 rw[P,wrap_u32 _ oM];unfold Sh;show PP .u32 ((BitVec.ofInt 32 ((n*256:Nat):Int)|||BitVec.ofInt 32 (d:Int)).toNat:Int)=_;have a:n*256|||d=n*256+d:=by
  have:=(Nat.shiftLeft_add_eq_or_of_lt (a:=n) (i:=8) (b:=d) oM).symm
  rwa [Nat.shiftLeft_eq]at this
 rw[BitVec.ofInt_natCast,BitVec.ofInt_natCast,BitVec.toNat_or,BitVec.toNat_ofNat,BitVec.toNat_ofNat,Nat.mod_eq_of_lt oM,Nat.mod_eq_of_lt oM,a,wrap_u32 _ oM]
def kC(n:Nat):PP .u8 (n:Int)=((UInt8.ofNat n).toNat:Int):=by
 rw[wrap_u8,ZK]
def OQ{k:IntKind}{u m:Nat}(n:m<=k.bits):kU k (u:Int) (m:Int)=((u/2 ^ m:Nat):Int):=by
 unfold kU;rw[Qx,X2 n];show Int.fdiv _ ((2:Int) ^ m)=_;rw[Int.fdiv_eq_ediv_of_nonneg _ (Int.pow_nonneg dC)];simp
variable{a c:Nat}{d:be}{h:Program}{C g q:TypeId}{m t:am}{b:World}
def PG{P tn i n:TypeId}(j:ki h P n 1 1)(l:h.underlying tn=some (.int .i64))(o:0<a)(p:a<=aP)(c:∀d e,aS gC n (·=b.heap.size) d (UV b.heap.size) 0 e []->a<=e->ai b d->m (.slice (UV b.heap.size) a e) d):
  aK h (Builtin.append_ #[P,tn] i #[.slice none 0 0,WP (a:Int)]) b m t:=by
 obtain⟨q,f,r,s,A,u,v⟩:=j.info;unfold aP at p;have w:=Lib.run_append_nil_zeros (P:=h) b P tn i n q f .i64 .i64 j.under l r s a o oM oM (by rw[u];omega);have x:=grownCap_ge b a 0 n;refine aK.mk w (c _ _ ?_ x ?_)
 ·have k:=heap_alloc_new b.drew (.cells (Builtin.zeroCells f.cells a++Builtin.zeroCells f.cells (grownCap b a 0 n-a)) n)
  refine⟨⟨[],λ_=>False,⟨⟨sM,.inr ⟨b.heap.size,grownCap b a 0 n,_,rfl,Qj _,k,Qj _,grownCap_le_maxLen b a 0 n (by unfold maxLen;omega),?_,sM⟩⟩⟩,rfl,λ_ c=>c.elim⟩,λy g=>by simpa[aI]using g.symm,λy g=>by rw[g];exact az k⟩;rw[Array.size_append,size_zeroCells,size_zeroCells,v];show a*1+(grownCap b a 0 n-a)*1=grownCap b a 0 n*1;omega
 ·have z:ai b (b.drewN 1):=aj.drewN b 1
  exact z.then (aj.alloc _ _)
def Wd(n:h.underlying g=some (.slice q))(P:m (WP (c:Int)) b):aK h (Builtin.cap_ #[g] C #[.slice d a c]) b m t:=by
 refine aK.mk (v:=WP (c:Int)) ?_ P;simp[Builtin.cap_,run_underlying n,goInt]
end Go.aw
namespace Go.Proofs.YtkpomgifkloklaaGreatDoor
open Go.aw
variable{b0 u:List UInt8}{I a c i p:Nat}{F:Nat×Nat}{d v:be}{b:World}
def wy{bs:List UInt8}{D:ac}(e:Row gC 1 b D d a bs)(q:a<=4):
  bn 314 #[.slice d a c] b (Ok λg n=>g= .int .u32 (gV bs:Int)/\b=n):=by
 have r:=e.len;refine BF ⟨λm f i n=>∃j:Nat,i=j/\j<=a/\m=a-j/\f=(gV (bs.take j):Int)/\b=n,⟨_,0,rfl,Qj _,rfl,rfl,rfl⟩,?_⟩;rintro m f i _ s ⟨j,rfl,t,rfl,rfl,rfl⟩;refine al.dec (λh=>?_) (λh=>?_)
 ·obtain⟨k,P,l,rfl,o,_,p⟩:=e.nK (i:=j) oM
  have u:=pG bs (j:=j) (m:=3) oM;refine⟨k,P,rfl,oM,oM,_,p,_,oM,j+1,an oM,oM,rfl,?_,rfl⟩;rw[My (by
            have:(256:Nat) ^ 3=16777216:=dC
            omega) l.toNat_lt,Ff o]
 ·rw[Qz oM]
  exact Ok.mk ⟨rfl,rfl⟩
def Hm{m:Nat}(f:0<m)(c:m<=aP):
  bn 335 #[.slice none 0 0,WP (m:Int)] b (Ok λg n=>∃P d,g= .slice (UV P) 0 d/\aS gC 5 (·=P) n (UV P) 0 d []/\ai b n/\b.heap.size<=P):=by
 have a:=c;unfold aP at a;refine nu ⟨λn=>n=b,al.dec (λe=>oM) (λ_=>rfl),?_⟩;rintro _ l rfl;refine Wd ue.under ⟨_,rfl,?_⟩;have h:PP .i64 ((m:Int)-PP .i64 (((0:Nat):Int)-((0:Nat):Int)))=(m:Int):=by
  rw[wrap_i64 (x:=((0:Nat):Int)-((0:Nat):Int)) cS,wrap_i64 cS];omega
 rw[h];refine al.dec (λe=>?_) (λe=>oM);refine Wd ue.under ⟨_,rfl,oM,oM,?_⟩;refine PG ue kR f c λo i j p k=>⟨_,_,_,rfl,oM,oM,Ok.mk ⟨_,i,rfl,j,k,Q4 _⟩⟩
def Cc{D:ac}(B:b.heap[a]? =some (.cells #[.slice d c p,.slice v i I] 214 F))(R:Row gC 1 b D d c u)(S:Row gC 1 b D v i b0)(C:∀n,D n->n<b.heap.size)(h0:0<c)(P:c+i<=aP):
  bn 298 #[.slice (UV a) 2 2] b (Ok (qh gC 5 b (u++b0))):=by
 have l1:=R.len;have l2:=S.len;have E:=P;unfold aP at E;refine lU ⟨λf x g e=>b=e/\((f=2/\x=0/\g=0)\/(f=1/\x=(c:Int)/\g=1)\/(f=0/\x=((c+i:Nat):Int)/\g=2)),⟨2,rfl,.inl ⟨rfl,rfl,rfl⟩⟩,?_⟩;rintro f x g _ w1 ⟨rfl,H⟩;rcases H with⟨rfl,rfl,rfl⟩|⟨rfl,rfl,rfl⟩|⟨rfl,rfl,rfl⟩
 ·refine al.tt dC ⟨a,0,rfl,oM,oM,d,c,p,ae B rfl,?_⟩
  rw[wrap_i64 (x:=0+((c:Nat):Int)) cS];exact al.dec (λT=>oM) (λ_=>⟨1,oM,rfl,.inr (.inl ⟨rfl,oM,rfl⟩)⟩)
 ·refine al.tt dC ⟨a,0,rfl,oM,oM,v,i,I,ae B rfl,?_⟩
  rw[wrap_i64 (x:=((c:Nat):Int)+((i:Nat):Int)) cS];exact al.dec (λT=>oM) (λ_=>⟨0,oM,rfl,.inr (.inr ⟨rfl,oM,rfl⟩)⟩)
 refine al.ff dC (PC.ok (Hm (m:=c+i) oM P) ?_);rintro _ w2 ⟨U,cq,rfl,Z,k2,hq⟩;have a6:∀n,D n->n≠U:=λn P J=>by have:=C n P;omega
 refine⟨_,_,_,rfl,λf o j q g e=>ai b e/\∃k,(∀n,k n->b.heap.size<=n)/\((f=2/\g=0/\aS gC 5 k e o j q [])\/(f=1/\g=1/\aS gC 5 k e o j q u)\/(f=0/\g=2/\aS gC 5 k e o j q (u++b0))),
  ⟨2,k2,(·=U),λn J=>oM,.inl ⟨rfl,rfl,Z⟩⟩,?_⟩
 rintro f o j q g _ V ⟨r,k,y,H⟩;have W:=r.get B id;have ap:∀{z A:List UInt8} {K t X} {L Y:am},aS gC 5 k V o j q z->Row gC 1 b D K t A->z.length+A.length<=140737488355328->
   (∀l s e m,aS gC 5 m e l (j+t) s (z++A)->ai b e->(∀n,m n->b.heap.size<=n)->L (.slice l (j+t) s) e)->
   aK LL (Builtin.append_ #[214,214] 214 #[.slice o j q,.slice K t X]) V L Y:=by
  intro z A K t X L Y h hr a5 M;refine AG h ue (hr.af r) (λn P=>⟨by have:=C n P;have:=r.size;omega,λJ=>?_⟩) cw (by unfold maxLen;omega) λl s N m w a3 _ a4=>?_
  ·have:=C n P;have:=y n (h.self n J);omega
  ·exact M l s N (λn=>aI l=some n) w.alone (r.new a3 λn P=>.inr (y n (h.self n P))) λn P=>(a4 n P).elim (y n) λT=>by have:=r.size;omega
 rcases H with⟨rfl,rfl,h⟩|⟨rfl,rfl,h⟩|⟨rfl,rfl,h⟩
 ·refine al.tt dC ⟨a,0,rfl,oM,oM,d,c,p,ae W rfl,?_⟩
  exact ap h R dg λl s N m w O Q=>⟨_,_,_,rfl,1,oM,O,m,Q,.inr (.inl ⟨rfl,rfl,w⟩)⟩
 ·refine al.tt dC ⟨a,0,rfl,oM,oM,v,i,I,ae W rfl,?_⟩
  exact ap h S oM λl s N m w O Q=>⟨_,_,_,rfl,0,oM,O,m,Q,.inr (.inr ⟨rfl,rfl,w⟩)⟩
 ·exact al.ff dC (Ok.mk ⟨_,_,_,k,rfl,h,r,y⟩)
end Go.Proofs.YtkpomgifkloklaaGreatDoor
namespace Go.aw
open Go
def Cd(n:List UInt8)(P:Nat)(a:(n.getD 1 0).toNat*65536+(n.getD 2 0).toNat*256+(n.getD 3 0).toNat=P):
  bw n=if n.length<4 then⟨0,[],0,4⟩else if n.getD 0 0=0 then⟨0,[],0,2⟩else if 65536<P then⟨0,[],0,5⟩else if n.length<P+9 then⟨0,[],0,4⟩else
   if n.take (P+9)=cF (n.getD 0 0).toNat ((n.drop 4).take P)then⟨(n.getD 0 0).toNat,(n.drop 4).take P,P+9,0⟩else⟨0,[],0,6⟩:=by
 unfold bw;rw[a]
variable{u:List UInt8}
def SE(n:(bw u).no=0):(bw u).kind=((u.getD 0 0).toNat:Int)/\(bw u).body=(u.drop 4).take ((bw u).n-9)/\4<=u.length:=by
 rw[Cd u _ rfl]at n⊢;split at n
 ·cases n
 rename_i P;rw[Zq P];split at n
 ·cases n
 rename_i a;rw[Zq a];split at n
 ·cases n
 rename_i b;rw[Zq b];split at n
 ·cases n
 rename_i c;rw[Zq c];split at n
 ·rename_i d
  rw[Zx d];exact⟨rfl,sM,oM⟩
 ·cases n
end Go.aw
namespace Go.Proofs.YtkpomgifkloklaaGreatDoor
section
open Go.aw
def Ce(n:List UInt8):List Value:=n.map λP=>Value.int .u8 (P.toNat:Int)
variable{e:Int}{u:List UInt8}{a c:Nat}{d:be}{b:World}
def Fg{f:Nat×Nat}(n:List UInt8)(P:b.heap[a]? =some (.cells (Ce n).toArray 5 f))(d:n.length<=1000):Row gC 1 b (·=a) (UV a) n.length n:=
 Row.lit (enc:=λc:UInt8=>Value.int .u8 (c.toNat:Int)) P n (by simp[Ce]) (λ_ _=>trivial) cw
def Fh{D:ac}(A:qX b)(P:Row gC 1 b D d a u)(B:∀n,D n->n<b.heap.size):
  bn 239 #[.agg #[WP e,.slice d a c]] b (Ok λC E=>∃v,C= .tuple #[v,WP (lr e u).2]/\qh gC 5 b (lr e u).1 v E):=by
 have F:=P.len;refine Jd (PA.mk λg j s1 k=>⟨d,a,c,ae k rfl,_,ae k rfl,al.dec (λh=>?_) (λh1=>⟨_,ae k rfl,al.dec (λh=>?_) (λh2=>al.dec (λh=>?_) (λh3=>?_))⟩)⟩)
 ·rw[show lr e u=([],2) by unfold lr;rw[Zx oM]]
  exact Ok.mk ⟨_,rfl,none,0,0,λ_=>False,rfl,aS.nil g,j,λ_ h=>h.elim⟩
 ·rw[show lr e u=([],2) by unfold lr;rw[Zx oM]]
  exact Ok.mk ⟨_,rfl,none,0,0,λ_=>False,rfl,aS.nil g,j,λ_ h=>h.elim⟩
 ·rw[show lr e u=([],5) by unfold lr;rw[Zq oM,Zx oM]]
  exact Ok.mk ⟨_,rfl,none,0,0,λ_=>False,rfl,aS.nil g,j,λ_ h=>h.elim⟩
 rw[show lr e u=(cF e u,0) by unfold lr;rw[Zq oM,Zq oM]];refine⟨_,ae k rfl,PA.mk λH l s2 I=>⟨d,a,c,ae (l.get k id) rfl,PA.mk λo m s3 J=>?_⟩⟩;have K:kU .i64 ((a:Nat):Int) 16=((a/65536:Nat):Int):=OQ (k:=.i64) (u:=a) (m:=16) dC;have L:kU .i64 ((a:Nat):Int) 8=((a/256:Nat):Int):=OQ (k:=.i64) (u:=a) (m:=8) dC;have M:e=((e.toNat:Nat):Int):=oM
 have N:H.heap[g.heap.size]? =some (.cells (Ce [UInt8.ofNat e.toNat,UInt8.ofNat (u.length/65536),UInt8.ofNat (u.length/256),UInt8.ofNat u.length]).toArray 5 (0,0)):=by
  rw[I,K,L,M,kC,kC,kC,kC,F];simp[Ce]
 have O:Row gC 1 o (λn=>D n\/n=g.heap.size) (UV g.heap.size) 4 [UInt8.ofNat e.toNat,UInt8.ofNat (u.length/65536),UInt8.ofNat (u.length/256),UInt8.ofNat u.length]:=
  (Fg (f:=(0,0)) [UInt8.ofNat e.toNat,UInt8.ofNat (u.length/65536),UInt8.ofNat (u.length/256),UInt8.ofNat u.length] (m.get N id) sM).mono λn P=>.inr P
 have Q:Row gC 1 o (λn=>D n\/n=g.heap.size) d a u:=(P.af ((j.then l).then m)).mono λn P=>.inl P;refine PC.ok (Cc J O Q (λn P=>P.elim (λh=>by have:=B n h;omega) λh=>oM) oM cw) ?_;rintro _ p ⟨a4,n4,c4,F4,rfl,i,R,w⟩;have S:[UInt8.ofNat e.toNat,UInt8.ofNat (u.length/65536),UInt8.ofNat (u.length/256),UInt8.ofNat u.length]++u=k_ e u:=rfl;rw[S]at i;have a8:=i.len dC;have q:(k_ e u).length=4+u.length:=by simp[k_];omega
 have r:ai b p:=((j.then l).then m).then R;refine⟨_,_,_,rfl,PC.ok (NR (A.af r) (i.row (bytes:=1) dC (by rw[q];unfold aP;omega))) ?_⟩;rintro _ s ⟨rfl,T⟩;have t:ai p s:=T.keep;refine⟨_,rfl,?_⟩;generalize U:(Mg (k_ e u)).toNat=f;have V:kU .u32 (f:Int) 24=((f/16777216:Nat):Int):=OQ (k:=.u32) (u:=f) (m:=24) dC;have W:kU .u32 (f:Int) 16=((f/65536:Nat):Int):=OQ (k:=.u32) (u:=f) (m:=16) dC;have X:kU .u32 (f:Int) 8=((f/256:Nat):Int):=OQ (k:=.u32) (u:=f) (m:=8) dC;refine PA.mk λY x s6 Z=>?_;have a1:Y.heap[s.heap.size]? =some (.cells (Ce (Rh f++[10])).toArray 5 (0,0)):=by rw[Z,V,W,X,kC,kC,kC,kC];rfl
 have a2:=(i.af t).af x;have a9:p.heap.size<=s.heap.size:=t.size;refine lW a2 ue (Fg (Rh f++[10]) a1 (by simp[Rh])) (λn y=>⟨oM,λe2=>by have:=i.aE n (i.self n e2);omega⟩) (by rw[q];unfold aP;simp[Rh];omega) (by rw[q];unfold maxLen;simp[Rh];omega) λz c7 w7 F7 a3 a5 _ a6=>?_;refine⟨_,_,_,rfl,Ok.mk ⟨_,rfl,z,_,c7,λn=>aI z=some n,rfl,?_,?_,?_⟩⟩
 ·have h7:=a3.alone
  have y:cF e u=k_ e u++(Rh f++[10]):=by unfold cF;rw[U,XQ]
  rw[y];exact h7
 ·exact((r.then t).then x).new a5 λn P=>.inr (by have:=w n (i.self n P);have:=j.size;have:=l.size;have:=m.size;omega)
 ·intro n P
  have b0:b.heap.size<=o.heap.size:=oM
  rcases a6 n P with h|h
  ·have:=w n h;omega
  ·have:=r.size;omega
def JD{D:ac}(C:qX b)(f:Row gC 1 b D d a u)(q:a<=c):
  bn 264 #[.slice d a c] b (Ok λE F=>E= .tuple #[WP (((bw u).n-9:Nat):Int),WP (bw u).no]/\bW b F):=by
 have W:=f.len;have H:=f.eO;unfold aP at H;generalize r:(u.getD 1 0).toNat*65536+(u.getD 2 0).toNat*256+(u.getD 3 0).toNat=n;have P:=Cd u n r;refine BK (al.dec (λk=>?_) (λX=>?_))
 ·rw[P,Zx oM]
  exact Ok.mk ⟨rfl,bW.refl b⟩
 rw[Zq (show¬u.length<4 by omega)]at P;refine⟨oM,oM,oM,PC.ok (wy (bs:=(u.take 4).drop 1) (f.part (lo:=1) (hi:=4) (cap:=c) oM oM q) dC) ?_⟩;rintro _ Y ⟨rfl,rfl⟩;have I:gV ((u.take 4).drop 1)=n:=by
  rw[We oM];show gV [u.getD 1 0,u.getD 2 0,u.getD 3 0]=n;simp only[gV,List.foldl];omega
 have Z:n<16777216:=by
  have h1:=(u.getD 1 0).toNat_lt;have h2:=(u.getD 2 0).toNat_lt;have h3:=(u.getD 3 0).toNat_lt;omega
 rw[I];obtain⟨i,e,s,rfl,J,_,g⟩:=f.nK (i:=0) oM;have h:u.getD 0 0=s:=by rw[QQ,J];rfl
 have K:PP .i64 (n:Int)=(n:Int):=wrap_i64 cS;have L:PP .i64 (4+(n:Int))=((4+n:Nat):Int):=by rw[wrap_i64 cS];omega
 have M:PP .i64 (((4+n:Nat):Int)+5)=((4+n+5:Nat):Int):=by rw[wrap_i64 cS];omega
 refine⟨_,rfl,i,e,rfl,oM,oM,_,g,?_⟩;rw[K,L,M];refine al.eT (λk=>?_) (λl=>al.dec (λk=>?_) (λa8=>al.dec (λk=>?_) (λa7=>?_)))
 ·rw[P,h,Zx (UInt8.toNat_inj.1 (by
                        have:s.toNat=0:=oM
                        rw[this];rfl))]
  exact Ok.mk ⟨rfl,bW.refl b⟩
 ·rw[P,h,Zq (by rintro rfl;exact l rfl),Zx oM]
  exact Ok.mk ⟨rfl,bW.refl b⟩
 ·rw[P,h,Zq (by rintro rfl;exact l rfl),Zq oM,Zx oM]
  exact Ok.mk ⟨rfl,bW.refl b⟩
 rw[h,Zq (by rintro rfl;exact l rfl),Zq (show¬65536<n by omega),Zq (show¬u.length<n+9 by omega)]at P;have j:=WU (b:=u) (n:=n) oM r oM;rw[h]at j;refine⟨oM,oM,oM,oM,oM,λw8 t N v=>⟨oM,oM,?_⟩⟩;have w:ai b N:=(t.then v).keep;have x:=f.af w;refine PC.ok (NR (C.af w) (x.take (m:=4+n) oM)) ?_;rintro _ O ⟨rfl,y⟩;have z:=x.af y.keep;have A:=z.part (lo:=4+n) (hi:=4+n+4) (cap:=c) oM oM q;rw[show 4+n+4-(4+n)=4 by omega]at A;refine⟨_,rfl,PC.ok (wy A dC) ?_⟩;rintro _ a9 ⟨rfl,rfl⟩;have Q:(u.take (4+n+4)).drop (4+n)=(u.drop (4+n)).take 4:=by rw[List.drop_take];congr 1;omega
 rw[Q];have m:bW b O:=(t.then v).then y;refine⟨_,rfl,al.eu (λo=>?_) (λb0=>?_)⟩
 ·rw[P,Zq (λg=>o (by rw[(j.1 g).1]))]
  exact Ok.mk ⟨rfl,m⟩
 obtain⟨b7,o8,p,R,S,_,T⟩:=z.nK (i:=8+n) oM
 cases R
 have B:u.getD (8+n) 0=p:=by rw[QQ,S];rfl
 have U:df (some ⟨i,e,none⟩) (4+n) c 1=some ⟨i,e+(4+n),none⟩:=by
  unfold df;rw[Zq oM];simp[Addr.add_lit]
 refine⟨i,e+(4+n),U,oM,oM,_,by rw[show e+(4+n)+Int.toNat 4=e+(8+n) by show e+(4+n)+4=_;omega];exact T,al.eu (λo=>?_) (λhe=>?_)⟩
 ·rw[P,Zq (λg=>o (by rw[<-B,(j.1 g).2];rfl))]
  exact Ok.mk ⟨rfl,m⟩
 ·have V:p=10:=UInt8.toNat_inj.1 (by show p.toNat=10;omega)
  rw[P,Zx (j.2 ⟨oM,B.trans V⟩)];exact Ok.mk ⟨sM,m⟩
def Fj{D:ac}(R:qX b)(P:Row gC 1 b D d a u)(s:a<=c)(t:∀n,D n->n<b.heap.size):
  bn 199 #[.slice d a c] b (Ok λS v=>∃w x y z,S= .tuple #[.agg #[WP (bw u).kind,.slice w x y],WP ((bw u).n:Int),WP (bw u).no]/\
   aS gC 5 z v w x y (bw u).body/\ai b v/\∀n,z n->b.heap.size<=n):=by
 have hn:=P.len;have T:=P.eO;unfold aP at T;refine Ja (PA.mk λA h s1 U=>PC.ok (JD (R.af h) (P.af h) s) ?_);rintro _ B ⟨rfl,V⟩;have i:ai A B:=V.keep;have C:=i.get U id;refine⟨_,_,rfl,al.eu (λj=>?_) (λk=>?_)⟩
 ·have l:(bw u).kind=0/\(bw u).body=[]/\(bw u).n=0:=by
   rw[Cd u _ rfl]at j⊢
   repeat' split
   all_goals first|exact⟨rfl,rfl,rfl⟩|skip
   rename_i W X Y Z h5;rw[Zq W,Zq X,Zq Y,Zq Z,Zx h5]at j;exact Zz rfl j
  rw[l.1,l.2.1,l.2.2];refine storeAll [WP 0,.slice none 0 0] C rfl λf g s3 E=>⟨0,none,0,0,ae E rfl,ae E rfl,Ok.mk ⟨none,0,0,λ_=>False,rfl,aS.nil f,?_,λ_ m=>m.elim⟩⟩
  exact(h.then i).new g λn P=>.inr oM
 obtain⟨a0,h9,a1⟩:=wA k;generalize a2:(bw u).n=e at a0 h9 a1;obtain⟨a3,F,b1⟩:=SE k;rw[a2]at F;have H:(bw u).kind=((u.getD 0 0).toNat:Int)/\(bw u).body=(u.drop 4).take (e-9):=⟨a3,F⟩
 intro f a5;have g:ai B f:=a5.keep;have o:ai b f:=(h.then i).then g;have p:=P.af o;obtain⟨I,o6,J,rfl,hx,_,hc⟩:=p.nK (i:=0) oM;obtain⟨b2,b3,x',es,a6,_,a7,_⟩:=p.vv (i:=0) oM
 cases a6
 have a8:u.getD 0 0=J:=by rw[QQ,hx];rfl
 have K:PP .i64 (4+((e-9:Nat):Int))=((4+(e-9):Nat):Int):=by rw[wrap_i64 cS];omega
 have e9:PP .i64 (((4+(e-9):Nat):Int)+5)=(e:Int):=by rw[wrap_i64 cS];omega
 refine⟨λn=>b.heap.size<=n,I,o6,rfl,oM,oM,by have:=t I a7;omega,_,hc,?_⟩;refine⟨oM,oM,oM,?_⟩;have a4:=p.part (lo:=4) (hi:=4+(e-9)) (cap:=c) oM oM s;refine PC.ok (by rw[K];exact lV a4 (λn m=>by have:=t n m;have:=o.size;omega)) ?_;rintro _ w4 ⟨L,M,N,F4,rfl,a9,q,O⟩;have b4:A.heap.size<=f.heap.size:=(i.then g).size;have g4:=q.get (g.get C id) id;refine⟨_,_,_,rfl,q.keep,?_⟩;refine storeAll [WP (PP .i64 (J.toNat:Int)),.slice L M N] g4 rfl λw5 r s5 Q=>⟨r.mono λn _ b0=>oM,_,_,_,_,ae Q rfl,ae Q rfl,Ok.mk ⟨L,M,N,F4,?_,?_,?_,?_⟩⟩
 ·rw[Mz,H.1,a8,k,K,e9]
 ·rw[H.2,<-show(u.take (4+(e-9))).drop 4=(u.drop 4).take (e-9) by rw[List.drop_take];congr 1;omega]
  exact a9.keep r λn P b0=>by have:=O n P;omega
 ·exact(o.then q).new r λn P=>.inr oM
 ·intro n P;have:=O n P;omega
end
section
open Go.aw
variable{Y o:Array Value}{b1:FrameMode}{A:FuncId}{e:Int}{b2 s:List Int}{a6:List PanicEntry->bc}{u:List UInt8}{E:List ah}{a c i:Nat}{f:ac}{U Z:Operand}{d v:be}{h:Program}{b:World}{z:bc}{l:ah}{T:iu}
def Tq(k:fL b a f T):
  bn 267 #[RK a,WP e] b (Xr b a f T (if T.num.1=0 then(if T.num.2.1<0\/e<T.num.2.1 then 3 else 0)else T.num.1) (λi l=>i= WP T.num.2.1) T.num.2.2):=by
 refine th (PC.red (FQ k) ?_ ?_)
 rotate_left
 ·intro c j d g h
  rw[Zq c];exact⟨.inr ⟨c,rfl,d⟩,g,h⟩
 rintro c _ j d rfl g h;rw[Zx c];have P:T.num.2.1<0\/e<T.num.2.1->Xr b a f T (if T.num.2.1<0\/e<T.num.2.1 then 3 else 0) (λi l=>i= WP T.num.2.1) T.num.2.2 (.panicked (Wo 3)) j:=λn=>by
  rw[Zx n];exact⟨.inr ⟨dC,rfl,_,d⟩,g,h⟩
 refine⟨_,rfl,al.dec (λm=>gG (λn=>⟨rfl,?_⟩) (λn=>P (.inr ?_))) (λm=>gG (λn=>by cases n) (λ_=>P (.inl oM)))⟩
 ·have n:=XV n
  rw[Zq oM];exact⟨.inl ⟨rfl,d,_,rfl,rfl⟩,g,h⟩
 ·have n:=Xy n
  omega
def Ki:(do eqGuard .eql 20 U (.const .nilIface) .nilIface .nilIface;binOp .eql 20 .nilIface .nilIface:Sem Value).run LL b= .ok (.bool true) b:=by
 cases U<;>rfl
def HJ:(do eqGuard .eql 20 U Z (.iface 401 (WP e)) .nilIface;binOp .eql 20 (.iface 401 (WP e)) .nilIface:Sem Value).run LL b= .ok (.bool false) b:=by
 rfl
def Kj:(Instr.typeAssert (.iface 401 (WP e)) 20 401 true).run LL b= .ok (.tuple #[WP e,.bool true]) b:=by
 rfl
def Lv.ret{ret:bc}(n:b1= .returning)(P:ret b):Lv h ret a6 [] b1 b:=by
 subst n;unfold Lv;exact P
def Lv.one(a:b1≠.run)(c:enters h A=true)(d:CallsD h A o b1 b λe n P=>SX e (λ_=>Lv h z a6 [] (settle n) P) (λf=>Lv h z a6 [] (raised n f) P)):Lv h z a6 [{target:=.fn (.func A) o,args:= #[]}] b1 b:=
 ⟨a,A,o,rfl,c,by rw[show(#[]++o:Array Value)=o by simp];exact d⟩
def CR{h S:ac}(d:fL b a h T){i:FuncId}(I:enters LL i=true){A:bc}{no:Int}(t:∀e,S e->e<b.heap.size)(J:T.sE=0->∀c,ai b c->bn i (o++ #[]++Y) c λP n=>aj S c n/\((no=0/\P= .returned (.tuple #[])/\A n)\/(no≠0/\(no=3\/no=4\/no=5)/\P= .panicked (Wo no)/\aj (·=a) c n/\∃u,fL n a h ⟨T.bytes,u,0⟩))):
  bn 265 #[RK a,.func (.func i) o Y] b (Ok λK n=>K= .tuple #[]/\aj (λe=>S e\/e=a) b n/\
   ((T.sE≠0/\ai b n)\/(T.sE=0/\no=0/\aj S b n/\A n)\/(T.sE=0/\no≠0/\aj (·=a) b n/\fL n a h ⟨T.bytes,T.pos,no⟩))):=by
 obtain⟨a0,a2,L,G,v,h2,h3⟩:=d.body;have hp:=az v;refine qu (PA.mk λc j s1 k=>?_);have w:=j.get v id;refine⟨_,ae k rfl,a,0,rfl,_,ae w rfl,al.eu (λM=>Ok.mk ⟨rfl,j.keep,.inl ⟨M,j⟩⟩) (λl=>?_)⟩;refine⟨_,ae k rfl,a,0,rfl,_,ae w rfl,PA.mk λw2 N s2 O=>PS.mk O sM λm Q s3 R=>⟨i,o,Y,rfl,I,?_⟩⟩;have x:aj (·=c.heap.size) c m:=N.keep.then Q;have p:ai b m:=j.new x λe hb=>.inr oM;refine(J l m p).mono ?_;rintro P f ⟨q,U⟩;have y:f.heap[b.heap.size]? =some (.cells #[RK a] 321 (0,0)):=q.get (x.get k (by intro P;omega)) (λr=>by have:=t _ r;omega);have V:f.heap[c.heap.size]? =some (.cells #[WP (T.pos:Int)] 3 (0,0)):=q.get R (λr=>by have:=t _ r;omega);have z:aj S b f:=p.keep.then q;rcases U with⟨s,rfl,W⟩|⟨s,X,rfl,Z,u,B⟩
 ·refine⟨rfl,Lv.one sM kR ?_⟩
  refine CallsD.mono (gR (rv:=.nilIface) (u:=.returning) rfl (R:=λP g n=>P= .returned (.tuple #[])/\g= .returning/\n=f) ?_) ?_
  ·exact aK.mk Ki ⟨_,rfl,al.tt rfl ⟨rfl,rfl,rfl⟩⟩
  ·rintro P g n ⟨rfl,rfl,rfl⟩
   refine Lv.ret rfl ?_;exact Ok.mk ⟨rfl,z.mono λ_ _ d=>.inl d,.inr (.inl ⟨l,s,z,W⟩)⟩
 ·refine Lv.one sM kR ?_
  obtain⟨a',n',C,G',e1,e2,e3⟩:=B.body;refine CallsD.mono (gR (rv:=.iface 401 (WP no)) (u:=.panicking (Wo no)) rfl (R:=λP g n=>P= .returned (.tuple #[])/\settle g= .returning/\fL n a h ⟨T.bytes,T.pos,no⟩/\aj (·=a) b n) ?_) ?_
  ·refine aK.mk (v:=.bool false) (w':=f) ?_ ⟨_,rfl,al.ff rfl (aK.mk (v:=.tuple #[WP no,.bool true]) (w':=f) ?_ ⟨_,_,rfl,al.tt rfl ?_⟩)⟩
   ·exact HJ
   ·exact Kj
   ·refine⟨_,ae y rfl,_,ae y rfl,_,ae V rfl,a,0,rfl,PS.mk e1 sM λw5 E s5 g5=>⟨a,0,rfl,PS.mk g5 sM λw6 F s6 g6=>⟨rfl,rfl,?_,?_⟩⟩⟩
    ·exact B.fv (r':=⟨T.bytes,T.pos,no⟩) e2 e3 (E.then F) g6 rfl ⟨d.fit.pos,.inr X⟩
    ·exact(p.keep.then Z).then (E.then F)
  ·rintro P g n ⟨rfl,fY,a1,H⟩
   refine Lv.ret fY ?_;exact Ok.mk ⟨rfl,H.mono λ_ _ d=>.inr d,.inr (.inr ⟨l,s,H,a1⟩)⟩
def Hg(n:fL b a f T):
  bn 202 #[RK a] b (Ok λq g=>q= WP (fA T).1/\fL g a f (fA T).2/\aj (·=a) b g):=by
 have O:a<b.heap.size:=n.aE a n.self;refine vR (PA.mk λk F Q w=>PA.mk λH r R s=>⟨_,ae (r.get w id) rfl,?_⟩);have x:ai b H:=F.then r;have t:=n.af x;have I:=r.get w id;refine PC.ok (CR (S:=λe=>e=a\/e=k.heap.size) (no:=T.num.1) (A:=λg=>fL g a f ⟨T.bytes,T.pos+T.num.2.2,T.sE⟩/\g.heap[k.heap.size]? =some (.cells #[WP T.num.2.1] 3 (0,0))) t kR ?_ ?_) ?_
 ·rintro e (rfl|rfl)<;>omega
 ·intro J l p
  refine tj ⟨_,ae (p.get I id) rfl,PC.red (FQ (t.af p)) ?_ ?_⟩
  ·rintro h _ y P rfl i z
   have u:=i.get (p.get s id) oM;refine⟨_,rfl,PS.mk u sM λS A U K=>⟨(i.mono λ_ _ n=>.inl n).then (A.mono λ_ _ n=>.inr n),.inl ⟨h,rfl,P.keep A λe m d=>?_,K⟩⟩⟩;have:=n.aE e m;omega
  ·rintro h y P i z
   rw[J]at P;have:=kL (T.bytes.drop T.pos);exact⟨i.mono λ_ _ n=>.inl n,.inr ⟨h,by have:=this.2.2.2.1;unfold iu.num at h⊢;omega,rfl,i,P⟩⟩
 ·rintro _ l ⟨rfl,p,L⟩
  have M:aj (·=a) b l:=x.keep.new p λe m=>by
   rcases m with(rfl|rfl)|rfl
   ·exact .inl rfl
   ·exact .inr oM
   ·exact .inl rfl
  have c:∀v:Int,l.heap[k.heap.size]? =some (.cells #[WP v] 3 (0,0))->fL l a f (fA T).2->v=(fA T).1->
    (∃B:Int,l.cell? ⟨k.heap.size,0,none⟩=some (WP B)/\PS l ⟨k.heap.size,0,none⟩ (WP B) λC=>∃E:Int,C.cell? ⟨k.heap.size,0,none⟩=some (WP E)/\
     Ok (λq g=>q= WP (fA T).1/\fL g a f (fA T).2/\aj (·=a) b g) (.returned (WP E)) C):=by
   rintro v j P rfl;refine⟨_,ae j rfl,PS.mk j sM λy i z u=>⟨_,ae u rfl,Ok.mk ⟨rfl,P.keep i λe m d=>?_,M.new i λe m=>.inr oM⟩⟩⟩;have:=n.aE e m;omega
  refine⟨rfl,?_⟩;rcases L with⟨o,j⟩|⟨o,h,_,P,j⟩|⟨o,h,N,P⟩
  ·have d:fA T=(0,T):=by unfold fA;rw[Zx o]
   exact c 0 (j.get s id) (by rw[d];exact t.af j) (by rw[d])
  ·have d:fA T=(T.num.2.1,⟨T.bytes,T.pos+T.num.2.2,0⟩):=by unfold fA;rw[Zq (by simp[o]),Zx h]
   exact c _ j (by rw[d];rw[o]at P;exact P) (by rw[d])
  ·have d:fA T=(0,⟨T.bytes,T.pos,T.num.1⟩):=by unfold fA;rw[Zq (by simp[o]),Zq h]
   exact c 0 (N.get s oM) (by rw[d];exact P) (by rw[d])
def JB{m:Int}(P:fL b a f T):
  bn 201 #[RK a,WP m] b (Ok λv i=>v= WP (bK m T).1/\fL i a f (bK m T).2/\aj (·=a) b i):=by
 have Y:a<b.heap.size:=P.aE a P.self;refine s_ (PA.mk λZ M s1 C=>PA.mk λl w sm N=>PA.mk λO u s2 x=>⟨_,ae (u.get (w.get C id) id) rfl,?_⟩);have E:ai b O:=(M.then w).then u;have y:=P.af E;have Q:=u.get (w.get C id) id;have R:=u.get N id;generalize g:(if T.num.1=0 then(if T.num.2.1<0\/m<T.num.2.1 then 3 else 0)else T.num.1:Int)=no;refine PC.ok (CR (S:=λh=>h=a\/h=l.heap.size) (no:=no) (A:=λi=>fL i a f ⟨T.bytes,T.pos+T.num.2.2,T.sE⟩/\i.heap[l.heap.size]? =some (.cells #[WP T.num.2.1] 3 (0,0))) y kR ?_ ?_) ?_
 ·rintro h (rfl|rfl)<;>omega
 ·intro S o p
  refine qD ⟨_,ae (p.get Q id) rfl,_,ae (p.get R id) rfl,PC.red (Tq (y.af p)) ?_ ?_⟩
  ·rintro c _ F d rfl j H
   rw[g]at c;have z:=j.get (p.get x id) oM;refine⟨_,rfl,PS.mk z sM λw5 I s5 U=>⟨(j.mono λ_ _ P=>.inl P).then (I.mono λ_ _ P=>.inr P),.inl ⟨c,rfl,d.keep I λh q n=>?_,U⟩⟩⟩;have:=P.aE h q;omega
  ·rintro c F d j H
   rw[g]at c⊢;rw[S]at d;have A:=(kL (T.bytes.drop T.pos)).2.2.2.1;refine⟨j.mono λ_ _ P=>.inl P,.inr ⟨c,?_,rfl,j,d⟩⟩
   change T.num.1=0\/T.num.1=4\/T.num.1=5 at A
   rw[<-g]at c⊢;split
   ·rename_i n
    rw[Zx n]at c;split
    ·exact .inl rfl
    ·rename_i s;rw[Zq s]at c;exact Zz rfl c
   ·omega
 ·rintro _ o ⟨rfl,p,V⟩
  have W:aj (·=a) b o:=E.keep.new p λh q=>by
   rcases q with(rfl|rfl)|rfl
   ·exact .inl rfl
   ·exact .inr oM
   ·exact .inl rfl
  have e:∀B:Int,o.heap[l.heap.size]? =some (.cells #[WP B] 3 (0,0))->fL o a f (bK m T).2->B=(bK m T).1->
    (∃J:Int,o.cell? ⟨l.heap.size,0,none⟩=some (WP J)/\PS o ⟨l.heap.size,0,none⟩ (WP J) λK=>∃L:Int,K.cell? ⟨l.heap.size,0,none⟩=some (WP L)/\
     Ok (λv i=>v= WP (bK m T).1/\fL i a f (bK m T).2/\aj (·=a) b i) (.returned (WP L)) K):=by
   rintro B k d rfl;refine⟨_,ae k rfl,PS.mk k sM λF j H z=>⟨_,ae z rfl,Ok.mk ⟨rfl,d.keep j λh q n=>?_,W.new j λh q=>.inr oM⟩⟩⟩;have:=P.aE h q;omega
  refine⟨rfl,?_⟩;rcases V with⟨r,k⟩|⟨r,c,_,d,k⟩|⟨r,c,X,d⟩
  ·have n:bK m T=(0,T):=by unfold bK;rw[Zx r]
   exact e 0 (k.get x id) (by rw[n];exact y.af k) (by rw[n])
  ·have n:bK m T=(T.num.2.1,⟨T.bytes,T.pos+T.num.2.2,0⟩):=by
    have A:=(kL (T.bytes.drop T.pos)).2.2.2.1
    change T.num.1=0\/T.num.1=4\/T.num.1=5 at A
    unfold bK;rw[Zq (by simp[r])];split at g
    ·rename_i t
     rw[Zx t];split at g
     ·omega
     ·rename_i s;rw[Zq s]
    ·omega
   exact e _ k (by rw[n];rw[r]at d;exact d) (by rw[n])
  ·have n:bK m T=(0,⟨T.bytes,T.pos,no⟩):=by
    unfold bK;rw[Zq (by simp[r])];split at g
    ·rename_i t
     rw[Zx t];split at g
     ·rename_i s;rw[Zx s,g]
     ·omega
    ·rename_i t;rw[Zq t,g]
   exact e 0 (X.get x oM) (by rw[n];exact d) (by rw[n])
def NU(e:fL b a f T):
  bn 203 #[RK a] b (Ok λg h=>g= WP (iv T)/\bW b h):=by
 obtain⟨m,o,i,G,P,j,p⟩:=e.body;have q:=j.len dC;have d:T.sE≠0\/¬T.pos<T.bytes.length->iv T=T.sE:=λr=>by unfold iv;rw[Zq oM]
 refine uC ⟨a,0,rfl,_,ae P rfl,al.eT (λc=>⟨a,0,rfl,_,ae P rfl,a,0,rfl,_,_,_,ae P rfl,λk n=>al.dec (λl=>?_) λl=>?_⟩) (λc k n=>?_)⟩
 ·exact Ok.mk ⟨by unfold iv;rw[Zx ⟨c,oM⟩],n⟩
 ·exact⟨a,0,rfl,_,ae ((n.keep (S:=λ_=>False)).get P id) rfl,Ok.mk ⟨by rw[d (.inr oM)],n⟩⟩
 ·exact⟨a,0,rfl,_,ae ((n.keep (S:=λ_=>False)).get P id) rfl,Ok.mk ⟨by rw[d (.inl c)],n⟩⟩
def vr:ki LL 52 3 1 8:=⟨kR,kR,dC⟩
def aF(n:ah)(P:be)(a b:Nat):List Value:=
 [WP n.origin,WP n.seq,WP n.aC,.slice P a b,WP n.a_,WP n.agg,WP n.field,WP n.op,WP n.arg,WP n.key]
def iz:kq ah where
 k:=10
 rep:=λh D c cs=>∃n P a,cs=aF c n P a/\Row aO 8 h D n P c.aM/\c.Ok
 keep:=λ⟨n,P,a,b,d,e⟩ i f=>⟨n,P,a,b,d.keep i f,e⟩
 mono:=λ⟨n,P,a,b,d,e⟩ f=>⟨n,P,a,b,d.mono f,e⟩
 len:=λ⟨n,P,a,b,_,_⟩=>by rw[b];rfl
 one:=λ⟨n,P,a,b,_,_⟩ j g=>by
  rw[b]at g;simp only[aF,Q2,List.not_mem_nil,or_false]at g;rcases g with rfl|rfl|rfl|rfl|rfl|rfl|rfl|rfl|rfl|rfl<;>rfl
def wu:kq ah where
 k:=10
 rep:=λl D e cs=>∃n P a b,cs=aF e n P a/\aS aO 3 b l n P a e.aM/\(∀c,b c->D c)/\e.Ok/\e.aM.length*8<=aP
 keep:=λ⟨n,P,a,b,d,g,f,h⟩ m i=>⟨n,P,a,b,d,g.keep m (λc j=>i c (f c j)),f,h⟩
 mono:=λ⟨n,P,a,b,d,g,f,h⟩ i=>⟨n,P,a,b,d,g,λc j=>i c (f c j),h⟩
 len:=λ⟨n,P,a,b,d,_⟩=>by rw[d];rfl
 one:=λ⟨n,P,a,b,d,_⟩ o k=>by
  rw[d]at k;simp only[aF,Q2,List.not_mem_nil,or_false]at k;rcases k with rfl|rfl|rfl|rfl|rfl|rfl|rfl|rfl|rfl|rfl<;>rfl
def wu.read{D:ac}{cs:List Value}(n:wu.rep b D l cs):iz.rep b D l cs:=by
 obtain⟨P,a,c,i,d,e,f,g,h⟩:=n;exact⟨P,a,c,d,(e.row dC h).mono f,g⟩
def wu.row{D:ac}(n:Row wu 96 b D d a E):Row iz 96 b D d a E:=
 ⟨n.len,n.eO,λc e f=>by
  obtain⟨g,P,h,i,j,k,l,m⟩:=n.el c e f;exact⟨g,P,h,i,j,k,l,wu.read m⟩⟩
def Ik:ki LL 36 82 10 96:=⟨kR,kR,dC⟩
def Hf{r t:Nat}{k D:ac}{l S:Nat}(C:b.heap[a]? =some (.cells #[.slice d r t] 214 (0,0)))(g:aS gC 5 k b d r t u)(q:Row aO 8 b D v l s)(T:¬k a)(U:¬D a)(V:u.length+9*s.length+9<=aP):
  bn 297 #[.slice v l S,RK a] b (Ok λW h=>W= .tuple #[]/\∃c e f j,h.heap[a]? =some (.cells #[.slice c e f] 214 (0,0))/\
   aS gC 5 j h c e f (u++bl s)/\¬j a/\aj (·=a) b h/\∀n,j n->k n\/b.heap.size<=n):=by
 have X:=q.len;have a7:=az C;have Y:=q.eO;unfold aP at Y;refine DX ⟨λE i h=>∃P:Nat,i=P/\P<=l/\E=l-P/\∃c e f j,h.heap[a]? =some (.cells #[.slice c e f] 214 (0,0))/\
   aS gC 5 j h c e f (u++bl (s.take P))/\¬j a/\aj (·=a) b h/\∀n,j n->k n\/b.heap.size<=n,
  ⟨_,0,rfl,Qj _,rfl,d,r,t,k,C,by simpa[bl]using g,T,aj.refl _,λn w=>.inl w⟩,?_⟩
 rintro E i _ w1 ⟨P,rfl,hj,rfl,F,H,I,Z,x,m,a0,o,a1⟩;refine al.dec (λh1=>?_) (λh1=>?_)
 ·obtain⟨n,y,z,rfl,A,B,hc⟩:=(q.keep o (λn g p=>U (p▸g))).nK (i:=P) oM
  refine⟨n,y,rfl,oM,oM,z,hc,F,H,I,ae x rfl,?_⟩;have a8:(bl (s.take P)).length<=9*P:=by
   have:=gj (l:=s.take P) (λa9 hy=>by
    obtain⟨J,K⟩:=List.getElem?_of_mem (List.mem_of_mem_take hy);have a2:J<l:=by rw[X];exact(Qv.1 K).1
    obtain⟨_,_,b0,_,L,a3,_⟩:=q.nK (i:=J) a2;rw[K]at L;cases L;exact a3)
   simp only[Qy]at this;omega
  have a4:=m.len dC;rw[QX]at a4;unfold aP at V;refine PC.ok (BY B (m.row (bytes:=1) dC (by rw[QX];unfold aP;omega)) cw m.aE) ?_;rintro _ w2 ⟨a5,n2,c2,M,rfl,a6,N,O⟩;have Q:¬M a:=λw=>by have:=O a w;have:=o.size;omega
  refine⟨_,_,_,rfl,PS.mk (N.get x id) sM λw3 R s3 g3=>⟨_,oM,P+1,an oM,oM,rfl,a5,n2,c2,M,g3,?_,Q,(o.af N).then R,λn g=>.inr (Xx o.size (O n g))⟩⟩;rw[Qw,A];have p:u++bl (List.take P s++(some z).toList)=u++bl (List.take P s)++ep z:=by rw[je];simp[bl]
  rw[p];exact a6.keep R λn g p=>Q (p▸g)
 ·rw[Qz oM]at m
  exact Ok.mk ⟨rfl,F,H,I,Z,x,m,a0,o,a1⟩
def BZ{f:Nat×Nat}(n:List Int)(P:b.heap[a]? =some (.cells (n.map (Value.int .i64)).toArray 3 f))(c:∀d∈n,aH d)(e:n.length<=1000):Row aO 8 b (·=a) (UV a) n.length n:=
 Row.lit P n sM c cw
def PD{D:ac}(w:Row aO 8 b D d a l.aM)(n:l.Ok)(F:∀P,D P->P<b.heap.size):
  bn 238 #[.agg (aF l d a c).toArray] b (Ok λH I=>∃x,H= .tuple #[x,WP (jG l).2]/\qh gC 5 b (jG l).1 x I):=by
 have J:=w.len;refine Jc (PA.mk λi m s1 y=>⟨d,a,c,ae y rfl,al.dec (λh=>?_) (λh=>?_)⟩)
 ·have q:jG l=([],3):=by unfold jG;rw[Zx oM]
  rw[q];exact Ok.mk ⟨_,rfl,none,0,0,λ_=>False,rfl,aS.nil i,m,λ_ h=>h.elim⟩
 have a8:l.aM.length<=64:=oM
 have q:jG l=(bl (gl l),0):=by unfold jG;rw[Zq oM]
 rw[q];have z:∀P,D P->P<i.heap.size:=λP f=>Qk (F P f) m.size;refine PA.mk λj r s2 K=>?_;have k:=r.get y id;refine⟨_,ae k rfl,_,ae k rfl,_,ae k rfl,_,_,_,ae k rfl,PA.mk λA B s3 L=>⟨_,_,_,rfl,kR,?_⟩⟩;have M:Row aO 8 A (·=j.heap.size) (UV j.heap.size) 4 [l.origin,l.seq,l.aC,(l.aM.length:Int)]:=
  BZ (f:=(0,0)) [l.origin,l.seq,l.aC,(l.aM.length:Int)] (by rw[L,<-J];rfl) (by intro s e;simp at e;rcases e with rfl|rfl|rfl|rfl;exact n.origin;exact n.seq;exact n.aC;unfold aH;omega) sM
 refine PC.ok (Hf (B.get K id) (aS.nil A) M id (by show¬i.heap.size=j.heap.size;omega) (by unfold aP;simp)) ?_;rintro _ C ⟨rfl,a4,n4,c4,F4,N,O,Q,R,S⟩;have o:aj (·=i.heap.size) j C:=B.keep.then R;have E:=o.get k oM;have T:Row aO 8 C D d a l.aM:=((w.af (m.then r)).keep o λP f l=>by have:=z P f;omega)
 refine⟨rfl,_,_,_,ae E rfl,_,_,_,rfl,kR,PC.ok (Hf N O T Q (λh=>by have:=z _ h;omega) ?_) ?_⟩
 ·have t:=gj (l:=[l.origin,l.seq,l.aC,(l.aM.length:Int)]) (by intro s e;simp at e;rcases e with rfl|rfl|rfl|rfl;exact n.origin;exact n.seq;exact n.aC;unfold aH;omega)
  simp only[List.nil_append,Xq,ZQ]at t⊢;unfold aP;omega
 rintro _ u ⟨rfl,a5,n5,c5,F5,U,V,W,v,X⟩;have g:=v.get E oM;refine⟨rfl,_,ae g rfl,_,ae g rfl,_,ae g rfl,_,ae g rfl,_,ae g rfl,_,ae g rfl,PA.mk λY p s6 Z=>⟨_,_,_,rfl,kR,?_⟩⟩;have r6:Row aO 8 Y (·=u.heap.size) (UV u.heap.size) 6 [l.a_,l.agg,l.field,l.op,l.arg,l.key]:=
  BZ (f:=(0,0)) [l.a_,l.agg,l.field,l.op,l.arg,l.key] Z (by intro s e;simp at e;rcases e with rfl|rfl|rfl|rfl|rfl|rfl;exact n.a_;exact n.agg;exact n.field;exact n.op;exact n.arg;exact n.key) sM
 have a6:=o.size;have a9:=v.size;refine PC.ok (Hf (p.get U id) (V.af p) r6 W (by show¬i.heap.size=u.heap.size;omega) ?_) ?_
 ·have t:=gj (l:=[l.origin,l.seq,l.aC,(l.aM.length:Int)]) (by intro s e;simp at e;rcases e with rfl|rfl|rfl|rfl;exact n.origin;exact n.seq;exact n.aC;unfold aH;omega)
  have h2:=gj n.aM;simp only[List.nil_append,Xq,ZQ,QX]at t h2⊢;unfold aP;omega
 rintro _ w7 ⟨rfl,a7,n7,c7,F7,g7,a2,b0,k7,a3⟩;refine⟨rfl,_,_,_,ae g7 rfl,Ok.mk ⟨_,rfl,a7,n7,c7,F7,rfl,?_,?_,?_⟩⟩
 ·have:gl l=[l.origin,l.seq,l.aC,(l.aM.length:Int)]++l.aM++[l.a_,l.agg,l.field,l.op,l.arg,l.key]:=rfl
  rw[this,je,je];exact a2
 ·have ka:ai b j:=m.then r
  exact(ka.new ((o.then v).then (p.keep.then k7)) λP f=>.inr oM)
 ·intro P f
  rcases a3 P f with h|h
  ·rcases X P h with h|h
   ·rcases S P h with h|h
    ·exact h.elim
    ·omega
   ·omega
  ·have:=p.size;omega
def rF(P:List Int)(a:be)(b c:Nat)(n:List Int):List Value:=
 [WP (P.getD 0 0),WP (P.getD 1 0),WP (P.getD 2 0),.slice a b c,WP (n.getD 0 0),WP (n.getD 1 0),WP (n.getD 2 0),WP (n.getD 3 0),WP (n.getD 4 0),WP (n.getD 5 0)]
def Mr(n:s.length=i)(P:i<3):(rF s d a c b2).toArray.setIfInBounds i (WP e)=(rF (s++[e]) d a c b2).toArray:=by
 match s,n with
 |[],n=>subst n;rfl
 |[_],n=>subst n;rfl
 |[_,_],n=>subst n;rfl
 |_::_::_::_,n=>simp at n;omega
def Ms(n:b2.length=i)(P:i<6):(rF s d a c b2).toArray.setIfInBounds (4+i) (WP e)=(rF s d a c (b2++[e])).toArray:=by
 match b2,n with
 |[],n=>subst n;rfl
 |[_],n=>subst n;rfl
 |[_,_],n=>subst n;rfl
 |[_,_,_],n=>subst n;rfl
 |[_,_,_,_],n=>subst n;rfl
 |[_,_,_,_,_],n=>subst n;rfl
 |_::_::_::_::_::_::_,n=>simp at n;omega
def mR(n:Nat)(P:iu):aW (n+1) P=((aW n P).1++[(fA (aW n P).2).1],(fA (aW n P).2).2):=rfl
def PE{D:ac}(e:Row gC 1 b D d a u)(hD:∀n,D n->n<b.heap.size):
  bn 270 #[.slice d a c] b (Ok λa8 j=>∃a' n' c' w,a8= .tuple #[.agg (aF (jf u).1 a' n' c').toArray,WP (jf u).2]/\aS aO 3 w j a' n' c' (jf u).1.aM/\ai b j/\∀n,w n->b.heap.size<=n):=by
 refine Je (PA.mk λw1 k1 s1 g1=>PC.ok (Fc (e.af k1) (λn h=>by have:=hD n h;omega)) ?_);rintro _ g ⟨i,a0,rfl,T,k2,hP⟩;refine⟨_,rfl,PA.mk λw3 U s3 g3=>PA.mk λx y s4 g4=>?_⟩;have c3:=T.self;have i0:w1.heap.size<=i/\i<g.heap.size:=⟨hP i c3,T.aE i c3⟩
 have V:=T.aE;have h8:=k2.size;have d9:=y.get g3 id;have e0:=y.get (U.get (k2.get g1 id) id) id;have e1:=(T.af U).af y;have b1:ai b x:=((k1.then k2).then U).then y;refine⟨λm B j=>∃P:Nat,B=P/\P<=3/\m=3-P/\j.heap[g.heap.size]? =some (.cells (rF (aW P ⟨u,0,0⟩).1 none 0 0 []).toArray 82 (0,0))/\fL j i a0 (aW P ⟨u,0,0⟩).2/\aj (λn=>n=g.heap.size\/n=i) x j,
  ⟨_,0,rfl,oM,rfl,d9,e1,aj.refl _⟩,?_⟩
 rintro m B _ w5 ⟨P,rfl,hj,rfl,c4,c5,k5⟩;have c6:(iu.mk u 0 0).Fit:=⟨Qj _,.inl rfl⟩
 refine al.dec (λN=>?_) (λN=>?_)
 ·have c7:P<3:=oM
  have g5:=k5.get g4 oM;have a1:w5.cell? ⟨w3.heap.size,0+Int.toNat (P:Int),none⟩=some (.pointer (some ⟨g.heap.size,P,none⟩)):=by
   rw[Qx,Xz]
   match P,c7 with
   |0,_=>exact ae g5 rfl
   |1,_=>exact ae g5 rfl
   |2,_=>exact ae g5 rfl
  refine⟨_,_,rfl,oM,oM,_,a1,PC.ok (Hg c5) ?_⟩;rintro _ w6 ⟨rfl,O,Q⟩;have W:=Q.get c4 oM;refine⟨_,rfl,_,_,rfl,PS.mk W (by simp[rF];omega) λX C s7 g7=>⟨_,oM,P+1,an oM,oM,rfl,?_,?_,?_⟩⟩
  ·rw[g7,Mr (c6.ints P).2.2.1 c7];rfl
  ·rw[mR]
   exact O.keep C λn e r=>by have:=V n e;omega
  ·exact k5.then ((Q.mono λ_ _ h=>.inr h).then (C.mono λ_ _ h=>.inl h))
 obtain rfl:P=3:=oM
 obtain⟨c8,e3,i1,_⟩:=c6.ints 3;refine PC.ok (JB c5) ?_;rintro _ w6 ⟨rfl,O,Q⟩;have W:=Q.get c4 oM;have e4:aj (λn=>n=g.heap.size\/n=i) x w6:=k5.then (Q.mono λ_ _ h=>.inr h);generalize hL:(aW 3 ⟨u,0,0⟩).1=H at W e3;generalize hR:(aW 3 ⟨u,0,0⟩).2=a5 at O c8;obtain⟨Y,e5,c9,_⟩:=c8.count (m:=64) oM;generalize hC:(bK 64 a5).1=I at e5 c9;generalize e6:(bK 64 a5).2=E at O Y;refine⟨_,rfl,λm B j=>∃P:Nat,B=P/\P<=I.toNat/\m=I.toNat-P/\∃s o t w,j.heap[g.heap.size]? =some (.cells (rF H s o t []).toArray 82 (0,0))/\fL j i a0 (aW P E).2/\
   aS aO 3 w j s o t (aW P E).1/\(∀n,w n->x.heap.size<=n)/\aj (λn=>n=g.heap.size\/n=i) x j,
  ⟨_,0,rfl,oM,rfl,none,0,0,λ_=>False,W,O,aS.nil w6,λ_ h=>h.elim,e4⟩,?_⟩
 rintro m B _ X ⟨P,rfl,hj,rfl,s,o,t,w,b8,b9,c1,z,C⟩;have i2:=C.size;refine al.dec (λN=>?_) (λN=>?_)
 ·intro J d0
  have p:ai X J:=d0.keep;have s8:J.heap.size=X.heap.size:=by rw[d0.heap]
  refine⟨λn=>n≠g.heap.size,sM,s,o,t,ae (p.get b8 id) rfl,PC.ok (Hg (b9.af p)) ?_⟩;rintro _ K ⟨rfl,Z,v⟩;have b2:=(Y.ints P).2.2.1;refine⟨_,rfl,v.mono (λn _ h=>oM),?_⟩;have L:aS aO 3 w K s o t (aW P E).1:=(c1.af p).keep v λn e r=>by have:=z n e;have:=y.size;omega
  refine PA.mk λA l i3 e7=>⟨l.keep,?_⟩
  have a2:=L.af l;have b0:=v.get (p.get b8 id) oM;have k:=l.get b0 id;have e8:=((Y.ints P).1.int).2.1;have d1:Row aO 8 A (·=K.heap.size) (UV K.heap.size) 1 [(fA (aW P E).2).1]:=BZ (f:=(0,0)) [(fA (aW P E).2).1] e7 (by simpa using e8) sM;refine lW a2 vr d1 (λn r=>⟨oM,?_⟩) (by rw[b2];unfold aP;simp;omega) (by rw[b2];unfold maxLen;simp;omega) λd2 e9 R i4 d3 a3 h9 b3=>?_
  ·intro e2
   have:=L.aE n (L.self n e2);omega
  refine⟨_,_,_,rfl,PS.mk (a3.get k ?_) (by simp[rF]) λi5 c2 i6 f2=>⟨_,oM,P+1,an oM,oM,rfl,d2,o+1,e9,λn=>aI d2=some n,?_,?_,?_,?_,?_⟩⟩
  ·intro r;have:=z _ (L.self _ r);have:=y.size;omega
  ·rw[f2];rfl
  ·rw[mR]
   refine((Z.af l).keep a3 λn e r=>?_).keep c2 λn e r=>?_
   ·have:=z _ (L.self _ r);have:=V n e;have:=y.size;have:=U.size;omega
   ·have:=V n e;omega
  ·have g0:=d3.alone
   rw[mR];refine g0.keep c2 λn e r=>?_;rcases b3 n e with h|h
   ·have:=z n h;have:=y.size;omega
   ·have:=l.size;have:=v.size;have:=p.size;omega
  ·intro n e
   rcases b3 n e with h|h
   ·exact z n h
   ·have:=l.size;have:=v.size;have:=p.size;omega
  ·have ka:aj (λn=>n=g.heap.size\/n=i) x A:=((C.af p).then (v.mono λ_ _ h=>.inr h)).af l
   have kb:aj (λn=>n=g.heap.size\/n=i) x R:=ka.new a3 λn e=>.inr (z n (L.self n e));exact kb.then (c2.mono λ_ _ h=>.inl h)
 obtain rfl:P=I.toNat:=oM
 obtain⟨d4,g2,g6,_⟩:=Y.ints I.toNat;generalize h2:(aW I.toNat E).1=S at c1 g2 g6;generalize h3:(aW I.toNat E).2=q at b9 d4;refine PA.mk λJ p s8 g8=>?_;have h4:=p.get b8 id;have h5:aj (λn=>n=g.heap.size\/n=i) x J:=C.af p;have h6:=c1.af p;have i7:=y.size;refine⟨λm B j=>∃P:Nat,B=P/\P<=6/\m=6-P/\j.heap[g.heap.size]? =some (.cells (rF H s o t (aW P q).1).toArray 82 (0,0))/\fL j i a0 (aW P q).2/\aj (λn=>n=g.heap.size\/n=i) J j,
  ⟨_,0,rfl,oM,rfl,h4,b9.af p,aj.refl _⟩,?_⟩
 rintro m B _ K ⟨P,rfl,hj,rfl,b0,Z,v⟩;refine al.dec (λN=>?_) (λN=>?_)
 ·have d5:P<6:=oM
  have M:=v.get g8 (by have:=C.size;omega);have a1:K.cell? ⟨X.heap.size,0+Int.toNat (P:Int),none⟩=some (.pointer (some ⟨g.heap.size,4+P,none⟩)):=by
   rw[Qx,Xz]
   match P,d5 with
   |0,_=>exact ae M rfl
   |1,_=>exact ae M rfl
   |2,_=>exact ae M rfl
   |3,_=>exact ae M rfl
   |4,_=>exact ae M rfl
   |5,_=>exact ae M rfl
  refine⟨_,_,rfl,oM,oM,_,a1,PC.ok (Hg Z) ?_⟩;rintro _ A ⟨rfl,d6,l⟩;have k:=l.get b0 oM;refine⟨_,rfl,_,_,rfl,PS.mk k (by simp[rF];omega) λR F d7 f=>⟨_,oM,P+1,an oM,oM,rfl,?_,?_,?_⟩⟩
  ·rw[f,Ms (d4.ints P).2.2.1 d5];rfl
  ·rw[mR]
   exact d6.keep F λn e r=>by have:=V n e;omega
  ·exact v.then ((l.mono λ_ _ h=>.inr h).then (F.mono λ_ _ h=>.inl h))
 obtain rfl:P=6:=oM
 have a6:j_ ⟨u,0,0⟩=(⟨H.getD 0 0,H.getD 1 0,H.getD 2 0,S,(aW 6 q).1.getD 0 0,(aW 6 q).1.getD 1 0,(aW 6 q).1.getD 2 0,(aW 6 q).1.getD 3 0,(aW 6 q).1.getD 4 0,(aW 6 q).1.getD 5 0⟩,(aW 6 q).2):=by
  unfold j_;simp only[hL,hR,hC,e6,h2,h3]
 refine PC.ok (NU Z) ?_;rintro _ A ⟨rfl,d8⟩;have l:ai K A:=d8.keep;have b4:aj (λn=>n=g.heap.size\/n=i) J A:=v.af l;have b5:aj (λn=>n=g.heap.size\/n=i) x A:=h5.then b4;have b6:=b5.get e0 oM;have k:=l.get b0 id;have a2:aS aO 3 w A s o t S:=h6.keep b4 λn e r=>by have:=z n e;omega
 have b7:ai b A:=b1.new b5 λn e=>.inr oM;have a7:iv (j_ ⟨u,0,0⟩).2=iv (aW 6 q).2:=by rw[a6]
 refine⟨_,rfl,al.eu (λh7=>?_) (λhe=>?_)⟩
 ·have a4:jf u=(B_,iv (aW 6 q).2):=by unfold jf;rw[a7,Zx h7]
  rw[a4];refine storeAll [WP 0,WP 0,WP 0,.slice none 0 0,WP 0,WP 0,WP 0,WP 0,WP 0,WP 0] b6 rfl λR F d7 f=>?_;refine⟨0,0,0,none,0,0,0,0,0,0,0,0,ae f rfl,ae f rfl,ae f rfl,ae f rfl,ae f rfl,ae f rfl,ae f rfl,ae f rfl,ae f rfl,ae f rfl,Ok.mk ⟨none,0,0,λ_=>False,rfl,aS.nil R,?_,λ_ h=>h.elim⟩⟩;exact b7.new F λn e=>.inr oM
 ·have a4:jf u=((j_ ⟨u,0,0⟩).1,0):=by unfold jf;rw[a7,Zq (by simpa using he)]
  rw[a4,a6];refine⟨_,_,_,s,o,t,_,_,_,_,_,_,ae k rfl,ae k rfl,ae k rfl,ae k rfl,ae k rfl,ae k rfl,ae k rfl,ae k rfl,ae k rfl,ae k rfl,?_⟩;refine storeAll (rF H s o t (aW 6 q).1) b6 rfl λR F d7 f=>?_;refine⟨_,_,_,s,o,t,_,_,_,_,_,_,ae f rfl,ae f rfl,ae f rfl,ae f rfl,ae f rfl,ae f rfl,ae f rfl,ae f rfl,ae f rfl,ae f rfl,Ok.mk ⟨s,o,t,w,rfl,a2.keep F λn e r=>?_,?_,λn e=>?_⟩⟩
  ·have:=z n e;omega
  ·exact b7.new F λn e=>.inr oM
  ·have:=z n e;have:=b1.size;omega
end
end Go.Proofs.YtkpomgifkloklaaGreatDoor
namespace Go.aw
open Go
def fu(n:List UInt8):Nat:=n.foldl (λP a=>P*10+(a.toNat-48)) 0
def gY(n:UInt8):Bool:=decide (48<=n.toNat/\n.toNat<=57)
def gv(n:List UInt8)(P:UInt8):fu (n++[P])=fu n*10+(P.toNat-48):=by simp[fu,List.foldl_append]
variable{e r:Int}{u:List UInt8}{a:Nat}{j:Type}
def xm{n P:List j}(a:n≠[]):(n++P).head? =n.head? :=by
 cases n with
 |nil=>exact Zz rfl a
 |cons b n=>rfl
def vg:∀(n:Nat),fu (Lib.decDigits n)=n/\(Lib.decDigits n).all gY=true/\Lib.decDigits n≠[]/\(n≠0->(Lib.decDigits n).head? ≠some 48):=by
 intro n
 induction n using Nat.strongRecOn with
 |_ n c=>
  rw[Lib.decDigits]
  by_cases a:n<10
  ·rw[dif_pos a]
   have P:(UInt8.ofNat (48+n)).toNat=48+n:=by rw[ZK];omega
   refine⟨by simp[fu];omega,by simp[gY,P];omega,sM,λh=>?_⟩;intro b;simp only[List.head?_cons,Q1]at b;have:=Zj UInt8.toNat b;rw[P]at this;simp at this;omega
  ·rw[dif_neg a]
   obtain⟨d,e,f,g⟩:=c (n/10) oM;have P:(UInt8.ofNat (48+n % 10)).toNat=48+n % 10:=by rw[ZK];omega
   refine⟨by rw[gv,d,P];omega,?_,sM,λ_=>?_⟩
   ·rw[List.all_append,e];simp[gY,P];omega
   ·rw[xm f];exact g oM
def Dd:∀{n:List UInt8},n.all gY=true->n≠[]->n.head? ≠some 48->0<fu n:=by
 intro n;generalize P:n.length=e
 induction e generalizing n with
 |zero=>intro _ f;exact Zz (QW P) f
 |succ e g=>
  intro a i b;rcases List.eq_nil_or_concat n with rfl|⟨n,c,rfl⟩
  ·cases P
  rw[List.concat_eq_append]at P a b⊢;rw[List.all_append,QK]at a;have j:48<=c.toNat/\c.toNat<=57:=by simpa[gY]using a.2
  rw[gv]
  by_cases d:n=[]
  ·subst d
   have:c.toNat≠48:=λh=>b (by simp;exact UInt8.toNat_inj.1 h);omega
  ·have:=g (by simpa using P) a.1 d (by rwa [xm d]at b)
   omega
def Ev:∀{n:List UInt8},n.all gY=true->n≠[]->(n.head? ≠some 48\/n.length=1)->Lib.decDigits (fu n)=n:=by
 intro n;generalize e:n.length=f
 induction f generalizing n with
 |zero=>intro _ i;exact Zz (QW e) i
 |succ f j=>
  intro a o b;rcases List.eq_nil_or_concat n with rfl|⟨n,P,rfl⟩
  ·cases e
  rw[List.concat_eq_append]at e a b⊢;rw[List.all_append,QK]at a;have p:48<=P.toNat/\P.toNat<=57:=by simpa[gY]using a.2
  have h:UInt8.ofNat (48+(P.toNat-48))=P:=UInt8.toNat_inj.1 (by rw[ZK];omega);rw[gv]
  by_cases c:n=[]
  ·subst c
   have k:fu []*10+(P.toNat-48)=P.toNat-48:=by simp[fu]
   rw[k,Lib.decDigits,dif_pos oM,h]
   rfl
  ·have q:0<n.length:=List.length_pos_iff.2 c
   have g:n.length=f:=by simpa using e
   have d:n.head? ≠some 48:=by
    rcases b with b|b
    ·rwa [xm c]at b
    ·omega
   have r:=Dd a.1 c d;rw[Lib.decDigits,dif_neg oM];have l:(fu n*10+(P.toNat-48))/10=fu n:=oM
   have m:(fu n*10+(P.toNat-48)) % 10=P.toNat-48:=oM
   rw[l,m,h,j g a.1 c (.inl d)]
def yA:∀(n:List UInt8),n.all gY=true->fu n<10 ^ n.length:=by
 intro n;generalize P:n.length=b
 induction b generalizing n with
 |zero=>intro _;have:=QW P;subst this;decide
 |succ b d=>
  intro a;rcases List.eq_nil_or_concat n with rfl|⟨n,c,rfl⟩
  ·cases P
  rw[List.concat_eq_append]at P a⊢;rw[List.all_append,QK]at a;have e:48<=c.toNat/\c.toNat<=57:=by simpa[gY]using a.2
  have:=d n (by simpa using P) a.1;rw[gv,Nat.pow_succ];omega
def pT{u:Nat}(g:u<1000000000000):(Lib.decDigits u).length<=12:=by
 rw[Lib.decDigits_length];apply Nat.le_of_not_lt;intro j
 by_cases h:u=0
 ·subst h;rw[Lib.nDigits_small oM]at j;omega
 ·have s:=Lib.lt_pow_nDigits u
  obtain⟨k,l,m,o⟩:=vg u;have i:=Lib.decDigits_length u;have key:∀(n:List UInt8),n.all gY=true->n≠[]->n.head? ≠some 48->10 ^(n.length-1)<=fu n:=by
   intro n;generalize a:n.length=P
   induction P generalizing n with
   |zero=>intro _ g;exact Zz (QW a) g
   |succ P p=>
    intro b t d;rcases List.eq_nil_or_concat n with rfl|⟨n,v,rfl⟩
    ·cases a
    rw[List.concat_eq_append]at a b d⊢;have e:=b;rw[List.all_append,QK]at b;rw[gv]
    by_cases c:n=[]
    ·subst c
     have:=Dd e sM d;rw[gv]at this;have q:P=0:=by simpa using a.symm
     subst q;simp at this⊢;omega
    ·have f:n.length=P:=by simpa using a
     have i:0<n.length:=List.length_pos_iff.2 c;have:=p n f b.1 c (by rwa [xm c]at d);have r:P+1-1=(P-1)+1:=oM
     rw[r,Nat.pow_succ];omega
  have:=key _ l m (o h);rw[k,i]at this;have w:10 ^ 12<=10 ^(Lib.nDigits u-1):=Nat.pow_le_pow_right oM oM;have:(10:Nat) ^ 12=1000000000000:=dC
  omega
def dN:List UInt8:=[115,101,103,46]
def ax(n:Int):List UInt8:=if n<0\/1000000000000<=n then []else dN++Lib.decDigits n.toNat
def jJ(n:List UInt8):Option Nat:=if n.take 4=dN/\5<=n.length/\n.length<=16/\(n.drop 4).all gY=true/\((n.drop 4).head? ≠some 48\/n.length=5)then some (fu (n.drop 4))else none
def mX(n:0<=e)(P:e<1000000000000):ax e=dN++Lib.decDigits e.toNat:=by unfold ax;rw[Zq oM]
def pN(P:0<=e)(a:e<1000000000000):jJ (ax e)=some e.toNat:=by
 rw[mX P a];obtain⟨b,c,d,f⟩:=vg e.toNat;have j:=pT (u:=e.toNat) oM;have k:0<(Lib.decDigits e.toNat).length:=List.length_pos_iff.2 d;have g:(dN++Lib.decDigits e.toNat).drop 4=Lib.decDigits e.toNat:=rfl;have h:(dN++Lib.decDigits e.toNat).take 4=dN:=rfl;have i:(dN++Lib.decDigits e.toNat).length=4+(Lib.decDigits e.toNat).length:=by rw[QX];rfl
 unfold jJ;rw[g,h,i,b,Zx];refine⟨rfl,oM,oM,c,?_⟩
 by_cases n:e.toNat=0
 ·right
  rw[n,Lib.decDigits_length,Lib.nDigits_small oM]
 ·exact .inl (f n)
def CD(n:jJ u=some a):ax a=u/\a<1000000000000:=by
 unfold jJ at n;split at n
 ·rename_i d
  obtain⟨e,h,i,P,f⟩:=d;simp only[Q1]at n;have b:(u.drop 4).length=u.length-4:=sM
  have j:=yA _ P;have k:10 ^(u.drop 4).length<=10 ^ 12:=Nat.pow_le_pow_right oM oM;have l:(10:Nat) ^ 12=1000000000000:=dC
  have g:a<1000000000000:=oM
  refine⟨?_,g⟩;rw[mX oM oM,<-n,Qx,Ev P (λc=>by rw[c]at b;simp at b;omega) (f.imp id λc=>oM),<-e,ZX]
 ·cases n
def J_(b:0<=e)(P:e<1000000000000)(n:ax r=ax e):r=e:=by
 have a:=pN b P
 by_cases c:r<0\/1000000000000<=r
 ·unfold ax at n
  rw[Zx c,Zq oM]at n;exact Zz (Zj List.length n) (by simp[dN])
 ·rw[<-n,pN oM oM]at a
  simp only[Q1]at a;omega
def Da(n:Int):(ax n).length<=16:=by
 unfold ax;split
 ·simp
 ·have:=pT (u:=n.toNat) oM
  rw[QX];show 4+_<=16;omega
def HT(b:u.all gY=true)(c:u.length<=12):jJ (dN++u)=if ax (fu u)=dN++u then some (fu u)else none:=by
 have e:=yA _ b;have f:10 ^ u.length<=10 ^ 12:=Nat.pow_le_pow_right oM c;have g:(10:Nat) ^ 12=1000000000000:=dC
 split
 ·rename_i P
  rw[<-P,pN oM oM,Qx]
 ·rename_i P
  cases n:jJ (dN++u)with
  |none=>rfl
  |some d=>
   obtain⟨a,h⟩:=CD n;have:d=fu u:=by
    unfold jJ at n;split at n
    ·exact(XJ n).symm
    ·cases n
   rw[this]at a;exact Zz a P
def KG(P:u.all gY=false):jJ (dN++u)=none:=by
 unfold jJ;rw[Zq];rintro⟨_,_,_,n,_⟩;have:(dN++u).drop 4=u:=rfl;rw[this,P]at n
 cases n
def QL(n:u.take 4≠dN):jJ u=none:=by
 unfold jJ;rw[Zq λP=>n P.1]
def Np(n:16<u.length):jJ u=none:=by
 unfold jJ;rw[Zq λP=>oM]
end Go.aw
namespace Go.Proofs.YtkpomgifkloklaaGreatDoor
open Go.aw
def pick(P n:Int):Int:=if n<1 then 0 else if P.tmod n<0 then P.tmod n+n else P.tmod n
end Go.Proofs.YtkpomgifkloklaaGreatDoor
namespace Go.Proofs
open Go.RowKit Go.Maps Go.Sort Go.Shelf
def Tryz.WI(b:Nat):AnyZ.SortsIn Tryz.prog Tryz.yM Fence.wide b:=
 ⟨λaI P n c a d e f=>callsIn_wide.2 (AnyM.slices_Sort_string Tryz.VT aI P n c a d e f),
  λg n a=>callsIn_wide.2 (AnyM.slices_Sort_string_none Tryz.VT g n a)⟩
end Go.Proofs
namespace Go.Proofs.YtkpomgifkloklaaGreatDoor
section
open Go.aw
open Go.RowKit Go.Maps Go.Sort Go.Shelf
def leS(n P:ByteArray):Bool:=decide (n.data.toList<=P.data.toList)
def tI(n:List ByteArray):List ByteArray:=n.mergeSort leS
def Pw(P:List ByteArray):(tI P).map (λn=>n.data.toList)=(P.map λn=>n.data.toList).mergeSort (λn a=>decide (n<=a)):=
 List.map_mergeSort (λb _ c _=>rfl)
def cf.VU{a:Type}{n:a->Value}{b:a->Prop}{hl h1}{d:World}{D:ac}:∀{P:List a},(∀x∈P,b x)->cf (flat 1 (λx=>[n x]) b hl h1) d D P (P.map n)
 |[],_=>rfl
 |x::P,c=>⟨[n x],P.map n,rfl,⟨rfl,c x (QV ..)⟩,cf.VU λe f=>c e (QJ _ f)⟩
variable{f9:List (ByteArray×Value)}{a c:Nat}{F:Nat×Nat}{g:TypeId}{b:World}
def Ao(i:bX b a Value.string f9)(I:∀f∈f9,f.1.size<=maxLen)(y:f9.length*16<=aP)(z:b.heap[c]? =some (.cells #[.map (some a)] g F)):
  bn 243 #[.func (.func 302) #[] #[RK c]] b
   (Ok (qh Px 9 b (tI (f9.map (·.1))))):=by
 unfold aP at y;obtain⟨d,h,J,p,K,L⟩:=i.at';have M:Tryz.prog.underlying 9=some .string:=Tryz.underlying9;have N:d.size=f9.length:=by have:=Zj List.length p;simpa using this
 have A:∀P∈d.toList,∃n:ByteArray,P.key=Value.string n/\n.size<=maxLen:=λP e=>by
  have O:(P.key,P.val)∈f9.map (λf=>(Value.string f.1,f.2)):=by rw[<-p];exact Xk.2 ⟨P,e,rfl⟩
  obtain⟨f,Q,R⟩:=Xk.1 O;exact⟨f.1,(Prod.mk.inj R).1.symm,I f Q⟩
 have B:∀P∈d.toList,∀n:ByteArray,P.key=Value.string n->n.size<=maxLen->WideElems.rd LL 9 (λ_=>some ((.nil:DataW Unit),[])) P=some (.string n.data.toList,.nil):=λP _ n k m=>by
  simp[WideElems.rd,k,Go.WideMaps.keyOf_string_mk M m]
 have S:WideElems.Fit LL 9 (λ_=>some ((.nil:DataW Unit),[])) d h:=by
  refine⟨by unfold maxLen;omega,⟨K,L,?_⟩,λP e=>?_⟩
  ·have:d.toList.map (·.key)=(f9.map (·.1)).map Value.string:=by
    have:=Zj (List.map (λs:Value×Value=>s.1)) p;simpa[Function.comp_def]using this
   rw[this];exact List.pairwise_map.2 (List.Pairwise.imp (λT=>by simpa using T) i.tidy)
  ·obtain⟨n,k,m⟩:=A P e
   exact⟨_,B P e n k m⟩
 have U:b.ownsMap LL 9 (λ_=>some ((.nil:DataW Unit),[])) a d.size (.map ((d.toList.map (WideElems.rg LL 9 (λ_=>some ((.nil:DataW Unit),[])))).foldr DataW.insert [])):=
  ⟨d,h,J,S,Q4 _,rfl⟩
 have C:Maps.size (.map ((d.toList.map (WideElems.rg LL 9 (λ_=>some ((.nil:DataW Unit),[])))).foldr DataW.insert []))=f9.length:=by
  show(List.foldr DataW.insert [] _).length=_;rw[(WideShapes.sorted_perm _).length_eq];simp[N]
 have V:(strKeys (.map ((d.toList.map (WideElems.rg LL 9 (λ_=>some ((.nil:DataW Unit),[])))).foldr DataW.insert []))).Perm ((f9.map (·.1)).map λn=>n.data.toList):=by
  refine(List.Perm.map (λf:Lit×DataW Unit=>Go.strOf f.1) (WideShapes.sorted_perm _)).trans ?_;have:(d.toList.map (WideElems.rg LL 9 (λ_=>some ((.nil:DataW Unit),[])))).map (λf=>Go.strOf f.1)=(f9.map (·.1)).map λn=>n.data.toList:=by
   have W:d.toList.map (λP=>match P.key with| .string n=>n.data.toList|_=>[])=(f9.map (·.1)).map λn=>n.data.toList:=by
    have:=Zj (List.map (λs:Value×Value=>match s.1 with| .string n=>n.data.toList|_=>[])) p;simpa[Function.comp_def]using this
   rw[<-W,List.map_map];refine List.map_congr_left λP e=>?_;obtain⟨n,k,m⟩:=A P e;simp[WideElems.rg,B P e n k m,k,Go.strOf]
  rw[this]
 have X:SeqGives Fence.wide 1 LL 302 #[RK c] encStr (λl=>l.Perm (strKeys _)) (Maps.size _) b:=
  AnyZ.keys_gives (ρ:=Tryz.EX) {Tryz.tJ with} Fence.wide _ trivial rfl oM c a d.size _ b (az z) (ae z rfl) U
 have Y:=AnyZ.sorted_in Tryz.UJ Fence.wide 4 trivial trivial trivial trivial rfl oM (Tryz.WI _) (enters_of Tryz.func301 kR rfl) 302 #[RK c] trivial
  (enters_of Tryz.func302 kR rfl) _ _ (by rw[C];unfold maxLen;omega) (by rw[C];exact y) b X
 refine((callsIn_wide (n:=4)).1 Y).mono ?_;rintro P Z ⟨a0,l,rfl,hS,q,a7,t⟩;have E:l.mergeSort (λn u=>decide (n<=u))=(tI (f9.map (·.1))).map λn=>n.data.toList:=by rw[Pw];exact Go.mergeSort_of_perm (hS.trans V)
 have a8:l.length=(tI (f9.map (·.1))).length:=by
  have:=Zj List.length E;simpa using this
 have a1:((l.mergeSort (λn u=>decide (n<=u))).map encStr)=(tI (f9.map (·.1))).map Value.string:=by
  rw[E,List.map_map];refine List.map_congr_left λn _=>?_;show Value.string ⟨n.data.toList.toArray⟩=Value.string n;simp
 rw[a1]at q;have hv:∃o v,a0= .slice o l.length v:=by
  rcases q.2 with⟨rfl,h0⟩|⟨g',w,x,rfl,_⟩
  ·exact⟨none,0,by rw[h0]⟩
  ·exact⟨_,_,rfl⟩
 obtain⟨o,v,rfl⟩:=hv;have H:∀j,aI o=some j->b.heap.size<=j/\j<Z.heap.size:=λj r=>by
  rcases q.2 with⟨e,_⟩|⟨g',w,x,e,a9,a6,_⟩
  ·simp only[XX]at e
   rw[e.1]at r;cases r
  ·simp only[XX]at e
   rw[e.1]at r;simp only[aI,Q1]at r;have:=az a6;omega
 exact Ok.mk ⟨o,_,v,λj=>aI o=some j,rfl,⟨⟨_,λ_=>False,⟨ownsRow_base_a q (Qj _)⟩,cf.VU (λ_ _=>trivial),λ_ i=>i.elim⟩,λ_ i=>i,λj i=>(H j i).2⟩,aj.It t,λj i=>(H j i).1⟩
end
section
open Go.aw
def kS:jt LL 9 Value.string:=ZE Tryz.underlying9
def mF:mZ LL 174 9 213 (.pointer none):=⟨kR,kR⟩
def uF:Tryz.prog.underlying 213=some (.pointer 216):=kR
def ak.room(D:ak):Int:=(D.most:Int)-D.used
def ak.op(D:ak)(n:ak->Int×ak):Int×ak:=if D.dies then(15,D.gone)else n D.cV
def ak.BS(P:ByteArray)(n:ak->bZ->Int×ak)(D:ak):Int×ak:=match au D.files P with
 |none=>(14,D)
 |some a=>n D a
def ak.create(D:ak)(n:ByteArray):Int×ak:=D.op λD=>if dd n then(if(au D.files n).isSome then(16,D)else if 64<=D.files.length then(12,D)else(0,D.fP n ⟨[],0,false⟩))else(1,D)
def ak.append(D:ak)(n:ByteArray)(P:List UInt8):Int×ak:=D.op (ak.BS n λD a=>if(P.length:Int)>D.room then(12,D)else(0,D.fP n {a with bytes:=a.bytes++P}))
def ak.sync(D:ak)(n:ByteArray):Int×ak:=D.op (ak.BS n λD P=>(0,D.fP n (P.cut P.bytes.length)))
def ak.oD(D:ak)(k:ByteArray)(n:Int):Int×ak:=D.op (ak.BS k λD P=>(0,D.fP k (P.cut n)))
def ak.delete(D:ak)(n:ByteArray):Int×ak:=D.op (ak.BS n λD P=>(0,D.wi n))
def ak.rename(D:ak)(n P:ByteArray):Int×ak:=D.op (ak.BS n λD a=>if dd P then(0,(D.wi n).fP P {a with jZ:=true})else(1,D))
def ak.read(D:ak)(k:ByteArray):List UInt8×Int:=if D.dead then([],15)else match au D.files k with
 |none=>([],14)
 |some n=>(n.bytes,0)
def ak.list(D:ak):List ByteArray:=tI (D.files.map (·.1))
def eJ(D:ak):D.cV.files=D.files:=by unfold ak.cV;split<;>rfl
def wm(b:World)(c:Nat)(d:ac)(n:Int×ak)(e:Value)(P:World):Prop:=∃a,e= WP n.1/\aV P c a n.2/\cd d b a P
variable{Y o:Array Value}{x:ByteArray}{e:Int}{d4:Int×ak}{f9 h3:List (ByteArray×Value)}{a3:List (ByteArray×oF)}{u:List UInt8}{a c i:Nat}{a0 f:ac}{d:be}{j:Type}{w:Value}{b k:World}{z:bc}{X:bZ}
def wm.same{D:ak}(n:aV k a f D)(P:aj f b k):wm b a f (e,D) (WP e) k:=⟨f,rfl,n,P,λ_ n=>.inl n⟩
def NT{D:ak}(P:aV b a f D){g:FuncId}{body:ak->Int×ak}(c:enters LL g=true)(d:D.dies=false->∀n,aV n a f D.cV->aj f b n->bn g (o++ #[]++Y) n (Ok (wm n a f (body D.cV)))):
  bn 247 #[RK a,.func (.func g) o Y] b (Ok (wm b a f (D.op body))):=by
 refine Calls.ok (Mo P (e:=(body D.cV).1) (D':=(body D.cV).2) c λe n h i m=>d e n h i) ?_;rintro p q ⟨j,k,r,l⟩;refine⟨j,?_,?_,l⟩
 ·rw[k];unfold ak.op;split<;>rfl
 ·unfold ak.op;split<;>simp_all
def wo{D:ak}(d:aV b a f D){k:ByteArray}{g:FuncId}{body:ak->bZ->Int×ak}(C:enters LL g=true)(E:D.dies=false->∀e j l n,fK e a f D.cV j l->au l k=some n->aj f b e->bn g (o++ #[ptr n.q]++Y) e (Ok (wm e a f (body D.cV n.f)))):
  bn 184 #[RK a,.string k,.func (.func g) o Y] b (Ok (wm b a f (D.op (ak.BS k body)))):=by
 refine Ag (PA.mk λe F V z=>PA.mk λH r W I=>PA.mk λA m X J=>?_);have s:ai b A:=(F.af r).af m;have K:=d.af s;have t:=d.aE;refine⟨_,ae (m.get (r.get z id) id) rfl,PC.ok (NT K (body:=ak.BS k body) kR λL P B p=>?_) ?_⟩
 ·obtain⟨j,l,h⟩:=B.open
  have M:P.heap[b.heap.size]? =_:=p.get (m.get (r.get z id) id) (λi=>by have:=t _ i;omega);have N:P.heap[e.heap.size]? =_:=p.get (m.get I id) (λi=>by have:=t _ i;omega);have O:P.heap[H.heap.size]? =_:=p.get J (λi=>by have:=t _ i;omega);refine vV ⟨_,ae M rfl,a,0,rfl,some j,ae h.head rfl,_,ae N rfl,?_⟩;rcases h.box k with⟨u,v⟩|⟨n,Q,Z,u,v⟩
  ·refine⟨none,λw=>?_,λq c=>?_⟩
   ·have:=eR mF kS (h.map.keep (aj.drewN (S:=λ_=>False) P w) id) k false
    simpa[v]using this
   ·refine AV uF ⟨_,rfl,al.ff rfl (Ok.mk ?_)⟩
    have:ak.BS k body D.cV=(14,D.cV):=by unfold ak.BS;rw[u]
    rw[this];exact wm.same (B.af c.keep) c.keep
  ·refine⟨UV n.q,λw=>?_,λq c=>?_⟩
   ·have:=eR mF kS (h.map.keep (aj.drewN (S:=λ_=>False) P w) id) k false
    simpa[v,ptr]using this
   ·refine AV uF ⟨_,rfl,al.tt rfl ⟨_,ae (c.keep (S:=λ_=>False)|>.get O id) rfl,g,o,Y,rfl,C,?_⟩⟩
    have R:aj f b q:=((s.keep (S:=f)).then p).af c.keep;refine PC.ok (E L q j l n (h.af c.keep) Q R) ?_;rintro S w6 ⟨x,rfl,T,y⟩;have:ak.BS k body D.cV=body D.cV n.f:=by unfold ak.BS;rw[u]
    refine⟨_,rfl,Ok.mk ?_⟩;rw[this];exact⟨x,rfl,T,(cd.mk c.keep λ_ d=>.inl d:cd f P f q).trans y⟩
 ·rintro S P ⟨x,rfl,U,y⟩
  exact⟨_,rfl,Ok.mk ⟨x,rfl,U,(cd.mk s.keep λ_ d=>.inl d:cd f b f A).trans y⟩⟩
def ak.Ok.set{D:ak}(n:D.Ok){a:ByteArray}{c P:bZ}(b:au D.files a=some c)(d:P.bytes.length+D.used<=c.bytes.length+D.most)(e:P.synced<=P.bytes.length):(D.fP a P).Ok:=by
 have f:=cA b;refine⟨n.most,?_,?_,n.tidy.aJ _ _,?_,?_,n.BT,n.BU⟩
 ·have:=yN (l:=D.files) (k:=a) (f:=P)
  rw[b]at this;simp only[Option.map_some,Option.getD_some]at this;show fm (aJ D.files a P)<=D.most;unfold ak.used at d;omega
 ·show(aJ D.files a P).length<=64
  rw[yf (by rw[b];rfl)];exact n.many
 ·intro x j
  rcases gD n.tidy j with rfl|⟨j,_⟩
  ·show dd a=true
   exact n.names _ f
  ·exact n.names x j
 ·intro x j
  rcases gD n.tidy j with rfl|⟨j,_⟩
  ·exact e
  ·exact n.Ud x j
def ak.Ok.del{D:ak}(n:D.Ok)(P:ByteArray):(D.wi P).Ok:=by
 have d:=Jw D.files P;have e:=yO (l:=D.files) (k:=P);have c:=n.fits;have f:=n.many;unfold ak.used at c;exact⟨n.most,by show fm (bR D.files P)<=D.most;omega,by show(bR D.files P).length<=64;omega,n.tidy.bR P,λa b=>n.names a (gU b),λa b=>n.Ud a (gU b),n.BT,n.BU⟩
def ak.Ok.put{D:ak}(n:D.Ok)(b:dd x=true)(c:X.bytes.length+D.used<=D.most)(e:D.files.length<64)(d:X.synced<=X.bytes.length):(D.fP x X).Ok:=by
 refine⟨n.most,?_,?_,n.tidy.aJ _ _,?_,?_,n.BT,n.BU⟩
 ·have:=yN (l:=D.files) (k:=x) (f:=X)
  show fm (aJ D.files x X)<=D.most;unfold ak.used at c;omega
 ·have:=yD D.files x X
  show(aJ D.files x X).length<=64;omega
 ·intro a P
  rcases gD n.tidy P with rfl|⟨P,_⟩
  ·exact b
  ·exact n.names a P
 ·intro a P
  rcases gD n.tidy P with rfl|⟨P,_⟩
  ·exact d
  ·exact n.Ud a P
def yh{l:List (ByteArray×j)}{k:ByteArray}(n:(au l k).isSome=true):(bR l k).length+1=l.length:=by
 induction l with
 |nil=>simp[au]at n
 |cons P l a=>
  obtain⟨c,d⟩:=P;simp only[bR,au]at n⊢;split
  ·rfl
  ·rename_i b
   rw[Zq b]at n;simp[a n]
def yi(P:List (ByteArray×j))(a:ByteArray)(c b:j):aJ (aJ P a c) a b=aJ P a b:=by
 induction P with
 |nil=>simp[aJ]
 |cons d P e=>
  obtain⟨f,g⟩:=d;simp only[aJ]
  by_cases n:(a==f)=true
  ·rw[Zx n,Zx n];simp[aJ]
  ·rw[Zq n,Zq n];simp[aJ,n,e]
def eQ.UL{G:ac}(P:eQ b a G X)(c:∀n,eQ n a G {X with jZ:=true}->aj (·=a) b n->n.heap.size=b.heap.size->z n):PS b ⟨a,0+2,none⟩ (.bool true) z:=by
 obtain⟨i,j,d,k,l,m,o,f⟩:=P.body;refine PS.mk l sM λp g q r=>c p ⟨⟨i,j,d,k,r,m.keep g (λh e s=>f (s▸e)),o,f⟩,P.self,λh e=>by have:=P.aE h e;omega⟩ g q
def ak.Ok.cut{D:ak}(P:D.Ok)(a:au D.files x=some X)(n:Int):(D.fP x (X.cut n)).Ok:=by
 have b:=UK X n;have c:=oE n X.bytes.length;have d:=P.fits;exact P.set a oM (by rw[b];exact Q4 _)
def fK.get{D:ak}(P:fK b a f D c a3){n:oF}(d:au a3 x=some n):au D.files x=some n.f:=by
 rw[P.files];have:=BW (λn:oF=>n.f) a3 x;rw[d]at this;exact this
def mQ(P:Value)(c:World)(e:ai k b)(n:wm b a f d4 P c):∃d:Int,P= WP d/\Ok (wm k a f d4) (.returned (WP d)) c:=by
 obtain⟨g,rfl,h,i⟩:=n;exact⟨_,rfl,Ok.mk ⟨g,rfl,h,(cd.mk e.keep λ_ n=>.inl n:cd f k f b).trans i⟩⟩
def EZ{D:ak}(P:aV b a f D){k:ByteArray}:
  bn 178 #[RK a,.string k] b (Ok (wm b a f (D.sync k))):=by
 refine vP (PC.ok (wo P (k:=k) (g:=242) (body:=λD d=>(0,D.fP k (d.cut d.bytes.length))) kR λv w x y i n c z=>?_) λj l P=>mQ j l (aj.refl b) P);have e:=n.each.each _ (cA c);have g:=n.get c;obtain⟨A,B,m,C,o,p,E,F⟩:=e.body;have q:=p.len dC;refine tf ⟨i.q,0,rfl,_,_,_,ae o rfl,PC.ok (BX e (n.ok.len (cA g))) ?_⟩;rintro _ H ⟨I,rfl,h,r⟩;rw[q]at h;obtain⟨s,t,u⟩:=n.fv c h r (n.ok.cut g _);exact⟨rfl,Ok.mk ⟨s,rfl,t.at,u⟩⟩
def Sn{D:ak}(P:aV b a f D):
  bn 205 #[RK a,.string x,WP e] b (Ok (wm b a f (D.oD x e))):=by
 refine xU (PA.mk λu d v h=>PC.ok (wo (P.af d) (k:=x) (g:=271) (body:=λD i=>(0,D.fP x (i.cut e))) kR λw y z A B n c j=>?_) λk l P=>mQ k l d P);have m:=n.each.each _ (cA c);have g:=n.get c;refine uK ⟨_,ae (j.get h λo=>by have:=P.aE _ o;omega) rfl,PC.ok (BX m (n.ok.len (cA g))) ?_⟩;rintro _ C ⟨E,rfl,p,q⟩;obtain⟨r,s,t⟩:=n.fv c p q (n.ok.cut g _);exact⟨rfl,Ok.mk ⟨r,rfl,s.at,t⟩⟩
def yP{D:ak}(n:aV b a f D):
  bn 124 #[RK a,.string x] b (Ok (wm b a f (D.delete x))):=by
 refine sY (PA.mk λw g y h=>PA.mk λz d A i=>⟨_,ae (d.get h id) rfl,_,ae i rfl,PC.ok (wo ((n.af g).af d) (k:=x) (g:=185) (body:=λD B=>(0,D.wi x)) kR λC m o E F p H j=>?_) λq r n=>mQ q r (g.af d) n⟩);have s:=j.get (d.get h id) λP=>by have:=n.aE _ P;omega
 have t:=j.get i λP=>by have:=n.aE _ P;omega
 refine qB λu k=>?_;have c:=p.af k.keep;have e:ai m u:=k.keep;refine⟨_,ae (e.get s id) rfl,a,0,rfl,some o,ae c.head rfl,x,ae (e.get t id) rfl,Mp mF kS c.map λI v l J=>Ok.mk ⟨f,rfl,(c.drop v l (c.ok.del x)).at,?_,λ_ n=>.inl n⟩⟩;exact e.keep.then (l.mono λK _ P=>by rw[P];exact c.Fr)
def Jy{D:ak}(c:aV b a f D){k e:ByteArray}:
  bn 215 #[RK a,.string k,.string e] b (Ok (wm b a f (D.rename k e))):=by
 refine te (PA.mk λw1 J s1 K=>PA.mk λX o s2 L=>PA.mk λw3 g s3 Y=>⟨_,ae (g.get (o.get K id) id) rfl,_,ae (g.get L id) rfl,PC.ok (wo (((c.af J).af o).af g) (k:=k) (g:=274)
  (body:=λD Z=>if dd e then(0,(D.wi k).fP e {Z with jZ:=true})else(1,D)) kR λhd s t b1 x d M u=>?_) λa0 w' c=>mQ a0 w' ((J.af o).af g) c⟩)
 have h:=u.get (g.get (o.get K id) id) λn=>by have:=c.aE _ n;omega
 have v:=u.get (g.get L id) λn=>by have:=c.aE _ n;omega
 have N:=u.get Y λn=>by have:=c.aE _ n;omega
 have w:=cA M;have y:=d.get M;refine qF ⟨_,ae N rfl,PC.ok wq ?_⟩;rintro _ w5 ⟨rfl,z⟩;refine⟨_,rfl,al.not (al.mk (λp=>λw6 a6=>?_) (λp=>Ok.mk ?_))⟩
 ·have i:ai s w6:=z.af a6.keep
  have q:=d.af i;refine⟨_,ae (i.get h id) rfl,a,0,rfl,some t,ae q.head rfl,_,ae (i.get v id) rfl,Mp mF kS q.map λw7 a7 A b8=>λB C=>?_⟩;have a8:=q.drop a7 A (q.ok.del k);have E:=a8.af C.keep;have O:∀P,P=t->f P:=λP n=>by rw[n];exact d.Fr
  have F:aj f s B:=(i.keep.then (A.mono λP _ n=>O P n)).af C.keep;have Q:∀{P:Nat} {R:Obj},s.heap[P]? =some R->b.heap.size<=P->B.heap[P]? =some R:=λn b9=>F.get n λhF=>by have:=c.aE _ hF;omega
  have j:=d.Jv _ w;have S:eQ B (oF.q x) (oF.G x) (oF.f x):=(((d.each.each _ w).keep i λ_ _ c=>c).keep A λP n=>(j P n).2.2).keep C.keep λ_ _ c=>c;have a1:b.heap.size<=X.heap.size:=oM
  refine⟨_,ae (Q h (Q4 _)) rfl,a,0,rfl,some t,ae E.head rfl,e,ae (Q N a1) rfl,dG mF kS E.map λw9 a9 H c2=>⟨x.q,0,rfl,?_⟩⟩;have b0:=d.ok.fits;have T:=yO (l:=D.cV.files) (k:=k);rw[y]at T;simp only[Option.map_some,Option.getD_some]at T;have b6:=yh (l:=D.cV.files) (k:=k) (by rw[y];rfl);have b7:=d.ok.many;have a2:=d.ok.Ud _ (cA y);have U:∀l:bZ,l.bytes=x.f.bytes->l.synced=x.f.synced->((D.cV.wi k).fP e l).Ok:=λl h v=>(d.ok.del k).put p (by
   show l.bytes.length+fm (bR D.cV.files k)<=D.cV.most;unfold ak.used at b0;rw[h];omega) (by show(bR D.cV.files k).length<64;omega) (by rw[h,v];exact a2)
  have b2:=E.put (q:=x.q) (G':=x.G) a9 H S (λa3 hy c3 P n b3=>by
   obtain⟨b4,b5⟩:=He d.each.tidy hy;exact d.each.apart _ w a3 b4 (λI=>b5 I.symm) P n b3) (λP n=>(j P n).2) (U x.f rfl rfl)
  have V:eQ w9 x.q x.G x.f:=S.keep H λP n=>(j P n).2.2;refine V.UL λc4 a4 a5 c0=>Ok.mk ?_;obtain⟨F',m,W⟩:=b2.fv (k:=e) (x:=⟨x.q,x.G,x.f⟩) (by rw[bE];simp) a4 ⟨a5.mono λP _ n=>n▸V.self,λ_ c=>.inl c⟩ (by
   unfold ak.fP;simp only[yi];exact U {x.f with jZ:=true} rfl rfl)
  rw[p,Zx rfl];have I:((D.cV.wi k).fP e x.f).fP e {x.f with jZ:=true}=(D.cV.wi k).fP e {x.f with jZ:=true}:=by
   unfold ak.fP;simp only[yi]
  refine⟨F',rfl,by rw[<-I];exact m.at,⟨?_,λP n=>?_⟩⟩
  ·exact(F.then (H.mono λP _ n=>O P n)).then (W.keep.mono λP _ n=>n.elim id λc=>(j P c).1)
  ·rcases W.new P n with(r|r)|r
   ·exact .inl r
   ·exact .inl (j P r).1
   ·have:=F.size;exact .inr oM
 ·rw[p];exact⟨f,rfl,(d.af z).at,z.keep,λ_ c=>.inl c⟩
def yQ{D:ak}(n:aV b a f D):
  bn 186 #[RK a,.string x] b (Ok (wm b a f (D.create x))):=by
 refine td (PA.mk λw1 H s1 I=>PA.mk λw2 m s2 N=>⟨_,ae (m.get I id) rfl,PC.ok (NT ((n.af H).af m) (g:=249)
  (body:=λD=>if dd x then(if(au D.files x).isSome then(16,D)else if 64<=D.files.length then(12,D)else(0,D.fP x ⟨[],0,false⟩))else(1,D)) kR λhd r O s=>?_) λQ R n=>mQ Q R (H.af m) n⟩)
 obtain⟨e,t,P⟩:=O.open;have u:=s.get (m.get I id) λc=>by have:=n.aE _ c;omega
 have v:=s.get N λc=>by have:=n.aE _ c;omega
 refine qE ⟨_,ae v rfl,PC.ok wq ?_⟩;rintro _ w ⟨rfl,g⟩;refine⟨_,rfl,al.not (al.mk (λh=>?_) (λh=>Ok.mk ?_))⟩
 ·have y:=P.af g
  have J:∀k,(Instr.lookup 174 (.map (some e)) (.string x) false).run LL (w.drewN k)= .ok ((au (t.map eK) x).getD (.pointer none)) (w.drewN k):=λk=>by
   have:=eR mF kS (y.map.keep (aj.drewN (S:=λ_=>False) w k) id) x false;simpa using this
  have S:∃i:be,(au (t.map eK) x).getD (.pointer none)= .pointer i/\i.isSome=(au D.cV.files x).isSome:=by
   rcases P.box x with⟨z,A⟩|⟨T,b0,bm,z,A⟩
   ·exact⟨none,by rw[A];rfl,by rw[z];rfl⟩
   ·exact⟨UV T.q,by rw[A];rfl,by rw[z];rfl⟩
  obtain⟨i,U,B⟩:=S;rw[U]at J;refine⟨_,ae (g.get u id) rfl,a,0,rfl,some e,ae y.head rfl,x,ae (g.get v id) rfl,i,J,i.isSome,λk=>lM uF _ _ i _,λV C=>al.mk (λW=>Ok.mk ?_) (λK=>?_)⟩
  ·rw[h,Zx rfl,Zx (by rw[<-B];exact W)]
   exact⟨f,rfl,(y.af C.keep).at,ai.keep (g.af C.keep),λ_ n=>.inl n⟩
  ·have o:ai r V:=g.af C.keep
   have E:=P.af o;have a8:(t.map eK).length=D.cV.files.length:=by rw[P.files];simp
   refine⟨_,ae (o.get u id) rfl,a,0,rfl,some e,ae E.head rfl,WJ mF E.map ⟨_,rfl,al.dec (λa9=>Ok.mk ?_) (λb3=>λl X=>?_)⟩⟩
   ·rw[h,Zx rfl,Zq (by rw[<-B,K];simp),Zx oM]
    exact⟨f,rfl,E.at,o.keep,λ_ n=>.inl n⟩
   ·have j:ai r l:=o.af X.keep
    have p:=P.af j;have b4:=P.map.lt;have b5:=az P.head;have a7:b.heap.size<=r.heap.size:=by have:=s.size;omega
    have L:∀d,b.heap.size<=d->d≠e:=λd c a2=>by have:=n.aE e P.Fr;omega
    refine⟨(·=e),L _ (Q4 _),_,ae (j.get u id) rfl,a,0,rfl,P.pr,some e,ae p.head rfl,L _ oM,x,ae (j.get v id) rfl,PA.mk λM q s7 Y=>⟨q.keep,dG mF kS (p.af q).map λw8 Z F b6=>⟨F,Ok.mk ?_⟩⟩⟩;have a3:=p.af q;have a0:eQ M l.heap.size (·=l.heap.size) ⟨[],0,false⟩:=⟨⟨none,0,0,λ_=>False,Y,aS.nil M,λ_ n=>n.elim,λn=>n⟩,rfl,λd c=>oM⟩
    have a4:(D.cV.fP x ⟨[],0,false⟩).Ok:=P.ok.put h (by have:=P.ok.fits;simpa using this) oM (Q4 _);have a5:=a3.put (q:=l.heap.size) (G':=(·=l.heap.size)) Z F a0 (λa1 hy _ d c a6=>by have:=(p.each.each a1 hy).aE d a6;omega) (λd c=>by have:=j.size;omega) a4;rw[h,Zx rfl,Zq (by rw[<-B,K];simp),Zq oM];refine⟨_,rfl,a5.at,⟨(j.keep.af q).then (F.mono λd _ c=>by rw[c];exact P.Fr),λd c=>c.imp id λn=>by have:=j.size;omega⟩⟩
 ·rw[h]
  exact⟨f,rfl,(P.af g).at,g.keep,λ_ n=>.inl n⟩
def ir(n:List (ByteArray×oF)):Nat:=(n.map λP=>P.2.f.bytes.length).sum
def E_(n:List (ByteArray×oF)):ir n=fm (n.map wj):=by unfold ir fm;rw[List.map_map];rfl
def yj{left:List (ByteArray×oF)}(c:left.map eK=f9++(x,w)::h3):
  ∃n P a,left=n++(x,P)::a/\f9=n.map eK/\h3=a.map eK/\w=ptr P.q:=by
 obtain⟨n,j,d,e,f⟩:=List.map_eq_append_iff.1 c;obtain⟨g,a,h,b,i⟩:=List.map_eq_cons_iff.1 f;obtain⟨k,P⟩:=g;simp only[eK,Prod.mk.injEq]at b;obtain⟨rfl,rfl⟩:=b;exact⟨n,P,a,by rw[d,h],e.symm,i.symm,rfl⟩
def PB{D:ak}(g:aV b a f D):
  bn 241 #[RK a] b (Ok λj h=>j= WP D.room/\ai b h):=by
 obtain⟨k,P,c⟩:=g.open;have Q:=c.ok.most;have l:=c.ok.fits;unfold ak.used at l;rw[c.files,<-E_]at l;refine vT ⟨a,0,rfl,_,ae c.head rfl,a,0,rfl,some k,ae c.head rfl,mapRange mF c.map λR v w S=>?_⟩;refine⟨λm o h=>∃left:List (ByteArray×oF),cW h b.heap.size k Value.string (P.map eK) (left.map eK)/\m=left.length/\o=(D.most:Int)-ir P+ir left/\ir left<=ir P/\ai b h/\∀n∈left,n∈P,
  ⟨_,P,v,rfl,oM,Q4 _,w,λ_ g=>g⟩,?_⟩
 rintro m o T U ⟨left,x,rfl,rfl,V,p,q⟩;refine oG x (λy=>.inl ⟨rfl,Ok.mk ⟨?_,p⟩⟩) λi j W X r z A B C Y=>.inr ⟨_,_,rfl,rE B ?_⟩
 ·have:left=[]:=by simpa using y
  subst this;simp only[ir,List.map_nil,List.sum_nil,ak.room,ak.used];rw[c.files,<-E_];simp[ir]
 ·obtain⟨e,n,d,rfl,rfl,rfl,rfl⟩:=yj z
  have E:(i,n)∈P:=q _ sM;have s:ai b r:=p.new C λd Z=>.inr oM;have F:eQ r n.q n.G n.f:=(c.each.each _ E).keep s λ_ _ g=>g;obtain⟨H,t,I,F0,J,K,h3,h4⟩:=F.body;have L:=K.len dC;have M:ir (e++(i,n)::d)=ir (e++d)+n.f.bytes.length:=by simp[ir];omega
  have N:PP .i64 ((D.most:Int)-ir P+ir (e++(i,n)::d)-((t:Nat):Int))=(D.most:Int)-ir P+ir (e++d):=by
   rw[wrap_i64 cS,L,M];omega
  refine⟨_,_,rfl,n.q,0,rfl,H,t,I,ae J rfl,(e++d).length,sM,e++d,?_,rfl,N,oM,s,λO u=>q O ?_⟩
  ·rw[Q3];exact A
  ·simp only[Q6,Q2]at u⊢;exact u.imp id .inr
def yR{D:ak}(h:aV b a f D)(P:Row gC 1 b a0 d c u)(X:d=none->c=0/\i=0)(w:∀n,a0 n->n<b.heap.size/\¬f n):
  bn 176 #[RK a,.string x,.slice d c i] b (Ok (wm b a f (D.append x u))):=by
 have K:=P.len;have Y:=P.eO;unfold aP at Y;refine sZ (PA.mk λw1 y s1 L=>PA.mk λw2 k s2 Z=>⟨_,ae (k.get L id) rfl,PC.ok (wo ((h.af y).af k) (k:=x) (g:=240)
  (body:=λD M=>if(u.length:Int)>D.room then(12,D)else(0,D.fP x {M with bytes:=M.bytes++u})) kR λhd r a1 b6 e g z s=>?_) λa2 w' h=>mQ a2 w' (y.af k) h⟩)
 have e1:=s.get (k.get L id) λP=>by have:=h.aE _ P;omega
 have N:=s.get Z λP=>by have:=h.aE _ P;omega
 have a4:Row gC 1 r a0 d c u:=((P.af y).af k).keep s λn P=>(w n P).2;have A:=g.get z;refine qC λw4 t=>⟨λ_=>False,id,d,c,i,ae (t.keep (S:=λ_=>False)|>.get N id) rfl,_,ae (t.keep (S:=λ_=>False)|>.get e1 id) rfl,PC.ok (PB (g.af t.keep).at) ?_⟩
 rintro _ w5 ⟨rfl,O⟩;have B:ai r w5:=(bW.keep t).then O;refine⟨_,rfl,O,al.dec (λa5=>Ok.mk ?_) (λa6=>λl a7=>?_)⟩
 ·rw[Zx (by rw[<-K];exact a5)]
  exact⟨f,rfl,(g.af B).at,B.keep,λ_ h=>.inl h⟩
 ·have m:ai r l:=B.af a7.keep
  have C:=g.af m;have Q:=cA z;have E:eQ l e.q e.G e.f:=C.each.each _ Q;obtain⟨v,R,fc,F0,F,o,H,S⟩:=E.body;have b7:=o.len dC;have b8:e.f.bytes.length<=262144:=g.ok.len (cA A);have a8:∀n,e.G n->f n/\n≠a/\n≠a1:=C.Jv _ Q;refine⟨e.q,0,rfl,v,R,fc,ae F rfl,d,c,i,ae (m.get N id) rfl,?_⟩;have a3:∀n,a0 n->n<l.heap.size/\aI v≠some n:=λn P=>⟨by have:=(w n P).1;have:=s.size;have:=m.size;omega,λj=>(w n P).2 (a8 n (H n (o.self n j))).1⟩
  have b9:D.cV.room<=262144:=by have:=g.ok.most;unfold ak.room;omega
  refine AD o ue (a4.af m) X a3 cw (by unfold maxLen;omega) λp c' w7 F' I J _ T=>?_;have hq:aI v≠some e.q:=λj=>S (o.self _ j);have c0:=az F;have q:aI p≠some e.q:=λj=>by rcases T _ j with h|h;exact S h;omega
  refine⟨_,_,_,rfl,e.q,0,rfl,PS.mk (J.get F hq) sM λU V s8 g8=>Ok.mk ?_⟩;have W:¬((u.length:Int)>D.cV.room):=by rw[<-K];exact a6
  rw[Zq W];have a9:∀n,aI v=some n->e.G n:=λn j=>H n (o.self n j);have b0:eQ U e.q (λn=>n=e.q\/aI p=some n) {e.f with bytes:=e.f.bytes++u}:=
   ⟨⟨p,R+c,c',λn=>aI p=some n,g8,I.alone.keep V (λn P b1=>q (by rw[<-b1];exact P)),λn P=>.inr P,q⟩,.inl rfl,by
    rintro n (rfl|P)
    ·have:=J.size;omega
    ·have:=I.aE n (I.self n P);omega⟩
  have b2:cd e.G l (λn=>n=e.q\/aI p=some n) U:=⟨(J.mono λn _ P=>a9 n P).then (V.mono λn _ P=>P▸E.self),by
   rintro n (rfl|P)
   ·exact .inl E.self
   ·exact(T n P).imp (λh=>H n h) id⟩
  have b3:(D.cV.fP x {e.f with bytes:=e.f.bytes++u}).Ok:=g.ok.set A (by
   unfold ak.room at W;simp only[QX];omega) (by have:=g.ok.Ud _ (cA A);simp only[QX];show e.f.synced<=_;have h':e.f.synced<=e.f.bytes.length:=this;omega)
  obtain⟨F2,b4,b5⟩:=C.fv z b0 b2 b3;exact⟨F2,rfl,b4.at,(cd.mk m.keep λ_ h=>.inl h:cd f r f l).trans b5⟩
def yk{D:ak}(g:aV b a f D):
  bn 198 #[RK a,.string x] b (Ok λl m=>∃i,l= .tuple #[i,WP (D.read x).2]/\qh gC 5 b (D.read x).1 i m):=by
 obtain⟨j,C,P⟩:=g.open;have n:qh gC 5 b [] (.slice none 0 0) b:=⟨none,0,0,λ_=>False,rfl,aS.nil b,aj.refl _,λ_ g=>g.elim⟩
 rcases P.box x with⟨e,h⟩|⟨d,E,o,e,h⟩
 ·refine mN ⟨a,0,rfl,some j,ae P.head rfl,AF mF kS P.map ?_⟩
  rw[h];refine⟨_,rfl,a,0,rfl,_,ae P.head rfl,al.mk (λc=>Ok.mk ?_) (λc=>jL uF ⟨_,rfl,al.tt rfl (Ok.mk ?_)⟩)⟩
  ·unfold ak.read;rw[c,Zx rfl];exact⟨_,rfl,n⟩
  ·unfold ak.read;rw[c,Zq sM,e];exact⟨_,rfl,n⟩
 ·refine mN ⟨a,0,rfl,some j,ae P.head rfl,AF mF kS P.map ?_⟩
  rw[h];refine⟨_,rfl,a,0,rfl,_,ae P.head rfl,al.mk (λc=>Ok.mk ?_) (λc=>jL uF ⟨_,rfl,al.ff rfl ?_⟩)⟩
  ·unfold ak.read;rw[c,Zx rfl];exact⟨_,rfl,n⟩
  ·have p:eQ b d.q d.G d.f:=P.each.each _ o
   obtain⟨q,r,s,F,t,k,H,I⟩:=p.body;have J:d.f.bytes.length<=262144:=P.ok.len (cA e);refine⟨d.q,0,rfl,q,r,s,ae t rfl,PC.ok (lV (k.row dC cw) k.aE) ?_⟩;rintro _ K ⟨u,v,w,y,rfl,z,A,B⟩;unfold ak.read;rw[c,Zq sM,e];exact⟨_,_,_,rfl,Ok.mk ⟨_,rfl,u,v,w,y,rfl,z,A,B⟩⟩
def yl{D:ak}(j:aV b a f D):
  bn 181 #[RK a] b (Ok (qh Px 9 b D.list)):=by
 obtain⟨g,h,n⟩:=j.open;have z:=n.ok.many;have A:h.length=D.files.length:=by rw[n.files];simp
 refine vQ ⟨a,0,rfl,some g,ae n.head rfl,PC.ok (φ:=λk d=>k= .func (.func 302) #[] #[RK b.heap.size]/\ai b d/\d.heap.size=b.heap.size+1/\
  d.heap[b.heap.size]? =some (.cells #[.map (some g)] 174 (0,0))) (d_ (PA.mk λl P i e=>Ok.mk ⟨rfl,P,i,e⟩)) ?_⟩
 rintro _ l ⟨rfl,P,i,e⟩;refine⟨_,rfl,PC.ok (Ao (n.map.af P) (λB m=>?_) (by rw[Q8];unfold aP;omega) e) ?_⟩
 ·obtain⟨c,o,rfl⟩:=Xk.1 m
  have:=n.ok.names (wj c) (by rw[n.files];exact Xk.2 ⟨c,o,rfl⟩);unfold dd at this;simp only[QK,Zk]at this;have C:c.1.size<=16:=this.1.2;show c.1.size<=maxLen;unfold maxLen;omega
 ·rintro _ E ⟨p,q,r,s,rfl,t,u,v⟩
  refine⟨_,_,_,rfl,Ok.mk ⟨p,q,r,s,rfl,?_,P.af u,λw x=>by have:=v w x;omega⟩⟩;have y:tI ((h.map eK).map (·.1))=D.list:=by unfold ak.list;rw[n.files,List.map_map,List.map_map];rfl
  rw[<-y];exact t
def Jz{n:List (ByteArray×j)}(P:Tidy n)(a:ByteArray):bR n a=n.filter λb=>b.1 !=a:=by
 induction n with
 |nil=>rfl
 |cons f n e=>
  obtain⟨b,k⟩:=f;unfold Tidy at P e;simp only[QY,List.nodup_cons]at P;unfold bR
  by_cases c:(a==b)=true
  ·rw[Zx c]
   have g:a=b:=eq_of_beq c;subst g;rw[List.filter_cons_of_neg sM];exact(List.filter_eq_self.2 λh i=>by
    simp only[bne_iff_ne,ne_eq];intro d;exact P.1 (d▸Xk.2 ⟨h,i,rfl⟩)).symm
  ·rw[Zq c,e P.2,List.filter_cons_of_pos]
   simp only[bne_iff_ne,ne_eq];intro d;exact c (by rw[d];simp)
def stays(left:List (ByteArray×oF))(n:ByteArray×oF):Bool:=n.2.f.jZ||left.any λP=>P.1==n.1
def Ap(J:bX b a Value.string (a3.map eK))(l:EY b a3)(K:∀n∈a3,∀c,n.2.G c->c≠a):
  bn 120 #[.map (some a),.func (.func 121) #[] #[]] b
   (Ok λo h=>o= .tuple #[]/\bX h a Value.string ((a3.filter λn=>n.2.f.jZ).map eK)/\aj (·=a) b h):=by
 have L:enters LL 121=true:=kR
 refine dq (mapRange mF J λw1 M N s1=>?_);refine⟨λu h=>∃left:List (ByteArray×oF),cW h b.heap.size a Value.string ((a3.filter (stays left)).map eK) (left.map eK)/\u=left.length/\aj (·=a) b h/\(∀n∈left,n∈a3)/\Tidy left,
  ⟨_,a3,?_,rfl,N.keep,λ_ O=>O,l.tidy⟩,?_⟩
 ·have i:a3.filter (stays a3)=a3:=List.filter_eq_self.2 λn m=>by
   unfold stays;rw[Bool.or_eq_true];exact .inr (List.any_eq_true.2 ⟨n,m,sM⟩)
  rw[i];exact M
 ·rintro u a0 w2 ⟨left,p,rfl,v,w,j⟩
  refine oG p (λk=>.inl ⟨rfl,Ok.mk ⟨rfl,?_,v⟩⟩) λd o l1 l2 r Q x R S s3=>.inr ⟨_,_,rfl,rE R ?_⟩
  ·have:left=[]:=by simpa using k
   subst this;have i:(a3.filter (stays []))=a3.filter λn=>n.2.f.jZ:=List.filter_congr λn _=>by simp[stays]
   rw[i]at p;exact p.map
  ·obtain⟨e,n,c,rfl,rfl,rfl,rfl⟩:=yj Q
   have m:(d,n)∈a3:=w _ sM;have a6:b.heap.size≠a:=p.ne;have s:aj (·=a) b r:=v.new S λc y=>.inr oM;have T:eQ r n.q n.G n.f:=(l.each _ m).keep s λc y=>K _ m c y;obtain⟨fa,fn,fc,F0,q,z,h3,h4⟩:=T.body;have A:d∉(e++c).map (·.1):=by
    unfold Tidy at j;rw[Q3,QY]at j;rw[Q3];intro U;have V:=(List.perm_middle (a:=d) (l₁:=e.map (·.1)) (l₂:=c.map (·.1))).nodup_iff.1 j;exact(List.nodup_cons.1 V).1 U
   have B:∀P∈a3,P.1≠d->stays (e++(d,n)::c) P=stays (e++c) P:=λP f g=>by
    unfold stays
    congr 1
    have:(d==P.1)=false:=beq_false_of_ne (Ne.symm g);simp[List.any_append,this]
   have C:∀P∈a3,P.1=d->P=(d,n):=λP f k=>by
    have q:=rC l.tidy (k:=P.1) (v:=P.2) f;have z:=rC l.tidy (k:=d) (v:=n) m;rw[k,z]at q;exact Prod.ext k (XJ q).symm
   have W:(e++c).any (λP=>P.1==d)=false:=by
    rw[List.any_eq_false];intro P f k;exact A (Xk.2 ⟨P,f,eq_of_beq k⟩)
   have E:Tidy (e++c):=by
    unfold Tidy at j⊢;rw[Q3,QY]at j;rw[Q3];exact(List.nodup_cons.1 ((List.perm_middle (a:=d) (l₁:=e.map (·.1)) (l₂:=c.map (·.1))).nodup_iff.1 j)).2
   have F:∀P∈e++c,P∈a3:=λP f=>w P (by simp only[Q6,Q2]at f⊢;exact f.imp id .inr);have H:(e++c).length<(e++(d,n)::c).length:=sM
   refine⟨_,_,rfl,_,_,_,rfl,L,PC.ok (φ:=λo h=>o= .bool (!n.f.jZ)/\h=r) (rk ⟨n.q,0,rfl,_,ae q rfl,Ok.mk ⟨rfl,rfl⟩⟩) ?_⟩;rintro _ _ ⟨rfl,rfl⟩;refine⟨_,rfl,al.not (al.mk (λt=>⟨_,H,e++c,?_,rfl,s,F,E⟩) (λt=>?_))⟩
   ·have i:a3.filter (stays (e++(d,n)::c))=a3.filter (stays (e++c)):=List.filter_congr λP f=>by
     by_cases g:P.1=d
     ·rw[C P f g];simp[stays,t]
     ·exact B P f g
    rw[Q3,<-i];exact x
   ·refine Sp mF kS x (by rw[<-Q3];simpa[eK,Function.comp_def]using A) λw4 I X s4=>⟨_,H,e++c,?_,rfl,s.then X,F,E⟩
    have i:bR ((a3.filter (stays (e++(d,n)::c))).map eK) d=(a3.filter (stays (e++c))).map eK:=by
     have Y:bR ((a3.filter (stays (e++(d,n)::c))).map eK) d=(bR (a3.filter (stays (e++(d,n)::c))) d).map eK:=(BV (λn:oF=>ptr n.q) _ d).symm;have Z:Tidy (a3.filter (stays (e++(d,n)::c))):=List.Nodup.sublist (List.Sublist.map _ List.filter_sublist) l.tidy;rw[Y,Jz Z,List.filter_filter]
     congr 1
     refine List.filter_congr λP f=>?_
     by_cases g:P.1=d
     ·rw[C P f g]
      simp only[stays,t,W,Bool.or_false,bne_self_eq_false,Bool.false_and]
     ·rw[B P f g]
      have:(P.1 !=d)=true:=by simpa using g
      rw[this,Bool.true_and]
    rw[i,<-Q3]at I;exact I

import Derived.Test.YtblabbpipmodgaaGreatDoorKq9
import Derived.Maps.RangeRun
import Derived.Laws.RangeAny
import Derived.Laws.Runes
import Derived.Lib.AppendZeros
import Derived.StringKeys
set_option maxHeartbeats 4000000
set_option linter.all false
set_option maxRecDepth 100000
open Go.IntKind renaming wrap→XG
namespace Go.aw
open Go
instance:LawfulBEq ByteArray where
 eq_of_beq:=λ{a b} h=>ByteArray.ext (eq_of_beq (show(a.data==b.data)=true from h))
 rfl:=λ{a}=>show(a.data==a.data)=true from by simp
variable{v:ByteArray}{a:Nat}{h:Program}{A b6 f4 g o:TypeId}{t:Value}{m s:XR}
def Ug(P:h.underlying g=some .string):gO h g Value.string:=
 gO.flat P (λa c=>rfl) (λb d e f=>by simp[Instr.checkKey,run_underlying P]) λb a=>by simp[Instr.sameBits]
structure cE {κ:Type} (w:World) (it r:Nat) (enc:κ->Value) (l left:List (κ×Value)):Prop where
 at':∃es clock since seen c0,w.heap[r]? =some (.map es clock)/\es.toList.map (λe=>(e.key,e.val))=l.map (λp=>(enc p.1,p.2))/\
  (∀e∈es.toList,e.born<clock)/\(es.toList.map (·.born)).Nodup/\w.heap[it]? =some (.mapIter (some r) since seen c0)/\(∀x∈es.toList,x.born<since)/\since<=c0/\since<=clock/\
  (leftOf es seen).toList.map (λe=>(e.key,e.val))=left.map (λp=>(enc p.1,p.2))
 tidy:Tidy l
structure Rp {κ:Type} (w:World) (it r:Nat) (enc:κ->Value) (k:κ) (v:Value):Prop where
 at':∃(es:Array MapEntry) (clock since:Nat) (seen:Array Nat) (e:MapEntry),w.heap[r]? =some (.map es clock)/\w.heap[it]? =some (.mapIter (some r) since (seen.push e.born) clock)/\e∈es.toList/\(es.toList.map (·.born)).Nodup/\e.key=enc k/\e.val=v
section
variable {κ:Type} {w w':World} {it r:Nat} {enc:κ->Value} {l left:List (κ×Value)} {S:XN}
def cE.af(c:cE w it r enc l left)(d:ak S w w')(e:¬S it)(f:¬S r):cE w' it r enc l left:=by
 obtain⟨g,P,a,seen,h,i,j,k,m,n,b⟩:=c.at';exact⟨⟨g,P,a,seen,h,d.get i f,j,k,m,d.get n e,b⟩,c.tidy⟩
def cE.ah(P:cE w it r enc l left)(a:ai w w'):cE w' it r enc l left:=P.af a id id
def cE.map(b:cE w it r enc l left):bF w r enc l:=by
 obtain⟨d,P,a,seen,i,e,f,g,h,j,c⟩:=b.at';exact⟨⟨d,P,e,f,g,h⟩,b.tidy⟩
def cE.ne(d:cE w it r enc l left):it≠r:=by
 obtain⟨f,P,a,seen,g,e,h,i,j,b,c⟩:=d.at';rintro rfl;rw[e]at b;cases b
def cE.lt(c:cE w it r enc l left):it<w.heap.size:=by
 obtain⟨e,P,a,seen,f,g,h,i,j,d,b⟩:=c.at';exact ay d
def mapRange(i:lH h g o A t)(a:bF w r enc l)(j:∀w',cE w' w.heap.size r enc l l->ai w w'->w'.heap.size=w.heap.size+1->m (XL w.heap.size) w'):aE h (Instr.range g (.map (some r))) w m s:=by
 obtain⟨b,P,c,d,e,k⟩:=a.at';have f:ai w (w.alloc (.mapIter (some r) P #[] P)):=ak.alloc w _;refine aE.mk (run_range_map w g o A r b P i.under c) (j _ ⟨⟨b,P,P,#[],P,f.get c id,d,e,k,heap_alloc_new w _,e,Q4 _,Q4 _,?_⟩,a.tidy⟩ f sM);rw[<-d]
 congr 2
 unfold leftOf;simp
def lW{P:Program}(q:cE w it r enc l left)(U:left=[]->m (.tuple #[.bool false]) w)(V:∀t u A B w',left=A++(t,u)::B->cE w' it r enc l (A++B)->Rp w' it r enc t u->ak (·=it) w w'->w'.heap.size=w.heap.size->m (.tuple #[.bool true,enc t,u]) w'):
  aE P (Instr.next (XL it) false g) w m s:=by
 have W:=q.ne;obtain⟨e,a,c,seen,C,E,X,Y,v,F,H,Z,I,n⟩:=q.at';rcases run_next_at (P:=P) w g it r c C seen e a F E H Z with⟨hz,x⟩|⟨d,J,h,K,x⟩
 ·refine aE.mk x (U ?_)
  have:(leftOf e seen).toList=[]:=by rw[Array.eq_empty_of_size_eq_zero hz]
  rw[this]at n;simpa using n.symm
 ·have y:ai w h:=by rcases K with rfl|rfl;exact ak.refl _;exact ak.drewN w 1
  have b0:h.heap.size=w.heap.size:=by rcases K with rfl|rfl<;>rfl
  have a0:h.heap[it]? =some (.mapIter (some r) c seen C):=y.get F id;have b1:h.heap[r]? =some (.map e a):=y.get E id;have a1:=ay a0
  let p:=ChangeMaps.setBlock h it (.mapIter (some r) c (seen.push d.born) a)
  have L:ak (·=it) h p:=ak.setObj h it _;have M:p.heap[it]? =some (.mapIter (some r) c (seen.push d.born) a):=cF h it _ a1;have N:p.heap[r]? =some (.map e a):=L.get b1 (λd=>W d.symm);have a2:=mem_left J;obtain⟨b,i,O⟩:=List.getElem_of_mem J;have Q:b<left.length:=by have:=Zj List.length n;simp at this;simp at i;omega
  have R:(d.key,d.val)=(enc left[b].1,left[b].2):=by
   have:=Zj (λa3=>a3[b]?) n;simp only[Q9]at this;rw[Qq i,Qq Q,O]at this;simpa using this
  have a4:left=left.take b++(left[b].1,left[b].2)::left.drop (b+1):=by
   have:=(ZX b left).symm;rw[X4 Q]at this;exact this
  have a5:(leftOf e (seen.push d.born)).toList=(leftOf e seen).toList.eraseIdx b:=by
   have k:((leftOf e seen).toList.map (·.born)).Nodup:=by
    unfold leftOf;rw[Array.toList_filter];exact v.sublist (List.Sublist.map _ List.filter_sublist)
   have hf:(leftOf e (seen.push d.born)).toList=(leftOf e seen).toList.filter (λj=>j.born !=d.born):=by
    unfold leftOf;rw[Array.toList_filter,Array.toList_filter,List.filter_filter]
    congr 1
    funext j
    rw[contains_push]
    cases seen.contains j.born<;>cases hx:(j.born==d.born)<;>simp only[bne,hx]<;>rfl
   rw[hf];have z:∀(f:List MapEntry) (b:Nat) (i:b<f.length),(f.map (·.born)).Nodup->f.filter (λj=>j.born !=f[b].born)=f.eraseIdx b:=by
    intro f
    induction f with
    |nil=>intro b i;simp at i
    |cons j f ih=>
     intro b i k;simp only[QY,List.nodup_cons]at k
     cases b with
     |zero=>
      simp only[List.getElem_cons_zero,List.eraseIdx_zero,List.tail_cons];rw[List.filter_cons_of_neg sM];apply List.filter_eq_self.2;intro a6 hy;simp only[bne_iff_ne,ne_eq];intro d;exact k.1 (d▸Xk.2 ⟨a6,hy,rfl⟩)
     |succ b=>
      simp only[List.getElem_cons_succ,List.eraseIdx_cons_succ];have o:b<f.length:=by simpa using i
      rw[List.filter_cons_of_pos,ih b o k.2];simp only[bne_iff_ne,ne_eq];intro d;exact k.1 (d▸Xk.2 ⟨f[b],XY o,rfl⟩)
   have:=z _ b i k;rw[O]at this;exact this
  have S:d.key=enc left[b].1:=(Prod.mk.inj R).1;have T:d.val=left[b].2:=(Prod.mk.inj R).2;refine aE.mk x ?_;rw[S,T];refine V left[b].1 left[b].2 (left.take b) (left.drop (b+1)) p a4 ⟨⟨e,a,c,seen.push d.born,a,N,X,Y,v,M,H,I,I,?_⟩,q.tidy⟩ ⟨e,a,c,seen,d,N,M,a2.1,v,S,T⟩ ((ai.af y).then L) ?_
  ·rw[a5,map_eraseIdx,n,<-map_eraseIdx]
   congr 1
   rw[List.eraseIdx_eq_take_drop_succ]
  ·show(h.heap.setIfInBounds it _).size=_
   simp[b0]
def oY{b:κ}(c:Rp w it r enc b t)(d:m (.tuple #[enc b,t]) w):aE h (Instr.entry (XL it)) w m s:=by
 obtain⟨e,P,a,seen,f,g,i,j,k,l,n⟩:=c.at';refine aE.mk (run_entry_at w it r a seen e P f i g j k) ?_;rw[l,n];exact d
def Nw[BEq κ][LawfulBEq κ]{d:κ}(J:lH h g o A t)(x:gO h o enc)(y:cE w it r enc l left)(X:d∉left.map (·.1))(K:∀w',cE w' it r enc (bV l d) left->ak (·=r) w w'->w'.heap.size=w.heap.size->m (.tuple #[]) w'):aE h (Builtin.delete_ #[g,b6] f4 #[.map (some r),enc d]) w m s:=by
 have L:=y.ne;obtain⟨a,b,c,seen,M,k,n,N,O,Q,R,S,T,F⟩:=y.at';have z:=iJ x d a.toList l n w;have Y:a.toList.length=l.length:=by have:=Zj List.length n;simpa using this
 have U:=ay k
 cases B:ly l d 0 with
 |none=>
  rw[B]at z;refine aE.mk (w':={w with heap:=w.heap.setIfInBounds r (.map a b)}) ?_ (K _ ⟨⟨_,_,c,seen,M,cF w r _ U,?_,N,O,(ak.setObj w r _).get Q L,R,S,T,F⟩,y.tidy.bV d⟩ (ak.setObj w r _) sM)
  ·simp[Builtin.delete_,run_underlying J.under,c_ k,dj x,z,dN k]
  ·rw[(qj B).2];exact n
 |some e=>
  obtain⟨P,Z⟩:=e;rw[B]at z;obtain⟨_,i,V,W⟩:=mh B;rw[Nat.sub_zero]at i V W;have p:P<a.size:=by
                 have:a.size=l.length:=by simpa using Y
                 omega
  have q:(a.eraseIdxIfInBounds P).toList=a.toList.eraseIdx P:=by simp[Array.eraseIdxIfInBounds,p]
  have a0:(a.toList[P]'(by simpa using p)).key=enc d:=by
   have:=Zj (λC=>C[P]?) n;simp only[Q9,V,Option.map_some]at this;rw[Qq (by simpa using p)]at this;simpa using(Prod.mk.inj (XJ this)).1
  have H:∀j∈(leftOf a seen).toList,j.key≠enc d:=by
   intro j hx u;have:(j.key,j.val)∈left.map (λe=>(enc e.1,e.2)):=by rw[<-F];exact Xk.2 ⟨j,hx,rfl⟩
   obtain⟨C,hq,a1⟩:=Xk.1 this;have a2:enc C.1=enc d:=(Prod.mk.inj a1).1.trans u;exact X (Xk.2 ⟨C,hq,x.inj a2⟩)
  have a3:(leftOf (a.eraseIdxIfInBounds P) seen).toList=(leftOf a seen).toList:=by
   unfold leftOf at H⊢;rw[Array.toList_filter]at H;rw[Array.toList_filter,Array.toList_filter,q];have I:∀(f:List MapEntry) (e:MapEntry->Bool) (P:Nat) (i:P<f.length),e f[P]=false->(f.eraseIdx P).filter e=f.filter e:=by
    intro f e
    induction f with
    |nil=>intro P i;simp at i
    |cons j f ih=>
     intro P i E
     cases P with
     |zero=>
      simp only[List.getElem_cons_zero]at E;simp[E]
     |succ P=>
      simp only[List.getElem_cons_succ]at E;simp only[List.eraseIdx_cons_succ,List.filter_cons];rw[ih P (by simpa using i) E]
   refine I _ _ P (by simpa using p) ?_
   cases a4: !seen.contains (a.toList[P]'(by simpa using p)).born with
   |false=>rfl
   |true=>exact Zz a0 (H _ (List.mem_filter.2 ⟨XY _,a4⟩))
  refine aE.mk (w':={w with heap:=w.heap.setIfInBounds r (.map (a.eraseIdxIfInBounds P) b)}) ?_ (K _ ⟨⟨_,_,c,seen,M,cF w r _ U,?_,?_,?_,(ak.setObj w r _).get Q L,?_,S,T,?_⟩,y.tidy.bV d⟩ (ak.setObj w r _) sM)
  ·simp[Builtin.delete_,run_underlying J.under,c_ k,dj x,z,dN k]
  ·rw[(W Z).2,q,map_eraseIdx,n,map_eraseIdx]
  ·intro u v
   rw[q]at v;exact N u (List.mem_of_mem_eraseIdx v)
  ·rw[q,map_eraseIdx]
   exact O.sublist (List.eraseIdx_sublist _ _)
  ·intro u v
   rw[q]at v;exact R u (List.mem_of_mem_eraseIdx v)
  ·rw[a3];exact F
def RM(a:lH h g o A t)(b:bF w r enc l)(c:m (XH (l.length:Int)) w):aE h (Builtin.len_ #[g] b6 #[.map (some r)]) w m s:=by
 obtain⟨d,P,e,f,_⟩:=b.at';have i:d.size=l.length:=by have:=Zj List.length f;simpa using this
 refine aE.mk (v:=XH (l.length:Int)) ?_ c;rw[<-i];simp[Builtin.len_,Builtin.lenOf,run_underlying a.under,c_ e,goInt]
def zP(P:h.underlying g=some .string)(a:∀w',w'.heap[w.heap.size]? =some (.stringIter v 0)->ai w w'->w'.heap.size=w.heap.size+1->m (XL w.heap.size) w'):aE h (Instr.range g (.string v)) w m s:=
 aE.mk (run_range_string w g v P) (a _ (World.iter_heap w v 0) (ak.alloc w _) (by simp[World.iter]))
def Ej(P:w.heap[it]? =some (.stringIter v a))(c:v.size<=a->m (.tuple #[.bool false]) w)(d:a<v.size->∀w',w'.heap[it]? =some (.stringIter v (a+(Utf8.decode v a).2))->ak (·=it) w w'->w'.heap.size=w.heap.size->m (.tuple #[.bool true,XH (a:Int),.int .i32 ((Utf8.decode v a).1:Int)]) w'):
  aE h (Instr.next (XL it) true g) w m s:=by
 by_cases b:a<v.size
 ·refine aE.mk (w':={w with heap:=w.heap.setIfInBounds it (.stringIter v (a+(Utf8.decode v a).2))}) ?_ (d b _ (cF w it _ (ay P)) (ak.setObj w it _) sM)
  simp[Instr.next,getObj,setObj,Sem.run,P,b,goInt]
 ·refine aE.mk ?_ (c oM)
  simp[Instr.next,getObj,Sem.run,P,b]
end
end Go.aw
namespace Go.Proofs.YtblabbpipmodgaaGreatDoor
open Go.aw
def eK(b:UInt8):Bool:=(97<=b&&b<=122)||(48<=b&&b<=57)||b==46
def gl(P:ByteArray):Bool:=decide (1<=P.size)&&decide (P.size<=16)&&P.data.toList.all eK
structure cI where
 bytes:List UInt8
 synced:Nat
 lb:Bool
 deriving DecidableEq
structure al where
 most:Nat
 files:List (ByteArray×cI)
 oU:Bool
 left:Int
 dead:Bool
 deriving DecidableEq
def dU(P:List (ByteArray×cI)):Nat:=(P.map λa=>a.2.bytes.length).sum
def al.used(D:al):Nat:=dU D.files
structure al.Ok (D:al):Prop where
 most:D.most<=262144
 fits:D.used<=D.most
 many:D.files.length<=64
 tidy:Tidy D.files
 names:∀x∈D.files,gl x.1=true
 Pb:∀x∈D.files,x.2.synced<=x.2.bytes.length
 zu:0<=D.left
 zv:aK D.left
variable{V p:Array Value}{L:Bool}{v:ByteArray}{f5:ByteArray×cI}{y:FuncId}{e:Int}{h0:List (ByteArray×cI)}{w:List UInt8}{a c:Nat}{f:XN}{d:ZH}{J j:Type}{b7:UInt8}{b k:World}{x:XU}{a6:cI}
def IC(h:f5∈h0):f5.2.bytes.length<=dU h0:=by
 unfold dU
 induction h0 with
 |nil=>cases h
 |cons a h0 P=>
  simp only[QY,List.sum_cons];rcases Q2.1 h with rfl|h
  ·omega
  ·have:=P h;omega
def al.Ok.len{D:al}(P:D.Ok)(a:f5∈D.files):f5.2.bytes.length<=262144:=by
 have:=IC a;have:=P.fits;have:=P.most;unfold al.used at*;omega
structure dK (w:World) (q:Nat) (G:XN) (f:cI):Prop where
 body:∃a n cap F,w.heap[q]? =some (.cells #[.slice a n cap,XH f.synced,.bool f.lb] 206 (0,0))/\aO fe 5 F w a n cap f.bytes/\(∀b,F b->G b)/\¬F q
 self:G q
 aC:∀b,G b->b<w.heap.size
def dK.af{S G:XN}(c:dK b a G a6)(d:ak S b k)(g:∀P,G P->¬S P):dK k a G a6:=by
 obtain⟨i,j,e,l,m,n,h,o⟩:=c.body;exact⟨⟨i,j,e,l,d.get m (g _ c.self),n.af d (λP f=>g P (h P f)),h,o⟩,c.self,λP f=>Qk (c.aC P f) d.size⟩
structure lV where
 q:Nat
 G:XN
 f:cI
def ptr(P:Nat):Value:=XL P
def dG(P:ByteArray×lV):ByteArray×Value:=(P.1,ptr P.2.q)
def tH(P:ByteArray×lV):ByteArray×cI:=(P.1,P.2.f)
structure Co (w:World) (L:List (ByteArray×lV)):Prop where
 each:∀x∈L,dK w x.2.q x.2.G x.2.f
 apart:∀x∈L,∀y∈L,x.1≠y.1->∀b,x.2.G b->¬y.2.G b
 tidy:Tidy L
structure aP (w:World) (p:Nat) (F:XN) (D:al):Prop where
 body:∃r L,w.heap[p]? =some (.cells #[XH D.most,.map (some r),.bool D.oU,XH D.left,.bool D.dead] 142 (0,0))/\bF w r Value.string (L.map dG)/\D.files=L.map tH/\Co w L/\
  (∀x∈L,∀b,x.2.G b->F b/\b≠p/\b≠r)/\F r/\p≠r
 self:F p
 aC:∀b,F b->b<w.heap.size
 ok:D.Ok
variable{a0:List (ByteArray×lV)}
def Co.af{S:XN}(a:Co b a0)(e:ak S b k)(f:∀P∈a0,∀c,P.2.G c->¬S c):Co k a0:=
 ⟨λP d=>(a.each P d).af e (f P d),a.apart,a.tidy⟩
def aP.af{S e:XN}{D:al}(c:aP b a e D)(d:ak S b k)(f:∀P,e P->¬S P):aP k a e D:=by
 obtain⟨j,l,m,n,o,p,h,i,q⟩:=c.body;exact⟨⟨j,l,d.get m (f _ c.self),n.af d (f _ i),o,p.af d (λr s P g=>f P (h r s P g).1),h,i,q⟩,c.self,λP g=>Qk (c.aC P g) d.size,c.ok⟩
def aP.ah{D:al}(P:aP b a f D)(c:ai b k):aP k a f D:=P.af c λ_ _ P=>P
def oV(b:j->J)(a:List (ByteArray×j))(c:ByteArray)(d:j):(aH a c d).map (λP=>(P.1,b P.2))=aH (a.map λP=>(P.1,b P.2)) c (b d):=by
 induction a with
 |nil=>rfl
 |cons e a f=>
  obtain⟨P,g⟩:=e;simp only[aH,QY];split
  ·rfl
  ·simp[f]
def zy(b:j->J)(a:List (ByteArray×j))(c:ByteArray):(bV a c).map (λP=>(P.1,b P.2))=bV (a.map λP=>(P.1,b P.2)) c:=by
 induction a with
 |nil=>rfl
 |cons d a e=>
  obtain⟨P,f⟩:=d;simp only[bV,QY];split
  ·rfl
  ·simp[e]
def zz(b:j->J)(P:List (ByteArray×j))(c:ByteArray):aD (P.map λa=>(a.1,b a.2)) c=(aD P c).map b:=by
 induction P with
 |nil=>rfl
 |cons d P e=>
  obtain⟨a,f⟩:=d;simp only[aD,QY];split
  ·rfl
  ·exact e
def fg{a:List (ByteArray×j)}(d:Tidy a){b:j}{P:ByteArray×j}(h:P∈aH a v b):P=(v,b)\/(P∈a/\P.1≠v):=by
 by_cases c:P.1=v
 ·left
  have:=oW (d.aH v b) (k:=P.1) (v:=P.2) h;rw[qf,c]at this;simp at this;exact Prod.ext c this.symm
 ·rcases eF h with rfl|h
  ·exact .inl rfl
  ·exact .inr ⟨h,c⟩
def DZ{a:List (ByteArray×j)}(b:Tidy a){P:ByteArray×j}(c:P∈bV a v):P∈a/\P.1≠v:=by
 refine⟨fy c,λe=>?_⟩;have d:=oW (b.bV v) (k:=P.1) (v:=P.2) c;rw[Lz b,e]at d;simp at d
def wi{l:List (ByteArray×cI)}{k:ByteArray}{f:cI}:dU (aH l k f)+((aD l k).map λP=>P.bytes.length).getD 0=dU l+f.bytes.length:=by
 unfold dU
 induction l with
 |nil=>simp[aH,aD]
 |cons a l b=>
  obtain⟨c,d⟩:=a;simp only[aH,aD];split
  ·simp;omega
  ·simp only[QY,List.sum_cons]at b⊢;omega
def wj{l:List (ByteArray×cI)}{k:ByteArray}:dU (bV l k)+((aD l k).map λP=>P.bytes.length).getD 0=dU l:=by
 unfold dU
 induction l with
 |nil=>simp[bV,aD]
 |cons a l b=>
  obtain⟨c,d⟩:=a;simp only[bV,aD];split
  ·simp;omega
  ·simp only[QY,List.sum_cons]at b⊢;omega
def vB{P:List (ByteArray×j)}{b:j}(a:(aD P v).isSome=true):(aH P v b).length=P.length:=by
 induction P with
 |nil=>simp[aD]at a
 |cons c P d=>
  obtain⟨f,g⟩:=c;simp only[aH,aD]at a⊢;split
  ·rfl
  ·rename_i e
   rw[Zq e]at a;simp[d a]
def aP.head{D:al}(c:aP b a f D):∃P,b.heap[a]? =some (.cells #[XH D.most,.map (some P),.bool D.oU,XH D.left,.bool D.dead] 142 (0,0)):=by
 obtain⟨P,e,d,_⟩:=c.body;exact⟨P,d⟩
def aP.ID{D P:al}(d:aP b a f D)(e:ak (·=a) b k)(l:∀c,b.heap[a]? =some (.cells #[XH D.most,.map (some c),.bool D.oU,XH D.left,.bool D.dead] 142 (0,0))->k.heap[a]? =some (.cells #[XH P.most,.map (some c),.bool P.oU,XH P.left,.bool P.dead] 142 (0,0)))(m:P.files=D.files)(n:P.Ok):aP k a f P:=by
 obtain⟨c,o,p,q,r,s,i,t,j⟩:=d.body;exact⟨⟨c,o,l c p,q.af e (λu=>j u.symm),m.trans r,s.af e (λv w g h=>(i v w g h).2.1),i,t,j⟩,d.self,λg h=>Qk (d.aC g h) e.size,n⟩
def aP.xZ{D:al}(P:aP b a f D)(d:∀c,aP c a f {D with dead:=L}->ak f b c->c.heap.size=b.heap.size->x c):PS b ⟨a,0+4,none⟩ (.bool L) x:=by
 obtain⟨l,e⟩:=P.head;refine PS.mk e sM λc g i j=>d c (P.ID g (λm h=>?_) rfl ⟨P.ok.most,P.ok.fits,P.ok.many,P.ok.tidy,P.ok.names,P.ok.Pb,P.ok.zu,P.ok.zv⟩) (g.mono λL _ k=>k▸P.self) i;rw[e]at h;cases h;exact j
def aP.Gk{D:al}(P:aP b a f D)(d:∀c,aP c a f {D with oU:=L}->ak f b c->c.heap.size=b.heap.size->x c):PS b ⟨a,0+2,none⟩ (.bool L) x:=by
 obtain⟨l,e⟩:=P.head;refine PS.mk e sM λc g i j=>d c (P.ID g (λm h=>?_) rfl ⟨P.ok.most,P.ok.fits,P.ok.many,P.ok.tidy,P.ok.names,P.ok.Pb,P.ok.zu,P.ok.zv⟩) (g.mono λL _ k=>k▸P.self) i;rw[e]at h;cases h;exact j
def aP.Ki{D:al}(P:aP b a f D)(j:0<=e)(k:aK e)(d:∀c,aP c a f {D with left:=e}->ak f b c->c.heap.size=b.heap.size->x c):PS b ⟨a,0+3,none⟩ (XH e) x:=by
 obtain⟨o,g⟩:=P.head;refine PS.mk g sM λc h l m=>d c (P.ID h (λp i=>?_) rfl ⟨P.ok.most,P.ok.fits,P.ok.many,P.ok.tidy,P.ok.names,P.ok.Pb,j,k⟩) (h.mono λq _ n=>n▸P.self) l;rw[g]at i;cases i;exact m
def LA:ZG 34 #[XH e] b (Ok λd c=>
  if e<64\/e>262144 then d= .tuple #[.pointer none,XH 1]/\c=b
  else∃f g,d= .tuple #[XL f,XH 0]/\aP c f g ⟨e.toNat,[],false,0,false⟩/\ai b c/\∀P,g P->b.heap.size<=P):=by
 refine FT (an.dec (λa=>?_) (λa=>an.dec (λh=>?_) (λh=>?_)))
 ·exact Ok.mk (by rw[Zx (.inl a)];exact⟨rfl,rfl⟩)
 ·exact Ok.mk (by rw[Zx (.inr h)];exact⟨rfl,rfl⟩)
 ·refine PA.mk λj k o l=>PA.mk λm i p n=>Ok.mk ?_
  rw[Zq oM];refine⟨j.heap.size,λP=>b.heap.size<=P/\P<m.heap.size,rfl,⟨⟨b.heap.size,[],?_,bF.new (i.get l id),rfl,⟨sM,sM,by simp[Tidy]⟩,sM,oM,oM⟩,oM,λP a=>a.2,?_⟩,k.ah i,λP a=>a.1⟩
  ·rw[n]
   have:((e.toNat:Nat):Int)=e:=oM
   rw[this]
  ·exact⟨by show e.toNat<=_;omega,by simp[al.used,dU],by simp,by simp[Tidy],by simp,by simp,by simp,by unfold aK;simp⟩
def al.Pw(D:al)(P:Int):al:={D with oU:=true,left:=max P 0}
def LB{D:al}(l:aK e)(P:aP b a f D):ZG 114 #[XL a,XH e] b (Ok λg c=>g= .tuple #[]/\aP c a f (D.Pw e)/\cz f b f c):=by
 have h:(if e>0 then e else 0)=max e 0:=oM
 refine sY ⟨a,0,rfl,P.Gk λm i j n=>⟨a,0,rfl,i.Ki oM (by unfold aK at*;omega) λo d k p=>Ok.mk ⟨rfl,?_,j.then k,λ_ P=>.inl P⟩⟩⟩;rw[h]at d;exact d
def al.dies(D:al):Bool:=D.dead||(D.oU&&D.left==0)
def al.dH(D:al):al:=if D.oU then{D with left:=D.left-1}else D
def al.gone(D:al):al:={D with dead:=true}
def IE{D:al}(l:aP b a f D){e:Int}{D':al}(A:enters XP y=true)(E:D.dies=false->∀P,aP P a f D.dH->ak f b P->P.heap.size=b.heap.size->ZG y (p++ #[]++V) P (Ok λh d=>∃g,h= XH e/\aP d a g D'/\cz f P g d)):
  ZG 241 #[XL a,.func (.func y) p V] b (Ok λh d=>∃g,h= XH (if D.dies then 15 else e)/\aP d a g (if D.dies then D.gone else D')/\cz f b g d):=by
 obtain⟨L,v⟩:=l.head;have m:∀P,D.dies=true->aP P a f {D with dead:=true}->ak f b P->Ok (λh d=>∃g,h= XH (if D.dies then 15 else e)/\aP d a g (if D.dies then D.gone else D')/\cz f b g d) (.returned (XH 15)) P:=
  λP i c F=>Ok.mk ⟨f,by rw[i];rfl,by rw[i];exact c,F,λ_ l=>.inl l⟩
 refine si ⟨λP=>aP P a f D/\ak f b P/\P.heap.size=b.heap.size/\D.dies=false,?_,?_⟩
 ·refine⟨a,0,rfl,_,ae v rfl,an.mk (λi=>⟨a,0,rfl,l.xZ λP c j q=>?_⟩) (λi=>⟨a,0,rfl,_,ae v rfl,an.mk (λn=>⟨a,0,rfl,_,ae v rfl,a,0,rfl,l.xZ λP c j q=>?_⟩) (λn=>⟨a,0,rfl,l.xZ λP c j q=>?_⟩)⟩)⟩
  ·obtain⟨w,o⟩:=c.head
   exact⟨a,0,rfl,true,ae o rfl,m P (by simp[al.dies,i]) c j⟩
  ·obtain⟨w,o⟩:=c.head
   refine⟨a,0,rfl,D.left==0,ae o rfl,an.mk (λr=>m P (by unfold al.dies;rw[n,r];simp) (by rw[r]at c;exact c) j) (λr=>⟨?_,j,q,by unfold al.dies;rw[i,r];simp⟩)⟩;have:({D with dead:=D.left==0}:al)=D:=by rw[r,<-i]
   rw[this]at c;exact c
  ·obtain⟨w,o⟩:=c.head
   refine⟨a,0,rfl,false,ae o rfl,?_,j,q,by simp[al.dies,i,n]⟩;have:({D with dead:=false}:al)=D:=by rw[<-i]
   rw[this]at c;exact c
 ·rintro M P ⟨c,j,q,t⟩
  obtain⟨w,o⟩:=c.head;have s:∀k,aP k a f D.dH->ak f b k->k.heap.size=b.heap.size->PC XP y (p++ #[]++V) k (λh d=>∃B:Int,h= XH B/\Ok (λh d=>∃g,h= XH (if D.dies then 15 else e)/\aP d a g (if D.dies then D.gone else D')/\cz f b g d) (.returned (XH B)) d)
    (λH d=>Ok (λh d=>∃g,h= XH (if D.dies then 15 else e)/\aP d a g (if D.dies then D.gone else D')/\cz f b g d) (.panicked H) d):=by
   intro k x u z;refine PC.ok (E t k x u z) ?_;rintro _ N ⟨g,rfl,I,J⟩;exact⟨e,rfl,Ok.mk ⟨g,by rw[t];rfl,by rw[t];exact I,(cz.mk u λ_ l=>.inl l:cz f b f k).trans J⟩⟩
  refine⟨a,0,rfl,_,ae o rfl,an.mk (λn=>?_) (λn=>?_)⟩
  ·have O:D.left≠0:=by
    intro C;simp[al.dies,n,C]at t
   have C:=c.ok.zu;have Q:=c.ok.zv;have K:XG .i64 (D.left-1)=D.left-1:=wrap_i64 (by unfold aK at*;omega);refine⟨a,0,rfl,_,ae o rfl,a,0,rfl,?_⟩;rw[K];refine c.Ki oM (by unfold aK at*;omega) λk x u z=>⟨y,p,V,rfl,A,s k ?_ (j.then u) (z.trans q)⟩
   unfold al.dH;rw[Zx n];exact x
  ·refine⟨y,p,V,rfl,A,s P ?_ j q⟩
   unfold al.dH;rw[Zq (by simp[n])];exact c
def cs:ByteArray:=⟨#[97,98,99,100,101,102,103,104,105,106,107,108,109,110,111,112,113,114,115,116,117,118,119,120,121,122,48,49,50,51,52,53,54,55,56,57,46]⟩
def NR:∀P:UInt8,decide (0<=Lib.indexByte cs.data.toList P)=eK P:=by
 have b:(List.range 256).all (λa=>decide (0<=Lib.indexByte cs.data.toList (UInt8.ofNat a))==eK (UInt8.ofNat a))=true:=by decide+kernel
 intro P;have:=ZY.1 b P.toNat (List.mem_range.2 P.toNat_lt);simpa using this
def PM(b:128<=b7.toNat):eK b7=false:=by
 have P:(List.range 128).all (λa=>eK (UInt8.ofNat (128+a))==false)=true:=by decide+kernel
 have:=ZY.1 P (b7.toNat-128) (List.mem_range.2 (by have:=b7.toNat_lt;omega));rw[show 128+(b7.toNat-128)=b7.toNat by omega]at this;simpa using this
def zN:∀P∈cs.data.toList,P.toNat<128:=by decide+kernel
def PN:cs.size=37:=by decide+kernel
def strings_IndexByte{P:ByteArray}{a:Int}{b:World}:ZG 341 #[.string P,.int .u8 a] b (Ok λd c=>d= XH (Lib.indexByte P.data.toList a.toNat.toUInt8)/\b=c):=
 (Any.strings_IndexByte Tryz.PO P a b).mono λg c ⟨e,f⟩=>⟨_,e,rfl,f.symm⟩
def zO:ZG 342 #[.int .i32 e] b (Ok λd f=>d= .bool (Utf8.valid e)/\b=f):=by
 have c:=validRune_eq e;unfold validRune at c;refine kW (an.dec (λg=>an.dec (λh=>?_) (λh=>an.dec (λP=>an.dec (λa=>?_) (λa=>?_)) (λP=>?_))) (λg=>an.dec (λP=>an.dec (λa=>?_) (λa=>?_)) (λP=>?_)))
 all_goals
  refine Ok.mk ⟨?_,rfl⟩;rw[c]
  congr 1
  simp;omega
def pq(P:a<v.size):v[a]? =some (v[a]'P):=by simp[P]
def qY:∀{l:List UInt8} {P:UInt8},(∀b∈l,b≠P)->Lib.indexByte l P= -1
 |[],_,_=>rfl
 |b::l,P,a=>by
  have c:(b==P)=false:=beq_false_of_ne (a b (QV ..));have d:=qY (l:=l) λe f=>a e (QJ _ f);unfold Lib.indexByte;rw[c,d];rfl
def pt(x:0<=e):
  ZG 320 #[.string cs,.int .i32 e] b (Ok λh P=>(∃c:Int,h= XH c/\decide (c>=0)=(decide (e<128)&&eK e.toNat.toUInt8))/\ai b P):=by
 refine qz ⟨λi P=>i=decide (e<128)/\P=b,an.dec (λ_=>⟨rfl,rfl⟩) (λf=>Zz x f),?_⟩;rintro Q o g ⟨rfl,rfl⟩;refine an.dec (λf=>PC.ok strings_IndexByte ?_) (λf=>an.dJ (λy=>?_) (λy=>PC.ok zO ?_))
 ·rintro _ _ ⟨rfl,rfl⟩
  refine⟨_,rfl,Ok.mk ⟨⟨_,rfl,?_⟩,ak.refl _⟩⟩;have z:XG .u8 e=e:=by
   unfold XG;simp[IntKind.signed,IntKind.bits];omega
  rw[z,Zy f,Bool.true_and];exact NR _
 ·have no:∀P,ai g P->Ok (λh P=>(∃c:Int,h= XH c/\decide (c>=0)=(decide (e<128)&&eK e.toNat.toUInt8))/\ai g P) (.returned (XH (-1))) P:=λP p=>
   Ok.mk ⟨⟨_,rfl,by rw[Xv f];rfl⟩,p⟩
  refine zP Tryz.underlying9 λA B q R=>⟨λj P=>∃a,j=cs.size-a/\P.heap[g.heap.size]? =some (.stringIter cs a)/\ai g P,⟨_,0,rfl,B,q⟩,?_⟩
  rintro j o r ⟨a,rfl,C,s⟩;refine Ej C (λ_=>.inl ⟨rfl,no r s⟩) λk E t F S=>.inr ⟨_,_,rfl,?_⟩;have l:(cs[a]'k).toNat<128:=zN _ (by rw[show cs[a]'k=cs.data.toList[a]'(by simpa using k)from by simp;rfl];exact XY _);have H:=decode_ascii cs a k l;rw[H]at t⊢;refine an.dJ (λf=>oM) (λ_=>⟨_,?_,a+1,rfl,t,s.new F λi l=>.inr oM⟩);omega
 ·have no:∀P,ai g P->Ok (λh P=>(∃c:Int,h= XH c/\decide (c>=0)=(decide (e<128)&&eK e.toNat.toUInt8))/\ai g P) (.returned (XH (-1))) P:=λP p=>
   Ok.mk ⟨⟨_,rfl,by rw[Xv f];rfl⟩,p⟩
  rintro _ _ ⟨rfl,rfl⟩;refine⟨_,rfl,an.not (an.mk (λI=>?_) (λ_=>no _ (ak.refl _)))⟩;obtain⟨J,K,u⟩:=encode_facts e I oM;refine aE.mk (run_convert_int_string g _ _ .i32 e kR Tryz.underlying9) ⟨_,rfl,?_⟩;generalize Utf8.encode e=d at J K u⊢;have L:XG .i64 (((d.size:Nat):Int)-1)=((d.size-1:Nat):Int):=by rw[wrap_i64 bb];omega
  rw[L];refine⟨λj c P=>c=((d.size-1:Nat):Int)/\ai g P,⟨0,rfl,ak.refl _⟩,?_⟩;rintro j c o A ⟨rfl,q⟩;have T:=PN;have m:d.size-1<d.size:=oM
  have n:d.size-1<cs.size:=oM
  have U:=u m;have V:(cs[d.size-1]'n).toNat<128:=zN _ (by rw[show cs[d.size-1]'n=cs.data.toList[d.size-1]'(by simpa using n)from by simp;rfl];exact XY _);refine an.dec (λW=>⟨λ_ _=>False,?_,λc o b f=>f.elim⟩) (λX=>oM);simp only[Qx];rw[aq oM];refine⟨oM,_,pq n,oM,_,pq m,λr M=>an.df (λ_=>λE N=>⟨oM,oM,oM,_,pq m,PC.ok strings_IndexByte ?_⟩) (λv=>oM)⟩;rintro _ _ ⟨rfl,rfl⟩;have O:Lib.indexByte (cs.extract (Int.toNat ((d.size-1+1:Nat):Int)) cs.size).data.toList ((((d[d.size-1]'m).toNat:Nat):Int).toNat.toUInt8)= -1:=by
   refine qY λi l v=>?_;have w:=zN i (mem_extract l);rw[v]at w;simp at w;omega
  refine⟨_,rfl,an.dec (λ_=>no _ ((q.ah M.af).ah N.af)) (λf=>?_)⟩;rw[O]at f;omega
def zQ(d:0<=e):
  ZG 290 #[.int .i32 e] b (Ok λP a=>P= .bool (!(decide (e<128)&&eK e.toNat.toUInt8))/\ai b a):=by
 refine vw (PC.ok (φ:=λP a=>P= .bool (decide (e<128)&&eK e.toNat.toUInt8)/\ai b a) (mQ (PC.ok (pt d) ?_)) ?_)
 ·rintro _ f ⟨⟨g,rfl,h⟩,c⟩
  exact⟨g,rfl,Ok.mk ⟨by rw[h],c⟩⟩
 ·rintro _ f ⟨rfl,c⟩
  exact⟨_,rfl,Ok.mk ⟨rfl,c⟩⟩
def ki:
  ZG 292 #[.string v,.func (.func 290) #[] #[]] b (Ok λf e=>f= .bool (!v.data.toList.all eK)/\ai b e):=by
 have t:enters XP 290=true:=kR
 refine mR (PC.ok (φ:=λf e=>(∃c:Int,f= XH c/\decide (c>=0)= !v.data.toList.all eK)/\ai b e) (qL (PC.ok (φ:=λf e=>(∃c:Int,f= XH c/\decide (c>=0)= !v.data.toList.all eK)/\ai b e) (qM ?_) ?_)) ?_)
 ·refine zP Tryz.underlying9 λE u w F=>⟨λo e=>∃P,o=v.size-P/\P<=v.size/\e.heap[b.heap.size]? =some (.stringIter v P)/\ai b e/\(∀h∈v.data.toList.take P,eK h=true),⟨_,0,rfl,Qj _,u,w,sM⟩,?_⟩
  rintro o H I ⟨P,rfl,J,x,p,i⟩;refine Ej x (λy=>.inl ⟨rfl,Ok.mk ⟨⟨_,rfl,?_⟩,p⟩⟩) λd z q A K=>.inr ⟨_,_,rfl,_,_,_,rfl,t,?_⟩
  ·rw[Qz (by simpa using y)]at i
   have:v.data.toList.all eK=true:=ZY.2 i;rw[this];rfl
  ·have r:ai b z:=p.new A λh a=>.inr oM
   have s:v.data.toList[P]? =some (v[P]'d):=by
    rw[Qq (by simpa using d)];simp;rfl
   refine PC.ok (zQ (Int.natCast_nonneg _)) ?_;rintro _ L ⟨rfl,j⟩;refine⟨_,rfl,an.mk (λk=>?_) (λg=>?_)⟩
   ·
    refine Ok.mk ⟨⟨_,rfl,?_⟩,r.ah j⟩;have l:eK (v[P]'d)=false:=by
     by_cases a:(v[P]'d).toNat<128
     ·rw[decode_ascii v P d a]at k
      simp at k;exact k.resolve_left oM
     ·exact PM oM
    have:v.data.toList.all eK=false:=List.all_eq_false.2 ⟨_,QZ s,by simp[l]⟩;rw[this];simp
   ·have a:(v[P]'d).toNat<128:=by
     by_cases a:(v[P]'d).toNat<128
     ·exact a
     ·have M:=(decode_high v P d oM).1
      have B:¬(((Utf8.decode v P).1:Int)<128):=oM
      rw[Xv B]at g;simp at g
    rw[decode_ascii v P d a]at q g;have l:eK (v[P]'d)=true:=by
     simp at g;exact g.2
    refine⟨_,?_,P+1,rfl,oM,j.get q id,r.ah j,λh a=>?_⟩
    ·omega
    ·rw[Qw,s]at a
     rcases Q6.1 a with a|a
     ·exact i h a
     ·simp at a;rw[a];exact l
 ·rintro _ C ⟨⟨c,rfl,m⟩,n⟩
  exact⟨c,rfl,Ok.mk ⟨⟨c,rfl,m⟩,n⟩⟩
 ·rintro _ C ⟨⟨c,rfl,m⟩,n⟩
  exact⟨c,rfl,Ok.mk ⟨by rw[m],n⟩⟩
def tK:ZG 243 #[.string v] b (Ok λa c=>a= .bool (gl v)/\ai b c):=by
 refine yZ (an.Vd (λP=>an.dec (λd=>PC.ok ki ?_) (λd=>Ok.mk ⟨?_,ak.refl _⟩)) (λP=>Ok.mk ⟨?_,ak.refl _⟩))
 ·rintro _ h ⟨rfl,e⟩
  refine⟨_,rfl,Ok.mk ⟨?_,e⟩⟩;have f:1<=v.size:=by
   by_cases g:v.size=0
   ·exact Zz (ByteArray.ext (Array.eq_empty_of_size_eq_zero g)) P
   ·omega
  unfold gl;rw[Zy f,Zy (show v.size<=16 by omega)];simp
 ·unfold gl
  rw[Xv (show¬v.size<=16 by omega)];simp
 ·subst P;rfl
def jJ{D:XN}(h:Row fe 1 b D d a w)(g:∀P,D P->P<b.heap.size):
  ZG 174 #[.slice d a c] b (Ok (od fe 5 b w)):=by
 have x:=h.len;have e:=h.dq;refine kV (jo rJ.under ⟨_,rfl,an.mk (λf=>?_) (λf=>PA.mk λk i y l=>?_)⟩)
 ·have:w=[]:=by
   cases d with
   |none=>
    cases w with
    |nil=>rfl
    |cons m z=>obtain⟨P,n,A,o,_⟩:=h.el 0 m rfl;cases o
   |some p=>cases f
  subst this;exact Ok.mk ⟨none,0,0,λ_=>False,rfl,aO.nil b,ak.refl _,λ_ h=>h.elim⟩
 ·cases d with
  |none=>cases f
  |some p=>
   have q:aO fe 5 (·=b.heap.size) k (XM b.heap.size) 0 0 []:=
    ⟨⟨[],λ_=>False,Own.yu (cur:= #[]) l rfl (Qj _),rfl,λ_ h=>h.elim⟩,λP e=>by simpa[aF]using e.symm,λP e=>oM⟩
   refine jK q rJ (D:=D) (h.ah i) (λP e=>⟨by have:=g P e;omega,by have:=g P e;simp only[aF];intro r;cases r;omega⟩) bc (by unfold aI at e;unfold maxLen;simp;omega) λj s B C t u _ v=>?_;refine⟨_,_,_,rfl,Ok.mk ⟨j,_,s,λP=>aF j=some P,rfl,by have h:=t.alone;rw[List.nil_append]at h;exact h,i.new u λP e=>.inr ?_,λP e=>?_⟩⟩
   ·simp only[aF,Q1]at e;omega
   ·rcases v P e with h|h<;>omega
def mT(P:Int)(a:Nat):Nat:=(max 0 (min P a)).toNat
def vC(a:Int)(P:Nat):mT a P<=P:=by unfold mT;omega
def cI.cut(P:cI)(a:Int):cI:=⟨P.bytes.take (mT a P.bytes.length),mT a P.bytes.length,true⟩
def Px(P:cI)(a:Int):(P.cut a).bytes.length=mT a P.bytes.length:=by
 have:=vC a P.bytes.length;simp[cI.cut];omega
def zB{G:XN}(i:dK b a G a6)(c:a6.bytes.length<=262144):
  ZG 123 #[XL a,XH e] b (Ok λy p=>∃q,y= .tuple #[]/\dK p a q (a6.cut e)/\cz G b q p):=by
 obtain⟨r,d,j,z,A,g,R,S⟩:=i.body;have B:d=a6.bytes.length:=g.len dC;have T:=g.jB;refine vh λk C=>?_;have f:ai b k:=C.af;have h:=f.get A id;have U:=vC e a6.bytes.length;have E:(if(if((d:Nat):Int)<e then((d:Nat):Int)else e)>0 then(if((d:Nat):Int)<e then((d:Nat):Int)else e)else 0)=((mT e a6.bytes.length:Nat):Int):=by
  unfold mT;rw[B];omega
 refine⟨a,0,rfl,_,_,_,ae h rfl,a,0,rfl,r,d,j,ae h rfl,?_⟩;refine⟨oM,oM,?_⟩;have F:Row fe 1 k z r d a6.bytes:=(g.row dC ba).ah f;refine PC.ok (by rw[E,Qx];exact jJ (F.take (m:=mT e a6.bytes.length) oM) (λP c=>Qk (g.aC P c) f.size)) ?_;rintro _ H ⟨s,l,t,m,rfl,n,o,u⟩;have I:l=mT e a6.bytes.length:=by have:=n.len dC;rw[this];simp;omega
 have V:a<k.heap.size:=ay h;refine⟨_,_,_,rfl,a,0,rfl,PS.mk (o.get h id) sM λW J X v=>⟨a,0,rfl,s,l,t,ae v rfl,a,0,rfl,PS.mk v sM λY K Z L=>⟨a,0,rfl,PS.mk L sM λM N s5 O=>Ok.mk ?_⟩⟩⟩;have w:ak (·=a) H M:=(J.then K).then N;have x:∀P,m P->P≠a:=λP c=>by have:=u P c;omega
 refine⟨λP=>P=a\/m P,rfl,⟨⟨s,l,t,m,?_,n.af w x,λP c=>.inr c,λQ=>x a Q rfl⟩,.inl rfl,?_⟩,⟨((ai.af f).then (ai.af o)).then (w.mono λP _ c=>by rw[c];exact i.self),?_⟩⟩
 ·rw[O]
  subst I
  rfl
 ·rintro P (rfl|c)
  ·have:=o.size;omega
  ·have:=n.aC P c;omega
 ·rintro P (rfl|c)
  ·exact .inl i.self
  ·have:=u P c;have:=f.size;exact .inr oM
structure eD (w:World) (p:Nat) (F:XN) (D:al) (r:Nat) (L:List (ByteArray×lV)):Prop where
 head:w.heap[p]? =some (.cells #[XH D.most,.map (some r),.bool D.oU,XH D.left,.bool D.dead] 142 (0,0))
 map:bF w r Value.string (L.map dG)
 files:D.files=L.map tH
 each:Co w L
 Gm:∀x∈L,∀b,x.2.G b->F b/\b≠p/\b≠r
 Fr:F r
 pr:p≠r
 self:F p
 aC:∀b,F b->b<w.heap.size
 ok:D.Ok
def aP.open{D:al}(P:aP b a f D):∃c d,eD b a f D c d:=by
 obtain⟨c,d,e,g,h,i,j,k,l⟩:=P.body;exact⟨c,d,e,g,h,i,j,k,l,P.self,P.aC,P.ok⟩
def eD.at{D:al}(P:eD b a f D c a0):aP b a f D:=
 ⟨⟨c,a0,P.head,P.map,P.files,P.each,P.Gm,P.Fr,P.pr⟩,P.self,P.aC,P.ok⟩
def eD.af{S f:XN}{D:al}(P:eD b a f D c a0)(e:ak S b k)(g:∀d,f d->¬S d):eD k a f D c a0:=
 ⟨e.get P.head (g _ P.self),P.map.af e (g _ P.Fr),P.files,P.each.af e (λi j d h=>g d (P.Gm i j d h).1),P.Gm,P.Fr,P.pr,P.self,λd h=>Qk (P.aC d h) e.size,P.ok⟩
def eD.ah{D:al}(P:eD b a f D c a0)(d:ai b k):eD k a f D c a0:=P.af d λ_ _ P=>P
def eD.box{D:al}(i:eD b a f D c a0)(d:ByteArray):
  (aD D.files d=none/\aD (a0.map dG) d=none)\/∃P,aD a0 d=some P/\(d,P)∈a0/\aD D.files d=some P.f/\aD (a0.map dG) d=some (ptr P.q):=by
 have e:aD (a0.map dG) d=(aD a0 d).map λP=>ptr P.q:=zz (λP:lV=>ptr P.q) a0 d;have g:aD D.files d=(aD a0 d).map λP=>P.f:=by rw[i.files];exact zz (λP:lV=>P.f) a0 d
 cases h:aD a0 d with
 |none=>rw[h]at e g;exact .inl ⟨g,e⟩
 |some P=>rw[h]at e g;exact .inr ⟨P,rfl,bQ h,g,e⟩
def al.gS(D:al)(P:ByteArray)(a:cI):al:={D with files:=aH D.files P a}
def al.BB(D:al)(P:ByteArray):al:={D with files:=bV D.files P}
def oX{l:List (ByteArray×j)}{k:ByteArray}{v:j}(h:(k,v)∈l)(P:Tidy l):aH l k v=l:=by
 induction l with
 |nil=>cases h
 |cons a l b=>
  obtain⟨c,e⟩:=a;unfold aH;unfold Tidy at P;simp only[QY,List.nodup_cons]at P;rcases Q2.1 h with h|h
  ·cases h;simp
  ·have:(k==c)=false:=beq_false_of_ne λd=>P.1 (Xk.2 ⟨(k,v),h,d⟩)
   rw[Zq (by simp[this]),b h P.2]
def eD.dX{i w':World}{n G':XN}{D:al}(d:eD i a n D c a0){k:ByteArray}{x:lV}(v:aD a0 k=some x)(t:dK w' x.q G' a6)(h:cz x.G i G' w')(w:(D.gS k a6).Ok):∃u,eD w' a u (D.gS k a6) c (aH a0 k ⟨x.q,G',a6⟩)/\cz n i u w':=by
 have j:=bQ v;have l:=d.Gm _ j;have y:ak n i w':=h.af.mono λP _ b=>(l P b).1;have o:∀e∈aH a0 k ⟨x.q,G',a6⟩,e=(k,⟨x.q,G',a6⟩)\/(e∈a0/\e.1≠k):=λe f=>fg d.each.tidy f;refine⟨λP=>n P\/(i.heap.size<=P/\P<w'.heap.size),⟨h.af.get d.head λb=>(l _ b).2.1 rfl,?_,?_,⟨?_,?_,d.each.tidy.aH _ _⟩,?_,.inl d.Fr,d.pr,.inl d.self,?_,w⟩,y,λP b=>b.imp id (·.1)⟩
 ·have z:(aH a0 k ⟨x.q,G',a6⟩).map dG=a0.map dG:=by
   have g:(aH a0 k ⟨x.q,G',a6⟩).map dG=aH (a0.map dG) k (ptr x.q):=oV (λx:lV=>ptr x.q) a0 k _;rw[g];have A:Tidy (a0.map dG):=d.map.tidy;exact oX (Xk.2 ⟨_,j,rfl⟩) A
  rw[z];exact d.map.af h.af λb=>(l _ b).2.2 rfl
 ·have g:(aH a0 k ⟨x.q,G',a6⟩).map tH=aH (a0.map tH) k a6:=oV (λx:lV=>x.f) a0 k _
  rw[g,<-d.files];rfl
 ·intro e f
  rcases o e f with rfl|⟨f,s⟩
  ·exact t
  ·exact(d.each.each e f).af h.af λP b=>d.each.apart e f _ j s P b
 ·intro e f p m q P b r
  rcases o e f with rfl|⟨f,s⟩<;>rcases o p m with rfl|⟨m,B⟩
  ·exact q rfl
  ·rcases h.new P b with g|g
   ·exact d.each.apart _ j p m q P g r
   ·have:=(d.each.each p m).aC P r;omega
  ·rcases h.new P r with g|g
   ·exact d.each.apart e f _ j q P b g
   ·have:=(d.each.each e f).aC P b;omega
  ·exact d.each.apart e f p m q P b r
 ·intro e f P b
  rcases o e f with rfl|⟨f,s⟩
  ·have C:=ay d.head
   have E:=d.map.lt;rcases h.new P b with g|g
   ·exact⟨.inl (l P g).1,(l P g).2⟩
   ·exact⟨.inr ⟨g,t.aC P b⟩,oM,oM⟩
  ·exact⟨.inl (d.Gm e f P b).1,(d.Gm e f P b).2⟩
 ·rintro P (b|b)
  ·exact Qk (d.aC P b) h.af.size
  ·exact b.2
def eD.drop{D:al}(d:eD b a f D c a0)(o:bF k c Value.string (bV (a0.map dG) v))(i:ak (·=c) b k)(p:(D.BB v).Ok):eD k a f (D.BB v) c (bV a0 v):=by
 have g:∀P∈bV a0 v,P∈a0:=λP e=>fy e;refine⟨i.get d.head (λh=>d.pr h),?_,?_,⟨λP e=>((d.each.each P (g P e)).af i λj l=>(d.Gm P (g P e) j l).2.2),λP e n q=>d.each.apart P (g P e) n (g n q),d.each.tidy.bV v⟩,λP e=>d.Gm P (g P e),d.Fr,d.pr,d.self,λj l=>Qk (d.aC j l) i.size,p⟩
 ·have h:(bV a0 v).map dG=bV (a0.map dG) v:=zy (λm:lV=>ptr m.q) a0 v
  rw[h];exact o
 ·have h:(bV a0 v).map tH=bV (a0.map tH) v:=zy (λm:lV=>m.f) a0 v
  rw[h,<-d.files];rfl
def eD.put{p G':XN}{D:al}(f:eD b a p D c a0){q:Nat}(w:bF k c Value.string (aH (a0.map dG) v (ptr q)))(g:ak (·=c) b k)(r:dK b q G' a6)(s:∀d∈a0,d.1≠v->∀P,G' P->¬d.2.G P)(t:∀P,G' P->P≠a/\P≠c)(x:(D.gS v a6).Ok):
  eD k a (λP=>p P\/G' P) (D.gS v a6) c (aH a0 v ⟨q,G',a6⟩):=by
 have i:∀d∈aH a0 v ⟨q,G',a6⟩,d=(v,⟨q,G',a6⟩)\/(d∈a0/\d.1≠v):=λd e=>fg f.each.tidy e;refine⟨g.get f.head (λh=>f.pr h),?_,?_,⟨?_,?_,f.each.tidy.aH _ _⟩,?_,.inl f.Fr,f.pr,.inl f.self,?_,x⟩
 ·have h:(aH a0 v ⟨q,G',a6⟩).map dG=aH (a0.map dG) v (ptr q):=oV (λl:lV=>ptr l.q) a0 v _
  rw[h];exact w
 ·have h:(aH a0 v ⟨q,G',a6⟩).map tH=aH (a0.map tH) v a6:=oV (λl:lV=>l.f) a0 v _
  rw[h,<-f.files];rfl
 ·intro d e
  rcases i d e with rfl|⟨e,m⟩
  ·exact r.af g λP B=>(t P B).2
  ·exact(f.each.each d e).af g λP B=>(f.Gm d e P B).2.2
 ·intro d e n j u P B o
  rcases i d e with rfl|⟨e,m⟩<;>rcases i n j with rfl|⟨j,y⟩
  ·exact u rfl
  ·exact s n j y P B o
  ·exact s d e m P o B
  ·exact f.each.apart d e n j u P B o
 ·intro d e P B
  rcases i d e with rfl|⟨e,m⟩
  ·exact⟨.inr B,t P B⟩
  ·exact⟨.inl (f.Gm d e P B).1,(f.Gm d e P B).2⟩
 ·rintro P (B|B)
  ·exact Qk (f.aC P B) g.size
  ·exact Qk (r.aC P B) g.size
end Go.Proofs.YtblabbpipmodgaaGreatDoor
namespace Go.aw
open Go
def AU(cs:Array Value):Nat->List Value->Array Value
 |_,[]=>cs
 |P,a::b=>AU (cs.setIfInBounds P a) (P+1) b
def C_:∀(b:List Value) (cs:Array Value) (a P:Nat),(AU cs a b)[P]? =if a<=P/\P<a+b.length/\P<cs.size then b[P-a]? else cs[P]?
 |[],cs,a,P=>by rw[Zq bc];rfl
 |v::b,cs,a,P=>by
  unfold AU;rw[C_ b,Array.getElem?_setIfInBounds];simp only[Xq,Array.size_setIfInBounds]
  by_cases c:a+1<=P/\P<a+1+b.length/\P<cs.size
  ·rw[Zx c,Zx oM,show P-a=(P-(a+1))+1 by omega,ZZ]
  ·rw[Zq c]
   by_cases d:a=P
   ·subst d
    by_cases e:a<cs.size
    ·rw[Zx rfl,Zx e,Zx oM,Nat.sub_self,ZJ]
    ·rw[Zx rfl,Zq e,Zq oM,Array.getElem?_eq_none oM]
   ·rw[Zq d,Zq oM]
variable{a1:List Value}{a:Nat}{g:TypeId}{b:World}{x:XU}
def Da{cs:Array Value}(a:a1.length=cs.size):AU cs 0 a1=a1.toArray:=by
 apply Array.ext_getElem?;intro P;rw[C_]
 by_cases b:P<cs.size
 ·rw[Zx oM];simp
 ·rw[Zq oM,Array.getElem?_eq_none oM]
  simp;omega
def wT{c:Nat}{g:TypeId}{h:XU}:∀(b:List Value) (a:Nat) {P:World} {cs:Array Value},P.heap[c]? =some (.cells cs g (0,0))->a+b.length<=cs.size->
  (∀d,ak (·=c) P d->d.heap.size=P.heap.size->d.heap[c]? =some (.cells (AU cs a b) g (0,0))->h d)->il ⟨c,0,none⟩ a b P h
 |[],a,P,cs,e,i,f=>f P (ak.refl _) rfl e
 |v::b,a,P,cs,e,i,f=>by
  unfold il;rw[Addr.add_lit,Xz];rw[Xq]at i;exact PS.mk e oM λq j k l=>wT b (a+1) l bc λm n o p=>f m (j.then n) (o.trans k) p
def storeAll{cs:Array Value}(c:List Value)(d:b.heap[a]? =some (.cells cs g (0,0)))(e:c.length=cs.size)(f:∀P,ak (·=a) b P->P.heap.size=b.heap.size->P.heap[a]? =some (.cells c.toArray g (0,0))->x P):il ⟨a,0,none⟩ 0 c b x:=
 wT c 0 d oM λP h i j=>f P h i (by rw[j,Da e])
end Go.aw
namespace Go.aw
open Go
def wrap_u32(P:Nat)(a:P<2 ^ 32):XG .u32 (P:Int)=P:=by
 unfold XG;simp[IntKind.signed,IntKind.bits];omega
def wrap_u8(P:Nat):XG .u8 (P:Int)=((P % 256:Nat):Int):=by
 unfold XG;simp[IntKind.signed,IntKind.bits]
def ofInt32(P:qe):BitVec.ofInt (IntKind.bits .u32) ((P.toNat:Nat):Int)=P:=by
 show BitVec.ofInt 32 ((P.toNat:Nat):Int)=P;rw[BitVec.ofInt_natCast];simp
def Iy(P a:qe):oJ .u32 ((P.toNat:Nat):Int) ((a.toNat:Nat):Int)=(((P ^^^ a).toNat:Nat):Int):=by
 unfold oJ;rw[ofInt32,ofInt32];exact wrap_u32 _ (P ^^^ a).isLt
def Nr(P:qe):oJ .u32 (IntKind.max .u32) ((P.toNat:Nat):Int)=(((~~~P).toNat:Nat):Int):=by
 have a:IntKind.max .u32=(((BitVec.allOnes 32).toNat:Nat):Int):=by decide+kernel
 rw[a,Iy,BitVec.allOnes_xor]
def RH(P:qe):iP .u32 ((P.toNat:Nat):Int) 8=(((P>>>8).toNat:Nat):Int):=by
 unfold iP;have:(min (Int.toNat 8) (IntKind.bits .u32))=8:=dC
 rw[this,BitVec.toNat_ushiftRight,Nat.shiftRight_eq_div_pow];show Int.fdiv _ ((2 ^ 8:Nat):Int)=_;rw[Int.fdiv_eq_ediv_of_nonneg _ (Int.natCast_nonneg _)]
 rfl
def S_(P a:Nat)(b:P<256)(c:a<256):oJ .u8 (P:Int) (a:Int)=((P ^^^ a:Nat):Int):=by
 unfold oJ;show XG .u8 ((BitVec.ofInt 8 (P:Int) ^^^ BitVec.ofInt 8 (a:Int)).toNat:Int)=_;have d:P ^^^ a<2 ^ 8:=Nat.xor_lt_two_pow oM oM;rw[BitVec.ofInt_natCast,BitVec.ofInt_natCast,BitVec.toNat_xor,BitVec.toNat_ofNat,BitVec.toNat_ofNat,Nat.mod_eq_of_lt oM,Nat.mod_eq_of_lt oM,wrap_u8,Nat.mod_eq_of_lt oM]
def RI(P:Nat)(b:P<256):DG .u8 (P:Int) 15=((P % 16:Nat):Int):=by
 unfold DG;show XG .u8 ((BitVec.ofInt 8 (P:Int)&&&BitVec.ofInt 8 ((15:Nat):Int)).toNat:Int)=_;have a:P&&&15=P % 16:=Nat.and_two_pow_sub_one_eq_mod P 4;rw[BitVec.ofInt_natCast,BitVec.ofInt_natCast,BitVec.toNat_and,BitVec.toNat_ofNat,BitVec.toNat_ofNat,Nat.mod_eq_of_lt oM,Nat.mod_eq_of_lt oM,a,wrap_u8,Nat.mod_eq_of_lt oM]
def Ta(P:Nat):iP .u8 (P:Int) 4=((P/16:Nat):Int):=by
 unfold iP;have:(min (Int.toNat 4) (IntKind.bits .u8))=4:=dC
 rw[this];show Int.fdiv _ ((2 ^ 4:Nat):Int)=_;rw[Int.fdiv_eq_ediv_of_nonneg _ (Int.natCast_nonneg _)]
 rfl
end Go.aw
namespace Go.Proofs.YtblabbpipmodgaaGreatDoor
open Go.aw
structure oG (w:World):Prop where
 lower:∀i,i<16->w.cell? ⟨2,i,none⟩=some (.int .u32 ((iW.getD i 0:Nat):Int))
 upper:∀i,i<16->w.cell? ⟨3,i,none⟩=some (.int .u32 ((iX.getD i 0:Nat):Int))
 lt:2<w.heap.size/\3<w.heap.size
variable{w:List UInt8}{a c:Nat}{f:XN}{d:ZH}{b k:World}
def oG.ah(P:oG b)(c:ai b k):oG k:=
 ⟨λa d=>(c.cell (a:=⟨2,a,none⟩) P.lt.1 id).trans (P.lower a d),λa d=>(c.cell (a:=⟨3,a,none⟩) P.lt.2 id).trans (P.upper a d),Qk P.lt.1 c.size,Qk P.lt.2 c.size⟩
def Ns:∀P,iW.getD P 0<2 ^ 32/\iX.getD P 0<2 ^ 32:=by
 intro P
 by_cases a:P<16
 ·have b:(List.range 16).all (λP=>decide (iW.getD P 0<2 ^ 32/\iX.getD P 0<2 ^ 32))=true:=by decide+kernel
  simpa using ZY.1 b P (List.mem_range.2 a)
 ·rw[QQ,QQ,Q7 (by show 16<=P;omega),Q7 (by show 16<=P;omega)]
  decide
def Nt{s:qe}(p:oG b)(j:Row fe 1 b f d a w):
  ZG 316 #[.int .u32 ((s.toNat:Nat):Int),.slice d a c] b (Ok λq k=>q= .int .u32 (((Kg s w).toNat:Nat):Int)/\bC b k):=by
 have H:=j.len;have r:=j.dq;unfold aI at r;refine Ij ⟨λn P i k=>∃g:Nat,i=g/\g<=a/\n=a-g/\bC b k/\P=((((w.take g).foldl js (~~~s)).toNat:Nat):Int),⟨_,0,rfl,Qj _,rfl,bC.refl b,by rw[Nr];rfl⟩,?_⟩;rintro n P i I J ⟨g,rfl,K,rfl,h,rfl⟩;generalize l:(w.take g).foldl js (~~~s)=P;refine an.dec (λt=>?_) (λt=>Ok.mk ⟨?_,h⟩)
 ·obtain⟨u,m,e,rfl,v,_,x⟩:=(j.ah h.af).ko (i:=g) oM
  have o:=p.ah h.af;have L:=e.toNat_lt;have y:XG .u8 ((P.toNat:Nat):Int)=((P.toNat % 256:Nat):Int):=wrap_u8 _;have M:e.toNat ^^^ P.toNat % 256<2 ^ 8:=Nat.xor_lt_two_pow oM oM;have z:oJ .u8 ((e.toNat:Nat):Int) (XG .u8 ((P.toNat:Nat):Int))=((e.toNat ^^^ P.toNat % 256:Nat):Int):=by rw[y,S_ _ _ oM oM]
  refine⟨u,m,rfl,oM,oM,_,x,?_⟩;rw[z,RI _ oM,Ta];refine⟨2,0,rfl,oM,oM,((iW.getD ((e.toNat ^^^ P.toNat % 256) % 16) 0:Nat):Int),?_,3,0,rfl,oM,oM,((iX.getD ((e.toNat ^^^ P.toNat % 256)/16) 0:Nat):Int),?_,λN A=>⟨_,oM,g+1,aq oM,oM,rfl,h.then A,?_⟩⟩
  ·rw[Xz];exact o.lower _ oM
  ·rw[Xz];exact o.upper _ oM
  ·have B:=(Ns ((e.toNat ^^^ P.toNat % 256) % 16)).1
   have C:=(Ns ((e.toNat ^^^ P.toNat % 256)/16)).2;rw[RH];have E:((iW.getD ((e.toNat ^^^ P.toNat % 256) % 16) 0:Nat):Int)=(((BitVec.ofNat 32 (iW.getD ((e.toNat ^^^ P.toNat % 256) % 16) 0)).toNat:Nat):Int):=by rw[BitVec.toNat_ofNat,Nat.mod_eq_of_lt B]
   have F:((iX.getD ((e.toNat ^^^ P.toNat % 256)/16) 0:Nat):Int)=(((BitVec.ofNat 32 (iX.getD ((e.toNat ^^^ P.toNat % 256)/16) 0)).toNat:Nat):Int):=by rw[BitVec.toNat_ofNat,Nat.mod_eq_of_lt C]
   rw[E,F,Iy,Iy,<-Lt,Qw,v,List.foldl_append,l]
   rfl
 ·rw[Qz oM]at l
  rw[Nr,<-l];rfl
def Kh(P:oG b)(e:Row fe 1 b f d a w):
  ZG 284 #[.slice d a c] b (Ok λg h=>g= .int .u32 (((Lu w).toNat:Nat):Int)/\bC b h):=by
 refine Lq (PC.ok (Nt (s:=0#32) P e) ?_);rintro _ j ⟨rfl,i⟩;exact⟨_,rfl,Ok.mk ⟨rfl,i⟩⟩
end Go.Proofs.YtblabbpipmodgaaGreatDoor
namespace Go.aw
open Go
def wrap_u32'(P:Int):XG .u32 P=P % 4294967296:=by
 unfold XG;simp[IntKind.signed,IntKind.bits]
def IQ{P d:Nat}(c:P<16777216)(e:d<256):No .u32 (IM .u32 (P:Int) 8) (XG .u32 (d:Int))=((P*256+d:Nat):Int):=by
 have a:IM .u32 (P:Int) 8=((P*256:Nat):Int):=by
  unfold IM;have:min (Int.toNat 8) (IntKind.bits .u32)=8:=dC
  rw[this,wrap_u32'];have:((2:Int) ^ 8)=256:=dC
  rw[this];omega
 rw[a,wrap_u32 _ oM];unfold No;show XG .u32 ((BitVec.ofInt 32 ((P*256:Nat):Int)|||BitVec.ofInt 32 (d:Int)).toNat:Int)=_;have b:P*256|||d=P*256+d:=by
  have:=(Nat.shiftLeft_add_eq_or_of_lt (a:=P) (i:=8) (b:=d) oM).symm
  rwa [Nat.shiftLeft_eq]at this
 rw[BitVec.ofInt_natCast,BitVec.ofInt_natCast,BitVec.toNat_or,BitVec.toNat_ofNat,BitVec.toNat_ofNat,Nat.mod_eq_of_lt oM,Nat.mod_eq_of_lt oM,b,wrap_u32 _ oM]
def iD(P:Nat):XG .u8 (P:Int)=((UInt8.ofNat P).toNat:Int):=by
 rw[wrap_u8,ZK]
def K_{k:IntKind}{u m:Nat}(P:m<=k.bits):iP k (u:Int) (m:Int)=((u/2 ^ m:Nat):Int):=by
 unfold iP;rw[Qx,X2 P];show Int.fdiv _ ((2:Int) ^ m)=_;rw[Int.fdiv_eq_ediv_of_nonneg _ (Int.pow_nonneg dC)];simp
variable{a c:Nat}{d:ZH}{h:Program}{A g o:TypeId}{m s:XR}{b:World}
def LG{c tn j P:TypeId}(k:iu h c P 1 1)(n:h.underlying tn=some (.int .i64))(o:0<a)(p:a<=aI)(d:∀e f,aO fe P (·=b.heap.size) e (XM b.heap.size) 0 f []->a<=f->ai b e->m (.slice (XM b.heap.size) a f) e):
  aE h (Builtin.append_ #[c,tn] j #[.slice none 0 0,XH (a:Int)]) b m s:=by
 obtain⟨q,g,r,t,A,u,v⟩:=k.info;unfold aI at p;have w:=Lib.run_append_nil_zeros (P:=h) b c tn j P q g .i64 .i64 k.under n r t a o oM oM (by rw[u];omega);have x:=grownCap_ge b a 0 P;refine aE.mk w (d _ _ ?_ x ?_)
 ·have l:=heap_alloc_new b.drew (.cells (Builtin.zeroCells g.cells a++Builtin.zeroCells g.cells (grownCap b a 0 P-a)) P)
  refine⟨⟨[],λ_=>False,⟨⟨sM,.inr ⟨b.heap.size,grownCap b a 0 P,_,rfl,Qj _,l,Qj _,grownCap_le_maxLen b a 0 P (by unfold maxLen;omega),?_,sM⟩⟩⟩,rfl,λ_ d=>d.elim⟩,λy i=>by simpa[aF]using i.symm,λy i=>by rw[i];exact ay l⟩;rw[Array.size_append,size_zeroCells,size_zeroCells,v];show a*1+(grownCap b a 0 P-a)*1=grownCap b a 0 P*1;omega
 ·have z:ai b (b.drewN 1):=ak.drewN b 1
  exact z.then (ak.alloc _ _)
def Rh(P:h.underlying g=some (.slice o))(e:m (XH (c:Int)) b):aE h (Builtin.cap_ #[g] A #[.slice d a c]) b m s:=by
 refine aE.mk (v:=XH (c:Int)) ?_ e;simp[Builtin.cap_,run_underlying P,goInt]
end Go.aw
namespace Go.Proofs.YtblabbpipmodgaaGreatDoor
section
open Go.aw
variable{c5 w:List UInt8}{E a c i n:Nat}{C:Nat×Nat}{d r:ZH}{b:World}
def tO{bs:List UInt8}{D:XN}(f:Row fe 1 b D d a bs)(q:a<=4):
  ZG 299 #[.slice d a c] b (Ok λh P=>h= .int .u32 (fI bs:Int)/\b=P):=by
 have r:=f.len;refine y_ ⟨λm g i P=>∃j:Nat,i=j/\j<=a/\m=a-j/\g=(fI (bs.take j):Int)/\b=P,⟨_,0,rfl,Qj _,rfl,rfl,rfl⟩,?_⟩;rintro m g i _ s ⟨j,rfl,t,rfl,rfl,rfl⟩;refine an.dec (λk=>?_) (λk=>?_)
 ·obtain⟨l,e,n,rfl,o,_,p⟩:=f.ko (i:=j) oM
  have u:=mW bs (j:=j) (m:=3) oM;refine⟨l,e,rfl,oM,oM,_,p,_,oM,j+1,aq oM,oM,rfl,?_,rfl⟩;rw[IQ (by
            have:(256:Nat) ^ 3=16777216:=dC
            omega) n.toNat_lt,Cu o]
 ·rw[Qz oM]
  exact Ok.mk ⟨rfl,rfl⟩
def Ei{m:Nat}(g:0<m)(d:m<=aI):
  ZG 315 #[.slice none 0 0,XH (m:Int)] b (Ok λh P=>∃a e,h= .slice (XM a) 0 e/\aO fe 5 (·=a) P (XM a) 0 e []/\ai b P/\b.heap.size<=a):=by
 have c:=d;unfold aI at c;refine kZ ⟨λP=>P=b,an.dec (λf=>oM) (λ_=>rfl),?_⟩;rintro _ n rfl;refine Rh rJ.under ⟨_,rfl,?_⟩;have i:XG .i64 ((m:Int)-XG .i64 (((0:Nat):Int)-((0:Nat):Int)))=(m:Int):=by
  rw[wrap_i64 (x:=((0:Nat):Int)-((0:Nat):Int)) bb,wrap_i64 bb];omega
 rw[i];refine an.dec (λf=>?_) (λf=>oM);refine Rh rJ.under ⟨_,rfl,oM,oM,?_⟩;refine LG rJ kR g d λo j k p l=>⟨_,_,_,rfl,oM,oM,Ok.mk ⟨_,j,rfl,k,l,Q4 _⟩⟩
def zI{D:XN}(B:b.heap[a]? =some (.cells #[.slice d c n,.slice r i E] 197 C))(R:Row fe 1 b D d c w)(S:Row fe 1 b D r i c5)(F:∀P,D P->P<b.heap.size)(h0:0<c)(e:c+i<=aI):
  ZG 283 #[.slice (XM a) 2 2] b (Ok (od fe 5 b (w++c5))):=by
 have l1:=R.len;have l2:=S.len;have H:=e;unfold aI at H;refine jH ⟨λg x h f=>b=f/\((g=2/\x=0/\h=0)\/(g=1/\x=(c:Int)/\h=1)\/(g=0/\x=((c+i:Nat):Int)/\h=2)),⟨2,rfl,.inl ⟨rfl,rfl,rfl⟩⟩,?_⟩;rintro g x h _ w1 ⟨rfl,I⟩;rcases I with⟨rfl,rfl,rfl⟩|⟨rfl,rfl,rfl⟩|⟨rfl,rfl,rfl⟩
 ·refine an.tt dC ⟨a,0,rfl,oM,oM,d,c,n,ae B rfl,?_⟩
  rw[wrap_i64 (x:=0+((c:Nat):Int)) bb];exact an.dec (λT=>oM) (λ_=>⟨1,oM,rfl,.inr (.inl ⟨rfl,oM,rfl⟩)⟩)
 ·refine an.tt dC ⟨a,0,rfl,oM,oM,r,i,E,ae B rfl,?_⟩
  rw[wrap_i64 (x:=((c:Nat):Int)+((i:Nat):Int)) bb];exact an.dec (λT=>oM) (λ_=>⟨0,oM,rfl,.inr (.inr ⟨rfl,oM,rfl⟩)⟩)
 refine an.ff dC (PC.ok (Ei (m:=c+i) oM e) ?_);rintro _ w2 ⟨U,cq,rfl,Z,k2,hq⟩;have a6:∀P,D P->P≠U:=λP e J=>by have:=F P e;omega
 refine⟨_,_,_,rfl,λg p k q h f=>ai b f/\∃l,(∀P,l P->b.heap.size<=P)/\((g=2/\h=0/\aO fe 5 l f p k q [])\/(g=1/\h=1/\aO fe 5 l f p k q w)\/(g=0/\h=2/\aO fe 5 l f p k q (w++c5))),
  ⟨2,k2,(·=U),λP J=>oM,.inl ⟨rfl,rfl,Z⟩⟩,?_⟩
 rintro g p k q h _ V ⟨s,l,y,I⟩;have W:=s.get B id;have ap:∀{z A:List UInt8} {K u X} {L Y:XR},aO fe 5 l V p k q z->Row fe 1 b D K u A->z.length+A.length<=140737488355328->
   (∀m t f o,aO fe 5 o f m (k+u) t (z++A)->ai b f->(∀P,o P->b.heap.size<=P)->L (.slice m (k+u) t) f)->
   aE XP (Builtin.append_ #[197,197] 197 #[.slice p k q,.slice K u X]) V L Y:=by
  intro z A K u X L Y j hr a5 M;refine yb j rJ (hr.ah s) (λP e=>⟨by have:=F P e;have:=s.size;omega,λJ=>?_⟩) ba (by unfold maxLen;omega) λm t N o v a3 _ a4=>?_
  ·have:=F P e;have:=y P (j.self P J);omega
  ·exact M m t N (λP=>aF m=some P) v.alone (s.new a3 λP e=>.inr (y P (j.self P e))) λP e=>(a4 P e).elim (y P) λT=>by have:=s.size;omega
 rcases I with⟨rfl,rfl,j⟩|⟨rfl,rfl,j⟩|⟨rfl,rfl,j⟩
 ·refine an.tt dC ⟨a,0,rfl,oM,oM,d,c,n,ae W rfl,?_⟩
  exact ap j R bc λm t N o v O Q=>⟨_,_,_,rfl,1,oM,O,o,Q,.inr (.inl ⟨rfl,rfl,v⟩)⟩
 ·refine an.tt dC ⟨a,0,rfl,oM,oM,r,i,E,ae W rfl,?_⟩
  exact ap j S oM λm t N o v O Q=>⟨_,_,_,rfl,0,oM,O,o,Q,.inr (.inr ⟨rfl,rfl,v⟩)⟩
 ·exact an.ff dC (Ok.mk ⟨_,_,_,l,rfl,j,s,y⟩)
end
section
open Go.aw
def fV:jr:=⟨[],[],[],[],[]⟩
variable{c6 v:ByteArray}{z:XT}{a c:Nat}{d:ZH}{b:World}
def fW(P:an (decide ((((ByteArray.size v:Nat):Int):Int)>=((ByteArray.size c6:Nat):Int))) (((0:Int)<=((ByteArray.size c6:Nat):Int)/\(((ByteArray.size c6:Nat):Int):Int)<=((ByteArray.size v:Nat):Int)/\rt z ((.bool ((ByteArray.toList (ByteArray.extract v 0 (Int.toNat ((ByteArray.size c6:Nat):Int))))==(ByteArray.toList c6)))) b)) (rt z ((.bool false)) b)):ZG 328 #[.string v,.string c6] b z:=DC fV Tryz.func328 rfl P
def fT:jr:=⟨[],[],[],[],[]⟩
def fU(a:PC_ 328 #[.string v,.string c6] b (kB λc P=>an (!c) (rt z ((.tuple #[.string v,.bool false])) P) (((0:Int)<=((ByteArray.size c6:Nat):Int)/\(((ByteArray.size c6:Nat):Int):Int)<=((ByteArray.size v:Nat):Int)/\rt z ((.tuple #[.string (ByteArray.extract v (Int.toNat ((ByteArray.size c6:Nat):Int)) (ByteArray.size v)),.bool true])) P))) (pE z)):ZG 297 #[.string v,.string c6] b z:=DC fT Tryz.func297 rfl a
def zi:jr:=⟨[],[],[],[],[(11,⟨[0,1,0,4,10,18,48,64,192,320,576,1088],[4095,4094,4095,4091,4087,4077,4063,4031,3903,3775,3519,3007],[0,2,0,0,2,0,0,0,0,1,0,0]⟩)]⟩
def zj(o:an (decide ((a:Int)<4)) (rt z ((.tuple #[.ii 0,.ii 4])) b) (((0:Int)<=1/\(1:Int)<=4/\(4:Int)<=(c:Int)/\PC_ 299 #[.slice (cg d (Int.toNat 1) c 1) (Int.toNat 4-Int.toNat 1) (c-Int.toNat 1)] b (λp e=>∃P,p= .int .u32 P/\(ix_ d 0 a λq r=>(∃g,e.cell? (ad q (r+Int.toNat 0))=some (.int .u8 g)/\an (g==0) (rt z ((.tuple #[.ii 0,.ii 2])) e) (an (decide (((XG .i64 P):Int)>65536)) (rt z ((.tuple #[.ii 0,.ii 5])) e) (an (decide ((a:Int)<(XG .i64 ((XG .i64 (4+(XG .i64 P)))+5)))) (rt z ((.tuple #[.ii 0,.ii 4])) e) (((0:Int)<=(XG .i64 (4+(XG .i64 P)))/\((XG .i64 (4+(XG .i64 P))):Int)<=(c:Int)/\((0:Int)<=(XG .i64 (4+(XG .i64 P)))/\((XG .i64 (4+(XG .i64 P))):Int)<=(XG .i64 ((XG .i64 (4+(XG .i64 P)))+5))/\((XG .i64 ((XG .i64 (4+(XG .i64 P)))+5)):Int)<=(c:Int)/\(∀h,bC e h->(∀i,bC h i->((0:Int)<=4/\(4:Int)<=(((c-Int.toNat (XG .i64 (4+(XG .i64 P)))):Nat):Int)/\PC_ 284 #[.slice d (Int.toNat (XG .i64 (4+(XG .i64 P)))) c] i (λs t=>∃j,s= .int .u32 j/\PC_ 299 #[.slice (cg d (Int.toNat (XG .i64 (4+(XG .i64 P)))) c 1) (Int.toNat 4) (c-Int.toNat (XG .i64 (4+(XG .i64 P))))] t (λu f=>∃k,u= .int .u32 k/\an (j !=k) (rt z ((.tuple #[.ii 0,.ii 6])) f) ((∃l m,(cg d (Int.toNat (XG .i64 (4+(XG .i64 P)))) c 1)=some ⟨l,m,none⟩/\(0:Int)<=4/\4<((Int.toNat (XG .i64 ((XG .i64 (4+(XG .i64 P)))+5))-Int.toNat (XG .i64 (4+(XG .i64 P))):Nat):Int)/\(∃n,f.cell? (ad l (m+Int.toNat 4))=some (.int .u8 n)/\an (n !=10) (rt z ((.tuple #[.ii 0,.ii 6])) f) (rt z ((.tuple #[.ii (XG .i64 P),.ii 0])) f))))) (pZ z)) (pZ z)))))))))))) (pE z)))):ZG 251 #[.slice d a c] b z:=DC zi Tryz.func251 rfl o
end
end Go.Proofs.YtblabbpipmodgaaGreatDoor
namespace Go.aw
open Go
def zJ(P:List UInt8)(a:Nat)(b:(P.getD 1 0).toNat*65536+(P.getD 2 0).toNat*256+(P.getD 3 0).toNat=a):
  bj P=if P.length<4 then⟨0,[],0,4⟩else if P.getD 0 0=0 then⟨0,[],0,2⟩else if 65536<a then⟨0,[],0,5⟩else if P.length<a+9 then⟨0,[],0,4⟩else
   if P.take (a+9)=fC (P.getD 0 0).toNat ((P.drop 4).take a)then⟨(P.getD 0 0).toNat,(P.drop 4).take a,a+9,0⟩else⟨0,[],0,6⟩:=by
 unfold bj;rw[b]
variable{w:List UInt8}
def NM(P:(bj w).no=0):(bj w).kind=((w.getD 0 0).toNat:Int)/\(bj w).body=(w.drop 4).take ((bj w).n-9)/\4<=w.length:=by
 rw[zJ w _ rfl]at P⊢;split at P
 ·cases P
 rename_i a;rw[Zq a];split at P
 ·cases P
 rename_i b;rw[Zq b];split at P
 ·cases P
 rename_i c;rw[Zq c];split at P
 ·cases P
 rename_i d;rw[Zq d];split at P
 ·rename_i e
  rw[Zx e];exact⟨rfl,sM,oM⟩
 ·cases P
end Go.aw
namespace Go.Proofs.YtblabbpipmodgaaGreatDoor
section
open Go.aw
def zK(P:List UInt8):List Value:=P.map λa=>Value.int .u8 (a.toNat:Int)
variable{e:Int}{w:List UInt8}{a c:Nat}{d:ZH}{b:World}
def Cv{f:Nat×Nat}(P:List UInt8)(c:b.heap[a]? =some (.cells (zK P).toArray 5 f))(e:P.length<=1000):Row fe 1 b (·=a) (XM a) P.length P:=
 Row.lit (enc:=λd:UInt8=>Value.int .u8 (d.toNat:Int)) c P (by simp[zK]) (λ_ _=>trivial) ba
def Cw{D:XN}(A:oG b)(f:Row fe 1 b D d a w)(B:∀P,D P->P<b.heap.size):
  ZG 222 #[.agg #[XH e,.slice d a c]] b (Ok λC E=>∃u,C= .tuple #[u,XH (jk e w).2]/\od fe 5 b (jk e w).1 u E):=by
 have F:=f.len;refine F_ (PA.mk λi k s1 l=>⟨d,a,c,ae l rfl,_,ae l rfl,an.dec (λh=>?_) (λh1=>⟨_,ae l rfl,an.dec (λh=>?_) (λh2=>an.dec (λh=>?_) (λh3=>?_))⟩)⟩)
 ·rw[show jk e w=([],2) by unfold jk;rw[Zx oM]]
  exact Ok.mk ⟨_,rfl,none,0,0,λ_=>False,rfl,aO.nil i,k,λ_ h=>h.elim⟩
 ·rw[show jk e w=([],2) by unfold jk;rw[Zx oM]]
  exact Ok.mk ⟨_,rfl,none,0,0,λ_=>False,rfl,aO.nil i,k,λ_ h=>h.elim⟩
 ·rw[show jk e w=([],5) by unfold jk;rw[Zq oM,Zx oM]]
  exact Ok.mk ⟨_,rfl,none,0,0,λ_=>False,rfl,aO.nil i,k,λ_ h=>h.elim⟩
 rw[show jk e w=(fC e w,0) by unfold jk;rw[Zq oM,Zq oM]];refine⟨_,ae l rfl,PA.mk λH m s2 I=>⟨d,a,c,ae (m.get l id) rfl,PA.mk λo n s3 J=>?_⟩⟩;have K:iP .i64 ((a:Nat):Int) 16=((a/65536:Nat):Int):=K_ (k:=.i64) (u:=a) (m:=16) dC;have L:iP .i64 ((a:Nat):Int) 8=((a/256:Nat):Int):=K_ (k:=.i64) (u:=a) (m:=8) dC;have M:e=((e.toNat:Nat):Int):=oM
 have N:H.heap[i.heap.size]? =some (.cells (zK [UInt8.ofNat e.toNat,UInt8.ofNat (w.length/65536),UInt8.ofNat (w.length/256),UInt8.ofNat w.length]).toArray 5 (0,0)):=by
  rw[I,K,L,M,iD,iD,iD,iD,F];simp[zK]
 have O:Row fe 1 o (λP=>D P\/P=i.heap.size) (XM i.heap.size) 4 [UInt8.ofNat e.toNat,UInt8.ofNat (w.length/65536),UInt8.ofNat (w.length/256),UInt8.ofNat w.length]:=
  (Cv (f:=(0,0)) [UInt8.ofNat e.toNat,UInt8.ofNat (w.length/65536),UInt8.ofNat (w.length/256),UInt8.ofNat w.length] (n.get N id) sM).mono λP f=>.inr f
 have Q:Row fe 1 o (λP=>D P\/P=i.heap.size) d a w:=(f.ah ((k.then m).then n)).mono λP f=>.inl f;refine PC.ok (zI J O Q (λP f=>f.elim (λh=>by have:=B P h;omega) λh=>oM) oM ba) ?_;rintro _ p ⟨a4,n4,c4,F4,rfl,j,R,v⟩;have S:[UInt8.ofNat e.toNat,UInt8.ofNat (w.length/65536),UInt8.ofNat (w.length/256),UInt8.ofNat w.length]++w=lj e w:=rfl;rw[S]at j;have a8:=j.len dC;have q:(lj e w).length=4+w.length:=by simp[lj];omega
 have r:ai b p:=((k.then m).then n).then R;refine⟨_,_,_,rfl,PC.ok (Kh (A.ah r) (j.row (bytes:=1) dC (by rw[q];unfold aI;omega))) ?_⟩;rintro _ s ⟨rfl,T⟩;have t:ai p s:=T.af;refine⟨_,rfl,?_⟩;generalize U:(Lu (lj e w)).toNat=g;have V:iP .u32 (g:Int) 24=((g/16777216:Nat):Int):=K_ (k:=.u32) (u:=g) (m:=24) dC;have W:iP .u32 (g:Int) 16=((g/65536:Nat):Int):=K_ (k:=.u32) (u:=g) (m:=16) dC;have X:iP .u32 (g:Int) 8=((g/256:Nat):Int):=K_ (k:=.u32) (u:=g) (m:=8) dC;refine PA.mk λY x s6 Z=>?_;have a1:Y.heap[s.heap.size]? =some (.cells (zK (NN g++[10])).toArray 5 (0,0)):=by rw[Z,V,W,X,iD,iD,iD,iD];rfl
 have a2:=(j.ah t).ah x;have a9:p.heap.size<=s.heap.size:=t.size;refine jK a2 rJ (Cv (NN g++[10]) a1 (by simp[NN])) (λP y=>⟨oM,λe2=>by have:=j.aC P (j.self P e2);omega⟩) (by rw[q];unfold aI;simp[NN];omega) (by rw[q];unfold maxLen;simp[NN];omega) λz c7 w7 F7 a3 a5 _ a6=>?_;refine⟨_,_,_,rfl,Ok.mk ⟨_,rfl,z,_,c7,λP=>aF z=some P,rfl,?_,?_,?_⟩⟩
 ·have h7:=a3.alone
  have y:fC e w=lj e w++(NN g++[10]):=by unfold fC;rw[U,XQ]
  rw[y];exact h7
 ·exact((r.then t).then x).new a5 λP f=>.inr (by have:=v P (j.self P f);have:=k.size;have:=m.size;have:=n.size;omega)
 ·intro P f
  have b0:b.heap.size<=o.heap.size:=oM
  rcases a6 P f with h|h
  ·have:=v P h;omega
  ·have:=r.size;omega
def Gu{D:XN}(C:oG b)(g:Row fe 1 b D d a w)(q:a<=c):
  ZG 251 #[.slice d a c] b (Ok λE F=>E= .tuple #[XH (((bj w).n-9:Nat):Int),XH (bj w).no]/\bC b F):=by
 have W:=g.len;have H:=g.dq;unfold aI at H;generalize r:(w.getD 1 0).toNat*65536+(w.getD 2 0).toNat*256+(w.getD 3 0).toNat=P;have e:=zJ w P r;refine zj (an.dec (λl=>?_) (λX=>?_))
 ·rw[e,Zx oM]
  exact Ok.mk ⟨rfl,bC.refl b⟩
 rw[Zq (show¬w.length<4 by omega)]at e;refine⟨oM,oM,oM,PC.ok (tO (bs:=(w.take 4).drop 1) (g.part (lo:=1) (hi:=4) (cap:=c) oM oM q) dC) ?_⟩;rintro _ Y ⟨rfl,rfl⟩;have I:fI ((w.take 4).drop 1)=P:=by
  rw[Ri oM];show fI [w.getD 1 0,w.getD 2 0,w.getD 3 0]=P;simp only[fI,List.foldl];omega
 have Z:P<16777216:=by
  have h1:=(w.getD 1 0).toNat_lt;have h2:=(w.getD 2 0).toNat_lt;have h3:=(w.getD 3 0).toNat_lt;omega
 rw[I];obtain⟨j,f,s,rfl,J,_,h⟩:=g.ko (i:=0) oM;have i:w.getD 0 0=s:=by rw[QQ,J];rfl
 have K:XG .i64 (P:Int)=(P:Int):=wrap_i64 bb;have L:XG .i64 (4+(P:Int))=((4+P:Nat):Int):=by rw[wrap_i64 bb];omega
 have M:XG .i64 (((4+P:Nat):Int)+5)=((4+P+5:Nat):Int):=by rw[wrap_i64 bb];omega
 refine⟨_,rfl,j,f,rfl,oM,oM,_,h,?_⟩;rw[K,L,M];refine an.dJ (λl=>?_) (λm=>an.dec (λl=>?_) (λa8=>an.dec (λl=>?_) (λa7=>?_)))
 ·rw[e,i,Zx (UInt8.toNat_inj.1 (by
                        have:s.toNat=0:=oM
                        rw[this];rfl))]
  exact Ok.mk ⟨rfl,bC.refl b⟩
 ·rw[e,i,Zq (by rintro rfl;exact m rfl),Zx oM]
  exact Ok.mk ⟨rfl,bC.refl b⟩
 ·rw[e,i,Zq (by rintro rfl;exact m rfl),Zq oM,Zx oM]
  exact Ok.mk ⟨rfl,bC.refl b⟩
 rw[i,Zq (by rintro rfl;exact m rfl),Zq (show¬65536<P by omega),Zq (show¬w.length<P+9 by omega)]at e;have k:=RX (b:=w) (n:=P) oM r oM;rw[i]at k;refine⟨oM,oM,oM,oM,oM,λw8 t N u=>⟨oM,oM,?_⟩⟩;have v:ai b N:=(t.then u).af;have x:=g.ah v;refine PC.ok (Kh (C.ah v) (x.take (m:=4+P) oM)) ?_;rintro _ O ⟨rfl,y⟩;have z:=x.ah y.af;have A:=z.part (lo:=4+P) (hi:=4+P+4) (cap:=c) oM oM q;rw[show 4+P+4-(4+P)=4 by omega]at A;refine⟨_,rfl,PC.ok (tO A dC) ?_⟩;rintro _ a9 ⟨rfl,rfl⟩;have Q:(w.take (4+P+4)).drop (4+P)=(w.drop (4+P)).take 4:=by rw[List.drop_take];congr 1;omega
 rw[Q];have n:bC b O:=(t.then u).then y;refine⟨_,rfl,an.df (λo=>?_) (λb0=>?_)⟩
 ·rw[e,Zq (λh=>o (by rw[(k.1 h).1]))]
  exact Ok.mk ⟨rfl,n⟩
 obtain⟨b7,o8,p,R,S,_,T⟩:=z.ko (i:=8+P) oM
 cases R
 have B:w.getD (8+P) 0=p:=by rw[QQ,S];rfl
 have U:cg (some ⟨j,f,none⟩) (4+P) c 1=some ⟨j,f+(4+P),none⟩:=by
  unfold cg;rw[Zq oM];simp[Addr.add_lit]
 refine⟨j,f+(4+P),U,oM,oM,_,by rw[show f+(4+P)+Int.toNat 4=f+(8+P) by show f+(4+P)+4=_;omega];exact T,an.df (λo=>?_) (λhe=>?_)⟩
 ·rw[e,Zq (λh=>o (by rw[<-B,(k.1 h).2];rfl))]
  exact Ok.mk ⟨rfl,n⟩
 ·have V:p=10:=UInt8.toNat_inj.1 (by show p.toNat=10;omega)
  rw[e,Zx (k.2 ⟨oM,B.trans V⟩)];exact Ok.mk ⟨sM,n⟩
def Cx{D:XN}(R:oG b)(e:Row fe 1 b D d a w)(s:a<=c)(t:∀P,D P->P<b.heap.size):
  ZG 182 #[.slice d a c] b (Ok λS u=>∃v x y z,S= .tuple #[.agg #[XH (bj w).kind,.slice v x y],XH ((bj w).n:Int),XH (bj w).no]/\
   aO fe 5 z u v x y (bj w).body/\ai b u/\∀P,z P->b.heap.size<=P):=by
 have hn:=e.len;have T:=e.dq;unfold aI at T;refine FX (PA.mk λA i s1 U=>PC.ok (Gu (R.ah i) (e.ah i) s) ?_);rintro _ B ⟨rfl,V⟩;have j:ai A B:=V.af;have C:=j.get U id;refine⟨_,_,rfl,an.df (λk=>?_) (λl=>?_)⟩
 ·have m:(bj w).kind=0/\(bj w).body=[]/\(bj w).n=0:=by
   rw[zJ w _ rfl]at k⊢
   repeat' split
   all_goals first|exact⟨rfl,rfl,rfl⟩|skip
   rename_i W X Y Z h5;rw[Zq W,Zq X,Zq Y,Zq Z,Zx h5]at k;exact Zz rfl k
  rw[m.1,m.2.1,m.2.2];refine storeAll [XH 0,.slice none 0 0] C rfl λg h s3 E=>⟨0,none,0,0,ae E rfl,ae E rfl,Ok.mk ⟨none,0,0,λ_=>False,rfl,aO.nil g,?_,λ_ n=>n.elim⟩⟩
  exact(i.then j).new h λP e=>.inr oM
 obtain⟨a0,h9,a1⟩:=tP l;generalize a2:(bj w).n=f at a0 h9 a1;obtain⟨a3,F,b1⟩:=NM l;rw[a2]at F;have H:(bj w).kind=((w.getD 0 0).toNat:Int)/\(bj w).body=(w.drop 4).take (f-9):=⟨a3,F⟩
 intro g a5;have h:ai B g:=a5.af;have o:ai b g:=(i.then j).then h;have p:=e.ah o;obtain⟨I,o6,J,rfl,hx,_,hc⟩:=p.ko (i:=0) oM;obtain⟨b2,b3,x',es,a6,_,a7,_⟩:=p.vy (i:=0) oM
 cases a6
 have a8:w.getD 0 0=J:=by rw[QQ,hx];rfl
 have K:XG .i64 (4+((f-9:Nat):Int))=((4+(f-9):Nat):Int):=by rw[wrap_i64 bb];omega
 have e9:XG .i64 (((4+(f-9):Nat):Int)+5)=(f:Int):=by rw[wrap_i64 bb];omega
 refine⟨λP=>b.heap.size<=P,I,o6,rfl,oM,oM,by have:=t I a7;omega,_,hc,?_⟩;refine⟨oM,oM,oM,?_⟩;have a4:=p.part (lo:=4) (hi:=4+(f-9)) (cap:=c) oM oM s;refine PC.ok (by rw[K];exact jJ a4 (λP n=>by have:=t P n;have:=o.size;omega)) ?_;rintro _ w4 ⟨L,M,N,F4,rfl,a9,q,O⟩;have b4:A.heap.size<=g.heap.size:=(j.then h).size;have g4:=q.get (h.get C id) id;refine⟨_,_,_,rfl,q.af,?_⟩;refine storeAll [XH (XG .i64 (J.toNat:Int)),.slice L M N] g4 rfl λw5 r s5 Q=>⟨r.mono λP _ b0=>oM,_,_,_,_,ae Q rfl,ae Q rfl,Ok.mk ⟨L,M,N,F4,?_,?_,?_,?_⟩⟩
 ·rw[IS,H.1,a8,l,K,e9]
 ·rw[H.2,<-show(w.take (4+(f-9))).drop 4=(w.drop 4).take (f-9) by rw[List.drop_take];congr 1;omega]
  exact a9.af r λP e b0=>by have:=O P e;omega
 ·exact(o.then q).new r λP e=>.inr oM
 ·intro P e;have:=O P e;omega
end
section
open Go.aw
variable{V p:Array Value}{a7:FrameMode}{y:FuncId}{e:Int}{b0 u:List Int}{a4:List PanicEntry->XU}{w:List UInt8}{F:List aj}{a c i:Nat}{f:XN}{Q W:Operand}{d r:ZH}{h:Program}{b:World}{x:XU}{l:aj}{Y:lf}
def Ow(l:eE b a f Y):
  ZG 254 #[XL a,XH e] b (Ss b a f Y (if Y.num.1=0 then(if Y.num.2.1<0\/e<Y.num.2.1 then 3 else 0)else Y.num.1) (λj m=>j= XH Y.num.2.1) Y.num.2.2):=by
 refine qJ (PC.red (CQ l) ?_ ?_)
 rotate_left
 ·intro d k g h i
  rw[Zq d];exact⟨.inr ⟨d,rfl,g⟩,h,i⟩
 rintro d _ k g rfl h i;rw[Zx d];have c:Y.num.2.1<0\/e<Y.num.2.1->Ss b a f Y (if Y.num.2.1<0\/e<Y.num.2.1 then 3 else 0) (λj m=>j= XH Y.num.2.1) Y.num.2.2 (.panicked (Rq 3)) k:=λP=>by
  rw[Zx P];exact⟨.inr ⟨dC,rfl,_,g⟩,h,i⟩
 refine⟨_,rfl,an.dec (λn=>fj (λP=>⟨rfl,?_⟩) (λP=>c (.inr ?_))) (λn=>fj (λP=>by cases P) (λ_=>c (.inl oM)))⟩
 ·have P:=XV P
  rw[Zq oM];exact⟨.inl ⟨rfl,g,_,rfl,rfl⟩,h,i⟩
 ·have P:=Xy P
  omega
def G_:(do eqGuard .eql 20 Q (.const .nilIface) .nilIface .nilIface;binOp .eql 20 .nilIface .nilIface:Sem Value).run XP b= .ok (.bool true) b:=by
 cases Q<;>rfl
def EE:(do eqGuard .eql 20 Q W (.iface 376 (XH e)) .nilIface;binOp .eql 20 (.iface 376 (XH e)) .nilIface:Sem Value).run XP b= .ok (.bool false) b:=by
 rfl
def Ha:(Instr.typeAssert (.iface 376 (XH e)) 20 376 true).run XP b= .ok (.tuple #[XH e,.bool true]) b:=by
 rfl
def Lv.ret{ret:XU}(P:a7= .returning)(a:ret b):Lv h ret a4 [] a7 b:=by
 subst P;unfold Lv;exact a
def Lv.one{w:World}(b:a7≠.run)(c:enters h y=true)(d:CallsD h y p a7 w λe P a=>Oa e (λ_=>Lv h x a4 [] (settle P) a) (λf=>Lv h x a4 [] (raised P f) a)):Lv h x a4 [{target:=.fn (.func y) p,args:= #[]}] a7 w:=
 ⟨b,y,p,rfl,c,by rw[show(#[]++p:Array Value)=p by simp];exact d⟩
def Az{i S:XN}(e:eE b a i Y)(I:enters XP y=true){A:XU}{no:Int}(s:∀f,S f->f<b.heap.size)(J:Y.uj=0->∀d,ai b d->ZG y (p++ #[]++V) d λc P=>ak S d P/\((no=0/\c= .returned (.tuple #[])/\A P)\/(no≠0/\(no=3\/no=4\/no=5)/\c= .panicked (Rq no)/\ak (·=a) d P/\∃t,eE P a i ⟨Y.bytes,t,0⟩))):
  ZG 252 #[XL a,.func (.func y) p V] b (Ok λK P=>K= .tuple #[]/\ak (λf=>S f\/f=a) b P/\
   ((Y.uj≠0/\ai b P)\/(Y.uj=0/\no=0/\ak S b P/\A P)\/(Y.uj=0/\no≠0/\ak (·=a) b P/\eE P a i ⟨Y.bytes,Y.pos,no⟩))):=by
 obtain⟨a0,a2,L,G,u,h2,h3⟩:=e.body;have hp:=ay u;refine nP (PA.mk λd j s1 k=>?_);have v:=j.get u id;refine⟨_,ae k rfl,a,0,rfl,_,ae v rfl,an.df (λM=>Ok.mk ⟨rfl,j.af,.inl ⟨M,j⟩⟩) (λl=>?_)⟩;refine⟨_,ae k rfl,a,0,rfl,_,ae v rfl,PA.mk λw2 N s2 O=>PS.mk O sM λm Q s3 R=>⟨y,p,V,rfl,I,?_⟩⟩;have w:ak (·=d.heap.size) d m:=N.af.then Q;have n:ai b m:=j.new w λf hb=>.inr oM;refine(J l m n).mono ?_;rintro c g ⟨o,T⟩;have x:g.heap[b.heap.size]? =some (.cells #[XL a] 295 (0,0)):=o.get (w.get k (by intro c;omega)) (λq=>by have:=s _ q;omega);have U:g.heap[d.heap.size]? =some (.cells #[XH (Y.pos:Int)] 3 (0,0)):=o.get R (λq=>by have:=s _ q;omega);have z:ak S b g:=n.af.then o;rcases T with⟨r,rfl,W⟩|⟨r,X,rfl,Z,t,B⟩
 ·refine⟨rfl,Lv.one sM kR ?_⟩
  refine CallsD.mono (fw (rv:=.nilIface) (u:=.returning) rfl (R:=λc h P=>c= .returned (.tuple #[])/\h= .returning/\P=g) ?_) ?_
  ·exact aE.mk G_ ⟨_,rfl,an.tt rfl ⟨rfl,rfl,rfl⟩⟩
  ·rintro c h P ⟨rfl,rfl,rfl⟩
   refine Lv.ret rfl ?_;exact Ok.mk ⟨rfl,z.mono λ_ _ e=>.inl e,.inr (.inl ⟨l,r,z,W⟩)⟩
 ·refine Lv.one sM kR ?_
  obtain⟨a',n',C,G',e1,e2,e3⟩:=B.body;refine CallsD.mono (fw (rv:=.iface 376 (XH no)) (u:=.panicking (Rq no)) rfl (R:=λc h P=>c= .returned (.tuple #[])/\settle h= .returning/\eE P a i ⟨Y.bytes,Y.pos,no⟩/\ak (·=a) b P) ?_) ?_
  ·refine aE.mk (v:=.bool false) (w':=g) ?_ ⟨_,rfl,an.ff rfl (aE.mk (v:=.tuple #[XH no,.bool true]) (w':=g) ?_ ⟨_,_,rfl,an.tt rfl ?_⟩)⟩
   ·exact EE
   ·exact Ha
   ·refine⟨_,ae x rfl,_,ae x rfl,_,ae U rfl,a,0,rfl,PS.mk e1 sM λw5 E s5 g5=>⟨a,0,rfl,PS.mk g5 sM λw6 F s6 g6=>⟨rfl,rfl,?_,?_⟩⟩⟩
    ·exact B.dX (r':=⟨Y.bytes,Y.pos,no⟩) e2 e3 (E.then F) g6 rfl ⟨e.fit.pos,.inr X⟩
    ·exact(n.af.then Z).then (E.then F)
  ·rintro c h P ⟨rfl,eQ,a1,H⟩
   refine Lv.ret eQ ?_;exact Ok.mk ⟨rfl,H.mono λ_ _ e=>.inr e,.inr (.inr ⟨l,r,H,a1⟩)⟩
def Ec(P:eE b a f Y):
  ZG 185 #[XL a] b (Ok λq h=>q= XH (eV Y).1/\eE h a f (eV Y).2/\ak (·=a) b h):=by
 have O:a<b.heap.size:=P.aC a P.self;refine tr (PA.mk λl F Q w=>PA.mk λH r R s=>⟨_,ae (r.get w id) rfl,?_⟩);have x:ai b H:=F.then r;have t:=P.ah x;have I:=r.get w id;refine PC.ok (Az (S:=λg=>g=a\/g=l.heap.size) (no:=Y.num.1) (A:=λh=>eE h a f ⟨Y.bytes,Y.pos+Y.num.2.2,Y.uj⟩/\h.heap[l.heap.size]? =some (.cells #[XH Y.num.2.1] 3 (0,0))) t kR ?_ ?_) ?_
 ·rintro g (rfl|rfl)<;>omega
 ·intro J m p
  refine qK ⟨_,ae (p.get I id) rfl,PC.red (CQ (t.ah p)) ?_ ?_⟩
  ·rintro i _ y c rfl j z
   have u:=j.get (p.get s id) oM;refine⟨_,rfl,PS.mk u sM λS A T K=>⟨(j.mono λ_ _ P=>.inl P).then (A.mono λ_ _ P=>.inr P),.inl ⟨i,rfl,c.af A λg n e=>?_,K⟩⟩⟩;have:=P.aC g n;omega
  ·rintro i y c j z
   rw[J]at c;have:=iK (Y.bytes.drop Y.pos);exact⟨j.mono λ_ _ P=>.inl P,.inr ⟨i,by have:=this.2.2.2.1;unfold lf.num at i⊢;omega,rfl,j,c⟩⟩
 ·rintro _ m ⟨rfl,p,L⟩
  have M:ak (·=a) b m:=x.af.new p λg n=>by
   rcases n with(rfl|rfl)|rfl
   ·exact .inl rfl
   ·exact .inr oM
   ·exact .inl rfl
  have d:∀v:Int,m.heap[l.heap.size]? =some (.cells #[XH v] 3 (0,0))->eE m a f (eV Y).2->v=(eV Y).1->
    (∃B:Int,m.cell? ⟨l.heap.size,0,none⟩=some (XH B)/\PS m ⟨l.heap.size,0,none⟩ (XH B) λC=>∃E:Int,C.cell? ⟨l.heap.size,0,none⟩=some (XH E)/\
     Ok (λq h=>q= XH (eV Y).1/\eE h a f (eV Y).2/\ak (·=a) b h) (.returned (XH E)) C):=by
   rintro v k c rfl;refine⟨_,ae k rfl,PS.mk k sM λy j z u=>⟨_,ae u rfl,Ok.mk ⟨rfl,c.af j λg n e=>?_,M.new j λg n=>.inr oM⟩⟩⟩;have:=P.aC g n;omega
  refine⟨rfl,?_⟩;rcases L with⟨o,k⟩|⟨o,i,_,c,k⟩|⟨o,i,N,c⟩
  ·have e:eV Y=(0,Y):=by unfold eV;rw[Zx o]
   exact d 0 (k.get s id) (by rw[e];exact t.ah k) (by rw[e])
  ·have e:eV Y=(Y.num.2.1,⟨Y.bytes,Y.pos+Y.num.2.2,0⟩):=by unfold eV;rw[Zq (by simp[o]),Zx i]
   exact d _ k (by rw[e];rw[o]at c;exact c) (by rw[e])
  ·have e:eV Y=(0,⟨Y.bytes,Y.pos,Y.num.1⟩):=by unfold eV;rw[Zq (by simp[o]),Zq i]
   exact d 0 (N.get s oM) (by rw[e];exact c) (by rw[e])
def Gt{m:Int}(c:eE b a f Y):
  ZG 184 #[XL a,XH m] b (Ok λv j=>v= XH (bW m Y).1/\eE j a f (bW m Y).2/\ak (·=a) b j):=by
 have X:a<b.heap.size:=c.aC a c.self;refine qE (PA.mk λZ M s1 C=>PA.mk λn w sm N=>PA.mk λO u s2 x=>⟨_,ae (u.get (w.get C id) id) rfl,?_⟩);have E:ai b O:=(M.then w).then u;have y:=c.ah E;have Q:=u.get (w.get C id) id;have R:=u.get N id;generalize h:(if Y.num.1=0 then(if Y.num.2.1<0\/m<Y.num.2.1 then 3 else 0)else Y.num.1:Int)=no;refine PC.ok (Az (S:=λi=>i=a\/i=n.heap.size) (no:=no) (A:=λj=>eE j a f ⟨Y.bytes,Y.pos+Y.num.2.2,Y.uj⟩/\j.heap[n.heap.size]? =some (.cells #[XH Y.num.2.1] 3 (0,0))) y kR ?_ ?_) ?_
 ·rintro i (rfl|rfl)<;>omega
 ·intro S o p
  refine nZ ⟨_,ae (p.get Q id) rfl,_,ae (p.get R id) rfl,PC.red (Ow (y.ah p)) ?_ ?_⟩
  ·rintro d _ F e rfl k H
   rw[h]at d;have z:=k.get (p.get x id) oM;refine⟨_,rfl,PS.mk z sM λw5 I s5 T=>⟨(k.mono λ_ _ c=>.inl c).then (I.mono λ_ _ c=>.inr c),.inl ⟨d,rfl,e.af I λi q P=>?_,T⟩⟩⟩;have:=c.aC i q;omega
  ·rintro d F e k H
   rw[h]at d⊢;rw[S]at e;have A:=(iK (Y.bytes.drop Y.pos)).2.2.2.1;refine⟨k.mono λ_ _ c=>.inl c,.inr ⟨d,?_,rfl,k,e⟩⟩
   change Y.num.1=0\/Y.num.1=4\/Y.num.1=5 at A
   rw[<-h]at d⊢;split
   ·rename_i P
    rw[Zx P]at d;split
    ·exact .inl rfl
    ·rename_i s;rw[Zq s]at d;exact Zz rfl d
   ·omega
 ·rintro _ o ⟨rfl,p,U⟩
  have V:ak (·=a) b o:=E.af.new p λi q=>by
   rcases q with(rfl|rfl)|rfl
   ·exact .inl rfl
   ·exact .inr oM
   ·exact .inl rfl
  have g:∀B:Int,o.heap[n.heap.size]? =some (.cells #[XH B] 3 (0,0))->eE o a f (bW m Y).2->B=(bW m Y).1->
    (∃J:Int,o.cell? ⟨n.heap.size,0,none⟩=some (XH J)/\PS o ⟨n.heap.size,0,none⟩ (XH J) λK=>∃L:Int,K.cell? ⟨n.heap.size,0,none⟩=some (XH L)/\
     Ok (λv j=>v= XH (bW m Y).1/\eE j a f (bW m Y).2/\ak (·=a) b j) (.returned (XH L)) K):=by
   rintro B l e rfl;refine⟨_,ae l rfl,PS.mk l sM λF k H z=>⟨_,ae z rfl,Ok.mk ⟨rfl,e.af k λi q P=>?_,V.new k λi q=>.inr oM⟩⟩⟩;have:=c.aC i q;omega
  refine⟨rfl,?_⟩;rcases U with⟨r,l⟩|⟨r,d,_,e,l⟩|⟨r,d,W,e⟩
  ·have P:bW m Y=(0,Y):=by unfold bW;rw[Zx r]
   exact g 0 (l.get x id) (by rw[P];exact y.ah l) (by rw[P])
  ·have P:bW m Y=(Y.num.2.1,⟨Y.bytes,Y.pos+Y.num.2.2,0⟩):=by
    have A:=(iK (Y.bytes.drop Y.pos)).2.2.2.1
    change Y.num.1=0\/Y.num.1=4\/Y.num.1=5 at A
    unfold bW;rw[Zq (by simp[r])];split at h
    ·rename_i t
     rw[Zx t];split at h
     ·omega
     ·rename_i s;rw[Zq s]
    ·omega
   exact g _ l (by rw[P];rw[r]at e;exact e) (by rw[P])
  ·have P:bW m Y=(0,⟨Y.bytes,Y.pos,no⟩):=by
    unfold bW;rw[Zq (by simp[r])];split at h
    ·rename_i t
     rw[Zx t];split at h
     ·rename_i s;rw[Zx s,h]
     ·omega
    ·rename_i t;rw[Zq t,h]
   exact g 0 (W.get x oM) (by rw[P];exact e) (by rw[P])
def Kk(g:eE b a f Y):
  ZG 186 #[XL a] b (Ok λh i=>h= XH (jM Y)/\bC b i):=by
 obtain⟨n,o,j,G,c,k,p⟩:=g.body;have q:=k.len dC;have e:Y.uj≠0\/¬Y.pos<Y.bytes.length->jM Y=Y.uj:=λr=>by unfold jM;rw[Zq oM]
 refine rZ ⟨a,0,rfl,_,ae c rfl,an.dJ (λd=>⟨a,0,rfl,_,ae c rfl,a,0,rfl,_,_,_,ae c rfl,λl P=>an.dec (λm=>?_) λm=>?_⟩) (λd l P=>?_)⟩
 ·exact Ok.mk ⟨by unfold jM;rw[Zx ⟨d,oM⟩],P⟩
 ·exact⟨a,0,rfl,_,ae ((P.af (S:=λ_=>False)).get c id) rfl,Ok.mk ⟨by rw[e (.inr oM)],P⟩⟩
 ·exact⟨a,0,rfl,_,ae ((P.af (S:=λ_=>False)).get c id) rfl,Ok.mk ⟨by rw[e (.inl d)],P⟩⟩
def qV:iu XP 27 3 1 8:=⟨kR,kR,dC⟩
def aB(P:aj)(a:ZH)(b c:Nat):List Value:=
 [XH P.origin,XH P.seq,XH P.ax,.slice a b c,XH P.aT,XH P.agg,XH P.field,XH P.op,XH P.arg,XH P.key]
def fY:jh aj where
 k:=10
 rep:=λi D d cs=>∃P a b,cs=aB d P a b/\Row aG 8 i D P a d.aN/\d.Ok
 af:=λ⟨P,a,b,c,e,f⟩ j g=>⟨P,a,b,c,e.af j g,f⟩
 mono:=λ⟨P,a,b,c,e,f⟩ g=>⟨P,a,b,c,e.mono g,f⟩
 len:=λ⟨P,a,b,c,_,_⟩=>by rw[c];rfl
 one:=λ⟨P,a,b,c,_,_⟩ k h=>by
  rw[c]at h;simp only[aB,Q2,List.not_mem_nil,or_false]at h;rcases h with rfl|rfl|rfl|rfl|rfl|rfl|rfl|rfl|rfl|rfl<;>rfl
def oZ:jh aj where
 k:=10
 rep:=λm D f cs=>∃P a b c,cs=aB f P a b/\aO aG 3 c m P a b f.aN/\(∀d,c d->D d)/\f.Ok/\f.aN.length*8<=aI
 af:=λ⟨P,a,b,c,e,h,g,i⟩ n j=>⟨P,a,b,c,e,h.af n (λd k=>j d (g d k)),g,i⟩
 mono:=λ⟨P,a,b,c,e,h,g,i⟩ j=>⟨P,a,b,c,e,h,λd k=>j d (g d k),i⟩
 len:=λ⟨P,a,b,c,e,_⟩=>by rw[e];rfl
 one:=λ⟨P,a,b,c,e,_⟩ o l=>by
  rw[e]at l;simp only[aB,Q2,List.not_mem_nil,or_false]at l;rcases l with rfl|rfl|rfl|rfl|rfl|rfl|rfl|rfl|rfl|rfl<;>rfl
def oZ.read{D:XN}{cs:List Value}(P:oZ.rep b D l cs):fY.rep b D l cs:=by
 obtain⟨a,c,d,j,e,f,g,h,i⟩:=P;exact⟨a,c,d,e,(f.row dC i).mono g,h⟩
def oZ.row{D:XN}(P:Row oZ 96 b D d a F):Row fY 96 b D d a F:=
 ⟨P.len,P.dq,λe f g=>by
  obtain⟨h,c,i,j,k,l,m,n⟩:=P.el e f g;exact⟨h,c,i,j,k,l,m,oZ.read n⟩⟩
def Fg:iu XP 50 55 10 96:=⟨kR,kR,dC⟩
def Eb{s t:Nat}{l D:XN}{m S:Nat}(C:b.heap[a]? =some (.cells #[.slice d s t] 197 (0,0)))(h:aO fe 5 l b d s t w)(q:Row aG 8 b D r m u)(T:¬l a)(U:¬D a)(V:w.length+9*u.length+9<=aI):
  ZG 282 #[.slice r m S,XL a] b (Ok λW j=>W= .tuple #[]/\∃e f g k,j.heap[a]? =some (.cells #[.slice e f g] 197 (0,0))/\
   aO fe 5 k j e f g (w++bJ u)/\¬k a/\ak (·=a) b j/\∀P,k P->l P\/b.heap.size<=P):=by
 have X:=q.len;have a7:=ay C;have Y:=q.dq;unfold aI at Y;refine Bv ⟨λE i j=>∃c:Nat,i=c/\c<=m/\E=m-c/\∃e f g k,j.heap[a]? =some (.cells #[.slice e f g] 197 (0,0))/\
   aO fe 5 k j e f g (w++bJ (u.take c))/\¬k a/\ak (·=a) b j/\∀P,k P->l P\/b.heap.size<=P,
  ⟨_,0,rfl,Qj _,rfl,d,s,t,l,C,by simpa[bJ]using h,T,ak.refl _,λP v=>.inl v⟩,?_⟩
 rintro E i _ w1 ⟨c,rfl,hj,rfl,F,H,I,Z,x,n,a0,o,a1⟩;refine an.dec (λh1=>?_) (λh1=>?_)
 ·obtain⟨P,y,z,rfl,A,B,hc⟩:=(q.af o (λP h p=>U (p▸h))).ko (i:=c) oM
  refine⟨P,y,rfl,oM,oM,z,hc,F,H,I,ae x rfl,?_⟩;have a8:(bJ (u.take c)).length<=9*c:=by
   have:=eU (l:=u.take c) (λa9 hy=>by
    obtain⟨J,K⟩:=List.getElem?_of_mem (List.mem_of_mem_take hy);have a2:J<m:=by rw[X];exact(Qv.1 K).1
    obtain⟨_,_,b0,_,L,a3,_⟩:=q.ko (i:=J) a2;rw[K]at L;cases L;exact a3)
   simp only[Qy]at this;omega
  have a4:=n.len dC;rw[QX]at a4;unfold aI at V;refine PC.ok (zF B (n.row (bytes:=1) dC (by rw[QX];unfold aI;omega)) ba n.aC) ?_;rintro _ w2 ⟨a5,n2,c2,M,rfl,a6,N,O⟩;have Q:¬M a:=λv=>by have:=O a v;have:=o.size;omega
  refine⟨_,_,_,rfl,PS.mk (N.get x id) sM λw3 R s3 g3=>⟨_,oM,c+1,aq oM,oM,rfl,a5,n2,c2,M,g3,?_,Q,(o.ah N).then R,λP h=>.inr (Xx o.size (O P h))⟩⟩;rw[Qw,A];have p:w++bJ (List.take c u++(some z).toList)=w++bJ (List.take c u)++mU z:=by rw[gq];simp[bJ]
  rw[p];exact a6.af R λP h p=>Q (p▸h)
 ·rw[Qz oM]at n
  exact Ok.mk ⟨rfl,F,H,I,Z,x,n,a0,o,a1⟩
def zG{f:Nat×Nat}(P:List Int)(c:b.heap[a]? =some (.cells (P.map (Value.int .i64)).toArray 3 f))(d:∀e∈P,aK e)(g:P.length<=1000):Row aG 8 b (·=a) (XM a) P.length P:=
 Row.lit c P sM d ba
def LD{D:XN}(w:Row aG 8 b D d a l.aN)(P:l.Ok)(F:∀e,D e->e<b.heap.size):
  ZG 221 #[.agg (aB l d a c).toArray] b (Ok λH I=>∃x,H= .tuple #[x,XH (gX l).2]/\od fe 5 b (gX l).1 x I):=by
 have J:=w.len;refine FZ (PA.mk λj n s1 y=>⟨d,a,c,ae y rfl,an.dec (λh=>?_) (λh=>?_)⟩)
 ·have q:gX l=([],3):=by unfold gX;rw[Zx oM]
  rw[q];exact Ok.mk ⟨_,rfl,none,0,0,λ_=>False,rfl,aO.nil j,n,λ_ h=>h.elim⟩
 have a8:l.aN.length<=64:=oM
 have q:gX l=(bJ (jL l),0):=by unfold gX;rw[Zq oM]
 rw[q];have z:∀e,D e->e<j.heap.size:=λe g=>Qk (F e g) n.size;refine PA.mk λk r s2 K=>?_;have m:=r.get y id;refine⟨_,ae m rfl,_,ae m rfl,_,ae m rfl,_,_,_,ae m rfl,PA.mk λA B s3 L=>⟨_,_,_,rfl,kR,?_⟩⟩;have M:Row aG 8 A (·=k.heap.size) (XM k.heap.size) 4 [l.origin,l.seq,l.ax,(l.aN.length:Int)]:=
  zG (f:=(0,0)) [l.origin,l.seq,l.ax,(l.aN.length:Int)] (by rw[L,<-J];rfl) (by intro s f;simp at f;rcases f with rfl|rfl|rfl|rfl;exact P.origin;exact P.seq;exact P.ax;unfold aK;omega) sM
 refine PC.ok (Eb (B.get K id) (aO.nil A) M id (by show¬j.heap.size=k.heap.size;omega) (by unfold aI;simp)) ?_;rintro _ C ⟨rfl,a4,n4,c4,F4,N,O,Q,R,S⟩;have o:ak (·=j.heap.size) k C:=B.af.then R;have E:=o.get m oM;have T:Row aG 8 C D d a l.aN:=((w.ah (n.then r)).af o λe g l=>by have:=z e g;omega)
 refine⟨rfl,_,_,_,ae E rfl,_,_,_,rfl,kR,PC.ok (Eb N O T Q (λh=>by have:=z _ h;omega) ?_) ?_⟩
 ·have t:=eU (l:=[l.origin,l.seq,l.ax,(l.aN.length:Int)]) (by intro s f;simp at f;rcases f with rfl|rfl|rfl|rfl;exact P.origin;exact P.seq;exact P.ax;unfold aK;omega)
  simp only[List.nil_append,Xq,ZQ]at t⊢;unfold aI;omega
 rintro _ u ⟨rfl,a5,n5,c5,F5,U,V,W,v,X⟩;have i:=v.get E oM;refine⟨rfl,_,ae i rfl,_,ae i rfl,_,ae i rfl,_,ae i rfl,_,ae i rfl,_,ae i rfl,PA.mk λY p s6 Z=>⟨_,_,_,rfl,kR,?_⟩⟩;have r6:Row aG 8 Y (·=u.heap.size) (XM u.heap.size) 6 [l.aT,l.agg,l.field,l.op,l.arg,l.key]:=
  zG (f:=(0,0)) [l.aT,l.agg,l.field,l.op,l.arg,l.key] Z (by intro s f;simp at f;rcases f with rfl|rfl|rfl|rfl|rfl|rfl;exact P.aT;exact P.agg;exact P.field;exact P.op;exact P.arg;exact P.key) sM
 have a6:=o.size;have a9:=v.size;refine PC.ok (Eb (p.get U id) (V.ah p) r6 W (by show¬j.heap.size=u.heap.size;omega) ?_) ?_
 ·have t:=eU (l:=[l.origin,l.seq,l.ax,(l.aN.length:Int)]) (by intro s f;simp at f;rcases f with rfl|rfl|rfl|rfl;exact P.origin;exact P.seq;exact P.ax;unfold aK;omega)
  have h2:=eU P.aN;simp only[List.nil_append,Xq,ZQ,QX]at t h2⊢;unfold aI;omega
 rintro _ w7 ⟨rfl,a7,n7,c7,F7,g7,a2,b0,k7,a3⟩;refine⟨rfl,_,_,_,ae g7 rfl,Ok.mk ⟨_,rfl,a7,n7,c7,F7,rfl,?_,?_,?_⟩⟩
 ·have:jL l=[l.origin,l.seq,l.ax,(l.aN.length:Int)]++l.aN++[l.aT,l.agg,l.field,l.op,l.arg,l.key]:=rfl
  rw[this,gq,gq];exact a2
 ·have ka:ai b k:=n.then r
  exact(ka.new ((o.then v).then (p.af.then k7)) λe g=>.inr oM)
 ·intro e g
  rcases a3 e g with h|h
  ·rcases X e h with h|h
   ·rcases S e h with h|h
    ·exact h.elim
    ·omega
   ·omega
  ·have:=p.size;omega
def o_(a:List Int)(b:ZH)(c d:Nat)(P:List Int):List Value:=
 [XH (a.getD 0 0),XH (a.getD 1 0),XH (a.getD 2 0),.slice b c d,XH (P.getD 0 0),XH (P.getD 1 0),XH (P.getD 2 0),XH (P.getD 3 0),XH (P.getD 4 0),XH (P.getD 5 0)]
def IH(P:u.length=i)(b:i<3):(o_ u d a c b0).toArray.setIfInBounds i (XH e)=(o_ (u++[e]) d a c b0).toArray:=by
 match u,P with
 |[],P=>subst P;rfl
 |[_],P=>subst P;rfl
 |[_,_],P=>subst P;rfl
 |_::_::_::_,P=>simp at P;omega
def II(P:b0.length=i)(b:i<6):(o_ u d a c b0).toArray.setIfInBounds (4+i) (XH e)=(o_ u d a c (b0++[e])).toArray:=by
 match b0,P with
 |[],P=>subst P;rfl
 |[_],P=>subst P;rfl
 |[_,_],P=>subst P;rfl
 |[_,_,_],P=>subst P;rfl
 |[_,_,_,_],P=>subst P;rfl
 |[_,_,_,_,_],P=>subst P;rfl
 |_::_::_::_::_::_::_,P=>simp at P;omega
def kv(P:Nat)(a:lf):bd (P+1) a=((bd P a).1++[(eV (bd P a).2).1],(eV (bd P a).2).2):=rfl
def LF{D:XN}(f:Row fe 1 b D d a w)(hD:∀P,D P->P<b.heap.size):
  ZG 257 #[.slice d a c] b (Ok λa8 k=>∃a' n' c' v,a8= .tuple #[.agg (aB (iC w).1 a' n' c').toArray,XH (iC w).2]/\aO aG 3 v k a' n' c' (iC w).1.aN/\ai b k/\∀P,v P->b.heap.size<=P):=by
 refine Gb (PA.mk λw1 k1 s1 g1=>PC.ok (Ct (f.ah k1) (λP h=>by have:=hD P h;omega)) ?_);rintro _ i ⟨j,a0,rfl,T,k2,hP⟩;refine⟨_,rfl,PA.mk λw3 U s3 g3=>PA.mk λx y s4 g4=>?_⟩;have c2:=T.self;have h4:w1.heap.size<=j/\j<i.heap.size:=⟨hP j c2,T.aC j c2⟩
 have V:=T.aC;have h2:=k2.size;have d8:=y.get g3 id;have d9:=y.get (U.get (k2.get g1 id) id) id;have e0:=(T.ah U).ah y;have b1:ai b x:=((k1.then k2).then U).then y;refine⟨λm B k=>∃e:Nat,B=e/\e<=3/\m=3-e/\k.heap[i.heap.size]? =some (.cells (o_ (bd e ⟨w,0,0⟩).1 none 0 0 []).toArray 55 (0,0))/\eE k j a0 (bd e ⟨w,0,0⟩).2/\ak (λP=>P=i.heap.size\/P=j) x k,
  ⟨_,0,rfl,oM,rfl,d8,e0,ak.refl _⟩,?_⟩
 rintro m B _ w5 ⟨e,rfl,hj,rfl,c3,c4,k5⟩;have c5:(lf.mk w 0 0).Fit:=⟨Qj _,.inl rfl⟩
 refine an.dec (λN=>?_) (λN=>?_)
 ·have c6:e<3:=oM
  have g5:=k5.get g4 oM;have a1:w5.cell? ⟨w3.heap.size,0+Int.toNat (e:Int),none⟩=some (.pointer (some ⟨i.heap.size,e,none⟩)):=by
   rw[Qx,Xz]
   match e,c6 with
   |0,_=>exact ae g5 rfl
   |1,_=>exact ae g5 rfl
   |2,_=>exact ae g5 rfl
  refine⟨_,_,rfl,oM,oM,_,a1,PC.ok (Ec c4) ?_⟩;rintro _ w6 ⟨rfl,O,Q⟩;have W:=Q.get c3 oM;refine⟨_,rfl,_,_,rfl,PS.mk W (by simp[o_];omega) λX C s7 g7=>⟨_,oM,e+1,aq oM,oM,rfl,?_,?_,?_⟩⟩
  ·rw[g7,IH (c5.ints e).2.2.1 c6];rfl
  ·rw[kv]
   exact O.af C λP f r=>by have:=V P f;omega
  ·exact k5.then ((Q.mono λ_ _ h=>.inr h).then (C.mono λ_ _ h=>.inl h))
 obtain rfl:e=3:=oM
 obtain⟨c7,e1,h5,_⟩:=c5.ints 3;refine PC.ok (Gt c4) ?_;rintro _ w6 ⟨rfl,O,Q⟩;have W:=Q.get c3 oM;have e3:ak (λP=>P=i.heap.size\/P=j) x w6:=k5.then (Q.mono λ_ _ h=>.inr h);generalize hL:(bd 3 ⟨w,0,0⟩).1=H at W e1;generalize hR:(bd 3 ⟨w,0,0⟩).2=a5 at O c7;obtain⟨Y,e4,c8,_⟩:=c7.count (m:=64) oM;generalize hC:(bW 64 a5).1=I at e4 c8;generalize e5:(bW 64 a5).2=E at O Y;refine⟨_,rfl,λm B k=>∃e:Nat,B=e/\e<=I.toNat/\m=I.toNat-e/\∃s o t v,k.heap[i.heap.size]? =some (.cells (o_ H s o t []).toArray 55 (0,0))/\eE k j a0 (bd e E).2/\
   aO aG 3 v k s o t (bd e E).1/\(∀P,v P->x.heap.size<=P)/\ak (λP=>P=i.heap.size\/P=j) x k,
  ⟨_,0,rfl,oM,rfl,none,0,0,λ_=>False,W,O,aO.nil w6,λ_ h=>h.elim,e3⟩,?_⟩
 rintro m B _ X ⟨e,rfl,hj,rfl,s,o,t,v,b8,b9,c0,z,C⟩;have h6:=C.size;refine an.dec (λN=>?_) (λN=>?_)
 ·intro J c9
  have p:ai X J:=c9.af;have s8:J.heap.size=X.heap.size:=by rw[c9.heap]
  refine⟨λP=>P≠i.heap.size,sM,s,o,t,ae (p.get b8 id) rfl,PC.ok (Ec (b9.ah p)) ?_⟩;rintro _ K ⟨rfl,Z,u⟩;have b2:=(Y.ints e).2.2.1;refine⟨_,rfl,u.mono (λP _ h=>oM),?_⟩;have L:aO aG 3 v K s o t (bd e E).1:=(c0.ah p).af u λP f r=>by have:=z P f;have:=y.size;omega
  refine PA.mk λA n h7 e6=>⟨n.af,?_⟩
  have a2:=L.ah n;have b0:=u.get (p.get b8 id) oM;have l:=n.get b0 id;have e7:=((Y.ints e).1.int).2.1;have d0:Row aG 8 A (·=K.heap.size) (XM K.heap.size) 1 [(eV (bd e E).2).1]:=zG (f:=(0,0)) [(eV (bd e E).2).1] e6 (by simpa using e7) sM;refine jK a2 qV d0 (λP r=>⟨oM,?_⟩) (by rw[b2];unfold aI;simp;omega) (by rw[b2];unfold maxLen;simp;omega) λd1 e8 R h8 d2 a3 h3 b3=>?_
  ·intro e2
   have:=L.aC P (L.self P e2);omega
  refine⟨_,_,_,rfl,PS.mk (a3.get l ?_) (by simp[o_]) λh9 c1 i0 e9=>⟨_,oM,e+1,aq oM,oM,rfl,d1,o+1,e8,λP=>aF d1=some P,?_,?_,?_,?_,?_⟩⟩
  ·intro r;have:=z _ (L.self _ r);have:=y.size;omega
  ·rw[e9];rfl
  ·rw[kv]
   refine((Z.ah n).af a3 λP f r=>?_).af c1 λP f r=>?_
   ·have:=z _ (L.self _ r);have:=V P f;have:=y.size;have:=U.size;omega
   ·have:=V P f;omega
  ·have f2:=d2.alone
   rw[kv];refine f2.af c1 λP f r=>?_;rcases b3 P f with h|h
   ·have:=z P h;have:=y.size;omega
   ·have:=n.size;have:=u.size;have:=p.size;omega
  ·intro P f
   rcases b3 P f with h|h
   ·exact z P h
   ·have:=n.size;have:=u.size;have:=p.size;omega
  ·have ka:ak (λP=>P=i.heap.size\/P=j) x A:=((C.ah p).then (u.mono λ_ _ h=>.inr h)).ah n
   have kb:ak (λP=>P=i.heap.size\/P=j) x R:=ka.new a3 λP f=>.inr (z P (L.self P f));exact kb.then (c1.mono λ_ _ h=>.inl h)
 obtain rfl:e=I.toNat:=oM
 obtain⟨d3,f3,f4,_⟩:=Y.ints I.toNat;generalize f5:(bd I.toNat E).1=S at c0 f3 f4;generalize f7:(bd I.toNat E).2=q at b9 d3;refine PA.mk λJ p s8 g8=>?_;have g0:=p.get b8 id;have g2:ak (λP=>P=i.heap.size\/P=j) x J:=C.ah p;have g6:=c0.ah p;have i1:=y.size;refine⟨λm B k=>∃e:Nat,B=e/\e<=6/\m=6-e/\k.heap[i.heap.size]? =some (.cells (o_ H s o t (bd e q).1).toArray 55 (0,0))/\eE k j a0 (bd e q).2/\ak (λP=>P=i.heap.size\/P=j) J k,
  ⟨_,0,rfl,oM,rfl,g0,b9.ah p,ak.refl _⟩,?_⟩
 rintro m B _ K ⟨e,rfl,hj,rfl,b0,Z,u⟩;refine an.dec (λN=>?_) (λN=>?_)
 ·have d4:e<6:=oM
  have M:=u.get g8 (by have:=C.size;omega);have a1:K.cell? ⟨X.heap.size,0+Int.toNat (e:Int),none⟩=some (.pointer (some ⟨i.heap.size,4+e,none⟩)):=by
   rw[Qx,Xz]
   match e,d4 with
   |0,_=>exact ae M rfl
   |1,_=>exact ae M rfl
   |2,_=>exact ae M rfl
   |3,_=>exact ae M rfl
   |4,_=>exact ae M rfl
   |5,_=>exact ae M rfl
  refine⟨_,_,rfl,oM,oM,_,a1,PC.ok (Ec Z) ?_⟩;rintro _ A ⟨rfl,d5,n⟩;have l:=n.get b0 oM;refine⟨_,rfl,_,_,rfl,PS.mk l (by simp[o_];omega) λR F d6 g=>⟨_,oM,e+1,aq oM,oM,rfl,?_,?_,?_⟩⟩
  ·rw[g,II (d3.ints e).2.2.1 d4];rfl
  ·rw[kv]
   exact d5.af F λP f r=>by have:=V P f;omega
  ·exact u.then ((n.mono λ_ _ h=>.inr h).then (F.mono λ_ _ h=>.inl h))
 obtain rfl:e=6:=oM
 have a6:lg ⟨w,0,0⟩=(⟨H.getD 0 0,H.getD 1 0,H.getD 2 0,S,(bd 6 q).1.getD 0 0,(bd 6 q).1.getD 1 0,(bd 6 q).1.getD 2 0,(bd 6 q).1.getD 3 0,(bd 6 q).1.getD 4 0,(bd 6 q).1.getD 5 0⟩,(bd 6 q).2):=by
  unfold lg;simp only[hL,hR,hC,e5,f5,f7]
 refine PC.ok (Kk Z) ?_;rintro _ A ⟨rfl,d7⟩;have n:ai K A:=d7.af;have b4:ak (λP=>P=i.heap.size\/P=j) J A:=u.ah n;have b5:ak (λP=>P=i.heap.size\/P=j) x A:=g2.then b4;have b6:=b5.get d9 oM;have l:=n.get b0 id;have a2:aO aG 3 v A s o t S:=g6.af b4 λP f r=>by have:=z P f;omega
 have b7:ai b A:=b1.new b5 λP f=>.inr oM;have a7:jM (lg ⟨w,0,0⟩).2=jM (bd 6 q).2:=by rw[a6]
 refine⟨_,rfl,an.df (λh0=>?_) (λhe=>?_)⟩
 ·have a4:iC w=(zH,jM (bd 6 q).2):=by unfold iC;rw[a7,Zx h0]
  rw[a4];refine storeAll [XH 0,XH 0,XH 0,.slice none 0 0,XH 0,XH 0,XH 0,XH 0,XH 0,XH 0] b6 rfl λR F d6 g=>?_;refine⟨0,0,0,none,0,0,0,0,0,0,0,0,ae g rfl,ae g rfl,ae g rfl,ae g rfl,ae g rfl,ae g rfl,ae g rfl,ae g rfl,ae g rfl,ae g rfl,Ok.mk ⟨none,0,0,λ_=>False,rfl,aO.nil R,?_,λ_ h=>h.elim⟩⟩;exact b7.new F λP f=>.inr oM
 ·have a4:iC w=((lg ⟨w,0,0⟩).1,0):=by unfold iC;rw[a7,Zq (by simpa using he)]
  rw[a4,a6];refine⟨_,_,_,s,o,t,_,_,_,_,_,_,ae l rfl,ae l rfl,ae l rfl,ae l rfl,ae l rfl,ae l rfl,ae l rfl,ae l rfl,ae l rfl,ae l rfl,?_⟩;refine storeAll (o_ H s o t (bd 6 q).1) b6 rfl λR F d6 g=>?_;refine⟨_,_,_,s,o,t,_,_,_,_,_,_,ae g rfl,ae g rfl,ae g rfl,ae g rfl,ae g rfl,ae g rfl,ae g rfl,ae g rfl,ae g rfl,ae g rfl,Ok.mk ⟨s,o,t,v,rfl,a2.af F λP f r=>?_,?_,λP f=>?_⟩⟩
  ·have:=z P f;omega
  ·exact b7.new F λP f=>.inr oM
  ·have:=z P f;have:=b1.size;omega
end
end Go.Proofs.YtblabbpipmodgaaGreatDoor
namespace Go.aw
open Go
def dW(P:List UInt8):Nat:=P.foldl (λa b=>a*10+(b.toNat-48)) 0
def gM(P:UInt8):Bool:=decide (48<=P.toNat/\P.toNat<=57)
def eY(P:List UInt8)(a:UInt8):dW (P++[a])=dW P*10+(a.toNat-48):=by simp[dW,List.foldl_append]
variable{e:Int}{w:List UInt8}{a:Nat}{j:Type}
def uI{P a:List j}(b:P≠[]):(P++a).head? =P.head? :=by
 cases P with
 |nil=>exact Zz rfl b
 |cons c P=>rfl
def AM:∀(P:Nat),dW (Lib.decDigits P)=P/\(Lib.decDigits P).all gM=true/\Lib.decDigits P≠[]/\(P≠0->(Lib.decDigits P).head? ≠some 48):=by
 intro P
 induction P using Nat.strongRecOn with
 |_ P d=>
  rw[Lib.decDigits]
  by_cases b:P<10
  ·rw[dif_pos b]
   have a:(UInt8.ofNat (48+P)).toNat=48+P:=by rw[ZK];omega
   refine⟨by simp[dW];omega,by simp[gM,a];omega,sM,λi=>?_⟩;intro c;simp only[List.head?_cons,Q1]at c;have:=Zj UInt8.toNat c;rw[a]at this;simp at this;omega
  ·rw[dif_neg b]
   obtain⟨e,f,g,h⟩:=d (P/10) oM;have a:(UInt8.ofNat (48+P % 10)).toNat=48+P % 10:=by rw[ZK];omega
   refine⟨by rw[eY,e,a];omega,?_,sM,λ_=>?_⟩
   ·rw[List.all_append,f];simp[gM,a];omega
   ·rw[uI g];exact h oM
def AN:∀{P:List UInt8},P.all gM=true->P≠[]->P.head? ≠some 48->0<dW P:=by
 intro P;generalize a:P.length=f
 induction f generalizing P with
 |zero=>intro _ g;exact Zz (QW a) g
 |succ f h=>
  intro b j c;rcases List.eq_nil_or_concat P with rfl|⟨P,d,rfl⟩
  ·cases a
  rw[List.concat_eq_append]at a b c⊢;rw[List.all_append,QK]at b;have k:48<=d.toNat/\d.toNat<=57:=by simpa[gM]using b.2
  rw[eY]
  by_cases e:P=[]
  ·subst e
   have:d.toNat≠48:=λi=>c (by simp;exact UInt8.toNat_inj.1 i);omega
  ·have:=h (by simpa using a) b.1 e (by rwa [uI e]at c)
   omega
def BX:∀{P:List UInt8},P.all gM=true->P≠[]->(P.head? ≠some 48\/P.length=1)->Lib.decDigits (dW P)=P:=by
 intro P;generalize f:P.length=g
 induction g generalizing P with
 |zero=>intro _ j;exact Zz (QW f) j
 |succ g k=>
  intro b o c;rcases List.eq_nil_or_concat P with rfl|⟨P,a,rfl⟩
  ·cases f
  rw[List.concat_eq_append]at f b c⊢;rw[List.all_append,QK]at b;have p:48<=a.toNat/\a.toNat<=57:=by simpa[gM]using b.2
  have i:UInt8.ofNat (48+(a.toNat-48))=a:=UInt8.toNat_inj.1 (by rw[ZK];omega);rw[eY]
  by_cases d:P=[]
  ·subst d
   have l:dW []*10+(a.toNat-48)=a.toNat-48:=by simp[dW]
   rw[l,Lib.decDigits,dif_pos oM,i]
   rfl
  ·have q:0<P.length:=List.length_pos_iff.2 d
   have h:P.length=g:=by simpa using f
   have e:P.head? ≠some 48:=by
    rcases c with c|c
    ·rwa [uI d]at c
    ·omega
   have r:=AN b.1 d e;rw[Lib.decDigits,dif_neg oM];have m:(dW P*10+(a.toNat-48))/10=dW P:=oM
   have n:(dW P*10+(a.toNat-48)) % 10=a.toNat-48:=oM
   rw[m,n,i,k h b.1 d (.inl e)]
def vS:∀(P:List UInt8),P.all gM=true->dW P<10 ^ P.length:=by
 intro P;generalize a:P.length=c
 induction c generalizing P with
 |zero=>intro _;have:=QW a;subst this;decide
 |succ c e=>
  intro b;rcases List.eq_nil_or_concat P with rfl|⟨P,d,rfl⟩
  ·cases a
  rw[List.concat_eq_append]at a b⊢;rw[List.all_append,QK]at b;have f:48<=d.toNat/\d.toNat<=57:=by simpa[gM]using b.2
  have:=e P (by simpa using a) b.1;rw[eY,Nat.pow_succ];omega
def uH{u:Nat}(h:u<1000000000000):(Lib.decDigits u).length<=12:=by
 rw[Lib.decDigits_length];apply Nat.le_of_not_lt;intro k
 by_cases i:u=0
 ·subst i;rw[Lib.nDigits_small oM]at k;omega
 ·have s:=Lib.lt_pow_nDigits u
  obtain⟨l,m,n,o⟩:=AM u;have j:=Lib.decDigits_length u;have key:∀(P:List UInt8),P.all gM=true->P≠[]->P.head? ≠some 48->10 ^(P.length-1)<=dW P:=by
   intro P;generalize b:P.length=a
   induction a generalizing P with
   |zero=>intro _ h;exact Zz (QW b) h
   |succ a p=>
    intro c t e;rcases List.eq_nil_or_concat P with rfl|⟨P,v,rfl⟩
    ·cases b
    rw[List.concat_eq_append]at b c e⊢;have f:=c;rw[List.all_append,QK]at c;rw[eY]
    by_cases d:P=[]
    ·subst d
     have:=AN f sM e;rw[eY]at this;have q:a=0:=by simpa using b.symm
     subst q;simp at this⊢;omega
    ·have g:P.length=a:=by simpa using b
     have j:0<P.length:=List.length_pos_iff.2 d;have:=p P g c.1 d (by rwa [uI d]at e);have r:a+1-1=(a-1)+1:=oM
     rw[r,Nat.pow_succ];omega
  have:=key _ m n (o i);rw[l,j]at this;have w:10 ^ 12<=10 ^(Lib.nDigits u-1):=Nat.pow_le_pow_right oM oM;have:(10:Nat) ^ 12=1000000000000:=dC
  omega
def dV:List UInt8:=[115,101,103,46]
def aA(P:Int):List UInt8:=if P<0\/1000000000000<=P then []else dV++Lib.decDigits P.toNat
def h_(P:List UInt8):Option Nat:=if P.take 4=dV/\5<=P.length/\P.length<=16/\(P.drop 4).all gM=true/\((P.drop 4).head? ≠some 48\/P.length=5)then some (dW (P.drop 4))else none
def pT(P:0<=e)(a:e<1000000000000):aA e=dV++Lib.decDigits e.toNat:=by unfold aA;rw[Zq oM]
def JM(a:0<=e)(b:e<1000000000000):h_ (aA e)=some e.toNat:=by
 rw[pT a b];obtain⟨c,d,f,g⟩:=AM e.toNat;have k:=uH (u:=e.toNat) oM;have l:0<(Lib.decDigits e.toNat).length:=List.length_pos_iff.2 f;have h:(dV++Lib.decDigits e.toNat).drop 4=Lib.decDigits e.toNat:=rfl;have i:(dV++Lib.decDigits e.toNat).take 4=dV:=rfl;have j:(dV++Lib.decDigits e.toNat).length=4+(Lib.decDigits e.toNat).length:=by rw[QX];rfl
 unfold h_;rw[h,i,j,c,Zx];refine⟨rfl,oM,oM,d,?_⟩
 by_cases P:e.toNat=0
 ·right
  rw[P,Lib.decDigits_length,Lib.nDigits_small oM]
 ·exact .inl (g P)
def Am(P:h_ w=some a):aA a=w/\a<1000000000000:=by
 unfold h_ at P;split at P
 ·rename_i e
  obtain⟨f,i,j,b,g⟩:=e;simp only[Q1]at P;have c:(w.drop 4).length=w.length-4:=sM
  have k:=vS _ b;have l:10 ^(w.drop 4).length<=10 ^ 12:=Nat.pow_le_pow_right oM oM;have m:(10:Nat) ^ 12=1000000000000:=dC
  have h:a<1000000000000:=oM
  refine⟨?_,h⟩;rw[pT oM oM,<-P,Qx,BX b (λd=>by rw[d]at c;simp at c;omega) (g.imp id λd=>oM),<-f,ZX]
 ·cases P
def ER(c:w.all gM=true)(d:w.length<=12):h_ (dV++w)=if aA (dW w)=dV++w then some (dW w)else none:=by
 have f:=vS _ c;have g:10 ^ w.length<=10 ^ 12:=Nat.pow_le_pow_right oM d;have h:(10:Nat) ^ 12=1000000000000:=dC
 split
 ·rename_i a
  rw[<-a,JM oM oM,Qx]
 ·rename_i a
  cases P:h_ (dV++w)with
  |none=>rfl
  |some e=>
   obtain⟨b,i⟩:=Am P;have:e=dW w:=by
    unfold h_ at P;split at P
    ·exact(XJ P).symm
    ·cases P
   rw[this]at b;exact Zz b a
def Hz(a:w.all gM=false):h_ (dV++w)=none:=by
 unfold h_;rw[Zq];rintro⟨_,_,_,P,_⟩;have:(dV++w).drop 4=w:=rfl;rw[this,a]at P
 cases P
def Mw(P:w.take 4≠dV):h_ w=none:=by
 unfold h_;rw[Zq λa=>P a.1]
def JK(P:16<w.length):h_ w=none:=by
 unfold h_;rw[Zq λa=>oM]
end Go.aw
namespace Go.Proofs.YtblabbpipmodgaaGreatDoor
open Go.aw
def pick(a P:Int):Int:=if P<1 then 0 else if a.tmod P<0 then a.tmod P+P else a.tmod P
def Jt{k n:Int}(P:1<=n):0<=pick k n/\pick k n<n:=by
 unfold pick;rw[Zq oM];have a:k.tmod n<n:=Int.tmod_lt_of_pos k oM;have b: -n<k.tmod n:=Int.lt_tmod_of_pos k oM;split<;>omega
variable{e q:Int}{b:World}
def NT(j:aK q):ZG 16 #[XH e,XH q] b (Ok λg h=>g= XH (pick e q)/\b=h):=by
 refine Ip (an.mk (λa=>?_) (λa=>?_))
 ·have a:=XV a
  exact Ok.mk ⟨by simp[pick,a],rfl⟩
 ·have a:=Xy a
  have c:=Jt (k:=e) (n:=q) oM;have i:∀d f,(do eqGuard .rem 3 d f (XH e) (XH q);binOp .rem 3 (XH e) (XH q):Sem Value).run XP b= .ok (XH (e.tmod q)) b:=λd f=>by
   have:q≠0:=oM
   simp[eqGuard,binOp,Op.intDiv,this]
  refine aE.mk (i _ _) ⟨_,rfl,an.mk (λP=>?_) (λP=>?_)⟩
  ·have P:=XV P
   unfold pick at c;rw[Zq oM,Zx P]at c;refine Ok.mk ⟨?_,rfl⟩;rw[wrap_i64 (by unfold aK at*;omega)];unfold pick;rw[Zq oM,Zx P]
  ·have P:=Xy P
   refine Ok.mk ⟨?_,rfl⟩;unfold pick;rw[Zq oM,Zq P]
end Go.Proofs.YtblabbpipmodgaaGreatDoor
namespace Go.Proofs
open Go.RowKit Go.Maps Go.Sort Go.Shelf
def Tryz.RL(c:Nat):AnyZ.SortsIn Tryz.prog Tryz.wh Fence.wide c:=
 ⟨λaF a P d b e f g=>callsIn_wide.2 (AnyM.slices_Sort_string Tryz.QR aF a P d b e f g),
  λh P b=>callsIn_wide.2 (AnyM.slices_Sort_string_none Tryz.QR h P b)⟩
end Go.Proofs
namespace Go.Proofs.YtblabbpipmodgaaGreatDoor
section
open Go.aw
open Go.RowKit Go.Maps Go.Sort Go.Shelf
def Vj(P a:ByteArray):Bool:=decide (P.data.toList<=a.data.toList)
def tG(P:List ByteArray):List ByteArray:=P.mergeSort Vj
def Lx(a:List ByteArray):(tG a).map (λP=>P.data.toList)=(a.map λP=>P.data.toList).mergeSort (λP b=>decide (P<=b)):=
 List.map_mergeSort (λc _ d _=>rfl)
def bz.QS{b:Type}{P:b->Value}{c:b->Prop}{hl h1}{e:World}{D:XN}:∀{a:List b},(∀x∈a,c x)->bz (flat 1 (λx=>[P x]) c hl h1) e D a (a.map P)
 |[],_=>rfl
 |x::a,d=>⟨[P x],a.map P,rfl,⟨rfl,d x (QV ..)⟩,bz.QS λf g=>d f (QJ _ g)⟩
variable{f6:List (ByteArray×Value)}{a c:Nat}{C:Nat×Nat}{g:TypeId}{b:World}
def xM(j:bF b a Value.string f6)(I:∀h∈f6,h.1.size<=maxLen)(y:f6.length*16<=aI)(z:b.heap[c]? =some (.cells #[.map (some a)] g C)):
  ZG 246 #[.func (.func 296) #[] #[XL c]] b
   (Ok (od Ly 9 b (tG (f6.map (·.1))))):=by
 unfold aI at y;obtain⟨e,i,J,p,K,L⟩:=j.at';have M:Tryz.prog.underlying 9=some .string:=Tryz.underlying9;have N:e.size=f6.length:=by have:=Zj List.length p;simpa using this
 have A:∀d∈e.toList,∃P:ByteArray,d.key=Value.string P/\P.size<=maxLen:=λd f=>by
  have O:(d.key,d.val)∈f6.map (λh=>(Value.string h.1,h.2)):=by rw[<-p];exact Xk.2 ⟨d,f,rfl⟩
  obtain⟨h,Q,R⟩:=Xk.1 O;exact⟨h.1,(Prod.mk.inj R).1.symm,I h Q⟩
 have B:∀d∈e.toList,∀P:ByteArray,d.key=Value.string P->P.size<=maxLen->WideElems.rd XP 9 (λ_=>some ((.nil:DataW Unit),[])) d=some (.string P.data.toList,.nil):=λd _ P l n=>by
  simp[WideElems.rd,l,Go.WideMaps.keyOf_string_mk M n]
 have S:WideElems.Fit XP 9 (λ_=>some ((.nil:DataW Unit),[])) e i:=by
  refine⟨by unfold maxLen;omega,⟨K,L,?_⟩,λd f=>?_⟩
  ·have:e.toList.map (·.key)=(f6.map (·.1)).map Value.string:=by
    have:=Zj (List.map (λs:Value×Value=>s.1)) p;simpa[Function.comp_def]using this
   rw[this];exact List.pairwise_map.2 (List.Pairwise.imp (λT=>by simpa using T) j.tidy)
  ·obtain⟨P,l,n⟩:=A d f
   exact⟨_,B d f P l n⟩
 have U:b.ownsMap XP 9 (λ_=>some ((.nil:DataW Unit),[])) a e.size (.map ((e.toList.map (WideElems.rg XP 9 (λ_=>some ((.nil:DataW Unit),[])))).foldr DataW.insert [])):=
  ⟨e,i,J,S,Q4 _,rfl⟩
 have E:Maps.size (.map ((e.toList.map (WideElems.rg XP 9 (λ_=>some ((.nil:DataW Unit),[])))).foldr DataW.insert []))=f6.length:=by
  show(List.foldr DataW.insert [] _).length=_;rw[(WideShapes.sorted_perm _).length_eq];simp[N]
 have V:(strKeys (.map ((e.toList.map (WideElems.rg XP 9 (λ_=>some ((.nil:DataW Unit),[])))).foldr DataW.insert []))).Perm ((f6.map (·.1)).map λP=>P.data.toList):=by
  refine(List.Perm.map (λh:Lit×DataW Unit=>Go.strOf h.1) (WideShapes.sorted_perm _)).trans ?_;have:(e.toList.map (WideElems.rg XP 9 (λ_=>some ((.nil:DataW Unit),[])))).map (λh=>Go.strOf h.1)=(f6.map (·.1)).map λP=>P.data.toList:=by
   have W:e.toList.map (λd=>match d.key with| .string P=>P.data.toList|_=>[])=(f6.map (·.1)).map λP=>P.data.toList:=by
    have:=Zj (List.map (λs:Value×Value=>match s.1 with| .string P=>P.data.toList|_=>[])) p;simpa[Function.comp_def]using this
   rw[<-W,List.map_map];refine List.map_congr_left λd f=>?_;obtain⟨P,l,n⟩:=A d f;simp[WideElems.rg,B d f P l n,l,Go.strOf]
  rw[this]
 have X:SeqGives Fence.wide 1 XP 296 #[XL c] encStr (λm=>m.Perm (strKeys _)) (Maps.size _) b:=
  AnyZ.keys_gives (ρ:=Tryz.Cn) {Tryz.qX with} Fence.wide _ trivial rfl oM c a e.size _ b (ay z) (ae z rfl) U
 have Y:=AnyZ.sorted_in Tryz.Pv Fence.wide 4 trivial trivial trivial trivial rfl oM (Tryz.RL _) (enters_of Tryz.func295 kR rfl) 296 #[XL c] trivial
  (enters_of Tryz.func296 kR rfl) _ _ (by rw[E];unfold maxLen;omega) (by rw[E];exact y) b X
 refine((callsIn_wide (n:=4)).1 Y).mono ?_;rintro d Z ⟨a0,m,rfl,hS,q,a7,t⟩;have F:m.mergeSort (λP u=>decide (P<=u))=(tG (f6.map (·.1))).map λP=>P.data.toList:=by rw[Lx];exact Go.mergeSort_of_perm (hS.trans V)
 have a8:m.length=(tG (f6.map (·.1))).length:=by
  have:=Zj List.length F;simpa using this
 have a1:((m.mergeSort (λP u=>decide (P<=u))).map encStr)=(tG (f6.map (·.1))).map Value.string:=by
  rw[F,List.map_map];refine List.map_congr_left λP _=>?_;show Value.string ⟨P.data.toList.toArray⟩=Value.string P;simp
 rw[a1]at q;have hv:∃o v,a0= .slice o m.length v:=by
  rcases q.2 with⟨rfl,h0⟩|⟨g',w,x,rfl,_⟩
  ·exact⟨none,0,by rw[h0]⟩
  ·exact⟨_,_,rfl⟩
 obtain⟨o,v,rfl⟩:=hv;have H:∀k,aF o=some k->b.heap.size<=k/\k<Z.heap.size:=λk r=>by
  rcases q.2 with⟨f,_⟩|⟨g',w,x,f,a9,a6,_⟩
  ·simp only[XX]at f
   rw[f.1]at r;cases r
  ·simp only[XX]at f
   rw[f.1]at r;simp only[aF,Q1]at r;have:=ay a6;omega
 exact Ok.mk ⟨o,_,v,λk=>aF o=some k,rfl,⟨⟨_,λ_=>False,⟨ownsRow_base_a q (Qj _)⟩,bz.QS (λ_ _=>trivial),λ_ j=>j.elim⟩,λ_ j=>j,λk j=>(H k j).2⟩,ak.FB t,λk j=>(H k j).1⟩
end
section
open Go.aw
def kS:gO XP 9 Value.string:=Ug Tryz.underlying9
def mF:lH XP 140 9 204 (.pointer none):=⟨kR,kR⟩
def uF:Tryz.prog.underlying 204=some (.pointer 206):=kR
def al.room(D:al):Int:=(D.most:Int)-D.used
def al.op(D:al)(P:al->Int×al):Int×al:=if D.dies then(15,D.gone)else P D.dH
def al.Nu(a:ByteArray)(P:al->cI->Int×al)(D:al):Int×al:=match aD D.files a with
 |none=>(14,D)
 |some b=>P D b
def al.create(D:al)(P:ByteArray):Int×al:=D.op λD=>if gl P then(if(aD D.files P).isSome then(16,D)else if 64<=D.files.length then(12,D)else(0,D.gS P ⟨[],0,false⟩))else(1,D)
def al.append(D:al)(P:ByteArray)(a:List UInt8):Int×al:=D.op (al.Nu P λD b=>if(a.length:Int)>D.room then(12,D)else(0,D.gS P {b with bytes:=b.bytes++a}))
def al.sync(D:al)(P:ByteArray):Int×al:=D.op (al.Nu P λD a=>(0,D.gS P (a.cut a.bytes.length)))
def al.Gn(D:al)(k:ByteArray)(P:Int):Int×al:=D.op (al.Nu k λD a=>(0,D.gS k (a.cut P)))
def al.delete(D:al)(P:ByteArray):Int×al:=D.op (al.Nu P λD a=>(0,D.BB P))
def al.rename(D:al)(P a:ByteArray):Int×al:=D.op (al.Nu P λD b=>if gl a then(0,(D.BB P).gS a {b with lb:=true})else(1,D))
def al.read(D:al)(k:ByteArray):List UInt8×Int:=if D.dead then([],15)else match aD D.files k with
 |none=>([],14)
 |some P=>(P.bytes,0)
def al.list(D:al):List ByteArray:=tG (D.files.map (·.1))
def tI(c:World)(d:Nat)(e:XN)(P:Int×al)(f:Value)(a:World):Prop:=∃b,f= XH P.1/\aP a d b P.2/\cz e c b a
variable{V p:Array Value}{v:ByteArray}{e:Int}{d3:Int×al}{a0:List (ByteArray×lV)}{a c:Nat}{f:XN}{j:Type}{b k:World}{x:XU}{a6:cI}
def tI.same{D:al}(P:aP k a f D)(c:ak f b k):tI b a f (e,D) (XH e) k:=⟨f,rfl,P,c,λ_ P=>.inl P⟩
def Kj{D:al}(c:aP b a f D){g:FuncId}{body:al->Int×al}(d:enters XP g=true)(e:D.dies=false->∀P,aP P a f D.dH->ak f b P->ZG g (p++ #[]++V) P (Ok (tI P a f (body D.dH)))):
  ZG 241 #[XL a,.func (.func g) p V] b (Ok (tI b a f (D.op body))):=by
 refine Calls.ok (IE c (e:=(body D.dH).1) (D':=(body D.dH).2) d λh P i j n=>e h P i j) ?_;rintro o q ⟨k,l,r,m⟩;refine⟨k,?_,?_,m⟩
 ·rw[l];unfold al.op;split<;>rfl
 ·unfold al.op;split<;>simp_all
def tJ{D:al}(e:aP b a f D){k:ByteArray}{g:FuncId}{body:al->cI->Int×al}(C:enters XP g=true)(E:D.dies=false->∀h l m P,eD h a f D.dH l m->aD m k=some P->ak f b h->ZG g (p++ #[ptr P.q]++V) h (Ok (tI h a f (body D.dH P.f)))):
  ZG 171 #[XL a,.string k,.func (.func g) p V] b (Ok (tI b a f (D.op (al.Nu k body)))):=by
 refine xG (PA.mk λh F W z=>PA.mk λH r X I=>PA.mk λA n Y J=>?_);have s:ai b A:=(F.ah r).ah n;have K:=e.ah s;have t:=e.aC;refine⟨_,ae (n.get (r.get z id) id) rfl,PC.ok (Kj K (body:=al.Nu k body) kR λL c B o=>?_) ?_⟩
 ·obtain⟨l,m,i⟩:=B.open
  have M:c.heap[b.heap.size]? =_:=o.get (n.get (r.get z id) id) (λj=>by have:=t _ j;omega);have N:c.heap[h.heap.size]? =_:=o.get (n.get I id) (λj=>by have:=t _ j;omega);have O:c.heap[H.heap.size]? =_:=o.get J (λj=>by have:=t _ j;omega);refine tx ⟨_,ae M rfl,a,0,rfl,some l,ae i.head rfl,_,ae N rfl,?_⟩;rcases i.box k with⟨u,v⟩|⟨P,Q,Z,u,v⟩
  ·refine⟨none,λw=>?_,λq d=>?_⟩
   ·have:=dL mF kS (i.map.af (ak.drewN (S:=λ_=>False) c w) id) k false
    simpa[v]using this
   ·refine yv uF ⟨_,rfl,an.ff rfl (Ok.mk ?_)⟩
    have:al.Nu k body D.dH=(14,D.dH):=by unfold al.Nu;rw[u]
    rw[this];exact tI.same (B.ah d.af) d.af
  ·refine⟨XM P.q,λw=>?_,λq d=>?_⟩
   ·have:=dL mF kS (i.map.af (ak.drewN (S:=λ_=>False) c w) id) k false
    simpa[v,ptr]using this
   ·refine yv uF ⟨_,rfl,an.tt rfl ⟨_,ae (d.af (S:=λ_=>False)|>.get O id) rfl,g,p,V,rfl,C,?_⟩⟩
    have R:ak f b q:=((s.af (S:=f)).then o).ah d.af;refine PC.ok (E L q l m P (i.ah d.af) Q R) ?_;rintro S w6 ⟨x,rfl,T,y⟩;have:al.Nu k body D.dH=body D.dH P.f:=by unfold al.Nu;rw[u]
    refine⟨_,rfl,Ok.mk ?_⟩;rw[this];exact⟨x,rfl,T,(cz.mk d.af λ_ e=>.inl e:cz f c f q).trans y⟩
 ·rintro S c ⟨x,rfl,U,y⟩
  exact⟨_,rfl,Ok.mk ⟨x,rfl,U,(cz.mk s.af λ_ e=>.inl e:cz f b f A).trans y⟩⟩
def al.Ok.set{D:al}(P:D.Ok){c a:cI}(b:aD D.files v=some c)(d:a.bytes.length+D.used<=c.bytes.length+D.most)(e:a.synced<=a.bytes.length):(D.gS v a).Ok:=by
 have f:=bQ b;refine⟨P.most,?_,?_,P.tidy.aH _ _,?_,?_,P.zu,P.zv⟩
 ·have:=wi (l:=D.files) (k:=v) (f:=a)
  rw[b]at this;simp only[Option.map_some,Option.getD_some]at this;show dU (aH D.files v a)<=D.most;unfold al.used at d;omega
 ·show(aH D.files v a).length<=64
  rw[vB (by rw[b];rfl)];exact P.many
 ·intro x j
  rcases fg P.tidy j with rfl|⟨j,_⟩
  ·show gl v=true
   exact P.names _ f
  ·exact P.names x j
 ·intro x j
  rcases fg P.tidy j with rfl|⟨j,_⟩
  ·exact e
  ·exact P.Pb x j
def al.Ok.del{D:al}(P:D.Ok)(a:ByteArray):(D.BB a).Ok:=by
 have e:=Gp D.files a;have f:=wj (l:=D.files) (k:=a);have d:=P.fits;have g:=P.many;unfold al.used at d;exact⟨P.most,by show dU (bV D.files a)<=D.most;omega,by show(bV D.files a).length<=64;omega,P.tidy.bV a,λb c=>P.names b (fy c),λb c=>P.Pb b (fy c),P.zu,P.zv⟩
def al.Ok.put{D:al}(P:D.Ok)(c:gl v=true)(d:a6.bytes.length+D.used<=D.most)(f:D.files.length<64)(e:a6.synced<=a6.bytes.length):(D.gS v a6).Ok:=by
 refine⟨P.most,?_,?_,P.tidy.aH _ _,?_,?_,P.zu,P.zv⟩
 ·have:=wi (l:=D.files) (k:=v) (f:=a6)
  show dU (aH D.files v a6)<=D.most;unfold al.used at d;omega
 ·have:=vU D.files v a6
  show(aH D.files v a6).length<=64;omega
 ·intro b a
  rcases fg P.tidy a with rfl|⟨a,_⟩
  ·exact c
  ·exact P.names b a
 ·intro b a
  rcases fg P.tidy a with rfl|⟨a,_⟩
  ·exact e
  ·exact P.Pb b a
def vD{l:List (ByteArray×j)}{k:ByteArray}(P:(aD l k).isSome=true):(bV l k).length+1=l.length:=by
 induction l with
 |nil=>simp[aD]at P
 |cons a l b=>
  obtain⟨d,e⟩:=a;simp only[bV,aD]at P⊢;split
  ·rfl
  ·rename_i c
   rw[Zq c]at P;simp[b P]
def Cp(a:List (ByteArray×j))(b:ByteArray)(d c:j):aH (aH a b d) b c=aH a b c:=by
 induction a with
 |nil=>simp[aH]
 |cons e a f=>
  obtain⟨g,h⟩:=e;simp only[aH]
  by_cases P:(b==g)=true
  ·rw[Zx P,Zx P];simp[aH]
  ·rw[Zq P,Zq P];simp[aH,P,f]
def dK.Py{G:XN}(c:dK b a G a6)(d:∀P,dK P a G {a6 with lb:=true}->ak (·=a) b P->P.heap.size=b.heap.size->x P):PS b ⟨a,0+2,none⟩ (.bool true) x:=by
 obtain⟨j,k,e,l,m,n,o,g⟩:=c.body;refine PS.mk m sM λp h q r=>d p ⟨⟨j,k,e,l,r,n.af h (λi f s=>g (s▸f)),o,g⟩,c.self,λi f=>by have:=c.aC i f;omega⟩ h q
def al.Ok.cut{D:al}(a:D.Ok)(b:aD D.files v=some a6)(P:Int):(D.gS v (a6.cut P)).Ok:=by
 have c:=Px a6 P;have d:=vC P a6.bytes.length;have e:=a.fits;exact a.set b oM (by rw[c];exact Q4 _)
def eD.get{D:al}(d:eD b a f D c a0){P:lV}(e:aD a0 v=some P):aD D.files v=some P.f:=by
 rw[d.files];have:=zz (λP:lV=>P.f) a0 v;rw[e]at this;exact this
def ku(c:Value)(d:World)(g:ai k b)(P:tI b a f d3 c d):∃e:Int,c= XH e/\Ok (tI k a f d3) (.returned (XH e)) d:=by
 obtain⟨h,rfl,i,j⟩:=P;exact⟨_,rfl,Ok.mk ⟨h,rfl,i,(cz.mk g.af λ_ P=>.inl P:cz f k f b).trans j⟩⟩
def Cq{D:al}(c:aP b a f D){k:ByteArray}:
  ZG 158 #[XL a,.string k] b (Ok (tI b a f (D.sync k))):=by
 refine tl (PC.ok (tJ c (k:=k) (g:=225) (body:=λD e=>(0,D.gS k (e.cut e.bytes.length))) kR λv w x y j P d z=>?_) λl m c=>ku l m (ak.refl b) c);have g:=P.each.each _ (bQ d);have h:=P.get d;obtain⟨A,B,n,C,o,p,E,F⟩:=g.body;have q:=p.len dC;refine qH ⟨j.q,0,rfl,_,_,_,ae o rfl,PC.ok (zB g (P.ok.len (bQ h))) ?_⟩;rintro _ H ⟨I,rfl,i,r⟩;rw[q]at i;obtain⟨s,t,u⟩:=P.dX d i r (P.ok.cut h _);exact⟨rfl,Ok.mk ⟨s,rfl,t.at,u⟩⟩
def Nv{D:al}(c:aP b a f D):
  ZG 188 #[XL a,.string v,XH e] b (Ok (tI b a f (D.Gn v e))):=by
 refine vl (PA.mk λu g w i=>PC.ok (tJ (c.ah g) (k:=v) (g:=258) (body:=λD j=>(0,D.gS v (j.cut e))) kR λx y z A B P d k=>?_) λl m c=>ku l m g c);have n:=P.each.each _ (bQ d);have h:=P.get d;refine sh ⟨_,ae (k.get i λo=>by have:=c.aC _ o;omega) rfl,PC.ok (zB n (P.ok.len (bQ h))) ?_⟩;rintro _ C ⟨E,rfl,p,q⟩;obtain⟨r,s,t⟩:=P.dX d p q (P.ok.cut h _);exact⟨rfl,Ok.mk ⟨r,rfl,s.at,t⟩⟩
def wm{D:al}(P:aP b a f D):
  ZG 119 #[XL a,.string v] b (Ok (tI b a f (D.delete v))):=by
 refine qC (PA.mk λx h y i=>PA.mk λz e A j=>⟨_,ae (e.get i id) rfl,_,ae j rfl,PC.ok (tJ ((P.ah h).ah e) (k:=v) (g:=172) (body:=λD B=>(0,D.BB v)) kR λC n o E F p H k=>?_) λq r P=>ku q r (h.ah e) P⟩);have s:=k.get (e.get i id) λc=>by have:=P.aC _ c;omega
 have t:=k.get j λc=>by have:=P.aC _ c;omega
 refine nX λu l=>?_;have d:=p.ah l.af;have g:ai n u:=l.af;refine⟨_,ae (g.get s id) rfl,a,0,rfl,some o,ae d.head rfl,v,ae (g.get t id) rfl,IF mF kS d.map λI w m J=>Ok.mk ⟨f,rfl,(d.drop w m (d.ok.del v)).at,?_,λ_ P=>.inl P⟩⟩;exact g.af.then (m.mono λK _ c=>by rw[c];exact d.Fr)
def Gq{D:al}(d:aP b a f D){k g:ByteArray}:
  ZG 198 #[XL a,.string k,.string g] b (Ok (tI b a f (D.rename k g))):=by
 refine qG (PA.mk λw1 J s1 K=>PA.mk λX o s2 L=>PA.mk λw3 h s3 Y=>⟨_,ae (h.get (o.get K id) id) rfl,_,ae (h.get L id) rfl,PC.ok (tJ (((d.ah J).ah o).ah h) (k:=k) (g:=261)
  (body:=λD Z=>if gl g then(0,(D.BB k).gS g {Z with lb:=true})else(1,D)) kR λhd s t b1 x e M u=>?_) λa0 w' d=>ku a0 w' ((J.ah o).ah h) d⟩)
 have i:=u.get (h.get (o.get K id) id) λP=>by have:=d.aC _ P;omega
 have v:=u.get (h.get L id) λP=>by have:=d.aC _ P;omega
 have N:=u.get Y λP=>by have:=d.aC _ P;omega
 have w:=bQ M;have y:=e.get M;refine ob ⟨_,ae N rfl,PC.ok tK ?_⟩;rintro _ w5 ⟨rfl,z⟩;refine⟨_,rfl,an.not (an.mk (λp=>λw6 a6=>?_) (λp=>Ok.mk ?_))⟩
 ·have j:ai s w6:=z.ah a6.af
  have q:=e.ah j;refine⟨_,ae (j.get i id) rfl,a,0,rfl,some t,ae q.head rfl,_,ae (j.get v id) rfl,IF mF kS q.map λw7 a7 A b8=>λB C=>?_⟩;have a8:=q.drop a7 A (q.ok.del k);have E:=a8.ah C.af;have O:∀c,c=t->f c:=λc P=>by rw[P];exact e.Fr
  have F:ak f s B:=(j.af.then (A.mono λc _ P=>O c P)).ah C.af;have Q:∀{c:Nat} {R:Obj},s.heap[c]? =some R->b.heap.size<=c->B.heap[c]? =some R:=λP b9=>F.get P λhF=>by have:=d.aC _ hF;omega
  have l:=e.Gm _ w;have S:dK B (lV.q x) (lV.G x) (lV.f x):=(((e.each.each _ w).af j λ_ _ d=>d).af A λc P=>(l c P).2.2).af C.af λ_ _ d=>d;have a1:b.heap.size<=X.heap.size:=oM
  refine⟨_,ae (Q i (Q4 _)) rfl,a,0,rfl,some t,ae E.head rfl,g,ae (Q N a1) rfl,ie mF kS E.map λw9 a9 H c0=>⟨x.q,0,rfl,?_⟩⟩;have b0:=e.ok.fits;have T:=wj (l:=D.dH.files) (k:=k);rw[y]at T;simp only[Option.map_some,Option.getD_some]at T;have b6:=vD (l:=D.dH.files) (k:=k) (by rw[y];rfl);have b7:=e.ok.many;have a2:=e.ok.Pb _ (bQ y);have U:∀m:cI,m.bytes=x.f.bytes->m.synced=x.f.synced->((D.dH.BB k).gS g m).Ok:=λm i v=>(e.ok.del k).put p (by
   show m.bytes.length+dU (bV D.dH.files k)<=D.dH.most;unfold al.used at b0;rw[i];omega) (by show(bV D.dH.files k).length<64;omega) (by rw[i,v];exact a2)
  have b2:=E.put (q:=x.q) (G':=x.G) a9 H S (λa3 hy c2 c P b3=>by
   obtain⟨b4,b5⟩:=DZ e.each.tidy hy;exact e.each.apart _ w a3 b4 (λI=>b5 I.symm) c P b3) (λc P=>(l c P).2) (U x.f rfl rfl)
  have V:dK w9 x.q x.G x.f:=S.af H λc P=>(l c P).2.2;refine V.Py λc3 a4 a5 c1=>Ok.mk ?_;obtain⟨F',n,W⟩:=b2.dX (k:=g) (x:=⟨x.q,x.G,x.f⟩) (by rw[qf];simp) a4 ⟨a5.mono λc _ P=>P▸V.self,λ_ d=>.inl d⟩ (by
   unfold al.gS;simp only[Cp];exact U {x.f with lb:=true} rfl rfl)
  rw[p,Zx rfl];have I:((D.dH.BB k).gS g x.f).gS g {x.f with lb:=true}=(D.dH.BB k).gS g {x.f with lb:=true}:=by
   unfold al.gS;simp only[Cp]
  refine⟨F',rfl,by rw[<-I];exact n.at,⟨?_,λc P=>?_⟩⟩
  ·exact(F.then (H.mono λc _ P=>O c P)).then (W.af.mono λc _ P=>P.elim id λd=>(l c d).1)
  ·rcases W.new c P with(r|r)|r
   ·exact .inl r
   ·exact .inl (l c r).1
   ·have:=F.size;exact .inr oM
 ·rw[p];exact⟨f,rfl,(e.ah z).at,z.af,λ_ d=>.inl d⟩
def wo{D:al}(P:aP b a f D):
  ZG 169 #[XL a,.string v] b (Ok (tI b a f (D.create v))):=by
 refine qF (PA.mk λw1 H s1 I=>PA.mk λw2 n s2 N=>⟨_,ae (n.get I id) rfl,PC.ok (Kj ((P.ah H).ah n) (g:=242)
  (body:=λD=>if gl v then(if(aD D.files v).isSome then(16,D)else if 64<=D.files.length then(12,D)else(0,D.gS v ⟨[],0,false⟩))else(1,D)) kR λhd r O s=>?_) λQ R P=>ku Q R (H.ah n) P⟩)
 obtain⟨g,t,c⟩:=O.open;have u:=s.get (n.get I id) λd=>by have:=P.aC _ d;omega
 have w:=s.get N λd=>by have:=P.aC _ d;omega
 refine n_ ⟨_,ae w rfl,PC.ok tK ?_⟩;rintro _ x ⟨rfl,h⟩;refine⟨_,rfl,an.not (an.mk (λi=>?_) (λi=>Ok.mk ?_))⟩
 ·have y:=c.ah h
  have J:∀l,(Instr.lookup 140 (.map (some g)) (.string v) false).run XP (x.drewN l)= .ok ((aD (t.map dG) v).getD (.pointer none)) (x.drewN l):=λl=>by
   have:=dL mF kS (y.map.af (ak.drewN (S:=λ_=>False) x l) id) v false;simpa using this
  have S:∃j:ZH,(aD (t.map dG) v).getD (.pointer none)= .pointer j/\j.isSome=(aD D.dH.files v).isSome:=by
   rcases c.box v with⟨z,A⟩|⟨T,b0,bm,z,A⟩
   ·exact⟨none,by rw[A];rfl,by rw[z];rfl⟩
   ·exact⟨XM T.q,by rw[A];rfl,by rw[z];rfl⟩
  obtain⟨j,U,B⟩:=S;rw[U]at J;refine⟨_,ae (h.get u id) rfl,a,0,rfl,some g,ae y.head rfl,v,ae (h.get w id) rfl,j,J,j.isSome,λl=>ox uF _ _ j _,λV C=>an.mk (λW=>Ok.mk ?_) (λK=>?_)⟩
  ·rw[i,Zx rfl,Zx (by rw[<-B];exact W)]
   exact⟨f,rfl,(y.ah C.af).at,ai.af (h.ah C.af),λ_ P=>.inl P⟩
  ·have o:ai r V:=h.ah C.af
   have E:=c.ah o;have a8:(t.map dG).length=D.dH.files.length:=by rw[c.files];simp
   refine⟨_,ae (o.get u id) rfl,a,0,rfl,some g,ae E.head rfl,RM mF E.map ⟨_,rfl,an.dec (λa9=>Ok.mk ?_) (λb3=>λm X=>?_)⟩⟩
   ·rw[i,Zx rfl,Zq (by rw[<-B,K];simp),Zx oM]
    exact⟨f,rfl,E.at,o.af,λ_ P=>.inl P⟩
   ·have k:ai r m:=o.ah X.af
    have p:=c.ah k;have b4:=c.map.lt;have b5:=ay c.head;have a7:b.heap.size<=r.heap.size:=by have:=s.size;omega
    have L:∀e,b.heap.size<=e->e≠g:=λe d a2=>by have:=P.aC g c.Fr;omega
    refine⟨(·=g),L _ (Q4 _),_,ae (k.get u id) rfl,a,0,rfl,c.pr,some g,ae p.head rfl,L _ oM,v,ae (k.get w id) rfl,PA.mk λM q s7 Y=>⟨q.af,ie mF kS (p.ah q).map λw8 Z F b6=>⟨F,Ok.mk ?_⟩⟩⟩;have a3:=p.ah q;have a0:dK M m.heap.size (·=m.heap.size) ⟨[],0,false⟩:=⟨⟨none,0,0,λ_=>False,Y,aO.nil M,λ_ P=>P.elim,λP=>P⟩,rfl,λe d=>oM⟩
    have a4:(D.dH.gS v ⟨[],0,false⟩).Ok:=c.ok.put i (by have:=c.ok.fits;simpa using this) oM (Q4 _);have a5:=a3.put (q:=m.heap.size) (G':=(·=m.heap.size)) Z F a0 (λa1 hy _ e d a6=>by have:=(p.each.each a1 hy).aC e a6;omega) (λe d=>by have:=k.size;omega) a4;rw[i,Zx rfl,Zq (by rw[<-B,K];simp),Zq oM];refine⟨_,rfl,a5.at,⟨(k.af.ah q).then (F.mono λe _ d=>by rw[d];exact c.Fr),λe d=>d.imp id λP=>by have:=k.size;omega⟩⟩
 ·rw[i]
  exact⟨f,rfl,(c.ah h).at,h.af,λ_ P=>.inl P⟩

import Derived.Test.YtblabbpipmodgaaGreatDoorKr9
import Derived.Maps.RangeRun
import Derived.Laws.RangeAny
import Derived.Laws.Runes
import Derived.Lib.AppendZeros
import Derived.StringKeys
set_option maxHeartbeats 4000000
set_option linter.all false
set_option maxRecDepth 20000
open Go.IntKind renaming wrap→ZG
namespace Go.aw
open Go
instance:LawfulBEq ByteArray where
 eq_of_beq:=λ{a b} h=>ByteArray.ext (eq_of_beq (show(a.data==b.data)=true from h))
 rfl:=λ{a}=>show(a.data==a.data)=true from by simp
variable{a:Nat}{h:Program}{A b8 f4 g n:TypeId}{u:Value}{m t:ZR}
def Wp(P:h.underlying g=some .string):iJ h g Value.string:=
 iJ.flat P (λa c=>rfl) (λb d e f=>by simp[Instr.checkKey,run_underlying P]) λb a=>by simp[Instr.sameBits]
structure cV {κ:Type} (w:World) (it r:Nat) (enc:κ->Value) (l left:List (κ×Value)):Prop where
 at':∃es clock since seen c0,w.heap[r]? =some (.map es clock)/\es.toList.map (λe=>(e.key,e.val))=l.map (λp=>(enc p.1,p.2))/\
  (∀e∈es.toList,e.born<clock)/\(es.toList.map (·.born)).Nodup/\w.heap[it]? =some (.mapIter (some r) since seen c0)/\(∀x∈es.toList,x.born<since)/\since<=c0/\since<=clock/\
  (leftOf es seen).toList.map (λe=>(e.key,e.val))=left.map (λp=>(enc p.1,p.2))
 tidy:Tidy l
structure TI {κ:Type} (w:World) (it r:Nat) (enc:κ->Value) (k:κ) (v:Value):Prop where
 at':∃(es:Array MapEntry) (clock since:Nat) (seen:Array Nat) (e:MapEntry),w.heap[r]? =some (.map es clock)/\w.heap[it]? =some (.mapIter (some r) since (seen.push e.born) clock)/\e∈es.toList/\(es.toList.map (·.born)).Nodup/\e.key=enc k/\e.val=v
section
variable {κ:Type} {w w':World} {it r:Nat} {enc:κ->Value} {l left:List (κ×Value)} {S:ZN}
def cV.keep(c:cV w it r enc l left)(d:aj S w w')(e:¬S it)(f:¬S r):cV w' it r enc l left:=by
 obtain⟨g,P,a,seen,h,i,j,k,m,n,b⟩:=c.at';exact⟨⟨g,P,a,seen,h,d.get i f,j,k,m,d.get n e,b⟩,c.tidy⟩
def cV.af(P:cV w it r enc l left)(a:ai w w'):cV w' it r enc l left:=P.keep a id id
def cV.map(b:cV w it r enc l left):bY w r enc l:=by
 obtain⟨d,P,a,seen,i,e,f,g,h,j,c⟩:=b.at';exact⟨⟨d,P,e,f,g,h⟩,b.tidy⟩
def cV.ne(d:cV w it r enc l left):it≠r:=by
 obtain⟨f,P,a,seen,g,e,h,i,j,b,c⟩:=d.at';rintro rfl;rw[e]at b;cases b
def cV.lt(c:cV w it r enc l left):it<w.heap.size:=by
 obtain⟨e,P,a,seen,f,g,h,i,j,d,b⟩:=c.at';exact aA d
def mapRange(i:mE h g n A u)(a:bY w r enc l)(j:∀w',cV w' w.heap.size r enc l l->ai w w'->w'.heap.size=w.heap.size+1->m (ZL w.heap.size) w'):aG h (Instr.range g (.map (some r))) w m t:=by
 obtain⟨b,P,c,d,e,k⟩:=a.at';have f:ai w (w.alloc (.mapIter (some r) P #[] P)):=aj.alloc w _;refine aG.mk (run_range_map w g n A r b P i.under c) (j _ ⟨⟨b,P,P,#[],P,f.get c id,d,e,k,heap_alloc_new w _,e,Q4 _,Q4 _,?_⟩,a.tidy⟩ f sM);rw[<-d]
 congr 2
 unfold leftOf;simp
def m_{P:Program}(q:cV w it r enc l left)(U:left=[]->m (.tuple #[.bool false]) w)(V:∀s u A B w',left=A++(s,u)::B->cV w' it r enc l (A++B)->TI w' it r enc s u->aj (·=it) w w'->w'.heap.size=w.heap.size->m (.tuple #[.bool true,enc s,u]) w'):
  aG P (Instr.next (ZL it) false g) w m t:=by
 have W:=q.ne;obtain⟨e,a,c,seen,C,E,X,Y,v,F,H,Z,I,n⟩:=q.at';rcases run_next_at (P:=P) w g it r c C seen e a F E H Z with⟨hz,x⟩|⟨d,J,h,K,x⟩
 ·refine aG.mk x (U ?_)
  have:(leftOf e seen).toList=[]:=by rw[Array.eq_empty_of_size_eq_zero hz]
  rw[this]at n;simpa using n.symm
 ·have y:ai w h:=by rcases K with rfl|rfl;exact aj.refl _;exact aj.drewN w 1
  have b0:h.heap.size=w.heap.size:=by rcases K with rfl|rfl<;>rfl
  have a0:h.heap[it]? =some (.mapIter (some r) c seen C):=y.get F id;have b1:h.heap[r]? =some (.map e a):=y.get E id;have a1:=aA a0
  let p:=ChangeMaps.setBlock h it (.mapIter (some r) c (seen.push d.born) a)
  have L:aj (·=it) h p:=aj.setObj h it _;have M:p.heap[it]? =some (.mapIter (some r) c (seen.push d.born) a):=cW h it _ a1;have N:p.heap[r]? =some (.map e a):=L.get b1 (λd=>W d.symm);have a2:=mem_left J;obtain⟨b,i,O⟩:=List.getElem_of_mem J;have Q:b<left.length:=by have:=Zj List.length n;simp at this;simp at i;omega
  have R:(d.key,d.val)=(enc left[b].1,left[b].2):=by
   have:=Zj (λa3=>a3[b]?) n;simp only[Q9]at this;rw[Qq i,Qq Q,O]at this;simpa using this
  have a4:left=left.take b++(left[b].1,left[b].2)::left.drop (b+1):=by
   have:=(ZX b left).symm;rw[X4 Q]at this;exact this
  have a5:(leftOf e (seen.push d.born)).toList=(leftOf e seen).toList.eraseIdx b:=by
   have k:((leftOf e seen).toList.map (·.born)).Nodup:=by
    unfold leftOf;rw[Array.toList_filter];exact v.sublist (List.Sublist.map _ List.filter_sublist)
   have hf:(leftOf e (seen.push d.born)).toList=(leftOf e seen).toList.filter (λj=>j.born !=d.born):=by
    unfold leftOf;rw[Array.toList_filter,Array.toList_filter,List.filter_filter]
    congr 1
    funext j
    rw[contains_push]
    cases seen.contains j.born<;>cases hx:(j.born==d.born)<;>simp only[bne,hx]<;>rfl
   rw[hf];have z:∀(f:List MapEntry) (b:Nat) (i:b<f.length),(f.map (·.born)).Nodup->f.filter (λj=>j.born !=f[b].born)=f.eraseIdx b:=by
    intro f
    induction f with
    |nil=>intro b i;simp at i
    |cons j f ih=>
     intro b i k;simp only[QY,List.nodup_cons]at k
     cases b with
     |zero=>
      simp only[List.getElem_cons_zero,List.eraseIdx_zero,List.tail_cons];rw[List.filter_cons_of_neg sM];apply List.filter_eq_self.2;intro a6 hy;simp only[bne_iff_ne,ne_eq];intro d;exact k.1 (d▸Xk.2 ⟨a6,hy,rfl⟩)
     |succ b=>
      simp only[List.getElem_cons_succ,List.eraseIdx_cons_succ];have o:b<f.length:=by simpa using i
      rw[List.filter_cons_of_pos,ih b o k.2];simp only[bne_iff_ne,ne_eq];intro d;exact k.1 (d▸Xk.2 ⟨f[b],XY o,rfl⟩)
   have:=z _ b i k;rw[O]at this;exact this
  have S:d.key=enc left[b].1:=(Prod.mk.inj R).1;have T:d.val=left[b].2:=(Prod.mk.inj R).2;refine aG.mk x ?_;rw[S,T];refine V left[b].1 left[b].2 (left.take b) (left.drop (b+1)) p a4 ⟨⟨e,a,c,seen.push d.born,a,N,X,Y,v,M,H,I,I,?_⟩,q.tidy⟩ ⟨e,a,c,seen,d,N,M,a2.1,v,S,T⟩ ((ai.keep y).then L) ?_
  ·rw[a5,map_eraseIdx,n,<-map_eraseIdx]
   congr 1
   rw[List.eraseIdx_eq_take_drop_succ]
  ·show(h.heap.setIfInBounds it _).size=_
   simp[b0]
def qp{b:κ}(c:TI w it r enc b u)(d:m (.tuple #[enc b,u]) w):aG h (Instr.entry (ZL it)) w m t:=by
 obtain⟨e,P,a,seen,f,g,i,j,k,l,n⟩:=c.at';refine aG.mk (run_entry_at w it r a seen e P f i g j k) ?_;rw[l,n];exact d
def Py[BEq κ][LawfulBEq κ]{d:κ}(J:mE h g n A u)(x:iJ h n enc)(y:cV w it r enc l left)(X:d∉left.map (·.1))(K:∀w',cV w' it r enc (bL l d) left->aj (·=r) w w'->w'.heap.size=w.heap.size->m (.tuple #[]) w'):aG h (Builtin.delete_ #[g,b8] f4 #[.map (some r),enc d]) w m t:=by
 have L:=y.ne;obtain⟨a,b,c,seen,M,k,o,N,O,Q,R,S,T,F⟩:=y.at';have z:=jC x d a.toList l o w;have Y:a.toList.length=l.length:=by have:=Zj List.length o;simpa using this
 have U:=aA k
 cases B:ml l d 0 with
 |none=>
  rw[B]at z;refine aG.mk (w':={w with heap:=w.heap.setIfInBounds r (.map a b)}) ?_ (K _ ⟨⟨_,_,c,seen,M,cW w r _ U,?_,N,O,(aj.setObj w r _).get Q L,R,S,T,F⟩,y.tidy.bL d⟩ (aj.setObj w r _) sM)
  ·simp[Builtin.delete_,run_underlying J.under,dG k,dN x,z,eI k]
  ·rw[(rp B).2];exact o
 |some e=>
  obtain⟨P,Z⟩:=e;rw[B]at z;obtain⟨_,i,V,W⟩:=np B;rw[Nat.sub_zero]at i V W;have p:P<a.size:=by
                 have:a.size=l.length:=by simpa using Y
                 omega
  have q:(a.eraseIdxIfInBounds P).toList=a.toList.eraseIdx P:=by simp[Array.eraseIdxIfInBounds,p]
  have a0:(a.toList[P]'(by simpa using p)).key=enc d:=by
   have:=Zj (λC=>C[P]?) o;simp only[Q9,V,Option.map_some]at this;rw[Qq (by simpa using p)]at this;simpa using(Prod.mk.inj (XJ this)).1
  have H:∀j∈(leftOf a seen).toList,j.key≠enc d:=by
   intro j hx s;have:(j.key,j.val)∈left.map (λe=>(enc e.1,e.2)):=by rw[<-F];exact Xk.2 ⟨j,hx,rfl⟩
   obtain⟨C,hq,a1⟩:=Xk.1 this;have a2:enc C.1=enc d:=(Prod.mk.inj a1).1.trans s;exact X (Xk.2 ⟨C,hq,x.inj a2⟩)
  have a3:(leftOf (a.eraseIdxIfInBounds P) seen).toList=(leftOf a seen).toList:=by
   unfold leftOf at H⊢;rw[Array.toList_filter]at H;rw[Array.toList_filter,Array.toList_filter,q];have I:∀(f:List MapEntry) (e:MapEntry->Bool) (P:Nat) (i:P<f.length),e f[P]=false->(f.eraseIdx P).filter e=f.filter e:=by
    intro f e
    induction f with
    |nil=>intro P i;simp at i
    |cons j f ih=>
     intro P i E
     cases P with
     |zero=>
      simp only[List.getElem_cons_zero]at E;simp[E]
     |succ P=>
      simp only[List.getElem_cons_succ]at E;simp only[List.eraseIdx_cons_succ,List.filter_cons];rw[ih P (by simpa using i) E]
   refine I _ _ P (by simpa using p) ?_
   cases a4: !seen.contains (a.toList[P]'(by simpa using p)).born with
   |false=>rfl
   |true=>exact Zz a0 (H _ (List.mem_filter.2 ⟨XY _,a4⟩))
  refine aG.mk (w':={w with heap:=w.heap.setIfInBounds r (.map (a.eraseIdxIfInBounds P) b)}) ?_ (K _ ⟨⟨_,_,c,seen,M,cW w r _ U,?_,?_,?_,(aj.setObj w r _).get Q L,?_,S,T,?_⟩,y.tidy.bL d⟩ (aj.setObj w r _) sM)
  ·simp[Builtin.delete_,run_underlying J.under,dG k,dN x,z,eI k]
  ·rw[(W Z).2,q,map_eraseIdx,o,map_eraseIdx]
  ·intro s v
   rw[q]at v;exact N s (List.mem_of_mem_eraseIdx v)
  ·rw[q,map_eraseIdx]
   exact O.sublist (List.eraseIdx_sublist _ _)
  ·intro s v
   rw[q]at v;exact R s (List.mem_of_mem_eraseIdx v)
  ·rw[a3];exact F
def Ud(a:mE h g n A u)(b:bY w r enc l)(c:m (ZH (l.length:Int)) w):aG h (Builtin.len_ #[g] b8 #[.map (some r)]) w m t:=by
 obtain⟨d,P,e,f,_⟩:=b.at';have i:d.size=l.length:=by have:=Zj List.length f;simpa using this
 refine aG.mk (v:=ZH (l.length:Int)) ?_ c;rw[<-i];simp[Builtin.len_,Builtin.lenOf,run_underlying a.under,dG e,goInt]
def Be{P:ByteArray}(a:h.underlying g=some .string)(b:∀w',w'.heap[w.heap.size]? =some (.stringIter P 0)->ai w w'->w'.heap.size=w.heap.size+1->m (ZL w.heap.size) w'):aG h (Instr.range g (.string P)) w m t:=
 aG.mk (run_range_string w g P a) (b _ (World.iter_heap w P 0) (aj.alloc w _) (by simp[World.iter]))
def F_{P:ByteArray}(b:w.heap[it]? =some (.stringIter P a))(d:P.size<=a->m (.tuple #[.bool false]) w)(e:a<P.size->∀w',w'.heap[it]? =some (.stringIter P (a+(Utf8.decode P a).2))->aj (·=it) w w'->w'.heap.size=w.heap.size->m (.tuple #[.bool true,ZH (a:Int),.int .i32 ((Utf8.decode P a).1:Int)]) w'):
  aG h (Instr.next (ZL it) true g) w m t:=by
 by_cases c:a<P.size
 ·refine aG.mk (w':={w with heap:=w.heap.setIfInBounds it (.stringIter P (a+(Utf8.decode P a).2))}) ?_ (e c _ (cW w it _ (aA b)) (aj.setObj w it _) sM)
  simp[Instr.next,getObj,setObj,Sem.run,b,c,goInt]
 ·refine aG.mk ?_ (d oM)
  simp[Instr.next,getObj,Sem.run,b,c]
end
end Go.aw
namespace Go.Proofs.YtblabbpipmodgaaGreatDoor
open Go.aw
def eF(b:UInt8):Bool:=(97<=b&&b<=122)||(48<=b&&b<=57)||b==46
def c_(P:ByteArray):Bool:=decide (1<=P.size)&&decide (P.size<=16)&&P.data.toList.all eF
structure bP where
 bytes:List UInt8
 synced:Nat
 jf:Bool
 deriving DecidableEq
structure ak where
 most:Nat
 files:List (ByteArray×bP)
 iQ:Bool
 left:Int
 dead:Bool
 deriving DecidableEq
def eP(P:List (ByteArray×bP)):Nat:=(P.map λa=>a.2.bytes.length).sum
def ak.used(D:ak):Nat:=eP D.files
structure ak.Ok (D:ak):Prop where
 most:D.most<=262144
 fits:D.used<=D.most
 many:D.files.length<=64
 tidy:Tidy D.files
 names:∀x∈D.files,c_ x.1=true
 RE:∀x∈D.files,x.2.synced<=x.2.bytes.length
 AS:0<=D.left
 AT:aN D.left
variable{X p:Array Value}{J:Bool}{w:ByteArray}{f5:ByteArray×bP}{y:FuncId}{e:Int}{g7:List (ByteArray×bP)}{v:List UInt8}{a c:Nat}{f:ZN}{d:YQ}{I j:Type}{b9:UInt8}{b k:World}{x:ZU}{W:bP}
def Ko(h:f5∈g7):f5.2.bytes.length<=eP g7:=by
 unfold eP
 induction g7 with
 |nil=>cases h
 |cons a g7 P=>
  simp only[QY,List.sum_cons];rcases Q2.1 h with rfl|h
  ·omega
  ·have:=P h;omega
def ak.Ok.len{D:ak}(P:D.Ok)(a:f5∈D.files):f5.2.bytes.length<=262144:=by
 have:=Ko a;have:=P.fits;have:=P.most;unfold ak.used at*;omega
structure eG (w:World) (q:Nat) (G:ZN) (f:bP):Prop where
 body:∃a n cap F,w.heap[q]? =some (.cells #[.slice a n cap,ZH f.synced,.bool f.jf] 206 (0,0))/\aU fN 5 F w a n cap f.bytes/\(∀b,F b->G b)/\¬F q
 self:G q
 aE:∀b,G b->b<w.heap.size
def eG.keep{S G:ZN}(c:eG b a G W)(d:aj S b k)(g:∀P,G P->¬S P):eG k a G W:=by
 obtain⟨i,j,e,l,m,n,h,o⟩:=c.body;exact⟨⟨i,j,e,l,d.get m (g _ c.self),n.keep d (λP f=>g P (h P f)),h,o⟩,c.self,λP f=>Qk (c.aE P f) d.size⟩
structure mZ where
 q:Nat
 G:ZN
 f:bP
def ptr(P:Nat):Value:=ZL P
def ez(P:ByteArray×mZ):ByteArray×Value:=(P.1,ptr P.2.q)
def uU(P:ByteArray×mZ):ByteArray×bP:=(P.1,P.2.f)
structure DQ (w:World) (L:List (ByteArray×mZ)):Prop where
 each:∀x∈L,eG w x.2.q x.2.G x.2.f
 apart:∀x∈L,∀y∈L,x.1≠y.1->∀b,x.2.G b->¬y.2.G b
 tidy:Tidy L
structure aV (w:World) (p:Nat) (F:ZN) (D:ak):Prop where
 body:∃r L,w.heap[p]? =some (.cells #[ZH D.most,.map (some r),.bool D.iQ,ZH D.left,.bool D.dead] 142 (0,0))/\bY w r Value.string (L.map ez)/\D.files=L.map uU/\DQ w L/\
  (∀x∈L,∀b,x.2.G b->F b/\b≠p/\b≠r)/\F r/\p≠r
 self:F p
 aE:∀b,F b->b<w.heap.size
 ok:D.Ok
variable{a1:List (ByteArray×mZ)}
def DQ.keep{S:ZN}(a:DQ b a1)(e:aj S b k)(f:∀P∈a1,∀c,P.2.G c->¬S c):DQ k a1:=
 ⟨λP d=>(a.each P d).keep e (f P d),a.apart,a.tidy⟩
def aV.keep{S e:ZN}{D:ak}(c:aV b a e D)(d:aj S b k)(f:∀P,e P->¬S P):aV k a e D:=by
 obtain⟨j,l,m,n,o,p,h,i,q⟩:=c.body;exact⟨⟨j,l,d.get m (f _ c.self),n.keep d (f _ i),o,p.keep d (λr s P g=>f P (h r s P g).1),h,i,q⟩,c.self,λP g=>Qk (c.aE P g) d.size,c.ok⟩
def aV.af{D:ak}(P:aV b a f D)(c:ai b k):aV k a f D:=P.keep c λ_ _ P=>P
def ql(b:j->I)(a:List (ByteArray×j))(c:ByteArray)(d:j):(aI a c d).map (λP=>(P.1,b P.2))=aI (a.map λP=>(P.1,b P.2)) c (b d):=by
 induction a with
 |nil=>rfl
 |cons e a f=>
  obtain⟨P,g⟩:=e;simp only[aI,QY];split
  ·rfl
  ·simp[f]
def AU(b:j->I)(a:List (ByteArray×j))(c:ByteArray):(bL a c).map (λP=>(P.1,b P.2))=bL (a.map λP=>(P.1,b P.2)) c:=by
 induction a with
 |nil=>rfl
 |cons d a e=>
  obtain⟨P,f⟩:=d;simp only[bL,QY];split
  ·rfl
  ·simp[e]
def AV(b:j->I)(P:List (ByteArray×j))(c:ByteArray):aq (P.map λa=>(a.1,b a.2)) c=(aq P c).map b:=by
 induction P with
 |nil=>rfl
 |cons d P e=>
  obtain⟨a,f⟩:=d;simp only[aq,QY];split
  ·rfl
  ·exact e
def fO{a:List (ByteArray×j)}(d:Tidy a){b:j}{P:ByteArray×j}(h:P∈aI a w b):P=(w,b)\/(P∈a/\P.1≠w):=by
 by_cases c:P.1=w
 ·left
  have:=qm (d.aI w b) (k:=P.1) (v:=P.2) h;rw[bD,c]at this;simp at this;exact Prod.ext c this.symm
 ·rcases fr h with rfl|h
  ·exact .inl rfl
  ·exact .inr ⟨h,c⟩
def FP{a:List (ByteArray×j)}(b:Tidy a){P:ByteArray×j}(c:P∈bL a w):P∈a/\P.1≠w:=by
 refine⟨gh c,λe=>?_⟩;have d:=qm (b.bL w) (k:=P.1) (v:=P.2) c;rw[fL b,e]at d;simp at d
def xv{l:List (ByteArray×bP)}{k:ByteArray}{f:bP}:eP (aI l k f)+((aq l k).map λP=>P.bytes.length).getD 0=eP l+f.bytes.length:=by
 unfold eP
 induction l with
 |nil=>simp[aI,aq]
 |cons a l b=>
  obtain⟨c,d⟩:=a;simp only[aI,aq];split
  ·simp;omega
  ·simp only[QY,List.sum_cons]at b⊢;omega
def xx{l:List (ByteArray×bP)}{k:ByteArray}:eP (bL l k)+((aq l k).map λP=>P.bytes.length).getD 0=eP l:=by
 unfold eP
 induction l with
 |nil=>simp[bL,aq]
 |cons a l b=>
  obtain⟨c,d⟩:=a;simp only[bL,aq];split
  ·simp;omega
  ·simp only[QY,List.sum_cons]at b⊢;omega
def wO{P:List (ByteArray×j)}{b:j}(a:(aq P w).isSome=true):(aI P w b).length=P.length:=by
 induction P with
 |nil=>simp[aq]at a
 |cons c P d=>
  obtain⟨f,g⟩:=c;simp only[aI,aq]at a⊢;split
  ·rfl
  ·rename_i e
   rw[Zq e]at a;simp[d a]
def aV.head{D:ak}(c:aV b a f D):∃P,b.heap[a]? =some (.cells #[ZH D.most,.map (some P),.bool D.iQ,ZH D.left,.bool D.dead] 142 (0,0)):=by
 obtain⟨P,e,d,_⟩:=c.body;exact⟨P,d⟩
def aV.Kp{D P:ak}(d:aV b a f D)(e:aj (·=a) b k)(l:∀c,b.heap[a]? =some (.cells #[ZH D.most,.map (some c),.bool D.iQ,ZH D.left,.bool D.dead] 142 (0,0))->k.heap[a]? =some (.cells #[ZH P.most,.map (some c),.bool P.iQ,ZH P.left,.bool P.dead] 142 (0,0)))(m:P.files=D.files)(n:P.Ok):aV k a f P:=by
 obtain⟨c,o,p,q,r,s,i,t,j⟩:=d.body;exact⟨⟨c,o,l c p,q.keep e (λu=>j u.symm),m.trans r,s.keep e (λv w g h=>(i v w g h).2.1),i,t,j⟩,d.self,λg h=>Qk (d.aE g h) e.size,n⟩
def aV.zo{D:ak}(P:aV b a f D)(d:∀c,aV c a f {D with dead:=J}->aj f b c->c.heap.size=b.heap.size->x c):PS b ⟨a,0+4,none⟩ (.bool J) x:=by
 obtain⟨l,e⟩:=P.head;refine PS.mk e sM λc g i j=>d c (P.Kp g (λm h=>?_) rfl ⟨P.ok.most,P.ok.fits,P.ok.many,P.ok.tidy,P.ok.names,P.ok.RE,P.ok.AS,P.ok.AT⟩) (g.mono λJ _ k=>k▸P.self) i;rw[e]at h;cases h;exact j
def aV.HQ{D:ak}(P:aV b a f D)(d:∀c,aV c a f {D with iQ:=J}->aj f b c->c.heap.size=b.heap.size->x c):PS b ⟨a,0+2,none⟩ (.bool J) x:=by
 obtain⟨l,e⟩:=P.head;refine PS.mk e sM λc g i j=>d c (P.Kp g (λm h=>?_) rfl ⟨P.ok.most,P.ok.fits,P.ok.many,P.ok.tidy,P.ok.names,P.ok.RE,P.ok.AS,P.ok.AT⟩) (g.mono λJ _ k=>k▸P.self) i;rw[e]at h;cases h;exact j
def aV.Mb{D:ak}(P:aV b a f D)(j:0<=e)(k:aN e)(d:∀c,aV c a f {D with left:=e}->aj f b c->c.heap.size=b.heap.size->x c):PS b ⟨a,0+3,none⟩ (ZH e) x:=by
 obtain⟨o,g⟩:=P.head;refine PS.mk g sM λc h l m=>d c (P.Kp h (λp i=>?_) rfl ⟨P.ok.most,P.ok.fits,P.ok.many,P.ok.tidy,P.ok.names,P.ok.RE,j,k⟩) (h.mono λq _ n=>n▸P.self) l;rw[g]at i;cases i;exact m
def Nt:YX 34 #[ZH e] b (Ok λd c=>
  if e<64\/e>262144 then d= .tuple #[.pointer none,ZH 1]/\c=b
  else∃f g,d= .tuple #[ZL f,ZH 0]/\aV c f g ⟨e.toNat,[],false,0,false⟩/\ai b c/\∀P,g P->b.heap.size<=P):=by
 refine Hz (al.dec (λa=>?_) (λa=>al.dec (λh=>?_) (λh=>?_)))
 ·exact Ok.mk (by rw[Zx (.inl a)];exact⟨rfl,rfl⟩)
 ·exact Ok.mk (by rw[Zx (.inr h)];exact⟨rfl,rfl⟩)
 ·refine PA.mk λj k o l=>PA.mk λm i p n=>Ok.mk ?_
  rw[Zq oM];refine⟨j.heap.size,λP=>b.heap.size<=P/\P<m.heap.size,rfl,⟨⟨b.heap.size,[],?_,bY.new (i.get l id),rfl,⟨sM,sM,by simp[Tidy]⟩,sM,oM,oM⟩,oM,λP a=>a.2,?_⟩,k.af i,λP a=>a.1⟩
  ·rw[n]
   have:((e.toNat:Nat):Int)=e:=oM
   rw[this]
  ·exact⟨by show e.toNat<=_;omega,by simp[ak.used,eP],by simp,by simp[Tidy],by simp,by simp,by simp,by unfold aN;simp⟩
def ak.Kq(D:ak)(P:Int):ak:={D with iQ:=true,left:=max P 0}
def Nu{D:ak}(l:aN e)(P:aV b a f D):YX 114 #[ZL a,ZH e] b (Ok λg c=>g= .tuple #[]/\aV c a f (D.Kq e)/\cQ f b f c):=by
 have h:(if e>0 then e else 0)=max e 0:=oM
 refine uu ⟨a,0,rfl,P.HQ λm i j n=>⟨a,0,rfl,i.Mb oM (by unfold aN at*;omega) λo d k p=>Ok.mk ⟨rfl,?_,j.then k,λ_ P=>.inl P⟩⟩⟩;rw[h]at d;exact d
def ak.dies(D:ak):Bool:=D.dead||(D.iQ&&D.left==0)
def ak.cU(D:ak):ak:=if D.iQ then{D with left:=D.left-1}else D
def ak.gone(D:ak):ak:={D with dead:=true}
def Kr{D:ak}(l:aV b a f D){e:Int}{D':ak}(A:enters ZP y=true)(E:D.dies=false->∀P,aV P a f D.cU->aj f b P->P.heap.size=b.heap.size->YX y (p++ #[]++X) P (Ok λh d=>∃g,h= ZH e/\aV d a g D'/\cQ f P g d)):
  YX 241 #[ZL a,.func (.func y) p X] b (Ok λh d=>∃g,h= ZH (if D.dies then 15 else e)/\aV d a g (if D.dies then D.gone else D')/\cQ f b g d):=by
 obtain⟨L,v⟩:=l.head;have m:∀P,D.dies=true->aV P a f {D with dead:=true}->aj f b P->Ok (λh d=>∃g,h= ZH (if D.dies then 15 else e)/\aV d a g (if D.dies then D.gone else D')/\cQ f b g d) (.returned (ZH 15)) P:=
  λP i c F=>Ok.mk ⟨f,by rw[i];rfl,by rw[i];exact c,F,λ_ l=>.inl l⟩
 refine tF ⟨λP=>aV P a f D/\aj f b P/\P.heap.size=b.heap.size/\D.dies=false,?_,?_⟩
 ·refine⟨a,0,rfl,_,ae v rfl,al.mk (λi=>⟨a,0,rfl,l.zo λP c j q=>?_⟩) (λi=>⟨a,0,rfl,_,ae v rfl,al.mk (λn=>⟨a,0,rfl,_,ae v rfl,a,0,rfl,l.zo λP c j q=>?_⟩) (λn=>⟨a,0,rfl,l.zo λP c j q=>?_⟩)⟩)⟩
  ·obtain⟨w,o⟩:=c.head
   exact⟨a,0,rfl,true,ae o rfl,m P (by simp[ak.dies,i]) c j⟩
  ·obtain⟨w,o⟩:=c.head
   refine⟨a,0,rfl,D.left==0,ae o rfl,al.mk (λr=>m P (by unfold ak.dies;rw[n,r];simp) (by rw[r]at c;exact c) j) (λr=>⟨?_,j,q,by unfold ak.dies;rw[i,r];simp⟩)⟩;have:({D with dead:=D.left==0}:ak)=D:=by rw[r,<-i]
   rw[this]at c;exact c
  ·obtain⟨w,o⟩:=c.head
   refine⟨a,0,rfl,false,ae o rfl,?_,j,q,by simp[ak.dies,i,n]⟩;have:({D with dead:=false}:ak)=D:=by rw[<-i]
   rw[this]at c;exact c
 ·rintro M P ⟨c,j,q,t⟩
  obtain⟨w,o⟩:=c.head;have s:∀k,aV k a f D.cU->aj f b k->k.heap.size=b.heap.size->PC ZP y (p++ #[]++X) k (λh d=>∃B:Int,h= ZH B/\Ok (λh d=>∃g,h= ZH (if D.dies then 15 else e)/\aV d a g (if D.dies then D.gone else D')/\cQ f b g d) (.returned (ZH B)) d)
    (λH d=>Ok (λh d=>∃g,h= ZH (if D.dies then 15 else e)/\aV d a g (if D.dies then D.gone else D')/\cQ f b g d) (.panicked H) d):=by
   intro k x u z;refine PC.ok (E t k x u z) ?_;rintro _ N ⟨g,rfl,I,J⟩;exact⟨e,rfl,Ok.mk ⟨g,by rw[t];rfl,by rw[t];exact I,(cQ.mk u λ_ l=>.inl l:cQ f b f k).trans J⟩⟩
  refine⟨a,0,rfl,_,ae o rfl,al.mk (λn=>?_) (λn=>?_)⟩
  ·have O:D.left≠0:=by
    intro C;simp[ak.dies,n,C]at t
   have C:=c.ok.AS;have Q:=c.ok.AT;have K:ZG .i64 (D.left-1)=D.left-1:=wrap_i64 (by unfold aN at*;omega);refine⟨a,0,rfl,_,ae o rfl,a,0,rfl,?_⟩;rw[K];refine c.Mb oM (by unfold aN at*;omega) λk x u z=>⟨y,p,X,rfl,A,s k ?_ (j.then u) (z.trans q)⟩
   unfold ak.cU;rw[Zx n];exact x
  ·refine⟨y,p,X,rfl,A,s P ?_ j q⟩
   unfold ak.cU;rw[Zq (by simp[n])];exact c
def cs:ByteArray:=⟨#[97,98,99,100,101,102,103,104,105,106,107,108,109,110,111,112,113,114,115,116,117,118,119,120,121,122,48,49,50,51,52,53,54,55,56,57,46]⟩
def PX:∀P:UInt8,decide (0<=Lib.indexByte cs.data.toList P)=eF P:=by
 have b:(List.range 256).all (λa=>decide (0<=Lib.indexByte cs.data.toList (UInt8.ofNat a))==eF (UInt8.ofNat a))=true:=by decide+kernel
 intro P;have:=ZY.1 b P.toNat (List.mem_range.2 P.toNat_lt);simpa using this
def Sq(b:128<=b9.toNat):eF b9=false:=by
 have P:(List.range 128).all (λa=>eF (UInt8.ofNat (128+a))==false)=true:=by decide+kernel
 have:=ZY.1 P (b9.toNat-128) (List.mem_range.2 (by have:=b9.toNat_lt;omega));rw[show 128+(b9.toNat-128)=b9.toNat by omega]at this;simpa using this
def Bc:∀P∈cs.data.toList,P.toNat<128:=by decide+kernel
def Sr:cs.size=37:=by decide+kernel
def strings_IndexByte{P:ByteArray}{a:Int}{b:World}:YX 341 #[.string P,.int .u8 a] b (Ok λd c=>d= ZH (Lib.indexByte P.data.toList a.toNat.toUInt8)/\b=c):=
 (Any.strings_IndexByte Tryz.Ss P a b).mono λg c ⟨e,f⟩=>⟨_,e,rfl,f.symm⟩
def Bd:YX 342 #[.int .i32 e] b (Ok λd f=>d= .bool (Utf8.valid e)/\b=f):=by
 have c:=validRune_eq e;unfold validRune at c;refine lS (al.dec (λg=>al.dec (λh=>?_) (λh=>al.dec (λP=>al.dec (λa=>?_) (λa=>?_)) (λP=>?_))) (λg=>al.dec (λP=>al.dec (λa=>?_) (λa=>?_)) (λP=>?_)))
 all_goals
  refine Ok.mk ⟨?_,rfl⟩;rw[c]
  congr 1
  simp;omega
def qx(P:a<w.size):w[a]? =some (w[a]'P):=by simp[P]
def ss:∀{l:List UInt8} {P:UInt8},(∀b∈l,b≠P)->Lib.indexByte l P= -1
 |[],_,_=>rfl
 |b::l,P,a=>by
  have c:(b==P)=false:=beq_false_of_ne (a b (QV ..));have d:=ss (l:=l) λe f=>a e (QJ _ f);unfold Lib.indexByte;rw[c,d];rfl
def qy(x:0<=e):
  YX 320 #[.string cs,.int .i32 e] b (Ok λh P=>(∃c:Int,h= ZH c/\decide (c>=0)=(decide (e<128)&&eF e.toNat.toUInt8))/\ai b P):=by
 refine rF ⟨λi P=>i=decide (e<128)/\P=b,al.dec (λ_=>⟨rfl,rfl⟩) (λf=>Zz x f),?_⟩;rintro Q o g ⟨rfl,rfl⟩;refine al.dec (λf=>PC.ok strings_IndexByte ?_) (λf=>al.eD (λy=>?_) (λy=>PC.ok Bd ?_))
 ·rintro _ _ ⟨rfl,rfl⟩
  refine⟨_,rfl,Ok.mk ⟨⟨_,rfl,?_⟩,aj.refl _⟩⟩;have z:ZG .u8 e=e:=by
   unfold ZG;simp[IntKind.signed,IntKind.bits];omega
  rw[z,Zy f,Bool.true_and];exact PX _
 ·have no:∀P,ai g P->Ok (λh P=>(∃c:Int,h= ZH c/\decide (c>=0)=(decide (e<128)&&eF e.toNat.toUInt8))/\ai g P) (.returned (ZH (-1))) P:=λP p=>
   Ok.mk ⟨⟨_,rfl,by rw[Xv f];rfl⟩,p⟩
  refine Be Tryz.underlying9 λA B q R=>⟨λj P=>∃a,j=cs.size-a/\P.heap[g.heap.size]? =some (.stringIter cs a)/\ai g P,⟨_,0,rfl,B,q⟩,?_⟩
  rintro j o r ⟨a,rfl,C,s⟩;refine F_ C (λ_=>.inl ⟨rfl,no r s⟩) λk E t F S=>.inr ⟨_,_,rfl,?_⟩;have l:(cs[a]'k).toNat<128:=Bc _ (by rw[show cs[a]'k=cs.data.toList[a]'(by simpa using k)from by simp;rfl];exact XY _);have H:=decode_ascii cs a k l;rw[H]at t⊢;refine al.eD (λf=>oM) (λ_=>⟨_,?_,a+1,rfl,t,s.new F λi l=>.inr oM⟩);omega
 ·have no:∀P,ai g P->Ok (λh P=>(∃c:Int,h= ZH c/\decide (c>=0)=(decide (e<128)&&eF e.toNat.toUInt8))/\ai g P) (.returned (ZH (-1))) P:=λP p=>
   Ok.mk ⟨⟨_,rfl,by rw[Xv f];rfl⟩,p⟩
  rintro _ _ ⟨rfl,rfl⟩;refine⟨_,rfl,al.not (al.mk (λI=>?_) (λ_=>no _ (aj.refl _)))⟩;obtain⟨J,K,u⟩:=encode_facts e I oM;refine aG.mk (run_convert_int_string g _ _ .i32 e kR Tryz.underlying9) ⟨_,rfl,?_⟩;generalize Utf8.encode e=d at J K u⊢;have L:ZG .i64 (((d.size:Nat):Int)-1)=((d.size-1:Nat):Int):=by rw[wrap_i64 bb];omega
  rw[L];refine⟨λj c P=>c=((d.size-1:Nat):Int)/\ai g P,⟨0,rfl,aj.refl _⟩,?_⟩;rintro j c o A ⟨rfl,q⟩;have T:=Sr;have m:d.size-1<d.size:=oM
  have n:d.size-1<cs.size:=oM
  have U:=u m;have V:(cs[d.size-1]'n).toNat<128:=Bc _ (by rw[show cs[d.size-1]'n=cs.data.toList[d.size-1]'(by simpa using n)from by simp;rfl];exact XY _);refine al.dec (λW=>⟨λ_ _=>False,?_,λc o b f=>f.elim⟩) (λX=>oM);simp only[Qx];rw[an oM];refine⟨oM,_,qx n,oM,_,qx m,λr M=>al.dV (λ_=>λE N=>⟨oM,oM,oM,_,qx m,PC.ok strings_IndexByte ?_⟩) (λv=>oM)⟩;rintro _ _ ⟨rfl,rfl⟩;have O:Lib.indexByte (cs.extract (Int.toNat ((d.size-1+1:Nat):Int)) cs.size).data.toList ((((d[d.size-1]'m).toNat:Nat):Int).toNat.toUInt8)= -1:=by
   refine ss λi l v=>?_;have w:=Bc i (mem_extract l);rw[v]at w;simp at w;omega
  refine⟨_,rfl,al.dec (λ_=>no _ ((q.af M.keep).af N.keep)) (λf=>?_)⟩;rw[O]at f;omega
def Bf(d:0<=e):
  YX 290 #[.int .i32 e] b (Ok λP a=>P= .bool (!(decide (e<128)&&eF e.toNat.toUInt8))/\ai b a):=by
 refine wL (PC.ok (φ:=λP a=>P= .bool (decide (e<128)&&eF e.toNat.toUInt8)/\ai b a) (nV (PC.ok (qy d) ?_)) ?_)
 ·rintro _ f ⟨⟨g,rfl,h⟩,c⟩
  exact⟨g,rfl,Ok.mk ⟨by rw[h],c⟩⟩
 ·rintro _ f ⟨rfl,c⟩
  exact⟨_,rfl,Ok.mk ⟨rfl,c⟩⟩
def lr:
  YX 292 #[.string w,.func (.func 290) #[] #[]] b (Ok λf e=>f= .bool (!w.data.toList.all eF)/\ai b e):=by
 have t:enters ZP 290=true:=kR
 refine nW (PC.ok (φ:=λf e=>(∃c:Int,f= ZH c/\decide (c>=0)= !w.data.toList.all eF)/\ai b e) (rW (PC.ok (φ:=λf e=>(∃c:Int,f= ZH c/\decide (c>=0)= !w.data.toList.all eF)/\ai b e) (rX ?_) ?_)) ?_)
 ·refine Be Tryz.underlying9 λE u v F=>⟨λo e=>∃P,o=w.size-P/\P<=w.size/\e.heap[b.heap.size]? =some (.stringIter w P)/\ai b e/\(∀h∈w.data.toList.take P,eF h=true),⟨_,0,rfl,Qj _,u,v,sM⟩,?_⟩
  rintro o H I ⟨P,rfl,J,x,p,i⟩;refine F_ x (λy=>.inl ⟨rfl,Ok.mk ⟨⟨_,rfl,?_⟩,p⟩⟩) λd z q A K=>.inr ⟨_,_,rfl,_,_,_,rfl,t,?_⟩
  ·rw[Qz (by simpa using y)]at i
   have:w.data.toList.all eF=true:=ZY.2 i;rw[this];rfl
  ·have r:ai b z:=p.new A λh a=>.inr oM
   have s:w.data.toList[P]? =some (w[P]'d):=by
    rw[Qq (by simpa using d)];simp;rfl
   refine PC.ok (Bf (Int.natCast_nonneg _)) ?_;rintro _ L ⟨rfl,j⟩;refine⟨_,rfl,al.mk (λk=>?_) (λg=>?_)⟩
   ·
    refine Ok.mk ⟨⟨_,rfl,?_⟩,r.af j⟩;have l:eF (w[P]'d)=false:=by
     by_cases a:(w[P]'d).toNat<128
     ·rw[decode_ascii w P d a]at k
      simp at k;exact k.resolve_left oM
     ·exact Sq oM
    have:w.data.toList.all eF=false:=List.all_eq_false.2 ⟨_,QZ s,by simp[l]⟩;rw[this];simp
   ·have a:(w[P]'d).toNat<128:=by
     by_cases a:(w[P]'d).toNat<128
     ·exact a
     ·have M:=(decode_high w P d oM).1
      have B:¬(((Utf8.decode w P).1:Int)<128):=oM
      rw[Xv B]at g;simp at g
    rw[decode_ascii w P d a]at q g;have l:eF (w[P]'d)=true:=by
     simp at g;exact g.2
    refine⟨_,?_,P+1,rfl,oM,j.get q id,r.af j,λh a=>?_⟩
    ·omega
    ·rw[Qw,s]at a
     rcases Q6.1 a with a|a
     ·exact i h a
     ·simp at a;rw[a];exact l
 ·rintro _ C ⟨⟨c,rfl,m⟩,n⟩
  exact⟨c,rfl,Ok.mk ⟨⟨c,rfl,m⟩,n⟩⟩
 ·rintro _ C ⟨⟨c,rfl,m⟩,n⟩
  exact⟨c,rfl,Ok.mk ⟨by rw[m],n⟩⟩
def uX:YX 243 #[.string w] b (Ok λa c=>a= .bool (c_ w)/\ai b c):=by
 refine AA (al.Xr (λP=>al.dec (λd=>PC.ok lr ?_) (λd=>Ok.mk ⟨?_,aj.refl _⟩)) (λP=>Ok.mk ⟨?_,aj.refl _⟩))
 ·rintro _ h ⟨rfl,e⟩
  refine⟨_,rfl,Ok.mk ⟨?_,e⟩⟩;have f:1<=w.size:=by
   by_cases g:w.size=0
   ·exact Zz (ByteArray.ext (Array.eq_empty_of_size_eq_zero g)) P
   ·omega
  unfold c_;rw[Zy f,Zy (show w.size<=16 by omega)];simp
 ·unfold c_
  rw[Xv (show¬w.size<=16 by omega)];simp
 ·subst P;rfl
def kJ{D:ZN}(h:Row fN 1 b D d a v)(g:∀P,D P->P<b.heap.size):
  YX 174 #[.slice d a c] b (Ok (pC fN 5 b v)):=by
 have x:=h.len;have e:=h.dO;refine lR (j_ sU.under ⟨_,rfl,al.mk (λf=>?_) (λf=>PA.mk λk i y l=>?_)⟩)
 ·have:v=[]:=by
   cases d with
   |none=>
    cases v with
    |nil=>rfl
    |cons m z=>obtain⟨P,n,A,o,_⟩:=h.el 0 m rfl;cases o
   |some p=>cases f
  subst this;exact Ok.mk ⟨none,0,0,λ_=>False,rfl,aU.nil b,aj.refl _,λ_ h=>h.elim⟩
 ·cases d with
  |none=>cases f
  |some p=>
   have q:aU fN 5 (·=b.heap.size) k (ZM b.heap.size) 0 0 []:=
    ⟨⟨[],λ_=>False,Own.zO (cur:= #[]) l rfl (Qj _),rfl,λ_ h=>h.elim⟩,λP e=>by simpa[aH]using e.symm,λP e=>oM⟩
   refine kK q sU (D:=D) (h.af i) (λP e=>⟨by have:=g P e;omega,by have:=g P e;simp only[aH];intro r;cases r;omega⟩) bc (by unfold aO at e;unfold maxLen;simp;omega) λj s B C t u _ w=>?_;refine⟨_,_,_,rfl,Ok.mk ⟨j,_,s,λP=>aH j=some P,rfl,by have h:=t.alone;rw[List.nil_append]at h;exact h,i.new u λP e=>.inr ?_,λP e=>?_⟩⟩
   ·simp only[aH,Q1]at e;omega
   ·rcases w P e with h|h<;>omega
def gF(P:Int)(a:Nat):Nat:=(max 0 (min P a)).toNat
def mY(a:Int)(P:Nat):gF a P<=P:=by unfold gF;omega
def bP.cut(P:bP)(a:Int):bP:=⟨P.bytes.take (gF a P.bytes.length),gF a P.bytes.length,true⟩
def Sc(P:bP)(a:Int):(P.cut a).bytes.length=gF a P.bytes.length:=by
 have:=mY a P.bytes.length;simp[bP.cut];omega
def AW{G:ZN}(i:eG b a G W)(c:W.bytes.length<=262144):
  YX 123 #[ZL a,ZH e] b (Ok λy p=>∃q,y= .tuple #[]/\eG p a q (W.cut e)/\cQ G b q p):=by
 obtain⟨r,d,j,z,A,g,R,S⟩:=i.body;have B:d=W.bytes.length:=g.len dC;have T:=g.lM;refine wy λk C=>?_;have f:ai b k:=C.keep;have h:=f.get A id;have U:=mY e W.bytes.length;have E:(if(if((d:Nat):Int)<e then((d:Nat):Int)else e)>0 then(if((d:Nat):Int)<e then((d:Nat):Int)else e)else 0)=((gF e W.bytes.length:Nat):Int):=by
  unfold gF;rw[B];omega
 refine⟨a,0,rfl,_,_,_,ae h rfl,a,0,rfl,r,d,j,ae h rfl,?_⟩;refine⟨oM,oM,?_⟩;have F:Row fN 1 k z r d W.bytes:=(g.row dC ba).af f;refine PC.ok (by rw[E,Qx];exact kJ (F.take (m:=gF e W.bytes.length) oM) (λP c=>Qk (g.aE P c) f.size)) ?_;rintro _ H ⟨s,l,t,m,rfl,n,o,u⟩;have I:l=gF e W.bytes.length:=by have:=n.len dC;rw[this];simp;omega
 have V:a<k.heap.size:=aA h;refine⟨_,_,_,rfl,a,0,rfl,PS.mk (o.get h id) sM λX J Y v=>⟨a,0,rfl,s,l,t,ae v rfl,a,0,rfl,PS.mk v sM λZ K s4 L=>⟨a,0,rfl,PS.mk L sM λM N s5 O=>Ok.mk ?_⟩⟩⟩;have w:aj (·=a) H M:=(J.then K).then N;have x:∀P,m P->P≠a:=λP c=>by have:=u P c;omega
 refine⟨λP=>P=a\/m P,rfl,⟨⟨s,l,t,m,?_,n.keep w x,λP c=>.inr c,λQ=>x a Q rfl⟩,.inl rfl,?_⟩,⟨((ai.keep f).then (ai.keep o)).then (w.mono λP _ c=>by rw[c];exact i.self),?_⟩⟩
 ·rw[O]
  subst I
  rfl
 ·rintro P (rfl|c)
  ·have:=o.size;omega
  ·have:=n.aE P c;omega
 ·rintro P (rfl|c)
  ·exact .inl i.self
  ·have:=u P c;have:=f.size;exact .inr oM
structure fm (w:World) (p:Nat) (F:ZN) (D:ak) (r:Nat) (L:List (ByteArray×mZ)):Prop where
 head:w.heap[p]? =some (.cells #[ZH D.most,.map (some r),.bool D.iQ,ZH D.left,.bool D.dead] 142 (0,0))
 map:bY w r Value.string (L.map ez)
 files:D.files=L.map uU
 each:DQ w L
 HR:∀x∈L,∀b,x.2.G b->F b/\b≠p/\b≠r
 Fr:F r
 pr:p≠r
 self:F p
 aE:∀b,F b->b<w.heap.size
 ok:D.Ok
def aV.open{D:ak}(P:aV b a f D):∃c d,fm b a f D c d:=by
 obtain⟨c,d,e,g,h,i,j,k,l⟩:=P.body;exact⟨c,d,e,g,h,i,j,k,l,P.self,P.aE,P.ok⟩
def fm.at{D:ak}(P:fm b a f D c a1):aV b a f D:=
 ⟨⟨c,a1,P.head,P.map,P.files,P.each,P.HR,P.Fr,P.pr⟩,P.self,P.aE,P.ok⟩
def fm.keep{S f:ZN}{D:ak}(P:fm b a f D c a1)(e:aj S b k)(g:∀d,f d->¬S d):fm k a f D c a1:=
 ⟨e.get P.head (g _ P.self),P.map.keep e (g _ P.Fr),P.files,P.each.keep e (λi j d h=>g d (P.HR i j d h).1),P.HR,P.Fr,P.pr,P.self,λd h=>Qk (P.aE d h) e.size,P.ok⟩
def fm.af{D:ak}(P:fm b a f D c a1)(d:ai b k):fm k a f D c a1:=P.keep d λ_ _ P=>P
def fm.box{D:ak}(i:fm b a f D c a1)(d:ByteArray):
  (aq D.files d=none/\aq (a1.map ez) d=none)\/∃P,aq a1 d=some P/\(d,P)∈a1/\aq D.files d=some P.f/\aq (a1.map ez) d=some (ptr P.q):=by
 have e:aq (a1.map ez) d=(aq a1 d).map λP=>ptr P.q:=AV (λP:mZ=>ptr P.q) a1 d;have g:aq D.files d=(aq a1 d).map λP=>P.f:=by rw[i.files];exact AV (λP:mZ=>P.f) a1 d
 cases h:aq a1 d with
 |none=>rw[h]at e g;exact .inl ⟨g,e⟩
 |some P=>rw[h]at e g;exact .inr ⟨P,rfl,cf h,g,e⟩
def ak.fE(D:ak)(P:ByteArray)(a:bP):ak:={D with files:=aI D.files P a}
def ak.uT(D:ak)(P:ByteArray):ak:={D with files:=bL D.files P}
def qo{l:List (ByteArray×j)}{k:ByteArray}{v:j}(h:(k,v)∈l)(P:Tidy l):aI l k v=l:=by
 induction l with
 |nil=>cases h
 |cons a l b=>
  obtain⟨c,e⟩:=a;unfold aI;unfold Tidy at P;simp only[QY,List.nodup_cons]at P;rcases Q2.1 h with h|h
  ·cases h;simp
  ·have:(k==c)=false:=beq_false_of_ne λd=>P.1 (Xk.2 ⟨(k,v),h,d⟩)
   rw[Zq (by simp[this]),b h P.2]
def fm.eV{i w':World}{n G':ZN}{D:ak}(d:fm i a n D c a1){k:ByteArray}{x:mZ}(v:aq a1 k=some x)(t:eG w' x.q G' W)(h:cQ x.G i G' w')(w:(D.fE k W).Ok):∃u,fm w' a u (D.fE k W) c (aI a1 k ⟨x.q,G',W⟩)/\cQ n i u w':=by
 have j:=cf v;have l:=d.HR _ j;have y:aj n i w':=h.keep.mono λP _ b=>(l P b).1;have o:∀e∈aI a1 k ⟨x.q,G',W⟩,e=(k,⟨x.q,G',W⟩)\/(e∈a1/\e.1≠k):=λe f=>fO d.each.tidy f;refine⟨λP=>n P\/(i.heap.size<=P/\P<w'.heap.size),⟨h.keep.get d.head λb=>(l _ b).2.1 rfl,?_,?_,⟨?_,?_,d.each.tidy.aI _ _⟩,?_,.inl d.Fr,d.pr,.inl d.self,?_,w⟩,y,λP b=>b.imp id (·.1)⟩
 ·have z:(aI a1 k ⟨x.q,G',W⟩).map ez=a1.map ez:=by
   have g:(aI a1 k ⟨x.q,G',W⟩).map ez=aI (a1.map ez) k (ptr x.q):=ql (λx:mZ=>ptr x.q) a1 k _;rw[g];have A:Tidy (a1.map ez):=d.map.tidy;exact qo (Xk.2 ⟨_,j,rfl⟩) A
  rw[z];exact d.map.keep h.keep λb=>(l _ b).2.2 rfl
 ·have g:(aI a1 k ⟨x.q,G',W⟩).map uU=aI (a1.map uU) k W:=ql (λx:mZ=>x.f) a1 k _
  rw[g,<-d.files];rfl
 ·intro e f
  rcases o e f with rfl|⟨f,s⟩
  ·exact t
  ·exact(d.each.each e f).keep h.keep λP b=>d.each.apart e f _ j s P b
 ·intro e f p m q P b r
  rcases o e f with rfl|⟨f,s⟩<;>rcases o p m with rfl|⟨m,B⟩
  ·exact q rfl
  ·rcases h.new P b with g|g
   ·exact d.each.apart _ j p m q P g r
   ·have:=(d.each.each p m).aE P r;omega
  ·rcases h.new P r with g|g
   ·exact d.each.apart e f _ j q P b g
   ·have:=(d.each.each e f).aE P b;omega
  ·exact d.each.apart e f p m q P b r
 ·intro e f P b
  rcases o e f with rfl|⟨f,s⟩
  ·have C:=aA d.head
   have E:=d.map.lt;rcases h.new P b with g|g
   ·exact⟨.inl (l P g).1,(l P g).2⟩
   ·exact⟨.inr ⟨g,t.aE P b⟩,oM,oM⟩
  ·exact⟨.inl (d.HR e f P b).1,(d.HR e f P b).2⟩
 ·rintro P (b|b)
  ·exact Qk (d.aE P b) h.keep.size
  ·exact b.2
def fm.drop{D:ak}(d:fm b a f D c a1)(o:bY k c Value.string (bL (a1.map ez) w))(i:aj (·=c) b k)(p:(D.uT w).Ok):fm k a f (D.uT w) c (bL a1 w):=by
 have g:∀P∈bL a1 w,P∈a1:=λP e=>gh e;refine⟨i.get d.head (λh=>d.pr h),?_,?_,⟨λP e=>((d.each.each P (g P e)).keep i λj l=>(d.HR P (g P e) j l).2.2),λP e n q=>d.each.apart P (g P e) n (g n q),d.each.tidy.bL w⟩,λP e=>d.HR P (g P e),d.Fr,d.pr,d.self,λj l=>Qk (d.aE j l) i.size,p⟩
 ·have h:(bL a1 w).map ez=bL (a1.map ez) w:=AU (λm:mZ=>ptr m.q) a1 w
  rw[h];exact o
 ·have h:(bL a1 w).map uU=bL (a1.map uU) w:=AU (λm:mZ=>m.f) a1 w
  rw[h,<-d.files];rfl
def fm.put{p G':ZN}{D:ak}(f:fm b a p D c a1){q:Nat}(v:bY k c Value.string (aI (a1.map ez) w (ptr q)))(g:aj (·=c) b k)(r:eG b q G' W)(s:∀d∈a1,d.1≠w->∀P,G' P->¬d.2.G P)(t:∀P,G' P->P≠a/\P≠c)(x:(D.fE w W).Ok):
  fm k a (λP=>p P\/G' P) (D.fE w W) c (aI a1 w ⟨q,G',W⟩):=by
 have i:∀d∈aI a1 w ⟨q,G',W⟩,d=(w,⟨q,G',W⟩)\/(d∈a1/\d.1≠w):=λd e=>fO f.each.tidy e;refine⟨g.get f.head (λh=>f.pr h),?_,?_,⟨?_,?_,f.each.tidy.aI _ _⟩,?_,.inl f.Fr,f.pr,.inl f.self,?_,x⟩
 ·have h:(aI a1 w ⟨q,G',W⟩).map ez=aI (a1.map ez) w (ptr q):=ql (λl:mZ=>ptr l.q) a1 w _
  rw[h];exact v
 ·have h:(aI a1 w ⟨q,G',W⟩).map uU=aI (a1.map uU) w W:=ql (λl:mZ=>l.f) a1 w _
  rw[h,<-f.files];rfl
 ·intro d e
  rcases i d e with rfl|⟨e,m⟩
  ·exact r.keep g λP B=>(t P B).2
  ·exact(f.each.each d e).keep g λP B=>(f.HR d e P B).2.2
 ·intro d e n j u P B o
  rcases i d e with rfl|⟨e,m⟩<;>rcases i n j with rfl|⟨j,y⟩
  ·exact u rfl
  ·exact s n j y P B o
  ·exact s d e m P o B
  ·exact f.each.apart d e n j u P B o
 ·intro d e P B
  rcases i d e with rfl|⟨e,m⟩
  ·exact⟨.inr B,t P B⟩
  ·exact⟨.inl (f.HR d e P B).1,(f.HR d e P B).2⟩
 ·rintro P (B|B)
  ·exact Qk (f.aE P B) g.size
  ·exact Qk (r.aE P B) g.size
end Go.Proofs.YtblabbpipmodgaaGreatDoor
namespace Go.aw
open Go
def Ch(cs:Array Value):Nat->List Value->Array Value
 |_,[]=>cs
 |P,a::b=>Ch (cs.setIfInBounds P a) (P+1) b
def EG:∀(b:List Value) (cs:Array Value) (a P:Nat),(Ch cs a b)[P]? =if a<=P/\P<a+b.length/\P<cs.size then b[P-a]? else cs[P]?
 |[],cs,a,P=>by rw[Zq bc];rfl
 |v::b,cs,a,P=>by
  unfold Ch;rw[EG b,Array.getElem?_setIfInBounds];simp only[Xq,Array.size_setIfInBounds]
  by_cases c:a+1<=P/\P<a+1+b.length/\P<cs.size
  ·rw[Zx c,Zx oM,show P-a=(P-(a+1))+1 by omega,ZZ]
  ·rw[Zq c]
   by_cases d:a=P
   ·subst d
    by_cases e:a<cs.size
    ·rw[Zx rfl,Zx e,Zx oM,Nat.sub_self,ZJ]
    ·rw[Zx rfl,Zq e,Zq oM,Array.getElem?_eq_none oM]
   ·rw[Zq d,Zq oM]
variable{a2:List Value}{a:Nat}{g:TypeId}{b:World}{x:ZU}
def EH{cs:Array Value}(a:a2.length=cs.size):Ch cs 0 a2=a2.toArray:=by
 apply Array.ext_getElem?;intro P;rw[EG]
 by_cases b:P<cs.size
 ·rw[Zx oM];simp
 ·rw[Zq oM,Array.getElem?_eq_none oM]
  simp;omega
def yd{c:Nat}{g:TypeId}{h:ZU}:∀(b:List Value) (a:Nat) {P:World} {cs:Array Value},P.heap[c]? =some (.cells cs g (0,0))->a+b.length<=cs.size->
  (∀d,aj (·=c) P d->d.heap.size=P.heap.size->d.heap[c]? =some (.cells (Ch cs a b) g (0,0))->h d)->jh ⟨c,0,none⟩ a b P h
 |[],a,P,cs,e,i,f=>f P (aj.refl _) rfl e
 |v::b,a,P,cs,e,i,f=>by
  unfold jh;rw[Addr.add_lit,Xz];rw[Xq]at i;exact PS.mk e oM λq j k l=>yd b (a+1) l bc λm n o p=>f m (j.then n) (o.trans k) p
def storeAll{cs:Array Value}(c:List Value)(d:b.heap[a]? =some (.cells cs g (0,0)))(e:c.length=cs.size)(f:∀P,aj (·=a) b P->P.heap.size=b.heap.size->P.heap[a]? =some (.cells c.toArray g (0,0))->x P):jh ⟨a,0,none⟩ 0 c b x:=
 yd c 0 d oM λP h i j=>f P h i (by rw[j,EH e])
end Go.aw
namespace Go.aw
open Go
def wrap_u32(P:Nat)(a:P<2 ^ 32):ZG .u32 (P:Int)=P:=by
 unfold ZG;simp[IntKind.signed,IntKind.bits];omega
def wrap_u8(P:Nat):ZG .u8 (P:Int)=((P % 256:Nat):Int):=by
 unfold ZG;simp[IntKind.signed,IntKind.bits]
def ofInt32(P:q_):BitVec.ofInt (IntKind.bits .u32) ((P.toNat:Nat):Int)=P:=by
 show BitVec.ofInt 32 ((P.toNat:Nat):Int)=P;rw[BitVec.ofInt_natCast];simp
def Kh(P a:q_):qb .u32 ((P.toNat:Nat):Int) ((a.toNat:Nat):Int)=(((P ^^^ a).toNat:Nat):Int):=by
 unfold qb;rw[ofInt32,ofInt32];exact wrap_u32 _ (P ^^^ a).isLt
def Pt(P:q_):qb .u32 (IntKind.max .u32) ((P.toNat:Nat):Int)=(((~~~P).toNat:Nat):Int):=by
 have a:IntKind.max .u32=(((BitVec.allOnes 32).toNat:Nat):Int):=by decide+kernel
 rw[a,Kh,BitVec.allOnes_xor]
def T_(P:q_):jH .u32 ((P.toNat:Nat):Int) 8=(((P>>>8).toNat:Nat):Int):=by
 unfold jH;have:(min (Int.toNat 8) (IntKind.bits .u32))=8:=dC
 rw[this,BitVec.toNat_ushiftRight,Nat.shiftRight_eq_div_pow];show Int.fdiv _ ((2 ^ 8:Nat):Int)=_;rw[Int.fdiv_eq_ediv_of_nonneg _ (Int.natCast_nonneg _)]
 rfl
def Vh(P a:Nat)(b:P<256)(c:a<256):qb .u8 (P:Int) (a:Int)=((P ^^^ a:Nat):Int):=by
 unfold qb;show ZG .u8 ((BitVec.ofInt 8 (P:Int) ^^^ BitVec.ofInt 8 (a:Int)).toNat:Int)=_;have d:P ^^^ a<2 ^ 8:=Nat.xor_lt_two_pow oM oM;rw[BitVec.ofInt_natCast,BitVec.ofInt_natCast,BitVec.toNat_xor,BitVec.toNat_ofNat,BitVec.toNat_ofNat,Nat.mod_eq_of_lt oM,Nat.mod_eq_of_lt oM,wrap_u8,Nat.mod_eq_of_lt oM]
def Ua(P:Nat)(b:P<256):Fu .u8 (P:Int) 15=((P % 16:Nat):Int):=by
 unfold Fu;show ZG .u8 ((BitVec.ofInt 8 (P:Int)&&&BitVec.ofInt 8 ((15:Nat):Int)).toNat:Int)=_;have a:P&&&15=P % 16:=Nat.and_two_pow_sub_one_eq_mod P 4;rw[BitVec.ofInt_natCast,BitVec.ofInt_natCast,BitVec.toNat_and,BitVec.toNat_ofNat,BitVec.toNat_ofNat,Nat.mod_eq_of_lt oM,Nat.mod_eq_of_lt oM,a,wrap_u8,Nat.mod_eq_of_lt oM]
def Vi(P:Nat):jH .u8 (P:Int) 4=((P/16:Nat):Int):=by
 unfold jH;have:(min (Int.toNat 4) (IntKind.bits .u8))=4:=dC
 rw[this];show Int.fdiv _ ((2 ^ 4:Nat):Int)=_;rw[Int.fdiv_eq_ediv_of_nonneg _ (Int.natCast_nonneg _)]
 rfl
end Go.aw
namespace Go.Proofs.YtblabbpipmodgaaGreatDoor
open Go.aw
structure pU (w:World):Prop where
 lower:∀i,i<16->w.cell? ⟨2,i,none⟩=some (.int .u32 ((jL.getD i 0:Nat):Int))
 upper:∀i,i<16->w.cell? ⟨3,i,none⟩=some (.int .u32 ((jM.getD i 0:Nat):Int))
 lt:2<w.heap.size/\3<w.heap.size
variable{v:List UInt8}{a c:Nat}{f:ZN}{d:YQ}{b k:World}
def pU.af(P:pU b)(c:ai b k):pU k:=
 ⟨λa d=>(c.cell (a:=⟨2,a,none⟩) P.lt.1 id).trans (P.lower a d),λa d=>(c.cell (a:=⟨3,a,none⟩) P.lt.2 id).trans (P.upper a d),Qk P.lt.1 c.size,Qk P.lt.2 c.size⟩
def Pu:∀P,jL.getD P 0<2 ^ 32/\jM.getD P 0<2 ^ 32:=by
 intro P
 by_cases a:P<16
 ·have b:(List.range 16).all (λP=>decide (jL.getD P 0<2 ^ 32/\jM.getD P 0<2 ^ 32))=true:=by decide+kernel
  simpa using ZY.1 b P (List.mem_range.2 a)
 ·rw[QQ,QQ,Q7 (by show 16<=P;omega),Q7 (by show 16<=P;omega)]
  decide
def Pv{s:q_}(p:pU b)(j:Row fN 1 b f d a v):
  YX 316 #[.int .u32 ((s.toNat:Nat):Int),.slice d a c] b (Ok λq k=>q= .int .u32 (((L_ s v).toNat:Nat):Int)/\bX b k):=by
 have H:=j.len;have r:=j.dO;unfold aO at r;refine JU ⟨λn P i k=>∃g:Nat,i=g/\g<=a/\n=a-g/\bX b k/\P=((((v.take g).foldl kh (~~~s)).toNat:Nat):Int),⟨_,0,rfl,Qj _,rfl,bX.refl b,by rw[Pt];rfl⟩,?_⟩;rintro n P i I J ⟨g,rfl,K,rfl,h,rfl⟩;generalize l:(v.take g).foldl kh (~~~s)=P;refine al.dec (λt=>?_) (λt=>Ok.mk ⟨?_,h⟩)
 ·obtain⟨u,m,e,rfl,w,_,x⟩:=(j.af h.keep).lN (i:=g) oM
  have o:=p.af h.keep;have L:=e.toNat_lt;have y:ZG .u8 ((P.toNat:Nat):Int)=((P.toNat % 256:Nat):Int):=wrap_u8 _;have M:e.toNat ^^^ P.toNat % 256<2 ^ 8:=Nat.xor_lt_two_pow oM oM;have z:qb .u8 ((e.toNat:Nat):Int) (ZG .u8 ((P.toNat:Nat):Int))=((e.toNat ^^^ P.toNat % 256:Nat):Int):=by rw[y,Vh _ _ oM oM]
  refine⟨u,m,rfl,oM,oM,_,x,?_⟩;rw[z,Ua _ oM,Vi];refine⟨2,0,rfl,oM,oM,((jL.getD ((e.toNat ^^^ P.toNat % 256) % 16) 0:Nat):Int),?_,3,0,rfl,oM,oM,((jM.getD ((e.toNat ^^^ P.toNat % 256)/16) 0:Nat):Int),?_,λN A=>⟨_,oM,g+1,an oM,oM,rfl,h.then A,?_⟩⟩
  ·rw[Xz];exact o.lower _ oM
  ·rw[Xz];exact o.upper _ oM
  ·have B:=(Pu ((e.toNat ^^^ P.toNat % 256) % 16)).1
   have C:=(Pu ((e.toNat ^^^ P.toNat % 256)/16)).2;rw[T_];have E:((jL.getD ((e.toNat ^^^ P.toNat % 256) % 16) 0:Nat):Int)=(((BitVec.ofNat 32 (jL.getD ((e.toNat ^^^ P.toNat % 256) % 16) 0)).toNat:Nat):Int):=by rw[BitVec.toNat_ofNat,Nat.mod_eq_of_lt B]
   have F:((jM.getD ((e.toNat ^^^ P.toNat % 256)/16) 0:Nat):Int)=(((BitVec.ofNat 32 (jM.getD ((e.toNat ^^^ P.toNat % 256)/16) 0)).toNat:Nat):Int):=by rw[BitVec.toNat_ofNat,Nat.mod_eq_of_lt C]
   rw[E,F,Kh,Kh,<-No,Qw,w,List.foldl_append,l]
   rfl
 ·rw[Qz oM]at l
  rw[Pt,<-l];rfl
def Ma(P:pU b)(e:Row fN 1 b f d a v):
  YX 284 #[.slice d a c] b (Ok λg h=>g= .int .u32 (((Ki v).toNat:Nat):Int)/\bX b h):=by
 refine Nk (PC.ok (Pv (s:=0#32) P e) ?_);rintro _ j ⟨rfl,i⟩;exact⟨_,rfl,Ok.mk ⟨rfl,i⟩⟩
end Go.Proofs.YtblabbpipmodgaaGreatDoor
namespace Go.aw
open Go
def wrap_u32'(P:Int):ZG .u32 P=P % 4294967296:=by
 unfold ZG;simp[IntKind.signed,IntKind.bits]
def KC{P d:Nat}(c:P<16777216)(e:d<256):Pq .u32 (Kz .u32 (P:Int) 8) (ZG .u32 (d:Int))=((P*256+d:Nat):Int):=by
 have a:Kz .u32 (P:Int) 8=((P*256:Nat):Int):=by
  unfold Kz;have:min (Int.toNat 8) (IntKind.bits .u32)=8:=dC
  rw[this,wrap_u32'];have:((2:Int) ^ 8)=256:=dC
  rw[this];omega
 rw[a,wrap_u32 _ oM];unfold Pq;show ZG .u32 ((BitVec.ofInt 32 ((P*256:Nat):Int)|||BitVec.ofInt 32 (d:Int)).toNat:Int)=_;have b:P*256|||d=P*256+d:=by
  have:=(Nat.shiftLeft_add_eq_or_of_lt (a:=P) (i:=8) (b:=d) oM).symm
  rwa [Nat.shiftLeft_eq]at this
 rw[BitVec.ofInt_natCast,BitVec.ofInt_natCast,BitVec.toNat_or,BitVec.toNat_ofNat,BitVec.toNat_ofNat,Nat.mod_eq_of_lt oM,Nat.mod_eq_of_lt oM,b,wrap_u32 _ oM]
def jx(P:Nat):ZG .u8 (P:Int)=((UInt8.ofNat P).toNat:Int):=by
 rw[wrap_u8,ZK]
def MV{k:IntKind}{u m:Nat}(P:m<=k.bits):jH k (u:Int) (m:Int)=((u/2 ^ m:Nat):Int):=by
 unfold jH;rw[Qx,X2 P];show Int.fdiv _ ((2:Int) ^ m)=_;rw[Int.fdiv_eq_ediv_of_nonneg _ (Int.pow_nonneg dC)];simp
variable{a c:Nat}{d:YQ}{h:Program}{A g n:TypeId}{m t:ZR}{b:World}
def Ny{c tn j P:TypeId}(k:jq h c P 1 1)(n:h.underlying tn=some (.int .i64))(o:0<a)(p:a<=aO)(d:∀e f,aU fN P (·=b.heap.size) e (ZM b.heap.size) 0 f []->a<=f->ai b e->m (.slice (ZM b.heap.size) a f) e):
  aG h (Builtin.append_ #[c,tn] j #[.slice none 0 0,ZH (a:Int)]) b m t:=by
 obtain⟨q,g,r,s,A,u,v⟩:=k.info;unfold aO at p;have w:=Lib.run_append_nil_zeros (P:=h) b c tn j P q g .i64 .i64 k.under n r s a o oM oM (by rw[u];omega);have x:=grownCap_ge b a 0 P;refine aG.mk w (d _ _ ?_ x ?_)
 ·have l:=heap_alloc_new b.drew (.cells (Builtin.zeroCells g.cells a++Builtin.zeroCells g.cells (grownCap b a 0 P-a)) P)
  refine⟨⟨[],λ_=>False,⟨⟨sM,.inr ⟨b.heap.size,grownCap b a 0 P,_,rfl,Qj _,l,Qj _,grownCap_le_maxLen b a 0 P (by unfold maxLen;omega),?_,sM⟩⟩⟩,rfl,λ_ d=>d.elim⟩,λy i=>by simpa[aH]using i.symm,λy i=>by rw[i];exact aA l⟩;rw[Array.size_append,size_zeroCells,size_zeroCells,v];show a*1+(grownCap b a 0 P-a)*1=grownCap b a 0 P*1;omega
 ·have z:ai b (b.drewN 1):=aj.drewN b 1
  exact z.then (aj.alloc _ _)
def Tx(P:h.underlying g=some (.slice n))(e:m (ZH (c:Int)) b):aG h (Builtin.cap_ #[g] A #[.slice d a c]) b m t:=by
 refine aG.mk (v:=ZH (c:Int)) ?_ e;simp[Builtin.cap_,run_underlying P,goInt]
end Go.aw
namespace Go.Proofs.YtblabbpipmodgaaGreatDoor
open Go.aw
variable{a7 v:List UInt8}{F a c i o:Nat}{C:Nat×Nat}{d r:YQ}{b:World}
def vb{bs:List UInt8}{D:ZN}(f:Row fN 1 b D d a bs)(q:a<=4):
  YX 299 #[.slice d a c] b (Ok λh P=>h= .int .u32 (gi bs:Int)/\b=P):=by
 have r:=f.len;refine AB ⟨λm g i P=>∃j:Nat,i=j/\j<=a/\m=a-j/\g=(gi (bs.take j):Int)/\b=P,⟨_,0,rfl,Qj _,rfl,rfl,rfl⟩,?_⟩;rintro m g i _ s ⟨j,rfl,t,rfl,rfl,rfl⟩;refine al.dec (λk=>?_) (λk=>?_)
 ·obtain⟨l,e,n,rfl,o,_,p⟩:=f.lN (i:=j) oM
  have u:=ob bs (j:=j) (m:=3) oM;refine⟨l,e,rfl,oM,oM,_,p,_,oM,j+1,an oM,oM,rfl,?_,rfl⟩;rw[KC (by
            have:(256:Nat) ^ 3=16777216:=dC
            omega) n.toNat_lt,DW o]
 ·rw[Qz oM]
  exact Ok.mk ⟨rfl,rfl⟩
def FZ{m:Nat}(g:0<m)(d:m<=aO):
  YX 315 #[.slice none 0 0,ZH (m:Int)] b (Ok λh P=>∃a e,h= .slice (ZM a) 0 e/\aU fN 5 (·=a) P (ZM a) 0 e []/\ai b P/\b.heap.size<=a):=by
 have c:=d;unfold aO at c;refine lU ⟨λP=>P=b,al.dec (λf=>oM) (λ_=>rfl),?_⟩;rintro _ n rfl;refine Tx sU.under ⟨_,rfl,?_⟩;have i:ZG .i64 ((m:Int)-ZG .i64 (((0:Nat):Int)-((0:Nat):Int)))=(m:Int):=by
  rw[wrap_i64 (x:=((0:Nat):Int)-((0:Nat):Int)) bb,wrap_i64 bb];omega
 rw[i];refine al.dec (λf=>?_) (λf=>oM);refine Tx sU.under ⟨_,rfl,oM,oM,?_⟩;refine Ny sU kR g d λo j k p l=>⟨_,_,_,rfl,oM,oM,Ok.mk ⟨_,j,rfl,k,l,Q4 _⟩⟩
def A_{D:ZN}(B:b.heap[a]? =some (.cells #[.slice d c o,.slice r i F] 197 C))(R:Row fN 1 b D d c v)(S:Row fN 1 b D r i a7)(E:∀P,D P->P<b.heap.size)(h0:0<c)(e:c+i<=aO):
  YX 283 #[.slice (ZM a) 2 2] b (Ok (pC fN 5 b (v++a7))):=by
 have l1:=R.len;have l2:=S.len;have H:=e;unfold aO at H;refine kH ⟨λg x h f=>b=f/\((g=2/\x=0/\h=0)\/(g=1/\x=(c:Int)/\h=1)\/(g=0/\x=((c+i:Nat):Int)/\h=2)),⟨2,rfl,.inl ⟨rfl,rfl,rfl⟩⟩,?_⟩;rintro g x h _ w1 ⟨rfl,I⟩;rcases I with⟨rfl,rfl,rfl⟩|⟨rfl,rfl,rfl⟩|⟨rfl,rfl,rfl⟩
 ·refine al.tt dC ⟨a,0,rfl,oM,oM,d,c,o,ae B rfl,?_⟩
  rw[wrap_i64 (x:=0+((c:Nat):Int)) bb];exact al.dec (λT=>oM) (λ_=>⟨1,oM,rfl,.inr (.inl ⟨rfl,oM,rfl⟩)⟩)
 ·refine al.tt dC ⟨a,0,rfl,oM,oM,r,i,F,ae B rfl,?_⟩
  rw[wrap_i64 (x:=((c:Nat):Int)+((i:Nat):Int)) bb];exact al.dec (λT=>oM) (λ_=>⟨0,oM,rfl,.inr (.inr ⟨rfl,oM,rfl⟩)⟩)
 refine al.ff dC (PC.ok (FZ (m:=c+i) oM e) ?_);rintro _ w2 ⟨U,cq,rfl,Z,k2,hq⟩;have a6:∀P,D P->P≠U:=λP e J=>by have:=E P e;omega
 refine⟨_,_,_,rfl,λg p k q h f=>ai b f/\∃l,(∀P,l P->b.heap.size<=P)/\((g=2/\h=0/\aU fN 5 l f p k q [])\/(g=1/\h=1/\aU fN 5 l f p k q v)\/(g=0/\h=2/\aU fN 5 l f p k q (v++a7))),
  ⟨2,k2,(·=U),λP J=>oM,.inl ⟨rfl,rfl,Z⟩⟩,?_⟩
 rintro g p k q h _ V ⟨s,l,y,I⟩;have W:=s.get B id;have ap:∀{z A:List UInt8} {K u X} {L Y:ZR},aU fN 5 l V p k q z->Row fN 1 b D K u A->z.length+A.length<=140737488355328->
   (∀m t f n,aU fN 5 n f m (k+u) t (z++A)->ai b f->(∀P,n P->b.heap.size<=P)->L (.slice m (k+u) t) f)->
   aG ZP (Builtin.append_ #[197,197] 197 #[.slice p k q,.slice K u X]) V L Y:=by
  intro z A K u X L Y j hr a5 M;refine zr j sU (hr.af s) (λP e=>⟨by have:=E P e;have:=s.size;omega,λJ=>?_⟩) ba (by unfold maxLen;omega) λm t N n w a3 _ a4=>?_
  ·have:=E P e;have:=y P (j.self P J);omega
  ·exact M m t N (λP=>aH m=some P) w.alone (s.new a3 λP e=>.inr (y P (j.self P e))) λP e=>(a4 P e).elim (y P) λT=>by have:=s.size;omega
 rcases I with⟨rfl,rfl,j⟩|⟨rfl,rfl,j⟩|⟨rfl,rfl,j⟩
 ·refine al.tt dC ⟨a,0,rfl,oM,oM,d,c,o,ae W rfl,?_⟩
  exact ap j R bc λm t N n w O Q=>⟨_,_,_,rfl,1,oM,O,n,Q,.inr (.inl ⟨rfl,rfl,w⟩)⟩
 ·refine al.tt dC ⟨a,0,rfl,oM,oM,r,i,F,ae W rfl,?_⟩
  exact ap j S oM λm t N n w O Q=>⟨_,_,_,rfl,0,oM,O,n,Q,.inr (.inr ⟨rfl,rfl,w⟩)⟩
 ·exact al.ff dC (Ok.mk ⟨_,_,_,l,rfl,j,s,y⟩)
end Go.Proofs.YtblabbpipmodgaaGreatDoor
namespace Go.aw
open Go
def Ba(P:List UInt8)(a:Nat)(b:(P.getD 1 0).toNat*65536+(P.getD 2 0).toNat*256+(P.getD 3 0).toNat=a):
  bt P=if P.length<4 then⟨0,[],0,4⟩else if P.getD 0 0=0 then⟨0,[],0,2⟩else if 65536<a then⟨0,[],0,5⟩else if P.length<a+9 then⟨0,[],0,4⟩else
   if P.take (a+9)=cz (P.getD 0 0).toNat ((P.drop 4).take a)then⟨(P.getD 0 0).toNat,(P.drop 4).take a,a+9,0⟩else⟨0,[],0,6⟩:=by
 unfold bt;rw[b]
variable{v:List UInt8}
def PQ(P:(bt v).no=0):(bt v).kind=((v.getD 0 0).toNat:Int)/\(bt v).body=(v.drop 4).take ((bt v).n-9)/\4<=v.length:=by
 rw[Ba v _ rfl]at P⊢;split at P
 ·cases P
 rename_i a;rw[Zq a];split at P
 ·cases P
 rename_i b;rw[Zq b];split at P
 ·cases P
 rename_i c;rw[Zq c];split at P
 ·cases P
 rename_i d;rw[Zq d];split at P
 ·rename_i e
  rw[Zx e];exact⟨rfl,sM,oM⟩
 ·cases P
end Go.aw
namespace Go.Proofs.YtblabbpipmodgaaGreatDoor
section
open Go.aw
def Bb(P:List UInt8):List Value:=P.map λa=>Value.int .u8 (a.toNat:Int)
variable{e:Int}{v:List UInt8}{a c:Nat}{d:YQ}{b:World}
def DX{f:Nat×Nat}(P:List UInt8)(c:b.heap[a]? =some (.cells (Bb P).toArray 5 f))(e:P.length<=1000):Row fN 1 b (·=a) (ZM a) P.length P:=
 Row.lit (enc:=λd:UInt8=>Value.int .u8 (d.toNat:Int)) c P (by simp[Bb]) (λ_ _=>trivial) ba
def DY{D:ZN}(A:pU b)(f:Row fN 1 b D d a v)(B:∀P,D P->P<b.heap.size):
  YX 222 #[.agg #[ZH e,.slice d a c]] b (Ok λC E=>∃u,C= .tuple #[u,ZH (jY e v).2]/\pC fN 5 b (jY e v).1 u E):=by
 have F:=f.len;refine HF (PA.mk λi k s1 l=>⟨d,a,c,ae l rfl,_,ae l rfl,al.dec (λh=>?_) (λh1=>⟨_,ae l rfl,al.dec (λh=>?_) (λh2=>al.dec (λh=>?_) (λh3=>?_))⟩)⟩)
 ·rw[show jY e v=([],2) by unfold jY;rw[Zx oM]]
  exact Ok.mk ⟨_,rfl,none,0,0,λ_=>False,rfl,aU.nil i,k,λ_ h=>h.elim⟩
 ·rw[show jY e v=([],2) by unfold jY;rw[Zx oM]]
  exact Ok.mk ⟨_,rfl,none,0,0,λ_=>False,rfl,aU.nil i,k,λ_ h=>h.elim⟩
 ·rw[show jY e v=([],5) by unfold jY;rw[Zq oM,Zx oM]]
  exact Ok.mk ⟨_,rfl,none,0,0,λ_=>False,rfl,aU.nil i,k,λ_ h=>h.elim⟩
 rw[show jY e v=(cz e v,0) by unfold jY;rw[Zq oM,Zq oM]];refine⟨_,ae l rfl,PA.mk λH m s2 I=>⟨d,a,c,ae (m.get l id) rfl,PA.mk λo n s3 J=>?_⟩⟩;have K:jH .i64 ((a:Nat):Int) 16=((a/65536:Nat):Int):=MV (k:=.i64) (u:=a) (m:=16) dC;have L:jH .i64 ((a:Nat):Int) 8=((a/256:Nat):Int):=MV (k:=.i64) (u:=a) (m:=8) dC;have M:e=((e.toNat:Nat):Int):=oM
 have N:H.heap[i.heap.size]? =some (.cells (Bb [UInt8.ofNat e.toNat,UInt8.ofNat (v.length/65536),UInt8.ofNat (v.length/256),UInt8.ofNat v.length]).toArray 5 (0,0)):=by
  rw[I,K,L,M,jx,jx,jx,jx,F];simp[Bb]
 have O:Row fN 1 o (λP=>D P\/P=i.heap.size) (ZM i.heap.size) 4 [UInt8.ofNat e.toNat,UInt8.ofNat (v.length/65536),UInt8.ofNat (v.length/256),UInt8.ofNat v.length]:=
  (DX (f:=(0,0)) [UInt8.ofNat e.toNat,UInt8.ofNat (v.length/65536),UInt8.ofNat (v.length/256),UInt8.ofNat v.length] (n.get N id) sM).mono λP f=>.inr f
 have Q:Row fN 1 o (λP=>D P\/P=i.heap.size) d a v:=(f.af ((k.then m).then n)).mono λP f=>.inl f;refine PC.ok (A_ J O Q (λP f=>f.elim (λh=>by have:=B P h;omega) λh=>oM) oM ba) ?_;rintro _ p ⟨a4,n4,c4,F4,rfl,j,R,w⟩;have S:[UInt8.ofNat e.toNat,UInt8.ofNat (v.length/65536),UInt8.ofNat (v.length/256),UInt8.ofNat v.length]++v=jN e v:=rfl;rw[S]at j;have a8:=j.len dC;have q:(jN e v).length=4+v.length:=by simp[jN];omega
 have r:ai b p:=((k.then m).then n).then R;refine⟨_,_,_,rfl,PC.ok (Ma (A.af r) (j.row (bytes:=1) dC (by rw[q];unfold aO;omega))) ?_⟩;rintro _ s ⟨rfl,T⟩;have t:ai p s:=T.keep;refine⟨_,rfl,?_⟩;generalize U:(Ki (jN e v)).toNat=g;have V:jH .u32 (g:Int) 24=((g/16777216:Nat):Int):=MV (k:=.u32) (u:=g) (m:=24) dC;have W:jH .u32 (g:Int) 16=((g/65536:Nat):Int):=MV (k:=.u32) (u:=g) (m:=16) dC;have X:jH .u32 (g:Int) 8=((g/256:Nat):Int):=MV (k:=.u32) (u:=g) (m:=8) dC;refine PA.mk λY x s6 Z=>?_;have a1:Y.heap[s.heap.size]? =some (.cells (Bb (OM g++[10])).toArray 5 (0,0)):=by rw[Z,V,W,X,jx,jx,jx,jx];rfl
 have a2:=(j.af t).af x;have a9:p.heap.size<=s.heap.size:=t.size;refine kK a2 sU (DX (OM g++[10]) a1 (by simp[OM])) (λP y=>⟨oM,λe2=>by have:=j.aE P (j.self P e2);omega⟩) (by rw[q];unfold aO;simp[OM];omega) (by rw[q];unfold maxLen;simp[OM];omega) λz c7 w7 F7 a3 a5 _ a6=>?_;refine⟨_,_,_,rfl,Ok.mk ⟨_,rfl,z,_,c7,λP=>aH z=some P,rfl,?_,?_,?_⟩⟩
 ·have h7:=a3.alone
  have y:cz e v=jN e v++(OM g++[10]):=by unfold cz;rw[U,XQ]
  rw[y];exact h7
 ·exact((r.then t).then x).new a5 λP f=>.inr (by have:=w P (j.self P f);have:=k.size;have:=m.size;have:=n.size;omega)
 ·intro P f
  have b0:b.heap.size<=o.heap.size:=oM
  rcases a6 P f with h|h
  ·have:=w P h;omega
  ·have:=r.size;omega
def HX{D:ZN}(C:pU b)(g:Row fN 1 b D d a v)(q:a<=c):
  YX 251 #[.slice d a c] b (Ok λE F=>E= .tuple #[ZH (((bt v).n-9:Nat):Int),ZH (bt v).no]/\bX b F):=by
 have W:=g.len;have H:=g.dO;unfold aO at H;generalize r:(v.getD 1 0).toNat*65536+(v.getD 2 0).toNat*256+(v.getD 3 0).toNat=P;have e:=Ba v P r;refine AJ (al.dec (λl=>?_) (λX=>?_))
 ·rw[e,Zx oM]
  exact Ok.mk ⟨rfl,bX.refl b⟩
 rw[Zq (show¬v.length<4 by omega)]at e;refine⟨oM,oM,oM,PC.ok (vb (bs:=(v.take 4).drop 1) (g.part (lo:=1) (hi:=4) (cap:=c) oM oM q) dC) ?_⟩;rintro _ Y ⟨rfl,rfl⟩;have I:gi ((v.take 4).drop 1)=P:=by
  rw[Tz oM];show gi [v.getD 1 0,v.getD 2 0,v.getD 3 0]=P;simp only[gi,List.foldl];omega
 have Z:P<16777216:=by
  have h1:=(v.getD 1 0).toNat_lt;have h2:=(v.getD 2 0).toNat_lt;have h3:=(v.getD 3 0).toNat_lt;omega
 rw[I];obtain⟨j,f,s,rfl,J,_,h⟩:=g.lN (i:=0) oM;have i:v.getD 0 0=s:=by rw[QQ,J];rfl
 have K:ZG .i64 (P:Int)=(P:Int):=wrap_i64 bb;have L:ZG .i64 (4+(P:Int))=((4+P:Nat):Int):=by rw[wrap_i64 bb];omega
 have M:ZG .i64 (((4+P:Nat):Int)+5)=((4+P+5:Nat):Int):=by rw[wrap_i64 bb];omega
 refine⟨_,rfl,j,f,rfl,oM,oM,_,h,?_⟩;rw[K,L,M];refine al.eD (λl=>?_) (λm=>al.dec (λl=>?_) (λa8=>al.dec (λl=>?_) (λa7=>?_)))
 ·rw[e,i,Zx (UInt8.toNat_inj.1 (by
                        have:s.toNat=0:=oM
                        rw[this];rfl))]
  exact Ok.mk ⟨rfl,bX.refl b⟩
 ·rw[e,i,Zq (by rintro rfl;exact m rfl),Zx oM]
  exact Ok.mk ⟨rfl,bX.refl b⟩
 ·rw[e,i,Zq (by rintro rfl;exact m rfl),Zq oM,Zx oM]
  exact Ok.mk ⟨rfl,bX.refl b⟩
 rw[i,Zq (by rintro rfl;exact m rfl),Zq (show¬65536<P by omega),Zq (show¬v.length<P+9 by omega)]at e;have k:=Un (b:=v) (n:=P) oM r oM;rw[i]at k;refine⟨oM,oM,oM,oM,oM,λw8 t N u=>⟨oM,oM,?_⟩⟩;have w:ai b N:=(t.then u).keep;have x:=g.af w;refine PC.ok (Ma (C.af w) (x.take (m:=4+P) oM)) ?_;rintro _ O ⟨rfl,y⟩;have z:=x.af y.keep;have A:=z.part (lo:=4+P) (hi:=4+P+4) (cap:=c) oM oM q;rw[show 4+P+4-(4+P)=4 by omega]at A;refine⟨_,rfl,PC.ok (vb A dC) ?_⟩;rintro _ a9 ⟨rfl,rfl⟩;have Q:(v.take (4+P+4)).drop (4+P)=(v.drop (4+P)).take 4:=by rw[List.drop_take];congr 1;omega
 rw[Q];have n:bX b O:=(t.then u).then y;refine⟨_,rfl,al.dV (λo=>?_) (λb0=>?_)⟩
 ·rw[e,Zq (λh=>o (by rw[(k.1 h).1]))]
  exact Ok.mk ⟨rfl,n⟩
 obtain⟨b7,o8,p,R,S,_,T⟩:=z.lN (i:=8+P) oM
 cases R
 have B:v.getD (8+P) 0=p:=by rw[QQ,S];rfl
 have U:cI (some ⟨j,f,none⟩) (4+P) c 1=some ⟨j,f+(4+P),none⟩:=by
  unfold cI;rw[Zq oM];simp[Addr.add_lit]
 refine⟨j,f+(4+P),U,oM,oM,_,by rw[show f+(4+P)+Int.toNat 4=f+(8+P) by show f+(4+P)+4=_;omega];exact T,al.dV (λo=>?_) (λhe=>?_)⟩
 ·rw[e,Zq (λh=>o (by rw[<-B,(k.1 h).2];rfl))]
  exact Ok.mk ⟨rfl,n⟩
 ·have V:p=10:=UInt8.toNat_inj.1 (by show p.toNat=10;omega)
  rw[e,Zx (k.2 ⟨oM,B.trans V⟩)];exact Ok.mk ⟨sM,n⟩
def DZ{D:ZN}(R:pU b)(e:Row fN 1 b D d a v)(s:a<=c)(t:∀P,D P->P<b.heap.size):
  YX 182 #[.slice d a c] b (Ok λS u=>∃w x y z,S= .tuple #[.agg #[ZH (bt v).kind,.slice w x y],ZH ((bt v).n:Int),ZH (bt v).no]/\
   aU fN 5 z u w x y (bt v).body/\ai b u/\∀P,z P->b.heap.size<=P):=by
 have hn:=e.len;have T:=e.dO;unfold aO at T;refine HC (PA.mk λA i s1 U=>PC.ok (HX (R.af i) (e.af i) s) ?_);rintro _ B ⟨rfl,V⟩;have j:ai A B:=V.keep;have C:=j.get U id;refine⟨_,_,rfl,al.dV (λk=>?_) (λl=>?_)⟩
 ·have m:(bt v).kind=0/\(bt v).body=[]/\(bt v).n=0:=by
   rw[Ba v _ rfl]at k⊢
   repeat' split
   all_goals first|exact⟨rfl,rfl,rfl⟩|skip
   rename_i W X Y Z h5;rw[Zq W,Zq X,Zq Y,Zq Z,Zx h5]at k;exact Zz rfl k
  rw[m.1,m.2.1,m.2.2];refine storeAll [ZH 0,.slice none 0 0] C rfl λg h s3 E=>⟨0,none,0,0,ae E rfl,ae E rfl,Ok.mk ⟨none,0,0,λ_=>False,rfl,aU.nil g,?_,λ_ n=>n.elim⟩⟩
  exact(i.then j).new h λP e=>.inr oM
 obtain⟨a0,h9,a1⟩:=vd l;generalize a2:(bt v).n=f at a0 h9 a1;obtain⟨a3,F,b1⟩:=PQ l;rw[a2]at F;have H:(bt v).kind=((v.getD 0 0).toNat:Int)/\(bt v).body=(v.drop 4).take (f-9):=⟨a3,F⟩
 intro g a5;have h:ai B g:=a5.keep;have o:ai b g:=(i.then j).then h;have p:=e.af o;obtain⟨I,o6,J,rfl,hx,_,hc⟩:=p.lN (i:=0) oM;obtain⟨b2,b3,x',es,a6,_,a7,_⟩:=p.vQ (i:=0) oM
 cases a6
 have a8:v.getD 0 0=J:=by rw[QQ,hx];rfl
 have K:ZG .i64 (4+((f-9:Nat):Int))=((4+(f-9):Nat):Int):=by rw[wrap_i64 bb];omega
 have e9:ZG .i64 (((4+(f-9):Nat):Int)+5)=(f:Int):=by rw[wrap_i64 bb];omega
 refine⟨λP=>b.heap.size<=P,I,o6,rfl,oM,oM,by have:=t I a7;omega,_,hc,?_⟩;refine⟨oM,oM,oM,?_⟩;have a4:=p.part (lo:=4) (hi:=4+(f-9)) (cap:=c) oM oM s;refine PC.ok (by rw[K];exact kJ a4 (λP n=>by have:=t P n;have:=o.size;omega)) ?_;rintro _ w4 ⟨L,M,N,F4,rfl,a9,q,O⟩;have b4:A.heap.size<=g.heap.size:=(j.then h).size;have g4:=q.get (h.get C id) id;refine⟨_,_,_,rfl,q.keep,?_⟩;refine storeAll [ZH (ZG .i64 (J.toNat:Int)),.slice L M N] g4 rfl λw5 r s5 Q=>⟨r.mono λP _ b0=>oM,_,_,_,_,ae Q rfl,ae Q rfl,Ok.mk ⟨L,M,N,F4,?_,?_,?_,?_⟩⟩
 ·rw[KD,H.1,a8,l,K,e9]
 ·rw[H.2,<-show(v.take (4+(f-9))).drop 4=(v.drop 4).take (f-9) by rw[List.drop_take];congr 1;omega]
  exact a9.keep r λP e b0=>by have:=O P e;omega
 ·exact(o.then q).new r λP e=>.inr oM
 ·intro P e;have:=O P e;omega
end
section
open Go.aw
variable{X p:Array Value}{a8:FrameMode}{y:FuncId}{e:Int}{b2 s:List Int}{a3:List PanicEntry->ZU}{v:List UInt8}{B:List ah}{a c i:Nat}{f:ZN}{S Y:Operand}{d r:YQ}{h:Program}{b:World}{x:ZU}{l:ah}{R:gH}
def QM(l:fp b a f R):
  YX 254 #[ZL a,ZH e] b (UF b a f R (if R.num.1=0 then(if R.num.2.1<0\/e<R.num.2.1 then 3 else 0)else R.num.1) (λj m=>j= ZH R.num.2.1) R.num.2.2):=by
 refine rU (PC.red (Ex l) ?_ ?_)
 rotate_left
 ·intro d k g h i
  rw[Zq d];exact⟨.inr ⟨d,rfl,g⟩,h,i⟩
 rintro d _ k g rfl h i;rw[Zx d];have c:R.num.2.1<0\/e<R.num.2.1->UF b a f R (if R.num.2.1<0\/e<R.num.2.1 then 3 else 0) (λj m=>j= ZH R.num.2.1) R.num.2.2 (.panicked (TJ 3)) k:=λP=>by
  rw[Zx P];exact⟨.inr ⟨dC,rfl,_,g⟩,h,i⟩
 refine⟨_,rfl,al.dec (λn=>fR (λP=>⟨rfl,?_⟩) (λP=>c (.inr ?_))) (λn=>fR (λP=>by cases P) (λ_=>c (.inl oM)))⟩
 ·have P:=XV P
  rw[Zq oM];exact⟨.inl ⟨rfl,g,_,rfl,rfl⟩,h,i⟩
 ·have P:=Xy P
  omega
def IK:(do eqGuard .eql 20 S (.const .nilIface) .nilIface .nilIface;binOp .eql 20 .nilIface .nilIface:Sem Value).run ZP b= .ok (.bool true) b:=by
 cases S<;>rfl
def Gx:(do eqGuard .eql 20 S Y (.iface 376 (ZH e)) .nilIface;binOp .eql 20 (.iface 376 (ZH e)) .nilIface:Sem Value).run ZP b= .ok (.bool false) b:=by
 rfl
def IL:(Instr.typeAssert (.iface 376 (ZH e)) 20 376 true).run ZP b= .ok (.tuple #[ZH e,.bool true]) b:=by
 rfl
def Lv.ret{ret:ZU}(P:a8= .returning)(a:ret b):Lv h ret a3 [] a8 b:=by
 subst P;unfold Lv;exact a
def Lv.one{w:World}(b:a8≠.run)(c:enters h y=true)(d:CallsD h y p a8 w λe P a=>Ql e (λ_=>Lv h x a3 [] (settle P) a) (λf=>Lv h x a3 [] (raised P f) a)):Lv h x a3 [{target:=.fn (.func y) p,args:= #[]}] a8 w:=
 ⟨b,y,p,rfl,c,by rw[show(#[]++p:Array Value)=p by simp];exact d⟩
def BQ{i S:ZN}(e:fp b a i R)(I:enters ZP y=true){A:ZU}{no:Int}(s:∀f,S f->f<b.heap.size)(J:R.rm=0->∀d,ai b d->YX y (p++ #[]++X) d λc P=>aj S d P/\((no=0/\c= .returned (.tuple #[])/\A P)\/(no≠0/\(no=3\/no=4\/no=5)/\c= .panicked (TJ no)/\aj (·=a) d P/\∃t,fp P a i ⟨R.bytes,t,0⟩))):
  YX 252 #[ZL a,.func (.func y) p X] b (Ok λK P=>K= .tuple #[]/\aj (λf=>S f\/f=a) b P/\
   ((R.rm≠0/\ai b P)\/(R.rm=0/\no=0/\aj S b P/\A P)\/(R.rm=0/\no≠0/\aj (·=a) b P/\fp P a i ⟨R.bytes,R.pos,no⟩))):=by
 obtain⟨a0,a2,L,G,u,h2,h3⟩:=e.body;have hp:=aA u;refine oY (PA.mk λd j s1 k=>?_);have v:=j.get u id;refine⟨_,ae k rfl,a,0,rfl,_,ae v rfl,al.dV (λM=>Ok.mk ⟨rfl,j.keep,.inl ⟨M,j⟩⟩) (λl=>?_)⟩;refine⟨_,ae k rfl,a,0,rfl,_,ae v rfl,PA.mk λw2 N s2 O=>PS.mk O sM λm Q s3 T=>⟨y,p,X,rfl,I,?_⟩⟩;have w:aj (·=d.heap.size) d m:=N.keep.then Q;have n:ai b m:=j.new w λf hb=>.inr oM;refine(J l m n).mono ?_;rintro c g ⟨o,U⟩;have x:g.heap[b.heap.size]? =some (.cells #[ZL a] 295 (0,0)):=o.get (w.get k (by intro c;omega)) (λq=>by have:=s _ q;omega);have V:g.heap[d.heap.size]? =some (.cells #[ZH (R.pos:Int)] 3 (0,0)):=o.get T (λq=>by have:=s _ q;omega);have z:aj S b g:=n.keep.then o;rcases U with⟨r,rfl,W⟩|⟨r,Y,rfl,Z,t,B⟩
 ·refine⟨rfl,Lv.one sM kR ?_⟩
  refine CallsD.mono (f_ (rv:=.nilIface) (u:=.returning) rfl (R:=λc h P=>c= .returned (.tuple #[])/\h= .returning/\P=g) ?_) ?_
  ·exact aG.mk IK ⟨_,rfl,al.tt rfl ⟨rfl,rfl,rfl⟩⟩
  ·rintro c h P ⟨rfl,rfl,rfl⟩
   refine Lv.ret rfl ?_;exact Ok.mk ⟨rfl,z.mono λ_ _ e=>.inl e,.inr (.inl ⟨l,r,z,W⟩)⟩
 ·refine Lv.one sM kR ?_
  obtain⟨a',n',C,G',e1,e2,e3⟩:=B.body;refine CallsD.mono (f_ (rv:=.iface 376 (ZH no)) (u:=.panicking (TJ no)) rfl (R:=λc h P=>c= .returned (.tuple #[])/\settle h= .returning/\fp P a i ⟨R.bytes,R.pos,no⟩/\aj (·=a) b P) ?_) ?_
  ·refine aG.mk (v:=.bool false) (w':=g) ?_ ⟨_,rfl,al.ff rfl (aG.mk (v:=.tuple #[ZH no,.bool true]) (w':=g) ?_ ⟨_,_,rfl,al.tt rfl ?_⟩)⟩
   ·exact Gx
   ·exact IL
   ·refine⟨_,ae x rfl,_,ae x rfl,_,ae V rfl,a,0,rfl,PS.mk e1 sM λw5 E s5 g5=>⟨a,0,rfl,PS.mk g5 sM λw6 F s6 g6=>⟨rfl,rfl,?_,?_⟩⟩⟩
    ·exact B.eV (r':=⟨R.bytes,R.pos,no⟩) e2 e3 (E.then F) g6 rfl ⟨e.fit.pos,.inr Y⟩
    ·exact(n.keep.then Z).then (E.then F)
  ·rintro c h P ⟨rfl,fy,a1,H⟩
   refine Lv.ret fy ?_;exact Ok.mk ⟨rfl,H.mono λ_ _ e=>.inr e,.inr (.inr ⟨l,r,H,a1⟩)⟩
def FR(P:fp b a f R):
  YX 185 #[ZL a] b (Ok λq h=>q= ZH (eY R).1/\fp h a f (eY R).2/\aj (·=a) b h):=by
 have O:a<b.heap.size:=P.aE a P.self;refine uH (PA.mk λl F Q w=>PA.mk λH r S s=>⟨_,ae (r.get w id) rfl,?_⟩);have x:ai b H:=F.then r;have t:=P.af x;have I:=r.get w id;refine PC.ok (BQ (S:=λg=>g=a\/g=l.heap.size) (no:=R.num.1) (A:=λh=>fp h a f ⟨R.bytes,R.pos+R.num.2.2,R.rm⟩/\h.heap[l.heap.size]? =some (.cells #[ZH R.num.2.1] 3 (0,0))) t kR ?_ ?_) ?_
 ·rintro g (rfl|rfl)<;>omega
 ·intro J m p
  refine rV ⟨_,ae (p.get I id) rfl,PC.red (Ex (t.af p)) ?_ ?_⟩
  ·rintro i _ y c rfl j z
   have u:=j.get (p.get s id) oM;refine⟨_,rfl,PS.mk u sM λT A U K=>⟨(j.mono λ_ _ P=>.inl P).then (A.mono λ_ _ P=>.inr P),.inl ⟨i,rfl,c.keep A λg n e=>?_,K⟩⟩⟩;have:=P.aE g n;omega
  ·rintro i y c j z
   rw[J]at c;have:=jD (R.bytes.drop R.pos);exact⟨j.mono λ_ _ P=>.inl P,.inr ⟨i,by have:=this.2.2.2.1;unfold gH.num at i⊢;omega,rfl,j,c⟩⟩
 ·rintro _ m ⟨rfl,p,L⟩
  have M:aj (·=a) b m:=x.keep.new p λg n=>by
   rcases n with(rfl|rfl)|rfl
   ·exact .inl rfl
   ·exact .inr oM
   ·exact .inl rfl
  have d:∀v:Int,m.heap[l.heap.size]? =some (.cells #[ZH v] 3 (0,0))->fp m a f (eY R).2->v=(eY R).1->
    (∃B:Int,m.cell? ⟨l.heap.size,0,none⟩=some (ZH B)/\PS m ⟨l.heap.size,0,none⟩ (ZH B) λC=>∃E:Int,C.cell? ⟨l.heap.size,0,none⟩=some (ZH E)/\
     Ok (λq h=>q= ZH (eY R).1/\fp h a f (eY R).2/\aj (·=a) b h) (.returned (ZH E)) C):=by
   rintro v k c rfl;refine⟨_,ae k rfl,PS.mk k sM λy j z u=>⟨_,ae u rfl,Ok.mk ⟨rfl,c.keep j λg n e=>?_,M.new j λg n=>.inr oM⟩⟩⟩;have:=P.aE g n;omega
  refine⟨rfl,?_⟩;rcases L with⟨o,k⟩|⟨o,i,_,c,k⟩|⟨o,i,N,c⟩
  ·have e:eY R=(0,R):=by unfold eY;rw[Zx o]
   exact d 0 (k.get s id) (by rw[e];exact t.af k) (by rw[e])
  ·have e:eY R=(R.num.2.1,⟨R.bytes,R.pos+R.num.2.2,0⟩):=by unfold eY;rw[Zq (by simp[o]),Zx i]
   exact d _ k (by rw[e];rw[o]at c;exact c) (by rw[e])
  ·have e:eY R=(0,⟨R.bytes,R.pos,R.num.1⟩):=by unfold eY;rw[Zq (by simp[o]),Zq i]
   exact d 0 (N.get s oM) (by rw[e];exact c) (by rw[e])
def HW{m:Int}(c:fp b a f R):
  YX 184 #[ZL a,ZH m] b (Ok λv j=>v= ZH (bF m R).1/\fp j a f (bF m R).2/\aj (·=a) b j):=by
 have Y:a<b.heap.size:=c.aE a c.self;refine rL (PA.mk λZ M s1 C=>PA.mk λn w sm N=>PA.mk λO u s2 x=>⟨_,ae (u.get (w.get C id) id) rfl,?_⟩);have E:ai b O:=(M.then w).then u;have y:=c.af E;have Q:=u.get (w.get C id) id;have S:=u.get N id;generalize h:(if R.num.1=0 then(if R.num.2.1<0\/m<R.num.2.1 then 3 else 0)else R.num.1:Int)=no;refine PC.ok (BQ (S:=λi=>i=a\/i=n.heap.size) (no:=no) (A:=λj=>fp j a f ⟨R.bytes,R.pos+R.num.2.2,R.rm⟩/\j.heap[n.heap.size]? =some (.cells #[ZH R.num.2.1] 3 (0,0))) y kR ?_ ?_) ?_
 ·rintro i (rfl|rfl)<;>omega
 ·intro T o p
  refine pw ⟨_,ae (p.get Q id) rfl,_,ae (p.get S id) rfl,PC.red (QM (y.af p)) ?_ ?_⟩
  ·rintro d _ F e rfl k H
   rw[h]at d;have z:=k.get (p.get x id) oM;refine⟨_,rfl,PS.mk z sM λw5 I s5 U=>⟨(k.mono λ_ _ c=>.inl c).then (I.mono λ_ _ c=>.inr c),.inl ⟨d,rfl,e.keep I λi q P=>?_,U⟩⟩⟩;have:=c.aE i q;omega
  ·rintro d F e k H
   rw[h]at d⊢;rw[T]at e;have A:=(jD (R.bytes.drop R.pos)).2.2.2.1;refine⟨k.mono λ_ _ c=>.inl c,.inr ⟨d,?_,rfl,k,e⟩⟩
   change R.num.1=0\/R.num.1=4\/R.num.1=5 at A
   rw[<-h]at d⊢;split
   ·rename_i P
    rw[Zx P]at d;split
    ·exact .inl rfl
    ·rename_i s;rw[Zq s]at d;exact Zz rfl d
   ·omega
 ·rintro _ o ⟨rfl,p,V⟩
  have W:aj (·=a) b o:=E.keep.new p λi q=>by
   rcases q with(rfl|rfl)|rfl
   ·exact .inl rfl
   ·exact .inr oM
   ·exact .inl rfl
  have g:∀B:Int,o.heap[n.heap.size]? =some (.cells #[ZH B] 3 (0,0))->fp o a f (bF m R).2->B=(bF m R).1->
    (∃J:Int,o.cell? ⟨n.heap.size,0,none⟩=some (ZH J)/\PS o ⟨n.heap.size,0,none⟩ (ZH J) λK=>∃L:Int,K.cell? ⟨n.heap.size,0,none⟩=some (ZH L)/\
     Ok (λv j=>v= ZH (bF m R).1/\fp j a f (bF m R).2/\aj (·=a) b j) (.returned (ZH L)) K):=by
   rintro B l e rfl;refine⟨_,ae l rfl,PS.mk l sM λF k H z=>⟨_,ae z rfl,Ok.mk ⟨rfl,e.keep k λi q P=>?_,W.new k λi q=>.inr oM⟩⟩⟩;have:=c.aE i q;omega
  refine⟨rfl,?_⟩;rcases V with⟨r,l⟩|⟨r,d,_,e,l⟩|⟨r,d,X,e⟩
  ·have P:bF m R=(0,R):=by unfold bF;rw[Zx r]
   exact g 0 (l.get x id) (by rw[P];exact y.af l) (by rw[P])
  ·have P:bF m R=(R.num.2.1,⟨R.bytes,R.pos+R.num.2.2,0⟩):=by
    have A:=(jD (R.bytes.drop R.pos)).2.2.2.1
    change R.num.1=0\/R.num.1=4\/R.num.1=5 at A
    unfold bF;rw[Zq (by simp[r])];split at h
    ·rename_i t
     rw[Zx t];split at h
     ·omega
     ·rename_i s;rw[Zq s]
    ·omega
   exact g _ l (by rw[P];rw[r]at e;exact e) (by rw[P])
  ·have P:bF m R=(0,⟨R.bytes,R.pos,no⟩):=by
    unfold bF;rw[Zq (by simp[r])];split at h
    ·rename_i t
     rw[Zx t];split at h
     ·rename_i s;rw[Zx s,h]
     ·omega
    ·rename_i t;rw[Zq t,h]
   exact g 0 (X.get x oM) (by rw[P];exact e) (by rw[P])
def Md(g:fp b a f R):
  YX 186 #[ZL a] b (Ok λh i=>h= ZH (gI R)/\bX b i):=by
 obtain⟨n,o,j,G,c,k,p⟩:=g.body;have q:=k.len dC;have e:R.rm≠0\/¬R.pos<R.bytes.length->gI R=R.rm:=λr=>by unfold gI;rw[Zq oM]
 refine tw ⟨a,0,rfl,_,ae c rfl,al.eD (λd=>⟨a,0,rfl,_,ae c rfl,a,0,rfl,_,_,_,ae c rfl,λl P=>al.dec (λm=>?_) λm=>?_⟩) (λd l P=>?_)⟩
 ·exact Ok.mk ⟨by unfold gI;rw[Zx ⟨d,oM⟩],P⟩
 ·exact⟨a,0,rfl,_,ae ((P.keep (S:=λ_=>False)).get c id) rfl,Ok.mk ⟨by rw[e (.inr oM)],P⟩⟩
 ·exact⟨a,0,rfl,_,ae ((P.keep (S:=λ_=>False)).get c id) rfl,Ok.mk ⟨by rw[e (.inl d)],P⟩⟩
def sj:jq ZP 27 3 1 8:=⟨kR,kR,dC⟩
def aD(P:ah)(a:YQ)(b c:Nat):List Value:=
 [ZH P.origin,ZH P.seq,ZH P.aB,.slice a b c,ZH P.aY,ZH P.agg,ZH P.field,ZH P.op,ZH P.arg,ZH P.key]
def ia:jU ah where
 k:=10
 rep:=λi D d cs=>∃P a b,cs=aD d P a b/\Row aM 8 i D P a d.aJ/\d.Ok
 keep:=λ⟨P,a,b,c,e,f⟩ j g=>⟨P,a,b,c,e.keep j g,f⟩
 mono:=λ⟨P,a,b,c,e,f⟩ g=>⟨P,a,b,c,e.mono g,f⟩
 len:=λ⟨P,a,b,c,_,_⟩=>by rw[c];rfl
 one:=λ⟨P,a,b,c,_,_⟩ k h=>by
  rw[c]at h;simp only[aD,Q2,List.not_mem_nil,or_false]at h;rcases h with rfl|rfl|rfl|rfl|rfl|rfl|rfl|rfl|rfl|rfl<;>rfl
def qq:jU ah where
 k:=10
 rep:=λm D f cs=>∃P a b c,cs=aD f P a b/\aU aM 3 c m P a b f.aJ/\(∀d,c d->D d)/\f.Ok/\f.aJ.length*8<=aO
 keep:=λ⟨P,a,b,c,e,h,g,i⟩ n j=>⟨P,a,b,c,e,h.keep n (λd k=>j d (g d k)),g,i⟩
 mono:=λ⟨P,a,b,c,e,h,g,i⟩ j=>⟨P,a,b,c,e,h,λd k=>j d (g d k),i⟩
 len:=λ⟨P,a,b,c,e,_⟩=>by rw[e];rfl
 one:=λ⟨P,a,b,c,e,_⟩ o l=>by
  rw[e]at l;simp only[aD,Q2,List.not_mem_nil,or_false]at l;rcases l with rfl|rfl|rfl|rfl|rfl|rfl|rfl|rfl|rfl|rfl<;>rfl
def qq.read{D:ZN}{cs:List Value}(P:qq.rep b D l cs):ia.rep b D l cs:=by
 obtain⟨a,c,d,j,e,f,g,h,i⟩:=P;exact⟨a,c,d,e,(f.row dC i).mono g,h⟩
def qq.row{D:ZN}(P:Row qq 96 b D d a B):Row ia 96 b D d a B:=
 ⟨P.len,P.dO,λe f g=>by
  obtain⟨h,c,i,j,k,l,m,n⟩:=P.el e f g;exact⟨h,c,i,j,k,l,m,qq.read n⟩⟩
def G_:jq ZP 50 55 10 96:=⟨kR,kR,dC⟩
def FQ{t u:Nat}{l D:ZN}{m S:Nat}(C:b.heap[a]? =some (.cells #[.slice d t u] 197 (0,0)))(h:aU fN 5 l b d t u v)(q:Row aM 8 b D r m s)(T:¬l a)(U:¬D a)(V:v.length+9*s.length+9<=aO):
  YX 282 #[.slice r m S,ZL a] b (Ok λW j=>W= .tuple #[]/\∃e f g k,j.heap[a]? =some (.cells #[.slice e f g] 197 (0,0))/\
   aU fN 5 k j e f g (v++bk s)/\¬k a/\aj (·=a) b j/\∀P,k P->l P\/b.heap.size<=P):=by
 have X:=q.len;have a7:=aA C;have Y:=q.dO;unfold aO at Y;refine CN ⟨λE i j=>∃c:Nat,i=c/\c<=m/\E=m-c/\∃e f g k,j.heap[a]? =some (.cells #[.slice e f g] 197 (0,0))/\
   aU fN 5 k j e f g (v++bk (s.take c))/\¬k a/\aj (·=a) b j/\∀P,k P->l P\/b.heap.size<=P,
  ⟨_,0,rfl,Qj _,rfl,d,t,u,l,C,by simpa[bk]using h,T,aj.refl _,λP w=>.inl w⟩,?_⟩
 rintro E i _ w1 ⟨c,rfl,hj,rfl,F,H,I,Z,x,n,a0,o,a1⟩;refine al.dec (λh1=>?_) (λh1=>?_)
 ·obtain⟨P,y,z,rfl,A,B,hc⟩:=(q.keep o (λP h p=>U (p▸h))).lN (i:=c) oM
  refine⟨P,y,rfl,oM,oM,z,hc,F,H,I,ae x rfl,?_⟩;have a8:(bk (s.take c)).length<=9*c:=by
   have:=fF (l:=s.take c) (λa9 hy=>by
    obtain⟨J,K⟩:=List.getElem?_of_mem (List.mem_of_mem_take hy);have a2:J<m:=by rw[X];exact(Qv.1 K).1
    obtain⟨_,_,b0,_,L,a3,_⟩:=q.lN (i:=J) a2;rw[K]at L;cases L;exact a3)
   simp only[Qy]at this;omega
  have a4:=n.len dC;rw[QX]at a4;unfold aO at V;refine PC.ok (AX B (n.row (bytes:=1) dC (by rw[QX];unfold aO;omega)) ba n.aE) ?_;rintro _ w2 ⟨a5,n2,c2,M,rfl,a6,N,O⟩;have Q:¬M a:=λw=>by have:=O a w;have:=o.size;omega
  refine⟨_,_,_,rfl,PS.mk (N.get x id) sM λw3 R s3 g3=>⟨_,oM,c+1,an oM,oM,rfl,a5,n2,c2,M,g3,?_,Q,(o.af N).then R,λP h=>.inr (Xx o.size (O P h))⟩⟩;rw[Qw,A];have p:v++bk (List.take c s++(some z).toList)=v++bk (List.take c s)++dZ z:=by rw[iu];simp[bk]
  rw[p];exact a6.keep R λP h p=>Q (p▸h)
 ·rw[Qz oM]at n
  exact Ok.mk ⟨rfl,F,H,I,Z,x,n,a0,o,a1⟩
def AY{f:Nat×Nat}(P:List Int)(c:b.heap[a]? =some (.cells (P.map (Value.int .i64)).toArray 3 f))(d:∀e∈P,aN e)(g:P.length<=1000):Row aM 8 b (·=a) (ZM a) P.length P:=
 Row.lit c P sM d ba
def Nw{D:ZN}(w:Row aM 8 b D d a l.aJ)(P:l.Ok)(F:∀e,D e->e<b.heap.size):
  YX 221 #[.agg (aD l d a c).toArray] b (Ok λH I=>∃x,H= .tuple #[x,ZH (iR l).2]/\pC fN 5 b (iR l).1 x I):=by
 have J:=w.len;refine HE (PA.mk λj n s1 y=>⟨d,a,c,ae y rfl,al.dec (λh=>?_) (λh=>?_)⟩)
 ·have q:iR l=([],3):=by unfold iR;rw[Zx oM]
  rw[q];exact Ok.mk ⟨_,rfl,none,0,0,λ_=>False,rfl,aU.nil j,n,λ_ h=>h.elim⟩
 have a8:l.aJ.length<=64:=oM
 have q:iR l=(bk (fG l),0):=by unfold iR;rw[Zq oM]
 rw[q];have z:∀e,D e->e<j.heap.size:=λe g=>Qk (F e g) n.size;refine PA.mk λk r s2 K=>?_;have m:=r.get y id;refine⟨_,ae m rfl,_,ae m rfl,_,ae m rfl,_,_,_,ae m rfl,PA.mk λA B s3 L=>⟨_,_,_,rfl,kR,?_⟩⟩;have M:Row aM 8 A (·=k.heap.size) (ZM k.heap.size) 4 [l.origin,l.seq,l.aB,(l.aJ.length:Int)]:=
  AY (f:=(0,0)) [l.origin,l.seq,l.aB,(l.aJ.length:Int)] (by rw[L,<-J];rfl) (by intro s f;simp at f;rcases f with rfl|rfl|rfl|rfl;exact P.origin;exact P.seq;exact P.aB;unfold aN;omega) sM
 refine PC.ok (FQ (B.get K id) (aU.nil A) M id (by show¬j.heap.size=k.heap.size;omega) (by unfold aO;simp)) ?_;rintro _ C ⟨rfl,a4,n4,c4,F4,N,O,Q,R,S⟩;have o:aj (·=j.heap.size) k C:=B.keep.then R;have E:=o.get m oM;have T:Row aM 8 C D d a l.aJ:=((w.af (n.then r)).keep o λe g l=>by have:=z e g;omega)
 refine⟨rfl,_,_,_,ae E rfl,_,_,_,rfl,kR,PC.ok (FQ N O T Q (λh=>by have:=z _ h;omega) ?_) ?_⟩
 ·have t:=fF (l:=[l.origin,l.seq,l.aB,(l.aJ.length:Int)]) (by intro s f;simp at f;rcases f with rfl|rfl|rfl|rfl;exact P.origin;exact P.seq;exact P.aB;unfold aN;omega)
  simp only[List.nil_append,Xq,ZQ]at t⊢;unfold aO;omega
 rintro _ u ⟨rfl,a5,n5,c5,F5,U,V,W,v,X⟩;have i:=v.get E oM;refine⟨rfl,_,ae i rfl,_,ae i rfl,_,ae i rfl,_,ae i rfl,_,ae i rfl,_,ae i rfl,PA.mk λY p s6 Z=>⟨_,_,_,rfl,kR,?_⟩⟩;have r6:Row aM 8 Y (·=u.heap.size) (ZM u.heap.size) 6 [l.aY,l.agg,l.field,l.op,l.arg,l.key]:=
  AY (f:=(0,0)) [l.aY,l.agg,l.field,l.op,l.arg,l.key] Z (by intro s f;simp at f;rcases f with rfl|rfl|rfl|rfl|rfl|rfl;exact P.aY;exact P.agg;exact P.field;exact P.op;exact P.arg;exact P.key) sM
 have a6:=o.size;have a9:=v.size;refine PC.ok (FQ (p.get U id) (V.af p) r6 W (by show¬j.heap.size=u.heap.size;omega) ?_) ?_
 ·have t:=fF (l:=[l.origin,l.seq,l.aB,(l.aJ.length:Int)]) (by intro s f;simp at f;rcases f with rfl|rfl|rfl|rfl;exact P.origin;exact P.seq;exact P.aB;unfold aN;omega)
  have h2:=fF P.aJ;simp only[List.nil_append,Xq,ZQ,QX]at t h2⊢;unfold aO;omega
 rintro _ w7 ⟨rfl,a7,n7,c7,F7,g7,a2,b0,k7,a3⟩;refine⟨rfl,_,_,_,ae g7 rfl,Ok.mk ⟨_,rfl,a7,n7,c7,F7,rfl,?_,?_,?_⟩⟩
 ·have:fG l=[l.origin,l.seq,l.aB,(l.aJ.length:Int)]++l.aJ++[l.aY,l.agg,l.field,l.op,l.arg,l.key]:=rfl
  rw[this,iu,iu];exact a2
 ·have ka:ai b k:=n.then r
  exact(ka.new ((o.then v).then (p.keep.then k7)) λe g=>.inr oM)
 ·intro e g
  rcases a3 e g with h|h
  ·rcases X e h with h|h
   ·rcases S e h with h|h
    ·exact h.elim
    ·omega
   ·omega
  ·have:=p.size;omega
def qs(a:List Int)(b:YQ)(c d:Nat)(P:List Int):List Value:=
 [ZH (a.getD 0 0),ZH (a.getD 1 0),ZH (a.getD 2 0),.slice b c d,ZH (P.getD 0 0),ZH (P.getD 1 0),ZH (P.getD 2 0),ZH (P.getD 3 0),ZH (P.getD 4 0),ZH (P.getD 5 0)]
def Ku(P:s.length=i)(b:i<3):(qs s d a c b2).toArray.setIfInBounds i (ZH e)=(qs (s++[e]) d a c b2).toArray:=by
 match s,P with
 |[],P=>subst P;rfl
 |[_],P=>subst P;rfl
 |[_,_],P=>subst P;rfl
 |_::_::_::_,P=>simp at P;omega
def Kv(P:b2.length=i)(b:i<6):(qs s d a c b2).toArray.setIfInBounds (4+i) (ZH e)=(qs s d a c (b2++[e])).toArray:=by
 match b2,P with
 |[],P=>subst P;rfl
 |[_],P=>subst P;rfl
 |[_,_],P=>subst P;rfl
 |[_,_,_],P=>subst P;rfl
 |[_,_,_,_],P=>subst P;rfl
 |[_,_,_,_,_],P=>subst P;rfl
 |_::_::_::_::_::_::_,P=>simp at P;omega
def lC(P:Nat)(a:gH):aW (P+1) a=((aW P a).1++[(eY (aW P a).2).1],(eY (aW P a).2).2):=rfl
def Nx{D:ZN}(f:Row fN 1 b D d a v)(hD:∀P,D P->P<b.heap.size):
  YX 257 #[.slice d a c] b (Ok λa8 k=>∃a' n' c' w,a8= .tuple #[.agg (aD (iv v).1 a' n' c').toArray,ZH (iv v).2]/\aU aM 3 w k a' n' c' (iv v).1.aJ/\ai b k/\∀P,w P->b.heap.size<=P):=by
 refine HG (PA.mk λw1 k1 s1 g1=>PC.ok (DV (f.af k1) (λP h=>by have:=hD P h;omega)) ?_);rintro _ i ⟨j,a0,rfl,T,k2,hP⟩;refine⟨_,rfl,PA.mk λw3 U s3 g3=>PA.mk λx y s4 g4=>?_⟩;have c2:=T.self;have h4:w1.heap.size<=j/\j<i.heap.size:=⟨hP j c2,T.aE j c2⟩
 have V:=T.aE;have h2:=k2.size;have d8:=y.get g3 id;have d9:=y.get (U.get (k2.get g1 id) id) id;have e0:=(T.af U).af y;have b1:ai b x:=((k1.then k2).then U).then y;refine⟨λm B k=>∃e:Nat,B=e/\e<=3/\m=3-e/\k.heap[i.heap.size]? =some (.cells (qs (aW e ⟨v,0,0⟩).1 none 0 0 []).toArray 55 (0,0))/\fp k j a0 (aW e ⟨v,0,0⟩).2/\aj (λP=>P=i.heap.size\/P=j) x k,
  ⟨_,0,rfl,oM,rfl,d8,e0,aj.refl _⟩,?_⟩
 rintro m B _ w5 ⟨e,rfl,hj,rfl,c3,c4,k5⟩;have c5:(gH.mk v 0 0).Fit:=⟨Qj _,.inl rfl⟩
 refine al.dec (λN=>?_) (λN=>?_)
 ·have c6:e<3:=oM
  have g5:=k5.get g4 oM;have a1:w5.cell? ⟨w3.heap.size,0+Int.toNat (e:Int),none⟩=some (.pointer (some ⟨i.heap.size,e,none⟩)):=by
   rw[Qx,Xz]
   match e,c6 with
   |0,_=>exact ae g5 rfl
   |1,_=>exact ae g5 rfl
   |2,_=>exact ae g5 rfl
  refine⟨_,_,rfl,oM,oM,_,a1,PC.ok (FR c4) ?_⟩;rintro _ w6 ⟨rfl,O,Q⟩;have W:=Q.get c3 oM;refine⟨_,rfl,_,_,rfl,PS.mk W (by simp[qs];omega) λX C s7 g7=>⟨_,oM,e+1,an oM,oM,rfl,?_,?_,?_⟩⟩
  ·rw[g7,Ku (c5.ints e).2.2.1 c6];rfl
  ·rw[lC]
   exact O.keep C λP f r=>by have:=V P f;omega
  ·exact k5.then ((Q.mono λ_ _ h=>.inr h).then (C.mono λ_ _ h=>.inl h))
 obtain rfl:e=3:=oM
 obtain⟨c7,e1,h5,_⟩:=c5.ints 3;refine PC.ok (HW c4) ?_;rintro _ w6 ⟨rfl,O,Q⟩;have W:=Q.get c3 oM;have e3:aj (λP=>P=i.heap.size\/P=j) x w6:=k5.then (Q.mono λ_ _ h=>.inr h);generalize hL:(aW 3 ⟨v,0,0⟩).1=H at W e1;generalize hR:(aW 3 ⟨v,0,0⟩).2=a5 at O c7;obtain⟨Y,e4,c8,_⟩:=c7.count (m:=64) oM;generalize hC:(bF 64 a5).1=I at e4 c8;generalize e5:(bF 64 a5).2=E at O Y;refine⟨_,rfl,λm B k=>∃e:Nat,B=e/\e<=I.toNat/\m=I.toNat-e/\∃s o t w,k.heap[i.heap.size]? =some (.cells (qs H s o t []).toArray 55 (0,0))/\fp k j a0 (aW e E).2/\
   aU aM 3 w k s o t (aW e E).1/\(∀P,w P->x.heap.size<=P)/\aj (λP=>P=i.heap.size\/P=j) x k,
  ⟨_,0,rfl,oM,rfl,none,0,0,λ_=>False,W,O,aU.nil w6,λ_ h=>h.elim,e3⟩,?_⟩
 rintro m B _ X ⟨e,rfl,hj,rfl,s,o,t,w,b8,b9,c0,z,C⟩;have h6:=C.size;refine al.dec (λN=>?_) (λN=>?_)
 ·intro J c9
  have p:ai X J:=c9.keep;have s8:J.heap.size=X.heap.size:=by rw[c9.heap]
  refine⟨λP=>P≠i.heap.size,sM,s,o,t,ae (p.get b8 id) rfl,PC.ok (FR (b9.af p)) ?_⟩;rintro _ K ⟨rfl,Z,u⟩;have b2:=(Y.ints e).2.2.1;refine⟨_,rfl,u.mono (λP _ h=>oM),?_⟩;have L:aU aM 3 w K s o t (aW e E).1:=(c0.af p).keep u λP f r=>by have:=z P f;have:=y.size;omega
  refine PA.mk λA n h7 e6=>⟨n.keep,?_⟩
  have a2:=L.af n;have b0:=u.get (p.get b8 id) oM;have l:=n.get b0 id;have e7:=((Y.ints e).1.int).2.1;have d0:Row aM 8 A (·=K.heap.size) (ZM K.heap.size) 1 [(eY (aW e E).2).1]:=AY (f:=(0,0)) [(eY (aW e E).2).1] e6 (by simpa using e7) sM;refine kK a2 sj d0 (λP r=>⟨oM,?_⟩) (by rw[b2];unfold aO;simp;omega) (by rw[b2];unfold maxLen;simp;omega) λd1 e8 R h8 d2 a3 h3 b3=>?_
  ·intro e2
   have:=L.aE P (L.self P e2);omega
  refine⟨_,_,_,rfl,PS.mk (a3.get l ?_) (by simp[qs]) λh9 c1 i0 e9=>⟨_,oM,e+1,an oM,oM,rfl,d1,o+1,e8,λP=>aH d1=some P,?_,?_,?_,?_,?_⟩⟩
  ·intro r;have:=z _ (L.self _ r);have:=y.size;omega
  ·rw[e9];rfl
  ·rw[lC]
   refine((Z.af n).keep a3 λP f r=>?_).keep c1 λP f r=>?_
   ·have:=z _ (L.self _ r);have:=V P f;have:=y.size;have:=U.size;omega
   ·have:=V P f;omega
  ·have f2:=d2.alone
   rw[lC];refine f2.keep c1 λP f r=>?_;rcases b3 P f with h|h
   ·have:=z P h;have:=y.size;omega
   ·have:=n.size;have:=u.size;have:=p.size;omega
  ·intro P f
   rcases b3 P f with h|h
   ·exact z P h
   ·have:=n.size;have:=u.size;have:=p.size;omega
  ·have ka:aj (λP=>P=i.heap.size\/P=j) x A:=((C.af p).then (u.mono λ_ _ h=>.inr h)).af n
   have kb:aj (λP=>P=i.heap.size\/P=j) x R:=ka.new a3 λP f=>.inr (z P (L.self P f));exact kb.then (c1.mono λ_ _ h=>.inl h)
 obtain rfl:e=I.toNat:=oM
 obtain⟨d3,f3,f4,_⟩:=Y.ints I.toNat;generalize f5:(aW I.toNat E).1=S at c0 f3 f4;generalize f6:(aW I.toNat E).2=q at b9 d3;refine PA.mk λJ p s8 g8=>?_;have g0:=p.get b8 id;have g2:aj (λP=>P=i.heap.size\/P=j) x J:=C.af p;have g6:=c0.af p;have i1:=y.size;refine⟨λm B k=>∃e:Nat,B=e/\e<=6/\m=6-e/\k.heap[i.heap.size]? =some (.cells (qs H s o t (aW e q).1).toArray 55 (0,0))/\fp k j a0 (aW e q).2/\aj (λP=>P=i.heap.size\/P=j) J k,
  ⟨_,0,rfl,oM,rfl,g0,b9.af p,aj.refl _⟩,?_⟩
 rintro m B _ K ⟨e,rfl,hj,rfl,b0,Z,u⟩;refine al.dec (λN=>?_) (λN=>?_)
 ·have d4:e<6:=oM
  have M:=u.get g8 (by have:=C.size;omega);have a1:K.cell? ⟨X.heap.size,0+Int.toNat (e:Int),none⟩=some (.pointer (some ⟨i.heap.size,4+e,none⟩)):=by
   rw[Qx,Xz]
   match e,d4 with
   |0,_=>exact ae M rfl
   |1,_=>exact ae M rfl
   |2,_=>exact ae M rfl
   |3,_=>exact ae M rfl
   |4,_=>exact ae M rfl
   |5,_=>exact ae M rfl
  refine⟨_,_,rfl,oM,oM,_,a1,PC.ok (FR Z) ?_⟩;rintro _ A ⟨rfl,d5,n⟩;have l:=n.get b0 oM;refine⟨_,rfl,_,_,rfl,PS.mk l (by simp[qs];omega) λR F d6 g=>⟨_,oM,e+1,an oM,oM,rfl,?_,?_,?_⟩⟩
  ·rw[g,Kv (d3.ints e).2.2.1 d4];rfl
  ·rw[lC]
   exact d5.keep F λP f r=>by have:=V P f;omega
  ·exact u.then ((n.mono λ_ _ h=>.inr h).then (F.mono λ_ _ h=>.inl h))
 obtain rfl:e=6:=oM
 have a6:jg ⟨v,0,0⟩=(⟨H.getD 0 0,H.getD 1 0,H.getD 2 0,S,(aW 6 q).1.getD 0 0,(aW 6 q).1.getD 1 0,(aW 6 q).1.getD 2 0,(aW 6 q).1.getD 3 0,(aW 6 q).1.getD 4 0,(aW 6 q).1.getD 5 0⟩,(aW 6 q).2):=by
  unfold jg;simp only[hL,hR,hC,e5,f5,f6]
 refine PC.ok (Md Z) ?_;rintro _ A ⟨rfl,d7⟩;have n:ai K A:=d7.keep;have b4:aj (λP=>P=i.heap.size\/P=j) J A:=u.af n;have b5:aj (λP=>P=i.heap.size\/P=j) x A:=g2.then b4;have b6:=b5.get d9 oM;have l:=n.get b0 id;have a2:aU aM 3 w A s o t S:=g6.keep b4 λP f r=>by have:=z P f;omega
 have b7:ai b A:=b1.new b5 λP f=>.inr oM;have a7:gI (jg ⟨v,0,0⟩).2=gI (aW 6 q).2:=by rw[a6]
 refine⟨_,rfl,al.dV (λh0=>?_) (λhe=>?_)⟩
 ·have a4:iv v=(AZ,gI (aW 6 q).2):=by unfold iv;rw[a7,Zx h0]
  rw[a4];refine storeAll [ZH 0,ZH 0,ZH 0,.slice none 0 0,ZH 0,ZH 0,ZH 0,ZH 0,ZH 0,ZH 0] b6 rfl λR F d6 g=>?_;refine⟨0,0,0,none,0,0,0,0,0,0,0,0,ae g rfl,ae g rfl,ae g rfl,ae g rfl,ae g rfl,ae g rfl,ae g rfl,ae g rfl,ae g rfl,ae g rfl,Ok.mk ⟨none,0,0,λ_=>False,rfl,aU.nil R,?_,λ_ h=>h.elim⟩⟩;exact b7.new F λP f=>.inr oM
 ·have a4:iv v=((jg ⟨v,0,0⟩).1,0):=by unfold iv;rw[a7,Zq (by simpa using he)]
  rw[a4,a6];refine⟨_,_,_,s,o,t,_,_,_,_,_,_,ae l rfl,ae l rfl,ae l rfl,ae l rfl,ae l rfl,ae l rfl,ae l rfl,ae l rfl,ae l rfl,ae l rfl,?_⟩;refine storeAll (qs H s o t (aW 6 q).1) b6 rfl λR F d6 g=>?_;refine⟨_,_,_,s,o,t,_,_,_,_,_,_,ae g rfl,ae g rfl,ae g rfl,ae g rfl,ae g rfl,ae g rfl,ae g rfl,ae g rfl,ae g rfl,ae g rfl,Ok.mk ⟨s,o,t,w,rfl,a2.keep F λP f r=>?_,?_,λP f=>?_⟩⟩
  ·have:=z P f;omega
  ·exact b7.new F λP f=>.inr oM
  ·have:=z P f;have:=b1.size;omega
end
end Go.Proofs.YtblabbpipmodgaaGreatDoor
namespace Go.aw
open Go
def eU(P:List UInt8):Nat:=P.foldl (λa b=>a*10+(b.toNat-48)) 0
def gu(P:UInt8):Bool:=decide (48<=P.toNat/\P.toNat<=57)
def fJ(P:List UInt8)(a:UInt8):eU (P++[a])=eU P*10+(a.toNat-48):=by simp[eU,List.foldl_append]
variable{e q:Int}{v:List UInt8}{a:Nat}{j:Type}
def vN{P a:List j}(b:P≠[]):(P++a).head? =P.head? :=by
 cases P with
 |nil=>exact Zz rfl b
 |cons c P=>rfl
def tX:∀(P:Nat),eU (Lib.decDigits P)=P/\(Lib.decDigits P).all gu=true/\Lib.decDigits P≠[]/\(P≠0->(Lib.decDigits P).head? ≠some 48):=by
 intro P
 induction P using Nat.strongRecOn with
 |_ P d=>
  rw[Lib.decDigits]
  by_cases b:P<10
  ·rw[dif_pos b]
   have a:(UInt8.ofNat (48+P)).toNat=48+P:=by rw[ZK];omega
   refine⟨by simp[eU];omega,by simp[gu,a];omega,sM,λi=>?_⟩;intro c;simp only[List.head?_cons,Q1]at c;have:=Zj UInt8.toNat c;rw[a]at this;simp at this;omega
  ·rw[dif_neg b]
   obtain⟨e,f,g,h⟩:=d (P/10) oM;have a:(UInt8.ofNat (48+P % 10)).toNat=48+P % 10:=by rw[ZK];omega
   refine⟨by rw[fJ,e,a];omega,?_,sM,λ_=>?_⟩
   ·rw[List.all_append,f];simp[gu,a];omega
   ·rw[vN g];exact h oM
def Ca:∀{P:List UInt8},P.all gu=true->P≠[]->P.head? ≠some 48->0<eU P:=by
 intro P;generalize a:P.length=f
 induction f generalizing P with
 |zero=>intro _ g;exact Zz (QW a) g
 |succ f h=>
  intro b j c;rcases List.eq_nil_or_concat P with rfl|⟨P,d,rfl⟩
  ·cases a
  rw[List.concat_eq_append]at a b c⊢;rw[List.all_append,QK]at b;have k:48<=d.toNat/\d.toNat<=57:=by simpa[gu]using b.2
  rw[fJ]
  by_cases e:P=[]
  ·subst e
   have:d.toNat≠48:=λi=>c (by simp;exact UInt8.toNat_inj.1 i);omega
  ·have:=h (by simpa using a) b.1 e (by rwa [vN e]at c)
   omega
def Du:∀{P:List UInt8},P.all gu=true->P≠[]->(P.head? ≠some 48\/P.length=1)->Lib.decDigits (eU P)=P:=by
 intro P;generalize f:P.length=g
 induction g generalizing P with
 |zero=>intro _ j;exact Zz (QW f) j
 |succ g k=>
  intro b o c;rcases List.eq_nil_or_concat P with rfl|⟨P,a,rfl⟩
  ·cases f
  rw[List.concat_eq_append]at f b c⊢;rw[List.all_append,QK]at b;have p:48<=a.toNat/\a.toNat<=57:=by simpa[gu]using b.2
  have i:UInt8.ofNat (48+(a.toNat-48))=a:=UInt8.toNat_inj.1 (by rw[ZK];omega);rw[fJ]
  by_cases d:P=[]
  ·subst d
   have l:eU []*10+(a.toNat-48)=a.toNat-48:=by simp[eU]
   rw[l,Lib.decDigits,dif_pos oM,i]
   rfl
  ·have q:0<P.length:=List.length_pos_iff.2 d
   have h:P.length=g:=by simpa using f
   have e:P.head? ≠some 48:=by
    rcases c with c|c
    ·rwa [vN d]at c
    ·omega
   have r:=Ca b.1 d e;rw[Lib.decDigits,dif_neg oM];have m:(eU P*10+(a.toNat-48))/10=eU P:=oM
   have n:(eU P*10+(a.toNat-48)) % 10=a.toNat-48:=oM
   rw[m,n,i,k h b.1 d (.inl e)]
def xj:∀(P:List UInt8),P.all gu=true->eU P<10 ^ P.length:=by
 intro P;generalize a:P.length=c
 induction c generalizing P with
 |zero=>intro _;have:=QW a;subst this;decide
 |succ c e=>
  intro b;rcases List.eq_nil_or_concat P with rfl|⟨P,d,rfl⟩
  ·cases a
  rw[List.concat_eq_append]at a b⊢;rw[List.all_append,QK]at b;have f:48<=d.toNat/\d.toNat<=57:=by simpa[gu]using b.2
  have:=e P (by simpa using a) b.1;rw[fJ,Nat.pow_succ];omega
def oD{u:Nat}(h:u<1000000000000):(Lib.decDigits u).length<=12:=by
 rw[Lib.decDigits_length];apply Nat.le_of_not_lt;intro k
 by_cases i:u=0
 ·subst i;rw[Lib.nDigits_small oM]at k;omega
 ·have s:=Lib.lt_pow_nDigits u
  obtain⟨l,m,n,o⟩:=tX u;have j:=Lib.decDigits_length u;have key:∀(P:List UInt8),P.all gu=true->P≠[]->P.head? ≠some 48->10 ^(P.length-1)<=eU P:=by
   intro P;generalize b:P.length=a
   induction a generalizing P with
   |zero=>intro _ h;exact Zz (QW b) h
   |succ a p=>
    intro c t e;rcases List.eq_nil_or_concat P with rfl|⟨P,v,rfl⟩
    ·cases b
    rw[List.concat_eq_append]at b c e⊢;have f:=c;rw[List.all_append,QK]at c;rw[fJ]
    by_cases d:P=[]
    ·subst d
     have:=Ca f sM e;rw[fJ]at this;have q:a=0:=by simpa using b.symm
     subst q;simp at this⊢;omega
    ·have g:P.length=a:=by simpa using b
     have j:0<P.length:=List.length_pos_iff.2 d;have:=p P g c.1 d (by rwa [vN d]at e);have r:a+1-1=(a-1)+1:=oM
     rw[r,Nat.pow_succ];omega
  have:=key _ m n (o i);rw[l,j]at this;have w:10 ^ 12<=10 ^(Lib.nDigits u-1):=Nat.pow_le_pow_right oM oM;have:(10:Nat) ^ 12=1000000000000:=dC
  omega
def dF:List UInt8:=[115,101,103,46]
def ax(P:Int):List UInt8:=if P<0\/1000000000000<=P then []else dF++Lib.decDigits P.toNat
def iV(P:List UInt8):Option Nat:=if P.take 4=dF/\5<=P.length/\P.length<=16/\(P.drop 4).all gu=true/\((P.drop 4).head? ≠some 48\/P.length=5)then some (eU (P.drop 4))else none
def lJ(P:0<=e)(a:e<1000000000000):ax e=dF++Lib.decDigits e.toNat:=by unfold ax;rw[Zq oM]
def ou(a:0<=e)(b:e<1000000000000):iV (ax e)=some e.toNat:=by
 rw[lJ a b];obtain⟨c,d,f,g⟩:=tX e.toNat;have k:=oD (u:=e.toNat) oM;have l:0<(Lib.decDigits e.toNat).length:=List.length_pos_iff.2 f;have h:(dF++Lib.decDigits e.toNat).drop 4=Lib.decDigits e.toNat:=rfl;have i:(dF++Lib.decDigits e.toNat).take 4=dF:=rfl;have j:(dF++Lib.decDigits e.toNat).length=4+(Lib.decDigits e.toNat).length:=by rw[QX];rfl
 unfold iV;rw[h,i,j,c,Zx];refine⟨rfl,oM,oM,d,?_⟩
 by_cases P:e.toNat=0
 ·right
  rw[P,Lib.decDigits_length,Lib.nDigits_small oM]
 ·exact .inl (g P)
def BD(P:iV v=some a):ax a=v/\a<1000000000000:=by
 unfold iV at P;split at P
 ·rename_i e
  obtain⟨f,i,j,b,g⟩:=e;simp only[Q1]at P;have c:(v.drop 4).length=v.length-4:=sM
  have k:=xj _ b;have l:10 ^(v.drop 4).length<=10 ^ 12:=Nat.pow_le_pow_right oM oM;have m:(10:Nat) ^ 12=1000000000000:=dC
  have h:a<1000000000000:=oM
  refine⟨?_,h⟩;rw[lJ oM oM,<-P,Qx,Du b (λd=>by rw[d]at c;simp at c;omega) (g.imp id λd=>oM),<-f,ZX]
 ·cases P
def IA(c:0<=e)(a:e<1000000000000)(P:ax q=ax e):q=e:=by
 have b:=ou c a
 by_cases d:q<0\/1000000000000<=q
 ·unfold ax at P
  rw[Zx d,Zq oM]at P;exact Zz (Zj List.length P) (by simp[dF])
 ·rw[<-P,ou oM oM]at b
  simp only[Q1]at b;omega
def B_(P:Int):(ax P).length<=16:=by
 unfold ax;split
 ·simp
 ·have:=oD (u:=P.toNat) oM
  rw[QX];show 4+_<=16;omega
def GK(c:v.all gu=true)(d:v.length<=12):iV (dF++v)=if ax (eU v)=dF++v then some (eU v)else none:=by
 have f:=xj _ c;have g:10 ^ v.length<=10 ^ 12:=Nat.pow_le_pow_right oM d;have h:(10:Nat) ^ 12=1000000000000:=dC
 split
 ·rename_i a
  rw[<-a,ou oM oM,Qx]
 ·rename_i a
  cases P:iV (dF++v)with
  |none=>rfl
  |some e=>
   obtain⟨b,i⟩:=BD P;have:e=eU v:=by
    unfold iV at P;split at P
    ·exact(XJ P).symm
    ·cases P
   rw[this]at b;exact Zz b a
def Jl(a:v.all gu=false):iV (dF++v)=none:=by
 unfold iV;rw[Zq];rintro⟨_,_,_,P,_⟩;have:(dF++v).drop 4=v:=rfl;rw[this,a]at P
 cases P
def Ov(P:v.take 4≠dF):iV v=none:=by
 unfold iV;rw[Zq λa=>P a.1]
def LC(P:16<v.length):iV v=none:=by
 unfold iV;rw[Zq λa=>oM]
end Go.aw
namespace Go.Proofs.YtblabbpipmodgaaGreatDoor
open Go.aw
def pick(a P:Int):Int:=if P<1 then 0 else if a.tmod P<0 then a.tmod P+P else a.tmod P
def Lh{k n:Int}(P:1<=n):0<=pick k n/\pick k n<n:=by
 unfold pick;rw[Zq oM];have a:k.tmod n<n:=Int.tmod_lt_of_pos k oM;have b: -n<k.tmod n:=Int.lt_tmod_of_pos k oM;split<;>omega
variable{e q:Int}{b:World}
def P_(j:aN q):YX 16 #[ZH e,ZH q] b (Ok λg h=>g= ZH (pick e q)/\b=h):=by
 refine JZ (al.mk (λa=>?_) (λa=>?_))
 ·have a:=XV a
  exact Ok.mk ⟨by simp[pick,a],rfl⟩
 ·have a:=Xy a
  have c:=Lh (k:=e) (n:=q) oM;have i:∀d f,(do eqGuard .rem 3 d f (ZH e) (ZH q);binOp .rem 3 (ZH e) (ZH q):Sem Value).run ZP b= .ok (ZH (e.tmod q)) b:=λd f=>by
   have:q≠0:=oM
   simp[eqGuard,binOp,Op.intDiv,this]
  refine aG.mk (i _ _) ⟨_,rfl,al.mk (λP=>?_) (λP=>?_)⟩
  ·have P:=XV P
   unfold pick at c;rw[Zq oM,Zx P]at c;refine Ok.mk ⟨?_,rfl⟩;rw[wrap_i64 (by unfold aN at*;omega)];unfold pick;rw[Zq oM,Zx P]
  ·have P:=Xy P
   refine Ok.mk ⟨?_,rfl⟩;unfold pick;rw[Zq oM,Zq P]
end Go.Proofs.YtblabbpipmodgaaGreatDoor
namespace Go.Proofs
open Go.RowKit Go.Maps Go.Sort Go.Shelf
def Tryz.Uc(c:Nat):AnyZ.SortsIn Tryz.prog Tryz.xu Fence.wide c:=
 ⟨λaH a P d b e f g=>callsIn_wide.2 (AnyM.slices_Sort_string Tryz.Tm aH a P d b e f g),
  λh P b=>callsIn_wide.2 (AnyM.slices_Sort_string_none Tryz.Tm h P b)⟩
end Go.Proofs
namespace Go.Proofs.YtblabbpipmodgaaGreatDoor
section
open Go.aw
open Go.RowKit Go.Maps Go.Sort Go.Shelf
def XD(P a:ByteArray):Bool:=decide (P.data.toList<=a.data.toList)
def sq(P:List ByteArray):List ByteArray:=P.mergeSort XD
def Nr(a:List ByteArray):(sq a).map (λP=>P.data.toList)=(a.map λP=>P.data.toList).mergeSort (λP b=>decide (P<=b)):=
 List.map_mergeSort (λc _ d _=>rfl)
def bR.Tn{b:Type}{P:b->Value}{c:b->Prop}{hl h1}{e:World}{D:ZN}:∀{a:List b},(∀x∈a,c x)->bR (flat 1 (λx=>[P x]) c hl h1) e D a (a.map P)
 |[],_=>rfl
 |x::a,d=>⟨[P x],a.map P,rfl,⟨rfl,d x (QV ..)⟩,bR.Tn λf g=>d f (QJ _ g)⟩
variable{f6:List (ByteArray×Value)}{a c:Nat}{C:Nat×Nat}{g:TypeId}{b:World}
def yV(j:bY b a Value.string f6)(I:∀h∈f6,h.1.size<=maxLen)(y:f6.length*16<=aO)(z:b.heap[c]? =some (.cells #[.map (some a)] g C)):
  YX 246 #[.func (.func 296) #[] #[ZL c]] b
   (Ok (pC Ns 9 b (sq (f6.map (·.1))))):=by
 unfold aO at y;obtain⟨e,i,J,p,K,L⟩:=j.at';have M:Tryz.prog.underlying 9=some .string:=Tryz.underlying9;have N:e.size=f6.length:=by have:=Zj List.length p;simpa using this
 have A:∀d∈e.toList,∃P:ByteArray,d.key=Value.string P/\P.size<=maxLen:=λd f=>by
  have O:(d.key,d.val)∈f6.map (λh=>(Value.string h.1,h.2)):=by rw[<-p];exact Xk.2 ⟨d,f,rfl⟩
  obtain⟨h,Q,R⟩:=Xk.1 O;exact⟨h.1,(Prod.mk.inj R).1.symm,I h Q⟩
 have B:∀d∈e.toList,∀P:ByteArray,d.key=Value.string P->P.size<=maxLen->WideElems.rd ZP 9 (λ_=>some ((.nil:DataW Unit),[])) d=some (.string P.data.toList,.nil):=λd _ P l n=>by
  simp[WideElems.rd,l,Go.WideMaps.keyOf_string_mk M n]
 have S:WideElems.Fit ZP 9 (λ_=>some ((.nil:DataW Unit),[])) e i:=by
  refine⟨by unfold maxLen;omega,⟨K,L,?_⟩,λd f=>?_⟩
  ·have:e.toList.map (·.key)=(f6.map (·.1)).map Value.string:=by
    have:=Zj (List.map (λs:Value×Value=>s.1)) p;simpa[Function.comp_def]using this
   rw[this];exact List.pairwise_map.2 (List.Pairwise.imp (λT=>by simpa using T) j.tidy)
  ·obtain⟨P,l,n⟩:=A d f
   exact⟨_,B d f P l n⟩
 have U:b.ownsMap ZP 9 (λ_=>some ((.nil:DataW Unit),[])) a e.size (.map ((e.toList.map (WideElems.rg ZP 9 (λ_=>some ((.nil:DataW Unit),[])))).foldr DataW.insert [])):=
  ⟨e,i,J,S,Q4 _,rfl⟩
 have E:Maps.size (.map ((e.toList.map (WideElems.rg ZP 9 (λ_=>some ((.nil:DataW Unit),[])))).foldr DataW.insert []))=f6.length:=by
  show(List.foldr DataW.insert [] _).length=_;rw[(WideShapes.sorted_perm _).length_eq];simp[N]
 have V:(strKeys (.map ((e.toList.map (WideElems.rg ZP 9 (λ_=>some ((.nil:DataW Unit),[])))).foldr DataW.insert []))).Perm ((f6.map (·.1)).map λP=>P.data.toList):=by
  refine(List.Perm.map (λh:Lit×DataW Unit=>Go.strOf h.1) (WideShapes.sorted_perm _)).trans ?_;have:(e.toList.map (WideElems.rg ZP 9 (λ_=>some ((.nil:DataW Unit),[])))).map (λh=>Go.strOf h.1)=(f6.map (·.1)).map λP=>P.data.toList:=by
   have W:e.toList.map (λd=>match d.key with| .string P=>P.data.toList|_=>[])=(f6.map (·.1)).map λP=>P.data.toList:=by
    have:=Zj (List.map (λs:Value×Value=>match s.1 with| .string P=>P.data.toList|_=>[])) p;simpa[Function.comp_def]using this
   rw[<-W,List.map_map];refine List.map_congr_left λd f=>?_;obtain⟨P,l,n⟩:=A d f;simp[WideElems.rg,B d f P l n,l,Go.strOf]
  rw[this]
 have X:SeqGives Fence.wide 1 ZP 296 #[ZL c] encStr (λm=>m.Perm (strKeys _)) (Maps.size _) b:=
  AnyZ.keys_gives (ρ:=Tryz.DP) {Tryz.sr with} Fence.wide _ trivial rfl oM c a e.size _ b (aA z) (ae z rfl) U
 have Y:=AnyZ.sorted_in Tryz.Sb Fence.wide 4 trivial trivial trivial trivial rfl oM (Tryz.Uc _) (enters_of Tryz.func295 kR rfl) 296 #[ZL c] trivial
  (enters_of Tryz.func296 kR rfl) _ _ (by rw[E];unfold maxLen;omega) (by rw[E];exact y) b X
 refine((callsIn_wide (n:=4)).1 Y).mono ?_;rintro d Z ⟨a0,m,rfl,hS,q,a7,t⟩;have F:m.mergeSort (λP u=>decide (P<=u))=(sq (f6.map (·.1))).map λP=>P.data.toList:=by rw[Nr];exact Go.mergeSort_of_perm (hS.trans V)
 have a8:m.length=(sq (f6.map (·.1))).length:=by
  have:=Zj List.length F;simpa using this
 have a1:((m.mergeSort (λP u=>decide (P<=u))).map encStr)=(sq (f6.map (·.1))).map Value.string:=by
  rw[F,List.map_map];refine List.map_congr_left λP _=>?_;show Value.string ⟨P.data.toList.toArray⟩=Value.string P;simp
 rw[a1]at q;have hv:∃o v,a0= .slice o m.length v:=by
  rcases q.2 with⟨rfl,h0⟩|⟨g',w,x,rfl,_⟩
  ·exact⟨none,0,by rw[h0]⟩
  ·exact⟨_,_,rfl⟩
 obtain⟨o,v,rfl⟩:=hv;have H:∀k,aH o=some k->b.heap.size<=k/\k<Z.heap.size:=λk r=>by
  rcases q.2 with⟨f,_⟩|⟨g',w,x,f,a9,a6,_⟩
  ·simp only[XX]at f
   rw[f.1]at r;cases r
  ·simp only[XX]at f
   rw[f.1]at r;simp only[aH,Q1]at r;have:=aA a6;omega
 exact Ok.mk ⟨o,_,v,λk=>aH o=some k,rfl,⟨⟨_,λ_=>False,⟨ownsRow_base_a q (Qj _)⟩,bR.Tn (λ_ _=>trivial),λ_ j=>j.elim⟩,λ_ j=>j,λk j=>(H k j).2⟩,aj.Hj t,λk j=>(H k j).1⟩
end
section
open Go.aw
def kS:iJ ZP 9 Value.string:=Wp Tryz.underlying9
def mF:mE ZP 140 9 204 (.pointer none):=⟨kR,kR⟩
def uF:Tryz.prog.underlying 204=some (.pointer 206):=kR
def ak.room(D:ak):Int:=(D.most:Int)-D.used
def ak.op(D:ak)(P:ak->Int×ak):Int×ak:=if D.dies then(15,D.gone)else P D.cU
def ak.AR(a:ByteArray)(P:ak->bP->Int×ak)(D:ak):Int×ak:=match aq D.files a with
 |none=>(14,D)
 |some b=>P D b
def ak.create(D:ak)(P:ByteArray):Int×ak:=D.op λD=>if c_ P then(if(aq D.files P).isSome then(16,D)else if 64<=D.files.length then(12,D)else(0,D.fE P ⟨[],0,false⟩))else(1,D)
def ak.append(D:ak)(P:ByteArray)(a:List UInt8):Int×ak:=D.op (ak.AR P λD b=>if(a.length:Int)>D.room then(12,D)else(0,D.fE P {b with bytes:=b.bytes++a}))
def ak.sync(D:ak)(P:ByteArray):Int×ak:=D.op (ak.AR P λD a=>(0,D.fE P (a.cut a.bytes.length)))
def ak.mW(D:ak)(k:ByteArray)(P:Int):Int×ak:=D.op (ak.AR k λD a=>(0,D.fE k (a.cut P)))
def ak.delete(D:ak)(P:ByteArray):Int×ak:=D.op (ak.AR P λD a=>(0,D.uT P))
def ak.rename(D:ak)(P a:ByteArray):Int×ak:=D.op (ak.AR P λD b=>if c_ a then(0,(D.uT P).fE a {b with jf:=true})else(1,D))
def ak.read(D:ak)(k:ByteArray):List UInt8×Int:=if D.dead then([],15)else match aq D.files k with
 |none=>([],14)
 |some P=>(P.bytes,0)
def ak.list(D:ak):List ByteArray:=sq (D.files.map (·.1))
def ey(D:ak):D.cU.files=D.files:=by unfold ak.cU;split<;>rfl
def uV(c:World)(d:Nat)(e:ZN)(P:Int×ak)(f:Value)(a:World):Prop:=∃b,f= ZH P.1/\aV a d b P.2/\cQ e c b a
variable{X p:Array Value}{w:ByteArray}{e:Int}{d2:Int×ak}{f6 g8:List (ByteArray×Value)}{a1:List (ByteArray×mZ)}{v:List UInt8}{a c i:Nat}{a4 f:ZN}{d:YQ}{j:Type}{u:Value}{b k:World}{x:ZU}{W:bP}
def uV.same{D:ak}(P:aV k a f D)(c:aj f b k):uV b a f (e,D) (ZH e) k:=⟨f,rfl,P,c,λ_ P=>.inl P⟩
def Mc{D:ak}(c:aV b a f D){g:FuncId}{body:ak->Int×ak}(d:enters ZP g=true)(e:D.dies=false->∀P,aV P a f D.cU->aj f b P->YX g (p++ #[]++X) P (Ok (uV P a f (body D.cU)))):
  YX 241 #[ZL a,.func (.func g) p X] b (Ok (uV b a f (D.op body))):=by
 refine Calls.ok (Kr c (e:=(body D.cU).1) (D':=(body D.cU).2) d λh P i j n=>e h P i j) ?_;rintro o q ⟨k,l,r,m⟩;refine⟨k,?_,?_,m⟩
 ·rw[l];unfold ak.op;split<;>rfl
 ·unfold ak.op;split<;>simp_all
def uW{D:ak}(e:aV b a f D){k:ByteArray}{g:FuncId}{body:ak->bP->Int×ak}(C:enters ZP g=true)(E:D.dies=false->∀h l m P,fm h a f D.cU l m->aq m k=some P->aj f b h->YX g (p++ #[ptr P.q]++X) h (Ok (uV h a f (body D.cU P.f)))):
  YX 171 #[ZL a,.string k,.func (.func g) p X] b (Ok (uV b a f (D.op (ak.AR k body)))):=by
 refine yP (PA.mk λh F V z=>PA.mk λH r W I=>PA.mk λA n Y J=>?_);have s:ai b A:=(F.af r).af n;have K:=e.af s;have t:=e.aE;refine⟨_,ae (n.get (r.get z id) id) rfl,PC.ok (Mc K (body:=ak.AR k body) kR λL c B o=>?_) ?_⟩
 ·obtain⟨l,m,i⟩:=B.open
  have M:c.heap[b.heap.size]? =_:=o.get (n.get (r.get z id) id) (λj=>by have:=t _ j;omega);have N:c.heap[h.heap.size]? =_:=o.get (n.get I id) (λj=>by have:=t _ j;omega);have O:c.heap[H.heap.size]? =_:=o.get J (λj=>by have:=t _ j;omega);refine uL ⟨_,ae M rfl,a,0,rfl,some l,ae i.head rfl,_,ae N rfl,?_⟩;rcases i.box k with⟨u,v⟩|⟨P,Q,Z,u,v⟩
  ·refine⟨none,λw=>?_,λq d=>?_⟩
   ·have:=eH mF kS (i.map.keep (aj.drewN (S:=λ_=>False) c w) id) k false
    simpa[v]using this
   ·refine zP uF ⟨_,rfl,al.ff rfl (Ok.mk ?_)⟩
    have:ak.AR k body D.cU=(14,D.cU):=by unfold ak.AR;rw[u]
    rw[this];exact uV.same (B.af d.keep) d.keep
  ·refine⟨ZM P.q,λw=>?_,λq d=>?_⟩
   ·have:=eH mF kS (i.map.keep (aj.drewN (S:=λ_=>False) c w) id) k false
    simpa[v,ptr]using this
   ·refine zP uF ⟨_,rfl,al.tt rfl ⟨_,ae (d.keep (S:=λ_=>False)|>.get O id) rfl,g,p,X,rfl,C,?_⟩⟩
    have R:aj f b q:=((s.keep (S:=f)).then o).af d.keep;refine PC.ok (E L q l m P (i.af d.keep) Q R) ?_;rintro S w6 ⟨x,rfl,T,y⟩;have:ak.AR k body D.cU=body D.cU P.f:=by unfold ak.AR;rw[u]
    refine⟨_,rfl,Ok.mk ?_⟩;rw[this];exact⟨x,rfl,T,(cQ.mk d.keep λ_ e=>.inl e:cQ f c f q).trans y⟩
 ·rintro S c ⟨x,rfl,U,y⟩
  exact⟨_,rfl,Ok.mk ⟨x,rfl,U,(cQ.mk s.keep λ_ e=>.inl e:cQ f b f A).trans y⟩⟩
def ak.Ok.set{D:ak}(P:D.Ok){c a:bP}(b:aq D.files w=some c)(d:a.bytes.length+D.used<=c.bytes.length+D.most)(e:a.synced<=a.bytes.length):(D.fE w a).Ok:=by
 have f:=cf b;refine⟨P.most,?_,?_,P.tidy.aI _ _,?_,?_,P.AS,P.AT⟩
 ·have:=xv (l:=D.files) (k:=w) (f:=a)
  rw[b]at this;simp only[Option.map_some,Option.getD_some]at this;show eP (aI D.files w a)<=D.most;unfold ak.used at d;omega
 ·show(aI D.files w a).length<=64
  rw[wO (by rw[b];rfl)];exact P.many
 ·intro x j
  rcases fO P.tidy j with rfl|⟨j,_⟩
  ·show c_ w=true
   exact P.names _ f
  ·exact P.names x j
 ·intro x j
  rcases fO P.tidy j with rfl|⟨j,_⟩
  ·exact e
  ·exact P.RE x j
def ak.Ok.del{D:ak}(P:D.Ok)(a:ByteArray):(D.uT a).Ok:=by
 have e:=HS D.files a;have f:=xx (l:=D.files) (k:=a);have d:=P.fits;have g:=P.many;unfold ak.used at d;exact⟨P.most,by show eP (bL D.files a)<=D.most;omega,by show(bL D.files a).length<=64;omega,P.tidy.bL a,λb c=>P.names b (gh c),λb c=>P.RE b (gh c),P.AS,P.AT⟩
def ak.Ok.put{D:ak}(P:D.Ok)(c:c_ w=true)(d:W.bytes.length+D.used<=D.most)(f:D.files.length<64)(e:W.synced<=W.bytes.length):(D.fE w W).Ok:=by
 refine⟨P.most,?_,?_,P.tidy.aI _ _,?_,?_,P.AS,P.AT⟩
 ·have:=xv (l:=D.files) (k:=w) (f:=W)
  show eP (aI D.files w W)<=D.most;unfold ak.used at d;omega
 ·have:=xl D.files w W
  show(aI D.files w W).length<=64;omega
 ·intro b a
  rcases fO P.tidy a with rfl|⟨a,_⟩
  ·exact c
  ·exact P.names b a
 ·intro b a
  rcases fO P.tidy a with rfl|⟨a,_⟩
  ·exact e
  ·exact P.RE b a
def wP{l:List (ByteArray×j)}{k:ByteArray}(P:(aq l k).isSome=true):(bL l k).length+1=l.length:=by
 induction l with
 |nil=>simp[aq]at P
 |cons a l b=>
  obtain⟨d,e⟩:=a;simp only[bL,aq]at P⊢;split
  ·rfl
  ·rename_i c
   rw[Zq c]at P;simp[b P]
def wQ(a:List (ByteArray×j))(b:ByteArray)(d c:j):aI (aI a b d) b c=aI a b c:=by
 induction a with
 |nil=>simp[aI]
 |cons e a f=>
  obtain⟨g,h⟩:=e;simp only[aI]
  by_cases P:(b==g)=true
  ·rw[Zx P,Zx P];simp[aI]
  ·rw[Zq P,Zq P];simp[aI,P,f]
def eG.Sd{G:ZN}(c:eG b a G W)(d:∀P,eG P a G {W with jf:=true}->aj (·=a) b P->P.heap.size=b.heap.size->x P):PS b ⟨a,0+2,none⟩ (.bool true) x:=by
 obtain⟨j,k,e,l,m,n,o,g⟩:=c.body;refine PS.mk m sM λp h q r=>d p ⟨⟨j,k,e,l,r,n.keep h (λi f s=>g (s▸f)),o,g⟩,c.self,λi f=>by have:=c.aE i f;omega⟩ h q
def ak.Ok.cut{D:ak}(a:D.Ok)(b:aq D.files w=some W)(P:Int):(D.fE w (W.cut P)).Ok:=by
 have c:=Sc W P;have d:=mY P W.bytes.length;have e:=a.fits;exact a.set b oM (by rw[c];exact Q4 _)
def fm.get{D:ak}(d:fm b a f D c a1){P:mZ}(e:aq a1 w=some P):aq D.files w=some P.f:=by
 rw[d.files];have:=AV (λP:mZ=>P.f) a1 w;rw[e]at this;exact this
def lA(c:Value)(d:World)(g:ai k b)(P:uV b a f d2 c d):∃e:Int,c= ZH e/\Ok (uV k a f d2) (.returned (ZH e)) d:=by
 obtain⟨h,rfl,i,j⟩:=P;exact⟨_,rfl,Ok.mk ⟨h,rfl,i,(cQ.mk g.keep λ_ P=>.inl P:cQ f k f b).trans j⟩⟩
def DS{D:ak}(c:aV b a f D){k:ByteArray}:
  YX 158 #[ZL a,.string k] b (Ok (uV b a f (D.sync k))):=by
 refine uE (PC.ok (uW c (k:=k) (g:=225) (body:=λD e=>(0,D.fE k (e.cut e.bytes.length))) kR λv w x y j P d z=>?_) λl m c=>lA l m (aj.refl b) c);have g:=P.each.each _ (cf d);have h:=P.get d;obtain⟨A,B,n,C,o,p,E,F⟩:=g.body;have q:=p.len dC;refine rQ ⟨j.q,0,rfl,_,_,_,ae o rfl,PC.ok (AW g (P.ok.len (cf h))) ?_⟩;rintro _ H ⟨I,rfl,i,r⟩;rw[q]at i;obtain⟨s,t,u⟩:=P.eV d i r (P.ok.cut h _);exact⟨rfl,Ok.mk ⟨s,rfl,t.at,u⟩⟩
def Px{D:ak}(c:aV b a f D):
  YX 188 #[ZL a,.string w,ZH e] b (Ok (uV b a f (D.mW w e))):=by
 refine wD (PA.mk λu g v i=>PC.ok (uW (c.af g) (k:=w) (g:=258) (body:=λD j=>(0,D.fE w (j.cut e))) kR λx y z A B P d k=>?_) λl m c=>lA l m g c);have n:=P.each.each _ (cf d);have h:=P.get d;refine tE ⟨_,ae (k.get i λo=>by have:=c.aE _ o;omega) rfl,PC.ok (AW n (P.ok.len (cf h))) ?_⟩;rintro _ C ⟨E,rfl,p,q⟩;obtain⟨r,s,t⟩:=P.eV d p q (P.ok.cut h _);exact⟨rfl,Ok.mk ⟨r,rfl,s.at,t⟩⟩
def xy{D:ak}(P:aV b a f D):
  YX 119 #[ZL a,.string w] b (Ok (uV b a f (D.delete w))):=by
 refine rJ (PA.mk λx h y i=>PA.mk λz e A j=>⟨_,ae (e.get i id) rfl,_,ae j rfl,PC.ok (uW ((P.af h).af e) (k:=w) (g:=172) (body:=λD B=>(0,D.uT w)) kR λC n o E F p H k=>?_) λq r P=>lA q r (h.af e) P⟩);have s:=k.get (e.get i id) λc=>by have:=P.aE _ c;omega
 have t:=k.get j λc=>by have:=P.aE _ c;omega
 refine pq λu l=>?_;have d:=p.af l.keep;have g:ai n u:=l.keep;refine⟨_,ae (g.get s id) rfl,a,0,rfl,some o,ae d.head rfl,w,ae (g.get t id) rfl,Ks mF kS d.map λI v m J=>Ok.mk ⟨f,rfl,(d.drop v m (d.ok.del w)).at,?_,λ_ P=>.inl P⟩⟩;exact g.keep.then (m.mono λK _ c=>by rw[c];exact d.Fr)
def HT{D:ak}(d:aV b a f D){k g:ByteArray}:
  YX 198 #[ZL a,.string k,.string g] b (Ok (uV b a f (D.rename k g))):=by
 refine rO (PA.mk λw1 J s1 K=>PA.mk λX o s2 L=>PA.mk λw3 h s3 Y=>⟨_,ae (h.get (o.get K id) id) rfl,_,ae (h.get L id) rfl,PC.ok (uW (((d.af J).af o).af h) (k:=k) (g:=261)
  (body:=λD Z=>if c_ g then(0,(D.uT k).fE g {Z with jf:=true})else(1,D)) kR λhd s t b1 x e M u=>?_) λa0 w' d=>lA a0 w' ((J.af o).af h) d⟩)
 have i:=u.get (h.get (o.get K id) id) λP=>by have:=d.aE _ P;omega
 have v:=u.get (h.get L id) λP=>by have:=d.aE _ P;omega
 have N:=u.get Y λP=>by have:=d.aE _ P;omega
 have w:=cf M;have y:=e.get M;refine py ⟨_,ae N rfl,PC.ok uX ?_⟩;rintro _ w5 ⟨rfl,z⟩;refine⟨_,rfl,al.not (al.mk (λp=>λw6 a6=>?_) (λp=>Ok.mk ?_))⟩
 ·have j:ai s w6:=z.af a6.keep
  have q:=e.af j;refine⟨_,ae (j.get i id) rfl,a,0,rfl,some t,ae q.head rfl,_,ae (j.get v id) rfl,Ks mF kS q.map λw7 a7 A b8=>λB C=>?_⟩;have a8:=q.drop a7 A (q.ok.del k);have E:=a8.af C.keep;have O:∀c,c=t->f c:=λc P=>by rw[P];exact e.Fr
  have F:aj f s B:=(j.keep.then (A.mono λc _ P=>O c P)).af C.keep;have Q:∀{c:Nat} {R:Obj},s.heap[c]? =some R->b.heap.size<=c->B.heap[c]? =some R:=λP b9=>F.get P λhF=>by have:=d.aE _ hF;omega
  have l:=e.HR _ w;have S:eG B (mZ.q x) (mZ.G x) (mZ.f x):=(((e.each.each _ w).keep j λ_ _ d=>d).keep A λc P=>(l c P).2.2).keep C.keep λ_ _ d=>d;have a1:b.heap.size<=X.heap.size:=oM
  refine⟨_,ae (Q i (Q4 _)) rfl,a,0,rfl,some t,ae E.head rfl,g,ae (Q N a1) rfl,iX mF kS E.map λw9 a9 H c0=>⟨x.q,0,rfl,?_⟩⟩;have b0:=e.ok.fits;have T:=xx (l:=D.cU.files) (k:=k);rw[y]at T;simp only[Option.map_some,Option.getD_some]at T;have b6:=wP (l:=D.cU.files) (k:=k) (by rw[y];rfl);have b7:=e.ok.many;have a2:=e.ok.RE _ (cf y);have U:∀m:bP,m.bytes=x.f.bytes->m.synced=x.f.synced->((D.cU.uT k).fE g m).Ok:=λm i v=>(e.ok.del k).put p (by
   show m.bytes.length+eP (bL D.cU.files k)<=D.cU.most;unfold ak.used at b0;rw[i];omega) (by show(bL D.cU.files k).length<64;omega) (by rw[i,v];exact a2)
  have b2:=E.put (q:=x.q) (G':=x.G) a9 H S (λa3 hy c2 c P b3=>by
   obtain⟨b4,b5⟩:=FP e.each.tidy hy;exact e.each.apart _ w a3 b4 (λI=>b5 I.symm) c P b3) (λc P=>(l c P).2) (U x.f rfl rfl)
  have V:eG w9 x.q x.G x.f:=S.keep H λc P=>(l c P).2.2;refine V.Sd λc3 a4 a5 c1=>Ok.mk ?_;obtain⟨F',n,W⟩:=b2.eV (k:=g) (x:=⟨x.q,x.G,x.f⟩) (by rw[bD];simp) a4 ⟨a5.mono λc _ P=>P▸V.self,λ_ d=>.inl d⟩ (by
   unfold ak.fE;simp only[wQ];exact U {x.f with jf:=true} rfl rfl)
  rw[p,Zx rfl];have I:((D.cU.uT k).fE g x.f).fE g {x.f with jf:=true}=(D.cU.uT k).fE g {x.f with jf:=true}:=by
   unfold ak.fE;simp only[wQ]
  refine⟨F',rfl,by rw[<-I];exact n.at,⟨?_,λc P=>?_⟩⟩
  ·exact(F.then (H.mono λc _ P=>O c P)).then (W.keep.mono λc _ P=>P.elim id λd=>(l c d).1)
  ·rcases W.new c P with(r|r)|r
   ·exact .inl r
   ·exact .inl (l c r).1
   ·have:=F.size;exact .inr oM
 ·rw[p];exact⟨f,rfl,(e.af z).at,z.keep,λ_ d=>.inl d⟩
def xz{D:ak}(P:aV b a f D):
  YX 169 #[ZL a,.string w] b (Ok (uV b a f (D.create w))):=by
 refine rN (PA.mk λw1 H s1 I=>PA.mk λw2 n s2 N=>⟨_,ae (n.get I id) rfl,PC.ok (Mc ((P.af H).af n) (g:=242)
  (body:=λD=>if c_ w then(if(aq D.files w).isSome then(16,D)else if 64<=D.files.length then(12,D)else(0,D.fE w ⟨[],0,false⟩))else(1,D)) kR λhd r O s=>?_) λQ R P=>lA Q R (H.af n) P⟩)
 obtain⟨g,t,c⟩:=O.open;have u:=s.get (n.get I id) λd=>by have:=P.aE _ d;omega
 have v:=s.get N λd=>by have:=P.aE _ d;omega
 refine px ⟨_,ae v rfl,PC.ok uX ?_⟩;rintro _ x ⟨rfl,h⟩;refine⟨_,rfl,al.not (al.mk (λi=>?_) (λi=>Ok.mk ?_))⟩
 ·have y:=c.af h
  have J:∀l,(Instr.lookup 140 (.map (some g)) (.string w) false).run ZP (x.drewN l)= .ok ((aq (t.map ez) w).getD (.pointer none)) (x.drewN l):=λl=>by
   have:=eH mF kS (y.map.keep (aj.drewN (S:=λ_=>False) x l) id) w false;simpa using this
  have S:∃j:YQ,(aq (t.map ez) w).getD (.pointer none)= .pointer j/\j.isSome=(aq D.cU.files w).isSome:=by
   rcases c.box w with⟨z,A⟩|⟨T,b0,bm,z,A⟩
   ·exact⟨none,by rw[A];rfl,by rw[z];rfl⟩
   ·exact⟨ZM T.q,by rw[A];rfl,by rw[z];rfl⟩
  obtain⟨j,U,B⟩:=S;rw[U]at J;refine⟨_,ae (h.get u id) rfl,a,0,rfl,some g,ae y.head rfl,w,ae (h.get v id) rfl,j,J,j.isSome,λl=>pM uF _ _ j _,λV C=>al.mk (λW=>Ok.mk ?_) (λK=>?_)⟩
  ·rw[i,Zx rfl,Zx (by rw[<-B];exact W)]
   exact⟨f,rfl,(y.af C.keep).at,ai.keep (h.af C.keep),λ_ P=>.inl P⟩
  ·have o:ai r V:=h.af C.keep
   have E:=c.af o;have a8:(t.map ez).length=D.cU.files.length:=by rw[c.files];simp
   refine⟨_,ae (o.get u id) rfl,a,0,rfl,some g,ae E.head rfl,Ud mF E.map ⟨_,rfl,al.dec (λa9=>Ok.mk ?_) (λb3=>λm X=>?_)⟩⟩
   ·rw[i,Zx rfl,Zq (by rw[<-B,K];simp),Zx oM]
    exact⟨f,rfl,E.at,o.keep,λ_ P=>.inl P⟩
   ·have k:ai r m:=o.af X.keep
    have p:=c.af k;have b4:=c.map.lt;have b5:=aA c.head;have a7:b.heap.size<=r.heap.size:=by have:=s.size;omega
    have L:∀e,b.heap.size<=e->e≠g:=λe d a2=>by have:=P.aE g c.Fr;omega
    refine⟨(·=g),L _ (Q4 _),_,ae (k.get u id) rfl,a,0,rfl,c.pr,some g,ae p.head rfl,L _ oM,w,ae (k.get v id) rfl,PA.mk λM q s7 Y=>⟨q.keep,iX mF kS (p.af q).map λw8 Z F b6=>⟨F,Ok.mk ?_⟩⟩⟩;have a3:=p.af q;have a0:eG M m.heap.size (·=m.heap.size) ⟨[],0,false⟩:=⟨⟨none,0,0,λ_=>False,Y,aU.nil M,λ_ P=>P.elim,λP=>P⟩,rfl,λe d=>oM⟩
    have a4:(D.cU.fE w ⟨[],0,false⟩).Ok:=c.ok.put i (by have:=c.ok.fits;simpa using this) oM (Q4 _);have a5:=a3.put (q:=m.heap.size) (G':=(·=m.heap.size)) Z F a0 (λa1 hy _ e d a6=>by have:=(p.each.each a1 hy).aE e a6;omega) (λe d=>by have:=k.size;omega) a4;rw[i,Zx rfl,Zq (by rw[<-B,K];simp),Zq oM];refine⟨_,rfl,a5.at,⟨(k.keep.af q).then (F.mono λe _ d=>by rw[d];exact c.Fr),λe d=>d.imp id λP=>by have:=k.size;omega⟩⟩
 ·rw[i]
  exact⟨f,rfl,(c.af h).at,h.keep,λ_ P=>.inl P⟩
def gG(P:List (ByteArray×mZ)):Nat:=(P.map λa=>a.2.f.bytes.length).sum
def DT(P:List (ByteArray×mZ)):gG P=eP (P.map uU):=by unfold gG eP;rw[List.map_map];rfl
def wR{left:List (ByteArray×mZ)}(d:left.map ez=f6++(w,u)::g8):
  ∃P a b,left=P++(w,a)::b/\f6=P.map ez/\g8=b.map ez/\u=ptr a.q:=by
 obtain⟨P,k,e,f,g⟩:=List.map_eq_append_iff.1 d;obtain⟨h,b,i,c,j⟩:=List.map_eq_cons_iff.1 g;obtain⟨l,a⟩:=h;simp only[ez,Prod.mk.injEq]at c;obtain⟨rfl,rfl⟩:=c;exact⟨P,a,b,by rw[e,i],f.symm,j.symm,rfl⟩
def Nv{D:ak}(h:aV b a f D):
  YX 224 #[ZL a] b (Ok λk i=>k= ZH D.room/\ai b i):=by
 obtain⟨l,c,d⟩:=h.open;have Q:=d.ok.most;have m:=d.ok.fits;unfold ak.used at m;rw[d.files,<-DT]at m;refine uJ ⟨a,0,rfl,_,ae d.head rfl,a,0,rfl,some l,ae d.head rfl,mapRange mF d.map λR v w S=>?_⟩;refine⟨λn o i=>∃left:List (ByteArray×mZ),cV i b.heap.size l Value.string (c.map ez) (left.map ez)/\n=left.length/\o=(D.most:Int)-gG c+gG left/\gG left<=gG c/\ai b i/\∀P∈left,P∈c,
  ⟨_,c,v,rfl,oM,Q4 _,w,λ_ h=>h⟩,?_⟩
 rintro n o T U ⟨left,x,rfl,rfl,V,p,q⟩;refine m_ x (λy=>.inl ⟨rfl,Ok.mk ⟨?_,p⟩⟩) λj k W X r z A B C Y=>.inr ⟨_,_,rfl,qp B ?_⟩
 ·have:left=[]:=by simpa using y
  subst this;simp only[gG,List.map_nil,List.sum_nil,ak.room,ak.used];rw[d.files,<-DT];simp[gG]
 ·obtain⟨g,P,e,rfl,rfl,rfl,rfl⟩:=wR z
  have E:(j,P)∈c:=q _ sM;have s:ai b r:=p.new C λe Z=>.inr oM;have F:eG r P.q P.G P.f:=(d.each.each _ E).keep s λ_ _ h=>h;obtain⟨H,t,I,F0,J,K,h3,h4⟩:=F.body;have L:=K.len dC;have M:gG (g++(j,P)::e)=gG (g++e)+P.f.bytes.length:=by simp[gG];omega
  have N:ZG .i64 ((D.most:Int)-gG c+gG (g++(j,P)::e)-((t:Nat):Int))=(D.most:Int)-gG c+gG (g++e):=by
   rw[wrap_i64 bb,L,M];omega
  refine⟨_,_,rfl,P.q,0,rfl,H,t,I,ae J rfl,(g++e).length,sM,g++e,?_,rfl,N,oM,s,λO u=>q O ?_⟩
  ·rw[Q3];exact A
  ·simp only[Q6,Q2]at u⊢;exact u.imp id .inr
def xA{D:ak}(h:aV b a f D)(e:Row fN 1 b a4 d c v)(X:d=none->c=0/\i=0)(x:∀P,a4 P->P<b.heap.size/\¬f P):
  YX 156 #[ZL a,.string w,.slice d c i] b (Ok (uV b a f (D.append w v))):=by
 have K:=e.len;have Y:=e.dO;unfold aO at Y;refine rK (PA.mk λw1 y s1 L=>PA.mk λw2 l s2 Z=>⟨_,ae (l.get L id) rfl,PC.ok (uW ((h.af y).af l) (k:=w) (g:=223)
  (body:=λD M=>if(v.length:Int)>D.room then(12,D)else(0,D.fE w {M with bytes:=M.bytes++v})) kR λhd r a0 b6 g j z s=>?_) λa1 w' h=>lA a1 w' (y.af l) h⟩)
 have e1:=s.get (l.get L id) λe=>by have:=h.aE _ e;omega
 have N:=s.get Z λe=>by have:=h.aE _ e;omega
 have a2:Row fN 1 r a4 d c v:=((e.af y).af l).keep s λP e=>(x P e).2;have A:=j.get z;refine pt λw4 t=>⟨λ_=>False,id,d,c,i,ae (t.keep (S:=λ_=>False)|>.get N id) rfl,_,ae (t.keep (S:=λ_=>False)|>.get e1 id) rfl,PC.ok (Nv (j.af t.keep).at) ?_⟩
 rintro _ w5 ⟨rfl,O⟩;have B:ai r w5:=(bX.keep t).then O;refine⟨_,rfl,O,al.dec (λa5=>Ok.mk ?_) (λa6=>λm a7=>?_)⟩
 ·rw[Zx (by rw[<-K];exact a5)]
  exact⟨f,rfl,(j.af B).at,B.keep,λ_ h=>.inl h⟩
 ·have n:ai r m:=B.af a7.keep
  have C:=j.af n;have Q:=cf z;have E:eG m g.q g.G g.f:=C.each.each _ Q;obtain⟨u,R,fc,F0,F,o,H,S⟩:=E.body;have b7:=o.len dC;have b8:g.f.bytes.length<=262144:=j.ok.len (cf A);have a8:∀P,g.G P->f P/\P≠a/\P≠a0:=C.HR _ Q;refine⟨g.q,0,rfl,u,R,fc,ae F rfl,d,c,i,ae (n.get N id) rfl,?_⟩;have a3:∀P,a4 P->P<m.heap.size/\aH u≠some P:=λP e=>⟨by have:=(x P e).1;have:=s.size;have:=n.size;omega,λk=>(x P e).2 (a8 P (H P (o.self P k))).1⟩
  have b9:D.cU.room<=262144:=by have:=j.ok.most;unfold ak.room;omega
  refine zn o sU (a2.af n) X a3 ba (by unfold maxLen;omega) λp c' w7 F' I J _ T=>?_;have hq:aH u≠some g.q:=λk=>S (o.self _ k);have c0:=aA F;have q:aH p≠some g.q:=λk=>by rcases T _ k with h|h;exact S h;omega
  refine⟨_,_,_,rfl,g.q,0,rfl,PS.mk (J.get F hq) sM λU V s8 g8=>Ok.mk ?_⟩;have W:¬((v.length:Int)>D.cU.room):=by rw[<-K];exact a6
  rw[Zq W];have a9:∀P,aH u=some P->g.G P:=λP k=>H P (o.self P k);have b0:eG U g.q (λP=>P=g.q\/aH p=some P) {g.f with bytes:=g.f.bytes++v}:=
   ⟨⟨p,R+c,c',λP=>aH p=some P,g8,I.alone.keep V (λP e b1=>q (by rw[<-b1];exact e)),λP e=>.inr e,q⟩,.inl rfl,by
    rintro P (rfl|e)
    ·have:=J.size;omega
    ·have:=I.aE P (I.self P e);omega⟩
  have b2:cQ g.G m (λP=>P=g.q\/aH p=some P) U:=⟨(J.mono λP _ e=>a9 P e).then (V.mono λP _ e=>e▸E.self),by
   rintro P (rfl|e)
   ·exact .inl E.self
   ·exact(T P e).imp (λh=>H P h) id⟩
  have b3:(D.cU.fE w {g.f with bytes:=g.f.bytes++v}).Ok:=j.ok.set A (by
   unfold ak.room at W;simp only[QX];omega) (by have:=j.ok.RE _ (cf A);simp only[QX];show g.f.synced<=_;have h':g.f.synced<=g.f.bytes.length:=this;omega)
  obtain⟨F2,b4,b5⟩:=C.eV z b0 b2 b3;exact⟨F2,rfl,b4.at,(cQ.mk n.keep λ_ h=>.inl h:cQ f r f m).trans b5⟩
def wS{D:ak}(h:aV b a f D):
  YX 181 #[ZL a,.string w] b (Ok λm n=>∃j,m= .tuple #[j,ZH (D.read w).2]/\pC fN 5 b (D.read w).1 j n):=by
 obtain⟨k,C,c⟩:=h.open;have P:pC fN 5 b [] (.slice none 0 0) b:=⟨none,0,0,λ_=>False,rfl,aU.nil b,aj.refl _,λ_ h=>h.elim⟩
 rcases c.box w with⟨g,i⟩|⟨e,E,o,g,i⟩
 ·refine ly ⟨a,0,rfl,some k,ae c.head rfl,zq mF kS c.map ?_⟩
  rw[i];refine⟨_,rfl,a,0,rfl,_,ae c.head rfl,al.mk (λd=>Ok.mk ?_) (λd=>gA uF ⟨_,rfl,al.tt rfl (Ok.mk ?_)⟩)⟩
  ·unfold ak.read;rw[d,Zx rfl];exact⟨_,rfl,P⟩
  ·unfold ak.read;rw[d,Zq sM,g];exact⟨_,rfl,P⟩
 ·refine ly ⟨a,0,rfl,some k,ae c.head rfl,zq mF kS c.map ?_⟩
  rw[i];refine⟨_,rfl,a,0,rfl,_,ae c.head rfl,al.mk (λd=>Ok.mk ?_) (λd=>gA uF ⟨_,rfl,al.ff rfl ?_⟩)⟩
  ·unfold ak.read;rw[d,Zx rfl];exact⟨_,rfl,P⟩
  ·have p:eG b e.q e.G e.f:=c.each.each _ o
   obtain⟨q,r,s,F,t,l,H,I⟩:=p.body;have J:e.f.bytes.length<=262144:=c.ok.len (cf g);refine⟨e.q,0,rfl,q,r,s,ae t rfl,PC.ok (kJ (l.row dC ba) l.aE) ?_⟩;rintro _ K ⟨u,v,x,y,rfl,z,A,B⟩;unfold ak.read;rw[d,Zq sM,g];exact⟨_,_,_,rfl,Ok.mk ⟨_,rfl,u,v,x,y,rfl,z,A,B⟩⟩
def wT{D:ak}(k:aV b a f D):
  YX 176 #[ZL a] b (Ok (pC Ns 9 b D.list)):=by
 obtain⟨h,i,P⟩:=k.open;have z:=P.ok.many;have A:i.length=D.files.length:=by rw[P.files];simp
 refine uG ⟨a,0,rfl,some h,ae P.head rfl,PC.ok (φ:=λl e=>l= .func (.func 296) #[] #[ZL b.heap.size]/\ai b e/\e.heap.size=b.heap.size+1/\
  e.heap[b.heap.size]? =some (.cells #[.map (some h)] 140 (0,0))) (dU (PA.mk λm c j g=>Ok.mk ⟨rfl,c,j,g⟩)) ?_⟩
 rintro _ m ⟨rfl,c,j,g⟩;refine⟨_,rfl,PC.ok (yV (P.map.af c) (λB n=>?_) (by rw[Q8];unfold aO;omega) g) ?_⟩
 ·obtain⟨d,o,rfl⟩:=Xk.1 n
  have:=P.ok.names (uU d) (by rw[P.files];exact Xk.2 ⟨d,o,rfl⟩);unfold c_ at this;simp only[QK,Zk]at this;have C:d.1.size<=16:=this.1.2;show d.1.size<=maxLen;unfold maxLen;omega
 ·rintro _ E ⟨p,q,r,s,rfl,t,u,v⟩
  refine⟨_,_,_,rfl,Ok.mk ⟨p,q,r,s,rfl,?_,c.af u,λw x=>by have:=v w x;omega⟩⟩;have y:sq ((i.map ez).map (·.1))=D.list:=by unfold ak.list;rw[P.files,List.map_map,List.map_map];rfl
  rw[<-y];exact t
def HU{P:List (ByteArray×j)}(a:Tidy P)(b:ByteArray):bL P b=P.filter λc=>c.1 !=b:=by
 induction P with
 |nil=>rfl
 |cons g P f=>
  obtain⟨c,l⟩:=g;unfold Tidy at a f;simp only[QY,List.nodup_cons]at a;unfold bL
  by_cases d:(b==c)=true
  ·rw[Zx d]
   have h:b=c:=eq_of_beq d;subst h;rw[List.filter_cons_of_neg sM];exact(List.filter_eq_self.2 λi k=>by
    simp only[bne_iff_ne,ne_eq];intro e;exact a.1 (e▸Xk.2 ⟨i,k,rfl⟩)).symm
  ·rw[Zq d,f a.2,List.filter_cons_of_pos]
   simp only[bne_iff_ne,ne_eq];intro e;exact d (by rw[e];simp)
def stays(left:List (ByteArray×mZ))(P:ByteArray×mZ):Bool:=P.2.f.jf||left.any λa=>a.1==P.1
def yW(J:bY b a Value.string (a1.map ez))(m:DQ b a1)(K:∀P∈a1,∀d,P.2.G d->d≠a):
  YX 121 #[.map (some a),.func (.func 122) #[] #[]] b
   (Ok λo i=>o= .tuple #[]/\bY i a Value.string ((a1.filter λP=>P.2.f.jf).map ez)/\aj (·=a) b i):=by
 have L:enters ZP 122=true:=kR
 refine di (mapRange mF J λw1 M N s1=>?_);refine⟨λu i=>∃left:List (ByteArray×mZ),cV i b.heap.size a Value.string ((a1.filter (stays left)).map ez) (left.map ez)/\u=left.length/\aj (·=a) b i/\(∀P∈left,P∈a1)/\Tidy left,
  ⟨_,a1,?_,rfl,N.keep,λ_ O=>O,m.tidy⟩,?_⟩
 ·have j:a1.filter (stays a1)=a1:=List.filter_eq_self.2 λP n=>by
   unfold stays;rw[Bool.or_eq_true];exact .inr (List.any_eq_true.2 ⟨P,n,sM⟩)
  rw[j];exact M
 ·rintro u a0 w2 ⟨left,p,rfl,v,w,k⟩
  refine m_ p (λl=>.inl ⟨rfl,Ok.mk ⟨rfl,?_,v⟩⟩) λe o l1 l2 r Q x R S s3=>.inr ⟨_,_,rfl,qp R ?_⟩
  ·have:left=[]:=by simpa using l
   subst this;have j:(a1.filter (stays []))=a1.filter λP=>P.2.f.jf:=List.filter_congr λP _=>by simp[stays]
   rw[j]at p;exact p.map
  ·obtain⟨f,P,d,rfl,rfl,rfl,rfl⟩:=wR Q
   have n:(e,P)∈a1:=w _ sM;have a6:b.heap.size≠a:=p.ne;have s:aj (·=a) b r:=v.new S λd y=>.inr oM;have T:eG r P.q P.G P.f:=(m.each _ n).keep s λd y=>K _ n d y;obtain⟨fa,fn,fc,F0,q,z,h3,h4⟩:=T.body;have A:e∉(f++d).map (·.1):=by
    unfold Tidy at k;rw[Q3,QY]at k;rw[Q3];intro U;have V:=(List.perm_middle (a:=e) (l₁:=f.map (·.1)) (l₂:=d.map (·.1))).nodup_iff.1 k;exact(List.nodup_cons.1 V).1 U
   have B:∀c∈a1,c.1≠e->stays (f++(e,P)::d) c=stays (f++d) c:=λc g h=>by
    unfold stays
    congr 1
    have:(e==c.1)=false:=beq_false_of_ne (Ne.symm h);simp[List.any_append,this]
   have C:∀c∈a1,c.1=e->c=(e,P):=λc g l=>by
    have q:=qm m.tidy (k:=c.1) (v:=c.2) g;have z:=qm m.tidy (k:=e) (v:=P) n;rw[l,z]at q;exact Prod.ext l (XJ q).symm
   have W:(f++d).any (λc=>c.1==e)=false:=by
    rw[List.any_eq_false];intro c g l;exact A (Xk.2 ⟨c,g,eq_of_beq l⟩)
   have E:Tidy (f++d):=by
    unfold Tidy at k⊢;rw[Q3,QY]at k;rw[Q3];exact(List.nodup_cons.1 ((List.perm_middle (a:=e) (l₁:=f.map (·.1)) (l₂:=d.map (·.1))).nodup_iff.1 k)).2
   have F:∀c∈f++d,c∈a1:=λc g=>w c (by simp only[Q6,Q2]at g⊢;exact g.imp id .inr);have H:(f++d).length<(f++(e,P)::d).length:=sM
   refine⟨_,_,rfl,_,_,_,rfl,L,PC.ok (φ:=λo i=>o= .bool (!P.f.jf)/\i=r) (qf ⟨P.q,0,rfl,_,ae q rfl,Ok.mk ⟨rfl,rfl⟩⟩) ?_⟩;rintro _ _ ⟨rfl,rfl⟩;refine⟨_,rfl,al.not (al.mk (λt=>⟨_,H,f++d,?_,rfl,s,F,E⟩) (λt=>?_))⟩
   ·have j:a1.filter (stays (f++(e,P)::d))=a1.filter (stays (f++d)):=List.filter_congr λc g=>by
     by_cases h:c.1=e
     ·rw[C c g h];simp[stays,t]
     ·exact B c g h
    rw[Q3,<-j];exact x
   ·refine Py mF kS x (by rw[<-Q3];simpa[ez,Function.comp_def]using A) λw4 I X s4=>⟨_,H,f++d,?_,rfl,s.then X,F,E⟩
    have j:bL ((a1.filter (stays (f++(e,P)::d))).map ez) e=(a1.filter (stays (f++d))).map ez:=by
     have Y:bL ((a1.filter (stays (f++(e,P)::d))).map ez) e=(bL (a1.filter (stays (f++(e,P)::d))) e).map ez:=(AU (λP:mZ=>ptr P.q) _ e).symm;have Z:Tidy (a1.filter (stays (f++(e,P)::d))):=List.Nodup.sublist (List.Sublist.map _ List.filter_sublist) m.tidy;rw[Y,HU Z,List.filter_filter]
     congr 1
     refine List.filter_congr λc g=>?_
     by_cases h:c.1=e
     ·rw[C c g h]
      simp only[stays,t,W,Bool.or_false,bne_self_eq_false,Bool.false_and]
     ·rw[B c g h]
      have:(c.1 !=e)=true:=by simpa using h
      rw[this,Bool.true_and]
    rw[j,<-Q3]at I;exact I

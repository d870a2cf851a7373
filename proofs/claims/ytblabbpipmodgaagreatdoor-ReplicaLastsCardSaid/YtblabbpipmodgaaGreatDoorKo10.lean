import Derived.Test.YtblabbpipmodgaaGreatDoorKo9
import Derived.Maps.RangeRun
import Derived.Laws.RangeAny
import Derived.Laws.Runes
import Derived.Lib.AppendZeros
import Derived.StringKeys
set_option maxHeartbeats 4000000
set_option linter.all false
set_option maxRecDepth 20000
open Go.IntKind renaming wrap→XH
namespace Go.au
open Go
instance:LawfulBEq ByteArray where
 eq_of_beq:=λ{a b} h=>ByteArray.ext (eq_of_beq (show(a.data==b.data)=true from h))
 rfl:=λ{a}=>show(a.data==a.data)=true from by simp
variable{a:Nat}{h:Program}{A b7 f0 g n:TypeId}{v:Value}
def UA(P:h.underlying g=some .string):iD h g Value.string:=
 iD.flat P (λa c=>rfl) (λb d e f=>by simp[Instr.checkKey,run_underlying P]) λb a=>by simp[Instr.sameBits]
structure dG {κ:Type} (w:World) (it r:Nat) (enc:κ->Value) (l left:List (κ×Value)):Prop where
 at':∃es clock since seen c0,w.heap[r]? =some (.map es clock)/\es.toList.map (λe=>(e.key,e.val))=l.map (λp=>(enc p.1,p.2))/\
  (∀e∈es.toList,e.born<clock)/\(es.toList.map (·.born)).Nodup/\w.heap[it]? =some (.mapIter (some r) since seen c0)/\(∀x∈es.toList,x.born<since)/\since<=c0/\since<=clock/\
  (leftOf es seen).toList.map (λe=>(e.key,e.val))=left.map (λp=>(enc p.1,p.2))
 tidy:Tidy l
structure RP {κ:Type} (w:World) (it r:Nat) (enc:κ->Value) (k:κ) (v:Value):Prop where
 at':∃(es:Array MapEntry) (clock since:Nat) (seen:Array Nat) (e:MapEntry),w.heap[r]? =some (.map es clock)/\w.heap[it]? =some (.mapIter (some r) since (seen.push e.born) clock)/\e∈es.toList/\(es.toList.map (·.born)).Nodup/\e.key=enc k/\e.val=v
section
variable {κ:Type} {w w':World} {it r:Nat} {enc:κ->Value} {l left:List (κ×Value)} {S:XM}
def dG.keep(c:dG w it r enc l left)(d:aj S w w')(e:¬S it)(f:¬S r):dG w' it r enc l left:=by
 obtain⟨g,P,a,seen,h,i,j,k,m,n,b⟩:=c.at';exact⟨⟨g,P,a,seen,h,d.get i f,j,k,m,d.get n e,b⟩,c.tidy⟩
def dG.af(P:dG w it r enc l left)(a:ai w w'):dG w' it r enc l left:=P.keep a id id
def dG.map(b:dG w it r enc l left):bU w r enc l:=by
 obtain⟨d,P,a,seen,i,e,f,g,h,j,c⟩:=b.at';exact⟨⟨d,P,e,f,g,h⟩,b.tidy⟩
def dG.ne(d:dG w it r enc l left):it≠r:=by
 obtain⟨f,P,a,seen,g,e,h,i,j,b,c⟩:=d.at';rintro rfl;rw[e]at b;cases b
def mapRange{a j:XN}(k:lT h g n A v)(b:bU w r enc l)(m:∀w',dG w' w.heap.size r enc l l->ai w w'->w'.heap.size=w.heap.size+1->a (XP w.heap.size) w'):aG h (Instr.range g (.map (some r))) w a j:=by
 obtain⟨c,P,d,e,f,o⟩:=b.at';have i:ai w (w.alloc (.mapIter (some r) P #[] P)):=aj.alloc w _;refine aG.mk (run_range_map w g n A r c P k.under d) (m _ ⟨⟨c,P,P,#[],P,i.get d id,e,f,o,heap_alloc_new w _,f,Q4 _,Q4 _,?_⟩,b.tidy⟩ i sM);rw[<-e]
 congr 2
 unfold leftOf;simp
def qq{P:Program}{p T:XN}(q:dG w it r enc l left)(U:left=[]->p (.tuple #[.bool false]) w)(V:∀s t z A w',left=z++(s,t)::A->dG w' it r enc l (z++A)->RP w' it r enc s t->aj (·=it) w w'->w'.heap.size=w.heap.size->p (.tuple #[.bool true,enc s,t]) w'):
  aG P (Instr.next (XP it) false g) w p T:=by
 have W:=q.ne;obtain⟨e,a,c,seen,B,C,X,Y,u,E,F,Z,H,m⟩:=q.at';rcases run_next_at (P:=P) w g it r c B seen e a E C F Z with⟨hz,v⟩|⟨d,I,h,J,v⟩
 ·refine aG.mk v (U ?_)
  have:(leftOf e seen).toList=[]:=by rw[Array.eq_empty_of_size_eq_zero hz]
  rw[this]at m;simpa using m.symm
 ·have x:ai w h:=by rcases J with rfl|rfl;exact aj.refl _;exact aj.drewN w 1
  have b0:h.heap.size=w.heap.size:=by rcases J with rfl|rfl<;>rfl
  have a0:h.heap[it]? =some (.mapIter (some r) c seen B):=x.get E id;have b1:h.heap[r]? =some (.map e a):=x.get C id;have a1:=aB a0
  let o:=ChangeMaps.setBlock h it (.mapIter (some r) c (seen.push d.born) a)
  have K:aj (·=it) h o:=aj.setObj h it _;have L:o.heap[it]? =some (.mapIter (some r) c (seen.push d.born) a):=cR h it _ a1;have M:o.heap[r]? =some (.map e a):=K.get b1 (λd=>W d.symm);have a2:=mem_left I;obtain⟨b,i,N⟩:=List.getElem_of_mem I;have O:b<left.length:=by have:=Zj List.length m;simp at this;simp at i;omega
  have Q:(d.key,d.val)=(enc left[b].1,left[b].2):=by
   have:=Zj (λa3=>a3[b]?) m;simp only[Q9]at this;rw[Qq i,Qq O,N]at this;simpa using this
  have a4:left=left.take b++(left[b].1,left[b].2)::left.drop (b+1):=by
   have:=(ZX b left).symm;rw[X4 O]at this;exact this
  have a5:(leftOf e (seen.push d.born)).toList=(leftOf e seen).toList.eraseIdx b:=by
   have k:((leftOf e seen).toList.map (·.born)).Nodup:=by
    unfold leftOf;rw[Array.toList_filter];exact u.sublist (List.Sublist.map _ List.filter_sublist)
   have hf:(leftOf e (seen.push d.born)).toList=(leftOf e seen).toList.filter (λj=>j.born !=d.born):=by
    unfold leftOf;rw[Array.toList_filter,Array.toList_filter,List.filter_filter]
    congr 1
    funext j
    rw[contains_push]
    cases seen.contains j.born<;>cases hx:(j.born==d.born)<;>simp only[bne,hx]<;>rfl
   rw[hf];have y:∀(f:List MapEntry) (b:Nat) (i:b<f.length),(f.map (·.born)).Nodup->f.filter (λj=>j.born !=f[b].born)=f.eraseIdx b:=by
    intro f
    induction f with
    |nil=>intro b i;simp at i
    |cons j f ih=>
     intro b i k;simp only[QY,List.nodup_cons]at k
     cases b with
     |zero=>
      simp only[List.getElem_cons_zero,List.eraseIdx_zero,List.tail_cons];rw[List.filter_cons_of_neg sM];apply List.filter_eq_self.2;intro a6 hy;simp only[bne_iff_ne,ne_eq];intro d;exact k.1 (d▸Xk.2 ⟨a6,hy,rfl⟩)
     |succ b=>
      simp only[List.getElem_cons_succ,List.eraseIdx_cons_succ];have n:b<f.length:=by simpa using i
      rw[List.filter_cons_of_pos,ih b n k.2];simp only[bne_iff_ne,ne_eq];intro d;exact k.1 (d▸Xk.2 ⟨f[b],XY n,rfl⟩)
   have:=y _ b i k;rw[N]at this;exact this
  have R:d.key=enc left[b].1:=(Prod.mk.inj Q).1;have S:d.val=left[b].2:=(Prod.mk.inj Q).2;refine aG.mk v ?_;rw[R,S];refine V left[b].1 left[b].2 (left.take b) (left.drop (b+1)) o a4 ⟨⟨e,a,c,seen.push d.born,a,M,X,Y,u,L,F,H,H,?_⟩,q.tidy⟩ ⟨e,a,c,seen,d,M,L,a2.1,u,R,S⟩ ((ai.keep x).then K) ?_
  ·rw[a5,map_eraseIdx,m,<-map_eraseIdx]
   congr 1
   rw[List.eraseIdx_eq_take_drop_succ]
  ·show(h.heap.setIfInBounds it _).size=_
   simp[b0]
def ub{b:κ}{c d:XN}(e:RP w it r enc b v)(f:c (.tuple #[enc b,v]) w):aG h (Instr.entry (XP it)) w c d:=by
 obtain⟨g,P,a,seen,i,j,k,l,m,n,o⟩:=e.at';refine aG.mk (run_entry_at w it r a seen g P i k j l m) ?_;rw[n,o];exact f
def NJ[BEq κ][LawfulBEq κ]{d:κ}{H W:XN}(I:lT h g n A v)(t:iD h n enc)(u:dG w it r enc l left)(X:d∉left.map (·.1))(J:∀w',dG w' it r enc (bI l d) left->aj (·=r) w w'->w'.heap.size=w.heap.size->H (.tuple #[]) w'):aG h (Builtin.delete_ #[g,b7] f0 #[.map (some r),enc d]) w H W:=by
 have K:=u.ne;obtain⟨a,b,c,seen,L,k,m,M,N,O,Q,R,S,C⟩:=u.at';have x:=jt t d a.toList l m w;have Y:a.toList.length=l.length:=by have:=Zj List.length m;simpa using this
 have T:=aB k
 cases y:lK l d 0 with
 |none=>
  rw[y]at x;refine aG.mk (w':={w with heap:=w.heap.setIfInBounds r (.map a b)}) ?_ (J _ ⟨⟨_,_,c,seen,L,cR w r _ T,?_,M,N,(aj.setObj w r _).get O K,Q,R,S,C⟩,u.tidy.bI d⟩ (aj.setObj w r _) sM)
  ·simp[Builtin.delete_,run_underlying I.under,dz k,dH t,x,eC k]
  ·rw[(qx y).2];exact m
 |some e=>
  obtain⟨P,Z⟩:=e;rw[y]at x;obtain⟨_,i,U,V⟩:=mG y;rw[Nat.sub_zero]at i U V;have o:P<a.size:=by
                 have:a.size=l.length:=by simpa using Y
                 omega
  have p:(a.eraseIdxIfInBounds P).toList=a.toList.eraseIdx P:=by simp[Array.eraseIdxIfInBounds,o]
  have a0:(a.toList[P]'(by simpa using o)).key=enc d:=by
   have:=Zj (λz=>z[P]?) m;simp only[Q9,U,Option.map_some]at this;rw[Qq (by simpa using o)]at this;simpa using(Prod.mk.inj (XJ this)).1
  have E:∀j∈(leftOf a seen).toList,j.key≠enc d:=by
   intro j hx q;have:(j.key,j.val)∈left.map (λe=>(enc e.1,e.2)):=by rw[<-C];exact Xk.2 ⟨j,hx,rfl⟩
   obtain⟨z,hq,a1⟩:=Xk.1 this;have a2:enc z.1=enc d:=(Prod.mk.inj a1).1.trans q;exact X (Xk.2 ⟨z,hq,t.inj a2⟩)
  have a3:(leftOf (a.eraseIdxIfInBounds P) seen).toList=(leftOf a seen).toList:=by
   unfold leftOf at E⊢;rw[Array.toList_filter]at E;rw[Array.toList_filter,Array.toList_filter,p];have F:∀(f:List MapEntry) (e:MapEntry->Bool) (P:Nat) (i:P<f.length),e f[P]=false->(f.eraseIdx P).filter e=f.filter e:=by
    intro f e
    induction f with
    |nil=>intro P i;simp at i
    |cons j f ih=>
     intro P i B
     cases P with
     |zero=>
      simp only[List.getElem_cons_zero]at B;simp[B]
     |succ P=>
      simp only[List.getElem_cons_succ]at B;simp only[List.eraseIdx_cons_succ,List.filter_cons];rw[ih P (by simpa using i) B]
   refine F _ _ P (by simpa using o) ?_
   cases a4: !seen.contains (a.toList[P]'(by simpa using o)).born with
   |false=>rfl
   |true=>exact Zz a0 (E _ (List.mem_filter.2 ⟨XY _,a4⟩))
  refine aG.mk (w':={w with heap:=w.heap.setIfInBounds r (.map (a.eraseIdxIfInBounds P) b)}) ?_ (J _ ⟨⟨_,_,c,seen,L,cR w r _ T,?_,?_,?_,(aj.setObj w r _).get O K,?_,R,S,?_⟩,u.tidy.bI d⟩ (aj.setObj w r _) sM)
  ·simp[Builtin.delete_,run_underlying I.under,dz k,dH t,x,eC k]
  ·rw[(V Z).2,p,map_eraseIdx,m,map_eraseIdx]
  ·intro q s
   rw[p]at s;exact M q (List.mem_of_mem_eraseIdx s)
  ·rw[p,map_eraseIdx]
   exact N.sublist (List.eraseIdx_sublist _ _)
  ·intro q s
   rw[p]at s;exact Q q (List.mem_of_mem_eraseIdx s)
  ·rw[a3];exact C
def Sh{a b:XN}(c:lT h g n A v)(d:bU w r enc l)(e:a (QH (l.length:Int)) w):aG h (Builtin.len_ #[g] b7 #[.map (some r)]) w a b:=by
 obtain⟨f,P,i,j,_⟩:=d.at';have k:f.size=l.length:=by have:=Zj List.length j;simpa using this
 refine aG.mk (v:=QH (l.length:Int)) ?_ e;rw[<-k];simp[Builtin.len_,Builtin.lenOf,run_underlying c.under,dz i,goInt]
def zP{P:ByteArray}{a b:XN}(c:h.underlying g=some .string)(d:∀w',w'.heap[w.heap.size]? =some (.stringIter P 0)->ai w w'->w'.heap.size=w.heap.size+1->a (XP w.heap.size) w'):aG h (Instr.range g (.string P)) w a b:=
 aG.mk (run_range_string w g P c) (d _ (World.iter_heap w P 0) (aj.alloc w _) (by simp[World.iter]))
def Ed{P:ByteArray}{b e:XN}(c:w.heap[it]? =some (.stringIter P a))(f:P.size<=a->b (.tuple #[.bool false]) w)(i:a<P.size->∀w',w'.heap[it]? =some (.stringIter P (a+(Utf8.decode P a).2))->aj (·=it) w w'->w'.heap.size=w.heap.size->b (.tuple #[.bool true,QH (a:Int),.int .i32 ((Utf8.decode P a).1:Int)]) w'):
  aG h (Instr.next (XP it) true g) w b e:=by
 by_cases d:a<P.size
 ·refine aG.mk (w':={w with heap:=w.heap.setIfInBounds it (.stringIter P (a+(Utf8.decode P a).2))}) ?_ (i d _ (cR w it _ (aB c)) (aj.setObj w it _) sM)
  simp[Instr.next,getObj,setObj,Sem.run,c,d,goInt]
 ·refine aG.mk ?_ (f oM)
  simp[Instr.next,getObj,Sem.run,c,d]
end
end Go.au
namespace Go.Proofs.YtblabbpipmodgaaGreatDoor
open Go.au
def ez(b:UInt8):Bool:=(97<=b&&b<=122)||(48<=b&&b<=57)||b==46
def cV(P:ByteArray):Bool:=decide (1<=P.size)&&decide (P.size<=16)&&P.data.toList.all ez
structure bL where
 bytes:List UInt8
 synced:Nat
 iS:Bool
 deriving DecidableEq
structure ak where
 most:Nat
 files:List (ByteArray×bL)
 iI:Bool
 left:Int
 dead:Bool
 deriving DecidableEq
def eI(P:List (ByteArray×bL)):Nat:=(P.map λa=>a.2.bytes.length).sum
def ak.used(D:ak):Nat:=eI D.files
structure ak.Ok (D:ak):Prop where
 most:D.most<=262144
 fits:D.used<=D.most
 many:D.files.length<=64
 tidy:Tidy D.files
 names:∀x∈D.files,cV x.1=true
 Pw:∀x∈D.files,x.2.synced<=x.2.bytes.length
 zy:0<=D.left
 zz:aN D.left
variable{a1 o:Array Value}{F:Bool}{w:ByteArray}{f1:ByteArray×bL}{y:FuncId}{e:Int}{g2:List (ByteArray×bL)}{s:List UInt8}{a c:Nat}{f:XM}{d:XU}{J i:Type}{b8:UInt8}{b k:World}{x:XT}{U:bL}
def IM(h:f1∈g2):f1.2.bytes.length<=eI g2:=by
 unfold eI
 induction g2 with
 |nil=>cases h
 |cons a g2 P=>
  simp only[QY,List.sum_cons];rcases Q2.1 h with rfl|h
  ·omega
  ·have:=P h;omega
def ak.Ok.len{D:ak}(P:D.Ok)(a:f1∈D.files):f1.2.bytes.length<=262144:=by
 have:=IM a;have:=P.fits;have:=P.most;unfold ak.used at*;omega
structure eA (w:World) (q:Nat) (G:XM) (f:bL):Prop where
 body:∃a n cap F,w.heap[q]? =some (.cells #[.slice a n cap,QH f.synced,.bool f.iS] 206 (0,0))/\aV fF 5 F w a n cap f.bytes/\(∀b,F b->G b)/\¬F q
 self:G q
 aE:∀b,G b->b<w.heap.size
def eA.keep{S G:XM}(c:eA b a G U)(d:aj S b k)(g:∀P,G P->¬S P):eA k a G U:=by
 obtain⟨i,j,e,l,m,n,h,o⟩:=c.body;exact⟨⟨i,j,e,l,d.get m (g _ c.self),n.keep d (λP f=>g P (h P f)),h,o⟩,c.self,λP f=>Qk (c.aE P f) d.size⟩
structure my where
 q:Nat
 G:XM
 f:bL
def ptr(P:Nat):Value:=XP P
def ei(P:ByteArray×my):ByteArray×Value:=(P.1,ptr P.2.q)
def tX(P:ByteArray×my):ByteArray×bL:=(P.1,P.2.f)
structure Ci (w:World) (L:List (ByteArray×my)):Prop where
 each:∀x∈L,eA w x.2.q x.2.G x.2.f
 apart:∀x∈L,∀y∈L,x.1≠y.1->∀b,x.2.G b->¬y.2.G b
 tidy:Tidy L
structure aT (w:World) (p:Nat) (F:XM) (D:ak):Prop where
 body:∃r L,w.heap[p]? =some (.cells #[QH D.most,.map (some r),.bool D.iI,QH D.left,.bool D.dead] 142 (0,0))/\bU w r Value.string (L.map ei)/\D.files=L.map tX/\Ci w L/\
  (∀x∈L,∀b,x.2.G b->F b/\b≠p/\b≠r)/\F r/\p≠r
 self:F p
 aE:∀b,F b->b<w.heap.size
 ok:D.Ok
variable{a0:List (ByteArray×my)}
def Ci.keep{S:XM}(a:Ci b a0)(e:aj S b k)(f:∀P∈a0,∀c,P.2.G c->¬S c):Ci k a0:=
 ⟨λP d=>(a.each P d).keep e (f P d),a.apart,a.tidy⟩
def aT.keep{S e:XM}{D:ak}(c:aT b a e D)(d:aj S b k)(f:∀P,e P->¬S P):aT k a e D:=by
 obtain⟨j,l,m,n,o,p,h,i,q⟩:=c.body;exact⟨⟨j,l,d.get m (f _ c.self),n.keep d (f _ i),o,p.keep d (λr s P g=>f P (h r s P g).1),h,i,q⟩,c.self,λP g=>Qk (c.aE P g) d.size,c.ok⟩
def aT.af{D:ak}(P:aT b a f D)(c:ai b k):aT k a f D:=P.keep c λ_ _ P=>P
def pt(b:i->J)(a:List (ByteArray×i))(c:ByteArray)(d:i):(aH a c d).map (λP=>(P.1,b P.2))=aH (a.map λP=>(P.1,b P.2)) c (b d):=by
 induction a with
 |nil=>rfl
 |cons e a f=>
  obtain⟨P,g⟩:=e;simp only[aH,QY];split
  ·rfl
  ·simp[f]
def zB(b:i->J)(a:List (ByteArray×i))(c:ByteArray):(bI a c).map (λP=>(P.1,b P.2))=bI (a.map λP=>(P.1,b P.2)) c:=by
 induction a with
 |nil=>rfl
 |cons d a e=>
  obtain⟨P,f⟩:=d;simp only[bI,QY];split
  ·rfl
  ·simp[e]
def zD(b:i->J)(P:List (ByteArray×i))(c:ByteArray):aq (P.map λa=>(a.1,b a.2)) c=(aq P c).map b:=by
 induction P with
 |nil=>rfl
 |cons d P e=>
  obtain⟨a,f⟩:=d;simp only[aq,QY];split
  ·rfl
  ·exact e
def fG{a:List (ByteArray×i)}(d:Tidy a){b:i}{P:ByteArray×i}(h:P∈aH a w b):P=(w,b)\/(P∈a/\P.1≠w):=by
 by_cases c:P.1=w
 ·left
  have:=pw (d.aH w b) (k:=P.1) (v:=P.2) h;rw[bz,c]at this;simp at this;exact Prod.ext c this.symm
 ·rcases fe h with rfl|h
  ·exact .inl rfl
  ·exact .inr ⟨h,c⟩
def DU{a:List (ByteArray×i)}(b:Tidy a){P:ByteArray×i}(c:P∈bI a w):P∈a/\P.1≠w:=by
 refine⟨fX c,λe=>?_⟩;have d:=pw (b.bI w) (k:=P.1) (v:=P.2) c;rw[fD b,e]at d;simp at d
def wz{l:List (ByteArray×bL)}{k:ByteArray}{f:bL}:eI (aH l k f)+((aq l k).map λP=>P.bytes.length).getD 0=eI l+f.bytes.length:=by
 unfold eI
 induction l with
 |nil=>simp[aH,aq]
 |cons a l b=>
  obtain⟨c,d⟩:=a;simp only[aH,aq];split
  ·simp;omega
  ·simp only[QY,List.sum_cons]at b⊢;omega
def wA{l:List (ByteArray×bL)}{k:ByteArray}:eI (bI l k)+((aq l k).map λP=>P.bytes.length).getD 0=eI l:=by
 unfold eI
 induction l with
 |nil=>simp[bI,aq]
 |cons a l b=>
  obtain⟨c,d⟩:=a;simp only[bI,aq];split
  ·simp;omega
  ·simp only[QY,List.sum_cons]at b⊢;omega
def vM{P:List (ByteArray×i)}{b:i}(a:(aq P w).isSome=true):(aH P w b).length=P.length:=by
 induction P with
 |nil=>simp[aq]at a
 |cons c P d=>
  obtain⟨f,g⟩:=c;simp only[aH,aq]at a⊢;split
  ·rfl
  ·rename_i e
   rw[Zq e]at a;simp[d a]
def aT.head{D:ak}(c:aT b a f D):∃P,b.heap[a]? =some (.cells #[QH D.most,.map (some P),.bool D.iI,QH D.left,.bool D.dead] 142 (0,0)):=by
 obtain⟨P,e,d,_⟩:=c.body;exact⟨P,d⟩
def aT.IN{D P:ak}(d:aT b a f D)(e:aj (·=a) b k)(l:∀c,b.heap[a]? =some (.cells #[QH D.most,.map (some c),.bool D.iI,QH D.left,.bool D.dead] 142 (0,0))->k.heap[a]? =some (.cells #[QH P.most,.map (some c),.bool P.iI,QH P.left,.bool P.dead] 142 (0,0)))(m:P.files=D.files)(n:P.Ok):aT k a f P:=by
 obtain⟨c,o,p,q,r,s,i,t,j⟩:=d.body;exact⟨⟨c,o,l c p,q.keep e (λu=>j u.symm),m.trans r,s.keep e (λv w g h=>(i v w g h).2.1),i,t,j⟩,d.self,λg h=>Qk (d.aE g h) e.size,n⟩
def aT.yj{D:ak}(P:aT b a f D)(d:∀c,aT c a f {D with dead:=F}->aj f b c->c.heap.size=b.heap.size->x c):PS b ⟨a,0+4,none⟩ (.bool F) x:=by
 obtain⟨l,e⟩:=P.head;refine PS.mk e sM λc g i j=>d c (P.IN g (λm h=>?_) rfl ⟨P.ok.most,P.ok.fits,P.ok.many,P.ok.tidy,P.ok.names,P.ok.Pw,P.ok.zy,P.ok.zz⟩) (g.mono λF _ k=>k▸P.self) i;rw[e]at h;cases h;exact j
def aT.Gj{D:ak}(P:aT b a f D)(d:∀c,aT c a f {D with iI:=F}->aj f b c->c.heap.size=b.heap.size->x c):PS b ⟨a,0+2,none⟩ (.bool F) x:=by
 obtain⟨l,e⟩:=P.head;refine PS.mk e sM λc g i j=>d c (P.IN g (λm h=>?_) rfl ⟨P.ok.most,P.ok.fits,P.ok.many,P.ok.tidy,P.ok.names,P.ok.Pw,P.ok.zy,P.ok.zz⟩) (g.mono λF _ k=>k▸P.self) i;rw[e]at h;cases h;exact j
def aT.Ks{D:ak}(P:aT b a f D)(j:0<=e)(k:aN e)(d:∀c,aT c a f {D with left:=e}->aj f b c->c.heap.size=b.heap.size->x c):PS b ⟨a,0+3,none⟩ (QH e) x:=by
 obtain⟨o,g⟩:=P.head;refine PS.mk g sM λc h l m=>d c (P.IN h (λp i=>?_) rfl ⟨P.ok.most,P.ok.fits,P.ok.many,P.ok.tidy,P.ok.names,P.ok.Pw,j,k⟩) (h.mono λq _ n=>n▸P.self) l;rw[g]at i;cases i;exact m
def LN:ZH 34 #[QH e] b (Ok λd c=>
  if e<64\/e>262144 then d= .tuple #[.pointer none,QH 1]/\c=b
  else∃f g,d= .tuple #[XP f,QH 0]/\aT c f g ⟨e.toNat,[],false,0,false⟩/\ai b c/\∀P,g P->b.heap.size<=P):=by
 refine FO (al.dec (λa=>?_) (λa=>al.dec (λh=>?_) (λh=>?_)))
 ·exact Ok.mk (by rw[Zx (.inl a)];exact⟨rfl,rfl⟩)
 ·exact Ok.mk (by rw[Zx (.inr h)];exact⟨rfl,rfl⟩)
 ·refine PA.mk λj k o l=>PA.mk λm i p n=>Ok.mk ?_
  rw[Zq oM];refine⟨j.heap.size,λP=>b.heap.size<=P/\P<m.heap.size,rfl,⟨⟨b.heap.size,[],?_,bU.new (i.get l id),rfl,⟨sM,sM,by simp[Tidy]⟩,sM,oM,oM⟩,oM,λP a=>a.2,?_⟩,k.af i,λP a=>a.1⟩
  ·rw[n]
   have:((e.toNat:Nat):Int)=e:=oM
   rw[this]
  ·exact⟨by show e.toNat<=_;omega,by simp[ak.used,eI],by simp,by simp[Tidy],by simp,by simp,by simp,by unfold aN;simp⟩
def ak.IP(D:ak)(P:Int):ak:={D with iI:=true,left:=max P 0}
def LO{D:ak}(l:aN e)(P:aT b a f D):ZH 114 #[XP a,QH e] b (Ok λg c=>g= .tuple #[]/\aT c a f (D.IP e)/\cO f b f c):=by
 have h:(if e>0 then e else 0)=max e 0:=oM
 refine tA ⟨a,0,rfl,P.Gj λm i j n=>⟨a,0,rfl,i.Ks oM (by unfold aN at*;omega) λo d k p=>Ok.mk ⟨rfl,?_,j.then k,λ_ P=>.inl P⟩⟩⟩;rw[h]at d;exact d
def ak.dies(D:ak):Bool:=D.dead||(D.iI&&D.left==0)
def ak.cQ(D:ak):ak:=if D.iI then{D with left:=D.left-1}else D
def ak.gone(D:ak):ak:={D with dead:=true}
def IQ{D:ak}(l:aT b a f D){e:Int}{D':ak}(A:enters XG y=true)(E:D.dies=false->∀P,aT P a f D.cQ->aj f b P->P.heap.size=b.heap.size->ZH y (o++ #[]++a1) P (Ok λh d=>∃g,h= QH e/\aT d a g D'/\cO f P g d)):
  ZH 241 #[XP a,.func (.func y) o a1] b (Ok λh d=>∃g,h= QH (if D.dies then 15 else e)/\aT d a g (if D.dies then D.gone else D')/\cO f b g d):=by
 obtain⟨L,v⟩:=l.head;have m:∀P,D.dies=true->aT P a f {D with dead:=true}->aj f b P->Ok (λh d=>∃g,h= QH (if D.dies then 15 else e)/\aT d a g (if D.dies then D.gone else D')/\cO f b g d) (.returned (QH 15)) P:=
  λP i c F=>Ok.mk ⟨f,by rw[i];rfl,by rw[i];exact c,F,λ_ l=>.inl l⟩
 refine sE ⟨λP=>aT P a f D/\aj f b P/\P.heap.size=b.heap.size/\D.dies=false,?_,?_⟩
 ·refine⟨a,0,rfl,_,ae v rfl,al.mk (λi=>⟨a,0,rfl,l.yj λP c j q=>?_⟩) (λi=>⟨a,0,rfl,_,ae v rfl,al.mk (λn=>⟨a,0,rfl,_,ae v rfl,a,0,rfl,l.yj λP c j q=>?_⟩) (λn=>⟨a,0,rfl,l.yj λP c j q=>?_⟩)⟩)⟩
  ·obtain⟨w,p⟩:=c.head
   exact⟨a,0,rfl,true,ae p rfl,m P (by simp[ak.dies,i]) c j⟩
  ·obtain⟨w,p⟩:=c.head
   refine⟨a,0,rfl,D.left==0,ae p rfl,al.mk (λr=>m P (by unfold ak.dies;rw[n,r];simp) (by rw[r]at c;exact c) j) (λr=>⟨?_,j,q,by unfold ak.dies;rw[i,r];simp⟩)⟩;have:({D with dead:=D.left==0}:ak)=D:=by rw[r,<-i]
   rw[this]at c;exact c
  ·obtain⟨w,p⟩:=c.head
   refine⟨a,0,rfl,false,ae p rfl,?_,j,q,by simp[ak.dies,i,n]⟩;have:({D with dead:=false}:ak)=D:=by rw[<-i]
   rw[this]at c;exact c
 ·rintro M P ⟨c,j,q,t⟩
  obtain⟨w,p⟩:=c.head;have s:∀k,aT k a f D.cQ->aj f b k->k.heap.size=b.heap.size->PC XG y (o++ #[]++a1) k (λh d=>∃B:Int,h= QH B/\Ok (λh d=>∃g,h= QH (if D.dies then 15 else e)/\aT d a g (if D.dies then D.gone else D')/\cO f b g d) (.returned (QH B)) d)
    (λH d=>Ok (λh d=>∃g,h= QH (if D.dies then 15 else e)/\aT d a g (if D.dies then D.gone else D')/\cO f b g d) (.panicked H) d):=by
   intro k x u z;refine PC.ok (E t k x u z) ?_;rintro _ N ⟨g,rfl,I,J⟩;exact⟨e,rfl,Ok.mk ⟨g,by rw[t];rfl,by rw[t];exact I,(cO.mk u λ_ l=>.inl l:cO f b f k).trans J⟩⟩
  refine⟨a,0,rfl,_,ae p rfl,al.mk (λn=>?_) (λn=>?_)⟩
  ·have O:D.left≠0:=by
    intro C;simp[ak.dies,n,C]at t
   have C:=c.ok.zy;have Q:=c.ok.zz;have K:XH .i64 (D.left-1)=D.left-1:=wrap_i64 (by unfold aN at*;omega);refine⟨a,0,rfl,_,ae p rfl,a,0,rfl,?_⟩;rw[K];refine c.Ks oM (by unfold aN at*;omega) λk x u z=>⟨y,o,a1,rfl,A,s k ?_ (j.then u) (z.trans q)⟩
   unfold ak.cQ;rw[Zx n];exact x
  ·refine⟨y,o,a1,rfl,A,s P ?_ j q⟩
   unfold ak.cQ;rw[Zq (by simp[n])];exact c
def cs:ByteArray:=⟨#[97,98,99,100,101,102,103,104,105,106,107,108,109,110,111,112,113,114,115,116,117,118,119,120,121,122,48,49,50,51,52,53,54,55,56,57,46]⟩
def Oc:∀P:UInt8,decide (0<=Lib.indexByte cs.data.toList P)=ez P:=by
 have b:(List.range 256).all (λa=>decide (0<=Lib.indexByte cs.data.toList (UInt8.ofNat a))==ez (UInt8.ofNat a))=true:=by decide+kernel
 intro P;have:=ZY.1 b P.toNat (List.mem_range.2 P.toNat_lt);simpa using this
def Qm(b:128<=b8.toNat):ez b8=false:=by
 have P:(List.range 128).all (λa=>ez (UInt8.ofNat (128+a))==false)=true:=by decide+kernel
 have:=ZY.1 P (b8.toNat-128) (List.mem_range.2 (by have:=b8.toNat_lt;omega));rw[show 128+(b8.toNat-128)=b8.toNat by omega]at this;simpa using this
def zN:∀P∈cs.data.toList,P.toNat<128:=by decide+kernel
def Qn:cs.size=37:=by decide+kernel
def strings_IndexByte{P:ByteArray}{a:Int}{b:World}:ZH 341 #[.string P,.int .u8 a] b (Ok λd c=>d= QH (Lib.indexByte P.data.toList a.toNat.toUInt8)/\b=c):=
 (Any.strings_IndexByte Tryz.Qo P a b).mono λg c ⟨e,f⟩=>⟨_,e,rfl,f.symm⟩
def zO:ZH 342 #[.int .i32 e] b (Ok λd f=>d= .bool (Utf8.valid e)/\b=f):=by
 have c:=validRune_eq e;unfold validRune at c;refine lz (al.dec (λg=>al.dec (λh=>?_) (λh=>al.dec (λP=>al.dec (λa=>?_) (λa=>?_)) (λP=>?_))) (λg=>al.dec (λP=>al.dec (λa=>?_) (λa=>?_)) (λP=>?_)))
 all_goals
  refine Ok.mk ⟨?_,rfl⟩;rw[c]
  congr 1
  simp;omega
def pG(P:a<w.size):w[a]? =some (w[a]'P):=by simp[P]
def rm:∀{l:List UInt8} {P:UInt8},(∀b∈l,b≠P)->Lib.indexByte l P= -1
 |[],_,_=>rfl
 |b::l,P,a=>by
  have c:(b==P)=false:=beq_false_of_ne (a b (QV ..));have d:=rm (l:=l) λe f=>a e (QJ _ f);unfold Lib.indexByte;rw[c,d];rfl
def pH(x:0<=e):
  ZH 320 #[.string cs,.int .i32 e] b (Ok λh P=>(∃c:Int,h= QH c/\decide (c>=0)=(decide (e<128)&&ez e.toNat.toUInt8))/\ai b P):=by
 refine qF ⟨λi P=>i=decide (e<128)/\P=b,al.dec (λ_=>⟨rfl,rfl⟩) (λf=>Zz x f),?_⟩;rintro Q o g ⟨rfl,rfl⟩;refine al.dec (λf=>PC.ok strings_IndexByte ?_) (λf=>al.dU (λy=>?_) (λy=>PC.ok zO ?_))
 ·rintro _ _ ⟨rfl,rfl⟩
  refine⟨_,rfl,Ok.mk ⟨⟨_,rfl,?_⟩,aj.refl _⟩⟩;have z:XH .u8 e=e:=by
   unfold XH;simp[IntKind.signed,IntKind.bits];omega
  rw[z,Zy f,Bool.true_and];exact Oc _
 ·have no:∀P,ai g P->Ok (λh P=>(∃c:Int,h= QH c/\decide (c>=0)=(decide (e<128)&&ez e.toNat.toUInt8))/\ai g P) (.returned (QH (-1))) P:=λP p=>
   Ok.mk ⟨⟨_,rfl,by rw[Xv f];rfl⟩,p⟩
  refine zP Tryz.underlying9 λA B q R=>⟨λj P=>∃a,j=cs.size-a/\P.heap[g.heap.size]? =some (.stringIter cs a)/\ai g P,⟨_,0,rfl,B,q⟩,?_⟩
  rintro j o r ⟨a,rfl,C,s⟩;refine Ed C (λ_=>.inl ⟨rfl,no r s⟩) λk E t F S=>.inr ⟨_,_,rfl,?_⟩;have l:(cs[a]'k).toNat<128:=zN _ (by rw[show cs[a]'k=cs.data.toList[a]'(by simpa using k)from by simp;rfl];exact XY _);have H:=decode_ascii cs a k l;rw[H]at t⊢;refine al.dU (λf=>oM) (λ_=>⟨_,?_,a+1,rfl,t,s.new F λi l=>.inr oM⟩);omega
 ·have no:∀P,ai g P->Ok (λh P=>(∃c:Int,h= QH c/\decide (c>=0)=(decide (e<128)&&ez e.toNat.toUInt8))/\ai g P) (.returned (QH (-1))) P:=λP p=>
   Ok.mk ⟨⟨_,rfl,by rw[Xv f];rfl⟩,p⟩
  rintro _ _ ⟨rfl,rfl⟩;refine⟨_,rfl,al.not (al.mk (λI=>?_) (λ_=>no _ (aj.refl _)))⟩;obtain⟨J,K,u⟩:=encode_facts e I oM;refine aG.mk (run_convert_int_string g _ _ .i32 e kR Tryz.underlying9) ⟨_,rfl,?_⟩;generalize Utf8.encode e=d at J K u⊢;have L:XH .i64 (((d.size:Nat):Int)-1)=((d.size-1:Nat):Int):=by rw[wrap_i64 bb];omega
  rw[L];refine⟨λj c P=>c=((d.size-1:Nat):Int)/\ai g P,⟨0,rfl,aj.refl _⟩,?_⟩;rintro j c o A ⟨rfl,q⟩;have T:=Qn;have m:d.size-1<d.size:=oM
  have n:d.size-1<cs.size:=oM
  have U:=u m;have V:(cs[d.size-1]'n).toNat<128:=zN _ (by rw[show cs[d.size-1]'n=cs.data.toList[d.size-1]'(by simpa using n)from by simp;rfl];exact XY _);refine al.dec (λW=>⟨λ_ _=>False,?_,λc o b f=>f.elim⟩) (λX=>oM);simp only[Qx];rw[an oM];refine⟨oM,_,pG n,oM,_,pG m,λr M=>al.dQ (λ_=>λE N=>⟨oM,oM,oM,_,pG m,PC.ok strings_IndexByte ?_⟩) (λv=>oM)⟩;rintro _ _ ⟨rfl,rfl⟩;have O:Lib.indexByte (cs.extract (Int.toNat ((d.size-1+1:Nat):Int)) cs.size).data.toList ((((d[d.size-1]'m).toNat:Nat):Int).toNat.toUInt8)= -1:=by
   refine rm λi l v=>?_;have w:=zN i (mem_extract l);rw[v]at w;simp at w;omega
  refine⟨_,rfl,al.dec (λ_=>no _ ((q.af M.keep).af N.keep)) (λf=>?_)⟩;rw[O]at f;omega
def zQ(d:0<=e):
  ZH 290 #[.int .i32 e] b (Ok λP a=>P= .bool (!(decide (e<128)&&ez e.toNat.toUInt8))/\ai b a):=by
 refine vJ (PC.ok (φ:=λP a=>P= .bool (decide (e<128)&&ez e.toNat.toUInt8)/\ai b a) (m_ (PC.ok (pH d) ?_)) ?_)
 ·rintro _ f ⟨⟨g,rfl,h⟩,c⟩
  exact⟨g,rfl,Ok.mk ⟨by rw[h],c⟩⟩
 ·rintro _ f ⟨rfl,c⟩
  exact⟨_,rfl,Ok.mk ⟨rfl,c⟩⟩
def kL:
  ZH 292 #[.string w,.func (.func 290) #[] #[]] b (Ok λf e=>f= .bool (!w.data.toList.all ez)/\ai b e):=by
 have t:enters XG 290=true:=kR
 refine nd (PC.ok (φ:=λf e=>(∃c:Int,f= QH c/\decide (c>=0)= !w.data.toList.all ez)/\ai b e) (qR (PC.ok (φ:=λf e=>(∃c:Int,f= QH c/\decide (c>=0)= !w.data.toList.all ez)/\ai b e) (qS ?_) ?_)) ?_)
 ·refine zP Tryz.underlying9 λE u v F=>⟨λo e=>∃P,o=w.size-P/\P<=w.size/\e.heap[b.heap.size]? =some (.stringIter w P)/\ai b e/\(∀h∈w.data.toList.take P,ez h=true),⟨_,0,rfl,Qj _,u,v,sM⟩,?_⟩
  rintro o H I ⟨P,rfl,J,x,p,i⟩;refine Ed x (λy=>.inl ⟨rfl,Ok.mk ⟨⟨_,rfl,?_⟩,p⟩⟩) λd z q A K=>.inr ⟨_,_,rfl,_,_,_,rfl,t,?_⟩
  ·rw[Qz (by simpa using y)]at i
   have:w.data.toList.all ez=true:=ZY.2 i;rw[this];rfl
  ·have r:ai b z:=p.new A λh a=>.inr oM
   have s:w.data.toList[P]? =some (w[P]'d):=by
    rw[Qq (by simpa using d)];simp;rfl
   refine PC.ok (zQ (Int.natCast_nonneg _)) ?_;rintro _ L ⟨rfl,j⟩;refine⟨_,rfl,al.mk (λk=>?_) (λg=>?_)⟩
   ·
    refine Ok.mk ⟨⟨_,rfl,?_⟩,r.af j⟩;have l:ez (w[P]'d)=false:=by
     by_cases a:(w[P]'d).toNat<128
     ·rw[decode_ascii w P d a]at k
      simp at k;exact k.resolve_left oM
     ·exact Qm oM
    have:w.data.toList.all ez=false:=List.all_eq_false.2 ⟨_,QZ s,by simp[l]⟩;rw[this];simp
   ·have a:(w[P]'d).toNat<128:=by
     by_cases a:(w[P]'d).toNat<128
     ·exact a
     ·have M:=(decode_high w P d oM).1
      have B:¬(((Utf8.decode w P).1:Int)<128):=oM
      rw[Xv B]at g;simp at g
    rw[decode_ascii w P d a]at q g;have l:ez (w[P]'d)=true:=by
     simp at g;exact g.2
    refine⟨_,?_,P+1,rfl,oM,j.get q id,r.af j,λh a=>?_⟩
    ·omega
    ·rw[Qw,s]at a
     rcases Q6.1 a with a|a
     ·exact i h a
     ·simp at a;rw[a];exact l
 ·rintro _ C ⟨⟨c,rfl,m⟩,n⟩
  exact⟨c,rfl,Ok.mk ⟨⟨c,rfl,m⟩,n⟩⟩
 ·rintro _ C ⟨⟨c,rfl,m⟩,n⟩
  exact⟨c,rfl,Ok.mk ⟨by rw[m],n⟩⟩
def t_:ZH 243 #[.string w] b (Ok λa c=>a= .bool (cV w)/\ai b c):=by
 refine ze (al.Vz (λP=>al.dec (λd=>PC.ok kL ?_) (λd=>Ok.mk ⟨?_,aj.refl _⟩)) (λP=>Ok.mk ⟨?_,aj.refl _⟩))
 ·rintro _ h ⟨rfl,e⟩
  refine⟨_,rfl,Ok.mk ⟨?_,e⟩⟩;have f:1<=w.size:=by
   by_cases g:w.size=0
   ·exact Zz (ByteArray.ext (Array.eq_empty_of_size_eq_zero g)) P
   ·omega
  unfold cV;rw[Zy f,Zy (show w.size<=16 by omega)];simp
 ·unfold cV
  rw[Xv (show¬w.size<=16 by omega)];simp
 ·subst P;rfl
def ki{D:XM}(h:Row fF 1 b D d a s)(g:∀P,D P->P<b.heap.size):
  ZH 174 #[.slice d a c] b (Ok (vh fF 5 b s)):=by
 have x:=h.len;have e:=h.ef;refine ly (jQ rU.under ⟨_,rfl,al.mk (λf=>?_) (λf=>PA.mk λk i y l=>?_)⟩)
 ·have:s=[]:=by
   cases d with
   |none=>
    cases s with
    |nil=>rfl
    |cons m z=>obtain⟨P,n,A,o,_⟩:=h.el 0 m rfl;cases o
   |some p=>cases f
  subst this;exact Ok.mk ⟨none,0,0,λ_=>False,rfl,aV.nil b,aj.refl _,λ_ h=>h.elim⟩
 ·cases d with
  |none=>cases f
  |some p=>
   have q:aV fF 5 (·=b.heap.size) k (XL b.heap.size) 0 0 []:=
    ⟨⟨[],λ_=>False,Own.yz (cur:= #[]) l rfl (Qj _),rfl,λ_ h=>h.elim⟩,λP e=>by simpa[aI]using e.symm,λP e=>oM⟩
   refine kj q rU (D:=D) (h.af i) (λP e=>⟨by have:=g P e;omega,by have:=g P e;simp only[aI];intro r;cases r;omega⟩) bc (by unfold aS at e;unfold maxLen;simp;omega) λj t B C u v _ w=>?_;refine⟨_,_,_,rfl,Ok.mk ⟨j,_,t,λP=>aI j=some P,rfl,by have h:=u.alone;rw[List.nil_append]at h;exact h,i.new v λP e=>.inr ?_,λP e=>?_⟩⟩
   ·simp only[aI,Q1]at e;omega
   ·rcases w P e with h|h<;>omega
def gw(P:Int)(a:Nat):Nat:=(max 0 (min P a)).toNat
def mu(a:Int)(P:Nat):gw a P<=P:=by unfold gw;omega
def bL.cut(P:bL)(a:Int):bL:=⟨P.bytes.take (gw a P.bytes.length),gw a P.bytes.length,true⟩
def PY(P:bL)(a:Int):(P.cut a).bytes.length=gw a P.bytes.length:=by
 have:=mu a P.bytes.length;simp[bL.cut];omega
def zF{G:XM}(i:eA b a G U)(c:U.bytes.length<=262144):
  ZH 123 #[XP a,QH e] b (Ok λy p=>∃q,y= .tuple #[]/\eA p a q (U.cut e)/\cO G b q p):=by
 obtain⟨r,d,j,z,A,g,R,S⟩:=i.body;have B:d=U.bytes.length:=g.len dC;have T:=g.mL;refine vy λk C=>?_;have f:ai b k:=C.keep;have h:=f.get A id;have V:=mu e U.bytes.length;have E:(if(if((d:Nat):Int)<e then((d:Nat):Int)else e)>0 then(if((d:Nat):Int)<e then((d:Nat):Int)else e)else 0)=((gw e U.bytes.length:Nat):Int):=by
  unfold gw;rw[B];omega
 refine⟨a,0,rfl,_,_,_,ae h rfl,a,0,rfl,r,d,j,ae h rfl,?_⟩;refine⟨oM,oM,?_⟩;have F:Row fF 1 k z r d U.bytes:=(g.row dC ba).af f;refine PC.ok (by rw[E,Qx];exact ki (F.take (m:=gw e U.bytes.length) oM) (λP c=>Qk (g.aE P c) f.size)) ?_;rintro _ H ⟨s,l,t,m,rfl,n,o,u⟩;have I:l=gw e U.bytes.length:=by have:=n.len dC;rw[this];simp;omega
 have W:a<k.heap.size:=aB h;refine⟨_,_,_,rfl,a,0,rfl,PS.mk (o.get h id) sM λX J Y v=>⟨a,0,rfl,s,l,t,ae v rfl,a,0,rfl,PS.mk v sM λZ K s4 L=>⟨a,0,rfl,PS.mk L sM λM N s5 O=>Ok.mk ?_⟩⟩⟩;have w:aj (·=a) H M:=(J.then K).then N;have x:∀P,m P->P≠a:=λP c=>by have:=u P c;omega
 refine⟨λP=>P=a\/m P,rfl,⟨⟨s,l,t,m,?_,n.keep w x,λP c=>.inr c,λQ=>x a Q rfl⟩,.inl rfl,?_⟩,⟨((ai.keep f).then (ai.keep o)).then (w.mono λP _ c=>by rw[c];exact i.self),?_⟩⟩
 ·rw[O]
  subst I
  rfl
 ·rintro P (rfl|c)
  ·have:=o.size;omega
  ·have:=n.aE P c;omega
 ·rintro P (rfl|c)
  ·exact .inl i.self
  ·have:=u P c;have:=f.size;exact .inr oM
structure eY (w:World) (p:Nat) (F:XM) (D:ak) (r:Nat) (L:List (ByteArray×my)):Prop where
 head:w.heap[p]? =some (.cells #[QH D.most,.map (some r),.bool D.iI,QH D.left,.bool D.dead] 142 (0,0))
 map:bU w r Value.string (L.map ei)
 files:D.files=L.map tX
 each:Ci w L
 Gk:∀x∈L,∀b,x.2.G b->F b/\b≠p/\b≠r
 Fr:F r
 pr:p≠r
 self:F p
 aE:∀b,F b->b<w.heap.size
 ok:D.Ok
def aT.open{D:ak}(P:aT b a f D):∃c d,eY b a f D c d:=by
 obtain⟨c,d,e,g,h,i,j,k,l⟩:=P.body;exact⟨c,d,e,g,h,i,j,k,l,P.self,P.aE,P.ok⟩
def eY.at{D:ak}(P:eY b a f D c a0):aT b a f D:=
 ⟨⟨c,a0,P.head,P.map,P.files,P.each,P.Gk,P.Fr,P.pr⟩,P.self,P.aE,P.ok⟩
def eY.keep{S f:XM}{D:ak}(P:eY b a f D c a0)(e:aj S b k)(g:∀d,f d->¬S d):eY k a f D c a0:=
 ⟨e.get P.head (g _ P.self),P.map.keep e (g _ P.Fr),P.files,P.each.keep e (λi j d h=>g d (P.Gk i j d h).1),P.Gk,P.Fr,P.pr,P.self,λd h=>Qk (P.aE d h) e.size,P.ok⟩
def eY.af{D:ak}(P:eY b a f D c a0)(d:ai b k):eY k a f D c a0:=P.keep d λ_ _ P=>P
def eY.box{D:ak}(i:eY b a f D c a0)(d:ByteArray):
  (aq D.files d=none/\aq (a0.map ei) d=none)\/∃P,aq a0 d=some P/\(d,P)∈a0/\aq D.files d=some P.f/\aq (a0.map ei) d=some (ptr P.q):=by
 have e:aq (a0.map ei) d=(aq a0 d).map λP=>ptr P.q:=zD (λP:my=>ptr P.q) a0 d;have g:aq D.files d=(aq a0 d).map λP=>P.f:=by rw[i.files];exact zD (λP:my=>P.f) a0 d
 cases h:aq a0 d with
 |none=>rw[h]at e g;exact .inl ⟨g,e⟩
 |some P=>rw[h]at e g;exact .inr ⟨P,rfl,b_ h,g,e⟩
def ak.fv(D:ak)(P:ByteArray)(a:bL):ak:={D with files:=aH D.files P a}
def ak.tW(D:ak)(P:ByteArray):ak:={D with files:=bI D.files P}
def px{l:List (ByteArray×i)}{k:ByteArray}{v:i}(h:(k,v)∈l)(P:Tidy l):aH l k v=l:=by
 induction l with
 |nil=>cases h
 |cons a l b=>
  obtain⟨c,e⟩:=a;unfold aH;unfold Tidy at P;simp only[QY,List.nodup_cons]at P;rcases Q2.1 h with h|h
  ·cases h;simp
  ·have:(k==c)=false:=beq_false_of_ne λd=>P.1 (Xk.2 ⟨(k,v),h,d⟩)
   rw[Zq (by simp[this]),b h P.2]
def eY.fB{i w':World}{n G':XM}{D:ak}(d:eY i a n D c a0){k:ByteArray}{x:my}(v:aq a0 k=some x)(t:eA w' x.q G' U)(h:cO x.G i G' w')(w:(D.fv k U).Ok):∃u,eY w' a u (D.fv k U) c (aH a0 k ⟨x.q,G',U⟩)/\cO n i u w':=by
 have j:=b_ v;have l:=d.Gk _ j;have y:aj n i w':=h.keep.mono λP _ b=>(l P b).1;have o:∀e∈aH a0 k ⟨x.q,G',U⟩,e=(k,⟨x.q,G',U⟩)\/(e∈a0/\e.1≠k):=λe f=>fG d.each.tidy f;refine⟨λP=>n P\/(i.heap.size<=P/\P<w'.heap.size),⟨h.keep.get d.head λb=>(l _ b).2.1 rfl,?_,?_,⟨?_,?_,d.each.tidy.aH _ _⟩,?_,.inl d.Fr,d.pr,.inl d.self,?_,w⟩,y,λP b=>b.imp id (·.1)⟩
 ·have z:(aH a0 k ⟨x.q,G',U⟩).map ei=a0.map ei:=by
   have g:(aH a0 k ⟨x.q,G',U⟩).map ei=aH (a0.map ei) k (ptr x.q):=pt (λx:my=>ptr x.q) a0 k _;rw[g];have A:Tidy (a0.map ei):=d.map.tidy;exact px (Xk.2 ⟨_,j,rfl⟩) A
  rw[z];exact d.map.keep h.keep λb=>(l _ b).2.2 rfl
 ·have g:(aH a0 k ⟨x.q,G',U⟩).map tX=aH (a0.map tX) k U:=pt (λx:my=>x.f) a0 k _
  rw[g,<-d.files];rfl
 ·intro e f
  rcases o e f with rfl|⟨f,s⟩
  ·exact t
  ·exact(d.each.each e f).keep h.keep λP b=>d.each.apart e f _ j s P b
 ·intro e f p m q P b r
  rcases o e f with rfl|⟨f,s⟩<;>rcases o p m with rfl|⟨m,B⟩
  ·exact q rfl
  ·rcases h.new P b with g|g
   ·exact d.each.apart _ j p m q P g r
   ·have:=(d.each.each p m).aE P r;omega
  ·rcases h.new P r with g|g
   ·exact d.each.apart e f _ j q P b g
   ·have:=(d.each.each e f).aE P b;omega
  ·exact d.each.apart e f p m q P b r
 ·intro e f P b
  rcases o e f with rfl|⟨f,s⟩
  ·have C:=aB d.head
   have E:=d.map.lt;rcases h.new P b with g|g
   ·exact⟨.inl (l P g).1,(l P g).2⟩
   ·exact⟨.inr ⟨g,t.aE P b⟩,oM,oM⟩
  ·exact⟨.inl (d.Gk e f P b).1,(d.Gk e f P b).2⟩
 ·rintro P (b|b)
  ·exact Qk (d.aE P b) h.keep.size
  ·exact b.2
def eY.drop{D:ak}(d:eY b a f D c a0)(o:bU k c Value.string (bI (a0.map ei) w))(i:aj (·=c) b k)(p:(D.tW w).Ok):eY k a f (D.tW w) c (bI a0 w):=by
 have g:∀P∈bI a0 w,P∈a0:=λP e=>fX e;refine⟨i.get d.head (λh=>d.pr h),?_,?_,⟨λP e=>((d.each.each P (g P e)).keep i λj l=>(d.Gk P (g P e) j l).2.2),λP e n q=>d.each.apart P (g P e) n (g n q),d.each.tidy.bI w⟩,λP e=>d.Gk P (g P e),d.Fr,d.pr,d.self,λj l=>Qk (d.aE j l) i.size,p⟩
 ·have h:(bI a0 w).map ei=bI (a0.map ei) w:=zB (λm:my=>ptr m.q) a0 w
  rw[h];exact o
 ·have h:(bI a0 w).map tX=bI (a0.map tX) w:=zB (λm:my=>m.f) a0 w
  rw[h,<-d.files];rfl
def eY.put{p G':XM}{D:ak}(f:eY b a p D c a0){q:Nat}(v:bU k c Value.string (aH (a0.map ei) w (ptr q)))(g:aj (·=c) b k)(r:eA b q G' U)(s:∀d∈a0,d.1≠w->∀P,G' P->¬d.2.G P)(t:∀P,G' P->P≠a/\P≠c)(x:(D.fv w U).Ok):
  eY k a (λP=>p P\/G' P) (D.fv w U) c (aH a0 w ⟨q,G',U⟩):=by
 have i:∀d∈aH a0 w ⟨q,G',U⟩,d=(w,⟨q,G',U⟩)\/(d∈a0/\d.1≠w):=λd e=>fG f.each.tidy e;refine⟨g.get f.head (λh=>f.pr h),?_,?_,⟨?_,?_,f.each.tidy.aH _ _⟩,?_,.inl f.Fr,f.pr,.inl f.self,?_,x⟩
 ·have h:(aH a0 w ⟨q,G',U⟩).map ei=aH (a0.map ei) w (ptr q):=pt (λl:my=>ptr l.q) a0 w _
  rw[h];exact v
 ·have h:(aH a0 w ⟨q,G',U⟩).map tX=aH (a0.map tX) w U:=pt (λl:my=>l.f) a0 w _
  rw[h,<-f.files];rfl
 ·intro d e
  rcases i d e with rfl|⟨e,m⟩
  ·exact r.keep g λP B=>(t P B).2
  ·exact(f.each.each d e).keep g λP B=>(f.Gk d e P B).2.2
 ·intro d e n j u P B o
  rcases i d e with rfl|⟨e,m⟩<;>rcases i n j with rfl|⟨j,y⟩
  ·exact u rfl
  ·exact s n j y P B o
  ·exact s d e m P o B
  ·exact f.each.apart d e n j u P B o
 ·intro d e P B
  rcases i d e with rfl|⟨e,m⟩
  ·exact⟨.inr B,t P B⟩
  ·exact⟨.inl (f.Gk d e P B).1,(f.Gk d e P B).2⟩
 ·rintro P (B|B)
  ·exact Qk (f.aE P B) g.size
  ·exact Qk (r.aE P B) g.size
end Go.Proofs.YtblabbpipmodgaaGreatDoor
namespace Go.au
open Go
def AS(cs:Array Value):Nat->List Value->Array Value
 |_,[]=>cs
 |P,a::b=>AS (cs.setIfInBounds P a) (P+1) b
def CU:∀(b:List Value) (cs:Array Value) (a P:Nat),(AS cs a b)[P]? =if a<=P/\P<a+b.length/\P<cs.size then b[P-a]? else cs[P]?
 |[],cs,a,P=>by rw[Zq bc];rfl
 |v::b,cs,a,P=>by
  unfold AS;rw[CU b,Array.getElem?_setIfInBounds];simp only[Xq,Array.size_setIfInBounds]
  by_cases c:a+1<=P/\P<a+1+b.length/\P<cs.size
  ·rw[Zx c,Zx oM,show P-a=(P-(a+1))+1 by omega,ZZ]
  ·rw[Zq c]
   by_cases d:a=P
   ·subst d
    by_cases e:a<cs.size
    ·rw[Zx rfl,Zx e,Zx oM,Nat.sub_self,ZJ]
    ·rw[Zx rfl,Zq e,Zq oM,Array.getElem?_eq_none oM]
   ·rw[Zq d,Zq oM]
variable{a3:List Value}{a:Nat}{g:TypeId}{b:World}{x:XT}
def CV{cs:Array Value}(a:a3.length=cs.size):AS cs 0 a3=a3.toArray:=by
 apply Array.ext_getElem?;intro P;rw[CU]
 by_cases b:P<cs.size
 ·rw[Zx oM];simp
 ·rw[Zq oM,Array.getElem?_eq_none oM]
  simp;omega
def xh{c:Nat}{g:TypeId}{h:XT}:∀(b:List Value) (a:Nat) {P:World} {cs:Array Value},P.heap[c]? =some (.cells cs g (0,0))->a+b.length<=cs.size->
  (∀d,aj (·=c) P d->d.heap.size=P.heap.size->d.heap[c]? =some (.cells (AS cs a b) g (0,0))->h d)->iW ⟨c,0,none⟩ a b P h
 |[],a,P,cs,e,i,f=>f P (aj.refl _) rfl e
 |v::b,a,P,cs,e,i,f=>by
  unfold iW;rw[Addr.add_lit,Xz];rw[Xq]at i;exact PS.mk e oM λq j k l=>xh b (a+1) l bc λm n o p=>f m (j.then n) (o.trans k) p
def storeAll{cs:Array Value}(c:List Value)(d:b.heap[a]? =some (.cells cs g (0,0)))(e:c.length=cs.size)(f:∀P,aj (·=a) b P->P.heap.size=b.heap.size->P.heap[a]? =some (.cells c.toArray g (0,0))->x P):iW ⟨a,0,none⟩ 0 c b x:=
 xh c 0 d oM λP h i j=>f P h i (by rw[j,CV e])
end Go.au
namespace Go.au
open Go
def wrap_u32(P:Nat)(a:P<2 ^ 32):XH .u32 (P:Int)=P:=by
 unfold XH;simp[IntKind.signed,IntKind.bits];omega
def wrap_u8(P:Nat):XH .u8 (P:Int)=((P % 256:Nat):Int):=by
 unfold XH;simp[IntKind.signed,IntKind.bits]
def ofInt32(P:qp):BitVec.ofInt (IntKind.bits .u32) ((P.toNat:Nat):Int)=P:=by
 show BitVec.ofInt 32 ((P.toNat:Nat):Int)=P;rw[BitVec.ofInt_natCast];simp
def IF(P a:qp):oY .u32 ((P.toNat:Nat):Int) ((a.toNat:Nat):Int)=(((P ^^^ a).toNat:Nat):Int):=by
 unfold oY;rw[ofInt32,ofInt32];exact wrap_u32 _ (P ^^^ a).isLt
def ND(P:qp):oY .u32 (IntKind.max .u32) ((P.toNat:Nat):Int)=(((~~~P).toNat:Nat):Int):=by
 have a:IntKind.max .u32=(((BitVec.allOnes 32).toNat:Nat):Int):=by decide+kernel
 rw[a,IF,BitVec.allOnes_xor]
def Sd(P:qp):kv .u32 ((P.toNat:Nat):Int) 8=(((P>>>8).toNat:Nat):Int):=by
 unfold kv;have:(min (Int.toNat 8) (IntKind.bits .u32))=8:=dC
 rw[this,BitVec.toNat_ushiftRight,Nat.shiftRight_eq_div_pow];show Int.fdiv _ ((2 ^ 8:Nat):Int)=_;rw[Int.fdiv_eq_ediv_of_nonneg _ (Int.natCast_nonneg _)]
 rfl
def Ts(P a:Nat)(b:P<256)(c:a<256):oY .u8 (P:Int) (a:Int)=((P ^^^ a:Nat):Int):=by
 unfold oY;show XH .u8 ((BitVec.ofInt 8 (P:Int) ^^^ BitVec.ofInt 8 (a:Int)).toNat:Int)=_;have d:P ^^^ a<2 ^ 8:=Nat.xor_lt_two_pow oM oM;rw[BitVec.ofInt_natCast,BitVec.ofInt_natCast,BitVec.toNat_xor,BitVec.toNat_ofNat,BitVec.toNat_ofNat,Nat.mod_eq_of_lt oM,Nat.mod_eq_of_lt oM,wrap_u8,Nat.mod_eq_of_lt oM]
def Se(P:Nat)(b:P<256):DA .u8 (P:Int) 15=((P % 16:Nat):Int):=by
 unfold DA;show XH .u8 ((BitVec.ofInt 8 (P:Int)&&&BitVec.ofInt 8 ((15:Nat):Int)).toNat:Int)=_;have a:P&&&15=P % 16:=Nat.and_two_pow_sub_one_eq_mod P 4;rw[BitVec.ofInt_natCast,BitVec.ofInt_natCast,BitVec.toNat_and,BitVec.toNat_ofNat,BitVec.toNat_ofNat,Nat.mod_eq_of_lt oM,Nat.mod_eq_of_lt oM,a,wrap_u8,Nat.mod_eq_of_lt oM]
def Tt(P:Nat):kv .u8 (P:Int) 4=((P/16:Nat):Int):=by
 unfold kv;have:(min (Int.toNat 4) (IntKind.bits .u8))=4:=dC
 rw[this];show Int.fdiv _ ((2 ^ 4:Nat):Int)=_;rw[Int.fdiv_eq_ediv_of_nonneg _ (Int.natCast_nonneg _)]
 rfl
end Go.au
namespace Go.Proofs.YtblabbpipmodgaaGreatDoor
open Go.au
structure oV (w:World):Prop where
 lower:∀i,i<16->w.cell? ⟨2,i,none⟩=some (.int .u32 ((jA.getD i 0:Nat):Int))
 upper:∀i,i<16->w.cell? ⟨3,i,none⟩=some (.int .u32 ((jB.getD i 0:Nat):Int))
 lt:2<w.heap.size/\3<w.heap.size
variable{s:List UInt8}{a c:Nat}{f:XM}{d:XU}{b k:World}
def oV.af(P:oV b)(c:ai b k):oV k:=
 ⟨λa d=>(c.cell (a:=⟨2,a,none⟩) P.lt.1 id).trans (P.lower a d),λa d=>(c.cell (a:=⟨3,a,none⟩) P.lt.2 id).trans (P.upper a d),Qk P.lt.1 c.size,Qk P.lt.2 c.size⟩
def NF:∀P,jA.getD P 0<2 ^ 32/\jB.getD P 0<2 ^ 32:=by
 intro P
 by_cases a:P<16
 ·have b:(List.range 16).all (λP=>decide (jA.getD P 0<2 ^ 32/\jB.getD P 0<2 ^ 32))=true:=by decide+kernel
  simpa using ZY.1 b P (List.mem_range.2 a)
 ·rw[QQ,QQ,Q7 (by show 16<=P;omega),Q7 (by show 16<=P;omega)]
  decide
def NG{s:qp}{h:List UInt8}(q:oV b)(k:Row fF 1 b f d a h):
  ZH 316 #[.int .u32 ((s.toNat:Nat):Int),.slice d a c] b (Ok λr l=>r= .int .u32 (((Kq s h).toNat:Nat):Int)/\bY b l):=by
 have H:=k.len;have t:=k.ef;unfold aS at t;refine Iq ⟨λo P i l=>∃g:Nat,i=g/\g<=a/\o=a-g/\bY b l/\P=((((h.take g).foldl jR (~~~s)).toNat:Nat):Int),⟨_,0,rfl,Qj _,rfl,bY.refl b,by rw[ND];rfl⟩,?_⟩;rintro o P i I J ⟨g,rfl,K,rfl,j,rfl⟩;generalize m:(h.take g).foldl jR (~~~s)=P;refine al.dec (λu=>?_) (λu=>Ok.mk ⟨?_,j⟩)
 ·obtain⟨v,n,e,rfl,w,_,x⟩:=(k.af j.keep).lq (i:=g) oM
  have p:=q.af j.keep;have L:=e.toNat_lt;have y:XH .u8 ((P.toNat:Nat):Int)=((P.toNat % 256:Nat):Int):=wrap_u8 _;have M:e.toNat ^^^ P.toNat % 256<2 ^ 8:=Nat.xor_lt_two_pow oM oM;have z:oY .u8 ((e.toNat:Nat):Int) (XH .u8 ((P.toNat:Nat):Int))=((e.toNat ^^^ P.toNat % 256:Nat):Int):=by rw[y,Ts _ _ oM oM]
  refine⟨v,n,rfl,oM,oM,_,x,?_⟩;rw[z,Se _ oM,Tt];refine⟨2,0,rfl,oM,oM,((jA.getD ((e.toNat ^^^ P.toNat % 256) % 16) 0:Nat):Int),?_,3,0,rfl,oM,oM,((jB.getD ((e.toNat ^^^ P.toNat % 256)/16) 0:Nat):Int),?_,λN A=>⟨_,oM,g+1,an oM,oM,rfl,j.then A,?_⟩⟩
  ·rw[Xz];exact p.lower _ oM
  ·rw[Xz];exact p.upper _ oM
  ·have B:=(NF ((e.toNat ^^^ P.toNat % 256) % 16)).1
   have C:=(NF ((e.toNat ^^^ P.toNat % 256)/16)).2;rw[Sd];have E:((jA.getD ((e.toNat ^^^ P.toNat % 256) % 16) 0:Nat):Int)=(((BitVec.ofNat 32 (jA.getD ((e.toNat ^^^ P.toNat % 256) % 16) 0)).toNat:Nat):Int):=by rw[BitVec.toNat_ofNat,Nat.mod_eq_of_lt B]
   have F:((jB.getD ((e.toNat ^^^ P.toNat % 256)/16) 0:Nat):Int)=(((BitVec.ofNat 32 (jB.getD ((e.toNat ^^^ P.toNat % 256)/16) 0)).toNat:Nat):Int):=by rw[BitVec.toNat_ofNat,Nat.mod_eq_of_lt C]
   rw[E,F,IF,IF,<-LH,Qw,w,List.foldl_append,m]
   rfl
 ·rw[Qz oM]at m
  rw[ND,<-m];rfl
def Kr(P:oV b)(e:Row fF 1 b f d a s):
  ZH 284 #[.slice d a c] b (Ok λg h=>g= .int .u32 (((IG s).toNat:Nat):Int)/\bY b h):=by
 refine LD (PC.ok (NG (s:=0#32) P e) ?_);rintro _ j ⟨rfl,i⟩;exact⟨_,rfl,Ok.mk ⟨rfl,i⟩⟩
end Go.Proofs.YtblabbpipmodgaaGreatDoor
namespace Go.au
open Go
def wrap_u32'(P:Int):XH .u32 P=P % 4294967296:=by
 unfold XH;simp[IntKind.signed,IntKind.bits]
def Jb{P d:Nat}(c:P<16777216)(e:d<256):NB .u32 (IZ .u32 (P:Int) 8) (XH .u32 (d:Int))=((P*256+d:Nat):Int):=by
 have a:IZ .u32 (P:Int) 8=((P*256:Nat):Int):=by
  unfold IZ;have:min (Int.toNat 8) (IntKind.bits .u32)=8:=dC
  rw[this,wrap_u32'];have:((2:Int) ^ 8)=256:=dC
  rw[this];omega
 rw[a,wrap_u32 _ oM];unfold NB;show XH .u32 ((BitVec.ofInt 32 ((P*256:Nat):Int)|||BitVec.ofInt 32 (d:Int)).toNat:Int)=_;have b:P*256|||d=P*256+d:=by
  have:=(Nat.shiftLeft_add_eq_or_of_lt (a:=P) (i:=8) (b:=d) oM).symm
  rwa [Nat.shiftLeft_eq]at this
 rw[BitVec.ofInt_natCast,BitVec.ofInt_natCast,BitVec.toNat_or,BitVec.toNat_ofNat,BitVec.toNat_ofNat,Nat.mod_eq_of_lt oM,Nat.mod_eq_of_lt oM,b,wrap_u32 _ oM]
def jm(P:Nat):XH .u8 (P:Int)=((UInt8.ofNat P).toNat:Int):=by
 rw[wrap_u8,ZK]
def Lm{k:IntKind}{u m:Nat}(P:m<=k.bits):kv k (u:Int) (m:Int)=((u/2 ^ m:Nat):Int):=by
 unfold kv;rw[Qx,X2 P];show Int.fdiv _ ((2:Int) ^ m)=_;rw[Int.fdiv_eq_ediv_of_nonneg _ (Int.pow_nonneg dC)];simp
variable{a c:Nat}{d:XU}{h:Program}{A g n:TypeId}{m r:XN}{b:World}
def LS{c tn j P:TypeId}(k:jx h c P 1 1)(n:h.underlying tn=some (.int .i64))(o:0<a)(p:a<=aS)(d:∀e f,aV fF P (·=b.heap.size) e (XL b.heap.size) 0 f []->a<=f->ai b e->m (.slice (XL b.heap.size) a f) e):
  aG h (Builtin.append_ #[c,tn] j #[.slice none 0 0,QH (a:Int)]) b m r:=by
 obtain⟨q,g,s,t,A,u,v⟩:=k.info;unfold aS at p;have w:=Lib.run_append_nil_zeros (P:=h) b c tn j P q g .i64 .i64 k.under n s t a o oM oM (by rw[u];omega);have x:=grownCap_ge b a 0 P;refine aG.mk w (d _ _ ?_ x ?_)
 ·have l:=heap_alloc_new b.drew (.cells (Builtin.zeroCells g.cells a++Builtin.zeroCells g.cells (grownCap b a 0 P-a)) P)
  refine⟨⟨[],λ_=>False,⟨⟨sM,.inr ⟨b.heap.size,grownCap b a 0 P,_,rfl,Qj _,l,Qj _,grownCap_le_maxLen b a 0 P (by unfold maxLen;omega),?_,sM⟩⟩⟩,rfl,λ_ d=>d.elim⟩,λy i=>by simpa[aI]using i.symm,λy i=>by rw[i];exact aB l⟩;rw[Array.size_append,size_zeroCells,size_zeroCells,v];show a*1+(grownCap b a 0 P-a)*1=grownCap b a 0 P*1;omega
 ·have z:ai b (b.drewN 1):=aj.drewN b 1
  exact z.then (aj.alloc _ _)
def RF(P:h.underlying g=some (.slice n))(e:m (QH (c:Int)) b):aG h (Builtin.cap_ #[g] A #[.slice d a c]) b m r:=by
 refine aG.mk (v:=QH (c:Int)) ?_ e;simp[Builtin.cap_,run_underlying P,goInt]
end Go.au
namespace Go.Proofs.YtblabbpipmodgaaGreatDoor
open Go.au
variable{a7 s:List UInt8}{I a c j p:Nat}{H:Nat×Nat}{d t:XU}{b:World}
def ug{bs:List UInt8}{D:XM}(f:Row fF 1 b D d a bs)(q:a<=4):
  ZH 299 #[.slice d a c] b (Ok λh P=>h= .int .u32 (fY bs:Int)/\b=P):=by
 have r:=f.len;refine zf ⟨λm g i P=>∃j:Nat,i=j/\j<=a/\m=a-j/\g=(fY (bs.take j):Int)/\b=P,⟨_,0,rfl,Qj _,rfl,rfl,rfl⟩,?_⟩;rintro m g i _ s ⟨j,rfl,t,rfl,rfl,rfl⟩;refine al.dec (λk=>?_) (λk=>?_)
 ·obtain⟨l,e,n,rfl,o,_,p⟩:=f.lq (i:=j) oM
  have u:=nj bs (j:=j) (m:=3) oM;refine⟨l,e,rfl,oM,oM,_,p,_,oM,j+1,an oM,oM,rfl,?_,rfl⟩;rw[Jb (by
            have:(256:Nat) ^ 3=16777216:=dC
            omega) n.toNat_lt,Co o]
 ·rw[Qz oM]
  exact Ok.mk ⟨rfl,rfl⟩
def Ec{m:Nat}(g:0<m)(d:m<=aS):
  ZH 315 #[.slice none 0 0,QH (m:Int)] b (Ok λh P=>∃a e,h= .slice (XL a) 0 e/\aV fF 5 (·=a) P (XL a) 0 e []/\ai b P/\b.heap.size<=a):=by
 have c:=d;unfold aS at c;refine lC ⟨λP=>P=b,al.dec (λf=>oM) (λ_=>rfl),?_⟩;rintro _ n rfl;refine RF rU.under ⟨_,rfl,?_⟩;have i:XH .i64 ((m:Int)-XH .i64 (((0:Nat):Int)-((0:Nat):Int)))=(m:Int):=by
  rw[wrap_i64 (x:=((0:Nat):Int)-((0:Nat):Int)) bb,wrap_i64 bb];omega
 rw[i];refine al.dec (λf=>?_) (λf=>oM);refine RF rU.under ⟨_,rfl,oM,oM,?_⟩;refine LS rU kR g d λo j k p l=>⟨_,_,_,rfl,oM,oM,Ok.mk ⟨_,j,rfl,k,l,Q4 _⟩⟩
def zJ{D:XM}(B:b.heap[a]? =some (.cells #[.slice d c p,.slice t j I] 197 H))(R:Row fF 1 b D d c s)(S:Row fF 1 b D t j a7)(C:∀P,D P->P<b.heap.size)(h0:0<c)(e:c+j<=aS):
  ZH 283 #[.slice (XL a) 2 2] b (Ok (vh fF 5 b (s++a7))):=by
 have l1:=R.len;have l2:=S.len;have E:=e;unfold aS at E;refine kh ⟨λg x h f=>b=f/\((g=2/\x=0/\h=0)\/(g=1/\x=(c:Int)/\h=1)\/(g=0/\x=((c+j:Nat):Int)/\h=2)),⟨2,rfl,.inl ⟨rfl,rfl,rfl⟩⟩,?_⟩;rintro g x h _ w1 ⟨rfl,F⟩;rcases F with⟨rfl,rfl,rfl⟩|⟨rfl,rfl,rfl⟩|⟨rfl,rfl,rfl⟩
 ·refine al.tt dC ⟨a,0,rfl,oM,oM,d,c,p,ae B rfl,?_⟩
  rw[wrap_i64 (x:=0+((c:Nat):Int)) bb];exact al.dec (λT=>oM) (λ_=>⟨1,oM,rfl,.inr (.inl ⟨rfl,oM,rfl⟩)⟩)
 ·refine al.tt dC ⟨a,0,rfl,oM,oM,t,j,I,ae B rfl,?_⟩
  rw[wrap_i64 (x:=((c:Nat):Int)+((j:Nat):Int)) bb];exact al.dec (λT=>oM) (λ_=>⟨0,oM,rfl,.inr (.inr ⟨rfl,oM,rfl⟩)⟩)
 refine al.ff dC (PC.ok (Ec (m:=c+j) oM e) ?_);rintro _ w2 ⟨U,cq,rfl,Z,k2,hq⟩;have a6:∀P,D P->P≠U:=λP e J=>by have:=C P e;omega
 refine⟨_,_,_,rfl,λg o k q h f=>ai b f/\∃l,(∀P,l P->b.heap.size<=P)/\((g=2/\h=0/\aV fF 5 l f o k q [])\/(g=1/\h=1/\aV fF 5 l f o k q s)\/(g=0/\h=2/\aV fF 5 l f o k q (s++a7))),
  ⟨2,k2,(·=U),λP J=>oM,.inl ⟨rfl,rfl,Z⟩⟩,?_⟩
 rintro g o k q h _ V ⟨r,l,y,F⟩;have W:=r.get B id;have ap:∀{z A:List UInt8} {K v X} {L Y:XN},aV fF 5 l V o k q z->Row fF 1 b D K v A->z.length+A.length<=140737488355328->
   (∀m u f n,aV fF 5 n f m (k+v) u (z++A)->ai b f->(∀P,n P->b.heap.size<=P)->L (.slice m (k+v) u) f)->
   aG XG (Builtin.append_ #[197,197] 197 #[.slice o k q,.slice K v X]) V L Y:=by
  intro z A K v X L Y i hr a5 M;refine yl i rU (hr.af r) (λP e=>⟨by have:=C P e;have:=r.size;omega,λJ=>?_⟩) ba (by unfold maxLen;omega) λm u N n w a3 _ a4=>?_
  ·have:=C P e;have:=y P (i.self P J);omega
  ·exact M m u N (λP=>aI m=some P) w.alone (r.new a3 λP e=>.inr (y P (i.self P e))) λP e=>(a4 P e).elim (y P) λT=>by have:=r.size;omega
 rcases F with⟨rfl,rfl,i⟩|⟨rfl,rfl,i⟩|⟨rfl,rfl,i⟩
 ·refine al.tt dC ⟨a,0,rfl,oM,oM,d,c,p,ae W rfl,?_⟩
  exact ap i R bc λm u N n w O Q=>⟨_,_,_,rfl,1,oM,O,n,Q,.inr (.inl ⟨rfl,rfl,w⟩)⟩
 ·refine al.tt dC ⟨a,0,rfl,oM,oM,t,j,I,ae W rfl,?_⟩
  exact ap i S oM λm u N n w O Q=>⟨_,_,_,rfl,0,oM,O,n,Q,.inr (.inr ⟨rfl,rfl,w⟩)⟩
 ·exact al.ff dC (Ok.mk ⟨_,_,_,l,rfl,i,r,y⟩)
end Go.Proofs.YtblabbpipmodgaaGreatDoor
namespace Go.au
open Go
def zK(P:List UInt8)(a:Nat)(b:(P.getD 1 0).toNat*65536+(P.getD 2 0).toNat*256+(P.getD 3 0).toNat=a):
  bq P=if P.length<4 then⟨0,[],0,4⟩else if P.getD 0 0=0 then⟨0,[],0,2⟩else if 65536<a then⟨0,[],0,5⟩else if P.length<a+9 then⟨0,[],0,4⟩else
   if P.take (a+9)=cu (P.getD 0 0).toNat ((P.drop 4).take a)then⟨(P.getD 0 0).toNat,(P.drop 4).take a,a+9,0⟩else⟨0,[],0,6⟩:=by
 unfold bq;rw[b]
variable{s:List UInt8}
def NY(P:(bq s).no=0):(bq s).kind=((s.getD 0 0).toNat:Int)/\(bq s).body=(s.drop 4).take ((bq s).n-9)/\4<=s.length:=by
 rw[zK s _ rfl]at P⊢;split at P
 ·cases P
 rename_i a;rw[Zq a];split at P
 ·cases P
 rename_i b;rw[Zq b];split at P
 ·cases P
 rename_i c;rw[Zq c];split at P
 ·cases P
 rename_i d;rw[Zq d];split at P
 ·rename_i e
  rw[Zx e];exact⟨rfl,sM,oM⟩
 ·cases P
end Go.au
namespace Go.Proofs.YtblabbpipmodgaaGreatDoor
section
open Go.au
def zM(P:List UInt8):List Value:=P.map λa=>Value.int .u8 (a.toNat:Int)
variable{e:Int}{s:List UInt8}{a c:Nat}{d:XU}{b:World}
def Cp{f:Nat×Nat}(P:List UInt8)(c:b.heap[a]? =some (.cells (zM P).toArray 5 f))(e:P.length<=1000):Row fF 1 b (·=a) (XL a) P.length P:=
 Row.lit (enc:=λd:UInt8=>Value.int .u8 (d.toNat:Int)) c P (by simp[zM]) (λ_ _=>trivial) ba
def Cq{D:XM}(A:oV b)(f:Row fF 1 b D d a s)(B:∀P,D P->P<b.heap.size):
  ZH 222 #[.agg #[QH e,.slice d a c]] b (Ok λC E=>∃v,C= .tuple #[v,QH (jO e s).2]/\vh fF 5 b (jO e s).1 v E):=by
 have F:=f.len;refine FV (PA.mk λi k s1 l=>⟨d,a,c,ae l rfl,_,ae l rfl,al.dec (λh=>?_) (λh1=>⟨_,ae l rfl,al.dec (λh=>?_) (λh2=>al.dec (λh=>?_) (λh3=>?_))⟩)⟩)
 ·rw[show jO e s=([],2) by unfold jO;rw[Zx oM]]
  exact Ok.mk ⟨_,rfl,none,0,0,λ_=>False,rfl,aV.nil i,k,λ_ h=>h.elim⟩
 ·rw[show jO e s=([],2) by unfold jO;rw[Zx oM]]
  exact Ok.mk ⟨_,rfl,none,0,0,λ_=>False,rfl,aV.nil i,k,λ_ h=>h.elim⟩
 ·rw[show jO e s=([],5) by unfold jO;rw[Zq oM,Zx oM]]
  exact Ok.mk ⟨_,rfl,none,0,0,λ_=>False,rfl,aV.nil i,k,λ_ h=>h.elim⟩
 rw[show jO e s=(cu e s,0) by unfold jO;rw[Zq oM,Zq oM]];refine⟨_,ae l rfl,PA.mk λH m s2 I=>⟨d,a,c,ae (m.get l id) rfl,PA.mk λo n s3 J=>?_⟩⟩;have K:kv .i64 ((a:Nat):Int) 16=((a/65536:Nat):Int):=Lm (k:=.i64) (u:=a) (m:=16) dC;have L:kv .i64 ((a:Nat):Int) 8=((a/256:Nat):Int):=Lm (k:=.i64) (u:=a) (m:=8) dC;have M:e=((e.toNat:Nat):Int):=oM
 have N:H.heap[i.heap.size]? =some (.cells (zM [UInt8.ofNat e.toNat,UInt8.ofNat (s.length/65536),UInt8.ofNat (s.length/256),UInt8.ofNat s.length]).toArray 5 (0,0)):=by
  rw[I,K,L,M,jm,jm,jm,jm,F];simp[zM]
 have O:Row fF 1 o (λP=>D P\/P=i.heap.size) (XL i.heap.size) 4 [UInt8.ofNat e.toNat,UInt8.ofNat (s.length/65536),UInt8.ofNat (s.length/256),UInt8.ofNat s.length]:=
  (Cp (f:=(0,0)) [UInt8.ofNat e.toNat,UInt8.ofNat (s.length/65536),UInt8.ofNat (s.length/256),UInt8.ofNat s.length] (n.get N id) sM).mono λP f=>.inr f
 have Q:Row fF 1 o (λP=>D P\/P=i.heap.size) d a s:=(f.af ((k.then m).then n)).mono λP f=>.inl f;refine PC.ok (zJ J O Q (λP f=>f.elim (λh=>by have:=B P h;omega) λh=>oM) oM ba) ?_;rintro _ p ⟨a4,n4,c4,F4,rfl,j,R,w⟩;have S:[UInt8.ofNat e.toNat,UInt8.ofNat (s.length/65536),UInt8.ofNat (s.length/256),UInt8.ofNat s.length]++s=jC e s:=rfl;rw[S]at j;have a8:=j.len dC;have q:(jC e s).length=4+s.length:=by simp[jC];omega
 have r:ai b p:=((k.then m).then n).then R;refine⟨_,_,_,rfl,PC.ok (Kr (A.af r) (j.row (bytes:=1) dC (by rw[q];unfold aS;omega))) ?_⟩;rintro _ t ⟨rfl,T⟩;have u:ai p t:=T.keep;refine⟨_,rfl,?_⟩;generalize U:(IG (jC e s)).toNat=g;have V:kv .u32 (g:Int) 24=((g/16777216:Nat):Int):=Lm (k:=.u32) (u:=g) (m:=24) dC;have W:kv .u32 (g:Int) 16=((g/65536:Nat):Int):=Lm (k:=.u32) (u:=g) (m:=16) dC;have X:kv .u32 (g:Int) 8=((g/256:Nat):Int):=Lm (k:=.u32) (u:=g) (m:=8) dC;refine PA.mk λY x s6 Z=>?_;have a1:Y.heap[t.heap.size]? =some (.cells (zM (MW g++[10])).toArray 5 (0,0)):=by rw[Z,V,W,X,jm,jm,jm,jm];rfl
 have a2:=(j.af u).af x;have a9:p.heap.size<=t.heap.size:=u.size;refine kj a2 rU (Cp (MW g++[10]) a1 (by simp[MW])) (λP y=>⟨oM,λe2=>by have:=j.aE P (j.self P e2);omega⟩) (by rw[q];unfold aS;simp[MW];omega) (by rw[q];unfold maxLen;simp[MW];omega) λz c7 w7 F7 a3 a5 _ a6=>?_;refine⟨_,_,_,rfl,Ok.mk ⟨_,rfl,z,_,c7,λP=>aI z=some P,rfl,?_,?_,?_⟩⟩
 ·have h7:=a3.alone
  have y:cu e s=jC e s++(MW g++[10]):=by unfold cu;rw[U,XQ]
  rw[y];exact h7
 ·exact((r.then u).then x).new a5 λP f=>.inr (by have:=w P (j.self P f);have:=k.size;have:=m.size;have:=n.size;omega)
 ·intro P f
  have b0:b.heap.size<=o.heap.size:=oM
  rcases a6 P f with h|h
  ·have:=w P h;omega
  ·have:=r.size;omega
def Gt{D:XM}(C:oV b)(g:Row fF 1 b D d a s)(q:a<=c):
  ZH 251 #[.slice d a c] b (Ok λE F=>E= .tuple #[QH (((bq s).n-9:Nat):Int),QH (bq s).no]/\bY b F):=by
 have W:=g.len;have H:=g.ef;unfold aS at H;generalize r:(s.getD 1 0).toNat*65536+(s.getD 2 0).toNat*256+(s.getD 3 0).toNat=P;have e:=zK s P r;refine zj (al.dec (λl=>?_) (λX=>?_))
 ·rw[e,Zx oM]
  exact Ok.mk ⟨rfl,bY.refl b⟩
 rw[Zq (show¬s.length<4 by omega)]at e;refine⟨oM,oM,oM,PC.ok (ug (bs:=(s.take 4).drop 1) (g.part (lo:=1) (hi:=4) (cap:=c) oM oM q) dC) ?_⟩;rintro _ Y ⟨rfl,rfl⟩;have I:fY ((s.take 4).drop 1)=P:=by
  rw[RG oM];show fY [s.getD 1 0,s.getD 2 0,s.getD 3 0]=P;simp only[fY,List.foldl];omega
 have Z:P<16777216:=by
  have h1:=(s.getD 1 0).toNat_lt;have h2:=(s.getD 2 0).toNat_lt;have h3:=(s.getD 3 0).toNat_lt;omega
 rw[I];obtain⟨j,f,t,rfl,J,_,h⟩:=g.lq (i:=0) oM;have i:s.getD 0 0=t:=by rw[QQ,J];rfl
 have K:XH .i64 (P:Int)=(P:Int):=wrap_i64 bb;have L:XH .i64 (4+(P:Int))=((4+P:Nat):Int):=by rw[wrap_i64 bb];omega
 have M:XH .i64 (((4+P:Nat):Int)+5)=((4+P+5:Nat):Int):=by rw[wrap_i64 bb];omega
 refine⟨_,rfl,j,f,rfl,oM,oM,_,h,?_⟩;rw[K,L,M];refine al.dU (λl=>?_) (λm=>al.dec (λl=>?_) (λa8=>al.dec (λl=>?_) (λa7=>?_)))
 ·rw[e,i,Zx (UInt8.toNat_inj.1 (by
                        have:t.toNat=0:=oM
                        rw[this];rfl))]
  exact Ok.mk ⟨rfl,bY.refl b⟩
 ·rw[e,i,Zq (by rintro rfl;exact m rfl),Zx oM]
  exact Ok.mk ⟨rfl,bY.refl b⟩
 ·rw[e,i,Zq (by rintro rfl;exact m rfl),Zq oM,Zx oM]
  exact Ok.mk ⟨rfl,bY.refl b⟩
 rw[i,Zq (by rintro rfl;exact m rfl),Zq (show¬65536<P by omega),Zq (show¬s.length<P+9 by omega)]at e;have k:=Ss (b:=s) (n:=P) oM r oM;rw[i]at k;refine⟨oM,oM,oM,oM,oM,λw8 u N v=>⟨oM,oM,?_⟩⟩;have w:ai b N:=(u.then v).keep;have x:=g.af w;refine PC.ok (Kr (C.af w) (x.take (m:=4+P) oM)) ?_;rintro _ O ⟨rfl,y⟩;have z:=x.af y.keep;have A:=z.part (lo:=4+P) (hi:=4+P+4) (cap:=c) oM oM q;rw[show 4+P+4-(4+P)=4 by omega]at A;refine⟨_,rfl,PC.ok (ug A dC) ?_⟩;rintro _ a9 ⟨rfl,rfl⟩;have Q:(s.take (4+P+4)).drop (4+P)=(s.drop (4+P)).take 4:=by rw[List.drop_take];congr 1;omega
 rw[Q];have n:bY b O:=(u.then v).then y;refine⟨_,rfl,al.dQ (λo=>?_) (λb0=>?_)⟩
 ·rw[e,Zq (λh=>o (by rw[(k.1 h).1]))]
  exact Ok.mk ⟨rfl,n⟩
 obtain⟨b7,o8,p,R,S,_,T⟩:=z.lq (i:=8+P) oM
 cases R
 have B:s.getD (8+P) 0=p:=by rw[QQ,S];rfl
 have U:cE (some ⟨j,f,none⟩) (4+P) c 1=some ⟨j,f+(4+P),none⟩:=by
  unfold cE;rw[Zq oM];simp[Addr.add_lit]
 refine⟨j,f+(4+P),U,oM,oM,_,by rw[show f+(4+P)+Int.toNat 4=f+(8+P) by show f+(4+P)+4=_;omega];exact T,al.dQ (λo=>?_) (λhe=>?_)⟩
 ·rw[e,Zq (λh=>o (by rw[<-B,(k.1 h).2];rfl))]
  exact Ok.mk ⟨rfl,n⟩
 ·have V:p=10:=UInt8.toNat_inj.1 (by show p.toNat=10;omega)
  rw[e,Zx (k.2 ⟨oM,B.trans V⟩)];exact Ok.mk ⟨sM,n⟩
def Cr{D:XM}(R:oV b)(e:Row fF 1 b D d a s)(t:a<=c)(u:∀P,D P->P<b.heap.size):
  ZH 182 #[.slice d a c] b (Ok λS v=>∃w x y z,S= .tuple #[.agg #[QH (bq s).kind,.slice w x y],QH ((bq s).n:Int),QH (bq s).no]/\
   aV fF 5 z v w x y (bq s).body/\ai b v/\∀P,z P->b.heap.size<=P):=by
 have hn:=e.len;have T:=e.ef;unfold aS at T;refine FR (PA.mk λA i s1 U=>PC.ok (Gt (R.af i) (e.af i) t) ?_);rintro _ B ⟨rfl,V⟩;have j:ai A B:=V.keep;have C:=j.get U id;refine⟨_,_,rfl,al.dQ (λk=>?_) (λl=>?_)⟩
 ·have m:(bq s).kind=0/\(bq s).body=[]/\(bq s).n=0:=by
   rw[zK s _ rfl]at k⊢
   repeat' split
   all_goals first|exact⟨rfl,rfl,rfl⟩|skip
   rename_i W X Y Z h5;rw[Zq W,Zq X,Zq Y,Zq Z,Zx h5]at k;exact Zz rfl k
  rw[m.1,m.2.1,m.2.2];refine storeAll [QH 0,.slice none 0 0] C rfl λg h s3 E=>⟨0,none,0,0,ae E rfl,ae E rfl,Ok.mk ⟨none,0,0,λ_=>False,rfl,aV.nil g,?_,λ_ n=>n.elim⟩⟩
  exact(i.then j).new h λP e=>.inr oM
 obtain⟨a0,h9,a1⟩:=uh l;generalize a2:(bq s).n=f at a0 h9 a1;obtain⟨a3,F,b1⟩:=NY l;rw[a2]at F;have H:(bq s).kind=((s.getD 0 0).toNat:Int)/\(bq s).body=(s.drop 4).take (f-9):=⟨a3,F⟩
 intro g a5;have h:ai B g:=a5.keep;have o:ai b g:=(i.then j).then h;have p:=e.af o;obtain⟨I,o6,J,rfl,hx,_,hc⟩:=p.lq (i:=0) oM;obtain⟨b2,b3,x',es,a6,_,a7,_⟩:=p.BR (i:=0) oM
 cases a6
 have a8:s.getD 0 0=J:=by rw[QQ,hx];rfl
 have K:XH .i64 (4+((f-9:Nat):Int))=((4+(f-9):Nat):Int):=by rw[wrap_i64 bb];omega
 have e9:XH .i64 (((4+(f-9):Nat):Int)+5)=(f:Int):=by rw[wrap_i64 bb];omega
 refine⟨λP=>b.heap.size<=P,I,o6,rfl,oM,oM,by have:=u I a7;omega,_,hc,?_⟩;refine⟨oM,oM,oM,?_⟩;have a4:=p.part (lo:=4) (hi:=4+(f-9)) (cap:=c) oM oM t;refine PC.ok (by rw[K];exact ki a4 (λP n=>by have:=u P n;have:=o.size;omega)) ?_;rintro _ w4 ⟨L,M,N,F4,rfl,a9,q,O⟩;have b4:A.heap.size<=g.heap.size:=(j.then h).size;have g4:=q.get (h.get C id) id;refine⟨_,_,_,rfl,q.keep,?_⟩;refine storeAll [QH (XH .i64 (J.toNat:Int)),.slice L M N] g4 rfl λw5 r s5 Q=>⟨r.mono λP _ b0=>oM,_,_,_,_,ae Q rfl,ae Q rfl,Ok.mk ⟨L,M,N,F4,?_,?_,?_,?_⟩⟩
 ·rw[Jc,H.1,a8,l,K,e9]
 ·rw[H.2,<-show(s.take (4+(f-9))).drop 4=(s.drop 4).take (f-9) by rw[List.drop_take];congr 1;omega]
  exact a9.keep r λP e b0=>by have:=O P e;omega
 ·exact(o.then q).new r λP e=>.inr oM
 ·intro P e;have:=O P e;omega
end
section
open Go.au
variable{a1 o:Array Value}{a8:FrameMode}{y:FuncId}{e:Int}{b0 q:List Int}{a4:List PanicEntry->XT}{s:List UInt8}{B:List ah}{I a c j p:Nat}{f:XM}{V X:Operand}{d t:XU}{h:Program}{b:World}{x:XT}{l:ah}{Q:gA}
def OM(l:eZ b a f Q):
  ZH 254 #[XP a,QH e] b (SN b a f Q (if Q.num.1=0 then(if Q.num.2.1<0\/e<Q.num.2.1 then 3 else 0)else Q.num.1) (λj m=>j= QH Q.num.2.1) Q.num.2.2):=by
 refine qP (PC.red (CL l) ?_ ?_)
 rotate_left
 ·intro d k g h i
  rw[Zq d];exact⟨.inr ⟨d,rfl,g⟩,h,i⟩
 rintro d _ k g rfl h i;rw[Zx d];have c:Q.num.2.1<0\/e<Q.num.2.1->SN b a f Q (if Q.num.2.1<0\/e<Q.num.2.1 then 3 else 0) (λj m=>j= QH Q.num.2.1) Q.num.2.2 (.panicked (RQ 3)) k:=λP=>by
  rw[Zx P];exact⟨.inr ⟨dC,rfl,_,g⟩,h,i⟩
 refine⟨_,rfl,al.dec (λn=>fJ (λP=>⟨rfl,?_⟩) (λP=>c (.inr ?_))) (λn=>fJ (λP=>by cases P) (λ_=>c (.inl oM)))⟩
 ·have P:=XV P
  rw[Zq oM];exact⟨.inl ⟨rfl,g,_,rfl,rfl⟩,h,i⟩
 ·have P:=Xy P
  omega
def Hf:(do eqGuard .eql 20 V (.const .nilIface) .nilIface .nilIface;binOp .eql 20 .nilIface .nilIface:Sem Value).run XG b= .ok (.bool true) b:=by
 cases V<;>rfl
def Ex:(do eqGuard .eql 20 V X (.iface 376 (QH e)) .nilIface;binOp .eql 20 (.iface 376 (QH e)) .nilIface:Sem Value).run XG b= .ok (.bool false) b:=by
 rfl
def Hg:(Instr.typeAssert (.iface 376 (QH e)) 20 376 true).run XG b= .ok (.tuple #[QH e,.bool true]) b:=by
 rfl
def Lv.ret{ret:XT}(P:a8= .returning)(a:ret b):Lv h ret a4 [] a8 b:=by
 subst P;unfold Lv;exact a
def Lv.one{w:World}(b:a8≠.run)(c:enters h y=true)(d:CallsD h y o a8 w λe P a=>Ot e (λ_=>Lv h x a4 [] (settle P) a) (λf=>Lv h x a4 [] (raised P f) a)):Lv h x a4 [{target:=.fn (.func y) o,args:= #[]}] a8 w:=
 ⟨b,y,o,rfl,c,by rw[show(#[]++o:Array Value)=o by simp];exact d⟩
def Az{i S:XM}(e:eZ b a i Q)(I:enters XG y=true){A:XT}{no:Int}(s:∀f,S f->f<b.heap.size)(J:Q.qw=0->∀d,ai b d->ZH y (o++ #[]++a1) d λc P=>aj S d P/\((no=0/\c= .returned (.tuple #[])/\A P)\/(no≠0/\(no=3\/no=4\/no=5)/\c= .panicked (RQ no)/\aj (·=a) d P/\∃t,eZ P a i ⟨Q.bytes,t,0⟩))):
  ZH 252 #[XP a,.func (.func y) o a1] b (Ok λK P=>K= .tuple #[]/\aj (λf=>S f\/f=a) b P/\
   ((Q.qw≠0/\ai b P)\/(Q.qw=0/\no=0/\aj S b P/\A P)\/(Q.qw=0/\no≠0/\aj (·=a) b P/\eZ P a i ⟨Q.bytes,Q.pos,no⟩))):=by
 obtain⟨a2,a3,L,G,u,h2,h3⟩:=e.body;have hp:=aB u;refine ob (PA.mk λd j s1 k=>?_);have v:=j.get u id;refine⟨_,ae k rfl,a,0,rfl,_,ae v rfl,al.dQ (λM=>Ok.mk ⟨rfl,j.keep,.inl ⟨M,j⟩⟩) (λl=>?_)⟩;refine⟨_,ae k rfl,a,0,rfl,_,ae v rfl,PA.mk λw2 N s2 O=>PS.mk O sM λm R s3 T=>⟨y,o,a1,rfl,I,?_⟩⟩;have w:aj (·=d.heap.size) d m:=N.keep.then R;have n:ai b m:=j.new w λf hb=>.inr oM;refine(J l m n).mono ?_;rintro c g ⟨p,U⟩;have x:g.heap[b.heap.size]? =some (.cells #[XP a] 295 (0,0)):=p.get (w.get k (by intro c;omega)) (λq=>by have:=s _ q;omega);have V:g.heap[d.heap.size]? =some (.cells #[QH (Q.pos:Int)] 3 (0,0)):=p.get T (λq=>by have:=s _ q;omega);have z:aj S b g:=n.keep.then p;rcases U with⟨r,rfl,W⟩|⟨r,X,rfl,Y,t,B⟩
 ·refine⟨rfl,Lv.one sM kR ?_⟩
  refine CallsD.mono (fU (rv:=.nilIface) (u:=.returning) rfl (R:=λc h P=>c= .returned (.tuple #[])/\h= .returning/\P=g) ?_) ?_
  ·exact aG.mk Hf ⟨_,rfl,al.tt rfl ⟨rfl,rfl,rfl⟩⟩
  ·rintro c h P ⟨rfl,rfl,rfl⟩
   refine Lv.ret rfl ?_;exact Ok.mk ⟨rfl,z.mono λ_ _ e=>.inl e,.inr (.inl ⟨l,r,z,W⟩)⟩
 ·refine Lv.one sM kR ?_
  obtain⟨a',n',C,G',Z,e2,e3⟩:=B.body;refine CallsD.mono (fU (rv:=.iface 376 (QH no)) (u:=.panicking (RQ no)) rfl (R:=λc h P=>c= .returned (.tuple #[])/\settle h= .returning/\eZ P a i ⟨Q.bytes,Q.pos,no⟩/\aj (·=a) b P) ?_) ?_
  ·refine aG.mk (v:=.bool false) (w':=g) ?_ ⟨_,rfl,al.ff rfl (aG.mk (v:=.tuple #[QH no,.bool true]) (w':=g) ?_ ⟨_,_,rfl,al.tt rfl ?_⟩)⟩
   ·exact Ex
   ·exact Hg
   ·refine⟨_,ae x rfl,_,ae x rfl,_,ae V rfl,a,0,rfl,PS.mk Z sM λw5 E s5 g5=>⟨a,0,rfl,PS.mk g5 sM λw6 F s6 g6=>⟨rfl,rfl,?_,?_⟩⟩⟩
    ·exact B.fB (r':=⟨Q.bytes,Q.pos,no⟩) e2 e3 (E.then F) g6 rfl ⟨e.fit.pos,.inr X⟩
    ·exact(n.keep.then Y).then (E.then F)
  ·rintro c h P ⟨rfl,fQ,a0,H⟩
   refine Lv.ret fQ ?_;exact Ok.mk ⟨rfl,H.mono λ_ _ e=>.inr e,.inr (.inr ⟨l,r,H,a0⟩)⟩
def DW(P:eZ b a f Q):
  ZH 185 #[XP a] b (Ok λq h=>q= QH (eQ Q).1/\eZ h a f (eQ Q).2/\aj (·=a) b h):=by
 have O:a<b.heap.size:=P.aE a P.self;refine tL (PA.mk λl F R w=>PA.mk λH r S s=>⟨_,ae (r.get w id) rfl,?_⟩);have x:ai b H:=F.then r;have t:=P.af x;have I:=r.get w id;refine PC.ok (Az (S:=λg=>g=a\/g=l.heap.size) (no:=Q.num.1) (A:=λh=>eZ h a f ⟨Q.bytes,Q.pos+Q.num.2.2,Q.qw⟩/\h.heap[l.heap.size]? =some (.cells #[QH Q.num.2.1] 3 (0,0))) t kR ?_ ?_) ?_
 ·rintro g (rfl|rfl)<;>omega
 ·intro J m p
  refine qQ ⟨_,ae (p.get I id) rfl,PC.red (CL (t.af p)) ?_ ?_⟩
  ·rintro i _ y c rfl j z
   have u:=j.get (p.get s id) oM;refine⟨_,rfl,PS.mk u sM λT A U K=>⟨(j.mono λ_ _ P=>.inl P).then (A.mono λ_ _ P=>.inr P),.inl ⟨i,rfl,c.keep A λg n e=>?_,K⟩⟩⟩;have:=P.aE g n;omega
  ·rintro i y c j z
   rw[J]at c;have:=jv (Q.bytes.drop Q.pos);exact⟨j.mono λ_ _ P=>.inl P,.inr ⟨i,by have:=this.2.2.2.1;unfold gA.num at i⊢;omega,rfl,j,c⟩⟩
 ·rintro _ m ⟨rfl,p,L⟩
  have M:aj (·=a) b m:=x.keep.new p λg n=>by
   rcases n with(rfl|rfl)|rfl
   ·exact .inl rfl
   ·exact .inr oM
   ·exact .inl rfl
  have d:∀v:Int,m.heap[l.heap.size]? =some (.cells #[QH v] 3 (0,0))->eZ m a f (eQ Q).2->v=(eQ Q).1->
    (∃B:Int,m.cell? ⟨l.heap.size,0,none⟩=some (QH B)/\PS m ⟨l.heap.size,0,none⟩ (QH B) λC=>∃E:Int,C.cell? ⟨l.heap.size,0,none⟩=some (QH E)/\
     Ok (λq h=>q= QH (eQ Q).1/\eZ h a f (eQ Q).2/\aj (·=a) b h) (.returned (QH E)) C):=by
   rintro v k c rfl;refine⟨_,ae k rfl,PS.mk k sM λy j z u=>⟨_,ae u rfl,Ok.mk ⟨rfl,c.keep j λg n e=>?_,M.new j λg n=>.inr oM⟩⟩⟩;have:=P.aE g n;omega
  refine⟨rfl,?_⟩;rcases L with⟨o,k⟩|⟨o,i,_,c,k⟩|⟨o,i,N,c⟩
  ·have e:eQ Q=(0,Q):=by unfold eQ;rw[Zx o]
   exact d 0 (k.get s id) (by rw[e];exact t.af k) (by rw[e])
  ·have e:eQ Q=(Q.num.2.1,⟨Q.bytes,Q.pos+Q.num.2.2,0⟩):=by unfold eQ;rw[Zq (by simp[o]),Zx i]
   exact d _ k (by rw[e];rw[o]at c;exact c) (by rw[e])
  ·have e:eQ Q=(0,⟨Q.bytes,Q.pos,Q.num.1⟩):=by unfold eQ;rw[Zq (by simp[o]),Zq i]
   exact d 0 (N.get s oM) (by rw[e];exact c) (by rw[e])
def Gs{m:Int}(c:eZ b a f Q):
  ZH 184 #[XP a,QH m] b (Ok λv j=>v= QH (bB m Q).1/\eZ j a f (bB m Q).2/\aj (·=a) b j):=by
 have Y:a<b.heap.size:=c.aE a c.self;refine qK (PA.mk λZ M s1 C=>PA.mk λn w sm N=>PA.mk λO u s2 x=>⟨_,ae (u.get (w.get C id) id) rfl,?_⟩);have E:ai b O:=(M.then w).then u;have y:=c.af E;have R:=u.get (w.get C id) id;have S:=u.get N id;generalize h:(if Q.num.1=0 then(if Q.num.2.1<0\/m<Q.num.2.1 then 3 else 0)else Q.num.1:Int)=no;refine PC.ok (Az (S:=λi=>i=a\/i=n.heap.size) (no:=no) (A:=λj=>eZ j a f ⟨Q.bytes,Q.pos+Q.num.2.2,Q.qw⟩/\j.heap[n.heap.size]? =some (.cells #[QH Q.num.2.1] 3 (0,0))) y kR ?_ ?_) ?_
 ·rintro i (rfl|rfl)<;>omega
 ·intro T o p
  refine ow ⟨_,ae (p.get R id) rfl,_,ae (p.get S id) rfl,PC.red (OM (y.af p)) ?_ ?_⟩
  ·rintro d _ F e rfl k H
   rw[h]at d;have z:=k.get (p.get x id) oM;refine⟨_,rfl,PS.mk z sM λw5 I s5 U=>⟨(k.mono λ_ _ c=>.inl c).then (I.mono λ_ _ c=>.inr c),.inl ⟨d,rfl,e.keep I λi q P=>?_,U⟩⟩⟩;have:=c.aE i q;omega
  ·rintro d F e k H
   rw[h]at d⊢;rw[T]at e;have A:=(jv (Q.bytes.drop Q.pos)).2.2.2.1;refine⟨k.mono λ_ _ c=>.inl c,.inr ⟨d,?_,rfl,k,e⟩⟩
   change Q.num.1=0\/Q.num.1=4\/Q.num.1=5 at A
   rw[<-h]at d⊢;split
   ·rename_i P
    rw[Zx P]at d;split
    ·exact .inl rfl
    ·rename_i s;rw[Zq s]at d;exact Zz rfl d
   ·omega
 ·rintro _ o ⟨rfl,p,V⟩
  have W:aj (·=a) b o:=E.keep.new p λi q=>by
   rcases q with(rfl|rfl)|rfl
   ·exact .inl rfl
   ·exact .inr oM
   ·exact .inl rfl
  have g:∀B:Int,o.heap[n.heap.size]? =some (.cells #[QH B] 3 (0,0))->eZ o a f (bB m Q).2->B=(bB m Q).1->
    (∃J:Int,o.cell? ⟨n.heap.size,0,none⟩=some (QH J)/\PS o ⟨n.heap.size,0,none⟩ (QH J) λK=>∃L:Int,K.cell? ⟨n.heap.size,0,none⟩=some (QH L)/\
     Ok (λv j=>v= QH (bB m Q).1/\eZ j a f (bB m Q).2/\aj (·=a) b j) (.returned (QH L)) K):=by
   rintro B l e rfl;refine⟨_,ae l rfl,PS.mk l sM λF k H z=>⟨_,ae z rfl,Ok.mk ⟨rfl,e.keep k λi q P=>?_,W.new k λi q=>.inr oM⟩⟩⟩;have:=c.aE i q;omega
  refine⟨rfl,?_⟩;rcases V with⟨r,l⟩|⟨r,d,_,e,l⟩|⟨r,d,X,e⟩
  ·have P:bB m Q=(0,Q):=by unfold bB;rw[Zx r]
   exact g 0 (l.get x id) (by rw[P];exact y.af l) (by rw[P])
  ·have P:bB m Q=(Q.num.2.1,⟨Q.bytes,Q.pos+Q.num.2.2,0⟩):=by
    have A:=(jv (Q.bytes.drop Q.pos)).2.2.2.1
    change Q.num.1=0\/Q.num.1=4\/Q.num.1=5 at A
    unfold bB;rw[Zq (by simp[r])];split at h
    ·rename_i t
     rw[Zx t];split at h
     ·omega
     ·rename_i s;rw[Zq s]
    ·omega
   exact g _ l (by rw[P];rw[r]at e;exact e) (by rw[P])
  ·have P:bB m Q=(0,⟨Q.bytes,Q.pos,no⟩):=by
    unfold bB;rw[Zq (by simp[r])];split at h
    ·rename_i t
     rw[Zx t];split at h
     ·rename_i s;rw[Zx s,h]
     ·omega
    ·rename_i t;rw[Zq t,h]
   exact g 0 (X.get x oM) (by rw[P];exact e) (by rw[P])
def Ku(g:eZ b a f Q):
  ZH 186 #[XP a] b (Ok λh i=>h= QH (gB Q)/\bY b i):=by
 obtain⟨n,o,j,G,c,k,p⟩:=g.body;have q:=k.len dC;have e:Q.qw≠0\/¬Q.pos<Q.bytes.length->gB Q=Q.qw:=λr=>by unfold gB;rw[Zq oM]
 refine ss ⟨a,0,rfl,_,ae c rfl,al.dU (λd=>⟨a,0,rfl,_,ae c rfl,a,0,rfl,_,_,_,ae c rfl,λl P=>al.dec (λm=>?_) λm=>?_⟩) (λd l P=>?_)⟩
 ·exact Ok.mk ⟨by unfold gB;rw[Zx ⟨d,oM⟩],P⟩
 ·exact⟨a,0,rfl,_,ae ((P.keep (S:=λ_=>False)).get c id) rfl,Ok.mk ⟨by rw[e (.inr oM)],P⟩⟩
 ·exact⟨a,0,rfl,_,ae ((P.keep (S:=λ_=>False)).get c id) rfl,Ok.mk ⟨by rw[e (.inl d)],P⟩⟩
def q_:jx XG 27 3 1 8:=⟨kR,kR,dC⟩
def aF(P:ah)(a:XU)(b c:Nat):List Value:=
 [QH P.origin,QH P.seq,QH P.aA,.slice a b c,QH P.bk,QH P.agg,QH P.field,QH P.op,QH P.arg,QH P.key]
def iC:jK ah where
 k:=10
 rep:=λi D d cs=>∃P a b,cs=aF d P a b/\Row aM 8 i D P a d.aJ/\d.Ok
 keep:=λ⟨P,a,b,c,e,f⟩ j g=>⟨P,a,b,c,e.keep j g,f⟩
 mono:=λ⟨P,a,b,c,e,f⟩ g=>⟨P,a,b,c,e.mono g,f⟩
 len:=λ⟨P,a,b,c,_,_⟩=>by rw[c];rfl
 one:=λ⟨P,a,b,c,_,_⟩ k h=>by
  rw[c]at h;simp only[aF,Q2,List.not_mem_nil,or_false]at h;rcases h with rfl|rfl|rfl|rfl|rfl|rfl|rfl|rfl|rfl|rfl<;>rfl
def py:jK ah where
 k:=10
 rep:=λm D f cs=>∃P a b c,cs=aF f P a b/\aV aM 3 c m P a b f.aJ/\(∀d,c d->D d)/\f.Ok/\f.aJ.length*8<=aS
 keep:=λ⟨P,a,b,c,e,h,g,i⟩ n j=>⟨P,a,b,c,e,h.keep n (λd k=>j d (g d k)),g,i⟩
 mono:=λ⟨P,a,b,c,e,h,g,i⟩ j=>⟨P,a,b,c,e,h,λd k=>j d (g d k),i⟩
 len:=λ⟨P,a,b,c,e,_⟩=>by rw[e];rfl
 one:=λ⟨P,a,b,c,e,_⟩ o l=>by
  rw[e]at l;simp only[aF,Q2,List.not_mem_nil,or_false]at l;rcases l with rfl|rfl|rfl|rfl|rfl|rfl|rfl|rfl|rfl|rfl<;>rfl
def py.read{D:XM}{cs:List Value}(P:py.rep b D l cs):iC.rep b D l cs:=by
 obtain⟨a,c,d,j,e,f,g,h,i⟩:=P;exact⟨a,c,d,e,(f.row dC i).mono g,h⟩
def py.row{D:XM}(P:Row py 96 b D d a B):Row iC 96 b D d a B:=
 ⟨P.len,P.ef,λe f g=>by
  obtain⟨h,c,i,j,k,l,m,n⟩:=P.el e f g;exact⟨h,c,i,j,k,l,m,py.read n⟩⟩
def E_:jx XG 50 55 10 96:=⟨kR,kR,dC⟩
def DV{n D:XM}(C:b.heap[a]? =some (.cells #[.slice d c j] 197 (0,0)))(k:aV fF 5 n b d c j s)(v:Row aM 8 b D t p q)(T:¬n a)(U:¬D a)(V:s.length+9*q.length+9<=aS):
  ZH 282 #[.slice t p I,XP a] b (Ok λW l=>W= .tuple #[]/\∃f g h m,l.heap[a]? =some (.cells #[.slice f g h] 197 (0,0))/\
   aV fF 5 m l f g h (s++bg q)/\¬m a/\aj (·=a) b l/\∀P,m P->n P\/b.heap.size<=P):=by
 have X:=v.len;have a7:=aB C;have Y:=v.ef;unfold aS at Y;refine Bv ⟨λE i l=>∃e:Nat,i=e/\e<=p/\E=p-e/\∃f g h m,l.heap[a]? =some (.cells #[.slice f g h] 197 (0,0))/\
   aV fF 5 m l f g h (s++bg (q.take e))/\¬m a/\aj (·=a) b l/\∀P,m P->n P\/b.heap.size<=P,
  ⟨_,0,rfl,Qj _,rfl,d,c,j,n,C,by simpa[bg]using k,T,aj.refl _,λP w=>.inl w⟩,?_⟩
 rintro E i _ w1 ⟨e,rfl,hj,rfl,F,H,J,Z,x,o,a0,r,a1⟩;refine al.dec (λh1=>?_) (λh1=>?_)
 ·obtain⟨P,y,z,rfl,A,B,hc⟩:=(v.keep r (λP k u=>U (u▸k))).lq (i:=e) oM
  refine⟨P,y,rfl,oM,oM,z,hc,F,H,J,ae x rfl,?_⟩;have a8:(bg (q.take e)).length<=9*e:=by
   have:=fw (l:=q.take e) (λa9 hy=>by
    obtain⟨K,L⟩:=List.getElem?_of_mem (List.mem_of_mem_take hy);have a2:K<p:=by rw[X];exact(Qv.1 L).1
    obtain⟨_,_,b0,_,M,a3,_⟩:=v.lq (i:=K) a2;rw[L]at M;cases M;exact a3)
   simp only[Qy]at this;omega
  have a4:=o.len dC;rw[QX]at a4;unfold aS at V;refine PC.ok (zG B (o.row (bytes:=1) dC (by rw[QX];unfold aS;omega)) ba o.aE) ?_;rintro _ w2 ⟨a5,n2,c2,N,rfl,a6,O,Q⟩;have R:¬N a:=λw=>by have:=Q a w;have:=r.size;omega
  refine⟨_,_,_,rfl,PS.mk (O.get x id) sM λw3 S s3 g3=>⟨_,oM,e+1,an oM,oM,rfl,a5,n2,c2,N,g3,?_,R,(r.af O).then S,λP k=>.inr (Xx r.size (Q P k))⟩⟩;rw[Qw,A];have u:s++bg (List.take e q++(some z).toList)=s++bg (List.take e q)++dR z:=by rw[ig];simp[bg]
  rw[u];exact a6.keep S λP k u=>R (u▸k)
 ·rw[Qz oM]at o
  exact Ok.mk ⟨rfl,F,H,J,Z,x,o,a0,r,a1⟩
def zH{f:Nat×Nat}(P:List Int)(c:b.heap[a]? =some (.cells (P.map (Value.int .i64)).toArray 3 f))(d:∀e∈P,aN e)(g:P.length<=1000):Row aM 8 b (·=a) (XL a) P.length P:=
 Row.lit c P sM d ba
def LQ{D:XM}(w:Row aM 8 b D d a l.aJ)(P:l.Ok)(F:∀e,D e->e<b.heap.size):
  ZH 221 #[.agg (aF l d a c).toArray] b (Ok λH I=>∃x,H= .tuple #[x,QH (iJ l).2]/\vh fF 5 b (iJ l).1 x I):=by
 have J:=w.len;refine FU (PA.mk λj n s1 y=>⟨d,a,c,ae y rfl,al.dec (λh=>?_) (λh=>?_)⟩)
 ·have q:iJ l=([],3):=by unfold iJ;rw[Zx oM]
  rw[q];exact Ok.mk ⟨_,rfl,none,0,0,λ_=>False,rfl,aV.nil j,n,λ_ h=>h.elim⟩
 have a8:l.aJ.length<=64:=oM
 have q:iJ l=(bg (fx l),0):=by unfold iJ;rw[Zq oM]
 rw[q];have z:∀e,D e->e<j.heap.size:=λe g=>Qk (F e g) n.size;refine PA.mk λk r s2 K=>?_;have m:=r.get y id;refine⟨_,ae m rfl,_,ae m rfl,_,ae m rfl,_,_,_,ae m rfl,PA.mk λA B s3 L=>⟨_,_,_,rfl,kR,?_⟩⟩;have M:Row aM 8 A (·=k.heap.size) (XL k.heap.size) 4 [l.origin,l.seq,l.aA,(l.aJ.length:Int)]:=
  zH (f:=(0,0)) [l.origin,l.seq,l.aA,(l.aJ.length:Int)] (by rw[L,<-J];rfl) (by intro s f;simp at f;rcases f with rfl|rfl|rfl|rfl;exact P.origin;exact P.seq;exact P.aA;unfold aN;omega) sM
 refine PC.ok (DV (B.get K id) (aV.nil A) M id (by show¬j.heap.size=k.heap.size;omega) (by unfold aS;simp)) ?_;rintro _ C ⟨rfl,a4,n4,c4,F4,N,O,Q,R,S⟩;have o:aj (·=j.heap.size) k C:=B.keep.then R;have E:=o.get m oM;have T:Row aM 8 C D d a l.aJ:=((w.af (n.then r)).keep o λe g l=>by have:=z e g;omega)
 refine⟨rfl,_,_,_,ae E rfl,_,_,_,rfl,kR,PC.ok (DV N O T Q (λh=>by have:=z _ h;omega) ?_) ?_⟩
 ·have t:=fw (l:=[l.origin,l.seq,l.aA,(l.aJ.length:Int)]) (by intro s f;simp at f;rcases f with rfl|rfl|rfl|rfl;exact P.origin;exact P.seq;exact P.aA;unfold aN;omega)
  simp only[List.nil_append,Xq,ZQ]at t⊢;unfold aS;omega
 rintro _ u ⟨rfl,a5,n5,c5,F5,U,V,W,v,X⟩;have i:=v.get E oM;refine⟨rfl,_,ae i rfl,_,ae i rfl,_,ae i rfl,_,ae i rfl,_,ae i rfl,_,ae i rfl,PA.mk λY p s6 Z=>⟨_,_,_,rfl,kR,?_⟩⟩;have r6:Row aM 8 Y (·=u.heap.size) (XL u.heap.size) 6 [l.bk,l.agg,l.field,l.op,l.arg,l.key]:=
  zH (f:=(0,0)) [l.bk,l.agg,l.field,l.op,l.arg,l.key] Z (by intro s f;simp at f;rcases f with rfl|rfl|rfl|rfl|rfl|rfl;exact P.bk;exact P.agg;exact P.field;exact P.op;exact P.arg;exact P.key) sM
 have a6:=o.size;have a9:=v.size;refine PC.ok (DV (p.get U id) (V.af p) r6 W (by show¬j.heap.size=u.heap.size;omega) ?_) ?_
 ·have t:=fw (l:=[l.origin,l.seq,l.aA,(l.aJ.length:Int)]) (by intro s f;simp at f;rcases f with rfl|rfl|rfl|rfl;exact P.origin;exact P.seq;exact P.aA;unfold aN;omega)
  have h2:=fw P.aJ;simp only[List.nil_append,Xq,ZQ,QX]at t h2⊢;unfold aS;omega
 rintro _ w7 ⟨rfl,a7,n7,c7,F7,g7,a2,b0,k7,a3⟩;refine⟨rfl,_,_,_,ae g7 rfl,Ok.mk ⟨_,rfl,a7,n7,c7,F7,rfl,?_,?_,?_⟩⟩
 ·have:fx l=[l.origin,l.seq,l.aA,(l.aJ.length:Int)]++l.aJ++[l.bk,l.agg,l.field,l.op,l.arg,l.key]:=rfl
  rw[this,ig,ig];exact a2
 ·have ka:ai b k:=n.then r
  exact(ka.new ((o.then v).then (p.keep.then k7)) λe g=>.inr oM)
 ·intro e g
  rcases a3 e g with h|h
  ·rcases X e h with h|h
   ·rcases S e h with h|h
    ·exact h.elim
    ·omega
   ·omega
  ·have:=p.size;omega
def pA(a:List Int)(b:XU)(c d:Nat)(P:List Int):List Value:=
 [QH (a.getD 0 0),QH (a.getD 1 0),QH (a.getD 2 0),.slice b c d,QH (P.getD 0 0),QH (P.getD 1 0),QH (P.getD 2 0),QH (P.getD 3 0),QH (P.getD 4 0),QH (P.getD 5 0)]
def IU(P:q.length=j)(b:j<3):(pA q d a c b0).toArray.setIfInBounds j (QH e)=(pA (q++[e]) d a c b0).toArray:=by
 match q,P with
 |[],P=>subst P;rfl
 |[_],P=>subst P;rfl
 |[_,_],P=>subst P;rfl
 |_::_::_::_,P=>simp at P;omega
def IV(P:b0.length=j)(b:j<6):(pA q d a c b0).toArray.setIfInBounds (4+j) (QH e)=(pA q d a c (b0++[e])).toArray:=by
 match b0,P with
 |[],P=>subst P;rfl
 |[_],P=>subst P;rfl
 |[_,_],P=>subst P;rfl
 |[_,_,_],P=>subst P;rfl
 |[_,_,_,_],P=>subst P;rfl
 |[_,_,_,_,_],P=>subst P;rfl
 |_::_::_::_::_::_::_,P=>simp at P;omega
def kY(P:Nat)(a:gA):aU (P+1) a=((aU P a).1++[(eQ (aU P a).2).1],(eQ (aU P a).2).2):=rfl
def LR{D:XM}(f:Row fF 1 b D d a s)(hD:∀P,D P->P<b.heap.size):
  ZH 257 #[.slice d a c] b (Ok λa8 k=>∃a' n' c' w,a8= .tuple #[.agg (aF (ij s).1 a' n' c').toArray,QH (ij s).2]/\aV aM 3 w k a' n' c' (ij s).1.aJ/\ai b k/\∀P,w P->b.heap.size<=P):=by
 refine FX (PA.mk λw1 k1 s1 g1=>PC.ok (Cn (f.af k1) (λP h=>by have:=hD P h;omega)) ?_);rintro _ i ⟨j,a0,rfl,T,k2,hP⟩;refine⟨_,rfl,PA.mk λw3 U s3 g3=>PA.mk λx y s4 g4=>?_⟩;have c2:=T.self;have h4:w1.heap.size<=j/\j<i.heap.size:=⟨hP j c2,T.aE j c2⟩
 have V:=T.aE;have h2:=k2.size;have d8:=y.get g3 id;have d9:=y.get (U.get (k2.get g1 id) id) id;have e0:=(T.af U).af y;have b1:ai b x:=((k1.then k2).then U).then y;refine⟨λm B k=>∃e:Nat,B=e/\e<=3/\m=3-e/\k.heap[i.heap.size]? =some (.cells (pA (aU e ⟨s,0,0⟩).1 none 0 0 []).toArray 55 (0,0))/\eZ k j a0 (aU e ⟨s,0,0⟩).2/\aj (λP=>P=i.heap.size\/P=j) x k,
  ⟨_,0,rfl,oM,rfl,d8,e0,aj.refl _⟩,?_⟩
 rintro m B _ w5 ⟨e,rfl,hj,rfl,c3,c4,k5⟩;have c5:(gA.mk s 0 0).Fit:=⟨Qj _,.inl rfl⟩
 refine al.dec (λN=>?_) (λN=>?_)
 ·have c6:e<3:=oM
  have g5:=k5.get g4 oM;have a1:w5.cell? ⟨w3.heap.size,0+Int.toNat (e:Int),none⟩=some (.pointer (some ⟨i.heap.size,e,none⟩)):=by
   rw[Qx,Xz]
   match e,c6 with
   |0,_=>exact ae g5 rfl
   |1,_=>exact ae g5 rfl
   |2,_=>exact ae g5 rfl
  refine⟨_,_,rfl,oM,oM,_,a1,PC.ok (DW c4) ?_⟩;rintro _ w6 ⟨rfl,O,Q⟩;have W:=Q.get c3 oM;refine⟨_,rfl,_,_,rfl,PS.mk W (by simp[pA];omega) λX C s7 g7=>⟨_,oM,e+1,an oM,oM,rfl,?_,?_,?_⟩⟩
  ·rw[g7,IU (c5.ints e).2.2.1 c6];rfl
  ·rw[kY]
   exact O.keep C λP f r=>by have:=V P f;omega
  ·exact k5.then ((Q.mono λ_ _ h=>.inr h).then (C.mono λ_ _ h=>.inl h))
 obtain rfl:e=3:=oM
 obtain⟨c7,e1,h5,_⟩:=c5.ints 3;refine PC.ok (Gs c4) ?_;rintro _ w6 ⟨rfl,O,Q⟩;have W:=Q.get c3 oM;have e3:aj (λP=>P=i.heap.size\/P=j) x w6:=k5.then (Q.mono λ_ _ h=>.inr h);generalize hL:(aU 3 ⟨s,0,0⟩).1=H at W e1;generalize hR:(aU 3 ⟨s,0,0⟩).2=a5 at O c7;obtain⟨Y,e4,c8,_⟩:=c7.count (m:=64) oM;generalize hC:(bB 64 a5).1=I at e4 c8;generalize e5:(bB 64 a5).2=E at O Y;refine⟨_,rfl,λm B k=>∃e:Nat,B=e/\e<=I.toNat/\m=I.toNat-e/\∃t o u w,k.heap[i.heap.size]? =some (.cells (pA H t o u []).toArray 55 (0,0))/\eZ k j a0 (aU e E).2/\
   aV aM 3 w k t o u (aU e E).1/\(∀P,w P->x.heap.size<=P)/\aj (λP=>P=i.heap.size\/P=j) x k,
  ⟨_,0,rfl,oM,rfl,none,0,0,λ_=>False,W,O,aV.nil w6,λ_ h=>h.elim,e3⟩,?_⟩
 rintro m B _ X ⟨e,rfl,hj,rfl,t,o,u,w,b8,b9,c0,z,C⟩;have h6:=C.size;refine al.dec (λN=>?_) (λN=>?_)
 ·intro J c9
  have p:ai X J:=c9.keep;have s8:J.heap.size=X.heap.size:=by rw[c9.heap]
  refine⟨λP=>P≠i.heap.size,sM,t,o,u,ae (p.get b8 id) rfl,PC.ok (DW (b9.af p)) ?_⟩;rintro _ K ⟨rfl,Z,v⟩;have b2:=(Y.ints e).2.2.1;refine⟨_,rfl,v.mono (λP _ h=>oM),?_⟩;have L:aV aM 3 w K t o u (aU e E).1:=(c0.af p).keep v λP f r=>by have:=z P f;have:=y.size;omega
  refine PA.mk λA n h7 e6=>⟨n.keep,?_⟩
  have a2:=L.af n;have b0:=v.get (p.get b8 id) oM;have l:=n.get b0 id;have e7:=((Y.ints e).1.int).2.1;have d0:Row aM 8 A (·=K.heap.size) (XL K.heap.size) 1 [(eQ (aU e E).2).1]:=zH (f:=(0,0)) [(eQ (aU e E).2).1] e6 (by simpa using e7) sM;refine kj a2 q_ d0 (λP r=>⟨oM,?_⟩) (by rw[b2];unfold aS;simp;omega) (by rw[b2];unfold maxLen;simp;omega) λd1 e8 R h8 d2 a3 h3 b3=>?_
  ·intro e2
   have:=L.aE P (L.self P e2);omega
  refine⟨_,_,_,rfl,PS.mk (a3.get l ?_) (by simp[pA]) λh9 c1 i0 e9=>⟨_,oM,e+1,an oM,oM,rfl,d1,o+1,e8,λP=>aI d1=some P,?_,?_,?_,?_,?_⟩⟩
  ·intro r;have:=z _ (L.self _ r);have:=y.size;omega
  ·rw[e9];rfl
  ·rw[kY]
   refine((Z.af n).keep a3 λP f r=>?_).keep c1 λP f r=>?_
   ·have:=z _ (L.self _ r);have:=V P f;have:=y.size;have:=U.size;omega
   ·have:=V P f;omega
  ·have f2:=d2.alone
   rw[kY];refine f2.keep c1 λP f r=>?_;rcases b3 P f with h|h
   ·have:=z P h;have:=y.size;omega
   ·have:=n.size;have:=v.size;have:=p.size;omega
  ·intro P f
   rcases b3 P f with h|h
   ·exact z P h
   ·have:=n.size;have:=v.size;have:=p.size;omega
  ·have ka:aj (λP=>P=i.heap.size\/P=j) x A:=((C.af p).then (v.mono λ_ _ h=>.inr h)).af n
   have kb:aj (λP=>P=i.heap.size\/P=j) x R:=ka.new a3 λP f=>.inr (z P (L.self P f));exact kb.then (c1.mono λ_ _ h=>.inl h)
 obtain rfl:e=I.toNat:=oM
 obtain⟨d3,f3,f5,_⟩:=Y.ints I.toNat;generalize f6:(aU I.toNat E).1=S at c0 f3 f5;generalize f7:(aU I.toNat E).2=q at b9 d3;refine PA.mk λJ p s8 g8=>?_;have g0:=p.get b8 id;have g2:aj (λP=>P=i.heap.size\/P=j) x J:=C.af p;have g6:=c0.af p;have i1:=y.size;refine⟨λm B k=>∃e:Nat,B=e/\e<=6/\m=6-e/\k.heap[i.heap.size]? =some (.cells (pA H t o u (aU e q).1).toArray 55 (0,0))/\eZ k j a0 (aU e q).2/\aj (λP=>P=i.heap.size\/P=j) J k,
  ⟨_,0,rfl,oM,rfl,g0,b9.af p,aj.refl _⟩,?_⟩
 rintro m B _ K ⟨e,rfl,hj,rfl,b0,Z,v⟩;refine al.dec (λN=>?_) (λN=>?_)
 ·have d4:e<6:=oM
  have M:=v.get g8 (by have:=C.size;omega);have a1:K.cell? ⟨X.heap.size,0+Int.toNat (e:Int),none⟩=some (.pointer (some ⟨i.heap.size,4+e,none⟩)):=by
   rw[Qx,Xz]
   match e,d4 with
   |0,_=>exact ae M rfl
   |1,_=>exact ae M rfl
   |2,_=>exact ae M rfl
   |3,_=>exact ae M rfl
   |4,_=>exact ae M rfl
   |5,_=>exact ae M rfl
  refine⟨_,_,rfl,oM,oM,_,a1,PC.ok (DW Z) ?_⟩;rintro _ A ⟨rfl,d5,n⟩;have l:=n.get b0 oM;refine⟨_,rfl,_,_,rfl,PS.mk l (by simp[pA];omega) λR F d6 g=>⟨_,oM,e+1,an oM,oM,rfl,?_,?_,?_⟩⟩
  ·rw[g,IV (d3.ints e).2.2.1 d4];rfl
  ·rw[kY]
   exact d5.keep F λP f r=>by have:=V P f;omega
  ·exact v.then ((n.mono λ_ _ h=>.inr h).then (F.mono λ_ _ h=>.inl h))
 obtain rfl:e=6:=oM
 have a6:iU ⟨s,0,0⟩=(⟨H.getD 0 0,H.getD 1 0,H.getD 2 0,S,(aU 6 q).1.getD 0 0,(aU 6 q).1.getD 1 0,(aU 6 q).1.getD 2 0,(aU 6 q).1.getD 3 0,(aU 6 q).1.getD 4 0,(aU 6 q).1.getD 5 0⟩,(aU 6 q).2):=by
  unfold iU;simp only[hL,hR,hC,e5,f6,f7]
 refine PC.ok (Ku Z) ?_;rintro _ A ⟨rfl,d7⟩;have n:ai K A:=d7.keep;have b4:aj (λP=>P=i.heap.size\/P=j) J A:=v.af n;have b5:aj (λP=>P=i.heap.size\/P=j) x A:=g2.then b4;have b6:=b5.get d9 oM;have l:=n.get b0 id;have a2:aV aM 3 w A t o u S:=g6.keep b4 λP f r=>by have:=z P f;omega
 have b7:ai b A:=b1.new b5 λP f=>.inr oM;have a7:gB (iU ⟨s,0,0⟩).2=gB (aU 6 q).2:=by rw[a6]
 refine⟨_,rfl,al.dQ (λh0=>?_) (λhe=>?_)⟩
 ·have a4:ij s=(zI,gB (aU 6 q).2):=by unfold ij;rw[a7,Zx h0]
  rw[a4];refine storeAll [QH 0,QH 0,QH 0,.slice none 0 0,QH 0,QH 0,QH 0,QH 0,QH 0,QH 0] b6 rfl λR F d6 g=>?_;refine⟨0,0,0,none,0,0,0,0,0,0,0,0,ae g rfl,ae g rfl,ae g rfl,ae g rfl,ae g rfl,ae g rfl,ae g rfl,ae g rfl,ae g rfl,ae g rfl,Ok.mk ⟨none,0,0,λ_=>False,rfl,aV.nil R,?_,λ_ h=>h.elim⟩⟩;exact b7.new F λP f=>.inr oM
 ·have a4:ij s=((iU ⟨s,0,0⟩).1,0):=by unfold ij;rw[a7,Zq (by simpa using he)]
  rw[a4,a6];refine⟨_,_,_,t,o,u,_,_,_,_,_,_,ae l rfl,ae l rfl,ae l rfl,ae l rfl,ae l rfl,ae l rfl,ae l rfl,ae l rfl,ae l rfl,ae l rfl,?_⟩;refine storeAll (pA H t o u (aU 6 q).1) b6 rfl λR F d6 g=>?_;refine⟨_,_,_,t,o,u,_,_,_,_,_,_,ae g rfl,ae g rfl,ae g rfl,ae g rfl,ae g rfl,ae g rfl,ae g rfl,ae g rfl,ae g rfl,ae g rfl,Ok.mk ⟨t,o,u,w,rfl,a2.keep F λP f r=>?_,?_,λP f=>?_⟩⟩
  ·have:=z P f;omega
  ·exact b7.new F λP f=>.inr oM
  ·have:=z P f;have:=b1.size;omega
end
end Go.Proofs.YtblabbpipmodgaaGreatDoor
namespace Go.au
open Go
def eN(P:List UInt8):Nat:=P.foldl (λa b=>a*10+(b.toNat-48)) 0
def gh(P:UInt8):Bool:=decide (48<=P.toNat/\P.toNat<=57)
def fA(P:List UInt8)(a:UInt8):eN (P++[a])=eN P*10+(a.toNat-48):=by simp[eN,List.foldl_append]
variable{e u:Int}{s:List UInt8}{a:Nat}{i:Type}
def uX{P a:List i}(b:P≠[]):(P++a).head? =P.head? :=by
 cases P with
 |nil=>exact Zz rfl b
 |cons c P=>rfl
def sY:∀(P:Nat),eN (Lib.decDigits P)=P/\(Lib.decDigits P).all gh=true/\Lib.decDigits P≠[]/\(P≠0->(Lib.decDigits P).head? ≠some 48):=by
 intro P
 induction P using Nat.strongRecOn with
 |_ P d=>
  rw[Lib.decDigits]
  by_cases b:P<10
  ·rw[dif_pos b]
   have a:(UInt8.ofNat (48+P)).toNat=48+P:=by rw[ZK];omega
   refine⟨by simp[eN];omega,by simp[gh,a];omega,sM,λi=>?_⟩;intro c;simp only[List.head?_cons,Q1]at c;have:=Zj UInt8.toNat c;rw[a]at this;simp at this;omega
  ·rw[dif_neg b]
   obtain⟨e,f,g,h⟩:=d (P/10) oM;have a:(UInt8.ofNat (48+P % 10)).toNat=48+P % 10:=by rw[ZK];omega
   refine⟨by rw[fA,e,a];omega,?_,sM,λ_=>?_⟩
   ·rw[List.all_append,f];simp[gh,a];omega
   ·rw[uX g];exact h oM
def AM:∀{P:List UInt8},P.all gh=true->P≠[]->P.head? ≠some 48->0<eN P:=by
 intro P;generalize a:P.length=f
 induction f generalizing P with
 |zero=>intro _ g;exact Zz (QW a) g
 |succ f h=>
  intro b j c;rcases List.eq_nil_or_concat P with rfl|⟨P,d,rfl⟩
  ·cases a
  rw[List.concat_eq_append]at a b c⊢;rw[List.all_append,QK]at b;have k:48<=d.toNat/\d.toNat<=57:=by simpa[gh]using b.2
  rw[fA]
  by_cases e:P=[]
  ·subst e
   have:d.toNat≠48:=λi=>c (by simp;exact UInt8.toNat_inj.1 i);omega
  ·have:=h (by simpa using a) b.1 e (by rwa [uX e]at c)
   omega
def BP:∀{P:List UInt8},P.all gh=true->P≠[]->(P.head? ≠some 48\/P.length=1)->Lib.decDigits (eN P)=P:=by
 intro P;generalize f:P.length=g
 induction g generalizing P with
 |zero=>intro _ j;exact Zz (QW f) j
 |succ g k=>
  intro b o c;rcases List.eq_nil_or_concat P with rfl|⟨P,a,rfl⟩
  ·cases f
  rw[List.concat_eq_append]at f b c⊢;rw[List.all_append,QK]at b;have p:48<=a.toNat/\a.toNat<=57:=by simpa[gh]using b.2
  have i:UInt8.ofNat (48+(a.toNat-48))=a:=UInt8.toNat_inj.1 (by rw[ZK];omega);rw[fA]
  by_cases d:P=[]
  ·subst d
   have l:eN []*10+(a.toNat-48)=a.toNat-48:=by simp[eN]
   rw[l,Lib.decDigits,dif_pos oM,i]
   rfl
  ·have q:0<P.length:=List.length_pos_iff.2 d
   have h:P.length=g:=by simpa using f
   have e:P.head? ≠some 48:=by
    rcases c with c|c
    ·rwa [uX d]at c
    ·omega
   have r:=AM b.1 d e;rw[Lib.decDigits,dif_neg oM];have m:(eN P*10+(a.toNat-48))/10=eN P:=oM
   have n:(eN P*10+(a.toNat-48)) % 10=a.toNat-48:=oM
   rw[m,n,i,k h b.1 d (.inl e)]
def wi:∀(P:List UInt8),P.all gh=true->eN P<10 ^ P.length:=by
 intro P;generalize a:P.length=c
 induction c generalizing P with
 |zero=>intro _;have:=QW a;subst this;decide
 |succ c e=>
  intro b;rcases List.eq_nil_or_concat P with rfl|⟨P,d,rfl⟩
  ·cases a
  rw[List.concat_eq_append]at a b⊢;rw[List.all_append,QK]at b;have f:48<=d.toNat/\d.toNat<=57:=by simpa[gh]using b.2
  have:=e P (by simpa using a) b.1;rw[fA,Nat.pow_succ];omega
def nI{u:Nat}(h:u<1000000000000):(Lib.decDigits u).length<=12:=by
 rw[Lib.decDigits_length];apply Nat.le_of_not_lt;intro k
 by_cases i:u=0
 ·subst i;rw[Lib.nDigits_small oM]at k;omega
 ·have s:=Lib.lt_pow_nDigits u
  obtain⟨l,m,n,o⟩:=sY u;have j:=Lib.decDigits_length u;have key:∀(P:List UInt8),P.all gh=true->P≠[]->P.head? ≠some 48->10 ^(P.length-1)<=eN P:=by
   intro P;generalize b:P.length=a
   induction a generalizing P with
   |zero=>intro _ h;exact Zz (QW b) h
   |succ a p=>
    intro c t e;rcases List.eq_nil_or_concat P with rfl|⟨P,v,rfl⟩
    ·cases b
    rw[List.concat_eq_append]at b c e⊢;have f:=c;rw[List.all_append,QK]at c;rw[fA]
    by_cases d:P=[]
    ·subst d
     have:=AM f sM e;rw[fA]at this;have q:a=0:=by simpa using b.symm
     subst q;simp at this⊢;omega
    ·have g:P.length=a:=by simpa using b
     have j:0<P.length:=List.length_pos_iff.2 d;have:=p P g c.1 d (by rwa [uX d]at e);have r:a+1-1=(a-1)+1:=oM
     rw[r,Nat.pow_succ];omega
  have:=key _ m n (o i);rw[l,j]at this;have w:10 ^ 12<=10 ^(Lib.nDigits u-1):=Nat.pow_le_pow_right oM oM;have:(10:Nat) ^ 12=1000000000000:=dC
  omega
def dy:List UInt8:=[115,101,103,46]
def aw(P:Int):List UInt8:=if P<0\/1000000000000<=P then []else dy++Lib.decDigits P.toNat
def iL(P:List UInt8):Option Nat:=if P.take 4=dy/\5<=P.length/\P.length<=16/\(P.drop 4).all gh=true/\((P.drop 4).head? ≠some 48\/P.length=5)then some (eN (P.drop 4))else none
def lk(P:0<=e)(a:e<1000000000000):aw e=dy++Lib.decDigits e.toNat:=by unfold aw;rw[Zq oM]
def nx(a:0<=e)(b:e<1000000000000):iL (aw e)=some e.toNat:=by
 rw[lk a b];obtain⟨c,d,f,g⟩:=sY e.toNat;have k:=nI (u:=e.toNat) oM;have l:0<(Lib.decDigits e.toNat).length:=List.length_pos_iff.2 f;have h:(dy++Lib.decDigits e.toNat).drop 4=Lib.decDigits e.toNat:=rfl;have i:(dy++Lib.decDigits e.toNat).take 4=dy:=rfl;have j:(dy++Lib.decDigits e.toNat).length=4+(Lib.decDigits e.toNat).length:=by rw[QX];rfl
 unfold iL;rw[h,i,j,c,Zx];refine⟨rfl,oM,oM,d,?_⟩
 by_cases P:e.toNat=0
 ·right
  rw[P,Lib.decDigits_length,Lib.nDigits_small oM]
 ·exact .inl (g P)
def Am(P:iL s=some a):aw a=s/\a<1000000000000:=by
 unfold iL at P;split at P
 ·rename_i e
  obtain⟨f,i,j,b,g⟩:=e;simp only[Q1]at P;have c:(s.drop 4).length=s.length-4:=sM
  have k:=wi _ b;have l:10 ^(s.drop 4).length<=10 ^ 12:=Nat.pow_le_pow_right oM oM;have m:(10:Nat) ^ 12=1000000000000:=dC
  have h:a<1000000000000:=oM
  refine⟨?_,h⟩;rw[lk oM oM,<-P,Qx,BP b (λd=>by rw[d]at c;simp at c;omega) (g.imp id λd=>oM),<-f,ZX]
 ·cases P
def GW(c:0<=e)(a:e<1000000000000)(P:aw u=aw e):u=e:=by
 have b:=nx c a
 by_cases d:u<0\/1000000000000<=u
 ·unfold aw at P
  rw[Zx d,Zq oM]at P;exact Zz (Zj List.length P) (by simp[dy])
 ·rw[<-P,nx oM oM]at b
  simp only[Q1]at b;omega
def AL(P:Int):(aw P).length<=16:=by
 unfold aw;split
 ·simp
 ·have:=nI (u:=P.toNat) oM
  rw[QX];show 4+_<=16;omega
def EI(c:s.all gh=true)(d:s.length<=12):iL (dy++s)=if aw (eN s)=dy++s then some (eN s)else none:=by
 have f:=wi _ c;have g:10 ^ s.length<=10 ^ 12:=Nat.pow_le_pow_right oM d;have h:(10:Nat) ^ 12=1000000000000:=dC
 split
 ·rename_i a
  rw[<-a,nx oM oM,Qx]
 ·rename_i a
  cases P:iL (dy++s)with
  |none=>rfl
  |some e=>
   obtain⟨b,i⟩:=Am P;have:e=eN s:=by
    unfold iL at P;split at P
    ·exact(XJ P).symm
    ·cases P
   rw[this]at b;exact Zz b a
def HE(a:s.all gh=false):iL (dy++s)=none:=by
 unfold iL;rw[Zq];rintro⟨_,_,_,P,_⟩;have:(dy++s).drop 4=s:=rfl;rw[this,a]at P
 cases P
def MJ(P:s.take 4≠dy):iL s=none:=by
 unfold iL;rw[Zq λa=>P a.1]
def JX(P:16<s.length):iL s=none:=by
 unfold iL;rw[Zq λa=>oM]
end Go.au
namespace Go.Proofs.YtblabbpipmodgaaGreatDoor
open Go.au
def pick(a P:Int):Int:=if P<1 then 0 else if a.tmod P<0 then a.tmod P+P else a.tmod P
def JF{k n:Int}(P:1<=n):0<=pick k n/\pick k n<n:=by
 unfold pick;rw[Zq oM];have a:k.tmod n<n:=Int.tmod_lt_of_pos k oM;have b: -n<k.tmod n:=Int.lt_tmod_of_pos k oM;split<;>omega
variable{e u:Int}{b:World}
def Of(j:aN u):ZH 16 #[QH e,QH u] b (Ok λg h=>g= QH (pick e u)/\b=h):=by
 refine Iv (al.mk (λa=>?_) (λa=>?_))
 ·have a:=XV a
  exact Ok.mk ⟨by simp[pick,a],rfl⟩
 ·have a:=Xy a
  have c:=JF (k:=e) (n:=u) oM;have i:∀d f,(do eqGuard .rem 3 d f (QH e) (QH u);binOp .rem 3 (QH e) (QH u):Sem Value).run XG b= .ok (QH (e.tmod u)) b:=λd f=>by
   have:u≠0:=oM
   simp[eqGuard,binOp,Op.intDiv,this]
  refine aG.mk (i _ _) ⟨_,rfl,al.mk (λP=>?_) (λP=>?_)⟩
  ·have P:=XV P
   unfold pick at c;rw[Zq oM,Zx P]at c;refine Ok.mk ⟨?_,rfl⟩;rw[wrap_i64 (by unfold aN at*;omega)];unfold pick;rw[Zq oM,Zx P]
  ·have P:=Xy P
   refine Ok.mk ⟨?_,rfl⟩;unfold pick;rw[Zq oM,Zq P]
end Go.Proofs.YtblabbpipmodgaaGreatDoor
namespace Go.Proofs
open Go.RowKit Go.Maps Go.Sort Go.Shelf
def Tryz.Sg(c:Nat):AnyZ.SortsIn Tryz.prog Tryz.wy Fence.wide c:=
 ⟨λaI a P d b e f g=>callsIn_wide.2 (AnyM.slices_Sort_string Tryz.Ru aI a P d b e f g),
  λh P b=>callsIn_wide.2 (AnyM.slices_Sort_string_none Tryz.Ru h P b)⟩
end Go.Proofs
namespace Go.Proofs.YtblabbpipmodgaaGreatDoor
section
open Go.au
open Go.RowKit Go.Maps Go.Sort Go.Shelf
def VE(P a:ByteArray):Bool:=decide (P.data.toList<=a.data.toList)
def rk(P:List ByteArray):List ByteArray:=P.mergeSort VE
def LK(a:List ByteArray):(rk a).map (λP=>P.data.toList)=(a.map λP=>P.data.toList).mergeSort (λP b=>decide (P<=b)):=
 List.map_mergeSort (λc _ d _=>rfl)
def bR.Rv{b:Type}{P:b->Value}{c:b->Prop}{hl h1}{e:World}{D:XM}:∀{a:List b},(∀x∈a,c x)->bR (flat 1 (λx=>[P x]) c hl h1) e D a (a.map P)
 |[],_=>rfl
 |x::a,d=>⟨[P x],a.map P,rfl,⟨rfl,d x (QV ..)⟩,bR.Rv λf g=>d f (QJ _ g)⟩
variable{f2:List (ByteArray×Value)}{a c:Nat}{H:Nat×Nat}{g:TypeId}{b:World}
def xV(j:bU b a Value.string f2)(I:∀h∈f2,h.1.size<=maxLen)(y:f2.length*16<=aS)(z:b.heap[c]? =some (.cells #[.map (some a)] g H)):
  ZH 246 #[.func (.func 296) #[] #[XP c]] b
   (Ok (vh LM 9 b (rk (f2.map (·.1))))):=by
 unfold aS at y;obtain⟨e,i,J,p,K,L⟩:=j.at';have M:Tryz.prog.underlying 9=some .string:=Tryz.underlying9;have N:e.size=f2.length:=by have:=Zj List.length p;simpa using this
 have A:∀d∈e.toList,∃P:ByteArray,d.key=Value.string P/\P.size<=maxLen:=λd f=>by
  have O:(d.key,d.val)∈f2.map (λh=>(Value.string h.1,h.2)):=by rw[<-p];exact Xk.2 ⟨d,f,rfl⟩
  obtain⟨h,Q,R⟩:=Xk.1 O;exact⟨h.1,(Prod.mk.inj R).1.symm,I h Q⟩
 have B:∀d∈e.toList,∀P:ByteArray,d.key=Value.string P->P.size<=maxLen->WideElems.rd XG 9 (λ_=>some ((.nil:DataW Unit),[])) d=some (.string P.data.toList,.nil):=λd _ P l n=>by
  simp[WideElems.rd,l,Go.WideMaps.keyOf_string_mk M n]
 have S:WideElems.Fit XG 9 (λ_=>some ((.nil:DataW Unit),[])) e i:=by
  refine⟨by unfold maxLen;omega,⟨K,L,?_⟩,λd f=>?_⟩
  ·have:e.toList.map (·.key)=(f2.map (·.1)).map Value.string:=by
    have:=Zj (List.map (λs:Value×Value=>s.1)) p;simpa[Function.comp_def]using this
   rw[this];exact List.pairwise_map.2 (List.Pairwise.imp (λT=>by simpa using T) j.tidy)
  ·obtain⟨P,l,n⟩:=A d f
   exact⟨_,B d f P l n⟩
 have U:b.ownsMap XG 9 (λ_=>some ((.nil:DataW Unit),[])) a e.size (.map ((e.toList.map (WideElems.rg XG 9 (λ_=>some ((.nil:DataW Unit),[])))).foldr DataW.insert [])):=
  ⟨e,i,J,S,Q4 _,rfl⟩
 have C:Maps.size (.map ((e.toList.map (WideElems.rg XG 9 (λ_=>some ((.nil:DataW Unit),[])))).foldr DataW.insert []))=f2.length:=by
  show(List.foldr DataW.insert [] _).length=_;rw[(WideShapes.sorted_perm _).length_eq];simp[N]
 have V:(strKeys (.map ((e.toList.map (WideElems.rg XG 9 (λ_=>some ((.nil:DataW Unit),[])))).foldr DataW.insert []))).Perm ((f2.map (·.1)).map λP=>P.data.toList):=by
  refine(List.Perm.map (λh:Lit×DataW Unit=>Go.strOf h.1) (WideShapes.sorted_perm _)).trans ?_;have:(e.toList.map (WideElems.rg XG 9 (λ_=>some ((.nil:DataW Unit),[])))).map (λh=>Go.strOf h.1)=(f2.map (·.1)).map λP=>P.data.toList:=by
   have W:e.toList.map (λd=>match d.key with| .string P=>P.data.toList|_=>[])=(f2.map (·.1)).map λP=>P.data.toList:=by
    have:=Zj (List.map (λs:Value×Value=>match s.1 with| .string P=>P.data.toList|_=>[])) p;simpa[Function.comp_def]using this
   rw[<-W,List.map_map];refine List.map_congr_left λd f=>?_;obtain⟨P,l,n⟩:=A d f;simp[WideElems.rg,B d f P l n,l,Go.strOf]
  rw[this]
 have X:SeqGives Fence.wide 1 XG 296 #[XP c] encStr (λm=>m.Perm (strKeys _)) (Maps.size _) b:=
  AnyZ.keys_gives (ρ:=Tryz.Ch) {Tryz.rl with} Fence.wide _ trivial rfl oM c a e.size _ b (aB z) (ae z rfl) U
 have Y:=AnyZ.sorted_in Tryz.PX Fence.wide 4 trivial trivial trivial trivial rfl oM (Tryz.Sg _) (enters_of Tryz.func295 kR rfl) 296 #[XP c] trivial
  (enters_of Tryz.func296 kR rfl) _ _ (by rw[C];unfold maxLen;omega) (by rw[C];exact y) b X
 refine((callsIn_wide (n:=4)).1 Y).mono ?_;rintro d Z ⟨a0,m,rfl,hS,q,a7,t⟩;have E:m.mergeSort (λP u=>decide (P<=u))=(rk (f2.map (·.1))).map λP=>P.data.toList:=by rw[LK];exact Go.mergeSort_of_perm (hS.trans V)
 have a8:m.length=(rk (f2.map (·.1))).length:=by
  have:=Zj List.length E;simpa using this
 have a1:((m.mergeSort (λP u=>decide (P<=u))).map encStr)=(rk (f2.map (·.1))).map Value.string:=by
  rw[E,List.map_map];refine List.map_congr_left λP _=>?_;show Value.string ⟨P.data.toList.toArray⟩=Value.string P;simp
 rw[a1]at q;have hv:∃o v,a0= .slice o m.length v:=by
  rcases q.2 with⟨rfl,h0⟩|⟨g',w,x,rfl,_⟩
  ·exact⟨none,0,by rw[h0]⟩
  ·exact⟨_,_,rfl⟩
 obtain⟨o,v,rfl⟩:=hv;have F:∀k,aI o=some k->b.heap.size<=k/\k<Z.heap.size:=λk r=>by
  rcases q.2 with⟨f,_⟩|⟨g',w,x,f,a9,a6,_⟩
  ·simp only[XX]at f
   rw[f.1]at r;cases r
  ·simp only[XX]at f
   rw[f.1]at r;simp only[aI,Q1]at r;have:=aB a6;omega
 exact Ok.mk ⟨o,_,v,λk=>aI o=some k,rfl,⟨⟨_,λ_=>False,⟨ownsRow_base_a q (Qj _)⟩,bR.Rv (λ_ _=>trivial),λ_ j=>j.elim⟩,λ_ j=>j,λk j=>(F k j).2⟩,aj.Fu t,λk j=>(F k j).1⟩
end
section
open Go.au
def kS:iD XG 9 Value.string:=UA Tryz.underlying9
def mF:lT XG 140 9 204 (.pointer none):=⟨kR,kR⟩
def uF:Tryz.prog.underlying 204=some (.pointer 206):=kR
def ak.room(D:ak):Int:=(D.most:Int)-D.used
def ak.op(D:ak)(P:ak->Int×ak):Int×ak:=if D.dies then(15,D.gone)else P D.cQ
def ak.zv(a:ByteArray)(P:ak->bL->Int×ak)(D:ak):Int×ak:=match aq D.files a with
 |none=>(14,D)
 |some b=>P D b
def ak.create(D:ak)(P:ByteArray):Int×ak:=D.op λD=>if cV P then(if(aq D.files P).isSome then(16,D)else if 64<=D.files.length then(12,D)else(0,D.fv P ⟨[],0,false⟩))else(1,D)
def ak.append(D:ak)(P:ByteArray)(a:List UInt8):Int×ak:=D.op (ak.zv P λD b=>if(a.length:Int)>D.room then(12,D)else(0,D.fv P {b with bytes:=b.bytes++a}))
def ak.sync(D:ak)(P:ByteArray):Int×ak:=D.op (ak.zv P λD a=>(0,D.fv P (a.cut a.bytes.length)))
def ak.mq(D:ak)(k:ByteArray)(P:Int):Int×ak:=D.op (ak.zv k λD a=>(0,D.fv k (a.cut P)))
def ak.delete(D:ak)(P:ByteArray):Int×ak:=D.op (ak.zv P λD a=>(0,D.tW P))
def ak.rename(D:ak)(P a:ByteArray):Int×ak:=D.op (ak.zv P λD b=>if cV a then(0,(D.tW P).fv a {b with iS:=true})else(1,D))
def ak.read(D:ak)(k:ByteArray):List UInt8×Int:=if D.dead then([],15)else match aq D.files k with
 |none=>([],14)
 |some P=>(P.bytes,0)
def ak.list(D:ak):List ByteArray:=rk (D.files.map (·.1))
def eh(D:ak):D.cQ.files=D.files:=by unfold ak.cQ;split<;>rfl
def tY(c:World)(d:Nat)(e:XM)(P:Int×ak)(f:Value)(a:World):Prop:=∃b,f= QH P.1/\aT a d b P.2/\cO e c b a
variable{a1 o:Array Value}{w:ByteArray}{e:Int}{d2:Int×ak}{f2 g3:List (ByteArray×Value)}{a0:List (ByteArray×my)}{s:List UInt8}{a c j:Nat}{a2 f:XM}{d:XU}{i:Type}{v:Value}{b k:World}{x:XT}{U:bL}
def tY.same{D:ak}(P:aT k a f D)(c:aj f b k):tY b a f (e,D) (QH e) k:=⟨f,rfl,P,c,λ_ P=>.inl P⟩
def Kt{D:ak}(c:aT b a f D){g:FuncId}{body:ak->Int×ak}(d:enters XG g=true)(e:D.dies=false->∀P,aT P a f D.cQ->aj f b P->ZH g (o++ #[]++a1) P (Ok (tY P a f (body D.cQ)))):
  ZH 241 #[XP a,.func (.func g) o a1] b (Ok (tY b a f (D.op body))):=by
 refine Calls.ok (IQ c (e:=(body D.cQ).1) (D':=(body D.cQ).2) d λh P i j n=>e h P i j) ?_;rintro p q ⟨k,l,r,m⟩;refine⟨k,?_,?_,m⟩
 ·rw[l];unfold ak.op;split<;>rfl
 ·unfold ak.op;split<;>simp_all
def tZ{D:ak}(e:aT b a f D){k:ByteArray}{g:FuncId}{body:ak->bL->Int×ak}(C:enters XG g=true)(E:D.dies=false->∀h l m P,eY h a f D.cQ l m->aq m k=some P->aj f b h->ZH g (o++ #[ptr P.q]++a1) h (Ok (tY h a f (body D.cQ P.f)))):
  ZH 171 #[XP a,.string k,.func (.func g) o a1] b (Ok (tY b a f (D.op (ak.zv k body)))):=by
 refine xO (PA.mk λh F V z=>PA.mk λH r W I=>PA.mk λA n X J=>?_);have s:ai b A:=(F.af r).af n;have K:=e.af s;have t:=e.aE;refine⟨_,ae (n.get (r.get z id) id) rfl,PC.ok (Kt K (body:=ak.zv k body) kR λL c B p=>?_) ?_⟩
 ·obtain⟨l,m,i⟩:=B.open
  have M:c.heap[b.heap.size]? =_:=p.get (n.get (r.get z id) id) (λj=>by have:=t _ j;omega);have N:c.heap[h.heap.size]? =_:=p.get (n.get I id) (λj=>by have:=t _ j;omega);have O:c.heap[H.heap.size]? =_:=p.get J (λj=>by have:=t _ j;omega);refine tP ⟨_,ae M rfl,a,0,rfl,some l,ae i.head rfl,_,ae N rfl,?_⟩;rcases i.box k with⟨u,v⟩|⟨P,Q,Y,u,v⟩
  ·refine⟨none,λw=>?_,λq d=>?_⟩
   ·have:=eB mF kS (i.map.keep (aj.drewN (S:=λ_=>False) c w) id) k false
    simpa[v]using this
   ·refine yA uF ⟨_,rfl,al.ff rfl (Ok.mk ?_)⟩
    have:ak.zv k body D.cQ=(14,D.cQ):=by unfold ak.zv;rw[u]
    rw[this];exact tY.same (B.af d.keep) d.keep
  ·refine⟨XL P.q,λw=>?_,λq d=>?_⟩
   ·have:=eB mF kS (i.map.keep (aj.drewN (S:=λ_=>False) c w) id) k false
    simpa[v,ptr]using this
   ·refine yA uF ⟨_,rfl,al.tt rfl ⟨_,ae (d.keep (S:=λ_=>False)|>.get O id) rfl,g,o,a1,rfl,C,?_⟩⟩
    have R:aj f b q:=((s.keep (S:=f)).then p).af d.keep;refine PC.ok (E L q l m P (i.af d.keep) Q R) ?_;rintro S Z ⟨x,rfl,T,y⟩;have:ak.zv k body D.cQ=body D.cQ P.f:=by unfold ak.zv;rw[u]
    refine⟨_,rfl,Ok.mk ?_⟩;rw[this];exact⟨x,rfl,T,(cO.mk d.keep λ_ e=>.inl e:cO f c f q).trans y⟩
 ·rintro S c ⟨x,rfl,U,y⟩
  exact⟨_,rfl,Ok.mk ⟨x,rfl,U,(cO.mk s.keep λ_ e=>.inl e:cO f b f A).trans y⟩⟩
def ak.Ok.set{D:ak}(P:D.Ok){c a:bL}(b:aq D.files w=some c)(d:a.bytes.length+D.used<=c.bytes.length+D.most)(e:a.synced<=a.bytes.length):(D.fv w a).Ok:=by
 have f:=b_ b;refine⟨P.most,?_,?_,P.tidy.aH _ _,?_,?_,P.zy,P.zz⟩
 ·have:=wz (l:=D.files) (k:=w) (f:=a)
  rw[b]at this;simp only[Option.map_some,Option.getD_some]at this;show eI (aH D.files w a)<=D.most;unfold ak.used at d;omega
 ·show(aH D.files w a).length<=64
  rw[vM (by rw[b];rfl)];exact P.many
 ·intro x j
  rcases fG P.tidy j with rfl|⟨j,_⟩
  ·show cV w=true
   exact P.names _ f
  ·exact P.names x j
 ·intro x j
  rcases fG P.tidy j with rfl|⟨j,_⟩
  ·exact e
  ·exact P.Pw x j
def ak.Ok.del{D:ak}(P:D.Ok)(a:ByteArray):(D.tW a).Ok:=by
 have e:=Gm D.files a;have f:=wA (l:=D.files) (k:=a);have d:=P.fits;have g:=P.many;unfold ak.used at d;exact⟨P.most,by show eI (bI D.files a)<=D.most;omega,by show(bI D.files a).length<=64;omega,P.tidy.bI a,λb c=>P.names b (fX c),λb c=>P.Pw b (fX c),P.zy,P.zz⟩
def ak.Ok.put{D:ak}(P:D.Ok)(c:cV w=true)(d:U.bytes.length+D.used<=D.most)(f:D.files.length<64)(e:U.synced<=U.bytes.length):(D.fv w U).Ok:=by
 refine⟨P.most,?_,?_,P.tidy.aH _ _,?_,?_,P.zy,P.zz⟩
 ·have:=wz (l:=D.files) (k:=w) (f:=U)
  show eI (aH D.files w U)<=D.most;unfold ak.used at d;omega
 ·have:=Gn D.files w U
  show(aH D.files w U).length<=64;omega
 ·intro b a
  rcases fG P.tidy a with rfl|⟨a,_⟩
  ·exact c
  ·exact P.names b a
 ·intro b a
  rcases fG P.tidy a with rfl|⟨a,_⟩
  ·exact e
  ·exact P.Pw b a
def vN{l:List (ByteArray×i)}{k:ByteArray}(P:(aq l k).isSome=true):(bI l k).length+1=l.length:=by
 induction l with
 |nil=>simp[aq]at P
 |cons a l b=>
  obtain⟨d,e⟩:=a;simp only[bI,aq]at P⊢;split
  ·rfl
  ·rename_i c
   rw[Zq c]at P;simp[b P]
def vO(a:List (ByteArray×i))(b:ByteArray)(d c:i):aH (aH a b d) b c=aH a b c:=by
 induction a with
 |nil=>simp[aH]
 |cons e a f=>
  obtain⟨g,h⟩:=e;simp only[aH]
  by_cases P:(b==g)=true
  ·rw[Zx P,Zx P];simp[aH]
  ·rw[Zq P,Zq P];simp[aH,P,f]
def eA.PZ{G:XM}(c:eA b a G U)(d:∀P,eA P a G {U with iS:=true}->aj (·=a) b P->P.heap.size=b.heap.size->x P):PS b ⟨a,0+2,none⟩ (.bool true) x:=by
 obtain⟨j,k,e,l,m,n,o,g⟩:=c.body;refine PS.mk m sM λp h q r=>d p ⟨⟨j,k,e,l,r,n.keep h (λi f s=>g (s▸f)),o,g⟩,c.self,λi f=>by have:=c.aE i f;omega⟩ h q
def ak.Ok.cut{D:ak}(a:D.Ok)(b:aq D.files w=some U)(P:Int):(D.fv w (U.cut P)).Ok:=by
 have c:=PY U P;have d:=mu P U.bytes.length;have e:=a.fits;exact a.set b oM (by rw[c];exact Q4 _)
def eY.get{D:ak}(d:eY b a f D c a0){P:my}(e:aq a0 w=some P):aq D.files w=some P.f:=by
 rw[d.files];have:=zD (λP:my=>P.f) a0 w;rw[e]at this;exact this
def kW(c:Value)(d:World)(g:ai k b)(P:tY b a f d2 c d):∃e:Int,c= QH e/\Ok (tY k a f d2) (.returned (QH e)) d:=by
 obtain⟨h,rfl,i,j⟩:=P;exact⟨_,rfl,Ok.mk ⟨h,rfl,i,(cO.mk g.keep λ_ P=>.inl P:cO f k f b).trans j⟩⟩
def Cj{D:ak}(c:aT b a f D){k:ByteArray}:
  ZH 158 #[XP a,.string k] b (Ok (tY b a f (D.sync k))):=by
 refine tJ (PC.ok (tZ c (k:=k) (g:=225) (body:=λD e=>(0,D.fv k (e.cut e.bytes.length))) kR λv w x y j P d z=>?_) λl m c=>kW l m (aj.refl b) c);have g:=P.each.each _ (b_ d);have h:=P.get d;obtain⟨A,B,n,C,o,p,E,F⟩:=g.body;have q:=p.len dC;refine qN ⟨j.q,0,rfl,_,_,_,ae o rfl,PC.ok (zF g (P.ok.len (b_ h))) ?_⟩;rintro _ H ⟨I,rfl,i,r⟩;rw[q]at i;obtain⟨s,t,u⟩:=P.fB d i r (P.ok.cut h _);exact⟨rfl,Ok.mk ⟨s,rfl,t.at,u⟩⟩
def NI{D:ak}(c:aT b a f D):
  ZH 188 #[XP a,.string w,QH e] b (Ok (tY b a f (D.mq w e))):=by
 refine vC (PA.mk λu g v i=>PC.ok (tZ (c.af g) (k:=w) (g:=258) (body:=λD j=>(0,D.fv w (j.cut e))) kR λx y z A B P d k=>?_) λl m c=>kW l m g c);have n:=P.each.each _ (b_ d);have h:=P.get d;refine sD ⟨_,ae (k.get i λo=>by have:=c.aE _ o;omega) rfl,PC.ok (zF n (P.ok.len (b_ h))) ?_⟩;rintro _ C ⟨E,rfl,p,q⟩;obtain⟨r,s,t⟩:=P.fB d p q (P.ok.cut h _);exact⟨rfl,Ok.mk ⟨r,rfl,s.at,t⟩⟩
def wB{D:ak}(P:aT b a f D):
  ZH 119 #[XP a,.string w] b (Ok (tY b a f (D.delete w))):=by
 refine qI (PA.mk λx h y i=>PA.mk λz e A j=>⟨_,ae (e.get i id) rfl,_,ae j rfl,PC.ok (tZ ((P.af h).af e) (k:=w) (g:=172) (body:=λD B=>(0,D.tW w)) kR λC n o E F p H k=>?_) λq r P=>kW q r (h.af e) P⟩);have s:=k.get (e.get i id) λc=>by have:=P.aE _ c;omega
 have t:=k.get j λc=>by have:=P.aE _ c;omega
 refine ot λu l=>?_;have d:=p.af l.keep;have g:ai n u:=l.keep;refine⟨_,ae (g.get s id) rfl,a,0,rfl,some o,ae d.head rfl,w,ae (g.get t id) rfl,IS mF kS d.map λI v m J=>Ok.mk ⟨f,rfl,(d.drop v m (d.ok.del w)).at,?_,λ_ P=>.inl P⟩⟩;exact g.keep.then (m.mono λK _ c=>by rw[c];exact d.Fr)
def Gp{D:ak}(d:aT b a f D){k g:ByteArray}:
  ZH 198 #[XP a,.string k,.string g] b (Ok (tY b a f (D.rename k g))):=by
 refine qM (PA.mk λw1 J s1 K=>PA.mk λX o s2 L=>PA.mk λw3 h s3 Y=>⟨_,ae (h.get (o.get K id) id) rfl,_,ae (h.get L id) rfl,PC.ok (tZ (((d.af J).af o).af h) (k:=k) (g:=261)
  (body:=λD Z=>if cV g then(0,(D.tW k).fv g {Z with iS:=true})else(1,D)) kR λhd s t b1 x e M u=>?_) λa0 w' d=>kW a0 w' ((J.af o).af h) d⟩)
 have i:=u.get (h.get (o.get K id) id) λP=>by have:=d.aE _ P;omega
 have v:=u.get (h.get L id) λP=>by have:=d.aE _ P;omega
 have N:=u.get Y λP=>by have:=d.aE _ P;omega
 have w:=b_ M;have y:=e.get M;refine oy ⟨_,ae N rfl,PC.ok t_ ?_⟩;rintro _ w5 ⟨rfl,z⟩;refine⟨_,rfl,al.not (al.mk (λp=>λw6 a6=>?_) (λp=>Ok.mk ?_))⟩
 ·have j:ai s w6:=z.af a6.keep
  have q:=e.af j;refine⟨_,ae (j.get i id) rfl,a,0,rfl,some t,ae q.head rfl,_,ae (j.get v id) rfl,IS mF kS q.map λw7 a7 A b8=>λB C=>?_⟩;have a8:=q.drop a7 A (q.ok.del k);have E:=a8.af C.keep;have O:∀c,c=t->f c:=λc P=>by rw[P];exact e.Fr
  have F:aj f s B:=(j.keep.then (A.mono λc _ P=>O c P)).af C.keep;have Q:∀{c:Nat} {R:Obj},s.heap[c]? =some R->b.heap.size<=c->B.heap[c]? =some R:=λP b9=>F.get P λhF=>by have:=d.aE _ hF;omega
  have l:=e.Gk _ w;have S:eA B (my.q x) (my.G x) (my.f x):=(((e.each.each _ w).keep j λ_ _ d=>d).keep A λc P=>(l c P).2.2).keep C.keep λ_ _ d=>d;have a1:b.heap.size<=X.heap.size:=oM
  refine⟨_,ae (Q i (Q4 _)) rfl,a,0,rfl,some t,ae E.head rfl,g,ae (Q N a1) rfl,iN mF kS E.map λw9 a9 H c0=>⟨x.q,0,rfl,?_⟩⟩;have b0:=e.ok.fits;have T:=wA (l:=D.cQ.files) (k:=k);rw[y]at T;simp only[Option.map_some,Option.getD_some]at T;have b6:=vN (l:=D.cQ.files) (k:=k) (by rw[y];rfl);have b7:=e.ok.many;have a2:=e.ok.Pw _ (b_ y);have U:∀m:bL,m.bytes=x.f.bytes->m.synced=x.f.synced->((D.cQ.tW k).fv g m).Ok:=λm i v=>(e.ok.del k).put p (by
   show m.bytes.length+eI (bI D.cQ.files k)<=D.cQ.most;unfold ak.used at b0;rw[i];omega) (by show(bI D.cQ.files k).length<64;omega) (by rw[i,v];exact a2)
  have b2:=E.put (q:=x.q) (G':=x.G) a9 H S (λa3 hy c2 c P b3=>by
   obtain⟨b4,b5⟩:=DU e.each.tidy hy;exact e.each.apart _ w a3 b4 (λI=>b5 I.symm) c P b3) (λc P=>(l c P).2) (U x.f rfl rfl)
  have V:eA w9 x.q x.G x.f:=S.keep H λc P=>(l c P).2.2;refine V.PZ λc3 a4 a5 c1=>Ok.mk ?_;obtain⟨F',n,W⟩:=b2.fB (k:=g) (x:=⟨x.q,x.G,x.f⟩) (by rw[bz];simp) a4 ⟨a5.mono λc _ P=>P▸V.self,λ_ d=>.inl d⟩ (by
   unfold ak.fv;simp only[vO];exact U {x.f with iS:=true} rfl rfl)
  rw[p,Zx rfl];have I:((D.cQ.tW k).fv g x.f).fv g {x.f with iS:=true}=(D.cQ.tW k).fv g {x.f with iS:=true}:=by
   unfold ak.fv;simp only[vO]
  refine⟨F',rfl,by rw[<-I];exact n.at,⟨?_,λc P=>?_⟩⟩
  ·exact(F.then (H.mono λc _ P=>O c P)).then (W.keep.mono λc _ P=>P.elim id λd=>(l c d).1)
  ·rcases W.new c P with(r|r)|r
   ·exact .inl r
   ·exact .inl (l c r).1
   ·have:=F.size;exact .inr oM
 ·rw[p];exact⟨f,rfl,(e.af z).at,z.keep,λ_ d=>.inl d⟩
def wC{D:ak}(P:aT b a f D):
  ZH 169 #[XP a,.string w] b (Ok (tY b a f (D.create w))):=by
 refine qL (PA.mk λw1 H s1 I=>PA.mk λw2 n s2 N=>⟨_,ae (n.get I id) rfl,PC.ok (Kt ((P.af H).af n) (g:=242)
  (body:=λD=>if cV w then(if(aq D.files w).isSome then(16,D)else if 64<=D.files.length then(12,D)else(0,D.fv w ⟨[],0,false⟩))else(1,D)) kR λhd r O s=>?_) λQ R P=>kW Q R (H.af n) P⟩)
 obtain⟨g,t,c⟩:=O.open;have u:=s.get (n.get I id) λd=>by have:=P.aE _ d;omega
 have v:=s.get N λd=>by have:=P.aE _ d;omega
 refine ox ⟨_,ae v rfl,PC.ok t_ ?_⟩;rintro _ x ⟨rfl,h⟩;refine⟨_,rfl,al.not (al.mk (λi=>?_) (λi=>Ok.mk ?_))⟩
 ·have y:=c.af h
  have J:∀l,(Instr.lookup 140 (.map (some g)) (.string w) false).run XG (x.drewN l)= .ok ((aq (t.map ei) w).getD (.pointer none)) (x.drewN l):=λl=>by
   have:=eB mF kS (y.map.keep (aj.drewN (S:=λ_=>False) x l) id) w false;simpa using this
  have S:∃j:XU,(aq (t.map ei) w).getD (.pointer none)= .pointer j/\j.isSome=(aq D.cQ.files w).isSome:=by
   rcases c.box w with⟨z,A⟩|⟨T,b0,bm,z,A⟩
   ·exact⟨none,by rw[A];rfl,by rw[z];rfl⟩
   ·exact⟨XL T.q,by rw[A];rfl,by rw[z];rfl⟩
  obtain⟨j,U,B⟩:=S;rw[U]at J;refine⟨_,ae (h.get u id) rfl,a,0,rfl,some g,ae y.head rfl,w,ae (h.get v id) rfl,j,J,j.isSome,λl=>oN uF _ _ j _,λV C=>al.mk (λW=>Ok.mk ?_) (λK=>?_)⟩
  ·rw[i,Zx rfl,Zx (by rw[<-B];exact W)]
   exact⟨f,rfl,(y.af C.keep).at,ai.keep (h.af C.keep),λ_ P=>.inl P⟩
  ·have o:ai r V:=h.af C.keep
   have E:=c.af o;have a8:(t.map ei).length=D.cQ.files.length:=by rw[c.files];simp
   refine⟨_,ae (o.get u id) rfl,a,0,rfl,some g,ae E.head rfl,Sh mF E.map ⟨_,rfl,al.dec (λa9=>Ok.mk ?_) (λb3=>λm X=>?_)⟩⟩
   ·rw[i,Zx rfl,Zq (by rw[<-B,K];simp),Zx oM]
    exact⟨f,rfl,E.at,o.keep,λ_ P=>.inl P⟩
   ·have k:ai r m:=o.af X.keep
    have p:=c.af k;have b4:=c.map.lt;have b5:=aB c.head;have a7:b.heap.size<=r.heap.size:=by have:=s.size;omega
    have L:∀e,b.heap.size<=e->e≠g:=λe d a2=>by have:=P.aE g c.Fr;omega
    refine⟨(·=g),L _ (Q4 _),_,ae (k.get u id) rfl,a,0,rfl,c.pr,some g,ae p.head rfl,L _ oM,w,ae (k.get v id) rfl,PA.mk λM q s7 Y=>⟨q.keep,iN mF kS (p.af q).map λw8 Z F b6=>⟨F,Ok.mk ?_⟩⟩⟩;have a3:=p.af q;have a0:eA M m.heap.size (·=m.heap.size) ⟨[],0,false⟩:=⟨⟨none,0,0,λ_=>False,Y,aV.nil M,λ_ P=>P.elim,λP=>P⟩,rfl,λe d=>oM⟩
    have a4:(D.cQ.fv w ⟨[],0,false⟩).Ok:=c.ok.put i (by have:=c.ok.fits;simpa using this) oM (Q4 _);have a5:=a3.put (q:=m.heap.size) (G':=(·=m.heap.size)) Z F a0 (λa1 hy _ e d a6=>by have:=(p.each.each a1 hy).aE e a6;omega) (λe d=>by have:=k.size;omega) a4;rw[i,Zx rfl,Zq (by rw[<-B,K];simp),Zq oM];refine⟨_,rfl,a5.at,⟨(k.keep.af q).then (F.mono λe _ d=>by rw[d];exact c.Fr),λe d=>d.imp id λP=>by have:=k.size;omega⟩⟩
 ·rw[i]
  exact⟨f,rfl,(c.af h).at,h.keep,λ_ P=>.inl P⟩
def gy(P:List (ByteArray×my)):Nat:=(P.map λa=>a.2.f.bytes.length).sum
def Ck(P:List (ByteArray×my)):gy P=eI (P.map tX):=by unfold gy eI;rw[List.map_map];rfl
def vP{left:List (ByteArray×my)}(d:left.map ei=f2++(w,v)::g3):
  ∃P a b,left=P++(w,a)::b/\f2=P.map ei/\g3=b.map ei/\v=ptr a.q:=by
 obtain⟨P,k,e,f,g⟩:=List.map_eq_append_iff.1 d;obtain⟨h,b,i,c,j⟩:=List.map_eq_cons_iff.1 g;obtain⟨l,a⟩:=h;simp only[ei,Prod.mk.injEq]at c;obtain⟨rfl,rfl⟩:=c;exact⟨P,a,b,by rw[e,i],f.symm,j.symm,rfl⟩
def LP{D:ak}(h:aT b a f D):
  ZH 224 #[XP a] b (Ok λk i=>k= QH D.room/\ai b i):=by
 obtain⟨l,c,d⟩:=h.open;have Q:=d.ok.most;have m:=d.ok.fits;unfold ak.used at m;rw[d.files,<-Ck]at m;refine tN ⟨a,0,rfl,_,ae d.head rfl,a,0,rfl,some l,ae d.head rfl,mapRange mF d.map λR v w S=>?_⟩;refine⟨λn o i=>∃left:List (ByteArray×my),dG i b.heap.size l Value.string (c.map ei) (left.map ei)/\n=left.length/\o=(D.most:Int)-gy c+gy left/\gy left<=gy c/\ai b i/\∀P∈left,P∈c,
  ⟨_,c,v,rfl,oM,Q4 _,w,λ_ h=>h⟩,?_⟩
 rintro n o T U ⟨left,x,rfl,rfl,V,p,q⟩;refine qq x (λy=>.inl ⟨rfl,Ok.mk ⟨?_,p⟩⟩) λj k W X r z A B C Y=>.inr ⟨_,_,rfl,ub B ?_⟩
 ·have:left=[]:=by simpa using y
  subst this;simp only[gy,List.map_nil,List.sum_nil,ak.room,ak.used];rw[d.files,<-Ck];simp[gy]
 ·obtain⟨g,P,e,rfl,rfl,rfl,rfl⟩:=vP z
  have E:(j,P)∈c:=q _ sM;have s:ai b r:=p.new C λe Z=>.inr oM;have F:eA r P.q P.G P.f:=(d.each.each _ E).keep s λ_ _ h=>h;obtain⟨H,t,I,F0,J,K,h3,h4⟩:=F.body;have L:=K.len dC;have M:gy (g++(j,P)::e)=gy (g++e)+P.f.bytes.length:=by simp[gy];omega
  have N:XH .i64 ((D.most:Int)-gy c+gy (g++(j,P)::e)-((t:Nat):Int))=(D.most:Int)-gy c+gy (g++e):=by
   rw[wrap_i64 bb,L,M];omega
  refine⟨_,_,rfl,P.q,0,rfl,H,t,I,ae J rfl,(g++e).length,sM,g++e,?_,rfl,N,oM,s,λO u=>q O ?_⟩
  ·rw[Q3];exact A
  ·simp only[Q6,Q2]at u⊢;exact u.imp id .inr
def wD{D:ak}(h:aT b a f D)(e:Row fF 1 b a2 d c s)(X:d=none->c=0/\j=0)(x:∀P,a2 P->P<b.heap.size/\¬f P):
  ZH 156 #[XP a,.string w,.slice d c j] b (Ok (tY b a f (D.append w s))):=by
 have K:=e.len;have Y:=e.ef;unfold aS at Y;refine qJ (PA.mk λw1 y s1 L=>PA.mk λw2 l s2 Z=>⟨_,ae (l.get L id) rfl,PC.ok (tZ ((h.af y).af l) (k:=w) (g:=223)
  (body:=λD M=>if(s.length:Int)>D.room then(12,D)else(0,D.fv w {M with bytes:=M.bytes++s})) kR λhd r a0 b6 g i z t=>?_) λa1 w' h=>kW a1 w' (y.af l) h⟩)
 have e1:=t.get (l.get L id) λe=>by have:=h.aE _ e;omega
 have N:=t.get Z λe=>by have:=h.aE _ e;omega
 have a4:Row fF 1 r a2 d c s:=((e.af y).af l).keep t λP e=>(x P e).2;have A:=i.get z;refine ou λw4 u=>⟨λ_=>False,id,d,c,j,ae (u.keep (S:=λ_=>False)|>.get N id) rfl,_,ae (u.keep (S:=λ_=>False)|>.get e1 id) rfl,PC.ok (LP (i.af u.keep).at) ?_⟩
 rintro _ w5 ⟨rfl,O⟩;have B:ai r w5:=(bY.keep u).then O;refine⟨_,rfl,O,al.dec (λa5=>Ok.mk ?_) (λa6=>λm a7=>?_)⟩
 ·rw[Zx (by rw[<-K];exact a5)]
  exact⟨f,rfl,(i.af B).at,B.keep,λ_ h=>.inl h⟩
 ·have n:ai r m:=B.af a7.keep
  have C:=i.af n;have Q:=b_ z;have E:eA m g.q g.G g.f:=C.each.each _ Q;obtain⟨v,R,fc,F0,F,o,H,S⟩:=E.body;have b7:=o.len dC;have b8:g.f.bytes.length<=262144:=i.ok.len (b_ A);have a8:∀P,g.G P->f P/\P≠a/\P≠a0:=C.Gk _ Q;refine⟨g.q,0,rfl,v,R,fc,ae F rfl,d,c,j,ae (n.get N id) rfl,?_⟩;have a3:∀P,a2 P->P<m.heap.size/\aI v≠some P:=λP e=>⟨by have:=(x P e).1;have:=t.size;have:=n.size;omega,λk=>(x P e).2 (a8 P (H P (o.self P k))).1⟩
  have b9:D.cQ.room<=262144:=by have:=i.ok.most;unfold ak.room;omega
  refine yi o rU (a4.af n) X a3 ba (by unfold maxLen;omega) λp c' w7 F' I J _ T=>?_;have hq:aI v≠some g.q:=λk=>S (o.self _ k);have c0:=aB F;have q:aI p≠some g.q:=λk=>by rcases T _ k with h|h;exact S h;omega
  refine⟨_,_,_,rfl,g.q,0,rfl,PS.mk (J.get F hq) sM λU V s8 g8=>Ok.mk ?_⟩;have W:¬((s.length:Int)>D.cQ.room):=by rw[<-K];exact a6
  rw[Zq W];have a9:∀P,aI v=some P->g.G P:=λP k=>H P (o.self P k);have b0:eA U g.q (λP=>P=g.q\/aI p=some P) {g.f with bytes:=g.f.bytes++s}:=
   ⟨⟨p,R+c,c',λP=>aI p=some P,g8,I.alone.keep V (λP e b1=>q (by rw[<-b1];exact e)),λP e=>.inr e,q⟩,.inl rfl,by
    rintro P (rfl|e)
    ·have:=J.size;omega
    ·have:=I.aE P (I.self P e);omega⟩
  have b2:cO g.G m (λP=>P=g.q\/aI p=some P) U:=⟨(J.mono λP _ e=>a9 P e).then (V.mono λP _ e=>e▸E.self),by
   rintro P (rfl|e)
   ·exact .inl E.self
   ·exact(T P e).imp (λh=>H P h) id⟩
  have b3:(D.cQ.fv w {g.f with bytes:=g.f.bytes++s}).Ok:=i.ok.set A (by
   unfold ak.room at W;simp only[QX];omega) (by have:=i.ok.Pw _ (b_ A);simp only[QX];show g.f.synced<=_;have h':g.f.synced<=g.f.bytes.length:=this;omega)
  obtain⟨F2,b4,b5⟩:=C.fB z b0 b2 b3;exact⟨F2,rfl,b4.at,(cO.mk n.keep λ_ h=>.inl h:cO f r f m).trans b5⟩
def vQ{D:ak}(h:aT b a f D):
  ZH 181 #[XP a,.string w] b (Ok λm n=>∃j,m= .tuple #[j,QH (D.read w).2]/\vh fF 5 b (D.read w).1 j n):=by
 obtain⟨k,C,c⟩:=h.open;have P:vh fF 5 b [] (.slice none 0 0) b:=⟨none,0,0,λ_=>False,rfl,aV.nil b,aj.refl _,λ_ h=>h.elim⟩
 rcases c.box w with⟨g,i⟩|⟨e,E,o,g,i⟩
 ·refine kU ⟨a,0,rfl,some k,ae c.head rfl,yk mF kS c.map ?_⟩
  rw[i];refine⟨_,rfl,a,0,rfl,_,ae c.head rfl,al.mk (λd=>Ok.mk ?_) (λd=>gq uF ⟨_,rfl,al.tt rfl (Ok.mk ?_)⟩)⟩
  ·unfold ak.read;rw[d,Zx rfl];exact⟨_,rfl,P⟩
  ·unfold ak.read;rw[d,Zq sM,g];exact⟨_,rfl,P⟩
 ·refine kU ⟨a,0,rfl,some k,ae c.head rfl,yk mF kS c.map ?_⟩
  rw[i];refine⟨_,rfl,a,0,rfl,_,ae c.head rfl,al.mk (λd=>Ok.mk ?_) (λd=>gq uF ⟨_,rfl,al.ff rfl ?_⟩)⟩
  ·unfold ak.read;rw[d,Zx rfl];exact⟨_,rfl,P⟩
  ·have p:eA b e.q e.G e.f:=c.each.each _ o
   obtain⟨q,r,s,F,t,l,H,I⟩:=p.body;have J:e.f.bytes.length<=262144:=c.ok.len (b_ g);refine⟨e.q,0,rfl,q,r,s,ae t rfl,PC.ok (ki (l.row dC ba) l.aE) ?_⟩;rintro _ K ⟨u,v,x,y,rfl,z,A,B⟩;unfold ak.read;rw[d,Zq sM,g];exact⟨_,_,_,rfl,Ok.mk ⟨_,rfl,u,v,x,y,rfl,z,A,B⟩⟩
def vR{D:ak}(k:aT b a f D):
  ZH 176 #[XP a] b (Ok (vh LM 9 b D.list)):=by
 obtain⟨h,i,P⟩:=k.open;have z:=P.ok.many;have A:i.length=D.files.length:=by rw[P.files];simp
 refine tK ⟨a,0,rfl,some h,ae P.head rfl,PC.ok (φ:=λl e=>l= .func (.func 296) #[] #[XP b.heap.size]/\ai b e/\e.heap.size=b.heap.size+1/\
  e.heap[b.heap.size]? =some (.cells #[.map (some h)] 140 (0,0))) (dN (PA.mk λm c j g=>Ok.mk ⟨rfl,c,j,g⟩)) ?_⟩
 rintro _ m ⟨rfl,c,j,g⟩;refine⟨_,rfl,PC.ok (xV (P.map.af c) (λB n=>?_) (by rw[Q8];unfold aS;omega) g) ?_⟩
 ·obtain⟨d,o,rfl⟩:=Xk.1 n
  have:=P.ok.names (tX d) (by rw[P.files];exact Xk.2 ⟨d,o,rfl⟩);unfold cV at this;simp only[QK,Zk]at this;have C:d.1.size<=16:=this.1.2;show d.1.size<=maxLen;unfold maxLen;omega
 ·rintro _ E ⟨p,q,r,s,rfl,t,u,v⟩
  refine⟨_,_,_,rfl,Ok.mk ⟨p,q,r,s,rfl,?_,c.af u,λw x=>by have:=v w x;omega⟩⟩;have y:rk ((i.map ei).map (·.1))=D.list:=by unfold ak.list;rw[P.files,List.map_map,List.map_map];rfl
  rw[<-y];exact t
def Gq{P:List (ByteArray×i)}(a:Tidy P)(b:ByteArray):bI P b=P.filter λc=>c.1 !=b:=by
 induction P with
 |nil=>rfl
 |cons g P f=>
  obtain⟨c,l⟩:=g;unfold Tidy at a f;simp only[QY,List.nodup_cons]at a;unfold bI
  by_cases d:(b==c)=true
  ·rw[Zx d]
   have h:b=c:=eq_of_beq d;subst h;rw[List.filter_cons_of_neg sM];exact(List.filter_eq_self.2 λj k=>by
    simp only[bne_iff_ne,ne_eq];intro e;exact a.1 (e▸Xk.2 ⟨j,k,rfl⟩)).symm
  ·rw[Zq d,f a.2,List.filter_cons_of_pos]
   simp only[bne_iff_ne,ne_eq];intro e;exact d (by rw[e];simp)
def stays(left:List (ByteArray×my))(P:ByteArray×my):Bool:=P.2.f.iS||left.any λa=>a.1==P.1
def xW(J:bU b a Value.string (a0.map ei))(m:Ci b a0)(K:∀P∈a0,∀d,P.2.G d->d≠a):
  ZH 121 #[.map (some a),.func (.func 122) #[] #[]] b
   (Ok λo i=>o= .tuple #[]/\bU i a Value.string ((a0.filter λP=>P.2.f.iS).map ei)/\aj (·=a) b i):=by
 have L:enters XG 122=true:=kR
 refine dd (mapRange mF J λw1 M N s1=>?_);refine⟨λu i=>∃left:List (ByteArray×my),dG i b.heap.size a Value.string ((a0.filter (stays left)).map ei) (left.map ei)/\u=left.length/\aj (·=a) b i/\(∀P∈left,P∈a0)/\Tidy left,
  ⟨_,a0,?_,rfl,N.keep,λ_ O=>O,m.tidy⟩,?_⟩
 ·have j:a0.filter (stays a0)=a0:=List.filter_eq_self.2 λP n=>by
   unfold stays;rw[Bool.or_eq_true];exact .inr (List.any_eq_true.2 ⟨P,n,sM⟩)
  rw[j];exact M
 ·rintro u a1 w2 ⟨left,p,rfl,v,w,k⟩
  refine qq p (λl=>.inl ⟨rfl,Ok.mk ⟨rfl,?_,v⟩⟩) λe o l1 l2 r Q x R S s3=>.inr ⟨_,_,rfl,ub R ?_⟩
  ·have:left=[]:=by simpa using l
   subst this;have j:(a0.filter (stays []))=a0.filter λP=>P.2.f.iS:=List.filter_congr λP _=>by simp[stays]
   rw[j]at p;exact p.map
  ·obtain⟨f,P,d,rfl,rfl,rfl,rfl⟩:=vP Q
   have n:(e,P)∈a0:=w _ sM;have a6:b.heap.size≠a:=p.ne;have s:aj (·=a) b r:=v.new S λd y=>.inr oM;have T:eA r P.q P.G P.f:=(m.each _ n).keep s λd y=>K _ n d y;obtain⟨fa,fn,fc,F0,q,z,h3,h4⟩:=T.body;have A:e∉(f++d).map (·.1):=by
    unfold Tidy at k;rw[Q3,QY]at k;rw[Q3];intro U;have V:=(List.perm_middle (a:=e) (l₁:=f.map (·.1)) (l₂:=d.map (·.1))).nodup_iff.1 k;exact(List.nodup_cons.1 V).1 U
   have B:∀c∈a0,c.1≠e->stays (f++(e,P)::d) c=stays (f++d) c:=λc g h=>by
    unfold stays
    congr 1
    have:(e==c.1)=false:=beq_false_of_ne (Ne.symm h);simp[List.any_append,this]
   have C:∀c∈a0,c.1=e->c=(e,P):=λc g l=>by
    have q:=pw m.tidy (k:=c.1) (v:=c.2) g;have z:=pw m.tidy (k:=e) (v:=P) n;rw[l,z]at q;exact Prod.ext l (XJ q).symm
   have W:(f++d).any (λc=>c.1==e)=false:=by
    rw[List.any_eq_false];intro c g l;exact A (Xk.2 ⟨c,g,eq_of_beq l⟩)
   have E:Tidy (f++d):=by
    unfold Tidy at k⊢;rw[Q3,QY]at k;rw[Q3];exact(List.nodup_cons.1 ((List.perm_middle (a:=e) (l₁:=f.map (·.1)) (l₂:=d.map (·.1))).nodup_iff.1 k)).2
   have F:∀c∈f++d,c∈a0:=λc g=>w c (by simp only[Q6,Q2]at g⊢;exact g.imp id .inr);have H:(f++d).length<(f++(e,P)::d).length:=sM
   refine⟨_,_,rfl,_,_,_,rfl,L,PC.ok (φ:=λo i=>o= .bool (!P.f.iS)/\i=r) (pf ⟨P.q,0,rfl,_,ae q rfl,Ok.mk ⟨rfl,rfl⟩⟩) ?_⟩;rintro _ _ ⟨rfl,rfl⟩;refine⟨_,rfl,al.not (al.mk (λt=>⟨_,H,f++d,?_,rfl,s,F,E⟩) (λt=>?_))⟩
   ·have j:a0.filter (stays (f++(e,P)::d))=a0.filter (stays (f++d)):=List.filter_congr λc g=>by
     by_cases h:c.1=e
     ·rw[C c g h];simp[stays,t]
     ·exact B c g h
    rw[Q3,<-j];exact x
   ·refine NJ mF kS x (by rw[<-Q3];simpa[ei,Function.comp_def]using A) λw4 I X s4=>⟨_,H,f++d,?_,rfl,s.then X,F,E⟩
    have j:bI ((a0.filter (stays (f++(e,P)::d))).map ei) e=(a0.filter (stays (f++d))).map ei:=by
     have Y:bI ((a0.filter (stays (f++(e,P)::d))).map ei) e=(bI (a0.filter (stays (f++(e,P)::d))) e).map ei:=(zB (λP:my=>ptr P.q) _ e).symm;have Z:Tidy (a0.filter (stays (f++(e,P)::d))):=List.Nodup.sublist (List.Sublist.map _ List.filter_sublist) m.tidy;rw[Y,Gq Z,List.filter_filter]
     congr 1
     refine List.filter_congr λc g=>?_
     by_cases h:c.1=e
     ·rw[C c g h]
      simp only[stays,t,W,Bool.or_false,bne_self_eq_false,Bool.false_and]
     ·rw[B c g h]
      have:(c.1 !=e)=true:=by simpa using h
      rw[this,Bool.true_and]
    rw[j,<-Q3]at I;exact I

import Derived.Test.YtblabbpipmodgaaGreatDoorKr9
set_option linter.all false
namespace Go.aw
open Go
def tV{P:Program}(f:World)(l q j:TypeId)(e:TypeInfo)(r:P.underlying l=some (.slice j))(s:P.info? j=some e)(i g b c:Nat)(d:Array Value)(t:f.heap[i]? =some (.cells d j (0,0)))(m:Addr)(h n:Nat)(a:List Value)(u:a.length=h*e.size)(v:∀o k,a[o]? =some k->f.cell? (m.add o)=some k)(w:∀k∈a,k.oneCell'=true)(x:b+h<=c)(y:g+b*e.size+a.length<=d.size):
  (Builtin.append_ #[l,l] q #[.slice (some ⟨i,g,none⟩) b c,.slice (some m) h n]).run P f=
   .ok (.slice (some ⟨i,g,none⟩) (b+h) c) (f.setRow i (d.toList.take (g+b*e.size)++a++d.toList.drop (g+b*e.size+a.length)).toArray):=by
 have z:=run_firstCells_some (P:=P) f e.size h m h n a u v;have p:=run_storeCells_at P i (g+b*e.size) j a 0 d f t (by simpa using y) w;simp only[Nat.add_zero]at p;simp[Builtin.append_,run_underlying r,sizeOf,typeInfo,s,Builtin.lenOf,x,z,Addr.add_lit,p]
structure KY (w:World) (e:TypeId) (k:Nat) (a:YQ) (n c:Nat) (cs:List Value):Prop where
 len:cs.length=n*k
 body:(a=none/\n=0/\c=0)\/∃g o cur,a=some ⟨g,o,none⟩/\w.heap[g]? =some (.cells cur e (0,0))/\n<=c/\o+c*k<=cur.size/\c<=maxLen/\(cur.toList.drop o).take (n*k)=cs
variable{d:YQ}{h:Program}{m t:ZR}
section
variable {w w':World} {e:TypeId} {k n c:Nat} {a:YQ} {cs:List Value} {S:ZN}
def Own.Xt(d:Own w e k a n c cs):KY w e k a n c cs:=by
 refine⟨d.length,?_⟩;rcases d.row.2 with⟨P,m⟩|⟨f,g,b,P,_,h,i,j,o,l⟩
 ·simp only[XX]at P
  obtain⟨rfl,rfl,rfl⟩:=P;exact .inl ⟨rfl,rfl,rfl⟩
 ·simp only[XX]at P
  obtain⟨rfl,-,rfl⟩:=P;exact .inr ⟨f,0,b,rfl,h,i,oM,j,by simpa using l⟩
def KY.keep(b:KY w e k a n c cs)(g:aj S w w')(h:∀d,aH a=some d->¬S d):KY w' e k a n c cs:=by
 refine⟨b.len,?_⟩;rcases b.body with i|⟨f,j,P,rfl,l,m⟩
 ·exact .inl i
 ·exact .inr ⟨f,j,P,rfl,g.get l (h f rfl),m⟩
def KY.lt(d:KY w e k a n c cs):∀P,aH a=some P->P<w.heap.size:=λP b=>by
 rcases d.body with⟨rfl,_⟩|⟨h,i,f,rfl,g,j⟩
 ·cases b
 ·simp only[aH,Q1]at b;subst b;exact aA g
def IF(a:YQ)(P c k:Nat):aH (cI a P c k)=aH a:=by
 unfold cI;split
 ·rfl
 ·cases a with
  |none=>rfl
  |some b=>rcases b with⟨e,f,d⟩;cases d<;>simp[aH,Addr.add]<;>split<;>rfl
def KY.tail(b:KY w e k a n c cs)(o:1<=n):KY w e k (cI a 1 c k) (n-1) (c-1) (cs.drop k):=by
 have d:=b.len;refine⟨by rw[XZ,d,Nat.sub_mul,Nat.one_mul],?_⟩;rcases b.body with⟨rfl,p,_⟩|⟨f,g,P,rfl,h,q,j,r,l⟩
 ·omega
 ·have s:c*k=(c-1)*k+k:=by
   have:c=(c-1)+1:=oM
   conv=>lhs;rw[this,X7,Nat.one_mul]
  have m:n*k=(n-1)*k+k:=by
   have:n=(n-1)+1:=oM
   conv=>lhs;rw[this,X7,Nat.one_mul]
  by_cases i:c=1
  ·subst i
   obtain rfl:n=1:=oM
   refine .inr ⟨f,g,P,by simp[cI],h,oM,by simp at j⊢;omega,oM,?_⟩;have:cs.length<=k:=by rw[d];omega
   simp[List.drop_eq_nil_of_le this]
  ·refine .inr ⟨f,g+k,P,by simp[cI,i,Addr.add_lit],h,oM,oM,oM,?_⟩
   rw[<-l,List.drop_take,List.drop_drop,m,Nat.add_sub_cancel]
def KY.cell(f:KY w e k a n c cs)(l:1<=n):∃P b,a=some ⟨P,b,none⟩/\∀j,j<n*k->w.cell? ⟨P,b+j,none⟩=cs[j]? :=by
 rcases f.body with⟨rfl,m,_⟩|⟨P,b,d,rfl,g,o,p,q,h⟩
 ·omega
 ·refine⟨P,b,rfl,λj i=>?_⟩
  rw[cell_of_row w P (b+j) d e (0,0) g,<-h,Xw,Zx i,List.getElem?_drop];simp
def KY.app{o B:TypeId}{bytes:Nat}(q:KY w e k a n c cs)(r:jq h o e k bytes){P C:Nat}{news:List Value}(b:news.length=P*k)(S:d=none->P=0/\C=0)(x:∀s,d=some s->∀f j,news[f]? =some j->w.cell? (s.add f)=some j)(O:∀j∈news,j.oneCell'=true)(y:(n+P)*bytes<=aO)(E:n+P<=maxLen)(g:∀u F w',KY w' e k u (n+P) F (cs++news)->aj (λf=>aH a=some f) w w'->(aH u=aH a\/aH u=some w.heap.size)->m (.slice u (n+P) F) w'):
  aG h (Builtin.append_ #[o,o] B #[.slice a n c,.slice d P C]) w m t:=by
 obtain⟨Q,T,H,U,z,V,W⟩:=jq.info r;have p:=q.len
 cases d with
 |none=>
  obtain⟨rfl,rfl⟩:=S rfl;have X:news=[]:=QW (by simpa using b);subst X;have Y:(Builtin.append_ #[o,o] B #[.slice a n c,.slice none 0 0]).run h w= .ok (.slice a n c) w:=by
   rcases q.body with⟨rfl,rfl,rfl⟩|⟨l,v,i,rfl,I,R,Z,E,L⟩
   ·simp[Builtin.append_,run_underlying r.under,sizeOf,typeInfo,H,Builtin.lenOf,Builtin.firstCells]
   ·simp[Builtin.append_,run_underlying r.under,sizeOf,typeInfo,H,Builtin.lenOf,Builtin.firstCells,R,storeCells]
  exact aG.mk Y (g a c w (by simpa using q) (aj.refl _) (.inl rfl))
 |some s=>
  have x:=x s rfl;rcases q.body with⟨rfl,rfl,rfl⟩|⟨l,v,i,rfl,I,R,Z,a5,L⟩
  ·have a6:cs=[]:=QW (by simpa using p)
   subst a6;exact EU r (Own.nil w e k) x b O y E λu F w' ho hk a7=>g u F w' ho.Xt (hk.mono λJ _ q=>q.symm) a7
  ·by_cases M:n+P<=c
   ·have a9:n*k+P*k<=c*k:=by rw[<-X7];exact Q0 _ M
    have K:=tV (P:=h) w o B e Q r.under H l v n c i I s P C news (by rw[z];exact b) x O M (by rw[z,b];omega);rw[z]at K;refine aG.mk K (g _ _ _ ⟨by rw[QX,p,b,X7],.inr ⟨l,v,_,rfl,setRow_heap w l i _ e _ I,M,?_,a5,?_⟩⟩ ⟨rfl,rfl,rfl,sM,λJ N y=>?_⟩ (.inl rfl))
    ·simp only[List.size_toArray,QX,Qy,XZ,XK]
     omega
    ·simp only[XQ]
     rw[List.drop_append_of_le_length (by rw[Qy,XK];omega),List.drop_take,Nat.add_sub_cancel_left,L,<-XQ];exact List.take_left' (by rw[QX,p,b,X7])
    ·exact setRow_other w l J _ λe=>y (by simp[aH,e])
   ·have a0:∀f j,cs[f]? =some j->w.cell? ((⟨l,v,none⟩:Addr).add f)=some j:=λf j A=>by
     rw[Addr.add_lit,cell_of_row w l (v+f) i e (0,0) I];rw[<-L,Xw]at A;split at A
     ·rw[List.getElem?_drop]at A;simpa using A
     ·cases A
    have K:=run_append_grow (P:=h) w o B e Q T r.under H U ⟨l,v,none⟩ n c cs (by rw[z];exact p) a0 s P C news (by rw[z];exact b) x oM (by unfold maxLen at E;omega) (growslice_fits oM (by rw[V];unfold aO at y;omega));have a8:=grownCap_ge w (n+P) c e;have a1:=grownCap_le_maxLen w (n+P) c e E;refine aG.mk K (g _ _ _ ⟨by rw[QX,p,b,X7],.inr ⟨w.heap.size,0,_,rfl,heap_alloc_new w.drew _,a8,?_,a1,?_⟩⟩ ⟨rfl,rfl,rfl,sM,λJ N y=>by first|exact heap_alloc_old w.drew _ J N|exact heap_alloc_old w.drew _ N⟩ (.inr rfl))
    ·simp only[Array.size_append,List.size_toArray,size_zeroCells,W,p,b,<-X7,Xz]
     exact Q0 _ oM
    ·simp only[Array.toList_append,List.drop_zero]
     exact List.take_left' (by rw[QX,p,b,X7])

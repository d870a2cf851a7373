import Derived.Test.YtblabbpipmodgaaGreatDoorKp9
set_option linter.all false
namespace Go.aw
open Go
def tg{P:Program}(f:World)(l q j:TypeId)(e:TypeInfo)(r:P.underlying l=some (.slice j))(s:P.info? j=some e)(i g b c:Nat)(d:Array Value)(t:f.heap[i]? =some (.cells d j (0,0)))(m:Addr)(h n:Nat)(a:List Value)(u:a.length=h*e.size)(v:∀o k,a[o]? =some k->f.cell? (m.add o)=some k)(w:∀k∈a,k.oneCell'=true)(x:b+h<=c)(y:g+b*e.size+a.length<=d.size):
  (Builtin.append_ #[l,l] q #[.slice (some ⟨i,g,none⟩) b c,.slice (some m) h n]).run P f=
   .ok (.slice (some ⟨i,g,none⟩) (b+h) c) (f.setRow i (d.toList.take (g+b*e.size)++a++d.toList.drop (g+b*e.size+a.length)).toArray):=by
 have z:=run_firstCells_some (P:=P) f e.size h m h n a u v;have p:=run_storeCells_at P i (g+b*e.size) j a 0 d f t (by simpa using y) w;simp only[Nat.add_zero]at p;simp[Builtin.append_,run_underlying r,sizeOf,typeInfo,s,Builtin.lenOf,x,z,Addr.add_lit,p]
structure Kb (w:World) (e:TypeId) (k:Nat) (a:ZH) (n c:Nat) (cs:List Value):Prop where
 len:cs.length=n*k
 body:(a=none/\n=0/\c=0)\/∃g o cur,a=some ⟨g,o,none⟩/\w.heap[g]? =some (.cells cur e (0,0))/\n<=c/\o+c*k<=cur.size/\c<=maxLen/\(cur.toList.drop o).take (n*k)=cs
variable{d:ZH}{h:Program}{g o:TypeId}{l s:XR}
section
variable {w w':World} {e:TypeId} {k n c:Nat} {a:ZH} {cs:List Value} {S:XN}
def Own.Wj(d:Own w e k a n c cs):Kb w e k a n c cs:=by
 refine⟨d.length,?_⟩;rcases d.row.2 with⟨P,m⟩|⟨f,g,b,P,_,h,i,j,o,l⟩
 ·simp only[XX]at P
  obtain⟨rfl,rfl,rfl⟩:=P;exact .inl ⟨rfl,rfl,rfl⟩
 ·simp only[XX]at P
  obtain⟨rfl,-,rfl⟩:=P;exact .inr ⟨f,0,b,rfl,h,i,oM,j,by simpa using l⟩
def Kb.af(b:Kb w e k a n c cs)(g:ak S w w')(h:∀d,aI a=some d->¬S d):Kb w' e k a n c cs:=by
 refine⟨b.len,?_⟩;rcases b.body with i|⟨f,j,P,rfl,l,m⟩
 ·exact .inl i
 ·exact .inr ⟨f,j,P,rfl,g.get l (h f rfl),m⟩
def Kb.lt(d:Kb w e k a n c cs):∀P,aI a=some P->P<w.heap.size:=λP b=>by
 rcases d.body with⟨rfl,_⟩|⟨h,i,f,rfl,g,j⟩
 ·cases b
 ·simp only[aI,Q1]at b;subst b;exact ay g
def HE(a:ZH)(P c k:Nat):aI (cx a P c k)=aI a:=by
 unfold cx;split
 ·rfl
 ·cases a with
  |none=>rfl
  |some b=>rcases b with⟨e,f,d⟩;cases d<;>simp[aI,Addr.add]<;>split<;>rfl
def Kb.tail(b:Kb w e k a n c cs)(o:1<=n):Kb w e k (cx a 1 c k) (n-1) (c-1) (cs.drop k):=by
 have d:=b.len;refine⟨by rw[XZ,d,Nat.sub_mul,Nat.one_mul],?_⟩;rcases b.body with⟨rfl,p,_⟩|⟨f,g,P,rfl,h,q,j,r,l⟩
 ·omega
 ·have s:c*k=(c-1)*k+k:=by
   have:c=(c-1)+1:=oM
   conv=>lhs;rw[this,X7,Nat.one_mul]
  have m:n*k=(n-1)*k+k:=by
   have:n=(n-1)+1:=oM
   conv=>lhs;rw[this,X7,Nat.one_mul]
  by_cases i:c=1
  ·subst i
   obtain rfl:n=1:=oM
   refine .inr ⟨f,g,P,by simp[cx],h,oM,by simp at j⊢;omega,oM,?_⟩;have:cs.length<=k:=by rw[d];omega
   simp[List.drop_eq_nil_of_le this]
  ·refine .inr ⟨f,g+k,P,by simp[cx,i,Addr.add_lit],h,oM,oM,oM,?_⟩
   rw[<-l,List.drop_take,List.drop_drop,m,Nat.add_sub_cancel]
def Kb.cell(f:Kb w e k a n c cs)(l:1<=n):∃P b,a=some ⟨P,b,none⟩/\∀j,j<n*k->w.cell? ⟨P,b+j,none⟩=cs[j]? :=by
 rcases f.body with⟨rfl,m,_⟩|⟨P,b,d,rfl,g,o,p,q,h⟩
 ·omega
 ·refine⟨P,b,rfl,λj i=>?_⟩
  rw[cell_of_row w P (b+j) d e (0,0) g,<-h,Xw,Zx i,List.getElem?_drop];simp
def Kb.app{bytes:Nat}(r:Kb w e k a n c cs)(t:iH h g e k bytes){P C:Nat}{news:List Value}(b:news.length=P*k)(S:d=none->P=0/\C=0)(y:∀u,d=some u->∀f m,news[f]? =some m->w.cell? (u.add f)=some m)(O:∀m∈news,m.oneCell'=true)(z:(n+P)*bytes<=aO)(E:n+P<=maxLen)(i:∀v F w',Kb w' e k v (n+P) F (cs++news)->ak (λf=>aI a=some f) w w'->(aI v=aI a\/aI v=some w.heap.size)->l (.slice v (n+P) F) w'):
  aH h (Builtin.append_ #[g,g] o #[.slice a n c,.slice d P C]) w l s:=by
 obtain⟨Q,T,H,U,A,V,W⟩:=iH.info t;have q:=r.len
 cases d with
 |none=>
  obtain⟨rfl,rfl⟩:=S rfl;have X:news=[]:=QW (by simpa using b);subst X;have Y:(Builtin.append_ #[g,g] o #[.slice a n c,.slice none 0 0]).run h w= .ok (.slice a n c) w:=by
   rcases r.body with⟨rfl,rfl,rfl⟩|⟨p,x,j,rfl,I,R,Z,E,L⟩
   ·simp[Builtin.append_,run_underlying t.under,sizeOf,typeInfo,H,Builtin.lenOf,Builtin.firstCells]
   ·simp[Builtin.append_,run_underlying t.under,sizeOf,typeInfo,H,Builtin.lenOf,Builtin.firstCells,R,storeCells]
  exact aH.mk Y (i a c w (by simpa using r) (ak.refl _) (.inl rfl))
 |some u=>
  have y:=y u rfl;rcases r.body with⟨rfl,rfl,rfl⟩|⟨p,x,j,rfl,I,R,Z,a5,L⟩
  ·have a6:cs=[]:=QW (by simpa using q)
   subst a6;exact D_ t (Own.nil w e k) y b O z E λv F w' ho hk a7=>i v F w' ho.Wj (hk.mono λJ _ r=>r.symm) a7
  ·by_cases M:n+P<=c
   ·have a9:n*k+P*k<=c*k:=by rw[<-X7];exact Q0 _ M
    have K:=tg (P:=h) w g o e Q t.under H p x n c j I u P C news (by rw[A];exact b) y O M (by rw[A,b];omega);rw[A]at K;refine aH.mk K (i _ _ _ ⟨by rw[QX,q,b,X7],.inr ⟨p,x,_,rfl,setRow_heap w p j _ e _ I,M,?_,a5,?_⟩⟩ ⟨rfl,rfl,rfl,sM,λJ N z=>?_⟩ (.inl rfl))
    ·simp only[List.size_toArray,QX,Qy,XZ,XK]
     omega
    ·simp only[XQ]
     rw[List.drop_append_of_le_length (by rw[Qy,XK];omega),List.drop_take,Nat.add_sub_cancel_left,L,<-XQ];exact List.take_left' (by rw[QX,q,b,X7])
    ·exact setRow_other w p J _ λe=>z (by simp[aI,e])
   ·have a0:∀f m,cs[f]? =some m->w.cell? ((⟨p,x,none⟩:Addr).add f)=some m:=λf m B=>by
     rw[Addr.add_lit,cell_of_row w p (x+f) j e (0,0) I];rw[<-L,Xw]at B;split at B
     ·rw[List.getElem?_drop]at B;simpa using B
     ·cases B
    have K:=run_append_grow (P:=h) w g o e Q T t.under H U ⟨p,x,none⟩ n c cs (by rw[A];exact q) a0 u P C news (by rw[A];exact b) y oM (by unfold maxLen at E;omega) (growslice_fits oM (by rw[V];unfold aO at z;omega));have a8:=grownCap_ge w (n+P) c e;have a1:=grownCap_le_maxLen w (n+P) c e E;refine aH.mk K (i _ _ _ ⟨by rw[QX,q,b,X7],.inr ⟨w.heap.size,0,_,rfl,heap_alloc_new w.drew _,a8,?_,a1,?_⟩⟩ ⟨rfl,rfl,rfl,sM,λJ N z=>by first|exact heap_alloc_old w.drew _ J N|exact heap_alloc_old w.drew _ N⟩ (.inr rfl))
    ·simp only[Array.size_append,List.size_toArray,size_zeroCells,W,q,b,<-X7,Xz]
     exact Q0 _ oM
    ·simp only[Array.toList_append,List.drop_zero]
     exact List.take_left' (by rw[QX,q,b,X7])

import Derived.Test.YtfchlbaidamodaaGreatDoorKc9
set_option linter.all false
namespace Go.ax
open Go
def vo{P:Program}(f:World)(l q j:TypeId)(e:TypeInfo)(r:P.underlying l=some (.slice j))(s:P.info? j=some e)(i g b c:Nat)(d:Array Value)(t:f.heap[i]? =some (.cells d j (0,0)))(m:Addr)(h n:Nat)(a:List Value)(u:a.length=h*e.size)(v:∀o k,a[o]? =some k->f.cell? (m.add o)=some k)(w:∀k∈a,k.oneCell'=true)(x:b+h<=c)(y:g+b*e.size+a.length<=d.size):
  (Builtin.append_ #[l,l] q #[.slice (some ⟨i,g,none⟩) b c,.slice (some m) h n]).run P f=
   .ok (.slice (some ⟨i,g,none⟩) (b+h) c) (f.setRow i (d.toList.take (g+b*e.size)++a++d.toList.drop (g+b*e.size+a.length)).toArray):=by
 have z:=run_firstCells_some (P:=P) f e.size h m h n a u v;have p:=run_storeCells_at P i (g+b*e.size) j a 0 d f t (by simpa using y) w;simp only[Nat.add_zero]at p;simp[Builtin.append_,run_underlying r,sizeOf,typeInfo,s,Builtin.lenOf,x,z,Addr.add_lit,p]
structure MH (w:World) (e:TypeId) (k:Nat) (a:Option Addr) (n c:Nat) (cs:List Value):Prop where
 len:cs.length=n*k
 body:(a=none/\n=0/\c=0)\/∃g o cur,a=some ⟨g,o,none⟩/\w.heap[g]? =some (.cells cur e (0,0))/\n<=c/\o+c*k<=cur.size/\c<=maxLen/\(cur.toList.drop o).take (n*k)=cs
variable{d:Option Addr}{h:Program}{g q:TypeId}{o u:Value->World->Prop}
section
variable {w w':World} {e:TypeId} {k n c:Nat} {a:Option Addr} {cs:List Value} {S:Nat->Prop}
def Own.Zm(f:Own w e k a n c cs):MH w e k a n c cs:=by
 refine⟨f.length,?_⟩;rcases f.row.2 with⟨b,o⟩|⟨g,h,d,b,_,i,j,l,p,m⟩
 ·simp only[XX]at b
  obtain⟨rfl,rfl,rfl⟩:=b;exact .inl ⟨rfl,rfl,rfl⟩
 ·simp only[XX]at b
  obtain⟨rfl,-,rfl⟩:=b;exact .inr ⟨g,0,d,rfl,i,j,oM,l,by simpa using m⟩
def MH.keep(d:MH w e k a n c cs)(h:aj S w w')(i:∀f,aI a=some f->¬S f):MH w' e k a n c cs:=by
 refine⟨d.len,?_⟩;rcases d.body with j|⟨g,l,b,rfl,m,o⟩
 ·exact .inl j
 ·exact .inr ⟨g,l,b,rfl,h.get m (i g rfl),o⟩
def MH.lt(f:MH w e k a n c cs):∀b,aI a=some b->b<w.heap.size:=λb d=>by
 rcases f.body with⟨rfl,_⟩|⟨i,j,g,rfl,h,l⟩
 ·cases d
 ·simp only[aI,Q1]at d;subst d;exact aC h
def Kg(a:Option Addr)(b c k:Nat):aI (cM a b c k)=aI a:=by
 unfold cM;split
 ·rfl
 ·cases a with
  |none=>rfl
  |some d=>rcases d with⟨f,g,e⟩;cases e<;>simp[aI,Addr.add]<;>split<;>rfl
def MH.tail(d:MH w e k a n c cs)(p:1<=n):MH w e k (cM a 1 c k) (n-1) (c-1) (cs.drop k):=by
 have f:=d.len;refine⟨by rw[XZ,f,Nat.sub_mul,Nat.one_mul],?_⟩;rcases d.body with⟨rfl,q,_⟩|⟨g,h,b,rfl,i,r,l,s,m⟩
 ·omega
 ·have t:c*k=(c-1)*k+k:=by
   have:c=(c-1)+1:=oM
   conv=>lhs;rw[this,X7,Nat.one_mul]
  have o:n*k=(n-1)*k+k:=by
   have:n=(n-1)+1:=oM
   conv=>lhs;rw[this,X7,Nat.one_mul]
  by_cases j:c=1
  ·subst j
   obtain rfl:n=1:=oM
   refine .inr ⟨g,h,b,by simp[cM],i,oM,by simp at l⊢;omega,oM,?_⟩;have:cs.length<=k:=by rw[f];omega
   simp[List.drop_eq_nil_of_le this]
  ·refine .inr ⟨g,h+k,b,by simp[cM,j,Addr.add_lit],i,oM,oM,oM,?_⟩
   rw[<-m,List.drop_take,List.drop_drop,o,Nat.add_sub_cancel]
def MH.cell(g:MH w e k a n c cs)(m:1<=n):∃b d,a=some ⟨b,d,none⟩/\∀j,j<n*k->w.cell? ⟨b,d+j,none⟩=cs[j]? :=by
 rcases g.body with⟨rfl,o,_⟩|⟨b,d,f,rfl,h,p,q,r,i⟩
 ·omega
 ·refine⟨b,d,rfl,λj l=>?_⟩
  rw[cell_of_row w b (d+j) f e (0,0) h,<-i,Xw,if_pos l,List.getElem?_drop];simp
def MH.app{bytes:Nat}(s:MH w e k a n c cs)(t:jP h g e k bytes){b E:Nat}{news:List Value}(f:news.length=b*k)(S:d=none->b=0/\E=0)(z:∀v,d=some v->∀i m,news[i]? =some m->w.cell? (v.add i)=some m)(O:∀m∈news,m.oneCell'=true)(A:(n+b)*bytes<=aQ)(F:n+b<=maxLen)(j:∀x H w',MH w' e k x (n+b) H (cs++news)->aj (λi=>aI a=some i) w w'->(aI x=aI a\/aI x=some w.heap.size)->o (.slice x (n+b) H) w'):
  aH h (Builtin.append_ #[g,g] q #[.slice a n c,.slice d b E]) w o u:=by
 obtain⟨P,T,I,U,B,V,W⟩:=jP.info t;have r:=s.len
 cases d with
 |none=>
  obtain⟨rfl,rfl⟩:=S rfl;have X:news=[]:=QW (by simpa using f);subst X;have Y:(Builtin.append_ #[g,g] q #[.slice a n c,.slice none 0 0]).run h w= .ok (.slice a n c) w:=by
   rcases s.body with⟨rfl,rfl,rfl⟩|⟨p,y,l,rfl,J,Q,Z,F,M⟩
   ·simp[Builtin.append_,run_underlying t.under,sizeOf,typeInfo,I,Builtin.lenOf,Builtin.firstCells]
   ·simp[Builtin.append_,run_underlying t.under,sizeOf,typeInfo,I,Builtin.lenOf,Builtin.firstCells,Q,storeCells]
  exact aH.mk Y (j a c w (by simpa using s) (aj.refl _) (.inl rfl))
 |some v=>
  have z:=z v rfl;rcases s.body with⟨rfl,rfl,rfl⟩|⟨p,y,l,rfl,J,Q,Z,a5,M⟩
  ·have a6:cs=[]:=QW (by simpa using r)
   subst a6;exact GU t (Own.nil w e k) z f O A F λx H w' ho hk a7=>j x H w' ho.Zm (hk.mono λK _ s=>s.symm) a7
  ·by_cases N:n+b<=c
   ·have a9:n*k+b*k<=c*k:=by rw[<-X7];exact Q0 _ N
    have L:=vo (P:=h) w g q e P t.under I p y n c l J v b E news (by rw[B];exact f) z O N (by rw[B,f];omega);rw[B]at L;refine aH.mk L (j _ _ _ ⟨by rw[QX,r,f,X7],.inr ⟨p,y,_,rfl,setRow_heap w p l _ e _ J,N,?_,a5,?_⟩⟩ ⟨rfl,rfl,rfl,sM,λK R A=>?_⟩ (.inl rfl))
    ·simp only[List.size_toArray,QX,Qy,XZ,XK]
     omega
    ·simp only[XQ]
     rw[List.drop_append_of_le_length (by rw[Qy,XK];omega),List.drop_take,Nat.add_sub_cancel_left,M,<-XQ];exact List.take_left' (by rw[QX,r,f,X7])
    ·exact setRow_other w p K _ λe=>A (by simp[aI,e])
   ·have a0:∀i m,cs[i]? =some m->w.cell? ((⟨p,y,none⟩:Addr).add i)=some m:=λi m C=>by
     rw[Addr.add_lit,cell_of_row w p (y+i) l e (0,0) J];rw[<-M,Xw]at C;split at C
     ·rw[List.getElem?_drop]at C;simpa using C
     ·cases C
    have L:=run_append_grow (P:=h) w g q e P T t.under I U ⟨p,y,none⟩ n c cs (by rw[B];exact r) a0 v b E news (by rw[B];exact f) z oM (by unfold maxLen at F;omega) (growslice_fits oM (by rw[V];unfold aQ at A;omega));have a8:=grownCap_ge w (n+b) c e;have a1:=grownCap_le_maxLen w (n+b) c e F;refine aH.mk L (j _ _ _ ⟨by rw[QX,r,f,X7],.inr ⟨w.heap.size,0,_,rfl,heap_alloc_new w.drew _,a8,?_,a1,?_⟩⟩ ⟨rfl,rfl,rfl,sM,λK R A=>heap_alloc_old w.drew _ K R⟩ (.inr rfl))
    ·simp only[Array.size_append,List.size_toArray,size_zeroCells,W,r,f,<-X7,Xz]
     exact Q0 _ oM
    ·simp only[Array.toList_append,List.drop_zero]
     exact List.take_left' (by rw[QX,r,f,X7])
end
end Go.ax

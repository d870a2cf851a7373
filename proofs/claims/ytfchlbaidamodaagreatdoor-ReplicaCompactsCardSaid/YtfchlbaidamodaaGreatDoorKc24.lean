import Derived.Lib.AppendZerosOnto
import Derived.Lib.Overlaps
import Derived.Test.YtfchlbaidamodaaGreatDoorKc23
set_option linter.all false
set_option maxRecDepth 20000
namespace Go.ax
open Go
def IY(j:Program)(g tn:TypeId)(k:Nat)(B r:FuncId)(i:Option Addr)(c d:Nat)(a:Int)(o:Option Addr)(b p:Nat)(e:World)(h:Ending->World->Prop):Prop:=
 ((0:Int)<=a/\(a:Int)<=((c:Nat):Int)/\al ((((b:Nat):Int):Int)==0) (h (.returned (.slice i c d)) e) (al ((a:Int)==((c:Nat):Int)) (aH j (Builtin.append_ #[g,g] g #[.slice i c d,.slice o b p]) e (λC E=>∃(s:Option Addr) (t:Nat) (u:Nat),C= .slice s t u/\h (.returned (.slice s t u)) E) (λf e=>h (.panicked [{v:=f,recovered:=false}]) e)) (aH j (Builtin.cap_ #[g] tn #[.slice i c d]) e (λF v=>∃(w:Int),F= QH w/\al (decide (((IntKind.wrap .i64 (((c:Nat):Int)+((b:Nat):Int))):Int)>w)) (((0:Int)<=a/\(a:Int)<=((d:Nat):Int)/\aH j (Builtin.append_ #[g,tn] g #[.slice i (Int.toNat a) d,QH (IntKind.wrap .i64 ((IntKind.wrap .i64 (((c:Nat):Int)+((b:Nat):Int)))-a))]) v (λH I=>∃(q:Option Addr) (m:Nat) (n:Nat),H= .slice q m n/\((0:Int)<=a/\(a:Int)<=((m:Nat):Int)/\aH j (Builtin.copy_ #[g,g] tn #[.slice (cM q (Int.toNat a) n k) (m-Int.toNat a) (n-Int.toNat a),.slice o b p]) I (λJ K=>∃(L:Int),J= QH L/\(∀x,bE K x->((0:Int)<=(IntKind.wrap .i64 (a+((b:Nat):Int)))/\((IntKind.wrap .i64 (a+((b:Nat):Int))):Int)<=((m:Nat):Int)/\((0:Int)<=a/\(a:Int)<=((c:Nat):Int)/\aH j (Builtin.copy_ #[g,g] tn #[.slice (cM q (Int.toNat (IntKind.wrap .i64 (a+((b:Nat):Int)))) n k) (m-Int.toNat (IntKind.wrap .i64 (a+((b:Nat):Int)))) (n-Int.toNat (IntKind.wrap .i64 (a+((b:Nat):Int)))),.slice (cM i (Int.toNat a) d k) (c-Int.toNat a) (d-Int.toNat a)]) x (λM N=>∃(O:Int),M= QH O/\h (.returned (.slice q m n)) N) (λf l=>∀(_:cy) (_:dq),h (.panicked [{v:=f,recovered:=false}]) l))))) (λf e=>h (.panicked [{v:=f,recovered:=false}]) e))) (λf e=>h (.panicked [{v:=f,recovered:=false}]) e))) (((0:Int)<=(IntKind.wrap .i64 (((c:Nat):Int)+((b:Nat):Int)))/\((IntKind.wrap .i64 (((c:Nat):Int)+((b:Nat):Int))):Int)<=((d:Nat):Int)/\((0:Int)<=(IntKind.wrap .i64 (a+((b:Nat):Int)))/\((IntKind.wrap .i64 (a+((b:Nat):Int))):Int)<=(((Int.toNat (IntKind.wrap .i64 (((c:Nat):Int)+((b:Nat):Int)))):Nat):Int)/\TV j B #[.slice o b p,.slice (cM i (Int.toNat (IntKind.wrap .i64 (a+((b:Nat):Int)))) d k) ((Int.toNat (IntKind.wrap .i64 (((c:Nat):Int)+((b:Nat):Int))))-Int.toNat (IntKind.wrap .i64 (a+((b:Nat):Int)))) (d-Int.toNat (IntKind.wrap .i64 (a+((b:Nat):Int))))] v (λP y=>∃(z:Bool),P= .bool z/\al (!z) ((∀A,bE y A->((0:Int)<=(IntKind.wrap .i64 (a+((b:Nat):Int)))/\((IntKind.wrap .i64 (a+((b:Nat):Int))):Int)<=(((Int.toNat (IntKind.wrap .i64 (((c:Nat):Int)+((b:Nat):Int)))):Nat):Int)/\((0:Int)<=a/\(a:Int)<=(((Int.toNat (IntKind.wrap .i64 (((c:Nat):Int)+((b:Nat):Int)))):Nat):Int)/\aH j (Builtin.copy_ #[g,g] tn #[.slice (cM i (Int.toNat (IntKind.wrap .i64 (a+((b:Nat):Int)))) d k) ((Int.toNat (IntKind.wrap .i64 (((c:Nat):Int)+((b:Nat):Int))))-Int.toNat (IntKind.wrap .i64 (a+((b:Nat):Int)))) (d-Int.toNat (IntKind.wrap .i64 (a+((b:Nat):Int)))),.slice (cM i (Int.toNat a) d k) ((Int.toNat (IntKind.wrap .i64 (((c:Nat):Int)+((b:Nat):Int))))-Int.toNat a) (d-Int.toNat a)]) A (λQ R=>∃(S:Int),Q= QH S/\((0:Int)<=a/\(a:Int)<=(((Int.toNat (IntKind.wrap .i64 (((c:Nat):Int)+((b:Nat):Int)))):Nat):Int)/\aH j (Builtin.copy_ #[g,g] tn #[.slice (cM i (Int.toNat a) d k) ((Int.toNat (IntKind.wrap .i64 (((c:Nat):Int)+((b:Nat):Int))))-Int.toNat a) (d-Int.toNat a),.slice o b p]) R (λT U=>∃(V:Int),T= QH V/\h (.returned (.slice i (Int.toNat (IntKind.wrap .i64 (((c:Nat):Int)+((b:Nat):Int)))) d)) U) (λf e=>h (.panicked [{v:=f,recovered:=false}]) e))) (λf l=>∀(_:cy) (_:dq),h (.panicked [{v:=f,recovered:=false}]) l))))) (((0:Int)<=((c:Nat):Int)/\(((c:Nat):Int):Int)<=(((Int.toNat (IntKind.wrap .i64 (((c:Nat):Int)+((b:Nat):Int)))):Nat):Int)/\aH j (Builtin.copy_ #[g,g] tn #[.slice (cM i (Int.toNat ((c:Nat):Int)) d k) ((Int.toNat (IntKind.wrap .i64 (((c:Nat):Int)+((b:Nat):Int))))-Int.toNat ((c:Nat):Int)) (d-Int.toNat ((c:Nat):Int)),.slice o b p]) y (λW X=>∃(Y:Int),W= QH Y/\((0:Int)<=a/\(a:Int)<=(((Int.toNat (IntKind.wrap .i64 (((c:Nat):Int)+((b:Nat):Int)))):Nat):Int)/\PC j r #[.slice (cM i (Int.toNat a) d k) ((Int.toNat (IntKind.wrap .i64 (((c:Nat):Int)+((b:Nat):Int))))-Int.toNat a) (d-Int.toNat a),QH ((b:Nat):Int)] X (λZ b8=>Z= .tuple #[]/\h (.returned (.slice i (Int.toNat (IntKind.wrap .i64 (((c:Nat):Int)+((b:Nat):Int)))) d)) b8) (λch e=>h (.panicked ch) e))) (λf e=>h (.panicked [{v:=f,recovered:=false}]) e)))) (λf e=>h (.panicked [{v:=f,recovered:=false}]) e))))) (λf e=>h (.panicked [{v:=f,recovered:=false}]) e))))
def IZ(n:Program)(g q:TypeId)(o:Nat)(j:Option Addr)(a d:Nat)(e b:Int)(h:World)(i:Ending->World->Prop):Prop:=
 ((0:Int)<=e/\(e:Int)<=b/\(b:Int)<=((a:Nat):Int)/\(((a:Nat):Int):Int)<=((d:Nat):Int)/\al ((e:Int)==b) (i (.returned (.slice j a d)) h) ((∀p,bE h p->((0:Int)<=e/\(e:Int)<=((d:Nat):Int)/\((0:Int)<=b/\(b:Int)<=((a:Nat):Int)/\aH n (Builtin.append_ #[g,g] g #[.slice j (Int.toNat e) d,.slice (cM j (Int.toNat b) d o) (a-Int.toNat b) (d-Int.toNat b)]) p (λr s=>∃(k:Option Addr) (c:Nat) (f:Nat),r= .slice k c f/\((0:Int)<=((c:Nat):Int)/\(((c:Nat):Int):Int)<=((a:Nat):Int)/\(((a:Nat):Int):Int)<=((f:Nat):Int)/\aH n (Builtin.clear_ #[g] q #[.slice (cM k (Int.toNat ((c:Nat):Int)) f o) (Int.toNat ((a:Nat):Int)-Int.toNat ((c:Nat):Int)) (f-Int.toNat ((c:Nat):Int))]) s (λu t=>i (.returned (.slice k c f)) t) (λl h=>i (.panicked [{v:=l,recovered:=false}]) h))) (λl m=>∀(_:cy) (_:dq),i (.panicked [{v:=l,recovered:=false}]) m))))))
def rF(a:World)(b:Nat)(c:Array Value):aj (·=b) a (a.setRow b c):=by
 refine⟨rfl,rfl,rfl,by simp[World.setRow],λd g e=>?_⟩;show(a.heap.modify b _)[d]? =_;rw[Array.getElem?_modify,if_neg (λf=>e f.symm)]
variable{d2:Addr}{r:Array Value}{t:Ending->World->Prop}{g4 z:FuncId}{a3 e9:List Value}{E a c i n:Nat}{f:Nat->Prop}{d:Option Addr}{h:Program}{j:Type}{A c4 g q:TypeId}{o u:Value->World->Prop}{b:World}
def Oe{l bytes:Nat}(s:jP h g q l bytes){c f d i a e n:Nat}{cs:List Value}(m:b.heap[c]? =some (.cells r c4 (0,0)))(v:Nat.min a d=n)(w:cs.length=n*l)(x:∀t j,cs[t]? =some j->b.cell? (d2.add t)=some j)(y:f+cs.length<=r.size)(z:∀j∈cs,j.oneCell'=true)(p:∀k,k.heap[c]? =some (.cells (r.toList.take f++cs++r.toList.drop (f+cs.length)).toArray c4 (0,0))->aj (·=c) b k->k.heap.size=b.heap.size->o (QH (n:Int)) k):
  aH h (Builtin.copy_ #[g,g] A #[.slice (some ⟨c,f,none⟩) d i,.slice (some d2) a e]) b o u:=by
 obtain⟨H,I,B,J,C,K,L⟩:=jP.info s;have E:=run_firstCells_some (P:=h) b l n d2 a e cs w x;have F:=run_storeCells_at h c f c4 cs 0 r b m (by simpa using y) z;refine aH.mk (w':=b.setRow c (r.toList.take f++cs++r.toList.drop (f+cs.length)).toArray) ?_ (p _ (setRow_heap b c r _ c4 (0,0) m) (rF b c _) ?_)
 ·simp[Builtin.copy_,run_underlying s.under,Builtin.lenOf,sizeOf,typeInfo,B,C,v,E,F,goInt]
 ·have M:=aC m
  simp[World.setRow]
def bT.drop{e:Type}{b:kM e}{f:World}{D:Nat->Prop}:∀{c:List e} {cs:List Value},bT b f D c cs->∀(a:Nat),bT b f D (c.drop a) (cs.drop (a*b.k))
 |c,cs,d,0=>by simpa using d
 |[],cs,d,a+1=>by
  have:cs=[]:=d;subst this;simp[bT]
 |x::c,cs,⟨k,l,h,i,j⟩,a+1=>by
  subst h;have g:=b.len i;rw[List.drop_succ_cons,X7,Nat.one_mul,Nat.add_comm,<-List.drop_drop,<-g,List.drop_left];rw[g];exact bT.drop j a
def f_(b:n≠i):cM (some ⟨a,c,none⟩) i n E=some ⟨a,c+i*E,none⟩:=by
 unfold cM;rw[if_neg b];simp[Addr.add_lit]
def PK{cs news ROW:List Value}{A B C k:Nat}(f:cs.length=B)(g:news.length=k)(h:A<=B)(i:ROW.length=C)(j:B+k<=C)(c:ROW.take A=cs.take A)(a:a3=ROW.take A++news++ROW.drop (A+k))(b:e9=a3.take (A+k)++cs.drop A++a3.drop (A+k+(B-A))):a3.length=C/\e9.length=C/\e9.take (B+k)=cs.take A++news++cs.drop A:=by
 have d:a3.length=C:=by rw[a];simp;omega
 have e:a3.take (A+k)=cs.take A++news:=by
  rw[a,c,List.take_append_of_le_length (by simp;omega),Qz (by simp;omega)]
 refine⟨d,by rw[b];simp;omega,?_⟩;rw[b,e,List.take_append_of_le_length (by simp;omega),Qz (by simp;omega)]
def Mp{cs news cur:List Value}{A B C k:Nat}(g:cs.length=B)(h:news.length=k)(i:A<=B)(j:cur.length=C)(l:B+k<=C)(c:cur.take A=cs.take A)(a:a3=cur.take (A+k)++cs.drop A++cur.drop (A+k+(B-A)))(b:e9=a3.take A++news++a3.drop (A+k)):a3.length=C/\e9.length=C/\e9.take (B+k)=cs.take A++news++cs.drop A:=by
 have d:a3.length=C:=by rw[a];simp;omega
 have e:a3.take A=cs.take A:=by
  rw[a,XQ,List.take_append_of_le_length (by simp;omega),List.take_take,X2 oM,c]
 have f:a3.drop (A+k)=cs.drop A++cur.drop (A+k+(B-A)):=by
  rw[a,XQ,List.drop_left' (by simp;omega)]
 refine⟨d,by rw[b];simp;omega,?_⟩;rw[b,e,f,<-XQ,List.take_append_of_le_length (by simp;omega),Qz (by simp;omega)]
def IY.own{A tn e:TypeId}{k bytes:Nat}(q:jP h A e k bytes)(b2:h.underlying tn=some (.int .i64))(b3:∀v b,(callFunc z v).run h b=((Extern.SlicesOverlaps.overlaps #[A,A] #[g] v).run h b).andThen λm l=>.ok (.value m) l){n c a B:Nat}{cs:List Value}(C:Own b e k d n c cs)(hi:a<=n)(E:b.heap[B]? =some (.cells r e (0,0)))(K:r.size=k)(W:∀m∈r.toList,m.oneCell'=true)(h1:∀m∈cs,m.oneCell'=true)(b4:aI d≠some B)(P:(n+1)*bytes<=aQ)(hm:n+1<=maxLen)(X:∀H w l,Own l e k H (n+1) w (cs.take (a*k)++r.toList++cs.drop (a*k))->aj (λI=>aI d=some I) b l->(aI H=aI d\/aI H=some b.heap.size)->t (.returned (.slice H (n+1) w)) l):
  IY h A tn k z g4 d n c a (ZZ B) 1 1 b t:=by
 have hk:=q.pos;obtain⟨Q,Y,a6,hz,hs,a7,b5⟩:=jP.info q;have x:=C.length;have d6:=Own.Sj C;unfold aQ at P;unfold maxLen at hm;have b6:IntKind.wrap .i64 ((n:Int)+((1:Nat):Int))=((n+1:Nat):Int):=by rw[wrap_i64 (by unfold aN;omega)];simp
 have b7:IntKind.wrap .i64 ((a:Int)+((1:Nat):Int))=((a+1:Nat):Int):=by rw[wrap_i64 (by unfold aN;omega)];simp
 unfold IY;rw[b6,b7];simp only[Qx];refine⟨oM,oM,al.ff rfl (al.dX (λhe=>?_) (λd7=>?_))⟩
 ·
  obtain rfl:a=n:=oM
  refine AT q (news:=r.toList) C E (by rw[Qz (by simp[K])]) (by simp[K]) W (by unfold aQ;omega) (by unfold maxLen;omega) λH c' L b8 b9 c0=>⟨_,_,_,rfl,X H c' L ?_ (b9.mono λI _ e=>e.symm) c0⟩
  rw[Qz oM,List.drop_of_length_le oM,List.append_nil];exact b8
 have c4:a<n:=oM
 rcases C.cases with⟨_,h0,_,_⟩|⟨y,cur,rfl,J,c5,Z,a1⟩
 ·omega
 have a5:y≠B:=λe=>b4 (by rw[e];rfl);have a2:a*k<=n*k:=Q0 _ hi;have d8:(a+1)*k<=n*k:=Q0 _ c4;have e1:(a+1)*k=a*k+k:=by rw[X7,Nat.one_mul]
 have e2:(n+1)*k=n*k+k:=by rw[X7,Nat.one_mul]
 have d9:n*k<=c*k:=Q0 _ c5;have c7:∀j,j<=n*k->cur.toList.take j=cs.take j:=λj f=>by rw[<-a1,List.take_take,X2 f]
 have a0:∀l:World,l.heap[y]? =some (.cells cur e (0,0))->∀j o,cs[j]? =some o->l.cell? ⟨y,j,none⟩=some o:=λl F j o f=>by
  refine ae F ?_;rw[<-a1,Xw]at f;split at f
  ·simpa using f
  ·cases f
 have p:(cs.drop (a*k)).length=(n-a)*k:=by rw[XZ,x,Nat.sub_mul]
 have u:r.toList.length=1*k:=by simp[K]
 have a3:c<=maxLen:=by
  obtain⟨_,cp,_,R,_,_,_,a3,_⟩:=C.row.2.resolve_left (by rintro⟨C,_⟩;cases C);simp only[XX]at R;rw[R.2.2];exact a3
 have a8:∀l:World,l.heap[B]? =some (.cells r e (0,0))->∀j o,r.toList[j]? =some o->l.cell? ((⟨B,0,none⟩:Addr).add j)=some o:=λl F j o f=>by
  rw[Addr.add_lit,Xz];exact ae F (by simpa using f)
 refine aH.mk (v:=QH (c:Int)) (w':=b) (by simp[Builtin.cap_,run_underlying q.under,goInt]) ⟨_,rfl,al.dec (λe0=>?_) (λe3=>?_)⟩
 ·
  have a4:c=n:=oM
  have c8:IntKind.wrap .i64 (((n+1:Nat):Int)-(a:Int))=((n+1-a:Nat):Int):=by rw[wrap_i64 (by unfold aN;omega)];omega
  rw[c8];have c6:(Builtin.firstCells Q.size a (.slice (ZZ y) a c)).run h b.drew= .ok (cs.take (a*k)).toArray b.drew:=by
   rw[hs];exact run_firstCells_some b.drew k a ⟨y,0,none⟩ a c (cs.take (a*k)) (by rw[Qy,x];omega) (λj m f=>by
    rw[Addr.add_lit,Xz];rw[Xw]at f;split at f
    ·exact a0 b.drew J j m f
    ·cases f)
  have S:=Lib.run_append_grow_zeros (P:=h) b A tn A e Q Y .i64 .i64 q.under b2 a6 hz (ZZ y) a c (cs.take (a*k)) c6 (n+1-a) oM oM oM oM (by rw[a7];have:(n+1-a)*bytes<=(n+1)*bytes:=Q0 _ oM;omega)
   (by rw[a7,show a+(n+1-a)=n+1 by omega];exact growslice_fits oM P)
  rw[show a+(n+1-a)=n+1 by omega]at S;have hG:=grownCap_ge b (n+1) c e;have b0:=grownCap_le_maxLen b (n+1) c e (by unfold maxLen;omega);generalize grownCap b (n+1) c e=G at S hG b0;have e4:(n+1)*k<=G*k:=Q0 _ hG;generalize a9:(cs.take (a*k)).toArray++Builtin.zeroCells Y.cells (n+1-a)++Builtin.zeroCells Y.cells (G-(n+1))=i at S;have T:i.size=G*k:=by
   rw[<-a9];simp only[Array.size_append,List.size_toArray,Qy,x,Builtin.zeroCells,Array.size_map,Array.size_range,b5];rw[Nat.sub_mul,Nat.sub_mul];omega
  have R:(cs.take (a*k)).length=a*k:=by rw[Qy,x];omega
  have c9:i.toList.take (a*k)=cs.take (a*k):=by
   rw[<-a9];simp only[Array.toList_append,XQ];rw[List.take_left' R]
  have e5:=aC J;have e6:=aC E;have kd:ai b (b.drew.alloc (.cells i e)):=(aj.drewN b 1).then (aj.alloc _ _);have b1:(b.drew.alloc (.cells i e)).heap[b.heap.size]? =some (.cells i e (0,0)):=heap_alloc_new b.drew _;have d0:(b.drew.alloc (.cells i e)).heap.size=b.heap.size+1:=by
   rw[show b.heap.size=b.drew.heap.size from rfl];generalize b.drew=wd;simp
  refine⟨oM,oM,aH.mk S ?_⟩;generalize b.drew.alloc (.cells i e)=M at b1 kd d0;refine⟨_,_,_,rfl,oM,oM,?_⟩;have s:(n-a)*k=n*k-a*k:=Nat.sub_mul ..;have d2:=PK (cs:=cs) (news:=r.toList) (ROW:=i.toList) (A:=a*k) (B:=n*k) (C:=G*k) (k:=k) x (by simp[K]) a2 (by simp[T]) oM c9 rfl rfl;obtain⟨c1,c2,c3⟩:=d2;rw[f_ (show G≠a by omega)];refine Oe q b1 (n:=1) (by simp only[Nat.min_def];split<;>omega) u (a8 M (kd.get E id)) (by rw[u,T];omega) W λw2 g2 N s2=>⟨_,rfl,λL d3=>?_⟩
  have O:ai w2 L:=d3.keep;have U:=O.get g2 id;have d4:=O.get (N.get (kd.get J id) oM) id;refine⟨oM,oM,oM,oM,?_⟩;rw[f_ (show G≠a+1 by omega),f_ (show c≠a by omega)];simp only[Xz,u,Nat.one_mul]at U⊢;rw[e1];refine Oe q U (n:=n-a) (by simp only[Nat.min_def];split<;>omega) p (λj o f=>?_) (by rw[List.size_toArray,c1,p,s];omega) (λm hv=>h1 m (List.mem_of_mem_drop hv)) λw4 d5 k4 s4=>⟨_,rfl,X _ _ _ ⟨⟨?_,.inr ⟨b.heap.size,G,_,rfl,Qj _,d5,hG,b0,?_,?_⟩⟩⟩ ?_ (.inr rfl)⟩
  ·rw[Addr.add_lit]
   rw[List.getElem?_drop]at f;exact a0 L d4 _ o f
  ·simp only[QX,Qy,x,u,p,s];omega
  ·rw[p,s,List.size_toArray];exact c2
  ·rw[p,s,e2];exact c3
  ·exact ai.keep ((kd.new N λI P=>.inr oM).then O|>.new k4 λI P=>.inr oM)
 ·
  have e7:Q=Q:=rfl;have a4:n+1<=c:=oM
  have s:(n-a)*k=n*k-a*k:=Nat.sub_mul ..;have e8:(n+1)*k<=c*k:=Q0 _ a4;obtain⟨c1,c2,c3⟩:=Mp (cs:=cs) (news:=r.toList) (cur:=cur.toList) (A:=a*k) (B:=n*k) (C:=c*k) (k:=k) x (by simp[K]) a2 (by simp[Z]) oM (c7 _ a2) rfl rfl;rw[f_ (show c≠a+1 by omega),f_ (show c≠a by omega)];refine⟨oM,oM,oM,oM,_,b3 _,aH.mk (v:=.bool false) (w':=b) ?_ ⟨_,rfl,al.tt rfl λM d1=>?_⟩⟩
  ·have T:∀b,(sizeOf e).run h b= .ok k b:=λb=>by simp[sizeOf,typeInfo,a6,hs]
   refine Lib.run_overlaps_apart (P:=h) b A g e q.under k T ⟨B,0,none⟩ ⟨y,0+(a+1)*k,none⟩ 1 1 _ _ (λe=>a5 e.symm) e e r.size cur.size (by simp[World.shape?,E]) (by simp[World.shape?,J]) (by rw[Z];omega) ?_ ?_
   ·simp[World.frozen?,E]
   ·simp[World.frozen?,E]
  have V:ai b M:=d1.keep;have s1:M.heap.size=b.heap.size:=by rw[d1.heap]
  refine⟨oM,oM,oM,oM,?_⟩;simp only[Xz,e1];refine Oe q (V.get J id) (n:=n-a) (by simp only[Nat.min_def];split<;>omega) p (λj o f=>?_) (by rw[Z,p,s];omega) (λm hv=>h1 m (List.mem_of_mem_drop hv)) λw2 g2 N s2=>⟨_,rfl,oM,oM,?_⟩
  ·rw[Addr.add_lit]
   rw[List.getElem?_drop]at f;exact a0 M (V.get J id) _ o f
  refine Oe q g2 (n:=1) (by simp only[Nat.min_def];split<;>omega) u (a8 w2 (N.get (V.get E id) (λe=>a5 e.symm))) (by rw[List.size_toArray,p,s,c1,u];omega) W λL U O s3=>⟨_,rfl,X _ _ _ ⟨⟨?_,.inr ⟨y,c,_,rfl,Qj _,U,a4,a3,?_,?_⟩⟩⟩ ?_ (.inl rfl)⟩
  ·simp only[QX,Qy,x,u,p,s];omega
  ·simp only[p,s,u,Nat.one_mul];rw[List.size_toArray];exact c2
  ·simp only[p,s,u,Nat.one_mul];rw[e2];exact c3
  ·exact((ai.keep V).then (N.mono λI _ e=>by rw[e];rfl)).then (O.mono λI _ e=>by rw[e];rfl)
def IY.one{i:Program}{r tn s:TypeId}{bytes:Nat}{I z:FuncId}{A:Type}{c:kM A}(J:jP i r s c.k bytes)(O:i.underlying tn=some (.int .i64)){tb:TypeId}(P:∀f w,(callFunc I f).run i w=((Extern.SlicesOverlaps.overlaps #[r,r] #[tb] f).run i w).andThen λC g=>.ok (.value C) g){w:World}{j:Option Addr}{k l h E:Nat}{m:Array Value}{F D:Nat->Prop}{n:List A}{x:A}(o:aV c s F w j k l n)(Q:h<=k)(R:w.heap[E]? =some (.cells m s (0,0)))(H:c.rep w D x m.toList)(t:∀a,D a->a<w.heap.size/\aI j≠some a)(S:aI j≠some E)(b:(n.length+1)*bytes<=aQ)(T:n.length+1<=maxLen){K:Ending->World->Prop}(U:∀u d g L,aV c s L g u (k+1) d (n.take h++x::n.drop h)->aj (λa=>aI j=some a) w g->(∀a,L a->F a\/D a\/w.heap.size<=a)->K (.returned (.slice u (k+1) d)) g):
  IY i r tn c.k I z j k l h (ZZ E) 1 1 w K:=by
 have M:=o.len J.pos;obtain⟨cs,V,W,N,v⟩:=o.body;have X:=c.len H;refine IY.own J O P W Q R (by simpa using X) (c.one H) (λC Y=>N.Sk C Y) S (by rw[M];exact b) (by rw[M];exact T) λu d g p y B=>?_;have a0:=y.size;refine U u d g (λa=>F a\/D a\/(w.heap.size<=a/\a<g.heap.size)) ⟨⟨_,λa=>V a\/D a,p,?_,?_⟩,?_,?_⟩ y ?_
 ·rw[XQ]
  have q:=(N.keep y λa b=>(v a b).2)
  exact bT.append ((q.take h).mono λa b=>.inl b) (bT.append (xs:=[x]) (bT.one (c.mono (c.keep H y λa b=>(t a b).2) λa b=>.inr b)) ((q.drop h).mono λa b=>.inl b))
 ·intro a b
  have a1:a<w.heap.size:=b.elim (λe=>o.aF a (v a e).1) λe=>(t a e).1;refine⟨b.elim (λe=>.inl (v a e).1) λe=>.inr (.inl e),?_⟩;rcases B with B|B
  ·rw[B];exact b.elim (λe=>(v a e).2) λe=>(t a e).2
  ·rw[B];intro Z;cases Z;omega
 ·intro a b
  rcases B with B|B
  ·exact .inl (o.self a (B▸b))
  ·have:=p.lt b
   rw[B]at b;cases b;exact .inr (.inr ⟨oM,this⟩)
 ·rintro a (b|b|b)
  ·have:=o.aF a b;omega
  ·have:=(t a b).1;omega
  ·exact b.2
 ·rintro a (b|b|b)
  ·exact .inl b
  ·exact .inr (.inl b)
  ·exact .inr (.inr b.1)
def OV(a:Program)(b:TypeId):Bool:=match(a.info? b).bind (·.zero)with
 |some c=>c.cells.toList.all (·.oneCell')
 |none=>false
def Sl{f bytes:Nat}(k:jP h g q f bytes)(l:OV h q=true)(t:b.heap[a]? =some (.cells r c4 (0,0)))(w:c+i*f<=r.size)(j:∀m d,m.heap[a]? =some (.cells d c4 (0,0))->d.size=r.size->d.toList.take c=r.toList.take c->aj (·=a) b m->m.heap.size=b.heap.size->o (.tuple #[]) m):
  aH h (Builtin.clear_ #[g] A #[.slice (some ⟨a,c,none⟩) i n]) b o u:=by
 obtain⟨J,e,x,y,K,L,v⟩:=jP.info k;have C:∀p∈e.cells.toList,p.oneCell'=true:=by
  unfold OV at l;rw[x]at l;simp only[Option.bind_some,y,List.all_eq_true]at l;exact l
 cases i with
 |zero=>exact aH.mk (w':=b) (by simp[Builtin.clear_,run_underlying k.under]) (j b r t rfl rfl (aj.refl _) rfl)
 |succ i=>
  have z:(Builtin.zeroCells e.cells (i+1)).toList.length=(i+1)*f:=by simp[Builtin.zeroCells,v]
  have E:∀p∈(Builtin.zeroCells e.cells (i+1)).toList,p.oneCell'=true:=by
   intro p s;simp only[Builtin.zeroCells,Array.toList_map,Xk,v]at s;obtain⟨B,-,rfl⟩:=s;have F:B % f<e.cells.size:=by rw[v];exact Nat.mod_lt _ k.pos
   rw[getElem!_pos e.cells (B % f) F];exact C _ sM
  have H:=run_storeCells_at h a c c4 _ 0 r b t (by rw[z];simpa using w) E;have s:(zeroValue q).run h b= .ok e b:=by simp[zeroValue,typeInfo,x,y]
  refine aH.mk (w':=b.setRow a (r.toList.take c++(Builtin.zeroCells e.cells (i+1)).toList++r.toList.drop (c+(Builtin.zeroCells e.cells (i+1)).toList.length)).toArray) ?_ (j _ _ (setRow_heap b a r _ c4 (0,0) t) ?_ ?_ (rF b a _) ?_)
  ·simp[Builtin.clear_,run_underlying k.under,s,H]
  ·have I:r.size=r.toList.length:=sM
   simp only[List.size_toArray,QX,Qy,XZ,z];rw[I]at w⊢;omega
  ·rw[XQ,List.take_left']
   simp;omega
  ·simp[World.setRow]
def IZ.own{e bytes:Nat}(p:jP h g A e bytes)(Q:OV h A=true){cs:List Value}(n:Own b A e d a c cs)(R:i<a)(S:∀l∈cs,l.oneCell'=true)(T:a<=maxLen)(U:∀s,Own s A e d (a-1) c (cs.take (i*e)++cs.drop ((i+1)*e))->aj (λu=>aI d=some u) b s->t (.returned (.slice d (a-1) c)) s):
  IZ h g q e d a c i (IntKind.wrap .i64 ((i:Int)+1)) b t:=by
 have hk:=p.pos;obtain⟨iT,a5,V,hz,W,b2,b3⟩:=jP.info p;have r:=n.length;unfold maxLen at T;rcases n.cases with⟨_,h0,_,_⟩|⟨j,f,rfl,X,Y,H,I⟩
 ·omega
 have v:c<=maxLen:=by
  obtain⟨_,cp,_,J,_,_,_,v,_⟩:=n.row.2.resolve_left (by rintro⟨n,_⟩;cases n);simp only[XX]at J;rw[J.2.2];exact v
 have Z:IntKind.wrap .i64 ((i:Int)+1)=((i+1:Nat):Int):=by rw[wrap_i64 (by unfold aN;omega)];simp
 have a6:i*e<=a*e:=Q0 _ oM;have b1:(i+1)*e<=a*e:=Q0 _ R;have e1:(i+1)*e=i*e+e:=by rw[X7,Nat.one_mul]
 have e3:(a-1)*e=a*e-e:=by rw[Nat.sub_mul,Nat.one_mul]
 have e4:(a-(i+1))*e=a*e-(i+1)*e:=Nat.sub_mul ..;have a7:a*e<=c*e:=Q0 _ Y;unfold IZ;rw[Z];simp only[Qx];refine⟨oM,oM,oM,oM,al.dX (λhe=>oM) (λw k K=>⟨oM,oM,oM,oM,?_⟩)⟩;have L:ai b k:=K.keep;have s1:k.heap.size=b.heap.size:=by rw[K.heap]
 have x:=L.get X id;have y:(cs.drop ((i+1)*e)).length=(a-(i+1))*e:=by rw[XZ,r,Nat.sub_mul]
 have z:∃o,cM (ZZ j) (i+1) c e=some ⟨j,o,none⟩/\(a≠i+1->o=(i+1)*e):=by
  by_cases M:c=i+1
  ·exact⟨0,by unfold cM;rw[if_pos M],λw=>oM⟩
  ·exact⟨_,f_ M,λ_=>oM⟩
 obtain⟨o,z,a8⟩:=z;rw[z];have a0:∀B l,(cs.drop ((i+1)*e))[B]? =some l->k.cell? ((⟨j,o,none⟩:Addr).add B)=some l:=λB l m=>by
  have a9:=(Qv.1 m).1;have w:a≠i+1:=by
   intro A;rw[y,A,Nat.sub_self,Nat.zero_mul]at a9;omega
  rw[a8 w,Addr.add_lit];rw[List.getElem?_drop]at m;refine ae x ?_;rw[<-I,Xw]at m;split at m
  ·simpa using m
  ·cases m
 have hf:=run_firstCells_some (P:=h) k e (a-(i+1)) ⟨j,o,none⟩ (a-(i+1)) (c-(i+1)) _ y a0;have N:=run_storeCells_at h j (i*e) A (cs.drop ((i+1)*e)) 0 f k x (by rw[y,H];omega) (λl hv=>S l (List.mem_of_mem_drop hv));have a1:i+(a-(i+1))=a-1:=oM
 refine aH.mk (v:=.slice (ZZ j) (a-1) c) (w':=k.setRow j (f.toList.take (i*e)++cs.drop ((i+1)*e)++f.toList.drop (i*e+(cs.drop ((i+1)*e)).length)).toArray) ?_ ⟨_,_,_,rfl,oM,oM,oM,?_⟩
 ·have a2:i+(a-(i+1))<=c:=oM
  have a3:a<=c+1:=oM
  simp only[Nat.add_zero]at N;simp[Builtin.append_,run_underlying p.under,sizeOf,typeInfo,V,W,Builtin.lenOf,a2,a3,hf,Addr.add_lit,N,a1]
 have C:=setRow_heap k j f (f.toList.take (i*e)++cs.drop ((i+1)*e)++f.toList.drop (i*e+(cs.drop ((i+1)*e)).length)).toArray A (0,0) x;have E:=rF k j (f.toList.take (i*e)++cs.drop ((i+1)*e)++f.toList.drop (i*e+(cs.drop ((i+1)*e)).length)).toArray;have b0:f.toList.length=c*e:=by simp[H]
 have F:(f.toList.take (i*e)++cs.drop ((i+1)*e)++f.toList.drop (i*e+(cs.drop ((i+1)*e)).length)).length=c*e:=by
  simp only[QX,Qy,XZ,r,b0];omega
 have O:(f.toList.take (i*e)++cs.drop ((i+1)*e)++f.toList.drop (i*e+(cs.drop ((i+1)*e)).length)).take ((a-1)*e)=cs.take (i*e)++cs.drop ((i+1)*e):=by
  rw[show f.toList.take (i*e)=cs.take (i*e) by rw[<-I,List.take_take,X2 a6]];rw[List.take_left'];simp only[QX,Qy,XZ,r];omega
 generalize f.toList.take (i*e)++cs.drop ((i+1)*e)++f.toList.drop (i*e+(cs.drop ((i+1)*e)).length)=R1 at C E F O;generalize k.setRow j R1.toArray=w2 at C E;rw[f_ (show c≠a-1 by omega)];refine Sl p Q C (by rw[List.size_toArray,F,show a-(a-1)=1 by omega];omega) λw3 a4 g3 c3 P k3 s3=>U w3 ⟨⟨?_,.inr ⟨j,c,a4,rfl,Qj _,g3,oM,v,?_,?_⟩⟩⟩ ?_
 ·simp only[QX,Qy,XZ,r];omega
 ·rw[c3,List.size_toArray,F]
 ·rw[Xz]at P;rw[P,O]
 ·exact((ai.keep L).then (E.mono λu _ A=>by rw[A];rfl)).then (k3.mono λu _ A=>by rw[A];rfl)
def IZ.one{q tz l:TypeId}{bytes:Nat}{c:kM j}(v:jP h q l c.k bytes)(x:OV h l=true){w:World}{b a e:Nat}{r:List j}(m:aV c l f w d b a r)(y:e<b)(z:b<=maxLen)(A:∀g,aV c l f g d (b-1) a (r.eraseIdx e)->aj (λi=>aI d=some i) w g->t (.returned (.slice d (b-1) a)) g):
  IZ h q tz c.k d b a e (IntKind.wrap .i64 ((e:Int)+1)) w t:=by
 obtain⟨cs,B,C,s,u⟩:=m.body;refine IZ.own v x C y s.Sk z λg n o=>A g ⟨⟨_,B,n,?_,u⟩,m.self,λi p=>Qk (m.aF i p) o.size⟩ o;have k:=(s.keep o λi p=>(u i p).2)
 rw[List.eraseIdx_eq_take_drop_succ];exact bT.append (k.take e) (k.drop (e+1))
end Go.ax
namespace Go.Proofs.YtfchlbaidamodaaGreatDoor
open Go.ax
variable{e:Int}{s:List Int}{c7:List bD}{b2:List du}{a c i n:Nat}{f:Nat->Prop}{d:Option Addr}{j:Type}{b:World}{y:World->Prop}{b9:bD}
def qR{e:List (Bx du)}{D:Nat->Prop}(g:Row lx.k_ 32 b D d a e)(h:∀f,D f->f<b.heap.size):Calls ZQ 210 #[.slice d a c] b (Ok (qD lx.k_ 84 b e)):=
 iI (By RA dC g h λj k i=>Ok.mk i)
def TM(m:aV aP 3 f b d a c s)(r:i<=a)(t:b.heap[n]? =some (.cells #[QH e] 3 (0,0)))(u:aN e)(v:¬f n)(A:s.length<1000000):
  Calls ZQ 280 #[.slice d a c,QH (i:Int),.slice (ZZ n) 1 1] b (Ok λw o=>∃h j k,w= .slice h (a+1) j/\aV aP 3 k o h (a+1) j (s.take i++e::s.drop i)/\de f b k o):=by
 refine nx (IY.one (c:=aP) (tb:=4) (x:=e) (D:=λ_=>False) tN kR ?_ m r t ⟨rfl,u⟩ (λl g=>g.elim) (λx=>v (m.self n x)) (by unfold aQ;omega) (by unfold maxLen;omega) λh j o k p y z=>Ok.mk ⟨h,j,k,rfl,p,y.mono λl _ g=>m.self l g,λl g=>?_⟩)
 ·intro q b
  rw[run_callFunc_extern Tryz.func313 kR kR kR (e:=Extern.SlicesOverlaps.overlaps #[55,55] #[4]) kR]
 ·rcases z l g with g|g|g
  ·exact .inl g
  ·exact g.elim
  ·exact .inr g
def TN(h:aV aP 3 f b d a c s)(j:i<a)(o:a<1000000):
  Calls ZQ 281 #[.slice d a c,QH (i:Int),QH (IntKind.wrap .i64 ((i:Int)+1))] b (Ok λk e=>k= .slice d (a-1) c/\aV aP 3 f e d (a-1) c (s.eraseIdx i)/\aj f b e):=
 ny (IZ.one (c:=aP) (tz:=0) tN kR h j (by unfold maxLen;omega) λe g l=>Ok.mk ⟨rfl,g,l.mono λm _ n=>h.self m n⟩)
def WU(c:bD)(a:du)(b arg:Int):du:=
 if b=1 then{a with n:=pH (a.n+arg)}else if b=2 then{a with n:=arg}else if b=3 then{a with set:=qN arg a.set}
 else if b=4 then{a with set:=a.set.filter λd=>d !=arg}else{a with n:=(c.bH.getD arg.toNat ⟨0,0,0,0⟩).qF}
def VK{a b arg:Int}(c:1<=b)(d:b<=5):TO c7 b2 a b arg=b2.set a.toNat (WU (c7.getD a.toNat ⟨0,0,false,[]⟩) (b2.getD a.toNat ⟨0,[]⟩) b arg):=by
 have:b=1\/b=2\/b=3\/b=4\/b=5:=oM
 rcases this with rfl|rfl|rfl|rfl|rfl<;>rfl
section
variable {w w':World} {D E F:Nat->Prop} {f:bD} {ma ca:Option Addr} {mn mc cn cc i:Nat} {arg:Int} {L:List (Bx du)} {bx:Bx du}
structure kN (w:World) (ca:Option Addr) (cn cc:Nat) (L:List (Bx du)) (i:Nat) (bx:Bx du) (F:Nat->Prop):Prop where
 pG:aV lx.k_ 84 (λb=>aI ca=some b) w ca cn cc L
 at':L[i]? =some bx
 set:aV aP 3 F w bx.a bx.n bx.c bx.x.set
 ap:∀b,F b->¬aI ca=some b
 ok:aN bx.x.n/\xG bx.x.set/\bx.x.set.length<=64
 d_:L.length<=1000000
def kN.af(a:kN w ca cn cc L i bx F)(b:ai w w'):kN w' ca cn cc L i bx F:=⟨a.pG.af b,a.at',a.set.af b,a.ap,a.ok,a.d_⟩
def kN.len(a:kN w ca cn cc L i bx F):i<cn:=by
 rw[a.pG.len dC];exact(Qv.1 a.at').1
def kN.cells(c:kN w ca cn cc L i bx F):∃a b,ca=some ⟨a,b,none⟩/\a<w.heap.size/\w.cell? ⟨a,b+i*2,none⟩=some (QH bx.x.n)/\w.cell? ⟨a,b+i*2+1,none⟩=some (.slice bx.a bx.n bx.c):=by
 obtain⟨a,b,g,e,f,h,d,rfl,-⟩:=(c.pG.row (bytes:=32) dC (by have:=c.d_;unfold aQ;omega)).el i bx c.at';exact⟨a,b,e,f,d 0 dC,d 1 dC⟩
def qS(c:World)(ca:Option Addr)(cn cc:Nat)(L:List (Bx du))(i:Nat)(F:Nat->Prop)(d:du)(w':World):Prop:=
 ∃(a:Bx du) (e:Nat->Prop),a.x=d/\aV lx.k_ 84 (λb=>aI ca=some b) w' ca cn cc (L.set i a)/\aV aP 3 e w' a.a a.n a.c d.set/\aj (λb=>aI ca=some b\/F b) c w'/\∀b,e b->F b\/c.heap.size<=b
def Ls{g w:World}(h:ai g w)(d:kN w ca cn cc L i bx F)(j:ca=some ⟨a,c,none⟩)(k:∀w',aj (λa=>aI ca=some a) w w'->qS g ca cn cc L i F {bx.x with n:=e} w'->y w'):
  PS w ⟨a,c+i*2,none⟩ (QH e) y:=by
 refine aV.set (j:=0) (x':=⟨{bx.x with n:=e},bx.a,bx.n,bx.c⟩) d.pG d.at' dC rfl j λl m f o=>k l f ⟨_,F,rfl,m,d.set.keep f λa b n=>d.ap a b n,(ai.keep h).then (f.mono λa _ b=>.inl b),λa b=>.inl b⟩
def RG{r e w:World}{l m:Nat}{h:Nat->Prop}(t:ai r e)(f:kN e ca cn cc L i bx F)(v:aV aP 3 h w d l m s)(j:de F e h w)(n:ca=some ⟨a,c,none⟩)(x:∀w',qS r ca cn cc L i F {bx.x with set:=s} w'->y w'):
  PS w ⟨a,c+i*2+1,none⟩ (.slice d l m) y:=by
 have o:aV lx.k_ 84 (λa=>aI ca=some a) w ca cn cc L:=f.pG.keep j.1 λa b k=>f.ap a k b;have A:=f.pG.aF a (by rw[n];rfl);have z:∀g,h g->¬aI ca=some g:=λg p q=>by
  rcases j.2 g p with k|k
  ·exact f.ap g k q
  ·rw[n]at q;simp only[aI,Q1]at q;omega
 have B:=t.size;refine aV.set (j:=1) (x':=⟨{bx.x with set:=s},d,l,m⟩) o f.at' dC rfl n λe o u C=>x e ⟨_,h,rfl,o,v.keep u z,((ai.keep t).then (j.1.mono λa _ b=>.inr b)).then (u.mono λa _ b=>.inl b),λa b=>(j.2 a b).imp id λb=>oM⟩
def do_1(a:kN w ca cn cc L i bx F):Calls ZQ 212 #[Bv f ma mn mc ca cn cc (i:Int) arg] w (Ok λk w'=>k= .tuple #[]/\qS w ca cn cc L i F {bx.x with n:=pH (bx.x.n+arg)} w'):=by
 have l:=a.len;refine Bz (PA.mk λm n x o=>λp q=>⟨λb=>aI ca=some b,?_⟩);have g:ai m p:=q.keep;have h:=g.get o id;have e:=n.then g;obtain⟨b,r,c,s,t,y⟩:=(a.af e).cells;have z:=a.pG.aF b (by rw[c];rfl);refine aw (vI ..) h ⟨λj=>by rw[c]at j;simp only[aI,Q1]at j;omega,_,ae h rfl,PC.ok (iH c l) ?_⟩;rintro _ A ⟨rfl,d⟩;exact⟨_,rfl,ai.keep d,_,_,rfl,_,(d.cell (a:=⟨b,r+i*2,none⟩) s id).trans t,_,_,rfl,Ls (e.then d) (a.af (e.then d)) c λB u v=>⟨u,Ok.mk ⟨rfl,v⟩⟩⟩
def YF(a:kN w ca cn cc L i bx F):Calls ZQ 215 #[Bv f ma mn mc ca cn cc (i:Int) arg] w (Ok λk w'=>k= .tuple #[]/\qS w ca cn cc L i F {bx.x with n:=arg} w'):=by
 have l:=a.len;refine BA (PA.mk λm n t o=>λp q=>⟨λc=>aI ca=some c,?_⟩);have g:ai m p:=q.keep;have h:=g.get o id;have d:=n.then g;obtain⟨c,u,b,v,x,y⟩:=(a.af d).cells;have z:=a.pG.aF c (by rw[b];rfl);refine aw (vI ..) h ⟨λj=>by rw[b]at j;simp only[aI,Q1]at j;omega,_,ae h rfl,PC.ok (iH b l) ?_⟩;rintro _ A ⟨rfl,e⟩;exact⟨_,rfl,ai.keep e,_,_,rfl,Ls (d.then e) (a.af (d.then e)) b λB r s=>⟨r,Ok.mk ⟨rfl,s⟩⟩⟩
def YG(c:kN w ca cn cc L i bx F)(j:Row gC 32 w E ma mn f.bH)(p:∀b,E b->¬aI ca=some b)(J:0<=arg)(K:arg<(mn:Int)):Calls ZQ 220 #[Bv f ma mn mc ca cn cc (i:Int) arg] w (Ok λq w'=>q= .tuple #[]/\qS w ca cn cc L i F {bx.x with n:=(f.bH.getD arg.toNat ⟨0,0,0,0⟩).qF} w'):=by
 have r:=c.len;refine BB (PA.mk λs t M u=>λv x=>⟨λb=>aI ca=some b,?_⟩);have k:ai s v:=x.keep;have g:=k.get u id;have d:=t.then k;obtain⟨b,N,e,O,P,Q⟩:=(c.af d).cells;have R:=c.pG.aF b (by rw[e];rfl);have S:=j.len;obtain⟨a,rfl⟩:∃a:Nat,arg=a:=⟨arg.toNat,oM⟩
 have l:a<f.bH.length:=oM
 obtain⟨m,y,T,z,U,A,B,rfl,-⟩:=(j.af d).el a f.bH[a] (by simp[l]);have C:f.bH.getD a ⟨0,0,0,0⟩=f.bH[a]:=by simp[QQ,l]
 simp only[Qx,C];have n:¬aI ca=some w.heap.size:=λo=>by rw[e]at o;simp only[aI,Q1]at o;omega
 refine aw (vI ..) g ⟨n,_,_,_,ae g rfl,n,_,ae g rfl,m,y,z,oM,oM,p m A,_,B 1 dC,PC.ok (iH e r) ?_⟩;rintro _ V ⟨rfl,h⟩;exact⟨_,rfl,ai.keep h,_,_,rfl,Ls (d.then h) (c.af (d.then h)) e λW H I=>⟨H,Ok.mk ⟨rfl,I⟩⟩⟩
def YH(a:kN w ca cn cc L i bx F)(x:aN arg):Calls ZQ 217 #[Bv f ma mn mc ca cn cc (i:Int) arg] w (Ok λy w'=>y= .tuple #[]/\qS w ca cn cc L i F {bx.x with set:=qN arg bx.x.set} w'):=by
 have z:=a.len;obtain⟨-,c,S⟩:=a.ok;refine Lt (PA.mk λT n U o=>aw (vI ..) o ?_);obtain⟨d,p,k,b,V,A⟩:=(a.af n).cells;have W:=a.pG.aF d (by rw[k];rfl);refine PC.ok (iH k z) ?_;rintro _ B ⟨rfl,e⟩;refine⟨_,rfl,λq C=>?_⟩;have g:ai B q:=C.keep;have h:=(n.then e).then g;have r:=g.get (e.get o id) id;have s:=((e.then g).cell (a:=⟨d,p+i*2+1,none⟩) b id).trans A;have t:=a.set.af h;refine⟨_,_,rfl,_,_,_,s,_,ae r rfl,PC.ok (uo (t.row (bytes:=8) dC (by unfold aQ;omega)) c) ?_⟩;rintro _ _ ⟨rfl,rfl⟩;have X:=a.set.len dC;refine⟨_,_,rfl,al.not (al.mk (λE=>Ok.mk ⟨rfl,?_⟩) (λH=>λI J=>?_))⟩
 ·have j:arg∈bx.x.set:=XV E
  refine⟨bx,F,by rw[vF j c],?_,by rw[vF j c];exact t,ai.keep h,λd b=>.inl b⟩;have:L.set i bx=L:=by
   apply X3;intro Y;rw[Xj];split
   ·rename_i K;subst K;rw[if_pos (Qv.1 a.at').1,a.at']
   ·rfl
  rw[this];exact a.pG.af h
 ·have j:arg∉bx.x.set:=Xy H
  have l:ai q I:=J.keep;have M:=l.get r id;have u:=h.then l;refine⟨no,_,_,rfl,id,_,_,_,(l.cell (a:=⟨d,p+i*2+1,none⟩) (Qk b (e.then g).size) id).trans s,_,ae M rfl,PA.mk λZ v s5 N=>⟨ai.keep v,?_⟩⟩;have m:=u.then v;have a1:=Bp (λO=>decide (O<arg)) bx.x.set;have z4:=u.size;refine PC.ok (TM (a.set.af m) oM N x (λb=>by have:=a.set.aF _ b;omega) oM) ?_;rintro _ w6 ⟨a',c',F',rfl,P,Q⟩;rw[IT c j];exact⟨_,_,_,rfl,_,_,rfl,RG m (a.af m) P Q k λw7 R=>Ok.mk ⟨rfl,R⟩⟩
def YI(a:kN w ca cn cc L i bx F):Calls ZQ 218 #[Bv f ma mn mc ca cn cc (i:Int) arg] w (Ok λp w'=>p= .tuple #[]/\qS w ca cn cc L i F {bx.x with set:=bx.x.set.filter λq=>q !=arg} w'):=by
 have r:=a.len;obtain⟨-,k,J⟩:=a.ok;refine Em (PA.mk λK l M m=>aw (vI ..) m ?_);obtain⟨e,s,n,b,N,t⟩:=(a.af l).cells;refine PC.ok (iH n r) ?_;rintro _ u ⟨rfl,g⟩;refine⟨_,rfl,λv x=>?_⟩;have h:ai u v:=x.keep;have c:=(l.then g).then h;have y:=h.get (g.get m id) id;have o:=((g.then h).cell (a:=⟨e,s+i*2+1,none⟩) b id).trans t;have j:=a.set.af c;refine⟨_,_,rfl,_,_,_,o,_,ae y rfl,PC.ok (uo (j.row (bytes:=8) dC (by unfold aQ;omega)) k) ?_⟩;rintro _ _ ⟨rfl,rfl⟩;have O:=a.set.len dC;refine⟨_,_,rfl,al.mk (λz=>?_) (λA=>Ok.mk ⟨rfl,?_⟩)⟩
 ·have d:arg∈bx.x.set:=XV z
  obtain⟨B,P⟩:=NR k d;refine⟨_,_,rfl,_,_,_,o,PC.ok (TN j oM oM) ?_⟩;rintro _ Q ⟨rfl,C,E⟩;rw[B];exact⟨_,_,_,rfl,_,_,rfl,RG c (a.af c) C ⟨E,λe b=>.inl b⟩ n λR H=>Ok.mk ⟨rfl,H⟩⟩
 ·have d:arg∉bx.x.set:=Xy A
  refine⟨bx,F,by rw[IV d],?_,by rw[IV d];exact j,ai.keep c,λe b=>.inl b⟩;have:L.set i bx=L:=by
   apply X3;intro S;rw[Xj];split
   ·rename_i I;subst I;rw[if_pos (Qv.1 a.at').1,a.at']
   ·rfl
  rw[this];exact a.pG.af c
end
def NU(a:Int):aN (pH a):=by
 unfold pH IntKind.wrap aN;simp[IntKind.signed,IntKind.bits];omega
def RH(a:e∉s):(qN e s).length=s.length+1:=by
 induction s with
 |nil=>rfl
 |cons c s b=>
  simp only[Q2,not_or]at a;unfold qN;rw[if_neg a.1];split
  ·rfl
  ·simp[b a.2]
def RI{b:List j}{c:j}(d:b[a]? =some c):b.set a c=b:=by
 apply X3;intro f;rw[Xj];split
 ·rename_i e;subst e;rw[if_pos (Qv.1 d).1,d]
 ·rfl
section
variable {w w':World} {D E F:Nat->Prop} {t:List bD} {cells:List du} {op arg:Int} {ma ca ta:Option Addr} {mn mc cn cc tn tc i:Nat} {L:List (Bx du)} {bx:Bx du}
def VL{a:du}(c:∀i∈b9.bH,kO.Ok i)(j:aN a.n/\xG a.set/\a.set.length<=64)(k:aN arg)(l:op=3->arg∈a.set\/a.set.length<64):
  aN (WU b9 a op arg).n/\xG (WU b9 a op arg).set/\(WU b9 a op arg).set.length<=64:=by
 obtain⟨g,b,d⟩:=j;unfold WU
 split
 ·exact⟨NU _,b,d⟩
 split
 ·exact⟨k,b,d⟩
 split
 ·rename_i h
  refine⟨g,Fu b,?_⟩
  by_cases c:arg∈a.set
  ·show(qN arg a.set).length<=64
   rw[vF c b];exact d
  ·show(qN arg a.set).length<=64
   rw[RH c];rcases l h with h|h
   ·exact absurd h c
   ·omega
 split
 ·exact⟨g,b.sublist List.filter_sublist,Xx (List.length_filter_le ..) d⟩
 ·refine⟨?_,b,d⟩
  show aN (b9.bH.getD arg.toNat ⟨0,0,0,0⟩).qF
  by_cases e:arg.toNat<b9.bH.length
  ·have f:b9.bH.getD arg.toNat ⟨0,0,0,0⟩=b9.bH[arg.toNat]:=by simp[QQ,e]
   rw[f];exact(c _ (XY e)).2.1
  ·have f:b9.bH.getD arg.toNat ⟨0,0,0,0⟩=⟨0,0,0,0⟩:=by simp[QQ,Q7 (Nat.le_of_not_lt e)]
   rw[f];simp[aN]
def TP(b:Jb t cells (i:Int) op arg)(f:aN arg)(c:Row gC 32 w E ma mn (t.getD i ⟨0,0,false,[]⟩).bH)(g:∀d,E d->¬aI ca=some d)(a:kN w ca cn cc L i bx F):
  enters ZQ (Yq op)=true/\Calls ZQ (Yq op) (#[]++ #[Bv (t.getD i ⟨0,0,false,[]⟩) ma mn mc ca cn cc (i:Int) arg]++ #[]) w (Ok λh w'=>h= .tuple #[]/\qS w ca cn cc L i F (WU (t.getD i ⟨0,0,false,[]⟩) bx.x op arg) w'):=by
 have k:=b.Xe;have l:=b.Xf;have:op=1\/op=2\/op=3\/op=4\/op=5:=oM
 rcases this with rfl|rfl|rfl|rfl|rfl
 ·exact⟨kR,do_1 a⟩
 ·exact⟨kR,YF a⟩
 ·exact⟨kR,YH a f⟩
 ·exact⟨kR,YI a⟩
 ·obtain⟨j,e,m⟩:=b.mv rfl
  rw[Qx]at e;exact⟨kR,YG a c g j (by rw[c.len];exact e)⟩
structure Xh (w9:World) (ca:Option Addr) (cn cc:Nat) (D:Nat->Prop) (cells:List du) (j:Nat) (w':World) (L:List (Bx du)) (Fi:Nat->Nat->Prop):Prop where
 pG:aV lx.k_ 84 (λb=>aI ca=some b) w' ca cn cc L
 eq:L.map (·.x)=cells
 own:∀i b,i<j->L[i]? =some b->aV aP 3 (Fi i) w' b.a b.n b.c b.x.set
 aF:∀i x,Fi i x->w9.heap.size<=x/\x<w'.heap.size/\¬aI ca=some x
 ap:∀i k x,i≠k->Fi i x->¬Fi k x
 pI:∀i x,j<=i->¬Fi i x
 keep:aj (λb=>aI ca=some b) w9 w'
def TQ{u:Int}(p:Jb t cells u op arg)(N:xL t cells u op arg=0)(a2:aN arg)(e3:t.length<=64)(ht:Row pT 48 w E ta tn t)(hE:∀b,E b->b<w.heap.size)(h:Row fL 32 w D ca cn cells)(hD:∀b,D b->b<w.heap.size):
  Calls ZQ 204 #[.agg #[.slice ta tn tc],.slice ca cn cc,QH u,QH op,QH arg] w (Ok (qD fL 84 w (TO t cells u op arg))):=by
 obtain⟨i,rfl⟩:∃i:Nat,u=i:=⟨u.toNat,by have:=p.f0;omega⟩
 obtain⟨n,C,l2,l3⟩:=fv.boxes h;have e4:=p.len;have e5:n.length=cells.length:=by rw[<-C];simp
 refine Pf (PA.mk λw1 k1 s1 g1=>PC.ok (qR (l2.af k1) λb d=>by have:=hD b d;omega) ?_);rintro _ O ⟨o,r,F,F9,rfl,x,P,d4⟩;have e6:=x.len dC;have e7:=h.len;have y:∀b,aI o=some b->w1.heap.size<=b:=λb d=>d4 b (x.self b d);have Q:∀b,aI o=some b->b<O.heap.size:=λb d=>x.aF b (x.self b d);refine⟨_,_,_,rfl,λR a8 w'=>∃g:Nat,a8=g/\g<=r/\R=r-g/\∃L q,Xh O o r F D cells g w' L q/\∀c,g<=c->L[c]? =n[c]?,
  ⟨_,0,rfl,Qj _,rfl,n,λ_ _=>False,⟨x.alone,C,λi b hi=>oM,λ_ _ h=>h.elim,λ_ _ _ _ h=>h.elim,λ_ _ _=>id,aj.refl _⟩,λc _=>rfl⟩,?_⟩
 rintro R _ _ b9 ⟨g,rfl,hj,rfl,L,q,f,a3⟩;have e8:L.length=cells.length:=by rw[<-f.eq];simp
 have H:ai w b9:=(k1.then P).new f.keep λb d=>.inr (by have:=y b d;omega);refine al.dec (λe9=>?_) (λf0=>?_)
 ·have c0:g<n.length:=oM
  have S:n[g]? =some n[g]:=Qq c0;obtain⟨b,T,es,U,d,f5,a9,rfl,-⟩:=(l2.af H).el g n[g] S;have d5:=l3 n[g] (XY c0);refine⟨b,T,U,oM,oM,_,_,_,a9 1 dC,PC.ok (cH (d5.1.af H) λb d=>by have:=hD b d;have:=H.size;omega) ?_⟩;rintro _ f6 ⟨g0,g2,g3,G,rfl,a4,I,J⟩;have a5:=f.pG.af I;have hz:=f.keep.size;obtain⟨z,c1⟩:∃z,o=ZZ z:=by
   rcases a5.body with⟨cs,D',ho,-⟩;rcases ho.cases with⟨-,hn,-⟩|⟨z,b0,e,-⟩
   ·omega
   ·exact⟨z,e⟩
  refine⟨_,_,_,rfl,z,0,c1,oM,oM,?_⟩;simp only[Qx];refine fv.set a5 (by rw[a3 g (Q4 _)];exact S) c1 λg4 c2 V g5=>⟨_,?_,g+1,an oM,oM,rfl,_,λc=>if c=g then G else q c,⟨c2,?_,?_,?_,?_,?_,?_⟩,?_⟩
  ·omega
  ·rw[List.map_set,f.eq,RI]
   rw[<-C,Q9,S];rfl
  ·intro c b m d
   rw[Xj]at d
   by_cases W:g=c
   ·subst W
    rw[if_pos rfl,if_pos oM]at d
    cases d
    rw[if_pos rfl];exact a4.keep V λa B e=>by have:=J a B;have:=Q a e;omega
   ·rw[if_neg W]at d
    rw[if_neg (λe=>W e.symm)];exact((f.own c b oM d).af I).keep V λa B e=>(f.aF c a B).2.2 e
  ·intro c a B
   split at B
   ·have:=J a B;have:=a4.aF a B;exact⟨oM,oM,λe=>by have:=Q a e;omega⟩
   ·have K:=f.aF c a B;have:=I.size;exact⟨K.1,oM,K.2.2⟩
  ·intro c k' a X B j
   split at B<;>split at j
   ·omega
   ·have:=J a B;have:=f.aF k' a j;omega
   ·have:=J a j;have:=f.aF c a B;omega
   ·exact f.ap c k' a X B j
  ·intro c a m B
   rw[if_neg oM]at B;exact f.pI c a oM B
  ·exact(f.keep.af I).then V
  ·intro c m
   rw[Xj,if_neg oM,a3 c oM]
 ·have g6:g=r:=oM
  refine PC.ok Bu ?_;rintro _ g7 ⟨f7,rfl,Y,Z⟩;refine⟨_,rfl,nw Bt GZ Y ?_⟩;rw[NS p.Xe p.Xf];refine⟨_,_,_,rfl,PA.mk λg8 d6 g9 d7=>aD (RE op) d7 rfl λd8 d9 h0 b3=>al.tt rfl λb4 e0=>?_⟩;have c3:ai d8 b4:=e0.keep;have v:ai b9 b4:=((Z.then d6).new d9 λb d=>.inr (by have:=Z.size;omega)).then c3;have c4:=H.then v;have b3:=c3.get b3 id;have z9:=f.keep.size;have h2:=Z.size;have h4:=P.size;have gt:=v.get (f.keep.get (P.get g1 id) (λe=>by have:=y _ e;omega)) id;have h5:=p.f1;have h6:=ht.len;obtain⟨b,T,f8,f9,b1,U,d,h7,f1,f2,f3,f4,c5⟩:=Hc (ht.af c4) (i:=i) oM;have c6:i<L.length:=oM
  have M:L[i]? =some L[i]:=Qq c6;generalize L[i]=bx at M;have b5:cells[i]? =some bx.x:=by rw[<-f.eq,Q9,M];rfl
  have c7:cells.getD i ⟨0,[]⟩=bx.x:=by rw[QQ,b5];rfl
  have a0:∀(c:Nat) (a:du),cells[c]? =some a->aN a.n/\xG a.set/\a.set.length<=64:=λc a B=>by
   rw[<-C,Q9]at B
   cases hL:n[c]? with
   |none=>rw[hL]at B;cases B
   |some b2=>rw[hL]at B;cases B;exact(l3 b2 (QZ hL)).2
  have c8:kN b4 o r F L i bx (q i):=⟨f.pG.af v,M,(f.own i bx oM M).af v,λb d=>(f.aF i b d).2.2,a0 i _ b5,oM⟩
  obtain⟨a1,s⟩:=TP (mc:=b1) p a2 c5 (λb d e=>by have:=hE b d;have:=y b e;omega) c8;refine⟨_,ae b3 rfl,_,_,_,ae gt rfl,b,T,U,oM,oM,_,_,_,_,_,_,f1,f2,f3,f4,_,_,_,rfl,a1,PC.ok s ?_⟩;rintro _ b6 ⟨rfl,k,A,j,d0,a6,b7,d1⟩;have h8:=b7.size;have zg:=v.size;have b8:∀a,A a->O.heap.size<=a:=λa B=>by
   rcases d1 a B with h|h
   ·exact(f.aF i a h).1
   ·omega
  have d2:∀c b,(L.set i k)[c]? =some b->aV aP 3 (λa=>if c=i then A a else q c a) b6 b.a b.n b.c b.x.set:=λc b d=>by
   rw[Xj]at d
   by_cases m:i=c
   ·subst m
    rw[if_pos rfl,if_pos c6]at d
    cases d
    simp only[if_true];rw[j];exact a6
   ·rw[if_neg m]at d
    simp only[if_neg (λe:c=i=>m e.symm)];have h9:=(Qv.1 d).1;refine((f.own c b oM d).af v).keep b7 λa B e=>?_;rcases e with e|e
    ·exact(f.aF c a B).2.2 e
    ·exact f.ap c i a (λe=>m e.symm) B e
  have a7:∀b∈L.set i k,aN b.x.n/\xG b.x.set/\b.x.set.length<=64:=λb d=>by
   obtain⟨c,m,rfl⟩:=List.getElem_of_mem d;have l:(L.set i k)[c]? =some (L.set i k)[c]:=Qq m;generalize(L.set i k)[c]=b at l;rw[Xj]at l
   by_cases d3:i=c
   ·rw[if_pos d3,if_pos oM]at l
    cases l
    rw[j];refine VL (λR Y=>?_) (a0 i _ b5) a2 λh3=>?_
    ·obtain⟨c9,hq,rfl⟩:=List.getElem_of_mem Y
     obtain⟨b',o',es,-,-,-,-,-,e1⟩:=c5.el c9 _ (Qq hq);exact e1
    ·rw[Ha]at N
     have d:RB t cells (i:Int) op arg=true:=by
      cases hq:RB t cells (i:Int) op arg
      ·rw[hq]at N;simp at N
      ·rfl
     unfold RB at d;subst h3;simp only[Qx,c7]at d;simpa using d
   ·rw[if_neg d3]at l
    exact a0 c _ (by rw[<-f.eq,Q9,l];rfl)
  have e2:∀b∈L.set i k,b.x.set.length<=64:=λb d=>(a7 b d).2.2;have hU:aV lx.Pe 84 (λa=>aI o=some a\/((∃c,c≠i/\q c a)\/A a)) b6 o r F ((L.set i k).map (·.x)):=by
   refine fv.unbox (N:=lx) (D:=λa=>(∃c,c≠i/\q c a)\/A a) d0 (λb d=>(⟨?_,a7 b d⟩:lx.In b6 _ b)) (λa B=>?_)
   ·obtain⟨c,m,rfl⟩:=List.getElem_of_mem d
    have K:=d2 c _ (Qq m);refine(K.row (bytes:=8) dC ?_).mono λa B=>?_
    ·have:=e2 _ d;unfold aQ;omega
    ·split at B
     ·exact .inr B
     ·rename_i X;exact .inl ⟨c,X,B⟩
   ·rcases B with⟨c,-,B⟩|B
    ·have:=f.aF c a B;exact⟨oM,this.2.2⟩
    ·refine⟨a6.aF a B,λe=>?_⟩
     rcases d1 a B with h|h
     ·exact(f.aF i a h).2.2 e
     ·have:=Q a e;omega
  refine⟨rfl,Ok.mk ⟨o,r,F,(λa=>aI o=some a\/((∃c,c≠i/\q c a)\/A a)),rfl,?_,?_,?_⟩⟩
  ·rw[VK p.Xe p.Xf,Qx,c7,<-j,<-f.eq,<-List.map_set];exact hU
  ·exact c4.new b7 λa B=>.inr (by
    rcases B with B|B
    ·have:=y a B;omega
    ·have:=(f.aF i a B).1;omega)
  ·rintro a (B|⟨c,-,B⟩|B)
   ·have:=y a B;omega
   ·have:=(f.aF c a B).1;omega
   ·have:=b8 a B;omega
end
end Go.Proofs.YtfchlbaidamodaaGreatDoor
namespace Go.ax
open Go
variable{d:Option Addr}{y:World->Prop}
section
variable {α β:Type} {N:fv α β} {w9 w w':World} {a:Option Addr} {n c j:Nat} {L0:List (Bx α)} {e:TypeId}
def eO(N:fv α β)(e:TypeId)(w9:World)(a:Option Addr)(n c:Nat)(L0:List (Bx α))(j:Nat)(w':World):Prop:=
 ∃(d:List (Bx α)) (h:Nat->Prop),aV N.k_ e (λb=>aI a=some b) w' a n c d/\d.map (·.x)=L0.map (·.x)/\(∀(i:Nat) (b:Bx α),i<j->d[i]? =some b->N.In w' h b)/\(∀g:Nat,j<=g->d[g]? =L0[g]?)/\
  aj (λb=>aI a=some b) w9 w'/\∀f,h f->w9.heap.size<=f/\f<w'.heap.size/\¬aI a=some f
def eO.start(b:aV N.k_ e (λd=>aI a=some d) w9 a n c L0):eO N e w9 a n c L0 0 w9:=
 ⟨L0,λ_=>False,b,rfl,λf d g=>oM,λ_ _=>rfl,aj.refl _,λ_ b=>b.elim⟩
def eO.af(d:eO N e w9 a n c L0 j w)(b:ai w w'):eO N e w9 a n c L0 j w':=by
 obtain⟨i,k,l,m,o,p,q,f⟩:=d;exact⟨i,k,l.af b,m,λr s t u=>(o r s t u).keep b λ_ _ d=>d,p,q.af b,λg h=>⟨(f g h).1,Qk (f g h).2.1 b.size,(f g h).2.2⟩⟩
def eO.keep(b:eO N e w9 a n c L0 j w):aj (λd=>aI a=some d) w9 w:=b.elim λf b=>b.elim λD b=>b.2.2.2.2.1
def eO.len(b:eO N e w9 a n c L0 j w):n=L0.length:=by
 obtain⟨h,i,d,f,-⟩:=b;have:=congrArg List.length f;simp at this;have g:0<N.k:=Nat.lt_of_le_of_lt (Qj _) N.ho;rw[d.len g,this]
def eO.some(d:eO N e w9 a n c L0 j w)(i:j<n):∃b,a=ZZ b:=by
 obtain⟨k,l,f,-⟩:=d;rcases f.body with⟨cs,m,g,-⟩;rcases g.cases with⟨-,o,-⟩|⟨b,h,e,-⟩
 ·omega
 ·exact⟨b,e⟩
def eO.cell(m:eO N e w9 a n c L0 j w){h:Nat}(o:a=Option.some ⟨h,0,none⟩){b:Bx α}(p:L0[j]? =Option.some b)(q:n*N.k<=aQ):∀f g,(N.hd b.x b.a b.n b.c)[f]? =Option.some g->w.cell? ⟨h,0+j*N.k+f,none⟩=Option.some g:=by
 obtain⟨u,v,i,x,y,r,z,A⟩:=m;have k:0<N.k:=Nat.lt_of_le_of_lt (Qj _) N.ho;have s:=i.row (bytes:=N.k) k (by rw[<-i.len k];exact q);obtain⟨B,C,E,d,-,-,t,rfl,-⟩:=s.el j b (by rw[r j (Q4 _)];exact p);rw[o]at d;cases d
 intro f g l;rw[<-l];exact t f (by have:=(Qv.1 l).1;rw[N.hl]at this;exact this)
def eO.step(x:eO N e w9 a n c L0 j w){g:Nat}(o:a=Option.some ⟨g,0,none⟩){f:Bx α}(i:L0[j]? =Option.some f){p z:Nat}{G:Nat->Prop}(A:Row N.ci N.ib w G d p (N.inner f.x))(C:N.ok f.x)(k:∀b,G b->w9.heap.size<=b/\b<w.heap.size)(Q:g<w9.heap.size)(l:∀w',eO N e w9 a n c L0 (j+1) w'->aj (λf=>aI a=Option.some f) w w'->w'.heap.size=w.heap.size->y w'):
  PS w ⟨g,0+j*N.k+N.o,none⟩ (.slice d p z) y:=by
 obtain⟨E,F,H,I,J,q,K,r⟩:=x;have s:E[j]? =Option.some f:=by rw[q j (Q4 _)];exact i
 have L:=(Qv.1 s).1;have t:∀b,G b->¬aI a=Option.some b:=λb B e=>by
  have:=(k b B).1;rw[o]at e;simp only[aI,Q1]at e;omega
 refine fv.set H s o λM O h m=>l M ⟨_,λb=>F b\/G b,O,?_,?_,?_,K.then h,?_⟩ h m
 ·rw[List.map_set,I]
  apply X3;intro R;rw[Xj];split
  ·rename_i e;subst e
   rw[if_pos (by simpa using(Qv.1 i).1),Q9,i];rfl
  ·rfl
 ·intro u b S B
  rw[Xj]at B
  by_cases v:j=u
  ·subst v
   rw[if_pos rfl,if_pos L]at B
   cases B
   exact⟨(A.keep h λb B=>t b B).mono λb B=>.inr B,C⟩
  ·rw[if_neg v]at B
   exact((J u b oM B).keep h λb B=>(r b B).2.2).mono λb B=>.inl B
 ·intro P T
  rw[Xj,if_neg oM,q P oM]
 ·rintro b (B|B)
  ·rw[m];exact r b B
  ·rw[m];exact⟨(k b B).1,(k b B).2,t b B⟩
def eO.done(g:eO N e w9 a n c L0 n w):∃h,aV N.Pe e h w a n c (L0.map (·.x))/\∀b,h b->aI a=Option.some b\/w9.heap.size<=b:=by
 have r:=g.len;obtain⟨j,k,l,i,m,s,t,f⟩:=g;have u:j.length=L0.length:=by have:=congrArg List.length i;simpa using this
 rw[<-i];refine⟨_,fv.unbox (D:=k) l (λv o=>?_) λb d=>⟨(f b d).2.1,(f b d).2.2⟩,λb d=>d.imp id λd=>(f b d).1⟩;obtain⟨p,q,rfl⟩:=List.getElem_of_mem o;exact m p _ oM (Qq q)
end
end Go.ax
namespace Go.Proofs.YtfchlbaidamodaaGreatDoor
open Go.ax
def qE:fv ah Int where
 k:=10
 ci:=aP
 ib:=8
 inner:=(·.aK)
 hd:=aE
 ok:=ah.Ok
 hl:=λ_ _ _ _=>rfl
 h1:=λb c d e f a=>by
  simp only[aE,Q2,List.not_mem_nil,or_false]at a;rcases a with rfl|rfl|rfl|rfl|rfl|rfl|rfl|rfl|rfl|rfl<;>rfl
 o:=3
 ho:=dC
 fz:=λ_ _ _ _ _ _ _=>rfl
def Ud:qE.Pe=fZ:=rfl
def Li:fv bD kO where
 k:=4
 ci:=gC
 ib:=32
 inner:=(·.bH)
 hd:=eg
 ok:=λa=>aN a.kind/\aN a.eV
 hl:=λ_ _ _ _=>rfl
 h1:=λc d e f g b=>by
  simp only[eg,Q2,List.not_mem_nil,or_false]at b;rcases b with rfl|rfl|rfl|rfl<;>rfl
 o:=3
 ho:=dC
 fz:=λ_ _ _ _ _ _ _=>rfl
def IK:Li.Pe=pT:=rfl
variable{e:Int}{b2:List du}{a c:Nat}{d:Option Addr}
section
variable {w w':World} {D E F:Nat->Prop}
def oV{e:ah}{w:World}{D:Nat->Prop}(j:Row aP 8 w D d a e.aK)(t:∀b,D b->b<w.heap.size):
  Calls ZQ 147 #[kK e d a c] w (Ok λu w'=>∃d a c G,u=kK e d a c/\Row aP 8 w' G d a e.aK/\(∀b,G b->w.heap.size<=b/\b<w'.heap.size)/\ai w w'):=by
 have v:=j.d_;have x:=j.len;refine Hs (PA.mk λA n B g=>PA.mk λC h E k=>⟨_,_,_,ae (h.get g id) rfl,PC.ok (cH (j.af (n.then h)) λb f=>by have:=t b f;omega) ?_⟩);rintro _ F ⟨o,p,q,G,rfl,r,i,l⟩;have g:=i.get (h.get g id) id;have k:=i.get k id;refine⟨_,_,_,rfl,PS.mk g (by simp[aE]) λH m I y=>?_⟩;refine aw (cs:=aE e o p q) (bg _ _ _ _) y (aD (bg _ _ _ _) (m.get k oM) rfl λJ s K z=>aw (bg _ _ _ _) z (Ok.mk ⟨o,p,q,G,rfl,?_,?_,?_⟩))
 ·refine(((r.keep m λb f=>?_).keep s λb f=>?_).row (bytes:=8) dC (by rw[<-x];exact v))
  ·have:=l b f;omega
  ·have:=l b f;omega
 ·intro b f
  have:=l b f;have:=r.aF b f;omega
 ·have L:=i.size
  exact((aj.new ((n.then h).then i) m λb f=>.inr oM).new s λb f=>.inr oM)
def Mg(h:Row fL 32 w D d a b2)(E:∀b,D b->b<w.heap.size):
  Calls ZQ 153 #[.agg #[QH e,.slice d a c]] w (Ok λa1 w'=>∃H I J F,a1= .agg #[QH e,.slice H I J]/\aV fL 84 F w' H I J b2/\(∀b,F b->w.heap.size<=b)/\ai w w'):=by
 obtain⟨m,K,l2,l3⟩:=fv.boxes h;have L:=h.d_;have c1:=h.len;have c2:m.length=b2.length:=by rw[<-K];simp
 refine Ht (PA.mk λM N s1 O=>PA.mk λw2 q s2 g2=>⟨_,_,_,ae (q.get O id) rfl,PC.ok (qR (l2.af (N.then q)) λb f=>by have:=E b f;omega) ?_⟩);rintro _ w9 ⟨k,n,x,F9,rfl,r,s,b6⟩;have o:∀b,aI k=some b->w2.heap.size<=b:=λb f=>b6 b (r.self b f);have a2:∀b,aI k=some b->b<w9.heap.size:=λb f=>r.aF b (r.self b f);refine⟨_,_,_,rfl,PS.mk (s.get (q.get O id) id) sM λt y c3 u=>⟨_,_,_,ae u rfl,?_⟩⟩;have z9:=s.size;have a3:=y.get (s.get g2 id) oM;have a4:aV lx.k_ 84 (λb=>aI k=some b) t k n x m:=r.alone.keep y λb f g=>by have:=o b f;omega
 have a5:ai w t:=((N.then q).then s).new y λb f=>.inr oM;refine⟨λP a6 w'=>∃i:Nat,a6=i/\i<=n/\P=n-i/\eO lx 84 t k n x m i w',⟨_,0,rfl,Qj _,rfl,eO.start a4⟩,?_⟩;rintro P _ _ Q ⟨i,rfl,hj,rfl,j⟩;have c4:=j.len;have z:ai w Q:=a5.new j.keep λb f=>.inr (by have:=o b f;omega);have A:¬aI k=some w.heap.size:=λg=>by have:=o _ g;omega
 have R:¬aI k=some M.heap.size:=λg=>by have:=o _ g;omega
 refine al.dec (λc5=>λb7 b8=>?_) (λc6=>?_)
 ·have p:ai Q b7:=b8.keep
  have S:=j.af p;obtain⟨l,rfl⟩:=j.some oM;have c7:=o l rfl;have a7:l<t.heap.size:=by have:=a2 l rfl;omega
  have B:m[i]? =some m[i]:=Qq oM;have v:=l3 m[i] (XY oM);generalize m[i]=C at B v;have T:=p.get (j.keep.get u A) id;refine⟨λb=>b=l,by show w.heap.size≠l;omega,_,_,_,ae T rfl,_,_,_,ae T rfl,l,0,rfl,by omega,by omega,_,_,_,S.cell rfl B (by show n*2<=aQ;unfold aQ at L⊢;omega) 1 _ rfl,PC.ok (cH ((v.1.af z).af p) λb f=>by have:=E b f;have:=(z.then p).size;omega) ?_⟩;rintro _ c8 ⟨d0,d1,d2,G,rfl,U,V,hG⟩;refine⟨_,_,_,rfl,ai.keep V,l,0,rfl,oM,oM,?_⟩;have d3:=j.keep.size;have d4:=p.size;refine(S.af V).step (g:=l) rfl B (U.row (bytes:=8) dC ?_) v.2 (λW X=>⟨by have:=hG W X;omega,U.aF W X⟩) a7 λd5 b0 b9 d6=>⟨b9.mono λb _ g=>(by simpa[aI]using g.symm),_,?_,i+1,an (by unfold aQ at L;omega),oM,rfl,b0⟩
  ·have:C.x.set.length<=64:=v.2.2.2
   show(lx.inner C.x).length*8<=aQ;unfold aQ;show C.x.set.length*8<=_;omega
  ·omega
 ·obtain rfl:i=n:=oM
  obtain⟨Fd,Y,Z⟩:=j.done;rw[K]at Y;have d7:=j.keep.size;refine⟨_,_,_,_,ae (j.keep.get u A) rfl,ae (j.keep.get u A) rfl,PS.mk (j.keep.get a3 R) sM λd8 a0 d9 c0=>PS.mk c0 sM λe0 b3 e1 b4=>⟨_,_,_,_,ae b4 rfl,ae b4 rfl,Ok.mk ⟨k,_,x,Fd,rfl,?_,?_,?_⟩⟩⟩
  ·have b5:∀b,Fd b->b≠M.heap.size:=λb f g=>by
    rcases Z b f with h|h
    ·exact R (g▸h)
    ·omega
   exact(Y.keep a0 λb f g=>b5 b f g).keep b3 λb f g=>b5 b f g
  ·intro b f
   rcases Z b f with h|h
   ·have:=o b h;omega
   ·omega
  ·exact(z.new a0 λb f=>.inr oM).new b3 λb f=>.inr oM
end
end Go.Proofs.YtfchlbaidamodaaGreatDoor

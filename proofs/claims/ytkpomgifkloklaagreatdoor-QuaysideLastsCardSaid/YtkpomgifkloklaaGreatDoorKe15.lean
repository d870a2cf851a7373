import Derived.Lib.AppendZerosOnto
import Derived.Lib.Overlaps
import Derived.Test.YtkpomgifkloklaaGreatDoorKe14
set_option maxHeartbeats 4000000
set_option linter.all false
set_option maxRecDepth 20000
open Go.IntKind renaming wrap→PP
namespace Go.aw
open Go
def IA(h:Program)(e tn:TypeId)(i:Nat)(A q:FuncId)(g:be)(a b:Nat)(n:Int)(m:be)(P o:Nat)(c:World)(f:ba):Prop:=
 ((0:Int)<=n/\(n:Int)<=((a:Nat):Int)/\al ((((P:Nat):Int):Int)==0) (f (.returned (.slice g a b)) c) (al ((n:Int)==((a:Nat):Int)) (aK h (Builtin.append_ #[e,e] e #[.slice g a b,.slice m P o]) c (λB C=>∃(r:be) (s:Nat) (t:Nat),B= .slice r s t/\f (.returned (.slice r s t)) C) (λd c=>f (.panicked [{v:=d,recovered:=false}]) c)) (aK h (Builtin.cap_ #[e] tn #[.slice g a b]) c (λE u=>∃(v:Int),E= WP v/\al (decide (((PP .i64 (((a:Nat):Int)+((P:Nat):Int))):Int)>v)) (((0:Int)<=n/\(n:Int)<=((b:Nat):Int)/\aK h (Builtin.append_ #[e,tn] e #[.slice g (Int.toNat n) b,WP (PP .i64 ((PP .i64 (((a:Nat):Int)+((P:Nat):Int)))-n))]) u (λF H=>∃(p:be) (k:Nat) (l:Nat),F= .slice p k l/\((0:Int)<=n/\(n:Int)<=((k:Nat):Int)/\aK h (Builtin.copy_ #[e,e] tn #[.slice (df p (Int.toNat n) l i) (k-Int.toNat n) (l-Int.toNat n),.slice m P o]) H (λI J=>∃(K:Int),I= WP K/\(∀w,bW J w->((0:Int)<=(PP .i64 (n+((P:Nat):Int)))/\((PP .i64 (n+((P:Nat):Int))):Int)<=((k:Nat):Int)/\((0:Int)<=n/\(n:Int)<=((a:Nat):Int)/\aK h (Builtin.copy_ #[e,e] tn #[.slice (df p (Int.toNat (PP .i64 (n+((P:Nat):Int)))) l i) (k-Int.toNat (PP .i64 (n+((P:Nat):Int)))) (l-Int.toNat (PP .i64 (n+((P:Nat):Int)))),.slice (df g (Int.toNat n) b i) (a-Int.toNat n) (b-Int.toNat n)]) w (λL M=>∃(N:Int),L= WP N/\f (.returned (.slice p k l)) M) (λd j=>∀(_:cz) (_:c_),f (.panicked [{v:=d,recovered:=false}]) j))))) (λd c=>f (.panicked [{v:=d,recovered:=false}]) c))) (λd c=>f (.panicked [{v:=d,recovered:=false}]) c))) (((0:Int)<=(PP .i64 (((a:Nat):Int)+((P:Nat):Int)))/\((PP .i64 (((a:Nat):Int)+((P:Nat):Int))):Int)<=((b:Nat):Int)/\((0:Int)<=(PP .i64 (n+((P:Nat):Int)))/\((PP .i64 (n+((P:Nat):Int))):Int)<=(((Int.toNat (PP .i64 (((a:Nat):Int)+((P:Nat):Int)))):Nat):Int)/\UE h A #[.slice m P o,.slice (df g (Int.toNat (PP .i64 (n+((P:Nat):Int)))) b i) ((Int.toNat (PP .i64 (((a:Nat):Int)+((P:Nat):Int))))-Int.toNat (PP .i64 (n+((P:Nat):Int)))) (b-Int.toNat (PP .i64 (n+((P:Nat):Int))))] u (λO x=>∃(y:Bool),O= .bool y/\al (!y) ((∀z,bW x z->((0:Int)<=(PP .i64 (n+((P:Nat):Int)))/\((PP .i64 (n+((P:Nat):Int))):Int)<=(((Int.toNat (PP .i64 (((a:Nat):Int)+((P:Nat):Int)))):Nat):Int)/\((0:Int)<=n/\(n:Int)<=(((Int.toNat (PP .i64 (((a:Nat):Int)+((P:Nat):Int)))):Nat):Int)/\aK h (Builtin.copy_ #[e,e] tn #[.slice (df g (Int.toNat (PP .i64 (n+((P:Nat):Int)))) b i) ((Int.toNat (PP .i64 (((a:Nat):Int)+((P:Nat):Int))))-Int.toNat (PP .i64 (n+((P:Nat):Int)))) (b-Int.toNat (PP .i64 (n+((P:Nat):Int)))),.slice (df g (Int.toNat n) b i) ((Int.toNat (PP .i64 (((a:Nat):Int)+((P:Nat):Int))))-Int.toNat n) (b-Int.toNat n)]) z (λQ R=>∃(S:Int),Q= WP S/\((0:Int)<=n/\(n:Int)<=(((Int.toNat (PP .i64 (((a:Nat):Int)+((P:Nat):Int)))):Nat):Int)/\aK h (Builtin.copy_ #[e,e] tn #[.slice (df g (Int.toNat n) b i) ((Int.toNat (PP .i64 (((a:Nat):Int)+((P:Nat):Int))))-Int.toNat n) (b-Int.toNat n),.slice m P o]) R (λT U=>∃(V:Int),T= WP V/\f (.returned (.slice g (Int.toNat (PP .i64 (((a:Nat):Int)+((P:Nat):Int)))) b)) U) (λd c=>f (.panicked [{v:=d,recovered:=false}]) c))) (λd j=>∀(_:cz) (_:c_),f (.panicked [{v:=d,recovered:=false}]) j))))) (((0:Int)<=((a:Nat):Int)/\(((a:Nat):Int):Int)<=(((Int.toNat (PP .i64 (((a:Nat):Int)+((P:Nat):Int)))):Nat):Int)/\aK h (Builtin.copy_ #[e,e] tn #[.slice (df g (Int.toNat ((a:Nat):Int)) b i) ((Int.toNat (PP .i64 (((a:Nat):Int)+((P:Nat):Int))))-Int.toNat ((a:Nat):Int)) (b-Int.toNat ((a:Nat):Int)),.slice m P o]) x (λW X=>∃(Y:Int),W= WP Y/\((0:Int)<=n/\(n:Int)<=(((Int.toNat (PP .i64 (((a:Nat):Int)+((P:Nat):Int)))):Nat):Int)/\PC h q #[.slice (df g (Int.toNat n) b i) ((Int.toNat (PP .i64 (((a:Nat):Int)+((P:Nat):Int))))-Int.toNat n) (b-Int.toNat n),WP ((P:Nat):Int)] X (λZ b8=>Z= .tuple #[]/\f (.returned (.slice g (Int.toNat (PP .i64 (((a:Nat):Int)+((P:Nat):Int)))) b)) b8) (λch c=>f (.panicked ch) c))) (λd c=>f (.panicked [{v:=d,recovered:=false}]) c)))) (λd c=>f (.panicked [{v:=d,recovered:=false}]) c))))) (λd c=>f (.panicked [{v:=d,recovered:=false}]) c))))
def Gt(l:Program)(e p:TypeId)(m:Nat)(h:be)(n b:Nat)(c P:Int)(f:World)(g:ba):Prop:=
 ((0:Int)<=c/\(c:Int)<=P/\(P:Int)<=((n:Nat):Int)/\(((n:Nat):Int):Int)<=((b:Nat):Int)/\al ((c:Int)==P) (g (.returned (.slice h n b)) f) ((∀o,bW f o->((0:Int)<=c/\(c:Int)<=((b:Nat):Int)/\((0:Int)<=P/\(P:Int)<=((n:Nat):Int)/\aK l (Builtin.append_ #[e,e] e #[.slice h (Int.toNat c) b,.slice (df h (Int.toNat P) b m) (n-Int.toNat P) (b-Int.toNat P)]) o (λq r=>∃(i:be) (a:Nat) (d:Nat),q= .slice i a d/\((0:Int)<=((a:Nat):Int)/\(((a:Nat):Int):Int)<=((n:Nat):Int)/\(((n:Nat):Int):Int)<=((d:Nat):Int)/\aK l (Builtin.clear_ #[e] p #[.slice (df i (Int.toNat ((a:Nat):Int)) d m) (Int.toNat ((n:Nat):Int)-Int.toNat ((a:Nat):Int)) (d-Int.toNat ((a:Nat):Int))]) r (λt s=>g (.returned (.slice i a d)) s) (λj f=>g (.panicked [{v:=j,recovered:=false}]) f))) (λj k=>∀(_:cz) (_:c_),g (.panicked [{v:=j,recovered:=false}]) k))))))
def rK(n:World)(P:Nat)(a:Array Value):aj (·=P) n (n.setRow P a):=by
 refine⟨rfl,rfl,rfl,by simp[World.setRow],λb e c=>?_⟩;show(n.heap.modify P _)[b]? =_;rw[Array.getElem?_modify,Zq (λd=>c d.symm)]
variable{d1:Addr}{o:Array Value}{B:ba}{a4 e4:List Value}{I a c i p:Nat}{f:ac}{d:be}{h:Program}{j:Type}{C c1 g q:TypeId}{m t:am}{b:World}
def Oa{k bytes:Nat}(r:ki h g q k bytes){a e c f P d n:Nat}{cs:List Value}(l:b.heap[a]? =some (.cells o c1 (0,0)))(u:Nat.min P c=n)(v:cs.length=n*k)(w:∀s i,cs[s]? =some i->b.cell? (d1.add s)=some i)(x:e+cs.length<=o.size)(y:∀i∈cs,i.oneCell'=true)(p:∀j,j.heap[a]? =some (.cells (o.toList.take e++cs++o.toList.drop (e+cs.length)).toArray c1 (0,0))->aj (·=a) b j->j.heap.size=b.heap.size->m (WP (n:Int)) j):
  aK h (Builtin.copy_ #[g,g] C #[.slice (some ⟨a,e,none⟩) c f,.slice (some d1) P d]) b m t:=by
 obtain⟨F,H,z,I,A,J,K⟩:=ki.info r;have B:=run_firstCells_some (P:=h) b k n d1 P d cs v w;have E:=run_storeCells_at h a e c1 cs 0 o b l (by simpa using x) y;refine aK.mk (w':=b.setRow a (o.toList.take e++cs++o.toList.drop (e+cs.length)).toArray) ?_ (p _ (setRow_heap b a o _ c1 (0,0) l) (rK b a _) ?_)
 ·simp[Builtin.copy_,run_underlying r.under,Builtin.lenOf,sizeOf,typeInfo,z,A,u,B,E,goInt]
 ·have L:=az l
  simp[World.setRow]
def cf.drop{c:Type}{P:kq c}{d:World}{D:ac}:∀{a:List c} {cs:List Value},cf P d D a cs->∀(n:Nat),cf P d D (a.drop n) (cs.drop (n*P.k))
 |a,cs,b,0=>by simpa using b
 |[],cs,b,n+1=>by
  have:cs=[]:=b;subst this;simp[cf]
 |x::a,cs,⟨i,j,f,g,h⟩,n+1=>by
  subst f;have e:=P.len g;rw[List.drop_succ_cons,X7,Nat.one_mul,Nat.add_comm,<-List.drop_drop,<-e,List.drop_left];rw[e];exact cf.drop h n
def gw(n:p≠i):df (some ⟨a,c,none⟩) i p I=some ⟨a,c+i*I,none⟩:=by
 unfold df;rw[Zq n];simp[Addr.add_lit]
def PN{cs news ROW:List Value}{A B C k:Nat}(d:cs.length=B)(e:news.length=k)(f:A<=B)(g:ROW.length=C)(h:B+k<=C)(a:ROW.take A=cs.take A)(n:a4=ROW.take A++news++ROW.drop (A+k))(P:e4=a4.take (A+k)++cs.drop A++a4.drop (A+k+(B-A))):a4.length=C/\e4.length=C/\e4.take (B+k)=cs.take A++news++cs.drop A:=by
 have b:a4.length=C:=by rw[n];simp;omega
 have c:a4.take (A+k)=cs.take A++news:=by
  rw[n,a,List.take_append_of_le_length dg,Qz dg]
 refine⟨b,by rw[P];simp;omega,?_⟩;rw[P,c,List.take_append_of_le_length dg,Qz dg]
def MI{cs news cur:List Value}{A B C k:Nat}(e:cs.length=B)(f:news.length=k)(g:A<=B)(h:cur.length=C)(i:B+k<=C)(a:cur.take A=cs.take A)(n:a4=cur.take (A+k)++cs.drop A++cur.drop (A+k+(B-A)))(P:e4=a4.take A++news++a4.drop (A+k)):a4.length=C/\e4.length=C/\e4.take (B+k)=cs.take A++news++cs.drop A:=by
 have b:a4.length=C:=by rw[n];simp;omega
 have c:a4.take A=cs.take A:=by
  rw[n,XQ,List.take_append_of_le_length dg,List.take_take,X2 oM,a]
 have d:a4.drop (A+k)=cs.drop A++cur.drop (A+k+(B-A)):=by
  rw[n,XQ,List.drop_left' dg]
 refine⟨b,by rw[P];simp;omega,?_⟩;rw[P,c,d,<-XQ,List.take_append_of_le_length dg,Qz dg]
def IA.own{x tn c:TypeId}{k bytes:Nat}{ov V:FuncId}(q:ki h x c k bytes)(b2:h.underlying tn=some (.int .i64))(b3:∀t b,(callFunc ov t).run h b=((Extern.SlicesOverlaps.overlaps #[x,x] #[g] t).run h b).andThen λl j=>.ok (.value l) j){n a P y:Nat}{cs:List Value}(z:Own b c k d n a cs)(hi:P<=n)(A:b.heap[y]? =some (.cells o c (0,0)))(I:o.size=k)(W:∀l∈o.toList,l.oneCell'=true)(h1:∀l∈cs,l.oneCell'=true)(b4:aI d≠some y)(N:(n+1)*bytes<=aP)(hm:n+1<=maxLen)(X:∀E u j,Own j c k E (n+1) u (cs.take (P*k)++o.toList++cs.drop (P*k))->aj (λF=>aI d=some F) b j->(aI E=aI d\/aI E=some b.heap.size)->B (.returned (.slice E (n+1) u)) j):
  IA h x tn k ov V d n a P (UV y) 1 1 b B:=by
 have hk:=q.pos;obtain⟨O,Y,a6,hz,hs,a7,b5⟩:=ki.info q;have v:=z.length;have d5:=Own.SK z;unfold aP at N;unfold maxLen at hm;have b6:PP .i64 ((n:Int)+((1:Nat):Int))=((n+1:Nat):Int):=by rw[wrap_i64 cS];simp
 have b7:PP .i64 ((P:Int)+((1:Nat):Int))=((P+1:Nat):Int):=by rw[wrap_i64 cS];simp
 unfold IA;rw[b6,b7];simp only[Qx];refine⟨oM,oM,al.ff rfl (al.eT (λhe=>?_) (λd6=>?_))⟩
 ·
  obtain rfl:P=n:=oM
  refine vk q (news:=o.toList) z A (by rw[Qz (by simp[I])]) (by simp[I]) W cw (by unfold maxLen;omega) λE c' J b8 b9 c4=>⟨_,_,_,rfl,X E c' J ?_ (b9.mono λF _ c=>c.symm) c4⟩
  rw[Qz oM,List.drop_of_length_le oM,List.append_nil];exact b8
 have c5:P<n:=oM
 rcases z.cases with⟨_,h0,_,_⟩|⟨w,cur,rfl,H,c6,Z,a1⟩
 ·omega
 have a5:w≠y:=λc=>b4 (by rw[c];rfl);have a2:P*k<=n*k:=Q0 _ hi;have d7:(P+1)*k<=n*k:=Q0 _ c5;have e1:(P+1)*k=P*k+k:=by rw[X7,Nat.one_mul]
 have e2:(n+1)*k=n*k+k:=by rw[X7,Nat.one_mul]
 have d8:n*k<=a*k:=Q0 _ c6;have c8:∀i,i<=n*k->cur.toList.take i=cs.take i:=λi e=>by rw[<-a1,List.take_take,X2 e]
 have a0:∀j:World,j.heap[w]? =some (.cells cur c (0,0))->∀i m,cs[i]? =some m->j.cell? ⟨w,i,none⟩=some m:=λj C i m e=>by
  refine ae C ?_;rw[<-a1,Xw]at e;split at e
  ·simpa using e
  ·cases e
 have p:(cs.drop (P*k)).length=(n-P)*k:=by rw[XZ,v,Nat.sub_mul]
 have s:o.toList.length=1*k:=by simp[I]
 have a3:a<=maxLen:=by
  obtain⟨_,cp,_,Q,_,_,_,a3,_⟩:=z.row.2.resolve_left (by rintro⟨z,_⟩;cases z);simp only[XX]at Q;rw[Q.2.2];exact a3
 have a8:∀j:World,j.heap[y]? =some (.cells o c (0,0))->∀i m,o.toList[i]? =some m->j.cell? ((⟨y,0,none⟩:Addr).add i)=some m:=λj C i m e=>by
  rw[Addr.add_lit,Xz];exact ae C (by simpa using e)
 refine aK.mk (v:=WP (a:Int)) (w':=b) (by simp[Builtin.cap_,run_underlying q.under,goInt]) ⟨_,rfl,al.dec (λd9=>?_) (λe0=>?_)⟩
 ·
  have a4:a=n:=oM
  have c9:PP .i64 (((n+1:Nat):Int)-(P:Int))=((n+1-P:Nat):Int):=by rw[wrap_i64 cS];omega
  rw[c9];have c0:(Builtin.firstCells O.size P (.slice (UV w) P a)).run h b.drew= .ok (cs.take (P*k)).toArray b.drew:=by
   rw[hs];exact run_firstCells_some b.drew k P ⟨w,0,none⟩ P a (cs.take (P*k)) (by rw[Qy,v];omega) (λi l e=>by
    rw[Addr.add_lit,Xz];rw[Xw]at e;split at e
    ·exact a0 b.drew H i l e
    ·cases e)
  have R:=Lib.run_append_grow_zeros (P:=h) b x tn x c O Y .i64 .i64 q.under b2 a6 hz (UV w) P a (cs.take (P*k)) c0 (n+1-P) oM oM oM oM (by rw[a7];have:(n+1-P)*bytes<=(n+1)*bytes:=Q0 _ oM;omega)
   (by rw[a7,show P+(n+1-P)=n+1 by omega];exact growslice_fits oM N)
  rw[show P+(n+1-P)=n+1 by omega]at R;have hG:=grownCap_ge b (n+1) a c;have b0:=grownCap_le_maxLen b (n+1) a c (by unfold maxLen;omega);generalize grownCap b (n+1) a c=G at R hG b0;have e3:(n+1)*k<=G*k:=Q0 _ hG;generalize a9:(cs.take (P*k)).toArray++Builtin.zeroCells Y.cells (n+1-P)++Builtin.zeroCells Y.cells (G-(n+1))=f at R;have S:f.size=G*k:=by
   rw[<-a9];simp only[Array.size_append,List.size_toArray,Qy,v,Builtin.zeroCells,Array.size_map,Array.size_range,b5];rw[Nat.sub_mul,Nat.sub_mul];omega
  have Q:(cs.take (P*k)).length=P*k:=by rw[Qy,v];omega
  have c7:f.toList.take (P*k)=cs.take (P*k):=by
   rw[<-a9];simp only[Array.toList_append,XQ];rw[List.take_left' Q]
  have e4:=az H;have e5:=az A;have kd:ai b (b.drew.alloc (.cells f c)):=(aj.drewN b 1).then (aj.alloc _ _);have b1:(b.drew.alloc (.cells f c)).heap[b.heap.size]? =some (.cells f c (0,0)):=heap_alloc_new b.drew _;have d0:(b.drew.alloc (.cells f c)).heap.size=b.heap.size+1:=by
   rw[show b.heap.size=b.drew.heap.size from rfl];generalize b.drew=wd;simp
  refine⟨oM,oM,aK.mk R ?_⟩;generalize b.drew.alloc (.cells f c)=K at b1 kd d0;refine⟨_,_,_,rfl,oM,oM,?_⟩;have r:(n-P)*k=n*k-P*k:=Nat.sub_mul ..;have d2:=PN (cs:=cs) (news:=o.toList) (ROW:=f.toList) (A:=P*k) (B:=n*k) (C:=G*k) (k:=k) v (by simp[I]) a2 (by simp[S]) oM c7 rfl rfl;obtain⟨c1,c2,c3⟩:=d2;rw[gw (show G≠P by omega)];refine Oa q b1 (n:=1) (by simp only[Nat.min_def];split<;>omega) s (a8 K (kd.get A id)) (by rw[s,S];omega) W λw2 g2 L s2=>⟨_,rfl,λJ d3=>?_⟩
  have M:ai w2 J:=d3.keep;have T:=M.get g2 id;have d4:=M.get (L.get (kd.get H id) oM) id;refine⟨oM,oM,oM,oM,?_⟩;rw[gw (show G≠P+1 by omega),gw (show a≠P by omega)];simp only[Xz,s,Nat.one_mul]at T⊢;rw[e1];refine Oa q T (n:=n-P) (by simp only[Nat.min_def];split<;>omega) p (λi m e=>?_) (by rw[List.size_toArray,c1,p,r];omega) (λl hv=>h1 l (List.mem_of_mem_drop hv)) λw4 g4 k4 s4=>⟨_,rfl,X _ _ _ ⟨⟨?_,.inr ⟨b.heap.size,G,_,rfl,Qj _,g4,hG,b0,?_,?_⟩⟩⟩ ?_ (.inr rfl)⟩
  ·rw[Addr.add_lit]
   rw[List.getElem?_drop]at e;exact a0 J d4 _ m e
  ·simp only[QX,Qy,v,s,p,r];omega
  ·rw[p,r,List.size_toArray];exact c2
  ·rw[p,r,e2];exact c3
  ·exact ai.keep ((kd.new L λF N=>.inr oM).then M|>.new k4 λF N=>.inr oM)
 ·
  have e6:O=O:=rfl;have a4:n+1<=a:=oM
  have r:(n-P)*k=n*k-P*k:=Nat.sub_mul ..;have e7:(n+1)*k<=a*k:=Q0 _ a4;obtain⟨c1,c2,c3⟩:=MI (cs:=cs) (news:=o.toList) (cur:=cur.toList) (A:=P*k) (B:=n*k) (C:=a*k) (k:=k) v (by simp[I]) a2 (by simp[Z]) oM (c8 _ a2) rfl rfl;rw[gw (show a≠P+1 by omega),gw (show a≠P by omega)];refine⟨oM,oM,oM,oM,_,b3 _,aK.mk (v:=.bool false) (w':=b) ?_ ⟨_,rfl,al.tt rfl λK d1=>?_⟩⟩
  ·have S:∀b,(sizeOf c).run h b= .ok k b:=λb=>by simp[sizeOf,typeInfo,a6,hs]
   refine Lib.run_overlaps_apart (P:=h) b x g c q.under k S ⟨y,0,none⟩ ⟨w,0+(P+1)*k,none⟩ 1 1 _ _ (λc=>a5 c.symm) c c o.size cur.size (by simp[World.shape?,A]) (by simp[World.shape?,H]) (by rw[Z];omega) ?_ ?_
   ·simp[World.frozen?,A]
   ·simp[World.frozen?,A]
  have U:ai b K:=d1.keep;have s1:K.heap.size=b.heap.size:=by rw[d1.heap]
  refine⟨oM,oM,oM,oM,?_⟩;simp only[Xz,e1];refine Oa q (U.get H id) (n:=n-P) (by simp only[Nat.min_def];split<;>omega) p (λi m e=>?_) (by rw[Z,p,r];omega) (λl hv=>h1 l (List.mem_of_mem_drop hv)) λw2 g2 L s2=>⟨_,rfl,oM,oM,?_⟩
  ·rw[Addr.add_lit]
   rw[List.getElem?_drop]at e;exact a0 K (U.get H id) _ m e
  refine Oa q g2 (n:=1) (by simp only[Nat.min_def];split<;>omega) s (a8 w2 (L.get (U.get A id) (λc=>a5 c.symm))) (by rw[List.size_toArray,p,r,c1,s];omega) W λJ T M s3=>⟨_,rfl,X _ _ _ ⟨⟨?_,.inr ⟨w,a,_,rfl,Qj _,T,a4,a3,?_,?_⟩⟩⟩ ?_ (.inl rfl)⟩
  ·simp only[QX,Qy,v,s,p,r];omega
  ·simp only[p,r,s,Nat.one_mul];rw[List.size_toArray];exact c2
  ·simp only[p,r,s,Nat.one_mul];rw[e2];exact c3
  ·exact((ai.keep U).then (L.mono λF _ c=>by rw[c];rfl)).then (M.mono λF _ c=>by rw[c];rfl)
def IA.one{h:Program}{r tn s:TypeId}{bytes:Nat}{H y:FuncId}{z:Type}{c:kq z}(I:ki h r s c.k bytes)(M:h.underlying tn=some (.int .i64)){tb:TypeId}(N:∀e b,(callFunc H e).run h b=((Extern.SlicesOverlaps.overlaps #[r,r] #[tb] e).run h b).andThen λA f=>.ok (.value A) f){b:World}{i:be}{j k g C:Nat}{l:Array Value}{E D:ac}{m:List z}{x:z}(o:aS c s E b i j k m)(O:g<=j)(Q:b.heap[C]? =some (.cells l s (0,0)))(F:c.rep b D x l.toList)(t:∀n,D n->n<b.heap.size/\aI i≠some n)(S:aI i≠some C)(P:(m.length+1)*bytes<=aP)(T:m.length+1<=maxLen){R:ba}(U:∀u a f J,aS c s J f u (j+1) a (m.take g++x::m.drop g)->aj (λn=>aI i=some n) b f->(∀n,J n->E n\/D n\/b.heap.size<=n)->R (.returned (.slice u (j+1) a)) f):
  IA h r tn c.k H y i j k g (UV C) 1 1 b R:=by
 have K:=o.len I.pos;obtain⟨cs,V,W,L,v⟩:=o.body;have X:=c.len F;refine IA.own I M N W O Q (by simpa using X) (c.one F) (λA Y=>L.SL A Y) S (by rw[K];exact P) (by rw[K];exact T) λu a f p w B=>?_;have a0:=w.size;refine U u a f (λn=>E n\/D n\/(b.heap.size<=n/\n<f.heap.size)) ⟨⟨_,λn=>V n\/D n,p,?_,?_⟩,?_,?_⟩ w ?_
 ·rw[XQ]
  have q:=(L.keep w λn P=>(v n P).2)
  exact cf.append ((q.take g).mono λn P=>.inl P) (cf.append (xs:=[x]) (cf.one (c.mono (c.keep F w λn P=>(t n P).2) λn P=>.inr P)) ((q.drop g).mono λn P=>.inl P))
 ·intro n P
  have a1:n<b.heap.size:=P.elim (λd=>o.aE n (v n d).1) λd=>(t n d).1;refine⟨P.elim (λd=>.inl (v n d).1) λd=>.inr (.inl d),?_⟩;rcases B with B|B
  ·rw[B];exact P.elim (λd=>(v n d).2) λd=>(t n d).2
  ·rw[B];intro Z;cases Z;omega
 ·intro n P
  rcases B with B|B
  ·exact .inl (o.self n (B▸P))
  ·have:=p.lt P
   rw[B]at P;cases P;exact .inr (.inr ⟨oM,this⟩)
 ·rintro n (P|P|P)
  ·have:=o.aE n P;omega
  ·have:=(t n P).1;omega
  ·exact P.2
 ·rintro n (P|P|P)
  ·exact .inl P
  ·exact .inr (.inl P)
  ·exact .inr (.inr P.1)
def OJ(n:Program)(P:TypeId):Bool:=match(n.info? P).bind (·.zero)with
 |some a=>a.cells.toList.all (·.oneCell')
 |none=>false
def SM{d bytes:Nat}(f:ki h g q d bytes)(j:OJ h q=true)(s:b.heap[a]? =some (.cells o c1 (0,0)))(v:c+i*d<=o.size)(e:∀k n,k.heap[a]? =some (.cells n c1 (0,0))->n.size=o.size->n.toList.take c=o.toList.take c->aj (·=a) b k->k.heap.size=b.heap.size->m (.tuple #[]) k):
  aK h (Builtin.clear_ #[g] C #[.slice (some ⟨a,c,none⟩) i p]) b m t:=by
 obtain⟨I,P,w,x,J,K,u⟩:=ki.info f;have A:∀l∈P.cells.toList,l.oneCell'=true:=by
  unfold OJ at j;rw[w]at j;simp only[Option.bind_some,x,ZY]at j;exact j
 cases i with
 |zero=>exact aK.mk (w':=b) (by simp[Builtin.clear_,run_underlying f.under]) (e b o s rfl rfl (aj.refl _) rfl)
 |succ i=>
  have y:(Builtin.zeroCells P.cells (i+1)).toList.length=(i+1)*d:=by simp[Builtin.zeroCells,u]
  have B:∀l∈(Builtin.zeroCells P.cells (i+1)).toList,l.oneCell'=true:=by
   intro l r;simp only[Builtin.zeroCells,Array.toList_map,Xk,u]at r;obtain⟨z,-,rfl⟩:=r;have E:z % d<P.cells.size:=by rw[u];exact Nat.mod_lt _ f.pos
   rw[getElem!_pos P.cells (z % d) E];exact A _ sM
  have F:=run_storeCells_at h a c c1 _ 0 o b s (by rw[y];simpa using v) B;have r:(zeroValue q).run h b= .ok P b:=by simp[zeroValue,typeInfo,w,x]
  refine aK.mk (w':=b.setRow a (o.toList.take c++(Builtin.zeroCells P.cells (i+1)).toList++o.toList.drop (c+(Builtin.zeroCells P.cells (i+1)).toList.length)).toArray) ?_ (e _ _ (setRow_heap b a o _ c1 (0,0) s) ?_ ?_ (rK b a _) ?_)
  ·simp[Builtin.clear_,run_underlying f.under,r,F]
  ·have H:o.size=o.toList.length:=sM
   simp only[List.size_toArray,QX,Qy,XZ,y];rw[H]at v⊢;omega
  ·rw[XQ,List.take_left']
   simp;omega
  ·simp[World.setRow]
def Gt.own{n bytes:Nat}(o:ki h g C n bytes)(Q:OJ h C=true){cs:List Value}(l:Own b C n d a c cs)(R:i<a)(S:∀j∈cs,j.oneCell'=true)(T:a<=maxLen)(U:∀r,Own r C n d (a-1) c (cs.take (i*n)++cs.drop ((i+1)*n))->aj (λs=>aI d=some s) b r->B (.returned (.slice d (a-1) c)) r):
  Gt h g q n d a c i (PP .i64 ((i:Int)+1)) b B:=by
 have hk:=o.pos;obtain⟨iT,a5,V,hz,W,b2,b3⟩:=ki.info o;have p:=l.length;unfold maxLen at T;rcases l.cases with⟨_,h0,_,_⟩|⟨e,P,rfl,X,Y,F,H⟩
 ·omega
 have t:c<=maxLen:=by
  obtain⟨_,cp,_,I,_,_,_,t,_⟩:=l.row.2.resolve_left (by rintro⟨l,_⟩;cases l);simp only[XX]at I;rw[I.2.2];exact t
 have Z:PP .i64 ((i:Int)+1)=((i+1:Nat):Int):=by rw[wrap_i64 cS];simp
 have a6:i*n<=a*n:=Q0 _ oM;have b1:(i+1)*n<=a*n:=Q0 _ R;have e1:(i+1)*n=i*n+n:=by rw[X7,Nat.one_mul]
 have e3:(a-1)*n=a*n-n:=by rw[Nat.sub_mul,Nat.one_mul]
 have e4:(a-(i+1))*n=a*n-(i+1)*n:=Nat.sub_mul ..;have a7:a*n<=c*n:=Q0 _ Y;unfold Gt;rw[Z];simp only[Qx];refine⟨oM,oM,oM,oM,al.eT (λhe=>oM) (λu f J=>⟨oM,oM,oM,oM,?_⟩)⟩;have K:ai b f:=J.keep;have s1:f.heap.size=b.heap.size:=by rw[J.heap]
 have v:=K.get X id;have w:(cs.drop ((i+1)*n)).length=(a-(i+1))*n:=by rw[XZ,p,Nat.sub_mul]
 have x:∃m,df (UV e) (i+1) c n=some ⟨e,m,none⟩/\(a≠i+1->m=(i+1)*n):=by
  by_cases L:c=i+1
  ·exact⟨0,by unfold df;rw[Zx L],λu=>oM⟩
  ·exact⟨_,gw L,λ_=>oM⟩
 obtain⟨m,x,a8⟩:=x;rw[x];have a0:∀y j,(cs.drop ((i+1)*n))[y]? =some j->f.cell? ((⟨e,m,none⟩:Addr).add y)=some j:=λy j k=>by
  have a9:=(Qv.1 k).1;have u:a≠i+1:=by
   intro C;rw[w,C,Nat.sub_self,Nat.zero_mul]at a9;omega
  rw[a8 u,Addr.add_lit];rw[List.getElem?_drop]at k;refine ae v ?_;rw[<-H,Xw]at k;split at k
  ·simpa using k
  ·cases k
 have hf:=run_firstCells_some (P:=h) f n (a-(i+1)) ⟨e,m,none⟩ (a-(i+1)) (c-(i+1)) _ w a0;have M:=run_storeCells_at h e (i*n) C (cs.drop ((i+1)*n)) 0 P f v (by rw[w,F];omega) (λj hv=>S j (List.mem_of_mem_drop hv));have a1:i+(a-(i+1))=a-1:=oM
 refine aK.mk (v:=.slice (UV e) (a-1) c) (w':=f.setRow e (P.toList.take (i*n)++cs.drop ((i+1)*n)++P.toList.drop (i*n+(cs.drop ((i+1)*n)).length)).toArray) ?_ ⟨_,_,_,rfl,oM,oM,oM,?_⟩
 ·have a2:i+(a-(i+1))<=c:=oM
  have a3:a<=c+1:=oM
  simp only[Nat.add_zero]at M;simp[Builtin.append_,run_underlying o.under,sizeOf,typeInfo,V,W,Builtin.lenOf,a2,a3,hf,Addr.add_lit,M,a1]
 have z:=setRow_heap f e P (P.toList.take (i*n)++cs.drop ((i+1)*n)++P.toList.drop (i*n+(cs.drop ((i+1)*n)).length)).toArray C (0,0) v;have A:=rK f e (P.toList.take (i*n)++cs.drop ((i+1)*n)++P.toList.drop (i*n+(cs.drop ((i+1)*n)).length)).toArray;have b0:P.toList.length=c*n:=by simp[F]
 have E:(P.toList.take (i*n)++cs.drop ((i+1)*n)++P.toList.drop (i*n+(cs.drop ((i+1)*n)).length)).length=c*n:=by
  simp only[QX,Qy,XZ,p,b0];omega
 have N:(P.toList.take (i*n)++cs.drop ((i+1)*n)++P.toList.drop (i*n+(cs.drop ((i+1)*n)).length)).take ((a-1)*n)=cs.take (i*n)++cs.drop ((i+1)*n):=by
  rw[show P.toList.take (i*n)=cs.take (i*n) by rw[<-H,List.take_take,X2 a6]];rw[List.take_left'];simp only[QX,Qy,XZ,p];omega
 generalize P.toList.take (i*n)++cs.drop ((i+1)*n)++P.toList.drop (i*n+(cs.drop ((i+1)*n)).length)=R1 at z A E N;generalize f.setRow e R1.toArray=w2 at z A;rw[gw (show c≠a-1 by omega)];refine SM o Q z (by rw[List.size_toArray,E,show a-(a-1)=1 by omega];omega) λw3 a4 g3 c3 O k3 s3=>U w3 ⟨⟨?_,.inr ⟨e,c,a4,rfl,Qj _,g3,oM,t,?_,?_⟩⟩⟩ ?_
 ·simp only[QX,Qy,XZ,p];omega
 ·rw[c3,List.size_toArray,E]
 ·rw[Xz]at O;rw[O,N]
 ·exact((ai.keep K).then (A.mono λs _ C=>by rw[C];rfl)).then (k3.mono λs _ C=>by rw[C];rfl)
def Gt.one{q tz k:TypeId}{bytes:Nat}{c:kq j}(u:ki h q k c.k bytes)(v:OJ h k=true){P n a:Nat}{r:List j}(l:aS c k f b d P n r)(w:a<P)(x:P<=maxLen){R:ba}(y:∀e,aS c k f e d (P-1) n (r.eraseIdx a)->aj (λg=>aI d=some g) b e->R (.returned (.slice d (P-1) n)) e):
  Gt h q tz c.k d P n a (PP .i64 ((a:Int)+1)) b R:=by
 obtain⟨cs,z,A,s,t⟩:=l.body;refine Gt.own u v A w s.SL x λe m o=>y e ⟨⟨_,z,m,?_,t⟩,l.self,λg p=>Qk (l.aE g p) o.size⟩ o;have i:=(s.keep o λg p=>(t g p).2)
 rw[List.eraseIdx_eq_take_drop_succ];exact cf.append (i.take a) (i.drop (a+1))
end Go.aw
namespace Go.Proofs.YtkpomgifkloklaaGreatDoor
open Go.aw
variable{e:Int}{s:List Int}{c6:List bz}{b4:List cZ}{a c i p:Nat}{f:ac}{d:be}{j:Type}{b:World}{z:bc}{c5:bz}
def qS{n:List (Bx cZ)}{D:ac}(e:Row lN.kO 32 b D d a n)(f:∀P,D P->P<b.heap.size):bn 227 #[.slice d a c] b (Ok (qh lN.kO 268 b n)):=
 iS (xA RC dC e f λh i g=>Ok.mk g)
def Um(k:aS aO 3 f b d a c s)(q:i<=a)(r:b.heap[p]? =some (.cells #[WP e] 3 (0,0)))(t:aH e)(u:¬f p)(z:s.length<1000000):
  bn 295 #[.slice d a c,WP (i:Int),.slice (UV p) 1 1] b (Ok λv l=>∃P g h,v= .slice P (a+1) g/\aS aO 3 h l P (a+1) g (s.take i++e::s.drop i)/\cd f b h l):=by
 refine nY (IA.one (c:=aO) (tb:=4) (x:=e) (D:=λ_=>False) vr kR ?_ k q r ⟨rfl,t⟩ (λj n=>n.elim) (λw=>u (k.self p w)) cw (by unfold maxLen;omega) λP g l h m x y=>Ok.mk ⟨P,g,h,rfl,m,x.mono λj _ n=>k.self j n,λj n=>?_⟩)
 ·intro o b
  rw[run_callFunc_extern Tryz.func333 kR kR kR (e:=Extern.SlicesOverlaps.overlaps #[52,52] #[4]) kR]
 ·rcases y j n with n|n|n
  ·exact .inl n
  ·exact n.elim
  ·exact .inr n
def Un(e:aS aO 3 f b d a c s)(g:i<a)(m:a<1000000):
  bn 296 #[.slice d a c,WP (i:Int),WP (PP .i64 ((i:Int)+1))] b (Ok λh n=>h= .slice d (a-1) c/\aS aO 3 f n d (a-1) c (s.eraseIdx i)/\aj f b n):=
 nZ (Gt.one (c:=aO) (tz:=0) vr kR e g (by unfold maxLen;omega) λn P j=>Ok.mk ⟨rfl,P,j.mono λk _ l=>e.self k l⟩)
def XM(a:bz)(n:cZ)(P arg:Int):cZ:=
 if P=1 then{n with n:=qm (n.n+arg)}else if P=2 then{n with n:=arg}else if P=3 then{n with set:=qO arg n.set}
 else if P=4 then{n with set:=n.set.filter λb=>b !=arg}else{n with n:=(a.bN.getD arg.toNat ⟨0,0,0,0⟩).m_}
def WA{n P arg:Int}(a:1<=P)(b:P<=5):Uo c6 b4 n P arg=b4.set n.toNat (XM (c6.getD n.toNat ⟨0,0,false,[]⟩) (b4.getD n.toNat ⟨0,[]⟩) P arg):=by
 have:P=1\/P=2\/P=3\/P=4\/P=5:=oM
 rcases this with rfl|rfl|rfl|rfl|rfl<;>rfl
section
variable {w w':World} {D E F:ac} {f:bz} {ma ca:be} {mn mc cn cc i:Nat} {arg:Int} {L:List (Bx cZ)} {bx:Bx cZ}
structure lk (w:World) (ca:be) (cn cc:Nat) (L:List (Bx cZ)) (i:Nat) (bx:Bx cZ) (F:ac):Prop where
 nN:aS lN.kO 268 (λb=>aI ca=some b) w ca cn cc L
 at':L[i]? =some bx
 set:aS aO 3 F w bx.a bx.n bx.c bx.x.set
 ap:∀b,F b->¬aI ca=some b
 ok:aH bx.x.n/\xv bx.x.set/\bx.x.set.length<=64
 eO:L.length<=1000000
def lk.af(n:lk w ca cn cc L i bx F)(P:ai w w'):lk w' ca cn cc L i bx F:=⟨n.nN.af P,n.at',n.set.af P,n.ap,n.ok,n.eO⟩
def lk.len(n:lk w ca cn cc L i bx F):i<cn:=by
 rw[n.nN.len dC];exact(Qv.1 n.at').1
def lk.cells(a:lk w ca cn cc L i bx F):∃n P,ca=some ⟨n,P,none⟩/\n<w.heap.size/\w.cell? ⟨n,P+i*2,none⟩=some (WP bx.x.n)/\w.cell? ⟨n,P+i*2+1,none⟩=some (.slice bx.a bx.n bx.c):=by
 obtain⟨n,P,e,c,d,f,b,rfl,-⟩:=(a.nN.row (bytes:=32) dC (by have:=a.eO;unfold aP;omega)).el i bx a.at';exact⟨n,P,c,d,b 0 dC,b 1 dC⟩
def qT(a:World)(ca:be)(cn cc:Nat)(L:List (Bx cZ))(i:Nat)(F:ac)(b:cZ)(w':World):Prop:=
 ∃(n:Bx cZ) (c:ac),n.x=b/\aS lN.kO 268 (λP=>aI ca=some P) w' ca cn cc (L.set i n)/\aS aO 3 c w' n.a n.n n.c b.set/\aj (λP=>aI ca=some P\/F P) a w'/\∀P,c P->F P\/a.heap.size<=P
def Lj{d w:World}(f:ai d w)(P:lk w ca cn cc L i bx F)(g:ca=some ⟨a,c,none⟩)(h:∀w',aj (λa=>aI ca=some a) w w'->qT d ca cn cc L i F {bx.x with n:=e} w'->z w'):
  PS w ⟨a,c+i*2,none⟩ (WP e) z:=by
 refine aS.set (j:=0) (x':=⟨{bx.x with n:=e},bx.a,bx.n,bx.c⟩) P.nN P.at' dC rfl g λj k b m=>h j b ⟨_,F,rfl,k,P.set.keep b λa n l=>P.ap a n l,(ai.keep f).then (b.mono λa _ n=>.inl n),λa n=>.inl n⟩
def RI{q P w:World}{j k:Nat}{f:ac}(r:ai q P)(b:lk P ca cn cc L i bx F)(u:aS aO 3 f w d j k s)(g:cd F P f w)(l:ca=some ⟨a,c,none⟩)(v:∀w',qT q ca cn cc L i F {bx.x with set:=s} w'->z w'):
  PS w ⟨a,c+i*2+1,none⟩ (.slice d j k) z:=by
 have m:aS lN.kO 268 (λa=>aI ca=some a) w ca cn cc L:=b.nN.keep g.1 λa n h=>b.ap a h n;have y:=b.nN.aE a (by rw[l];rfl);have x:∀e,f e->¬aI ca=some e:=λe o p=>by
  rcases g.2 e o with h|h
  ·exact b.ap e h p
  ·rw[l]at p;simp only[aI,Q1]at p;omega
 have A:=r.size;refine aS.set (j:=1) (x':=⟨{bx.x with set:=s},d,j,k⟩) m b.at' dC rfl l λP m t B=>v P ⟨_,f,rfl,m,u.keep t x,((ai.keep r).then (g.1.mono λa _ n=>.inr n)).then (t.mono λa _ n=>.inl n),λa n=>(g.2 a n).imp id λn=>oM⟩
def do_1(n:lk w ca cn cc L i bx F):bn 229 #[Bb f ma mn mc ca cn cc (i:Int) arg] w (Ok λh w'=>h= .tuple #[]/\qT w ca cn cc L i F {bx.x with n:=qm (bx.x.n+arg)} w'):=by
 have j:=n.len;refine Bd (PA.mk λk l v m=>λo p=>⟨λP=>aI ca=some P,?_⟩);have d:ai k o:=p.keep;have e:=d.get m id;have c:=l.then d;obtain⟨P,q,a,r,s,x⟩:=(n.af c).cells;have y:=n.nN.aE P (by rw[a];rfl);refine ar (vq ..) e ⟨λg=>by rw[a]at g;simp only[aI,Q1]at g;omega,_,ae e rfl,PC.ok (iR a j) ?_⟩;rintro _ z ⟨rfl,b⟩;exact⟨_,rfl,ai.keep b,_,_,rfl,_,(b.cell (a:=⟨P,q+i*2,none⟩) r id).trans s,_,_,rfl,Lj (c.then b) (n.af (c.then b)) a λA t u=>⟨t,Ok.mk ⟨rfl,u⟩⟩⟩
def Zo(n:lk w ca cn cc L i bx F):bn 232 #[Bb f ma mn mc ca cn cc (i:Int) arg] w (Ok λh w'=>h= .tuple #[]/\qT w ca cn cc L i F {bx.x with n:=arg} w'):=by
 have j:=n.len;refine Be (PA.mk λk l s m=>λo p=>⟨λa=>aI ca=some a,?_⟩);have d:ai k o:=p.keep;have e:=d.get m id;have b:=l.then d;obtain⟨a,t,P,u,v,x⟩:=(n.af b).cells;have y:=n.nN.aE a (by rw[P];rfl);refine ar (vq ..) e ⟨λg=>by rw[P]at g;simp only[aI,Q1]at g;omega,_,ae e rfl,PC.ok (iR P j) ?_⟩;rintro _ z ⟨rfl,c⟩;exact⟨_,rfl,ai.keep c,_,_,rfl,Lj (b.then c) (n.af (b.then c)) P λA q r=>⟨q,Ok.mk ⟨rfl,r⟩⟩⟩
def Zp(a:lk w ca cn cc L i bx F)(g:Row jz 32 w E ma mn f.bN)(o:∀P,E P->¬aI ca=some P)(I:0<=arg)(J:arg<(mn:Int)):bn 237 #[Bb f ma mn mc ca cn cc (i:Int) arg] w (Ok λp w'=>p= .tuple #[]/\qT w ca cn cc L i F {bx.x with n:=(f.bN.getD arg.toNat ⟨0,0,0,0⟩).m_} w'):=by
 have q:=a.len;refine Bf (PA.mk λr s K t=>λu v=>⟨λP=>aI ca=some P,?_⟩);have h:ai r u:=v.keep;have d:=h.get t id;have b:=s.then h;obtain⟨P,M,c,N,O,Q⟩:=(a.af b).cells;have R:=a.nN.aE P (by rw[c];rfl);have S:=g.len;obtain⟨n,rfl⟩:∃n:Nat,arg=n:=⟨arg.toNat,oM⟩
 have j:n<f.bN.length:=oM
 obtain⟨k,x,T,y,U,z,A,rfl,-⟩:=(g.af b).el n f.bN[n] (by simp[j]);have B:f.bN.getD n ⟨0,0,0,0⟩=f.bN[n]:=by simp[QQ,j]
 simp only[Qx,B];have l:¬aI ca=some w.heap.size:=λm=>by rw[c]at m;simp only[aI,Q1]at m;omega
 refine ar (vq ..) d ⟨l,_,_,_,ae d rfl,l,_,ae d rfl,k,x,y,oM,oM,o k z,_,A 1 dC,PC.ok (iR c q) ?_⟩;rintro _ V ⟨rfl,e⟩;exact⟨_,rfl,ai.keep e,_,_,rfl,Lj (b.then e) (a.af (b.then e)) c λW C H=>⟨C,Ok.mk ⟨rfl,H⟩⟩⟩
def Zr(n:lk w ca cn cc L i bx F)(v:aH arg):bn 234 #[Bb f ma mn mc ca cn cc (i:Int) arg] w (Ok λx w'=>x= .tuple #[]/\qT w ca cn cc L i F {bx.x with set:=qO arg bx.x.set} w'):=by
 have y:=n.len;obtain⟨-,a,S⟩:=n.ok;refine Lk (PA.mk λT l U m=>ar (vq ..) m ?_);obtain⟨b,o,h,P,V,z⟩:=(n.af l).cells;have W:=n.nN.aE b (by rw[h];rfl);refine PC.ok (iR h y) ?_;rintro _ A ⟨rfl,c⟩;refine⟨_,rfl,λp B=>?_⟩;have d:ai A p:=B.keep;have e:=(l.then c).then d;have q:=d.get (c.get m id) id;have r:=((c.then d).cell (a:=⟨b,o+i*2+1,none⟩) P id).trans z;have s:=n.set.af e;refine⟨_,_,rfl,_,_,_,r,_,ae q rfl,PC.ok (ub (s.row (bytes:=8) dC cw) a) ?_⟩;rintro _ _ ⟨rfl,rfl⟩;have X:=n.set.len dC;refine⟨_,_,rfl,al.not (al.mk (λC=>Ok.mk ⟨rfl,?_⟩) (λE=>λH I=>?_))⟩
 ·have g:arg∈bx.x.set:=XV C
  refine⟨bx,F,by rw[vl g a],?_,by rw[vl g a];exact s,ai.keep e,λb P=>.inl P⟩;have:L.set i bx=L:=by
   apply X3;intro Y;rw[Xj];split
   ·rename_i J;subst J;rw[Zx (Qv.1 n.at').1,n.at']
   ·rfl
  rw[this];exact n.nN.af e
 ·have g:arg∉bx.x.set:=Xy E
  have j:ai p H:=I.keep;have K:=j.get q id;have t:=e.then j;refine⟨no,_,_,rfl,id,_,_,_,(j.cell (a:=⟨b,o+i*2+1,none⟩) (Qk P (c.then d).size) id).trans r,_,ae K rfl,PA.mk λZ u s5 M=>⟨ai.keep u,?_⟩⟩;have k:=t.then u;have a1:=AW (λN=>decide (N<arg)) bx.x.set;have z4:=t.size;refine PC.ok (Um (n.set.af k) oM M v (λP=>by have:=n.set.aE _ P;omega) oM) ?_;rintro _ w6 ⟨a',c',F',rfl,O,Q⟩;rw[Iv a g];exact⟨_,_,_,rfl,_,_,rfl,RI k (n.af k) O Q h λw7 R=>Ok.mk ⟨rfl,R⟩⟩
def Zs(n:lk w ca cn cc L i bx F):bn 235 #[Bb f ma mn mc ca cn cc (i:Int) arg] w (Ok λo w'=>o= .tuple #[]/\qT w ca cn cc L i F {bx.x with set:=bx.x.set.filter λp=>p !=arg} w'):=by
 have q:=n.len;obtain⟨-,h,I⟩:=n.ok;refine DD (PA.mk λJ j K k=>ar (vq ..) k ?_);obtain⟨c,r,l,P,M,s⟩:=(n.af j).cells;refine PC.ok (iR l q) ?_;rintro _ t ⟨rfl,d⟩;refine⟨_,rfl,λu v=>?_⟩;have e:ai t u:=v.keep;have a:=(j.then d).then e;have x:=e.get (d.get k id) id;have m:=((d.then e).cell (a:=⟨c,r+i*2+1,none⟩) P id).trans s;have g:=n.set.af a;refine⟨_,_,rfl,_,_,_,m,_,ae x rfl,PC.ok (ub (g.row (bytes:=8) dC cw) h) ?_⟩;rintro _ _ ⟨rfl,rfl⟩;have N:=n.set.len dC;refine⟨_,_,rfl,al.mk (λy=>?_) (λz=>Ok.mk ⟨rfl,?_⟩)⟩
 ·have b:arg∈bx.x.set:=XV y
  obtain⟨A,O⟩:=NF h b;refine⟨_,_,rfl,_,_,_,m,PC.ok (Un g oM oM) ?_⟩;rintro _ Q ⟨rfl,B,C⟩;rw[A];exact⟨_,_,_,rfl,_,_,rfl,RI a (n.af a) B ⟨C,λc P=>.inl P⟩ l λR E=>Ok.mk ⟨rfl,E⟩⟩
 ·have b:arg∉bx.x.set:=Xy z
  refine⟨bx,F,by rw[Ix b],?_,by rw[Ix b];exact g,ai.keep a,λc P=>.inl P⟩;have:L.set i bx=L:=by
   apply X3;intro S;rw[Xj];split
   ·rename_i H;subst H;rw[Zx (Qv.1 n.at').1,n.at']
   ·rfl
  rw[this];exact n.nN.af a
end
def NI(n:Int):aH (qm n):=by
 unfold qm PP aH;simp[IntKind.signed,IntKind.bits];omega
def RJ(n:e∉s):(qO e s).length=s.length+1:=by
 induction s with
 |nil=>rfl
 |cons a s P=>
  simp only[Q2,not_or]at n;unfold qO;rw[Zq n.1];split
  ·rfl
  ·simp[P n.2]
def RL{n:List j}{P:j}(b:n[a]? =some P):n.set a P=n:=by
 apply X3;intro d;rw[Xj];split
 ·rename_i c;subst c;rw[Zx (Qv.1 b).1,b]
 ·rfl
section
variable {w w':World} {D E F:ac} {t:List bz} {cells:List cZ} {op arg:Int} {ma ca ta:be} {mn mc cn cc tn tc i:Nat} {L:List (Bx cZ)} {bx:Bx cZ}
def WB{n:cZ}(a:∀f∈c5.bN,ll.Ok f)(g:aH n.n/\xv n.set/\n.set.length<=64)(i:aH arg)(j:op=3->arg∈n.set\/n.set.length<64):
  aH (XM c5 n op arg).n/\xv (XM c5 n op arg).set/\(XM c5 n op arg).set.length<=64:=by
 obtain⟨e,P,b⟩:=g;unfold XM
 split
 ·exact⟨NI _,P,b⟩
 split
 ·exact⟨i,P,b⟩
 split
 ·rename_i h
  refine⟨e,EC P,?_⟩
  by_cases a:arg∈n.set
  ·show(qO arg n.set).length<=64
   rw[vl a P];exact b
  ·show(qO arg n.set).length<=64
   rw[RJ a];rcases j h with h|h
   ·exact Zz h a
   ·omega
 split
 ·exact⟨e,P.sublist List.filter_sublist,Xx (List.length_filter_le ..) b⟩
 ·refine⟨?_,P,b⟩
  show aH (c5.bN.getD arg.toNat ⟨0,0,0,0⟩).m_
  by_cases c:arg.toNat<c5.bN.length
  ·have d:c5.bN.getD arg.toNat ⟨0,0,0,0⟩=c5.bN[arg.toNat]:=by simp[QQ,c]
   rw[d];exact(a _ (XY c)).2.1
  ·have d:c5.bN.getD arg.toNat ⟨0,0,0,0⟩=⟨0,0,0,0⟩:=by simp[QQ,Q7 (Nat.le_of_not_lt c)]
   rw[d];simp[aH]
def Up(P:ID t cells (i:Int) op arg)(d:aH arg)(a:Row jz 32 w E ma mn (t.getD i ⟨0,0,false,[]⟩).bN)(e:∀b,E b->¬aI ca=some b)(n:lk w ca cn cc L i bx F):
  enters LL (Y_ op)=true/\bn (Y_ op) (#[]++ #[Bb (t.getD i ⟨0,0,false,[]⟩) ma mn mc ca cn cc (i:Int) arg]++ #[]) w (Ok λf w'=>f= .tuple #[]/\qT w ca cn cc L i F (XM (t.getD i ⟨0,0,false,[]⟩) bx.x op arg) w'):=by
 have h:=P.Ye;have j:=P.Yf;have:op=1\/op=2\/op=3\/op=4\/op=5:=oM
 rcases this with rfl|rfl|rfl|rfl|rfl
 ·exact⟨kR,do_1 n⟩
 ·exact⟨kR,Zo n⟩
 ·exact⟨kR,Zr n d⟩
 ·exact⟨kR,Zs n⟩
 ·obtain⟨g,c,k⟩:=P.mv rfl
  rw[Qx]at c;exact⟨kR,Zp n a e g (by rw[a.len];exact c)⟩
structure Yh (w9:World) (ca:be) (cn cc:Nat) (D:ac) (cells:List cZ) (j:Nat) (w':World) (L:List (Bx cZ)) (Fi:Nat->ac):Prop where
 nN:aS lN.kO 268 (λb=>aI ca=some b) w' ca cn cc L
 eq:L.map (·.x)=cells
 own:∀i b,i<j->L[i]? =some b->aS aO 3 (Fi i) w' b.a b.n b.c b.x.set
 aE:∀i x,Fi i x->w9.heap.size<=x/\x<w'.heap.size/\¬aI ca=some x
 ap:∀i k x,i≠k->Fi i x->¬Fi k x
 AA:∀i x,j<=i->¬Fi i x
 keep:aj (λb=>aI ca=some b) w9 w'
def Uq{s:Int}(o:ID t cells s op arg)(M:xz t cells s op arg=0)(a2:aH arg)(e3:t.length<=64)(ht:Row sP 48 w E ta tn t)(hE:∀P,E P->P<w.heap.size)(h:Row fy 32 w D ca cn cells)(hD:∀P,D P->P<w.heap.size):
  bn 226 #[.agg #[.slice ta tn tc],.slice ca cn cc,WP s,WP op,WP arg] w (Ok (qh fy 268 w (Uo t cells s op arg))):=by
 obtain⟨i,rfl⟩:∃i:Nat,s=i:=⟨s.toNat,by have:=o.f0;omega⟩
 obtain⟨l,A,l2,l3⟩:=fw.boxes h;have e4:=o.len;have e5:l.length=cells.length:=by rw[<-A];simp
 refine OW (PA.mk λw1 k1 s1 g1=>PC.ok (qS (l2.af k1) λP b=>by have:=hD P b;omega) ?_);rintro _ N ⟨m,q,C,F9,rfl,v,O,d5⟩;have e6:=v.len dC;have e7:=h.len;have x:∀P,aI m=some P->w1.heap.size<=P:=λP b=>d5 P (v.self P b);have Q:∀P,aI m=some P->P<N.heap.size:=λP b=>v.aE P (v.self P b);refine⟨_,_,_,rfl,λR a8 w'=>∃d:Nat,a8=d/\d<=q/\R=q-d/\∃L p,Yh N m q C D cells d w' L p/\∀a,d<=a->L[a]? =l[a]?,
  ⟨_,0,rfl,Qj _,rfl,l,λ_ _=>False,⟨v.alone,A,λi P hi=>oM,λ_ _ h=>h.elim,λ_ _ _ _ h=>h.elim,λ_ _ _=>id,aj.refl _⟩,λa _=>rfl⟩,?_⟩
 rintro R _ _ b9 ⟨d,rfl,hj,rfl,L,p,c,a3⟩;have e8:L.length=cells.length:=by rw[<-c.eq];simp
 have F:ai w b9:=(k1.then O).new c.keep λP b=>.inr (by have:=x P b;omega);refine al.dec (λe9=>?_) (λg0=>?_)
 ·have c1:d<l.length:=oM
  have S:l[d]? =some l[d]:=Qq c1;obtain⟨P,T,es,U,b,g2,a9,rfl,-⟩:=(l2.af F).el d l[d] S;have d6:=l3 l[d] (XY c1);refine⟨P,T,U,oM,oM,_,_,_,a9 1 dC,PC.ok (bV (d6.1.af F) λP b=>by have:=hD P b;have:=F.size;omega) ?_⟩;rintro _ g3 ⟨g4,g5,g6,G,rfl,a4,H,I⟩;have a5:=c.nN.af H;have hz:=c.keep.size;obtain⟨y,c2⟩:∃y,m=UV y:=by
   rcases a5.body with⟨cs,D',ho,-⟩;rcases ho.cases with⟨-,hn,-⟩|⟨y,b0,e,-⟩
   ·omega
   ·exact⟨y,e⟩
  refine⟨_,_,_,rfl,y,0,c2,oM,oM,?_⟩;simp only[Qx];refine fw.set a5 (by rw[a3 d (Q4 _)];exact S) c2 λg7 c3 V g8=>⟨_,?_,d+1,an oM,oM,rfl,_,λa=>if a=d then G else p a,⟨c3,?_,?_,?_,?_,?_,?_⟩,?_⟩
  ·omega
  ·rw[List.map_set,c.eq,RL]
   rw[<-A,Q9,S];rfl
  ·intro a P k b
   rw[Xj]at b
   by_cases W:d=a
   ·subst W
    rw[Zx rfl,Zx oM]at b
    cases b
    rw[Zx rfl];exact a4.keep V λn B e=>by have:=I n B;have:=Q n e;omega
   ·rw[Zq W]at b
    rw[Zq (λe=>W e.symm)];exact((c.own a P oM b).af H).keep V λn B e=>(c.aE a n B).2.2 e
  ·intro a n B
   split at B
   ·have:=I n B;have:=a4.aE n B;exact⟨oM,oM,λe=>by have:=Q n e;omega⟩
   ·have J:=c.aE a n B;have:=H.size;exact⟨J.1,oM,J.2.2⟩
  ·intro a k' n X B f
   split at B<;>split at f
   ·omega
   ·have:=I n B;have:=c.aE k' n f;omega
   ·have:=I n f;have:=c.aE a n B;omega
   ·exact c.ap a k' n X B f
  ·intro a n k B
   rw[Zq oM]at B;exact c.AA a n oM B
  ·exact(c.keep.af H).then V
  ·intro a k
   rw[Xj,Zq oM,a3 a oM]
 ·have g9:d=q:=oM
  refine PC.ok Ba ?_;rintro _ h2 ⟨f0,rfl,Y,Z⟩;refine⟨_,rfl,jN A_ lO Y ?_⟩;rw[NG o.Ye o.Yf];refine⟨_,_,_,rfl,PA.mk λh4 d7 h5 d8=>aD (RG op) d8 rfl λd9 e0 h6 b3=>al.tt rfl λb4 e1=>?_⟩;have c4:ai d9 b4:=e1.keep;have u:ai b9 b4:=((Z.then d7).new e0 λP b=>.inr (by have:=Z.size;omega)).then c4;have c5:=F.then u;have b3:=c4.get b3 id;have z9:=c.keep.size;have h7:=Z.size;have h8:=O.size;have gt:=u.get (c.keep.get (O.get g1 id) (λe=>by have:=x _ e;omega)) id;have h9:=o.f1;have i0:=ht.len;obtain⟨P,T,f5,f6,b1,U,b,i1,f1,f2,f3,f4,c6⟩:=GA (ht.af c5) (i:=i) oM;have c7:i<L.length:=oM
  have K:L[i]? =some L[i]:=Qq c7;generalize L[i]=bx at K;have b5:cells[i]? =some bx.x:=by rw[<-c.eq,Q9,K];rfl
  have c8:cells.getD i ⟨0,[]⟩=bx.x:=by rw[QQ,b5];rfl
  have a0:∀(a:Nat) (n:cZ),cells[a]? =some n->aH n.n/\xv n.set/\n.set.length<=64:=λa n B=>by
   rw[<-A,Q9]at B
   cases hL:l[a]? with
   |none=>rw[hL]at B;cases B
   |some b2=>rw[hL]at B;cases B;exact(l3 b2 (QZ hL)).2
  have d0:lk b4 m q C L i bx (p i):=⟨c.nN.af u,K,(c.own i bx oM K).af u,λP b=>(c.aE i P b).2.2,a0 i _ b5,oM⟩
  obtain⟨a1,r⟩:=Up (mc:=b1) o a2 c6 (λP b e=>by have:=hE P b;have:=x P e;omega) d0;refine⟨_,ae b3 rfl,_,_,_,ae gt rfl,P,T,U,oM,oM,_,_,_,_,_,_,f1,f2,f3,f4,_,_,_,rfl,a1,PC.ok r ?_⟩;rintro _ b6 ⟨rfl,g,z,f,d1,a6,b7,d2⟩;have i2:=b7.size;have zg:=u.size;have b8:∀n,z n->N.heap.size<=n:=λn B=>by
   rcases d2 n B with h|h
   ·exact(c.aE i n h).1
   ·omega
  have d3:∀a P,(L.set i g)[a]? =some P->aS aO 3 (λn=>if a=i then z n else p a n) b6 P.a P.n P.c P.x.set:=λa P b=>by
   rw[Xj]at b
   by_cases k:i=a
   ·subst k
    rw[Zx rfl,Zx c7]at b
    cases b
    simp only[if_true];rw[f];exact a6
   ·rw[Zq k]at b
    simp only[Zq (λe:a=i=>k e.symm)];have i3:=(Qv.1 b).1;refine((c.own a P oM b).af u).keep b7 λn B e=>?_;rcases e with e|e
    ·exact(c.aE a n B).2.2 e
    ·exact c.ap a i n (λe=>k e.symm) B e
  have a7:∀P∈L.set i g,aH P.x.n/\xv P.x.set/\P.x.set.length<=64:=λP b=>by
   obtain⟨a,k,rfl⟩:=List.getElem_of_mem b;have j:(L.set i g)[a]? =some (L.set i g)[a]:=Qq k;generalize(L.set i g)[a]=P at j;rw[Xj]at j
   by_cases d4:i=a
   ·rw[Zx d4,Zx oM]at j
    cases j
    rw[f];refine WB (λR Y=>?_) (a0 i _ b5) a2 λh3=>?_
    ·obtain⟨c0,hq,rfl⟩:=List.getElem_of_mem Y
     obtain⟨b',o',es,-,-,-,-,-,e2⟩:=c6.el c0 _ (Qq hq);exact e2
    ·rw[Gy]at M
     have b:RD t cells (i:Int) op arg=true:=by
      cases hq:RD t cells (i:Int) op arg
      ·rw[hq]at M;simp at M
      ·rfl
     unfold RD at b;subst h3;simp only[Qx,c8]at b;simpa using b
   ·rw[Zq d4]at j
    exact a0 a _ (by rw[<-c.eq,Q9,j];rfl)
  have c9:∀P∈L.set i g,P.x.set.length<=64:=λP b=>(a7 P b).2.2;have hU:aS lN.OV 268 (λn=>aI m=some n\/((∃a,a≠i/\p a n)\/z n)) b6 m q C ((L.set i g).map (·.x)):=by
   refine fw.unbox (N:=lN) (D:=λn=>(∃a,a≠i/\p a n)\/z n) d1 (λP b=>(⟨?_,a7 P b⟩:lN.In b6 _ P)) (λn B=>?_)
   ·obtain⟨a,k,rfl⟩:=List.getElem_of_mem b
    have J:=d3 a _ (Qq k);refine(J.row (bytes:=8) dC ?_).mono λn B=>?_
    ·have:=c9 _ b;unfold aP;omega
    ·split at B
     ·exact .inr B
     ·rename_i X;exact .inl ⟨a,X,B⟩
   ·rcases B with⟨a,-,B⟩|B
    ·have:=c.aE a n B;exact⟨oM,this.2.2⟩
    ·refine⟨a6.aE n B,λe=>?_⟩
     rcases d2 n B with h|h
     ·exact(c.aE i n h).2.2 e
     ·have:=Q n e;omega
  refine⟨rfl,Ok.mk ⟨m,q,C,(λn=>aI m=some n\/((∃a,a≠i/\p a n)\/z n)),rfl,?_,?_,?_⟩⟩
  ·rw[WA o.Ye o.Yf,Qx,c8,<-f,<-c.eq,<-List.map_set];exact hU
  ·exact c5.new b7 λn B=>.inr (by
    rcases B with B|B
    ·have:=x n B;omega
    ·have:=(c.aE i n B).1;omega)
  ·rintro n (B|⟨a,-,B⟩|B)
   ·have:=x n B;omega
   ·have:=(c.aE a n B).1;omega
   ·have:=b8 n B;omega
end
end Go.Proofs.YtkpomgifkloklaaGreatDoor
namespace Go.aw
open Go
variable{d:be}{z:bc}
section
variable {α β:Type} {N:fw α β} {w9 w w':World} {a:be} {n c j:Nat} {L0:List (Bx α)} {e:TypeId}
def ef(N:fw α β)(e:TypeId)(w9:World)(a:be)(n c:Nat)(L0:List (Bx α))(j:Nat)(w':World):Prop:=
 ∃(b:List (Bx α)) (g:ac),aS N.kO e (λP=>aI a=some P) w' a n c b/\b.map (·.x)=L0.map (·.x)/\(∀(h:Nat) (P:Bx α),h<j->b[h]? =some P->N.In w' g P)/\(∀f:Nat,j<=f->b[f]? =L0[f]?)/\
  aj (λP=>aI a=some P) w9 w'/\∀d,g d->w9.heap.size<=d/\d<w'.heap.size/\¬aI a=some d
def ef.start(P:aS N.kO e (λb=>aI a=some b) w9 a n c L0):ef N e w9 a n c L0 0 w9:=
 ⟨L0,λ_=>False,P,rfl,λd b f=>oM,λ_ _=>rfl,aj.refl _,λ_ P=>P.elim⟩
def ef.af(b:ef N e w9 a n c L0 j w)(P:ai w w'):ef N e w9 a n c L0 j w':=by
 obtain⟨h,i,k,l,m,o,p,d⟩:=b;exact⟨h,i,k.af P,l,λq r s t=>(m q r s t).keep P λ_ _ b=>b,o,p.af P,λf g=>⟨(d f g).1,Qk (d f g).2.1 P.size,(d f g).2.2⟩⟩
def ef.keep(P:ef N e w9 a n c L0 j w):aj (λb=>aI a=some b) w9 w:=P.elim λd P=>P.elim λD P=>P.2.2.2.2.1
def ef.len(P:ef N e w9 a n c L0 j w):n=L0.length:=by
 obtain⟨g,h,b,d,-⟩:=P;have:=Zj List.length d;simp at this;have f:0<N.k:=Nat.lt_of_le_of_lt (Qj _) N.ho;rw[b.len f,this]
def ef.some(b:ef N e w9 a n c L0 j w)(h:j<n):∃P,a=UV P:=by
 obtain⟨i,k,d,-⟩:=b;rcases d.body with⟨cs,l,f,-⟩;rcases f.cases with⟨-,m,-⟩|⟨P,g,e,-⟩
 ·omega
 ·exact⟨P,e⟩
def ef.cell(l:ef N e w9 a n c L0 j w){g:Nat}(m:a=Option.some ⟨g,0,none⟩){P:Bx α}(o:L0[j]? =Option.some P)(p:n*N.k<=aP):∀d f,(N.hd P.x P.a P.n P.c)[d]? =Option.some f->w.cell? ⟨g,0+j*N.k+d,none⟩=Option.some f:=by
 obtain⟨t,u,h,v,x,q,y,z⟩:=l;have i:0<N.k:=Nat.lt_of_le_of_lt (Qj _) N.ho;have r:=h.row (bytes:=N.k) i (by rw[<-h.len i];exact p);obtain⟨A,B,C,b,-,-,s,rfl,-⟩:=r.el j P (by rw[q j (Q4 _)];exact o);rw[m]at b;cases b
 intro d f k;rw[<-k];exact s d (by have:=(Qv.1 k).1;rw[N.hl]at this;exact this)
def ef.step(v:ef N e w9 a n c L0 j w){g:Nat}(m:a=Option.some ⟨g,0,none⟩){b:Bx α}(h:L0[j]? =Option.some b){o x:Nat}{G:ac}(y:Row N.ci N.ib w G d o (N.inner b.x))(A:N.ok b.x)(i:∀P,G P->w9.heap.size<=P/\P<w.heap.size)(Q:g<w9.heap.size)(k:∀w',ef N e w9 a n c L0 (j+1) w'->aj (λb=>aI a=Option.some b) w w'->w'.heap.size=w.heap.size->z w'):
  PS w ⟨g,0+j*N.k+N.o,none⟩ (.slice d o x) z:=by
 obtain⟨C,E,F,H,I,p,J,q⟩:=v;have r:C[j]? =Option.some b:=by rw[p j (Q4 _)];exact h
 have K:=(Qv.1 r).1;have s:∀P,G P->¬aI a=Option.some P:=λP B e=>by
  have:=(i P B).1;rw[m]at e;simp only[aI,Q1]at e;omega
 refine fw.set F r m λL M f l=>k L ⟨_,λP=>E P\/G P,M,?_,?_,?_,J.then f,?_⟩ f l
 ·rw[List.map_set,H]
  apply X3;intro R;rw[Xj];split
  ·rename_i e;subst e
   rw[Zx (by simpa using(Qv.1 h).1),Q9,h];rfl
  ·rfl
 ·intro t P S B
  rw[Xj]at B
  by_cases u:j=t
  ·subst u
   rw[Zx rfl,Zx K]at B
   cases B
   exact⟨(y.keep f λP B=>s P B).mono λP B=>.inr B,A⟩
  ·rw[Zq u]at B
   exact((I t P oM B).keep f λP B=>(q P B).2.2).mono λP B=>.inl B
 ·intro O T
  rw[Xj,Zq oM,p O oM]
 ·rintro P (B|B)
  ·rw[l];exact q P B
  ·rw[l];exact⟨(i P B).1,(i P B).2,s P B⟩
def ef.done(f:ef N e w9 a n c L0 n w):∃g,aS N.OV e g w a n c (L0.map (·.x))/\∀P,g P->aI a=Option.some P\/w9.heap.size<=P:=by
 have q:=f.len;obtain⟨i,j,k,h,l,r,s,d⟩:=f;have t:i.length=L0.length:=by have:=Zj List.length h;simpa using this
 rw[<-h];refine⟨_,fw.unbox (D:=j) k (λu m=>?_) λP b=>⟨(d P b).2.1,(d P b).2.2⟩,λP b=>b.imp id λb=>(d P b).1⟩;obtain⟨o,p,rfl⟩:=List.getElem_of_mem m;exact l o _ oM (Qq p)
end
end Go.aw
namespace Go.Proofs.YtkpomgifkloklaaGreatDoor
open Go.aw
def nR:fw ah Int where
 k:=10
 ci:=aO
 ib:=8
 inner:=(·.aM)
 hd:=aF
 ok:=ah.Ok
 hl:=λ_ _ _ _=>rfl
 h1:=λP a b c d n=>by
  simp only[aF,Q2,List.not_mem_nil,or_false]at n;rcases n with rfl|rfl|rfl|rfl|rfl|rfl|rfl|rfl|rfl|rfl<;>rfl
 o:=3
 ho:=dC
 fY:=λ_ _ _ _ _ _ _=>rfl
def UN:nR.OV=iz:=rfl
def KZ:fw bz ll where
 k:=4
 ci:=jz
 ib:=32
 inner:=(·.bN)
 hd:=fB
 ok:=λn=>aH n.kind/\aH n.eg
 hl:=λ_ _ _ _=>rfl
 h1:=λa b c d e P=>by
  simp only[fB,Q2,List.not_mem_nil,or_false]at P;rcases P with rfl|rfl|rfl|rfl<;>rfl
 o:=3
 ho:=dC
 fY:=λ_ _ _ _ _ _ _=>rfl
def Iq:KZ.OV=sP:=rfl
variable{e:Int}{b4:List cZ}{a c:Nat}{d:be}
section
variable {w w':World} {D E F:ac}
def pF{e:ah}{w:World}{D:ac}(h:Row aO 8 w D d a e.aM)(s:∀n,D n->n<w.heap.size):
  bn 170 #[lg e d a c] w (Ok λt w'=>∃d a c G,t=lg e d a c/\Row aO 8 w' G d a e.aM/\(∀n,G n->w.heap.size<=n/\n<w'.heap.size)/\ai w w'):=by
 have u:=h.eO;have v:=h.len;refine GY (PA.mk λz l A b=>PA.mk λB f C i=>⟨_,_,_,ae (f.get b id) rfl,PC.ok (bV (h.af (l.then f)) λn P=>by have:=s n P;omega) ?_⟩);rintro _ E ⟨m,o,p,G,rfl,q,g,j⟩;have b:=g.get (f.get b id) id;have i:=g.get i id;refine⟨_,_,_,rfl,PS.mk b (by simp[aF]) λF k H x=>?_⟩;refine ar (cs:=aF e m o p) (bg _ _ _ _) x (aD (bg _ _ _ _) (k.get i oM) rfl λI r J y=>ar (bg _ _ _ _) y (Ok.mk ⟨m,o,p,G,rfl,?_,?_,?_⟩))
 ·refine(((q.keep k λn P=>?_).keep r λn P=>?_).row (bytes:=8) dC (by rw[<-v];exact u))
  ·have:=j n P;omega
  ·have:=j n P;omega
 ·intro n P
  have:=j n P;have:=q.aE n P;omega
 ·have K:=g.size
  exact((aj.new ((l.then f).then g) k λn P=>.inr oM).new r λn P=>.inr oM)
def Mt(h:Row fy 32 w D d a b4)(C:∀n,D n->n<w.heap.size):
  bn 173 #[.agg #[WP e,.slice d a c]] w (Ok λa1 w'=>∃E H I F,a1= .agg #[WP e,.slice E H I]/\aS fy 268 F w' E H I b4/\(∀n,F n->w.heap.size<=n)/\ai w w'):=by
 obtain⟨k,J,l2,l3⟩:=fw.boxes h;have K:=h.eO;have c2:=h.len;have c3:k.length=b4.length:=by rw[<-J];simp
 refine GZ (PA.mk λL M s1 N=>PA.mk λw2 p s2 g2=>⟨_,_,_,ae (p.get N id) rfl,PC.ok (qS (l2.af (M.then p)) λn P=>by have:=C n P;omega) ?_⟩);rintro _ w9 ⟨i,l,v,F9,rfl,q,r,b6⟩;have m:∀n,aI i=some n->w2.heap.size<=n:=λn P=>b6 n (q.self n P);have a2:∀n,aI i=some n->n<w9.heap.size:=λn P=>q.aE n (q.self n P);refine⟨_,_,_,rfl,PS.mk (r.get (p.get N id) id) sM λs x c4 t=>⟨_,_,_,ae t rfl,?_⟩⟩;have z9:=r.size;have a3:=x.get (r.get g2 id) oM;have a4:aS lN.kO 268 (λn=>aI i=some n) s i l v k:=q.alone.keep x λn P b=>by have:=m n P;omega
 have a5:ai w s:=((M.then p).then r).new x λn P=>.inr oM;refine⟨λO a6 w'=>∃f:Nat,a6=f/\f<=l/\O=l-f/\ef lN 268 s i l v k f w',⟨_,0,rfl,Qj _,rfl,ef.start a4⟩,?_⟩;rintro O _ _ Q ⟨f,rfl,hj,rfl,g⟩;have c5:=g.len;have y:ai w Q:=a5.new g.keep λn P=>.inr (by have:=m n P;omega);have z:¬aI i=some w.heap.size:=λb=>by have:=m _ b;omega
 have R:¬aI i=some L.heap.size:=λb=>by have:=m _ b;omega
 refine al.dec (λc6=>λb7 b8=>?_) (λc7=>?_)
 ·have o:ai Q b7:=b8.keep
  have S:=g.af o;obtain⟨j,rfl⟩:=g.some oM;have c8:=m j rfl;have a7:j<s.heap.size:=by have:=a2 j rfl;omega
  have A:k[f]? =some k[f]:=Qq oM;have u:=l3 k[f] (XY oM);generalize k[f]=B at A u;have T:=o.get (g.keep.get t z) id;refine⟨λn=>n=j,by show w.heap.size≠j;omega,_,_,_,ae T rfl,_,_,_,ae T rfl,j,0,rfl,by omega,by omega,_,_,_,S.cell rfl A (by show l*2<=aP;unfold aP at K⊢;omega) 1 _ rfl,PC.ok (bV ((u.1.af y).af o) λn P=>by have:=C n P;have:=(y.then o).size;omega) ?_⟩;rintro _ d0 ⟨d1,d2,d3,G,rfl,U,V,hG⟩;refine⟨_,_,_,rfl,ai.keep V,j,0,rfl,oM,oM,?_⟩;have d4:=g.keep.size;have d5:=o.size;refine(S.af V).step (g:=j) rfl A (U.row (bytes:=8) dC ?_) u.2 (λW X=>⟨by have:=hG W X;omega,U.aE W X⟩) a7 λd6 b0 b9 d7=>⟨b9.mono λn _ b=>(by simpa[aI]using b.symm),_,?_,f+1,an (by unfold aP at K;omega),oM,rfl,b0⟩
  ·have:B.x.set.length<=64:=u.2.2.2
   show(lN.inner B.x).length*8<=aP;unfold aP;show B.x.set.length*8<=_;omega
  ·omega
 ·obtain rfl:f=l:=oM
  obtain⟨Fd,Y,Z⟩:=g.done;rw[J]at Y;have d8:=g.keep.size;refine⟨_,_,_,_,ae (g.keep.get t z) rfl,ae (g.keep.get t z) rfl,PS.mk (g.keep.get a3 R) sM λd9 b2 e0 c1=>PS.mk c1 sM λe1 b3 e2 a0=>⟨_,_,_,_,ae a0 rfl,ae a0 rfl,Ok.mk ⟨i,_,v,Fd,rfl,?_,?_,?_⟩⟩⟩
  ·have b5:∀n,Fd n->n≠L.heap.size:=λn P b=>by
    rcases Z n P with h|h
    ·exact R (b▸h)
    ·omega
   exact(Y.keep b2 λn P b=>b5 n P b).keep b3 λn P b=>b5 n P b
  ·intro n P
   rcases Z n P with h|h
   ·have:=m n h;omega
   ·omega
  ·exact(y.new b2 λn P=>.inr oM).new b3 λn P=>.inr oM
end
variable{v:be}{R:aU}
section
variable {w w':World} {D E F:ac}
def qM{n:List ko}(b:Row Cb 40 w D d a n)(e:∀P,D P->P<w.heap.size):bn 146 #[.slice d a c] w (Ok (qh Cb 136 w n)):=
 jb (xA Sr dC b e λg w' f=>Ok.mk f)
def qN{n:List (Bx bz)}(b:Row KZ.kO 48 w D d a n)(e:∀P,D P->P<w.heap.size):bn 147 #[.slice d a c] w (Ok (qh KZ.kO 123 w n)):=
 ij (xA VV dC b e λg w' f=>Ok.mk f)
def Ef{tn tc pn pc:Nat}(g:bt w D R d tn v pn)(S:∀n,D n->n<w.heap.size):
  bn 168 #[.agg #[.slice d tn tc,.slice v pn pc]] w (Ok λa5 w'=>∃o NO T c e f G,a5= .agg #[.slice o NO T,.slice c e f]/\bt w' G R o NO c e/\(∀n,G n->w.heap.size<=n/\n<w'.heap.size)/\ai w w'):=by
 have d3:=g.a_.len;have C:=g.a_.eO;have d4:=g.EB.len;have d5:=g.EB.eO;refine zZ (PA.mk λw1 k1 s1 g1=>PA.mk λw2 E s2 g2=>⟨_,_,_,ae (E.get g1 id) rfl,PC.ok (qM (g.EB.af (k1.then E)) λn B=>by have:=S n B;omega) ?_⟩);rintro _ p ⟨c,e,f,G1,rfl,U,F,b4⟩;have z8:=F.size;refine⟨_,_,_,rfl,PA.mk λg8 d6 g9 d7=>PS.mk d7 sM λh3 d8 h4 d9=>PS.mk d9 sM λq e0 h5 e1=>?_⟩;have r:ai p q:=(d6.new d8 λn B=>.inr oM).new e0 λn B=>.inr oM;have b5:ai w q:=((k1.then E).then F).then r;have ga:=r.get (F.get (E.get g1 id) id) id;have gz:=r.get (F.get g2 id) id;have h6:=r.size;have b6:q.heap[p.heap.size]? =some (.cells #[.slice none 0 0,.slice c e f] 25 (0,0)):=e1;refine⟨_,_,_,ae ga rfl,λs V w'=>∃P:Nat,V=P/\P<=tn/\s=tn-P/\aj (·=p.heap.size) q w'/\∃H I W t,w'.heap[p.heap.size]? =some (.cells #[.slice H I W,.slice c e f] 25 (0,0))/\aS nQ 120 t w' H I W (R.types.take P)/\∀n,t n->q.heap.size<=n,
  ⟨_,0,rfl,Qj _,rfl,aj.refl _,none,0,0,λ_=>False,b6,aS.nil _,λ_ g=>g.elim⟩,?_⟩
 rintro s _ _ Y ⟨P,rfl,hj,rfl,u,H,I,W,t,Z,h,k⟩;have J:ai w Y:=b5.new u λn B=>.inr oM;have zk:=u.size;refine al.dec (λh7=>?_) (λh8=>?_)
 ·have b7:P<R.types.length:=oM
  obtain⟨n,a6,es,ha,B,h9,a8,fa,fn,fc,rfl,K⟩:=(g.a_.af J).el P R.types[P] (by simp[b7]);have b8:R.types[P]? =some R.types[P]:=Qq b7;generalize R.types[P]=a1 at K b8;have c0:=a8 0 dC;have e2:nQ.k=1:=rfl;rw[e2,Nat.mul_one]at c0;refine⟨n,a6,ha,oM,oM,fa,fn,fc,by rw[Qx];exact c0,PA.mk λi0 e3 i1 e4=>PS.mk e4 sM λb9 e5 i2 e6=>⟨_,_,_,ae e6 rfl,?_⟩⟩;have L:ai Y b9:=e3.new e5 λn B=>.inr oM;have c1:=J.then L;obtain⟨l,l1,l2,l3⟩:=fw.boxes (N:=KZ) K;have a7:=K.eO;refine PC.ok (qN (l2.af L) λn B=>by have:=S n B;have:=c1.size;omega) ?_;rintro _ c2 ⟨a9,x,c9,F9,rfl,M,c3,e7⟩;have i3:=L.size;have i4:=c3.size;have N:∀n,aI a9=some n->b9.heap.size<=n:=λn B=>e7 n (M.self n B);have c4:∀n,aI a9=some n->n<c2.heap.size:=λn B=>M.aE n (M.self n B);refine⟨_,_,_,rfl,λs V w'=>∃P:Nat,V=P/\P<=x/\s=x-P/\ef KZ 123 c2 a9 x c9 l P w',⟨_,0,rfl,Qj _,rfl,ef.start M.alone⟩,?_⟩;rintro s _ _ e8 ⟨m,rfl,hi,rfl,i⟩;have i5:=i.len;have i6:l.length=a1.length:=by rw[<-l1];simp
  have e9:=K.len;have y:ai Y e8:=(L.then c3).new i.keep λn B=>.inr (by have:=N n B;omega);have i7:=i.keep.size;refine al.dec (λg5=>?_) (λg6=>?_)
  ·obtain⟨O,rfl⟩:=i.some oM
   have c5:=c4 O rfl;have a0:l[m]? =some l[m]:=Qq oM;have z:=l3 l[m] (XY oM);generalize l[m]=Q at a0 z;refine⟨O,0,rfl,oM,oM,_,_,_,i.cell rfl a0 (by show x*4<=aP;unfold aP at a7⊢;omega) 3 _ rfl,PC.ok (tY (z.1.af y) λn B=>by have:=S n B;have:=(J.then y).size;omega) ?_⟩;rintro _ i8 ⟨i9,j0,j1,G,rfl,a2,f2,hG⟩;refine⟨_,_,_,rfl,O,0,rfl,oM,oM,?_⟩;refine(i.af f2).step (g:=O) rfl a0 (a2.row (bytes:=32) dC ?_) z.2 (λa3 hx=>⟨by have:=hG a3 hx;omega,a2.aE a3 hx⟩) c5 λj2 c6 j3 j4=>⟨_,?_,m+1,an (by unfold aP at a7;omega),oM,rfl,c6⟩
   ·have b:=z.1.eO
    have X:=z.1.len;show Q.x.bN.length*32<=aP;have j5:Q.n=Q.x.bN.length:=X;have j6:Q.n*32<=aP:=b;omega
   ·omega
  ·obtain rfl:m=x:=oM
   obtain⟨Fd,hd,b0⟩:=i.done;rw[l1,Iq]at hd;have a4:=y.get Z id;refine⟨_,_,_,ae a4 rfl,ON (c:=nQ) (x:=a1) (h.af y) Rt (D:=Fd) ⟨_,_,_,rfl,hd.row dC (by rw[<-e9];exact a7)⟩ (λn B=>⟨hd.aE n B,λa=>?_⟩) ?_ ?_ λa' A j7 F' d0 b1 c7 g7=>⟨_,_,_,rfl,?_⟩⟩
   ·have b:=h.aE n (h.self n a)
    rcases b0 n B with X|X
    ·have:=N n X;omega
    ·omega
   ·have:=List.length_take_le P R.types;unfold aP at C⊢;omega
   ·have:=List.length_take_le P R.types;unfold aP at C;unfold maxLen;omega
   ·have j:¬aI H=some p.heap.size:=λa=>by have:=k _ (h.self _ a);omega
    have g0:=b1.get a4 j;have j8:=b1.size;refine PS.mk g0 sM λj9 c8 k0 g3=>⟨_,?_,P+1,an (by unfold aP at C;omega),oM,rfl,?_,a',I+1,A,F',g3,?_,?_⟩
    ·omega
    ·exact((u.af y).new b1 λn B=>.inr (k _ (h.self n B))).then c8
    ·rw[Qw,b8]
     refine d0.keep c8 λn B a=>?_;rcases c7 n B with b|b|b
     ·have:=k n b;omega
     ·rcases b0 n b with X|X
      ·have:=N n X;omega
      ·omega
     ·omega
    ·intro n B
     rcases c7 n B with b|b|b
     ·exact k n b
     ·rcases b0 n b with X|X
      ·have:=N n X;omega
      ·omega
     ·omega
 ·obtain rfl:P=tn:=oM
  rw[Qz oM]at h;have d1:=u.get gz oM;have f0:=(U.af r).keep u λn B a=>by have:=U.aE n B;omega
  refine⟨_,_,_,_,_,_,ae Z rfl,ae Z rfl,PS.mk d1 sM λk3 b2 k4 g4=>PS.mk g4 sM λk5 b3 k6 d2=>⟨_,_,_,_,_,_,ae d2 rfl,ae d2 rfl,Ok.mk ⟨_,_,_,_,_,_,λn=>t n\/G1 n,rfl,⟨?_,?_⟩,?_,?_⟩⟩⟩
  ·have j:∀n,t n->n≠w1.heap.size:=λn B a=>by have:=k n B;omega
   exact((((h.row (bytes:=24) dC (by rw[<-d3];exact C)).keep b2 λn B a=>j n B a).keep b3 λn B a=>j n B a)).mono λn B=>.inl B
  ·have j:∀n,G1 n->n≠w1.heap.size:=λn B a=>by have:=b4 n B;omega
   exact((((f0.row (bytes:=40) dC (by rw[<-d4];exact d5)).keep b2 λn B a=>j n B a).keep b3 λn B a=>j n B a)).mono λn B=>.inr B
  ·rintro n (B|B)
   ·have:=k n B;have:=h.aE n B;omega
   ·have:=b4 n B;have:=U.aE n B;omega
  ·exact(J.new b2 λn B=>.inr oM).new b3 λn B=>.inr oM
end
end Go.Proofs.YtkpomgifkloklaaGreatDoor
namespace Go.aw
open Go
def pO{n P a:Type}(b:n->P->a->Prop):List (n×P)->List (n×a)->Prop
 |[],[]=>True
 |(c,d)::e,(f,g)::h=>c=f/\b c d g/\pO b e h
 |_,_=>False
section
variable {κ β γ:Type} {R R':κ->β->γ->Prop}
def pO.mono:∀{n:List (κ×β)} {P:List (κ×γ)},pO R n P->(∀d a b,R d a b->R' d a b)->pO R' n P
 |[],[],_,_=>trivial
 |(f,a)::n,(g,b)::P,c,e=>⟨c.1,e _ _ _ c.2.1,pO.mono c.2.2 e⟩
def pO.au[BEq κ][LawfulBEq κ](n:κ):∀{P:List (κ×β)} {a:List (κ×γ)},pO R P a->
  (aw.au P n=none/\aw.au a n=none)\/∃b c,aw.au P n=some b/\aw.au a n=some c/\R n b c
 |[],[],_=>.inl ⟨rfl,rfl⟩
 |(e,b)::P,(i,c)::a,f=>by
  obtain⟨rfl,g,h⟩:=f;unfold aw.au
  by_cases d:n==e
  ·obtain rfl:n=e:=by simpa using d
   simp only[d,if_true];exact .inr ⟨b,c,rfl,rfl,g⟩
  ·simp only[d];exact pO.au n h
def pO.off{f:κ}:∀{n:List (κ×β)} {P:List (κ×γ)},pO R n P->(∀a b c,a≠f->R a b c->R' a b c)->f∉n.map (·.1)->pO R' n P
 |[],[],_,_,_=>trivial
 |(i,b)::n,(j,c)::P,d,g,e=>by
  simp only[QY,Q2,not_or]at e;exact⟨d.1,g _ _ _ (λh=>e.1 h.symm) d.2.1,pO.off d.2.2 g e.2⟩
def pO.aJ[BEq κ][LawfulBEq κ]{n:κ}{P:β}{a:γ}(e:R' n P a):∀{b:List (κ×β)} {f:List (κ×γ)},pO R b f->(∀g P a,g≠n->R g P a->R' g P a)->Tidy b->pO R' (aw.aJ b n P) (aw.aJ f n a)
 |[],[],_,_,_=>⟨rfl,e,trivial⟩
 |(i,p)::b,(q,r)::f,k,h,c=>by
  obtain⟨rfl,l,j⟩:=k;unfold Tidy at c;simp only[QY,List.nodup_cons]at c;unfold aw.aJ
  by_cases d:n==i
  ·simp only[d,if_true]
   obtain rfl:n=i:=by simpa using d
   refine⟨rfl,e,?_⟩;have m:n∉b.map (·.1):=c.1;exact pO.off j h m
  ·simp only[d]
   exact⟨rfl,h _ _ _ (λo=>d (by simp[o])) l,pO.aJ e j h c.2⟩
end
def wX{b:Type}(d:World)(e:Nat)(P:b->Value)(f:b)(g:Int):Prop:=
 ∃(c:Array MapEntry) (n h:Nat) (a:MapEntry),d.heap[e]? =some (.map c n)/\c[h]? =some a/\a.key=P f/\(a.born:Int)=g
variable{e:Int}{a:Nat}{j:Type}{w:Value}{m:am}{b k:World}
def wX.keep{S:ac}{P:j->Value}{c:j}(d:wX b a P c e)(f:aj S b k)(g:¬S a):wX k a P c e:=by
 obtain⟨h,n,i,l,m,o⟩:=d;exact⟨h,n,i,l,f.get m g,o⟩
section
variable {κ:Type} [BEq κ] [LawfulBEq κ] {P:Program} {t kt vt:TypeId} {z:Value} {enc:κ->Value}
def FJ{κ c:Type}[BEq κ][LawfulBEq κ]{P:κ}{d:c}:∀{a:List (κ×c)},au a P=some d->aJ a P d=a
 |(e,f)::a,n=>by
  unfold au at n;unfold aJ
  by_cases b:P==e
  ·rw[Zx b]at n⊢
   obtain rfl:P=e:=by simpa using b
   cases n;rfl
  ·rw[Zq b]at n⊢
   rw[FJ n]
def HE(u:mZ P t kt vt z)(m:jt P kt enc){d:List (κ×Value)}(v:bX b a enc d){k:κ}{w H:am}(o:∀w' B,bX w' a enc (aJ d k ((au d k).getD z))->wX w' a enc k B->aj (·=a) b w'->w'.heap.size=b.heap.size->w (.tuple #[(au d k).getD z,WP B]) w'):aK P (Instr.mapEntry t (.map (some a)) (enc k)) b w H:=by
 obtain⟨c,n,i,j,x,C⟩:=v.at';have p:=kK m k c.toList d j b;have I:c.toList.length=d.length:=by have:=Zj List.length j;simpa using this
 have q:=az i;have g:=yu d k 0
 cases r:nH d k 0 with
 |none=>
  rw[r]at p g;have s:au d k=none:=g.symm;rw[s]at o;have J:=u.On b;refine aK.mk (w':={b with heap:=b.heap.setIfInBounds a (.map (c.push {key:=enc k,val:=z,born:=n}) (n+1))}) ?_ (o _ n ⟨⟨_,_,cX b a _ q,?_,?_,?_⟩,v.tidy.aJ k z⟩ ⟨_,_,c.size,{key:=enc k,val:=z,born:=n},cX b a _ q,sM,rfl,rfl⟩ (aj.setObj b a _) sM)
  ·simp[Instr.mapEntry,run_underlying u.under,dO i,dU m,p,eS i,J,goInt]
  ·rw[Option.getD_none,(sF r).1 z];simp[j]
  ·intro f h
   simp only[Array.toList_push,Q6,List.mem_singleton]at h;rcases h with h|rfl
   ·have:=x f h;omega
   ·show n<n+1;omega
  ·simp only[Array.toList_push,Q3,QY,List.map_nil]
   rw[List.nodup_append];refine⟨C,sM,?_⟩;intro K g L y T;simp only[List.mem_singleton]at y;obtain⟨f,h,rfl⟩:=Xk.1 g;have:=x f h;omega
 |some M=>
  obtain⟨e,E⟩:=M;rw[r]at p g;have s:au d k=some E:=g.symm;obtain⟨_,N,F,O⟩:=oL r;rw[Nat.sub_zero]at N F O;have A:e<c.size:=by
                 have:c.size=d.length:=by simpa using I
                 omega
  have l:c[e].key=enc k:=by
   have:=Zj (·[e]?) j;simp only[Q9,F,Option.map_some]at this;simp[A]at this;exact this.1
  have Q:(c.modify e λf=>{f with key:=enc k})=c:=by
   apply Array.ext
   ·simp
   ·intro U V W
    rw[Array.getElem_modify];split
    ·rename_i f;subst f
     cases R:c[e]with
     |mk K L w=>rw[R]at l;simp at l;simp[l]
    ·rfl
  rw[s]at o;refine aK.mk (w':={b with heap:=b.heap.setIfInBounds a (.map c n)}) ?_ (o _ (c[e].born) ⟨⟨_,_,cX b a _ q,?_,x,C⟩,v.tidy.aJ k E⟩ ⟨_,_,e,c[e],cX b a _ q,by simp[A],l,rfl⟩ (aj.setObj b a _) sM)
  ·have S:(Instr.keyThatStays (enc k) (enc k)).run P b= .ok (enc k) b:=by simp[Instr.keyThatStays,m.same]
   simp[Instr.mapEntry,run_underlying u.under,dO i,dU m,p,A,l,S,eS i,Q,goInt]
  ·rw[Option.getD_some,FJ s];exact j
def CH(J:jt P kt enc){c:List (κ×Value)}(s:bX b a enc c){h:κ}(K:wX b a enc h e){y:bc}(L:∀o,bX o a enc (aJ c h w)->aj (·=a) b o->o.heap.size=b.heap.size->y o):lX P (Instr.entryStore t (.map (some a)) (WP e) w) b y m:=by
 obtain⟨f,k,p,u,M,z⟩:=s.at';obtain⟨N,q,n,i,l,O,A,Q⟩:=K;rw[p]at l;cases l
 subst Q;have R:f.toList.length=c.length:=by have:=Zj List.length u;simpa using this
 have S:=az p;obtain⟨r,rfl⟩:=Q5.1 O;have v:n<c.length:=by
                have:f.size=c.length:=by simpa using R
                omega
 have B:c[n]? =some (h,f[n].val):=by
  have:=Zj (·[n]?) u;simp only[Q9,Qq v,Option.map_some]at this;simp[r]at this;have T:c[n].1=h:=J.inj (by rw[<-this.1,A]);rw[Qq v]
  congr 1
  exact Prod.ext T this.2.symm
 have U:aJ c h w=c.set n (h,w):=by
  cases C:nH c h 0 with
  |none=>
   have E:=yu c h 0;rw[C]at E;have:=jS.1 E.symm;exact Zz (Xk.2 ⟨_,QZ B,rfl⟩) this
  |some V=>
   obtain⟨g,a2⟩:=V;obtain⟨_,d,F,H⟩:=oL C;rw[Nat.sub_zero]at d F H;have j:g=n:=by
    have W:(c.map (·.1))[g]? =some h:=by rw[Q9,F];rfl
    have X:(c.map (·.1))[n]? =some h:=by rw[Q9,B];rfl
    obtain⟨Y,Z⟩:=Qv.1 W;obtain⟨q3,q4⟩:=Qv.1 X;exact(List.getElem_inj (xs:=c.map (λe=>e.1)) (h₀:=Y) (h₁:=q3) (show(c.map (λe=>e.1)).Nodup from s.tidy)).1 (Z.trans q4.symm)
   rw[(H w).1,j]
 have a0:f.findIdx? (λi=>(i.born:Int)==(f[n].born:Int))=some n:=by
  rw[Array.findIdx?_eq_some_iff_getElem];refine⟨r,sM,λg d=>?_⟩;have a1:g<f.size:=oM
  have a3:f[g].born≠f[n].born:=λi=>by
   have:=(List.getElem_inj (xs:=f.toList.map (·.born)) (h₀:=by simpa using a1) (h₁:=by simpa using r) z).1 (by simpa using i);omega
  simp;omega
 refine lX.mk (w':={b with heap:=b.heap.setIfInBounds a (.map (f.modify n λi=>{i with val:=w}) k)}) ?_ (L _ ⟨⟨_,_,cX b a _ S,?_,?_,?_⟩,s.tidy.aJ h w⟩ (aj.setObj b a _) sM)
 ·simp[Instr.entryStore,dO p,asInt,asIntOf,a0,eS p]
 ·rw[U]
  apply X3;intro g;have d:=Zj (·[g]?) u;simp only[Q9]at d;simp only[Array.toList_modify,Q9,Xj,List.getElem?_modify]
  by_cases j:n=g
  ·subst j
   simp[r,v,A]
  ·simp only[j,if_false,Option.map_map]at d⊢
   simpa using d
 ·intro i I
  rw[Array.toList_modify]at I;obtain⟨g,d⟩:=List.getElem?_of_mem I;rw[List.getElem?_modify]at d
  cases x:f.toList[g]? with
  |none=>rw[x]at d;simp at d
  |some e'=>
   rw[x]at d;have hm:=QZ x;have:=M e' hm
   by_cases j:n=g
   ·simp[j]at d;subst d;exact this
   ·simp[j]at d;subst d;exact this
 ·have:(f.modify n λi=>{i with val:=w}).toList.map (·.born)=f.toList.map (·.born):=by
   apply X3;intro g;simp only[Array.toList_modify,Q9,List.getElem?_modify,Option.map_map]
   by_cases j:n=g<;>simp[j]<;>rfl
  rw[this];exact z
end
end Go.aw
namespace Go.Proofs.YtkpomgifkloklaaGreatDoor
open Go.aw
def xq{e:Type}{c:e->Int}:∀{d:List e},cN c d=0->∀a∈d,c a=0
 |[],_,a,P=>by cases P
 |y::d,n,a,P=>by
  unfold cN at n
  by_cases b:c y=0
  ·rw[b]at n
   simp only[bne_self_eq_false,Bool.false_eq_true,if_false]at n;rcases Q2.1 P with rfl|P
   ·exact b
   ·exact xq n a P
  ·rw[Zx (by simpa using b)]at n
   exact Zz n b
variable{H:Bool}{e r:Int}{d5:Int×Int}{E:List ah}{c6:List bz}{b4:List cZ}{a c i p:Nat}{f:ac}{d e6 v:be}{g:TypeId}{b:World}{R:aU}{l:ah}{d2:bj}{c5:bz}{d7:ko}
def nP(n:dt R=0):sh R=false/\(∀P∈R.types,∀c∈P,fU P c=0)/\∀d∈R.projs,mY R d=0:=by
 unfold dt at n;split at n
 ·simp at n
 ·rename_i e
  simp only at n;split at n
  ·rename_i a
   exact Zz n (by simpa using a)
  ·rename_i a
   refine⟨by simpa using e,λP f=>?_,xq n⟩;have b:cN (λP=>cN (fU P) P) R.types=0:=by simpa using a
   exact xq (xq b P f)
def AQ(n:sh R=false):1<=R.types.length/\R.types.length<=8/\R.projs.length<=8/\∀P∈R.types,1<=P.length/\P.length<=8:=by
 unfold sh at n;split at n
 ·cases n
 ·rename_i a
  simp only[Bool.or_eq_true,Bool.not_eq_true',Zk,not_or,Bool.not_eq_false,Nat.not_lt]at a;obtain⟨a,b⟩:=a;rw[bP]at a;refine⟨oM,oM,b,λP c=>?_⟩;rw[List.any_eq_false]at n;have:=n P c;simp only[Bool.or_eq_true,Bool.not_eq_true',not_or,Bool.not_eq_false]at this;have:=bP.1 this.1;omega
def VQ(n:fU c6 c5=0):∀P∈c5.bN,P.mq<(c6.length:Int):=by
 intro P b;unfold fU at n;split at n
 ·simp at n
 split at n
 ·simp at n
 split at n
 ·simp at n
 split at n
 ·simp at n
 ·rename_i a
  rw[Bool.not_eq_true,List.any_eq_false]at a;have:=a P b
  by_cases c:P.mq= -1
  ·omega
  ·have:Ub c6 P.mq 1=true:=by
    simpa[c]using this
   unfold Ub at this;simp only[QK]at this;have:=bP.1 this.1;omega
def xl(n:R.Ep e r=some c5):0<=e/\e<(R.types.length:Int)/\R.at e=R.types.getD e.toNat []/\0<=r/\r<((R.at e).length:Int)/\(R.at e).getD r.toNat ⟨0,0,false,[]⟩=c5/\c5∈R.at e:=by
 unfold aU.Ep at n;split at n
 ·rename_i P
  simp only[QK,bP]at P;refine⟨P.1.1,oM,?_,P.2.1,oM,by rw[QQ,n];rfl,QZ n⟩;unfold aU.at;rw[Zx (bP.2 P.1)]
 ·cases n
def at_mem(P:0<=e)(a:e<(R.types.length:Int)):R.at e∈R.types:=by
 unfold aU.at;rw[Zx (bP.2 ⟨P,oM⟩)];have n:e.toNat<R.types.length:=oM
 have:R.types.getD e.toNat []=R.types[e.toNat]:=by simp[QQ,n]
 rw[this];exact XY n
def OF(m:dt R=0){P b e arg:Int}(n:mh R P b e arg=0)(o:b4.length=(R.at P).length):
  ID (R.at P) b4 b e arg/\0<=P/\P<(R.types.length:Int)/\(R.at P).length<=8:=by
 obtain⟨p,q,y⟩:=nP m;obtain⟨z,A,B,r⟩:=AQ p;unfold mh at n
 cases c:R.Ep P b with
 |none=>rw[c]at n;simp at n
 |some a=>
  rw[c]at n;simp only at n;obtain⟨f,g,C,s,t,u,v⟩:=xl c;split at n
  ·simp at n
  ·rename_i h
   split at n
   ·simp at n
   ·rename_i i
    simp only[Bool.or_eq_true,Bool.not_eq_true',not_or,Bool.not_eq_false]at h i;have j:=bP.1 h.1;have k:=at_mem f g;refine⟨⟨s,t,o,j.1,j.2,λw=>?_⟩,f,g,(r _ k).2⟩;rw[u];have x:=VQ (q _ k a v);have d:within arg 0 (a.bN.length-1)=true:=by
     have:=i.2;simp only[QK,beq_iff_eq,Bool.not_eq_true',not_and,Bool.not_eq_false]at this;exact this w
    have d:=bP.1 d;have l:arg.toNat<a.bN.length:=oM
    refine⟨d.1,oM,?_⟩;have:a.bN.getD arg.toNat ⟨0,0,0,0⟩=a.bN[arg.toNat]:=by simp[QQ,l]
    rw[this];exact x _ (XY l)
structure bj.OK (V:bj):Prop where
 decl:dt V.decl=0
 st:∀x∈V.eW,x.2.cells.length=(V.decl.at x.1.1).length
def OG(P:List bz)(n:List cZ)(a b arg:Int):(Uo P n a b arg).length=n.length:=by
 unfold Uo
 simp only;split
 ·simp
 split
 ·simp
 split
 ·simp
 split
 ·simp
 split
 ·simp
 ·rfl
def bj.cellsOf(P:bj)(n:ah):List cZ:=match au P.eW (n.a_,n.agg)with
 |some a=>a.cells
 |none=>eh (P.decl.at n.a_)
def bj.OK.len(P:d2.OK)(n:ah):(d2.cellsOf n).length=(d2.decl.at n.a_).length:=by
 unfold bj.cellsOf
 cases a:au d2.eW (n.a_,n.agg)with
 |none=>simp[eh]
 |some b=>exact P.st _ (cA a)
def bj.sI(P:bj)(n:ah):P.try n=if mh P.decl n.a_ n.field n.op n.arg≠0 then(true,(0,0),P)else
  match((au P.done (n.a_,n.agg,n.field)).getD []).find? λa=>nw ((P.decl.at n.a_).getD n.field.toNat ⟨0,0,false,[]⟩) a n with
  |some a=>(true,aZ a,P)
  |none=>if xz (P.decl.at n.a_) (P.cellsOf n) n.field n.op n.arg≠0 then(true,(0,0),P)else
   (false,(0,0),{P with eW:=aJ P.eW (n.a_,n.agg) ⟨qm (((au P.eW (n.a_,n.agg)).getD ⟨0,[]⟩).version+1),Uo (P.decl.at n.a_) (P.cellsOf n) n.field n.op n.arg⟩,done:=aJ P.done (n.a_,n.agg,n.field) ((au P.done (n.a_,n.agg,n.field)).getD []++[n])}):=rfl
def bj.TY(n:d2.OK)(a:ah):(d2.try a).2.2.OK/\(d2.try a).2.2.decl=d2.decl:=by
 rw[bj.sI];split
 ·exact⟨n,rfl⟩
 split
 ·exact⟨n,rfl⟩
 split
 ·exact⟨n,rfl⟩
 ·refine⟨⟨n.decl,λb P=>?_⟩,rfl⟩
  rcases fO P with rfl|P
  ·show(Uo _ _ _ _ _).length=_
   rw[OG,n.len]
  ·exact n.st b P
def bj.AT(a:d2.OK)(n:ah):(d2.add n).2.OK/\(d2.add n).2.decl=d2.decl:=by
 obtain⟨P,b⟩:=bj.TY a n;exact⟨⟨P.decl,P.st⟩,b⟩
def bj.t_(n:dt R=0):(bj.new R).OK:=⟨n,λa P=>by cases P⟩
def Nx:fw cU Int where
 k:=13
 ci:=aO
 ib:=8
 inner:=(·.ev.aM)
 hd:=λn P a b=>aF n.ev P a b++[.bool n.void,WP n.Gj.1,WP n.Gj.2]
 ok:=λn=>n.ev.Ok
 hl:=λ_ _ _ _=>rfl
 h1:=λn P a b d c=>by
  simp only[aF,List.cons_append,List.nil_append,Q2,List.not_mem_nil,or_false]at c;rcases c with rfl|rfl|rfl|rfl|rfl|rfl|rfl|rfl|rfl|rfl|rfl|rfl|rfl<;>rfl
 o:=3
 ho:=dC
 fY:=λ_ _ _ _ _ _ _=>rfl
abbrev xu:kq cU:=Nx.OV
abbrev iP(n:cU)(P:be)(a b:Nat):List Value:=aF n.ev P a b++[.bool n.void,WP n.Gj.1,WP n.Gj.2]
def TP:ki LL 43 193 13 120:=⟨kR,kR,dC⟩
def mJ(n:cU)(P:be)(a b:Nat):iQ LL 193 (iP n P a b)=true:=kR
def Rn(n:cU)(P:be)(a b:Nat):Uf (dv LL 193) (.agg (iP n P a b).toArray)=true:=kR
def TU:KS LL 283 3:=⟨kR,kR,⟨ "typ", "no",kR,dC,dC⟩,kR,kR,kR⟩
def VO:xp LL 335 283 3:=⟨TU,kR,⟨ "agg", "field",kR,dC,dC⟩,kR,kR,kR⟩
def XL:jt LL 283 qg:=TU.key
def kPl:jt LL 335 Du:=VO.key
def tSt:mZ LL 275 283 42 (.agg #[WP 0,.slice none 0 0]):=⟨kR,kR⟩
def tDn:mZ LL 276 335 36 (.slice none 0 0):=⟨kR,kR⟩
inductive KP where
 |self|st|dn|Q_|TV|YX
 |done (k:Int×Int×Int)
structure Gh where
 ta:be
 tn:Nat
 tc:Nat
 pa:be
 pn:Nat
 pc:Nat
 ea:be
 en:Nat
 ec:Nat
 r1:Nat
 r2:Nat
 l1:List ((Int×Int)×Value)
 l2:List ((Int×Int×Int)×Value)
 cls:Nat->KP
abbrev Gh.P(P:Gh)(a:ac)(b:KP):ac:=λn=>a n/\P.cls n=b
def Zh(b:World)(D:ac)(c:Value)(n:ny):Prop:=∃P a d,c= .agg #[WP n.version,.slice P a d]/\Row fy 32 b D P a n.cells
def Zi(b:World)(D:ac)(c:Value)(d:List ah):Prop:=∃n P a,c= .slice n P a/\aS iz 82 D b n P a d
structure zv (w:World) (p:Nat) (F:ac) (V:bj) (q:Gh):Prop where
 at':w.heap[p]? =some (.cells #[.slice q.ta q.tn q.tc,.slice q.pa q.pn q.pc,.slice q.ea q.en q.ec,.map (some q.r1),.map (some q.r2)] 278 (0,0))
 TV:bt w (q.P F .TV) V.decl q.ta q.tn q.pa q.pn
 Q_:aS xu 193 (q.P F .Q_) w q.ea q.en q.ec V.entries
 st:bX w q.r1 qg q.l1
 YY:fT (Zh w (q.P F .YX)) q.l1 V.eW
 dn:bX w q.r2 Du q.l2
 Zl:pO (λk=>Zi w (q.P F (.done k))) q.l2 V.done
 aE:∀b,F b->b<w.heap.size
 lp:F p/\q.cls p= .self
 l1:F q.r1/\q.cls q.r1= .st
 l2:F q.r2/\q.cls q.r2= .dn
def cJ(P:World)(a:Nat)(b:ac)(n:bj):Prop:=n.OK/\∃c,zv P a b n c
section
variable {w w':World} {p:Nat} {F T D:ac} {V:bj} {q:Gh}
def Zh.keep{n:Value}{P:ny}(b:Zh w D n P)(c:aj T w w')(d:∀a,D a->¬T a):Zh w' D n P:=by
 obtain⟨e,f,g,h,i⟩:=b;exact⟨e,f,g,h,i.keep c d⟩
def Zi.keep{n:Value}(a:Zi w D n E)(b:aj T w w')(c:∀P,D P->¬T P):Zi w' D n E:=by
 obtain⟨d,e,f,g,h⟩:=a;exact⟨d,e,f,g,h.keep b c⟩
def zv.keep(n:zv w p F V q)(b:aj T w w')(c:∀P,F P->¬T P):zv w' p F V q:=
 ⟨b.get n.at' (c _ n.lp.1),n.TV.keep b λP a=>c P a.1,n.Q_.keep b λP a=>c P a.1,n.st.keep b (c _ n.l1.1),n.YY.mono λe f d=>d.keep b λP a=>c P a.1,
  n.dn.keep b (c _ n.l2.1),n.Zl.mono λg e f d=>d.keep b λP a=>c P a.1,λP a=>Qk (n.aE P a) b.size,n.lp,n.l1,n.l2⟩
def zv.af(n:zv w p F V q)(P:ai w w'):zv w' p F V q:=n.keep P λ_ _ n=>n
def cJ.keep(n:cJ w p F V)(a:aj T w w')(b:∀P,F P->¬T P):cJ w' p F V:=⟨n.1,n.2.imp λq c=>c.keep a b⟩
def cJ.af(n:cJ w p F V)(P:ai w w'):cJ w' p F V:=n.keep P λ_ _ n=>n
def cJ.aE(P:cJ w p F V):∀n,F n->n<w.heap.size:=P.2.elim λq a=>a.aE
def cJ.self(n:cJ w p F V):F p:=n.2.elim λq P=>P.lp.1
def Ir{tn t l u:Nat}(x:dt R=0)(y:bt w D R d tn v l)(z:∀n,D n->n<w.heap.size):
  bn 106 #[.agg #[.slice d tn t,.slice v l u]] w (Ok λA w'=>∃p F,A= RK p/\cJ w' p F (bj.new R)/\(∀n,F n->w.heap.size<=n)/\ai w w'):=by
 refine LX (PA.mk λJ m K o=>⟨_,_,_,_,_,_,ae o rfl,ae o rfl,PC.ok (Ef (y.af m) λn P=>by have:=z n P;omega) ?_⟩);rintro _ c ⟨f,NO,g,h,i,j,G,rfl,B,C,q⟩;refine⟨_,_,_,_,_,_,rfl,PA.mk λa r L E=>PA.mk λb k M H=>PA.mk λs e N I=>Ok.mk ⟨b.heap.size,λn=>w.heap.size<=n/\n<s.heap.size,rfl,⟨bj.t_ x,
  ⟨⟨f,NO,g,h,i,j,none,0,0,c.heap.size,a.heap.size,[],[],λn=>if n=b.heap.size then .self else if n=c.heap.size then .st else if n=a.heap.size then .dn else .TV⟩,?_⟩⟩,λn P=>P.1,((m.then q).then r).then (k.then e)⟩⟩
 have O:=q.size;refine⟨I,?_,?_,bX.new (e.get (k.get E id) id),trivial,bX.new (e.get H id),trivial,λn P=>P.2,⟨⟨by show w.heap.size<=b.heap.size;omega,by show b.heap.size<_;omega⟩,Zx rfl⟩,⟨⟨by show w.heap.size<=c.heap.size;omega,by show c.heap.size<_;omega⟩,?_⟩,⟨⟨by show w.heap.size<=a.heap.size;omega,by show a.heap.size<_;omega⟩,?_⟩⟩
 ·refine(((B.af r).af k).af e).mono λn P=>?_
  have:=C n P;refine⟨⟨oM,oM⟩,?_⟩;show(if n=b.heap.size then _ else _)=_;rw[Zq oM,Zq oM,Zq oM]
 ·exact(aS.nil s).mono (λn P=>P.elim) λn P=>P.1.2
 ·show(if c.heap.size=b.heap.size then _ else _)=_
  rw[Zq oM,Zx rfl]
 ·show(if a.heap.size=b.heap.size then KP.self else if a.heap.size=c.heap.size then KP.st else if a.heap.size=a.heap.size then KP.dn else KP.TV)=KP.dn
  rw[Zq oM,Zq oM,Zx rfl]
abbrev Ia:ny:=⟨0,[]⟩
def oR(i:cJ w p F V):
  bn 110 #[RK p,WP e,WP r] w (Ok λo w'=>∃a b c G,o= .tuple #[.agg #[WP ((V.state e r).getD Ia).version,.slice a b c],.bool (V.state e r).isSome]/\aS fy 268 G w' a b c ((V.state e r).getD Ia).cells/\(∀n,G n->w.heap.size<=n)/\ai w w'):=by
 obtain⟨T,q,i⟩:=i;refine vI (PA.mk λs t U z=>?_);have h:=i.af t;refine⟨p,0,rfl,_,ae h.at' rfl,jN (enc:=qg) (k:=(e,r)) tSt XL h.st ?_⟩;obtain⟨g,n,a,b,c,d,f,A,B,j⟩:∃(g:ny) (n:Bool) (a:be) (b c:Nat),(au q.l1 (e,r)).getD (.agg #[WP 0,.slice none 0 0])= .agg #[WP g.version,.slice a b c]/\(au q.l1 (e,r)).isSome=n/\(V.state e r).getD Ia=g/\(V.state e r).isSome=n/\Row fy 32 s (q.P F .YX) a b g.cells:=by
  unfold bj.state;rcases h.YY.au (e,r)with⟨d,f⟩|⟨o,g,d,f,a,b,c,rfl,j⟩
  ·exact⟨Ia,false,none,0,0,by rw[d];rfl,by rw[d];rfl,by rw[f];rfl,by rw[f];rfl,Row.nil _ _⟩
  ·exact⟨g,true,a,b,c,by rw[d];rfl,by rw[d];rfl,by rw[f];rfl,by rw[f];rfl,j⟩
 rw[d,f,A,B];refine⟨_,_,_,_,_,rfl,PA.mk λW C X E=>PS.mk E sM λY H Z I=>PS.mk I sM λJ K s7 u=>?_⟩;have k:ai s J:=(C.new H λn P=>.inr oM).new K λn P=>.inr oM;refine⟨_,_,_,_,ae u rfl,ae u rfl,PC.ok (Mt (j.af k) λn P=>by have:=h.aE n P.1;omega) ?_⟩;rintro _ w8 ⟨L,M,N,G,rfl,O,l,m⟩;have Q:=m.get (k.get z id) id;have z8:=m.size;refine⟨_,_,_,_,rfl,PS.mk Q sM λw9 v s9 R=>PS.mk R sM λa0 x a1 y=>⟨_,_,_,_,ae y rfl,ae y rfl,Ok.mk ⟨L,M,N,G,rfl,?_,?_,?_⟩⟩⟩
 ·exact(O.keep v λn P S=>by have:=l n P;omega).keep x λn P S=>by have:=l n P;omega
 ·intro n P;have:=l n P;omega
 ·exact(((t.then k).then m).new v λn P=>.inr oM).new x λn P=>.inr oM
end
section
variable {w w':World} {D D' S:ac} {d:aU} {ta pa:be} {tn tc pn pc:Nat}
def yI{P a op arg:Int}(S:fE w)(j:bt w D d ta tn pa pn)(T:∀f,D f->f<w.heap.size):
  bn 171 #[.agg #[.slice ta tn tc,.slice pa pn pc],WP P,WP a,WP op,WP arg] w (Ok λe w'=>e= WP (mh d P a op arg)/\ai w w'):=by
 refine DV (PA.mk λw1 B s1 C=>⟨_,_,_,_,_,_,ae C rfl,ae C rfl,PC.ok (pQ (j.af B) λf s=>by have:=T f s;omega) ?_⟩);rintro e w2 ⟨U,p⟩;have q:=B.then U
 cases k:d.Ep P a with
 |none=>
  rw[k]at p;refine cg (Kp YN none 0 0) ⟨_,p,PA.mk λV t W u=>aD (gT _ _ _ _) u rfl λX v Y E=>al.tt rfl (Ok.mk ⟨?_,(q.then t).new v λf s=>.inr (by have:=q.size;omega)⟩)⟩;unfold mh;rw[k]
 |some g=>
  rw[k]at p;obtain⟨r,h,F,a5,rfl,Z,hF⟩:=p;have x:mh d P a op arg=if !within op 1 5||rO op !=g.kind then 2 else if op==1&&arg==0||op==5&& !within arg 0 (g.bN.length-1)then 1 else 0:=by unfold mh;rw[k]
  have hz:=q.size;refine cg (Kp g r h F) ⟨_,rfl,PA.mk λV t W u=>aD (gT g r h F) u rfl λX v Y E=>al.ff rfl λy H=>PC.ok cE ?_⟩;rintro _ _ ⟨rfl,rfl⟩;have I:=(bW.keep (S:=λ_=>False) H).get E id;have J:ai w y:=((q.then t).new v λf s=>.inr oM).then H.keep;have n:∀z:Int,mh d P a op arg=z->Ok (λe w'=>e= WP (mh d P a op arg)/\ai w w') (.returned (WP z)) y:=λz j=>Ok.mk ⟨by rw[j],J⟩;refine⟨_,rfl,al.not (al.mk (λc=>?_) (λc=>n 2 (by rw[x,c];rfl)))⟩;have a6:=bP.1 c;refine⟨1,0,rfl,oM,oM,rO op,?_,_,ae I rfl,al.eu (λa0=>n 2 ?_) (λhe=>?_)⟩
  ·have:=(S.af J).kinds op.toNat oM
   rw[Xz,this,Int.toNat_of_nonneg oM]
  ·rw[x,c,Zx (by simpa using a0)]
  have l:mh d P a op arg=if op==1&&arg==0||op==5&& !within arg 0 (g.bN.length-1)then 1 else 0:=by rw[x,c,he];simp
  have hn:h=g.bN.length:=Z.len dC;have a7:h<=140737488355328:=by
   obtain⟨a1,NO,K,-⟩:∃(r:be) (h:Nat),Row jz 32 w D r h g.bN/\True:=by
    obtain⟨i,m,a8,a2,a9,A,h3,h4⟩:=aU.xl k;have b0:=j.a_.len;obtain⟨f,a3,T',es,rfl,_,_,o,L,b1,n1,c1,rfl,M⟩:=j.a_.at (i:=P) i oM;rw[a2]at o;cases o
    have b2:=M.len;obtain⟨b3,b4,x',b5,rfl,_,_,N,b6,b7,n2,c2,rfl,hM,_⟩:=M.at (i:=a) A oM;rw[h4]at N;cases N
    exact⟨_,_,hM,trivial⟩
   have m:=K.len;have A:=K.eO;unfold aP at A;omega
  have bN:∀{O:List PanicEntry->bc},op=5->PC LL 140 #[WP arg,WP 0,WP (PP .i64 ((h:Int)-1))] y (λa4 Q=>∃R:Bool,a4= .bool R/\al (!R) (Ok (λe w'=>e= WP (mh d P a op arg)/\ai w w') (.returned (WP 1)) Q) (Ok (λe w'=>e= WP (mh d P a op arg)/\ai w w') (.returned (WP 0)) Q)) O:=by
   intro O b;refine PC.ok cE ?_;rintro _ _ ⟨rfl,rfl⟩;rw[wrap_i64 cS,hn];refine⟨_,rfl,al.not (al.mk (λc=>n 0 ?_) (λc=>n 1 ?_))⟩
   ·rw[l,c,b];rfl
   ·rw[l,c,b];rfl
  refine al.eT (λm=>al.eT (λi=>al.eT (λ_=>n 1 (by rw[l,m,i];rfl)) (λL=>Zz i L)) (λi=>al.eT (λb=>Zz b oM) (λb=>n 0 ?_))) (λm=>al.eT (λb=>⟨_,_,_,ae I rfl,bN b⟩) (λb=>n 0 ?_))
  ·rw[l,Zq (by simp[i,b])]
  ·rw[l,Zq (by simp[m,b])]
def FY{f:be}(P:Row sP 48 w D f a c6):
  bn 143 #[.agg #[.slice f a c],WP e,WP r] w (Ok λi w'=>i= .bool (Ub c6 e r)/\ai w w'):=by
 have g:=P.len;have j:=P.eO;unfold aP at j;refine I_ (PA.mk λo b p h=>⟨_,_,_,ae h rfl,PC.ok cE ?_⟩);rintro _ _ ⟨rfl,rfl⟩;rw[wrap_i64 cS];refine⟨_,rfl,al.mk (λn=>?_) (λn=>Ok.mk ⟨?_,b⟩)⟩
 ·have q:=bP.1 n
  obtain⟨k,d,s,t,rfl,_,_,l,m,u,v,x,rfl,_⟩:=(P.af b).at (i:=e) oM oM;refine⟨_,_,_,ae h rfl,k,d,rfl,oM,oM,_,m 0 dC,Ok.mk ⟨?_,b⟩⟩;unfold Ub;rw[<-g,n,l];rfl
 ·unfold Ub;rw[<-g,n];rfl
def VB(P:1<=e/\e<=4)(a:1<=r/\r<=3):∃n:Int,(∀w',(do eqGuard .shr 3 (.tmp 19) (.tmp 21) (WP (([0,2,14,6,6]:List Int).getD e.toNat 0)) (WP r);binOp .shr 3 (WP (([0,2,14,6,6]:List Int).getD e.toNat 0)) (WP r):Sem Value).run LL w'= .ok (WP n) w')/\((GQ .i64 n 1==0)= !Tm e r):=by
 refine⟨(([0,2,14,6,6]:List Int).getD e.toNat 0).fdiv (2 ^ r.toNat),?_,?_⟩<;>rcases(by omega:e=1\/e=2\/e=3\/e=4)with rfl|rfl|rfl|rfl<;>rcases(by omega:r=1\/r=2\/r=3)with rfl|rfl|rfl<;>first
  |(intro w';kernel_rfl)
  |decide
def Nn(m:ll):Bool:=decide (m.bO<0)||decide (m.m_<0)||m.mq== -1&&m.least !=0
def VC{b:ll}:bn 141 (#[]++ #[.agg (oT b).toArray]++ #[]) w (Ok λe w'=>e= .bool (Nn b)/\ai w w'):=by
 refine xN (PA.mk λf P g a=>⟨_,ae a rfl,al.dec (λn=>Ok.mk ⟨by simp[Nn,n],P⟩) (λc=>⟨_,ae a rfl,al.dec (λn=>Ok.mk ⟨by simp[Nn,n],P⟩) (λd=>⟨_,ae a rfl,al.eT (λn=>⟨_,ae a rfl,Ok.mk ⟨by simp[Nn,c,d,n],P⟩⟩) (λn=>Ok.mk ⟨by simp[Nn,c,d,n],P⟩)⟩)⟩)⟩)
def KD(P:List bz)(n:ll):Bool:=n.mq != -1&& !Ub P n.mq 1
def VD{P:ll}{d:be}(f:Row sP 48 w D d c c6)(h:w.heap[a]? =some (.cells #[.slice d c i] g (0,0))):
  bn 142 (#[]++ #[.agg (oT P).toArray]++ #[RK a]) w (Ok λj w'=>j= .bool (KD c6 P)/\ai w w'):=by
 refine xO (PA.mk λl n m e=>⟨_,ae e rfl,al.eu (λb=>⟨_,_,_,ae (n.get h id) rfl,_,ae e rfl,PC.ok (FY (f.af n)) ?_⟩) (λb=>Ok.mk ⟨by simp[KD,b],n⟩)⟩);rintro _ o ⟨rfl,k⟩;exact⟨_,rfl,Ok.mk ⟨by unfold KD;rw[show(P.mq != -1)=true by simpa using b];simp,n.then k⟩⟩
def HR{y z:be}(H:fE w)(I:Row sP 48 w D y a c6)(A:Row jz 32 w D z i c5.bN):
  bn 89 #[.agg #[.slice y a c],.agg (fB c5 z i p).toArray] w (Ok λo w'=>o= WP (fU c6 c5)/\ai w w'):=by
 refine Bw (PA.mk λV J W K=>PA.mk λq B X r=>⟨_,ae r rfl,PC.ok cE ?_⟩);rintro _ _ ⟨rfl,rfl⟩;have C:=J.then B;refine⟨_,rfl,al.not (al.mk (λe=>?_) (λe=>Ok.mk ⟨by unfold fU;rw[e];rfl,C⟩))⟩;have s:=bP.1 e;refine⟨λw'=>ai w w'/\q.heap.size<=w'.heap.size/\ai q w'/\within c5.eg 1 3=true/\Tm c5.kind c5.eg=true/\(c5.floor&&c5.kind !=1)=false,λk E=>?_,?_⟩
 ·have b:=(bW.keep (S:=λ_=>False) E).get r id
  have d:ai q k:=E.keep;have n:ai w k:=C.then d;have f:fU c6 c5=1->Ok (λo w'=>o= WP (fU c6 c5)/\ai w w') (.returned (WP 1)) k:=λh=>Ok.mk ⟨by rw[h],n⟩;refine⟨_,ae b rfl,PC.ok cE ?_⟩;rintro _ _ ⟨rfl,rfl⟩;refine⟨_,rfl,al.not (al.mk (λP=>?_) (λP=>f (by unfold fU;rw[e,P];rfl)))⟩;have t:=bP.1 P;obtain⟨L,M,N⟩:=VB s t;refine⟨_,ae b rfl,0,0,rfl,oM,oM,_,by rw[Xz];exact(H.af n).YO c5.kind.toNat oM,_,ae b rfl,L,M,?_⟩;refine al.mk (λl=>?_) (λl=>?_)<;>rw[N]at l
  ·exact f (by unfold fU;rw[e,P,show Tm c5.kind c5.eg=false by simpa using l];rfl)
  have j:Tm c5.kind c5.eg=true:=by simpa using l
  refine⟨_,ae b rfl,al.mk (λu=>⟨_,ae b rfl,al.eu (λO=>f ?_) (λQ=>⟨n,d.size,d,P,j,by simp[Q]⟩)⟩) (λu=>⟨n,d.size,d,P,j,by simp[u]⟩)⟩;unfold fU;rw[e,P,j,u];simp[O]
 ·rintro Y k ⟨n,Z,d,P,j,R⟩
  have b:=d.get r id;have v:fU c6 c5=if c5.bN.any Nn then 1 else if c5.bN.any (KD c6)then 8 else 0:=by
   unfold fU;rw[e,P,j,R];rfl
  refine⟨_,_,_,ae b rfl,PC.ok (KC (p:=Nn) (A.af n) kR λS T g=>VC) ?_⟩;rintro _ T ⟨rfl,g⟩;refine⟨_,rfl,al.mk (λh=>Ok.mk ⟨by rw[v,Zx h],n.then g⟩) (λh=>⟨_,_,_,ae (g.get b id) rfl,PC.ok (KC (p:=KD c6) (A.af (n.then g)) kR λS U m=>VD (I.af ((n.then g).then m)) (m.get (g.get (d.get (B.get K id) id) id) id)) ?_⟩)⟩;rintro _ U ⟨rfl,m⟩;have F:=(n.then g).then m;exact⟨_,rfl,al.mk (λx=>Ok.mk ⟨by rw[v,h,x];rfl,F⟩) (λx=>Ok.mk ⟨by rw[v,h,x];rfl,F⟩)⟩
def XB{n a kind:Int}(b:(d.Ep n a).isSome):∃P,d.types[n.toNat]? =some P/\d.at n=P/\0<=n/\n<d.types.length:=by
 obtain⟨i,c⟩:=Option.isSome_iff_exists.1 b;obtain⟨e,f,P,g,h,_⟩:=aU.xl c;exact⟨P,g,h,e,f⟩
def HS(r:bt w D d ta tn pa pn)(O:∀n,D n->n<w.heap.size):
  bn 90 #[.agg #[.slice ta tn tc,.slice pa pn pc],.agg (oS d7).toArray] w (Ok λC w'=>C= WP (mY d d7)/\ai w w'):=by
 refine By (PA.mk λZ E s1 s=>PA.mk λw2 g s2 l=>⟨_,_,_,_,_,_,ae (g.get s id) rfl,ae (g.get s id) rfl,_,ae l rfl,_,ae l rfl,PC.ok (pQ (r.af (E.then g)) λn b=>by have:=O n b;omega) ?_⟩);rintro C w3 ⟨h,m⟩;have t:=(E.then g).then h;have hz:=h.size
 cases i:d.Ep d7.a_ d7.field with
 |none=>
  rw[i]at m;refine cg (Kp YN none 0 0) ⟨_,m,PA.mk λQ c R u=>aD (gT _ _ _ _) u rfl λo e S T=>al.tt rfl (Ok.mk ⟨?_,(t.then c).new e λn b=>.inr oM⟩)⟩;unfold mY;rw[i];rfl
 |some F=>
  rw[i]at m;obtain⟨H,I,J,a0,rfl,ho,hF⟩:=m;have K:(d.Ep d7.a_ d7.field).isNone=false:=by rw[i];rfl
  refine cg (Kp F H I J) ⟨_,rfl,PA.mk λQ c R u=>aD (gT F H I J) u rfl λo e S T=>al.ff rfl ⟨λn w'=>n=(d7.group==3&& !Ub (d.at d7.a_) d7.Gj 2||d7.group !=3&&d7.Gj !=0)/\ai o w',?_,?_⟩⟩
  ·have U:ai w o:=(t.then c).new e λn b=>.inr oM
   intro v V;have P:ai o v:=V.keep;have W:=P.get (e.get (c.get (h.get (g.get s id) id) id) oM) id;have a:=P.get (e.get (c.get (h.get l id) id) oM) id;refine⟨_,ae a rfl,al.eT (λf=>⟨_,_,_,ae W rfl,_,ae a rfl,?_⟩) (λf=>⟨_,ae a rfl,al.eu (λ_=>⟨_,ae a rfl,?_,P⟩) (λj=>Zz j f)⟩)⟩
   ·obtain⟨a1,X,L,M,h1⟩:=XB (kind:=0) (by rw[i];rfl:(d.Ep d7.a_ d7.field).isSome)
    have hl:=r.a_.len;obtain⟨n,x,T',es,rfl,_,_,k,j,a2,n1,c1,rfl,Y⟩:=((r.af (U.then P)).a_).at (i:=d7.a_) M oM;rw[X]at k;cases k
    have N:=j 0 dC;simp only[nQ,Nat.mul_one,Nat.add_zero]at N;refine⟨n,x,rfl,M,oM,_,_,_,N,_,ae a rfl,PC.ok (FY Y) ?_⟩;rintro _ w7 ⟨rfl,y⟩;refine⟨_,rfl,al.not (al.mk (λz=>⟨_,ae (y.get a id) rfl,al.eu (λj=>Zz f j) (λ_=>⟨?_,P.then y⟩)⟩) (λz=>⟨?_,P.then y⟩))⟩
    ·rw[L,z,f];rfl
    ·rw[L,z,f];rfl
   ·rw[show(d7.group==3)=false by simpa using f,show(d7.group !=3)=true by simpa using f];rfl
  ·rintro n a3 v ⟨rfl,P⟩
   have p:ai w v:=((t.then c).new e λn b=>.inr oM).then P;have a:=P.get (e.get (c.get (h.get l id) id) oM) id;refine al.mk (λb=>Ok.mk ⟨by unfold mY;rw[K,Zq sM,Zx b],p⟩) (λb=>⟨_,ae a rfl,PC.ok cE ?_⟩);have A:mY d d7=if !within d7.group 1 3|| !within d7.make 1 5 then 2 else 0:=by unfold mY;rw[K,Zq sM,b];rfl
   rintro _ _ ⟨rfl,rfl⟩;refine⟨_,rfl,al.not (al.mk (λq=>⟨_,ae a rfl,PC.ok cE ?_⟩) (λq=>Ok.mk ⟨by rw[A,q];rfl,p⟩))⟩;rintro _ _ ⟨rfl,rfl⟩;exact⟨_,rfl,al.not (al.mk (λB=>Ok.mk ⟨by rw[A,q,B];rfl,p⟩) (λB=>Ok.mk ⟨by rw[A,q,B];rfl,p⟩))⟩
end
def VP(n:Int×Int×Int):iQ LL 335 [WP n.1,WP n.2.1,WP n.2.2]=true:=kR
def KQ{n b:Type}[BEq n][LawfulBEq n]{P:n}{e c:b}:∀a:List (n×b),aJ (aJ a P e) P c=aJ a P c
 |[]=>by simp[aJ]
 |(f,g)::a=>by
  by_cases d:P==f
  ·simp[d,aJ]
  ·simp[d,aJ,KQ a]
section
variable {w w':World} {p:Nat} {F T D:ac} {V:bj} {q:Gh}
def H_(w:World)(p:Nat)(F D:ac)(V:bj)(n:ah)(b:Value)(w':World):Prop:=
 b= .tuple #[.bool (V.try n).1,.agg #[WP (V.try n).2.1.1,WP (V.try n).2.1.2]]/\∃a,cJ w' p a (V.try n).2.2/\aj F w w'/\∀P,a P->F P\/D P\/w.heap.size<=P
def TW(a:cJ w p F V)(n:ai w w')(P:V.try l=(H,d5,V)):Ok (H_ w p F D V l) (.returned (.tuple #[.bool H,.agg #[WP d5.1,WP d5.2]])) w':=by
 refine Ok.mk ⟨by rw[P],F,?_,ai.keep n,λH b=>.inl b⟩;rw[P];exact a.af n
def Gi(h:zv b p F V q)(n:Int×Int×Int):∃P a c d,(au q.l2 n).getD (.slice none 0 0)= .slice P a c/\(au V.done n).getD []=d/\(aS iz 82 (q.P F (.done n)) b P a c d):=by
 rcases h.Zl.au n with⟨e,f⟩|⟨k,d,e,f,P,a,c,rfl,j⟩
 ·exact⟨none,0,0,[],by rw[e];rfl,by rw[f];rfl,(aS.nil b).mono (λi g=>g.elim) λi g=>h.aE i g.1⟩
 ·exact⟨P,a,c,d,by rw[e];rfl,by rw[f];rfl,j⟩
def TX(b:cJ w p F V)(hT:fE w)(hr:Row aO 8 w D d a l.aM)(C:∀n,D n->n<w.heap.size/\¬F n)(he:l.Ok)(P:((au V.done (l.a_,l.agg,l.field)).getD []).length<=20000000):
  bn 169 #[RK p,lg l d a c] w (Ok (H_ w p F D V l)):=by
 have l6:=b;obtain⟨hV,q,b⟩:=b;have f:=b.aE;have C3:=f _ b.lp.1;refine z_ (PA.mk λE u1 C4 u2=>PA.mk λo8 o9 C5 u3=>λl7 p0=>?_);have l8:ai o8 l7:=p0.keep;have C6:l7.heap.size=o8.heap.size:=by rw[p0.heap]
 have k0:ai w l7:=(u1.then o9).then l8;have ge:=l8.get (o9.get u2 id) id;have gb:=l8.get u3 id;have Q:=b.af k0;refine⟨p,0,rfl,_,_,_,_,_,_,ae Q.at' rfl,ae Q.at' rfl,_,ae ge rfl,_,ae ge rfl,_,ae ge rfl,_,ae ge rfl,PC.ok (yI (hT.af k0) Q.TV λn P=>Q.aE n P.1) ?_⟩;rintro _ R ⟨rfl,S⟩;have k1:=k0.then S;have C7:=S.size;have c1:=S.get gb id;have c3:=S.get ge id;have k:∀{w1:World} {i:Int×Int} {n:Bool},ai R w1->V.try l=(n,i,V)->∀w2,bW w1 w2->∀(x H:Int),x=i.1->H=i.2->PS w2 ⟨E.heap.size,0,none⟩ (WP x) λw3=>PS w3 ⟨E.heap.size,0+1,none⟩ (WP H) λw4=>∃(p1 p2:Int),w4.cell? ⟨E.heap.size,0,none⟩=some (WP p1)/\w4.cell? ⟨E.heap.size,0+1,none⟩=some (WP p2)/\Ok (H_ w p F D V l) (.returned (.tuple #[.bool n,.agg #[WP p1,WP p2]])) w4:=λ{w1 i n} hk I w2 f6 x H hx j=>by
  have k2:ai w1 w2:=f6.keep;have kk:=(k1.then hk).then k2;have g2:=k2.get (hk.get c1 id) id;subst hx j;refine PS.mk g2 sM λw3 k3 s3 g3=>PS.mk g3 sM λw4 J s4 g4=>⟨_,_,ae g4 rfl,ae g4 rfl,TW l6 ((kk.new k3 λn P=>.inr oM).new J λn P=>.inr oM) I⟩
 refine⟨_,rfl,al.eu (λd6=>λu4 p3=>?_) (λh6=>?_)⟩
 ·have p4:=(p3.keep (S:=λ_=>False)).get c1 id
  exact⟨_,_,ae p4 rfl,ae p4 rfl,k (i:=(0,0)) (aj.refl _) (by rw[bj.sI,Zx d6]) u4 p3 _ _ rfl rfl⟩
 obtain⟨c4,t0,t1,C8⟩:=OF hV.decl h6 (hV.len l);obtain⟨v,p5⟩:∃v:Nat,l.a_=v:=⟨l.a_.toNat,oM⟩
 have l9:=c4.f0;have m0:=c4.f1;obtain⟨fi,g6⟩:∃fi:Nat,l.field=fi:=⟨l.field.toNat,oM⟩
 have u5:V.decl.at l.a_=V.decl.types.getD v []:=by
  unfold aU.at;rw[Zx (bP.2 ⟨t0,oM⟩),p5,Qx]
 obtain⟨tb,m_,es,u6,u7,p6,u9,fa,fn,fc,rfl,y⟩:=(Q.af S).TV.a_.el v V.decl.types[v] sM;have y:Row sP 48 R (q.P F .TV) fa fn (V.decl.at l.a_):=by
  rw[u5];have:V.decl.types.getD v []=V.decl.types[v]:=by simp[QQ,show v<V.decl.types.length by omega]
  rw[this];exact y
 have C9:=(Q.af S).TV.a_.len;have h7:=u9 0 dC;have v0:nQ.k=1:=rfl;rw[v0,Nat.mul_one]at h7;have v1:=f tb p6.1;refine⟨λT v2 ab ao w'=>v2=0/\ao=0/\ai R w'/\w'.heap[T]? =some (.cells #[.slice fa fn fc] 120 (0,0))/\w'.heap[ab]? =some (.cells #[WP l.a_,WP l.agg,WP l.field] 335 (0,0))/\R.heap.size<=T/\R.heap.size<=ab,?_,?_⟩
 ·intro K p7
  have d7:ai R K:=p7.keep;have D0:K.heap.size=R.heap.size:=by rw[p7.heap]
  have p8:=(Q.af S).af d7;have c5:=d7.get c3 id;refine⟨λn=>K.heap.size<=n,p,0,rfl,oM,_,_,_,ae p8.at' rfl,by show¬K.heap.size<=w.heap.size;omega,_,ae c5 rfl,tb,m_,u6,t0,by omega,by show¬K.heap.size<=tb;omega,fa,fn,fc,?_,by show¬K.heap.size<=w.heap.size;omega,_,ae c5 rfl,by show¬K.heap.size<=w.heap.size;omega,_,ae c5 rfl,by show¬K.heap.size<=w.heap.size;omega,_,ae c5 rfl,?_,?_⟩
  ·rw[p5,Qx]
   exact(d7.cell (a:=⟨tb,m_+v,none⟩) u7 id).trans h7
  ·refine PA.mk λv3 d8 v4 m1=>⟨ai.keep d8,PA.mk λv5 U v6 m2=>⟨ai.keep U,PS.mk (U.get m1 id) sM λv7 W v8 m3=>⟨W.mono λn _ l=>oM,aD (VP (l.a_,l.agg,l.field)) (W.get m2 oM) rfl λv9 X x0 m4=>⟨X.mono λn _ l=>oM,rfl,rfl,?_,X.get m3 oM,m4,oM,oM⟩⟩⟩⟩
   exact(((d7.then d8).then U).new W λn P=>.inr oM).new X λn P=>.inr oM
  ·refine PA.mk λv3 d8 v4 m1=>⟨ai.keep d8,PA.mk λv5 U v6 m2=>⟨ai.keep U,PS.mk m2 sM λv7 W v8 m3=>⟨W.mono λn _ l=>oM,aD (VP (l.a_,l.agg,l.field)) (W.get (U.get m1 id) oM) rfl λv9 X x0 m4=>⟨X.mono λn _ l=>oM,rfl,rfl,?_,X.get m3 oM,m4,oM,oM⟩⟩⟩⟩
   exact(((d7.then d8).then U).new W λn P=>.inr oM).new X λn P=>.inr oM
 rintro T _ ab _ _ p9 ⟨rfl,rfl,q0,q1,h8,z0,D1⟩;have k2:=k1.then q0;have d9:=b.af k2;obtain⟨da,dn,dc,h,x1,m5,q2⟩:=Gi d9 (l.a_,l.agg,l.field);rw[m5]at P;refine⟨p,0,rfl,_,ae d9.at' rfl,ar (cs:=[WP l.a_,WP l.agg,WP l.field]) (VP (l.a_,l.agg,l.field)) h8 ⟨da,dn,dc,λb1=>?_,λq3 x2=>?_⟩⟩
 ·have:=eR tDn kPl (d9.dn.af (aj.drewN p9 b1)) (l.a_,l.agg,l.field) false
  rw[x1]at this;exact this
 have g7:ai p9 q3:=x2.keep;have D2:=q2.len dC;have m6:=(q2.af g7).row (bytes:=96) dC cw;refine⟨λb1 a5 w'=>∃g:Nat,a5=g/\g<=dn/\b1=dn-g/\(∀x∈h.take g,nw ((V.decl.at l.a_).getD l.field.toNat ⟨0,0,false,[]⟩) x l=false)/\ai q3 w',⟨_,0,rfl,Qj _,rfl,sM,aj.refl _⟩,?_⟩;rintro b1 _ _ m7 ⟨g,rfl,hj,rfl,e0,e1⟩;have k3:=(q0.then g7).then e1;have h9:=e1.get (g7.get q1 id) id;have q4:=e1.get (g7.get h8 id) id;have i0:=k3.get c3 id;have c7:∀{r:Bool×(Int×Int)×bj},(match h.find? λx=>nw ((V.decl.at l.a_).getD l.field.toNat ⟨0,0,false,[]⟩) x l with
  |some x=>(true,aZ x,V)
  |none=>if xz (V.decl.at l.a_) (V.cellsOf l) l.field l.op l.arg≠0 then(true,(0,0),V)else
   (false,(0,0),{V with eW:=aJ V.eW (l.a_,l.agg) ⟨qm (((au V.eW (l.a_,l.agg)).getD ⟨0,[]⟩).version+1),Uo (V.decl.at l.a_) (V.cellsOf l) l.field l.op l.arg⟩,done:=aJ V.done (l.a_,l.agg,l.field) (h++[l])}))=r->V.try l=r:=λ{r} hr=>by
  rw[bj.sI,Zq (by simpa using h6),m5];exact hr
 refine al.dec (λD3=>?_) (λD4=>?_)
 ·have g8:g<h.length:=oM
  obtain⟨db,b5,es,x3,D5,D6,q5,xa,xn,xc,rfl,q6,q7⟩:=(m6.af e1).el g h[g] (Qq g8);have g9:h[g]? =some h[g]:=Qq g8;generalize h[g]=x at q5 q6 q7 g9;refine⟨db,b5,x3,oM,oM,bJ (es:=aF x xa xn xc) (k:=10) (bg x xa xn xc) rfl (λa5 I=>q5 a5 I) (PA.mk λD7 x4 D8 x5=>aD (bg x xa xn xc) x5 rfl λq8 x6 D9 x7=>λx8 x9=>?_)⟩;have m8:ai m7 q8:=x4.new x6 λn P=>.inr oM;have q9:ai q8 x8:=x9.keep;have J:=m8.then q9;have e2:=k3.then J;obtain⟨fb,fo,b6,b7,b8,y0,E0,E1,f7,f8,f9,h0,E2⟩:=GA (y.af e2) (i:=fi) (by rw[y.len];omega);have i1:=q9.get x7 id;refine⟨_,_,_,ae (J.get h9 id) rfl,_,ae (J.get i0 id) rfl,fb,fo,y0,l9,by rw[y.len];exact m0,?_⟩;rw[g6,Qx];refine bJ (es:=fB ((V.decl.at l.a_).getD fi ⟨0,0,false,[]⟩) b6 b7 b8) (k:=4) (gT _ _ _ _) rfl (λa5 I=>?_) (ar (bg x xa xn xc) i1 (ar (bg l d a c) (J.get i0 id) (PC.ok (BN (q6.af J) ((hr.af k1).af e2)) ?_)))
  ·match a5,I with
   |0,_=>exact f7
   |1,_=>exact f8
   |2,_=>exact f9
   |3,_=>exact h0
  rintro _ E3 ⟨rfl,m9⟩;have y1:(V.decl.at l.a_).getD fi ⟨0,0,false,[]⟩=(V.decl.at l.a_).getD l.field.toNat ⟨0,0,false,[]⟩:=by rw[g6,Qx]
  rw[y1];refine⟨_,rfl,al.mk (λhv=>λy2 r0=>?_) (λhv=>⟨_,?_,g+1,an oM,oM,rfl,λH j=>?_,(e1.then J).then m9⟩)⟩
  ·have r3:=(r0.keep (S:=λ_=>False)).get (m9.get i1 id) id
   refine⟨_,_,ae r3 rfl,ae r3 rfl,k (e2.then m9) (i:=aZ x) (c7 ?_) y2 r0 _ _ rfl rfl⟩;have hf:h.find? (λx=>nw ((V.decl.at l.a_).getD l.field.toNat ⟨0,0,false,[]⟩) x l)=some x:=by
    rw[List.find?_eq_some_iff_append];refine⟨hv,h.take g,h.drop (g+1),?_,λH j=>by rw[e0 H j];rfl⟩;rw[<-ZX g h]
    congr 1
    ·rw[ZX]
    ·rw[ZX,X4 g8]
     congr 1
     rw[Qq g8]at g9;exact XJ g9
   rw[hf]
  ·omega
  ·rw[Qw,g9]at j
   rcases Q6.1 j with j|j
   ·first|exact e0 H j|(rw[<-g6];exact e0 H j)
   ·simp at j;subst j;first|exact hv|(rw[<-g6];exact hv)
 ·have E4:g=dn:=oM
  rw[Qz oM]at e0;have n0:h.find? (λx=>nw ((V.decl.at l.a_).getD l.field.toNat ⟨0,0,false,[]⟩) x l)=none:=List.find?_eq_none.2 λx hx=>by rw[e0 x hx];simp
  rw[n0]at c7;intro Y i2;have c8:ai m7 Y:=i2.keep;have z2:Y.heap.size=m7.heap.size:=by rw[i2.heap]
  have k5:=k3.then c8;have e8:=k1.then k5;have z5:=k5.size;have z3:=k3.size;have b9:=b.af e8;have b2:=c8.get q4 id;have c0:=c8.get h9 id;have n1:=k5.get c3 id;have E5:=c8.size;have z4:=az b2;have z7:=az c0;obtain⟨s,n,m,o,z,e,Z,h3,h4,d4⟩:∃(s:ny) (n:Bool) (m:be) (o z:Nat),(au q.l1 (l.a_,l.agg)).getD (.agg #[WP 0,.slice none 0 0])= .agg #[WP s.version,.slice m o z]/\(au q.l1 (l.a_,l.agg)).isSome=n/\(au V.eW (l.a_,l.agg)).getD Ia=s/\(n=true->V.cellsOf l=s.cells)/\Row fy 32 Y (q.P F .YX) m o s.cells/\(n=false->V.cellsOf l=eh (V.decl.at l.a_)):=by
   unfold bj.cellsOf;rcases b9.YY.au (l.a_,l.agg)with⟨e,Z⟩|⟨f0,s,e,Z,m,o,z,rfl,hr⟩
   ·exact⟨Ia,false,none,0,0,by rw[e];rfl,by rw[e];rfl,by rw[Z];rfl,λb=>(by cases b),Row.nil _ _,λ_=>by rw[Z]⟩
   ·exact⟨s,true,m,o,z,by rw[e];rfl,by rw[e];rfl,by rw[Z];rfl,λ_=>by rw[Z],hr,λb=>(by cases b)⟩
  obtain⟨d4,h5⟩:=d4;refine⟨λn=>n=Y.heap.size,p,0,rfl,oM,_,ae b9.at' rfl,oM,_,_,ae b2 rfl,ae b2 rfl,s.version,m,o,z,n,λw' hk=>?_,PA.mk λz8 i3 z9 r4=>⟨ai.keep i3,PS.mk r4 sM λA0 i4 A1 r5=>PS.mk r5 sM λr6 i5 A2 i6=>⟨i4.then i5,?_⟩⟩⟩
  ·have:=eR tSt XL (b9.st.keep hk (by have:=f _ b.l1.1;omega)) (l.a_,l.agg) true
   rw[e,Z]at this;exact this
  have k6:ai Y r6:=(i3.new i4 λn P=>.inr oM).new i5 λn P=>.inr oM;refine⟨λw'=>ai Y w'/\∃m o z Dc,w'.heap[Y.heap.size]? =some (.cells #[WP s.version,.slice m o z] 42 (0,0))/\Row fy 32 w' Dc m o (V.cellsOf l)/\∀n,Dc n->n<w'.heap.size,?_,?_⟩
  ·refine al.not (al.mk (λy3=>⟨k6,m,o,z,_,i6,by rw[h4 y3];exact d4.af k6,λn P=>by have:=f n P.1;have:=k6.size;have:=e8.size;omega⟩) (λy4=>⟨_,_,_,ae (k6.get c0 id) rfl,PC.ok (IF (t:=V.decl.at l.a_) rfl (y.len) (by rw[y.len];omega)) ?_⟩))
   rintro _ A3 ⟨h1,n6,h2,G6,rfl,r7,k7,y5⟩;have z6:=k6.size;refine⟨_,_,_,rfl,PS.mk (k7.get i6 id) sM λA4 i7 A5 r8=>⟨(k6.then k7).new i7 λn P=>.inr oM,h1,n6,h2,G6,r8,?_,λn P=>by have:=r7.aE n P;omega⟩⟩;rw[h5 y4];exact(r7.keep i7 λn P l=>by have:=y5 n P;omega).row dC (by unfold aP eh;simp;omega)
  rintro _ A6 ⟨a3,m,o,z,Dc,f1,d4,y6⟩;have A7:=a3.size;have f2:=k5.then a3;have f3:=a3.get c0 id;have n3:=a3.get b2 id;have c2:=a3.get n1 id;refine⟨_,_,_,ae f3 rfl,_,_,_,ae f1 rfl,_,ae c2 rfl,_,ae c2 rfl,_,ae c2 rfl,PC.ok (IE c4 (y.af f2) d4) ?_⟩;rintro _ r9 ⟨rfl,a0⟩;have k8:=f2.then a0;refine⟨_,rfl,al.eu (λd6=>λs0 i8=>?_) (λy7=>λc9 s1=>?_)⟩
  ·have i9:=(i8.keep (S:=λ_=>False)).get (k8.get c1 id) id
   refine⟨_,_,ae i9 rfl,ae i9 rfl,k (i:=(0,0)) k8 (c7 ?_) s0 i8 _ _ rfl rfl⟩;simp only;rw[Zx d6]
  have f4:xz (V.decl.at l.a_) (V.cellsOf l) l.field l.op l.arg=0:=y7;have a1:ai r9 c9:=s1.keep;have k9:=k8.then a1;have n4:=(a3.then a0).then a1;have c6:=k1.then k9;have n8:=b.af c6;have b3:=k9.get c3 id;have d2:=(a0.then a1).get n3 id;have n9:=(a0.then a1).get f3 id;have f5:=(a0.then a1).get f1 id;have E6:=f _ b.l1.1;have E7:=f _ b.l2.1;have A8:=n4.size;have y8:=c6.size;have e9:¬p=q.r1:=λl=>by have e:=b.lp.2;rw[l,b.l1.2]at e;cases e
  have j0:¬p=q.r2:=λl=>by have e:=b.lp.2;rw[l,b.l2.2]at e;cases e
  have j1:¬q.r1=q.r2:=λl=>by have e:=b.l1.2;rw[l,b.l2.2]at e;cases e
  refine⟨λn=>n=q.r1,p,0,rfl,e9,_,ae n8.at' rfl,oM,_,_,ae d2 rfl,ae d2 rfl,oM,_,ae f5 rfl,_,_,_,ae n9 rfl,_,_,_,ae f5 rfl,_,ae b3 rfl,_,ae b3 rfl,_,ae b3 rfl,PC.ok (Uq c4 f4 he.arg oM (y.af k9) (λn P=>by have:=f n P.1;omega) (d4.af (a0.then a1)) λn P=>by have:=y6 n P;have:=(a0.then a1).size;omega) ?_⟩;rintro _ a6 ⟨s2,s5,s6,G,rfl,j2,a4,hG⟩;have e3:=c6.then a4;have t:=b.af e3;have A9:=a4.size;refine⟨_,_,_,rfl,ai.keep a4,dG (enc:=qg) (k:=(l.a_,l.agg)) tSt XL t.st λj3 s7 j4 B0=>⟨j4,λd0 j5=>?_⟩⟩;have j6:ai j3 d0:=j5.keep;have B1:d0.heap.size=j3.heap.size:=by rw[j5.heap]
  have A:aj (·=q.r1) a6 d0:=j4.af j6;have key:∀n,F n/\q.cls n= .done (l.a_,l.agg,l.field)->n≠p/\n≠q.r1/\n≠q.r2:=λn P=>
   ⟨λl=>(by have e:=b.lp.2;rw[<-l,P.2]at e;cases e),λl=>(by have e:=b.l1.2;rw[<-l,P.2]at e;cases e),λl=>(by have e:=b.l2.2;rw[<-l,P.2]at e;cases e)⟩
  have o0:=A.get t.at' e9;have o1:=A.get (a4.get d2 id) oM;have u:=A.get (a4.get b3 id) oM;have o2:=t.dn.keep A (λl=>j1 l.symm);have o3:=A.get (a4.get (k9.get c1 id) id) oM;obtain⟨a2,a7,e4,k4,s8,j7,j8⟩:=Gi t (l.a_,l.agg,l.field);rw[m5]at j7;subst j7;have o4:=j8.keep A λn P l=>(key n P).2.1 l;have B2:=A.size;refine⟨λn=>n=q.r2\/(F n/\q.cls n= .done (l.a_,l.agg,l.field)),p,0,rfl,λB=>B.elim j0 λB=>(key p B).1 rfl,_,ae o0 rfl,λB=>B.elim (λl=>oM) λB=>by have:=f _ B.1;omega,
   ar (cs:=[WP l.a_,WP l.agg,WP l.field]) (VP (l.a_,l.agg,l.field)) o1 ⟨_,_,_,_,_,_,_,_,_,_,_,_,ae u rfl,ae u rfl,ae u rfl,ae u rfl,ae u rfl,ae u rfl,ae u rfl,ae u rfl,ae u rfl,ae u rfl,
   PA.mk λB3 a8 B4 s9=>⟨ai.keep a8,HE (enc:=Du) (k:=(l.a_,l.agg,l.field)) tDn kPl (o2.af a8) λB5 x t2 o5 a9 B6=>⟨a2,a7,e4,x,by rw[s8],a9.mono λn _ l=>.inl l,?_⟩⟩⟩⟩
  have o6:=(o4.af a8).keep a9 λn P l=>(key n P).2.2 l;have t3:=a9.get s9 oM;have b4:∀n,aI a2=some n->F n/\q.cls n= .done (l.a_,l.agg,l.field):=λn P=>j8.self n P;have y9:=(((hr.af e3).keep A λn P l=>(C n P).2 (l▸b.l1.1)).af a8).keep a9 λn P l=>(C n P).2 (l▸b.l2.1);refine fV (c:=iz) o6 Ik t3 (D:=D) (x:=l) ⟨d,a,c,rfl,y9,he⟩ (λn P=>⟨by have:=(C n P).1;omega,λee=>(C n P).2 (b4 n ee).1⟩) cw (by unfold maxLen;omega) λa' L t4 F2 g0 b0 o7=>⟨_,_,_,rfl,b0.mono λn _ P=>.inr (b4 n P),?_⟩
  have t5:¬aI a2=some q.r2:=λee=>(key _ (b4 _ ee)).2.2 rfl;refine CH kPl (t2.keep b0 t5) (o5.keep b0 t5) λj9 t6 g1 B7=>⟨g1.mono λn _ l=>.inl l,λd1 l0=>?_⟩
  have g5:ai j9 d1:=l0.keep;have B8:d1.heap.size=j9.heap.size:=by rw[l0.heap]
  have B9:=b0.size;have kb:aj (λn=>n=q.r2\/(F n/\q.cls n= .done (l.a_,l.agg,l.field))) d0 d1:=((((ai.keep a8).then (a9.mono λn _ l=>.inl l)).then (b0.mono λn _ P=>.inr (b4 n P))).then (g1.mono λn _ l=>.inl l)).then (ai.keep g5);have e5:=kb.get o3 (λB=>B.elim (λl=>oM) λB=>by have:=f _ B.1;omega);refine⟨_,_,ae e5 rfl,ae e5 rfl,PS.mk e5 sM λC0 l3 C1 t7=>PS.mk t7 sM λd3 l4 C2 l5=>⟨_,_,ae l5 rfl,ae l5 rfl,?_⟩⟩;have M:aj (λn=>n=q.r1\/n=q.r2\/(F n/\q.cls n= .done (l.a_,l.agg,l.field))\/n=E.heap.size) a6 d3:=
   ((A.mono λn _ l=>.inl l).then (kb.mono λn _ P=>P.elim (λl=>.inr (.inl l)) λP=>.inr (.inr (.inl P)))).then ((l3.mono λn _ l=>.inr (.inr (.inr l))).then (l4.mono λn _ l=>.inr (.inr (.inr l))))
  have kc:aj (·=E.heap.size) d1 d3:=l3.then l4;have zT:=M.size;have I:=c7 (r:=(false,(0,0),{V with eW:=aJ V.eW (l.a_,l.agg) ⟨qm (((au V.eW (l.a_,l.agg)).getD ⟨0,[]⟩).version+1),Uo (V.decl.at l.a_) (V.cellsOf l) l.field l.op l.arg⟩,done:=aJ V.done (l.a_,l.agg,l.field) (h++[l])})) (by simp only;rw[Zq (by simpa using f4)]);have t8:=(bj.TY hV l).1;refine Ok.mk ⟨by rw[I],λn=>n<d3.heap.size/\(F n\/D n\/w.heap.size<=n),?_,?_,λn P=>P.2⟩
  rotate_left
  ·exact(ai.keep e3).trans M (λ_ _ b=>b) λn P hT=>by
    rcases hT with rfl|rfl|hT|rfl
    ·exact b.l1.1
    ·exact b.l2.1
    ·exact hT.1
    ·omega
  rw[I]at t8⊢;have t9:∀n,G n->c9.heap.size<=n/\n<a6.heap.size:=λn P=>⟨hG n P,j2.aE n P⟩
  have N:∀n,F n->n<d3.heap.size:=λn P=>by have:=f n P;omega
  classical
  have O:∀n,F n->(if F n then q.cls n else if c9.heap.size<=n/\n<a6.heap.size then KP.YX else KP.done (l.a_,l.agg,l.field))=q.cls n:=λn P=>Zx P;refine⟨t8,⟨q.ta,q.tn,q.tc,q.pa,q.pn,q.pc,q.ea,q.en,q.ec,q.r1,q.r2,aJ q.l1 (l.a_,l.agg) (.agg #[WP (qm (s.version+1)),.slice s2 s5 s6]),aJ q.l2 (l.a_,l.agg,l.field) (.slice a' (a7+1) L),λn=>if F n then q.cls n else if c9.heap.size<=n/\n<a6.heap.size then KP.YX else KP.done (l.a_,l.agg,l.field)⟩,?_,?_,?_,?_,?_,?_,?_,λn P=>P.1,⟨⟨N _ b.lp.1,.inl b.lp.1⟩,(O _ b.lp.1).trans b.lp.2⟩,⟨⟨N _ b.l1.1,.inl b.l1.1⟩,(O _ b.l1.1).trans b.l1.2⟩,⟨⟨N _ b.l2.1,.inl b.l2.1⟩,(O _ b.l2.1).trans b.l2.2⟩⟩
  ·exact M.get t.at' λB=>by
    rcases B with B|B|B|B
    ·exact e9 B
    ·exact j0 B
    ·exact(key _ B).1 rfl
    ·omega
  ·refine(t.TV.keep M λn P B=>?_).mono λn P=>⟨⟨N n P.1,.inl P.1⟩,(O n P.1).trans P.2⟩
   have d5:=f n P.1;rcases B with rfl|rfl|B|B
   ·have:=b.l1.2;rw[P.2]at this;cases this
   ·have:=b.l2.2;rw[P.2]at this;cases this
   ·have:=B.2;rw[P.2]at this;cases this
   ·omega
  ·refine(t.Q_.keep M λn P B=>?_).mono (λn P=>⟨⟨N n P.1,.inl P.1⟩,(O n P.1).trans P.2⟩) λn P=>P.1.1
   have d5:=f n P.1;rcases B with rfl|rfl|B|B
   ·have:=b.l1.2;rw[P.2]at this;cases this
   ·have:=b.l2.2;rw[P.2]at this;cases this
   ·have:=B.2;rw[P.2]at this;cases this
   ·omega
  ·exact((s7.af j6).keep kb λB=>B.elim j1 λB=>(key _ B).2.1 rfl).keep kc oM
  ·refine fT.aJ ?_ ?_
   ·refine⟨s2,s5,s6,by rw[h3],?_⟩
    refine((j2.row (bytes:=32) dC ?_).keep M λn P B=>?_).mono λn P=>?_
    ·rw[OG,hV.len];unfold aP;omega
    ·have d5:=t9 n P
     rcases B with rfl|rfl|B|B
     ·omega
     ·omega
     ·have:=f n B.1;omega
     ·omega
    ·have d5:=t9 n P
     refine⟨⟨oM,.inr (.inr oM)⟩,?_⟩;show(if F n then _ else _)=_;rw[Zq (λhf=>by have:=f n hf;omega),Zx d5]
   ·refine t.YY.mono λf0 l1 hu=>?_
    obtain⟨e6,n2,e7,rfl,hu⟩:=hu;refine⟨e6,n2,e7,rfl,(hu.keep M λn P B=>?_).mono λn P=>⟨⟨N n P.1,.inl P.1⟩,(O n P.1).trans P.2⟩⟩;have d5:=f n P.1;rcases B with rfl|rfl|B|B
    ·have:=b.l1.2;rw[P.2]at this;cases this
    ·have:=b.l2.2;rw[P.2]at this;cases this
    ·have:=B.2;rw[P.2]at this;cases this
    ·omega
  ·have:=(t6.af g5).keep kc (by show¬q.r2=E.heap.size;omega)
   rw[KQ]at this;exact this
  ·refine pO.aJ ?_ t.Zl ?_ t.dn.tidy
   ·refine⟨a',_,L,rfl,?_⟩
    have u0:∀n,F2 n->n<t4.heap.size/\n≠E.heap.size:=λn P=>by
     refine⟨g0.aE n P,λl=>?_⟩;rcases o7 n P with e|e|e
     ·have:=f n e.1;omega
     ·have:=(C n e).1;omega
     ·omega
    refine((g0.keep g1 λn P l=>?_).af g5|>.keep kc λn P l=>(u0 n P).2 l).mono (λn P=>?_) λn P=>P.1.1
    ·rcases o7 n P with e|e|e
     ·exact(key n e).2.2 l
     ·exact(C n e).2 (l▸b.l2.1)
     ·omega
    ·have:=(u0 n P).1
     have hz:=kc.size;rcases o7 n P with e|e|e
     ·exact⟨⟨N n e.1,.inl e.1⟩,(O n e.1).trans e.2⟩
     ·refine⟨⟨oM,.inr (.inl e)⟩,?_⟩
      show(if F n then _ else _)=_;rw[Zq (C n e).2,Zq (by have:=(C n e).1;omega)]
     ·refine⟨⟨oM,.inr (.inr oM)⟩,?_⟩
      show(if F n then _ else _)=_;rw[Zq (λhf=>by have:=f n hf;omega),Zq oM]
   ·intro l2 f0 l1 d6 hu
    obtain⟨e6,n2,e7,rfl,hu⟩:=hu;refine⟨e6,n2,e7,rfl,(hu.keep M λn P B=>?_).mono (λn P=>⟨⟨N n P.1,.inl P.1⟩,(O n P.1).trans P.2⟩) λn P=>P.1.1⟩;have d5:=f n P.1;rcases B with rfl|rfl|B|B
    ·have:=b.l1.2;rw[P.2]at this;cases this
    ·have:=b.l2.2;rw[P.2]at this;cases this
    ·have:=B.2;rw[P.2]at this
     simp only[KP.done.injEq]at this;exact d6 this
    ·omega
end
section
variable {w w':World} {p:Nat} {F T D:ac} {V:bj} {q:Gh}
abbrev Gk(n:cU)(P:be)(a b:Nat):Value:=.agg (iP n P a b).toArray
def Ii(L:cJ w p F V)(hT:fE w)(hr:Row aO 8 w D d a l.aM)(o:∀n,D n->n<w.heap.size/\¬F n)(he:l.Ok)(P:((au V.done (l.a_,l.agg,l.field)).getD []).length<=20000000)(M:V.entries.length<=20000000):
  bn 107 #[RK p,lg l d a c] w (Ok λW w'=>∃d a c G,W=Gk (V.add l).1 d a c/\Row aO 8 w' G d a l.aM/\∃X,cJ w' p X (V.add l).2/\cd F w X w'/\∀n,G n->w.heap.size<=n/\n<w'.heap.size/\¬X n):=by
 have Y:=L.aE;have h7:=Y _ L.self;refine zS (PA.mk λt e6 h8 d1=>PA.mk λh9 Z i0 e7=>?_);have k0:=e6.then Z;refine ar (bg l d a c) (Z.get d1 id) (PC.ok (pF (hr.af k0) λn P=>by have:=(o n P).1;omega) ?_);rintro _ i1 ⟨a6,n1,c1,G1,rfl,e8,u,N⟩;have a0:=k0.then N;refine cg (sO l a6 n1 c1) ⟨rfl,PC.ok (TX (L.af a0) (hT.af a0) e8 (λn P=>⟨(u n P).2,λi=>by have:=Y n i;have:=u n P;omega⟩) he P) ?_⟩;rintro _ v ⟨rfl,e,b8,O,Q⟩;have i2:=N.size;have i3:=O.size;have b0:∀n,e n->F n\/w.heap.size<=n:=λn P=>by
  rcases Q n P with b|b|b
  ·exact .inl b
  ·have:=u n b;exact .inr oM
  ·exact .inr oM
 have b1:aj F w v:=(ai.keep a0).then O;have R:∀{n:Nat},w.heap.size<=n->¬F n:=λ{n} P i=>by have:=Y n i;omega
 have d2:=O.get (N.get (Z.get d1 id) id) (R (Q4 _));have d3:=O.get (N.get e7 id) (R oM);refine⟨_,_,_,rfl,PA.mk λi4 e9 i5 f2=>PS.mk f2 sM λi6 g0 i7 g1=>PS.mk g1 sM λi8 g2 i9 g3=>λx b9=>?_⟩;have A:ai v x:=((e9.new g0 λn P=>.inr oM).new g2 λn P=>.inr oM).then b9.keep;have j0:x.heap.size=v.heap.size+1:=by rw[b9.heap];omega
 have a1:x.heap[v.heap.size]? =some (.cells #[WP (V.try l).2.1.1,WP (V.try l).2.1.2] 39 (0,0)):=(b9.keep (S:=λ_=>False)).get g3 id;have b2:=A.get d2 id;obtain⟨h6,q,f⟩:=b8.af A;have c4:=b8.self;have y:=b8.aE;have b3:=((hr.keep b1 λn P=>(o n P).2).af A)
 have a4:(V.try l).2.2.entries=V.entries:=by
  rw[bj.sI];split;rfl;split;rfl;split<;>rfl
 have j1:=f.Q_.len dC;have B:∀n,aI q.ea=some n->e n/\q.cls n= .Q_:=λn P=>f.Q_.self n P;have C:¬aI q.ea=some p:=λj=>by have b:=(B p j).2;rw[f.lp.2]at b;cases b
 refine⟨λn=>aI q.ea=some n,p,0,rfl,C,_,_,_,ae f.at' rfl,ar (bg l d a c) b2 ⟨λj=>by have:=y _ (B _ j).1;omega,_,_,ae a1 rfl,ae a1 rfl,PC.ok (pF b3 λn P=>by have:=(o n P).1;omega) ?_⟩⟩;rintro _ j2 ⟨a7,n2,c2,G2,rfl,g4,z,c5⟩;have j3:=c5.size;refine⟨_,_,_,_,_,_,_,_,_,_,_,_,rfl,ai.keep c5,PA.mk λd4 c6 j4 g5=>⟨ai.keep c6,?_⟩⟩;have a2:=c5.then c6;refine fV (c:=xu) (x:=⟨l,(V.try l).1,(V.try l).2.1⟩) (f.Q_.af a2) TP g5 (D:=G2) ⟨a7,n2,c2,rfl,g4.af c6,he⟩ (λn P=>⟨by have:=z n P;omega,λj=>by have:=y _ (B _ j).1;have:=z n P;omega⟩) (by rw[a4];unfold aP;omega) (by rw[a4];unfold maxLen;omega) λa' E d5 F2 b4 c7 c8=>⟨_,_,_,rfl,p,0,rfl,?_⟩
 have j5:=c7.size;have d6:=c7.get ((f.af a2).at') C;refine PS.mk d6 sM λH g6 j6 g7=>λr d7=>?_;have d8:ai H r:=d7.keep;have j7:r.heap.size=H.heap.size:=by rw[d7.heap]
 have a5:aj (·=p) d5 r:=g6.af d8;have k5:aj (λn=>aI q.ea=some n\/n=p) x r:=((ai.keep a2).then (c7.mono λn _ P=>.inl P)).then (a5.mono λn _ P=>.inr P);have I:aj e x r:=k5.mono λn _ P=>P.elim (λb=>(B n b).1) λb=>b▸c4;have c9:∀{n:Nat},v.heap.size<=n->¬e n:=λ{n} P i=>by have:=y n i;omega
 have g8:¬e w.heap.size:=λi=>by
  rcases Q _ i with b|b|b
  ·exact R (Q4 _) b
  ·have:=u _ b;omega
  ·omega
 have d0:¬e t.heap.size:=λi=>by
  rcases Q _ i with b|b|b
  ·exact R oM b
  ·have:=u _ b;omega
  ·omega
 have d9:=I.get b2 g8;have e0:=I.get (A.get d3 id) d0;have b5:=I.get a1 (c9 (Q4 _));have e1:∀n,D n->¬e n:=λn P i=>by
  rcases Q _ i with b|b|b
  ·exact(o n P).2 b
  ·have:=u _ b;have:=(o n P).1;omega
  ·have:=(o n P).1;omega
 have e2:=b3.keep I e1;have j8:=k5.size;refine⟨λn=>n=t.heap.size,ar (bg l d a c) d9 ⟨oM,_,_,ae b5 rfl,ae b5 rfl,PC.ok (pF e2 λn P=>by have:=(o n P).1;omega) ?_⟩⟩;rintro _ j9 ⟨a3,n3,c3,G3,rfl,g9,e3,J⟩;have k2:=J.size;refine⟨_,_,_,_,_,_,_,_,_,_,_,_,rfl,ai.keep J,aD (mJ ⟨l,(V.try l).1,(V.try l).2.1⟩ a3 n3 c3) (J.get e0 id) rfl λe4 S k3 h3=>⟨S,ar (mJ ⟨l,(V.try l).1,(V.try l).2.1⟩ a3 n3 c3) h3 (Ok.mk ⟨a3,n3,c3,G3,rfl,g9.keep S λn P j=>by have:=e3 n P;omega,λn=>n<H.heap.size/\(e n\/G2 n\/d4.heap.size<=n),?_,⟨?_,?_⟩,?_⟩)⟩⟩
 ·have h4:=(bj.AT (by
   have:V.OK:=L.1;exact this) l).1
  have T:aj (λn=>n=t.heap.size) r e4:=(ai.keep J).then S;have zc:=T.size;have h5:∀n,e n->n<H.heap.size:=λn P=>by have:=y n P;omega
  classical
  have e5:∀n,e n->(if e n then q.cls n else KP.Q_)=q.cls n:=λn P=>Zx P;have K:aj (λn=>(aI q.ea=some n\/n=p)\/n=t.heap.size) x e4:=(k5.mono λn _ P=>.inl P).then (T.mono λn _ P=>.inr P);have g:∀(m:KP) n,m≠.Q_->m≠.self->e n/\q.cls n=m->¬((aI q.ea=some n\/n=p)\/n=t.heap.size):=λm n b U P k=>by
   rcases k with(k|k)|k
   ·exact b (P.2.symm.trans (B n k).2)
   ·subst k;exact U (P.2.symm.trans f.lp.2)
   ·subst k;exact d0 P.1
  have h:∀(m:KP) n,e n/\q.cls n=m->((n<H.heap.size/\(e n\/G2 n\/d4.heap.size<=n))/\(if e n then q.cls n else KP.Q_)=m):=λm n P=>⟨⟨h5 n P.1,.inl P.1⟩,(e5 n P.1).trans P.2⟩
  refine⟨h4,⟨q.ta,q.tn,q.tc,q.pa,q.pn,q.pc,a',q.en+1,E,q.r1,q.r2,q.l1,q.l2,λn=>if e n then q.cls n else KP.Q_⟩,?_,?_,?_,?_,?_,?_,?_,λn P=>by have:=P.1;omega,h _ _ f.lp,h _ _ f.l1,h _ _ f.l2⟩
  ·exact T.get (d8.get g7 id) oM
  ·exact(f.TV.keep K λn P=>g _ n sM sM P).mono (h _)
  ·have M:∀n,F2 n->n<d5.heap.size/\n≠t.heap.size/\n≠p:=λn P=>by
    refine⟨b4.aE n P,λj=>?_,λj=>?_⟩
    ·rcases c8 n P with b|b|b
     ·exact d0 (j▸b.1)
     ·have:=z n b;omega
     ·omega
    ·rcases c8 n P with b|b|b
     ·have U:=b.2;rw[j,f.lp.2]at U;cases U
     ·have:=z n b;have:=y p c4;omega
     ·have:=y p c4;omega
   have:(V.add l).2.entries=(V.try l).2.2.entries++[⟨l,(V.try l).1,(V.try l).2.1⟩]:=rfl;rw[this];refine((b4.keep a5 λn P=>(M n P).2.2).keep T λn P=>(M n P).2.1).mono (λn P=>?_) λn P=>by have:=P.1.1;omega
   have h0:=(M n P).1;rcases c8 n P with b|b|b
   ·exact h _ n b
   ·have:=z n b
    refine⟨⟨oM,.inr (.inl b)⟩,?_⟩;show(if e n then _ else _)=_;rw[Zq (c9 oM)]
   ·refine⟨⟨oM,.inr (.inr b)⟩,?_⟩
    show(if e n then _ else _)=_;rw[Zq (c9 oM)]
  ·exact f.st.keep K (g _ _ sM sM f.l1)
  ·refine f.YY.mono λW a8 s=>?_
   obtain⟨x1,x2,x3,rfl,s⟩:=s;exact⟨x1,x2,x3,rfl,(s.keep K λn P=>g _ n sM sM P).mono (h _)⟩
  ·exact f.dn.keep K (g _ _ sM sM f.l2)
  ·refine f.Zl.mono λa9 W a8 s=>?_
   obtain⟨x1,x2,x3,rfl,s⟩:=s;exact⟨x1,x2,x3,rfl,(s.keep K λn P=>g _ n sM sM P).mono (h _) λn P=>by have:=P.1.1;omega⟩
 ·have k1:aj e v r:=(ai.keep A).then I
  exact((b1.new k1 b0).af J).new S λn P=>.inr oM
 ·intro n P
  rcases P.2 with b|b|b
  ·exact b0 n b
  ·have:=z n b;exact .inr oM
  ·exact .inr oM
 ·intro n P
  have:=e3 n P;refine⟨oM,oM,λk=>by have:=k.1;omega⟩
def Gm(c:aU):∀(a:List ah) (n:bj) (P:Int×Int×Int),(((au (a.foldl (λn e=>(n.add e).2) n).done P).getD []).length<=((au n.done P).getD []).length+a.length)/\(a.foldl (λn e=>(n.add e).2) n).entries.length=n.entries.length+a.length
 |[],n,P=>by simp
 |e::a,n,P=>by
  rw[List.foldl_cons];obtain⟨d,f⟩:=Gm c a (n.add e).2 P;have i:((au (n.add e).2.done P).getD []).length<=((au n.done P).getD []).length+1:=by
   show((au (n.try e).2.2.done P).getD []).length<=_;rw[bj.sI];split
   ·simp
   split
   ·simp
   split
   ·simp
   ·simp only
    rw[bE];split
    ·rename_i g
     have b:P=(e.a_,e.agg,e.field):=by simpa using g
     rw[b];simp
    ·simp
  have h:(n.add e).2.entries.length=n.entries.length+1:=by
   show((n.try e).2.2.entries++[_]).length=_;have:(n.try e).2.2.entries=n.entries:=by rw[bj.sI];split;rfl;split;rfl;split<;>rfl
   rw[this];simp
  refine⟨?_,by rw[f,h];simp;omega⟩;simp only[Xq]at d⊢;omega
def Ih{tn L q M i N:Nat}(O:dt R=0)(Q:fE w)(S:bt w D R d tn v q)(T:∀n,D n->n<w.heap.size)(r:Row iz 96 w f e6 i E)(s:∀n,f n->n<w.heap.size)(a:E.length<=20000000):
  bn 73 #[.agg #[.slice d tn L,.slice v q M],.slice e6 i N] w (Ok λU w'=>∃p F,U= RK p/\cJ w' p F (bU R E)/\(∀n,F n->w.heap.size<=n)/\ai w w'):=by
 refine LW (PA.mk λw1 t s1 u=>⟨_,_,_,_,_,_,ae u rfl,ae u rfl,PC.ok (Ir O (S.af t) λn a=>by have:=T n a;omega) ?_⟩);rintro _ w9 ⟨p,V,rfl,c,W,x⟩;have a9:=r.len;have X:=t.then x;have z9:=x.size;refine⟨_,rfl,λy o w'=>∃P:Nat,o=P/\P<=i/\y=i-P/\∃F,cJ w' p F (bU R (E.take P))/\(∀n,F n->w.heap.size<=n)/\ai w w',⟨_,0,rfl,Qj _,rfl,V,c,λn a=>by have:=W n a;omega,X⟩,?_⟩;rintro y _ _ Y ⟨P,rfl,hj,rfl,F,c,j,e⟩;refine al.dec (λb0=>?_) (λb1=>?_)
 ·have z:P<E.length:=oM
  obtain⟨n,Z,es,ha,a0,b2,A,k,l,m,rfl,B,C⟩:=(r.af e).el P E[P] (Qq z);have H:E[P]? =some E[P]:=Qq z;generalize E[P]=b at A B C H;refine⟨n,Z,ha,oM,oM,bJ (es:=aF b k l m) (k:=10) (bg b k l m) rfl (λo ht=>A o ht) (PA.mk λb3 a3 b4 a5=>aD (bg b k l m) a5 rfl λa6 a7 b5 a8=>ar (bg b k l m) a8 ?_)⟩;have g:ai Y a6:=a3.new a7 λn a=>.inr oM;have I:=Gm R (E.take P) (bj.new R) (b.a_,b.agg,b.field);have b6:=List.length_take_le P E;have b7:((au (bU R (E.take P)).done (b.a_,b.agg,b.field)).getD []).length<=0+(E.take P).length:=I.1;have b8:(bU R (E.take P)).entries.length=0+(E.take P).length:=I.2;have b9:=e.size;have c1:=g.size;refine PC.ok (Ii (c.af g) (Q.af (e.then g)) (B.af g) (λn a=>⟨by have:=s n a;omega,λhf=>by have:=j n hf;have:=s n a;omega⟩) C oM oM) ?_;rintro _ c2 ⟨a4,n4,c4,G,rfl,-,F',h,J,-⟩;refine cg (Rn _ a4 n4 c4) ⟨rfl,_,?_,P+1,an oM,oM,rfl,F',?_,λn a=>?_,(e.then g).new J.1 λn a=>.inr (j n a)⟩
  ·omega
  ·rw[Qw,H]
   unfold bU at h⊢;rw[List.foldl_append];exact h
  ·rcases J.2 n a with K|K
   ·exact j n K
   ·omega
 ·rw[Qz oM]at c
  exact Ok.mk ⟨p,F,rfl,c,j,e⟩
end
end Go.Proofs.YtkpomgifkloklaaGreatDoor
namespace Go.aw
open Go
variable{a4:List Value}{I a c d0 i p:Nat}{f:ac}{d v:be}{h:Program}{K j:Type}{g q:TypeId}{b:World}{z:bc}
def QT{cs:List j}{p m:Nat}{v:j}{vs:List j}(n:p<cs.length):(cs.set p v).take (p+1)++vs++(cs.set p v).drop (p+1+m)=cs.take p++(v::vs)++cs.drop (p+(m+1)):=by
 have P:(cs.set p v).take (p+1)=cs.take p++[v]:=by
  rw[Qw,Xj,Zx rfl,Zx n,List.take_set_of_le (Q4 _)];rfl
 have a:(cs.set p v).drop (p+1+m)=cs.drop (p+(m+1)):=by
  rw[List.drop_set_of_lt oM,show p+1+m=p+(m+1) by omega]
 rw[P,a];simp
def Dr{k:TypeId}{l:Nat}{f:be}{m c P g d:Nat}{o:bc}(p:f=some ⟨g,d,none⟩):∀(a:List Value) (n:Nat) {b:World} {cs:List Value},Own b k l f m c cs->P+n+a.length<=cs.length->
  (∀e,Own e k l f m c (cs.take (P+n)++a++cs.drop (P+n+a.length))->aj (λg=>aI f=some g) b e->e.heap.size=b.heap.size->o e)->ke ⟨g,d+P,none⟩ n a b o
 |[],n,b,cs,h,q,i=>i b (by simpa using h) (aj.refl _) rfl
 |v::a,n,b,cs,h,q,i=>by
  unfold ke;rw[Xq]at q;rw[Addr.add_lit,Nat.add_assoc];refine h.set (m:=P+n) oM p λe r s t=>Dr p a (n+1) r dg λu j w x=>i u ?_ (s.then w) (x.trans t);have:=QT (cs:=cs) (p:=P+n) (m:=a.length) (v:=v) (vs:=a) oM;rw[show P+(n+1)=P+n+1 from rfl]at j;rw[this]at j;exact j
def Own.store{j P m e c:Nat}{n cs:List Value}(l:Own b q a d j P cs)(o:d=some ⟨e,c,none⟩)(k:iQ h g n=true)(p:m+n.length<=cs.length)(i:∀f,Own f q a d j P (cs.take m++n++cs.drop (m+n.length))->aj (λe=>aI d=some e) b f->f.heap.size=b.heap.size->z f):oQ h g (.pointer (some ⟨e,c+m,none⟩)) (.agg n.toArray) b z:=by
 simp only[iQ,QK]at k;obtain⟨⟨⟨r,w⟩,s⟩,t⟩:=k;unfold oQ;have u:Nat.beq n.toArray.size (mT h g)=true:=by simpa using s
 have v:n.toArray.toList.all Value.oneCell'=true:=by simpa using t
 simp only[r,u,v];exact Dr o n 0 l (by simpa using p) i
def fw.store{n:fw j K}{m:List (Bx j)}(w:aS n.kO q f b d a c m){P:Bx j}(x:m[i]? =some P){B s:Nat}(M:d=some ⟨B,s,none⟩)(C:a4=(n.hd P.x v p I).take d0)(a1:n.o<d0)(a2:d0<=n.k)(N:iQ h g a4=true)(y:∀r,aS n.kO q f r d a c (m.set i ⟨P.x,v,p,I⟩)->aj (λe=>aI d=some e) b r->r.heap.size=b.heap.size->z r):oQ h g (.pointer (some ⟨B,s+i*n.k,none⟩)) (.agg a4.toArray) b z:=by
 obtain⟨cs,D,O,E,Q⟩:=w.body;have F:=cf.oN.1 E;have R:i<m.length:=(Qv.1 x).1;have H:cs.length=m.length*n.k:=by rw[F];exact mf (λe:Bx j=>n.hl e.x e.a e.n e.c) m
 have t:a4.length=d0:=by rw[C,Qy,n.hl];omega
 have S:(i+1)*n.k<=m.length*n.k:=Q0 _ R;rw[X7,Nat.one_mul]at S;refine O.store (m:=i*n.k) M N (by rw[H,t];omega) λr T U J=>y r ⟨⟨_,D,T,cf.oN.2 ?_,Q⟩,w.self,λe V=>by rw[J];exact w.aE e V⟩ U J;have W:=sf (enc:=λe:Bx j=>n.hd e.x e.a e.n e.c) (k:=n.k) (λe=>n.hl e.x e.a e.n e.c) (x':=⟨P.x,v,p,I⟩) (v:=.slice v p I) n.ho m i P x (n.fY ..).symm;rw[<-W,<-F,t];have X:∀k,k<n.k->cs[i*n.k+k]? =(n.hd P.x P.a P.n P.c)[k]? :=λk Y=>by
  obtain⟨Z,A,L⟩:=E.at x;have a0:Z=n.hd P.x P.a P.n P.c:=L.1;rw[<-a0];exact A k Y
 apply X3;intro k;have o:∀l,l<d0->a4[l]? =(n.hd P.x v p I)[l]? :=λl hu=>by rw[C,Xw,Zx hu]
 by_cases A:k<i*n.k
 ·rw[XQ,XW (by rw[Qy];omega),Xw,Zx A,Xj,Zq oM]
 ·by_cases L:k<i*n.k+d0
  ·rw[XQ,X8 (by rw[Qy];omega),XW (by rw[Qy,t];omega),Qy,o _ oM]
   obtain⟨l,rfl⟩:∃l,k=i*n.k+l:=⟨k-i*n.k,oM⟩
   rw[X2 oM,Nat.add_sub_cancel_left,Xj];have u:=n.fY P.x P.a P.n P.c v p I;split
   ·rename_i q
    have:l=n.o:=oM
    subst this;rw[Zx (by rw[H];have:=n.ho;omega),<-u,Xj,Zx rfl,Zx (by rw[n.hl];exact n.ho)]
   ·rename_i q
    rw[X l oM,<-u,Xj,Zq oM]
  ·rw[X8 (by rw[QX,Qy,t];omega),QX,Qy,t,List.getElem?_drop,Xj,Zq (by have:=n.ho;omega)]
   congr 1
   omega
end Go.aw
namespace Go.aw
open Go
variable{h:Program}{z:bc}
section
variable {α β:Type} {N:fw α β} {w9 w w':World} {a:be} {n c j:Nat} {L0:List (Bx α)} {e:TypeId}
def ef.step2{f:TypeId}(x:ef N e w9 a n c L0 j w){g:Nat}(o:a=Option.some ⟨g,0,none⟩){b:Bx α}(i:L0[j]? =Option.some b){a':be}{n' c':Nat}{G:ac}(y:Row N.ci N.ib w G a' n' (N.inner b.x))(A:N.ok b.x)(k:∀P,G P->w9.heap.size<=P/\P<w.heap.size)(U:g<w9.heap.size){hd:List Value}{r:Nat}(C:hd=(N.hd b.x a' n' c').take r)(E:N.o<r)(F:r<=N.k)(H:iQ h f hd=true)(l:∀w',ef N e w9 a n c L0 (j+1) w'->aj (λb=>aI a=Option.some b) w w'->w'.heap.size=w.heap.size->z w'):oQ h f (.pointer (Option.some ⟨g,0+j*N.k,none⟩)) (.agg hd.toArray) w z:=by
 obtain⟨I,J,K,L,M,p,O,q⟩:=x;have s:I[j]? =Option.some b:=by rw[p j (Q4 _)];exact i
 have Q:=(Qv.1 s).1;have t:∀P,G P->¬aI a=Option.some P:=λP B e=>by
  have:=(k P B).1;rw[o]at e;simp only[aI,Q1]at e;omega
 refine fw.store K s o C E F H λR S d m=>l R ⟨_,λP=>J P\/G P,S,?_,?_,?_,O.then d,?_⟩ d m
 ·rw[List.map_set,L]
  apply X3;intro f;rw[Xj];split
  ·rename_i e;subst e
   rw[Zx (by simpa using(Qv.1 i).1),Q9,i];rfl
  ·rfl
 ·intro u P V B
  rw[Xj]at B
  by_cases v:j=u
  ·subst v
   rw[Zx rfl,Zx Q]at B
   cases B
   exact⟨(y.keep d λP B=>t P B).mono λP B=>.inr B,A⟩
  ·rw[Zq v]at B
   exact((M u P oM B).keep d λP B=>(q P B).2.2).mono λP B=>.inl B
 ·intro T W
  rw[Xj,Zq oM,p T oM]
 ·rintro P (B|B)
  ·rw[m];exact q P B
  ·rw[m];exact⟨(k P B).1,(k P B).2,t P B⟩
end
end Go.aw
namespace Go.Proofs.YtkpomgifkloklaaGreatDoor
section
open Go.aw
variable{a c:Nat}{d:be}
section
variable {w w':World} {p:Nat} {F D:ac} {V:bj}
def Ay{n:List (Bx cU)}(b:Row Nx.kO 120 w D d a n)(e:∀P,D P->P<w.heap.size):bn 404 #[.slice d a c] w (Ok (qh Nx.kO 193 w n)):=
 il (xA TP dC b e λg w' f=>Ok.mk f)
def Gq(c:cJ w p F V)(a:V.entries.length<=20000000):bn 402 #[RK p] w (Ok (qh xu 193 w V.entries)):=by
 obtain⟨X,Y,c⟩:=c;have j:=c.Q_.row (bytes:=120) dC cw;have H:=j.eO;have Z:=j.len;obtain⟨e,v,I,J⟩:=fw.boxes j;have a8:e.length=V.entries.length:=by rw[<-v];simp
 refine tm ⟨p,0,rfl,_,_,_,ae c.at' rfl,PC.ok (Ay I λn a=>c.aE n a.1) ?_⟩;rintro _ x ⟨h,f,y,F9,rfl,i,z,K⟩;have k:∀n,aI h=some n->w.heap.size<=n:=λn a=>K n (i.self n a);have L:∀n,aI h=some n->n<x.heap.size:=λn a=>i.aE n (i.self n a);refine⟨_,_,_,rfl,λA M w'=>∃b:Nat,M=b/\b<=f/\A=f-b/\ef Nx 193 x h f y e b w',⟨_,0,rfl,Qj _,rfl,ef.start i.alone⟩,?_⟩;rintro A _ _ N ⟨b,rfl,hj,rfl,d⟩;have b0:=d.len;have l:ai w N:=z.new d.keep λn a=>.inr (k n a);have zk:=d.keep.size;refine al.dec (λb1=>?_) (λb2=>?_)
 ·obtain⟨g,rfl⟩:=d.some oM
  have b3:=k g rfl;have O:=L g rfl;have m:e[b]? =some e[b]:=Qq oM;have o:=J e[b] (XY oM);generalize e[b]=P at m o;refine⟨g,0,rfl,oM,oM,bJ (es:=aF P.x.ev P.a P.n P.c) (k:=10) (bg _ _ _ _) rfl (λq Q=>?_) (PC.ok (pF (e:=P.x.ev) (o.1.af l) λn a=>by have:=c.aE n a.1;have:=l.size;omega) ?_)⟩
  ·have R:=d.cell rfl m (by show f*13<=aP;unfold aP at H⊢;omega) q
   rw[Qx];have r:q<(aF P.x.ev P.a P.n P.c).length:=Q;rw[Qq r];refine R _ ?_;show(aF P.x.ev P.a P.n P.c++_)[q]? =_;rw[XW r,Qq r]
  rintro _ b4 ⟨s,t,u,G,rfl,S,B,T⟩;refine cg (sO P.x.ev s t u) ⟨rfl,g,0,rfl,oM,oM,?_⟩;rw[Qx];refine(d.af T).step2 (g:=g) rfl m (a':=s) (n':=t) (c':=u) (G:=G) S o.2 (λC E=>⟨by have:=B C E;omega,(B C E).2⟩) O (hd:=aF P.x.ev s t u) (r:=10) rfl dC dC (bg _ _ _ _) λb5 U b6 b7=>⟨_,?_,b+1,an oM,oM,rfl,U⟩
  omega
 ·obtain rfl:b=f:=oM
  obtain⟨Fd,hd,W⟩:=d.done;rw[v]at hd;have z9:=z.size;exact Ok.mk ⟨h,_,y,Fd,rfl,hd,l,λn a=>(W n a).elim (k n) λc=>oM⟩
end
end
section
open Go.aw
def bq(n:dX):List Value:=[WP n.group,WP n.value,WP n.count]
def dX.Ok(n:dX):Prop:=aH n.group/\aH n.value/\aH n.count
def Ib:kq dX:=flat 3 bq dX.Ok (λ_=>rfl) (λP a n=>by simp[bq]at n;rcases n with rfl|rfl|rfl<;>rfl)
def YH:ki LL 44 195 3 24:=⟨kR,kR,dC⟩
variable{Y o:Array Value}{A:FuncId}{e r:Int}{d8:dX}
section
variable {w w':World} {D:ac} {a:be} {n c:Nat} {l:List dX}
def CO(b:Row Ib 24 w D a n l)(d:∀P,D P->P<w.heap.size):bn 190 #[.slice a n c] w (Ok (qh Ib 195 w l)):=
 jX (xA YH dC b d λf w' e=>Ok.mk e)
def MW{most:Int}(b:Row Ib 24 w D a n l)(g:∀d,D d->d<w.heap.size)(u:n<=c):
  bn 135 #[.slice a n c,WP most] w (Ok λh w'=>∃e,h= .tuple #[e,.bool (decide ((max most 0).toNat<l.length))]/\qh Ib 195 w (l.take (max most 0).toNat) e w'):=by
 have v:=b.len;have i:(if 0>most then 0 else most)=max most 0:=by split<;>omega
 refine Eb ?_;rw[i];obtain⟨P,f⟩:∃P:Nat,(if(n:Int)<max most 0 then(n:Int)else max most 0)=P:=⟨(if(n:Int)<max most 0 then(n:Int)else max most 0).toNat,by split<;>omega⟩
 rw[f];have j:P=min n (max most 0).toNat:=by split at f<;>omega
 rw[Qx];refine⟨oM,oM,oM,PC.ok (CO (b.take (m:=P) oM) g) ?_⟩;rintro _ x ⟨k,m,o,p,rfl,q,r,s⟩;refine⟨_,_,_,rfl,Ok.mk ⟨_,?_,k,m,o,p,rfl,?_,r,s⟩⟩
 ·have:decide ((P:Int)<(n:Int))=decide ((max most 0).toNat<l.length):=by rw[decide_eq_decide];omega
  rw[this]
 ·have:l.take (max most 0).toNat=l.take P:=by
   rw[j]
   by_cases t:(max most 0).toNat<=n
   ·rw[Nat.min_eq_right t]
   ·rw[X2 oM,Qz oM,Qz oM]
  rw[this];exact q
def Kg{a k:Nat}(t:a<=20000000)(i:k<=a)(j:enters LL A=true)(l:∀(b:Nat) d,b<a->ai w d->bn A (o++ #[WP (b:Int)]++Y) d (Ok λe w'=>e= .bool (decide (k<=b))/\ai d w')):
  bn 133 #[WP (a:Int),.func (.func A) o Y] w (Ok λe w'=>e= WP (k:Int)/\ai w w'):=by
 refine BI ⟨λf b m w'=>∃n P:Nat,b=n/\m=P/\f=P-n/\n<=P/\P<=a/\n<=k/\k<=P/\ai w w',⟨_,0,a,rfl,rfl,rfl,oM,oM,oM,i,aj.refl _⟩,?_⟩;rintro f _ _ _ p ⟨n,P,rfl,rfl,rfl,u,q,r,s,c⟩;refine al.dec (λv=>?_) (λx=>?_)
 ·rw[Wu oM]
  refine⟨_,_,_,rfl,j,PC.ok (l _ p oM c) ?_⟩;rintro _ y ⟨rfl,g⟩;refine⟨_,rfl,al.not (al.dec (λh=>⟨_,?_,n,(n+P)/2,rfl,rfl,rfl,oM,oM,r,h,c.then g⟩) (λh=>⟨_,?_,(n+P)/2+1,P,an oM,rfl,rfl,oM,q,oM,s,c.then g⟩))⟩
  ·omega
  ·omega
 ·obtain rfl:n=k:=oM
  exact Ok.mk ⟨rfl,c⟩
def tU{P:Type}(n:P->Bool):∀l:List P,l.dropWhile n=l.drop (posOf n l)
 |[]=>rfl
 |x::l=>by
  unfold posOf;rw[List.dropWhile_cons,List.takeWhile_cons]
  cases a:n x
  ·simp
  ·simpa[posOf]using tU n l
abbrev vj(l:List dX):Prop:=l.Pairwise λa n=>a.group<n.group
def Vu{l:List dX}(b:vj l){n:Nat}(P:l[n]? =some d8):decide (posOf (λd8=>decide (d8.group<=e)) l<=n)=decide (d8.group>e):=by
 rw[decide_eq_decide]
 induction l generalizing n with
 |nil=>simp at P
 |cons c l d=>
  obtain⟨f,g⟩:=List.pairwise_cons.1 b;unfold posOf;rw[List.takeWhile_cons]
  by_cases a:c.group<=e
  ·rw[Zy a]
   cases n with
   |zero=>
    simp at P;subst P;simp;omega
   |succ n=>
    have:=d g (by simpa using P);unfold posOf at this;simp only[if_true,Xq];omega
  ·rw[Xv a]
   simp only[Bool.false_eq_true,if_false,ZQ,Qj,true_iff]
   cases n with
   |zero=>simp at P;subst P;omega
   |succ n=>
    have:=f d8 (QZ (by simpa using P));omega
def MX(j:Row Ib 24 w D a n l)(u:∀b,D b->b<w.heap.size)(v:n<=c)(x:vj l)(y:n<=20000000):
  bn 83 #[.slice a n c,WP e,WP r] w (Ok λz w'=>∃P,z= .tuple #[P,.bool (oP l e (max r 0).toNat).2]/\qh Ib 195 w (oP l e (max r 0).toNat).1 P w'):=by
 have Q:=j.len;have R:=AW (λP:dX=>decide (P.group<=e)) l;refine GV (PA.mk λS o T k=>PA.mk λU g V A=>⟨_,_,_,ae (g.get k id) rfl,PC.ok (Kg (k:=posOf (λP=>decide (P.group<=e)) l) y oM kR λh B W d=>?_) ?_⟩)
 ·have f:=(o.then g).then d
  obtain⟨b,C,X,E,i,-,F,rfl,-⟩:=(j.af f).el h l[h] (Qq oM);have H:l[h]? =some l[h]:=Qq oM;refine BD ⟨_,_,_,ae (d.get (g.get k id) id) rfl,b,C,E,oM,oM,_,by rw[Qx];exact F 0 dC,_,ae (d.get A id) rfl,λI J=>Ok.mk ⟨?_,J.keep⟩⟩;rw[Vu x H]
 ·rintro _ B ⟨rfl,d⟩
  have f:=(o.then g).then d;have m:=(j.af f).part (lo:=posOf (λP=>decide (P.group<=e)) l) (hi:=n) (cap:=c) oM (Q4 _) v;rw[Qz oM]at m;have K:Ib.k=3:=rfl;rw[K]at m;refine⟨_,rfl,_,_,_,ae (d.get (g.get k id) id) rfl,oM,oM,?_⟩;rw[Qx];refine PC.ok (MW (most:=r) m (λb i=>by have:=u b i;have:=f.size;omega) oM) ?_;rintro _ I ⟨_,rfl,p,q,s,L,rfl,M,N,O⟩;have t:l.dropWhile (λP=>decide (P.group<=e))=l.drop (posOf (λP=>decide (P.group<=e)) l):=tU _ l;refine⟨_,_,_,_,rfl,Ok.mk ⟨.slice p q s,?_,p,q,s,L,rfl,?_,f.then N,λb i=>by have:=O b i;have:=f.size;omega⟩⟩
  ·unfold oP;rw[t]
  ·unfold oP;rw[t];exact M
end
def tT(n:dX):Value:=.agg (bq n).toArray
def PO(n:dX):iQ LL 195 (bq n)=true:=kR
def Z_(n:dX):Uf (dv LL 195) (.agg (bq n).toArray)=true:=kR
structure mg (w:World) (p r:Nat) (R:dT):Prop where
 at':w.heap[p]? =some (.cells #[WP R.p.a_,WP R.p.field,WP R.p.group,WP R.p.Gj,WP R.p.make,.map (some r)] 314 (0,0))
 map:bX w r (Value.int .i64) (R.rows.map λx=>(x.1,tT x.2))
 ok:∀x∈R.rows,dX.Ok x.2/\x.2.group=x.1
variable{a c:Nat}{d:be}{l:ah}{d7:ko}
section
variable {w w':World} {p r:Nat} {R:dT} {T:ac}
def mg.keep(n:mg w p r R)(P:aj T w w')(a:¬T p)(b:¬T r):mg w' p r R:=⟨P.get n.at' a,n.map.keep P b,n.ok⟩
def mg.af(n:mg w p r R)(P:ai w w'):mg w' p r R:=n.keep P id id
def Ru:bn 148 #[.agg (oS d7).toArray] w (Ok λa w'=>∃p r,a= RK p/\mg w' p r ⟨d7,[]⟩/\w.heap.size<=p/\w.heap.size<=r/\p<w'.heap.size/\r<w'.heap.size/\ai w w'):=by
 refine LY (PA.mk λb c i n=>⟨_,_,_,_,_,ae n rfl,ae n rfl,ae n rfl,ae n rfl,ae n rfl,PA.mk λd e j f=>PA.mk λk P l g=>Ok.mk ⟨d.heap.size,b.heap.size,rfl,⟨g,bX.new (P.get f id),λd7 h=>by cases h⟩,oM,oM,oM,oM,(c.then e).then P⟩⟩)
def HH(n:ko)(a:ah)(P:Int):Option Int:=if n.group=1 then some a.agg else if n.group=2 then some a.arg else if n.group=3 then some P else none
def MY(h:mg w p r R):bn 276 #[RK p,lg l d a c,WP e] w (Ok λi w'=>i= .tuple #[WP ((HH R.p l e).getD 0),.bool (HH R.p l e).isSome]/\ai w w'):=by
 refine vU (PA.mk λj n k g=>⟨p,0,rfl,_,ae (h.af n).at' rfl,al.eT (λP=>⟨_,ae g rfl,Ok.mk ⟨?_,n⟩⟩) (λP=>al.eT (λb=>⟨_,ae g rfl,Ok.mk ⟨?_,n⟩⟩) (λb=>al.eT (λf=>Ok.mk ⟨?_,n⟩) (λf=>Ok.mk ⟨?_,n⟩)))⟩)
 ·unfold HH;rw[Zx P];rfl
 ·unfold HH;rw[Zq P,Zx b];rfl
 ·unfold HH;rw[Zq P,Zq b,Zx f];rfl
 ·unfold HH;rw[Zq P,Zq b,Zq f];rfl
def Qm(h:mg w p r R){arg:Int}:bn 277 #[RK p,.agg (bq d8).toArray,WP arg] w (Ok λk w'=>k= WP (mV R.p d8 arg)/\ai w w'):=by
 refine xZ (PA.mk λl a o e=>?_);have b:=(h.af a).at';refine⟨_,ae e rfl,p,0,rfl,_,ae b rfl,al.eT (λc=>⟨_,ae e rfl,Ok.mk ⟨?_,a⟩⟩) (λc=>⟨p,0,rfl,_,ae b rfl,al.eT (λd=>⟨_,ae e rfl,Ok.mk ⟨?_,a⟩⟩) (λd=>⟨λj w'=>j=decide (R.p.make=5\/d8.count=1/\(R.p.make=3\/R.p.make=4))/\l=w',?_,?_⟩)⟩)⟩
 ·unfold mV;rw[Zx c]
 ·unfold mV;rw[Zq c,Zx d]
 ·refine⟨p,0,rfl,_,ae b rfl,al.eT (λf=>⟨?_,rfl⟩) (λf=>al.eT (λi=>⟨p,0,rfl,_,ae b rfl,al.eT (λn=>⟨?_,rfl⟩) (λn=>⟨p,0,rfl,_,ae b rfl,?_,rfl⟩)⟩) (λi=>⟨?_,rfl⟩))⟩
  ·rw[Zy (.inl f)];simpa using f
  ·rw[Zy (.inr ⟨i,.inl n⟩)]
  ·by_cases P:R.p.make=4
   ·rw[Zy (.inr ⟨i,.inr P⟩)];simpa using P
   ·rw[Xv (by rintro(h|⟨-,h|h⟩);exact f h;exact n h;exact P h)];simpa using P
  ·rw[Xv (by rintro(h|⟨h,-⟩);exact f h;exact i h)]
 ·rintro j _ _ ⟨m,rfl⟩
  subst m;refine al.dec (λg=>Ok.mk ⟨?_,a⟩) (λg=>⟨p,0,rfl,_,ae b rfl,al.eT (λn=>⟨_,ae e rfl,Ok.mk ⟨?_,a⟩⟩) (λn=>⟨p,0,rfl,_,ae b rfl,al.eT (λP=>⟨_,ae e rfl,Ok.mk ⟨?_,a⟩⟩) (λP=>Ok.mk ⟨?_,a⟩)⟩)⟩)
  ·unfold mV;rw[Zq c,Zq d,Zx g]
  ·have:(if arg<d8.value then arg else d8.value)=min d8.value arg:=by split<;>omega
   unfold mV;rw[Zq c,Zq d,Zq g,Zx n,<-this]
  ·have:(if arg>d8.value then arg else d8.value)=max d8.value arg:=by split<;>omega
   unfold mV;rw[Zq c,Zq d,Zq g,Zq n,Zx P,<-this]
  ·unfold mV;rw[Zq c,Zq d,Zq g,Zq n,Zq P]

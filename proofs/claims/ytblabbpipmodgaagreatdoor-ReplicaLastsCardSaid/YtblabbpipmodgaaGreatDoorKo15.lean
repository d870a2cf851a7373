import Derived.Lib.AppendZerosOnto
import Derived.Lib.Overlaps
import Derived.Test.YtblabbpipmodgaaGreatDoorKo14
set_option maxHeartbeats 4000000
set_option linter.all false
set_option maxRecDepth 20000
open Go.IntKind renaming wrap→XH
namespace Go.au
open Go
def FE(i:Program)(f tn:TypeId)(j:Nat)(A q:FuncId)(h:XU)(b c:Nat)(P:Int)(n:XU)(a o:Nat)(d:World)(g:XR):Prop:=
 ((0:Int)<=P/\(P:Int)<=((b:Nat):Int)/\al ((((a:Nat):Int):Int)==0) (g (.returned (.slice h b c)) d) (al ((P:Int)==((b:Nat):Int)) (aG i (Builtin.append_ #[f,f] f #[.slice h b c,.slice n a o]) d (λB C=>∃(r:XU) (s:Nat) (t:Nat),B= .slice r s t/\g (.returned (.slice r s t)) C) (λe d=>g (.panicked [{v:=e,recovered:=false}]) d)) (aG i (Builtin.cap_ #[f] tn #[.slice h b c]) d (λE u=>∃(v:Int),E= QH v/\al (decide (((XH .i64 (((b:Nat):Int)+((a:Nat):Int))):Int)>v)) (((0:Int)<=P/\(P:Int)<=((c:Nat):Int)/\aG i (Builtin.append_ #[f,tn] f #[.slice h (Int.toNat P) c,QH (XH .i64 ((XH .i64 (((b:Nat):Int)+((a:Nat):Int)))-P))]) u (λF H=>∃(p:XU) (l:Nat) (m:Nat),F= .slice p l m/\((0:Int)<=P/\(P:Int)<=((l:Nat):Int)/\aG i (Builtin.copy_ #[f,f] tn #[.slice (cE p (Int.toNat P) m j) (l-Int.toNat P) (m-Int.toNat P),.slice n a o]) H (λI J=>∃(K:Int),I= QH K/\(∀w,bY J w->((0:Int)<=(XH .i64 (P+((a:Nat):Int)))/\((XH .i64 (P+((a:Nat):Int))):Int)<=((l:Nat):Int)/\((0:Int)<=P/\(P:Int)<=((b:Nat):Int)/\aG i (Builtin.copy_ #[f,f] tn #[.slice (cE p (Int.toNat (XH .i64 (P+((a:Nat):Int)))) m j) (l-Int.toNat (XH .i64 (P+((a:Nat):Int)))) (m-Int.toNat (XH .i64 (P+((a:Nat):Int)))),.slice (cE h (Int.toNat P) c j) (b-Int.toNat P) (c-Int.toNat P)]) w (λL M=>∃(N:Int),L= QH N/\g (.returned (.slice p l m)) M) (λe k=>∀(_:cg) (_:cX),g (.panicked [{v:=e,recovered:=false}]) k))))) (λe d=>g (.panicked [{v:=e,recovered:=false}]) d))) (λe d=>g (.panicked [{v:=e,recovered:=false}]) d))) (((0:Int)<=(XH .i64 (((b:Nat):Int)+((a:Nat):Int)))/\((XH .i64 (((b:Nat):Int)+((a:Nat):Int))):Int)<=((c:Nat):Int)/\((0:Int)<=(XH .i64 (P+((a:Nat):Int)))/\((XH .i64 (P+((a:Nat):Int))):Int)<=(((Int.toNat (XH .i64 (((b:Nat):Int)+((a:Nat):Int)))):Nat):Int)/\PR i A #[.slice n a o,.slice (cE h (Int.toNat (XH .i64 (P+((a:Nat):Int)))) c j) ((Int.toNat (XH .i64 (((b:Nat):Int)+((a:Nat):Int))))-Int.toNat (XH .i64 (P+((a:Nat):Int)))) (c-Int.toNat (XH .i64 (P+((a:Nat):Int))))] u (λO x=>∃(y:Bool),O= .bool y/\al (!y) ((∀z,bY x z->((0:Int)<=(XH .i64 (P+((a:Nat):Int)))/\((XH .i64 (P+((a:Nat):Int))):Int)<=(((Int.toNat (XH .i64 (((b:Nat):Int)+((a:Nat):Int)))):Nat):Int)/\((0:Int)<=P/\(P:Int)<=(((Int.toNat (XH .i64 (((b:Nat):Int)+((a:Nat):Int)))):Nat):Int)/\aG i (Builtin.copy_ #[f,f] tn #[.slice (cE h (Int.toNat (XH .i64 (P+((a:Nat):Int)))) c j) ((Int.toNat (XH .i64 (((b:Nat):Int)+((a:Nat):Int))))-Int.toNat (XH .i64 (P+((a:Nat):Int)))) (c-Int.toNat (XH .i64 (P+((a:Nat):Int)))),.slice (cE h (Int.toNat P) c j) ((Int.toNat (XH .i64 (((b:Nat):Int)+((a:Nat):Int))))-Int.toNat P) (c-Int.toNat P)]) z (λQ R=>∃(S:Int),Q= QH S/\((0:Int)<=P/\(P:Int)<=(((Int.toNat (XH .i64 (((b:Nat):Int)+((a:Nat):Int)))):Nat):Int)/\aG i (Builtin.copy_ #[f,f] tn #[.slice (cE h (Int.toNat P) c j) ((Int.toNat (XH .i64 (((b:Nat):Int)+((a:Nat):Int))))-Int.toNat P) (c-Int.toNat P),.slice n a o]) R (λT U=>∃(V:Int),T= QH V/\g (.returned (.slice h (Int.toNat (XH .i64 (((b:Nat):Int)+((a:Nat):Int)))) c)) U) (λe d=>g (.panicked [{v:=e,recovered:=false}]) d))) (λe k=>∀(_:cg) (_:cX),g (.panicked [{v:=e,recovered:=false}]) k))))) (((0:Int)<=((b:Nat):Int)/\(((b:Nat):Int):Int)<=(((Int.toNat (XH .i64 (((b:Nat):Int)+((a:Nat):Int)))):Nat):Int)/\aG i (Builtin.copy_ #[f,f] tn #[.slice (cE h (Int.toNat ((b:Nat):Int)) c j) ((Int.toNat (XH .i64 (((b:Nat):Int)+((a:Nat):Int))))-Int.toNat ((b:Nat):Int)) (c-Int.toNat ((b:Nat):Int)),.slice n a o]) x (λW X=>∃(Y:Int),W= QH Y/\((0:Int)<=P/\(P:Int)<=(((Int.toNat (XH .i64 (((b:Nat):Int)+((a:Nat):Int)))):Nat):Int)/\PC i q #[.slice (cE h (Int.toNat P) c j) ((Int.toNat (XH .i64 (((b:Nat):Int)+((a:Nat):Int))))-Int.toNat P) (c-Int.toNat P),QH ((a:Nat):Int)] X (λZ b8=>Z= .tuple #[]/\g (.returned (.slice h (Int.toNat (XH .i64 (((b:Nat):Int)+((a:Nat):Int)))) c)) b8) (λch d=>g (.panicked ch) d))) (λe d=>g (.panicked [{v:=e,recovered:=false}]) d)))) (λe d=>g (.panicked [{v:=e,recovered:=false}]) d))))) (λe d=>g (.panicked [{v:=e,recovered:=false}]) d))))
def FG(m:Program)(f p:TypeId)(n:Nat)(i:XU)(P c:Nat)(d a:Int)(g:World)(h:XR):Prop:=
 ((0:Int)<=d/\(d:Int)<=a/\(a:Int)<=((P:Nat):Int)/\(((P:Nat):Int):Int)<=((c:Nat):Int)/\al ((d:Int)==a) (h (.returned (.slice i P c)) g) ((∀o,bY g o->((0:Int)<=d/\(d:Int)<=((c:Nat):Int)/\((0:Int)<=a/\(a:Int)<=((P:Nat):Int)/\aG m (Builtin.append_ #[f,f] f #[.slice i (Int.toNat d) c,.slice (cE i (Int.toNat a) c n) (P-Int.toNat a) (c-Int.toNat a)]) o (λq r=>∃(j:XU) (b:Nat) (e:Nat),q= .slice j b e/\((0:Int)<=((b:Nat):Int)/\(((b:Nat):Int):Int)<=((P:Nat):Int)/\(((P:Nat):Int):Int)<=((e:Nat):Int)/\aG m (Builtin.clear_ #[f] p #[.slice (cE j (Int.toNat ((b:Nat):Int)) e n) (Int.toNat ((P:Nat):Int)-Int.toNat ((b:Nat):Int)) (e-Int.toNat ((b:Nat):Int))]) r (λt s=>h (.returned (.slice j b e)) s) (λk g=>h (.panicked [{v:=k,recovered:=false}]) g))) (λk l=>∀(_:cg) (_:cX),h (.panicked [{v:=k,recovered:=false}]) l))))))
def pF(P:World)(a:Nat)(b:Array Value):aj (·=a) P (P.setRow a b):=by
 refine⟨rfl,rfl,rfl,by simp[World.setRow],λc f d=>?_⟩;show(P.heap.modify a _)[c]? =_;rw[Array.getElem?_modify,Zq (λe=>d e.symm)]
variable{c8:Addr}{o:Array Value}{z:XR}{a3 e1:List Value}{I a c j p:Nat}{f:XM}{d:XU}{h:Program}{i:Type}{A b7 g n:TypeId}{m r:XN}{b:World}
def Ky{k u v:TypeId}{l bytes:Nat}(s:jx h k u l bytes){a e c f P d n:Nat}{cs:List Value}(p:b.heap[a]? =some (.cells o g (0,0)))(w:Nat.min P c=n)(x:cs.length=n*l)(y:∀t i,cs[t]? =some i->b.cell? (c8.add t)=some i)(z:e+cs.length<=o.size)(A:∀i∈cs,i.oneCell'=true)(q:∀j,j.heap[a]? =some (.cells (o.toList.take e++cs++o.toList.drop (e+cs.length)).toArray g (0,0))->aj (·=a) b j->j.heap.size=b.heap.size->m (QH (n:Int)) j):
  aG h (Builtin.copy_ #[k,k] v #[.slice (some ⟨a,e,none⟩) c f,.slice (some c8) P d]) b m r:=by
 obtain⟨H,I,B,J,C,K,L⟩:=jx.info s;have E:=run_firstCells_some (P:=h) b l n c8 P d cs x y;have F:=run_storeCells_at h a e g cs 0 o b p (by simpa using z) A;refine aG.mk (w':=b.setRow a (o.toList.take e++cs++o.toList.drop (e+cs.length)).toArray) ?_ (q _ (setRow_heap b a o _ g (0,0) p) (pF b a _) ?_)
 ·simp[Builtin.copy_,run_underlying s.under,Builtin.lenOf,sizeOf,typeInfo,B,C,w,E,F,goInt]
 ·have M:=aB p
  simp[World.setRow]
def bR.drop{d:Type}{a:jK d}{e:World}{D:XM}:∀{b:List d} {cs:List Value},bR a e D b cs->∀(P:Nat),bR a e D (b.drop P) (cs.drop (P*a.k))
 |b,cs,c,0=>by simpa using c
 |[],cs,c,P+1=>by
  have:cs=[]:=c;subst this;simp[bR]
 |x::b,cs,⟨j,k,g,h,i⟩,P+1=>by
  subst g;have f:=a.len h;rw[List.drop_succ_cons,X7,Nat.one_mul,Nat.add_comm,<-List.drop_drop,<-f,List.drop_left];rw[f];exact bR.drop i P
def fC(P:p≠j):cE (some ⟨a,c,none⟩) j p I=some ⟨a,c+j*I,none⟩:=by
 unfold cE;rw[Zq P];simp[Addr.add_lit]
def L_{cs news ROW:List Value}{A B C k:Nat}(e:cs.length=B)(f:news.length=k)(g:A<=B)(h:ROW.length=C)(i:B+k<=C)(b:ROW.take A=cs.take A)(P:a3=ROW.take A++news++ROW.drop (A+k))(a:e1=a3.take (A+k)++cs.drop A++a3.drop (A+k+(B-A))):a3.length=C/\e1.length=C/\e1.take (B+k)=cs.take A++news++cs.drop A:=by
 have c:a3.length=C:=by rw[P];simp;omega
 have d:a3.take (A+k)=cs.take A++news:=by
  rw[P,b,List.take_append_of_le_length bc,Qz bc]
 refine⟨c,by rw[a];simp;omega,?_⟩;rw[a,d,List.take_append_of_le_length bc,Qz bc]
def Jg{cs news cur:List Value}{A B C k:Nat}(f:cs.length=B)(g:news.length=k)(h:A<=B)(i:cur.length=C)(j:B+k<=C)(b:cur.take A=cs.take A)(P:a3=cur.take (A+k)++cs.drop A++cur.drop (A+k+(B-A)))(a:e1=a3.take A++news++a3.drop (A+k)):a3.length=C/\e1.length=C/\e1.take (B+k)=cs.take A++news++cs.drop A:=by
 have c:a3.length=C:=by rw[P];simp;omega
 have d:a3.take A=cs.take A:=by
  rw[P,XQ,List.take_append_of_le_length bc,List.take_take,X2 oM,b]
 have e:a3.drop (A+k)=cs.drop A++cur.drop (A+k+(B-A)):=by
  rw[P,XQ,List.drop_left' bc]
 refine⟨c,by rw[a];simp;omega,?_⟩;rw[a,d,e,<-XQ,List.take_append_of_le_length bc,Qz bc]
def FE.own{x tn c:TypeId}{k bytes:Nat}{ov V:FuncId}(q:jx h x c k bytes)(b2:h.underlying tn=some (.int .i64))(b3:∀t b,(callFunc ov t).run h b=((Extern.SlicesOverlaps.overlaps #[x,x] #[g] t).run h b).andThen λl j=>.ok (.value l) j){n a P y:Nat}{cs:List Value}(A:Own b c k d n a cs)(hi:P<=n)(B:b.heap[y]? =some (.cells o c (0,0)))(I:o.size=k)(W:∀l∈o.toList,l.oneCell'=true)(h1:∀l∈cs,l.oneCell'=true)(b4:aI d≠some y)(N:(n+1)*bytes<=aS)(hm:n+1<=maxLen)(X:∀E u j,Own j c k E (n+1) u (cs.take (P*k)++o.toList++cs.drop (P*k))->aj (λF=>aI d=some F) b j->(aI E=aI d\/aI E=some b.heap.size)->z (.returned (.slice E (n+1) u)) j):
  FE h x tn k ov V d n a P (XL y) 1 1 b z:=by
 have hk:=q.pos;obtain⟨O,Y,a6,hz,hs,a7,b5⟩:=jx.info q;have v:=A.length;have d5:=Own.N_ A;unfold aS at N;unfold maxLen at hm;have b6:XH .i64 ((n:Int)+((1:Nat):Int))=((n+1:Nat):Int):=by rw[wrap_i64 bb];simp
 have b7:XH .i64 ((P:Int)+((1:Nat):Int))=((P+1:Nat):Int):=by rw[wrap_i64 bb];simp
 unfold FE;rw[b6,b7];simp only[Qx];refine⟨oM,oM,al.ff rfl (al.dU (λhe=>?_) (λd6=>?_))⟩
 ·
  obtain rfl:P=n:=oM
  refine ye q (news:=o.toList) A B (by rw[Qz (by simp[I])]) (by simp[I]) W ba (by unfold maxLen;omega) λE c' J b8 b9 c0=>⟨_,_,_,rfl,X E c' J ?_ (b9.mono λF _ c=>c.symm) c0⟩
  rw[Qz oM,List.drop_of_length_le oM,List.append_nil];exact b8
 have c4:P<n:=oM
 rcases A.cases with⟨_,h0,_,_⟩|⟨w,cur,rfl,H,c5,Z,a1⟩
 ·omega
 have a5:w≠y:=λc=>b4 (by rw[c];rfl);have a2:P*k<=n*k:=Q0 _ hi;have d7:(P+1)*k<=n*k:=Q0 _ c4;have e1:(P+1)*k=P*k+k:=by rw[X7,Nat.one_mul]
 have e2:(n+1)*k=n*k+k:=by rw[X7,Nat.one_mul]
 have d8:n*k<=a*k:=Q0 _ c5;have c7:∀i,i<=n*k->cur.toList.take i=cs.take i:=λi e=>by rw[<-a1,List.take_take,X2 e]
 have a0:∀j:World,j.heap[w]? =some (.cells cur c (0,0))->∀i m,cs[i]? =some m->j.cell? ⟨w,i,none⟩=some m:=λj C i m e=>by
  refine ae C ?_;rw[<-a1,Xw]at e;split at e
  ·simpa using e
  ·cases e
 have p:(cs.drop (P*k)).length=(n-P)*k:=by rw[XZ,v,Nat.sub_mul]
 have s:o.toList.length=1*k:=by simp[I]
 have a3:a<=maxLen:=by
  obtain⟨_,cp,_,Q,_,_,_,a3,_⟩:=A.row.2.resolve_left (by rintro⟨A,_⟩;cases A);simp only[XX]at Q;rw[Q.2.2];exact a3
 have a8:∀j:World,j.heap[y]? =some (.cells o c (0,0))->∀i m,o.toList[i]? =some m->j.cell? ((⟨y,0,none⟩:Addr).add i)=some m:=λj C i m e=>by
  rw[Addr.add_lit,Xz];exact ae C (by simpa using e)
 refine aG.mk (v:=QH (a:Int)) (w':=b) (by simp[Builtin.cap_,run_underlying q.under,goInt]) ⟨_,rfl,al.dec (λd9=>?_) (λe0=>?_)⟩
 ·
  have a4:a=n:=oM
  have c8:XH .i64 (((n+1:Nat):Int)-(P:Int))=((n+1-P:Nat):Int):=by rw[wrap_i64 bb];omega
  rw[c8];have c6:(Builtin.firstCells O.size P (.slice (XL w) P a)).run h b.drew= .ok (cs.take (P*k)).toArray b.drew:=by
   rw[hs];exact run_firstCells_some b.drew k P ⟨w,0,none⟩ P a (cs.take (P*k)) (by rw[Qy,v];omega) (λi l e=>by
    rw[Addr.add_lit,Xz];rw[Xw]at e;split at e
    ·exact a0 b.drew H i l e
    ·cases e)
  have R:=Lib.run_append_grow_zeros (P:=h) b x tn x c O Y .i64 .i64 q.under b2 a6 hz (XL w) P a (cs.take (P*k)) c6 (n+1-P) oM oM oM oM (by rw[a7];have:(n+1-P)*bytes<=(n+1)*bytes:=Q0 _ oM;omega)
   (by rw[a7,show P+(n+1-P)=n+1 by omega];exact growslice_fits oM N)
  rw[show P+(n+1-P)=n+1 by omega]at R;have hG:=grownCap_ge b (n+1) a c;have b0:=grownCap_le_maxLen b (n+1) a c (by unfold maxLen;omega);generalize grownCap b (n+1) a c=G at R hG b0;have e3:(n+1)*k<=G*k:=Q0 _ hG;generalize a9:(cs.take (P*k)).toArray++Builtin.zeroCells Y.cells (n+1-P)++Builtin.zeroCells Y.cells (G-(n+1))=f at R;have S:f.size=G*k:=by
   rw[<-a9];simp only[Array.size_append,List.size_toArray,Qy,v,Builtin.zeroCells,Array.size_map,Array.size_range,b5];rw[Nat.sub_mul,Nat.sub_mul];omega
  have Q:(cs.take (P*k)).length=P*k:=by rw[Qy,v];omega
  have c9:f.toList.take (P*k)=cs.take (P*k):=by
   rw[<-a9];simp only[Array.toList_append,XQ];rw[List.take_left' Q]
  have e4:=aB H;have e5:=aB B;have kd:ai b (b.drew.alloc (.cells f c)):=(aj.drewN b 1).then (aj.alloc _ _);have b1:(b.drew.alloc (.cells f c)).heap[b.heap.size]? =some (.cells f c (0,0)):=heap_alloc_new b.drew _;have d0:(b.drew.alloc (.cells f c)).heap.size=b.heap.size+1:=by
   rw[show b.heap.size=b.drew.heap.size from rfl];generalize b.drew=wd;simp
  refine⟨oM,oM,aG.mk R ?_⟩;generalize b.drew.alloc (.cells f c)=K at b1 kd d0;refine⟨_,_,_,rfl,oM,oM,?_⟩;have r:(n-P)*k=n*k-P*k:=Nat.sub_mul ..;have d2:=L_ (cs:=cs) (news:=o.toList) (ROW:=f.toList) (A:=P*k) (B:=n*k) (C:=G*k) (k:=k) v (by simp[I]) a2 (by simp[S]) oM c9 rfl rfl;obtain⟨c1,c2,c3⟩:=d2;rw[fC (show G≠P by omega)];refine Ky q b1 (n:=1) (by simp only[Nat.min_def];split<;>omega) s (a8 K (kd.get B id)) (by rw[s,S];omega) W λw2 g2 L s2=>⟨_,rfl,λJ d3=>?_⟩
  have M:ai w2 J:=d3.keep;have T:=M.get g2 id;have d4:=M.get (L.get (kd.get H id) oM) id;refine⟨oM,oM,oM,oM,?_⟩;rw[fC (show G≠P+1 by omega),fC (show a≠P by omega)];simp only[Xz,s,Nat.one_mul]at T⊢;rw[e1];refine Ky q T (n:=n-P) (by simp only[Nat.min_def];split<;>omega) p (λi m e=>?_) (by rw[List.size_toArray,c1,p,r];omega) (λl hv=>h1 l (List.mem_of_mem_drop hv)) λw4 g4 k4 s4=>⟨_,rfl,X _ _ _ ⟨⟨?_,.inr ⟨b.heap.size,G,_,rfl,Qj _,g4,hG,b0,?_,?_⟩⟩⟩ ?_ (.inr rfl)⟩
  ·rw[Addr.add_lit]
   rw[List.getElem?_drop]at e;exact a0 J d4 _ m e
  ·simp only[QX,Qy,v,s,p,r];omega
  ·rw[p,r,List.size_toArray];exact c2
  ·rw[p,r,e2];exact c3
  ·exact ai.keep ((kd.new L λF N=>.inr oM).then M|>.new k4 λF N=>.inr oM)
 ·
  have e6:O=O:=rfl;have a4:n+1<=a:=oM
  have r:(n-P)*k=n*k-P*k:=Nat.sub_mul ..;have e7:(n+1)*k<=a*k:=Q0 _ a4;obtain⟨c1,c2,c3⟩:=Jg (cs:=cs) (news:=o.toList) (cur:=cur.toList) (A:=P*k) (B:=n*k) (C:=a*k) (k:=k) v (by simp[I]) a2 (by simp[Z]) oM (c7 _ a2) rfl rfl;rw[fC (show a≠P+1 by omega),fC (show a≠P by omega)];refine⟨oM,oM,oM,oM,_,b3 _,aG.mk (v:=.bool false) (w':=b) ?_ ⟨_,rfl,al.tt rfl λK d1=>?_⟩⟩
  ·have S:∀b,(sizeOf c).run h b= .ok k b:=λb=>by simp[sizeOf,typeInfo,a6,hs]
   refine Lib.run_overlaps_apart (P:=h) b x g c q.under k S ⟨y,0,none⟩ ⟨w,0+(P+1)*k,none⟩ 1 1 _ _ (λc=>a5 c.symm) c c o.size cur.size (by simp[World.shape?,B]) (by simp[World.shape?,H]) (by rw[Z];omega) ?_ ?_
   ·simp[World.frozen?,B]
   ·simp[World.frozen?,B]
  have U:ai b K:=d1.keep;have s1:K.heap.size=b.heap.size:=by rw[d1.heap]
  refine⟨oM,oM,oM,oM,?_⟩;simp only[Xz,e1];refine Ky q (U.get H id) (n:=n-P) (by simp only[Nat.min_def];split<;>omega) p (λi m e=>?_) (by rw[Z,p,r];omega) (λl hv=>h1 l (List.mem_of_mem_drop hv)) λw2 g2 L s2=>⟨_,rfl,oM,oM,?_⟩
  ·rw[Addr.add_lit]
   rw[List.getElem?_drop]at e;exact a0 K (U.get H id) _ m e
  refine Ky q g2 (n:=1) (by simp only[Nat.min_def];split<;>omega) s (a8 w2 (L.get (U.get B id) (λc=>a5 c.symm))) (by rw[List.size_toArray,p,r,c1,s];omega) W λJ T M s3=>⟨_,rfl,X _ _ _ ⟨⟨?_,.inr ⟨w,a,_,rfl,Qj _,T,a4,a3,?_,?_⟩⟩⟩ ?_ (.inl rfl)⟩
  ·simp only[QX,Qy,v,s,p,r];omega
  ·simp only[p,r,s,Nat.one_mul];rw[List.size_toArray];exact c2
  ·simp only[p,r,s,Nat.one_mul];rw[e2];exact c3
  ·exact((ai.keep U).then (L.mono λF _ c=>by rw[c];rfl)).then (M.mono λF _ c=>by rw[c];rfl)
def FE.one{h:Program}{q tn r:TypeId}{bytes:Nat}{H y:FuncId}{z:Type}{c:jK z}(I:jx h q r c.k bytes)(N:h.underlying tn=some (.int .i64)){tb:TypeId}(O:∀e w,(callFunc H e).run h w=((Extern.SlicesOverlaps.overlaps #[q,q] #[tb] e).run h w).andThen λA f=>.ok (.value A) f){w:World}{i:XU}{j k g C:Nat}{l:Array Value}{E D:XM}{m:List z}{x:z}(n:aV c r E w i j k m)(Q:g<=j)(R:w.heap[C]? =some (.cells l r (0,0)))(F:c.rep w D x l.toList)(s:∀P,D P->P<w.heap.size/\aI i≠some P)(S:aI i≠some C)(a:(m.length+1)*bytes<=aS)(T:m.length+1<=maxLen){J:XR}(U:∀t b f K,aV c r K f t (j+1) b (m.take g++x::m.drop g)->aj (λP=>aI i=some P) w f->(∀P,K P->E P\/D P\/w.heap.size<=P)->J (.returned (.slice t (j+1) b)) f):
  FE h q tn c.k H y i j k g (XL C) 1 1 w J:=by
 have L:=n.len I.pos;obtain⟨cs,V,W,M,u⟩:=n.body;have X:=c.len F;refine FE.own I N O W Q R (by simpa using X) (c.one F) (λA Y=>M.Oa A Y) S (by rw[L];exact a) (by rw[L];exact T) λt b f o v B=>?_;have a0:=v.size;refine U t b f (λP=>E P\/D P\/(w.heap.size<=P/\P<f.heap.size)) ⟨⟨_,λP=>V P\/D P,o,?_,?_⟩,?_,?_⟩ v ?_
 ·rw[XQ]
  have p:=(M.keep v λP a=>(u P a).2)
  exact bR.append ((p.take g).mono λP a=>.inl a) (bR.append (xs:=[x]) (bR.one (c.mono (c.keep F v λP a=>(s P a).2) λP a=>.inr a)) ((p.drop g).mono λP a=>.inl a))
 ·intro P a
  have a1:P<w.heap.size:=a.elim (λd=>n.aE P (u P d).1) λd=>(s P d).1;refine⟨a.elim (λd=>.inl (u P d).1) λd=>.inr (.inl d),?_⟩;rcases B with B|B
  ·rw[B];exact a.elim (λd=>(u P d).2) λd=>(s P d).2
  ·rw[B];intro Z;cases Z;omega
 ·intro P a
  rcases B with B|B
  ·exact .inl (n.self P (B▸a))
  ·have:=o.lt a
   rw[B]at a;cases a;exact .inr (.inr ⟨oM,this⟩)
 ·rintro P (a|a|a)
  ·have:=n.aE P a;omega
  ·have:=(s P a).1;omega
  ·exact a.2
 ·rintro P (a|a|a)
  ·exact .inl a
  ·exact .inr (.inl a)
  ·exact .inr (.inr a.1)
def Lj(P:Program)(a:TypeId):Bool:=match(P.info? a).bind (·.zero)with
 |some b=>b.cells.toList.all (·.oneCell')
 |none=>false
def Ob{e bytes:Nat}(i:jx h g n e bytes)(k:Lj h n=true)(t:b.heap[a]? =some (.cells o b7 (0,0)))(v:c+j*e<=o.size)(f:∀l P,l.heap[a]? =some (.cells P b7 (0,0))->P.size=o.size->P.toList.take c=o.toList.take c->aj (·=a) b l->l.heap.size=b.heap.size->m (.tuple #[]) l):
  aG h (Builtin.clear_ #[g] A #[.slice (some ⟨a,c,none⟩) j p]) b m r:=by
 obtain⟨I,d,w,x,J,K,u⟩:=jx.info i;have B:∀q∈d.cells.toList,q.oneCell'=true:=by
  unfold Lj at k;rw[w]at k;simp only[Option.bind_some,x,ZY]at k;exact k
 cases j with
 |zero=>exact aG.mk (w':=b) (by simp[Builtin.clear_,run_underlying i.under]) (f b o t rfl rfl (aj.refl _) rfl)
 |succ j=>
  have y:(Builtin.zeroCells d.cells (j+1)).toList.length=(j+1)*e:=by simp[Builtin.zeroCells,u]
  have C:∀q∈(Builtin.zeroCells d.cells (j+1)).toList,q.oneCell'=true:=by
   intro q s;simp only[Builtin.zeroCells,Array.toList_map,Xk,u]at s;obtain⟨z,-,rfl⟩:=s;have E:z % e<d.cells.size:=by rw[u];exact Nat.mod_lt _ i.pos
   rw[getElem!_pos d.cells (z % e) E];exact B _ sM
  have F:=run_storeCells_at h a c b7 _ 0 o b t (by rw[y];simpa using v) C;have s:(zeroValue n).run h b= .ok d b:=by simp[zeroValue,typeInfo,w,x]
  refine aG.mk (w':=b.setRow a (o.toList.take c++(Builtin.zeroCells d.cells (j+1)).toList++o.toList.drop (c+(Builtin.zeroCells d.cells (j+1)).toList.length)).toArray) ?_ (f _ _ (setRow_heap b a o _ b7 (0,0) t) ?_ ?_ (pF b a _) ?_)
  ·simp[Builtin.clear_,run_underlying i.under,s,F]
  ·have H:o.size=o.toList.length:=sM
   simp only[List.size_toArray,QX,Qy,XZ,y];rw[H]at v⊢;omega
  ·rw[XQ,List.take_left']
   simp;omega
  ·simp[World.setRow]
def FG.own{P bytes:Nat}(p:jx h g A P bytes)(Q:Lj h A=true){cs:List Value}(m:Own b A P d a c cs)(R:j<a)(S:∀k∈cs,k.oneCell'=true)(T:a<=maxLen)(U:∀r,Own r A P d (a-1) c (cs.take (j*P)++cs.drop ((j+1)*P))->aj (λs=>aI d=some s) b r->z (.returned (.slice d (a-1) c)) r):
  FG h g n P d a c j (XH .i64 ((j:Int)+1)) b z:=by
 have hk:=p.pos;obtain⟨iT,a5,V,hz,W,b2,b3⟩:=jx.info p;have q:=m.length;unfold maxLen at T;rcases m.cases with⟨_,h0,_,_⟩|⟨f,e,rfl,X,Y,F,H⟩
 ·omega
 have t:c<=maxLen:=by
  obtain⟨_,cp,_,I,_,_,_,t,_⟩:=m.row.2.resolve_left (by rintro⟨m,_⟩;cases m);simp only[XX]at I;rw[I.2.2];exact t
 have Z:XH .i64 ((j:Int)+1)=((j+1:Nat):Int):=by rw[wrap_i64 bb];simp
 have a6:j*P<=a*P:=Q0 _ oM;have b1:(j+1)*P<=a*P:=Q0 _ R;have e1:(j+1)*P=j*P+P:=by rw[X7,Nat.one_mul]
 have e3:(a-1)*P=a*P-P:=by rw[Nat.sub_mul,Nat.one_mul]
 have e4:(a-(j+1))*P=a*P-(j+1)*P:=Nat.sub_mul ..;have a7:a*P<=c*P:=Q0 _ Y;unfold FG;rw[Z];simp only[Qx];refine⟨oM,oM,oM,oM,al.dU (λhe=>oM) (λu i J=>⟨oM,oM,oM,oM,?_⟩)⟩;have K:ai b i:=J.keep;have s1:i.heap.size=b.heap.size:=by rw[J.heap]
 have v:=K.get X id;have w:(cs.drop ((j+1)*P)).length=(a-(j+1))*P:=by rw[XZ,q,Nat.sub_mul]
 have x:∃o,cE (XL f) (j+1) c P=some ⟨f,o,none⟩/\(a≠j+1->o=(j+1)*P):=by
  by_cases L:c=j+1
  ·exact⟨0,by unfold cE;rw[Zx L],λu=>oM⟩
  ·exact⟨_,fC L,λ_=>oM⟩
 obtain⟨o,x,a8⟩:=x;rw[x];have a0:∀y k,(cs.drop ((j+1)*P))[y]? =some k->i.cell? ((⟨f,o,none⟩:Addr).add y)=some k:=λy k l=>by
  have a9:=(Qv.1 l).1;have u:a≠j+1:=by
   intro A;rw[w,A,Nat.sub_self,Nat.zero_mul]at a9;omega
  rw[a8 u,Addr.add_lit];rw[List.getElem?_drop]at l;refine ae v ?_;rw[<-H,Xw]at l;split at l
  ·simpa using l
  ·cases l
 have hf:=run_firstCells_some (P:=h) i P (a-(j+1)) ⟨f,o,none⟩ (a-(j+1)) (c-(j+1)) _ w a0;have M:=run_storeCells_at h f (j*P) A (cs.drop ((j+1)*P)) 0 e i v (by rw[w,F];omega) (λk hv=>S k (List.mem_of_mem_drop hv));have a1:j+(a-(j+1))=a-1:=oM
 refine aG.mk (v:=.slice (XL f) (a-1) c) (w':=i.setRow f (e.toList.take (j*P)++cs.drop ((j+1)*P)++e.toList.drop (j*P+(cs.drop ((j+1)*P)).length)).toArray) ?_ ⟨_,_,_,rfl,oM,oM,oM,?_⟩
 ·have a2:j+(a-(j+1))<=c:=oM
  have a3:a<=c+1:=oM
  simp only[Nat.add_zero]at M;simp[Builtin.append_,run_underlying p.under,sizeOf,typeInfo,V,W,Builtin.lenOf,a2,a3,hf,Addr.add_lit,M,a1]
 have B:=setRow_heap i f e (e.toList.take (j*P)++cs.drop ((j+1)*P)++e.toList.drop (j*P+(cs.drop ((j+1)*P)).length)).toArray A (0,0) v;have C:=pF i f (e.toList.take (j*P)++cs.drop ((j+1)*P)++e.toList.drop (j*P+(cs.drop ((j+1)*P)).length)).toArray;have b0:e.toList.length=c*P:=by simp[F]
 have E:(e.toList.take (j*P)++cs.drop ((j+1)*P)++e.toList.drop (j*P+(cs.drop ((j+1)*P)).length)).length=c*P:=by
  simp only[QX,Qy,XZ,q,b0];omega
 have N:(e.toList.take (j*P)++cs.drop ((j+1)*P)++e.toList.drop (j*P+(cs.drop ((j+1)*P)).length)).take ((a-1)*P)=cs.take (j*P)++cs.drop ((j+1)*P):=by
  rw[show e.toList.take (j*P)=cs.take (j*P) by rw[<-H,List.take_take,X2 a6]];rw[List.take_left'];simp only[QX,Qy,XZ,q];omega
 generalize e.toList.take (j*P)++cs.drop ((j+1)*P)++e.toList.drop (j*P+(cs.drop ((j+1)*P)).length)=R1 at B C E N;generalize i.setRow f R1.toArray=w2 at B C;rw[fC (show c≠a-1 by omega)];refine Ob p Q B (by rw[List.size_toArray,E,show a-(a-1)=1 by omega];omega) λw3 a4 g3 c3 O k3 s3=>U w3 ⟨⟨?_,.inr ⟨f,c,a4,rfl,Qj _,g3,oM,t,?_,?_⟩⟩⟩ ?_
 ·simp only[QX,Qy,XZ,q];omega
 ·rw[c3,List.size_toArray,E]
 ·rw[Xz]at O;rw[O,N]
 ·exact((ai.keep K).then (C.mono λs _ A=>by rw[A];rfl)).then (k3.mono λs _ A=>by rw[A];rfl)
def FG.one{p tz k:TypeId}{bytes:Nat}{c:jK i}(t:jx h p k c.k bytes)(u:Lj h k=true){w:World}{a P b:Nat}{q:List i}(l:aV c k f w d a P q)(v:b<a)(x:a<=maxLen)(y:∀e,aV c k f e d (a-1) P (q.eraseIdx b)->aj (λg=>aI d=some g) w e->z (.returned (.slice d (a-1) P)) e):
  FG h p tz c.k d a P b (XH .i64 ((b:Int)+1)) w z:=by
 obtain⟨cs,A,B,r,s⟩:=l.body;refine FG.own t u B v r.Oa x λe m n=>y e ⟨⟨_,A,m,?_,s⟩,l.self,λg o=>Qk (l.aE g o) n.size⟩ n;have j:=(r.keep n λg o=>(s g o).2)
 rw[List.eraseIdx_eq_take_drop_succ];exact bR.append (j.take b) (j.drop (b+1))
end Go.au
namespace Go.Proofs.YtblabbpipmodgaaGreatDoor
open Go.au
variable{e:Int}{q:List Int}{c0:List br}{b5:List cW}{a c j p:Nat}{f:XM}{d:XU}{i:Type}{b:World}{x:XT}{b4:br}
def oS{P:List (Bx cW)}{D:XM}(f:Row jY.kO 32 b D d a P)(g:∀e,D e->e<b.heap.size):ZH 210 #[.slice d a c] b (Ok (vh jY.kO 84 b P)):=
 gZ (Ig Nn dC f g λi j h=>Ok.mk h)
def PH(l:aV aM 3 f b d a c q)(r:j<=a)(s:b.heap[p]? =some (.cells #[QH e] 3 (0,0)))(t:aN e)(u:¬f p)(z:q.length<1000000):
  ZH 280 #[.slice d a c,QH (j:Int),.slice (XL p) 1 1] b (Ok λv m=>∃g h i,v= .slice g (a+1) h/\aV aM 3 i m g (a+1) h (q.take j++e::q.drop j)/\cO f b i m):=by
 refine lV (FE.one (c:=aM) (tb:=4) (x:=e) (D:=λ_=>False) q_ kR ?_ l r s ⟨rfl,t⟩ (λk P=>P.elim) (λw=>u (l.self p w)) ba (by unfold maxLen;omega) λg h m i n x y=>Ok.mk ⟨g,h,i,rfl,n,x.mono λk _ P=>l.self k P,λk P=>?_⟩)
 ·intro o b
  rw[run_callFunc_extern Tryz.func313 kR kR kR (e:=Extern.SlicesOverlaps.overlaps #[27,27] #[4]) kR]
 ·rcases y k P with P|P|P
  ·exact .inl P
  ·exact P.elim
  ·exact .inr P
def PI(g:aV aM 3 f b d a c q)(h:j<a)(n:a<1000000):
  ZH 281 #[.slice d a c,QH (j:Int),QH (XH .i64 ((j:Int)+1))] b (Ok λi P=>i= .slice d (a-1) c/\aV aM 3 f P d (a-1) c (q.eraseIdx j)/\aj f b P):=
 lW (FG.one (c:=aM) (tz:=0) q_ kR g h (by unfold maxLen;omega) λP e k=>Ok.mk ⟨rfl,e,k.mono λl _ m=>g.self l m⟩)
def Tc(b:br)(P:cW)(a arg:Int):cW:=
 if a=1 then{P with n:=nX (P.n+arg)}else if a=2 then{P with n:=arg}else if a=3 then{P with set:=oO arg P.set}
 else if a=4 then{P with set:=P.set.filter λc=>c !=arg}else{P with n:=(b.bt.getD arg.toNat ⟨0,0,0,0⟩).oF}
def Sb{P a arg:Int}(b:1<=a)(c:a<=5):PJ c0 b5 P a arg=b5.set P.toNat (Tc (c0.getD P.toNat ⟨0,0,false,[]⟩) (b5.getD P.toNat ⟨0,[]⟩) a arg):=by
 have:a=1\/a=2\/a=3\/a=4\/a=5:=oM
 rcases this with rfl|rfl|rfl|rfl|rfl<;>rfl
section
variable {w w':World} {D E F:XM} {f:br} {ma ca:XU} {mn mc cn cc i:Nat} {arg:Int} {L:List (Bx cW)} {bx:Bx cW}
structure jL (w:World) (ca:XU) (cn cc:Nat) (L:List (Bx cW)) (i:Nat) (bx:Bx cW) (F:XM):Prop where
 oD:aV jY.kO 84 (λb=>aI ca=some b) w ca cn cc L
 at':L[i]? =some bx
 set:aV aM 3 F w bx.a bx.n bx.c bx.x.set
 ap:∀b,F b->¬aI ca=some b
 ok:aN bx.x.n/\vb bx.x.set/\bx.x.set.length<=64
 ef:L.length<=1000000
def jL.af(P:jL w ca cn cc L i bx F)(a:ai w w'):jL w' ca cn cc L i bx F:=⟨P.oD.af a,P.at',P.set.af a,P.ap,P.ok,P.ef⟩
def jL.len(P:jL w ca cn cc L i bx F):i<cn:=by
 rw[P.oD.len dC];exact(Qv.1 P.at').1
def jL.cells(b:jL w ca cn cc L i bx F):∃P a,ca=some ⟨P,a,none⟩/\P<w.heap.size/\w.cell? ⟨P,a+i*2,none⟩=some (QH bx.x.n)/\w.cell? ⟨P,a+i*2+1,none⟩=some (.slice bx.a bx.n bx.c):=by
 obtain⟨P,a,f,d,e,g,c,rfl,-⟩:=(b.oD.row (bytes:=32) dC (by have:=b.ef;unfold aS;omega)).el i bx b.at';exact⟨P,a,d,e,c 0 dC,c 1 dC⟩
def oT(b:World)(ca:XU)(cn cc:Nat)(L:List (Bx cW))(i:Nat)(F:XM)(c:cW)(w':World):Prop:=
 ∃(P:Bx cW) (d:XM),P.x=c/\aV jY.kO 84 (λa=>aI ca=some a) w' ca cn cc (L.set i P)/\aV aM 3 d w' P.a P.n P.c c.set/\aj (λa=>aI ca=some a\/F a) b w'/\∀a,d a->F a\/b.heap.size<=a
def Ih{f w:World}(g:ai f w)(b:jL w ca cn cc L i bx F)(h:ca=some ⟨a,c,none⟩)(j:∀w',aj (λa=>aI ca=some a) w w'->oT f ca cn cc L i F {bx.x with n:=e} w'->x w'):
  PS w ⟨a,c+i*2,none⟩ (QH e) x:=by
 refine aV.set (j:=0) (x':=⟨{bx.x with n:=e},bx.a,bx.n,bx.c⟩) b.oD b.at' dC rfl h λk l d n=>j k d ⟨_,F,rfl,l,b.set.keep d λa P m=>b.ap a P m,(ai.keep g).then (d.mono λa _ P=>.inl P),λa P=>.inl P⟩
def Nt{r b w:World}{g:XM}(s:ai r b)(e:jL b ca cn cc L i bx F)(u:aV aM 3 g w d j p q)(h:cO F b g w)(l:ca=some ⟨a,c,none⟩)(v:∀w',oT r ca cn cc L i F {bx.x with set:=q} w'->x w'):
  PS w ⟨a,c+i*2+1,none⟩ (.slice d j p) x:=by
 have m:aV jY.kO 84 (λa=>aI ca=some a) w ca cn cc L:=e.oD.keep h.1 λa P k=>e.ap a k P;have z:=e.oD.aE a (by rw[l];rfl);have y:∀f,g f->¬aI ca=some f:=λf n o=>by
  rcases h.2 f n with k|k
  ·exact e.ap f k o
  ·rw[l]at o;simp only[aI,Q1]at o;omega
 have A:=s.size;refine aV.set (j:=1) (x':=⟨{bx.x with set:=q},d,j,p⟩) m e.at' dC rfl l λb m t B=>v b ⟨_,g,rfl,m,u.keep t y,((ai.keep s).then (h.1.mono λa _ P=>.inr P)).then (t.mono λa _ P=>.inl P),λa P=>(h.2 a P).imp id λP=>oM⟩
def do_1(P:jL w ca cn cc L i bx F):ZH 212 #[yG f ma mn mc ca cn cc (i:Int) arg] w (Ok λj w'=>j= .tuple #[]/\oT w ca cn cc L i F {bx.x with n:=nX (bx.x.n+arg)} w'):=by
 have k:=P.len;refine yI (PA.mk λl m v n=>λo p=>⟨λa=>aI ca=some a,?_⟩);have e:ai l o:=p.keep;have g:=e.get n id;have d:=m.then e;obtain⟨a,q,b,r,s,x⟩:=(P.af d).cells;have y:=P.oD.aE a (by rw[b];rfl);refine ay (tl ..) g ⟨λh=>by rw[b]at h;simp only[aI,Q1]at h;omega,_,ae g rfl,PC.ok (gY b k) ?_⟩;rintro _ z ⟨rfl,c⟩;exact⟨_,rfl,ai.keep c,_,_,rfl,_,(c.cell (a:=⟨a,q+i*2,none⟩) r id).trans s,_,_,rfl,Ih (d.then c) (P.af (d.then c)) b λA t u=>⟨t,Ok.mk ⟨rfl,u⟩⟩⟩
def Uu(P:jL w ca cn cc L i bx F):ZH 215 #[yG f ma mn mc ca cn cc (i:Int) arg] w (Ok λj w'=>j= .tuple #[]/\oT w ca cn cc L i F {bx.x with n:=arg} w'):=by
 have k:=P.len;refine yJ (PA.mk λl m s n=>λo p=>⟨λb=>aI ca=some b,?_⟩);have e:ai l o:=p.keep;have g:=e.get n id;have c:=m.then e;obtain⟨b,t,a,u,v,x⟩:=(P.af c).cells;have y:=P.oD.aE b (by rw[a];rfl);refine ay (tl ..) g ⟨λh=>by rw[a]at h;simp only[aI,Q1]at h;omega,_,ae g rfl,PC.ok (gY a k) ?_⟩;rintro _ z ⟨rfl,d⟩;exact⟨_,rfl,ai.keep d,_,_,rfl,Ih (c.then d) (P.af (c.then d)) a λA q r=>⟨q,Ok.mk ⟨rfl,r⟩⟩⟩
def Uv(b:jL w ca cn cc L i bx F)(h:Row fL 32 w E ma mn f.bt)(o:∀a,E a->¬aI ca=some a)(I:0<=arg)(J:arg<(mn:Int)):ZH 220 #[yG f ma mn mc ca cn cc (i:Int) arg] w (Ok λp w'=>p= .tuple #[]/\oT w ca cn cc L i F {bx.x with n:=(f.bt.getD arg.toNat ⟨0,0,0,0⟩).oF} w'):=by
 have q:=b.len;refine yK (PA.mk λr s K t=>λu v=>⟨λa=>aI ca=some a,?_⟩);have j:ai r u:=v.keep;have e:=j.get t id;have c:=s.then j;obtain⟨a,M,d,N,O,Q⟩:=(b.af c).cells;have R:=b.oD.aE a (by rw[d];rfl);have S:=h.len;obtain⟨P,rfl⟩:∃P:Nat,arg=P:=⟨arg.toNat,oM⟩
 have k:P<f.bt.length:=oM
 obtain⟨l,x,T,y,U,z,A,rfl,-⟩:=(h.af c).el P f.bt[P] (by simp[k]);have B:f.bt.getD P ⟨0,0,0,0⟩=f.bt[P]:=by simp[QQ,k]
 simp only[Qx,B];have m:¬aI ca=some w.heap.size:=λn=>by rw[d]at n;simp only[aI,Q1]at n;omega
 refine ay (tl ..) e ⟨m,_,_,_,ae e rfl,m,_,ae e rfl,l,x,y,oM,oM,o l z,_,A 1 dC,PC.ok (gY d q) ?_⟩;rintro _ V ⟨rfl,g⟩;exact⟨_,rfl,ai.keep g,_,_,rfl,Ih (c.then g) (b.af (c.then g)) d λW C H=>⟨C,Ok.mk ⟨rfl,H⟩⟩⟩
def Uw(P:jL w ca cn cc L i bx F)(v:aN arg):ZH 217 #[yG f ma mn mc ca cn cc (i:Int) arg] w (Ok λx w'=>x= .tuple #[]/\oT w ca cn cc L i F {bx.x with set:=oO arg bx.x.set} w'):=by
 have y:=P.len;obtain⟨-,b,S⟩:=P.ok;refine Ii (PA.mk λT m U n=>ay (tl ..) n ?_);obtain⟨c,o,j,a,V,z⟩:=(P.af m).cells;have W:=P.oD.aE c (by rw[j];rfl);refine PC.ok (gY j y) ?_;rintro _ A ⟨rfl,d⟩;refine⟨_,rfl,λp B=>?_⟩;have e:ai A p:=B.keep;have g:=(m.then d).then e;have q:=e.get (d.get n id) id;have r:=((d.then e).cell (a:=⟨c,o+i*2+1,none⟩) a id).trans z;have s:=P.set.af g;refine⟨_,_,rfl,_,_,_,r,_,ae q rfl,PC.ok (rO (s.row (bytes:=8) dC ba) b) ?_⟩;rintro _ _ ⟨rfl,rfl⟩;have X:=P.set.len dC;refine⟨_,_,rfl,al.not (al.mk (λC=>Ok.mk ⟨rfl,?_⟩) (λE=>λH I=>?_))⟩
 ·have h:arg∈bx.x.set:=XV C
  refine⟨bx,F,by rw[th h b],?_,by rw[th h b];exact s,ai.keep g,λc a=>.inl a⟩;have:L.set i bx=L:=by
   apply X3;intro Y;rw[Xj];split
   ·rename_i J;subst J;rw[Zx (Qv.1 P.at').1,P.at']
   ·rfl
  rw[this];exact P.oD.af g
 ·have h:arg∉bx.x.set:=Xy E
  have k:ai p H:=I.keep;have K:=k.get q id;have t:=g.then k;refine⟨no,_,_,rfl,id,_,_,_,(k.cell (a:=⟨c,o+i*2+1,none⟩) (Qk a (d.then e).size) id).trans r,_,ae K rfl,PA.mk λZ u s5 M=>⟨ai.keep u,?_⟩⟩;have l:=t.then u;have a1:=Fy (λN=>decide (N<arg)) bx.x.set;have z4:=t.size;refine PC.ok (PH (P.set.af l) oM M v (λa=>by have:=P.set.aE _ a;omega) oM) ?_;rintro _ w6 ⟨a',c',F',rfl,O,Q⟩;rw[Fz b h];exact⟨_,_,_,rfl,_,_,rfl,Nt l (P.af l) O Q j λw7 R=>Ok.mk ⟨rfl,R⟩⟩
def Ux(P:jL w ca cn cc L i bx F):ZH 218 #[yG f ma mn mc ca cn cc (i:Int) arg] w (Ok λo w'=>o= .tuple #[]/\oT w ca cn cc L i F {bx.x with set:=bx.x.set.filter λp=>p !=arg} w'):=by
 have q:=P.len;obtain⟨-,j,I⟩:=P.ok;refine Be (PA.mk λJ k K l=>ay (tl ..) l ?_);obtain⟨d,r,m,a,M,s⟩:=(P.af k).cells;refine PC.ok (gY m q) ?_;rintro _ t ⟨rfl,e⟩;refine⟨_,rfl,λu v=>?_⟩;have g:ai t u:=v.keep;have b:=(k.then e).then g;have x:=g.get (e.get l id) id;have n:=((e.then g).cell (a:=⟨d,r+i*2+1,none⟩) a id).trans s;have h:=P.set.af b;refine⟨_,_,rfl,_,_,_,n,_,ae x rfl,PC.ok (rO (h.row (bytes:=8) dC ba) j) ?_⟩;rintro _ _ ⟨rfl,rfl⟩;have N:=P.set.len dC;refine⟨_,_,rfl,al.mk (λy=>?_) (λz=>Ok.mk ⟨rfl,?_⟩)⟩
 ·have c:arg∈bx.x.set:=XV y
  obtain⟨A,O⟩:=Kl j c;refine⟨_,_,rfl,_,_,_,n,PC.ok (PI h oM oM) ?_⟩;rintro _ Q ⟨rfl,B,C⟩;rw[A];exact⟨_,_,_,rfl,_,_,rfl,Nt b (P.af b) B ⟨C,λd a=>.inl a⟩ m λR E=>Ok.mk ⟨rfl,E⟩⟩
 ·have c:arg∉bx.x.set:=Xy z
  refine⟨bx,F,by rw[FB c],?_,by rw[FB c];exact h,ai.keep b,λd a=>.inl a⟩;have:L.set i bx=L:=by
   apply X3;intro S;rw[Xj];split
   ·rename_i H;subst H;rw[Zx (Qv.1 P.at').1,P.at']
   ·rfl
  rw[this];exact P.oD.af b
end
def Ko(P:Int):aN (nX P):=by
 unfold nX XH aN;simp[IntKind.signed,IntKind.bits];omega
def Nu(P:e∉q):(oO e q).length=q.length+1:=by
 induction q with
 |nil=>rfl
 |cons b q a=>
  simp only[Q2,not_or]at P;unfold oO;rw[Zq P.1];split
  ·rfl
  ·simp[a P.2]
def Nv{P:List i}{b:i}(c:P[a]? =some b):P.set a b=P:=by
 apply X3;intro e;rw[Xj];split
 ·rename_i d;subst d;rw[Zx (Qv.1 c).1,c]
 ·rfl
section
variable {w w':World} {D E F:XM} {t:List br} {cells:List cW} {op arg:Int} {ma ca ta:XU} {mn mc cn cc tn tc i:Nat} {L:List (Bx cW)} {bx:Bx cW}
def Sc{P:cW}(b:∀g∈b4.bt,jM.Ok g)(i:aN P.n/\vb P.set/\P.set.length<=64)(j:aN arg)(k:op=3->arg∈P.set\/P.set.length<64):
  aN (Tc b4 P op arg).n/\vb (Tc b4 P op arg).set/\(Tc b4 P op arg).set.length<=64:=by
 obtain⟨f,a,c⟩:=i;unfold Tc
 split
 ·exact⟨Ko _,a,c⟩
 split
 ·exact⟨j,a,c⟩
 split
 ·rename_i h
  refine⟨f,BV a,?_⟩
  by_cases b:arg∈P.set
  ·show(oO arg P.set).length<=64
   rw[th b a];exact c
  ·show(oO arg P.set).length<=64
   rw[Nu b];rcases k h with h|h
   ·exact Zz h b
   ·omega
 split
 ·exact⟨f,a.sublist List.filter_sublist,Xx (List.length_filter_le ..) c⟩
 ·refine⟨?_,a,c⟩
  show aN (b4.bt.getD arg.toNat ⟨0,0,0,0⟩).oF
  by_cases d:arg.toNat<b4.bt.length
  ·have e:b4.bt.getD arg.toNat ⟨0,0,0,0⟩=b4.bt[arg.toNat]:=by simp[QQ,d]
   rw[e];exact(b _ (XY d)).2.1
  ·have e:b4.bt.getD arg.toNat ⟨0,0,0,0⟩=⟨0,0,0,0⟩:=by simp[QQ,Q7 (Nat.le_of_not_lt d)]
   rw[e];simp[aN]
def PK(a:FJ t cells (i:Int) op arg)(e:aN arg)(b:Row fL 32 w E ma mn (t.getD i ⟨0,0,false,[]⟩).bt)(f:∀c,E c->¬aI ca=some c)(P:jL w ca cn cc L i bx F):
  enters XG (Uh op)=true/\ZH (Uh op) (#[]++ #[yG (t.getD i ⟨0,0,false,[]⟩) ma mn mc ca cn cc (i:Int) arg]++ #[]) w (Ok λg w'=>g= .tuple #[]/\oT w ca cn cc L i F (Tc (t.getD i ⟨0,0,false,[]⟩) bx.x op arg) w'):=by
 have j:=a.Tm;have k:=a.Tn;have:op=1\/op=2\/op=3\/op=4\/op=5:=oM
 rcases this with rfl|rfl|rfl|rfl|rfl
 ·exact⟨kR,do_1 P⟩
 ·exact⟨kR,Uu P⟩
 ·exact⟨kR,Uw P e⟩
 ·exact⟨kR,Ux P⟩
 ·obtain⟨h,d,l⟩:=a.mv rfl
  rw[Qx]at d;exact⟨kR,Uv P b f h (by rw[b.len];exact d)⟩
structure Tp (w9:World) (ca:XU) (cn cc:Nat) (D:XM) (cells:List cW) (j:Nat) (w':World) (L:List (Bx cW)) (Fi:Nat->XM):Prop where
 oD:aV jY.kO 84 (λb=>aI ca=some b) w' ca cn cc L
 eq:L.map (·.x)=cells
 own:∀i b,i<j->L[i]? =some b->aV aM 3 (Fi i) w' b.a b.n b.c b.x.set
 aE:∀i x,Fi i x->w9.heap.size<=x/\x<w'.heap.size/\¬aI ca=some x
 ap:∀i k x,i≠k->Fi i x->¬Fi k x
 yg:∀i x,j<=i->¬Fi i x
 keep:aj (λb=>aI ca=some b) w9 w'
def PL{s:Int}(o:FJ t cells s op arg)(M:vg t cells s op arg=0)(a2:aN arg)(e3:t.length<=64)(ht:Row nY 48 w E ta tn t)(hE:∀a,E a->a<w.heap.size)(h:Row gG 32 w D ca cn cells)(hD:∀a,D a->a<w.heap.size):
  ZH 204 #[.agg #[.slice ta tn tc],.slice ca cn cc,QH s,QH op,QH arg] w (Ok (vh gG 84 w (PJ t cells s op arg))):=by
 obtain⟨i,rfl⟩:∃i:Nat,s=i:=⟨s.toNat,by have:=o.f0;omega⟩
 obtain⟨m,A,l2,l3⟩:=fO.boxes h;have e4:=o.len;have e5:m.length=cells.length:=by rw[<-A];simp
 refine Lt (PA.mk λw1 k1 s1 g1=>PC.ok (oS (l2.af k1) λa c=>by have:=hD a c;omega) ?_);rintro _ N ⟨n,q,C,F9,rfl,v,O,d4⟩;have e6:=v.len dC;have e7:=h.len;have x:∀a,aI n=some a->w1.heap.size<=a:=λa c=>d4 a (v.self a c);have Q:∀a,aI n=some a->a<N.heap.size:=λa c=>v.aE a (v.self a c);refine⟨_,_,_,rfl,λR a8 w'=>∃f:Nat,a8=f/\f<=q/\R=q-f/\∃L p,Tp N n q C D cells f w' L p/\∀b,f<=b->L[b]? =m[b]?,
  ⟨_,0,rfl,Qj _,rfl,m,λ_ _=>False,⟨v.alone,A,λi a hi=>oM,λ_ _ h=>h.elim,λ_ _ _ _ h=>h.elim,λ_ _ _=>id,aj.refl _⟩,λb _=>rfl⟩,?_⟩
 rintro R _ _ b9 ⟨f,rfl,hj,rfl,L,p,d,a3⟩;have e8:L.length=cells.length:=by rw[<-d.eq];simp
 have F:ai w b9:=(k1.then O).new d.keep λa c=>.inr (by have:=x a c;omega);refine al.dec (λe9=>?_) (λf0=>?_)
 ·have c0:f<m.length:=oM
  have S:m[f]? =some m[f]:=Qq c0;obtain⟨a,T,es,U,c,f5,a9,rfl,-⟩:=(l2.af F).el f m[f] S;have d5:=l3 m[f] (XY c0);refine⟨a,T,U,oM,oM,_,_,_,a9 1 dC,PC.ok (cC (d5.1.af F) λa c=>by have:=hD a c;have:=F.size;omega) ?_⟩;rintro _ f6 ⟨f7,g0,g2,G,rfl,a4,H,I⟩;have a5:=d.oD.af H;have hz:=d.keep.size;obtain⟨y,c1⟩:∃y,n=XL y:=by
   rcases a5.body with⟨cs,D',ho,-⟩;rcases ho.cases with⟨-,hn,-⟩|⟨y,b0,e,-⟩
   ·omega
   ·exact⟨y,e⟩
  refine⟨_,_,_,rfl,y,0,c1,oM,oM,?_⟩;simp only[Qx];refine fO.set a5 (by rw[a3 f (Q4 _)];exact S) c1 λg3 c2 V g4=>⟨_,?_,f+1,an oM,oM,rfl,_,λb=>if b=f then G else p b,⟨c2,?_,?_,?_,?_,?_,?_⟩,?_⟩
  ·omega
  ·rw[List.map_set,d.eq,Nv]
   rw[<-A,Q9,S];rfl
  ·intro b a l c
   rw[Xj]at c
   by_cases W:f=b
   ·subst W
    rw[Zx rfl,Zx oM]at c
    cases c
    rw[Zx rfl];exact a4.keep V λP B e=>by have:=I P B;have:=Q P e;omega
   ·rw[Zq W]at c
    rw[Zq (λe=>W e.symm)];exact((d.own b a oM c).af H).keep V λP B e=>(d.aE b P B).2.2 e
  ·intro b P B
   split at B
   ·have:=I P B;have:=a4.aE P B;exact⟨oM,oM,λe=>by have:=Q P e;omega⟩
   ·have J:=d.aE b P B;have:=H.size;exact⟨J.1,oM,J.2.2⟩
  ·intro b k' P X B g
   split at B<;>split at g
   ·omega
   ·have:=I P B;have:=d.aE k' P g;omega
   ·have:=I P g;have:=d.aE b P B;omega
   ·exact d.ap b k' P X B g
  ·intro b P l B
   rw[Zq oM]at B;exact d.yg b P oM B
  ·exact(d.keep.af H).then V
  ·intro b l
   rw[Xj,Zq oM,a3 b oM]
 ·have g5:f=q:=oM
  refine PC.ok yF ?_;rintro _ g6 ⟨f8,rfl,Y,Z⟩;refine⟨_,rfl,lU yE Dk Y ?_⟩;rw[Km o.Tm o.Tn];refine⟨_,_,_,rfl,PA.mk λg7 d6 g8 d7=>aC (Nr op) d7 rfl λd8 d9 g9 b3=>al.tt rfl λb4 e0=>?_⟩;have c3:ai d8 b4:=e0.keep;have u:ai b9 b4:=((Z.then d6).new d9 λa c=>.inr (by have:=Z.size;omega)).then c3;have c4:=F.then u;have b3:=c3.get b3 id;have z9:=d.keep.size;have h0:=Z.size;have h2:=O.size;have gt:=u.get (d.keep.get (O.get g1 id) (λe=>by have:=x _ e;omega)) id;have h4:=o.f1;have h5:=ht.len;obtain⟨a,T,f9,h1,b1,U,c,h6,f1,f2,f3,f4,c5⟩:=Ds (ht.af c4) (i:=i) oM;have c6:i<L.length:=oM
  have K:L[i]? =some L[i]:=Qq c6;generalize L[i]=bx at K;have b5:cells[i]? =some bx.x:=by rw[<-d.eq,Q9,K];rfl
  have c7:cells.getD i ⟨0,[]⟩=bx.x:=by rw[QQ,b5];rfl
  have a0:∀(b:Nat) (P:cW),cells[b]? =some P->aN P.n/\vb P.set/\P.set.length<=64:=λb P B=>by
   rw[<-A,Q9]at B
   cases hL:m[b]? with
   |none=>rw[hL]at B;cases B
   |some b2=>rw[hL]at B;cases B;exact(l3 b2 (QZ hL)).2
  have c8:jL b4 n q C L i bx (p i):=⟨d.oD.af u,K,(d.own i bx oM K).af u,λa c=>(d.aE i a c).2.2,a0 i _ b5,oM⟩
  obtain⟨a1,r⟩:=PK (mc:=b1) o a2 c5 (λa c e=>by have:=hE a c;have:=x a e;omega) c8;refine⟨_,ae b3 rfl,_,_,_,ae gt rfl,a,T,U,oM,oM,_,_,_,_,_,_,f1,f2,f3,f4,_,_,_,rfl,a1,PC.ok r ?_⟩;rintro _ b6 ⟨rfl,j,z,g,d0,a6,b7,d1⟩;have h7:=b7.size;have zg:=u.size;have b8:∀P,z P->N.heap.size<=P:=λP B=>by
   rcases d1 P B with h|h
   ·exact(d.aE i P h).1
   ·omega
  have d2:∀b a,(L.set i j)[b]? =some a->aV aM 3 (λP=>if b=i then z P else p b P) b6 a.a a.n a.c a.x.set:=λb a c=>by
   rw[Xj]at c
   by_cases l:i=b
   ·subst l
    rw[Zx rfl,Zx c6]at c
    cases c
    simp only[if_true];rw[g];exact a6
   ·rw[Zq l]at c
    simp only[Zq (λe:b=i=>l e.symm)];have h8:=(Qv.1 c).1;refine((d.own b a oM c).af u).keep b7 λP B e=>?_;rcases e with e|e
    ·exact(d.aE b P B).2.2 e
    ·exact d.ap b i P (λe=>l e.symm) B e
  have a7:∀a∈L.set i j,aN a.x.n/\vb a.x.set/\a.x.set.length<=64:=λa c=>by
   obtain⟨b,l,rfl⟩:=List.getElem_of_mem c;have k:(L.set i j)[b]? =some (L.set i j)[b]:=Qq l;generalize(L.set i j)[b]=a at k;rw[Xj]at k
   by_cases d3:i=b
   ·rw[Zx d3,Zx oM]at k
    cases k
    rw[g];refine Sc (λR Y=>?_) (a0 i _ b5) a2 λh3=>?_
    ·obtain⟨c9,hq,rfl⟩:=List.getElem_of_mem Y
     obtain⟨b',o',es,-,-,-,-,-,e1⟩:=c5.el c9 _ (Qq hq);exact e1
    ·rw[Dq]at M
     have c:No t cells (i:Int) op arg=true:=by
      cases hq:No t cells (i:Int) op arg
      ·rw[hq]at M;simp at M
      ·rfl
     unfold No at c;subst h3;simp only[Qx,c7]at c;simpa using c
   ·rw[Zq d3]at k
    exact a0 b _ (by rw[<-d.eq,Q9,k];rfl)
  have e2:∀a∈L.set i j,a.x.set.length<=64:=λa c=>(a7 a c).2.2;have hU:aV jY.Ls 84 (λP=>aI n=some P\/((∃b,b≠i/\p b P)\/z P)) b6 n q C ((L.set i j).map (·.x)):=by
   refine fO.unbox (N:=jY) (D:=λP=>(∃b,b≠i/\p b P)\/z P) d0 (λa c=>(⟨?_,a7 a c⟩:jY.In b6 _ a)) (λP B=>?_)
   ·obtain⟨b,l,rfl⟩:=List.getElem_of_mem c
    have J:=d2 b _ (Qq l);refine(J.row (bytes:=8) dC ?_).mono λP B=>?_
    ·have:=e2 _ c;unfold aS;omega
    ·split at B
     ·exact .inr B
     ·rename_i X;exact .inl ⟨b,X,B⟩
   ·rcases B with⟨b,-,B⟩|B
    ·have:=d.aE b P B;exact⟨oM,this.2.2⟩
    ·refine⟨a6.aE P B,λe=>?_⟩
     rcases d1 P B with h|h
     ·exact(d.aE i P h).2.2 e
     ·have:=Q P e;omega
  refine⟨rfl,Ok.mk ⟨n,q,C,(λP=>aI n=some P\/((∃b,b≠i/\p b P)\/z P)),rfl,?_,?_,?_⟩⟩
  ·rw[Sb o.Tm o.Tn,Qx,c7,<-g,<-d.eq,<-List.map_set];exact hU
  ·exact c4.new b7 λP B=>.inr (by
    rcases B with B|B
    ·have:=x P B;omega
    ·have:=(d.aE i P B).1;omega)
  ·rintro P (B|⟨b,-,B⟩|B)
   ·have:=x P B;omega
   ·have:=(d.aE b P B).1;omega
   ·have:=b8 P B;omega
end
end Go.Proofs.YtblabbpipmodgaaGreatDoor
namespace Go.au
open Go
variable{d:XU}{x:XT}
section
variable {α β:Type} {N:fO α β} {w9 w w':World} {a:XU} {n c j:Nat} {L0:List (Bx α)} {e:TypeId}
def fl(N:fO α β)(e:TypeId)(w9:World)(a:XU)(n c:Nat)(L0:List (Bx α))(j:Nat)(w':World):Prop:=
 ∃(b:List (Bx α)) (g:XM),aV N.kO e (λP=>aI a=some P) w' a n c b/\b.map (·.x)=L0.map (·.x)/\(∀(h:Nat) (P:Bx α),h<j->b[h]? =some P->N.In w' g P)/\(∀f:Nat,j<=f->b[f]? =L0[f]?)/\
  aj (λP=>aI a=some P) w9 w'/\∀d,g d->w9.heap.size<=d/\d<w'.heap.size/\¬aI a=some d
def fl.start(P:aV N.kO e (λb=>aI a=some b) w9 a n c L0):fl N e w9 a n c L0 0 w9:=
 ⟨L0,λ_=>False,P,rfl,λd b f=>oM,λ_ _=>rfl,aj.refl _,λ_ P=>P.elim⟩
def fl.af(b:fl N e w9 a n c L0 j w)(P:ai w w'):fl N e w9 a n c L0 j w':=by
 obtain⟨h,i,k,l,m,o,p,d⟩:=b;exact⟨h,i,k.af P,l,λq r s t=>(m q r s t).keep P λ_ _ b=>b,o,p.af P,λf g=>⟨(d f g).1,Qk (d f g).2.1 P.size,(d f g).2.2⟩⟩
def fl.keep(P:fl N e w9 a n c L0 j w):aj (λb=>aI a=some b) w9 w:=P.elim λd P=>P.elim λD P=>P.2.2.2.2.1
def fl.len(P:fl N e w9 a n c L0 j w):n=L0.length:=by
 obtain⟨g,h,b,d,-⟩:=P;have:=Zj List.length d;simp at this;have f:0<N.k:=Nat.lt_of_le_of_lt (Qj _) N.ho;rw[b.len f,this]
def fl.some(b:fl N e w9 a n c L0 j w)(h:j<n):∃P,a=XL P:=by
 obtain⟨i,k,d,-⟩:=b;rcases d.body with⟨cs,l,f,-⟩;rcases f.cases with⟨-,m,-⟩|⟨P,g,e,-⟩
 ·omega
 ·exact⟨P,e⟩
def fl.cell(l:fl N e w9 a n c L0 j w){g:Nat}(m:a=Option.some ⟨g,0,none⟩){P:Bx α}(o:L0[j]? =Option.some P)(p:n*N.k<=aS):∀d f,(N.hd P.x P.a P.n P.c)[d]? =Option.some f->w.cell? ⟨g,0+j*N.k+d,none⟩=Option.some f:=by
 obtain⟨t,u,h,v,x,q,y,z⟩:=l;have i:0<N.k:=Nat.lt_of_le_of_lt (Qj _) N.ho;have r:=h.row (bytes:=N.k) i (by rw[<-h.len i];exact p);obtain⟨A,B,C,b,-,-,s,rfl,-⟩:=r.el j P (by rw[q j (Q4 _)];exact o);rw[m]at b;cases b
 intro d f k;rw[<-k];exact s d (by have:=(Qv.1 k).1;rw[N.hl]at this;exact this)
def fl.step(v:fl N e w9 a n c L0 j w){g:Nat}(m:a=Option.some ⟨g,0,none⟩){b:Bx α}(h:L0[j]? =Option.some b){o y:Nat}{G:XM}(z:Row N.ci N.ib w G d o (N.inner b.x))(A:N.ok b.x)(i:∀P,G P->w9.heap.size<=P/\P<w.heap.size)(Q:g<w9.heap.size)(k:∀w',fl N e w9 a n c L0 (j+1) w'->aj (λb=>aI a=Option.some b) w w'->w'.heap.size=w.heap.size->x w'):
  PS w ⟨g,0+j*N.k+N.o,none⟩ (.slice d o y) x:=by
 obtain⟨C,E,F,H,I,p,J,q⟩:=v;have r:C[j]? =Option.some b:=by rw[p j (Q4 _)];exact h
 have K:=(Qv.1 r).1;have s:∀P,G P->¬aI a=Option.some P:=λP B e=>by
  have:=(i P B).1;rw[m]at e;simp only[aI,Q1]at e;omega
 refine fO.set F r m λL M f l=>k L ⟨_,λP=>E P\/G P,M,?_,?_,?_,J.then f,?_⟩ f l
 ·rw[List.map_set,H]
  apply X3;intro R;rw[Xj];split
  ·rename_i e;subst e
   rw[Zx (by simpa using(Qv.1 h).1),Q9,h];rfl
  ·rfl
 ·intro t P S B
  rw[Xj]at B
  by_cases u:j=t
  ·subst u
   rw[Zx rfl,Zx K]at B
   cases B
   exact⟨(z.keep f λP B=>s P B).mono λP B=>.inr B,A⟩
  ·rw[Zq u]at B
   exact((I t P oM B).keep f λP B=>(q P B).2.2).mono λP B=>.inl B
 ·intro O T
  rw[Xj,Zq oM,p O oM]
 ·rintro P (B|B)
  ·rw[l];exact q P B
  ·rw[l];exact⟨(i P B).1,(i P B).2,s P B⟩
def fl.done(f:fl N e w9 a n c L0 n w):∃g,aV N.Ls e g w a n c (L0.map (·.x))/\∀P,g P->aI a=Option.some P\/w9.heap.size<=P:=by
 have q:=f.len;obtain⟨i,j,k,h,l,r,s,d⟩:=f;have t:i.length=L0.length:=by have:=Zj List.length h;simpa using this
 rw[<-h];refine⟨_,fO.unbox (D:=j) k (λu m=>?_) λP b=>⟨(d P b).2.1,(d P b).2.2⟩,λP b=>b.imp id λb=>(d P b).1⟩;obtain⟨o,p,rfl⟩:=List.getElem_of_mem m;exact l o _ oM (Qq p)
end
end Go.au
namespace Go.Proofs.YtblabbpipmodgaaGreatDoor
open Go.au
def oE:fO ah Int where
 k:=10
 ci:=aM
 ib:=8
 inner:=(·.aJ)
 hd:=aF
 ok:=ah.Ok
 hl:=λ_ _ _ _=>rfl
 h1:=λa b c d e P=>by
  simp only[aF,Q2,List.not_mem_nil,or_false]at P;rcases P with rfl|rfl|rfl|rfl|rfl|rfl|rfl|rfl|rfl|rfl<;>rfl
 o:=3
 ho:=dC
 fQ:=λ_ _ _ _ _ _ _=>rfl
def Qa:oE.Ls=iC:=rfl
def HW:fO br jM where
 k:=4
 ci:=fL
 ib:=32
 inner:=(·.bt)
 hd:=dF
 ok:=λP=>aN P.kind/\aN P.dO
 hl:=λ_ _ _ _=>rfl
 h1:=λb c d e f a=>by
  simp only[dF,Q2,List.not_mem_nil,or_false]at a;rcases a with rfl|rfl|rfl|rfl<;>rfl
 o:=3
 ho:=dC
 fQ:=λ_ _ _ _ _ _ _=>rfl
def Fh:HW.Ls=nY:=rfl
variable{e:Int}{b5:List cW}{a c:Nat}{d:XU}{l:ah}
section
variable {w w':World} {D E F:XM}
def sL{w:World}{D:XM}(h:Row aM 8 w D d a l.aJ)(s:∀P,D P->P<w.heap.size):
  ZH 147 #[jJ l d a c] w (Ok λt w'=>∃d a c G,t=jJ l d a c/\Row aM 8 w' G d a l.aJ/\(∀P,G P->w.heap.size<=P/\P<w'.heap.size)/\ai w w'):=by
 have u:=h.ef;have v:=h.len;refine DO (PA.mk λz m A e=>PA.mk λB f C i=>⟨_,_,_,ae (f.get e id) rfl,PC.ok (cC (h.af (m.then f)) λP b=>by have:=s P b;omega) ?_⟩);rintro _ E ⟨n,o,p,G,rfl,q,g,j⟩;have e:=g.get (f.get e id) id;have i:=g.get i id;refine⟨_,_,_,rfl,PS.mk e (by simp[aF]) λF k H x=>?_⟩;refine ay (cs:=aF l n o p) (bf _ _ _ _) x (aC (bf _ _ _ _) (k.get i oM) rfl λI r J y=>ay (bf _ _ _ _) y (Ok.mk ⟨n,o,p,G,rfl,?_,?_,?_⟩))
 ·refine(((q.keep k λP b=>?_).keep r λP b=>?_).row (bytes:=8) dC (by rw[<-v];exact u))
  ·have:=j P b;omega
  ·have:=j P b;omega
 ·intro P b
  have:=j P b;have:=q.aE P b;omega
 ·have K:=g.size
  exact((aj.new ((m.then f).then g) k λP b=>.inr oM).new r λP b=>.inr oM)
def IW(h:Row gG 32 w D d a b5)(C:∀P,D P->P<w.heap.size):
  ZH 153 #[.agg #[QH e,.slice d a c]] w (Ok λa1 w'=>∃E H I F,a1= .agg #[QH e,.slice E H I]/\aV gG 84 F w' E H I b5/\(∀P,F P->w.heap.size<=P)/\ai w w'):=by
 obtain⟨l,J,l2,l3⟩:=fO.boxes h;have K:=h.ef;have c1:=h.len;have c2:l.length=b5.length:=by rw[<-J];simp
 refine DP (PA.mk λL M s1 N=>PA.mk λw2 p s2 g2=>⟨_,_,_,ae (p.get N id) rfl,PC.ok (oS (l2.af (M.then p)) λP b=>by have:=C P b;omega) ?_⟩);rintro _ w9 ⟨j,m,v,F9,rfl,q,r,b6⟩;have n:∀P,aI j=some P->w2.heap.size<=P:=λP b=>b6 P (q.self P b);have a2:∀P,aI j=some P->P<w9.heap.size:=λP b=>q.aE P (q.self P b);refine⟨_,_,_,rfl,PS.mk (r.get (p.get N id) id) sM λs x c3 t=>⟨_,_,_,ae t rfl,?_⟩⟩;have z9:=r.size;have a3:=x.get (r.get g2 id) oM;have a4:aV jY.kO 84 (λP=>aI j=some P) s j m v l:=q.alone.keep x λP b f=>by have:=n P b;omega
 have a5:ai w s:=((M.then p).then r).new x λP b=>.inr oM;refine⟨λO a6 w'=>∃g:Nat,a6=g/\g<=m/\O=m-g/\fl jY 84 s j m v l g w',⟨_,0,rfl,Qj _,rfl,fl.start a4⟩,?_⟩;rintro O _ _ Q ⟨g,rfl,hj,rfl,i⟩;have c4:=i.len;have y:ai w Q:=a5.new i.keep λP b=>.inr (by have:=n P b;omega);have z:¬aI j=some w.heap.size:=λf=>by have:=n _ f;omega
 have R:¬aI j=some L.heap.size:=λf=>by have:=n _ f;omega
 refine al.dec (λc5=>λb7 b8=>?_) (λc6=>?_)
 ·have o:ai Q b7:=b8.keep
  have S:=i.af o;obtain⟨k,rfl⟩:=i.some oM;have c7:=n k rfl;have a7:k<s.heap.size:=by have:=a2 k rfl;omega
  have A:l[g]? =some l[g]:=Qq oM;have u:=l3 l[g] (XY oM);generalize l[g]=B at A u;have T:=o.get (i.keep.get t z) id;refine⟨λP=>P=k,by show w.heap.size≠k;omega,_,_,_,ae T rfl,_,_,_,ae T rfl,k,0,rfl,by omega,by omega,_,_,_,S.cell rfl A (by show m*2<=aS;unfold aS at K⊢;omega) 1 _ rfl,PC.ok (cC ((u.1.af y).af o) λP b=>by have:=C P b;have:=(y.then o).size;omega) ?_⟩;rintro _ c8 ⟨d0,d1,d2,G,rfl,U,V,hG⟩;refine⟨_,_,_,rfl,ai.keep V,k,0,rfl,oM,oM,?_⟩;have d3:=i.keep.size;have d4:=o.size;refine(S.af V).step (g:=k) rfl A (U.row (bytes:=8) dC ?_) u.2 (λW X=>⟨by have:=hG W X;omega,U.aE W X⟩) a7 λd5 b0 b9 d6=>⟨b9.mono λP _ f=>(by simpa[aI]using f.symm),_,?_,g+1,an (by unfold aS at K;omega),oM,rfl,b0⟩
  ·have:B.x.set.length<=64:=u.2.2.2
   show(jY.inner B.x).length*8<=aS;unfold aS;show B.x.set.length*8<=_;omega
  ·omega
 ·obtain rfl:g=m:=oM
  obtain⟨Fd,Y,Z⟩:=i.done;rw[J]at Y;have d7:=i.keep.size;refine⟨_,_,_,_,ae (i.keep.get t z) rfl,ae (i.keep.get t z) rfl,PS.mk (i.keep.get a3 R) sM λd8 b2 d9 c0=>PS.mk c0 sM λe0 b3 e1 b4=>⟨_,_,_,_,ae b4 rfl,ae b4 rfl,Ok.mk ⟨j,_,v,Fd,rfl,?_,?_,?_⟩⟩⟩
  ·have a0:∀P,Fd P->P≠L.heap.size:=λP b f=>by
    rcases Z P b with h|h
    ·exact R (f▸h)
    ·omega
   exact(Y.keep b2 λP b f=>a0 P b f).keep b3 λP b f=>a0 P b f
  ·intro P b
   rcases Z P b with h|h
   ·have:=n P h;omega
   ·omega
  ·exact(y.new b2 λP b=>.inr oM).new b3 λP b=>.inr oM
end
variable{t:XU}{N:aW}
section
variable {w w':World} {D E F:XM}
def oK{P:List jb}(e:Row ud 40 w D d a P)(f:∀b,D b->b<w.heap.size):ZH 131 #[.slice d a c] w (Ok (vh ud 128 w P)):=
 ie (Ig IX dC e f λh w' g=>Ok.mk g)
def oL{P:List (Bx br)}(e:Row HW.kO 48 w D d a P)(f:∀b,D b->b<w.heap.size):ZH 132 #[.slice d a c] w (Ok (vh HW.kO 123 w P)):=
 gv (Ig NM dC e f λh w' g=>Ok.mk g)
def By{tn tc pn pc:Nat}(h:bl w D N d tn t pn)(S:∀P,D P->P<w.heap.size):
  ZH 145 #[.agg #[.slice d tn tc,.slice t pn pc]] w (Ok λa5 w'=>∃o yh T e f g G,a5= .agg #[.slice o yh T,.slice e f g]/\bl w' G N o yh e f/\(∀P,G P->w.heap.size<=P/\P<w'.heap.size)/\ai w w'):=by
 have d3:=h.bk.len;have C:=h.bk.ef;have d4:=h.A_.len;have d5:=h.A_.ef;refine xJ (PA.mk λw1 k1 s1 g1=>PA.mk λw2 E s2 g2=>⟨_,_,_,ae (E.get g1 id) rfl,PC.ok (oK (h.A_.af (k1.then E)) λP B=>by have:=S P B;omega) ?_⟩);rintro _ p ⟨e,f,g,G1,rfl,U,F,b4⟩;have z8:=F.size;refine⟨_,_,_,rfl,PA.mk λg4 d6 g5 d7=>PS.mk d7 sM λg6 d8 g7 d9=>PS.mk d9 sM λq e0 g8 e1=>?_⟩;have r:ai p q:=(d6.new d8 λP B=>.inr oM).new e0 λP B=>.inr oM;have b5:ai w q:=((k1.then E).then F).then r;have ga:=r.get (F.get (E.get g1 id) id) id;have gz:=r.get (F.get g2 id) id;have g9:=r.size;have b6:q.heap[p.heap.size]? =some (.cells #[.slice none 0 0,.slice e f g] 25 (0,0)):=e1;refine⟨_,_,_,ae ga rfl,λs V w'=>∃a:Nat,V=a/\a<=tn/\s=tn-a/\aj (·=p.heap.size) q w'/\∃H I W u,w'.heap[p.heap.size]? =some (.cells #[.slice H I W,.slice e f g] 25 (0,0))/\aV jX 130 u w' H I W (N.types.take a)/\∀P,u P->q.heap.size<=P,
  ⟨_,0,rfl,Qj _,rfl,aj.refl _,none,0,0,λ_=>False,b6,aV.nil _,λ_ h=>h.elim⟩,?_⟩
 rintro s _ _ Y ⟨a,rfl,hj,rfl,v,H,I,W,u,Z,i,l⟩;have J:ai w Y:=b5.new v λP B=>.inr oM;have zk:=v.size;refine al.dec (λh0=>?_) (λh3=>?_)
 ·have b7:a<N.types.length:=oM
  obtain⟨P,a6,es,ha,B,h4,a8,fa,fn,fc,rfl,K⟩:=(h.bk.af J).el a N.types[a] (by simp[b7]);have b8:N.types[a]? =some N.types[a]:=Qq b7;generalize N.types[a]=a1 at K b8;have c0:=a8 0 dC;have e2:jX.k=1:=rfl;rw[e2,Nat.mul_one]at c0;refine⟨P,a6,ha,oM,oM,fa,fn,fc,by rw[Qx];exact c0,PA.mk λh5 e3 h6 e4=>PS.mk e4 sM λb9 e5 h7 e6=>⟨_,_,_,ae e6 rfl,?_⟩⟩;have L:ai Y b9:=e3.new e5 λP B=>.inr oM;have c1:=J.then L;obtain⟨m,l1,l2,l3⟩:=fO.boxes (N:=HW) K;have a7:=K.ef;refine PC.ok (oL (l2.af L) λP B=>by have:=S P B;have:=c1.size;omega) ?_;rintro _ c2 ⟨a9,x,c9,F9,rfl,M,c3,e7⟩;have h8:=L.size;have h9:=c3.size;have O:∀P,aI a9=some P->b9.heap.size<=P:=λP B=>e7 P (M.self P B);have c4:∀P,aI a9=some P->P<c2.heap.size:=λP B=>M.aE P (M.self P B);refine⟨_,_,_,rfl,λs V w'=>∃a:Nat,V=a/\a<=x/\s=x-a/\fl HW 123 c2 a9 x c9 m a w',⟨_,0,rfl,Qj _,rfl,fl.start M.alone⟩,?_⟩;rintro s _ _ e8 ⟨n,rfl,hi,rfl,j⟩;have i0:=j.len;have i1:m.length=a1.length:=by rw[<-l1];simp
  have e9:=K.len;have y:ai Y e8:=(L.then c3).new j.keep λP B=>.inr (by have:=O P B;omega);have i2:=j.keep.size;refine al.dec (λf7=>?_) (λg0=>?_)
  ·obtain⟨Q,rfl⟩:=j.some oM
   have c5:=c4 Q rfl;have a0:m[n]? =some m[n]:=Qq oM;have z:=l3 m[n] (XY oM);generalize m[n]=R at a0 z;refine⟨Q,0,rfl,oM,oM,_,_,_,j.cell rfl a0 (by show x*4<=aS;unfold aS at a7⊢;omega) 3 _ rfl,PC.ok (rK (z.1.af y) λP B=>by have:=S P B;have:=(J.then y).size;omega) ?_⟩;rintro _ i3 ⟨i4,i5,i6,G,rfl,a2,f2,hG⟩;refine⟨_,_,_,rfl,Q,0,rfl,oM,oM,?_⟩;refine(j.af f2).step (g:=Q) rfl a0 (a2.row (bytes:=32) dC ?_) z.2 (λa3 hx=>⟨by have:=hG a3 hx;omega,a2.aE a3 hx⟩) c5 λi7 c6 i8 i9=>⟨_,?_,n+1,an (by unfold aS at a7;omega),oM,rfl,c6⟩
   ·have c:=z.1.ef
    have X:=z.1.len;show R.x.bt.length*32<=aS;have j0:R.n=R.x.bt.length:=X;have j1:R.n*32<=aS:=c;omega
   ·omega
  ·obtain rfl:n=x:=oM
   obtain⟨Fd,hd,b0⟩:=j.done;rw[l1,Fh]at hd;have a4:=y.get Z id;refine⟨_,_,_,ae a4 rfl,Fj (c:=jX) (x:=a1) (i.af y) Kj (D:=Fd) ⟨_,_,_,rfl,hd.row dC (by rw[<-e9];exact a7)⟩ (λP B=>⟨hd.aE P B,λb=>?_⟩) ?_ ?_ λa' A j2 F' d0 b1 c7 g3=>⟨_,_,_,rfl,?_⟩⟩
   ·have c:=i.aE P (i.self P b)
    rcases b0 P B with X|X
    ·have:=O P X;omega
    ·omega
   ·have:=List.length_take_le a N.types;unfold aS at C⊢;omega
   ·have:=List.length_take_le a N.types;unfold aS at C;unfold maxLen;omega
   ·have k:¬aI H=some p.heap.size:=λb=>by have:=l _ (i.self _ b);omega
    have f3:=b1.get a4 k;have j3:=b1.size;refine PS.mk f3 sM λj4 c8 j5 f5=>⟨_,?_,a+1,an (by unfold aS at C;omega),oM,rfl,?_,a',I+1,A,F',f5,?_,?_⟩
    ·omega
    ·exact((v.af y).new b1 λP B=>.inr (l _ (i.self P B))).then c8
    ·rw[Qw,b8]
     refine d0.keep c8 λP B b=>?_;rcases c7 P B with c|c|c
     ·have:=l P c;omega
     ·rcases b0 P c with X|X
      ·have:=O P X;omega
      ·omega
     ·omega
    ·intro P B
     rcases c7 P B with c|c|c
     ·exact l P c
     ·rcases b0 P c with X|X
      ·have:=O P X;omega
      ·omega
     ·omega
 ·obtain rfl:a=tn:=oM
  rw[Qz oM]at i;have d1:=v.get gz oM;have f0:=(U.af r).keep v λP B b=>by have:=U.aE P B;omega
  refine⟨_,_,_,_,_,_,ae Z rfl,ae Z rfl,PS.mk d1 sM λj6 b2 j7 f6=>PS.mk f6 sM λj8 b3 j9 d2=>⟨_,_,_,_,_,_,ae d2 rfl,ae d2 rfl,Ok.mk ⟨_,_,_,_,_,_,λP=>u P\/G1 P,rfl,⟨?_,?_⟩,?_,?_⟩⟩⟩
  ·have k:∀P,u P->P≠w1.heap.size:=λP B b=>by have:=l P B;omega
   exact((((i.row (bytes:=24) dC (by rw[<-d3];exact C)).keep b2 λP B b=>k P B b).keep b3 λP B b=>k P B b)).mono λP B=>.inl B
  ·have k:∀P,G1 P->P≠w1.heap.size:=λP B b=>by have:=b4 P B;omega
   exact((((f0.row (bytes:=40) dC (by rw[<-d4];exact d5)).keep b2 λP B b=>k P B b).keep b3 λP B b=>k P B b)).mono λP B=>.inr B
  ·rintro P (B|B)
   ·have:=l P B;have:=i.aE P B;omega
   ·have:=b4 P B;have:=U.aE P B;omega
  ·exact(J.new b2 λP B=>.inr oM).new b3 λP B=>.inr oM
end
end Go.Proofs.YtblabbpipmodgaaGreatDoor
namespace Go.au
open Go
def ny{P a b:Type}(c:P->a->b->Prop):List (P×a)->List (P×b)->Prop
 |[],[]=>True
 |(d,e)::f,(g,h)::i=>d=g/\c d e h/\ny c f i
 |_,_=>False
section
variable {κ β γ:Type} {R R':κ->β->γ->Prop}
def ny.mono:∀{P:List (κ×β)} {a:List (κ×γ)},ny R P a->(∀e b c,R e b c->R' e b c)->ny R' P a
 |[],[],_,_=>trivial
 |(g,b)::P,(h,c)::a,d,f=>⟨d.1,f _ _ _ d.2.1,ny.mono d.2.2 f⟩
def ny.aq[BEq κ][LawfulBEq κ](P:κ):∀{a:List (κ×β)} {b:List (κ×γ)},ny R a b->
  (au.aq a P=none/\au.aq b P=none)\/∃c d,au.aq a P=some c/\au.aq b P=some d/\R P c d
 |[],[],_=>.inl ⟨rfl,rfl⟩
 |(f,c)::a,(j,d)::b,g=>by
  obtain⟨rfl,h,i⟩:=g;unfold au.aq
  by_cases e:P==f
  ·obtain rfl:P=f:=by simpa using e
   simp only[e,if_true];exact .inr ⟨c,d,rfl,rfl,h⟩
  ·simp only[e];exact ny.aq P i
def ny.off{g:κ}:∀{P:List (κ×β)} {a:List (κ×γ)},ny R P a->(∀b c d,b≠g->R b c d->R' b c d)->g∉P.map (·.1)->ny R' P a
 |[],[],_,_,_=>trivial
 |(j,c)::P,(k,d)::a,e,h,f=>by
  simp only[QY,Q2,not_or]at f;exact⟨e.1,h _ _ _ (λi=>f.1 i.symm) e.2.1,ny.off e.2.2 h f.2⟩
def ny.aH[BEq κ][LawfulBEq κ]{P:κ}{a:β}{b:γ}(f:R' P a b):∀{c:List (κ×β)} {g:List (κ×γ)},ny R c g->(∀h a b,h≠P->R h a b->R' h a b)->Tidy c->ny R' (au.aH c P a) (au.aH g P b)
 |[],[],_,_,_=>⟨rfl,f,trivial⟩
 |(j,p)::c,(q,r)::g,l,i,d=>by
  obtain⟨rfl,m,k⟩:=l;unfold Tidy at d;simp only[QY,List.nodup_cons]at d;unfold au.aH
  by_cases e:P==j
  ·simp only[e,if_true]
   obtain rfl:P=j:=by simpa using e
   refine⟨rfl,f,?_⟩;have n:P∉c.map (·.1):=d.1;exact ny.off k i n
  ·simp only[e]
   exact⟨rfl,i _ _ _ (λo=>e (by simp[o])) m,ny.aH f k i d.2⟩
end
def uL{c:Type}(e:World)(f:Nat)(a:c->Value)(g:c)(h:Int):Prop:=
 ∃(d:Array MapEntry) (P i:Nat) (b:MapEntry),e.heap[f]? =some (.map d P)/\d[i]? =some b/\b.key=a g/\(b.born:Int)=h
variable{e:Int}{a:Nat}{i:Type}{v:Value}{m r:XN}{b k:World}{x:XT}
def uL.keep{S:XM}{c:i->Value}{d:i}(f:uL b a c d e)(g:aj S b k)(h:¬S a):uL k a c d e:=by
 obtain⟨j,P,l,m,n,o⟩:=f;exact⟨j,P,l,m,g.get n h,o⟩
section
variable {κ:Type} [BEq κ] [LawfulBEq κ] {P:Program} {t kt vt:TypeId} {z:Value} {enc:κ->Value}
def CE{κ d:Type}[BEq κ][LawfulBEq κ]{a:κ}{e:d}:∀{b:List (κ×d)},aq b a=some e->aH b a e=b
 |(f,g)::b,P=>by
  unfold aq at P;unfold aH
  by_cases c:a==f
  ·rw[Zx c]at P⊢
   obtain rfl:a=f:=by simpa using c
   cases P;rfl
  ·rw[Zq c]at P⊢
   rw[CE P]
def Es(w:lT P t kt vt z)(o:iD P kt enc){e:List (κ×Value)}(x:bU b a enc e){k:κ}(p:∀w' C,bU w' a enc (aH e k ((aq e k).getD z))->uL w' a enc k C->aj (·=a) b w'->w'.heap.size=b.heap.size->m (.tuple #[(aq e k).getD z,QH C]) w'):aG P (Instr.mapEntry t (.map (some a)) (enc k)) b m r:=by
 obtain⟨d,c,j,l,y,E⟩:=x.at';have q:=jt o k d.toList e l b;have I:d.toList.length=e.length:=by have:=Zj List.length l;simpa using this
 have s:=aB j;have h:=vX e k 0
 cases u:lK e k 0 with
 |none=>
  rw[u]at q h;have v:aq e k=none:=h.symm;rw[v]at p;have J:=w.KL b;refine aG.mk (w':={b with heap:=b.heap.setIfInBounds a (.map (d.push {key:=enc k,val:=z,born:=c}) (c+1))}) ?_ (p _ c ⟨⟨_,_,cR b a _ s,?_,?_,?_⟩,x.tidy.aH k z⟩ ⟨_,_,d.size,{key:=enc k,val:=z,born:=c},cR b a _ s,sM,rfl,rfl⟩ (aj.setObj b a _) sM)
  ·simp[Instr.mapEntry,run_underlying w.under,dz j,dH o,q,eC j,J,goInt]
  ·rw[Option.getD_none,(qx u).1 z];simp[l]
  ·intro g i
   simp only[Array.toList_push,Q6,List.mem_singleton]at i;rcases i with i|rfl
   ·have:=y g i;omega
   ·show c<c+1;omega
  ·simp only[Array.toList_push,Q3,QY,List.map_nil]
   rw[List.nodup_append];refine⟨E,sM,?_⟩;intro K h L A T;simp only[List.mem_singleton]at A;obtain⟨g,i,rfl⟩:=Xk.1 h;have:=y g i;omega
 |some M=>
  obtain⟨f,F⟩:=M;rw[u]at q h;have v:aq e k=some F:=h.symm;obtain⟨_,N,H,O⟩:=mG u;rw[Nat.sub_zero]at N H O;have B:f<d.size:=by
                 have:d.size=e.length:=by simpa using I
                 omega
  have n:d[f].key=enc k:=by
   have:=Zj (·[f]?) l;simp only[Q9,H,Option.map_some]at this;simp[B]at this;exact this.1
  have Q:(d.modify f λg=>{g with key:=enc k})=d:=by
   apply Array.ext
   ·simp
   ·intro U V W
    rw[Array.getElem_modify];split
    ·rename_i g;subst g
     cases R:d[f]with
     |mk K L m=>rw[R]at n;simp at n;simp[n]
    ·rfl
  rw[v]at p;refine aG.mk (w':={b with heap:=b.heap.setIfInBounds a (.map d c)}) ?_ (p _ (d[f].born) ⟨⟨_,_,cR b a _ s,?_,y,E⟩,x.tidy.aH k F⟩ ⟨_,_,f,d[f],cR b a _ s,by simp[B],n,rfl⟩ (aj.setObj b a _) sM)
  ·have S:(Instr.keyThatStays (enc k) (enc k)).run P b= .ok (enc k) b:=by simp[Instr.keyThatStays,o.same]
   simp[Instr.mapEntry,run_underlying w.under,dz j,dH o,q,B,n,S,eC j,Q,goInt]
  ·rw[Option.getD_some,CE v];exact l
def Ar(J:iD P kt enc){d:List (κ×Value)}(s:bU b a enc d){i:κ}(K:uL b a enc i e)(L:∀o,bU o a enc (aH d i v)->aj (·=a) b o->o.heap.size=b.heap.size->x o):km P (Instr.entryStore t (.map (some a)) (QH e) v) b x m:=by
 obtain⟨g,l,p,u,M,z⟩:=s.at';obtain⟨N,q,c,j,n,O,A,Q⟩:=K;rw[p]at n;cases n
 subst Q;have R:g.toList.length=d.length:=by have:=Zj List.length u;simpa using this
 have S:=aB p;obtain⟨r,rfl⟩:=Q5.1 O;have w:c<d.length:=by
                have:g.size=d.length:=by simpa using R
                omega
 have B:d[c]? =some (i,g[c].val):=by
  have:=Zj (·[c]?) u;simp only[Q9,Qq w,Option.map_some]at this;simp[r]at this;have T:d[c].1=i:=J.inj (by rw[<-this.1,A]);rw[Qq w]
  congr 1
  exact Prod.ext T this.2.symm
 have U:aH d i v=d.set c (i,v):=by
  cases C:lK d i 0 with
  |none=>
   have E:=vX d i 0;rw[C]at E;have:=mr.1 E.symm;exact Zz (Xk.2 ⟨_,QZ B,rfl⟩) this
  |some V=>
   obtain⟨h,a2⟩:=V;obtain⟨_,f,F,H⟩:=mG C;rw[Nat.sub_zero]at f F H;have k:h=c:=by
    have W:(d.map (·.1))[h]? =some i:=by rw[Q9,F];rfl
    have X:(d.map (·.1))[c]? =some i:=by rw[Q9,B];rfl
    obtain⟨Y,Z⟩:=Qv.1 W;obtain⟨q3,q4⟩:=Qv.1 X;exact(List.getElem_inj (xs:=d.map (λe=>e.1)) (h₀:=Y) (h₁:=q3) (show(d.map (λe=>e.1)).Nodup from s.tidy)).1 (Z.trans q4.symm)
   rw[(H v).1,k]
 have a0:g.findIdx? (λj=>(j.born:Int)==(g[c].born:Int))=some c:=by
  rw[Array.findIdx?_eq_some_iff_getElem];refine⟨r,sM,λh f=>?_⟩;have a1:h<g.size:=oM
  have a3:g[h].born≠g[c].born:=λj=>by
   have:=(List.getElem_inj (xs:=g.toList.map (·.born)) (h₀:=by simpa using a1) (h₁:=by simpa using r) z).1 (by simpa using j);omega
  simp;omega
 refine km.mk (w':={b with heap:=b.heap.setIfInBounds a (.map (g.modify c λj=>{j with val:=v}) l)}) ?_ (L _ ⟨⟨_,_,cR b a _ S,?_,?_,?_⟩,s.tidy.aH i v⟩ (aj.setObj b a _) sM)
 ·simp[Instr.entryStore,dz p,asInt,asIntOf,a0,eC p]
 ·rw[U]
  apply X3;intro h;have f:=Zj (·[h]?) u;simp only[Q9]at f;simp only[Array.toList_modify,Q9,Xj,List.getElem?_modify]
  by_cases k:c=h
  ·subst k
   simp[r,w,A]
  ·simp only[k,if_false,Option.map_map]at f⊢
   simpa using f
 ·intro j I
  rw[Array.toList_modify]at I;obtain⟨h,f⟩:=List.getElem?_of_mem I;rw[List.getElem?_modify]at f
  cases y:g.toList[h]? with
  |none=>rw[y]at f;simp at f
  |some e'=>
   rw[y]at f;have hm:=QZ y;have:=M e' hm
   by_cases k:c=h
   ·simp[k]at f;subst f;exact this
   ·simp[k]at f;subst f;exact this
 ·have:(g.modify c λj=>{j with val:=v}).toList.map (·.born)=g.toList.map (·.born):=by
   apply X3;intro h;simp only[Array.toList_modify,Q9,List.getElem?_modify,Option.map_map]
   by_cases k:c=h<;>simp[k]<;>rfl
  rw[this];exact z
end
end Go.au
namespace Go.Proofs.YtblabbpipmodgaaGreatDoor
open Go.au
def uZ{f:Type}{d:f->Int}:∀{e:List f},cG d e=0->∀b∈e,d b=0
 |[],_,b,a=>by cases a
 |y::e,P,b,a=>by
  unfold cG at P
  by_cases c:d y=0
  ·rw[c]at P
   simp only[bne_self_eq_false,Bool.false_eq_true,if_false]at P;rcases Q2.1 a with rfl|a
   ·exact c
   ·exact uZ P b a
  ·rw[Zx (by simpa using c)]at P
   exact Zz P c
variable{e u:Int}{d3:Int×Int}{B:List ah}{c0:List br}{b5:List cW}{a c j p:Nat}{f:XM}{c7 d t:XU}{g:TypeId}{v:Value}{b:World}{N:aW}{l:ah}{d5:bd}{b4:br}{d6:jb}
def lM(P:dt N=0):qb N=false/\(∀a∈N.types,∀d∈a,fj a d=0)/\∀e∈N.projs,ll N e=0:=by
 unfold dt at P;split at P
 ·simp at P
 ·rename_i f
  simp only at P;split at P
  ·rename_i b
   exact Zz P (by simpa using b)
  ·rename_i b
   refine⟨by simpa using f,λa g=>?_,uZ P⟩;have c:cG (λa=>cG (fj a) a) N.types=0:=by simpa using b
   exact uZ (uZ c a g)
def yv(P:qb N=false):1<=N.types.length/\N.types.length<=8/\N.projs.length<=8/\∀a∈N.types,1<=a.length/\a.length<=8:=by
 unfold qb at P;split at P
 ·cases P
 ·rename_i b
  simp only[Bool.or_eq_true,Bool.not_eq_true',Zk,not_or,Bool.not_eq_false,Nat.not_lt]at b;obtain⟨b,c⟩:=b;rw[bF]at b;refine⟨oM,oM,c,λa d=>?_⟩;rw[List.any_eq_false]at P;have:=P a d;simp only[Bool.or_eq_true,Bool.not_eq_true',not_or,Bool.not_eq_false]at this;have:=bF.1 this.1;omega
def Rr(P:fj c0 b4=0):∀a∈b4.bt,a.ky<(c0.length:Int):=by
 intro a c;unfold fj at P;split at P
 ·simp at P
 split at P
 ·simp at P
 split at P
 ·simp at P
 split at P
 ·simp at P
 ·rename_i b
  rw[Bool.not_eq_true,List.any_eq_false]at b;have:=b a c
  by_cases d:a.ky= -1
  ·omega
  ·have:Pu c0 a.ky 1=true:=by
    simpa[d]using this
   unfold Pu at this;simp only[QK]at this;have:=bF.1 this.1;omega
def uW(P:N.BJ e u=some b4):0<=e/\e<(N.types.length:Int)/\N.at e=N.types.getD e.toNat []/\0<=u/\u<((N.at e).length:Int)/\(N.at e).getD u.toNat ⟨0,0,false,[]⟩=b4/\b4∈N.at e:=by
 unfold aW.BJ at P;split at P
 ·rename_i a
  simp only[QK,bF]at a;refine⟨a.1.1,oM,?_,a.2.1,oM,by rw[QQ,P];rfl,QZ P⟩;unfold aW.at;rw[Zx (bF.2 a.1)]
 ·cases P
def at_mem(a:0<=e)(b:e<(N.types.length:Int)):N.at e∈N.types:=by
 unfold aW.at;rw[Zx (bF.2 ⟨a,oM⟩)];have P:e.toNat<N.types.length:=oM
 have:N.types.getD e.toNat []=N.types[e.toNat]:=by simp[QQ,P]
 rw[this];exact XY P
def Le(n:dt N=0){a c f arg:Int}(P:kq N a c f arg=0)(o:b5.length=(N.at a).length):
  FJ (N.at a) b5 c f arg/\0<=a/\a<(N.types.length:Int)/\(N.at a).length<=8:=by
 obtain⟨p,q,y⟩:=lM n;obtain⟨z,A,B,r⟩:=yv p;unfold kq at P
 cases d:N.BJ a c with
 |none=>rw[d]at P;simp at P
 |some b=>
  rw[d]at P;simp only at P;obtain⟨g,h,C,s,t,u,v⟩:=uW d;split at P
  ·simp at P
  ·rename_i i
   split at P
   ·simp at P
   ·rename_i j
    simp only[Bool.or_eq_true,Bool.not_eq_true',not_or,Bool.not_eq_false]at i j;have k:=bF.1 i.1;have l:=at_mem g h;refine⟨⟨s,t,o,k.1,k.2,λw=>?_⟩,g,h,(r _ l).2⟩;rw[u];have x:=Rr (q _ l b v);have e:within arg 0 (b.bt.length-1)=true:=by
     have:=j.2;simp only[QK,beq_iff_eq,Bool.not_eq_true',not_and,Bool.not_eq_false]at this;exact this w
    have e:=bF.1 e;have m:arg.toNat<b.bt.length:=oM
    refine⟨e.1,oM,?_⟩;have:b.bt.getD arg.toNat ⟨0,0,0,0⟩=b.bt[arg.toNat]:=by simp[QQ,m]
    rw[this];exact x _ (XY m)
structure bd.OK (V:bd):Prop where
 decl:dt V.decl=0
 st:∀x∈V.eE,x.2.cells.length=(V.decl.at x.1.1).length
def Lf(a:List br)(P:List cW)(b c arg:Int):(PJ a P b c arg).length=P.length:=by
 unfold PJ
 simp only;split
 ·simp
 split
 ·simp
 split
 ·simp
 split
 ·simp
 split
 ·simp
 ·rfl
def bd.cellsOf(a:bd)(P:ah):List cW:=match aq a.eE (P.bk,P.agg)with
 |some b=>b.cells
 |none=>dP (a.decl.at P.bk)
def bd.OK.len(a:d5.OK)(P:ah):(d5.cellsOf P).length=(d5.decl.at P.bk).length:=by
 unfold bd.cellsOf
 cases b:aq d5.eE (P.bk,P.agg)with
 |none=>simp[dP]
 |some c=>exact a.st _ (b_ b)
def bd.qz(a:bd)(P:ah):a.try P=if kq a.decl P.bk P.field P.op P.arg≠0 then(true,(0,0),a)else
  match((aq a.done (P.bk,P.agg,P.field)).getD []).find? λb=>lD ((a.decl.at P.bk).getD P.field.toNat ⟨0,0,false,[]⟩) b P with
  |some b=>(true,aX b,a)
  |none=>if vg (a.decl.at P.bk) (a.cellsOf P) P.field P.op P.arg≠0 then(true,(0,0),a)else
   (false,(0,0),{a with eE:=aH a.eE (P.bk,P.agg) ⟨nX (((aq a.eE (P.bk,P.agg)).getD ⟨0,[]⟩).version+1),PJ (a.decl.at P.bk) (a.cellsOf P) P.field P.op P.arg⟩,done:=aH a.done (P.bk,P.agg,P.field) ((aq a.done (P.bk,P.agg,P.field)).getD []++[P])}):=rfl
def bd.Pp(P:d5.OK)(b:ah):(d5.try b).2.2.OK/\(d5.try b).2.2.decl=d5.decl:=by
 rw[bd.qz];split
 ·exact⟨P,rfl⟩
 split
 ·exact⟨P,rfl⟩
 split
 ·exact⟨P,rfl⟩
 ·refine⟨⟨P.decl,λc a=>?_⟩,rfl⟩
  rcases fe a with rfl|a
  ·show(PJ _ _ _ _ _).length=_
   rw[Lf,P.len]
  ·exact P.st c a
def bd.yy(b:d5.OK)(P:ah):(d5.add P).2.OK/\(d5.add P).2.decl=d5.decl:=by
 obtain⟨a,c⟩:=bd.Pp b P;exact⟨⟨a.decl,a.st⟩,c⟩
def bd.rL(P:dt N=0):(bd.new N).OK:=⟨P,λb a=>by cases a⟩
def Vs:fO gX Int where
 k:=13
 ci:=aM
 ib:=8
 inner:=(·.ev.aJ)
 hd:=λP a b c=>aF P.ev a b c++[.bool P.void,QH P.EW.1,QH P.EW.2]
 ok:=λP=>P.ev.Ok
 hl:=λ_ _ _ _=>rfl
 h1:=λP a b c e d=>by
  simp only[aF,List.cons_append,List.nil_append,Q2,List.not_mem_nil,or_false]at d;rcases d with rfl|rfl|rfl|rfl|rfl|rfl|rfl|rfl|rfl|rfl|rfl|rfl|rfl<;>rfl
 o:=3
 ho:=dC
 fQ:=λ_ _ _ _ _ _ _=>rfl
abbrev SP:jK gX:=Vs.Ls
abbrev tf(P:gX)(a:XU)(b c:Nat):List Value:=aF P.ev a b c++[.bool P.void,QH P.EW.1,QH P.EW.2]
def Uc:jx XG 43 160 13 120:=⟨kR,kR,dC⟩
def EY(P:gX)(a:XU)(b c:Nat):jf XG 160 (tf P a b c)=true:=kR
def Na(P:gX)(a:XU)(b c:Nat):Py (fW XG 160) (.agg (tf P a b c).toArray)=true:=kR
def Pl:HR XG 252 3:=⟨kR,kR,⟨ "typ", "no",kR,dC,dC⟩,kR,kR,kR⟩
def Rp:uY XG 306 252 3:=⟨Pl,kR,⟨ "agg", "field",kR,dC,dC⟩,kR,kR,kR⟩
def Ta:iD XG 252 nT:=Pl.key
def Vt:iD XG 306 AU:=Rp.key
def Vu:lT XG 239 252 42 (.agg #[QH 0,.slice none 0 0]):=⟨kR,kR⟩
def VC:lT XG 240 306 50 (.slice none 0 0):=⟨kR,kR⟩
inductive HO where
 |self|st|dn|MY|Pm|Ud
 |done (k:Int×Int×Int)
structure CX where
 ta:XU
 tn:Nat
 tc:Nat
 pa:XU
 pn:Nat
 pc:Nat
 ea:XU
 en:Nat
 ec:Nat
 r1:Nat
 r2:Nat
 l1:List ((Int×Int)×Value)
 l2:List ((Int×Int×Int)×Value)
 cls:Nat->HO
abbrev CX.P(a:CX)(b:XM)(c:HO):XM:=λP=>b P/\a.cls P=c
def Up(c:World)(D:XM)(d:Value)(P:nz):Prop:=∃a b e,d= .agg #[QH P.version,.slice a b e]/\Row gG 32 c D a b P.cells
def Uq(c:World)(D:XM)(d:Value)(e:List ah):Prop:=∃P a b,d= .slice P a b/\aV iC 55 D c P a b e
structure xk (w:World) (p:Nat) (F:XM) (V:bd) (q:CX):Prop where
 at':w.heap[p]? =some (.cells #[.slice q.ta q.tn q.tc,.slice q.pa q.pn q.pc,.slice q.ea q.en q.ec,.map (some q.r1),.map (some q.r2)] 242 (0,0))
 Pm:bl w (q.P F .Pm) V.decl q.ta q.tn q.pa q.pn
 MY:aV SP 160 (q.P F .MY) w q.ea q.en q.ec V.entries
 st:bU w q.r1 nT q.l1
 Ue:fh (Up w (q.P F .Ud)) q.l1 V.eE
 dn:bU w q.r2 AU q.l2
 Ur:ny (λk=>Uq w (q.P F (.done k))) q.l2 V.done
 aE:∀b,F b->b<w.heap.size
 lp:F p/\q.cls p= .self
 l1:F q.r1/\q.cls q.r1= .st
 l2:F q.r2/\q.cls q.r2= .dn
def cI(a:World)(b:Nat)(c:XM)(P:bd):Prop:=P.OK/\∃d,xk a b c P d
section
variable {w w':World} {p:Nat} {F T D:XM} {V:bd} {q:CX}
def Up.keep{P:nz}(b:Up w D v P)(c:aj T w w')(d:∀a,D a->¬T a):Up w' D v P:=by
 obtain⟨e,f,g,h,i⟩:=b;exact⟨e,f,g,h,i.keep c d⟩
def Uq.keep(a:Uq w D v B)(b:aj T w w')(c:∀P,D P->¬T P):Uq w' D v B:=by
 obtain⟨d,e,f,g,h⟩:=a;exact⟨d,e,f,g,h.keep b c⟩
def xk.keep(P:xk w p F V q)(c:aj T w w')(d:∀a,F a->¬T a):xk w' p F V q:=
 ⟨c.get P.at' (d _ P.lp.1),P.Pm.keep c λa b=>d a b.1,P.MY.keep c λa b=>d a b.1,P.st.keep c (d _ P.l1.1),P.Ue.mono λf g e=>e.keep c λa b=>d a b.1,
  P.dn.keep c (d _ P.l2.1),P.Ur.mono λh f g e=>e.keep c λa b=>d a b.1,λa b=>Qk (P.aE a b) c.size,P.lp,P.l1,P.l2⟩
def xk.af(P:xk w p F V q)(a:ai w w'):xk w' p F V q:=P.keep a λ_ _ P=>P
def cI.keep(P:cI w p F V)(b:aj T w w')(c:∀a,F a->¬T a):cI w' p F V:=⟨P.1,P.2.imp λq d=>d.keep b c⟩
def cI.af(P:cI w p F V)(a:ai w w'):cI w' p F V:=P.keep a λ_ _ P=>P
def cI.aE(a:cI w p F V):∀P,F P->P<w.heap.size:=a.2.elim λq b=>b.aE
def cI.self(P:cI w p F V):F p:=P.2.elim λq a=>a.lp.1
def Fk{tn u m v:Nat}(x:dt N=0)(y:bl w D N d tn t m)(z:∀P,D P->P<w.heap.size):
  ZH 78 #[.agg #[.slice d tn u,.slice t m v]] w (Ok λA w'=>∃p F,A= XP p/\cI w' p F (bd.new N)/\(∀P,F P->w.heap.size<=P)/\ai w w'):=by
 refine Iw (PA.mk λJ n K o=>⟨_,_,_,_,_,_,ae o rfl,ae o rfl,PC.ok (By (y.af n) λP a=>by have:=z P a;omega) ?_⟩);rintro _ e ⟨g,yh,h,i,j,k,G,rfl,B,C,q⟩;refine⟨_,_,_,_,_,_,rfl,PA.mk λb r L E=>PA.mk λc l M H=>PA.mk λs f O I=>Ok.mk ⟨c.heap.size,λP=>w.heap.size<=P/\P<s.heap.size,rfl,⟨bd.rL x,
  ⟨⟨g,yh,h,i,j,k,none,0,0,e.heap.size,b.heap.size,[],[],λP=>if P=c.heap.size then .self else if P=e.heap.size then .st else if P=b.heap.size then .dn else .Pm⟩,?_⟩⟩,λP a=>a.1,((n.then q).then r).then (l.then f)⟩⟩
 have Q:=q.size;refine⟨I,?_,?_,bU.new (f.get (l.get E id) id),trivial,bU.new (f.get H id),trivial,λP a=>a.2,⟨⟨by show w.heap.size<=c.heap.size;omega,by show c.heap.size<_;omega⟩,Zx rfl⟩,⟨⟨by show w.heap.size<=e.heap.size;omega,by show e.heap.size<_;omega⟩,?_⟩,⟨⟨by show w.heap.size<=b.heap.size;omega,by show b.heap.size<_;omega⟩,?_⟩⟩
 ·refine(((B.af r).af l).af f).mono λP a=>?_
  have:=C P a;refine⟨⟨oM,oM⟩,?_⟩;show(if P=c.heap.size then _ else _)=_;rw[Zq oM,Zq oM,Zq oM]
 ·exact(aV.nil s).mono (λP a=>a.elim) λP a=>a.1.2
 ·show(if e.heap.size=c.heap.size then _ else _)=_
  rw[Zq oM,Zx rfl]
 ·show(if b.heap.size=c.heap.size then HO.self else if b.heap.size=e.heap.size then HO.st else if b.heap.size=b.heap.size then HO.dn else HO.Pm)=HO.dn
  rw[Zq oM,Zq oM,Zx rfl]
abbrev ER:nz:=⟨0,[]⟩
def mJ(j:cI w p F V):
  ZH 84 #[XP p,QH e,QH u] w (Ok λo w'=>∃b c d G,o= .tuple #[.agg #[QH ((V.state e u).getD ER).version,.slice b c d],.bool (V.state e u).isSome]/\aV gG 84 G w' b c d ((V.state e u).getD ER).cells/\(∀P,G P->w.heap.size<=P)/\ai w w'):=by
 obtain⟨T,q,j⟩:=j;refine tC (PA.mk λr s U z=>?_);have i:=j.af s;refine⟨p,0,rfl,_,ae i.at' rfl,lU (enc:=nT) (k:=(e,u)) Vu Ta i.st ?_⟩;obtain⟨h,P,b,c,d,f,g,A,B,k⟩:∃(h:nz) (P:Bool) (b:XU) (c d:Nat),(aq q.l1 (e,u)).getD (.agg #[QH 0,.slice none 0 0])= .agg #[QH h.version,.slice b c d]/\(aq q.l1 (e,u)).isSome=P/\(V.state e u).getD ER=h/\(V.state e u).isSome=P/\Row gG 32 r (q.P F .Ud) b c h.cells:=by
  unfold bd.state;rcases i.Ue.aq (e,u)with⟨f,g⟩|⟨o,h,f,g,b,c,d,rfl,k⟩
  ·exact⟨ER,false,none,0,0,by rw[f];rfl,by rw[f];rfl,by rw[g];rfl,by rw[g];rfl,Row.nil _ _⟩
  ·exact⟨h,true,b,c,d,by rw[f];rfl,by rw[f];rfl,by rw[g];rfl,by rw[g];rfl,k⟩
 rw[f,g,A,B];refine⟨_,_,_,_,_,rfl,PA.mk λW C X E=>PS.mk E sM λY H Z I=>PS.mk I sM λJ K s7 t=>?_⟩;have l:ai r J:=(C.new H λP a=>.inr oM).new K λP a=>.inr oM;refine⟨_,_,_,_,ae t rfl,ae t rfl,PC.ok (IW (k.af l) λP a=>by have:=i.aE P a.1;omega) ?_⟩;rintro _ w8 ⟨L,M,N,G,rfl,O,m,n⟩;have Q:=n.get (l.get z id) id;have z8:=n.size;refine⟨_,_,_,_,rfl,PS.mk Q sM λw9 v s9 R=>PS.mk R sM λa0 x a1 y=>⟨_,_,_,_,ae y rfl,ae y rfl,Ok.mk ⟨L,M,N,G,rfl,?_,?_,?_⟩⟩⟩
 ·exact(O.keep v λP a S=>by have:=m P a;omega).keep x λP a S=>by have:=m P a;omega
 ·intro P a;have:=m P a;omega
 ·exact(((s.then l).then n).new v λP a=>.inr oM).new x λP a=>.inr oM
end
section
variable {w w':World} {D D' S:XM} {d:aW} {ta pa:XU} {tn tc pn pc:Nat}
def wq{a b op arg:Int}(S:eP w)(k:bl w D d ta tn pa pn)(T:∀g,D g->g<w.heap.size):
  ZH 151 #[.agg #[.slice ta tn tc,.slice pa pn pc],QH a,QH b,QH op,QH arg] w (Ok λf w'=>f= QH (kq d a b op arg)/\ai w w'):=by
 refine Bt (PA.mk λw1 B s1 C=>⟨_,_,_,_,_,_,ae C rfl,ae C rfl,PC.ok (nC (k.af B) λg s=>by have:=T g s;omega) ?_⟩);rintro f w2 ⟨U,p⟩;have q:=B.then U
 cases l:d.BJ a b with
 |none=>
  rw[l]at p;refine cD (Hm TV none 0 0) ⟨_,p,PA.mk λV t W u=>aC (eX _ _ _ _) u rfl λX v Y E=>al.tt rfl (Ok.mk ⟨?_,(q.then t).new v λg s=>.inr (by have:=q.size;omega)⟩)⟩;unfold kq;rw[l]
 |some h=>
  rw[l]at p;obtain⟨r,i,F,a5,rfl,Z,hF⟩:=p;have x:kq d a b op arg=if !within op 1 5||pL op !=h.kind then 2 else if op==1&&arg==0||op==5&& !within arg 0 (h.bt.length-1)then 1 else 0:=by unfold kq;rw[l]
  have hz:=q.size;refine cD (Hm h r i F) ⟨_,rfl,PA.mk λV t W u=>aC (eX h r i F) u rfl λX v Y E=>al.ff rfl λy H=>PC.ok cm ?_⟩;rintro _ _ ⟨rfl,rfl⟩;have I:=(bY.keep (S:=λ_=>False) H).get E id;have J:ai w y:=((q.then t).new v λg s=>.inr oM).then H.keep;have P:∀z:Int,kq d a b op arg=z->Ok (λf w'=>f= QH (kq d a b op arg)/\ai w w') (.returned (QH z)) y:=λz k=>Ok.mk ⟨by rw[k],J⟩;refine⟨_,rfl,al.not (al.mk (λe=>?_) (λe=>P 2 (by rw[x,e];rfl)))⟩;have a6:=bF.1 e;refine⟨1,0,rfl,oM,oM,pL op,?_,_,ae I rfl,al.dQ (λa0=>P 2 ?_) (λhe=>?_)⟩
  ·have:=(S.af J).kinds op.toNat oM
   rw[Xz,this,Int.toNat_of_nonneg oM]
  ·rw[x,e,Zx (by simpa using a0)]
  have m:kq d a b op arg=if op==1&&arg==0||op==5&& !within arg 0 (h.bt.length-1)then 1 else 0:=by rw[x,e,he];simp
  have hn:i=h.bt.length:=Z.len dC;have a7:i<=140737488355328:=by
   obtain⟨a1,yh,K,-⟩:∃(r:XU) (i:Nat),Row fL 32 w D r i h.bt/\True:=by
    obtain⟨j,n,a8,a3,a9,A,h3,h4⟩:=aW.uW l;have b0:=k.bk.len;obtain⟨g,a2,T',es,rfl,_,_,o,L,b1,n1,c1,rfl,M⟩:=k.bk.at (i:=a) j oM;rw[a3]at o;cases o
    have b2:=M.len;obtain⟨b3,b4,x',b5,rfl,_,_,N,b6,b7,n2,c2,rfl,hM,_⟩:=M.at (i:=b) A oM;rw[h4]at N;cases N
    exact⟨_,_,hM,trivial⟩
   have n:=K.len;have A:=K.ef;unfold aS at A;omega
  have bt:∀{O:List PanicEntry->XT},op=5->PC XG 125 #[QH arg,QH 0,QH (XH .i64 ((i:Int)-1))] y (λa4 Q=>∃R:Bool,a4= .bool R/\al (!R) (Ok (λf w'=>f= QH (kq d a b op arg)/\ai w w') (.returned (QH 1)) Q) (Ok (λf w'=>f= QH (kq d a b op arg)/\ai w w') (.returned (QH 0)) Q)) O:=by
   intro O c;refine PC.ok cm ?_;rintro _ _ ⟨rfl,rfl⟩;rw[wrap_i64 bb,hn];refine⟨_,rfl,al.not (al.mk (λe=>P 0 ?_) (λe=>P 1 ?_))⟩
   ·rw[m,e,c];rfl
   ·rw[m,e,c];rfl
  refine al.dU (λn=>al.dU (λj=>al.dU (λ_=>P 1 (by rw[m,n,j];rfl)) (λL=>Zz j L)) (λj=>al.dU (λc=>Zz c oM) (λc=>P 0 ?_))) (λn=>al.dU (λc=>⟨_,_,_,ae I rfl,bt c⟩) (λc=>P 0 ?_))
  ·rw[m,Zq (by simp[j,c])]
  ·rw[m,Zq (by simp[n,c])]
def CR{g:XU}(b:Row nY 48 w D g a c0):
  ZH 128 #[.agg #[.slice g a c],QH e,QH u] w (Ok λj w'=>j= .bool (Pu c0 e u)/\ai w w'):=by
 have h:=b.len;have k:=b.ef;unfold aS at k;refine FQ (PA.mk λo d p i=>⟨_,_,_,ae i rfl,PC.ok cm ?_⟩);rintro _ _ ⟨rfl,rfl⟩;rw[wrap_i64 bb];refine⟨_,rfl,al.mk (λP=>?_) (λP=>Ok.mk ⟨?_,d⟩)⟩
 ·have q:=bF.1 P
  obtain⟨l,f,r,s,rfl,_,_,m,n,t,v,x,rfl,_⟩:=(b.af d).at (i:=e) oM oM;refine⟨_,_,_,ae i rfl,l,f,rfl,oM,oM,_,n 0 dC,Ok.mk ⟨?_,d⟩⟩;unfold Pu;rw[<-h,P,m];rfl
 ·unfold Pu;rw[<-h,P];rfl
def Ra(a:1<=e/\e<=4)(b:1<=u/\u<=3):∃P:Int,(∀w',(do eqGuard .shr 3 (.tmp 19) (.tmp 21) (QH (([0,2,14,6,6]:List Int).getD e.toNat 0)) (QH u);binOp .shr 3 (QH (([0,2,14,6,6]:List Int).getD e.toNat 0)) (QH u):Sem Value).run XG w'= .ok (QH P) w')/\((DA .i64 P 1==0)= !OI e u):=by
 refine⟨(([0,2,14,6,6]:List Int).getD e.toNat 0).fdiv (2 ^ u.toNat),?_,?_⟩<;>rcases(by omega:e=1\/e=2\/e=3\/e=4)with rfl|rfl|rfl|rfl<;>rcases(by omega:u=1\/u=2\/u=3)with rfl|rfl|rfl<;>first
  |(intro w';kernel_rfl)
  |decide
def JV(m:jM):Bool:=decide (m.bX<0)||decide (m.oF<0)||m.ky== -1&&m.least !=0
def Rb{c:jM}:ZH 126 (#[]++ #[.agg (mM c).toArray]++ #[]) w (Ok λf w'=>f= .bool (JV c)/\ai w w'):=by
 refine vw (PA.mk λg a h b=>⟨_,ae b rfl,al.dec (λP=>Ok.mk ⟨by simp[JV,P],a⟩) (λd=>⟨_,ae b rfl,al.dec (λP=>Ok.mk ⟨by simp[JV,P],a⟩) (λe=>⟨_,ae b rfl,al.dU (λP=>⟨_,ae b rfl,Ok.mk ⟨by simp[JV,d,e,P],a⟩⟩) (λP=>Ok.mk ⟨by simp[JV,d,e,P],a⟩)⟩)⟩)⟩)
def HB(a:List br)(P:jM):Bool:=P.ky != -1&& !Pu a P.ky 1
def Re{b:jM}{e:XU}(h:Row nY 48 w D e c c0)(i:w.heap[a]? =some (.cells #[.slice e c j] g (0,0))):
  ZH 127 (#[]++ #[.agg (mM b).toArray]++ #[XP a]) w (Ok λk w'=>k= .bool (HB c0 b)/\ai w w'):=by
 refine vx (PA.mk λm P n f=>⟨_,ae f rfl,al.dQ (λd=>⟨_,_,_,ae (P.get i id) rfl,_,ae f rfl,PC.ok (CR (h.af P)) ?_⟩) (λd=>Ok.mk ⟨by simp[HB,d],P⟩)⟩);rintro _ o ⟨rfl,l⟩;exact⟨_,rfl,Ok.mk ⟨by unfold HB;rw[show(b.ky != -1)=true by simpa using d];simp,P.then l⟩⟩
def EG{y z:XU}(H:eP w)(I:Row nY 48 w D y a c0)(A:Row fL 32 w D z j b4.bt):
  ZH 68 #[.agg #[.slice y a c],.agg (dF b4 z j p).toArray] w (Ok λo w'=>o= QH (fj c0 b4)/\ai w w'):=by
 refine yY (PA.mk λV J W K=>PA.mk λq B X r=>⟨_,ae r rfl,PC.ok cm ?_⟩);rintro _ _ ⟨rfl,rfl⟩;have C:=J.then B;refine⟨_,rfl,al.not (al.mk (λf=>?_) (λf=>Ok.mk ⟨by unfold fj;rw[f];rfl,C⟩))⟩;have s:=bF.1 f;refine⟨λw'=>ai w w'/\q.heap.size<=w'.heap.size/\ai q w'/\within b4.dO 1 3=true/\OI b4.kind b4.dO=true/\(b4.floor&&b4.kind !=1)=false,λl E=>?_,?_⟩
 ·have d:=(bY.keep (S:=λ_=>False) E).get r id
  have e:ai q l:=E.keep;have P:ai w l:=C.then e;have g:fj c0 b4=1->Ok (λo w'=>o= QH (fj c0 b4)/\ai w w') (.returned (QH 1)) l:=λi=>Ok.mk ⟨by rw[i],P⟩;refine⟨_,ae d rfl,PC.ok cm ?_⟩;rintro _ _ ⟨rfl,rfl⟩;refine⟨_,rfl,al.not (al.mk (λb=>?_) (λb=>g (by unfold fj;rw[f,b];rfl)))⟩;have t:=bF.1 b;obtain⟨L,M,N⟩:=Ra s t;refine⟨_,ae d rfl,0,0,rfl,oM,oM,_,by rw[Xz];exact(H.af P).TW b4.kind.toNat oM,_,ae d rfl,L,M,?_⟩;refine al.mk (λm=>?_) (λm=>?_)<;>rw[N]at m
  ·exact g (by unfold fj;rw[f,b,show OI b4.kind b4.dO=false by simpa using m];rfl)
  have k:OI b4.kind b4.dO=true:=by simpa using m
  refine⟨_,ae d rfl,al.mk (λu=>⟨_,ae d rfl,al.dQ (λO=>g ?_) (λQ=>⟨P,e.size,e,b,k,by simp[Q]⟩)⟩) (λu=>⟨P,e.size,e,b,k,by simp[u]⟩)⟩;unfold fj;rw[f,b,k,u];simp[O]
 ·rintro Y l ⟨P,Z,e,b,k,R⟩
  have d:=e.get r id;have v:fj c0 b4=if b4.bt.any JV then 1 else if b4.bt.any (HB c0)then 8 else 0:=by
   unfold fj;rw[f,b,k,R];rfl
  refine⟨_,_,_,ae d rfl,PC.ok (HA (p:=JV) (A.af P) kR λS T h=>Rb) ?_⟩;rintro _ T ⟨rfl,h⟩;refine⟨_,rfl,al.mk (λi=>Ok.mk ⟨by rw[v,Zx i],P.then h⟩) (λi=>⟨_,_,_,ae (h.get d id) rfl,PC.ok (HA (p:=HB c0) (A.af (P.then h)) kR λS U n=>Re (I.af ((P.then h).then n)) (n.get (h.get (e.get (B.get K id) id) id) id)) ?_⟩)⟩;rintro _ U ⟨rfl,n⟩;have F:=(P.then h).then n;exact⟨_,rfl,al.mk (λx=>Ok.mk ⟨by rw[v,i,x];rfl,F⟩) (λx=>Ok.mk ⟨by rw[v,i,x];rfl,F⟩)⟩
def SV{P b kind:Int}(c:(d.BJ P b).isSome):∃a,d.types[P.toNat]? =some a/\d.at P=a/\0<=P/\P<d.types.length:=by
 obtain⟨j,e⟩:=Option.isSome_iff_exists.1 c;obtain⟨f,g,a,h,i,_⟩:=aW.uW e;exact⟨a,h,i,f,g⟩
def EH(r:bl w D d ta tn pa pn)(O:∀P,D P->P<w.heap.size):
  ZH 69 #[.agg #[.slice ta tn tc,.slice pa pn pc],.agg (mK d6).toArray] w (Ok λC w'=>C= QH (ll d d6)/\ai w w'):=by
 refine yZ (PA.mk λZ E s1 s=>PA.mk λw2 h s2 m=>⟨_,_,_,_,_,_,ae (h.get s id) rfl,ae (h.get s id) rfl,_,ae m rfl,_,ae m rfl,PC.ok (nC (r.af (E.then h)) λP c=>by have:=O P c;omega) ?_⟩);rintro C w3 ⟨i,n⟩;have t:=(E.then h).then i;have hz:=i.size
 cases j:d.BJ d6.bk d6.field with
 |none=>
  rw[j]at n;refine cD (Hm TV none 0 0) ⟨_,n,PA.mk λQ e R u=>aC (eX _ _ _ _) u rfl λo f S T=>al.tt rfl (Ok.mk ⟨?_,(t.then e).new f λP c=>.inr oM⟩)⟩;unfold ll;rw[j];rfl
 |some F=>
  rw[j]at n;obtain⟨H,I,J,a0,rfl,ho,hF⟩:=n;have K:(d.BJ d6.bk d6.field).isNone=false:=by rw[j];rfl
  refine cD (Hm F H I J) ⟨_,rfl,PA.mk λQ e R u=>aC (eX F H I J) u rfl λo f S T=>al.ff rfl ⟨λP w'=>P=(d6.group==3&& !Pu (d.at d6.bk) d6.EW 2||d6.group !=3&&d6.EW !=0)/\ai o w',?_,?_⟩⟩
  ·have U:ai w o:=(t.then e).new f λP c=>.inr oM
   intro v V;have a:ai o v:=V.keep;have W:=a.get (f.get (e.get (i.get (h.get s id) id) id) oM) id;have b:=a.get (f.get (e.get (i.get m id) id) oM) id;refine⟨_,ae b rfl,al.dU (λg=>⟨_,_,_,ae W rfl,_,ae b rfl,?_⟩) (λg=>⟨_,ae b rfl,al.dQ (λ_=>⟨_,ae b rfl,?_,a⟩) (λk=>Zz k g)⟩)⟩
   ·obtain⟨a1,X,L,M,h1⟩:=SV (kind:=0) (by rw[j];rfl:(d.BJ d6.bk d6.field).isSome)
    have hl:=r.bk.len;obtain⟨P,x,T',es,rfl,_,_,l,k,a2,n1,c1,rfl,Y⟩:=((r.af (U.then a)).bk).at (i:=d6.bk) M oM;rw[X]at l;cases l
    have N:=k 0 dC;simp only[jX,Nat.mul_one,Nat.add_zero]at N;refine⟨P,x,rfl,M,oM,_,_,_,N,_,ae b rfl,PC.ok (CR Y) ?_⟩;rintro _ w7 ⟨rfl,y⟩;refine⟨_,rfl,al.not (al.mk (λz=>⟨_,ae (y.get b id) rfl,al.dQ (λk=>Zz g k) (λ_=>⟨?_,a.then y⟩)⟩) (λz=>⟨?_,a.then y⟩))⟩
    ·rw[L,z,g];rfl
    ·rw[L,z,g];rfl
   ·rw[show(d6.group==3)=false by simpa using g,show(d6.group !=3)=true by simpa using g];rfl
  ·rintro P a3 v ⟨rfl,a⟩
   have p:ai w v:=((t.then e).new f λP c=>.inr oM).then a;have b:=a.get (f.get (e.get (i.get m id) id) oM) id;refine al.mk (λc=>Ok.mk ⟨by unfold ll;rw[K,Zq sM,Zx c],p⟩) (λc=>⟨_,ae b rfl,PC.ok cm ?_⟩);have A:ll d d6=if !within d6.group 1 3|| !within d6.make 1 5 then 2 else 0:=by unfold ll;rw[K,Zq sM,c];rfl
   rintro _ _ ⟨rfl,rfl⟩;refine⟨_,rfl,al.not (al.mk (λq=>⟨_,ae b rfl,PC.ok cm ?_⟩) (λq=>Ok.mk ⟨by rw[A,q];rfl,p⟩))⟩;rintro _ _ ⟨rfl,rfl⟩;exact⟨_,rfl,al.not (al.mk (λB=>Ok.mk ⟨by rw[A,q,B];rfl,p⟩) (λB=>Ok.mk ⟨by rw[A,q,B];rfl,p⟩))⟩
end
def Rq(P:Int×Int×Int):jf XG 306 [QH P.1,QH P.2.1,QH P.2.2]=true:=kR
def HP{P c:Type}[BEq P][LawfulBEq P]{a:P}{f d:c}:∀b:List (P×c),aH (aH b a f) a d=aH b a d
 |[]=>by simp[aH]
 |(g,h)::b=>by
  by_cases e:a==g
  ·simp[e,aH]
  ·simp[e,aH,HP b]
section
variable {w w':World} {p:Nat} {F T D:XM} {V:bd} {q:CX}
def EP(w:World)(p:Nat)(F D:XM)(V:bd)(P:ah)(c:Value)(w':World):Prop:=
 c= .tuple #[.bool (V.try P).1,.agg #[QH (V.try P).2.1.1,QH (V.try P).2.1.2]]/\∃b,cI w' p b (V.try P).2.2/\aj F w w'/\∀a,b a->F a\/D a\/w.heap.size<=a
def Pn{P:Bool}(c:cI w p F V)(a:ai w w')(b:V.try l=(P,d3,V)):Ok (EP w p F D V l) (.returned (.tuple #[.bool P,.agg #[QH d3.1,QH d3.2]])) w':=by
 refine Ok.mk ⟨by rw[b],F,?_,ai.keep a,λP d=>.inl d⟩;rw[b];exact c.af a
def CY(i:xk b p F V q)(P:Int×Int×Int):∃a c d e,(aq q.l2 P).getD (.slice none 0 0)= .slice a c d/\(aq V.done P).getD []=e/\(aV iC 55 (q.P F (.done P)) b a c d e):=by
 rcases i.Ur.aq P with⟨f,g⟩|⟨l,e,f,g,a,c,d,rfl,k⟩
 ·exact⟨none,0,0,[],by rw[f];rfl,by rw[g];rfl,(aV.nil b).mono (λj h=>h.elim) λj h=>i.aE j h.1⟩
 ·exact⟨a,c,d,e,by rw[f];rfl,by rw[g];rfl,k⟩
def Po(e:cI w p F V)(hT:eP w)(hr:Row aM 8 w D d a l.aJ)(C:∀P,D P->P<w.heap.size/\¬F P)(he:l.Ok)(b:((aq V.done (l.bk,l.agg,l.field)).getD []).length<=20000000):
  ZH 146 #[XP p,jJ l d a c] w (Ok (EP w p F D V l)):=by
 have j9:=e;obtain⟨hV,q,e⟩:=e;have g:=e.aE;have B8:=g _ e.lp.1;refine xK (PA.mk λE t6 B9 t7=>PA.mk λo3 o4 C0 t8=>λl0 o5=>?_);have l3:ai o3 l0:=o5.keep;have C1:l0.heap.size=o3.heap.size:=by rw[o5.heap]
 have k0:ai w l0:=(t6.then o4).then l3;have ge:=l3.get (o4.get t7 id) id;have gb:=l3.get t8 id;have Q:=e.af k0;refine⟨p,0,rfl,_,_,_,_,_,_,ae Q.at' rfl,ae Q.at' rfl,_,ae ge rfl,_,ae ge rfl,_,ae ge rfl,_,ae ge rfl,PC.ok (wq (hT.af k0) Q.Pm λP b=>Q.aE P b.1) ?_⟩;rintro _ R ⟨rfl,S⟩;have k1:=k0.then S;have C2:=S.size;have c0:=S.get gb id;have c1:=S.get ge id;have m:∀{w1:World} {i:Int×Int} {P:Bool},ai R w1->V.try l=(P,i,V)->∀w2,bY w1 w2->∀(x H:Int),x=i.1->H=i.2->PS w2 ⟨E.heap.size,0,none⟩ (QH x) λw3=>PS w3 ⟨E.heap.size,0+1,none⟩ (QH H) λw4=>∃(o6 o7:Int),w4.cell? ⟨E.heap.size,0,none⟩=some (QH o6)/\w4.cell? ⟨E.heap.size,0+1,none⟩=some (QH o7)/\Ok (EP w p F D V l) (.returned (.tuple #[.bool P,.agg #[QH o6,QH o7]])) w4:=λ{w1 i P} hk I w2 g2 x H hx k=>by
  have k2:ai w1 w2:=g2.keep;have kk:=(k1.then hk).then k2;have g3:=k2.get (hk.get c0 id) id;subst hx k;refine PS.mk g3 sM λw3 k3 s3 h1=>PS.mk h1 sM λw4 J s4 g4=>⟨_,_,ae g4 rfl,ae g4 rfl,Pn j9 ((kk.new k3 λP b=>.inr oM).new J λP b=>.inr oM) I⟩
 refine⟨_,rfl,al.dQ (λd5=>λt9 o8=>?_) (λg6=>?_)⟩
 ·have o9:=(o8.keep (S:=λ_=>False)).get c0 id
  exact⟨_,_,ae o9 rfl,ae o9 rfl,m (i:=(0,0)) (aj.refl _) (by rw[bd.qz,Zx d5]) t9 o8 _ _ rfl rfl⟩
 obtain⟨c3,t0,t1,C3⟩:=Le hV.decl g6 (hV.len l);obtain⟨v,p0⟩:∃v:Nat,l.bk=v:=⟨l.bk.toNat,oM⟩
 have l4:=c3.f0;have l5:=c3.f1;obtain⟨fi,f7⟩:∃fi:Nat,l.field=fi:=⟨l.field.toNat,oM⟩
 have u0:V.decl.at l.bk=V.decl.types.getD v []:=by
  unfold aW.at;rw[Zx (bF.2 ⟨t0,oM⟩),p0,Qx]
 obtain⟨tb,oF,es,u1,u2,p1,u3,fa,fn,fc,rfl,y⟩:=(Q.af S).Pm.bk.el v V.decl.types[v] sM;have y:Row nY 48 R (q.P F .Pm) fa fn (V.decl.at l.bk):=by
  rw[u0];have:V.decl.types.getD v []=V.decl.types[v]:=by simp[QQ,show v<V.decl.types.length by omega]
  rw[this];exact y
 have C4:=(Q.af S).Pm.bk.len;have g7:=u3 0 dC;have u4:jX.k=1:=rfl;rw[u4,Nat.mul_one]at g7;have u5:=g tb p1.1;refine⟨λT u6 ab ao w'=>u6=0/\ao=0/\ai R w'/\w'.heap[T]? =some (.cells #[.slice fa fn fc] 130 (0,0))/\w'.heap[ab]? =some (.cells #[QH l.bk,QH l.agg,QH l.field] 306 (0,0))/\R.heap.size<=T/\R.heap.size<=ab,?_,?_⟩
 ·intro K p2
  have d6:ai R K:=p2.keep;have C5:K.heap.size=R.heap.size:=by rw[p2.heap]
  have p3:=(Q.af S).af d6;have c4:=d6.get c1 id;refine⟨λP=>K.heap.size<=P,p,0,rfl,oM,_,_,_,ae p3.at' rfl,by show¬K.heap.size<=w.heap.size;omega,_,ae c4 rfl,tb,oF,u1,t0,by omega,by show¬K.heap.size<=tb;omega,fa,fn,fc,?_,by show¬K.heap.size<=w.heap.size;omega,_,ae c4 rfl,by show¬K.heap.size<=w.heap.size;omega,_,ae c4 rfl,by show¬K.heap.size<=w.heap.size;omega,_,ae c4 rfl,?_,?_⟩
  ·rw[p0,Qx]
   exact(d6.cell (a:=⟨tb,oF+v,none⟩) u2 id).trans g7
  ·refine PA.mk λu7 d7 u9 l6=>⟨ai.keep d7,PA.mk λv0 U v1 l7=>⟨ai.keep U,PS.mk (U.get l6 id) sM λv2 W v3 l8=>⟨W.mono λP _ l=>oM,aC (Rq (l.bk,l.agg,l.field)) (W.get l7 oM) rfl λv4 X v5 l9=>⟨X.mono λP _ l=>oM,rfl,rfl,?_,X.get l8 oM,l9,oM,oM⟩⟩⟩⟩
   exact(((d6.then d7).then U).new W λP b=>.inr oM).new X λP b=>.inr oM
  ·refine PA.mk λu7 d7 u9 l6=>⟨ai.keep d7,PA.mk λv0 U v1 l7=>⟨ai.keep U,PS.mk l7 sM λv2 W v3 l8=>⟨W.mono λP _ l=>oM,aC (Rq (l.bk,l.agg,l.field)) (W.get (U.get l6 id) oM) rfl λv4 X v5 l9=>⟨X.mono λP _ l=>oM,rfl,rfl,?_,X.get l8 oM,l9,oM,oM⟩⟩⟩⟩
   exact(((d6.then d7).then U).new W λP b=>.inr oM).new X λP b=>.inr oM
 rintro T _ ab _ _ p4 ⟨rfl,rfl,p5,p6,g8,y5,C6⟩;have k2:=k1.then p5;have d8:=e.af k2;obtain⟨da,dn,dc,j,v6,m0,p7⟩:=CY d8 (l.bk,l.agg,l.field);rw[m0]at b;refine⟨p,0,rfl,_,ae d8.at' rfl,ay (cs:=[QH l.bk,QH l.agg,QH l.field]) (Rq (l.bk,l.agg,l.field)) g8 ⟨da,dn,dc,λb1=>?_,λp8 v7=>?_⟩⟩
 ·have:=eB VC Vt (d8.dn.af (aj.drewN p4 b1)) (l.bk,l.agg,l.field) false
  rw[v6]at this;exact this
 have g0:ai p4 p8:=v7.keep;have C7:=p7.len dC;have m1:=(p7.af g0).row (bytes:=96) dC ba;refine⟨λb1 a5 w'=>∃h:Nat,a5=h/\h<=dn/\b1=dn-h/\(∀x∈j.take h,lD ((V.decl.at l.bk).getD l.field.toNat ⟨0,0,false,[]⟩) x l=false)/\ai p8 w',⟨_,0,rfl,Qj _,rfl,sM,aj.refl _⟩,?_⟩;rintro b1 _ _ m2 ⟨h,rfl,hj,rfl,d9,e0⟩;have k3:=(p5.then g0).then e0;have g9:=e0.get (g0.get p6 id) id;have p9:=e0.get (g0.get g8 id) id;have h0:=k3.get c1 id;have c5:∀{r:Bool×(Int×Int)×bd},(match j.find? λx=>lD ((V.decl.at l.bk).getD l.field.toNat ⟨0,0,false,[]⟩) x l with
  |some x=>(true,aX x,V)
  |none=>if vg (V.decl.at l.bk) (V.cellsOf l) l.field l.op l.arg≠0 then(true,(0,0),V)else
   (false,(0,0),{V with eE:=aH V.eE (l.bk,l.agg) ⟨nX (((aq V.eE (l.bk,l.agg)).getD ⟨0,[]⟩).version+1),PJ (V.decl.at l.bk) (V.cellsOf l) l.field l.op l.arg⟩,done:=aH V.done (l.bk,l.agg,l.field) (j++[l])}))=r->V.try l=r:=λ{r} hr=>by
  rw[bd.qz,Zq (by simpa using g6),m0];exact hr
 refine al.dec (λC8=>?_) (λC9=>?_)
 ·have g1:h<j.length:=oM
  obtain⟨db,b5,es,v8,D0,D1,q0,xa,xn,xc,rfl,q1,q2⟩:=(m1.af e0).el h j[h] (Qq g1);have g5:j[h]? =some j[h]:=Qq g1;generalize j[h]=x at q0 q1 q2 g5;refine⟨db,b5,v8,oM,oM,bW (es:=aF x xa xn xc) (k:=10) (bf x xa xn xc) rfl (λa5 I=>q0 a5 I) (PA.mk λD2 v9 D3 x0=>aC (bf x xa xn xc) x0 rfl λq3 x1 D4 x2=>λx3 x4=>?_)⟩;have m3:ai m2 q3:=v9.new x1 λP b=>.inr oM;have q4:ai q3 x3:=x4.keep;have J:=m3.then q4;have e1:=k3.then J;obtain⟨fb,fo,b6,b7,b8,x5,D5,D6,h2,h3,h4,h5,D7⟩:=Ds (y.af e1) (i:=fi) (by rw[y.len];omega);have h6:=q4.get x2 id;refine⟨_,_,_,ae (J.get g9 id) rfl,_,ae (J.get h0 id) rfl,fb,fo,x5,l4,by rw[y.len];exact l5,?_⟩;rw[f7,Qx];refine bW (es:=dF ((V.decl.at l.bk).getD fi ⟨0,0,false,[]⟩) b6 b7 b8) (k:=4) (eX _ _ _ _) rfl (λa5 I=>?_) (ay (bf x xa xn xc) h6 (ay (bf l d a c) (J.get h0 id) (PC.ok (zo (q1.af J) ((hr.af k1).af e1)) ?_)))
  ·match a5,I with
   |0,_=>exact h2
   |1,_=>exact h3
   |2,_=>exact h4
   |3,_=>exact h5
  rintro _ D8 ⟨rfl,m4⟩;have x6:(V.decl.at l.bk).getD fi ⟨0,0,false,[]⟩=(V.decl.at l.bk).getD l.field.toNat ⟨0,0,false,[]⟩:=by rw[f7,Qx]
  rw[x6];refine⟨_,rfl,al.mk (λhv=>λx7 q5=>?_) (λhv=>⟨_,?_,h+1,an oM,oM,rfl,λH k=>?_,(e0.then J).then m4⟩)⟩
  ·have q6:=(q5.keep (S:=λ_=>False)).get (m4.get h6 id) id
   refine⟨_,_,ae q6 rfl,ae q6 rfl,m (e1.then m4) (i:=aX x) (c5 ?_) x7 q5 _ _ rfl rfl⟩;have hf:j.find? (λx=>lD ((V.decl.at l.bk).getD l.field.toNat ⟨0,0,false,[]⟩) x l)=some x:=by
    rw[List.find?_eq_some_iff_append];refine⟨hv,j.take h,j.drop (h+1),?_,λH k=>by rw[d9 H k];rfl⟩;rw[<-ZX h j]
    congr 1
    ·rw[ZX]
    ·rw[ZX,X4 g1]
     congr 1
     rw[Qq g1]at g5;exact XJ g5
   rw[hf]
  ·omega
  ·rw[Qw,g5]at k
   rcases Q6.1 k with k|k
   ·first|exact d9 H k|(rw[<-f7];exact d9 H k)
   ·simp at k;subst k;first|exact hv|(rw[<-f7];exact hv)
 ·have D9:h=dn:=oM
  rw[Qz oM]at d9;have m5:j.find? (λx=>lD ((V.decl.at l.bk).getD l.field.toNat ⟨0,0,false,[]⟩) x l)=none:=List.find?_eq_none.2 λx hx=>by rw[d9 x hx];simp
  rw[m5]at c5;intro Y h7;have c7:ai m2 Y:=h7.keep;have y6:Y.heap.size=m2.heap.size:=by rw[h7.heap]
  have k5:=k3.then c7;have e9:=k1.then k5;have z5:=k5.size;have z3:=k3.size;have b9:=e.af e9;have b2:=c7.get p9 id;have c2:=c7.get g9 id;have m6:=k5.get c1 id;have E0:=c7.size;have y7:=aB b2;have y8:=aB c2;obtain⟨s,P,n,o,z,f,Z,k4,l1,d3⟩:∃(s:nz) (P:Bool) (n:XU) (o z:Nat),(aq q.l1 (l.bk,l.agg)).getD (.agg #[QH 0,.slice none 0 0])= .agg #[QH s.version,.slice n o z]/\(aq q.l1 (l.bk,l.agg)).isSome=P/\(aq V.eE (l.bk,l.agg)).getD ER=s/\(P=true->V.cellsOf l=s.cells)/\Row gG 32 Y (q.P F .Ud) n o s.cells/\(P=false->V.cellsOf l=dP (V.decl.at l.bk)):=by
   unfold bd.cellsOf;rcases b9.Ue.aq (l.bk,l.agg)with⟨f,Z⟩|⟨f0,s,f,Z,n,o,z,rfl,hr⟩
   ·exact⟨ER,false,none,0,0,by rw[f];rfl,by rw[f];rfl,by rw[Z];rfl,λe=>(by cases e),Row.nil _ _,λ_=>by rw[Z]⟩
   ·exact⟨s,true,n,o,z,by rw[f];rfl,by rw[f];rfl,by rw[Z];rfl,λ_=>by rw[Z],hr,λe=>(by cases e)⟩
  obtain⟨d3,l2⟩:=d3;refine⟨λP=>P=Y.heap.size,p,0,rfl,oM,_,ae b9.at' rfl,oM,_,_,ae b2 rfl,ae b2 rfl,s.version,n,o,z,P,λw' hk=>?_,PA.mk λy9 h8 z0 q7=>⟨ai.keep h8,PS.mk q7 sM λz2 h9 z4 q8=>PS.mk q8 sM λq9 i0 z7 i1=>⟨h9.then i0,?_⟩⟩⟩
  ·have:=eB Vu Ta (b9.st.keep hk (by have:=g _ e.l1.1;omega)) (l.bk,l.agg) true
   rw[f,Z]at this;exact this
  have k6:ai Y q9:=(h8.new h9 λP b=>.inr oM).new i0 λP b=>.inr oM;refine⟨λw'=>ai Y w'/\∃n o z Dc,w'.heap[Y.heap.size]? =some (.cells #[QH s.version,.slice n o z] 42 (0,0))/\Row gG 32 w' Dc n o (V.cellsOf l)/\∀P,Dc P->P<w'.heap.size,?_,?_⟩
  ·refine al.not (al.mk (λx8=>⟨k6,n,o,z,_,i1,by rw[l1 x8];exact d3.af k6,λP b=>by have:=g P b.1;have:=k6.size;have:=e9.size;omega⟩) (λx9=>⟨_,_,_,ae (k6.get c2 id) rfl,PC.ok (FL (t:=V.decl.at l.bk) rfl (y.len) (by rw[y.len];omega)) ?_⟩))
   rintro _ z8 ⟨m7,n6,m8,G6,rfl,r0,k7,y0⟩;have z6:=k6.size;refine⟨_,_,_,rfl,PS.mk (k7.get i1 id) sM λz9 i2 A0 r3=>⟨(k6.then k7).new i2 λP b=>.inr oM,m7,n6,m8,G6,r3,?_,λP b=>by have:=r0.aE P b;omega⟩⟩;rw[l2 x9];exact(r0.keep i2 λP b l=>by have:=y0 P b;omega).row dC (by unfold aS dP;simp;omega)
  rintro _ A1 ⟨a3,n,o,z,Dc,f1,d3,y1⟩;have A2:=a3.size;have f2:=k5.then a3;have f3:=a3.get c2 id;have m9:=a3.get b2 id;have c6:=a3.get m6 id;refine⟨_,_,_,ae f3 rfl,_,_,_,ae f1 rfl,_,ae c6 rfl,_,ae c6 rfl,_,ae c6 rfl,PC.ok (FK c3 (y.af f2) d3) ?_⟩;rintro _ r4 ⟨rfl,a0⟩;have k8:=f2.then a0;refine⟨_,rfl,al.dQ (λd5=>λr5 i3=>?_) (λy2=>λc8 r6=>?_)⟩
  ·have i4:=(i3.keep (S:=λ_=>False)).get (k8.get c0 id) id
   refine⟨_,_,ae i4 rfl,ae i4 rfl,m (i:=(0,0)) k8 (c5 ?_) r5 i3 _ _ rfl rfl⟩;simp only;rw[Zx d5]
  have f4:vg (V.decl.at l.bk) (V.cellsOf l) l.field l.op l.arg=0:=y2;have a1:ai r4 c8:=r6.keep;have k9:=k8.then a1;have n0:=(a3.then a0).then a1;have d2:=k1.then k9;have n1:=e.af d2;have b3:=k9.get c1 id;have e2:=(a0.then a1).get m9 id;have n3:=(a0.then a1).get f3 id;have f8:=(a0.then a1).get f1 id;have E1:=g _ e.l1.1;have E2:=g _ e.l2.1;have A3:=n0.size;have y3:=d2.size;have e8:¬p=q.r1:=λl=>by have f:=e.lp.2;rw[l,e.l1.2]at f;cases f
  have i5:¬p=q.r2:=λl=>by have f:=e.lp.2;rw[l,e.l2.2]at f;cases f
  have i6:¬q.r1=q.r2:=λl=>by have f:=e.l1.2;rw[l,e.l2.2]at f;cases f
  refine⟨λP=>P=q.r1,p,0,rfl,e8,_,ae n1.at' rfl,oM,_,_,ae e2 rfl,ae e2 rfl,oM,_,ae f8 rfl,_,_,_,ae n3 rfl,_,_,_,ae f8 rfl,_,ae b3 rfl,_,ae b3 rfl,_,ae b3 rfl,PC.ok (PL c3 f4 he.arg oM (y.af k9) (λP b=>by have:=g P b.1;omega) (d3.af (a0.then a1)) λP b=>by have:=y1 P b;have:=(a0.then a1).size;omega) ?_⟩;rintro _ a6 ⟨r7,r8,r9,G,rfl,i7,a4,hG⟩;have e3:=d2.then a4;have t:=e.af e3;have A4:=a4.size;refine⟨_,_,_,rfl,ai.keep a4,iN (enc:=nT) (k:=(l.bk,l.agg)) Vu Ta t.st λi8 s0 i9 A5=>⟨i9,λc9 j0=>?_⟩⟩;have j1:ai i8 c9:=j0.keep;have A6:c9.heap.size=i8.heap.size:=by rw[j0.heap]
  have A:aj (·=q.r1) a6 c9:=i9.af j1;have key:∀P,F P/\q.cls P= .done (l.bk,l.agg,l.field)->P≠p/\P≠q.r1/\P≠q.r2:=λP b=>
   ⟨λl=>(by have f:=e.lp.2;rw[<-l,b.2]at f;cases f),λl=>(by have f:=e.l1.2;rw[<-l,b.2]at f;cases f),λl=>(by have f:=e.l2.2;rw[<-l,b.2]at f;cases f)⟩
  have n4:=A.get t.at' e8;have n5:=A.get (a4.get e2 id) oM;have u:=A.get (a4.get b3 id) oM;have n7:=t.dn.keep A (λl=>i6 l.symm);have n8:=A.get (a4.get (k9.get c0 id) id) oM;obtain⟨a2,a7,e4,n9,s1,j2,j3⟩:=CY t (l.bk,l.agg,l.field);rw[m0]at j2;subst j2;have o0:=j3.keep A λP b l=>(key P b).2.1 l;have A7:=A.size;refine⟨λP=>P=q.r2\/(F P/\q.cls P= .done (l.bk,l.agg,l.field)),p,0,rfl,λB=>B.elim i5 λB=>(key p B).1 rfl,_,ae n4 rfl,λB=>B.elim (λl=>oM) λB=>by have:=g _ B.1;omega,
   ay (cs:=[QH l.bk,QH l.agg,QH l.field]) (Rq (l.bk,l.agg,l.field)) n5 ⟨_,_,_,_,_,_,_,_,_,_,_,_,ae u rfl,ae u rfl,ae u rfl,ae u rfl,ae u rfl,ae u rfl,ae u rfl,ae u rfl,ae u rfl,ae u rfl,
   PA.mk λA8 a8 A9 s2=>⟨ai.keep a8,Es (enc:=AU) (k:=(l.bk,l.agg,l.field)) VC Vt (n7.af a8) λB0 x s5 o1 a9 B1=>⟨a2,a7,e4,x,by rw[s1],a9.mono λP _ l=>.inl l,?_⟩⟩⟩⟩
  have r1:=(o0.af a8).keep a9 λP b l=>(key P b).2.2 l;have s6:=a9.get s2 oM;have b4:∀P,aI a2=some P->F P/\q.cls P= .done (l.bk,l.agg,l.field):=λP b=>j3.self P b;have y4:=(((hr.af e3).keep A λP b l=>(C P b).2 (l▸e.l1.1)).af a8).keep a9 λP b l=>(C P b).2 (l▸e.l2.1);refine fk (c:=iC) r1 E_ s6 (D:=D) (x:=l) ⟨d,a,c,rfl,y4,he⟩ (λP b=>⟨by have:=(C P b).1;omega,λee=>(C P b).2 (b4 P ee).1⟩) ba (by unfold maxLen;omega) λa' L s7 F2 f9 b0 o2=>⟨_,_,_,rfl,b0.mono λP _ b=>.inr (b4 P b),?_⟩
  have s8:¬aI a2=some q.r2:=λee=>(key _ (b4 _ ee)).2.2 rfl;refine Ar Vt (s5.keep b0 s8) (o1.keep b0 s8) λj4 s9 f5 B2=>⟨f5.mono λP _ l=>.inl l,λd0 j5=>?_⟩
  have f6:ai j4 d0:=j5.keep;have B3:d0.heap.size=j4.heap.size:=by rw[j5.heap]
  have B4:=b0.size;have kb:aj (λP=>P=q.r2\/(F P/\q.cls P= .done (l.bk,l.agg,l.field))) c9 d0:=((((ai.keep a8).then (a9.mono λP _ l=>.inl l)).then (b0.mono λP _ b=>.inr (b4 P b))).then (f5.mono λP _ l=>.inl l)).then (ai.keep f6);have e5:=kb.get n8 (λB=>B.elim (λl=>oM) λB=>by have:=g _ B.1;omega);refine⟨_,_,ae e5 rfl,ae e5 rfl,PS.mk e5 sM λB5 j6 B6 t2=>PS.mk t2 sM λd1 j7 B7 j8=>⟨_,_,ae j8 rfl,ae j8 rfl,?_⟩⟩;have M:aj (λP=>P=q.r1\/P=q.r2\/(F P/\q.cls P= .done (l.bk,l.agg,l.field))\/P=E.heap.size) a6 d1:=
   ((A.mono λP _ l=>.inl l).then (kb.mono λP _ b=>b.elim (λl=>.inr (.inl l)) λb=>.inr (.inr (.inl b)))).then ((j6.mono λP _ l=>.inr (.inr (.inr l))).then (j7.mono λP _ l=>.inr (.inr (.inr l))))
  have kc:aj (·=E.heap.size) d0 d1:=j6.then j7;have zT:=M.size;have I:=c5 (r:=(false,(0,0),{V with eE:=aH V.eE (l.bk,l.agg) ⟨nX (((aq V.eE (l.bk,l.agg)).getD ⟨0,[]⟩).version+1),PJ (V.decl.at l.bk) (V.cellsOf l) l.field l.op l.arg⟩,done:=aH V.done (l.bk,l.agg,l.field) (j++[l])})) (by simp only;rw[Zq (by simpa using f4)]);have t3:=(bd.Pp hV l).1;refine Ok.mk ⟨by rw[I],λP=>P<d1.heap.size/\(F P\/D P\/w.heap.size<=P),?_,?_,λP b=>b.2⟩
  rotate_left
  ·exact(ai.keep e3).trans M (λ_ _ e=>e) λP b hT=>by
    rcases hT with rfl|rfl|hT|rfl
    ·exact e.l1.1
    ·exact e.l2.1
    ·exact hT.1
    ·omega
  rw[I]at t3⊢;have t4:∀P,G P->c8.heap.size<=P/\P<a6.heap.size:=λP b=>⟨hG P b,i7.aE P b⟩
  have N:∀P,F P->P<d1.heap.size:=λP b=>by have:=g P b;omega
  classical
  have O:∀P,F P->(if F P then q.cls P else if c8.heap.size<=P/\P<a6.heap.size then HO.Ud else HO.done (l.bk,l.agg,l.field))=q.cls P:=λP b=>Zx b;refine⟨t3,⟨q.ta,q.tn,q.tc,q.pa,q.pn,q.pc,q.ea,q.en,q.ec,q.r1,q.r2,aH q.l1 (l.bk,l.agg) (.agg #[QH (nX (s.version+1)),.slice r7 r8 r9]),aH q.l2 (l.bk,l.agg,l.field) (.slice a' (a7+1) L),λP=>if F P then q.cls P else if c8.heap.size<=P/\P<a6.heap.size then HO.Ud else HO.done (l.bk,l.agg,l.field)⟩,?_,?_,?_,?_,?_,?_,?_,λP b=>b.1,⟨⟨N _ e.lp.1,.inl e.lp.1⟩,(O _ e.lp.1).trans e.lp.2⟩,⟨⟨N _ e.l1.1,.inl e.l1.1⟩,(O _ e.l1.1).trans e.l1.2⟩,⟨⟨N _ e.l2.1,.inl e.l2.1⟩,(O _ e.l2.1).trans e.l2.2⟩⟩
  ·exact M.get t.at' λB=>by
    rcases B with B|B|B|B
    ·exact e8 B
    ·exact i5 B
    ·exact(key _ B).1 rfl
    ·omega
  ·refine(t.Pm.keep M λP b B=>?_).mono λP b=>⟨⟨N P b.1,.inl b.1⟩,(O P b.1).trans b.2⟩
   have d4:=g P b.1;rcases B with rfl|rfl|B|B
   ·have:=e.l1.2;rw[b.2]at this;cases this
   ·have:=e.l2.2;rw[b.2]at this;cases this
   ·have:=B.2;rw[b.2]at this;cases this
   ·omega
  ·refine(t.MY.keep M λP b B=>?_).mono (λP b=>⟨⟨N P b.1,.inl b.1⟩,(O P b.1).trans b.2⟩) λP b=>b.1.1
   have d4:=g P b.1;rcases B with rfl|rfl|B|B
   ·have:=e.l1.2;rw[b.2]at this;cases this
   ·have:=e.l2.2;rw[b.2]at this;cases this
   ·have:=B.2;rw[b.2]at this;cases this
   ·omega
  ·exact((s0.af j1).keep kb λB=>B.elim i6 λB=>(key _ B).2.1 rfl).keep kc oM
  ·refine fh.aH ?_ ?_
   ·refine⟨r7,r8,r9,by rw[k4],?_⟩
    refine((i7.row (bytes:=32) dC ?_).keep M λP b B=>?_).mono λP b=>?_
    ·rw[Lf,hV.len];unfold aS;omega
    ·have d4:=t4 P b
     rcases B with rfl|rfl|B|B
     ·omega
     ·omega
     ·have:=g P B.1;omega
     ·omega
    ·have d4:=t4 P b
     refine⟨⟨oM,.inr (.inr oM)⟩,?_⟩;show(if F P then _ else _)=_;rw[Zq (λhf=>by have:=g P hf;omega),Zx d4]
   ·refine t.Ue.mono λf0 r2 hu=>?_
    obtain⟨e6,n2,e7,rfl,hu⟩:=hu;refine⟨e6,n2,e7,rfl,(hu.keep M λP b B=>?_).mono λP b=>⟨⟨N P b.1,.inl b.1⟩,(O P b.1).trans b.2⟩⟩;have d4:=g P b.1;rcases B with rfl|rfl|B|B
    ·have:=e.l1.2;rw[b.2]at this;cases this
    ·have:=e.l2.2;rw[b.2]at this;cases this
    ·have:=B.2;rw[b.2]at this;cases this
    ·omega
  ·have:=(s9.af f6).keep kc (by show¬q.r2=E.heap.size;omega)
   rw[HP]at this;exact this
  ·refine ny.aH ?_ t.Ur ?_ t.dn.tidy
   ·refine⟨a',_,L,rfl,?_⟩
    have t5:∀P,F2 P->P<s7.heap.size/\P≠E.heap.size:=λP b=>by
     refine⟨f9.aE P b,λl=>?_⟩;rcases o2 P b with f|f|f
     ·have:=g P f.1;omega
     ·have:=(C P f).1;omega
     ·omega
    refine((f9.keep f5 λP b l=>?_).af f6|>.keep kc λP b l=>(t5 P b).2 l).mono (λP b=>?_) λP b=>b.1.1
    ·rcases o2 P b with f|f|f
     ·exact(key P f).2.2 l
     ·exact(C P f).2 (l▸e.l2.1)
     ·omega
    ·have:=(t5 P b).1
     have hz:=kc.size;rcases o2 P b with f|f|f
     ·exact⟨⟨N P f.1,.inl f.1⟩,(O P f.1).trans f.2⟩
     ·refine⟨⟨oM,.inr (.inl f)⟩,?_⟩
      show(if F P then _ else _)=_;rw[Zq (C P f).2,Zq (by have:=(C P f).1;omega)]
     ·refine⟨⟨oM,.inr (.inr oM)⟩,?_⟩
      show(if F P then _ else _)=_;rw[Zq (λhf=>by have:=g P hf;omega),Zq oM]
   ·intro u8 f0 r2 d5 hu
    obtain⟨e6,n2,e7,rfl,hu⟩:=hu;refine⟨e6,n2,e7,rfl,(hu.keep M λP b B=>?_).mono (λP b=>⟨⟨N P b.1,.inl b.1⟩,(O P b.1).trans b.2⟩) λP b=>b.1.1⟩;have d4:=g P b.1;rcases B with rfl|rfl|B|B
    ·have:=e.l1.2;rw[b.2]at this;cases this
    ·have:=e.l2.2;rw[b.2]at this;cases this
    ·have:=B.2;rw[b.2]at this
     simp only[HO.done.injEq]at this;exact d5 this
    ·omega
end
section
variable {w w':World} {p:Nat} {F T D:XM} {V:bd} {q:CX}
abbrev RV(P:gX)(a:XU)(b c:Nat):Value:=.agg (tf P a b c).toArray
def EX(L:cI w p F V)(hT:eP w)(hr:Row aM 8 w D d a l.aJ)(o:∀P,D P->P<w.heap.size/\¬F P)(he:l.Ok)(b:((aq V.done (l.bk,l.agg,l.field)).getD []).length<=20000000)(M:V.entries.length<=20000000):
  ZH 79 #[XP p,jJ l d a c] w (Ok λW w'=>∃d a c G,W=RV (V.add l).1 d a c/\Row aM 8 w' G d a l.aJ/\∃X,cI w' p X (V.add l).2/\cO F w X w'/\∀P,G P->w.heap.size<=P/\P<w'.heap.size/\¬X P):=by
 have Y:=L.aE;have g9:=Y _ L.self;refine xE (PA.mk λt e5 h3 d0=>PA.mk λh4 Z h5 e6=>?_);have k0:=e5.then Z;refine ay (bf l d a c) (Z.get d0 id) (PC.ok (sL (hr.af k0) λP b=>by have:=(o P b).1;omega) ?_);rintro _ h6 ⟨a6,n1,c1,G1,rfl,e7,u,N⟩;have a0:=k0.then N;refine cD (rR l a6 n1 c1) ⟨rfl,PC.ok (Po (L.af a0) (hT.af a0) e7 (λP b=>⟨(u P b).2,λj=>by have:=Y P j;have:=u P b;omega⟩) he b) ?_⟩;rintro _ v ⟨rfl,f,b8,O,Q⟩;have h7:=N.size;have h8:=O.size;have b0:∀P,f P->F P\/w.heap.size<=P:=λP b=>by
  rcases Q P b with e|e|e
  ·exact .inl e
  ·have:=u P e;exact .inr oM
  ·exact .inr oM
 have b1:aj F w v:=(ai.keep a0).then O;have R:∀{P:Nat},w.heap.size<=P->¬F P:=λ{P} b j=>by have:=Y P j;omega
 have d1:=O.get (N.get (Z.get d0 id) id) (R (Q4 _));have d2:=O.get (N.get e6 id) (R oM);refine⟨_,_,_,rfl,PA.mk λh9 e8 i0 e9=>PS.mk e9 sM λi1 f2 i2 f3=>PS.mk f3 sM λi3 f5 i4 f6=>λx b9=>?_⟩;have A:ai v x:=((e8.new f2 λP b=>.inr oM).new f5 λP b=>.inr oM).then b9.keep;have i5:x.heap.size=v.heap.size+1:=by rw[b9.heap];omega
 have a1:x.heap[v.heap.size]? =some (.cells #[QH (V.try l).2.1.1,QH (V.try l).2.1.2] 39 (0,0)):=(b9.keep (S:=λ_=>False)).get f6 id;have b2:=A.get d1 id;obtain⟨g8,q,g⟩:=b8.af A;have c0:=b8.self;have y:=b8.aE;have b3:=((hr.keep b1 λP b=>(o P b).2).af A)
 have a4:(V.try l).2.2.entries=V.entries:=by
  rw[bd.qz];split;rfl;split;rfl;split<;>rfl
 have i6:=g.MY.len dC;have B:∀P,aI q.ea=some P->f P/\q.cls P= .MY:=λP b=>g.MY.self P b;have C:¬aI q.ea=some p:=λk=>by have e:=(B p k).2;rw[g.lp.2]at e;cases e
 refine⟨λP=>aI q.ea=some P,p,0,rfl,C,_,_,_,ae g.at' rfl,ay (bf l d a c) b2 ⟨λk=>by have:=y _ (B _ k).1;omega,_,_,ae a1 rfl,ae a1 rfl,PC.ok (sL b3 λP b=>by have:=(o P b).1;omega) ?_⟩⟩;rintro _ i7 ⟨a7,n2,c2,G2,rfl,f7,z,c4⟩;have i8:=c4.size;refine⟨_,_,_,_,_,_,_,_,_,_,_,_,rfl,ai.keep c4,PA.mk λd3 c5 i9 g0=>⟨ai.keep c5,?_⟩⟩;have a2:=c4.then c5;refine fk (c:=SP) (x:=⟨l,(V.try l).1,(V.try l).2.1⟩) (g.MY.af a2) Uc g0 (D:=G2) ⟨a7,n2,c2,rfl,f7.af c5,he⟩ (λP b=>⟨by have:=z P b;omega,λk=>by have:=y _ (B _ k).1;have:=z P b;omega⟩) (by rw[a4];unfold aS;omega) (by rw[a4];unfold maxLen;omega) λa' E d4 F2 b4 c6 c7=>⟨_,_,_,rfl,p,0,rfl,?_⟩
 have j0:=c6.size;have d5:=c6.get ((g.af a2).at') C;refine PS.mk d5 sM λH g1 j1 g2=>λr d6=>?_;have d7:ai H r:=d6.keep;have j2:r.heap.size=H.heap.size:=by rw[d6.heap]
 have a5:aj (·=p) d4 r:=g1.af d7;have k5:aj (λP=>aI q.ea=some P\/P=p) x r:=((ai.keep a2).then (c6.mono λP _ b=>.inl b)).then (a5.mono λP _ b=>.inr b);have I:aj f x r:=k5.mono λP _ b=>b.elim (λe=>(B P e).1) λe=>e▸c0;have c8:∀{P:Nat},v.heap.size<=P->¬f P:=λ{P} b j=>by have:=y P j;omega
 have g3:¬f w.heap.size:=λj=>by
  rcases Q _ j with e|e|e
  ·exact R (Q4 _) e
  ·have:=u _ e;omega
  ·omega
 have c9:¬f t.heap.size:=λj=>by
  rcases Q _ j with e|e|e
  ·exact R oM e
  ·have:=u _ e;omega
  ·omega
 have d8:=I.get b2 g3;have d9:=I.get (A.get d2 id) c9;have b5:=I.get a1 (c8 (Q4 _));have e0:∀P,D P->¬f P:=λP b j=>by
  rcases Q _ j with e|e|e
  ·exact(o P b).2 e
  ·have:=u _ e;have:=(o P b).1;omega
  ·have:=(o P b).1;omega
 have e1:=b3.keep I e0;have j3:=k5.size;refine⟨λP=>P=t.heap.size,ay (bf l d a c) d8 ⟨oM,_,_,ae b5 rfl,ae b5 rfl,PC.ok (sL e1 λP b=>by have:=(o P b).1;omega) ?_⟩⟩;rintro _ j4 ⟨a3,n3,c3,G3,rfl,g4,e2,J⟩;have j5:=J.size;refine⟨_,_,_,_,_,_,_,_,_,_,_,_,rfl,ai.keep J,aC (EY ⟨l,(V.try l).1,(V.try l).2.1⟩ a3 n3 c3) (J.get d9 id) rfl λe3 S j6 g5=>⟨S,ay (EY ⟨l,(V.try l).1,(V.try l).2.1⟩ a3 n3 c3) g5 (Ok.mk ⟨a3,n3,c3,G3,rfl,g4.keep S λP b k=>by have:=e2 P b;omega,λP=>P<H.heap.size/\(f P\/G2 P\/d3.heap.size<=P),?_,⟨?_,?_⟩,?_⟩)⟩⟩
 ·have g6:=(bd.yy (by
   have:V.OK:=L.1;exact this) l).1
  have T:aj (λP=>P=t.heap.size) r e3:=(ai.keep J).then S;have zc:=T.size;have g7:∀P,f P->P<H.heap.size:=λP b=>by have:=y P b;omega
  classical
  have e4:∀P,f P->(if f P then q.cls P else HO.MY)=q.cls P:=λP b=>Zx b;have K:aj (λP=>(aI q.ea=some P\/P=p)\/P=t.heap.size) x e3:=(k5.mono λP _ b=>.inl b).then (T.mono λP _ b=>.inr b);have h:∀(n:HO) P,n≠.MY->n≠.self->f P/\q.cls P=n->¬((aI q.ea=some P\/P=p)\/P=t.heap.size):=λn P e U b m=>by
   rcases m with(m|m)|m
   ·exact e (b.2.symm.trans (B P m).2)
   ·subst m;exact U (b.2.symm.trans g.lp.2)
   ·subst m;exact c9 b.1
  have i:∀(n:HO) P,f P/\q.cls P=n->((P<H.heap.size/\(f P\/G2 P\/d3.heap.size<=P))/\(if f P then q.cls P else HO.MY)=n):=λn P b=>⟨⟨g7 P b.1,.inl b.1⟩,(e4 P b.1).trans b.2⟩
  refine⟨g6,⟨q.ta,q.tn,q.tc,q.pa,q.pn,q.pc,a',q.en+1,E,q.r1,q.r2,q.l1,q.l2,λP=>if f P then q.cls P else HO.MY⟩,?_,?_,?_,?_,?_,?_,?_,λP b=>by have:=b.1;omega,i _ _ g.lp,i _ _ g.l1,i _ _ g.l2⟩
  ·exact T.get (d7.get g2 id) oM
  ·exact(g.Pm.keep K λP b=>h _ P sM sM b).mono (i _)
  ·have M:∀P,F2 P->P<d4.heap.size/\P≠t.heap.size/\P≠p:=λP b=>by
    refine⟨b4.aE P b,λk=>?_,λk=>?_⟩
    ·rcases c7 P b with e|e|e
     ·exact c9 (k▸e.1)
     ·have:=z P e;omega
     ·omega
    ·rcases c7 P b with e|e|e
     ·have U:=e.2;rw[k,g.lp.2]at U;cases U
     ·have:=z P e;have:=y p c0;omega
     ·have:=y p c0;omega
   have:(V.add l).2.entries=(V.try l).2.2.entries++[⟨l,(V.try l).1,(V.try l).2.1⟩]:=rfl;rw[this];refine((b4.keep a5 λP b=>(M P b).2.2).keep T λP b=>(M P b).2.1).mono (λP b=>?_) λP b=>by have:=b.1.1;omega
   have h0:=(M P b).1;rcases c7 P b with e|e|e
   ·exact i _ P e
   ·have:=z P e
    refine⟨⟨oM,.inr (.inl e)⟩,?_⟩;show(if f P then _ else _)=_;rw[Zq (c8 oM)]
   ·refine⟨⟨oM,.inr (.inr e)⟩,?_⟩
    show(if f P then _ else _)=_;rw[Zq (c8 oM)]
  ·exact g.st.keep K (h _ _ sM sM g.l1)
  ·refine g.Ue.mono λW a8 s=>?_
   obtain⟨x1,x2,x3,rfl,s⟩:=s;exact⟨x1,x2,x3,rfl,(s.keep K λP b=>h _ P sM sM b).mono (i _)⟩
  ·exact g.dn.keep K (h _ _ sM sM g.l2)
  ·refine g.Ur.mono λa9 W a8 s=>?_
   obtain⟨x1,x2,x3,rfl,s⟩:=s;exact⟨x1,x2,x3,rfl,(s.keep K λP b=>h _ P sM sM b).mono (i _) λP b=>by have:=b.1.1;omega⟩
 ·have k1:aj f v r:=(ai.keep A).then I
  exact((b1.new k1 b0).af J).new S λP b=>.inr oM
 ·intro P b
  rcases b.2 with e|e|e
  ·exact b0 P e
  ·have:=z P e;exact .inr oM
  ·exact .inr oM
 ·intro P b
  have:=e2 P b;refine⟨oM,oM,λm=>by have:=m.1;omega⟩
def CZ(d:aW):∀(b:List ah) (P:bd) (a:Int×Int×Int),(((aq (b.foldl (λP e=>(P.add e).2) P).done a).getD []).length<=((aq P.done a).getD []).length+b.length)/\(b.foldl (λP e=>(P.add e).2) P).entries.length=P.entries.length+b.length
 |[],P,a=>by simp
 |e::b,P,a=>by
  rw[List.foldl_cons];obtain⟨f,g⟩:=CZ d b (P.add e).2 a;have j:((aq (P.add e).2.done a).getD []).length<=((aq P.done a).getD []).length+1:=by
   show((aq (P.try e).2.2.done a).getD []).length<=_;rw[bd.qz];split
   ·simp
   split
   ·simp
   split
   ·simp
   ·simp only
    rw[bz];split
    ·rename_i h
     have c:a=(e.bk,e.agg,e.field):=by simpa using h
     rw[c];simp
    ·simp
  have i:(P.add e).2.entries.length=P.entries.length+1:=by
   show((P.try e).2.2.entries++[_]).length=_;have:(P.try e).2.2.entries=P.entries:=by rw[bd.qz];split;rfl;split;rfl;split<;>rfl
   rw[this];simp
  refine⟨?_,by rw[g,i];simp;omega⟩;simp only[Xq]at f⊢;omega
def EV{tn L q M j O:Nat}(Q:dt N=0)(R:eP w)(S:bl w D N d tn t q)(T:∀P,D P->P<w.heap.size)(r:Row iC 96 w f c7 j B)(s:∀P,f P->P<w.heap.size)(b:B.length<=20000000):
  ZH 40 #[.agg #[.slice d tn L,.slice t q M],.slice c7 j O] w (Ok λU w'=>∃p F,U= XP p/\cI w' p F (cN N B)/\(∀P,F P->w.heap.size<=P)/\ai w w'):=by
 refine Iu (PA.mk λw1 u s1 v=>⟨_,_,_,_,_,_,ae v rfl,ae v rfl,PC.ok (Fk Q (S.af u) λP b=>by have:=T P b;omega) ?_⟩);rintro _ w9 ⟨p,V,rfl,e,W,x⟩;have a9:=r.len;have X:=u.then x;have z9:=x.size;refine⟨_,rfl,λy o w'=>∃a:Nat,o=a/\a<=j/\y=j-a/\∃F,cI w' p F (cN N (B.take a))/\(∀P,F P->w.heap.size<=P)/\ai w w',⟨_,0,rfl,Qj _,rfl,V,e,λP b=>by have:=W P b;omega,X⟩,?_⟩;rintro y _ _ Y ⟨a,rfl,hj,rfl,F,e,k,g⟩;refine al.dec (λb0=>?_) (λb1=>?_)
 ·have z:a<B.length:=oM
  obtain⟨P,Z,es,ha,a0,b2,A,l,m,n,rfl,C,E⟩:=(r.af g).el a B[a] (Qq z);have H:B[a]? =some B[a]:=Qq z;generalize B[a]=c at A C E H;refine⟨P,Z,ha,oM,oM,bW (es:=aF c l m n) (k:=10) (bf c l m n) rfl (λo ht=>A o ht) (PA.mk λb3 a3 b4 a5=>aC (bf c l m n) a5 rfl λa6 a7 b5 a8=>ay (bf c l m n) a8 ?_)⟩;have h:ai Y a6:=a3.new a7 λP b=>.inr oM;have I:=CZ N (B.take a) (bd.new N) (c.bk,c.agg,c.field);have b6:=List.length_take_le a B;have b7:((aq (cN N (B.take a)).done (c.bk,c.agg,c.field)).getD []).length<=0+(B.take a).length:=I.1;have b8:(cN N (B.take a)).entries.length=0+(B.take a).length:=I.2;have b9:=g.size;have c0:=h.size;refine PC.ok (EX (e.af h) (R.af (g.then h)) (C.af h) (λP b=>⟨by have:=s P b;omega,λhf=>by have:=k P hf;have:=s P b;omega⟩) E oM oM) ?_;rintro _ c1 ⟨a4,n4,c4,G,rfl,-,F',i,J,-⟩;refine cD (Na _ a4 n4 c4) ⟨rfl,_,?_,a+1,an oM,oM,rfl,F',?_,λP b=>?_,(g.then h).new J.1 λP b=>.inr (k P b)⟩
  ·omega
  ·rw[Qw,H]
   unfold cN at i⊢;rw[List.foldl_append];exact i
  ·rcases J.2 P b with K|K
   ·exact k P K
   ·omega
 ·rw[Qz oM]at e
  exact Ok.mk ⟨p,F,rfl,e,k,g⟩
end
end Go.Proofs.YtblabbpipmodgaaGreatDoor
namespace Go.au
open Go
variable{a:Nat}{d:XU}{h:Program}{i:Type}{g n:TypeId}{b:World}{x:XT}
def MP{cs:List i}{p m:Nat}{v:i}{vs:List i}(P:p<cs.length):(cs.set p v).take (p+1)++vs++(cs.set p v).drop (p+1+m)=cs.take p++(v::vs)++cs.drop (p+(m+1)):=by
 have a:(cs.set p v).take (p+1)=cs.take p++[v]:=by
  rw[Qw,Xj,Zx rfl,Zx P,List.take_set_of_le (Q4 _)];rfl
 have b:(cs.set p v).drop (p+1+m)=cs.drop (p+(m+1)):=by
  rw[List.drop_set_of_lt oM,show p+1+m=p+(m+1) by omega]
 rw[a,b];simp
def AT{l:TypeId}{m:Nat}{g:XU}{n d a h e:Nat}{o:XT}(p:g=some ⟨h,e,none⟩):∀(b:List Value) (P:Nat) {c:World} {cs:List Value},Own c l m g n d cs->a+P+b.length<=cs.length->
  (∀f,Own f l m g n d (cs.take (a+P)++b++cs.drop (a+P+b.length))->aj (λh=>aI g=some h) c f->f.heap.size=c.heap.size->o f)->iW ⟨h,e+a,none⟩ P b c o
 |[],P,c,cs,i,q,j=>j c (by simpa using i) (aj.refl _) rfl
 |v::b,P,c,cs,i,q,j=>by
  unfold iW;rw[Xq]at q;rw[Addr.add_lit,Nat.add_assoc];refine i.set (m:=a+P) oM p λf r s t=>AT p b (P+1) r bc λu k w x=>j u ?_ (s.then w) (x.trans t);have:=MP (cs:=cs) (p:=a+P) (m:=b.length) (v:=v) (vs:=b) oM;rw[show a+(P+1)=a+P+1 from rfl]at k;rw[this]at k;exact k
def Own.store{k c m f e:Nat}{P cs:List Value}(o:Own b n a d k c cs)(p:d=some ⟨f,e,none⟩)(l:jf h g P=true)(q:m+P.length<=cs.length)(j:∀i,Own i n a d k c (cs.take m++P++cs.drop (m+P.length))->aj (λf=>aI d=some f) b i->i.heap.size=b.heap.size->x i):BY h g (.pointer (some ⟨f,e+m,none⟩)) (.agg P.toArray) b x:=by
 simp only[jf,QK]at l;obtain⟨⟨⟨r,w⟩,s⟩,t⟩:=l;unfold BY;have u:Nat.beq P.toArray.size (k_ h g)=true:=by simpa using s
 have v:P.toArray.toList.all Value.oneCell'=true:=by simpa using t
 simp only[r,u,v];exact AT p P 0 o (by simpa using q) j
end Go.au
namespace Go.au
open Go
end Go.au
namespace Go.Proofs.YtblabbpipmodgaaGreatDoor
section
open Go.au
end
section
open Go.au
def iz(P:oC):List Value:=[QH P.group,QH P.value,QH P.count]
def oC.Ok(P:oC):Prop:=aN P.group/\aN P.value/\aN P.count
def VJ:jK oC:=flat 3 iz oC.Ok (λ_=>rfl) (λa b P=>by simp[iz]at P;rcases P with rfl|rfl|rfl<;>rfl)
def Hd(P:oC):Value:=.agg (iz P).toArray
def SI(P:oC):jf XG 269 (iz P)=true:=kR
def UR(P:oC):Py (fW XG 269) (.agg (iz P).toArray)=true:=kR
structure oB (w:World) (p r:Nat) (R:eg):Prop where
 at':w.heap[p]? =some (.cells #[QH R.p.bk,QH R.p.field,QH R.p.group,QH R.p.EW,QH R.p.make,.map (some r)] 288 (0,0))
 map:bU w r (Value.int .i64) (R.rows.map λx=>(x.1,Hd x.2))
 ok:∀x∈R.rows,oC.Ok x.2/\x.2.group=x.1
variable{e:Int}{a c:Nat}{d:XU}{l:ah}{d6:jb}
section
variable {w w':World} {p r:Nat} {R:eg} {T:XM}
def oB.keep(P:oB w p r R)(a:aj T w w')(b:¬T p)(c:¬T r):oB w' p r R:=⟨a.get P.at' b,P.map.keep a c,P.ok⟩
def oB.af(P:oB w p r R)(a:ai w w'):oB w' p r R:=P.keep a id id
def Ng:ZH 133 #[.agg (mK d6).toArray] w (Ok λb w'=>∃p r,b= XP p/\oB w' p r ⟨d6,[]⟩/\w.heap.size<=p/\w.heap.size<=r/\p<w'.heap.size/\r<w'.heap.size/\ai w w'):=by
 refine Ix (PA.mk λc d j P=>⟨_,_,_,_,_,ae P rfl,ae P rfl,ae P rfl,ae P rfl,ae P rfl,PA.mk λe f k g=>PA.mk λl a m h=>Ok.mk ⟨e.heap.size,c.heap.size,rfl,⟨h,bU.new (a.get g id),λd6 i=>by cases i⟩,oM,oM,oM,oM,(d.then f).then a⟩⟩)
def Ew(P:jb)(b:ah)(a:Int):Option Int:=if P.group=1 then some b.agg else if P.group=2 then some b.arg else if P.group=3 then some a else none
def JG(i:oB w p r R):ZH 263 #[XP p,jJ l d a c,QH e] w (Ok λj w'=>j= .tuple #[QH ((Ew R.p l e).getD 0),.bool (Ew R.p l e).isSome]/\ai w w'):=by
 refine tO (PA.mk λk P m h=>⟨p,0,rfl,_,ae (i.af P).at' rfl,al.dU (λb=>⟨_,ae h rfl,Ok.mk ⟨?_,P⟩⟩) (λb=>al.dU (λf=>⟨_,ae h rfl,Ok.mk ⟨?_,P⟩⟩) (λf=>al.dU (λg=>Ok.mk ⟨?_,P⟩) (λg=>Ok.mk ⟨?_,P⟩)))⟩)
 ·unfold Ew;rw[Zx b];rfl
 ·unfold Ew;rw[Zq b,Zx f];rfl
 ·unfold Ew;rw[Zq b,Zq f,Zx g];rfl
 ·unfold Ew;rw[Zq b,Zq f,Zq g];rfl
def Mw(h:oB w p r R){P:oC}{arg:Int}:ZH 264 #[XP p,.agg (iz P).toArray,QH arg] w (Ok λm w'=>m= QH (lj R.p P arg)/\ai w w'):=by
 refine vH (PA.mk λn c q g=>?_);have d:=(h.af c).at';refine⟨_,ae g rfl,p,0,rfl,_,ae d rfl,al.dU (λe=>⟨_,ae g rfl,Ok.mk ⟨?_,c⟩⟩) (λe=>⟨p,0,rfl,_,ae d rfl,al.dU (λf=>⟨_,ae g rfl,Ok.mk ⟨?_,c⟩⟩) (λf=>⟨λl w'=>l=decide (R.p.make=5\/P.count=1/\(R.p.make=3\/R.p.make=4))/\n=w',?_,?_⟩)⟩)⟩
 ·unfold lj;rw[Zx e]
 ·unfold lj;rw[Zq e,Zx f]
 ·refine⟨p,0,rfl,_,ae d rfl,al.dU (λi=>⟨?_,rfl⟩) (λi=>al.dU (λk=>⟨p,0,rfl,_,ae d rfl,al.dU (λa=>⟨?_,rfl⟩) (λa=>⟨p,0,rfl,_,ae d rfl,?_,rfl⟩)⟩) (λk=>⟨?_,rfl⟩))⟩
  ·rw[Zy (.inl i)];simpa using i
  ·rw[Zy (.inr ⟨k,.inl a⟩)]
  ·by_cases b:R.p.make=4
   ·rw[Zy (.inr ⟨k,.inr b⟩)];simpa using b
   ·rw[Xv (by rintro(h|⟨-,h|h⟩);exact i h;exact a h;exact b h)];simpa using b
  ·rw[Xv (by rintro(h|⟨h,-⟩);exact i h;exact k h)]
 ·rintro l _ _ ⟨o,rfl⟩
  subst o;refine al.dec (λj=>Ok.mk ⟨?_,c⟩) (λj=>⟨p,0,rfl,_,ae d rfl,al.dU (λa=>⟨_,ae g rfl,Ok.mk ⟨?_,c⟩⟩) (λa=>⟨p,0,rfl,_,ae d rfl,al.dU (λb=>⟨_,ae g rfl,Ok.mk ⟨?_,c⟩⟩) (λb=>Ok.mk ⟨?_,c⟩)⟩)⟩)
  ·unfold lj;rw[Zq e,Zq f,Zx j]
  ·have:(if arg<P.value then arg else P.value)=min P.value arg:=by split<;>omega
   unfold lj;rw[Zq e,Zq f,Zq j,Zx a,<-this]
  ·have:(if arg>P.value then arg else P.value)=max P.value arg:=by split<;>omega
   unfold lj;rw[Zq e,Zq f,Zq j,Zq a,Zx b,<-this]
  ·unfold lj;rw[Zq e,Zq f,Zq j,Zq a,Zq b]
end
def RO:lT XG 286 3 269 (Hd ⟨0,0,0⟩):=⟨kR,kR⟩
def KP{a e f:Type}[BEq a](b:e->f)(c:a):∀P:List (a×e),aq (P.map λd=>(d.1,b d.2)) c=(aq P c).map b
 |[]=>rfl
 |(d,g)::P=>by
  simp only[QY];unfold aq;split
  ·rfl
  ·exact KP b c P
def KQ{c d g:Type}[BEq c](a:d->g)(e:c)(f:d):∀b:List (c×d),aH (b.map λP=>(P.1,a P.2)) e (a f)=(aH b e f).map λP=>(P.1,a P.2)
 |[]=>rfl
 |(P,h)::b=>by
  simp only[QY];unfold aH;split
  ·simp
  ·simp[KQ a e f b]
section
variable {w w':World} {p r:Nat} {R:eg}
def eg.add_def(r:eg)(e:gX)(a:Int):r.add e a=match Ew r.p e.ev a with
  |none=>r
  |some P=>if e.void||e.ev.bk !=r.p.bk||e.ev.field !=r.p.field then r else
   {r with rows:=aH r.rows P ⟨P,lj r.p ⟨P,((aq r.rows P).getD ⟨0,0,0⟩).value,nX (((aq r.rows P).getD ⟨0,0,0⟩).count+1)⟩ e.ev.arg,nX (((aq r.rows P).getD ⟨0,0,0⟩).count+1)⟩}:=rfl
def EZ:aN 0:=by unfold aN;omega
def SK{P:oC}{arg:Int}(a:oC.Ok P)(b:aN arg):aN (lj d6 P arg):=by
 obtain⟨d,e,c⟩:=a;unfold lj;split;exact c;split;exact Ko _;split;exact b;split
 ·unfold aN at*;omega
 split
 ·unfold aN at*;omega
 ·exact EZ
def Nb(i:oB w p r R)(a1:p≠r){x:gX}(v:x.ev.Ok)(a2:aN e):ZH 201 #[XP p,RV x d a c,QH e] w (Ok λl w'=>l= .tuple #[]/\oB w' p r (R.add x e)/\aj (·=r) w w'):=by
 have b1:=aB i.at';have b2:=i.map.lt;refine xN (PA.mk λw1 L s1 M=>SL (cs:=aF x.ev d a c) (bf _ _ _ _) M (λa3 l N=>?_) (PC.ok (JG (i.af L)) ?_))
 ·rw[Xz]
  have a4:=(Qv.1 N).1;show(aF x.ev d a c++_).toArray[a3]? =_;simp only[List.getElem?_toArray];rw[XW a4];exact N
 rintro _ O ⟨rfl,Q⟩;have m:=L.then Q;have n:=Q.get M id;have o:=i.af m;have f:R.add x e=R->∀h,bY O h->Ok (λl w'=>l= .tuple #[]/\oB w' p r (R.add x e)/\aj (·=r) w w') (.returned (.tuple #[])) h:=λhe h j=>Ok.mk ⟨rfl,by rw[he];exact o.af j.keep,ai.keep (m.then j.keep)⟩;refine⟨_,_,rfl,al.not (al.mk (λy=>?_) (λy=>f ?_))⟩
 rotate_left
 ·rw[eg.add_def,show Ew R.p x.ev e=none by simpa using y]
 obtain⟨b,g⟩:=Option.isSome_iff_exists.1 y;rw[g,Option.getD_some];have s:∀{q:eg},(if x.void||x.ev.bk !=R.p.bk||x.ev.field !=R.p.field then R else
   {R with rows:=aH R.rows b ⟨b,lj R.p ⟨b,((aq R.rows b).getD ⟨0,0,0⟩).value,nX (((aq R.rows b).getD ⟨0,0,0⟩).count+1)⟩ x.ev.arg,nX (((aq R.rows b).getD ⟨0,0,0⟩).count+1)⟩})=q->R.add x e=q:=λ{q} z=>by
  rw[eg.add_def,g];exact z
 refine⟨_,ae n rfl,al.mk (λk=>f (s (by rw[k];rfl))) (λk=>⟨_,ae n rfl,p,0,rfl,_,ae o.at' rfl,al.dQ (λA=>f (s ?_)) (λA=>⟨_,ae n rfl,p,0,rfl,_,ae o.at' rfl,λh j=>?_⟩)⟩)⟩
 ·rw[k,show(x.ev.bk !=R.p.bk)=true by simpa using A];rfl
 have S:(x.ev.bk !=R.p.bk)=false:=by simpa using A
 have t:ai O h:=j.keep;have u:=o.af t;refine al.dQ (λB=>f (s (by rw[k,S,show(x.ev.field !=R.p.field)=true by simpa using B];rfl)) h j) (λB=>?_);have a5:(x.ev.field !=R.p.field)=false:=by simpa using B
 have T:aN b:=by
  unfold Ew at g;split at g
  ·cases g;exact v.agg
  split at g
  ·cases g;exact v.arg
  split at g
  ·cases g;exact a2
  ·cases g
 obtain⟨P,C⟩:∃P,P=(aq R.rows b).getD ⟨0,0,0⟩:=⟨_,rfl⟩
 have a6:oC.Ok P:=by
  rw[C]
  cases z:aq R.rows b with
  |none=>exact⟨EZ,EZ,EZ⟩
  |some U=>exact(i.ok _ (b_ z)).1
 have a7:(aq (R.rows.map λx=>(x.1,Hd x.2)) b).getD (Hd ⟨0,0,0⟩)=Hd P:=by
  rw[KP,C];cases aq R.rows b<;>rfl
 refine⟨p,0,rfl,_,ae u.at' rfl,yk RO Dk u.map ?_⟩;rw[a7];refine cD (UR P) ⟨rfl,PA.mk λw4 k4 s4 g4=>aC (SI P) g4 rfl λw5 k5 s5 g5=>PS.mk g5 (by simp[iz]) λw6 k6 s6 V=>⟨_,ae V rfl,PS.mk V (by simp[iz]) λw7 k7 s7 W=>?_⟩⟩;have E:ai h w7:=((k4.new k5 λF H=>.inr oM).new k6 λF H=>.inr oM).new k7 λF H=>.inr oM;have a8:=E.get (t.get n id) id;refine ay (cs:=iz ⟨b,P.value,nX (P.count+1)⟩) (SI _) W ⟨_,ae a8 rfl,PC.ok (Mw (u.af E)) ?_⟩;rintro _ w8 ⟨rfl,I⟩;have z8:=I.size;refine⟨_,rfl,PS.mk (I.get W id) (by simp[iz]) λw9 k9 s9 g9=>λX a9=>?_⟩;have Y:ai w9 X:=a9.keep;have Z:ai h X:=((E.then I).new k9 λF H=>.inr oM).then Y;have J:=u.af Z;have z3:=(m.then t).size;refine⟨p,0,rfl,_,ae J.at' rfl,ay (cs:=iz ⟨b,lj R.p ⟨b,P.value,nX (P.count+1)⟩ x.ev.arg,nX (P.count+1)⟩) (SI _) (Y.get g9 id) (iN RO Dk J.map λb3 b0 a0 b4=>Ok.mk ⟨rfl,?_,?_⟩)⟩
 ·rw[s (q:={R with rows:=aH R.rows b ⟨b,lj R.p ⟨b,P.value,nX (P.count+1)⟩ x.ev.arg,nX (P.count+1)⟩}) (by rw[k,S,a5,C];rfl)]
  refine⟨a0.get J.at' a1,?_,λU K=>?_⟩
  ·rw[<-KQ];exact b0
  ·rcases fe K with rfl|K
   ·exact⟨⟨T,SK ⟨T,a6.2.1,Ko _⟩ v.arg,Ko _⟩,rfl⟩
   ·exact i.ok U K
 ·exact(ai.keep ((m.then t).then Z)).then a0
end
section
variable {w w':World} {p r:Nat} {R:eg}
def Lg(f:oB w p r R):ZH 250 #[XP p] w (Ok λg w'=>∃c e,g= XP c/\oB w' c e R/\c≠e/\w.heap.size<=c/\w.heap.size<=e/\c<w'.heap.size/\e<w'.heap.size/\ai w w'):=by
 refine vG λa i=>?_;have j:ai w a:=i.keep;have t:a.heap.size=w.heap.size:=by rw[i.heap]
 have b:=f.af j;obtain⟨d,P,l,m,n,o⟩:=b.map.at';refine⟨no,p,0,rfl,id,_,_,_,_,_,ae b.at' rfl,ae b.at' rfl,ae b.at' rfl,ae b.at' rfl,ae b.at' rfl,p,0,rfl,_,ae b.at' rfl,PC.ok (φ:=λg w'=>g= .map (some a.heap.size)/\w'=a.alloc (.map d P)) ((AnyW.maps_Clone Tryz.SM r d P a l).mono ?_) ?_⟩
 ·rintro u w' ⟨rfl,q⟩
  exact Ok.mk ⟨rfl,q⟩
 ·rintro _ v ⟨rfl,rfl⟩
  have k:ai a (a.alloc (.map d P)):=aj.alloc _ _;have x:(a.alloc (.map d P)).heap.size=a.heap.size+1:=sM
  refine⟨_,rfl,ai.keep k,PA.mk λy h z s=>⟨ai.keep h,Ok.mk ⟨_,a.heap.size,rfl,⟨s,⟨⟨d,P,h.get (heap_alloc_new a _) id,m,n,o⟩,f.map.tidy⟩,f.ok⟩,?_⟩⟩⟩;refine⟨oM,oM,oM,oM,oM,(j.then k).then h⟩
end
open Go.au Go.Sort
def v_{c:Type}{g:Nat}{P:c->List Value}{e:c->Prop}{hl h1}{h:World}{D:XM}:∀{a:List c} {cs:List Value},bR (flat g P e hl h1) h D a cs↔cs=a.flatMap P/\∀x∈a,e x
 |[],cs=>by simp[bR]
 |x::a,cs=>by
  constructor
  ·rintro⟨l,m,rfl,⟨rfl,i⟩,j⟩
   obtain⟨rfl,k⟩:=v_.1 j;exact⟨rfl,λd b=>by rcases Q2.1 b with rfl|b;exact i;exact k d b⟩
  ·rintro⟨rfl,f⟩
   exact⟨P x,a.flatMap P,rfl,⟨rfl,f x (QV ..)⟩,v_.2 ⟨rfl,λd b=>f d (QJ _ b)⟩⟩
section
variable {α:Type} {enc:α->List Value} {K:Nat}
def Ev[Inhabited α](g:0<K)(b:∀d,(enc d).length=K){P:List α}(e:a<P.length*K):(P.flatMap enc)[a]? =(enc P[a/K]!)[a % K]? :=by
 induction P generalizing a with
 |nil=>simp at e
 |cons d P h=>
  rw[List.flatMap_cons]
  by_cases c:a<K
  ·rw[XW (by rw[b];exact c),Nat.div_eq_of_lt c,Nat.mod_eq_of_lt c];rfl
  ·rw[Xq,X7]at e
   rw[X8 (by rw[b];omega),b,h oM];obtain⟨f,rfl⟩:∃f,a=f+K:=⟨a-K,oM⟩
   rw[Nat.add_sub_cancel,Nat.add_div_right _ g,Nat.add_mod_right];simp
end
instance:Inhabited oC:=⟨⟨0,0,0⟩⟩

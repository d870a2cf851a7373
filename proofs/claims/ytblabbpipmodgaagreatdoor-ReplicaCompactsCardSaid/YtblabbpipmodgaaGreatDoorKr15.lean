import Derived.Lib.AppendZerosOnto
import Derived.Lib.Overlaps
import Derived.Test.YtblabbpipmodgaaGreatDoorKr14
set_option maxHeartbeats 4000000
set_option linter.all false
set_option maxRecDepth 20000
open Go.IntKind renaming wrap→ZG
namespace Go.aw
open Go
def Hq(i:Program)(f tn:TypeId)(j:Nat)(A q:FuncId)(h:YQ)(b c:Nat)(P:Int)(n:YQ)(a o:Nat)(d:World)(g:ZT):Prop:=
 ((0:Int)<=P/\(P:Int)<=((b:Nat):Int)/\al ((((a:Nat):Int):Int)==0) (g (.returned (.slice h b c)) d) (al ((P:Int)==((b:Nat):Int)) (aG i (Builtin.append_ #[f,f] f #[.slice h b c,.slice n a o]) d (λB C=>∃(r:YQ) (s:Nat) (t:Nat),B= .slice r s t/\g (.returned (.slice r s t)) C) (λe d=>g (.panicked [{v:=e,recovered:=false}]) d)) (aG i (Builtin.cap_ #[f] tn #[.slice h b c]) d (λE u=>∃(v:Int),E= ZH v/\al (decide (((ZG .i64 (((b:Nat):Int)+((a:Nat):Int))):Int)>v)) (((0:Int)<=P/\(P:Int)<=((c:Nat):Int)/\aG i (Builtin.append_ #[f,tn] f #[.slice h (Int.toNat P) c,ZH (ZG .i64 ((ZG .i64 (((b:Nat):Int)+((a:Nat):Int)))-P))]) u (λF H=>∃(p:YQ) (l:Nat) (m:Nat),F= .slice p l m/\((0:Int)<=P/\(P:Int)<=((l:Nat):Int)/\aG i (Builtin.copy_ #[f,f] tn #[.slice (cI p (Int.toNat P) m j) (l-Int.toNat P) (m-Int.toNat P),.slice n a o]) H (λI J=>∃(K:Int),I= ZH K/\(∀w,bX J w->((0:Int)<=(ZG .i64 (P+((a:Nat):Int)))/\((ZG .i64 (P+((a:Nat):Int))):Int)<=((l:Nat):Int)/\((0:Int)<=P/\(P:Int)<=((b:Nat):Int)/\aG i (Builtin.copy_ #[f,f] tn #[.slice (cI p (Int.toNat (ZG .i64 (P+((a:Nat):Int)))) m j) (l-Int.toNat (ZG .i64 (P+((a:Nat):Int)))) (m-Int.toNat (ZG .i64 (P+((a:Nat):Int)))),.slice (cI h (Int.toNat P) c j) (b-Int.toNat P) (c-Int.toNat P)]) w (λL M=>∃(N:Int),L= ZH N/\g (.returned (.slice p l m)) M) (λe k=>∀(_:cd) (_:cZ),g (.panicked [{v:=e,recovered:=false}]) k))))) (λe d=>g (.panicked [{v:=e,recovered:=false}]) d))) (λe d=>g (.panicked [{v:=e,recovered:=false}]) d))) (((0:Int)<=(ZG .i64 (((b:Nat):Int)+((a:Nat):Int)))/\((ZG .i64 (((b:Nat):Int)+((a:Nat):Int))):Int)<=((c:Nat):Int)/\((0:Int)<=(ZG .i64 (P+((a:Nat):Int)))/\((ZG .i64 (P+((a:Nat):Int))):Int)<=(((Int.toNat (ZG .i64 (((b:Nat):Int)+((a:Nat):Int)))):Nat):Int)/\RX i A #[.slice n a o,.slice (cI h (Int.toNat (ZG .i64 (P+((a:Nat):Int)))) c j) ((Int.toNat (ZG .i64 (((b:Nat):Int)+((a:Nat):Int))))-Int.toNat (ZG .i64 (P+((a:Nat):Int)))) (c-Int.toNat (ZG .i64 (P+((a:Nat):Int))))] u (λO x=>∃(y:Bool),O= .bool y/\al (!y) ((∀z,bX x z->((0:Int)<=(ZG .i64 (P+((a:Nat):Int)))/\((ZG .i64 (P+((a:Nat):Int))):Int)<=(((Int.toNat (ZG .i64 (((b:Nat):Int)+((a:Nat):Int)))):Nat):Int)/\((0:Int)<=P/\(P:Int)<=(((Int.toNat (ZG .i64 (((b:Nat):Int)+((a:Nat):Int)))):Nat):Int)/\aG i (Builtin.copy_ #[f,f] tn #[.slice (cI h (Int.toNat (ZG .i64 (P+((a:Nat):Int)))) c j) ((Int.toNat (ZG .i64 (((b:Nat):Int)+((a:Nat):Int))))-Int.toNat (ZG .i64 (P+((a:Nat):Int)))) (c-Int.toNat (ZG .i64 (P+((a:Nat):Int)))),.slice (cI h (Int.toNat P) c j) ((Int.toNat (ZG .i64 (((b:Nat):Int)+((a:Nat):Int))))-Int.toNat P) (c-Int.toNat P)]) z (λQ R=>∃(S:Int),Q= ZH S/\((0:Int)<=P/\(P:Int)<=(((Int.toNat (ZG .i64 (((b:Nat):Int)+((a:Nat):Int)))):Nat):Int)/\aG i (Builtin.copy_ #[f,f] tn #[.slice (cI h (Int.toNat P) c j) ((Int.toNat (ZG .i64 (((b:Nat):Int)+((a:Nat):Int))))-Int.toNat P) (c-Int.toNat P),.slice n a o]) R (λT U=>∃(V:Int),T= ZH V/\g (.returned (.slice h (Int.toNat (ZG .i64 (((b:Nat):Int)+((a:Nat):Int)))) c)) U) (λe d=>g (.panicked [{v:=e,recovered:=false}]) d))) (λe k=>∀(_:cd) (_:cZ),g (.panicked [{v:=e,recovered:=false}]) k))))) (((0:Int)<=((b:Nat):Int)/\(((b:Nat):Int):Int)<=(((Int.toNat (ZG .i64 (((b:Nat):Int)+((a:Nat):Int)))):Nat):Int)/\aG i (Builtin.copy_ #[f,f] tn #[.slice (cI h (Int.toNat ((b:Nat):Int)) c j) ((Int.toNat (ZG .i64 (((b:Nat):Int)+((a:Nat):Int))))-Int.toNat ((b:Nat):Int)) (c-Int.toNat ((b:Nat):Int)),.slice n a o]) x (λW X=>∃(Y:Int),W= ZH Y/\((0:Int)<=P/\(P:Int)<=(((Int.toNat (ZG .i64 (((b:Nat):Int)+((a:Nat):Int)))):Nat):Int)/\PC i q #[.slice (cI h (Int.toNat P) c j) ((Int.toNat (ZG .i64 (((b:Nat):Int)+((a:Nat):Int))))-Int.toNat P) (c-Int.toNat P),ZH ((a:Nat):Int)] X (λZ b8=>Z= .tuple #[]/\g (.returned (.slice h (Int.toNat (ZG .i64 (((b:Nat):Int)+((a:Nat):Int)))) c)) b8) (λch d=>g (.panicked ch) d))) (λe d=>g (.panicked [{v:=e,recovered:=false}]) d)))) (λe d=>g (.panicked [{v:=e,recovered:=false}]) d))))) (λe d=>g (.panicked [{v:=e,recovered:=false}]) d))))
def Hr(m:Program)(f p:TypeId)(n:Nat)(i:YQ)(P c:Nat)(d a:Int)(g:World)(h:ZT):Prop:=
 ((0:Int)<=d/\(d:Int)<=a/\(a:Int)<=((P:Nat):Int)/\(((P:Nat):Int):Int)<=((c:Nat):Int)/\al ((d:Int)==a) (h (.returned (.slice i P c)) g) ((∀o,bX g o->((0:Int)<=d/\(d:Int)<=((c:Nat):Int)/\((0:Int)<=a/\(a:Int)<=((P:Nat):Int)/\aG m (Builtin.append_ #[f,f] f #[.slice i (Int.toNat d) c,.slice (cI i (Int.toNat a) c n) (P-Int.toNat a) (c-Int.toNat a)]) o (λq r=>∃(j:YQ) (b:Nat) (e:Nat),q= .slice j b e/\((0:Int)<=((b:Nat):Int)/\(((b:Nat):Int):Int)<=((P:Nat):Int)/\(((P:Nat):Int):Int)<=((e:Nat):Int)/\aG m (Builtin.clear_ #[f] p #[.slice (cI j (Int.toNat ((b:Nat):Int)) e n) (Int.toNat ((P:Nat):Int)-Int.toNat ((b:Nat):Int)) (e-Int.toNat ((b:Nat):Int))]) r (λt s=>h (.returned (.slice j b e)) s) (λk g=>h (.panicked [{v:=k,recovered:=false}]) g))) (λk l=>∀(_:cd) (_:cZ),h (.panicked [{v:=k,recovered:=false}]) l))))))
def qw(P:World)(a:Nat)(b:Array Value):aj (·=a) P (P.setRow a b):=by
 refine⟨rfl,rfl,rfl,by simp[World.setRow],λc f d=>?_⟩;show(P.heap.modify a _)[c]? =_;rw[Array.getElem?_modify,Zq (λe=>d e.symm)]
variable{c8:Addr}{p:Array Value}{z:ZT}{g1 y:FuncId}{a2 e3:List Value}{F a c i o:Nat}{f:ZN}{d:YQ}{h:Program}{j:Type}{A b8 g n:TypeId}{m t:ZR}{b:World}
def Mh{k u v:TypeId}{l bytes:Nat}(r:jq h k u l bytes){a e c f P d n:Nat}{cs:List Value}(o:b.heap[a]? =some (.cells p g (0,0)))(w:Nat.min P c=n)(x:cs.length=n*l)(y:∀s i,cs[s]? =some i->b.cell? (c8.add s)=some i)(z:e+cs.length<=p.size)(A:∀i∈cs,i.oneCell'=true)(q:∀j,j.heap[a]? =some (.cells (p.toList.take e++cs++p.toList.drop (e+cs.length)).toArray g (0,0))->aj (·=a) b j->j.heap.size=b.heap.size->m (ZH (n:Int)) j):
  aG h (Builtin.copy_ #[k,k] v #[.slice (some ⟨a,e,none⟩) c f,.slice (some c8) P d]) b m t:=by
 obtain⟨H,I,B,J,C,K,L⟩:=jq.info r;have E:=run_firstCells_some (P:=h) b l n c8 P d cs x y;have F:=run_storeCells_at h a e g cs 0 p b o (by simpa using z) A;refine aG.mk (w':=b.setRow a (p.toList.take e++cs++p.toList.drop (e+cs.length)).toArray) ?_ (q _ (setRow_heap b a p _ g (0,0) o) (qw b a _) ?_)
 ·simp[Builtin.copy_,run_underlying r.under,Builtin.lenOf,sizeOf,typeInfo,B,C,w,E,F,goInt]
 ·have M:=aA o
  simp[World.setRow]
def bR.drop{d:Type}{a:jU d}{e:World}{D:ZN}:∀{b:List d} {cs:List Value},bR a e D b cs->∀(P:Nat),bR a e D (b.drop P) (cs.drop (P*a.k))
 |b,cs,c,0=>by simpa using c
 |[],cs,c,P+1=>by
  have:cs=[]:=c;subst this;simp[bR]
 |x::b,cs,⟨j,k,g,h,i⟩,P+1=>by
  subst g;have f:=a.len h;rw[List.drop_succ_cons,X7,Nat.one_mul,Nat.add_comm,<-List.drop_drop,<-f,List.drop_left];rw[f];exact bR.drop i P
def fK(P:o≠i):cI (some ⟨a,c,none⟩) i o F=some ⟨a,c+i*F,none⟩:=by
 unfold cI;rw[Zq P];simp[Addr.add_lit]
def NG{cs news ROW:List Value}{A B C k:Nat}(e:cs.length=B)(f:news.length=k)(g:A<=B)(h:ROW.length=C)(i:B+k<=C)(b:ROW.take A=cs.take A)(P:a2=ROW.take A++news++ROW.drop (A+k))(a:e3=a2.take (A+k)++cs.drop A++a2.drop (A+k+(B-A))):a2.length=C/\e3.length=C/\e3.take (B+k)=cs.take A++news++cs.drop A:=by
 have c:a2.length=C:=by rw[P];simp;omega
 have d:a2.take (A+k)=cs.take A++news:=by
  rw[P,b,List.take_append_of_le_length bc,Qz bc]
 refine⟨c,by rw[a];simp;omega,?_⟩;rw[a,d,List.take_append_of_le_length bc,Qz bc]
def KH{cs news cur:List Value}{A B C k:Nat}(f:cs.length=B)(g:news.length=k)(h:A<=B)(i:cur.length=C)(j:B+k<=C)(b:cur.take A=cs.take A)(P:a2=cur.take (A+k)++cs.drop A++cur.drop (A+k+(B-A)))(a:e3=a2.take A++news++a2.drop (A+k)):a2.length=C/\e3.length=C/\e3.take (B+k)=cs.take A++news++cs.drop A:=by
 have c:a2.length=C:=by rw[P];simp;omega
 have d:a2.take A=cs.take A:=by
  rw[P,XQ,List.take_append_of_le_length bc,List.take_take,X2 oM,b]
 have e:a2.drop (A+k)=cs.drop A++cur.drop (A+k+(B-A)):=by
  rw[P,XQ,List.drop_left' bc]
 refine⟨c,by rw[a];simp;omega,?_⟩;rw[a,d,e,<-XQ,List.take_append_of_le_length bc,Qz bc]
def Hq.own{x tn c:TypeId}{k bytes:Nat}(q:jq h x c k bytes)(b2:h.underlying tn=some (.int .i64))(b3:∀t b,(callFunc y t).run h b=((Extern.SlicesOverlaps.overlaps #[x,x] #[g] t).run h b).andThen λl j=>.ok (.value l) j){n a P A:Nat}{cs:List Value}(B:Own b c k d n a cs)(hi:P<=n)(C:b.heap[A]? =some (.cells p c (0,0)))(J:p.size=k)(W:∀l∈p.toList,l.oneCell'=true)(h1:∀l∈cs,l.oneCell'=true)(b4:aH d≠some A)(O:(n+1)*bytes<=aO)(hm:n+1<=maxLen)(X:∀F u j,Own j c k F (n+1) u (cs.take (P*k)++p.toList++cs.drop (P*k))->aj (λH=>aH d=some H) b j->(aH F=aH d\/aH F=some b.heap.size)->z (.returned (.slice F (n+1) u)) j):
  Hq h x tn k y g1 d n a P (ZM A) 1 1 b z:=by
 have hk:=q.pos;obtain⟨Q,Y,a6,hz,hs,a7,b5⟩:=jq.info q;have v:=B.length;have d5:=Own.PU B;unfold aO at O;unfold maxLen at hm;have b6:ZG .i64 ((n:Int)+((1:Nat):Int))=((n+1:Nat):Int):=by rw[wrap_i64 bb];simp
 have b7:ZG .i64 ((P:Int)+((1:Nat):Int))=((P+1:Nat):Int):=by rw[wrap_i64 bb];simp
 unfold Hq;rw[b6,b7];simp only[Qx];refine⟨oM,oM,al.ff rfl (al.eD (λhe=>?_) (λd6=>?_))⟩
 ·
  obtain rfl:P=n:=oM
  refine zh q (news:=p.toList) B C (by rw[Qz (by simp[J])]) (by simp[J]) W ba (by unfold maxLen;omega) λF c' K b8 b9 c0=>⟨_,_,_,rfl,X F c' K ?_ (b9.mono λH _ c=>c.symm) c0⟩
  rw[Qz oM,List.drop_of_length_le oM,List.append_nil];exact b8
 have c4:P<n:=oM
 rcases B.cases with⟨_,h0,_,_⟩|⟨w,cur,rfl,I,c5,Z,a1⟩
 ·omega
 have a5:w≠A:=λc=>b4 (by rw[c];rfl);have a2:P*k<=n*k:=Q0 _ hi;have d7:(P+1)*k<=n*k:=Q0 _ c4;have e1:(P+1)*k=P*k+k:=by rw[X7,Nat.one_mul]
 have e2:(n+1)*k=n*k+k:=by rw[X7,Nat.one_mul]
 have d8:n*k<=a*k:=Q0 _ c5;have c7:∀i,i<=n*k->cur.toList.take i=cs.take i:=λi e=>by rw[<-a1,List.take_take,X2 e]
 have a0:∀j:World,j.heap[w]? =some (.cells cur c (0,0))->∀i m,cs[i]? =some m->j.cell? ⟨w,i,none⟩=some m:=λj E i m e=>by
  refine ae E ?_;rw[<-a1,Xw]at e;split at e
  ·simpa using e
  ·cases e
 have o:(cs.drop (P*k)).length=(n-P)*k:=by rw[XZ,v,Nat.sub_mul]
 have s:p.toList.length=1*k:=by simp[J]
 have a3:a<=maxLen:=by
  obtain⟨_,cp,_,R,_,_,_,a3,_⟩:=B.row.2.resolve_left (by rintro⟨B,_⟩;cases B);simp only[XX]at R;rw[R.2.2];exact a3
 have a8:∀j:World,j.heap[A]? =some (.cells p c (0,0))->∀i m,p.toList[i]? =some m->j.cell? ((⟨A,0,none⟩:Addr).add i)=some m:=λj E i m e=>by
  rw[Addr.add_lit,Xz];exact ae E (by simpa using e)
 refine aG.mk (v:=ZH (a:Int)) (w':=b) (by simp[Builtin.cap_,run_underlying q.under,goInt]) ⟨_,rfl,al.dec (λd9=>?_) (λe0=>?_)⟩
 ·
  have a4:a=n:=oM
  have c8:ZG .i64 (((n+1:Nat):Int)-(P:Int))=((n+1-P:Nat):Int):=by rw[wrap_i64 bb];omega
  rw[c8];have c6:(Builtin.firstCells Q.size P (.slice (ZM w) P a)).run h b.drew= .ok (cs.take (P*k)).toArray b.drew:=by
   rw[hs];exact run_firstCells_some b.drew k P ⟨w,0,none⟩ P a (cs.take (P*k)) (by rw[Qy,v];omega) (λi l e=>by
    rw[Addr.add_lit,Xz];rw[Xw]at e;split at e
    ·exact a0 b.drew I i l e
    ·cases e)
  have S:=Lib.run_append_grow_zeros (P:=h) b x tn x c Q Y .i64 .i64 q.under b2 a6 hz (ZM w) P a (cs.take (P*k)) c6 (n+1-P) oM oM oM oM (by rw[a7];have:(n+1-P)*bytes<=(n+1)*bytes:=Q0 _ oM;omega)
   (by rw[a7,show P+(n+1-P)=n+1 by omega];exact growslice_fits oM O)
  rw[show P+(n+1-P)=n+1 by omega]at S;have hG:=grownCap_ge b (n+1) a c;have b0:=grownCap_le_maxLen b (n+1) a c (by unfold maxLen;omega);generalize grownCap b (n+1) a c=G at S hG b0;have e3:(n+1)*k<=G*k:=Q0 _ hG;generalize a9:(cs.take (P*k)).toArray++Builtin.zeroCells Y.cells (n+1-P)++Builtin.zeroCells Y.cells (G-(n+1))=f at S;have T:f.size=G*k:=by
   rw[<-a9];simp only[Array.size_append,List.size_toArray,Qy,v,Builtin.zeroCells,Array.size_map,Array.size_range,b5];rw[Nat.sub_mul,Nat.sub_mul];omega
  have R:(cs.take (P*k)).length=P*k:=by rw[Qy,v];omega
  have c9:f.toList.take (P*k)=cs.take (P*k):=by
   rw[<-a9];simp only[Array.toList_append,XQ];rw[List.take_left' R]
  have e4:=aA I;have e5:=aA C;have kd:ai b (b.drew.alloc (.cells f c)):=(aj.drewN b 1).then (aj.alloc _ _);have b1:(b.drew.alloc (.cells f c)).heap[b.heap.size]? =some (.cells f c (0,0)):=heap_alloc_new b.drew _;have d0:(b.drew.alloc (.cells f c)).heap.size=b.heap.size+1:=by
   rw[show b.heap.size=b.drew.heap.size from rfl];generalize b.drew=wd;simp
  refine⟨oM,oM,aG.mk S ?_⟩;generalize b.drew.alloc (.cells f c)=L at b1 kd d0;refine⟨_,_,_,rfl,oM,oM,?_⟩;have r:(n-P)*k=n*k-P*k:=Nat.sub_mul ..;have d2:=NG (cs:=cs) (news:=p.toList) (ROW:=f.toList) (A:=P*k) (B:=n*k) (C:=G*k) (k:=k) v (by simp[J]) a2 (by simp[T]) oM c9 rfl rfl;obtain⟨c1,c2,c3⟩:=d2;rw[fK (show G≠P by omega)];refine Mh q b1 (n:=1) (by simp only[Nat.min_def];split<;>omega) s (a8 L (kd.get C id)) (by rw[s,T];omega) W λw2 g2 M s2=>⟨_,rfl,λK d3=>?_⟩
  have N:ai w2 K:=d3.keep;have U:=N.get g2 id;have d4:=N.get (M.get (kd.get I id) oM) id;refine⟨oM,oM,oM,oM,?_⟩;rw[fK (show G≠P+1 by omega),fK (show a≠P by omega)];simp only[Xz,s,Nat.one_mul]at U⊢;rw[e1];refine Mh q U (n:=n-P) (by simp only[Nat.min_def];split<;>omega) o (λi m e=>?_) (by rw[List.size_toArray,c1,o,r];omega) (λl hv=>h1 l (List.mem_of_mem_drop hv)) λw4 g4 k4 s4=>⟨_,rfl,X _ _ _ ⟨⟨?_,.inr ⟨b.heap.size,G,_,rfl,Qj _,g4,hG,b0,?_,?_⟩⟩⟩ ?_ (.inr rfl)⟩
  ·rw[Addr.add_lit]
   rw[List.getElem?_drop]at e;exact a0 K d4 _ m e
  ·simp only[QX,Qy,v,s,o,r];omega
  ·rw[o,r,List.size_toArray];exact c2
  ·rw[o,r,e2];exact c3
  ·exact ai.keep ((kd.new M λH O=>.inr oM).then N|>.new k4 λH O=>.inr oM)
 ·
  have e6:Q=Q:=rfl;have a4:n+1<=a:=oM
  have r:(n-P)*k=n*k-P*k:=Nat.sub_mul ..;have e7:(n+1)*k<=a*k:=Q0 _ a4;obtain⟨c1,c2,c3⟩:=KH (cs:=cs) (news:=p.toList) (cur:=cur.toList) (A:=P*k) (B:=n*k) (C:=a*k) (k:=k) v (by simp[J]) a2 (by simp[Z]) oM (c7 _ a2) rfl rfl;rw[fK (show a≠P+1 by omega),fK (show a≠P by omega)];refine⟨oM,oM,oM,oM,_,b3 _,aG.mk (v:=.bool false) (w':=b) ?_ ⟨_,rfl,al.tt rfl λL d1=>?_⟩⟩
  ·have T:∀b,(sizeOf c).run h b= .ok k b:=λb=>by simp[sizeOf,typeInfo,a6,hs]
   refine Lib.run_overlaps_apart (P:=h) b x g c q.under k T ⟨A,0,none⟩ ⟨w,0+(P+1)*k,none⟩ 1 1 _ _ (λc=>a5 c.symm) c c p.size cur.size (by simp[World.shape?,C]) (by simp[World.shape?,I]) (by rw[Z];omega) ?_ ?_
   ·simp[World.frozen?,C]
   ·simp[World.frozen?,C]
  have V:ai b L:=d1.keep;have s1:L.heap.size=b.heap.size:=by rw[d1.heap]
  refine⟨oM,oM,oM,oM,?_⟩;simp only[Xz,e1];refine Mh q (V.get I id) (n:=n-P) (by simp only[Nat.min_def];split<;>omega) o (λi m e=>?_) (by rw[Z,o,r];omega) (λl hv=>h1 l (List.mem_of_mem_drop hv)) λw2 g2 M s2=>⟨_,rfl,oM,oM,?_⟩
  ·rw[Addr.add_lit]
   rw[List.getElem?_drop]at e;exact a0 L (V.get I id) _ m e
  refine Mh q g2 (n:=1) (by simp only[Nat.min_def];split<;>omega) s (a8 w2 (M.get (V.get C id) (λc=>a5 c.symm))) (by rw[List.size_toArray,o,r,c1,s];omega) W λK U N s3=>⟨_,rfl,X _ _ _ ⟨⟨?_,.inr ⟨w,a,_,rfl,Qj _,U,a4,a3,?_,?_⟩⟩⟩ ?_ (.inl rfl)⟩
  ·simp only[QX,Qy,v,s,o,r];omega
  ·simp only[o,r,s,Nat.one_mul];rw[List.size_toArray];exact c2
  ·simp only[o,r,s,Nat.one_mul];rw[e2];exact c3
  ·exact((ai.keep V).then (M.mono λH _ c=>by rw[c];rfl)).then (N.mono λH _ c=>by rw[c];rfl)
def Hq.one{h:Program}{q tn r:TypeId}{bytes:Nat}{H y:FuncId}{z:Type}{c:jU z}(I:jq h q r c.k bytes)(N:h.underlying tn=some (.int .i64)){tb:TypeId}(O:∀e w,(callFunc H e).run h w=((Extern.SlicesOverlaps.overlaps #[q,q] #[tb] e).run h w).andThen λA f=>.ok (.value A) f){w:World}{i:YQ}{j k g C:Nat}{l:Array Value}{E D:ZN}{m:List z}{x:z}(n:aU c r E w i j k m)(Q:g<=j)(R:w.heap[C]? =some (.cells l r (0,0)))(F:c.rep w D x l.toList)(s:∀P,D P->P<w.heap.size/\aH i≠some P)(S:aH i≠some C)(a:(m.length+1)*bytes<=aO)(T:m.length+1<=maxLen){J:ZT}(U:∀t b f K,aU c r K f t (j+1) b (m.take g++x::m.drop g)->aj (λP=>aH i=some P) w f->(∀P,K P->E P\/D P\/w.heap.size<=P)->J (.returned (.slice t (j+1) b)) f):
  Hq h q tn c.k H y i j k g (ZM C) 1 1 w J:=by
 have L:=n.len I.pos;obtain⟨cs,V,W,M,u⟩:=n.body;have X:=c.len F;refine Hq.own I N O W Q R (by simpa using X) (c.one F) (λA Y=>M.PV A Y) S (by rw[L];exact a) (by rw[L];exact T) λt b f o v B=>?_;have a0:=v.size;refine U t b f (λP=>E P\/D P\/(w.heap.size<=P/\P<f.heap.size)) ⟨⟨_,λP=>V P\/D P,o,?_,?_⟩,?_,?_⟩ v ?_
 ·rw[XQ]
  have p:=(M.keep v λP a=>(u P a).2)
  exact bR.append ((p.take g).mono λP a=>.inl a) (bR.append (xs:=[x]) (bR.one (c.mono (c.keep F v λP a=>(s P a).2) λP a=>.inr a)) ((p.drop g).mono λP a=>.inl a))
 ·intro P a
  have a1:P<w.heap.size:=a.elim (λd=>n.aE P (u P d).1) λd=>(s P d).1;refine⟨a.elim (λd=>.inl (u P d).1) λd=>.inr (.inl d),?_⟩;rcases B with B|B
  ·rw[B];exact a.elim (λd=>(u P d).2) λd=>(s P d).2
  ·rw[B];intro Z;cases Z;omega
 ·intro P a
  rcases B with B|B
  ·exact .inl (n.self P (B▸a))
  ·have:=o.lt a
   rw[B]at a;cases a;exact .inr (.inr ⟨oM,this⟩)
 ·rintro P (a|a|a)
  ·have:=n.aE P a;omega
  ·have:=(s P a).1;omega
  ·exact a.2
 ·rintro P (a|a|a)
  ·exact .inl a
  ·exact .inr (.inl a)
  ·exact .inr (.inr a.1)
def MQ(P:Program)(a:TypeId):Bool:=match(P.info? a).bind (·.zero)with
 |some b=>b.cells.toList.all (·.oneCell')
 |none=>false
def PW{e bytes:Nat}(j:jq h g n e bytes)(k:MQ h n=true)(s:b.heap[a]? =some (.cells p b8 (0,0)))(v:c+i*e<=p.size)(f:∀l P,l.heap[a]? =some (.cells P b8 (0,0))->P.size=p.size->P.toList.take c=p.toList.take c->aj (·=a) b l->l.heap.size=b.heap.size->m (.tuple #[]) l):
  aG h (Builtin.clear_ #[g] A #[.slice (some ⟨a,c,none⟩) i o]) b m t:=by
 obtain⟨I,d,w,x,J,K,u⟩:=jq.info j;have B:∀q∈d.cells.toList,q.oneCell'=true:=by
  unfold MQ at k;rw[w]at k;simp only[Option.bind_some,x,ZY]at k;exact k
 cases i with
 |zero=>exact aG.mk (w':=b) (by simp[Builtin.clear_,run_underlying j.under]) (f b p s rfl rfl (aj.refl _) rfl)
 |succ i=>
  have y:(Builtin.zeroCells d.cells (i+1)).toList.length=(i+1)*e:=by simp[Builtin.zeroCells,u]
  have C:∀q∈(Builtin.zeroCells d.cells (i+1)).toList,q.oneCell'=true:=by
   intro q r;simp only[Builtin.zeroCells,Array.toList_map,Xk,u]at r;obtain⟨z,-,rfl⟩:=r;have E:z % e<d.cells.size:=by rw[u];exact Nat.mod_lt _ j.pos
   rw[getElem!_pos d.cells (z % e) E];exact B _ sM
  have F:=run_storeCells_at h a c b8 _ 0 p b s (by rw[y];simpa using v) C;have r:(zeroValue n).run h b= .ok d b:=by simp[zeroValue,typeInfo,w,x]
  refine aG.mk (w':=b.setRow a (p.toList.take c++(Builtin.zeroCells d.cells (i+1)).toList++p.toList.drop (c+(Builtin.zeroCells d.cells (i+1)).toList.length)).toArray) ?_ (f _ _ (setRow_heap b a p _ b8 (0,0) s) ?_ ?_ (qw b a _) ?_)
  ·simp[Builtin.clear_,run_underlying j.under,r,F]
  ·have H:p.size=p.toList.length:=sM
   simp only[List.size_toArray,QX,Qy,XZ,y];rw[H]at v⊢;omega
  ·rw[XQ,List.take_left']
   simp;omega
  ·simp[World.setRow]
def Hr.own{P bytes:Nat}(p:jq h g A P bytes)(Q:MQ h A=true){cs:List Value}(m:Own b A P d a c cs)(R:i<a)(S:∀k∈cs,k.oneCell'=true)(T:a<=maxLen)(U:∀r,Own r A P d (a-1) c (cs.take (i*P)++cs.drop ((i+1)*P))->aj (λs=>aH d=some s) b r->z (.returned (.slice d (a-1) c)) r):
  Hr h g n P d a c i (ZG .i64 ((i:Int)+1)) b z:=by
 have hk:=p.pos;obtain⟨iT,a5,V,hz,W,b2,b3⟩:=jq.info p;have q:=m.length;unfold maxLen at T;rcases m.cases with⟨_,h0,_,_⟩|⟨f,e,rfl,X,Y,F,H⟩
 ·omega
 have t:c<=maxLen:=by
  obtain⟨_,cp,_,I,_,_,_,t,_⟩:=m.row.2.resolve_left (by rintro⟨m,_⟩;cases m);simp only[XX]at I;rw[I.2.2];exact t
 have Z:ZG .i64 ((i:Int)+1)=((i+1:Nat):Int):=by rw[wrap_i64 bb];simp
 have a6:i*P<=a*P:=Q0 _ oM;have b1:(i+1)*P<=a*P:=Q0 _ R;have e1:(i+1)*P=i*P+P:=by rw[X7,Nat.one_mul]
 have e3:(a-1)*P=a*P-P:=by rw[Nat.sub_mul,Nat.one_mul]
 have e4:(a-(i+1))*P=a*P-(i+1)*P:=Nat.sub_mul ..;have a7:a*P<=c*P:=Q0 _ Y;unfold Hr;rw[Z];simp only[Qx];refine⟨oM,oM,oM,oM,al.eD (λhe=>oM) (λu j J=>⟨oM,oM,oM,oM,?_⟩)⟩;have K:ai b j:=J.keep;have s1:j.heap.size=b.heap.size:=by rw[J.heap]
 have v:=K.get X id;have w:(cs.drop ((i+1)*P)).length=(a-(i+1))*P:=by rw[XZ,q,Nat.sub_mul]
 have x:∃o,cI (ZM f) (i+1) c P=some ⟨f,o,none⟩/\(a≠i+1->o=(i+1)*P):=by
  by_cases L:c=i+1
  ·exact⟨0,by unfold cI;rw[Zx L],λu=>oM⟩
  ·exact⟨_,fK L,λ_=>oM⟩
 obtain⟨o,x,a8⟩:=x;rw[x];have a0:∀y k,(cs.drop ((i+1)*P))[y]? =some k->j.cell? ((⟨f,o,none⟩:Addr).add y)=some k:=λy k l=>by
  have a9:=(Qv.1 l).1;have u:a≠i+1:=by
   intro A;rw[w,A,Nat.sub_self,Nat.zero_mul]at a9;omega
  rw[a8 u,Addr.add_lit];rw[List.getElem?_drop]at l;refine ae v ?_;rw[<-H,Xw]at l;split at l
  ·simpa using l
  ·cases l
 have hf:=run_firstCells_some (P:=h) j P (a-(i+1)) ⟨f,o,none⟩ (a-(i+1)) (c-(i+1)) _ w a0;have M:=run_storeCells_at h f (i*P) A (cs.drop ((i+1)*P)) 0 e j v (by rw[w,F];omega) (λk hv=>S k (List.mem_of_mem_drop hv));have a1:i+(a-(i+1))=a-1:=oM
 refine aG.mk (v:=.slice (ZM f) (a-1) c) (w':=j.setRow f (e.toList.take (i*P)++cs.drop ((i+1)*P)++e.toList.drop (i*P+(cs.drop ((i+1)*P)).length)).toArray) ?_ ⟨_,_,_,rfl,oM,oM,oM,?_⟩
 ·have a2:i+(a-(i+1))<=c:=oM
  have a3:a<=c+1:=oM
  simp only[Nat.add_zero]at M;simp[Builtin.append_,run_underlying p.under,sizeOf,typeInfo,V,W,Builtin.lenOf,a2,a3,hf,Addr.add_lit,M,a1]
 have B:=setRow_heap j f e (e.toList.take (i*P)++cs.drop ((i+1)*P)++e.toList.drop (i*P+(cs.drop ((i+1)*P)).length)).toArray A (0,0) v;have C:=qw j f (e.toList.take (i*P)++cs.drop ((i+1)*P)++e.toList.drop (i*P+(cs.drop ((i+1)*P)).length)).toArray;have b0:e.toList.length=c*P:=by simp[F]
 have E:(e.toList.take (i*P)++cs.drop ((i+1)*P)++e.toList.drop (i*P+(cs.drop ((i+1)*P)).length)).length=c*P:=by
  simp only[QX,Qy,XZ,q,b0];omega
 have N:(e.toList.take (i*P)++cs.drop ((i+1)*P)++e.toList.drop (i*P+(cs.drop ((i+1)*P)).length)).take ((a-1)*P)=cs.take (i*P)++cs.drop ((i+1)*P):=by
  rw[show e.toList.take (i*P)=cs.take (i*P) by rw[<-H,List.take_take,X2 a6]];rw[List.take_left'];simp only[QX,Qy,XZ,q];omega
 generalize e.toList.take (i*P)++cs.drop ((i+1)*P)++e.toList.drop (i*P+(cs.drop ((i+1)*P)).length)=R1 at B C E N;generalize j.setRow f R1.toArray=w2 at B C;rw[fK (show c≠a-1 by omega)];refine PW p Q B (by rw[List.size_toArray,E,show a-(a-1)=1 by omega];omega) λw3 a4 g3 c3 O k3 s3=>U w3 ⟨⟨?_,.inr ⟨f,c,a4,rfl,Qj _,g3,oM,t,?_,?_⟩⟩⟩ ?_
 ·simp only[QX,Qy,XZ,q];omega
 ·rw[c3,List.size_toArray,E]
 ·rw[Xz]at O;rw[O,N]
 ·exact((ai.keep K).then (C.mono λs _ A=>by rw[A];rfl)).then (k3.mono λs _ A=>by rw[A];rfl)
def Hr.one{p tz k:TypeId}{bytes:Nat}{c:jU j}(t:jq h p k c.k bytes)(u:MQ h k=true){w:World}{a P b:Nat}{q:List j}(l:aU c k f w d a P q)(v:b<a)(x:a<=maxLen)(y:∀e,aU c k f e d (a-1) P (q.eraseIdx b)->aj (λg=>aH d=some g) w e->z (.returned (.slice d (a-1) P)) e):
  Hr h p tz c.k d a P b (ZG .i64 ((b:Int)+1)) w z:=by
 obtain⟨cs,A,B,r,s⟩:=l.body;refine Hr.own t u B v r.PV x λe m n=>y e ⟨⟨_,A,m,?_,s⟩,l.self,λg o=>Qk (l.aE g o) n.size⟩ n;have i:=(r.keep n λg o=>(s g o).2)
 rw[List.eraseIdx_eq_take_drop_succ];exact bR.append (i.take b) (i.drop (b+1))
end Go.aw
namespace Go.Proofs.YtblabbpipmodgaaGreatDoor
open Go.aw
variable{e:Int}{s:List Int}{c2:List bu}{b1:List cY}{a c i o:Nat}{f:ZN}{d:YQ}{j:Type}{b:World}{x:ZU}{b6:bu}
def pR{P:List (Bx cY)}{D:ZN}(f:Row ku.ke 32 b D d a P)(g:∀e,D e->e<b.heap.size):YX 210 #[.slice d a c] b (Ok (pC ku.ke 84 b P)):=
 ig (z_ Pb dC f g λi j h=>Ok.mk h)
def RO(l:aU aM 3 f b d a c s)(q:i<=a)(r:b.heap[o]? =some (.cells #[ZH e] 3 (0,0)))(t:aN e)(u:¬f o)(z:s.length<1000000):
  YX 280 #[.slice d a c,ZH (i:Int),.slice (ZM o) 1 1] b (Ok λv m=>∃g h j,v= .slice g (a+1) h/\aU aM 3 j m g (a+1) h (s.take i++e::s.drop i)/\cQ f b j m):=by
 refine mI (Hq.one (c:=aM) (tb:=4) (x:=e) (D:=λ_=>False) sj kR ?_ l q r ⟨rfl,t⟩ (λk P=>P.elim) (λw=>u (l.self o w)) ba (by unfold maxLen;omega) λg h m j n x y=>Ok.mk ⟨g,h,j,rfl,n,x.mono λk _ P=>l.self k P,λk P=>?_⟩)
 ·intro p b
  rw[run_callFunc_extern Tryz.func313 kR kR kR (e:=Extern.SlicesOverlaps.overlaps #[27,27] #[4]) kR]
 ·rcases y k P with P|P|P
  ·exact .inl P
  ·exact P.elim
  ·exact .inr P
def RP(g:aU aM 3 f b d a c s)(h:i<a)(n:a<1000000):
  YX 281 #[.slice d a c,ZH (i:Int),ZH (ZG .i64 ((i:Int)+1))] b (Ok λj P=>j= .slice d (a-1) c/\aU aM 3 f P d (a-1) c (s.eraseIdx i)/\aj f b P):=
 mJ (Hr.one (c:=aM) (tz:=0) sj kR g h (by unfold maxLen;omega) λP e k=>Ok.mk ⟨rfl,e,k.mono λl _ m=>g.self l m⟩)
def US(b:bu)(P:cY)(a arg:Int):cY:=
 if a=1 then{P with n:=oT (P.n+arg)}else if a=2 then{P with n:=arg}else if a=3 then{P with set:=pN arg P.set}
 else if a=4 then{P with set:=P.set.filter λc=>c !=arg}else{P with n:=(b.bz.getD arg.toNat ⟨0,0,0,0⟩).pF}
def TY{P a arg:Int}(b:1<=a)(c:a<=5):RQ c2 b1 P a arg=b1.set P.toNat (US (c2.getD P.toNat ⟨0,0,false,[]⟩) (b1.getD P.toNat ⟨0,[]⟩) a arg):=by
 have:a=1\/a=2\/a=3\/a=4\/a=5:=oM
 rcases this with rfl|rfl|rfl|rfl|rfl<;>rfl
section
variable {w w':World} {D E F:ZN} {f:bu} {ma ca:YQ} {mn mc cn cc i:Nat} {arg:Int} {L:List (Bx cY)} {bx:Bx cY}
structure jV (w:World) (ca:YQ) (cn cc:Nat) (L:List (Bx cY)) (i:Nat) (bx:Bx cY) (F:ZN):Prop where
 oG:aU ku.ke 84 (λb=>aH ca=some b) w ca cn cc L
 at':L[i]? =some bx
 set:aU aM 3 F w bx.a bx.n bx.c bx.x.set
 ap:∀b,F b->¬aH ca=some b
 ok:aN bx.x.n/\vT bx.x.set/\bx.x.set.length<=64
 dO:L.length<=1000000
def jV.af(P:jV w ca cn cc L i bx F)(a:ai w w'):jV w' ca cn cc L i bx F:=⟨P.oG.af a,P.at',P.set.af a,P.ap,P.ok,P.dO⟩
def jV.len(P:jV w ca cn cc L i bx F):i<cn:=by
 rw[P.oG.len dC];exact(Qv.1 P.at').1
def jV.cells(b:jV w ca cn cc L i bx F):∃P a,ca=some ⟨P,a,none⟩/\P<w.heap.size/\w.cell? ⟨P,a+i*2,none⟩=some (ZH bx.x.n)/\w.cell? ⟨P,a+i*2+1,none⟩=some (.slice bx.a bx.n bx.c):=by
 obtain⟨P,a,f,d,e,g,c,rfl,-⟩:=(b.oG.row (bytes:=32) dC (by have:=b.dO;unfold aO;omega)).el i bx b.at';exact⟨P,a,d,e,c 0 dC,c 1 dC⟩
def pS(b:World)(ca:YQ)(cn cc:Nat)(L:List (Bx cY))(i:Nat)(F:ZN)(c:cY)(w':World):Prop:=
 ∃(P:Bx cY) (d:ZN),P.x=c/\aU ku.ke 84 (λa=>aH ca=some a) w' ca cn cc (L.set i P)/\aU aM 3 d w' P.a P.n P.c c.set/\aj (λa=>aH ca=some a\/F a) b w'/\∀a,d a->F a\/b.heap.size<=a
def JM{f w:World}(g:ai f w)(b:jV w ca cn cc L i bx F)(h:ca=some ⟨a,c,none⟩)(j:∀w',aj (λa=>aH ca=some a) w w'->pS f ca cn cc L i F {bx.x with n:=e} w'->x w'):
  PS w ⟨a,c+i*2,none⟩ (ZH e) x:=by
 refine aU.set (j:=0) (x':=⟨{bx.x with n:=e},bx.a,bx.n,bx.c⟩) b.oG b.at' dC rfl h λk l d n=>j k d ⟨_,F,rfl,l,b.set.keep d λa P m=>b.ap a P m,(ai.keep g).then (d.mono λa _ P=>.inl P),λa P=>.inl P⟩
def Ph{q b w:World}{k l:Nat}{g:ZN}(r:ai q b)(e:jV b ca cn cc L i bx F)(u:aU aM 3 g w d k l s)(h:cQ F b g w)(m:ca=some ⟨a,c,none⟩)(v:∀w',pS q ca cn cc L i F {bx.x with set:=s} w'->x w'):
  PS w ⟨a,c+i*2+1,none⟩ (.slice d k l) x:=by
 have n:aU ku.ke 84 (λa=>aH ca=some a) w ca cn cc L:=e.oG.keep h.1 λa P j=>e.ap a j P;have z:=e.oG.aE a (by rw[m];rfl);have y:∀f,g f->¬aH ca=some f:=λf o p=>by
  rcases h.2 f o with j|j
  ·exact e.ap f j p
  ·rw[m]at p;simp only[aH,Q1]at p;omega
 have A:=r.size;refine aU.set (j:=1) (x':=⟨{bx.x with set:=s},d,k,l⟩) n e.at' dC rfl m λb n t B=>v b ⟨_,g,rfl,n,u.keep t y,((ai.keep r).then (h.1.mono λa _ P=>.inr P)).then (t.mono λa _ P=>.inl P),λa P=>(h.2 a P).imp id λP=>oM⟩
def do_1(P:jV w ca cn cc L i bx F):YX 212 #[zY f ma mn mc ca cn cc (i:Int) arg] w (Ok λj w'=>j= .tuple #[]/\pS w ca cn cc L i F {bx.x with n:=oT (bx.x.n+arg)} w'):=by
 have k:=P.len;refine Aa (PA.mk λl m v n=>λo p=>⟨λa=>aH ca=some a,?_⟩);have e:ai l o:=p.keep;have g:=e.get n id;have d:=m.then e;obtain⟨a,q,b,r,s,x⟩:=(P.af d).cells;have y:=P.oG.aE a (by rw[b];rfl);refine ar (ug ..) g ⟨λh=>by rw[b]at h;simp only[aH,Q1]at h;omega,_,ae g rfl,PC.ok (ie b k) ?_⟩;rintro _ z ⟨rfl,c⟩;exact⟨_,rfl,ai.keep c,_,_,rfl,_,(c.cell (a:=⟨a,q+i*2,none⟩) r id).trans s,_,_,rfl,JM (d.then c) (P.af (d.then c)) b λA t u=>⟨t,Ok.mk ⟨rfl,u⟩⟩⟩
def Wi(P:jV w ca cn cc L i bx F):YX 215 #[zY f ma mn mc ca cn cc (i:Int) arg] w (Ok λj w'=>j= .tuple #[]/\pS w ca cn cc L i F {bx.x with n:=arg} w'):=by
 have k:=P.len;refine Ab (PA.mk λl m s n=>λo p=>⟨λb=>aH ca=some b,?_⟩);have e:ai l o:=p.keep;have g:=e.get n id;have c:=m.then e;obtain⟨b,t,a,u,v,x⟩:=(P.af c).cells;have y:=P.oG.aE b (by rw[a];rfl);refine ar (ug ..) g ⟨λh=>by rw[a]at h;simp only[aH,Q1]at h;omega,_,ae g rfl,PC.ok (ie a k) ?_⟩;rintro _ z ⟨rfl,d⟩;exact⟨_,rfl,ai.keep d,_,_,rfl,JM (c.then d) (P.af (c.then d)) a λA q r=>⟨q,Ok.mk ⟨rfl,r⟩⟩⟩
def Wj(b:jV w ca cn cc L i bx F)(h:Row fU 32 w E ma mn f.bz)(o:∀a,E a->¬aH ca=some a)(I:0<=arg)(J:arg<(mn:Int)):YX 220 #[zY f ma mn mc ca cn cc (i:Int) arg] w (Ok λp w'=>p= .tuple #[]/\pS w ca cn cc L i F {bx.x with n:=(f.bz.getD arg.toNat ⟨0,0,0,0⟩).pF} w'):=by
 have q:=b.len;refine Ac (PA.mk λr s K t=>λu v=>⟨λa=>aH ca=some a,?_⟩);have j:ai r u:=v.keep;have e:=j.get t id;have c:=s.then j;obtain⟨a,M,d,N,O,Q⟩:=(b.af c).cells;have R:=b.oG.aE a (by rw[d];rfl);have S:=h.len;obtain⟨P,rfl⟩:∃P:Nat,arg=P:=⟨arg.toNat,oM⟩
 have k:P<f.bz.length:=oM
 obtain⟨l,x,T,y,U,z,A,rfl,-⟩:=(h.af c).el P f.bz[P] (by simp[k]);have B:f.bz.getD P ⟨0,0,0,0⟩=f.bz[P]:=by simp[QQ,k]
 simp only[Qx,B];have m:¬aH ca=some w.heap.size:=λn=>by rw[d]at n;simp only[aH,Q1]at n;omega
 refine ar (ug ..) e ⟨m,_,_,_,ae e rfl,m,_,ae e rfl,l,x,y,oM,oM,o l z,_,A 1 dC,PC.ok (ie d q) ?_⟩;rintro _ V ⟨rfl,g⟩;exact⟨_,rfl,ai.keep g,_,_,rfl,JM (c.then g) (b.af (c.then g)) d λW C H=>⟨C,Ok.mk ⟨rfl,H⟩⟩⟩
def Wl(P:jV w ca cn cc L i bx F)(v:aN arg):YX 217 #[zY f ma mn mc ca cn cc (i:Int) arg] w (Ok λx w'=>x= .tuple #[]/\pS w ca cn cc L i F {bx.x with set:=pN arg bx.x.set} w'):=by
 have y:=P.len;obtain⟨-,b,S⟩:=P.ok;refine JN (PA.mk λT m U n=>ar (ug ..) n ?_);obtain⟨c,o,j,a,V,z⟩:=(P.af m).cells;have W:=P.oG.aE c (by rw[j];rfl);refine PC.ok (ie j y) ?_;rintro _ A ⟨rfl,d⟩;refine⟨_,rfl,λp B=>?_⟩;have e:ai A p:=B.keep;have g:=(m.then d).then e;have q:=e.get (d.get n id) id;have r:=((d.then e).cell (a:=⟨c,o+i*2+1,none⟩) a id).trans z;have s:=P.set.af g;refine⟨_,_,rfl,_,_,_,r,_,ae q rfl,PC.ok (sS (s.row (bytes:=8) dC ba) b) ?_⟩;rintro _ _ ⟨rfl,rfl⟩;have X:=P.set.len dC;refine⟨_,_,rfl,al.not (al.mk (λC=>Ok.mk ⟨rfl,?_⟩) (λE=>λH I=>?_))⟩
 ·have h:arg∈bx.x.set:=XV C
  refine⟨bx,F,by rw[ud h b],?_,by rw[ud h b];exact s,ai.keep g,λc a=>.inl a⟩;have:L.set i bx=L:=by
   apply X3;intro Y;rw[Xj];split
   ·rename_i J;subst J;rw[Zx (Qv.1 P.at').1,P.at']
   ·rfl
  rw[this];exact P.oG.af g
 ·have h:arg∉bx.x.set:=Xy E
  have k:ai p H:=I.keep;have K:=k.get q id;have t:=g.then k;refine⟨no,_,_,rfl,id,_,_,_,(k.cell (a:=⟨c,o+i*2+1,none⟩) (Qk a (d.then e).size) id).trans r,_,ae K rfl,PA.mk λZ u s5 M=>⟨ai.keep u,?_⟩⟩;have l:=t.then u;have a1:=zQ (λN=>decide (N<arg)) bx.x.set;have z4:=t.size;refine PC.ok (RO (P.set.af l) oM M v (λa=>by have:=P.set.aE _ a;omega) oM) ?_;rintro _ w6 ⟨a',c',F',rfl,O,Q⟩;rw[Hl b h];exact⟨_,_,_,rfl,_,_,rfl,Ph l (P.af l) O Q j λw7 R=>Ok.mk ⟨rfl,R⟩⟩
def Wm(P:jV w ca cn cc L i bx F):YX 218 #[zY f ma mn mc ca cn cc (i:Int) arg] w (Ok λo w'=>o= .tuple #[]/\pS w ca cn cc L i F {bx.x with set:=bx.x.set.filter λp=>p !=arg} w'):=by
 have q:=P.len;obtain⟨-,j,I⟩:=P.ok;refine Cu (PA.mk λJ k K l=>ar (ug ..) l ?_);obtain⟨d,r,m,a,M,s⟩:=(P.af k).cells;refine PC.ok (ie m q) ?_;rintro _ t ⟨rfl,e⟩;refine⟨_,rfl,λu v=>?_⟩;have g:ai t u:=v.keep;have b:=(k.then e).then g;have x:=g.get (e.get l id) id;have n:=((e.then g).cell (a:=⟨d,r+i*2+1,none⟩) a id).trans s;have h:=P.set.af b;refine⟨_,_,rfl,_,_,_,n,_,ae x rfl,PC.ok (sS (h.row (bytes:=8) dC ba) j) ?_⟩;rintro _ _ ⟨rfl,rfl⟩;have N:=P.set.len dC;refine⟨_,_,rfl,al.mk (λy=>?_) (λz=>Ok.mk ⟨rfl,?_⟩)⟩
 ·have c:arg∈bx.x.set:=XV y
  obtain⟨A,O⟩:=LV j c;refine⟨_,_,rfl,_,_,_,n,PC.ok (RP h oM oM) ?_⟩;rintro _ Q ⟨rfl,B,C⟩;rw[A];exact⟨_,_,_,rfl,_,_,rfl,Ph b (P.af b) B ⟨C,λd a=>.inl a⟩ m λR E=>Ok.mk ⟨rfl,E⟩⟩
 ·have c:arg∉bx.x.set:=Xy z
  refine⟨bx,F,by rw[Hn c],?_,by rw[Hn c];exact h,ai.keep b,λd a=>.inl a⟩;have:L.set i bx=L:=by
   apply X3;intro S;rw[Xj];split
   ·rename_i H;subst H;rw[Zx (Qv.1 P.at').1,P.at']
   ·rfl
  rw[this];exact P.oG.af b
end
def LY(P:Int):aN (oT P):=by
 unfold oT ZG aN;simp[IntKind.signed,IntKind.bits];omega
def Pj(P:e∉s):(pN e s).length=s.length+1:=by
 induction s with
 |nil=>rfl
 |cons b s a=>
  simp only[Q2,not_or]at P;unfold pN;rw[Zq P.1];split
  ·rfl
  ·simp[a P.2]
def Pk{P:List j}{b:j}(c:P[a]? =some b):P.set a b=P:=by
 apply X3;intro e;rw[Xj];split
 ·rename_i d;subst d;rw[Zx (Qv.1 c).1,c]
 ·rfl
section
variable {w w':World} {D E F:ZN} {t:List bu} {cells:List cY} {op arg:Int} {ma ca ta:YQ} {mn mc cn cc tn tc i:Nat} {L:List (Bx cY)} {bx:Bx cY}
def TZ{P:cY}(b:∀g∈b6.bz,jW.Ok g)(i:aN P.n/\vT P.set/\P.set.length<=64)(j:aN arg)(k:op=3->arg∈P.set\/P.set.length<64):
  aN (US b6 P op arg).n/\vT (US b6 P op arg).set/\(US b6 P op arg).set.length<=64:=by
 obtain⟨f,a,c⟩:=i;unfold US
 split
 ·exact⟨LY _,a,c⟩
 split
 ·exact⟨j,a,c⟩
 split
 ·rename_i h
  refine⟨f,DB a,?_⟩
  by_cases b:arg∈P.set
  ·show(pN arg P.set).length<=64
   rw[ud b a];exact c
  ·show(pN arg P.set).length<=64
   rw[Pj b];rcases k h with h|h
   ·exact Zz h b
   ·omega
 split
 ·exact⟨f,a.sublist List.filter_sublist,Xx (List.length_filter_le ..) c⟩
 ·refine⟨?_,a,c⟩
  show aN (b6.bz.getD arg.toNat ⟨0,0,0,0⟩).pF
  by_cases d:arg.toNat<b6.bz.length
  ·have e:b6.bz.getD arg.toNat ⟨0,0,0,0⟩=b6.bz[arg.toNat]:=by simp[QQ,d]
   rw[e];exact(b _ (XY d)).2.1
  ·have e:b6.bz.getD arg.toNat ⟨0,0,0,0⟩=⟨0,0,0,0⟩:=by simp[QQ,Q7 (Nat.le_of_not_lt d)]
   rw[e];simp[aN]
def RR(a:Hu t cells (i:Int) op arg)(e:aN arg)(b:Row fU 32 w E ma mn (t.getD i ⟨0,0,false,[]⟩).bz)(f:∀c,E c->¬aH ca=some c)(P:jV w ca cn cc L i bx F):
  enters ZP (VW op)=true/\YX (VW op) (#[]++ #[zY (t.getD i ⟨0,0,false,[]⟩) ma mn mc ca cn cc (i:Int) arg]++ #[]) w (Ok λg w'=>g= .tuple #[]/\pS w ca cn cc L i F (US (t.getD i ⟨0,0,false,[]⟩) bx.x op arg) w'):=by
 have j:=a.Vc;have k:=a.Vd;have:op=1\/op=2\/op=3\/op=4\/op=5:=oM
 rcases this with rfl|rfl|rfl|rfl|rfl
 ·exact⟨kR,do_1 P⟩
 ·exact⟨kR,Wi P⟩
 ·exact⟨kR,Wl P e⟩
 ·exact⟨kR,Wm P⟩
 ·obtain⟨h,d,l⟩:=a.mv rfl
  rw[Qx]at d;exact⟨kR,Wj P b f h (by rw[b.len];exact d)⟩
structure Vf (w9:World) (ca:YQ) (cn cc:Nat) (D:ZN) (cells:List cY) (j:Nat) (w':World) (L:List (Bx cY)) (Fi:Nat->ZN):Prop where
 oG:aU ku.ke 84 (λb=>aH ca=some b) w' ca cn cc L
 eq:L.map (·.x)=cells
 own:∀i b,i<j->L[i]? =some b->aU aM 3 (Fi i) w' b.a b.n b.c b.x.set
 aE:∀i x,Fi i x->w9.heap.size<=x/\x<w'.heap.size/\¬aH ca=some x
 ap:∀i k x,i≠k->Fi i x->¬Fi k x
 zj:∀i x,j<=i->¬Fi i x
 keep:aj (λb=>aH ca=some b) w9 w'
def RS{s:Int}(o:Hu t cells s op arg)(M:vX t cells s op arg=0)(a2:aN arg)(e3:t.length<=64)(ht:Row oU 48 w E ta tn t)(hE:∀a,E a->a<w.heap.size)(h:Row fw 32 w D ca cn cells)(hD:∀a,D a->a<w.heap.size):
  YX 204 #[.agg #[.slice ta tn tc],.slice ca cn cc,ZH s,ZH op,ZH arg] w (Ok (pC fw 84 w (RQ t cells s op arg))):=by
 obtain⟨i,rfl⟩:∃i:Nat,s=i:=⟨s.toNat,by have:=o.f0;omega⟩
 obtain⟨m,A,l2,l3⟩:=eZ.boxes h;have e4:=o.len;have e5:m.length=cells.length:=by rw[<-A];simp
 refine Na (PA.mk λw1 k1 s1 g1=>PC.ok (pR (l2.af k1) λa c=>by have:=hD a c;omega) ?_);rintro _ N ⟨n,q,C,F9,rfl,v,O,d4⟩;have e6:=v.len dC;have e7:=h.len;have x:∀a,aH n=some a->w1.heap.size<=a:=λa c=>d4 a (v.self a c);have Q:∀a,aH n=some a->a<N.heap.size:=λa c=>v.aE a (v.self a c);refine⟨_,_,_,rfl,λR a8 w'=>∃f:Nat,a8=f/\f<=q/\R=q-f/\∃L p,Vf N n q C D cells f w' L p/\∀b,f<=b->L[b]? =m[b]?,
  ⟨_,0,rfl,Qj _,rfl,m,λ_ _=>False,⟨v.alone,A,λi a hi=>oM,λ_ _ h=>h.elim,λ_ _ _ _ h=>h.elim,λ_ _ _=>id,aj.refl _⟩,λb _=>rfl⟩,?_⟩
 rintro R _ _ b9 ⟨f,rfl,hj,rfl,L,p,d,a3⟩;have e8:L.length=cells.length:=by rw[<-d.eq];simp
 have F:ai w b9:=(k1.then O).new d.keep λa c=>.inr (by have:=x a c;omega);refine al.dec (λe9=>?_) (λf0=>?_)
 ·have c0:f<m.length:=oM
  have S:m[f]? =some m[f]:=Qq c0;obtain⟨a,T,es,U,c,f5,a9,rfl,-⟩:=(l2.af F).el f m[f] S;have d5:=l3 m[f] (XY c0);refine⟨a,T,U,oM,oM,_,_,_,a9 1 dC,PC.ok (ck (d5.1.af F) λa c=>by have:=hD a c;have:=F.size;omega) ?_⟩;rintro _ f6 ⟨g0,g2,g3,G,rfl,a4,H,I⟩;have a5:=d.oG.af H;have hz:=d.keep.size;obtain⟨y,c1⟩:∃y,n=ZM y:=by
   rcases a5.body with⟨cs,D',ho,-⟩;rcases ho.cases with⟨-,hn,-⟩|⟨y,b0,e,-⟩
   ·omega
   ·exact⟨y,e⟩
  refine⟨_,_,_,rfl,y,0,c1,oM,oM,?_⟩;simp only[Qx];refine eZ.set a5 (by rw[a3 f (Q4 _)];exact S) c1 λg4 c2 V g5=>⟨_,?_,f+1,an oM,oM,rfl,_,λb=>if b=f then G else p b,⟨c2,?_,?_,?_,?_,?_,?_⟩,?_⟩
  ·omega
  ·rw[List.map_set,d.eq,Pk]
   rw[<-A,Q9,S];rfl
  ·intro b a l c
   rw[Xj]at c
   by_cases W:f=b
   ·subst W
    rw[Zx rfl,Zx oM]at c
    cases c
    rw[Zx rfl];exact a4.keep V λP B e=>by have:=I P B;have:=Q P e;omega
   ·rw[Zq W]at c
    rw[Zq (λe=>W e.symm)];exact((d.own b a oM c).af H).keep V λP B e=>(d.aE b P B).2.2 e
  ·intro b P B
   split at B
   ·have:=I P B;have:=a4.aE P B;exact⟨oM,oM,λe=>by have:=Q P e;omega⟩
   ·have J:=d.aE b P B;have:=H.size;exact⟨J.1,oM,J.2.2⟩
  ·intro b k' P X B g
   split at B<;>split at g
   ·omega
   ·have:=I P B;have:=d.aE k' P g;omega
   ·have:=I P g;have:=d.aE b P B;omega
   ·exact d.ap b k' P X B g
  ·intro b P l B
   rw[Zq oM]at B;exact d.zj b P oM B
  ·exact(d.keep.af H).then V
  ·intro b l
   rw[Xj,Zq oM,a3 b oM]
 ·have g6:f=q:=oM
  refine PC.ok zW ?_;rintro _ g7 ⟨f7,rfl,Y,Z⟩;refine⟨_,rfl,mG zV EZ Y ?_⟩;rw[LW o.Vc o.Vd];refine⟨_,_,_,rfl,PA.mk λg8 d6 g9 d7=>aC (Pf op) d7 rfl λd8 d9 h0 b3=>al.tt rfl λb4 e0=>?_⟩;have c3:ai d8 b4:=e0.keep;have u:ai b9 b4:=((Z.then d6).new d9 λa c=>.inr (by have:=Z.size;omega)).then c3;have c4:=F.then u;have b3:=c3.get b3 id;have z9:=d.keep.size;have h2:=Z.size;have h4:=O.size;have gt:=u.get (d.keep.get (O.get g1 id) (λe=>by have:=x _ e;omega)) id;have h5:=o.f1;have h6:=ht.len;obtain⟨a,T,f8,f9,b1,U,c,h7,f1,f2,f3,f4,c5⟩:=Ff (ht.af c4) (i:=i) oM;have c6:i<L.length:=oM
  have K:L[i]? =some L[i]:=Qq c6;generalize L[i]=bx at K;have b5:cells[i]? =some bx.x:=by rw[<-d.eq,Q9,K];rfl
  have c7:cells.getD i ⟨0,[]⟩=bx.x:=by rw[QQ,b5];rfl
  have a0:∀(b:Nat) (P:cY),cells[b]? =some P->aN P.n/\vT P.set/\P.set.length<=64:=λb P B=>by
   rw[<-A,Q9]at B
   cases hL:m[b]? with
   |none=>rw[hL]at B;cases B
   |some b2=>rw[hL]at B;cases B;exact(l3 b2 (QZ hL)).2
  have c8:jV b4 n q C L i bx (p i):=⟨d.oG.af u,K,(d.own i bx oM K).af u,λa c=>(d.aE i a c).2.2,a0 i _ b5,oM⟩
  obtain⟨a1,r⟩:=RR (mc:=b1) o a2 c5 (λa c e=>by have:=hE a c;have:=x a e;omega) c8;refine⟨_,ae b3 rfl,_,_,_,ae gt rfl,a,T,U,oM,oM,_,_,_,_,_,_,f1,f2,f3,f4,_,_,_,rfl,a1,PC.ok r ?_⟩;rintro _ b6 ⟨rfl,j,z,g,d0,a6,b7,d1⟩;have h8:=b7.size;have zg:=u.size;have b8:∀P,z P->N.heap.size<=P:=λP B=>by
   rcases d1 P B with h|h
   ·exact(d.aE i P h).1
   ·omega
  have d2:∀b a,(L.set i j)[b]? =some a->aU aM 3 (λP=>if b=i then z P else p b P) b6 a.a a.n a.c a.x.set:=λb a c=>by
   rw[Xj]at c
   by_cases l:i=b
   ·subst l
    rw[Zx rfl,Zx c6]at c
    cases c
    simp only[if_true];rw[g];exact a6
   ·rw[Zq l]at c
    simp only[Zq (λe:b=i=>l e.symm)];have h9:=(Qv.1 c).1;refine((d.own b a oM c).af u).keep b7 λP B e=>?_;rcases e with e|e
    ·exact(d.aE b P B).2.2 e
    ·exact d.ap b i P (λe=>l e.symm) B e
  have a7:∀a∈L.set i j,aN a.x.n/\vT a.x.set/\a.x.set.length<=64:=λa c=>by
   obtain⟨b,l,rfl⟩:=List.getElem_of_mem c;have k:(L.set i j)[b]? =some (L.set i j)[b]:=Qq l;generalize(L.set i j)[b]=a at k;rw[Xj]at k
   by_cases d3:i=b
   ·rw[Zx d3,Zx oM]at k
    cases k
    rw[g];refine TZ (λR Y=>?_) (a0 i _ b5) a2 λh3=>?_
    ·obtain⟨c9,hq,rfl⟩:=List.getElem_of_mem Y
     obtain⟨b',o',es,-,-,-,-,-,e1⟩:=c5.el c9 _ (Qq hq);exact e1
    ·rw[Fc]at M
     have c:Pc t cells (i:Int) op arg=true:=by
      cases hq:Pc t cells (i:Int) op arg
      ·rw[hq]at M;simp at M
      ·rfl
     unfold Pc at c;subst h3;simp only[Qx,c7]at c;simpa using c
   ·rw[Zq d3]at k
    exact a0 b _ (by rw[<-d.eq,Q9,k];rfl)
  have e2:∀a∈L.set i j,a.x.set.length<=64:=λa c=>(a7 a c).2.2;have hU:aU ku.M_ 84 (λP=>aH n=some P\/((∃b,b≠i/\p b P)\/z P)) b6 n q C ((L.set i j).map (·.x)):=by
   refine eZ.unbox (N:=ku) (D:=λP=>(∃b,b≠i/\p b P)\/z P) d0 (λa c=>(⟨?_,a7 a c⟩:ku.In b6 _ a)) (λP B=>?_)
   ·obtain⟨b,l,rfl⟩:=List.getElem_of_mem c
    have J:=d2 b _ (Qq l);refine(J.row (bytes:=8) dC ?_).mono λP B=>?_
    ·have:=e2 _ c;unfold aO;omega
    ·split at B
     ·exact .inr B
     ·rename_i X;exact .inl ⟨b,X,B⟩
   ·rcases B with⟨b,-,B⟩|B
    ·have:=d.aE b P B;exact⟨oM,this.2.2⟩
    ·refine⟨a6.aE P B,λe=>?_⟩
     rcases d1 P B with h|h
     ·exact(d.aE i P h).2.2 e
     ·have:=Q P e;omega
  refine⟨rfl,Ok.mk ⟨n,q,C,(λP=>aH n=some P\/((∃b,b≠i/\p b P)\/z P)),rfl,?_,?_,?_⟩⟩
  ·rw[TY o.Vc o.Vd,Qx,c7,<-g,<-d.eq,<-List.map_set];exact hU
  ·exact c4.new b7 λP B=>.inr (by
    rcases B with B|B
    ·have:=x P B;omega
    ·have:=(d.aE i P B).1;omega)
  ·rintro P (B|⟨b,-,B⟩|B)
   ·have:=x P B;omega
   ·have:=(d.aE b P B).1;omega
   ·have:=b8 P B;omega
end
end Go.Proofs.YtblabbpipmodgaaGreatDoor
namespace Go.aw
open Go
variable{d:YQ}{x:ZU}
section
variable {α β:Type} {N:eZ α β} {w9 w w':World} {a:YQ} {n c j:Nat} {L0:List (Bx α)} {e:TypeId}
def eu(N:eZ α β)(e:TypeId)(w9:World)(a:YQ)(n c:Nat)(L0:List (Bx α))(j:Nat)(w':World):Prop:=
 ∃(b:List (Bx α)) (g:ZN),aU N.ke e (λP=>aH a=some P) w' a n c b/\b.map (·.x)=L0.map (·.x)/\(∀(h:Nat) (P:Bx α),h<j->b[h]? =some P->N.In w' g P)/\(∀f:Nat,j<=f->b[f]? =L0[f]?)/\
  aj (λP=>aH a=some P) w9 w'/\∀d,g d->w9.heap.size<=d/\d<w'.heap.size/\¬aH a=some d
def eu.start(P:aU N.ke e (λb=>aH a=some b) w9 a n c L0):eu N e w9 a n c L0 0 w9:=
 ⟨L0,λ_=>False,P,rfl,λd b f=>oM,λ_ _=>rfl,aj.refl _,λ_ P=>P.elim⟩
def eu.af(b:eu N e w9 a n c L0 j w)(P:ai w w'):eu N e w9 a n c L0 j w':=by
 obtain⟨h,i,k,l,m,o,p,d⟩:=b;exact⟨h,i,k.af P,l,λq r s t=>(m q r s t).keep P λ_ _ b=>b,o,p.af P,λf g=>⟨(d f g).1,Qk (d f g).2.1 P.size,(d f g).2.2⟩⟩
def eu.keep(P:eu N e w9 a n c L0 j w):aj (λb=>aH a=some b) w9 w:=P.elim λd P=>P.elim λD P=>P.2.2.2.2.1
def eu.len(P:eu N e w9 a n c L0 j w):n=L0.length:=by
 obtain⟨g,h,b,d,-⟩:=P;have:=Zj List.length d;simp at this;have f:0<N.k:=Nat.lt_of_le_of_lt (Qj _) N.ho;rw[b.len f,this]
def eu.some(b:eu N e w9 a n c L0 j w)(h:j<n):∃P,a=ZM P:=by
 obtain⟨i,k,d,-⟩:=b;rcases d.body with⟨cs,l,f,-⟩;rcases f.cases with⟨-,m,-⟩|⟨P,g,e,-⟩
 ·omega
 ·exact⟨P,e⟩
def eu.cell(l:eu N e w9 a n c L0 j w){g:Nat}(m:a=Option.some ⟨g,0,none⟩){P:Bx α}(o:L0[j]? =Option.some P)(p:n*N.k<=aO):∀d f,(N.hd P.x P.a P.n P.c)[d]? =Option.some f->w.cell? ⟨g,0+j*N.k+d,none⟩=Option.some f:=by
 obtain⟨t,u,h,v,x,q,y,z⟩:=l;have i:0<N.k:=Nat.lt_of_le_of_lt (Qj _) N.ho;have r:=h.row (bytes:=N.k) i (by rw[<-h.len i];exact p);obtain⟨A,B,C,b,-,-,s,rfl,-⟩:=r.el j P (by rw[q j (Q4 _)];exact o);rw[m]at b;cases b
 intro d f k;rw[<-k];exact s d (by have:=(Qv.1 k).1;rw[N.hl]at this;exact this)
def eu.step(v:eu N e w9 a n c L0 j w){g:Nat}(m:a=Option.some ⟨g,0,none⟩){b:Bx α}(h:L0[j]? =Option.some b){o y:Nat}{G:ZN}(z:Row N.ci N.ib w G d o (N.inner b.x))(A:N.ok b.x)(i:∀P,G P->w9.heap.size<=P/\P<w.heap.size)(Q:g<w9.heap.size)(k:∀w',eu N e w9 a n c L0 (j+1) w'->aj (λb=>aH a=Option.some b) w w'->w'.heap.size=w.heap.size->x w'):
  PS w ⟨g,0+j*N.k+N.o,none⟩ (.slice d o y) x:=by
 obtain⟨C,E,F,H,I,p,J,q⟩:=v;have r:C[j]? =Option.some b:=by rw[p j (Q4 _)];exact h
 have K:=(Qv.1 r).1;have s:∀P,G P->¬aH a=Option.some P:=λP B e=>by
  have:=(i P B).1;rw[m]at e;simp only[aH,Q1]at e;omega
 refine eZ.set F r m λL M f l=>k L ⟨_,λP=>E P\/G P,M,?_,?_,?_,J.then f,?_⟩ f l
 ·rw[List.map_set,H]
  apply X3;intro R;rw[Xj];split
  ·rename_i e;subst e
   rw[Zx (by simpa using(Qv.1 h).1),Q9,h];rfl
  ·rfl
 ·intro t P S B
  rw[Xj]at B
  by_cases u:j=t
  ·subst u
   rw[Zx rfl,Zx K]at B
   cases B
   exact⟨(z.keep f λP B=>s P B).mono λP B=>.inr B,A⟩
  ·rw[Zq u]at B
   exact((I t P oM B).keep f λP B=>(q P B).2.2).mono λP B=>.inl B
 ·intro O T
  rw[Xj,Zq oM,p O oM]
 ·rintro P (B|B)
  ·rw[l];exact q P B
  ·rw[l];exact⟨(i P B).1,(i P B).2,s P B⟩
def eu.done(f:eu N e w9 a n c L0 n w):∃g,aU N.M_ e g w a n c (L0.map (·.x))/\∀P,g P->aH a=Option.some P\/w9.heap.size<=P:=by
 have q:=f.len;obtain⟨i,j,k,h,l,r,s,d⟩:=f;have t:i.length=L0.length:=by have:=Zj List.length h;simpa using this
 rw[<-h];refine⟨_,eZ.unbox (D:=j) k (λu m=>?_) λP b=>⟨(d P b).2.1,(d P b).2.2⟩,λP b=>b.imp id λb=>(d P b).1⟩;obtain⟨o,p,rfl⟩:=List.getElem_of_mem m;exact l o _ oM (Qq p)
end
end Go.aw
namespace Go.Proofs.YtblabbpipmodgaaGreatDoor
open Go.aw
def pD:eZ ah Int where
 k:=10
 ci:=aM
 ib:=8
 inner:=(·.aJ)
 hd:=aD
 ok:=ah.Ok
 hl:=λ_ _ _ _=>rfl
 h1:=λa b c d e P=>by
  simp only[aD,Q2,List.not_mem_nil,or_false]at P;rcases P with rfl|rfl|rfl|rfl|rfl|rfl|rfl|rfl|rfl|rfl<;>rfl
 o:=3
 ho:=dC
 fy:=λ_ _ _ _ _ _ _=>rfl
def Sf:pD.M_=ia:=rfl
def JD:eZ bu jW where
 k:=4
 ci:=fU
 ib:=32
 inner:=(·.bz)
 hd:=dL
 ok:=λP=>aN P.kind/\aN P.dW
 hl:=λ_ _ _ _=>rfl
 h1:=λb c d e f a=>by
  simp only[dL,Q2,List.not_mem_nil,or_false]at a;rcases a with rfl|rfl|rfl|rfl<;>rfl
 o:=3
 ho:=dC
 fy:=λ_ _ _ _ _ _ _=>rfl
def He:JD.M_=oU:=rfl
variable{e:Int}{b1:List cY}{a c:Nat}{d:YQ}
section
variable {w w':World} {D E F:ZN}
def n_{e:ah}{w:World}{D:ZN}(i:Row aM 8 w D d a e.aJ)(s:∀P,D P->P<w.heap.size):
  YX 147 #[jS e d a c] w (Ok λt w'=>∃d a c G,t=jS e d a c/\Row aM 8 w' G d a e.aJ/\(∀P,G P->w.heap.size<=P/\P<w'.heap.size)/\ai w w'):=by
 have u:=i.dO;have v:=i.len;refine FJ (PA.mk λz m A f=>PA.mk λB g C j=>⟨_,_,_,ae (g.get f id) rfl,PC.ok (ck (i.af (m.then g)) λP b=>by have:=s P b;omega) ?_⟩);rintro _ E ⟨n,o,p,G,rfl,q,h,k⟩;have f:=h.get (g.get f id) id;have j:=h.get j id;refine⟨_,_,_,rfl,PS.mk f (by simp[aD]) λF l H x=>?_⟩;refine ar (cs:=aD e n o p) (bf _ _ _ _) x (aC (bf _ _ _ _) (l.get j oM) rfl λI r J y=>ar (bf _ _ _ _) y (Ok.mk ⟨n,o,p,G,rfl,?_,?_,?_⟩))
 ·refine(((q.keep l λP b=>?_).keep r λP b=>?_).row (bytes:=8) dC (by rw[<-v];exact u))
  ·have:=k P b;omega
  ·have:=k P b;omega
 ·intro P b
  have:=k P b;have:=q.aE P b;omega
 ·have K:=h.size
  exact((aj.new ((m.then g).then h) l λP b=>.inr oM).new r λP b=>.inr oM)
def Kw(h:Row fw 32 w D d a b1)(C:∀P,D P->P<w.heap.size):
  YX 153 #[.agg #[ZH e,.slice d a c]] w (Ok λa0 w'=>∃E H I F,a0= .agg #[ZH e,.slice E H I]/\aU fw 84 F w' E H I b1/\(∀P,F P->w.heap.size<=P)/\ai w w'):=by
 obtain⟨l,J,l2,l3⟩:=eZ.boxes h;have K:=h.dO;have c1:=h.len;have c2:l.length=b1.length:=by rw[<-J];simp
 refine FK (PA.mk λL M s1 N=>PA.mk λw2 p s2 g2=>⟨_,_,_,ae (p.get N id) rfl,PC.ok (pR (l2.af (M.then p)) λP b=>by have:=C P b;omega) ?_⟩);rintro _ w9 ⟨j,m,v,F9,rfl,q,r,b6⟩;have n:∀P,aH j=some P->w2.heap.size<=P:=λP b=>b6 P (q.self P b);have a1:∀P,aH j=some P->P<w9.heap.size:=λP b=>q.aE P (q.self P b);refine⟨_,_,_,rfl,PS.mk (r.get (p.get N id) id) sM λs x c3 t=>⟨_,_,_,ae t rfl,?_⟩⟩;have z9:=r.size;have a2:=x.get (r.get g2 id) oM;have a3:aU ku.ke 84 (λP=>aH j=some P) s j m v l:=q.alone.keep x λP b f=>by have:=n P b;omega
 have a4:ai w s:=((M.then p).then r).new x λP b=>.inr oM;refine⟨λO a5 w'=>∃g:Nat,a5=g/\g<=m/\O=m-g/\eu ku 84 s j m v l g w',⟨_,0,rfl,Qj _,rfl,eu.start a3⟩,?_⟩;rintro O _ _ Q ⟨g,rfl,hj,rfl,i⟩;have c4:=i.len;have y:ai w Q:=a4.new i.keep λP b=>.inr (by have:=n P b;omega);have z:¬aH j=some w.heap.size:=λf=>by have:=n _ f;omega
 have R:¬aH j=some L.heap.size:=λf=>by have:=n _ f;omega
 refine al.dec (λc5=>λb7 b8=>?_) (λc6=>?_)
 ·have o:ai Q b7:=b8.keep
  have S:=i.af o;obtain⟨k,rfl⟩:=i.some oM;have c7:=n k rfl;have a7:k<s.heap.size:=by have:=a1 k rfl;omega
  have A:l[g]? =some l[g]:=Qq oM;have u:=l3 l[g] (XY oM);generalize l[g]=B at A u;have T:=o.get (i.keep.get t z) id;refine⟨λP=>P=k,by show w.heap.size≠k;omega,_,_,_,ae T rfl,_,_,_,ae T rfl,k,0,rfl,by omega,by omega,_,_,_,S.cell rfl A (by show m*2<=aO;unfold aO at K⊢;omega) 1 _ rfl,PC.ok (ck ((u.1.af y).af o) λP b=>by have:=C P b;have:=(y.then o).size;omega) ?_⟩;rintro _ c8 ⟨d0,d1,d2,G,rfl,U,V,hG⟩;refine⟨_,_,_,rfl,ai.keep V,k,0,rfl,oM,oM,?_⟩;have d3:=i.keep.size;have d4:=o.size;refine(S.af V).step (g:=k) rfl A (U.row (bytes:=8) dC ?_) u.2 (λW X=>⟨by have:=hG W X;omega,U.aE W X⟩) a7 λd5 b0 b9 d6=>⟨b9.mono λP _ f=>(by simpa[aH]using f.symm),_,?_,g+1,an (by unfold aO at K;omega),oM,rfl,b0⟩
  ·have:B.x.set.length<=64:=u.2.2.2
   show(ku.inner B.x).length*8<=aO;unfold aO;show B.x.set.length*8<=_;omega
  ·omega
 ·obtain rfl:g=m:=oM
  obtain⟨Fd,Y,Z⟩:=i.done;rw[J]at Y;have d7:=i.keep.size;refine⟨_,_,_,_,ae (i.keep.get t z) rfl,ae (i.keep.get t z) rfl,PS.mk (i.keep.get a2 R) sM λd8 b2 d9 c0=>PS.mk c0 sM λe0 b3 e1 b4=>⟨_,_,_,_,ae b4 rfl,ae b4 rfl,Ok.mk ⟨j,_,v,Fd,rfl,?_,?_,?_⟩⟩⟩
  ·have b5:∀P,Fd P->P≠L.heap.size:=λP b f=>by
    rcases Z P b with h|h
    ·exact R (f▸h)
    ·omega
   exact(Y.keep b2 λP b f=>b5 P b f).keep b3 λP b f=>b5 P b f
  ·intro P b
   rcases Z P b with h|h
   ·have:=n P h;omega
   ·omega
  ·exact(y.new b2 λP b=>.inr oM).new b3 λP b=>.inr oM
end
variable{r:YQ}{L:aS}
section
variable {w w':World} {D E F:ZN}
def pK{P:List jo}(e:Row uY 40 w D d a P)(f:∀b,D b->b<w.heap.size):YX 131 #[.slice d a c] w (Ok (pC uY 128 w P)):=
 ir (z_ Kx dC e f λh w' g=>Ok.mk g)
def pL{P:List (Bx bu)}(e:Row JD.ke 48 w D d a P)(f:∀b,D b->b<w.heap.size):YX 132 #[.slice d a c] w (Ok (pC JD.ke 123 w P)):=
 gC (z_ PD dC e f λh w' g=>Ok.mk g)
def CT{tn tc pn pc:Nat}(h:bj w D L d tn r pn)(S:∀P,D P->P<w.heap.size):
  YX 145 #[.agg #[.slice d tn tc,.slice r pn pc]] w (Ok λa5 w'=>∃o zl T e f g G,a5= .agg #[.slice o zl T,.slice e f g]/\bj w' G L o zl e f/\(∀P,G P->w.heap.size<=P/\P<w'.heap.size)/\ai w w'):=by
 have d3:=h.aY.len;have C:=h.aY.dO;have d4:=h.zJ.len;have d5:=h.zJ.dO;refine yH (PA.mk λw1 k1 s1 g1=>PA.mk λw2 E s2 g2=>⟨_,_,_,ae (E.get g1 id) rfl,PC.ok (pK (h.zJ.af (k1.then E)) λP B=>by have:=S P B;omega) ?_⟩);rintro _ p ⟨e,f,g,G1,rfl,U,F,b4⟩;have z8:=F.size;refine⟨_,_,_,rfl,PA.mk λg4 d6 g5 d7=>PS.mk d7 sM λg6 d8 g7 d9=>PS.mk d9 sM λq e0 g8 e1=>?_⟩;have s:ai p q:=(d6.new d8 λP B=>.inr oM).new e0 λP B=>.inr oM;have b5:ai w q:=((k1.then E).then F).then s;have ga:=s.get (F.get (E.get g1 id) id) id;have gz:=s.get (F.get g2 id) id;have g9:=s.size;have b6:q.heap[p.heap.size]? =some (.cells #[.slice none 0 0,.slice e f g] 25 (0,0)):=e1;refine⟨_,_,_,ae ga rfl,λt V w'=>∃a:Nat,V=a/\a<=tn/\t=tn-a/\aj (·=p.heap.size) q w'/\∃H I W u,w'.heap[p.heap.size]? =some (.cells #[.slice H I W,.slice e f g] 25 (0,0))/\aU ks 130 u w' H I W (L.types.take a)/\∀P,u P->q.heap.size<=P,
  ⟨_,0,rfl,Qj _,rfl,aj.refl _,none,0,0,λ_=>False,b6,aU.nil _,λ_ h=>h.elim⟩,?_⟩
 rintro t _ _ Y ⟨a,rfl,hj,rfl,v,H,I,W,u,Z,i,l⟩;have J:ai w Y:=b5.new v λP B=>.inr oM;have zk:=v.size;refine al.dec (λh0=>?_) (λh3=>?_)
 ·have b7:a<L.types.length:=oM
  obtain⟨P,a6,es,ha,B,h4,a8,fa,fn,fc,rfl,K⟩:=(h.aY.af J).el a L.types[a] (by simp[b7]);have b8:L.types[a]? =some L.types[a]:=Qq b7;generalize L.types[a]=a1 at K b8;have c0:=a8 0 dC;have e2:ks.k=1:=rfl;rw[e2,Nat.mul_one]at c0;refine⟨P,a6,ha,oM,oM,fa,fn,fc,by rw[Qx];exact c0,PA.mk λh5 e3 h6 e4=>PS.mk e4 sM λb9 e5 h7 e6=>⟨_,_,_,ae e6 rfl,?_⟩⟩;have M:ai Y b9:=e3.new e5 λP B=>.inr oM;have c1:=J.then M;obtain⟨m,l1,l2,l3⟩:=eZ.boxes (N:=JD) K;have a7:=K.dO;refine PC.ok (pL (l2.af M) λP B=>by have:=S P B;have:=c1.size;omega) ?_;rintro _ c2 ⟨a9,x,c9,F9,rfl,N,c3,e7⟩;have h8:=M.size;have h9:=c3.size;have O:∀P,aH a9=some P->b9.heap.size<=P:=λP B=>e7 P (N.self P B);have c4:∀P,aH a9=some P->P<c2.heap.size:=λP B=>N.aE P (N.self P B);refine⟨_,_,_,rfl,λt V w'=>∃a:Nat,V=a/\a<=x/\t=x-a/\eu JD 123 c2 a9 x c9 m a w',⟨_,0,rfl,Qj _,rfl,eu.start N.alone⟩,?_⟩;rintro t _ _ e8 ⟨n,rfl,hi,rfl,j⟩;have i0:=j.len;have i1:m.length=a1.length:=by rw[<-l1];simp
  have e9:=K.len;have y:ai Y e8:=(M.then c3).new j.keep λP B=>.inr (by have:=O P B;omega);have i2:=j.keep.size;refine al.dec (λf6=>?_) (λg0=>?_)
  ·obtain⟨Q,rfl⟩:=j.some oM
   have c5:=c4 Q rfl;have a0:m[n]? =some m[n]:=Qq oM;have z:=l3 m[n] (XY oM);generalize m[n]=R at a0 z;refine⟨Q,0,rfl,oM,oM,_,_,_,j.cell rfl a0 (by show x*4<=aO;unfold aO at a7⊢;omega) 3 _ rfl,PC.ok (sO (z.1.af y) λP B=>by have:=S P B;have:=(J.then y).size;omega) ?_⟩;rintro _ i3 ⟨i4,i5,i6,G,rfl,a2,f2,hG⟩;refine⟨_,_,_,rfl,Q,0,rfl,oM,oM,?_⟩;refine(j.af f2).step (g:=Q) rfl a0 (a2.row (bytes:=32) dC ?_) z.2 (λa3 hx=>⟨by have:=hG a3 hx;omega,a2.aE a3 hx⟩) c5 λi7 c6 i8 i9=>⟨_,?_,n+1,an (by unfold aO at a7;omega),oM,rfl,c6⟩
   ·have c:=z.1.dO
    have X:=z.1.len;show R.x.bz.length*32<=aO;have j0:R.n=R.x.bz.length:=X;have j1:R.n*32<=aO:=c;omega
   ·omega
  ·obtain rfl:n=x:=oM
   obtain⟨Fd,hd,b0⟩:=j.done;rw[l1,He]at hd;have a4:=y.get Z id;refine⟨_,_,_,ae a4 rfl,Hf (c:=ks) (x:=a1) (i.af y) LR (D:=Fd) ⟨_,_,_,rfl,hd.row dC (by rw[<-e9];exact a7)⟩ (λP B=>⟨hd.aE P B,λb=>?_⟩) ?_ ?_ λa' A j2 F' d0 b1 c7 g3=>⟨_,_,_,rfl,?_⟩⟩
   ·have c:=i.aE P (i.self P b)
    rcases b0 P B with X|X
    ·have:=O P X;omega
    ·omega
   ·have:=List.length_take_le a L.types;unfold aO at C⊢;omega
   ·have:=List.length_take_le a L.types;unfold aO at C;unfold maxLen;omega
   ·have k:¬aH H=some p.heap.size:=λb=>by have:=l _ (i.self _ b);omega
    have f3:=b1.get a4 k;have j3:=b1.size;refine PS.mk f3 sM λj4 c8 j5 f4=>⟨_,?_,a+1,an (by unfold aO at C;omega),oM,rfl,?_,a',I+1,A,F',f4,?_,?_⟩
    ·omega
    ·exact((v.af y).new b1 λP B=>.inr (l _ (i.self P B))).then c8
    ·rw[Qw,b8]
     refine d0.keep c8 λP B b=>?_;rcases c7 P B with c|c|c
     ·have:=l P c;omega
     ·rcases b0 P c with X|X
      ·have:=O P X;omega
      ·omega
     ·omega
    ·intro P B
     rcases c7 P B with c|c|c
     ·exact l P c
     ·rcases b0 P c with X|X
      ·have:=O P X;omega
      ·omega
     ·omega
 ·obtain rfl:a=tn:=oM
  rw[Qz oM]at i;have d1:=v.get gz oM;have f0:=(U.af s).keep v λP B b=>by have:=U.aE P B;omega
  refine⟨_,_,_,_,_,_,ae Z rfl,ae Z rfl,PS.mk d1 sM λj6 b2 j7 f5=>PS.mk f5 sM λj8 b3 j9 d2=>⟨_,_,_,_,_,_,ae d2 rfl,ae d2 rfl,Ok.mk ⟨_,_,_,_,_,_,λP=>u P\/G1 P,rfl,⟨?_,?_⟩,?_,?_⟩⟩⟩
  ·have k:∀P,u P->P≠w1.heap.size:=λP B b=>by have:=l P B;omega
   exact((((i.row (bytes:=24) dC (by rw[<-d3];exact C)).keep b2 λP B b=>k P B b).keep b3 λP B b=>k P B b)).mono λP B=>.inl B
  ·have k:∀P,G1 P->P≠w1.heap.size:=λP B b=>by have:=b4 P B;omega
   exact((((f0.row (bytes:=40) dC (by rw[<-d4];exact d5)).keep b2 λP B b=>k P B b).keep b3 λP B b=>k P B b)).mono λP B=>.inr B
  ·rintro P (B|B)
   ·have:=l P B;have:=i.aE P B;omega
   ·have:=b4 P B;have:=U.aE P B;omega
  ·exact(J.new b2 λP B=>.inr oM).new b3 λP B=>.inr oM
end
end Go.Proofs.YtblabbpipmodgaaGreatDoor
namespace Go.aw
open Go
def ow{P a b:Type}(c:P->a->b->Prop):List (P×a)->List (P×b)->Prop
 |[],[]=>True
 |(d,e)::f,(g,h)::i=>d=g/\c d e h/\ow c f i
 |_,_=>False
section
variable {κ β γ:Type} {R R':κ->β->γ->Prop}
def ow.mono:∀{P:List (κ×β)} {a:List (κ×γ)},ow R P a->(∀e b c,R e b c->R' e b c)->ow R' P a
 |[],[],_,_=>trivial
 |(g,b)::P,(h,c)::a,d,f=>⟨d.1,f _ _ _ d.2.1,ow.mono d.2.2 f⟩
def ow.aq[BEq κ][LawfulBEq κ](P:κ):∀{a:List (κ×β)} {b:List (κ×γ)},ow R a b->
  (aw.aq a P=none/\aw.aq b P=none)\/∃c d,aw.aq a P=some c/\aw.aq b P=some d/\R P c d
 |[],[],_=>.inl ⟨rfl,rfl⟩
 |(f,c)::a,(j,d)::b,g=>by
  obtain⟨rfl,h,i⟩:=g;unfold aw.aq
  by_cases e:P==f
  ·obtain rfl:P=f:=by simpa using e
   simp only[e,if_true];exact .inr ⟨c,d,rfl,rfl,h⟩
  ·simp only[e];exact ow.aq P i
def ow.off{g:κ}:∀{P:List (κ×β)} {a:List (κ×γ)},ow R P a->(∀b c d,b≠g->R b c d->R' b c d)->g∉P.map (·.1)->ow R' P a
 |[],[],_,_,_=>trivial
 |(j,c)::P,(k,d)::a,e,h,f=>by
  simp only[QY,Q2,not_or]at f;exact⟨e.1,h _ _ _ (λi=>f.1 i.symm) e.2.1,ow.off e.2.2 h f.2⟩
def ow.aI[BEq κ][LawfulBEq κ]{P:κ}{a:β}{b:γ}(f:R' P a b):∀{c:List (κ×β)} {g:List (κ×γ)},ow R c g->(∀h a b,h≠P->R h a b->R' h a b)->Tidy c->ow R' (aw.aI c P a) (aw.aI g P b)
 |[],[],_,_,_=>⟨rfl,f,trivial⟩
 |(j,p)::c,(q,r)::g,l,i,d=>by
  obtain⟨rfl,m,k⟩:=l;unfold Tidy at d;simp only[QY,List.nodup_cons]at d;unfold aw.aI
  by_cases e:P==j
  ·simp only[e,if_true]
   obtain rfl:P=j:=by simpa using e
   refine⟨rfl,f,?_⟩;have n:P∉c.map (·.1):=d.1;exact ow.off k i n
  ·simp only[e]
   exact⟨rfl,i _ _ _ (λo=>e (by simp[o])) m,ow.aI f k i d.2⟩
end
def vD{c:Type}(e:World)(f:Nat)(a:c->Value)(g:c)(h:Int):Prop:=
 ∃(d:Array MapEntry) (P i:Nat) (b:MapEntry),e.heap[f]? =some (.map d P)/\d[i]? =some b/\b.key=a g/\(b.born:Int)=h
variable{e:Int}{a:Nat}{j:Type}{u:Value}{m:ZR}{b k:World}{x:ZU}
def vD.keep{S:ZN}{c:j->Value}{d:j}(f:vD b a c d e)(g:aj S b k)(h:¬S a):vD k a c d e:=by
 obtain⟨i,P,l,m,n,o⟩:=f;exact⟨i,P,l,m,g.get n h,o⟩
section
variable {κ:Type} [BEq κ] [LawfulBEq κ] {P:Program} {t kt vt:TypeId} {z:Value} {enc:κ->Value}
def Ep{κ d:Type}[BEq κ][LawfulBEq κ]{a:κ}{e:d}:∀{b:List (κ×d)},aq b a=some e->aI b a e=b
 |(f,g)::b,P=>by
  unfold aq at P;unfold aI
  by_cases c:a==f
  ·rw[Zx c]at P⊢
   obtain rfl:a=f:=by simpa using c
   cases P;rfl
  ·rw[Zq c]at P⊢
   rw[Ep P]
def Gt(u:mE P t kt vt z)(n:iJ P kt enc){e:List (κ×Value)}(v:bY b a enc e){k:κ}{w H:ZR}(o:∀w' B,bY w' a enc (aI e k ((aq e k).getD z))->vD w' a enc k B->aj (·=a) b w'->w'.heap.size=b.heap.size->w (.tuple #[(aq e k).getD z,ZH B]) w'):aG P (Instr.mapEntry t (.map (some a)) (enc k)) b w H:=by
 obtain⟨d,c,j,l,x,C⟩:=v.at';have p:=jC n k d.toList e l b;have I:d.toList.length=e.length:=by have:=Zj List.length l;simpa using this
 have q:=aA j;have h:=w_ e k 0
 cases r:ml e k 0 with
 |none=>
  rw[r]at p h;have s:aq e k=none:=h.symm;rw[s]at o;have J:=u.Mw b;refine aG.mk (w':={b with heap:=b.heap.setIfInBounds a (.map (d.push {key:=enc k,val:=z,born:=c}) (c+1))}) ?_ (o _ c ⟨⟨_,_,cW b a _ q,?_,?_,?_⟩,v.tidy.aI k z⟩ ⟨_,_,d.size,{key:=enc k,val:=z,born:=c},cW b a _ q,sM,rfl,rfl⟩ (aj.setObj b a _) sM)
  ·simp[Instr.mapEntry,run_underlying u.under,dG j,dN n,p,eI j,J,goInt]
  ·rw[Option.getD_none,(rp r).1 z];simp[l]
  ·intro g i
   simp only[Array.toList_push,Q6,List.mem_singleton]at i;rcases i with i|rfl
   ·have:=x g i;omega
   ·show c<c+1;omega
  ·simp only[Array.toList_push,Q3,QY,List.map_nil]
   rw[List.nodup_append];refine⟨C,sM,?_⟩;intro K h L y T;simp only[List.mem_singleton]at y;obtain⟨g,i,rfl⟩:=Xk.1 h;have:=x g i;omega
 |some M=>
  obtain⟨f,E⟩:=M;rw[r]at p h;have s:aq e k=some E:=h.symm;obtain⟨_,N,F,O⟩:=np r;rw[Nat.sub_zero]at N F O;have A:f<d.size:=by
                 have:d.size=e.length:=by simpa using I
                 omega
  have m:d[f].key=enc k:=by
   have:=Zj (·[f]?) l;simp only[Q9,F,Option.map_some]at this;simp[A]at this;exact this.1
  have Q:(d.modify f λg=>{g with key:=enc k})=d:=by
   apply Array.ext
   ·simp
   ·intro U V W
    rw[Array.getElem_modify];split
    ·rename_i g;subst g
     cases R:d[f]with
     |mk K L w=>rw[R]at m;simp at m;simp[m]
    ·rfl
  rw[s]at o;refine aG.mk (w':={b with heap:=b.heap.setIfInBounds a (.map d c)}) ?_ (o _ (d[f].born) ⟨⟨_,_,cW b a _ q,?_,x,C⟩,v.tidy.aI k E⟩ ⟨_,_,f,d[f],cW b a _ q,by simp[A],m,rfl⟩ (aj.setObj b a _) sM)
  ·have S:(Instr.keyThatStays (enc k) (enc k)).run P b= .ok (enc k) b:=by simp[Instr.keyThatStays,n.same]
   simp[Instr.mapEntry,run_underlying u.under,dG j,dN n,p,A,m,S,eI j,Q,goInt]
  ·rw[Option.getD_some,Ep s];exact l
def BH(J:iJ P kt enc){d:List (κ×Value)}(s:bY b a enc d){i:κ}(K:vD b a enc i e)(L:∀o,bY o a enc (aI d i u)->aj (·=a) b o->o.heap.size=b.heap.size->x o):kL P (Instr.entryStore t (.map (some a)) (ZH e) u) b x m:=by
 obtain⟨g,l,p,v,M,z⟩:=s.at';obtain⟨N,q,c,j,n,O,A,Q⟩:=K;rw[p]at n;cases n
 subst Q;have R:g.toList.length=d.length:=by have:=Zj List.length v;simpa using this
 have S:=aA p;obtain⟨r,rfl⟩:=Q5.1 O;have w:c<d.length:=by
                have:g.size=d.length:=by simpa using R
                omega
 have B:d[c]? =some (i,g[c].val):=by
  have:=Zj (·[c]?) v;simp only[Q9,Qq w,Option.map_some]at this;simp[r]at this;have T:d[c].1=i:=J.inj (by rw[<-this.1,A]);rw[Qq w]
  congr 1
  exact Prod.ext T this.2.symm
 have U:aI d i u=d.set c (i,u):=by
  cases C:ml d i 0 with
  |none=>
   have E:=w_ d i 0;rw[C]at E;have:=mX.1 E.symm;exact Zz (Xk.2 ⟨_,QZ B,rfl⟩) this
  |some V=>
   obtain⟨h,a2⟩:=V;obtain⟨_,f,F,H⟩:=np C;rw[Nat.sub_zero]at f F H;have k:h=c:=by
    have W:(d.map (·.1))[h]? =some i:=by rw[Q9,F];rfl
    have X:(d.map (·.1))[c]? =some i:=by rw[Q9,B];rfl
    obtain⟨Y,Z⟩:=Qv.1 W;obtain⟨q3,q4⟩:=Qv.1 X;exact(List.getElem_inj (xs:=d.map (λe=>e.1)) (h₀:=Y) (h₁:=q3) (show(d.map (λe=>e.1)).Nodup from s.tidy)).1 (Z.trans q4.symm)
   rw[(H u).1,k]
 have a0:g.findIdx? (λj=>(j.born:Int)==(g[c].born:Int))=some c:=by
  rw[Array.findIdx?_eq_some_iff_getElem];refine⟨r,sM,λh f=>?_⟩;have a1:h<g.size:=oM
  have a3:g[h].born≠g[c].born:=λj=>by
   have:=(List.getElem_inj (xs:=g.toList.map (·.born)) (h₀:=by simpa using a1) (h₁:=by simpa using r) z).1 (by simpa using j);omega
  simp;omega
 refine kL.mk (w':={b with heap:=b.heap.setIfInBounds a (.map (g.modify c λj=>{j with val:=u}) l)}) ?_ (L _ ⟨⟨_,_,cW b a _ S,?_,?_,?_⟩,s.tidy.aI i u⟩ (aj.setObj b a _) sM)
 ·simp[Instr.entryStore,dG p,asInt,asIntOf,a0,eI p]
 ·rw[U]
  apply X3;intro h;have f:=Zj (·[h]?) v;simp only[Q9]at f;simp only[Array.toList_modify,Q9,Xj,List.getElem?_modify]
  by_cases k:c=h
  ·subst k
   simp[r,w,A]
  ·simp only[k,if_false,Option.map_map]at f⊢
   simpa using f
 ·intro j I
  rw[Array.toList_modify]at I;obtain⟨h,f⟩:=List.getElem?_of_mem I;rw[List.getElem?_modify]at f
  cases y:g.toList[h]? with
  |none=>rw[y]at f;simp at f
  |some e'=>
   rw[y]at f;have hm:=QZ y;have:=M e' hm
   by_cases k:c=h
   ·simp[k]at f;subst f;exact this
   ·simp[k]at f;subst f;exact this
 ·have:(g.modify c λj=>{j with val:=u}).toList.map (·.born)=g.toList.map (·.born):=by
   apply X3;intro h;simp only[Array.toList_modify,Q9,List.getElem?_modify,Option.map_map]
   by_cases k:c=h<;>simp[k]<;>rfl
  rw[this];exact z
end
end Go.aw
namespace Go.Proofs.YtblabbpipmodgaaGreatDoor
open Go.aw
def vP{f:Type}{d:f->Int}:∀{e:List f},cK d e=0->∀b∈e,d b=0
 |[],_,b,a=>by cases a
 |y::e,P,b,a=>by
  unfold cK at P
  by_cases c:d y=0
  ·rw[c]at P
   simp only[bne_self_eq_false,Bool.false_eq_true,if_false]at P;rcases Q2.1 a with rfl|a
   ·exact c
   ·exact vP P b a
  ·rw[Zx (by simpa using c)]at P
   exact Zz P c
variable{J:Bool}{e q:Int}{d3:Int×Int}{B:List ah}{c2:List bu}{b1:List cY}{a c i o:Nat}{f:ZN}{c7 d r:YQ}{g:TypeId}{u:Value}{b:World}{L:aS}{l:ah}{d5:bg}{b6:bu}{d6:jo}
def mu(P:dy L=0):qO L=false/\(∀a∈L.types,∀d∈a,fv a d=0)/\∀e∈L.projs,lL L e=0:=by
 unfold dy at P;split at P
 ·simp at P
 ·rename_i f
  simp only at P;split at P
  ·rename_i b
   exact Zz P (by simpa using b)
  ·rename_i b
   refine⟨by simpa using f,λa g=>?_,vP P⟩;have c:cK (λa=>cK (fv a) a) L.types=0:=by simpa using b
   exact vP (vP c a g)
def zI(P:qO L=false):1<=L.types.length/\L.types.length<=8/\L.projs.length<=8/\∀a∈L.types,1<=a.length/\a.length<=8:=by
 unfold qO at P;split at P
 ·cases P
 ·rename_i b
  simp only[Bool.or_eq_true,Bool.not_eq_true',Zk,not_or,Bool.not_eq_false,Nat.not_lt]at b;obtain⟨b,c⟩:=b;rw[bI]at b;refine⟨oM,oM,c,λa d=>?_⟩;rw[List.any_eq_false]at P;have:=P a d;simp only[Bool.or_eq_true,Bool.not_eq_true',not_or,Bool.not_eq_false]at this;have:=bI.1 this.1;omega
def Tk(P:fv c2 b6=0):∀a∈b6.bz,a.lb<(c2.length:Int):=by
 intro a c;unfold fv at P;split at P
 ·simp at P
 split at P
 ·simp at P
 split at P
 ·simp at P
 split at P
 ·simp at P
 ·rename_i b
  rw[Bool.not_eq_true,List.any_eq_false]at b;have:=b a c
  by_cases d:a.lb= -1
  ·omega
  ·have:RC c2 a.lb 1=true:=by
    simpa[d]using this
   unfold RC at this;simp only[QK]at this;have:=bI.1 this.1;omega
def vM(P:L.Dk e q=some b6):0<=e/\e<(L.types.length:Int)/\L.at e=L.types.getD e.toNat []/\0<=q/\q<((L.at e).length:Int)/\(L.at e).getD q.toNat ⟨0,0,false,[]⟩=b6/\b6∈L.at e:=by
 unfold aS.Dk at P;split at P
 ·rename_i a
  simp only[QK,bI]at a;refine⟨a.1.1,oM,?_,a.2.1,oM,by rw[QQ,P];rfl,QZ P⟩;unfold aS.at;rw[Zx (bI.2 a.1)]
 ·cases P
def at_mem(a:0<=e)(b:e<(L.types.length:Int)):L.at e∈L.types:=by
 unfold aS.at;rw[Zx (bI.2 ⟨a,oM⟩)];have P:e.toNat<L.types.length:=oM
 have:L.types.getD e.toNat []=L.types[e.toNat]:=by simp[QQ,P]
 rw[this];exact XY P
def MM(n:dy L=0){a c f arg:Int}(P:kV L a c f arg=0)(o:b1.length=(L.at a).length):
  Hu (L.at a) b1 c f arg/\0<=a/\a<(L.types.length:Int)/\(L.at a).length<=8:=by
 obtain⟨p,q,y⟩:=mu n;obtain⟨z,A,B,r⟩:=zI p;unfold kV at P
 cases d:L.Dk a c with
 |none=>rw[d]at P;simp at P
 |some b=>
  rw[d]at P;simp only at P;obtain⟨g,h,C,s,t,u,v⟩:=vM d;split at P
  ·simp at P
  ·rename_i i
   split at P
   ·simp at P
   ·rename_i j
    simp only[Bool.or_eq_true,Bool.not_eq_true',not_or,Bool.not_eq_false]at i j;have k:=bI.1 i.1;have l:=at_mem g h;refine⟨⟨s,t,o,k.1,k.2,λw=>?_⟩,g,h,(r _ l).2⟩;rw[u];have x:=Tk (q _ l b v);have e:within arg 0 (b.bz.length-1)=true:=by
     have:=j.2;simp only[QK,beq_iff_eq,Bool.not_eq_true',not_and,Bool.not_eq_false]at this;exact this w
    have e:=bI.1 e;have m:arg.toNat<b.bz.length:=oM
    refine⟨e.1,oM,?_⟩;have:b.bz.getD arg.toNat ⟨0,0,0,0⟩=b.bz[arg.toNat]:=by simp[QQ,m]
    rw[this];exact x _ (XY m)
structure bg.OK (V:bg):Prop where
 decl:dy V.decl=0
 st:∀x∈V.eL,x.2.cells.length=(V.decl.at x.1.1).length
def MN(a:List bu)(P:List cY)(b c arg:Int):(RQ a P b c arg).length=P.length:=by
 unfold RQ
 simp only;split
 ·simp
 split
 ·simp
 split
 ·simp
 split
 ·simp
 split
 ·simp
 ·rfl
def bg.cellsOf(a:bg)(P:ah):List cY:=match aq a.eL (P.aY,P.agg)with
 |some b=>b.cells
 |none=>dX (a.decl.at P.aY)
def bg.OK.len(a:d5.OK)(P:ah):(d5.cellsOf P).length=(d5.decl.at P.aY).length:=by
 unfold bg.cellsOf
 cases b:aq d5.eL (P.aY,P.agg)with
 |none=>simp[dX]
 |some c=>exact a.st _ (cf b)
def bg.rr(a:bg)(P:ah):a.try P=if kV a.decl P.aY P.field P.op P.arg≠0 then(true,(0,0),a)else
  match((aq a.done (P.aY,P.agg,P.field)).getD []).find? λb=>lX ((a.decl.at P.aY).getD P.field.toNat ⟨0,0,false,[]⟩) b P with
  |some b=>(true,aX b,a)
  |none=>if vX (a.decl.at P.aY) (a.cellsOf P) P.field P.op P.arg≠0 then(true,(0,0),a)else
   (false,(0,0),{a with eL:=aI a.eL (P.aY,P.agg) ⟨oT (((aq a.eL (P.aY,P.agg)).getD ⟨0,[]⟩).version+1),RQ (a.decl.at P.aY) (a.cellsOf P) P.field P.op P.arg⟩,done:=aI a.done (P.aY,P.agg,P.field) ((aq a.done (P.aY,P.agg,P.field)).getD []++[P])}):=rfl
def bg.Ry(P:d5.OK)(b:ah):(d5.try b).2.2.OK/\(d5.try b).2.2.decl=d5.decl:=by
 rw[bg.rr];split
 ·exact⟨P,rfl⟩
 split
 ·exact⟨P,rfl⟩
 split
 ·exact⟨P,rfl⟩
 ·refine⟨⟨P.decl,λc a=>?_⟩,rfl⟩
  rcases fr a with rfl|a
  ·show(RQ _ _ _ _ _).length=_
   rw[MN,P.len]
  ·exact P.st c a
def bg.zN(b:d5.OK)(P:ah):(d5.add P).2.OK/\(d5.add P).2.decl=d5.decl:=by
 obtain⟨a,c⟩:=bg.Ry b P;exact⟨⟨a.decl,a.st⟩,c⟩
def bg.sQ(P:dy L=0):(bg.new L).OK:=⟨P,λb a=>by cases a⟩
def LM:eZ cR Int where
 k:=13
 ci:=aM
 ib:=8
 inner:=(·.ev.aJ)
 hd:=λP a b c=>aD P.ev a b c++[.bool P.void,ZH P.EN.1,ZH P.EN.2]
 ok:=λP=>P.ev.Ok
 hl:=λ_ _ _ _=>rfl
 h1:=λP a b c e d=>by
  simp only[aD,List.cons_append,List.nil_append,Q2,List.not_mem_nil,or_false]at d;rcases d with rfl|rfl|rfl|rfl|rfl|rfl|rfl|rfl|rfl|rfl|rfl|rfl|rfl<;>rfl
 o:=3
 ho:=dC
 fy:=λ_ _ _ _ _ _ _=>rfl
abbrev yl:jU cR:=LM.M_
abbrev ic(P:cR)(a:YQ)(b c:Nat):List Value:=aD P.ev a b c++[.bool P.void,ZH P.EN.1,ZH P.EN.2]
def Rp:jq ZP 43 160 13 120:=⟨kR,kR,dC⟩
def lv(P:cR)(a:YQ)(b c:Nat):iI ZP 160 (ic P a b c)=true:=kR
def OR(P:cR)(a:YQ)(b c:Nat):RG (fD ZP 160) (.agg (ic P a b c).toArray)=true:=kR
def Rt:Jz ZP 252 3:=⟨kR,kR,⟨ "typ", "no",kR,dC,dC⟩,kR,kR,kR⟩
def Ti:vO ZP 306 252 3:=⟨Rt,kR,⟨ "agg", "field",kR,dC,dC⟩,kR,kR,kR⟩
def UR:iJ ZP 252 oO:=Rt.key
def Xi:iJ ZP 306 Ck:=Ti.key
def Xl:mE ZP 239 252 42 (.agg #[ZH 0,.slice none 0 0]):=⟨kR,kR⟩
def Xu:mE ZP 240 306 50 (.slice none 0 0):=⟨kR,kR⟩
inductive Jv where
 |self|st|dn|OE|Ru|VR
 |done (k:Int×Int×Int)
structure EJ where
 ta:YQ
 tn:Nat
 tc:Nat
 pa:YQ
 pn:Nat
 pc:Nat
 ea:YQ
 en:Nat
 ec:Nat
 r1:Nat
 r2:Nat
 l1:List ((Int×Int)×Value)
 l2:List ((Int×Int×Int)×Value)
 cls:Nat->Jv
abbrev EJ.P(a:EJ)(b:ZN)(c:Jv):ZN:=λP=>b P/\a.cls P=c
def Wd(c:World)(D:ZN)(d:Value)(P:lZ):Prop:=∃a b e,d= .agg #[ZH P.version,.slice a b e]/\Row fw 32 c D a b P.cells
def We(c:World)(D:ZN)(d:Value)(e:List ah):Prop:=∃P a b,d= .slice P a b/\aU ia 55 D c P a b e
structure yg (w:World) (p:Nat) (F:ZN) (V:bg) (q:EJ):Prop where
 at':w.heap[p]? =some (.cells #[.slice q.ta q.tn q.tc,.slice q.pa q.pn q.pc,.slice q.ea q.en q.ec,.map (some q.r1),.map (some q.r2)] 242 (0,0))
 Ru:bj w (q.P F .Ru) V.decl q.ta q.tn q.pa q.pn
 OE:aU yl 160 (q.P F .OE) w q.ea q.en q.ec V.entries
 st:bY w q.r1 oO q.l1
 VS:fu (Wd w (q.P F .VR)) q.l1 V.eL
 dn:bY w q.r2 Ck q.l2
 Wf:ow (λk=>We w (q.P F (.done k))) q.l2 V.done
 aE:∀b,F b->b<w.heap.size
 lp:F p/\q.cls p= .self
 l1:F q.r1/\q.cls q.r1= .st
 l2:F q.r2/\q.cls q.r2= .dn
def cG(a:World)(b:Nat)(c:ZN)(P:bg):Prop:=P.OK/\∃d,yg a b c P d
section
variable {w w':World} {p:Nat} {F T D:ZN} {V:bg} {q:EJ}
def Wd.keep{P:lZ}(b:Wd w D u P)(c:aj T w w')(d:∀a,D a->¬T a):Wd w' D u P:=by
 obtain⟨e,f,g,h,i⟩:=b;exact⟨e,f,g,h,i.keep c d⟩
def We.keep(a:We w D u B)(b:aj T w w')(c:∀P,D P->¬T P):We w' D u B:=by
 obtain⟨d,e,f,g,h⟩:=a;exact⟨d,e,f,g,h.keep b c⟩
def yg.keep(P:yg w p F V q)(c:aj T w w')(d:∀a,F a->¬T a):yg w' p F V q:=
 ⟨c.get P.at' (d _ P.lp.1),P.Ru.keep c λa b=>d a b.1,P.OE.keep c λa b=>d a b.1,P.st.keep c (d _ P.l1.1),P.VS.mono λf g e=>e.keep c λa b=>d a b.1,
  P.dn.keep c (d _ P.l2.1),P.Wf.mono λh f g e=>e.keep c λa b=>d a b.1,λa b=>Qk (P.aE a b) c.size,P.lp,P.l1,P.l2⟩
def yg.af(P:yg w p F V q)(a:ai w w'):yg w' p F V q:=P.keep a λ_ _ P=>P
def cG.keep(P:cG w p F V)(b:aj T w w')(c:∀a,F a->¬T a):cG w' p F V:=⟨P.1,P.2.imp λq d=>d.keep b c⟩
def cG.af(P:cG w p F V)(a:ai w w'):cG w' p F V:=P.keep a λ_ _ P=>P
def cG.aE(a:cG w p F V):∀P,F P->P<w.heap.size:=a.2.elim λq b=>b.aE
def cG.self(P:cG w p F V):F p:=P.2.elim λq a=>a.lp.1
def Hg{tn u m v:Nat}(x:dy L=0)(y:bj w D L d tn r m)(z:∀P,D P->P<w.heap.size):
  YX 78 #[.agg #[.slice d tn u,.slice r m v]] w (Ok λA w'=>∃p F,A= ZL p/\cG w' p F (bg.new L)/\(∀P,F P->w.heap.size<=P)/\ai w w'):=by
 refine J_ (PA.mk λJ n K o=>⟨_,_,_,_,_,_,ae o rfl,ae o rfl,PC.ok (CT (y.af n) λP a=>by have:=z P a;omega) ?_⟩);rintro _ e ⟨g,zl,h,i,j,k,G,rfl,B,C,q⟩;refine⟨_,_,_,_,_,_,rfl,PA.mk λb s M E=>PA.mk λc l N H=>PA.mk λt f O I=>Ok.mk ⟨c.heap.size,λP=>w.heap.size<=P/\P<t.heap.size,rfl,⟨bg.sQ x,
  ⟨⟨g,zl,h,i,j,k,none,0,0,e.heap.size,b.heap.size,[],[],λP=>if P=c.heap.size then .self else if P=e.heap.size then .st else if P=b.heap.size then .dn else .Ru⟩,?_⟩⟩,λP a=>a.1,((n.then q).then s).then (l.then f)⟩⟩
 have Q:=q.size;refine⟨I,?_,?_,bY.new (f.get (l.get E id) id),trivial,bY.new (f.get H id),trivial,λP a=>a.2,⟨⟨by show w.heap.size<=c.heap.size;omega,by show c.heap.size<_;omega⟩,Zx rfl⟩,⟨⟨by show w.heap.size<=e.heap.size;omega,by show e.heap.size<_;omega⟩,?_⟩,⟨⟨by show w.heap.size<=b.heap.size;omega,by show b.heap.size<_;omega⟩,?_⟩⟩
 ·refine(((B.af s).af l).af f).mono λP a=>?_
  have:=C P a;refine⟨⟨oM,oM⟩,?_⟩;show(if P=c.heap.size then _ else _)=_;rw[Zq oM,Zq oM,Zq oM]
 ·exact(aU.nil t).mono (λP a=>a.elim) λP a=>a.1.2
 ·show(if e.heap.size=c.heap.size then _ else _)=_
  rw[Zq oM,Zx rfl]
 ·show(if b.heap.size=c.heap.size then Jv.self else if b.heap.size=e.heap.size then Jv.st else if b.heap.size=b.heap.size then Jv.dn else Jv.Ru)=Jv.dn
  rw[Zq oM,Zq oM,Zx rfl]
abbrev GS:lZ:=⟨0,[]⟩
def nx(k:cG w p F V){b c:Int}:
  YX 84 #[ZL p,ZH b,ZH c] w (Ok λr w'=>∃d e f G,r= .tuple #[.agg #[ZH ((V.state b c).getD GS).version,.slice d e f],.bool (V.state b c).isSome]/\aU fw 84 G w' d e f ((V.state b c).getD GS).cells/\(∀P,G P->w.heap.size<=P)/\ai w w'):=by
 obtain⟨T,q,k⟩:=k;refine uw (PA.mk λs t U z=>?_);have j:=k.af t;refine⟨p,0,rfl,_,ae j.at' rfl,mG (enc:=oO) (k:=(b,c)) Xl UR j.st ?_⟩;obtain⟨i,P,d,e,f,g,h,A,B,l⟩:∃(i:lZ) (P:Bool) (d:YQ) (e f:Nat),(aq q.l1 (b,c)).getD (.agg #[ZH 0,.slice none 0 0])= .agg #[ZH i.version,.slice d e f]/\(aq q.l1 (b,c)).isSome=P/\(V.state b c).getD GS=i/\(V.state b c).isSome=P/\Row fw 32 s (q.P F .VR) d e i.cells:=by
  unfold bg.state;rcases j.VS.aq (b,c)with⟨g,h⟩|⟨r,i,g,h,d,e,f,rfl,l⟩
  ·exact⟨GS,false,none,0,0,by rw[g];rfl,by rw[g];rfl,by rw[h];rfl,by rw[h];rfl,Row.nil _ _⟩
  ·exact⟨i,true,d,e,f,by rw[g];rfl,by rw[g];rfl,by rw[h];rfl,by rw[h];rfl,l⟩
 rw[g,h,A,B];refine⟨_,_,_,_,_,rfl,PA.mk λW C X E=>PS.mk E sM λY H Z I=>PS.mk I sM λJ K s7 u=>?_⟩;have m:ai s J:=(C.new H λP a=>.inr oM).new K λP a=>.inr oM;refine⟨_,_,_,_,ae u rfl,ae u rfl,PC.ok (Kw (l.af m) λP a=>by have:=j.aE P a.1;omega) ?_⟩;rintro _ w8 ⟨L,M,N,G,rfl,O,n,o⟩;have Q:=o.get (m.get z id) id;have z8:=o.size;refine⟨_,_,_,_,rfl,PS.mk Q sM λw9 v s9 R=>PS.mk R sM λa0 x a1 y=>⟨_,_,_,_,ae y rfl,ae y rfl,Ok.mk ⟨L,M,N,G,rfl,?_,?_,?_⟩⟩⟩
 ·exact(O.keep v λP a S=>by have:=n P a;omega).keep x λP a S=>by have:=n P a;omega
 ·intro P a;have:=n P a;omega
 ·exact(((t.then m).then o).new v λP a=>.inr oM).new x λP a=>.inr oM
end
section
variable {w w':World} {D D' S:ZN} {d:aS} {ta pa:YQ} {tn tc pn pc:Nat}
def xp{a b op arg:Int}(S:eX w)(k:bj w D d ta tn pa pn)(T:∀g,D g->g<w.heap.size):
  YX 151 #[.agg #[.slice ta tn tc,.slice pa pn pc],ZH a,ZH b,ZH op,ZH arg] w (Ok λf w'=>f= ZH (kV d a b op arg)/\ai w w'):=by
 refine CL (PA.mk λw1 B s1 C=>⟨_,_,_,_,_,_,ae C rfl,ae C rfl,PC.ok (oy (k.af B) λg s=>by have:=T g s;omega) ?_⟩);rintro f w2 ⟨U,p⟩;have q:=B.then U
 cases l:d.Dk a b with
 |none=>
  rw[l]at p;refine cm (IT VH none 0 0) ⟨_,p,PA.mk λV t W u=>aC (fl _ _ _ _) u rfl λX v Y E=>al.tt rfl (Ok.mk ⟨?_,(q.then t).new v λg s=>.inr (by have:=q.size;omega)⟩)⟩;unfold kV;rw[l]
 |some h=>
  rw[l]at p;obtain⟨r,i,F,a5,rfl,Z,hF⟩:=p;have x:kV d a b op arg=if !within op 1 5||qA op !=h.kind then 2 else if op==1&&arg==0||op==5&& !within arg 0 (h.bz.length-1)then 1 else 0:=by unfold kV;rw[l]
  have hz:=q.size;refine cm (IT h r i F) ⟨_,rfl,PA.mk λV t W u=>aC (fl h r i F) u rfl λX v Y E=>al.ff rfl λy H=>PC.ok cy ?_⟩;rintro _ _ ⟨rfl,rfl⟩;have I:=(bX.keep (S:=λ_=>False) H).get E id;have J:ai w y:=((q.then t).new v λg s=>.inr oM).then H.keep;have P:∀z:Int,kV d a b op arg=z->Ok (λf w'=>f= ZH (kV d a b op arg)/\ai w w') (.returned (ZH z)) y:=λz k=>Ok.mk ⟨by rw[k],J⟩;refine⟨_,rfl,al.not (al.mk (λe=>?_) (λe=>P 2 (by rw[x,e];rfl)))⟩;have a6:=bI.1 e;refine⟨1,0,rfl,oM,oM,qA op,?_,_,ae I rfl,al.dV (λa0=>P 2 ?_) (λhe=>?_)⟩
  ·have:=(S.af J).kinds op.toNat oM
   rw[Xz,this,Int.toNat_of_nonneg oM]
  ·rw[x,e,Zx (by simpa using a0)]
  have m:kV d a b op arg=if op==1&&arg==0||op==5&& !within arg 0 (h.bz.length-1)then 1 else 0:=by rw[x,e,he];simp
  have hn:i=h.bz.length:=Z.len dC;have a7:i<=140737488355328:=by
   obtain⟨a1,zl,K,-⟩:∃(r:YQ) (i:Nat),Row fU 32 w D r i h.bz/\True:=by
    obtain⟨j,n,a8,a3,a9,A,h3,h4⟩:=aS.vM l;have b0:=k.aY.len;obtain⟨g,a2,T',es,rfl,_,_,o,L,b1,n1,c1,rfl,M⟩:=k.aY.at (i:=a) j oM;rw[a3]at o;cases o
    have b2:=M.len;obtain⟨b3,b4,x',b5,rfl,_,_,N,b6,b7,n2,c2,rfl,hM,_⟩:=M.at (i:=b) A oM;rw[h4]at N;cases N
    exact⟨_,_,hM,trivial⟩
   have n:=K.len;have A:=K.dO;unfold aO at A;omega
  have bz:∀{O:List PanicEntry->ZU},op=5->PC ZP 125 #[ZH arg,ZH 0,ZH (ZG .i64 ((i:Int)-1))] y (λa4 Q=>∃R:Bool,a4= .bool R/\al (!R) (Ok (λf w'=>f= ZH (kV d a b op arg)/\ai w w') (.returned (ZH 1)) Q) (Ok (λf w'=>f= ZH (kV d a b op arg)/\ai w w') (.returned (ZH 0)) Q)) O:=by
   intro O c;refine PC.ok cy ?_;rintro _ _ ⟨rfl,rfl⟩;rw[wrap_i64 bb,hn];refine⟨_,rfl,al.not (al.mk (λe=>P 0 ?_) (λe=>P 1 ?_))⟩
   ·rw[m,e,c];rfl
   ·rw[m,e,c];rfl
  refine al.eD (λn=>al.eD (λj=>al.eD (λ_=>P 1 (by rw[m,n,j];rfl)) (λL=>Zz j L)) (λj=>al.eD (λc=>Zz c oM) (λc=>P 0 ?_))) (λn=>al.eD (λc=>⟨_,_,_,ae I rfl,bz c⟩) (λc=>P 0 ?_))
  ·rw[m,Zq (by simp[j,c])]
  ·rw[m,Zq (by simp[n,c])]
def ED{g:YQ}(b:Row oU 48 w D g a c2):
  YX 128 #[.agg #[.slice g a c],ZH e,ZH q] w (Ok λj w'=>j= .bool (RC c2 e q)/\ai w w'):=by
 have h:=b.len;have k:=b.dO;unfold aO at k;refine HB (PA.mk λo d p i=>⟨_,_,_,ae i rfl,PC.ok cy ?_⟩);rintro _ _ ⟨rfl,rfl⟩;rw[wrap_i64 bb];refine⟨_,rfl,al.mk (λP=>?_) (λP=>Ok.mk ⟨?_,d⟩)⟩
 ·have r:=bI.1 P
  obtain⟨l,f,s,t,rfl,_,_,m,n,u,v,x,rfl,_⟩:=(b.af d).at (i:=e) oM oM;refine⟨_,_,_,ae i rfl,l,f,rfl,oM,oM,_,n 0 dC,Ok.mk ⟨?_,d⟩⟩;unfold RC;rw[<-h,P,m];rfl
 ·unfold RC;rw[<-h,P];rfl
def SU(a:1<=e/\e<=4)(b:1<=q/\q<=3):∃P:Int,(∀w',(do eqGuard .shr 3 (.tmp 19) (.tmp 21) (ZH (([0,2,14,6,6]:List Int).getD e.toNat 0)) (ZH q);binOp .shr 3 (ZH (([0,2,14,6,6]:List Int).getD e.toNat 0)) (ZH q):Sem Value).run ZP w'= .ok (ZH P) w')/\((Fu .i64 P 1==0)= !QH e q):=by
 refine⟨(([0,2,14,6,6]:List Int).getD e.toNat 0).fdiv (2 ^ q.toNat),?_,?_⟩<;>rcases(by omega:e=1\/e=2\/e=3\/e=4)with rfl|rfl|rfl|rfl<;>rcases(by omega:q=1\/q=2\/q=3)with rfl|rfl|rfl<;>first
  |(intro w';kernel_rfl)
  |decide
def LA(m:jW):Bool:=decide (m.bU<0)||decide (m.pF<0)||m.lb== -1&&m.least !=0
def SV{c:jW}:YX 126 (#[]++ #[.agg (nz c).toArray]++ #[]) w (Ok λf w'=>f= .bool (LA c)/\ai w w'):=by
 refine wv (PA.mk λg a h b=>⟨_,ae b rfl,al.dec (λP=>Ok.mk ⟨by simp[LA,P],a⟩) (λd=>⟨_,ae b rfl,al.dec (λP=>Ok.mk ⟨by simp[LA,P],a⟩) (λe=>⟨_,ae b rfl,al.eD (λP=>⟨_,ae b rfl,Ok.mk ⟨by simp[LA,d,e,P],a⟩⟩) (λP=>Ok.mk ⟨by simp[LA,d,e,P],a⟩)⟩)⟩)⟩)
def Ji(a:List bu)(P:jW):Bool:=P.lb != -1&& !RC a P.lb 1
def SX{b:jW}{e:YQ}(h:Row oU 48 w D e c c2)(j:w.heap[a]? =some (.cells #[.slice e c i] g (0,0))):
  YX 127 (#[]++ #[.agg (nz b).toArray]++ #[ZL a]) w (Ok λk w'=>k= .bool (Ji c2 b)/\ai w w'):=by
 refine wx (PA.mk λm P n f=>⟨_,ae f rfl,al.dV (λd=>⟨_,_,_,ae (P.get j id) rfl,_,ae f rfl,PC.ok (ED (h.af P)) ?_⟩) (λd=>Ok.mk ⟨by simp[Ji,d],P⟩)⟩);rintro _ o ⟨rfl,l⟩;exact⟨_,rfl,Ok.mk ⟨by unfold Ji;rw[show(b.lb != -1)=true by simpa using d];simp,P.then l⟩⟩
def GI{y z:YQ}(H:eX w)(I:Row oU 48 w D y a c2)(A:Row fU 32 w D z i b6.bz):
  YX 68 #[.agg #[.slice y a c],.agg (dL b6 z i o).toArray] w (Ok λp w'=>p= ZH (fv c2 b6)/\ai w w'):=by
 refine Ar (PA.mk λV J W K=>PA.mk λq B X r=>⟨_,ae r rfl,PC.ok cy ?_⟩);rintro _ _ ⟨rfl,rfl⟩;have C:=J.then B;refine⟨_,rfl,al.not (al.mk (λf=>?_) (λf=>Ok.mk ⟨by unfold fv;rw[f];rfl,C⟩))⟩;have s:=bI.1 f;refine⟨λw'=>ai w w'/\q.heap.size<=w'.heap.size/\ai q w'/\within b6.dW 1 3=true/\QH b6.kind b6.dW=true/\(b6.floor&&b6.kind !=1)=false,λl E=>?_,?_⟩
 ·have d:=(bX.keep (S:=λ_=>False) E).get r id
  have e:ai q l:=E.keep;have P:ai w l:=C.then e;have g:fv c2 b6=1->Ok (λp w'=>p= ZH (fv c2 b6)/\ai w w') (.returned (ZH 1)) l:=λj=>Ok.mk ⟨by rw[j],P⟩;refine⟨_,ae d rfl,PC.ok cy ?_⟩;rintro _ _ ⟨rfl,rfl⟩;refine⟨_,rfl,al.not (al.mk (λb=>?_) (λb=>g (by unfold fv;rw[f,b];rfl)))⟩;have t:=bI.1 b;obtain⟨L,M,N⟩:=SU s t;refine⟨_,ae d rfl,0,0,rfl,oM,oM,_,by rw[Xz];exact(H.af P).VI b6.kind.toNat oM,_,ae d rfl,L,M,?_⟩;refine al.mk (λm=>?_) (λm=>?_)<;>rw[N]at m
  ·exact g (by unfold fv;rw[f,b,show QH b6.kind b6.dW=false by simpa using m];rfl)
  have k:QH b6.kind b6.dW=true:=by simpa using m
  refine⟨_,ae d rfl,al.mk (λu=>⟨_,ae d rfl,al.dV (λO=>g ?_) (λQ=>⟨P,e.size,e,b,k,by simp[Q]⟩)⟩) (λu=>⟨P,e.size,e,b,k,by simp[u]⟩)⟩;unfold fv;rw[f,b,k,u];simp[O]
 ·rintro Y l ⟨P,Z,e,b,k,R⟩
  have d:=e.get r id;have v:fv c2 b6=if b6.bz.any LA then 1 else if b6.bz.any (Ji c2)then 8 else 0:=by
   unfold fv;rw[f,b,k,R];rfl
  refine⟨_,_,_,ae d rfl,PC.ok (Jh (p:=LA) (A.af P) kR λS T h=>SV) ?_⟩;rintro _ T ⟨rfl,h⟩;refine⟨_,rfl,al.mk (λj=>Ok.mk ⟨by rw[v,Zx j],P.then h⟩) (λj=>⟨_,_,_,ae (h.get d id) rfl,PC.ok (Jh (p:=Ji c2) (A.af (P.then h)) kR λS U n=>SX (I.af ((P.then h).then n)) (n.get (h.get (e.get (B.get K id) id) id) id)) ?_⟩)⟩;rintro _ U ⟨rfl,n⟩;have F:=(P.then h).then n;exact⟨_,rfl,al.mk (λx=>Ok.mk ⟨by rw[v,j,x];rfl,F⟩) (λx=>Ok.mk ⟨by rw[v,j,x];rfl,F⟩)⟩
def UK{P b kind:Int}(c:(d.Dk P b).isSome):∃a,d.types[P.toNat]? =some a/\d.at P=a/\0<=P/\P<d.types.length:=by
 obtain⟨j,e⟩:=Option.isSome_iff_exists.1 c;obtain⟨f,g,a,h,i,_⟩:=aS.vM e;exact⟨a,h,i,f,g⟩
def GJ(r:bj w D d ta tn pa pn)(O:∀P,D P->P<w.heap.size):
  YX 69 #[.agg #[.slice ta tn tc,.slice pa pn pc],.agg (ny d6).toArray] w (Ok λC w'=>C= ZH (lL d d6)/\ai w w'):=by
 refine As (PA.mk λZ E s1 s=>PA.mk λw2 h s2 m=>⟨_,_,_,_,_,_,ae (h.get s id) rfl,ae (h.get s id) rfl,_,ae m rfl,_,ae m rfl,PC.ok (oy (r.af (E.then h)) λP c=>by have:=O P c;omega) ?_⟩);rintro C w3 ⟨i,n⟩;have t:=(E.then h).then i;have hz:=i.size
 cases j:d.Dk d6.aY d6.field with
 |none=>
  rw[j]at n;refine cm (IT VH none 0 0) ⟨_,n,PA.mk λQ e R u=>aC (fl _ _ _ _) u rfl λo f S T=>al.tt rfl (Ok.mk ⟨?_,(t.then e).new f λP c=>.inr oM⟩)⟩;unfold lL;rw[j];rfl
 |some F=>
  rw[j]at n;obtain⟨H,I,J,a0,rfl,ho,hF⟩:=n;have K:(d.Dk d6.aY d6.field).isNone=false:=by rw[j];rfl
  refine cm (IT F H I J) ⟨_,rfl,PA.mk λQ e R u=>aC (fl F H I J) u rfl λo f S T=>al.ff rfl ⟨λP w'=>P=(d6.group==3&& !RC (d.at d6.aY) d6.EN 2||d6.group !=3&&d6.EN !=0)/\ai o w',?_,?_⟩⟩
  ·have U:ai w o:=(t.then e).new f λP c=>.inr oM
   intro v V;have a:ai o v:=V.keep;have W:=a.get (f.get (e.get (i.get (h.get s id) id) id) oM) id;have b:=a.get (f.get (e.get (i.get m id) id) oM) id;refine⟨_,ae b rfl,al.eD (λg=>⟨_,_,_,ae W rfl,_,ae b rfl,?_⟩) (λg=>⟨_,ae b rfl,al.dV (λ_=>⟨_,ae b rfl,?_,a⟩) (λk=>Zz k g)⟩)⟩
   ·obtain⟨a1,X,L,M,h1⟩:=UK (kind:=0) (by rw[j];rfl:(d.Dk d6.aY d6.field).isSome)
    have hl:=r.aY.len;obtain⟨P,x,T',es,rfl,_,_,l,k,a2,n1,c1,rfl,Y⟩:=((r.af (U.then a)).aY).at (i:=d6.aY) M oM;rw[X]at l;cases l
    have N:=k 0 dC;simp only[ks,Nat.mul_one,Nat.add_zero]at N;refine⟨P,x,rfl,M,oM,_,_,_,N,_,ae b rfl,PC.ok (ED Y) ?_⟩;rintro _ w7 ⟨rfl,y⟩;refine⟨_,rfl,al.not (al.mk (λz=>⟨_,ae (y.get b id) rfl,al.dV (λk=>Zz g k) (λ_=>⟨?_,a.then y⟩)⟩) (λz=>⟨?_,a.then y⟩))⟩
    ·rw[L,z,g];rfl
    ·rw[L,z,g];rfl
   ·rw[show(d6.group==3)=false by simpa using g,show(d6.group !=3)=true by simpa using g];rfl
  ·rintro P a3 v ⟨rfl,a⟩
   have p:ai w v:=((t.then e).new f λP c=>.inr oM).then a;have b:=a.get (f.get (e.get (i.get m id) id) oM) id;refine al.mk (λc=>Ok.mk ⟨by unfold lL;rw[K,Zq sM,Zx c],p⟩) (λc=>⟨_,ae b rfl,PC.ok cy ?_⟩);have A:lL d d6=if !within d6.group 1 3|| !within d6.make 1 5 then 2 else 0:=by unfold lL;rw[K,Zq sM,c];rfl
   rintro _ _ ⟨rfl,rfl⟩;refine⟨_,rfl,al.not (al.mk (λq=>⟨_,ae b rfl,PC.ok cy ?_⟩) (λq=>Ok.mk ⟨by rw[A,q];rfl,p⟩))⟩;rintro _ _ ⟨rfl,rfl⟩;exact⟨_,rfl,al.not (al.mk (λB=>Ok.mk ⟨by rw[A,q,B];rfl,p⟩) (λB=>Ok.mk ⟨by rw[A,q,B];rfl,p⟩))⟩
end
def Tj(P:Int×Int×Int):iI ZP 306 [ZH P.1,ZH P.2.1,ZH P.2.2]=true:=kR
def Jw{P c:Type}[BEq P][LawfulBEq P]{a:P}{f d:c}:∀b:List (P×c),aI (aI b a f) a d=aI b a d
 |[]=>by simp[aI]
 |(g,h)::b=>by
  by_cases e:a==g
  ·simp[e,aI]
  ·simp[e,aI,Jw b]
section
variable {w w':World} {p:Nat} {F T D:ZN} {V:bg} {q:EJ}
def GR(w:World)(p:Nat)(F D:ZN)(V:bg)(P:ah)(c:Value)(w':World):Prop:=
 c= .tuple #[.bool (V.try P).1,.agg #[ZH (V.try P).2.1.1,ZH (V.try P).2.1.2]]/\∃b,cG w' p b (V.try P).2.2/\aj F w w'/\∀a,b a->F a\/D a\/w.heap.size<=a
def Rv(b:cG w p F V)(P:ai w w')(a:V.try l=(J,d3,V)):Ok (GR w p F D V l) (.returned (.tuple #[.bool J,.agg #[ZH d3.1,ZH d3.2]])) w':=by
 refine Ok.mk ⟨by rw[a],F,?_,ai.keep P,λJ c=>.inl c⟩;rw[a];exact b.af P
def EK(i:yg b p F V q)(P:Int×Int×Int):∃a c d e,(aq q.l2 P).getD (.slice none 0 0)= .slice a c d/\(aq V.done P).getD []=e/\(aU ia 55 (q.P F (.done P)) b a c d e):=by
 rcases i.Wf.aq P with⟨f,g⟩|⟨l,e,f,g,a,c,d,rfl,k⟩
 ·exact⟨none,0,0,[],by rw[f];rfl,by rw[g];rfl,(aU.nil b).mono (λj h=>h.elim) λj h=>i.aE j h.1⟩
 ·exact⟨a,c,d,e,by rw[f];rfl,by rw[g];rfl,k⟩
def Rw(e:cG w p F V)(hT:eX w)(hr:Row aM 8 w D d a l.aJ)(C:∀P,D P->P<w.heap.size/\¬F P)(he:l.Ok)(b:((aq V.done (l.aY,l.agg,l.field)).getD []).length<=20000000):
  YX 146 #[ZL p,jS l d a c] w (Ok (GR w p F D V l)):=by
 have l0:=e;obtain⟨hV,q,e⟩:=e;have g:=e.aE;have B9:=g _ e.lp.1;refine yI (PA.mk λE t7 C0 t8=>PA.mk λo4 o5 C1 t9=>λl3 o6=>?_);have l4:ai o4 l3:=o6.keep;have C2:l3.heap.size=o4.heap.size:=by rw[o6.heap]
 have k0:ai w l3:=(t7.then o5).then l4;have ge:=l4.get (o5.get t8 id) id;have gb:=l4.get t9 id;have Q:=e.af k0;refine⟨p,0,rfl,_,_,_,_,_,_,ae Q.at' rfl,ae Q.at' rfl,_,ae ge rfl,_,ae ge rfl,_,ae ge rfl,_,ae ge rfl,PC.ok (xp (hT.af k0) Q.Ru λP b=>Q.aE P b.1) ?_⟩;rintro _ R ⟨rfl,S⟩;have k1:=k0.then S;have C3:=S.size;have c0:=S.get gb id;have c1:=S.get ge id;have m:∀{w1:World} {i:Int×Int} {P:Bool},ai R w1->V.try l=(P,i,V)->∀w2,bX w1 w2->∀(x H:Int),x=i.1->H=i.2->PS w2 ⟨E.heap.size,0,none⟩ (ZH x) λw3=>PS w3 ⟨E.heap.size,0+1,none⟩ (ZH H) λw4=>∃(o7 o8:Int),w4.cell? ⟨E.heap.size,0,none⟩=some (ZH o7)/\w4.cell? ⟨E.heap.size,0+1,none⟩=some (ZH o8)/\Ok (GR w p F D V l) (.returned (.tuple #[.bool P,.agg #[ZH o7,ZH o8]])) w4:=λ{w1 i P} hk I w2 f9 x H hx k=>by
  have k2:ai w1 w2:=f9.keep;have kk:=(k1.then hk).then k2;have g2:=k2.get (hk.get c0 id) id;subst hx k;refine PS.mk g2 sM λw3 k3 s3 g3=>PS.mk g3 sM λw4 J s4 g4=>⟨_,_,ae g4 rfl,ae g4 rfl,Rv l0 ((kk.new k3 λP b=>.inr oM).new J λP b=>.inr oM) I⟩
 refine⟨_,rfl,al.dV (λd5=>λu0 o9=>?_) (λg7=>?_)⟩
 ·have p0:=(o9.keep (S:=λ_=>False)).get c0 id
  exact⟨_,_,ae p0 rfl,ae p0 rfl,m (i:=(0,0)) (aj.refl _) (by rw[bg.rr,Zx d5]) u0 o9 _ _ rfl rfl⟩
 obtain⟨c3,t0,t1,C4⟩:=MM hV.decl g7 (hV.len l);obtain⟨v,p1⟩:∃v:Nat,l.aY=v:=⟨l.aY.toNat,oM⟩
 have l5:=c3.f0;have l6:=c3.f1;obtain⟨fi,g0⟩:∃fi:Nat,l.field=fi:=⟨l.field.toNat,oM⟩
 have u1:V.decl.at l.aY=V.decl.types.getD v []:=by
  unfold aS.at;rw[Zx (bI.2 ⟨t0,oM⟩),p1,Qx]
 obtain⟨tb,pF,es,u2,u3,p2,u4,fa,fn,fc,rfl,y⟩:=(Q.af S).Ru.aY.el v V.decl.types[v] sM;have y:Row oU 48 R (q.P F .Ru) fa fn (V.decl.at l.aY):=by
  rw[u1];have:V.decl.types.getD v []=V.decl.types[v]:=by simp[QQ,show v<V.decl.types.length by omega]
  rw[this];exact y
 have C5:=(Q.af S).Ru.aY.len;have g8:=u4 0 dC;have u5:ks.k=1:=rfl;rw[u5,Nat.mul_one]at g8;have u6:=g tb p2.1;refine⟨λT u7 ab ao w'=>u7=0/\ao=0/\ai R w'/\w'.heap[T]? =some (.cells #[.slice fa fn fc] 130 (0,0))/\w'.heap[ab]? =some (.cells #[ZH l.aY,ZH l.agg,ZH l.field] 306 (0,0))/\R.heap.size<=T/\R.heap.size<=ab,?_,?_⟩
 ·intro K p3
  have d6:ai R K:=p3.keep;have C6:K.heap.size=R.heap.size:=by rw[p3.heap]
  have p4:=(Q.af S).af d6;have c4:=d6.get c1 id;refine⟨λP=>K.heap.size<=P,p,0,rfl,oM,_,_,_,ae p4.at' rfl,by show¬K.heap.size<=w.heap.size;omega,_,ae c4 rfl,tb,pF,u2,t0,by omega,by show¬K.heap.size<=tb;omega,fa,fn,fc,?_,by show¬K.heap.size<=w.heap.size;omega,_,ae c4 rfl,by show¬K.heap.size<=w.heap.size;omega,_,ae c4 rfl,by show¬K.heap.size<=w.heap.size;omega,_,ae c4 rfl,?_,?_⟩
  ·rw[p1,Qx]
   exact(d6.cell (a:=⟨tb,pF+v,none⟩) u3 id).trans g8
  ·refine PA.mk λu9 d7 v0 l7=>⟨ai.keep d7,PA.mk λv1 U v2 l8=>⟨ai.keep U,PS.mk (U.get l7 id) sM λv3 W v4 l9=>⟨W.mono λP _ l=>oM,aC (Tj (l.aY,l.agg,l.field)) (W.get l8 oM) rfl λv5 X v6 m0=>⟨X.mono λP _ l=>oM,rfl,rfl,?_,X.get l9 oM,m0,oM,oM⟩⟩⟩⟩
   exact(((d6.then d7).then U).new W λP b=>.inr oM).new X λP b=>.inr oM
  ·refine PA.mk λu9 d7 v0 l7=>⟨ai.keep d7,PA.mk λv1 U v2 l8=>⟨ai.keep U,PS.mk l8 sM λv3 W v4 l9=>⟨W.mono λP _ l=>oM,aC (Tj (l.aY,l.agg,l.field)) (W.get (U.get l7 id) oM) rfl λv5 X v6 m0=>⟨X.mono λP _ l=>oM,rfl,rfl,?_,X.get l9 oM,m0,oM,oM⟩⟩⟩⟩
   exact(((d6.then d7).then U).new W λP b=>.inr oM).new X λP b=>.inr oM
 rintro T _ ab _ _ p5 ⟨rfl,rfl,p6,p7,g9,y6,C7⟩;have k2:=k1.then p6;have d8:=e.af k2;obtain⟨da,dn,dc,j,v7,m1,p8⟩:=EK d8 (l.aY,l.agg,l.field);rw[m1]at b;refine⟨p,0,rfl,_,ae d8.at' rfl,ar (cs:=[ZH l.aY,ZH l.agg,ZH l.field]) (Tj (l.aY,l.agg,l.field)) g9 ⟨da,dn,dc,λb1=>?_,λp9 v8=>?_⟩⟩
 ·have:=eH Xu Xi (d8.dn.af (aj.drewN p5 b1)) (l.aY,l.agg,l.field) false
  rw[v7]at this;exact this
 have g1:ai p5 p9:=v8.keep;have C8:=p8.len dC;have m2:=(p8.af g1).row (bytes:=96) dC ba;refine⟨λb1 a5 w'=>∃h:Nat,a5=h/\h<=dn/\b1=dn-h/\(∀x∈j.take h,lX ((V.decl.at l.aY).getD l.field.toNat ⟨0,0,false,[]⟩) x l=false)/\ai p9 w',⟨_,0,rfl,Qj _,rfl,sM,aj.refl _⟩,?_⟩;rintro b1 _ _ m3 ⟨h,rfl,hj,rfl,d9,e0⟩;have k3:=(p6.then g1).then e0;have h0:=e0.get (g1.get p7 id) id;have q0:=e0.get (g1.get g9 id) id;have h6:=k3.get c1 id;have c5:∀{r:Bool×(Int×Int)×bg},(match j.find? λx=>lX ((V.decl.at l.aY).getD l.field.toNat ⟨0,0,false,[]⟩) x l with
  |some x=>(true,aX x,V)
  |none=>if vX (V.decl.at l.aY) (V.cellsOf l) l.field l.op l.arg≠0 then(true,(0,0),V)else
   (false,(0,0),{V with eL:=aI V.eL (l.aY,l.agg) ⟨oT (((aq V.eL (l.aY,l.agg)).getD ⟨0,[]⟩).version+1),RQ (V.decl.at l.aY) (V.cellsOf l) l.field l.op l.arg⟩,done:=aI V.done (l.aY,l.agg,l.field) (j++[l])}))=r->V.try l=r:=λ{r} hr=>by
  rw[bg.rr,Zq (by simpa using g7),m1];exact hr
 refine al.dec (λC9=>?_) (λD0=>?_)
 ·have g5:h<j.length:=oM
  obtain⟨db,b5,es,v9,D1,D2,q1,xa,xn,xc,rfl,q2,q3⟩:=(m2.af e0).el h j[h] (Qq g5);have g6:j[h]? =some j[h]:=Qq g5;generalize j[h]=x at q1 q2 q3 g6;refine⟨db,b5,v9,oM,oM,bB (es:=aD x xa xn xc) (k:=10) (bf x xa xn xc) rfl (λa5 I=>q1 a5 I) (PA.mk λD3 x0 D4 x1=>aC (bf x xa xn xc) x1 rfl λq4 x2 D5 x3=>λx4 x5=>?_)⟩;have m4:ai m3 q4:=x0.new x2 λP b=>.inr oM;have q5:ai q4 x4:=x5.keep;have J:=m4.then q5;have e1:=k3.then J;obtain⟨fb,fo,b6,b7,b8,x6,D6,D7,h1,h2,h3,h4,D8⟩:=Ff (y.af e1) (i:=fi) (by rw[y.len];omega);have h7:=q5.get x3 id;refine⟨_,_,_,ae (J.get h0 id) rfl,_,ae (J.get h6 id) rfl,fb,fo,x6,l5,by rw[y.len];exact l6,?_⟩;rw[g0,Qx];refine bB (es:=dL ((V.decl.at l.aY).getD fi ⟨0,0,false,[]⟩) b6 b7 b8) (k:=4) (fl _ _ _ _) rfl (λa5 I=>?_) (ar (bf x xa xn xc) h7 (ar (bf l d a c) (J.get h6 id) (PC.ok (AM (q2.af J) ((hr.af k1).af e1)) ?_)))
  ·match a5,I with
   |0,_=>exact h1
   |1,_=>exact h2
   |2,_=>exact h3
   |3,_=>exact h4
  rintro _ D9 ⟨rfl,m5⟩;have x7:(V.decl.at l.aY).getD fi ⟨0,0,false,[]⟩=(V.decl.at l.aY).getD l.field.toNat ⟨0,0,false,[]⟩:=by rw[g0,Qx]
  rw[x7];refine⟨_,rfl,al.mk (λhv=>λx8 q6=>?_) (λhv=>⟨_,?_,h+1,an oM,oM,rfl,λH k=>?_,(e0.then J).then m5⟩)⟩
  ·have q7:=(q6.keep (S:=λ_=>False)).get (m5.get h7 id) id
   refine⟨_,_,ae q7 rfl,ae q7 rfl,m (e1.then m5) (i:=aX x) (c5 ?_) x8 q6 _ _ rfl rfl⟩;have hf:j.find? (λx=>lX ((V.decl.at l.aY).getD l.field.toNat ⟨0,0,false,[]⟩) x l)=some x:=by
    rw[List.find?_eq_some_iff_append];refine⟨hv,j.take h,j.drop (h+1),?_,λH k=>by rw[d9 H k];rfl⟩;rw[<-ZX h j]
    congr 1
    ·rw[ZX]
    ·rw[ZX,X4 g5]
     congr 1
     rw[Qq g5]at g6;exact XJ g6
   rw[hf]
  ·omega
  ·rw[Qw,g6]at k
   rcases Q6.1 k with k|k
   ·first|exact d9 H k|(rw[<-g0];exact d9 H k)
   ·simp at k;subst k;first|exact hv|(rw[<-g0];exact hv)
 ·have E0:h=dn:=oM
  rw[Qz oM]at d9;have m6:j.find? (λx=>lX ((V.decl.at l.aY).getD l.field.toNat ⟨0,0,false,[]⟩) x l)=none:=List.find?_eq_none.2 λx hx=>by rw[d9 x hx];simp
  rw[m6]at c5;intro Y h8;have c7:ai m3 Y:=h8.keep;have y7:Y.heap.size=m3.heap.size:=by rw[h8.heap]
  have k5:=k3.then c7;have e9:=k1.then k5;have z5:=k5.size;have z3:=k3.size;have b9:=e.af e9;have b2:=c7.get q0 id;have c2:=c7.get h0 id;have m7:=k5.get c1 id;have E1:=c7.size;have y8:=aA b2;have y9:=aA c2;obtain⟨s,P,n,o,z,f,Z,h5,k4,d3⟩:∃(s:lZ) (P:Bool) (n:YQ) (o z:Nat),(aq q.l1 (l.aY,l.agg)).getD (.agg #[ZH 0,.slice none 0 0])= .agg #[ZH s.version,.slice n o z]/\(aq q.l1 (l.aY,l.agg)).isSome=P/\(aq V.eL (l.aY,l.agg)).getD GS=s/\(P=true->V.cellsOf l=s.cells)/\Row fw 32 Y (q.P F .VR) n o s.cells/\(P=false->V.cellsOf l=dX (V.decl.at l.aY)):=by
   unfold bg.cellsOf;rcases b9.VS.aq (l.aY,l.agg)with⟨f,Z⟩|⟨f0,s,f,Z,n,o,z,rfl,hr⟩
   ·exact⟨GS,false,none,0,0,by rw[f];rfl,by rw[f];rfl,by rw[Z];rfl,λe=>(by cases e),Row.nil _ _,λ_=>by rw[Z]⟩
   ·exact⟨s,true,n,o,z,by rw[f];rfl,by rw[f];rfl,by rw[Z];rfl,λ_=>by rw[Z],hr,λe=>(by cases e)⟩
  obtain⟨d3,l1⟩:=d3;refine⟨λP=>P=Y.heap.size,p,0,rfl,oM,_,ae b9.at' rfl,oM,_,_,ae b2 rfl,ae b2 rfl,s.version,n,o,z,P,λw' hk=>?_,PA.mk λz0 h9 z2 q8=>⟨ai.keep h9,PS.mk q8 sM λz4 i0 z7 q9=>PS.mk q9 sM λr0 i1 z8 i2=>⟨i0.then i1,?_⟩⟩⟩
  ·have:=eH Xl UR (b9.st.keep hk (by have:=g _ e.l1.1;omega)) (l.aY,l.agg) true
   rw[f,Z]at this;exact this
  have k6:ai Y r0:=(h9.new i0 λP b=>.inr oM).new i1 λP b=>.inr oM;refine⟨λw'=>ai Y w'/\∃n o z Dc,w'.heap[Y.heap.size]? =some (.cells #[ZH s.version,.slice n o z] 42 (0,0))/\Row fw 32 w' Dc n o (V.cellsOf l)/\∀P,Dc P->P<w'.heap.size,?_,?_⟩
  ·refine al.not (al.mk (λx9=>⟨k6,n,o,z,_,i2,by rw[k4 x9];exact d3.af k6,λP b=>by have:=g P b.1;have:=k6.size;have:=e9.size;omega⟩) (λy0=>⟨_,_,_,ae (k6.get c2 id) rfl,PC.ok (Hw (t:=V.decl.at l.aY) rfl (y.len) (by rw[y.len];omega)) ?_⟩))
   rintro _ z9 ⟨l2,n6,m8,G6,rfl,r3,k7,y1⟩;have z6:=k6.size;refine⟨_,_,_,rfl,PS.mk (k7.get i2 id) sM λA0 i3 A1 r4=>⟨(k6.then k7).new i3 λP b=>.inr oM,l2,n6,m8,G6,r4,?_,λP b=>by have:=r3.aE P b;omega⟩⟩;rw[l1 y0];exact(r3.keep i3 λP b l=>by have:=y1 P b;omega).row dC (by unfold aO dX;simp;omega)
  rintro _ A2 ⟨a3,n,o,z,Dc,f1,d3,y2⟩;have A3:=a3.size;have f2:=k5.then a3;have f3:=a3.get c2 id;have m9:=a3.get b2 id;have c6:=a3.get m7 id;refine⟨_,_,_,ae f3 rfl,_,_,_,ae f1 rfl,_,ae c6 rfl,_,ae c6 rfl,_,ae c6 rfl,PC.ok (Hv c3 (y.af f2) d3) ?_⟩;rintro _ r5 ⟨rfl,a0⟩;have k8:=f2.then a0;refine⟨_,rfl,al.dV (λd5=>λr6 i4=>?_) (λy3=>λc8 r7=>?_)⟩
  ·have i5:=(i4.keep (S:=λ_=>False)).get (k8.get c0 id) id
   refine⟨_,_,ae i5 rfl,ae i5 rfl,m (i:=(0,0)) k8 (c5 ?_) r6 i4 _ _ rfl rfl⟩;simp only;rw[Zx d5]
  have f4:vX (V.decl.at l.aY) (V.cellsOf l) l.field l.op l.arg=0:=y3;have a1:ai r5 c8:=r7.keep;have k9:=k8.then a1;have n0:=(a3.then a0).then a1;have d2:=k1.then k9;have n1:=e.af d2;have b3:=k9.get c1 id;have e2:=(a0.then a1).get m9 id;have n3:=(a0.then a1).get f3 id;have f7:=(a0.then a1).get f1 id;have E2:=g _ e.l1.1;have E3:=g _ e.l2.1;have A4:=n0.size;have y4:=d2.size;have e8:¬p=q.r1:=λl=>by have f:=e.lp.2;rw[l,e.l1.2]at f;cases f
  have i6:¬p=q.r2:=λl=>by have f:=e.lp.2;rw[l,e.l2.2]at f;cases f
  have i7:¬q.r1=q.r2:=λl=>by have f:=e.l1.2;rw[l,e.l2.2]at f;cases f
  refine⟨λP=>P=q.r1,p,0,rfl,e8,_,ae n1.at' rfl,oM,_,_,ae e2 rfl,ae e2 rfl,oM,_,ae f7 rfl,_,_,_,ae n3 rfl,_,_,_,ae f7 rfl,_,ae b3 rfl,_,ae b3 rfl,_,ae b3 rfl,PC.ok (RS c3 f4 he.arg oM (y.af k9) (λP b=>by have:=g P b.1;omega) (d3.af (a0.then a1)) λP b=>by have:=y2 P b;have:=(a0.then a1).size;omega) ?_⟩;rintro _ a6 ⟨r8,r9,s0,G,rfl,i8,a4,hG⟩;have e3:=d2.then a4;have t:=e.af e3;have A5:=a4.size;refine⟨_,_,_,rfl,ai.keep a4,iX (enc:=oO) (k:=(l.aY,l.agg)) Xl UR t.st λi9 s1 j0 A6=>⟨j0,λc9 j1=>?_⟩⟩;have j2:ai i9 c9:=j1.keep;have A7:c9.heap.size=i9.heap.size:=by rw[j1.heap]
  have A:aj (·=q.r1) a6 c9:=j0.af j2;have key:∀P,F P/\q.cls P= .done (l.aY,l.agg,l.field)->P≠p/\P≠q.r1/\P≠q.r2:=λP b=>
   ⟨λl=>(by have f:=e.lp.2;rw[<-l,b.2]at f;cases f),λl=>(by have f:=e.l1.2;rw[<-l,b.2]at f;cases f),λl=>(by have f:=e.l2.2;rw[<-l,b.2]at f;cases f)⟩
  have n4:=A.get t.at' e8;have n5:=A.get (a4.get e2 id) oM;have u:=A.get (a4.get b3 id) oM;have n8:=t.dn.keep A (λl=>i7 l.symm);have n9:=A.get (a4.get (k9.get c0 id) id) oM;obtain⟨a2,a7,e4,n7,s2,j3,j4⟩:=EK t (l.aY,l.agg,l.field);rw[m1]at j3;subst j3;have o0:=j4.keep A λP b l=>(key P b).2.1 l;have A8:=A.size;refine⟨λP=>P=q.r2\/(F P/\q.cls P= .done (l.aY,l.agg,l.field)),p,0,rfl,λB=>B.elim i6 λB=>(key p B).1 rfl,_,ae n4 rfl,λB=>B.elim (λl=>oM) λB=>by have:=g _ B.1;omega,
   ar (cs:=[ZH l.aY,ZH l.agg,ZH l.field]) (Tj (l.aY,l.agg,l.field)) n5 ⟨_,_,_,_,_,_,_,_,_,_,_,_,ae u rfl,ae u rfl,ae u rfl,ae u rfl,ae u rfl,ae u rfl,ae u rfl,ae u rfl,ae u rfl,ae u rfl,
   PA.mk λA9 a8 B0 s5=>⟨ai.keep a8,Gt (enc:=Ck) (k:=(l.aY,l.agg,l.field)) Xu Xi (n8.af a8) λB1 x s6 o1 a9 B2=>⟨a2,a7,e4,x,by rw[s2],a9.mono λP _ l=>.inl l,?_⟩⟩⟩⟩
  have o2:=(o0.af a8).keep a9 λP b l=>(key P b).2.2 l;have s7:=a9.get s5 oM;have b4:∀P,aH a2=some P->F P/\q.cls P= .done (l.aY,l.agg,l.field):=λP b=>j4.self P b;have y5:=(((hr.af e3).keep A λP b l=>(C P b).2 (l▸e.l1.1)).af a8).keep a9 λP b l=>(C P b).2 (l▸e.l2.1);refine eJ (c:=ia) o2 G_ s7 (D:=D) (x:=l) ⟨d,a,c,rfl,y5,he⟩ (λP b=>⟨by have:=(C P b).1;omega,λee=>(C P b).2 (b4 P ee).1⟩) ba (by unfold maxLen;omega) λa' L s8 F2 f8 b0 o3=>⟨_,_,_,rfl,b0.mono λP _ b=>.inr (b4 P b),?_⟩
  have s9:¬aH a2=some q.r2:=λee=>(key _ (b4 _ ee)).2.2 rfl;refine BH Xi (s6.keep b0 s9) (o1.keep b0 s9) λj5 t2 f5 B3=>⟨f5.mono λP _ l=>.inl l,λd0 j6=>?_⟩
  have f6:ai j5 d0:=j6.keep;have B4:d0.heap.size=j5.heap.size:=by rw[j6.heap]
  have B5:=b0.size;have kb:aj (λP=>P=q.r2\/(F P/\q.cls P= .done (l.aY,l.agg,l.field))) c9 d0:=((((ai.keep a8).then (a9.mono λP _ l=>.inl l)).then (b0.mono λP _ b=>.inr (b4 P b))).then (f5.mono λP _ l=>.inl l)).then (ai.keep f6);have e5:=kb.get n9 (λB=>B.elim (λl=>oM) λB=>by have:=g _ B.1;omega);refine⟨_,_,ae e5 rfl,ae e5 rfl,PS.mk e5 sM λB6 j7 B7 t3=>PS.mk t3 sM λd1 j8 B8 j9=>⟨_,_,ae j9 rfl,ae j9 rfl,?_⟩⟩;have M:aj (λP=>P=q.r1\/P=q.r2\/(F P/\q.cls P= .done (l.aY,l.agg,l.field))\/P=E.heap.size) a6 d1:=
   ((A.mono λP _ l=>.inl l).then (kb.mono λP _ b=>b.elim (λl=>.inr (.inl l)) λb=>.inr (.inr (.inl b)))).then ((j7.mono λP _ l=>.inr (.inr (.inr l))).then (j8.mono λP _ l=>.inr (.inr (.inr l))))
  have kc:aj (·=E.heap.size) d0 d1:=j7.then j8;have zT:=M.size;have I:=c5 (r:=(false,(0,0),{V with eL:=aI V.eL (l.aY,l.agg) ⟨oT (((aq V.eL (l.aY,l.agg)).getD ⟨0,[]⟩).version+1),RQ (V.decl.at l.aY) (V.cellsOf l) l.field l.op l.arg⟩,done:=aI V.done (l.aY,l.agg,l.field) (j++[l])})) (by simp only;rw[Zq (by simpa using f4)]);have t4:=(bg.Ry hV l).1;refine Ok.mk ⟨by rw[I],λP=>P<d1.heap.size/\(F P\/D P\/w.heap.size<=P),?_,?_,λP b=>b.2⟩
  rotate_left
  ·exact(ai.keep e3).trans M (λ_ _ e=>e) λP b hT=>by
    rcases hT with rfl|rfl|hT|rfl
    ·exact e.l1.1
    ·exact e.l2.1
    ·exact hT.1
    ·omega
  rw[I]at t4⊢;have t5:∀P,G P->c8.heap.size<=P/\P<a6.heap.size:=λP b=>⟨hG P b,i8.aE P b⟩
  have N:∀P,F P->P<d1.heap.size:=λP b=>by have:=g P b;omega
  classical
  have O:∀P,F P->(if F P then q.cls P else if c8.heap.size<=P/\P<a6.heap.size then Jv.VR else Jv.done (l.aY,l.agg,l.field))=q.cls P:=λP b=>Zx b;refine⟨t4,⟨q.ta,q.tn,q.tc,q.pa,q.pn,q.pc,q.ea,q.en,q.ec,q.r1,q.r2,aI q.l1 (l.aY,l.agg) (.agg #[ZH (oT (s.version+1)),.slice r8 r9 s0]),aI q.l2 (l.aY,l.agg,l.field) (.slice a' (a7+1) L),λP=>if F P then q.cls P else if c8.heap.size<=P/\P<a6.heap.size then Jv.VR else Jv.done (l.aY,l.agg,l.field)⟩,?_,?_,?_,?_,?_,?_,?_,λP b=>b.1,⟨⟨N _ e.lp.1,.inl e.lp.1⟩,(O _ e.lp.1).trans e.lp.2⟩,⟨⟨N _ e.l1.1,.inl e.l1.1⟩,(O _ e.l1.1).trans e.l1.2⟩,⟨⟨N _ e.l2.1,.inl e.l2.1⟩,(O _ e.l2.1).trans e.l2.2⟩⟩
  ·exact M.get t.at' λB=>by
    rcases B with B|B|B|B
    ·exact e8 B
    ·exact i6 B
    ·exact(key _ B).1 rfl
    ·omega
  ·refine(t.Ru.keep M λP b B=>?_).mono λP b=>⟨⟨N P b.1,.inl b.1⟩,(O P b.1).trans b.2⟩
   have d4:=g P b.1;rcases B with rfl|rfl|B|B
   ·have:=e.l1.2;rw[b.2]at this;cases this
   ·have:=e.l2.2;rw[b.2]at this;cases this
   ·have:=B.2;rw[b.2]at this;cases this
   ·omega
  ·refine(t.OE.keep M λP b B=>?_).mono (λP b=>⟨⟨N P b.1,.inl b.1⟩,(O P b.1).trans b.2⟩) λP b=>b.1.1
   have d4:=g P b.1;rcases B with rfl|rfl|B|B
   ·have:=e.l1.2;rw[b.2]at this;cases this
   ·have:=e.l2.2;rw[b.2]at this;cases this
   ·have:=B.2;rw[b.2]at this;cases this
   ·omega
  ·exact((s1.af j2).keep kb λB=>B.elim i7 λB=>(key _ B).2.1 rfl).keep kc oM
  ·refine fu.aI ?_ ?_
   ·refine⟨r8,r9,s0,by rw[h5],?_⟩
    refine((i8.row (bytes:=32) dC ?_).keep M λP b B=>?_).mono λP b=>?_
    ·rw[MN,hV.len];unfold aO;omega
    ·have d4:=t5 P b
     rcases B with rfl|rfl|B|B
     ·omega
     ·omega
     ·have:=g P B.1;omega
     ·omega
    ·have d4:=t5 P b
     refine⟨⟨oM,.inr (.inr oM)⟩,?_⟩;show(if F P then _ else _)=_;rw[Zq (λhf=>by have:=g P hf;omega),Zx d4]
   ·refine t.VS.mono λf0 r1 hu=>?_
    obtain⟨e6,n2,e7,rfl,hu⟩:=hu;refine⟨e6,n2,e7,rfl,(hu.keep M λP b B=>?_).mono λP b=>⟨⟨N P b.1,.inl b.1⟩,(O P b.1).trans b.2⟩⟩;have d4:=g P b.1;rcases B with rfl|rfl|B|B
    ·have:=e.l1.2;rw[b.2]at this;cases this
    ·have:=e.l2.2;rw[b.2]at this;cases this
    ·have:=B.2;rw[b.2]at this;cases this
    ·omega
  ·have:=(t2.af f6).keep kc (by show¬q.r2=E.heap.size;omega)
   rw[Jw]at this;exact this
  ·refine ow.aI ?_ t.Wf ?_ t.dn.tidy
   ·refine⟨a',_,L,rfl,?_⟩
    have t6:∀P,F2 P->P<s8.heap.size/\P≠E.heap.size:=λP b=>by
     refine⟨f8.aE P b,λl=>?_⟩;rcases o3 P b with f|f|f
     ·have:=g P f.1;omega
     ·have:=(C P f).1;omega
     ·omega
    refine((f8.keep f5 λP b l=>?_).af f6|>.keep kc λP b l=>(t6 P b).2 l).mono (λP b=>?_) λP b=>b.1.1
    ·rcases o3 P b with f|f|f
     ·exact(key P f).2.2 l
     ·exact(C P f).2 (l▸e.l2.1)
     ·omega
    ·have:=(t6 P b).1
     have hz:=kc.size;rcases o3 P b with f|f|f
     ·exact⟨⟨N P f.1,.inl f.1⟩,(O P f.1).trans f.2⟩
     ·refine⟨⟨oM,.inr (.inl f)⟩,?_⟩
      show(if F P then _ else _)=_;rw[Zq (C P f).2,Zq (by have:=(C P f).1;omega)]
     ·refine⟨⟨oM,.inr (.inr oM)⟩,?_⟩
      show(if F P then _ else _)=_;rw[Zq (λhf=>by have:=g P hf;omega),Zq oM]
   ·intro r2 f0 r1 d5 hu
    obtain⟨e6,n2,e7,rfl,hu⟩:=hu;refine⟨e6,n2,e7,rfl,(hu.keep M λP b B=>?_).mono (λP b=>⟨⟨N P b.1,.inl b.1⟩,(O P b.1).trans b.2⟩) λP b=>b.1.1⟩;have d4:=g P b.1;rcases B with rfl|rfl|B|B
    ·have:=e.l1.2;rw[b.2]at this;cases this
    ·have:=e.l2.2;rw[b.2]at this;cases this
    ·have:=B.2;rw[b.2]at this
     simp only[Jv.done.injEq]at this;exact d5 this
    ·omega
end
section
variable {w w':World} {p:Nat} {F T D:ZN} {V:bg} {q:EJ}
abbrev EO(P:cR)(a:YQ)(b c:Nat):Value:=.agg (ic P a b c).toArray
def GY(L:cG w p F V)(hT:eX w)(hr:Row aM 8 w D d a l.aJ)(o:∀P,D P->P<w.heap.size/\¬F P)(he:l.Ok)(b:((aq V.done (l.aY,l.agg,l.field)).getD []).length<=20000000)(M:V.entries.length<=20000000):
  YX 79 #[ZL p,jS l d a c] w (Ok λW w'=>∃d a c G,W=EO (V.add l).1 d a c/\Row aM 8 w' G d a l.aJ/\∃X,cG w' p X (V.add l).2/\cQ F w X w'/\∀P,G P->w.heap.size<=P/\P<w'.heap.size/\¬X P):=by
 have Y:=L.aE;have g9:=Y _ L.self;refine yB (PA.mk λt e5 h3 d0=>PA.mk λh4 Z h5 e6=>?_);have k0:=e5.then Z;refine ar (bf l d a c) (Z.get d0 id) (PC.ok (n_ (hr.af k0) λP b=>by have:=(o P b).1;omega) ?_);rintro _ h6 ⟨a6,n1,c1,G1,rfl,e7,u,N⟩;have a0:=k0.then N;refine cm (rA l a6 n1 c1) ⟨rfl,PC.ok (Rw (L.af a0) (hT.af a0) e7 (λP b=>⟨(u P b).2,λj=>by have:=Y P j;have:=u P b;omega⟩) he b) ?_⟩;rintro _ v ⟨rfl,f,b8,O,Q⟩;have h7:=N.size;have h8:=O.size;have b0:∀P,f P->F P\/w.heap.size<=P:=λP b=>by
  rcases Q P b with e|e|e
  ·exact .inl e
  ·have:=u P e;exact .inr oM
  ·exact .inr oM
 have b1:aj F w v:=(ai.keep a0).then O;have R:∀{P:Nat},w.heap.size<=P->¬F P:=λ{P} b j=>by have:=Y P j;omega
 have d1:=O.get (N.get (Z.get d0 id) id) (R (Q4 _));have d2:=O.get (N.get e6 id) (R oM);refine⟨_,_,_,rfl,PA.mk λh9 e8 i0 e9=>PS.mk e9 sM λi1 f2 i2 f3=>PS.mk f3 sM λi3 f4 i4 f5=>λx b9=>?_⟩;have A:ai v x:=((e8.new f2 λP b=>.inr oM).new f4 λP b=>.inr oM).then b9.keep;have i5:x.heap.size=v.heap.size+1:=by rw[b9.heap];omega
 have a1:x.heap[v.heap.size]? =some (.cells #[ZH (V.try l).2.1.1,ZH (V.try l).2.1.2] 39 (0,0)):=(b9.keep (S:=λ_=>False)).get f5 id;have b2:=A.get d1 id;obtain⟨g8,q,g⟩:=b8.af A;have c0:=b8.self;have y:=b8.aE;have b3:=((hr.keep b1 λP b=>(o P b).2).af A)
 have a4:(V.try l).2.2.entries=V.entries:=by
  rw[bg.rr];split;rfl;split;rfl;split<;>rfl
 have i6:=g.OE.len dC;have B:∀P,aH q.ea=some P->f P/\q.cls P= .OE:=λP b=>g.OE.self P b;have C:¬aH q.ea=some p:=λk=>by have e:=(B p k).2;rw[g.lp.2]at e;cases e
 refine⟨λP=>aH q.ea=some P,p,0,rfl,C,_,_,_,ae g.at' rfl,ar (bf l d a c) b2 ⟨λk=>by have:=y _ (B _ k).1;omega,_,_,ae a1 rfl,ae a1 rfl,PC.ok (n_ b3 λP b=>by have:=(o P b).1;omega) ?_⟩⟩;rintro _ i7 ⟨a7,n2,c2,G2,rfl,f6,z,c4⟩;have i8:=c4.size;refine⟨_,_,_,_,_,_,_,_,_,_,_,_,rfl,ai.keep c4,PA.mk λd3 c5 i9 g0=>⟨ai.keep c5,?_⟩⟩;have a2:=c4.then c5;refine eJ (c:=yl) (x:=⟨l,(V.try l).1,(V.try l).2.1⟩) (g.OE.af a2) Rp g0 (D:=G2) ⟨a7,n2,c2,rfl,f6.af c5,he⟩ (λP b=>⟨by have:=z P b;omega,λk=>by have:=y _ (B _ k).1;have:=z P b;omega⟩) (by rw[a4];unfold aO;omega) (by rw[a4];unfold maxLen;omega) λa' E d4 F2 b4 c6 c7=>⟨_,_,_,rfl,p,0,rfl,?_⟩
 have j0:=c6.size;have d5:=c6.get ((g.af a2).at') C;refine PS.mk d5 sM λH g1 j1 g2=>λr d6=>?_;have d7:ai H r:=d6.keep;have j2:r.heap.size=H.heap.size:=by rw[d6.heap]
 have a5:aj (·=p) d4 r:=g1.af d7;have k5:aj (λP=>aH q.ea=some P\/P=p) x r:=((ai.keep a2).then (c6.mono λP _ b=>.inl b)).then (a5.mono λP _ b=>.inr b);have I:aj f x r:=k5.mono λP _ b=>b.elim (λe=>(B P e).1) λe=>e▸c0;have c8:∀{P:Nat},v.heap.size<=P->¬f P:=λ{P} b j=>by have:=y P j;omega
 have g3:¬f w.heap.size:=λj=>by
  rcases Q _ j with e|e|e
  ·exact R (Q4 _) e
  ·have:=u _ e;omega
  ·omega
 have c9:¬f t.heap.size:=λj=>by
  rcases Q _ j with e|e|e
  ·exact R oM e
  ·have:=u _ e;omega
  ·omega
 have d8:=I.get b2 g3;have d9:=I.get (A.get d2 id) c9;have b5:=I.get a1 (c8 (Q4 _));have e0:∀P,D P->¬f P:=λP b j=>by
  rcases Q _ j with e|e|e
  ·exact(o P b).2 e
  ·have:=u _ e;have:=(o P b).1;omega
  ·have:=(o P b).1;omega
 have e1:=b3.keep I e0;have j3:=k5.size;refine⟨λP=>P=t.heap.size,ar (bf l d a c) d8 ⟨oM,_,_,ae b5 rfl,ae b5 rfl,PC.ok (n_ e1 λP b=>by have:=(o P b).1;omega) ?_⟩⟩;rintro _ j4 ⟨a3,n3,c3,G3,rfl,g4,e2,J⟩;have j5:=J.size;refine⟨_,_,_,_,_,_,_,_,_,_,_,_,rfl,ai.keep J,aC (lv ⟨l,(V.try l).1,(V.try l).2.1⟩ a3 n3 c3) (J.get d9 id) rfl λe3 S j6 g5=>⟨S,ar (lv ⟨l,(V.try l).1,(V.try l).2.1⟩ a3 n3 c3) g5 (Ok.mk ⟨a3,n3,c3,G3,rfl,g4.keep S λP b k=>by have:=e2 P b;omega,λP=>P<H.heap.size/\(f P\/G2 P\/d3.heap.size<=P),?_,⟨?_,?_⟩,?_⟩)⟩⟩
 ·have g6:=(bg.zN (by
   have:V.OK:=L.1;exact this) l).1
  have T:aj (λP=>P=t.heap.size) r e3:=(ai.keep J).then S;have zc:=T.size;have g7:∀P,f P->P<H.heap.size:=λP b=>by have:=y P b;omega
  classical
  have e4:∀P,f P->(if f P then q.cls P else Jv.OE)=q.cls P:=λP b=>Zx b;have K:aj (λP=>(aH q.ea=some P\/P=p)\/P=t.heap.size) x e3:=(k5.mono λP _ b=>.inl b).then (T.mono λP _ b=>.inr b);have h:∀(n:Jv) P,n≠.OE->n≠.self->f P/\q.cls P=n->¬((aH q.ea=some P\/P=p)\/P=t.heap.size):=λn P e U b m=>by
   rcases m with(m|m)|m
   ·exact e (b.2.symm.trans (B P m).2)
   ·subst m;exact U (b.2.symm.trans g.lp.2)
   ·subst m;exact c9 b.1
  have i:∀(n:Jv) P,f P/\q.cls P=n->((P<H.heap.size/\(f P\/G2 P\/d3.heap.size<=P))/\(if f P then q.cls P else Jv.OE)=n):=λn P b=>⟨⟨g7 P b.1,.inl b.1⟩,(e4 P b.1).trans b.2⟩
  refine⟨g6,⟨q.ta,q.tn,q.tc,q.pa,q.pn,q.pc,a',q.en+1,E,q.r1,q.r2,q.l1,q.l2,λP=>if f P then q.cls P else Jv.OE⟩,?_,?_,?_,?_,?_,?_,?_,λP b=>by have:=b.1;omega,i _ _ g.lp,i _ _ g.l1,i _ _ g.l2⟩
  ·exact T.get (d7.get g2 id) oM
  ·exact(g.Ru.keep K λP b=>h _ P sM sM b).mono (i _)
  ·have M:∀P,F2 P->P<d4.heap.size/\P≠t.heap.size/\P≠p:=λP b=>by
    refine⟨b4.aE P b,λk=>?_,λk=>?_⟩
    ·rcases c7 P b with e|e|e
     ·exact c9 (k▸e.1)
     ·have:=z P e;omega
     ·omega
    ·rcases c7 P b with e|e|e
     ·have U:=e.2;rw[k,g.lp.2]at U;cases U
     ·have:=z P e;have:=y p c0;omega
     ·have:=y p c0;omega
   have:(V.add l).2.entries=(V.try l).2.2.entries++[⟨l,(V.try l).1,(V.try l).2.1⟩]:=rfl;rw[this];refine((b4.keep a5 λP b=>(M P b).2.2).keep T λP b=>(M P b).2.1).mono (λP b=>?_) λP b=>by have:=b.1.1;omega
   have h0:=(M P b).1;rcases c7 P b with e|e|e
   ·exact i _ P e
   ·have:=z P e
    refine⟨⟨oM,.inr (.inl e)⟩,?_⟩;show(if f P then _ else _)=_;rw[Zq (c8 oM)]
   ·refine⟨⟨oM,.inr (.inr e)⟩,?_⟩
    show(if f P then _ else _)=_;rw[Zq (c8 oM)]
  ·exact g.st.keep K (h _ _ sM sM g.l1)
  ·refine g.VS.mono λW a8 s=>?_
   obtain⟨x1,x2,x3,rfl,s⟩:=s;exact⟨x1,x2,x3,rfl,(s.keep K λP b=>h _ P sM sM b).mono (i _)⟩
  ·exact g.dn.keep K (h _ _ sM sM g.l2)
  ·refine g.Wf.mono λa9 W a8 s=>?_
   obtain⟨x1,x2,x3,rfl,s⟩:=s;exact⟨x1,x2,x3,rfl,(s.keep K λP b=>h _ P sM sM b).mono (i _) λP b=>by have:=b.1.1;omega⟩
 ·have k1:aj f v r:=(ai.keep A).then I
  exact((b1.new k1 b0).af J).new S λP b=>.inr oM
 ·intro P b
  rcases b.2 with e|e|e
  ·exact b0 P e
  ·have:=z P e;exact .inr oM
  ·exact .inr oM
 ·intro P b
  have:=e2 P b;refine⟨oM,oM,λm=>by have:=m.1;omega⟩
def EP(d:aS):∀(b:List ah) (P:bg) (a:Int×Int×Int),(((aq (b.foldl (λP e=>(P.add e).2) P).done a).getD []).length<=((aq P.done a).getD []).length+b.length)/\(b.foldl (λP e=>(P.add e).2) P).entries.length=P.entries.length+b.length
 |[],P,a=>by simp
 |e::b,P,a=>by
  rw[List.foldl_cons];obtain⟨f,g⟩:=EP d b (P.add e).2 a;have j:((aq (P.add e).2.done a).getD []).length<=((aq P.done a).getD []).length+1:=by
   show((aq (P.try e).2.2.done a).getD []).length<=_;rw[bg.rr];split
   ·simp
   split
   ·simp
   split
   ·simp
   ·simp only
    rw[bD];split
    ·rename_i h
     have c:a=(e.aY,e.agg,e.field):=by simpa using h
     rw[c];simp
    ·simp
  have i:(P.add e).2.entries.length=P.entries.length+1:=by
   show((P.try e).2.2.entries++[_]).length=_;have:(P.try e).2.2.entries=P.entries:=by rw[bg.rr];split;rfl;split;rfl;split<;>rfl
   rw[this];simp
  refine⟨?_,by rw[g,i];simp;omega⟩;simp only[Xq]at f⊢;omega
def GX{tn M q N j O:Nat}(Q:dy L=0)(R:eX w)(S:bj w D L d tn r q)(T:∀P,D P->P<w.heap.size)(s:Row ia 96 w f c7 j B)(t:∀P,f P->P<w.heap.size)(b:B.length<=20000000):
  YX 40 #[.agg #[.slice d tn M,.slice r q N],.slice c7 j O] w (Ok λU w'=>∃p F,U= ZL p/\cG w' p F (cD L B)/\(∀P,F P->w.heap.size<=P)/\ai w w'):=by
 refine JY (PA.mk λw1 u s1 v=>⟨_,_,_,_,_,_,ae v rfl,ae v rfl,PC.ok (Hg Q (S.af u) λP b=>by have:=T P b;omega) ?_⟩);rintro _ w9 ⟨p,V,rfl,e,W,x⟩;have a9:=s.len;have X:=u.then x;have z9:=x.size;refine⟨_,rfl,λy o w'=>∃a:Nat,o=a/\a<=j/\y=j-a/\∃F,cG w' p F (cD L (B.take a))/\(∀P,F P->w.heap.size<=P)/\ai w w',⟨_,0,rfl,Qj _,rfl,V,e,λP b=>by have:=W P b;omega,X⟩,?_⟩;rintro y _ _ Y ⟨a,rfl,hj,rfl,F,e,k,g⟩;refine al.dec (λb0=>?_) (λb1=>?_)
 ·have z:a<B.length:=oM
  obtain⟨P,Z,es,ha,a0,b2,A,l,m,n,rfl,C,E⟩:=(s.af g).el a B[a] (Qq z);have H:B[a]? =some B[a]:=Qq z;generalize B[a]=c at A C E H;refine⟨P,Z,ha,oM,oM,bB (es:=aD c l m n) (k:=10) (bf c l m n) rfl (λo ht=>A o ht) (PA.mk λb3 a3 b4 a5=>aC (bf c l m n) a5 rfl λa6 a7 b5 a8=>ar (bf c l m n) a8 ?_)⟩;have h:ai Y a6:=a3.new a7 λP b=>.inr oM;have I:=EP L (B.take a) (bg.new L) (c.aY,c.agg,c.field);have b6:=List.length_take_le a B;have b7:((aq (cD L (B.take a)).done (c.aY,c.agg,c.field)).getD []).length<=0+(B.take a).length:=I.1;have b8:(cD L (B.take a)).entries.length=0+(B.take a).length:=I.2;have b9:=g.size;have c0:=h.size;refine PC.ok (GY (e.af h) (R.af (g.then h)) (C.af h) (λP b=>⟨by have:=t P b;omega,λhf=>by have:=k P hf;have:=t P b;omega⟩) E oM oM) ?_;rintro _ c1 ⟨a4,n4,c4,G,rfl,-,F',i,J,-⟩;refine cm (OR _ a4 n4 c4) ⟨rfl,_,?_,a+1,an oM,oM,rfl,F',?_,λP b=>?_,(g.then h).new J.1 λP b=>.inr (k P b)⟩
  ·omega
  ·rw[Qw,H]
   unfold cD at i⊢;rw[List.foldl_append];exact i
  ·rcases J.2 P b with K|K
   ·exact k P K
   ·omega
 ·rw[Qz oM]at e
  exact Ok.mk ⟨p,F,rfl,e,k,g⟩
end
end Go.Proofs.YtblabbpipmodgaaGreatDoor
namespace Go.aw
open Go
variable{a2:List Value}{F a c c6 i o:Nat}{f:ZN}{d r:YQ}{h:Program}{I j:Type}{g n:TypeId}{b:World}{x:ZU}
def OC{cs:List j}{p m:Nat}{v:j}{vs:List j}(P:p<cs.length):(cs.set p v).take (p+1)++vs++(cs.set p v).drop (p+1+m)=cs.take p++(v::vs)++cs.drop (p+(m+1)):=by
 have a:(cs.set p v).take (p+1)=cs.take p++[v]:=by
  rw[Qw,Xj,Zx rfl,Zx P,List.take_set_of_le (Q4 _)];rfl
 have b:(cs.set p v).drop (p+1+m)=cs.drop (p+(m+1)):=by
  rw[List.drop_set_of_lt oM,show p+1+m=p+(m+1) by omega]
 rw[a,b];simp
def Ci{l:TypeId}{m:Nat}{g:YQ}{n d a h e:Nat}{o:ZU}(p:g=some ⟨h,e,none⟩):∀(b:List Value) (P:Nat) {c:World} {cs:List Value},Own c l m g n d cs->a+P+b.length<=cs.length->
  (∀f,Own f l m g n d (cs.take (a+P)++b++cs.drop (a+P+b.length))->aj (λh=>aH g=some h) c f->f.heap.size=c.heap.size->o f)->jh ⟨h,e+a,none⟩ P b c o
 |[],P,c,cs,i,q,j=>j c (by simpa using i) (aj.refl _) rfl
 |v::b,P,c,cs,i,q,j=>by
  unfold jh;rw[Xq]at q;rw[Addr.add_lit,Nat.add_assoc];refine i.set (m:=a+P) oM p λf r s t=>Ci p b (P+1) r bc λu k w x=>j u ?_ (s.then w) (x.trans t);have:=OC (cs:=cs) (p:=a+P) (m:=b.length) (v:=v) (vs:=b) oM;rw[show a+(P+1)=a+P+1 from rfl]at k;rw[this]at k;exact k
def Own.store{k c m f e:Nat}{P cs:List Value}(o:Own b n a d k c cs)(p:d=some ⟨f,e,none⟩)(l:iI h g P=true)(q:m+P.length<=cs.length)(j:∀i,Own i n a d k c (cs.take m++P++cs.drop (m+P.length))->aj (λf=>aH d=some f) b i->i.heap.size=b.heap.size->x i):yo h g (.pointer (some ⟨f,e+m,none⟩)) (.agg P.toArray) b x:=by
 simp only[iI,QK]at l;obtain⟨⟨⟨r,w⟩,s⟩,t⟩:=l;unfold yo;have u:Nat.beq P.toArray.size (lE h g)=true:=by simpa using s
 have v:P.toArray.toList.all Value.oneCell'=true:=by simpa using t
 simp only[r,u,v];exact Ci p P 0 o (by simpa using q) j
def eZ.store{P:eZ j I}{p:List (Bx j)}(w:aU P.ke n f b d a c p){e:Bx j}(y:p[i]? =some e){B t:Nat}(M:d=some ⟨B,t,none⟩)(C:a2=(P.hd e.x r o F).take c6)(a1:P.o<c6)(a3:c6<=P.k)(N:iI h g a2=true)(z:∀s,aU P.ke n f s d a c (p.set i ⟨e.x,r,o,F⟩)->aj (λk=>aH d=some k) b s->s.heap.size=b.heap.size->x s):yo h g (.pointer (some ⟨B,t+i*P.k,none⟩)) (.agg a2.toArray) b x:=by
 obtain⟨cs,D,O,E,Q⟩:=w.body;have H:=bR.nq.1 E;have R:i<p.length:=(Qv.1 y).1;have J:cs.length=p.length*P.k:=by rw[H];exact kQ (λk:Bx j=>P.hl k.x k.a k.n k.c) p
 have u:a2.length=c6:=by rw[C,Qy,P.hl];omega
 have S:(i+1)*P.k<=p.length*P.k:=Q0 _ R;rw[X7,Nat.one_mul]at S;refine O.store (m:=i*P.k) M N (by rw[J,u];omega) λs T U K=>z s ⟨⟨_,D,T,bR.nq.2 ?_,Q⟩,w.self,λk V=>by rw[K];exact w.aE k V⟩ U K;have W:=qM (enc:=λk:Bx j=>P.hd k.x k.a k.n k.c) (k:=P.k) (λk=>P.hl k.x k.a k.n k.c) (x':=⟨e.x,r,o,F⟩) (v:=.slice r o F) P.ho p i e y (P.fy ..).symm;rw[<-W,<-H,u];have X:∀l,l<P.k->cs[i*P.k+l]? =(P.hd e.x e.a e.n e.c)[l]? :=λl Y=>by
  obtain⟨Z,A,L⟩:=E.at y;have a0:Z=P.hd e.x e.a e.n e.c:=L.1;rw[<-a0];exact A l Y
 apply X3;intro l;have q:∀m,m<c6->a2[m]? =(P.hd e.x r o F)[m]? :=λm hu=>by rw[C,Xw,Zx hu]
 by_cases A:l<i*P.k
 ·rw[XQ,XW (by rw[Qy];omega),Xw,Zx A,Xj,Zq oM]
 ·by_cases L:l<i*P.k+c6
  ·rw[XQ,X8 (by rw[Qy];omega),XW (by rw[Qy,u];omega),Qy,q _ oM]
   obtain⟨m,rfl⟩:∃m,l=i*P.k+m:=⟨l-i*P.k,oM⟩
   rw[X2 oM,Nat.add_sub_cancel_left,Xj];have v:=P.fy e.x e.a e.n e.c r o F;split
   ·rename_i n
    have:m=P.o:=oM
    subst this;rw[Zx (by rw[J];have:=P.ho;omega),<-v,Xj,Zx rfl,Zx (by rw[P.hl];exact P.ho)]
   ·rename_i n
    rw[X m oM,<-v,Xj,Zq oM]
  ·rw[X8 (by rw[QX,Qy,u];omega),QX,Qy,u,List.getElem?_drop,Xj,Zq (by have:=P.ho;omega)]
   congr 1
   omega
end Go.aw
namespace Go.aw
open Go
variable{h:Program}{x:ZU}
section
variable {α β:Type} {N:eZ α β} {w9 w w':World} {a:YQ} {n c j:Nat} {L0:List (Bx α)} {e:TypeId}
def eu.step2{f:TypeId}(y:eu N e w9 a n c L0 j w){g:Nat}(o:a=Option.some ⟨g,0,none⟩){b:Bx α}(i:L0[j]? =Option.some b){a':YQ}{n' c':Nat}{G:ZN}(z:Row N.ci N.ib w G a' n' (N.inner b.x))(A:N.ok b.x)(k:∀P,G P->w9.heap.size<=P/\P<w.heap.size)(U:g<w9.heap.size){hd:List Value}{r:Nat}(C:hd=(N.hd b.x a' n' c').take r)(E:N.o<r)(F:r<=N.k)(H:iI h f hd=true)(l:∀w',eu N e w9 a n c L0 (j+1) w'->aj (λb=>aH a=Option.some b) w w'->w'.heap.size=w.heap.size->x w'):yo h f (.pointer (Option.some ⟨g,0+j*N.k,none⟩)) (.agg hd.toArray) w x:=by
 obtain⟨I,J,K,L,M,p,O,q⟩:=y;have s:I[j]? =Option.some b:=by rw[p j (Q4 _)];exact i
 have Q:=(Qv.1 s).1;have t:∀P,G P->¬aH a=Option.some P:=λP B e=>by
  have:=(k P B).1;rw[o]at e;simp only[aH,Q1]at e;omega
 refine eZ.store K s o C E F H λR S d m=>l R ⟨_,λP=>J P\/G P,S,?_,?_,?_,O.then d,?_⟩ d m
 ·rw[List.map_set,L]
  apply X3;intro f;rw[Xj];split
  ·rename_i e;subst e
   rw[Zx (by simpa using(Qv.1 i).1),Q9,i];rfl
  ·rfl
 ·intro u P V B
  rw[Xj]at B
  by_cases v:j=u
  ·subst v
   rw[Zx rfl,Zx Q]at B
   cases B
   exact⟨(z.keep d λP B=>t P B).mono λP B=>.inr B,A⟩
  ·rw[Zq v]at B
   exact((M u P oM B).keep d λP B=>(q P B).2.2).mono λP B=>.inl B
 ·intro T W
  rw[Xj,Zq oM,p T oM]
 ·rintro P (B|B)
  ·rw[m];exact q P B
  ·rw[m];exact⟨(k P B).1,(k P B).2,t P B⟩
end
end Go.aw
namespace Go.Proofs.YtblabbpipmodgaaGreatDoor
section
open Go.aw
variable{a c:Nat}{d:YQ}
section
variable {w w':World} {p:Nat} {F D:ZN} {V:bg}
def ze{P:List (Bx cR)}(e:Row LM.ke 120 w D d a P)(f:∀b,D b->b<w.heap.size):YX 394 #[.slice d a c] w (Ok (pC LM.ke 160 w P)):=
 gD (z_ Rp dC e f λh w' g=>Ok.mk g)
def ET(d:cG w p F V)(b:V.entries.length<=20000000):YX 392 #[ZL p] w (Ok (pC yl 160 w V.entries)):=by
 obtain⟨X,Y,d⟩:=d;have k:=d.OE.row (bytes:=120) dC ba;have H:=k.dO;have Z:=k.len;obtain⟨f,v,I,J⟩:=eZ.boxes k;have a8:f.length=V.entries.length:=by rw[<-v];simp
 refine rY ⟨p,0,rfl,_,_,_,ae d.at' rfl,PC.ok (ze I λP b=>d.aE P b.1) ?_⟩;rintro _ x ⟨i,g,y,F9,rfl,j,z,K⟩;have l:∀P,aH i=some P->w.heap.size<=P:=λP b=>K P (j.self P b);have L:∀P,aH i=some P->P<x.heap.size:=λP b=>j.aE P (j.self P b);refine⟨_,_,_,rfl,λA M w'=>∃c:Nat,M=c/\c<=g/\A=g-c/\eu LM 160 x i g y f c w',⟨_,0,rfl,Qj _,rfl,eu.start j.alone⟩,?_⟩;rintro A _ _ N ⟨c,rfl,hj,rfl,e⟩;have b0:=e.len;have m:ai w N:=z.new e.keep λP b=>.inr (l P b);have zk:=e.keep.size;refine al.dec (λb1=>?_) (λb2=>?_)
 ·obtain⟨h,rfl⟩:=e.some oM
  have b3:=l h rfl;have O:=L h rfl;have n:f[c]? =some f[c]:=Qq oM;have o:=J f[c] (XY oM);generalize f[c]=a at n o;refine⟨h,0,rfl,oM,oM,bB (es:=aD a.x.ev a.a a.n a.c) (k:=10) (bf _ _ _ _) rfl (λq Q=>?_) (PC.ok (n_ (e:=a.x.ev) (o.1.af m) λP b=>by have:=d.aE P b.1;have:=m.size;omega) ?_)⟩
  ·have R:=e.cell rfl n (by show g*13<=aO;unfold aO at H⊢;omega) q
   rw[Qx];have r:q<(aD a.x.ev a.a a.n a.c).length:=Q;rw[Qq r];refine R _ ?_;show(aD a.x.ev a.a a.n a.c++_)[q]? =_;rw[XW r,Qq r]
  rintro _ b4 ⟨s,t,u,G,rfl,S,B,T⟩;refine cm (rA a.x.ev s t u) ⟨rfl,h,0,rfl,oM,oM,?_⟩;rw[Qx];refine(e.af T).step2 (g:=h) rfl n (a':=s) (n':=t) (c':=u) (G:=G) S o.2 (λC E=>⟨by have:=B C E;omega,(B C E).2⟩) O (hd:=aD a.x.ev s t u) (r:=10) rfl dC dC (bf _ _ _ _) λb5 U b6 b7=>⟨_,?_,c+1,an oM,oM,rfl,U⟩
  omega
 ·obtain rfl:c=g:=oM
  obtain⟨Fd,hd,W⟩:=e.done;rw[v]at hd;have z9:=z.size;exact Ok.mk ⟨i,_,y,Fd,rfl,hd,m,λP b=>(W P b).elim (l P) λd=>oM⟩
end
end
section
open Go.aw
def bq(P:dR):List Value:=[ZH P.group,ZH P.value,ZH P.count]
def dR.Ok(P:dR):Prop:=aN P.group/\aN P.value/\aN P.count
def Hh:jU dR:=flat 3 bq dR.Ok (λ_=>rfl) (λa b P=>by simp[bq]at P;rcases P with rfl|rfl|rfl<;>rfl)
def VD:jq ZP 44 269 3 24:=⟨kR,kR,dC⟩
variable{X p:Array Value}{y:FuncId}{e q:Int}{d7:dR}
section
variable {w w':World} {D:ZN} {a:YQ} {n c:Nat} {l:List dR}
def BO(b:Row Hh 24 w D a n l)(d:∀P,D P->P<w.heap.size):YX 238 #[.slice a n c] w (Ok (pC Hh 269 w l)):=
 jb (z_ VD dC b d λf w' e=>Ok.mk e)
def Lf{most:Int}(b:Row Hh 24 w D a n l)(g:∀d,D d->d<w.heap.size)(u:n<=c):
  YX 167 #[.slice a n c,ZH most] w (Ok λh w'=>∃e,h= .tuple #[e,.bool (decide ((max most 0).toNat<l.length))]/\pC Hh 269 w (l.take (max most 0).toNat) e w'):=by
 have v:=b.len;have i:(if 0>most then 0 else most)=max most 0:=by split<;>omega
 refine CP ?_;rw[i];obtain⟨P,f⟩:∃P:Nat,(if(n:Int)<max most 0 then(n:Int)else max most 0)=P:=⟨(if(n:Int)<max most 0 then(n:Int)else max most 0).toNat,by split<;>omega⟩
 rw[f];have j:P=min n (max most 0).toNat:=by split at f<;>omega
 rw[Qx];refine⟨oM,oM,oM,PC.ok (BO (b.take (m:=P) oM) g) ?_⟩;rintro _ x ⟨k,m,o,p,rfl,q,r,s⟩;refine⟨_,_,_,rfl,Ok.mk ⟨_,?_,k,m,o,p,rfl,?_,r,s⟩⟩
 ·have:decide ((P:Int)<(n:Int))=decide ((max most 0).toNat<l.length):=by rw[decide_eq_decide];omega
  rw[this]
 ·have:l.take (max most 0).toNat=l.take P:=by
   rw[j]
   by_cases t:(max most 0).toNat<=n
   ·rw[Nat.min_eq_right t]
   ·rw[X2 oM,Qz oM,Qz oM]
  rw[this];exact q
def II{b k:Nat}(t:b<=20000000)(j:k<=b)(l:enters ZP y=true)(m:∀(c:Nat) e,c<b->ai w e->YX y (p++ #[ZH (c:Int)]++X) e (Ok λf w'=>f= .bool (decide (k<=c))/\ai e w')):
  YX 165 #[ZH (b:Int),.func (.func y) p X] w (Ok λf w'=>f= ZH (k:Int)/\ai w w'):=by
 refine AF ⟨λg c n w'=>∃P a:Nat,c=P/\n=a/\g=a-P/\P<=a/\a<=b/\P<=k/\k<=a/\ai w w',⟨_,0,b,rfl,rfl,rfl,oM,oM,oM,j,aj.refl _⟩,?_⟩;rintro g _ _ _ o ⟨P,a,rfl,rfl,rfl,u,q,r,s,d⟩;refine al.dec (λv=>?_) (λx=>?_)
 ·rw[TR oM]
  refine⟨_,_,_,rfl,l,PC.ok (m _ o oM d) ?_⟩;rintro _ z ⟨rfl,h⟩;refine⟨_,rfl,al.not (al.dec (λi=>⟨_,?_,P,(P+a)/2,rfl,rfl,rfl,oM,oM,r,i,d.then h⟩) (λi=>⟨_,?_,(P+a)/2+1,a,an oM,rfl,rfl,oM,q,oM,s,d.then h⟩))⟩
  ·omega
  ·omega
 ·obtain rfl:P=k:=oM
  exact Ok.mk ⟨rfl,d⟩
def sJ{a:Type}(P:a->Bool):∀l:List a,l.dropWhile P=l.drop (posOf P l)
 |[]=>rfl
 |x::l=>by
  unfold posOf;rw[List.dropWhile_cons,List.takeWhile_cons]
  cases b:P x
  ·simp
  ·simpa[posOf]using sJ P l
abbrev ub(l:List dR):Prop:=l.Pairwise λa P=>a.group<P.group
def SM{l:List dR}(c:ub l){P:Nat}(a:l[P]? =some d7):decide (posOf (λd7=>decide (d7.group<=e)) l<=P)=decide (d7.group>e):=by
 rw[decide_eq_decide]
 induction l generalizing P with
 |nil=>simp at a
 |cons d l f=>
  obtain⟨g,h⟩:=List.pairwise_cons.1 c;unfold posOf;rw[List.takeWhile_cons]
  by_cases b:d.group<=e
  ·rw[Zy b]
   cases P with
   |zero=>
    simp at a;subst a;simp;omega
   |succ P=>
    have:=f h (by simpa using a);unfold posOf at this;simp only[if_true,Xq];omega
  ·rw[Xv b]
   simp only[Bool.false_eq_true,if_false,ZQ,Qj,true_iff]
   cases P with
   |zero=>simp at a;subst a;omega
   |succ P=>
    have:=g d7 (QZ (by simpa using a));omega
def Lg(j:Row Hh 24 w D a n l)(u:∀b,D b->b<w.heap.size)(v:n<=c)(x:ub l)(y:n<=20000000):
  YX 110 #[.slice a n c,ZH e,ZH q] w (Ok λz w'=>∃P,z= .tuple #[P,.bool (nu l e (max q 0).toNat).2]/\pC Hh 269 w (nu l e (max q 0).toNat).1 P w'):=by
 have Q:=j.len;have R:=zQ (λP:dR=>decide (P.group<=e)) l;refine FG (PA.mk λS o T k=>PA.mk λU g V A=>⟨_,_,_,ae (g.get k id) rfl,PC.ok (II (k:=posOf (λP=>decide (P.group<=e)) l) y oM kR λh B W d=>?_) ?_⟩)
 ·have f:=(o.then g).then d
  obtain⟨b,C,X,E,i,-,F,rfl,-⟩:=(j.af f).el h l[h] (Qq oM);have H:l[h]? =some l[h]:=Qq oM;refine Az ⟨_,_,_,ae (d.get (g.get k id) id) rfl,b,C,E,oM,oM,_,by rw[Qx];exact F 0 dC,_,ae (d.get A id) rfl,λI J=>Ok.mk ⟨?_,J.keep⟩⟩;rw[SM x H]
 ·rintro _ B ⟨rfl,d⟩
  have f:=(o.then g).then d;have m:=(j.af f).part (lo:=posOf (λP=>decide (P.group<=e)) l) (hi:=n) (cap:=c) oM (Q4 _) v;rw[Qz oM]at m;have K:Hh.k=3:=rfl;rw[K]at m;refine⟨_,rfl,_,_,_,ae (d.get (g.get k id) id) rfl,oM,oM,?_⟩;rw[Qx];refine PC.ok (Lf (most:=q) m (λb i=>by have:=u b i;have:=f.size;omega) oM) ?_;rintro _ I ⟨_,rfl,p,r,s,L,rfl,M,N,O⟩;have t:l.dropWhile (λP=>decide (P.group<=e))=l.drop (posOf (λP=>decide (P.group<=e)) l):=sJ _ l;refine⟨_,_,_,_,rfl,Ok.mk ⟨.slice p r s,?_,p,r,s,L,rfl,?_,f.then N,λb i=>by have:=O b i;have:=f.size;omega⟩⟩
  ·unfold nu;rw[t]
  ·unfold nu;rw[t];exact M
end
def sI(P:dR):Value:=.agg (bq P).toArray
def NH(P:dR):iI ZP 269 (bq P)=true:=kR
def WI(P:dR):RG (fD ZP 269) (.agg (bq P).toArray)=true:=kR
structure kU (w:World) (p r:Nat) (R:dK):Prop where
 at':w.heap[p]? =some (.cells #[ZH R.p.aY,ZH R.p.field,ZH R.p.group,ZH R.p.EN,ZH R.p.make,.map (some r)] 288 (0,0))
 map:bY w r (Value.int .i64) (R.rows.map λx=>(x.1,sI x.2))
 ok:∀x∈R.rows,dR.Ok x.2/\x.2.group=x.1
variable{a c:Nat}{d:YQ}{l:ah}{d6:jo}
section
variable {w w':World} {p r:Nat} {R:dK} {T:ZN}
def kU.keep(P:kU w p r R)(a:aj T w w')(b:¬T p)(c:¬T r):kU w' p r R:=⟨a.get P.at' b,P.map.keep a c,P.ok⟩
def kU.af(P:kU w p r R)(a:ai w w'):kU w' p r R:=P.keep a id id
def OW:YX 133 #[.agg (ny d6).toArray] w (Ok λb w'=>∃p r,b= ZL p/\kU w' p r ⟨d6,[]⟩/\w.heap.size<=p/\w.heap.size<=r/\p<w'.heap.size/\r<w'.heap.size/\ai w w'):=by
 refine Ka (PA.mk λc d j P=>⟨_,_,_,_,_,ae P rfl,ae P rfl,ae P rfl,ae P rfl,ae P rfl,PA.mk λe f k g=>PA.mk λl a m h=>Ok.mk ⟨e.heap.size,c.heap.size,rfl,⟨h,bY.new (a.get g id),λd6 i=>by cases i⟩,oM,oM,oM,oM,(d.then f).then a⟩⟩)
def Gw(P:jo)(b:ah)(a:Int):Option Int:=if P.group=1 then some b.agg else if P.group=2 then some b.arg else if P.group=3 then some a else none
def Li(i:kU w p r R):YX 263 #[ZL p,jS l d a c,ZH e] w (Ok λj w'=>j= .tuple #[ZH ((Gw R.p l e).getD 0),.bool (Gw R.p l e).isSome]/\ai w w'):=by
 refine uK (PA.mk λk P m h=>⟨p,0,rfl,_,ae (i.af P).at' rfl,al.eD (λb=>⟨_,ae h rfl,Ok.mk ⟨?_,P⟩⟩) (λb=>al.eD (λf=>⟨_,ae h rfl,Ok.mk ⟨?_,P⟩⟩) (λf=>al.eD (λg=>Ok.mk ⟨?_,P⟩) (λg=>Ok.mk ⟨?_,P⟩)))⟩)
 ·unfold Gw;rw[Zx b];rfl
 ·unfold Gw;rw[Zq b,Zx f];rfl
 ·unfold Gw;rw[Zq b,Zq f,Zx g];rfl
 ·unfold Gw;rw[Zq b,Zq f,Zq g];rfl
def Oc(h:kU w p r R){arg:Int}:YX 264 #[ZL p,.agg (bq d7).toArray,ZH arg] w (Ok λl w'=>l= ZH (lI R.p d7 arg)/\ai w w'):=by
 refine wJ (PA.mk λm b o f=>?_);have c:=(h.af b).at';refine⟨_,ae f rfl,p,0,rfl,_,ae c rfl,al.eD (λd=>⟨_,ae f rfl,Ok.mk ⟨?_,b⟩⟩) (λd=>⟨p,0,rfl,_,ae c rfl,al.eD (λe=>⟨_,ae f rfl,Ok.mk ⟨?_,b⟩⟩) (λe=>⟨λk w'=>k=decide (R.p.make=5\/d7.count=1/\(R.p.make=3\/R.p.make=4))/\m=w',?_,?_⟩)⟩)⟩
 ·unfold lI;rw[Zx d]
 ·unfold lI;rw[Zq d,Zx e]
 ·refine⟨p,0,rfl,_,ae c rfl,al.eD (λg=>⟨?_,rfl⟩) (λg=>al.eD (λj=>⟨p,0,rfl,_,ae c rfl,al.eD (λP=>⟨?_,rfl⟩) (λP=>⟨p,0,rfl,_,ae c rfl,?_,rfl⟩)⟩) (λj=>⟨?_,rfl⟩))⟩
  ·rw[Zy (.inl g)];simpa using g
  ·rw[Zy (.inr ⟨j,.inl P⟩)]
  ·by_cases a:R.p.make=4
   ·rw[Zy (.inr ⟨j,.inr a⟩)];simpa using a
   ·rw[Xv (by rintro(h|⟨-,h|h⟩);exact g h;exact P h;exact a h)];simpa using a
  ·rw[Xv (by rintro(h|⟨h,-⟩);exact g h;exact j h)]
 ·rintro k _ _ ⟨n,rfl⟩
  subst n;refine al.dec (λi=>Ok.mk ⟨?_,b⟩) (λi=>⟨p,0,rfl,_,ae c rfl,al.eD (λP=>⟨_,ae f rfl,Ok.mk ⟨?_,b⟩⟩) (λP=>⟨p,0,rfl,_,ae c rfl,al.eD (λa=>⟨_,ae f rfl,Ok.mk ⟨?_,b⟩⟩) (λa=>Ok.mk ⟨?_,b⟩)⟩)⟩)
  ·unfold lI;rw[Zq d,Zq e,Zx i]
  ·have:(if arg<d7.value then arg else d7.value)=min d7.value arg:=by split<;>omega
   unfold lI;rw[Zq d,Zq e,Zq i,Zx P,<-this]
  ·have:(if arg>d7.value then arg else d7.value)=max d7.value arg:=by split<;>omega
   unfold lI;rw[Zq d,Zq e,Zq i,Zq P,Zx a,<-this]
  ·unfold lI;rw[Zq d,Zq e,Zq i,Zq P,Zq a]

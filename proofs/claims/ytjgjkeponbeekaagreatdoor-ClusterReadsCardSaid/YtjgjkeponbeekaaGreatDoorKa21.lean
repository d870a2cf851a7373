import Derived.Test.YtjgjkeponbeekaaGreatDoorKa20
import Derived.Lib.AppendZerosOnto
import Derived.Lib.Overlaps
set_option linter.all false
set_option maxHeartbeats 4000000
set_option maxRecDepth 20000
namespace Go.Proofs.YtjgjkeponbeekaaGreatDoor
open Go.ar
variable{e:Int}{a2:List Value}{a c:Nat}{h:Program}{p u:Value->World->Prop}
section
variable {w w':World} {D E:Nat->Prop}
structure GQ (t:List bf) (cells:List cD) (fi op arg:Int):Prop where
 f0:0<=fi
 f1:fi<(t.length:Int)
 len:cells.length=t.length
 UH:1<=op
 UI:op<=5
 mv:op=5->0<=arg/\arg<((t.getD fi.toNat ⟨0,0,false,[]⟩).bq.length:Int)/\(((t.getD fi.toNat ⟨0,0,false,[]⟩).bq.getD arg.toNat ⟨0,0,0,0⟩).kD)<(t.length:Int)
variable {t:List bf} {cells:List cD} {op arg:Int} {ma ca ta:Option Addr} {mn mc cn cc tn tc i:Nat} {bytes:Nat}
def OD(a:GQ t cells (i:Int) op arg)(b:Row ei bytes w D ca cn cells)(e:Row ix 32 w E ma mn (t.getD i ⟨0,0,false,[]⟩).bq):
  enters XP (Ro op)=true/\Calls XP (Ro op) (#[]++ #[zK (t.getD i ⟨0,0,false,[]⟩) ma mn mc ca cn cc (i:Int) arg]++ #[]) w (Ok λh w'=>h= .bool (OB t cells (i:Int) op arg)/\ai w w'):=by
 have c:i<cn:=by have:=b.len;have:=a.f1;have:=a.len;omega
 have n:=a.UH;have o:=a.UI;have:op=1\/op=2\/op=3\/op=4\/op=5:=oM
 rcases this with rfl|rfl|rfl|rfl|rfl
 ·exact⟨kR,GO b c⟩
 ·exact⟨kR,r_ (PA.mk λj d k l=>Ok.mk ⟨rfl,d⟩)⟩
 ·exact⟨kR,GP b c⟩
 ·exact⟨kR,r_ (PA.mk λj d k l=>Ok.mk ⟨rfl,d⟩)⟩
 ·obtain⟨m,f,g⟩:=a.mv rfl
  rw[Qx]at f g;exact⟨kR,Ey b c e m (by rw[e.len];exact f) (by rw[b.len,a.len];exact g)⟩
def OE(op:Int):gH XP 310 [.func (.func (Ro op)) #[] #[],.func (.func (VF op)) #[] #[]]=true:=kR
def Ez{bytes:Nat}(g:Row rk bytes w D ta tn t)(h:i<tn):∃a b c d f,ta=some ⟨a,b,none⟩/\a<w.heap.size/\D a/\w.cell? ⟨a,b+i*4,none⟩=some (XH (t.getD i ⟨0,0,false,[]⟩).kind)/\w.cell? ⟨a,b+i*4+1,none⟩=some (XH (t.getD i ⟨0,0,false,[]⟩).dI)/\w.cell? ⟨a,b+i*4+2,none⟩=some (.bool (t.getD i ⟨0,0,false,[]⟩).floor)/\w.cell? ⟨a,b+i*4+3,none⟩=some (.slice c d f)/\Row ix 32 w D c d (t.getD i ⟨0,0,false,[]⟩).bq:=by
 have j:=g.len;obtain⟨a,b,p,k,l,m,e,c,d,f,rfl,n,q⟩:=g.el i t[i] (by simp[j▸h]);have o:t.getD i ⟨0,0,false,[]⟩=t[i]:=by simp[QQ,j▸h]
 rw[o];exact⟨a,b,c,d,f,k,l,m,e 0 dC,e 1 dC,e 2 dC,e 3 dC,n⟩
def GR(a:GQ t cells e op arg)(h:Row rk 48 w E ta tn t)(o:Row ei bytes w D ca cn cells):
  Calls XP 131 #[.agg #[.slice ta tn tc],.slice ca cn cc,XH e,XH op,XH arg] w (Ok λp w'=>p= XH (vJ t cells e op arg)/\ai w w'):=by
 obtain⟨i,rfl⟩:∃i:Nat,e=i:=⟨e.toNat,by have:=a.f0;omega⟩
 refine Jg (PA.mk λM q N r=>PC.ok zJ ?_);rintro _ O ⟨P,rfl,s,c⟩;refine⟨_,rfl,iH zI jV s ?_⟩;rw[Lp a.UH a.UI];refine⟨_,_,_,rfl,PA.mk λQ j R u=>az (OE op) u rfl λv k S f=>λl x=>al.tt rfl ?_⟩;have g:ai v l:=x.af;have d:ai w l:=((q.then (c.then j)).new k λm b=>.inr (by have:=c.size;omega)).then g;have f:=g.get f id;have y:=g.get (k.get (j.get (c.get r id) id) (by have:=c.size;omega)) id;have T:=a.f1;have U:=h.len;obtain⟨m,z,V,W,A,B,b,X,C,F,H,I,J⟩:=Ez (h.ah d) (i:=i) oM;obtain⟨K,L⟩:=OD (mc:=A) (cc:=cc) a (o.ah d) J;refine⟨_,ae f rfl,_,_,_,ae y rfl,m,z,B,oM,oM,_,_,_,_,_,_,C,F,H,I,_,_,_,rfl,K,PC.ok L ?_⟩;rintro _ Y ⟨rfl,n⟩;rw[Ex];exact⟨_,rfl,al.not (al.mk (λb=>Ok.mk ⟨by rw[b];rfl,d.then n⟩) (λb=>Ok.mk ⟨by rw[b];rfl,d.then n⟩))⟩
def OF(b:c<a*a2.length):((List.replicate a a2).flatten)[c]? =a2[c % a2.length]? :=by
 induction a generalizing c with
 |zero=>simp at b
 |succ a f=>
  rw[List.replicate_succ,List.flatten_cons]
  by_cases d:c<a2.length
  ·rw[XW d,Nat.mod_eq_of_lt d]
  ·rw[X8 oM,f (by rw[X7,Nat.one_mul]at b;omega)]
   obtain⟨e,rfl⟩:∃e,c=e+a2.length:=⟨c-a2.length,oM⟩
   rw[Nat.add_sub_cancel,Nat.add_mod_right]
def UJ{t e:TypeId}{b bytes:Nat}(j:jC h t e b bytes){z:Value}(k:(h.info? e).bind (·.zero)=some z)(m:a<=c)(s:c*bytes<=aK)(v:c<=aK){w:World}(x:∀w',Own w' e b (ZX w.heap.size) a c (List.replicate a z.cells.toList).flatten->ai w w'->w'.heap.size=w.heap.size+1->p (.slice (ZX w.heap.size) a c) w'):
  aG h (Instr.makeSlice t (XH (a:Int)) (XH (c:Int))) w p u:=by
 unfold aK at s v;obtain⟨i,d,n,o,y,A,f⟩:=jC.info j;have B:d=z:=by
  rw[n]at k;simp only[Option.bind_some,o]at k;exact XJ k
 subst B;have q:=run_make (P:=h) w t e i _ j.under n o .i64 .i64 a c oM oM (by rw[A,Int.mul_comm,<-Int.natCast_mul];omega) oM;rw[Qx,Qx,y]at q;have C:ai w (w.alloc (.cells (madeCells d.cells (c*b)) e)):=ak.alloc w _;have I:a*b<=c*b:=Q0 _ m;have E:(madeCells d.cells (c*b)).size=c*b:=size_madeCells ..;have F:((List.replicate a d.cells.toList).flatten).length=a*b:=by simp[f]
 refine aG.mk q (x _ ⟨⟨F,.inr ⟨w.heap.size,c,_,rfl,Qj _,heap_alloc_new w _,m,by unfold maxLen;omega,E,?_⟩⟩⟩ C sM);apply X3;intro g
 by_cases l:g<a*b
 ·rw[Xw,if_pos l,OF (by simp[f];exact l)]
  unfold madeCells;have H:=j.pos;have r:g % b<d.cells.size:=by rw[f];exact Nat.mod_lt _ H
  simp[f,show g<c*b by omega];rw[getElem!_pos d.cells (g % b) r,X6 r]
 ·rw[Xw,if_neg l,Q7 oM]
def GS(k:ta=ta)(e:tn=t.length)(a:tn<=20000000):Calls XP 128 #[.agg #[.slice ta tn tc]] w (Ok (py ei 78 w (du t))):=by
 refine Jh (PA.mk λf g l b=>⟨_,_,_,ae b rfl,UJ OA (z:=.agg #[XH 0,.slice none 0 0]) kR (Q4 _) (by unfold aK;omega) (by unfold aK;omega) λm c h n=>⟨_,_,_,rfl,Ok.mk ⟨_,_,_,(·=f.heap.size),rfl,⟨⟨_,λ_=>False,c,?_,λ_ i=>i.elim⟩,λd a=>by simpa[aF]using a.symm,λd a=>oM⟩,g.then h,λd a=>oM⟩⟩⟩);subst e
 clear c b
 unfold du
 induction t with
 |nil=>rfl
 |cons o t j=>exact⟨_,_,rfl,⟨none,0,0,rfl,Row.nil _ _,by simp[aH],List.Pairwise.nil,sM⟩,j (by simp at a;omega)⟩
end
end Go.Proofs.YtjgjkeponbeekaaGreatDoor
namespace Go.ar
open Go
def GN(j:Program)(g tn:TypeId)(k:Nat)(B r:FuncId)(i:Option Addr)(c d:Nat)(a:Int)(o:Option Addr)(b p:Nat)(e:World)(h:Ending->World->Prop):Prop:=
 ((0:Int)<=a/\(a:Int)<=((c:Nat):Int)/\al ((((b:Nat):Int):Int)==0) (h (.returned (.slice i c d)) e) (al ((a:Int)==((c:Nat):Int)) (aG j (Builtin.append_ #[g,g] g #[.slice i c d,.slice o b p]) e (λC E=>∃(s:Option Addr) (t:Nat) (u:Nat),C= .slice s t u/\h (.returned (.slice s t u)) E) (λf e=>h (.panicked [{v:=f,recovered:=false}]) e)) (aG j (Builtin.cap_ #[g] tn #[.slice i c d]) e (λF v=>∃(w:Int),F= XH w/\al (decide (((IntKind.wrap .i64 (((c:Nat):Int)+((b:Nat):Int))):Int)>w)) (((0:Int)<=a/\(a:Int)<=((d:Nat):Int)/\aG j (Builtin.append_ #[g,tn] g #[.slice i (Int.toNat a) d,XH (IntKind.wrap .i64 ((IntKind.wrap .i64 (((c:Nat):Int)+((b:Nat):Int)))-a))]) v (λH I=>∃(q:Option Addr) (m:Nat) (n:Nat),H= .slice q m n/\((0:Int)<=a/\(a:Int)<=((m:Nat):Int)/\aG j (Builtin.copy_ #[g,g] tn #[.slice (cG q (Int.toNat a) n k) (m-Int.toNat a) (n-Int.toNat a),.slice o b p]) I (λJ K=>∃(L:Int),J= XH L/\(∀x,bd K x->((0:Int)<=(IntKind.wrap .i64 (a+((b:Nat):Int)))/\((IntKind.wrap .i64 (a+((b:Nat):Int))):Int)<=((m:Nat):Int)/\((0:Int)<=a/\(a:Int)<=((c:Nat):Int)/\aG j (Builtin.copy_ #[g,g] tn #[.slice (cG q (Int.toNat (IntKind.wrap .i64 (a+((b:Nat):Int)))) n k) (m-Int.toNat (IntKind.wrap .i64 (a+((b:Nat):Int)))) (n-Int.toNat (IntKind.wrap .i64 (a+((b:Nat):Int)))),.slice (cG i (Int.toNat a) d k) (c-Int.toNat a) (d-Int.toNat a)]) x (λM N=>∃(O:Int),M= XH O/\h (.returned (.slice q m n)) N) (λf l=>∀(_:bG) (_:cC),h (.panicked [{v:=f,recovered:=false}]) l))))) (λf e=>h (.panicked [{v:=f,recovered:=false}]) e))) (λf e=>h (.panicked [{v:=f,recovered:=false}]) e))) (((0:Int)<=(IntKind.wrap .i64 (((c:Nat):Int)+((b:Nat):Int)))/\((IntKind.wrap .i64 (((c:Nat):Int)+((b:Nat):Int))):Int)<=((d:Nat):Int)/\((0:Int)<=(IntKind.wrap .i64 (a+((b:Nat):Int)))/\((IntKind.wrap .i64 (a+((b:Nat):Int))):Int)<=(((Int.toNat (IntKind.wrap .i64 (((c:Nat):Int)+((b:Nat):Int)))):Nat):Int)/\RF j B #[.slice o b p,.slice (cG i (Int.toNat (IntKind.wrap .i64 (a+((b:Nat):Int)))) d k) ((Int.toNat (IntKind.wrap .i64 (((c:Nat):Int)+((b:Nat):Int))))-Int.toNat (IntKind.wrap .i64 (a+((b:Nat):Int)))) (d-Int.toNat (IntKind.wrap .i64 (a+((b:Nat):Int))))] v (λP y=>∃(z:Bool),P= .bool z/\al (!z) ((∀A,bd y A->((0:Int)<=(IntKind.wrap .i64 (a+((b:Nat):Int)))/\((IntKind.wrap .i64 (a+((b:Nat):Int))):Int)<=(((Int.toNat (IntKind.wrap .i64 (((c:Nat):Int)+((b:Nat):Int)))):Nat):Int)/\((0:Int)<=a/\(a:Int)<=(((Int.toNat (IntKind.wrap .i64 (((c:Nat):Int)+((b:Nat):Int)))):Nat):Int)/\aG j (Builtin.copy_ #[g,g] tn #[.slice (cG i (Int.toNat (IntKind.wrap .i64 (a+((b:Nat):Int)))) d k) ((Int.toNat (IntKind.wrap .i64 (((c:Nat):Int)+((b:Nat):Int))))-Int.toNat (IntKind.wrap .i64 (a+((b:Nat):Int)))) (d-Int.toNat (IntKind.wrap .i64 (a+((b:Nat):Int)))),.slice (cG i (Int.toNat a) d k) ((Int.toNat (IntKind.wrap .i64 (((c:Nat):Int)+((b:Nat):Int))))-Int.toNat a) (d-Int.toNat a)]) A (λQ R=>∃(S:Int),Q= XH S/\((0:Int)<=a/\(a:Int)<=(((Int.toNat (IntKind.wrap .i64 (((c:Nat):Int)+((b:Nat):Int)))):Nat):Int)/\aG j (Builtin.copy_ #[g,g] tn #[.slice (cG i (Int.toNat a) d k) ((Int.toNat (IntKind.wrap .i64 (((c:Nat):Int)+((b:Nat):Int))))-Int.toNat a) (d-Int.toNat a),.slice o b p]) R (λT vC=>∃(U:Int),T= XH U/\h (.returned (.slice i (Int.toNat (IntKind.wrap .i64 (((c:Nat):Int)+((b:Nat):Int)))) d)) vC) (λf e=>h (.panicked [{v:=f,recovered:=false}]) e))) (λf l=>∀(_:bG) (_:cC),h (.panicked [{v:=f,recovered:=false}]) l))))) (((0:Int)<=((c:Nat):Int)/\(((c:Nat):Int):Int)<=(((Int.toNat (IntKind.wrap .i64 (((c:Nat):Int)+((b:Nat):Int)))):Nat):Int)/\aG j (Builtin.copy_ #[g,g] tn #[.slice (cG i (Int.toNat ((c:Nat):Int)) d k) ((Int.toNat (IntKind.wrap .i64 (((c:Nat):Int)+((b:Nat):Int))))-Int.toNat ((c:Nat):Int)) (d-Int.toNat ((c:Nat):Int)),.slice o b p]) y (λV W=>∃(X:Int),V= XH X/\((0:Int)<=a/\(a:Int)<=(((Int.toNat (IntKind.wrap .i64 (((c:Nat):Int)+((b:Nat):Int)))):Nat):Int)/\PC j r #[.slice (cG i (Int.toNat a) d k) ((Int.toNat (IntKind.wrap .i64 (((c:Nat):Int)+((b:Nat):Int))))-Int.toNat a) (d-Int.toNat a),XH ((b:Nat):Int)] W (λY Z=>Y= .tuple #[]/\h (.returned (.slice i (Int.toNat (IntKind.wrap .i64 (((c:Nat):Int)+((b:Nat):Int)))) d)) Z) (λch e=>h (.panicked ch) e))) (λf e=>h (.panicked [{v:=f,recovered:=false}]) e)))) (λf e=>h (.panicked [{v:=f,recovered:=false}]) e))))) (λf e=>h (.panicked [{v:=f,recovered:=false}]) e))))
def Es(n:Program)(g q:TypeId)(o:Nat)(j:Option Addr)(a d:Nat)(e b:Int)(h:World)(i:Ending->World->Prop):Prop:=
 ((0:Int)<=e/\(e:Int)<=b/\(b:Int)<=((a:Nat):Int)/\(((a:Nat):Int):Int)<=((d:Nat):Int)/\al ((e:Int)==b) (i (.returned (.slice j a d)) h) ((∀p,bd h p->((0:Int)<=e/\(e:Int)<=((d:Nat):Int)/\((0:Int)<=b/\(b:Int)<=((a:Nat):Int)/\aG n (Builtin.append_ #[g,g] g #[.slice j (Int.toNat e) d,.slice (cG j (Int.toNat b) d o) (a-Int.toNat b) (d-Int.toNat b)]) p (λr s=>∃(k:Option Addr) (c:Nat) (f:Nat),r= .slice k c f/\((0:Int)<=((c:Nat):Int)/\(((c:Nat):Int):Int)<=((a:Nat):Int)/\(((a:Nat):Int):Int)<=((f:Nat):Int)/\aG n (Builtin.clear_ #[g] q #[.slice (cG k (Int.toNat ((c:Nat):Int)) f o) (Int.toNat ((a:Nat):Int)-Int.toNat ((c:Nat):Int)) (f-Int.toNat ((c:Nat):Int))]) s (λu t=>i (.returned (.slice k c f)) t) (λl h=>i (.panicked [{v:=l,recovered:=false}]) h))) (λl m=>∀(_:bG) (_:cC),i (.panicked [{v:=l,recovered:=false}]) m))))))
def qp(a:World)(b:Nat)(c:Array Value):ak (·=b) a (a.setRow b c):=by
 refine⟨rfl,rfl,rfl,by simp[World.setRow],λd g e=>?_⟩;show(a.heap.modify b _)[d]? =_;rw[Array.getElem?_modify,if_neg (λf=>e f.symm)]
variable{d2:Addr}{n:Array Value}{s:Ending->World->Prop}{a2 e8:List Value}{C a c i k:Nat}{f:Nat->Prop}{d:Option Addr}{h:Program}{j:Type}{B c0 g q:TypeId}{p u:Value->World->Prop}{b:World}
def LJ{m bytes:Nat}(s:jC h g q m bytes){d i e j c f n:Nat}{a:Array Value}{cs:List Value}(o:b.heap[d]? =some (.cells a c0 (0,0)))(v:Nat.min c e=n)(w:cs.length=n*m)(x:∀t k,cs[t]? =some k->b.cell? (d2.add t)=some k)(y:i+cs.length<=a.size)(z:∀k∈cs,k.oneCell'=true)(r:∀l,l.heap[d]? =some (.cells (a.toList.take i++cs++a.toList.drop (i+cs.length)).toArray c0 (0,0))->ak (·=d) b l->l.heap.size=b.heap.size->p (XH (n:Int)) l):
  aG h (Builtin.copy_ #[g,g] B #[.slice (some ⟨d,i,none⟩) e j,.slice (some d2) c f]) b p u:=by
 obtain⟨H,I,A,J,C,K,L⟩:=jC.info s;have E:=run_firstCells_some (P:=h) b m n d2 c f cs w x;have F:=run_storeCells_at h d i c0 cs 0 a b o (by simpa using y) z;refine aG.mk (w':=b.setRow d (a.toList.take i++cs++a.toList.drop (i+cs.length)).toArray) ?_ (r _ (setRow_heap b d a _ c0 (0,0) o) (qp b d _) ?_)
 ·simp[Builtin.copy_,run_underlying s.under,Builtin.lenOf,sizeOf,typeInfo,A,C,v,E,F,goInt]
 ·have M:=ax o
  simp[World.setRow]
def bu.drop{e:Type}{b:jo e}{f:World}{D:Nat->Prop}:∀{c:List e} {cs:List Value},bu b f D c cs->∀(a:Nat),bu b f D (c.drop a) (cs.drop (a*b.k))
 |c,cs,d,0=>by simpa using d
 |[],cs,d,a+1=>by
  have:cs=[]:=d;subst this;simp[bu]
 |x::c,cs,⟨k,l,h,i,j⟩,a+1=>by
  subst h;have g:=b.len i;rw[List.drop_succ_cons,X7,Nat.one_mul,Nat.add_comm,<-List.drop_drop,<-g,List.drop_left];rw[g];exact bu.drop j a
def fq(b:k≠i):cG (some ⟨a,c,none⟩) i k C=some ⟨a,c+i*C,none⟩:=by
 unfold cG;rw[if_neg b];simp[Addr.add_lit]
def Nh{cs news ROW:List Value}{A B C k:Nat}(f:cs.length=B)(g:news.length=k)(h:A<=B)(i:ROW.length=C)(j:B+k<=C)(c:ROW.take A=cs.take A)(a:a2=ROW.take A++news++ROW.drop (A+k))(b:e8=a2.take (A+k)++cs.drop A++a2.drop (A+k+(B-A))):a2.length=C/\e8.length=C/\e8.take (B+k)=cs.take A++news++cs.drop A:=by
 have d:a2.length=C:=by rw[a];simp;omega
 have e:a2.take (A+k)=cs.take A++news:=by
  rw[a,c,List.take_append_of_le_length (by simp;omega),Qz (by simp;omega)]
 refine⟨d,by rw[b];simp;omega,?_⟩;rw[b,e,List.take_append_of_le_length (by simp;omega),Qz (by simp;omega)]
def Ku{cs news cur:List Value}{A B C k:Nat}(g:cs.length=B)(h:news.length=k)(i:A<=B)(j:cur.length=C)(l:B+k<=C)(c:cur.take A=cs.take A)(a:a2=cur.take (A+k)++cs.drop A++cur.drop (A+k+(B-A)))(b:e8=a2.take A++news++a2.drop (A+k)):a2.length=C/\e8.length=C/\e8.take (B+k)=cs.take A++news++cs.drop A:=by
 have d:a2.length=C:=by rw[a];simp;omega
 have e:a2.take A=cs.take A:=by
  rw[a,XQ,List.take_append_of_le_length (by simp;omega),List.take_take,X2 oM,c]
 have f:a2.drop (A+k)=cs.drop A++cur.drop (A+k+(B-A)):=by
  rw[a,XQ,List.drop_left' (by simp;omega)]
 refine⟨d,by rw[b];simp;omega,?_⟩;rw[b,e,f,<-XQ,List.take_append_of_le_length (by simp;omega),Qz (by simp;omega)]
def GN.own{z tn e:TypeId}{k bytes:Nat}{ov V:FuncId}(r:jC h z e k bytes)(b2:h.underlying tn=some (.int .i64))(b3:∀v b,(callFunc ov v).run h b=((Extern.SlicesOverlaps.overlaps #[z,z] #[g] v).run h b).andThen λo m=>.ok (.value o) m){n c a A:Nat}{cs:List Value}{f:Array Value}(B:Own b e k d n c cs)(hi:a<=n)(C:b.heap[A]? =some (.cells f e (0,0)))(J:f.size=k)(W:∀o∈f.toList,o.oneCell'=true)(h1:∀o∈cs,o.oneCell'=true)(b4:aF d≠some A)(O:(n+1)*bytes<=aK)(hm:n+1<=maxLen)(X:∀F w m,Own m e k F (n+1) w (cs.take (a*k)++f.toList++cs.drop (a*k))->ak (λH=>aF d=some H) b m->(aF F=aF d\/aF F=some b.heap.size)->s (.returned (.slice F (n+1) w)) m):
  GN h z tn k ov V d n c a (ZX A) 1 1 b s:=by
 have hk:=r.pos;obtain⟨P,Y,a6,hz,hs,a7,b5⟩:=jC.info r;have x:=B.length;have d5:=Own.PI B;unfold aK at O;unfold maxLen at hm;have b6:IntKind.wrap .i64 ((n:Int)+((1:Nat):Int))=((n+1:Nat):Int):=by rw[wrap_i64 (by unfold aH;omega)];simp
 have b7:IntKind.wrap .i64 ((a:Int)+((1:Nat):Int))=((a+1:Nat):Int):=by rw[wrap_i64 (by unfold aH;omega)];simp
 unfold GN;rw[b6,b7];simp only[Qx];refine⟨oM,oM,al.ff rfl (al.dA (λhe=>?_) (λd6=>?_))⟩
 ·
  obtain rfl:a=n:=oM
  refine yT r (news:=f.toList) B C (by rw[Qz (by simp[J])]) (by simp[J]) W (by unfold aK;omega) (by unfold maxLen;omega) λF c' K b8 b9 c4=>⟨_,_,_,rfl,X F c' K ?_ (b9.mono λH _ e=>e.symm) c4⟩
  rw[Qz oM,List.drop_of_length_le oM,List.append_nil];exact b8
 have c5:a<n:=oM
 rcases B.cases with⟨_,h0,_,_⟩|⟨y,cur,rfl,I,c6,Z,a1⟩
 ·omega
 have a5:y≠A:=λe=>b4 (by rw[e];rfl);have a2:a*k<=n*k:=Q0 _ hi;have d7:(a+1)*k<=n*k:=Q0 _ c5;have e1:(a+1)*k=a*k+k:=by rw[X7,Nat.one_mul]
 have e2:(n+1)*k=n*k+k:=by rw[X7,Nat.one_mul]
 have d8:n*k<=c*k:=Q0 _ c6;have c8:∀l,l<=n*k->cur.toList.take l=cs.take l:=λl i=>by rw[<-a1,List.take_take,X2 i]
 have a0:∀m:World,m.heap[y]? =some (.cells cur e (0,0))->∀l p,cs[l]? =some p->m.cell? ⟨y,l,none⟩=some p:=λm E l p i=>by
  refine ae E ?_;rw[<-a1,Xw]at i;split at i
  ·simpa using i
  ·cases i
 have q:(cs.drop (a*k)).length=(n-a)*k:=by rw[XZ,x,Nat.sub_mul]
 have u:f.toList.length=1*k:=by simp[J]
 have a3:c<=maxLen:=by
  obtain⟨_,cp,_,Q,_,_,_,a3,_⟩:=B.row.2.resolve_left (by rintro⟨B,_⟩;cases B);simp only[XX]at Q;rw[Q.2.2];exact a3
 have a8:∀m:World,m.heap[A]? =some (.cells f e (0,0))->∀l p,f.toList[l]? =some p->m.cell? ((⟨A,0,none⟩:Addr).add l)=some p:=λm E l p i=>by
  rw[Addr.add_lit,Xz];exact ae E (by simpa using i)
 refine aG.mk (v:=XH (c:Int)) (w':=b) (by simp[Builtin.cap_,run_underlying r.under,goInt]) ⟨_,rfl,al.dec (λd9=>?_) (λe0=>?_)⟩
 ·
  have a4:c=n:=oM
  have c9:IntKind.wrap .i64 (((n+1:Nat):Int)-(a:Int))=((n+1-a:Nat):Int):=by rw[wrap_i64 (by unfold aH;omega)];omega
  rw[c9];have c0:(Builtin.firstCells P.size a (.slice (ZX y) a c)).run h b.drew= .ok (cs.take (a*k)).toArray b.drew:=by
   rw[hs];exact run_firstCells_some b.drew k a ⟨y,0,none⟩ a c (cs.take (a*k)) (by rw[Qy,x];omega) (λl o i=>by
    rw[Addr.add_lit,Xz];rw[Xw]at i;split at i
    ·exact a0 b.drew I l o i
    ·cases i)
  have R:=Lib.run_append_grow_zeros (P:=h) b z tn z e P Y .i64 .i64 r.under b2 a6 hz (ZX y) a c (cs.take (a*k)) c0 (n+1-a) oM oM oM oM (by rw[a7];have:(n+1-a)*bytes<=(n+1)*bytes:=Q0 _ oM;omega)
   (by rw[a7,show a+(n+1-a)=n+1 by omega];exact growslice_fits oM O)
  rw[show a+(n+1-a)=n+1 by omega]at R;have hG:=grownCap_ge b (n+1) c e;have b0:=grownCap_le_maxLen b (n+1) c e (by unfold maxLen;omega);generalize grownCap b (n+1) c e=G at R hG b0;have e3:(n+1)*k<=G*k:=Q0 _ hG;generalize a9:(cs.take (a*k)).toArray++Builtin.zeroCells Y.cells (n+1-a)++Builtin.zeroCells Y.cells (G-(n+1))=j at R;have S:j.size=G*k:=by
   rw[<-a9];simp only[Array.size_append,List.size_toArray,Qy,x,Builtin.zeroCells,Array.size_map,Array.size_range,b5];rw[Nat.sub_mul,Nat.sub_mul];omega
  have Q:(cs.take (a*k)).length=a*k:=by rw[Qy,x];omega
  have c7:j.toList.take (a*k)=cs.take (a*k):=by
   rw[<-a9];simp only[Array.toList_append,XQ];rw[List.take_left' Q]
  have e4:=ax I;have e5:=ax C;have kd:ai b (b.drew.alloc (.cells j e)):=(ak.drewN b 1).then (ak.alloc _ _);have b1:(b.drew.alloc (.cells j e)).heap[b.heap.size]? =some (.cells j e (0,0)):=heap_alloc_new b.drew _;have d0:(b.drew.alloc (.cells j e)).heap.size=b.heap.size+1:=by
   rw[show b.heap.size=b.drew.heap.size from rfl];generalize b.drew=wd;simp
  refine⟨oM,oM,aG.mk R ?_⟩;generalize b.drew.alloc (.cells j e)=L at b1 kd d0;refine⟨_,_,_,rfl,oM,oM,?_⟩;have t:(n-a)*k=n*k-a*k:=Nat.sub_mul ..;have d2:=Nh (cs:=cs) (news:=f.toList) (ROW:=j.toList) (A:=a*k) (B:=n*k) (C:=G*k) (k:=k) x (by simp[J]) a2 (by simp[S]) oM c7 rfl rfl;obtain⟨c1,c2,c3⟩:=d2;rw[fq (show G≠a by omega)];refine LJ r b1 (n:=1) (by simp only[Nat.min_def];split<;>omega) u (a8 L (kd.get C id)) (by rw[u,S];omega) W λw2 g2 M s2=>⟨_,rfl,λK d3=>?_⟩
  have N:ai w2 K:=d3.af;have T:=N.get g2 id;have d4:=N.get (M.get (kd.get I id) oM) id;refine⟨oM,oM,oM,oM,?_⟩;rw[fq (show G≠a+1 by omega),fq (show c≠a by omega)];simp only[Xz,u,Nat.one_mul]at T⊢;rw[e1];refine LJ r T (n:=n-a) (by simp only[Nat.min_def];split<;>omega) q (λl p i=>?_) (by rw[List.size_toArray,c1,q,t];omega) (λo hv=>h1 o (List.mem_of_mem_drop hv)) λw4 g4 k4 s4=>⟨_,rfl,X _ _ _ ⟨⟨?_,.inr ⟨b.heap.size,G,_,rfl,Qj _,g4,hG,b0,?_,?_⟩⟩⟩ ?_ (.inr rfl)⟩
  ·rw[Addr.add_lit]
   rw[List.getElem?_drop]at i;exact a0 K d4 _ p i
  ·simp only[QX,Qy,x,u,q,t];omega
  ·rw[q,t,List.size_toArray];exact c2
  ·rw[q,t,e2];exact c3
  ·exact ai.af ((kd.new M λH O=>.inr oM).then N|>.new k4 λH O=>.inr oM)
 ·
  have e6:P=P:=rfl;have a4:n+1<=c:=oM
  have t:(n-a)*k=n*k-a*k:=Nat.sub_mul ..;have e7:(n+1)*k<=c*k:=Q0 _ a4;obtain⟨c1,c2,c3⟩:=Ku (cs:=cs) (news:=f.toList) (cur:=cur.toList) (A:=a*k) (B:=n*k) (C:=c*k) (k:=k) x (by simp[J]) a2 (by simp[Z]) oM (c8 _ a2) rfl rfl;rw[fq (show c≠a+1 by omega),fq (show c≠a by omega)];refine⟨oM,oM,oM,oM,_,b3 _,aG.mk (v:=.bool false) (w':=b) ?_ ⟨_,rfl,al.tt rfl λL d1=>?_⟩⟩
  ·have S:∀b,(sizeOf e).run h b= .ok k b:=λb=>by simp[sizeOf,typeInfo,a6,hs]
   refine Lib.run_overlaps_apart (P:=h) b z g e r.under k S ⟨A,0,none⟩ ⟨y,0+(a+1)*k,none⟩ 1 1 _ _ (λe=>a5 e.symm) e e f.size cur.size (by simp[World.shape?,C]) (by simp[World.shape?,I]) (by rw[Z];omega) ?_ ?_
   ·simp[World.frozen?,C]
   ·simp[World.frozen?,C]
  have U:ai b L:=d1.af;have s1:L.heap.size=b.heap.size:=by rw[d1.heap]
  refine⟨oM,oM,oM,oM,?_⟩;simp only[Xz,e1];refine LJ r (U.get I id) (n:=n-a) (by simp only[Nat.min_def];split<;>omega) q (λl p i=>?_) (by rw[Z,q,t];omega) (λo hv=>h1 o (List.mem_of_mem_drop hv)) λw2 g2 M s2=>⟨_,rfl,oM,oM,?_⟩
  ·rw[Addr.add_lit]
   rw[List.getElem?_drop]at i;exact a0 L (U.get I id) _ p i
  refine LJ r g2 (n:=1) (by simp only[Nat.min_def];split<;>omega) u (a8 w2 (M.get (U.get C id) (λe=>a5 e.symm))) (by rw[List.size_toArray,q,t,c1,u];omega) W λK T N s3=>⟨_,rfl,X _ _ _ ⟨⟨?_,.inr ⟨y,c,_,rfl,Qj _,T,a4,a3,?_,?_⟩⟩⟩ ?_ (.inl rfl)⟩
  ·simp only[QX,Qy,x,u,q,t];omega
  ·simp only[q,t,u,Nat.one_mul];rw[List.size_toArray];exact c2
  ·simp only[q,t,u,Nat.one_mul];rw[e2];exact c3
  ·exact((ai.af U).then (M.mono λH _ e=>by rw[e];rfl)).then (N.mono λH _ e=>by rw[e];rfl)
def GN.one{j:Program}{s tn t:TypeId}{bytes:Nat}{I z:FuncId}{A:Type}{c:jo A}(J:jC j s t c.k bytes)(N:j.underlying tn=some (.int .i64)){tb:TypeId}(O:∀g e,(callFunc I g).run j e=((Extern.SlicesOverlaps.overlaps #[s,s] #[tb] g).run j e).andThen λC h=>.ok (.value C) h){e:World}{k:Option Addr}{l m i E:Nat}{n:Array Value}{F D:Nat->Prop}{o:List A}{x:A}(p:aO c t F e k l m o)(P:i<=l)(Q:e.heap[E]? =some (.cells n t (0,0)))(H:c.rep e D x n.toList)(u:∀a,D a->a<e.heap.size/\aF k≠some a)(S:aF k≠some E)(b:(o.length+1)*bytes<=aK)(T:o.length+1<=maxLen){R:Ending->World->Prop}(U:∀v d h K,aO c t K h v (l+1) d (o.take i++x::o.drop i)->ak (λa=>aF k=some a) e h->(∀a,K a->F a\/D a\/e.heap.size<=a)->R (.returned (.slice v (l+1) d)) h):
  GN j s tn c.k I z k l m i (ZX E) 1 1 e R:=by
 have L:=p.len J.pos;obtain⟨cs,V,W,M,w⟩:=p.body;have X:=c.len H;refine GN.own J N O W P Q (by simpa using X) (c.one H) (λC Y=>M.PJ C Y) S (by rw[L];exact b) (by rw[L];exact T) λv d h q y B=>?_;have a0:=y.size;refine U v d h (λa=>F a\/D a\/(e.heap.size<=a/\a<h.heap.size)) ⟨⟨_,λa=>V a\/D a,q,?_,?_⟩,?_,?_⟩ y ?_
 ·rw[XQ]
  have r:=(M.af y λa b=>(w a b).2)
  exact bu.append ((r.take i).mono λa b=>.inl b) (bu.append (xs:=[x]) (bu.one (c.mono (c.af H y λa b=>(u a b).2) λa b=>.inr b)) ((r.drop i).mono λa b=>.inl b))
 ·intro a b
  have a1:a<e.heap.size:=b.elim (λf=>p.aB a (w a f).1) λf=>(u a f).1;refine⟨b.elim (λf=>.inl (w a f).1) λf=>.inr (.inl f),?_⟩;rcases B with B|B
  ·rw[B];exact b.elim (λf=>(w a f).2) λf=>(u a f).2
  ·rw[B];intro Z;cases Z;omega
 ·intro a b
  rcases B with B|B
  ·exact .inl (p.self a (B▸b))
  ·have:=q.lt b
   rw[B]at b;cases b;exact .inr (.inr ⟨oM,this⟩)
 ·rintro a (b|b|b)
  ·have:=p.aB a b;omega
  ·have:=(u a b).1;omega
  ·exact b.2
 ·rintro a (b|b|b)
  ·exact .inl b
  ·exact .inr (.inl b)
  ·exact .inr (.inr b.1)
def Ml(a:Program)(b:TypeId):Bool:=match(a.info? b).bind (·.zero)with
 |some c=>c.cells.toList.all (·.oneCell')
 |none=>false
def PK{f bytes:Nat}(l:jC h g q f bytes)(m:Ml h q=true)(t:b.heap[a]? =some (.cells n c0 (0,0)))(w:c+i*f<=n.size)(j:∀o d,o.heap[a]? =some (.cells d c0 (0,0))->d.size=n.size->d.toList.take c=n.toList.take c->ak (·=a) b o->o.heap.size=b.heap.size->p (.tuple #[]) o):
  aG h (Builtin.clear_ #[g] B #[.slice (some ⟨a,c,none⟩) i k]) b p u:=by
 obtain⟨J,e,x,y,K,L,v⟩:=jC.info l;have C:∀r∈e.cells.toList,r.oneCell'=true:=by
  unfold Ml at m;rw[x]at m;simp only[Option.bind_some,y,List.all_eq_true]at m;exact m
 cases i with
 |zero=>exact aG.mk (w':=b) (by simp[Builtin.clear_,run_underlying l.under]) (j b n t rfl rfl (ak.refl _) rfl)
 |succ i=>
  have z:(Builtin.zeroCells e.cells (i+1)).toList.length=(i+1)*f:=by simp[Builtin.zeroCells,v]
  have E:∀r∈(Builtin.zeroCells e.cells (i+1)).toList,r.oneCell'=true:=by
   intro r s;simp only[Builtin.zeroCells,Array.toList_map,Xk,v]at s;obtain⟨A,-,rfl⟩:=s;have F:A % f<e.cells.size:=by rw[v];exact Nat.mod_lt _ l.pos
   rw[getElem!_pos e.cells (A % f) F];exact C _ sM
  have H:=run_storeCells_at h a c c0 _ 0 n b t (by rw[z];simpa using w) E;have s:(zeroValue q).run h b= .ok e b:=by simp[zeroValue,typeInfo,x,y]
  refine aG.mk (w':=b.setRow a (n.toList.take c++(Builtin.zeroCells e.cells (i+1)).toList++n.toList.drop (c+(Builtin.zeroCells e.cells (i+1)).toList.length)).toArray) ?_ (j _ _ (setRow_heap b a n _ c0 (0,0) t) ?_ ?_ (qp b a _) ?_)
  ·simp[Builtin.clear_,run_underlying l.under,s,H]
  ·have I:n.size=n.toList.length:=sM
   simp only[List.size_toArray,QX,Qy,XZ,z];rw[I]at w⊢;omega
  ·rw[XQ,List.take_left']
   simp;omega
  ·simp[World.setRow]
def Es.own{e bytes:Nat}(p:jC h g B e bytes)(Q:Ml h B=true){cs:List Value}(n:Own b B e d a c cs)(R:i<a)(S:∀l∈cs,l.oneCell'=true)(T:a<=maxLen)(U:∀t,Own t B e d (a-1) c (cs.take (i*e)++cs.drop ((i+1)*e))->ak (λu=>aF d=some u) b t->s (.returned (.slice d (a-1) c)) t):
  Es h g q e d a c i (IntKind.wrap .i64 ((i:Int)+1)) b s:=by
 have hk:=p.pos;obtain⟨iT,a5,V,hz,W,b2,b3⟩:=jC.info p;have r:=n.length;unfold maxLen at T;rcases n.cases with⟨_,h0,_,_⟩|⟨j,f,rfl,X,Y,H,I⟩
 ·omega
 have v:c<=maxLen:=by
  obtain⟨_,cp,_,J,_,_,_,v,_⟩:=n.row.2.resolve_left (by rintro⟨n,_⟩;cases n);simp only[XX]at J;rw[J.2.2];exact v
 have Z:IntKind.wrap .i64 ((i:Int)+1)=((i+1:Nat):Int):=by rw[wrap_i64 (by unfold aH;omega)];simp
 have a6:i*e<=a*e:=Q0 _ oM;have b1:(i+1)*e<=a*e:=Q0 _ R;have e1:(i+1)*e=i*e+e:=by rw[X7,Nat.one_mul]
 have e3:(a-1)*e=a*e-e:=by rw[Nat.sub_mul,Nat.one_mul]
 have e4:(a-(i+1))*e=a*e-(i+1)*e:=Nat.sub_mul ..;have a7:a*e<=c*e:=Q0 _ Y;unfold Es;rw[Z];simp only[Qx];refine⟨oM,oM,oM,oM,al.dA (λhe=>oM) (λw k K=>⟨oM,oM,oM,oM,?_⟩)⟩;have L:ai b k:=K.af;have s1:k.heap.size=b.heap.size:=by rw[K.heap]
 have x:=L.get X id;have y:(cs.drop ((i+1)*e)).length=(a-(i+1))*e:=by rw[XZ,r,Nat.sub_mul]
 have z:∃o,cG (ZX j) (i+1) c e=some ⟨j,o,none⟩/\(a≠i+1->o=(i+1)*e):=by
  by_cases M:c=i+1
  ·exact⟨0,by unfold cG;rw[if_pos M],λw=>oM⟩
  ·exact⟨_,fq M,λ_=>oM⟩
 obtain⟨o,z,a8⟩:=z;rw[z];have a0:∀A l,(cs.drop ((i+1)*e))[A]? =some l->k.cell? ((⟨j,o,none⟩:Addr).add A)=some l:=λA l m=>by
  have a9:=(Qv.1 m).1;have w:a≠i+1:=by
   intro B;rw[y,B,Nat.sub_self,Nat.zero_mul]at a9;omega
  rw[a8 w,Addr.add_lit];rw[List.getElem?_drop]at m;refine ae x ?_;rw[<-I,Xw]at m;split at m
  ·simpa using m
  ·cases m
 have hf:=run_firstCells_some (P:=h) k e (a-(i+1)) ⟨j,o,none⟩ (a-(i+1)) (c-(i+1)) _ y a0;have N:=run_storeCells_at h j (i*e) B (cs.drop ((i+1)*e)) 0 f k x (by rw[y,H];omega) (λl hv=>S l (List.mem_of_mem_drop hv));have a1:i+(a-(i+1))=a-1:=oM
 refine aG.mk (v:=.slice (ZX j) (a-1) c) (w':=k.setRow j (f.toList.take (i*e)++cs.drop ((i+1)*e)++f.toList.drop (i*e+(cs.drop ((i+1)*e)).length)).toArray) ?_ ⟨_,_,_,rfl,oM,oM,oM,?_⟩
 ·have a2:i+(a-(i+1))<=c:=oM
  have a3:a<=c+1:=oM
  simp only[Nat.add_zero]at N;simp[Builtin.append_,run_underlying p.under,sizeOf,typeInfo,V,W,Builtin.lenOf,a2,a3,hf,Addr.add_lit,N,a1]
 have C:=setRow_heap k j f (f.toList.take (i*e)++cs.drop ((i+1)*e)++f.toList.drop (i*e+(cs.drop ((i+1)*e)).length)).toArray B (0,0) x;have E:=qp k j (f.toList.take (i*e)++cs.drop ((i+1)*e)++f.toList.drop (i*e+(cs.drop ((i+1)*e)).length)).toArray;have b0:f.toList.length=c*e:=by simp[H]
 have F:(f.toList.take (i*e)++cs.drop ((i+1)*e)++f.toList.drop (i*e+(cs.drop ((i+1)*e)).length)).length=c*e:=by
  simp only[QX,Qy,XZ,r,b0];omega
 have O:(f.toList.take (i*e)++cs.drop ((i+1)*e)++f.toList.drop (i*e+(cs.drop ((i+1)*e)).length)).take ((a-1)*e)=cs.take (i*e)++cs.drop ((i+1)*e):=by
  rw[show f.toList.take (i*e)=cs.take (i*e) by rw[<-I,List.take_take,X2 a6]];rw[List.take_left'];simp only[QX,Qy,XZ,r];omega
 generalize f.toList.take (i*e)++cs.drop ((i+1)*e)++f.toList.drop (i*e+(cs.drop ((i+1)*e)).length)=R1 at C E F O;generalize k.setRow j R1.toArray=w2 at C E;rw[fq (show c≠a-1 by omega)];refine PK p Q C (by rw[List.size_toArray,F,show a-(a-1)=1 by omega];omega) λw3 a4 g3 c3 P k3 s3=>U w3 ⟨⟨?_,.inr ⟨j,c,a4,rfl,Qj _,g3,oM,v,?_,?_⟩⟩⟩ ?_
 ·simp only[QX,Qy,XZ,r];omega
 ·rw[c3,List.size_toArray,F]
 ·rw[Xz]at P;rw[P,O]
 ·exact((ai.af L).then (E.mono λu _ B=>by rw[B];rfl)).then (k3.mono λu _ B=>by rw[B];rfl)
def Es.one{r tz m:TypeId}{bytes:Nat}{c:jo j}(v:jC h r m c.k bytes)(w:Ml h m=true){e a g:Nat}{s:List j}(n:aO c m f b d e a s)(x:g<e)(y:e<=maxLen){R:Ending->World->Prop}(z:∀i,aO c m f i d (e-1) a (s.eraseIdx g)->ak (λk=>aF d=some k) b i->R (.returned (.slice d (e-1) a)) i):
  Es h r tz c.k d e a g (IntKind.wrap .i64 ((g:Int)+1)) b R:=by
 obtain⟨cs,A,B,t,u⟩:=n.body;refine Es.own v w B x t.PJ y λi o p=>z i ⟨⟨_,A,o,?_,u⟩,n.self,λk q=>Qk (n.aB k q) p.size⟩ p;have l:=(t.af p λk q=>(u k q).2)
 rw[List.eraseIdx_eq_take_drop_succ];exact bu.append (l.take g) (l.drop (g+1))
end Go.ar
namespace Go.Proofs.YtjgjkeponbeekaaGreatDoor
open Go.ar
variable{e:Int}{t:List Int}{c7:List bf}{a9:List cD}{a c i k:Nat}{f:Nat->Prop}{d:Option Addr}{j:Type}{b:World}{y:World->Prop}{c6:bf}
def pG{e:List (Bx cD)}{D:Nat->Prop}(g:Row jU.jk 32 b D d a e)(h:∀f,D f->f<b.heap.size):Calls XP 253 #[.slice d a c] b (Ok (py jU.jk 78 b e)):=
 gJ (vK OA dC g h λj k i=>Ok.mk i)
def Rp(n:aO aJ 3 f b d a c t)(r:i<=a)(s:b.heap[k]? =some (.cells #[XH e] 3 (0,0)))(u:aH e)(v:¬f k)(A:t.length<1000000):
  Calls XP 312 #[.slice d a c,XH (i:Int),.slice (ZX k) 1 1] b (Ok λw o=>∃h j l,w= .slice h (a+1) j/\aO aJ 3 l o h (a+1) j (t.take i++e::t.drop i)/\bK f b l o):=by
 refine mz (GN.one (c:=aJ) (tb:=4) (x:=e) (D:=λ_=>False) tQ kR ?_ n r s ⟨rfl,u⟩ (λm g=>g.elim) (λx=>v (n.self k x)) (by unfold aK;omega) (by unfold maxLen;omega) λh j o l p y z=>Ok.mk ⟨h,j,l,rfl,p,y.mono λm _ g=>n.self m g,λm g=>?_⟩)
 ·intro q b
  rw[run_callFunc_extern Tryz.func342 kR kR kR (e:=Extern.SlicesOverlaps.overlaps #[42,42] #[4]) kR]
 ·rcases z m g with g|g|g
  ·exact .inl g
  ·exact g.elim
  ·exact .inr g
def Rq(h:aO aJ 3 f b d a c t)(j:i<a)(o:a<1000000):
  Calls XP 313 #[.slice d a c,XH (i:Int),XH (IntKind.wrap .i64 ((i:Int)+1))] b (Ok λk e=>k= .slice d (a-1) c/\aO aJ 3 f e d (a-1) c (t.eraseIdx i)/\ak f b e):=
 mB (Es.one (c:=aJ) (tz:=0) tQ kR h j (by unfold maxLen;omega) λe g l=>Ok.mk ⟨rfl,g,l.mono λm _ n=>h.self m n⟩)
def Uw(c:bf)(a:cD)(b arg:Int):cD:=
 if b=1 then{a with n:=oD (a.n+arg)}else if b=2 then{a with n:=arg}else if b=3 then{a with set:=pB arg a.set}
 else if b=4 then{a with set:=a.set.filter λd=>d !=arg}else{a with n:=(c.bq.getD arg.toNat ⟨0,0,0,0⟩).ng}
def Tw{a b arg:Int}(c:1<=b)(d:b<=5):Rr c7 a9 a b arg=a9.set a.toNat (Uw (c7.getD a.toNat ⟨0,0,false,[]⟩) (a9.getD a.toNat ⟨0,[]⟩) b arg):=by
 have:b=1\/b=2\/b=3\/b=4\/b=5:=oM
 rcases this with rfl|rfl|rfl|rfl|rfl<;>rfl
section
variable {w w':World} {D E F:Nat->Prop} {f:bf} {ma ca:Option Addr} {mn mc cn cc i:Nat} {arg:Int} {L:List (Bx cD)} {bx:Bx cD}
structure jD (w:World) (ca:Option Addr) (cn cc:Nat) (L:List (Bx cD)) (i:Nat) (bx:Bx cD) (F:Nat->Prop):Prop where
 mf:aO jU.jk 78 (λb=>aF ca=some b) w ca cn cc L
 at':L[i]? =some bx
 set:aO aJ 3 F w bx.a bx.n bx.c bx.x.set
 ap:∀b,F b->¬aF ca=some b
 ok:aH bx.x.n/\vG bx.x.set/\bx.x.set.length<=64
 dN:L.length<=1000000
def jD.ah(a:jD w ca cn cc L i bx F)(b:ai w w'):jD w' ca cn cc L i bx F:=⟨a.mf.ah b,a.at',a.set.ah b,a.ap,a.ok,a.dN⟩
def jD.len(a:jD w ca cn cc L i bx F):i<cn:=by
 rw[a.mf.len dC];exact(Qv.1 a.at').1
def jD.cells(c:jD w ca cn cc L i bx F):∃a b,ca=some ⟨a,b,none⟩/\a<w.heap.size/\w.cell? ⟨a,b+i*2,none⟩=some (XH bx.x.n)/\w.cell? ⟨a,b+i*2+1,none⟩=some (.slice bx.a bx.n bx.c):=by
 obtain⟨a,b,g,e,f,h,d,rfl,-⟩:=(c.mf.row (bytes:=32) dC (by have:=c.dN;unfold aK;omega)).el i bx c.at';exact⟨a,b,e,f,d 0 dC,d 1 dC⟩
def pH(c:World)(ca:Option Addr)(cn cc:Nat)(L:List (Bx cD))(i:Nat)(F:Nat->Prop)(d:cD)(w':World):Prop:=
 ∃(a:Bx cD) (e:Nat->Prop),a.x=d/\aO jU.jk 78 (λb=>aF ca=some b) w' ca cn cc (L.set i a)/\aO aJ 3 e w' a.a a.n a.c d.set/\ak (λb=>aF ca=some b\/F b) c w'/\∀b,e b->F b\/c.heap.size<=b
def Ji{g w:World}(h:ai g w)(d:jD w ca cn cc L i bx F)(j:ca=some ⟨a,c,none⟩)(k:∀w',ak (λa=>aF ca=some a) w w'->pH g ca cn cc L i F {bx.x with n:=e} w'->y w'):
  PS w ⟨a,c+i*2,none⟩ (XH e) y:=by
 refine aO.set (j:=0) (x':=⟨{bx.x with n:=e},bx.a,bx.n,bx.c⟩) d.mf d.at' dC rfl j λl m f o=>k l f ⟨_,F,rfl,m,d.set.af f λa b n=>d.ap a b n,(ai.af h).then (f.mono λa _ b=>.inl b),λa b=>.inl b⟩
def OG{r e w:World}{l m:Nat}{h:Nat->Prop}(s:ai r e)(f:jD e ca cn cc L i bx F)(v:aO aJ 3 h w d l m t)(j:bK F e h w)(n:ca=some ⟨a,c,none⟩)(x:∀w',pH r ca cn cc L i F {bx.x with set:=t} w'->y w'):
  PS w ⟨a,c+i*2+1,none⟩ (.slice d l m) y:=by
 have o:aO jU.jk 78 (λa=>aF ca=some a) w ca cn cc L:=f.mf.af j.1 λa b k=>f.ap a k b;have A:=f.mf.aB a (by rw[n];rfl);have z:∀g,h g->¬aF ca=some g:=λg p q=>by
  rcases j.2 g p with k|k
  ·exact f.ap g k q
  ·rw[n]at q;simp only[aF,Q1]at q;omega
 have B:=s.size;refine aO.set (j:=1) (x':=⟨{bx.x with set:=t},d,l,m⟩) o f.at' dC rfl n λe o u C=>x e ⟨_,h,rfl,o,v.af u z,((ai.af s).then (j.1.mono λa _ b=>.inr b)).then (u.mono λa _ b=>.inl b),λa b=>(j.2 a b).imp id λb=>oM⟩
def do_1(a:jD w ca cn cc L i bx F):Calls XP 255 #[zK f ma mn mc ca cn cc (i:Int) arg] w (Ok λk w'=>k= .tuple #[]/\pH w ca cn cc L i F {bx.x with n:=oD (bx.x.n+arg)} w'):=by
 have l:=a.len;refine zN (PA.mk λm n x o=>λp q=>⟨λb=>aF ca=some b,?_⟩);have g:ai m p:=q.af;have h:=g.get o id;have e:=n.then g;obtain⟨b,r,c,s,t,y⟩:=(a.ah e).cells;have z:=a.mf.aB b (by rw[c];rfl);refine au (tP ..) h ⟨λj=>by rw[c]at j;simp only[aF,Q1]at j;omega,_,ae h rfl,PC.ok (gI c l) ?_⟩;rintro _ A ⟨rfl,d⟩;exact⟨_,rfl,ai.af d,_,_,rfl,_,(d.cell (a:=⟨b,r+i*2,none⟩) s id).trans t,_,_,rfl,Ji (e.then d) (a.ah (e.then d)) c λB u v=>⟨u,Ok.mk ⟨rfl,v⟩⟩⟩
def VS(a:jD w ca cn cc L i bx F):Calls XP 258 #[zK f ma mn mc ca cn cc (i:Int) arg] w (Ok λk w'=>k= .tuple #[]/\pH w ca cn cc L i F {bx.x with n:=arg} w'):=by
 have l:=a.len;refine zO (PA.mk λm n t o=>λp q=>⟨λc=>aF ca=some c,?_⟩);have g:ai m p:=q.af;have h:=g.get o id;have d:=n.then g;obtain⟨c,u,b,v,x,y⟩:=(a.ah d).cells;have z:=a.mf.aB c (by rw[b];rfl);refine au (tP ..) h ⟨λj=>by rw[b]at j;simp only[aF,Q1]at j;omega,_,ae h rfl,PC.ok (gI b l) ?_⟩;rintro _ A ⟨rfl,e⟩;exact⟨_,rfl,ai.af e,_,_,rfl,Ji (d.then e) (a.ah (d.then e)) b λB r s=>⟨r,Ok.mk ⟨rfl,s⟩⟩⟩
def VT(c:jD w ca cn cc L i bx F)(j:Row ix 32 w E ma mn f.bq)(p:∀b,E b->¬aF ca=some b)(J:0<=arg)(K:arg<(mn:Int)):Calls XP 263 #[zK f ma mn mc ca cn cc (i:Int) arg] w (Ok λq w'=>q= .tuple #[]/\pH w ca cn cc L i F {bx.x with n:=(f.bq.getD arg.toNat ⟨0,0,0,0⟩).ng} w'):=by
 have r:=c.len;refine zP (PA.mk λs t M u=>λv x=>⟨λb=>aF ca=some b,?_⟩);have k:ai s v:=x.af;have g:=k.get u id;have d:=t.then k;obtain⟨b,N,e,O,P,Q⟩:=(c.ah d).cells;have R:=c.mf.aB b (by rw[e];rfl);have S:=j.len;obtain⟨a,rfl⟩:∃a:Nat,arg=a:=⟨arg.toNat,oM⟩
 have l:a<f.bq.length:=oM
 obtain⟨m,y,T,z,U,A,B,rfl,-⟩:=(j.ah d).el a f.bq[a] (by simp[l]);have C:f.bq.getD a ⟨0,0,0,0⟩=f.bq[a]:=by simp[QQ,l]
 simp only[Qx,C];have n:¬aF ca=some w.heap.size:=λo=>by rw[e]at o;simp only[aF,Q1]at o;omega
 refine au (tP ..) g ⟨n,_,_,_,ae g rfl,n,_,ae g rfl,m,y,z,oM,oM,p m A,_,B 1 dC,PC.ok (gI e r) ?_⟩;rintro _ V ⟨rfl,h⟩;exact⟨_,rfl,ai.af h,_,_,rfl,Ji (d.then h) (c.ah (d.then h)) e λW H I=>⟨H,Ok.mk ⟨rfl,I⟩⟩⟩
def VU(a:jD w ca cn cc L i bx F)(x:aH arg):Calls XP 260 #[zK f ma mn mc ca cn cc (i:Int) arg] w (Ok λy w'=>y= .tuple #[]/\pH w ca cn cc L i F {bx.x with set:=pB arg bx.x.set} w'):=by
 have z:=a.len;obtain⟨-,c,S⟩:=a.ok;refine Jj (PA.mk λT n U o=>au (tP ..) o ?_);obtain⟨d,p,k,b,V,A⟩:=(a.ah n).cells;have W:=a.mf.aB d (by rw[k];rfl);refine PC.ok (gI k z) ?_;rintro _ B ⟨rfl,e⟩;refine⟨_,rfl,λq C=>?_⟩;have g:ai B q:=C.af;have h:=(n.then e).then g;have r:=g.get (e.get o id) id;have s:=((e.then g).cell (a:=⟨d,p+i*2+1,none⟩) b id).trans A;have t:=a.set.ah h;refine⟨_,_,rfl,_,_,_,s,_,ae r rfl,PC.ok (sH (t.row (bytes:=8) dC (by unfold aK;omega)) c) ?_⟩;rintro _ _ ⟨rfl,rfl⟩;have X:=a.set.len dC;refine⟨_,_,rfl,al.not (al.mk (λE=>Ok.mk ⟨rfl,?_⟩) (λH=>λI J=>?_))⟩
 ·have j:arg∈bx.x.set:=XV E
  refine⟨bx,F,by rw[tM j c],?_,by rw[tM j c];exact t,ai.af h,λd b=>.inl b⟩;have:L.set i bx=L:=by
   apply X3;intro Y;rw[Xj];split
   ·rename_i K;subst K;rw[if_pos (Qv.1 a.at').1,a.at']
   ·rfl
  rw[this];exact a.mf.ah h
 ·have j:arg∉bx.x.set:=Xy H
  have l:ai q I:=J.af;have M:=l.get r id;have u:=h.then l;refine⟨no,_,_,rfl,id,_,_,_,(l.cell (a:=⟨d,p+i*2+1,none⟩) (Qk b (e.then g).size) id).trans s,_,ae M rfl,PA.mk λZ v s5 N=>⟨ai.af v,?_⟩⟩;have m:=u.then v;have a1:=zD (λO=>decide (O<arg)) bx.x.set;have z4:=u.size;refine PC.ok (Rp (a.set.ah m) oM N x (λb=>by have:=a.set.aB _ b;omega) oM) ?_;rintro _ w6 ⟨a',c',F',rfl,P,Q⟩;rw[GH c j];exact⟨_,_,_,rfl,_,_,rfl,OG m (a.ah m) P Q k λw7 R=>Ok.mk ⟨rfl,R⟩⟩
def VV(a:jD w ca cn cc L i bx F):Calls XP 261 #[zK f ma mn mc ca cn cc (i:Int) arg] w (Ok λp w'=>p= .tuple #[]/\pH w ca cn cc L i F {bx.x with set:=bx.x.set.filter λq=>q !=arg} w'):=by
 have r:=a.len;obtain⟨-,k,J⟩:=a.ok;refine B_ (PA.mk λK l M m=>au (tP ..) m ?_);obtain⟨e,s,n,b,N,t⟩:=(a.ah l).cells;refine PC.ok (gI n r) ?_;rintro _ u ⟨rfl,g⟩;refine⟨_,rfl,λv x=>?_⟩;have h:ai u v:=x.af;have c:=(l.then g).then h;have y:=h.get (g.get m id) id;have o:=((g.then h).cell (a:=⟨e,s+i*2+1,none⟩) b id).trans t;have j:=a.set.ah c;refine⟨_,_,rfl,_,_,_,o,_,ae y rfl,PC.ok (sH (j.row (bytes:=8) dC (by unfold aK;omega)) k) ?_⟩;rintro _ _ ⟨rfl,rfl⟩;have O:=a.set.len dC;refine⟨_,_,rfl,al.mk (λz=>?_) (λA=>Ok.mk ⟨rfl,?_⟩)⟩
 ·have d:arg∈bx.x.set:=XV z
  obtain⟨B,P⟩:=Ln k d;refine⟨_,_,rfl,_,_,_,o,PC.ok (Rq j oM oM) ?_⟩;rintro _ Q ⟨rfl,C,E⟩;rw[B];exact⟨_,_,_,rfl,_,_,rfl,OG c (a.ah c) C ⟨E,λe b=>.inl b⟩ n λR H=>Ok.mk ⟨rfl,H⟩⟩
 ·have d:arg∉bx.x.set:=Xy A
  refine⟨bx,F,by rw[GJ d],?_,by rw[GJ d];exact j,ai.af c,λe b=>.inl b⟩;have:L.set i bx=L:=by
   apply X3;intro S;rw[Xj];split
   ·rename_i I;subst I;rw[if_pos (Qv.1 a.at').1,a.at']
   ·rfl
  rw[this];exact a.mf.ah c
end
def Lr(a:Int):aH (oD a):=by
 unfold oD IntKind.wrap aH;simp[IntKind.signed,IntKind.bits];omega
def OH(a:e∉t):(pB e t).length=t.length+1:=by
 induction t with
 |nil=>rfl
 |cons c t b=>
  simp only[Q2,not_or]at a;unfold pB;rw[if_neg a.1];split
  ·rfl
  ·simp[b a.2]
def OI{b:List j}{c:j}(d:b[a]? =some c):b.set a c=b:=by
 apply X3;intro f;rw[Xj];split
 ·rename_i e;subst e;rw[if_pos (Qv.1 d).1,d]
 ·rfl
section
variable {w w':World} {D E F:Nat->Prop} {t:List bf} {cells:List cD} {op arg:Int} {ma ca ta:Option Addr} {mn mc cn cc tn tc i:Nat} {L:List (Bx cD)} {bx:Bx cD}
def Tx{a:cD}(c:∀i∈c6.bq,jE.Ok i)(j:aH a.n/\vG a.set/\a.set.length<=64)(k:aH arg)(l:op=3->arg∈a.set\/a.set.length<64):
  aH (Uw c6 a op arg).n/\vG (Uw c6 a op arg).set/\(Uw c6 a op arg).set.length<=64:=by
 obtain⟨g,b,d⟩:=j;unfold Uw
 split
 ·exact⟨Lr _,b,d⟩
 split
 ·exact⟨k,b,d⟩
 split
 ·rename_i h
  refine⟨g,CU b,?_⟩
  by_cases c:arg∈a.set
  ·show(pB arg a.set).length<=64
   rw[tM c b];exact d
  ·show(pB arg a.set).length<=64
   rw[OH c];rcases l h with h|h
   ·exact absurd h c
   ·omega
 split
 ·exact⟨g,b.sublist List.filter_sublist,Xx (List.length_filter_le ..) d⟩
 ·refine⟨?_,b,d⟩
  show aH (c6.bq.getD arg.toNat ⟨0,0,0,0⟩).ng
  by_cases e:arg.toNat<c6.bq.length
  ·have f:c6.bq.getD arg.toNat ⟨0,0,0,0⟩=c6.bq[arg.toNat]:=by simp[QQ,e]
   rw[f];exact(c _ (XY e)).2.1
  ·have f:c6.bq.getD arg.toNat ⟨0,0,0,0⟩=⟨0,0,0,0⟩:=by simp[QQ,Q7 (Nat.le_of_not_lt e)]
   rw[f];simp[aH]
def Rt(b:GQ t cells (i:Int) op arg)(f:aH arg)(c:Row ix 32 w E ma mn (t.getD i ⟨0,0,false,[]⟩).bq)(g:∀d,E d->¬aF ca=some d)(a:jD w ca cn cc L i bx F):
  enters XP (VF op)=true/\Calls XP (VF op) (#[]++ #[zK (t.getD i ⟨0,0,false,[]⟩) ma mn mc ca cn cc (i:Int) arg]++ #[]) w (Ok λh w'=>h= .tuple #[]/\pH w ca cn cc L i F (Uw (t.getD i ⟨0,0,false,[]⟩) bx.x op arg) w'):=by
 have k:=b.UH;have l:=b.UI;have:op=1\/op=2\/op=3\/op=4\/op=5:=oM
 rcases this with rfl|rfl|rfl|rfl|rfl
 ·exact⟨kR,do_1 a⟩
 ·exact⟨kR,VS a⟩
 ·exact⟨kR,VU a f⟩
 ·exact⟨kR,VV a⟩
 ·obtain⟨j,e,m⟩:=b.mv rfl
  rw[Qx]at e;exact⟨kR,VT a c g j (by rw[c.len];exact e)⟩
structure UK (w9:World) (ca:Option Addr) (cn cc:Nat) (D:Nat->Prop) (cells:List cD) (j:Nat) (w':World) (L:List (Bx cD)) (Fi:Nat->Nat->Prop):Prop where
 mf:aO jU.jk 78 (λb=>aF ca=some b) w' ca cn cc L
 eq:L.map (·.x)=cells
 own:∀i b,i<j->L[i]? =some b->aO aJ 3 (Fi i) w' b.a b.n b.c b.x.set
 aB:∀i x,Fi i x->w9.heap.size<=x/\x<w'.heap.size/\¬aF ca=some x
 ap:∀i k x,i≠k->Fi i x->¬Fi k x
 Xa:∀i x,j<=i->¬Fi i x
 af:ak (λb=>aF ca=some b) w9 w'
def Ru{u:Int}(p:GQ t cells u op arg)(N:vJ t cells u op arg=0)(a2:aH arg)(e2:t.length<=64)(ht:Row rk 48 w E ta tn t)(hE:∀b,E b->b<w.heap.size)(h:Row ei 32 w D ca cn cells)(hD:∀b,D b->b<w.heap.size):
  Calls XP 252 #[.agg #[.slice ta tn tc],.slice ca cn cc,XH u,XH op,XH arg] w (Ok (py ei 78 w (Rr t cells u op arg))):=by
 obtain⟨i,rfl⟩:∃i:Nat,u=i:=⟨u.toNat,by have:=p.f0;omega⟩
 obtain⟨n,C,l2,l3⟩:=ef.boxes h;have e3:=p.len;have e4:n.length=cells.length:=by rw[<-C];simp
 refine Mx (PA.mk λw1 k1 s1 g1=>PC.ok (pG (l2.ah k1) λb d=>by have:=hD b d;omega) ?_);rintro _ O ⟨o,r,F,F9,rfl,x,P,d4⟩;have e5:=x.len dC;have e6:=h.len;have y:∀b,aF o=some b->w1.heap.size<=b:=λb d=>d4 b (x.self b d);have Q:∀b,aF o=some b->b<O.heap.size:=λb d=>x.aB b (x.self b d);refine⟨_,_,_,rfl,λR a8 w'=>∃g:Nat,a8=g/\g<=r/\R=r-g/\∃L q,UK O o r F D cells g w' L q/\∀c,g<=c->L[c]? =n[c]?,
  ⟨_,0,rfl,Qj _,rfl,n,λ_ _=>False,⟨x.alone,C,λi b hi=>oM,λ_ _ h=>h.elim,λ_ _ _ _ h=>h.elim,λ_ _ _=>id,ak.refl _⟩,λc _=>rfl⟩,?_⟩
 rintro R _ _ b8 ⟨g,rfl,hj,rfl,L,q,f,a3⟩;have e7:L.length=cells.length:=by rw[<-f.eq];simp
 have H:ai w b8:=(k1.then P).new f.af λb d=>.inr (by have:=y b d;omega);refine al.dec (λe8=>?_) (λe9=>?_)
 ·have b9:g<n.length:=oM
  have S:n[g]? =some n[g]:=Qq b9;obtain⟨b,T,es,U,d,f5,a9,rfl,-⟩:=(l2.ah H).el g n[g] S;have d5:=l3 n[g] (XY b9);refine⟨b,T,U,oM,oM,_,_,_,a9 1 dC,PC.ok (bC (d5.1.ah H) λb d=>by have:=hD b d;have:=H.size;omega) ?_⟩;rintro _ f6 ⟨f8,g0,g2,G,rfl,a4,I,J⟩;have a5:=f.mf.ah I;have hz:=f.af.size;obtain⟨z,c1⟩:∃z,o=ZX z:=by
   rcases a5.body with⟨cs,D',ho,-⟩;rcases ho.cases with⟨-,hn,-⟩|⟨z,b0,e,-⟩
   ·omega
   ·exact⟨z,e⟩
  refine⟨_,_,_,rfl,z,0,c1,oM,oM,?_⟩;simp only[Qx];refine ef.set a5 (by rw[a3 g (Q4 _)];exact S) c1 λg3 c2 V g4=>⟨_,?_,g+1,aq oM,oM,rfl,_,λc=>if c=g then G else q c,⟨c2,?_,?_,?_,?_,?_,?_⟩,?_⟩
  ·omega
  ·rw[List.map_set,f.eq,OI]
   rw[<-C,Q9,S];rfl
  ·intro c b m d
   rw[Xj]at d
   by_cases W:g=c
   ·subst W
    rw[if_pos rfl,if_pos oM]at d
    cases d
    rw[if_pos rfl];exact a4.af V λa B e=>by have:=J a B;have:=Q a e;omega
   ·rw[if_neg W]at d
    rw[if_neg (λe=>W e.symm)];exact((f.own c b oM d).ah I).af V λa B e=>(f.aB c a B).2.2 e
  ·intro c a B
   split at B
   ·have:=J a B;have:=a4.aB a B;exact⟨oM,oM,λe=>by have:=Q a e;omega⟩
   ·have K:=f.aB c a B;have:=I.size;exact⟨K.1,oM,K.2.2⟩
  ·intro c k' a X B j
   split at B<;>split at j
   ·omega
   ·have:=J a B;have:=f.aB k' a j;omega
   ·have:=J a j;have:=f.aB c a B;omega
   ·exact f.ap c k' a X B j
  ·intro c a m B
   rw[if_neg oM]at B;exact f.Xa c a oM B
  ·exact(f.af.ah I).then V
  ·intro c m
   rw[Xj,if_neg oM,a3 c oM]
 ·have g5:g=r:=oM
  refine PC.ok zJ ?_;rintro _ g6 ⟨f0,rfl,Y,Z⟩;refine⟨_,rfl,iH zI jV Y ?_⟩;rw[Lp p.UH p.UI];refine⟨_,_,_,rfl,PA.mk λg7 d6 g8 d7=>az (OE op) d7 rfl λd8 d9 g9 b3=>al.tt rfl λvC e0=>?_⟩;have c3:ai d8 vC:=e0.af;have v:ai b8 vC:=((Z.then d6).new d9 λb d=>.inr (by have:=Z.size;omega)).then c3;have c4:=H.then v;have b3:=c3.get b3 id;have z9:=f.af.size;have h0:=Z.size;have h2:=P.size;have gt:=v.get (f.af.get (P.get g1 id) (λe=>by have:=y _ e;omega)) id;have h4:=p.f1;have h5:=ht.len;obtain⟨b,T,f7,f9,b1,U,d,h6,f1,f2,f3,f4,c5⟩:=Ez (ht.ah c4) (i:=i) oM;have c6:i<L.length:=oM
  have M:L[i]? =some L[i]:=Qq c6;generalize L[i]=bx at M;have b4:cells[i]? =some bx.x:=by rw[<-f.eq,Q9,M];rfl
  have c7:cells.getD i ⟨0,[]⟩=bx.x:=by rw[QQ,b4];rfl
  have a0:∀(c:Nat) (a:cD),cells[c]? =some a->aH a.n/\vG a.set/\a.set.length<=64:=λc a B=>by
   rw[<-C,Q9]at B
   cases hL:n[c]? with
   |none=>rw[hL]at B;cases B
   |some b2=>rw[hL]at B;cases B;exact(l3 b2 (QZ hL)).2
  have c8:jD vC o r F L i bx (q i):=⟨f.mf.ah v,M,(f.own i bx oM M).ah v,λb d=>(f.aB i b d).2.2,a0 i _ b4,oM⟩
  obtain⟨a1,s⟩:=Rt (mc:=b1) p a2 c5 (λb d e=>by have:=hE b d;have:=y b e;omega) c8;refine⟨_,ae b3 rfl,_,_,_,ae gt rfl,b,T,U,oM,oM,_,_,_,_,_,_,f1,f2,f3,f4,_,_,_,rfl,a1,PC.ok s ?_⟩;rintro _ b5 ⟨rfl,k,A,j,d0,a6,b6,d1⟩;have h7:=b6.size;have zg:=v.size;have b7:∀a,A a->O.heap.size<=a:=λa B=>by
   rcases d1 a B with h|h
   ·exact(f.aB i a h).1
   ·omega
  have d2:∀c b,(L.set i k)[c]? =some b->aO aJ 3 (λa=>if c=i then A a else q c a) b5 b.a b.n b.c b.x.set:=λc b d=>by
   rw[Xj]at d
   by_cases m:i=c
   ·subst m
    rw[if_pos rfl,if_pos c6]at d
    cases d
    simp only[if_true];rw[j];exact a6
   ·rw[if_neg m]at d
    simp only[if_neg (λe:c=i=>m e.symm)];have h8:=(Qv.1 d).1;refine((f.own c b oM d).ah v).af b6 λa B e=>?_;rcases e with e|e
    ·exact(f.aB c a B).2.2 e
    ·exact f.ap c i a (λe=>m e.symm) B e
  have a7:∀b∈L.set i k,aH b.x.n/\vG b.x.set/\b.x.set.length<=64:=λb d=>by
   obtain⟨c,m,rfl⟩:=List.getElem_of_mem d;have l:(L.set i k)[c]? =some (L.set i k)[c]:=Qq m;generalize(L.set i k)[c]=b at l;rw[Xj]at l
   by_cases d3:i=c
   ·rw[if_pos d3,if_pos oM]at l
    cases l
    rw[j];refine Tx (λR Y=>?_) (a0 i _ b4) a2 λh3=>?_
    ·obtain⟨c0,hq,rfl⟩:=List.getElem_of_mem Y
     obtain⟨b',o',es,-,-,-,-,-,e1⟩:=c5.el c0 _ (Qq hq);exact e1
    ·rw[Ex]at N
     have d:OB t cells (i:Int) op arg=true:=by
      cases hq:OB t cells (i:Int) op arg
      ·rw[hq]at N;simp at N
      ·rfl
     unfold OB at d;subst h3;simp only[Qx,c7]at d;simpa using d
   ·rw[if_neg d3]at l
    exact a0 c _ (by rw[<-f.eq,Q9,l];rfl)
  have c9:∀b∈L.set i k,b.x.set.length<=64:=λb d=>(a7 b d).2.2;have hU:aO jU.Mw 78 (λa=>aF o=some a\/((∃c,c≠i/\q c a)\/A a)) b5 o r F ((L.set i k).map (·.x)):=by
   refine ef.unbox (N:=jU) (D:=λa=>(∃c,c≠i/\q c a)\/A a) d0 (λb d=>(⟨?_,a7 b d⟩:jU.In b5 _ b)) (λa B=>?_)
   ·obtain⟨c,m,rfl⟩:=List.getElem_of_mem d
    have K:=d2 c _ (Qq m);refine(K.row (bytes:=8) dC ?_).mono λa B=>?_
    ·have:=c9 _ d;unfold aK;omega
    ·split at B
     ·exact .inr B
     ·rename_i X;exact .inl ⟨c,X,B⟩
   ·rcases B with⟨c,-,B⟩|B
    ·have:=f.aB c a B;exact⟨oM,this.2.2⟩
    ·refine⟨a6.aB a B,λe=>?_⟩
     rcases d1 a B with h|h
     ·exact(f.aB i a h).2.2 e
     ·have:=Q a e;omega
  refine⟨rfl,Ok.mk ⟨o,r,F,(λa=>aF o=some a\/((∃c,c≠i/\q c a)\/A a)),rfl,?_,?_,?_⟩⟩
  ·rw[Tw p.UH p.UI,Qx,c7,<-j,<-f.eq,<-List.map_set];exact hU
  ·exact c4.new b6 λa B=>.inr (by
    rcases B with B|B
    ·have:=y a B;omega
    ·have:=(f.aB i a B).1;omega)
  ·rintro a (B|⟨c,-,B⟩|B)
   ·have:=y a B;omega
   ·have:=(f.aB c a B).1;omega
   ·have:=b7 a B;omega
end
end Go.Proofs.YtjgjkeponbeekaaGreatDoor
namespace Go.ar
open Go
variable{d:Option Addr}{y:World->Prop}
section
variable {α β:Type} {N:ef α β} {w9 w w':World} {a:Option Addr} {n c j:Nat} {L0:List (Bx α)} {e:TypeId}
def dt(N:ef α β)(e:TypeId)(w9:World)(a:Option Addr)(n c:Nat)(L0:List (Bx α))(j:Nat)(w':World):Prop:=
 ∃(d:List (Bx α)) (h:Nat->Prop),aO N.jk e (λb=>aF a=some b) w' a n c d/\d.map (·.x)=L0.map (·.x)/\(∀(i:Nat) (b:Bx α),i<j->d[i]? =some b->N.In w' h b)/\(∀g:Nat,j<=g->d[g]? =L0[g]?)/\
  ak (λb=>aF a=some b) w9 w'/\∀f,h f->w9.heap.size<=f/\f<w'.heap.size/\¬aF a=some f
def dt.start(b:aO N.jk e (λd=>aF a=some d) w9 a n c L0):dt N e w9 a n c L0 0 w9:=
 ⟨L0,λ_=>False,b,rfl,λf d g=>oM,λ_ _=>rfl,ak.refl _,λ_ b=>b.elim⟩
def dt.ah(d:dt N e w9 a n c L0 j w)(b:ai w w'):dt N e w9 a n c L0 j w':=by
 obtain⟨i,k,l,m,o,p,q,f⟩:=d;exact⟨i,k,l.ah b,m,λr s t u=>(o r s t u).af b λ_ _ d=>d,p,q.ah b,λg h=>⟨(f g h).1,Qk (f g h).2.1 b.size,(f g h).2.2⟩⟩
def dt.af(b:dt N e w9 a n c L0 j w):ak (λd=>aF a=some d) w9 w:=b.elim λf b=>b.elim λD b=>b.2.2.2.2.1
def dt.len(b:dt N e w9 a n c L0 j w):n=L0.length:=by
 obtain⟨h,i,d,f,-⟩:=b;have:=congrArg List.length f;simp at this;have g:0<N.k:=Nat.lt_of_le_of_lt (Qj _) N.ho;rw[d.len g,this]
def dt.some(d:dt N e w9 a n c L0 j w)(i:j<n):∃b,a=ZX b:=by
 obtain⟨k,l,f,-⟩:=d;rcases f.body with⟨cs,m,g,-⟩;rcases g.cases with⟨-,o,-⟩|⟨b,h,e,-⟩
 ·omega
 ·exact⟨b,e⟩
def dt.cell(m:dt N e w9 a n c L0 j w){h:Nat}(o:a=Option.some ⟨h,0,none⟩){b:Bx α}(p:L0[j]? =Option.some b)(q:n*N.k<=aK):∀f g,(N.hd b.x b.a b.n b.c)[f]? =Option.some g->w.cell? ⟨h,0+j*N.k+f,none⟩=Option.some g:=by
 obtain⟨u,v,i,x,y,r,z,A⟩:=m;have k:0<N.k:=Nat.lt_of_le_of_lt (Qj _) N.ho;have s:=i.row (bytes:=N.k) k (by rw[<-i.len k];exact q);obtain⟨B,C,E,d,-,-,t,rfl,-⟩:=s.el j b (by rw[r j (Q4 _)];exact p);rw[o]at d;cases d
 intro f g l;rw[<-l];exact t f (by have:=(Qv.1 l).1;rw[N.hl]at this;exact this)
def dt.step(x:dt N e w9 a n c L0 j w){g:Nat}(o:a=Option.some ⟨g,0,none⟩){f:Bx α}(i:L0[j]? =Option.some f){p z:Nat}{G:Nat->Prop}(A:Row N.ci N.ib w G d p (N.inner f.x))(C:N.ok f.x)(k:∀b,G b->w9.heap.size<=b/\b<w.heap.size)(Q:g<w9.heap.size)(l:∀w',dt N e w9 a n c L0 (j+1) w'->ak (λf=>aF a=Option.some f) w w'->w'.heap.size=w.heap.size->y w'):
  PS w ⟨g,0+j*N.k+N.o,none⟩ (.slice d p z) y:=by
 obtain⟨E,F,H,I,J,q,K,r⟩:=x;have s:E[j]? =Option.some f:=by rw[q j (Q4 _)];exact i
 have L:=(Qv.1 s).1;have t:∀b,G b->¬aF a=Option.some b:=λb B e=>by
  have:=(k b B).1;rw[o]at e;simp only[aF,Q1]at e;omega
 refine ef.set H s o λM O h m=>l M ⟨_,λb=>F b\/G b,O,?_,?_,?_,K.then h,?_⟩ h m
 ·rw[List.map_set,I]
  apply X3;intro R;rw[Xj];split
  ·rename_i e;subst e
   rw[if_pos (by simpa using(Qv.1 i).1),Q9,i];rfl
  ·rfl
 ·intro u b S B
  rw[Xj]at B
  by_cases v:j=u
  ·subst v
   rw[if_pos rfl,if_pos L]at B
   cases B
   exact⟨(A.af h λb B=>t b B).mono λb B=>.inr B,C⟩
  ·rw[if_neg v]at B
   exact((J u b oM B).af h λb B=>(r b B).2.2).mono λb B=>.inl B
 ·intro P T
  rw[Xj,if_neg oM,q P oM]
 ·rintro b (B|B)
  ·rw[m];exact r b B
  ·rw[m];exact⟨(k b B).1,(k b B).2,t b B⟩
def dt.done(g:dt N e w9 a n c L0 n w):∃h,aO N.Mw e h w a n c (L0.map (·.x))/\∀b,h b->aF a=Option.some b\/w9.heap.size<=b:=by
 have r:=g.len;obtain⟨j,k,l,i,m,s,t,f⟩:=g;have u:j.length=L0.length:=by have:=congrArg List.length i;simpa using this
 rw[<-i];refine⟨_,ef.unbox (D:=k) l (λv o=>?_) λb d=>⟨(f b d).2.1,(f b d).2.2⟩,λb d=>d.imp id λd=>(f b d).1⟩;obtain⟨p,q,rfl⟩:=List.getElem_of_mem o;exact m p _ oM (Qq q)
end
end Go.ar
namespace Go.Proofs.YtjgjkeponbeekaaGreatDoor
open Go.ar
def ml:ef aj Int where
 k:=10
 ci:=aJ
 ib:=8
 inner:=(·.aP)
 hd:=aC
 ok:=aj.Ok
 hl:=λ_ _ _ _=>rfl
 h1:=λb c d e f a=>by
  simp only[aC,Q2,List.not_mem_nil,or_false]at a;rcases a with rfl|rfl|rfl|rfl|rfl|rfl|rfl|rfl|rfl|rfl<;>rfl
 o:=3
 ho:=dC
 eX:=λ_ _ _ _ _ _ _=>rfl
def RM:ml.Mw=jj:=rfl
def I_:ef bf jE where
 k:=4
 ci:=ix
 ib:=32
 inner:=(·.bq)
 hd:=et
 ok:=λa=>aH a.kind/\aH a.dI
 hl:=λ_ _ _ _=>rfl
 h1:=λc d e f g b=>by
  simp only[et,Q2,List.not_mem_nil,or_false]at b;rcases b with rfl|rfl|rfl|rfl<;>rfl
 o:=3
 ho:=dC
 eX:=λ_ _ _ _ _ _ _=>rfl
def GB:I_.Mw=rk:=rfl
variable{e:Int}{a9:List cD}{a c:Nat}{d:Option Addr}
section
variable {w w':World} {D E F:Nat->Prop}
def nQ{e:aj}{w:World}{D:Nat->Prop}(j:Row aJ 8 w D d a e.aP)(t:∀b,D b->b<w.heap.size):
  Calls XP 200 #[jA e d a c] w (Ok λu w'=>∃d a c G,u=jA e d a c/\Row aJ 8 w' G d a e.aP/\(∀b,G b->w.heap.size<=b/\b<w'.heap.size)/\ai w w'):=by
 have v:=j.dN;have x:=j.len;refine ES (PA.mk λA n B g=>PA.mk λC h E k=>⟨_,_,_,ae (h.get g id) rfl,PC.ok (bC (j.ah (n.then h)) λb f=>by have:=t b f;omega) ?_⟩);rintro _ F ⟨o,p,q,G,rfl,r,i,l⟩;have g:=i.get (h.get g id) id;have k:=i.get k id;refine⟨_,_,_,rfl,PS.mk g (by simp[aC]) λH m I y=>?_⟩;refine au (cs:=aC e o p q) (aV _ _ _ _) y (az (aV _ _ _ _) (m.get k oM) rfl λJ s K z=>au (aV _ _ _ _) z (Ok.mk ⟨o,p,q,G,rfl,?_,?_,?_⟩))
 ·refine(((r.af m λb f=>?_).af s λb f=>?_).row (bytes:=8) dC (by rw[<-x];exact v))
  ·have:=l b f;omega
  ·have:=l b f;omega
 ·intro b f
  have:=l b f;have:=r.aB b f;omega
 ·have L:=i.size
  exact((ak.new ((n.then h).then i) m λb f=>.inr oM).new s λb f=>.inr oM)
def Kk(h:Row ei 32 w D d a a9)(E:∀b,D b->b<w.heap.size):
  Calls XP 203 #[.agg #[XH e,.slice d a c]] w (Ok λa0 w'=>∃H I J F,a0= .agg #[XH e,.slice H I J]/\aO ei 78 F w' H I J a9/\(∀b,F b->w.heap.size<=b)/\ai w w'):=by
 obtain⟨m,K,l2,l3⟩:=ef.boxes h;have L:=h.dN;have c2:=h.len;have c3:m.length=a9.length:=by rw[<-K];simp
 refine ET (PA.mk λM N s1 O=>PA.mk λw2 q s2 g2=>⟨_,_,_,ae (q.get O id) rfl,PC.ok (pG (l2.ah (N.then q)) λb f=>by have:=E b f;omega) ?_⟩);rintro _ w9 ⟨k,n,x,F9,rfl,r,s,b6⟩;have o:∀b,aF k=some b->w2.heap.size<=b:=λb f=>b6 b (r.self b f);have a1:∀b,aF k=some b->b<w9.heap.size:=λb f=>r.aB b (r.self b f);refine⟨_,_,_,rfl,PS.mk (s.get (q.get O id) id) sM λt y c4 u=>⟨_,_,_,ae u rfl,?_⟩⟩;have z9:=s.size;have a2:=y.get (s.get g2 id) oM;have a3:aO jU.jk 78 (λb=>aF k=some b) t k n x m:=r.alone.af y λb f g=>by have:=o b f;omega
 have a4:ai w t:=((N.then q).then s).new y λb f=>.inr oM;refine⟨λP a5 w'=>∃i:Nat,a5=i/\i<=n/\P=n-i/\dt jU 78 t k n x m i w',⟨_,0,rfl,Qj _,rfl,dt.start a3⟩,?_⟩;rintro P _ _ Q ⟨i,rfl,hj,rfl,j⟩;have c5:=j.len;have z:ai w Q:=a4.new j.af λb f=>.inr (by have:=o b f;omega);have A:¬aF k=some w.heap.size:=λg=>by have:=o _ g;omega
 have R:¬aF k=some M.heap.size:=λg=>by have:=o _ g;omega
 refine al.dec (λc6=>λb7 b8=>?_) (λc7=>?_)
 ·have p:ai Q b7:=b8.af
  have S:=j.ah p;obtain⟨l,rfl⟩:=j.some oM;have c8:=o l rfl;have a7:l<t.heap.size:=by have:=a1 l rfl;omega
  have B:m[i]? =some m[i]:=Qq oM;have v:=l3 m[i] (XY oM);generalize m[i]=C at B v;have T:=p.get (j.af.get u A) id;refine⟨λb=>b=l,by show w.heap.size≠l;omega,_,_,_,ae T rfl,_,_,_,ae T rfl,l,0,rfl,by omega,by omega,_,_,_,S.cell rfl B (by show n*2<=aK;unfold aK at L⊢;omega) 1 _ rfl,PC.ok (bC ((v.1.ah z).ah p) λb f=>by have:=E b f;have:=(z.then p).size;omega) ?_⟩;rintro _ d0 ⟨d1,d2,d3,G,rfl,U,V,hG⟩;refine⟨_,_,_,rfl,ai.af V,l,0,rfl,oM,oM,?_⟩;have d4:=j.af.size;have d5:=p.size;refine(S.ah V).step (g:=l) rfl B (U.row (bytes:=8) dC ?_) v.2 (λW X=>⟨by have:=hG W X;omega,U.aB W X⟩) a7 λd6 b0 b9 d7=>⟨b9.mono λb _ g=>(by simpa[aF]using g.symm),_,?_,i+1,aq (by unfold aK at L;omega),oM,rfl,b0⟩
  ·have:C.x.set.length<=64:=v.2.2.2
   show(jU.inner C.x).length*8<=aK;unfold aK;show C.x.set.length*8<=_;omega
  ·omega
 ·obtain rfl:i=n:=oM
  obtain⟨Fd,Y,Z⟩:=j.done;rw[K]at Y;have d8:=j.af.size;refine⟨_,_,_,_,ae (j.af.get u A) rfl,ae (j.af.get u A) rfl,PS.mk (j.af.get a2 R) sM λd9 b2 e0 c1=>PS.mk c1 sM λe1 b3 e2 b4=>⟨_,_,_,_,ae b4 rfl,ae b4 rfl,Ok.mk ⟨k,_,x,Fd,rfl,?_,?_,?_⟩⟩⟩
  ·have b5:∀b,Fd b->b≠M.heap.size:=λb f g=>by
    rcases Z b f with h|h
    ·exact R (g▸h)
    ·omega
   exact(Y.af b2 λb f g=>b5 b f g).af b3 λb f g=>b5 b f g
  ·intro b f
   rcases Z b f with h|h
   ·have:=o b h;omega
   ·omega
  ·exact(z.new b2 λb f=>.inr oM).new b3 λb f=>.inr oM
end
end Go.Proofs.YtjgjkeponbeekaaGreatDoor

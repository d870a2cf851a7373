import Derived.Test.YtblabbpipmodgaaGreatDoorKp11
import Derived.RangeFuncSeq
import Derived.RangeFuncLeaves
set_option maxHeartbeats 4000000
set_option linter.all false
set_option maxRecDepth 20000
namespace Go.Proofs.YtblabbpipmodgaaGreatDoor
open Go.aw
variable{y:FuncId}{e:Int}{d4:Int×al}{t:List Int}{a c:Nat}{f:XN}{d:ZH}{b:World}
def b_{D:XN}(h:Row aM 8 b D d a t)(g:∀P,D P->P<b.heap.size):
  ZG 102 #[.slice d a c] b (Ok (oK aM 3 b t)):=by
 have x:=h.len;have e:=h.dB;refine nd (jA rC.under ⟨_,rfl,an.mk (λf=>?_) (λf=>PA.mk λk i y l=>?_)⟩)
 ·have:t=[]:=by
   cases d with
   |none=>
    cases t with
    |nil=>rfl
    |cons m z=>obtain⟨P,n,A,o,_⟩:=h.el 0 m rfl;cases o
   |some p=>cases f
  subst this;exact Ok.mk ⟨none,0,0,λ_=>False,rfl,aT.nil b,ak.refl _,λ_ h=>h.elim⟩
 ·cases d with
  |none=>cases f
  |some p=>
   have q:aT aM 3 (·=b.heap.size) k (XM b.heap.size) 0 0 []:=
    ⟨⟨[],λ_=>False,Own.yS (cur:= #[]) l rfl (Qj _),rfl,λ_ h=>h.elim⟩,λP e=>by simpa[aI]using e.symm,λP e=>oM⟩
   refine jX q rC (D:=D) (h.ah i) (λP e=>⟨by have:=g P e;omega,by have:=g P e;simp only[aI];intro r;cases r;omega⟩) bc (by unfold aO at e;unfold maxLen;simp;omega) λj s B C u v _ w=>?_;refine⟨_,_,_,rfl,Ok.mk ⟨j,_,s,λP=>aI j=some P,rfl,by have h:=u.alone;rw[List.nil_append]at h;exact h,i.new v λP e=>.inr ?_,λP e=>?_⟩⟩
   ·simp only[aI,Q1]at e;omega
   ·rcases w P e with h|h<;>omega
def gV(P:Int)(a:ByteArray):Int:=if(lx a).2 then max P ((lx a).1+1)else P
def uQ(P:List ByteArray):Int:=P.foldl gV 1
def uE(D:al):Int:=uQ D.list
def Dk(P:ByteArray):0<=(lx P).1/\(lx P).1<1000000000000:=by
 unfold lx;split
 ·rename_i b a
  have:=(AM a).2;simp;omega
 ·simp
def Fc(a:1<=e/\e<=1000000000000)(P:ByteArray):1<=gV e P/\gV e P<=1000000000000:=by
 have:=Dk P;unfold gV;split<;>omega
def Ht:∀(a:List ByteArray) (P:Int),(1<=P/\P<=1000000000000)->1<=a.foldl gV P/\a.foldl gV P<=1000000000000
 |[],P,b=>b
 |s::a,P,b=>Ht a _ (Fc b s)
def Dp(P:List ByteArray):1<=uQ P/\uQ P<=1000000000000:=Ht P 1 oM
def Hu{D:al}(s:Laid b)(i:aU b a f D):
  ZG 135 #[XL a] b (Ok λt e=>t= XH (uE D)/\ai b e):=by
 refine BS (PC.ok (v_ i) ?_);rintro _ j ⟨u,d,z,G,rfl,k,l,A⟩;have B:D.list.length<=64:=by rw[mV];exact i.ok.many
 have C:=k.len dC;have v:Row Mu 16 j G u d D.list:=k.row dC ba;refine⟨_,_,_,rfl,λm n o e=>∃P:Nat,o=P/\P<=d/\m=d-P/\n=uQ (D.list.take P)/\ai j e,⟨_,0,rfl,Qj _,rfl,rfl,ak.refl _⟩,?_⟩;rintro m n o _ E ⟨P,rfl,F,rfl,rfl,c⟩;refine an.dec (λH=>?_) (λI=>?_)
 ·obtain⟨w,g,p,rfl,x,_,y⟩:=(v.ah c).lu (i:=P) oM
  refine⟨w,g,rfl,oM,oM,_,y,PC.ok (zo (s.ah (l.then c))) ?_⟩;rintro _ J ⟨rfl,q⟩;have K:=Dk p;have L:=Dp (D.list.take P);have r:uQ (D.list.take (P+1))=gV (uQ (D.list.take P)) p:=by
   unfold uQ;rw[Qw,x,List.foldl_append];rfl
  refine⟨_,_,rfl,an.mk (λh=>⟨_,?_,P+1,aq oM,oM,rfl,?_,c.then q⟩) (λh=>⟨_,?_,P+1,aq oM,oM,rfl,?_,c.then q⟩)⟩
  ·omega
  ·rw[r,wrap_i64 bb]
   unfold gV;rw[Zx h];split<;>omega
  ·omega
  ·rw[r];unfold gV;rw[Zq (by simp[h])]
 ·obtain rfl:P=d:=oM
  rw[Qz oM];exact Ok.mk ⟨rfl,l.then c⟩
structure cY where
 size:Int
 a_:List Int
 bytes:Int
 next:Int
structure iq (w:World) (p q:Nat) (G:XN) (V:cY):Prop where
 body:∃a n c E,w.heap[q]? =some (.cells #[XL p,XH V.size,.slice a n c,XH V.bytes,XH V.next] 228 (0,0))/\aT aM 3 E w a n c V.a_/\∀b,E b->G b/\b≠q
 self:G q
 aF:∀b,G b->b<w.heap.size
 many:V.a_.length<=64
 zU:aN V.next
section
variable {w0 w w1 w':World} {p q:Nat} {D D':al} {V V':cY} {X Y G S:XN}
def iq.af(a:iq w p q G V)(b:ak S w w')(d:∀P,G P->¬S P):iq w' p q G V:=by
 obtain⟨f,g,h,i,j,k,e⟩:=a.body;exact⟨⟨f,g,h,i,b.get j (d q a.self),k.af b λP c=>d P (e P c).1,e⟩,a.self,λP c=>Qk (a.aF P c) b.size,a.many,a.zU⟩
def iq.ah(P:iq w p q G V)(a:ai w w'):iq w' p q G V:=P.af a λ_ _ P=>P
def cu(w0 w:World)(p q:Nat)(V:cY)(D:al)(X:XN):Prop:=∃G,aW w0 w p D (λP=>X P\/G P)/\iq w p q G V/\∀P,G P->w0.heap.size<=P/\¬X P
def cu.gr(P:cu w0 w p q V D X):ai w0 w:=by obtain⟨G,a,b,c⟩:=P;exact a.gr
def cu.ok(P:cu w0 w p q V D X):D.Ok:=by obtain⟨G,a,b,c⟩:=P;exact a.ok
def cu.many(P:cu w0 w p q V D X):V.a_.length<=64:=by obtain⟨G,b,a,c⟩:=P;exact a.many
def cu.zU(P:cu w0 w p q V D X):aN V.next:=by obtain⟨G,b,a,c⟩:=P;exact a.zU
def cu.aF(a:cu w0 w p q V D X):∀P,X P->P<w.heap.size:=by obtain⟨G,⟨d,e,f,g,b⟩,h,i⟩:=a;exact λP c=>b P (.inl c)
def cu.Vz(a:cu w0 w p q V D X):q<w.heap.size/\w0.heap.size<=q/\¬X q:=by obtain⟨G,c,P,b⟩:=a;exact⟨P.aF q P.self,b q P.self⟩
def cu.pP(P:cu w0 w p q V D X):aW w0 w p D X:=by obtain⟨G,a,c,d⟩:=P;exact a.mono λe b=>.inl b
def cu.ah(a:cu w0 w p q V D X)(P:ai w w'):cu w0 w' p q V D X:=by
 obtain⟨G,b,c,d⟩:=a;exact⟨G,b.ah P,c.ah P,d⟩
def cu.mono(d:cu w0 w p q V D X)(b:∀P,Y P->X P):cu w0 w p q V D Y:=by
 obtain⟨G,e,f,c⟩:=d;exact⟨G,e.mono λP a=>a.imp (b P) id,f,λP a=>⟨(c P a).1,λg=>(c P a).2 (b P g)⟩⟩
def cu.add(f:cu w0 w p q V D X)(b:ai w w')(c:∀P,Y P->w.heap.size<=P/\P<w'.heap.size):cu w0 w' p q V D (λP=>X P\/Y P):=by
 obtain⟨G,g,d,e⟩:=f;refine⟨G,(g.add b c).mono λP a=>?_,d.ah b,λP a=>⟨(e P a).1,λh=>h.elim (e P a).2 λi=>by have:=d.aF P a;have:=(c P i).1;omega⟩⟩;rcases a with(a|a)|a
 ·exact .inl (.inl a)
 ·exact .inr a
 ·exact .inl (.inr a)
def cu.other(g:cu w0 w p q V D X)(b:ak Y w w')(c:∀P,Y P->X P/\w0.heap.size<=P):cu w0 w' p q V D X:=by
 obtain⟨G,⟨h,i,j,e,k⟩,l,f⟩:=g;exact⟨G,⟨h,i.af b λP a d=>(e P a).2 (.inl (c P d).1),j.new b λP a=>.inr (c P a).2,e,λP a=>Qk (k P a) b.size⟩,l.af b λP a d=>(f P a).2 (c P d).1,f⟩
def cu.on{P:Array Value}(f:cu w0 w p q V D X)(g:∀c,(∀a,X a->c a)->aW w0 w p D c->ZG y P w (Ok (my w0 w p c d4))):ZG y P w (Ok λd w'=>d= XH d4.1/\cu w0 w' p q V d4.2 X/\ak (dF X) w w'):=by
 obtain⟨G,h,i,j⟩:=f;refine Calls.ok (g _ (λa b=>.inl b) h) ?_;rintro d w' ⟨k,l,e⟩;exact⟨k,⟨G,l,i.af e λa b m=>m (.inr b),j⟩,e.mono λa _ b n=>b (.inl n)⟩
def cY.last(V:cY):ByteArray:=cE (ax (V.a_.getLast?.getD 0))
def iq.row(e:iq w p q G V):∃a P c b,w.heap[q]? =some (.cells #[XL p,XH V.size,.slice a P c,XH V.bytes,XH V.next] 228 (0,0))/\Row aM 8 w b a P V.a_/\(∀d,b d->G d/\d≠q)/\P=V.a_.length:=by
 obtain⟨a,P,c,b,g,f,h⟩:=e.body;have:=e.many;exact⟨a,P,c,b,g,f.row dC ba,h,f.len dC⟩
def Hv(e:Laid w)(c:iq w p q G V)(f:V.a_≠[]):ZG 157 #[XL q] w (Ok λg w'=>g= .string V.last/\ai w w'):=by
 obtain⟨u,a,v,x,h,i,y,j⟩:=c.row;have z:0<V.a_.length:=List.length_pos_iff.2 f;have A:=c.many;refine tR λw1 k=>?_;have P:ai w w1:=k.af;have d:=P.get h id;have l:IntKind.wrap .i64 ((a:Int)-1)=((a-1:Nat):Int):=by rw[wrap_i64 bb];omega
 obtain⟨m,b,n,rfl,o,r,s⟩:=(i.ah P).lu (i:=a-1) oM;refine⟨q,0,rfl,_,_,_,ae d rfl,q,0,rfl,_,_,_,ae d rfl,m,b,rfl,?_⟩;rw[l];refine⟨oM,oM,n,s,PC.ok (iM (e.ah P) r) ?_⟩;rintro _ B ⟨rfl,t⟩;refine⟨_,rfl,Ok.mk ⟨?_,P.then t⟩⟩;unfold cY.last;rw[List.getLast?_eq_getElem?,<-j,o];rfl
def Hw(j:Laid w0)(g:cu w0 w p q V D X)(k:V.a_≠[]):ZG 92 #[XL q] w (Ok λl w'=>l= XH (D.sync V.last).1/\cu w0 w' p q V (D.sync V.last).2 X/\ak (dF X) w w'):=by
 refine tO λw1 m=>?_;have d:ai w w1:=m.af;have n:=g.ah d;obtain⟨G,o,P,h⟩:=n;obtain⟨y,z,A,B,r,C,E,i⟩:=P.row;have F:=h q P.self;have H:=P.aF q P.self;refine⟨λb=>b≠q/\¬X b,q,0,rfl,λs=>s.1 rfl,_,ae r rfl,PC.ok (Hv (j.ah (g.gr.then d)) P k) ?_⟩;rintro _ I ⟨rfl,c⟩;have t:=P.ah c;have u:=o.ah c;refine⟨_,rfl,c.af,PC.ok u.sync ?_⟩;rintro _ J ⟨rfl,v,e⟩;refine⟨_,rfl,e.mono λb _ a=>⟨λx=>a (.inr (x▸P.self)),λf=>a (.inl f)⟩,Ok.mk ⟨rfl,⟨G,v,t.af e λb a i=>i (.inr a),h⟩,?_⟩⟩;exact(ai.af (d.then c)).then (e.mono λb _ a f=>a (.inl f))
def EE(P:iq w p q G V):ZG 118 #[XL q] w (Ok (oK aM 3 w V.a_)):=by
 obtain⟨j,k,l,m,b,c,d,n⟩:=P.row;refine oC ⟨q,0,rfl,_,_,_,ae b rfl,PC.ok (b_ c λa e=>P.aF a (d a e).1) ?_⟩;rintro _ w1 ⟨o,r,s,f,rfl,g,h,i⟩;exact⟨_,_,_,rfl,Ok.mk ⟨_,_,_,f,rfl,g,h,i⟩⟩
def Ol(P:iq w p q G V):ZG 117 #[XL q] w (Ok λa w'=>a= XH V.next/\w=w'):=by
 obtain⟨c,d,e,f,b,g,h,i⟩:=P.row;exact tQ ⟨q,0,rfl,_,ae b rfl,Ok.mk ⟨rfl,rfl⟩⟩
end
end Go.Proofs.YtblabbpipmodgaaGreatDoor
namespace Go.aw
open Go
def ob(P:Int×Int):Value:=.agg #[XH P.1,XH P.2]
def By(P:Int×Int×Int):Value:=.agg #[XH P.1,XH P.2.1,XH P.2.2]
structure II (P:Program) (t ti:TypeId):Prop where
 hu:P.underlying t=some (.struct (P.fieldsOf t))
 ui:P.underlying ti=some (.int .i64)
 hf:∃n1 n2,(P.fieldsOf t).toList.map (λf=>(f.name,f.type,f.offset))=[(n1,ti,0),(n2,ti,1)]/\n1≠ "_"/\n2≠ "_"
 hp:P.stoodInHeld t=false
 hm:P.eqGuardType P.depth t=false
 ag:sX P ti=false
variable{S b9 e q:Int}{Q W:Operand}{l s:XR}{b:World}
section
variable {P:Program} {t ti:TypeId}
def II.equalIn(b:II P t ti)(f:Nat)(c d:Int×Int)(e:World):(Op.equalIn (f+2) t (ob c) (ob d)).run P e= .ok (c==d) e:=by
 obtain⟨v,w,a,g,h⟩:=b.hf;unfold ob;rw[run_equalIn_struct e (f+1) _ _ _ b.hu b.hp];generalize(P.fieldsOf t).toList=i at a
 match i,a with
 |[x,y],a=>
  simp only[QY,List.map_nil,List.cons.injEq,Prod.mk.injEq,and_true]at a;obtain⟨⟨j,k,l⟩,m,n,o⟩:=a;have p:(isAgg ti).run P e= .ok false e:=cU _ _ _ b.ag ⟨_,b.ui⟩ e;have q:=run_equalIn_int (P:=P) e f ti .i64 .i64 c.1 d.1 b.ui;have r:=run_equalIn_int (P:=P) e f ti .i64 .i64 c.2 d.2 b.ui;unfold Op.eqFields Op.eqFields Op.eqFields;rw[j,k,l,m,n,o];have s:(c==d)=(c.1==d.1&&c.2==d.2):=rfl;rw[s]
  cases b:c.1==d.1<;>simp[part,p,q,r,b,g,h]
  by_cases u:c.2=d.2<;>simp[u]
 |[],a=>simp at a
 |[_],a=>simp at a
 |_::_::_::_,a=>simp at a
def II.eql(a:II P t ti)(c:l (.bool (e==S&&q==b9)) b):
  aH P (do eqGuard .eql t Q W (.agg #[XH e,XH q]) (.agg #[XH S,XH b9]);binOp .eql t (.agg #[XH e,XH q]) (.agg #[XH S,XH b9]):Sem Value) b l s:=by
 refine aH.mk (v:=.bool (e==S&&q==b9)) ?_ c;rw[Sem.run_bind,run_eqGuard_agg b .eql _ Q W _ _ a.hm,Result.andThen_ok,run_eql_struct];have:=a.equalIn 9998 (e,q) (S,b9) b;unfold ob at this;rw[this];rfl
def II.neq(a:II P t ti)(c:l (.bool (!(e==S&&q==b9))) b):
  aH P (do eqGuard .neq t Q W (.agg #[XH e,XH q]) (.agg #[XH S,XH b9]);binOp .neq t (.agg #[XH e,XH q]) (.agg #[XH S,XH b9]):Sem Value) b l s:=by
 refine aH.mk (v:=.bool (!(e==S&&q==b9))) ?_ c;rw[Sem.run_bind,run_eqGuard_agg b .neq _ Q W _ _ a.hm,Result.andThen_ok,run_neq_struct];have:=a.equalIn 9998 (e,q) (S,b9) b;unfold ob at this;rw[this];rfl
def II.check(c:II P t ti)(e:Nat)(h:Int×Int)(b:World)(f:Bool):(Instr.checkKey f (e+2) t (ob h)).run P b= .ok () b:=by
 obtain⟨u,v,a,i,j⟩:=c.hf;have k:(isAgg ti).run P b= .ok false b:=cU _ _ _ c.ag ⟨_,c.ui⟩ b;have l:∀g:Int,(Instr.checkKey f (e+1) ti (XH g)).run P b= .ok () b:=λg=>by simp[Instr.checkKey,run_underlying c.ui]
 unfold ob;have m:=c.hu;unfold Instr.checkKey;rw[Sem.run_bind,run_underlying m,Result.andThen_ok];generalize w:P.fieldsOf t=d at a;obtain⟨d⟩:=d
 match d,a with
 |[x,y],a=>
  simp only[QY,List.map_nil,List.cons.injEq,Prod.mk.injEq,and_true]at a;obtain⟨⟨n,o,p⟩,q,r,s⟩:=a;simp[n,o,p,q,r,s,part,k,l,i,j]
 |[],a=>simp at a
 |[_],a=>simp at a
 |_::_::_::_,a=>simp at a
def II.key(a:II P t ti):ic P t ob:=
 ic.struct a.hu (λb c=>rfl) (λb c d=>a.equalIn 9998 b c d) (λe d f=>a.check 9998 e d f) (λg b=>by unfold ob;simp[Instr.sameBits]) λ{b c} a=>by
  unfold ob at a;simp only[Value.agg.injEq,Array.mk.injEq,List.cons.injEq,Value.int.injEq,and_true,true_and]at a;exact Prod.ext a.1 a.2
structure vf (P:Program) (t t2 ti:TypeId):Prop where
 two:II P t2 ti
 hu:P.underlying t=some (.struct (P.fieldsOf t))
 hf:∃n1 n2,(P.fieldsOf t).toList.map (λf=>(f.name,f.type,f.offset))=[(n1,t2,0),(n2,ti,2)]/\n1≠ "_"/\n2≠ "_"
 hp:P.stoodInHeld t=false
 ag:sX P t2=true
 sz:(P.info? t2).map (·.size)=some 2
variable {t2:TypeId}
def vf.PW(c:vf P t t2 ti)(b:Int×Int×Int)(a:World):(part t2 #[XH b.1,XH b.2.1,XH b.2.2] 0).run P a= .ok (ob (b.1,b.2.1)) a:=by
 obtain⟨h,d,e⟩:=Option.map_eq_some_iff.1 c.sz;have f:(isAgg t2).run P a= .ok true a:=cU _ _ _ c.ag ⟨_,c.two.hu⟩ a;have g:(sizeOf t2).run P a= .ok 2 a:=by simp[sizeOf,typeInfo,d,e]
 unfold part;simp[f,g,ob]
def vf.equalIn(e:vf P t t2 ti)(g:Nat)(a b:Int×Int×Int)(c:World):(Op.equalIn (g+3) t (By a) (By b)).run P c= .ok (a==b) c:=by
 obtain⟨A,B,d,i,j⟩:=e.hf;have k:=e.PW a c;have l:=e.PW b c;have h:=e.two.equalIn g (a.1,a.2.1) (b.1,b.2.1) c;have n:=run_equalIn_int (P:=P) c (g+1) ti .i64 .i64 a.2.2 b.2.2 e.two.ui;have o:(isAgg ti).run P c= .ok false c:=cU _ _ _ e.two.ag ⟨_,e.two.ui⟩ c;unfold By;rw[run_equalIn_struct c (g+2) _ _ _ e.hu e.hp];generalize(P.fieldsOf t).toList=p at d
 match p,d with
 |[C,E],d=>
  simp only[QY,List.map_nil,List.cons.injEq,Prod.mk.injEq,and_true]at d;obtain⟨⟨q,r,s⟩,u,v,w⟩:=d;unfold Op.eqFields Op.eqFields Op.eqFields;rw[q,r,s,u,v,w];have x:(a==b)=(((a.1,a.2.1):Int×Int)==(b.1,b.2.1)&&a.2.2==b.2.2):=by
   show(a.1==b.1&&(a.2.1==b.2.1&&a.2.2==b.2.2))=((a.1==b.1&&a.2.1==b.2.1)&&a.2.2==b.2.2);rw[Bool.and_assoc]
  rw[x];have y:∀f:Int×Int×Int,(part ti #[XH f.1,XH f.2.1,XH f.2.2] 2).run P c= .ok (XH f.2.2) c:=λf=>by simp[part,o]
  cases m:((a.1,a.2.1):Int×Int)==(b.1,b.2.1)with
  |false=>
   rw[m]at h;simp[k,l,h,i,j]
  |true=>
   rw[m]at h;simp[k,l,h,n,y,i,j]
   by_cases z:a.2.2=b.2.2<;>simp[z]
 |[],d=>simp at d
 |[_],d=>simp at d
 |_::_::_::_,d=>simp at d
def vf.check(d:vf P t t2 ti)(e:Nat)(c:Int×Int×Int)(a:World)(f:Bool):(Instr.checkKey f (e+3) t (By c)).run P a= .ok () a:=by
 obtain⟨x,y,b,i,j⟩:=d.hf;have k:=d.PW c a;have l:(isAgg ti).run P a= .ok false a:=cU _ _ _ d.two.ag ⟨_,d.two.ui⟩ a;have m:∀h:Int,(Instr.checkKey f (e+2) ti (XH h)).run P a= .ok () a:=λh=>by simp[Instr.checkKey,run_underlying d.two.ui]
 have n:=d.two.check e (c.1,c.2.1) a f;have o:(part ti #[XH c.1,XH c.2.1,XH c.2.2] 2).run P a= .ok (XH c.2.2) a:=by simp[part,l]
 unfold By;have p:=d.hu;rw[show e+3=(e+2)+1 from rfl];unfold Instr.checkKey;rw[Sem.run_bind,run_underlying p,Result.andThen_ok];generalize z:P.fieldsOf t=g at b;obtain⟨g⟩:=g
 match g,b with
 |[A,B],b=>
  simp only[QY,List.map_nil,List.cons.injEq,Prod.mk.injEq,and_true]at b;obtain⟨⟨q,r,s⟩,u,v,w⟩:=b;simp[q,r,s,u,v,w,k,o,n,m,i,j]
 |[],b=>simp at b
 |[_],b=>simp at b
 |_::_::_::_,b=>simp at b
def vf.key(a:vf P t t2 ti):ic P t By:=
 ic.struct a.hu (λb c=>rfl) (λb c d=>a.equalIn 9997 b c d) (λe d f=>a.check 9997 e d f) (λg b=>by unfold By;simp[Instr.sameBits]) λ{b c} a=>by
  unfold By at a;simp only[Value.agg.injEq,Array.mk.injEq,List.cons.injEq,Value.int.injEq,and_true,true_and]at a;exact Prod.ext a.1 (Prod.ext a.2.1 a.2.2)
end
end Go.aw
namespace Go.Proofs.YtblabbpipmodgaaGreatDoor
open Go.aw
abbrev DK:Int×Int->Value:=ob
def KM:II XP 39 3:=⟨kR,kR,⟨ "Origin", "Seq",kR,dC,dC⟩,kR,kR,kR⟩
def UX:ic XP 39 DK:=KM.key
abbrev qO:aj:=⟨0,0,0,[],0,0,0,0,0,0⟩
abbrev js(P:aj)(a:ZH)(b c:Nat):Value:=.agg (aD P a b c).toArray
def PL:lZ XP 181 39 55 (js qO none 0 0):=⟨kR,kR⟩
def jK{d:World}{D:XN}:∀{P:List Int} {cs:List Value},bJ aM d D P cs↔cs=ints P/\∀x∈P,aN x
 |[],cs=>by simp[bJ,ints]
 |x::P,cs=>by
  constructor
  ·rintro⟨h,i,rfl,⟨rfl,e⟩,f⟩
   obtain⟨rfl,g⟩:=jK.1 f;exact⟨rfl,λb a=>by rcases Q2.1 a with rfl|a;exact e;exact g b a⟩
  ·rintro⟨rfl,c⟩
   exact⟨[XH x],ints P,rfl,⟨rfl,c x (QV ..)⟩,jK.2 ⟨rfl,λb a=>c b (QJ _ a)⟩⟩
variable{e:Int}{t:List Int}{F a c i n:Nat}{f:XN}{d:ZH}{h:Program}{g o:TypeId}{u:Value}{l s:XR}{b k:World}{x:XU}{m:aj}
def PM(h:aT aM g f b d a c t)(o:i<t.length)(p:aN e)(q:d=some ⟨n,F,none⟩)(j:∀P,aT aM g f P d a c (t.set i e)->ak (λn=>aI d=some n) b P->P.heap.size=b.heap.size->x P):PS b ⟨n,F+i,none⟩ (XH e) x:=by
 obtain⟨cs,D,r,s,u⟩:=h.body;obtain⟨rfl,k⟩:=jK.1 s;refine r.set (m:=i) (by rw[iI];exact o) q λP v w m=>j P ⟨⟨_,D,v,jK.2 ⟨?_,?_⟩,u⟩,h.self,λn k=>by rw[m];exact h.aF n k⟩ w m
 ·unfold ints;rw[List.map_set]
 ·intro y l
  rcases List.mem_or_eq_of_mem_set l with l|rfl
  ·exact k y l
  ·exact p
def RP(c:World)(D:XN)(d:Value)(P:aj):Prop:=∃a b e,d=js P a b e/\Row aM 8 c D a b P.aQ/\P.Ok
def RP.af{S D:XN}(a:RP b D u m)(c:ak S b k)(d:∀P,D P->¬S P):RP k D u m:=by
 obtain⟨e,f,g,h,i,j⟩:=a;exact⟨e,f,g,h,i.af c d,j⟩
def RP.mono{D P:XN}(c:RP b D u m)(d:∀a,D a->P a):RP b P u m:=by
 obtain⟨e,f,g,h,i,j⟩:=c;exact⟨e,f,g,h,i.mono d,j⟩
def Bg:qO.Ok:=by constructor<;>simp[aN]
def lR{D:XN}(i:Row aM 8 b D d a m.aQ)(u:∀P,D P->P<b.heap.size):
  ZG 142 #[js m d a c] b (Ok λv j=>∃d a c G,v=js m d a c/\Row aM 8 j G d a m.aQ/\(∀P,G P->b.heap.size<=P/\P<j.heap.size)/\ai b j):=by
 have w:=i.dB;have x:=i.len;refine xS (PA.mk λA o B f=>PA.mk λC g E k=>⟨_,_,_,ae (g.get f id) rfl,PC.ok (b_ (i.ah (o.then g)) λP e=>by have:=u P e;omega) ?_⟩);rintro _ F ⟨p,q,r,G,rfl,s,h,l⟩;have f:=h.get (g.get f id) id;have k:=h.get k id;refine⟨_,_,_,rfl,PS.mk f (by simp[aD]) λH n I y=>?_⟩;refine ar (cs:=aD m p q r) (aZ _ _ _ _) y (aB (aZ _ _ _ _) (n.get k oM) rfl λJ t K z=>ar (aZ _ _ _ _) z (Ok.mk ⟨p,q,r,G,rfl,?_,?_,?_⟩))
 ·refine(((s.af n λP e=>?_).af t λP e=>?_).row (bytes:=8) dC (by rw[<-x];exact w))
  ·have:=l P e;omega
  ·have:=l P e;omega
 ·intro P e
  have:=l P e;have:=s.aF P e;omega
 ·have L:=h.size
  exact((ak.new ((o.then g).then h) n λP e=>.inr oM).new t λP e=>.inr oM)
structure PN where
 a:ZH
 n:Nat
 c:Nat
 r:Nat
 V:XN
 D:XN
 l:List ((Int×Int)×Value)
 L:List ((Int×Int)×aj)
structure qu (w:World) (p:Nat) (F:XN) (S:au) (q:PN):Prop where
 at':w.heap[p]? =some (.cells #[.slice q.a q.n q.c,.map (some q.r),XH S.top] 183 (0,0))
 vec:aT aM 3 q.V w q.a q.n q.c S.vec
 map:bR w q.r DK q.l
 rel:e_ (RP w q.D) q.l q.L
 key:∀x∈q.L,x.1=bd x.2
 UF:(q.L.map (·.2)).Perm S.l
 aF:∀b,F b->b<w.heap.size
 sub:∀b,b=p\/b=q.r\/q.V b\/q.D b->F b
 UG:p≠q.r
 TO:¬q.V p/\¬q.V q.r
 UH:¬q.D p/\¬q.D q.r
 V_:∀b,q.V b->¬q.D b
def cC(a:World)(b:Nat)(c:XN)(P:au):Prop:=P.OK/\∃d,qu a b c P d
section
variable {w w' w1:World} {p:Nat} {F T:XN} {S:au} {q:PN}
def qu.af(P:qu w p F S q)(b:ak T w w')(d:∀a,F a->¬T a):qu w' p F S q:=
 ⟨b.get P.at' (d p (P.sub p (.inl rfl))),P.vec.af b λa c=>d a (P.sub a (.inr (.inr (.inl c)))),P.map.af b (d _ (P.sub _ (.inr (.inl rfl)))),
  P.rel.mono λf g e=>e.af b λa c=>d a (P.sub a (.inr (.inr (.inr c)))),P.key,P.UF,λa c=>Qk (P.aF a c) b.size,P.sub,P.UG,P.TO,P.UH,P.V_⟩
def qu.ah(P:qu w p F S q)(a:ai w w'):qu w' p F S q:=P.af a λ_ _ P=>P
def cC.af(P:cC w p F S)(b:ak T w w')(c:∀a,F a->¬T a):cC w' p F S:=⟨P.1,P.2.imp λq d=>d.af b c⟩
def cC.ah(P:cC w p F S)(a:ai w w'):cC w' p F S:=P.af a λ_ _ P=>P
def cC.aF(a:cC w p F S):∀P,F P->P<w.heap.size:=a.2.elim λq b=>b.aF
def qu.tidy(P:qu w p F S q):Tidy q.L:=by
 have:=P.map.tidy;unfold Tidy at*;rw[<-P.rel.keys];exact this
def qu.len(P:qu w p F S q):q.n=S.n:=by rw[P.vec.len dC,S.bN]
def qu.UI(P:qu w p F S q)(a:S.OK):Row aM 8 w q.V q.a q.n S.vec:=P.vec.row dC (by rw[S.bN];have:=a.n;unfold aO;omega)
def qu.look(a:qu w p F S q)(d:S.OK)(P:Int×Int):(az q.l P=none/\S.get P=none)\/∃b c,az q.l P=some b/\S.get P=some c/\RP w q.D b c:=by
 rw[<-It d a.key a.UF a.tidy P];exact a.rel.az P
def kO(P:cC w p F S):ZG 48 #[XL p] w (Ok (oK aM 3 w S.vec)):=by
 obtain⟨a,q,P⟩:=P;refine vy ⟨p,0,rfl,_,_,_,ae P.at' rfl,PC.ok (b_ (P.UI a) λb c=>P.vec.aF b c) ?_⟩;rintro _ j ⟨d,e,f,G,rfl,g,h,i⟩;exact⟨_,_,_,rfl,Ok.mk ⟨d,e,f,G,rfl,g,h,i⟩⟩
def FL(P:cC w p F S):ZG 90 #[XL p] w (Ok λa w'=>a= XH S.top/\w=w'):=by
 obtain⟨b,q,P⟩:=P;exact vC ⟨p,0,rfl,_,ae P.at' rfl,Ok.mk ⟨rfl,rfl⟩⟩
def PO(r:cC w p F S){D:XN}(s:Row aM 8 w D d a m.aQ)(he:m.Ok)(hn:m.aQ.length=S.n){o:Nat}(ho:o<S.n):
  ZG 141 #[XL p,js m d a c,XH (o:Int)] w (Ok λk w'=>k= .bool (S.lv m o)/\ai w w'):=by
 obtain⟨t,q,r⟩:=r;have b1:=s.len;have hN:=t.n;refine tP (PA.mk λw1 j s1 L=>?_);have Z:=s.ah j;obtain⟨u,v,g,ha,hx,-,hc⟩:=Z.lu (i:=o) oM;have M:m.aQ.getD o 0=g:=by rw[QQ,hx];rfl
 refine⟨_,_,_,ae L rfl,u,v,ha,oM,oM,g,hc,an.dO (λx=>Ok.mk ⟨?_,j⟩) (λx=>?_)⟩
 ·unfold au.lv;simp only[M,x];rfl
 have y:=r.ah j;have e:∀{z:Bool} {w':World},ai w w'->(match S.get (o,g)with
  |none=>false
  |some b=>decide (b.aA<m.aA)&&(List.range b.aQ.length).all λi=>decide (b.aQ.getD i 0<=m.aQ.getD i 0))=z->Ok (λk w'=>k= .bool (S.lv m o)/\ai w w') (.returned (.bool z)) w':=λ{z w'} hg hy=>by
  refine Ok.mk ⟨?_,hg⟩;unfold au.lv;simp only[M];rw[<-hy,show(g==0)=false by simpa using x]
  rfl
 refine⟨p,0,rfl,_,ae y.at' rfl,l_ (enc:=DK) (k:=((o:Int),g)) PL UX y.map ?_⟩;rcases y.look t (o,g)with⟨A,h⟩|⟨k,b,A,h,N,l,O,rfl,a0,b2⟩
 ·rw[A]
  refine bX (qN qO none 0 0) ⟨_,rfl,PA.mk λw2 B s2 C=>aB (aZ qO none 0 0) C rfl λE H s3 I=>an.tt rfl (e (j.then ((B.then (ak.refl _)).new H λu hb=>.inr oM)) ?_)⟩;rw[h]
 ·rw[A]
  refine bX (qN b N l O) ⟨_,rfl,PA.mk λw2 B s2 C=>aB (aZ b N l O) C rfl λE H s3 I=>an.ff rfl ?_⟩;have J:ai w1 E:=(B.then (ak.refl _)).new H λu hb=>.inr oM;have n:=j.then J;have Q:=J.get L id;have a1:=au.get_some h;have b3:b.aQ.length=S.n:=by have:=qz (t.US b a1.1);omega
  refine⟨_,ae I rfl,_,ae Q rfl,an.dec (λhl=>e n ?_) (λhl=>?_)⟩
  ·rw[h]
   simp only[Bool.and_eq_false_iff,decide_eq_false_iff_not];left;omega
  have a2:=s.ah n;have R:=a0.ah J;have b6:=R.len;refine⟨_,_,_,ae I rfl,λT i w'=>∃P:Nat,i=P/\P<=l/\T=l-P/\(∀f,f<P->b.aQ.getD f 0<=m.aQ.getD f 0)/\E=w',⟨_,0,rfl,Qj _,rfl,λf K=>oM,rfl⟩,?_⟩;rintro T i _ _ ⟨P,rfl,hj,rfl,U,rfl⟩;refine an.dec (λb7=>?_) (λb8=>?_)
  ·obtain⟨b4,o4,V,a3,a4,-,a5⟩:=R.lu (i:=P) oM
   obtain⟨b5,o5,W,a6,a7,-,a8⟩:=a2.lu (i:=P) oM;have X:b.aQ.getD P 0=V:=by rw[QQ,a4];rfl
   have Y:m.aQ.getD P 0=W:=by rw[QQ,a7];rfl
   refine⟨b4,o4,a3,oM,oM,V,a5,_,_,_,ae Q rfl,b5,o5,a6,oM,oM,W,a8,an.dec (λa9=>e n ?_) (λb9=>?_)⟩
   ·rw[h]
    simp only[Bool.and_eq_false_iff];right;rw[List.all_eq_false];exact⟨P,by simp;omega,by rw[X,Y];simpa using a9⟩
   ·refine⟨_,oM,P+1,aq oM,oM,rfl,λf K=>?_,rfl⟩
    by_cases b0:f=P
    ·subst b0;rw[X,Y];omega
    ·exact U f oM
  ·refine e n ?_
   rw[h];simp only[QK,ZY,Zk];exact⟨oM,λf K=>U f (by simp at K;omega)⟩
def Qo(e:cC w p F S)(k:Int×Int):
  ZG 232 #[XL p,DK k] w (Ok λz w'=>∃c d f G,z= .tuple #[js ((S.get k).getD qO) c d f,.bool (S.get k).isSome]/\Row aM 8 w' G c d ((S.get k).getD qO).aQ/\(∀P,G P->w.heap.size<=P/\P<w'.heap.size)/\ai w w'):=by
 obtain⟨L,q,e⟩:=e;obtain⟨i,j⟩:=k;refine vP (PA.mk λw1 M s1 l=>PA.mk λA B s2 u=>λm C=>?_);have v:ai A m:=C.af;have s3:m.heap.size=A.heap.size:=by rw[C.heap]
 have l:=v.get (B.get l id) id;have u:=v.get u id;have E:=(M.then B).then v;have x:=e.ah E;have a2:=e.map.lt;have a3:=ay e.at';obtain⟨b,c,d,f,P,g,h,H,N,O⟩:∃(b:aj) (c:ZH) (d f:Nat) (P:Bool),(az q.l (i,j)).getD (js qO none 0 0)=js b c d f/\(az q.l (i,j)).isSome=P/\(S.get (i,j)).getD qO=b/\(S.get (i,j)).isSome=P/\Row aM 8 m q.D c d b.aQ:=by
  rcases x.look L (i,j)with⟨g,h⟩|⟨z,Q,g,h,R,T,U,rfl,V,a4⟩
  ·exact⟨qO,none,0,0,false,by rw[g];rfl,by rw[g];rfl,by rw[h];rfl,by rw[h];rfl,Row.nil _ _⟩
  ·exact⟨Q,R,T,U,true,by rw[g];rfl,by rw[g];rfl,by rw[h];rfl,by rw[h];rfl,V⟩
 have I:∀P,q.D P->P<w.heap.size:=λP a=>e.aF P (e.sub P (.inr (.inr (.inr a))));refine⟨λP=>P=m.heap.size,p,0,rfl,oM,_,ae x.at' rfl,oM,_,_,ae l rfl,ae l rfl,bX (qN b c d f) ⟨P,λw' W=>?_,PA.mk λw4 n s4 X=>⟨ai.af n,aB (aZ b c d f) X rfl λw5 o s5 Y=>⟨o,?_⟩⟩⟩⟩
 ·have:=ei PL UX (x.map.af W oM) (i,j) true
  rw[g,h]at this;exact this
 have Z:=(O.ah n).af o λP a hn=>by have:=I P a;omega
 refine ar (aZ b c d f) Y (PC.ok (lR Z λP a=>by have:=I P a;omega) ?_);rintro _ w6 ⟨r,s,t,G,rfl,a0,J,y⟩;have a1:=y.get (o.get (n.get u id) oM) id;have z6:=y.size;refine bX (qN b r s t) ⟨rfl,aB (aZ b r s t) a1 rfl λw7 K s7 g7=>ar (aZ b r s t) g7 (Ok.mk ⟨r,s,t,G,by rw[H,N],?_,?_,?_⟩)⟩
 ·rw[H];exact a0.af K λP a hn=>by have:=J P a;omega
 ·intro P a;have:=J P a;omega
 ·exact(((E.then n).new o λP a=>.inr oM).then y).new K λP a=>.inr oM
end
section
variable {w w' w1:World} {p:Nat} {F T:XN} {S:au} {q:PN}
def Cz{S:au}:((List.range a).any λP=>!S.lv m P)=false↔∀P,P<a->S.lv m P=true:=by
 simp[List.any_eq_false]
def tB(f:cC w p F S){e:aj}{D:XN}(A:Row aM 8 w D d a e.aQ)(hD:∀P,D P->P<w.heap.size/\¬F P)(he:e.Ok)(hl:S.l.length<4611686018427387904):
  ZG 75 #[XL p,js e d a c] w (Ok λB w'=>B= XH (S.add e).1/\∃C,cC w' p C (S.add e).2/\cK F w C w'):=by
 have fj:=f;obtain⟨E,q,f⟩:=f;have hN:=E.n;have b2:=f.len;have i9:=ay f.at';have j0:=f.map.lt;have d3:=f.UI E;have g:∀{no:Int} {w':World},ai w w'->S.add e=(no,S)->Ok (λB w'=>B= XH (S.add e).1/\∃C,cC w' p C (S.add e).2/\cK F w C w') (.returned (XH no)) w':=λ{no w'} hg ha=>by
  refine Ok.mk ⟨by rw[ha],F,?_,ai.af hg,λP b=>.inl b⟩;rw[ha];exact fj.ah hg
 refine vA (PA.mk λw1 k1 s1 g1=>λw2 d2=>?_);have k2:ai w1 w2:=d2.af;have s2:w2.heap.size=w1.heap.size:=by rw[d2.heap]
 have N:=k1.then k2;have g2:=k2.get g1 id;have h4:=f.ah N;refine ar (aZ e d a c) g2 ⟨p,0,rfl,_,_,_,ae h4.at' rfl,PC.ok (wU (A.ah N) (by rw[b2];omega)) ?_⟩;rintro _ w3 ⟨rfl,O⟩;rw[b2];refine⟨_,rfl,an.dI (λH=>g (N.then O) ?_) (λQ=>?_)⟩
 ·rw[au.add_def,Zx H]
 obtain⟨c1,c5,c3,c6,c7,c8,c9,f0,f1,j1⟩:=qz Q;obtain⟨o,n⟩:∃o:Nat,e.origin=o:=⟨e.origin.toNat,oM⟩
 have I:o<S.n:=oM
 intro w4 d4;have k4:ai w3 w4:=d4.af;have s4:w4.heap.size=w3.heap.size:=by rw[d4.heap]
 have d5:=(N.then O).then k4;have z3:=O.size;have g4:=k4.get (O.get g2 id) id;have b3:=f.ah d5;obtain⟨r,a5,n5,d6,P,m,J,j⟩:∃(r:aj) (d:ZH) (a c:Nat) (P:Bool),(az q.l (bd e)).getD (js qO none 0 0)=js r d a c/\(az q.l (bd e)).isSome=P/\(S.get (bd e)).isSome=P:=by
  rcases b3.look E (bd e)with⟨m,J⟩|⟨B,a0,m,J,b8,n3,c3,rfl,j2,j3⟩
  ·exact⟨qO,none,0,0,false,by rw[m];rfl,by rw[m];rfl,by rw[J];rfl⟩
  ·exact⟨a0,b8,n3,c3,true,by rw[m];rfl,by rw[m];rfl,by rw[J];rfl⟩
 refine⟨λP=>P=w4.heap.size,p,0,rfl,oM,_,ae b3.at' rfl,oM,_,_,ae g4 rfl,ae g4 rfl,bX (qN r a5 n5 d6) ⟨P,λw' K=>?_,PA.mk λw5 k5 s5 g5=>⟨ai.af k5,aB (aZ r a5 n5 d6) g5 rfl λw6 k6 s6 g6=>⟨k6,?_⟩⟩⟩⟩
 ·have:=ei PL UX (b3.map.af K oM) (bd e) true
  rw[m,J]at this;exact this
 have R:ai w w6:=(d5.then k5).new k6 λP b=>.inr oM;have b4:=k6.get (k5.get g4 id) oM;have h5:=f.ah R;refine an.mk (λs=>g R ?_) (λhf=>?_)
 ·rw[au.add_def,Zq (by simpa using Q),Zx (by rw[j,s])]
 obtain⟨c2,o8,x8,h6,d8,-,h7⟩:=(d3.ah R).lu (i:=o) oM;have d9:x8=(S.Ek o:Int):=by rw[S.nP I]at d8;exact(XJ d8).symm
 subst d9;have j4:=S.Pz o;refine⟨_,ae b4 rfl,p,0,rfl,_,_,_,ae h5.at' rfl,_,ae b4 rfl,c2,o8,h6,c1,oM,_,by rw[n];exact h7,λw7 d7=>?_⟩;have k7:ai w6 w7:=d7.af;have s7:w7.heap.size=w6.heap.size:=by rw[d7.heap]
 have b5:=R.then k7;rw[aq oM];refine an.dI (λH=>g b5 ?_) (λe0=>?_)
 ·rw[au.add_def,Zq (by simpa using Q),Zq (by rw[j,hf];simp),Zx]
  rw[n,Qx,S.tD I];simpa using H
 have h8:=f.ah b5;have h9:=k7.get b4 id;have c4:e.seq=S.vec.getD e.origin.toNat 0+1:=by rw[n,Qx,S.tD I];simpa using e0
 have k:∀{a1:Int×au},(if(List.range S.n).any λo=>!S.lv e o then((9:Int),S)else(0,⟨S.n,dw e S.l⟩))=a1->S.add e=a1:=λ{a1} A=>by
  rw[au.add_def,Zq (by simpa using Q),Zq (by rw[j,hf];simp),Zq (by simpa using c4)];exact A
 refine⟨p,0,rfl,_,_,_,ae h8.at' rfl,λa3 i w'=>∃h:Nat,i=h/\h<=S.n/\a3=S.n-h/\(∀l,l<h->S.lv e l=true)/\ai w7 w',⟨_,0,rfl,Qj _,rfl,λl s=>oM,ak.refl _⟩,?_⟩;rintro a3 i _ w8 ⟨h,rfl,hj,rfl,a4,T⟩;have U:=b5.then T;have e1:=T.get h9 id;have z8:=T.size;rw[b2];refine an.dec (λj5=>?_) (λj6=>?_)
 ·refine ar (aZ e d a c) e1 (PC.ok (PO (fj.ah U) (A.ah U) he oM (o:=h) oM) ?_)
  rintro _ w9 ⟨rfl,k9⟩;refine⟨_,rfl,an.not (an.mk (λK=>?_) (λK=>g (U.then k9) (k (Zx ?_))))⟩
  ·refine⟨_,oM,h+1,aq oM,oM,rfl,λl s=>?_,T.then k9⟩
   by_cases i0:l=h
   ·rw[i0];exact K
   ·exact a4 l oM
  ·rw[List.any_eq_true]
   exact⟨h,by simp;omega,by rw[K];rfl⟩
 ·have a6:=k (Zq (by rw[Bool.not_eq_true,Cz];intro l s;exact a4 l oM))
  intro e2 e3;have e4:ai w8 e2:=e3.af;have j7:e2.heap.size=w8.heap.size:=by rw[e3.heap]
  have L:=U.then e4;have V:=e4.get e1 id;have e5:=f.ah L;have i1:=(A.ah L)
  refine⟨λP=>P=q.r,p,0,rfl,f.UG,_,ae e5.at' rfl,oM,_,_,ae V rfl,ae V rfl,ar (aZ e d a c) V (PC.ok (lR i1 λP b=>by have:=(hD P b).1;have:=L.size;omega) ?_)⟩;rintro _ i2 ⟨b7,b9,c0,G,rfl,e6,hG,W⟩;have a7:=L.then W;have X:=f.ah a7;have i8:=L.size;refine bX (qN e b7 b9 c0) ⟨rfl,ai.af W,iy (enc:=DK) (k:=bd e) PL UX X.map λe7 e8 t j8=>⟨t,λe9 f2=>?_⟩⟩;have u:ai e7 e9:=f2.af;have j9:e9.heap.size=e7.heap.size:=by rw[f2.heap]
  have a8:=u.get (t.get X.at' f.UG) id;have a9:=u.get (t.get (W.get V id) oM) id;have b0:=(X.vec.af t λP b e=>f.TO.2 (e▸b)).ah u;obtain⟨f3,f4,i3,a2,b1,-,f6⟩:=(b0.row (bytes:=8) dC (by rw[S.bN];unfold aO;omega)).lu (i:=o) oM;have d0:i3=(S.Ek o:Int):=by rw[S.nP I]at b1;exact(XJ b1).symm
  subst d0;refine⟨p,0,rfl,_,_,_,ae a8 rfl,_,ae a9 rfl,f3,f4,a2,c1,oM,_,by rw[n];exact f6,f3,f4,a2,c1,oM,?_⟩;rw[n,Qx,aq oM];refine PM b0 (by rw[S.bN];exact I) bb a2 λf7 g0 M k0=>λg3 g7=>?_;have v:ai f7 g3:=g7.af;have l0:g3.heap.size=f7.heap.size:=by rw[g7.heap]
  have x:∀P,aI q.a=some P->q.V P:=λP b=>f.vec.self P b;have i4:¬aI q.a=some p:=λe=>f.TO.1 (x p e);have i5:¬aI q.a=some w.heap.size:=λe=>by have:=f.vec.aF _ (x _ e);omega
  have b6:=v.get (M.get a8 i4) id;have g8:=v.get (M.get a9 i5) id;refine⟨p,0,rfl,_,ae b6 rfl,_,ae g8 rfl,p,0,rfl,PS.mk b6 sM λg9 Y l3 i6=>?_⟩;have l4:=W.size;have i7:¬aI q.a=some q.r:=λe=>f.TO.2 (x _ e);refine Ok.mk ⟨by rw[a6],λP=>F P\/G P,?_,?_,?_⟩
  rotate_left
  ·have Z:ak F w g9:=((((ai.af a7).then (t.mono λP _ b=>f.sub P (.inr (.inl b)))).then (ai.af u)).then ((M.mono λP _ b=>f.sub P (.inr (.inr (.inl (x P b))))).then (ai.af v))).then (Y.mono λP _ b=>f.sub P (.inl b))
   exact Z
  ·intro P b;rcases b with b|b
   ·exact .inl b
   ·exact .inr (by have:=hG P b;omega)
  have h3:=(au.yR E he).1;rw[a6]at h3⊢;have y:∀P,G P->P≠p/\P≠q.r/\¬q.V P:=λP b=>by
   have:=hG P b;refine⟨oM,oM,λhv=>?_⟩;have:=f.vec.aF P hv;omega
  refine⟨h3,⟨q.a,q.n,q.c,q.r,q.V,λP=>q.D P\/G P,aK q.l (bd e) (js e b7 b9 c0),aK q.L (bd e) e⟩,?_,?_,?_,?_,?_,?_,?_,?_,f.UG,f.TO,?_,?_⟩
  ·have s:(if e.aA>S.top then e.aA else S.top)=max S.top e.aA:=by split<;>omega
   rw[i6,au.RQ,<-s];rfl
  ·rw[show au.vec ⟨S.n,dw e S.l⟩=S.vec.set o ((S.Ek o+1:Nat):Int) by rw[au.RR S e n];simp]
   exact(g0.ah v).af Y λP b e=>f.TO.1 (e▸b)
  ·exact(((e8.ah u).af M i7).ah v).af Y λe=>f.UG e.symm
  ·have Z:ak (λP=>P=q.r\/aI q.a=some P\/P=p) i2 g9:=((t.mono λP _ b=>.inl b).then (ai.af u)).then (((M.mono λP _ b=>.inr (.inl b)).then (ai.af v)).then (Y.mono λP _ b=>.inr (.inr b)))
   have hd:∀P,q.D P\/G P->¬(P=q.r\/aI q.a=some P\/P=p):=by
    rintro P (b|b) (e|e|e)
    ·exact f.UH.2 (e▸b)
    ·exact f.V_ P (x P e) b
    ·exact f.UH.1 (e▸b)
    ·exact(y P b).2.1 e
    ·exact(y P b).2.2 (x P e)
    ·exact(y P b).1 e
   refine e_.aK ⟨b7,b9,c0,rfl,(e6.mono λP b=>.inr b).af Z hd,he⟩ (X.rel.mono λB f5 hu=>(hu.mono λP b=>.inl b).af Z hd)
  ·intro r j
   rcases eW j with rfl|j
   ·rfl
   ·exact f.key r j
  ·have d1:az q.L (bd e)=none:=by
    rw[It E f.key f.UF f.tidy];have:=j.trans hf;simpa using this
   have:∀z:List ((Int×Int)×aj),az z (bd e)=none->aK z (bd e) e=z++[(bd e,e)]:=by
    intro z
    induction z with
    |nil=>intro _;rfl
    |cons a0 z ih=>
     intro hL;obtain⟨y1,y2⟩:=a0;unfold az at hL;unfold aK;split at hL
     ·cases hL
     ·rename_i H
      rw[Zq H,ih hL];rfl
   rw[this _ d1,Q3];exact(List.perm_append_comm.trans (List.Perm.cons e f.UF)).trans (dj e S.l).symm
  ·intro P b
   rcases b with b|b
   ·have:=f.aF P b;omega
   ·have:=hG P b;omega
  ·rintro P (b|b|b|b|b)
   ·exact .inl (f.sub P (.inl b))
   ·exact .inl (f.sub P (.inr (.inl b)))
   ·exact .inl (f.sub P (.inr (.inr (.inl b))))
   ·exact .inl (f.sub P (.inr (.inr (.inr b))))
   ·exact .inr b
  ·refine⟨?_,?_⟩
   ·rintro(b|b)
    ·exact f.UH.1 b
    ·exact(y _ b).1 rfl
   ·rintro(b|b)
    ·exact f.UH.2 b
    ·exact(y _ b).2.1 rfl
  ·rintro P hv (b|b)
   ·exact f.V_ P hv b
   ·exact(y _ b).2.2 hv
def RS(e:iH h g o 1 8)(b:(h.info? o).bind (·.zero)=some (XH 0))(f:a<=c)(P:c*8<=aO){w:World}(d:∀w',aT aM o (·=w.heap.size) w' (XM w.heap.size) a c (List.replicate a 0)->ai w w'->w'.heap.size=w.heap.size+1->l (.slice (XM w.heap.size) a c) w'):
  aH h (Instr.makeSlice g (XH (a:Int)) (XH (c:Int))) w l s:=by
 unfold aO at P;obtain⟨m,n,i,j,p,q,y⟩:=e.info;have r:n= XH 0:=by
  rw[i]at b;simp only[Option.bind_some,j]at b;exact XJ b
 subst r;have k:=run_make (P:=h) w g o m _ e.under i j .i64 .i64 a c oM oM (by rw[q];omega) oM;rw[Qx,Qx,p,Nat.mul_one]at k;have t:ai w (w.alloc (.cells (madeCells (Value.int .i64 0).cells c) o)):=ak.alloc w _;have u:(madeCells (Value.int .i64 0).cells c).toList=List.replicate c (XH 0):=by
  unfold madeCells;rw[Array.toList_map];apply List.ext_getElem
  ·simp
  ·intro z A B
   simp[Value.cells,Nat.mod_one]
 refine aH.mk k (d _ ⟨⟨List.replicate a (XH 0),λ_=>False,⟨⟨by simp[aM,flat],.inr ⟨w.heap.size,c,_,rfl,Qj _,heap_alloc_new w _,f,by unfold maxLen;omega,by simp[size_madeCells,aM,flat],?_⟩⟩⟩,?_,λ_ d=>d.elim⟩,λv P=>by simpa[aI]using P.symm,λv P=>by subst P;simp⟩ t sM)
 ·rw[u]
  simp only[aM,flat,Nat.mul_one,List.take_replicate];rw[X2 f]
 ·exact jK.2 ⟨by simp[ints],λC x=>by rw[List.eq_of_mem_replicate x];simp[aN]⟩
def Ed(g:a<=64):ZG 72 #[XH (a:Int)] w (Ok λh w'=>∃p F,h= XL p/\cC w' p F ⟨a,[]⟩/\(∀P,F P->w.heap.size<=P)/\ai w w'):=by
 refine Ew (RS rC kR (Q4 _) ba λw1 i j r=>⟨_,_,_,rfl,PA.mk λe f s k=>PA.mk λl c t m=>Ok.mk ⟨_,λP=>w.heap.size<=P/\P<l.heap.size,rfl,⟨au.se g,⟨_,a,a,w1.heap.size,(·=w.heap.size),λ_=>False,[],[]⟩,m,?_,bR.new (c.get k id),trivial,sM,List.Perm.refl _,λP b=>b.2,?_,by show e.heap.size≠w1.heap.size;omega,⟨by show e.heap.size≠_;omega,by show w1.heap.size≠_;omega⟩,⟨id,id⟩,λ_ _ n=>n⟩,λP b=>b.1,(j.then f).then c⟩⟩)
 ·have o:au.vec ⟨a,[]⟩=List.replicate a 0:=by
   apply X3;intro q
   by_cases d:q<a
   ·rw[au.nP ⟨a,[]⟩ d];simp[d,au.Ek]
   ·rw[Q7 (by rw[au.bN];exact Nat.le_of_not_lt d),Q7 bc]
  rw[o];exact(i.ah f).ah c
 ·rintro P (rfl|rfl|rfl|b)
  ·show _/\_;omega
  ·show _<=w1.heap.size/\w1.heap.size<_;omega
  ·omega
  ·exact b.elim
end
end Go.Proofs.YtblabbpipmodgaaGreatDoor
namespace Go.aw
open Go
abbrev FW(P:Option Nat):Fence:={Fence.wide with round:=P}
variable{H:Act}{T:Array Oper}{p:Array Value}{K:Bool}{h1 h2:Bool->XU}{Z:Code}{z:XT}{e4:Exit}{d6:Exit->Act->XU}{a5:Func}{y:FuncId}{b2:List Nat}{a2 e3:List Value}{a c i:Nat}{f:XN}{c8:Obj}{O:Oper}{Q:Operand}{e2:Operand->Value}{c9:Option Nat}{h:Program}{l:XR}{b k:World}{U:bV}{N:cR}{c0:gP}{e1:jC}
def th:CallsIn (FW c9) a h y p b z↔Calls h y p b z:=
 ⟨λP=>callsIn_wide.1 (show CallsIn Fence.wide a h y p b z from P),λP=>show CallsIn (FW c9) a h y p b z from(callsIn_wide (n:=a)).2 P⟩
def RG(P:Nat):(FW c9).room P:=λ_ a=>by simp[Fence.wide]at a
def Np{P:String}(c:Rows h P p b l):RowsIn (FW c9) a h P p b l:=by
 intro d cs _;obtain⟨e,f,g,i⟩:=c d cs;exact⟨e,f,g,(stepsIn_wide (P:=h)).2 i⟩
def u_(P:Oper):Bool:=match P.op with
 | .defer _=>false
 |_=>true
def u_.out(P:u_ O=true):∀a,O.op≠.defer a:=by
 intro a b;unfold u_ at P;rw[b]at P;cases P
section
variable {P:Program} {ro:Option Nat} {n:Nat}
def LJ{next:Act->XU}(d:ro=none\/u_ O=true)(a:O.wp P H b next d6):O.wpIn (FW ro) n P H b next d6:=by
 refine⟨λ_ _=>trivial,?_⟩;have f:O.semAt (FW ro).round H.eval=execOp H.eval O:=by
  rcases d with rfl|d
  ·rfl
  ·exact Oper.semAt_eq _ _ _ (u_.out d)
 rw[f];unfold Oper.wp at a;generalize(execOp H.eval O).run P b=g at a⊢
 cases g with
 |ok e h=>
  cases e with
  |value i=>exact a
  |skip=>exact a
  |defer j=>exact a
  |enter k c=>exact⟨λa=>by simp[Fence.wide]at a,th.2 a⟩
  |row row c=>exact⟨λa=>by simp[Fence.wide]at a,Np a⟩
  |_=>exact a.elim
 |halt e h=>cases e<;>first|exact a|exact a.elim
def qs{b:Array Oper}{g:Exit->Act->XU}(h:∀d c,¬g .outgrown d c)(e:ro=none\/∀i∈b.toList,u_ i=true):∀(f:List Nat) (d:Act) (c:World),wpOps P b g f d c->wpOpsIn (FW ro) n P b g f d c
 |[],d,c,a=>a
 |l::f,d,c,a=>by
  unfold wpOps at a;unfold wpOpsIn
  cases j:b[l]? with
  |none=>rw[j]at a;exact qs h e f d c a
  |some i=>
   rw[j]at a;simp only at a⊢;split
   ·rename_i k
    rw[Zx k]at a;rcases a with a|⟨-,m,o,a⟩
    ·have p:i.wp P d c (wpOpsIn (FW ro) n P b g f) g:=Oper.wp_mono (λd c a=>qs h e f d c a) a
     refine LJ ?_ p;rcases e with e|e
     ·exact .inl e
     ·refine .inr (e i ?_)
      obtain⟨q,rfl⟩:=Q5.1 j;simp
    ·exact Zz a (h m o)
   ·rename_i k
    rw[Zq k]at a;exact⟨λ_ _=>trivial,qs h e f _ c a⟩
end
section
variable {F:Fence} {n:Nat} {P:Program} {Q:Exit->Act->XU} {a:Act} {w:World} {b:Frame} {k:List Item} {cs:List Frame}
def gu:step P (lone (b.atR a (.code (.scope Z)::k)) cs w)= .next (lone (b.atR a (.code Z:: .inScope Z::k)) cs w):=
 step_lone_go (by simp[stepG,stepG.exec,Frame.atR])
def Cv:step P (lone (b.atR a (.inScope Z::k)) cs w)= .next (lone (b.atR a k) cs w):=
 step_lone_go (by simp[stepG,stepG.exec,Frame.atR])
def Kt(o:Z.wpIn F n P (Exit.noGoto Q) a w):(Code.scope Z).wpIn F n P Q a w:=by
 intro b k cs p h i;have e:(lone (b.atR a (.code (.scope Z)::k)) cs w).fenced P F:=fenced_calm h i rfl;obtain⟨q,c,d,f,g⟩:=o b (.inScope Z::k) cs p h i
 cases q with
 |normal=>exact⟨.normal,c,d,f,.head e gu (StepsIn.trans g (.one (fenced_calm h i rfl) Cv))⟩
 |exit id=>
  have m:exitTo id (.inScope Z::k)=exitTo id k:=by simp[exitTo]
  exact⟨.exit id,c,d,f,λr j=>.head e gu (g.1 r (by rw[m];exact j)),
   λl j=>let⟨k₁,h1,h2⟩:=g.2 l (by rw[m];exact j);⟨k₁,h1,.head e gu h2⟩⟩
 |goto s=>exact f.elim
 |ret=>exact⟨_,c,d,f,.of_steps (.one e gu) g⟩
 |panic t=>exact⟨_,c,d,f,.of_steps (.one e gu) g⟩
 |outgrown=>exact⟨_,c,d,f,.of_steps (.one e gu) g⟩
def wpIn_loop_ghost(b:Nat->Act->XU)(c:Nat)(g:b c a w)(d:∀e a w,b e a w->Z.wpIn F n P (Exit.then (λh i=>∃l,l<e/\b l h i) Q) a w):(Code.loop Z).wpIn F n P Q a w:=by
 refine wpIn_loop (λa w=>∃e,b e a w) (λa w=>leastOf (λe=>b e a w)) ⟨c,g⟩ ?_;intro a w m;refine wpIn_mono (d _ a w (leastOf_spec m).1) ?_;intro o h i f
 cases o with
 |normal=>
  obtain⟨j,p,k⟩:=f;exact show(∃n,b n h i)/\leastOf (λn=>b n h i)<leastOf (λn=>b n a w)from⟨⟨j,k⟩,Nat.lt_of_le_of_lt ((leastOf_spec ⟨j,k⟩).2 j k) p⟩
 |exit id=>exact f
 |goto q=>exact f
 |ret=>exact f
 |panic r=>exact f
 |outgrown=>exact f
end
def Ku(A:h.follows .mixedOrders=true){n id:Nat}(B:∀a,a∈writes (.region id T K)->a<n)(p:Rel n U N H)(P:D h e1 (.region id T K) c0 U N H.defers b):
  (K=false->wpOps h T (de n U N (writes (.region id T K)) c0) (List.range T.size) H b)/\
  (K=true->∀a,wpOps h T (de n U N (writes (.region id T K)) c0) (Region.schedule (h.follows .mixedOrders) T a) H {b with drawn:=b.drawn+1}):=by
 have m:∀j∈T.toList,∀k,j.dst=some k->k<n/\k∈writes (.region id T K):=λj g k y=>⟨B k (jM g y),jM g y⟩
 have q:∀r a,iV T r=some a->a<n:=by
  intro r a l;unfold iV at l
  cases g:T[r]? with
  |none=>rw[g]at l;simp at l
  |some j=>
   rw[g]at l;have C:j∈T.toList:=by
    have:=Q5.1 g;obtain⟨O,rfl⟩:=this;simp
   exact(m j C a l).1
 cases K with
 |false=>
  refine⟨λ_=>?_,λP=>by cases P⟩;rw[List.range_eq_range',<-XK,wpOps_eq_wpList T.toList 0 sM];exact yF q T.toList N H b m p (λ_ _=>rfl) P
 |true=>
  refine⟨λP=>(by cases P),λ_ a=>?_⟩;simp only[Region.schedule,A,Bool.true_or,if_true];refine wpAny_sound T.size a _ H _ ?_;unfold D at P;simp only at P;split at P
  ·obtain⟨s,P⟩:=eZ.out P
   simp only[Region.lexB,QK]at s;have E:=pX (B0:=U) (e0:=N) (W:=writes (.region id T true)) q T.toList N H m p (λ_ _=>rfl) P;have F:wpQuiet h T (bQ b) (λo=>∀c,bQ b c->de n U N (writes (.region id T true)) c0 .normal o c) T.toList H:=by
    refine jE ?_ _ _ E;rintro o ⟨I,t,u,J,L⟩ c f;exact⟨U,I,t,J,by rw[u];exact L c f⟩
   refine wpAny_of_quiet (C:=bQ b) (Q:=λo=>∀c,bQ b c->de n U N (writes (.region id T true)) c0 .normal o c) (λ_ c f P=>P c f) _ _ _ _ ⟨1,rfl⟩ ?_;have:=wpAnyQ_lex (C:=bQ b) (md:=.any) s.1 T.toList 0 (Array.replicate T.size false) H sM (by simpa using s.2) F;simpa using this
  ·obtain⟨M,P⟩:=eZ.out P
   have d:∀(e:Bool) (i:XN) (v:Nat->Bool),uJ h U T e i (λw x b=>∀U N,c0 (.panic w) U N x b) (λN x b=>c0 .normal U N x b) v T.size (Array.replicate T.size false) N H.defers (b.drewN 1)->
     wpAny h .any T (de n U N (writes (.region id T true)) c0) T.size (Array.replicate T.size false) H {b with drawn:=b.drawn+1}:=λe i v P=>
    nB (λw H b P=>AH.post w H b P) (λ_ _ P=>P) _ _ _ _ _ (lb (B0:=U) (e0:=N) (W:=writes (.region id T true)) q M m v _ _ N H _ p (λ_ _=>rfl) P)
   split at P
   ·split at P
    ·obtain⟨i,P⟩:=P _ ⟨1,rfl⟩
     exact d _ i _ P
    ·exact d _ _ _ (P _ ⟨1,rfl⟩)
   ·obtain⟨z,P⟩:=eZ.out P
    split at P
    ·obtain⟨i,P⟩:=P _ ⟨1,rfl⟩
     rw[qe z _ _ (EZ.init _)]at P;exact d _ i _ P
    ·have P:=P _ ⟨1,rfl⟩
     rw[qe z _ _ (EZ.init _)]at P;exact d _ _ _ P
def jh(a:Program)(b:Nat)(c:List Value)(d:World)(e:Bool->XU):Prop:=
 YieldAt (FW none) 0 a b c.toArray d λf g=>∃P,f= .returned (.bool P)/\e P g
def jh.mono(g:jh h a a2 b h1)(i:∀c f,h1 c f->h2 c f):jh h a a2 b h2:=by
 obtain⟨j,d,P,e,k,l⟩:=g;exact⟨j,d,P,e,k,l.mono λn f ⟨c,m,g⟩=>⟨c,m,i c f g⟩⟩
def Tz(b:Program)(c:Value)(P:Array Value)(d:World)(e:XR):Prop:=
 ∃a,c= .func (.yield a) #[] #[]/\jh b a P.toList d λf g=>e (.bool f) g
def yI(P:Oper):Option (Operand×Array Operand):=match P.op with
 | .call {callee:=.value (.func _),..}=>none
 | .call {callee:=.value f,args,..}=>some (f,args)
 |_=>none
def PF(e:Program)(b:bV)(c:Array Oper)(i:gP)(d:Oper)(f:cR->List Deferred->XU)(a:cR)(g:List Deferred)(h:World):Prop:=match yI d with
 |some (j,P)=>Tz e (ev b a j) (P.map (ev b a)) h λk l=>f (cd a d.dst k) g l
 |none=>Rp e c b d i f a g h
def qt(c:Program)(b:bV)(P:Array Oper)(d:gP):List Oper->(cR->List Deferred->XU)->cR->List Deferred->XU
 |[],f,e,g,h=>f e g h
 |j::a,f,e,g,h=>match j.guard with
  |none=>PF c b P d j (qt c b P d a f) e g h
  |some (l,i)=>match iV P l with
   |none=>False
   |some k=>match get b e k with
    | .bool m=>an m
     (match i with
      |true=>PF c b P d j (qt c b P d a f) ((k,.bool true)::e) g h
      |false=>qt c b P d a f (cd ((k,.bool true)::e) j.dst undef) g h)
     (match i with
      |true=>qt c b P d a f (cd ((k,.bool false)::e) j.dst undef) g h
      |false=>PF c b P d j (qt c b P d a f) ((k,.bool false)::e) g h)
    | .tuple _=>qt c b P d a f (cd e j.dst undef) g h
    |_=>False
def Kv{P d:Code}(e:RoundIn (FW none) c h i y p P d b z):RoundIn (FW c9) a h i y p P d b z:=
 ⟨trivial,λf cs _=>e.2 f cs (RG _)⟩
def FD{P:Array Operand}{l:Nat}(a:yI O=some (Q,P))(d:e2 Q= .func (.yield l) #[] #[]):
  (execOp e2 O).run h b=(Instr.yield l (P.map e2)).run h b:=by
 unfold yI at a;split at a
 ·cases a
 ·rename_i f c g e
  simp only[Q1,Prod.mk.injEq]at a;obtain⟨rfl,rfl⟩:=a;simp only[execOp,e,resolve,d];simp[Deferred.ofValue,invoke,Sem.run_bind,Sem.run_pure,Result.andThen]
 ·cases a
def vb{w:Program}{B:Option Nat}{L o:Nat}{f t:bV}{u:cR}{l:List Nat}{a:Array Oper}{m:gP}(M:∀n b,iV a n=some b->b<o)(S:∀a1 f P y g,m a1 f P y g->a1≠.outgrown)(v:B=none\/∀e∈a.toList,u_ e=true):
  ∀(N:List Oper) (p:Nat) (P:cR) (j:Act) (g:World),(∀n,N[n]? =a[p+n]?)->(∀e∈N,∀h,e.dst=some h->h<o/\h∈l)->Rel o f P j->(∀b,b∉l->get f P b=get t u b)->
   qt w f a m N (λP y g=>m .normal f P y g) P j.defers g->wpOpsIn (FW B) L w a (de o t u l m) (List.range' p N.length) j g
 |[],p,P,j,g,_,_,k,i,d=>⟨f,P,k,i,d⟩
 |e::c,p,P,j,g,a2,T,k,i,d=>by
  have h0:a[p]? =some e:=by simpa using(a2 0).symm
  have a4:e∈a.toList:=by
   obtain⟨a7,rfl⟩:=Q5.1 h0;simp
  have U:∀n,c[n]? =a[p+1+n]? :=λn=>by have:=a2 (n+1);simpa[Nat.add_assoc,Nat.add_comm 1 n]using this
  have V:∀h,e.dst=some h->h<o:=λh v=>(T e (QV ..) h v).1;have W:∀(P:cR),(∀b,b∉l->get f P b=get t u b)->∀C b,b∉l->get f (cd P e.dst C) b=get t u b:=by
   intro P i C b X
   cases v:e.dst with
   |none=>exact i b X
   |some h=>
    have a5:=(T e (QV ..) h v).2;show get f ((h,C)::P) b=_;rw[dZ,Zq (by rintro rfl;exact X a5)];exact i b X
  have z:∀e∈c,∀h,e.dst=some h->h<o/\h∈l:=λe ho=>T e (QJ _ ho);have A:∀(P:cR),Rel o f P j->(∀b,b∉l->get f P b=get t u b)->PF w f a m e (qt w f a m c λP y g=>m .normal f P y g) P j.defers g->
    e.wpIn (FW B) L w j g (wpOpsIn (FW B) L w a (de o t u l m) (List.range' (p+1) c.length)) (de o t u l m):=λP k i d=>by
   unfold PF at d;split at d
   ·rename_i a8 E q
    obtain⟨Y,hf,fn,F,x,H,h1,h2⟩:=d;refine⟨λ_ _=>trivial,?_⟩;have Z:∀a3,e.op≠.defer a3:=by
     intro a3 Z;unfold yI at q;rw[Z]at q;cases q
    rw[Oper.semAt_eq _ _ _ Z,k.eval,FD (l:=Y) q hf];have a6:(Instr.yield Y (E.map (ev f P))).run w g= .ok (.round Y fn F x H) g:=by
     have:=h1
     rwa [Array.toArray_toList]at this
    rw[a6,Oper.uponIn_round];refine⟨λd=>by simp[Fence.wide]at d,(Kv h2).mono ?_⟩;rintro _ w' ⟨I,rfl,hK⟩;exact vb M S v c (p+1) _ _ _ U z (k.put _ V _) (W P i _) (by rw[put_defers];exact hK)
   ·refine LJ (v.imp id λv=>v e a4) ?_
    exact JU k V d (λC a' w' a0 hK=>vb M S v c (p+1) _ _ _ U z a0 (W P i C) hK) (λch w' hq=>⟨f,P,k,i,hq⟩)
  have r:∀(P:cR),Rel o f P j->(∀b,b∉l->get f P b=get t u b)->qt w f a m c (λP y g=>m .normal f P y g) (cd P e.dst undef) j.defers g->
    wpOpsIn (FW B) L w a (de o t u l m) (List.range' (p+1) c.length) (j.put e.dst undef) g:=λP k i d=>
   vb M S v c (p+1) _ _ _ U z (k.put _ V _) (W P i _) (by rw[put_defers];exact d)
  simp only[Xq,List.range'_succ];unfold wpOpsIn;rw[h0];simp only;unfold qt at d;split at d
  ·rename_i O
   rw[Zx (by simp[Region.wanted,O])];exact A P k i d
  ·rename_i n s O
   split at d
   ·exact d.elim
   ·rename_i b hj
    have q:=nz k hj (M n b hj);split at d
    ·rename_i I J
     rw[J]at q;simp only at q;have hw:Region.wanted e (yielded a j.tmps)=(I==s):=by
      simp only[Region.wanted,O,q]
      cases I<;>cases s<;>rfl
     rw[hw];have Q:=k.again J;have R:∀K,K∉l->get f ((b,.bool I)::P) K=get t u K:=λK hu=>by rw[qD J];exact i K hu
     cases I<;>cases s<;>simp only[an]at d
     ·exact A _ Q R d
     ·exact⟨λ_ _=>trivial,r _ Q R d⟩
     ·exact⟨λ_ _=>trivial,r _ Q R d⟩
     ·exact A _ Q R d
    ·rename_i vs J
     rw[J]at q;simp only at q;have hw:Region.wanted e (yielded a j.tmps)=false:=by
      simp[Region.wanted,O,q]
     rw[hw];exact⟨λ_ _=>trivial,r _ k i d⟩
    ·exact d.elim
def ph(b:Nat)(P a:World):Prop:=ak (λc=>c=b) P a/\a.heap.size=P.heap.size
def pB(P:Nat)(a:World):Prop:=a.heap[P]? =some (.deferred (some []))
def LK(P:Nat):Deferred:={target:=.collected P,args:= #[]}
def Kw:List Value->(List Value->Prop)->Prop
 |[],P=>P []
 |z::c,P=>match z with
  | .agg cs=>lN cs.toList λa=>Kw c λb=>P (.agg a.toArray::b)
  |z=>lN [z] λa=>Kw c λb=>P (a++b)
def mU(P:World):XN:=λa=>a≠P.heap.size/\a≠P.heap.size+1
def sr(a b:List Value):Prop:=∀P:List Value->Prop,Kw a P->P b
def Nq:List (Exit×(XU))->(Exit->(XU)->Prop)->Prop
 |[],_=>True
 |(a,b)::c,P=>P a b/\Nq c P
def UB(P:Exit->XU):List Exit->List (Exit×(XU))
 |[]=>[]
 |x::a=>(x,λb=>P x b)::UB P a
def UW(P:Exit):List (Exit×(XU))->Prop
 |[]=>False
 |(a,_)::b=>P=a\/UW P b
def Nq.out{b:Exit->XU}{φ:Exit->(XU)->Prop}:∀{l:List Exit},Nq (UB b l) φ->∀P,UW P (UB b l)->P∈l/\φ P (λc=>b P c)
 |[],_,P,a=>a.elim
 |y::i,d,P,a=>by
  obtain⟨e,f⟩:=d;rcases a with rfl|a
  ·exact⟨QV ..,e⟩
  ·obtain⟨g,h⟩:=Nq.out f P a
   exact⟨QJ _ g,h⟩
def ED(n:Program)(v:Value)(w:List Value)(b:World)(y:(List Value->Prop)->(List Value->Exit->XU)->XU)(z:XU)(p:List (Exit×(XU))):Prop:=
 ∃o l,v= .func (.func o) #[] l/\enters n o=true/\
 ∃(q:Type) (r:q) (g:q->List (List Value)->XU) (k:Exit->List (List Value)->XU) (s:List (List Value)->List Value->Prop) (t:List (List Value)->Prop),
  (∀i,ak (λ_=>False) b i->i.heap.size=b.heap.size+2->g r [] i)/\
  (∀c P a e,g c P a->ph (b.heap.size+1) a e->g c P e)/\
  (∀x P a e,k x P a->ph (b.heap.size+1) a e->k x P e)/\
  (∀c P a,g c P a->b.heap.size+2<=a.heap.size->y (s P) (λh x d=>match x with
   | .normal=>g c (P++[h]) d
   |x=>UW x p/\k x (P++[h]) d) a)/\
  (∀(j:XU) (m:Exit->XU),(∀a e,j a->ak (mU b) a e->j e)->(∀x a e,m x a->ak (mU b) a e->m x e)->
   (∀a,j a->b.heap.size+2<=a.heap.size)->
   (∀c P h a,g c P a->j a->sr w h->s P h->jh n (b.heap.size+1) h a λu d=>(u=true/\g c (P++[h]) d/\j d)\/(u=false/\∃x,k x (P++[h]) d/\m x d))->
   ∀i,g r [] i->j i->Calls n o (#[.func (.yield (b.heap.size+1)) #[] #[]]++l) i λA d=>(∃B,A= .returned B)/\((j d/\∃c f,g c f d/\t f)\/∃x P,k x P d/\m x d))/\
  (∀c f a,g c f a->t f->pB b.heap.size a->z a)/\
  Nq p λx C=>∀P a,k x P a->pB b.heap.size a->C a
def LM:List Nat->List Value->cR->cR
 |a::b,c::d,P=>LM b d ((a,c)::P)
 |_,_,P=>P
def Nr:List (Nat×Value)->List Nat
 |[]=>[]
 |(P,_)::a=>P::Nr a
def gZ:Code->Bool
 | .region _ a _=>a.toList.all u_
 | .seq b c=>gZ b&&gZ c
 | .cond _ b c=>gZ b&&gZ c
 | .block _ P=>gZ P
 | .loop P=>gZ P
 | .scope P=>gZ P
 | .rangeFunc .. =>false
 |_=>true
def fT:Code->List Exit
 | .exit id=>[.exit id]
 | .ret=>[.ret]
 | .seq a b=>fT a++fT b
 | .cond _ a b=>fT a++fT b
 | .block _ P=>fT P
 | .loop P=>fT P
 | .scope P=>fT P
 |_=>[]
def PG:Exit->Code
 | .ret=>.ret
 | .exit id=>.exit id
 | .goto P=>.goto P
 |_=>.skip
def TA(P:Exit->XU):gP:=λb _ _ _ a=>match b with
 | .normal=>P .normal a
 | .ret=>P .ret a
 | .exit id=>P (.exit id) a
 |_=>False
def DR(g:Program)(f:jC)(h:List Nat):Bool->Code->gP->bV->cR->List Deferred->XU
 |_,.skip,d,c,P,b,a=>d .normal c P b a
 |_,.label _,d,c,P,b,a=>d .normal c P b a
 |_,.exit id,d,c,P,b,a=>d (.exit id) c P b a
 |_,.ret,d,c,P,b,a=>d .ret c P b a
 |_,.region id q p,d,c,P,b,a=>match Cp h id with
  |true=>(match p with
   |false=>qt g c q d q.toList (λP b a=>d .normal c P b a) P b a
   |true=>False)
  |false=>D g f (.region id q p) d c P b a
 |top,.seq i l,d,c,P,b,a=>match MT f.OJ (key l)with
  |none=>DR g f h top i (AK (λc P b a=>DR g f h top l d c P b a) d) c P b a
  |some e=>∃x:Fn (gU e) (XU),DR g f h top i (AK (λm s k j=>AJ k b (ap (gU e) x (yo m s e) j)) d) c P b a/\
    eL (writes i) P λu=>lN (gU e) λn=>∀(m:bV) (j:World),ap (gU e) x n j->DR g f h top l d m (xd e n u) b j
 |top,.cond o i l,d,c,P,b,a=>match ev c P o with
  | .bool A=>an A (DR g f h top i d c P b a) (DR g f h top l d c P b a)
  |_=>False
 |top,.block id o,d,c,P,b,a=>DR g f h top o (wj id d) c P b a
 |top,.scope o,d,c,P,b,a=>DR g f h top o (E_ d) c P b a
 |top,.loop o,d,c,P,b,a=>match MT f.loops (key o)with
  |none=>False
  |some e=>∃v:Nat->Fn (gU e) (XU),(∃t,ap (gU e) (v t) (yo c P e) a)/\
    ∀t,eL (writes o) P λu=>lN (gU e) λn=>∀(m:bV) (j:World),ap (gU e) (v t) n j->
     DR g f h top o (AK (λm s k j=>AJ k b (∃y,y<t/\ap (gU e) (v y) (yo m s e) j)) d) m (xd e n u) b j
 |top,.rangeFunc B C i l,d,c,P,b,a=>match top with
  |false=>False
  |true=>match MT f.loops (key l)with
   |none=>False
   |some e=>eZ (MS (Nr e) C.toList&&(gZ i&&gZ l)) (ED g (ev c P B) (gU e) a
     (λE F r=>Kw (gU e) λn=>E n->DR g f h false i (AK (λm s k j=>ak (mU a) r j/\∀w,ph (a.heap.size+1) j w->DR g f h false l (TA λi z=>ak (mU a) w z/\F n i z) m s k w) (λ_ _ _ _ _=>False)) c (LM (Nr e) n P) [] r)
     (λr=>d .normal c P (LK a.heap.size::b) r) (UB (λi r=>d i c P (LK a.heap.size::b) r) (fT l)))
 |_,_,_,_,_,_,_=>False
def kr:Code->List Nat
 | .region _ c _=>Df c.toList
 | .seq P a=>kr P++kr a
 | .cond _ P a=>kr P++kr a
 | .block _ b=>kr b
 | .loop b=>kr b
 | .scope b=>kr b
 | .rangeFunc _ d P a=>d.toList++(kr P++kr a)
 |_=>[]
def PH:∀(a:List Value) (c:List Value->Prop),(∀P,P.length=a.length->c P)->Kw a c:=by
 have e:∀(a:List Value) (c:List Value->Prop),(∀P,P.length=a.length->c P)->lN a c:=by
  intro a
  induction a with
  |nil=>intro c b;exact b [] rfl
  |cons h a f=>
   intro c b
   cases h
   case pointer i=>cases i<;>simp only[lN]<;>intros<;>exact f _ λP d=>b _ (by simp[d])
   all_goals(simp only[lN];intros;exact f _ λP d=>b _ (by simp[d]))
 intro a
 induction a with
 |nil=>intro c b;exact b [] rfl
 |cons h a f=>
  intro c b
  cases h
  case pointer i=>cases i<;>(simp only[Kw];exact e [_] _ λP d=>f _ λk g=>b _ (by have j:P.length=1:=d;simp[j,g,Nat.add_comm]))
  case agg cs=>exact e cs.toList _ λP d=>f _ λk g=>b _ (by simp[g])
  all_goals(simp only[Kw];exact e [_] _ λP d=>f _ λk g=>b _ (by have j:P.length=1:=d;simp[j,g,Nat.add_comm]))
def sr.len(P:sr a2 e3):e3.length=a2.length:=P _ (PH a2 _ λ_ P=>P)
def Ig:∀P:List (Nat×Value),(Nr P).length=(gU P).length
 |[]=>rfl
 |(_,_)::a=>by simp[Nr,gU,Ig a]
def DH{f:Nat}{j:bV}:∀(c:List Nat) (a:List Value) (d:cR) (P:Array Value),(∀b∈c,b<f)->a.length=c.length->Rel f j d {tmps:=P,defers:=[]}->
  Rel f j (LM c a d) {tmps:=(c.zip a).foldl (λb (k:Nat×Value)=>b.setIfInBounds k.1 k.2) P,defers:=[]}
 |[],a,d,P,_,e,g=>by
  cases a with
  |nil=>exact g
  |cons h a=>simp at e
 |b::c,a,d,P,l,e,g=>by
  cases a with
  |nil=>simp at e
  |cons h a=>
   exact DH c a ((b,h)::d) _ (λm i=>l m (QJ _ i)) (by simpa using e) (g.put (some b) (λm i=>by cases i;exact l b (QV ..)) h)
def Ih:∀(a:Code) (b:Exit),b∈fT a->b= .ret\/∃id,b= .exit id:=by
 intro a
 induction a with
 |exit id=>intro b P;simp only[fT,List.mem_singleton]at P;exact .inr ⟨id,P⟩
 |ret=>intro b P;simp only[fT,List.mem_singleton]at P;exact .inl P
 |seq b g c d=>intro e P;exact(Q6.1 P).elim (c e) (d e)
 |cond a b g c d=>intro e P;exact(Q6.1 P).elim (c e) (d e)
 |block id a f=>exact f
 |loop a f=>exact f
 |scope a f=>exact f
 |_=>intro e P;cases P
def i_{w:World}{l:Nat}{o:Obj}:ph l w (w.putObj l o):=
 ⟨⟨rfl,rfl,rfl,sM,λa _ P=>World.putObj_heap_other P⟩,sM⟩
def ak.obj(c:ak f b k)(P:b.heap[a]? =some c8)(d:¬f a):k.heap[a]? =some c8:=
 (c.block a (Q5.1 P).1 d).trans P
def de.of(P:Rel a U N H)(c:c0 e4 U N H.defers b):de a U N b2 c0 e4 H b:=⟨U,N,P,λ_ _=>rfl,c⟩
def UC(hm:h.follows .mixedOrders=true){n m:Nat}:∀(I:Code) (r:Option Nat) (d:Bool) (t:gP) (e:bV) (f:cR) (l:Act) (b:World),
  (r=none\/(d=false/\gZ I=true))->(∀a,a∈kr I->a<n)->(∀u e f Y b,t u e f Y b->u≠.outgrown)->Rel n e f l->DR h e1 b2 d I t e f l.defers b->I.wpIn (FW r) m h (de n e f (writes I) t) l b:=by
 intro I
 induction I generalizing m with
 |skip=>intro r d t e f l b _ _ _ k P;exact wpIn_skip (de.of k P)
 |label a0=>intro r d t e f l b _ _ _ k P;exact wpIn_label (de.of k P)
 |exit id=>intro r d t e f l b _ _ _ k P;exact wpIn_exit (de.of k P)
 |ret=>intro r d t e f l b _ _ _ k P;exact wpIn_ret (de.of k P)
 |goto a0=>intro r d t e f l b _ _ _ k P;exact P.elim
 |refuse uP=>intro r d t e f l b _ _ _ k P;exact P.elim
 |scope I ih=>
  intro r d t e f l b C y J k P;refine Kt (wpIn_mono (ih r d (E_ t) e f l b C y (by intro q e f Y b c Q;subst Q;exact J _ _ _ _ _ c rfl) k P) ?_);intro q v x o;obtain⟨z,w,B,F,c⟩:=o
  cases q with
  |goto a0=>exact c.elim
  |normal=>exact⟨z,w,B,F,c⟩
  |exit id=>exact⟨z,w,B,F,c⟩
  |ret=>exact⟨z,w,B,F,c⟩
  |panic ch=>exact⟨z,w,B,F,c⟩
  |outgrown=>exact⟨z,w,B,F,c⟩
 |region id A Z=>
  intro r d t e f l b C y J k P;have hd:r=none\/∀V∈A.toList,u_ V=true:=C.imp (λP=>P) λP=>by
   have:=P.2;unfold gZ at this;exact ZY.1 this
  have d1:∀v x,¬de n e f (writes (.region id A Z)) t .outgrown v x:=λl b ⟨e,f,_,_,c⟩=>J _ _ _ _ _ c rfl;unfold DR at P;split at P
  ·split at P
   ·have W:∀V∈A.toList,∀a5,V.dst=some a5->a5<n/\a5∈writes (.region id A false):=λV ho a5 hd=>⟨y a5 (jM ho hd),jM ho hd⟩
    have e9:∀c4 a,iV A c4=some a->a<n:=by
     intro c4 a N;unfold iV at N
     cases ho:A[c4]? with
     |none=>rw[ho]at N;simp at N
     |some V=>
      rw[ho]at N;have f0:V∈A.toList:=by
       obtain⟨d2,rfl⟩:=Q5.1 ho;simp
      exact(W V f0 a N).1
    refine wpIn_region ?_;rw[List.range_eq_range',<-XK];exact vb e9 J hd A.toList 0 f l b sM W k (λ_ _=>rfl) P
   ·exact P.elim
  ·obtain⟨h1,h2⟩:=Ku hm (n:=n) y k P
   cases Z with
   |false=>exact wpIn_region (qs d1 hd _ _ _ (h1 rfl))
   |true=>exact wpIn_region_draw λa=>qs d1 hd _ _ _ (h2 rfl a)
 |seq u R K L=>
  intro r d t e f l b C y J k P;have b4:r=none\/(d=false/\gZ u=true):=C.imp (λP=>P) λP=>⟨P.1,by have:=P.2;simp only[gZ,QK]at this;exact this.1⟩
  have b5:r=none\/(d=false/\gZ R=true):=C.imp (λP=>P) λP=>⟨P.1,by have:=P.2;simp only[gZ,QK]at this;exact this.2⟩
  have b6:∀a,a∈kr u->a<n:=λa j=>y a (Q6.2 (.inl j));have b7:∀a,a∈kr R->a<n:=λa j=>y a (Q6.2 (.inr j));have g:∀(a3:bV->cR->List Deferred->XU) (q:Exit) (v:Act) (x:World),q≠.normal->de n e f (writes u) (AK a3 t) q v x->de n e f (writes (u.seq R)) t q v x:=by
   intro a3 q v x f4 o;refine o.mono (λa j=>Q6.2 (.inl j)) (λ_ _=>rfl) λz w i8 w1 c=>?_
   cases q with
   |normal=>exact Zz rfl f4
   |outgrown=>exact c.elim
   |_=>exact c
  have d3:∀(a3:bV->cR->List Deferred->XU) q e f Y b,AK a3 t q e f Y b->q≠.outgrown:=by
   intro a3 q e f Y b c Q;subst Q;exact c.elim
  unfold DR at P;split at P
  ·have hx:=K (m:=m) r d _ e f l b b4 b6 (d3 _) k P
   refine wpIn_seq (wpIn_mono hx ?_);intro q v x o
   cases q with
   |normal=>
    obtain⟨z,w,B,F,c⟩:=o;have hy:=L (m:=m) r d t z w v x b5 b7 J B c;refine wpIn_mono hy (λq d4 d5 o=>?_);refine o.mono (λa j=>Q6.2 (.inr j)) (λa j=>F a λhm=>j (Q6.2 (.inl hm))) λ_ _ _ _ c=>c
   |exit id=>exact g _ _ _ _ sM o
   |goto a0=>exact g _ _ _ _ sM o
   |ret=>exact g _ _ _ _ sM o
   |panic ch=>exact g _ _ _ _ sM o
   |outgrown=>exact g _ _ _ _ sM o
  ·rename_i H hS
   obtain⟨f5,P,c5⟩:=P;obtain⟨w,h1,h2,c5⟩:=eL.out c5;have hx:=K (m:=m) r d _ e f l b b4 b6 (d3 _) k P;refine wpIn_seq (wpIn_mono hx ?_);intro q v x o
   cases q with
   |normal=>
    obtain⟨B2,e2,O,b8,c⟩:=o;obtain⟨b9,hJ⟩:=AJ.out c;have hv:=mG O H;have a7:=iW B2 e2 H;have d6:=ap.all a7 hJ c5 (λa=>v.tmps.getD a undef) x hJ;rw[hv,<-b9]at d6;have d7:=uO (n:=n) H O.size h1 h2 (B0:=e) (λa j=>(O.slot a).trans (b8 a j));have hy:=L (m:=m) r d t _ _ v x b5 b7 J d7 d6;refine wpIn_mono hy (λq d4 d5 o=>?_);refine o.mono (λa j=>Q6.2 (.inr j)) (λa j=>?_) λ_ _ _ _ c=>c;rw[<-d7.slot];exact(O.slot a).trans (b8 a λhm=>j (Q6.2 (.inl hm)))
   |exit id=>exact g _ _ _ _ sM o
   |goto a0=>exact g _ _ _ _ sM o
   |ret=>exact g _ _ _ _ sM o
   |panic ch=>exact g _ _ _ _ sM o
   |outgrown=>exact g _ _ _ _ sM o
 |cond I u R K L=>
  intro r d t e f l b C y J k P;have b4:r=none\/(d=false/\gZ u=true):=C.imp (λP=>P) λP=>⟨P.1,by have:=P.2;simp only[gZ,QK]at this;exact this.1⟩
  have b5:r=none\/(d=false/\gZ R=true):=C.imp (λP=>P) λP=>⟨P.1,by have:=P.2;simp only[gZ,QK]at this;exact this.2⟩
  unfold DR at P;split at P
  ·rename_i f6 S
   refine wpIn_cond_split (t:=f6) (by rw[k.eval];exact S) (λj=>?_) (λhf=>?_)
   ·subst j
    refine wpIn_mono (K r d t e f l b b4 (λa j=>y a (Q6.2 (.inl j))) J k P) (λq v x o=>?_);exact o.mono (λa j=>Q6.2 (.inl j)) (λ_ _=>rfl) λ_ _ _ _ c=>c
   ·subst hf
    refine wpIn_mono (L r d t e f l b b5 (λa j=>y a (Q6.2 (.inr j))) J k P) (λq v x o=>?_);exact o.mono (λa j=>Q6.2 (.inr j)) (λ_ _=>rfl) λ_ _ _ _ c=>c
  ·exact P.elim
 |block id I ih=>
  intro r d t e f l b C y J k P;refine wpIn_block (wpIn_mono (ih r d (wj id t) e f l b C y (by intro q e f Y b c Q;subst Q;exact c.elim) k P) ?_);intro q v x o;obtain⟨z,w,B,F,c⟩:=o
  cases q with
  |exit a8=>
   show(if a8=id then _ else _);simp only[wj]at c
   cases S:Nat.beq a8 id with
   |true=>
    rw[S]at c;rw[Zx (X9 S)];exact⟨z,w,B,F,c⟩
   |false=>
    rw[S]at c;rw[Zq (by rintro rfl;simp at S)];exact⟨z,w,B,F,c⟩
  |normal=>exact⟨z,w,B,F,c⟩
  |goto a0=>exact⟨z,w,B,F,c⟩
  |ret=>exact⟨z,w,B,F,c⟩
  |panic ch=>exact⟨z,w,B,F,c⟩
  |outgrown=>exact c.elim
 |loop I ih=>
  intro r d t e f l b C y J k P;unfold DR at P;split at P
  ·exact P.elim
  ·rename_i H hS
   obtain⟨f7,⟨m0,h0⟩,f8⟩:=P;refine wpIn_loop_ghost (λm v x=>v.tmps.size=n/\(∀a,a∉writes I->v.tmps.getD a undef=get e f a)/\v.defers=l.defers/\
    ap (gU H) (f7 m) (H.map λa4=>v.tmps.getD a4.1 undef) x) m0 ⟨k.size,λa _=>k.slot a,rfl,by rw[<-mG k H];exact h0⟩ ?_
   rintro mm v x ⟨f9,d8,b9,hI⟩;obtain⟨w,h1,h2,g0⟩:=eL.out (f8 mm);have a7:(H.map λa4=>v.tmps.getD a4.1 undef).length=(gU H).length:=by rw[<-iW e f H,yG];simp
   have S:=ap.all a7 hI g0 (λa=>v.tmps.getD a undef) x hI;have c0:=uO (n:=n) H f9 h1 h2 d8;rw[<-b9]at S;have c6:=ih (m:=m) r d _ _ _ v x C y (by intro q e f Y b c Q;subst Q;exact c.elim) c0 S;refine wpIn_mono c6 ?_;intro q d4 d5 o;obtain⟨B2,e2,O,b8,c⟩:=o;have a9:∀a,a∉writes I->get B2 e2 a=get e f a:=λa j=>(b8 a j).trans ((c0.slot a).symm.trans (d8 a j))
   cases q with
   |normal=>
    obtain⟨g1,m',d2,g2⟩:=AJ.out c;refine⟨m',d2,O.size,λa j=>(O.slot a).trans (a9 a j),g1.trans b9,?_⟩;rw[<-mG O H];exact g2
   |outgrown=>exact c.elim
   |exit id=>exact⟨B2,e2,O,a9,c⟩
   |goto a0=>exact⟨B2,e2,O,a9,c⟩
   |ret=>exact⟨B2,e2,O,a9,c⟩
   |panic ch=>exact⟨B2,e2,O,a9,c⟩
 |rangeFunc g3 ps u R K L=>
  intro r d t e f l b C y J k P;unfold DR at P;split at P
  ·exact P.elim
  obtain rfl:r=none:=C.resolve_right λP=>by cases P.1
  split at P
  ·exact P.elim
  rename_i H hS;obtain⟨d9,P⟩:=eZ.out P;simp only[QK]at d9;obtain⟨c1,g4,g5⟩:=d9;have c1:=MS.out c1;obtain⟨c7,a1,g6,g7,σ,s0,f5,Jx,a3,i9,g8,e0,c2,c6,g9,h3,h4⟩:=P;have b6:∀a,a∈kr u->a<n:=λa j=>y a (Q6.2 (.inr (Q6.2 (.inl j))));have b7:∀a,a∈kr R->a<n:=λa j=>y a (Q6.2 (.inr (Q6.2 (.inr j))));have h5:∀a,a∈ps.toList->a<n:=λa j=>y a (Q6.2 (.inl j));refine wpIn_rangeFunc ?_;intro fn _;obtain⟨p,s⟩:∃p:LoopState->Option Code->Loop,p=λst pe=>{state:=st,pending:=pe,fn,tmps:=l.tmps,params:=ps,assign:=u,body:=R,defers:=b.heap.size}:=⟨_,rfl⟩
  obtain⟨T,b0⟩:∃T,(b.alloc (.deferred (some []))).alloc (.loop (p .ready none))=T:=⟨_,rfl⟩
  have h6:T.heap[b.heap.size+1]? =some (.loop (p .ready none)):=by
   rw[<-b0];have:=World.alloc_heap_new (b.alloc (.deferred (some []))) (.loop (p .ready none));rwa [World.size_alloc]at this
  have h7:T.heap[b.heap.size]? =some (.deferred (some [])):=by
   rw[<-b0];exact(Go.RowKit.Below.heap_alloc _ _ _ sM).trans (World.alloc_heap_new b _)
  have h8:T.heap.size=b.heap.size+2:=by rw[<-b0];simp
  have h9:ak (λ_=>False) b T:=by
   rw[<-b0];exact⟨rfl,rfl,rfl,by simp;omega,λi0 E _=>(Go.RowKit.Below.heap_alloc _ _ _ bc).trans (Go.RowKit.Below.heap_alloc b _ i0 E)⟩
  let i1:XU:=λe1=>e1.heap[b.heap.size+1]? =some (.loop (p .ready none))/\e1.heap[b.heap.size]? =some (.deferred (some []))
  let Rx:Exit->XU:=λu e1=>UW u (UB (λu A0=>t u e f (LK b.heap.size::l.defers) A0) (fT R))/\e1.heap[b.heap.size+1]? =some (.loop (p .done (some (PG u))))/\e1.heap[b.heap.size]? =some (.deferred (some []))
  have c3:∀{e1 e:World} {V o':Obj},ak (mU b) e1 e->e1.heap[b.heap.size+1]? =some V->e1.heap[b.heap.size]? =some o'->e.heap[b.heap.size+1]? =some V/\e.heap[b.heap.size]? =some o':=λE h1 h2=>
   ⟨E.obj h1 λP=>P.2 rfl,E.obj h2 λP=>P.1 rfl⟩
  refine⟨b.heap.size+1,[LK b.heap.size],T,{target:=.fn (.func c7) a1,args:= #[.func (.yield (b.heap.size+1)) #[] #[]]},T,c7,#[.func (.yield (b.heap.size+1)) #[] #[]]++a1,T,?_,?_,λ_ _=>trivial,?_,λP=>by simp[Fence.wide]at P,?_⟩
  ·rw[<-b0,s];exact run_enterLoop_outer _ _ _ _ _
  ·have hg:l.eval g3= .func (.func c7) #[] a1:=by rw[k.eval];exact g6
   simp only[resolve,hg];simp[go_sem]
  ·simp only[invoke];exact gQ g7 _ _
  refine th.2 (Calls.mono (g9 i1 Rx (λe1 e P E=>c3 E P.1 P.2) (λu e1 e P E=>⟨P.1,c3 E P.2.1 P.2.2⟩) (λe1 P=>by have:=(Q5.1 P.1).1;omega) ?_ T (g8 T h9 h8) ⟨h6,h7⟩) ?_)
  ·
   rintro c8 M vs A1 N ⟨W,E⟩ e3 hN;have a7:=e3.len;have e4:vs.length=ps.toList.length:=by rw[a7,<-c1,Ig]
   have hy:=run_yield (P:=h) (args:=vs.toArray) W (by rw[s];simpa using e4);rw[s]at hy;refine⟨fn,_,u,R,hy,roundIn_of_wpIn trivial ?_⟩;have S:=e3 _ (c6 c8 M A1 N (by have:=(Q5.1 W).1;omega)) hN;have c0:Rel n e (LM (Nr H) vs f) {tmps:=(ps.zip vs.toArray).foldl (λU (u:Tmp×Value)=>U.setIfInBounds u.1 u.2) l.tmps,defers:=[]}:=by
    have h0:Rel n e f {tmps:=l.tmps,defers:=[]}:=⟨k.size,k.slot⟩
    have:=DH ps.toList vs f l.tmps h5 e4 h0;rw[c1];have w:(ps.zip vs.toArray).foldl (λU (u:Tmp×Value)=>U.setIfInBounds u.1 u.2) l.tmps=(ps.toList.zip vs).foldl (λa (a4:Nat×Value)=>a.setIfInBounds a4.1 a4.2) l.tmps:=by
     rw[<-Array.foldl_toList,Array.toList_zip]
    rw[w];exact this
   have hx:=K (m:=0) (some (b.heap.size+1)) false _ e _ _ A1 (.inr ⟨rfl,g4⟩) b6 (by intro q e f Y b c Q;subst Q;exact c.elim) c0 S;refine wpIn_mono hx ?_;intro q i2 A2 o;obtain⟨z,w,B,-,c⟩:=o
   cases q with
   |exit id=>exact c.elim
   |goto a0=>exact c.elim
   |ret=>exact c.elim
   |panic ch=>exact c.elim
   |outgrown=>exact c.elim
   |normal=>
    obtain⟨i3,c⟩:=c;obtain⟨e5,i4⟩:=c3 i3 W E;refine⟨_,run_beginRound e5 (by rw[s]),?_⟩;have c:=c _ (i_ (w:=A2) (l:=b.heap.size+1) (o:=.loop {p .ready none with state:=.busy}));have e6:(A2.putObj (b.heap.size+1) (.loop {p .ready none with state:=.busy})).heap[b.heap.size+1]? =some (.loop {p .ready none with state:=.busy}):=World.putObj_heap_same (Q5.1 e5).1;have e7:(A2.putObj (b.heap.size+1) (.loop {p .ready none with state:=.busy})).heap[b.heap.size]? =some (.deferred (some [])):=(World.putObj_heap_other oM).trans i4;generalize A2.putObj (b.heap.size+1) (.loop {p .ready none with state:=.busy})=A3 at c e6 e7;have hy:=L (m:=0) (some (b.heap.size+1)) false _ z w i2 A3 (.inr ⟨rfl,g5⟩) b7 (by intro q e f Y b c Q;subst Q;exact c.elim) B c;refine wpIn_mono hy ?_;have a2:∀(i:Option Code) (X:World),ak (mU b) A3 X->
      (Instr.endRound (b.heap.size+1) i).run h X= .ok (.bool i.isNone) (X.putObj (b.heap.size+1) (.loop (p (if i.isNone then .ready else .done) i)))/\
      (X.putObj (b.heap.size+1) (.loop (p (if i.isNone then .ready else .done) i))).heap[b.heap.size+1]? =some (.loop (p (if i.isNone then .ready else .done) i))/\
      (X.putObj (b.heap.size+1) (.loop (p (if i.isNone then .ready else .done) i))).heap[b.heap.size]? =some (.deferred (some [])):=λi X a6=>by
     obtain⟨e8,i5⟩:=c3 a6 e6 e7;have:=run_endRound (P:=h) i e8;rw[s]at this⊢;exact⟨this,World.putObj_heap_same (Q5.1 e8).1,(World.putObj_heap_other oM).trans i5⟩
    intro q j0 X o;obtain⟨B4,j1,j2,-,b1⟩:=o
    cases q with
    |normal=>
     obtain⟨a6,b3⟩:=b1;obtain⟨f1,f2,f3⟩:=a2 none X a6;exact⟨_,_,f1,true,rfl,.inl ⟨rfl,e0 _ _ _ _ b3 i_,f2,f3⟩⟩
    |ret=>
     obtain⟨a6,c9,b3⟩:=b1;obtain⟨f1,f2,f3⟩:=a2 (some .ret) X a6;exact⟨_,_,f1,false,rfl,.inr ⟨rfl,.ret,c2 _ _ _ _ b3 i_,c9,f2,f3⟩⟩
    |exit id=>
     obtain⟨a6,c9,b3⟩:=b1;obtain⟨f1,f2,f3⟩:=a2 (some (.exit id)) X a6;exact⟨_,_,f1,false,rfl,.inr ⟨rfl,.exit id,c2 _ _ _ _ b3 i_,c9,f2,f3⟩⟩
    |goto a=>exact b1.elim
    |panic ch=>exact b1.elim
    |outgrown=>exact b1.elim
  ·
   rintro ed A2 ⟨⟨j3,rfl⟩,(⟨⟨W,E⟩,c8,d0,N,hT⟩|⟨x1,M,N,i6,W,E⟩)⟩
   ·refine⟨none,_,by have:=run_endLoop (P:=h) W (by rw[s];simp);rw[s]at this;exact this,?_⟩
    exact de.of (k.defers _) (h3 c8 d0 _ (e0 _ _ _ _ N i_) hT ((World.putObj_heap_other oM).trans E))
   ·refine⟨some (PG x1),_,by have:=run_endLoop (P:=h) W (by rw[s];simp);rw[s]at this;exact this,?_⟩
    obtain⟨i7,c⟩:=Nq.out h4 x1 i6;rcases Ih R x1 i7 with rfl|⟨id,rfl⟩
    ·exact wpIn_ret (de.of (k.defers _) (c M _ (c2 .ret M A2 _ N i_) ((World.putObj_heap_other oM).trans E)))
    ·exact wpIn_exit (de.of (k.defers _) (c M _ (c2 (.exit id) M A2 _ N i_) ((World.putObj_heap_other oM).trans E)))
def TN(P:XU):List Deferred->XU
 |[],a=>P a
 |d::e,a=>match d.target with
  | .collected b=>pB b a/\∀c,ph b a c->TN P e c
  |_=>False
def Sx(d:Program)(e:Func)(a:XT):gP:=λh f g b P=>match h with
 | .normal=>TN (λP=>Hs d e.results.toList f g P λc=>a (.returned (oneOf c)) P) b P
 | .ret=>TN (λP=>Hs d e.results.toList f g P λc=>a (.returned (oneOf c)) P) b P
 | .panic i=>TN (λP=>a (.panicked i) P) b P
 |_=>False
def nQ{g:Program}{h:Func}{P:Array Value}{i:XT}{c:XU}{f:FrameMode}(j:f≠.run){k:Nat}(l:∀a,c a->LeavesIn (FW none) k g h P i [] f a):∀(e:List Deferred) (a:World),TN c e a->LeavesInM (FW none) k g h P i e f a
 |[],a,b=>l a b
 |d::e,a,b=>by
  unfold TN at b;split at b
  ·rename_i m n
   obtain⟨o,b⟩:=b;exact⟨j,.inl ⟨m,_,n,run_takeDeferred o,nQ j l e _ (b _ i_)⟩⟩
  ·exact b.elim
def mu(i:jC)(j:List Nat)(k:h.follows .mixedOrders=true)(l:h.funcs[y]? =some a5)(m:a5.body=some Z)(n:p.size<=a5.ntmps)(o:tH a5.ntmps (kr Z)=true)(a:DR h i j true Z (Sx h a5 z) (λ_=>undef) (eQ 0 p.toList) [] b):Calls h y p b z:=by
 refine th.1 (callsIn_of_wp_marks (F:=FW none) (n:=0) l m trivial (wpIn_mono (UC k Z none true (Sx h a5 z) _ _ _ b (.inl rfl) (kf o) (by intro d e f u b P q;subst q;exact P.elim) (wm n []) a) ?_));rintro d r v ⟨e,f,s,_,P⟩;have g:∀b,(Hs h a5.results.toList e f b λc=>z (.returned (oneOf c)) b)->LeavesIn (FW none) 0 h a5 r.tmps z [] .returning b:=λb a=>by
  obtain⟨c,t,a⟩:=qf s a;exact⟨_,qg t,a⟩
 cases d with
 |normal=>exact nQ sM g _ _ P
 |ret=>exact nQ sM g _ _ P
 |panic w=>exact nQ sM (λb a=>a) _ _ P
 |exit id=>exact P.elim
 |goto c=>exact P.elim
 |outgrown=>exact P.elim

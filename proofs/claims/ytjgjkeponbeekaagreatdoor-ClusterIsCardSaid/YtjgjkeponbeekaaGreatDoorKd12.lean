import Derived.Test.YtjgjkeponbeekaaGreatDoorKd11
import Derived.RangeFuncSeq
import Derived.RangeFuncLeaves
set_option linter.all false
set_option maxHeartbeats 4000000
set_option maxRecDepth 20000
namespace Go.Proofs.YtjgjkeponbeekaaGreatDoor
open Go.ar
variable{o:Array Value}{A:FuncId}{e:Int}{d8:Int×an}{v:List Int}{a c:Nat}{f:ZN}{d:YQ}{b:World}
def bI{D:ZN}(h:Row aI 8 b D d a v)(f:∀n,D n->n<b.heap.size):
  YX 92 #[.slice d a c] b (Ok (oZ aI 3 b v)):=by
 have x:=h.len;have P:=h.ef;refine ow (ke uC.under ⟨_,rfl,al.mk (λe=>?_) (λe=>PA.mk λj g y k=>?_)⟩)
 ·have:v=[]:=by
   cases d with
   |none=>
    cases v with
    |nil=>rfl
    |cons l z=>obtain⟨n,m,A,o,_⟩:=h.el 0 l rfl;cases o
   |some p=>cases e
  subst this;exact Ok.mk ⟨none,0,0,λ_=>False,rfl,aM.nil b,ak.refl _,λ_ h=>h.elim⟩
 ·cases d with
  |none=>cases e
  |some p=>
   have q:aM aI 3 (·=b.heap.size) j (ZM b.heap.size) 0 0 []:=
    ⟨⟨[],λ_=>False,Own.Aw (cur:= #[]) k rfl (Qj _),rfl,λ_ h=>h.elim⟩,λn P=>by simpa[aD]using P.symm,λn P=>oM⟩
   refine kN q uC (D:=D) (h.ah g) (λn P=>⟨by have:=f n P;omega,by have:=f n P;simp only[aD];intro r;cases r;omega⟩) (by simp;omega) (by unfold aK at P;unfold maxLen;simp;omega) λi s B C t u _ w=>?_;refine⟨_,_,_,rfl,Ok.mk ⟨i,_,s,λn=>aD i=some n,rfl,by have h:=t.alone;rw[List.nil_append]at h;exact h,g.new u λn P=>.inr ?_,λn P=>?_⟩⟩
   ·simp only[aD,Q1]at P;omega
   ·rcases w n P with h|h<;>omega
def iF(n:Int)(P:ByteArray):Int:=if(ml P).2 then max n ((ml P).1+1)else n
def yE(n:List ByteArray):Int:=n.foldl iF 1
def Cb(D:an):Int:=yE D.list
def EN(n:ByteArray):0<=(ml n).1/\(ml n).1<1000000000000:=by
 unfold ml;split
 ·rename_i a P
  have:=(Cn P).2;simp;omega
 ·simp
def Ha(P:1<=e/\e<=1000000000000)(n:ByteArray):1<=iF e n/\iF e n<=1000000000000:=by
 have:=EN n;unfold iF;split<;>omega
def Jd:∀(P:List ByteArray) (n:Int),(1<=n/\n<=1000000000000)->1<=P.foldl iF n/\P.foldl iF n<=1000000000000
 |[],n,a=>a
 |s::P,n,a=>Jd P _ (Ha a s)
def EO(n:List ByteArray):1<=yE n/\yE n<=1000000000000:=Jd n 1 oM
def Je{D:an}(s:Laid b)(h:aO b a f D):
  YX 108 #[ZL a] b (Ok λt d=>t= ZH (Cb D)/\ai b d):=by
 refine Du (PC.ok (xE h) ?_);rintro _ i ⟨u,c,z,G,rfl,j,k,A⟩;have B:D.list.length<=64:=by rw[oh];exact h.ok.many
 have C:=j.len dC;have v:Row NQ 16 i G u c D.list:=j.row dC (by unfold aK;omega);refine⟨_,_,_,rfl,λl m o d=>∃n:Nat,o=n/\n<=c/\l=c-n/\m=yE (D.list.take n)/\ai i d,⟨_,0,rfl,Qj _,rfl,rfl,ak.refl _⟩,?_⟩;rintro l m o _ E ⟨n,rfl,F,rfl,rfl,P⟩;refine al.dec (λH=>?_) (λI=>?_)
 ·obtain⟨w,e,p,rfl,x,_,y⟩:=(v.ah P).mR (i:=n) oM
  refine⟨w,e,rfl,oM,oM,_,y,PC.ok (Be (s.ah (k.then P))) ?_⟩;rintro _ J ⟨rfl,q⟩;have K:=EN p;have L:=EO (D.list.take n);have r:yE (D.list.take (n+1))=iF (yE (D.list.take n)) p:=by
   unfold yE;rw[Qw,x,List.foldl_append];rfl
  refine⟨_,_,rfl,al.mk (λg=>⟨_,?_,n+1,aq oM,oM,rfl,?_,P.then q⟩) (λg=>⟨_,?_,n+1,aq oM,oM,rfl,?_,P.then q⟩)⟩
  ·omega
  ·rw[r,wrap_i64 (by unfold aJ;omega)]
   unfold iF;rw[Zx g];split<;>omega
  ·omega
  ·rw[r];unfold iF;rw[Zq (by simp[g])]
 ·obtain rfl:n=c:=oM
  rw[Qz oM];exact Ok.mk ⟨rfl,k.then P⟩
structure eJ where
 size:Int
 bQ:List Int
 bytes:Int
 next:Int
structure iU (w:World) (p q:Nat) (G:ZN) (V:eJ):Prop where
 body:∃a n c E,w.heap[q]? =some (.cells #[ZL p,ZH V.size,.slice a n c,ZH V.bytes,ZH V.next] 209 (0,0))/\aM aI 3 E w a n c V.bQ/\∀b,E b->G b/\b≠q
 self:G q
 aC:∀b,G b->b<w.heap.size
 many:V.bQ.length<=64
 BD:aJ V.next
section
variable {w0 w w1 w':World} {p q:Nat} {D D':an} {V V':eJ} {X Y G S:ZN}
def iU.af(P:iU w p q G V)(a:ak S w w')(c:∀n,G n->¬S n):iU w' p q G V:=by
 obtain⟨e,f,g,h,i,j,d⟩:=P.body;exact⟨⟨e,f,g,h,a.get i (c q P.self),j.af a λn b=>c n (d n b).1,d⟩,P.self,λn b=>Qk (P.aC n b) a.size,P.many,P.BD⟩
def iU.ah(n:iU w p q G V)(P:ai w w'):iU w' p q G V:=n.af P λ_ _ n=>n
def cd(w0 w:World)(p q:Nat)(V:eJ)(D:an)(X:ZN):Prop:=∃G,aT w0 w p D (λn=>X n\/G n)/\iU w p q G V/\∀n,G n->w0.heap.size<=n/\¬X n
def cd.gr(n:cd w0 w p q V D X):ai w0 w:=by obtain⟨G,P,a,b⟩:=n;exact P.gr
def cd.ok(n:cd w0 w p q V D X):D.Ok:=by obtain⟨G,P,a,b⟩:=n;exact P.ok
def cd.many(n:cd w0 w p q V D X):V.bQ.length<=64:=by obtain⟨G,a,P,b⟩:=n;exact P.many
def cd.BD(n:cd w0 w p q V D X):aJ V.next:=by obtain⟨G,a,P,b⟩:=n;exact P.BD
def cd.aC(P:cd w0 w p q V D X):∀n,X n->n<w.heap.size:=by obtain⟨G,⟨c,d,e,f,a⟩,g,h⟩:=P;exact λn b=>a n (.inl b)
def cd.XE(P:cd w0 w p q V D X):q<w.heap.size/\w0.heap.size<=q/\¬X q:=by obtain⟨G,b,n,a⟩:=P;exact⟨n.aC q n.self,a q n.self⟩
def cd.vE(n:cd w0 w p q V D X):aT w0 w p D X:=by obtain⟨G,P,b,c⟩:=n;exact P.mono λd a=>.inl a
def cd.ah(P:cd w0 w p q V D X)(n:ai w w'):cd w0 w' p q V D X:=by
 obtain⟨G,a,b,c⟩:=P;exact⟨G,a.ah n,b.ah n,c⟩
def cd.mono(c:cd w0 w p q V D X)(a:∀n,Y n->X n):cd w0 w p q V D Y:=by
 obtain⟨G,d,e,b⟩:=c;exact⟨G,d.mono λn P=>P.imp (a n) id,e,λn P=>⟨(b n P).1,λf=>(b n P).2 (a n f)⟩⟩
def cd.add(e:cd w0 w p q V D X)(a:ai w w')(b:∀n,Y n->w.heap.size<=n/\n<w'.heap.size):cd w0 w' p q V D (λn=>X n\/Y n):=by
 obtain⟨G,f,c,d⟩:=e;refine⟨G,(f.add a b).mono λn P=>?_,c.ah a,λn P=>⟨(d n P).1,λg=>g.elim (d n P).2 λh=>by have:=c.aC n P;have:=(b n h).1;omega⟩⟩;rcases P with(P|P)|P
 ·exact .inl (.inl P)
 ·exact .inr P
 ·exact .inl (.inr P)
def cd.other(f:cd w0 w p q V D X)(a:ak Y w w')(b:∀n,Y n->X n/\w0.heap.size<=n):cd w0 w' p q V D X:=by
 obtain⟨G,⟨g,h,i,d,j⟩,k,e⟩:=f;exact⟨G,⟨g,h.af a λn P c=>(d n P).2 (.inl (b n c).1),i.new a λn P=>.inr (b n P).2,d,λn P=>Qk (j n P) a.size⟩,k.af a λn P c=>(e n P).2 (b n c).1,e⟩
def cd.on(d:cd w0 w p q V D X)(e:∀a,(∀n,X n->a n)->aT w0 w p D a->YX A o w (Ok (nB w0 w p a d8))):YX A o w (Ok λb w'=>b= ZH d8.1/\cd w0 w' p q V d8.2 X/\ak (dz X) w w'):=by
 obtain⟨G,f,g,h⟩:=d;refine Calls.ok (e _ (λn P=>.inl P) f) ?_;rintro b w' ⟨i,j,c⟩;exact⟨i,⟨G,j,g.af c λn P k=>k (.inr P),h⟩,c.mono λn _ P l=>P (.inl l)⟩
def eJ.last(V:eJ):ByteArray:=cB (aB (V.bQ.getLast?.getD 0))
def iU.row(d:iU w p q G V):∃P n b a,w.heap[q]? =some (.cells #[ZL p,ZH V.size,.slice P n b,ZH V.bytes,ZH V.next] 209 (0,0))/\Row aI 8 w a P n V.bQ/\(∀c,a c->G c/\c≠q)/\n=V.bQ.length:=by
 obtain⟨P,n,b,a,f,e,g⟩:=d.body;have:=d.many;exact⟨P,n,b,a,f,e.row dC (by unfold aK;omega),g,e.len dC⟩
def Jf(d:Laid w)(b:iU w p q G V)(e:V.bQ≠[]):YX 206 #[ZL q] w (Ok λf w'=>f= .string V.last/\ai w w'):=by
 obtain⟨u,P,v,x,g,h,y,i⟩:=b.row;have z:0<V.bQ.length:=List.length_pos_iff.2 e;have A:=b.many;refine uU λw1 j=>?_;have n:ai w w1:=j.af;have c:=n.get g id;have k:IntKind.wrap .i64 ((P:Int)-1)=((P-1:Nat):Int):=by rw[wrap_i64 (by unfold aJ;omega)];omega
 obtain⟨l,a,m,rfl,o,r,s⟩:=(h.ah n).mR (i:=P-1) oM;refine⟨q,0,rfl,_,_,_,ae c rfl,q,0,rfl,_,_,_,ae c rfl,l,a,rfl,?_⟩;rw[k];refine⟨oM,oM,m,s,PC.ok (jx (d.ah n) r) ?_⟩;rintro _ B ⟨rfl,t⟩;refine⟨_,rfl,Ok.mk ⟨?_,n.then t⟩⟩;unfold eJ.last;rw[List.getLast?_eq_getElem?,<-i,o];rfl
def Jg(i:Laid w0)(f:cd w0 w p q V D X)(j:V.bQ≠[]):YX 135 #[ZL q] w (Ok λk w'=>k= ZH (D.sync V.last).1/\cd w0 w' p q V (D.sync V.last).2 X/\ak (dz X) w w'):=by
 refine uR λw1 l=>?_;have c:ai w w1:=l.af;have m:=f.ah c;obtain⟨G,o,n,g⟩:=m;obtain⟨y,z,A,B,r,C,E,h⟩:=n.row;have F:=g q n.self;have H:=n.aC q n.self;refine⟨λa=>a≠q/\¬X a,q,0,rfl,λs=>s.1 rfl,_,ae r rfl,PC.ok (Jf (i.ah (f.gr.then c)) n j) ?_⟩;rintro _ I ⟨rfl,b⟩;have t:=n.ah b;have u:=o.ah b;refine⟨_,rfl,b.af,PC.ok u.sync ?_⟩;rintro _ J ⟨rfl,v,d⟩;refine⟨_,rfl,d.mono λa _ P=>⟨λx=>P (.inr (x▸n.self)),λe=>P (.inl e)⟩,Ok.mk ⟨rfl,⟨G,v,t.af d λa P h=>h (.inr P),g⟩,?_⟩⟩;exact(ai.af (c.then b)).then (d.mono λa _ P e=>P (.inl e))
def GB(n:iU w p q G V):YX 145 #[ZL q] w (Ok (oZ aI 3 w V.bQ)):=by
 obtain⟨i,j,k,l,a,b,c,m⟩:=n.row;refine pF ⟨q,0,rfl,_,_,_,ae a rfl,PC.ok (bI b λP d=>n.aC P (c P d).1) ?_⟩;rintro _ w1 ⟨o,r,s,e,rfl,f,g,h⟩;exact⟨_,_,_,rfl,Ok.mk ⟨_,_,_,e,rfl,f,g,h⟩⟩
def Qa(n:iU w p q G V):YX 144 #[ZL q] w (Ok λP w'=>P= ZH V.next/\w=w'):=by
 obtain⟨b,c,d,e,a,f,g,h⟩:=n.row;exact uT ⟨q,0,rfl,_,ae a rfl,Ok.mk ⟨rfl,rfl⟩⟩
end
end Go.Proofs.YtjgjkeponbeekaaGreatDoor
namespace Go.ar
open Go
def oY(n:Int×Int):Value:=.agg #[ZH n.1,ZH n.2]
def CU(n:Int×Int×Int):Value:=.agg #[ZH n.1,ZH n.2.1,ZH n.2.2]
structure Ki (P:Program) (t ti:TypeId):Prop where
 hu:P.underlying t=some (.struct (P.fieldsOf t))
 ui:P.underlying ti=some (.int .i64)
 hf:∃n1 n2,(P.fieldsOf t).toList.map (λf=>(f.name,f.type,f.offset))=[(n1,ti,0),(n2,ti,1)]/\n1≠ "_"/\n2≠ "_"
 hp:P.stoodInHeld t=false
 hm:P.eqGuardType P.depth t=false
 ag:uj P ti=false
variable{B T e m:Int}{U Y:Operand}{p u:ZR}{b:World}
section
variable {P:Program} {t ti:TypeId}
def Ki.equalIn(a:Ki P t ti)(e:Nat)(b c:Int×Int)(d:World):(Op.equalIn (e+2) t (oY b) (oY c)).run P d= .ok (b==c) d:=by
 obtain⟨v,w,n,f,g⟩:=a.hf;unfold oY;rw[run_equalIn_struct d (e+1) _ _ _ a.hu a.hp];generalize(P.fieldsOf t).toList=h at n
 match h,n with
 |[x,y],n=>
  simp only[QY,List.map_nil,List.cons.injEq,Prod.mk.injEq,and_true]at n;obtain⟨⟨i,j,k⟩,l,m,o⟩:=n;have p:(isAgg ti).run P d= .ok false d:=cM _ _ _ a.ag ⟨_,a.ui⟩ d;have q:=run_equalIn_int (P:=P) d e ti .i64 .i64 b.1 c.1 a.ui;have r:=run_equalIn_int (P:=P) d e ti .i64 .i64 b.2 c.2 a.ui;unfold Op.eqFields Op.eqFields Op.eqFields;rw[i,j,k,l,m,o];have s:(b==c)=(b.1==c.1&&b.2==c.2):=rfl;rw[s]
  cases a:b.1==c.1<;>simp[part,p,q,r,a,f,g]
  by_cases u:b.2=c.2<;>simp[u]
 |[],n=>simp at n
 |[_],n=>simp at n
 |_::_::_::_,n=>simp at n
def Ki.eql(n:Ki P t ti)(a:p (.bool (e==B&&m==T)) b):
  aG P (do eqGuard .eql t U Y (.agg #[ZH e,ZH m]) (.agg #[ZH B,ZH T]);binOp .eql t (.agg #[ZH e,ZH m]) (.agg #[ZH B,ZH T]):Sem Value) b p u:=by
 refine aG.mk (v:=.bool (e==B&&m==T)) ?_ a;rw[Sem.run_bind,run_eqGuard_agg b .eql _ U Y _ _ n.hm,Result.andThen_ok,run_eql_struct];have:=n.equalIn 9998 (e,m) (B,T) b;unfold oY at this;rw[this];rfl
def Ki.neq(n:Ki P t ti)(a:p (.bool (!(e==B&&m==T))) b):
  aG P (do eqGuard .neq t U Y (.agg #[ZH e,ZH m]) (.agg #[ZH B,ZH T]);binOp .neq t (.agg #[ZH e,ZH m]) (.agg #[ZH B,ZH T]):Sem Value) b p u:=by
 refine aG.mk (v:=.bool (!(e==B&&m==T))) ?_ a;rw[Sem.run_bind,run_eqGuard_agg b .neq _ U Y _ _ n.hm,Result.andThen_ok,run_neq_struct];have:=n.equalIn 9998 (e,m) (B,T) b;unfold oY at this;rw[this];rfl
def Ki.check(b:Ki P t ti)(d:Nat)(g:Int×Int)(a:World)(e:Bool):(Instr.checkKey e (d+2) t (oY g)).run P a= .ok () a:=by
 obtain⟨u,v,n,h,i⟩:=b.hf;have j:(isAgg ti).run P a= .ok false a:=cM _ _ _ b.ag ⟨_,b.ui⟩ a;have k:∀f:Int,(Instr.checkKey e (d+1) ti (ZH f)).run P a= .ok () a:=λf=>by simp[Instr.checkKey,run_underlying b.ui]
 unfold oY;have l:=b.hu;unfold Instr.checkKey;rw[Sem.run_bind,run_underlying l,Result.andThen_ok];generalize w:P.fieldsOf t=c at n;obtain⟨c⟩:=c
 match c,n with
 |[x,y],n=>
  simp only[QY,List.map_nil,List.cons.injEq,Prod.mk.injEq,and_true]at n;obtain⟨⟨m,o,p⟩,q,r,s⟩:=n;simp[m,o,p,q,r,s,part,j,k,h,i]
 |[],n=>simp at n
 |[_],n=>simp at n
 |_::_::_::_,n=>simp at n
def Ki.key(n:Ki P t ti):iK P t oY:=
 iK.struct n.hu (λa b=>rfl) (λa b c=>n.equalIn 9998 a b c) (λd c e=>n.check 9998 d c e) (λf a=>by unfold oY;simp[Instr.sameBits]) λ{a b} n=>by
  unfold oY at n;simp only[Value.agg.injEq,Array.mk.injEq,List.cons.injEq,Value.int.injEq,and_true,true_and]at n;exact Prod.ext n.1 n.2
structure wo (P:Program) (t t2 ti:TypeId):Prop where
 two:Ki P t2 ti
 hu:P.underlying t=some (.struct (P.fieldsOf t))
 hf:∃n1 n2,(P.fieldsOf t).toList.map (λf=>(f.name,f.type,f.offset))=[(n1,t2,0),(n2,ti,2)]/\n1≠ "_"/\n2≠ "_"
 hp:P.stoodInHeld t=false
 ag:uj P t2=true
 sz:(P.info? t2).map (·.size)=some 2
variable {t2:TypeId}
def wo.RO(b:wo P t t2 ti)(a:Int×Int×Int)(n:World):(part t2 #[ZH a.1,ZH a.2.1,ZH a.2.2] 0).run P n= .ok (oY (a.1,a.2.1)) n:=by
 obtain⟨g,c,d⟩:=Option.map_eq_some_iff.1 b.sz;have e:(isAgg t2).run P n= .ok true n:=cM _ _ _ b.ag ⟨_,b.two.hu⟩ n;have f:(sizeOf t2).run P n= .ok 2 n:=by simp[sizeOf,typeInfo,c,d]
 unfold part;simp[e,f,oY]
def wo.equalIn(d:wo P t t2 ti)(f:Nat)(n a:Int×Int×Int)(b:World):(Op.equalIn (f+3) t (CU n) (CU a)).run P b= .ok (n==a) b:=by
 obtain⟨A,B,c,h,i⟩:=d.hf;have j:=d.RO n b;have k:=d.RO a b;have g:=d.two.equalIn f (n.1,n.2.1) (a.1,a.2.1) b;have m:=run_equalIn_int (P:=P) b (f+1) ti .i64 .i64 n.2.2 a.2.2 d.two.ui;have o:(isAgg ti).run P b= .ok false b:=cM _ _ _ d.two.ag ⟨_,d.two.ui⟩ b;unfold CU;rw[run_equalIn_struct b (f+2) _ _ _ d.hu d.hp];generalize(P.fieldsOf t).toList=p at c
 match p,c with
 |[C,E],c=>
  simp only[QY,List.map_nil,List.cons.injEq,Prod.mk.injEq,and_true]at c;obtain⟨⟨q,r,s⟩,u,v,w⟩:=c;unfold Op.eqFields Op.eqFields Op.eqFields;rw[q,r,s,u,v,w];have x:(n==a)=(((n.1,n.2.1):Int×Int)==(a.1,a.2.1)&&n.2.2==a.2.2):=by
   show(n.1==a.1&&(n.2.1==a.2.1&&n.2.2==a.2.2))=((n.1==a.1&&n.2.1==a.2.1)&&n.2.2==a.2.2);rw[Bool.and_assoc]
  rw[x];have y:∀e:Int×Int×Int,(part ti #[ZH e.1,ZH e.2.1,ZH e.2.2] 2).run P b= .ok (ZH e.2.2) b:=λe=>by simp[part,o]
  cases l:((n.1,n.2.1):Int×Int)==(a.1,a.2.1)with
  |false=>
   rw[l]at g;simp[j,k,g,h,i]
  |true=>
   rw[l]at g;simp[j,k,g,m,y,h,i]
   by_cases z:n.2.2=a.2.2<;>simp[z]
 |[],c=>simp at c
 |[_],c=>simp at c
 |_::_::_::_,c=>simp at c
def wo.check(c:wo P t t2 ti)(d:Nat)(b:Int×Int×Int)(n:World)(e:Bool):(Instr.checkKey e (d+3) t (CU b)).run P n= .ok () n:=by
 obtain⟨x,y,a,h,i⟩:=c.hf;have j:=c.RO b n;have k:(isAgg ti).run P n= .ok false n:=cM _ _ _ c.two.ag ⟨_,c.two.ui⟩ n;have l:∀g:Int,(Instr.checkKey e (d+2) ti (ZH g)).run P n= .ok () n:=λg=>by simp[Instr.checkKey,run_underlying c.two.ui]
 have m:=c.two.check d (b.1,b.2.1) n e;have o:(part ti #[ZH b.1,ZH b.2.1,ZH b.2.2] 2).run P n= .ok (ZH b.2.2) n:=by simp[part,k]
 unfold CU;have p:=c.hu;rw[show d+3=(d+2)+1 from rfl];unfold Instr.checkKey;rw[Sem.run_bind,run_underlying p,Result.andThen_ok];generalize z:P.fieldsOf t=f at a;obtain⟨f⟩:=f
 match f,a with
 |[A,B],a=>
  simp only[QY,List.map_nil,List.cons.injEq,Prod.mk.injEq,and_true]at a;obtain⟨⟨q,r,s⟩,u,v,w⟩:=a;simp[q,r,s,u,v,w,j,o,m,l,h,i]
 |[],a=>simp at a
 |[_],a=>simp at a
 |_::_::_::_,a=>simp at a
def wo.key(n:wo P t t2 ti):iK P t CU:=
 iK.struct n.hu (λa b=>rfl) (λa b c=>n.equalIn 9997 a b c) (λd c e=>n.check 9997 d c e) (λf a=>by unfold CU;simp[Instr.sameBits]) λ{a b} n=>by
  unfold CU at n;simp only[Value.agg.injEq,Array.mk.injEq,List.cons.injEq,Value.int.injEq,and_true,true_and]at n;exact Prod.ext n.1 (Prod.ext n.2.1 n.2.2)
end
end Go.ar
namespace Go.Proofs.YtjgjkeponbeekaaGreatDoor
open Go.ar
abbrev Fj:Int×Int->Value:=oY
def Mj:Ki ZP 46 3:=⟨kR,kR,⟨"Origin", "Seq",kR,dC,dC⟩,kR,kR,kR⟩
def Wy:iK ZP 46 Fj:=Mj.key
abbrev r_:aj:=⟨0,0,0,[],0,0,0,0,0,0⟩
abbrev jT(n:aj)(P:YQ)(a b:Nat):Value:=.agg (aE n P a b).toArray
def RD:lY ZP 182 46 63 (jT r_ none 0 0):=⟨kR,kR⟩
def kr{c:World}{D:ZN}:∀{n:List Int} {cs:List Value},bF aI c D n cs↔cs=ints n/\∀x∈n,aJ x
 |[],cs=>by simp[bF,ints]
 |x::n,cs=>by
  constructor
  ·rintro⟨g,h,rfl,⟨rfl,d⟩,e⟩
   obtain⟨rfl,f⟩:=kr.1 e;exact⟨rfl,λa P=>by rcases Q2.1 P with rfl|P;exact d;exact f a P⟩
  ·rintro⟨rfl,b⟩
   exact⟨[ZH x],ints n,rfl,⟨rfl,b x (QV ..)⟩,kr.2 ⟨rfl,λa P=>b a (QJ _ P)⟩⟩
variable{e:Int}{v:List Int}{E a c i l:Nat}{f:ZN}{d:YQ}{h:Program}{g r:TypeId}{w:Value}{b k:World}{z:ZU}{q:aj}
def RE(P:aM aI g f b d a c v)(o:i<v.length)(p:aJ e)(q:d=some ⟨l,E,none⟩)(h:∀n,aM aI g f n d a c (v.set i e)->ak (λl=>aD d=some l) b n->n.heap.size=b.heap.size->z n):PS b ⟨l,E+i,none⟩ (ZH e) z:=by
 obtain⟨cs,D,r,s,t⟩:=P.body;obtain⟨rfl,j⟩:=kr.1 s;refine r.set (m:=i) (by rw[js];exact o) q λn u w m=>h n ⟨⟨_,D,u,kr.2 ⟨?_,?_⟩,t⟩,P.self,λl j=>by rw[m];exact P.aC l j⟩ w m
 ·unfold ints;rw[List.map_set]
 ·intro x k
  rcases List.mem_or_eq_of_mem_set k with k|rfl
  ·exact j x k
  ·exact p
def Tl(b:World)(D:ZN)(c:Value)(n:aj):Prop:=∃P a d,c=jT n P a d/\Row aI 8 b D P a n.aQ/\n.Ok
def Tl.af{S D:ZN}(P:Tl b D w q)(a:ak S b k)(c:∀n,D n->¬S n):Tl k D w q:=by
 obtain⟨d,e,f,g,h,i⟩:=P;exact⟨d,e,f,g,h.af a c,i⟩
def Tl.mono{D n:ZN}(a:Tl b D w q)(c:∀P,D P->n P):Tl b n w q:=by
 obtain⟨d,e,f,g,h,i⟩:=a;exact⟨d,e,f,g,h.mono c,i⟩
def CC:r_.Ok:=by constructor<;>simp[aJ]
def mQ{D:ZN}(h:Row aI 8 b D d a q.aQ)(u:∀n,D n->n<b.heap.size):
  YX 115 #[jT q d a c] b (Ok λv i=>∃d a c G,v=jT q d a c/\Row aI 8 i G d a q.aQ/\(∀n,G n->b.heap.size<=n/\n<i.heap.size)/\ai b i):=by
 have w:=h.ef;have x:=h.len;refine zt (PA.mk λA m B e=>PA.mk λC f E j=>⟨_,_,_,ae (f.get e id) rfl,PC.ok (bI (h.ah (m.then f)) λn P=>by have:=u n P;omega) ?_⟩);rintro _ F ⟨o,p,r,G,rfl,s,g,k⟩;have e:=g.get (f.get e id) id;have j:=g.get j id;refine⟨_,_,_,rfl,PS.mk e (by simp[aE]) λH l I y=>?_⟩;refine au (cs:=aE q o p r) (aX _ _ _ _) y (az (aX _ _ _ _) (l.get j oM) rfl λJ t K z=>au (aX _ _ _ _) z (Ok.mk ⟨o,p,r,G,rfl,?_,?_,?_⟩))
 ·refine(((s.af l λn P=>?_).af t λn P=>?_).row (bytes:=8) dC (by rw[<-x];exact w))
  ·have:=k n P;omega
  ·have:=k n P;omega
 ·intro n P
  have:=k n P;have:=s.aC n P;omega
 ·have L:=g.size
  exact((ak.new ((m.then f).then g) l λn P=>.inr oM).new t λn P=>.inr oM)
structure RF where
 a:YQ
 n:Nat
 c:Nat
 r:Nat
 V:ZN
 D:ZN
 l:List ((Int×Int)×Value)
 L:List ((Int×Int)×aj)
structure rA (w:World) (p:Nat) (F:ZN) (S:aw) (q:RF):Prop where
 at':w.heap[p]? =some (.cells #[.slice q.a q.n q.c,.map (some q.r),ZH S.top] 184 (0,0))
 vec:aM aI 3 q.V w q.a q.n q.c S.vec
 map:bJ w q.r Fj q.l
 rel:fu (Tl w q.D) q.l q.L
 key:∀x∈q.L,x.1=aZ x.2
 Wj:(q.L.map (·.2)).Perm S.l
 aC:∀b,F b->b<w.heap.size
 sub:∀b,b=p\/b=q.r\/q.V b\/q.D b->F b
 Wl:p≠q.r
 Vn:¬q.V p/\¬q.V q.r
 Wm:¬q.D p/\¬q.D q.r
 XI:∀b,q.V b->¬q.D b
def ck(P:World)(a:Nat)(b:ZN)(n:aw):Prop:=n.OK/\∃c,rA P a b n c
section
variable {w w' w1:World} {p:Nat} {F T:ZN} {S:aw} {q:RF}
def rA.af(n:rA w p F S q)(a:ak T w w')(c:∀P,F P->¬T P):rA w' p F S q:=
 ⟨a.get n.at' (c p (n.sub p (.inl rfl))),n.vec.af a λP b=>c P (n.sub P (.inr (.inr (.inl b)))),n.map.af a (c _ (n.sub _ (.inr (.inl rfl)))),
  n.rel.mono λe f d=>d.af a λP b=>c P (n.sub P (.inr (.inr (.inr b)))),n.key,n.Wj,λP b=>Qk (n.aC P b) a.size,n.sub,n.Wl,n.Vn,n.Wm,n.XI⟩
def rA.ah(n:rA w p F S q)(P:ai w w'):rA w' p F S q:=n.af P λ_ _ n=>n
def ck.af(n:ck w p F S)(a:ak T w w')(b:∀P,F P->¬T P):ck w' p F S:=⟨n.1,n.2.imp λq c=>c.af a b⟩
def ck.ah(n:ck w p F S)(P:ai w w'):ck w' p F S:=n.af P λ_ _ n=>n
def ck.aC(P:ck w p F S):∀n,F n->n<w.heap.size:=P.2.elim λq a=>a.aC
def rA.tidy(n:rA w p F S q):Tidy q.L:=by
 have:=n.map.tidy;unfold Tidy at*;rw[<-n.rel.keys];exact this
def rA.len(n:rA w p F S q):q.n=S.n:=by rw[n.vec.len dC,S.bN]
def rA.Wn(n:rA w p F S q)(P:S.OK):Row aI 8 w q.V q.a q.n S.vec:=n.vec.row dC (by rw[S.bN];have:=P.n;unfold aK;omega)
def rA.look(P:rA w p F S q)(c:S.OK)(n:Int×Int):(aF q.l n=none/\S.get n=none)\/∃a b,aF q.l n=some a/\S.get n=some b/\Tl w q.D a b:=by
 rw[<-JT c P.key P.Wj P.tidy n];exact P.rel.aF n
def lJ(n:ck w p F S):YX 58 #[ZL p] w (Ok (oZ aI 3 w S.vec)):=by
 obtain⟨P,q,n⟩:=n;refine wS ⟨p,0,rfl,_,_,_,ae n.at' rfl,PC.ok (bI (n.Wn P) λa b=>n.vec.aC a b) ?_⟩;rintro _ i ⟨c,d,e,G,rfl,f,g,h⟩;exact⟨_,_,_,rfl,Ok.mk ⟨c,d,e,G,rfl,f,g,h⟩⟩
def Hv(n:ck w p F S):YX 133 #[ZL p] w (Ok λP w'=>P= ZH S.top/\w=w'):=by
 obtain⟨a,q,n⟩:=n;exact wV ⟨p,0,rfl,_,ae n.at' rfl,Ok.mk ⟨rfl,rfl⟩⟩
def RG(r:ck w p F S){P:aj}{D:ZN}(s:Row aI 8 w D d a P.aQ)(he:P.Ok)(hn:P.aQ.length=S.n){o:Nat}(ho:o<S.n):
  YX 114 #[ZL p,jT P d a c,ZH (o:Int)] w (Ok λk w'=>k= .bool (S.l_ P o)/\ai w w'):=by
 obtain⟨t,q,r⟩:=r;have b1:=s.len;have hN:=t.n;refine uS (PA.mk λw1 j s1 L=>?_);have Z:=s.ah j;obtain⟨u,v,g,ha,hx,-,hc⟩:=Z.mR (i:=o) oM;have M:P.aQ.getD o 0=g:=by rw[QQ,hx];rfl
 refine⟨_,_,_,ae L rfl,u,v,ha,oM,oM,g,hc,al.cX (λx=>Ok.mk ⟨?_,j⟩) (λx=>?_)⟩
 ·unfold aw.l_;simp only[M,x];rfl
 have y:=r.ah j;have e:∀{z:Bool} {w':World},ai w w'->(match S.get (o,g)with
  |none=>false
  |some b=>decide (b.aA<P.aA)&&(List.range b.aQ.length).all λi=>decide (b.aQ.getD i 0<=P.aQ.getD i 0))=z->Ok (λk w'=>k= .bool (S.l_ P o)/\ai w w') (.returned (.bool z)) w':=λ{z w'} hg hy=>by
  refine Ok.mk ⟨?_,hg⟩;unfold aw.l_;simp only[M];rw[<-hy,show(g==0)=false by simpa using x]
  rfl
 refine⟨p,0,rfl,_,ae y.at' rfl,je (enc:=Fj) (k:=((o:Int),g)) RD Wy y.map ?_⟩;rcases y.look t (o,g)with⟨A,h⟩|⟨k,b,A,h,N,l,O,rfl,a0,b2⟩
 ·rw[A]
  refine bT (rY r_ none 0 0) ⟨_,rfl,PA.mk λw2 B s2 C=>az (aX r_ none 0 0) C rfl λE H s3 I=>al.tt rfl (e (j.then ((B.then (ak.refl _)).new H λu hb=>.inr oM)) ?_)⟩;rw[h]
 ·rw[A]
  refine bT (rY b N l O) ⟨_,rfl,PA.mk λw2 B s2 C=>az (aX b N l O) C rfl λE H s3 I=>al.ff rfl ?_⟩;have J:ai w1 E:=(B.then (ak.refl _)).new H λu hb=>.inr oM;have m:=j.then J;have Q:=J.get L id;have a1:=aw.get_some h;have b3:b.aQ.length=S.n:=by have:=rG (t.WL b a1.1);omega
  refine⟨_,ae I rfl,_,ae Q rfl,al.dec (λhl=>e m ?_) (λhl=>?_)⟩
  ·rw[h]
   simp only[Bool.and_eq_false_iff,decide_eq_false_iff_not];left;omega
  have a2:=s.ah m;have R:=a0.ah J;have b6:=R.len;refine⟨_,_,_,ae I rfl,λT i w'=>∃n:Nat,i=n/\n<=l/\T=l-n/\(∀f,f<n->b.aQ.getD f 0<=P.aQ.getD f 0)/\E=w',⟨_,0,rfl,Qj _,rfl,λf K=>oM,rfl⟩,?_⟩;rintro T i _ _ ⟨n,rfl,hj,rfl,U,rfl⟩;refine al.dec (λb7=>?_) (λb8=>?_)
  ·obtain⟨b4,o4,V,a3,a4,-,a5⟩:=R.mR (i:=n) oM
   obtain⟨b5,o5,W,a6,a7,-,a8⟩:=a2.mR (i:=n) oM;have X:b.aQ.getD n 0=V:=by rw[QQ,a4];rfl
   have Y:P.aQ.getD n 0=W:=by rw[QQ,a7];rfl
   refine⟨b4,o4,a3,oM,oM,V,a5,_,_,_,ae Q rfl,b5,o5,a6,oM,oM,W,a8,al.dec (λa9=>e m ?_) (λb9=>?_)⟩
   ·rw[h]
    simp only[Bool.and_eq_false_iff];right;rw[List.all_eq_false];exact⟨n,by simp;omega,by rw[X,Y];simpa using a9⟩
   ·refine⟨_,oM,n+1,aq oM,oM,rfl,λf K=>?_,rfl⟩
    by_cases b0:f=n
    ·subst b0;rw[X,Y];omega
    ·exact U f oM
  ·refine e m ?_
   rw[h];simp only[QK,ZY,Zk];exact⟨oM,λf K=>U f (by simp at K;omega)⟩
def Sd(d:ck w p F S)(j:Int×Int):
  YX 301 #[ZL p,Fj j] w (Ok λz w'=>∃b c e G,z= .tuple #[jT ((S.get j).getD r_) b c e,.bool (S.get j).isSome]/\Row aI 8 w' G b c ((S.get j).getD r_).aQ/\(∀n,G n->w.heap.size<=n/\n<w'.heap.size)/\ai w w'):=by
 obtain⟨L,q,d⟩:=d;obtain⟨h,i⟩:=j;refine xk (PA.mk λw1 M s1 k=>PA.mk λA B s2 u=>λl C=>?_);have v:ai A l:=C.af;have s3:l.heap.size=A.heap.size:=by rw[C.heap]
 have k:=v.get (B.get k id) id;have u:=v.get u id;have E:=(M.then B).then v;have x:=d.ah E;have a2:=d.map.lt;have a3:=ax d.at';obtain⟨a,b,c,e,n,f,g,H,N,O⟩:∃(a:aj) (b:YQ) (c e:Nat) (n:Bool),(aF q.l (h,i)).getD (jT r_ none 0 0)=jT a b c e/\(aF q.l (h,i)).isSome=n/\(S.get (h,i)).getD r_=a/\(S.get (h,i)).isSome=n/\Row aI 8 l q.D b c a.aQ:=by
  rcases x.look L (h,i)with⟨f,g⟩|⟨z,Q,f,g,R,T,U,rfl,V,a4⟩
  ·exact⟨r_,none,0,0,false,by rw[f];rfl,by rw[f];rfl,by rw[g];rfl,by rw[g];rfl,Row.nil _ _⟩
  ·exact⟨Q,R,T,U,true,by rw[f];rfl,by rw[f];rfl,by rw[g];rfl,by rw[g];rfl,V⟩
 have I:∀n,q.D n->n<w.heap.size:=λn P=>d.aC n (d.sub n (.inr (.inr (.inr P))));refine⟨λn=>n=l.heap.size,p,0,rfl,oM,_,ae x.at' rfl,oM,_,_,ae k rfl,ae k rfl,bT (rY a b c e) ⟨n,λw' W=>?_,PA.mk λw4 m s4 X=>⟨ai.af m,az (aX a b c e) X rfl λw5 o s5 Y=>⟨o,?_⟩⟩⟩⟩
 ·have:=dX RD Wy (x.map.af W oM) (h,i) true
  rw[f,g]at this;exact this
 have Z:=(O.ah m).af o λn P hn=>by have:=I n P;omega
 refine au (aX a b c e) Y (PC.ok (mQ Z λn P=>by have:=I n P;omega) ?_);rintro _ w6 ⟨r,s,t,G,rfl,a0,J,y⟩;have a1:=y.get (o.get (m.get u id) oM) id;have z6:=y.size;refine bT (rY a r s t) ⟨rfl,az (aX a r s t) a1 rfl λw7 K s7 g7=>au (aX a r s t) g7 (Ok.mk ⟨r,s,t,G,by rw[H,N],?_,?_,?_⟩)⟩
 ·rw[H];exact a0.af K λn P hn=>by have:=J n P;omega
 ·intro n P;have:=J n P;omega
 ·exact(((E.then m).new o λn P=>.inr oM).then y).new K λn P=>.inr oM
end
section
variable {w w' w1:World} {p:Nat} {F T:ZN} {S:aw} {q:RF}
def DY{S:aw}{P:aj}:((List.range a).any λn=>!S.l_ P n)=false↔∀n,n<a->S.l_ P n=true:=by
 simp[List.any_eq_false]
def uA(b:ck w p F S){e:aj}{D:ZN}(A:Row aI 8 w D d a e.aQ)(hD:∀n,D n->n<w.heap.size/\¬F n)(he:e.Ok)(hl:S.l.length<4611686018427387904):
  YX 74 #[ZL p,jT e d a c] w (Ok λB w'=>B= ZH (S.add e).1/\∃C,ck w' p C (S.add e).2/\bB F w C w'):=by
 have eh:=b;obtain⟨E,q,b⟩:=b;have hN:=E.n;have b2:=b.len;have j0:=ax b.at';have j1:=b.map.lt;have d5:=b.Wn E;have f:∀{no:Int} {w':World},ai w w'->S.add e=(no,S)->Ok (λB w'=>B= ZH (S.add e).1/\∃C,ck w' p C (S.add e).2/\bB F w C w') (.returned (ZH no)) w':=λ{no w'} hg ha=>by
  refine Ok.mk ⟨by rw[ha],F,?_,ai.af hg,λn P=>.inl P⟩;rw[ha];exact eh.ah hg
 refine wU (PA.mk λw1 k1 s1 g1=>λw2 d2=>?_);have k2:ai w1 w2:=d2.af;have s2:w2.heap.size=w1.heap.size:=by rw[d2.heap]
 have N:=k1.then k2;have g2:=k2.get g1 id;have h5:=b.ah N;refine au (aX e d a c) g2 ⟨p,0,rfl,_,_,_,ae h5.at' rfl,PC.ok (yx (A.ah N) (by rw[b2];omega)) ?_⟩;rintro _ w3 ⟨rfl,O⟩;rw[b2];refine⟨_,rfl,al.dP (λH=>f (N.then O) ?_) (λQ=>?_)⟩
 ·rw[aw.add_def,Zx H]
 obtain⟨c1,c4,c3,c5,c6,c7,c8,c9,f0,j2⟩:=rG Q;obtain⟨o,m⟩:∃o:Nat,e.origin=o:=⟨e.origin.toNat,oM⟩
 have I:o<S.n:=oM
 intro w4 d4;have k4:ai w3 w4:=d4.af;have s4:w4.heap.size=w3.heap.size:=by rw[d4.heap]
 have d6:=(N.then O).then k4;have z3:=O.size;have g4:=k4.get (O.get g2 id) id;have b3:=b.ah d6;obtain⟨r,a5,n5,d8,n,l,J,h⟩:∃(r:aj) (d:YQ) (a c:Nat) (n:Bool),(aF q.l (aZ e)).getD (jT r_ none 0 0)=jT r d a c/\(aF q.l (aZ e)).isSome=n/\(S.get (aZ e)).isSome=n:=by
  rcases b3.look E (aZ e)with⟨l,J⟩|⟨B,a0,l,J,b8,n3,c3,rfl,j3,j4⟩
  ·exact⟨r_,none,0,0,false,by rw[l];rfl,by rw[l];rfl,by rw[J];rfl⟩
  ·exact⟨a0,b8,n3,c3,true,by rw[l];rfl,by rw[l];rfl,by rw[J];rfl⟩
 refine⟨λn=>n=w4.heap.size,p,0,rfl,oM,_,ae b3.at' rfl,oM,_,_,ae g4 rfl,ae g4 rfl,bT (rY r a5 n5 d8) ⟨n,λw' K=>?_,PA.mk λw5 k5 s5 g5=>⟨ai.af k5,az (aX r a5 n5 d8) g5 rfl λw6 k6 s6 g6=>⟨k6,?_⟩⟩⟩⟩
 ·have:=dX RD Wy (b3.map.af K oM) (aZ e) true
  rw[l,J]at this;exact this
 have R:ai w w6:=(d6.then k5).new k6 λn P=>.inr oM;have b4:=k6.get (k5.get g4 id) oM;have h6:=b.ah R;refine al.mk (λs=>f R ?_) (λhf=>?_)
 ·rw[aw.add_def,Zq (by simpa using Q),Zx (by rw[h,s])]
 obtain⟨c0,o8,x8,h7,d9,-,h8⟩:=(d5.ah R).mR (i:=o) oM;have e0:x8=(S.FR o:Int):=by rw[S.oS I]at d9;exact(XJ d9).symm
 subst e0;have j5:=S.Rt o;refine⟨_,ae b4 rfl,p,0,rfl,_,_,_,ae h6.at' rfl,_,ae b4 rfl,c0,o8,h7,c1,oM,_,by rw[m];exact h8,λw7 d7=>?_⟩;have k7:ai w6 w7:=d7.af;have s7:w7.heap.size=w6.heap.size:=by rw[d7.heap]
 have b5:=R.then k7;rw[aq oM];refine al.dP (λH=>f b5 ?_) (λe1=>?_)
 ·rw[aw.add_def,Zq (by simpa using Q),Zq (by rw[h,hf];simp),Zx]
  rw[m,Qx,S.uE I];simpa using H
 have h9:=b.ah b5;have i0:=k7.get b4 id;have c2:e.seq=S.vec.getD e.origin.toNat 0+1:=by rw[m,Qx,S.uE I];simpa using e1
 have j:∀{a1:Int×aw},(if(List.range S.n).any λo=>!S.l_ e o then((9:Int),S)else(0,⟨S.n,dm e S.l⟩))=a1->S.add e=a1:=λ{a1} A=>by
  rw[aw.add_def,Zq (by simpa using Q),Zq (by rw[h,hf];simp),Zq (by simpa using c2)];exact A
 refine⟨p,0,rfl,_,_,_,ae h9.at' rfl,λa3 i w'=>∃g:Nat,i=g/\g<=S.n/\a3=S.n-g/\(∀k,k<g->S.l_ e k=true)/\ai w7 w',⟨_,0,rfl,Qj _,rfl,λk s=>oM,ak.refl _⟩,?_⟩;rintro a3 i _ w8 ⟨g,rfl,hj,rfl,a4,T⟩;have U:=b5.then T;have e2:=T.get i0 id;have z8:=T.size;rw[b2];refine al.dec (λj6=>?_) (λj7=>?_)
 ·refine au (aX e d a c) e2 (PC.ok (RG (eh.ah U) (A.ah U) he oM (o:=g) oM) ?_)
  rintro _ w9 ⟨rfl,k9⟩;refine⟨_,rfl,al.not (al.mk (λK=>?_) (λK=>f (U.then k9) (j (Zx ?_))))⟩
  ·refine⟨_,oM,g+1,aq oM,oM,rfl,λk s=>?_,T.then k9⟩
   by_cases i1:k=g
   ·rw[i1];exact K
   ·exact a4 k oM
  ·rw[List.any_eq_true]
   exact⟨g,by simp;omega,by rw[K];rfl⟩
 ·have a6:=j (Zq (by rw[Bool.not_eq_true,DY];intro k s;exact a4 k oM))
  intro e3 e4;have e5:ai w8 e3:=e4.af;have j8:e3.heap.size=w8.heap.size:=by rw[e4.heap]
  have L:=U.then e5;have V:=e5.get e2 id;have e6:=b.ah L;have i2:=(A.ah L)
  refine⟨λn=>n=q.r,p,0,rfl,b.Wl,_,ae e6.at' rfl,oM,_,_,ae V rfl,ae V rfl,au (aX e d a c) V (PC.ok (mQ i2 λn P=>by have:=(hD n P).1;have:=L.size;omega) ?_)⟩;rintro _ i3 ⟨b7,b9,d0,G,rfl,e7,hG,W⟩;have a7:=L.then W;have X:=b.ah a7;have i9:=L.size;refine bT (rY e b7 b9 d0) ⟨rfl,ai.af W,de (enc:=Fj) (k:=aZ e) RD Wy X.map λe8 e9 t j9=>⟨t,λf2 f3=>?_⟩⟩;have u:ai e8 f2:=f3.af;have k0:f2.heap.size=e8.heap.size:=by rw[f3.heap]
  have a8:=u.get (t.get X.at' b.Wl) id;have a9:=u.get (t.get (W.get V id) oM) id;have b0:=(X.vec.af t λn P e=>b.Vn.2 (e▸P)).ah u;obtain⟨f4,f5,i4,a2,b1,-,f8⟩:=(b0.row (bytes:=8) dC (by rw[S.bN];unfold aK;omega)).mR (i:=o) oM;have d1:i4=(S.FR o:Int):=by rw[S.oS I]at b1;exact(XJ b1).symm
  subst d1;refine⟨p,0,rfl,_,_,_,ae a8 rfl,_,ae a9 rfl,f4,f5,a2,c1,oM,_,by rw[m];exact f8,f4,f5,a2,c1,oM,?_⟩;rw[m,Qx,aq oM];refine RE b0 (by rw[S.bN];exact I) (by unfold aJ;omega) a2 λg0 g3 M l0=>λg7 g8=>?_;have v:ai g0 g7:=g8.af;have l3:g7.heap.size=g0.heap.size:=by rw[g8.heap]
  have x:∀n,aD q.a=some n->q.V n:=λn P=>b.vec.self n P;have i5:¬aD q.a=some p:=λe=>b.Vn.1 (x p e);have i6:¬aD q.a=some w.heap.size:=λe=>by have:=b.vec.aC _ (x _ e);omega
  have b6:=v.get (M.get a8 i5) id;have g9:=v.get (M.get a9 i6) id;refine⟨p,0,rfl,_,ae b6 rfl,_,ae g9 rfl,p,0,rfl,PS.mk b6 sM λh3 Y l4 i7=>?_⟩;have l5:=W.size;have i8:¬aD q.a=some q.r:=λe=>b.Vn.2 (x _ e);refine Ok.mk ⟨by rw[a6],λn=>F n\/G n,?_,?_,?_⟩
  rotate_left
  ·have Z:ak F w h3:=((((ai.af a7).then (t.mono λn _ P=>b.sub n (.inr (.inl P)))).then (ai.af u)).then ((M.mono λn _ P=>b.sub n (.inr (.inr (.inl (x n P))))).then (ai.af v))).then (Y.mono λn _ P=>b.sub n (.inl P))
   exact Z
  ·intro n P;rcases P with P|P
   ·exact .inl P
   ·exact .inr (by have:=hG n P;omega)
  have h4:=(aw.Av E he).1;rw[a6]at h4⊢;have y:∀n,G n->n≠p/\n≠q.r/\¬q.V n:=λn P=>by
   have:=hG n P;refine⟨oM,oM,λhv=>?_⟩;have:=b.vec.aC n hv;omega
  refine⟨h4,⟨q.a,q.n,q.c,q.r,q.V,λn=>q.D n\/G n,aH q.l (aZ e) (jT e b7 b9 d0),aH q.L (aZ e) e⟩,?_,?_,?_,?_,?_,?_,?_,?_,b.Wl,b.Vn,?_,?_⟩
  ·have s:(if e.aA>S.top then e.aA else S.top)=max S.top e.aA:=by split<;>omega
   rw[i7,aw.Tm,<-s];rfl
  ·rw[show aw.vec ⟨S.n,dm e S.l⟩=S.vec.set o ((S.FR o+1:Nat):Int) by rw[aw.Tn S e m];simp]
   exact(g3.ah v).af Y λn P e=>b.Vn.1 (e▸P)
  ·exact(((e9.ah u).af M i8).ah v).af Y λe=>b.Wl e.symm
  ·have Z:ak (λn=>n=q.r\/aD q.a=some n\/n=p) i3 h3:=((t.mono λn _ P=>.inl P).then (ai.af u)).then (((M.mono λn _ P=>.inr (.inl P)).then (ai.af v)).then (Y.mono λn _ P=>.inr (.inr P)))
   have hd:∀n,q.D n\/G n->¬(n=q.r\/aD q.a=some n\/n=p):=by
    rintro n (P|P) (e|e|e)
    ·exact b.Wm.2 (e▸P)
    ·exact b.XI n (x n e) P
    ·exact b.Wm.1 (e▸P)
    ·exact(y n P).2.1 e
    ·exact(y n P).2.2 (x n e)
    ·exact(y n P).1 e
   refine fu.aH ⟨b7,b9,d0,rfl,(e7.mono λn P=>.inr P).af Z hd,he⟩ (X.rel.mono λB f1 hu=>(hu.mono λn P=>.inl P).af Z hd)
  ·intro r h
   rcases fj h with rfl|h
   ·rfl
   ·exact b.key r h
  ·have d3:aF q.L (aZ e)=none:=by
    rw[JT E b.key b.Wj b.tidy];have:=h.trans hf;simpa using this
   have:∀z:List ((Int×Int)×aj),aF z (aZ e)=none->aH z (aZ e) e=z++[(aZ e,e)]:=by
    intro z
    induction z with
    |nil=>intro _;rfl
    |cons a0 z ih=>
     intro hL;obtain⟨y1,y2⟩:=a0;unfold aF at hL;unfold aH;split at hL
     ·cases hL
     ·rename_i H
      rw[Zq H,ih hL];rfl
   rw[this _ d3,Q3];exact(List.perm_append_comm.trans (List.Perm.cons e b.Wj)).trans (dd e S.l).symm
  ·intro n P
   rcases P with P|P
   ·have:=b.aC n P;omega
   ·have:=hG n P;omega
  ·rintro n (P|P|P|P|P)
   ·exact .inl (b.sub n (.inl P))
   ·exact .inl (b.sub n (.inr (.inl P)))
   ·exact .inl (b.sub n (.inr (.inr (.inl P))))
   ·exact .inl (b.sub n (.inr (.inr (.inr P))))
   ·exact .inr P
  ·refine⟨?_,?_⟩
   ·rintro(P|P)
    ·exact b.Wm.1 P
    ·exact(y _ P).1 rfl
   ·rintro(P|P)
    ·exact b.Wm.2 P
    ·exact(y _ P).2.1 rfl
  ·rintro n hv (P|P)
   ·exact b.XI n hv P
   ·exact(y _ P).2.2 hv
def To(d:jV h g r 1 8)(P:(h.info? r).bind (·.zero)=some (ZH 0))(e:a<=c)(n:c*8<=aK){w:World}{f l:ZR}(b:∀w',aM aI r (·=w.heap.size) w' (ZM w.heap.size) a c (List.replicate a 0)->ai w w'->w'.heap.size=w.heap.size+1->f (.slice (ZM w.heap.size) a c) w'):
  aG h (Instr.makeSlice g (ZH (a:Int)) (ZH (c:Int))) w f l:=by
 unfold aK at n;obtain⟨m,o,i,j,p,q,y⟩:=d.info;have s:o= ZH 0:=by
  rw[i]at P;simp only[Option.bind_some,j]at P;exact XJ P
 subst s;have k:=run_make (P:=h) w g r m _ d.under i j .i64 .i64 a c oM oM (by rw[q];omega) oM;rw[Qx,Qx,p,Nat.mul_one]at k;have t:ai w (w.alloc (.cells (madeCells (Value.int .i64 0).cells c) r)):=ak.alloc w _;have u:(madeCells (Value.int .i64 0).cells c).toList=List.replicate c (ZH 0):=by
  unfold madeCells;rw[Array.toList_map];apply List.ext_getElem
  ·simp
  ·intro z A B
   simp[Value.cells,Nat.mod_one]
 refine aG.mk k (b _ ⟨⟨List.replicate a (ZH 0),λ_=>False,⟨⟨by simp[aI,flat],.inr ⟨w.heap.size,c,_,rfl,Qj _,heap_alloc_new w _,e,by unfold maxLen;omega,by simp[size_madeCells,aI,flat],?_⟩⟩⟩,?_,λ_ b=>b.elim⟩,λv n=>by simpa[aD]using n.symm,λv n=>by subst n;simp⟩ t sM)
 ·rw[u]
  simp only[aI,flat,Nat.mul_one,List.take_replicate];rw[X2 e]
 ·exact kr.2 ⟨by simp[ints],λC x=>by rw[List.eq_of_mem_replicate x];simp[aJ]⟩
def FL(f:a<=64):YX 71 #[ZH (a:Int)] w (Ok λg w'=>∃p F,g= ZL p/\ck w' p F ⟨a,[]⟩/\(∀n,F n->w.heap.size<=n)/\ai w w'):=by
 refine Gn (To uC kR (Q4 _) (by unfold aK;omega) λw1 h i r=>⟨_,_,_,rfl,PA.mk λd e s j=>PA.mk λk b t l=>Ok.mk ⟨_,λn=>w.heap.size<=n/\n<k.heap.size,rfl,⟨aw.tr f,⟨_,a,a,w1.heap.size,(·=w.heap.size),λ_=>False,[],[]⟩,l,?_,bJ.new (b.get j id),trivial,sM,List.Perm.refl _,λn P=>P.2,?_,by show d.heap.size≠w1.heap.size;omega,⟨by show d.heap.size≠_;omega,by show w1.heap.size≠_;omega⟩,⟨id,id⟩,λ_ _ m=>m⟩,λn P=>P.1,(i.then e).then b⟩⟩)
 ·have o:aw.vec ⟨a,[]⟩=List.replicate a 0:=by
   apply X3;intro q
   by_cases c:q<a
   ·rw[aw.oS ⟨a,[]⟩ c];simp[c,aw.FR]
   ·rw[Q7 (by rw[aw.bN];exact Nat.le_of_not_lt c),Q7 (by simp;omega)]
  rw[o];exact(h.ah e).ah b
 ·rintro n (rfl|rfl|rfl|P)
  ·show _/\_;omega
  ·show _<=w1.heap.size/\w1.heap.size<_;omega
  ·omega
  ·exact P.elim
end
end Go.Proofs.YtjgjkeponbeekaaGreatDoor
namespace Go.ar
open Go
abbrev FW(n:Option Nat):Fence:={Fence.wide with round:=n}
variable{I:Act}{V:Array Oper}{o:Array Value}{K:Bool}{h5 h6:Bool->ZU}{a1:Code}{t:ZT}{e9:Exit}{e0:Exit->Act->ZU}{a7:Func}{A:FuncId}{b9:List Nat}{a4 e8:List Value}{a c i:Nat}{f:ZN}{d2:Obj}{S:Oper}{U:Operand}{e7:Operand->Value}{d3:Option Nat}{h:Program}{p:ZR}{b k:World}{W:bL}{Q:cy}{e6:fL}{c8:ie}
def ur:CallsIn (FW d3) a h A o b t↔Calls h A o b t:=
 ⟨λn=>callsIn_wide.1 (show CallsIn Fence.wide a h A o b t from n),λn=>show CallsIn (FW d3) a h A o b t from(callsIn_wide (n:=a)).2 n⟩
def Te(n:Nat):(FW d3).room n:=λ_ P=>by simp[Fence.wide]at P
def OL{n:String}(P:Rows h n o b p):RowsIn (FW d3) a h n o b p:=by
 intro c cs _;obtain⟨d,e,f,g⟩:=P c cs;exact⟨d,e,f,(stepsIn_wide (P:=h)).2 g⟩
def vZ(n:Oper):Bool:=match n.op with
 | .defer _=>false
 |_=>true
def vZ.out(n:vZ S=true):∀P,S.op≠.defer P:=by
 intro P a;unfold vZ at n;rw[a]at n;cases n
section
variable {P:Program} {ro:Option Nat} {n:Nat}
def M_{next:Act->ZU}(d:ro=none\/vZ S=true)(a:S.wp P I b next e0):S.wpIn (FW ro) n P I b next e0:=by
 refine⟨λ_ _=>trivial,?_⟩;have f:S.semAt (FW ro).round I.eval=execOp I.eval S:=by
  rcases d with rfl|d
  ·rfl
  ·exact Oper.semAt_eq _ _ _ (vZ.out d)
 rw[f];unfold Oper.wp at a;generalize(execOp I.eval S).run P b=g at a⊢
 cases g with
 |ok e h=>
  cases e with
  |value i=>exact a
  |skip=>exact a
  |defer j=>exact a
  |enter k c=>exact⟨λa=>by simp[Fence.wide]at a,ur.2 a⟩
  |row row c=>exact⟨λa=>by simp[Fence.wide]at a,OL a⟩
  |_=>exact a.elim
 |halt e h=>cases e<;>first|exact a|exact a.elim
def ru{b:Array Oper}{g:Exit->Act->ZU}(h:∀d c,¬g .outgrown d c)(e:ro=none\/∀i∈b.toList,vZ i=true):∀(f:List Nat) (d:Act) (c:World),wpOps P b g f d c->wpOpsIn (FW ro) n P b g f d c
 |[],d,c,a=>a
 |l::f,d,c,a=>by
  unfold wpOps at a;unfold wpOpsIn
  cases j:b[l]? with
  |none=>rw[j]at a;exact ru h e f d c a
  |some i=>
   rw[j]at a;simp only at a⊢;split
   ·rename_i k
    rw[Zx k]at a;rcases a with a|⟨-,m,o,a⟩
    ·have p:i.wp P d c (wpOpsIn (FW ro) n P b g f) g:=Oper.wp_mono (λd c a=>ru h e f d c a) a
     refine M_ ?_ p;rcases e with e|e
     ·exact .inl e
     ·refine .inr (e i ?_)
      obtain⟨q,rfl⟩:=Q5.1 j;simp
    ·exact Zz a (h m o)
   ·rename_i k
    rw[Zq k]at a;exact⟨λ_ _=>trivial,ru h e f _ c a⟩
end
section
variable {F:Fence} {n:Nat} {P:Program} {Q:Exit->Act->ZU} {a:Act} {w:World} {b:Frame} {k:List Item} {cs:List Frame}
def gW:step P (lone (b.atR a (.code (.scope a1)::k)) cs w)= .next (lone (b.atR a (.code a1:: .inScope a1::k)) cs w):=
 step_lone_go (by simp[stepG,stepG.exec,Frame.atR])
def DV:step P (lone (b.atR a (.inScope a1::k)) cs w)= .next (lone (b.atR a k) cs w):=
 step_lone_go (by simp[stepG,stepG.exec,Frame.atR])
def LQ(o:a1.wpIn F n P (Exit.noGoto Q) a w):(Code.scope a1).wpIn F n P Q a w:=by
 intro b k cs p h i;have e:(lone (b.atR a (.code (.scope a1)::k)) cs w).fenced P F:=fenced_calm h i rfl;obtain⟨q,c,d,f,g⟩:=o b (.inScope a1::k) cs p h i
 cases q with
 |normal=>exact⟨.normal,c,d,f,.head e gW (StepsIn.trans g (.one (fenced_calm h i rfl) DV))⟩
 |exit id=>
  have m:exitTo id (.inScope a1::k)=exitTo id k:=by simp[exitTo]
  exact⟨.exit id,c,d,f,λr j=>.head e gW (g.1 r (by rw[m];exact j)),
   λl j=>let⟨k₁,h1,h2⟩:=g.2 l (by rw[m];exact j);⟨k₁,h1,.head e gW h2⟩⟩
 |goto s=>exact f.elim
 |ret=>exact⟨_,c,d,f,.of_steps (.one e gW) g⟩
 |panic t=>exact⟨_,c,d,f,.of_steps (.one e gW) g⟩
 |outgrown=>exact⟨_,c,d,f,.of_steps (.one e gW) g⟩
def wpIn_loop_ghost(b:Nat->Act->ZU)(c:Nat)(g:b c a w)(d:∀e a w,b e a w->a1.wpIn F n P (Exit.then (λh i=>∃l,l<e/\b l h i) Q) a w):(Code.loop a1).wpIn F n P Q a w:=by
 refine wpIn_loop (λa w=>∃e,b e a w) (λa w=>leastOf (λe=>b e a w)) ⟨c,g⟩ ?_;intro a w m;refine wpIn_mono (d _ a w (leastOf_spec m).1) ?_;intro o h i f
 cases o with
 |normal=>
  obtain⟨j,p,k⟩:=f;exact show(∃n,b n h i)/\leastOf (λn=>b n h i)<leastOf (λn=>b n a w)from⟨⟨j,k⟩,Nat.lt_of_le_of_lt ((leastOf_spec ⟨j,k⟩).2 j k) p⟩
 |exit id=>exact f
 |goto q=>exact f
 |ret=>exact f
 |panic r=>exact f
 |outgrown=>exact f
end
def LR(B:h.follows .mixedOrders=true){n id:Nat}(C:∀a,a∈writes (.region id V K)->a<n)(p:Rel n W Q I)(P:D h e6 (.region id V K) c8 W Q I.defers b):
  (K=false->wpOps h V (cQ n W Q (writes (.region id V K)) c8) (List.range V.size) I b)/\
  (K=true->∀a,wpOps h V (cQ n W Q (writes (.region id V K)) c8) (Region.schedule (h.follows .mixedOrders) V a) I {b with drawn:=b.drawn+1}):=by
 have j:∀k∈V.toList,∀l,k.dst=some l->l<n/\l∈writes (.region id V K):=λk i l z=>⟨C l (ks i z),ks i z⟩
 have q:∀s a,iW V s=some a->a<n:=by
  intro s a m;unfold iW at m
  cases i:V[s]? with
  |none=>rw[i]at m;simp at m
  |some k=>
   rw[i]at m;have E:k∈V.toList:=by
    have:=Q5.1 i;obtain⟨N,rfl⟩:=this;simp
   exact(j k E a m).1
 cases K with
 |false=>
  refine⟨λ_=>?_,λP=>by cases P⟩;rw[List.range_eq_range',<-XK,wpOps_eq_wpList V.toList 0 sM];exact Aj q V.toList Q I b j p (λ_ _=>rfl) P
 |true=>
  refine⟨λP=>(by cases P),λ_ a=>?_⟩;simp only[Region.schedule,B,Bool.true_or,if_true];refine wpAny_sound V.size a _ I _ ?_;unfold D at P;simp only at P;split at P
  ·obtain⟨t,P⟩:=dY.out P
   simp only[Region.lexB,QK]at t;have F:=qV (B0:=W) (e0:=Q) (W:=writes (.region id V true)) q V.toList Q I j p (λ_ _=>rfl) P;have H:wpQuiet h V (aV b) (λr=>∀c,aV b c->cQ n W Q (writes (.region id V true)) c8 .normal r c) V.toList I:=by
    refine ki ?_ _ _ F;rintro r ⟨J,u,v,L,M⟩ c g;exact⟨W,J,u,L,by rw[v];exact M c g⟩
   refine wpAny_of_quiet (C:=aV b) (Q:=λr=>∀c,aV b c->cQ n W Q (writes (.region id V true)) c8 .normal r c) (λ_ c g P=>P c g) _ _ _ _ ⟨1,rfl⟩ ?_;have:=wpAnyQ_lex (C:=aV b) (md:=.any) t.1 V.toList 0 (Array.replicate V.size false) I sM (by simpa using t.2) H;simpa using this
  ·obtain⟨A,P⟩:=dY.out P
   have d:∀(e:Bool) (f:ZN) (w:Nat->Bool),vK h W V e f (λo x b=>∀W Q,c8 (.panic o) W Q x b) (λQ x b=>c8 .normal W Q x b) w V.size (Array.replicate V.size false) Q I.defers (b.drewN 1)->
     wpAny h .any V (cQ n W Q (writes (.region id V true)) c8) V.size (Array.replicate V.size false) I {b with drawn:=b.drawn+1}:=λe f w P=>
    jm (λo I b P=>qY.post o I b P) (λ_ _ P=>P) _ _ _ _ _ (lV (B0:=W) (e0:=Q) (W:=writes (.region id V true)) q A j w _ _ Q I _ p (λ_ _=>rfl) P)
   split at P
   ·split at P
    ·obtain⟨f,P⟩:=P _ ⟨1,rfl⟩
     exact d _ f _ P
    ·exact d _ _ _ (P _ ⟨1,rfl⟩)
   ·obtain⟨y,P⟩:=dY.out P
    split at P
    ·split at P
     ·obtain⟨f,P⟩:=P _ ⟨1,rfl⟩
      rw[xH y _ _ _ (CV.init _)]at P;exact jm (λo I b P=>qY.post o I b P) (λ_ _ P=>P) _ _ _ _ _ (kY (B0:=W) (e0:=Q) (W:=writes (.region id V true)) q A j f _ _ _ Q I _ p (λ_ _=>rfl) P)
     ·obtain⟨f,P⟩:=P _ ⟨1,rfl⟩
      rw[q_ y _ _ (CV.init _)]at P;exact d _ f _ P
    ·have P:=P _ ⟨1,rfl⟩
     rw[q_ y _ _ (CV.init _)]at P;exact d _ _ _ P
def jN(P:Program)(a:Nat)(b:List Value)(c:World)(d:Bool->ZU):Prop:=
 YieldAt (FW none) 0 P a b.toArray c λe f=>∃n,e= .returned (.bool n)/\d n f
def jN.mono(f:jN h a a4 b h5)(g:∀P e,h5 P e->h6 P e):jN h a a4 b h6:=by
 obtain⟨i,c,n,d,j,k⟩:=f;exact⟨i,c,n,d,j,k.mono λm e ⟨P,l,f⟩=>⟨P,l,g P e f⟩⟩
def UZ(a:Program)(b:Value)(n:Array Value)(c:World)(d:ZR):Prop:=
 ∃P,b= .func (.yield P) #[] #[]/\jN a P n.toList c λe f=>d (.bool e) f
def Al(n:Oper):Option (Operand×Array Operand):=match n.op with
 | .call {callee:=.value (.func _),..}=>none
 | .call {callee:=.value f,args,..}=>some (f,args)
 |_=>none
def Rv(d:Program)(a:bL)(b:Array Oper)(h:ie)(c:Oper)(e:cy->List Deferred->ZU)(P:cy)(f:List Deferred)(g:World):Prop:=match Al c with
 |some (i,n)=>UZ d (ev a P i) (n.map (ev a P)) g λj k=>e (bO P c.dst j) f k
 |none=>Q_ d b a c h e P f g
def ry(b:Program)(a:bL)(n:Array Oper)(c:ie):List Oper->(cy->List Deferred->ZU)->cy->List Deferred->ZU
 |[],e,d,f,g=>e d f g
 |i::P,e,d,f,g=>match i.guard with
  |none=>Rv b a n c i (ry b a n c P e) d f g
  |some (k,h)=>match iW n k with
   |none=>False
   |some j=>match get a d j with
    | .bool l=>al l
     (match h with
      |true=>Rv b a n c i (ry b a n c P e) ((j,.bool true)::d) f g
      |false=>ry b a n c P e (bO ((j,.bool true)::d) i.dst undef) f g)
     (match h with
      |true=>ry b a n c P e (bO ((j,.bool false)::d) i.dst undef) f g
      |false=>Rv b a n c i (ry b a n c P e) ((j,.bool false)::d) f g)
    | .tuple _=>ry b a n c P e (bO d i.dst undef) f g
    |_=>False
def LS{n P:Code}(d:RoundIn (FW none) c h i A o n P b t):RoundIn (FW d3) a h i A o n P b t:=
 ⟨trivial,λe cs _=>d.2 e cs (Te _)⟩
def Ho{n:Array Operand}{l:Nat}(P:Al S=some (U,n))(c:e7 U= .func (.yield l) #[] #[]):
  (execOp e7 S).run h b=(Instr.yield l (n.map e7)).run h b:=by
 unfold Al at P;split at P
 ·cases P
 ·rename_i e a f d
  simp only[Q1,Prod.mk.injEq]at P;obtain⟨rfl,rfl⟩:=P;simp only[execOp,d,resolve,c];simp[Deferred.ofValue,invoke,Sem.run_bind,Sem.run_pure,Result.andThen]
 ·cases P
def v_{w:Program}{B:Option Nat}{L o:Nat}{e t:bL}{u:cy}{k:List Nat}{P:Array Oper}{l:ie}(M:∀m a,iW P m=some a->a<o)(S:∀a1 e n y f,l a1 e n y f->a1≠.outgrown)(v:B=none\/∀d∈P.toList,vZ d=true):
  ∀(N:List Oper) (p:Nat) (n:cy) (i:Act) (f:World),(∀m,N[m]? =P[p+m]?)->(∀d∈N,∀g,d.dst=some g->g<o/\g∈k)->Rel o e n i->(∀a,a∉k->get e n a=get t u a)->
   ry w e P l N (λn y f=>l .normal e n y f) n i.defers f->wpOpsIn (FW B) L w P (cQ o t u k l) (List.range' p N.length) i f
 |[],p,n,i,f,_,_,j,h,c=>⟨e,n,j,h,c⟩
 |d::b,p,n,i,f,a2,T,j,h,c=>by
  have h0:P[p]? =some d:=by simpa using(a2 0).symm
  have a4:d∈P.toList:=by
   obtain⟨a7,rfl⟩:=Q5.1 h0;simp
  have U:∀m,b[m]? =P[p+1+m]? :=λm=>by have:=a2 (m+1);simpa[Nat.add_assoc,Nat.add_comm 1 m]using this
  have V:∀g,d.dst=some g->g<o:=λg v=>(T d (QV ..) g v).1;have W:∀(n:cy),(∀a,a∉k->get e n a=get t u a)->∀C a,a∉k->get e (bO n d.dst C) a=get t u a:=by
   intro n h C a X
   cases v:d.dst with
   |none=>exact h a X
   |some g=>
    have a5:=(T d (QV ..) g v).2;show get e ((g,C)::n) a=_;rw[dH,Zq (by rintro rfl;exact X a5)];exact h a X
  have z:∀d∈b,∀g,d.dst=some g->g<o/\g∈k:=λd ho=>T d (QJ _ ho);have A:∀(n:cy),Rel o e n i->(∀a,a∉k->get e n a=get t u a)->Rv w e P l d (ry w e P l b λn y f=>l .normal e n y f) n i.defers f->
    d.wpIn (FW B) L w i f (wpOpsIn (FW B) L w P (cQ o t u k l) (List.range' (p+1) b.length)) (cQ o t u k l):=λn j h c=>by
   unfold Rv at c;split at c
   ·rename_i a8 E q
    obtain⟨Y,hf,fn,F,x,H,h1,h2⟩:=c;refine⟨λ_ _=>trivial,?_⟩;have Z:∀a3,d.op≠.defer a3:=by
     intro a3 Z;unfold Al at q;rw[Z]at q;cases q
    rw[Oper.semAt_eq _ _ _ Z,j.eval,Ho (l:=Y) q hf];have a6:(Instr.yield Y (E.map (ev e n))).run w f= .ok (.round Y fn F x H) f:=by
     have:=h1
     rwa [Array.toArray_toList]at this
    rw[a6,Oper.uponIn_round];refine⟨λc=>by simp[Fence.wide]at c,(LS h2).mono ?_⟩;rintro _ w' ⟨I,rfl,hK⟩;exact v_ M S v b (p+1) _ _ _ U z (j.put _ V _) (W n h _) (by rw[put_defers];exact hK)
   ·refine M_ (v.imp id λv=>v d a4) ?_
    exact GX j V c (λC a' w' a0 hK=>v_ M S v b (p+1) _ _ _ U z a0 (W n h C) hK) (λch w' hq=>⟨e,n,j,h,hq⟩)
  have r:∀(n:cy),Rel o e n i->(∀a,a∉k->get e n a=get t u a)->ry w e P l b (λn y f=>l .normal e n y f) (bO n d.dst undef) i.defers f->
    wpOpsIn (FW B) L w P (cQ o t u k l) (List.range' (p+1) b.length) (i.put d.dst undef) f:=λn j h c=>
   v_ M S v b (p+1) _ _ _ U z (j.put _ V _) (W n h _) (by rw[put_defers];exact c)
  simp only[Xq,List.range'_succ];unfold wpOpsIn;rw[h0];simp only;unfold ry at c;split at c
  ·rename_i O
   rw[Zx (by simp[Region.wanted,O])];exact A n j h c
  ·rename_i m s O
   split at c
   ·exact c.elim
   ·rename_i a hj
    have q:=oG j hj (M m a hj);split at c
    ·rename_i I J
     rw[J]at q;simp only at q;have hw:Region.wanted d (yielded P i.tmps)=(I==s):=by
      simp only[Region.wanted,O,q]
      cases I<;>cases s<;>rfl
     rw[hw];have Q:=j.again J;have R:∀K,K∉k->get e ((a,.bool I)::n) K=get t u K:=λK hu=>by rw[rN J];exact h K hu
     cases I<;>cases s<;>simp only[al]at c
     ·exact A _ Q R c
     ·exact⟨λ_ _=>trivial,r _ Q R c⟩
     ·exact⟨λ_ _=>trivial,r _ Q R c⟩
     ·exact A _ Q R c
    ·rename_i vs J
     rw[J]at q;simp only at q;have hw:Region.wanted d (yielded P i.tmps)=false:=by
      simp[Region.wanted,O,q]
     rw[hw];exact⟨λ_ _=>trivial,r _ j h c⟩
    ·exact c.elim
def qv(a:Nat)(n P:World):Prop:=ak (λb=>b=a) n P/\P.heap.size=n.heap.size
def qE(n:Nat)(P:World):Prop:=P.heap[n]? =some (.deferred (some []))
def Na(n:Nat):Deferred:={target:=.collected n,args:= #[]}
def LU:List Value->(List Value->Prop)->Prop
 |[],n=>n []
 |z::b,n=>match z with
  | .agg cs=>mL cs.toList λP=>LU b λa=>n (.agg P.toArray::a)
  |z=>mL [z] λP=>LU b λa=>n (P++a)
def og(n:World):ZN:=λP=>P≠n.heap.size/\P≠n.heap.size+1
def tF(P a:List Value):Prop:=∀n:List Value->Prop,LU P n->n a
def OM:List (Exit×(ZU))->(Exit->(ZU)->Prop)->Prop
 |[],_=>True
 |(P,a)::b,n=>n P a/\OM b n
def Wf(n:Exit->ZU):List Exit->List (Exit×(ZU))
 |[]=>[]
 |x::P=>(x,λa=>n x a)::Wf n P
def Wx(n:Exit):List (Exit×(ZU))->Prop
 |[]=>False
 |(P,_)::a=>n=P\/Wx n a
def OM.out{a:Exit->ZU}{φ:Exit->(ZU)->Prop}:∀{l:List Exit},OM (Wf a l) φ->∀n,Wx n (Wf a l)->n∈l/\φ n (λb=>a n b)
 |[],_,n,P=>P.elim
 |y::h,c,n,P=>by
  obtain⟨d,e⟩:=c;rcases P with rfl|P
  ·exact⟨QV ..,d⟩
  ·obtain⟨f,g⟩:=OM.out e n P
   exact⟨QJ _ f,g⟩
def GA(m:Program)(v:Value)(w:List Value)(a:World)(y:(List Value->Prop)->(List Value->Exit->ZU)->ZU)(z:ZU)(p:List (Exit×(ZU))):Prop:=
 ∃o k,v= .func (.func o) #[] k/\enters m o=true/\
 ∃(q:Type) (r:q) (f:q->List (List Value)->ZU) (j:Exit->List (List Value)->ZU) (s:List (List Value)->List Value->Prop) (t:List (List Value)->Prop),
  (∀h,ak (λ_=>False) a h->h.heap.size=a.heap.size+2->f r [] h)/\
  (∀b n P d,f b n P->qv (a.heap.size+1) P d->f b n d)/\
  (∀x n P d,j x n P->qv (a.heap.size+1) P d->j x n d)/\
  (∀b n P,f b n P->a.heap.size+2<=P.heap.size->y (s n) (λg x c=>match x with
   | .normal=>f b (n++[g]) c
   |x=>Wx x p/\j x (n++[g]) c) P)/\
  (∀(i:ZU) (l:Exit->ZU),(∀P d,i P->ak (og a) P d->i d)->(∀x P d,l x P->ak (og a) P d->l x d)->
   (∀P,i P->a.heap.size+2<=P.heap.size)->
   (∀b n g P,f b n P->i P->tF w g->s n g->jN m (a.heap.size+1) g P λu c=>(u=true/\f b (n++[g]) c/\i c)\/(u=false/\∃x,j x (n++[g]) c/\l x c))->
   ∀h,f r [] h->i h->Calls m o (#[.func (.yield (a.heap.size+1)) #[] #[]]++k) h λA c=>(∃B,A= .returned B)/\((i c/\∃b e,f b e c/\t e)\/∃x n,j x n c/\l x c))/\
  (∀b e P,f b e P->t e->qE a.heap.size P->z P)/\
  OM p λx C=>∀n P,j x n P->qE a.heap.size P->C P
def Nb:List Nat->List Value->cy->cy
 |P::a,b::c,n=>Nb a c ((P,b)::n)
 |_,_,n=>n
def ON:List (Nat×Value)->List Nat
 |[]=>[]
 |(n,_)::P=>n::ON P
def iH:Code->Bool
 | .region _ P _=>P.toList.all vZ
 | .seq a b=>iH a&&iH b
 | .cond _ a b=>iH a&&iH b
 | .block _ n=>iH n
 | .loop n=>iH n
 | .scope n=>iH n
 | .rangeFunc .. =>false
 |_=>true
def gD:Code->List Exit
 | .exit id=>[.exit id]
 | .ret=>[.ret]
 | .seq P a=>gD P++gD a
 | .cond _ P a=>gD P++gD a
 | .block _ n=>gD n
 | .loop n=>gD n
 | .scope n=>gD n
 |_=>[]
def Rw:Exit->Code
 | .ret=>.ret
 | .exit id=>.exit id
 | .goto n=>.goto n
 |_=>.skip
def U_(n:Exit->ZU):ie:=λa _ _ _ P=>match a with
 | .normal=>n .normal P
 | .ret=>n .ret P
 | .exit id=>n (.exit id) P
 |_=>False
def DR(f:Program)(e:fL)(g:List Nat):Bool->Code->ie->bL->cy->List Deferred->ZU
 |_,.skip,c,b,n,a,P=>c .normal b n a P
 |_,.label _,c,b,n,a,P=>c .normal b n a P
 |_,.exit id,c,b,n,a,P=>c (.exit id) b n a P
 |_,.ret,c,b,n,a,P=>c .ret b n a P
 |_,.region id q p,c,b,n,a,P=>match Ci g id with
  |true=>(match p with
   |false=>ry f b q c q.toList (λn a P=>c .normal b n a P) n a P
   |true=>False)
  |false=>D f e (.region id q p) c b n a P
 |top,.seq h k,c,b,n,a,P=>match Oo e.QG (key k)with
  |none=>DR f e g top h (Ck (λb n a P=>DR f e g top k c b n a P) c) b n a P
  |some d=>∃x:Fn (iE d) (ZU),DR f e g top h (Ck (λl s j i=>Cj j a (ap (iE d) x (zW l s d) i)) c) b n a P/\
    eM (writes h) n λu=>mL (iE d) λm=>∀(l:bL) (i:World),ap (iE d) x m i->DR f e g top k c l (yD d m u) a i
 |top,.cond o h k,c,b,n,a,P=>match ev b n o with
  | .bool A=>al A (DR f e g top h c b n a P) (DR f e g top k c b n a P)
  |_=>False
 |top,.block id o,c,b,n,a,P=>DR f e g top o (xI id c) b n a P
 |top,.scope o,c,b,n,a,P=>DR f e g top o (G_ c) b n a P
 |top,.loop o,c,b,n,a,P=>match Oo e.loops (key o)with
  |none=>False
  |some d=>∃v:Nat->Fn (iE d) (ZU),(∃t,ap (iE d) (v t) (zW b n d) P)/\
    ∀t,eM (writes o) n λu=>mL (iE d) λm=>∀(l:bL) (i:World),ap (iE d) (v t) m i->
     DR f e g top o (Ck (λl s j i=>Cj j a (∃y,y<t/\ap (iE d) (v y) (zW l s d) i)) c) l (yD d m u) a i
 |top,.rangeFunc B C h k,c,b,n,a,P=>match top with
  |false=>False
  |true=>match Oo e.loops (key k)with
   |none=>False
   |some d=>dY (On (ON d) C.toList&&(iH h&&iH k)) (GA f (ev b n B) (iE d) P
     (λE F r=>LU (iE d) λm=>E m->DR f e g false h (Ck (λl s j i=>ak (og P) r i/\∀w,qv (P.heap.size+1) i w->DR f e g false k (U_ λh z=>ak (og P) w z/\F m h z) l s j w) (λ_ _ _ _ _=>False)) b (Nb (ON d) m n) [] r)
     (λr=>c .normal b n (Na P.heap.size::a) r) (Wf (λh r=>c h b n (Na P.heap.size::a) r) (gD k)))
 |_,_,_,_,_,_,_=>False
def ll:Code->List Nat
 | .region _ b _=>EJ b.toList
 | .seq n P=>ll n++ll P
 | .cond _ n P=>ll n++ll P
 | .block _ a=>ll a
 | .loop a=>ll a
 | .scope a=>ll a
 | .rangeFunc _ c n P=>c.toList++(ll n++ll P)
 |_=>[]
def Ry:∀(P:List Value) (b:List Value->Prop),(∀n,n.length=P.length->b n)->LU P b:=by
 have d:∀(P:List Value) (b:List Value->Prop),(∀n,n.length=P.length->b n)->mL P b:=by
  intro P
  induction P with
  |nil=>intro b a;exact a [] rfl
  |cons g P e=>
   intro b a
   cases g
   case pointer h=>cases h<;>simp only[mL]<;>intros<;>exact e _ λn c=>a _ (by simp[c])
   all_goals(simp only[mL];intros;exact e _ λn c=>a _ (by simp[c]))
 intro P
 induction P with
 |nil=>intro b a;exact a [] rfl
 |cons g P e=>
  intro b a
  cases g
  case pointer h=>cases h<;>(simp only[LU];exact d [_] _ λn c=>e _ λj f=>a _ (by have i:n.length=1:=c;simp[i,f,Nat.add_comm]))
  case agg cs=>exact d cs.toList _ λn c=>e _ λj f=>a _ (by simp[f])
  all_goals(simp only[LU];exact d [_] _ λn c=>e _ λj f=>a _ (by have i:n.length=1:=c;simp[i,f,Nat.add_comm]))
def tF.len(n:tF a4 e8):e8.length=a4.length:=n _ (Ry a4 _ λ_ n=>n)
def JI:∀n:List (Nat×Value),(ON n).length=(iE n).length
 |[]=>rfl
 |(_,_)::P=>by simp[ON,iE,JI P]
def Fe{e:Nat}{i:bL}:∀(b:List Nat) (P:List Value) (c:cy) (n:Array Value),(∀a∈b,a<e)->P.length=b.length->Rel e i c {tmps:=n,defers:=[]}->
  Rel e i (Nb b P c) {tmps:=(b.zip P).foldl (λa (j:Nat×Value)=>a.setIfInBounds j.1 j.2) n,defers:=[]}
 |[],P,c,n,_,d,f=>by
  cases P with
  |nil=>exact f
  |cons g P=>simp at d
 |a::b,P,c,n,k,d,f=>by
  cases P with
  |nil=>simp at d
  |cons g P=>
   exact Fe b P ((a,g)::c) _ (λl h=>k l (QJ _ h)) (by simpa using d) (f.put (some a) (λl h=>by cases h;exact k a (QV ..)) g)
def JJ:∀(P:Code) (a:Exit),a∈gD P->a= .ret\/∃id,a= .exit id:=by
 intro P
 induction P with
 |exit id=>intro a n;simp only[gD,List.mem_singleton]at n;exact .inr ⟨id,n⟩
 |ret=>intro a n;simp only[gD,List.mem_singleton]at n;exact .inl n
 |seq a f b c=>intro d n;exact(Q6.1 n).elim (b d) (c d)
 |cond P a f b c=>intro d n;exact(Q6.1 n).elim (b d) (c d)
 |block id P e=>exact e
 |loop P e=>exact e
 |scope P e=>exact e
 |_=>intro d n;cases n
def jE{w:World}{l:Nat}{o:Obj}:qv l w (w.putObj l o):=
 ⟨⟨rfl,rfl,rfl,sM,λP _ n=>World.putObj_heap_other n⟩,sM⟩
def ak.obj(P:ak f b k)(n:b.heap[a]? =some d2)(c:¬f a):k.heap[a]? =some d2:=
 (P.block a (Q5.1 n).1 c).trans n
def cQ.of(n:Rel a W Q I)(P:c8 e9 W Q I.defers b):cQ a W Q b9 c8 e9 I b:=⟨W,Q,n,λ_ _=>rfl,P⟩
def Wg(hm:h.follows .mixedOrders=true){n m:Nat}:∀(I:Code) (r:Option Nat) (d:Bool) (t:ie) (e:bL) (f:cy) (l:Act) (b:World),
  (r=none\/(d=false/\iH I=true))->(∀a,a∈ll I->a<n)->(∀u e f Y b,t u e f Y b->u≠.outgrown)->Rel n e f l->DR h e6 b9 d I t e f l.defers b->I.wpIn (FW r) m h (cQ n e f (writes I) t) l b:=by
 intro I
 induction I generalizing m with
 |skip=>intro r d t e f l b _ _ _ k P;exact wpIn_skip (cQ.of k P)
 |label a0=>intro r d t e f l b _ _ _ k P;exact wpIn_label (cQ.of k P)
 |exit id=>intro r d t e f l b _ _ _ k P;exact wpIn_exit (cQ.of k P)
 |ret=>intro r d t e f l b _ _ _ k P;exact wpIn_ret (cQ.of k P)
 |goto a0=>intro r d t e f l b _ _ _ k P;exact P.elim
 |refuse vO=>intro r d t e f l b _ _ _ k P;exact P.elim
 |scope I ih=>
  intro r d t e f l b C y J k P;refine LQ (wpIn_mono (ih r d (G_ t) e f l b C y (by intro q e f Y b c Q;subst Q;exact J _ _ _ _ _ c rfl) k P) ?_);intro q v x o;obtain⟨z,w,B,F,c⟩:=o
  cases q with
  |goto a0=>exact c.elim
  |normal=>exact⟨z,w,B,F,c⟩
  |exit id=>exact⟨z,w,B,F,c⟩
  |ret=>exact⟨z,w,B,F,c⟩
  |panic ch=>exact⟨z,w,B,F,c⟩
  |outgrown=>exact⟨z,w,B,F,c⟩
 |region id A Z=>
  intro r d t e f l b C y J k P;have hd:r=none\/∀V∈A.toList,vZ V=true:=C.imp (λP=>P) λP=>by
   have:=P.2;unfold iH at this;exact ZY.1 this
  have d1:∀v x,¬cQ n e f (writes (.region id A Z)) t .outgrown v x:=λl b ⟨e,f,_,_,c⟩=>J _ _ _ _ _ c rfl;unfold DR at P;split at P
  ·split at P
   ·have W:∀V∈A.toList,∀a5,V.dst=some a5->a5<n/\a5∈writes (.region id A false):=λV ho a5 hd=>⟨y a5 (ks ho hd),ks ho hd⟩
    have e9:∀c4 a,iW A c4=some a->a<n:=by
     intro c4 a N;unfold iW at N
     cases ho:A[c4]? with
     |none=>rw[ho]at N;simp at N
     |some V=>
      rw[ho]at N;have f0:V∈A.toList:=by
       obtain⟨d2,rfl⟩:=Q5.1 ho;simp
      exact(W V f0 a N).1
    refine wpIn_region ?_;rw[List.range_eq_range',<-XK];exact v_ e9 J hd A.toList 0 f l b sM W k (λ_ _=>rfl) P
   ·exact P.elim
  ·obtain⟨h1,h2⟩:=LR hm (n:=n) y k P
   cases Z with
   |false=>exact wpIn_region (ru d1 hd _ _ _ (h1 rfl))
   |true=>exact wpIn_region_draw λa=>ru d1 hd _ _ _ (h2 rfl a)
 |seq u R K L=>
  intro r d t e f l b C y J k P;have b4:r=none\/(d=false/\iH u=true):=C.imp (λP=>P) λP=>⟨P.1,by have:=P.2;simp only[iH,QK]at this;exact this.1⟩
  have b5:r=none\/(d=false/\iH R=true):=C.imp (λP=>P) λP=>⟨P.1,by have:=P.2;simp only[iH,QK]at this;exact this.2⟩
  have b6:∀a,a∈ll u->a<n:=λa j=>y a (Q6.2 (.inl j));have b7:∀a,a∈ll R->a<n:=λa j=>y a (Q6.2 (.inr j));have g:∀(a3:bL->cy->List Deferred->ZU) (q:Exit) (v:Act) (x:World),q≠.normal->cQ n e f (writes u) (Ck a3 t) q v x->cQ n e f (writes (u.seq R)) t q v x:=by
   intro a3 q v x f4 o;refine o.mono (λa j=>Q6.2 (.inl j)) (λ_ _=>rfl) λz w i8 w1 c=>?_
   cases q with
   |normal=>exact Zz rfl f4
   |outgrown=>exact c.elim
   |_=>exact c
  have d3:∀(a3:bL->cy->List Deferred->ZU) q e f Y b,Ck a3 t q e f Y b->q≠.outgrown:=by
   intro a3 q e f Y b c Q;subst Q;exact c.elim
  unfold DR at P;split at P
  ·have hx:=K (m:=m) r d _ e f l b b4 b6 (d3 _) k P
   refine wpIn_seq (wpIn_mono hx ?_);intro q v x o
   cases q with
   |normal=>
    obtain⟨z,w,B,F,c⟩:=o;have hy:=L (m:=m) r d t z w v x b5 b7 J B c;refine wpIn_mono hy (λq d4 d5 o=>?_);refine o.mono (λa j=>Q6.2 (.inr j)) (λa j=>F a λhm=>j (Q6.2 (.inl hm))) λ_ _ _ _ c=>c
   |exit id=>exact g _ _ _ _ sM o
   |goto a0=>exact g _ _ _ _ sM o
   |ret=>exact g _ _ _ _ sM o
   |panic ch=>exact g _ _ _ _ sM o
   |outgrown=>exact g _ _ _ _ sM o
  ·rename_i H hS
   obtain⟨f5,P,c5⟩:=P;obtain⟨w,h1,h2,c5⟩:=eM.out c5;have hx:=K (m:=m) r d _ e f l b b4 b6 (d3 _) k P;refine wpIn_seq (wpIn_mono hx ?_);intro q v x o
   cases q with
   |normal=>
    obtain⟨B2,e2,O,b0,c⟩:=o;obtain⟨b8,hJ⟩:=Cj.out c;have hv:=nK O H;have a7:=jA B2 e2 H;have d6:=ap.all a7 hJ c5 (λa=>v.tmps.getD a undef) x hJ;rw[hv,<-b8]at d6;have d7:=vN (n:=n) H O.size h1 h2 (B0:=e) (λa j=>(O.slot a).trans (b0 a j));have hy:=L (m:=m) r d t _ _ v x b5 b7 J d7 d6;refine wpIn_mono hy (λq d4 d5 o=>?_);refine o.mono (λa j=>Q6.2 (.inr j)) (λa j=>?_) λ_ _ _ _ c=>c;rw[<-d7.slot];exact(O.slot a).trans (b0 a λhm=>j (Q6.2 (.inl hm)))
   |exit id=>exact g _ _ _ _ sM o
   |goto a0=>exact g _ _ _ _ sM o
   |ret=>exact g _ _ _ _ sM o
   |panic ch=>exact g _ _ _ _ sM o
   |outgrown=>exact g _ _ _ _ sM o
 |cond I u R K L=>
  intro r d t e f l b C y J k P;have b4:r=none\/(d=false/\iH u=true):=C.imp (λP=>P) λP=>⟨P.1,by have:=P.2;simp only[iH,QK]at this;exact this.1⟩
  have b5:r=none\/(d=false/\iH R=true):=C.imp (λP=>P) λP=>⟨P.1,by have:=P.2;simp only[iH,QK]at this;exact this.2⟩
  unfold DR at P;split at P
  ·rename_i f6 S
   refine wpIn_cond_split (t:=f6) (by rw[k.eval];exact S) (λj=>?_) (λhf=>?_)
   ·subst j
    refine wpIn_mono (K r d t e f l b b4 (λa j=>y a (Q6.2 (.inl j))) J k P) (λq v x o=>?_);exact o.mono (λa j=>Q6.2 (.inl j)) (λ_ _=>rfl) λ_ _ _ _ c=>c
   ·subst hf
    refine wpIn_mono (L r d t e f l b b5 (λa j=>y a (Q6.2 (.inr j))) J k P) (λq v x o=>?_);exact o.mono (λa j=>Q6.2 (.inr j)) (λ_ _=>rfl) λ_ _ _ _ c=>c
  ·exact P.elim
 |block id I ih=>
  intro r d t e f l b C y J k P;refine wpIn_block (wpIn_mono (ih r d (xI id t) e f l b C y (by intro q e f Y b c Q;subst Q;exact c.elim) k P) ?_);intro q v x o;obtain⟨z,w,B,F,c⟩:=o
  cases q with
  |exit a8=>
   show(if a8=id then _ else _);simp only[xI]at c
   cases S:Nat.beq a8 id with
   |true=>
    rw[S]at c;rw[Zx (X9 S)];exact⟨z,w,B,F,c⟩
   |false=>
    rw[S]at c;rw[Zq (by rintro rfl;simp at S)];exact⟨z,w,B,F,c⟩
  |normal=>exact⟨z,w,B,F,c⟩
  |goto a0=>exact⟨z,w,B,F,c⟩
  |ret=>exact⟨z,w,B,F,c⟩
  |panic ch=>exact⟨z,w,B,F,c⟩
  |outgrown=>exact c.elim
 |loop I ih=>
  intro r d t e f l b C y J k P;unfold DR at P;split at P
  ·exact P.elim
  ·rename_i H hS
   obtain⟨f7,⟨m0,h0⟩,f8⟩:=P;refine wpIn_loop_ghost (λm v x=>v.tmps.size=n/\(∀a,a∉writes I->v.tmps.getD a undef=get e f a)/\v.defers=l.defers/\
    ap (iE H) (f7 m) (H.map λa4=>v.tmps.getD a4.1 undef) x) m0 ⟨k.size,λa _=>k.slot a,rfl,by rw[<-nK k H];exact h0⟩ ?_
   rintro mm v x ⟨f9,d8,b8,hI⟩;obtain⟨w,h1,h2,g0⟩:=eM.out (f8 mm);have a7:(H.map λa4=>v.tmps.getD a4.1 undef).length=(iE H).length:=by rw[<-jA e f H,Ak];simp
   have S:=ap.all a7 hI g0 (λa=>v.tmps.getD a undef) x hI;have c0:=vN (n:=n) H f9 h1 h2 d8;rw[<-b8]at S;have c6:=ih (m:=m) r d _ _ _ v x C y (by intro q e f Y b c Q;subst Q;exact c.elim) c0 S;refine wpIn_mono c6 ?_;intro q d4 d5 o;obtain⟨B2,e2,O,b0,c⟩:=o;have a9:∀a,a∉writes I->get B2 e2 a=get e f a:=λa j=>(b0 a j).trans ((c0.slot a).symm.trans (d8 a j))
   cases q with
   |normal=>
    obtain⟨g1,m',d2,g2⟩:=Cj.out c;refine⟨m',d2,O.size,λa j=>(O.slot a).trans (a9 a j),g1.trans b8,?_⟩;rw[<-nK O H];exact g2
   |outgrown=>exact c.elim
   |exit id=>exact⟨B2,e2,O,a9,c⟩
   |goto a0=>exact⟨B2,e2,O,a9,c⟩
   |ret=>exact⟨B2,e2,O,a9,c⟩
   |panic ch=>exact⟨B2,e2,O,a9,c⟩
 |rangeFunc g3 ps u R K L=>
  intro r d t e f l b C y J k P;unfold DR at P;split at P
  ·exact P.elim
  obtain rfl:r=none:=C.resolve_right λP=>by cases P.1
  split at P
  ·exact P.elim
  rename_i H hS;obtain⟨d9,P⟩:=dY.out P;simp only[QK]at d9;obtain⟨c1,g4,g5⟩:=d9;have c1:=On.out c1;obtain⟨c7,a1,g6,g7,σ,s0,f5,Jx,a3,i9,g8,e0,c2,c6,g9,h3,h4⟩:=P;have b6:∀a,a∈ll u->a<n:=λa j=>y a (Q6.2 (.inr (Q6.2 (.inl j))));have b7:∀a,a∈ll R->a<n:=λa j=>y a (Q6.2 (.inr (Q6.2 (.inr j))));have h5:∀a,a∈ps.toList->a<n:=λa j=>y a (Q6.2 (.inl j));refine wpIn_rangeFunc ?_;intro fn _;obtain⟨p,s⟩:∃p:LoopState->Option Code->Loop,p=λst pe=>{state:=st,pending:=pe,fn,tmps:=l.tmps,params:=ps,assign:=u,body:=R,defers:=b.heap.size}:=⟨_,rfl⟩
  obtain⟨T,b2⟩:∃T,(b.alloc (.deferred (some []))).alloc (.loop (p .ready none))=T:=⟨_,rfl⟩
  have h6:T.heap[b.heap.size+1]? =some (.loop (p .ready none)):=by
   rw[<-b2];have:=World.alloc_heap_new (b.alloc (.deferred (some []))) (.loop (p .ready none));rwa [World.size_alloc]at this
  have h7:T.heap[b.heap.size]? =some (.deferred (some [])):=by
   rw[<-b2];exact(Go.RowKit.Below.heap_alloc _ _ _ sM).trans (World.alloc_heap_new b _)
  have h8:T.heap.size=b.heap.size+2:=by rw[<-b2];simp
  have h9:ak (λ_=>False) b T:=by
   rw[<-b2];exact⟨rfl,rfl,rfl,by simp;omega,λi0 E _=>(Go.RowKit.Below.heap_alloc _ _ _ (by simp;omega)).trans (Go.RowKit.Below.heap_alloc b _ i0 E)⟩
  let i1:ZU:=λe6=>e6.heap[b.heap.size+1]? =some (.loop (p .ready none))/\e6.heap[b.heap.size]? =some (.deferred (some []))
  let Rx:Exit->ZU:=λu e6=>Wx u (Wf (λu A0=>t u e f (Na b.heap.size::l.defers) A0) (gD R))/\e6.heap[b.heap.size+1]? =some (.loop (p .done (some (Rw u))))/\e6.heap[b.heap.size]? =some (.deferred (some []))
  have c3:∀{e6 e:World} {V o':Obj},ak (og b) e6 e->e6.heap[b.heap.size+1]? =some V->e6.heap[b.heap.size]? =some o'->e.heap[b.heap.size+1]? =some V/\e.heap[b.heap.size]? =some o':=λE h1 h2=>
   ⟨E.obj h1 λP=>P.2 rfl,E.obj h2 λP=>P.1 rfl⟩
  refine⟨b.heap.size+1,[Na b.heap.size],T,{target:=.fn (.func c7) a1,args:= #[.func (.yield (b.heap.size+1)) #[] #[]]},T,c7,#[.func (.yield (b.heap.size+1)) #[] #[]]++a1,T,?_,?_,λ_ _=>trivial,?_,λP=>by simp[Fence.wide]at P,?_⟩
  ·rw[<-b2,s];exact run_enterLoop_outer _ _ _ _ _
  ·have hg:l.eval g3= .func (.func c7) #[] a1:=by rw[k.eval];exact g6
   simp only[resolve,hg];simp[go_sem]
  ·simp only[invoke];exact iD g7 _ _
  refine ur.2 (Calls.mono (g9 i1 Rx (λe6 e P E=>c3 E P.1 P.2) (λu e6 e P E=>⟨P.1,c3 E P.2.1 P.2.2⟩) (λe6 P=>by have:=(Q5.1 P.1).1;omega) ?_ T (g8 T h9 h8) ⟨h6,h7⟩) ?_)
  ·
   rintro c8 M vs A1 N ⟨W,E⟩ e1 hN;have a7:=e1.len;have e3:vs.length=ps.toList.length:=by rw[a7,<-c1,JI]
   have hy:=run_yield (P:=h) (args:=vs.toArray) W (by rw[s];simpa using e3);rw[s]at hy;refine⟨fn,_,u,R,hy,roundIn_of_wpIn trivial ?_⟩;have S:=e1 _ (c6 c8 M A1 N (by have:=(Q5.1 W).1;omega)) hN;have c0:Rel n e (Nb (ON H) vs f) {tmps:=(ps.zip vs.toArray).foldl (λU (u:Tmp×Value)=>U.setIfInBounds u.1 u.2) l.tmps,defers:=[]}:=by
    have h0:Rel n e f {tmps:=l.tmps,defers:=[]}:=⟨k.size,k.slot⟩
    have:=Fe ps.toList vs f l.tmps h5 e3 h0;rw[c1];have w:(ps.zip vs.toArray).foldl (λU (u:Tmp×Value)=>U.setIfInBounds u.1 u.2) l.tmps=(ps.toList.zip vs).foldl (λa (a4:Nat×Value)=>a.setIfInBounds a4.1 a4.2) l.tmps:=by
     rw[<-Array.foldl_toList,Array.toList_zip]
    rw[w];exact this
   have hx:=K (m:=0) (some (b.heap.size+1)) false _ e _ _ A1 (.inr ⟨rfl,g4⟩) b6 (by intro q e f Y b c Q;subst Q;exact c.elim) c0 S;refine wpIn_mono hx ?_;intro q i2 A2 o;obtain⟨z,w,B,-,c⟩:=o
   cases q with
   |exit id=>exact c.elim
   |goto a0=>exact c.elim
   |ret=>exact c.elim
   |panic ch=>exact c.elim
   |outgrown=>exact c.elim
   |normal=>
    obtain⟨i3,c⟩:=c;obtain⟨e4,i4⟩:=c3 i3 W E;refine⟨_,run_beginRound e4 (by rw[s]),?_⟩;have c:=c _ (jE (w:=A2) (l:=b.heap.size+1) (o:=.loop {p .ready none with state:=.busy}));have e5:(A2.putObj (b.heap.size+1) (.loop {p .ready none with state:=.busy})).heap[b.heap.size+1]? =some (.loop {p .ready none with state:=.busy}):=World.putObj_heap_same (Q5.1 e4).1;have e7:(A2.putObj (b.heap.size+1) (.loop {p .ready none with state:=.busy})).heap[b.heap.size]? =some (.deferred (some [])):=(World.putObj_heap_other oM).trans i4;generalize A2.putObj (b.heap.size+1) (.loop {p .ready none with state:=.busy})=A3 at c e5 e7;have hy:=L (m:=0) (some (b.heap.size+1)) false _ z w i2 A3 (.inr ⟨rfl,g5⟩) b7 (by intro q e f Y b c Q;subst Q;exact c.elim) B c;refine wpIn_mono hy ?_;have a2:∀(i:Option Code) (X:World),ak (og b) A3 X->
      (Instr.endRound (b.heap.size+1) i).run h X= .ok (.bool i.isNone) (X.putObj (b.heap.size+1) (.loop (p (if i.isNone then .ready else .done) i)))/\
      (X.putObj (b.heap.size+1) (.loop (p (if i.isNone then .ready else .done) i))).heap[b.heap.size+1]? =some (.loop (p (if i.isNone then .ready else .done) i))/\
      (X.putObj (b.heap.size+1) (.loop (p (if i.isNone then .ready else .done) i))).heap[b.heap.size]? =some (.deferred (some [])):=λi X a6=>by
     obtain⟨e8,i5⟩:=c3 a6 e5 e7;have:=run_endRound (P:=h) i e8;rw[s]at this⊢;exact⟨this,World.putObj_heap_same (Q5.1 e8).1,(World.putObj_heap_other oM).trans i5⟩
    intro q j0 X o;obtain⟨B4,j1,j2,-,b1⟩:=o
    cases q with
    |normal=>
     obtain⟨a6,b3⟩:=b1;obtain⟨f1,f2,f3⟩:=a2 none X a6;exact⟨_,_,f1,true,rfl,.inl ⟨rfl,e0 _ _ _ _ b3 jE,f2,f3⟩⟩
    |ret=>
     obtain⟨a6,c9,b3⟩:=b1;obtain⟨f1,f2,f3⟩:=a2 (some .ret) X a6;exact⟨_,_,f1,false,rfl,.inr ⟨rfl,.ret,c2 _ _ _ _ b3 jE,c9,f2,f3⟩⟩
    |exit id=>
     obtain⟨a6,c9,b3⟩:=b1;obtain⟨f1,f2,f3⟩:=a2 (some (.exit id)) X a6;exact⟨_,_,f1,false,rfl,.inr ⟨rfl,.exit id,c2 _ _ _ _ b3 jE,c9,f2,f3⟩⟩
    |goto a=>exact b1.elim
    |panic ch=>exact b1.elim
    |outgrown=>exact b1.elim
  ·
   rintro ed A2 ⟨⟨j3,rfl⟩,(⟨⟨W,E⟩,c8,d0,N,hT⟩|⟨x1,M,N,i6,W,E⟩)⟩
   ·refine⟨none,_,by have:=run_endLoop (P:=h) W (by rw[s];simp);rw[s]at this;exact this,?_⟩
    exact cQ.of (k.defers _) (h3 c8 d0 _ (e0 _ _ _ _ N jE) hT ((World.putObj_heap_other oM).trans E))
   ·refine⟨some (Rw x1),_,by have:=run_endLoop (P:=h) W (by rw[s];simp);rw[s]at this;exact this,?_⟩
    obtain⟨i7,c⟩:=OM.out h4 x1 i6;rcases JJ R x1 i7 with rfl|⟨id,rfl⟩
    ·exact wpIn_ret (cQ.of (k.defers _) (c M _ (c2 .ret M A2 _ N jE) ((World.putObj_heap_other oM).trans E)))
    ·exact wpIn_exit (cQ.of (k.defers _) (c M _ (c2 (.exit id) M A2 _ N jE) ((World.putObj_heap_other oM).trans E)))
def Vm(n:ZU):List Deferred->ZU
 |[],P=>n P
 |d::c,P=>match d.target with
  | .collected a=>qE a P/\∀b,qv a P b->Vm n c b
  |_=>False
def TY(c:Program)(d:Func)(P:ZT):ie:=λg e f a n=>match g with
 | .normal=>Vm (λn=>Jc c d.results.toList e f n λb=>P (.returned (oneOf b)) n) a n
 | .ret=>Vm (λn=>Jc c d.results.toList e f n λb=>P (.returned (oneOf b)) n) a n
 | .panic h=>Vm (λn=>P (.panicked h) n) a n
 |_=>False
def oT{f:Program}{g:Func}{n:Array Value}{h:ZT}{b:ZU}{e:FrameMode}(i:e≠.run){j:Nat}(k:∀P,b P->LeavesIn (FW none) j f g n h [] e P):∀(c:List Deferred) (P:World),Vm b c P->LeavesInM (FW none) j f g n h c e P
 |[],P,a=>k P a
 |d::c,P,a=>by
  unfold Vm at a;split at a
  ·rename_i l m
   obtain⟨o,a⟩:=a;exact⟨i,.inl ⟨l,_,m,run_takeDeferred o,oT i k c _ (a _ jE)⟩⟩
  ·exact a.elim
def nz(g:fL)(i:List Nat)(j:h.follows .mixedOrders=true)(k:h.funcs[A]? =some a7)(l:a7.body=some a1)(m:o.size<=a7.ntmps)(p:uM a7.ntmps (ll a1)=true)(P:DR h g i true a1 (TY h a7 t) (λ_=>undef) (eX 0 o.toList) [] b):Calls h A o b t:=by
 refine ur.1 (callsIn_of_wp_marks (F:=FW none) (n:=0) k l trivial (wpIn_mono (Wg j a1 none true (TY h a7 t) _ _ _ b (.inl rfl) (lb p) (by intro c d e v b n q;subst q;exact n.elim) (xJ m []) P) ?_));rintro c r w ⟨d,e,s,_,n⟩;have f:∀b,(Jc h a7.results.toList d e b λa=>t (.returned (oneOf a)) b)->LeavesIn (FW none) 0 h a7 r.tmps t [] .returning b:=λb P=>by
  obtain⟨a,u,P⟩:=rb s P;exact⟨_,rf u,P⟩
 cases c with
 |normal=>exact oT sM f _ _ n
 |ret=>exact oT sM f _ _ n
 |panic x=>exact oT sM (λb P=>P) _ _ n
 |exit id=>exact n.elim
 |goto a=>exact n.elim
 |outgrown=>exact n.elim

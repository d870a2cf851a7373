import Derived.Test.YtfchlbaidamodaaGreatDoorKa16
set_option linter.all false
set_option maxRecDepth 20000
namespace Go.Proofs.YtfchlbaidamodaaGreatDoor
open Go.ax
variable{r:Array Value}{z:FuncId}{e:Int}{d7:Int×ak}{u:List Int}{a c:Nat}{f:Nat->Prop}{d:Option Addr}{b:World}
theorem cH {D:Nat->Prop} (h:Row aP 8 b D d a u) (i:∀e,D e->e<b.heap.size):
  Calls ZQ 96 #[.slice d a c] b (Ok (qD aP 3 b u)):=by
 have y:=h.len;have f:=h.d_;refine oO (kZ tN.under ⟨_,rfl,al.mk (λg=>?_) (λg=>PA.mk λl j z m=>?_)⟩)
 ·have:u=[]:=by
   cases d with
   |none=>
    cases u with
    |nil=>rfl
    |cons n A=>obtain⟨e,o,B,p,_⟩:=h.el 0 n rfl;cases p
   |some q=>cases g
  subst this;exact Ok.mk ⟨none,0,0,λ_=>False,rfl,aV.nil b,aj.refl _,λ_ h=>h.elim⟩
 ·cases d with
  |none=>cases g
  |some q=>
   have r:aV aP 3 (·=b.heap.size) l (some ⟨b.heap.size,0,none⟩) 0 0 []:=
    ⟨⟨[],λ_=>False,Own.xF (cur:= #[]) m rfl (Qj _),rfl,λ_ h=>h.elim⟩,λe f=>by simpa [aI]using f.symm,λe f=>oM⟩
   refine lH r tN (D:=D) (h.af j) (λe f=>⟨by have:=i e f;omega,by have:=i e f;simp only [aI];intro s;cases s;omega⟩) (by simp;omega) (by unfold aQ at f;unfold maxLen;simp;omega) λk t C E v w _ x=>?_;refine⟨_,_,_,rfl,Ok.mk ⟨k,_,t,λe=>aI k=some e,rfl,by have h:=v.alone;rw [List.nil_append]at h;exact h,j.new w λe f=>.inr ?_,λe f=>?_⟩⟩
   ·simp only [aI,Q1]at f;omega
   ·rcases x e f with h|h<;>omega
def eU (a:Int) (b:ByteArray):Int:=if(gV b).2 then max a ((gV b).1+1)else a
def tX (a:List ByteArray):Int:=a.foldl eU 1
def iq (D:ak):Int:=tX D.list
theorem Gf (a:ByteArray):0<=(gV a).1/\(gV a).1<1000000000000:=by
 unfold gV;split
 ·rename_i c b
  have:=(Dh b).2;simp;omega
 ·simp
theorem HY (b:1<=e/\e<=1000000000000) (a:ByteArray):1<=eU e a/\eU e a<=1000000000000:=by
 have:=Gf a;unfold eU;split<;>omega
theorem JX:∀(b:List ByteArray) (a:Int),(1<=a/\a<=1000000000000)->1<=b.foldl eU a/\b.foldl eU a<=1000000000000
 |[],a,c=>c
 |s::b,a,c=>JX b _ (HY c s)
theorem sI (a:List ByteArray):1<=tX a/\tX a<=1000000000000:=JX a 1 oM
theorem JY {D:ak} (t:Laid b) (j:aW b a f D):
  Calls ZQ 135 #[.pointer (some ⟨a,0,none⟩)] b (Ok λu g=>u= QH (iq D)/\ai b g):=by
 refine Ey (PC.ok (yB j) ?_);rintro _ k ⟨v,e,A,G,rfl,l,m,B⟩;have C:D.list.length<=64:=by rw [oG];exact j.ok.many
 have E:=l.len dC;have w:Row Px 16 k G v e D.list:=l.row dC (by unfold aQ;omega);refine⟨_,_,_,rfl,λn o p g=>∃c:Nat,p=c/\c<=e/\n=e-c/\o=tX (D.list.take c)/\ai k g,⟨_,0,rfl,Qj _,rfl,rfl,aj.refl _⟩,?_⟩;rintro n o p _ F ⟨c,rfl,H,rfl,rfl,d⟩;refine al.dec (λI=>?_) (λJ=>?_)
 ·obtain⟨x,h,q,rfl,y,_,z⟩:=(w.af d).mh (i:=c) oM
  refine⟨x,h,rfl,oM,oM,_,z,PC.ok (BI (t.af (m.then d))) ?_⟩;rintro _ K ⟨rfl,r⟩;have L:=Gf q;have M:=sI (D.list.take c);have s:tX (D.list.take (c+1))=eU (tX (D.list.take c)) q:=by
   unfold tX;rw [Qw,y,List.foldl_append];rfl
  refine⟨_,_,rfl,al.mk (λi=>⟨_,?_,c+1,an oM,oM,rfl,?_,d.then r⟩) (λi=>⟨_,?_,c+1,an oM,oM,rfl,?_,d.then r⟩)⟩
  ·omega
  ·rw [s,wrap_i64 (by unfold aN;omega)]
   unfold eU;rw [if_pos i];split<;>omega
  ·omega
  ·rw [s];unfold eU;rw [if_neg (by simp [i])]
 ·obtain rfl:c=e:=oM
  rw [Qz oM];exact Ok.mk ⟨rfl,m.then d⟩
structure cY where
 size:Int
 aX:List Int
 bytes:Int
 next:Int
structure jr (w:World) (p q:Nat) (G:Nat->Prop) (V:cY):Prop where
 body:∃a n c E,w.heap[q]? =some (.cells #[.pointer (some ⟨p,0,none⟩),QH V.size,.slice a n c,QH V.bytes,QH V.next] 228 (0,0))/\aV aP 3 E w a n c V.aX/\∀b,E b->G b/\b≠q
 self:G q
 aF:∀b,G b->b<w.heap.size
 many:V.aX.length<=64
 Cj:aN V.next
section
variable {w0 w w1 w':World} {p q:Nat} {D D':ak} {V V':cY} {X Y G S:Nat->Prop}
theorem jr.keep (b:jr w p q G V) (c:aj S w w') (e:∀a,G a->¬S a):jr w' p q G V:=by
 obtain⟨g,h,i,j,k,l,f⟩:=b.body;exact⟨⟨g,h,i,j,c.get k (e q b.self),l.keep c λa d=>e a (f a d).1,f⟩,b.self,λa d=>Qk (b.aF a d) c.size,b.many,b.Cj⟩
theorem jr.af (a:jr w p q G V) (b:ai w w'):jr w' p q G V:=a.keep b λ_ _ a=>a
def cQ (w0 w:World) (p q:Nat) (V:cY) (D:ak) (X:Nat->Prop):Prop:=∃G,bf w0 w p D (λa=>X a\/G a)/\jr w p q G V/\∀a,G a->w0.heap.size<=a/\¬X a
theorem cQ.gr (a:cQ w0 w p q V D X):ai w0 w:=by obtain⟨G,b,c,d⟩:=a;exact b.gr
theorem cQ.ok (a:cQ w0 w p q V D X):D.Ok:=by obtain⟨G,b,c,d⟩:=a;exact b.ok
theorem cQ.many (a:cQ w0 w p q V D X):V.aX.length<=64:=by obtain⟨G,c,b,d⟩:=a;exact b.many
theorem cQ.Cj (a:cQ w0 w p q V D X):aN V.next:=by obtain⟨G,c,b,d⟩:=a;exact b.Cj
theorem cQ.aF (b:cQ w0 w p q V D X):∀a,X a->a<w.heap.size:=by obtain⟨G,⟨e,f,g,h,c⟩,i,j⟩:=b;exact λa d=>c a (.inl d)
theorem cQ.Y_ (b:cQ w0 w p q V D X):q<w.heap.size/\w0.heap.size<=q/\¬X q:=by obtain⟨G,d,a,c⟩:=b;exact⟨a.aF q a.self,c q a.self⟩
theorem cQ.nY (a:cQ w0 w p q V D X):bf w0 w p D X:=by obtain⟨G,b,d,e⟩:=a;exact b.mono λf c=>.inl c
theorem cQ.af (b:cQ w0 w p q V D X) (a:ai w w'):cQ w0 w' p q V D X:=by
 obtain⟨G,c,d,e⟩:=b;exact⟨G,c.af a,d.af a,e⟩
theorem cQ.mono (e:cQ w0 w p q V D X) (c:∀a,Y a->X a):cQ w0 w p q V D Y:=by
 obtain⟨G,f,g,d⟩:=e;exact⟨G,f.mono λa b=>b.imp (c a) id,g,λa b=>⟨(d a b).1,λh=>(d a b).2 (c a h)⟩⟩
theorem cQ.add (g:cQ w0 w p q V D X) (c:ai w w') (d:∀a,Y a->w.heap.size<=a/\a<w'.heap.size):cQ w0 w' p q V D (λa=>X a\/Y a):=by
 obtain⟨G,h,e,f⟩:=g;refine⟨G,(h.add c d).mono λa b=>?_,e.af c,λa b=>⟨(f a b).1,λi=>i.elim (f a b).2 λj=>by have:=e.aF a b;have:=(d a j).1;omega⟩⟩;rcases b with(b|b)|b
 ·exact .inl (.inl b)
 ·exact .inr b
 ·exact .inl (.inr b)
theorem cQ.other (h:cQ w0 w p q V D X) (c:aj Y w w') (d:∀a,Y a->X a/\w0.heap.size<=a):cQ w0 w' p q V D X:=by
 obtain⟨G,⟨i,j,k,f,l⟩,m,g⟩:=h;exact⟨G,⟨i,j.keep c λa b e=>(f a b).2 (.inl (d a e).1),k.new c λa b=>.inr (d a b).2,f,λa b=>Qk (l a b) c.size⟩,m.keep c λa b e=>(g a b).2 (d a e).1,g⟩
theorem cQ.on (f:cQ w0 w p q V D X)
  (g:∀c,(∀a,X a->c a)->bf w0 w p D c->Calls ZQ z r w (Ok (nQ w0 w p c d7))):Calls ZQ z r w (Ok λd w'=>d= QH d7.1/\cQ w0 w' p q V d7.2 X/\aj (et X) w w'):=by
 obtain⟨G,h,i,j⟩:=f;refine Calls.ok (g _ (λa b=>.inl b) h) ?_;rintro d w' ⟨k,l,e⟩;exact⟨k,⟨G,l,i.keep e λa b m=>m (.inr b),j⟩,e.mono λa _ b n=>b (.inl n)⟩
def cY.last (V:cY):ByteArray:=cR (aB (V.aX.getLast?.getD 0))
theorem jr.row (f:jr w p q G V):∃b a d c,w.heap[q]? =some (.cells #[.pointer (some ⟨p,0,none⟩),QH V.size,.slice b a d,QH V.bytes,QH V.next] 228 (0,0))/\Row aP 8 w c b a V.aX/\(∀e,c e->G e/\e≠q)/\a=V.aX.length:=by
 obtain⟨b,a,d,c,h,g,i⟩:=f.body;have:=f.many;exact⟨b,a,d,c,h,g.row dC (by unfold aQ;omega),i,g.len dC⟩
theorem JZ (f:Laid w) (d:jr w p q G V) (g:V.aX≠[]):Calls ZQ 157 #[.pointer (some ⟨q,0,none⟩)] w (Ok λh w'=>h= .string V.last/\ai w w'):=by
 obtain⟨v,b,x,y,i,j,z,k⟩:=d.row;have A:0<V.aX.length:=List.length_pos_iff.2 g;have B:=d.many;refine vV λw1 l=>?_;have a:ai w w1:=l.keep;have e:=a.get i id;have m:IntKind.wrap .i64 ((b:Int)-1)=((b-1:Nat):Int):=by rw [wrap_i64 (by unfold aN;omega)];omega
 obtain⟨n,c,o,rfl,r,s,t⟩:=(j.af a).mh (i:=b-1) oM;refine⟨q,0,rfl,_,_,_,ae e rfl,q,0,rfl,_,_,_,ae e rfl,n,c,rfl,?_⟩;rw [m];refine⟨oM,oM,o,t,PC.ok (jV (f.af a) s) ?_⟩;rintro _ C ⟨rfl,u⟩;refine⟨_,rfl,Ok.mk ⟨?_,a.then u⟩⟩;unfold cY.last;rw [List.getLast?_eq_getElem?,<-k,r];rfl
theorem J_ (k:Laid w0) (h:cQ w0 w p q V D X) (l:V.aX≠[]):Calls ZQ 92 #[.pointer (some ⟨q,0,none⟩)] w (Ok λm w'=>m= QH (D.sync V.last).1/\cQ w0 w' p q V (D.sync V.last).2 X/\aj (et X) w w'):=by
 refine vS λw1 n=>?_;have e:ai w w1:=n.keep;have o:=h.af e;obtain⟨G,r,a,i⟩:=o;obtain⟨z,A,B,C,s,E,F,j⟩:=a.row;have H:=i q a.self;have I:=a.aF q a.self;refine⟨λc=>c≠q/\¬X c,q,0,rfl,λt=>t.1 rfl,_,ae s rfl,PC.ok (JZ (k.af (h.gr.then e)) a l) ?_⟩;rintro _ J ⟨rfl,d⟩;have u:=a.af d;have v:=r.af d;refine⟨_,rfl,d.keep,PC.ok v.sync ?_⟩;rintro _ K ⟨rfl,x,f⟩;refine⟨_,rfl,f.mono λc _ b=>⟨λy=>b (.inr (y▸a.self)),λg=>b (.inl g)⟩,Ok.mk ⟨rfl,⟨G,x,u.keep f λc b j=>j (.inr b),i⟩,?_⟩⟩;exact(ai.keep (e.then d)).then (f.mono λc _ b g=>b (.inl g))
theorem HA (a:jr w p q G V):Calls ZQ 118 #[.pointer (some ⟨q,0,none⟩)] w (Ok (qD aP 3 w V.aX)):=by
 obtain⟨k,l,m,n,c,d,e,o⟩:=a.row;refine qf ⟨q,0,rfl,_,_,_,ae c rfl,PC.ok (cH d λb f=>a.aF b (e b f).1) ?_⟩;rintro _ w1 ⟨r,s,t,g,rfl,h,i,j⟩;exact⟨_,_,_,rfl,Ok.mk ⟨_,_,_,g,rfl,h,i,j⟩⟩
theorem RP (a:jr w p q G V):Calls ZQ 117 #[.pointer (some ⟨q,0,none⟩)] w (Ok λb w'=>b= QH V.next/\w=w'):=by
 obtain⟨d,e,f,g,c,h,i,j⟩:=a.row;exact vU ⟨q,0,rfl,_,ae c rfl,Ok.mk ⟨rfl,rfl⟩⟩
end
end Go.Proofs.YtfchlbaidamodaaGreatDoor
namespace Go.ax
open Go
def pO (a:Int×Int):Value:=.agg #[QH a.1,QH a.2]
def D_ (a:Int×Int×Int):Value:=.agg #[QH a.1,QH a.2.1,QH a.2.2]
structure Le (P:Program) (t ti:TypeId):Prop where
 hu:P.underlying t=some (.struct (P.fieldsOf t))
 ui:P.underlying ti=some (.int .i64)
 hf:∃n1 n2,(P.fieldsOf t).toList.map (λf=>(f.name,f.type,f.offset))=[(n1,ti,0),(n2,ti,1)]/\n1≠ "_"/\n2≠ "_"
 hp:P.stoodInHeld t=false
 hm:P.eqGuardType P.depth t=false
 ag:vg P ti=false
variable{F V e m:Int}{Q W:Operand}{b:World}
section
variable {P:Program} {t ti:TypeId}
theorem Le.equalIn (b:Le P t ti) (f:Nat) (c d:Int×Int) (e:World):(Op.equalIn (f+2) t (pO c) (pO d)).run P e= .ok (c==d) e:=by
 obtain⟨v,w,a,g,h⟩:=b.hf;unfold pO;rw [run_equalIn_struct e (f+1) _ _ _ b.hu b.hp];generalize(P.fieldsOf t).toList=i at a
 match i,a with
 |[x,y],a=>
  simp only [QY,List.map_nil,List.cons.injEq,Prod.mk.injEq,and_true]at a;obtain⟨⟨j,k,l⟩,m,n,o⟩:=a;have p:(isAgg ti).run P e= .ok false e:=dA _ _ _ b.ag ⟨_,b.ui⟩ e;have q:=run_equalIn_int (P:=P) e f ti .i64 .i64 c.1 d.1 b.ui;have r:=run_equalIn_int (P:=P) e f ti .i64 .i64 c.2 d.2 b.ui;unfold Op.eqFields Op.eqFields Op.eqFields;rw [j,k,l,m,n,o];have s:(c==d)=(c.1==d.1&&c.2==d.2):=rfl;rw [s]
  cases b:c.1==d.1<;>simp [part,p,q,r,b,g,h]
  by_cases u:c.2=d.2<;>simp [u]
 |[],a=>simp at a
 |[_],a=>simp at a
 |_::_::_::_,a=>simp at a
theorem Le.eql (a:Le P t ti) {c d:Value->World->Prop} (f:c (.bool (e==F&&m==V)) b):
  aH P (do eqGuard .eql t Q W (.agg #[QH e,QH m]) (.agg #[QH F,QH V]);binOp .eql t (.agg #[QH e,QH m]) (.agg #[QH F,QH V]):Sem Value) b c d:=by
 refine aH.mk (v:=.bool (e==F&&m==V)) ?_ f;rw [Sem.run_bind,run_eqGuard_agg b .eql _ Q W _ _ a.hm,Result.andThen_ok,run_eql_struct];have:=a.equalIn 9998 (e,m) (F,V) b;unfold pO at this;rw [this];rfl
theorem Le.neq (a:Le P t ti) {c d:Value->World->Prop} (f:c (.bool (!(e==F&&m==V))) b):
  aH P (do eqGuard .neq t Q W (.agg #[QH e,QH m]) (.agg #[QH F,QH V]);binOp .neq t (.agg #[QH e,QH m]) (.agg #[QH F,QH V]):Sem Value) b c d:=by
 refine aH.mk (v:=.bool (!(e==F&&m==V))) ?_ f;rw [Sem.run_bind,run_eqGuard_agg b .neq _ Q W _ _ a.hm,Result.andThen_ok,run_neq_struct];have:=a.equalIn 9998 (e,m) (F,V) b;unfold pO at this;rw [this];rfl
theorem Le.check (c:Le P t ti) (e:Nat) (h:Int×Int) (b:World) (f:Bool):(Instr.checkKey f (e+2) t (pO h)).run P b= .ok () b:=by
 obtain⟨u,v,a,i,j⟩:=c.hf;have k:(isAgg ti).run P b= .ok false b:=dA _ _ _ c.ag ⟨_,c.ui⟩ b;have l:∀g:Int,(Instr.checkKey f (e+1) ti (QH g)).run P b= .ok () b:=λg=>by simp [Instr.checkKey,run_underlying c.ui]
 unfold pO;have m:=c.hu;unfold Instr.checkKey;rw [Sem.run_bind,run_underlying m,Result.andThen_ok];generalize w:P.fieldsOf t=d at a;obtain⟨d⟩:=d
 match d,a with
 |[x,y],a=>
  simp only [QY,List.map_nil,List.cons.injEq,Prod.mk.injEq,and_true]at a;obtain⟨⟨n,o,p⟩,q,r,s⟩:=a;simp [n,o,p,q,r,s,part,k,l,i,j]
 |[],a=>simp at a
 |[_],a=>simp at a
 |_::_::_::_,a=>simp at a
theorem Le.key (a:Le P t ti):jh P t pO:=
 jh.struct a.hu (λb c=>rfl) (λb c d=>a.equalIn 9998 b c d) (λe d f=>a.check 9998 e d f) (λg b=>by unfold pO;simp [Instr.sameBits]) λ{b c} a=>by
  unfold pO at a;simp only [Value.agg.injEq,Array.mk.injEq,List.cons.injEq,Value.int.injEq,and_true,true_and]at a;exact Prod.ext a.1 a.2
structure xA (P:Program) (t t2 ti:TypeId):Prop where
 two:Le P t2 ti
 hu:P.underlying t=some (.struct (P.fieldsOf t))
 hf:∃n1 n2,(P.fieldsOf t).toList.map (λf=>(f.name,f.type,f.offset))=[(n1,t2,0),(n2,ti,2)]/\n1≠ "_"/\n2≠ "_"
 hp:P.stoodInHeld t=false
 ag:vg P t2=true
 sz:(P.info? t2).map (·.size)=some 2
variable {t2:TypeId}
theorem xA.Tn (c:xA P t t2 ti) (b:Int×Int×Int) (a:World):(part t2 #[QH b.1,QH b.2.1,QH b.2.2] 0).run P a= .ok (pO (b.1,b.2.1)) a:=by
 obtain⟨h,d,e⟩:=Option.map_eq_some_iff.1 c.sz;have f:(isAgg t2).run P a= .ok true a:=dA _ _ _ c.ag ⟨_,c.two.hu⟩ a;have g:(sizeOf t2).run P a= .ok 2 a:=by simp [sizeOf,typeInfo,d,e]
 unfold part;simp [f,g,pO]
theorem xA.equalIn (e:xA P t t2 ti) (g:Nat) (a b:Int×Int×Int) (c:World):(Op.equalIn (g+3) t (D_ a) (D_ b)).run P c= .ok (a==b) c:=by
 obtain⟨A,B,d,i,j⟩:=e.hf;have k:=e.Tn a c;have l:=e.Tn b c;have h:=e.two.equalIn g (a.1,a.2.1) (b.1,b.2.1) c;have n:=run_equalIn_int (P:=P) c (g+1) ti .i64 .i64 a.2.2 b.2.2 e.two.ui;have o:(isAgg ti).run P c= .ok false c:=dA _ _ _ e.two.ag ⟨_,e.two.ui⟩ c;unfold D_;rw [run_equalIn_struct c (g+2) _ _ _ e.hu e.hp];generalize(P.fieldsOf t).toList=p at d
 match p,d with
 |[C,E],d=>
  simp only [QY,List.map_nil,List.cons.injEq,Prod.mk.injEq,and_true]at d;obtain⟨⟨q,r,s⟩,u,v,w⟩:=d;unfold Op.eqFields Op.eqFields Op.eqFields;rw [q,r,s,u,v,w];have x:(a==b)=(((a.1,a.2.1):Int×Int)==(b.1,b.2.1)&&a.2.2==b.2.2):=by
   show(a.1==b.1&&(a.2.1==b.2.1&&a.2.2==b.2.2))=((a.1==b.1&&a.2.1==b.2.1)&&a.2.2==b.2.2);rw [Bool.and_assoc]
  rw [x];have y:∀f:Int×Int×Int,(part ti #[QH f.1,QH f.2.1,QH f.2.2] 2).run P c= .ok (QH f.2.2) c:=λf=>by simp [part,o]
  cases m:((a.1,a.2.1):Int×Int)==(b.1,b.2.1)with
  |false=>
   rw [m]at h;simp [k,l,h,i,j]
  |true=>
   rw [m]at h;simp [k,l,h,n,y,i,j]
   by_cases z:a.2.2=b.2.2<;>simp [z]
 |[],d=>simp at d
 |[_],d=>simp at d
 |_::_::_::_,d=>simp at d
theorem xA.check (d:xA P t t2 ti) (e:Nat) (c:Int×Int×Int) (a:World) (f:Bool):(Instr.checkKey f (e+3) t (D_ c)).run P a= .ok () a:=by
 obtain⟨x,y,b,i,j⟩:=d.hf;have k:=d.Tn c a;have l:(isAgg ti).run P a= .ok false a:=dA _ _ _ d.two.ag ⟨_,d.two.ui⟩ a;have m:∀h:Int,(Instr.checkKey f (e+2) ti (QH h)).run P a= .ok () a:=λh=>by simp [Instr.checkKey,run_underlying d.two.ui]
 have n:=d.two.check e (c.1,c.2.1) a f;have o:(part ti #[QH c.1,QH c.2.1,QH c.2.2] 2).run P a= .ok (QH c.2.2) a:=by simp [part,l]
 unfold D_;have p:=d.hu;rw [show e+3=(e+2)+1 from rfl];unfold Instr.checkKey;rw [Sem.run_bind,run_underlying p,Result.andThen_ok];generalize z:P.fieldsOf t=g at b;obtain⟨g⟩:=g
 match g,b with
 |[A,B],b=>
  simp only [QY,List.map_nil,List.cons.injEq,Prod.mk.injEq,and_true]at b;obtain⟨⟨q,r,s⟩,u,v,w⟩:=b;simp [q,r,s,u,v,w,k,o,n,m,i,j]
 |[],b=>simp at b
 |[_],b=>simp at b
 |_::_::_::_,b=>simp at b
theorem xA.key (a:xA P t t2 ti):jh P t D_:=
 jh.struct a.hu (λb c=>rfl) (λb c d=>a.equalIn 9997 b c d) (λe d f=>a.check 9997 e d f) (λg b=>by unfold D_;simp [Instr.sameBits]) λ{b c} a=>by
  unfold D_ at a;simp only [Value.agg.injEq,Array.mk.injEq,List.cons.injEq,Value.int.injEq,and_true,true_and]at a;exact Prod.ext a.1 (Prod.ext a.2.1 a.2.2)
end
end Go.ax
namespace Go.Proofs.YtfchlbaidamodaaGreatDoor
open Go.ax
abbrev GC:Int×Int->Value:=pO
theorem NN:Le ZQ 39 3:=⟨kR,kR,⟨"Origin", "Seq",kR,dC,dC⟩,kR,kR,kR⟩
theorem Yw:jh ZQ 39 GC:=NN.key
abbrev sY:ah:=⟨0,0,0,[],0,0,0,0,0,0⟩
abbrev kK (a:ah) (b:Option Addr) (c d:Nat):Value:=.agg (aE a b c d).toArray
theorem Td:nu ZQ 177 39 59 (kK sY none 0 0):=⟨kR,kR⟩
theorem lq {e:World} {D:Nat->Prop}:∀{a:List Int} {cs:List Value},bT aP e D a cs↔cs=ints a/\∀x∈a,aN x
 |[],cs=>by simp [bT,ints]
 |x::a,cs=>by
  constructor
  ·rintro⟨i,j,rfl,⟨rfl,f⟩,g⟩
   obtain⟨rfl,h⟩:=lq.1 g;exact⟨rfl,λc b=>by rcases Q2.1 b with rfl|b;exact f;exact h c b⟩
  ·rintro⟨rfl,d⟩
   exact⟨[QH x],ints a,rfl,⟨rfl,d x (QV ..)⟩,lq.2 ⟨rfl,λc b=>d c (QJ _ b)⟩⟩
variable{e:Int}{u:List Int}{E a c i l:Nat}{f:Nat->Prop}{d:Option Addr}{h:Program}{g:TypeId}{v:Value}{o t:Value->World->Prop}{b k:World}{y:World->Prop}{n:ah}
theorem Te (j:aV aP g f b d a c u) (p:i<u.length) (q:aN e) (r:d=some ⟨l,E,none⟩)
  (k:∀h,aV aP g f h d a c (u.set i e)->aj (λl=>aI d=some l) b h->h.heap.size=b.heap.size->y h):PS b ⟨l,E+i,none⟩ (QH e) y:=by
 obtain⟨cs,D,s,t,v⟩:=j.body;obtain⟨rfl,m⟩:=lq.1 t;refine s.set (m:=i) (by rw [jQ];exact p) r λh w x o=>k h ⟨⟨_,D,w,lq.2 ⟨?_,?_⟩,v⟩,j.self,λl m=>by rw [o];exact j.aF l m⟩ x o
 ·unfold ints;rw [List.map_set]
 ·intro z n
  rcases List.mem_or_eq_of_mem_set n with n|rfl
  ·exact m z n
  ·exact q
def US (d:World) (D:Nat->Prop) (e:Value) (a:ah):Prop:=∃b c f,e=kK a b c f/\Row aP 8 d D b c a.aK/\a.Ok
theorem US.keep {S D:Nat->Prop} (c:US b D v n) (d:aj S b k) (e:∀a,D a->¬S a):US k D v n:=by
 obtain⟨f,g,h,i,j,l⟩:=c;exact⟨f,g,h,i,j.keep d e,l⟩
theorem US.mono {D a:Nat->Prop} (d:US b D v n) (e:∀c,D c->a c):US b a v n:=by
 obtain⟨f,g,h,i,j,k⟩:=d;exact⟨f,g,h,i,j.mono e,k⟩
theorem DH:sY.Ok:=by constructor<;>simp [aN]
theorem nh {D:Nat->Prop} (j:Row aP 8 b D d a n.aK) (v:∀e,D e->e<b.heap.size):
  Calls ZQ 142 #[kK n d a c] b (Ok λw k=>∃d a c G,w=kK n d a c/\Row aP 8 k G d a n.aK/\(∀e,G e->b.heap.size<=e/\e<k.heap.size)/\ai b k):=by
 have x:=j.d_;have y:=j.len;refine Ar (PA.mk λB p C g=>PA.mk λE h F l=>⟨_,_,_,ae (h.get g id) rfl,PC.ok (cH (j.af (p.then h)) λe f=>by have:=v e f;omega) ?_⟩);rintro _ H ⟨q,r,s,G,rfl,t,i,m⟩;have g:=i.get (h.get g id) id;have l:=i.get l id;refine⟨_,_,_,rfl,PS.mk g (by simp [aE]) λI o J z=>?_⟩;refine aw (cs:=aE n q r s) (bg _ _ _ _) z (aD (bg _ _ _ _) (o.get l oM) rfl λK u L A=>aw (bg _ _ _ _) A (Ok.mk ⟨q,r,s,G,rfl,?_,?_,?_⟩))
 ·refine(((t.keep o λe f=>?_).keep u λe f=>?_).row (bytes:=8) dC (by rw [<-y];exact x))
  ·have:=m e f;omega
  ·have:=m e f;omega
 ·intro e f
  have:=m e f;have:=t.aF e f;omega
 ·have M:=i.size
  exact((aj.new ((p.then h).then i) o λe f=>.inr oM).new u λe f=>.inr oM)
structure Tf where
 a:Option Addr
 n:Nat
 c:Nat
 r:Nat
 V:Nat->Prop
 D:Nat->Prop
 l:List ((Int×Int)×Value)
 L:List ((Int×Int)×ah)
structure sw (w:World) (p:Nat) (F:Nat->Prop) (S:aq) (q:Tf):Prop where
 at':w.heap[p]? =some (.cells #[.slice q.a q.n q.c,.map (some q.r),QH S.top] 179 (0,0))
 vec:aV aP 3 q.V w q.a q.n q.c S.vec
 map:cx w q.r GC q.l
 rel:fJ (US w q.D) q.l q.L
 key:∀x∈q.L,x.1=aO x.2
 Yb:(q.L.map (·.2)).Perm S.l
 aF:∀b,F b->b<w.heap.size
 sub:∀b,b=p\/b=q.r\/q.V b\/q.D b->F b
 Yc:p≠q.r
 WZ:¬q.V p/\¬q.V q.r
 Yd:¬q.D p/\¬q.D q.r
 Ze:∀b,q.V b->¬q.D b
def cV (b:World) (c:Nat) (d:Nat->Prop) (a:aq):Prop:=a.OK/\∃e,sw b c d a e
section
variable {w w' w1:World} {p:Nat} {F T:Nat->Prop} {S:aq} {q:Tf}
theorem sw.keep (a:sw w p F S q) (c:aj T w w') (e:∀b,F b->¬T b):sw w' p F S q:=
 ⟨c.get a.at' (e p (a.sub p (.inl rfl))),a.vec.keep c λb d=>e b (a.sub b (.inr (.inr (.inl d)))),a.map.keep c (e _ (a.sub _ (.inr (.inl rfl)))),
  a.rel.mono λg h f=>f.keep c λb d=>e b (a.sub b (.inr (.inr (.inr d)))),a.key,a.Yb,λb d=>Qk (a.aF b d) c.size,a.sub,a.Yc,a.WZ,a.Yd,a.Ze⟩
theorem sw.af (a:sw w p F S q) (b:ai w w'):sw w' p F S q:=a.keep b λ_ _ a=>a
theorem cV.keep (a:cV w p F S) (c:aj T w w') (d:∀b,F b->¬T b):cV w' p F S:=⟨a.1,a.2.imp λq e=>e.keep c d⟩
theorem cV.af (a:cV w p F S) (b:ai w w'):cV w' p F S:=a.keep b λ_ _ a=>a
theorem cV.aF (b:cV w p F S):∀a,F a->a<w.heap.size:=b.2.elim λq c=>c.aF
theorem sw.tidy (a:sw w p F S q):Tidy q.L:=by
 have:=a.map.tidy;unfold Tidy at*;rw [<-a.rel.keys];exact this
theorem sw.len (a:sw w p F S q):q.n=S.n:=by rw [a.vec.len dC,S.b_]
theorem sw.Ye (a:sw w p F S q) (b:S.OK):Row aP 8 w q.V q.a q.n S.vec:=a.vec.row dC (by rw [S.b_];have:=b.n;unfold aQ;omega)
theorem sw.look (b:sw w p F S q) (e:S.OK) (a:Int×Int):(ay q.l a=none/\S.get a=none)\/∃c d,ay q.l a=some c/\S.get a=some d/\US w q.D c d:=by
 rw [<-KR e b.key b.Yb b.tidy a];exact b.rel.ay a
theorem mi (a:cV w p F S):Calls ZQ 46 #[.pointer (some ⟨p,0,none⟩)] w (Ok (qD aP 3 w S.vec)):=by
 obtain⟨b,q,a⟩:=a;refine xU ⟨p,0,rfl,_,_,_,ae a.at' rfl,PC.ok (cH (a.Ye b) λc d=>a.vec.aF c d) ?_⟩;rintro _ k ⟨e,f,g,G,rfl,h,i,j⟩;exact⟨_,_,_,rfl,Ok.mk ⟨e,f,g,G,rfl,h,i,j⟩⟩
theorem Iy (a:cV w p F S):Calls ZQ 90 #[.pointer (some ⟨p,0,none⟩)] w (Ok λb w'=>b= QH S.top/\w=w'):=by
 obtain⟨c,q,a⟩:=a;exact xY ⟨p,0,rfl,_,ae a.at' rfl,Ok.mk ⟨rfl,rfl⟩⟩
theorem Tg (s:cV w p F S) {D:Nat->Prop} (t:Row aP 8 w D d a n.aK) (he:n.Ok) (hn:n.aK.length=S.n) {o:Nat} (ho:o<S.n):
  Calls ZQ 141 #[.pointer (some ⟨p,0,none⟩),kK n d a c,QH (o:Int)] w (Ok λl w'=>l= .bool (S.ly n o)/\ai w w'):=by
 obtain⟨u,q,s⟩:=s;have b1:=t.len;have hN:=u.n;refine vT (PA.mk λw1 k s1 M=>?_);have Z:=t.af k;obtain⟨v,x,h,ha,hx,-,hc⟩:=Z.mh (i:=o) oM;have N:n.aK.getD o 0=h:=by rw [QQ,hx];rfl
 refine⟨_,_,_,ae M rfl,v,x,ha,oM,oM,h,hc,al.dX (λy=>Ok.mk ⟨?_,k⟩) (λy=>?_)⟩
 ·unfold aq.ly;simp only [N,y];rfl
 have z:=s.af k;have f:∀{A:Bool} {w':World},ai w w'->(match S.get (o,h)with
  |none=>false
  |some e=>decide (e.aA<n.aA)&&(List.range e.aK.length).all λi=>decide (e.aK.getD i 0<=n.aK.getD i 0))=A->Ok (λl w'=>l= .bool (S.ly n o)/\ai w w') (.returned (.bool A)) w':=λ{A w'} hg hy=>by
  refine Ok.mk ⟨?_,hg⟩;unfold aq.ly;simp only [N];rw [<-hy,show(h==0)=false by simpa using y]
  rfl
 refine⟨p,0,rfl,_,ae z.at' rfl,nw (enc:=GC) (k:=((o:Int),h)) Td Yw z.map ?_⟩;rcases z.look u (o,h)with⟨B,j⟩|⟨l,e,B,j,O,m,P,rfl,a0,b2⟩
 ·rw [B]
  refine cu (sW sY none 0 0) ⟨_,rfl,PA.mk λw2 C s2 E=>aD (bg sY none 0 0) E rfl λH I s3 J=>al.tt rfl (f (k.then ((C.then (aj.refl _)).new I λv hb=>.inr oM)) ?_)⟩;rw [j]
 ·rw [B]
  refine cu (sW e O m P) ⟨_,rfl,PA.mk λw2 C s2 E=>aD (bg e O m P) E rfl λH I s3 J=>al.ff rfl ?_⟩;have K:ai w1 H:=(C.then (aj.refl _)).new I λv hb=>.inr oM;have r:=k.then K;have Q:=K.get M id;have a1:=aq.get_some j;have b3:e.aK.length=S.n:=by have:=im (u.TC e a1.1);omega
  refine⟨_,ae J rfl,_,ae Q rfl,al.dec (λhl=>f r ?_) (λhl=>?_)⟩
  ·rw [j]
   simp only [Bool.and_eq_false_iff,decide_eq_false_iff_not];left;omega
  have a2:=t.af r;have R:=a0.af K;have b6:=R.len;refine⟨_,_,_,ae J rfl,λT i w'=>∃b:Nat,i=b/\b<=m/\T=m-b/\(∀g,g<b->e.aK.getD g 0<=n.aK.getD g 0)/\H=w',⟨_,0,rfl,Qj _,rfl,λg L=>oM,rfl⟩,?_⟩;rintro T i _ _ ⟨b,rfl,hj,rfl,U,rfl⟩;refine al.dec (λb7=>?_) (λb8=>?_)
  ·obtain⟨b4,o4,V,a3,a4,-,a5⟩:=R.mh (i:=b) oM
   obtain⟨b5,o5,W,a6,a7,-,a8⟩:=a2.mh (i:=b) oM;have X:e.aK.getD b 0=V:=by rw [QQ,a4];rfl
   have Y:n.aK.getD b 0=W:=by rw [QQ,a7];rfl
   refine⟨b4,o4,a3,oM,oM,V,a5,_,_,_,ae Q rfl,b5,o5,a6,oM,oM,W,a8,al.dec (λa9=>f r ?_) (λb9=>?_)⟩
   ·rw [j]
    simp only [Bool.and_eq_false_iff];right;rw [List.all_eq_false];exact⟨b,by simp;omega,by rw [X,Y];simpa using a9⟩
   ·refine⟨_,oM,b+1,an oM,oM,rfl,λg L=>?_,rfl⟩
    by_cases b0:g=b
    ·subst b0;rw [X,Y];omega
    ·exact U g oM
  ·refine f r ?_
   rw [j];simp only [QK,List.all_eq_true,decide_eq_true_eq];exact⟨oM,λg L=>U g (by simp at L;omega)⟩
theorem TK (f:cV w p F S) (l:Int×Int):
  Calls ZQ 234 #[.pointer (some ⟨p,0,none⟩),GC l] w (Ok λA w'=>∃d e g G,A= .tuple #[kK ((S.get l).getD sY) d e g,.bool (S.get l).isSome]/\Row aP 8 w' G d e ((S.get l).getD sY).aK/\(∀a,G a->w.heap.size<=a/\a<w'.heap.size)/\ai w w'):=by
 obtain⟨M,q,f⟩:=f;obtain⟨j,k⟩:=l;refine yl (PA.mk λw1 N s1 m=>PA.mk λB C s2 v=>λn E=>?_);have x:ai B n:=E.keep;have s3:n.heap.size=B.heap.size:=by rw [E.heap]
 have m:=x.get (C.get m id) id;have v:=x.get v id;have H:=(N.then C).then x;have y:=f.af H;have a2:=f.map.lt;have a3:=aC f.at';obtain⟨c,d,e,g,a,h,i,I,O,P⟩:∃(c:ah) (d:Option Addr) (e g:Nat) (a:Bool),(ay q.l (j,k)).getD (kK sY none 0 0)=kK c d e g/\(ay q.l (j,k)).isSome=a/\(S.get (j,k)).getD sY=c/\(S.get (j,k)).isSome=a/\Row aP 8 n q.D d e c.aK:=by
  rcases y.look M (j,k)with⟨h,i⟩|⟨A,Q,h,i,R,T,U,rfl,V,a4⟩
  ·exact⟨sY,none,0,0,false,by rw [h];rfl,by rw [h];rfl,by rw [i];rfl,by rw [i];rfl,Row.nil _ _⟩
  ·exact⟨Q,R,T,U,true,by rw [h];rfl,by rw [h];rfl,by rw [i];rfl,by rw [i];rfl,V⟩
 have J:∀a,q.D a->a<w.heap.size:=λa b=>f.aF a (f.sub a (.inr (.inr (.inr b))));refine⟨λa=>a=n.heap.size,p,0,rfl,oM,_,ae y.at' rfl,oM,_,_,ae m rfl,ae m rfl,cu (sW c d e g) ⟨a,λw' W=>?_,PA.mk λw4 o s4 X=>⟨ai.keep o,aD (bg c d e g) X rfl λw5 r s5 Y=>⟨r,?_⟩⟩⟩⟩
 ·have:=eY Td Yw (y.map.keep W oM) (j,k) true
  rw [h,i]at this;exact this
 have Z:=(P.af o).keep r λa b hn=>by have:=J a b;omega
 refine aw (bg c d e g) Y (PC.ok (nh Z λa b=>by have:=J a b;omega) ?_);rintro _ w6 ⟨s,t,u,G,rfl,a0,K,z⟩;have a1:=z.get (r.get (o.get v id) oM) id;have z6:=z.size;refine cu (sW c s t u) ⟨rfl,aD (bg c s t u) a1 rfl λw7 L s7 g7=>aw (bg c s t u) g7 (Ok.mk ⟨s,t,u,G,by rw [I,O],?_,?_,?_⟩)⟩
 ·rw [I];exact a0.keep L λa b hn=>by have:=K a b;omega
 ·intro a b;have:=K a b;omega
 ·exact(((H.then o).new r λa b=>.inr oM).then z).new L λa b=>.inr oM
end
section
variable {w w' w1:World} {p:Nat} {F T:Nat->Prop} {S:aq} {q:Tf}
theorem Fg {S:aq} :((List.range a).any λb=>!S.ly n b)=false↔∀b,b<a->S.ly n b=true:=by
 simp [List.any_eq_false]
theorem vH (g:cV w p F S) {e:ah} {D:Nat->Prop} (B:Row aP 8 w D d a e.aK) (hD:∀b,D b->b<w.heap.size/\¬F b) (he:e.Ok) (hl:S.l.length<4611686018427387904):
  Calls ZQ 75 #[.pointer (some ⟨p,0,none⟩),kK e d a c] w (Ok λC w'=>C= QH (S.add e).1/\∃E,cV w' p E (S.add e).2/\de F w E w'):=by
 have fz:=g;obtain⟨H,q,g⟩:=g;have hN:=H.n;have b2:=g.len;have i9:=aC g.at';have j0:=g.map.lt;have d3:=g.Ye H;have h:∀{no:Int} {w':World},ai w w'->S.add e=(no,S)->Ok (λC w'=>C= QH (S.add e).1/\∃E,cV w' p E (S.add e).2/\de F w E w') (.returned (QH no)) w':=λ{no w'} hg ha=>by
  refine Ok.mk ⟨by rw [ha],F,?_,ai.keep hg,λb f=>.inl f⟩;rw [ha];exact fz.af hg
 refine xW (PA.mk λw1 k1 s1 g1=>λw2 d2=>?_);have k2:ai w1 w2:=d2.keep;have s2:w2.heap.size=w1.heap.size:=by rw [d2.heap]
 have O:=k1.then k2;have g2:=k2.get g1 id;have h4:=g.af O;refine aw (bg e d a c) g2 ⟨p,0,rfl,_,_,_,ae h4.at' rfl,PC.ok (zj (B.af O) (by rw [b2];omega)) ?_⟩;rintro _ w3 ⟨rfl,P⟩;rw [b2];refine⟨_,rfl,al.dw (λI=>h (O.then P) ?_) (λQ=>?_)⟩
 ·rw [aq.add_def,if_pos I]
 obtain⟨c1,c5,c3,c6,c7,c8,c9,f0,f1,j1⟩:=im Q;obtain⟨o,r⟩:∃o:Nat,e.origin=o:=⟨e.origin.toNat,oM⟩
 have J:o<S.n:=oM
 intro w4 d4;have k4:ai w3 w4:=d4.keep;have s4:w4.heap.size=w3.heap.size:=by rw [d4.heap]
 have d5:=(O.then P).then k4;have z3:=P.size;have g4:=k4.get (P.get g2 id) id;have b3:=g.af d5;obtain⟨s,a5,n5,d6,b,n,K,k⟩:∃(s:ah) (d:Option Addr) (a c:Nat) (b:Bool),(ay q.l (aO e)).getD (kK sY none 0 0)=kK s d a c/\(ay q.l (aO e)).isSome=b/\(S.get (aO e)).isSome=b:=by
  rcases b3.look H (aO e)with⟨n,K⟩|⟨C,a0,n,K,b8,n3,c3,rfl,j2,j3⟩
  ·exact⟨sY,none,0,0,false,by rw [n];rfl,by rw [n];rfl,by rw [K];rfl⟩
  ·exact⟨a0,b8,n3,c3,true,by rw [n];rfl,by rw [n];rfl,by rw [K];rfl⟩
 refine⟨λb=>b=w4.heap.size,p,0,rfl,oM,_,ae b3.at' rfl,oM,_,_,ae g4 rfl,ae g4 rfl,cu (sW s a5 n5 d6) ⟨b,λw' L=>?_,PA.mk λw5 k5 s5 g5=>⟨ai.keep k5,aD (bg s a5 n5 d6) g5 rfl λw6 k6 s6 g6=>⟨k6,?_⟩⟩⟩⟩
 ·have:=eY Td Yw (b3.map.keep L oM) (aO e) true
  rw [n,K]at this;exact this
 have R:ai w w6:=(d5.then k5).new k6 λb f=>.inr oM;have b4:=k6.get (k5.get g4 id) oM;have h5:=g.af R;refine al.mk (λt=>h R ?_) (λhf=>?_)
 ·rw [aq.add_def,if_neg (by simpa using Q),if_pos (by rw [k,t])]
 obtain⟨c2,o8,x8,h6,d8,-,h7⟩:=(d3.af R).mh (i:=o) oM;have d9:x8=(S.sX o:Int):=by rw [S.my J]at d8;exact(XJ d8).symm
 subst d9;have j4:=S.Mq o;refine⟨_,ae b4 rfl,p,0,rfl,_,_,_,ae h5.at' rfl,_,ae b4 rfl,c2,o8,h6,c1,oM,_,by rw [r];exact h7,λw7 d7=>?_⟩;have k7:ai w6 w7:=d7.keep;have s7:w7.heap.size=w6.heap.size:=by rw [d7.heap]
 have b5:=R.then k7;rw [an oM];refine al.dw (λI=>h b5 ?_) (λe0=>?_)
 ·rw [aq.add_def,if_neg (by simpa using Q),if_neg (by rw [k,hf];simp),if_pos]
  rw [r,Qx,S.iJ J];simpa using I
 have h8:=g.af b5;have h9:=k7.get b4 id;have c4:e.seq=S.vec.getD e.origin.toNat 0+1:=by rw [r,Qx,S.iJ J];simpa using e0
 have l:∀{a1:Int×aq},(if(List.range S.n).any λo=>!S.ly e o then((9:Int),S)else(0,⟨S.n,dO e S.l⟩))=a1->S.add e=a1:=λ{a1} B=>by
  rw [aq.add_def,if_neg (by simpa using Q),if_neg (by rw [k,hf];simp),if_neg (by simpa using c4)];exact B
 refine⟨p,0,rfl,_,_,_,ae h8.at' rfl,λa3 i w'=>∃j:Nat,i=j/\j<=S.n/\a3=S.n-j/\(∀m,m<j->S.ly e m=true)/\ai w7 w',⟨_,0,rfl,Qj _,rfl,λm t=>oM,aj.refl _⟩,?_⟩;rintro a3 i _ w8 ⟨j,rfl,hj,rfl,a4,T⟩;have U:=b5.then T;have e1:=T.get h9 id;have z8:=T.size;rw [b2];refine al.dec (λj5=>?_) (λj6=>?_)
 ·refine aw (bg e d a c) e1 (PC.ok (Tg (fz.af U) (B.af U) he oM (o:=j) oM) ?_)
  rintro _ w9 ⟨rfl,k9⟩;refine⟨_,rfl,al.not (al.mk (λL=>?_) (λL=>h (U.then k9) (l (if_pos ?_))))⟩
  ·refine⟨_,oM,j+1,an oM,oM,rfl,λm t=>?_,T.then k9⟩
   by_cases i0:m=j
   ·rw [i0];exact L
   ·exact a4 m oM
  ·rw [List.any_eq_true]
   exact⟨j,by simp;omega,by rw [L];rfl⟩
 ·have a6:=l (if_neg (by rw [Bool.not_eq_true,Fg];intro m t;exact a4 m oM))
  intro e2 e3;have e4:ai w8 e2:=e3.keep;have j7:e2.heap.size=w8.heap.size:=by rw [e3.heap]
  have M:=U.then e4;have V:=e4.get e1 id;have e5:=g.af M;have i1:=(B.af M)
  refine⟨λb=>b=q.r,p,0,rfl,g.Yc,_,ae e5.at' rfl,oM,_,_,ae V rfl,ae V rfl,aw (bg e d a c) V (PC.ok (nh i1 λb f=>by have:=(hD b f).1;have:=M.size;omega) ?_)⟩;rintro _ i2 ⟨b7,b9,c0,G,rfl,e6,hG,W⟩;have a7:=M.then W;have X:=g.af a7;have i8:=M.size;refine cu (sW e b7 b9 c0) ⟨rfl,ai.keep W,jz (enc:=GC) (k:=aO e) Td Yw X.map λe7 e8 u j8=>⟨u,λe9 f2=>?_⟩⟩;have v:ai e7 e9:=f2.keep;have j9:e9.heap.size=e7.heap.size:=by rw [f2.heap]
  have a8:=v.get (u.get X.at' g.Yc) id;have a9:=v.get (u.get (W.get V id) oM) id;have b0:=(X.vec.keep u λb f e=>g.WZ.2 (e▸f)).af v;obtain⟨f3,f4,i3,a2,b1,-,f5⟩:=(b0.row (bytes:=8) dC (by rw [S.b_];unfold aQ;omega)).mh (i:=o) oM;have d0:i3=(S.sX o:Int):=by rw [S.my J]at b1;exact(XJ b1).symm
  subst d0;refine⟨p,0,rfl,_,_,_,ae a8 rfl,_,ae a9 rfl,f3,f4,a2,c1,oM,_,by rw [r];exact f5,f3,f4,a2,c1,oM,?_⟩;rw [r,Qx,an oM];refine Te b0 (by rw [S.b_];exact J) (by unfold aN;omega) a2 λf7 g0 N k0=>λg3 g7=>?_;have x:ai f7 g3:=g7.keep;have l0:g3.heap.size=f7.heap.size:=by rw [g7.heap]
  have y:∀b,aI q.a=some b->q.V b:=λb f=>g.vec.self b f;have i4:¬aI q.a=some p:=λe=>g.WZ.1 (y p e);have i5:¬aI q.a=some w.heap.size:=λe=>by have:=g.vec.aF _ (y _ e);omega
  have b6:=x.get (N.get a8 i4) id;have g8:=x.get (N.get a9 i5) id;refine⟨p,0,rfl,_,ae b6 rfl,_,ae g8 rfl,p,0,rfl,PS.mk b6 sM λg9 Y l3 i6=>?_⟩;have l4:=W.size;have i7:¬aI q.a=some q.r:=λe=>g.WZ.2 (y _ e);refine Ok.mk ⟨by rw [a6],λb=>F b\/G b,?_,?_,?_⟩
  rotate_left
  ·have Z:aj F w g9:=((((ai.keep a7).then (u.mono λb _ f=>g.sub b (.inr (.inl f)))).then (ai.keep v)).then ((N.mono λb _ f=>g.sub b (.inr (.inr (.inl (y b f))))).then (ai.keep x))).then (Y.mono λb _ f=>g.sub b (.inl f))
   exact Z
  ·intro b f;rcases f with f|f
   ·exact .inl f
   ·exact .inr (by have:=hG b f;omega)
  have h3:=(aq.Bn H he).1;rw [a6]at h3⊢;have z:∀b,G b->b≠p/\b≠q.r/\¬q.V b:=λb f=>by
   have:=hG b f;refine⟨oM,oM,λhv=>?_⟩;have:=g.vec.aF b hv;omega
  refine⟨h3,⟨q.a,q.n,q.c,q.r,q.V,λb=>q.D b\/G b,aJ q.l (aO e) (kK e b7 b9 c0),aJ q.L (aO e) e⟩,?_,?_,?_,?_,?_,?_,?_,?_,g.Yc,g.WZ,?_,?_⟩
  ·have t:(if e.aA>S.top then e.aA else S.top)=max S.top e.aA:=by split<;>omega
   rw [i6,aq.UT,<-t];rfl
  ·rw [show aq.vec ⟨S.n,dO e S.l⟩=S.vec.set o ((S.sX o+1:Nat):Int) by rw [aq.UU S e r];simp]
   exact(g0.af x).keep Y λb f e=>g.WZ.1 (e▸f)
  ·exact(((e8.af v).keep N i7).af x).keep Y λe=>g.Yc e.symm
  ·have Z:aj (λb=>b=q.r\/aI q.a=some b\/b=p) i2 g9:=((u.mono λb _ f=>.inl f).then (ai.keep v)).then (((N.mono λb _ f=>.inr (.inl f)).then (ai.keep x)).then (Y.mono λb _ f=>.inr (.inr f)))
   have hd:∀b,q.D b\/G b->¬(b=q.r\/aI q.a=some b\/b=p):=by
    rintro b (f|f) (e|e|e)
    ·exact g.Yd.2 (e▸f)
    ·exact g.Ze b (y b e) f
    ·exact g.Yd.1 (e▸f)
    ·exact(z b f).2.1 e
    ·exact(z b f).2.2 (y b e)
    ·exact(z b f).1 e
   refine fJ.aJ ⟨b7,b9,c0,rfl,(e6.mono λb f=>.inr f).keep Z hd,he⟩ (X.rel.mono λC f6 hu=>(hu.mono λb f=>.inl f).keep Z hd)
  ·intro s k
   rcases fG k with rfl|k
   ·rfl
   ·exact g.key s k
  ·have d1:ay q.L (aO e)=none:=by
    rw [KR H g.key g.Yb g.tidy];have:=k.trans hf;simpa using this
   have:∀A:List ((Int×Int)×ah),ay A (aO e)=none->aJ A (aO e) e=A++[(aO e,e)]:=by
    intro A
    induction A with
    |nil=>intro _;rfl
    |cons a0 A ih=>
     intro hL;obtain⟨y1,y2⟩:=a0;unfold ay at hL;unfold aJ;split at hL
     ·cases hL
     ·rename_i I
      rw [if_neg I,ih hL];rfl
   rw [this _ d1,Q3];exact(List.perm_append_comm.trans (List.Perm.cons e g.Yb)).trans (cX e S.l).symm
  ·intro b f
   rcases f with f|f
   ·have:=g.aF b f;omega
   ·have:=hG b f;omega
  ·rintro b (f|f|f|f|f)
   ·exact .inl (g.sub b (.inl f))
   ·exact .inl (g.sub b (.inr (.inl f)))
   ·exact .inl (g.sub b (.inr (.inr (.inl f))))
   ·exact .inl (g.sub b (.inr (.inr (.inr f))))
   ·exact .inr f
  ·refine⟨?_,?_⟩
   ·rintro(f|f)
    ·exact g.Yd.1 f
    ·exact(z _ f).1 rfl
   ·rintro(f|f)
    ·exact g.Yd.2 f
    ·exact(z _ f).2.1 rfl
  ·rintro b hv (f|f)
   ·exact g.Ze b hv f
   ·exact(z _ f).2.2 hv
theorem UW {e b:TypeId} (i:jP h e b 1 8) (f:(h.info? b).bind (·.zero)=some (QH 0)) (j:a<=c) (d:c*8<=aQ) {w:World} 
  (g:∀w',aV aP b (·=w.heap.size) w' (some ⟨w.heap.size,0,none⟩) a c (List.replicate a 0)->ai w w'->w'.heap.size=w.heap.size+1->o (.slice (some ⟨w.heap.size,0,none⟩) a c) w'):
  aH h (Instr.makeSlice e (QH (a:Int)) (QH (c:Int))) w o t:=by
 unfold aQ at d;obtain⟨n,p,k,l,q,r,z⟩:=i.info;have s:p= QH 0:=by
  rw [k]at f;simp only [Option.bind_some,l]at f;exact XJ f
 subst s;have m:=run_make (P:=h) w e b n _ i.under k l .i64 .i64 a c oM oM (by rw [r];omega) oM;rw [Qx,Qx,q,Nat.mul_one]at m;have u:ai w (w.alloc (.cells (madeCells (Value.int .i64 0).cells c) b)):=aj.alloc w _;have v:(madeCells (Value.int .i64 0).cells c).toList=List.replicate c (QH 0):=by
  unfold madeCells;rw [Array.toList_map];apply List.ext_getElem
  ·simp
  ·intro A B C
   simp [Value.cells,Nat.mod_one]
 refine aH.mk m (g _ ⟨⟨List.replicate a (QH 0),λ_=>False,⟨⟨by simp [aP,flat],.inr ⟨w.heap.size,c,_,rfl,Qj _,heap_alloc_new w _,j,by unfold maxLen;omega,by simp [size_madeCells,aP,flat],?_⟩⟩⟩,?_,λ_ g=>g.elim⟩,λx d=>by simpa [aI]using d.symm,λx d=>by subst d;simp⟩ u sM)
 ·rw [v]
  simp only [aP,flat,Nat.mul_one,List.take_replicate];rw [X2 j]
 ·exact lq.2 ⟨by simp [ints],λE y=>by rw [List.eq_of_mem_replicate y];simp [aN]⟩
theorem GX (h:a<=64):Calls ZQ 72 #[QH (a:Int)] w (Ok λi w'=>∃p F,i= .pointer (some ⟨p,0,none⟩)/\cV w' p F ⟨a,[]⟩/\(∀b,F b->w.heap.size<=b)/\ai w w'):=by
 refine Ho (UW tN kR (Q4 _) (by unfold aQ;omega) λw1 j k s=>⟨_,_,_,rfl,PA.mk λf g t l=>PA.mk λm d u n=>Ok.mk ⟨_,λb=>w.heap.size<=b/\b<m.heap.size,rfl,⟨aq.uk h,⟨_,a,a,w1.heap.size,(·=w.heap.size),λ_=>False,[],[]⟩,n,?_,cx.new (d.get l id),trivial,sM,List.Perm.refl _,λb c=>c.2,?_,by show f.heap.size≠w1.heap.size;omega,⟨by show f.heap.size≠_;omega,by show w1.heap.size≠_;omega⟩,⟨id,id⟩,λ_ _ o=>o⟩,λb c=>c.1,(k.then g).then d⟩⟩)
 ·have q:aq.vec ⟨a,[]⟩=List.replicate a 0:=by
   apply X3;intro r
   by_cases e:r<a
   ·rw [aq.my ⟨a,[]⟩ e];simp [e,aq.sX]
   ·rw [Q7 (by rw [aq.b_];exact Nat.le_of_not_lt e),Q7 (by simp;omega)]
  rw [q];exact(j.af g).af d
 ·rintro b (rfl|rfl|rfl|c)
  ·show _/\_;omega
  ·show _<=w1.heap.size/\w1.heap.size<_;omega
  ·omega
  ·exact c.elim
end
end Go.Proofs.YtfchlbaidamodaaGreatDoor

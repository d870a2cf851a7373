import Derived.Test.YthnilpgpacdmnaaGreatDoorK16
namespace Go.Proofs.YthnilpgpacdmnaaGreatDoor
open Go.au
set_option linter.unusedVariables false
set_option maxRecDepth 20000
variable{r:Array Value}{z:FuncId}{e:Int}{d6:Int×an}{u:List Int}{a c:Nat}{f:Nat->Prop}{d:Option Addr}{b:World}
theorem bP {D:Nat->Prop} (h:Row aG 8 b D d a u) (i:∀e,D e->e<b.heap.size):
  Calls Tryz.prog 79 #[.slice d a c] b (Ok (oy aG 3 b u)):=by
 have y:=h.len;have f:=h.dt;refine mS (js rm.under ⟨_,rfl,al.mk (λg=>?_) (λg=>PA.mk λl j z m=>?_)⟩)
 ·have:u=[]:=by
   cases d with
   |none=>
    cases u with
    |nil=>rfl
    |cons n A=>obtain⟨e,o,B,p,_⟩:=h.el 0 n rfl;cases p
   |some q=>cases g
  subst this;exact Ok.mk ⟨none,0,0,λ_=>False,rfl,aO.nil b,ak.refl _,λ_ h=>h.elim⟩
 ·cases d with
  |none=>cases g
  |some q=>
   have r:aO aG 3 (·=b.heap.size) l (some ⟨b.heap.size,0,none⟩) 0 0 []:=
    ⟨⟨[],λ_=>False,Own.yJ (cur:= #[]) m rfl (Qj _),rfl,λ_ h=>h.elim⟩,λe f=>by simpa [aF]using f.symm,λe f=>oM⟩
   refine jM r rm (D:=D) (h.ah j) (λe f=>⟨by have:=i e f;omega,by have:=i e f;simp only [aF];intro s;cases s;omega⟩) (by simp;omega) (by unfold aI at f;unfold maxLen;simp;omega) λk t C E v w _ x=>?_;refine⟨_,_,_,rfl,Ok.mk ⟨k,_,t,λe=>aF k=some e,rfl,by have h:=v.alone;rw [List.nil_append]at h;exact h,j.new w λe f=>.inr ?_,λe f=>?_⟩⟩
   ·simp only [aF,Q1]at f;omega
   ·rcases x e f with h|h<;>omega
def gH (a:Int) (b:ByteArray):Int:=if(kV b).2 then max a ((kV b).1+1)else a
def wV (a:List ByteArray):Int:=a.foldl gH 1
def Ax (D:an):Int:=wV D.list
theorem CY (a:ByteArray):0<=(kV a).1/\(kV a).1<1000000000000:=by
 unfold kV;split
 ·rename_i c b
  have:=(AI b).2;simp;omega
 ·simp
theorem EU (b:1<=e/\e<=1000000000000) (a:ByteArray):1<=gH e a/\gH e a<=1000000000000:=by
 have:=CY a;unfold gH;split<;>omega
theorem Hg:∀(b:List ByteArray) (a:Int),(1<=a/\a<=1000000000000)->1<=b.foldl gH a/\b.foldl gH a<=1000000000000
 |[],a,c=>c
 |s::b,a,c=>Hg b _ (EU c s)
theorem CZ (a:List ByteArray):1<=wV a/\wV a<=1000000000000:=Hg a 1 oM
theorem Hh {D:an} (t:Laid b) (j:aP b a f D):
  Calls Tryz.prog 109 #[.pointer (some ⟨a,0,none⟩)] b (Ok λu g=>u= .int .i64 (Ax D)/\ai b g):=by
 refine BK (PC.ok (vW j) ?_);rintro _ k ⟨v,e,A,G,rfl,l,m,B⟩;have C:D.list.length<=64:=by rw [mM];exact j.ok.many
 have E:=l.len dC;have w:Row LR 16 k G v e D.list:=l.row dC (by unfold aI;omega);refine⟨_,_,_,rfl,λn o p g=>∃c:Nat,p=c/\c<=e/\n=e-c/\o=wV (D.list.take c)/\ai k g,⟨_,0,rfl,Qj _,rfl,rfl,ak.refl _⟩,?_⟩;rintro n o p _ F ⟨c,rfl,H,rfl,rfl,d⟩;refine al.dec (λI=>?_) (λJ=>?_)
 ·obtain⟨x,h,q,rfl,y,_,z⟩:=(w.ah d).kp (i:=c) oM
  refine⟨x,h,rfl,oM,oM,_,z,PC.ok (y_ (t.ah (m.then d))) ?_⟩;rintro _ K ⟨rfl,r⟩;have L:=CY q;have M:=CZ (D.list.take c);have s:wV (D.list.take (c+1))=gH (wV (D.list.take c)) q:=by
   unfold wV;rw [Qw,y,List.foldl_append];rfl
  refine⟨_,_,rfl,al.mk (λi=>⟨_,?_,c+1,aq oM,oM,rfl,?_,d.then r⟩) (λi=>⟨_,?_,c+1,aq oM,oM,rfl,?_,d.then r⟩)⟩
  ·omega
  ·rw [s,wrap_i64 (by unfold aK;omega)]
   unfold gH;rw [if_pos i];split<;>omega
  ·omega
  ·rw [s];unfold gH;rw [if_neg (by simp [i])]
 ·obtain rfl:c=e:=oM
  rw [Qz oM];exact Ok.mk ⟨rfl,m.then d⟩
structure dU where
 size:Int
 bC:List Int
 bytes:Int
 next:Int
structure gY (w:World) (p q:Nat) (G:Nat->Prop) (V:dU):Prop where
 body:∃a n c E,w.heap[q]? =some (.cells #[.pointer (some ⟨p,0,none⟩),.int .i64 V.size,.slice a n c,.int .i64 V.bytes,.int .i64 V.next] 200 (0,0))/\aO aG 3 E w a n c V.bC/\∀b,E b->G b/\b≠q
 self:G q
 aC:∀b,G b->b<w.heap.size
 many:V.bC.length<=64
 zN:aK V.next
section
variable {w0 w w1 w':World} {p q:Nat} {D D':an} {V V':dU} {X Y G S:Nat->Prop}
theorem gY.af (b:gY w p q G V) (c:ak S w w') (e:∀a,G a->¬S a):gY w' p q G V:=by
 obtain⟨g,h,i,j,k,l,f⟩:=b.body;exact⟨⟨g,h,i,j,c.get k (e q b.self),l.af c λa d=>e a (f a d).1,f⟩,b.self,λa d=>Qk (b.aC a d) c.size,b.many,b.zN⟩
theorem gY.ah (a:gY w p q G V) (b:ai w w'):gY w' p q G V:=a.af b λ_ _ a=>a
def bY (w0 w:World) (p q:Nat) (V:dU) (D:an) (X:Nat->Prop):Prop:=∃G,aS w0 w p D (λa=>X a\/G a)/\gY w p q G V/\∀a,G a->w0.heap.size<=a/\¬X a
theorem bY.gr (a:bY w0 w p q V D X):ai w0 w:=by obtain⟨G,b,c,d⟩:=a;exact b.gr
theorem bY.ok (a:bY w0 w p q V D X):D.Ok:=by obtain⟨G,b,c,d⟩:=a;exact b.ok
theorem bY.many (a:bY w0 w p q V D X):V.bC.length<=64:=by obtain⟨G,c,b,d⟩:=a;exact b.many
theorem bY.zN (a:bY w0 w p q V D X):aK V.next:=by obtain⟨G,c,b,d⟩:=a;exact b.zN
theorem bY.aC (b:bY w0 w p q V D X):∀a,X a->a<w.heap.size:=by obtain⟨G,⟨e,f,g,h,c⟩,i,j⟩:=b;exact λa d=>c a (.inl d)
theorem bY.UR (b:bY w0 w p q V D X):q<w.heap.size/\w0.heap.size<=q/\¬X q:=by obtain⟨G,d,a,c⟩:=b;exact⟨a.aC q a.self,c q a.self⟩
theorem bY.ug (a:bY w0 w p q V D X):aS w0 w p D X:=by obtain⟨G,b,d,e⟩:=a;exact b.mono λf c=>.inl c
theorem bY.ah (b:bY w0 w p q V D X) (a:ai w w'):bY w0 w' p q V D X:=by
 obtain⟨G,c,d,e⟩:=b;exact⟨G,c.ah a,d.ah a,e⟩
theorem bY.mono (e:bY w0 w p q V D X) (c:∀a,Y a->X a):bY w0 w p q V D Y:=by
 obtain⟨G,f,g,d⟩:=e;exact⟨G,f.mono λa b=>b.imp (c a) id,g,λa b=>⟨(d a b).1,λh=>(d a b).2 (c a h)⟩⟩
theorem bY.add (g:bY w0 w p q V D X) (c:ai w w') (d:∀a,Y a->w.heap.size<=a/\a<w'.heap.size):bY w0 w' p q V D (λa=>X a\/Y a):=by
 obtain⟨G,h,e,f⟩:=g;refine⟨G,(h.add c d).mono λa b=>?_,e.ah c,λa b=>⟨(f a b).1,λi=>i.elim (f a b).2 λj=>by have:=e.aC a b;have:=(d a j).1;omega⟩⟩;rcases b with(b|b)|b
 ·exact .inl (.inl b)
 ·exact .inr b
 ·exact .inl (.inr b)
theorem bY.other (h:bY w0 w p q V D X) (c:ak Y w w') (d:∀a,Y a->X a/\w0.heap.size<=a):bY w0 w' p q V D X:=by
 obtain⟨G,⟨i,j,k,f,l⟩,m,g⟩:=h;exact⟨G,⟨i,j.af c λa b e=>(f a b).2 (.inl (d a e).1),k.new c λa b=>.inr (d a b).2,f,λa b=>Qk (l a b) c.size⟩,m.af c λa b e=>(g a b).2 (d a e).1,g⟩
theorem bY.on (f:bY w0 w p q V D X)
  (g:∀c,(∀a,X a->c a)->aS w0 w p D c->Calls Tryz.prog z r w (Ok (lX w0 w p c d6))):Calls Tryz.prog z r w (Ok λd w'=>d= .int .i64 d6.1/\bY w0 w' p q V d6.2 X/\ak (dv X) w w'):=by
 obtain⟨G,h,i,j⟩:=f;refine Calls.ok (g _ (λa b=>.inl b) h) ?_;rintro d w' ⟨k,l,e⟩;exact⟨k,⟨G,l,i.af e λa b m=>m (.inr b),j⟩,e.mono λa _ b n=>b (.inl n)⟩
def dU.last (V:dU):ByteArray:=cx (aA (V.bC.getLast?.getD 0))
theorem gY.row (f:gY w p q G V):∃b a d c,w.heap[q]? =some (.cells #[.pointer (some ⟨p,0,none⟩),.int .i64 V.size,.slice b a d,.int .i64 V.bytes,.int .i64 V.next] 200 (0,0))/\Row aG 8 w c b a V.bC/\(∀e,c e->G e/\e≠q)/\a=V.bC.length:=by
 obtain⟨b,a,d,c,h,g,i⟩:=f.body;have:=f.many;exact⟨b,a,d,c,h,g.row dC (by unfold aI;omega),i,g.len dC⟩
theorem Hi (f:Laid w) (d:gY w p q G V) (g:V.bC≠[]):Calls Tryz.prog 153 #[.pointer (some ⟨q,0,none⟩)] w (Ok λh w'=>h= .string V.last/\ai w w'):=by
 obtain⟨v,b,x,y,i,j,z,k⟩:=d.row;have A:0<V.bC.length:=List.length_pos_iff.2 g;have B:=d.many;refine tF λw1 l=>?_;have a:ai w w1:=l.af;have e:=a.get i id;have m:IntKind.wrap .i64 ((b:Int)-1)=((b-1:Nat):Int):=by rw [wrap_i64 (by unfold aK;omega)];omega
 obtain⟨n,c,o,rfl,r,s,t⟩:=(j.ah a).kp (i:=b-1) oM;refine⟨q,0,rfl,_,_,_,ae e rfl,q,0,rfl,_,_,_,ae e rfl,n,c,rfl,?_⟩;rw [m];refine⟨oM,oM,o,t,PC.ok (iE (f.ah a) s) ?_⟩;rintro _ C ⟨rfl,u⟩;refine⟨_,rfl,Ok.mk ⟨?_,a.then u⟩⟩;unfold dU.last;rw [List.getLast?_eq_getElem?,<-k,r];rfl
theorem Hj (k:Laid w0) (h:bY w0 w p q V D X) (l:V.bC≠[]):Calls Tryz.prog 92 #[.pointer (some ⟨q,0,none⟩)] w (Ok λm w'=>m= .int .i64 (D.sync V.last).1/\bY w0 w' p q V (D.sync V.last).2 X/\ak (dv X) w w'):=by
 refine tC λw1 n=>?_;have e:ai w w1:=n.af;have o:=h.ah e;obtain⟨G,r,a,i⟩:=o;obtain⟨z,A,B,C,s,E,F,j⟩:=a.row;have H:=i q a.self;have I:=a.aC q a.self;refine⟨λc=>c≠q/\¬X c,q,0,rfl,λt=>t.1 rfl,_,ae s rfl,PC.ok (Hi (k.ah (h.gr.then e)) a l) ?_⟩;rintro _ J ⟨rfl,d⟩;have u:=a.ah d;have v:=r.ah d;refine⟨_,rfl,d.af,PC.ok v.sync ?_⟩;rintro _ K ⟨rfl,x,f⟩;refine⟨_,rfl,f.mono λc _ b=>⟨λy=>b (.inr (y▸a.self)),λg=>b (.inl g)⟩,Ok.mk ⟨rfl,⟨G,x,u.af f λc b j=>j (.inr b),i⟩,?_⟩⟩;exact(ai.af (e.then d)).then (f.mono λc _ b g=>b (.inl g))
theorem Et (a:gY w p q G V):Calls Tryz.prog 139 #[.pointer (some ⟨q,0,none⟩)] w (Ok (oy aG 3 w V.bC)):=by
 obtain⟨k,l,m,n,c,d,e,o⟩:=a.row;refine n_ ⟨q,0,rfl,_,_,_,ae c rfl,PC.ok (bP d λb f=>a.aC b (e b f).1) ?_⟩;rintro _ w1 ⟨r,s,t,g,rfl,h,i,j⟩;exact⟨_,_,_,rfl,Ok.mk ⟨_,_,_,g,rfl,h,i,j⟩⟩
theorem NH (a:gY w p q G V):Calls Tryz.prog 138 #[.pointer (some ⟨q,0,none⟩)] w (Ok λb w'=>b= .int .i64 V.next/\w=w'):=by
 obtain⟨d,e,f,g,c,h,i,j⟩:=a.row;exact tE ⟨q,0,rfl,_,ae c rfl,Ok.mk ⟨rfl,rfl⟩⟩
end
end Go.Proofs.YthnilpgpacdmnaaGreatDoor
namespace Go.au
open Go
set_option linter.unusedVariables false
def nI (a:Int×Int):Value:=.agg #[.int .i64 a.1,.int .i64 a.2]
def Bp (a:Int×Int×Int):Value:=.agg #[.int .i64 a.1,.int .i64 a.2.1,.int .i64 a.2.2]
structure Im (P:Program) (t ti:TypeId):Prop where
 hu:P.underlying t=some (.struct (P.fieldsOf t))
 ui:P.underlying ti=some (.int .i64)
 hf:∃n1 n2,(P.fieldsOf t).toList.map (λf=>(f.name,f.type,f.offset))=[(n1,ti,0),(n2,ti,1)]/\n1≠ "_"/\n2≠ "_"
 hp:P.stoodInHeld t=false
 hm:P.eqGuardType P.depth t=false
 ag:sQ P ti=false
variable{E V e n:Int}{Q W:Operand}{o s:Value->World->Prop}{b:World}
section
variable {P:Program} {t ti:TypeId}
theorem Im.equalIn (b:Im P t ti) (f:Nat) (c d:Int×Int) (e:World):(Op.equalIn (f+2) t (nI c) (nI d)).run P e= .ok (c==d) e:=by
 obtain⟨v,w,a,g,h⟩:=b.hf;unfold nI;rw [run_equalIn_struct e (f+1) _ _ _ b.hu b.hp];generalize(P.fieldsOf t).toList=i at a
 match i,a with
 |[x,y],a=>
  simp only [QY,List.map_nil,List.cons.injEq,Prod.mk.injEq,and_true]at a;obtain⟨⟨j,k,l⟩,m,n,o⟩:=a;have p:(isAgg ti).run P e= .ok false e:=cK _ _ _ b.ag ⟨_,b.ui⟩ e;have q:=run_equalIn_int (P:=P) e f ti .i64 .i64 c.1 d.1 b.ui;have r:=run_equalIn_int (P:=P) e f ti .i64 .i64 c.2 d.2 b.ui;unfold Op.eqFields Op.eqFields Op.eqFields;rw [j,k,l,m,n,o];have s:(c==d)=(c.1==d.1&&c.2==d.2):=rfl;rw [s]
  cases b:c.1==d.1<;>simp [part,p,q,r,b,g,h]
  by_cases u:c.2=d.2<;>simp [u]
 |[],a=>simp at a
 |[_],a=>simp at a
 |_::_::_::_,a=>simp at a
theorem Im.eql (a:Im P t ti) (c:o (.bool (e==E&&n==V)) b):
  aE P (do eqGuard .eql t Q W (.agg #[.int .i64 e,.int .i64 n]) (.agg #[.int .i64 E,.int .i64 V]);binOp .eql t (.agg #[.int .i64 e,.int .i64 n]) (.agg #[.int .i64 E,.int .i64 V]):Sem Value) b o s:=by
 refine aE.mk (v:=.bool (e==E&&n==V)) ?_ c;rw [Sem.run_bind,run_eqGuard_agg b .eql _ Q W _ _ a.hm,Result.andThen_ok,run_eql_struct];have:=a.equalIn 9998 (e,n) (E,V) b;unfold nI at this;rw [this];rfl
theorem Im.neq (a:Im P t ti) (c:o (.bool (!(e==E&&n==V))) b):
  aE P (do eqGuard .neq t Q W (.agg #[.int .i64 e,.int .i64 n]) (.agg #[.int .i64 E,.int .i64 V]);binOp .neq t (.agg #[.int .i64 e,.int .i64 n]) (.agg #[.int .i64 E,.int .i64 V]):Sem Value) b o s:=by
 refine aE.mk (v:=.bool (!(e==E&&n==V))) ?_ c;rw [Sem.run_bind,run_eqGuard_agg b .neq _ Q W _ _ a.hm,Result.andThen_ok,run_neq_struct];have:=a.equalIn 9998 (e,n) (E,V) b;unfold nI at this;rw [this];rfl
theorem Im.check (c:Im P t ti) (e:Nat) (h:Int×Int) (b:World) (f:Bool):(Instr.checkKey f (e+2) t (nI h)).run P b= .ok () b:=by
 obtain⟨u,v,a,i,j⟩:=c.hf;have k:(isAgg ti).run P b= .ok false b:=cK _ _ _ c.ag ⟨_,c.ui⟩ b;have l:∀g:Int,(Instr.checkKey f (e+1) ti (.int .i64 g)).run P b= .ok () b:=λg=>by simp [Instr.checkKey,run_underlying c.ui]
 unfold nI;have m:=c.hu;unfold Instr.checkKey;rw [Sem.run_bind,run_underlying m,Result.andThen_ok];generalize w:P.fieldsOf t=d at a;obtain⟨d⟩:=d
 match d,a with
 |[x,y],a=>
  simp only [QY,List.map_nil,List.cons.injEq,Prod.mk.injEq,and_true]at a;obtain⟨⟨n,o,p⟩,q,r,s⟩:=a;simp [n,o,p,q,r,s,part,k,l,i,j]
 |[],a=>simp at a
 |[_],a=>simp at a
 |_::_::_::_,a=>simp at a
theorem Im.key (a:Im P t ti):gQ P t nI:=
 gQ.struct a.hu (λb c=>rfl) (λb c d=>a.equalIn 9998 b c d) (λe d f=>a.check 9998 e d f) (λg b=>by unfold nI;simp [Instr.sameBits]) λ{b c} a=>by
  unfold nI at a;simp only [Value.agg.injEq,Array.mk.injEq,List.cons.injEq,Value.int.injEq,and_true,true_and]at a;exact Prod.ext a.1 a.2
structure uU (P:Program) (t t2 ti:TypeId):Prop where
 two:Im P t2 ti
 hu:P.underlying t=some (.struct (P.fieldsOf t))
 hf:∃n1 n2,(P.fieldsOf t).toList.map (λf=>(f.name,f.type,f.offset))=[(n1,t2,0),(n2,ti,2)]/\n1≠ "_"/\n2≠ "_"
 hp:P.stoodInHeld t=false
 ag:sQ P t2=true
 sz:(P.info? t2).map (·.size)=some 2
variable {t2:TypeId}
theorem uU.Pk (c:uU P t t2 ti) (b:Int×Int×Int) (a:World):(part t2 #[.int .i64 b.1,.int .i64 b.2.1,.int .i64 b.2.2] 0).run P a= .ok (nI (b.1,b.2.1)) a:=by
 obtain⟨h,d,e⟩:=Option.map_eq_some_iff.1 c.sz;have f:(isAgg t2).run P a= .ok true a:=cK _ _ _ c.ag ⟨_,c.two.hu⟩ a;have g:(sizeOf t2).run P a= .ok 2 a:=by simp [sizeOf,typeInfo,d,e]
 unfold part;simp [f,g,nI]
theorem uU.equalIn (e:uU P t t2 ti) (g:Nat) (a b:Int×Int×Int) (c:World):(Op.equalIn (g+3) t (Bp a) (Bp b)).run P c= .ok (a==b) c:=by
 obtain⟨A,B,d,i,j⟩:=e.hf;have k:=e.Pk a c;have l:=e.Pk b c;have h:=e.two.equalIn g (a.1,a.2.1) (b.1,b.2.1) c;have n:=run_equalIn_int (P:=P) c (g+1) ti .i64 .i64 a.2.2 b.2.2 e.two.ui;have o:(isAgg ti).run P c= .ok false c:=cK _ _ _ e.two.ag ⟨_,e.two.ui⟩ c;unfold Bp;rw [run_equalIn_struct c (g+2) _ _ _ e.hu e.hp];generalize(P.fieldsOf t).toList=p at d
 match p,d with
 |[C,E],d=>
  simp only [QY,List.map_nil,List.cons.injEq,Prod.mk.injEq,and_true]at d;obtain⟨⟨q,r,s⟩,u,v,w⟩:=d;unfold Op.eqFields Op.eqFields Op.eqFields;rw [q,r,s,u,v,w];have x:(a==b)=(((a.1,a.2.1):Int×Int)==(b.1,b.2.1)&&a.2.2==b.2.2):=by
   show(a.1==b.1&&(a.2.1==b.2.1&&a.2.2==b.2.2))=((a.1==b.1&&a.2.1==b.2.1)&&a.2.2==b.2.2);rw [Bool.and_assoc]
  rw [x];have y:∀f:Int×Int×Int,(part ti #[.int .i64 f.1,.int .i64 f.2.1,.int .i64 f.2.2] 2).run P c= .ok (.int .i64 f.2.2) c:=λf=>by simp [part,o]
  cases m:((a.1,a.2.1):Int×Int)==(b.1,b.2.1)with
  |false=>
   rw [m]at h;simp [k,l,h,i,j]
  |true=>
   rw [m]at h;simp [k,l,h,n,y,i,j]
   by_cases z:a.2.2=b.2.2<;>simp [z]
 |[],d=>simp at d
 |[_],d=>simp at d
 |_::_::_::_,d=>simp at d
theorem uU.check (d:uU P t t2 ti) (e:Nat) (c:Int×Int×Int) (a:World) (f:Bool):(Instr.checkKey f (e+3) t (Bp c)).run P a= .ok () a:=by
 obtain⟨x,y,b,i,j⟩:=d.hf;have k:=d.Pk c a;have l:(isAgg ti).run P a= .ok false a:=cK _ _ _ d.two.ag ⟨_,d.two.ui⟩ a;have m:∀h:Int,(Instr.checkKey f (e+2) ti (.int .i64 h)).run P a= .ok () a:=λh=>by simp [Instr.checkKey,run_underlying d.two.ui]
 have n:=d.two.check e (c.1,c.2.1) a f;have o:(part ti #[.int .i64 c.1,.int .i64 c.2.1,.int .i64 c.2.2] 2).run P a= .ok (.int .i64 c.2.2) a:=by simp [part,l]
 unfold Bp;have p:=d.hu;rw [show e+3=(e+2)+1 from rfl];unfold Instr.checkKey;rw [Sem.run_bind,run_underlying p,Result.andThen_ok];generalize z:P.fieldsOf t=g at b;obtain⟨g⟩:=g
 match g,b with
 |[A,B],b=>
  simp only [QY,List.map_nil,List.cons.injEq,Prod.mk.injEq,and_true]at b;obtain⟨⟨q,r,s⟩,u,v,w⟩:=b;simp [q,r,s,u,v,w,k,o,n,m,i,j]
 |[],b=>simp at b
 |[_],b=>simp at b
 |_::_::_::_,b=>simp at b
theorem uU.key (a:uU P t t2 ti):gQ P t Bp:=
 gQ.struct a.hu (λb c=>rfl) (λb c d=>a.equalIn 9997 b c d) (λe d f=>a.check 9997 e d f) (λg b=>by unfold Bp;simp [Instr.sameBits]) λ{b c} a=>by
  unfold Bp at a;simp only [Value.agg.injEq,Array.mk.injEq,List.cons.injEq,Value.int.injEq,and_true,true_and]at a;exact Prod.ext a.1 (Prod.ext a.2.1 a.2.2)
end
end Go.au
namespace Go.Proofs.YthnilpgpacdmnaaGreatDoor
open Go.au
set_option linter.unusedVariables false
set_option maxRecDepth 20000
abbrev Dy:Int×Int->Value:=nI
theorem Kn:Im Tryz.prog 48 3:=⟨kR,kR,⟨"Origin", "Seq",kR,dC,dC⟩,kR,kR,kR⟩
theorem Up:gQ Tryz.prog 48 Dy:=Kn.key
abbrev qC:aj:=⟨0,0,0,[],0,0,0,0,0,0⟩
abbrev ji (a:aj) (b:Option Addr) (c d:Nat):Value:=.agg (aB a b c d).toArray
theorem O_:lJ Tryz.prog 155 48 60 (ji qC none 0 0):=⟨kR,kR⟩
theorem jA {e:World} {D:Nat->Prop}:∀{a:List Int} {cs:List Value},bu aG e D a cs↔cs=ints a/\∀x∈a,aK x
 |[],cs=>by simp [bu,ints]
 |x::a,cs=>by
  constructor
  ·rintro⟨i,j,rfl,⟨rfl,f⟩,g⟩
   obtain⟨rfl,h⟩:=jA.1 g;exact⟨rfl,λc b=>by rcases Q2.1 b with rfl|b;exact f;exact h c b⟩
  ·rintro⟨rfl,d⟩
   exact⟨[.int .i64 x],ints a,rfl,⟨rfl,d x (QV ..)⟩,jA.2 ⟨rfl,λc b=>d c (QJ _ b)⟩⟩
variable{e:Int}{u:List Int}{C a c i l:Nat}{f:Nat->Prop}{d:Option Addr}{h:Program}{g:TypeId}{v:Value}{o s:Value->World->Prop}{b k:World}{y:World->Prop}{m:aj}
theorem Pa (j:aO aG g f b d a c u) (p:i<u.length) (q:aK e) (r:d=some ⟨l,C,none⟩)
  (k:∀h,aO aG g f h d a c (u.set i e)->ak (λl=>aF d=some l) b h->h.heap.size=b.heap.size->y h):PS b ⟨l,C+i,none⟩ (.int .i64 e) y:=by
 obtain⟨cs,D,s,t,v⟩:=j.body;obtain⟨rfl,m⟩:=jA.1 t;refine s.set (m:=i) (by rw [iy];exact p) r λh w x o=>k h ⟨⟨_,D,w,jA.2 ⟨?_,?_⟩,v⟩,j.self,λl m=>by rw [o];exact j.aC l m⟩ x o
 ·unfold ints;rw [List.map_set]
 ·intro z n
  rcases List.mem_or_eq_of_mem_set n with n|rfl
  ·exact m z n
  ·exact q
def Ra (d:World) (D:Nat->Prop) (e:Value) (a:aj):Prop:=∃b c f,e=ji a b c f/\Row aG 8 d D b c a.aN/\a.Ok
theorem Ra.af {S D:Nat->Prop} (c:Ra b D v m) (d:ak S b k) (e:∀a,D a->¬S a):Ra k D v m:=by
 obtain⟨f,g,h,i,j,l⟩:=c;exact⟨f,g,h,i,j.af d e,l⟩
theorem Ra.mono {D a:Nat->Prop} (d:Ra b D v m) (e:∀c,D c->a c):Ra b a v m:=by
 obtain⟨f,g,h,i,j,k⟩:=d;exact⟨f,g,h,i,j.mono e,k⟩
theorem A_:qC.Ok:=by constructor<;>simp [aK]
theorem lD {D:Nat->Prop} (j:Row aG 8 b D d a m.aN) (v:∀e,D e->e<b.heap.size):
  Calls Tryz.prog 116 #[ji m d a c] b (Ok λw k=>∃d a c G,w=ji m d a c/\Row aG 8 k G d a m.aN/\(∀e,G e->b.heap.size<=e/\e<k.heap.size)/\ai b k):=by
 have x:=j.dt;have y:=j.len;refine xK (PA.mk λB p C g=>PA.mk λE h F l=>⟨_,_,_,ae (h.get g id) rfl,PC.ok (bP (j.ah (p.then h)) λe f=>by have:=v e f;omega) ?_⟩);rintro _ H ⟨q,r,s,G,rfl,t,i,n⟩;have g:=i.get (h.get g id) id;have l:=i.get l id;refine⟨_,_,_,rfl,PS.mk g (by simp [aB]) λI o J z=>?_⟩;refine ar (cs:=aB m q r s) (aV _ _ _ _) z (az (aV _ _ _ _) (o.get l oM) rfl λK u L A=>ar (aV _ _ _ _) A (Ok.mk ⟨q,r,s,G,rfl,?_,?_,?_⟩))
 ·refine(((t.af o λe f=>?_).af u λe f=>?_).row (bytes:=8) dC (by rw [<-y];exact x))
  ·have:=n e f;omega
  ·have:=n e f;omega
 ·intro e f
  have:=n e f;have:=t.aC e f;omega
 ·have M:=i.size
  exact((ak.new ((p.then h).then i) o λe f=>.inr oM).new u λe f=>.inr oM)
structure Pb where
 a:Option Addr
 n:Nat
 c:Nat
 r:Nat
 V:Nat->Prop
 D:Nat->Prop
 l:List ((Int×Int)×Value)
 L:List ((Int×Int)×aj)
structure qg (w:World) (p:Nat) (F:Nat->Prop) (S:aw) (q:Pb):Prop where
 at':w.heap[p]? =some (.cells #[.slice q.a q.n q.c,.map (some q.r),.int .i64 S.top] 157 (0,0))
 vec:aO aG 3 q.V w q.a q.n q.c S.vec
 map:bG w q.r Dy q.l
 rel:eN (Ra w q.D) q.l q.L
 key:∀x∈q.L,x.1=aR x.2
 TY:(q.L.map (·.2)).Perm S.l
 aC:∀b,F b->b<w.heap.size
 sub:∀b,b=p\/b=q.r\/q.V b\/q.D b->F b
 TZ:p≠q.r
 Tf:¬q.V p/\¬q.V q.r
 T_:¬q.D p/\¬q.D q.r
 Vr:∀b,q.V b->¬q.D b
def cj (b:World) (c:Nat) (d:Nat->Prop) (a:aw):Prop:=a.OK/\∃e,qg b c d a e
section
variable {w w' w1:World} {p:Nat} {F T:Nat->Prop} {S:aw} {q:Pb}
theorem qg.af (a:qg w p F S q) (c:ak T w w') (e:∀b,F b->¬T b):qg w' p F S q:=
 ⟨c.get a.at' (e p (a.sub p (.inl rfl))),a.vec.af c λb d=>e b (a.sub b (.inr (.inr (.inl d)))),a.map.af c (e _ (a.sub _ (.inr (.inl rfl)))),
  a.rel.mono λg h f=>f.af c λb d=>e b (a.sub b (.inr (.inr (.inr d)))),a.key,a.TY,λb d=>Qk (a.aC b d) c.size,a.sub,a.TZ,a.Tf,a.T_,a.Vr⟩
theorem qg.ah (a:qg w p F S q) (b:ai w w'):qg w' p F S q:=a.af b λ_ _ a=>a
theorem cj.af (a:cj w p F S) (c:ak T w w') (d:∀b,F b->¬T b):cj w' p F S:=⟨a.1,a.2.imp λq e=>e.af c d⟩
theorem cj.ah (a:cj w p F S) (b:ai w w'):cj w' p F S:=a.af b λ_ _ a=>a
theorem cj.aC (b:cj w p F S):∀a,F a->a<w.heap.size:=b.2.elim λq c=>c.aC
theorem qg.tidy (a:qg w p F S q):Tidy q.L:=by
 have:=a.map.tidy;unfold Tidy at*;rw [<-a.rel.keys];exact this
theorem qg.len (a:qg w p F S q):q.n=S.n:=by rw [a.vec.len dC,S.br]
theorem qg.Ua (a:qg w p F S q) (b:S.OK):Row aG 8 w q.V q.a q.n S.vec:=a.vec.row dC (by rw [S.br];have:=b.n;unfold aI;omega)
theorem qg.look (b:qg w p F S q) (e:S.OK) (a:Int×Int):(aD q.l a=none/\S.get a=none)\/∃c d,aD q.l a=some c/\S.get a=some d/\Ra w q.D c d:=by
 rw [<-HX e b.key b.TY b.tidy a];exact b.rel.aD a
theorem kq (a:cj w p F S):Calls Tryz.prog 38 #[.pointer (some ⟨p,0,none⟩)] w (Ok (oy aG 3 w S.vec)):=by
 obtain⟨b,q,a⟩:=a;refine vm ⟨p,0,rfl,_,_,_,ae a.at' rfl,PC.ok (bP (a.Ua b) λc d=>a.vec.aC c d) ?_⟩;rintro _ k ⟨e,f,g,G,rfl,h,i,j⟩;exact⟨_,_,_,rfl,Ok.mk ⟨e,f,g,G,rfl,h,i,j⟩⟩
theorem FC (a:cj w p F S):Calls Tryz.prog 90 #[.pointer (some ⟨p,0,none⟩)] w (Ok λb w'=>b= .int .i64 S.top/\w=w'):=by
 obtain⟨c,q,a⟩:=a;exact vu ⟨p,0,rfl,_,ae a.at' rfl,Ok.mk ⟨rfl,rfl⟩⟩
theorem Pc (s:cj w p F S) {D:Nat->Prop} (t:Row aG 8 w D d a m.aN) (he:m.Ok) (hn:m.aN.length=S.n) {o:Nat} (ho:o<S.n):
  Calls Tryz.prog 115 #[.pointer (some ⟨p,0,none⟩),ji m d a c,.int .i64 (o:Int)] w (Ok λl w'=>l= .bool (S.iz m o)/\ai w w'):=by
 obtain⟨u,q,s⟩:=s;have b1:=t.len;have hN:=u.n;refine tD (PA.mk λw1 k s1 M=>?_);have Z:=t.ah k;obtain⟨v,x,h,ha,hx,-,hc⟩:=Z.kp (i:=o) oM;have N:m.aN.getD o 0=h:=by rw [QQ,hx];rfl
 refine⟨_,_,_,ae M rfl,v,x,ha,oM,oM,h,hc,al.dJ (λy=>Ok.mk ⟨?_,k⟩) (λy=>?_)⟩
 ·unfold aw.iz;simp only [N,y];rfl
 have z:=s.ah k;have f:∀{A:Bool} {w':World},ai w w'->(match S.get (o,h)with
  |none=>false
  |some e=>decide (e.ax<m.ax)&&(List.range e.aN.length).all λi=>decide (e.aN.getD i 0<=m.aN.getD i 0))=A->Ok (λl w'=>l= .bool (S.iz m o)/\ai w w') (.returned (.bool A)) w':=λ{A w'} hg hy=>by
  refine Ok.mk ⟨?_,hg⟩;unfold aw.iz;simp only [N];rw [<-hy,show(h==0)=false by simpa using y]
  rfl
 refine⟨p,0,rfl,_,ae z.at' rfl,lK (enc:=Dy) (k:=((o:Int),h)) O_ Up z.map ?_⟩;rcases z.look u (o,h)with⟨B,j⟩|⟨l,e,B,j,O,n,P,rfl,a0,b2⟩
 ·rw [B]
  refine bF (qB qC none 0 0) ⟨_,rfl,PA.mk λw2 C s2 E=>az (aV qC none 0 0) E rfl λH I s3 J=>al.tt rfl (f (k.then ((C.then (ak.refl _)).new I λv hb=>.inr oM)) ?_)⟩;rw [j]
 ·rw [B]
  refine bF (qB e O n P) ⟨_,rfl,PA.mk λw2 C s2 E=>az (aV e O n P) E rfl λH I s3 J=>al.ff rfl ?_⟩;have K:ai w1 H:=(C.then (ak.refl _)).new I λv hb=>.inr oM;have r:=k.then K;have Q:=K.get M id;have a1:=aw.get_some j;have b3:e.aN.length=S.n:=by have:=lN (u.Ul e a1.1);omega
  refine⟨_,ae J rfl,_,ae Q rfl,al.dec (λhl=>f r ?_) (λhl=>?_)⟩
  ·rw [j]
   simp only [Bool.and_eq_false_iff,decide_eq_false_iff_not];left;omega
  have a2:=t.ah r;have R:=a0.ah K;have b6:=R.len;refine⟨_,_,_,ae J rfl,λT i w'=>∃b:Nat,i=b/\b<=n/\T=n-b/\(∀g,g<b->e.aN.getD g 0<=m.aN.getD g 0)/\H=w',⟨_,0,rfl,Qj _,rfl,λg L=>oM,rfl⟩,?_⟩;rintro T i _ _ ⟨b,rfl,hj,rfl,U,rfl⟩;refine al.dec (λb7=>?_) (λb8=>?_)
  ·obtain⟨b4,o4,V,a3,a4,-,a5⟩:=R.kp (i:=b) oM
   obtain⟨b5,o5,W,a6,a7,-,a8⟩:=a2.kp (i:=b) oM;have X:e.aN.getD b 0=V:=by rw [QQ,a4];rfl
   have Y:m.aN.getD b 0=W:=by rw [QQ,a7];rfl
   refine⟨b4,o4,a3,oM,oM,V,a5,_,_,_,ae Q rfl,b5,o5,a6,oM,oM,W,a8,al.dec (λa9=>f r ?_) (λb9=>?_)⟩
   ·rw [j]
    simp only [Bool.and_eq_false_iff];right;rw [List.all_eq_false];exact⟨b,by simp;omega,by rw [X,Y];simpa using a9⟩
   ·refine⟨_,oM,b+1,aq oM,oM,rfl,λg L=>?_,rfl⟩
    by_cases b0:g=b
    ·subst b0;rw [X,Y];omega
    ·exact U g oM
  ·refine f r ?_
   rw [j];simp only [QK,List.all_eq_true,decide_eq_true_eq];exact⟨oM,λg L=>U g (by simp at L;omega)⟩
theorem PD (f:cj w p F S) (l:Int×Int):
  Calls Tryz.prog 252 #[.pointer (some ⟨p,0,none⟩),Dy l] w (Ok λA w'=>∃d e g G,A= .tuple #[ji ((S.get l).getD qC) d e g,.bool (S.get l).isSome]/\Row aG 8 w' G d e ((S.get l).getD qC).aN/\(∀a,G a->w.heap.size<=a/\a<w'.heap.size)/\ai w w'):=by
 obtain⟨M,q,f⟩:=f;obtain⟨j,k⟩:=l;refine vG (PA.mk λw1 N s1 m=>PA.mk λB C s2 v=>λn E=>?_);have x:ai B n:=E.af;have s3:n.heap.size=B.heap.size:=by rw [E.heap]
 have m:=x.get (C.get m id) id;have v:=x.get v id;have H:=(N.then C).then x;have y:=f.ah H;have a2:=f.map.lt;have a3:=ay f.at';obtain⟨c,d,e,g,a,h,i,I,O,P⟩:∃(c:aj) (d:Option Addr) (e g:Nat) (a:Bool),(aD q.l (j,k)).getD (ji qC none 0 0)=ji c d e g/\(aD q.l (j,k)).isSome=a/\(S.get (j,k)).getD qC=c/\(S.get (j,k)).isSome=a/\Row aG 8 n q.D d e c.aN:=by
  rcases y.look M (j,k)with⟨h,i⟩|⟨A,Q,h,i,R,T,U,rfl,V,a4⟩
  ·exact⟨qC,none,0,0,false,by rw [h];rfl,by rw [h];rfl,by rw [i];rfl,by rw [i];rfl,Row.nil _ _⟩
  ·exact⟨Q,R,T,U,true,by rw [h];rfl,by rw [h];rfl,by rw [i];rfl,by rw [i];rfl,V⟩
 have J:∀a,q.D a->a<w.heap.size:=λa b=>f.aC a (f.sub a (.inr (.inr (.inr b))));refine⟨λa=>a=n.heap.size,p,0,rfl,oM,_,ae y.at' rfl,oM,_,_,ae m rfl,ae m rfl,bF (qB c d e g) ⟨a,λw' W=>?_,PA.mk λw4 o s4 X=>⟨ai.af o,az (aV c d e g) X rfl λw5 r s5 Y=>⟨r,?_⟩⟩⟩⟩
 ·have:=dN O_ Up (y.map.af W oM) (j,k) true
  rw [h,i]at this;exact this
 have Z:=(P.ah o).af r λa b hn=>by have:=J a b;omega
 refine ar (aV c d e g) Y (PC.ok (lD Z λa b=>by have:=J a b;omega) ?_);rintro _ w6 ⟨s,t,u,G,rfl,a0,K,z⟩;have a1:=z.get (r.get (o.get v id) oM) id;have z6:=z.size;refine bF (qB c s t u) ⟨rfl,az (aV c s t u) a1 rfl λw7 L s7 g7=>ar (aV c s t u) g7 (Ok.mk ⟨s,t,u,G,by rw [I,O],?_,?_,?_⟩)⟩
 ·rw [I];exact a0.af L λa b hn=>by have:=K a b;omega
 ·intro a b;have:=K a b;omega
 ·exact(((H.then o).new r λa b=>.inr oM).then z).new L λa b=>.inr oM
end
section
variable {w w' w1:World} {p:Nat} {F T:Nat->Prop} {S:aw} {q:Pb}
theorem Cr {S:aw} :((List.range a).any λb=>!S.iz m b)=false↔∀b,b<a->S.iz m b=true:=by
 simp [List.any_eq_false]
theorem tk (g:cj w p F S) {e:aj} {D:Nat->Prop} (B:Row aG 8 w D d a e.aN) (hD:∀b,D b->b<w.heap.size/\¬F b) (he:e.Ok) (hl:S.l.length<4611686018427387904):
  Calls Tryz.prog 57 #[.pointer (some ⟨p,0,none⟩),ji e d a c] w (Ok λC w'=>C= .int .i64 (S.add e).1/\∃E,cj w' p E (S.add e).2/\cz F w E w'):=by
 have eR:=g;obtain⟨H,q,g⟩:=g;have hN:=H.n;have b2:=g.len;have j3:=ay g.at';have j4:=g.map.lt;have d3:=g.Ua H;have h:∀{no:Int} {w':World},ai w w'->S.add e=(no,S)->Ok (λC w'=>C= .int .i64 (S.add e).1/\∃E,cj w' p E (S.add e).2/\cz F w E w') (.returned (.int .i64 no)) w':=λ{no w'} hg ha=>by
  refine Ok.mk ⟨by rw [ha],F,?_,ai.af hg,λb f=>.inl f⟩;rw [ha];exact eR.ah hg
 refine vq (PA.mk λw1 k1 s1 g1=>λw2 d2=>?_);have k2:ai w1 w2:=d2.af;have s2:w2.heap.size=w1.heap.size:=by rw [d2.heap]
 have O:=k1.then k2;have g2:=k2.get g1 id;have h8:=g.ah O;refine ar (aV e d a c) g2 ⟨p,0,rfl,_,_,_,ae h8.at' rfl,PC.ok (wO (B.ah O) (by rw [b2];omega)) ?_⟩;rintro _ w3 ⟨rfl,P⟩;rw [b2];refine⟨_,rfl,al.df (λI=>h (O.then P) ?_) (λQ=>?_)⟩
 ·rw [aw.add_def,if_pos I]
 obtain⟨c1,c5,c3,c6,c7,c8,c9,f0,f1,j5⟩:=lN Q;obtain⟨o,r⟩:∃o:Nat,e.origin=o:=⟨e.origin.toNat,oM⟩
 have J:o<S.n:=oM
 intro w4 d4;have k4:ai w3 w4:=d4.af;have s4:w4.heap.size=w3.heap.size:=by rw [d4.heap]
 have d5:=(O.then P).then k4;have z3:=P.size;have g4:=k4.get (P.get g2 id) id;have b3:=g.ah d5;obtain⟨s,a5,n5,d6,b,n,K,k⟩:∃(s:aj) (d:Option Addr) (a c:Nat) (b:Bool),(aD q.l (aR e)).getD (ji qC none 0 0)=ji s d a c/\(aD q.l (aR e)).isSome=b/\(S.get (aR e)).isSome=b:=by
  rcases b3.look H (aR e)with⟨n,K⟩|⟨C,a0,n,K,b8,n3,c3,rfl,j6,j7⟩
  ·exact⟨qC,none,0,0,false,by rw [n];rfl,by rw [n];rfl,by rw [K];rfl⟩
  ·exact⟨a0,b8,n3,c3,true,by rw [n];rfl,by rw [n];rfl,by rw [K];rfl⟩
 refine⟨λb=>b=w4.heap.size,p,0,rfl,oM,_,ae b3.at' rfl,oM,_,_,ae g4 rfl,ae g4 rfl,bF (qB s a5 n5 d6) ⟨b,λw' L=>?_,PA.mk λw5 k5 s5 g5=>⟨ai.af k5,az (aV s a5 n5 d6) g5 rfl λw6 k6 s6 g6=>⟨k6,?_⟩⟩⟩⟩
 ·have:=dN O_ Up (b3.map.af L oM) (aR e) true
  rw [n,K]at this;exact this
 have R:ai w w6:=(d5.then k5).new k6 λb f=>.inr oM;have b4:=k6.get (k5.get g4 id) oM;have h9:=g.ah R;refine al.mk (λt=>h R ?_) (λhf=>?_)
 ·rw [aw.add_def,if_neg (by simpa using Q),if_pos (by rw [k,t])]
 obtain⟨c2,o8,x8,i0,d8,-,i1⟩:=(d3.ah R).kp (i:=o) oM;have d9:x8=(S.s_ o:Int):=by rw [S.jv J]at d8;exact(XJ d8).symm
 subst d9;have j8:=S.EG o;refine⟨_,ae b4 rfl,p,0,rfl,_,_,_,ae h9.at' rfl,_,ae b4 rfl,c2,o8,i0,c1,oM,_,by rw [r];exact i1,λw7 d7=>?_⟩;have k7:ai w6 w7:=d7.af;have s7:w7.heap.size=w6.heap.size:=by rw [d7.heap]
 have b5:=R.then k7;rw [aq oM];refine al.df (λI=>h b5 ?_) (λe0=>?_)
 ·rw [aw.add_def,if_neg (by simpa using Q),if_neg (by rw [k,hf];simp),if_pos]
  rw [r,Qx,S.iA J];simpa using I
 have i2:=g.ah b5;have i3:=k7.get b4 id;have c4:e.seq=S.vec.getD e.origin.toNat 0+1:=by rw [r,Qx,S.iA J];simpa using e0
 have l:∀{a1:Int×aw},(if(List.range S.n).any λo=>!S.iz e o then((9:Int),S)else(0,⟨S.n,de e S.l⟩))=a1->S.add e=a1:=λ{a1} B=>by
  rw [aw.add_def,if_neg (by simpa using Q),if_neg (by rw [k,hf];simp),if_neg (by simpa using c4)];exact B
 refine⟨p,0,rfl,_,_,_,ae i2.at' rfl,λa3 i w'=>∃j:Nat,i=j/\j<=S.n/\a3=S.n-j/\(∀m,m<j->S.iz e m=true)/\ai w7 w',⟨_,0,rfl,Qj _,rfl,λm t=>oM,ak.refl _⟩,?_⟩;rintro a3 i _ w8 ⟨j,rfl,hj,rfl,a4,T⟩;have U:=b5.then T;have e1:=T.get i3 id;have z8:=T.size;rw [b2];refine al.dec (λj9=>?_) (λk0=>?_)
 ·refine ar (aV e d a c) e1 (PC.ok (Pc (eR.ah U) (B.ah U) he oM (o:=j) oM) ?_)
  rintro _ w9 ⟨rfl,k9⟩;refine⟨_,rfl,al.not (al.mk (λL=>?_) (λL=>h (U.then k9) (l (if_pos ?_))))⟩
  ·refine⟨_,oM,j+1,aq oM,oM,rfl,λm t=>?_,T.then k9⟩
   by_cases i4:m=j
   ·rw [i4];exact L
   ·exact a4 m oM
  ·rw [List.any_eq_true]
   exact⟨j,by simp;omega,by rw [L];rfl⟩
 ·have a6:=l (if_neg (by rw [Bool.not_eq_true,Cr];intro m t;exact a4 m oM))
  intro e2 e3;have e4:ai w8 e2:=e3.af;have l0:e2.heap.size=w8.heap.size:=by rw [e3.heap]
  have M:=U.then e4;have V:=e4.get e1 id;have e5:=g.ah M;have i5:=(B.ah M)
  refine⟨λb=>b=q.r,p,0,rfl,g.TZ,_,ae e5.at' rfl,oM,_,_,ae V rfl,ae V rfl,ar (aV e d a c) V (PC.ok (lD i5 λb f=>by have:=(hD b f).1;have:=M.size;omega) ?_)⟩;rintro _ i6 ⟨b7,b9,c0,G,rfl,e6,hG,W⟩;have a7:=M.then W;have X:=g.ah a7;have j2:=M.size;refine bF (qB e b7 b9 c0) ⟨rfl,ai.af W,ij (enc:=Dy) (k:=aR e) O_ Up X.map λe7 e8 u l3=>⟨u,λe9 f2=>?_⟩⟩;have v:ai e7 e9:=f2.af;have l4:e9.heap.size=e7.heap.size:=by rw [f2.heap]
  have a8:=v.get (u.get X.at' g.TZ) id;have a9:=v.get (u.get (W.get V id) oM) id;have b0:=(X.vec.af u λb f e=>g.Tf.2 (e▸f)).ah v;obtain⟨g0,g3,i7,a2,b1,-,g7⟩:=(b0.row (bytes:=8) dC (by rw [S.br];unfold aI;omega)).kp (i:=o) oM;have d0:i7=(S.s_ o:Int):=by rw [S.jv J]at b1;exact(XJ b1).symm
  subst d0;refine⟨p,0,rfl,_,_,_,ae a8 rfl,_,ae a9 rfl,g0,g3,a2,c1,oM,_,by rw [r];exact g7,g0,g3,a2,c1,oM,?_⟩;rw [r,Qx,aq oM];refine Pa b0 (by rw [S.br];exact J) (by unfold aK;omega) a2 λg8 g9 N l5=>λh3 h4=>?_;have x:ai g8 h3:=h4.af;have l6:h3.heap.size=g8.heap.size:=by rw [h4.heap]
  have y:∀b,aF q.a=some b->q.V b:=λb f=>g.vec.self b f;have i8:¬aF q.a=some p:=λe=>g.Tf.1 (y p e);have i9:¬aF q.a=some w.heap.size:=λe=>by have:=g.vec.aC _ (y _ e);omega
  have b6:=x.get (N.get a8 i8) id;have h5:=x.get (N.get a9 i9) id;refine⟨p,0,rfl,_,ae b6 rfl,_,ae h5 rfl,p,0,rfl,PS.mk b6 sM λh6 Y l7 j0=>?_⟩;have l8:=W.size;have j1:¬aF q.a=some q.r:=λe=>g.Tf.2 (y _ e);refine Ok.mk ⟨by rw [a6],λb=>F b\/G b,?_,?_,?_⟩
  rotate_left
  ·have Z:ak F w h6:=((((ai.af a7).then (u.mono λb _ f=>g.sub b (.inr (.inl f)))).then (ai.af v)).then ((N.mono λb _ f=>g.sub b (.inr (.inr (.inl (y b f))))).then (ai.af x))).then (Y.mono λb _ f=>g.sub b (.inl f))
   exact Z
  ·intro b f;rcases f with f|f
   ·exact .inl f
   ·exact .inr (by have:=hG b f;omega)
  have h7:=(aw.yI H he).1;rw [a6]at h7⊢;have z:∀b,G b->b≠p/\b≠q.r/\¬q.V b:=λb f=>by
   have:=hG b f;refine⟨oM,oM,λhv=>?_⟩;have:=g.vec.aC b hv;omega
  refine⟨h7,⟨q.a,q.n,q.c,q.r,q.V,λb=>q.D b\/G b,aH q.l (aR e) (ji e b7 b9 c0),aH q.L (aR e) e⟩,?_,?_,?_,?_,?_,?_,?_,?_,g.TZ,g.Tf,?_,?_⟩
  ·have t:(if e.ax>S.top then e.ax else S.top)=max S.top e.ax:=by split<;>omega
   rw [j0,aw.Rb,<-t];rfl
  ·rw [show aw.vec ⟨S.n,de e S.l⟩=S.vec.set o ((S.s_ o+1:Nat):Int) by rw [aw.Re S e r];simp]
   exact(g9.ah x).af Y λb f e=>g.Tf.1 (e▸f)
  ·exact(((e8.ah v).af N j1).ah x).af Y λe=>g.TZ e.symm
  ·have Z:ak (λb=>b=q.r\/aF q.a=some b\/b=p) i6 h6:=((u.mono λb _ f=>.inl f).then (ai.af v)).then (((N.mono λb _ f=>.inr (.inl f)).then (ai.af x)).then (Y.mono λb _ f=>.inr (.inr f)))
   have hd:∀b,q.D b\/G b->¬(b=q.r\/aF q.a=some b\/b=p):=by
    rintro b (f|f) (e|e|e)
    ·exact g.T_.2 (e▸f)
    ·exact g.Vr b (y b e) f
    ·exact g.T_.1 (e▸f)
    ·exact(z b f).2.1 e
    ·exact(z b f).2.2 (y b e)
    ·exact(z b f).1 e
   refine eN.aH ⟨b7,b9,c0,rfl,(e6.mono λb f=>.inr f).af Z hd,he⟩ (X.rel.mono λC f3 hu=>(hu.mono λb f=>.inl f).af Z hd)
  ·intro s k
   rcases eG k with rfl|k
   ·rfl
   ·exact g.key s k
  ·have d1:aD q.L (aR e)=none:=by
    rw [HX H g.key g.TY g.tidy];have:=k.trans hf;simpa using this
   have:∀A:List ((Int×Int)×aj),aD A (aR e)=none->aH A (aR e) e=A++[(aR e,e)]:=by
    intro A
    induction A with
    |nil=>intro _;rfl
    |cons a0 A ih=>
     intro hL;obtain⟨y1,y2⟩:=a0;unfold aD at hL;unfold aH;split at hL
     ·cases hL
     ·rename_i I
      rw [if_neg I,ih hL];rfl
   rw [this _ d1,Q3];exact(List.perm_append_comm.trans (List.Perm.cons e g.TY)).trans (cW e S.l).symm
  ·intro b f
   rcases f with f|f
   ·have:=g.aC b f;omega
   ·have:=hG b f;omega
  ·rintro b (f|f|f|f|f)
   ·exact .inl (g.sub b (.inl f))
   ·exact .inl (g.sub b (.inr (.inl f)))
   ·exact .inl (g.sub b (.inr (.inr (.inl f))))
   ·exact .inl (g.sub b (.inr (.inr (.inr f))))
   ·exact .inr f
  ·refine⟨?_,?_⟩
   ·rintro(f|f)
    ·exact g.T_.1 f
    ·exact(z _ f).1 rfl
   ·rintro(f|f)
    ·exact g.T_.2 f
    ·exact(z _ f).2.1 rfl
  ·rintro b hv (f|f)
   ·exact g.Vr b hv f
   ·exact(z _ f).2.2 hv
theorem Rf {e b:TypeId} (i:ix h e b 1 8) (f:(h.info? b).bind (·.zero)=some (.int .i64 0)) (j:a<=c) (d:c*8<=aI) {w:World} 
  (g:∀w',aO aG b (·=w.heap.size) w' (some ⟨w.heap.size,0,none⟩) a c (List.replicate a 0)->ai w w'->w'.heap.size=w.heap.size+1->o (.slice (some ⟨w.heap.size,0,none⟩) a c) w'):
  aE h (Instr.makeSlice e (.int .i64 (a:Int)) (.int .i64 (c:Int))) w o s:=by
 unfold aI at d;obtain⟨n,p,k,l,q,r,z⟩:=i.info;have t:p= .int .i64 0:=by
  rw [k]at f;simp only [Option.bind_some,l]at f;exact XJ f
 subst t;have m:=run_make (P:=h) w e b n _ i.under k l .i64 .i64 a c oM oM (by rw [r];omega) oM;rw [Qx,Qx,q,Nat.mul_one]at m;have u:ai w (w.alloc (.cells (madeCells (Value.int .i64 0).cells c) b)):=ak.alloc w _;have v:(madeCells (Value.int .i64 0).cells c).toList=List.replicate c (.int .i64 0):=by
  unfold madeCells;rw [Array.toList_map];apply List.ext_getElem
  ·simp
  ·intro A B C
   simp [Value.cells,Nat.mod_one]
 refine aE.mk m (g _ ⟨⟨List.replicate a (.int .i64 0),λ_=>False,⟨⟨by simp [aG,flat],.inr ⟨w.heap.size,c,_,rfl,Qj _,heap_alloc_new w _,j,by unfold maxLen;omega,by simp [size_madeCells,aG,flat],?_⟩⟩⟩,?_,λ_ g=>g.elim⟩,λx d=>by simpa [aF]using d.symm,λx d=>by subst d;simp⟩ u sM)
 ·rw [v]
  simp only [aG,flat,Nat.mul_one,List.take_replicate];rw [X2 j]
 ·exact jA.2 ⟨by simp [ints],λE y=>by rw [List.eq_of_mem_replicate y];simp [aK]⟩
theorem DP (h:a<=64):Calls Tryz.prog 54 #[.int .i64 (a:Int)] w (Ok λi w'=>∃p F,i= .pointer (some ⟨p,0,none⟩)/\cj w' p F ⟨a,[]⟩/\(∀b,F b->w.heap.size<=b)/\ai w w'):=by
 refine Eg (Rf rm kR (Q4 _) (by unfold aI;omega) λw1 j k s=>⟨_,_,_,rfl,PA.mk λf g t l=>PA.mk λm d u n=>Ok.mk ⟨_,λb=>w.heap.size<=b/\b<m.heap.size,rfl,⟨aw.rV h,⟨_,a,a,w1.heap.size,(·=w.heap.size),λ_=>False,[],[]⟩,n,?_,bG.new (d.get l id),trivial,sM,List.Perm.refl _,λb c=>c.2,?_,by show f.heap.size≠w1.heap.size;omega,⟨by show f.heap.size≠_;omega,by show w1.heap.size≠_;omega⟩,⟨id,id⟩,λ_ _ o=>o⟩,λb c=>c.1,(k.then g).then d⟩⟩)
 ·have q:aw.vec ⟨a,[]⟩=List.replicate a 0:=by
   apply X3;intro r
   by_cases e:r<a
   ·rw [aw.jv ⟨a,[]⟩ e];simp [e,aw.s_]
   ·rw [Q7 (by rw [aw.br];exact Nat.le_of_not_lt e),Q7 (by simp;omega)]
  rw [q];exact(j.ah g).ah d
 ·rintro b (rfl|rfl|rfl|c)
  ·show _/\_;omega
  ·show _<=w1.heap.size/\w1.heap.size<_;omega
  ·omega
  ·exact c.elim
end
end Go.Proofs.YthnilpgpacdmnaaGreatDoor

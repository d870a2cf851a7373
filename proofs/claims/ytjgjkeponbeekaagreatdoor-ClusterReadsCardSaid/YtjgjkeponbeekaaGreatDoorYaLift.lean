import Derived.Tactics
import Derived.Defers
import Derived.Recover
import Derived.Deep.Quiet
import Derived.Deep.LoopGhost
import Derived.Laws.Entries
import Derived.Laws.Tables
import Derived.Laws.Cells
import Derived.Scope
set_option linter.all false
namespace Go.ar
open Go
structure ak (S:Nat->Prop) (w w':World):Prop where
 os:w'.os=w.os
 tape:w'.tape=w.tape
 output:w'.output=w.output
 size:w.heap.size<=w'.heap.size
 block:∀k,k<w.heap.size->¬S k->w'.heap[k]? =w.heap[k]?
def get(b:Nat->Value):List (Nat×Value)->Nat->Value
 |[],a=>b a
 |(c,d)::e,a=>match Nat.beq c a with
  |true=>d
  |false=>get b e a
abbrev cC:=List (Nat×Value)
def ev(a:Nat->Value)(b:cC):Operand->Value
 | .tmp c=>get a b c
 | .const d=>d
 | .global e=>.pointer (some ⟨e,0,none⟩)
 | .func f=>.func (.func f) #[] #[]
def bT(b:cC)(a:Option Tmp)(c:Value):cC:=match a with
 |some a=>(a,c)::b
 |none=>b
structure Rel (n:Nat) (B:Nat->Value) (e:cC) (a:Act):Prop where
 size:a.tmps.size=n
 slot:∀t,a.tmps.getD t undef=ar.get B e t
def dH(c:Nat->Value)(d:cC)(b a:Nat)(e:Value):get c ((b,e)::d) a=if b=a then e else get c d a:=by
 show(match Nat.beq b a with|true=>e|false=>get c d a)=_
 by_cases f:b=a
 ·subst f;simp
 ·have:Nat.beq b a=false:=by
   cases g:Nat.beq b a
   ·rfl
   ·exact absurd (Nat.eq_of_beq_eq_true g) f
  rw[this,if_neg f]
def Rel.eval{d:Nat}{a:Nat->Value}{b:cC}{c:Act}(e:Rel d a b c):c.eval=ev a b:=by
 funext f
 cases f with
 |tmp g=>exact e.slot g
 |const h=>rfl
 |global i=>rfl
 |func j=>rfl
def Rel.put{d:Nat}{h:Nat->Value}{i:cC}{e:Act}(c:Rel d h i e)(a:Option Tmp)(j:∀b,a=some b->b<d)(f:Value):Rel d h (bT i a f) (e.put a f):=by
 cases a with
 |none=>exact c
 |some a=>
  have k:=j a rfl;refine⟨by simp[Act.put,c.size],λb=>?_⟩;show(e.tmps.setIfInBounds a f).getD b undef=_;rw[bT,dH,<-c.slot];have l:=c.size
  by_cases g:a=b
  ·subst g
   simp[l,k]
  ·rw[if_neg g]
   simp only[Array.getD_eq_getD_getElem?];rw[Array.getElem?_setIfInBounds_ne g]
variable{H:Act}{f3:Act->World->Prop}{d2:Addr}{X:Array Bool}{S:Array Oper}{n:Array Value}{I:Bool}{Z:Code}{h8:Ending->FrameMode->World->Prop}{s:Ending->World->Prop}{e9:Exit}{d7:Exit->Act->World->Prop}{a7:FrameMode}{a4:Func}{z:FuncId}{b4:List Nat}{f2:List PanicEntry->Act->World->Prop}{a0:List PanicEntry->World->Prop}{a2:List Value}{a c i:Nat}{f4:Nat->Bool}{a3 f:Nat->Prop}{Q:Oper}{e7:Operand->Value}{h:Program}{L a5:Prop}{g7:Sem Unit}{e1:Sem Value}{g:TypeId}{e4:TypeInfo}{b9 v:Value}{M:Value->Prop}{h6 p u:Value->World->Prop}{b b3 l:World}{y:World->Prop}{O:cC}{h7:cC->List Deferred->World->Prop}{f1:cC->Prop}
def Rel.defers{b:Nat->Value}(c:Rel a b O H)(d:List Deferred):Rel a b O {H with defers:=d}:=⟨c.size,c.slot⟩
def put_defers(a:Act)(b:Option Tmp)(c:Value):(a.put b c).defers=a.defers:=by cases b<;>rfl
def al(a:Bool)(b c:Prop):Prop:=match a with
 |true=>b
 |false=>c
def al.mk(a:I=true->L)(b:I=false->a5):al I L a5:=by
 cases I
 ·exact b rfl
 ·exact a rfl
def al.tt(a:I=true)(b:L):al I L a5:=by subst a;exact b
def al.ff(a:I=false)(b:a5):al I L a5:=by subst a;exact b
def Og(c:Value)(a:Value->Prop):Prop:=match c with
 | .int d _=>∃b,a (.int d b)
 | .bool _=>∃e,a (.bool e)
 | .string _=>∃f,a (.string f)
 | .slice _ _ _=>∃g b h,a (.slice g b h)
 | .pointer _=>∃i,a (.pointer i)
 | .map _=>∃j,a (.map j)
 |_=>∃k,a k
def Og.out{z:Value}{φ:Value->Prop}(a:Og z φ):∃b,φ b:=by
 unfold Og at a;split at a
 ·exact⟨_,a.choose_spec⟩
 ·exact⟨_,a.choose_spec⟩
 ·exact⟨_,a.choose_spec⟩
 ·obtain⟨c,d,e,a⟩:=a;exact⟨_,a⟩
 ·exact⟨_,a.choose_spec⟩
 ·exact⟨_,a.choose_spec⟩
 ·exact a
def PQ:List Value->(List Value->Prop)->Prop
 |[],a=>a []
 |z::b,a=>Og z λc=>PQ b λd=>a (c::d)
def PQ.out:∀{b:List Value} {φ:List Value->Prop},PQ b φ->∃l,l.length=b.length/\φ l
 |[],_,a=>⟨[],rfl,a⟩
 |z::b,φ,a=>by
  obtain⟨c,a⟩:=Og.out a;obtain⟨l,d,a⟩:=PQ.out a;exact⟨c::l,by simp[d],a⟩
def pI(z:Value)(a:Value->Prop):Prop:=match z with
 | .agg b=>PQ b.toList λc=>a (.agg c.toArray)
 |z=>Og z a
def pI.out{z:Value}{φ:Value->Prop}(a:pI z φ):∃b,φ b:=by
 unfold pI at a;split at a
 ·obtain⟨l,_,a⟩:=PQ.out a;exact⟨_,a⟩
 ·exact Og.out a
def Ux:List Value->(List Value->Prop)->Prop
 |[],a=>a []
 |z::b,a=>pI z λc=>Ux b λd=>a (c::d)
def Ux.out:∀{b:List Value} {φ:List Value->Prop},Ux b φ->∃l,φ l
 |[],_,a=>⟨[],a⟩
 |z::b,φ,a=>by
  obtain⟨c,a⟩:=pI.out a;obtain⟨l,a⟩:=Ux.out a;exact⟨c::l,a⟩
def cJ(a:Program)(b:TypeId):Value:=match a.info? b with
 |some c=>match c.zero with
  |some d=>d
  |none=>undef
 |none=>undef
def lq(a:Program)(b:TypeId):Nat:=match a.info? b with
 |some c=>c.size
 |none=>0
def tC(a:Program)(b:TypeId):Bool:=match a.underlying b with
 |some (.struct _)=>true
 |some (.array _ _)=>true
 |_=>false
def tD(a:Program)(b:TypeId)(c:Value->Prop):Prop:=match a.underlying b with
 |some (.tuple d)=>Ux (d.toList.map (cJ a)) λe=>c (.tuple e.toArray)
 |_=>pI (cJ a b) c
def tD.out{P:Program}{φ:Value->Prop}(a:tD P g φ):∃b,φ b:=by
 unfold tD at a;split at a
 ·obtain⟨l,a⟩:=Ux.out a;exact⟨_,a⟩
 ·exact pI.out a
def gV(b:World)(c:Addr):Nat->List Value->Prop->Prop
 |_,[],a=>a
 |d,e::f,a=>b.cell? (c.add d)=some e/\gV b c (d+1) f a
def gV.out{f:World}{g:Addr}:∀{b:Nat} {l:List Value} {φ:Prop},gV f g b l φ->(∀a c,l[a]? =some c->f.cell? (g.add (b+a))=some c)/\φ
 |_,[],_,e=>⟨λa c d=>by simp at d,e⟩
 |b,m::l,φ,e=>by
  obtain⟨h,i⟩:=e;obtain⟨j,k⟩:=gV.out i;refine⟨λa c d=>?_,k⟩
  cases a with
  |zero=>simp at d;subst d;exact h
  |succ a=>
   have:=j a c (by simpa using d);rw[show b+1+a=b+(a+1)from by omega]at this;exact this
def il(a:Program)(b:TypeId)(i:Value)(c:World)(d:Value->Prop):Prop:=match i with
 | .pointer (some e)=>match tC a b with
  |true=>match cJ a b with
   | .agg f=>match Nat.beq (lq a b) f.size with
    |true=>PQ f.toList λg=>gV c e 0 g (d (.agg g.toArray))
    |false=>False
   |_=>False
  |false=>Og (cJ a b) λh=>c.cell? e=some h/\d h
 |_=>False
def PS(a:World)(b:Addr)(c:Value)(d:World->Prop):Prop:=(∃e,a.cell? b=some e)/\a.frozen? b=false/\d (a.setCell b c)
def PA(a:World)(b:Obj)(c:World->Prop):Prop:=c (a.alloc b)
def iL(c:Addr):Nat->List Value->World->(World->Prop)->Prop
 |_,[],a,b=>b a
 |d,e::f,a,b=>PS a (c.add d) e λg=>iL c (d+1) f g b
def mg(a:Program)(b:TypeId)(g c:Value)(d:World)(e:World->Prop):Prop:=match g with
 | .pointer (some f)=>match tC a b with
  |true=>match c with
   | .agg cs=>match Nat.beq cs.size (lq a b)with
    |true=>match cs.toList.all Value.oneCell' with
     |true=>iL f 0 cs.toList d e
     |false=>False
    |false=>False
   |_=>False
  |false=>match Nat.beq (lq a b) 1 with
   |true=>al c.oneCell' (PS d f c e) False
   |false=>False
 |_=>False
def R_(a b:Nat):Nat:=match Nat.beq b 1 with
 |true=>a
 |false=>a*b
def LK(b a:Nat):R_ b a=b*a:=by
 unfold R_
 cases c:Nat.beq a 1
 ·rfl
 ·have:a=1:=Nat.eq_of_beq_eq_true c
  subst this;simp
def Sa(f:Program)(k:TypeId)(h i:Value)(j:Value->Prop):Prop:=match f.underlying k with
 |some (.slice a)=>match h,i with
  | .slice d l _,.int _ c=>∃e b,d=some ⟨e,b,none⟩/\0<=c/\c<l/\j (.pointer (some ⟨e,b+R_ c.toNat (lq f a),none⟩))
  |_,_=>False
 |some (.array g a)=>match h,i with
  | .pointer m,.int _ c=>∃e b,m=some ⟨e,b,none⟩/\0<=c/\c<g/\j (.pointer (some ⟨e,b+R_ c.toNat (lq f a),none⟩))
  |_,_=>False
 |_=>False
def FF(c d:Value)(e:Value->Prop):Prop:=match c,d with
 | .string f,.int _ a=>0<=a/\∃b,f[a.toNat]? =some b/\e (.int .u8 b.toNat)
 |_,_=>False
def cG(b:Option Addr)(c d a:Nat):Option Addr:=if d=c then b else b.map (·.add (c*a))
def Sb(i:Program)(o:TypeId)(m:Value)(j k n:Option Value)(e:Value->Prop):Prop:=match i.underlying o with
 |some .string=>match m,n with
  | .string f,none=>match j,k with
   |none,none=>e (.string (f.extract 0 f.size))
   |some (.int _ a),none=>0<=a/\a<=f.size/\e (.string (f.extract a.toNat f.size))
   |none,some (.int _ b)=>0<=b/\b<=f.size/\e (.string (f.extract 0 b.toNat))
   |some (.int _ a),some (.int _ b)=>0<=a/\a<=b/\b<=f.size/\e (.string (f.extract a.toNat b.toNat))
   |_,_=>False
  |_,_=>False
 |some (.slice c)=>match m,n with
  | .slice g l d,none=>match j,k with
   |none,none=>e (.slice g l d)
   |some (.int _ a),none=>0<=a/\a<=l/\e (.slice (cG g a.toNat d (lq i c)) (l-a.toNat) (d-a.toNat))
   |none,some (.int _ b)=>0<=b/\b<=d/\e (.slice g b.toNat d)
   |some (.int _ a),some (.int _ b)=>0<=a/\a<=b/\b<=d/\e (.slice (cG g a.toNat d (lq i c)) (b.toNat-a.toNat) (d-a.toNat))
   |_,_=>False
  | .slice g _ d,some (.int _ h)=>match j,k with
   |none,some (.int _ b)=>0<=b/\b<=h/\h<=d/\e (.slice g b.toNat h.toNat)
   |some (.int _ a),some (.int _ b)=>0<=a/\a<=b/\b<=h/\h<=d/\e (.slice (cG g a.toNat h.toNat (lq i c)) (b.toNat-a.toNat) (h.toNat-a.toNat))
   |_,_=>False
  |_,_=>False
 |_=>False
def WG(c:Option Addr)(d:Value->Prop):Prop:=∃b a,c=some ⟨b,a,none⟩/\d (.pointer (some ⟨b,a,none⟩))
def aG(c:Program)(d:Sem Value)(e:World)(f g:Value->World->Prop):Prop:=match d.run c e with
 | .ok a b=>f a b
 | .halt (.panic a) b=>g a b
 |_=>False
def iX(b:Program)(c:Sem Unit)(d:World)(e:World->Prop)(f:Value->World->Prop):Prop:=match c.run b d with
 | .ok _ a=>e a
 | .halt (.panic g) a=>f g a
 |_=>False
def aG.mk{a w':World}{v:Value}(b:e1.run h a= .ok v w')(c:p v w'):aG h e1 a p u:=by
 unfold aG;rw[b];exact c
def iX.mk{a w':World}(b:g7.run h a= .ok () w')(c:y w'):iX h g7 a y p:=by
 unfold iX;rw[b];exact c
def aG.imp(e:∀c d,p c d->u c d)(a:aG h e1 b p h6):aG h e1 b u h6:=by
 unfold aG at*;split at a
 ·exact e _ _ a
 ·exact a
 ·exact a.elim
def aG.panics{v:Value}(a:e1.run h b= .halt (.panic v) l)(c:u v l):aG h e1 b p u:=by
 unfold aG;rw[a];exact c
def enters(b:Program)(c:FuncId):Bool:=match b.funcs[c]? with
 |some a=>match a.body with
  |some _=>!(a.name== "runtime.NumGoroutine")
  |none=>false
 |none=>false
def PR(a:Ending)(b:Value->Prop)(c:List PanicEntry->Prop):Prop:=match a with
 | .returned d=>b d
 | .panicked e=>c e
 | .outgrown=>False
def PC(c:Program)(d:FuncId)(a:Array Value)(e:World)(f:Value->World->Prop)(g:List PanicEntry->World->Prop):Prop:=
 Calls c d a e λh b=>PR h (λi=>f i b) (λj=>g j b)
def LM(b:Program)(d:FuncId)(a:Array Value)(e:TypeId)(f:World)(g:Value->World->Prop)(h:List PanicEntry->World->Prop):Prop:=
 PC b d a f (λi j=>tD b e λc=>i=c/\g c j) h
def TX(d:Program)(e:Value)(a:Array Value)(f:TypeId)(g:World)(h:Value->World->Prop)(i:List PanicEntry->World->Prop):Prop:=
 ∃c first b,e= .func (.func c) first b/\enters d c=true/\LM d c (first++a++b) f g h i
def RF(c:Program)(e:FuncId)(a:Array Value)(b:World)(f g:Value->World->Prop):Prop:=
 ∃d:Sem Value,(∀b,(callFunc e a).run c b=(d.run c b).andThen λh i=>.ok (.value h) i)/\aG c d b f g
def WH(d:Program)(a:Value)(b:String)(c:Array Value)(g:TypeId)(h:World)(i:Value->World->Prop)(j:List PanicEntry->World->Prop):Prop:=
 ∃e as,(∀f,(callMethod a b c).run d f= .ok (.enter e as) f)/\LM d e as g h i j
def isInt(a:Program)(b:TypeId):Bool:=match a.underlying b with
 |some (.int _)=>true
 |_=>false
def LN(a:Program)(b:TypeId):Bool:=match a.underlying b with
 |some (.int _)=>true
 |some .bool=>true
 |some .string=>true
 |_=>false
def isMap(a:Program)(b:TypeId):Bool:=match a.underlying b with
 |some (.map _ _)=>true
 |_=>false
def uN(a:Operand):Bool:=match a with
 | .const _=>true
 |_=>false
def FG(a:Program)(g:Oper):Bool:=match g.op with
 | .lookup .. =>true
 | .next .. =>true
 | .entry _=>true
 | .mapEntry .. =>true
 | .makeSlice .. =>true
 | .convert d e _=>match isInt a d with
  |true=>match isInt a e with
   |true=>false
   |false=>true
  |false=>true
 | .binOp h f _ c _=>match h with
  | .quo=>match uN c with
   |true=>false
   |false=>true
  | .rem=>match uN c with
   |true=>false
   |false=>true
  | .shl=>match uN c with
   |true=>false
   |false=>true
  | .shr=>match uN c with
   |true=>false
   |false=>true
  | .add=>match isInt a f with
   |true=>false
   |false=>true
  | .eql=>match LN a f with
   |true=>false
   |false=>true
  | .neq=>match LN a f with
   |true=>false
   |false=>true
  |_=>false
 | .call {callee:=.builtin b,argTypes,..}=>match b with
  | .append=>true
  | .copy=>true
  | .cap=>true
  | .len=>isMap a (argTypes.getD 0 0)
  |_=>false
 |_=>false
def Nn(b:Operand->Value)(k:Oper):Option (Sem Value):=match k.op with
 | .move c| .assign c=>some (.pure (b c))
 | .pick d w n=>some (do pure (if<-asBool (b d)then b w else b n))
 | .alloc i=>some (Instr.alloc i true (.tuple #[]))
 | .box i c=>some (Instr.box i (b c))
 | .build j e=>some (Instr.build j (e.map λ(o,c)=>(o,b c)))
 | .buildSlice j p e=>some (Instr.buildSlice j p (e.map λ(o,c)=>(o,b c)))
 | .waits x=>some (Instr.waits x)
 | .binOp m a c q _=>some (do eqGuard m a c q (b c) (b q);binOp m a (b c) (b q))
 | .unOp m _ c=>some (Op.unary m (b c))
 | .convert r s c=>some (convert r s (b c))
 | .makeInterface a c=>some (Instr.makeInterface a (b c))
 | .makeFunc y first f=>some (Instr.makeFunc y (first.map b) (f.map b))
 | .makeMap j z=>some (Instr.makeMap j (z.map b))
 | .makeSlice j A d=>some (Instr.makeSlice j (b A) (b d))
 | .fieldAddr B c t=>some (Instr.fieldAt B (b c) t)
 | .field a c t=>some (Instr.field a (b c) t)
 | .index a c l=>some (Instr.index a (b c) (b l))
 | .lookup a c l u=>some (Instr.lookup a (b c) (b l) u)
 | .mapEntry j C E=>some (Instr.mapEntry j (b C) (b E))
 | .range a c=>some (Instr.range a (b c))
 | .next v g=>some (Instr.next (b v) g k.type)
 | .entry v=>some (Instr.entry (b v))
 | .typeAssert c a h u=>some (Instr.typeAssert (b c) a h u)
 | .extract j l=>some (Instr.extract (b j) l)
 | .panic c=>some (Instr.panic (b c))
 | .call d=>match d.callee with
  | .builtin n=>match n with
   | .append=>some (Builtin.append_ d.argTypes k.type (d.args.map b))
   | .cap=>some (Builtin.cap_ d.argTypes k.type (d.args.map b))
   | .clear=>some (Builtin.clear_ d.argTypes k.type (d.args.map b))
   | .copy=>some (Builtin.copy_ d.argTypes k.type (d.args.map b))
   | .delete=>some (Builtin.delete_ d.argTypes k.type (d.args.map b))
   | .len=>some (Builtin.len_ d.argTypes k.type (d.args.map b))
   | .max=>some (Builtin.max_ d.argTypes k.type (d.args.map b))
   | .min=>some (Builtin.min_ d.argTypes k.type (d.args.map b))
   | .panic=>some (Instr.panic ((d.args.map b).getD 0 .nilIface))
   |_=>none
  |_=>none
 |_=>none
def Sc(a:Operand->Value)(f:Oper):Option (Sem Unit):=match f.op with
 | .mapUpdate b c e d| .insert b c e d=>some (Instr.mapUpdate b (a c) (a e) (a d))
 | .entryStore b c g d=>some (Instr.entryStore b (a c) (a g) (a d))
 | .ready h=>some (Instr.ready h)
 |_=>none
def sj{b c f:Type}(a:Result b)(d:b->World->Result c)(e:c->World->Result f):(a.andThen d).andThen e=a.andThen λg h=>(d g h).andThen e:=by
 cases a<;>rfl
def iM(b:Nn e7 Q=some e1)(d:Program)(e:World):
  (execOp e7 Q).run d e=(e1.run d e).andThen λh i=>.ok (.value h) i:=by
 obtain⟨j,k,f,l,c,guard⟩:=Q
 cases k
 case call m=>
  obtain⟨a,g,n⟩:=m
  cases a
  case builtin o=>
   cases o<;>simp only[Nn,Option.some.injEq,reduceCtorEq]at b<;>subst b<;>simp[execOp,resolve,invoke,builtin]
  all_goals simp[Nn]at b
 all_goals first
  |(cases b;done)
  |(cases b;simp[execOp];done)
  |(cases b;simp only[execOp,Sem.run_bind,Sem.run_pure,sj,Result.andThen_ok];done)
  |(cases b;simp only[execOp,Sem.run_bind,Sem.run_pure,sj,Result.andThen_ok];rfl)
def No(a:Sc e7 Q=some g7)(c:Program)(d:World):
  (execOp e7 Q).run c d=(g7.run c d).andThen λ_ f=>.ok .skip f:=by
 obtain⟨g,h,e,i,b,guard⟩:=Q
 cases h
 all_goals first
  |(simp only[Sc,Option.some.injEq]at a;subst a;simp[execOp];done)
  |(simp[Sc]at a;done)
section
variable {P:Program}
def cI(P:Program)(a:TypeId)(c:Bool)(d:tC P a=c)(g:∃b,P.underlying a=some b)(e:World):(isAgg a).run P e= .ok c e:=by
 obtain⟨b,f⟩:=g;unfold tC at d;rw[f]at d;simp only[isAgg,Sem.run_bind,run_underlying f,Result.andThen_ok]
 cases b<;>simp_all
def DF(a:cJ P g=v)(d:v≠undef):∃b,P.info? g=some b/\b.zero=some v:=by
 unfold cJ at a;split at a
 ·rename_i b e
  split at a
  ·rename_i f c;exact⟨b,e,by rw[c,a]⟩
  ·exact absurd a.symm d
 ·exact absurd a.symm d
def cZ(b:P.info? g=some e4)(a:World):(sizeOf g).run P a= .ok e4.size a:=by
 simp[sizeOf,typeInfo,b]
def gW(a:P.info? g=some e4):lq P g=e4.size:=by simp[lq,a]
def uO(c:l.heap=b.heap)(a:Addr):l.cell? a=b.cell? a:=by simp[World.cell?,c]
def il.out(k:∃n,P.underlying g=some n)(a:il P g v b M):
  ∃c,(∀d,d.heap=b.heap->(Instr.loadAt g v).run P d= .ok c d)/\M c:=by
 unfold il at a;split at a
 ·rename_i h
  split at a
  ·rename_i i
   split at a
   ·rename_i y o
    split at a
    ·rename_i p
     obtain⟨l,q,a⟩:=PQ.out a;obtain⟨j,a⟩:=gV.out a;obtain⟨r,m,_⟩:=DF o (by simp[undef]);have s:r.size=l.length:=by
      have:=Nat.eq_of_beq_eq_true p;rw[gW m]at this;simp[this,q]
     refine⟨_,λd e=>?_,a⟩;have t:∀f c,l[f]? =some c->d.cell? (h.add f)=some c:=λf c u=>by
      rw[uO e];have:=j f c u;simpa using this
     have w:=run_loadCells_list (P:=P) (w:=d) h l t;simp only[Instr.loadAt,Instr.sureAddr,loadVar,Sem.run_bind,Sem.run_pure,Result.andThen_ok,cI P g _ i k,if_true,cZ m,s,w]
    ·exact a.elim
   ·exact a.elim
  ·rename_i i
   obtain⟨c,x,a⟩:=Og.out a;refine⟨c,λd e=>?_,a⟩;have j:d.cell? h=some c:=by rw[uO e];exact x
   simp[Instr.loadAt,Instr.sureAddr,loadVar,cI P g _ i k,load,Sem.run,j]
 ·exact a.elim
def iL.out{e:Addr}{f:World->Prop}:∀{l:List Value} {c:Nat} {b:World},(∀v∈l,v.oneCell'=true)->iL e c l b f->∃d,(storeCells e l c).run P b= .ok () d/\f d
 |[],c,b,_,a=>⟨b,rfl,a⟩
 |v::l,c,b,g,a=>by
  obtain⟨⟨n,h⟩,i,a⟩:=a;obtain⟨d,j,a⟩:=iL.out (l:=l) (λv k=>g v (List.mem_cons_of_mem _ k)) a;refine⟨d,?_,a⟩;have m:=run_store P b (e.add c) v .plain (g v (List.mem_cons_self ..));simp only[storeCells,Sem.run_bind,m,h,i];simpa using j
def mg.out{h:TypeId}{k b:Value}{i:World}{l:World->Prop}(c:∃f,P.info? h=some f)(a:mg P h k b i l):
  ∃g,(Instr.storeAt h k b).run P i= .ok () g/\l g:=by
 obtain⟨f,c⟩:=c;unfold mg at a;split at a
 ·rename_i m
  split at a
  ·split at a
   ·rename_i cs
    split at a
    ·rename_i d
     split at a
     ·rename_i e
      obtain⟨g,n,a⟩:=iL.out (P:=P) (λb o=>by simpa using List.all_eq_true.1 e b o) a;refine⟨g,?_,a⟩;have j:cs.size=f.size:=by have:=Nat.eq_of_beq_eq_true d;rwa [gW c]at this
      simp[Instr.storeAt,Instr.sureAddr,storeVar,cZ c,Value.cells,j,n]
     ·exact a.elim
    ·exact a.elim
   ·exact a.elim
  ·split at a
   ·rename_i d
    have j:f.size=1:=by have:=Nat.eq_of_beq_eq_true d;rwa [gW c]at this
    cases e:b.oneCell' with
    |false=>rw[e]at a;exact a.elim
    |true=>
     rw[e]at a;obtain⟨⟨s,p⟩,q,a⟩:=a;refine⟨_,?_,a⟩;have r:b.cells= #[b]:=by cases b<;>first|rfl|(simp[Value.oneCell']at e)
     have d:=run_store P i m b .plain e;rw[p,q]at d;simp[Instr.storeAt,Instr.sureAddr,storeVar,cZ c,r,j,storeCells,Addr.add_zero',d]
   ·exact a.elim
 ·exact a.elim
def Sa.out(m:∀f,(P.underlying g=some (.slice f)\/∃n,P.underlying g=some (.array n f))->∃h,P.info? f=some h)(a:Sa P g v b9 M):
  ∃o,(∀e,(Instr.indexAt g v b9).run P e= .ok o e)/\M o:=by
 unfold Sa at a;split at a
 ·rename_i b c
  split at a
  ·rename_i p n t q r
   obtain⟨s,i,rfl,j,k,a⟩:=a;obtain⟨h,d⟩:=m b (.inl c);refine⟨_,λe=>?_,a⟩;simp[Instr.indexAt,asIntOf,run_underlying c,j,k,cZ d,LK,gW d,Addr.add_lit]
  ·exact a.elim
 ·rename_i l b c
  split at a
  ·rename_i u q r
   obtain⟨s,i,rfl,j,k,a⟩:=a;obtain⟨h,d⟩:=m b (.inr ⟨l,c⟩);refine⟨_,λe=>?_,a⟩;simp[Instr.indexAt,Instr.sureAddr,asIntOf,run_underlying c,j,k,cZ d,LK,gW d,Addr.add_lit]
  ·exact a.elim
 ·exact a.elim
def FF.out(d:P.underlying g=some .string)(a:FF v b9 M):∃c,(∀b,(Instr.index g v b9).run P b= .ok c b)/\M c:=by
 unfold FF at a;split at a
 ·rename_i h i j
  obtain⟨e,k,f,a⟩:=a;refine⟨_,λb=>?_,a⟩;simp[Instr.index,asIntOf,run_underlying d,e,f]
 ·exact a.elim
def bE(c:Value)(b:Int)(f:IntKind)(g:c= .int f b)(d:Nat)(a:BoundsCode)(e:World)(h:0<=b/\b<=d):(Instr.sliceBound c d a).run P e= .ok b.toNat e:=by
 subst g;simp[Instr.sliceBound,asIntOf,h]
def Sb.out{j k m:Option Value}(y:∀t,P.underlying g=some (.slice t)->∃u,P.info? t=some u)(a:Sb P g v j k m M):
  ∃w,(∀b,(Instr.sliceAt g v j k m).run P b= .ok w b)/\M w:=by
 unfold Sb at a;split at a
 ·rename_i d
  have f:∀b,(Instr.sliceAt g v j k m).run P b=(Instr.slice g v j k m).run P b:=λb=>by simp[Instr.sliceAt,run_underlying d]
  split at a
  ·rename_i s
   split at a
   ·exact⟨_,λb=>by rw[f];simp[Instr.slice,Instr.sliceBounds,run_underlying d],a⟩
   ·rename_i l
    obtain⟨c,h,a⟩:=a;exact⟨_,λb=>by rw[f];simp[Instr.slice,Instr.sliceBounds,run_underlying d,bE _ l _ rfl s.size _ b ⟨c,h⟩],a⟩
   ·rename_i e
    obtain⟨c,h,a⟩:=a;exact⟨_,λb=>by rw[f];simp[Instr.slice,Instr.sliceBounds,run_underlying d,bE _ e _ rfl s.size _ b ⟨c,h⟩],a⟩
   ·rename_i l _ e
    obtain⟨c,h,n,a⟩:=a;exact⟨_,λb=>by rw[f];simp[Instr.slice,Instr.sliceBounds,run_underlying d,bE _ e _ rfl s.size _ b ⟨by omega,n⟩,bE _ l _ rfl e.toNat _ b ⟨c,by omega⟩],a⟩
   ·exact a.elim
  ·exact a.elim
 ·rename_i o d
  obtain⟨u,i⟩:=y o d;have f:∀b,(Instr.sliceAt g v j k m).run P b=(Instr.slice g v j k m).run P b:=λb=>by simp[Instr.sliceAt,run_underlying d]
  split at a
  ·rename_i q x p
   split at a
   ·refine⟨_,λb=>?_,a⟩
    rw[f]
    cases q<;>simp[Instr.slice,Instr.sliceBounds,run_underlying d,cZ i,Addr.add_zero']
   ·rename_i l
    obtain⟨c,h,a⟩:=a;refine⟨_,λb=>?_,a⟩;rw[f];simp[Instr.slice,Instr.sliceBounds,run_underlying d,cZ i,bE _ l _ rfl x _ b ⟨c,h⟩,cG,gW i]
   ·rename_i e
    obtain⟨c,h,a⟩:=a;refine⟨_,λb=>?_,a⟩;rw[f]
    cases q<;>simp[Instr.slice,Instr.sliceBounds,run_underlying d,cZ i,bE _ e _ rfl p _ b ⟨c,h⟩,Addr.add_zero']
   ·rename_i l _ e
    obtain⟨c,h,n,a⟩:=a;refine⟨_,λb=>?_,a⟩;rw[f];simp[Instr.slice,Instr.sliceBounds,run_underlying d,cZ i,bE _ e _ rfl p _ b ⟨by omega,n⟩,bE _ l _ rfl e.toNat _ b ⟨c,by omega⟩,cG,gW i]
   ·exact a.elim
  ·rename_i q x p _ r
   split at a
   ·rename_i e
    obtain⟨c,h,n,a⟩:=a;refine⟨_,λb=>?_,a⟩;rw[f]
    cases q<;>simp[Instr.slice,Instr.sliceBounds,run_underlying d,cZ i,bE _ r _ rfl p _ b ⟨by omega,n⟩,bE _ e _ rfl r.toNat _ b ⟨c,by omega⟩,Addr.add_zero']
   ·rename_i l _ e
    obtain⟨c,h,n,z,a⟩:=a;refine⟨_,λb=>?_,a⟩;rw[f];simp[Instr.slice,Instr.sliceBounds,run_underlying d,cZ i,bE _ r _ rfl p _ b ⟨by omega,z⟩,bE _ e _ rfl r.toNat _ b ⟨by omega,by omega⟩,bE _ l _ rfl e.toNat _ b ⟨c,by omega⟩,cG,gW i]
   ·exact a.elim
  ·exact a.elim
 ·exact a.elim
end
def known(a:Program)(b:TypeId):Bool:=match a.underlying b,a.info? b with
 |some _,some _=>true
 |_,_=>false
def fY(a:Program)(c:TypeId):Bool:=match a.underlying c with
 |some (.slice b)=>match a.info? b with
  |some _=>true
  |none=>false
 |some (.array _ b)=>match a.info? b with
  |some _=>true
  |none=>false
 |some _=>true
 |none=>false
def eS(a:Bool)(b:Prop):Prop:=match a with
 |true=>b
 |false=>False
def eS.out(a:eS I L):I=true/\L:=by
 cases I
 ·exact a.elim
 ·exact⟨rfl,a⟩
abbrev bG:=Nat->Value
abbrev gX:=Exit->bG->cC->List Deferred->World->Prop
def Np(c:Value)(b:Value->Prop):Prop:=match c with
 | .pointer d=>WG d b
 | .func (.func e) first a=>b (.func (.func e) first a)
 |_=>False
def uP(a:Program)(b c:Nat):List Oper->Value
 |[]=>undef
 |e::d=>match e.op with
  | .extract (.tmp f) g=>match Nat.beq f b with
   |true=>match Nat.beq g c with
    |true=>cJ a e.type
    |false=>uP a b c d
   |false=>uP a b c d
  |_=>uP a b c d
def ze(c:Program)(a:Array Oper)(b:Option Tmp)(d:Nat):Value:=match b with
 |some b=>uP c b d a.toList
 |none=>undef
def Bd(g:Bool)(a:Value)(b:Value->Prop):Prop:=(a= .tuple #[.bool false]/\b (.tuple #[.bool false]))\/(match g with
 |true=>∃c d,a= .tuple #[.bool true,.int .i64 c,.int .i32 d]/\b (.tuple #[.bool true,.int .i64 c,.int .i32 d])
 |false=>∃e f,a= .tuple #[.bool true,e,f]/\b (.tuple #[.bool true,e,f]))
def Bd.out(h:Bd I v M):M v:=by
 unfold Bd at h;rcases h with⟨rfl,h⟩|h
 ·exact h
 ·cases I
  ·obtain⟨a,b,rfl,h⟩:=h;exact h
  ·obtain⟨a,b,rfl,h⟩:=h;exact h
def FH(c z1:Value)(d:Value)(e:Value->Prop):Prop:=pI c λa=>pI z1 λb=>d= .tuple #[a,b]/\e (.tuple #[a,b])
def FH.out{c z1:Value}(e:FH c z1 v M):M v:=by
 obtain⟨b,f⟩:=pI.out (z:=c) (φ:=λb=>pI z1 λa=>v= .tuple #[b,a]/\M (.tuple #[b,a])) e;obtain⟨a,d⟩:=pI.out (z:=z1) (φ:=λa=>v= .tuple #[b,a]/\M (.tuple #[b,a])) f;rw[d.1];exact d.2
def FI(c:Value)(d:Value)(e:Value->Prop):Prop:=pI c λa=>∃b,d= .tuple #[a,.bool b]/\e (.tuple #[a,.bool b])
def FI.out{z a:Value}(d:FI z a M):M a:=by
 obtain⟨b,c,e,f⟩:=pI.out (z:=z) (φ:=λb=>∃c,a= .tuple #[b,.bool c]/\M (.tuple #[b,.bool c])) d;rw[e];exact f
def Sd(i:Program)(q:Array Oper)(c:bG)(d:Oper)(o:gX)(k:cC->List Deferred->World->Prop)(a:cC)(e:List Deferred)(j:World):Prop:=
 match d.op with
 | .load m u=>eS (known i m) (il i m (ev c a u) j λh=>k (bT a d.dst h) e j)
 | .store m u p=>eS (known i m) (mg i m (ev c a u) (ev c a p) j λb=>k (bT a d.dst undef) e b)
 | .indexAddr m p t=>eS (fY i m) (Sa i m (ev c a p) (ev c a t) λh=>k (bT a d.dst h) e j)
 | .slice m p y z A=>eS (fY i m) (Sb i m (ev c a p) (y.map (ev c a)) (z.map (ev c a)) (A.map (ev c a)) λh=>k (bT a d.dst h) e j)
 | .nilCheck p=>Np (ev c a p) λh=>k (bT a d.dst h) e j
 | .index m p t=>match i.underlying m with
  |some .string=>FF (ev c a p) (ev c a t) λh=>k (bT a d.dst h) e j
  |_=>aG i (Instr.index m (ev c a p) (ev c a t)) j (λh b=>k (bT a d.dst h) e b) (λl b=>o (.panic [{v:=l,recovered:=false}]) c a e b)
 | .call {callee:=.value (.func g),args,..}=>match enters i g with
  |true=>LM i g (args.map (ev c a)) d.type j (λh b=>k (bT a d.dst h) e b) (λs b=>o (.panic s) c a e b)
  |false=>RF i g (args.map (ev c a)) j (λh b=>tD i d.type λn=>h=n/\k (bT a d.dst n) e b) (λl b=>o (.panic [{v:=l,recovered:=false}]) c a e b)
 | .call {callee:=.value f,args,..}=>TX i (ev c a f) (args.map (ev c a)) d.type j (λh b=>k (bT a d.dst h) e b) (λs b=>o (.panic s) c a e b)
 | .call {callee:=.invoke f name,args,..}=>WH i (ev c a f) name (args.map (ev c a)) d.type j (λh b=>k (bT a d.dst h) e b) (λs b=>o (.panic s) c a e b)
 | .defer {callee:=.value f,args,..}=>match ev c a f with
  | .func B first v=>k (bT a d.dst undef) ({target:=.fn B v,args:=first++args.map (ev c a)}::e) j
  |_=>False
 | .next w r=>aG i (Instr.next (ev c a w) r d.type) j (λh b=>Bd r h λn=>k (bT a d.dst n) e b) (λl b=>o (.panic [{v:=l,recovered:=false}]) c a e b)
 | .entry w=>aG i (Instr.entry (ev c a w)) j (λh b=>FH (ze i q d.dst 0) (ze i q d.dst 1) h λn=>k (bT a d.dst n) e b) (λl b=>o (.panic [{v:=l,recovered:=false}]) c a e b)
 | .mapEntry m C E=>aG i (Instr.mapEntry m (ev c a C) (ev c a E)) j (λh b=>FH (ze i q d.dst 0) (ze i q d.dst 1) h λn=>k (bT a d.dst n) e b) (λl b=>o (.panic [{v:=l,recovered:=false}]) c a e b)
 | .typeAssert p F x true=>aG i (Instr.typeAssert (ev c a p) F x true) j (λh b=>FI (cJ i x) h λn=>k (bT a d.dst n) e b) (λl b=>o (.panic [{v:=l,recovered:=false}]) c a e b)
 |_=>match Nn (ev c a) d with
  |some r=>match FG i d with
   |true=>aG i r j (λh b=>tD i d.type λn=>h=n/\k (bT a d.dst n) e b) (λl b=>o (.panic [{v:=l,recovered:=false}]) c a e b)
   |false=>aG i r j (λh b=>k (bT a d.dst h) e b) (λl b=>o (.panic [{v:=l,recovered:=false}]) c a e b)
  |none=>match Sc (ev c a) d with
   |some r=>iX i r j (λb=>k (bT a d.dst undef) e b) (λl b=>o (.panic [{v:=l,recovered:=false}]) c a e b)
   |none=>False
def gY(b:enters h z=true)(a:Array Value)(c:World):(callFunc z a).run h c= .ok (.enter z a) c:=by
 unfold enters at b;split at b
 ·rename_i d e
  split at b
  ·rename_i i f
   have g:¬d.name= "runtime.NumGoroutine":=by simpa using b
   simp[callFunc,program,Sem.run,e,f,g]
  ·cases b
 ·cases b
def tE{next:Act->World->Prop}(j:LM h z n g b p a0)(k:∀c a,p c a->next (H.put Q.dst c) a)(l:∀d a,a0 d a->d7 (.panic d) H a):
  Q.upon h H next d7 (.ok (.enter z n) b):=by
 rw[Oper.upon_enter];refine Calls.mono j λm a e=>?_
 cases m with
 |returned c=>
  obtain⟨f,rfl,i⟩:=tD.out (φ:=λf=>c=f/\p f a) e;exact k _ _ i
 |panicked d=>exact l _ _ e
 |outgrown=>exact e.elim
def known.out{P:Program}(a:known P g=true):(∃b,P.underlying g=some b)/\∃c,P.info? g=some c:=by
 unfold known at a;split at a
 ·rename_i b c d e;exact⟨⟨b,d⟩,c,e⟩
 ·cases a
def fY.out{P:Program}(b:fY P g=true):∀a,(P.underlying g=some (.slice a)\/∃f,P.underlying g=some (.array f a))->∃c,P.info? a=some c:=by
 intro a d;unfold fY at b;rcases d with d|⟨f,d⟩
 ·rw[d]at b
  cases e:P.info? a with
  |none=>simp[e]at b
  |some c=>exact⟨c,rfl⟩
 ·rw[d]at b
  cases e:P.info? a with
  |none=>simp[e]at b
  |some c=>exact⟨c,rfl⟩
variable{T:bG}{c5:gX}
def Kv{P:Program}{next:Act->World->Prop}(p:Rel a T O H)(L:∀M,Q.dst=some M->M<a)(c:Sd P S T Q c5 h7 O H.defers b)(N:∀e A f,Rel a T (bT O Q.dst e) A->h7 (bT O Q.dst e) A.defers f->next A f)(x:∀R f,c5 (.panic R) T O H.defers f->d7 (.panic R) H f):Q.wp P H b next d7:=by
 have t:∀e f,h7 (bT O Q.dst e) H.defers f->next (H.put Q.dst e) f:=λe f B=>
  N e _ _ (p.put Q.dst L e) (by rw[put_defers];exact B)
 have j:∀h:Sem Value,(∀b,(execOp (ev T O) Q).run P b=(h.run P b).andThen λe f=>.ok (.value e) f)->
   aG P h b (λe f=>h7 (bT O Q.dst e) H.defers f) (λC f=>c5 (.panic [{v:=C,recovered:=false}]) T O H.defers f)->Q.wp P H b next d7:=by
  intro h n l;unfold Oper.wp;rw[p.eval,n];unfold aG at l
  cases m:h.run P b with
  |ok e f=>
   rw[m]at l;exact t _ _ l
  |halt k f=>
   rw[m]at l
   cases k with
   |panic e=>exact x _ _ l
   |_=>exact l.elim
 have u:∀h:Sem Unit,(∀b,(execOp (ev T O) Q).run P b=(h.run P b).andThen λ_ f=>.ok .skip f)->
   iX P h b (λf=>h7 (bT O Q.dst undef) H.defers f) (λC f=>c5 (.panic [{v:=C,recovered:=false}]) T O H.defers f)->Q.wp P H b next d7:=by
  intro h n l;unfold Oper.wp;rw[p.eval,n];unfold iX at l
  cases m:h.run P b with
  |ok e f=>
   rw[m]at l;exact t _ _ l
  |halt k f=>
   rw[m]at l
   cases k with
   |panic e=>exact x _ _ l
   |_=>exact l.elim
 have i:∀(h:Sem Value),(∀b,(execOp (ev T O) Q).run P b=(h.run P b).andThen λe f=>.ok (.value e) f)->
   (∃e,h.run P b= .ok e b/\h7 (bT O Q.dst e) H.defers b)->Q.wp P H b next d7:=by
  rintro h n ⟨e,r,B⟩;unfold Oper.wp;rw[p.eval,n,r];exact t _ _ B
 unfold Sd at c;split at c
 ·rename_i o k g
  obtain⟨q,c⟩:=c.out;obtain⟨e,r,c⟩:=il.out (known.out q).1 c;exact i (Instr.loadAt o (ev T O k)) (λb=>by simp[execOp,g]) ⟨e,r b rfl,c⟩
 ·rename_i o k V g
  obtain⟨q,c⟩:=c.out;obtain⟨f,W,c⟩:=mg.out (P:=P) (known.out q).2 c;exact u (Instr.storeAt o (ev T O k) (ev T O V)) (λb=>by simp[execOp,g]) (iX.mk W c)
 ·rename_i o k y g
  obtain⟨q,c⟩:=c.out;obtain⟨e,r,c⟩:=Sa.out (fY.out q) c;exact i (Instr.indexAt o (ev T O k) (ev T O y)) (λb=>by simp[execOp,g]) ⟨e,r b,c⟩
 ·rename_i o k X Y Z g
  obtain⟨q,c⟩:=c.out;obtain⟨e,r,c⟩:=Sb.out (λO E=>fY.out q O (.inl E)) c;exact i (Instr.sliceAt o (ev T O k) (X.map (ev T O)) (Y.map (ev T O)) (Z.map (ev T O))) (λb=>by simp[execOp,g]) ⟨e,r b,c⟩
 ·rename_i k g
  unfold Np at c;split at c
  ·rename_i a5 F
   obtain⟨a6,a0,rfl,c⟩:=c;unfold Oper.wp;rw[p.eval];simp only[execOp,g,F,Sem.run_pure,Oper.upon_value];exact t _ _ c
  ·rename_i w first s F
   unfold Oper.wp;rw[p.eval];simp only[execOp,g,F,Sem.run_pure,Oper.upon_value];exact t _ _ c
  ·exact c.elim
 ·rename_i o k y g
  split at c
  ·rename_i I
   obtain⟨e,r,c⟩:=FF.out I c;exact i (Instr.index o (ev T O k) (ev T O y)) (λb=>by simp[execOp,g]) ⟨e,r b,c⟩
  ·exact j (Instr.index o (ev T O k) (ev T O y)) (λb=>by simp[execOp,g]) c
 ·rename_i w d v g
  split at c
  ·rename_i q
   have m:(execOp (ev T O) Q).run P b= .ok (.enter w (d.map (ev T O))) b:=by
    simp[execOp,g,resolve,ev,Deferred.ofValue,invoke,gY q]
   unfold Oper.wp;rw[p.eval,m];exact tE c t x
  ·obtain⟨h,n,c⟩:=c
   refine j h (λb=>by simp[execOp,g,resolve,ev,Deferred.ofValue,invoke,n]) (aG.imp ?_ c);intro e f c;obtain⟨a1,rfl,c⟩:=tD.out c;exact c
 ·rename_i z d v a7 g
  obtain⟨w,first,s,J,q,c⟩:=c;have m:(execOp (ev T O) Q).run P b= .ok (.enter w (first++d.map (ev T O)++s)) b:=by
   simp[execOp,g,resolve,J,Deferred.ofValue,invoke,gY q]
  unfold Oper.wp;rw[p.eval,m];exact tE c t x
 ·rename_i z U d v g
  obtain⟨w,as,hm,c⟩:=c;have m:(execOp (ev T O) Q).run P b= .ok (.enter w as) b:=by
   have E:(d.map (ev T O)).extract 0 d.size=d.map (ev T O):=by
    have:d.size=(d.map (ev T O)).size:=by simp
    rw[this,Array.extract_size]
   have h0:(#[ev T O z]++d.map (ev T O))[0]? =some (ev T O z):=by rw[Array.getElem?_append_left (Nat.zero_lt_one)];rfl
   simp[execOp,g,resolve,invoke,E,hm,h0]
  unfold Oper.wp;rw[p.eval,m];exact tE c t x
 ·rename_i z d v g
  split at c
  ·rename_i fn first s J
   have m:(execOp (ev T O) Q).run P b= .ok (.defer {target:=.fn fn s,args:=first++d.map (ev T O)}) b:=by
    simp[execOp,g,resolve,J,Deferred.ofValue]
   unfold Oper.wp;rw[p.eval,m,Oper.upon_defer];exact N undef _ _ ((p.defers _).put Q.dst L undef) (by rw[put_defers];exact c)
  ·exact c.elim
 ·rename_i K h g
  refine j (Instr.next (ev T O K) h Q.type) (λb=>by simp[execOp,g]) (aG.imp (λe f c=>?_) c);exact c.out
 ·rename_i K g
  refine j (Instr.entry (ev T O K)) (λb=>by simp[execOp,g]) (aG.imp (λe f c=>?_) c);exact c.out
 ·rename_i o a2 a3 g
  refine j (Instr.mapEntry o (ev T O a2) (ev T O a3)) (λb=>by simp[execOp,g]) (aG.imp (λe f c=>?_) c);exact c.out
 ·rename_i k xT a4 g
  refine j (Instr.typeAssert (ev T O k) xT a4 true) (λb=>by simp[execOp,g]) (aG.imp (λe f c=>?_) c);exact c.out
 ·split at c
  ·rename_i h n
   split at c
   ·refine j h (λb=>iM n P b) (aG.imp ?_ c)
    intro e f c;obtain⟨a1,rfl,c⟩:=tD.out c;exact c
   ·exact j h (λb=>iM n P b) c
  ·split at c
   ·rename_i h n
    exact u h (λb=>No n P b) c
   ·exact c.elim
def jb(a:Array Oper)(b:Nat):Option Nat:=match a[b]? with
 |some c=>c.dst
 |none=>none
def Be(d:Program)(c:bG)(a:Array Oper)(e:gX):List Oper->(cC->List Deferred->World->Prop)->cC->List Deferred->World->Prop
 |[],g,f,h,i=>g f h i
 |k::b,g,f,h,i=>match k.guard with
  |none=>Sd d a c k e (Be d c a e b g) f h i
  |some (m,j)=>match jb a m with
   |none=>False
   |some l=>match get c f l with
    | .bool n=>al n
     (match j with
      |true=>Sd d a c k e (Be d c a e b g) ((l,.bool true)::f) h i
      |false=>Be d c a e b g (bT ((l,.bool true)::f) k.dst undef) h i)
     (match j with
      |true=>Be d c a e b g (bT ((l,.bool false)::f) k.dst undef) h i
      |false=>Sd d a c k e (Be d c a e b g) ((l,.bool false)::f) h i)
    | .tuple _=>Be d c a e b g (bT f k.dst undef) h i
    |_=>False
def Rel.again(b:Rel a T O H)(d:get T O c=v):Rel a T ((c,v)::O) H:=
 ⟨b.size,λf=>by
  rw[dH,b.slot];split
  ·rename_i e;subst e;exact d
  ·rfl⟩
def qU(c:get T O a=v)(b:Nat):get T ((a,v)::O) b=get T O b:=by
 rw[dH];split
 ·rename_i d;subst d;exact c.symm
 ·rfl
def nT(d:Rel a T O H)(b:jb S c=some i)(j:i<a):
  yielded S H.tmps c=match get T O i with| .bool f=>some f|_=>none:=by
 have g:((S[c]?).bind (·.dst))=some i:=by
  unfold jb at b
  cases e:S[c]? with
  |none=>rw[e]at b;simp at b
  |some k=>rw[e]at b;simpa using b
 unfold yielded;rw[g];have l:=d.size;have h:H.tmps[i]? =some (get T O i):=by
  rw[<-d.slot];have:i<H.tmps.size:=by omega
  simp[Array.getD,this]
 simp only[Option.bind_some,h];split<;>simp_all
def cQ(e:Nat)(f:bG)(g:cC)(h:List Nat)(i:gX):Exit->Act->World->Prop:=λj d k=>
 ∃a b,Rel e a b d/\(∀c,c∉h->get a b c=get f g c)/\i j a b d.defers k
def zh{t:Program}{m:Nat}{e r:bG}{s:cC}{l:List Nat}{d:Array Oper}{n:gX}(H:∀I b,jb d I=some b->b<m):
  ∀(J:List Oper) (a:cC) (j:Act) (i:World),(∀g∈J,∀h,g.dst=some h->h<m/\h∈l)->Rel m e a j->(∀b,b∉l->get e a b=get r s b)->
   Be t e d n J (λa w i=>n .normal e a w i) a j.defers i->wpList t d (cQ m r s l n) J j i
 |[],a,j,i,_,o,k,f=>⟨e,a,o,k,f⟩
 |g::c,a,j,i,K,o,k,f=>by
  have P:∀h,g.dst=some h->h<m:=λh L=>(K g (List.mem_cons_self ..) h L).1;have Q:∀(a:cC),(∀b,b∉l->get e a b=get r s b)->∀x b,b∉l->get e (bT a g.dst x) b=get r s b:=by
   intro a k x b M
   cases L:g.dst with
   |none=>exact k b M
   |some h=>
    have S:=(K g (List.mem_cons_self ..) h L).2;show get e ((h,x)::a) b=_;rw[dH,if_neg (by rintro rfl;exact M S)];exact k b M
  have y:∀g∈c,∀h,g.dst=some h->h<m/\h∈l:=λg T=>K g (List.mem_cons_of_mem _ T);have p:∀(a:cC),Rel m e a j->(∀b,b∉l->get e a b=get r s b)->Be t e d n c (λa w i=>n .normal e a w i) (bT a g.dst undef) j.defers i->
    wpList t d (cQ m r s l n) c (j.put g.dst undef) i:=λa o k f=>
   zh H c _ _ _ y (o.put _ P _) (Q a k _) (by rw[put_defers];exact f)
  have u:∀(a:cC),Rel m e a j->(∀b,b∉l->get e a b=get r s b)->Sd t d e g n (Be t e d n c λa w i=>n .normal e a w i) a j.defers i->
    g.wp t j i (wpList t d (cQ m r s l n) c) (cQ m r s l n):=λa o k f=>
   Kv o P f (λx Y U N V=>zh H c _ _ _ y N (Q a k x) V) (λZ U W=>⟨e,a,o,k,W⟩)
  unfold wpList;unfold Be at f;split at f
  ·rename_i B
   rw[if_pos (by simp[Region.wanted,B])];exact .inl (u a o k f)
  ·rename_i I q B
   split at f
   ·exact f.elim
   ·rename_i b R
    have v:=nT o R (H I b R);split at f
    ·rename_i C z
     rw[z]at v;simp only at v;have O:Region.wanted g (yielded d j.tmps)=(C==q):=by
      simp only[Region.wanted,B,v]
      cases C<;>cases q<;>rfl
     rw[O];have E:=o.again z;have F:∀A,A∉l->get e ((b,.bool C)::a) A=get r s A:=λA X=>by rw[qU z];exact k A X
     cases C<;>cases q<;>simp only[al]at f
     ·exact .inl (u _ E F f)
     ·exact p _ E F f
     ·exact p _ E F f
     ·exact .inl (u _ E F f)
    ·rename_i vs z
     rw[z]at v;simp only at v;have O:Region.wanted g (yielded d j.tmps)=false:=by
      simp[Region.wanted,B,v]
     rw[O];exact p _ o k f
    ·exact f.elim
def Bf{a:Type}(b:Program):Sem a->Option a
 | .pure c=>some c
 | .program d=>Bf b (d b)
 |_=>none
def wR{e:Type}{d:Program}:∀{s:Sem e} {c:e},Bf d s=some c->∀b,s.run d b= .ok c b
 | .pure g,c,a,b=>by simp only[Bf,Option.some.injEq]at a;subst a;rfl
 | .program f,c,a,b=>by simp only[Bf]at a;exact wR (s:=f d) a b
 | .load ..,_,a,_| .store ..,_,a,_| .new ..,_,a,_| .shape ..,_,a,_| .freeze ..,_,a,_| .frozen ..,_,a,_| .getObj ..,_,a,_| .setObj ..,_,a,_
 | .choose ..,_,a,_| .sys ..,_,a,_| .mark ..,_,a,_| .halt ..,_,a,_=>by simp[Bf]at a
def Vh(a:Program)(e:Sem Value)(f:TypeId)(b:World)(g:Value->Prop):Prop:=tD a f λc=>(∀d,e.run a (b.drewN d)= .ok c (b.drewN d))/\g c
def TY(b:Program)(e:FuncId)(a:Array Value)(f:TypeId)(c:World)(g:Value->Prop):Prop:=
 tD b f λd=>(∀h,Calls b e a (c.drewN h) λi j=>i= .returned d/\∃k,j=c.drewN k)/\g d
def PT(d:Program)(e:bG)(c:Oper)(h:cC->Prop)(a:cC)(j:World):Prop:=
 match c.op with
 | .load f m=>eS (known d f) (il d f (ev e a m) j λb=>h (bT a c.dst b))
 | .indexAddr f i k=>eS (fY d f) (Sa d f (ev e a i) (ev e a k) λb=>h (bT a c.dst b))
 | .slice f i n o p=>eS (fY d f) (Sb d f (ev e a i) (n.map (ev e a)) (o.map (ev e a)) (p.map (ev e a)) λb=>h (bT a c.dst b))
 | .nilCheck i=>Np (ev e a i) λb=>h (bT a c.dst b)
 | .index f i k=>match d.underlying f with
  |some .string=>FF (ev e a i) (ev e a k) λb=>h (bT a c.dst b)
  |_=>False
 | .call {callee:=.value (.func g),args,..}=>eS (enters d g) (TY d g (args.map (ev e a)) c.type j λb=>h (bT a c.dst b))
 |_=>match Nn (ev e a) c with
  |some l=>match FG d c with
   |true=>Vh d l c.type j λb=>h (bT a c.dst b)
   |false=>match Bf d l with
    |some b=>h (bT a c.dst b)
    |none=>False
  |none=>False
def sk(e:Program)(d:bG)(b:Array Oper):List Oper->(cC->Prop)->cC->World->Prop
 |[],g,c,_=>g c
 |i::a,g,c,f=>match i.guard with
  |none=>PT e d i (λc=>sk e d b a g c f) c f
  |some (k,h)=>match jb b k with
   |none=>False
   |some j=>match get d c j with
    | .bool l=>al l
     (match h with
      |true=>PT e d i (λc=>sk e d b a g c f) ((j,.bool true)::c) f
      |false=>sk e d b a g (bT ((j,.bool true)::c) i.dst undef) f)
     (match h with
      |true=>sk e d b a g (bT ((j,.bool false)::c) i.dst undef) f
      |false=>PT e d i (λc=>sk e d b a g c f) ((j,.bool false)::c) f)
    | .tuple _=>sk e d b a g (bT c i.dst undef) f
    |_=>False
def bd(a:World):World->Prop:=λb=>∃c,b=a.drewN c
def tF{next:Act->Prop}(v:Rel a T O H)(c:PT h T Q f1 O b)(w:∀d,f1 (bT O Q.dst d)->next (H.put Q.dst d)):Q.quiet h H (bd b) next:=by
 have e:∀m:Sem Value,(∀b,(execOp (ev T O) Q).run h b=(m.run h b).andThen λd x=>.ok (.value d) x)->
   (∃d,(∀g,m.run h (b.drewN g)= .ok d (b.drewN g))/\f1 (bT O Q.dst d))->Q.quiet h H (bd b) next:=by
  rintro m o ⟨d,f,y⟩;refine⟨d,?_,w d y⟩;rintro _ ⟨g,rfl⟩;unfold Oper.quietAt;rw[v.eval,o,f];exact⟨rfl,rfl⟩
 unfold PT at c;split at c
 ·rename_i k j i
  obtain⟨l,c⟩:=c.out;obtain⟨d,f,c⟩:=il.out (known.out l).1 c;exact e (Instr.loadAt k (ev T O j)) (λb=>by simp[execOp,i]) ⟨d,λg=>f _ rfl,c⟩
 ·rename_i k j p i
  obtain⟨l,c⟩:=c.out;obtain⟨d,f,c⟩:=Sa.out (fY.out l) c;exact e (Instr.indexAt k (ev T O j) (ev T O p)) (λb=>by simp[execOp,i]) ⟨d,λg=>f _,c⟩
 ·rename_i k j z A B i
  obtain⟨l,c⟩:=c.out;obtain⟨d,f,c⟩:=Sb.out (λO C=>fY.out l O (.inl C)) c;exact e (Instr.sliceAt k (ev T O j) (z.map (ev T O)) (A.map (ev T O)) (B.map (ev T O))) (λb=>by simp[execOp,i]) ⟨d,λg=>f _,c⟩
 ·rename_i j i
  unfold Np at c;split at c
  ·rename_i J q
   obtain⟨E,r,rfl,c⟩:=c;exact e (.pure (.pointer (some ⟨E,r,none⟩))) (λb=>by simp[execOp,i,q]) ⟨_,λg=>rfl,c⟩
  ·rename_i s first t q
   exact e (.pure (.func (.func s) first t)) (λb=>by simp[execOp,i,q]) ⟨_,λg=>rfl,c⟩
  ·exact c.elim
 ·rename_i k j p i
  split at c
  ·rename_i u
   obtain⟨d,f,c⟩:=FF.out u c;exact e (Instr.index k (ev T O j) (ev T O p)) (λb=>by simp[execOp,i]) ⟨d,λg=>f _,c⟩
  ·exact c.elim
 ·rename_i s n F i
  obtain⟨l,c⟩:=c.out;obtain⟨d,f,c⟩:=tD.out c;refine⟨d,?_,w d c⟩;rintro _ ⟨g,rfl⟩;have I:(execOp (ev T O) Q).run h (b.drewN g)= .ok (.enter s (n.map (ev T O))) (b.drewN g):=by
   simp[execOp,i,resolve,ev,Deferred.ofValue,invoke,gY l]
  unfold Oper.quietAt;rw[v.eval,I];exact⟨rfl,f g⟩
 ·split at c
  ·rename_i m o
   split at c
   ·obtain⟨d,f,c⟩:=tD.out c
    exact e m (λb=>iM o h b) ⟨d,f,c⟩
   ·split at c
    ·rename_i d f
     exact e m (λb=>iM o h b) ⟨d,λg=>wR f _,c⟩
    ·exact c.elim
  ·exact c.elim
def qu{w:Program}{n:Nat}{h B0:bG}{e0:cC}{W:List Nat}{e:Array Oper}{x:World}{y:cC->Prop}(L:∀C a,jb e C=some a->a<n):
  ∀(E:List Oper) (b:cC) (j:Act),(∀c∈E,∀f,c.dst=some f->f<n/\f∈W)->Rel n h b j->(∀a,a∉W->get h b a=get B0 e0 a)->
   sk w h e E y b x->wpQuiet w e (bd x) (λs=>∃o,Rel n h o s/\s.defers=j.defers/\(∀a,a∉W->get h o a=get B0 e0 a)/\y o) E j
 |[],b,j,_,m,l,d=>⟨b,m,rfl,l,d⟩
 |c::i,b,j,F,m,l,d=>by
  have N:∀f,c.dst=some f->f<n:=λf H=>(F c (List.mem_cons_self ..) f H).1;have O:∀(b:cC),(∀a,a∉W->get h b a=get B0 e0 a)->∀g a,a∉W->get h (bT b c.dst g) a=get B0 e0 a:=by
   intro b l g a I
   cases H:c.dst with
   |none=>exact l a I
   |some f=>
    have P:=(F c (List.mem_cons_self ..) f H).2;show get h ((f,g)::b) a=_;rw[dH,if_neg (by rintro rfl;exact I P)];exact l a I
  have J:∀c∈i,∀f,c.dst=some f->f<n/\f∈W:=λc Q=>F c (List.mem_cons_of_mem _ Q);have p:∀(b:cC) (g:Value),Rel n h b j->(∀a,a∉W->get h b a=get B0 e0 a)->sk w h e i y (bT b c.dst g) x->
    wpQuiet w e (bd x) (λs=>∃o,Rel n h o s/\s.defers=j.defers/\(∀a,a∉W->get h o a=get B0 e0 a)/\y o) i (j.put c.dst g):=λb g m l d=>by
   have:=qu L i (bT b c.dst g) (j.put c.dst g) J (m.put _ N _) (O b l _) d;rw[put_defers]at this;exact this
  unfold wpQuiet;unfold sk at d;split at d
  ·rename_i z
   rw[if_pos (by simp[Region.wanted,z])];exact tF m d λg t=>p b g m l t
  ·rename_i C k z
   split at d
   ·exact d.elim
   ·rename_i a M
    have q:=nT m M (L C a M);split at d
    ·rename_i A u
     rw[u]at q;simp only at q;have K:Region.wanted c (yielded e j.tmps)=(A==k):=by
      simp only[Region.wanted,z,q]
      cases A<;>cases k<;>rfl
     rw[K];have r:=m.again u;have B:∀v,v∉W->get h ((a,.bool A)::b) v=get B0 e0 v:=λv R=>by rw[qU u];exact l v R
     cases A<;>cases k<;>simp only[al]at d
     ·exact tF r d λg t=>p _ g r B t
     ·exact p _ _ r B d
     ·exact p _ _ r B d
     ·exact tF r d λg t=>p _ g r B t
    ·rename_i S u
     rw[u]at q;simp only at q;have K:Region.wanted c (yielded e j.tmps)=false:=by
      simp[Region.wanted,z,q]
     rw[K];exact p _ _ m l d
    ·exact d.elim
def kindOf(a:Program)(e:Oper):Nat:=match e.op with
 | .move _| .assign _| .pick .. | .build .. | .binOp .. | .unOp .. | .indexAddr .. | .slice .. | .nilCheck _| .fieldAddr .. | .field .. | .index .. | .extract .. | .typeAssert .. =>0
 | .convert c d _=>match isInt a c with
  |true=>match isInt a d with
   |true=>0
   |false=>2
  |false=>2
 | .load .. | .lookup .. =>1
 | .call {callee:=.builtin b,argTypes,..}=>match b with
  | .len=>match isMap a (argTypes.getD 0 0)with
   |true=>1
   |false=>0
  | .cap| .max| .min=>0
  |_=>2
 |_=>2
def lT(b:Program)(a:Array Oper)(c:Nat):Nat:=match a[c]? with
 |some d=>kindOf b d
 |none=>2
def fx(b:Program)(a:Array Oper)(c:Nat):Bool:=match lT b a c with
 |2=>false
 |_=>true
def LO(a:Program):List Oper->Bool
 |[]=>false
 |b::c=>match kindOf a b with
  |2=>true
  |_=>LO a c
def sq(b:Program)(a:Array Oper):List Nat->Option Nat
 |[]=>none
 |c::d=>match fx b a c with
  |true=>some c
  |false=>sq b a d
def tG{d:Program}{b:Array Oper}{c:Nat}:∀{e:List Nat},sq d b e=some c->c∈e/\fx d b c=true
 |[],a=>by cases a
 |i::j,a=>by
  unfold sq at a;split at a
  ·rename_i f;cases a;exact⟨List.mem_cons_self ..,f⟩
  ·obtain⟨g,h⟩:=tG a;exact⟨List.mem_cons_of_mem _ g,h⟩
def Bg{e:Program}{a:Array Oper}:∀{f:List Nat},sq e a f=none->∀c∈f,fx e a c=false
 |[],_,c,b=>by cases b
 |h::i,d,c,b=>by
  unfold sq at d;split at d
  ·cases d
  ·rename_i g
   rcases List.mem_cons.1 b with rfl|b
   ·exact g
   ·exact Bg d c b
def HJ(b:X.getD a true=false):X.getD a false=false:=by
 rcases Nat.lt_or_ge a X.size with c|c
 ·simp[c]at b⊢;exact b
 ·simp[Array.getElem?_eq_none c]at b
def lU(b:Array Oper)(d:Nat):Nat->Array Bool->Array Bool
 |0,a=>a
 |f+1,a=>match(Region.ready .any b a).find? (λc=>!Nat.beq c d)with
  |some c=>lU b d f (a.setIfInBounds c true)
  |none=>a
def gZ(e:Program)(a:Array Oper)(listed:Array Bool)(c:Nat):Bool:=
 (λd:Array Bool=>!d.getD c true&&(Region.ready .any a d).all (λb=>Nat.beq b c)&&
  (List.range a.size).all λb=>!d.getD b false||fx e a b||listed.getD b false) (lU a c a.size listed)
structure uQ (P:Program) (ops:Array Oper) (i:Nat) (listed M:Array Bool):Prop where
 sub:∀k,listed.getD k false=true->M.getD k false=true
 only:∀j∈Region.ready .any ops M,j=i
 still:∀j,j<ops.size->M.getD j false=true->listed.getD j false=false->fx P ops j=true
 size:M.size=listed.size
def qv{ops:Array Oper}{i:Nat}:∀(f:Nat) (a:Array Bool),(lU ops i f a).size=a.size/\∀b,a.getD b false=true->(lU ops i f a).getD b false=true
 |0,a=>⟨rfl,λ_ c=>c⟩
 |f+1,a=>by
  unfold lU;split
  ·rename_i d _
   obtain⟨e,g⟩:=qv (ops:=ops) (i:=i) f (a.setIfInBounds d true);exact⟨by rw[e];simp,λb h=>g b (getD_set_true h)⟩
  ·exact⟨rfl,λ_ c=>c⟩
def CE{ops:Array Oper}{i:Nat}(a:gZ h ops X i=true):∃d,uQ h ops i X d:=by
 unfold gZ at a;simp only[Bool.and_eq_true,List.all_eq_true]at a;obtain⟨⟨_,e⟩,f⟩:=a;obtain⟨g,j⟩:=qv (ops:=ops) (i:=i) ops.size X;refine⟨_,j,λb c=>Nat.eq_of_beq_eq_true (e b c),λb c k l=>?_,g⟩;have:=f b (List.mem_range.2 c);rw[k,l]at this;simpa using this
def uQ.ready{k:Program}{c:Array Oper}{l:Nat}{a e:Array Bool}(d:uQ k c l a e){b:Nat}(q:b∈Region.ready .any c a)(r:b≠l):
  fx k c b=true/\uQ k c l (a.setIfInBounds b true) e:=by
 obtain⟨m,s,n,t⟩:=mem_ready.1 q;have u:b<c.size:=(Array.getElem?_eq_some_iff.1 n).1;have o:e.getD b false=true:=by
  by_cases f:e.getD b true=false
  ·exact absurd (d.only b (mem_ready.2 ⟨f,s,n,λv w x=>d.sub _ (t v w x)⟩)) r
  ·have y:b<a.size:=by
    rcases Nat.lt_or_ge b a.size with K|K
    ·exact K
    ·simp[Array.getElem?_eq_none K]at m
   have z:b<e.size:=by rw[d.size];exact y
   simp[z]at f⊢;exact f
 have p:a.getD b false=false:=HJ m;refine⟨d.still b u o p,λg j=>?_,d.only,λg j f h=>?_,by simp[d.size]⟩
 ·by_cases i:b=g
  ·subst i;exact o
  ·rw[getD_set_ne false i]at j;exact d.sub g j
 ·refine d.still g j f ?_
  by_cases i:b=g
  ·subst i;exact p
  ·rw[getD_set_ne false i]at h;exact h
structure Bh (ops:Array Oper) (i:Nat) (listed M:Array Bool):Prop where
 sub:∀k,listed.getD k false=true->M.getD k false=true
 only:∀j∈Region.ready .any ops M,j=i
 size:M.size=listed.size
def qw(b:Array Oper)(a:Array Bool)(c:Nat):Bool:=
 (λd:Array Bool=>(Region.ready .any b d).all (λe=>Nat.beq e c)) (lU b c b.size a)
def HK{ops:Array Oper}{i:Nat}(a:qw ops X i=true):Bh ops i X (lU ops i ops.size X):=by
 unfold qw at a;simp only[List.all_eq_true]at a;obtain⟨b,c⟩:=qv (ops:=ops) (i:=i) ops.size X;exact⟨c,λd e=>Nat.eq_of_beq_eq_true (a d e),b⟩
def Bh.ready{c:Array Oper}{f:Nat}{a d:Array Bool}(e:Bh c f a d){b:Nat}(m:b∈Region.ready .any c a)(n:b≠f):
  d.getD b false=true/\Bh c f (a.setIfInBounds b true) d:=by
 obtain⟨o,p,q,r⟩:=mem_ready.1 m;have i:d.getD b false=true:=by
  by_cases g:d.getD b true=false
  ·exact absurd (e.only b (mem_ready.2 ⟨g,p,q,λs t u=>e.sub _ (r s t u)⟩)) n
  ·have v:b<a.size:=by
    rcases Nat.lt_or_ge b a.size with h|h
    ·exact h
    ·simp[Array.getElem?_eq_none h]at o
   have w:b<d.size:=by rw[e.size];exact v
   simp[w]at g⊢;exact g
 refine⟨i,λj k=>?_,e.only,by simp[e.size]⟩
 by_cases l:b=j
 ·subst l;exact i
 ·rw[getD_set_ne false l]at k;exact e.sub j k
def Se(a:List PanicEntry->Act->World->Prop):Exit->Act->World->Prop:=λb c d=>match b with
 | .panic e=>a e c d
 |_=>False
def Te(e:Program)(b:Array Oper)(c:Bool)(j:List PanicEntry->Act->World->Prop)(k:Nat->Prop)(i:Act->World->Prop):Nat->(World->Prop)->Array Bool->Act->World->Prop
 |0,_,a,h,g=>Region.ready .any b a=[]/\i h g
 |f+1,n,a,h,g=>(Region.ready .any b a=[]->i h g)/\∀d∈Region.ready .any b a,
  (fx e b d=true->stOp e b g d (λl=>Te e b c j k i f n (a.setIfInBounds d true) l g) h)/\
  (fx e b d=false->wpOp e b (Se j) d (λl o=>∃m:World->Prop,(c=true->k d->∀p,m p->n p)/\m o/\Te e b c j k i f m (a.setIfInBounds d true) l o) h g)
def PU(g:∀i H b,f2 i H b->d7 (.panic i) H b)(c:wpOp h S (Se f2) a f3 H b):wpOp h S d7 a f3 H b:=by
 unfold wpOp at*;split
 ·rename_i e;simpa only[e]using c
 ·rename_i j e
  simp only[e]at c;split
  ·rename_i f
   simp only[f,if_true]at c;rcases c with c|⟨_,_,_,c⟩
   ·left
    unfold Oper.wp at*;generalize(execOp H.eval j).run h b=k at*
    cases k with
    |ok l m=>
     cases l<;>simp only[Oper.upon]at c⊢<;>
      first
       |exact c
       |exact Calls.mono c (λn p d=>by cases n<;>first|exact d|exact g _ _ _ d|exact d.elim|(obtain⟨_,_,c⟩:=d;exact c.elim))
    |halt o m=>cases o<;>first|exact g _ _ _ c|exact(show False from c).elim
   ·exact c.elim
  ·rename_i f;simp only[f]at c;exact c
def nU{i:Program}{e:Array Oper}{g:Bool}{n:List PanicEntry->Act->World->Prop}{s:Nat->Prop}{o:Act->World->Prop}{j:Exit->Act->World->Prop}(k:∀p c b,n p c b->j (.panic p) c b)(h:∀c b,o c b->j .normal c b):∀(f:Nat) (l:World->Prop) (a:Array Bool) (c:Act) (b:World),
  Te i e g n s o f l a c b->wpAny i .any e j f a c b
 |0,_,_,_,_,d=>⟨d.1,h _ _ d.2⟩
 |f+1,l,a,c,b,d=>⟨λt=>h _ _ (d.1 t),λq u=>by
   obtain⟨v,w⟩:=d.2 q u
   cases r:fx i e q with
   |true=>exact wpOp_of_stOp (λm d=>nU k h f l _ m b d) (v r)
   |false=>exact PU k (wpOp_mono (λm x ⟨y,_,_,d⟩=>nU k h f y _ m x d) (w r))⟩
section
variable {P:Program} {ops:Array Oper}
def Nq{d h:Oper}(r:ops[a]? =some h)(s:d.apart ops h=true)(t:∀cs k,d.op≠.select cs k)(u:∀cs k,h.op≠.select cs k){n:Act->Prop}(w:∀e,y e->YieldsAt P ops e d v H)(c:stOp P ops b a n (H.put d.dst v)):
  stOp P ops b a (λo=>(∀e,y e->YieldsAt P ops e d v o)/\n (o.put d.dst v)) H:=by
 obtain⟨p,i,q⟩:=Oper.apart_spec s;have j:∀g,∀e,y e->YieldsAt P ops e d v (H.put h.dst g):=λg e x=>
  (w e x).of_same (execOp_put d t H h.dst g q) (wanted_put d H h.dst g q)
 unfold stOp at*;simp only[r]at*;rw[wanted_put h H d.dst v p]at c;split
 ·rename_i l
  simp only[l,if_true]at c;unfold Oper.still at*;rw[execOp_put h u H d.dst v p]at c;generalize(execOp H.eval h).run P b=z at*
  cases z with
  |ok A B=>
   cases A<;>simp only[Oper.stillUpon]at c⊢
   case value g=>exact⟨c.1,j g,by rw[<-Act.put_comm H v g i];exact c.2⟩
   case skip=>exact⟨c.1,j _,by rw[<-Act.put_comm H v undef i];exact c.2⟩
   case enter f args=>obtain⟨m,g,C,E⟩:=c;exact⟨m,g,C,j g,by rw[<-Act.put_comm H v g i];exact E⟩
  |halt e B=>simp only[Oper.stillUpon]at c
 ·rename_i l
  simp only[l]at c;exact⟨j _,by rw[<-Act.put_comm H v undef i];exact c⟩
def Nr{g h:Oper}(t:∀o H b,f2 o (H.put g.dst v) b->f2 o H b)(B:ops[a]? =some h)(C:g.apart ops h=true)(u:∀cs p,g.op≠.select cs p)(E:∀cs p,h.op≠.select cs p)(w:∀c,y c->YieldsAt P ops c g v H)(e:wpOp P ops (Se f2) a f3 (H.put g.dst v) b):
  wpOp P ops (Se f2) a (λx q=>(∀c,y c->YieldsAt P ops c g v x)/\f3 (x.put g.dst v) q) H b:=by
 obtain⟨z,k,n⟩:=Oper.apart_spec C;have l:∀d,∀c,y c->YieldsAt P ops c g v (H.put h.dst d):=λd c r=>
  (w c r).of_same (execOp_put g u H h.dst d n) (wanted_put g H h.dst d n)
 have i:∀m d,∀c,y c->YieldsAt P ops c g v (({H with defers:=m::H.defers}:Act).put h.dst d):=λm d c r=>
  (show YieldsAt P ops c g v {H with defers:=m::H.defers}from w c r).of_same (execOp_put g u _ h.dst d n) (wanted_put g _ h.dst d n)
 unfold wpOp at*;simp only[B]at*;rw[wanted_put h H g.dst v z]at e;split
 ·rename_i s
  simp only[s,if_true]at e;rcases e with e|⟨_,_,_,e⟩
  ·left
   unfold Oper.wp at*;rw[execOp_put h E H g.dst v z]at e;generalize(execOp H.eval h).run P b=A at*
   cases A with
   |ok F q=>
    cases F<;>simp only[Oper.upon]at e⊢
    case value d=>exact⟨l d,by rw[<-Act.put_comm H v d k];exact e⟩
    case skip=>exact⟨l _,by rw[<-Act.put_comm H v undef k];exact e⟩
    case defer m=>exact⟨i m _,by rw[<-Act.put_comm _ v undef k,<-Act.put_defers];exact e⟩
    case enter f args=>
     refine Calls.mono e λI J j=>?_
     cases I with
     |returned d=>exact⟨l d,by rw[<-Act.put_comm H v d k];exact j⟩
     |panicked o=>exact t _ _ _ j
     |outgrown=>obtain⟨_,_,j⟩:=j;exact j.elim
    case row A args=>exact Rows.mono e λd J j=>⟨l d,by rw[<-Act.put_comm H v d k];exact j⟩
   |halt c q=>cases c<;>first|exact t _ _ _ e|exact(show False from e).elim
  ·exact e.elim
 ·rename_i s
  simp only[s]at e;exact⟨l _,by rw[<-Act.put_comm H v undef k];exact e⟩
def uR{b:Bool}{k:List PanicEntry->Act->World->Prop}{l m:Nat->Prop}(g:∀n,l n->m n){o:Act->World->Prop}:∀(f:Nat) (d:World->Prop) (a:Array Bool) (h:Act) (e:World),
  Te P ops b k m o f d a h e->Te P ops b k l o f d a h e
 |0,_,_,_,_,c=>c
 |f+1,d,a,h,e,c=>⟨c.1,λq r=>by
   obtain⟨s,t⟩:=c.2 q r;refine⟨λi=>stOp_mono (λj c=>uR g f d _ j e c) (s i),λi=>wpOp_mono (λj u ⟨p,v,w,x⟩=>⟨p,λy z=>v y (g _ z),w,uR g f p _ j u x⟩) (t i)⟩⟩
def qV(N:∀c,f c->a3 c)(hE:∀T o h,f2 T (o.put Q.dst v) h->f2 T o h)(J:ops[a]? =some Q)(U:fx P ops a=true)(K:∀(c:Nat) (V:Oper) cs l,ops[c]? =some V->V.op≠.select cs l)(L:World->Prop):
  ∀(w:Nat) (p:World->Prop) (b:Array Bool) (o:Act) (h:World),
   (∀c q,ops[c]? =some q->c≠a->b.getD c true=false->(∀j∈q.after,Region.binds .any j=true->j.on≠a)->Q.apart ops q=true)->
   a∈Region.ready .any ops b->(∀g,L g->YieldsAt P ops g Q v o)->L h->p h->
   ((∀g,L g)\/(I=true/\(∀g,p g->L g)/\((∀c,a3 c)\/∃i,Bh ops a b i/\∀c,i.getD c false=true->a3 c))\/∃i,uQ P ops a b i)->
   Te P ops I f2 a3 f3 w p (b.setIfInBounds a true) (o.put Q.dst v) h->Te P ops I f2 f f3 (w+1) p b o h:=by
 intro w
 induction w with
 |zero=>
  intro p b o h _ m x t W _ y;refine⟨λd=>(by rw[d]at m;cases m),λc n=>?_⟩
  by_cases e:c=a
  ·subst e;exact⟨λ_=>(x h t).stOp J (uR N _ _ _ _ _ y),λd=>(by rw[U]at d;cases d)⟩
  ·have:=ready_mono n e
   rw[y.1]at this
   cases this
 |succ w O=>
  intro p b o h X m x t W Y y;refine⟨λd=>(by rw[d]at m;cases m),λc n=>?_⟩
  by_cases e:c=a
  ·subst e;exact⟨λ_=>(x h t).stOp J (uR N _ _ _ _ _ y),λd=>(by rw[U]at d;cases d)⟩
  ·obtain⟨hS,hT⟩:=y.2 c (ready_mono n e)
   obtain⟨Z,q,z,a4⟩:=mem_ready.1 n;have a5:∀j∈q.after,Region.binds .any j=true->j.on≠a:=λj he hb b0=>by
    have h1:=a4 j he hb;rw[b0,HJ (mem_ready.1 m).1]at h1
    cases h1
   have a6:=X c q z e Z a5;have R:∀u A,ops[u]? =some A->u≠a->(b.setIfInBounds c true).getD u true=false->
     (∀j∈A.after,Region.binds .any j=true->j.on≠a)->Q.apart ops A=true:=λu A hk b1 a7 b2=>by
    refine X u A hk b1 ?_ b2
    by_cases a8:c=u
    ·subst a8;exact Z
    ·rw[getD_set_ne true a8]at a7;exact a7
   refine⟨λB=>?_,λB=>?_⟩
   ·have k:=Nq z a6 (λcs l=>K a Q cs l J) (λcs l=>K c q cs l z) x (hS B)
    refine stOp_mono (λM r=>O p (b.setIfInBounds c true) M h R (ready_mono m (Ne.symm e)) r.1 t W ?_ ?_) k
    ·rcases Y with d|⟨s,d,k⟩|⟨i,d⟩
     ·exact .inl d
     ·exact .inr (.inl ⟨s,d,k.imp id λ⟨i,C,E⟩=>⟨i,(C.ready n e).2,E⟩⟩)
     ·exact .inr (.inr ⟨i,(d.ready n e).2⟩)
    ·rw[Array.setIfInBounds_comm _ _ e]
     exact r.2
   ·have k:=Nr hE z a6 (λcs l=>K a Q cs l J) (λcs l=>K c q cs l z) x (hT B)
    refine wpOp_mono (λM w' r=>?_) k;obtain⟨r,F,S,H,hM⟩:=r;have a0:I=true->f c->∀g,F g->p g:=λs t=>S s (N _ t);rcases Y with d|⟨s,d,k⟩|⟨i,d⟩
    ·exact⟨F,a0,H,O F (b.setIfInBounds c true) M w' R (ready_mono m (Ne.symm e)) r (d _) H (.inl d) (by rw[Array.setIfInBounds_comm _ _ e];exact hM)⟩
    ·have a9:a3 c:=by
      rcases k with k|⟨i,C,E⟩
      ·exact k c
      ·exact E c (C.ready n e).1
     exact⟨F,a0,H,O F (b.setIfInBounds c true) M w' R (ready_mono m (Ne.symm e)) r (d _ (S s a9 _ H)) H (.inr (.inl ⟨s,λg hx=>d g (S s a9 g hx),k.imp id λ⟨i,C,E⟩=>⟨i,(C.ready n e).2,E⟩⟩)) (by rw[Array.setIfInBounds_comm _ _ e];exact hM)⟩
    ·rw[(d.ready n e).1]at B;cases B
end
def Vi(a:Bool)(c:Nat->Prop)(d:Value)(b:Prop):Prop:=match a with
 |false=>b
 |true=>match d with
  | .pointer (some e)=>¬c e.block/\b
  |_=>False
def jx(a:Bool)(d:Nat->Prop)(c:World):World->Prop:=match a with
 |true=>λb=>ak d c b
 |false=>λb=>b=c
def TZ(a:Bool)(g:Nat->Prop)(d:Program)(e:Sem Value)(b:World)(f:Value):Prop:=match a with
 |true=>∀c,ak g b c->e.run d c= .ok f c
 |false=>e.run d b= .ok f b
def Tf(a:Bool)(c:Nat->Prop)(d e:World)(b:Prop):Prop:=match a with
 |true=>ak c d e/\b
 |false=>b
def Sf(c:Program)(d:bG)(e:Oper)(g:Bool)(l:Nat->Prop)(h:cC->Prop)(a:cC)(m:World):Prop:=
 match e.op with
 | .load f n=>eS (known c f) (Vi g l (ev d a n) (il c f (ev d a n) m λb=>h (bT a e.dst b)))
 | .indexAddr f i j=>eS (fY c f) (Sa c f (ev d a i) (ev d a j) λb=>h (bT a e.dst b))
 | .slice f i p q r=>eS (fY c f) (Sb c f (ev d a i) (p.map (ev d a)) (q.map (ev d a)) (r.map (ev d a)) λb=>h (bT a e.dst b))
 | .nilCheck i=>Np (ev d a i) λb=>h (bT a e.dst b)
 | .index f i j=>match c.underlying f with
  |some .string=>FF (ev d a i) (ev d a j) λb=>h (bT a e.dst b)
  |_=>False
 |_=>match Nn (ev d a) e with
  |some k=>match FG c e with
   |true=>tD c e.type λb=>(match kindOf c e with
    |0=>∀o,k.run c o= .ok b o
    |_=>TZ g l c k m b)/\h (bT a e.dst b)
   |false=>match Bf c k with
    |some b=>h (bT a e.dst b)
    |none=>False
  |none=>False
def il.WI(m:∃p,h.underlying g=some p)(a:il h g (.pointer (some d2)) b M):
  ∃c,(∀d,(∀i n,i.block=d2.block->b.cell? i=some n->d.cell? i=some n)->(Instr.loadAt g (.pointer (some d2))).run h d= .ok c d)/\M c:=by
 unfold il at a;simp only at a;split at a
 ·rename_i j
  split at a
  ·rename_i z q
   split at a
   ·rename_i r
    obtain⟨k,s,a⟩:=PQ.out a;obtain⟨l,a⟩:=gV.out a;obtain⟨t,o,_⟩:=DF q (by simp[undef]);have u:t.size=k.length:=by
     have:=Nat.eq_of_beq_eq_true r;rw[gW o]at this;simp[this,s]
    refine⟨_,λd e=>?_,a⟩;have v:∀f c,k[f]? =some c->d.cell? (d2.add f)=some c:=λf c w=>
     e _ _ (by unfold Addr.add;split<;>rfl) (by have:=l f c w;simpa using this)
    have x:=run_loadCells_list (P:=h) (w:=d) d2 k v;simp only[Instr.loadAt,Instr.sureAddr,loadVar,Sem.run_bind,Sem.run_pure,Result.andThen_ok,cI h g _ j m,if_true,cZ o,u,x]
   ·exact a.elim
  ·exact a.elim
 ·rename_i j
  obtain⟨c,y,a⟩:=Og.out a;refine⟨c,λd e=>?_,a⟩;have l:d.cell? d2=some c:=e _ _ rfl y;simp[Instr.loadAt,Instr.sureAddr,loadVar,cI h g _ j m,load,Sem.run,l]
def ak.Vj(d:ak f b l)(e:¬f d2.block)(a:b.cell? d2=some v):l.cell? d2=some v:=by
 have c:d2.block<b.heap.size:=by
  by_cases c:d2.block<b.heap.size
  ·exact c
  ·unfold World.cell? at a
   rw[show b.heap[d2.block]? =none by simp;omega]at a
   cases a
 unfold World.cell? at a⊢;rw[d.block _ c e];exact a
def PV(B:Rel a T O H)(C:Region.wanted Q (yielded S H.tmps)=true)(c:Sf h T Q I f f1 O b):
  ∃d,f1 (bT O Q.dst d)/\((∀g,YieldsAt h S g Q d H)\/(kindOf h Q≠0/\∀g,jx I f b g->YieldsAt h S g Q d H)):=by
 have i:∀(p:Sem Value) d g,(∀b,(execOp (ev T O) Q).run h b=(p.run h b).andThen λd E=>.ok (.value d) E)->p.run h g= .ok d g->YieldsAt h S g Q d H:=by
  intro p d g s j;refine .inl ⟨C,.inl ?_⟩;rw[B.eval,s,j]
  rfl
 unfold Sf at c;split at c
 ·rename_i o g k
  obtain⟨q,c⟩:=eS.out c;have F:kindOf h Q≠0:=by simp[kindOf,k]
  have t:∀(l:Addr),ev T O g= .pointer (some l)->(∀e,jx I f b e->∀r u,r.block=l.block->b.cell? r=some u->e.cell? r=some u)->(il h o (.pointer (some l)) b λd=>f1 (bT O Q.dst d))->
    ∃d,f1 (bT O Q.dst d)/\((∀g,YieldsAt h S g Q d H)\/(kindOf h Q≠0/\∀g,jx I f b g->YieldsAt h S g Q d H)):=by
   intro l n J c;obtain⟨d,j,c⟩:=il.WI (known.out q).1 c;exact⟨d,c,.inr ⟨F,λe m=>i (Instr.loadAt o (ev T O g)) d e (λb=>by simp[execOp,k]) (by rw[n];exact j e (J e m))⟩⟩
  unfold Vi at c;split at c
  ·have n:∃l,ev T O g= .pointer (some l):=by
    unfold il at c;split at c
    ·exact⟨_,by assumption⟩
    ·exact c.elim
   obtain⟨l,n⟩:=n;rw[n]at c;exact t l n (λe m r u _ v=>by simp only[jx]at m;rw[m];exact v) c
  ·split at c
   ·rename_i l n
    obtain⟨K,c⟩:=c;exact t l n (λe m r u q v=>by simp only[jx]at m;exact m.Vj (by rw[q];exact K) v) (by rw[<-n];exact c)
   ·exact c.elim
 ·rename_i o g w k
  obtain⟨q,c⟩:=eS.out c;obtain⟨d,j,c⟩:=Sa.out (fY.out q) c;exact⟨d,c,.inl λe=>i (Instr.indexAt o (ev T O g) (ev T O w)) d e (λb=>by simp[execOp,k]) (j _)⟩
 ·rename_i o g L M N k
  obtain⟨q,c⟩:=eS.out c;obtain⟨d,j,c⟩:=Sb.out (λO P=>fY.out q O (.inl P)) c;exact⟨d,c,.inl λe=>i (Instr.sliceAt o (ev T O g) (L.map (ev T O)) (M.map (ev T O)) (N.map (ev T O))) d e (λb=>by simp[execOp,k]) (j _)⟩
 ·rename_i g k
  unfold Np at c;split at c
  ·rename_i l x
   obtain⟨r,y,rfl,c⟩:=c;exact⟨_,c,.inl λe=>i (.pure (.pointer (some ⟨r,y,none⟩))) _ e (λb=>by simp[execOp,k,x]) rfl⟩
  ·rename_i R first z x
   exact⟨_,c,.inl λe=>i (.pure (.func (.func R) first z)) _ e (λb=>by simp[execOp,k,x]) rfl⟩
  ·exact c.elim
 ·rename_i o g w k
  split at c
  ·rename_i A
   obtain⟨d,j,c⟩:=FF.out A c;exact⟨d,c,.inl λe=>i (Instr.index o (ev T O g) (ev T O w)) d e (λb=>by simp[execOp,k]) (j _)⟩
  ·exact c.elim
 ·split at c
  ·rename_i p s
   split at c
   ·obtain⟨d,j,c⟩:=tD.out c
    refine⟨d,c,?_⟩;split at j
    ·exact .inl λe=>i p d e (λb=>iM s h b) (j e)
    ·rename_i U
     refine .inr ⟨U,λe m=>i p d e (λb=>iM s h b) ?_⟩
     cases I with
     |true=>exact j e m
     |false=>simp only[jx]at m;rw[m];exact j
   ·split at c
    ·rename_i d j
     exact⟨d,c,.inl λe=>i p d e (λb=>iM s h b) (wR j _)⟩
    ·exact c.elim
  ·exact c.elim
def nV(f:Array Oper)(g:Oper)(h:bG)(c:cC)(d a:cC->Prop):Prop:=match g.guard with
 |none=>d c
 |some (i,b)=>match jb f i with
  |none=>False
  |some e=>match get h c e with
   | .bool j=>al j
    (match b with
     |true=>d ((e,.bool true)::c)
     |false=>a ((e,.bool true)::c))
    (match b with
     |true=>a ((e,.bool false)::c)
     |false=>d ((e,.bool false)::c))
   | .tuple _=>a c
   |_=>False
def ox:List Nat->(Nat->Prop)->Prop
 |[],_=>True
 |b::c,a=>match c with
  |[]=>a b
  |_=>a b/\ox c a
def ox.out:∀{l:List Nat} {φ:Nat->Prop},ox l φ->∀c∈l,φ c
 |[],_,_,c,a=>by cases a
 |d::e,φ,b,c,a=>by
  unfold ox at b;split at b
  ·simp only[List.mem_singleton]at a
   subst a;exact b
  ·rcases List.mem_cons.1 a with rfl|a
   ·exact b.1
   ·exact ox.out b.2 c a
def VI(e:Program)(b:Array Oper)(c:Bool)(a:Array Bool)(d:Nat):Bool:=
 Region.free .any b a d&&(match lT e b d with
  |0=>true
  |_=>match c with
   |true=>true
   |false=>gZ e b a d)
def nW(d:Program)(b:Array Oper)(c:Bool)(a:Array Bool)(e:Nat):Bool:=match c with
 |false=>false
 |true=>match lT d b e with
  |0=>false
  |_=>!gZ d b a e
def xC(b:Array Oper)(a:Array Bool)(c:Nat)(e:Nat->Bool):Nat->Bool:=match qw b a c with
 |true=>(λM:Array Bool=>λd=>e d||M.getD d false) (lU b c b.size a)
 |false=>λ_=>true
def uS(f:Program)(b:Array Oper)(c:Bool)(a:Array Bool)(d:Nat)(e:Nat->Bool):Nat->Bool:=match nW f b c a d with
 |true=>xC b a d e
 |false=>e
def Kw:∀b,f4 b=true->xC S X a f4 b=true:=by
 intro b c;unfold xC
 cases qw S X a with
 |true=>simp[c]
 |false=>rfl
def Kx:(∀b,xC S X a f4 b=true)\/∃c,Bh S a X c/\∀b,c.getD b false=true->xC S X a f4 b=true:=by
 unfold xC
 cases d:qw S X a with
 |true=>exact .inr ⟨_,HK d,λb e=>by simp only[e,Bool.or_true]⟩
 |false=>exact .inl λ_=>rfl
def uT(h:Program)(i:bG)(b:Array Oper)(c:Bool)(k:Nat->Prop)(m:List PanicEntry->List Deferred->World->Prop)(l:cC->List Deferred->World->Prop):(Nat->Bool)->Nat->Array Bool->cC->List Deferred->World->Prop
 |W,0,a,d,e,f=>eS (Region.ready .any b a).isEmpty (l d e f)
 |W,n+1,a,d,e,f=>match sq h b (Region.ready .any b a)with
  |some g=>eS (VI h b c a g) (match b[g]? with
   |none=>False
   |some j=>nV b j i d (λd=>Sf h i j (nW h b c a g) k (λd=>uT h i b c k m l (uS h b c a g W) n (a.setIfInBounds g true) d e f) d f)
     (λd=>uT h i b c k m l W n (a.setIfInBounds g true) (bT d j.dst undef) e f))
  |none=>match Region.ready .any b a with
   |[]=>l d e f
   |p=>ox p λg=>match b[g]? with
    |none=>False
    |some j=>nV b j i d (λd=>Sd h b i j (λq _ _ e f=>match q with
     | .panic r=>m r e f
     |_=>False) (λd e o=>Tf (c&&W g) k f o (uT h i b c k m l W n (a.setIfInBounds g true) d e o)) d e f)
     (λd=>uT h i b c k m l W n (a.setIfInBounds g true) (bT d j.dst undef) e f)
def nV.out{f d:cC->Prop}(s:∀p g,jb S p=some g->g<a)(j:Rel a T O H)(b:nV S Q T O f d):
  ∃k,Rel a T k H/\(∀h,get T k h=get T O h)/\((Region.wanted Q (yielded S H.tmps)=true/\f k)\/(Region.wanted Q (yielded S H.tmps)=false/\d k)):=by
 unfold nV at b;split at b
 ·rename_i l
  exact⟨O,j,λ_=>rfl,.inl ⟨by simp[Region.wanted,l],b⟩⟩
 ·rename_i p c l
  split at b
  ·exact b.elim
  ·rename_i g r
   have e:=nT j r (s p g r);split at b
   ·rename_i m i
    rw[i]at e;simp only at e;have q:Region.wanted Q (yielded S H.tmps)=(m==c):=by
     simp only[Region.wanted,l,e]
     cases m<;>cases c<;>rfl
    rw[q];have n:=j.again i;have o:∀h,get T ((g,.bool m)::O) h=get T O h:=qU i
    cases m<;>cases c<;>simp only[al]at b
    ·exact⟨_,n,o,.inl ⟨rfl,b⟩⟩
    ·exact⟨_,n,o,.inr ⟨rfl,b⟩⟩
    ·exact⟨_,n,o,.inr ⟨rfl,b⟩⟩
    ·exact⟨_,n,o,.inl ⟨rfl,b⟩⟩
   ·rename_i t i
    rw[i]at e;simp only at e;have q:Region.wanted Q (yielded S H.tmps)=false:=by
     simp[Region.wanted,l,e]
    exact⟨O,j,λ_=>rfl,.inr ⟨q,b⟩⟩
   ·exact b.elim
def jx.refl(a:Bool)(c:Nat->Prop)(b:World):jx a c b b:=by
 cases a with
 |true=>exact⟨rfl,rfl,rfl,Nat.le_refl _,λ_ _ _=>rfl⟩
 |false=>rfl
def ak.chain(a:ak f b l)(c:ak f l b3):ak f b b3:=
 ⟨c.os.trans a.os,c.tape.trans a.tape,c.output.trans a.output,Nat.le_trans a.size c.size,λd e g=>(c.block d (Nat.lt_of_lt_of_le e a.size) g).trans (a.block d e g)⟩
def Bi(e:Nat)(f:bG)(g:cC)(h:List Nat)(i:gX):List PanicEntry->Act->World->Prop:=λj d k=>
 (∃a b,Rel e a b d/\(∀c,c∉h->get a b c=get f g c))/\∀a b,i (.panic j) a b d.defers k
def Bi.Vk{c:Option Tmp}(j:∀b,c=some b->b∈b4)(f:List PanicEntry)(d:Act)(g:World)(e:Bi a T O b4 c5 f (d.put c v) g):Bi a T O b4 c5 f d g:=by
 obtain⟨⟨m,n,h,k⟩,e⟩:=e;refine⟨⟨λb=>d.tmps.getD b undef,[],⟨?_,λb=>rfl⟩,λb i=>?_⟩,by simpa[put_defers]using e⟩
 ·have:=h.size
  cases c<;>simpa[Act.put]using this
 ·rw[<-k b i,<-h.slot]
  cases c with
  |none=>rfl
  |some c=>
   have l:c≠b:=by rintro rfl;exact i (j c rfl)
   show _=(d.tmps.setIfInBounds c v).getD b undef;simp only[Array.getD_eq_getD_getElem?];rw[Array.getElem?_setIfInBounds_ne l];simp[ar.get]
def Bi.post(c:List PanicEntry)(d:Act)(e:World)(b:Bi a T O b4 c5 c d e):cQ a T O b4 c5 (.panic c) d e:=by
 obtain⟨⟨f,g,h,i⟩,b⟩:=b;exact⟨f,g,h,i,b f g⟩
def lr{k:Program}{y:Nat}{n B0:bG}{e0:cC}{W:List Nat}{b:Array Oper}{c:Bool}{z:Nat->Prop}{L:gX}(A:∀p d,jb b p=some d->d<y)(t:Region.noSelect b=true)(u:∀g∈b.toList,∀s,g.dst=some s->s<y/\s∈W):
  ∀(V:Nat->Bool) (q:Nat) (a:Array Bool) (l:cC) (j:Act) (h:World),Rel y n l j->(∀d,d∉W->get n l d=get B0 e0 d)->
   uT k n b c z (λF Y h=>∀n l,L (.panic F) n l Y h) (λl Y h=>L .normal n l Y h) V q a l j.defers h->Te k b c (Bi y B0 e0 W L) (λp=>V p=true) (cQ y B0 e0 W L .normal) q (jx c z h) a j h
 |V,0,a,l,j,h,O,B,e=>by
  obtain⟨M,P⟩:=eS.out e;exact⟨by simpa using M,n,l,O,B,P⟩
 |V,q+1,a,l,j,h,O,B,e=>by
  have S:∀{f:Nat} {g:Oper},b[f]? =some g->∀(o:Value) (F:List PanicEntry) (j:Act) (h:World),Bi y B0 e0 W L F (j.put g.dst o) h->Bi y B0 e0 W L F j h:=by
   intro f g i o F j h;have N:g∈b.toList:=by
    obtain⟨b0,rfl⟩:=Array.getElem?_eq_some_iff.1 i;simp
   exact Bi.Vk (λd v=>(u g N d v).2) F j h
  have a5:∀{f:Nat} {g:Oper},b[f]? =some g->(∀s,g.dst=some s->s<y)/\∀(l:cC),(∀d,d∉W->get n l d=get B0 e0 d)->∀o d,d∉W->get n (bT l g.dst o) d=get B0 e0 d:=by
   intro f g i;have N:g∈b.toList:=by
    obtain⟨b0,rfl⟩:=Array.getElem?_eq_some_iff.1 i;simp
   refine⟨λs w=>(u g N s w).1,λl B o d v=>?_⟩
   cases w:g.dst with
   |none=>exact B d v
   |some s=>
    have b1:=(u g N s w).2;show get n ((s,o)::l) d=_;rw[dH,if_neg (by rintro rfl;exact v b1)];exact B d v
  unfold uT at e;split at e
  ·rename_i f H
   obtain⟨T,U⟩:=tG H;obtain⟨a6,e⟩:=eS.out e;split at e
   ·exact e.elim
   ·rename_i g i
    obtain⟨w,I⟩:=a5 i;simp only[VI,Bool.and_eq_true]at a6;obtain⟨b2,Z⟩:=a6;have X:=Region.free_spec i b2;obtain⟨r,m,a3,a0⟩:=nV.out A O e;have C:∀d,d∉W->get n r d=get B0 e0 d:=λd v=>(a3 d).trans (B d v);rcases a0 with⟨J,e⟩|⟨J,e⟩
    ·obtain⟨o,x,E⟩:=PV m J e
     have a1:∀p,V p=true->uS k b c a f V p=true:=by
      intro p hj;unfold uS
      cases nW k b c a f with
      |true=>exact Kw p hj
      |false=>exact hj
     have next:=lr A t u (uS k b c a f V) q (a.setIfInBounds f true) (bT r g.dst o) (j.put g.dst o) h (m.put _ w _) (I r C o) (by rw[put_defers];exact x);rcases E with E|⟨Q,E⟩
     ·exact qV a1 (S i _) i U (Region.noSelect_spec t) (λ_=>True) q _ a j h X T (λa2 _=>E a2) trivial (jx.refl ..) (.inl λ_=>trivial) next
     ·have a7:lT k b f=kindOf k g:=by simp[lT,i]
      rw[a7]at Z;have b3:(nW k b c a f=true/\c=true)\/(nW k b c a f=false/\gZ k b a f=true):=by
       cases c with
       |false=>
        right;refine⟨rfl,?_⟩;split at Z
        ·rename_i R;exact absurd R Q
        ·simpa using Z
       |true=>
        have N:nW k b true a f= !gZ k b a f:=by
         unfold nW;rw[a7];generalize kindOf k g=a8 at Q
         cases a8 with
         |zero=>exact absurd rfl Q
         |succ a8=>rfl
        rw[N]
        cases hb:gZ k b a f with
        |true=>right;simp
        |false=>left;simp
      rcases b3 with⟨M,P⟩|⟨M,P⟩
      ·rw[M]at E
       subst P;have hg:(∀p,uS k b true a f V p=true)\/∃a9,Bh b f a a9/\∀p,a9.getD p false=true->uS k b true a f V p=true:=by
        unfold uS;rw[M];exact Kx
       exact qV a1 (S i _) i U (Region.noSelect_spec t) (jx true z h) q _ a j h X T E (jx.refl ..) (jx.refl ..) (.inr (.inl ⟨rfl,λ_ e=>e,hg⟩)) next
      ·rw[M]at E
       exact qV a1 (S i _) i U (Region.noSelect_spec t) (jx false z h) q _ a j h X T E (jx.refl ..) (jx.refl ..) (.inr (.inr (CE P))) next
    ·have next:=lr A t u V q (a.setIfInBounds f true) (bT r g.dst undef) (j.put g.dst undef) h (m.put _ w _) (I r C _) (by rw[put_defers];exact e)
     exact qV (λ_ e=>e) (S i _) i U (Region.noSelect_spec t) (λ_=>True) q _ a j h X T (λa2 _=>.inr ⟨J,rfl⟩) trivial (jx.refl ..) (.inl λ_=>trivial) next
  ·rename_i hn
   have b4:=Bg hn;split at e
   ·rename_i R
    exact⟨λ_=>⟨n,l,O,B,e⟩,λf H=>(by rw[R]at H;cases H)⟩
   ·rename_i b5
    refine⟨λR=>absurd R (by simpa using b5),λf H=>⟨λhs=>(by rw[b4 f H]at hs;cases hs),λ_=>?_⟩⟩;have e:=ox.out e f H;split at e
    ·exact e.elim
    ·rename_i g i
     obtain⟨w,I⟩:=a5 i;obtain⟨r,m,a3,a0⟩:=nV.out A O e;have C:∀d,d∉W->get n r d=get B0 e0 d:=λd v=>(a3 d).trans (B d v);unfold wpOp;simp only[i];rcases a0 with⟨J,e⟩|⟨J,e⟩
     ·rw[if_pos J]
      refine .inl (Kv m w e (λo a' K a4 x=>?_) λF K hq=>⟨⟨n,r,m,C⟩,hq⟩)
      cases c with
      |true=>
       cases hV:V f with
       |true=>
        rw[hV]at x;obtain⟨Q,x⟩:=x;exact⟨jx true z K,λ_ _ a2 hx=>Q.chain hx,jx.refl ..,lr A t u V q _ _ a' K a4 (I r C o) x⟩
       |false=>
        rw[hV]at x;exact⟨jx true z K,λ_ e=>(by cases e),jx.refl ..,lr A t u V q _ _ a' K a4 (I r C o) x⟩
      |false=>exact⟨jx false z K,λe=>(by cases e),jx.refl ..,lr A t u V q _ _ a' K a4 (I r C o) x⟩
     ·rw[if_neg (by rw[J];simp)]
      exact⟨jx c z h,λ_ _ _ e=>e,jx.refl ..,lr A t u V q _ _ (j.put g.dst undef) h (m.put _ w _) (I r C _) (by rw[put_defers];exact e)⟩
structure gF where
 aP:List Nat
 T_:List Nat
 kinds:List Nat
def bit(a:Nat):Nat:=Nat.shiftLeft 1 a
def LP(c:Oper):Nat:=c.after.foldl (λa b=>match Region.binds .any b with|true=>Nat.lor a (bit b.on)|false=>a) 0
def Ky(a:Array Oper)(b:Nat):Nat:=(List.range a.size).foldl (λd c=>match Nat.beq c b||(match a[b]?,a[c]? with
 |some B,some e=>e.after.any (λf=>Region.binds .any f&&f.on==b)||B.apart a e
 |_,none=>true
 |none,_=>false)with|true=>Nat.lor d (bit c)|false=>d) 0
def Ns:List Nat->List Nat->Bool
 |[],[]=>true
 |a::b,c::d=>Nat.beq a c&&Ns b d
 |_,_=>false
def gF.ok(c:Program)(a:Array Oper)(b:gF):Bool:=
 Ns b.aP (a.toList.map LP)&&Ns b.T_ ((List.range a.size).map (Ky a))&&Ns b.kinds (a.toList.map (kindOf c))
def hasB(a b:Nat):Bool:=Nat.testBit a b
def g_(b:gF)(d c:Nat):List Nat:=(List.range d).filter λa=>!hasB c a&&Nat.beq (Nat.land (b.aP.getD a 0) c) (b.aP.getD a 0)
def FJ(a:gF)(b:Nat):Bool:=!Nat.beq (a.kinds.getD b 2) 2
def HL(a:gF):List Nat->Option Nat
 |[]=>none
 |b::c=>match FJ a b with
  |true=>some b
  |false=>HL a c
def wS(c:gF)(d e:Nat):Nat->Nat->Nat
 |0,a=>a
 |f+1,a=>match(g_ c d a).find? (λb=>!Nat.beq b e)with
  |some b=>wS c d e f (Nat.lor a (bit b))
  |none=>a
def xD(a b:Nat):(bit a).testBit b=decide (a=b):=by
 unfold bit;show(1<<<a).testBit b=_;rw[Nat.one_shiftLeft,Nat.testBit_two_pow]
def nX{g:Type}(c:g->Bool)(d:g->Nat)(b:Nat):∀(f:List g) (a:Nat),(f.foldl (λa e=>match c e with|true=>Nat.lor a (bit (d e))|false=>a) a).testBit b=(a.testBit b||f.any λe=>c e&&d e==b)
 |[],a=>by simp
 |e::f,a=>by
  rw[List.foldl_cons,nX c d b f]
  cases h:c e with
  |false=>simp[h]
  |true=>
   simp only[h,List.any_cons,Bool.true_and];show((a|||bit (d e)).testBit b||_)=_;rw[Nat.testBit_or,xD,Bool.or_assoc]
   congr 2
def xE(c:Oper)(b:Nat):(LP c).testBit b=c.after.any λa=>Region.binds .any a&&a.on==b:=by
 unfold LP;rw[<-Array.foldl_toList,nX (λa=>Region.binds .any a) (λa=>a.on) b];simp
def land_eq:Nat.beq (Nat.land a c) a=true↔∀b,a.testBit b=true->c.testBit b=true:=by
 constructor
 ·intro d b e
  have d:=Nat.eq_of_beq_eq_true d;have:(a&&&c).testBit b=true:=by
   show(Nat.land a c).testBit b=true;rw[d];exact e
  rw[Nat.testBit_and]at this;simp at this;exact this.2
 ·intro d
  have:a&&&c=a:=by
   apply Nat.eq_of_testBit_eq;intro b;rw[Nat.testBit_and]
   cases f:a.testBit b with
   |false=>rfl
   |true=>rw[d b f];rfl
  show Nat.beq (a&&&c) a=true;rw[this];exact Nat.beq_refl a
def Ns.out:∀{l c:List Nat},Ns l c=true->l=c
 |[],[],_=>rfl
 |[],_::_,b=>by cases b
 |_::_,[],b=>by cases b
 |a::l,d::c,b=>by
  simp only[Ns,Bool.and_eq_true]at b;rw[Nat.eq_of_beq_eq_true b.1,Ns.out b.2]
structure FK (listed:Array Bool) (n N:Nat):Prop where
 size:listed.size=n
 bit:∀i,listed.getD i false=N.testBit i
def FK.set(b:FK X a c)(f:i<a):FK (X.setIfInBounds i true) a (Nat.lor c (ar.bit i)):=by
 refine⟨by simp[b.size],λd=>?_⟩;show _=(c|||ar.bit i).testBit d;rw[Nat.testBit_or,xD,<-b.bit d]
 by_cases e:i=d
 ·subst e
  have:i<X.size:=by rw[b.size];exact f
  simp[this]
 ·rw[getD_set_ne false e];simp[e]
variable{b7:gF}
def qx(g:b7.ok h S=true)(f:FK X S.size a):Region.ready .any S X=g_ b7 S.size a:=by
 unfold gF.ok at g;simp only[Bool.and_eq_true]at g;have l:=Ns.out g.1.1;unfold Region.ready g_;refine List.filter_congr λb c=>?_;have c:=List.mem_range.1 c;have m:X.getD b true=a.testBit b:=by
  rw[<-f.bit b];have:b<X.size:=by rw[f.size];exact c
  simp[this]
 have n:b7.aP.getD b 0=LP S[b]:=by
  rw[l];simp[c]
 rw[m,n,Array.getElem?_eq_getElem c];simp only[Option.map_some,Option.getD_some,hasB]
 congr 1
 rw[Bool.eq_iff_iff,land_eq];rw[Array.all_eq_true_iff_forall_mem];constructor
 ·intro i o k
  rw[xE]at k;obtain⟨d,j,e⟩:=Array.any_eq_true'.1 k;simp only[Bool.and_eq_true,beq_iff_eq]at e;have:=i d j;rw[e.1,f.bit,e.2]at this;simpa using this
 ·intro i d j
  cases e:Region.binds .any d with
  |false=>rfl
  |true=>
   rw[f.bit];have:=i d.on (by rw[xE];exact Array.any_eq_true'.2 ⟨d,j,by simp[e]⟩);simp[this]
def uU(b:b7.ok h S=true)(c:a<S.size):b7.kinds.getD a 2=lT h S a/\FJ b7 a=fx h S a:=by
 unfold gF.ok at b;simp only[Bool.and_eq_true]at b;have e:=Ns.out b.2;have d:b7.kinds.getD a 2=lT h S a:=by
  rw[e];unfold lT;rw[Array.getElem?_eq_getElem c];simp[c]
 refine⟨d,?_⟩;unfold FJ fx;rw[d];generalize lT h S a=k
 match k with
 |0=>rfl
 |1=>rfl
 |2=>rfl
 |k+3=>rfl
def LQ{c:Program}{a:Array Oper}{e:gF}(f:e.ok c a=true):∀(d:List Nat),(∀b∈d,b<a.size)->HL e d=sq c a d
 |[],_=>rfl
 |b::h,g=>by
  unfold HL sq;rw[(uU f (g b (List.mem_cons_self ..))).2,LQ f h λi j=>g i (List.mem_cons_of_mem _ j)]
  try(cases fx c a b<;>rfl)
def uV(b:i∈g_ b7 a c):i<a:=List.mem_range.1 (List.mem_filter.1 b).1
def uW{j:Program}{b:Array Oper}{g:gF}(h:g.ok j b=true)(d:Nat):∀(f:Nat) {a:Array Bool} {e:Nat},FK a b.size e->FK (lU b d f a) b.size (wS g b.size d f e)
 |0,_,_,c=>c
 |f+1,a,e,c=>by
  unfold lU wS;rw[qx h c]
  cases k:(g_ g b.size e).find? (λi=>!Nat.beq i d)with
  |some i=>exact uW h d f (c.set (uV (List.mem_of_find?_eq_some k)))
  |none=>exact c
def uX(c:gF)(b f d:Nat):Bool:=
 (λe:Nat=>!hasB e d&&(g_ c b e).all (λa=>Nat.beq a d)&&(List.range b).all λa=>!hasB e a||FJ c a||hasB f a) (wS c b d b f)
def FK.Vl(b:FK X a c)(d:i<a):X.getD i true=c.testBit i:=by
 rw[<-b.bit i];have:i<X.size:=by rw[b.size];exact d
 simp[this]
def Bj(b:b7.ok h S=true)(e:FK X S.size a)(f:c<S.size):uX b7 S.size a c=gZ h S X c:=by
 have d:=uW b c S.size e;unfold uX gZ;simp only;rw[qx b d,d.Vl f]
 congr 1
 rw[Bool.eq_iff_iff,List.all_eq_true,List.all_eq_true];refine forall_congr' λi=>forall_congr' λg=>?_;rw[(uU b (List.mem_range.1 g)).2,d.bit,e.bit]
 rfl
def PW(b:gF)(c d e:Nat):Bool:=(List.range c).all λa=>hasB (b.T_.getD e 0) a||hasB d a
def Sg(g:b7.ok h S=true)(m:FK X S.size a)(i:c<S.size):PW b7 S.size a c=Region.free .any S X c:=by
 unfold gF.ok at g;simp only[Bool.and_eq_true]at g;have n:=Ns.out g.1.2;have e:b7.T_.getD c 0=Ky S c:=by rw[n];simp[i]
 unfold PW Region.free;rw[e,Array.getElem?_eq_getElem i];simp only;rw[Bool.eq_iff_iff,List.all_eq_true,List.all_eq_true];refine forall_congr' λb=>forall_congr' λf=>?_;have f:=List.mem_range.1 f;rw[m.Vl f,Array.getElem?_eq_getElem f];unfold hasB Ky;rw[nX (λb=>Nat.beq b c||(match S[c]?,S[b]? with
  |some H,some l=>l.after.any (λe=>Region.binds .any e&&e.on==c)||H.apart S l
  |_,none=>true
  |none,_=>false)) (λb=>b) b]
 rw[Nat.zero_testBit,Bool.false_or];have d:∀j:Nat->Bool,((List.range S.size).any λe=>j e&&e==b)=j b:=λj=>by
  rw[Bool.eq_iff_iff,List.any_eq_true];constructor
  ·rintro⟨q,_,k⟩
   simp only[Bool.and_eq_true,beq_iff_eq]at k;rw[<-k.2];exact k.1
  ·intro o
   exact⟨b,List.mem_range.2 f,by simp[o]⟩
 rw[d];simp only[Array.getElem?_eq_getElem i,Array.getElem?_eq_getElem f];have p:(Nat.beq b c)=(b==c):=by rw[Bool.eq_iff_iff,Nat.beq_eq,beq_iff_eq]
 rw[p]
 cases(b==c)<;>cases a.testBit b<;>simp
def WJ(b:gF)(a:Bool)(d e c:Nat):Bool:=
 PW b d e c&&(match b.kinds.getD c 2 with
  |0=>true
  |_=>match a with
   |true=>true
   |false=>uX b d e c)
def LR(b:gF)(a:Bool)(d e c:Nat):Bool:=match a with
 |false=>false
 |true=>match b.kinds.getD c 2 with
  |0=>false
  |_=>!uX b d e c
def Kz(b:gF)(a d c:Nat):Bool:=(λe:Nat=>(g_ b a e).all (λf=>Nat.beq f c)) (wS b a c a d)
def PX(b:gF)(a c d:Nat)(f:Nat->Bool):Nat->Bool:=match Kz b a c d with
 |true=>(λg:Nat=>λe=>f e||hasB g e) (wS b a d a c)
 |false=>λ_=>true
def PY(b:gF)(a:Bool)(c d e:Nat)(f:Nat->Bool):Nat->Bool:=match LR b a c d e with
 |true=>PX b c d e f
 |false=>f
def PZ(b:b7.ok h S=true)(d:FK X S.size a):Kz b7 S.size a c=qw S X c:=by
 have e:=uW b c S.size d;unfold Kz qw;simp only;rw[qx b e]
def Sh(b:b7.ok h S=true)(d:FK X S.size a):PX b7 S.size a c f4=xC S X c f4:=by
 have e:=uW b c S.size d;unfold PX xC;rw[PZ b d]
 cases qw S X c
 ·rfl
 ·simp only
  funext j
  rw[e.bit]
  rfl
def sr(l:Program)(j:bG)(b:Array Oper)(d:gF)(i:Nat)(a:Bool)(m:Nat->Prop)(o:List PanicEntry->List Deferred->World->Prop)(n:cC->List Deferred->World->Prop):(Nat->Bool)->Nat->Nat->cC->List Deferred->World->Prop
 |W,0,e,c,f,g=>eS (g_ d i e).isEmpty (n c f g)
 |W,p+1,e,c,f,g=>match HL d (g_ d i e)with
  |some h=>eS (WJ d a i e h) (match b[h]? with
   |none=>False
   |some k=>nV b k j c (λc=>Sf l j k (LR d a i e h) m (λc=>sr l j b d i a m o n (PY d a i e h W) p (Nat.lor e (bit h)) c f g) c g)
     (λc=>sr l j b d i a m o n W p (Nat.lor e (bit h)) (bT c k.dst undef) f g))
  |none=>match g_ d i e with
   |[]=>n c f g
   |r=>ox r λh=>match b[h]? with
    |none=>False
    |some k=>nV b k j c (λc=>Sd l b j k (λs _ _ f g=>match s with
     | .panic t=>o t f g
     |_=>False) (λc f q=>Tf (a&&W h) m g q (sr l j b d i a m o n W p (Nat.lor e (bit h)) c f q)) c f g)
     (λc=>sr l j b d i a m o n W p (Nat.lor e (bit h)) (bT c k.dst undef) f g)
def xF{d e:Nat->Prop}:∀{c:List Nat},(∀a∈c,d a=e a)->ox c d=ox c e
 |[],_=>rfl
 |[a],b=>by
  unfold ox;exact b a (List.mem_cons_self ..)
 |a::h::i,b=>by
  unfold ox;rw[b a (List.mem_cons_self ..),xF λf g=>b f (List.mem_cons_of_mem _ g)]
def qy{h:Program}{m:bG}{a:Array Oper}{i:gF}(j:i.ok h a=true){c:Bool}{n:Nat->Prop}{o:List PanicEntry->List Deferred->World->Prop}{p:cC->List Deferred->World->Prop}:∀(W:Nat->Bool) (l:Nat) {b:Array Bool} {g:Nat},FK b a.size g->
  sr h m a i a.size c n o p W l g=uT h m a c n o p W l b
 |W,0,b,g,k=>by
  funext e ds w
  unfold sr uT;rw[qx j k]
 |W,l+1,b,g,k=>by
  have q:∀W d,d<a.size->sr h m a i a.size c n o p W l (Nat.lor g (bit d))=uT h m a c n o p W l (b.setIfInBounds d true):=λW d f=>qy j W l (k.set f);have s:HL i (g_ i a.size g)=sq h a (g_ i a.size g):=LQ j _ λd f=>uV f
  funext e ds w
  unfold sr uT;rw[qx j k,s]
  cases t:sq h a (g_ i a.size g)with
  |some d=>
   have f:d<a.size:=uV (tG t).1;have u:WJ i c a.size g d=VI h a c b d:=by
    unfold WJ VI;rw[Sg j k f,(uU j f).1,Bj j k f]
    try(cases lT h a d<;>cases c<;>rfl)
   have r:LR i c a.size g d=nW h a c b d:=by
    unfold LR nW;rw[(uU j f).1,Bj j k f]
   have v:PY i c a.size g d W=uS h a c b d W:=by
    unfold PY uS;rw[r,Sh j k]
   simp only[u,r,v,q _ d f]
   try(cases a[d]? <;>rfl)
  |none=>
   cases x:g_ i a.size g with
   |nil=>rfl
   |cons y z=>
    simp only;refine xF λd f=>?_;have f:d<a.size:=uV (by rw[x];exact f);simp only[q _ d f]
    try(cases a[d]? <;>rfl)
def Tg(b:List (Nat×gF))(a:Nat):Option gF:=match b with
 |[]=>none
 |(c,d)::e=>match Nat.beq c a with
  |true=>some d
  |false=>Tg e a
def FK.init(a:Nat):FK (Array.replicate a false) a 0:=⟨by simp,λc=>by
 rw[Nat.zero_testBit]
 by_cases b:c<a
 ·simp[b]
 ·simp[b]⟩
def key:Code->Option Nat
 | .region id _ _=>some id
 | .seq b c=>match key b with
  |some d=>some d
  |none=>key c
 | .cond _ b c=>match key b with
  |some d=>some d
  |none=>key c
 | .block _ a=>key a
 | .loop a=>key a
 | .scope a=>key a
 |_=>none
def DG:List Oper->List Nat
 |[]=>[]
 |b::a=>match b.dst with
  |some c=>c::DG a
  |none=>DG a
def writes:Code->List Nat
 | .region _ b _=>DG b.toList
 | .seq c d=>writes c++writes d
 | .cond _ c d=>writes c++writes d
 | .block _ a=>writes a
 | .loop a=>writes a
 | .scope a=>writes a
 |_=>[]
def jS{c:List Oper}(b:Q∈c)(d:Q.dst=some a):a∈DG c:=by
 induction c with
 |nil=>cases b
 |cons f g e=>
  unfold DG
  cases b with
  |head=>rw[d];exact List.mem_cons_self ..
  |tail _ b=>split<;>simp[e b]
structure ft where
 loops:List (Nat×List (Nat×Value))
 PF:List (Nat×List (Nat×Value))
 keeps:List Nat
 PE:List Nat
 Vm:List (Nat×gF)
def Nt(b:List (Nat×List (Nat×Value)))(a:Option Nat):Option (List (Nat×Value)):=match a with
 |none=>none
 |some a=>match b with
  |[]=>none
  |(c,d)::e=>match Nat.beq c a with
   |true=>some d
   |false=>Nt e (some a)
def CF(b:List Nat)(a:Nat):Bool:=match b with
 |[]=>false
 |d::c=>match Nat.beq d a with
  |true=>true
  |false=>CF c a
def eu(b:List Nat):cC->(cC->Prop)->Prop
 |[],a=>a []
 |(c,e)::d,a=>match CF b c with
  |true=>eu b d a
  |false=>eu b d λf=>a ((c,e)::f)
def Fn:List Value->Type->Type
 |[],a=>a
 |z::b,a=>match z with
  | .int _ _=>Int->Fn b a
  | .bool _=>Bool->Fn b a
  | .string _=>ByteArray->Fn b a
  | .slice _ _ _=>Option Addr->Nat->Nat->Fn b a
  | .pointer (some _)=>Nat->Nat->Fn b a
  | .pointer none=>Option Addr->Fn b a
  | .map _=>Option Nat->Fn b a
  |_=>Value->Fn b a
def ap:(b:List Value)->Fn b (World->Prop)->List Value->World->Prop
 |[],a,_,c=>a c
 |z::b,a,d,c=>match d with
  |[]=>False
  |v::d=>match z,a with
   | .int g _,a=>match v with
    | .int h e=>eS (decide (h=g)) (ap b (a e) d c)
    |_=>False
   | .bool _,a=>match v with
    | .bool f=>ap b (a f) d c
    |_=>False
   | .string _,a=>match v with
    | .string i=>ap b (a i) d c
    |_=>False
   | .slice _ _ _,a=>match v with
    | .slice j e k=>ap b (a j e k) d c
    |_=>False
   | .pointer (some _),a=>match v with
    | .pointer (some ⟨f,l,none⟩)=>ap b (a f l) d c
    |_=>False
   | .pointer none,a=>match v with
    | .pointer m=>ap b (a m) d c
    |_=>False
   | .map _,a=>match v with
    | .map n=>ap b (a n) d c
    |_=>False
   | .float _ _,a=>ap b (a v) d c
   | .complex _ _ _,a=>ap b (a v) d c
   | .chan _,a=>ap b (a v) d c
   | .func _ _ _,a=>ap b (a v) d c
   | .nilFunc,a=>ap b (a v) d c
   | .iface _ _,a=>ap b (a v) d c
   | .nilIface,a=>ap b (a v) d c
   | .agg _,a=>ap b (a v) d c
   | .tuple _,a=>ap b (a v) d c
def lV:List Value->(List Value->Prop)->Prop
 |[],b=>b []
 |z::c,b=>match z with
  | .int f _=>∀d,lV c λa=>b (.int f d::a)
  | .bool _=>∀e,lV c λa=>b (.bool e::a)
  | .string _=>∀g,lV c λa=>b (.string g::a)
  | .slice _ _ _=>∀h d i,lV c λa=>b (.slice h d i::a)
  | .pointer (some _)=>∀e j,lV c λa=>b (.pointer (some ⟨e,j,none⟩)::a)
  | .pointer none=>∀k,lV c λa=>b (.pointer k::a)
  | .map _=>∀l,lV c λa=>b (.map l::a)
  |_=>∀m,lV c λa=>b (m::a)
def ap.all:∀{h:List Value} {j:Fn h (World->Prop)} {f:List Value} {l:World} {φ:List Value->Prop},f.length=h.length->ap h j f l->lV h φ->φ f
 |[],j,f,l,φ,i,_,e=>by
  cases f with
  |nil=>exact e
  |cons g f=>simp at i
 |z::h,j,f,l,φ,i,a,e=>by
  cases f with
  |nil=>simp at i
  |cons g f=>
   have c:f.length=h.length:=by simpa using i
   cases z
   case pointer s=>
    cases s with
    |none=>
     simp only[lV]at e
     cases g<;>try exact a.elim
     rename_i b;exact ap.all (φ:=λd=>φ (.pointer b::d)) c a (e b)
    |some _=>
     simp only[lV]at e
     cases g<;>try exact a.elim
     rename_i b
     cases b with
     |none=>exact a.elim
     |some b=>
      obtain⟨m,n,o⟩:=b
      cases o with
      |some o=>exact a.elim
      |none=>exact ap.all (φ:=λd=>φ (.pointer (some ⟨m,n,none⟩)::d)) c a (e m n)
   all_goals simp only[lV]at e
   case int k _=>
    cases g<;>try exact a.elim
    rename_i t p;obtain⟨u,a⟩:=eS.out a;obtain rfl:=of_decide_eq_true u;exact ap.all (φ:=λd=>φ (.int t p::d)) c a (e p)
   case bool=>
    cases g<;>try exact a.elim
    rename_i b;exact ap.all (φ:=λd=>φ (.bool b::d)) c a (e b)
   case string=>
    cases g<;>try exact a.elim
    rename_i b;exact ap.all (φ:=λd=>φ (.string b::d)) c a (e b)
   case slice=>
    cases g<;>try exact a.elim
    rename_i b q r;exact ap.all (φ:=λd=>φ (.slice b q r::d)) c a (e b q r)
   case map=>
    cases g<;>try exact a.elim
    rename_i b;exact ap.all (φ:=λd=>φ (.map b::d)) c a (e b)
   all_goals exact ap.all (φ:=λd=>φ (g::d)) c a (e g)
def HM:CF b4 a=true↔a∈b4:=by
 induction b4 with
 |nil=>simp[CF]
 |cons b d c=>
  unfold CF
  cases h:Nat.beq b a with
  |true=>
   have:=Nat.eq_of_beq_eq_true h;simp[this]
  |false=>
   have:b≠a:=by rintro rfl;simp at h
   simp only[c,List.mem_cons];constructor
   ·exact .inr
   ·rintro(rfl|h)
    ·exact absurd rfl this
    ·exact h
def eu.out{f:List Nat}:∀{m:cC} {h:cC->Prop},eu f m h->∃d,(∀b a,a∉f->get b d a=get b m a)/\(∀b a,a∈f->get b d a=b a)/\h d
 |[],h,c=>⟨[],λ_ _ _=>rfl,λ_ _ _=>rfl,c⟩
 |(j,n)::o,h,c=>by
  unfold eu at c;split at c
  ·rename_i i
   have g:j∈f:=HM.1 i;obtain⟨d,k,l,c⟩:=eu.out c;refine⟨d,λb a e=>?_,l,c⟩;rw[k b a e,dH,if_neg (by rintro rfl;exact e g)]
  ·rename_i i
   have g:j∉f:=λg=>by rw[HM.2 g]at i;cases i
   obtain⟨d,k,l,c⟩:=eu.out c;refine⟨(j,n)::d,λb a e=>?_,λb a e=>?_,c⟩
   ·rw[dH,dH,k b a e]
   ·rw[dH,if_neg (by rintro rfl;exact g e),l b a e]
def h_:List (Nat×Value)->List Value
 |[]=>[]
 |(_,a)::b=>a::h_ b
def yN(a:bG)(b:cC):List (Nat×Value)->List Value
 |[]=>[]
 |(c,_)::d=>get a b c::yN a b d
def xG:List (Nat×Value)->List Value->cC->cC
 |(b,_)::c,d::e,a=>(b,d)::xG c e a
 |_,_,a=>a
def je(a:bG)(b:cC):∀c,(yN a b c).length=(h_ c).length
 |[]=>rfl
 |(_,_)::d=>by simp[yN,h_,je a b d]
def DH(c:bG)(b:Nat->Value)(d:cC):∀(h:List (Nat×Value)) (a:Nat),(∀i,get c d i=b i)->get c (xG h (h.map λe=>b e.1) d) a=b a
 |[],a,f=>f a
 |(j,l)::g,a,f=>by
  show get c ((j,b j)::xG g (g.map λe=>b e.1) d) a=_;rw[dH];split
  ·rename_i k;rw[k]
  ·exact DH c b d g a f
def zi(a:bG)(b:cC):∀c,yN a b c=c.map λd=>get a b d.1
 |[]=>rfl
 |(_,_)::e=>by simp[yN,zi a b e]
def Bk(a b:List Deferred)(c:Prop):Prop:=match a,b with
 |[],[]=>c
 |a,b=>a=b/\c
def Bk.out{a c:List Deferred}(b:Bk a c L):a=c/\L:=by
 unfold Bk at b;split at b
 ·exact⟨rfl,b⟩
 ·exact b
def Bl(f:bG->cC->List Deferred->World->Prop)(e:gX):gX:=λg a b c d=>match g with
 | .normal=>f a b c d
 | .exit id=>e (.exit id) a b c d
 | .goto h=>e (.goto h) a b c d
 | .ret=>e .ret a b c d
 | .panic i=>e (.panic i) a b c d
 | .outgrown=>False
def wT(id:Nat)(a:gX):gX:=λg b c d e=>match g with
 | .exit f=>match Nat.beq f id with
  |true=>a .normal b c d e
  |false=>a (.exit f) b c d e
 | .normal=>a .normal b c d e
 | .goto h=>a (.goto h) b c d e
 | .ret=>a .ret b c d e
 | .panic i=>a (.panic i) b c d e
 | .outgrown=>False
def FL(a:gX):gX:=λx b c d e=>match x with
 | .goto _=>False
 |x=>a x b c d e
def D(i:Program)(j:ft):Code->gX->bG->cC->List Deferred->World->Prop
 | .skip,f,d,a,b,c=>f .normal d a b c
 | .label _,f,d,a,b,c=>f .normal d a b c
 | .exit id,f,d,a,b,c=>f (.exit id) d a b c
 | .ret,f,d,a,b,c=>f .ret d a b c
 | .region id e o,f,d,a,b,c=>match o with
  |false=>Be i d e f e.toList (λa b c=>f .normal d a b c) a b c
  |true=>match LO i e.toList with
   |false=>eS (Region.lexB .any e) (sk i d e e.toList (λa=>∀g,bd c g->f .normal d a b g) a c)
   |true=>eS (Region.noSelect e) (match Tg j.Vm id with
    |none=>match CF j.keeps id with
     |true=>∀g,bd c g->∃h:Nat->Prop,uT i d e true h (λl b c=>∀d a,f (.panic l) d a b c) (λa b c=>f .normal d a b c) (λ_=>!CF j.PE id) e.size (Array.replicate e.size false) a b g
     |false=>∀g,bd c g->uT i d e false (λ_=>False) (λl b c=>∀d a,f (.panic l) d a b c) (λa b c=>f .normal d a b c) (λ_=>true) e.size (Array.replicate e.size false) a b g
    |some t=>eS (t.ok i e) (match CF j.keeps id with
     |true=>∀g,bd c g->∃h:Nat->Prop,sr i d e t e.size true h (λl b c=>∀d a,f (.panic l) d a b c) (λa b c=>f .normal d a b c) (λ_=>!CF j.PE id) e.size 0 a b g
     |false=>∀g,bd c g->sr i d e t e.size false (λ_=>False) (λl b c=>∀d a,f (.panic l) d a b c) (λa b c=>f .normal d a b c) (λ_=>true) e.size 0 a b g))
 | .seq p q,f,d,a,b,c=>match Nt j.PF (key q)with
  |none=>D i j p (Bl (λd a b c=>D i j q f d a b c) f) d a b c
  |some h=>∃x:Fn (h_ h) (World->Prop),D i j p (Bl (λm u n g=>Bk n b (ap (h_ h) x (yN m u h) g)) f) d a b c/\
    eu (writes p) a λv=>lV (h_ h) λr=>∀(m:bG) (g:World),ap (h_ h) x r g->D i j q f m (xG h r v) b g
 | .cond k p q,f,d,a,b,c=>match ev d a k with
  | .bool z=>al z (D i j p f d a b c) (D i j q f d a b c)
  |_=>False
 | .block id k,f,d,a,b,c=>D i j k (wT id f) d a b c
 | .scope k,f,d,a,b,c=>D i j k (FL f) d a b c
 | .loop k,f,d,a,b,c=>match Nt j.loops (key k)with
  |none=>False
  |some h=>∃w:Nat->Fn (h_ h) (World->Prop),(∃s,ap (h_ h) (w s) (yN d a h) c)/\
    ∀s,eu (writes k) a λv=>lV (h_ h) λr=>∀(m:bG) (g:World),ap (h_ h) (w s) r g->
     D i j k (Bl (λm u n g=>Bk n b (∃y,y<s/\ap (h_ h) (w y) (yN m u h) g)) f) m (xG h r v) b g
 |_,_,_,_,_,_=>False
def cQ.mono{g h:bG}{i j:cC}{k f:List Nat}{l m:gX}(p:cQ a h j k l e9 H b)(q:∀c,c∈k->c∈f)(r:∀c,c∉f->get h j c=get g i c)(s:∀d e n b,l e9 d e n b->m e9 d e n b):cQ a g i f m e9 H b:=by
 obtain⟨d,e,t,u,v⟩:=p;exact⟨d,e,t,λc o=>(u c (λw=>o (q c w))).trans (r c o),s _ _ _ _ v⟩
def HN{g e:bG}{b:Value}{c:Nat}:∀{f:cC},get g f c=b->e c=b->get e f c=b
 |[],_,a=>a
 |(i,j)::k,a,h=>by
  rw[dH]at a⊢;split
  ·rename_i d;rw[if_pos d]at a;exact a
  ·rename_i d;rw[if_neg d]at a;exact HN a h
def uY{n:Nat}{B0:bG}{g c:cC}(e:List (Nat×Value))(h:H.tmps.size=n)(i:∀b a,a∉b4->get b c a=get b g a)(j:∀b a,a∈b4->get b c a=b a)(k:∀a,a∉b4->H.tmps.getD a undef=get B0 g a):
  Rel n (λa=>H.tmps.getD a undef) (xG e (e.map λl=>H.tmps.getD l.1 undef) c) H:=by
 refine⟨h,λa=>(DH _ (λa=>H.tmps.getD a undef) c e a λd=>?_).symm⟩
 by_cases f:d∈b4
 ·rw[j _ d f]
 ·rw[i _ d f]
  exact HN (k d f).symm rfl
def mW(d:Rel a T O H):∀b:List (Nat×Value),yN T O b=b.map λc=>H.tmps.getD c.1 undef:=λb=>by
 rw[zi];exact List.map_congr_left λc _=>(d.slot c.1).symm
def jL{g:Program}{d:Array Oper}{h:World->Prop}{i j:Act->Prop}(e:∀a,i a->j a):∀(k:List Oper) (a:Act),wpQuiet g d h i k a->wpQuiet g d h j k a
 |[],a,c=>e a c
 |l::b,a,c=>by
  unfold wpQuiet at c⊢;split
  ·rename_i f
   rw[if_pos f]at c;exact Oper.quiet_mono (jL e b) c
  ·rename_i f
   rw[if_neg f]at c;exact jL e b _ c
variable{e6:ft}
def Ua(P:h.follows .mixedOrders=true):∀(y:Code) (o:gX) (f:bG) (d:cC) (j:Act) (i:World),
  (∀c,c∈writes y->c<a)->(∀I f d A i,o I f d A i->I≠.outgrown)->Rel a f d j->D h e6 y o f d j.defers i->y.wp h (cQ a f d (writes y) o) j i:=by
 intro y
 induction y with
 |skip=>intro o f d j i _ _ l b;exact wp_skip ⟨f,d,l,λ_ _=>rfl,b⟩
 |label Q=>intro o f d j i _ _ l b;exact wp_label ⟨f,d,l,λ_ _=>rfl,b⟩
 |exit id=>intro o f d j i _ _ l b;exact wp_exit ⟨f,d,l,λ_ _=>rfl,b⟩
 |ret=>intro o f d j i _ _ l b;exact wp_ret ⟨f,d,l,λ_ _=>rfl,b⟩
 |goto Q=>intro o f d j i _ _ l b;exact b.elim
 |refuse uZ=>intro o f d j i _ _ l b;exact b.elim
 |scope y S=>
  intro o f d j i x B l b;refine wp_scope_straight (Code.wp_mono ?_ (S (FL o) f d j i x (by intro p f d A i e M;subst M;exact B _ _ _ _ _ e rfl) l b));intro p q r m;obtain⟨u,t,v,w,e⟩:=m
  cases p with
  |goto Q=>exact e.elim
  |normal=>exact⟨u,t,v,w,e⟩
  |exit id=>exact⟨u,t,v,w,e⟩
  |ret=>exact⟨u,t,v,w,e⟩
  |panic J=>exact⟨u,t,v,w,e⟩
  |outgrown=>exact⟨u,t,v,w,e⟩
 |rangeFunc d4 ps I Z d5 d6=>intro o f d j i _ _ l b;exact b.elim
 |region id n K=>
  intro o f d j i x _ l b;have hl:∀T∈n.toList,∀U,T.dst=some U->U<a/\U∈writes (.region id n K):=λT R U hd=>⟨x U (jS R hd),jS R hd⟩
  have a1:∀a3 c,jb n a3=some c->c<a:=by
   intro a3 c V;unfold jb at V
   cases R:n[a3]? with
   |none=>rw[R]at V;simp at V
   |some T=>
    rw[R]at V;have c2:T∈n.toList:=by
     have:=Array.getElem?_eq_some_iff.1 R;obtain⟨b2,rfl⟩:=this;simp
    exact(hl T c2 c V).1
  cases K with
  |false=>exact wp_region_list (zh a1 n.toList d j i hl l (λ_ _=>rfl) b)
  |true=>
   unfold D at b;simp only at b;split at b
   ·obtain⟨hB,b⟩:=eS.out b
    refine wp_region_quiet (C:=bd i) P hB ⟨1,rfl⟩ ?_;have:=qu (B0:=f) (e0:=d) (W:=writes (.region id n true)) a1 n.toList d j hl l (λ_ _=>rfl) b;refine jL ?_ _ _ this;rintro q ⟨e',a4,a5,c3,e⟩ r a6;exact⟨f,e',a4,c3,by rw[a5];exact e r a6⟩
   ·obtain⟨c4,b⟩:=eS.out b
    have C:∀(L:Bool) (s:Nat->Prop) (a7:Nat->Bool),uT h f n L s (λJ A i=>∀f d,o (.panic J) f d A i) (λd A i=>o .normal f d A i) a7 n.size (Array.replicate n.size false) d j.defers (i.drewN 1)->(Code.region id n true).wp h (cQ a f d (writes (.region id n true)) o) j i:=λL s a7 b=>
     wp_region_any P (nU (λJ j i b=>Bi.post J j i b) (λ_ _ b=>b) _ _ _ _ _ (lr (B0:=f) (e0:=d) (W:=writes (.region id n true)) a1 c4 hl a7 _ _ d j _ l (λ_ _=>rfl) b))
    split at b
    ·split at b
     ·obtain⟨s,b⟩:=b _ ⟨1,rfl⟩
      exact C _ s _ b
     ·exact C _ _ _ (b _ ⟨1,rfl⟩)
    ·obtain⟨hM,b⟩:=eS.out b
     split at b
     ·obtain⟨s,b⟩:=b _ ⟨1,rfl⟩
      rw[qy hM _ _ (FK.init _)]at b;exact C _ s _ b
     ·have b:=b _ ⟨1,rfl⟩
      rw[qy hM _ _ (FK.init _)]at b;exact C _ _ _ b
 |seq I Z E F=>
  intro o f d j i x B l b;have b3:∀c,c∈writes I->c<a:=λc k=>x c (List.mem_append.2 (.inl k));have b4:∀c,c∈writes Z->c<a:=λc k=>x c (List.mem_append.2 (.inr k));have g:∀(W:bG->cC->List Deferred->World->Prop) (p:Exit) (q:Act) (r:World),p≠.normal->cQ a f d (writes I) (Bl W o) p q r->cQ a f d (writes (I.seq Z)) o p q r:=by
   intro W p q r c5 m;refine m.mono (λc k=>List.mem_append.2 (.inl k)) (λ_ _=>rfl) λu t d7 w1 e=>?_
   cases p with
   |normal=>exact absurd rfl c5
   |outgrown=>exact e.elim
   |_=>exact e
  have b5:∀(W:bG->cC->List Deferred->World->Prop) p f d A i,Bl W o p f d A i->p≠.outgrown:=by
   intro W p f d A i e M;subst M;exact e.elim
  unfold D at b;split at b
  ·have hx:=E _ f d j i b3 (b5 _) l b
   refine wp_seq (Code.wp_mono ?_ hx);intro p q r m
   cases p with
   |normal=>
    obtain⟨u,t,v,w,e⟩:=m;have hy:=F o u t q r b4 B v e;refine Code.wp_mono (λp b6 b7 m=>?_) hy;refine m.mono (λc k=>List.mem_append.2 (.inr k)) (λc k=>w c λP=>k (List.mem_append.2 (.inl P))) λ_ _ _ _ e=>e
   |exit id=>exact g _ _ _ _ (by simp) m
   |goto Q=>exact g _ _ _ _ (by simp) m
   |ret=>exact g _ _ _ _ (by simp) m
   |panic J=>exact g _ _ _ _ (by simp) m
   |outgrown=>exact g _ _ _ _ (by simp) m
  ·rename_i s hS
   obtain⟨d8,b,a8⟩:=b;obtain⟨t,h1,h2,a8⟩:=eu.out a8;have hx:=E _ f d j i b3 (b5 _) l b;refine wp_seq (Code.wp_mono ?_ hx);intro p q r m
   cases p with
   |normal=>
    obtain⟨N,O,z,a0,e⟩:=m;obtain⟨a2,hJ⟩:=Bk.out e;have hv:=mW z s;have a9:=je N O s;have b8:=ap.all a9 hJ a8 (λc=>q.tmps.getD c undef) r hJ;rw[hv,<-a2]at b8;have b9:=uY (n:=a) s z.size h1 h2 (B0:=f) (λc k=>(z.slot c).trans (a0 c k));have hy:=F o _ _ q r b4 B b9 b8;refine Code.wp_mono (λp b6 b7 m=>?_) hy;refine m.mono (λc k=>List.mem_append.2 (.inr k)) (λc k=>?_) λ_ _ _ _ e=>e;rw[<-b9.slot];exact(z.slot c).trans (a0 c λP=>k (List.mem_append.2 (.inl P)))
   |exit id=>exact g _ _ _ _ (by simp) m
   |goto Q=>exact g _ _ _ _ (by simp) m
   |ret=>exact g _ _ _ _ (by simp) m
   |panic J=>exact g _ _ _ _ (by simp) m
   |outgrown=>exact g _ _ _ _ (by simp) m
 |cond y I Z E F=>
  intro o f d j i x B l b;unfold D at b;split at b
  ·rename_i c6 H
   refine wp_cond_split (t:=c6) (by rw[l.eval];exact H) (λk=>?_) (λhf=>?_)
   ·subst k
    refine Code.wp_mono (λp q r m=>?_) (E o f d j i (λc k=>x c (List.mem_append.2 (.inl k))) B l b);exact m.mono (λc k=>List.mem_append.2 (.inl k)) (λ_ _=>rfl) λ_ _ _ _ e=>e
   ·subst hf
    refine Code.wp_mono (λp q r m=>?_) (F o f d j i (λc k=>x c (List.mem_append.2 (.inr k))) B l b);exact m.mono (λc k=>List.mem_append.2 (.inr k)) (λ_ _=>rfl) λ_ _ _ _ e=>e
  ·exact b.elim
 |block id y S=>
  intro o f d j i x B l b;refine wp_block (Code.wp_mono ?_ (S (wT id o) f d j i x (by intro p f d A i e M;subst M;exact e.elim) l b));intro p q r m;obtain⟨u,t,v,w,e⟩:=m
  cases p with
  |exit X=>
   show(if X=id then _ else _);simp only[wT]at e
   cases H:Nat.beq X id with
   |true=>
    rw[H]at e;rw[if_pos (Nat.eq_of_beq_eq_true H)];exact⟨u,t,v,w,e⟩
   |false=>
    rw[H]at e;rw[if_neg (by rintro rfl;simp at H)];exact⟨u,t,v,w,e⟩
  |normal=>exact⟨u,t,v,w,e⟩
  |goto Q=>exact⟨u,t,v,w,e⟩
  |ret=>exact⟨u,t,v,w,e⟩
  |panic J=>exact⟨u,t,v,w,e⟩
  |outgrown=>exact e.elim
 |loop y S=>
  intro o f d j i x B l b;unfold D at b;split at b
  ·exact b.elim
  ·rename_i s hS
   obtain⟨c7,⟨m0,h0⟩,c8⟩:=b;refine wp_loop_ghost (λb0 q r=>q.tmps.size=a/\(∀c,c∉writes y->q.tmps.getD c undef=get f d c)/\q.defers=j.defers/\
    ap (h_ s) (c7 b0) (s.map λb1=>q.tmps.getD b1.1 undef) r) m0 ⟨l.size,λc _=>l.slot c,rfl,by rw[<-mW l s];exact h0⟩ ?_
   rintro b0 q r ⟨c9,c0,a2,hI⟩;obtain⟨t,h1,h2,d0⟩:=eu.out (c8 b0);have a9:(s.map λb1=>q.tmps.getD b1.1 undef).length=(h_ s).length:=by rw[<-je f d s,zi];simp
   have H:=ap.all a9 hI d0 (λc=>q.tmps.getD c undef) r hI;have c1:=uY (n:=a) s c9 h1 h2 c0;rw[<-a2]at H;have d1:=S _ _ _ q r x (by intro p f d A i e M;subst M;exact e.elim) c1 H;refine Code.wp_mono ?_ d1;intro p b6 b7 m;obtain⟨N,O,z,a0,e⟩:=m;have Y:∀c,c∉writes y->get N O c=get f d c:=λc k=>(a0 c k).trans ((c1.slot c).symm.trans (c0 c k))
   cases p with
   |normal=>
    obtain⟨d2,m',b2,d3⟩:=Bk.out e;refine⟨m',b2,z.size,λc k=>(z.slot c).trans (Y c k),d2.trans a2,?_⟩;rw[<-mW z s];exact d3
   |outgrown=>exact e.elim
   |exit id=>exact⟨N,O,z,Y,e⟩
   |goto Q=>exact⟨N,O,z,Y,e⟩
   |ret=>exact⟨N,O,z,Y,e⟩
   |panic J=>exact⟨N,O,z,Y,e⟩
def HO(a:Program):List ResultVar->bG->cC->World->(List Value->Prop)->Prop
 |[],_,_,_,b=>b []
 |i::h,c,d,f,b=>match i with
  | .tmp e=>HO a h c d f λg=>b (get c d e::g)
  | .cell j e=>eS (known a e) (il a e (get c d j) f λk=>HO a h c d f λg=>b (k::g))
def oneOf(a:List Value):Value:=match a with
 |[b]=>b
 |a=>.tuple a.toArray
def Lv(f:Program)(a:World->Prop)(g:List PanicEntry->World->Prop):List Deferred->FrameMode->World->Prop
 |[],.returning,c=>a c
 |[],.panicking b,c=>g b c
 |[],.run,_=>False
 |d::i,j,c=>j≠.run/\∃h e,d.target= .fn (.func h) e/\enters f h=true/\
   CallsD f h (d.args++e) j c λm k l=>PR m (λ_=>Lv f a g i (settle k) l) (λn=>Lv f a g i (raised k n) l)
def fP(b:Program)(d:Func)(e:bG)(f:cC)(c:Ending->World->Prop)(g:List Deferred)(h:FrameMode)(a:World):Prop:=
 Lv b (λa=>HO b d.results.toList e f a λi=>c (.returned (oneOf i)) a) (λj a=>c (.panicked j) a) g h a
def RG(a:Program)(b:Func)(c:Ending->World->Prop):gX:=λh d e f g=>match h with
 | .normal=>fP a b d e c f .returning g
 | .ret=>fP a b d e c f .returning g
 | .panic i=>fP a b d e c f (.panicking i) g
 |_=>False
def Bm(a:Array Value):ResultVar->Sem Value
 | .tmp b=>pure (a.getD b undef)
 | .cell c b=>do loadVar b (<-asAddr (a.getD c undef))
def qz{e:Program}{m:bG}{n:cC}{q:Nat}{d:Act}(f:Rel q m n d){c:World}:∀{i:List ResultVar} {g:List Value->Prop},HO e i m n c g->
  ∃h,(i.mapM (Bm d.tmps)).run e c=Result.ok h c/\g h
 |[],g,a=>⟨[],by rw[List.mapM_nil];rfl,a⟩
 |r::i,g,a=>by
  unfold HO at a
  cases r with
  |tmp j=>
   obtain⟨h,k,a⟩:=qz f a;refine⟨_,?_,a⟩;rw[List.mapM_cons];simp only[Bm,Sem.run_bind,Sem.run_pure,Result.andThen_ok,k,f.slot]
  |cell l j=>
   obtain⟨s,a⟩:=eS.out a;obtain⟨t,u,a⟩:=il.out (known.out s).1 a;obtain⟨h,k,a⟩:=qz f a;refine⟨_,?_,a⟩;rw[List.mapM_cons];have b:=u c rfl;rw[<-f.slot]at b;have:(Bm d.tmps (.cell l j)).run e c= .ok t c:=by
    unfold Bm
    cases o:d.tmps.getD l undef<;>rw[o]at b<;>simp only[Instr.loadAt,Instr.sureAddr,stuck,Sem.run_bind,Sem.run_halt,Result.andThen,reduceCtorEq]at b
    rename_i p
    cases p with
    |none=>simp at b
    |some p=>
          show(do loadVar j (<-asAddr (d.tmps.getD l undef)):Sem Value).run e c=_;rw[o];simpa[asAddr]using b
   simp only[Sem.run_bind,this,Sem.run_pure,Result.andThen_ok,k]
def qA(c:(a4.results.toList.mapM (Bm H.tmps)).run h b=Result.ok a2 b):(results a4 H.tmps).run h b= .ok (oneOf a2) b:=by
 have d:(a4.results.mapM (Bm H.tmps)).run h b=Result.ok a2.toArray b:=by
  rw[Array.mapM_eq_mapM_toList,Sem.run_map,c]
  rfl
 have e:(results a4 H.tmps)=(a4.results.mapM (Bm H.tmps)>>=λa=>pure (if c:a.size=1 then a[0]else Value.tuple a)):=by
   unfold results
   congr 2
 rw[e];simp only[Sem.run_bind,d,Result.andThen_ok,Sem.run_pure]
 congr 1
 match a2 with
 |[]=>rfl
 |[v]=>rfl
 |v::f::g=>
  rw[dif_neg (by simp)]
  rfl
def mX{j:Program}{k:Func}{l:bG}{m:cC}{s:Nat}{n:Act}(g:Rel s l m n){o:Ending->World->Prop}:∀(c:List Deferred) (h:FrameMode) (b:World),
  fP j k l m o c h b->Leaves j k n.tmps o c h b
 |[],.returning,b,a=>by
  obtain⟨E,t,a⟩:=qz g a;exact⟨_,qA t,a⟩
 |[],.panicking u,b,a=>a
 |[],.run,b,a=>a.elim
 |d::c,h,b,a=>by
  obtain⟨v,p,e,q,w,x⟩:=a;refine⟨v,.func p,e,p,d.args++e,q,?_,?_⟩
  ·rw[q];simp only[invoke];exact gY w _ _
  ·intro y cs z
   obtain⟨r,A,B,C,i,f⟩:=x y cs z;refine⟨r,A,B,C,?_,f⟩
   cases r with
   |returned F=>exact mX g c _ _ i
   |panicked u=>exact mX g c _ _ i
   |outgrown=>exact i.elim
def eG:Nat->List Value->cC
 |_,[]=>[]
 |a,b::c=>(a,b)::eG (a+1) c
def nY:∀(c:List Value) (a b:Nat),get (λ_=>undef) (eG a c) b=if a<=b then c.getD (b-a) undef else undef
 |[],a,b=>by simp[eG,get]
 |v::f,a,b=>by
  rw[eG,dH,nY f (a+1) b]
  by_cases d:a=b
  ·subst d;simp
  ·rw[if_neg d]
   by_cases e:a+1<=b
   ·rw[if_pos e,if_pos (by omega),show b-a=(b-(a+1))+1 from by omega];rfl
   ·rw[if_neg e,if_neg (by omega)]
def tX(a:Nat):List Nat->Bool
 |[]=>true
 |d::b=>match Nat.blt d a with
  |true=>tX a b
  |false=>false
def ko{e:Nat}:∀{f:List Nat},tX e f=true->∀a,a∈f->a<e
 |[],_,a,b=>by cases b
 |d::h,c,a,b=>by
  unfold tX at c;split at c
  ·rename_i g
   cases b with
   |head=>
        have:d+1<=e:=by simpa[Nat.blt]using g
        omega
   |tail _ b=>exact ko c a b
  ·cases c
def fu(g:ft)(i:h.follows .mixedOrders=true)(j:h.funcs[z]? =some a4)(k:a4.body=some Z)(t:n.size<=a4.ntmps)(l:tX a4.ntmps (writes Z)=true)(m:D h g Z (RG h a4 s) (λ_=>undef) (eG 0 n.toList) [] b):Calls h z n b s:=by
 refine calls_of_wp_defers j k ?_;have o:Rel a4.ntmps (λ_=>undef) (eG 0 n.toList) {tmps:=n++Array.replicate (a4.ntmps-n.size) undef,defers:=[]}:=by
  refine⟨by simp;omega,λd=>?_⟩;rw[nY,if_pos (Nat.zero_le _),Nat.sub_zero];simp only[Array.getD_eq_getD_getElem?,List.getD_eq_getElem?_getD,Array.getElem?_append,Array.getElem?_toList]
  by_cases e:d<n.size
  ·simp[e]
  ·rw[if_neg e]
   simp only[Array.getElem?_replicate];have:n[d]? =none:=by simp;omega
   rw[this];split<;>rfl
 refine Code.wp_mono ?_ (Ua i Z (RG h a4 s) _ _ _ b (ko l) (by intro f p q u b a r;subst r;exact a.elim) o m);rintro f v w ⟨p,q,c,_,a⟩
 cases f with
 |normal=>exact mX c _ _ _ a
 |ret=>exact mX c _ _ _ a
 |panic x=>exact mX c _ _ _ a
 |exit id=>exact a.elim
 |goto y=>exact a.elim
 |outgrown=>exact a.elim
def DI(d:Program)(e:Func)(a:Ending->World->Prop):gX:=λh f g b c=>match h with
 | .normal=>(match b with
  |[]=>fP d e f g a [] .returning c
  |_=>False)
 | .ret=>(match b with
  |[]=>fP d e f g a [] .returning c
  |_=>False)
 | .panic i=>(match b with
  |[]=>a (.panicked i) c
  |_=>False)
 |_=>False
def DI.out{P:Program}(k:Rel a T O H)(c:DI P a4 s e9 T O H.defers b):
  H.defers=[]/\((e9= .normal\/e9= .ret)/\(∃d,(results a4 H.tmps).run P b= .ok d b/\s (.returned d) b)\/∃i,e9= .panic i/\s (.panicked i) b):=by
 have e:∀f,H.defers=f->(match f with
  |[]=>fP P a4 T O s [] .returning b
  |_=>False)->f=[]/\∃d,(results a4 H.tmps).run P b= .ok d b/\s (.returned d) b:=by
  intro f j c;split at c
  ·obtain⟨l,m,c⟩:=qz k c
   exact⟨rfl,_,qA m,c⟩
  ·exact c.elim
 unfold DI at c;split at c
 ·obtain⟨g,h⟩:=e _ rfl c
  exact⟨g,.inl ⟨.inl rfl,h⟩⟩
 ·obtain⟨g,h⟩:=e _ rfl c
  exact⟨g,.inl ⟨.inr rfl,h⟩⟩
 ·split at c
  ·rename_i j
   exact⟨j,.inr ⟨_,rfl,c⟩⟩
  ·exact c.elim
 ·exact c.elim
def wU(e:n.size<=a)(d:List Deferred):Rel a (λ_=>undef) (eG 0 n.toList) {tmps:=n++Array.replicate (a-n.size) undef,defers:=d}:=by
 refine⟨by simp;omega,λb=>?_⟩;rw[nY,if_pos (Nat.zero_le _),Nat.sub_zero];simp only[Array.getD_eq_getD_getElem?,List.getD_eq_getElem?_getD,Array.getElem?_append,Array.getElem?_toList]
 by_cases c:b<n.size
 ·simp[c]
 ·rw[if_neg c]
  simp only[Array.getElem?_replicate];have:n[b]? =none:=by simp;omega
  rw[this];split<;>rfl
def Ah(g:ft)(i:h.follows .mixedOrders=true)(j:h.funcs[z]? =some a4)(k:a4.body=some Z)(l:n.size<=a4.ntmps)(m:tX a4.ntmps (writes Z)=true)(a:D h g Z (DI h a4 s) (λ_=>undef) (eG 0 n.toList) [] b):CallsD h z n a7 b λc o f=>o=a7/\s c f:=by
 refine callsD_of_wp j k (Code.wp_mono ?_ (Ua i Z (DI h a4 s) _ _ _ b (ko m) (by intro p q c u b d r;subst r;exact d.elim) (wU l []) a));rintro p v f ⟨q,c,t,_,d⟩;obtain⟨e,(⟨rfl|rfl,a⟩|⟨w,rfl,a⟩)⟩:=d.out t
 ·exact⟨e,a⟩
 ·exact⟨e,a⟩
 ·exact⟨e,a⟩
def sX:FrameMode->Value
 | .panicking ({v,recovered:=false,goexit:=false}::_)=>v
 |_=>.nilIface
def gQ:FrameMode->FrameMode
 | .panicking ({v,recovered:=false,goexit:=false}::older)=>.panicking ({v,recovered:=true}::older)
 |u=>u
def KA{b:Frame}{cs:List Frame}(f:b.mode=a7):recoverD (b::cs)=some (sX a7,{b with mode:=gQ a7}::cs)\/(recoverD (b::cs)=none/\sX a7= .nilIface/\gQ a7=a7):=by
 subst f;unfold recoverD;simp only;split
 ·rename_i c
  left;rw[c]
  rfl
 ·rename_i e
  right;refine⟨rfl,?_,?_⟩
  ·unfold sX
   split
   ·rename_i d a c;exact absurd c (e d a)
   ·rfl
  ·unfold gQ
   split
   ·rename_i d a c;exact absurd c (e d a)
   ·rfl
def Pf(u:ft){id:Nat}{f:Tmp}{g:Array TypeId}(v:h.follows .mixedOrders=true)(w:h.funcs[z]? =some a4)(x:a4.body=some (.seq (.region id #[Q] false) Z))(y:Q.op= .call {callee:=.builtin .recover,args:= #[],argTypes:=g})(d:Q.dst=some f)(A:Q.guard=none)(B:Nat.blt f a4.ntmps=true)(C:n.size<=a4.ntmps)(E:tX a4.ntmps (writes Z)=true)(e:D h u Z (DI h a4 λi m=>h8 i (gQ a7) m) (λ_=>undef) ((f,sX a7)::eG 0 n.toList) [] b):CallsD h z n a7 b h8:=by
 refine callsD_of_wpS w x λa cs o=>wpS_seq (wpS_region ?_);have F:∀p:Act,(execOp p.eval Q).run h b= .ok .recover b:=λp=>by simp[execOp,y,resolve,invoke,builtin]
 have H:∀q,Region.wanted Q q=true:=λq=>by simp[Region.wanted,A]
 have I:f+1<=a4.ntmps:=by simpa[Nat.blt]using B
 have r:∀(j:Value) (c:List Frame),j=sX a7->c={a with mode:=gQ a7}::cs->
   Z.wpS h (bodyPostS h a4 a cs h8) (({tmps:=n++Array.replicate (a4.ntmps-n.size) undef,defers:=[]}:Act).put Q.dst j) c b:=by
  rintro j c rfl rfl;refine wpS_of_wp ?_;have s:=(wU C []).put Q.dst (λP t=>by rw[d]at t;exact(Option.some.inj t)▸I) (sX a7);rw[d]at s⊢;refine Code.wp_mono ?_ (Ua v Z _ _ _ _ b (ko E) (by intro J K i R b k L;subst L;exact k.elim) s e);rintro J S m ⟨K,i,M,_,k⟩;obtain⟨d,(⟨rfl|rfl,e⟩|⟨T,rfl,e⟩)⟩:=k.out M
  ·exact⟨d,_,rfl,e⟩
  ·exact⟨d,_,rfl,e⟩
  ·exact⟨d,_,rfl,e⟩
 simp only[show(List.range (#[Q]:Array Oper).size)=[0]from rfl,wpOpsS,List.getElem?_toArray,List.getElem?_cons_zero,H,if_true,F];rcases KA (cs:=cs) o with l|⟨l,N,O⟩
 ·rw[l]
  exact r _ _ rfl rfl
 ·rw[l]
  exact r _ _ N.symm (by rw[O,<-o])
def Ai(a:IntKind)(b c:Int):Int:=a.wrap (BitVec.ofInt a.bits b&&&BitVec.ofInt a.bits c).toNat
def Oe(a:IntKind)(b c:Int):Int:=a.wrap (BitVec.ofInt a.bits b|||BitVec.ofInt a.bits c).toNat
def pQ(a:IntKind)(b c:Int):Int:=a.wrap (BitVec.ofInt a.bits b ^^^ BitVec.ofInt a.bits c).toNat
def lf(a:IntKind)(b c:Int):Int:=a.wrap (BitVec.ofInt a.bits b&&& ~~~BitVec.ofInt a.bits c).toNat
def Ht(a:IntKind)(b c:Int):Int:=a.wrap (b*2 ^(min c.toNat a.bits))
def gw(a:IntKind)(b c:Int):Int:=b.fdiv (2 ^(min c.toNat a.bits))
def oM(a:L:=by omega):L:=a
def sM(a:L:=by simp):L:=a
def dC(a:L:=by decide):L:=a
def kR(a:L:=by kernel_rfl):L:=a
abbrev Qq:= @List.getElem?_eq_getElem
abbrev Qx:= @Int.toNat_natCast
abbrev Qz:= @List.take_of_length_le
abbrev Qj:= @Nat.zero_le
abbrev Qv:= @List.getElem?_eq_some_iff
abbrev Qw:= @List.take_add_one
abbrev Qk:= @Nat.lt_of_lt_of_le
abbrev Qy:= @List.length_take
abbrev QQ:= @List.getD_eq_getElem?_getD
abbrev QX:= @List.length_append
abbrev QZ:= @List.mem_of_getElem?
abbrev QJ:= @List.mem_cons_of_mem
abbrev QV:= @List.mem_cons_self
abbrev QW:= @List.eq_nil_of_length_eq_zero
abbrev QK:= @Bool.and_eq_true
abbrev QY:= @List.map_cons
abbrev Q0:= @Nat.mul_le_mul_right
abbrev Q1:= @Option.some.injEq
abbrev Q2:= @List.mem_cons
abbrev Q3:= @List.map_append
abbrev Q4:= @Nat.le_refl
abbrev Q5:= @Array.getElem?_eq_some_iff
abbrev Q6:= @List.mem_append
abbrev Q7:= @List.getElem?_eq_none
abbrev Q8:= @List.length_map
abbrev Q9:= @List.getElem?_map
abbrev Xq:= @List.length_cons
abbrev Xx:= @Nat.le_trans
abbrev Xz:= @Nat.zero_add
abbrev Xj:= @List.getElem?_set
abbrev Xv:= @decide_eq_false
abbrev Xw:= @List.getElem?_take
abbrev Xk:= @List.mem_map
abbrev Xy:= @of_decide_eq_false
abbrev XQ:= @List.append_assoc
abbrev XX:= @Value.slice.injEq
abbrev XZ:= @List.length_drop
abbrev XJ:= @Option.some.inj
abbrev XV:= @of_decide_eq_true
abbrev XW:= @List.getElem?_append_left
abbrev XK:= @Array.length_toList
abbrev XY:= @List.getElem_mem
abbrev X2:= @Nat.min_eq_left
abbrev X3:= @List.ext_getElem?
abbrev X4:= @List.drop_eq_getElem_cons
abbrev X6:= @Array.getElem?_eq_getElem
abbrev X7:= @Nat.add_mul
abbrev X8:= @List.getElem?_append_right
abbrev X9:= @Nat.eq_of_beq_eq_true
abbrev XH:=Value.int .i64
abbrev ZQ (b:Nat):Value:=.pointer (some ⟨b,0,none⟩)
abbrev ZX (b:Nat):Option Addr:=some ⟨b,0,none⟩
end Go.ar

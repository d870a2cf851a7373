import Derived.Tactics
import Derived.Defers
import Derived.Recover
import Derived.Deep.Quiet
import Derived.Deep.LoopGhost
import Derived.Laws.Entries
import Derived.Laws.Tables
import Derived.Laws.Cells
import Derived.Scope
set_option linter.all false
namespace Go.ax
open Go
structure aj (S:Nat->Prop) (w w':World):Prop where
 os:w'.os=w.os
 tape:w'.tape=w.tape
 output:w'.output=w.output
 size:w.heap.size<=w'.heap.size
 block:∀k,k<w.heap.size->¬S k->w'.heap[k]? =w.heap[k]?
def get(b:Nat->Value):List (Nat×Value)->Nat->Value
 |[],a=>b a
 |(c,d)::e,a=>match Nat.beq c a with
  |true=>d
  |false=>get b e a
abbrev dq:=List (Nat×Value)
def ev(a:Nat->Value)(b:dq):Operand->Value
 | .tmp c=>get a b c
 | .const d=>d
 | .global e=>.pointer (some ⟨e,0,none⟩)
 | .func f=>.func (.func f) #[] #[]
def cJ(b:dq)(a:Option Tmp)(c:Value):dq:=match a with
 |some a=>(a,c)::b
 |none=>b
structure Rel (n:Nat) (B:Nat->Value) (e:dq) (a:Act):Prop where
 size:a.tmps.size=n
 slot:∀t,a.tmps.getD t undef=ax.get B e t
def eT(c:Nat->Value)(d:dq)(b a:Nat)(e:Value):get c ((b,e)::d) a=if b=a then e else get c d a:=by
 show(match Nat.beq b a with|true=>e|false=>get c d a)=_
 by_cases f:b=a
 ·subst f;simp
 ·have:Nat.beq b a=false:=by
   cases g:Nat.beq b a
   ·rfl
   ·exact absurd (Nat.eq_of_beq_eq_true g) f
  rw[this,if_neg f]
def Rel.eval{d:Nat}{a:Nat->Value}{b:dq}{c:Act}(e:Rel d a b c):c.eval=ev a b:=by
 funext f
 cases f with
 |tmp g=>exact e.slot g
 |const h=>rfl
 |global i=>rfl
 |func j=>rfl
def Rel.put{d:Nat}{h:Nat->Value}{i:dq}{e:Act}(c:Rel d h i e)(a:Option Tmp)(j:∀b,a=some b->b<d)(f:Value):Rel d h (cJ i a f) (e.put a f):=by
 cases a with
 |none=>exact c
 |some a=>
  have k:=j a rfl;refine⟨by simp[Act.put,c.size],λb=>?_⟩;show(e.tmps.setIfInBounds a f).getD b undef=_;rw[cJ,eT,<-c.slot];have l:=c.size
  by_cases g:a=b
  ·subst g
   simp[l,k]
  ·rw[if_neg g]
   simp only[Array.getD_eq_getD_getElem?];rw[Array.getElem?_setIfInBounds_ne g]
variable{J:Act}{f5:Act->World->Prop}{d2:Addr}{Z:Array Bool}{T:Array Oper}{r:Array Value}{I:Bool}{a0:Code}{i0:Ending->FrameMode->World->Prop}{t:Ending->World->Prop}{f0:Exit}{d7:Exit->Act->World->Prop}{a8:FrameMode}{a5:Func}{z:FuncId}{b4:List Nat}{f4:List PanicEntry->Act->World->Prop}{a1:List PanicEntry->World->Prop}{a3:List Value}{a c i:Nat}{f6:Nat->Bool}{a4 f:Nat->Prop}{P:Oper}{e8:Operand->Value}{h:Program}{N a6:Prop}{h0:Sem Unit}{e2:Sem Value}{g:TypeId}{e5:TypeInfo}{c3 w:Value}{S:Value->Prop}{h8 o u:Value->World->Prop}{a9 b k:World}{y:World->Prop}{O:dq}{h9:dq->List Deferred->World->Prop}{f3:dq->Prop}
def Rel.defers{b:Nat->Value}(c:Rel a b O J)(d:List Deferred):Rel a b O {J with defers:=d}:=⟨c.size,c.slot⟩
def put_defers(a:Act)(b:Option Tmp)(c:Value):(a.put b c).defers=a.defers:=by cases b<;>rfl
def al(a:Bool)(b c:Prop):Prop:=match a with
 |true=>b
 |false=>c
def al.mk(a:I=true->N)(b:I=false->a6):al I N a6:=by
 cases I
 ·exact b rfl
 ·exact a rfl
def al.tt(a:I=true)(b:N):al I N a6:=by subst a;exact b
def al.ff(a:I=false)(b:a6):al I N a6:=by subst a;exact b
def Rj(c:Value)(a:Value->Prop):Prop:=match c with
 | .int d _=>∃b,a (.int d b)
 | .bool _=>∃e,a (.bool e)
 | .string _=>∃f,a (.string f)
 | .slice _ _ _=>∃g b h,a (.slice g b h)
 | .pointer _=>∃i,a (.pointer i)
 | .map _=>∃j,a (.map j)
 |_=>∃k,a k
def Rj.out{z:Value}{φ:Value->Prop}(a:Rj z φ):∃b,φ b:=by
 unfold Rj at a;split at a
 ·exact⟨_,a.choose_spec⟩
 ·exact⟨_,a.choose_spec⟩
 ·exact⟨_,a.choose_spec⟩
 ·obtain⟨c,d,e,a⟩:=a;exact⟨_,a⟩
 ·exact⟨_,a.choose_spec⟩
 ·exact⟨_,a.choose_spec⟩
 ·exact a
def Sw:List Value->(List Value->Prop)->Prop
 |[],a=>a []
 |z::b,a=>Rj z λc=>Sw b λd=>a (c::d)
def Sw.out:∀{b:List Value} {φ:List Value->Prop},Sw b φ->∃l,l.length=b.length/\φ l
 |[],_,a=>⟨[],rfl,a⟩
 |z::b,φ,a=>by
  obtain⟨c,a⟩:=Rj.out a;obtain⟨l,d,a⟩:=Sw.out a;exact⟨c::l,by simp[d],a⟩
def yY(z:Value)(a:Value->Prop):Prop:=match z with
 | .agg b=>Sw b.toList λc=>a (.agg c.toArray)
 |z=>Rj z a
def yY.out{z:Value}{φ:Value->Prop}(a:yY z φ):∃b,φ b:=by
 unfold yY at a;split at a
 ·obtain⟨l,_,a⟩:=Sw.out a;exact⟨_,a⟩
 ·exact Rj.out a
def WX:List Value->(List Value->Prop)->Prop
 |[],a=>a []
 |z::b,a=>yY z λc=>WX b λd=>a (c::d)
def WX.out:∀{b:List Value} {φ:List Value->Prop},WX b φ->∃l,φ l
 |[],_,a=>⟨[],a⟩
 |z::b,φ,a=>by
  obtain⟨c,a⟩:=yY.out a;obtain⟨l,a⟩:=WX.out a;exact⟨c::l,a⟩
def fe(a:Program)(b:TypeId):Value:=match a.info? b with
 |some c=>match c.zero with
  |some d=>d
  |none=>undef
 |none=>undef
def mB(a:Program)(b:TypeId):Nat:=match a.info? b with
 |some c=>c.size
 |none=>0
def vg(a:Program)(b:TypeId):Bool:=match a.underlying b with
 |some (.struct _)=>true
 |some (.array _ _)=>true
 |_=>false
def vh(a:Program)(b:TypeId)(c:Value->Prop):Prop:=match a.underlying b with
 |some (.tuple d)=>WX (d.toList.map (fe a)) λe=>c (.tuple e.toArray)
 |_=>yY (fe a b) c
def vh.out{P:Program}{φ:Value->Prop}(a:vh P g φ):∃b,φ b:=by
 unfold vh at a;split at a
 ·obtain⟨l,a⟩:=WX.out a;exact⟨_,a⟩
 ·exact yY.out a
def iU(b:World)(c:Addr):Nat->List Value->Prop->Prop
 |_,[],a=>a
 |d,e::f,a=>b.cell? (c.add d)=some e/\iU b c (d+1) f a
def iU.out{f:World}{g:Addr}:∀{b:Nat} {l:List Value} {φ:Prop},iU f g b l φ->(∀a c,l[a]? =some c->f.cell? (g.add (b+a))=some c)/\φ
 |_,[],_,e=>⟨λa c d=>by simp at d,e⟩
 |b,m::l,φ,e=>by
  obtain⟨h,i⟩:=e;obtain⟨j,k⟩:=iU.out i;refine⟨λa c d=>?_,k⟩
  cases a with
  |zero=>simp at d;subst d;exact h
  |succ a=>
   have:=j a c (by simpa using d);rw[show b+1+a=b+(a+1)from by omega]at this;exact this
def ow(a:Program)(b:TypeId)(i:Value)(c:World)(d:Value->Prop):Prop:=match i with
 | .pointer (some e)=>match vg a b with
  |true=>match fe a b with
   | .agg f=>match Nat.beq (mB a b) f.size with
    |true=>Sw f.toList λg=>iU c e 0 g (d (.agg g.toArray))
    |false=>False
   |_=>False
  |false=>Rj (fe a b) λh=>c.cell? e=some h/\d h
 |_=>False
def PS(a:World)(b:Addr)(c:Value)(d:World->Prop):Prop:=(∃e,a.cell? b=some e)/\a.frozen? b=false/\d (a.setCell b c)
def PA(a:World)(b:Obj)(c:World->Prop):Prop:=c (a.alloc b)
def jG(c:Addr):Nat->List Value->World->(World->Prop)->Prop
 |_,[],a,b=>b a
 |d,e::f,a,b=>PS a (c.add d) e λg=>jG c (d+1) f g b
def xJ(a:Program)(b:TypeId)(g c:Value)(d:World)(e:World->Prop):Prop:=match g with
 | .pointer (some f)=>match vg a b with
  |true=>match c with
   | .agg cs=>match Nat.beq cs.size (mB a b)with
    |true=>match cs.toList.all Value.oneCell' with
     |true=>jG f 0 cs.toList d e
     |false=>False
    |false=>False
   |_=>False
  |false=>match Nat.beq (mB a b) 1 with
   |true=>al c.oneCell' (PS d f c e) False
   |false=>False
 |_=>False
def Ut(a b:Nat):Nat:=match Nat.beq b 1 with
 |true=>a
 |false=>a*b
def Om(b a:Nat):Ut b a=b*a:=by
 unfold Ut
 cases c:Nat.beq a 1
 ·rfl
 ·have:a=1:=Nat.eq_of_beq_eq_true c
  subst this;simp
def Uu(f:Program)(k:TypeId)(h i:Value)(j:Value->Prop):Prop:=match f.underlying k with
 |some (.slice a)=>match h,i with
  | .slice d l _,.int _ c=>∃e b,d=some ⟨e,b,none⟩/\0<=c/\c<l/\j (.pointer (some ⟨e,b+Ut c.toNat (mB f a),none⟩))
  |_,_=>False
 |some (.array g a)=>match h,i with
  | .pointer m,.int _ c=>∃e b,m=some ⟨e,b,none⟩/\0<=c/\c<g/\j (.pointer (some ⟨e,b+Ut c.toNat (mB f a),none⟩))
  |_,_=>False
 |_=>False
def HR(c d:Value)(e:Value->Prop):Prop:=match c,d with
 | .string f,.int _ a=>0<=a/\∃b,f[a.toNat]? =some b/\e (.int .u8 b.toNat)
 |_,_=>False
def cM(b:Option Addr)(c d a:Nat):Option Addr:=if d=c then b else b.map (·.add (c*a))
def Uv(i:Program)(o:TypeId)(m:Value)(j k n:Option Value)(e:Value->Prop):Prop:=match i.underlying o with
 |some .string=>match m,n with
  | .string f,none=>match j,k with
   |none,none=>e (.string (f.extract 0 f.size))
   |some (.int _ a),none=>0<=a/\a<=f.size/\e (.string (f.extract a.toNat f.size))
   |none,some (.int _ b)=>0<=b/\b<=f.size/\e (.string (f.extract 0 b.toNat))
   |some (.int _ a),some (.int _ b)=>0<=a/\a<=b/\b<=f.size/\e (.string (f.extract a.toNat b.toNat))
   |_,_=>False
  |_,_=>False
 |some (.slice c)=>match m,n with
  | .slice g l d,none=>match j,k with
   |none,none=>e (.slice g l d)
   |some (.int _ a),none=>0<=a/\a<=l/\e (.slice (cM g a.toNat d (mB i c)) (l-a.toNat) (d-a.toNat))
   |none,some (.int _ b)=>0<=b/\b<=d/\e (.slice g b.toNat d)
   |some (.int _ a),some (.int _ b)=>0<=a/\a<=b/\b<=d/\e (.slice (cM g a.toNat d (mB i c)) (b.toNat-a.toNat) (d-a.toNat))
   |_,_=>False
  | .slice g _ d,some (.int _ h)=>match j,k with
   |none,some (.int _ b)=>0<=b/\b<=h/\h<=d/\e (.slice g b.toNat h.toNat)
   |some (.int _ a),some (.int _ b)=>0<=a/\a<=b/\b<=h/\h<=d/\e (.slice (cM g a.toNat h.toNat (mB i c)) (b.toNat-a.toNat) (h.toNat-a.toNat))
   |_,_=>False
  |_,_=>False
 |_=>False
def YW(c:Option Addr)(d:Value->Prop):Prop:=∃b a,c=some ⟨b,a,none⟩/\d (.pointer (some ⟨b,a,none⟩))
def aH(c:Program)(d:Sem Value)(e:World)(f g:Value->World->Prop):Prop:=match d.run c e with
 | .ok a b=>f a b
 | .halt (.panic a) b=>g a b
 |_=>False
def jU(b:Program)(c:Sem Unit)(d:World)(e:World->Prop)(f:Value->World->Prop):Prop:=match c.run b d with
 | .ok _ a=>e a
 | .halt (.panic g) a=>f g a
 |_=>False
def aH.mk{a w':World}{v:Value}(b:e2.run h a= .ok v w')(c:o v w'):aH h e2 a o u:=by
 unfold aH;rw[b];exact c
def jU.mk{a w':World}(b:h0.run h a= .ok () w')(c:y w'):jU h h0 a y o:=by
 unfold jU;rw[b];exact c
def aH.imp(e:∀c d,o c d->u c d)(a:aH h e2 b o h8):aH h e2 b u h8:=by
 unfold aH at*;split at a
 ·exact e _ _ a
 ·exact a
 ·exact a.elim
def aH.panics{v:Value}(a:e2.run h b= .halt (.panic v) k)(c:u v k):aH h e2 b o u:=by
 unfold aH;rw[a];exact c
def enters(b:Program)(c:FuncId):Bool:=match b.funcs[c]? with
 |some a=>match a.body with
  |some _=>!(a.name== "runtime.NumGoroutine")
  |none=>false
 |none=>false
def Sx(a:Ending)(b:Value->Prop)(c:List PanicEntry->Prop):Prop:=match a with
 | .returned d=>b d
 | .panicked e=>c e
 | .outgrown=>False
def PC(c:Program)(d:FuncId)(a:Array Value)(e:World)(f:Value->World->Prop)(g:List PanicEntry->World->Prop):Prop:=
 Calls c d a e λh b=>Sx h (λi=>f i b) (λj=>g j b)
def On(b:Program)(d:FuncId)(a:Array Value)(e:TypeId)(f:World)(g:Value->World->Prop)(h:List PanicEntry->World->Prop):Prop:=
 PC b d a f (λi j=>vh b e λc=>i=c/\g c j) h
def Wd(d:Program)(e:Value)(a:Array Value)(f:TypeId)(g:World)(h:Value->World->Prop)(i:List PanicEntry->World->Prop):Prop:=
 ∃c first b,e= .func (.func c) first b/\enters d c=true/\On d c (first++a++b) f g h i
def TV(c:Program)(e:FuncId)(a:Array Value)(b:World)(f g:Value->World->Prop):Prop:=
 ∃d:Sem Value,(∀b,(callFunc e a).run c b=(d.run c b).andThen λh i=>.ok (.value h) i)/\aH c d b f g
def YX(d:Program)(a:Value)(b:String)(c:Array Value)(g:TypeId)(h:World)(i:Value->World->Prop)(j:List PanicEntry->World->Prop):Prop:=
 ∃e as,(∀f,(callMethod a b c).run d f= .ok (.enter e as) f)/\On d e as g h i j
def isInt(a:Program)(b:TypeId):Bool:=match a.underlying b with
 |some (.int _)=>true
 |_=>false
def Oo(a:Program)(b:TypeId):Bool:=match a.underlying b with
 |some (.int _)=>true
 |some .bool=>true
 |some .string=>true
 |_=>false
def isMap(a:Program)(b:TypeId):Bool:=match a.underlying b with
 |some (.map _ _)=>true
 |_=>false
def wV(a:Operand):Bool:=match a with
 | .const _=>true
 |_=>false
def HS(a:Program)(g:Oper):Bool:=match g.op with
 | .lookup .. =>true
 | .next .. =>true
 | .entry _=>true
 | .mapEntry .. =>true
 | .makeSlice .. =>true
 | .convert d e _=>match isInt a d with
  |true=>match isInt a e with
   |true=>false
   |false=>true
  |false=>true
 | .binOp h f _ c _=>match h with
  | .quo=>match wV c with
   |true=>false
   |false=>true
  | .rem=>match wV c with
   |true=>false
   |false=>true
  | .shl=>match wV c with
   |true=>false
   |false=>true
  | .shr=>match wV c with
   |true=>false
   |false=>true
  | .add=>match isInt a f with
   |true=>false
   |false=>true
  | .eql=>match Oo a f with
   |true=>false
   |false=>true
  | .neq=>match Oo a f with
   |true=>false
   |false=>true
  |_=>false
 | .call {callee:=.builtin b,argTypes,..}=>match b with
  | .append=>true
  | .copy=>true
  | .cap=>true
  | .len=>isMap a (argTypes.getD 0 0)
  |_=>false
 |_=>false
def PV(b:Operand->Value)(k:Oper):Option (Sem Value):=match k.op with
 | .move c| .assign c=>some (.pure (b c))
 | .pick d w n=>some (do pure (if<-asBool (b d)then b w else b n))
 | .alloc i=>some (Instr.alloc i true (.tuple #[]))
 | .box i c=>some (Instr.box i (b c))
 | .build j e=>some (Instr.build j (e.map λ(o,c)=>(o,b c)))
 | .buildSlice j p e=>some (Instr.buildSlice j p (e.map λ(o,c)=>(o,b c)))
 | .waits x=>some (Instr.waits x)
 | .binOp m a c q _=>some (do eqGuard m a c q (b c) (b q);binOp m a (b c) (b q))
 | .unOp m _ c=>some (Op.unary m (b c))
 | .convert r s c=>some (convert r s (b c))
 | .makeInterface a c=>some (Instr.makeInterface a (b c))
 | .makeFunc y first f=>some (Instr.makeFunc y (first.map b) (f.map b))
 | .makeMap j z=>some (Instr.makeMap j (z.map b))
 | .makeSlice j A d=>some (Instr.makeSlice j (b A) (b d))
 | .fieldAddr B c t=>some (Instr.fieldAt B (b c) t)
 | .field a c t=>some (Instr.field a (b c) t)
 | .index a c l=>some (Instr.index a (b c) (b l))
 | .lookup a c l u=>some (Instr.lookup a (b c) (b l) u)
 | .mapEntry j C E=>some (Instr.mapEntry j (b C) (b E))
 | .range a c=>some (Instr.range a (b c))
 | .next v g=>some (Instr.next (b v) g k.type)
 | .entry v=>some (Instr.entry (b v))
 | .typeAssert c a h u=>some (Instr.typeAssert (b c) a h u)
 | .extract j l=>some (Instr.extract (b j) l)
 | .panic c=>some (Instr.panic (b c))
 | .call d=>match d.callee with
  | .builtin n=>match n with
   | .append=>some (Builtin.append_ d.argTypes k.type (d.args.map b))
   | .cap=>some (Builtin.cap_ d.argTypes k.type (d.args.map b))
   | .clear=>some (Builtin.clear_ d.argTypes k.type (d.args.map b))
   | .copy=>some (Builtin.copy_ d.argTypes k.type (d.args.map b))
   | .delete=>some (Builtin.delete_ d.argTypes k.type (d.args.map b))
   | .len=>some (Builtin.len_ d.argTypes k.type (d.args.map b))
   | .max=>some (Builtin.max_ d.argTypes k.type (d.args.map b))
   | .min=>some (Builtin.min_ d.argTypes k.type (d.args.map b))
   | .panic=>some (Instr.panic ((d.args.map b).getD 0 .nilIface))
   |_=>none
  |_=>none
 |_=>none
def Uw(a:Operand->Value)(f:Oper):Option (Sem Unit):=match f.op with
 | .mapUpdate b c e d| .insert b c e d=>some (Instr.mapUpdate b (a c) (a e) (a d))
 | .entryStore b c g d=>some (Instr.entryStore b (a c) (a g) (a d))
 | .ready h=>some (Instr.ready h)
 |_=>none
def tT{b c f:Type}(a:Result b)(d:b->World->Result c)(e:c->World->Result f):(a.andThen d).andThen e=a.andThen λg h=>(d g h).andThen e:=by
 cases a<;>rfl
def jH(b:PV e8 P=some e2)(d:Program)(e:World):
  (execOp e8 P).run d e=(e2.run d e).andThen λh i=>.ok (.value h) i:=by
 obtain⟨j,k,f,l,c,guard⟩:=P
 cases k
 case call m=>
  obtain⟨a,g,n⟩:=m
  cases a
  case builtin o=>
   cases o<;>simp only[PV,Option.some.injEq,reduceCtorEq]at b<;>subst b<;>simp[execOp,resolve,invoke,builtin]
  all_goals simp[PV]at b
 all_goals first
  |(cases b;done)
  |(cases b;simp[execOp];done)
  |(cases b;simp only[execOp,Sem.run_bind,Sem.run_pure,tT,Result.andThen_ok];done)
  |(cases b;simp only[execOp,Sem.run_bind,Sem.run_pure,tT,Result.andThen_ok];rfl)
def PW(a:Uw e8 P=some h0)(c:Program)(d:World):
  (execOp e8 P).run c d=(h0.run c d).andThen λ_ f=>.ok .skip f:=by
 obtain⟨g,h,e,i,b,guard⟩:=P
 cases h
 all_goals first
  |(simp only[Uw,Option.some.injEq]at a;subst a;simp[execOp];done)
  |(simp[Uw]at a;done)
section
variable {P:Program}
def dA(P:Program)(a:TypeId)(c:Bool)(d:vg P a=c)(g:∃b,P.underlying a=some b)(e:World):(isAgg a).run P e= .ok c e:=by
 obtain⟨b,f⟩:=g;unfold vg at d;rw[f]at d;simp only[isAgg,Sem.run_bind,run_underlying f,Result.andThen_ok]
 cases b<;>simp_all
def FZ(a:fe P g=w)(d:w≠undef):∃b,P.info? g=some b/\b.zero=some w:=by
 unfold fe at a;split at a
 ·rename_i b e
  split at a
  ·rename_i f c;exact⟨b,e,by rw[c,a]⟩
  ·exact absurd a.symm d
 ·exact absurd a.symm d
def dU(b:P.info? g=some e5)(a:World):(sizeOf g).run P a= .ok e5.size a:=by
 simp[sizeOf,typeInfo,b]
def iV(a:P.info? g=some e5):mB P g=e5.size:=by simp[mB,a]
def wW(c:k.heap=b.heap)(a:Addr):k.cell? a=b.cell? a:=by simp[World.cell?,c]
def ow.out(k:∃n,P.underlying g=some n)(a:ow P g w b S):
  ∃c,(∀d,d.heap=b.heap->(Instr.loadAt g w).run P d= .ok c d)/\S c:=by
 unfold ow at a;split at a
 ·rename_i h
  split at a
  ·rename_i i
   split at a
   ·rename_i y o
    split at a
    ·rename_i p
     obtain⟨l,q,a⟩:=Sw.out a;obtain⟨j,a⟩:=iU.out a;obtain⟨r,m,_⟩:=FZ o (by simp[undef]);have s:r.size=l.length:=by
      have:=Nat.eq_of_beq_eq_true p;rw[iV m]at this;simp[this,q]
     refine⟨_,λd e=>?_,a⟩;have t:∀f c,l[f]? =some c->d.cell? (h.add f)=some c:=λf c u=>by
      rw[wW e];have:=j f c u;simpa using this
     have v:=run_loadCells_list (P:=P) (w:=d) h l t;simp only[Instr.loadAt,Instr.sureAddr,loadVar,Sem.run_bind,Sem.run_pure,Result.andThen_ok,dA P g _ i k,if_true,dU m,s,v]
    ·exact a.elim
   ·exact a.elim
  ·rename_i i
   obtain⟨c,x,a⟩:=Rj.out a;refine⟨c,λd e=>?_,a⟩;have j:d.cell? h=some c:=by rw[wW e];exact x
   simp[Instr.loadAt,Instr.sureAddr,loadVar,dA P g _ i k,load,Sem.run,j]
 ·exact a.elim
def jG.out{e:Addr}{f:World->Prop}:∀{l:List Value} {c:Nat} {b:World},(∀v∈l,v.oneCell'=true)->jG e c l b f->∃d,(storeCells e l c).run P b= .ok () d/\f d
 |[],c,b,_,a=>⟨b,rfl,a⟩
 |v::l,c,b,g,a=>by
  obtain⟨⟨n,h⟩,i,a⟩:=a;obtain⟨d,j,a⟩:=jG.out (l:=l) (λv k=>g v (List.mem_cons_of_mem _ k)) a;refine⟨d,?_,a⟩;have m:=run_store P b (e.add c) v .plain (g v (List.mem_cons_self ..));simp only[storeCells,Sem.run_bind,m,h,i];simpa using j
def xJ.out{h:TypeId}{k b:Value}{i:World}{l:World->Prop}(c:∃f,P.info? h=some f)(a:xJ P h k b i l):
  ∃g,(Instr.storeAt h k b).run P i= .ok () g/\l g:=by
 obtain⟨f,c⟩:=c;unfold xJ at a;split at a
 ·rename_i m
  split at a
  ·split at a
   ·rename_i cs
    split at a
    ·rename_i d
     split at a
     ·rename_i e
      obtain⟨g,n,a⟩:=jG.out (P:=P) (λb o=>by simpa using List.all_eq_true.1 e b o) a;refine⟨g,?_,a⟩;have j:cs.size=f.size:=by have:=Nat.eq_of_beq_eq_true d;rwa [iV c]at this
      simp[Instr.storeAt,Instr.sureAddr,storeVar,dU c,Value.cells,j,n]
     ·exact a.elim
    ·exact a.elim
   ·exact a.elim
  ·split at a
   ·rename_i d
    have j:f.size=1:=by have:=Nat.eq_of_beq_eq_true d;rwa [iV c]at this
    cases e:b.oneCell' with
    |false=>rw[e]at a;exact a.elim
    |true=>
     rw[e]at a;obtain⟨⟨s,p⟩,q,a⟩:=a;refine⟨_,?_,a⟩;have r:b.cells= #[b]:=by cases b<;>first|rfl|(simp[Value.oneCell']at e)
     have d:=run_store P i m b .plain e;rw[p,q]at d;simp[Instr.storeAt,Instr.sureAddr,storeVar,dU c,r,j,storeCells,Addr.add_zero',d]
   ·exact a.elim
 ·exact a.elim
def Uu.out(m:∀f,(P.underlying g=some (.slice f)\/∃n,P.underlying g=some (.array n f))->∃h,P.info? f=some h)(a:Uu P g w c3 S):
  ∃o,(∀e,(Instr.indexAt g w c3).run P e= .ok o e)/\S o:=by
 unfold Uu at a;split at a
 ·rename_i b c
  split at a
  ·rename_i p n t q r
   obtain⟨s,i,rfl,j,k,a⟩:=a;obtain⟨h,d⟩:=m b (.inl c);refine⟨_,λe=>?_,a⟩;simp[Instr.indexAt,asIntOf,run_underlying c,j,k,dU d,Om,iV d,Addr.add_lit]
  ·exact a.elim
 ·rename_i l b c
  split at a
  ·rename_i u q r
   obtain⟨s,i,rfl,j,k,a⟩:=a;obtain⟨h,d⟩:=m b (.inr ⟨l,c⟩);refine⟨_,λe=>?_,a⟩;simp[Instr.indexAt,Instr.sureAddr,asIntOf,run_underlying c,j,k,dU d,Om,iV d,Addr.add_lit]
  ·exact a.elim
 ·exact a.elim
def HR.out(d:P.underlying g=some .string)(a:HR w c3 S):∃c,(∀b,(Instr.index g w c3).run P b= .ok c b)/\S c:=by
 unfold HR at a;split at a
 ·rename_i h i j
  obtain⟨e,k,f,a⟩:=a;refine⟨_,λb=>?_,a⟩;simp[Instr.index,asIntOf,run_underlying d,e,f]
 ·exact a.elim
def cd(c:Value)(b:Int)(f:IntKind)(g:c= .int f b)(d:Nat)(a:BoundsCode)(e:World)(h:0<=b/\b<=d):(Instr.sliceBound c d a).run P e= .ok b.toNat e:=by
 subst g;simp[Instr.sliceBound,asIntOf,h]
def Uv.out{j k m:Option Value}(y:∀t,P.underlying g=some (.slice t)->∃u,P.info? t=some u)(a:Uv P g w j k m S):
  ∃v,(∀b,(Instr.sliceAt g w j k m).run P b= .ok v b)/\S v:=by
 unfold Uv at a;split at a
 ·rename_i d
  have f:∀b,(Instr.sliceAt g w j k m).run P b=(Instr.slice g w j k m).run P b:=λb=>by simp[Instr.sliceAt,run_underlying d]
  split at a
  ·rename_i s
   split at a
   ·exact⟨_,λb=>by rw[f];simp[Instr.slice,Instr.sliceBounds,run_underlying d],a⟩
   ·rename_i l
    obtain⟨c,h,a⟩:=a;exact⟨_,λb=>by rw[f];simp[Instr.slice,Instr.sliceBounds,run_underlying d,cd _ l _ rfl s.size _ b ⟨c,h⟩],a⟩
   ·rename_i e
    obtain⟨c,h,a⟩:=a;exact⟨_,λb=>by rw[f];simp[Instr.slice,Instr.sliceBounds,run_underlying d,cd _ e _ rfl s.size _ b ⟨c,h⟩],a⟩
   ·rename_i l _ e
    obtain⟨c,h,n,a⟩:=a;exact⟨_,λb=>by rw[f];simp[Instr.slice,Instr.sliceBounds,run_underlying d,cd _ e _ rfl s.size _ b ⟨by omega,n⟩,cd _ l _ rfl e.toNat _ b ⟨c,by omega⟩],a⟩
   ·exact a.elim
  ·exact a.elim
 ·rename_i o d
  obtain⟨u,i⟩:=y o d;have f:∀b,(Instr.sliceAt g w j k m).run P b=(Instr.slice g w j k m).run P b:=λb=>by simp[Instr.sliceAt,run_underlying d]
  split at a
  ·rename_i q x p
   split at a
   ·refine⟨_,λb=>?_,a⟩
    rw[f]
    cases q<;>simp[Instr.slice,Instr.sliceBounds,run_underlying d,dU i,Addr.add_zero']
   ·rename_i l
    obtain⟨c,h,a⟩:=a;refine⟨_,λb=>?_,a⟩;rw[f];simp[Instr.slice,Instr.sliceBounds,run_underlying d,dU i,cd _ l _ rfl x _ b ⟨c,h⟩,cM,iV i]
   ·rename_i e
    obtain⟨c,h,a⟩:=a;refine⟨_,λb=>?_,a⟩;rw[f]
    cases q<;>simp[Instr.slice,Instr.sliceBounds,run_underlying d,dU i,cd _ e _ rfl p _ b ⟨c,h⟩,Addr.add_zero']
   ·rename_i l _ e
    obtain⟨c,h,n,a⟩:=a;refine⟨_,λb=>?_,a⟩;rw[f];simp[Instr.slice,Instr.sliceBounds,run_underlying d,dU i,cd _ e _ rfl p _ b ⟨by omega,n⟩,cd _ l _ rfl e.toNat _ b ⟨c,by omega⟩,cM,iV i]
   ·exact a.elim
  ·rename_i q x p _ r
   split at a
   ·rename_i e
    obtain⟨c,h,n,a⟩:=a;refine⟨_,λb=>?_,a⟩;rw[f]
    cases q<;>simp[Instr.slice,Instr.sliceBounds,run_underlying d,dU i,cd _ r _ rfl p _ b ⟨by omega,n⟩,cd _ e _ rfl r.toNat _ b ⟨c,by omega⟩,Addr.add_zero']
   ·rename_i l _ e
    obtain⟨c,h,n,z,a⟩:=a;refine⟨_,λb=>?_,a⟩;rw[f];simp[Instr.slice,Instr.sliceBounds,run_underlying d,dU i,cd _ r _ rfl p _ b ⟨by omega,z⟩,cd _ e _ rfl r.toNat _ b ⟨by omega,by omega⟩,cd _ l _ rfl e.toNat _ b ⟨c,by omega⟩,cM,iV i]
   ·exact a.elim
  ·exact a.elim
 ·exact a.elim
end
def known(a:Program)(b:TypeId):Bool:=match a.underlying b,a.info? b with
 |some _,some _=>true
 |_,_=>false
def ic(a:Program)(c:TypeId):Bool:=match a.underlying c with
 |some (.slice b)=>match a.info? b with
  |some _=>true
  |none=>false
 |some (.array _ b)=>match a.info? b with
  |some _=>true
  |none=>false
 |some _=>true
 |none=>false
def fI(a:Bool)(b:Prop):Prop:=match a with
 |true=>b
 |false=>False
def fI.out(a:fI I N):I=true/\N:=by
 cases I
 ·exact a.elim
 ·exact⟨rfl,a⟩
abbrev cy:=Nat->Value
abbrev iW:=Exit->cy->dq->List Deferred->World->Prop
def PX(c:Value)(b:Value->Prop):Prop:=match c with
 | .pointer d=>YW d b
 | .func (.func e) first a=>b (.func (.func e) first a)
 |_=>False
def wX(a:Program)(b c:Nat):List Oper->Value
 |[]=>undef
 |e::d=>match e.op with
  | .extract (.tmp f) g=>match Nat.beq f b with
   |true=>match Nat.beq g c with
    |true=>fe a e.type
    |false=>wX a b c d
   |false=>wX a b c d
  |_=>wX a b c d
def Bb(c:Program)(a:Array Oper)(b:Option Tmp)(d:Nat):Value:=match b with
 |some b=>wX c b d a.toList
 |none=>undef
def iq(g:Bool)(a:Value)(b:Value->Prop):Prop:=(a= .tuple #[.bool false]/\b (.tuple #[.bool false]))\/(match g with
 |true=>∃c d,a= .tuple #[.bool true,.int .i64 c,.int .i32 d]/\b (.tuple #[.bool true,.int .i64 c,.int .i32 d])
 |false=>∃e f,a= .tuple #[.bool true,e,f]/\b (.tuple #[.bool true,e,f]))
def iq.out(h:iq I w S):S w:=by
 unfold iq at h;rcases h with⟨rfl,h⟩|h
 ·exact h
 ·cases I
  ·obtain⟨a,b,rfl,h⟩:=h;exact h
  ·obtain⟨a,b,rfl,h⟩:=h;exact h
def HT(c z1:Value)(d:Value)(e:Value->Prop):Prop:=yY c λa=>yY z1 λb=>d= .tuple #[a,b]/\e (.tuple #[a,b])
def HT.out{c z1:Value}(e:HT c z1 w S):S w:=by
 obtain⟨b,f⟩:=yY.out (z:=c) (φ:=λb=>yY z1 λa=>w= .tuple #[b,a]/\S (.tuple #[b,a])) e;obtain⟨a,d⟩:=yY.out (z:=z1) (φ:=λa=>w= .tuple #[b,a]/\S (.tuple #[b,a])) f;rw[d.1];exact d.2
def HU(c:Value)(d:Value)(e:Value->Prop):Prop:=yY c λa=>∃b,d= .tuple #[a,.bool b]/\e (.tuple #[a,.bool b])
def HU.out{z a:Value}(d:HU z a S):S a:=by
 obtain⟨b,c,e,f⟩:=yY.out (z:=z) (φ:=λb=>∃c,a= .tuple #[b,.bool c]/\S (.tuple #[b,.bool c])) d;rw[e];exact f
def Ux(i:Program)(q:Array Oper)(c:cy)(d:Oper)(o:iW)(k:dq->List Deferred->World->Prop)(a:dq)(e:List Deferred)(j:World):Prop:=
 match d.op with
 | .load m u=>fI (known i m) (ow i m (ev c a u) j λh=>k (cJ a d.dst h) e j)
 | .store m u p=>fI (known i m) (xJ i m (ev c a u) (ev c a p) j λb=>k (cJ a d.dst undef) e b)
 | .indexAddr m p t=>fI (ic i m) (Uu i m (ev c a p) (ev c a t) λh=>k (cJ a d.dst h) e j)
 | .slice m p y z A=>fI (ic i m) (Uv i m (ev c a p) (y.map (ev c a)) (z.map (ev c a)) (A.map (ev c a)) λh=>k (cJ a d.dst h) e j)
 | .nilCheck p=>PX (ev c a p) λh=>k (cJ a d.dst h) e j
 | .index m p t=>match i.underlying m with
  |some .string=>HR (ev c a p) (ev c a t) λh=>k (cJ a d.dst h) e j
  |_=>aH i (Instr.index m (ev c a p) (ev c a t)) j (λh b=>k (cJ a d.dst h) e b) (λl b=>o (.panic [{v:=l,recovered:=false}]) c a e b)
 | .call {callee:=.value (.func g),args,..}=>match enters i g with
  |true=>On i g (args.map (ev c a)) d.type j (λh b=>k (cJ a d.dst h) e b) (λs b=>o (.panic s) c a e b)
  |false=>TV i g (args.map (ev c a)) j (λh b=>vh i d.type λn=>h=n/\k (cJ a d.dst n) e b) (λl b=>o (.panic [{v:=l,recovered:=false}]) c a e b)
 | .call {callee:=.value f,args,..}=>Wd i (ev c a f) (args.map (ev c a)) d.type j (λh b=>k (cJ a d.dst h) e b) (λs b=>o (.panic s) c a e b)
 | .call {callee:=.invoke f name,args,..}=>YX i (ev c a f) name (args.map (ev c a)) d.type j (λh b=>k (cJ a d.dst h) e b) (λs b=>o (.panic s) c a e b)
 | .defer {callee:=.value f,args,..}=>match ev c a f with
  | .func B first v=>k (cJ a d.dst undef) ({target:=.fn B v,args:=first++args.map (ev c a)}::e) j
  |_=>False
 | .next w r=>aH i (Instr.next (ev c a w) r d.type) j (λh b=>iq r h λn=>k (cJ a d.dst n) e b) (λl b=>o (.panic [{v:=l,recovered:=false}]) c a e b)
 | .entry w=>aH i (Instr.entry (ev c a w)) j (λh b=>HT (Bb i q d.dst 0) (Bb i q d.dst 1) h λn=>k (cJ a d.dst n) e b) (λl b=>o (.panic [{v:=l,recovered:=false}]) c a e b)
 | .mapEntry m C E=>aH i (Instr.mapEntry m (ev c a C) (ev c a E)) j (λh b=>HT (Bb i q d.dst 0) (Bb i q d.dst 1) h λn=>k (cJ a d.dst n) e b) (λl b=>o (.panic [{v:=l,recovered:=false}]) c a e b)
 | .typeAssert p F x true=>aH i (Instr.typeAssert (ev c a p) F x true) j (λh b=>HU (fe i x) h λn=>k (cJ a d.dst n) e b) (λl b=>o (.panic [{v:=l,recovered:=false}]) c a e b)
 |_=>match PV (ev c a) d with
  |some r=>match HS i d with
   |true=>aH i r j (λh b=>vh i d.type λn=>h=n/\k (cJ a d.dst n) e b) (λl b=>o (.panic [{v:=l,recovered:=false}]) c a e b)
   |false=>aH i r j (λh b=>k (cJ a d.dst h) e b) (λl b=>o (.panic [{v:=l,recovered:=false}]) c a e b)
  |none=>match Uw (ev c a) d with
   |some r=>jU i r j (λb=>k (cJ a d.dst undef) e b) (λl b=>o (.panic [{v:=l,recovered:=false}]) c a e b)
   |none=>False
def iX(b:enters h z=true)(a:Array Value)(c:World):(callFunc z a).run h c= .ok (.enter z a) c:=by
 unfold enters at b;split at b
 ·rename_i d e
  split at b
  ·rename_i i f
   have g:¬d.name= "runtime.NumGoroutine":=by simpa using b
   simp[callFunc,program,Sem.run,e,f,g]
  ·cases b
 ·cases b
def vi{next:Act->World->Prop}(j:On h z r g b o a1)(k:∀c a,o c a->next (J.put P.dst c) a)(l:∀d a,a1 d a->d7 (.panic d) J a):
  P.upon h J next d7 (.ok (.enter z r) b):=by
 rw[Oper.upon_enter];refine Calls.mono j λm a e=>?_
 cases m with
 |returned c=>
  obtain⟨f,rfl,i⟩:=vh.out (φ:=λf=>c=f/\o f a) e;exact k _ _ i
 |panicked d=>exact l _ _ e
 |outgrown=>exact e.elim
def known.out{P:Program}(a:known P g=true):(∃b,P.underlying g=some b)/\∃c,P.info? g=some c:=by
 unfold known at a;split at a
 ·rename_i b c d e;exact⟨⟨b,d⟩,c,e⟩
 ·cases a
def ic.out{P:Program}(b:ic P g=true):∀a,(P.underlying g=some (.slice a)\/∃f,P.underlying g=some (.array f a))->∃c,P.info? a=some c:=by
 intro a d;unfold ic at b;rcases d with d|⟨f,d⟩
 ·rw[d]at b
  cases e:P.info? a with
  |none=>simp[e]at b
  |some c=>exact⟨c,rfl⟩
 ·rw[d]at b
  cases e:P.info? a with
  |none=>simp[e]at b
  |some c=>exact⟨c,rfl⟩
variable{U:cy}{c5:iW}
def MA{P:Program}{h:Oper}{next:Act->World->Prop}(q:Rel a U O J)(M:∀N,h.dst=some N->N<a)(c:Ux P T U h c5 h9 O J.defers b)(Q:∀e B f,Rel a U (cJ O h.dst e) B->h9 (cJ O h.dst e) B.defers f->next B f)(y:∀R f,c5 (.panic R) U O J.defers f->d7 (.panic R) J f):h.wp P J b next d7:=by
 have u:∀e f,h9 (cJ O h.dst e) J.defers f->next (J.put h.dst e) f:=λe f C=>
  Q e _ _ (q.put h.dst M e) (by rw[put_defers];exact C)
 have k:∀i:Sem Value,(∀b,(execOp (ev U O) h).run P b=(i.run P b).andThen λe f=>.ok (.value e) f)->
   aH P i b (λe f=>h9 (cJ O h.dst e) J.defers f) (λE f=>c5 (.panic [{v:=E,recovered:=false}]) U O J.defers f)->h.wp P J b next d7:=by
  intro i o m;unfold Oper.wp;rw[q.eval,o];unfold aH at m
  cases n:i.run P b with
  |ok e f=>
   rw[n]at m;exact u _ _ m
  |halt l f=>
   rw[n]at m
   cases l with
   |panic e=>exact y _ _ m
   |_=>exact m.elim
 have v:∀i:Sem Unit,(∀b,(execOp (ev U O) h).run P b=(i.run P b).andThen λ_ f=>.ok .skip f)->
   jU P i b (λf=>h9 (cJ O h.dst undef) J.defers f) (λE f=>c5 (.panic [{v:=E,recovered:=false}]) U O J.defers f)->h.wp P J b next d7:=by
  intro i o m;unfold Oper.wp;rw[q.eval,o];unfold jU at m
  cases n:i.run P b with
  |ok e f=>
   rw[n]at m;exact u _ _ m
  |halt l f=>
   rw[n]at m
   cases l with
   |panic e=>exact y _ _ m
   |_=>exact m.elim
 have j:∀(i:Sem Value),(∀b,(execOp (ev U O) h).run P b=(i.run P b).andThen λe f=>.ok (.value e) f)->
   (∃e,i.run P b= .ok e b/\h9 (cJ O h.dst e) J.defers b)->h.wp P J b next d7:=by
  rintro i o ⟨e,s,C⟩;unfold Oper.wp;rw[q.eval,o,s];exact u _ _ C
 unfold Ux at c;split at c
 ·rename_i p l g
  obtain⟨r,c⟩:=c.out;obtain⟨e,s,c⟩:=ow.out (known.out r).1 c;exact j (Instr.loadAt p (ev U O l)) (λb=>by simp[execOp,g]) ⟨e,s b rfl,c⟩
 ·rename_i p l V g
  obtain⟨r,c⟩:=c.out;obtain⟨f,W,c⟩:=xJ.out (P:=P) (known.out r).2 c;exact v (Instr.storeAt p (ev U O l) (ev U O V)) (λb=>by simp[execOp,g]) (jU.mk W c)
 ·rename_i p l z g
  obtain⟨r,c⟩:=c.out;obtain⟨e,s,c⟩:=Uu.out (ic.out r) c;exact j (Instr.indexAt p (ev U O l) (ev U O z)) (λb=>by simp[execOp,g]) ⟨e,s b,c⟩
 ·rename_i p l X Y Z g
  obtain⟨r,c⟩:=c.out;obtain⟨e,s,c⟩:=Uv.out (λO F=>ic.out r O (.inl F)) c;exact j (Instr.sliceAt p (ev U O l) (X.map (ev U O)) (Y.map (ev U O)) (Z.map (ev U O))) (λb=>by simp[execOp,g]) ⟨e,s b,c⟩
 ·rename_i l g
  unfold PX at c;split at c
  ·rename_i a5 H
   obtain⟨a6,a0,rfl,c⟩:=c;unfold Oper.wp;rw[q.eval];simp only[execOp,g,H,Sem.run_pure,Oper.upon_value];exact u _ _ c
  ·rename_i x first t H
   unfold Oper.wp;rw[q.eval];simp only[execOp,g,H,Sem.run_pure,Oper.upon_value];exact u _ _ c
  ·exact c.elim
 ·rename_i p l z g
  split at c
  ·rename_i I
   obtain⟨e,s,c⟩:=HR.out I c;exact j (Instr.index p (ev U O l) (ev U O z)) (λb=>by simp[execOp,g]) ⟨e,s b,c⟩
  ·exact k (Instr.index p (ev U O l) (ev U O z)) (λb=>by simp[execOp,g]) c
 ·rename_i x d w g
  split at c
  ·rename_i r
   have n:(execOp (ev U O) h).run P b= .ok (.enter x (d.map (ev U O))) b:=by
    simp[execOp,g,resolve,ev,Deferred.ofValue,invoke,iX r]
   unfold Oper.wp;rw[q.eval,n];exact vi c u y
  ·obtain⟨i,o,c⟩:=c
   refine k i (λb=>by simp[execOp,g,resolve,ev,Deferred.ofValue,invoke,o]) (aH.imp ?_ c);intro e f c;obtain⟨a1,rfl,c⟩:=vh.out c;exact c
 ·rename_i A d w a7 g
  obtain⟨x,first,t,K,r,c⟩:=c;have n:(execOp (ev U O) h).run P b= .ok (.enter x (first++d.map (ev U O)++t)) b:=by
   simp[execOp,g,resolve,K,Deferred.ofValue,invoke,iX r]
  unfold Oper.wp;rw[q.eval,n];exact vi c u y
 ·rename_i A S d w g
  obtain⟨x,as,hm,c⟩:=c;have n:(execOp (ev U O) h).run P b= .ok (.enter x as) b:=by
   have F:(d.map (ev U O)).extract 0 d.size=d.map (ev U O):=by
    have:d.size=(d.map (ev U O)).size:=by simp
    rw[this,Array.extract_size]
   have h0:(#[ev U O A]++d.map (ev U O))[0]? =some (ev U O A):=by rw[Array.getElem?_append_left (Nat.zero_lt_one)];rfl
   simp[execOp,g,resolve,invoke,F,hm,h0]
  unfold Oper.wp;rw[q.eval,n];exact vi c u y
 ·rename_i A d w g
  split at c
  ·rename_i fn first t K
   have n:(execOp (ev U O) h).run P b= .ok (.defer {target:=.fn fn t,args:=first++d.map (ev U O)}) b:=by
    simp[execOp,g,resolve,K,Deferred.ofValue]
   unfold Oper.wp;rw[q.eval,n,Oper.upon_defer];exact Q undef _ _ ((q.defers _).put h.dst M undef) (by rw[put_defers];exact c)
  ·exact c.elim
 ·rename_i L i g
  refine k (Instr.next (ev U O L) i h.type) (λb=>by simp[execOp,g]) (aH.imp (λe f c=>?_) c);exact c.out
 ·rename_i L g
  refine k (Instr.entry (ev U O L)) (λb=>by simp[execOp,g]) (aH.imp (λe f c=>?_) c);exact c.out
 ·rename_i p a2 a3 g
  refine k (Instr.mapEntry p (ev U O a2) (ev U O a3)) (λb=>by simp[execOp,g]) (aH.imp (λe f c=>?_) c);exact c.out
 ·rename_i l xT a4 g
  refine k (Instr.typeAssert (ev U O l) xT a4 true) (λb=>by simp[execOp,g]) (aH.imp (λe f c=>?_) c);exact c.out
 ·split at c
  ·rename_i i o
   split at c
   ·refine k i (λb=>jH o P b) (aH.imp ?_ c)
    intro e f c;obtain⟨a1,rfl,c⟩:=vh.out c;exact c
   ·exact k i (λb=>jH o P b) c
  ·split at c
   ·rename_i i o
    exact v i (λb=>PW o P b) c
   ·exact c.elim
def kh(a:Array Oper)(b:Nat):Option Nat:=match a[b]? with
 |some c=>c.dst
 |none=>none
def CW(d:Program)(c:cy)(a:Array Oper)(e:iW):List Oper->(dq->List Deferred->World->Prop)->dq->List Deferred->World->Prop
 |[],g,f,h,i=>g f h i
 |k::b,g,f,h,i=>match k.guard with
  |none=>Ux d a c k e (CW d c a e b g) f h i
  |some (m,j)=>match kh a m with
   |none=>False
   |some l=>match get c f l with
    | .bool n=>al n
     (match j with
      |true=>Ux d a c k e (CW d c a e b g) ((l,.bool true)::f) h i
      |false=>CW d c a e b g (cJ ((l,.bool true)::f) k.dst undef) h i)
     (match j with
      |true=>CW d c a e b g (cJ ((l,.bool false)::f) k.dst undef) h i
      |false=>Ux d a c k e (CW d c a e b g) ((l,.bool false)::f) h i)
    | .tuple _=>CW d c a e b g (cJ f k.dst undef) h i
    |_=>False
def Rel.again(b:Rel a U O J)(d:get U O c=w):Rel a U ((c,w)::O) J:=
 ⟨b.size,λf=>by
  rw[eT,b.slot];split
  ·rename_i e;subst e;exact d
  ·rfl⟩
def sL(c:get U O a=w)(b:Nat):get U ((a,w)::O) b=get U O b:=by
 rw[eT];split
 ·rename_i d;subst d;exact c.symm
 ·rfl
def oZ(d:Rel a U O J)(b:kh T c=some i)(j:i<a):
  yielded T J.tmps c=match get U O i with| .bool f=>some f|_=>none:=by
 have g:((T[c]?).bind (·.dst))=some i:=by
  unfold kh at b
  cases e:T[c]? with
  |none=>rw[e]at b;simp at b
  |some k=>rw[e]at b;simpa using b
 unfold yielded;rw[g];have l:=d.size;have h:J.tmps[i]? =some (get U O i):=by
  rw[<-d.slot];have:i<J.tmps.size:=by omega
  simp[Array.getD,this]
 simp only[Option.bind_some,h];split<;>simp_all
def dK(e:Nat)(f:cy)(g:dq)(h:List Nat)(i:iW):Exit->Act->World->Prop:=λj d k=>
 ∃a b,Rel e a b d/\(∀c,c∉h->get a b c=get f g c)/\i j a b d.defers k
def Bc{t:Program}{m:Nat}{e r:cy}{s:dq}{l:List Nat}{d:Array Oper}{n:iW}(H:∀I b,kh d I=some b->b<m):
  ∀(J:List Oper) (a:dq) (j:Act) (i:World),(∀g∈J,∀h,g.dst=some h->h<m/\h∈l)->Rel m e a j->(∀b,b∉l->get e a b=get r s b)->
   CW t e d n J (λa w i=>n .normal e a w i) a j.defers i->wpList t d (dK m r s l n) J j i
 |[],a,j,i,_,o,k,f=>⟨e,a,o,k,f⟩
 |g::c,a,j,i,K,o,k,f=>by
  have P:∀h,g.dst=some h->h<m:=λh L=>(K g (List.mem_cons_self ..) h L).1;have Q:∀(a:dq),(∀b,b∉l->get e a b=get r s b)->∀x b,b∉l->get e (cJ a g.dst x) b=get r s b:=by
   intro a k x b M
   cases L:g.dst with
   |none=>exact k b M
   |some h=>
    have S:=(K g (List.mem_cons_self ..) h L).2;show get e ((h,x)::a) b=_;rw[eT,if_neg (by rintro rfl;exact M S)];exact k b M
  have y:∀g∈c,∀h,g.dst=some h->h<m/\h∈l:=λg T=>K g (List.mem_cons_of_mem _ T);have p:∀(a:dq),Rel m e a j->(∀b,b∉l->get e a b=get r s b)->CW t e d n c (λa w i=>n .normal e a w i) (cJ a g.dst undef) j.defers i->
    wpList t d (dK m r s l n) c (j.put g.dst undef) i:=λa o k f=>
   Bc H c _ _ _ y (o.put _ P _) (Q a k _) (by rw[put_defers];exact f)
  have u:∀(a:dq),Rel m e a j->(∀b,b∉l->get e a b=get r s b)->Ux t d e g n (CW t e d n c λa w i=>n .normal e a w i) a j.defers i->
    g.wp t j i (wpList t d (dK m r s l n) c) (dK m r s l n):=λa o k f=>
   MA o P f (λx Y U N V=>Bc H c _ _ _ y N (Q a k x) V) (λZ U W=>⟨e,a,o,k,W⟩)
  unfold wpList;unfold CW at f;split at f
  ·rename_i B
   rw[if_pos (by simp[Region.wanted,B])];exact .inl (u a o k f)
  ·rename_i I q B
   split at f
   ·exact f.elim
   ·rename_i b R
    have v:=oZ o R (H I b R);split at f
    ·rename_i C z
     rw[z]at v;simp only at v;have O:Region.wanted g (yielded d j.tmps)=(C==q):=by
      simp only[Region.wanted,B,v]
      cases C<;>cases q<;>rfl
     rw[O];have E:=o.again z;have F:∀A,A∉l->get e ((b,.bool C)::a) A=get r s A:=λA X=>by rw[sL z];exact k A X
     cases C<;>cases q<;>simp only[al]at f
     ·exact .inl (u _ E F f)
     ·exact p _ E F f
     ·exact p _ E F f
     ·exact .inl (u _ E F f)
    ·rename_i vs z
     rw[z]at v;simp only at v;have O:Region.wanted g (yielded d j.tmps)=false:=by
      simp[Region.wanted,B,v]
     rw[O];exact p _ o k f
    ·exact f.elim
def CX{a:Type}(b:Program):Sem a->Option a
 | .pure c=>some c
 | .program d=>CX b (d b)
 |_=>none
def yH{e:Type}{d:Program}:∀{s:Sem e} {c:e},CX d s=some c->∀b,s.run d b= .ok c b
 | .pure g,c,a,b=>by simp only[CX,Option.some.injEq]at a;subst a;rfl
 | .program f,c,a,b=>by simp only[CX]at a;exact yH (s:=f d) a b
 | .load ..,_,a,_| .store ..,_,a,_| .new ..,_,a,_| .shape ..,_,a,_| .freeze ..,_,a,_| .frozen ..,_,a,_| .getObj ..,_,a,_| .setObj ..,_,a,_
 | .choose ..,_,a,_| .sys ..,_,a,_| .mark ..,_,a,_| .halt ..,_,a,_=>by simp[CX]at a
def XI(a:Program)(e:Sem Value)(f:TypeId)(b:World)(g:Value->Prop):Prop:=vh a f λc=>(∀d,e.run a (b.drewN d)= .ok c (b.drewN d))/\g c
def We(b:Program)(e:FuncId)(a:Array Value)(f:TypeId)(c:World)(g:Value->Prop):Prop:=
 vh b f λd=>(∀h,Calls b e a (c.drewN h) λi j=>i= .returned d/\∃k,j=c.drewN k)/\g d
def Sy(d:Program)(e:cy)(c:Oper)(h:dq->Prop)(a:dq)(j:World):Prop:=
 match c.op with
 | .load f m=>fI (known d f) (ow d f (ev e a m) j λb=>h (cJ a c.dst b))
 | .indexAddr f i k=>fI (ic d f) (Uu d f (ev e a i) (ev e a k) λb=>h (cJ a c.dst b))
 | .slice f i n o p=>fI (ic d f) (Uv d f (ev e a i) (n.map (ev e a)) (o.map (ev e a)) (p.map (ev e a)) λb=>h (cJ a c.dst b))
 | .nilCheck i=>PX (ev e a i) λb=>h (cJ a c.dst b)
 | .index f i k=>match d.underlying f with
  |some .string=>HR (ev e a i) (ev e a k) λb=>h (cJ a c.dst b)
  |_=>False
 | .call {callee:=.value (.func g),args,..}=>fI (enters d g) (We d g (args.map (ev e a)) c.type j λb=>h (cJ a c.dst b))
 |_=>match PV (ev e a) c with
  |some l=>match HS d c with
   |true=>XI d l c.type j λb=>h (cJ a c.dst b)
   |false=>match CX d l with
    |some b=>h (cJ a c.dst b)
    |none=>False
  |none=>False
def tU(e:Program)(d:cy)(b:Array Oper):List Oper->(dq->Prop)->dq->World->Prop
 |[],g,c,_=>g c
 |i::a,g,c,f=>match i.guard with
  |none=>Sy e d i (λc=>tU e d b a g c f) c f
  |some (k,h)=>match kh b k with
   |none=>False
   |some j=>match get d c j with
    | .bool l=>al l
     (match h with
      |true=>Sy e d i (λc=>tU e d b a g c f) ((j,.bool true)::c) f
      |false=>tU e d b a g (cJ ((j,.bool true)::c) i.dst undef) f)
     (match h with
      |true=>tU e d b a g (cJ ((j,.bool false)::c) i.dst undef) f
      |false=>Sy e d i (λc=>tU e d b a g c f) ((j,.bool false)::c) f)
    | .tuple _=>tU e d b a g (cJ c i.dst undef) f
    |_=>False
def bE(a:World):World->Prop:=λb=>∃c,b=a.drewN c
def vj{next:Act->Prop}(v:Rel a U O J)(c:Sy h U P f3 O b)(w:∀d,f3 (cJ O P.dst d)->next (J.put P.dst d)):P.quiet h J (bE b) next:=by
 have e:∀m:Sem Value,(∀b,(execOp (ev U O) P).run h b=(m.run h b).andThen λd x=>.ok (.value d) x)->
   (∃d,(∀g,m.run h (b.drewN g)= .ok d (b.drewN g))/\f3 (cJ O P.dst d))->P.quiet h J (bE b) next:=by
  rintro m o ⟨d,f,y⟩;refine⟨d,?_,w d y⟩;rintro _ ⟨g,rfl⟩;unfold Oper.quietAt;rw[v.eval,o,f];exact⟨rfl,rfl⟩
 unfold Sy at c;split at c
 ·rename_i k j i
  obtain⟨l,c⟩:=c.out;obtain⟨d,f,c⟩:=ow.out (known.out l).1 c;exact e (Instr.loadAt k (ev U O j)) (λb=>by simp[execOp,i]) ⟨d,λg=>f _ rfl,c⟩
 ·rename_i k j p i
  obtain⟨l,c⟩:=c.out;obtain⟨d,f,c⟩:=Uu.out (ic.out l) c;exact e (Instr.indexAt k (ev U O j) (ev U O p)) (λb=>by simp[execOp,i]) ⟨d,λg=>f _,c⟩
 ·rename_i k j z A B i
  obtain⟨l,c⟩:=c.out;obtain⟨d,f,c⟩:=Uv.out (λO C=>ic.out l O (.inl C)) c;exact e (Instr.sliceAt k (ev U O j) (z.map (ev U O)) (A.map (ev U O)) (B.map (ev U O))) (λb=>by simp[execOp,i]) ⟨d,λg=>f _,c⟩
 ·rename_i j i
  unfold PX at c;split at c
  ·rename_i I q
   obtain⟨E,r,rfl,c⟩:=c;exact e (.pure (.pointer (some ⟨E,r,none⟩))) (λb=>by simp[execOp,i,q]) ⟨_,λg=>rfl,c⟩
  ·rename_i s first t q
   exact e (.pure (.func (.func s) first t)) (λb=>by simp[execOp,i,q]) ⟨_,λg=>rfl,c⟩
  ·exact c.elim
 ·rename_i k j p i
  split at c
  ·rename_i u
   obtain⟨d,f,c⟩:=HR.out u c;exact e (Instr.index k (ev U O j) (ev U O p)) (λb=>by simp[execOp,i]) ⟨d,λg=>f _,c⟩
  ·exact c.elim
 ·rename_i s n F i
  obtain⟨l,c⟩:=c.out;obtain⟨d,f,c⟩:=vh.out c;refine⟨d,?_,w d c⟩;rintro _ ⟨g,rfl⟩;have H:(execOp (ev U O) P).run h (b.drewN g)= .ok (.enter s (n.map (ev U O))) (b.drewN g):=by
   simp[execOp,i,resolve,ev,Deferred.ofValue,invoke,iX l]
  unfold Oper.quietAt;rw[v.eval,H];exact⟨rfl,f g⟩
 ·split at c
  ·rename_i m o
   split at c
   ·obtain⟨d,f,c⟩:=vh.out c
    exact e m (λb=>jH o h b) ⟨d,f,c⟩
   ·split at c
    ·rename_i d f
     exact e m (λb=>jH o h b) ⟨d,λg=>yH f _,c⟩
    ·exact c.elim
  ·exact c.elim
def rV{w:Program}{n:Nat}{h B0:cy}{e0:dq}{W:List Nat}{e:Array Oper}{x:World}{y:dq->Prop}(L:∀C a,kh e C=some a->a<n):
  ∀(E:List Oper) (b:dq) (j:Act),(∀c∈E,∀f,c.dst=some f->f<n/\f∈W)->Rel n h b j->(∀a,a∉W->get h b a=get B0 e0 a)->
   tU w h e E y b x->wpQuiet w e (bE x) (λs=>∃o,Rel n h o s/\s.defers=j.defers/\(∀a,a∉W->get h o a=get B0 e0 a)/\y o) E j
 |[],b,j,_,m,l,d=>⟨b,m,rfl,l,d⟩
 |c::i,b,j,F,m,l,d=>by
  have N:∀f,c.dst=some f->f<n:=λf H=>(F c (List.mem_cons_self ..) f H).1;have O:∀(b:dq),(∀a,a∉W->get h b a=get B0 e0 a)->∀g a,a∉W->get h (cJ b c.dst g) a=get B0 e0 a:=by
   intro b l g a I
   cases H:c.dst with
   |none=>exact l a I
   |some f=>
    have P:=(F c (List.mem_cons_self ..) f H).2;show get h ((f,g)::b) a=_;rw[eT,if_neg (by rintro rfl;exact I P)];exact l a I
  have J:∀c∈i,∀f,c.dst=some f->f<n/\f∈W:=λc Q=>F c (List.mem_cons_of_mem _ Q);have p:∀(b:dq) (g:Value),Rel n h b j->(∀a,a∉W->get h b a=get B0 e0 a)->tU w h e i y (cJ b c.dst g) x->
    wpQuiet w e (bE x) (λs=>∃o,Rel n h o s/\s.defers=j.defers/\(∀a,a∉W->get h o a=get B0 e0 a)/\y o) i (j.put c.dst g):=λb g m l d=>by
   have:=rV L i (cJ b c.dst g) (j.put c.dst g) J (m.put _ N _) (O b l _) d;rw[put_defers]at this;exact this
  unfold wpQuiet;unfold tU at d;split at d
  ·rename_i z
   rw[if_pos (by simp[Region.wanted,z])];exact vj m d λg t=>p b g m l t
  ·rename_i C k z
   split at d
   ·exact d.elim
   ·rename_i a M
    have q:=oZ m M (L C a M);split at d
    ·rename_i A u
     rw[u]at q;simp only at q;have K:Region.wanted c (yielded e j.tmps)=(A==k):=by
      simp only[Region.wanted,z,q]
      cases A<;>cases k<;>rfl
     rw[K];have r:=m.again u;have B:∀v,v∉W->get h ((a,.bool A)::b) v=get B0 e0 v:=λv R=>by rw[sL u];exact l v R
     cases A<;>cases k<;>simp only[al]at d
     ·exact vj r d λg t=>p _ g r B t
     ·exact p _ _ r B d
     ·exact p _ _ r B d
     ·exact vj r d λg t=>p _ g r B t
    ·rename_i S u
     rw[u]at q;simp only at q;have K:Region.wanted c (yielded e j.tmps)=false:=by
      simp[Region.wanted,z,q]
     rw[K];exact p _ _ m l d
    ·exact d.elim
def kindOf(a:Program)(e:Oper):Nat:=match e.op with
 | .move _| .assign _| .pick .. | .build .. | .binOp .. | .unOp .. | .indexAddr .. | .slice .. | .nilCheck _| .fieldAddr .. | .field .. | .index .. | .extract .. | .typeAssert .. =>0
 | .convert c d _=>match isInt a c with
  |true=>match isInt a d with
   |true=>0
   |false=>2
  |false=>2
 | .load .. | .lookup .. =>1
 | .call {callee:=.builtin b,argTypes,..}=>match b with
  | .len=>match isMap a (argTypes.getD 0 0)with
   |true=>1
   |false=>0
  | .cap| .max| .min=>0
  |_=>2
 |_=>2
def mX(b:Program)(a:Array Oper)(c:Nat):Nat:=match a[c]? with
 |some d=>kindOf b d
 |none=>2
def gv(b:Program)(a:Array Oper)(c:Nat):Bool:=match mX b a c with
 |2=>false
 |_=>true
def Oq(a:Program):List Oper->Bool
 |[]=>false
 |b::c=>match kindOf a b with
  |2=>true
  |_=>Oq a c
def tV(b:Program)(a:Array Oper):List Nat->Option Nat
 |[]=>none
 |c::d=>match gv b a c with
  |true=>some c
  |false=>tV b a d
def vk{d:Program}{b:Array Oper}{c:Nat}:∀{e:List Nat},tV d b e=some c->c∈e/\gv d b c=true
 |[],a=>by cases a
 |i::j,a=>by
  unfold tV at a;split at a
  ·rename_i f;cases a;exact⟨List.mem_cons_self ..,f⟩
  ·obtain⟨g,h⟩:=vk a;exact⟨List.mem_cons_of_mem _ g,h⟩
def CY{e:Program}{a:Array Oper}:∀{f:List Nat},tV e a f=none->∀c∈f,gv e a c=false
 |[],_,c,b=>by cases b
 |h::i,d,c,b=>by
  unfold tV at d;split at d
  ·cases d
  ·rename_i g
   rcases List.mem_cons.1 b with rfl|b
   ·exact g
   ·exact CY d c b
def JR(b:Z.getD a true=false):Z.getD a false=false:=by
 rcases Nat.lt_or_ge a Z.size with c|c
 ·simp[c]at b⊢;exact b
 ·simp[Array.getElem?_eq_none c]at b
def mY(b:Array Oper)(d:Nat):Nat->Array Bool->Array Bool
 |0,a=>a
 |f+1,a=>match(Region.ready .any b a).find? (λc=>!Nat.beq c d)with
  |some c=>mY b d f (a.setIfInBounds c true)
  |none=>a
def iY(e:Program)(a:Array Oper)(listed:Array Bool)(c:Nat):Bool:=
 (λd:Array Bool=>!d.getD c true&&(Region.ready .any a d).all (λb=>Nat.beq b c)&&
  (List.range a.size).all λb=>!d.getD b false||gv e a b||listed.getD b false) (mY a c a.size listed)
structure wY (P:Program) (ops:Array Oper) (i:Nat) (listed M:Array Bool):Prop where
 sub:∀k,listed.getD k false=true->M.getD k false=true
 only:∀j∈Region.ready .any ops M,j=i
 still:∀j,j<ops.size->M.getD j false=true->listed.getD j false=false->gv P ops j=true
 size:M.size=listed.size
def rW{ops:Array Oper}{i:Nat}:∀(f:Nat) (a:Array Bool),(mY ops i f a).size=a.size/\∀b,a.getD b false=true->(mY ops i f a).getD b false=true
 |0,a=>⟨rfl,λ_ c=>c⟩
 |f+1,a=>by
  unfold mY;split
  ·rename_i d _
   obtain⟨e,g⟩:=rW (ops:=ops) (i:=i) f (a.setIfInBounds d true);exact⟨by rw[e];simp,λb h=>g b (getD_set_true h)⟩
  ·exact⟨rfl,λ_ c=>c⟩
def EU{ops:Array Oper}{i:Nat}(a:iY h ops Z i=true):∃d,wY h ops i Z d:=by
 unfold iY at a;simp only[Bool.and_eq_true,List.all_eq_true]at a;obtain⟨⟨_,e⟩,f⟩:=a;obtain⟨g,j⟩:=rW (ops:=ops) (i:=i) ops.size Z;refine⟨_,j,λb c=>Nat.eq_of_beq_eq_true (e b c),λb c k l=>?_,g⟩;have:=f b (List.mem_range.2 c);rw[k,l]at this;simpa using this
def wY.ready{k:Program}{c:Array Oper}{l:Nat}{a e:Array Bool}(d:wY k c l a e){b:Nat}(q:b∈Region.ready .any c a)(r:b≠l):
  gv k c b=true/\wY k c l (a.setIfInBounds b true) e:=by
 obtain⟨m,s,n,t⟩:=mem_ready.1 q;have u:b<c.size:=(Array.getElem?_eq_some_iff.1 n).1;have o:e.getD b false=true:=by
  by_cases f:e.getD b true=false
  ·exact absurd (d.only b (mem_ready.2 ⟨f,s,n,λv w x=>d.sub _ (t v w x)⟩)) r
  ·have y:b<a.size:=by
    rcases Nat.lt_or_ge b a.size with K|K
    ·exact K
    ·simp[Array.getElem?_eq_none K]at m
   have z:b<e.size:=by rw[d.size];exact y
   simp[z]at f⊢;exact f
 have p:a.getD b false=false:=JR m;refine⟨d.still b u o p,λg j=>?_,d.only,λg j f h=>?_,by simp[d.size]⟩
 ·by_cases i:b=g
  ·subst i;exact o
  ·rw[getD_set_ne false i]at j;exact d.sub g j
 ·refine d.still g j f ?_
  by_cases i:b=g
  ·subst i;exact p
  ·rw[getD_set_ne false i]at h;exact h
structure CZ (ops:Array Oper) (i:Nat) (listed M:Array Bool):Prop where
 sub:∀k,listed.getD k false=true->M.getD k false=true
 only:∀j∈Region.ready .any ops M,j=i
 size:M.size=listed.size
def rX(b:Array Oper)(a:Array Bool)(c:Nat):Bool:=
 (λd:Array Bool=>(Region.ready .any b d).all (λe=>Nat.beq e c)) (mY b c b.size a)
def JS{ops:Array Oper}{i:Nat}(a:rX ops Z i=true):CZ ops i Z (mY ops i ops.size Z):=by
 unfold rX at a;simp only[List.all_eq_true]at a;obtain⟨b,c⟩:=rW (ops:=ops) (i:=i) ops.size Z;exact⟨c,λd e=>Nat.eq_of_beq_eq_true (a d e),b⟩
def CZ.ready{c:Array Oper}{f:Nat}{a d:Array Bool}(e:CZ c f a d){b:Nat}(m:b∈Region.ready .any c a)(n:b≠f):
  d.getD b false=true/\CZ c f (a.setIfInBounds b true) d:=by
 obtain⟨o,p,q,r⟩:=mem_ready.1 m;have i:d.getD b false=true:=by
  by_cases g:d.getD b true=false
  ·exact absurd (e.only b (mem_ready.2 ⟨g,p,q,λs t u=>e.sub _ (r s t u)⟩)) n
  ·have v:b<a.size:=by
    rcases Nat.lt_or_ge b a.size with h|h
    ·exact h
    ·simp[Array.getElem?_eq_none h]at o
   have w:b<d.size:=by rw[e.size];exact v
   simp[w]at g⊢;exact g
 refine⟨i,λj k=>?_,e.only,by simp[e.size]⟩
 by_cases l:b=j
 ·subst l;exact i
 ·rw[getD_set_ne false l]at k;exact e.sub j k
def Uy(a:List PanicEntry->Act->World->Prop):Exit->Act->World->Prop:=λb c d=>match b with
 | .panic e=>a e c d
 |_=>False
def Vr(e:Program)(b:Array Oper)(c:Bool)(j:List PanicEntry->Act->World->Prop)(k:Nat->Prop)(i:Act->World->Prop):Nat->(World->Prop)->Array Bool->Act->World->Prop
 |0,_,a,h,g=>Region.ready .any b a=[]/\i h g
 |f+1,n,a,h,g=>(Region.ready .any b a=[]->i h g)/\∀d∈Region.ready .any b a,
  (gv e b d=true->stOp e b g d (λl=>Vr e b c j k i f n (a.setIfInBounds d true) l g) h)/\
  (gv e b d=false->wpOp e b (Uy j) d (λl o=>∃m:World->Prop,(c=true->k d->∀p,m p->n p)/\m o/\Vr e b c j k i f m (a.setIfInBounds d true) l o) h g)
def Sz(g:∀i J b,f4 i J b->d7 (.panic i) J b)(c:wpOp h T (Uy f4) a f5 J b):wpOp h T d7 a f5 J b:=by
 unfold wpOp at*;split
 ·rename_i e;simpa only[e]using c
 ·rename_i j e
  simp only[e]at c;split
  ·rename_i f
   simp only[f,if_true]at c;rcases c with c|⟨_,_,_,c⟩
   ·left
    unfold Oper.wp at*;generalize(execOp J.eval j).run h b=k at*
    cases k with
    |ok l m=>
     cases l<;>simp only[Oper.upon]at c⊢<;>
      first
       |exact c
       |exact Calls.mono c (λn p d=>by cases n<;>first|exact d|exact g _ _ _ d|exact d.elim|(obtain⟨_,_,c⟩:=d;exact c.elim))
    |halt o m=>cases o<;>first|exact g _ _ _ c|exact(show False from c).elim
   ·exact c.elim
  ·rename_i f;simp only[f]at c;exact c
def o_{i:Program}{e:Array Oper}{g:Bool}{n:List PanicEntry->Act->World->Prop}{s:Nat->Prop}{o:Act->World->Prop}{j:Exit->Act->World->Prop}(k:∀p c b,n p c b->j (.panic p) c b)(h:∀c b,o c b->j .normal c b):∀(f:Nat) (l:World->Prop) (a:Array Bool) (c:Act) (b:World),
  Vr i e g n s o f l a c b->wpAny i .any e j f a c b
 |0,_,_,_,_,d=>⟨d.1,h _ _ d.2⟩
 |f+1,l,a,c,b,d=>⟨λt=>h _ _ (d.1 t),λq u=>by
   obtain⟨v,w⟩:=d.2 q u
   cases r:gv i e q with
   |true=>exact wpOp_of_stOp (λm d=>o_ k h f l _ m b d) (v r)
   |false=>exact Sz k (wpOp_mono (λm x ⟨y,_,_,d⟩=>o_ k h f y _ m x d) (w r))⟩
section
variable {P:Program} {ops:Array Oper}
def PY{e i:Oper}(r:ops[a]? =some i)(s:e.apart ops i=true)(t:∀cs k,e.op≠.select cs k)(u:∀cs k,i.op≠.select cs k){n:Act->Prop}(v:∀g,y g->YieldsAt P ops g e w J)(d:stOp P ops b a n (J.put e.dst w)):
  stOp P ops b a (λo=>(∀g,y g->YieldsAt P ops g e w o)/\n (o.put e.dst w)) J:=by
 obtain⟨p,j,q⟩:=Oper.apart_spec s;have c:∀h,∀g,y g->YieldsAt P ops g e w (J.put i.dst h):=λh g x=>
  (v g x).of_same (execOp_put e t J i.dst h q) (wanted_put e J i.dst h q)
 unfold stOp at*;simp only[r]at*;rw[wanted_put i J e.dst w p]at d;split
 ·rename_i l
  simp only[l,if_true]at d;unfold Oper.still at*;rw[execOp_put i u J e.dst w p]at d;generalize(execOp J.eval i).run P b=z at*
  cases z with
  |ok A B=>
   cases A<;>simp only[Oper.stillUpon]at d⊢
   case value h=>exact⟨d.1,c h,by rw[<-Act.put_comm J w h j];exact d.2⟩
   case skip=>exact⟨d.1,c _,by rw[<-Act.put_comm J w undef j];exact d.2⟩
   case enter f args=>obtain⟨m,h,C,E⟩:=d;exact⟨m,h,C,c h,by rw[<-Act.put_comm J w h j];exact E⟩
  |halt g B=>simp only[Oper.stillUpon]at d
 ·rename_i l
  simp only[l]at d;exact⟨c _,by rw[<-Act.put_comm J w undef j];exact d⟩
def PZ{h i:Oper}(t:∀o J b,f4 o (J.put h.dst w) b->f4 o J b)(B:ops[a]? =some i)(C:h.apart ops i=true)(u:∀cs p,h.op≠.select cs p)(E:∀cs p,i.op≠.select cs p)(v:∀c,y c->YieldsAt P ops c h w J)(e:wpOp P ops (Uy f4) a f5 (J.put h.dst w) b):
  wpOp P ops (Uy f4) a (λx q=>(∀c,y c->YieldsAt P ops c h w x)/\f5 (x.put h.dst w) q) J b:=by
 obtain⟨z,l,n⟩:=Oper.apart_spec C;have g:∀d,∀c,y c->YieldsAt P ops c h w (J.put i.dst d):=λd c r=>
  (v c r).of_same (execOp_put h u J i.dst d n) (wanted_put h J i.dst d n)
 have j:∀m d,∀c,y c->YieldsAt P ops c h w (({J with defers:=m::J.defers}:Act).put i.dst d):=λm d c r=>
  (show YieldsAt P ops c h w {J with defers:=m::J.defers}from v c r).of_same (execOp_put h u _ i.dst d n) (wanted_put h _ i.dst d n)
 unfold wpOp at*;simp only[B]at*;rw[wanted_put i J h.dst w z]at e;split
 ·rename_i s
  simp only[s,if_true]at e;rcases e with e|⟨_,_,_,e⟩
  ·left
   unfold Oper.wp at*;rw[execOp_put i E J h.dst w z]at e;generalize(execOp J.eval i).run P b=A at*
   cases A with
   |ok F q=>
    cases F<;>simp only[Oper.upon]at e⊢
    case value d=>exact⟨g d,by rw[<-Act.put_comm J w d l];exact e⟩
    case skip=>exact⟨g _,by rw[<-Act.put_comm J w undef l];exact e⟩
    case defer m=>exact⟨j m _,by rw[<-Act.put_comm _ w undef l,<-Act.put_defers];exact e⟩
    case enter f args=>
     refine Calls.mono e λH I k=>?_
     cases H with
     |returned d=>exact⟨g d,by rw[<-Act.put_comm J w d l];exact k⟩
     |panicked o=>exact t _ _ _ k
     |outgrown=>obtain⟨_,_,k⟩:=k;exact k.elim
    case row A args=>exact Rows.mono e λd I k=>⟨g d,by rw[<-Act.put_comm J w d l];exact k⟩
   |halt c q=>cases c<;>first|exact t _ _ _ e|exact(show False from e).elim
  ·exact e.elim
 ·rename_i s
  simp only[s]at e;exact⟨g _,by rw[<-Act.put_comm J w undef l];exact e⟩
def wZ{b:Bool}{k:List PanicEntry->Act->World->Prop}{l m:Nat->Prop}(g:∀n,l n->m n){o:Act->World->Prop}:∀(f:Nat) (d:World->Prop) (a:Array Bool) (h:Act) (e:World),
  Vr P ops b k m o f d a h e->Vr P ops b k l o f d a h e
 |0,_,_,_,_,c=>c
 |f+1,d,a,h,e,c=>⟨c.1,λq r=>by
   obtain⟨s,t⟩:=c.2 q r;refine⟨λi=>stOp_mono (λj c=>wZ g f d _ j e c) (s i),λi=>wpOp_mono (λj u ⟨p,v,w,x⟩=>⟨p,λy z=>v y (g _ z),w,wZ g f p _ j u x⟩) (t i)⟩⟩
def sN(O:∀c,f c->a4 c){o:Oper}(hE:∀T p h,f4 T (p.put o.dst w) h->f4 T p h)(K:ops[a]? =some o)(U:gv P ops a=true)(L:∀(c:Nat) (V:Oper) cs l,ops[c]? =some V->V.op≠.select cs l)(M:World->Prop):
  ∀(x:Nat) (q:World->Prop) (b:Array Bool) (p:Act) (h:World),
   (∀c r,ops[c]? =some r->c≠a->b.getD c true=false->(∀j∈r.after,Region.binds .any j=true->j.on≠a)->o.apart ops r=true)->
   a∈Region.ready .any ops b->(∀g,M g->YieldsAt P ops g o w p)->M h->q h->
   ((∀g,M g)\/(I=true/\(∀g,q g->M g)/\((∀c,a4 c)\/∃i,CZ ops a b i/\∀c,i.getD c false=true->a4 c))\/∃i,wY P ops a b i)->
   Vr P ops I f4 a4 f5 x q (b.setIfInBounds a true) (p.put o.dst w) h->Vr P ops I f4 f f5 (x+1) q b p h:=by
 intro x
 induction x with
 |zero=>
  intro q b p h _ m y u W _ z;refine⟨λd=>(by rw[d]at m;cases m),λc n=>?_⟩
  by_cases e:c=a
  ·subst e;exact⟨λ_=>(y h u).stOp K (wZ O _ _ _ _ _ z),λd=>(by rw[U]at d;cases d)⟩
  ·have:=ready_mono n e
   rw[z.1]at this
   cases this
 |succ x Q=>
  intro q b p h X m y u W Y z;refine⟨λd=>(by rw[d]at m;cases m),λc n=>?_⟩
  by_cases e:c=a
  ·subst e;exact⟨λ_=>(y h u).stOp K (wZ O _ _ _ _ _ z),λd=>(by rw[U]at d;cases d)⟩
  ·obtain⟨hS,hT⟩:=z.2 c (ready_mono n e)
   obtain⟨Z,r,A,a1⟩:=mem_ready.1 n;have a5:∀j∈r.after,Region.binds .any j=true->j.on≠a:=λj he hb b0=>by
    have h1:=a1 j he hb;rw[b0,JR (mem_ready.1 m).1]at h1
    cases h1
   have a6:=X c r A e Z a5;have R:∀v B,ops[v]? =some B->v≠a->(b.setIfInBounds c true).getD v true=false->
     (∀j∈B.after,Region.binds .any j=true->j.on≠a)->o.apart ops B=true:=λv B hk b1 a7 b2=>by
    refine X v B hk b1 ?_ b2
    by_cases a8:c=v
    ·subst a8;exact Z
    ·rw[getD_set_ne true a8]at a7;exact a7
   refine⟨λC=>?_,λC=>?_⟩
   ·have k:=PY A a6 (λcs l=>L a o cs l K) (λcs l=>L c r cs l A) y (hS C)
    refine stOp_mono (λN s=>Q q (b.setIfInBounds c true) N h R (ready_mono m (Ne.symm e)) s.1 u W ?_ ?_) k
    ·rcases Y with d|⟨t,d,k⟩|⟨i,d⟩
     ·exact .inl d
     ·exact .inr (.inl ⟨t,d,k.imp id λ⟨i,E,F⟩=>⟨i,(E.ready n e).2,F⟩⟩)
     ·exact .inr (.inr ⟨i,(d.ready n e).2⟩)
    ·rw[Array.setIfInBounds_comm _ _ e]
     exact s.2
   ·have k:=PZ hE A a6 (λcs l=>L a o cs l K) (λcs l=>L c r cs l A) y (hT C)
    refine wpOp_mono (λN w' s=>?_) k;obtain⟨s,H,S,J,hM⟩:=s;have a0:I=true->f c->∀g,H g->q g:=λt u=>S t (O _ u);rcases Y with d|⟨t,d,k⟩|⟨i,d⟩
    ·exact⟨H,a0,J,Q H (b.setIfInBounds c true) N w' R (ready_mono m (Ne.symm e)) s (d _) J (.inl d) (by rw[Array.setIfInBounds_comm _ _ e];exact hM)⟩
    ·have a9:a4 c:=by
      rcases k with k|⟨i,E,F⟩
      ·exact k c
      ·exact F c (E.ready n e).1
     exact⟨H,a0,J,Q H (b.setIfInBounds c true) N w' R (ready_mono m (Ne.symm e)) s (d _ (S t a9 _ J)) J (.inr (.inl ⟨t,λg hx=>d g (S t a9 g hx),k.imp id λ⟨i,E,F⟩=>⟨i,(E.ready n e).2,F⟩⟩)) (by rw[Array.setIfInBounds_comm _ _ e];exact hM)⟩
    ·rw[(d.ready n e).1]at C;cases C
end
def XL(a:Bool)(c:Nat->Prop)(d:Value)(b:Prop):Prop:=match a with
 |false=>b
 |true=>match d with
  | .pointer (some e)=>¬c e.block/\b
  |_=>False
def kH(a:Bool)(d:Nat->Prop)(c:World):World->Prop:=match a with
 |true=>λb=>aj d c b
 |false=>λb=>b=c
def Wf(a:Bool)(g:Nat->Prop)(d:Program)(e:Sem Value)(b:World)(f:Value):Prop:=match a with
 |true=>∀c,aj g b c->e.run d c= .ok f c
 |false=>e.run d b= .ok f b
def Vs(a:Bool)(c:Nat->Prop)(d e:World)(b:Prop):Prop:=match a with
 |true=>aj c d e/\b
 |false=>b
def Uz(c:Program)(d:cy)(e:Oper)(g:Bool)(l:Nat->Prop)(h:dq->Prop)(a:dq)(m:World):Prop:=
 match e.op with
 | .load f n=>fI (known c f) (XL g l (ev d a n) (ow c f (ev d a n) m λb=>h (cJ a e.dst b)))
 | .indexAddr f i j=>fI (ic c f) (Uu c f (ev d a i) (ev d a j) λb=>h (cJ a e.dst b))
 | .slice f i p q r=>fI (ic c f) (Uv c f (ev d a i) (p.map (ev d a)) (q.map (ev d a)) (r.map (ev d a)) λb=>h (cJ a e.dst b))
 | .nilCheck i=>PX (ev d a i) λb=>h (cJ a e.dst b)
 | .index f i j=>match c.underlying f with
  |some .string=>HR (ev d a i) (ev d a j) λb=>h (cJ a e.dst b)
  |_=>False
 |_=>match PV (ev d a) e with
  |some k=>match HS c e with
   |true=>vh c e.type λb=>(match kindOf c e with
    |0=>∀o,k.run c o= .ok b o
    |_=>Wf g l c k m b)/\h (cJ a e.dst b)
   |false=>match CX c k with
    |some b=>h (cJ a e.dst b)
    |none=>False
  |none=>False
def ow.YY(m:∃p,h.underlying g=some p)(a:ow h g (.pointer (some d2)) b S):
  ∃c,(∀d,(∀i n,i.block=d2.block->b.cell? i=some n->d.cell? i=some n)->(Instr.loadAt g (.pointer (some d2))).run h d= .ok c d)/\S c:=by
 unfold ow at a;simp only at a;split at a
 ·rename_i j
  split at a
  ·rename_i z q
   split at a
   ·rename_i r
    obtain⟨k,s,a⟩:=Sw.out a;obtain⟨l,a⟩:=iU.out a;obtain⟨t,o,_⟩:=FZ q (by simp[undef]);have u:t.size=k.length:=by
     have:=Nat.eq_of_beq_eq_true r;rw[iV o]at this;simp[this,s]
    refine⟨_,λd e=>?_,a⟩;have v:∀f c,k[f]? =some c->d.cell? (d2.add f)=some c:=λf c w=>
     e _ _ (by unfold Addr.add;split<;>rfl) (by have:=l f c w;simpa using this)
    have x:=run_loadCells_list (P:=h) (w:=d) d2 k v;simp only[Instr.loadAt,Instr.sureAddr,loadVar,Sem.run_bind,Sem.run_pure,Result.andThen_ok,dA h g _ j m,if_true,dU o,u,x]
   ·exact a.elim
  ·exact a.elim
 ·rename_i j
  obtain⟨c,y,a⟩:=Rj.out a;refine⟨c,λd e=>?_,a⟩;have l:d.cell? d2=some c:=e _ _ rfl y;simp[Instr.loadAt,Instr.sureAddr,loadVar,dA h g _ j m,load,Sem.run,l]
def aj.XM(d:aj f b k)(e:¬f d2.block)(a:b.cell? d2=some w):k.cell? d2=some w:=by
 have c:d2.block<b.heap.size:=by
  by_cases c:d2.block<b.heap.size
  ·exact c
  ·unfold World.cell? at a
   rw[show b.heap[d2.block]? =none by simp;omega]at a
   cases a
 unfold World.cell? at a⊢;rw[d.block _ c e];exact a
def SA(B:Rel a U O J)(C:Region.wanted P (yielded T J.tmps)=true)(c:Uz h U P I f f3 O b):
  ∃d,f3 (cJ O P.dst d)/\((∀g,YieldsAt h T g P d J)\/(kindOf h P≠0/\∀g,kH I f b g->YieldsAt h T g P d J)):=by
 have i:∀(p:Sem Value) d g,(∀b,(execOp (ev U O) P).run h b=(p.run h b).andThen λd E=>.ok (.value d) E)->p.run h g= .ok d g->YieldsAt h T g P d J:=by
  intro p d g s j;refine .inl ⟨C,.inl ?_⟩;rw[B.eval,s,j]
  rfl
 unfold Uz at c;split at c
 ·rename_i o g k
  obtain⟨q,c⟩:=fI.out c;have F:kindOf h P≠0:=by simp[kindOf,k]
  have t:∀(l:Addr),ev U O g= .pointer (some l)->(∀e,kH I f b e->∀r u,r.block=l.block->b.cell? r=some u->e.cell? r=some u)->(ow h o (.pointer (some l)) b λd=>f3 (cJ O P.dst d))->
    ∃d,f3 (cJ O P.dst d)/\((∀g,YieldsAt h T g P d J)\/(kindOf h P≠0/\∀g,kH I f b g->YieldsAt h T g P d J)):=by
   intro l n H c;obtain⟨d,j,c⟩:=ow.YY (known.out q).1 c;exact⟨d,c,.inr ⟨F,λe m=>i (Instr.loadAt o (ev U O g)) d e (λb=>by simp[execOp,k]) (by rw[n];exact j e (H e m))⟩⟩
  unfold XL at c;split at c
  ·have n:∃l,ev U O g= .pointer (some l):=by
    unfold ow at c;split at c
    ·exact⟨_,by assumption⟩
    ·exact c.elim
   obtain⟨l,n⟩:=n;rw[n]at c;exact t l n (λe m r u _ v=>by simp only[kH]at m;rw[m];exact v) c
  ·split at c
   ·rename_i l n
    obtain⟨K,c⟩:=c;exact t l n (λe m r u q v=>by simp only[kH]at m;exact m.XM (by rw[q];exact K) v) (by rw[<-n];exact c)
   ·exact c.elim
 ·rename_i o g w k
  obtain⟨q,c⟩:=fI.out c;obtain⟨d,j,c⟩:=Uu.out (ic.out q) c;exact⟨d,c,.inl λe=>i (Instr.indexAt o (ev U O g) (ev U O w)) d e (λb=>by simp[execOp,k]) (j _)⟩
 ·rename_i o g L M N k
  obtain⟨q,c⟩:=fI.out c;obtain⟨d,j,c⟩:=Uv.out (λO Q=>ic.out q O (.inl Q)) c;exact⟨d,c,.inl λe=>i (Instr.sliceAt o (ev U O g) (L.map (ev U O)) (M.map (ev U O)) (N.map (ev U O))) d e (λb=>by simp[execOp,k]) (j _)⟩
 ·rename_i g k
  unfold PX at c;split at c
  ·rename_i l x
   obtain⟨r,y,rfl,c⟩:=c;exact⟨_,c,.inl λe=>i (.pure (.pointer (some ⟨r,y,none⟩))) _ e (λb=>by simp[execOp,k,x]) rfl⟩
  ·rename_i R first z x
   exact⟨_,c,.inl λe=>i (.pure (.func (.func R) first z)) _ e (λb=>by simp[execOp,k,x]) rfl⟩
  ·exact c.elim
 ·rename_i o g w k
  split at c
  ·rename_i A
   obtain⟨d,j,c⟩:=HR.out A c;exact⟨d,c,.inl λe=>i (Instr.index o (ev U O g) (ev U O w)) d e (λb=>by simp[execOp,k]) (j _)⟩
  ·exact c.elim
 ·split at c
  ·rename_i p s
   split at c
   ·obtain⟨d,j,c⟩:=vh.out c
    refine⟨d,c,?_⟩;split at j
    ·exact .inl λe=>i p d e (λb=>jH s h b) (j e)
    ·rename_i S
     refine .inr ⟨S,λe m=>i p d e (λb=>jH s h b) ?_⟩
     cases I with
     |true=>exact j e m
     |false=>simp only[kH]at m;rw[m];exact j
   ·split at c
    ·rename_i d j
     exact⟨d,c,.inl λe=>i p d e (λb=>jH s h b) (yH j _)⟩
    ·exact c.elim
  ·exact c.elim
def pf(f:Array Oper)(g:Oper)(h:cy)(c:dq)(d a:dq->Prop):Prop:=match g.guard with
 |none=>d c
 |some (i,b)=>match kh f i with
  |none=>False
  |some e=>match get h c e with
   | .bool j=>al j
    (match b with
     |true=>d ((e,.bool true)::c)
     |false=>a ((e,.bool true)::c))
    (match b with
     |true=>a ((e,.bool false)::c)
     |false=>d ((e,.bool false)::c))
   | .tuple _=>a c
   |_=>False
def pM:List Nat->(Nat->Prop)->Prop
 |[],_=>True
 |b::c,a=>match c with
  |[]=>a b
  |_=>a b/\pM c a
def pM.out:∀{l:List Nat} {φ:Nat->Prop},pM l φ->∀c∈l,φ c
 |[],_,_,c,a=>by cases a
 |d::e,φ,b,c,a=>by
  unfold pM at b;split at b
  ·simp only[List.mem_singleton]at a
   subst a;exact b
  ·rcases List.mem_cons.1 a with rfl|a
   ·exact b.1
   ·exact pM.out b.2 c a
def Yu(e:Program)(b:Array Oper)(c:Bool)(a:Array Bool)(d:Nat):Bool:=
 Region.free .any b a d&&(match mX e b d with
  |0=>true
  |_=>match c with
   |true=>true
   |false=>iY e b a d)
def pg(d:Program)(b:Array Oper)(c:Bool)(a:Array Bool)(e:Nat):Bool:=match c with
 |false=>false
 |true=>match mX d b e with
  |0=>false
  |_=>!iY d b a e
def zq(b:Array Oper)(a:Array Bool)(c:Nat)(e:Nat->Bool):Nat->Bool:=match rX b a c with
 |true=>(λM:Array Bool=>λd=>e d||M.getD d false) (mY b c b.size a)
 |false=>λ_=>true
def w_(f:Program)(b:Array Oper)(c:Bool)(a:Array Bool)(d:Nat)(e:Nat->Bool):Nat->Bool:=match pg f b c a d with
 |true=>zq b a d e
 |false=>e
def MB:∀b,f6 b=true->zq T Z a f6 b=true:=by
 intro b c;unfold zq
 cases rX T Z a with
 |true=>simp[c]
 |false=>rfl
def MC:(∀b,zq T Z a f6 b=true)\/∃c,CZ T a Z c/\∀b,c.getD b false=true->zq T Z a f6 b=true:=by
 unfold zq
 cases d:rX T Z a with
 |true=>exact .inr ⟨_,JS d,λb e=>by simp only[e,Bool.or_true]⟩
 |false=>exact .inl λ_=>rfl
def xd(h:Program)(i:cy)(b:Array Oper)(c:Bool)(k:Nat->Prop)(m:List PanicEntry->List Deferred->World->Prop)(l:dq->List Deferred->World->Prop):(Nat->Bool)->Nat->Array Bool->dq->List Deferred->World->Prop
 |W,0,a,d,e,f=>fI (Region.ready .any b a).isEmpty (l d e f)
 |W,n+1,a,d,e,f=>match tV h b (Region.ready .any b a)with
  |some g=>fI (Yu h b c a g) (match b[g]? with
   |none=>False
   |some j=>pf b j i d (λd=>Uz h i j (pg h b c a g) k (λd=>xd h i b c k m l (w_ h b c a g W) n (a.setIfInBounds g true) d e f) d f)
     (λd=>xd h i b c k m l W n (a.setIfInBounds g true) (cJ d j.dst undef) e f))
  |none=>match Region.ready .any b a with
   |[]=>l d e f
   |p=>pM p λg=>match b[g]? with
    |none=>False
    |some j=>pf b j i d (λd=>Ux h b i j (λq _ _ e f=>match q with
     | .panic r=>m r e f
     |_=>False) (λd e o=>Vs (c&&W g) k f o (xd h i b c k m l W n (a.setIfInBounds g true) d e o)) d e f)
     (λd=>xd h i b c k m l W n (a.setIfInBounds g true) (cJ d j.dst undef) e f)
def pf.out{f d:dq->Prop}(s:∀p g,kh T p=some g->g<a)(j:Rel a U O J)(b:pf T P U O f d):
  ∃k,Rel a U k J/\(∀h,get U k h=get U O h)/\((Region.wanted P (yielded T J.tmps)=true/\f k)\/(Region.wanted P (yielded T J.tmps)=false/\d k)):=by
 unfold pf at b;split at b
 ·rename_i l
  exact⟨O,j,λ_=>rfl,.inl ⟨by simp[Region.wanted,l],b⟩⟩
 ·rename_i p c l
  split at b
  ·exact b.elim
  ·rename_i g r
   have e:=oZ j r (s p g r);split at b
   ·rename_i m i
    rw[i]at e;simp only at e;have q:Region.wanted P (yielded T J.tmps)=(m==c):=by
     simp only[Region.wanted,l,e]
     cases m<;>cases c<;>rfl
    rw[q];have n:=j.again i;have o:∀h,get U ((g,.bool m)::O) h=get U O h:=sL i
    cases m<;>cases c<;>simp only[al]at b
    ·exact⟨_,n,o,.inl ⟨rfl,b⟩⟩
    ·exact⟨_,n,o,.inr ⟨rfl,b⟩⟩
    ·exact⟨_,n,o,.inr ⟨rfl,b⟩⟩
    ·exact⟨_,n,o,.inl ⟨rfl,b⟩⟩
   ·rename_i t i
    rw[i]at e;simp only at e;have q:Region.wanted P (yielded T J.tmps)=false:=by
     simp[Region.wanted,l,e]
    exact⟨O,j,λ_=>rfl,.inr ⟨q,b⟩⟩
   ·exact b.elim
def kH.refl(a:Bool)(c:Nat->Prop)(b:World):kH a c b b:=by
 cases a with
 |true=>exact⟨rfl,rfl,rfl,Nat.le_refl _,λ_ _ _=>rfl⟩
 |false=>rfl
def aj.chain(a:aj f b k)(c:aj f k a9):aj f b a9:=
 ⟨c.os.trans a.os,c.tape.trans a.tape,c.output.trans a.output,Nat.le_trans a.size c.size,λd e g=>(c.block d (Nat.lt_of_lt_of_le e a.size) g).trans (a.block d e g)⟩
def C_(e:Nat)(f:cy)(g:dq)(h:List Nat)(i:iW):List PanicEntry->Act->World->Prop:=λj d k=>
 (∃a b,Rel e a b d/\(∀c,c∉h->get a b c=get f g c))/\∀a b,i (.panic j) a b d.defers k
def C_.XN{c:Option Tmp}(j:∀b,c=some b->b∈b4)(f:List PanicEntry)(d:Act)(g:World)(e:C_ a U O b4 c5 f (d.put c w) g):C_ a U O b4 c5 f d g:=by
 obtain⟨⟨m,n,h,k⟩,e⟩:=e;refine⟨⟨λb=>d.tmps.getD b undef,[],⟨?_,λb=>rfl⟩,λb i=>?_⟩,by simpa[put_defers]using e⟩
 ·have:=h.size
  cases c<;>simpa[Act.put]using this
 ·rw[<-k b i,<-h.slot]
  cases c with
  |none=>rfl
  |some c=>
   have l:c≠b:=by rintro rfl;exact i (j c rfl)
   show _=(d.tmps.setIfInBounds c w).getD b undef;simp only[Array.getD_eq_getD_getElem?];rw[Array.getElem?_setIfInBounds_ne l];simp[ax.get]
def C_.post(c:List PanicEntry)(d:Act)(e:World)(b:C_ a U O b4 c5 c d e):dK a U O b4 c5 (.panic c) d e:=by
 obtain⟨⟨f,g,h,i⟩,b⟩:=b;exact⟨f,g,h,i,b f g⟩
def mC{k:Program}{y:Nat}{n B0:cy}{e0:dq}{W:List Nat}{b:Array Oper}{c:Bool}{z:Nat->Prop}{L:iW}(A:∀p d,kh b p=some d->d<y)(t:Region.noSelect b=true)(u:∀g∈b.toList,∀s,g.dst=some s->s<y/\s∈W):
  ∀(V:Nat->Bool) (q:Nat) (a:Array Bool) (l:dq) (j:Act) (h:World),Rel y n l j->(∀d,d∉W->get n l d=get B0 e0 d)->
   xd k n b c z (λF Y h=>∀n l,L (.panic F) n l Y h) (λl Y h=>L .normal n l Y h) V q a l j.defers h->Vr k b c (C_ y B0 e0 W L) (λp=>V p=true) (dK y B0 e0 W L .normal) q (kH c z h) a j h
 |V,0,a,l,j,h,O,B,e=>by
  obtain⟨M,P⟩:=fI.out e;exact⟨by simpa using M,n,l,O,B,P⟩
 |V,q+1,a,l,j,h,O,B,e=>by
  have S:∀{f:Nat} {g:Oper},b[f]? =some g->∀(o:Value) (F:List PanicEntry) (j:Act) (h:World),C_ y B0 e0 W L F (j.put g.dst o) h->C_ y B0 e0 W L F j h:=by
   intro f g i o F j h;have N:g∈b.toList:=by
    obtain⟨b0,rfl⟩:=Array.getElem?_eq_some_iff.1 i;simp
   exact C_.XN (λd v=>(u g N d v).2) F j h
  have a5:∀{f:Nat} {g:Oper},b[f]? =some g->(∀s,g.dst=some s->s<y)/\∀(l:dq),(∀d,d∉W->get n l d=get B0 e0 d)->∀o d,d∉W->get n (cJ l g.dst o) d=get B0 e0 d:=by
   intro f g i;have N:g∈b.toList:=by
    obtain⟨b0,rfl⟩:=Array.getElem?_eq_some_iff.1 i;simp
   refine⟨λs w=>(u g N s w).1,λl B o d v=>?_⟩
   cases w:g.dst with
   |none=>exact B d v
   |some s=>
    have b1:=(u g N s w).2;show get n ((s,o)::l) d=_;rw[eT,if_neg (by rintro rfl;exact v b1)];exact B d v
  unfold xd at e;split at e
  ·rename_i f H
   obtain⟨T,U⟩:=vk H;obtain⟨a6,e⟩:=fI.out e;split at e
   ·exact e.elim
   ·rename_i g i
    obtain⟨w,I⟩:=a5 i;simp only[Yu,Bool.and_eq_true]at a6;obtain⟨b2,Z⟩:=a6;have X:=Region.free_spec i b2;obtain⟨r,m,a3,a0⟩:=pf.out A O e;have C:∀d,d∉W->get n r d=get B0 e0 d:=λd v=>(a3 d).trans (B d v);rcases a0 with⟨J,e⟩|⟨J,e⟩
    ·obtain⟨o,x,E⟩:=SA m J e
     have a1:∀p,V p=true->w_ k b c a f V p=true:=by
      intro p hj;unfold w_
      cases pg k b c a f with
      |true=>exact MB p hj
      |false=>exact hj
     have next:=mC A t u (w_ k b c a f V) q (a.setIfInBounds f true) (cJ r g.dst o) (j.put g.dst o) h (m.put _ w _) (I r C o) (by rw[put_defers];exact x);rcases E with E|⟨Q,E⟩
     ·exact sN a1 (S i _) i U (Region.noSelect_spec t) (λ_=>True) q _ a j h X T (λa2 _=>E a2) trivial (kH.refl ..) (.inl λ_=>trivial) next
     ·have a7:mX k b f=kindOf k g:=by simp[mX,i]
      rw[a7]at Z;have b3:(pg k b c a f=true/\c=true)\/(pg k b c a f=false/\iY k b a f=true):=by
       cases c with
       |false=>
        right;refine⟨rfl,?_⟩;split at Z
        ·rename_i R;exact absurd R Q
        ·simpa using Z
       |true=>
        have N:pg k b true a f= !iY k b a f:=by
         unfold pg;rw[a7];generalize kindOf k g=a8 at Q
         cases a8 with
         |zero=>exact absurd rfl Q
         |succ a8=>rfl
        rw[N]
        cases hb:iY k b a f with
        |true=>right;simp
        |false=>left;simp
      rcases b3 with⟨M,P⟩|⟨M,P⟩
      ·rw[M]at E
       subst P;have hg:(∀p,w_ k b true a f V p=true)\/∃a9,CZ b f a a9/\∀p,a9.getD p false=true->w_ k b true a f V p=true:=by
        unfold w_;rw[M];exact MC
       exact sN a1 (S i _) i U (Region.noSelect_spec t) (kH true z h) q _ a j h X T E (kH.refl ..) (kH.refl ..) (.inr (.inl ⟨rfl,λ_ e=>e,hg⟩)) next
      ·rw[M]at E
       exact sN a1 (S i _) i U (Region.noSelect_spec t) (kH false z h) q _ a j h X T E (kH.refl ..) (kH.refl ..) (.inr (.inr (EU P))) next
    ·have next:=mC A t u V q (a.setIfInBounds f true) (cJ r g.dst undef) (j.put g.dst undef) h (m.put _ w _) (I r C _) (by rw[put_defers];exact e)
     exact sN (λ_ e=>e) (S i _) i U (Region.noSelect_spec t) (λ_=>True) q _ a j h X T (λa2 _=>.inr ⟨J,rfl⟩) trivial (kH.refl ..) (.inl λ_=>trivial) next
  ·rename_i hn
   have b4:=CY hn;split at e
   ·rename_i R
    exact⟨λ_=>⟨n,l,O,B,e⟩,λf H=>(by rw[R]at H;cases H)⟩
   ·rename_i b5
    refine⟨λR=>absurd R (by simpa using b5),λf H=>⟨λhs=>(by rw[b4 f H]at hs;cases hs),λ_=>?_⟩⟩;have e:=pM.out e f H;split at e
    ·exact e.elim
    ·rename_i g i
     obtain⟨w,I⟩:=a5 i;obtain⟨r,m,a3,a0⟩:=pf.out A O e;have C:∀d,d∉W->get n r d=get B0 e0 d:=λd v=>(a3 d).trans (B d v);unfold wpOp;simp only[i];rcases a0 with⟨J,e⟩|⟨J,e⟩
     ·rw[if_pos J]
      refine .inl (MA m w e (λo a' K a4 x=>?_) λF K hq=>⟨⟨n,r,m,C⟩,hq⟩)
      cases c with
      |true=>
       cases hV:V f with
       |true=>
        rw[hV]at x;obtain⟨Q,x⟩:=x;exact⟨kH true z K,λ_ _ a2 hx=>Q.chain hx,kH.refl ..,mC A t u V q _ _ a' K a4 (I r C o) x⟩
       |false=>
        rw[hV]at x;exact⟨kH true z K,λ_ e=>(by cases e),kH.refl ..,mC A t u V q _ _ a' K a4 (I r C o) x⟩
      |false=>exact⟨kH false z K,λe=>(by cases e),kH.refl ..,mC A t u V q _ _ a' K a4 (I r C o) x⟩
     ·rw[if_neg (by rw[J];simp)]
      exact⟨kH c z h,λ_ _ _ e=>e,kH.refl ..,mC A t u V q _ _ (j.put g.dst undef) h (m.put _ w _) (I r C _) (by rw[put_defers];exact e)⟩
structure iF where
 aK:List Nat
 Wg:List Nat
 kinds:List Nat
def bit(a:Nat):Nat:=Nat.shiftLeft 1 a
def Ot(c:Oper):Nat:=c.after.foldl (λa b=>match Region.binds .any b with|true=>Nat.lor a (bit b.on)|false=>a) 0
def MD(a:Array Oper)(b:Nat):Nat:=(List.range a.size).foldl (λd c=>match Nat.beq c b||(match a[b]?,a[c]? with
 |some B,some e=>e.after.any (λf=>Region.binds .any f&&f.on==b)||B.apart a e
 |_,none=>true
 |none,_=>false)with|true=>Nat.lor d (bit c)|false=>d) 0
def P_:List Nat->List Nat->Bool
 |[],[]=>true
 |a::b,c::d=>Nat.beq a c&&P_ b d
 |_,_=>false
def iF.ok(c:Program)(a:Array Oper)(b:iF):Bool:=
 P_ b.aK (a.toList.map Ot)&&P_ b.Wg ((List.range a.size).map (MD a))&&P_ b.kinds (a.toList.map (kindOf c))
def hasB(a b:Nat):Bool:=Nat.testBit a b
def iZ(b:iF)(d c:Nat):List Nat:=(List.range d).filter λa=>!hasB c a&&Nat.beq (Nat.land (b.aK.getD a 0) c) (b.aK.getD a 0)
def HV(a:iF)(b:Nat):Bool:=!Nat.beq (a.kinds.getD b 2) 2
def JT(a:iF):List Nat->Option Nat
 |[]=>none
 |b::c=>match HV a b with
  |true=>some b
  |false=>JT a c
def yI(c:iF)(d e:Nat):Nat->Nat->Nat
 |0,a=>a
 |f+1,a=>match(iZ c d a).find? (λb=>!Nat.beq b e)with
  |some b=>yI c d e f (Nat.lor a (bit b))
  |none=>a
def zr(a b:Nat):(bit a).testBit b=decide (a=b):=by
 unfold bit;show(1<<<a).testBit b=_;rw[Nat.one_shiftLeft,Nat.testBit_two_pow]
def ph{g:Type}(c:g->Bool)(d:g->Nat)(b:Nat):∀(f:List g) (a:Nat),(f.foldl (λa e=>match c e with|true=>Nat.lor a (bit (d e))|false=>a) a).testBit b=(a.testBit b||f.any λe=>c e&&d e==b)
 |[],a=>by simp
 |e::f,a=>by
  rw[List.foldl_cons,ph c d b f]
  cases h:c e with
  |false=>simp[h]
  |true=>
   simp only[h,List.any_cons,Bool.true_and];show((a|||bit (d e)).testBit b||_)=_;rw[Nat.testBit_or,zr,Bool.or_assoc]
   congr 2
def zt(c:Oper)(b:Nat):(Ot c).testBit b=c.after.any λa=>Region.binds .any a&&a.on==b:=by
 unfold Ot;rw[<-Array.foldl_toList,ph (λa=>Region.binds .any a) (λa=>a.on) b];simp
def land_eq:Nat.beq (Nat.land a c) a=true↔∀b,a.testBit b=true->c.testBit b=true:=by
 constructor
 ·intro d b e
  have d:=Nat.eq_of_beq_eq_true d;have:(a&&&c).testBit b=true:=by
   show(Nat.land a c).testBit b=true;rw[d];exact e
  rw[Nat.testBit_and]at this;simp at this;exact this.2
 ·intro d
  have:a&&&c=a:=by
   apply Nat.eq_of_testBit_eq;intro b;rw[Nat.testBit_and]
   cases f:a.testBit b with
   |false=>rfl
   |true=>rw[d b f];rfl
  show Nat.beq (a&&&c) a=true;rw[this];exact Nat.beq_refl a
def P_.out:∀{l c:List Nat},P_ l c=true->l=c
 |[],[],_=>rfl
 |[],_::_,b=>by cases b
 |_::_,[],b=>by cases b
 |a::l,d::c,b=>by
  simp only[P_,Bool.and_eq_true]at b;rw[Nat.eq_of_beq_eq_true b.1,P_.out b.2]
structure HW (listed:Array Bool) (n N:Nat):Prop where
 size:listed.size=n
 bit:∀i,listed.getD i false=N.testBit i
def HW.set(b:HW Z a c)(f:i<a):HW (Z.setIfInBounds i true) a (Nat.lor c (ax.bit i)):=by
 refine⟨by simp[b.size],λd=>?_⟩;show _=(c|||ax.bit i).testBit d;rw[Nat.testBit_or,zr,<-b.bit d]
 by_cases e:i=d
 ·subst e
  have:i<Z.size:=by rw[b.size];exact f
  simp[this]
 ·rw[getD_set_ne false e];simp[e]
variable{c1:iF}
def rY(g:c1.ok h T=true)(f:HW Z T.size a):Region.ready .any T Z=iZ c1 T.size a:=by
 unfold iF.ok at g;simp only[Bool.and_eq_true]at g;have l:=P_.out g.1.1;unfold Region.ready iZ;refine List.filter_congr λb c=>?_;have c:=List.mem_range.1 c;have m:Z.getD b true=a.testBit b:=by
  rw[<-f.bit b];have:b<Z.size:=by rw[f.size];exact c
  simp[this]
 have n:c1.aK.getD b 0=Ot T[b]:=by
  rw[l];simp[c]
 rw[m,n,Array.getElem?_eq_getElem c];simp only[Option.map_some,Option.getD_some,hasB]
 congr 1
 rw[Bool.eq_iff_iff,land_eq];rw[Array.all_eq_true_iff_forall_mem];constructor
 ·intro i o k
  rw[zt]at k;obtain⟨d,j,e⟩:=Array.any_eq_true'.1 k;simp only[Bool.and_eq_true,beq_iff_eq]at e;have:=i d j;rw[e.1,f.bit,e.2]at this;simpa using this
 ·intro i d j
  cases e:Region.binds .any d with
  |false=>rfl
  |true=>
   rw[f.bit];have:=i d.on (by rw[zt];exact Array.any_eq_true'.2 ⟨d,j,by simp[e]⟩);simp[this]
def xf(b:c1.ok h T=true)(c:a<T.size):c1.kinds.getD a 2=mX h T a/\HV c1 a=gv h T a:=by
 unfold iF.ok at b;simp only[Bool.and_eq_true]at b;have e:=P_.out b.2;have d:c1.kinds.getD a 2=mX h T a:=by
  rw[e];unfold mX;rw[Array.getElem?_eq_getElem c];simp[c]
 refine⟨d,?_⟩;unfold HV gv;rw[d];generalize mX h T a=k
 match k with
 |0=>rfl
 |1=>rfl
 |2=>rfl
 |k+3=>rfl
def Ou{c:Program}{a:Array Oper}{e:iF}(f:e.ok c a=true):∀(d:List Nat),(∀b∈d,b<a.size)->JT e d=tV c a d
 |[],_=>rfl
 |b::h,g=>by
  unfold JT tV;rw[(xf f (g b (List.mem_cons_self ..))).2,Ou f h λi j=>g i (List.mem_cons_of_mem _ j)]
  try(cases gv c a b<;>rfl)
def xg(b:i∈iZ c1 a c):i<a:=List.mem_range.1 (List.mem_filter.1 b).1
def xh{j:Program}{b:Array Oper}{g:iF}(h:g.ok j b=true)(d:Nat):∀(f:Nat) {a:Array Bool} {e:Nat},HW a b.size e->HW (mY b d f a) b.size (yI g b.size d f e)
 |0,_,_,c=>c
 |f+1,a,e,c=>by
  unfold mY yI;rw[rY h c]
  cases k:(iZ g b.size e).find? (λi=>!Nat.beq i d)with
  |some i=>exact xh h d f (c.set (xg (List.mem_of_find?_eq_some k)))
  |none=>exact c
def xi(c:iF)(b f d:Nat):Bool:=
 (λe:Nat=>!hasB e d&&(iZ c b e).all (λa=>Nat.beq a d)&&(List.range b).all λa=>!hasB e a||HV c a||hasB f a) (yI c b d b f)
def HW.XO(b:HW Z a c)(d:i<a):Z.getD i true=c.testBit i:=by
 rw[<-b.bit i];have:i<Z.size:=by rw[b.size];exact d
 simp[this]
def Da(b:c1.ok h T=true)(e:HW Z T.size a)(f:c<T.size):xi c1 T.size a c=iY h T Z c:=by
 have d:=xh b c T.size e;unfold xi iY;simp only;rw[rY b d,d.XO f]
 congr 1
 rw[Bool.eq_iff_iff,List.all_eq_true,List.all_eq_true];refine forall_congr' λi=>forall_congr' λg=>?_;rw[(xf b (List.mem_range.1 g)).2,d.bit,e.bit]
 rfl
def SB(b:iF)(c d e:Nat):Bool:=(List.range c).all λa=>hasB (b.Wg.getD e 0) a||hasB d a
def UA(g:c1.ok h T=true)(m:HW Z T.size a)(i:c<T.size):SB c1 T.size a c=Region.free .any T Z c:=by
 unfold iF.ok at g;simp only[Bool.and_eq_true]at g;have n:=P_.out g.1.2;have e:c1.Wg.getD c 0=MD T c:=by rw[n];simp[i]
 unfold SB Region.free;rw[e,Array.getElem?_eq_getElem i];simp only;rw[Bool.eq_iff_iff,List.all_eq_true,List.all_eq_true];refine forall_congr' λb=>forall_congr' λf=>?_;have f:=List.mem_range.1 f;rw[m.XO f,Array.getElem?_eq_getElem f];unfold hasB MD;rw[ph (λb=>Nat.beq b c||(match T[c]?,T[b]? with
  |some H,some l=>l.after.any (λe=>Region.binds .any e&&e.on==c)||H.apart T l
  |_,none=>true
  |none,_=>false)) (λb=>b) b]
 rw[Nat.zero_testBit,Bool.false_or];have d:∀j:Nat->Bool,((List.range T.size).any λe=>j e&&e==b)=j b:=λj=>by
  rw[Bool.eq_iff_iff,List.any_eq_true];constructor
  ·rintro⟨q,_,k⟩
   simp only[Bool.and_eq_true,beq_iff_eq]at k;rw[<-k.2];exact k.1
  ·intro o
   exact⟨b,List.mem_range.2 f,by simp[o]⟩
 rw[d];simp only[Array.getElem?_eq_getElem i,Array.getElem?_eq_getElem f];have p:(Nat.beq b c)=(b==c):=by rw[Bool.eq_iff_iff,Nat.beq_eq,beq_iff_eq]
 rw[p]
 cases(b==c)<;>cases a.testBit b<;>simp
def YZ(b:iF)(a:Bool)(d e c:Nat):Bool:=
 SB b d e c&&(match b.kinds.getD c 2 with
  |0=>true
  |_=>match a with
   |true=>true
   |false=>xi b d e c)
def Ov(b:iF)(a:Bool)(d e c:Nat):Bool:=match a with
 |false=>false
 |true=>match b.kinds.getD c 2 with
  |0=>false
  |_=>!xi b d e c
def ME(b:iF)(a d c:Nat):Bool:=(λe:Nat=>(iZ b a e).all (λf=>Nat.beq f c)) (yI b a c a d)
def SC(b:iF)(a c d:Nat)(f:Nat->Bool):Nat->Bool:=match ME b a c d with
 |true=>(λg:Nat=>λe=>f e||hasB g e) (yI b a d a c)
 |false=>λ_=>true
def SD(b:iF)(a:Bool)(c d e:Nat)(f:Nat->Bool):Nat->Bool:=match Ov b a c d e with
 |true=>SC b c d e f
 |false=>f
def SE(b:c1.ok h T=true)(d:HW Z T.size a):ME c1 T.size a c=rX T Z c:=by
 have e:=xh b c T.size d;unfold ME rX;simp only;rw[rY b e]
def UB(b:c1.ok h T=true)(d:HW Z T.size a):SC c1 T.size a c f6=zq T Z c f6:=by
 have e:=xh b c T.size d;unfold SC zq;rw[SE b d]
 cases rX T Z c
 ·rfl
 ·simp only
  funext j
  rw[e.bit]
  rfl
def tW(l:Program)(j:cy)(b:Array Oper)(d:iF)(i:Nat)(a:Bool)(m:Nat->Prop)(o:List PanicEntry->List Deferred->World->Prop)(n:dq->List Deferred->World->Prop):(Nat->Bool)->Nat->Nat->dq->List Deferred->World->Prop
 |W,0,e,c,f,g=>fI (iZ d i e).isEmpty (n c f g)
 |W,p+1,e,c,f,g=>match JT d (iZ d i e)with
  |some h=>fI (YZ d a i e h) (match b[h]? with
   |none=>False
   |some k=>pf b k j c (λc=>Uz l j k (Ov d a i e h) m (λc=>tW l j b d i a m o n (SD d a i e h W) p (Nat.lor e (bit h)) c f g) c g)
     (λc=>tW l j b d i a m o n W p (Nat.lor e (bit h)) (cJ c k.dst undef) f g))
  |none=>match iZ d i e with
   |[]=>n c f g
   |r=>pM r λh=>match b[h]? with
    |none=>False
    |some k=>pf b k j c (λc=>Ux l b j k (λs _ _ f g=>match s with
     | .panic t=>o t f g
     |_=>False) (λc f q=>Vs (a&&W h) m g q (tW l j b d i a m o n W p (Nat.lor e (bit h)) c f q)) c f g)
     (λc=>tW l j b d i a m o n W p (Nat.lor e (bit h)) (cJ c k.dst undef) f g)
def zu{d e:Nat->Prop}:∀{c:List Nat},(∀a∈c,d a=e a)->pM c d=pM c e
 |[],_=>rfl
 |[a],b=>by
  unfold pM;exact b a (List.mem_cons_self ..)
 |a::h::i,b=>by
  unfold pM;rw[b a (List.mem_cons_self ..),zu λf g=>b f (List.mem_cons_of_mem _ g)]
def rZ{h:Program}{m:cy}{a:Array Oper}{i:iF}(j:i.ok h a=true){c:Bool}{n:Nat->Prop}{o:List PanicEntry->List Deferred->World->Prop}{p:dq->List Deferred->World->Prop}:∀(W:Nat->Bool) (l:Nat) {b:Array Bool} {g:Nat},HW b a.size g->
  tW h m a i a.size c n o p W l g=xd h m a c n o p W l b
 |W,0,b,g,k=>by
  funext e ds w
  unfold tW xd;rw[rY j k]
 |W,l+1,b,g,k=>by
  have q:∀W d,d<a.size->tW h m a i a.size c n o p W l (Nat.lor g (bit d))=xd h m a c n o p W l (b.setIfInBounds d true):=λW d f=>rZ j W l (k.set f);have s:JT i (iZ i a.size g)=tV h a (iZ i a.size g):=Ou j _ λd f=>xg f
  funext e ds w
  unfold tW xd;rw[rY j k,s]
  cases t:tV h a (iZ i a.size g)with
  |some d=>
   have f:d<a.size:=xg (vk t).1;have u:YZ i c a.size g d=Yu h a c b d:=by
    unfold YZ Yu;rw[UA j k f,(xf j f).1,Da j k f]
    try(cases mX h a d<;>cases c<;>rfl)
   have r:Ov i c a.size g d=pg h a c b d:=by
    unfold Ov pg;rw[(xf j f).1,Da j k f]
   have v:SD i c a.size g d W=w_ h a c b d W:=by
    unfold SD w_;rw[r,UB j k]
   simp only[u,r,v,q _ d f]
   try(cases a[d]? <;>rfl)
  |none=>
   cases x:iZ i a.size g with
   |nil=>rfl
   |cons y z=>
    simp only;refine zu λd f=>?_;have f:d<a.size:=xg (by rw[x];exact f);simp only[q _ d f]
    try(cases a[d]? <;>rfl)
def Vt(b:List (Nat×iF))(a:Nat):Option iF:=match b with
 |[]=>none
 |(c,d)::e=>match Nat.beq c a with
  |true=>some d
  |false=>Vt e a
def HW.init(a:Nat):HW (Array.replicate a false) a 0:=⟨by simp,λc=>by
 rw[Nat.zero_testBit]
 by_cases b:c<a
 ·simp[b]
 ·simp[b]⟩
def key:Code->Option Nat
 | .region id _ _=>some id
 | .seq b c=>match key b with
  |some d=>some d
  |none=>key c
 | .cond _ b c=>match key b with
  |some d=>some d
  |none=>key c
 | .block _ a=>key a
 | .loop a=>key a
 | .scope a=>key a
 |_=>none
def F_:List Oper->List Nat
 |[]=>[]
 |b::a=>match b.dst with
  |some c=>c::F_ a
  |none=>F_ a
def writes:Code->List Nat
 | .region _ b _=>F_ b.toList
 | .seq c d=>writes c++writes d
 | .cond _ c d=>writes c++writes d
 | .block _ a=>writes a
 | .loop a=>writes a
 | .scope a=>writes a
 |_=>[]
def lr{c:List Oper}(b:P∈c)(d:P.dst=some a):a∈F_ c:=by
 induction c with
 |nil=>cases b
 |cons f g e=>
  unfold F_
  cases b with
  |head=>rw[d];exact List.mem_cons_self ..
  |tail _ b=>split<;>simp[e b]
structure fS where
 loops:List (Nat×List (Nat×Value))
 Sh:List (Nat×List (Nat×Value))
 keeps:List Nat
 Sg:List Nat
 XP:List (Nat×iF)
def Qa(b:List (Nat×List (Nat×Value)))(a:Option Nat):Option (List (Nat×Value)):=match a with
 |none=>none
 |some a=>match b with
  |[]=>none
  |(c,d)::e=>match Nat.beq c a with
   |true=>some d
   |false=>Qa e (some a)
def EV(b:List Nat)(a:Nat):Bool:=match b with
 |[]=>false
 |d::c=>match Nat.beq d a with
  |true=>true
  |false=>EV c a
def fw(b:List Nat):dq->(dq->Prop)->Prop
 |[],a=>a []
 |(c,e)::d,a=>match EV b c with
  |true=>fw b d a
  |false=>fw b d λf=>a ((c,e)::f)
def Fn:List Value->Type->Type
 |[],a=>a
 |z::b,a=>match z with
  | .int _ _=>Int->Fn b a
  | .bool _=>Bool->Fn b a
  | .string _=>ByteArray->Fn b a
  | .slice _ _ _=>Option Addr->Nat->Nat->Fn b a
  | .pointer (some _)=>Nat->Nat->Fn b a
  | .pointer none=>Option Addr->Fn b a
  | .map _=>Option Nat->Fn b a
  |_=>Value->Fn b a
def ap:(b:List Value)->Fn b (World->Prop)->List Value->World->Prop
 |[],a,_,c=>a c
 |z::b,a,d,c=>match d with
  |[]=>False
  |v::d=>match z,a with
   | .int g _,a=>match v with
    | .int h e=>fI (decide (h=g)) (ap b (a e) d c)
    |_=>False
   | .bool _,a=>match v with
    | .bool f=>ap b (a f) d c
    |_=>False
   | .string _,a=>match v with
    | .string i=>ap b (a i) d c
    |_=>False
   | .slice _ _ _,a=>match v with
    | .slice j e k=>ap b (a j e k) d c
    |_=>False
   | .pointer (some _),a=>match v with
    | .pointer (some ⟨f,l,none⟩)=>ap b (a f l) d c
    |_=>False
   | .pointer none,a=>match v with
    | .pointer m=>ap b (a m) d c
    |_=>False
   | .map _,a=>match v with
    | .map n=>ap b (a n) d c
    |_=>False
   | .float _ _,a=>ap b (a v) d c
   | .complex _ _ _,a=>ap b (a v) d c
   | .chan _,a=>ap b (a v) d c
   | .func _ _ _,a=>ap b (a v) d c
   | .nilFunc,a=>ap b (a v) d c
   | .iface _ _,a=>ap b (a v) d c
   | .nilIface,a=>ap b (a v) d c
   | .agg _,a=>ap b (a v) d c
   | .tuple _,a=>ap b (a v) d c
def mZ:List Value->(List Value->Prop)->Prop
 |[],b=>b []
 |z::c,b=>match z with
  | .int f _=>∀d,mZ c λa=>b (.int f d::a)
  | .bool _=>∀e,mZ c λa=>b (.bool e::a)
  | .string _=>∀g,mZ c λa=>b (.string g::a)
  | .slice _ _ _=>∀h d i,mZ c λa=>b (.slice h d i::a)
  | .pointer (some _)=>∀e j,mZ c λa=>b (.pointer (some ⟨e,j,none⟩)::a)
  | .pointer none=>∀k,mZ c λa=>b (.pointer k::a)
  | .map _=>∀l,mZ c λa=>b (.map l::a)
  |_=>∀m,mZ c λa=>b (m::a)
def ap.all:∀{h:List Value} {j:Fn h (World->Prop)} {f:List Value} {l:World} {φ:List Value->Prop},f.length=h.length->ap h j f l->mZ h φ->φ f
 |[],j,f,l,φ,i,_,e=>by
  cases f with
  |nil=>exact e
  |cons g f=>simp at i
 |z::h,j,f,l,φ,i,a,e=>by
  cases f with
  |nil=>simp at i
  |cons g f=>
   have c:f.length=h.length:=by simpa using i
   cases z
   case pointer s=>
    cases s with
    |none=>
     simp only[mZ]at e
     cases g<;>try exact a.elim
     rename_i b;exact ap.all (φ:=λd=>φ (.pointer b::d)) c a (e b)
    |some _=>
     simp only[mZ]at e
     cases g<;>try exact a.elim
     rename_i b
     cases b with
     |none=>exact a.elim
     |some b=>
      obtain⟨m,n,o⟩:=b
      cases o with
      |some o=>exact a.elim
      |none=>exact ap.all (φ:=λd=>φ (.pointer (some ⟨m,n,none⟩)::d)) c a (e m n)
   all_goals simp only[mZ]at e
   case int k _=>
    cases g<;>try exact a.elim
    rename_i t p;obtain⟨u,a⟩:=fI.out a;obtain rfl:=of_decide_eq_true u;exact ap.all (φ:=λd=>φ (.int t p::d)) c a (e p)
   case bool=>
    cases g<;>try exact a.elim
    rename_i b;exact ap.all (φ:=λd=>φ (.bool b::d)) c a (e b)
   case string=>
    cases g<;>try exact a.elim
    rename_i b;exact ap.all (φ:=λd=>φ (.string b::d)) c a (e b)
   case slice=>
    cases g<;>try exact a.elim
    rename_i b q r;exact ap.all (φ:=λd=>φ (.slice b q r::d)) c a (e b q r)
   case map=>
    cases g<;>try exact a.elim
    rename_i b;exact ap.all (φ:=λd=>φ (.map b::d)) c a (e b)
   all_goals exact ap.all (φ:=λd=>φ (g::d)) c a (e g)
def JU:EV b4 a=true↔a∈b4:=by
 induction b4 with
 |nil=>simp[EV]
 |cons b d c=>
  unfold EV
  cases h:Nat.beq b a with
  |true=>
   have:=Nat.eq_of_beq_eq_true h;simp[this]
  |false=>
   have:b≠a:=by rintro rfl;simp at h
   simp only[c,List.mem_cons];constructor
   ·exact .inr
   ·rintro(rfl|h)
    ·exact absurd rfl this
    ·exact h
def fw.out{f:List Nat}:∀{m:dq} {h:dq->Prop},fw f m h->∃d,(∀b a,a∉f->get b d a=get b m a)/\(∀b a,a∈f->get b d a=b a)/\h d
 |[],h,c=>⟨[],λ_ _ _=>rfl,λ_ _ _=>rfl,c⟩
 |(j,n)::o,h,c=>by
  unfold fw at c;split at c
  ·rename_i i
   have g:j∈f:=JU.1 i;obtain⟨d,k,l,c⟩:=fw.out c;refine⟨d,λb a e=>?_,l,c⟩;rw[k b a e,eT,if_neg (by rintro rfl;exact e g)]
  ·rename_i i
   have g:j∉f:=λg=>by rw[JU.2 g]at i;cases i
   obtain⟨d,k,l,c⟩:=fw.out c;refine⟨(j,n)::d,λb a e=>?_,λb a e=>?_,c⟩
   ·rw[eT,eT,k b a e]
   ·rw[eT,if_neg (by rintro rfl;exact g e),l b a e]
def i_:List (Nat×Value)->List Value
 |[]=>[]
 |(_,a)::b=>a::i_ b
def AN(a:cy)(b:dq):List (Nat×Value)->List Value
 |[]=>[]
 |(c,_)::d=>get a b c::AN a b d
def zv:List (Nat×Value)->List Value->dq->dq
 |(b,_)::c,d::e,a=>(b,d)::zv c e a
 |_,_,a=>a
def ki(a:cy)(b:dq):∀c,(AN a b c).length=(i_ c).length
 |[]=>rfl
 |(_,_)::d=>by simp[AN,i_,ki a b d]
def Gb(c:cy)(b:Nat->Value)(d:dq):∀(h:List (Nat×Value)) (a:Nat),(∀i,get c d i=b i)->get c (zv h (h.map λe=>b e.1) d) a=b a
 |[],a,f=>f a
 |(j,l)::g,a,f=>by
  show get c ((j,b j)::zv g (g.map λe=>b e.1) d) a=_;rw[eT];split
  ·rename_i k;rw[k]
  ·exact Gb c b d g a f
def Bd(a:cy)(b:dq):∀c,AN a b c=c.map λd=>get a b d.1
 |[]=>rfl
 |(_,_)::e=>by simp[AN,Bd a b e]
def Dd(a b:List Deferred)(c:Prop):Prop:=match a,b with
 |[],[]=>c
 |a,b=>a=b/\c
def Dd.out{a c:List Deferred}(b:Dd a c N):a=c/\N:=by
 unfold Dd at b;split at b
 ·exact⟨rfl,b⟩
 ·exact b
def Df(f:cy->dq->List Deferred->World->Prop)(e:iW):iW:=λg a b c d=>match g with
 | .normal=>f a b c d
 | .exit id=>e (.exit id) a b c d
 | .goto h=>e (.goto h) a b c d
 | .ret=>e .ret a b c d
 | .panic i=>e (.panic i) a b c d
 | .outgrown=>False
def yJ(id:Nat)(a:iW):iW:=λg b c d e=>match g with
 | .exit f=>match Nat.beq f id with
  |true=>a .normal b c d e
  |false=>a (.exit f) b c d e
 | .normal=>a .normal b c d e
 | .goto h=>a (.goto h) b c d e
 | .ret=>a .ret b c d e
 | .panic i=>a (.panic i) b c d e
 | .outgrown=>False
def HX(a:iW):iW:=λx b c d e=>match x with
 | .goto _=>False
 |x=>a x b c d e
def D(i:Program)(j:fS):Code->iW->cy->dq->List Deferred->World->Prop
 | .skip,f,d,a,b,c=>f .normal d a b c
 | .label _,f,d,a,b,c=>f .normal d a b c
 | .exit id,f,d,a,b,c=>f (.exit id) d a b c
 | .ret,f,d,a,b,c=>f .ret d a b c
 | .region id e o,f,d,a,b,c=>match o with
  |false=>CW i d e f e.toList (λa b c=>f .normal d a b c) a b c
  |true=>match Oq i e.toList with
   |false=>fI (Region.lexB .any e) (tU i d e e.toList (λa=>∀g,bE c g->f .normal d a b g) a c)
   |true=>fI (Region.noSelect e) (match Vt j.XP id with
    |none=>match EV j.keeps id with
     |true=>∀g,bE c g->∃h:Nat->Prop,xd i d e true h (λl b c=>∀d a,f (.panic l) d a b c) (λa b c=>f .normal d a b c) (λ_=>!EV j.Sg id) e.size (Array.replicate e.size false) a b g
     |false=>∀g,bE c g->xd i d e false (λ_=>False) (λl b c=>∀d a,f (.panic l) d a b c) (λa b c=>f .normal d a b c) (λ_=>true) e.size (Array.replicate e.size false) a b g
    |some t=>fI (t.ok i e) (match EV j.keeps id with
     |true=>∀g,bE c g->∃h:Nat->Prop,tW i d e t e.size true h (λl b c=>∀d a,f (.panic l) d a b c) (λa b c=>f .normal d a b c) (λ_=>!EV j.Sg id) e.size 0 a b g
     |false=>∀g,bE c g->tW i d e t e.size false (λ_=>False) (λl b c=>∀d a,f (.panic l) d a b c) (λa b c=>f .normal d a b c) (λ_=>true) e.size 0 a b g))
 | .seq p q,f,d,a,b,c=>match Qa j.Sh (key q)with
  |none=>D i j p (Df (λd a b c=>D i j q f d a b c) f) d a b c
  |some h=>∃x:Fn (i_ h) (World->Prop),D i j p (Df (λm u n g=>Dd n b (ap (i_ h) x (AN m u h) g)) f) d a b c/\
    fw (writes p) a λv=>mZ (i_ h) λr=>∀(m:cy) (g:World),ap (i_ h) x r g->D i j q f m (zv h r v) b g
 | .cond k p q,f,d,a,b,c=>match ev d a k with
  | .bool z=>al z (D i j p f d a b c) (D i j q f d a b c)
  |_=>False
 | .block id k,f,d,a,b,c=>D i j k (yJ id f) d a b c
 | .scope k,f,d,a,b,c=>D i j k (HX f) d a b c
 | .loop k,f,d,a,b,c=>match Qa j.loops (key k)with
  |none=>False
  |some h=>∃w:Nat->Fn (i_ h) (World->Prop),(∃s,ap (i_ h) (w s) (AN d a h) c)/\
    ∀s,fw (writes k) a λv=>mZ (i_ h) λr=>∀(m:cy) (g:World),ap (i_ h) (w s) r g->
     D i j k (Df (λm u n g=>Dd n b (∃y,y<s/\ap (i_ h) (w y) (AN m u h) g)) f) m (zv h r v) b g
 |_,_,_,_,_,_=>False
def dK.mono{g h:cy}{i j:dq}{k f:List Nat}{l m:iW}(p:dK a h j k l f0 J b)(q:∀c,c∈k->c∈f)(r:∀c,c∉f->get h j c=get g i c)(s:∀d e n b,l f0 d e n b->m f0 d e n b):dK a g i f m f0 J b:=by
 obtain⟨d,e,t,u,v⟩:=p;exact⟨d,e,t,λc o=>(u c (λw=>o (q c w))).trans (r c o),s _ _ _ _ v⟩
def JV{g e:cy}{b:Value}{c:Nat}:∀{f:dq},get g f c=b->e c=b->get e f c=b
 |[],_,a=>a
 |(i,j)::k,a,h=>by
  rw[eT]at a⊢;split
  ·rename_i d;rw[if_pos d]at a;exact a
  ·rename_i d;rw[if_neg d]at a;exact JV a h
def xj{n:Nat}{B0:cy}{g c:dq}(e:List (Nat×Value))(h:J.tmps.size=n)(i:∀b a,a∉b4->get b c a=get b g a)(j:∀b a,a∈b4->get b c a=b a)(k:∀a,a∉b4->J.tmps.getD a undef=get B0 g a):
  Rel n (λa=>J.tmps.getD a undef) (zv e (e.map λl=>J.tmps.getD l.1 undef) c) J:=by
 refine⟨h,λa=>(Gb _ (λa=>J.tmps.getD a undef) c e a λd=>?_).symm⟩
 by_cases f:d∈b4
 ·rw[j _ d f]
 ·rw[i _ d f]
  exact JV (k d f).symm rfl
def od(d:Rel a U O J):∀b:List (Nat×Value),AN U O b=b.map λc=>J.tmps.getD c.1 undef:=λb=>by
 rw[Bd];exact List.map_congr_left λc _=>(d.slot c.1).symm
def lf{g:Program}{d:Array Oper}{h:World->Prop}{i j:Act->Prop}(e:∀a,i a->j a):∀(k:List Oper) (a:Act),wpQuiet g d h i k a->wpQuiet g d h j k a
 |[],a,c=>e a c
 |l::b,a,c=>by
  unfold wpQuiet at c⊢;split
  ·rename_i f
   rw[if_pos f]at c;exact Oper.quiet_mono (lf e b) c
  ·rename_i f
   rw[if_neg f]at c;exact lf e b _ c
variable{e7:fS}
def Wh(P:h.follows .mixedOrders=true):∀(y:Code) (o:iW) (f:cy) (d:dq) (j:Act) (i:World),
  (∀c,c∈writes y->c<a)->(∀I f d A i,o I f d A i->I≠.outgrown)->Rel a f d j->D h e7 y o f d j.defers i->y.wp h (dK a f d (writes y) o) j i:=by
 intro y
 induction y with
 |skip=>intro o f d j i _ _ l b;exact wp_skip ⟨f,d,l,λ_ _=>rfl,b⟩
 |label Q=>intro o f d j i _ _ l b;exact wp_label ⟨f,d,l,λ_ _=>rfl,b⟩
 |exit id=>intro o f d j i _ _ l b;exact wp_exit ⟨f,d,l,λ_ _=>rfl,b⟩
 |ret=>intro o f d j i _ _ l b;exact wp_ret ⟨f,d,l,λ_ _=>rfl,b⟩
 |goto Q=>intro o f d j i _ _ l b;exact b.elim
 |refuse sO=>intro o f d j i _ _ l b;exact b.elim
 |scope y S=>
  intro o f d j i x B l b;refine wp_scope_straight (Code.wp_mono ?_ (S (HX o) f d j i x (by intro p f d A i e M;subst M;exact B _ _ _ _ _ e rfl) l b));intro p q r m;obtain⟨u,t,v,w,e⟩:=m
  cases p with
  |goto Q=>exact e.elim
  |normal=>exact⟨u,t,v,w,e⟩
  |exit id=>exact⟨u,t,v,w,e⟩
  |ret=>exact⟨u,t,v,w,e⟩
  |panic J=>exact⟨u,t,v,w,e⟩
  |outgrown=>exact⟨u,t,v,w,e⟩
 |rangeFunc d4 ps I Z d5 d6=>intro o f d j i _ _ l b;exact b.elim
 |region id n K=>
  intro o f d j i x _ l b;have hl:∀T∈n.toList,∀U,T.dst=some U->U<a/\U∈writes (.region id n K):=λT R U hd=>⟨x U (lr R hd),lr R hd⟩
  have a1:∀a3 c,kh n a3=some c->c<a:=by
   intro a3 c V;unfold kh at V
   cases R:n[a3]? with
   |none=>rw[R]at V;simp at V
   |some T=>
    rw[R]at V;have c2:T∈n.toList:=by
     have:=Array.getElem?_eq_some_iff.1 R;obtain⟨b2,rfl⟩:=this;simp
    exact(hl T c2 c V).1
  cases K with
  |false=>exact wp_region_list (Bc a1 n.toList d j i hl l (λ_ _=>rfl) b)
  |true=>
   unfold D at b;simp only at b;split at b
   ·obtain⟨hB,b⟩:=fI.out b
    refine wp_region_quiet (C:=bE i) P hB ⟨1,rfl⟩ ?_;have:=rV (B0:=f) (e0:=d) (W:=writes (.region id n true)) a1 n.toList d j hl l (λ_ _=>rfl) b;refine lf ?_ _ _ this;rintro q ⟨e',a4,a5,c3,e⟩ r a6;exact⟨f,e',a4,c3,by rw[a5];exact e r a6⟩
   ·obtain⟨c4,b⟩:=fI.out b
    have C:∀(L:Bool) (s:Nat->Prop) (a7:Nat->Bool),xd h f n L s (λJ A i=>∀f d,o (.panic J) f d A i) (λd A i=>o .normal f d A i) a7 n.size (Array.replicate n.size false) d j.defers (i.drewN 1)->(Code.region id n true).wp h (dK a f d (writes (.region id n true)) o) j i:=λL s a7 b=>
     wp_region_any P (o_ (λJ j i b=>C_.post J j i b) (λ_ _ b=>b) _ _ _ _ _ (mC (B0:=f) (e0:=d) (W:=writes (.region id n true)) a1 c4 hl a7 _ _ d j _ l (λ_ _=>rfl) b))
    split at b
    ·split at b
     ·obtain⟨s,b⟩:=b _ ⟨1,rfl⟩
      exact C _ s _ b
     ·exact C _ _ _ (b _ ⟨1,rfl⟩)
    ·obtain⟨hM,b⟩:=fI.out b
     split at b
     ·obtain⟨s,b⟩:=b _ ⟨1,rfl⟩
      rw[rZ hM _ _ (HW.init _)]at b;exact C _ s _ b
     ·have b:=b _ ⟨1,rfl⟩
      rw[rZ hM _ _ (HW.init _)]at b;exact C _ _ _ b
 |seq I Z E F=>
  intro o f d j i x B l b;have b3:∀c,c∈writes I->c<a:=λc k=>x c (List.mem_append.2 (.inl k));have b4:∀c,c∈writes Z->c<a:=λc k=>x c (List.mem_append.2 (.inr k));have g:∀(W:cy->dq->List Deferred->World->Prop) (p:Exit) (q:Act) (r:World),p≠.normal->dK a f d (writes I) (Df W o) p q r->dK a f d (writes (I.seq Z)) o p q r:=by
   intro W p q r c5 m;refine m.mono (λc k=>List.mem_append.2 (.inl k)) (λ_ _=>rfl) λu t d7 w1 e=>?_
   cases p with
   |normal=>exact absurd rfl c5
   |outgrown=>exact e.elim
   |_=>exact e
  have b5:∀(W:cy->dq->List Deferred->World->Prop) p f d A i,Df W o p f d A i->p≠.outgrown:=by
   intro W p f d A i e M;subst M;exact e.elim
  unfold D at b;split at b
  ·have hx:=E _ f d j i b3 (b5 _) l b
   refine wp_seq (Code.wp_mono ?_ hx);intro p q r m
   cases p with
   |normal=>
    obtain⟨u,t,v,w,e⟩:=m;have hy:=F o u t q r b4 B v e;refine Code.wp_mono (λp b6 b7 m=>?_) hy;refine m.mono (λc k=>List.mem_append.2 (.inr k)) (λc k=>w c λP=>k (List.mem_append.2 (.inl P))) λ_ _ _ _ e=>e
   |exit id=>exact g _ _ _ _ (by simp) m
   |goto Q=>exact g _ _ _ _ (by simp) m
   |ret=>exact g _ _ _ _ (by simp) m
   |panic J=>exact g _ _ _ _ (by simp) m
   |outgrown=>exact g _ _ _ _ (by simp) m
  ·rename_i s hS
   obtain⟨d8,b,a8⟩:=b;obtain⟨t,h1,h2,a8⟩:=fw.out a8;have hx:=E _ f d j i b3 (b5 _) l b;refine wp_seq (Code.wp_mono ?_ hx);intro p q r m
   cases p with
   |normal=>
    obtain⟨N,O,z,a0,e⟩:=m;obtain⟨a2,hJ⟩:=Dd.out e;have hv:=od z s;have a9:=ki N O s;have b8:=ap.all a9 hJ a8 (λc=>q.tmps.getD c undef) r hJ;rw[hv,<-a2]at b8;have b9:=xj (n:=a) s z.size h1 h2 (B0:=f) (λc k=>(z.slot c).trans (a0 c k));have hy:=F o _ _ q r b4 B b9 b8;refine Code.wp_mono (λp b6 b7 m=>?_) hy;refine m.mono (λc k=>List.mem_append.2 (.inr k)) (λc k=>?_) λ_ _ _ _ e=>e;rw[<-b9.slot];exact(z.slot c).trans (a0 c λP=>k (List.mem_append.2 (.inl P)))
   |exit id=>exact g _ _ _ _ (by simp) m
   |goto Q=>exact g _ _ _ _ (by simp) m
   |ret=>exact g _ _ _ _ (by simp) m
   |panic J=>exact g _ _ _ _ (by simp) m
   |outgrown=>exact g _ _ _ _ (by simp) m
 |cond y I Z E F=>
  intro o f d j i x B l b;unfold D at b;split at b
  ·rename_i c6 H
   refine wp_cond_split (t:=c6) (by rw[l.eval];exact H) (λk=>?_) (λhf=>?_)
   ·subst k
    refine Code.wp_mono (λp q r m=>?_) (E o f d j i (λc k=>x c (List.mem_append.2 (.inl k))) B l b);exact m.mono (λc k=>List.mem_append.2 (.inl k)) (λ_ _=>rfl) λ_ _ _ _ e=>e
   ·subst hf
    refine Code.wp_mono (λp q r m=>?_) (F o f d j i (λc k=>x c (List.mem_append.2 (.inr k))) B l b);exact m.mono (λc k=>List.mem_append.2 (.inr k)) (λ_ _=>rfl) λ_ _ _ _ e=>e
  ·exact b.elim
 |block id y S=>
  intro o f d j i x B l b;refine wp_block (Code.wp_mono ?_ (S (yJ id o) f d j i x (by intro p f d A i e M;subst M;exact e.elim) l b));intro p q r m;obtain⟨u,t,v,w,e⟩:=m
  cases p with
  |exit X=>
   show(if X=id then _ else _);simp only[yJ]at e
   cases H:Nat.beq X id with
   |true=>
    rw[H]at e;rw[if_pos (Nat.eq_of_beq_eq_true H)];exact⟨u,t,v,w,e⟩
   |false=>
    rw[H]at e;rw[if_neg (by rintro rfl;simp at H)];exact⟨u,t,v,w,e⟩
  |normal=>exact⟨u,t,v,w,e⟩
  |goto Q=>exact⟨u,t,v,w,e⟩
  |ret=>exact⟨u,t,v,w,e⟩
  |panic J=>exact⟨u,t,v,w,e⟩
  |outgrown=>exact e.elim
 |loop y S=>
  intro o f d j i x B l b;unfold D at b;split at b
  ·exact b.elim
  ·rename_i s hS
   obtain⟨c7,⟨m0,h0⟩,c8⟩:=b;refine wp_loop_ghost (λb0 q r=>q.tmps.size=a/\(∀c,c∉writes y->q.tmps.getD c undef=get f d c)/\q.defers=j.defers/\
    ap (i_ s) (c7 b0) (s.map λb1=>q.tmps.getD b1.1 undef) r) m0 ⟨l.size,λc _=>l.slot c,rfl,by rw[<-od l s];exact h0⟩ ?_
   rintro b0 q r ⟨c9,c0,a2,hI⟩;obtain⟨t,h1,h2,d0⟩:=fw.out (c8 b0);have a9:(s.map λb1=>q.tmps.getD b1.1 undef).length=(i_ s).length:=by rw[<-ki f d s,Bd];simp
   have H:=ap.all a9 hI d0 (λc=>q.tmps.getD c undef) r hI;have c1:=xj (n:=a) s c9 h1 h2 c0;rw[<-a2]at H;have d1:=S _ _ _ q r x (by intro p f d A i e M;subst M;exact e.elim) c1 H;refine Code.wp_mono ?_ d1;intro p b6 b7 m;obtain⟨N,O,z,a0,e⟩:=m;have Y:∀c,c∉writes y->get N O c=get f d c:=λc k=>(a0 c k).trans ((c1.slot c).symm.trans (c0 c k))
   cases p with
   |normal=>
    obtain⟨d2,m',b2,d3⟩:=Dd.out e;refine⟨m',b2,z.size,λc k=>(z.slot c).trans (Y c k),d2.trans a2,?_⟩;rw[<-od z s];exact d3
   |outgrown=>exact e.elim
   |exit id=>exact⟨N,O,z,Y,e⟩
   |goto Q=>exact⟨N,O,z,Y,e⟩
   |ret=>exact⟨N,O,z,Y,e⟩
   |panic J=>exact⟨N,O,z,Y,e⟩
def JW(a:Program):List ResultVar->cy->dq->World->(List Value->Prop)->Prop
 |[],_,_,_,b=>b []
 |i::h,c,d,f,b=>match i with
  | .tmp e=>JW a h c d f λg=>b (get c d e::g)
  | .cell j e=>fI (known a e) (ow a e (get c d j) f λk=>JW a h c d f λg=>b (k::g))
def oneOf(a:List Value):Value:=match a with
 |[b]=>b
 |a=>.tuple a.toArray
def Lv(f:Program)(a:World->Prop)(g:List PanicEntry->World->Prop):List Deferred->FrameMode->World->Prop
 |[],.returning,c=>a c
 |[],.panicking b,c=>g b c
 |[],.run,_=>False
 |d::i,j,c=>j≠.run/\∃h e,d.target= .fn (.func h) e/\enters f h=true/\
   CallsD f h (d.args++e) j c λm k l=>Sx m (λ_=>Lv f a g i (settle k) l) (λn=>Lv f a g i (raised k n) l)
def gT(b:Program)(d:Func)(e:cy)(f:dq)(c:Ending->World->Prop)(g:List Deferred)(h:FrameMode)(a:World):Prop:=
 Lv b (λa=>JW b d.results.toList e f a λi=>c (.returned (oneOf i)) a) (λj a=>c (.panicked j) a) g h a
def TW(a:Program)(b:Func)(c:Ending->World->Prop):iW:=λh d e f g=>match h with
 | .normal=>gT a b d e c f .returning g
 | .ret=>gT a b d e c f .returning g
 | .panic i=>gT a b d e c f (.panicking i) g
 |_=>False
def Dg(a:Array Value):ResultVar->Sem Value
 | .tmp b=>pure (a.getD b undef)
 | .cell c b=>do loadVar b (<-asAddr (a.getD c undef))
def r_{e:Program}{m:cy}{n:dq}{q:Nat}{d:Act}(f:Rel q m n d){c:World}:∀{i:List ResultVar} {g:List Value->Prop},JW e i m n c g->
  ∃h,(i.mapM (Dg d.tmps)).run e c=Result.ok h c/\g h
 |[],g,a=>⟨[],by rw[List.mapM_nil];rfl,a⟩
 |r::i,g,a=>by
  unfold JW at a
  cases r with
  |tmp j=>
   obtain⟨h,k,a⟩:=r_ f a;refine⟨_,?_,a⟩;rw[List.mapM_cons];simp only[Dg,Sem.run_bind,Sem.run_pure,Result.andThen_ok,k,f.slot]
  |cell l j=>
   obtain⟨s,a⟩:=fI.out a;obtain⟨t,u,a⟩:=ow.out (known.out s).1 a;obtain⟨h,k,a⟩:=r_ f a;refine⟨_,?_,a⟩;rw[List.mapM_cons];have b:=u c rfl;rw[<-f.slot]at b;have:(Dg d.tmps (.cell l j)).run e c= .ok t c:=by
    unfold Dg
    cases o:d.tmps.getD l undef<;>rw[o]at b<;>simp only[Instr.loadAt,Instr.sureAddr,stuck,Sem.run_bind,Sem.run_halt,Result.andThen,reduceCtorEq]at b
    rename_i p
    cases p with
    |none=>simp at b
    |some p=>
          show(do loadVar j (<-asAddr (d.tmps.getD l undef)):Sem Value).run e c=_;rw[o];simpa[asAddr]using b
   simp only[Sem.run_bind,this,Sem.run_pure,Result.andThen_ok,k]
def sd(c:(a5.results.toList.mapM (Dg J.tmps)).run h b=Result.ok a3 b):(results a5 J.tmps).run h b= .ok (oneOf a3) b:=by
 have d:(a5.results.mapM (Dg J.tmps)).run h b=Result.ok a3.toArray b:=by
  rw[Array.mapM_eq_mapM_toList,Sem.run_map,c]
  rfl
 have e:(results a5 J.tmps)=(a5.results.mapM (Dg J.tmps)>>=λa=>pure (if c:a.size=1 then a[0]else Value.tuple a)):=by
   unfold results
   congr 2
 rw[e];simp only[Sem.run_bind,d,Result.andThen_ok,Sem.run_pure]
 congr 1
 match a3 with
 |[]=>rfl
 |[v]=>rfl
 |v::f::g=>
  rw[dif_neg (by simp)]
  rfl
def oe{j:Program}{k:Func}{l:cy}{m:dq}{s:Nat}{n:Act}(g:Rel s l m n){o:Ending->World->Prop}:∀(c:List Deferred) (h:FrameMode) (b:World),
  gT j k l m o c h b->Leaves j k n.tmps o c h b
 |[],.returning,b,a=>by
  obtain⟨E,t,a⟩:=r_ g a;exact⟨_,sd t,a⟩
 |[],.panicking u,b,a=>a
 |[],.run,b,a=>a.elim
 |d::c,h,b,a=>by
  obtain⟨v,p,e,q,w,x⟩:=a;refine⟨v,.func p,e,p,d.args++e,q,?_,?_⟩
  ·rw[q];simp only[invoke];exact iX w _ _
  ·intro y cs z
   obtain⟨r,A,B,C,i,f⟩:=x y cs z;refine⟨r,A,B,C,?_,f⟩
   cases r with
   |returned F=>exact oe g c _ _ i
   |panicked u=>exact oe g c _ _ i
   |outgrown=>exact i.elim
def fC:Nat->List Value->dq
 |_,[]=>[]
 |a,b::c=>(a,b)::fC (a+1) c
def pk:∀(c:List Value) (a b:Nat),get (λ_=>undef) (fC a c) b=if a<=b then c.getD (b-a) undef else undef
 |[],a,b=>by simp[fC,get]
 |v::f,a,b=>by
  rw[fC,eT,pk f (a+1) b]
  by_cases d:a=b
  ·subst d;simp
  ·rw[if_neg d]
   by_cases e:a+1<=b
   ·rw[if_pos e,if_pos (by omega),show b-a=(b-(a+1))+1 from by omega];rfl
   ·rw[if_neg e,if_neg (by omega)]
def vN(a:Nat):List Nat->Bool
 |[]=>true
 |d::b=>match Nat.blt d a with
  |true=>vN a b
  |false=>false
def lM{e:Nat}:∀{f:List Nat},vN e f=true->∀a,a∈f->a<e
 |[],_,a,b=>by cases b
 |d::h,c,a,b=>by
  unfold vN at c;split at c
  ·rename_i g
   cases b with
   |head=>
        have:d+1<=e:=by simpa[Nat.blt]using g
        omega
   |tail _ b=>exact lM c a b
  ·cases c
def gl(g:fS)(i:h.follows .mixedOrders=true)(j:h.funcs[z]? =some a5)(k:a5.body=some a0)(s:r.size<=a5.ntmps)(l:vN a5.ntmps (writes a0)=true)(m:D h g a0 (TW h a5 t) (λ_=>undef) (fC 0 r.toList) [] b):Calls h z r b t:=by
 refine calls_of_wp_defers j k ?_;have n:Rel a5.ntmps (λ_=>undef) (fC 0 r.toList) {tmps:=r++Array.replicate (a5.ntmps-r.size) undef,defers:=[]}:=by
  refine⟨by simp;omega,λd=>?_⟩;rw[pk,if_pos (Nat.zero_le _),Nat.sub_zero];simp only[Array.getD_eq_getD_getElem?,List.getD_eq_getElem?_getD,Array.getElem?_append,Array.getElem?_toList]
  by_cases e:d<r.size
  ·simp[e]
  ·rw[if_neg e]
   simp only[Array.getElem?_replicate];have:r[d]? =none:=by simp;omega
   rw[this];split<;>rfl
 refine Code.wp_mono ?_ (Wh i a0 (TW h a5 t) _ _ _ b (lM l) (by intro f o p u b a q;subst q;exact a.elim) n m);rintro f v w ⟨o,p,c,_,a⟩
 cases f with
 |normal=>exact oe c _ _ _ a
 |ret=>exact oe c _ _ _ a
 |panic x=>exact oe c _ _ _ a
 |exit id=>exact a.elim
 |goto y=>exact a.elim
 |outgrown=>exact a.elim
def Gc(d:Program)(e:Func)(a:Ending->World->Prop):iW:=λh f g b c=>match h with
 | .normal=>(match b with
  |[]=>gT d e f g a [] .returning c
  |_=>False)
 | .ret=>(match b with
  |[]=>gT d e f g a [] .returning c
  |_=>False)
 | .panic i=>(match b with
  |[]=>a (.panicked i) c
  |_=>False)
 |_=>False
def Gc.out{P:Program}(k:Rel a U O J)(c:Gc P a5 t f0 U O J.defers b):
  J.defers=[]/\((f0= .normal\/f0= .ret)/\(∃d,(results a5 J.tmps).run P b= .ok d b/\t (.returned d) b)\/∃i,f0= .panic i/\t (.panicked i) b):=by
 have e:∀f,J.defers=f->(match f with
  |[]=>gT P a5 U O t [] .returning b
  |_=>False)->f=[]/\∃d,(results a5 J.tmps).run P b= .ok d b/\t (.returned d) b:=by
  intro f j c;split at c
  ·obtain⟨l,m,c⟩:=r_ k c
   exact⟨rfl,_,sd m,c⟩
  ·exact c.elim
 unfold Gc at c;split at c
 ·obtain⟨g,h⟩:=e _ rfl c
  exact⟨g,.inl ⟨.inl rfl,h⟩⟩
 ·obtain⟨g,h⟩:=e _ rfl c
  exact⟨g,.inl ⟨.inr rfl,h⟩⟩
 ·split at c
  ·rename_i j
   exact⟨j,.inr ⟨_,rfl,c⟩⟩
  ·exact c.elim
 ·exact c.elim
def yK(e:r.size<=a)(d:List Deferred):Rel a (λ_=>undef) (fC 0 r.toList) {tmps:=r++Array.replicate (a-r.size) undef,defers:=d}:=by
 refine⟨by simp;omega,λb=>?_⟩;rw[pk,if_pos (Nat.zero_le _),Nat.sub_zero];simp only[Array.getD_eq_getD_getElem?,List.getD_eq_getElem?_getD,Array.getElem?_append,Array.getElem?_toList]
 by_cases c:b<r.size
 ·simp[c]
 ·rw[if_neg c]
  simp only[Array.getElem?_replicate];have:r[b]? =none:=by simp;omega
  rw[this];split<;>rfl
def BK(g:fS)(i:h.follows .mixedOrders=true)(j:h.funcs[z]? =some a5)(k:a5.body=some a0)(l:r.size<=a5.ntmps)(m:vN a5.ntmps (writes a0)=true)(a:D h g a0 (Gc h a5 t) (λ_=>undef) (fC 0 r.toList) [] b):CallsD h z r a8 b λc n f=>n=a8/\t c f:=by
 refine callsD_of_wp j k (Code.wp_mono ?_ (Wh i a0 (Gc h a5 t) _ _ _ b (lM m) (by intro o p c u b d q;subst q;exact d.elim) (yK l []) a));rintro o v f ⟨p,c,s,_,d⟩;obtain⟨e,(⟨rfl|rfl,a⟩|⟨w,rfl,a⟩)⟩:=d.out s
 ·exact⟨e,a⟩
 ·exact⟨e,a⟩
 ·exact⟨e,a⟩
def uH:FrameMode->Value
 | .panicking ({v,recovered:=false,goexit:=false}::_)=>v
 |_=>.nilIface
def iM:FrameMode->FrameMode
 | .panicking ({v,recovered:=false,goexit:=false}::older)=>.panicking ({v,recovered:=true}::older)
 |u=>u
def MF{b:Frame}{cs:List Frame}(f:b.mode=a8):recoverD (b::cs)=some (uH a8,{b with mode:=iM a8}::cs)\/(recoverD (b::cs)=none/\uH a8= .nilIface/\iM a8=a8):=by
 subst f;unfold recoverD;simp only;split
 ·rename_i c
  left;rw[c]
  rfl
 ·rename_i e
  right;refine⟨rfl,?_,?_⟩
  ·unfold uH
   split
   ·rename_i d a c;exact absurd c (e d a)
   ·rfl
  ·unfold iM
   split
   ·rename_i d a c;exact absurd c (e d a)
   ·rfl
def RO(u:fS){id:Nat}{f:Tmp}{g:Array TypeId}(v:h.follows .mixedOrders=true)(w:h.funcs[z]? =some a5)(x:a5.body=some (.seq (.region id #[P] false) a0))(y:P.op= .call {callee:=.builtin .recover,args:= #[],argTypes:=g})(d:P.dst=some f)(A:P.guard=none)(B:Nat.blt f a5.ntmps=true)(C:r.size<=a5.ntmps)(E:vN a5.ntmps (writes a0)=true)(e:D h u a0 (Gc h a5 λi m=>i0 i (iM a8) m) (λ_=>undef) ((f,uH a8)::fC 0 r.toList) [] b):CallsD h z r a8 b i0:=by
 refine callsD_of_wpS w x λa cs n=>wpS_seq (wpS_region ?_);have F:∀o:Act,(execOp o.eval P).run h b= .ok .recover b:=λo=>by simp[execOp,y,resolve,invoke,builtin]
 have H:∀p,Region.wanted P p=true:=λp=>by simp[Region.wanted,A]
 have I:f+1<=a5.ntmps:=by simpa[Nat.blt]using B
 have q:∀(j:Value) (c:List Frame),j=uH a8->c={a with mode:=iM a8}::cs->
   a0.wpS h (bodyPostS h a5 a cs i0) (({tmps:=r++Array.replicate (a5.ntmps-r.size) undef,defers:=[]}:Act).put P.dst j) c b:=by
  rintro j c rfl rfl;refine wpS_of_wp ?_;have s:=(yK C []).put P.dst (λQ t=>by rw[d]at t;exact(Option.some.inj t)▸I) (uH a8);rw[d]at s⊢;refine Code.wp_mono ?_ (Wh v a0 _ _ _ _ b (lM E) (by intro J K i R b k L;subst L;exact k.elim) s e);rintro J S m ⟨K,i,M,_,k⟩;obtain⟨d,(⟨rfl|rfl,e⟩|⟨T,rfl,e⟩)⟩:=k.out M
  ·exact⟨d,_,rfl,e⟩
  ·exact⟨d,_,rfl,e⟩
  ·exact⟨d,_,rfl,e⟩
 simp only[show(List.range (#[P]:Array Oper).size)=[0]from rfl,wpOpsS,List.getElem?_toArray,List.getElem?_cons_zero,H,if_true,F];rcases MF (cs:=cs) n with l|⟨l,N,O⟩
 ·rw[l]
  exact q _ _ rfl rfl
 ·rw[l]
  exact q _ _ N.symm (by rw[O,<-n])
def BL(a:IntKind)(b c:Int):Int:=a.wrap (BitVec.ofInt a.bits b&&&BitVec.ofInt a.bits c).toNat
def Rg(a:IntKind)(b c:Int):Int:=a.wrap (BitVec.ofInt a.bits b|||BitVec.ofInt a.bits c).toNat
def qY(a:IntKind)(b c:Int):Int:=a.wrap (BitVec.ofInt a.bits b ^^^ BitVec.ofInt a.bits c).toNat
def ml(a:IntKind)(b c:Int):Int:=a.wrap (BitVec.ofInt a.bits b&&& ~~~BitVec.ofInt a.bits c).toNat
def Jn(a:IntKind)(b c:Int):Int:=a.wrap (b*2 ^(min c.toNat a.bits))
def iA(a:IntKind)(b c:Int):Int:=b.fdiv (2 ^(min c.toNat a.bits))
def oM(a:N:=by omega):N:=a
def sM(a:N:=by simp):N:=a
def dC(a:N:=by decide):N:=a
def kR(a:N:=by kernel_rfl):N:=a
abbrev Qq:= @List.getElem?_eq_getElem
abbrev Qx:= @Int.toNat_natCast
abbrev Qz:= @List.take_of_length_le
abbrev Qj:= @Nat.zero_le
abbrev Qv:= @List.getElem?_eq_some_iff
abbrev Qw:= @List.take_add_one
abbrev Qk:= @Nat.lt_of_lt_of_le
abbrev Qy:= @List.length_take
abbrev QQ:= @List.getD_eq_getElem?_getD
abbrev QX:= @List.length_append
abbrev QZ:= @List.mem_of_getElem?
abbrev QJ:= @List.mem_cons_of_mem
abbrev QV:= @List.mem_cons_self
abbrev QW:= @List.eq_nil_of_length_eq_zero
abbrev QK:= @Bool.and_eq_true
abbrev QY:= @List.map_cons
abbrev Q0:= @Nat.mul_le_mul_right
abbrev Q1:= @Option.some.injEq
abbrev Q2:= @List.mem_cons
abbrev Q3:= @List.map_append
abbrev Q4:= @Nat.le_refl
abbrev Q5:= @Array.getElem?_eq_some_iff
abbrev Q6:= @List.mem_append
abbrev Q7:= @List.getElem?_eq_none
abbrev Q8:= @List.length_map
abbrev Q9:= @List.getElem?_map
abbrev Xq:= @List.length_cons
abbrev Xx:= @Nat.le_trans
abbrev Xz:= @Nat.zero_add
abbrev Xj:= @List.getElem?_set
abbrev Xv:= @decide_eq_false
abbrev Xw:= @List.getElem?_take
abbrev Xk:= @List.mem_map
abbrev Xy:= @of_decide_eq_false
abbrev XQ:= @List.append_assoc
abbrev XX:= @Value.slice.injEq
abbrev XZ:= @List.length_drop
abbrev XJ:= @Option.some.inj
abbrev XV:= @of_decide_eq_true
abbrev XW:= @List.getElem?_append_left
abbrev XK:= @Array.length_toList
abbrev XY:= @List.getElem_mem
abbrev X2:= @Nat.min_eq_left
abbrev X3:= @List.ext_getElem?
abbrev X4:= @List.drop_eq_getElem_cons
abbrev X6:= @Array.getElem?_eq_getElem
abbrev X7:= @Nat.add_mul
abbrev X8:= @List.getElem?_append_right
abbrev X9:= @Nat.eq_of_beq_eq_true
abbrev QH:=Value.int .i64
abbrev ZX (b:Nat):Value:=.pointer (some ⟨b,0,none⟩)
abbrev ZZ (b:Nat):Option Addr:=some ⟨b,0,none⟩
end Go.ax

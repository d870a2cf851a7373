import Derived.Tactics
import Derived.Defers
import Derived.Recover
import Derived.Deep.Quiet
import Derived.Deep.LoopGhost
import Derived.Laws.Entries
import Derived.Laws.Tables
import Derived.Laws.Cells
import Derived.Scope
set_option linter.all false
namespace Go.aw
open Go
structure aj (S:Nat->Prop) (w w':World):Prop where
 os:w'.os=w.os
 tape:w'.tape=w.tape
 output:w'.output=w.output
 size:w.heap.size<=w'.heap.size
 block:∀k,k<w.heap.size->¬S k->w'.heap[k]? =w.heap[k]?
def get(P:Nat->Value):List (Nat×Value)->Nat->Value
 |[],n=>P n
 |(a,b)::c,n=>match Nat.beq a n with
  |true=>b
  |false=>get P c n
abbrev cX:=List (Nat×Value)
def ev(n:Nat->Value)(P:cX):Operand->Value
 | .tmp a=>get n P a
 | .const b=>b
 | .global c=>.pointer (some ⟨c,0,none⟩)
 | .func d=>.func (.func d) #[] #[]
def cC(P:cX)(n:Option Tmp)(a:Value):cX:=match n with
 |some n=>(n,a)::P
 |none=>P
structure Rel (n:Nat) (B:Nat->Value) (e:cX) (a:Act):Prop where
 size:a.tmps.size=n
 slot:∀t,a.tmps.getD t undef=aw.get B e t
def eH(a:Nat->Value)(b:cX)(P n:Nat)(c:Value):get a ((P,c)::b) n=if P=n then c else get a b n:=by
 show(match Nat.beq P n with|true=>c|false=>get a b n)=_
 by_cases d:P=n
 ·subst d;simp
 ·have:Nat.beq P n=false:=by
   cases e:Nat.beq P n
   ·rfl
   ·exact absurd (Nat.eq_of_beq_eq_true e) d
  rw[this,if_neg d]
def Rel.eval{b:Nat}{n:Nat->Value}{P:cX}{a:Act}(c:Rel b n P a):a.eval=ev n P:=by
 funext d
 cases d with
 |tmp e=>exact c.slot e
 |const f=>rfl
 |global g=>rfl
 |func h=>rfl
def Rel.put{b:Nat}{f:Nat->Value}{g:cX}{c:Act}(a:Rel b f g c)(n:Option Tmp)(h:∀P,n=some P->P<b)(d:Value):Rel b f (cC g n d) (c.put n d):=by
 cases n with
 |none=>exact a
 |some n=>
  have i:=h n rfl;refine⟨by simp[Act.put,a.size],λP=>?_⟩;show(c.tmps.setIfInBounds n d).getD P undef=_;rw[cC,eH,<-a.slot];have j:=a.size
  by_cases e:n=P
  ·subst e
   simp[j,i]
  ·rw[if_neg e]
   simp only[Array.getD_eq_getD_getElem?];rw[Array.getElem?_setIfInBounds_ne e]
variable{K:Act}{f5:Act->World->Prop}{d4:Addr}{a1:Array Bool}{U:Array Oper}{o:Array Value}{J:Bool}{a3:Code}{i2:Ending->FrameMode->World->Prop}{y:Ending->World->Prop}{e9:Exit}{d7:Exit->Act->World->Prop}{b2:FrameMode}{a9:Func}{A:FuncId}{b5:List Nat}{f4:List PanicEntry->Act->World->Prop}{a6:List PanicEntry->World->Prop}{a5:List Value}{a c i:Nat}{f6:Nat->Bool}{Z f:Nat->Prop}{R:Oper}{e7:Operand->Value}{h:Program}{N b0:Prop}{h2:Sem Unit}{e5:Sem Value}{g:TypeId}{f2:TypeInfo}{d1 w:Value}{O:Value->Prop}{i0 m t:Value->World->Prop}{a8 b k:World}{z:World->Prop}{Q:cX}{i1:cX->List Deferred->World->Prop}{f3:cX->Prop}
def Rel.defers{n:Nat->Value}(P:Rel a n Q K)(b:List Deferred):Rel a n Q {K with defers:=b}:=⟨P.size,P.slot⟩
def put_defers(n:Act)(P:Option Tmp)(a:Value):(n.put P a).defers=n.defers:=by cases P<;>rfl
def al(n:Bool)(P a:Prop):Prop:=match n with
 |true=>P
 |false=>a
def al.mk(n:J=true->N)(P:J=false->b0):al J N b0:=by
 cases J
 ·exact P rfl
 ·exact n rfl
def al.tt(n:J=true)(P:N):al J N b0:=by subst n;exact P
def al.ff(n:J=false)(P:b0):al J N b0:=by subst n;exact P
def QH(a:Value)(n:Value->Prop):Prop:=match a with
 | .int b _=>∃P,n (.int b P)
 | .bool _=>∃c,n (.bool c)
 | .string _=>∃d,n (.string d)
 | .slice _ _ _=>∃e P f,n (.slice e P f)
 | .pointer _=>∃g,n (.pointer g)
 | .map _=>∃h,n (.map h)
 |_=>∃i,n i
def QH.out{z:Value}{φ:Value->Prop}(n:QH z φ):∃P,φ P:=by
 unfold QH at n;split at n
 ·exact⟨_,n.choose_spec⟩
 ·exact⟨_,n.choose_spec⟩
 ·exact⟨_,n.choose_spec⟩
 ·obtain⟨a,b,c,n⟩:=n;exact⟨_,n⟩
 ·exact⟨_,n.choose_spec⟩
 ·exact⟨_,n.choose_spec⟩
 ·exact n
def Sv:List Value->(List Value->Prop)->Prop
 |[],n=>n []
 |z::P,n=>QH z λa=>Sv P λb=>n (a::b)
def Sv.out:∀{P:List Value} {φ:List Value->Prop},Sv P φ->∃l,l.length=P.length/\φ l
 |[],_,n=>⟨[],rfl,n⟩
 |z::P,φ,n=>by
  obtain⟨a,n⟩:=QH.out n;obtain⟨l,b,n⟩:=Sv.out n;exact⟨a::l,by simp[b],n⟩
def tT(z:Value)(n:Value->Prop):Prop:=match z with
 | .agg P=>Sv P.toList λa=>n (.agg a.toArray)
 |z=>QH z n
def tT.out{z:Value}{φ:Value->Prop}(n:tT z φ):∃P,φ P:=by
 unfold tT at n;split at n
 ·obtain⟨l,_,n⟩:=Sv.out n;exact⟨_,n⟩
 ·exact QH.out n
def Xb:List Value->(List Value->Prop)->Prop
 |[],n=>n []
 |z::P,n=>tT z λa=>Xb P λb=>n (a::b)
def Xb.out:∀{P:List Value} {φ:List Value->Prop},Xb P φ->∃l,φ l
 |[],_,n=>⟨[],n⟩
 |z::P,φ,n=>by
  obtain⟨a,n⟩:=tT.out n;obtain⟨l,n⟩:=Xb.out n;exact⟨a::l,n⟩
def dL(n:Program)(P:TypeId):Value:=match n.info? P with
 |some a=>match a.zero with
  |some b=>b
  |none=>undef
 |none=>undef
def mD(n:Program)(P:TypeId):Nat:=match n.info? P with
 |some a=>a.size
 |none=>0
def uJ(n:Program)(P:TypeId):Bool:=match n.underlying P with
 |some (.struct _)=>true
 |some (.array _ _)=>true
 |_=>false
def uK(n:Program)(P:TypeId)(a:Value->Prop):Prop:=match n.underlying P with
 |some (.tuple b)=>Xb (b.toList.map (dL n)) λc=>a (.tuple c.toArray)
 |_=>tT (dL n P) a
def uK.out{P:Program}{φ:Value->Prop}(n:uK P g φ):∃a,φ a:=by
 unfold uK at n;split at n
 ·obtain⟨l,n⟩:=Xb.out n;exact⟨_,n⟩
 ·exact tT.out n
def iW(P:World)(a:Addr):Nat->List Value->Prop->Prop
 |_,[],n=>n
 |b,c::d,n=>P.cell? (a.add b)=some c/\iW P a (b+1) d n
def iW.out{d:World}{e:Addr}:∀{P:Nat} {l:List Value} {φ:Prop},iW d e P l φ->(∀n a,l[n]? =some a->d.cell? (e.add (P+n))=some a)/\φ
 |_,[],_,c=>⟨λn a b=>by simp at b,c⟩
 |P,j::l,φ,c=>by
  obtain⟨f,g⟩:=c;obtain⟨h,i⟩:=iW.out g;refine⟨λn a b=>?_,i⟩
  cases n with
  |zero=>simp at b;subst b;exact f
  |succ n=>
   have:=h n a (by simpa using b);rw[show P+1+n=P+(n+1)from by omega]at this;exact this
def jO(n:Program)(P:TypeId)(g:Value)(a:World)(b:Value->Prop):Prop:=match g with
 | .pointer (some c)=>match uJ n P with
  |true=>match dL n P with
   | .agg d=>match Nat.beq (mD n P) d.size with
    |true=>Sv d.toList λe=>iW a c 0 e (b (.agg e.toArray))
    |false=>False
   |_=>False
  |false=>QH (dL n P) λf=>a.cell? c=some f/\b f
 |_=>False
def PS(n:World)(P:Addr)(a:Value)(b:World->Prop):Prop:=(∃c,n.cell? P=some c)/\n.frozen? P=false/\b (n.setCell P a)
def PA(n:World)(P:Obj)(a:World->Prop):Prop:=a (n.alloc P)
def jL(a:Addr):Nat->List Value->World->(World->Prop)->Prop
 |_,[],n,P=>P n
 |b,c::d,n,P=>PS n (a.add b) c λe=>jL a (b+1) d e P
def nw(n:Program)(P:TypeId)(e a:Value)(b:World)(c:World->Prop):Prop:=match e with
 | .pointer (some d)=>match uJ n P with
  |true=>match a with
   | .agg cs=>match Nat.beq cs.size (mD n P)with
    |true=>match cs.toList.all Value.oneCell' with
     |true=>jL d 0 cs.toList b c
     |false=>False
    |false=>False
   |_=>False
  |false=>match Nat.beq (mD n P) 1 with
   |true=>al a.oneCell' (PS b d a c) False
   |false=>False
 |_=>False
def UC(n P:Nat):Nat:=match Nat.beq P 1 with
 |true=>n
 |false=>n*P
def NK(P n:Nat):UC P n=P*n:=by
 unfold UC
 cases a:Nat.beq n 1
 ·rfl
 ·have:n=1:=Nat.eq_of_beq_eq_true a
  subst this;simp
def UD(d:Program)(i:TypeId)(f g:Value)(h:Value->Prop):Prop:=match d.underlying i with
 |some (.slice n)=>match f,g with
  | .slice b j _,.int _ a=>∃c P,b=some ⟨c,P,none⟩/\0<=a/\a<j/\h (.pointer (some ⟨c,P+UC a.toNat (mD d n),none⟩))
  |_,_=>False
 |some (.array e n)=>match f,g with
  | .pointer k,.int _ a=>∃c P,k=some ⟨c,P,none⟩/\0<=a/\a<e/\h (.pointer (some ⟨c,P+UC a.toNat (mD d n),none⟩))
  |_,_=>False
 |_=>False
def Hg(a b:Value)(c:Value->Prop):Prop:=match a,b with
 | .string d,.int _ n=>0<=n/\∃P,d[n.toNat]? =some P/\c (.int .u8 P.toNat)
 |_,_=>False
def dd(P:Option Addr)(a b n:Nat):Option Addr:=if b=a then P else P.map (·.add (a*n))
def UE(g:Program)(m:TypeId)(k:Value)(h i l:Option Value)(c:Value->Prop):Prop:=match g.underlying m with
 |some .string=>match k,l with
  | .string d,none=>match h,i with
   |none,none=>c (.string (d.extract 0 d.size))
   |some (.int _ n),none=>0<=n/\n<=d.size/\c (.string (d.extract n.toNat d.size))
   |none,some (.int _ P)=>0<=P/\P<=d.size/\c (.string (d.extract 0 P.toNat))
   |some (.int _ n),some (.int _ P)=>0<=n/\n<=P/\P<=d.size/\c (.string (d.extract n.toNat P.toNat))
   |_,_=>False
  |_,_=>False
 |some (.slice a)=>match k,l with
  | .slice e j b,none=>match h,i with
   |none,none=>c (.slice e j b)
   |some (.int _ n),none=>0<=n/\n<=j/\c (.slice (dd e n.toNat b (mD g a)) (j-n.toNat) (b-n.toNat))
   |none,some (.int _ P)=>0<=P/\P<=b/\c (.slice e P.toNat b)
   |some (.int _ n),some (.int _ P)=>0<=n/\n<=P/\P<=b/\c (.slice (dd e n.toNat b (mD g a)) (P.toNat-n.toNat) (b-n.toNat))
   |_,_=>False
  | .slice e _ b,some (.int _ f)=>match h,i with
   |none,some (.int _ P)=>0<=P/\P<=f/\f<=b/\c (.slice e P.toNat f.toNat)
   |some (.int _ n),some (.int _ P)=>0<=n/\n<=P/\P<=f/\f<=b/\c (.slice (dd e n.toNat f.toNat (mD g a)) (P.toNat-n.toNat) (f.toNat-n.toNat))
   |_,_=>False
  |_,_=>False
 |_=>False
def Ze(a:Option Addr)(b:Value->Prop):Prop:=∃P n,a=some ⟨P,n,none⟩/\b (.pointer (some ⟨P,n,none⟩))
def aJ(a:Program)(b:Sem Value)(c:World)(d e:Value->World->Prop):Prop:=match b.run a c with
 | .ok n P=>d n P
 | .halt (.panic n) P=>e n P
 |_=>False
def lM(P:Program)(a:Sem Unit)(b:World)(c:World->Prop)(d:Value->World->Prop):Prop:=match a.run P b with
 | .ok _ n=>c n
 | .halt (.panic e) n=>d e n
 |_=>False
def aJ.mk{n w':World}{v:Value}(P:e5.run h n= .ok v w')(a:m v w'):aJ h e5 n m t:=by
 unfold aJ;rw[P];exact a
def lM.mk{n w':World}(P:h2.run h n= .ok () w')(a:z w'):lM h h2 n z m:=by
 unfold lM;rw[P];exact a
def aJ.imp(c:∀P a,m P a->t P a)(n:aJ h e5 b m i0):aJ h e5 b t i0:=by
 unfold aJ at*;split at n
 ·exact c _ _ n
 ·exact n
 ·exact n.elim
def aJ.panics{v:Value}(n:e5.run h b= .halt (.panic v) k)(P:t v k):aJ h e5 b m t:=by
 unfold aJ;rw[n];exact P
def enters(P:Program)(a:FuncId):Bool:=match P.funcs[a]? with
 |some n=>match n.body with
  |some _=>!(n.name== "runtime.NumGoroutine")
  |none=>false
 |none=>false
def Sw(n:Ending)(P:Value->Prop)(a:List PanicEntry->Prop):Prop:=match n with
 | .returned b=>P b
 | .panicked c=>a c
 | .outgrown=>False
def PC(a:Program)(b:FuncId)(n:Array Value)(c:World)(d:Value->World->Prop)(e:List PanicEntry->World->Prop):Prop:=
 Calls a b n c λf P=>Sw f (λg=>d g P) (λh=>e h P)
def NL(P:Program)(b:FuncId)(n:Array Value)(c:TypeId)(d:World)(e:Value->World->Prop)(f:List PanicEntry->World->Prop):Prop:=
 PC P b n d (λg h=>uK P c λa=>g=a/\e a h) f
def Wx(b:Program)(c:Value)(n:Array Value)(d:TypeId)(e:World)(f:Value->World->Prop)(g:List PanicEntry->World->Prop):Prop:=
 ∃a first P,c= .func (.func a) first P/\enters b a=true/\NL b a (first++n++P) d e f g
def Ue(a:Program)(c:FuncId)(n:Array Value)(P:World)(d e:Value->World->Prop):Prop:=
 ∃b:Sem Value,(∀P,(callFunc c n).run a P=(b.run a P).andThen λf g=>.ok (.value f) g)/\aJ a b P d e
def Zf(b:Program)(n:Value)(P:String)(a:Array Value)(e:TypeId)(f:World)(g:Value->World->Prop)(h:List PanicEntry->World->Prop):Prop:=
 ∃c as,(∀d,(callMethod n P a).run b d= .ok (.enter c as) d)/\NL b c as e f g h
def isInt(n:Program)(P:TypeId):Bool:=match n.underlying P with
 |some (.int _)=>true
 |_=>false
def NM(n:Program)(P:TypeId):Bool:=match n.underlying P with
 |some (.int _)=>true
 |some .bool=>true
 |some .string=>true
 |_=>false
def isMap(n:Program)(P:TypeId):Bool:=match n.underlying P with
 |some (.map _ _)=>true
 |_=>false
def wm(n:Operand):Bool:=match n with
 | .const _=>true
 |_=>false
def Hh(n:Program)(e:Oper):Bool:=match e.op with
 | .lookup .. =>true
 | .next .. =>true
 | .entry _=>true
 | .mapEntry .. =>true
 | .makeSlice .. =>true
 | .convert a c _=>match isInt n a with
  |true=>match isInt n c with
   |true=>false
   |false=>true
  |false=>true
 | .binOp f d _ P _=>match f with
  | .quo=>match wm P with
   |true=>false
   |false=>true
  | .rem=>match wm P with
   |true=>false
   |false=>true
  | .shl=>match wm P with
   |true=>false
   |false=>true
  | .shr=>match wm P with
   |true=>false
   |false=>true
  | .add=>match isInt n d with
   |true=>false
   |false=>true
  | .eql=>match NM n d with
   |true=>false
   |false=>true
  | .neq=>match NM n d with
   |true=>false
   |false=>true
  |_=>false
 | .call {callee:=.builtin b,argTypes,..}=>match b with
  | .append=>true
  | .copy=>true
  | .cap=>true
  | .len=>isMap n (argTypes.getD 0 0)
  |_=>false
 |_=>false
def PE(P:Operand->Value)(i:Oper):Option (Sem Value):=match i.op with
 | .move a| .assign a=>some (.pure (P a))
 | .pick b v l=>some (do pure (if<-asBool (P b)then P v else P l))
 | .alloc g=>some (Instr.alloc g true (.tuple #[]))
 | .box g a=>some (Instr.box g (P a))
 | .build h c=>some (Instr.build h (c.map λ(m,a)=>(m,P a)))
 | .buildSlice h o c=>some (Instr.buildSlice h o (c.map λ(m,a)=>(m,P a)))
 | .waits w=>some (Instr.waits w)
 | .binOp k n a p _=>some (do eqGuard k n a p (P a) (P p);binOp k n (P a) (P p))
 | .unOp k _ a=>some (Op.unary k (P a))
 | .convert q r a=>some (convert q r (P a))
 | .makeInterface n a=>some (Instr.makeInterface n (P a))
 | .makeFunc x first d=>some (Instr.makeFunc x (first.map P) (d.map P))
 | .makeMap h y=>some (Instr.makeMap h (y.map P))
 | .makeSlice h z b=>some (Instr.makeSlice h (P z) (P b))
 | .fieldAddr A a s=>some (Instr.fieldAt A (P a) s)
 | .field n a s=>some (Instr.field n (P a) s)
 | .index n a j=>some (Instr.index n (P a) (P j))
 | .lookup n a j t=>some (Instr.lookup n (P a) (P j) t)
 | .mapEntry h B C=>some (Instr.mapEntry h (P B) (P C))
 | .range n a=>some (Instr.range n (P a))
 | .next u e=>some (Instr.next (P u) e i.type)
 | .entry u=>some (Instr.entry (P u))
 | .typeAssert a n f t=>some (Instr.typeAssert (P a) n f t)
 | .extract h j=>some (Instr.extract (P h) j)
 | .panic a=>some (Instr.panic (P a))
 | .call b=>match b.callee with
  | .builtin l=>match l with
   | .append=>some (Builtin.append_ b.argTypes i.type (b.args.map P))
   | .cap=>some (Builtin.cap_ b.argTypes i.type (b.args.map P))
   | .clear=>some (Builtin.clear_ b.argTypes i.type (b.args.map P))
   | .copy=>some (Builtin.copy_ b.argTypes i.type (b.args.map P))
   | .delete=>some (Builtin.delete_ b.argTypes i.type (b.args.map P))
   | .len=>some (Builtin.len_ b.argTypes i.type (b.args.map P))
   | .max=>some (Builtin.max_ b.argTypes i.type (b.args.map P))
   | .min=>some (Builtin.min_ b.argTypes i.type (b.args.map P))
   | .panic=>some (Instr.panic ((b.args.map P).getD 0 .nilIface))
   |_=>none
  |_=>none
 |_=>none
def UF(n:Operand->Value)(d:Oper):Option (Sem Unit):=match d.op with
 | .mapUpdate P a c b| .insert P a c b=>some (Instr.mapUpdate P (n a) (n c) (n b))
 | .entryStore P a e b=>some (Instr.entryStore P (n a) (n e) (n b))
 | .ready f=>some (Instr.ready f)
 |_=>none
def tu{P a d:Type}(n:Result P)(b:P->World->Result a)(c:a->World->Result d):(n.andThen b).andThen c=n.andThen λe f=>(b e f).andThen c:=by
 cases n<;>rfl
def jM(P:PE e7 R=some e5)(b:Program)(c:World):
  (execOp e7 R).run b c=(e5.run b c).andThen λf g=>.ok (.value f) g:=by
 obtain⟨h,i,d,j,a,guard⟩:=R
 cases i
 case call k=>
  obtain⟨n,e,l⟩:=k
  cases n
  case builtin m=>
   cases m<;>simp only[PE,Option.some.injEq,reduceCtorEq]at P<;>subst P<;>simp[execOp,resolve,invoke,builtin]
  all_goals simp[PE]at P
 all_goals first
  |(cases P;done)
  |(cases P;simp[execOp];done)
  |(cases P;simp only[execOp,Sem.run_bind,Sem.run_pure,tu,Result.andThen_ok];done)
  |(cases P;simp only[execOp,Sem.run_bind,Sem.run_pure,tu,Result.andThen_ok];rfl)
def PF(n:UF e7 R=some h2)(a:Program)(b:World):
  (execOp e7 R).run a b=(h2.run a b).andThen λ_ d=>.ok .skip d:=by
 obtain⟨e,f,c,g,P,guard⟩:=R
 cases f
 all_goals first
  |(simp only[UF,Option.some.injEq]at n;subst n;simp[execOp];done)
  |(simp[UF]at n;done)
section
variable {P:Program}
def dG(P:Program)(n:TypeId)(b:Bool)(c:uJ P n=b)(f:∃a,P.underlying n=some a)(d:World):(isAgg n).run P d= .ok b d:=by
 obtain⟨a,e⟩:=f;unfold uJ at c;rw[e]at c;simp only[isAgg,Sem.run_bind,run_underlying e,Result.andThen_ok]
 cases a<;>simp_all
def EP(n:dL P g=w)(c:w≠undef):∃a,P.info? g=some a/\a.zero=some w:=by
 unfold dL at n;split at n
 ·rename_i a d
  split at n
  ·rename_i e b;exact⟨a,d,by rw[b,n]⟩
  ·exact absurd n.symm c
 ·exact absurd n.symm c
def dH(a:P.info? g=some f2)(n:World):(sizeOf g).run P n= .ok f2.size n:=by
 simp[sizeOf,typeInfo,a]
def iX(n:P.info? g=some f2):mD P g=f2.size:=by simp[mD,n]
def wo(P:k.heap=b.heap)(n:Addr):k.cell? n=b.cell? n:=by simp[World.cell?,P]
def jO.out(j:∃m,P.underlying g=some m)(n:jO P g w b O):
  ∃a,(∀c,c.heap=b.heap->(Instr.loadAt g w).run P c= .ok a c)/\O a:=by
 unfold jO at n;split at n
 ·rename_i f
  split at n
  ·rename_i h
   split at n
   ·rename_i y o
    split at n
    ·rename_i p
     obtain⟨l,q,n⟩:=Sv.out n;obtain⟨i,n⟩:=iW.out n;obtain⟨r,k,_⟩:=EP o (by simp[undef]);have s:r.size=l.length:=by
      have:=Nat.eq_of_beq_eq_true p;rw[iX k]at this;simp[this,q]
     refine⟨_,λc d=>?_,n⟩;have t:∀e a,l[e]? =some a->c.cell? (f.add e)=some a:=λe a u=>by
      rw[wo d];have:=i e a u;simpa using this
     have v:=run_loadCells_list (P:=P) (w:=c) f l t;simp only[Instr.loadAt,Instr.sureAddr,loadVar,Sem.run_bind,Sem.run_pure,Result.andThen_ok,dG P g _ h j,if_true,dH k,s,v]
    ·exact n.elim
   ·exact n.elim
  ·rename_i h
   obtain⟨a,x,n⟩:=QH.out n;refine⟨a,λc d=>?_,n⟩;have i:c.cell? f=some a:=by rw[wo d];exact x
   simp[Instr.loadAt,Instr.sureAddr,loadVar,dG P g _ h j,load,Sem.run,i]
 ·exact n.elim
def jL.out{d:Addr}{e:World->Prop}:∀{l:List Value} {b:Nat} {a:World},(∀v∈l,v.oneCell'=true)->jL d b l a e->∃c,(storeCells d l b).run P a= .ok () c/\e c
 |[],b,a,_,n=>⟨a,rfl,n⟩
 |v::l,b,a,f,n=>by
  obtain⟨⟨m,g⟩,h,n⟩:=n;obtain⟨c,i,n⟩:=jL.out (l:=l) (λv j=>f v (List.mem_cons_of_mem _ j)) n;refine⟨c,?_,n⟩;have k:=run_store P a (d.add b) v .plain (f v (List.mem_cons_self ..));simp only[storeCells,Sem.run_bind,k,g,h];simpa using i
def nw.out{g:TypeId}{j a:Value}{h:World}{k:World->Prop}(b:∃e,P.info? g=some e)(n:nw P g j a h k):
  ∃f,(Instr.storeAt g j a).run P h= .ok () f/\k f:=by
 obtain⟨e,b⟩:=b;unfold nw at n;split at n
 ·rename_i l
  split at n
  ·split at n
   ·rename_i cs
    split at n
    ·rename_i c
     split at n
     ·rename_i d
      obtain⟨f,m,n⟩:=jL.out (P:=P) (λa o=>by simpa using List.all_eq_true.1 d a o) n;refine⟨f,?_,n⟩;have i:cs.size=e.size:=by have:=Nat.eq_of_beq_eq_true c;rwa [iX b]at this
      simp[Instr.storeAt,Instr.sureAddr,storeVar,dH b,Value.cells,i,m]
     ·exact n.elim
    ·exact n.elim
   ·exact n.elim
  ·split at n
   ·rename_i c
    have i:e.size=1:=by have:=Nat.eq_of_beq_eq_true c;rwa [iX b]at this
    cases d:a.oneCell' with
    |false=>rw[d]at n;exact n.elim
    |true=>
     rw[d]at n;obtain⟨⟨s,p⟩,q,n⟩:=n;refine⟨_,?_,n⟩;have r:a.cells= #[a]:=by cases a<;>first|rfl|(simp[Value.oneCell']at d)
     have c:=run_store P h l a .plain d;rw[p,q]at c;simp[Instr.storeAt,Instr.sureAddr,storeVar,dH b,r,i,storeCells,Addr.add_zero',c]
   ·exact n.elim
 ·exact n.elim
def UD.out(l:∀e,(P.underlying g=some (.slice e)\/∃m,P.underlying g=some (.array m e))->∃f,P.info? e=some f)(n:UD P g w d1 O):
  ∃o,(∀d,(Instr.indexAt g w d1).run P d= .ok o d)/\O o:=by
 unfold UD at n;split at n
 ·rename_i a b
  split at n
  ·rename_i p m t q r
   obtain⟨s,h,rfl,i,j,n⟩:=n;obtain⟨f,c⟩:=l a (.inl b);refine⟨_,λd=>?_,n⟩;simp[Instr.indexAt,asIntOf,run_underlying b,i,j,dH c,NK,iX c,Addr.add_lit]
  ·exact n.elim
 ·rename_i k a b
  split at n
  ·rename_i u q r
   obtain⟨s,h,rfl,i,j,n⟩:=n;obtain⟨f,c⟩:=l a (.inr ⟨k,b⟩);refine⟨_,λd=>?_,n⟩;simp[Instr.indexAt,Instr.sureAddr,asIntOf,run_underlying b,i,j,dH c,NK,iX c,Addr.add_lit]
  ·exact n.elim
 ·exact n.elim
def Hg.out(c:P.underlying g=some .string)(n:Hg w d1 O):∃b,(∀a,(Instr.index g w d1).run P a= .ok b a)/\O b:=by
 unfold Hg at n;split at n
 ·rename_i f h i
  obtain⟨d,j,e,n⟩:=n;refine⟨_,λa=>?_,n⟩;simp[Instr.index,asIntOf,run_underlying c,d,e]
 ·exact n.elim
def b_(b:Value)(a:Int)(e:IntKind)(f:b= .int e a)(c:Nat)(n:BoundsCode)(d:World)(g:0<=a/\a<=c):(Instr.sliceBound b c n).run P d= .ok a.toNat d:=by
 subst f;simp[Instr.sliceBound,asIntOf,g]
def UE.out{i j k:Option Value}(y:∀t,P.underlying g=some (.slice t)->∃u,P.info? t=some u)(n:UE P g w i j k O):
  ∃v,(∀a,(Instr.sliceAt g w i j k).run P a= .ok v a)/\O v:=by
 unfold UE at n;split at n
 ·rename_i c
  have e:∀a,(Instr.sliceAt g w i j k).run P a=(Instr.slice g w i j k).run P a:=λa=>by simp[Instr.sliceAt,run_underlying c]
  split at n
  ·rename_i s
   split at n
   ·exact⟨_,λa=>by rw[e];simp[Instr.slice,Instr.sliceBounds,run_underlying c],n⟩
   ·rename_i l
    obtain⟨b,f,n⟩:=n;exact⟨_,λa=>by rw[e];simp[Instr.slice,Instr.sliceBounds,run_underlying c,b_ _ l _ rfl s.size _ a ⟨b,f⟩],n⟩
   ·rename_i d
    obtain⟨b,f,n⟩:=n;exact⟨_,λa=>by rw[e];simp[Instr.slice,Instr.sliceBounds,run_underlying c,b_ _ d _ rfl s.size _ a ⟨b,f⟩],n⟩
   ·rename_i l _ d
    obtain⟨b,f,m,n⟩:=n;exact⟨_,λa=>by rw[e];simp[Instr.slice,Instr.sliceBounds,run_underlying c,b_ _ d _ rfl s.size _ a ⟨by omega,m⟩,b_ _ l _ rfl d.toNat _ a ⟨b,by omega⟩],n⟩
   ·exact n.elim
  ·exact n.elim
 ·rename_i o c
  obtain⟨u,h⟩:=y o c;have e:∀a,(Instr.sliceAt g w i j k).run P a=(Instr.slice g w i j k).run P a:=λa=>by simp[Instr.sliceAt,run_underlying c]
  split at n
  ·rename_i q x p
   split at n
   ·refine⟨_,λa=>?_,n⟩
    rw[e]
    cases q<;>simp[Instr.slice,Instr.sliceBounds,run_underlying c,dH h,Addr.add_zero']
   ·rename_i l
    obtain⟨b,f,n⟩:=n;refine⟨_,λa=>?_,n⟩;rw[e];simp[Instr.slice,Instr.sliceBounds,run_underlying c,dH h,b_ _ l _ rfl x _ a ⟨b,f⟩,dd,iX h]
   ·rename_i d
    obtain⟨b,f,n⟩:=n;refine⟨_,λa=>?_,n⟩;rw[e]
    cases q<;>simp[Instr.slice,Instr.sliceBounds,run_underlying c,dH h,b_ _ d _ rfl p _ a ⟨b,f⟩,Addr.add_zero']
   ·rename_i l _ d
    obtain⟨b,f,m,n⟩:=n;refine⟨_,λa=>?_,n⟩;rw[e];simp[Instr.slice,Instr.sliceBounds,run_underlying c,dH h,b_ _ d _ rfl p _ a ⟨by omega,m⟩,b_ _ l _ rfl d.toNat _ a ⟨b,by omega⟩,dd,iX h]
   ·exact n.elim
  ·rename_i q x p _ r
   split at n
   ·rename_i d
    obtain⟨b,f,m,n⟩:=n;refine⟨_,λa=>?_,n⟩;rw[e]
    cases q<;>simp[Instr.slice,Instr.sliceBounds,run_underlying c,dH h,b_ _ r _ rfl p _ a ⟨by omega,m⟩,b_ _ d _ rfl r.toNat _ a ⟨b,by omega⟩,Addr.add_zero']
   ·rename_i l _ d
    obtain⟨b,f,m,z,n⟩:=n;refine⟨_,λa=>?_,n⟩;rw[e];simp[Instr.slice,Instr.sliceBounds,run_underlying c,dH h,b_ _ r _ rfl p _ a ⟨by omega,z⟩,b_ _ d _ rfl r.toNat _ a ⟨by omega,by omega⟩,b_ _ l _ rfl d.toNat _ a ⟨b,by omega⟩,dd,iX h]
   ·exact n.elim
  ·exact n.elim
 ·exact n.elim
end
def known(n:Program)(P:TypeId):Bool:=match n.underlying P,n.info? P with
 |some _,some _=>true
 |_,_=>false
def ic(n:Program)(a:TypeId):Bool:=match n.underlying a with
 |some (.slice P)=>match n.info? P with
  |some _=>true
  |none=>false
 |some (.array _ P)=>match n.info? P with
  |some _=>true
  |none=>false
 |some _=>true
 |none=>false
def fK(n:Bool)(P:Prop):Prop:=match n with
 |true=>P
 |false=>False
def fK.out(n:fK J N):J=true/\N:=by
 cases J
 ·exact n.elim
 ·exact⟨rfl,n⟩
abbrev cy:=Nat->Value
abbrev iY:=Exit->cy->cX->List Deferred->World->Prop
def PG(a:Value)(P:Value->Prop):Prop:=match a with
 | .pointer b=>Ze b P
 | .func (.func c) first n=>P (.func (.func c) first n)
 |_=>False
def wq(n:Program)(P a:Nat):List Oper->Value
 |[]=>undef
 |c::b=>match c.op with
  | .extract (.tmp d) e=>match Nat.beq d P with
   |true=>match Nat.beq e a with
    |true=>dL n c.type
    |false=>wq n P a b
   |false=>wq n P a b
  |_=>wq n P a b
def Ap(a:Program)(n:Array Oper)(P:Option Tmp)(b:Nat):Value:=match P with
 |some P=>wq a P b n.toList
 |none=>undef
def ir(e:Bool)(n:Value)(P:Value->Prop):Prop:=(n= .tuple #[.bool false]/\P (.tuple #[.bool false]))\/(match e with
 |true=>∃a b,n= .tuple #[.bool true,.int .i64 a,.int .i32 b]/\P (.tuple #[.bool true,.int .i64 a,.int .i32 b])
 |false=>∃c d,n= .tuple #[.bool true,c,d]/\P (.tuple #[.bool true,c,d]))
def ir.out(h:ir J w O):O w:=by
 unfold ir at h;rcases h with⟨rfl,h⟩|h
 ·exact h
 ·cases J
  ·obtain⟨n,P,rfl,h⟩:=h;exact h
  ·obtain⟨n,P,rfl,h⟩:=h;exact h
def Hi(a z1:Value)(b:Value)(c:Value->Prop):Prop:=tT a λn=>tT z1 λP=>b= .tuple #[n,P]/\c (.tuple #[n,P])
def Hi.out{a z1:Value}(c:Hi a z1 w O):O w:=by
 obtain⟨P,d⟩:=tT.out (z:=a) (φ:=λP=>tT z1 λn=>w= .tuple #[P,n]/\O (.tuple #[P,n])) c;obtain⟨n,b⟩:=tT.out (z:=z1) (φ:=λn=>w= .tuple #[P,n]/\O (.tuple #[P,n])) d;rw[b.1];exact b.2
def Hj(a:Value)(b:Value)(c:Value->Prop):Prop:=tT a λn=>∃P,b= .tuple #[n,.bool P]/\c (.tuple #[n,.bool P])
def Hj.out{z n:Value}(b:Hj z n O):O n:=by
 obtain⟨P,a,c,d⟩:=tT.out (z:=z) (φ:=λP=>∃a,n= .tuple #[P,.bool a]/\O (.tuple #[P,.bool a])) b;rw[c];exact d
def UG(e:Program)(p:Array Oper)(a:cy)(b:Oper)(m:iY)(i:cX->List Deferred->World->Prop)(n:cX)(c:List Deferred)(h:World):Prop:=
 match b.op with
 | .load k t=>fK (known e k) (jO e k (ev a n t) h λd=>i (cC n b.dst d) c h)
 | .store k t o=>fK (known e k) (nw e k (ev a n t) (ev a n o) h λP=>i (cC n b.dst undef) c P)
 | .indexAddr k o s=>fK (ic e k) (UD e k (ev a n o) (ev a n s) λd=>i (cC n b.dst d) c h)
 | .slice k o x y z=>fK (ic e k) (UE e k (ev a n o) (x.map (ev a n)) (y.map (ev a n)) (z.map (ev a n)) λd=>i (cC n b.dst d) c h)
 | .nilCheck o=>PG (ev a n o) λd=>i (cC n b.dst d) c h
 | .index k o s=>match e.underlying k with
  |some .string=>Hg (ev a n o) (ev a n s) λd=>i (cC n b.dst d) c h
  |_=>aJ e (Instr.index k (ev a n o) (ev a n s)) h (λd P=>i (cC n b.dst d) c P) (λj P=>m (.panic [{v:=j,recovered:=false}]) a n c P)
 | .call {callee:=.value (.func g),args,..}=>match enters e g with
  |true=>NL e g (args.map (ev a n)) b.type h (λd P=>i (cC n b.dst d) c P) (λr P=>m (.panic r) a n c P)
  |false=>Ue e g (args.map (ev a n)) h (λd P=>uK e b.type λl=>d=l/\i (cC n b.dst l) c P) (λj P=>m (.panic [{v:=j,recovered:=false}]) a n c P)
 | .call {callee:=.value f,args,..}=>Wx e (ev a n f) (args.map (ev a n)) b.type h (λd P=>i (cC n b.dst d) c P) (λr P=>m (.panic r) a n c P)
 | .call {callee:=.invoke f name,args,..}=>Zf e (ev a n f) name (args.map (ev a n)) b.type h (λd P=>i (cC n b.dst d) c P) (λr P=>m (.panic r) a n c P)
 | .defer {callee:=.value f,args,..}=>match ev a n f with
  | .func A first u=>i (cC n b.dst undef) ({target:=.fn A u,args:=first++args.map (ev a n)}::c) h
  |_=>False
 | .next v q=>aJ e (Instr.next (ev a n v) q b.type) h (λd P=>ir q d λl=>i (cC n b.dst l) c P) (λj P=>m (.panic [{v:=j,recovered:=false}]) a n c P)
 | .entry v=>aJ e (Instr.entry (ev a n v)) h (λd P=>Hi (Ap e p b.dst 0) (Ap e p b.dst 1) d λl=>i (cC n b.dst l) c P) (λj P=>m (.panic [{v:=j,recovered:=false}]) a n c P)
 | .mapEntry k B C=>aJ e (Instr.mapEntry k (ev a n B) (ev a n C)) h (λd P=>Hi (Ap e p b.dst 0) (Ap e p b.dst 1) d λl=>i (cC n b.dst l) c P) (λj P=>m (.panic [{v:=j,recovered:=false}]) a n c P)
 | .typeAssert o E w true=>aJ e (Instr.typeAssert (ev a n o) E w true) h (λd P=>Hj (dL e w) d λl=>i (cC n b.dst l) c P) (λj P=>m (.panic [{v:=j,recovered:=false}]) a n c P)
 |_=>match PE (ev a n) b with
  |some q=>match Hh e b with
   |true=>aJ e q h (λd P=>uK e b.type λl=>d=l/\i (cC n b.dst l) c P) (λj P=>m (.panic [{v:=j,recovered:=false}]) a n c P)
   |false=>aJ e q h (λd P=>i (cC n b.dst d) c P) (λj P=>m (.panic [{v:=j,recovered:=false}]) a n c P)
  |none=>match UF (ev a n) b with
   |some q=>lM e q h (λP=>i (cC n b.dst undef) c P) (λj P=>m (.panic [{v:=j,recovered:=false}]) a n c P)
   |none=>False
def iZ(P:enters h A=true)(n:Array Value)(a:World):(callFunc A n).run h a= .ok (.enter A n) a:=by
 unfold enters at P;split at P
 ·rename_i b c
  split at P
  ·rename_i f d
   have e:¬b.name= "runtime.NumGoroutine":=by simpa using P
   simp[callFunc,program,Sem.run,c,d,e]
  ·cases P
 ·cases P
def uL{next:Act->World->Prop}(f:NL h A o g b m a6)(i:∀P n,m P n->next (K.put R.dst P) n)(j:∀a n,a6 a n->d7 (.panic a) K n):
  R.upon h K next d7 (.ok (.enter A o) b):=by
 rw[Oper.upon_enter];refine Calls.mono f λk n c=>?_
 cases k with
 |returned P=>
  obtain⟨d,rfl,e⟩:=uK.out (φ:=λd=>P=d/\m d n) c;exact i _ _ e
 |panicked a=>exact j _ _ c
 |outgrown=>exact c.elim
def known.out{P:Program}(n:known P g=true):(∃a,P.underlying g=some a)/\∃b,P.info? g=some b:=by
 unfold known at n;split at n
 ·rename_i a b c d;exact⟨⟨a,c⟩,b,d⟩
 ·cases n
def ic.out{P:Program}(a:ic P g=true):∀n,(P.underlying g=some (.slice n)\/∃e,P.underlying g=some (.array e n))->∃b,P.info? n=some b:=by
 intro n c;unfold ic at a;rcases c with c|⟨e,c⟩
 ·rw[c]at a
  cases d:P.info? n with
  |none=>simp[d]at a
  |some b=>exact⟨b,rfl⟩
 ·rw[c]at a
  cases d:P.info? n with
  |none=>simp[d]at a
  |some b=>exact⟨b,rfl⟩
variable{V:cy}{c3:iY}
def Mw{P:Program}{next:Act->World->Prop}(p:Rel a V Q K)(L:∀M,R.dst=some M->M<a)(n:UG P U V R c3 i1 Q K.defers b)(N:∀d A e,Rel a V (cC Q R.dst d) A->i1 (cC Q R.dst d) A.defers e->next A e)(x:∀O e,c3 (.panic O) V Q K.defers e->d7 (.panic O) K e):R.wp P K b next d7:=by
 have t:∀d e,i1 (cC Q R.dst d) K.defers e->next (K.put R.dst d) e:=λd e B=>
  N d _ _ (p.put R.dst L d) (by rw[put_defers];exact B)
 have i:∀g:Sem Value,(∀b,(execOp (ev V Q) R).run P b=(g.run P b).andThen λd e=>.ok (.value d) e)->
   aJ P g b (λd e=>i1 (cC Q R.dst d) K.defers e) (λC e=>c3 (.panic [{v:=C,recovered:=false}]) V Q K.defers e)->R.wp P K b next d7:=by
  intro g m k;unfold Oper.wp;rw[p.eval,m];unfold aJ at k
  cases l:g.run P b with
  |ok d e=>
   rw[l]at k;exact t _ _ k
  |halt j e=>
   rw[l]at k
   cases j with
   |panic d=>exact x _ _ k
   |_=>exact k.elim
 have u:∀g:Sem Unit,(∀b,(execOp (ev V Q) R).run P b=(g.run P b).andThen λ_ e=>.ok .skip e)->
   lM P g b (λe=>i1 (cC Q R.dst undef) K.defers e) (λC e=>c3 (.panic [{v:=C,recovered:=false}]) V Q K.defers e)->R.wp P K b next d7:=by
  intro g m k;unfold Oper.wp;rw[p.eval,m];unfold lM at k
  cases l:g.run P b with
  |ok d e=>
   rw[l]at k;exact t _ _ k
  |halt j e=>
   rw[l]at k
   cases j with
   |panic d=>exact x _ _ k
   |_=>exact k.elim
 have h:∀(g:Sem Value),(∀b,(execOp (ev V Q) R).run P b=(g.run P b).andThen λd e=>.ok (.value d) e)->
   (∃d,g.run P b= .ok d b/\i1 (cC Q R.dst d) K.defers b)->R.wp P K b next d7:=by
  rintro g m ⟨d,r,B⟩;unfold Oper.wp;rw[p.eval,m,r];exact t _ _ B
 unfold UG at n;split at n
 ·rename_i o j f
  obtain⟨q,n⟩:=n.out;obtain⟨d,r,n⟩:=jO.out (known.out q).1 n;exact h (Instr.loadAt o (ev V Q j)) (λb=>by simp[execOp,f]) ⟨d,r b rfl,n⟩
 ·rename_i o j T f
  obtain⟨q,n⟩:=n.out;obtain⟨e,W,n⟩:=nw.out (P:=P) (known.out q).2 n;exact u (Instr.storeAt o (ev V Q j) (ev V Q T)) (λb=>by simp[execOp,f]) (lM.mk W n)
 ·rename_i o j y f
  obtain⟨q,n⟩:=n.out;obtain⟨d,r,n⟩:=UD.out (ic.out q) n;exact h (Instr.indexAt o (ev V Q j) (ev V Q y)) (λb=>by simp[execOp,f]) ⟨d,r b,n⟩
 ·rename_i o j X Y Z f
  obtain⟨q,n⟩:=n.out;obtain⟨d,r,n⟩:=UE.out (λQ E=>ic.out q Q (.inl E)) n;exact h (Instr.sliceAt o (ev V Q j) (X.map (ev V Q)) (Y.map (ev V Q)) (Z.map (ev V Q))) (λb=>by simp[execOp,f]) ⟨d,r b,n⟩
 ·rename_i j f
  unfold PG at n;split at n
  ·rename_i a5 F
   obtain⟨a6,a0,rfl,n⟩:=n;unfold Oper.wp;rw[p.eval];simp only[execOp,f,F,Sem.run_pure,Oper.upon_value];exact t _ _ n
  ·rename_i w first s F
   unfold Oper.wp;rw[p.eval];simp only[execOp,f,F,Sem.run_pure,Oper.upon_value];exact t _ _ n
  ·exact n.elim
 ·rename_i o j y f
  split at n
  ·rename_i H
   obtain⟨d,r,n⟩:=Hg.out H n;exact h (Instr.index o (ev V Q j) (ev V Q y)) (λb=>by simp[execOp,f]) ⟨d,r b,n⟩
  ·exact i (Instr.index o (ev V Q j) (ev V Q y)) (λb=>by simp[execOp,f]) n
 ·rename_i w c v f
  split at n
  ·rename_i q
   have l:(execOp (ev V Q) R).run P b= .ok (.enter w (c.map (ev V Q))) b:=by
    simp[execOp,f,resolve,ev,Deferred.ofValue,invoke,iZ q]
   unfold Oper.wp;rw[p.eval,l];exact uL n t x
  ·obtain⟨g,m,n⟩:=n
   refine i g (λb=>by simp[execOp,f,resolve,ev,Deferred.ofValue,invoke,m]) (aJ.imp ?_ n);intro d e n;obtain⟨a1,rfl,n⟩:=uK.out n;exact n
 ·rename_i z c v a7 f
  obtain⟨w,first,s,I,q,n⟩:=n;have l:(execOp (ev V Q) R).run P b= .ok (.enter w (first++c.map (ev V Q)++s)) b:=by
   simp[execOp,f,resolve,I,Deferred.ofValue,invoke,iZ q]
  unfold Oper.wp;rw[p.eval,l];exact uL n t x
 ·rename_i z S c v f
  obtain⟨w,as,hm,n⟩:=n;have l:(execOp (ev V Q) R).run P b= .ok (.enter w as) b:=by
   have E:(c.map (ev V Q)).extract 0 c.size=c.map (ev V Q):=by
    have:c.size=(c.map (ev V Q)).size:=by simp
    rw[this,Array.extract_size]
   have h0:(#[ev V Q z]++c.map (ev V Q))[0]? =some (ev V Q z):=by rw[Array.getElem?_append_left (Nat.zero_lt_one)];rfl
   simp[execOp,f,resolve,invoke,E,hm,h0]
  unfold Oper.wp;rw[p.eval,l];exact uL n t x
 ·rename_i z c v f
  split at n
  ·rename_i fn first s I
   have l:(execOp (ev V Q) R).run P b= .ok (.defer {target:=.fn fn s,args:=first++c.map (ev V Q)}) b:=by
    simp[execOp,f,resolve,I,Deferred.ofValue]
   unfold Oper.wp;rw[p.eval,l,Oper.upon_defer];exact N undef _ _ ((p.defers _).put R.dst L undef) (by rw[put_defers];exact n)
  ·exact n.elim
 ·rename_i J g f
  refine i (Instr.next (ev V Q J) g R.type) (λb=>by simp[execOp,f]) (aJ.imp (λd e n=>?_) n);exact n.out
 ·rename_i J f
  refine i (Instr.entry (ev V Q J)) (λb=>by simp[execOp,f]) (aJ.imp (λd e n=>?_) n);exact n.out
 ·rename_i o a2 a3 f
  refine i (Instr.mapEntry o (ev V Q a2) (ev V Q a3)) (λb=>by simp[execOp,f]) (aJ.imp (λd e n=>?_) n);exact n.out
 ·rename_i j xT a4 f
  refine i (Instr.typeAssert (ev V Q j) xT a4 true) (λb=>by simp[execOp,f]) (aJ.imp (λd e n=>?_) n);exact n.out
 ·split at n
  ·rename_i g m
   split at n
   ·refine i g (λb=>jM m P b) (aJ.imp ?_ n)
    intro d e n;obtain⟨a1,rfl,n⟩:=uK.out n;exact n
   ·exact i g (λb=>jM m P b) n
  ·split at n
   ·rename_i g m
    exact u g (λb=>PF m P b) n
   ·exact n.elim
def kf(n:Array Oper)(P:Nat):Option Nat:=match n[P]? with
 |some a=>a.dst
 |none=>none
def Cf(b:Program)(a:cy)(n:Array Oper)(c:iY):List Oper->(cX->List Deferred->World->Prop)->cX->List Deferred->World->Prop
 |[],e,d,f,g=>e d f g
 |i::P,e,d,f,g=>match i.guard with
  |none=>UG b n a i c (Cf b a n c P e) d f g
  |some (k,h)=>match kf n k with
   |none=>False
   |some j=>match get a d j with
    | .bool l=>al l
     (match h with
      |true=>UG b n a i c (Cf b a n c P e) ((j,.bool true)::d) f g
      |false=>Cf b a n c P e (cC ((j,.bool true)::d) i.dst undef) f g)
     (match h with
      |true=>Cf b a n c P e (cC ((j,.bool false)::d) i.dst undef) f g
      |false=>UG b n a i c (Cf b a n c P e) ((j,.bool false)::d) f g)
    | .tuple _=>Cf b a n c P e (cC d i.dst undef) f g
    |_=>False
def Rel.again(n:Rel a V Q K)(P:get V Q c=w):Rel a V ((c,w)::Q) K:=
 ⟨n.size,λd=>by
  rw[eH,n.slot];split
  ·rename_i b;subst b;exact P
  ·rfl⟩
def sj(P:get V Q a=w)(n:Nat):get V ((a,w)::Q) n=get V Q n:=by
 rw[eH];split
 ·rename_i b;subst b;exact P.symm
 ·rfl
def pf(P:Rel a V Q K)(n:kf U c=some i)(g:i<a):
  yielded U K.tmps c=match get V Q i with| .bool d=>some d|_=>none:=by
 have e:((U[c]?).bind (·.dst))=some i:=by
  unfold kf at n
  cases b:U[c]? with
  |none=>rw[b]at n;simp at n
  |some h=>rw[b]at n;simpa using n
 unfold yielded;rw[e];have j:=P.size;have f:K.tmps[i]? =some (get V Q i):=by
  rw[<-P.slot];have:i<K.tmps.size:=by omega
  simp[Array.getD,this]
 simp only[Option.bind_some,f];split<;>simp_all
def du(c:Nat)(d:cy)(e:cX)(f:List Nat)(g:iY):Exit->Act->World->Prop:=λh b i=>
 ∃n P,Rel c n P b/\(∀a,a∉f->get n P a=get d e a)/\g h n P b.defers i
def Aq{s:Program}{k:Nat}{c q:cy}{r:cX}{j:List Nat}{b:Array Oper}{l:iY}(F:∀H P,kf b H=some P->P<k):
  ∀(I:List Oper) (n:cX) (h:Act) (g:World),(∀e∈I,∀f,e.dst=some f->f<k/\f∈j)->Rel k c n h->(∀P,P∉j->get c n P=get q r P)->
   Cf s c b l I (λn v g=>l .normal c n v g) n h.defers g->wpList s b (du k q r j l) I h g
 |[],n,h,g,_,m,i,d=>⟨c,n,m,i,d⟩
 |e::a,n,h,g,J,m,i,d=>by
  have O:∀f,e.dst=some f->f<k:=λf K=>(J e (List.mem_cons_self ..) f K).1;have Q:∀(n:cX),(∀P,P∉j->get c n P=get q r P)->∀w P,P∉j->get c (cC n e.dst w) P=get q r P:=by
   intro n i w P L
   cases K:e.dst with
   |none=>exact i P L
   |some f=>
    have S:=(J e (List.mem_cons_self ..) f K).2;show get c ((f,w)::n) P=_;rw[eH,if_neg (by rintro rfl;exact L S)];exact i P L
  have x:∀e∈a,∀f,e.dst=some f->f<k/\f∈j:=λe T=>J e (List.mem_cons_of_mem _ T);have o:∀(n:cX),Rel k c n h->(∀P,P∉j->get c n P=get q r P)->Cf s c b l a (λn v g=>l .normal c n v g) (cC n e.dst undef) h.defers g->
    wpList s b (du k q r j l) a (h.put e.dst undef) g:=λn m i d=>
   Aq F a _ _ _ x (m.put _ O _) (Q n i _) (by rw[put_defers];exact d)
  have t:∀(n:cX),Rel k c n h->(∀P,P∉j->get c n P=get q r P)->UG s b c e l (Cf s c b l a λn v g=>l .normal c n v g) n h.defers g->
    e.wp s h g (wpList s b (du k q r j l) a) (du k q r j l):=λn m i d=>
   Mw m O d (λw Y U M V=>Aq F a _ _ _ x M (Q n i w) V) (λZ U W=>⟨c,n,m,i,W⟩)
  unfold wpList;unfold Cf at d;split at d
  ·rename_i A
   rw[if_pos (by simp[Region.wanted,A])];exact .inl (t n m i d)
  ·rename_i H p A
   split at d
   ·exact d.elim
   ·rename_i P R
    have u:=pf m R (F H P R);split at d
    ·rename_i B y
     rw[y]at u;simp only at u;have N:Region.wanted e (yielded b h.tmps)=(B==p):=by
      simp only[Region.wanted,A,u]
      cases B<;>cases p<;>rfl
     rw[N];have C:=m.again y;have E:∀z,z∉j->get c ((P,.bool B)::n) z=get q r z:=λz X=>by rw[sj y];exact i z X
     cases B<;>cases p<;>simp only[al]at d
     ·exact .inl (t _ C E d)
     ·exact o _ C E d
     ·exact o _ C E d
     ·exact .inl (t _ C E d)
    ·rename_i vs y
     rw[y]at u;simp only at u;have N:Region.wanted e (yielded b h.tmps)=false:=by
      simp[Region.wanted,A,u]
     rw[N];exact o _ m i d
    ·exact d.elim
def Cg{n:Type}(P:Program):Sem n->Option n
 | .pure a=>some a
 | .program b=>Cg P (b P)
 |_=>none
def xV{c:Type}{b:Program}:∀{s:Sem c} {a:c},Cg b s=some a->∀P,s.run b P= .ok a P
 | .pure e,a,n,P=>by simp only[Cg,Option.some.injEq]at n;subst n;rfl
 | .program d,a,n,P=>by simp only[Cg]at n;exact xV (s:=d b) n P
 | .load ..,_,n,_| .store ..,_,n,_| .new ..,_,n,_| .shape ..,_,n,_| .freeze ..,_,n,_| .frozen ..,_,n,_| .getObj ..,_,n,_| .setObj ..,_,n,_
 | .choose ..,_,n,_| .sys ..,_,n,_| .mark ..,_,n,_| .halt ..,_,n,_=>by simp[Cg]at n
def X_(n:Program)(c:Sem Value)(d:TypeId)(P:World)(e:Value->Prop):Prop:=uK n d λa=>(∀b,c.run n (P.drewN b)= .ok a (P.drewN b))/\e a
def Wy(P:Program)(c:FuncId)(n:Array Value)(d:TypeId)(a:World)(e:Value->Prop):Prop:=
 uK P d λb=>(∀f,Calls P c n (a.drewN f) λg h=>g= .returned b/\∃i,h=a.drewN i)/\e b
def Sx(b:Program)(c:cy)(a:Oper)(e:cX->Prop)(n:cX)(h:World):Prop:=
 match a.op with
 | .load d k=>fK (known b d) (jO b d (ev c n k) h λP=>e (cC n a.dst P))
 | .indexAddr d f i=>fK (ic b d) (UD b d (ev c n f) (ev c n i) λP=>e (cC n a.dst P))
 | .slice d f l m o=>fK (ic b d) (UE b d (ev c n f) (l.map (ev c n)) (m.map (ev c n)) (o.map (ev c n)) λP=>e (cC n a.dst P))
 | .nilCheck f=>PG (ev c n f) λP=>e (cC n a.dst P)
 | .index d f i=>match b.underlying d with
  |some .string=>Hg (ev c n f) (ev c n i) λP=>e (cC n a.dst P)
  |_=>False
 | .call {callee:=.value (.func g),args,..}=>fK (enters b g) (Wy b g (args.map (ev c n)) a.type h λP=>e (cC n a.dst P))
 |_=>match PE (ev c n) a with
  |some j=>match Hh b a with
   |true=>X_ b j a.type h λP=>e (cC n a.dst P)
   |false=>match Cg b j with
    |some P=>e (cC n a.dst P)
    |none=>False
  |none=>False
def tv(c:Program)(b:cy)(P:Array Oper):List Oper->(cX->Prop)->cX->World->Prop
 |[],e,a,_=>e a
 |g::n,e,a,d=>match g.guard with
  |none=>Sx c b g (λa=>tv c b P n e a d) a d
  |some (i,f)=>match kf P i with
   |none=>False
   |some h=>match get b a h with
    | .bool j=>al j
     (match f with
      |true=>Sx c b g (λa=>tv c b P n e a d) ((h,.bool true)::a) d
      |false=>tv c b P n e (cC ((h,.bool true)::a) g.dst undef) d)
     (match f with
      |true=>tv c b P n e (cC ((h,.bool false)::a) g.dst undef) d
      |false=>Sx c b g (λa=>tv c b P n e a d) ((h,.bool false)::a) d)
    | .tuple _=>tv c b P n e (cC a g.dst undef) d
    |_=>False
def bH(n:World):World->Prop:=λP=>∃a,P=n.drewN a
def uM{next:Act->Prop}(u:Rel a V Q K)(n:Sx h V R f3 Q b)(v:∀P,f3 (cC Q R.dst P)->next (K.put R.dst P)):R.quiet h K (bH b) next:=by
 have c:∀k:Sem Value,(∀b,(execOp (ev V Q) R).run h b=(k.run h b).andThen λP w=>.ok (.value P) w)->
   (∃P,(∀e,k.run h (b.drewN e)= .ok P (b.drewN e))/\f3 (cC Q R.dst P))->R.quiet h K (bH b) next:=by
  rintro k m ⟨P,d,x⟩;refine⟨P,?_,v P x⟩;rintro _ ⟨e,rfl⟩;unfold Oper.quietAt;rw[u.eval,m,d];exact⟨rfl,rfl⟩
 unfold Sx at n;split at n
 ·rename_i i g f
  obtain⟨j,n⟩:=n.out;obtain⟨P,d,n⟩:=jO.out (known.out j).1 n;exact c (Instr.loadAt i (ev V Q g)) (λb=>by simp[execOp,f]) ⟨P,λe=>d _ rfl,n⟩
 ·rename_i i g o f
  obtain⟨j,n⟩:=n.out;obtain⟨P,d,n⟩:=UD.out (ic.out j) n;exact c (Instr.indexAt i (ev V Q g) (ev V Q o)) (λb=>by simp[execOp,f]) ⟨P,λe=>d _,n⟩
 ·rename_i i g y z A f
  obtain⟨j,n⟩:=n.out;obtain⟨P,d,n⟩:=UE.out (λQ B=>ic.out j Q (.inl B)) n;exact c (Instr.sliceAt i (ev V Q g) (y.map (ev V Q)) (z.map (ev V Q)) (A.map (ev V Q))) (λb=>by simp[execOp,f]) ⟨P,λe=>d _,n⟩
 ·rename_i g f
  unfold PG at n;split at n
  ·rename_i H p
   obtain⟨C,q,rfl,n⟩:=n;exact c (.pure (.pointer (some ⟨C,q,none⟩))) (λb=>by simp[execOp,f,p]) ⟨_,λe=>rfl,n⟩
  ·rename_i r first s p
   exact c (.pure (.func (.func r) first s)) (λb=>by simp[execOp,f,p]) ⟨_,λe=>rfl,n⟩
  ·exact n.elim
 ·rename_i i g o f
  split at n
  ·rename_i t
   obtain⟨P,d,n⟩:=Hg.out t n;exact c (Instr.index i (ev V Q g) (ev V Q o)) (λb=>by simp[execOp,f]) ⟨P,λe=>d _,n⟩
  ·exact n.elim
 ·rename_i r l E f
  obtain⟨j,n⟩:=n.out;obtain⟨P,d,n⟩:=uK.out n;refine⟨P,?_,v P n⟩;rintro _ ⟨e,rfl⟩;have F:(execOp (ev V Q) R).run h (b.drewN e)= .ok (.enter r (l.map (ev V Q))) (b.drewN e):=by
   simp[execOp,f,resolve,ev,Deferred.ofValue,invoke,iZ j]
  unfold Oper.quietAt;rw[u.eval,F];exact⟨rfl,d e⟩
 ·split at n
  ·rename_i k m
   split at n
   ·obtain⟨P,d,n⟩:=uK.out n
    exact c k (λb=>jM m h b) ⟨P,d,n⟩
   ·split at n
    ·rename_i P d
     exact c k (λb=>jM m h b) ⟨P,λe=>xV d _,n⟩
    ·exact n.elim
  ·exact n.elim
def rD{v:Program}{l:Nat}{f B0:cy}{e0:cX}{W:List Nat}{c:Array Oper}{w:World}{x:cX->Prop}(K:∀B n,kf c B=some n->n<l):
  ∀(C:List Oper) (P:cX) (h:Act),(∀a∈C,∀d,a.dst=some d->d<l/\d∈W)->Rel l f P h->(∀n,n∉W->get f P n=get B0 e0 n)->
   tv v f c C x P w->wpQuiet v c (bH w) (λr=>∃m,Rel l f m r/\r.defers=h.defers/\(∀n,n∉W->get f m n=get B0 e0 n)/\x m) C h
 |[],P,h,_,k,j,b=>⟨P,k,rfl,j,b⟩
 |a::g,P,h,E,k,j,b=>by
  have M:∀d,a.dst=some d->d<l:=λd F=>(E a (List.mem_cons_self ..) d F).1;have N:∀(P:cX),(∀n,n∉W->get f P n=get B0 e0 n)->∀e n,n∉W->get f (cC P a.dst e) n=get B0 e0 n:=by
   intro P j e n H
   cases F:a.dst with
   |none=>exact j n H
   |some d=>
    have O:=(E a (List.mem_cons_self ..) d F).2;show get f ((d,e)::P) n=_;rw[eH,if_neg (by rintro rfl;exact H O)];exact j n H
  have I:∀a∈g,∀d,a.dst=some d->d<l/\d∈W:=λa Q=>E a (List.mem_cons_of_mem _ Q);have o:∀(P:cX) (e:Value),Rel l f P h->(∀n,n∉W->get f P n=get B0 e0 n)->tv v f c g x (cC P a.dst e) w->
    wpQuiet v c (bH w) (λr=>∃m,Rel l f m r/\r.defers=h.defers/\(∀n,n∉W->get f m n=get B0 e0 n)/\x m) g (h.put a.dst e):=λP e k j b=>by
   have:=rD K g (cC P a.dst e) (h.put a.dst e) I (k.put _ M _) (N P j _) b;rw[put_defers]at this;exact this
  unfold wpQuiet;unfold tv at b;split at b
  ·rename_i y
   rw[if_pos (by simp[Region.wanted,y])];exact uM k b λe s=>o P e k j s
  ·rename_i B i y
   split at b
   ·exact b.elim
   ·rename_i n L
    have p:=pf k L (K B n L);split at b
    ·rename_i z t
     rw[t]at p;simp only at p;have J:Region.wanted a (yielded c h.tmps)=(z==i):=by
      simp only[Region.wanted,y,p]
      cases z<;>cases i<;>rfl
     rw[J];have q:=k.again t;have A:∀u,u∉W->get f ((n,.bool z)::P) u=get B0 e0 u:=λu R=>by rw[sj t];exact j u R
     cases z<;>cases i<;>simp only[al]at b
     ·exact uM q b λe s=>o _ e q A s
     ·exact o _ _ q A b
     ·exact o _ _ q A b
     ·exact uM q b λe s=>o _ e q A s
    ·rename_i S t
     rw[t]at p;simp only at p;have J:Region.wanted a (yielded c h.tmps)=false:=by
      simp[Region.wanted,y,p]
     rw[J];exact o _ _ k j b
    ·exact b.elim
def kindOf(n:Program)(c:Oper):Nat:=match c.op with
 | .move _| .assign _| .pick .. | .build .. | .binOp .. | .unOp .. | .indexAddr .. | .slice .. | .nilCheck _| .fieldAddr .. | .field .. | .index .. | .extract .. | .typeAssert .. =>0
 | .convert P a _=>match isInt n P with
  |true=>match isInt n a with
   |true=>0
   |false=>2
  |false=>2
 | .load .. | .lookup .. =>1
 | .call {callee:=.builtin b,argTypes,..}=>match b with
  | .len=>match isMap n (argTypes.getD 0 0)with
   |true=>1
   |false=>0
  | .cap| .max| .min=>0
  |_=>2
 |_=>2
def mW(P:Program)(n:Array Oper)(a:Nat):Nat:=match n[a]? with
 |some b=>kindOf P b
 |none=>2
def gq(P:Program)(n:Array Oper)(a:Nat):Bool:=match mW P n a with
 |2=>false
 |_=>true
def NN(n:Program):List Oper->Bool
 |[]=>false
 |P::a=>match kindOf n P with
  |2=>true
  |_=>NN n a
def tw(P:Program)(n:Array Oper):List Nat->Option Nat
 |[]=>none
 |a::b=>match gq P n a with
  |true=>some a
  |false=>tw P n b
def uN{b:Program}{P:Array Oper}{a:Nat}:∀{c:List Nat},tw b P c=some a->a∈c/\gq b P a=true
 |[],n=>by cases n
 |g::h,n=>by
  unfold tw at n;split at n
  ·rename_i d;cases n;exact⟨List.mem_cons_self ..,d⟩
  ·obtain⟨e,f⟩:=uN n;exact⟨List.mem_cons_of_mem _ e,f⟩
def Ch{c:Program}{n:Array Oper}:∀{d:List Nat},tw c n d=none->∀a∈d,gq c n a=false
 |[],_,a,P=>by cases P
 |f::g,b,a,P=>by
  unfold tw at b;split at b
  ·cases b
  ·rename_i e
   rcases List.mem_cons.1 P with rfl|P
   ·exact e
   ·exact Ch b a P
def Jw(n:a1.getD a true=false):a1.getD a false=false:=by
 rcases Nat.lt_or_ge a a1.size with P|P
 ·simp[P]at n⊢;exact n
 ·simp[Array.getElem?_eq_none P]at n
def mX(P:Array Oper)(b:Nat):Nat->Array Bool->Array Bool
 |0,n=>n
 |f+1,n=>match(Region.ready .any P n).find? (λa=>!Nat.beq a b)with
  |some a=>mX P b f (n.setIfInBounds a true)
  |none=>n
def i_(c:Program)(n:Array Oper)(listed:Array Bool)(a:Nat):Bool:=
 (λb:Array Bool=>!b.getD a true&&(Region.ready .any n b).all (λP=>Nat.beq P a)&&
  (List.range n.size).all λP=>!b.getD P false||gq c n P||listed.getD P false) (mX n a n.size listed)
structure wu (P:Program) (ops:Array Oper) (i:Nat) (listed M:Array Bool):Prop where
 sub:∀k,listed.getD k false=true->M.getD k false=true
 only:∀j∈Region.ready .any ops M,j=i
 still:∀j,j<ops.size->M.getD j false=true->listed.getD j false=false->gq P ops j=true
 size:M.size=listed.size
def rE{ops:Array Oper}{i:Nat}:∀(f:Nat) (n:Array Bool),(mX ops i f n).size=n.size/\∀P,n.getD P false=true->(mX ops i f n).getD P false=true
 |0,n=>⟨rfl,λ_ a=>a⟩
 |f+1,n=>by
  unfold mX;split
  ·rename_i b _
   obtain⟨c,d⟩:=rE (ops:=ops) (i:=i) f (n.setIfInBounds b true);exact⟨by rw[c];simp,λP e=>d P (getD_set_true e)⟩
  ·exact⟨rfl,λ_ a=>a⟩
def DU{ops:Array Oper}{i:Nat}(n:i_ h ops a1 i=true):∃b,wu h ops i a1 b:=by
 unfold i_ at n;simp only[Bool.and_eq_true,List.all_eq_true]at n;obtain⟨⟨_,c⟩,d⟩:=n;obtain⟨e,f⟩:=rE (ops:=ops) (i:=i) ops.size a1;refine⟨_,f,λP a=>Nat.eq_of_beq_eq_true (c P a),λP a g j=>?_,e⟩;have:=d P (List.mem_range.2 a);rw[g,j]at this;simpa using this
def wu.ready{i:Program}{a:Array Oper}{j:Nat}{n c:Array Bool}(b:wu i a j n c){P:Nat}(p:P∈Region.ready .any a n)(q:P≠j):
  gq i a P=true/\wu i a j (n.setIfInBounds P true) c:=by
 obtain⟨k,r,l,s⟩:=mem_ready.1 p;have t:P<a.size:=(Array.getElem?_eq_some_iff.1 l).1;have m:c.getD P false=true:=by
  by_cases d:c.getD P true=false
  ·exact absurd (b.only P (mem_ready.2 ⟨d,r,l,λu v w=>b.sub _ (s u v w)⟩)) q
  ·have x:P<n.size:=by
    rcases Nat.lt_or_ge P n.size with K|K
    ·exact K
    ·simp[Array.getElem?_eq_none K]at k
   have y:P<c.size:=by rw[b.size];exact x
   simp[y]at d⊢;exact d
 have o:n.getD P false=false:=Jw k;refine⟨b.still P t m o,λe h=>?_,b.only,λe h d f=>?_,by simp[b.size]⟩
 ·by_cases g:P=e
  ·subst g;exact m
  ·rw[getD_set_ne false g]at h;exact b.sub e h
 ·refine b.still e h d ?_
  by_cases g:P=e
  ·subst g;exact o
  ·rw[getD_set_ne false g]at f;exact f
structure Ci (ops:Array Oper) (i:Nat) (listed M:Array Bool):Prop where
 sub:∀k,listed.getD k false=true->M.getD k false=true
 only:∀j∈Region.ready .any ops M,j=i
 size:M.size=listed.size
def rF(P:Array Oper)(n:Array Bool)(a:Nat):Bool:=
 (λb:Array Bool=>(Region.ready .any P b).all (λc=>Nat.beq c a)) (mX P a P.size n)
def Jy{ops:Array Oper}{i:Nat}(n:rF ops a1 i=true):Ci ops i a1 (mX ops i ops.size a1):=by
 unfold rF at n;simp only[List.all_eq_true]at n;obtain⟨P,a⟩:=rE (ops:=ops) (i:=i) ops.size a1;exact⟨a,λb c=>Nat.eq_of_beq_eq_true (n b c),P⟩
def Ci.ready{a:Array Oper}{d:Nat}{n b:Array Bool}(c:Ci a d n b){P:Nat}(k:P∈Region.ready .any a n)(l:P≠d):
  b.getD P false=true/\Ci a d (n.setIfInBounds P true) b:=by
 obtain⟨m,o,p,q⟩:=mem_ready.1 k;have g:b.getD P false=true:=by
  by_cases e:b.getD P true=false
  ·exact absurd (c.only P (mem_ready.2 ⟨e,o,p,λr s t=>c.sub _ (q r s t)⟩)) l
  ·have u:P<n.size:=by
    rcases Nat.lt_or_ge P n.size with f|f
    ·exact f
    ·simp[Array.getElem?_eq_none f]at m
   have v:P<b.size:=by rw[c.size];exact u
   simp[v]at e⊢;exact e
 refine⟨g,λh i=>?_,c.only,by simp[c.size]⟩
 by_cases j:P=h
 ·subst j;exact g
 ·rw[getD_set_ne false j]at i;exact c.sub h i
def UH(n:List PanicEntry->Act->World->Prop):Exit->Act->World->Prop:=λP a b=>match P with
 | .panic c=>n c a b
 |_=>False
def VH(c:Program)(P:Array Oper)(a:Bool)(h:List PanicEntry->Act->World->Prop)(i:Nat->Prop)(g:Act->World->Prop):Nat->(World->Prop)->Array Bool->Act->World->Prop
 |0,_,n,e,d=>Region.ready .any P n=[]/\g e d
 |f+1,l,n,e,d=>(Region.ready .any P n=[]->g e d)/\∀b∈Region.ready .any P n,
  (gq c P b=true->stOp c P d b (λj=>VH c P a h i g f l (n.setIfInBounds b true) j d) e)/\
  (gq c P b=false->wpOp c P (UH h) b (λj m=>∃k:World->Prop,(a=true->i b->∀o,k o->l o)/\k m/\VH c P a h i g f k (n.setIfInBounds b true) j m) e d)
def Sy(e:∀f K b,f4 f K b->d7 (.panic f) K b)(n:wpOp h U (UH f4) a f5 K b):wpOp h U d7 a f5 K b:=by
 unfold wpOp at*;split
 ·rename_i c;simpa only[c]using n
 ·rename_i g c
  simp only[c]at n;split
  ·rename_i d
   simp only[d,if_true]at n;rcases n with n|⟨_,_,_,n⟩
   ·left
    unfold Oper.wp at*;generalize(execOp K.eval g).run h b=i at*
    cases i with
    |ok j k=>
     cases j<;>simp only[Oper.upon]at n⊢<;>
      first
       |exact n
       |exact Calls.mono n (λl o P=>by cases l<;>first|exact P|exact e _ _ _ P|exact P.elim|(obtain⟨_,_,n⟩:=P;exact n.elim))
    |halt m k=>cases m<;>first|exact e _ _ _ n|exact(show False from n).elim
   ·exact n.elim
  ·rename_i d;simp only[d]at n;exact n
def pg{g:Program}{c:Array Oper}{d:Bool}{l:List PanicEntry->Act->World->Prop}{r:Nat->Prop}{m:Act->World->Prop}{h:Exit->Act->World->Prop}(i:∀o a P,l o a P->h (.panic o) a P)(e:∀a P,m a P->h .normal a P):∀(f:Nat) (j:World->Prop) (n:Array Bool) (a:Act) (P:World),
  VH g c d l r m f j n a P->wpAny g .any c h f n a P
 |0,_,_,_,_,b=>⟨b.1,e _ _ b.2⟩
 |f+1,j,n,a,P,b=>⟨λs=>e _ _ (b.1 s),λp t=>by
   obtain⟨u,v⟩:=b.2 p t
   cases q:gq g c p with
   |true=>exact wpOp_of_stOp (λk b=>pg i e f j _ k P b) (u q)
   |false=>exact Sy i (wpOp_mono (λk w ⟨x,_,_,b⟩=>pg i e f x _ k w b) (v q))⟩
section
variable {P:Program} {ops:Array Oper}
def PH{d h:Oper}(r:ops[a]? =some h)(s:d.apart ops h=true)(t:∀cs j,d.op≠.select cs j)(u:∀cs j,h.op≠.select cs j){m:Act->Prop}(v:∀e,z e->YieldsAt P ops e d w K)(c:stOp P ops b a m (K.put d.dst w)):
  stOp P ops b a (λo=>(∀e,z e->YieldsAt P ops e d w o)/\m (o.put d.dst w)) K:=by
 obtain⟨p,i,q⟩:=Oper.apart_spec s;have n:∀g,∀e,z e->YieldsAt P ops e d w (K.put h.dst g):=λg e x=>
  (v e x).of_same (execOp_put d t K h.dst g q) (wanted_put d K h.dst g q)
 unfold stOp at*;simp only[r]at*;rw[wanted_put h K d.dst w p]at c;split
 ·rename_i k
  simp only[k,if_true]at c;unfold Oper.still at*;rw[execOp_put h u K d.dst w p]at c;generalize(execOp K.eval h).run P b=y at*
  cases y with
  |ok A B=>
   cases A<;>simp only[Oper.stillUpon]at c⊢
   case value g=>exact⟨c.1,n g,by rw[<-Act.put_comm K w g i];exact c.2⟩
   case skip=>exact⟨c.1,n _,by rw[<-Act.put_comm K w undef i];exact c.2⟩
   case enter f args=>obtain⟨l,g,C,E⟩:=c;exact⟨l,g,C,n g,by rw[<-Act.put_comm K w g i];exact E⟩
  |halt e B=>simp only[Oper.stillUpon]at c
 ·rename_i k
  simp only[k]at c;exact⟨n _,by rw[<-Act.put_comm K w undef i];exact c⟩
def PI{g h:Oper}(t:∀o K b,f4 o (K.put g.dst w) b->f4 o K b)(B:ops[a]? =some h)(C:g.apart ops h=true)(u:∀cs p,g.op≠.select cs p)(E:∀cs p,h.op≠.select cs p)(v:∀n,z n->YieldsAt P ops n g w K)(d:wpOp P ops (UH f4) a f5 (K.put g.dst w) b):
  wpOp P ops (UH f4) a (λx q=>(∀n,z n->YieldsAt P ops n g w x)/\f5 (x.put g.dst w) q) K b:=by
 obtain⟨y,k,m⟩:=Oper.apart_spec C;have e:∀c,∀n,z n->YieldsAt P ops n g w (K.put h.dst c):=λc n r=>
  (v n r).of_same (execOp_put g u K h.dst c m) (wanted_put g K h.dst c m)
 have i:∀l c,∀n,z n->YieldsAt P ops n g w (({K with defers:=l::K.defers}:Act).put h.dst c):=λl c n r=>
  (show YieldsAt P ops n g w {K with defers:=l::K.defers}from v n r).of_same (execOp_put g u _ h.dst c m) (wanted_put g _ h.dst c m)
 unfold wpOp at*;simp only[B]at*;rw[wanted_put h K g.dst w y]at d;split
 ·rename_i s
  simp only[s,if_true]at d;rcases d with d|⟨_,_,_,d⟩
  ·left
   unfold Oper.wp at*;rw[execOp_put h E K g.dst w y]at d;generalize(execOp K.eval h).run P b=A at*
   cases A with
   |ok F q=>
    cases F<;>simp only[Oper.upon]at d⊢
    case value c=>exact⟨e c,by rw[<-Act.put_comm K w c k];exact d⟩
    case skip=>exact⟨e _,by rw[<-Act.put_comm K w undef k];exact d⟩
    case defer l=>exact⟨i l _,by rw[<-Act.put_comm _ w undef k,<-Act.put_defers];exact d⟩
    case enter f args=>
     refine Calls.mono d λH I j=>?_
     cases H with
     |returned c=>exact⟨e c,by rw[<-Act.put_comm K w c k];exact j⟩
     |panicked o=>exact t _ _ _ j
     |outgrown=>obtain⟨_,_,j⟩:=j;exact j.elim
    case row A args=>exact Rows.mono d λc I j=>⟨e c,by rw[<-Act.put_comm K w c k];exact j⟩
   |halt n q=>cases n<;>first|exact t _ _ _ d|exact(show False from d).elim
  ·exact d.elim
 ·rename_i s
  simp only[s]at d;exact⟨e _,by rw[<-Act.put_comm K w undef k];exact d⟩
def wv{a:Bool}{j:List PanicEntry->Act->World->Prop}{k l:Nat->Prop}(e:∀m,k m->l m){o:Act->World->Prop}:∀(f:Nat) (c:World->Prop) (n:Array Bool) (g:Act) (d:World),
  VH P ops a j l o f c n g d->VH P ops a j k o f c n g d
 |0,_,_,_,_,b=>b
 |f+1,c,n,g,d,b=>⟨b.1,λq r=>by
   obtain⟨s,t⟩:=b.2 q r;refine⟨λh=>stOp_mono (λi b=>wv e f c _ i d b) (s h),λh=>wpOp_mono (λi u ⟨p,v,w,x⟩=>⟨p,λy z=>v y (e _ z),w,wv e f p _ i u x⟩) (t h)⟩⟩
def sk(N:∀b,f b->Z b)(hE:∀T o g,f4 T (o.put R.dst w) g->f4 T o g)(I:ops[a]? =some R)(U:gq P ops a=true)(K:∀(b:Nat) (V:Oper) cs k,ops[b]? =some V->V.op≠.select cs k)(L:World->Prop):
  ∀(v:Nat) (p:World->Prop) (n:Array Bool) (o:Act) (g:World),
   (∀b q,ops[b]? =some q->b≠a->n.getD b true=false->(∀i∈q.after,Region.binds .any i=true->i.on≠a)->R.apart ops q=true)->
   a∈Region.ready .any ops n->(∀e,L e->YieldsAt P ops e R w o)->L g->p g->
   ((∀e,L e)\/(J=true/\(∀e,p e->L e)/\((∀b,Z b)\/∃h,Ci ops a n h/\∀b,h.getD b false=true->Z b))\/∃h,wu P ops a n h)->
   VH P ops J f4 Z f5 v p (n.setIfInBounds a true) (o.put R.dst w) g->VH P ops J f4 f f5 (v+1) p n o g:=by
 intro v
 induction v with
 |zero=>
  intro p n o g _ l x t W _ y;refine⟨λc=>(by rw[c]at l;cases l),λb m=>?_⟩
  by_cases d:b=a
  ·subst d;exact⟨λ_=>(x g t).stOp I (wv N _ _ _ _ _ y),λc=>(by rw[U]at c;cases c)⟩
  ·have:=ready_mono m d
   rw[y.1]at this
   cases this
 |succ v O=>
  intro p n o g X l x t W Y y;refine⟨λc=>(by rw[c]at l;cases l),λb m=>?_⟩
  by_cases d:b=a
  ·subst d;exact⟨λ_=>(x g t).stOp I (wv N _ _ _ _ _ y),λc=>(by rw[U]at c;cases c)⟩
  ·obtain⟨hS,hT⟩:=y.2 b (ready_mono m d)
   obtain⟨a0,q,z,a4⟩:=mem_ready.1 m;have a5:∀i∈q.after,Region.binds .any i=true->i.on≠a:=λi he hb b0=>by
    have h1:=a4 i he hb;rw[b0,Jw (mem_ready.1 l).1]at h1
    cases h1
   have a6:=X b q z d a0 a5;have Q:∀u A,ops[u]? =some A->u≠a->(n.setIfInBounds b true).getD u true=false->
     (∀i∈A.after,Region.binds .any i=true->i.on≠a)->R.apart ops A=true:=λu A hk b1 a7 b2=>by
    refine X u A hk b1 ?_ b2
    by_cases a8:b=u
    ·subst a8;exact a0
    ·rw[getD_set_ne true a8]at a7;exact a7
   refine⟨λB=>?_,λB=>?_⟩
   ·have j:=PH z a6 (λcs k=>K a R cs k I) (λcs k=>K b q cs k z) x (hS B)
    refine stOp_mono (λM r=>O p (n.setIfInBounds b true) M g Q (ready_mono l (Ne.symm d)) r.1 t W ?_ ?_) j
    ·rcases Y with c|⟨s,c,j⟩|⟨h,c⟩
     ·exact .inl c
     ·exact .inr (.inl ⟨s,c,j.imp id λ⟨h,C,E⟩=>⟨h,(C.ready m d).2,E⟩⟩)
     ·exact .inr (.inr ⟨h,(c.ready m d).2⟩)
    ·rw[Array.setIfInBounds_comm _ _ d]
     exact r.2
   ·have j:=PI hE z a6 (λcs k=>K a R cs k I) (λcs k=>K b q cs k z) x (hT B)
    refine wpOp_mono (λM w' r=>?_) j;obtain⟨r,F,S,H,hM⟩:=r;have a1:J=true->f b->∀e,F e->p e:=λs t=>S s (N _ t);rcases Y with c|⟨s,c,j⟩|⟨h,c⟩
    ·exact⟨F,a1,H,O F (n.setIfInBounds b true) M w' Q (ready_mono l (Ne.symm d)) r (c _) H (.inl c) (by rw[Array.setIfInBounds_comm _ _ d];exact hM)⟩
    ·have a9:Z b:=by
      rcases j with j|⟨h,C,E⟩
      ·exact j b
      ·exact E b (C.ready m d).1
     exact⟨F,a1,H,O F (n.setIfInBounds b true) M w' Q (ready_mono l (Ne.symm d)) r (c _ (S s a9 _ H)) H (.inr (.inl ⟨s,λe hx=>c e (S s a9 e hx),j.imp id λ⟨h,C,E⟩=>⟨h,(C.ready m d).2,E⟩⟩)) (by rw[Array.setIfInBounds_comm _ _ d];exact hM)⟩
    ·rw[(c.ready m d).1]at B;cases B
end
def Ya(n:Bool)(a:Nat->Prop)(b:Value)(P:Prop):Prop:=match n with
 |false=>P
 |true=>match b with
  | .pointer (some c)=>¬a c.block/\P
  |_=>False
def kK(n:Bool)(b:Nat->Prop)(a:World):World->Prop:=match n with
 |true=>λP=>aj b a P
 |false=>λP=>P=a
def Wz(n:Bool)(e:Nat->Prop)(b:Program)(c:Sem Value)(P:World)(d:Value):Prop:=match n with
 |true=>∀a,aj e P a->c.run b a= .ok d a
 |false=>c.run b P= .ok d P
def VI(n:Bool)(a:Nat->Prop)(b c:World)(P:Prop):Prop:=match n with
 |true=>aj a b c/\P
 |false=>P
def UI(a:Program)(b:cy)(c:Oper)(e:Bool)(j:Nat->Prop)(f:cX->Prop)(n:cX)(k:World):Prop:=
 match c.op with
 | .load d l=>fK (known a d) (Ya e j (ev b n l) (jO a d (ev b n l) k λP=>f (cC n c.dst P)))
 | .indexAddr d g h=>fK (ic a d) (UD a d (ev b n g) (ev b n h) λP=>f (cC n c.dst P))
 | .slice d g o p q=>fK (ic a d) (UE a d (ev b n g) (o.map (ev b n)) (p.map (ev b n)) (q.map (ev b n)) λP=>f (cC n c.dst P))
 | .nilCheck g=>PG (ev b n g) λP=>f (cC n c.dst P)
 | .index d g h=>match a.underlying d with
  |some .string=>Hg (ev b n g) (ev b n h) λP=>f (cC n c.dst P)
  |_=>False
 |_=>match PE (ev b n) c with
  |some i=>match Hh a c with
   |true=>uK a c.type λP=>(match kindOf a c with
    |0=>∀m,i.run a m= .ok P m
    |_=>Wz e j a i k P)/\f (cC n c.dst P)
   |false=>match Cg a i with
    |some P=>f (cC n c.dst P)
    |none=>False
  |none=>False
def jO.Zg(k:∃o,h.underlying g=some o)(n:jO h g (.pointer (some d4)) b O):
  ∃P,(∀a,(∀e l,e.block=d4.block->b.cell? e=some l->a.cell? e=some l)->(Instr.loadAt g (.pointer (some d4))).run h a= .ok P a)/\O P:=by
 unfold jO at n;simp only at n;split at n
 ·rename_i f
  split at n
  ·rename_i y p
   split at n
   ·rename_i q
    obtain⟨i,r,n⟩:=Sv.out n;obtain⟨j,n⟩:=iW.out n;obtain⟨s,m,_⟩:=EP p (by simp[undef]);have t:s.size=i.length:=by
     have:=Nat.eq_of_beq_eq_true q;rw[iX m]at this;simp[this,r]
    refine⟨_,λa c=>?_,n⟩;have u:∀d P,i[d]? =some P->a.cell? (d4.add d)=some P:=λd P v=>
     c _ _ (by unfold Addr.add;split<;>rfl) (by have:=j d P v;simpa using this)
    have w:=run_loadCells_list (P:=h) (w:=a) d4 i u;simp only[Instr.loadAt,Instr.sureAddr,loadVar,Sem.run_bind,Sem.run_pure,Result.andThen_ok,dG h g _ f k,if_true,dH m,t,w]
   ·exact n.elim
  ·exact n.elim
 ·rename_i f
  obtain⟨P,x,n⟩:=QH.out n;refine⟨P,λa c=>?_,n⟩;have j:a.cell? d4=some P:=c _ _ rfl x;simp[Instr.loadAt,Instr.sureAddr,loadVar,dG h g _ f k,load,Sem.run,j]
def aj.Yb(a:aj f b k)(c:¬f d4.block)(n:b.cell? d4=some w):k.cell? d4=some w:=by
 have P:d4.block<b.heap.size:=by
  by_cases P:d4.block<b.heap.size
  ·exact P
  ·unfold World.cell? at n
   rw[show b.heap[d4.block]? =none by simp;omega]at n
   cases n
 unfold World.cell? at n⊢;rw[a.block _ P c];exact n
def Sz(A:Rel a V Q K)(B:Region.wanted R (yielded U K.tmps)=true)(n:UI h V R J f f3 Q b):
  ∃P,f3 (cC Q R.dst P)/\((∀d,YieldsAt h U d R P K)\/(kindOf h R≠0/\∀d,kK J f b d->YieldsAt h U d R P K)):=by
 have e:∀(o:Sem Value) P d,(∀b,(execOp (ev V Q) R).run h b=(o.run h b).andThen λP C=>.ok (.value P) C)->o.run h d= .ok P d->YieldsAt h U d R P K:=by
  intro o P d r g;refine .inl ⟨B,.inl ?_⟩;rw[A.eval,r,g]
  rfl
 unfold UI at n;split at n
 ·rename_i m d i
  obtain⟨p,n⟩:=fK.out n;have E:kindOf h R≠0:=by simp[kindOf,i]
  have s:∀(j:Addr),ev V Q d= .pointer (some j)->(∀c,kK J f b c->∀q t,q.block=j.block->b.cell? q=some t->c.cell? q=some t)->(jO h m (.pointer (some j)) b λP=>f3 (cC Q R.dst P))->
    ∃P,f3 (cC Q R.dst P)/\((∀d,YieldsAt h U d R P K)\/(kindOf h R≠0/\∀d,kK J f b d->YieldsAt h U d R P K)):=by
   intro j l F n;obtain⟨P,g,n⟩:=jO.Zg (known.out p).1 n;exact⟨P,n,.inr ⟨E,λc k=>e (Instr.loadAt m (ev V Q d)) P c (λb=>by simp[execOp,i]) (by rw[l];exact g c (F c k))⟩⟩
  unfold Ya at n;split at n
  ·have l:∃j,ev V Q d= .pointer (some j):=by
    unfold jO at n;split at n
    ·exact⟨_,by assumption⟩
    ·exact n.elim
   obtain⟨j,l⟩:=l;rw[l]at n;exact s j l (λc k q t _ u=>by simp only[kK]at k;rw[k];exact u) n
  ·split at n
   ·rename_i j l
    obtain⟨H,n⟩:=n;exact s j l (λc k q t p u=>by simp only[kK]at k;exact k.Yb (by rw[p];exact H) u) (by rw[<-l];exact n)
   ·exact n.elim
 ·rename_i m d v i
  obtain⟨p,n⟩:=fK.out n;obtain⟨P,g,n⟩:=UD.out (ic.out p) n;exact⟨P,n,.inl λc=>e (Instr.indexAt m (ev V Q d) (ev V Q v)) P c (λb=>by simp[execOp,i]) (g _)⟩
 ·rename_i m d I L M i
  obtain⟨p,n⟩:=fK.out n;obtain⟨P,g,n⟩:=UE.out (λQ N=>ic.out p Q (.inl N)) n;exact⟨P,n,.inl λc=>e (Instr.sliceAt m (ev V Q d) (I.map (ev V Q)) (L.map (ev V Q)) (M.map (ev V Q))) P c (λb=>by simp[execOp,i]) (g _)⟩
 ·rename_i d i
  unfold PG at n;split at n
  ·rename_i j w
   obtain⟨q,x,rfl,n⟩:=n;exact⟨_,n,.inl λc=>e (.pure (.pointer (some ⟨q,x,none⟩))) _ c (λb=>by simp[execOp,i,w]) rfl⟩
  ·rename_i O first y w
   exact⟨_,n,.inl λc=>e (.pure (.func (.func O) first y)) _ c (λb=>by simp[execOp,i,w]) rfl⟩
  ·exact n.elim
 ·rename_i m d v i
  split at n
  ·rename_i z
   obtain⟨P,g,n⟩:=Hg.out z n;exact⟨P,n,.inl λc=>e (Instr.index m (ev V Q d) (ev V Q v)) P c (λb=>by simp[execOp,i]) (g _)⟩
  ·exact n.elim
 ·split at n
  ·rename_i o r
   split at n
   ·obtain⟨P,g,n⟩:=uK.out n
    refine⟨P,n,?_⟩;split at g
    ·exact .inl λc=>e o P c (λb=>jM r h b) (g c)
    ·rename_i S
     refine .inr ⟨S,λc k=>e o P c (λb=>jM r h b) ?_⟩
     cases J with
     |true=>exact g c k
     |false=>simp only[kK]at k;rw[k];exact g
   ·split at n
    ·rename_i P g
     exact⟨P,n,.inl λc=>e o P c (λb=>jM r h b) (xV g _)⟩
    ·exact n.elim
  ·exact n.elim
def ph(d:Array Oper)(e:Oper)(f:cy)(a:cX)(b n:cX->Prop):Prop:=match e.guard with
 |none=>b a
 |some (g,P)=>match kf d g with
  |none=>False
  |some c=>match get f a c with
   | .bool h=>al h
    (match P with
     |true=>b ((c,.bool true)::a)
     |false=>n ((c,.bool true)::a))
    (match P with
     |true=>n ((c,.bool false)::a)
     |false=>b ((c,.bool false)::a))
   | .tuple _=>n a
   |_=>False
def pO:List Nat->(Nat->Prop)->Prop
 |[],_=>True
 |P::a,n=>match a with
  |[]=>n P
  |_=>n P/\pO a n
def pO.out:∀{l:List Nat} {φ:Nat->Prop},pO l φ->∀a∈l,φ a
 |[],_,_,a,n=>by cases n
 |b::c,φ,P,a,n=>by
  unfold pO at P;split at P
  ·simp only[List.mem_singleton]at n
   subst n;exact P
  ·rcases List.mem_cons.1 n with rfl|n
   ·exact P.1
   ·exact pO.out P.2 a n
def YE(c:Program)(P:Array Oper)(a:Bool)(n:Array Bool)(b:Nat):Bool:=
 Region.free .any P n b&&(match mW c P b with
  |0=>true
  |_=>match a with
   |true=>true
   |false=>i_ c P n b)
def pk(b:Program)(P:Array Oper)(a:Bool)(n:Array Bool)(c:Nat):Bool:=match a with
 |false=>false
 |true=>match mW b P c with
  |0=>false
  |_=>!i_ b P n c
def yF(P:Array Oper)(n:Array Bool)(a:Nat)(c:Nat->Bool):Nat->Bool:=match rF P n a with
 |true=>(λM:Array Bool=>λb=>c b||M.getD b false) (mX P a P.size n)
 |false=>λ_=>true
def wy(d:Program)(P:Array Oper)(a:Bool)(n:Array Bool)(b:Nat)(c:Nat->Bool):Nat->Bool:=match pk d P a n b with
 |true=>yF P n b c
 |false=>c
def Mx:∀n,f6 n=true->yF U a1 a f6 n=true:=by
 intro n P;unfold yF
 cases rF U a1 a with
 |true=>simp[P]
 |false=>rfl
def My:(∀n,yF U a1 a f6 n=true)\/∃P,Ci U a a1 P/\∀n,P.getD n false=true->yF U a1 a f6 n=true:=by
 unfold yF
 cases b:rF U a1 a with
 |true=>exact .inr ⟨_,Jy b,λn c=>by simp only[c,Bool.or_true]⟩
 |false=>exact .inl λ_=>rfl
def wA(f:Program)(g:cy)(P:Array Oper)(a:Bool)(i:Nat->Prop)(k:List PanicEntry->List Deferred->World->Prop)(j:cX->List Deferred->World->Prop):(Nat->Bool)->Nat->Array Bool->cX->List Deferred->World->Prop
 |W,0,n,b,c,d=>fK (Region.ready .any P n).isEmpty (j b c d)
 |W,l+1,n,b,c,d=>match tw f P (Region.ready .any P n)with
  |some e=>fK (YE f P a n e) (match P[e]? with
   |none=>False
   |some h=>ph P h g b (λb=>UI f g h (pk f P a n e) i (λb=>wA f g P a i k j (wy f P a n e W) l (n.setIfInBounds e true) b c d) b d)
     (λb=>wA f g P a i k j W l (n.setIfInBounds e true) (cC b h.dst undef) c d))
  |none=>match Region.ready .any P n with
   |[]=>j b c d
   |o=>pO o λe=>match P[e]? with
    |none=>False
    |some h=>ph P h g b (λb=>UG f P g h (λp _ _ c d=>match p with
     | .panic q=>k q c d
     |_=>False) (λb c m=>VI (a&&W e) i d m (wA f g P a i k j W l (n.setIfInBounds e true) b c m)) b c d)
     (λb=>wA f g P a i k j W l (n.setIfInBounds e true) (cC b h.dst undef) c d)
def ph.out{d b:cX->Prop}(r:∀o e,kf U o=some e->e<a)(h:Rel a V Q K)(n:ph U R V Q d b):
  ∃i,Rel a V i K/\(∀f,get V i f=get V Q f)/\((Region.wanted R (yielded U K.tmps)=true/\d i)\/(Region.wanted R (yielded U K.tmps)=false/\b i)):=by
 unfold ph at n;split at n
 ·rename_i j
  exact⟨Q,h,λ_=>rfl,.inl ⟨by simp[Region.wanted,j],n⟩⟩
 ·rename_i o P j
  split at n
  ·exact n.elim
  ·rename_i e q
   have c:=pf h q (r o e q);split at n
   ·rename_i k g
    rw[g]at c;simp only at c;have p:Region.wanted R (yielded U K.tmps)=(k==P):=by
     simp only[Region.wanted,j,c]
     cases k<;>cases P<;>rfl
    rw[p];have l:=h.again g;have m:∀f,get V ((e,.bool k)::Q) f=get V Q f:=sj g
    cases k<;>cases P<;>simp only[al]at n
    ·exact⟨_,l,m,.inl ⟨rfl,n⟩⟩
    ·exact⟨_,l,m,.inr ⟨rfl,n⟩⟩
    ·exact⟨_,l,m,.inr ⟨rfl,n⟩⟩
    ·exact⟨_,l,m,.inl ⟨rfl,n⟩⟩
   ·rename_i s g
    rw[g]at c;simp only at c;have p:Region.wanted R (yielded U K.tmps)=false:=by
     simp[Region.wanted,j,c]
    exact⟨Q,h,λ_=>rfl,.inr ⟨p,n⟩⟩
   ·exact n.elim
def kK.refl(n:Bool)(a:Nat->Prop)(P:World):kK n a P P:=by
 cases n with
 |true=>exact⟨rfl,rfl,rfl,Nat.le_refl _,λ_ _ _=>rfl⟩
 |false=>rfl
def aj.chain(n:aj f b k)(P:aj f k a8):aj f b a8:=
 ⟨P.os.trans n.os,P.tape.trans n.tape,P.output.trans n.output,Nat.le_trans n.size P.size,λa c d=>(P.block a (Nat.lt_of_lt_of_le c n.size) d).trans (n.block a c d)⟩
def Cj(c:Nat)(d:cy)(e:cX)(f:List Nat)(g:iY):List PanicEntry->Act->World->Prop:=λh b i=>
 (∃n P,Rel c n P b/\(∀a,a∉f->get n P a=get d e a))/\∀n P,g (.panic h) n P b.defers i
def Cj.Yc{P:Option Tmp}(h:∀n,P=some n->n∈b5)(d:List PanicEntry)(b:Act)(e:World)(c:Cj a V Q b5 c3 d (b.put P w) e):Cj a V Q b5 c3 d b e:=by
 obtain⟨⟨k,l,f,i⟩,c⟩:=c;refine⟨⟨λn=>b.tmps.getD n undef,[],⟨?_,λn=>rfl⟩,λn g=>?_⟩,by simpa[put_defers]using c⟩
 ·have:=f.size
  cases P<;>simpa[Act.put]using this
 ·rw[<-i n g,<-f.slot]
  cases P with
  |none=>rfl
  |some P=>
   have j:P≠n:=by rintro rfl;exact g (h P rfl)
   show _=(b.tmps.setIfInBounds P w).getD n undef;simp only[Array.getD_eq_getD_getElem?];rw[Array.getElem?_setIfInBounds_ne j];simp[aw.get]
def Cj.post(P:List PanicEntry)(b:Act)(c:World)(n:Cj a V Q b5 c3 P b c):du a V Q b5 c3 (.panic P) b c:=by
 obtain⟨⟨d,e,f,g⟩,n⟩:=n;exact⟨d,e,f,g,n d e⟩
def mE{i:Program}{x:Nat}{l B0:cy}{e0:cX}{W:List Nat}{P:Array Oper}{a:Bool}{y:Nat->Prop}{K:iY}(z:∀o b,kf P o=some b->b<x)(s:Region.noSelect P=true)(t:∀e∈P.toList,∀r,e.dst=some r->r<x/\r∈W):
  ∀(V:Nat->Bool) (p:Nat) (n:Array Bool) (j:cX) (h:Act) (f:World),Rel x l j h->(∀b,b∉W->get l j b=get B0 e0 b)->
   wA i l P a y (λE Y f=>∀l j,K (.panic E) l j Y f) (λj Y f=>K .normal l j Y f) V p n j h.defers f->VH i P a (Cj x B0 e0 W K) (λo=>V o=true) (du x B0 e0 W K .normal) p (kK a y f) n h f
 |V,0,n,j,h,f,N,A,c=>by
  obtain⟨L,O⟩:=fK.out c;exact⟨by simpa using L,l,j,N,A,O⟩
 |V,p+1,n,j,h,f,N,A,c=>by
  have S:∀{d:Nat} {e:Oper},P[d]? =some e->∀(m:Value) (E:List PanicEntry) (h:Act) (f:World),Cj x B0 e0 W K E (h.put e.dst m) f->Cj x B0 e0 W K E h f:=by
   intro d e g m E h f;have M:e∈P.toList:=by
    obtain⟨b0,rfl⟩:=Array.getElem?_eq_some_iff.1 g;simp
   exact Cj.Yc (λb u=>(t e M b u).2) E h f
  have a5:∀{d:Nat} {e:Oper},P[d]? =some e->(∀r,e.dst=some r->r<x)/\∀(j:cX),(∀b,b∉W->get l j b=get B0 e0 b)->∀m b,b∉W->get l (cC j e.dst m) b=get B0 e0 b:=by
   intro d e g;have M:e∈P.toList:=by
    obtain⟨b0,rfl⟩:=Array.getElem?_eq_some_iff.1 g;simp
   refine⟨λr v=>(t e M r v).1,λj A m b u=>?_⟩
   cases v:e.dst with
   |none=>exact A b u
   |some r=>
    have b1:=(t e M r v).2;show get l ((r,m)::j) b=_;rw[eH,if_neg (by rintro rfl;exact u b1)];exact A b u
  unfold wA at c;split at c
  ·rename_i d F
   obtain⟨T,U⟩:=uN F;obtain⟨a6,c⟩:=fK.out c;split at c
   ·exact c.elim
   ·rename_i e g
    obtain⟨v,H⟩:=a5 g;simp only[YE,Bool.and_eq_true]at a6;obtain⟨b2,Z⟩:=a6;have X:=Region.free_spec g b2;obtain⟨q,k,a3,a0⟩:=ph.out z N c;have B:∀b,b∉W->get l q b=get B0 e0 b:=λb u=>(a3 b).trans (A b u);rcases a0 with⟨I,c⟩|⟨I,c⟩
    ·obtain⟨m,w,C⟩:=Sz k I c
     have a1:∀o,V o=true->wy i P a n d V o=true:=by
      intro o hj;unfold wy
      cases pk i P a n d with
      |true=>exact Mx o hj
      |false=>exact hj
     have next:=mE z s t (wy i P a n d V) p (n.setIfInBounds d true) (cC q e.dst m) (h.put e.dst m) f (k.put _ v _) (H q B m) (by rw[put_defers];exact w);rcases C with C|⟨Q,C⟩
     ·exact sk a1 (S g _) g U (Region.noSelect_spec s) (λ_=>True) p _ n h f X T (λa2 _=>C a2) trivial (kK.refl ..) (.inl λ_=>trivial) next
     ·have a7:mW i P d=kindOf i e:=by simp[mW,g]
      rw[a7]at Z;have b3:(pk i P a n d=true/\a=true)\/(pk i P a n d=false/\i_ i P n d=true):=by
       cases a with
       |false=>
        right;refine⟨rfl,?_⟩;split at Z
        ·rename_i R;exact absurd R Q
        ·simpa using Z
       |true=>
        have M:pk i P true n d= !i_ i P n d:=by
         unfold pk;rw[a7];generalize kindOf i e=a8 at Q
         cases a8 with
         |zero=>exact absurd rfl Q
         |succ a8=>rfl
        rw[M]
        cases hb:i_ i P n d with
        |true=>right;simp
        |false=>left;simp
      rcases b3 with⟨L,O⟩|⟨L,O⟩
      ·rw[L]at C
       subst O;have hg:(∀o,wy i P true n d V o=true)\/∃a9,Ci P d n a9/\∀o,a9.getD o false=true->wy i P true n d V o=true:=by
        unfold wy;rw[L];exact My
       exact sk a1 (S g _) g U (Region.noSelect_spec s) (kK true y f) p _ n h f X T C (kK.refl ..) (kK.refl ..) (.inr (.inl ⟨rfl,λ_ c=>c,hg⟩)) next
      ·rw[L]at C
       exact sk a1 (S g _) g U (Region.noSelect_spec s) (kK false y f) p _ n h f X T C (kK.refl ..) (kK.refl ..) (.inr (.inr (DU O))) next
    ·have next:=mE z s t V p (n.setIfInBounds d true) (cC q e.dst undef) (h.put e.dst undef) f (k.put _ v _) (H q B _) (by rw[put_defers];exact c)
     exact sk (λ_ c=>c) (S g _) g U (Region.noSelect_spec s) (λ_=>True) p _ n h f X T (λa2 _=>.inr ⟨I,rfl⟩) trivial (kK.refl ..) (.inl λ_=>trivial) next
  ·rename_i hn
   have b4:=Ch hn;split at c
   ·rename_i R
    exact⟨λ_=>⟨l,j,N,A,c⟩,λd F=>(by rw[R]at F;cases F)⟩
   ·rename_i b5
    refine⟨λR=>absurd R (by simpa using b5),λd F=>⟨λhs=>(by rw[b4 d F]at hs;cases hs),λ_=>?_⟩⟩;have c:=pO.out c d F;split at c
    ·exact c.elim
    ·rename_i e g
     obtain⟨v,H⟩:=a5 g;obtain⟨q,k,a3,a0⟩:=ph.out z N c;have B:∀b,b∉W->get l q b=get B0 e0 b:=λb u=>(a3 b).trans (A b u);unfold wpOp;simp only[g];rcases a0 with⟨I,c⟩|⟨I,c⟩
     ·rw[if_pos I]
      refine .inl (Mw k v c (λm a' J a4 w=>?_) λE J hq=>⟨⟨l,q,k,B⟩,hq⟩)
      cases a with
      |true=>
       cases hV:V d with
       |true=>
        rw[hV]at w;obtain⟨Q,w⟩:=w;exact⟨kK true y J,λ_ _ a2 hx=>Q.chain hx,kK.refl ..,mE z s t V p _ _ a' J a4 (H q B m) w⟩
       |false=>
        rw[hV]at w;exact⟨kK true y J,λ_ c=>(by cases c),kK.refl ..,mE z s t V p _ _ a' J a4 (H q B m) w⟩
      |false=>exact⟨kK false y J,λc=>(by cases c),kK.refl ..,mE z s t V p _ _ a' J a4 (H q B m) w⟩
     ·rw[if_neg (by rw[I];simp)]
      exact⟨kK a y f,λ_ _ _ c=>c,kK.refl ..,mE z s t V p _ _ (h.put e.dst undef) f (k.put _ v _) (H q B _) (by rw[put_defers];exact c)⟩
structure iG where
 aM:List Nat
 WA:List Nat
 kinds:List Nat
def bit(n:Nat):Nat:=Nat.shiftLeft 1 n
def NO(a:Oper):Nat:=a.after.foldl (λn P=>match Region.binds .any P with|true=>Nat.lor n (bit P.on)|false=>n) 0
def Mz(n:Array Oper)(P:Nat):Nat:=(List.range n.size).foldl (λb a=>match Nat.beq a P||(match n[P]?,n[a]? with
 |some B,some c=>c.after.any (λd=>Region.binds .any d&&d.on==P)||B.apart n c
 |_,none=>true
 |none,_=>false)with|true=>Nat.lor b (bit a)|false=>b) 0
def PJ:List Nat->List Nat->Bool
 |[],[]=>true
 |a::n,P::b=>Nat.beq a P&&PJ n b
 |_,_=>false
def iG.ok(a:Program)(n:Array Oper)(P:iG):Bool:=
 PJ P.aM (n.toList.map NO)&&PJ P.WA ((List.range n.size).map (Mz n))&&PJ P.kinds (n.toList.map (kindOf a))
def hasB(n P:Nat):Bool:=Nat.testBit n P
def jb(P:iG)(b a:Nat):List Nat:=(List.range b).filter λn=>!hasB a n&&Nat.beq (Nat.land (P.aM.getD n 0) a) (P.aM.getD n 0)
def Hk(n:iG)(P:Nat):Bool:=!Nat.beq (n.kinds.getD P 2) 2
def Jz(n:iG):List Nat->Option Nat
 |[]=>none
 |P::a=>match Hk n P with
  |true=>some P
  |false=>Jz n a
def xW(a:iG)(b c:Nat):Nat->Nat->Nat
 |0,n=>n
 |f+1,n=>match(jb a b n).find? (λP=>!Nat.beq P c)with
  |some P=>xW a b c f (Nat.lor n (bit P))
  |none=>n
def yG(n P:Nat):(bit n).testBit P=decide (n=P):=by
 unfold bit;show(1<<<n).testBit P=_;rw[Nat.one_shiftLeft,Nat.testBit_two_pow]
def pq{d:Type}(a:d->Bool)(b:d->Nat)(P:Nat):∀(c:List d) (n:Nat),(c.foldl (λn e=>match a e with|true=>Nat.lor n (bit (b e))|false=>n) n).testBit P=(n.testBit P||c.any λe=>a e&&b e==P)
 |[],n=>by simp
 |e::c,n=>by
  rw[List.foldl_cons,pq a b P c]
  cases f:a e with
  |false=>simp[f]
  |true=>
   simp only[f,List.any_cons,Bool.true_and];show((n|||bit (b e)).testBit P||_)=_;rw[Nat.testBit_or,yG,Bool.or_assoc]
   congr 2
def yH(a:Oper)(P:Nat):(NO a).testBit P=a.after.any λn=>Region.binds .any n&&n.on==P:=by
 unfold NO;rw[<-Array.foldl_toList,pq (λn=>Region.binds .any n) (λn=>n.on) P];simp
def land_eq:Nat.beq (Nat.land a c) a=true↔∀n,a.testBit n=true->c.testBit n=true:=by
 constructor
 ·intro P n b
  have P:=Nat.eq_of_beq_eq_true P;have:(a&&&c).testBit n=true:=by
   show(Nat.land a c).testBit n=true;rw[P];exact b
  rw[Nat.testBit_and]at this;simp at this;exact this.2
 ·intro P
  have:a&&&c=a:=by
   apply Nat.eq_of_testBit_eq;intro n;rw[Nat.testBit_and]
   cases d:a.testBit n with
   |false=>rfl
   |true=>rw[P n d];rfl
  show Nat.beq (a&&&c) a=true;rw[this];exact Nat.beq_refl a
def PJ.out:∀{l P:List Nat},PJ l P=true->l=P
 |[],[],_=>rfl
 |[],_::_,n=>by cases n
 |_::_,[],n=>by cases n
 |a::l,b::P,n=>by
  simp only[PJ,Bool.and_eq_true]at n;rw[Nat.eq_of_beq_eq_true n.1,PJ.out n.2]
structure Hl (listed:Array Bool) (n N:Nat):Prop where
 size:listed.size=n
 bit:∀i,listed.getD i false=N.testBit i
def Hl.set(n:Hl a1 a c)(d:i<a):Hl (a1.setIfInBounds i true) a (Nat.lor c (aw.bit i)):=by
 refine⟨by simp[n.size],λP=>?_⟩;show _=(c|||aw.bit i).testBit P;rw[Nat.testBit_or,yG,<-n.bit P]
 by_cases b:i=P
 ·subst b
  have:i<a1.size:=by rw[n.size];exact d
  simp[this]
 ·rw[getD_set_ne false b];simp[b]
variable{b9:iG}
def rG(e:b9.ok h U=true)(d:Hl a1 U.size a):Region.ready .any U a1=jb b9 U.size a:=by
 unfold iG.ok at e;simp only[Bool.and_eq_true]at e;have j:=PJ.out e.1.1;unfold Region.ready jb;refine List.filter_congr λn P=>?_;have P:=List.mem_range.1 P;have k:a1.getD n true=a.testBit n:=by
  rw[<-d.bit n];have:n<a1.size:=by rw[d.size];exact P
  simp[this]
 have l:b9.aM.getD n 0=NO U[n]:=by
  rw[j];simp[P]
 rw[k,l,Array.getElem?_eq_getElem P];simp only[Option.map_some,Option.getD_some,hasB]
 congr 1
 rw[Bool.eq_iff_iff,land_eq];rw[Array.all_eq_true_iff_forall_mem];constructor
 ·intro f m i
  rw[yH]at i;obtain⟨b,g,c⟩:=Array.any_eq_true'.1 i;simp only[Bool.and_eq_true,beq_iff_eq]at c;have:=f b g;rw[c.1,d.bit,c.2]at this;simpa using this
 ·intro f b g
  cases c:Region.binds .any b with
  |false=>rfl
  |true=>
   rw[d.bit];have:=f b.on (by rw[yH];exact Array.any_eq_true'.2 ⟨b,g,by simp[c]⟩);simp[this]
def wB(n:b9.ok h U=true)(P:a<U.size):b9.kinds.getD a 2=mW h U a/\Hk b9 a=gq h U a:=by
 unfold iG.ok at n;simp only[Bool.and_eq_true]at n;have c:=PJ.out n.2;have b:b9.kinds.getD a 2=mW h U a:=by
  rw[c];unfold mW;rw[Array.getElem?_eq_getElem P];simp[P]
 refine⟨b,?_⟩;unfold Hk gq;rw[b];generalize mW h U a=k
 match k with
 |0=>rfl
 |1=>rfl
 |2=>rfl
 |k+3=>rfl
def NP{a:Program}{n:Array Oper}{c:iG}(d:c.ok a n=true):∀(b:List Nat),(∀P∈b,P<n.size)->Jz c b=tw a n b
 |[],_=>rfl
 |P::f,e=>by
  unfold Jz tw;rw[(wB d (e P (List.mem_cons_self ..))).2,NP d f λg h=>e g (List.mem_cons_of_mem _ h)]
  try(cases gq a n P<;>rfl)
def wC(n:i∈jb b9 a c):i<a:=List.mem_range.1 (List.mem_filter.1 n).1
def wD{h:Program}{P:Array Oper}{d:iG}(e:d.ok h P=true)(b:Nat):∀(f:Nat) {n:Array Bool} {c:Nat},Hl n P.size c->Hl (mX P b f n) P.size (xW d P.size b f c)
 |0,_,_,a=>a
 |f+1,n,c,a=>by
  unfold mX xW;rw[rG e a]
  cases i:(jb d P.size c).find? (λg=>!Nat.beq g b)with
  |some g=>exact wD e b f (a.set (wC (List.mem_of_find?_eq_some i)))
  |none=>exact a
def wF(a:iG)(P d b:Nat):Bool:=
 (λc:Nat=>!hasB c b&&(jb a P c).all (λn=>Nat.beq n b)&&(List.range P).all λn=>!hasB c n||Hk a n||hasB d n) (xW a P b P d)
def Hl.Yd(n:Hl a1 a c)(P:i<a):a1.getD i true=c.testBit i:=by
 rw[<-n.bit i];have:i<a1.size:=by rw[n.size];exact P
 simp[this]
def Ck(n:b9.ok h U=true)(b:Hl a1 U.size a)(d:c<U.size):wF b9 U.size a c=i_ h U a1 c:=by
 have P:=wD n c U.size b;unfold wF i_;simp only;rw[rG n P,P.Yd d]
 congr 1
 rw[Bool.eq_iff_iff,List.all_eq_true,List.all_eq_true];refine forall_congr' λf=>forall_congr' λe=>?_;rw[(wB n (List.mem_range.1 e)).2,P.bit,b.bit]
 rfl
def SA(P:iG)(a b c:Nat):Bool:=(List.range a).all λn=>hasB (P.WA.getD c 0) n||hasB b n
def UJ(e:b9.ok h U=true)(k:Hl a1 U.size a)(f:c<U.size):SA b9 U.size a c=Region.free .any U a1 c:=by
 unfold iG.ok at e;simp only[Bool.and_eq_true]at e;have l:=PJ.out e.1.2;have b:b9.WA.getD c 0=Mz U c:=by rw[l];simp[f]
 unfold SA Region.free;rw[b,Array.getElem?_eq_getElem f];simp only;rw[Bool.eq_iff_iff,List.all_eq_true,List.all_eq_true];refine forall_congr' λn=>forall_congr' λd=>?_;have d:=List.mem_range.1 d;rw[k.Yd d,Array.getElem?_eq_getElem d];unfold hasB Mz;rw[pq (λn=>Nat.beq n c||(match U[c]?,U[n]? with
  |some H,some j=>j.after.any (λb=>Region.binds .any b&&b.on==c)||H.apart U j
  |_,none=>true
  |none,_=>false)) (λn=>n) n]
 rw[Nat.zero_testBit,Bool.false_or];have P:∀g:Nat->Bool,((List.range U.size).any λb=>g b&&b==n)=g n:=λg=>by
  rw[Bool.eq_iff_iff,List.any_eq_true];constructor
  ·rintro⟨p,_,i⟩
   simp only[Bool.and_eq_true,beq_iff_eq]at i;rw[<-i.2];exact i.1
  ·intro m
   exact⟨n,List.mem_range.2 d,by simp[m]⟩
 rw[P];simp only[Array.getElem?_eq_getElem f,Array.getElem?_eq_getElem d];have o:(Nat.beq n c)=(n==c):=by rw[Bool.eq_iff_iff,Nat.beq_eq,beq_iff_eq]
 rw[o]
 cases(n==c)<;>cases a.testBit n<;>simp
def Zh(P:iG)(n:Bool)(b c a:Nat):Bool:=
 SA P b c a&&(match P.kinds.getD a 2 with
  |0=>true
  |_=>match n with
   |true=>true
   |false=>wF P b c a)
def NQ(P:iG)(n:Bool)(b c a:Nat):Bool:=match n with
 |false=>false
 |true=>match P.kinds.getD a 2 with
  |0=>false
  |_=>!wF P b c a
def MA(P:iG)(n b a:Nat):Bool:=(λc:Nat=>(jb P n c).all (λd=>Nat.beq d a)) (xW P n a n b)
def SB(P:iG)(n a b:Nat)(d:Nat->Bool):Nat->Bool:=match MA P n a b with
 |true=>(λe:Nat=>λc=>d c||hasB e c) (xW P n b n a)
 |false=>λ_=>true
def SC(P:iG)(n:Bool)(a b c:Nat)(d:Nat->Bool):Nat->Bool:=match NQ P n a b c with
 |true=>SB P a b c d
 |false=>d
def SD(n:b9.ok h U=true)(P:Hl a1 U.size a):MA b9 U.size a c=rF U a1 c:=by
 have b:=wD n c U.size P;unfold MA rF;simp only;rw[rG n b]
def UK(n:b9.ok h U=true)(P:Hl a1 U.size a):SB b9 U.size a c f6=yF U a1 c f6:=by
 have b:=wD n c U.size P;unfold SB yF;rw[SD n P]
 cases rF U a1 c
 ·rfl
 ·simp only
  funext j
  rw[b.bit]
  rfl
def tx(j:Program)(h:cy)(P:Array Oper)(b:iG)(g:Nat)(n:Bool)(k:Nat->Prop)(m:List PanicEntry->List Deferred->World->Prop)(l:cX->List Deferred->World->Prop):(Nat->Bool)->Nat->Nat->cX->List Deferred->World->Prop
 |W,0,c,a,d,e=>fK (jb b g c).isEmpty (l a d e)
 |W,o+1,c,a,d,e=>match Jz b (jb b g c)with
  |some f=>fK (Zh b n g c f) (match P[f]? with
   |none=>False
   |some i=>ph P i h a (λa=>UI j h i (NQ b n g c f) k (λa=>tx j h P b g n k m l (SC b n g c f W) o (Nat.lor c (bit f)) a d e) a e)
     (λa=>tx j h P b g n k m l W o (Nat.lor c (bit f)) (cC a i.dst undef) d e))
  |none=>match jb b g c with
   |[]=>l a d e
   |q=>pO q λf=>match P[f]? with
    |none=>False
    |some i=>ph P i h a (λa=>UG j P h i (λr _ _ d e=>match r with
     | .panic s=>m s d e
     |_=>False) (λa d p=>VI (n&&W f) k e p (tx j h P b g n k m l W o (Nat.lor c (bit f)) a d p)) a d e)
     (λa=>tx j h P b g n k m l W o (Nat.lor c (bit f)) (cC a i.dst undef) d e)
def yI{b c:Nat->Prop}:∀{a:List Nat},(∀n∈a,b n=c n)->pO a b=pO a c
 |[],_=>rfl
 |[n],P=>by
  unfold pO;exact P n (List.mem_cons_self ..)
 |n::f::g,P=>by
  unfold pO;rw[P n (List.mem_cons_self ..),yI λd e=>P d (List.mem_cons_of_mem _ e)]
def rH{f:Program}{k:cy}{n:Array Oper}{g:iG}(h:g.ok f n=true){a:Bool}{l:Nat->Prop}{m:List PanicEntry->List Deferred->World->Prop}{o:cX->List Deferred->World->Prop}:∀(W:Nat->Bool) (j:Nat) {P:Array Bool} {d:Nat},Hl P n.size d->
  tx f k n g n.size a l m o W j d=wA f k n a l m o W j P
 |W,0,P,d,i=>by
  funext e ds w
  unfold tx wA;rw[rG h i]
 |W,j+1,P,d,i=>by
  have p:∀W b,b<n.size->tx f k n g n.size a l m o W j (Nat.lor d (bit b))=wA f k n a l m o W j (P.setIfInBounds b true):=λW b c=>rH h W j (i.set c);have r:Jz g (jb g n.size d)=tw f n (jb g n.size d):=NP h _ λb c=>wC c
  funext e ds w
  unfold tx wA;rw[rG h i,r]
  cases s:tw f n (jb g n.size d)with
  |some b=>
   have c:b<n.size:=wC (uN s).1;have t:Zh g a n.size d b=YE f n a P b:=by
    unfold Zh YE;rw[UJ h i c,(wB h c).1,Ck h i c]
    try(cases mW f n b<;>cases a<;>rfl)
   have q:NQ g a n.size d b=pk f n a P b:=by
    unfold NQ pk;rw[(wB h c).1,Ck h i c]
   have u:SC g a n.size d b W=wy f n a P b W:=by
    unfold SC wy;rw[q,UK h i]
   simp only[t,q,u,p _ b c]
   try(cases n[b]? <;>rfl)
  |none=>
   cases v:jb g n.size d with
   |nil=>rfl
   |cons x y=>
    simp only;refine yI λb c=>?_;have c:b<n.size:=wC (by rw[v];exact c);simp only[p _ b c]
    try(cases n[b]? <;>rfl)
def VJ(P:List (Nat×iG))(n:Nat):Option iG:=match P with
 |[]=>none
 |(a,b)::c=>match Nat.beq a n with
  |true=>some b
  |false=>VJ c n
def Hl.init(n:Nat):Hl (Array.replicate n false) n 0:=⟨by simp,λa=>by
 rw[Nat.zero_testBit]
 by_cases P:a<n
 ·simp[P]
 ·simp[P]⟩
def key:Code->Option Nat
 | .region id _ _=>some id
 | .seq P a=>match key P with
  |some b=>some b
  |none=>key a
 | .cond _ P a=>match key P with
  |some b=>some b
  |none=>key a
 | .block _ n=>key n
 | .loop n=>key n
 | .scope n=>key n
 |_=>none
def ER:List Oper->List Nat
 |[]=>[]
 |P::n=>match P.dst with
  |some a=>a::ER n
  |none=>ER n
def writes:Code->List Nat
 | .region _ P _=>ER P.toList
 | .seq a b=>writes a++writes b
 | .cond _ a b=>writes a++writes b
 | .block _ n=>writes n
 | .loop n=>writes n
 | .scope n=>writes n
 |_=>[]
def lx{P:List Oper}(n:R∈P)(b:R.dst=some a):a∈ER P:=by
 induction P with
 |nil=>cases n
 |cons d e c=>
  unfold ER
  cases n with
  |head=>rw[b];exact List.mem_cons_self ..
  |tail _ n=>split<;>simp[c n]
structure jF where
 loops:List (Nat×List (Nat×Value))
 Se:List (Nat×List (Nat×Value))
 keeps:List Nat
 Sd:List Nat
 Ye:List (Nat×iG)
def PK(P:List (Nat×List (Nat×Value)))(n:Option Nat):Option (List (Nat×Value)):=match n with
 |none=>none
 |some n=>match P with
  |[]=>none
  |(a,b)::c=>match Nat.beq a n with
   |true=>some b
   |false=>PK c (some n)
def DV(P:List Nat)(n:Nat):Bool:=match P with
 |[]=>false
 |d::a=>match Nat.beq d n with
  |true=>true
  |false=>DV a n
def fw(P:List Nat):cX->(cX->Prop)->Prop
 |[],n=>n []
 |(a,c)::b,n=>match DV P a with
  |true=>fw P b n
  |false=>fw P b λd=>n ((a,c)::d)
def Fn:List Value->Type->Type
 |[],n=>n
 |z::P,n=>match z with
  | .int _ _=>Int->Fn P n
  | .bool _=>Bool->Fn P n
  | .string _=>ByteArray->Fn P n
  | .slice _ _ _=>Option Addr->Nat->Nat->Fn P n
  | .pointer (some _)=>Nat->Nat->Fn P n
  | .pointer none=>Option Addr->Fn P n
  | .map _=>Option Nat->Fn P n
  |_=>Value->Fn P n
def ap:(P:List Value)->Fn P (World->Prop)->List Value->World->Prop
 |[],n,_,a=>n a
 |z::P,n,b,a=>match b with
  |[]=>False
  |v::b=>match z,n with
   | .int e _,n=>match v with
    | .int f c=>fK (decide (f=e)) (ap P (n c) b a)
    |_=>False
   | .bool _,n=>match v with
    | .bool d=>ap P (n d) b a
    |_=>False
   | .string _,n=>match v with
    | .string g=>ap P (n g) b a
    |_=>False
   | .slice _ _ _,n=>match v with
    | .slice h c i=>ap P (n h c i) b a
    |_=>False
   | .pointer (some _),n=>match v with
    | .pointer (some ⟨d,j,none⟩)=>ap P (n d j) b a
    |_=>False
   | .pointer none,n=>match v with
    | .pointer k=>ap P (n k) b a
    |_=>False
   | .map _,n=>match v with
    | .map l=>ap P (n l) b a
    |_=>False
   | .float _ _,n=>ap P (n v) b a
   | .complex _ _ _,n=>ap P (n v) b a
   | .chan _,n=>ap P (n v) b a
   | .func _ _ _,n=>ap P (n v) b a
   | .nilFunc,n=>ap P (n v) b a
   | .iface _ _,n=>ap P (n v) b a
   | .nilIface,n=>ap P (n v) b a
   | .agg _,n=>ap P (n v) b a
   | .tuple _,n=>ap P (n v) b a
def mY:List Value->(List Value->Prop)->Prop
 |[],P=>P []
 |z::a,P=>match z with
  | .int d _=>∀b,mY a λn=>P (.int d b::n)
  | .bool _=>∀c,mY a λn=>P (.bool c::n)
  | .string _=>∀e,mY a λn=>P (.string e::n)
  | .slice _ _ _=>∀f b g,mY a λn=>P (.slice f b g::n)
  | .pointer (some _)=>∀c h,mY a λn=>P (.pointer (some ⟨c,h,none⟩)::n)
  | .pointer none=>∀i,mY a λn=>P (.pointer i::n)
  | .map _=>∀j,mY a λn=>P (.map j::n)
  |_=>∀k,mY a λn=>P (k::n)
def ap.all:∀{f:List Value} {h:Fn f (World->Prop)} {d:List Value} {i:World} {φ:List Value->Prop},d.length=f.length->ap f h d i->mY f φ->φ d
 |[],h,d,i,φ,g,_,c=>by
  cases d with
  |nil=>exact c
  |cons e d=>simp at g
 |z::f,h,d,i,φ,g,n,c=>by
  cases d with
  |nil=>simp at g
  |cons e d=>
   have a:d.length=f.length:=by simpa using g
   cases z
   case pointer r=>
    cases r with
    |none=>
     simp only[mY]at c
     cases e<;>try exact n.elim
     rename_i P;exact ap.all (φ:=λb=>φ (.pointer P::b)) a n (c P)
    |some _=>
     simp only[mY]at c
     cases e<;>try exact n.elim
     rename_i P
     cases P with
     |none=>exact n.elim
     |some P=>
      obtain⟨j,l,m⟩:=P
      cases m with
      |some m=>exact n.elim
      |none=>exact ap.all (φ:=λb=>φ (.pointer (some ⟨j,l,none⟩)::b)) a n (c j l)
   all_goals simp only[mY]at c
   case int k _=>
    cases e<;>try exact n.elim
    rename_i s o;obtain⟨t,n⟩:=fK.out n;obtain rfl:=of_decide_eq_true t;exact ap.all (φ:=λb=>φ (.int s o::b)) a n (c o)
   case bool=>
    cases e<;>try exact n.elim
    rename_i P;exact ap.all (φ:=λb=>φ (.bool P::b)) a n (c P)
   case string=>
    cases e<;>try exact n.elim
    rename_i P;exact ap.all (φ:=λb=>φ (.string P::b)) a n (c P)
   case slice=>
    cases e<;>try exact n.elim
    rename_i P p q;exact ap.all (φ:=λb=>φ (.slice P p q::b)) a n (c P p q)
   case map=>
    cases e<;>try exact n.elim
    rename_i P;exact ap.all (φ:=λb=>φ (.map P::b)) a n (c P)
   all_goals exact ap.all (φ:=λb=>φ (e::b)) a n (c e)
def JA:DV b5 a=true↔a∈b5:=by
 induction b5 with
 |nil=>simp[DV]
 |cons n b P=>
  unfold DV
  cases h:Nat.beq n a with
  |true=>
   have:=Nat.eq_of_beq_eq_true h;simp[this]
  |false=>
   have:n≠a:=by rintro rfl;simp at h
   simp only[P,List.mem_cons];constructor
   ·exact .inr
   ·rintro(rfl|h)
    ·exact absurd rfl this
    ·exact h
def fw.out{d:List Nat}:∀{k:cX} {f:cX->Prop},fw d k f->∃b,(∀P n,n∉d->get P b n=get P k n)/\(∀P n,n∈d->get P b n=P n)/\f b
 |[],f,a=>⟨[],λ_ _ _=>rfl,λ_ _ _=>rfl,a⟩
 |(h,l)::m,f,a=>by
  unfold fw at a;split at a
  ·rename_i g
   have e:h∈d:=JA.1 g;obtain⟨b,i,j,a⟩:=fw.out a;refine⟨b,λP n c=>?_,j,a⟩;rw[i P n c,eH,if_neg (by rintro rfl;exact c e)]
  ·rename_i g
   have e:h∉d:=λe=>by rw[JA.2 e]at g;cases g
   obtain⟨b,i,j,a⟩:=fw.out a;refine⟨(h,l)::b,λP n c=>?_,λP n c=>?_,a⟩
   ·rw[eH,eH,i P n c]
   ·rw[eH,if_neg (by rintro rfl;exact e c),j P n c]
def je:List (Nat×Value)->List Value
 |[]=>[]
 |(_,n)::P=>n::je P
def Ab(n:cy)(P:cX):List (Nat×Value)->List Value
 |[]=>[]
 |(a,_)::b=>get n P a::Ab n P b
def yJ:List (Nat×Value)->List Value->cX->cX
 |(P,_)::a,b::c,n=>(P,b)::yJ a c n
 |_,_,n=>n
def kh(n:cy)(P:cX):∀a,(Ab n P a).length=(je a).length
 |[]=>rfl
 |(_,_)::b=>by simp[Ab,je,kh n P b]
def ES(a:cy)(P:Nat->Value)(b:cX):∀(f:List (Nat×Value)) (n:Nat),(∀g,get a b g=P g)->get a (yJ f (f.map λc=>P c.1) b) n=P n
 |[],n,d=>d n
 |(h,j)::e,n,d=>by
  show get a ((h,P h)::yJ e (e.map λc=>P c.1) b) n=_;rw[eH];split
  ·rename_i i;rw[i]
  ·exact ES a P b e n d
def Ar(n:cy)(P:cX):∀a,Ab n P a=a.map λb=>get n P b.1
 |[]=>rfl
 |(_,_)::c=>by simp[Ab,Ar n P c]
def Cm(n P:List Deferred)(a:Prop):Prop:=match n,P with
 |[],[]=>a
 |n,P=>n=P/\a
def Cm.out{n a:List Deferred}(P:Cm n a N):n=a/\N:=by
 unfold Cm at P;split at P
 ·exact⟨rfl,P⟩
 ·exact P
def Cn(d:cy->cX->List Deferred->World->Prop)(c:iY):iY:=λe n P a b=>match e with
 | .normal=>d n P a b
 | .exit id=>c (.exit id) n P a b
 | .goto f=>c (.goto f) n P a b
 | .ret=>c .ret n P a b
 | .panic g=>c (.panic g) n P a b
 | .outgrown=>False
def xX(id:Nat)(n:iY):iY:=λe P a b c=>match e with
 | .exit d=>match Nat.beq d id with
  |true=>n .normal P a b c
  |false=>n (.exit d) P a b c
 | .normal=>n .normal P a b c
 | .goto f=>n (.goto f) P a b c
 | .ret=>n .ret P a b c
 | .panic g=>n (.panic g) P a b c
 | .outgrown=>False
def Hm(n:iY):iY:=λx P a b c=>match x with
 | .goto _=>False
 |x=>n x P a b c
def D(g:Program)(h:jF):Code->iY->cy->cX->List Deferred->World->Prop
 | .skip,d,b,n,P,a=>d .normal b n P a
 | .label _,d,b,n,P,a=>d .normal b n P a
 | .exit id,d,b,n,P,a=>d (.exit id) b n P a
 | .ret,d,b,n,P,a=>d .ret b n P a
 | .region id c m,d,b,n,P,a=>match m with
  |false=>Cf g b c d c.toList (λn P a=>d .normal b n P a) n P a
  |true=>match NN g c.toList with
   |false=>fK (Region.lexB .any c) (tv g b c c.toList (λn=>∀e,bH a e->d .normal b n P e) n a)
   |true=>fK (Region.noSelect c) (match VJ h.Ye id with
    |none=>match DV h.keeps id with
     |true=>∀e,bH a e->∃f:Nat->Prop,wA g b c true f (λj P a=>∀b n,d (.panic j) b n P a) (λn P a=>d .normal b n P a) (λ_=>!DV h.Sd id) c.size (Array.replicate c.size false) n P e
     |false=>∀e,bH a e->wA g b c false (λ_=>False) (λj P a=>∀b n,d (.panic j) b n P a) (λn P a=>d .normal b n P a) (λ_=>true) c.size (Array.replicate c.size false) n P e
    |some s=>fK (s.ok g c) (match DV h.keeps id with
     |true=>∀e,bH a e->∃f:Nat->Prop,tx g b c s c.size true f (λj P a=>∀b n,d (.panic j) b n P a) (λn P a=>d .normal b n P a) (λ_=>!DV h.Sd id) c.size 0 n P e
     |false=>∀e,bH a e->tx g b c s c.size false (λ_=>False) (λj P a=>∀b n,d (.panic j) b n P a) (λn P a=>d .normal b n P a) (λ_=>true) c.size 0 n P e))
 | .seq o p,d,b,n,P,a=>match PK h.Se (key p)with
  |none=>D g h o (Cn (λb n P a=>D g h p d b n P a) d) b n P a
  |some f=>∃w:Fn (je f) (World->Prop),D g h o (Cn (λk t l e=>Cm l P (ap (je f) w (Ab k t f) e)) d) b n P a/\
    fw (writes o) n λu=>mY (je f) λq=>∀(k:cy) (e:World),ap (je f) w q e->D g h p d k (yJ f q u) P e
 | .cond i o p,d,b,n,P,a=>match ev b n i with
  | .bool y=>al y (D g h o d b n P a) (D g h p d b n P a)
  |_=>False
 | .block id i,d,b,n,P,a=>D g h i (xX id d) b n P a
 | .scope i,d,b,n,P,a=>D g h i (Hm d) b n P a
 | .loop i,d,b,n,P,a=>match PK h.loops (key i)with
  |none=>False
  |some f=>∃v:Nat->Fn (je f) (World->Prop),(∃r,ap (je f) (v r) (Ab b n f) a)/\
    ∀r,fw (writes i) n λu=>mY (je f) λq=>∀(k:cy) (e:World),ap (je f) (v r) q e->
     D g h i (Cn (λk t l e=>Cm l P (∃x,x<r/\ap (je f) (v x) (Ab k t f) e)) d) k (yJ f q u) P e
 |_,_,_,_,_,_=>False
def du.mono{e f:cy}{g h:cX}{i d:List Nat}{j k:iY}(o:du a f h i j e9 K b)(p:∀n,n∈i->n∈d)(q:∀n,n∉d->get f h n=get e g n)(r:∀P c l b,j e9 P c l b->k e9 P c l b):du a e g d k e9 K b:=by
 obtain⟨P,c,s,t,u⟩:=o;exact⟨P,c,s,λn m=>(t n (λv=>m (p n v))).trans (q n m),r _ _ _ _ u⟩
def JB{e c:cy}{P:Value}{a:Nat}:∀{d:cX},get e d a=P->c a=P->get c d a=P
 |[],_,n=>n
 |(g,h)::i,n,f=>by
  rw[eH]at n⊢;split
  ·rename_i b;rw[if_pos b]at n;exact n
  ·rename_i b;rw[if_neg b]at n;exact JB n f
def wG{n:Nat}{B0:cy}{f b:cX}(d:List (Nat×Value))(g:K.tmps.size=n)(h:∀a P,P∉b5->get a b P=get a f P)(i:∀a P,P∈b5->get a b P=a P)(j:∀P,P∉b5->K.tmps.getD P undef=get B0 f P):
  Rel n (λP=>K.tmps.getD P undef) (yJ d (d.map λk=>K.tmps.getD k.1 undef) b) K:=by
 refine⟨g,λP=>(ES _ (λP=>K.tmps.getD P undef) b d P λc=>?_).symm⟩
 by_cases e:c∈b5
 ·rw[i _ c e]
 ·rw[h _ c e]
  exact JB (j c e).symm rfl
def om(b:Rel a V Q K):∀n:List (Nat×Value),Ab V Q n=n.map λP=>K.tmps.getD P.1 undef:=λn=>by
 rw[Ar];exact List.map_congr_left λP _=>(b.slot P.1).symm
def lj{e:Program}{b:Array Oper}{f:World->Prop}{g h:Act->Prop}(c:∀n,g n->h n):∀(i:List Oper) (n:Act),wpQuiet e b f g i n->wpQuiet e b f h i n
 |[],n,a=>c n a
 |j::P,n,a=>by
  unfold wpQuiet at a⊢;split
  ·rename_i d
   rw[if_pos d]at a;exact Oper.quiet_mono (lj c P) a
  ·rename_i d
   rw[if_neg d]at a;exact lj c P _ a
variable{e6:jF}
def WB(O:h.follows .mixedOrders=true):∀(x:Code) (m:iY) (d:cy) (b:cX) (g:Act) (f:World),
  (∀P,P∈writes x->P<a)->(∀H d b z f,m H d b z f->H≠.outgrown)->Rel a d b g->D h e6 x m d b g.defers f->x.wp h (du a d b (writes x) m) g f:=by
 intro x
 induction x with
 |skip=>intro m d b g f _ _ j n;exact wp_skip ⟨d,b,j,λ_ _=>rfl,n⟩
 |label Q=>intro m d b g f _ _ j n;exact wp_label ⟨d,b,j,λ_ _=>rfl,n⟩
 |exit id=>intro m d b g f _ _ j n;exact wp_exit ⟨d,b,j,λ_ _=>rfl,n⟩
 |ret=>intro m d b g f _ _ j n;exact wp_ret ⟨d,b,j,λ_ _=>rfl,n⟩
 |goto Q=>intro m d b g f _ _ j n;exact n.elim
 |refuse sq=>intro m d b g f _ _ j n;exact n.elim
 |scope x S=>
  intro m d b g f w A j n;refine wp_scope_straight (Code.wp_mono ?_ (S (Hm m) d b g f w (by intro o d b z f c L;subst L;exact A _ _ _ _ _ c rfl) j n));intro o p q k;obtain⟨t,s,u,v,c⟩:=k
  cases o with
  |goto Q=>exact c.elim
  |normal=>exact⟨t,s,u,v,c⟩
  |exit id=>exact⟨t,s,u,v,c⟩
  |ret=>exact⟨t,s,u,v,c⟩
  |panic I=>exact⟨t,s,u,v,c⟩
  |outgrown=>exact⟨t,s,u,v,c⟩
 |rangeFunc d4 ps H Z d5 d6=>intro m d b g f _ _ j n;exact n.elim
 |region id l J=>
  intro m d b g f w _ j n;have hl:∀T∈l.toList,∀U,T.dst=some U->U<a/\U∈writes (.region id l J):=λT R U hd=>⟨w U (lx R hd),lx R hd⟩
  have a1:∀a3 P,kf l a3=some P->P<a:=by
   intro a3 P V;unfold kf at V
   cases R:l[a3]? with
   |none=>rw[R]at V;simp at V
   |some T=>
    rw[R]at V;have c2:T∈l.toList:=by
     have:=Array.getElem?_eq_some_iff.1 R;obtain⟨b2,rfl⟩:=this;simp
    exact(hl T c2 P V).1
  cases J with
  |false=>exact wp_region_list (Aq a1 l.toList b g f hl j (λ_ _=>rfl) n)
  |true=>
   unfold D at n;simp only at n;split at n
   ·obtain⟨hB,n⟩:=fK.out n
    refine wp_region_quiet (C:=bH f) O hB ⟨1,rfl⟩ ?_;have:=rD (B0:=d) (e0:=b) (W:=writes (.region id l true)) a1 l.toList b g hl j (λ_ _=>rfl) n;refine lj ?_ _ _ this;rintro p ⟨e',a4,a5,c3,c⟩ q a6;exact⟨d,e',a4,c3,by rw[a5];exact c q a6⟩
   ·obtain⟨c4,n⟩:=fK.out n
    have B:∀(K:Bool) (r:Nat->Prop) (a7:Nat->Bool),wA h d l K r (λI z f=>∀d b,m (.panic I) d b z f) (λb z f=>m .normal d b z f) a7 l.size (Array.replicate l.size false) b g.defers (f.drewN 1)->(Code.region id l true).wp h (du a d b (writes (.region id l true)) m) g f:=λK r a7 n=>
     wp_region_any O (pg (λI g f n=>Cj.post I g f n) (λ_ _ n=>n) _ _ _ _ _ (mE (B0:=d) (e0:=b) (W:=writes (.region id l true)) a1 c4 hl a7 _ _ b g _ j (λ_ _=>rfl) n))
    split at n
    ·split at n
     ·obtain⟨r,n⟩:=n _ ⟨1,rfl⟩
      exact B _ r _ n
     ·exact B _ _ _ (n _ ⟨1,rfl⟩)
    ·obtain⟨hM,n⟩:=fK.out n
     split at n
     ·obtain⟨r,n⟩:=n _ ⟨1,rfl⟩
      rw[rH hM _ _ (Hl.init _)]at n;exact B _ r _ n
     ·have n:=n _ ⟨1,rfl⟩
      rw[rH hM _ _ (Hl.init _)]at n;exact B _ _ _ n
 |seq H Z C E=>
  intro m d b g f w A j n;have b3:∀P,P∈writes H->P<a:=λP i=>w P (List.mem_append.2 (.inl i));have b4:∀P,P∈writes Z->P<a:=λP i=>w P (List.mem_append.2 (.inr i));have e:∀(W:cy->cX->List Deferred->World->Prop) (o:Exit) (p:Act) (q:World),o≠.normal->du a d b (writes H) (Cn W m) o p q->du a d b (writes (H.seq Z)) m o p q:=by
   intro W o p q c5 k;refine k.mono (λP i=>List.mem_append.2 (.inl i)) (λ_ _=>rfl) λt s d7 w1 c=>?_
   cases o with
   |normal=>exact absurd rfl c5
   |outgrown=>exact c.elim
   |_=>exact c
  have b5:∀(W:cy->cX->List Deferred->World->Prop) o d b z f,Cn W m o d b z f->o≠.outgrown:=by
   intro W o d b z f c L;subst L;exact c.elim
  unfold D at n;split at n
  ·have hx:=C _ d b g f b3 (b5 _) j n
   refine wp_seq (Code.wp_mono ?_ hx);intro o p q k
   cases o with
   |normal=>
    obtain⟨t,s,u,v,c⟩:=k;have hy:=E m t s p q b4 A u c;refine Code.wp_mono (λo b6 b7 k=>?_) hy;refine k.mono (λP i=>List.mem_append.2 (.inr i)) (λP i=>v P λO=>i (List.mem_append.2 (.inl O))) λ_ _ _ _ c=>c
   |exit id=>exact e _ _ _ _ (by simp) k
   |goto Q=>exact e _ _ _ _ (by simp) k
   |ret=>exact e _ _ _ _ (by simp) k
   |panic I=>exact e _ _ _ _ (by simp) k
   |outgrown=>exact e _ _ _ _ (by simp) k
  ·rename_i r hS
   obtain⟨d8,n,a8⟩:=n;obtain⟨s,h1,h2,a8⟩:=fw.out a8;have hx:=C _ d b g f b3 (b5 _) j n;refine wp_seq (Code.wp_mono ?_ hx);intro o p q k
   cases o with
   |normal=>
    obtain⟨M,N,y,a0,c⟩:=k;obtain⟨a2,hJ⟩:=Cm.out c;have hv:=om y r;have a9:=kh M N r;have b8:=ap.all a9 hJ a8 (λP=>p.tmps.getD P undef) q hJ;rw[hv,<-a2]at b8;have b9:=wG (n:=a) r y.size h1 h2 (B0:=d) (λP i=>(y.slot P).trans (a0 P i));have hy:=E m _ _ p q b4 A b9 b8;refine Code.wp_mono (λo b6 b7 k=>?_) hy;refine k.mono (λP i=>List.mem_append.2 (.inr i)) (λP i=>?_) λ_ _ _ _ c=>c;rw[<-b9.slot];exact(y.slot P).trans (a0 P λO=>i (List.mem_append.2 (.inl O)))
   |exit id=>exact e _ _ _ _ (by simp) k
   |goto Q=>exact e _ _ _ _ (by simp) k
   |ret=>exact e _ _ _ _ (by simp) k
   |panic I=>exact e _ _ _ _ (by simp) k
   |outgrown=>exact e _ _ _ _ (by simp) k
 |cond x H Z C E=>
  intro m d b g f w A j n;unfold D at n;split at n
  ·rename_i c6 F
   refine wp_cond_split (t:=c6) (by rw[j.eval];exact F) (λi=>?_) (λhf=>?_)
   ·subst i
    refine Code.wp_mono (λo p q k=>?_) (C m d b g f (λP i=>w P (List.mem_append.2 (.inl i))) A j n);exact k.mono (λP i=>List.mem_append.2 (.inl i)) (λ_ _=>rfl) λ_ _ _ _ c=>c
   ·subst hf
    refine Code.wp_mono (λo p q k=>?_) (E m d b g f (λP i=>w P (List.mem_append.2 (.inr i))) A j n);exact k.mono (λP i=>List.mem_append.2 (.inr i)) (λ_ _=>rfl) λ_ _ _ _ c=>c
  ·exact n.elim
 |block id x S=>
  intro m d b g f w A j n;refine wp_block (Code.wp_mono ?_ (S (xX id m) d b g f w (by intro o d b z f c L;subst L;exact c.elim) j n));intro o p q k;obtain⟨t,s,u,v,c⟩:=k
  cases o with
  |exit X=>
   show(if X=id then _ else _);simp only[xX]at c
   cases F:Nat.beq X id with
   |true=>
    rw[F]at c;rw[if_pos (Nat.eq_of_beq_eq_true F)];exact⟨t,s,u,v,c⟩
   |false=>
    rw[F]at c;rw[if_neg (by rintro rfl;simp at F)];exact⟨t,s,u,v,c⟩
  |normal=>exact⟨t,s,u,v,c⟩
  |goto Q=>exact⟨t,s,u,v,c⟩
  |ret=>exact⟨t,s,u,v,c⟩
  |panic I=>exact⟨t,s,u,v,c⟩
  |outgrown=>exact c.elim
 |loop x S=>
  intro m d b g f w A j n;unfold D at n;split at n
  ·exact n.elim
  ·rename_i r hS
   obtain⟨c7,⟨m0,h0⟩,c8⟩:=n;refine wp_loop_ghost (λb0 p q=>p.tmps.size=a/\(∀P,P∉writes x->p.tmps.getD P undef=get d b P)/\p.defers=g.defers/\
    ap (je r) (c7 b0) (r.map λb1=>p.tmps.getD b1.1 undef) q) m0 ⟨j.size,λP _=>j.slot P,rfl,by rw[<-om j r];exact h0⟩ ?_
   rintro b0 p q ⟨c9,c0,a2,hI⟩;obtain⟨s,h1,h2,d0⟩:=fw.out (c8 b0);have a9:(r.map λb1=>p.tmps.getD b1.1 undef).length=(je r).length:=by rw[<-kh d b r,Ar];simp
   have F:=ap.all a9 hI d0 (λP=>p.tmps.getD P undef) q hI;have c1:=wG (n:=a) r c9 h1 h2 c0;rw[<-a2]at F;have d1:=S _ _ _ p q w (by intro o d b z f c L;subst L;exact c.elim) c1 F;refine Code.wp_mono ?_ d1;intro o b6 b7 k;obtain⟨M,N,y,a0,c⟩:=k;have Y:∀P,P∉writes x->get M N P=get d b P:=λP i=>(a0 P i).trans ((c1.slot P).symm.trans (c0 P i))
   cases o with
   |normal=>
    obtain⟨d2,m',b2,d3⟩:=Cm.out c;refine⟨m',b2,y.size,λP i=>(y.slot P).trans (Y P i),d2.trans a2,?_⟩;rw[<-om y r];exact d3
   |outgrown=>exact c.elim
   |exit id=>exact⟨M,N,y,Y,c⟩
   |goto Q=>exact⟨M,N,y,Y,c⟩
   |ret=>exact⟨M,N,y,Y,c⟩
   |panic I=>exact⟨M,N,y,Y,c⟩
def JC(n:Program):List ResultVar->cy->cX->World->(List Value->Prop)->Prop
 |[],_,_,_,P=>P []
 |g::f,a,b,d,P=>match g with
  | .tmp c=>JC n f a b d λe=>P (get a b c::e)
  | .cell h c=>fK (known n c) (jO n c (get a b h) d λi=>JC n f a b d λe=>P (i::e))
def oneOf(n:List Value):Value:=match n with
 |[P]=>P
 |n=>.tuple n.toArray
def Lv(c:Program)(n:World->Prop)(e:List PanicEntry->World->Prop):List Deferred->FrameMode->World->Prop
 |[],.returning,a=>n a
 |[],.panicking P,a=>e P a
 |[],.run,_=>False
 |d::g,h,a=>h≠.run/\∃f b,d.target= .fn (.func f) b/\enters c f=true/\
   CallsD c f (d.args++b) h a λk i j=>Sw k (λ_=>Lv c n e g (settle i) j) (λl=>Lv c n e g (raised i l) j)
def gR(P:Program)(b:Func)(c:cy)(d:cX)(a:Ending->World->Prop)(e:List Deferred)(f:FrameMode)(n:World):Prop:=
 Lv P (λn=>JC P b.results.toList c d n λg=>a (.returned (oneOf g)) n) (λh n=>a (.panicked h) n) e f n
def Uf(n:Program)(P:Func)(a:Ending->World->Prop):iY:=λf b c d e=>match f with
 | .normal=>gR n P b c a d .returning e
 | .ret=>gR n P b c a d .returning e
 | .panic g=>gR n P b c a d (.panicking g) e
 |_=>False
def Co(n:Array Value):ResultVar->Sem Value
 | .tmp P=>pure (n.getD P undef)
 | .cell a P=>do loadVar P (<-asAddr (n.getD a undef))
def rJ{c:Program}{k:cy}{l:cX}{p:Nat}{b:Act}(d:Rel p k l b){a:World}:∀{g:List ResultVar} {e:List Value->Prop},JC c g k l a e->
  ∃f,(g.mapM (Co b.tmps)).run c a=Result.ok f a/\e f
 |[],e,n=>⟨[],by rw[List.mapM_nil];rfl,n⟩
 |q::g,e,n=>by
  unfold JC at n
  cases q with
  |tmp h=>
   obtain⟨f,i,n⟩:=rJ d n;refine⟨_,?_,n⟩;rw[List.mapM_cons];simp only[Co,Sem.run_bind,Sem.run_pure,Result.andThen_ok,i,d.slot]
  |cell j h=>
   obtain⟨r,n⟩:=fK.out n;obtain⟨s,t,n⟩:=jO.out (known.out r).1 n;obtain⟨f,i,n⟩:=rJ d n;refine⟨_,?_,n⟩;rw[List.mapM_cons];have P:=t a rfl;rw[<-d.slot]at P;have:(Co b.tmps (.cell j h)).run c a= .ok s a:=by
    unfold Co
    cases m:b.tmps.getD j undef<;>rw[m]at P<;>simp only[Instr.loadAt,Instr.sureAddr,stuck,Sem.run_bind,Sem.run_halt,Result.andThen,reduceCtorEq]at P
    rename_i o
    cases o with
    |none=>simp at P
    |some o=>
          show(do loadVar h (<-asAddr (b.tmps.getD j undef)):Sem Value).run c a=_;rw[m];simpa[asAddr]using P
   simp only[Sem.run_bind,this,Sem.run_pure,Result.andThen_ok,i]
def rK(P:(a9.results.toList.mapM (Co K.tmps)).run h b=Result.ok a5 b):(results a9 K.tmps).run h b= .ok (oneOf a5) b:=by
 have a:(a9.results.mapM (Co K.tmps)).run h b=Result.ok a5.toArray b:=by
  rw[Array.mapM_eq_mapM_toList,Sem.run_map,P]
  rfl
 have c:(results a9 K.tmps)=(a9.results.mapM (Co K.tmps)>>=λn=>pure (if P:n.size=1 then n[0]else Value.tuple n)):=by
   unfold results
   congr 2
 rw[c];simp only[Sem.run_bind,a,Result.andThen_ok,Sem.run_pure]
 congr 1
 match a5 with
 |[]=>rfl
 |[v]=>rfl
 |v::d::e=>
  rw[dif_neg (by simp)]
  rfl
def oq{h:Program}{i:Func}{j:cy}{k:cX}{r:Nat}{l:Act}(e:Rel r j k l){m:Ending->World->Prop}:∀(a:List Deferred) (f:FrameMode) (P:World),
  gR h i j k m a f P->Leaves h i l.tmps m a f P
 |[],.returning,P,n=>by
  obtain⟨C,s,n⟩:=rJ e n;exact⟨_,rK s,n⟩
 |[],.panicking t,P,n=>n
 |[],.run,P,n=>n.elim
 |d::a,f,P,n=>by
  obtain⟨u,o,b,p,v,w⟩:=n;refine⟨u,.func o,b,o,d.args++b,p,?_,?_⟩
  ·rw[p];simp only[invoke];exact iZ v _ _
  ·intro x cs y
   obtain⟨q,z,A,B,g,c⟩:=w x cs y;refine⟨q,z,A,B,?_,c⟩
   cases q with
   |returned E=>exact oq e a _ _ g
   |panicked t=>exact oq e a _ _ g
   |outgrown=>exact g.elim
def fB:Nat->List Value->cX
 |_,[]=>[]
 |n,P::a=>(n,P)::fB (n+1) a
def pt:∀(a:List Value) (n P:Nat),get (λ_=>undef) (fB n a) P=if n<=P then a.getD (P-n) undef else undef
 |[],n,P=>by simp[fB,get]
 |v::d,n,P=>by
  rw[fB,eH,pt d (n+1) P]
  by_cases b:n=P
  ·subst b;simp
  ·rw[if_neg b]
   by_cases c:n+1<=P
   ·rw[if_pos c,if_pos (by omega),show P-n=(P-(n+1))+1 from by omega];rfl
   ·rw[if_neg c,if_neg (by omega)]
def vj(n:Nat):List Nat->Bool
 |[]=>true
 |d::P=>match Nat.blt d n with
  |true=>vj n P
  |false=>false
def lO{b:Nat}:∀{c:List Nat},vj b c=true->∀n,n∈c->n<b
 |[],_,n,P=>by cases P
 |d::f,a,n,P=>by
  unfold vj at a;split at a
  ·rename_i e
   cases P with
   |head=>
        have:d+1<=b:=by simpa[Nat.blt]using e
        omega
   |tail _ P=>exact lO a n P
  ·cases a
def sf(e:jF)(f:h.follows .mixedOrders=true)(g:h.funcs[A]? =some a9)(i:a9.body=some a3)(r:o.size<=a9.ntmps)(j:vj a9.ntmps (writes a3)=true)(k:D h e a3 (Uf h a9 y) (λ_=>undef) (fB 0 o.toList) [] b):Calls h A o b y:=by
 refine calls_of_wp_defers g i ?_;have l:Rel a9.ntmps (λ_=>undef) (fB 0 o.toList) {tmps:=o++Array.replicate (a9.ntmps-o.size) undef,defers:=[]}:=by
  refine⟨by simp;omega,λa=>?_⟩;rw[pt,if_pos (Nat.zero_le _),Nat.sub_zero];simp only[Array.getD_eq_getD_getElem?,List.getD_eq_getElem?_getD,Array.getElem?_append,Array.getElem?_toList]
  by_cases c:a<o.size
  ·simp[c]
  ·rw[if_neg c]
   simp only[Array.getElem?_replicate];have:o[a]? =none:=by simp;omega
   rw[this];split<;>rfl
 refine Code.wp_mono ?_ (WB f a3 (Uf h a9 y) _ _ _ b (lO j) (by intro d m p s b n q;subst q;exact n.elim) l k);rintro d t u ⟨m,p,P,_,n⟩
 cases d with
 |normal=>exact oq P _ _ _ n
 |ret=>exact oq P _ _ _ n
 |panic v=>exact oq P _ _ _ n
 |exit id=>exact n.elim
 |goto w=>exact n.elim
 |outgrown=>exact n.elim
def ET(b:Program)(c:Func)(n:Ending->World->Prop):iY:=λf d e P a=>match f with
 | .normal=>(match P with
  |[]=>gR b c d e n [] .returning a
  |_=>False)
 | .ret=>(match P with
  |[]=>gR b c d e n [] .returning a
  |_=>False)
 | .panic g=>(match P with
  |[]=>n (.panicked g) a
  |_=>False)
 |_=>False
def ET.out{P:Program}(j:Rel a V Q K)(n:ET P a9 y e9 V Q K.defers b):
  K.defers=[]/\((e9= .normal\/e9= .ret)/\(∃c,(results a9 K.tmps).run P b= .ok c b/\y (.returned c) b)\/∃h,e9= .panic h/\y (.panicked h) b):=by
 have d:∀e,K.defers=e->(match e with
  |[]=>gR P a9 V Q y [] .returning b
  |_=>False)->e=[]/\∃c,(results a9 K.tmps).run P b= .ok c b/\y (.returned c) b:=by
  intro e i n;split at n
  ·obtain⟨l,k,n⟩:=rJ j n
   exact⟨rfl,_,rK k,n⟩
  ·exact n.elim
 unfold ET at n;split at n
 ·obtain⟨f,g⟩:=d _ rfl n
  exact⟨f,.inl ⟨.inl rfl,g⟩⟩
 ·obtain⟨f,g⟩:=d _ rfl n
  exact⟨f,.inl ⟨.inr rfl,g⟩⟩
 ·split at n
  ·rename_i i
   exact⟨i,.inr ⟨_,rfl,n⟩⟩
  ·exact n.elim
 ·exact n.elim
def xY(c:o.size<=a)(b:List Deferred):Rel a (λ_=>undef) (fB 0 o.toList) {tmps:=o++Array.replicate (a-o.size) undef,defers:=b}:=by
 refine⟨by simp;omega,λn=>?_⟩;rw[pt,if_pos (Nat.zero_le _),Nat.sub_zero];simp only[Array.getD_eq_getD_getElem?,List.getD_eq_getElem?_getD,Array.getElem?_append,Array.getElem?_toList]
 by_cases P:n<o.size
 ·simp[P]
 ·rw[if_neg P]
  simp only[Array.getElem?_replicate];have:o[n]? =none:=by simp;omega
  rw[this];split<;>rfl
def Be(e:jF)(f:h.follows .mixedOrders=true)(g:h.funcs[A]? =some a9)(i:a9.body=some a3)(j:o.size<=a9.ntmps)(k:vj a9.ntmps (writes a3)=true)(n:D h e a3 (ET h a9 y) (λ_=>undef) (fB 0 o.toList) [] b):CallsD h A o b2 b λP l d=>l=b2/\y P d:=by
 refine callsD_of_wp g i (Code.wp_mono ?_ (WB f a3 (ET h a9 y) _ _ _ b (lO k) (by intro m p P s b a q;subst q;exact a.elim) (xY j []) n));rintro m t d ⟨p,P,r,_,a⟩;obtain⟨c,(⟨rfl|rfl,n⟩|⟨u,rfl,n⟩)⟩:=a.out r
 ·exact⟨c,n⟩
 ·exact⟨c,n⟩
 ·exact⟨c,n⟩
def ug:FrameMode->Value
 | .panicking ({v,recovered:=false,goexit:=false}::_)=>v
 |_=>.nilIface
def iP:FrameMode->FrameMode
 | .panicking ({v,recovered:=false,goexit:=false}::older)=>.panicking ({v,recovered:=true}::older)
 |u=>u
def MB{P:Frame}{cs:List Frame}(d:P.mode=b2):recoverD (P::cs)=some (ug b2,{P with mode:=iP b2}::cs)\/(recoverD (P::cs)=none/\ug b2= .nilIface/\iP b2=b2):=by
 subst d;unfold recoverD;simp only;split
 ·rename_i a
  left;rw[a]
  rfl
 ·rename_i c
  right;refine⟨rfl,?_,?_⟩
  ·unfold ug
   split
   ·rename_i b n a;exact absurd a (c b n)
   ·rfl
  ·unfold iP
   split
   ·rename_i b n a;exact absurd a (c b n)
   ·rfl
def RJ(t:jF){id:Nat}{d:Tmp}{e:Array TypeId}(u:h.follows .mixedOrders=true)(v:h.funcs[A]? =some a9)(w:a9.body=some (.seq (.region id #[R] false) a3))(x:R.op= .call {callee:=.builtin .recover,args:= #[],argTypes:=e})(a:R.dst=some d)(y:R.guard=none)(z:Nat.blt d a9.ntmps=true)(B:o.size<=a9.ntmps)(C:vj a9.ntmps (writes a3)=true)(c:D h t a3 (ET h a9 λf k=>i2 f (iP b2) k) (λ_=>undef) ((d,ug b2)::fB 0 o.toList) [] b):CallsD h A o b2 b i2:=by
 refine callsD_of_wpS v w λn cs l=>wpS_seq (wpS_region ?_);have E:∀m:Act,(execOp m.eval R).run h b= .ok .recover b:=λm=>by simp[execOp,x,resolve,invoke,builtin]
 have F:∀p,Region.wanted R p=true:=λp=>by simp[Region.wanted,y]
 have H:d+1<=a9.ntmps:=by simpa[Nat.blt]using z
 have q:∀(g:Value) (P:List Frame),g=ug b2->P={n with mode:=iP b2}::cs->
   a3.wpS h (bodyPostS h a9 n cs i2) (({tmps:=o++Array.replicate (a9.ntmps-o.size) undef,defers:=[]}:Act).put R.dst g) P b:=by
  rintro g P rfl rfl;refine wpS_of_wp ?_;have r:=(xY B []).put R.dst (λO s=>by rw[a]at s;exact(Option.some.inj s)▸H) (ug b2);rw[a]at r⊢;refine Code.wp_mono ?_ (WB u a3 _ _ _ _ b (lO C) (by intro I J f Q b i K;subst K;exact i.elim) r c);rintro I S k ⟨J,f,L,_,i⟩;obtain⟨a,(⟨rfl|rfl,c⟩|⟨T,rfl,c⟩)⟩:=i.out L
  ·exact⟨a,_,rfl,c⟩
  ·exact⟨a,_,rfl,c⟩
  ·exact⟨a,_,rfl,c⟩
 simp only[show(List.range (#[R]:Array Oper).size)=[0]from rfl,wpOpsS,List.getElem?_toArray,List.getElem?_cons_zero,F,if_true,E];rcases MB (cs:=cs) l with j|⟨j,M,N⟩
 ·rw[j]
  exact q _ _ rfl rfl
 ·rw[j]
  exact q _ _ M.symm (by rw[N,<-l])
def GB(n:IntKind)(P a:Int):Int:=n.wrap (BitVec.ofInt n.bits P&&&BitVec.ofInt n.bits a).toNat
def RL(n:IntKind)(P a:Int):Int:=n.wrap (BitVec.ofInt n.bits P|||BitVec.ofInt n.bits a).toNat
def qO(n:IntKind)(P a:Int):Int:=n.wrap (BitVec.ofInt n.bits P ^^^ BitVec.ofInt n.bits a).toNat
def vT(n:IntKind)(P a:Int):Int:=n.wrap (BitVec.ofInt n.bits P&&& ~~~BitVec.ofInt n.bits a).toNat
def Mf(n:IntKind)(P a:Int):Int:=n.wrap (P*2 ^(min a.toNat n.bits))
def ks(n:IntKind)(P a:Int):Int:=P.fdiv (2 ^(min a.toNat n.bits))
def oM(n:N:=by omega):N:=n
theorem dg{p:Prop}(h:p:=by dsimp only;omega):p:=h
theorem cS{p:Prop}(h:p:=by simp;omega):p:=h
def sM(n:N:=by simp):N:=n
def dC(n:N:=by decide):N:=n
def kR(n:N:=by kernel_rfl):N:=n
abbrev Qq:= @List.getElem?_eq_getElem
abbrev Qx:= @Int.toNat_natCast
abbrev Qz:= @List.take_of_length_le
abbrev Qj:= @Nat.zero_le
abbrev Qv:= @List.getElem?_eq_some_iff
abbrev Qw:= @List.take_add_one
abbrev Qk:= @Nat.lt_of_lt_of_le
abbrev Qy:= @List.length_take
abbrev QQ:= @List.getD_eq_getElem?_getD
abbrev QX:= @List.length_append
abbrev QZ:= @List.mem_of_getElem?
abbrev QJ:= @List.mem_cons_of_mem
abbrev QV:= @List.mem_cons_self
abbrev QW:= @List.eq_nil_of_length_eq_zero
abbrev QK:= @Bool.and_eq_true
abbrev QY:= @List.map_cons
abbrev Q0:= @Nat.mul_le_mul_right
abbrev Q1:= @Option.some.injEq
abbrev Q2:= @List.mem_cons
abbrev Q3:= @List.map_append
abbrev Q4:= @Nat.le_refl
abbrev Q5:= @Array.getElem?_eq_some_iff
abbrev Q6:= @List.mem_append
abbrev Q7:= @List.getElem?_eq_none
abbrev Q8:= @List.length_map
abbrev Q9:= @List.getElem?_map
abbrev Xq:= @List.length_cons
abbrev Xx:= @Nat.le_trans
abbrev Xz:= @Nat.zero_add
abbrev Xj:= @List.getElem?_set
abbrev Xv:= @decide_eq_false
abbrev Xw:= @List.getElem?_take
abbrev Xk:= @List.mem_map
abbrev Xy:= @of_decide_eq_false
abbrev XQ:= @List.append_assoc
abbrev XX:= @Value.slice.injEq
abbrev XZ:= @List.length_drop
abbrev XJ:= @Option.some.inj
abbrev XV:= @of_decide_eq_true
abbrev XW:= @List.getElem?_append_left
abbrev XK:= @Array.length_toList
abbrev XY:= @List.getElem_mem
abbrev X2:= @Nat.min_eq_left
abbrev X3:= @List.ext_getElem?
abbrev X4:= @List.drop_eq_getElem_cons
abbrev X6:= @Array.getElem?_eq_getElem
abbrev X7:= @Nat.add_mul
abbrev X8:= @List.getElem?_append_right
abbrev X9:= @Nat.eq_of_beq_eq_true
abbrev Zq:= @if_neg
abbrev Zx:= @if_pos
abbrev Zz:= @absurd
abbrev Zj:= @congrArg
abbrev Zv:= @Nat.le_of_ble_eq_true
abbrev Zw:= @List.take_succ_cons
abbrev Zk:= @decide_eq_true_eq
abbrev Zy:= @decide_eq_true
abbrev ZQ:= @List.length_nil
abbrev ZX:= @List.take_append_drop
abbrev ZZ:= @List.getElem?_cons_succ
abbrev ZJ:= @List.getElem?_cons_zero
abbrev ZV:= @List.mem_append_left
abbrev ZW:= @List.mem_append_right
abbrev ZK:= @UInt8.toNat_ofNat'
abbrev ZY:= @List.all_eq_true
abbrev WP:=Value.int .i64
abbrev RK (b:Nat):Value:=.pointer (some ⟨b,0,none⟩)
abbrev UV (b:Nat):Option Addr:=some ⟨b,0,none⟩
abbrev UL:=Nat->Prop
abbrev ac:=Value->World->Prop
abbrev am:=Ending->World->Prop
abbrev ba:=World->Prop
abbrev bc:=Option Addr

import Derived.Tactics
import Derived.Defers
import Derived.Recover
import Derived.Deep.Quiet
import Derived.Deep.LoopGhost
import Derived.Laws.Entries
import Derived.Laws.Tables
import Derived.Laws.Cells
import Derived.Scope
set_option linter.all false
namespace Go.aw
open Go
structure aj (S:Nat->Prop) (w w':World):Prop where
 os:w'.os=w.os
 tape:w'.tape=w.tape
 output:w'.output=w.output
 size:w.heap.size<=w'.heap.size
 block:∀k,k<w.heap.size->¬S k->w'.heap[k]? =w.heap[k]?
def get(P:Nat->Value):List (Nat×Value)->Nat->Value
 |[],n=>P n
 |(a,b)::c,n=>match Nat.beq a n with
  |true=>b
  |false=>get P c n
abbrev cP:=List (Nat×Value)
def ev(n:Nat->Value)(P:cP):Operand->Value
 | .tmp a=>get n P a
 | .const b=>b
 | .global c=>.pointer (some ⟨c,0,none⟩)
 | .func d=>.func (.func d) #[] #[]
def cf(P:cP)(n:Option Tmp)(a:Value):cP:=match n with
 |some n=>(n,a)::P
 |none=>P
structure Rel (n:Nat) (B:Nat->Value) (e:cP) (a:Act):Prop where
 size:a.tmps.size=n
 slot:∀t,a.tmps.getD t undef=aw.get B e t
def d_(a:Nat->Value)(b:cP)(P n:Nat)(c:Value):get a ((P,c)::b) n=if P=n then c else get a b n:=by
 show(match Nat.beq P n with|true=>c|false=>get a b n)=_
 by_cases d:P=n
 ·subst d;simp
 ·have:Nat.beq P n=false:=by
   cases e:Nat.beq P n
   ·rfl
   ·exact absurd (Nat.eq_of_beq_eq_true e) d
  rw[this,if_neg d]
def Rel.eval{b:Nat}{n:Nat->Value}{P:cP}{a:Act}(c:Rel b n P a):a.eval=ev n P:=by
 funext d
 cases d with
 |tmp e=>exact c.slot e
 |const f=>rfl
 |global g=>rfl
 |func h=>rfl
def Rel.put{b:Nat}{f:Nat->Value}{g:cP}{c:Act}(a:Rel b f g c)(n:Option Tmp)(h:∀P,n=some P->P<b)(d:Value):Rel b f (cf g n d) (c.put n d):=by
 cases n with
 |none=>exact a
 |some n=>
  have i:=h n rfl;refine⟨by simp[Act.put,a.size],λP=>?_⟩;show(c.tmps.setIfInBounds n d).getD P undef=_;rw[cf,d_,<-a.slot];have j:=a.size
  by_cases e:n=P
  ·subst e
   simp[j,i]
  ·rw[if_neg e]
   simp only[Array.getD_eq_getD_getElem?];rw[Array.getElem?_setIfInBounds_ne e]
variable{I:Act}{f0:Act->World->Prop}{d1:Addr}{a0:Array Bool}{U:Array Oper}{m:Array Value}{K:Bool}{a2:Code}{h7:Ending->FrameMode->World->Prop}{A:Ending->World->Prop}{e4:Exit}{d5:Exit->Act->World->Prop}{b1:FrameMode}{a8:Func}{z:FuncId}{b4:List Nat}{e9:List PanicEntry->Act->World->Prop}{a6:List PanicEntry->World->Prop}{a4:List Value}{a c i:Nat}{f1:Nat->Bool}{Z f:Nat->Prop}{S:Oper}{e2:Operand->Value}{h:Program}{L a9:Prop}{g6:Sem Unit}{e0:Sem Value}{g:TypeId}{e7:TypeInfo}{c8 v:Value}{M:Value->Prop}{h5 o t:Value->World->Prop}{a7 b k:World}{y:World->Prop}{O:cP}{h6:cP->List Deferred->World->Prop}{e8:cP->Prop}
def Rel.defers{n:Nat->Value}(P:Rel a n O I)(b:List Deferred):Rel a n O {I with defers:=b}:=⟨P.size,P.slot⟩
def put_defers(n:Act)(P:Option Tmp)(a:Value):(n.put P a).defers=n.defers:=by cases P<;>rfl
def al(n:Bool)(P a:Prop):Prop:=match n with
 |true=>P
 |false=>a
def al.mk(n:K=true->L)(P:K=false->a9):al K L a9:=by
 cases K
 ·exact P rfl
 ·exact n rfl
def al.tt(n:K=true)(P:L):al K L a9:=by subst n;exact P
def al.ff(n:K=false)(P:a9):al K L a9:=by subst n;exact P
def PU(a:Value)(n:Value->Prop):Prop:=match a with
 | .int b _=>∃P,n (.int b P)
 | .bool _=>∃c,n (.bool c)
 | .string _=>∃d,n (.string d)
 | .slice _ _ _=>∃e P f,n (.slice e P f)
 | .pointer _=>∃g,n (.pointer g)
 | .map _=>∃h,n (.map h)
 |_=>∃i,n i
def PU.out{z:Value}{φ:Value->Prop}(n:PU z φ):∃P,φ P:=by
 unfold PU at n;split at n
 ·exact⟨_,n.choose_spec⟩
 ·exact⟨_,n.choose_spec⟩
 ·exact⟨_,n.choose_spec⟩
 ·obtain⟨a,b,c,n⟩:=n;exact⟨_,n⟩
 ·exact⟨_,n.choose_spec⟩
 ·exact⟨_,n.choose_spec⟩
 ·exact n
def RP:List Value->(List Value->Prop)->Prop
 |[],n=>n []
 |z::P,n=>PU z λa=>RP P λb=>n (a::b)
def RP.out:∀{P:List Value} {φ:List Value->Prop},RP P φ->∃l,l.length=P.length/\φ l
 |[],_,n=>⟨[],rfl,n⟩
 |z::P,φ,n=>by
  obtain⟨a,n⟩:=PU.out n;obtain⟨l,b,n⟩:=RP.out n;exact⟨a::l,by simp[b],n⟩
def uX(z:Value)(n:Value->Prop):Prop:=match z with
 | .agg P=>RP P.toList λa=>n (.agg a.toArray)
 |z=>PU z n
def uX.out{z:Value}{φ:Value->Prop}(n:uX z φ):∃P,φ P:=by
 unfold uX at n;split at n
 ·obtain⟨l,_,n⟩:=RP.out n;exact⟨_,n⟩
 ·exact PU.out n
def Wn:List Value->(List Value->Prop)->Prop
 |[],n=>n []
 |z::P,n=>uX z λa=>Wn P λb=>n (a::b)
def Wn.out:∀{P:List Value} {φ:List Value->Prop},Wn P φ->∃l,φ l
 |[],_,n=>⟨[],n⟩
 |z::P,φ,n=>by
  obtain⟨a,n⟩:=uX.out n;obtain⟨l,n⟩:=Wn.out n;exact⟨a::l,n⟩
def ej(n:Program)(P:TypeId):Value:=match n.info? P with
 |some a=>match a.zero with
  |some b=>b
  |none=>undef
 |none=>undef
def mK(n:Program)(P:TypeId):Nat:=match n.info? P with
 |some a=>a.size
 |none=>0
def uH(n:Program)(P:TypeId):Bool:=match n.underlying P with
 |some (.struct _)=>true
 |some (.array _ _)=>true
 |_=>false
def uI(n:Program)(P:TypeId)(a:Value->Prop):Prop:=match n.underlying P with
 |some (.tuple b)=>Wn (b.toList.map (ej n)) λc=>a (.tuple c.toArray)
 |_=>uX (ej n P) a
def uI.out{P:Program}{φ:Value->Prop}(n:uI P g φ):∃a,φ a:=by
 unfold uI at n;split at n
 ·obtain⟨l,n⟩:=Wn.out n;exact⟨_,n⟩
 ·exact uX.out n
def i_(P:World)(a:Addr):Nat->List Value->Prop->Prop
 |_,[],n=>n
 |b,c::d,n=>P.cell? (a.add b)=some c/\i_ P a (b+1) d n
def i_.out{d:World}{e:Addr}:∀{P:Nat} {l:List Value} {φ:Prop},i_ d e P l φ->(∀n a,l[n]? =some a->d.cell? (e.add (P+n))=some a)/\φ
 |_,[],_,c=>⟨λn a b=>by simp at b,c⟩
 |P,j::l,φ,c=>by
  obtain⟨f,g⟩:=c;obtain⟨h,i⟩:=i_.out g;refine⟨λn a b=>?_,i⟩
  cases n with
  |zero=>simp at b;subst b;exact f
  |succ n=>
   have:=h n a (by simpa using b);rw[show P+1+n=P+(n+1)from by omega]at this;exact this
def jZ(n:Program)(P:TypeId)(g:Value)(a:World)(b:Value->Prop):Prop:=match g with
 | .pointer (some c)=>match uH n P with
  |true=>match ej n P with
   | .agg d=>match Nat.beq (mK n P) d.size with
    |true=>RP d.toList λe=>i_ a c 0 e (b (.agg e.toArray))
    |false=>False
   |_=>False
  |false=>PU (ej n P) λf=>a.cell? c=some f/\b f
 |_=>False
def PS(n:World)(P:Addr)(a:Value)(b:World->Prop):Prop:=(∃c,n.cell? P=some c)/\n.frozen? P=false/\b (n.setCell P a)
def PA(n:World)(P:Obj)(a:World->Prop):Prop:=a (n.alloc P)
def jO(a:Addr):Nat->List Value->World->(World->Prop)->Prop
 |_,[],n,P=>P n
 |b,c::d,n,P=>PS n (a.add b) c λe=>jO a (b+1) d e P
def oG(n:Program)(P:TypeId)(e a:Value)(b:World)(c:World->Prop):Prop:=match e with
 | .pointer (some d)=>match uH n P with
  |true=>match a with
   | .agg cs=>match Nat.beq cs.size (mK n P)with
    |true=>match cs.toList.all Value.oneCell' with
     |true=>jO d 0 cs.toList b c
     |false=>False
    |false=>False
   |_=>False
  |false=>match Nat.beq (mK n P) 1 with
   |true=>al a.oneCell' (PS b d a c) False
   |false=>False
 |_=>False
def TY(n P:Nat):Nat:=match Nat.beq P 1 with
 |true=>n
 |false=>n*P
def Ng(P n:Nat):TY P n=P*n:=by
 unfold TY
 cases a:Nat.beq n 1
 ·rfl
 ·have:n=1:=Nat.eq_of_beq_eq_true a
  subst this;simp
def TZ(d:Program)(i:TypeId)(f g:Value)(h:Value->Prop):Prop:=match d.underlying i with
 |some (.slice n)=>match f,g with
  | .slice b j _,.int _ a=>∃c P,b=some ⟨c,P,none⟩/\0<=a/\a<j/\h (.pointer (some ⟨c,P+TY a.toNat (mK d n),none⟩))
  |_,_=>False
 |some (.array e n)=>match f,g with
  | .pointer k,.int _ a=>∃c P,k=some ⟨c,P,none⟩/\0<=a/\a<e/\h (.pointer (some ⟨c,P+TY a.toNat (mK d n),none⟩))
  |_,_=>False
 |_=>False
def GN(a b:Value)(c:Value->Prop):Prop:=match a,b with
 | .string d,.int _ n=>0<=n/\∃P,d[n.toNat]? =some P/\c (.int .u8 P.toNat)
 |_,_=>False
def dd(P:Option Addr)(a b n:Nat):Option Addr:=if b=a then P else P.map (·.add (a*n))
def T_(g:Program)(m:TypeId)(k:Value)(h i l:Option Value)(c:Value->Prop):Prop:=match g.underlying m with
 |some .string=>match k,l with
  | .string d,none=>match h,i with
   |none,none=>c (.string (d.extract 0 d.size))
   |some (.int _ n),none=>0<=n/\n<=d.size/\c (.string (d.extract n.toNat d.size))
   |none,some (.int _ P)=>0<=P/\P<=d.size/\c (.string (d.extract 0 P.toNat))
   |some (.int _ n),some (.int _ P)=>0<=n/\n<=P/\P<=d.size/\c (.string (d.extract n.toNat P.toNat))
   |_,_=>False
  |_,_=>False
 |some (.slice a)=>match k,l with
  | .slice e j b,none=>match h,i with
   |none,none=>c (.slice e j b)
   |some (.int _ n),none=>0<=n/\n<=j/\c (.slice (dd e n.toNat b (mK g a)) (j-n.toNat) (b-n.toNat))
   |none,some (.int _ P)=>0<=P/\P<=b/\c (.slice e P.toNat b)
   |some (.int _ n),some (.int _ P)=>0<=n/\n<=P/\P<=b/\c (.slice (dd e n.toNat b (mK g a)) (P.toNat-n.toNat) (b-n.toNat))
   |_,_=>False
  | .slice e _ b,some (.int _ f)=>match h,i with
   |none,some (.int _ P)=>0<=P/\P<=f/\f<=b/\c (.slice e P.toNat f.toNat)
   |some (.int _ n),some (.int _ P)=>0<=n/\n<=P/\P<=f/\f<=b/\c (.slice (dd e n.toNat f.toNat (mK g a)) (P.toNat-n.toNat) (f.toNat-n.toNat))
   |_,_=>False
  |_,_=>False
 |_=>False
def YL(a:Option Addr)(b:Value->Prop):Prop:=∃P n,a=some ⟨P,n,none⟩/\b (.pointer (some ⟨P,n,none⟩))
def aJ(a:Program)(b:Sem Value)(c:World)(d e:Value->World->Prop):Prop:=match b.run a c with
 | .ok n P=>d n P
 | .halt (.panic n) P=>e n P
 |_=>False
def lL(P:Program)(a:Sem Unit)(b:World)(c:World->Prop)(d:Value->World->Prop):Prop:=match a.run P b with
 | .ok _ n=>c n
 | .halt (.panic e) n=>d e n
 |_=>False
def aJ.mk{n w':World}{v:Value}(P:e0.run h n= .ok v w')(a:o v w'):aJ h e0 n o t:=by
 unfold aJ;rw[P];exact a
def lL.mk{n w':World}(P:g6.run h n= .ok () w')(a:y w'):lL h g6 n y o:=by
 unfold lL;rw[P];exact a
def aJ.imp(c:∀P a,o P a->t P a)(n:aJ h e0 b o h5):aJ h e0 b t h5:=by
 unfold aJ at*;split at n
 ·exact c _ _ n
 ·exact n
 ·exact n.elim
def aJ.panics{v:Value}(n:e0.run h b= .halt (.panic v) k)(P:t v k):aJ h e0 b o t:=by
 unfold aJ;rw[n];exact P
def enters(P:Program)(a:FuncId):Bool:=match P.funcs[a]? with
 |some n=>match n.body with
  |some _=>!(n.name== "runtime.NumGoroutine")
  |none=>false
 |none=>false
def RQ(n:Ending)(P:Value->Prop)(a:List PanicEntry->Prop):Prop:=match n with
 | .returned b=>P b
 | .panicked c=>a c
 | .outgrown=>False
def PC(a:Program)(b:FuncId)(n:Array Value)(c:World)(d:Value->World->Prop)(e:List PanicEntry->World->Prop):Prop:=
 Calls a b n c λf P=>RQ f (λg=>d g P) (λh=>e h P)
def Nh(P:Program)(b:FuncId)(n:Array Value)(c:TypeId)(d:World)(e:Value->World->Prop)(f:List PanicEntry->World->Prop):Prop:=
 PC P b n d (λg h=>uI P c λa=>g=a/\e a h) f
def VL(b:Program)(c:Value)(n:Array Value)(d:TypeId)(e:World)(f:Value->World->Prop)(g:List PanicEntry->World->Prop):Prop:=
 ∃a first P,c= .func (.func a) first P/\enters b a=true/\Nh b a (first++n++P) d e f g
def Tx(a:Program)(c:FuncId)(n:Array Value)(P:World)(d e:Value->World->Prop):Prop:=
 ∃b:Sem Value,(∀P,(callFunc c n).run a P=(b.run a P).andThen λf g=>.ok (.value f) g)/\aJ a b P d e
def YM(b:Program)(n:Value)(P:String)(a:Array Value)(e:TypeId)(f:World)(g:Value->World->Prop)(h:List PanicEntry->World->Prop):Prop:=
 ∃c as,(∀d,(callMethod n P a).run b d= .ok (.enter c as) d)/\Nh b c as e f g h
def isInt(n:Program)(P:TypeId):Bool:=match n.underlying P with
 |some (.int _)=>true
 |_=>false
def Ni(n:Program)(P:TypeId):Bool:=match n.underlying P with
 |some (.int _)=>true
 |some .bool=>true
 |some .string=>true
 |_=>false
def isMap(n:Program)(P:TypeId):Bool:=match n.underlying P with
 |some (.map _ _)=>true
 |_=>false
def wi(n:Operand):Bool:=match n with
 | .const _=>true
 |_=>false
def GO(n:Program)(e:Oper):Bool:=match e.op with
 | .lookup .. =>true
 | .next .. =>true
 | .entry _=>true
 | .mapEntry .. =>true
 | .makeSlice .. =>true
 | .convert a c _=>match isInt n a with
  |true=>match isInt n c with
   |true=>false
   |false=>true
  |false=>true
 | .binOp f d _ P _=>match f with
  | .quo=>match wi P with
   |true=>false
   |false=>true
  | .rem=>match wi P with
   |true=>false
   |false=>true
  | .shl=>match wi P with
   |true=>false
   |false=>true
  | .shr=>match wi P with
   |true=>false
   |false=>true
  | .add=>match isInt n d with
   |true=>false
   |false=>true
  | .eql=>match Ni n d with
   |true=>false
   |false=>true
  | .neq=>match Ni n d with
   |true=>false
   |false=>true
  |_=>false
 | .call {callee:=.builtin b,argTypes,..}=>match b with
  | .append=>true
  | .copy=>true
  | .cap=>true
  | .len=>isMap n (argTypes.getD 0 0)
  |_=>false
 |_=>false
def OU(P:Operand->Value)(i:Oper):Option (Sem Value):=match i.op with
 | .move a| .assign a=>some (.pure (P a))
 | .pick b v l=>some (do pure (if<-asBool (P b)then P v else P l))
 | .alloc g=>some (Instr.alloc g true (.tuple #[]))
 | .box g a=>some (Instr.box g (P a))
 | .build h c=>some (Instr.build h (c.map λ(m,a)=>(m,P a)))
 | .buildSlice h o c=>some (Instr.buildSlice h o (c.map λ(m,a)=>(m,P a)))
 | .waits w=>some (Instr.waits w)
 | .binOp k n a p _=>some (do eqGuard k n a p (P a) (P p);binOp k n (P a) (P p))
 | .unOp k _ a=>some (Op.unary k (P a))
 | .convert q r a=>some (convert q r (P a))
 | .makeInterface n a=>some (Instr.makeInterface n (P a))
 | .makeFunc x first d=>some (Instr.makeFunc x (first.map P) (d.map P))
 | .makeMap h y=>some (Instr.makeMap h (y.map P))
 | .makeSlice h z b=>some (Instr.makeSlice h (P z) (P b))
 | .fieldAddr A a s=>some (Instr.fieldAt A (P a) s)
 | .field n a s=>some (Instr.field n (P a) s)
 | .index n a j=>some (Instr.index n (P a) (P j))
 | .lookup n a j t=>some (Instr.lookup n (P a) (P j) t)
 | .mapEntry h B C=>some (Instr.mapEntry h (P B) (P C))
 | .range n a=>some (Instr.range n (P a))
 | .next u e=>some (Instr.next (P u) e i.type)
 | .entry u=>some (Instr.entry (P u))
 | .typeAssert a n f t=>some (Instr.typeAssert (P a) n f t)
 | .extract h j=>some (Instr.extract (P h) j)
 | .panic a=>some (Instr.panic (P a))
 | .call b=>match b.callee with
  | .builtin l=>match l with
   | .append=>some (Builtin.append_ b.argTypes i.type (b.args.map P))
   | .cap=>some (Builtin.cap_ b.argTypes i.type (b.args.map P))
   | .clear=>some (Builtin.clear_ b.argTypes i.type (b.args.map P))
   | .copy=>some (Builtin.copy_ b.argTypes i.type (b.args.map P))
   | .delete=>some (Builtin.delete_ b.argTypes i.type (b.args.map P))
   | .len=>some (Builtin.len_ b.argTypes i.type (b.args.map P))
   | .max=>some (Builtin.max_ b.argTypes i.type (b.args.map P))
   | .min=>some (Builtin.min_ b.argTypes i.type (b.args.map P))
   | .panic=>some (Instr.panic ((b.args.map P).getD 0 .nilIface))
   |_=>none
  |_=>none
 |_=>none
def Ua(n:Operand->Value)(d:Oper):Option (Sem Unit):=match d.op with
 | .mapUpdate P a c b| .insert P a c b=>some (Instr.mapUpdate P (n a) (n c) (n b))
 | .entryStore P a e b=>some (Instr.entryStore P (n a) (n e) (n b))
 | .ready f=>some (Instr.ready f)
 |_=>none
def tw{P a d:Type}(n:Result P)(b:P->World->Result a)(c:a->World->Result d):(n.andThen b).andThen c=n.andThen λe f=>(b e f).andThen c:=by
 cases n<;>rfl
def jP(P:OU e2 S=some e0)(b:Program)(c:World):
  (execOp e2 S).run b c=(e0.run b c).andThen λf g=>.ok (.value f) g:=by
 obtain⟨h,i,d,j,a,guard⟩:=S
 cases i
 case call k=>
  obtain⟨n,e,l⟩:=k
  cases n
  case builtin m=>
   cases m<;>simp only[OU,Option.some.injEq,reduceCtorEq]at P<;>subst P<;>simp[execOp,resolve,invoke,builtin]
  all_goals simp[OU]at P
 all_goals first
  |(cases P;done)
  |(cases P;simp[execOp];done)
  |(cases P;simp only[execOp,Sem.run_bind,Sem.run_pure,tw,Result.andThen_ok];done)
  |(cases P;simp only[execOp,Sem.run_bind,Sem.run_pure,tw,Result.andThen_ok];rfl)
def OV(n:Ua e2 S=some g6)(a:Program)(b:World):
  (execOp e2 S).run a b=(g6.run a b).andThen λ_ d=>.ok .skip d:=by
 obtain⟨e,f,c,g,P,guard⟩:=S
 cases f
 all_goals first
  |(simp only[Ua,Option.some.injEq]at n;subst n;simp[execOp];done)
  |(simp[Ua]at n;done)
section
variable {P:Program}
def dE(P:Program)(n:TypeId)(b:Bool)(c:uH P n=b)(f:∃a,P.underlying n=some a)(d:World):(isAgg n).run P d= .ok b d:=by
 obtain⟨a,e⟩:=f;unfold uH at c;rw[e]at c;simp only[isAgg,Sem.run_bind,run_underlying e,Result.andThen_ok]
 cases a<;>simp_all
def EF(n:ej P g=v)(c:v≠undef):∃a,P.info? g=some a/\a.zero=some v:=by
 unfold ej at n;split at n
 ·rename_i a d
  split at n
  ·rename_i e b;exact⟨a,d,by rw[b,n]⟩
  ·exact absurd n.symm c
 ·exact absurd n.symm c
def dF(a:P.info? g=some e7)(n:World):(sizeOf g).run P n= .ok e7.size n:=by
 simp[sizeOf,typeInfo,a]
def jb(n:P.info? g=some e7):mK P g=e7.size:=by simp[mK,n]
def wj(P:k.heap=b.heap)(n:Addr):k.cell? n=b.cell? n:=by simp[World.cell?,P]
def jZ.out(j:∃m,P.underlying g=some m)(n:jZ P g v b M):
  ∃a,(∀c,c.heap=b.heap->(Instr.loadAt g v).run P c= .ok a c)/\M a:=by
 unfold jZ at n;split at n
 ·rename_i f
  split at n
  ·rename_i h
   split at n
   ·rename_i y o
    split at n
    ·rename_i p
     obtain⟨l,q,n⟩:=RP.out n;obtain⟨i,n⟩:=i_.out n;obtain⟨r,k,_⟩:=EF o (by simp[undef]);have s:r.size=l.length:=by
      have:=Nat.eq_of_beq_eq_true p;rw[jb k]at this;simp[this,q]
     refine⟨_,λc d=>?_,n⟩;have t:∀e a,l[e]? =some a->c.cell? (f.add e)=some a:=λe a u=>by
      rw[wj d];have:=i e a u;simpa using this
     have w:=run_loadCells_list (P:=P) (w:=c) f l t;simp only[Instr.loadAt,Instr.sureAddr,loadVar,Sem.run_bind,Sem.run_pure,Result.andThen_ok,dE P g _ h j,if_true,dF k,s,w]
    ·exact n.elim
   ·exact n.elim
  ·rename_i h
   obtain⟨a,x,n⟩:=PU.out n;refine⟨a,λc d=>?_,n⟩;have i:c.cell? f=some a:=by rw[wj d];exact x
   simp[Instr.loadAt,Instr.sureAddr,loadVar,dE P g _ h j,load,Sem.run,i]
 ·exact n.elim
def jO.out{d:Addr}{e:World->Prop}:∀{l:List Value} {b:Nat} {a:World},(∀v∈l,v.oneCell'=true)->jO d b l a e->∃c,(storeCells d l b).run P a= .ok () c/\e c
 |[],b,a,_,n=>⟨a,rfl,n⟩
 |v::l,b,a,f,n=>by
  obtain⟨⟨m,g⟩,h,n⟩:=n;obtain⟨c,i,n⟩:=jO.out (l:=l) (λv j=>f v (List.mem_cons_of_mem _ j)) n;refine⟨c,?_,n⟩;have k:=run_store P a (d.add b) v .plain (f v (List.mem_cons_self ..));simp only[storeCells,Sem.run_bind,k,g,h];simpa using i
def oG.out{g:TypeId}{j a:Value}{h:World}{k:World->Prop}(b:∃e,P.info? g=some e)(n:oG P g j a h k):
  ∃f,(Instr.storeAt g j a).run P h= .ok () f/\k f:=by
 obtain⟨e,b⟩:=b;unfold oG at n;split at n
 ·rename_i l
  split at n
  ·split at n
   ·rename_i cs
    split at n
    ·rename_i c
     split at n
     ·rename_i d
      obtain⟨f,m,n⟩:=jO.out (P:=P) (λa o=>by simpa using List.all_eq_true.1 d a o) n;refine⟨f,?_,n⟩;have i:cs.size=e.size:=by have:=Nat.eq_of_beq_eq_true c;rwa [jb b]at this
      simp[Instr.storeAt,Instr.sureAddr,storeVar,dF b,Value.cells,i,m]
     ·exact n.elim
    ·exact n.elim
   ·exact n.elim
  ·split at n
   ·rename_i c
    have i:e.size=1:=by have:=Nat.eq_of_beq_eq_true c;rwa [jb b]at this
    cases d:a.oneCell' with
    |false=>rw[d]at n;exact n.elim
    |true=>
     rw[d]at n;obtain⟨⟨s,p⟩,q,n⟩:=n;refine⟨_,?_,n⟩;have r:a.cells= #[a]:=by cases a<;>first|rfl|(simp[Value.oneCell']at d)
     have c:=run_store P h l a .plain d;rw[p,q]at c;simp[Instr.storeAt,Instr.sureAddr,storeVar,dF b,r,i,storeCells,Addr.add_zero',c]
   ·exact n.elim
 ·exact n.elim
def TZ.out(l:∀e,(P.underlying g=some (.slice e)\/∃m,P.underlying g=some (.array m e))->∃f,P.info? e=some f)(n:TZ P g v c8 M):
  ∃o,(∀d,(Instr.indexAt g v c8).run P d= .ok o d)/\M o:=by
 unfold TZ at n;split at n
 ·rename_i a b
  split at n
  ·rename_i p m t q r
   obtain⟨s,h,rfl,i,j,n⟩:=n;obtain⟨f,c⟩:=l a (.inl b);refine⟨_,λd=>?_,n⟩;simp[Instr.indexAt,asIntOf,run_underlying b,i,j,dF c,Ng,jb c,Addr.add_lit]
  ·exact n.elim
 ·rename_i k a b
  split at n
  ·rename_i u q r
   obtain⟨s,h,rfl,i,j,n⟩:=n;obtain⟨f,c⟩:=l a (.inr ⟨k,b⟩);refine⟨_,λd=>?_,n⟩;simp[Instr.indexAt,Instr.sureAddr,asIntOf,run_underlying b,i,j,dF c,Ng,jb c,Addr.add_lit]
  ·exact n.elim
 ·exact n.elim
def GN.out(c:P.underlying g=some .string)(n:GN v c8 M):∃b,(∀a,(Instr.index g v c8).run P a= .ok b a)/\M b:=by
 unfold GN at n;split at n
 ·rename_i f h i
  obtain⟨d,j,e,n⟩:=n;refine⟨_,λa=>?_,n⟩;simp[Instr.index,asIntOf,run_underlying c,d,e]
 ·exact n.elim
def bT(b:Value)(a:Int)(e:IntKind)(f:b= .int e a)(c:Nat)(n:BoundsCode)(d:World)(g:0<=a/\a<=c):(Instr.sliceBound b c n).run P d= .ok a.toNat d:=by
 subst f;simp[Instr.sliceBound,asIntOf,g]
def T_.out{i j k:Option Value}(y:∀t,P.underlying g=some (.slice t)->∃u,P.info? t=some u)(n:T_ P g v i j k M):
  ∃w,(∀a,(Instr.sliceAt g v i j k).run P a= .ok w a)/\M w:=by
 unfold T_ at n;split at n
 ·rename_i c
  have e:∀a,(Instr.sliceAt g v i j k).run P a=(Instr.slice g v i j k).run P a:=λa=>by simp[Instr.sliceAt,run_underlying c]
  split at n
  ·rename_i s
   split at n
   ·exact⟨_,λa=>by rw[e];simp[Instr.slice,Instr.sliceBounds,run_underlying c],n⟩
   ·rename_i l
    obtain⟨b,f,n⟩:=n;exact⟨_,λa=>by rw[e];simp[Instr.slice,Instr.sliceBounds,run_underlying c,bT _ l _ rfl s.size _ a ⟨b,f⟩],n⟩
   ·rename_i d
    obtain⟨b,f,n⟩:=n;exact⟨_,λa=>by rw[e];simp[Instr.slice,Instr.sliceBounds,run_underlying c,bT _ d _ rfl s.size _ a ⟨b,f⟩],n⟩
   ·rename_i l _ d
    obtain⟨b,f,m,n⟩:=n;exact⟨_,λa=>by rw[e];simp[Instr.slice,Instr.sliceBounds,run_underlying c,bT _ d _ rfl s.size _ a ⟨by omega,m⟩,bT _ l _ rfl d.toNat _ a ⟨b,by omega⟩],n⟩
   ·exact n.elim
  ·exact n.elim
 ·rename_i o c
  obtain⟨u,h⟩:=y o c;have e:∀a,(Instr.sliceAt g v i j k).run P a=(Instr.slice g v i j k).run P a:=λa=>by simp[Instr.sliceAt,run_underlying c]
  split at n
  ·rename_i q x p
   split at n
   ·refine⟨_,λa=>?_,n⟩
    rw[e]
    cases q<;>simp[Instr.slice,Instr.sliceBounds,run_underlying c,dF h,Addr.add_zero']
   ·rename_i l
    obtain⟨b,f,n⟩:=n;refine⟨_,λa=>?_,n⟩;rw[e];simp[Instr.slice,Instr.sliceBounds,run_underlying c,dF h,bT _ l _ rfl x _ a ⟨b,f⟩,dd,jb h]
   ·rename_i d
    obtain⟨b,f,n⟩:=n;refine⟨_,λa=>?_,n⟩;rw[e]
    cases q<;>simp[Instr.slice,Instr.sliceBounds,run_underlying c,dF h,bT _ d _ rfl p _ a ⟨b,f⟩,Addr.add_zero']
   ·rename_i l _ d
    obtain⟨b,f,m,n⟩:=n;refine⟨_,λa=>?_,n⟩;rw[e];simp[Instr.slice,Instr.sliceBounds,run_underlying c,dF h,bT _ d _ rfl p _ a ⟨by omega,m⟩,bT _ l _ rfl d.toNat _ a ⟨b,by omega⟩,dd,jb h]
   ·exact n.elim
  ·rename_i q x p _ r
   split at n
   ·rename_i d
    obtain⟨b,f,m,n⟩:=n;refine⟨_,λa=>?_,n⟩;rw[e]
    cases q<;>simp[Instr.slice,Instr.sliceBounds,run_underlying c,dF h,bT _ r _ rfl p _ a ⟨by omega,m⟩,bT _ d _ rfl r.toNat _ a ⟨b,by omega⟩,Addr.add_zero']
   ·rename_i l _ d
    obtain⟨b,f,m,z,n⟩:=n;refine⟨_,λa=>?_,n⟩;rw[e];simp[Instr.slice,Instr.sliceBounds,run_underlying c,dF h,bT _ r _ rfl p _ a ⟨by omega,z⟩,bT _ d _ rfl r.toNat _ a ⟨by omega,by omega⟩,bT _ l _ rfl d.toNat _ a ⟨b,by omega⟩,dd,jb h]
   ·exact n.elim
  ·exact n.elim
 ·exact n.elim
end
def known(n:Program)(P:TypeId):Bool:=match n.underlying P,n.info? P with
 |some _,some _=>true
 |_,_=>false
def il(n:Program)(a:TypeId):Bool:=match n.underlying a with
 |some (.slice P)=>match n.info? P with
  |some _=>true
  |none=>false
 |some (.array _ P)=>match n.info? P with
  |some _=>true
  |none=>false
 |some _=>true
 |none=>false
def eJ(n:Bool)(P:Prop):Prop:=match n with
 |true=>P
 |false=>False
def eJ.out(n:eJ K L):K=true/\L:=by
 cases K
 ·exact n.elim
 ·exact⟨rfl,n⟩
abbrev cd:=Nat->Value
abbrev iK:=Exit->cd->cP->List Deferred->World->Prop
def OW(a:Value)(P:Value->Prop):Prop:=match a with
 | .pointer b=>YL b P
 | .func (.func c) first n=>P (.func (.func c) first n)
 |_=>False
def wm(n:Program)(P a:Nat):List Oper->Value
 |[]=>undef
 |c::b=>match c.op with
  | .extract (.tmp d) e=>match Nat.beq d P with
   |true=>match Nat.beq e a with
    |true=>ej n c.type
    |false=>wm n P a b
   |false=>wm n P a b
  |_=>wm n P a b
def Ao(a:Program)(n:Array Oper)(P:Option Tmp)(b:Nat):Value:=match P with
 |some P=>wm a P b n.toList
 |none=>undef
def ix(e:Bool)(n:Value)(P:Value->Prop):Prop:=(n= .tuple #[.bool false]/\P (.tuple #[.bool false]))\/(match e with
 |true=>∃a b,n= .tuple #[.bool true,.int .i64 a,.int .i32 b]/\P (.tuple #[.bool true,.int .i64 a,.int .i32 b])
 |false=>∃c d,n= .tuple #[.bool true,c,d]/\P (.tuple #[.bool true,c,d]))
def ix.out(h:ix K v M):M v:=by
 unfold ix at h;rcases h with⟨rfl,h⟩|h
 ·exact h
 ·cases K
  ·obtain⟨n,P,rfl,h⟩:=h;exact h
  ·obtain⟨n,P,rfl,h⟩:=h;exact h
def GP(a z1:Value)(b:Value)(c:Value->Prop):Prop:=uX a λn=>uX z1 λP=>b= .tuple #[n,P]/\c (.tuple #[n,P])
def GP.out{a z1:Value}(c:GP a z1 v M):M v:=by
 obtain⟨P,d⟩:=uX.out (z:=a) (φ:=λP=>uX z1 λn=>v= .tuple #[P,n]/\M (.tuple #[P,n])) c;obtain⟨n,b⟩:=uX.out (z:=z1) (φ:=λn=>v= .tuple #[P,n]/\M (.tuple #[P,n])) d;rw[b.1];exact b.2
def GQ(a:Value)(b:Value)(c:Value->Prop):Prop:=uX a λn=>∃P,b= .tuple #[n,.bool P]/\c (.tuple #[n,.bool P])
def GQ.out{z n:Value}(b:GQ z n M):M n:=by
 obtain⟨P,a,c,d⟩:=uX.out (z:=z) (φ:=λP=>∃a,n= .tuple #[P,.bool a]/\M (.tuple #[P,.bool a])) b;rw[c];exact d
def RR(e:Program)(p:Array Oper)(a:cd)(b:Oper)(m:iK)(i:cP->List Deferred->World->Prop)(n:cP)(c:List Deferred)(h:World):Prop:=
 match b.op with
 | .load k t=>eJ (known e k) (jZ e k (ev a n t) h λd=>i (cf n b.dst d) c h)
 | .store k t o=>eJ (known e k) (oG e k (ev a n t) (ev a n o) h λP=>i (cf n b.dst undef) c P)
 | .indexAddr k o s=>eJ (il e k) (TZ e k (ev a n o) (ev a n s) λd=>i (cf n b.dst d) c h)
 | .slice k o x y z=>eJ (il e k) (T_ e k (ev a n o) (x.map (ev a n)) (y.map (ev a n)) (z.map (ev a n)) λd=>i (cf n b.dst d) c h)
 | .nilCheck o=>OW (ev a n o) λd=>i (cf n b.dst d) c h
 | .index k o s=>match e.underlying k with
  |some .string=>GN (ev a n o) (ev a n s) λd=>i (cf n b.dst d) c h
  |_=>aJ e (Instr.index k (ev a n o) (ev a n s)) h (λd P=>i (cf n b.dst d) c P) (λj P=>m (.panic [{v:=j,recovered:=false}]) a n c P)
 | .call {callee:=.value (.func g),args,..}=>match enters e g with
  |true=>Nh e g (args.map (ev a n)) b.type h (λd P=>i (cf n b.dst d) c P) (λr P=>m (.panic r) a n c P)
  |false=>Tx e g (args.map (ev a n)) h (λd P=>uI e b.type λl=>d=l/\i (cf n b.dst l) c P) (λj P=>m (.panic [{v:=j,recovered:=false}]) a n c P)
 | .call {callee:=.value f,args,..}=>VL e (ev a n f) (args.map (ev a n)) b.type h (λd P=>i (cf n b.dst d) c P) (λr P=>m (.panic r) a n c P)
 | .call {callee:=.invoke f name,args,..}=>YM e (ev a n f) name (args.map (ev a n)) b.type h (λd P=>i (cf n b.dst d) c P) (λr P=>m (.panic r) a n c P)
 | .defer {callee:=.value f,args,..}=>match ev a n f with
  | .func A first u=>i (cf n b.dst undef) ({target:=.fn A u,args:=first++args.map (ev a n)}::c) h
  |_=>False
 | .next v q=>aJ e (Instr.next (ev a n v) q b.type) h (λd P=>ix q d λl=>i (cf n b.dst l) c P) (λj P=>m (.panic [{v:=j,recovered:=false}]) a n c P)
 | .entry v=>aJ e (Instr.entry (ev a n v)) h (λd P=>GP (Ao e p b.dst 0) (Ao e p b.dst 1) d λl=>i (cf n b.dst l) c P) (λj P=>m (.panic [{v:=j,recovered:=false}]) a n c P)
 | .mapEntry k B C=>aJ e (Instr.mapEntry k (ev a n B) (ev a n C)) h (λd P=>GP (Ao e p b.dst 0) (Ao e p b.dst 1) d λl=>i (cf n b.dst l) c P) (λj P=>m (.panic [{v:=j,recovered:=false}]) a n c P)
 | .typeAssert o E w true=>aJ e (Instr.typeAssert (ev a n o) E w true) h (λd P=>GQ (ej e w) d λl=>i (cf n b.dst l) c P) (λj P=>m (.panic [{v:=j,recovered:=false}]) a n c P)
 |_=>match OU (ev a n) b with
  |some q=>match GO e b with
   |true=>aJ e q h (λd P=>uI e b.type λl=>d=l/\i (cf n b.dst l) c P) (λj P=>m (.panic [{v:=j,recovered:=false}]) a n c P)
   |false=>aJ e q h (λd P=>i (cf n b.dst d) c P) (λj P=>m (.panic [{v:=j,recovered:=false}]) a n c P)
  |none=>match Ua (ev a n) b with
   |some q=>lL e q h (λP=>i (cf n b.dst undef) c P) (λj P=>m (.panic [{v:=j,recovered:=false}]) a n c P)
   |none=>False
def je(P:enters h z=true)(n:Array Value)(a:World):(callFunc z n).run h a= .ok (.enter z n) a:=by
 unfold enters at P;split at P
 ·rename_i b c
  split at P
  ·rename_i f d
   have e:¬b.name= "runtime.NumGoroutine":=by simpa using P
   simp[callFunc,program,Sem.run,c,d,e]
  ·cases P
 ·cases P
def uJ{next:Act->World->Prop}(f:Nh h z m g b o a6)(i:∀P n,o P n->next (I.put S.dst P) n)(j:∀a n,a6 a n->d5 (.panic a) I n):
  S.upon h I next d5 (.ok (.enter z m) b):=by
 rw[Oper.upon_enter];refine Calls.mono f λk n c=>?_
 cases k with
 |returned P=>
  obtain⟨d,rfl,e⟩:=uI.out (φ:=λd=>P=d/\o d n) c;exact i _ _ e
 |panicked a=>exact j _ _ c
 |outgrown=>exact c.elim
def known.out{P:Program}(n:known P g=true):(∃a,P.underlying g=some a)/\∃b,P.info? g=some b:=by
 unfold known at n;split at n
 ·rename_i a b c d;exact⟨⟨a,c⟩,b,d⟩
 ·cases n
def il.out{P:Program}(a:il P g=true):∀n,(P.underlying g=some (.slice n)\/∃e,P.underlying g=some (.array e n))->∃b,P.info? n=some b:=by
 intro n c;unfold il at a;rcases c with c|⟨e,c⟩
 ·rw[c]at a
  cases d:P.info? n with
  |none=>simp[d]at a
  |some b=>exact⟨b,rfl⟩
 ·rw[c]at a
  cases d:P.info? n with
  |none=>simp[d]at a
  |some b=>exact⟨b,rfl⟩
variable{V:cd}{c2:iK}
def GR{P:Program}{next:Act->World->Prop}(p:Rel a V O I)(L:∀M,S.dst=some M->M<a)(n:RR P U V S c2 h6 O I.defers b)(N:∀d A e,Rel a V (cf O S.dst d) A->h6 (cf O S.dst d) A.defers e->next A e)(x:∀Q e,c2 (.panic Q) V O I.defers e->d5 (.panic Q) I e):S.wp P I b next d5:=by
 have t:∀d e,h6 (cf O S.dst d) I.defers e->next (I.put S.dst d) e:=λd e B=>
  N d _ _ (p.put S.dst L d) (by rw[put_defers];exact B)
 have i:∀g:Sem Value,(∀b,(execOp (ev V O) S).run P b=(g.run P b).andThen λd e=>.ok (.value d) e)->
   aJ P g b (λd e=>h6 (cf O S.dst d) I.defers e) (λC e=>c2 (.panic [{v:=C,recovered:=false}]) V O I.defers e)->S.wp P I b next d5:=by
  intro g m k;unfold Oper.wp;rw[p.eval,m];unfold aJ at k
  cases l:g.run P b with
  |ok d e=>
   rw[l]at k;exact t _ _ k
  |halt j e=>
   rw[l]at k
   cases j with
   |panic d=>exact x _ _ k
   |_=>exact k.elim
 have u:∀g:Sem Unit,(∀b,(execOp (ev V O) S).run P b=(g.run P b).andThen λ_ e=>.ok .skip e)->
   lL P g b (λe=>h6 (cf O S.dst undef) I.defers e) (λC e=>c2 (.panic [{v:=C,recovered:=false}]) V O I.defers e)->S.wp P I b next d5:=by
  intro g m k;unfold Oper.wp;rw[p.eval,m];unfold lL at k
  cases l:g.run P b with
  |ok d e=>
   rw[l]at k;exact t _ _ k
  |halt j e=>
   rw[l]at k
   cases j with
   |panic d=>exact x _ _ k
   |_=>exact k.elim
 have h:∀(g:Sem Value),(∀b,(execOp (ev V O) S).run P b=(g.run P b).andThen λd e=>.ok (.value d) e)->
   (∃d,g.run P b= .ok d b/\h6 (cf O S.dst d) I.defers b)->S.wp P I b next d5:=by
  rintro g m ⟨d,r,B⟩;unfold Oper.wp;rw[p.eval,m,r];exact t _ _ B
 unfold RR at n;split at n
 ·rename_i o j f
  obtain⟨q,n⟩:=n.out;obtain⟨d,r,n⟩:=jZ.out (known.out q).1 n;exact h (Instr.loadAt o (ev V O j)) (λb=>by simp[execOp,f]) ⟨d,r b rfl,n⟩
 ·rename_i o j T f
  obtain⟨q,n⟩:=n.out;obtain⟨e,W,n⟩:=oG.out (P:=P) (known.out q).2 n;exact u (Instr.storeAt o (ev V O j) (ev V O T)) (λb=>by simp[execOp,f]) (lL.mk W n)
 ·rename_i o j y f
  obtain⟨q,n⟩:=n.out;obtain⟨d,r,n⟩:=TZ.out (il.out q) n;exact h (Instr.indexAt o (ev V O j) (ev V O y)) (λb=>by simp[execOp,f]) ⟨d,r b,n⟩
 ·rename_i o j X Y Z f
  obtain⟨q,n⟩:=n.out;obtain⟨d,r,n⟩:=T_.out (λO E=>il.out q O (.inl E)) n;exact h (Instr.sliceAt o (ev V O j) (X.map (ev V O)) (Y.map (ev V O)) (Z.map (ev V O))) (λb=>by simp[execOp,f]) ⟨d,r b,n⟩
 ·rename_i j f
  unfold OW at n;split at n
  ·rename_i a5 F
   obtain⟨a6,a0,rfl,n⟩:=n;unfold Oper.wp;rw[p.eval];simp only[execOp,f,F,Sem.run_pure,Oper.upon_value];exact t _ _ n
  ·rename_i w first s F
   unfold Oper.wp;rw[p.eval];simp only[execOp,f,F,Sem.run_pure,Oper.upon_value];exact t _ _ n
  ·exact n.elim
 ·rename_i o j y f
  split at n
  ·rename_i H
   obtain⟨d,r,n⟩:=GN.out H n;exact h (Instr.index o (ev V O j) (ev V O y)) (λb=>by simp[execOp,f]) ⟨d,r b,n⟩
  ·exact i (Instr.index o (ev V O j) (ev V O y)) (λb=>by simp[execOp,f]) n
 ·rename_i w c v f
  split at n
  ·rename_i q
   have l:(execOp (ev V O) S).run P b= .ok (.enter w (c.map (ev V O))) b:=by
    simp[execOp,f,resolve,ev,Deferred.ofValue,invoke,je q]
   unfold Oper.wp;rw[p.eval,l];exact uJ n t x
  ·obtain⟨g,m,n⟩:=n
   refine i g (λb=>by simp[execOp,f,resolve,ev,Deferred.ofValue,invoke,m]) (aJ.imp ?_ n);intro d e n;obtain⟨a1,rfl,n⟩:=uI.out n;exact n
 ·rename_i z c v a7 f
  obtain⟨w,first,s,J,q,n⟩:=n;have l:(execOp (ev V O) S).run P b= .ok (.enter w (first++c.map (ev V O)++s)) b:=by
   simp[execOp,f,resolve,J,Deferred.ofValue,invoke,je q]
  unfold Oper.wp;rw[p.eval,l];exact uJ n t x
 ·rename_i z R c v f
  obtain⟨w,as,hm,n⟩:=n;have l:(execOp (ev V O) S).run P b= .ok (.enter w as) b:=by
   have E:(c.map (ev V O)).extract 0 c.size=c.map (ev V O):=by
    have:c.size=(c.map (ev V O)).size:=by simp
    rw[this,Array.extract_size]
   have h0:(#[ev V O z]++c.map (ev V O))[0]? =some (ev V O z):=by rw[Array.getElem?_append_left (Nat.zero_lt_one)];rfl
   simp[execOp,f,resolve,invoke,E,hm,h0]
  unfold Oper.wp;rw[p.eval,l];exact uJ n t x
 ·rename_i z c v f
  split at n
  ·rename_i fn first s J
   have l:(execOp (ev V O) S).run P b= .ok (.defer {target:=.fn fn s,args:=first++c.map (ev V O)}) b:=by
    simp[execOp,f,resolve,J,Deferred.ofValue]
   unfold Oper.wp;rw[p.eval,l,Oper.upon_defer];exact N undef _ _ ((p.defers _).put S.dst L undef) (by rw[put_defers];exact n)
  ·exact n.elim
 ·rename_i K g f
  refine i (Instr.next (ev V O K) g S.type) (λb=>by simp[execOp,f]) (aJ.imp (λd e n=>?_) n);exact n.out
 ·rename_i K f
  refine i (Instr.entry (ev V O K)) (λb=>by simp[execOp,f]) (aJ.imp (λd e n=>?_) n);exact n.out
 ·rename_i o a2 a3 f
  refine i (Instr.mapEntry o (ev V O a2) (ev V O a3)) (λb=>by simp[execOp,f]) (aJ.imp (λd e n=>?_) n);exact n.out
 ·rename_i j xT a4 f
  refine i (Instr.typeAssert (ev V O j) xT a4 true) (λb=>by simp[execOp,f]) (aJ.imp (λd e n=>?_) n);exact n.out
 ·split at n
  ·rename_i g m
   split at n
   ·refine i g (λb=>jP m P b) (aJ.imp ?_ n)
    intro d e n;obtain⟨a1,rfl,n⟩:=uI.out n;exact n
   ·exact i g (λb=>jP m P b) n
  ·split at n
   ·rename_i g m
    exact u g (λb=>OV m P b) n
   ·exact n.elim
def jx(n:Array Oper)(P:Nat):Option Nat:=match n[P]? with
 |some a=>a.dst
 |none=>none
def B_(b:Program)(a:cd)(n:Array Oper)(c:iK):List Oper->(cP->List Deferred->World->Prop)->cP->List Deferred->World->Prop
 |[],e,d,f,g=>e d f g
 |i::P,e,d,f,g=>match i.guard with
  |none=>RR b n a i c (B_ b a n c P e) d f g
  |some (k,h)=>match jx n k with
   |none=>False
   |some j=>match get a d j with
    | .bool l=>al l
     (match h with
      |true=>RR b n a i c (B_ b a n c P e) ((j,.bool true)::d) f g
      |false=>B_ b a n c P e (cf ((j,.bool true)::d) i.dst undef) f g)
     (match h with
      |true=>B_ b a n c P e (cf ((j,.bool false)::d) i.dst undef) f g
      |false=>RR b n a i c (B_ b a n c P e) ((j,.bool false)::d) f g)
    | .tuple _=>B_ b a n c P e (cf d i.dst undef) f g
    |_=>False
def Rel.again(n:Rel a V O I)(P:get V O c=v):Rel a V ((c,v)::O) I:=
 ⟨n.size,λd=>by
  rw[d_,n.slot];split
  ·rename_i b;subst b;exact P
  ·rfl⟩
def sv(P:get V O a=v)(n:Nat):get V ((a,v)::O) n=get V O n:=by
 rw[d_];split
 ·rename_i b;subst b;exact P.symm
 ·rfl
def px(P:Rel a V O I)(n:jx U c=some i)(g:i<a):
  yielded U I.tmps c=match get V O i with| .bool d=>some d|_=>none:=by
 have e:((U[c]?).bind (·.dst))=some i:=by
  unfold jx at n
  cases b:U[c]? with
  |none=>rw[b]at n;simp at n
  |some h=>rw[b]at n;simpa using n
 unfold yielded;rw[e];have j:=P.size;have f:I.tmps[i]? =some (get V O i):=by
  rw[<-P.slot];have:i<I.tmps.size:=by omega
  simp[Array.getD,this]
 simp only[Option.bind_some,f];split<;>simp_all
def df(c:Nat)(d:cd)(e:cP)(f:List Nat)(g:iK):Exit->Act->World->Prop:=λh b i=>
 ∃n P,Rel c n P b/\(∀a,a∉f->get n P a=get d e a)/\g h n P b.defers i
def Ap{s:Program}{k:Nat}{c q:cd}{r:cP}{j:List Nat}{b:Array Oper}{l:iK}(F:∀H P,jx b H=some P->P<k):
  ∀(I:List Oper) (n:cP) (h:Act) (g:World),(∀e∈I,∀f,e.dst=some f->f<k/\f∈j)->Rel k c n h->(∀P,P∉j->get c n P=get q r P)->
   B_ s c b l I (λn v g=>l .normal c n v g) n h.defers g->wpList s b (df k q r j l) I h g
 |[],n,h,g,_,m,i,d=>⟨c,n,m,i,d⟩
 |e::a,n,h,g,J,m,i,d=>by
  have O:∀f,e.dst=some f->f<k:=λf K=>(J e (List.mem_cons_self ..) f K).1;have Q:∀(n:cP),(∀P,P∉j->get c n P=get q r P)->∀w P,P∉j->get c (cf n e.dst w) P=get q r P:=by
   intro n i w P L
   cases K:e.dst with
   |none=>exact i P L
   |some f=>
    have S:=(J e (List.mem_cons_self ..) f K).2;show get c ((f,w)::n) P=_;rw[d_,if_neg (by rintro rfl;exact L S)];exact i P L
  have x:∀e∈a,∀f,e.dst=some f->f<k/\f∈j:=λe T=>J e (List.mem_cons_of_mem _ T);have o:∀(n:cP),Rel k c n h->(∀P,P∉j->get c n P=get q r P)->B_ s c b l a (λn v g=>l .normal c n v g) (cf n e.dst undef) h.defers g->
    wpList s b (df k q r j l) a (h.put e.dst undef) g:=λn m i d=>
   Ap F a _ _ _ x (m.put _ O _) (Q n i _) (by rw[put_defers];exact d)
  have t:∀(n:cP),Rel k c n h->(∀P,P∉j->get c n P=get q r P)->RR s b c e l (B_ s c b l a λn v g=>l .normal c n v g) n h.defers g->
    e.wp s h g (wpList s b (df k q r j l) a) (df k q r j l):=λn m i d=>
   GR m O d (λw Y U M V=>Ap F a _ _ _ x M (Q n i w) V) (λZ U W=>⟨c,n,m,i,W⟩)
  unfold wpList;unfold B_ at d;split at d
  ·rename_i A
   rw[if_pos (by simp[Region.wanted,A])];exact .inl (t n m i d)
  ·rename_i H p A
   split at d
   ·exact d.elim
   ·rename_i P R
    have u:=px m R (F H P R);split at d
    ·rename_i B y
     rw[y]at u;simp only at u;have N:Region.wanted e (yielded b h.tmps)=(B==p):=by
      simp only[Region.wanted,A,u]
      cases B<;>cases p<;>rfl
     rw[N];have C:=m.again y;have E:∀z,z∉j->get c ((P,.bool B)::n) z=get q r z:=λz X=>by rw[sv y];exact i z X
     cases B<;>cases p<;>simp only[al]at d
     ·exact .inl (t _ C E d)
     ·exact o _ C E d
     ·exact o _ C E d
     ·exact .inl (t _ C E d)
    ·rename_i vs y
     rw[y]at u;simp only at u;have N:Region.wanted e (yielded b h.tmps)=false:=by
      simp[Region.wanted,A,u]
     rw[N];exact o _ m i d
    ·exact d.elim
def Ca{n:Type}(P:Program):Sem n->Option n
 | .pure a=>some a
 | .program b=>Ca P (b P)
 |_=>none
def xN{c:Type}{b:Program}:∀{s:Sem c} {a:c},Ca b s=some a->∀P,s.run b P= .ok a P
 | .pure e,a,n,P=>by simp only[Ca,Option.some.injEq]at n;subst n;rfl
 | .program d,a,n,P=>by simp only[Ca]at n;exact xN (s:=d b) n P
 | .load ..,_,n,_| .store ..,_,n,_| .new ..,_,n,_| .shape ..,_,n,_| .freeze ..,_,n,_| .frozen ..,_,n,_| .getObj ..,_,n,_| .setObj ..,_,n,_
 | .choose ..,_,n,_| .sys ..,_,n,_| .mark ..,_,n,_| .halt ..,_,n,_=>by simp[Ca]at n
def WY(n:Program)(c:Sem Value)(d:TypeId)(P:World)(e:Value->Prop):Prop:=uI n d λa=>(∀b,c.run n (P.drewN b)= .ok a (P.drewN b))/\e a
def VM(P:Program)(c:FuncId)(n:Array Value)(d:TypeId)(a:World)(e:Value->Prop):Prop:=
 uI P d λb=>(∀f,Calls P c n (a.drewN f) λg h=>g= .returned b/\∃i,h=a.drewN i)/\e b
def RS(b:Program)(c:cd)(a:Oper)(e:cP->Prop)(n:cP)(h:World):Prop:=
 match a.op with
 | .load d k=>eJ (known b d) (jZ b d (ev c n k) h λP=>e (cf n a.dst P))
 | .indexAddr d f i=>eJ (il b d) (TZ b d (ev c n f) (ev c n i) λP=>e (cf n a.dst P))
 | .slice d f l m o=>eJ (il b d) (T_ b d (ev c n f) (l.map (ev c n)) (m.map (ev c n)) (o.map (ev c n)) λP=>e (cf n a.dst P))
 | .nilCheck f=>OW (ev c n f) λP=>e (cf n a.dst P)
 | .index d f i=>match b.underlying d with
  |some .string=>GN (ev c n f) (ev c n i) λP=>e (cf n a.dst P)
  |_=>False
 | .call {callee:=.value (.func g),args,..}=>eJ (enters b g) (VM b g (args.map (ev c n)) a.type h λP=>e (cf n a.dst P))
 |_=>match OU (ev c n) a with
  |some j=>match GO b a with
   |true=>WY b j a.type h λP=>e (cf n a.dst P)
   |false=>match Ca b j with
    |some P=>e (cf n a.dst P)
    |none=>False
  |none=>False
def tx(c:Program)(b:cd)(P:Array Oper):List Oper->(cP->Prop)->cP->World->Prop
 |[],e,a,_=>e a
 |g::n,e,a,d=>match g.guard with
  |none=>RS c b g (λa=>tx c b P n e a d) a d
  |some (i,f)=>match jx P i with
   |none=>False
   |some h=>match get b a h with
    | .bool j=>al j
     (match f with
      |true=>RS c b g (λa=>tx c b P n e a d) ((h,.bool true)::a) d
      |false=>tx c b P n e (cf ((h,.bool true)::a) g.dst undef) d)
     (match f with
      |true=>tx c b P n e (cf ((h,.bool false)::a) g.dst undef) d
      |false=>RS c b g (λa=>tx c b P n e a d) ((h,.bool false)::a) d)
    | .tuple _=>tx c b P n e (cf a g.dst undef) d
    |_=>False
def cy(n:World):World->Prop:=λP=>∃a,P=n.drewN a
def uK{next:Act->Prop}(u:Rel a V O I)(n:RS h V S e8 O b)(v:∀P,e8 (cf O S.dst P)->next (I.put S.dst P)):S.quiet h I (cy b) next:=by
 have c:∀k:Sem Value,(∀b,(execOp (ev V O) S).run h b=(k.run h b).andThen λP w=>.ok (.value P) w)->
   (∃P,(∀e,k.run h (b.drewN e)= .ok P (b.drewN e))/\e8 (cf O S.dst P))->S.quiet h I (cy b) next:=by
  rintro k m ⟨P,d,x⟩;refine⟨P,?_,v P x⟩;rintro _ ⟨e,rfl⟩;unfold Oper.quietAt;rw[u.eval,m,d];exact⟨rfl,rfl⟩
 unfold RS at n;split at n
 ·rename_i i g f
  obtain⟨j,n⟩:=n.out;obtain⟨P,d,n⟩:=jZ.out (known.out j).1 n;exact c (Instr.loadAt i (ev V O g)) (λb=>by simp[execOp,f]) ⟨P,λe=>d _ rfl,n⟩
 ·rename_i i g o f
  obtain⟨j,n⟩:=n.out;obtain⟨P,d,n⟩:=TZ.out (il.out j) n;exact c (Instr.indexAt i (ev V O g) (ev V O o)) (λb=>by simp[execOp,f]) ⟨P,λe=>d _,n⟩
 ·rename_i i g y z A f
  obtain⟨j,n⟩:=n.out;obtain⟨P,d,n⟩:=T_.out (λO B=>il.out j O (.inl B)) n;exact c (Instr.sliceAt i (ev V O g) (y.map (ev V O)) (z.map (ev V O)) (A.map (ev V O))) (λb=>by simp[execOp,f]) ⟨P,λe=>d _,n⟩
 ·rename_i g f
  unfold OW at n;split at n
  ·rename_i H p
   obtain⟨C,q,rfl,n⟩:=n;exact c (.pure (.pointer (some ⟨C,q,none⟩))) (λb=>by simp[execOp,f,p]) ⟨_,λe=>rfl,n⟩
  ·rename_i r first s p
   exact c (.pure (.func (.func r) first s)) (λb=>by simp[execOp,f,p]) ⟨_,λe=>rfl,n⟩
  ·exact n.elim
 ·rename_i i g o f
  split at n
  ·rename_i t
   obtain⟨P,d,n⟩:=GN.out t n;exact c (Instr.index i (ev V O g) (ev V O o)) (λb=>by simp[execOp,f]) ⟨P,λe=>d _,n⟩
  ·exact n.elim
 ·rename_i r l E f
  obtain⟨j,n⟩:=n.out;obtain⟨P,d,n⟩:=uI.out n;refine⟨P,?_,v P n⟩;rintro _ ⟨e,rfl⟩;have F:(execOp (ev V O) S).run h (b.drewN e)= .ok (.enter r (l.map (ev V O))) (b.drewN e):=by
   simp[execOp,f,resolve,ev,Deferred.ofValue,invoke,je j]
  unfold Oper.quietAt;rw[u.eval,F];exact⟨rfl,d e⟩
 ·split at n
  ·rename_i k m
   split at n
   ·obtain⟨P,d,n⟩:=uI.out n
    exact c k (λb=>jP m h b) ⟨P,d,n⟩
   ·split at n
    ·rename_i P d
     exact c k (λb=>jP m h b) ⟨P,λe=>xN d _,n⟩
    ·exact n.elim
  ·exact n.elim
def rH{v:Program}{l:Nat}{f B0:cd}{e0:cP}{W:List Nat}{c:Array Oper}{w:World}{x:cP->Prop}(K:∀B n,jx c B=some n->n<l):
  ∀(C:List Oper) (P:cP) (h:Act),(∀a∈C,∀d,a.dst=some d->d<l/\d∈W)->Rel l f P h->(∀n,n∉W->get f P n=get B0 e0 n)->
   tx v f c C x P w->wpQuiet v c (cy w) (λr=>∃m,Rel l f m r/\r.defers=h.defers/\(∀n,n∉W->get f m n=get B0 e0 n)/\x m) C h
 |[],P,h,_,k,j,b=>⟨P,k,rfl,j,b⟩
 |a::g,P,h,E,k,j,b=>by
  have M:∀d,a.dst=some d->d<l:=λd F=>(E a (List.mem_cons_self ..) d F).1;have N:∀(P:cP),(∀n,n∉W->get f P n=get B0 e0 n)->∀e n,n∉W->get f (cf P a.dst e) n=get B0 e0 n:=by
   intro P j e n H
   cases F:a.dst with
   |none=>exact j n H
   |some d=>
    have O:=(E a (List.mem_cons_self ..) d F).2;show get f ((d,e)::P) n=_;rw[d_,if_neg (by rintro rfl;exact H O)];exact j n H
  have I:∀a∈g,∀d,a.dst=some d->d<l/\d∈W:=λa Q=>E a (List.mem_cons_of_mem _ Q);have o:∀(P:cP) (e:Value),Rel l f P h->(∀n,n∉W->get f P n=get B0 e0 n)->tx v f c g x (cf P a.dst e) w->
    wpQuiet v c (cy w) (λr=>∃m,Rel l f m r/\r.defers=h.defers/\(∀n,n∉W->get f m n=get B0 e0 n)/\x m) g (h.put a.dst e):=λP e k j b=>by
   have:=rH K g (cf P a.dst e) (h.put a.dst e) I (k.put _ M _) (N P j _) b;rw[put_defers]at this;exact this
  unfold wpQuiet;unfold tx at b;split at b
  ·rename_i y
   rw[if_pos (by simp[Region.wanted,y])];exact uK k b λe s=>o P e k j s
  ·rename_i B i y
   split at b
   ·exact b.elim
   ·rename_i n L
    have p:=px k L (K B n L);split at b
    ·rename_i z t
     rw[t]at p;simp only at p;have J:Region.wanted a (yielded c h.tmps)=(z==i):=by
      simp only[Region.wanted,y,p]
      cases z<;>cases i<;>rfl
     rw[J];have q:=k.again t;have A:∀u,u∉W->get f ((n,.bool z)::P) u=get B0 e0 u:=λu R=>by rw[sv t];exact j u R
     cases z<;>cases i<;>simp only[al]at b
     ·exact uK q b λe s=>o _ e q A s
     ·exact o _ _ q A b
     ·exact o _ _ q A b
     ·exact uK q b λe s=>o _ e q A s
    ·rename_i S t
     rw[t]at p;simp only at p;have J:Region.wanted a (yielded c h.tmps)=false:=by
      simp[Region.wanted,y,p]
     rw[J];exact o _ _ k j b
    ·exact b.elim
def kindOf(n:Program)(c:Oper):Nat:=match c.op with
 | .move _| .assign _| .pick .. | .build .. | .binOp .. | .unOp .. | .indexAddr .. | .slice .. | .nilCheck _| .fieldAddr .. | .field .. | .index .. | .extract .. | .typeAssert .. =>0
 | .convert P a _=>match isInt n P with
  |true=>match isInt n a with
   |true=>0
   |false=>2
  |false=>2
 | .load .. | .lookup .. =>1
 | .call {callee:=.builtin b,argTypes,..}=>match b with
  | .len=>match isMap n (argTypes.getD 0 0)with
   |true=>1
   |false=>0
  | .cap| .max| .min=>0
  |_=>2
 |_=>2
def jQ(P:Program)(n:Array Oper)(a:Nat):Nat:=match n[a]? with
 |some b=>kindOf P b
 |none=>2
def gu(P:Program)(n:Array Oper)(a:Nat):Bool:=match jQ P n a with
 |2=>false
 |_=>true
def Nj(n:Program):List Oper->Bool
 |[]=>false
 |P::a=>match kindOf n P with
  |2=>true
  |_=>Nj n a
def ow(P:Program)(n:Array Oper):List Nat->Option Nat
 |[]=>none
 |a::b=>match gu P n a with
  |true=>some a
  |false=>ow P n b
def lN{b:Program}{P:Array Oper}{a:Nat}:∀{c:List Nat},ow b P c=some a->a∈c/\gu b P a=true
 |[],n=>by cases n
 |g::h,n=>by
  unfold ow at n;split at n
  ·rename_i d;cases n;exact⟨List.mem_cons_self ..,d⟩
  ·obtain⟨e,f⟩:=lN n;exact⟨List.mem_cons_of_mem _ e,f⟩
def uL{c:Program}{n:Array Oper}:∀{d:List Nat},ow c n d=none->∀a∈d,gu c n a=false
 |[],_,a,P=>by cases P
 |f::g,b,a,P=>by
  unfold ow at b;split at b
  ·cases b
  ·rename_i e
   rcases List.mem_cons.1 P with rfl|P
   ·exact e
   ·exact uL b a P
def I_(n:a0.getD a true=false):a0.getD a false=false:=by
 rcases Nat.lt_or_ge a a0.size with P|P
 ·simp[P]at n⊢;exact n
 ·simp[Array.getElem?_eq_none P]at n
def nk(P:Array Oper)(b:Nat):Nat->Array Bool->Array Bool
 |0,n=>n
 |f+1,n=>match(Region.ready .any P n).find? (λa=>!Nat.beq a b)with
  |some a=>nk P b f (n.setIfInBounds a true)
  |none=>n
def fD(c:Program)(n:Array Oper)(listed:Array Bool)(a:Nat):Bool:=
 (λb:Array Bool=>!b.getD a true&&(Region.ready .any n b).all (λP=>Nat.beq P a)&&
  (List.range n.size).all λP=>!b.getD P false||gu c n P||listed.getD P false) (nk n a n.size listed)
structure wo (P:Program) (ops:Array Oper) (i:Nat) (listed M:Array Bool):Prop where
 sub:∀k,listed.getD k false=true->M.getD k false=true
 only:∀j∈Region.ready .any ops M,j=i
 still:∀j,j<ops.size->M.getD j false=true->listed.getD j false=false->gu P ops j=true
 size:M.size=listed.size
def rJ{ops:Array Oper}{i:Nat}:∀(f:Nat) (n:Array Bool),(nk ops i f n).size=n.size/\∀P,n.getD P false=true->(nk ops i f n).getD P false=true
 |0,n=>⟨rfl,λ_ a=>a⟩
 |f+1,n=>by
  unfold nk;split
  ·rename_i b _
   obtain⟨c,d⟩:=rJ (ops:=ops) (i:=i) f (n.setIfInBounds b true);exact⟨by rw[c];simp,λP e=>d P (getD_set_true e)⟩
  ·exact⟨rfl,λ_ a=>a⟩
def tA{ops:Array Oper}{i:Nat}(n:fD h ops a0 i=true):∃b,wo h ops i a0 b:=by
 unfold fD at n;simp only[Bool.and_eq_true,List.all_eq_true]at n;obtain⟨⟨_,c⟩,d⟩:=n;obtain⟨e,f⟩:=rJ (ops:=ops) (i:=i) ops.size a0;refine⟨_,f,λP a=>Nat.eq_of_beq_eq_true (c P a),λP a g j=>?_,e⟩;have:=d P (List.mem_range.2 a);rw[g,j]at this;simpa using this
def wo.ready{i:Program}{a:Array Oper}{j:Nat}{n c:Array Bool}(b:wo i a j n c){P:Nat}(p:P∈Region.ready .any a n)(q:P≠j):
  gu i a P=true/\wo i a j (n.setIfInBounds P true) c:=by
 obtain⟨k,r,l,s⟩:=mem_ready.1 p;have t:P<a.size:=(Array.getElem?_eq_some_iff.1 l).1;have m:c.getD P false=true:=by
  by_cases d:c.getD P true=false
  ·exact absurd (b.only P (mem_ready.2 ⟨d,r,l,λu v w=>b.sub _ (s u v w)⟩)) q
  ·have x:P<n.size:=by
    rcases Nat.lt_or_ge P n.size with K|K
    ·exact K
    ·simp[Array.getElem?_eq_none K]at k
   have y:P<c.size:=by rw[b.size];exact x
   simp[y]at d⊢;exact d
 have o:n.getD P false=false:=I_ k;refine⟨b.still P t m o,λe h=>?_,b.only,λe h d f=>?_,by simp[b.size]⟩
 ·by_cases g:P=e
  ·subst g;exact m
  ·rw[getD_set_ne false g]at h;exact b.sub e h
 ·refine b.still e h d ?_
  by_cases g:P=e
  ·subst g;exact o
  ·rw[getD_set_ne false g]at f;exact f
structure yz (ops:Array Oper) (i:Nat) (listed M:Array Bool):Prop where
 sub:∀k,listed.getD k false=true->M.getD k false=true
 only:∀j∈Region.ready .any ops M,j=i
 size:M.size=listed.size
def rK(P:Array Oper)(n:Array Bool)(a:Nat):Bool:=
 (λb:Array Bool=>(Region.ready .any P b).all (λc=>Nat.beq c a)) (nk P a P.size n)
def Ja{ops:Array Oper}{i:Nat}(n:rK ops a0 i=true):yz ops i a0 (nk ops i ops.size a0):=by
 unfold rK at n;simp only[List.all_eq_true]at n;obtain⟨P,a⟩:=rJ (ops:=ops) (i:=i) ops.size a0;exact⟨a,λb c=>Nat.eq_of_beq_eq_true (n b c),P⟩
def yz.ready{a:Array Oper}{d:Nat}{n b:Array Bool}(c:yz a d n b){P:Nat}(k:P∈Region.ready .any a n)(l:P≠d):
  b.getD P false=true/\yz a d (n.setIfInBounds P true) b:=by
 obtain⟨m,o,p,q⟩:=mem_ready.1 k;have g:b.getD P false=true:=by
  by_cases e:b.getD P true=false
  ·exact absurd (c.only P (mem_ready.2 ⟨e,o,p,λr s t=>c.sub _ (q r s t)⟩)) l
  ·have u:P<n.size:=by
    rcases Nat.lt_or_ge P n.size with f|f
    ·exact f
    ·simp[Array.getElem?_eq_none f]at m
   have v:P<b.size:=by rw[c.size];exact u
   simp[v]at e⊢;exact e
 refine⟨g,λh i=>?_,c.only,by simp[c.size]⟩
 by_cases j:P=h
 ·subst j;exact g
 ·rw[getD_set_ne false j]at i;exact c.sub h i
def Ub(n:List PanicEntry->Act->World->Prop):Exit->Act->World->Prop:=λP a b=>match P with
 | .panic c=>n c a b
 |_=>False
def Uc(c:Program)(P:Array Oper)(a:Bool)(h:List PanicEntry->Act->World->Prop)(i:Nat->Prop)(g:Act->World->Prop):Nat->(World->Prop)->Array Bool->Act->World->Prop
 |0,_,n,e,d=>Region.ready .any P n=[]/\g e d
 |f+1,l,n,e,d=>(Region.ready .any P n=[]->g e d)/\∀b∈Region.ready .any P n,
  (gu c P b=true->stOp c P d b (λj=>Uc c P a h i g f l (n.setIfInBounds b true) j d) e)/\
  (gu c P b=false->wpOp c P (Ub h) b (λj m=>∃k:World->Prop,(a=true->i b->∀o,k o->l o)/\k m/\Uc c P a h i g f k (n.setIfInBounds b true) j m) e d)
def RT(e:∀f I b,e9 f I b->d5 (.panic f) I b)(n:wpOp h U (Ub e9) a f0 I b):wpOp h U d5 a f0 I b:=by
 unfold wpOp at*;split
 ·rename_i c;simpa only[c]using n
 ·rename_i g c
  simp only[c]at n;split
  ·rename_i d
   simp only[d,if_true]at n;rcases n with n|⟨_,_,_,n⟩
   ·left
    unfold Oper.wp at*;generalize(execOp I.eval g).run h b=i at*
    cases i with
    |ok j k=>
     cases j<;>simp only[Oper.upon]at n⊢<;>
      first
       |exact n
       |exact Calls.mono n (λl o P=>by cases l<;>first|exact P|exact e _ _ _ P|exact P.elim|(obtain⟨_,_,n⟩:=P;exact n.elim))
    |halt m k=>cases m<;>first|exact e _ _ _ n|exact(show False from n).elim
   ·exact n.elim
  ·rename_i d;simp only[d]at n;exact n
def jR{g:Program}{c:Array Oper}{d:Bool}{l:List PanicEntry->Act->World->Prop}{r:Nat->Prop}{m:Act->World->Prop}{h:Exit->Act->World->Prop}(i:∀o a P,l o a P->h (.panic o) a P)(e:∀a P,m a P->h .normal a P):∀(f:Nat) (j:World->Prop) (n:Array Bool) (a:Act) (P:World),
  Uc g c d l r m f j n a P->wpAny g .any c h f n a P
 |0,_,_,_,_,b=>⟨b.1,e _ _ b.2⟩
 |f+1,j,n,a,P,b=>⟨λs=>e _ _ (b.1 s),λp t=>by
   obtain⟨u,v⟩:=b.2 p t
   cases q:gu g c p with
   |true=>exact wpOp_of_stOp (λk b=>jR i e f j _ k P b) (u q)
   |false=>exact RT i (wpOp_mono (λk w ⟨x,_,_,b⟩=>jR i e f x _ k w b) (v q))⟩
section
variable {P:Program} {ops:Array Oper}
def OX{d h:Oper}(r:ops[a]? =some h)(s:d.apart ops h=true)(t:∀cs j,d.op≠.select cs j)(u:∀cs j,h.op≠.select cs j){m:Act->Prop}(w:∀e,y e->YieldsAt P ops e d v I)(c:stOp P ops b a m (I.put d.dst v)):
  stOp P ops b a (λo=>(∀e,y e->YieldsAt P ops e d v o)/\m (o.put d.dst v)) I:=by
 obtain⟨p,i,q⟩:=Oper.apart_spec s;have n:∀g,∀e,y e->YieldsAt P ops e d v (I.put h.dst g):=λg e x=>
  (w e x).of_same (execOp_put d t I h.dst g q) (wanted_put d I h.dst g q)
 unfold stOp at*;simp only[r]at*;rw[wanted_put h I d.dst v p]at c;split
 ·rename_i k
  simp only[k,if_true]at c;unfold Oper.still at*;rw[execOp_put h u I d.dst v p]at c;generalize(execOp I.eval h).run P b=z at*
  cases z with
  |ok A B=>
   cases A<;>simp only[Oper.stillUpon]at c⊢
   case value g=>exact⟨c.1,n g,by rw[<-Act.put_comm I v g i];exact c.2⟩
   case skip=>exact⟨c.1,n _,by rw[<-Act.put_comm I v undef i];exact c.2⟩
   case enter f args=>obtain⟨l,g,C,E⟩:=c;exact⟨l,g,C,n g,by rw[<-Act.put_comm I v g i];exact E⟩
  |halt e B=>simp only[Oper.stillUpon]at c
 ·rename_i k
  simp only[k]at c;exact⟨n _,by rw[<-Act.put_comm I v undef i];exact c⟩
def OY{g h:Oper}(t:∀o I b,e9 o (I.put g.dst v) b->e9 o I b)(B:ops[a]? =some h)(C:g.apart ops h=true)(u:∀cs p,g.op≠.select cs p)(E:∀cs p,h.op≠.select cs p)(w:∀n,y n->YieldsAt P ops n g v I)(d:wpOp P ops (Ub e9) a f0 (I.put g.dst v) b):
  wpOp P ops (Ub e9) a (λx q=>(∀n,y n->YieldsAt P ops n g v x)/\f0 (x.put g.dst v) q) I b:=by
 obtain⟨z,k,m⟩:=Oper.apart_spec C;have e:∀c,∀n,y n->YieldsAt P ops n g v (I.put h.dst c):=λc n r=>
  (w n r).of_same (execOp_put g u I h.dst c m) (wanted_put g I h.dst c m)
 have i:∀l c,∀n,y n->YieldsAt P ops n g v (({I with defers:=l::I.defers}:Act).put h.dst c):=λl c n r=>
  (show YieldsAt P ops n g v {I with defers:=l::I.defers}from w n r).of_same (execOp_put g u _ h.dst c m) (wanted_put g _ h.dst c m)
 unfold wpOp at*;simp only[B]at*;rw[wanted_put h I g.dst v z]at d;split
 ·rename_i s
  simp only[s,if_true]at d;rcases d with d|⟨_,_,_,d⟩
  ·left
   unfold Oper.wp at*;rw[execOp_put h E I g.dst v z]at d;generalize(execOp I.eval h).run P b=A at*
   cases A with
   |ok F q=>
    cases F<;>simp only[Oper.upon]at d⊢
    case value c=>exact⟨e c,by rw[<-Act.put_comm I v c k];exact d⟩
    case skip=>exact⟨e _,by rw[<-Act.put_comm I v undef k];exact d⟩
    case defer l=>exact⟨i l _,by rw[<-Act.put_comm _ v undef k,<-Act.put_defers];exact d⟩
    case enter f args=>
     refine Calls.mono d λH J j=>?_
     cases H with
     |returned c=>exact⟨e c,by rw[<-Act.put_comm I v c k];exact j⟩
     |panicked o=>exact t _ _ _ j
     |outgrown=>obtain⟨_,_,j⟩:=j;exact j.elim
    case row A args=>exact Rows.mono d λc J j=>⟨e c,by rw[<-Act.put_comm I v c k];exact j⟩
   |halt n q=>cases n<;>first|exact t _ _ _ d|exact(show False from d).elim
  ·exact d.elim
 ·rename_i s
  simp only[s]at d;exact⟨e _,by rw[<-Act.put_comm I v undef k];exact d⟩
def wq{a:Bool}{j:List PanicEntry->Act->World->Prop}{k l:Nat->Prop}(e:∀m,k m->l m){o:Act->World->Prop}:∀(f:Nat) (c:World->Prop) (n:Array Bool) (g:Act) (d:World),
  Uc P ops a j l o f c n g d->Uc P ops a j k o f c n g d
 |0,_,_,_,_,b=>b
 |f+1,c,n,g,d,b=>⟨b.1,λq r=>by
   obtain⟨s,t⟩:=b.2 q r;refine⟨λh=>stOp_mono (λi b=>wq e f c _ i d b) (s h),λh=>wpOp_mono (λi u ⟨p,v,w,x⟩=>⟨p,λy z=>v y (e _ z),w,wq e f p _ i u x⟩) (t h)⟩⟩
def iz(N:∀b,f b->Z b)(hE:∀T o g,e9 T (o.put S.dst v) g->e9 T o g)(I:ops[a]? =some S)(U:gu P ops a=true)(J:∀(b:Nat) (V:Oper) cs k,ops[b]? =some V->V.op≠.select cs k)(L:World->Prop):
  ∀(w:Nat) (p:World->Prop) (n:Array Bool) (o:Act) (g:World),
   (∀b q,ops[b]? =some q->b≠a->n.getD b true=false->(∀i∈q.after,Region.binds .any i=true->i.on≠a)->S.apart ops q=true)->
   a∈Region.ready .any ops n->(∀e,L e->YieldsAt P ops e S v o)->L g->p g->
   ((∀e,L e)\/(K=true/\(∀e,p e->L e)/\((∀b,Z b)\/∃h,yz ops a n h/\∀b,h.getD b false=true->Z b))\/∃h,wo P ops a n h)->
   Uc P ops K e9 Z f0 w p (n.setIfInBounds a true) (o.put S.dst v) g->Uc P ops K e9 f f0 (w+1) p n o g:=by
 intro w
 induction w with
 |zero=>
  intro p n o g _ l x t W _ y;refine⟨λc=>(by rw[c]at l;cases l),λb m=>?_⟩
  by_cases d:b=a
  ·subst d;exact⟨λ_=>(x g t).stOp I (wq N _ _ _ _ _ y),λc=>(by rw[U]at c;cases c)⟩
  ·have:=ready_mono m d
   rw[y.1]at this
   cases this
 |succ w O=>
  intro p n o g X l x t W Y y;refine⟨λc=>(by rw[c]at l;cases l),λb m=>?_⟩
  by_cases d:b=a
  ·subst d;exact⟨λ_=>(x g t).stOp I (wq N _ _ _ _ _ y),λc=>(by rw[U]at c;cases c)⟩
  ·obtain⟨hS,hT⟩:=y.2 b (ready_mono m d)
   obtain⟨a0,q,z,a4⟩:=mem_ready.1 m;have a5:∀i∈q.after,Region.binds .any i=true->i.on≠a:=λi he hb b0=>by
    have h1:=a4 i he hb;rw[b0,I_ (mem_ready.1 l).1]at h1
    cases h1
   have a6:=X b q z d a0 a5;have Q:∀u A,ops[u]? =some A->u≠a->(n.setIfInBounds b true).getD u true=false->
     (∀i∈A.after,Region.binds .any i=true->i.on≠a)->S.apart ops A=true:=λu A hk b1 a7 b2=>by
    refine X u A hk b1 ?_ b2
    by_cases a8:b=u
    ·subst a8;exact a0
    ·rw[getD_set_ne true a8]at a7;exact a7
   refine⟨λB=>?_,λB=>?_⟩
   ·have j:=OX z a6 (λcs k=>J a S cs k I) (λcs k=>J b q cs k z) x (hS B)
    refine stOp_mono (λM r=>O p (n.setIfInBounds b true) M g Q (ready_mono l (Ne.symm d)) r.1 t W ?_ ?_) j
    ·rcases Y with c|⟨s,c,j⟩|⟨h,c⟩
     ·exact .inl c
     ·exact .inr (.inl ⟨s,c,j.imp id λ⟨h,C,E⟩=>⟨h,(C.ready m d).2,E⟩⟩)
     ·exact .inr (.inr ⟨h,(c.ready m d).2⟩)
    ·rw[Array.setIfInBounds_comm _ _ d]
     exact r.2
   ·have j:=OY hE z a6 (λcs k=>J a S cs k I) (λcs k=>J b q cs k z) x (hT B)
    refine wpOp_mono (λM w' r=>?_) j;obtain⟨r,F,R,H,hM⟩:=r;have a1:K=true->f b->∀e,F e->p e:=λs t=>R s (N _ t);rcases Y with c|⟨s,c,j⟩|⟨h,c⟩
    ·exact⟨F,a1,H,O F (n.setIfInBounds b true) M w' Q (ready_mono l (Ne.symm d)) r (c _) H (.inl c) (by rw[Array.setIfInBounds_comm _ _ d];exact hM)⟩
    ·have a9:Z b:=by
      rcases j with j|⟨h,C,E⟩
      ·exact j b
      ·exact E b (C.ready m d).1
     exact⟨F,a1,H,O F (n.setIfInBounds b true) M w' Q (ready_mono l (Ne.symm d)) r (c _ (R s a9 _ H)) H (.inr (.inl ⟨s,λe hx=>c e (R s a9 e hx),j.imp id λ⟨h,C,E⟩=>⟨h,(C.ready m d).2,E⟩⟩)) (by rw[Array.setIfInBounds_comm _ _ d];exact hM)⟩
    ·rw[(c.ready m d).1]at B;cases B
end
def WZ(n:Bool)(a:Nat->Prop)(b:Value)(P:Prop):Prop:=match n with
 |false=>P
 |true=>match b with
  | .pointer (some c)=>¬a c.block/\P
  |_=>False
def fp(n:Bool)(b:Nat->Prop)(a:World):World->Prop:=match n with
 |true=>λP=>aj b a P
 |false=>λP=>P=a
def VN(n:Bool)(e:Nat->Prop)(b:Program)(c:Sem Value)(P:World)(d:Value):Prop:=match n with
 |true=>∀a,aj e P a->c.run b a= .ok d a
 |false=>c.run b P= .ok d P
def UU(n:Bool)(a:Nat->Prop)(b c:World)(P:Prop):Prop:=match n with
 |true=>aj a b c/\P
 |false=>P
def OZ(a:Program)(b:cd)(c:Oper)(e:Bool)(j:Nat->Prop)(f:cP->Prop)(n:cP)(k:World):Prop:=
 match c.op with
 | .load d l=>eJ (known a d) (WZ e j (ev b n l) (jZ a d (ev b n l) k λP=>f (cf n c.dst P)))
 | .indexAddr d g h=>eJ (il a d) (TZ a d (ev b n g) (ev b n h) λP=>f (cf n c.dst P))
 | .slice d g o p q=>eJ (il a d) (T_ a d (ev b n g) (o.map (ev b n)) (p.map (ev b n)) (q.map (ev b n)) λP=>f (cf n c.dst P))
 | .nilCheck g=>OW (ev b n g) λP=>f (cf n c.dst P)
 | .index d g h=>match a.underlying d with
  |some .string=>GN (ev b n g) (ev b n h) λP=>f (cf n c.dst P)
  |_=>False
 |_=>match OU (ev b n) c with
  |some i=>match GO a c with
   |true=>uI a c.type λP=>(match kindOf a c with
    |0=>∀m,i.run a m= .ok P m
    |_=>VN e j a i k P)/\f (cf n c.dst P)
   |false=>match Ca a i with
    |some P=>f (cf n c.dst P)
    |none=>False
  |none=>False
def jZ.YN(k:∃o,h.underlying g=some o)(n:jZ h g (.pointer (some d1)) b M):
  ∃P,(∀a,(∀e l,e.block=d1.block->b.cell? e=some l->a.cell? e=some l)->(Instr.loadAt g (.pointer (some d1))).run h a= .ok P a)/\M P:=by
 unfold jZ at n;simp only at n;split at n
 ·rename_i f
  split at n
  ·rename_i y p
   split at n
   ·rename_i q
    obtain⟨i,r,n⟩:=RP.out n;obtain⟨j,n⟩:=i_.out n;obtain⟨s,m,_⟩:=EF p (by simp[undef]);have t:s.size=i.length:=by
     have:=Nat.eq_of_beq_eq_true q;rw[jb m]at this;simp[this,r]
    refine⟨_,λa c=>?_,n⟩;have u:∀d P,i[d]? =some P->a.cell? (d1.add d)=some P:=λd P v=>
     c _ _ (by unfold Addr.add;split<;>rfl) (by have:=j d P v;simpa using this)
    have w:=run_loadCells_list (P:=h) (w:=a) d1 i u;simp only[Instr.loadAt,Instr.sureAddr,loadVar,Sem.run_bind,Sem.run_pure,Result.andThen_ok,dE h g _ f k,if_true,dF m,t,w]
   ·exact n.elim
  ·exact n.elim
 ·rename_i f
  obtain⟨P,x,n⟩:=PU.out n;refine⟨P,λa c=>?_,n⟩;have j:a.cell? d1=some P:=c _ _ rfl x;simp[Instr.loadAt,Instr.sureAddr,loadVar,dE h g _ f k,load,Sem.run,j]
def aj.W_(a:aj f b k)(c:¬f d1.block)(n:b.cell? d1=some v):k.cell? d1=some v:=by
 have P:d1.block<b.heap.size:=by
  by_cases P:d1.block<b.heap.size
  ·exact P
  ·unfold World.cell? at n
   rw[show b.heap[d1.block]? =none by simp;omega]at n
   cases n
 unfold World.cell? at n⊢;rw[a.block _ P c];exact n
def Jb(A:Rel a V O I)(B:Region.wanted S (yielded U I.tmps)=true)(n:OZ h V S K f e8 O b):
  ∃P,e8 (cf O S.dst P)/\((∀d,YieldsAt h U d S P I)\/(kindOf h S≠0/\∀d,fp K f b d->YieldsAt h U d S P I)):=by
 have e:∀(o:Sem Value) P d,(∀b,(execOp (ev V O) S).run h b=(o.run h b).andThen λP C=>.ok (.value P) C)->o.run h d= .ok P d->YieldsAt h U d S P I:=by
  intro o P d r g;refine .inl ⟨B,.inl ?_⟩;rw[A.eval,r,g]
  rfl
 unfold OZ at n;split at n
 ·rename_i m d i
  obtain⟨p,n⟩:=eJ.out n;have E:kindOf h S≠0:=by simp[kindOf,i]
  have s:∀(j:Addr),ev V O d= .pointer (some j)->(∀c,fp K f b c->∀q t,q.block=j.block->b.cell? q=some t->c.cell? q=some t)->(jZ h m (.pointer (some j)) b λP=>e8 (cf O S.dst P))->
    ∃P,e8 (cf O S.dst P)/\((∀d,YieldsAt h U d S P I)\/(kindOf h S≠0/\∀d,fp K f b d->YieldsAt h U d S P I)):=by
   intro j l F n;obtain⟨P,g,n⟩:=jZ.YN (known.out p).1 n;exact⟨P,n,.inr ⟨E,λc k=>e (Instr.loadAt m (ev V O d)) P c (λb=>by simp[execOp,i]) (by rw[l];exact g c (F c k))⟩⟩
  unfold WZ at n;split at n
  ·have l:∃j,ev V O d= .pointer (some j):=by
    unfold jZ at n;split at n
    ·exact⟨_,by assumption⟩
    ·exact n.elim
   obtain⟨j,l⟩:=l;rw[l]at n;exact s j l (λc k q t _ u=>by simp only[fp]at k;rw[k];exact u) n
  ·split at n
   ·rename_i j l
    obtain⟨H,n⟩:=n;exact s j l (λc k q t p u=>by simp only[fp]at k;exact k.W_ (by rw[p];exact H) u) (by rw[<-l];exact n)
   ·exact n.elim
 ·rename_i m d v i
  obtain⟨p,n⟩:=eJ.out n;obtain⟨P,g,n⟩:=TZ.out (il.out p) n;exact⟨P,n,.inl λc=>e (Instr.indexAt m (ev V O d) (ev V O v)) P c (λb=>by simp[execOp,i]) (g _)⟩
 ·rename_i m d J L M i
  obtain⟨p,n⟩:=eJ.out n;obtain⟨P,g,n⟩:=T_.out (λO N=>il.out p O (.inl N)) n;exact⟨P,n,.inl λc=>e (Instr.sliceAt m (ev V O d) (J.map (ev V O)) (L.map (ev V O)) (M.map (ev V O))) P c (λb=>by simp[execOp,i]) (g _)⟩
 ·rename_i d i
  unfold OW at n;split at n
  ·rename_i j w
   obtain⟨q,x,rfl,n⟩:=n;exact⟨_,n,.inl λc=>e (.pure (.pointer (some ⟨q,x,none⟩))) _ c (λb=>by simp[execOp,i,w]) rfl⟩
  ·rename_i Q first y w
   exact⟨_,n,.inl λc=>e (.pure (.func (.func Q) first y)) _ c (λb=>by simp[execOp,i,w]) rfl⟩
  ·exact n.elim
 ·rename_i m d v i
  split at n
  ·rename_i z
   obtain⟨P,g,n⟩:=GN.out z n;exact⟨P,n,.inl λc=>e (Instr.index m (ev V O d) (ev V O v)) P c (λb=>by simp[execOp,i]) (g _)⟩
  ·exact n.elim
 ·split at n
  ·rename_i o r
   split at n
   ·obtain⟨P,g,n⟩:=uI.out n
    refine⟨P,n,?_⟩;split at g
    ·exact .inl λc=>e o P c (λb=>jP r h b) (g c)
    ·rename_i R
     refine .inr ⟨R,λc k=>e o P c (λb=>jP r h b) ?_⟩
     cases K with
     |true=>exact g c k
     |false=>simp only[fp]at k;rw[k];exact g
   ·split at n
    ·rename_i P g
     exact⟨P,n,.inl λc=>e o P c (λb=>jP r h b) (xN g _)⟩
    ·exact n.elim
  ·exact n.elim
def im(d:Array Oper)(e:Oper)(f:cd)(a:cP)(b n:cP->Prop):Prop:=match e.guard with
 |none=>b a
 |some (g,P)=>match jx d g with
  |none=>False
  |some c=>match get f a c with
   | .bool h=>al h
    (match P with
     |true=>b ((c,.bool true)::a)
     |false=>n ((c,.bool true)::a))
    (match P with
     |true=>n ((c,.bool false)::a)
     |false=>b ((c,.bool false)::a))
   | .tuple _=>n a
   |_=>False
def lO:List Nat->(Nat->Prop)->Prop
 |[],_=>True
 |P::a,n=>match a with
  |[]=>n P
  |_=>n P/\lO a n
def lO.out:∀{l:List Nat} {φ:Nat->Prop},lO l φ->∀a∈l,φ a
 |[],_,_,a,n=>by cases n
 |b::c,φ,P,a,n=>by
  unfold lO at P;split at P
  ·simp only[List.mem_singleton]at n
   subst n;exact P
  ·rcases List.mem_cons.1 n with rfl|n
   ·exact P.1
   ·exact lO.out P.2 a n
def UW(c:Program)(P:Array Oper)(a:Bool)(n:Array Bool)(b:Nat):Bool:=
 Region.free .any P n b&&(match jQ c P b with
  |0=>true
  |_=>match a with
   |true=>true
   |false=>fD c P n b)
def fY(b:Program)(P:Array Oper)(a:Bool)(n:Array Bool)(c:Nat):Bool:=match a with
 |false=>false
 |true=>match jQ b P c with
  |0=>false
  |_=>!fD b P n c
def yA(P:Array Oper)(n:Array Bool)(a:Nat)(c:Nat->Bool):Nat->Bool:=match rK P n a with
 |true=>(λM:Array Bool=>λb=>c b||M.getD b false) (nk P a P.size n)
 |false=>λ_=>true
def jy(d:Program)(P:Array Oper)(a:Bool)(n:Array Bool)(b:Nat)(c:Nat->Bool):Nat->Bool:=match fY d P a n b with
 |true=>yA P n b c
 |false=>c
def Cb:∀n,f1 n=true->yA U a0 a f1 n=true:=by
 intro n P;unfold yA
 cases rK U a0 a with
 |true=>simp[P]
 |false=>rfl
def Cc:(∀n,yA U a0 a f1 n=true)\/∃P,yz U a a0 P/\∀n,P.getD n false=true->yA U a0 a f1 n=true:=by
 unfold yA
 cases b:rK U a0 a with
 |true=>exact .inr ⟨_,Ja b,λn c=>by simp only[c,Bool.or_true]⟩
 |false=>exact .inl λ_=>rfl
def wu(f:Program)(g:cd)(P:Array Oper)(a:Bool)(i:Nat->Prop)(k:List PanicEntry->List Deferred->World->Prop)(j:cP->List Deferred->World->Prop):(Nat->Bool)->Nat->Array Bool->cP->List Deferred->World->Prop
 |W,0,n,b,c,d=>eJ (Region.ready .any P n).isEmpty (j b c d)
 |W,l+1,n,b,c,d=>match ow f P (Region.ready .any P n)with
  |some e=>eJ (UW f P a n e) (match P[e]? with
   |none=>False
   |some h=>im P h g b (λb=>OZ f g h (fY f P a n e) i (λb=>wu f g P a i k j (jy f P a n e W) l (n.setIfInBounds e true) b c d) b d)
     (λb=>wu f g P a i k j W l (n.setIfInBounds e true) (cf b h.dst undef) c d))
  |none=>match Region.ready .any P n with
   |[]=>j b c d
   |o=>lO o λe=>match P[e]? with
    |none=>False
    |some h=>im P h g b (λb=>RR f P g h (λp _ _ c d=>match p with
     | .panic q=>k q c d
     |_=>False) (λb c m=>UU (a&&W e) i d m (wu f g P a i k j W l (n.setIfInBounds e true) b c m)) b c d)
     (λb=>wu f g P a i k j W l (n.setIfInBounds e true) (cf b h.dst undef) c d)
def im.out{d b:cP->Prop}(r:∀o e,jx U o=some e->e<a)(h:Rel a V O I)(n:im U S V O d b):
  ∃i,Rel a V i I/\(∀f,get V i f=get V O f)/\((Region.wanted S (yielded U I.tmps)=true/\d i)\/(Region.wanted S (yielded U I.tmps)=false/\b i)):=by
 unfold im at n;split at n
 ·rename_i j
  exact⟨O,h,λ_=>rfl,.inl ⟨by simp[Region.wanted,j],n⟩⟩
 ·rename_i o P j
  split at n
  ·exact n.elim
  ·rename_i e q
   have c:=px h q (r o e q);split at n
   ·rename_i k g
    rw[g]at c;simp only at c;have p:Region.wanted S (yielded U I.tmps)=(k==P):=by
     simp only[Region.wanted,j,c]
     cases k<;>cases P<;>rfl
    rw[p];have l:=h.again g;have m:∀f,get V ((e,.bool k)::O) f=get V O f:=sv g
    cases k<;>cases P<;>simp only[al]at n
    ·exact⟨_,l,m,.inl ⟨rfl,n⟩⟩
    ·exact⟨_,l,m,.inr ⟨rfl,n⟩⟩
    ·exact⟨_,l,m,.inr ⟨rfl,n⟩⟩
    ·exact⟨_,l,m,.inl ⟨rfl,n⟩⟩
   ·rename_i s g
    rw[g]at c;simp only at c;have p:Region.wanted S (yielded U I.tmps)=false:=by
     simp[Region.wanted,j,c]
    exact⟨O,h,λ_=>rfl,.inr ⟨p,n⟩⟩
   ·exact n.elim
def fp.refl(n:Bool)(a:Nat->Prop)(P:World):fp n a P P:=by
 cases n with
 |true=>exact⟨rfl,rfl,rfl,Nat.le_refl _,λ_ _ _=>rfl⟩
 |false=>rfl
def aj.chain(n:aj f b k)(P:aj f k a7):aj f b a7:=
 ⟨P.os.trans n.os,P.tape.trans n.tape,P.output.trans n.output,Nat.le_trans n.size P.size,λa c d=>(P.block a (Nat.lt_of_lt_of_le c n.size) d).trans (n.block a c d)⟩
def rL(c:Nat)(d:cd)(e:cP)(f:List Nat)(g:iK):List PanicEntry->Act->World->Prop:=λh b i=>
 (∃n P,Rel c n P b/\(∀a,a∉f->get n P a=get d e a))/\∀n P,g (.panic h) n P b.defers i
def rL.UX{P:Option Tmp}(h:∀n,P=some n->n∈b4)(d:List PanicEntry)(b:Act)(e:World)(c:rL a V O b4 c2 d (b.put P v) e):rL a V O b4 c2 d b e:=by
 obtain⟨⟨k,l,f,i⟩,c⟩:=c;refine⟨⟨λn=>b.tmps.getD n undef,[],⟨?_,λn=>rfl⟩,λn g=>?_⟩,by simpa[put_defers]using c⟩
 ·have:=f.size
  cases P<;>simpa[Act.put]using this
 ·rw[<-i n g,<-f.slot]
  cases P with
  |none=>rfl
  |some P=>
   have j:P≠n:=by rintro rfl;exact g (h P rfl)
   show _=(b.tmps.setIfInBounds P v).getD n undef;simp only[Array.getD_eq_getD_getElem?];rw[Array.getElem?_setIfInBounds_ne j];simp[aw.get]
def rL.post(P:List PanicEntry)(b:Act)(c:World)(n:rL a V O b4 c2 P b c):df a V O b4 c2 (.panic P) b c:=by
 obtain⟨⟨d,e,f,g⟩,n⟩:=n;exact⟨d,e,f,g,n d e⟩
def mL{i:Program}{x:Nat}{l B0:cd}{e0:cP}{W:List Nat}{P:Array Oper}{a:Bool}{y:Nat->Prop}{K:iK}(z:∀o b,jx P o=some b->b<x)(s:Region.noSelect P=true)(t:∀e∈P.toList,∀r,e.dst=some r->r<x/\r∈W):
  ∀(V:Nat->Bool) (p:Nat) (n:Array Bool) (j:cP) (h:Act) (f:World),Rel x l j h->(∀b,b∉W->get l j b=get B0 e0 b)->
   wu i l P a y (λE Y f=>∀l j,K (.panic E) l j Y f) (λj Y f=>K .normal l j Y f) V p n j h.defers f->Uc i P a (rL x B0 e0 W K) (λo=>V o=true) (df x B0 e0 W K .normal) p (fp a y f) n h f
 |V,0,n,j,h,f,N,A,c=>by
  obtain⟨L,O⟩:=eJ.out c;exact⟨by simpa using L,l,j,N,A,O⟩
 |V,p+1,n,j,h,f,N,A,c=>by
  have S:∀{d:Nat} {e:Oper},P[d]? =some e->∀(m:Value) (E:List PanicEntry) (h:Act) (f:World),rL x B0 e0 W K E (h.put e.dst m) f->rL x B0 e0 W K E h f:=by
   intro d e g m E h f;have M:e∈P.toList:=by
    obtain⟨b0,rfl⟩:=Array.getElem?_eq_some_iff.1 g;simp
   exact rL.UX (λb u=>(t e M b u).2) E h f
  have a5:∀{d:Nat} {e:Oper},P[d]? =some e->(∀r,e.dst=some r->r<x)/\∀(j:cP),(∀b,b∉W->get l j b=get B0 e0 b)->∀m b,b∉W->get l (cf j e.dst m) b=get B0 e0 b:=by
   intro d e g;have M:e∈P.toList:=by
    obtain⟨b0,rfl⟩:=Array.getElem?_eq_some_iff.1 g;simp
   refine⟨λr v=>(t e M r v).1,λj A m b u=>?_⟩
   cases v:e.dst with
   |none=>exact A b u
   |some r=>
    have b1:=(t e M r v).2;show get l ((r,m)::j) b=_;rw[d_,if_neg (by rintro rfl;exact u b1)];exact A b u
  unfold wu at c;split at c
  ·rename_i d F
   obtain⟨T,U⟩:=lN F;obtain⟨a6,c⟩:=eJ.out c;split at c
   ·exact c.elim
   ·rename_i e g
    obtain⟨v,H⟩:=a5 g;simp only[UW,Bool.and_eq_true]at a6;obtain⟨b2,Z⟩:=a6;have X:=Region.free_spec g b2;obtain⟨q,k,a3,a0⟩:=im.out z N c;have B:∀b,b∉W->get l q b=get B0 e0 b:=λb u=>(a3 b).trans (A b u);rcases a0 with⟨I,c⟩|⟨I,c⟩
    ·obtain⟨m,w,C⟩:=Jb k I c
     have a1:∀o,V o=true->jy i P a n d V o=true:=by
      intro o hj;unfold jy
      cases fY i P a n d with
      |true=>exact Cb o hj
      |false=>exact hj
     have next:=mL z s t (jy i P a n d V) p (n.setIfInBounds d true) (cf q e.dst m) (h.put e.dst m) f (k.put _ v _) (H q B m) (by rw[put_defers];exact w);rcases C with C|⟨Q,C⟩
     ·exact iz a1 (S g _) g U (Region.noSelect_spec s) (λ_=>True) p _ n h f X T (λa2 _=>C a2) trivial (fp.refl ..) (.inl λ_=>trivial) next
     ·have a7:jQ i P d=kindOf i e:=by simp[jQ,g]
      rw[a7]at Z;have b3:(fY i P a n d=true/\a=true)\/(fY i P a n d=false/\fD i P n d=true):=by
       cases a with
       |false=>
        right;refine⟨rfl,?_⟩;split at Z
        ·rename_i R;exact absurd R Q
        ·simpa using Z
       |true=>
        have M:fY i P true n d= !fD i P n d:=by
         unfold fY;rw[a7];generalize kindOf i e=a8 at Q
         cases a8 with
         |zero=>exact absurd rfl Q
         |succ a8=>rfl
        rw[M]
        cases hb:fD i P n d with
        |true=>right;simp
        |false=>left;simp
      rcases b3 with⟨L,O⟩|⟨L,O⟩
      ·rw[L]at C
       subst O;have hg:(∀o,jy i P true n d V o=true)\/∃a9,yz P d n a9/\∀o,a9.getD o false=true->jy i P true n d V o=true:=by
        unfold jy;rw[L];exact Cc
       exact iz a1 (S g _) g U (Region.noSelect_spec s) (fp true y f) p _ n h f X T C (fp.refl ..) (fp.refl ..) (.inr (.inl ⟨rfl,λ_ c=>c,hg⟩)) next
      ·rw[L]at C
       exact iz a1 (S g _) g U (Region.noSelect_spec s) (fp false y f) p _ n h f X T C (fp.refl ..) (fp.refl ..) (.inr (.inr (tA O))) next
    ·have next:=mL z s t V p (n.setIfInBounds d true) (cf q e.dst undef) (h.put e.dst undef) f (k.put _ v _) (H q B _) (by rw[put_defers];exact c)
     exact iz (λ_ c=>c) (S g _) g U (Region.noSelect_spec s) (λ_=>True) p _ n h f X T (λa2 _=>.inr ⟨I,rfl⟩) trivial (fp.refl ..) (.inl λ_=>trivial) next
  ·rename_i hn
   have b4:=uL hn;split at c
   ·rename_i R
    exact⟨λ_=>⟨l,j,N,A,c⟩,λd F=>(by rw[R]at F;cases F)⟩
   ·rename_i b5
    refine⟨λR=>absurd R (by simpa using b5),λd F=>⟨λhs=>(by rw[b4 d F]at hs;cases hs),λ_=>?_⟩⟩;have c:=lO.out c d F;split at c
    ·exact c.elim
    ·rename_i e g
     obtain⟨v,H⟩:=a5 g;obtain⟨q,k,a3,a0⟩:=im.out z N c;have B:∀b,b∉W->get l q b=get B0 e0 b:=λb u=>(a3 b).trans (A b u);unfold wpOp;simp only[g];rcases a0 with⟨I,c⟩|⟨I,c⟩
     ·rw[if_pos I]
      refine .inl (GR k v c (λm a' J a4 w=>?_) λE J hq=>⟨⟨l,q,k,B⟩,hq⟩)
      cases a with
      |true=>
       cases hV:V d with
       |true=>
        rw[hV]at w;obtain⟨Q,w⟩:=w;exact⟨fp true y J,λ_ _ a2 hx=>Q.chain hx,fp.refl ..,mL z s t V p _ _ a' J a4 (H q B m) w⟩
       |false=>
        rw[hV]at w;exact⟨fp true y J,λ_ c=>(by cases c),fp.refl ..,mL z s t V p _ _ a' J a4 (H q B m) w⟩
      |false=>exact⟨fp false y J,λc=>(by cases c),fp.refl ..,mL z s t V p _ _ a' J a4 (H q B m) w⟩
     ·rw[if_neg (by rw[I];simp)]
      exact⟨fp a y f,λ_ _ _ c=>c,fp.refl ..,mL z s t V p _ _ (h.put e.dst undef) f (k.put _ v _) (H q B _) (by rw[put_defers];exact c)⟩
def UY(a:Bool)(n:Nat->Prop)(b c:World)(P:(Nat->Prop)->Prop):Prop:=match a with
 |true=>aj n b c/\P n
 |false=>∃d:Nat->Prop,P d
def tB(e:Program)(f:cd)(P:Array Oper)(j:List PanicEntry->List Deferred->World->Prop)(h:cP->List Deferred->World->Prop):(Nat->Prop)->(Nat->Bool)->Nat->Array Bool->cP->List Deferred->World->Prop
 |S,i,0,n,a,b,c=>eJ (Region.ready .any P n).isEmpty (h a b c)
 |S,i,k+1,n,a,b,c=>match ow e P (Region.ready .any P n)with
  |some d=>eJ (UW e P true n d) (match P[d]? with
   |none=>False
   |some g=>im P g f a (λa=>OZ e f g (fY e P true n d) S (λa=>tB e f P j h S (jy e P true n d i) k (n.setIfInBounds d true) a b c) a c)
     (λa=>tB e f P j h S i k (n.setIfInBounds d true) (cf a g.dst undef) b c))
  |none=>match Region.ready .any P n with
   |[]=>h a b c
   |m=>lO m λd=>match P[d]? with
    |none=>False
    |some g=>im P g f a (λa=>RR e P f g (λo _ _ b c=>match o with
     | .panic p=>j p b c
     |_=>False) (λa b l=>UY (i d) S c l λS=>tB e f P j h S i k (n.setIfInBounds d true) a b l) a b c)
     (λa=>tB e f P j h S i k (n.setIfInBounds d true) (cf a g.dst undef) b c)
def lP{h:Program}{w:Nat}{k B0:cd}{e0:cP}{W:List Nat}{P:Array Oper}{H:iK}(A:∀m a,jx P m=some a->a<w)(t:Region.noSelect P=true)(x:∀d∈P.toList,∀q,d.dst=some q->q<w/\q∈W):
  ∀(S:Nat->Prop) (l:Nat->Bool) (p:Nat) (n:Array Bool) (i:cP) (g:Act) (e:World),Rel w k i g->(∀a,a∉W->get k i a=get B0 e0 a)->
   tB h k P (λB V e=>∀k i,H (.panic B) k i V e) (λi V e=>H .normal k i V e) S l p n i g.defers e->Uc h P true (rL w B0 e0 W H) (λm=>l m=true) (df w B0 e0 W H .normal) p (fp true S e) n g e
 |S,l,0,n,i,g,e,L,y,b=>by
  obtain⟨I,N⟩:=eJ.out b;exact⟨by simpa using I,k,i,L,y,N⟩
 |S,l,p+1,n,i,g,e,L,y,b=>by
  have O:∀{c:Nat} {d:Oper},P[c]? =some d->∀(o:Value) (B:List PanicEntry) (g:Act) (e:World),rL w B0 e0 W H B (g.put d.dst o) e->rL w B0 e0 W H B g e:=by
   intro c d f o B g e;have J:d∈P.toList:=by
    obtain⟨a7,rfl⟩:=Array.getElem?_eq_some_iff.1 f;simp
   exact rL.UX (λa u=>(x d J a u).2) B g e
  have a1:∀{c:Nat} {d:Oper},P[c]? =some d->(∀q,d.dst=some q->q<w)/\∀(i:cP),(∀a,a∉W->get k i a=get B0 e0 a)->∀o a,a∉W->get k (cf i d.dst o) a=get B0 e0 a:=by
   intro c d f;have J:d∈P.toList:=by
    obtain⟨a7,rfl⟩:=Array.getElem?_eq_some_iff.1 f;simp
   refine⟨λq v=>(x d J q v).1,λi y o a u=>?_⟩
   cases v:d.dst with
   |none=>exact y a u
   |some q=>
    have a8:=(x d J q v).2;show get k ((q,o)::i) a=_;rw[d_,if_neg (by rintro rfl;exact u a8)];exact y a u
  unfold tB at b;split at b
  ·rename_i c C
   obtain⟨Q,R⟩:=lN C;obtain⟨a4,b⟩:=eJ.out b;split at b
   ·exact b.elim
   ·rename_i d f
    obtain⟨v,K⟩:=a1 f;simp only[UW,Bool.and_eq_true]at a4;obtain⟨a9,b0⟩:=a4;have T:=Region.free_spec f a9;obtain⟨r,j,X,Y⟩:=im.out A L b;have E:∀a,a∉W->get k r a=get B0 e0 a:=λa u=>(X a).trans (y a u);rcases Y with⟨F,b⟩|⟨F,b⟩
    ·obtain⟨o,s,z⟩:=Jb j F b
     have Z:∀m,l m=true->jy h P true n c l m=true:=by
      intro m hj;unfold jy
      cases fY h P true n c with
      |true=>exact Cb m hj
      |false=>exact hj
     have next:=lP A t x S (jy h P true n c l) p (n.setIfInBounds c true) (cf r d.dst o) (g.put d.dst o) e (j.put _ v _) (K r E o) (by rw[put_defers];exact s);rcases z with z|⟨U,z⟩
     ·exact iz Z (O f _) f R (Region.noSelect_spec t) (λ_=>True) p _ n g e T Q (λa0 _=>z a0) trivial (fp.refl ..) (.inl λ_=>trivial) next
     ·have a5:jQ h P c=kindOf h d:=by simp[jQ,f]
      rw[a5]at b0;have b1:(fY h P true n c=true/\True)\/(fY h P true n c=false/\fD h P n c=true):=by
       have J:fY h P true n c= !fD h P n c:=by
        unfold fY;rw[a5];generalize kindOf h d=a2 at U
        cases a2 with
        |zero=>exact absurd rfl U
        |succ a2=>rfl
       rw[J]
       cases hb:fD h P n c with
       |true=>right;simp
       |false=>left;simp
      rcases b1 with⟨I,N⟩|⟨I,N⟩
      ·rw[I]at z
       have hg:(∀m,jy h P true n c l m=true)\/∃a3,yz P c n a3/\∀m,a3.getD m false=true->jy h P true n c l m=true:=by
        unfold jy;rw[I];exact Cc
       exact iz Z (O f _) f R (Region.noSelect_spec t) (fp true S e) p _ n g e T Q z (fp.refl ..) (fp.refl ..) (.inr (.inl ⟨rfl,λ_ b=>b,hg⟩)) next
      ·rw[I]at z
       exact iz Z (O f _) f R (Region.noSelect_spec t) (fp false S e) p _ n g e T Q z (fp.refl ..) (fp.refl ..) (.inr (.inr (tA N))) next
    ·have next:=lP A t x S l p (n.setIfInBounds c true) (cf r d.dst undef) (g.put d.dst undef) e (j.put _ v _) (K r E _) (by rw[put_defers];exact b)
     exact iz (λ_ b=>b) (O f _) f R (Region.noSelect_spec t) (λ_=>True) p _ n g e T Q (λa0 _=>.inr ⟨F,rfl⟩) trivial (fp.refl ..) (.inl λ_=>trivial) next
  ·rename_i hn
   have b2:=uL hn;split at b
   ·rename_i h0
    exact⟨λ_=>⟨k,i,L,y,b⟩,λc C=>(by rw[h0]at C;cases C)⟩
   ·rename_i b3
    refine⟨λh0=>absurd h0 (by simpa using b3),λc C=>⟨λhs=>(by rw[b2 c C]at hs;cases hs),λ_=>?_⟩⟩;have b:=lO.out b c C;split at b
    ·exact b.elim
    ·rename_i d f
     obtain⟨v,K⟩:=a1 f;obtain⟨r,j,X,Y⟩:=im.out A L b;have E:∀a,a∉W->get k r a=get B0 e0 a:=λa u=>(X a).trans (y a u);unfold wpOp;simp only[f];rcases Y with⟨F,b⟩|⟨F,b⟩
     ·rw[if_pos F]
      refine .inl (GR j v b (λo a' M a6 s=>?_) λB M hq=>⟨⟨k,r,j,E⟩,hq⟩)
      cases hV:l c with
      |true=>
       rw[hV]at s;obtain⟨U,s⟩:=s;exact⟨fp true S M,λ_ _ a0 hx=>U.chain hx,fp.refl ..,lP A t x S l p _ _ a' M a6 (K r E o) s⟩
      |false=>
       rw[hV]at s;obtain⟨S',s⟩:=s;exact⟨fp true S' M,λ_ b=>(by cases b),fp.refl ..,lP A t x S' l p _ _ a' M a6 (K r E o) s⟩
     ·rw[if_neg (by rw[F];simp)]
      exact⟨fp true S e,λ_ _ _ b=>b,fp.refl ..,lP A t x S l p _ _ (g.put d.dst undef) e (j.put _ v _) (K r E _) (by rw[put_defers];exact b)⟩
structure gR where
 aN:List Nat
 VO:List Nat
 kinds:List Nat
def bit(n:Nat):Nat:=Nat.shiftLeft 1 n
def Nk(a:Oper):Nat:=a.after.foldl (λn P=>match Region.binds .any P with|true=>Nat.lor n (bit P.on)|false=>n) 0
def LW(n:Array Oper)(P:Nat):Nat:=(List.range n.size).foldl (λb a=>match Nat.beq a P||(match n[P]?,n[a]? with
 |some B,some c=>c.after.any (λd=>Region.binds .any d&&d.on==P)||B.apart n c
 |_,none=>true
 |none,_=>false)with|true=>Nat.lor b (bit a)|false=>b) 0
def O_:List Nat->List Nat->Bool
 |[],[]=>true
 |a::n,P::b=>Nat.beq a P&&O_ n b
 |_,_=>false
def gR.ok(a:Program)(n:Array Oper)(P:gR):Bool:=
 O_ P.aN (n.toList.map Nk)&&O_ P.VO ((List.range n.size).map (LW n))&&O_ P.kinds (n.toList.map (kindOf a))
def hasB(n P:Nat):Bool:=Nat.testBit n P
def eK(P:gR)(b a:Nat):List Nat:=(List.range b).filter λn=>!hasB a n&&Nat.beq (Nat.land (P.aN.getD n 0) a) (P.aN.getD n 0)
def GS(n:gR)(P:Nat):Bool:=!Nat.beq (n.kinds.getD P 2) 2
def Cd(n:gR):List Nat->Option Nat
 |[]=>none
 |P::a=>match GS n P with
  |true=>some P
  |false=>Cd n a
def xO(a:gR)(b c:Nat):Nat->Nat->Nat
 |0,n=>n
 |f+1,n=>match(eK a b n).find? (λP=>!Nat.beq P c)with
  |some P=>xO a b c f (Nat.lor n (bit P))
  |none=>n
def yB(n P:Nat):(bit n).testBit P=decide (n=P):=by
 unfold bit;show(1<<<n).testBit P=_;rw[Nat.one_shiftLeft,Nat.testBit_two_pow]
def py{d:Type}(a:d->Bool)(b:d->Nat)(P:Nat):∀(c:List d) (n:Nat),(c.foldl (λn e=>match a e with|true=>Nat.lor n (bit (b e))|false=>n) n).testBit P=(n.testBit P||c.any λe=>a e&&b e==P)
 |[],n=>by simp
 |e::c,n=>by
  rw[List.foldl_cons,py a b P c]
  cases f:a e with
  |false=>simp[f]
  |true=>
   simp only[f,List.any_cons,Bool.true_and];show((n|||bit (b e)).testBit P||_)=_;rw[Nat.testBit_or,yB,Bool.or_assoc]
   congr 2
def yC(a:Oper)(P:Nat):(Nk a).testBit P=a.after.any λn=>Region.binds .any n&&n.on==P:=by
 unfold Nk;rw[<-Array.foldl_toList,py (λn=>Region.binds .any n) (λn=>n.on) P];simp
def land_eq:Nat.beq (Nat.land a c) a=true↔∀n,a.testBit n=true->c.testBit n=true:=by
 constructor
 ·intro P n b
  have P:=Nat.eq_of_beq_eq_true P;have:(a&&&c).testBit n=true:=by
   show(Nat.land a c).testBit n=true;rw[P];exact b
  rw[Nat.testBit_and]at this;simp at this;exact this.2
 ·intro P
  have:a&&&c=a:=by
   apply Nat.eq_of_testBit_eq;intro n;rw[Nat.testBit_and]
   cases d:a.testBit n with
   |false=>rfl
   |true=>rw[P n d];rfl
  show Nat.beq (a&&&c) a=true;rw[this];exact Nat.beq_refl a
def O_.out:∀{l P:List Nat},O_ l P=true->l=P
 |[],[],_=>rfl
 |[],_::_,n=>by cases n
 |_::_,[],n=>by cases n
 |a::l,b::P,n=>by
  simp only[O_,Bool.and_eq_true]at n;rw[Nat.eq_of_beq_eq_true n.1,O_.out n.2]
structure CU (listed:Array Bool) (n N:Nat):Prop where
 size:listed.size=n
 bit:∀i,listed.getD i false=N.testBit i
def CU.set(n:CU a0 a c)(d:i<a):CU (a0.setIfInBounds i true) a (Nat.lor c (aw.bit i)):=by
 refine⟨by simp[n.size],λP=>?_⟩;show _=(c|||aw.bit i).testBit P;rw[Nat.testBit_or,yB,<-n.bit P]
 by_cases b:i=P
 ·subst b
  have:i<a0.size:=by rw[n.size];exact d
  simp[this]
 ·rw[getD_set_ne false b];simp[b]
variable{b7:gR}
def lQ(e:b7.ok h U=true)(d:CU a0 U.size a):Region.ready .any U a0=eK b7 U.size a:=by
 unfold gR.ok at e;simp only[Bool.and_eq_true]at e;have j:=O_.out e.1.1;unfold Region.ready eK;refine List.filter_congr λn P=>?_;have P:=List.mem_range.1 P;have k:a0.getD n true=a.testBit n:=by
  rw[<-d.bit n];have:n<a0.size:=by rw[d.size];exact P
  simp[this]
 have l:b7.aN.getD n 0=Nk U[n]:=by
  rw[j];simp[P]
 rw[k,l,Array.getElem?_eq_getElem P];simp only[Option.map_some,Option.getD_some,hasB]
 congr 1
 rw[Bool.eq_iff_iff,land_eq];rw[Array.all_eq_true_iff_forall_mem];constructor
 ·intro f m i
  rw[yC]at i;obtain⟨b,g,c⟩:=Array.any_eq_true'.1 i;simp only[Bool.and_eq_true,beq_iff_eq]at c;have:=f b g;rw[c.1,d.bit,c.2]at this;simpa using this
 ·intro f b g
  cases c:Region.binds .any b with
  |false=>rfl
  |true=>
   rw[d.bit];have:=f b.on (by rw[yC];exact Array.any_eq_true'.2 ⟨b,g,by simp[c]⟩);simp[this]
def ox(n:b7.ok h U=true)(P:a<U.size):b7.kinds.getD a 2=jQ h U a/\GS b7 a=gu h U a:=by
 unfold gR.ok at n;simp only[Bool.and_eq_true]at n;have c:=O_.out n.2;have b:b7.kinds.getD a 2=jQ h U a:=by
  rw[c];unfold jQ;rw[Array.getElem?_eq_getElem P];simp[P]
 refine⟨b,?_⟩;unfold GS gu;rw[b];generalize jQ h U a=k
 match k with
 |0=>rfl
 |1=>rfl
 |2=>rfl
 |k+3=>rfl
def GU{a:Program}{n:Array Oper}{c:gR}(d:c.ok a n=true):∀(b:List Nat),(∀P∈b,P<n.size)->Cd c b=ow a n b
 |[],_=>rfl
 |P::f,e=>by
  unfold Cd ow;rw[(ox d (e P (List.mem_cons_self ..))).2,GU d f λg h=>e g (List.mem_cons_of_mem _ h)]
  try(cases gu a n P<;>rfl)
def lR(n:i∈eK b7 a c):i<a:=List.mem_range.1 (List.mem_filter.1 n).1
def wv{h:Program}{P:Array Oper}{d:gR}(e:d.ok h P=true)(b:Nat):∀(f:Nat) {n:Array Bool} {c:Nat},CU n P.size c->CU (nk P b f n) P.size (xO d P.size b f c)
 |0,_,_,a=>a
 |f+1,n,c,a=>by
  unfold nk xO;rw[lQ e a]
  cases i:(eK d P.size c).find? (λg=>!Nat.beq g b)with
  |some g=>exact wv e b f (a.set (lR (List.mem_of_find?_eq_some i)))
  |none=>exact a
def wx(a:gR)(P d b:Nat):Bool:=
 (λc:Nat=>!hasB c b&&(eK a P c).all (λn=>Nat.beq n b)&&(List.range P).all λn=>!hasB c n||GS a n||hasB d n) (xO a P b P d)
def CU.Xa(n:CU a0 a c)(P:i<a):a0.getD i true=c.testBit i:=by
 rw[<-n.bit i];have:i<a0.size:=by rw[n.size];exact P
 simp[this]
def pA(n:b7.ok h U=true)(b:CU a0 U.size a)(d:c<U.size):wx b7 U.size a c=fD h U a0 c:=by
 have P:=wv n c U.size b;unfold wx fD;simp only;rw[lQ n P,P.Xa d]
 congr 1
 rw[Bool.eq_iff_iff,List.all_eq_true,List.all_eq_true];refine forall_congr' λf=>forall_congr' λe=>?_;rw[(ox n (List.mem_range.1 e)).2,P.bit,b.bit]
 rfl
def RU(P:gR)(a b c:Nat):Bool:=(List.range a).all λn=>hasB (P.VO.getD c 0) n||hasB b n
def Nl(e:b7.ok h U=true)(k:CU a0 U.size a)(f:c<U.size):RU b7 U.size a c=Region.free .any U a0 c:=by
 unfold gR.ok at e;simp only[Bool.and_eq_true]at e;have l:=O_.out e.1.2;have b:b7.VO.getD c 0=LW U c:=by rw[l];simp[f]
 unfold RU Region.free;rw[b,Array.getElem?_eq_getElem f];simp only;rw[Bool.eq_iff_iff,List.all_eq_true,List.all_eq_true];refine forall_congr' λn=>forall_congr' λd=>?_;have d:=List.mem_range.1 d;rw[k.Xa d,Array.getElem?_eq_getElem d];unfold hasB LW;rw[py (λn=>Nat.beq n c||(match U[c]?,U[n]? with
  |some H,some j=>j.after.any (λb=>Region.binds .any b&&b.on==c)||H.apart U j
  |_,none=>true
  |none,_=>false)) (λn=>n) n]
 rw[Nat.zero_testBit,Bool.false_or];have P:∀g:Nat->Bool,((List.range U.size).any λb=>g b&&b==n)=g n:=λg=>by
  rw[Bool.eq_iff_iff,List.any_eq_true];constructor
  ·rintro⟨p,_,i⟩
   simp only[Bool.and_eq_true,beq_iff_eq]at i;rw[<-i.2];exact i.1
  ·intro m
   exact⟨n,List.mem_range.2 d,by simp[m]⟩
 rw[P];simp only[Array.getElem?_eq_getElem f,Array.getElem?_eq_getElem d];have o:(Nat.beq n c)=(n==c):=by rw[Bool.eq_iff_iff,Nat.beq_eq,beq_iff_eq]
 rw[o]
 cases(n==c)<;>cases a.testBit n<;>simp
def Wo(P:gR)(n:Bool)(b c a:Nat):Bool:=
 RU P b c a&&(match P.kinds.getD a 2 with
  |0=>true
  |_=>match n with
   |true=>true
   |false=>wx P b c a)
def Ce(P:gR)(n:Bool)(b c a:Nat):Bool:=match n with
 |false=>false
 |true=>match P.kinds.getD a 2 with
  |0=>false
  |_=>!wx P b c a
def LX(P:gR)(n b a:Nat):Bool:=(λc:Nat=>(eK P n c).all (λd=>Nat.beq d a)) (xO P n a n b)
def RV(P:gR)(n a b:Nat)(d:Nat->Bool):Nat->Bool:=match LX P n a b with
 |true=>(λe:Nat=>λc=>d c||hasB e c) (xO P n b n a)
 |false=>λ_=>true
def EG(P:gR)(n:Bool)(a b c:Nat)(d:Nat->Bool):Nat->Bool:=match Ce P n a b c with
 |true=>RV P a b c d
 |false=>d
def RW(n:b7.ok h U=true)(P:CU a0 U.size a):LX b7 U.size a c=rK U a0 c:=by
 have b:=wv n c U.size P;unfold LX rK;simp only;rw[lQ n b]
def Nn(n:b7.ok h U=true)(P:CU a0 U.size a):RV b7 U.size a c f1=yA U a0 c f1:=by
 have b:=wv n c U.size P;unfold RV yA;rw[RW n P]
 cases rK U a0 c
 ·rfl
 ·simp only
  funext j
  rw[b.bit]
  rfl
def tC(j:Program)(h:cd)(P:Array Oper)(b:gR)(g:Nat)(n:Bool)(k:Nat->Prop)(m:List PanicEntry->List Deferred->World->Prop)(l:cP->List Deferred->World->Prop):(Nat->Bool)->Nat->Nat->cP->List Deferred->World->Prop
 |W,0,c,a,d,e=>eJ (eK b g c).isEmpty (l a d e)
 |W,o+1,c,a,d,e=>match Cd b (eK b g c)with
  |some f=>eJ (Wo b n g c f) (match P[f]? with
   |none=>False
   |some i=>im P i h a (λa=>OZ j h i (Ce b n g c f) k (λa=>tC j h P b g n k m l (EG b n g c f W) o (Nat.lor c (bit f)) a d e) a e)
     (λa=>tC j h P b g n k m l W o (Nat.lor c (bit f)) (cf a i.dst undef) d e))
  |none=>match eK b g c with
   |[]=>l a d e
   |q=>lO q λf=>match P[f]? with
    |none=>False
    |some i=>im P i h a (λa=>RR j P h i (λr _ _ d e=>match r with
     | .panic s=>m s d e
     |_=>False) (λa d p=>UU (n&&W f) k e p (tC j h P b g n k m l W o (Nat.lor c (bit f)) a d p)) a d e)
     (λa=>tC j h P b g n k m l W o (Nat.lor c (bit f)) (cf a i.dst undef) d e)
def rN{b c:Nat->Prop}:∀{a:List Nat},(∀n∈a,b n=c n)->lO a b=lO a c
 |[],_=>rfl
 |[n],P=>by
  unfold lO;exact P n (List.mem_cons_self ..)
 |n::f::g,P=>by
  unfold lO;rw[P n (List.mem_cons_self ..),rN λd e=>P d (List.mem_cons_of_mem _ e)]
def rO{f:Program}{k:cd}{n:Array Oper}{g:gR}(h:g.ok f n=true){a:Bool}{l:Nat->Prop}{m:List PanicEntry->List Deferred->World->Prop}{o:cP->List Deferred->World->Prop}:∀(W:Nat->Bool) (j:Nat) {P:Array Bool} {d:Nat},CU P n.size d->
  tC f k n g n.size a l m o W j d=wu f k n a l m o W j P
 |W,0,P,d,i=>by
  funext e ds w
  unfold tC wu;rw[lQ h i]
 |W,j+1,P,d,i=>by
  have p:∀W b,b<n.size->tC f k n g n.size a l m o W j (Nat.lor d (bit b))=wu f k n a l m o W j (P.setIfInBounds b true):=λW b c=>rO h W j (i.set c);have r:Cd g (eK g n.size d)=ow f n (eK g n.size d):=GU h _ λb c=>lR c
  funext e ds w
  unfold tC wu;rw[lQ h i,r]
  cases s:ow f n (eK g n.size d)with
  |some b=>
   have c:b<n.size:=lR (lN s).1;have t:Wo g a n.size d b=UW f n a P b:=by
    unfold Wo UW;rw[Nl h i c,(ox h c).1,pA h i c]
    try(cases jQ f n b<;>cases a<;>rfl)
   have q:Ce g a n.size d b=fY f n a P b:=by
    unfold Ce fY;rw[(ox h c).1,pA h i c]
   have u:EG g a n.size d b W=jy f n a P b W:=by
    unfold EG jy;rw[q,Nn h i]
   simp only[t,q,u,p _ b c]
   try(cases n[b]? <;>rfl)
  |none=>
   cases v:eK g n.size d with
   |nil=>rfl
   |cons x y=>
    simp only;refine rN λb c=>?_;have c:b<n.size:=lR (by rw[v];exact c);simp only[p _ b c]
    try(cases n[b]? <;>rfl)
def pB(i:Program)(g:cd)(n:Array Oper)(a:gR)(f:Nat)(l:List PanicEntry->List Deferred->World->Prop)(j:cP->List Deferred->World->Prop):(Nat->Prop)->(Nat->Bool)->Nat->Nat->cP->List Deferred->World->Prop
 |S,k,0,b,P,c,d=>eJ (eK a f b).isEmpty (j P c d)
 |S,k,m+1,b,P,c,d=>match Cd a (eK a f b)with
  |some e=>eJ (Wo a true f b e) (match n[e]? with
   |none=>False
   |some h=>im n h g P (λP=>OZ i g h (Ce a true f b e) S (λP=>pB i g n a f l j S (EG a true f b e k) m (Nat.lor b (bit e)) P c d) P d)
     (λP=>pB i g n a f l j S k m (Nat.lor b (bit e)) (cf P h.dst undef) c d))
  |none=>match eK a f b with
   |[]=>j P c d
   |p=>lO p λe=>match n[e]? with
    |none=>False
    |some h=>im n h g P (λP=>RR i n g h (λq _ _ c d=>match q with
     | .panic r=>l r c d
     |_=>False) (λP c o=>UY (k e) S d o λS=>pB i g n a f l j S k m (Nat.lor b (bit e)) P c o) P c d)
     (λP=>pB i g n a f l j S k m (Nat.lor b (bit e)) (cf P h.dst undef) c d)
def xP{d:Program}{k:cd}{n:Array Oper}{f:gR}(h:f.ok d n=true){l:List PanicEntry->List Deferred->World->Prop}{m:cP->List Deferred->World->Prop}:∀(S:Nat->Prop) (g:Nat->Bool) (j:Nat) {P:Array Bool} {c:Nat},CU P n.size c->
  pB d k n f n.size l m S g j c=tB d k n l m S g j P
 |S,g,0,P,c,i=>by
  funext e ds w
  unfold pB tB;rw[lQ h i]
 |S,g,j+1,P,c,i=>by
  have o:∀S g a,a<n.size->pB d k n f n.size l m S g j (Nat.lor c (bit a))=tB d k n l m S g j (P.setIfInBounds a true):=λS g a b=>xP h S g j (i.set b);have q:Cd f (eK f n.size c)=ow d n (eK f n.size c):=GU h _ λa b=>lR b
  funext e ds w
  unfold pB tB;rw[lQ h i,q]
  cases r:ow d n (eK f n.size c)with
  |some a=>
   have b:a<n.size:=lR (lN r).1;have s:Wo f true n.size c a=UW d n true P a:=by
    unfold Wo UW;rw[Nl h i b,(ox h b).1,pA h i b]
    try(cases jQ d n a<;>rfl)
   have p:Ce f true n.size c a=fY d n true P a:=by
    unfold Ce fY;rw[(ox h b).1,pA h i b]
   have t:EG f true n.size c a g=jy d n true P a g:=by
    unfold EG jy;rw[p,Nn h i]
   simp only[s,p,t,o _ _ a b]
   try(cases n[a]? <;>rfl)
  |none=>
   cases u:eK f n.size c with
   |nil=>rfl
   |cons v x=>
    simp only;refine rN λa b=>?_;have b:a<n.size:=lR (by rw[u];exact b);simp only[o _ _ a b]
    try(cases n[a]? <;>rfl)
def UZ(P:List (Nat×gR))(n:Nat):Option gR:=match P with
 |[]=>none
 |(a,b)::c=>match Nat.beq a n with
  |true=>some b
  |false=>UZ c n
def CU.init(n:Nat):CU (Array.replicate n false) n 0:=⟨by simp,λa=>by
 rw[Nat.zero_testBit]
 by_cases P:a<n
 ·simp[P]
 ·simp[P]⟩
def key:Code->Option Nat
 | .region id _ _=>some id
 | .seq P a=>match key P with
  |some b=>some b
  |none=>key a
 | .cond _ P a=>match key P with
  |some b=>some b
  |none=>key a
 | .block _ n=>key n
 | .loop n=>key n
 | .scope n=>key n
 |_=>none
def EH:List Oper->List Nat
 |[]=>[]
 |P::n=>match P.dst with
  |some a=>a::EH n
  |none=>EH n
def writes:Code->List Nat
 | .region _ P _=>EH P.toList
 | .seq a b=>writes a++writes b
 | .cond _ a b=>writes a++writes b
 | .block _ n=>writes n
 | .loop n=>writes n
 | .scope n=>writes n
 |_=>[]
def ly{P:List Oper}(n:S∈P)(b:S.dst=some a):a∈EH P:=by
 induction P with
 |nil=>cases n
 |cons d e c=>
  unfold EH
  cases n with
  |head=>rw[b];exact List.mem_cons_self ..
  |tail _ n=>split<;>simp[c n]
structure lx where
 loops:List (Nat×List (Nat×Value))
 RD:List (Nat×List (Nat×Value))
 keeps:List Nat
 Nc:List Nat
 Xb:List (Nat×gR)
def Pa(P:List (Nat×List (Nat×Value)))(n:Option Nat):Option (List (Nat×Value)):=match n with
 |none=>none
 |some n=>match P with
  |[]=>none
  |(a,b)::c=>match Nat.beq a n with
   |true=>some b
   |false=>Pa c (some n)
def Cf(P:List Nat)(n:Nat):Bool:=match P with
 |[]=>false
 |d::a=>match Nat.beq d n with
  |true=>true
  |false=>Cf a n
def fu(P:List Nat):cP->(cP->Prop)->Prop
 |[],n=>n []
 |(a,c)::b,n=>match Cf P a with
  |true=>fu P b n
  |false=>fu P b λd=>n ((a,c)::d)
def Fn:List Value->Type->Type
 |[],n=>n
 |z::P,n=>match z with
  | .int _ _=>Int->Fn P n
  | .bool _=>Bool->Fn P n
  | .string _=>ByteArray->Fn P n
  | .slice _ _ _=>Option Addr->Nat->Nat->Fn P n
  | .pointer (some _)=>Nat->Nat->Fn P n
  | .pointer none=>Option Addr->Fn P n
  | .map _=>Option Nat->Fn P n
  |_=>Value->Fn P n
def ap:(P:List Value)->Fn P (World->Prop)->List Value->World->Prop
 |[],n,_,a=>n a
 |z::P,n,b,a=>match b with
  |[]=>False
  |v::b=>match z,n with
   | .int e _,n=>match v with
    | .int f c=>eJ (decide (f=e)) (ap P (n c) b a)
    |_=>False
   | .bool _,n=>match v with
    | .bool d=>ap P (n d) b a
    |_=>False
   | .string _,n=>match v with
    | .string g=>ap P (n g) b a
    |_=>False
   | .slice _ _ _,n=>match v with
    | .slice h c i=>ap P (n h c i) b a
    |_=>False
   | .pointer (some _),n=>match v with
    | .pointer (some ⟨d,j,none⟩)=>ap P (n d j) b a
    |_=>False
   | .pointer none,n=>match v with
    | .pointer k=>ap P (n k) b a
    |_=>False
   | .map _,n=>match v with
    | .map l=>ap P (n l) b a
    |_=>False
   | .float _ _,n=>ap P (n v) b a
   | .complex _ _ _,n=>ap P (n v) b a
   | .chan _,n=>ap P (n v) b a
   | .func _ _ _,n=>ap P (n v) b a
   | .nilFunc,n=>ap P (n v) b a
   | .iface _ _,n=>ap P (n v) b a
   | .nilIface,n=>ap P (n v) b a
   | .agg _,n=>ap P (n v) b a
   | .tuple _,n=>ap P (n v) b a
def nn:List Value->(List Value->Prop)->Prop
 |[],P=>P []
 |z::a,P=>match z with
  | .int d _=>∀b,nn a λn=>P (.int d b::n)
  | .bool _=>∀c,nn a λn=>P (.bool c::n)
  | .string _=>∀e,nn a λn=>P (.string e::n)
  | .slice _ _ _=>∀f b g,nn a λn=>P (.slice f b g::n)
  | .pointer (some _)=>∀c h,nn a λn=>P (.pointer (some ⟨c,h,none⟩)::n)
  | .pointer none=>∀i,nn a λn=>P (.pointer i::n)
  | .map _=>∀j,nn a λn=>P (.map j::n)
  |_=>∀k,nn a λn=>P (k::n)
def ap.all:∀{f:List Value} {h:Fn f (World->Prop)} {d:List Value} {i:World} {φ:List Value->Prop},d.length=f.length->ap f h d i->nn f φ->φ d
 |[],h,d,i,φ,g,_,c=>by
  cases d with
  |nil=>exact c
  |cons e d=>simp at g
 |z::f,h,d,i,φ,g,n,c=>by
  cases d with
  |nil=>simp at g
  |cons e d=>
   have a:d.length=f.length:=by simpa using g
   cases z
   case pointer r=>
    cases r with
    |none=>
     simp only[nn]at c
     cases e<;>try exact n.elim
     rename_i P;exact ap.all (φ:=λb=>φ (.pointer P::b)) a n (c P)
    |some _=>
     simp only[nn]at c
     cases e<;>try exact n.elim
     rename_i P
     cases P with
     |none=>exact n.elim
     |some P=>
      obtain⟨j,l,m⟩:=P
      cases m with
      |some m=>exact n.elim
      |none=>exact ap.all (φ:=λb=>φ (.pointer (some ⟨j,l,none⟩)::b)) a n (c j l)
   all_goals simp only[nn]at c
   case int k _=>
    cases e<;>try exact n.elim
    rename_i s o;obtain⟨t,n⟩:=eJ.out n;obtain rfl:=of_decide_eq_true t;exact ap.all (φ:=λb=>φ (.int s o::b)) a n (c o)
   case bool=>
    cases e<;>try exact n.elim
    rename_i P;exact ap.all (φ:=λb=>φ (.bool P::b)) a n (c P)
   case string=>
    cases e<;>try exact n.elim
    rename_i P;exact ap.all (φ:=λb=>φ (.string P::b)) a n (c P)
   case slice=>
    cases e<;>try exact n.elim
    rename_i P p q;exact ap.all (φ:=λb=>φ (.slice P p q::b)) a n (c P p q)
   case map=>
    cases e<;>try exact n.elim
    rename_i P;exact ap.all (φ:=λb=>φ (.map P::b)) a n (c P)
   all_goals exact ap.all (φ:=λb=>φ (e::b)) a n (c e)
def Jc:Cf b4 a=true↔a∈b4:=by
 induction b4 with
 |nil=>simp[Cf]
 |cons n b P=>
  unfold Cf
  cases h:Nat.beq n a with
  |true=>
   have:=Nat.eq_of_beq_eq_true h;simp[this]
  |false=>
   have:n≠a:=by rintro rfl;simp at h
   simp only[P,List.mem_cons];constructor
   ·exact .inr
   ·rintro(rfl|h)
    ·exact absurd rfl this
    ·exact h
def fu.out{d:List Nat}:∀{k:cP} {f:cP->Prop},fu d k f->∃b,(∀P n,n∉d->get P b n=get P k n)/\(∀P n,n∈d->get P b n=P n)/\f b
 |[],f,a=>⟨[],λ_ _ _=>rfl,λ_ _ _=>rfl,a⟩
 |(h,l)::m,f,a=>by
  unfold fu at a;split at a
  ·rename_i g
   have e:h∈d:=Jc.1 g;obtain⟨b,i,j,a⟩:=fu.out a;refine⟨b,λP n c=>?_,j,a⟩;rw[i P n c,d_,if_neg (by rintro rfl;exact c e)]
  ·rename_i g
   have e:h∉d:=λe=>by rw[Jc.2 e]at g;cases g
   obtain⟨b,i,j,a⟩:=fu.out a;refine⟨(h,l)::b,λP n c=>?_,λP n c=>?_,a⟩
   ·rw[d_,d_,i P n c]
   ·rw[d_,if_neg (by rintro rfl;exact e c),j P n c]
def jf:List (Nat×Value)->List Value
 |[]=>[]
 |(_,n)::P=>n::jf P
def zY(n:cd)(P:cP):List (Nat×Value)->List Value
 |[]=>[]
 |(a,_)::b=>get n P a::zY n P b
def yD:List (Nat×Value)->List Value->cP->cP
 |(P,_)::a,b::c,n=>(P,b)::yD a c n
 |_,_,n=>n
def kj(n:cd)(P:cP):∀a,(zY n P a).length=(jf a).length
 |[]=>rfl
 |(_,_)::b=>by simp[zY,jf,kj n P b]
def EI(a:cd)(P:Nat->Value)(b:cP):∀(f:List (Nat×Value)) (n:Nat),(∀g,get a b g=P g)->get a (yD f (f.map λc=>P c.1) b) n=P n
 |[],n,d=>d n
 |(h,j)::e,n,d=>by
  show get a ((h,P h)::yD e (e.map λc=>P c.1) b) n=_;rw[d_];split
  ·rename_i i;rw[i]
  ·exact EI a P b e n d
def Aq(n:cd)(P:cP):∀a,zY n P a=a.map λb=>get n P b.1
 |[]=>rfl
 |(_,_)::c=>by simp[zY,Aq n P c]
def Cg(n P:List Deferred)(a:Prop):Prop:=match n,P with
 |[],[]=>a
 |n,P=>n=P/\a
def Cg.out{n a:List Deferred}(P:Cg n a L):n=a/\L:=by
 unfold Cg at P;split at P
 ·exact⟨rfl,P⟩
 ·exact P
def Ch(d:cd->cP->List Deferred->World->Prop)(c:iK):iK:=λe n P a b=>match e with
 | .normal=>d n P a b
 | .exit id=>c (.exit id) n P a b
 | .goto f=>c (.goto f) n P a b
 | .ret=>c .ret n P a b
 | .panic g=>c (.panic g) n P a b
 | .outgrown=>False
def xQ(id:Nat)(n:iK):iK:=λe P a b c=>match e with
 | .exit d=>match Nat.beq d id with
  |true=>n .normal P a b c
  |false=>n (.exit d) P a b c
 | .normal=>n .normal P a b c
 | .goto f=>n (.goto f) P a b c
 | .ret=>n .ret P a b c
 | .panic g=>n (.panic g) P a b c
 | .outgrown=>False
def GV(n:iK):iK:=λx P a b c=>match x with
 | .goto _=>False
 |x=>n x P a b c
def D(g:Program)(h:lx):Code->iK->cd->cP->List Deferred->World->Prop
 | .skip,d,b,n,P,a=>d .normal b n P a
 | .label _,d,b,n,P,a=>d .normal b n P a
 | .exit id,d,b,n,P,a=>d (.exit id) b n P a
 | .ret,d,b,n,P,a=>d .ret b n P a
 | .region id c m,d,b,n,P,a=>match m with
  |false=>B_ g b c d c.toList (λn P a=>d .normal b n P a) n P a
  |true=>match Nj g c.toList with
   |false=>eJ (Region.lexB .any c) (tx g b c c.toList (λn=>∀e,cy a e->d .normal b n P e) n a)
   |true=>eJ (Region.noSelect c) (match UZ h.Xb id with
    |none=>match Cf h.keeps id with
     |true=>∀e,cy a e->∃f:Nat->Prop,wu g b c true f (λi P a=>∀b n,d (.panic i) b n P a) (λn P a=>d .normal b n P a) (λ_=>!Cf h.Nc id) c.size (Array.replicate c.size false) n P e
     |false=>∀e,cy a e->wu g b c false (λ_=>False) (λi P a=>∀b n,d (.panic i) b n P a) (λn P a=>d .normal b n P a) (λ_=>true) c.size (Array.replicate c.size false) n P e
    |some r=>eJ (r.ok g c) (match Cf h.keeps id with
     |true=>match Cf h.Nc (1000000+id)with
      |true=>∀e,cy a e->∃f:Nat->Prop,pB g b c r c.size (λi P a=>∀b n,d (.panic i) b n P a) (λn P a=>d .normal b n P a) f (λ_=>false) c.size 0 n P e
      |false=>∀e,cy a e->∃f:Nat->Prop,tC g b c r c.size true f (λi P a=>∀b n,d (.panic i) b n P a) (λn P a=>d .normal b n P a) (λ_=>!Cf h.Nc id) c.size 0 n P e
     |false=>∀e,cy a e->tC g b c r c.size false (λ_=>False) (λi P a=>∀b n,d (.panic i) b n P a) (λn P a=>d .normal b n P a) (λ_=>true) c.size 0 n P e))
 | .seq o p,d,b,n,P,a=>match Pa h.RD (key p)with
  |none=>D g h o (Ch (λb n P a=>D g h p d b n P a) d) b n P a
  |some f=>∃w:Fn (jf f) (World->Prop),D g h o (Ch (λk t l e=>Cg l P (ap (jf f) w (zY k t f) e)) d) b n P a/\
    fu (writes o) n λu=>nn (jf f) λq=>∀(k:cd) (e:World),ap (jf f) w q e->D g h p d k (yD f q u) P e
 | .cond j o p,d,b,n,P,a=>match ev b n j with
  | .bool y=>al y (D g h o d b n P a) (D g h p d b n P a)
  |_=>False
 | .block id j,d,b,n,P,a=>D g h j (xQ id d) b n P a
 | .scope j,d,b,n,P,a=>D g h j (GV d) b n P a
 | .loop j,d,b,n,P,a=>match Pa h.loops (key j)with
  |none=>False
  |some f=>∃v:Nat->Fn (jf f) (World->Prop),(∃s,ap (jf f) (v s) (zY b n f) a)/\
    ∀s,fu (writes j) n λu=>nn (jf f) λq=>∀(k:cd) (e:World),ap (jf f) (v s) q e->
     D g h j (Ch (λk t l e=>Cg l P (∃x,x<s/\ap (jf f) (v x) (zY k t f) e)) d) k (yD f q u) P e
 |_,_,_,_,_,_=>False
def df.mono{e f:cd}{g h:cP}{i d:List Nat}{j k:iK}(o:df a f h i j e4 I b)(p:∀n,n∈i->n∈d)(q:∀n,n∉d->get f h n=get e g n)(r:∀P c l b,j e4 P c l b->k e4 P c l b):df a e g d k e4 I b:=by
 obtain⟨P,c,s,t,u⟩:=o;exact⟨P,c,s,λn m=>(t n (λv=>m (p n v))).trans (q n m),r _ _ _ _ u⟩
def Jd{e c:cd}{P:Value}{a:Nat}:∀{d:cP},get e d a=P->c a=P->get c d a=P
 |[],_,n=>n
 |(g,h)::i,n,f=>by
  rw[d_]at n⊢;split
  ·rename_i b;rw[if_pos b]at n;exact n
  ·rename_i b;rw[if_neg b]at n;exact Jd n f
def wy{n:Nat}{B0:cd}{f b:cP}(d:List (Nat×Value))(g:I.tmps.size=n)(h:∀a P,P∉b4->get a b P=get a f P)(i:∀a P,P∈b4->get a b P=a P)(j:∀P,P∉b4->I.tmps.getD P undef=get B0 f P):
  Rel n (λP=>I.tmps.getD P undef) (yD d (d.map λk=>I.tmps.getD k.1 undef) b) I:=by
 refine⟨g,λP=>(EI _ (λP=>I.tmps.getD P undef) b d P λc=>?_).symm⟩
 by_cases e:c∈b4
 ·rw[i _ c e]
 ·rw[h _ c e]
  exact Jd (j c e).symm rfl
def oy(b:Rel a V O I):∀n:List (Nat×Value),zY V O n=n.map λP=>I.tmps.getD P.1 undef:=λn=>by
 rw[Aq];exact List.map_congr_left λP _=>(b.slot P.1).symm
def lj{e:Program}{b:Array Oper}{f:World->Prop}{g h:Act->Prop}(c:∀n,g n->h n):∀(i:List Oper) (n:Act),wpQuiet e b f g i n->wpQuiet e b f h i n
 |[],n,a=>c n a
 |j::P,n,a=>by
  unfold wpQuiet at a⊢;split
  ·rename_i d
   rw[if_pos d]at a;exact Oper.quiet_mono (lj c P) a
  ·rename_i d
   rw[if_neg d]at a;exact lj c P _ a
variable{e1:lx}
def VP(L:h.follows .mixedOrders=true):∀(x:Code) (m:iK) (c:cd) (b:cP) (g:Act) (f:World),
  (∀P,P∈writes x->P<a)->(∀I c b z f,m I c b z f->I≠.outgrown)->Rel a c b g->D h e1 x m c b g.defers f->x.wp h (df a c b (writes x) m) g f:=by
 intro x
 induction x with
 |skip=>intro m c b g f _ _ j n;exact wp_skip ⟨c,b,j,λ_ _=>rfl,n⟩
 |label Q=>intro m c b g f _ _ j n;exact wp_label ⟨c,b,j,λ_ _=>rfl,n⟩
 |exit id=>intro m c b g f _ _ j n;exact wp_exit ⟨c,b,j,λ_ _=>rfl,n⟩
 |ret=>intro m c b g f _ _ j n;exact wp_ret ⟨c,b,j,λ_ _=>rfl,n⟩
 |goto Q=>intro m c b g f _ _ j n;exact n.elim
 |refuse sw=>intro m c b g f _ _ j n;exact n.elim
 |scope x S=>
  intro m c b g f w B j n;refine wp_scope_straight (Code.wp_mono ?_ (S (GV m) c b g f w (by intro o c b z f d M;subst M;exact B _ _ _ _ _ d rfl) j n));intro o p r l;obtain⟨t,s,u,v,d⟩:=l
  cases o with
  |goto Q=>exact d.elim
  |normal=>exact⟨t,s,u,v,d⟩
  |exit id=>exact⟨t,s,u,v,d⟩
  |ret=>exact⟨t,s,u,v,d⟩
  |panic A=>exact⟨t,s,u,v,d⟩
  |outgrown=>exact⟨t,s,u,v,d⟩
 |rangeFunc d5 ps I a0 d6 d7=>intro m c b g f _ _ j n;exact n.elim
 |region id i J=>
  intro m c b g f w _ j n;have T:∀U∈i.toList,∀V,U.dst=some V->V<a/\V∈writes (.region id i J):=λU R V hd=>⟨w V (ly R hd),ly R hd⟩
  have a1:∀a4 P,jx i a4=some P->P<a:=by
   intro a4 P W;unfold jx at W
   cases R:i[a4]? with
   |none=>rw[R]at W;simp at W
   |some U=>
    rw[R]at W;have c4:U∈i.toList:=by
     have:=Array.getElem?_eq_some_iff.1 R;obtain⟨b3,rfl⟩:=this;simp
    exact(T U c4 P W).1
  cases J with
  |false=>exact wp_region_list (Ap a1 i.toList b g f T j (λ_ _=>rfl) n)
  |true=>
   unfold D at n;simp only at n;split at n
   ·obtain⟨hB,n⟩:=eJ.out n
    refine wp_region_quiet (C:=cy f) L hB ⟨1,rfl⟩ ?_;have:=rH (B0:=c) (e0:=b) (W:=writes (.region id i true)) a1 i.toList b g T j (λ_ _=>rfl) n;refine lj ?_ _ _ this;rintro p ⟨e',a5,a6,c5,d⟩ r a7;exact⟨c,e',a5,c5,by rw[a6];exact d r a7⟩
   ·obtain⟨b4,n⟩:=eJ.out n
    have C:∀(K:Bool) (q:Nat->Prop) (a8:Nat->Bool),wu h c i K q (λA z f=>∀c b,m (.panic A) c b z f) (λb z f=>m .normal c b z f) a8 i.size (Array.replicate i.size false) b g.defers (f.drewN 1)->(Code.region id i true).wp h (df a c b (writes (.region id i true)) m) g f:=λK q a8 n=>
     wp_region_any L (jR (λA g f n=>rL.post A g f n) (λ_ _ n=>n) _ _ _ _ _ (mL (B0:=c) (e0:=b) (W:=writes (.region id i true)) a1 b4 T a8 _ _ b g _ j (λ_ _=>rfl) n))
    split at n
    ·split at n
     ·obtain⟨q,n⟩:=n _ ⟨1,rfl⟩
      exact C _ q _ n
     ·exact C _ _ _ (n _ ⟨1,rfl⟩)
    ·obtain⟨hM,n⟩:=eJ.out n
     split at n
     ·split at n
      ·obtain⟨q,n⟩:=n _ ⟨1,rfl⟩
       rw[xP hM _ _ _ (CU.init _)]at n;exact wp_region_any L (jR (λA g f n=>rL.post A g f n) (λ_ _ n=>n) _ _ _ _ _ (lP (B0:=c) (e0:=b) (W:=writes (.region id i true)) a1 b4 T q _ _ _ b g _ j (λ_ _=>rfl) n))
      ·obtain⟨q,n⟩:=n _ ⟨1,rfl⟩
       rw[rO hM _ _ (CU.init _)]at n;exact C _ q _ n
     ·have n:=n _ ⟨1,rfl⟩
      rw[rO hM _ _ (CU.init _)]at n;exact C _ _ _ n
 |seq I a0 E F=>
  intro m c b g f w B j n;have b5:∀P,P∈writes I->P<a:=λP k=>w P (List.mem_append.2 (.inl k));have b6:∀P,P∈writes a0->P<a:=λP k=>w P (List.mem_append.2 (.inr k));have e:∀(X:cd->cP->List Deferred->World->Prop) (o:Exit) (p:Act) (r:World),o≠.normal->df a c b (writes I) (Ch X m) o p r->df a c b (writes (I.seq a0)) m o p r:=by
   intro X o p r c6 l;refine l.mono (λP k=>List.mem_append.2 (.inl k)) (λ_ _=>rfl) λt s d8 w1 d=>?_
   cases o with
   |normal=>exact absurd rfl c6
   |outgrown=>exact d.elim
   |_=>exact d
  have b7:∀(X:cd->cP->List Deferred->World->Prop) o c b z f,Ch X m o c b z f->o≠.outgrown:=by
   intro X o c b z f d M;subst M;exact d.elim
  unfold D at n;split at n
  ·have hx:=E _ c b g f b5 (b7 _) j n
   refine wp_seq (Code.wp_mono ?_ hx);intro o p r l
   cases o with
   |normal=>
    obtain⟨t,s,u,v,d⟩:=l;have hy:=F m t s p r b6 B u d;refine Code.wp_mono (λo b8 b9 l=>?_) hy;refine l.mono (λP k=>List.mem_append.2 (.inr k)) (λP k=>v P λL=>k (List.mem_append.2 (.inl L))) λ_ _ _ _ d=>d
   |exit id=>exact e _ _ _ _ (by simp) l
   |goto Q=>exact e _ _ _ _ (by simp) l
   |ret=>exact e _ _ _ _ (by simp) l
   |panic A=>exact e _ _ _ _ (by simp) l
   |outgrown=>exact e _ _ _ _ (by simp) l
  ·rename_i q hS
   obtain⟨d9,n,a9⟩:=n;obtain⟨s,h1,h2,a9⟩:=fu.out a9;have hx:=E _ c b g f b5 (b7 _) j n;refine wp_seq (Code.wp_mono ?_ hx);intro o p r l
   cases o with
   |normal=>
    obtain⟨N,O,y,a2,d⟩:=l;obtain⟨a3,hJ⟩:=Cg.out d;have hv:=oy y q;have b0:=kj N O q;have c0:=ap.all b0 hJ a9 (λP=>p.tmps.getD P undef) r hJ;rw[hv,<-a3]at c0;have c1:=wy (n:=a) q y.size h1 h2 (B0:=c) (λP k=>(y.slot P).trans (a2 P k));have hy:=F m _ _ p r b6 B c1 c0;refine Code.wp_mono (λo b8 b9 l=>?_) hy;refine l.mono (λP k=>List.mem_append.2 (.inr k)) (λP k=>?_) λ_ _ _ _ d=>d;rw[<-c1.slot];exact(y.slot P).trans (a2 P λL=>k (List.mem_append.2 (.inl L)))
   |exit id=>exact e _ _ _ _ (by simp) l
   |goto Q=>exact e _ _ _ _ (by simp) l
   |ret=>exact e _ _ _ _ (by simp) l
   |panic A=>exact e _ _ _ _ (by simp) l
   |outgrown=>exact e _ _ _ _ (by simp) l
 |cond x I a0 E F=>
  intro m c b g f w B j n;unfold D at n;split at n
  ·rename_i c7 H
   refine wp_cond_split (t:=c7) (by rw[j.eval];exact H) (λk=>?_) (λhf=>?_)
   ·subst k
    refine Code.wp_mono (λo p r l=>?_) (E m c b g f (λP k=>w P (List.mem_append.2 (.inl k))) B j n);exact l.mono (λP k=>List.mem_append.2 (.inl k)) (λ_ _=>rfl) λ_ _ _ _ d=>d
   ·subst hf
    refine Code.wp_mono (λo p r l=>?_) (F m c b g f (λP k=>w P (List.mem_append.2 (.inr k))) B j n);exact l.mono (λP k=>List.mem_append.2 (.inr k)) (λ_ _=>rfl) λ_ _ _ _ d=>d
  ·exact n.elim
 |block id x S=>
  intro m c b g f w B j n;refine wp_block (Code.wp_mono ?_ (S (xQ id m) c b g f w (by intro o c b z f d M;subst M;exact d.elim) j n));intro o p r l;obtain⟨t,s,u,v,d⟩:=l
  cases o with
  |exit Y=>
   show(if Y=id then _ else _);simp only[xQ]at d
   cases H:Nat.beq Y id with
   |true=>
    rw[H]at d;rw[if_pos (Nat.eq_of_beq_eq_true H)];exact⟨t,s,u,v,d⟩
   |false=>
    rw[H]at d;rw[if_neg (by rintro rfl;simp at H)];exact⟨t,s,u,v,d⟩
  |normal=>exact⟨t,s,u,v,d⟩
  |goto Q=>exact⟨t,s,u,v,d⟩
  |ret=>exact⟨t,s,u,v,d⟩
  |panic A=>exact⟨t,s,u,v,d⟩
  |outgrown=>exact d.elim
 |loop x S=>
  intro m c b g f w B j n;unfold D at n;split at n
  ·exact n.elim
  ·rename_i q hS
   obtain⟨c8,⟨m0,h0⟩,c9⟩:=n;refine wp_loop_ghost (λb1 p r=>p.tmps.size=a/\(∀P,P∉writes x->p.tmps.getD P undef=get c b P)/\p.defers=g.defers/\
    ap (jf q) (c8 b1) (q.map λb2=>p.tmps.getD b2.1 undef) r) m0 ⟨j.size,λP _=>j.slot P,rfl,by rw[<-oy j q];exact h0⟩ ?_
   rintro b1 p r ⟨d0,c2,a3,hI⟩;obtain⟨s,h1,h2,d1⟩:=fu.out (c9 b1);have b0:(q.map λb2=>p.tmps.getD b2.1 undef).length=(jf q).length:=by rw[<-kj c b q,Aq];simp
   have H:=ap.all b0 hI d1 (λP=>p.tmps.getD P undef) r hI;have c3:=wy (n:=a) q d0 h1 h2 c2;rw[<-a3]at H;have d2:=S _ _ _ p r w (by intro o c b z f d M;subst M;exact d.elim) c3 H;refine Code.wp_mono ?_ d2;intro o b8 b9 l;obtain⟨N,O,y,a2,d⟩:=l;have Z:∀P,P∉writes x->get N O P=get c b P:=λP k=>(a2 P k).trans ((c3.slot P).symm.trans (c2 P k))
   cases o with
   |normal=>
    obtain⟨d3,m',b3,d4⟩:=Cg.out d;refine⟨m',b3,y.size,λP k=>(y.slot P).trans (Z P k),d3.trans a3,?_⟩;rw[<-oy y q];exact d4
   |outgrown=>exact d.elim
   |exit id=>exact⟨N,O,y,Z,d⟩
   |goto Q=>exact⟨N,O,y,Z,d⟩
   |ret=>exact⟨N,O,y,Z,d⟩
   |panic A=>exact⟨N,O,y,Z,d⟩
def Je(n:Program):List ResultVar->cd->cP->World->(List Value->Prop)->Prop
 |[],_,_,_,P=>P []
 |g::f,a,b,d,P=>match g with
  | .tmp c=>Je n f a b d λe=>P (get a b c::e)
  | .cell h c=>eJ (known n c) (jZ n c (get a b h) d λi=>Je n f a b d λe=>P (i::e))
def oneOf(n:List Value):Value:=match n with
 |[P]=>P
 |n=>.tuple n.toArray
def Lv(c:Program)(n:World->Prop)(e:List PanicEntry->World->Prop):List Deferred->FrameMode->World->Prop
 |[],.returning,a=>n a
 |[],.panicking P,a=>e P a
 |[],.run,_=>False
 |d::g,h,a=>h≠.run/\∃f b,d.target= .fn (.func f) b/\enters c f=true/\
   CallsD c f (d.args++b) h a λk i j=>RQ k (λ_=>Lv c n e g (settle i) j) (λl=>Lv c n e g (raised i l) j)
def gU(P:Program)(b:Func)(c:cd)(d:cP)(a:Ending->World->Prop)(e:List Deferred)(f:FrameMode)(n:World):Prop:=
 Lv P (λn=>Je P b.results.toList c d n λg=>a (.returned (oneOf g)) n) (λh n=>a (.panicked h) n) e f n
def Tz(n:Program)(P:Func)(a:Ending->World->Prop):iK:=λf b c d e=>match f with
 | .normal=>gU n P b c a d .returning e
 | .ret=>gU n P b c a d .returning e
 | .panic g=>gU n P b c a d (.panicking g) e
 |_=>False
def Ci(n:Array Value):ResultVar->Sem Value
 | .tmp P=>pure (n.getD P undef)
 | .cell a P=>do loadVar P (<-asAddr (n.getD a undef))
def rQ{c:Program}{k:cd}{l:cP}{p:Nat}{b:Act}(d:Rel p k l b){a:World}:∀{g:List ResultVar} {e:List Value->Prop},Je c g k l a e->
  ∃f,(g.mapM (Ci b.tmps)).run c a=Result.ok f a/\e f
 |[],e,n=>⟨[],by rw[List.mapM_nil];rfl,n⟩
 |q::g,e,n=>by
  unfold Je at n
  cases q with
  |tmp h=>
   obtain⟨f,i,n⟩:=rQ d n;refine⟨_,?_,n⟩;rw[List.mapM_cons];simp only[Ci,Sem.run_bind,Sem.run_pure,Result.andThen_ok,i,d.slot]
  |cell j h=>
   obtain⟨r,n⟩:=eJ.out n;obtain⟨s,t,n⟩:=jZ.out (known.out r).1 n;obtain⟨f,i,n⟩:=rQ d n;refine⟨_,?_,n⟩;rw[List.mapM_cons];have P:=t a rfl;rw[<-d.slot]at P;have:(Ci b.tmps (.cell j h)).run c a= .ok s a:=by
    unfold Ci
    cases m:b.tmps.getD j undef<;>rw[m]at P<;>simp only[Instr.loadAt,Instr.sureAddr,stuck,Sem.run_bind,Sem.run_halt,Result.andThen,reduceCtorEq]at P
    rename_i o
    cases o with
    |none=>simp at P
    |some o=>
          show(do loadVar h (<-asAddr (b.tmps.getD j undef)):Sem Value).run c a=_;rw[m];simpa[asAddr]using P
   simp only[Sem.run_bind,this,Sem.run_pure,Result.andThen_ok,i]
def rR(P:(a8.results.toList.mapM (Ci I.tmps)).run h b=Result.ok a4 b):(results a8 I.tmps).run h b= .ok (oneOf a4) b:=by
 have a:(a8.results.mapM (Ci I.tmps)).run h b=Result.ok a4.toArray b:=by
  rw[Array.mapM_eq_mapM_toList,Sem.run_map,P]
  rfl
 have c:(results a8 I.tmps)=(a8.results.mapM (Ci I.tmps)>>=λn=>pure (if P:n.size=1 then n[0]else Value.tuple n)):=by
   unfold results
   congr 2
 rw[c];simp only[Sem.run_bind,a,Result.andThen_ok,Sem.run_pure]
 congr 1
 match a4 with
 |[]=>rfl
 |[v]=>rfl
 |v::d::e=>
  rw[dif_neg (by simp)]
  rfl
def oz{h:Program}{i:Func}{j:cd}{k:cP}{r:Nat}{l:Act}(e:Rel r j k l){m:Ending->World->Prop}:∀(a:List Deferred) (f:FrameMode) (P:World),
  gU h i j k m a f P->Leaves h i l.tmps m a f P
 |[],.returning,P,n=>by
  obtain⟨C,s,n⟩:=rQ e n;exact⟨_,rR s,n⟩
 |[],.panicking t,P,n=>n
 |[],.run,P,n=>n.elim
 |d::a,f,P,n=>by
  obtain⟨u,o,b,p,v,w⟩:=n;refine⟨u,.func o,b,o,d.args++b,p,?_,?_⟩
  ·rw[p];simp only[invoke];exact je v _ _
  ·intro x cs y
   obtain⟨q,z,A,B,g,c⟩:=w x cs y;refine⟨q,z,A,B,?_,c⟩
   cases q with
   |returned E=>exact oz e a _ _ g
   |panicked t=>exact oz e a _ _ g
   |outgrown=>exact g.elim
def fz:Nat->List Value->cP
 |_,[]=>[]
 |n,P::a=>(n,P)::fz (n+1) a
def pC:∀(a:List Value) (n P:Nat),get (λ_=>undef) (fz n a) P=if n<=P then a.getD (P-n) undef else undef
 |[],n,P=>by simp[fz,get]
 |v::d,n,P=>by
  rw[fz,d_,pC d (n+1) P]
  by_cases b:n=P
  ·subst b;simp
  ·rw[if_neg b]
   by_cases c:n+1<=P
   ·rw[if_pos c,if_pos (by omega),show P-n=(P-(n+1))+1 from by omega];rfl
   ·rw[if_neg c,if_neg (by omega)]
def vi(n:Nat):List Nat->Bool
 |[]=>true
 |d::P=>match Nat.blt d n with
  |true=>vi n P
  |false=>false
def lS{b:Nat}:∀{c:List Nat},vi b c=true->∀n,n∈c->n<b
 |[],_,n,P=>by cases P
 |d::f,a,n,P=>by
  unfold vi at a;split at a
  ·rename_i e
   cases P with
   |head=>
        have:d+1<=b:=by simpa[Nat.blt]using e
        omega
   |tail _ P=>exact lS a n P
  ·cases a
def sq(e:lx)(f:h.follows .mixedOrders=true)(g:h.funcs[z]? =some a8)(i:a8.body=some a2)(r:m.size<=a8.ntmps)(j:vi a8.ntmps (writes a2)=true)(k:D h e a2 (Tz h a8 A) (λ_=>undef) (fz 0 m.toList) [] b):Calls h z m b A:=by
 refine calls_of_wp_defers g i ?_;have l:Rel a8.ntmps (λ_=>undef) (fz 0 m.toList) {tmps:=m++Array.replicate (a8.ntmps-m.size) undef,defers:=[]}:=by
  refine⟨by simp;omega,λa=>?_⟩;rw[pC,if_pos (Nat.zero_le _),Nat.sub_zero];simp only[Array.getD_eq_getD_getElem?,List.getD_eq_getElem?_getD,Array.getElem?_append,Array.getElem?_toList]
  by_cases c:a<m.size
  ·simp[c]
  ·rw[if_neg c]
   simp only[Array.getElem?_replicate];have:m[a]? =none:=by simp;omega
   rw[this];split<;>rfl
 refine Code.wp_mono ?_ (VP f a2 (Tz h a8 A) _ _ _ b (lS j) (by intro d o p s b n q;subst q;exact n.elim) l k);rintro d t u ⟨o,p,P,_,n⟩
 cases d with
 |normal=>exact oz P _ _ _ n
 |ret=>exact oz P _ _ _ n
 |panic v=>exact oz P _ _ _ n
 |exit id=>exact n.elim
 |goto w=>exact n.elim
 |outgrown=>exact n.elim
def EJ(b:Program)(c:Func)(n:Ending->World->Prop):iK:=λf d e P a=>match f with
 | .normal=>(match P with
  |[]=>gU b c d e n [] .returning a
  |_=>False)
 | .ret=>(match P with
  |[]=>gU b c d e n [] .returning a
  |_=>False)
 | .panic g=>(match P with
  |[]=>n (.panicked g) a
  |_=>False)
 |_=>False
def EJ.out{P:Program}(j:Rel a V O I)(n:EJ P a8 A e4 V O I.defers b):
  I.defers=[]/\((e4= .normal\/e4= .ret)/\(∃c,(results a8 I.tmps).run P b= .ok c b/\A (.returned c) b)\/∃h,e4= .panic h/\A (.panicked h) b):=by
 have d:∀e,I.defers=e->(match e with
  |[]=>gU P a8 V O A [] .returning b
  |_=>False)->e=[]/\∃c,(results a8 I.tmps).run P b= .ok c b/\A (.returned c) b:=by
  intro e i n;split at n
  ·obtain⟨l,k,n⟩:=rQ j n
   exact⟨rfl,_,rR k,n⟩
  ·exact n.elim
 unfold EJ at n;split at n
 ·obtain⟨f,g⟩:=d _ rfl n
  exact⟨f,.inl ⟨.inl rfl,g⟩⟩
 ·obtain⟨f,g⟩:=d _ rfl n
  exact⟨f,.inl ⟨.inr rfl,g⟩⟩
 ·split at n
  ·rename_i i
   exact⟨i,.inr ⟨_,rfl,n⟩⟩
  ·exact n.elim
 ·exact n.elim
def xR(c:m.size<=a)(b:List Deferred):Rel a (λ_=>undef) (fz 0 m.toList) {tmps:=m++Array.replicate (a-m.size) undef,defers:=b}:=by
 refine⟨by simp;omega,λn=>?_⟩;rw[pC,if_pos (Nat.zero_le _),Nat.sub_zero];simp only[Array.getD_eq_getD_getElem?,List.getD_eq_getElem?_getD,Array.getElem?_append,Array.getElem?_toList]
 by_cases P:n<m.size
 ·simp[P]
 ·rw[if_neg P]
  simp only[Array.getElem?_replicate];have:m[n]? =none:=by simp;omega
  rw[this];split<;>rfl
def Bg(e:lx)(f:h.follows .mixedOrders=true)(g:h.funcs[z]? =some a8)(i:a8.body=some a2)(j:m.size<=a8.ntmps)(k:vi a8.ntmps (writes a2)=true)(n:D h e a2 (EJ h a8 A) (λ_=>undef) (fz 0 m.toList) [] b):CallsD h z m b1 b λP l d=>l=b1/\A P d:=by
 refine callsD_of_wp g i (Code.wp_mono ?_ (VP f a2 (EJ h a8 A) _ _ _ b (lS k) (by intro o p P s b a q;subst q;exact a.elim) (xR j []) n));rintro o t d ⟨p,P,r,_,a⟩;obtain⟨c,(⟨rfl|rfl,n⟩|⟨u,rfl,n⟩)⟩:=a.out r
 ·exact⟨c,n⟩
 ·exact⟨c,n⟩
 ·exact⟨c,n⟩
def ue:FrameMode->Value
 | .panicking ({v,recovered:=false,goexit:=false}::_)=>v
 |_=>.nilIface
def iU:FrameMode->FrameMode
 | .panicking ({v,recovered:=false,goexit:=false}::older)=>.panicking ({v,recovered:=true}::older)
 |u=>u
def LY{P:Frame}{cs:List Frame}(d:P.mode=b1):recoverD (P::cs)=some (ue b1,{P with mode:=iU b1}::cs)\/(recoverD (P::cs)=none/\ue b1= .nilIface/\iU b1=b1):=by
 subst d;unfold recoverD;simp only;split
 ·rename_i a
  left;rw[a]
  rfl
 ·rename_i c
  right;refine⟨rfl,?_,?_⟩
  ·unfold ue
   split
   ·rename_i b n a;exact absurd a (c b n)
   ·rfl
  ·unfold iU
   split
   ·rename_i b n a;exact absurd a (c b n)
   ·rfl
def Rh(t:lx){id:Nat}{d:Tmp}{e:Array TypeId}(u:h.follows .mixedOrders=true)(v:h.funcs[z]? =some a8)(w:a8.body=some (.seq (.region id #[S] false) a2))(x:S.op= .call {callee:=.builtin .recover,args:= #[],argTypes:=e})(a:S.dst=some d)(y:S.guard=none)(A:Nat.blt d a8.ntmps=true)(B:m.size<=a8.ntmps)(C:vi a8.ntmps (writes a2)=true)(c:D h t a2 (EJ h a8 λf k=>h7 f (iU b1) k) (λ_=>undef) ((d,ue b1)::fz 0 m.toList) [] b):CallsD h z m b1 b h7:=by
 refine callsD_of_wpS v w λn cs l=>wpS_seq (wpS_region ?_);have E:∀o:Act,(execOp o.eval S).run h b= .ok .recover b:=λo=>by simp[execOp,x,resolve,invoke,builtin]
 have F:∀p,Region.wanted S p=true:=λp=>by simp[Region.wanted,y]
 have H:d+1<=a8.ntmps:=by simpa[Nat.blt]using A
 have q:∀(g:Value) (P:List Frame),g=ue b1->P={n with mode:=iU b1}::cs->
   a2.wpS h (bodyPostS h a8 n cs h7) (({tmps:=m++Array.replicate (a8.ntmps-m.size) undef,defers:=[]}:Act).put S.dst g) P b:=by
  rintro g P rfl rfl;refine wpS_of_wp ?_;have r:=(xR B []).put S.dst (λO s=>by rw[a]at s;exact(Option.some.inj s)▸H) (ue b1);rw[a]at r⊢;refine Code.wp_mono ?_ (VP u a2 _ _ _ _ b (lS C) (by intro I J f Q b i K;subst K;exact i.elim) r c);rintro I R k ⟨J,f,L,_,i⟩;obtain⟨a,(⟨rfl|rfl,c⟩|⟨T,rfl,c⟩)⟩:=i.out L
  ·exact⟨a,_,rfl,c⟩
  ·exact⟨a,_,rfl,c⟩
  ·exact⟨a,_,rfl,c⟩
 simp only[show(List.range (#[S]:Array Oper).size)=[0]from rfl,wpOpsS,List.getElem?_toArray,List.getElem?_cons_zero,F,if_true,E];rcases LY (cs:=cs) l with j|⟨j,M,N⟩
 ·rw[j]
  exact q _ _ rfl rfl
 ·rw[j]
  exact q _ _ M.symm (by rw[N,<-l])
def Gk(n:IntKind)(P a:Int):Int:=n.wrap (BitVec.ofInt n.bits P&&&BitVec.ofInt n.bits a).toNat
def Ri(n:IntKind)(P a:Int):Int:=n.wrap (BitVec.ofInt n.bits P|||BitVec.ofInt n.bits a).toNat
def qT(n:IntKind)(P a:Int):Int:=n.wrap (BitVec.ofInt n.bits P ^^^ BitVec.ofInt n.bits a).toNat
def vR(n:IntKind)(P a:Int):Int:=n.wrap (BitVec.ofInt n.bits P&&& ~~~BitVec.ofInt n.bits a).toNat
def LH(n:IntKind)(P a:Int):Int:=n.wrap (P*2 ^(min a.toNat n.bits))
def kv(n:IntKind)(P a:Int):Int:=P.fdiv (2 ^(min a.toNat n.bits))
def oM(n:L:=by omega):L:=n
theorem bn{p:Prop}(h:p:=by dsimp only;omega):p:=h
theorem be{p:Prop}(h:p:=by simp;omega):p:=h
def sM(n:L:=by simp):L:=n
def dC(n:L:=by decide):L:=n
def kR(n:L:=by kernel_rfl):L:=n
abbrev Qq:= @List.getElem?_eq_getElem
abbrev Qx:= @Int.toNat_natCast
abbrev Qz:= @List.take_of_length_le
abbrev Qj:= @Nat.zero_le
abbrev Qv:= @List.getElem?_eq_some_iff
abbrev Qw:= @List.take_add_one
abbrev Qk:= @Nat.lt_of_lt_of_le
abbrev Qy:= @List.length_take
abbrev QQ:= @List.getD_eq_getElem?_getD
abbrev QX:= @List.length_append
abbrev QZ:= @List.mem_of_getElem?
abbrev QJ:= @List.mem_cons_of_mem
abbrev QV:= @List.mem_cons_self
abbrev QW:= @List.eq_nil_of_length_eq_zero
abbrev QK:= @Bool.and_eq_true
abbrev QY:= @List.map_cons
abbrev Q0:= @Nat.mul_le_mul_right
abbrev Q1:= @Option.some.injEq
abbrev Q2:= @List.mem_cons
abbrev Q3:= @List.map_append
abbrev Q4:= @Nat.le_refl
abbrev Q5:= @Array.getElem?_eq_some_iff
abbrev Q6:= @List.mem_append
abbrev Q7:= @List.getElem?_eq_none
abbrev Q8:= @List.length_map
abbrev Q9:= @List.getElem?_map
abbrev Xq:= @List.length_cons
abbrev Xx:= @Nat.le_trans
abbrev Xz:= @Nat.zero_add
abbrev Xj:= @List.getElem?_set
abbrev Xv:= @decide_eq_false
abbrev Xw:= @List.getElem?_take
abbrev Xk:= @List.mem_map
abbrev Xy:= @of_decide_eq_false
abbrev XQ:= @List.append_assoc
abbrev XX:= @Value.slice.injEq
abbrev XZ:= @List.length_drop
abbrev XJ:= @Option.some.inj
abbrev XV:= @of_decide_eq_true
abbrev XW:= @List.getElem?_append_left
abbrev XK:= @Array.length_toList
abbrev XY:= @List.getElem_mem
abbrev X2:= @Nat.min_eq_left
abbrev X3:= @List.ext_getElem?
abbrev X4:= @List.drop_eq_getElem_cons
abbrev X6:= @Array.getElem?_eq_getElem
abbrev X7:= @Nat.add_mul
abbrev X8:= @List.getElem?_append_right
abbrev X9:= @Nat.eq_of_beq_eq_true
abbrev Zq:= @if_neg
abbrev Zx:= @if_pos
abbrev Zz:= @absurd
abbrev Zj:= @congrArg
abbrev Zv:= @Nat.le_of_ble_eq_true
abbrev Zw:= @List.take_succ_cons
abbrev Zk:= @decide_eq_true_eq
abbrev Zy:= @decide_eq_true
abbrev ZQ:= @List.length_nil
abbrev ZX:= @List.take_append_drop
abbrev ZZ:= @List.getElem?_cons_succ
abbrev ZJ:= @List.getElem?_cons_zero
abbrev ZV:= @List.mem_append_left
abbrev ZW:= @List.mem_append_right
abbrev ZK:= @UInt8.toNat_ofNat'
abbrev ZY:= @List.all_eq_true
abbrev ZH:=Value.int .i64
abbrev ZL (b:Nat):Value:=.pointer (some ⟨b,0,none⟩)
abbrev ZM (b:Nat):Option Addr:=some ⟨b,0,none⟩
abbrev ZN:=Nat->Prop
abbrev ZR:=Value->World->Prop
abbrev ZT:=Ending->World->Prop
abbrev ZU:=World->Prop
abbrev WP:=Option Addr

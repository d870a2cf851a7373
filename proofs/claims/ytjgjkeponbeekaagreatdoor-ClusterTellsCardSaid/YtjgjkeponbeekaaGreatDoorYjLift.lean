import Derived.Tactics
import Derived.Defers
import Derived.Recover
import Derived.Deep.Quiet
import Derived.Deep.LoopGhost
import Derived.Laws.Entries
import Derived.Laws.Tables
import Derived.Laws.Cells
import Derived.Scope
set_option linter.all false
namespace Go.aw
open Go
structure aj (S:Nat->Prop) (w w':World):Prop where
 os:w'.os=w.os
 tape:w'.tape=w.tape
 output:w'.output=w.output
 size:w.heap.size<=w'.heap.size
 block:∀k,k<w.heap.size->¬S k->w'.heap[k]? =w.heap[k]?
def get(P:Nat->Value):List (Nat×Value)->Nat->Value
 |[],n=>P n
 |(a,b)::c,n=>match Nat.beq a n with
  |true=>b
  |false=>get P c n
abbrev cP:=List (Nat×Value)
def ev(n:Nat->Value)(P:cP):Operand->Value
 | .tmp a=>get n P a
 | .const b=>b
 | .global c=>.pointer (some ⟨c,0,none⟩)
 | .func d=>.func (.func d) #[] #[]
def cm(P:cP)(n:Option Tmp)(a:Value):cP:=match n with
 |some n=>(n,a)::P
 |none=>P
structure Rel (n:Nat) (B:Nat->Value) (e:cP) (a:Act):Prop where
 size:a.tmps.size=n
 slot:∀t,a.tmps.getD t undef=aw.get B e t
def ej(a:Nat->Value)(b:cP)(P n:Nat)(c:Value):get a ((P,c)::b) n=if P=n then c else get a b n:=by
 show(match Nat.beq P n with|true=>c|false=>get a b n)=_
 by_cases d:P=n
 ·subst d;simp
 ·have:Nat.beq P n=false:=by
   cases e:Nat.beq P n
   ·rfl
   ·exact absurd (Nat.eq_of_beq_eq_true e) d
  rw[this,if_neg d]
def Rel.eval{b:Nat}{n:Nat->Value}{P:cP}{a:Act}(c:Rel b n P a):a.eval=ev n P:=by
 funext d
 cases d with
 |tmp e=>exact c.slot e
 |const f=>rfl
 |global g=>rfl
 |func h=>rfl
def Rel.put{b:Nat}{f:Nat->Value}{g:cP}{c:Act}(a:Rel b f g c)(n:Option Tmp)(h:∀P,n=some P->P<b)(d:Value):Rel b f (cm g n d) (c.put n d):=by
 cases n with
 |none=>exact a
 |some n=>
  have i:=h n rfl;refine⟨by simp[Act.put,a.size],λP=>?_⟩;show(c.tmps.setIfInBounds n d).getD P undef=_;rw[cm,ej,<-a.slot];have j:=a.size
  by_cases e:n=P
  ·subst e
   simp[j,i]
  ·rw[if_neg e]
   simp only[Array.getD_eq_getD_getElem?];rw[Array.getElem?_setIfInBounds_ne e]
variable{I:Act}{f3:Act->World->Prop}{d0:Addr}{a0:Array Bool}{U:Array Oper}{m:Array Value}{K:Bool}{a2:Code}{i0:Ending->FrameMode->World->Prop}{A:Ending->World->Prop}{e4:Exit}{d4:Exit->Act->World->Prop}{b1:FrameMode}{a7:Func}{z:FuncId}{b5:List Nat}{f2:List PanicEntry->Act->World->Prop}{a5:List PanicEntry->World->Prop}{a4:List Value}{a c i:Nat}{f4:Nat->Bool}{Z f:Nat->Prop}{R:Oper}{e2:Operand->Value}{h:Program}{L a9:Prop}{g9:Sem Unit}{e0:Sem Value}{g:TypeId}{f0:TypeInfo}{c7 v:Value}{Q:Value->Prop}{h8 o t:Value->World->Prop}{a6 b k:World}{y:World->Prop}{O:cP}{h9:cP->List Deferred->World->Prop}{f1:cP->Prop}
def Rel.defers{n:Nat->Value}(P:Rel a n O I)(b:List Deferred):Rel a n O {I with defers:=b}:=⟨P.size,P.slot⟩
def put_defers(n:Act)(P:Option Tmp)(a:Value):(n.put P a).defers=n.defers:=by cases P<;>rfl
def al(n:Bool)(P a:Prop):Prop:=match n with
 |true=>P
 |false=>a
def al.mk(n:K=true->L)(P:K=false->a9):al K L a9:=by
 cases K
 ·exact P rfl
 ·exact n rfl
def al.tt(n:K=true)(P:L):al K L a9:=by subst n;exact P
def al.ff(n:K=false)(P:a9):al K L a9:=by subst n;exact P
def QD(a:Value)(n:Value->Prop):Prop:=match a with
 | .int b _=>∃P,n (.int b P)
 | .bool _=>∃c,n (.bool c)
 | .string _=>∃d,n (.string d)
 | .slice _ _ _=>∃e P f,n (.slice e P f)
 | .pointer _=>∃g,n (.pointer g)
 | .map _=>∃h,n (.map h)
 |_=>∃i,n i
def QD.out{z:Value}{φ:Value->Prop}(n:QD z φ):∃P,φ P:=by
 unfold QD at n;split at n
 ·exact⟨_,n.choose_spec⟩
 ·exact⟨_,n.choose_spec⟩
 ·exact⟨_,n.choose_spec⟩
 ·obtain⟨a,b,c,n⟩:=n;exact⟨_,n⟩
 ·exact⟨_,n.choose_spec⟩
 ·exact⟨_,n.choose_spec⟩
 ·exact n
def Su:List Value->(List Value->Prop)->Prop
 |[],n=>n []
 |z::P,n=>QD z λa=>Su P λb=>n (a::b)
def Su.out:∀{P:List Value} {φ:List Value->Prop},Su P φ->∃l,l.length=P.length/\φ l
 |[],_,n=>⟨[],rfl,n⟩
 |z::P,φ,n=>by
  obtain⟨a,n⟩:=QD.out n;obtain⟨l,b,n⟩:=Su.out n;exact⟨a::l,by simp[b],n⟩
def w_(z:Value)(n:Value->Prop):Prop:=match z with
 | .agg P=>Su P.toList λa=>n (.agg a.toArray)
 |z=>QD z n
def w_.out{z:Value}{φ:Value->Prop}(n:w_ z φ):∃P,φ P:=by
 unfold w_ at n;split at n
 ·obtain⟨l,_,n⟩:=Su.out n;exact⟨_,n⟩
 ·exact QD.out n
def W_:List Value->(List Value->Prop)->Prop
 |[],n=>n []
 |z::P,n=>w_ z λa=>W_ P λb=>n (a::b)
def W_.out:∀{P:List Value} {φ:List Value->Prop},W_ P φ->∃l,φ l
 |[],_,n=>⟨[],n⟩
 |z::P,φ,n=>by
  obtain⟨a,n⟩:=w_.out n;obtain⟨l,n⟩:=W_.out n;exact⟨a::l,n⟩
def eE(n:Program)(P:TypeId):Value:=match n.info? P with
 |some a=>match a.zero with
  |some b=>b
  |none=>undef
 |none=>undef
def mU(n:Program)(P:TypeId):Nat:=match n.info? P with
 |some a=>a.size
 |none=>0
def uS(n:Program)(P:TypeId):Bool:=match n.underlying P with
 |some (.struct _)=>true
 |some (.array _ _)=>true
 |_=>false
def uT(n:Program)(P:TypeId)(a:Value->Prop):Prop:=match n.underlying P with
 |some (.tuple b)=>W_ (b.toList.map (eE n)) λc=>a (.tuple c.toArray)
 |_=>w_ (eE n P) a
def uT.out{P:Program}{φ:Value->Prop}(n:uT P g φ):∃a,φ a:=by
 unfold uT at n;split at n
 ·obtain⟨l,n⟩:=W_.out n;exact⟨_,n⟩
 ·exact w_.out n
def jg(P:World)(a:Addr):Nat->List Value->Prop->Prop
 |_,[],n=>n
 |b,c::d,n=>P.cell? (a.add b)=some c/\jg P a (b+1) d n
def jg.out{d:World}{e:Addr}:∀{P:Nat} {l:List Value} {φ:Prop},jg d e P l φ->(∀n a,l[n]? =some a->d.cell? (e.add (P+n))=some a)/\φ
 |_,[],_,c=>⟨λn a b=>by simp at b,c⟩
 |P,j::l,φ,c=>by
  obtain⟨f,g⟩:=c;obtain⟨h,i⟩:=jg.out g;refine⟨λn a b=>?_,i⟩
  cases n with
  |zero=>simp at b;subst b;exact f
  |succ n=>
   have:=h n a (by simpa using b);rw[show P+1+n=P+(n+1)from by omega]at this;exact this
def jW(n:Program)(P:TypeId)(g:Value)(a:World)(b:Value->Prop):Prop:=match g with
 | .pointer (some c)=>match uS n P with
  |true=>match eE n P with
   | .agg d=>match Nat.beq (mU n P) d.size with
    |true=>Su d.toList λe=>jg a c 0 e (b (.agg e.toArray))
    |false=>False
   |_=>False
  |false=>QD (eE n P) λf=>a.cell? c=some f/\b f
 |_=>False
def PS(n:World)(P:Addr)(a:Value)(b:World->Prop):Prop:=(∃c,n.cell? P=some c)/\n.frozen? P=false/\b (n.setCell P a)
def PA(n:World)(P:Obj)(a:World->Prop):Prop:=a (n.alloc P)
def jR(a:Addr):Nat->List Value->World->(World->Prop)->Prop
 |_,[],n,P=>P n
 |b,c::d,n,P=>PS n (a.add b) c λe=>jR a (b+1) d e P
def oJ(n:Program)(P:TypeId)(e a:Value)(b:World)(c:World->Prop):Prop:=match e with
 | .pointer (some d)=>match uS n P with
  |true=>match a with
   | .agg cs=>match Nat.beq cs.size (mU n P)with
    |true=>match cs.toList.all Value.oneCell' with
     |true=>jR d 0 cs.toList b c
     |false=>False
    |false=>False
   |_=>False
  |false=>match Nat.beq (mU n P) 1 with
   |true=>al a.oneCell' (PS b d a c) False
   |false=>False
 |_=>False
def UE(n P:Nat):Nat:=match Nat.beq P 1 with
 |true=>n
 |false=>n*P
def NJ(P n:Nat):UE P n=P*n:=by
 unfold UE
 cases a:Nat.beq n 1
 ·rfl
 ·have:n=1:=Nat.eq_of_beq_eq_true a
  subst this;simp
def UF(d:Program)(i:TypeId)(f g:Value)(h:Value->Prop):Prop:=match d.underlying i with
 |some (.slice n)=>match f,g with
  | .slice b j _,.int _ a=>∃c P,b=some ⟨c,P,none⟩/\0<=a/\a<j/\h (.pointer (some ⟨c,P+UE a.toNat (mU d n),none⟩))
  |_,_=>False
 |some (.array e n)=>match f,g with
  | .pointer k,.int _ a=>∃c P,k=some ⟨c,P,none⟩/\0<=a/\a<e/\h (.pointer (some ⟨c,P+UE a.toNat (mU d n),none⟩))
  |_,_=>False
 |_=>False
def Hh(a b:Value)(c:Value->Prop):Prop:=match a,b with
 | .string d,.int _ n=>0<=n/\∃P,d[n.toNat]? =some P/\c (.int .u8 P.toNat)
 |_,_=>False
def dh(P:Option Addr)(a b n:Nat):Option Addr:=if b=a then P else P.map (·.add (a*n))
def UG(g:Program)(m:TypeId)(k:Value)(h i l:Option Value)(c:Value->Prop):Prop:=match g.underlying m with
 |some .string=>match k,l with
  | .string d,none=>match h,i with
   |none,none=>c (.string (d.extract 0 d.size))
   |some (.int _ n),none=>0<=n/\n<=d.size/\c (.string (d.extract n.toNat d.size))
   |none,some (.int _ P)=>0<=P/\P<=d.size/\c (.string (d.extract 0 P.toNat))
   |some (.int _ n),some (.int _ P)=>0<=n/\n<=P/\P<=d.size/\c (.string (d.extract n.toNat P.toNat))
   |_,_=>False
  |_,_=>False
 |some (.slice a)=>match k,l with
  | .slice e j b,none=>match h,i with
   |none,none=>c (.slice e j b)
   |some (.int _ n),none=>0<=n/\n<=j/\c (.slice (dh e n.toNat b (mU g a)) (j-n.toNat) (b-n.toNat))
   |none,some (.int _ P)=>0<=P/\P<=b/\c (.slice e P.toNat b)
   |some (.int _ n),some (.int _ P)=>0<=n/\n<=P/\P<=b/\c (.slice (dh e n.toNat b (mU g a)) (P.toNat-n.toNat) (b-n.toNat))
   |_,_=>False
  | .slice e _ b,some (.int _ f)=>match h,i with
   |none,some (.int _ P)=>0<=P/\P<=f/\f<=b/\c (.slice e P.toNat f.toNat)
   |some (.int _ n),some (.int _ P)=>0<=n/\n<=P/\P<=f/\f<=b/\c (.slice (dh e n.toNat f.toNat (mU g a)) (P.toNat-n.toNat) (f.toNat-n.toNat))
   |_,_=>False
  |_,_=>False
 |_=>False
def ZF(a:Option Addr)(b:Value->Prop):Prop:=∃P n,a=some ⟨P,n,none⟩/\b (.pointer (some ⟨P,n,none⟩))
def aK(a:Program)(b:Sem Value)(c:World)(d e:Value->World->Prop):Prop:=match b.run a c with
 | .ok n P=>d n P
 | .halt (.panic n) P=>e n P
 |_=>False
def lR(P:Program)(a:Sem Unit)(b:World)(c:World->Prop)(d:Value->World->Prop):Prop:=match a.run P b with
 | .ok _ n=>c n
 | .halt (.panic e) n=>d e n
 |_=>False
def aK.mk{n w':World}{v:Value}(P:e0.run h n= .ok v w')(a:o v w'):aK h e0 n o t:=by
 unfold aK;rw[P];exact a
def lR.mk{n w':World}(P:g9.run h n= .ok () w')(a:y w'):lR h g9 n y o:=by
 unfold lR;rw[P];exact a
def aK.imp(c:∀P a,o P a->t P a)(n:aK h e0 b o h8):aK h e0 b t h8:=by
 unfold aK at*;split at n
 ·exact c _ _ n
 ·exact n
 ·exact n.elim
def aK.panics{v:Value}(n:e0.run h b= .halt (.panic v) k)(P:t v k):aK h e0 b o t:=by
 unfold aK;rw[n];exact P
def enters(P:Program)(a:FuncId):Bool:=match P.funcs[a]? with
 |some n=>match n.body with
  |some _=>!(n.name== "runtime.NumGoroutine")
  |none=>false
 |none=>false
def Sv(n:Ending)(P:Value->Prop)(a:List PanicEntry->Prop):Prop:=match n with
 | .returned b=>P b
 | .panicked c=>a c
 | .outgrown=>False
def PC(a:Program)(b:FuncId)(n:Array Value)(c:World)(d:Value->World->Prop)(e:List PanicEntry->World->Prop):Prop:=
 Calls a b n c λf P=>Sv f (λg=>d g P) (λh=>e h P)
def NK(P:Program)(b:FuncId)(n:Array Value)(c:TypeId)(d:World)(e:Value->World->Prop)(f:List PanicEntry->World->Prop):Prop:=
 PC P b n d (λg h=>uT P c λa=>g=a/\e a h) f
def Wu(b:Program)(c:Value)(n:Array Value)(d:TypeId)(e:World)(f:Value->World->Prop)(g:List PanicEntry->World->Prop):Prop:=
 ∃a first P,c= .func (.func a) first P/\enters b a=true/\NK b a (first++n++P) d e f g
def Uf(a:Program)(c:FuncId)(n:Array Value)(P:World)(d e:Value->World->Prop):Prop:=
 ∃b:Sem Value,(∀P,(callFunc c n).run a P=(b.run a P).andThen λf g=>.ok (.value f) g)/\aK a b P d e
def ZG(b:Program)(n:Value)(P:String)(a:Array Value)(e:TypeId)(f:World)(g:Value->World->Prop)(h:List PanicEntry->World->Prop):Prop:=
 ∃c as,(∀d,(callMethod n P a).run b d= .ok (.enter c as) d)/\NK b c as e f g h
def isInt(n:Program)(P:TypeId):Bool:=match n.underlying P with
 |some (.int _)=>true
 |_=>false
def NL(n:Program)(P:TypeId):Bool:=match n.underlying P with
 |some (.int _)=>true
 |some .bool=>true
 |some .string=>true
 |_=>false
def isMap(n:Program)(P:TypeId):Bool:=match n.underlying P with
 |some (.map _ _)=>true
 |_=>false
def wB(n:Operand):Bool:=match n with
 | .const _=>true
 |_=>false
def Hi(n:Program)(e:Oper):Bool:=match e.op with
 | .lookup .. =>true
 | .next .. =>true
 | .entry _=>true
 | .mapEntry .. =>true
 | .makeSlice .. =>true
 | .convert a c _=>match isInt n a with
  |true=>match isInt n c with
   |true=>false
   |false=>true
  |false=>true
 | .binOp f d _ P _=>match f with
  | .quo=>match wB P with
   |true=>false
   |false=>true
  | .rem=>match wB P with
   |true=>false
   |false=>true
  | .shl=>match wB P with
   |true=>false
   |false=>true
  | .shr=>match wB P with
   |true=>false
   |false=>true
  | .add=>match isInt n d with
   |true=>false
   |false=>true
  | .eql=>match NL n d with
   |true=>false
   |false=>true
  | .neq=>match NL n d with
   |true=>false
   |false=>true
  |_=>false
 | .call {callee:=.builtin b,argTypes,..}=>match b with
  | .append=>true
  | .copy=>true
  | .cap=>true
  | .len=>isMap n (argTypes.getD 0 0)
  |_=>false
 |_=>false
def Pw(P:Operand->Value)(i:Oper):Option (Sem Value):=match i.op with
 | .move a| .assign a=>some (.pure (P a))
 | .pick b v l=>some (do pure (if<-asBool (P b)then P v else P l))
 | .alloc g=>some (Instr.alloc g true (.tuple #[]))
 | .box g a=>some (Instr.box g (P a))
 | .build h c=>some (Instr.build h (c.map λ(m,a)=>(m,P a)))
 | .buildSlice h o c=>some (Instr.buildSlice h o (c.map λ(m,a)=>(m,P a)))
 | .waits w=>some (Instr.waits w)
 | .binOp k n a p _=>some (do eqGuard k n a p (P a) (P p);binOp k n (P a) (P p))
 | .unOp k _ a=>some (Op.unary k (P a))
 | .convert q r a=>some (convert q r (P a))
 | .makeInterface n a=>some (Instr.makeInterface n (P a))
 | .makeFunc x first d=>some (Instr.makeFunc x (first.map P) (d.map P))
 | .makeMap h y=>some (Instr.makeMap h (y.map P))
 | .makeSlice h z b=>some (Instr.makeSlice h (P z) (P b))
 | .fieldAddr A a s=>some (Instr.fieldAt A (P a) s)
 | .field n a s=>some (Instr.field n (P a) s)
 | .index n a j=>some (Instr.index n (P a) (P j))
 | .lookup n a j t=>some (Instr.lookup n (P a) (P j) t)
 | .mapEntry h B C=>some (Instr.mapEntry h (P B) (P C))
 | .range n a=>some (Instr.range n (P a))
 | .next u e=>some (Instr.next (P u) e i.type)
 | .entry u=>some (Instr.entry (P u))
 | .typeAssert a n f t=>some (Instr.typeAssert (P a) n f t)
 | .extract h j=>some (Instr.extract (P h) j)
 | .panic a=>some (Instr.panic (P a))
 | .call b=>match b.callee with
  | .builtin l=>match l with
   | .append=>some (Builtin.append_ b.argTypes i.type (b.args.map P))
   | .cap=>some (Builtin.cap_ b.argTypes i.type (b.args.map P))
   | .clear=>some (Builtin.clear_ b.argTypes i.type (b.args.map P))
   | .copy=>some (Builtin.copy_ b.argTypes i.type (b.args.map P))
   | .delete=>some (Builtin.delete_ b.argTypes i.type (b.args.map P))
   | .len=>some (Builtin.len_ b.argTypes i.type (b.args.map P))
   | .max=>some (Builtin.max_ b.argTypes i.type (b.args.map P))
   | .min=>some (Builtin.min_ b.argTypes i.type (b.args.map P))
   | .panic=>some (Instr.panic ((b.args.map P).getD 0 .nilIface))
   |_=>none
  |_=>none
 |_=>none
def UH(n:Operand->Value)(d:Oper):Option (Sem Unit):=match d.op with
 | .mapUpdate P a c b| .insert P a c b=>some (Instr.mapUpdate P (n a) (n c) (n b))
 | .entryStore P a e b=>some (Instr.entryStore P (n a) (n e) (n b))
 | .ready f=>some (Instr.ready f)
 |_=>none
def tE{P a d:Type}(n:Result P)(b:P->World->Result a)(c:a->World->Result d):(n.andThen b).andThen c=n.andThen λe f=>(b e f).andThen c:=by
 cases n<;>rfl
def jS(P:Pw e2 R=some e0)(b:Program)(c:World):
  (execOp e2 R).run b c=(e0.run b c).andThen λf g=>.ok (.value f) g:=by
 obtain⟨h,i,d,j,a,guard⟩:=R
 cases i
 case call k=>
  obtain⟨n,e,l⟩:=k
  cases n
  case builtin m=>
   cases m<;>simp only[Pw,Option.some.injEq,reduceCtorEq]at P<;>subst P<;>simp[execOp,resolve,invoke,builtin]
  all_goals simp[Pw]at P
 all_goals first
  |(cases P;done)
  |(cases P;simp[execOp];done)
  |(cases P;simp only[execOp,Sem.run_bind,Sem.run_pure,tE,Result.andThen_ok];done)
  |(cases P;simp only[execOp,Sem.run_bind,Sem.run_pure,tE,Result.andThen_ok];rfl)
def Px(n:UH e2 R=some g9)(a:Program)(b:World):
  (execOp e2 R).run a b=(g9.run a b).andThen λ_ d=>.ok .skip d:=by
 obtain⟨e,f,c,g,P,guard⟩:=R
 cases f
 all_goals first
  |(simp only[UH,Option.some.injEq]at n;subst n;simp[execOp];done)
  |(simp[UH]at n;done)
section
variable {P:Program}
def dI(P:Program)(n:TypeId)(b:Bool)(c:uS P n=b)(f:∃a,P.underlying n=some a)(d:World):(isAgg n).run P d= .ok b d:=by
 obtain⟨a,e⟩:=f;unfold uS at c;rw[e]at c;simp only[isAgg,Sem.run_bind,run_underlying e,Result.andThen_ok]
 cases a<;>simp_all
def EY(n:eE P g=v)(c:v≠undef):∃a,P.info? g=some a/\a.zero=some v:=by
 unfold eE at n;split at n
 ·rename_i a d
  split at n
  ·rename_i e b;exact⟨a,d,by rw[b,n]⟩
  ·exact absurd n.symm c
 ·exact absurd n.symm c
def dJ(a:P.info? g=some f0)(n:World):(sizeOf g).run P n= .ok f0.size n:=by
 simp[sizeOf,typeInfo,a]
def jh(n:P.info? g=some f0):mU P g=f0.size:=by simp[mU,n]
def wC(P:k.heap=b.heap)(n:Addr):k.cell? n=b.cell? n:=by simp[World.cell?,P]
def jW.out(j:∃m,P.underlying g=some m)(n:jW P g v b Q):
  ∃a,(∀c,c.heap=b.heap->(Instr.loadAt g v).run P c= .ok a c)/\Q a:=by
 unfold jW at n;split at n
 ·rename_i f
  split at n
  ·rename_i h
   split at n
   ·rename_i y o
    split at n
    ·rename_i p
     obtain⟨l,q,n⟩:=Su.out n;obtain⟨i,n⟩:=jg.out n;obtain⟨r,k,_⟩:=EY o (by simp[undef]);have s:r.size=l.length:=by
      have:=Nat.eq_of_beq_eq_true p;rw[jh k]at this;simp[this,q]
     refine⟨_,λc d=>?_,n⟩;have t:∀e a,l[e]? =some a->c.cell? (f.add e)=some a:=λe a u=>by
      rw[wC d];have:=i e a u;simpa using this
     have w:=run_loadCells_list (P:=P) (w:=c) f l t;simp only[Instr.loadAt,Instr.sureAddr,loadVar,Sem.run_bind,Sem.run_pure,Result.andThen_ok,dI P g _ h j,if_true,dJ k,s,w]
    ·exact n.elim
   ·exact n.elim
  ·rename_i h
   obtain⟨a,x,n⟩:=QD.out n;refine⟨a,λc d=>?_,n⟩;have i:c.cell? f=some a:=by rw[wC d];exact x
   simp[Instr.loadAt,Instr.sureAddr,loadVar,dI P g _ h j,load,Sem.run,i]
 ·exact n.elim
def jR.out{d:Addr}{e:World->Prop}:∀{l:List Value} {b:Nat} {a:World},(∀v∈l,v.oneCell'=true)->jR d b l a e->∃c,(storeCells d l b).run P a= .ok () c/\e c
 |[],b,a,_,n=>⟨a,rfl,n⟩
 |v::l,b,a,f,n=>by
  obtain⟨⟨m,g⟩,h,n⟩:=n;obtain⟨c,i,n⟩:=jR.out (l:=l) (λv j=>f v (List.mem_cons_of_mem _ j)) n;refine⟨c,?_,n⟩;have k:=run_store P a (d.add b) v .plain (f v (List.mem_cons_self ..));simp only[storeCells,Sem.run_bind,k,g,h];simpa using i
def oJ.out{g:TypeId}{j a:Value}{h:World}{k:World->Prop}(b:∃e,P.info? g=some e)(n:oJ P g j a h k):
  ∃f,(Instr.storeAt g j a).run P h= .ok () f/\k f:=by
 obtain⟨e,b⟩:=b;unfold oJ at n;split at n
 ·rename_i l
  split at n
  ·split at n
   ·rename_i cs
    split at n
    ·rename_i c
     split at n
     ·rename_i d
      obtain⟨f,m,n⟩:=jR.out (P:=P) (λa o=>by simpa using List.all_eq_true.1 d a o) n;refine⟨f,?_,n⟩;have i:cs.size=e.size:=by have:=Nat.eq_of_beq_eq_true c;rwa [jh b]at this
      simp[Instr.storeAt,Instr.sureAddr,storeVar,dJ b,Value.cells,i,m]
     ·exact n.elim
    ·exact n.elim
   ·exact n.elim
  ·split at n
   ·rename_i c
    have i:e.size=1:=by have:=Nat.eq_of_beq_eq_true c;rwa [jh b]at this
    cases d:a.oneCell' with
    |false=>rw[d]at n;exact n.elim
    |true=>
     rw[d]at n;obtain⟨⟨s,p⟩,q,n⟩:=n;refine⟨_,?_,n⟩;have r:a.cells= #[a]:=by cases a<;>first|rfl|(simp[Value.oneCell']at d)
     have c:=run_store P h l a .plain d;rw[p,q]at c;simp[Instr.storeAt,Instr.sureAddr,storeVar,dJ b,r,i,storeCells,Addr.add_zero',c]
   ·exact n.elim
 ·exact n.elim
def UF.out(l:∀e,(P.underlying g=some (.slice e)\/∃m,P.underlying g=some (.array m e))->∃f,P.info? e=some f)(n:UF P g v c7 Q):
  ∃o,(∀d,(Instr.indexAt g v c7).run P d= .ok o d)/\Q o:=by
 unfold UF at n;split at n
 ·rename_i a b
  split at n
  ·rename_i p m t q r
   obtain⟨s,h,rfl,i,j,n⟩:=n;obtain⟨f,c⟩:=l a (.inl b);refine⟨_,λd=>?_,n⟩;simp[Instr.indexAt,asIntOf,run_underlying b,i,j,dJ c,NJ,jh c,Addr.add_lit]
  ·exact n.elim
 ·rename_i k a b
  split at n
  ·rename_i u q r
   obtain⟨s,h,rfl,i,j,n⟩:=n;obtain⟨f,c⟩:=l a (.inr ⟨k,b⟩);refine⟨_,λd=>?_,n⟩;simp[Instr.indexAt,Instr.sureAddr,asIntOf,run_underlying b,i,j,dJ c,NJ,jh c,Addr.add_lit]
  ·exact n.elim
 ·exact n.elim
def Hh.out(c:P.underlying g=some .string)(n:Hh v c7 Q):∃b,(∀a,(Instr.index g v c7).run P a= .ok b a)/\Q b:=by
 unfold Hh at n;split at n
 ·rename_i f h i
  obtain⟨d,j,e,n⟩:=n;refine⟨_,λa=>?_,n⟩;simp[Instr.index,asIntOf,run_underlying c,d,e]
 ·exact n.elim
def bW(b:Value)(a:Int)(e:IntKind)(f:b= .int e a)(c:Nat)(n:BoundsCode)(d:World)(g:0<=a/\a<=c):(Instr.sliceBound b c n).run P d= .ok a.toNat d:=by
 subst f;simp[Instr.sliceBound,asIntOf,g]
def UG.out{i j k:Option Value}(y:∀t,P.underlying g=some (.slice t)->∃u,P.info? t=some u)(n:UG P g v i j k Q):
  ∃w,(∀a,(Instr.sliceAt g v i j k).run P a= .ok w a)/\Q w:=by
 unfold UG at n;split at n
 ·rename_i c
  have e:∀a,(Instr.sliceAt g v i j k).run P a=(Instr.slice g v i j k).run P a:=λa=>by simp[Instr.sliceAt,run_underlying c]
  split at n
  ·rename_i s
   split at n
   ·exact⟨_,λa=>by rw[e];simp[Instr.slice,Instr.sliceBounds,run_underlying c],n⟩
   ·rename_i l
    obtain⟨b,f,n⟩:=n;exact⟨_,λa=>by rw[e];simp[Instr.slice,Instr.sliceBounds,run_underlying c,bW _ l _ rfl s.size _ a ⟨b,f⟩],n⟩
   ·rename_i d
    obtain⟨b,f,n⟩:=n;exact⟨_,λa=>by rw[e];simp[Instr.slice,Instr.sliceBounds,run_underlying c,bW _ d _ rfl s.size _ a ⟨b,f⟩],n⟩
   ·rename_i l _ d
    obtain⟨b,f,m,n⟩:=n;exact⟨_,λa=>by rw[e];simp[Instr.slice,Instr.sliceBounds,run_underlying c,bW _ d _ rfl s.size _ a ⟨by omega,m⟩,bW _ l _ rfl d.toNat _ a ⟨b,by omega⟩],n⟩
   ·exact n.elim
  ·exact n.elim
 ·rename_i o c
  obtain⟨u,h⟩:=y o c;have e:∀a,(Instr.sliceAt g v i j k).run P a=(Instr.slice g v i j k).run P a:=λa=>by simp[Instr.sliceAt,run_underlying c]
  split at n
  ·rename_i q x p
   split at n
   ·refine⟨_,λa=>?_,n⟩
    rw[e]
    cases q<;>simp[Instr.slice,Instr.sliceBounds,run_underlying c,dJ h,Addr.add_zero']
   ·rename_i l
    obtain⟨b,f,n⟩:=n;refine⟨_,λa=>?_,n⟩;rw[e];simp[Instr.slice,Instr.sliceBounds,run_underlying c,dJ h,bW _ l _ rfl x _ a ⟨b,f⟩,dh,jh h]
   ·rename_i d
    obtain⟨b,f,n⟩:=n;refine⟨_,λa=>?_,n⟩;rw[e]
    cases q<;>simp[Instr.slice,Instr.sliceBounds,run_underlying c,dJ h,bW _ d _ rfl p _ a ⟨b,f⟩,Addr.add_zero']
   ·rename_i l _ d
    obtain⟨b,f,m,n⟩:=n;refine⟨_,λa=>?_,n⟩;rw[e];simp[Instr.slice,Instr.sliceBounds,run_underlying c,dJ h,bW _ d _ rfl p _ a ⟨by omega,m⟩,bW _ l _ rfl d.toNat _ a ⟨b,by omega⟩,dh,jh h]
   ·exact n.elim
  ·rename_i q x p _ r
   split at n
   ·rename_i d
    obtain⟨b,f,m,n⟩:=n;refine⟨_,λa=>?_,n⟩;rw[e]
    cases q<;>simp[Instr.slice,Instr.sliceBounds,run_underlying c,dJ h,bW _ r _ rfl p _ a ⟨by omega,m⟩,bW _ d _ rfl r.toNat _ a ⟨b,by omega⟩,Addr.add_zero']
   ·rename_i l _ d
    obtain⟨b,f,m,z,n⟩:=n;refine⟨_,λa=>?_,n⟩;rw[e];simp[Instr.slice,Instr.sliceBounds,run_underlying c,dJ h,bW _ r _ rfl p _ a ⟨by omega,z⟩,bW _ d _ rfl r.toNat _ a ⟨by omega,by omega⟩,bW _ l _ rfl d.toNat _ a ⟨b,by omega⟩,dh,jh h]
   ·exact n.elim
  ·exact n.elim
 ·exact n.elim
end
def known(n:Program)(P:TypeId):Bool:=match n.underlying P,n.info? P with
 |some _,some _=>true
 |_,_=>false
def iw(n:Program)(a:TypeId):Bool:=match n.underlying a with
 |some (.slice P)=>match n.info? P with
  |some _=>true
  |none=>false
 |some (.array _ P)=>match n.info? P with
  |some _=>true
  |none=>false
 |some _=>true
 |none=>false
def eO(n:Bool)(P:Prop):Prop:=match n with
 |true=>P
 |false=>False
def eO.out(n:eO K L):K=true/\L:=by
 cases K
 ·exact n.elim
 ·exact⟨rfl,n⟩
abbrev ck:=Nat->Value
abbrev iP:=Exit->ck->cP->List Deferred->World->Prop
def Py(a:Value)(P:Value->Prop):Prop:=match a with
 | .pointer b=>ZF b P
 | .func (.func c) first n=>P (.func (.func c) first n)
 |_=>False
def wD(n:Program)(P a:Nat):List Oper->Value
 |[]=>undef
 |c::b=>match c.op with
  | .extract (.tmp d) e=>match Nat.beq d P with
   |true=>match Nat.beq e a with
    |true=>eE n c.type
    |false=>wD n P a b
   |false=>wD n P a b
  |_=>wD n P a b
def AD(a:Program)(n:Array Oper)(P:Option Tmp)(b:Nat):Value:=match P with
 |some P=>wD a P b n.toList
 |none=>undef
def iD(e:Bool)(n:Value)(P:Value->Prop):Prop:=(n= .tuple #[.bool false]/\P (.tuple #[.bool false]))\/(match e with
 |true=>∃a b,n= .tuple #[.bool true,.int .i64 a,.int .i32 b]/\P (.tuple #[.bool true,.int .i64 a,.int .i32 b])
 |false=>∃c d,n= .tuple #[.bool true,c,d]/\P (.tuple #[.bool true,c,d]))
def iD.out(h:iD K v Q):Q v:=by
 unfold iD at h;rcases h with⟨rfl,h⟩|h
 ·exact h
 ·cases K
  ·obtain⟨n,P,rfl,h⟩:=h;exact h
  ·obtain⟨n,P,rfl,h⟩:=h;exact h
def Hj(a z1:Value)(b:Value)(c:Value->Prop):Prop:=w_ a λn=>w_ z1 λP=>b= .tuple #[n,P]/\c (.tuple #[n,P])
def Hj.out{a z1:Value}(c:Hj a z1 v Q):Q v:=by
 obtain⟨P,d⟩:=w_.out (z:=a) (φ:=λP=>w_ z1 λn=>v= .tuple #[P,n]/\Q (.tuple #[P,n])) c;obtain⟨n,b⟩:=w_.out (z:=z1) (φ:=λn=>v= .tuple #[P,n]/\Q (.tuple #[P,n])) d;rw[b.1];exact b.2
def Hk(a:Value)(b:Value)(c:Value->Prop):Prop:=w_ a λn=>∃P,b= .tuple #[n,.bool P]/\c (.tuple #[n,.bool P])
def Hk.out{z n:Value}(b:Hk z n Q):Q n:=by
 obtain⟨P,a,c,d⟩:=w_.out (z:=z) (φ:=λP=>∃a,n= .tuple #[P,.bool a]/\Q (.tuple #[P,.bool a])) b;rw[c];exact d
def Sw(e:Program)(p:Array Oper)(a:ck)(b:Oper)(m:iP)(i:cP->List Deferred->World->Prop)(n:cP)(c:List Deferred)(h:World):Prop:=
 match b.op with
 | .load k t=>eO (known e k) (jW e k (ev a n t) h λd=>i (cm n b.dst d) c h)
 | .store k t o=>eO (known e k) (oJ e k (ev a n t) (ev a n o) h λP=>i (cm n b.dst undef) c P)
 | .indexAddr k o s=>eO (iw e k) (UF e k (ev a n o) (ev a n s) λd=>i (cm n b.dst d) c h)
 | .slice k o x y z=>eO (iw e k) (UG e k (ev a n o) (x.map (ev a n)) (y.map (ev a n)) (z.map (ev a n)) λd=>i (cm n b.dst d) c h)
 | .nilCheck o=>Py (ev a n o) λd=>i (cm n b.dst d) c h
 | .index k o s=>match e.underlying k with
  |some .string=>Hh (ev a n o) (ev a n s) λd=>i (cm n b.dst d) c h
  |_=>aK e (Instr.index k (ev a n o) (ev a n s)) h (λd P=>i (cm n b.dst d) c P) (λj P=>m (.panic [{v:=j,recovered:=false}]) a n c P)
 | .call {callee:=.value (.func g),args,..}=>match enters e g with
  |true=>NK e g (args.map (ev a n)) b.type h (λd P=>i (cm n b.dst d) c P) (λr P=>m (.panic r) a n c P)
  |false=>Uf e g (args.map (ev a n)) h (λd P=>uT e b.type λl=>d=l/\i (cm n b.dst l) c P) (λj P=>m (.panic [{v:=j,recovered:=false}]) a n c P)
 | .call {callee:=.value f,args,..}=>Wu e (ev a n f) (args.map (ev a n)) b.type h (λd P=>i (cm n b.dst d) c P) (λr P=>m (.panic r) a n c P)
 | .call {callee:=.invoke f name,args,..}=>ZG e (ev a n f) name (args.map (ev a n)) b.type h (λd P=>i (cm n b.dst d) c P) (λr P=>m (.panic r) a n c P)
 | .defer {callee:=.value f,args,..}=>match ev a n f with
  | .func A first u=>i (cm n b.dst undef) ({target:=.fn A u,args:=first++args.map (ev a n)}::c) h
  |_=>False
 | .next v q=>aK e (Instr.next (ev a n v) q b.type) h (λd P=>iD q d λl=>i (cm n b.dst l) c P) (λj P=>m (.panic [{v:=j,recovered:=false}]) a n c P)
 | .entry v=>aK e (Instr.entry (ev a n v)) h (λd P=>Hj (AD e p b.dst 0) (AD e p b.dst 1) d λl=>i (cm n b.dst l) c P) (λj P=>m (.panic [{v:=j,recovered:=false}]) a n c P)
 | .mapEntry k B C=>aK e (Instr.mapEntry k (ev a n B) (ev a n C)) h (λd P=>Hj (AD e p b.dst 0) (AD e p b.dst 1) d λl=>i (cm n b.dst l) c P) (λj P=>m (.panic [{v:=j,recovered:=false}]) a n c P)
 | .typeAssert o E w true=>aK e (Instr.typeAssert (ev a n o) E w true) h (λd P=>Hk (eE e w) d λl=>i (cm n b.dst l) c P) (λj P=>m (.panic [{v:=j,recovered:=false}]) a n c P)
 |_=>match Pw (ev a n) b with
  |some q=>match Hi e b with
   |true=>aK e q h (λd P=>uT e b.type λl=>d=l/\i (cm n b.dst l) c P) (λj P=>m (.panic [{v:=j,recovered:=false}]) a n c P)
   |false=>aK e q h (λd P=>i (cm n b.dst d) c P) (λj P=>m (.panic [{v:=j,recovered:=false}]) a n c P)
  |none=>match UH (ev a n) b with
   |some q=>lR e q h (λP=>i (cm n b.dst undef) c P) (λj P=>m (.panic [{v:=j,recovered:=false}]) a n c P)
   |none=>False
def ji(P:enters h z=true)(n:Array Value)(a:World):(callFunc z n).run h a= .ok (.enter z n) a:=by
 unfold enters at P;split at P
 ·rename_i b c
  split at P
  ·rename_i f d
   have e:¬b.name= "runtime.NumGoroutine":=by simpa using P
   simp[callFunc,program,Sem.run,c,d,e]
  ·cases P
 ·cases P
def uU{next:Act->World->Prop}(f:NK h z m g b o a5)(i:∀P n,o P n->next (I.put R.dst P) n)(j:∀a n,a5 a n->d4 (.panic a) I n):
  R.upon h I next d4 (.ok (.enter z m) b):=by
 rw[Oper.upon_enter];refine Calls.mono f λk n c=>?_
 cases k with
 |returned P=>
  obtain⟨d,rfl,e⟩:=uT.out (φ:=λd=>P=d/\o d n) c;exact i _ _ e
 |panicked a=>exact j _ _ c
 |outgrown=>exact c.elim
def known.out{P:Program}(n:known P g=true):(∃a,P.underlying g=some a)/\∃b,P.info? g=some b:=by
 unfold known at n;split at n
 ·rename_i a b c d;exact⟨⟨a,c⟩,b,d⟩
 ·cases n
def iw.out{P:Program}(a:iw P g=true):∀n,(P.underlying g=some (.slice n)\/∃e,P.underlying g=some (.array e n))->∃b,P.info? n=some b:=by
 intro n c;unfold iw at a;rcases c with c|⟨e,c⟩
 ·rw[c]at a
  cases d:P.info? n with
  |none=>simp[d]at a
  |some b=>exact⟨b,rfl⟩
 ·rw[c]at a
  cases d:P.info? n with
  |none=>simp[d]at a
  |some b=>exact⟨b,rfl⟩
variable{V:ck}{c2:iP}
def Hl{P:Program}{next:Act->World->Prop}(p:Rel a V O I)(L:∀M,R.dst=some M->M<a)(n:Sw P U V R c2 h9 O I.defers b)(N:∀d A e,Rel a V (cm O R.dst d) A->h9 (cm O R.dst d) A.defers e->next A e)(x:∀Q e,c2 (.panic Q) V O I.defers e->d4 (.panic Q) I e):R.wp P I b next d4:=by
 have t:∀d e,h9 (cm O R.dst d) I.defers e->next (I.put R.dst d) e:=λd e B=>
  N d _ _ (p.put R.dst L d) (by rw[put_defers];exact B)
 have i:∀g:Sem Value,(∀b,(execOp (ev V O) R).run P b=(g.run P b).andThen λd e=>.ok (.value d) e)->
   aK P g b (λd e=>h9 (cm O R.dst d) I.defers e) (λC e=>c2 (.panic [{v:=C,recovered:=false}]) V O I.defers e)->R.wp P I b next d4:=by
  intro g m k;unfold Oper.wp;rw[p.eval,m];unfold aK at k
  cases l:g.run P b with
  |ok d e=>
   rw[l]at k;exact t _ _ k
  |halt j e=>
   rw[l]at k
   cases j with
   |panic d=>exact x _ _ k
   |_=>exact k.elim
 have u:∀g:Sem Unit,(∀b,(execOp (ev V O) R).run P b=(g.run P b).andThen λ_ e=>.ok .skip e)->
   lR P g b (λe=>h9 (cm O R.dst undef) I.defers e) (λC e=>c2 (.panic [{v:=C,recovered:=false}]) V O I.defers e)->R.wp P I b next d4:=by
  intro g m k;unfold Oper.wp;rw[p.eval,m];unfold lR at k
  cases l:g.run P b with
  |ok d e=>
   rw[l]at k;exact t _ _ k
  |halt j e=>
   rw[l]at k
   cases j with
   |panic d=>exact x _ _ k
   |_=>exact k.elim
 have h:∀(g:Sem Value),(∀b,(execOp (ev V O) R).run P b=(g.run P b).andThen λd e=>.ok (.value d) e)->
   (∃d,g.run P b= .ok d b/\h9 (cm O R.dst d) I.defers b)->R.wp P I b next d4:=by
  rintro g m ⟨d,r,B⟩;unfold Oper.wp;rw[p.eval,m,r];exact t _ _ B
 unfold Sw at n;split at n
 ·rename_i o j f
  obtain⟨q,n⟩:=n.out;obtain⟨d,r,n⟩:=jW.out (known.out q).1 n;exact h (Instr.loadAt o (ev V O j)) (λb=>by simp[execOp,f]) ⟨d,r b rfl,n⟩
 ·rename_i o j T f
  obtain⟨q,n⟩:=n.out;obtain⟨e,W,n⟩:=oJ.out (P:=P) (known.out q).2 n;exact u (Instr.storeAt o (ev V O j) (ev V O T)) (λb=>by simp[execOp,f]) (lR.mk W n)
 ·rename_i o j y f
  obtain⟨q,n⟩:=n.out;obtain⟨d,r,n⟩:=UF.out (iw.out q) n;exact h (Instr.indexAt o (ev V O j) (ev V O y)) (λb=>by simp[execOp,f]) ⟨d,r b,n⟩
 ·rename_i o j X Y Z f
  obtain⟨q,n⟩:=n.out;obtain⟨d,r,n⟩:=UG.out (λO E=>iw.out q O (.inl E)) n;exact h (Instr.sliceAt o (ev V O j) (X.map (ev V O)) (Y.map (ev V O)) (Z.map (ev V O))) (λb=>by simp[execOp,f]) ⟨d,r b,n⟩
 ·rename_i j f
  unfold Py at n;split at n
  ·rename_i a5 F
   obtain⟨a6,a0,rfl,n⟩:=n;unfold Oper.wp;rw[p.eval];simp only[execOp,f,F,Sem.run_pure,Oper.upon_value];exact t _ _ n
  ·rename_i w first s F
   unfold Oper.wp;rw[p.eval];simp only[execOp,f,F,Sem.run_pure,Oper.upon_value];exact t _ _ n
  ·exact n.elim
 ·rename_i o j y f
  split at n
  ·rename_i H
   obtain⟨d,r,n⟩:=Hh.out H n;exact h (Instr.index o (ev V O j) (ev V O y)) (λb=>by simp[execOp,f]) ⟨d,r b,n⟩
  ·exact i (Instr.index o (ev V O j) (ev V O y)) (λb=>by simp[execOp,f]) n
 ·rename_i w c v f
  split at n
  ·rename_i q
   have l:(execOp (ev V O) R).run P b= .ok (.enter w (c.map (ev V O))) b:=by
    simp[execOp,f,resolve,ev,Deferred.ofValue,invoke,ji q]
   unfold Oper.wp;rw[p.eval,l];exact uU n t x
  ·obtain⟨g,m,n⟩:=n
   refine i g (λb=>by simp[execOp,f,resolve,ev,Deferred.ofValue,invoke,m]) (aK.imp ?_ n);intro d e n;obtain⟨a1,rfl,n⟩:=uT.out n;exact n
 ·rename_i z c v a7 f
  obtain⟨w,first,s,J,q,n⟩:=n;have l:(execOp (ev V O) R).run P b= .ok (.enter w (first++c.map (ev V O)++s)) b:=by
   simp[execOp,f,resolve,J,Deferred.ofValue,invoke,ji q]
  unfold Oper.wp;rw[p.eval,l];exact uU n t x
 ·rename_i z S c v f
  obtain⟨w,as,hm,n⟩:=n;have l:(execOp (ev V O) R).run P b= .ok (.enter w as) b:=by
   have E:(c.map (ev V O)).extract 0 c.size=c.map (ev V O):=by
    have:c.size=(c.map (ev V O)).size:=by simp
    rw[this,Array.extract_size]
   have h0:(#[ev V O z]++c.map (ev V O))[0]? =some (ev V O z):=by rw[Array.getElem?_append_left (Nat.zero_lt_one)];rfl
   simp[execOp,f,resolve,invoke,E,hm,h0]
  unfold Oper.wp;rw[p.eval,l];exact uU n t x
 ·rename_i z c v f
  split at n
  ·rename_i fn first s J
   have l:(execOp (ev V O) R).run P b= .ok (.defer {target:=.fn fn s,args:=first++c.map (ev V O)}) b:=by
    simp[execOp,f,resolve,J,Deferred.ofValue]
   unfold Oper.wp;rw[p.eval,l,Oper.upon_defer];exact N undef _ _ ((p.defers _).put R.dst L undef) (by rw[put_defers];exact n)
  ·exact n.elim
 ·rename_i K g f
  refine i (Instr.next (ev V O K) g R.type) (λb=>by simp[execOp,f]) (aK.imp (λd e n=>?_) n);exact n.out
 ·rename_i K f
  refine i (Instr.entry (ev V O K)) (λb=>by simp[execOp,f]) (aK.imp (λd e n=>?_) n);exact n.out
 ·rename_i o a2 a3 f
  refine i (Instr.mapEntry o (ev V O a2) (ev V O a3)) (λb=>by simp[execOp,f]) (aK.imp (λd e n=>?_) n);exact n.out
 ·rename_i j xT a4 f
  refine i (Instr.typeAssert (ev V O j) xT a4 true) (λb=>by simp[execOp,f]) (aK.imp (λd e n=>?_) n);exact n.out
 ·split at n
  ·rename_i g m
   split at n
   ·refine i g (λb=>jS m P b) (aK.imp ?_ n)
    intro d e n;obtain⟨a1,rfl,n⟩:=uT.out n;exact n
   ·exact i g (λb=>jS m P b) n
  ·split at n
   ·rename_i g m
    exact u g (λb=>Px m P b) n
   ·exact n.elim
def jB(n:Array Oper)(P:Nat):Option Nat:=match n[P]? with
 |some a=>a.dst
 |none=>none
def Ci(b:Program)(a:ck)(n:Array Oper)(c:iP):List Oper->(cP->List Deferred->World->Prop)->cP->List Deferred->World->Prop
 |[],e,d,f,g=>e d f g
 |i::P,e,d,f,g=>match i.guard with
  |none=>Sw b n a i c (Ci b a n c P e) d f g
  |some (k,h)=>match jB n k with
   |none=>False
   |some j=>match get a d j with
    | .bool l=>al l
     (match h with
      |true=>Sw b n a i c (Ci b a n c P e) ((j,.bool true)::d) f g
      |false=>Ci b a n c P e (cm ((j,.bool true)::d) i.dst undef) f g)
     (match h with
      |true=>Ci b a n c P e (cm ((j,.bool false)::d) i.dst undef) f g
      |false=>Sw b n a i c (Ci b a n c P e) ((j,.bool false)::d) f g)
    | .tuple _=>Ci b a n c P e (cm d i.dst undef) f g
    |_=>False
def Rel.again(n:Rel a V O I)(P:get V O c=v):Rel a V ((c,v)::O) I:=
 ⟨n.size,λd=>by
  rw[ej,n.slot];split
  ·rename_i b;subst b;exact P
  ·rfl⟩
def sC(P:get V O a=v)(n:Nat):get V ((a,v)::O) n=get V O n:=by
 rw[ej];split
 ·rename_i b;subst b;exact P.symm
 ·rfl
def pB(P:Rel a V O I)(n:jB U c=some i)(g:i<a):
  yielded U I.tmps c=match get V O i with| .bool d=>some d|_=>none:=by
 have e:((U[c]?).bind (·.dst))=some i:=by
  unfold jB at n
  cases b:U[c]? with
  |none=>rw[b]at n;simp at n
  |some h=>rw[b]at n;simpa using n
 unfold yielded;rw[e];have j:=P.size;have f:I.tmps[i]? =some (get V O i):=by
  rw[<-P.slot];have:i<I.tmps.size:=by omega
  simp[Array.getD,this]
 simp only[Option.bind_some,f];split<;>simp_all
def dj(c:Nat)(d:ck)(e:cP)(f:List Nat)(g:iP):Exit->Act->World->Prop:=λh b i=>
 ∃n P,Rel c n P b/\(∀a,a∉f->get n P a=get d e a)/\g h n P b.defers i
def AE{s:Program}{k:Nat}{c q:ck}{r:cP}{j:List Nat}{b:Array Oper}{l:iP}(F:∀H P,jB b H=some P->P<k):
  ∀(I:List Oper) (n:cP) (h:Act) (g:World),(∀e∈I,∀f,e.dst=some f->f<k/\f∈j)->Rel k c n h->(∀P,P∉j->get c n P=get q r P)->
   Ci s c b l I (λn v g=>l .normal c n v g) n h.defers g->wpList s b (dj k q r j l) I h g
 |[],n,h,g,_,m,i,d=>⟨c,n,m,i,d⟩
 |e::a,n,h,g,J,m,i,d=>by
  have O:∀f,e.dst=some f->f<k:=λf K=>(J e (List.mem_cons_self ..) f K).1;have Q:∀(n:cP),(∀P,P∉j->get c n P=get q r P)->∀w P,P∉j->get c (cm n e.dst w) P=get q r P:=by
   intro n i w P L
   cases K:e.dst with
   |none=>exact i P L
   |some f=>
    have S:=(J e (List.mem_cons_self ..) f K).2;show get c ((f,w)::n) P=_;rw[ej,if_neg (by rintro rfl;exact L S)];exact i P L
  have x:∀e∈a,∀f,e.dst=some f->f<k/\f∈j:=λe T=>J e (List.mem_cons_of_mem _ T);have o:∀(n:cP),Rel k c n h->(∀P,P∉j->get c n P=get q r P)->Ci s c b l a (λn v g=>l .normal c n v g) (cm n e.dst undef) h.defers g->
    wpList s b (dj k q r j l) a (h.put e.dst undef) g:=λn m i d=>
   AE F a _ _ _ x (m.put _ O _) (Q n i _) (by rw[put_defers];exact d)
  have t:∀(n:cP),Rel k c n h->(∀P,P∉j->get c n P=get q r P)->Sw s b c e l (Ci s c b l a λn v g=>l .normal c n v g) n h.defers g->
    e.wp s h g (wpList s b (dj k q r j l) a) (dj k q r j l):=λn m i d=>
   Hl m O d (λw Y U M V=>AE F a _ _ _ x M (Q n i w) V) (λZ U W=>⟨c,n,m,i,W⟩)
  unfold wpList;unfold Ci at d;split at d
  ·rename_i A
   rw[if_pos (by simp[Region.wanted,A])];exact .inl (t n m i d)
  ·rename_i H p A
   split at d
   ·exact d.elim
   ·rename_i P R
    have u:=pB m R (F H P R);split at d
    ·rename_i B y
     rw[y]at u;simp only at u;have N:Region.wanted e (yielded b h.tmps)=(B==p):=by
      simp only[Region.wanted,A,u]
      cases B<;>cases p<;>rfl
     rw[N];have C:=m.again y;have E:∀z,z∉j->get c ((P,.bool B)::n) z=get q r z:=λz X=>by rw[sC y];exact i z X
     cases B<;>cases p<;>simp only[al]at d
     ·exact .inl (t _ C E d)
     ·exact o _ C E d
     ·exact o _ C E d
     ·exact .inl (t _ C E d)
    ·rename_i vs y
     rw[y]at u;simp only at u;have N:Region.wanted e (yielded b h.tmps)=false:=by
      simp[Region.wanted,A,u]
     rw[N];exact o _ m i d
    ·exact d.elim
def Cj{n:Type}(P:Program):Sem n->Option n
 | .pure a=>some a
 | .program b=>Cj P (b P)
 |_=>none
def xX{c:Type}{b:Program}:∀{s:Sem c} {a:c},Cj b s=some a->∀P,s.run b P= .ok a P
 | .pure e,a,n,P=>by simp only[Cj,Option.some.injEq]at n;subst n;rfl
 | .program d,a,n,P=>by simp only[Cj]at n;exact xX (s:=d b) n P
 | .load ..,_,n,_| .store ..,_,n,_| .new ..,_,n,_| .shape ..,_,n,_| .freeze ..,_,n,_| .frozen ..,_,n,_| .getObj ..,_,n,_| .setObj ..,_,n,_
 | .choose ..,_,n,_| .sys ..,_,n,_| .mark ..,_,n,_| .halt ..,_,n,_=>by simp[Cj]at n
def XT(n:Program)(c:Sem Value)(d:TypeId)(P:World)(e:Value->Prop):Prop:=uT n d λa=>(∀b,c.run n (P.drewN b)= .ok a (P.drewN b))/\e a
def Wv(P:Program)(c:FuncId)(n:Array Value)(d:TypeId)(a:World)(e:Value->Prop):Prop:=
 uT P d λb=>(∀f,Calls P c n (a.drewN f) λg h=>g= .returned b/\∃i,h=a.drewN i)/\e b
def Sx(b:Program)(c:ck)(a:Oper)(e:cP->Prop)(n:cP)(h:World):Prop:=
 match a.op with
 | .load d k=>eO (known b d) (jW b d (ev c n k) h λP=>e (cm n a.dst P))
 | .indexAddr d f i=>eO (iw b d) (UF b d (ev c n f) (ev c n i) λP=>e (cm n a.dst P))
 | .slice d f l m o=>eO (iw b d) (UG b d (ev c n f) (l.map (ev c n)) (m.map (ev c n)) (o.map (ev c n)) λP=>e (cm n a.dst P))
 | .nilCheck f=>Py (ev c n f) λP=>e (cm n a.dst P)
 | .index d f i=>match b.underlying d with
  |some .string=>Hh (ev c n f) (ev c n i) λP=>e (cm n a.dst P)
  |_=>False
 | .call {callee:=.value (.func g),args,..}=>eO (enters b g) (Wv b g (args.map (ev c n)) a.type h λP=>e (cm n a.dst P))
 |_=>match Pw (ev c n) a with
  |some j=>match Hi b a with
   |true=>XT b j a.type h λP=>e (cm n a.dst P)
   |false=>match Cj b j with
    |some P=>e (cm n a.dst P)
    |none=>False
  |none=>False
def tF(c:Program)(b:ck)(P:Array Oper):List Oper->(cP->Prop)->cP->World->Prop
 |[],e,a,_=>e a
 |g::n,e,a,d=>match g.guard with
  |none=>Sx c b g (λa=>tF c b P n e a d) a d
  |some (i,f)=>match jB P i with
   |none=>False
   |some h=>match get b a h with
    | .bool j=>al j
     (match f with
      |true=>Sx c b g (λa=>tF c b P n e a d) ((h,.bool true)::a) d
      |false=>tF c b P n e (cm ((h,.bool true)::a) g.dst undef) d)
     (match f with
      |true=>tF c b P n e (cm ((h,.bool false)::a) g.dst undef) d
      |false=>Sx c b g (λa=>tF c b P n e a d) ((h,.bool false)::a) d)
    | .tuple _=>tF c b P n e (cm a g.dst undef) d
    |_=>False
def cf(n:World):World->Prop:=λP=>∃a,P=n.drewN a
def uV{next:Act->Prop}(u:Rel a V O I)(n:Sx h V R f1 O b)(v:∀P,f1 (cm O R.dst P)->next (I.put R.dst P)):R.quiet h I (cf b) next:=by
 have c:∀k:Sem Value,(∀b,(execOp (ev V O) R).run h b=(k.run h b).andThen λP w=>.ok (.value P) w)->
   (∃P,(∀e,k.run h (b.drewN e)= .ok P (b.drewN e))/\f1 (cm O R.dst P))->R.quiet h I (cf b) next:=by
  rintro k m ⟨P,d,x⟩;refine⟨P,?_,v P x⟩;rintro _ ⟨e,rfl⟩;unfold Oper.quietAt;rw[u.eval,m,d];exact⟨rfl,rfl⟩
 unfold Sx at n;split at n
 ·rename_i i g f
  obtain⟨j,n⟩:=n.out;obtain⟨P,d,n⟩:=jW.out (known.out j).1 n;exact c (Instr.loadAt i (ev V O g)) (λb=>by simp[execOp,f]) ⟨P,λe=>d _ rfl,n⟩
 ·rename_i i g o f
  obtain⟨j,n⟩:=n.out;obtain⟨P,d,n⟩:=UF.out (iw.out j) n;exact c (Instr.indexAt i (ev V O g) (ev V O o)) (λb=>by simp[execOp,f]) ⟨P,λe=>d _,n⟩
 ·rename_i i g y z A f
  obtain⟨j,n⟩:=n.out;obtain⟨P,d,n⟩:=UG.out (λO B=>iw.out j O (.inl B)) n;exact c (Instr.sliceAt i (ev V O g) (y.map (ev V O)) (z.map (ev V O)) (A.map (ev V O))) (λb=>by simp[execOp,f]) ⟨P,λe=>d _,n⟩
 ·rename_i g f
  unfold Py at n;split at n
  ·rename_i H p
   obtain⟨C,q,rfl,n⟩:=n;exact c (.pure (.pointer (some ⟨C,q,none⟩))) (λb=>by simp[execOp,f,p]) ⟨_,λe=>rfl,n⟩
  ·rename_i r first s p
   exact c (.pure (.func (.func r) first s)) (λb=>by simp[execOp,f,p]) ⟨_,λe=>rfl,n⟩
  ·exact n.elim
 ·rename_i i g o f
  split at n
  ·rename_i t
   obtain⟨P,d,n⟩:=Hh.out t n;exact c (Instr.index i (ev V O g) (ev V O o)) (λb=>by simp[execOp,f]) ⟨P,λe=>d _,n⟩
  ·exact n.elim
 ·rename_i r l E f
  obtain⟨j,n⟩:=n.out;obtain⟨P,d,n⟩:=uT.out n;refine⟨P,?_,v P n⟩;rintro _ ⟨e,rfl⟩;have F:(execOp (ev V O) R).run h (b.drewN e)= .ok (.enter r (l.map (ev V O))) (b.drewN e):=by
   simp[execOp,f,resolve,ev,Deferred.ofValue,invoke,ji j]
  unfold Oper.quietAt;rw[u.eval,F];exact⟨rfl,d e⟩
 ·split at n
  ·rename_i k m
   split at n
   ·obtain⟨P,d,n⟩:=uT.out n
    exact c k (λb=>jS m h b) ⟨P,d,n⟩
   ·split at n
    ·rename_i P d
     exact c k (λb=>jS m h b) ⟨P,λe=>xX d _,n⟩
    ·exact n.elim
  ·exact n.elim
def rN{v:Program}{l:Nat}{f B0:ck}{e0:cP}{W:List Nat}{c:Array Oper}{w:World}{x:cP->Prop}(K:∀B n,jB c B=some n->n<l):
  ∀(C:List Oper) (P:cP) (h:Act),(∀a∈C,∀d,a.dst=some d->d<l/\d∈W)->Rel l f P h->(∀n,n∉W->get f P n=get B0 e0 n)->
   tF v f c C x P w->wpQuiet v c (cf w) (λr=>∃m,Rel l f m r/\r.defers=h.defers/\(∀n,n∉W->get f m n=get B0 e0 n)/\x m) C h
 |[],P,h,_,k,j,b=>⟨P,k,rfl,j,b⟩
 |a::g,P,h,E,k,j,b=>by
  have M:∀d,a.dst=some d->d<l:=λd F=>(E a (List.mem_cons_self ..) d F).1;have N:∀(P:cP),(∀n,n∉W->get f P n=get B0 e0 n)->∀e n,n∉W->get f (cm P a.dst e) n=get B0 e0 n:=by
   intro P j e n H
   cases F:a.dst with
   |none=>exact j n H
   |some d=>
    have O:=(E a (List.mem_cons_self ..) d F).2;show get f ((d,e)::P) n=_;rw[ej,if_neg (by rintro rfl;exact H O)];exact j n H
  have I:∀a∈g,∀d,a.dst=some d->d<l/\d∈W:=λa Q=>E a (List.mem_cons_of_mem _ Q);have o:∀(P:cP) (e:Value),Rel l f P h->(∀n,n∉W->get f P n=get B0 e0 n)->tF v f c g x (cm P a.dst e) w->
    wpQuiet v c (cf w) (λr=>∃m,Rel l f m r/\r.defers=h.defers/\(∀n,n∉W->get f m n=get B0 e0 n)/\x m) g (h.put a.dst e):=λP e k j b=>by
   have:=rN K g (cm P a.dst e) (h.put a.dst e) I (k.put _ M _) (N P j _) b;rw[put_defers]at this;exact this
  unfold wpQuiet;unfold tF at b;split at b
  ·rename_i y
   rw[if_pos (by simp[Region.wanted,y])];exact uV k b λe s=>o P e k j s
  ·rename_i B i y
   split at b
   ·exact b.elim
   ·rename_i n L
    have p:=pB k L (K B n L);split at b
    ·rename_i z t
     rw[t]at p;simp only at p;have J:Region.wanted a (yielded c h.tmps)=(z==i):=by
      simp only[Region.wanted,y,p]
      cases z<;>cases i<;>rfl
     rw[J];have q:=k.again t;have A:∀u,u∉W->get f ((n,.bool z)::P) u=get B0 e0 u:=λu R=>by rw[sC t];exact j u R
     cases z<;>cases i<;>simp only[al]at b
     ·exact uV q b λe s=>o _ e q A s
     ·exact o _ _ q A b
     ·exact o _ _ q A b
     ·exact uV q b λe s=>o _ e q A s
    ·rename_i S t
     rw[t]at p;simp only at p;have J:Region.wanted a (yielded c h.tmps)=false:=by
      simp[Region.wanted,y,p]
     rw[J];exact o _ _ k j b
    ·exact b.elim
def kindOf(n:Program)(c:Oper):Nat:=match c.op with
 | .move _| .assign _| .pick .. | .build .. | .binOp .. | .unOp .. | .indexAddr .. | .slice .. | .nilCheck _| .fieldAddr .. | .field .. | .index .. | .extract .. | .typeAssert .. =>0
 | .convert P a _=>match isInt n P with
  |true=>match isInt n a with
   |true=>0
   |false=>2
  |false=>2
 | .load .. | .lookup .. =>1
 | .call {callee:=.builtin b,argTypes,..}=>match b with
  | .len=>match isMap n (argTypes.getD 0 0)with
   |true=>1
   |false=>0
  | .cap| .max| .min=>0
  |_=>2
 |_=>2
def jT(P:Program)(n:Array Oper)(a:Nat):Nat:=match n[a]? with
 |some b=>kindOf P b
 |none=>2
def gA(P:Program)(n:Array Oper)(a:Nat):Bool:=match jT P n a with
 |2=>false
 |_=>true
def NM(n:Program):List Oper->Bool
 |[]=>false
 |P::a=>match kindOf n P with
  |2=>true
  |_=>NM n a
def oA(P:Program)(n:Array Oper):List Nat->Option Nat
 |[]=>none
 |a::b=>match gA P n a with
  |true=>some a
  |false=>oA P n b
def lT{b:Program}{P:Array Oper}{a:Nat}:∀{c:List Nat},oA b P c=some a->a∈c/\gA b P a=true
 |[],n=>by cases n
 |g::h,n=>by
  unfold oA at n;split at n
  ·rename_i d;cases n;exact⟨List.mem_cons_self ..,d⟩
  ·obtain⟨e,f⟩:=lT n;exact⟨List.mem_cons_of_mem _ e,f⟩
def uW{c:Program}{n:Array Oper}:∀{d:List Nat},oA c n d=none->∀a∈d,gA c n a=false
 |[],_,a,P=>by cases P
 |f::g,b,a,P=>by
  unfold oA at b;split at b
  ·cases b
  ·rename_i e
   rcases List.mem_cons.1 P with rfl|P
   ·exact e
   ·exact uW b a P
def Ju(n:a0.getD a true=false):a0.getD a false=false:=by
 rcases Nat.lt_or_ge a a0.size with P|P
 ·simp[P]at n⊢;exact n
 ·simp[Array.getElem?_eq_none P]at n
def nx(P:Array Oper)(b:Nat):Nat->Array Bool->Array Bool
 |0,n=>n
 |f+1,n=>match(Region.ready .any P n).find? (λa=>!Nat.beq a b)with
  |some a=>nx P b f (n.setIfInBounds a true)
  |none=>n
def fG(c:Program)(n:Array Oper)(listed:Array Bool)(a:Nat):Bool:=
 (λb:Array Bool=>!b.getD a true&&(Region.ready .any n b).all (λP=>Nat.beq P a)&&
  (List.range n.size).all λP=>!b.getD P false||gA c n P||listed.getD P false) (nx n a n.size listed)
structure wF (P:Program) (ops:Array Oper) (i:Nat) (listed M:Array Bool):Prop where
 sub:∀k,listed.getD k false=true->M.getD k false=true
 only:∀j∈Region.ready .any ops M,j=i
 still:∀j,j<ops.size->M.getD j false=true->listed.getD j false=false->gA P ops j=true
 size:M.size=listed.size
def rO{ops:Array Oper}{i:Nat}:∀(f:Nat) (n:Array Bool),(nx ops i f n).size=n.size/\∀P,n.getD P false=true->(nx ops i f n).getD P false=true
 |0,n=>⟨rfl,λ_ a=>a⟩
 |f+1,n=>by
  unfold nx;split
  ·rename_i b _
   obtain⟨c,d⟩:=rO (ops:=ops) (i:=i) f (n.setIfInBounds b true);exact⟨by rw[c];simp,λP e=>d P (getD_set_true e)⟩
  ·exact⟨rfl,λ_ a=>a⟩
def tG{ops:Array Oper}{i:Nat}(n:fG h ops a0 i=true):∃b,wF h ops i a0 b:=by
 unfold fG at n;simp only[Bool.and_eq_true,List.all_eq_true]at n;obtain⟨⟨_,c⟩,d⟩:=n;obtain⟨e,f⟩:=rO (ops:=ops) (i:=i) ops.size a0;refine⟨_,f,λP a=>Nat.eq_of_beq_eq_true (c P a),λP a g j=>?_,e⟩;have:=d P (List.mem_range.2 a);rw[g,j]at this;simpa using this
def wF.ready{i:Program}{a:Array Oper}{j:Nat}{n c:Array Bool}(b:wF i a j n c){P:Nat}(p:P∈Region.ready .any a n)(q:P≠j):
  gA i a P=true/\wF i a j (n.setIfInBounds P true) c:=by
 obtain⟨k,r,l,s⟩:=mem_ready.1 p;have t:P<a.size:=(Array.getElem?_eq_some_iff.1 l).1;have m:c.getD P false=true:=by
  by_cases d:c.getD P true=false
  ·exact absurd (b.only P (mem_ready.2 ⟨d,r,l,λu v w=>b.sub _ (s u v w)⟩)) q
  ·have x:P<n.size:=by
    rcases Nat.lt_or_ge P n.size with K|K
    ·exact K
    ·simp[Array.getElem?_eq_none K]at k
   have y:P<c.size:=by rw[b.size];exact x
   simp[y]at d⊢;exact d
 have o:n.getD P false=false:=Ju k;refine⟨b.still P t m o,λe h=>?_,b.only,λe h d f=>?_,by simp[b.size]⟩
 ·by_cases g:P=e
  ·subst g;exact m
  ·rw[getD_set_ne false g]at h;exact b.sub e h
 ·refine b.still e h d ?_
  by_cases g:P=e
  ·subst g;exact o
  ·rw[getD_set_ne false g]at f;exact f
structure yL (ops:Array Oper) (i:Nat) (listed M:Array Bool):Prop where
 sub:∀k,listed.getD k false=true->M.getD k false=true
 only:∀j∈Region.ready .any ops M,j=i
 size:M.size=listed.size
def rQ(P:Array Oper)(n:Array Bool)(a:Nat):Bool:=
 (λb:Array Bool=>(Region.ready .any P b).all (λc=>Nat.beq c a)) (nx P a P.size n)
def Jv{ops:Array Oper}{i:Nat}(n:rQ ops a0 i=true):yL ops i a0 (nx ops i ops.size a0):=by
 unfold rQ at n;simp only[List.all_eq_true]at n;obtain⟨P,a⟩:=rO (ops:=ops) (i:=i) ops.size a0;exact⟨a,λb c=>Nat.eq_of_beq_eq_true (n b c),P⟩
def yL.ready{a:Array Oper}{d:Nat}{n b:Array Bool}(c:yL a d n b){P:Nat}(k:P∈Region.ready .any a n)(l:P≠d):
  b.getD P false=true/\yL a d (n.setIfInBounds P true) b:=by
 obtain⟨m,o,p,q⟩:=mem_ready.1 k;have g:b.getD P false=true:=by
  by_cases e:b.getD P true=false
  ·exact absurd (c.only P (mem_ready.2 ⟨e,o,p,λr s t=>c.sub _ (q r s t)⟩)) l
  ·have u:P<n.size:=by
    rcases Nat.lt_or_ge P n.size with f|f
    ·exact f
    ·simp[Array.getElem?_eq_none f]at m
   have v:P<b.size:=by rw[c.size];exact u
   simp[v]at e⊢;exact e
 refine⟨g,λh i=>?_,c.only,by simp[c.size]⟩
 by_cases j:P=h
 ·subst j;exact g
 ·rw[getD_set_ne false j]at i;exact c.sub h i
def UI(n:List PanicEntry->Act->World->Prop):Exit->Act->World->Prop:=λP a b=>match P with
 | .panic c=>n c a b
 |_=>False
def UJ(c:Program)(P:Array Oper)(a:Bool)(h:List PanicEntry->Act->World->Prop)(i:Nat->Prop)(g:Act->World->Prop):Nat->(World->Prop)->Array Bool->Act->World->Prop
 |0,_,n,e,d=>Region.ready .any P n=[]/\g e d
 |f+1,l,n,e,d=>(Region.ready .any P n=[]->g e d)/\∀b∈Region.ready .any P n,
  (gA c P b=true->stOp c P d b (λj=>UJ c P a h i g f l (n.setIfInBounds b true) j d) e)/\
  (gA c P b=false->wpOp c P (UI h) b (λj m=>∃k:World->Prop,(a=true->i b->∀o,k o->l o)/\k m/\UJ c P a h i g f k (n.setIfInBounds b true) j m) e d)
def Sy(e:∀f I b,f2 f I b->d4 (.panic f) I b)(n:wpOp h U (UI f2) a f3 I b):wpOp h U d4 a f3 I b:=by
 unfold wpOp at*;split
 ·rename_i c;simpa only[c]using n
 ·rename_i g c
  simp only[c]at n;split
  ·rename_i d
   simp only[d,if_true]at n;rcases n with n|⟨_,_,_,n⟩
   ·left
    unfold Oper.wp at*;generalize(execOp I.eval g).run h b=i at*
    cases i with
    |ok j k=>
     cases j<;>simp only[Oper.upon]at n⊢<;>
      first
       |exact n
       |exact Calls.mono n (λl o P=>by cases l<;>first|exact P|exact e _ _ _ P|exact P.elim|(obtain⟨_,_,n⟩:=P;exact n.elim))
    |halt m k=>cases m<;>first|exact e _ _ _ n|exact(show False from n).elim
   ·exact n.elim
  ·rename_i d;simp only[d]at n;exact n
def jU{g:Program}{c:Array Oper}{d:Bool}{l:List PanicEntry->Act->World->Prop}{r:Nat->Prop}{m:Act->World->Prop}{h:Exit->Act->World->Prop}(i:∀o a P,l o a P->h (.panic o) a P)(e:∀a P,m a P->h .normal a P):∀(f:Nat) (j:World->Prop) (n:Array Bool) (a:Act) (P:World),
  UJ g c d l r m f j n a P->wpAny g .any c h f n a P
 |0,_,_,_,_,b=>⟨b.1,e _ _ b.2⟩
 |f+1,j,n,a,P,b=>⟨λs=>e _ _ (b.1 s),λp t=>by
   obtain⟨u,v⟩:=b.2 p t
   cases q:gA g c p with
   |true=>exact wpOp_of_stOp (λk b=>jU i e f j _ k P b) (u q)
   |false=>exact Sy i (wpOp_mono (λk w ⟨x,_,_,b⟩=>jU i e f x _ k w b) (v q))⟩
section
variable {P:Program} {ops:Array Oper}
def Pz{d h:Oper}(r:ops[a]? =some h)(s:d.apart ops h=true)(t:∀cs j,d.op≠.select cs j)(u:∀cs j,h.op≠.select cs j){m:Act->Prop}(w:∀e,y e->YieldsAt P ops e d v I)(c:stOp P ops b a m (I.put d.dst v)):
  stOp P ops b a (λo=>(∀e,y e->YieldsAt P ops e d v o)/\m (o.put d.dst v)) I:=by
 obtain⟨p,i,q⟩:=Oper.apart_spec s;have n:∀g,∀e,y e->YieldsAt P ops e d v (I.put h.dst g):=λg e x=>
  (w e x).of_same (execOp_put d t I h.dst g q) (wanted_put d I h.dst g q)
 unfold stOp at*;simp only[r]at*;rw[wanted_put h I d.dst v p]at c;split
 ·rename_i k
  simp only[k,if_true]at c;unfold Oper.still at*;rw[execOp_put h u I d.dst v p]at c;generalize(execOp I.eval h).run P b=z at*
  cases z with
  |ok A B=>
   cases A<;>simp only[Oper.stillUpon]at c⊢
   case value g=>exact⟨c.1,n g,by rw[<-Act.put_comm I v g i];exact c.2⟩
   case skip=>exact⟨c.1,n _,by rw[<-Act.put_comm I v undef i];exact c.2⟩
   case enter f args=>obtain⟨l,g,C,E⟩:=c;exact⟨l,g,C,n g,by rw[<-Act.put_comm I v g i];exact E⟩
  |halt e B=>simp only[Oper.stillUpon]at c
 ·rename_i k
  simp only[k]at c;exact⟨n _,by rw[<-Act.put_comm I v undef i];exact c⟩
def PB{g h:Oper}(t:∀o I b,f2 o (I.put g.dst v) b->f2 o I b)(B:ops[a]? =some h)(C:g.apart ops h=true)(u:∀cs p,g.op≠.select cs p)(E:∀cs p,h.op≠.select cs p)(w:∀n,y n->YieldsAt P ops n g v I)(d:wpOp P ops (UI f2) a f3 (I.put g.dst v) b):
  wpOp P ops (UI f2) a (λx q=>(∀n,y n->YieldsAt P ops n g v x)/\f3 (x.put g.dst v) q) I b:=by
 obtain⟨z,k,m⟩:=Oper.apart_spec C;have e:∀c,∀n,y n->YieldsAt P ops n g v (I.put h.dst c):=λc n r=>
  (w n r).of_same (execOp_put g u I h.dst c m) (wanted_put g I h.dst c m)
 have i:∀l c,∀n,y n->YieldsAt P ops n g v (({I with defers:=l::I.defers}:Act).put h.dst c):=λl c n r=>
  (show YieldsAt P ops n g v {I with defers:=l::I.defers}from w n r).of_same (execOp_put g u _ h.dst c m) (wanted_put g _ h.dst c m)
 unfold wpOp at*;simp only[B]at*;rw[wanted_put h I g.dst v z]at d;split
 ·rename_i s
  simp only[s,if_true]at d;rcases d with d|⟨_,_,_,d⟩
  ·left
   unfold Oper.wp at*;rw[execOp_put h E I g.dst v z]at d;generalize(execOp I.eval h).run P b=A at*
   cases A with
   |ok F q=>
    cases F<;>simp only[Oper.upon]at d⊢
    case value c=>exact⟨e c,by rw[<-Act.put_comm I v c k];exact d⟩
    case skip=>exact⟨e _,by rw[<-Act.put_comm I v undef k];exact d⟩
    case defer l=>exact⟨i l _,by rw[<-Act.put_comm _ v undef k,<-Act.put_defers];exact d⟩
    case enter f args=>
     refine Calls.mono d λH J j=>?_
     cases H with
     |returned c=>exact⟨e c,by rw[<-Act.put_comm I v c k];exact j⟩
     |panicked o=>exact t _ _ _ j
     |outgrown=>obtain⟨_,_,j⟩:=j;exact j.elim
    case row A args=>exact Rows.mono d λc J j=>⟨e c,by rw[<-Act.put_comm I v c k];exact j⟩
   |halt n q=>cases n<;>first|exact t _ _ _ d|exact(show False from d).elim
  ·exact d.elim
 ·rename_i s
  simp only[s]at d;exact⟨e _,by rw[<-Act.put_comm I v undef k];exact d⟩
def wG{a:Bool}{j:List PanicEntry->Act->World->Prop}{k l:Nat->Prop}(e:∀m,k m->l m){o:Act->World->Prop}:∀(f:Nat) (c:World->Prop) (n:Array Bool) (g:Act) (d:World),
  UJ P ops a j l o f c n g d->UJ P ops a j k o f c n g d
 |0,_,_,_,_,b=>b
 |f+1,c,n,g,d,b=>⟨b.1,λq r=>by
   obtain⟨s,t⟩:=b.2 q r;refine⟨λh=>stOp_mono (λi b=>wG e f c _ i d b) (s h),λh=>wpOp_mono (λi u ⟨p,v,w,x⟩=>⟨p,λy z=>v y (e _ z),w,wG e f p _ i u x⟩) (t h)⟩⟩
def iF(N:∀b,f b->Z b)(hE:∀T o g,f2 T (o.put R.dst v) g->f2 T o g)(I:ops[a]? =some R)(U:gA P ops a=true)(J:∀(b:Nat) (V:Oper) cs k,ops[b]? =some V->V.op≠.select cs k)(L:World->Prop):
  ∀(w:Nat) (p:World->Prop) (n:Array Bool) (o:Act) (g:World),
   (∀b q,ops[b]? =some q->b≠a->n.getD b true=false->(∀i∈q.after,Region.binds .any i=true->i.on≠a)->R.apart ops q=true)->
   a∈Region.ready .any ops n->(∀e,L e->YieldsAt P ops e R v o)->L g->p g->
   ((∀e,L e)\/(K=true/\(∀e,p e->L e)/\((∀b,Z b)\/∃h,yL ops a n h/\∀b,h.getD b false=true->Z b))\/∃h,wF P ops a n h)->
   UJ P ops K f2 Z f3 w p (n.setIfInBounds a true) (o.put R.dst v) g->UJ P ops K f2 f f3 (w+1) p n o g:=by
 intro w
 induction w with
 |zero=>
  intro p n o g _ l x t W _ y;refine⟨λc=>(by rw[c]at l;cases l),λb m=>?_⟩
  by_cases d:b=a
  ·subst d;exact⟨λ_=>(x g t).stOp I (wG N _ _ _ _ _ y),λc=>(by rw[U]at c;cases c)⟩
  ·have:=ready_mono m d
   rw[y.1]at this
   cases this
 |succ w O=>
  intro p n o g X l x t W Y y;refine⟨λc=>(by rw[c]at l;cases l),λb m=>?_⟩
  by_cases d:b=a
  ·subst d;exact⟨λ_=>(x g t).stOp I (wG N _ _ _ _ _ y),λc=>(by rw[U]at c;cases c)⟩
  ·obtain⟨hS,hT⟩:=y.2 b (ready_mono m d)
   obtain⟨a0,q,z,a4⟩:=mem_ready.1 m;have a5:∀i∈q.after,Region.binds .any i=true->i.on≠a:=λi he hb b0=>by
    have h1:=a4 i he hb;rw[b0,Ju (mem_ready.1 l).1]at h1
    cases h1
   have a6:=X b q z d a0 a5;have Q:∀u A,ops[u]? =some A->u≠a->(n.setIfInBounds b true).getD u true=false->
     (∀i∈A.after,Region.binds .any i=true->i.on≠a)->R.apart ops A=true:=λu A hk b1 a7 b2=>by
    refine X u A hk b1 ?_ b2
    by_cases a8:b=u
    ·subst a8;exact a0
    ·rw[getD_set_ne true a8]at a7;exact a7
   refine⟨λB=>?_,λB=>?_⟩
   ·have j:=Pz z a6 (λcs k=>J a R cs k I) (λcs k=>J b q cs k z) x (hS B)
    refine stOp_mono (λM r=>O p (n.setIfInBounds b true) M g Q (ready_mono l (Ne.symm d)) r.1 t W ?_ ?_) j
    ·rcases Y with c|⟨s,c,j⟩|⟨h,c⟩
     ·exact .inl c
     ·exact .inr (.inl ⟨s,c,j.imp id λ⟨h,C,E⟩=>⟨h,(C.ready m d).2,E⟩⟩)
     ·exact .inr (.inr ⟨h,(c.ready m d).2⟩)
    ·rw[Array.setIfInBounds_comm _ _ d]
     exact r.2
   ·have j:=PB hE z a6 (λcs k=>J a R cs k I) (λcs k=>J b q cs k z) x (hT B)
    refine wpOp_mono (λM w' r=>?_) j;obtain⟨r,F,S,H,hM⟩:=r;have a1:K=true->f b->∀e,F e->p e:=λs t=>S s (N _ t);rcases Y with c|⟨s,c,j⟩|⟨h,c⟩
    ·exact⟨F,a1,H,O F (n.setIfInBounds b true) M w' Q (ready_mono l (Ne.symm d)) r (c _) H (.inl c) (by rw[Array.setIfInBounds_comm _ _ d];exact hM)⟩
    ·have a9:Z b:=by
      rcases j with j|⟨h,C,E⟩
      ·exact j b
      ·exact E b (C.ready m d).1
     exact⟨F,a1,H,O F (n.setIfInBounds b true) M w' Q (ready_mono l (Ne.symm d)) r (c _ (S s a9 _ H)) H (.inr (.inl ⟨s,λe hx=>c e (S s a9 e hx),j.imp id λ⟨h,C,E⟩=>⟨h,(C.ready m d).2,E⟩⟩)) (by rw[Array.setIfInBounds_comm _ _ d];exact hM)⟩
    ·rw[(c.ready m d).1]at B;cases B
end
def XU(n:Bool)(a:Nat->Prop)(b:Value)(P:Prop):Prop:=match n with
 |false=>P
 |true=>match b with
  | .pointer (some c)=>¬a c.block/\P
  |_=>False
def fm(n:Bool)(b:Nat->Prop)(a:World):World->Prop:=match n with
 |true=>λP=>aj b a P
 |false=>λP=>P=a
def Ww(n:Bool)(e:Nat->Prop)(b:Program)(c:Sem Value)(P:World)(d:Value):Prop:=match n with
 |true=>∀a,aj e P a->c.run b a= .ok d a
 |false=>c.run b P= .ok d P
def VD(n:Bool)(a:Nat->Prop)(b c:World)(P:Prop):Prop:=match n with
 |true=>aj a b c/\P
 |false=>P
def PD(a:Program)(b:ck)(c:Oper)(e:Bool)(j:Nat->Prop)(f:cP->Prop)(n:cP)(k:World):Prop:=
 match c.op with
 | .load d l=>eO (known a d) (XU e j (ev b n l) (jW a d (ev b n l) k λP=>f (cm n c.dst P)))
 | .indexAddr d g h=>eO (iw a d) (UF a d (ev b n g) (ev b n h) λP=>f (cm n c.dst P))
 | .slice d g o p q=>eO (iw a d) (UG a d (ev b n g) (o.map (ev b n)) (p.map (ev b n)) (q.map (ev b n)) λP=>f (cm n c.dst P))
 | .nilCheck g=>Py (ev b n g) λP=>f (cm n c.dst P)
 | .index d g h=>match a.underlying d with
  |some .string=>Hh (ev b n g) (ev b n h) λP=>f (cm n c.dst P)
  |_=>False
 |_=>match Pw (ev b n) c with
  |some i=>match Hi a c with
   |true=>uT a c.type λP=>(match kindOf a c with
    |0=>∀m,i.run a m= .ok P m
    |_=>Ww e j a i k P)/\f (cm n c.dst P)
   |false=>match Cj a i with
    |some P=>f (cm n c.dst P)
    |none=>False
  |none=>False
def jW.ZH(k:∃o,h.underlying g=some o)(n:jW h g (.pointer (some d0)) b Q):
  ∃P,(∀a,(∀e l,e.block=d0.block->b.cell? e=some l->a.cell? e=some l)->(Instr.loadAt g (.pointer (some d0))).run h a= .ok P a)/\Q P:=by
 unfold jW at n;simp only at n;split at n
 ·rename_i f
  split at n
  ·rename_i y p
   split at n
   ·rename_i q
    obtain⟨i,r,n⟩:=Su.out n;obtain⟨j,n⟩:=jg.out n;obtain⟨s,m,_⟩:=EY p (by simp[undef]);have t:s.size=i.length:=by
     have:=Nat.eq_of_beq_eq_true q;rw[jh m]at this;simp[this,r]
    refine⟨_,λa c=>?_,n⟩;have u:∀d P,i[d]? =some P->a.cell? (d0.add d)=some P:=λd P v=>
     c _ _ (by unfold Addr.add;split<;>rfl) (by have:=j d P v;simpa using this)
    have w:=run_loadCells_list (P:=h) (w:=a) d0 i u;simp only[Instr.loadAt,Instr.sureAddr,loadVar,Sem.run_bind,Sem.run_pure,Result.andThen_ok,dI h g _ f k,if_true,dJ m,t,w]
   ·exact n.elim
  ·exact n.elim
 ·rename_i f
  obtain⟨P,x,n⟩:=QD.out n;refine⟨P,λa c=>?_,n⟩;have j:a.cell? d0=some P:=c _ _ rfl x;simp[Instr.loadAt,Instr.sureAddr,loadVar,dI h g _ f k,load,Sem.run,j]
def aj.X_(a:aj f b k)(c:¬f d0.block)(n:b.cell? d0=some v):k.cell? d0=some v:=by
 have P:d0.block<b.heap.size:=by
  by_cases P:d0.block<b.heap.size
  ·exact P
  ·unfold World.cell? at n
   rw[show b.heap[d0.block]? =none by simp;omega]at n
   cases n
 unfold World.cell? at n⊢;rw[a.block _ P c];exact n
def Jw(A:Rel a V O I)(B:Region.wanted R (yielded U I.tmps)=true)(n:PD h V R K f f1 O b):
  ∃P,f1 (cm O R.dst P)/\((∀d,YieldsAt h U d R P I)\/(kindOf h R≠0/\∀d,fm K f b d->YieldsAt h U d R P I)):=by
 have e:∀(o:Sem Value) P d,(∀b,(execOp (ev V O) R).run h b=(o.run h b).andThen λP C=>.ok (.value P) C)->o.run h d= .ok P d->YieldsAt h U d R P I:=by
  intro o P d r g;refine .inl ⟨B,.inl ?_⟩;rw[A.eval,r,g]
  rfl
 unfold PD at n;split at n
 ·rename_i m d i
  obtain⟨p,n⟩:=eO.out n;have E:kindOf h R≠0:=by simp[kindOf,i]
  have s:∀(j:Addr),ev V O d= .pointer (some j)->(∀c,fm K f b c->∀q t,q.block=j.block->b.cell? q=some t->c.cell? q=some t)->(jW h m (.pointer (some j)) b λP=>f1 (cm O R.dst P))->
    ∃P,f1 (cm O R.dst P)/\((∀d,YieldsAt h U d R P I)\/(kindOf h R≠0/\∀d,fm K f b d->YieldsAt h U d R P I)):=by
   intro j l F n;obtain⟨P,g,n⟩:=jW.ZH (known.out p).1 n;exact⟨P,n,.inr ⟨E,λc k=>e (Instr.loadAt m (ev V O d)) P c (λb=>by simp[execOp,i]) (by rw[l];exact g c (F c k))⟩⟩
  unfold XU at n;split at n
  ·have l:∃j,ev V O d= .pointer (some j):=by
    unfold jW at n;split at n
    ·exact⟨_,by assumption⟩
    ·exact n.elim
   obtain⟨j,l⟩:=l;rw[l]at n;exact s j l (λc k q t _ u=>by simp only[fm]at k;rw[k];exact u) n
  ·split at n
   ·rename_i j l
    obtain⟨H,n⟩:=n;exact s j l (λc k q t p u=>by simp only[fm]at k;exact k.X_ (by rw[p];exact H) u) (by rw[<-l];exact n)
   ·exact n.elim
 ·rename_i m d v i
  obtain⟨p,n⟩:=eO.out n;obtain⟨P,g,n⟩:=UF.out (iw.out p) n;exact⟨P,n,.inl λc=>e (Instr.indexAt m (ev V O d) (ev V O v)) P c (λb=>by simp[execOp,i]) (g _)⟩
 ·rename_i m d J L M i
  obtain⟨p,n⟩:=eO.out n;obtain⟨P,g,n⟩:=UG.out (λO N=>iw.out p O (.inl N)) n;exact⟨P,n,.inl λc=>e (Instr.sliceAt m (ev V O d) (J.map (ev V O)) (L.map (ev V O)) (M.map (ev V O))) P c (λb=>by simp[execOp,i]) (g _)⟩
 ·rename_i d i
  unfold Py at n;split at n
  ·rename_i j w
   obtain⟨q,x,rfl,n⟩:=n;exact⟨_,n,.inl λc=>e (.pure (.pointer (some ⟨q,x,none⟩))) _ c (λb=>by simp[execOp,i,w]) rfl⟩
  ·rename_i Q first y w
   exact⟨_,n,.inl λc=>e (.pure (.func (.func Q) first y)) _ c (λb=>by simp[execOp,i,w]) rfl⟩
  ·exact n.elim
 ·rename_i m d v i
  split at n
  ·rename_i z
   obtain⟨P,g,n⟩:=Hh.out z n;exact⟨P,n,.inl λc=>e (Instr.index m (ev V O d) (ev V O v)) P c (λb=>by simp[execOp,i]) (g _)⟩
  ·exact n.elim
 ·split at n
  ·rename_i o r
   split at n
   ·obtain⟨P,g,n⟩:=uT.out n
    refine⟨P,n,?_⟩;split at g
    ·exact .inl λc=>e o P c (λb=>jS r h b) (g c)
    ·rename_i S
     refine .inr ⟨S,λc k=>e o P c (λb=>jS r h b) ?_⟩
     cases K with
     |true=>exact g c k
     |false=>simp only[fm]at k;rw[k];exact g
   ·split at n
    ·rename_i P g
     exact⟨P,n,.inl λc=>e o P c (λb=>jS r h b) (xX g _)⟩
    ·exact n.elim
  ·exact n.elim
def ix(d:Array Oper)(e:Oper)(f:ck)(a:cP)(b n:cP->Prop):Prop:=match e.guard with
 |none=>b a
 |some (g,P)=>match jB d g with
  |none=>False
  |some c=>match get f a c with
   | .bool h=>al h
    (match P with
     |true=>b ((c,.bool true)::a)
     |false=>n ((c,.bool true)::a))
    (match P with
     |true=>n ((c,.bool false)::a)
     |false=>b ((c,.bool false)::a))
   | .tuple _=>n a
   |_=>False
def lU:List Nat->(Nat->Prop)->Prop
 |[],_=>True
 |P::a,n=>match a with
  |[]=>n P
  |_=>n P/\lU a n
def lU.out:∀{l:List Nat} {φ:Nat->Prop},lU l φ->∀a∈l,φ a
 |[],_,_,a,n=>by cases n
 |b::c,φ,P,a,n=>by
  unfold lU at P;split at P
  ·simp only[List.mem_singleton]at n
   subst n;exact P
  ·rcases List.mem_cons.1 n with rfl|n
   ·exact P.1
   ·exact lU.out P.2 a n
def VE(c:Program)(P:Array Oper)(a:Bool)(n:Array Bool)(b:Nat):Bool:=
 Region.free .any P n b&&(match jT c P b with
  |0=>true
  |_=>match a with
   |true=>true
   |false=>fG c P n b)
def gg(b:Program)(P:Array Oper)(a:Bool)(n:Array Bool)(c:Nat):Bool:=match a with
 |false=>false
 |true=>match jT b P c with
  |0=>false
  |_=>!fG b P n c
def yM(P:Array Oper)(n:Array Bool)(a:Nat)(c:Nat->Bool):Nat->Bool:=match rQ P n a with
 |true=>(λM:Array Bool=>λb=>c b||M.getD b false) (nx P a P.size n)
 |false=>λ_=>true
def jC(d:Program)(P:Array Oper)(a:Bool)(n:Array Bool)(b:Nat)(c:Nat->Bool):Nat->Bool:=match gg d P a n b with
 |true=>yM P n b c
 |false=>c
def Ck:∀n,f4 n=true->yM U a0 a f4 n=true:=by
 intro n P;unfold yM
 cases rQ U a0 a with
 |true=>simp[P]
 |false=>rfl
def Cm:(∀n,yM U a0 a f4 n=true)\/∃P,yL U a a0 P/\∀n,P.getD n false=true->yM U a0 a f4 n=true:=by
 unfold yM
 cases b:rQ U a0 a with
 |true=>exact .inr ⟨_,Jv b,λn c=>by simp only[c,Bool.or_true]⟩
 |false=>exact .inl λ_=>rfl
def wH(f:Program)(g:ck)(P:Array Oper)(a:Bool)(i:Nat->Prop)(k:List PanicEntry->List Deferred->World->Prop)(j:cP->List Deferred->World->Prop):(Nat->Bool)->Nat->Array Bool->cP->List Deferred->World->Prop
 |W,0,n,b,c,d=>eO (Region.ready .any P n).isEmpty (j b c d)
 |W,l+1,n,b,c,d=>match oA f P (Region.ready .any P n)with
  |some e=>eO (VE f P a n e) (match P[e]? with
   |none=>False
   |some h=>ix P h g b (λb=>PD f g h (gg f P a n e) i (λb=>wH f g P a i k j (jC f P a n e W) l (n.setIfInBounds e true) b c d) b d)
     (λb=>wH f g P a i k j W l (n.setIfInBounds e true) (cm b h.dst undef) c d))
  |none=>match Region.ready .any P n with
   |[]=>j b c d
   |o=>lU o λe=>match P[e]? with
    |none=>False
    |some h=>ix P h g b (λb=>Sw f P g h (λp _ _ c d=>match p with
     | .panic q=>k q c d
     |_=>False) (λb c m=>VD (a&&W e) i d m (wH f g P a i k j W l (n.setIfInBounds e true) b c m)) b c d)
     (λb=>wH f g P a i k j W l (n.setIfInBounds e true) (cm b h.dst undef) c d)
def ix.out{d b:cP->Prop}(r:∀o e,jB U o=some e->e<a)(h:Rel a V O I)(n:ix U R V O d b):
  ∃i,Rel a V i I/\(∀f,get V i f=get V O f)/\((Region.wanted R (yielded U I.tmps)=true/\d i)\/(Region.wanted R (yielded U I.tmps)=false/\b i)):=by
 unfold ix at n;split at n
 ·rename_i j
  exact⟨O,h,λ_=>rfl,.inl ⟨by simp[Region.wanted,j],n⟩⟩
 ·rename_i o P j
  split at n
  ·exact n.elim
  ·rename_i e q
   have c:=pB h q (r o e q);split at n
   ·rename_i k g
    rw[g]at c;simp only at c;have p:Region.wanted R (yielded U I.tmps)=(k==P):=by
     simp only[Region.wanted,j,c]
     cases k<;>cases P<;>rfl
    rw[p];have l:=h.again g;have m:∀f,get V ((e,.bool k)::O) f=get V O f:=sC g
    cases k<;>cases P<;>simp only[al]at n
    ·exact⟨_,l,m,.inl ⟨rfl,n⟩⟩
    ·exact⟨_,l,m,.inr ⟨rfl,n⟩⟩
    ·exact⟨_,l,m,.inr ⟨rfl,n⟩⟩
    ·exact⟨_,l,m,.inl ⟨rfl,n⟩⟩
   ·rename_i s g
    rw[g]at c;simp only at c;have p:Region.wanted R (yielded U I.tmps)=false:=by
     simp[Region.wanted,j,c]
    exact⟨O,h,λ_=>rfl,.inr ⟨p,n⟩⟩
   ·exact n.elim
def fm.refl(n:Bool)(a:Nat->Prop)(P:World):fm n a P P:=by
 cases n with
 |true=>exact⟨rfl,rfl,rfl,Nat.le_refl _,λ_ _ _=>rfl⟩
 |false=>rfl
def aj.chain(n:aj f b k)(P:aj f k a6):aj f b a6:=
 ⟨P.os.trans n.os,P.tape.trans n.tape,P.output.trans n.output,Nat.le_trans n.size P.size,λa c d=>(P.block a (Nat.lt_of_lt_of_le c n.size) d).trans (n.block a c d)⟩
def rR(c:Nat)(d:ck)(e:cP)(f:List Nat)(g:iP):List PanicEntry->Act->World->Prop:=λh b i=>
 (∃n P,Rel c n P b/\(∀a,a∉f->get n P a=get d e a))/\∀n P,g (.panic h) n P b.defers i
def rR.VF{P:Option Tmp}(h:∀n,P=some n->n∈b5)(d:List PanicEntry)(b:Act)(e:World)(c:rR a V O b5 c2 d (b.put P v) e):rR a V O b5 c2 d b e:=by
 obtain⟨⟨k,l,f,i⟩,c⟩:=c;refine⟨⟨λn=>b.tmps.getD n undef,[],⟨?_,λn=>rfl⟩,λn g=>?_⟩,by simpa[put_defers]using c⟩
 ·have:=f.size
  cases P<;>simpa[Act.put]using this
 ·rw[<-i n g,<-f.slot]
  cases P with
  |none=>rfl
  |some P=>
   have j:P≠n:=by rintro rfl;exact g (h P rfl)
   show _=(b.tmps.setIfInBounds P v).getD n undef;simp only[Array.getD_eq_getD_getElem?];rw[Array.getElem?_setIfInBounds_ne j];simp[aw.get]
def rR.post(P:List PanicEntry)(b:Act)(c:World)(n:rR a V O b5 c2 P b c):dj a V O b5 c2 (.panic P) b c:=by
 obtain⟨⟨d,e,f,g⟩,n⟩:=n;exact⟨d,e,f,g,n d e⟩
def mV{i:Program}{x:Nat}{l B0:ck}{e0:cP}{W:List Nat}{P:Array Oper}{a:Bool}{y:Nat->Prop}{K:iP}(z:∀o b,jB P o=some b->b<x)(s:Region.noSelect P=true)(t:∀e∈P.toList,∀r,e.dst=some r->r<x/\r∈W):
  ∀(V:Nat->Bool) (p:Nat) (n:Array Bool) (j:cP) (h:Act) (f:World),Rel x l j h->(∀b,b∉W->get l j b=get B0 e0 b)->
   wH i l P a y (λE Y f=>∀l j,K (.panic E) l j Y f) (λj Y f=>K .normal l j Y f) V p n j h.defers f->UJ i P a (rR x B0 e0 W K) (λo=>V o=true) (dj x B0 e0 W K .normal) p (fm a y f) n h f
 |V,0,n,j,h,f,N,A,c=>by
  obtain⟨L,O⟩:=eO.out c;exact⟨by simpa using L,l,j,N,A,O⟩
 |V,p+1,n,j,h,f,N,A,c=>by
  have S:∀{d:Nat} {e:Oper},P[d]? =some e->∀(m:Value) (E:List PanicEntry) (h:Act) (f:World),rR x B0 e0 W K E (h.put e.dst m) f->rR x B0 e0 W K E h f:=by
   intro d e g m E h f;have M:e∈P.toList:=by
    obtain⟨b0,rfl⟩:=Array.getElem?_eq_some_iff.1 g;simp
   exact rR.VF (λb u=>(t e M b u).2) E h f
  have a5:∀{d:Nat} {e:Oper},P[d]? =some e->(∀r,e.dst=some r->r<x)/\∀(j:cP),(∀b,b∉W->get l j b=get B0 e0 b)->∀m b,b∉W->get l (cm j e.dst m) b=get B0 e0 b:=by
   intro d e g;have M:e∈P.toList:=by
    obtain⟨b0,rfl⟩:=Array.getElem?_eq_some_iff.1 g;simp
   refine⟨λr v=>(t e M r v).1,λj A m b u=>?_⟩
   cases v:e.dst with
   |none=>exact A b u
   |some r=>
    have b1:=(t e M r v).2;show get l ((r,m)::j) b=_;rw[ej,if_neg (by rintro rfl;exact u b1)];exact A b u
  unfold wH at c;split at c
  ·rename_i d F
   obtain⟨T,U⟩:=lT F;obtain⟨a6,c⟩:=eO.out c;split at c
   ·exact c.elim
   ·rename_i e g
    obtain⟨v,H⟩:=a5 g;simp only[VE,Bool.and_eq_true]at a6;obtain⟨b2,Z⟩:=a6;have X:=Region.free_spec g b2;obtain⟨q,k,a3,a0⟩:=ix.out z N c;have B:∀b,b∉W->get l q b=get B0 e0 b:=λb u=>(a3 b).trans (A b u);rcases a0 with⟨I,c⟩|⟨I,c⟩
    ·obtain⟨m,w,C⟩:=Jw k I c
     have a1:∀o,V o=true->jC i P a n d V o=true:=by
      intro o hj;unfold jC
      cases gg i P a n d with
      |true=>exact Ck o hj
      |false=>exact hj
     have next:=mV z s t (jC i P a n d V) p (n.setIfInBounds d true) (cm q e.dst m) (h.put e.dst m) f (k.put _ v _) (H q B m) (by rw[put_defers];exact w);rcases C with C|⟨Q,C⟩
     ·exact iF a1 (S g _) g U (Region.noSelect_spec s) (λ_=>True) p _ n h f X T (λa2 _=>C a2) trivial (fm.refl ..) (.inl λ_=>trivial) next
     ·have a7:jT i P d=kindOf i e:=by simp[jT,g]
      rw[a7]at Z;have b3:(gg i P a n d=true/\a=true)\/(gg i P a n d=false/\fG i P n d=true):=by
       cases a with
       |false=>
        right;refine⟨rfl,?_⟩;split at Z
        ·rename_i R;exact absurd R Q
        ·simpa using Z
       |true=>
        have M:gg i P true n d= !fG i P n d:=by
         unfold gg;rw[a7];generalize kindOf i e=a8 at Q
         cases a8 with
         |zero=>exact absurd rfl Q
         |succ a8=>rfl
        rw[M]
        cases hb:fG i P n d with
        |true=>right;simp
        |false=>left;simp
      rcases b3 with⟨L,O⟩|⟨L,O⟩
      ·rw[L]at C
       subst O;have hg:(∀o,jC i P true n d V o=true)\/∃a9,yL P d n a9/\∀o,a9.getD o false=true->jC i P true n d V o=true:=by
        unfold jC;rw[L];exact Cm
       exact iF a1 (S g _) g U (Region.noSelect_spec s) (fm true y f) p _ n h f X T C (fm.refl ..) (fm.refl ..) (.inr (.inl ⟨rfl,λ_ c=>c,hg⟩)) next
      ·rw[L]at C
       exact iF a1 (S g _) g U (Region.noSelect_spec s) (fm false y f) p _ n h f X T C (fm.refl ..) (fm.refl ..) (.inr (.inr (tG O))) next
    ·have next:=mV z s t V p (n.setIfInBounds d true) (cm q e.dst undef) (h.put e.dst undef) f (k.put _ v _) (H q B _) (by rw[put_defers];exact c)
     exact iF (λ_ c=>c) (S g _) g U (Region.noSelect_spec s) (λ_=>True) p _ n h f X T (λa2 _=>.inr ⟨I,rfl⟩) trivial (fm.refl ..) (.inl λ_=>trivial) next
  ·rename_i hn
   have b4:=uW hn;split at c
   ·rename_i R
    exact⟨λ_=>⟨l,j,N,A,c⟩,λd F=>(by rw[R]at F;cases F)⟩
   ·rename_i b5
    refine⟨λR=>absurd R (by simpa using b5),λd F=>⟨λhs=>(by rw[b4 d F]at hs;cases hs),λ_=>?_⟩⟩;have c:=lU.out c d F;split at c
    ·exact c.elim
    ·rename_i e g
     obtain⟨v,H⟩:=a5 g;obtain⟨q,k,a3,a0⟩:=ix.out z N c;have B:∀b,b∉W->get l q b=get B0 e0 b:=λb u=>(a3 b).trans (A b u);unfold wpOp;simp only[g];rcases a0 with⟨I,c⟩|⟨I,c⟩
     ·rw[if_pos I]
      refine .inl (Hl k v c (λm a' J a4 w=>?_) λE J hq=>⟨⟨l,q,k,B⟩,hq⟩)
      cases a with
      |true=>
       cases hV:V d with
       |true=>
        rw[hV]at w;obtain⟨Q,w⟩:=w;exact⟨fm true y J,λ_ _ a2 hx=>Q.chain hx,fm.refl ..,mV z s t V p _ _ a' J a4 (H q B m) w⟩
       |false=>
        rw[hV]at w;exact⟨fm true y J,λ_ c=>(by cases c),fm.refl ..,mV z s t V p _ _ a' J a4 (H q B m) w⟩
      |false=>exact⟨fm false y J,λc=>(by cases c),fm.refl ..,mV z s t V p _ _ a' J a4 (H q B m) w⟩
     ·rw[if_neg (by rw[I];simp)]
      exact⟨fm a y f,λ_ _ _ c=>c,fm.refl ..,mV z s t V p _ _ (h.put e.dst undef) f (k.put _ v _) (H q B _) (by rw[put_defers];exact c)⟩
def VG(a:Bool)(n:Nat->Prop)(b c:World)(P:(Nat->Prop)->Prop):Prop:=match a with
 |true=>aj n b c/\P n
 |false=>∃d:Nat->Prop,P d
def tH(e:Program)(f:ck)(P:Array Oper)(j:List PanicEntry->List Deferred->World->Prop)(h:cP->List Deferred->World->Prop):(Nat->Prop)->(Nat->Bool)->Nat->Array Bool->cP->List Deferred->World->Prop
 |S,i,0,n,a,b,c=>eO (Region.ready .any P n).isEmpty (h a b c)
 |S,i,k+1,n,a,b,c=>match oA e P (Region.ready .any P n)with
  |some d=>eO (VE e P true n d) (match P[d]? with
   |none=>False
   |some g=>ix P g f a (λa=>PD e f g (gg e P true n d) S (λa=>tH e f P j h S (jC e P true n d i) k (n.setIfInBounds d true) a b c) a c)
     (λa=>tH e f P j h S i k (n.setIfInBounds d true) (cm a g.dst undef) b c))
  |none=>match Region.ready .any P n with
   |[]=>h a b c
   |m=>lU m λd=>match P[d]? with
    |none=>False
    |some g=>ix P g f a (λa=>Sw e P f g (λo _ _ b c=>match o with
     | .panic p=>j p b c
     |_=>False) (λa b l=>VG (i d) S c l λS=>tH e f P j h S i k (n.setIfInBounds d true) a b l) a b c)
     (λa=>tH e f P j h S i k (n.setIfInBounds d true) (cm a g.dst undef) b c)
def lV{h:Program}{w:Nat}{k B0:ck}{e0:cP}{W:List Nat}{P:Array Oper}{H:iP}(A:∀m a,jB P m=some a->a<w)(t:Region.noSelect P=true)(x:∀d∈P.toList,∀q,d.dst=some q->q<w/\q∈W):
  ∀(S:Nat->Prop) (l:Nat->Bool) (p:Nat) (n:Array Bool) (i:cP) (g:Act) (e:World),Rel w k i g->(∀a,a∉W->get k i a=get B0 e0 a)->
   tH h k P (λB V e=>∀k i,H (.panic B) k i V e) (λi V e=>H .normal k i V e) S l p n i g.defers e->UJ h P true (rR w B0 e0 W H) (λm=>l m=true) (dj w B0 e0 W H .normal) p (fm true S e) n g e
 |S,l,0,n,i,g,e,L,y,b=>by
  obtain⟨I,N⟩:=eO.out b;exact⟨by simpa using I,k,i,L,y,N⟩
 |S,l,p+1,n,i,g,e,L,y,b=>by
  have O:∀{c:Nat} {d:Oper},P[c]? =some d->∀(o:Value) (B:List PanicEntry) (g:Act) (e:World),rR w B0 e0 W H B (g.put d.dst o) e->rR w B0 e0 W H B g e:=by
   intro c d f o B g e;have J:d∈P.toList:=by
    obtain⟨a7,rfl⟩:=Array.getElem?_eq_some_iff.1 f;simp
   exact rR.VF (λa u=>(x d J a u).2) B g e
  have a1:∀{c:Nat} {d:Oper},P[c]? =some d->(∀q,d.dst=some q->q<w)/\∀(i:cP),(∀a,a∉W->get k i a=get B0 e0 a)->∀o a,a∉W->get k (cm i d.dst o) a=get B0 e0 a:=by
   intro c d f;have J:d∈P.toList:=by
    obtain⟨a7,rfl⟩:=Array.getElem?_eq_some_iff.1 f;simp
   refine⟨λq v=>(x d J q v).1,λi y o a u=>?_⟩
   cases v:d.dst with
   |none=>exact y a u
   |some q=>
    have a8:=(x d J q v).2;show get k ((q,o)::i) a=_;rw[ej,if_neg (by rintro rfl;exact u a8)];exact y a u
  unfold tH at b;split at b
  ·rename_i c C
   obtain⟨Q,R⟩:=lT C;obtain⟨a4,b⟩:=eO.out b;split at b
   ·exact b.elim
   ·rename_i d f
    obtain⟨v,K⟩:=a1 f;simp only[VE,Bool.and_eq_true]at a4;obtain⟨a9,b0⟩:=a4;have T:=Region.free_spec f a9;obtain⟨r,j,X,Y⟩:=ix.out A L b;have E:∀a,a∉W->get k r a=get B0 e0 a:=λa u=>(X a).trans (y a u);rcases Y with⟨F,b⟩|⟨F,b⟩
    ·obtain⟨o,s,z⟩:=Jw j F b
     have Z:∀m,l m=true->jC h P true n c l m=true:=by
      intro m hj;unfold jC
      cases gg h P true n c with
      |true=>exact Ck m hj
      |false=>exact hj
     have next:=lV A t x S (jC h P true n c l) p (n.setIfInBounds c true) (cm r d.dst o) (g.put d.dst o) e (j.put _ v _) (K r E o) (by rw[put_defers];exact s);rcases z with z|⟨U,z⟩
     ·exact iF Z (O f _) f R (Region.noSelect_spec t) (λ_=>True) p _ n g e T Q (λa0 _=>z a0) trivial (fm.refl ..) (.inl λ_=>trivial) next
     ·have a5:jT h P c=kindOf h d:=by simp[jT,f]
      rw[a5]at b0;have b1:(gg h P true n c=true/\True)\/(gg h P true n c=false/\fG h P n c=true):=by
       have J:gg h P true n c= !fG h P n c:=by
        unfold gg;rw[a5];generalize kindOf h d=a2 at U
        cases a2 with
        |zero=>exact absurd rfl U
        |succ a2=>rfl
       rw[J]
       cases hb:fG h P n c with
       |true=>right;simp
       |false=>left;simp
      rcases b1 with⟨I,N⟩|⟨I,N⟩
      ·rw[I]at z
       have hg:(∀m,jC h P true n c l m=true)\/∃a3,yL P c n a3/\∀m,a3.getD m false=true->jC h P true n c l m=true:=by
        unfold jC;rw[I];exact Cm
       exact iF Z (O f _) f R (Region.noSelect_spec t) (fm true S e) p _ n g e T Q z (fm.refl ..) (fm.refl ..) (.inr (.inl ⟨rfl,λ_ b=>b,hg⟩)) next
      ·rw[I]at z
       exact iF Z (O f _) f R (Region.noSelect_spec t) (fm false S e) p _ n g e T Q z (fm.refl ..) (fm.refl ..) (.inr (.inr (tG N))) next
    ·have next:=lV A t x S l p (n.setIfInBounds c true) (cm r d.dst undef) (g.put d.dst undef) e (j.put _ v _) (K r E _) (by rw[put_defers];exact b)
     exact iF (λ_ b=>b) (O f _) f R (Region.noSelect_spec t) (λ_=>True) p _ n g e T Q (λa0 _=>.inr ⟨F,rfl⟩) trivial (fm.refl ..) (.inl λ_=>trivial) next
  ·rename_i hn
   have b2:=uW hn;split at b
   ·rename_i h0
    exact⟨λ_=>⟨k,i,L,y,b⟩,λc C=>(by rw[h0]at C;cases C)⟩
   ·rename_i b3
    refine⟨λh0=>absurd h0 (by simpa using b3),λc C=>⟨λhs=>(by rw[b2 c C]at hs;cases hs),λ_=>?_⟩⟩;have b:=lU.out b c C;split at b
    ·exact b.elim
    ·rename_i d f
     obtain⟨v,K⟩:=a1 f;obtain⟨r,j,X,Y⟩:=ix.out A L b;have E:∀a,a∉W->get k r a=get B0 e0 a:=λa u=>(X a).trans (y a u);unfold wpOp;simp only[f];rcases Y with⟨F,b⟩|⟨F,b⟩
     ·rw[if_pos F]
      refine .inl (Hl j v b (λo a' M a6 s=>?_) λB M hq=>⟨⟨k,r,j,E⟩,hq⟩)
      cases hV:l c with
      |true=>
       rw[hV]at s;obtain⟨U,s⟩:=s;exact⟨fm true S M,λ_ _ a0 hx=>U.chain hx,fm.refl ..,lV A t x S l p _ _ a' M a6 (K r E o) s⟩
      |false=>
       rw[hV]at s;obtain⟨S',s⟩:=s;exact⟨fm true S' M,λ_ b=>(by cases b),fm.refl ..,lV A t x S' l p _ _ a' M a6 (K r E o) s⟩
     ·rw[if_neg (by rw[F];simp)]
      exact⟨fm true S e,λ_ _ _ b=>b,fm.refl ..,lV A t x S l p _ _ (g.put d.dst undef) e (j.put _ v _) (K r E _) (by rw[put_defers];exact b)⟩
structure gX where
 aN:List Nat
 Wx:List Nat
 kinds:List Nat
def bit(n:Nat):Nat:=Nat.shiftLeft 1 n
def NN(a:Oper):Nat:=a.after.foldl (λn P=>match Region.binds .any P with|true=>Nat.lor n (bit P.on)|false=>n) 0
def Mu(n:Array Oper)(P:Nat):Nat:=(List.range n.size).foldl (λb a=>match Nat.beq a P||(match n[P]?,n[a]? with
 |some B,some c=>c.after.any (λd=>Region.binds .any d&&d.on==P)||B.apart n c
 |_,none=>true
 |none,_=>false)with|true=>Nat.lor b (bit a)|false=>b) 0
def PE:List Nat->List Nat->Bool
 |[],[]=>true
 |a::n,P::b=>Nat.beq a P&&PE n b
 |_,_=>false
def gX.ok(a:Program)(n:Array Oper)(P:gX):Bool:=
 PE P.aN (n.toList.map NN)&&PE P.Wx ((List.range n.size).map (Mu n))&&PE P.kinds (n.toList.map (kindOf a))
def hasB(n P:Nat):Bool:=Nat.testBit n P
def eP(P:gX)(b a:Nat):List Nat:=(List.range b).filter λn=>!hasB a n&&Nat.beq (Nat.land (P.aN.getD n 0) a) (P.aN.getD n 0)
def Hm(n:gX)(P:Nat):Bool:=!Nat.beq (n.kinds.getD P 2) 2
def Cn(n:gX):List Nat->Option Nat
 |[]=>none
 |P::a=>match Hm n P with
  |true=>some P
  |false=>Cn n a
def xY(a:gX)(b c:Nat):Nat->Nat->Nat
 |0,n=>n
 |f+1,n=>match(eP a b n).find? (λP=>!Nat.beq P c)with
  |some P=>xY a b c f (Nat.lor n (bit P))
  |none=>n
def yN(n P:Nat):(bit n).testBit P=decide (n=P):=by
 unfold bit;show(1<<<n).testBit P=_;rw[Nat.one_shiftLeft,Nat.testBit_two_pow]
def pC{d:Type}(a:d->Bool)(b:d->Nat)(P:Nat):∀(c:List d) (n:Nat),(c.foldl (λn e=>match a e with|true=>Nat.lor n (bit (b e))|false=>n) n).testBit P=(n.testBit P||c.any λe=>a e&&b e==P)
 |[],n=>by simp
 |e::c,n=>by
  rw[List.foldl_cons,pC a b P c]
  cases f:a e with
  |false=>simp[f]
  |true=>
   simp only[f,List.any_cons,Bool.true_and];show((n|||bit (b e)).testBit P||_)=_;rw[Nat.testBit_or,yN,Bool.or_assoc]
   congr 2
def yO(a:Oper)(P:Nat):(NN a).testBit P=a.after.any λn=>Region.binds .any n&&n.on==P:=by
 unfold NN;rw[<-Array.foldl_toList,pC (λn=>Region.binds .any n) (λn=>n.on) P];simp
def land_eq:Nat.beq (Nat.land a c) a=true↔∀n,a.testBit n=true->c.testBit n=true:=by
 constructor
 ·intro P n b
  have P:=Nat.eq_of_beq_eq_true P;have:(a&&&c).testBit n=true:=by
   show(Nat.land a c).testBit n=true;rw[P];exact b
  rw[Nat.testBit_and]at this;simp at this;exact this.2
 ·intro P
  have:a&&&c=a:=by
   apply Nat.eq_of_testBit_eq;intro n;rw[Nat.testBit_and]
   cases d:a.testBit n with
   |false=>rfl
   |true=>rw[P n d];rfl
  show Nat.beq (a&&&c) a=true;rw[this];exact Nat.beq_refl a
def PE.out:∀{l P:List Nat},PE l P=true->l=P
 |[],[],_=>rfl
 |[],_::_,n=>by cases n
 |_::_,[],n=>by cases n
 |a::l,b::P,n=>by
  simp only[PE,Bool.and_eq_true]at n;rw[Nat.eq_of_beq_eq_true n.1,PE.out n.2]
structure Dh (listed:Array Bool) (n N:Nat):Prop where
 size:listed.size=n
 bit:∀i,listed.getD i false=N.testBit i
def Dh.set(n:Dh a0 a c)(d:i<a):Dh (a0.setIfInBounds i true) a (Nat.lor c (aw.bit i)):=by
 refine⟨by simp[n.size],λP=>?_⟩;show _=(c|||aw.bit i).testBit P;rw[Nat.testBit_or,yN,<-n.bit P]
 by_cases b:i=P
 ·subst b
  have:i<a0.size:=by rw[n.size];exact d
  simp[this]
 ·rw[getD_set_ne false b];simp[b]
variable{b8:gX}
def lW(e:b8.ok h U=true)(d:Dh a0 U.size a):Region.ready .any U a0=eP b8 U.size a:=by
 unfold gX.ok at e;simp only[Bool.and_eq_true]at e;have j:=PE.out e.1.1;unfold Region.ready eP;refine List.filter_congr λn P=>?_;have P:=List.mem_range.1 P;have k:a0.getD n true=a.testBit n:=by
  rw[<-d.bit n];have:n<a0.size:=by rw[d.size];exact P
  simp[this]
 have l:b8.aN.getD n 0=NN U[n]:=by
  rw[j];simp[P]
 rw[k,l,Array.getElem?_eq_getElem P];simp only[Option.map_some,Option.getD_some,hasB]
 congr 1
 rw[Bool.eq_iff_iff,land_eq];rw[Array.all_eq_true_iff_forall_mem];constructor
 ·intro f m i
  rw[yO]at i;obtain⟨b,g,c⟩:=Array.any_eq_true'.1 i;simp only[Bool.and_eq_true,beq_iff_eq]at c;have:=f b g;rw[c.1,d.bit,c.2]at this;simpa using this
 ·intro f b g
  cases c:Region.binds .any b with
  |false=>rfl
  |true=>
   rw[d.bit];have:=f b.on (by rw[yO];exact Array.any_eq_true'.2 ⟨b,g,by simp[c]⟩);simp[this]
def oB(n:b8.ok h U=true)(P:a<U.size):b8.kinds.getD a 2=jT h U a/\Hm b8 a=gA h U a:=by
 unfold gX.ok at n;simp only[Bool.and_eq_true]at n;have c:=PE.out n.2;have b:b8.kinds.getD a 2=jT h U a:=by
  rw[c];unfold jT;rw[Array.getElem?_eq_getElem P];simp[P]
 refine⟨b,?_⟩;unfold Hm gA;rw[b];generalize jT h U a=k
 match k with
 |0=>rfl
 |1=>rfl
 |2=>rfl
 |k+3=>rfl
def Hn{a:Program}{n:Array Oper}{c:gX}(d:c.ok a n=true):∀(b:List Nat),(∀P∈b,P<n.size)->Cn c b=oA a n b
 |[],_=>rfl
 |P::f,e=>by
  unfold Cn oA;rw[(oB d (e P (List.mem_cons_self ..))).2,Hn d f λg h=>e g (List.mem_cons_of_mem _ h)]
  try(cases gA a n P<;>rfl)
def lX(n:i∈eP b8 a c):i<a:=List.mem_range.1 (List.mem_filter.1 n).1
def wI{h:Program}{P:Array Oper}{d:gX}(e:d.ok h P=true)(b:Nat):∀(f:Nat) {n:Array Bool} {c:Nat},Dh n P.size c->Dh (nx P b f n) P.size (xY d P.size b f c)
 |0,_,_,a=>a
 |f+1,n,c,a=>by
  unfold nx xY;rw[lW e a]
  cases i:(eP d P.size c).find? (λg=>!Nat.beq g b)with
  |some g=>exact wI e b f (a.set (lX (List.mem_of_find?_eq_some i)))
  |none=>exact a
def wJ(a:gX)(P d b:Nat):Bool:=
 (λc:Nat=>!hasB c b&&(eP a P c).all (λn=>Nat.beq n b)&&(List.range P).all λn=>!hasB c n||Hm a n||hasB d n) (xY a P b P d)
def Dh.Ya(n:Dh a0 a c)(P:i<a):a0.getD i true=c.testBit i:=by
 rw[<-n.bit i];have:i<a0.size:=by rw[n.size];exact P
 simp[this]
def pD(n:b8.ok h U=true)(b:Dh a0 U.size a)(d:c<U.size):wJ b8 U.size a c=fG h U a0 c:=by
 have P:=wI n c U.size b;unfold wJ fG;simp only;rw[lW n P,P.Ya d]
 congr 1
 rw[Bool.eq_iff_iff,List.all_eq_true,List.all_eq_true];refine forall_congr' λf=>forall_congr' λe=>?_;rw[(oB n (List.mem_range.1 e)).2,P.bit,b.bit]
 rfl
def Sz(P:gX)(a b c:Nat):Bool:=(List.range a).all λn=>hasB (P.Wx.getD c 0) n||hasB b n
def NO(e:b8.ok h U=true)(k:Dh a0 U.size a)(f:c<U.size):Sz b8 U.size a c=Region.free .any U a0 c:=by
 unfold gX.ok at e;simp only[Bool.and_eq_true]at e;have l:=PE.out e.1.2;have b:b8.Wx.getD c 0=Mu U c:=by rw[l];simp[f]
 unfold Sz Region.free;rw[b,Array.getElem?_eq_getElem f];simp only;rw[Bool.eq_iff_iff,List.all_eq_true,List.all_eq_true];refine forall_congr' λn=>forall_congr' λd=>?_;have d:=List.mem_range.1 d;rw[k.Ya d,Array.getElem?_eq_getElem d];unfold hasB Mu;rw[pC (λn=>Nat.beq n c||(match U[c]?,U[n]? with
  |some H,some j=>j.after.any (λb=>Region.binds .any b&&b.on==c)||H.apart U j
  |_,none=>true
  |none,_=>false)) (λn=>n) n]
 rw[Nat.zero_testBit,Bool.false_or];have P:∀g:Nat->Bool,((List.range U.size).any λb=>g b&&b==n)=g n:=λg=>by
  rw[Bool.eq_iff_iff,List.any_eq_true];constructor
  ·rintro⟨p,_,i⟩
   simp only[Bool.and_eq_true,beq_iff_eq]at i;rw[<-i.2];exact i.1
  ·intro m
   exact⟨n,List.mem_range.2 d,by simp[m]⟩
 rw[P];simp only[Array.getElem?_eq_getElem f,Array.getElem?_eq_getElem d];have o:(Nat.beq n c)=(n==c):=by rw[Bool.eq_iff_iff,Nat.beq_eq,beq_iff_eq]
 rw[o]
 cases(n==c)<;>cases a.testBit n<;>simp
def Xa(P:gX)(n:Bool)(b c a:Nat):Bool:=
 Sz P b c a&&(match P.kinds.getD a 2 with
  |0=>true
  |_=>match n with
   |true=>true
   |false=>wJ P b c a)
def Co(P:gX)(n:Bool)(b c a:Nat):Bool:=match n with
 |false=>false
 |true=>match P.kinds.getD a 2 with
  |0=>false
  |_=>!wJ P b c a
def Mv(P:gX)(n b a:Nat):Bool:=(λc:Nat=>(eP P n c).all (λd=>Nat.beq d a)) (xY P n a n b)
def SA(P:gX)(n a b:Nat)(d:Nat->Bool):Nat->Bool:=match Mv P n a b with
 |true=>(λe:Nat=>λc=>d c||hasB e c) (xY P n b n a)
 |false=>λ_=>true
def EZ(P:gX)(n:Bool)(a b c:Nat)(d:Nat->Bool):Nat->Bool:=match Co P n a b c with
 |true=>SA P a b c d
 |false=>d
def SB(n:b8.ok h U=true)(P:Dh a0 U.size a):Mv b8 U.size a c=rQ U a0 c:=by
 have b:=wI n c U.size P;unfold Mv rQ;simp only;rw[lW n b]
def NP(n:b8.ok h U=true)(P:Dh a0 U.size a):SA b8 U.size a c f4=yM U a0 c f4:=by
 have b:=wI n c U.size P;unfold SA yM;rw[SB n P]
 cases rQ U a0 c
 ·rfl
 ·simp only
  funext j
  rw[b.bit]
  rfl
def tI(j:Program)(h:ck)(P:Array Oper)(b:gX)(g:Nat)(n:Bool)(k:Nat->Prop)(m:List PanicEntry->List Deferred->World->Prop)(l:cP->List Deferred->World->Prop):(Nat->Bool)->Nat->Nat->cP->List Deferred->World->Prop
 |W,0,c,a,d,e=>eO (eP b g c).isEmpty (l a d e)
 |W,o+1,c,a,d,e=>match Cn b (eP b g c)with
  |some f=>eO (Xa b n g c f) (match P[f]? with
   |none=>False
   |some i=>ix P i h a (λa=>PD j h i (Co b n g c f) k (λa=>tI j h P b g n k m l (EZ b n g c f W) o (Nat.lor c (bit f)) a d e) a e)
     (λa=>tI j h P b g n k m l W o (Nat.lor c (bit f)) (cm a i.dst undef) d e))
  |none=>match eP b g c with
   |[]=>l a d e
   |q=>lU q λf=>match P[f]? with
    |none=>False
    |some i=>ix P i h a (λa=>Sw j P h i (λr _ _ d e=>match r with
     | .panic s=>m s d e
     |_=>False) (λa d p=>VD (n&&W f) k e p (tI j h P b g n k m l W o (Nat.lor c (bit f)) a d p)) a d e)
     (λa=>tI j h P b g n k m l W o (Nat.lor c (bit f)) (cm a i.dst undef) d e)
def rU{b c:Nat->Prop}:∀{a:List Nat},(∀n∈a,b n=c n)->lU a b=lU a c
 |[],_=>rfl
 |[n],P=>by
  unfold lU;exact P n (List.mem_cons_self ..)
 |n::f::g,P=>by
  unfold lU;rw[P n (List.mem_cons_self ..),rU λd e=>P d (List.mem_cons_of_mem _ e)]
def rV{f:Program}{k:ck}{n:Array Oper}{g:gX}(h:g.ok f n=true){a:Bool}{l:Nat->Prop}{m:List PanicEntry->List Deferred->World->Prop}{o:cP->List Deferred->World->Prop}:∀(W:Nat->Bool) (j:Nat) {P:Array Bool} {d:Nat},Dh P n.size d->
  tI f k n g n.size a l m o W j d=wH f k n a l m o W j P
 |W,0,P,d,i=>by
  funext e ds w
  unfold tI wH;rw[lW h i]
 |W,j+1,P,d,i=>by
  have p:∀W b,b<n.size->tI f k n g n.size a l m o W j (Nat.lor d (bit b))=wH f k n a l m o W j (P.setIfInBounds b true):=λW b c=>rV h W j (i.set c);have r:Cn g (eP g n.size d)=oA f n (eP g n.size d):=Hn h _ λb c=>lX c
  funext e ds w
  unfold tI wH;rw[lW h i,r]
  cases s:oA f n (eP g n.size d)with
  |some b=>
   have c:b<n.size:=lX (lT s).1;have t:Xa g a n.size d b=VE f n a P b:=by
    unfold Xa VE;rw[NO h i c,(oB h c).1,pD h i c]
    try(cases jT f n b<;>cases a<;>rfl)
   have q:Co g a n.size d b=gg f n a P b:=by
    unfold Co gg;rw[(oB h c).1,pD h i c]
   have u:EZ g a n.size d b W=jC f n a P b W:=by
    unfold EZ jC;rw[q,NP h i]
   simp only[t,q,u,p _ b c]
   try(cases n[b]? <;>rfl)
  |none=>
   cases v:eP g n.size d with
   |nil=>rfl
   |cons x y=>
    simp only;refine rU λb c=>?_;have c:b<n.size:=lX (by rw[v];exact c);simp only[p _ b c]
    try(cases n[b]? <;>rfl)
def pF(i:Program)(g:ck)(n:Array Oper)(a:gX)(f:Nat)(l:List PanicEntry->List Deferred->World->Prop)(j:cP->List Deferred->World->Prop):(Nat->Prop)->(Nat->Bool)->Nat->Nat->cP->List Deferred->World->Prop
 |S,k,0,b,P,c,d=>eO (eP a f b).isEmpty (j P c d)
 |S,k,m+1,b,P,c,d=>match Cn a (eP a f b)with
  |some e=>eO (Xa a true f b e) (match n[e]? with
   |none=>False
   |some h=>ix n h g P (λP=>PD i g h (Co a true f b e) S (λP=>pF i g n a f l j S (EZ a true f b e k) m (Nat.lor b (bit e)) P c d) P d)
     (λP=>pF i g n a f l j S k m (Nat.lor b (bit e)) (cm P h.dst undef) c d))
  |none=>match eP a f b with
   |[]=>j P c d
   |p=>lU p λe=>match n[e]? with
    |none=>False
    |some h=>ix n h g P (λP=>Sw i n g h (λq _ _ c d=>match q with
     | .panic r=>l r c d
     |_=>False) (λP c o=>VG (k e) S d o λS=>pF i g n a f l j S k m (Nat.lor b (bit e)) P c o) P c d)
     (λP=>pF i g n a f l j S k m (Nat.lor b (bit e)) (cm P h.dst undef) c d)
def xZ{d:Program}{k:ck}{n:Array Oper}{f:gX}(h:f.ok d n=true){l:List PanicEntry->List Deferred->World->Prop}{m:cP->List Deferred->World->Prop}:∀(S:Nat->Prop) (g:Nat->Bool) (j:Nat) {P:Array Bool} {c:Nat},Dh P n.size c->
  pF d k n f n.size l m S g j c=tH d k n l m S g j P
 |S,g,0,P,c,i=>by
  funext e ds w
  unfold pF tH;rw[lW h i]
 |S,g,j+1,P,c,i=>by
  have o:∀S g a,a<n.size->pF d k n f n.size l m S g j (Nat.lor c (bit a))=tH d k n l m S g j (P.setIfInBounds a true):=λS g a b=>xZ h S g j (i.set b);have q:Cn f (eP f n.size c)=oA d n (eP f n.size c):=Hn h _ λa b=>lX b
  funext e ds w
  unfold pF tH;rw[lW h i,q]
  cases r:oA d n (eP f n.size c)with
  |some a=>
   have b:a<n.size:=lX (lT r).1;have s:Xa f true n.size c a=VE d n true P a:=by
    unfold Xa VE;rw[NO h i b,(oB h b).1,pD h i b]
    try(cases jT d n a<;>rfl)
   have p:Co f true n.size c a=gg d n true P a:=by
    unfold Co gg;rw[(oB h b).1,pD h i b]
   have t:EZ f true n.size c a g=jC d n true P a g:=by
    unfold EZ jC;rw[p,NP h i]
   simp only[s,p,t,o _ _ a b]
   try(cases n[a]? <;>rfl)
  |none=>
   cases u:eP f n.size c with
   |nil=>rfl
   |cons v x=>
    simp only;refine rU λa b=>?_;have b:a<n.size:=lX (by rw[u];exact b);simp only[o _ _ a b]
    try(cases n[a]? <;>rfl)
def VH(P:List (Nat×gX))(n:Nat):Option gX:=match P with
 |[]=>none
 |(a,b)::c=>match Nat.beq a n with
  |true=>some b
  |false=>VH c n
def Dh.init(n:Nat):Dh (Array.replicate n false) n 0:=⟨by simp,λa=>by
 rw[Nat.zero_testBit]
 by_cases P:a<n
 ·simp[P]
 ·simp[P]⟩
def key:Code->Option Nat
 | .region id _ _=>some id
 | .seq P a=>match key P with
  |some b=>some b
  |none=>key a
 | .cond _ P a=>match key P with
  |some b=>some b
  |none=>key a
 | .block _ n=>key n
 | .loop n=>key n
 | .scope n=>key n
 |_=>none
def E_:List Oper->List Nat
 |[]=>[]
 |P::n=>match P.dst with
  |some a=>a::E_ n
  |none=>E_ n
def writes:Code->List Nat
 | .region _ P _=>E_ P.toList
 | .seq a b=>writes a++writes b
 | .cond _ a b=>writes a++writes b
 | .block _ n=>writes n
 | .loop n=>writes n
 | .scope n=>writes n
 |_=>[]
def lC{P:List Oper}(n:R∈P)(b:R.dst=some a):a∈E_ P:=by
 induction P with
 |nil=>cases n
 |cons d e c=>
  unfold E_
  cases n with
  |head=>rw[b];exact List.mem_cons_self ..
  |tail _ n=>split<;>simp[c n]
structure lA where
 loops:List (Nat×List (Nat×Value))
 Sh:List (Nat×List (Nat×Value))
 keeps:List Nat
 NG:List Nat
 Yb:List (Nat×gX)
def PF(P:List (Nat×List (Nat×Value)))(n:Option Nat):Option (List (Nat×Value)):=match n with
 |none=>none
 |some n=>match P with
  |[]=>none
  |(a,b)::c=>match Nat.beq a n with
   |true=>some b
   |false=>PF c (some n)
def Cp(P:List Nat)(n:Nat):Bool:=match P with
 |[]=>false
 |d::a=>match Nat.beq d n with
  |true=>true
  |false=>Cp a n
def fu(P:List Nat):cP->(cP->Prop)->Prop
 |[],n=>n []
 |(a,c)::b,n=>match Cp P a with
  |true=>fu P b n
  |false=>fu P b λd=>n ((a,c)::d)
def Fn:List Value->Type->Type
 |[],n=>n
 |z::P,n=>match z with
  | .int _ _=>Int->Fn P n
  | .bool _=>Bool->Fn P n
  | .string _=>ByteArray->Fn P n
  | .slice _ _ _=>Option Addr->Nat->Nat->Fn P n
  | .pointer (some _)=>Nat->Nat->Fn P n
  | .pointer none=>Option Addr->Fn P n
  | .map _=>Option Nat->Fn P n
  |_=>Value->Fn P n
def ap:(P:List Value)->Fn P (World->Prop)->List Value->World->Prop
 |[],n,_,a=>n a
 |z::P,n,b,a=>match b with
  |[]=>False
  |v::b=>match z,n with
   | .int e _,n=>match v with
    | .int f c=>eO (decide (f=e)) (ap P (n c) b a)
    |_=>False
   | .bool _,n=>match v with
    | .bool d=>ap P (n d) b a
    |_=>False
   | .string _,n=>match v with
    | .string g=>ap P (n g) b a
    |_=>False
   | .slice _ _ _,n=>match v with
    | .slice h c i=>ap P (n h c i) b a
    |_=>False
   | .pointer (some _),n=>match v with
    | .pointer (some ⟨d,j,none⟩)=>ap P (n d j) b a
    |_=>False
   | .pointer none,n=>match v with
    | .pointer k=>ap P (n k) b a
    |_=>False
   | .map _,n=>match v with
    | .map l=>ap P (n l) b a
    |_=>False
   | .float _ _,n=>ap P (n v) b a
   | .complex _ _ _,n=>ap P (n v) b a
   | .chan _,n=>ap P (n v) b a
   | .func _ _ _,n=>ap P (n v) b a
   | .nilFunc,n=>ap P (n v) b a
   | .iface _ _,n=>ap P (n v) b a
   | .nilIface,n=>ap P (n v) b a
   | .agg _,n=>ap P (n v) b a
   | .tuple _,n=>ap P (n v) b a
def ny:List Value->(List Value->Prop)->Prop
 |[],P=>P []
 |z::a,P=>match z with
  | .int d _=>∀b,ny a λn=>P (.int d b::n)
  | .bool _=>∀c,ny a λn=>P (.bool c::n)
  | .string _=>∀e,ny a λn=>P (.string e::n)
  | .slice _ _ _=>∀f b g,ny a λn=>P (.slice f b g::n)
  | .pointer (some _)=>∀c h,ny a λn=>P (.pointer (some ⟨c,h,none⟩)::n)
  | .pointer none=>∀i,ny a λn=>P (.pointer i::n)
  | .map _=>∀j,ny a λn=>P (.map j::n)
  |_=>∀k,ny a λn=>P (k::n)
def ap.all:∀{f:List Value} {h:Fn f (World->Prop)} {d:List Value} {i:World} {φ:List Value->Prop},d.length=f.length->ap f h d i->ny f φ->φ d
 |[],h,d,i,φ,g,_,c=>by
  cases d with
  |nil=>exact c
  |cons e d=>simp at g
 |z::f,h,d,i,φ,g,n,c=>by
  cases d with
  |nil=>simp at g
  |cons e d=>
   have a:d.length=f.length:=by simpa using g
   cases z
   case pointer r=>
    cases r with
    |none=>
     simp only[ny]at c
     cases e<;>try exact n.elim
     rename_i P;exact ap.all (φ:=λb=>φ (.pointer P::b)) a n (c P)
    |some _=>
     simp only[ny]at c
     cases e<;>try exact n.elim
     rename_i P
     cases P with
     |none=>exact n.elim
     |some P=>
      obtain⟨j,l,m⟩:=P
      cases m with
      |some m=>exact n.elim
      |none=>exact ap.all (φ:=λb=>φ (.pointer (some ⟨j,l,none⟩)::b)) a n (c j l)
   all_goals simp only[ny]at c
   case int k _=>
    cases e<;>try exact n.elim
    rename_i s o;obtain⟨t,n⟩:=eO.out n;obtain rfl:=of_decide_eq_true t;exact ap.all (φ:=λb=>φ (.int s o::b)) a n (c o)
   case bool=>
    cases e<;>try exact n.elim
    rename_i P;exact ap.all (φ:=λb=>φ (.bool P::b)) a n (c P)
   case string=>
    cases e<;>try exact n.elim
    rename_i P;exact ap.all (φ:=λb=>φ (.string P::b)) a n (c P)
   case slice=>
    cases e<;>try exact n.elim
    rename_i P p q;exact ap.all (φ:=λb=>φ (.slice P p q::b)) a n (c P p q)
   case map=>
    cases e<;>try exact n.elim
    rename_i P;exact ap.all (φ:=λb=>φ (.map P::b)) a n (c P)
   all_goals exact ap.all (φ:=λb=>φ (e::b)) a n (c e)
def Jy:Cp b5 a=true↔a∈b5:=by
 induction b5 with
 |nil=>simp[Cp]
 |cons n b P=>
  unfold Cp
  cases h:Nat.beq n a with
  |true=>
   have:=Nat.eq_of_beq_eq_true h;simp[this]
  |false=>
   have:n≠a:=by rintro rfl;simp at h
   simp only[P,List.mem_cons];constructor
   ·exact .inr
   ·rintro(rfl|h)
    ·exact absurd rfl this
    ·exact h
def fu.out{d:List Nat}:∀{k:cP} {f:cP->Prop},fu d k f->∃b,(∀P n,n∉d->get P b n=get P k n)/\(∀P n,n∈d->get P b n=P n)/\f b
 |[],f,a=>⟨[],λ_ _ _=>rfl,λ_ _ _=>rfl,a⟩
 |(h,l)::m,f,a=>by
  unfold fu at a;split at a
  ·rename_i g
   have e:h∈d:=Jy.1 g;obtain⟨b,i,j,a⟩:=fu.out a;refine⟨b,λP n c=>?_,j,a⟩;rw[i P n c,ej,if_neg (by rintro rfl;exact c e)]
  ·rename_i g
   have e:h∉d:=λe=>by rw[Jy.2 e]at g;cases g
   obtain⟨b,i,j,a⟩:=fu.out a;refine⟨(h,l)::b,λP n c=>?_,λP n c=>?_,a⟩
   ·rw[ej,ej,i P n c]
   ·rw[ej,if_neg (by rintro rfl;exact e c),j P n c]
def jj:List (Nat×Value)->List Value
 |[]=>[]
 |(_,n)::P=>n::jj P
def Ak(n:ck)(P:cP):List (Nat×Value)->List Value
 |[]=>[]
 |(a,_)::b=>get n P a::Ak n P b
def yP:List (Nat×Value)->List Value->cP->cP
 |(P,_)::a,b::c,n=>(P,b)::yP a c n
 |_,_,n=>n
def kp(n:ck)(P:cP):∀a,(Ak n P a).length=(jj a).length
 |[]=>rfl
 |(_,_)::b=>by simp[Ak,jj,kp n P b]
def Fc(a:ck)(P:Nat->Value)(b:cP):∀(f:List (Nat×Value)) (n:Nat),(∀g,get a b g=P g)->get a (yP f (f.map λc=>P c.1) b) n=P n
 |[],n,d=>d n
 |(h,j)::e,n,d=>by
  show get a ((h,P h)::yP e (e.map λc=>P c.1) b) n=_;rw[ej];split
  ·rename_i i;rw[i]
  ·exact Fc a P b e n d
def AF(n:ck)(P:cP):∀a,Ak n P a=a.map λb=>get n P b.1
 |[]=>rfl
 |(_,_)::c=>by simp[Ak,AF n P c]
def Cq(n P:List Deferred)(a:Prop):Prop:=match n,P with
 |[],[]=>a
 |n,P=>n=P/\a
def Cq.out{n a:List Deferred}(P:Cq n a L):n=a/\L:=by
 unfold Cq at P;split at P
 ·exact⟨rfl,P⟩
 ·exact P
def Cr(d:ck->cP->List Deferred->World->Prop)(c:iP):iP:=λe n P a b=>match e with
 | .normal=>d n P a b
 | .exit id=>c (.exit id) n P a b
 | .goto f=>c (.goto f) n P a b
 | .ret=>c .ret n P a b
 | .panic g=>c (.panic g) n P a b
 | .outgrown=>False
def x_(id:Nat)(n:iP):iP:=λe P a b c=>match e with
 | .exit d=>match Nat.beq d id with
  |true=>n .normal P a b c
  |false=>n (.exit d) P a b c
 | .normal=>n .normal P a b c
 | .goto f=>n (.goto f) P a b c
 | .ret=>n .ret P a b c
 | .panic g=>n (.panic g) P a b c
 | .outgrown=>False
def Ho(n:iP):iP:=λx P a b c=>match x with
 | .goto _=>False
 |x=>n x P a b c
def D(g:Program)(h:lA):Code->iP->ck->cP->List Deferred->World->Prop
 | .skip,d,b,n,P,a=>d .normal b n P a
 | .label _,d,b,n,P,a=>d .normal b n P a
 | .exit id,d,b,n,P,a=>d (.exit id) b n P a
 | .ret,d,b,n,P,a=>d .ret b n P a
 | .region id c m,d,b,n,P,a=>match m with
  |false=>Ci g b c d c.toList (λn P a=>d .normal b n P a) n P a
  |true=>match NM g c.toList with
   |false=>eO (Region.lexB .any c) (tF g b c c.toList (λn=>∀e,cf a e->d .normal b n P e) n a)
   |true=>eO (Region.noSelect c) (match VH h.Yb id with
    |none=>match Cp h.keeps id with
     |true=>∀e,cf a e->∃f:Nat->Prop,wH g b c true f (λi P a=>∀b n,d (.panic i) b n P a) (λn P a=>d .normal b n P a) (λ_=>!Cp h.NG id) c.size (Array.replicate c.size false) n P e
     |false=>∀e,cf a e->wH g b c false (λ_=>False) (λi P a=>∀b n,d (.panic i) b n P a) (λn P a=>d .normal b n P a) (λ_=>true) c.size (Array.replicate c.size false) n P e
    |some r=>eO (r.ok g c) (match Cp h.keeps id with
     |true=>match Cp h.NG (1000000+id)with
      |true=>∀e,cf a e->∃f:Nat->Prop,pF g b c r c.size (λi P a=>∀b n,d (.panic i) b n P a) (λn P a=>d .normal b n P a) f (λ_=>false) c.size 0 n P e
      |false=>∀e,cf a e->∃f:Nat->Prop,tI g b c r c.size true f (λi P a=>∀b n,d (.panic i) b n P a) (λn P a=>d .normal b n P a) (λ_=>!Cp h.NG id) c.size 0 n P e
     |false=>∀e,cf a e->tI g b c r c.size false (λ_=>False) (λi P a=>∀b n,d (.panic i) b n P a) (λn P a=>d .normal b n P a) (λ_=>true) c.size 0 n P e))
 | .seq o p,d,b,n,P,a=>match PF h.Sh (key p)with
  |none=>D g h o (Cr (λb n P a=>D g h p d b n P a) d) b n P a
  |some f=>∃w:Fn (jj f) (World->Prop),D g h o (Cr (λk t l e=>Cq l P (ap (jj f) w (Ak k t f) e)) d) b n P a/\
    fu (writes o) n λu=>ny (jj f) λq=>∀(k:ck) (e:World),ap (jj f) w q e->D g h p d k (yP f q u) P e
 | .cond j o p,d,b,n,P,a=>match ev b n j with
  | .bool y=>al y (D g h o d b n P a) (D g h p d b n P a)
  |_=>False
 | .block id j,d,b,n,P,a=>D g h j (x_ id d) b n P a
 | .scope j,d,b,n,P,a=>D g h j (Ho d) b n P a
 | .loop j,d,b,n,P,a=>match PF h.loops (key j)with
  |none=>False
  |some f=>∃v:Nat->Fn (jj f) (World->Prop),(∃s,ap (jj f) (v s) (Ak b n f) a)/\
    ∀s,fu (writes j) n λu=>ny (jj f) λq=>∀(k:ck) (e:World),ap (jj f) (v s) q e->
     D g h j (Cr (λk t l e=>Cq l P (∃x,x<s/\ap (jj f) (v x) (Ak k t f) e)) d) k (yP f q u) P e
 |_,_,_,_,_,_=>False
def dj.mono{e f:ck}{g h:cP}{i d:List Nat}{j k:iP}(o:dj a f h i j e4 I b)(p:∀n,n∈i->n∈d)(q:∀n,n∉d->get f h n=get e g n)(r:∀P c l b,j e4 P c l b->k e4 P c l b):dj a e g d k e4 I b:=by
 obtain⟨P,c,s,t,u⟩:=o;exact⟨P,c,s,λn m=>(t n (λv=>m (p n v))).trans (q n m),r _ _ _ _ u⟩
def Jz{e c:ck}{P:Value}{a:Nat}:∀{d:cP},get e d a=P->c a=P->get c d a=P
 |[],_,n=>n
 |(g,h)::i,n,f=>by
  rw[ej]at n⊢;split
  ·rename_i b;rw[if_pos b]at n;exact n
  ·rename_i b;rw[if_neg b]at n;exact Jz n f
def wK{n:Nat}{B0:ck}{f b:cP}(d:List (Nat×Value))(g:I.tmps.size=n)(h:∀a P,P∉b5->get a b P=get a f P)(i:∀a P,P∈b5->get a b P=a P)(j:∀P,P∉b5->I.tmps.getD P undef=get B0 f P):
  Rel n (λP=>I.tmps.getD P undef) (yP d (d.map λk=>I.tmps.getD k.1 undef) b) I:=by
 refine⟨g,λP=>(Fc _ (λP=>I.tmps.getD P undef) b d P λc=>?_).symm⟩
 by_cases e:c∈b5
 ·rw[i _ c e]
 ·rw[h _ c e]
  exact Jz (j c e).symm rfl
def oC(b:Rel a V O I):∀n:List (Nat×Value),Ak V O n=n.map λP=>I.tmps.getD P.1 undef:=λn=>by
 rw[AF];exact List.map_congr_left λP _=>(b.slot P.1).symm
def ll{e:Program}{b:Array Oper}{f:World->Prop}{g h:Act->Prop}(c:∀n,g n->h n):∀(i:List Oper) (n:Act),wpQuiet e b f g i n->wpQuiet e b f h i n
 |[],n,a=>c n a
 |j::P,n,a=>by
  unfold wpQuiet at a⊢;split
  ·rename_i d
   rw[if_pos d]at a;exact Oper.quiet_mono (ll c P) a
  ·rename_i d
   rw[if_neg d]at a;exact ll c P _ a
variable{e1:lA}
def Wy(L:h.follows .mixedOrders=true):∀(x:Code) (m:iP) (c:ck) (b:cP) (g:Act) (f:World),
  (∀P,P∈writes x->P<a)->(∀I c b z f,m I c b z f->I≠.outgrown)->Rel a c b g->D h e1 x m c b g.defers f->x.wp h (dj a c b (writes x) m) g f:=by
 intro x
 induction x with
 |skip=>intro m c b g f _ _ j n;exact wp_skip ⟨c,b,j,λ_ _=>rfl,n⟩
 |label Q=>intro m c b g f _ _ j n;exact wp_label ⟨c,b,j,λ_ _=>rfl,n⟩
 |exit id=>intro m c b g f _ _ j n;exact wp_exit ⟨c,b,j,λ_ _=>rfl,n⟩
 |ret=>intro m c b g f _ _ j n;exact wp_ret ⟨c,b,j,λ_ _=>rfl,n⟩
 |goto Q=>intro m c b g f _ _ j n;exact n.elim
 |refuse sD=>intro m c b g f _ _ j n;exact n.elim
 |scope x S=>
  intro m c b g f w B j n;refine wp_scope_straight (Code.wp_mono ?_ (S (Ho m) c b g f w (by intro o c b z f d M;subst M;exact B _ _ _ _ _ d rfl) j n));intro o p r l;obtain⟨t,s,u,v,d⟩:=l
  cases o with
  |goto Q=>exact d.elim
  |normal=>exact⟨t,s,u,v,d⟩
  |exit id=>exact⟨t,s,u,v,d⟩
  |ret=>exact⟨t,s,u,v,d⟩
  |panic A=>exact⟨t,s,u,v,d⟩
  |outgrown=>exact⟨t,s,u,v,d⟩
 |rangeFunc d5 ps I a0 d6 d7=>intro m c b g f _ _ j n;exact n.elim
 |region id i J=>
  intro m c b g f w _ j n;have T:∀U∈i.toList,∀V,U.dst=some V->V<a/\V∈writes (.region id i J):=λU R V hd=>⟨w V (lC R hd),lC R hd⟩
  have a1:∀a4 P,jB i a4=some P->P<a:=by
   intro a4 P W;unfold jB at W
   cases R:i[a4]? with
   |none=>rw[R]at W;simp at W
   |some U=>
    rw[R]at W;have c4:U∈i.toList:=by
     have:=Array.getElem?_eq_some_iff.1 R;obtain⟨b3,rfl⟩:=this;simp
    exact(T U c4 P W).1
  cases J with
  |false=>exact wp_region_list (AE a1 i.toList b g f T j (λ_ _=>rfl) n)
  |true=>
   unfold D at n;simp only at n;split at n
   ·obtain⟨hB,n⟩:=eO.out n
    refine wp_region_quiet (C:=cf f) L hB ⟨1,rfl⟩ ?_;have:=rN (B0:=c) (e0:=b) (W:=writes (.region id i true)) a1 i.toList b g T j (λ_ _=>rfl) n;refine ll ?_ _ _ this;rintro p ⟨e',a5,a6,c5,d⟩ r a7;exact⟨c,e',a5,c5,by rw[a6];exact d r a7⟩
   ·obtain⟨b4,n⟩:=eO.out n
    have C:∀(K:Bool) (q:Nat->Prop) (a8:Nat->Bool),wH h c i K q (λA z f=>∀c b,m (.panic A) c b z f) (λb z f=>m .normal c b z f) a8 i.size (Array.replicate i.size false) b g.defers (f.drewN 1)->(Code.region id i true).wp h (dj a c b (writes (.region id i true)) m) g f:=λK q a8 n=>
     wp_region_any L (jU (λA g f n=>rR.post A g f n) (λ_ _ n=>n) _ _ _ _ _ (mV (B0:=c) (e0:=b) (W:=writes (.region id i true)) a1 b4 T a8 _ _ b g _ j (λ_ _=>rfl) n))
    split at n
    ·split at n
     ·obtain⟨q,n⟩:=n _ ⟨1,rfl⟩
      exact C _ q _ n
     ·exact C _ _ _ (n _ ⟨1,rfl⟩)
    ·obtain⟨hM,n⟩:=eO.out n
     split at n
     ·split at n
      ·obtain⟨q,n⟩:=n _ ⟨1,rfl⟩
       rw[xZ hM _ _ _ (Dh.init _)]at n;exact wp_region_any L (jU (λA g f n=>rR.post A g f n) (λ_ _ n=>n) _ _ _ _ _ (lV (B0:=c) (e0:=b) (W:=writes (.region id i true)) a1 b4 T q _ _ _ b g _ j (λ_ _=>rfl) n))
      ·obtain⟨q,n⟩:=n _ ⟨1,rfl⟩
       rw[rV hM _ _ (Dh.init _)]at n;exact C _ q _ n
     ·have n:=n _ ⟨1,rfl⟩
      rw[rV hM _ _ (Dh.init _)]at n;exact C _ _ _ n
 |seq I a0 E F=>
  intro m c b g f w B j n;have b5:∀P,P∈writes I->P<a:=λP k=>w P (List.mem_append.2 (.inl k));have b6:∀P,P∈writes a0->P<a:=λP k=>w P (List.mem_append.2 (.inr k));have e:∀(X:ck->cP->List Deferred->World->Prop) (o:Exit) (p:Act) (r:World),o≠.normal->dj a c b (writes I) (Cr X m) o p r->dj a c b (writes (I.seq a0)) m o p r:=by
   intro X o p r c6 l;refine l.mono (λP k=>List.mem_append.2 (.inl k)) (λ_ _=>rfl) λt s d8 w1 d=>?_
   cases o with
   |normal=>exact absurd rfl c6
   |outgrown=>exact d.elim
   |_=>exact d
  have b7:∀(X:ck->cP->List Deferred->World->Prop) o c b z f,Cr X m o c b z f->o≠.outgrown:=by
   intro X o c b z f d M;subst M;exact d.elim
  unfold D at n;split at n
  ·have hx:=E _ c b g f b5 (b7 _) j n
   refine wp_seq (Code.wp_mono ?_ hx);intro o p r l
   cases o with
   |normal=>
    obtain⟨t,s,u,v,d⟩:=l;have hy:=F m t s p r b6 B u d;refine Code.wp_mono (λo b8 b9 l=>?_) hy;refine l.mono (λP k=>List.mem_append.2 (.inr k)) (λP k=>v P λL=>k (List.mem_append.2 (.inl L))) λ_ _ _ _ d=>d
   |exit id=>exact e _ _ _ _ (by simp) l
   |goto Q=>exact e _ _ _ _ (by simp) l
   |ret=>exact e _ _ _ _ (by simp) l
   |panic A=>exact e _ _ _ _ (by simp) l
   |outgrown=>exact e _ _ _ _ (by simp) l
  ·rename_i q hS
   obtain⟨d9,n,a9⟩:=n;obtain⟨s,h1,h2,a9⟩:=fu.out a9;have hx:=E _ c b g f b5 (b7 _) j n;refine wp_seq (Code.wp_mono ?_ hx);intro o p r l
   cases o with
   |normal=>
    obtain⟨N,O,y,a2,d⟩:=l;obtain⟨a3,hJ⟩:=Cq.out d;have hv:=oC y q;have b0:=kp N O q;have c0:=ap.all b0 hJ a9 (λP=>p.tmps.getD P undef) r hJ;rw[hv,<-a3]at c0;have c1:=wK (n:=a) q y.size h1 h2 (B0:=c) (λP k=>(y.slot P).trans (a2 P k));have hy:=F m _ _ p r b6 B c1 c0;refine Code.wp_mono (λo b8 b9 l=>?_) hy;refine l.mono (λP k=>List.mem_append.2 (.inr k)) (λP k=>?_) λ_ _ _ _ d=>d;rw[<-c1.slot];exact(y.slot P).trans (a2 P λL=>k (List.mem_append.2 (.inl L)))
   |exit id=>exact e _ _ _ _ (by simp) l
   |goto Q=>exact e _ _ _ _ (by simp) l
   |ret=>exact e _ _ _ _ (by simp) l
   |panic A=>exact e _ _ _ _ (by simp) l
   |outgrown=>exact e _ _ _ _ (by simp) l
 |cond x I a0 E F=>
  intro m c b g f w B j n;unfold D at n;split at n
  ·rename_i c7 H
   refine wp_cond_split (t:=c7) (by rw[j.eval];exact H) (λk=>?_) (λhf=>?_)
   ·subst k
    refine Code.wp_mono (λo p r l=>?_) (E m c b g f (λP k=>w P (List.mem_append.2 (.inl k))) B j n);exact l.mono (λP k=>List.mem_append.2 (.inl k)) (λ_ _=>rfl) λ_ _ _ _ d=>d
   ·subst hf
    refine Code.wp_mono (λo p r l=>?_) (F m c b g f (λP k=>w P (List.mem_append.2 (.inr k))) B j n);exact l.mono (λP k=>List.mem_append.2 (.inr k)) (λ_ _=>rfl) λ_ _ _ _ d=>d
  ·exact n.elim
 |block id x S=>
  intro m c b g f w B j n;refine wp_block (Code.wp_mono ?_ (S (x_ id m) c b g f w (by intro o c b z f d M;subst M;exact d.elim) j n));intro o p r l;obtain⟨t,s,u,v,d⟩:=l
  cases o with
  |exit Y=>
   show(if Y=id then _ else _);simp only[x_]at d
   cases H:Nat.beq Y id with
   |true=>
    rw[H]at d;rw[if_pos (Nat.eq_of_beq_eq_true H)];exact⟨t,s,u,v,d⟩
   |false=>
    rw[H]at d;rw[if_neg (by rintro rfl;simp at H)];exact⟨t,s,u,v,d⟩
  |normal=>exact⟨t,s,u,v,d⟩
  |goto Q=>exact⟨t,s,u,v,d⟩
  |ret=>exact⟨t,s,u,v,d⟩
  |panic A=>exact⟨t,s,u,v,d⟩
  |outgrown=>exact d.elim
 |loop x S=>
  intro m c b g f w B j n;unfold D at n;split at n
  ·exact n.elim
  ·rename_i q hS
   obtain⟨c8,⟨m0,h0⟩,c9⟩:=n;refine wp_loop_ghost (λb1 p r=>p.tmps.size=a/\(∀P,P∉writes x->p.tmps.getD P undef=get c b P)/\p.defers=g.defers/\
    ap (jj q) (c8 b1) (q.map λb2=>p.tmps.getD b2.1 undef) r) m0 ⟨j.size,λP _=>j.slot P,rfl,by rw[<-oC j q];exact h0⟩ ?_
   rintro b1 p r ⟨d0,c2,a3,hI⟩;obtain⟨s,h1,h2,d1⟩:=fu.out (c9 b1);have b0:(q.map λb2=>p.tmps.getD b2.1 undef).length=(jj q).length:=by rw[<-kp c b q,AF];simp
   have H:=ap.all b0 hI d1 (λP=>p.tmps.getD P undef) r hI;have c3:=wK (n:=a) q d0 h1 h2 c2;rw[<-a3]at H;have d2:=S _ _ _ p r w (by intro o c b z f d M;subst M;exact d.elim) c3 H;refine Code.wp_mono ?_ d2;intro o b8 b9 l;obtain⟨N,O,y,a2,d⟩:=l;have Z:∀P,P∉writes x->get N O P=get c b P:=λP k=>(a2 P k).trans ((c3.slot P).symm.trans (c2 P k))
   cases o with
   |normal=>
    obtain⟨d3,m',b3,d4⟩:=Cq.out d;refine⟨m',b3,y.size,λP k=>(y.slot P).trans (Z P k),d3.trans a3,?_⟩;rw[<-oC y q];exact d4
   |outgrown=>exact d.elim
   |exit id=>exact⟨N,O,y,Z,d⟩
   |goto Q=>exact⟨N,O,y,Z,d⟩
   |ret=>exact⟨N,O,y,Z,d⟩
   |panic A=>exact⟨N,O,y,Z,d⟩
def JA(n:Program):List ResultVar->ck->cP->World->(List Value->Prop)->Prop
 |[],_,_,_,P=>P []
 |g::f,a,b,d,P=>match g with
  | .tmp c=>JA n f a b d λe=>P (get a b c::e)
  | .cell h c=>eO (known n c) (jW n c (get a b h) d λi=>JA n f a b d λe=>P (i::e))
def oneOf(n:List Value):Value:=match n with
 |[P]=>P
 |n=>.tuple n.toArray
def Lv(c:Program)(n:World->Prop)(e:List PanicEntry->World->Prop):List Deferred->FrameMode->World->Prop
 |[],.returning,a=>n a
 |[],.panicking P,a=>e P a
 |[],.run,_=>False
 |d::g,h,a=>h≠.run/\∃f b,d.target= .fn (.func f) b/\enters c f=true/\
   CallsD c f (d.args++b) h a λk i j=>Sv k (λ_=>Lv c n e g (settle i) j) (λl=>Lv c n e g (raised i l) j)
def g_(P:Program)(b:Func)(c:ck)(d:cP)(a:Ending->World->Prop)(e:List Deferred)(f:FrameMode)(n:World):Prop:=
 Lv P (λn=>JA P b.results.toList c d n λg=>a (.returned (oneOf g)) n) (λh n=>a (.panicked h) n) e f n
def Ug(n:Program)(P:Func)(a:Ending->World->Prop):iP:=λf b c d e=>match f with
 | .normal=>g_ n P b c a d .returning e
 | .ret=>g_ n P b c a d .returning e
 | .panic g=>g_ n P b c a d (.panicking g) e
 |_=>False
def Cs(n:Array Value):ResultVar->Sem Value
 | .tmp P=>pure (n.getD P undef)
 | .cell a P=>do loadVar P (<-asAddr (n.getD a undef))
def rW{c:Program}{k:ck}{l:cP}{p:Nat}{b:Act}(d:Rel p k l b){a:World}:∀{g:List ResultVar} {e:List Value->Prop},JA c g k l a e->
  ∃f,(g.mapM (Cs b.tmps)).run c a=Result.ok f a/\e f
 |[],e,n=>⟨[],by rw[List.mapM_nil];rfl,n⟩
 |q::g,e,n=>by
  unfold JA at n
  cases q with
  |tmp h=>
   obtain⟨f,i,n⟩:=rW d n;refine⟨_,?_,n⟩;rw[List.mapM_cons];simp only[Cs,Sem.run_bind,Sem.run_pure,Result.andThen_ok,i,d.slot]
  |cell j h=>
   obtain⟨r,n⟩:=eO.out n;obtain⟨s,t,n⟩:=jW.out (known.out r).1 n;obtain⟨f,i,n⟩:=rW d n;refine⟨_,?_,n⟩;rw[List.mapM_cons];have P:=t a rfl;rw[<-d.slot]at P;have:(Cs b.tmps (.cell j h)).run c a= .ok s a:=by
    unfold Cs
    cases m:b.tmps.getD j undef<;>rw[m]at P<;>simp only[Instr.loadAt,Instr.sureAddr,stuck,Sem.run_bind,Sem.run_halt,Result.andThen,reduceCtorEq]at P
    rename_i o
    cases o with
    |none=>simp at P
    |some o=>
          show(do loadVar h (<-asAddr (b.tmps.getD j undef)):Sem Value).run c a=_;rw[m];simpa[asAddr]using P
   simp only[Sem.run_bind,this,Sem.run_pure,Result.andThen_ok,i]
def rX(P:(a7.results.toList.mapM (Cs I.tmps)).run h b=Result.ok a4 b):(results a7 I.tmps).run h b= .ok (oneOf a4) b:=by
 have a:(a7.results.mapM (Cs I.tmps)).run h b=Result.ok a4.toArray b:=by
  rw[Array.mapM_eq_mapM_toList,Sem.run_map,P]
  rfl
 have c:(results a7 I.tmps)=(a7.results.mapM (Cs I.tmps)>>=λn=>pure (if P:n.size=1 then n[0]else Value.tuple n)):=by
   unfold results
   congr 2
 rw[c];simp only[Sem.run_bind,a,Result.andThen_ok,Sem.run_pure]
 congr 1
 match a4 with
 |[]=>rfl
 |[v]=>rfl
 |v::d::e=>
  rw[dif_neg (by simp)]
  rfl
def oD{h:Program}{i:Func}{j:ck}{k:cP}{r:Nat}{l:Act}(e:Rel r j k l){m:Ending->World->Prop}:∀(a:List Deferred) (f:FrameMode) (P:World),
  g_ h i j k m a f P->Leaves h i l.tmps m a f P
 |[],.returning,P,n=>by
  obtain⟨C,s,n⟩:=rW e n;exact⟨_,rX s,n⟩
 |[],.panicking t,P,n=>n
 |[],.run,P,n=>n.elim
 |d::a,f,P,n=>by
  obtain⟨u,o,b,p,v,w⟩:=n;refine⟨u,.func o,b,o,d.args++b,p,?_,?_⟩
  ·rw[p];simp only[invoke];exact ji v _ _
  ·intro x cs y
   obtain⟨q,z,A,B,g,c⟩:=w x cs y;refine⟨q,z,A,B,?_,c⟩
   cases q with
   |returned E=>exact oD e a _ _ g
   |panicked t=>exact oD e a _ _ g
   |outgrown=>exact g.elim
def fC:Nat->List Value->cP
 |_,[]=>[]
 |n,P::a=>(n,P)::fC (n+1) a
def pG:∀(a:List Value) (n P:Nat),get (λ_=>undef) (fC n a) P=if n<=P then a.getD (P-n) undef else undef
 |[],n,P=>by simp[fC,get]
 |v::d,n,P=>by
  rw[fC,ej,pG d (n+1) P]
  by_cases b:n=P
  ·subst b;simp
  ·rw[if_neg b]
   by_cases c:n+1<=P
   ·rw[if_pos c,if_pos (by omega),show P-n=(P-(n+1))+1 from by omega];rfl
   ·rw[if_neg c,if_neg (by omega)]
def vx(n:Nat):List Nat->Bool
 |[]=>true
 |d::P=>match Nat.blt d n with
  |true=>vx n P
  |false=>false
def lY{b:Nat}:∀{c:List Nat},vx b c=true->∀n,n∈c->n<b
 |[],_,n,P=>by cases P
 |d::f,a,n,P=>by
  unfold vx at a;split at a
  ·rename_i e
   cases P with
   |head=>
        have:d+1<=b:=by simpa[Nat.blt]using e
        omega
   |tail _ P=>exact lY a n P
  ·cases a
def sw(e:lA)(f:h.follows .mixedOrders=true)(g:h.funcs[z]? =some a7)(i:a7.body=some a2)(r:m.size<=a7.ntmps)(j:vx a7.ntmps (writes a2)=true)(k:D h e a2 (Ug h a7 A) (λ_=>undef) (fC 0 m.toList) [] b):Calls h z m b A:=by
 refine calls_of_wp_defers g i ?_;have l:Rel a7.ntmps (λ_=>undef) (fC 0 m.toList) {tmps:=m++Array.replicate (a7.ntmps-m.size) undef,defers:=[]}:=by
  refine⟨by simp;omega,λa=>?_⟩;rw[pG,if_pos (Nat.zero_le _),Nat.sub_zero];simp only[Array.getD_eq_getD_getElem?,List.getD_eq_getElem?_getD,Array.getElem?_append,Array.getElem?_toList]
  by_cases c:a<m.size
  ·simp[c]
  ·rw[if_neg c]
   simp only[Array.getElem?_replicate];have:m[a]? =none:=by simp;omega
   rw[this];split<;>rfl
 refine Code.wp_mono ?_ (Wy f a2 (Ug h a7 A) _ _ _ b (lY j) (by intro d o p s b n q;subst q;exact n.elim) l k);rintro d t u ⟨o,p,P,_,n⟩
 cases d with
 |normal=>exact oD P _ _ _ n
 |ret=>exact oD P _ _ _ n
 |panic v=>exact oD P _ _ _ n
 |exit id=>exact n.elim
 |goto w=>exact n.elim
 |outgrown=>exact n.elim
def Fe(b:Program)(c:Func)(n:Ending->World->Prop):iP:=λf d e P a=>match f with
 | .normal=>(match P with
  |[]=>g_ b c d e n [] .returning a
  |_=>False)
 | .ret=>(match P with
  |[]=>g_ b c d e n [] .returning a
  |_=>False)
 | .panic g=>(match P with
  |[]=>n (.panicked g) a
  |_=>False)
 |_=>False
def Fe.out{P:Program}(j:Rel a V O I)(n:Fe P a7 A e4 V O I.defers b):
  I.defers=[]/\((e4= .normal\/e4= .ret)/\(∃c,(results a7 I.tmps).run P b= .ok c b/\A (.returned c) b)\/∃h,e4= .panic h/\A (.panicked h) b):=by
 have d:∀e,I.defers=e->(match e with
  |[]=>g_ P a7 V O A [] .returning b
  |_=>False)->e=[]/\∃c,(results a7 I.tmps).run P b= .ok c b/\A (.returned c) b:=by
  intro e i n;split at n
  ·obtain⟨l,k,n⟩:=rW j n
   exact⟨rfl,_,rX k,n⟩
  ·exact n.elim
 unfold Fe at n;split at n
 ·obtain⟨f,g⟩:=d _ rfl n
  exact⟨f,.inl ⟨.inl rfl,g⟩⟩
 ·obtain⟨f,g⟩:=d _ rfl n
  exact⟨f,.inl ⟨.inr rfl,g⟩⟩
 ·split at n
  ·rename_i i
   exact⟨i,.inr ⟨_,rfl,n⟩⟩
  ·exact n.elim
 ·exact n.elim
def ye(c:m.size<=a)(b:List Deferred):Rel a (λ_=>undef) (fC 0 m.toList) {tmps:=m++Array.replicate (a-m.size) undef,defers:=b}:=by
 refine⟨by simp;omega,λn=>?_⟩;rw[pG,if_pos (Nat.zero_le _),Nat.sub_zero];simp only[Array.getD_eq_getD_getElem?,List.getD_eq_getElem?_getD,Array.getElem?_append,Array.getElem?_toList]
 by_cases P:n<m.size
 ·simp[P]
 ·rw[if_neg P]
  simp only[Array.getElem?_replicate];have:m[n]? =none:=by simp;omega
  rw[this];split<;>rfl
def Bs(e:lA)(f:h.follows .mixedOrders=true)(g:h.funcs[z]? =some a7)(i:a7.body=some a2)(j:m.size<=a7.ntmps)(k:vx a7.ntmps (writes a2)=true)(n:D h e a2 (Fe h a7 A) (λ_=>undef) (fC 0 m.toList) [] b):CallsD h z m b1 b λP l d=>l=b1/\A P d:=by
 refine callsD_of_wp g i (Code.wp_mono ?_ (Wy f a2 (Fe h a7 A) _ _ _ b (lY k) (by intro o p P s b a q;subst q;exact a.elim) (ye j []) n));rintro o t d ⟨p,P,r,_,a⟩;obtain⟨c,(⟨rfl|rfl,n⟩|⟨u,rfl,n⟩)⟩:=a.out r
 ·exact⟨c,n⟩
 ·exact⟨c,n⟩
 ·exact⟨c,n⟩
def uq:FrameMode->Value
 | .panicking ({v,recovered:=false,goexit:=false}::_)=>v
 |_=>.nilIface
def iZ:FrameMode->FrameMode
 | .panicking ({v,recovered:=false,goexit:=false}::older)=>.panicking ({v,recovered:=true}::older)
 |u=>u
def Mw{P:Frame}{cs:List Frame}(d:P.mode=b1):recoverD (P::cs)=some (uq b1,{P with mode:=iZ b1}::cs)\/(recoverD (P::cs)=none/\uq b1= .nilIface/\iZ b1=b1):=by
 subst d;unfold recoverD;simp only;split
 ·rename_i a
  left;rw[a]
  rfl
 ·rename_i c
  right;refine⟨rfl,?_,?_⟩
  ·unfold uq
   split
   ·rename_i b n a;exact absurd a (c b n)
   ·rfl
  ·unfold iZ
   split
   ·rename_i b n a;exact absurd a (c b n)
   ·rfl
def RO(t:lA){id:Nat}{d:Tmp}{e:Array TypeId}(u:h.follows .mixedOrders=true)(v:h.funcs[z]? =some a7)(w:a7.body=some (.seq (.region id #[R] false) a2))(x:R.op= .call {callee:=.builtin .recover,args:= #[],argTypes:=e})(a:R.dst=some d)(y:R.guard=none)(A:Nat.blt d a7.ntmps=true)(B:m.size<=a7.ntmps)(C:vx a7.ntmps (writes a2)=true)(c:D h t a2 (Fe h a7 λf k=>i0 f (iZ b1) k) (λ_=>undef) ((d,uq b1)::fC 0 m.toList) [] b):CallsD h z m b1 b i0:=by
 refine callsD_of_wpS v w λn cs l=>wpS_seq (wpS_region ?_);have E:∀o:Act,(execOp o.eval R).run h b= .ok .recover b:=λo=>by simp[execOp,x,resolve,invoke,builtin]
 have F:∀p,Region.wanted R p=true:=λp=>by simp[Region.wanted,y]
 have H:d+1<=a7.ntmps:=by simpa[Nat.blt]using A
 have q:∀(g:Value) (P:List Frame),g=uq b1->P={n with mode:=iZ b1}::cs->
   a2.wpS h (bodyPostS h a7 n cs i0) (({tmps:=m++Array.replicate (a7.ntmps-m.size) undef,defers:=[]}:Act).put R.dst g) P b:=by
  rintro g P rfl rfl;refine wpS_of_wp ?_;have r:=(ye B []).put R.dst (λO s=>by rw[a]at s;exact(Option.some.inj s)▸H) (uq b1);rw[a]at r⊢;refine Code.wp_mono ?_ (Wy u a2 _ _ _ _ b (lY C) (by intro I J f Q b i K;subst K;exact i.elim) r c);rintro I S k ⟨J,f,L,_,i⟩;obtain⟨a,(⟨rfl|rfl,c⟩|⟨T,rfl,c⟩)⟩:=i.out L
  ·exact⟨a,_,rfl,c⟩
  ·exact⟨a,_,rfl,c⟩
  ·exact⟨a,_,rfl,c⟩
 simp only[show(List.range (#[R]:Array Oper).size)=[0]from rfl,wpOpsS,List.getElem?_toArray,List.getElem?_cons_zero,F,if_true,E];rcases Mw (cs:=cs) l with j|⟨j,M,N⟩
 ·rw[j]
  exact q _ _ rfl rfl
 ·rw[j]
  exact q _ _ M.symm (by rw[N,<-l])
def GH(n:IntKind)(P a:Int):Int:=n.wrap (BitVec.ofInt n.bits P&&&BitVec.ofInt n.bits a).toNat
def RP(n:IntKind)(P a:Int):Int:=n.wrap (BitVec.ofInt n.bits P|||BitVec.ofInt n.bits a).toNat
def qX(n:IntKind)(P a:Int):Int:=n.wrap (BitVec.ofInt n.bits P ^^^ BitVec.ofInt n.bits a).toNat
def wi(n:IntKind)(P a:Int):Int:=n.wrap (BitVec.ofInt n.bits P&&& ~~~BitVec.ofInt n.bits a).toNat
def Mi(n:IntKind)(P a:Int):Int:=n.wrap (P*2 ^(min a.toNat n.bits))
def kH(n:IntKind)(P a:Int):Int:=P.fdiv (2 ^(min a.toNat n.bits))
def oM(n:L:=by omega):L:=n
theorem dg{p:Prop}(h:p:=by dsimp only;omega):p:=h
theorem cS{p:Prop}(h:p:=by simp;omega):p:=h
def sM(n:L:=by simp):L:=n
def dC(n:L:=by decide):L:=n
def kR(n:L:=by kernel_rfl):L:=n
abbrev Qq:= @List.getElem?_eq_getElem
abbrev Qx:= @Int.toNat_natCast
abbrev Qz:= @List.take_of_length_le
abbrev Qj:= @Nat.zero_le
abbrev Qv:= @List.getElem?_eq_some_iff
abbrev Qw:= @List.take_add_one
abbrev Qk:= @Nat.lt_of_lt_of_le
abbrev Qy:= @List.length_take
abbrev QQ:= @List.getD_eq_getElem?_getD
abbrev QX:= @List.length_append
abbrev QZ:= @List.mem_of_getElem?
abbrev QJ:= @List.mem_cons_of_mem
abbrev QV:= @List.mem_cons_self
abbrev QW:= @List.eq_nil_of_length_eq_zero
abbrev QK:= @Bool.and_eq_true
abbrev QY:= @List.map_cons
abbrev Q0:= @Nat.mul_le_mul_right
abbrev Q1:= @Option.some.injEq
abbrev Q2:= @List.mem_cons
abbrev Q3:= @List.map_append
abbrev Q4:= @Nat.le_refl
abbrev Q5:= @Array.getElem?_eq_some_iff
abbrev Q6:= @List.mem_append
abbrev Q7:= @List.getElem?_eq_none
abbrev Q8:= @List.length_map
abbrev Q9:= @List.getElem?_map
abbrev Xq:= @List.length_cons
abbrev Xx:= @Nat.le_trans
abbrev Xz:= @Nat.zero_add
abbrev Xj:= @List.getElem?_set
abbrev Xv:= @decide_eq_false
abbrev Xw:= @List.getElem?_take
abbrev Xk:= @List.mem_map
abbrev Xy:= @of_decide_eq_false
abbrev XQ:= @List.append_assoc
abbrev XX:= @Value.slice.injEq
abbrev XZ:= @List.length_drop
abbrev XJ:= @Option.some.inj
abbrev XV:= @of_decide_eq_true
abbrev XW:= @List.getElem?_append_left
abbrev XK:= @Array.length_toList
abbrev XY:= @List.getElem_mem
abbrev X2:= @Nat.min_eq_left
abbrev X3:= @List.ext_getElem?
abbrev X4:= @List.drop_eq_getElem_cons
abbrev X6:= @Array.getElem?_eq_getElem
abbrev X7:= @Nat.add_mul
abbrev X8:= @List.getElem?_append_right
abbrev X9:= @Nat.eq_of_beq_eq_true
abbrev Zq:= @if_neg
abbrev Zx:= @if_pos
abbrev Zz:= @absurd
abbrev Zj:= @congrArg
abbrev Zv:= @Nat.le_of_ble_eq_true
abbrev Zw:= @List.take_succ_cons
abbrev Zk:= @decide_eq_true_eq
abbrev Zy:= @decide_eq_true
abbrev ZQ:= @List.length_nil
abbrev ZX:= @List.take_append_drop
abbrev ZZ:= @List.getElem?_cons_succ
abbrev ZJ:= @List.getElem?_cons_zero
abbrev ZV:= @List.mem_append_left
abbrev ZW:= @List.mem_append_right
abbrev ZK:= @UInt8.toNat_ofNat'
abbrev ZY:= @List.all_eq_true
abbrev WP:=Value.int .i64
abbrev RK (b:Nat):Value:=.pointer (some ⟨b,0,none⟩)
abbrev UV (b:Nat):Option Addr:=some ⟨b,0,none⟩
abbrev UK:=Nat->Prop
abbrev ac:=Value->World->Prop
abbrev am:=Ending->World->Prop
abbrev ba:=World->Prop
abbrev bc:=Option Addr

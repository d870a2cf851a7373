import Derived.Tactics
import Derived.Defers
import Derived.Recover
import Derived.Deep.Quiet
import Derived.Deep.LoopGhost
import Derived.Laws.Entries
import Derived.Laws.Tables
import Derived.Laws.Cells
import Derived.Scope
set_option linter.all false
namespace Go.aq
open Go
structure aj (S:Nat->Prop) (w w':World):Prop where
 os:w'.os=w.os
 tape:w'.tape=w.tape
 output:w'.output=w.output
 size:w.heap.size<=w'.heap.size
 block:∀k,k<w.heap.size->¬S k->w'.heap[k]? =w.heap[k]?
def get(P:Nat->Value):List (Nat×Value)->Nat->Value
 |[],n=>P n
 |(a,b)::c,n=>match Nat.beq a n with
  |true=>b
  |false=>get P c n
abbrev cU:=List (Nat×Value)
def ev(n:Nat->Value)(P:cU):Operand->Value
 | .tmp a=>get n P a
 | .const b=>b
 | .global c=>.pointer (some ⟨c,0,none⟩)
 | .func d=>.func (.func d) #[] #[]
def cA(P:cU)(n:Option Tmp)(a:Value):cU:=match n with
 |some n=>(n,a)::P
 |none=>P
structure Rel (n:Nat) (B:Nat->Value) (e:cU) (a:Act):Prop where
 size:a.tmps.size=n
 slot:∀t,a.tmps.getD t undef=aq.get B e t
def eD(a:Nat->Value)(b:cU)(P n:Nat)(c:Value):get a ((P,c)::b) n=if P=n then c else get a b n:=by
 show(match Nat.beq P n with|true=>c|false=>get a b n)=_
 by_cases d:P=n
 ·subst d;simp
 ·have:Nat.beq P n=false:=by
   cases e:Nat.beq P n
   ·rfl
   ·exact absurd (Nat.eq_of_beq_eq_true e) d
  rw[this,if_neg d]
def Rel.eval{b:Nat}{n:Nat->Value}{P:cU}{a:Act}(c:Rel b n P a):a.eval=ev n P:=by
 funext d
 cases d with
 |tmp e=>exact c.slot e
 |const f=>rfl
 |global g=>rfl
 |func h=>rfl
def Rel.put{b:Nat}{f:Nat->Value}{g:cU}{c:Act}(a:Rel b f g c)(n:Option Tmp)(h:∀P,n=some P->P<b)(d:Value):Rel b f (cA g n d) (c.put n d):=by
 cases n with
 |none=>exact a
 |some n=>
  have i:=h n rfl;refine⟨by simp[Act.put,a.size],λP=>?_⟩;show(c.tmps.setIfInBounds n d).getD P undef=_;rw[cA,eD,<-a.slot];have j:=a.size
  by_cases e:n=P
  ·subst e
   simp[j,i]
  ·rw[if_neg e]
   simp only[Array.getD_eq_getD_getElem?];rw[Array.getElem?_setIfInBounds_ne e]
variable{K:Act}{f5:Act->World->Prop}{d5:Addr}{a0:Array Bool}{U:Array Oper}{o:Array Value}{J:Bool}{a2:Code}{i0:Ending->FrameMode->World->Prop}{s:Ending->World->Prop}{f2:Exit}{d9:Exit->Act->World->Prop}{b1:FrameMode}{a8:Func}{A:FuncId}{b6:List Nat}{f4:List PanicEntry->Act->World->Prop}{a7:List PanicEntry->World->Prop}{a4:List Value}{a c i:Nat}{f6:Nat->Bool}{a5 f:Nat->Prop}{S:Oper}{f0:Operand->Value}{h:Program}{M a9:Prop}{g9:Sem Unit}{e5:Sem Value}{g:TypeId}{e8:TypeInfo}{d2 x:Value}{N:Value->Prop}{h8 q u:Value->World->Prop}{b b5 k:World}{z:World->Prop}{Q:cU}{h9:cU->List Deferred->World->Prop}{f3:cU->Prop}
def Rel.defers{n:Nat->Value}(P:Rel a n Q K)(b:List Deferred):Rel a n Q {K with defers:=b}:=⟨P.size,P.slot⟩
def put_defers(n:Act)(P:Option Tmp)(a:Value):(n.put P a).defers=n.defers:=by cases P<;>rfl
def al(n:Bool)(P a:Prop):Prop:=match n with
 |true=>P
 |false=>a
def al.mk(n:J=true->M)(P:J=false->a9):al J M a9:=by
 cases J
 ·exact P rfl
 ·exact n rfl
def al.tt(n:J=true)(P:M):al J M a9:=by subst n;exact P
def al.ff(n:J=false)(P:a9):al J M a9:=by subst n;exact P
def Qb(a:Value)(n:Value->Prop):Prop:=match a with
 | .int b _=>∃P,n (.int b P)
 | .bool _=>∃c,n (.bool c)
 | .string _=>∃d,n (.string d)
 | .slice _ _ _=>∃e P f,n (.slice e P f)
 | .pointer _=>∃g,n (.pointer g)
 | .map _=>∃h,n (.map h)
 |_=>∃i,n i
def Qb.out{z:Value}{φ:Value->Prop}(n:Qb z φ):∃P,φ P:=by
 unfold Qb at n;split at n
 ·exact⟨_,n.choose_spec⟩
 ·exact⟨_,n.choose_spec⟩
 ·exact⟨_,n.choose_spec⟩
 ·obtain⟨a,b,c,n⟩:=n;exact⟨_,n⟩
 ·exact⟨_,n.choose_spec⟩
 ·exact⟨_,n.choose_spec⟩
 ·exact n
def RX:List Value->(List Value->Prop)->Prop
 |[],n=>n []
 |z::P,n=>Qb z λa=>RX P λb=>n (a::b)
def RX.out:∀{P:List Value} {φ:List Value->Prop},RX P φ->∃l,l.length=P.length/\φ l
 |[],_,n=>⟨[],rfl,n⟩
 |z::P,φ,n=>by
  obtain⟨a,n⟩:=Qb.out n;obtain⟨l,b,n⟩:=RX.out n;exact⟨a::l,by simp[b],n⟩
def sh(z:Value)(n:Value->Prop):Prop:=match z with
 | .agg P=>RX P.toList λa=>n (.agg a.toArray)
 |z=>Qb z n
def sh.out{z:Value}{φ:Value->Prop}(n:sh z φ):∃P,φ P:=by
 unfold sh at n;split at n
 ·obtain⟨l,_,n⟩:=RX.out n;exact⟨_,n⟩
 ·exact Qb.out n
def Wy:List Value->(List Value->Prop)->Prop
 |[],n=>n []
 |z::P,n=>sh z λa=>Wy P λb=>n (a::b)
def Wy.out:∀{P:List Value} {φ:List Value->Prop},Wy P φ->∃l,φ l
 |[],_,n=>⟨[],n⟩
 |z::P,φ,n=>by
  obtain⟨a,n⟩:=sh.out n;obtain⟨l,n⟩:=Wy.out n;exact⟨a::l,n⟩
def dm(n:Program)(P:TypeId):Value:=match n.info? P with
 |some a=>match a.zero with
  |some b=>b
  |none=>undef
 |none=>undef
def my(n:Program)(P:TypeId):Nat:=match n.info? P with
 |some a=>a.size
 |none=>0
def uK(n:Program)(P:TypeId):Bool:=match n.underlying P with
 |some (.struct _)=>true
 |some (.array _ _)=>true
 |_=>false
def uL(n:Program)(P:TypeId)(a:Value->Prop):Prop:=match n.underlying P with
 |some (.tuple b)=>Wy (b.toList.map (dm n)) λc=>a (.tuple c.toArray)
 |_=>sh (dm n P) a
def uL.out{P:Program}{φ:Value->Prop}(n:uL P g φ):∃a,φ a:=by
 unfold uL at n;split at n
 ·obtain⟨l,n⟩:=Wy.out n;exact⟨_,n⟩
 ·exact sh.out n
def iW(P:World)(a:Addr):Nat->List Value->Prop->Prop
 |_,[],n=>n
 |b,c::d,n=>P.cell? (a.add b)=some c/\iW P a (b+1) d n
def iW.out{d:World}{e:Addr}:∀{P:Nat} {l:List Value} {φ:Prop},iW d e P l φ->(∀n a,l[n]? =some a->d.cell? (e.add (P+n))=some a)/\φ
 |_,[],_,c=>⟨λn a b=>by simp at b,c⟩
 |P,j::l,φ,c=>by
  obtain⟨f,g⟩:=c;obtain⟨h,i⟩:=iW.out g;refine⟨λn a b=>?_,i⟩
  cases n with
  |zero=>simp at b;subst b;exact f
  |succ n=>
   have:=h n a (by simpa using b);rw[show P+1+n=P+(n+1)from by omega]at this;exact this
def js(n:Program)(P:TypeId)(g:Value)(a:World)(b:Value->Prop):Prop:=match g with
 | .pointer (some c)=>match uK n P with
  |true=>match dm n P with
   | .agg d=>match Nat.beq (my n P) d.size with
    |true=>RX d.toList λe=>iW a c 0 e (b (.agg e.toArray))
    |false=>False
   |_=>False
  |false=>Qb (dm n P) λf=>a.cell? c=some f/\b f
 |_=>False
def PS(n:World)(P:Addr)(a:Value)(b:World->Prop):Prop:=(∃c,n.cell? P=some c)/\n.frozen? P=false/\b (n.setCell P a)
def PA(n:World)(P:Obj)(a:World->Prop):Prop:=a (n.alloc P)
def jM(a:Addr):Nat->List Value->World->(World->Prop)->Prop
 |_,[],n,P=>P n
 |b,c::d,n,P=>PS n (a.add b) c λe=>jM a (b+1) d e P
def ni(n:Program)(P:TypeId)(e a:Value)(b:World)(c:World->Prop):Prop:=match e with
 | .pointer (some d)=>match uK n P with
  |true=>match a with
   | .agg cs=>match Nat.beq cs.size (my n P)with
    |true=>match cs.toList.all Value.oneCell' with
     |true=>jM d 0 cs.toList b c
     |false=>False
    |false=>False
   |_=>False
  |false=>match Nat.beq (my n P) 1 with
   |true=>al a.oneCell' (PS b d a c) False
   |false=>False
 |_=>False
def Ug(n P:Nat):Nat:=match Nat.beq P 1 with
 |true=>n
 |false=>n*P
def Nq(P n:Nat):Ug P n=P*n:=by
 unfold Ug
 cases a:Nat.beq n 1
 ·rfl
 ·have:n=1:=Nat.eq_of_beq_eq_true a
  subst this;simp
def Uh(d:Program)(i:TypeId)(f g:Value)(h:Value->Prop):Prop:=match d.underlying i with
 |some (.slice n)=>match f,g with
  | .slice b j _,.int _ a=>∃c P,b=some ⟨c,P,none⟩/\0<=a/\a<j/\h (.pointer (some ⟨c,P+Ug a.toNat (my d n),none⟩))
  |_,_=>False
 |some (.array e n)=>match f,g with
  | .pointer k,.int _ a=>∃c P,k=some ⟨c,P,none⟩/\0<=a/\a<e/\h (.pointer (some ⟨c,P+Ug a.toNat (my d n),none⟩))
  |_,_=>False
 |_=>False
def GZ(a b:Value)(c:Value->Prop):Prop:=match a,b with
 | .string d,.int _ n=>0<=n/\∃P,d[n.toNat]? =some P/\c (.int .u8 P.toNat)
 |_,_=>False
def cZ(P:Option Addr)(a b n:Nat):Option Addr:=if b=a then P else P.map (·.add (a*n))
def Ui(g:Program)(m:TypeId)(k:Value)(h i l:Option Value)(c:Value->Prop):Prop:=match g.underlying m with
 |some .string=>match k,l with
  | .string d,none=>match h,i with
   |none,none=>c (.string (d.extract 0 d.size))
   |some (.int _ n),none=>0<=n/\n<=d.size/\c (.string (d.extract n.toNat d.size))
   |none,some (.int _ P)=>0<=P/\P<=d.size/\c (.string (d.extract 0 P.toNat))
   |some (.int _ n),some (.int _ P)=>0<=n/\n<=P/\P<=d.size/\c (.string (d.extract n.toNat P.toNat))
   |_,_=>False
  |_,_=>False
 |some (.slice a)=>match k,l with
  | .slice e j b,none=>match h,i with
   |none,none=>c (.slice e j b)
   |some (.int _ n),none=>0<=n/\n<=j/\c (.slice (cZ e n.toNat b (my g a)) (j-n.toNat) (b-n.toNat))
   |none,some (.int _ P)=>0<=P/\P<=b/\c (.slice e P.toNat b)
   |some (.int _ n),some (.int _ P)=>0<=n/\n<=P/\P<=b/\c (.slice (cZ e n.toNat b (my g a)) (P.toNat-n.toNat) (b-n.toNat))
   |_,_=>False
  | .slice e _ b,some (.int _ f)=>match h,i with
   |none,some (.int _ P)=>0<=P/\P<=f/\f<=b/\c (.slice e P.toNat f.toNat)
   |some (.int _ n),some (.int _ P)=>0<=n/\n<=P/\P<=f/\f<=b/\c (.slice (cZ e n.toNat f.toNat (my g a)) (P.toNat-n.toNat) (f.toNat-n.toNat))
   |_,_=>False
  |_,_=>False
 |_=>False
def YX(a:Option Addr)(b:Value->Prop):Prop:=∃P n,a=some ⟨P,n,none⟩/\b (.pointer (some ⟨P,n,none⟩))
def aJ(a:Program)(b:Sem Value)(c:World)(d e:Value->World->Prop):Prop:=match b.run a c with
 | .ok n P=>d n P
 | .halt (.panic n) P=>e n P
 |_=>False
def jY(P:Program)(a:Sem Unit)(b:World)(c:World->Prop)(d:Value->World->Prop):Prop:=match a.run P b with
 | .ok _ n=>c n
 | .halt (.panic e) n=>d e n
 |_=>False
def aJ.mk{n w':World}{v:Value}(P:e5.run h n= .ok v w')(a:q v w'):aJ h e5 n q u:=by
 unfold aJ;rw[P];exact a
def jY.mk{n w':World}(P:g9.run h n= .ok () w')(a:z w'):jY h g9 n z q:=by
 unfold jY;rw[P];exact a
def aJ.imp(c:∀P a,q P a->u P a)(n:aJ h e5 b q h8):aJ h e5 b u h8:=by
 unfold aJ at*;split at n
 ·exact c _ _ n
 ·exact n
 ·exact n.elim
def aJ.panics{v:Value}(n:e5.run h b= .halt (.panic v) k)(P:u v k):aJ h e5 b q u:=by
 unfold aJ;rw[n];exact P
def enters(P:Program)(a:FuncId):Bool:=match P.funcs[a]? with
 |some n=>match n.body with
  |some _=>!(n.name== "runtime.NumGoroutine")
  |none=>false
 |none=>false
def RY(n:Ending)(P:Value->Prop)(a:List PanicEntry->Prop):Prop:=match n with
 | .returned b=>P b
 | .panicked c=>a c
 | .outgrown=>False
def PC(a:Program)(b:FuncId)(n:Array Value)(c:World)(d:Value->World->Prop)(e:List PanicEntry->World->Prop):Prop:=
 Calls a b n c λf P=>RY f (λg=>d g P) (λh=>e h P)
def Nr(P:Program)(b:FuncId)(n:Array Value)(c:TypeId)(d:World)(e:Value->World->Prop)(f:List PanicEntry->World->Prop):Prop:=
 PC P b n d (λg h=>uL P c λa=>g=a/\e a h) f
def VV(b:Program)(c:Value)(n:Array Value)(d:TypeId)(e:World)(f:Value->World->Prop)(g:List PanicEntry->World->Prop):Prop:=
 ∃a first P,c= .func (.func a) first P/\enters b a=true/\Nr b a (first++n++P) d e f g
def TH(a:Program)(c:FuncId)(n:Array Value)(P:World)(d e:Value->World->Prop):Prop:=
 ∃b:Sem Value,(∀P,(callFunc c n).run a P=(b.run a P).andThen λf g=>.ok (.value f) g)/\aJ a b P d e
def YY(b:Program)(n:Value)(P:String)(a:Array Value)(e:TypeId)(f:World)(g:Value->World->Prop)(h:List PanicEntry->World->Prop):Prop:=
 ∃c as,(∀d,(callMethod n P a).run b d= .ok (.enter c as) d)/\Nr b c as e f g h
def isInt(n:Program)(P:TypeId):Bool:=match n.underlying P with
 |some (.int _)=>true
 |_=>false
def Ns(n:Program)(P:TypeId):Bool:=match n.underlying P with
 |some (.int _)=>true
 |some .bool=>true
 |some .string=>true
 |_=>false
def isMap(n:Program)(P:TypeId):Bool:=match n.underlying P with
 |some (.map _ _)=>true
 |_=>false
def wj(n:Operand):Bool:=match n with
 | .const _=>true
 |_=>false
def G_(n:Program)(e:Oper):Bool:=match e.op with
 | .lookup .. =>true
 | .next .. =>true
 | .entry _=>true
 | .mapEntry .. =>true
 | .makeSlice .. =>true
 | .convert a c _=>match isInt n a with
  |true=>match isInt n c with
   |true=>false
   |false=>true
  |false=>true
 | .binOp f d _ P _=>match f with
  | .quo=>match wj P with
   |true=>false
   |false=>true
  | .rem=>match wj P with
   |true=>false
   |false=>true
  | .shl=>match wj P with
   |true=>false
   |false=>true
  | .shr=>match wj P with
   |true=>false
   |false=>true
  | .add=>match isInt n d with
   |true=>false
   |false=>true
  | .eql=>match Ns n d with
   |true=>false
   |false=>true
  | .neq=>match Ns n d with
   |true=>false
   |false=>true
  |_=>false
 | .call {callee:=.builtin b,argTypes,..}=>match b with
  | .append=>true
  | .copy=>true
  | .cap=>true
  | .len=>isMap n (argTypes.getD 0 0)
  |_=>false
 |_=>false
def Pb(P:Operand->Value)(i:Oper):Option (Sem Value):=match i.op with
 | .move a| .assign a=>some (.pure (P a))
 | .pick b v l=>some (do pure (if<-asBool (P b)then P v else P l))
 | .alloc g=>some (Instr.alloc g true (.tuple #[]))
 | .box g a=>some (Instr.box g (P a))
 | .build h c=>some (Instr.build h (c.map λ(m,a)=>(m,P a)))
 | .buildSlice h o c=>some (Instr.buildSlice h o (c.map λ(m,a)=>(m,P a)))
 | .waits w=>some (Instr.waits w)
 | .binOp k n a p _=>some (do eqGuard k n a p (P a) (P p);binOp k n (P a) (P p))
 | .unOp k _ a=>some (Op.unary k (P a))
 | .convert q r a=>some (convert q r (P a))
 | .makeInterface n a=>some (Instr.makeInterface n (P a))
 | .makeFunc x first d=>some (Instr.makeFunc x (first.map P) (d.map P))
 | .makeMap h y=>some (Instr.makeMap h (y.map P))
 | .makeSlice h z b=>some (Instr.makeSlice h (P z) (P b))
 | .fieldAddr A a s=>some (Instr.fieldAt A (P a) s)
 | .field n a s=>some (Instr.field n (P a) s)
 | .index n a j=>some (Instr.index n (P a) (P j))
 | .lookup n a j t=>some (Instr.lookup n (P a) (P j) t)
 | .mapEntry h B C=>some (Instr.mapEntry h (P B) (P C))
 | .range n a=>some (Instr.range n (P a))
 | .next u e=>some (Instr.next (P u) e i.type)
 | .entry u=>some (Instr.entry (P u))
 | .typeAssert a n f t=>some (Instr.typeAssert (P a) n f t)
 | .extract h j=>some (Instr.extract (P h) j)
 | .panic a=>some (Instr.panic (P a))
 | .call b=>match b.callee with
  | .builtin l=>match l with
   | .append=>some (Builtin.append_ b.argTypes i.type (b.args.map P))
   | .cap=>some (Builtin.cap_ b.argTypes i.type (b.args.map P))
   | .clear=>some (Builtin.clear_ b.argTypes i.type (b.args.map P))
   | .copy=>some (Builtin.copy_ b.argTypes i.type (b.args.map P))
   | .delete=>some (Builtin.delete_ b.argTypes i.type (b.args.map P))
   | .len=>some (Builtin.len_ b.argTypes i.type (b.args.map P))
   | .max=>some (Builtin.max_ b.argTypes i.type (b.args.map P))
   | .min=>some (Builtin.min_ b.argTypes i.type (b.args.map P))
   | .panic=>some (Instr.panic ((b.args.map P).getD 0 .nilIface))
   |_=>none
  |_=>none
 |_=>none
def Uj(n:Operand->Value)(d:Oper):Option (Sem Unit):=match d.op with
 | .mapUpdate P a c b| .insert P a c b=>some (Instr.mapUpdate P (n a) (n c) (n b))
 | .entryStore P a e b=>some (Instr.entryStore P (n a) (n e) (n b))
 | .ready f=>some (Instr.ready f)
 |_=>none
def tA{P a d:Type}(n:Result P)(b:P->World->Result a)(c:a->World->Result d):(n.andThen b).andThen c=n.andThen λe f=>(b e f).andThen c:=by
 cases n<;>rfl
def jN(P:Pb f0 S=some e5)(b:Program)(c:World):
  (execOp f0 S).run b c=(e5.run b c).andThen λf g=>.ok (.value f) g:=by
 obtain⟨h,i,d,j,a,guard⟩:=S
 cases i
 case call k=>
  obtain⟨n,e,l⟩:=k
  cases n
  case builtin m=>
   cases m<;>simp only[Pb,Option.some.injEq,reduceCtorEq]at P<;>subst P<;>simp[execOp,resolve,invoke,builtin]
  all_goals simp[Pb]at P
 all_goals first
  |(cases P;done)
  |(cases P;simp[execOp];done)
  |(cases P;simp only[execOp,Sem.run_bind,Sem.run_pure,tA,Result.andThen_ok];done)
  |(cases P;simp only[execOp,Sem.run_bind,Sem.run_pure,tA,Result.andThen_ok];rfl)
def Pc(n:Uj f0 S=some g9)(a:Program)(b:World):
  (execOp f0 S).run a b=(g9.run a b).andThen λ_ d=>.ok .skip d:=by
 obtain⟨e,f,c,g,P,guard⟩:=S
 cases f
 all_goals first
  |(simp only[Uj,Option.some.injEq]at n;subst n;simp[execOp];done)
  |(simp[Uj]at n;done)
section
variable {P:Program}
def dF(P:Program)(n:TypeId)(b:Bool)(c:uK P n=b)(f:∃a,P.underlying n=some a)(d:World):(isAgg n).run P d= .ok b d:=by
 obtain⟨a,e⟩:=f;unfold uK at c;rw[e]at c;simp only[isAgg,Sem.run_bind,run_underlying e,Result.andThen_ok]
 cases a<;>simp_all
def ER(n:dm P g=x)(c:x≠undef):∃a,P.info? g=some a/\a.zero=some x:=by
 unfold dm at n;split at n
 ·rename_i a d
  split at n
  ·rename_i e b;exact⟨a,d,by rw[b,n]⟩
  ·exact absurd n.symm c
 ·exact absurd n.symm c
def dG(a:P.info? g=some e8)(n:World):(sizeOf g).run P n= .ok e8.size n:=by
 simp[sizeOf,typeInfo,a]
def iX(n:P.info? g=some e8):my P g=e8.size:=by simp[my,n]
def wm(P:k.heap=b.heap)(n:Addr):k.cell? n=b.cell? n:=by simp[World.cell?,P]
def js.out(j:∃m,P.underlying g=some m)(n:js P g x b N):
  ∃a,(∀c,c.heap=b.heap->(Instr.loadAt g x).run P c= .ok a c)/\N a:=by
 unfold js at n;split at n
 ·rename_i f
  split at n
  ·rename_i h
   split at n
   ·rename_i y o
    split at n
    ·rename_i p
     obtain⟨l,q,n⟩:=RX.out n;obtain⟨i,n⟩:=iW.out n;obtain⟨r,k,_⟩:=ER o (by simp[undef]);have s:r.size=l.length:=by
      have:=Nat.eq_of_beq_eq_true p;rw[iX k]at this;simp[this,q]
     refine⟨_,λc d=>?_,n⟩;have t:∀e a,l[e]? =some a->c.cell? (f.add e)=some a:=λe a u=>by
      rw[wm d];have:=i e a u;simpa using this
     have v:=run_loadCells_list (P:=P) (w:=c) f l t;simp only[Instr.loadAt,Instr.sureAddr,loadVar,Sem.run_bind,Sem.run_pure,Result.andThen_ok,dF P g _ h j,if_true,dG k,s,v]
    ·exact n.elim
   ·exact n.elim
  ·rename_i h
   obtain⟨a,w,n⟩:=Qb.out n;refine⟨a,λc d=>?_,n⟩;have i:c.cell? f=some a:=by rw[wm d];exact w
   simp[Instr.loadAt,Instr.sureAddr,loadVar,dF P g _ h j,load,Sem.run,i]
 ·exact n.elim
def jM.out{d:Addr}{e:World->Prop}:∀{l:List Value} {b:Nat} {a:World},(∀v∈l,v.oneCell'=true)->jM d b l a e->∃c,(storeCells d l b).run P a= .ok () c/\e c
 |[],b,a,_,n=>⟨a,rfl,n⟩
 |v::l,b,a,f,n=>by
  obtain⟨⟨m,g⟩,h,n⟩:=n;obtain⟨c,i,n⟩:=jM.out (l:=l) (λv j=>f v (List.mem_cons_of_mem _ j)) n;refine⟨c,?_,n⟩;have k:=run_store P a (d.add b) v .plain (f v (List.mem_cons_self ..));simp only[storeCells,Sem.run_bind,k,g,h];simpa using i
def ni.out{g:TypeId}{j a:Value}{h:World}{k:World->Prop}(b:∃e,P.info? g=some e)(n:ni P g j a h k):
  ∃f,(Instr.storeAt g j a).run P h= .ok () f/\k f:=by
 obtain⟨e,b⟩:=b;unfold ni at n;split at n
 ·rename_i l
  split at n
  ·split at n
   ·rename_i cs
    split at n
    ·rename_i c
     split at n
     ·rename_i d
      obtain⟨f,m,n⟩:=jM.out (P:=P) (λa o=>by simpa using List.all_eq_true.1 d a o) n;refine⟨f,?_,n⟩;have i:cs.size=e.size:=by have:=Nat.eq_of_beq_eq_true c;rwa [iX b]at this
      simp[Instr.storeAt,Instr.sureAddr,storeVar,dG b,Value.cells,i,m]
     ·exact n.elim
    ·exact n.elim
   ·exact n.elim
  ·split at n
   ·rename_i c
    have i:e.size=1:=by have:=Nat.eq_of_beq_eq_true c;rwa [iX b]at this
    cases d:a.oneCell' with
    |false=>rw[d]at n;exact n.elim
    |true=>
     rw[d]at n;obtain⟨⟨s,p⟩,q,n⟩:=n;refine⟨_,?_,n⟩;have r:a.cells= #[a]:=by cases a<;>first|rfl|(simp[Value.oneCell']at d)
     have c:=run_store P h l a .plain d;rw[p,q]at c;simp[Instr.storeAt,Instr.sureAddr,storeVar,dG b,r,i,storeCells,Addr.add_zero',c]
   ·exact n.elim
 ·exact n.elim
def Uh.out(l:∀e,(P.underlying g=some (.slice e)\/∃m,P.underlying g=some (.array m e))->∃f,P.info? e=some f)(n:Uh P g x d2 N):
  ∃o,(∀d,(Instr.indexAt g x d2).run P d= .ok o d)/\N o:=by
 unfold Uh at n;split at n
 ·rename_i a b
  split at n
  ·rename_i p m t q r
   obtain⟨s,h,rfl,i,j,n⟩:=n;obtain⟨f,c⟩:=l a (.inl b);refine⟨_,λd=>?_,n⟩;simp[Instr.indexAt,asIntOf,run_underlying b,i,j,dG c,Nq,iX c,Addr.add_lit]
  ·exact n.elim
 ·rename_i k a b
  split at n
  ·rename_i u q r
   obtain⟨s,h,rfl,i,j,n⟩:=n;obtain⟨f,c⟩:=l a (.inr ⟨k,b⟩);refine⟨_,λd=>?_,n⟩;simp[Instr.indexAt,Instr.sureAddr,asIntOf,run_underlying b,i,j,dG c,Nq,iX c,Addr.add_lit]
  ·exact n.elim
 ·exact n.elim
def GZ.out(c:P.underlying g=some .string)(n:GZ x d2 N):∃b,(∀a,(Instr.index g x d2).run P a= .ok b a)/\N b:=by
 unfold GZ at n;split at n
 ·rename_i f h i
  obtain⟨d,j,e,n⟩:=n;refine⟨_,λa=>?_,n⟩;simp[Instr.index,asIntOf,run_underlying c,d,e]
 ·exact n.elim
def bU(b:Value)(a:Int)(e:IntKind)(f:b= .int e a)(c:Nat)(n:BoundsCode)(d:World)(g:0<=a/\a<=c):(Instr.sliceBound b c n).run P d= .ok a.toNat d:=by
 subst f;simp[Instr.sliceBound,asIntOf,g]
def Ui.out{i j k:Option Value}(y:∀t,P.underlying g=some (.slice t)->∃u,P.info? t=some u)(n:Ui P g x i j k N):
  ∃v,(∀a,(Instr.sliceAt g x i j k).run P a= .ok v a)/\N v:=by
 unfold Ui at n;split at n
 ·rename_i c
  have e:∀a,(Instr.sliceAt g x i j k).run P a=(Instr.slice g x i j k).run P a:=λa=>by simp[Instr.sliceAt,run_underlying c]
  split at n
  ·rename_i s
   split at n
   ·exact⟨_,λa=>by rw[e];simp[Instr.slice,Instr.sliceBounds,run_underlying c],n⟩
   ·rename_i l
    obtain⟨b,f,n⟩:=n;exact⟨_,λa=>by rw[e];simp[Instr.slice,Instr.sliceBounds,run_underlying c,bU _ l _ rfl s.size _ a ⟨b,f⟩],n⟩
   ·rename_i d
    obtain⟨b,f,n⟩:=n;exact⟨_,λa=>by rw[e];simp[Instr.slice,Instr.sliceBounds,run_underlying c,bU _ d _ rfl s.size _ a ⟨b,f⟩],n⟩
   ·rename_i l _ d
    obtain⟨b,f,m,n⟩:=n;exact⟨_,λa=>by rw[e];simp[Instr.slice,Instr.sliceBounds,run_underlying c,bU _ d _ rfl s.size _ a ⟨by omega,m⟩,bU _ l _ rfl d.toNat _ a ⟨b,by omega⟩],n⟩
   ·exact n.elim
  ·exact n.elim
 ·rename_i o c
  obtain⟨u,h⟩:=y o c;have e:∀a,(Instr.sliceAt g x i j k).run P a=(Instr.slice g x i j k).run P a:=λa=>by simp[Instr.sliceAt,run_underlying c]
  split at n
  ·rename_i q w p
   split at n
   ·refine⟨_,λa=>?_,n⟩
    rw[e]
    cases q<;>simp[Instr.slice,Instr.sliceBounds,run_underlying c,dG h,Addr.add_zero']
   ·rename_i l
    obtain⟨b,f,n⟩:=n;refine⟨_,λa=>?_,n⟩;rw[e];simp[Instr.slice,Instr.sliceBounds,run_underlying c,dG h,bU _ l _ rfl w _ a ⟨b,f⟩,cZ,iX h]
   ·rename_i d
    obtain⟨b,f,n⟩:=n;refine⟨_,λa=>?_,n⟩;rw[e]
    cases q<;>simp[Instr.slice,Instr.sliceBounds,run_underlying c,dG h,bU _ d _ rfl p _ a ⟨b,f⟩,Addr.add_zero']
   ·rename_i l _ d
    obtain⟨b,f,m,n⟩:=n;refine⟨_,λa=>?_,n⟩;rw[e];simp[Instr.slice,Instr.sliceBounds,run_underlying c,dG h,bU _ d _ rfl p _ a ⟨by omega,m⟩,bU _ l _ rfl d.toNat _ a ⟨b,by omega⟩,cZ,iX h]
   ·exact n.elim
  ·rename_i q w p _ r
   split at n
   ·rename_i d
    obtain⟨b,f,m,n⟩:=n;refine⟨_,λa=>?_,n⟩;rw[e]
    cases q<;>simp[Instr.slice,Instr.sliceBounds,run_underlying c,dG h,bU _ r _ rfl p _ a ⟨by omega,m⟩,bU _ d _ rfl r.toNat _ a ⟨b,by omega⟩,Addr.add_zero']
   ·rename_i l _ d
    obtain⟨b,f,m,z,n⟩:=n;refine⟨_,λa=>?_,n⟩;rw[e];simp[Instr.slice,Instr.sliceBounds,run_underlying c,dG h,bU _ r _ rfl p _ a ⟨by omega,z⟩,bU _ d _ rfl r.toNat _ a ⟨by omega,by omega⟩,bU _ l _ rfl d.toNat _ a ⟨b,by omega⟩,cZ,iX h]
   ·exact n.elim
  ·exact n.elim
 ·exact n.elim
end
def known(n:Program)(P:TypeId):Bool:=match n.underlying P,n.info? P with
 |some _,some _=>true
 |_,_=>false
def ie(n:Program)(a:TypeId):Bool:=match n.underlying a with
 |some (.slice P)=>match n.info? P with
  |some _=>true
  |none=>false
 |some (.array _ P)=>match n.info? P with
  |some _=>true
  |none=>false
 |some _=>true
 |none=>false
def fE(n:Bool)(P:Prop):Prop:=match n with
 |true=>P
 |false=>False
def fE.out(n:fE J M):J=true/\M:=by
 cases J
 ·exact n.elim
 ·exact⟨rfl,n⟩
abbrev cf:=Nat->Value
abbrev iY:=Exit->cf->cU->List Deferred->World->Prop
def Pd(a:Value)(P:Value->Prop):Prop:=match a with
 | .pointer b=>YX b P
 | .func (.func c) first n=>P (.func (.func c) first n)
 |_=>False
def wo(n:Program)(P a:Nat):List Oper->Value
 |[]=>undef
 |c::b=>match c.op with
  | .extract (.tmp d) e=>match Nat.beq d P with
   |true=>match Nat.beq e a with
    |true=>dm n c.type
    |false=>wo n P a b
   |false=>wo n P a b
  |_=>wo n P a b
def Av(a:Program)(n:Array Oper)(P:Option Tmp)(b:Nat):Value:=match P with
 |some P=>wo a P b n.toList
 |none=>undef
def ir(e:Bool)(n:Value)(P:Value->Prop):Prop:=(n= .tuple #[.bool false]/\P (.tuple #[.bool false]))\/(match e with
 |true=>∃a b,n= .tuple #[.bool true,.int .i64 a,.int .i32 b]/\P (.tuple #[.bool true,.int .i64 a,.int .i32 b])
 |false=>∃c d,n= .tuple #[.bool true,c,d]/\P (.tuple #[.bool true,c,d]))
def ir.out(h:ir J x N):N x:=by
 unfold ir at h;rcases h with⟨rfl,h⟩|h
 ·exact h
 ·cases J
  ·obtain⟨n,P,rfl,h⟩:=h;exact h
  ·obtain⟨n,P,rfl,h⟩:=h;exact h
def Ha(a z1:Value)(b:Value)(c:Value->Prop):Prop:=sh a λn=>sh z1 λP=>b= .tuple #[n,P]/\c (.tuple #[n,P])
def Ha.out{a z1:Value}(c:Ha a z1 x N):N x:=by
 obtain⟨P,d⟩:=sh.out (z:=a) (φ:=λP=>sh z1 λn=>x= .tuple #[P,n]/\N (.tuple #[P,n])) c;obtain⟨n,b⟩:=sh.out (z:=z1) (φ:=λn=>x= .tuple #[P,n]/\N (.tuple #[P,n])) d;rw[b.1];exact b.2
def Hb(a:Value)(b:Value)(c:Value->Prop):Prop:=sh a λn=>∃P,b= .tuple #[n,.bool P]/\c (.tuple #[n,.bool P])
def Hb.out{z n:Value}(b:Hb z n N):N n:=by
 obtain⟨P,a,c,d⟩:=sh.out (z:=z) (φ:=λP=>∃a,n= .tuple #[P,.bool a]/\N (.tuple #[P,.bool a])) b;rw[c];exact d
def Uk(e:Program)(p:Array Oper)(a:cf)(b:Oper)(m:iY)(i:cU->List Deferred->World->Prop)(n:cU)(c:List Deferred)(h:World):Prop:=
 match b.op with
 | .load k t=>fE (known e k) (js e k (ev a n t) h λd=>i (cA n b.dst d) c h)
 | .store k t o=>fE (known e k) (ni e k (ev a n t) (ev a n o) h λP=>i (cA n b.dst undef) c P)
 | .indexAddr k o s=>fE (ie e k) (Uh e k (ev a n o) (ev a n s) λd=>i (cA n b.dst d) c h)
 | .slice k o x y z=>fE (ie e k) (Ui e k (ev a n o) (x.map (ev a n)) (y.map (ev a n)) (z.map (ev a n)) λd=>i (cA n b.dst d) c h)
 | .nilCheck o=>Pd (ev a n o) λd=>i (cA n b.dst d) c h
 | .index k o s=>match e.underlying k with
  |some .string=>GZ (ev a n o) (ev a n s) λd=>i (cA n b.dst d) c h
  |_=>aJ e (Instr.index k (ev a n o) (ev a n s)) h (λd P=>i (cA n b.dst d) c P) (λj P=>m (.panic [{v:=j,recovered:=false}]) a n c P)
 | .call {callee:=.value (.func g),args,..}=>match enters e g with
  |true=>Nr e g (args.map (ev a n)) b.type h (λd P=>i (cA n b.dst d) c P) (λr P=>m (.panic r) a n c P)
  |false=>TH e g (args.map (ev a n)) h (λd P=>uL e b.type λl=>d=l/\i (cA n b.dst l) c P) (λj P=>m (.panic [{v:=j,recovered:=false}]) a n c P)
 | .call {callee:=.value f,args,..}=>VV e (ev a n f) (args.map (ev a n)) b.type h (λd P=>i (cA n b.dst d) c P) (λr P=>m (.panic r) a n c P)
 | .call {callee:=.invoke f name,args,..}=>YY e (ev a n f) name (args.map (ev a n)) b.type h (λd P=>i (cA n b.dst d) c P) (λr P=>m (.panic r) a n c P)
 | .defer {callee:=.value f,args,..}=>match ev a n f with
  | .func A first u=>i (cA n b.dst undef) ({target:=.fn A u,args:=first++args.map (ev a n)}::c) h
  |_=>False
 | .next v q=>aJ e (Instr.next (ev a n v) q b.type) h (λd P=>ir q d λl=>i (cA n b.dst l) c P) (λj P=>m (.panic [{v:=j,recovered:=false}]) a n c P)
 | .entry v=>aJ e (Instr.entry (ev a n v)) h (λd P=>Ha (Av e p b.dst 0) (Av e p b.dst 1) d λl=>i (cA n b.dst l) c P) (λj P=>m (.panic [{v:=j,recovered:=false}]) a n c P)
 | .mapEntry k B C=>aJ e (Instr.mapEntry k (ev a n B) (ev a n C)) h (λd P=>Ha (Av e p b.dst 0) (Av e p b.dst 1) d λl=>i (cA n b.dst l) c P) (λj P=>m (.panic [{v:=j,recovered:=false}]) a n c P)
 | .typeAssert o E w true=>aJ e (Instr.typeAssert (ev a n o) E w true) h (λd P=>Hb (dm e w) d λl=>i (cA n b.dst l) c P) (λj P=>m (.panic [{v:=j,recovered:=false}]) a n c P)
 |_=>match Pb (ev a n) b with
  |some q=>match G_ e b with
   |true=>aJ e q h (λd P=>uL e b.type λl=>d=l/\i (cA n b.dst l) c P) (λj P=>m (.panic [{v:=j,recovered:=false}]) a n c P)
   |false=>aJ e q h (λd P=>i (cA n b.dst d) c P) (λj P=>m (.panic [{v:=j,recovered:=false}]) a n c P)
  |none=>match Uj (ev a n) b with
   |some q=>jY e q h (λP=>i (cA n b.dst undef) c P) (λj P=>m (.panic [{v:=j,recovered:=false}]) a n c P)
   |none=>False
def iZ(P:enters h A=true)(n:Array Value)(a:World):(callFunc A n).run h a= .ok (.enter A n) a:=by
 unfold enters at P;split at P
 ·rename_i b c
  split at P
  ·rename_i f d
   have e:¬b.name= "runtime.NumGoroutine":=by simpa using P
   simp[callFunc,program,Sem.run,c,d,e]
  ·cases P
 ·cases P
def uM{next:Act->World->Prop}(f:Nr h A o g b q a7)(i:∀P n,q P n->next (K.put S.dst P) n)(j:∀a n,a7 a n->d9 (.panic a) K n):
  S.upon h K next d9 (.ok (.enter A o) b):=by
 rw[Oper.upon_enter];refine Calls.mono f λk n c=>?_
 cases k with
 |returned P=>
  obtain⟨d,rfl,e⟩:=uL.out (φ:=λd=>P=d/\q d n) c;exact i _ _ e
 |panicked a=>exact j _ _ c
 |outgrown=>exact c.elim
def known.out{P:Program}(n:known P g=true):(∃a,P.underlying g=some a)/\∃b,P.info? g=some b:=by
 unfold known at n;split at n
 ·rename_i a b c d;exact⟨⟨a,c⟩,b,d⟩
 ·cases n
def ie.out{P:Program}(a:ie P g=true):∀n,(P.underlying g=some (.slice n)\/∃e,P.underlying g=some (.array e n))->∃b,P.info? n=some b:=by
 intro n c;unfold ie at a;rcases c with c|⟨e,c⟩
 ·rw[c]at a
  cases d:P.info? n with
  |none=>simp[d]at a
  |some b=>exact⟨b,rfl⟩
 ·rw[c]at a
  cases d:P.info? n with
  |none=>simp[d]at a
  |some b=>exact⟨b,rfl⟩
variable{V:cf}{c8:iY}
def Mc{P:Program}{next:Act->World->Prop}(p:Rel a V Q K)(L:∀M,S.dst=some M->M<a)(n:Uk P U V S c8 h9 Q K.defers b)(N:∀d A e,Rel a V (cA Q S.dst d) A->h9 (cA Q S.dst d) A.defers e->next A e)(x:∀O e,c8 (.panic O) V Q K.defers e->d9 (.panic O) K e):S.wp P K b next d9:=by
 have t:∀d e,h9 (cA Q S.dst d) K.defers e->next (K.put S.dst d) e:=λd e B=>
  N d _ _ (p.put S.dst L d) (by rw[put_defers];exact B)
 have i:∀g:Sem Value,(∀b,(execOp (ev V Q) S).run P b=(g.run P b).andThen λd e=>.ok (.value d) e)->
   aJ P g b (λd e=>h9 (cA Q S.dst d) K.defers e) (λC e=>c8 (.panic [{v:=C,recovered:=false}]) V Q K.defers e)->S.wp P K b next d9:=by
  intro g m k;unfold Oper.wp;rw[p.eval,m];unfold aJ at k
  cases l:g.run P b with
  |ok d e=>
   rw[l]at k;exact t _ _ k
  |halt j e=>
   rw[l]at k
   cases j with
   |panic d=>exact x _ _ k
   |_=>exact k.elim
 have u:∀g:Sem Unit,(∀b,(execOp (ev V Q) S).run P b=(g.run P b).andThen λ_ e=>.ok .skip e)->
   jY P g b (λe=>h9 (cA Q S.dst undef) K.defers e) (λC e=>c8 (.panic [{v:=C,recovered:=false}]) V Q K.defers e)->S.wp P K b next d9:=by
  intro g m k;unfold Oper.wp;rw[p.eval,m];unfold jY at k
  cases l:g.run P b with
  |ok d e=>
   rw[l]at k;exact t _ _ k
  |halt j e=>
   rw[l]at k
   cases j with
   |panic d=>exact x _ _ k
   |_=>exact k.elim
 have h:∀(g:Sem Value),(∀b,(execOp (ev V Q) S).run P b=(g.run P b).andThen λd e=>.ok (.value d) e)->
   (∃d,g.run P b= .ok d b/\h9 (cA Q S.dst d) K.defers b)->S.wp P K b next d9:=by
  rintro g m ⟨d,r,B⟩;unfold Oper.wp;rw[p.eval,m,r];exact t _ _ B
 unfold Uk at n;split at n
 ·rename_i o j f
  obtain⟨q,n⟩:=n.out;obtain⟨d,r,n⟩:=js.out (known.out q).1 n;exact h (Instr.loadAt o (ev V Q j)) (λb=>by simp[execOp,f]) ⟨d,r b rfl,n⟩
 ·rename_i o j T f
  obtain⟨q,n⟩:=n.out;obtain⟨e,W,n⟩:=ni.out (P:=P) (known.out q).2 n;exact u (Instr.storeAt o (ev V Q j) (ev V Q T)) (λb=>by simp[execOp,f]) (jY.mk W n)
 ·rename_i o j y f
  obtain⟨q,n⟩:=n.out;obtain⟨d,r,n⟩:=Uh.out (ie.out q) n;exact h (Instr.indexAt o (ev V Q j) (ev V Q y)) (λb=>by simp[execOp,f]) ⟨d,r b,n⟩
 ·rename_i o j X Y Z f
  obtain⟨q,n⟩:=n.out;obtain⟨d,r,n⟩:=Ui.out (λQ E=>ie.out q Q (.inl E)) n;exact h (Instr.sliceAt o (ev V Q j) (X.map (ev V Q)) (Y.map (ev V Q)) (Z.map (ev V Q))) (λb=>by simp[execOp,f]) ⟨d,r b,n⟩
 ·rename_i j f
  unfold Pd at n;split at n
  ·rename_i a5 F
   obtain⟨a6,a0,rfl,n⟩:=n;unfold Oper.wp;rw[p.eval];simp only[execOp,f,F,Sem.run_pure,Oper.upon_value];exact t _ _ n
  ·rename_i w first s F
   unfold Oper.wp;rw[p.eval];simp only[execOp,f,F,Sem.run_pure,Oper.upon_value];exact t _ _ n
  ·exact n.elim
 ·rename_i o j y f
  split at n
  ·rename_i H
   obtain⟨d,r,n⟩:=GZ.out H n;exact h (Instr.index o (ev V Q j) (ev V Q y)) (λb=>by simp[execOp,f]) ⟨d,r b,n⟩
  ·exact i (Instr.index o (ev V Q j) (ev V Q y)) (λb=>by simp[execOp,f]) n
 ·rename_i w c v f
  split at n
  ·rename_i q
   have l:(execOp (ev V Q) S).run P b= .ok (.enter w (c.map (ev V Q))) b:=by
    simp[execOp,f,resolve,ev,Deferred.ofValue,invoke,iZ q]
   unfold Oper.wp;rw[p.eval,l];exact uM n t x
  ·obtain⟨g,m,n⟩:=n
   refine i g (λb=>by simp[execOp,f,resolve,ev,Deferred.ofValue,invoke,m]) (aJ.imp ?_ n);intro d e n;obtain⟨a1,rfl,n⟩:=uL.out n;exact n
 ·rename_i z c v a7 f
  obtain⟨w,first,s,I,q,n⟩:=n;have l:(execOp (ev V Q) S).run P b= .ok (.enter w (first++c.map (ev V Q)++s)) b:=by
   simp[execOp,f,resolve,I,Deferred.ofValue,invoke,iZ q]
  unfold Oper.wp;rw[p.eval,l];exact uM n t x
 ·rename_i z R c v f
  obtain⟨w,as,hm,n⟩:=n;have l:(execOp (ev V Q) S).run P b= .ok (.enter w as) b:=by
   have E:(c.map (ev V Q)).extract 0 c.size=c.map (ev V Q):=by
    have:c.size=(c.map (ev V Q)).size:=by simp
    rw[this,Array.extract_size]
   have h0:(#[ev V Q z]++c.map (ev V Q))[0]? =some (ev V Q z):=by rw[Array.getElem?_append_left (Nat.zero_lt_one)];rfl
   simp[execOp,f,resolve,invoke,E,hm,h0]
  unfold Oper.wp;rw[p.eval,l];exact uM n t x
 ·rename_i z c v f
  split at n
  ·rename_i fn first s I
   have l:(execOp (ev V Q) S).run P b= .ok (.defer {target:=.fn fn s,args:=first++c.map (ev V Q)}) b:=by
    simp[execOp,f,resolve,I,Deferred.ofValue]
   unfold Oper.wp;rw[p.eval,l,Oper.upon_defer];exact N undef _ _ ((p.defers _).put S.dst L undef) (by rw[put_defers];exact n)
  ·exact n.elim
 ·rename_i J g f
  refine i (Instr.next (ev V Q J) g S.type) (λb=>by simp[execOp,f]) (aJ.imp (λd e n=>?_) n);exact n.out
 ·rename_i J f
  refine i (Instr.entry (ev V Q J)) (λb=>by simp[execOp,f]) (aJ.imp (λd e n=>?_) n);exact n.out
 ·rename_i o a2 a3 f
  refine i (Instr.mapEntry o (ev V Q a2) (ev V Q a3)) (λb=>by simp[execOp,f]) (aJ.imp (λd e n=>?_) n);exact n.out
 ·rename_i j xT a4 f
  refine i (Instr.typeAssert (ev V Q j) xT a4 true) (λb=>by simp[execOp,f]) (aJ.imp (λd e n=>?_) n);exact n.out
 ·split at n
  ·rename_i g m
   split at n
   ·refine i g (λb=>jN m P b) (aJ.imp ?_ n)
    intro d e n;obtain⟨a1,rfl,n⟩:=uL.out n;exact n
   ·exact i g (λb=>jN m P b) n
  ·split at n
   ·rename_i g m
    exact u g (λb=>Pc m P b) n
   ·exact n.elim
def ke(n:Array Oper)(P:Nat):Option Nat:=match n[P]? with
 |some a=>a.dst
 |none=>none
def Ci(b:Program)(a:cf)(n:Array Oper)(c:iY):List Oper->(cU->List Deferred->World->Prop)->cU->List Deferred->World->Prop
 |[],e,d,f,g=>e d f g
 |i::P,e,d,f,g=>match i.guard with
  |none=>Uk b n a i c (Ci b a n c P e) d f g
  |some (k,h)=>match ke n k with
   |none=>False
   |some j=>match get a d j with
    | .bool l=>al l
     (match h with
      |true=>Uk b n a i c (Ci b a n c P e) ((j,.bool true)::d) f g
      |false=>Ci b a n c P e (cA ((j,.bool true)::d) i.dst undef) f g)
     (match h with
      |true=>Ci b a n c P e (cA ((j,.bool false)::d) i.dst undef) f g
      |false=>Uk b n a i c (Ci b a n c P e) ((j,.bool false)::d) f g)
    | .tuple _=>Ci b a n c P e (cA d i.dst undef) f g
    |_=>False
def Rel.again(n:Rel a V Q K)(P:get V Q c=x):Rel a V ((c,x)::Q) K:=
 ⟨n.size,λd=>by
  rw[eD,n.slot];split
  ·rename_i b;subst b;exact P
  ·rfl⟩
def ss(P:get V Q a=x)(n:Nat):get V ((a,x)::Q) n=get V Q n:=by
 rw[eD];split
 ·rename_i b;subst b;exact P.symm
 ·rfl
def o_(P:Rel a V Q K)(n:ke U c=some i)(g:i<a):
  yielded U K.tmps c=match get V Q i with| .bool d=>some d|_=>none:=by
 have e:((U[c]?).bind (·.dst))=some i:=by
  unfold ke at n
  cases b:U[c]? with
  |none=>rw[b]at n;simp at n
  |some h=>rw[b]at n;simpa using n
 unfold yielded;rw[e];have j:=P.size;have f:K.tmps[i]? =some (get V Q i):=by
  rw[<-P.slot];have:i<K.tmps.size:=by omega
  simp[Array.getD,this]
 simp only[Option.bind_some,f];split<;>simp_all
def du(c:Nat)(d:cf)(e:cU)(f:List Nat)(g:iY):Exit->Act->World->Prop:=λh b i=>
 ∃n P,Rel c n P b/\(∀a,a∉f->get n P a=get d e a)/\g h n P b.defers i
def Aw{s:Program}{k:Nat}{c q:cf}{r:cU}{j:List Nat}{b:Array Oper}{l:iY}(F:∀H P,ke b H=some P->P<k):
  ∀(I:List Oper) (n:cU) (h:Act) (g:World),(∀e∈I,∀f,e.dst=some f->f<k/\f∈j)->Rel k c n h->(∀P,P∉j->get c n P=get q r P)->
   Ci s c b l I (λn v g=>l .normal c n v g) n h.defers g->wpList s b (du k q r j l) I h g
 |[],n,h,g,_,m,i,d=>⟨c,n,m,i,d⟩
 |e::a,n,h,g,J,m,i,d=>by
  have O:∀f,e.dst=some f->f<k:=λf K=>(J e (List.mem_cons_self ..) f K).1;have Q:∀(n:cU),(∀P,P∉j->get c n P=get q r P)->∀w P,P∉j->get c (cA n e.dst w) P=get q r P:=by
   intro n i w P L
   cases K:e.dst with
   |none=>exact i P L
   |some f=>
    have S:=(J e (List.mem_cons_self ..) f K).2;show get c ((f,w)::n) P=_;rw[eD,if_neg (by rintro rfl;exact L S)];exact i P L
  have x:∀e∈a,∀f,e.dst=some f->f<k/\f∈j:=λe T=>J e (List.mem_cons_of_mem _ T);have o:∀(n:cU),Rel k c n h->(∀P,P∉j->get c n P=get q r P)->Ci s c b l a (λn v g=>l .normal c n v g) (cA n e.dst undef) h.defers g->
    wpList s b (du k q r j l) a (h.put e.dst undef) g:=λn m i d=>
   Aw F a _ _ _ x (m.put _ O _) (Q n i _) (by rw[put_defers];exact d)
  have t:∀(n:cU),Rel k c n h->(∀P,P∉j->get c n P=get q r P)->Uk s b c e l (Ci s c b l a λn v g=>l .normal c n v g) n h.defers g->
    e.wp s h g (wpList s b (du k q r j l) a) (du k q r j l):=λn m i d=>
   Mc m O d (λw Y U M V=>Aw F a _ _ _ x M (Q n i w) V) (λZ U W=>⟨c,n,m,i,W⟩)
  unfold wpList;unfold Ci at d;split at d
  ·rename_i A
   rw[if_pos (by simp[Region.wanted,A])];exact .inl (t n m i d)
  ·rename_i H p A
   split at d
   ·exact d.elim
   ·rename_i P R
    have u:=o_ m R (F H P R);split at d
    ·rename_i B y
     rw[y]at u;simp only at u;have N:Region.wanted e (yielded b h.tmps)=(B==p):=by
      simp only[Region.wanted,A,u]
      cases B<;>cases p<;>rfl
     rw[N];have C:=m.again y;have E:∀z,z∉j->get c ((P,.bool B)::n) z=get q r z:=λz X=>by rw[ss y];exact i z X
     cases B<;>cases p<;>simp only[al]at d
     ·exact .inl (t _ C E d)
     ·exact o _ C E d
     ·exact o _ C E d
     ·exact .inl (t _ C E d)
    ·rename_i vs y
     rw[y]at u;simp only at u;have N:Region.wanted e (yielded b h.tmps)=false:=by
      simp[Region.wanted,A,u]
     rw[N];exact o _ m i d
    ·exact d.elim
def Cj{n:Type}(P:Program):Sem n->Option n
 | .pure a=>some a
 | .program b=>Cj P (b P)
 |_=>none
def xX{c:Type}{b:Program}:∀{s:Sem c} {a:c},Cj b s=some a->∀P,s.run b P= .ok a P
 | .pure e,a,n,P=>by simp only[Cj,Option.some.injEq]at n;subst n;rfl
 | .program d,a,n,P=>by simp only[Cj]at n;exact xX (s:=d b) n P
 | .load ..,_,n,_| .store ..,_,n,_| .new ..,_,n,_| .shape ..,_,n,_| .freeze ..,_,n,_| .frozen ..,_,n,_| .getObj ..,_,n,_| .setObj ..,_,n,_
 | .choose ..,_,n,_| .sys ..,_,n,_| .mark ..,_,n,_| .halt ..,_,n,_=>by simp[Cj]at n
def Xh(n:Program)(c:Sem Value)(d:TypeId)(P:World)(e:Value->Prop):Prop:=uL n d λa=>(∀b,c.run n (P.drewN b)= .ok a (P.drewN b))/\e a
def VW(P:Program)(c:FuncId)(n:Array Value)(d:TypeId)(a:World)(e:Value->Prop):Prop:=
 uL P d λb=>(∀f,Calls P c n (a.drewN f) λg h=>g= .returned b/\∃i,h=a.drewN i)/\e b
def RZ(b:Program)(c:cf)(a:Oper)(e:cU->Prop)(n:cU)(h:World):Prop:=
 match a.op with
 | .load d k=>fE (known b d) (js b d (ev c n k) h λP=>e (cA n a.dst P))
 | .indexAddr d f i=>fE (ie b d) (Uh b d (ev c n f) (ev c n i) λP=>e (cA n a.dst P))
 | .slice d f l m o=>fE (ie b d) (Ui b d (ev c n f) (l.map (ev c n)) (m.map (ev c n)) (o.map (ev c n)) λP=>e (cA n a.dst P))
 | .nilCheck f=>Pd (ev c n f) λP=>e (cA n a.dst P)
 | .index d f i=>match b.underlying d with
  |some .string=>GZ (ev c n f) (ev c n i) λP=>e (cA n a.dst P)
  |_=>False
 | .call {callee:=.value (.func g),args,..}=>fE (enters b g) (VW b g (args.map (ev c n)) a.type h λP=>e (cA n a.dst P))
 |_=>match Pb (ev c n) a with
  |some j=>match G_ b a with
   |true=>Xh b j a.type h λP=>e (cA n a.dst P)
   |false=>match Cj b j with
    |some P=>e (cA n a.dst P)
    |none=>False
  |none=>False
def tB(c:Program)(b:cf)(P:Array Oper):List Oper->(cU->Prop)->cU->World->Prop
 |[],e,a,_=>e a
 |g::n,e,a,d=>match g.guard with
  |none=>RZ c b g (λa=>tB c b P n e a d) a d
  |some (i,f)=>match ke P i with
   |none=>False
   |some h=>match get b a h with
    | .bool j=>al j
     (match f with
      |true=>RZ c b g (λa=>tB c b P n e a d) ((h,.bool true)::a) d
      |false=>tB c b P n e (cA ((h,.bool true)::a) g.dst undef) d)
     (match f with
      |true=>tB c b P n e (cA ((h,.bool false)::a) g.dst undef) d
      |false=>RZ c b g (λa=>tB c b P n e a d) ((h,.bool false)::a) d)
    | .tuple _=>tB c b P n e (cA a g.dst undef) d
    |_=>False
def bC(n:World):World->Prop:=λP=>∃a,P=n.drewN a
def uN{next:Act->Prop}(u:Rel a V Q K)(n:RZ h V S f3 Q b)(v:∀P,f3 (cA Q S.dst P)->next (K.put S.dst P)):S.quiet h K (bC b) next:=by
 have c:∀k:Sem Value,(∀b,(execOp (ev V Q) S).run h b=(k.run h b).andThen λP w=>.ok (.value P) w)->
   (∃P,(∀e,k.run h (b.drewN e)= .ok P (b.drewN e))/\f3 (cA Q S.dst P))->S.quiet h K (bC b) next:=by
  rintro k m ⟨P,d,x⟩;refine⟨P,?_,v P x⟩;rintro _ ⟨e,rfl⟩;unfold Oper.quietAt;rw[u.eval,m,d];exact⟨rfl,rfl⟩
 unfold RZ at n;split at n
 ·rename_i i g f
  obtain⟨j,n⟩:=n.out;obtain⟨P,d,n⟩:=js.out (known.out j).1 n;exact c (Instr.loadAt i (ev V Q g)) (λb=>by simp[execOp,f]) ⟨P,λe=>d _ rfl,n⟩
 ·rename_i i g o f
  obtain⟨j,n⟩:=n.out;obtain⟨P,d,n⟩:=Uh.out (ie.out j) n;exact c (Instr.indexAt i (ev V Q g) (ev V Q o)) (λb=>by simp[execOp,f]) ⟨P,λe=>d _,n⟩
 ·rename_i i g y z A f
  obtain⟨j,n⟩:=n.out;obtain⟨P,d,n⟩:=Ui.out (λQ B=>ie.out j Q (.inl B)) n;exact c (Instr.sliceAt i (ev V Q g) (y.map (ev V Q)) (z.map (ev V Q)) (A.map (ev V Q))) (λb=>by simp[execOp,f]) ⟨P,λe=>d _,n⟩
 ·rename_i g f
  unfold Pd at n;split at n
  ·rename_i H p
   obtain⟨C,q,rfl,n⟩:=n;exact c (.pure (.pointer (some ⟨C,q,none⟩))) (λb=>by simp[execOp,f,p]) ⟨_,λe=>rfl,n⟩
  ·rename_i r first s p
   exact c (.pure (.func (.func r) first s)) (λb=>by simp[execOp,f,p]) ⟨_,λe=>rfl,n⟩
  ·exact n.elim
 ·rename_i i g o f
  split at n
  ·rename_i t
   obtain⟨P,d,n⟩:=GZ.out t n;exact c (Instr.index i (ev V Q g) (ev V Q o)) (λb=>by simp[execOp,f]) ⟨P,λe=>d _,n⟩
  ·exact n.elim
 ·rename_i r l E f
  obtain⟨j,n⟩:=n.out;obtain⟨P,d,n⟩:=uL.out n;refine⟨P,?_,v P n⟩;rintro _ ⟨e,rfl⟩;have F:(execOp (ev V Q) S).run h (b.drewN e)= .ok (.enter r (l.map (ev V Q))) (b.drewN e):=by
   simp[execOp,f,resolve,ev,Deferred.ofValue,invoke,iZ j]
  unfold Oper.quietAt;rw[u.eval,F];exact⟨rfl,d e⟩
 ·split at n
  ·rename_i k m
   split at n
   ·obtain⟨P,d,n⟩:=uL.out n
    exact c k (λb=>jN m h b) ⟨P,d,n⟩
   ·split at n
    ·rename_i P d
     exact c k (λb=>jN m h b) ⟨P,λe=>xX d _,n⟩
    ·exact n.elim
  ·exact n.elim
def rG{v:Program}{l:Nat}{f B0:cf}{e0:cU}{W:List Nat}{c:Array Oper}{w:World}{x:cU->Prop}(K:∀B n,ke c B=some n->n<l):
  ∀(C:List Oper) (P:cU) (h:Act),(∀a∈C,∀d,a.dst=some d->d<l/\d∈W)->Rel l f P h->(∀n,n∉W->get f P n=get B0 e0 n)->
   tB v f c C x P w->wpQuiet v c (bC w) (λr=>∃m,Rel l f m r/\r.defers=h.defers/\(∀n,n∉W->get f m n=get B0 e0 n)/\x m) C h
 |[],P,h,_,k,j,b=>⟨P,k,rfl,j,b⟩
 |a::g,P,h,E,k,j,b=>by
  have M:∀d,a.dst=some d->d<l:=λd F=>(E a (List.mem_cons_self ..) d F).1;have N:∀(P:cU),(∀n,n∉W->get f P n=get B0 e0 n)->∀e n,n∉W->get f (cA P a.dst e) n=get B0 e0 n:=by
   intro P j e n H
   cases F:a.dst with
   |none=>exact j n H
   |some d=>
    have O:=(E a (List.mem_cons_self ..) d F).2;show get f ((d,e)::P) n=_;rw[eD,if_neg (by rintro rfl;exact H O)];exact j n H
  have I:∀a∈g,∀d,a.dst=some d->d<l/\d∈W:=λa Q=>E a (List.mem_cons_of_mem _ Q);have o:∀(P:cU) (e:Value),Rel l f P h->(∀n,n∉W->get f P n=get B0 e0 n)->tB v f c g x (cA P a.dst e) w->
    wpQuiet v c (bC w) (λr=>∃m,Rel l f m r/\r.defers=h.defers/\(∀n,n∉W->get f m n=get B0 e0 n)/\x m) g (h.put a.dst e):=λP e k j b=>by
   have:=rG K g (cA P a.dst e) (h.put a.dst e) I (k.put _ M _) (N P j _) b;rw[put_defers]at this;exact this
  unfold wpQuiet;unfold tB at b;split at b
  ·rename_i y
   rw[if_pos (by simp[Region.wanted,y])];exact uN k b λe s=>o P e k j s
  ·rename_i B i y
   split at b
   ·exact b.elim
   ·rename_i n L
    have p:=o_ k L (K B n L);split at b
    ·rename_i z t
     rw[t]at p;simp only at p;have J:Region.wanted a (yielded c h.tmps)=(z==i):=by
      simp only[Region.wanted,y,p]
      cases z<;>cases i<;>rfl
     rw[J];have q:=k.again t;have A:∀u,u∉W->get f ((n,.bool z)::P) u=get B0 e0 u:=λu R=>by rw[ss t];exact j u R
     cases z<;>cases i<;>simp only[al]at b
     ·exact uN q b λe s=>o _ e q A s
     ·exact o _ _ q A b
     ·exact o _ _ q A b
     ·exact uN q b λe s=>o _ e q A s
    ·rename_i S t
     rw[t]at p;simp only at p;have J:Region.wanted a (yielded c h.tmps)=false:=by
      simp[Region.wanted,y,p]
     rw[J];exact o _ _ k j b
    ·exact b.elim
def kindOf(n:Program)(c:Oper):Nat:=match c.op with
 | .move _| .assign _| .pick .. | .build .. | .binOp .. | .unOp .. | .indexAddr .. | .slice .. | .nilCheck _| .fieldAddr .. | .field .. | .index .. | .extract .. | .typeAssert .. =>0
 | .convert P a _=>match isInt n P with
  |true=>match isInt n a with
   |true=>0
   |false=>2
  |false=>2
 | .load .. | .lookup .. =>1
 | .call {callee:=.builtin b,argTypes,..}=>match b with
  | .len=>match isMap n (argTypes.getD 0 0)with
   |true=>1
   |false=>0
  | .cap| .max| .min=>0
  |_=>2
 |_=>2
def mW(P:Program)(n:Array Oper)(a:Nat):Nat:=match n[a]? with
 |some b=>kindOf P b
 |none=>2
def gj(P:Program)(n:Array Oper)(a:Nat):Bool:=match mW P n a with
 |2=>false
 |_=>true
def Nt(n:Program):List Oper->Bool
 |[]=>false
 |P::a=>match kindOf n P with
  |2=>true
  |_=>Nt n a
def tC(P:Program)(n:Array Oper):List Nat->Option Nat
 |[]=>none
 |a::b=>match gj P n a with
  |true=>some a
  |false=>tC P n b
def uO{b:Program}{P:Array Oper}{a:Nat}:∀{c:List Nat},tC b P c=some a->a∈c/\gj b P a=true
 |[],n=>by cases n
 |g::h,n=>by
  unfold tC at n;split at n
  ·rename_i d;cases n;exact⟨List.mem_cons_self ..,d⟩
  ·obtain⟨e,f⟩:=uO n;exact⟨List.mem_cons_of_mem _ e,f⟩
def Ck{c:Program}{n:Array Oper}:∀{d:List Nat},tC c n d=none->∀a∈d,gj c n a=false
 |[],_,a,P=>by cases P
 |f::g,b,a,P=>by
  unfold tC at b;split at b
  ·cases b
  ·rename_i e
   rcases List.mem_cons.1 P with rfl|P
   ·exact e
   ·exact Ck b a P
def Ji(n:a0.getD a true=false):a0.getD a false=false:=by
 rcases Nat.lt_or_ge a a0.size with P|P
 ·simp[P]at n⊢;exact n
 ·simp[Array.getElem?_eq_none P]at n
def mX(P:Array Oper)(b:Nat):Nat->Array Bool->Array Bool
 |0,n=>n
 |f+1,n=>match(Region.ready .any P n).find? (λa=>!Nat.beq a b)with
  |some a=>mX P b f (n.setIfInBounds a true)
  |none=>n
def i_(c:Program)(n:Array Oper)(listed:Array Bool)(a:Nat):Bool:=
 (λb:Array Bool=>!b.getD a true&&(Region.ready .any n b).all (λP=>Nat.beq P a)&&
  (List.range n.size).all λP=>!b.getD P false||gj c n P||listed.getD P false) (mX n a n.size listed)
structure wq (P:Program) (ops:Array Oper) (i:Nat) (listed M:Array Bool):Prop where
 sub:∀k,listed.getD k false=true->M.getD k false=true
 only:∀j∈Region.ready .any ops M,j=i
 still:∀j,j<ops.size->M.getD j false=true->listed.getD j false=false->gj P ops j=true
 size:M.size=listed.size
def rH{ops:Array Oper}{i:Nat}:∀(f:Nat) (n:Array Bool),(mX ops i f n).size=n.size/\∀P,n.getD P false=true->(mX ops i f n).getD P false=true
 |0,n=>⟨rfl,λ_ a=>a⟩
 |f+1,n=>by
  unfold mX;split
  ·rename_i b _
   obtain⟨c,d⟩:=rH (ops:=ops) (i:=i) f (n.setIfInBounds b true);exact⟨by rw[c];simp,λP e=>d P (getD_set_true e)⟩
  ·exact⟨rfl,λ_ a=>a⟩
def DV{ops:Array Oper}{i:Nat}(n:i_ h ops a0 i=true):∃b,wq h ops i a0 b:=by
 unfold i_ at n;simp only[Bool.and_eq_true,List.all_eq_true]at n;obtain⟨⟨_,c⟩,d⟩:=n;obtain⟨e,f⟩:=rH (ops:=ops) (i:=i) ops.size a0;refine⟨_,f,λP a=>Nat.eq_of_beq_eq_true (c P a),λP a g j=>?_,e⟩;have:=d P (List.mem_range.2 a);rw[g,j]at this;simpa using this
def wq.ready{i:Program}{a:Array Oper}{j:Nat}{n c:Array Bool}(b:wq i a j n c){P:Nat}(p:P∈Region.ready .any a n)(q:P≠j):
  gj i a P=true/\wq i a j (n.setIfInBounds P true) c:=by
 obtain⟨k,r,l,s⟩:=mem_ready.1 p;have t:P<a.size:=(Array.getElem?_eq_some_iff.1 l).1;have m:c.getD P false=true:=by
  by_cases d:c.getD P true=false
  ·exact absurd (b.only P (mem_ready.2 ⟨d,r,l,λu v w=>b.sub _ (s u v w)⟩)) q
  ·have x:P<n.size:=by
    rcases Nat.lt_or_ge P n.size with K|K
    ·exact K
    ·simp[Array.getElem?_eq_none K]at k
   have y:P<c.size:=by rw[b.size];exact x
   simp[y]at d⊢;exact d
 have o:n.getD P false=false:=Ji k;refine⟨b.still P t m o,λe h=>?_,b.only,λe h d f=>?_,by simp[b.size]⟩
 ·by_cases g:P=e
  ·subst g;exact m
  ·rw[getD_set_ne false g]at h;exact b.sub e h
 ·refine b.still e h d ?_
  by_cases g:P=e
  ·subst g;exact o
  ·rw[getD_set_ne false g]at f;exact f
structure Cm (ops:Array Oper) (i:Nat) (listed M:Array Bool):Prop where
 sub:∀k,listed.getD k false=true->M.getD k false=true
 only:∀j∈Region.ready .any ops M,j=i
 size:M.size=listed.size
def rJ(P:Array Oper)(n:Array Bool)(a:Nat):Bool:=
 (λb:Array Bool=>(Region.ready .any P b).all (λc=>Nat.beq c a)) (mX P a P.size n)
def Jj{ops:Array Oper}{i:Nat}(n:rJ ops a0 i=true):Cm ops i a0 (mX ops i ops.size a0):=by
 unfold rJ at n;simp only[List.all_eq_true]at n;obtain⟨P,a⟩:=rH (ops:=ops) (i:=i) ops.size a0;exact⟨a,λb c=>Nat.eq_of_beq_eq_true (n b c),P⟩
def Cm.ready{a:Array Oper}{d:Nat}{n b:Array Bool}(c:Cm a d n b){P:Nat}(k:P∈Region.ready .any a n)(l:P≠d):
  b.getD P false=true/\Cm a d (n.setIfInBounds P true) b:=by
 obtain⟨m,o,p,q⟩:=mem_ready.1 k;have g:b.getD P false=true:=by
  by_cases e:b.getD P true=false
  ·exact absurd (c.only P (mem_ready.2 ⟨e,o,p,λr s t=>c.sub _ (q r s t)⟩)) l
  ·have u:P<n.size:=by
    rcases Nat.lt_or_ge P n.size with f|f
    ·exact f
    ·simp[Array.getElem?_eq_none f]at m
   have v:P<b.size:=by rw[c.size];exact u
   simp[v]at e⊢;exact e
 refine⟨g,λh i=>?_,c.only,by simp[c.size]⟩
 by_cases j:P=h
 ·subst j;exact g
 ·rw[getD_set_ne false j]at i;exact c.sub h i
def Ul(n:List PanicEntry->Act->World->Prop):Exit->Act->World->Prop:=λP a b=>match P with
 | .panic c=>n c a b
 |_=>False
def Vg(c:Program)(P:Array Oper)(a:Bool)(h:List PanicEntry->Act->World->Prop)(i:Nat->Prop)(g:Act->World->Prop):Nat->(World->Prop)->Array Bool->Act->World->Prop
 |0,_,n,e,d=>Region.ready .any P n=[]/\g e d
 |f+1,l,n,e,d=>(Region.ready .any P n=[]->g e d)/\∀b∈Region.ready .any P n,
  (gj c P b=true->stOp c P d b (λj=>Vg c P a h i g f l (n.setIfInBounds b true) j d) e)/\
  (gj c P b=false->wpOp c P (Ul h) b (λj m=>∃k:World->Prop,(a=true->i b->∀o,k o->l o)/\k m/\Vg c P a h i g f k (n.setIfInBounds b true) j m) e d)
def R_(e:∀f K b,f4 f K b->d9 (.panic f) K b)(n:wpOp h U (Ul f4) a f5 K b):wpOp h U d9 a f5 K b:=by
 unfold wpOp at*;split
 ·rename_i c;simpa only[c]using n
 ·rename_i g c
  simp only[c]at n;split
  ·rename_i d
   simp only[d,if_true]at n;rcases n with n|⟨_,_,_,n⟩
   ·left
    unfold Oper.wp at*;generalize(execOp K.eval g).run h b=i at*
    cases i with
    |ok j k=>
     cases j<;>simp only[Oper.upon]at n⊢<;>
      first
       |exact n
       |exact Calls.mono n (λl o P=>by cases l<;>first|exact P|exact e _ _ _ P|exact P.elim|(obtain⟨_,_,n⟩:=P;exact n.elim))
    |halt m k=>cases m<;>first|exact e _ _ _ n|exact(show False from n).elim
   ·exact n.elim
  ·rename_i d;simp only[d]at n;exact n
def pd{g:Program}{c:Array Oper}{d:Bool}{l:List PanicEntry->Act->World->Prop}{r:Nat->Prop}{m:Act->World->Prop}{h:Exit->Act->World->Prop}(i:∀o a P,l o a P->h (.panic o) a P)(e:∀a P,m a P->h .normal a P):∀(f:Nat) (j:World->Prop) (n:Array Bool) (a:Act) (P:World),
  Vg g c d l r m f j n a P->wpAny g .any c h f n a P
 |0,_,_,_,_,b=>⟨b.1,e _ _ b.2⟩
 |f+1,j,n,a,P,b=>⟨λs=>e _ _ (b.1 s),λp t=>by
   obtain⟨u,v⟩:=b.2 p t
   cases q:gj g c p with
   |true=>exact wpOp_of_stOp (λk b=>pd i e f j _ k P b) (u q)
   |false=>exact R_ i (wpOp_mono (λk w ⟨x,_,_,b⟩=>pd i e f x _ k w b) (v q))⟩
section
variable {P:Program} {ops:Array Oper}
def Pe{d h:Oper}(r:ops[a]? =some h)(s:d.apart ops h=true)(t:∀cs j,d.op≠.select cs j)(u:∀cs j,h.op≠.select cs j){m:Act->Prop}(v:∀e,z e->YieldsAt P ops e d x K)(c:stOp P ops b a m (K.put d.dst x)):
  stOp P ops b a (λo=>(∀e,z e->YieldsAt P ops e d x o)/\m (o.put d.dst x)) K:=by
 obtain⟨p,i,q⟩:=Oper.apart_spec s;have n:∀g,∀e,z e->YieldsAt P ops e d x (K.put h.dst g):=λg e w=>
  (v e w).of_same (execOp_put d t K h.dst g q) (wanted_put d K h.dst g q)
 unfold stOp at*;simp only[r]at*;rw[wanted_put h K d.dst x p]at c;split
 ·rename_i k
  simp only[k,if_true]at c;unfold Oper.still at*;rw[execOp_put h u K d.dst x p]at c;generalize(execOp K.eval h).run P b=y at*
  cases y with
  |ok A B=>
   cases A<;>simp only[Oper.stillUpon]at c⊢
   case value g=>exact⟨c.1,n g,by rw[<-Act.put_comm K x g i];exact c.2⟩
   case skip=>exact⟨c.1,n _,by rw[<-Act.put_comm K x undef i];exact c.2⟩
   case enter f args=>obtain⟨l,g,C,E⟩:=c;exact⟨l,g,C,n g,by rw[<-Act.put_comm K x g i];exact E⟩
  |halt e B=>simp only[Oper.stillUpon]at c
 ·rename_i k
  simp only[k]at c;exact⟨n _,by rw[<-Act.put_comm K x undef i];exact c⟩
def Pf{g h:Oper}(t:∀o K b,f4 o (K.put g.dst x) b->f4 o K b)(B:ops[a]? =some h)(C:g.apart ops h=true)(u:∀cs p,g.op≠.select cs p)(E:∀cs p,h.op≠.select cs p)(v:∀n,z n->YieldsAt P ops n g x K)(d:wpOp P ops (Ul f4) a f5 (K.put g.dst x) b):
  wpOp P ops (Ul f4) a (λw q=>(∀n,z n->YieldsAt P ops n g x w)/\f5 (w.put g.dst x) q) K b:=by
 obtain⟨y,k,m⟩:=Oper.apart_spec C;have e:∀c,∀n,z n->YieldsAt P ops n g x (K.put h.dst c):=λc n r=>
  (v n r).of_same (execOp_put g u K h.dst c m) (wanted_put g K h.dst c m)
 have i:∀l c,∀n,z n->YieldsAt P ops n g x (({K with defers:=l::K.defers}:Act).put h.dst c):=λl c n r=>
  (show YieldsAt P ops n g x {K with defers:=l::K.defers}from v n r).of_same (execOp_put g u _ h.dst c m) (wanted_put g _ h.dst c m)
 unfold wpOp at*;simp only[B]at*;rw[wanted_put h K g.dst x y]at d;split
 ·rename_i s
  simp only[s,if_true]at d;rcases d with d|⟨_,_,_,d⟩
  ·left
   unfold Oper.wp at*;rw[execOp_put h E K g.dst x y]at d;generalize(execOp K.eval h).run P b=A at*
   cases A with
   |ok F q=>
    cases F<;>simp only[Oper.upon]at d⊢
    case value c=>exact⟨e c,by rw[<-Act.put_comm K x c k];exact d⟩
    case skip=>exact⟨e _,by rw[<-Act.put_comm K x undef k];exact d⟩
    case defer l=>exact⟨i l _,by rw[<-Act.put_comm _ x undef k,<-Act.put_defers];exact d⟩
    case enter f args=>
     refine Calls.mono d λH I j=>?_
     cases H with
     |returned c=>exact⟨e c,by rw[<-Act.put_comm K x c k];exact j⟩
     |panicked o=>exact t _ _ _ j
     |outgrown=>obtain⟨_,_,j⟩:=j;exact j.elim
    case row A args=>exact Rows.mono d λc I j=>⟨e c,by rw[<-Act.put_comm K x c k];exact j⟩
   |halt n q=>cases n<;>first|exact t _ _ _ d|exact(show False from d).elim
  ·exact d.elim
 ·rename_i s
  simp only[s]at d;exact⟨e _,by rw[<-Act.put_comm K x undef k];exact d⟩
def wu{a:Bool}{j:List PanicEntry->Act->World->Prop}{k l:Nat->Prop}(e:∀m,k m->l m){o:Act->World->Prop}:∀(f:Nat) (c:World->Prop) (n:Array Bool) (g:Act) (d:World),
  Vg P ops a j l o f c n g d->Vg P ops a j k o f c n g d
 |0,_,_,_,_,b=>b
 |f+1,c,n,g,d,b=>⟨b.1,λq r=>by
   obtain⟨s,t⟩:=b.2 q r;refine⟨λh=>stOp_mono (λi b=>wu e f c _ i d b) (s h),λh=>wpOp_mono (λi u ⟨p,v,w,x⟩=>⟨p,λy z=>v y (e _ z),w,wu e f p _ i u x⟩) (t h)⟩⟩
def su(N:∀b,f b->a5 b)(hE:∀T o g,f4 T (o.put S.dst x) g->f4 T o g)(I:ops[a]? =some S)(U:gj P ops a=true)(K:∀(b:Nat) (V:Oper) cs k,ops[b]? =some V->V.op≠.select cs k)(L:World->Prop):
  ∀(v:Nat) (p:World->Prop) (n:Array Bool) (o:Act) (g:World),
   (∀b q,ops[b]? =some q->b≠a->n.getD b true=false->(∀i∈q.after,Region.binds .any i=true->i.on≠a)->S.apart ops q=true)->
   a∈Region.ready .any ops n->(∀e,L e->YieldsAt P ops e S x o)->L g->p g->
   ((∀e,L e)\/(J=true/\(∀e,p e->L e)/\((∀b,a5 b)\/∃h,Cm ops a n h/\∀b,h.getD b false=true->a5 b))\/∃h,wq P ops a n h)->
   Vg P ops J f4 a5 f5 v p (n.setIfInBounds a true) (o.put S.dst x) g->Vg P ops J f4 f f5 (v+1) p n o g:=by
 intro v
 induction v with
 |zero=>
  intro p n o g _ l w t W _ y;refine⟨λc=>(by rw[c]at l;cases l),λb m=>?_⟩
  by_cases d:b=a
  ·subst d;exact⟨λ_=>(w g t).stOp I (wu N _ _ _ _ _ y),λc=>(by rw[U]at c;cases c)⟩
  ·have:=ready_mono m d
   rw[y.1]at this
   cases this
 |succ v O=>
  intro p n o g X l w t W Y y;refine⟨λc=>(by rw[c]at l;cases l),λb m=>?_⟩
  by_cases d:b=a
  ·subst d;exact⟨λ_=>(w g t).stOp I (wu N _ _ _ _ _ y),λc=>(by rw[U]at c;cases c)⟩
  ·obtain⟨hS,hT⟩:=y.2 b (ready_mono m d)
   obtain⟨Z,q,z,a4⟩:=mem_ready.1 m;have a1:∀i∈q.after,Region.binds .any i=true->i.on≠a:=λi he hb b0=>by
    have h1:=a4 i he hb;rw[b0,Ji (mem_ready.1 l).1]at h1
    cases h1
   have a6:=X b q z d Z a1;have Q:∀u A,ops[u]? =some A->u≠a->(n.setIfInBounds b true).getD u true=false->
     (∀i∈A.after,Region.binds .any i=true->i.on≠a)->S.apart ops A=true:=λu A hk b1 a7 b2=>by
    refine X u A hk b1 ?_ b2
    by_cases a8:b=u
    ·subst a8;exact Z
    ·rw[getD_set_ne true a8]at a7;exact a7
   refine⟨λB=>?_,λB=>?_⟩
   ·have j:=Pe z a6 (λcs k=>K a S cs k I) (λcs k=>K b q cs k z) w (hS B)
    refine stOp_mono (λM r=>O p (n.setIfInBounds b true) M g Q (ready_mono l (Ne.symm d)) r.1 t W ?_ ?_) j
    ·rcases Y with c|⟨s,c,j⟩|⟨h,c⟩
     ·exact .inl c
     ·exact .inr (.inl ⟨s,c,j.imp id λ⟨h,C,E⟩=>⟨h,(C.ready m d).2,E⟩⟩)
     ·exact .inr (.inr ⟨h,(c.ready m d).2⟩)
    ·rw[Array.setIfInBounds_comm _ _ d]
     exact r.2
   ·have j:=Pf hE z a6 (λcs k=>K a S cs k I) (λcs k=>K b q cs k z) w (hT B)
    refine wpOp_mono (λM w' r=>?_) j;obtain⟨r,F,R,H,hM⟩:=r;have a0:J=true->f b->∀e,F e->p e:=λs t=>R s (N _ t);rcases Y with c|⟨s,c,j⟩|⟨h,c⟩
    ·exact⟨F,a0,H,O F (n.setIfInBounds b true) M w' Q (ready_mono l (Ne.symm d)) r (c _) H (.inl c) (by rw[Array.setIfInBounds_comm _ _ d];exact hM)⟩
    ·have a9:a5 b:=by
      rcases j with j|⟨h,C,E⟩
      ·exact j b
      ·exact E b (C.ready m d).1
     exact⟨F,a0,H,O F (n.setIfInBounds b true) M w' Q (ready_mono l (Ne.symm d)) r (c _ (R s a9 _ H)) H (.inr (.inl ⟨s,λe hx=>c e (R s a9 e hx),j.imp id λ⟨h,C,E⟩=>⟨h,(C.ready m d).2,E⟩⟩)) (by rw[Array.setIfInBounds_comm _ _ d];exact hM)⟩
    ·rw[(c.ready m d).1]at B;cases B
end
def Xi(n:Bool)(a:Nat->Prop)(b:Value)(P:Prop):Prop:=match n with
 |false=>P
 |true=>match b with
  | .pointer (some c)=>¬a c.block/\P
  |_=>False
def kH(n:Bool)(b:Nat->Prop)(a:World):World->Prop:=match n with
 |true=>λP=>aj b a P
 |false=>λP=>P=a
def VX(n:Bool)(e:Nat->Prop)(b:Program)(c:Sem Value)(P:World)(d:Value):Prop:=match n with
 |true=>∀a,aj e P a->c.run b a= .ok d a
 |false=>c.run b P= .ok d P
def Vh(n:Bool)(a:Nat->Prop)(b c:World)(P:Prop):Prop:=match n with
 |true=>aj a b c/\P
 |false=>P
def Um(a:Program)(b:cf)(c:Oper)(e:Bool)(j:Nat->Prop)(f:cU->Prop)(n:cU)(k:World):Prop:=
 match c.op with
 | .load d l=>fE (known a d) (Xi e j (ev b n l) (js a d (ev b n l) k λP=>f (cA n c.dst P)))
 | .indexAddr d g h=>fE (ie a d) (Uh a d (ev b n g) (ev b n h) λP=>f (cA n c.dst P))
 | .slice d g o p q=>fE (ie a d) (Ui a d (ev b n g) (o.map (ev b n)) (p.map (ev b n)) (q.map (ev b n)) λP=>f (cA n c.dst P))
 | .nilCheck g=>Pd (ev b n g) λP=>f (cA n c.dst P)
 | .index d g h=>match a.underlying d with
  |some .string=>GZ (ev b n g) (ev b n h) λP=>f (cA n c.dst P)
  |_=>False
 |_=>match Pb (ev b n) c with
  |some i=>match G_ a c with
   |true=>uL a c.type λP=>(match kindOf a c with
    |0=>∀m,i.run a m= .ok P m
    |_=>VX e j a i k P)/\f (cA n c.dst P)
   |false=>match Cj a i with
    |some P=>f (cA n c.dst P)
    |none=>False
  |none=>False
def js.YZ(k:∃o,h.underlying g=some o)(n:js h g (.pointer (some d5)) b N):
  ∃P,(∀a,(∀e l,e.block=d5.block->b.cell? e=some l->a.cell? e=some l)->(Instr.loadAt g (.pointer (some d5))).run h a= .ok P a)/\N P:=by
 unfold js at n;simp only at n;split at n
 ·rename_i f
  split at n
  ·rename_i y p
   split at n
   ·rename_i q
    obtain⟨i,r,n⟩:=RX.out n;obtain⟨j,n⟩:=iW.out n;obtain⟨s,m,_⟩:=ER p (by simp[undef]);have t:s.size=i.length:=by
     have:=Nat.eq_of_beq_eq_true q;rw[iX m]at this;simp[this,r]
    refine⟨_,λa c=>?_,n⟩;have u:∀d P,i[d]? =some P->a.cell? (d5.add d)=some P:=λd P v=>
     c _ _ (by unfold Addr.add;split<;>rfl) (by have:=j d P v;simpa using this)
    have w:=run_loadCells_list (P:=h) (w:=a) d5 i u;simp only[Instr.loadAt,Instr.sureAddr,loadVar,Sem.run_bind,Sem.run_pure,Result.andThen_ok,dF h g _ f k,if_true,dG m,t,w]
   ·exact n.elim
  ·exact n.elim
 ·rename_i f
  obtain⟨P,x,n⟩:=Qb.out n;refine⟨P,λa c=>?_,n⟩;have j:a.cell? d5=some P:=c _ _ rfl x;simp[Instr.loadAt,Instr.sureAddr,loadVar,dF h g _ f k,load,Sem.run,j]
def aj.Xl(a:aj f b k)(c:¬f d5.block)(n:b.cell? d5=some x):k.cell? d5=some x:=by
 have P:d5.block<b.heap.size:=by
  by_cases P:d5.block<b.heap.size
  ·exact P
  ·unfold World.cell? at n
   rw[show b.heap[d5.block]? =none by simp;omega]at n
   cases n
 unfold World.cell? at n⊢;rw[a.block _ P c];exact n
def Sa(A:Rel a V Q K)(B:Region.wanted S (yielded U K.tmps)=true)(n:Um h V S J f f3 Q b):
  ∃P,f3 (cA Q S.dst P)/\((∀d,YieldsAt h U d S P K)\/(kindOf h S≠0/\∀d,kH J f b d->YieldsAt h U d S P K)):=by
 have e:∀(o:Sem Value) P d,(∀b,(execOp (ev V Q) S).run h b=(o.run h b).andThen λP C=>.ok (.value P) C)->o.run h d= .ok P d->YieldsAt h U d S P K:=by
  intro o P d r g;refine .inl ⟨B,.inl ?_⟩;rw[A.eval,r,g]
  rfl
 unfold Um at n;split at n
 ·rename_i m d i
  obtain⟨p,n⟩:=fE.out n;have E:kindOf h S≠0:=by simp[kindOf,i]
  have s:∀(j:Addr),ev V Q d= .pointer (some j)->(∀c,kH J f b c->∀q t,q.block=j.block->b.cell? q=some t->c.cell? q=some t)->(js h m (.pointer (some j)) b λP=>f3 (cA Q S.dst P))->
    ∃P,f3 (cA Q S.dst P)/\((∀d,YieldsAt h U d S P K)\/(kindOf h S≠0/\∀d,kH J f b d->YieldsAt h U d S P K)):=by
   intro j l F n;obtain⟨P,g,n⟩:=js.YZ (known.out p).1 n;exact⟨P,n,.inr ⟨E,λc k=>e (Instr.loadAt m (ev V Q d)) P c (λb=>by simp[execOp,i]) (by rw[l];exact g c (F c k))⟩⟩
  unfold Xi at n;split at n
  ·have l:∃j,ev V Q d= .pointer (some j):=by
    unfold js at n;split at n
    ·exact⟨_,by assumption⟩
    ·exact n.elim
   obtain⟨j,l⟩:=l;rw[l]at n;exact s j l (λc k q t _ u=>by simp only[kH]at k;rw[k];exact u) n
  ·split at n
   ·rename_i j l
    obtain⟨H,n⟩:=n;exact s j l (λc k q t p u=>by simp only[kH]at k;exact k.Xl (by rw[p];exact H) u) (by rw[<-l];exact n)
   ·exact n.elim
 ·rename_i m d v i
  obtain⟨p,n⟩:=fE.out n;obtain⟨P,g,n⟩:=Uh.out (ie.out p) n;exact⟨P,n,.inl λc=>e (Instr.indexAt m (ev V Q d) (ev V Q v)) P c (λb=>by simp[execOp,i]) (g _)⟩
 ·rename_i m d I L M i
  obtain⟨p,n⟩:=fE.out n;obtain⟨P,g,n⟩:=Ui.out (λQ N=>ie.out p Q (.inl N)) n;exact⟨P,n,.inl λc=>e (Instr.sliceAt m (ev V Q d) (I.map (ev V Q)) (L.map (ev V Q)) (M.map (ev V Q))) P c (λb=>by simp[execOp,i]) (g _)⟩
 ·rename_i d i
  unfold Pd at n;split at n
  ·rename_i j w
   obtain⟨q,x,rfl,n⟩:=n;exact⟨_,n,.inl λc=>e (.pure (.pointer (some ⟨q,x,none⟩))) _ c (λb=>by simp[execOp,i,w]) rfl⟩
  ·rename_i O first y w
   exact⟨_,n,.inl λc=>e (.pure (.func (.func O) first y)) _ c (λb=>by simp[execOp,i,w]) rfl⟩
  ·exact n.elim
 ·rename_i m d v i
  split at n
  ·rename_i z
   obtain⟨P,g,n⟩:=GZ.out z n;exact⟨P,n,.inl λc=>e (Instr.index m (ev V Q d) (ev V Q v)) P c (λb=>by simp[execOp,i]) (g _)⟩
  ·exact n.elim
 ·split at n
  ·rename_i o r
   split at n
   ·obtain⟨P,g,n⟩:=uL.out n
    refine⟨P,n,?_⟩;split at g
    ·exact .inl λc=>e o P c (λb=>jN r h b) (g c)
    ·rename_i R
     refine .inr ⟨R,λc k=>e o P c (λb=>jN r h b) ?_⟩
     cases J with
     |true=>exact g c k
     |false=>simp only[kH]at k;rw[k];exact g
   ·split at n
    ·rename_i P g
     exact⟨P,n,.inl λc=>e o P c (λb=>jN r h b) (xX g _)⟩
    ·exact n.elim
  ·exact n.elim
def pf(d:Array Oper)(e:Oper)(f:cf)(a:cU)(b n:cU->Prop):Prop:=match e.guard with
 |none=>b a
 |some (g,P)=>match ke d g with
  |none=>False
  |some c=>match get f a c with
   | .bool h=>al h
    (match P with
     |true=>b ((c,.bool true)::a)
     |false=>n ((c,.bool true)::a))
    (match P with
     |true=>n ((c,.bool false)::a)
     |false=>b ((c,.bool false)::a))
   | .tuple _=>n a
   |_=>False
def pM:List Nat->(Nat->Prop)->Prop
 |[],_=>True
 |P::a,n=>match a with
  |[]=>n P
  |_=>n P/\pM a n
def pM.out:∀{l:List Nat} {φ:Nat->Prop},pM l φ->∀a∈l,φ a
 |[],_,_,a,n=>by cases n
 |b::c,φ,P,a,n=>by
  unfold pM at P;split at P
  ·simp only[List.mem_singleton]at n
   subst n;exact P
  ·rcases List.mem_cons.1 n with rfl|n
   ·exact P.1
   ·exact pM.out P.2 a n
def Ya(c:Program)(P:Array Oper)(a:Bool)(n:Array Bool)(b:Nat):Bool:=
 Region.free .any P n b&&(match mW c P b with
  |0=>true
  |_=>match a with
   |true=>true
   |false=>i_ c P n b)
def pg(b:Program)(P:Array Oper)(a:Bool)(n:Array Bool)(c:Nat):Bool:=match a with
 |false=>false
 |true=>match mW b P c with
  |0=>false
  |_=>!i_ b P n c
def yH(P:Array Oper)(n:Array Bool)(a:Nat)(c:Nat->Bool):Nat->Bool:=match rJ P n a with
 |true=>(λM:Array Bool=>λb=>c b||M.getD b false) (mX P a P.size n)
 |false=>λ_=>true
def wv(d:Program)(P:Array Oper)(a:Bool)(n:Array Bool)(b:Nat)(c:Nat->Bool):Nat->Bool:=match pg d P a n b with
 |true=>yH P n b c
 |false=>c
def Md:∀n,f6 n=true->yH U a0 a f6 n=true:=by
 intro n P;unfold yH
 cases rJ U a0 a with
 |true=>simp[P]
 |false=>rfl
def Me:(∀n,yH U a0 a f6 n=true)\/∃P,Cm U a a0 P/\∀n,P.getD n false=true->yH U a0 a f6 n=true:=by
 unfold yH
 cases b:rJ U a0 a with
 |true=>exact .inr ⟨_,Jj b,λn c=>by simp only[c,Bool.or_true]⟩
 |false=>exact .inl λ_=>rfl
def wx(f:Program)(g:cf)(P:Array Oper)(a:Bool)(i:Nat->Prop)(k:List PanicEntry->List Deferred->World->Prop)(j:cU->List Deferred->World->Prop):(Nat->Bool)->Nat->Array Bool->cU->List Deferred->World->Prop
 |W,0,n,b,c,d=>fE (Region.ready .any P n).isEmpty (j b c d)
 |W,l+1,n,b,c,d=>match tC f P (Region.ready .any P n)with
  |some e=>fE (Ya f P a n e) (match P[e]? with
   |none=>False
   |some h=>pf P h g b (λb=>Um f g h (pg f P a n e) i (λb=>wx f g P a i k j (wv f P a n e W) l (n.setIfInBounds e true) b c d) b d)
     (λb=>wx f g P a i k j W l (n.setIfInBounds e true) (cA b h.dst undef) c d))
  |none=>match Region.ready .any P n with
   |[]=>j b c d
   |o=>pM o λe=>match P[e]? with
    |none=>False
    |some h=>pf P h g b (λb=>Uk f P g h (λp _ _ c d=>match p with
     | .panic q=>k q c d
     |_=>False) (λb c m=>Vh (a&&W e) i d m (wx f g P a i k j W l (n.setIfInBounds e true) b c m)) b c d)
     (λb=>wx f g P a i k j W l (n.setIfInBounds e true) (cA b h.dst undef) c d)
def pf.out{d b:cU->Prop}(r:∀o e,ke U o=some e->e<a)(h:Rel a V Q K)(n:pf U S V Q d b):
  ∃i,Rel a V i K/\(∀f,get V i f=get V Q f)/\((Region.wanted S (yielded U K.tmps)=true/\d i)\/(Region.wanted S (yielded U K.tmps)=false/\b i)):=by
 unfold pf at n;split at n
 ·rename_i j
  exact⟨Q,h,λ_=>rfl,.inl ⟨by simp[Region.wanted,j],n⟩⟩
 ·rename_i o P j
  split at n
  ·exact n.elim
  ·rename_i e q
   have c:=o_ h q (r o e q);split at n
   ·rename_i k g
    rw[g]at c;simp only at c;have p:Region.wanted S (yielded U K.tmps)=(k==P):=by
     simp only[Region.wanted,j,c]
     cases k<;>cases P<;>rfl
    rw[p];have l:=h.again g;have m:∀f,get V ((e,.bool k)::Q) f=get V Q f:=ss g
    cases k<;>cases P<;>simp only[al]at n
    ·exact⟨_,l,m,.inl ⟨rfl,n⟩⟩
    ·exact⟨_,l,m,.inr ⟨rfl,n⟩⟩
    ·exact⟨_,l,m,.inr ⟨rfl,n⟩⟩
    ·exact⟨_,l,m,.inl ⟨rfl,n⟩⟩
   ·rename_i s g
    rw[g]at c;simp only at c;have p:Region.wanted S (yielded U K.tmps)=false:=by
     simp[Region.wanted,j,c]
    exact⟨Q,h,λ_=>rfl,.inr ⟨p,n⟩⟩
   ·exact n.elim
def kH.refl(n:Bool)(a:Nat->Prop)(P:World):kH n a P P:=by
 cases n with
 |true=>exact⟨rfl,rfl,rfl,Nat.le_refl _,λ_ _ _=>rfl⟩
 |false=>rfl
def aj.chain(n:aj f b k)(P:aj f k b5):aj f b b5:=
 ⟨P.os.trans n.os,P.tape.trans n.tape,P.output.trans n.output,Nat.le_trans n.size P.size,λa c d=>(P.block a (Nat.lt_of_lt_of_le c n.size) d).trans (n.block a c d)⟩
def Cn(c:Nat)(d:cf)(e:cU)(f:List Nat)(g:iY):List PanicEntry->Act->World->Prop:=λh b i=>
 (∃n P,Rel c n P b/\(∀a,a∉f->get n P a=get d e a))/\∀n P,g (.panic h) n P b.defers i
def Cn.Xm{P:Option Tmp}(h:∀n,P=some n->n∈b6)(d:List PanicEntry)(b:Act)(e:World)(c:Cn a V Q b6 c8 d (b.put P x) e):Cn a V Q b6 c8 d b e:=by
 obtain⟨⟨k,l,f,i⟩,c⟩:=c;refine⟨⟨λn=>b.tmps.getD n undef,[],⟨?_,λn=>rfl⟩,λn g=>?_⟩,by simpa[put_defers]using c⟩
 ·have:=f.size
  cases P<;>simpa[Act.put]using this
 ·rw[<-i n g,<-f.slot]
  cases P with
  |none=>rfl
  |some P=>
   have j:P≠n:=by rintro rfl;exact g (h P rfl)
   show _=(b.tmps.setIfInBounds P x).getD n undef;simp only[Array.getD_eq_getD_getElem?];rw[Array.getElem?_setIfInBounds_ne j];simp[aq.get]
def Cn.post(P:List PanicEntry)(b:Act)(c:World)(n:Cn a V Q b6 c8 P b c):du a V Q b6 c8 (.panic P) b c:=by
 obtain⟨⟨d,e,f,g⟩,n⟩:=n;exact⟨d,e,f,g,n d e⟩
def mz{i:Program}{x:Nat}{l B0:cf}{e0:cU}{W:List Nat}{P:Array Oper}{a:Bool}{y:Nat->Prop}{K:iY}(z:∀o b,ke P o=some b->b<x)(s:Region.noSelect P=true)(t:∀e∈P.toList,∀r,e.dst=some r->r<x/\r∈W):
  ∀(V:Nat->Bool) (p:Nat) (n:Array Bool) (j:cU) (h:Act) (f:World),Rel x l j h->(∀b,b∉W->get l j b=get B0 e0 b)->
   wx i l P a y (λE Y f=>∀l j,K (.panic E) l j Y f) (λj Y f=>K .normal l j Y f) V p n j h.defers f->Vg i P a (Cn x B0 e0 W K) (λo=>V o=true) (du x B0 e0 W K .normal) p (kH a y f) n h f
 |V,0,n,j,h,f,N,A,c=>by
  obtain⟨L,O⟩:=fE.out c;exact⟨by simpa using L,l,j,N,A,O⟩
 |V,p+1,n,j,h,f,N,A,c=>by
  have S:∀{d:Nat} {e:Oper},P[d]? =some e->∀(m:Value) (E:List PanicEntry) (h:Act) (f:World),Cn x B0 e0 W K E (h.put e.dst m) f->Cn x B0 e0 W K E h f:=by
   intro d e g m E h f;have M:e∈P.toList:=by
    obtain⟨b0,rfl⟩:=Array.getElem?_eq_some_iff.1 g;simp
   exact Cn.Xm (λb u=>(t e M b u).2) E h f
  have a5:∀{d:Nat} {e:Oper},P[d]? =some e->(∀r,e.dst=some r->r<x)/\∀(j:cU),(∀b,b∉W->get l j b=get B0 e0 b)->∀m b,b∉W->get l (cA j e.dst m) b=get B0 e0 b:=by
   intro d e g;have M:e∈P.toList:=by
    obtain⟨b0,rfl⟩:=Array.getElem?_eq_some_iff.1 g;simp
   refine⟨λr v=>(t e M r v).1,λj A m b u=>?_⟩
   cases v:e.dst with
   |none=>exact A b u
   |some r=>
    have b1:=(t e M r v).2;show get l ((r,m)::j) b=_;rw[eD,if_neg (by rintro rfl;exact u b1)];exact A b u
  unfold wx at c;split at c
  ·rename_i d F
   obtain⟨T,U⟩:=uO F;obtain⟨a6,c⟩:=fE.out c;split at c
   ·exact c.elim
   ·rename_i e g
    obtain⟨v,H⟩:=a5 g;simp only[Ya,Bool.and_eq_true]at a6;obtain⟨b2,Z⟩:=a6;have X:=Region.free_spec g b2;obtain⟨q,k,a3,a0⟩:=pf.out z N c;have B:∀b,b∉W->get l q b=get B0 e0 b:=λb u=>(a3 b).trans (A b u);rcases a0 with⟨I,c⟩|⟨I,c⟩
    ·obtain⟨m,w,C⟩:=Sa k I c
     have a1:∀o,V o=true->wv i P a n d V o=true:=by
      intro o hj;unfold wv
      cases pg i P a n d with
      |true=>exact Md o hj
      |false=>exact hj
     have next:=mz z s t (wv i P a n d V) p (n.setIfInBounds d true) (cA q e.dst m) (h.put e.dst m) f (k.put _ v _) (H q B m) (by rw[put_defers];exact w);rcases C with C|⟨Q,C⟩
     ·exact su a1 (S g _) g U (Region.noSelect_spec s) (λ_=>True) p _ n h f X T (λa2 _=>C a2) trivial (kH.refl ..) (.inl λ_=>trivial) next
     ·have a7:mW i P d=kindOf i e:=by simp[mW,g]
      rw[a7]at Z;have b3:(pg i P a n d=true/\a=true)\/(pg i P a n d=false/\i_ i P n d=true):=by
       cases a with
       |false=>
        right;refine⟨rfl,?_⟩;split at Z
        ·rename_i R;exact absurd R Q
        ·simpa using Z
       |true=>
        have M:pg i P true n d= !i_ i P n d:=by
         unfold pg;rw[a7];generalize kindOf i e=a8 at Q
         cases a8 with
         |zero=>exact absurd rfl Q
         |succ a8=>rfl
        rw[M]
        cases hb:i_ i P n d with
        |true=>right;simp
        |false=>left;simp
      rcases b3 with⟨L,O⟩|⟨L,O⟩
      ·rw[L]at C
       subst O;have hg:(∀o,wv i P true n d V o=true)\/∃a9,Cm P d n a9/\∀o,a9.getD o false=true->wv i P true n d V o=true:=by
        unfold wv;rw[L];exact Me
       exact su a1 (S g _) g U (Region.noSelect_spec s) (kH true y f) p _ n h f X T C (kH.refl ..) (kH.refl ..) (.inr (.inl ⟨rfl,λ_ c=>c,hg⟩)) next
      ·rw[L]at C
       exact su a1 (S g _) g U (Region.noSelect_spec s) (kH false y f) p _ n h f X T C (kH.refl ..) (kH.refl ..) (.inr (.inr (DV O))) next
    ·have next:=mz z s t V p (n.setIfInBounds d true) (cA q e.dst undef) (h.put e.dst undef) f (k.put _ v _) (H q B _) (by rw[put_defers];exact c)
     exact su (λ_ c=>c) (S g _) g U (Region.noSelect_spec s) (λ_=>True) p _ n h f X T (λa2 _=>.inr ⟨I,rfl⟩) trivial (kH.refl ..) (.inl λ_=>trivial) next
  ·rename_i hn
   have b4:=Ck hn;split at c
   ·rename_i R
    exact⟨λ_=>⟨l,j,N,A,c⟩,λd F=>(by rw[R]at F;cases F)⟩
   ·rename_i b5
    refine⟨λR=>absurd R (by simpa using b5),λd F=>⟨λhs=>(by rw[b4 d F]at hs;cases hs),λ_=>?_⟩⟩;have c:=pM.out c d F;split at c
    ·exact c.elim
    ·rename_i e g
     obtain⟨v,H⟩:=a5 g;obtain⟨q,k,a3,a0⟩:=pf.out z N c;have B:∀b,b∉W->get l q b=get B0 e0 b:=λb u=>(a3 b).trans (A b u);unfold wpOp;simp only[g];rcases a0 with⟨I,c⟩|⟨I,c⟩
     ·rw[if_pos I]
      refine .inl (Mc k v c (λm a' J a4 w=>?_) λE J hq=>⟨⟨l,q,k,B⟩,hq⟩)
      cases a with
      |true=>
       cases hV:V d with
       |true=>
        rw[hV]at w;obtain⟨Q,w⟩:=w;exact⟨kH true y J,λ_ _ a2 hx=>Q.chain hx,kH.refl ..,mz z s t V p _ _ a' J a4 (H q B m) w⟩
       |false=>
        rw[hV]at w;exact⟨kH true y J,λ_ c=>(by cases c),kH.refl ..,mz z s t V p _ _ a' J a4 (H q B m) w⟩
      |false=>exact⟨kH false y J,λc=>(by cases c),kH.refl ..,mz z s t V p _ _ a' J a4 (H q B m) w⟩
     ·rw[if_neg (by rw[I];simp)]
      exact⟨kH a y f,λ_ _ _ c=>c,kH.refl ..,mz z s t V p _ _ (h.put e.dst undef) f (k.put _ v _) (H q B _) (by rw[put_defers];exact c)⟩
structure iG where
 aN:List Nat
 VY:List Nat
 kinds:List Nat
def bit(n:Nat):Nat:=Nat.shiftLeft 1 n
def Nu(a:Oper):Nat:=a.after.foldl (λn P=>match Region.binds .any P with|true=>Nat.lor n (bit P.on)|false=>n) 0
def Mf(n:Array Oper)(P:Nat):Nat:=(List.range n.size).foldl (λb a=>match Nat.beq a P||(match n[P]?,n[a]? with
 |some B,some c=>c.after.any (λd=>Region.binds .any d&&d.on==P)||B.apart n c
 |_,none=>true
 |none,_=>false)with|true=>Nat.lor b (bit a)|false=>b) 0
def Pg:List Nat->List Nat->Bool
 |[],[]=>true
 |a::n,P::b=>Nat.beq a P&&Pg n b
 |_,_=>false
def iG.ok(a:Program)(n:Array Oper)(P:iG):Bool:=
 Pg P.aN (n.toList.map Nu)&&Pg P.VY ((List.range n.size).map (Mf n))&&Pg P.kinds (n.toList.map (kindOf a))
def hasB(n P:Nat):Bool:=Nat.testBit n P
def jb(P:iG)(b a:Nat):List Nat:=(List.range b).filter λn=>!hasB a n&&Nat.beq (Nat.land (P.aN.getD n 0) a) (P.aN.getD n 0)
def Hc(n:iG)(P:Nat):Bool:=!Nat.beq (n.kinds.getD P 2) 2
def Jk(n:iG):List Nat->Option Nat
 |[]=>none
 |P::a=>match Hc n P with
  |true=>some P
  |false=>Jk n a
def xY(a:iG)(b c:Nat):Nat->Nat->Nat
 |0,n=>n
 |f+1,n=>match(jb a b n).find? (λP=>!Nat.beq P c)with
  |some P=>xY a b c f (Nat.lor n (bit P))
  |none=>n
def yI(n P:Nat):(bit n).testBit P=decide (n=P):=by
 unfold bit;show(1<<<n).testBit P=_;rw[Nat.one_shiftLeft,Nat.testBit_two_pow]
def ph{d:Type}(a:d->Bool)(b:d->Nat)(P:Nat):∀(c:List d) (n:Nat),(c.foldl (λn e=>match a e with|true=>Nat.lor n (bit (b e))|false=>n) n).testBit P=(n.testBit P||c.any λe=>a e&&b e==P)
 |[],n=>by simp
 |e::c,n=>by
  rw[List.foldl_cons,ph a b P c]
  cases f:a e with
  |false=>simp[f]
  |true=>
   simp only[f,List.any_cons,Bool.true_and];show((n|||bit (b e)).testBit P||_)=_;rw[Nat.testBit_or,yI,Bool.or_assoc]
   congr 2
def yJ(a:Oper)(P:Nat):(Nu a).testBit P=a.after.any λn=>Region.binds .any n&&n.on==P:=by
 unfold Nu;rw[<-Array.foldl_toList,ph (λn=>Region.binds .any n) (λn=>n.on) P];simp
def land_eq:Nat.beq (Nat.land a c) a=true↔∀n,a.testBit n=true->c.testBit n=true:=by
 constructor
 ·intro P n b
  have P:=Nat.eq_of_beq_eq_true P;have:(a&&&c).testBit n=true:=by
   show(Nat.land a c).testBit n=true;rw[P];exact b
  rw[Nat.testBit_and]at this;simp at this;exact this.2
 ·intro P
  have:a&&&c=a:=by
   apply Nat.eq_of_testBit_eq;intro n;rw[Nat.testBit_and]
   cases d:a.testBit n with
   |false=>rfl
   |true=>rw[P n d];rfl
  show Nat.beq (a&&&c) a=true;rw[this];exact Nat.beq_refl a
def Pg.out:∀{l P:List Nat},Pg l P=true->l=P
 |[],[],_=>rfl
 |[],_::_,n=>by cases n
 |_::_,[],n=>by cases n
 |a::l,b::P,n=>by
  simp only[Pg,Bool.and_eq_true]at n;rw[Nat.eq_of_beq_eq_true n.1,Pg.out n.2]
structure Hd (listed:Array Bool) (n N:Nat):Prop where
 size:listed.size=n
 bit:∀i,listed.getD i false=N.testBit i
def Hd.set(n:Hd a0 a c)(d:i<a):Hd (a0.setIfInBounds i true) a (Nat.lor c (aq.bit i)):=by
 refine⟨by simp[n.size],λP=>?_⟩;show _=(c|||aq.bit i).testBit P;rw[Nat.testBit_or,yI,<-n.bit P]
 by_cases b:i=P
 ·subst b
  have:i<a0.size:=by rw[n.size];exact d
  simp[this]
 ·rw[getD_set_ne false b];simp[b]
variable{c1:iG}
def rK(e:c1.ok h U=true)(d:Hd a0 U.size a):Region.ready .any U a0=jb c1 U.size a:=by
 unfold iG.ok at e;simp only[Bool.and_eq_true]at e;have j:=Pg.out e.1.1;unfold Region.ready jb;refine List.filter_congr λn P=>?_;have P:=List.mem_range.1 P;have k:a0.getD n true=a.testBit n:=by
  rw[<-d.bit n];have:n<a0.size:=by rw[d.size];exact P
  simp[this]
 have l:c1.aN.getD n 0=Nu U[n]:=by
  rw[j];simp[P]
 rw[k,l,Array.getElem?_eq_getElem P];simp only[Option.map_some,Option.getD_some,hasB]
 congr 1
 rw[Bool.eq_iff_iff,land_eq];rw[Array.all_eq_true_iff_forall_mem];constructor
 ·intro f m i
  rw[yJ]at i;obtain⟨b,g,c⟩:=Array.any_eq_true'.1 i;simp only[Bool.and_eq_true,beq_iff_eq]at c;have:=f b g;rw[c.1,d.bit,c.2]at this;simpa using this
 ·intro f b g
  cases c:Region.binds .any b with
  |false=>rfl
  |true=>
   rw[d.bit];have:=f b.on (by rw[yJ];exact Array.any_eq_true'.2 ⟨b,g,by simp[c]⟩);simp[this]
def wy(n:c1.ok h U=true)(P:a<U.size):c1.kinds.getD a 2=mW h U a/\Hc c1 a=gj h U a:=by
 unfold iG.ok at n;simp only[Bool.and_eq_true]at n;have c:=Pg.out n.2;have b:c1.kinds.getD a 2=mW h U a:=by
  rw[c];unfold mW;rw[Array.getElem?_eq_getElem P];simp[P]
 refine⟨b,?_⟩;unfold Hc gj;rw[b];generalize mW h U a=k
 match k with
 |0=>rfl
 |1=>rfl
 |2=>rfl
 |k+3=>rfl
def Nv{a:Program}{n:Array Oper}{c:iG}(d:c.ok a n=true):∀(b:List Nat),(∀P∈b,P<n.size)->Jk c b=tC a n b
 |[],_=>rfl
 |P::f,e=>by
  unfold Jk tC;rw[(wy d (e P (List.mem_cons_self ..))).2,Nv d f λg h=>e g (List.mem_cons_of_mem _ h)]
  try(cases gj a n P<;>rfl)
def wA(n:i∈jb c1 a c):i<a:=List.mem_range.1 (List.mem_filter.1 n).1
def wB{h:Program}{P:Array Oper}{d:iG}(e:d.ok h P=true)(b:Nat):∀(f:Nat) {n:Array Bool} {c:Nat},Hd n P.size c->Hd (mX P b f n) P.size (xY d P.size b f c)
 |0,_,_,a=>a
 |f+1,n,c,a=>by
  unfold mX xY;rw[rK e a]
  cases i:(jb d P.size c).find? (λg=>!Nat.beq g b)with
  |some g=>exact wB e b f (a.set (wA (List.mem_of_find?_eq_some i)))
  |none=>exact a
def wC(a:iG)(P d b:Nat):Bool:=
 (λc:Nat=>!hasB c b&&(jb a P c).all (λn=>Nat.beq n b)&&(List.range P).all λn=>!hasB c n||Hc a n||hasB d n) (xY a P b P d)
def Hd.Xn(n:Hd a0 a c)(P:i<a):a0.getD i true=c.testBit i:=by
 rw[<-n.bit i];have:i<a0.size:=by rw[n.size];exact P
 simp[this]
def Co(n:c1.ok h U=true)(b:Hd a0 U.size a)(d:c<U.size):wC c1 U.size a c=i_ h U a0 c:=by
 have P:=wB n c U.size b;unfold wC i_;simp only;rw[rK n P,P.Xn d]
 congr 1
 rw[Bool.eq_iff_iff,List.all_eq_true,List.all_eq_true];refine forall_congr' λf=>forall_congr' λe=>?_;rw[(wy n (List.mem_range.1 e)).2,P.bit,b.bit]
 rfl
def Sb(P:iG)(a b c:Nat):Bool:=(List.range a).all λn=>hasB (P.VY.getD c 0) n||hasB b n
def Un(e:c1.ok h U=true)(k:Hd a0 U.size a)(f:c<U.size):Sb c1 U.size a c=Region.free .any U a0 c:=by
 unfold iG.ok at e;simp only[Bool.and_eq_true]at e;have l:=Pg.out e.1.2;have b:c1.VY.getD c 0=Mf U c:=by rw[l];simp[f]
 unfold Sb Region.free;rw[b,Array.getElem?_eq_getElem f];simp only;rw[Bool.eq_iff_iff,List.all_eq_true,List.all_eq_true];refine forall_congr' λn=>forall_congr' λd=>?_;have d:=List.mem_range.1 d;rw[k.Xn d,Array.getElem?_eq_getElem d];unfold hasB Mf;rw[ph (λn=>Nat.beq n c||(match U[c]?,U[n]? with
  |some H,some j=>j.after.any (λb=>Region.binds .any b&&b.on==c)||H.apart U j
  |_,none=>true
  |none,_=>false)) (λn=>n) n]
 rw[Nat.zero_testBit,Bool.false_or];have P:∀g:Nat->Bool,((List.range U.size).any λb=>g b&&b==n)=g n:=λg=>by
  rw[Bool.eq_iff_iff,List.any_eq_true];constructor
  ·rintro⟨p,_,i⟩
   simp only[Bool.and_eq_true,beq_iff_eq]at i;rw[<-i.2];exact i.1
  ·intro m
   exact⟨n,List.mem_range.2 d,by simp[m]⟩
 rw[P];simp only[Array.getElem?_eq_getElem f,Array.getElem?_eq_getElem d];have o:(Nat.beq n c)=(n==c):=by rw[Bool.eq_iff_iff,Nat.beq_eq,beq_iff_eq]
 rw[o]
 cases(n==c)<;>cases a.testBit n<;>simp
def Y_(P:iG)(n:Bool)(b c a:Nat):Bool:=
 Sb P b c a&&(match P.kinds.getD a 2 with
  |0=>true
  |_=>match n with
   |true=>true
   |false=>wC P b c a)
def Nw(P:iG)(n:Bool)(b c a:Nat):Bool:=match n with
 |false=>false
 |true=>match P.kinds.getD a 2 with
  |0=>false
  |_=>!wC P b c a
def Mg(P:iG)(n b a:Nat):Bool:=(λc:Nat=>(jb P n c).all (λd=>Nat.beq d a)) (xY P n a n b)
def Sc(P:iG)(n a b:Nat)(d:Nat->Bool):Nat->Bool:=match Mg P n a b with
 |true=>(λe:Nat=>λc=>d c||hasB e c) (xY P n b n a)
 |false=>λ_=>true
def Sd(P:iG)(n:Bool)(a b c:Nat)(d:Nat->Bool):Nat->Bool:=match Nw P n a b c with
 |true=>Sc P a b c d
 |false=>d
def Se(n:c1.ok h U=true)(P:Hd a0 U.size a):Mg c1 U.size a c=rJ U a0 c:=by
 have b:=wB n c U.size P;unfold Mg rJ;simp only;rw[rK n b]
def Uo(n:c1.ok h U=true)(P:Hd a0 U.size a):Sc c1 U.size a c f6=yH U a0 c f6:=by
 have b:=wB n c U.size P;unfold Sc yH;rw[Se n P]
 cases rJ U a0 c
 ·rfl
 ·simp only
  funext j
  rw[b.bit]
  rfl
def tD(j:Program)(h:cf)(P:Array Oper)(b:iG)(g:Nat)(n:Bool)(k:Nat->Prop)(m:List PanicEntry->List Deferred->World->Prop)(l:cU->List Deferred->World->Prop):(Nat->Bool)->Nat->Nat->cU->List Deferred->World->Prop
 |W,0,c,a,d,e=>fE (jb b g c).isEmpty (l a d e)
 |W,o+1,c,a,d,e=>match Jk b (jb b g c)with
  |some f=>fE (Y_ b n g c f) (match P[f]? with
   |none=>False
   |some i=>pf P i h a (λa=>Um j h i (Nw b n g c f) k (λa=>tD j h P b g n k m l (Sd b n g c f W) o (Nat.lor c (bit f)) a d e) a e)
     (λa=>tD j h P b g n k m l W o (Nat.lor c (bit f)) (cA a i.dst undef) d e))
  |none=>match jb b g c with
   |[]=>l a d e
   |q=>pM q λf=>match P[f]? with
    |none=>False
    |some i=>pf P i h a (λa=>Uk j P h i (λr _ _ d e=>match r with
     | .panic s=>m s d e
     |_=>False) (λa d p=>Vh (n&&W f) k e p (tD j h P b g n k m l W o (Nat.lor c (bit f)) a d p)) a d e)
     (λa=>tD j h P b g n k m l W o (Nat.lor c (bit f)) (cA a i.dst undef) d e)
def yK{b c:Nat->Prop}:∀{a:List Nat},(∀n∈a,b n=c n)->pM a b=pM a c
 |[],_=>rfl
 |[n],P=>by
  unfold pM;exact P n (List.mem_cons_self ..)
 |n::f::g,P=>by
  unfold pM;rw[P n (List.mem_cons_self ..),yK λd e=>P d (List.mem_cons_of_mem _ e)]
def rL{f:Program}{k:cf}{n:Array Oper}{g:iG}(h:g.ok f n=true){a:Bool}{l:Nat->Prop}{m:List PanicEntry->List Deferred->World->Prop}{o:cU->List Deferred->World->Prop}:∀(W:Nat->Bool) (j:Nat) {P:Array Bool} {d:Nat},Hd P n.size d->
  tD f k n g n.size a l m o W j d=wx f k n a l m o W j P
 |W,0,P,d,i=>by
  funext e ds w
  unfold tD wx;rw[rK h i]
 |W,j+1,P,d,i=>by
  have p:∀W b,b<n.size->tD f k n g n.size a l m o W j (Nat.lor d (bit b))=wx f k n a l m o W j (P.setIfInBounds b true):=λW b c=>rL h W j (i.set c);have r:Jk g (jb g n.size d)=tC f n (jb g n.size d):=Nv h _ λb c=>wA c
  funext e ds w
  unfold tD wx;rw[rK h i,r]
  cases s:tC f n (jb g n.size d)with
  |some b=>
   have c:b<n.size:=wA (uO s).1;have t:Y_ g a n.size d b=Ya f n a P b:=by
    unfold Y_ Ya;rw[Un h i c,(wy h c).1,Co h i c]
    try(cases mW f n b<;>cases a<;>rfl)
   have q:Nw g a n.size d b=pg f n a P b:=by
    unfold Nw pg;rw[(wy h c).1,Co h i c]
   have u:Sd g a n.size d b W=wv f n a P b W:=by
    unfold Sd wv;rw[q,Uo h i]
   simp only[t,q,u,p _ b c]
   try(cases n[b]? <;>rfl)
  |none=>
   cases v:jb g n.size d with
   |nil=>rfl
   |cons x y=>
    simp only;refine yK λb c=>?_;have c:b<n.size:=wA (by rw[v];exact c);simp only[p _ b c]
    try(cases n[b]? <;>rfl)
def Vi(P:List (Nat×iG))(n:Nat):Option iG:=match P with
 |[]=>none
 |(a,b)::c=>match Nat.beq a n with
  |true=>some b
  |false=>Vi c n
def Hd.init(n:Nat):Hd (Array.replicate n false) n 0:=⟨by simp,λa=>by
 rw[Nat.zero_testBit]
 by_cases P:a<n
 ·simp[P]
 ·simp[P]⟩
def key:Code->Option Nat
 | .region id _ _=>some id
 | .seq P a=>match key P with
  |some b=>some b
  |none=>key a
 | .cond _ P a=>match key P with
  |some b=>some b
  |none=>key a
 | .block _ n=>key n
 | .loop n=>key n
 | .scope n=>key n
 |_=>none
def ES:List Oper->List Nat
 |[]=>[]
 |P::n=>match P.dst with
  |some a=>a::ES n
  |none=>ES n
def writes:Code->List Nat
 | .region _ P _=>ES P.toList
 | .seq a b=>writes a++writes b
 | .cond _ a b=>writes a++writes b
 | .block _ n=>writes n
 | .loop n=>writes n
 | .scope n=>writes n
 |_=>[]
def lr{P:List Oper}(n:S∈P)(b:S.dst=some a):a∈ES P:=by
 induction P with
 |nil=>cases n
 |cons d e c=>
  unfold ES
  cases n with
  |head=>rw[b];exact List.mem_cons_self ..
  |tail _ n=>split<;>simp[c n]
structure gA where
 loops:List (Nat×List (Nat×Value))
 RM:List (Nat×List (Nat×Value))
 keeps:List Nat
 RL:List Nat
 Xo:List (Nat×iG)
def Ph(P:List (Nat×List (Nat×Value)))(n:Option Nat):Option (List (Nat×Value)):=match n with
 |none=>none
 |some n=>match P with
  |[]=>none
  |(a,b)::c=>match Nat.beq a n with
   |true=>some b
   |false=>Ph c (some n)
def DW(P:List Nat)(n:Nat):Bool:=match P with
 |[]=>false
 |d::a=>match Nat.beq d n with
  |true=>true
  |false=>DW a n
def fp(P:List Nat):cU->(cU->Prop)->Prop
 |[],n=>n []
 |(a,c)::b,n=>match DW P a with
  |true=>fp P b n
  |false=>fp P b λd=>n ((a,c)::d)
def Fn:List Value->Type->Type
 |[],n=>n
 |z::P,n=>match z with
  | .int _ _=>Int->Fn P n
  | .bool _=>Bool->Fn P n
  | .string _=>ByteArray->Fn P n
  | .slice _ _ _=>Option Addr->Nat->Nat->Fn P n
  | .pointer (some _)=>Nat->Nat->Fn P n
  | .pointer none=>Option Addr->Fn P n
  | .map _=>Option Nat->Fn P n
  |_=>Value->Fn P n
def ap:(P:List Value)->Fn P (World->Prop)->List Value->World->Prop
 |[],n,_,a=>n a
 |z::P,n,b,a=>match b with
  |[]=>False
  |v::b=>match z,n with
   | .int e _,n=>match v with
    | .int f c=>fE (decide (f=e)) (ap P (n c) b a)
    |_=>False
   | .bool _,n=>match v with
    | .bool d=>ap P (n d) b a
    |_=>False
   | .string _,n=>match v with
    | .string g=>ap P (n g) b a
    |_=>False
   | .slice _ _ _,n=>match v with
    | .slice h c i=>ap P (n h c i) b a
    |_=>False
   | .pointer (some _),n=>match v with
    | .pointer (some ⟨d,j,none⟩)=>ap P (n d j) b a
    |_=>False
   | .pointer none,n=>match v with
    | .pointer k=>ap P (n k) b a
    |_=>False
   | .map _,n=>match v with
    | .map l=>ap P (n l) b a
    |_=>False
   | .float _ _,n=>ap P (n v) b a
   | .complex _ _ _,n=>ap P (n v) b a
   | .chan _,n=>ap P (n v) b a
   | .func _ _ _,n=>ap P (n v) b a
   | .nilFunc,n=>ap P (n v) b a
   | .iface _ _,n=>ap P (n v) b a
   | .nilIface,n=>ap P (n v) b a
   | .agg _,n=>ap P (n v) b a
   | .tuple _,n=>ap P (n v) b a
def mY:List Value->(List Value->Prop)->Prop
 |[],P=>P []
 |z::a,P=>match z with
  | .int d _=>∀b,mY a λn=>P (.int d b::n)
  | .bool _=>∀c,mY a λn=>P (.bool c::n)
  | .string _=>∀e,mY a λn=>P (.string e::n)
  | .slice _ _ _=>∀f b g,mY a λn=>P (.slice f b g::n)
  | .pointer (some _)=>∀c h,mY a λn=>P (.pointer (some ⟨c,h,none⟩)::n)
  | .pointer none=>∀i,mY a λn=>P (.pointer i::n)
  | .map _=>∀j,mY a λn=>P (.map j::n)
  |_=>∀k,mY a λn=>P (k::n)
def ap.all:∀{f:List Value} {h:Fn f (World->Prop)} {d:List Value} {i:World} {φ:List Value->Prop},d.length=f.length->ap f h d i->mY f φ->φ d
 |[],h,d,i,φ,g,_,c=>by
  cases d with
  |nil=>exact c
  |cons e d=>simp at g
 |z::f,h,d,i,φ,g,n,c=>by
  cases d with
  |nil=>simp at g
  |cons e d=>
   have a:d.length=f.length:=by simpa using g
   cases z
   case pointer r=>
    cases r with
    |none=>
     simp only[mY]at c
     cases e<;>try exact n.elim
     rename_i P;exact ap.all (φ:=λb=>φ (.pointer P::b)) a n (c P)
    |some _=>
     simp only[mY]at c
     cases e<;>try exact n.elim
     rename_i P
     cases P with
     |none=>exact n.elim
     |some P=>
      obtain⟨j,l,m⟩:=P
      cases m with
      |some m=>exact n.elim
      |none=>exact ap.all (φ:=λb=>φ (.pointer (some ⟨j,l,none⟩)::b)) a n (c j l)
   all_goals simp only[mY]at c
   case int k _=>
    cases e<;>try exact n.elim
    rename_i s o;obtain⟨t,n⟩:=fE.out n;obtain rfl:=of_decide_eq_true t;exact ap.all (φ:=λb=>φ (.int s o::b)) a n (c o)
   case bool=>
    cases e<;>try exact n.elim
    rename_i P;exact ap.all (φ:=λb=>φ (.bool P::b)) a n (c P)
   case string=>
    cases e<;>try exact n.elim
    rename_i P;exact ap.all (φ:=λb=>φ (.string P::b)) a n (c P)
   case slice=>
    cases e<;>try exact n.elim
    rename_i P p q;exact ap.all (φ:=λb=>φ (.slice P p q::b)) a n (c P p q)
   case map=>
    cases e<;>try exact n.elim
    rename_i P;exact ap.all (φ:=λb=>φ (.map P::b)) a n (c P)
   all_goals exact ap.all (φ:=λb=>φ (e::b)) a n (c e)
def Jl:DW b6 a=true↔a∈b6:=by
 induction b6 with
 |nil=>simp[DW]
 |cons n b P=>
  unfold DW
  cases h:Nat.beq n a with
  |true=>
   have:=Nat.eq_of_beq_eq_true h;simp[this]
  |false=>
   have:n≠a:=by rintro rfl;simp at h
   simp only[P,List.mem_cons];constructor
   ·exact .inr
   ·rintro(rfl|h)
    ·exact absurd rfl this
    ·exact h
def fp.out{d:List Nat}:∀{k:cU} {f:cU->Prop},fp d k f->∃b,(∀P n,n∉d->get P b n=get P k n)/\(∀P n,n∈d->get P b n=P n)/\f b
 |[],f,a=>⟨[],λ_ _ _=>rfl,λ_ _ _=>rfl,a⟩
 |(h,l)::m,f,a=>by
  unfold fp at a;split at a
  ·rename_i g
   have e:h∈d:=Jl.1 g;obtain⟨b,i,j,a⟩:=fp.out a;refine⟨b,λP n c=>?_,j,a⟩;rw[i P n c,eD,if_neg (by rintro rfl;exact c e)]
  ·rename_i g
   have e:h∉d:=λe=>by rw[Jl.2 e]at g;cases g
   obtain⟨b,i,j,a⟩:=fp.out a;refine⟨(h,l)::b,λP n c=>?_,λP n c=>?_,a⟩
   ·rw[eD,eD,i P n c]
   ·rw[eD,if_neg (by rintro rfl;exact e c),j P n c]
def je:List (Nat×Value)->List Value
 |[]=>[]
 |(_,n)::P=>n::je P
def Ad(n:cf)(P:cU):List (Nat×Value)->List Value
 |[]=>[]
 |(a,_)::b=>get n P a::Ad n P b
def yL:List (Nat×Value)->List Value->cU->cU
 |(P,_)::a,b::c,n=>(P,b)::yL a c n
 |_,_,n=>n
def kf(n:cf)(P:cU):∀a,(Ad n P a).length=(je a).length
 |[]=>rfl
 |(_,_)::b=>by simp[Ad,je,kf n P b]
def ET(a:cf)(P:Nat->Value)(b:cU):∀(f:List (Nat×Value)) (n:Nat),(∀g,get a b g=P g)->get a (yL f (f.map λc=>P c.1) b) n=P n
 |[],n,d=>d n
 |(h,j)::e,n,d=>by
  show get a ((h,P h)::yL e (e.map λc=>P c.1) b) n=_;rw[eD];split
  ·rename_i i;rw[i]
  ·exact ET a P b e n d
def Ax(n:cf)(P:cU):∀a,Ad n P a=a.map λb=>get n P b.1
 |[]=>rfl
 |(_,_)::c=>by simp[Ad,Ax n P c]
def Cp(n P:List Deferred)(a:Prop):Prop:=match n,P with
 |[],[]=>a
 |n,P=>n=P/\a
def Cp.out{n a:List Deferred}(P:Cp n a M):n=a/\M:=by
 unfold Cp at P;split at P
 ·exact⟨rfl,P⟩
 ·exact P
def Cq(d:cf->cU->List Deferred->World->Prop)(c:iY):iY:=λe n P a b=>match e with
 | .normal=>d n P a b
 | .exit id=>c (.exit id) n P a b
 | .goto f=>c (.goto f) n P a b
 | .ret=>c .ret n P a b
 | .panic g=>c (.panic g) n P a b
 | .outgrown=>False
def xZ(id:Nat)(n:iY):iY:=λe P a b c=>match e with
 | .exit d=>match Nat.beq d id with
  |true=>n .normal P a b c
  |false=>n (.exit d) P a b c
 | .normal=>n .normal P a b c
 | .goto f=>n (.goto f) P a b c
 | .ret=>n .ret P a b c
 | .panic g=>n (.panic g) P a b c
 | .outgrown=>False
def He(n:iY):iY:=λx P a b c=>match x with
 | .goto _=>False
 |x=>n x P a b c
def D(g:Program)(h:gA):Code->iY->cf->cU->List Deferred->World->Prop
 | .skip,d,b,n,P,a=>d .normal b n P a
 | .label _,d,b,n,P,a=>d .normal b n P a
 | .exit id,d,b,n,P,a=>d (.exit id) b n P a
 | .ret,d,b,n,P,a=>d .ret b n P a
 | .region id c m,d,b,n,P,a=>match m with
  |false=>Ci g b c d c.toList (λn P a=>d .normal b n P a) n P a
  |true=>match Nt g c.toList with
   |false=>fE (Region.lexB .any c) (tB g b c c.toList (λn=>∀e,bC a e->d .normal b n P e) n a)
   |true=>fE (Region.noSelect c) (match Vi h.Xo id with
    |none=>match DW h.keeps id with
     |true=>∀e,bC a e->∃f:Nat->Prop,wx g b c true f (λj P a=>∀b n,d (.panic j) b n P a) (λn P a=>d .normal b n P a) (λ_=>!DW h.RL id) c.size (Array.replicate c.size false) n P e
     |false=>∀e,bC a e->wx g b c false (λ_=>False) (λj P a=>∀b n,d (.panic j) b n P a) (λn P a=>d .normal b n P a) (λ_=>true) c.size (Array.replicate c.size false) n P e
    |some s=>fE (s.ok g c) (match DW h.keeps id with
     |true=>∀e,bC a e->∃f:Nat->Prop,tD g b c s c.size true f (λj P a=>∀b n,d (.panic j) b n P a) (λn P a=>d .normal b n P a) (λ_=>!DW h.RL id) c.size 0 n P e
     |false=>∀e,bC a e->tD g b c s c.size false (λ_=>False) (λj P a=>∀b n,d (.panic j) b n P a) (λn P a=>d .normal b n P a) (λ_=>true) c.size 0 n P e))
 | .seq o p,d,b,n,P,a=>match Ph h.RM (key p)with
  |none=>D g h o (Cq (λb n P a=>D g h p d b n P a) d) b n P a
  |some f=>∃w:Fn (je f) (World->Prop),D g h o (Cq (λk t l e=>Cp l P (ap (je f) w (Ad k t f) e)) d) b n P a/\
    fp (writes o) n λu=>mY (je f) λq=>∀(k:cf) (e:World),ap (je f) w q e->D g h p d k (yL f q u) P e
 | .cond i o p,d,b,n,P,a=>match ev b n i with
  | .bool y=>al y (D g h o d b n P a) (D g h p d b n P a)
  |_=>False
 | .block id i,d,b,n,P,a=>D g h i (xZ id d) b n P a
 | .scope i,d,b,n,P,a=>D g h i (He d) b n P a
 | .loop i,d,b,n,P,a=>match Ph h.loops (key i)with
  |none=>False
  |some f=>∃v:Nat->Fn (je f) (World->Prop),(∃r,ap (je f) (v r) (Ad b n f) a)/\
    ∀r,fp (writes i) n λu=>mY (je f) λq=>∀(k:cf) (e:World),ap (je f) (v r) q e->
     D g h i (Cq (λk t l e=>Cp l P (∃x,x<r/\ap (je f) (v x) (Ad k t f) e)) d) k (yL f q u) P e
 |_,_,_,_,_,_=>False
def du.mono{e f:cf}{g h:cU}{i d:List Nat}{j k:iY}(o:du a f h i j f2 K b)(p:∀n,n∈i->n∈d)(q:∀n,n∉d->get f h n=get e g n)(r:∀P c l b,j f2 P c l b->k f2 P c l b):du a e g d k f2 K b:=by
 obtain⟨P,c,s,t,u⟩:=o;exact⟨P,c,s,λn m=>(t n (λv=>m (p n v))).trans (q n m),r _ _ _ _ u⟩
def Jm{e c:cf}{P:Value}{a:Nat}:∀{d:cU},get e d a=P->c a=P->get c d a=P
 |[],_,n=>n
 |(g,h)::i,n,f=>by
  rw[eD]at n⊢;split
  ·rename_i b;rw[if_pos b]at n;exact n
  ·rename_i b;rw[if_neg b]at n;exact Jm n f
def wD{n:Nat}{B0:cf}{f b:cU}(d:List (Nat×Value))(g:K.tmps.size=n)(h:∀a P,P∉b6->get a b P=get a f P)(i:∀a P,P∈b6->get a b P=a P)(j:∀P,P∉b6->K.tmps.getD P undef=get B0 f P):
  Rel n (λP=>K.tmps.getD P undef) (yL d (d.map λk=>K.tmps.getD k.1 undef) b) K:=by
 refine⟨g,λP=>(ET _ (λP=>K.tmps.getD P undef) b d P λc=>?_).symm⟩
 by_cases e:c∈b6
 ·rw[i _ c e]
 ·rw[h _ c e]
  exact Jm (j c e).symm rfl
def oh(b:Rel a V Q K):∀n:List (Nat×Value),Ad V Q n=n.map λP=>K.tmps.getD P.1 undef:=λn=>by
 rw[Ax];exact List.map_congr_left λP _=>(b.slot P.1).symm
def lb{e:Program}{b:Array Oper}{f:World->Prop}{g h:Act->Prop}(c:∀n,g n->h n):∀(i:List Oper) (n:Act),wpQuiet e b f g i n->wpQuiet e b f h i n
 |[],n,a=>c n a
 |j::P,n,a=>by
  unfold wpQuiet at a⊢;split
  ·rename_i d
   rw[if_pos d]at a;exact Oper.quiet_mono (lb c P) a
  ·rename_i d
   rw[if_neg d]at a;exact lb c P _ a
variable{e9:gA}
def VZ(O:h.follows .mixedOrders=true):∀(x:Code) (m:iY) (d:cf) (b:cU) (g:Act) (f:World),
  (∀P,P∈writes x->P<a)->(∀H d b z f,m H d b z f->H≠.outgrown)->Rel a d b g->D h e9 x m d b g.defers f->x.wp h (du a d b (writes x) m) g f:=by
 intro x
 induction x with
 |skip=>intro m d b g f _ _ j n;exact wp_skip ⟨d,b,j,λ_ _=>rfl,n⟩
 |label Q=>intro m d b g f _ _ j n;exact wp_label ⟨d,b,j,λ_ _=>rfl,n⟩
 |exit id=>intro m d b g f _ _ j n;exact wp_exit ⟨d,b,j,λ_ _=>rfl,n⟩
 |ret=>intro m d b g f _ _ j n;exact wp_ret ⟨d,b,j,λ_ _=>rfl,n⟩
 |goto Q=>intro m d b g f _ _ j n;exact n.elim
 |refuse sv=>intro m d b g f _ _ j n;exact n.elim
 |scope x S=>
  intro m d b g f w A j n;refine wp_scope_straight (Code.wp_mono ?_ (S (He m) d b g f w (by intro o d b z f c L;subst L;exact A _ _ _ _ _ c rfl) j n));intro o p q k;obtain⟨t,s,u,v,c⟩:=k
  cases o with
  |goto Q=>exact c.elim
  |normal=>exact⟨t,s,u,v,c⟩
  |exit id=>exact⟨t,s,u,v,c⟩
  |ret=>exact⟨t,s,u,v,c⟩
  |panic I=>exact⟨t,s,u,v,c⟩
  |outgrown=>exact⟨t,s,u,v,c⟩
 |rangeFunc d4 ps H Z d5 d6=>intro m d b g f _ _ j n;exact n.elim
 |region id l J=>
  intro m d b g f w _ j n;have hl:∀T∈l.toList,∀U,T.dst=some U->U<a/\U∈writes (.region id l J):=λT R U hd=>⟨w U (lr R hd),lr R hd⟩
  have a1:∀a3 P,ke l a3=some P->P<a:=by
   intro a3 P V;unfold ke at V
   cases R:l[a3]? with
   |none=>rw[R]at V;simp at V
   |some T=>
    rw[R]at V;have c2:T∈l.toList:=by
     have:=Array.getElem?_eq_some_iff.1 R;obtain⟨b2,rfl⟩:=this;simp
    exact(hl T c2 P V).1
  cases J with
  |false=>exact wp_region_list (Aw a1 l.toList b g f hl j (λ_ _=>rfl) n)
  |true=>
   unfold D at n;simp only at n;split at n
   ·obtain⟨hB,n⟩:=fE.out n
    refine wp_region_quiet (C:=bC f) O hB ⟨1,rfl⟩ ?_;have:=rG (B0:=d) (e0:=b) (W:=writes (.region id l true)) a1 l.toList b g hl j (λ_ _=>rfl) n;refine lb ?_ _ _ this;rintro p ⟨e',a4,a5,c3,c⟩ q a6;exact⟨d,e',a4,c3,by rw[a5];exact c q a6⟩
   ·obtain⟨c4,n⟩:=fE.out n
    have B:∀(K:Bool) (r:Nat->Prop) (a7:Nat->Bool),wx h d l K r (λI z f=>∀d b,m (.panic I) d b z f) (λb z f=>m .normal d b z f) a7 l.size (Array.replicate l.size false) b g.defers (f.drewN 1)->(Code.region id l true).wp h (du a d b (writes (.region id l true)) m) g f:=λK r a7 n=>
     wp_region_any O (pd (λI g f n=>Cn.post I g f n) (λ_ _ n=>n) _ _ _ _ _ (mz (B0:=d) (e0:=b) (W:=writes (.region id l true)) a1 c4 hl a7 _ _ b g _ j (λ_ _=>rfl) n))
    split at n
    ·split at n
     ·obtain⟨r,n⟩:=n _ ⟨1,rfl⟩
      exact B _ r _ n
     ·exact B _ _ _ (n _ ⟨1,rfl⟩)
    ·obtain⟨hM,n⟩:=fE.out n
     split at n
     ·obtain⟨r,n⟩:=n _ ⟨1,rfl⟩
      rw[rL hM _ _ (Hd.init _)]at n;exact B _ r _ n
     ·have n:=n _ ⟨1,rfl⟩
      rw[rL hM _ _ (Hd.init _)]at n;exact B _ _ _ n
 |seq H Z C E=>
  intro m d b g f w A j n;have b3:∀P,P∈writes H->P<a:=λP i=>w P (List.mem_append.2 (.inl i));have b4:∀P,P∈writes Z->P<a:=λP i=>w P (List.mem_append.2 (.inr i));have e:∀(W:cf->cU->List Deferred->World->Prop) (o:Exit) (p:Act) (q:World),o≠.normal->du a d b (writes H) (Cq W m) o p q->du a d b (writes (H.seq Z)) m o p q:=by
   intro W o p q c5 k;refine k.mono (λP i=>List.mem_append.2 (.inl i)) (λ_ _=>rfl) λt s d7 w1 c=>?_
   cases o with
   |normal=>exact absurd rfl c5
   |outgrown=>exact c.elim
   |_=>exact c
  have b5:∀(W:cf->cU->List Deferred->World->Prop) o d b z f,Cq W m o d b z f->o≠.outgrown:=by
   intro W o d b z f c L;subst L;exact c.elim
  unfold D at n;split at n
  ·have hx:=C _ d b g f b3 (b5 _) j n
   refine wp_seq (Code.wp_mono ?_ hx);intro o p q k
   cases o with
   |normal=>
    obtain⟨t,s,u,v,c⟩:=k;have hy:=E m t s p q b4 A u c;refine Code.wp_mono (λo b6 b7 k=>?_) hy;refine k.mono (λP i=>List.mem_append.2 (.inr i)) (λP i=>v P λO=>i (List.mem_append.2 (.inl O))) λ_ _ _ _ c=>c
   |exit id=>exact e _ _ _ _ (by simp) k
   |goto Q=>exact e _ _ _ _ (by simp) k
   |ret=>exact e _ _ _ _ (by simp) k
   |panic I=>exact e _ _ _ _ (by simp) k
   |outgrown=>exact e _ _ _ _ (by simp) k
  ·rename_i r hS
   obtain⟨d8,n,a8⟩:=n;obtain⟨s,h1,h2,a8⟩:=fp.out a8;have hx:=C _ d b g f b3 (b5 _) j n;refine wp_seq (Code.wp_mono ?_ hx);intro o p q k
   cases o with
   |normal=>
    obtain⟨M,N,y,a0,c⟩:=k;obtain⟨a2,hJ⟩:=Cp.out c;have hv:=oh y r;have a9:=kf M N r;have b8:=ap.all a9 hJ a8 (λP=>p.tmps.getD P undef) q hJ;rw[hv,<-a2]at b8;have b9:=wD (n:=a) r y.size h1 h2 (B0:=d) (λP i=>(y.slot P).trans (a0 P i));have hy:=E m _ _ p q b4 A b9 b8;refine Code.wp_mono (λo b6 b7 k=>?_) hy;refine k.mono (λP i=>List.mem_append.2 (.inr i)) (λP i=>?_) λ_ _ _ _ c=>c;rw[<-b9.slot];exact(y.slot P).trans (a0 P λO=>i (List.mem_append.2 (.inl O)))
   |exit id=>exact e _ _ _ _ (by simp) k
   |goto Q=>exact e _ _ _ _ (by simp) k
   |ret=>exact e _ _ _ _ (by simp) k
   |panic I=>exact e _ _ _ _ (by simp) k
   |outgrown=>exact e _ _ _ _ (by simp) k
 |cond x H Z C E=>
  intro m d b g f w A j n;unfold D at n;split at n
  ·rename_i c6 F
   refine wp_cond_split (t:=c6) (by rw[j.eval];exact F) (λi=>?_) (λhf=>?_)
   ·subst i
    refine Code.wp_mono (λo p q k=>?_) (C m d b g f (λP i=>w P (List.mem_append.2 (.inl i))) A j n);exact k.mono (λP i=>List.mem_append.2 (.inl i)) (λ_ _=>rfl) λ_ _ _ _ c=>c
   ·subst hf
    refine Code.wp_mono (λo p q k=>?_) (E m d b g f (λP i=>w P (List.mem_append.2 (.inr i))) A j n);exact k.mono (λP i=>List.mem_append.2 (.inr i)) (λ_ _=>rfl) λ_ _ _ _ c=>c
  ·exact n.elim
 |block id x S=>
  intro m d b g f w A j n;refine wp_block (Code.wp_mono ?_ (S (xZ id m) d b g f w (by intro o d b z f c L;subst L;exact c.elim) j n));intro o p q k;obtain⟨t,s,u,v,c⟩:=k
  cases o with
  |exit X=>
   show(if X=id then _ else _);simp only[xZ]at c
   cases F:Nat.beq X id with
   |true=>
    rw[F]at c;rw[if_pos (Nat.eq_of_beq_eq_true F)];exact⟨t,s,u,v,c⟩
   |false=>
    rw[F]at c;rw[if_neg (by rintro rfl;simp at F)];exact⟨t,s,u,v,c⟩
  |normal=>exact⟨t,s,u,v,c⟩
  |goto Q=>exact⟨t,s,u,v,c⟩
  |ret=>exact⟨t,s,u,v,c⟩
  |panic I=>exact⟨t,s,u,v,c⟩
  |outgrown=>exact c.elim
 |loop x S=>
  intro m d b g f w A j n;unfold D at n;split at n
  ·exact n.elim
  ·rename_i r hS
   obtain⟨c7,⟨m0,h0⟩,c8⟩:=n;refine wp_loop_ghost (λb0 p q=>p.tmps.size=a/\(∀P,P∉writes x->p.tmps.getD P undef=get d b P)/\p.defers=g.defers/\
    ap (je r) (c7 b0) (r.map λb1=>p.tmps.getD b1.1 undef) q) m0 ⟨j.size,λP _=>j.slot P,rfl,by rw[<-oh j r];exact h0⟩ ?_
   rintro b0 p q ⟨c9,c0,a2,hI⟩;obtain⟨s,h1,h2,d0⟩:=fp.out (c8 b0);have a9:(r.map λb1=>p.tmps.getD b1.1 undef).length=(je r).length:=by rw[<-kf d b r,Ax];simp
   have F:=ap.all a9 hI d0 (λP=>p.tmps.getD P undef) q hI;have c1:=wD (n:=a) r c9 h1 h2 c0;rw[<-a2]at F;have d1:=S _ _ _ p q w (by intro o d b z f c L;subst L;exact c.elim) c1 F;refine Code.wp_mono ?_ d1;intro o b6 b7 k;obtain⟨M,N,y,a0,c⟩:=k;have Y:∀P,P∉writes x->get M N P=get d b P:=λP i=>(a0 P i).trans ((c1.slot P).symm.trans (c0 P i))
   cases o with
   |normal=>
    obtain⟨d2,m',b2,d3⟩:=Cp.out c;refine⟨m',b2,y.size,λP i=>(y.slot P).trans (Y P i),d2.trans a2,?_⟩;rw[<-oh y r];exact d3
   |outgrown=>exact c.elim
   |exit id=>exact⟨M,N,y,Y,c⟩
   |goto Q=>exact⟨M,N,y,Y,c⟩
   |ret=>exact⟨M,N,y,Y,c⟩
   |panic I=>exact⟨M,N,y,Y,c⟩
def Jn(n:Program):List ResultVar->cf->cU->World->(List Value->Prop)->Prop
 |[],_,_,_,P=>P []
 |g::f,a,b,d,P=>match g with
  | .tmp c=>Jn n f a b d λe=>P (get a b c::e)
  | .cell h c=>fE (known n c) (js n c (get a b h) d λi=>Jn n f a b d λe=>P (i::e))
def oneOf(n:List Value):Value:=match n with
 |[P]=>P
 |n=>.tuple n.toArray
def Lv(c:Program)(n:World->Prop)(e:List PanicEntry->World->Prop):List Deferred->FrameMode->World->Prop
 |[],.returning,a=>n a
 |[],.panicking P,a=>e P a
 |[],.run,_=>False
 |d::g,h,a=>h≠.run/\∃f b,d.target= .fn (.func f) b/\enters c f=true/\
   CallsD c f (d.args++b) h a λk i j=>RY k (λ_=>Lv c n e g (settle i) j) (λl=>Lv c n e g (raised i l) j)
def gR(P:Program)(b:Func)(c:cf)(d:cU)(a:Ending->World->Prop)(e:List Deferred)(f:FrameMode)(n:World):Prop:=
 Lv P (λn=>Jn P b.results.toList c d n λg=>a (.returned (oneOf g)) n) (λh n=>a (.panicked h) n) e f n
def TI(n:Program)(P:Func)(a:Ending->World->Prop):iY:=λf b c d e=>match f with
 | .normal=>gR n P b c a d .returning e
 | .ret=>gR n P b c a d .returning e
 | .panic g=>gR n P b c a d (.panicking g) e
 |_=>False
def Cr(n:Array Value):ResultVar->Sem Value
 | .tmp P=>pure (n.getD P undef)
 | .cell a P=>do loadVar P (<-asAddr (n.getD a undef))
def rN{c:Program}{k:cf}{l:cU}{p:Nat}{b:Act}(d:Rel p k l b){a:World}:∀{g:List ResultVar} {e:List Value->Prop},Jn c g k l a e->
  ∃f,(g.mapM (Cr b.tmps)).run c a=Result.ok f a/\e f
 |[],e,n=>⟨[],by rw[List.mapM_nil];rfl,n⟩
 |q::g,e,n=>by
  unfold Jn at n
  cases q with
  |tmp h=>
   obtain⟨f,i,n⟩:=rN d n;refine⟨_,?_,n⟩;rw[List.mapM_cons];simp only[Cr,Sem.run_bind,Sem.run_pure,Result.andThen_ok,i,d.slot]
  |cell j h=>
   obtain⟨r,n⟩:=fE.out n;obtain⟨s,t,n⟩:=js.out (known.out r).1 n;obtain⟨f,i,n⟩:=rN d n;refine⟨_,?_,n⟩;rw[List.mapM_cons];have P:=t a rfl;rw[<-d.slot]at P;have:(Cr b.tmps (.cell j h)).run c a= .ok s a:=by
    unfold Cr
    cases m:b.tmps.getD j undef<;>rw[m]at P<;>simp only[Instr.loadAt,Instr.sureAddr,stuck,Sem.run_bind,Sem.run_halt,Result.andThen,reduceCtorEq]at P
    rename_i o
    cases o with
    |none=>simp at P
    |some o=>
          show(do loadVar h (<-asAddr (b.tmps.getD j undef)):Sem Value).run c a=_;rw[m];simpa[asAddr]using P
   simp only[Sem.run_bind,this,Sem.run_pure,Result.andThen_ok,i]
def rO(P:(a8.results.toList.mapM (Cr K.tmps)).run h b=Result.ok a4 b):(results a8 K.tmps).run h b= .ok (oneOf a4) b:=by
 have a:(a8.results.mapM (Cr K.tmps)).run h b=Result.ok a4.toArray b:=by
  rw[Array.mapM_eq_mapM_toList,Sem.run_map,P]
  rfl
 have c:(results a8 K.tmps)=(a8.results.mapM (Cr K.tmps)>>=λn=>pure (if P:n.size=1 then n[0]else Value.tuple n)):=by
   unfold results
   congr 2
 rw[c];simp only[Sem.run_bind,a,Result.andThen_ok,Sem.run_pure]
 congr 1
 match a4 with
 |[]=>rfl
 |[v]=>rfl
 |v::d::e=>
  rw[dif_neg (by simp)]
  rfl
def om{h:Program}{i:Func}{j:cf}{k:cU}{r:Nat}{l:Act}(e:Rel r j k l){m:Ending->World->Prop}:∀(a:List Deferred) (f:FrameMode) (P:World),
  gR h i j k m a f P->Leaves h i l.tmps m a f P
 |[],.returning,P,n=>by
  obtain⟨C,s,n⟩:=rN e n;exact⟨_,rO s,n⟩
 |[],.panicking t,P,n=>n
 |[],.run,P,n=>n.elim
 |d::a,f,P,n=>by
  obtain⟨u,o,b,p,v,w⟩:=n;refine⟨u,.func o,b,o,d.args++b,p,?_,?_⟩
  ·rw[p];simp only[invoke];exact iZ v _ _
  ·intro x cs y
   obtain⟨q,z,A,B,g,c⟩:=w x cs y;refine⟨q,z,A,B,?_,c⟩
   cases q with
   |returned E=>exact om e a _ _ g
   |panicked t=>exact om e a _ _ g
   |outgrown=>exact g.elim
def fw:Nat->List Value->cU
 |_,[]=>[]
 |n,P::a=>(n,P)::fw (n+1) a
def pk:∀(a:List Value) (n P:Nat),get (λ_=>undef) (fw n a) P=if n<=P then a.getD (P-n) undef else undef
 |[],n,P=>by simp[fw,get]
 |v::d,n,P=>by
  rw[fw,eD,pk d (n+1) P]
  by_cases b:n=P
  ·subst b;simp
  ·rw[if_neg b]
   by_cases c:n+1<=P
   ·rw[if_pos c,if_pos (by omega),show P-n=(P-(n+1))+1 from by omega];rfl
   ·rw[if_neg c,if_neg (by omega)]
def vk(n:Nat):List Nat->Bool
 |[]=>true
 |d::P=>match Nat.blt d n with
  |true=>vk n P
  |false=>false
def lI{b:Nat}:∀{c:List Nat},vk b c=true->∀n,n∈c->n<b
 |[],_,n,P=>by cases P
 |d::f,a,n,P=>by
  unfold vk at a;split at a
  ·rename_i e
   cases P with
   |head=>
        have:d+1<=b:=by simpa[Nat.blt]using e
        omega
   |tail _ P=>exact lI a n P
  ·cases a
def gg(e:gA)(f:h.follows .mixedOrders=true)(g:h.funcs[A]? =some a8)(i:a8.body=some a2)(r:o.size<=a8.ntmps)(j:vk a8.ntmps (writes a2)=true)(k:D h e a2 (TI h a8 s) (λ_=>undef) (fw 0 o.toList) [] b):Calls h A o b s:=by
 refine calls_of_wp_defers g i ?_;have l:Rel a8.ntmps (λ_=>undef) (fw 0 o.toList) {tmps:=o++Array.replicate (a8.ntmps-o.size) undef,defers:=[]}:=by
  refine⟨by simp;omega,λa=>?_⟩;rw[pk,if_pos (Nat.zero_le _),Nat.sub_zero];simp only[Array.getD_eq_getD_getElem?,List.getD_eq_getElem?_getD,Array.getElem?_append,Array.getElem?_toList]
  by_cases c:a<o.size
  ·simp[c]
  ·rw[if_neg c]
   simp only[Array.getElem?_replicate];have:o[a]? =none:=by simp;omega
   rw[this];split<;>rfl
 refine Code.wp_mono ?_ (VZ f a2 (TI h a8 s) _ _ _ b (lI j) (by intro d m p t b n q;subst q;exact n.elim) l k);rintro d u v ⟨m,p,P,_,n⟩
 cases d with
 |normal=>exact om P _ _ _ n
 |ret=>exact om P _ _ _ n
 |panic w=>exact om P _ _ _ n
 |exit id=>exact n.elim
 |goto x=>exact n.elim
 |outgrown=>exact n.elim
def EU(b:Program)(c:Func)(n:Ending->World->Prop):iY:=λf d e P a=>match f with
 | .normal=>(match P with
  |[]=>gR b c d e n [] .returning a
  |_=>False)
 | .ret=>(match P with
  |[]=>gR b c d e n [] .returning a
  |_=>False)
 | .panic g=>(match P with
  |[]=>n (.panicked g) a
  |_=>False)
 |_=>False
def EU.out{P:Program}(j:Rel a V Q K)(n:EU P a8 s f2 V Q K.defers b):
  K.defers=[]/\((f2= .normal\/f2= .ret)/\(∃c,(results a8 K.tmps).run P b= .ok c b/\s (.returned c) b)\/∃h,f2= .panic h/\s (.panicked h) b):=by
 have d:∀e,K.defers=e->(match e with
  |[]=>gR P a8 V Q s [] .returning b
  |_=>False)->e=[]/\∃c,(results a8 K.tmps).run P b= .ok c b/\s (.returned c) b:=by
  intro e i n;split at n
  ·obtain⟨l,k,n⟩:=rN j n
   exact⟨rfl,_,rO k,n⟩
  ·exact n.elim
 unfold EU at n;split at n
 ·obtain⟨f,g⟩:=d _ rfl n
  exact⟨f,.inl ⟨.inl rfl,g⟩⟩
 ·obtain⟨f,g⟩:=d _ rfl n
  exact⟨f,.inl ⟨.inr rfl,g⟩⟩
 ·split at n
  ·rename_i i
   exact⟨i,.inr ⟨_,rfl,n⟩⟩
  ·exact n.elim
 ·exact n.elim
def x_(c:o.size<=a)(b:List Deferred):Rel a (λ_=>undef) (fw 0 o.toList) {tmps:=o++Array.replicate (a-o.size) undef,defers:=b}:=by
 refine⟨by simp;omega,λn=>?_⟩;rw[pk,if_pos (Nat.zero_le _),Nat.sub_zero];simp only[Array.getD_eq_getD_getElem?,List.getD_eq_getElem?_getD,Array.getElem?_append,Array.getElem?_toList]
 by_cases P:n<o.size
 ·simp[P]
 ·rw[if_neg P]
  simp only[Array.getElem?_replicate];have:o[n]? =none:=by simp;omega
  rw[this];split<;>rfl
def Bl(e:gA)(f:h.follows .mixedOrders=true)(g:h.funcs[A]? =some a8)(i:a8.body=some a2)(j:o.size<=a8.ntmps)(k:vk a8.ntmps (writes a2)=true)(n:D h e a2 (EU h a8 s) (λ_=>undef) (fw 0 o.toList) [] b):CallsD h A o b1 b λP l d=>l=b1/\s P d:=by
 refine callsD_of_wp g i (Code.wp_mono ?_ (VZ f a2 (EU h a8 s) _ _ _ b (lI k) (by intro m p P t b a q;subst q;exact a.elim) (x_ j []) n));rintro m u d ⟨p,P,r,_,a⟩;obtain⟨c,(⟨rfl|rfl,n⟩|⟨v,rfl,n⟩)⟩:=a.out r
 ·exact⟨c,n⟩
 ·exact⟨c,n⟩
 ·exact⟨c,n⟩
def uf:FrameMode->Value
 | .panicking ({v,recovered:=false,goexit:=false}::_)=>v
 |_=>.nilIface
def iP:FrameMode->FrameMode
 | .panicking ({v,recovered:=false,goexit:=false}::older)=>.panicking ({v,recovered:=true}::older)
 |u=>u
def Mh{P:Frame}{cs:List Frame}(d:P.mode=b1):recoverD (P::cs)=some (uf b1,{P with mode:=iP b1}::cs)\/(recoverD (P::cs)=none/\uf b1= .nilIface/\iP b1=b1):=by
 subst d;unfold recoverD;simp only;split
 ·rename_i a
  left;rw[a]
  rfl
 ·rename_i c
  right;refine⟨rfl,?_,?_⟩
  ·unfold uf
   split
   ·rename_i b n a;exact absurd a (c b n)
   ·rfl
  ·unfold iP
   split
   ·rename_i b n a;exact absurd a (c b n)
   ·rfl
def Rp(t:gA){id:Nat}{d:Tmp}{e:Array TypeId}(u:h.follows .mixedOrders=true)(v:h.funcs[A]? =some a8)(w:a8.body=some (.seq (.region id #[S] false) a2))(x:S.op= .call {callee:=.builtin .recover,args:= #[],argTypes:=e})(a:S.dst=some d)(y:S.guard=none)(z:Nat.blt d a8.ntmps=true)(B:o.size<=a8.ntmps)(C:vk a8.ntmps (writes a2)=true)(c:D h t a2 (EU h a8 λf k=>i0 f (iP b1) k) (λ_=>undef) ((d,uf b1)::fw 0 o.toList) [] b):CallsD h A o b1 b i0:=by
 refine callsD_of_wpS v w λn cs l=>wpS_seq (wpS_region ?_);have E:∀m:Act,(execOp m.eval S).run h b= .ok .recover b:=λm=>by simp[execOp,x,resolve,invoke,builtin]
 have F:∀p,Region.wanted S p=true:=λp=>by simp[Region.wanted,y]
 have H:d+1<=a8.ntmps:=by simpa[Nat.blt]using z
 have q:∀(g:Value) (P:List Frame),g=uf b1->P={n with mode:=iP b1}::cs->
   a2.wpS h (bodyPostS h a8 n cs i0) (({tmps:=o++Array.replicate (a8.ntmps-o.size) undef,defers:=[]}:Act).put S.dst g) P b:=by
  rintro g P rfl rfl;refine wpS_of_wp ?_;have r:=(x_ B []).put S.dst (λO s=>by rw[a]at s;exact(Option.some.inj s)▸H) (uf b1);rw[a]at r⊢;refine Code.wp_mono ?_ (VZ u a2 _ _ _ _ b (lI C) (by intro I J f Q b i K;subst K;exact i.elim) r c);rintro I R k ⟨J,f,L,_,i⟩;obtain⟨a,(⟨rfl|rfl,c⟩|⟨T,rfl,c⟩)⟩:=i.out L
  ·exact⟨a,_,rfl,c⟩
  ·exact⟨a,_,rfl,c⟩
  ·exact⟨a,_,rfl,c⟩
 simp only[show(List.range (#[S]:Array Oper).size)=[0]from rfl,wpOpsS,List.getElem?_toArray,List.getElem?_cons_zero,F,if_true,E];rcases Mh (cs:=cs) l with j|⟨j,M,N⟩
 ·rw[j]
  exact q _ _ rfl rfl
 ·rw[j]
  exact q _ _ M.symm (by rw[N,<-l])
def Bm(n:IntKind)(P a:Int):Int:=n.wrap (BitVec.ofInt n.bits P&&&BitVec.ofInt n.bits a).toNat
def PZ(n:IntKind)(P a:Int):Int:=n.wrap (BitVec.ofInt n.bits P|||BitVec.ofInt n.bits a).toNat
def qU(n:IntKind)(P a:Int):Int:=n.wrap (BitVec.ofInt n.bits P ^^^ BitVec.ofInt n.bits a).toNat
def mj(n:IntKind)(P a:Int):Int:=n.wrap (BitVec.ofInt n.bits P&&& ~~~BitVec.ofInt n.bits a).toNat
def IH(n:IntKind)(P a:Int):Int:=n.wrap (P*2 ^(min a.toNat n.bits))
def iA(n:IntKind)(P a:Int):Int:=P.fdiv (2 ^(min a.toNat n.bits))
def oM(n:M:=by omega):M:=n
def sM(n:M:=by simp):M:=n
def dC(n:M:=by decide):M:=n
def kR(n:M:=by kernel_rfl):M:=n
abbrev Qq:= @List.getElem?_eq_getElem
abbrev Qx:= @Int.toNat_natCast
abbrev Qz:= @List.take_of_length_le
abbrev Qj:= @Nat.zero_le
abbrev Qv:= @List.getElem?_eq_some_iff
abbrev Qw:= @List.take_add_one
abbrev Qk:= @Nat.lt_of_lt_of_le
abbrev Qy:= @List.length_take
abbrev QQ:= @List.getD_eq_getElem?_getD
abbrev QX:= @List.length_append
abbrev QZ:= @List.mem_of_getElem?
abbrev QJ:= @List.mem_cons_of_mem
abbrev QV:= @List.mem_cons_self
abbrev QW:= @List.eq_nil_of_length_eq_zero
abbrev QK:= @Bool.and_eq_true
abbrev QY:= @List.map_cons
abbrev Q0:= @Nat.mul_le_mul_right
abbrev Q1:= @Option.some.injEq
abbrev Q2:= @List.mem_cons
abbrev Q3:= @List.map_append
abbrev Q4:= @Nat.le_refl
abbrev Q5:= @Array.getElem?_eq_some_iff
abbrev Q6:= @List.mem_append
abbrev Q7:= @List.getElem?_eq_none
abbrev Q8:= @List.length_map
abbrev Q9:= @List.getElem?_map
abbrev Xq:= @List.length_cons
abbrev Xx:= @Nat.le_trans
abbrev Xz:= @Nat.zero_add
abbrev Xj:= @List.getElem?_set
abbrev Xv:= @decide_eq_false
abbrev Xw:= @List.getElem?_take
abbrev Xk:= @List.mem_map
abbrev Xy:= @of_decide_eq_false
abbrev XQ:= @List.append_assoc
abbrev XX:= @Value.slice.injEq
abbrev XZ:= @List.length_drop
abbrev XJ:= @Option.some.inj
abbrev XV:= @of_decide_eq_true
abbrev XW:= @List.getElem?_append_left
abbrev XK:= @Array.length_toList
abbrev XY:= @List.getElem_mem
abbrev X2:= @Nat.min_eq_left
abbrev X3:= @List.ext_getElem?
abbrev X4:= @List.drop_eq_getElem_cons
abbrev X6:= @Array.getElem?_eq_getElem
abbrev X7:= @Nat.add_mul
abbrev X8:= @List.getElem?_append_right
abbrev X9:= @Nat.eq_of_beq_eq_true
abbrev Zq:= @if_neg
abbrev Zx:= @if_pos
abbrev Zz:= @absurd
abbrev Zj:= @congrArg
abbrev Zv:= @Nat.le_of_ble_eq_true
abbrev Zw:= @List.take_succ_cons
abbrev Zk:= @decide_eq_true_eq
abbrev Zy:= @decide_eq_true
abbrev ZQ:= @List.length_nil
abbrev ZX:= @List.take_append_drop
abbrev ZZ:= @List.getElem?_cons_succ
abbrev ZJ:= @List.getElem?_cons_zero
abbrev ZV:= @List.mem_append_left
abbrev ZW:= @List.mem_append_right
abbrev ZK:= @UInt8.toNat_ofNat'
abbrev ZY:= @List.all_eq_true
abbrev ZT:=Value.int .i64
abbrev L2 (b:Nat):Value:=.pointer (some ⟨b,0,none⟩)
abbrev PP (b:Nat):Option Addr:=some ⟨b,0,none⟩
abbrev LL:=Nat->Prop
abbrev L1:=Value->World->Prop
abbrev RK:=Ending->World->Prop
abbrev UV:=World->Prop
abbrev ac:=Option Addr

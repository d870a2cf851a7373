import Derived.Tactics
import Derived.Defers
import Derived.Recover
import Derived.Deep.Quiet
import Derived.Deep.LoopGhost
import Derived.Laws.Entries
import Derived.Laws.Tables
import Derived.Laws.Cells
import Derived.Scope
set_option linter.all false
namespace Go.au
open Go
structure ak (S:Nat->Prop) (w w':World):Prop where
 os:w'.os=w.os
 tape:w'.tape=w.tape
 output:w'.output=w.output
 size:w.heap.size<=w'.heap.size
 block:∀k,k<w.heap.size->¬S k->w'.heap[k]? =w.heap[k]?
def get(P:Nat->Value):List (Nat×Value)->Nat->Value
 |[],n=>P n
 |(a,b)::c,n=>match Nat.beq a n with
  |true=>b
  |false=>get P c n
abbrev cu:=List (Nat×Value)
def ev(n:Nat->Value)(P:cu):Operand->Value
 | .tmp a=>get n P a
 | .const b=>b
 | .global c=>.pointer (some ⟨c,0,none⟩)
 | .func d=>.func (.func d) #[] #[]
def bH(P:cu)(n:Option Tmp)(a:Value):cu:=match n with
 |some n=>(n,a)::P
 |none=>P
structure Rel (n:Nat) (B:Nat->Value) (e:cu) (a:Act):Prop where
 size:a.tmps.size=n
 slot:∀t,a.tmps.getD t undef=au.get B e t
def dx(a:Nat->Value)(b:cu)(P n:Nat)(c:Value):get a ((P,c)::b) n=if P=n then c else get a b n:=by
 show(match Nat.beq P n with|true=>c|false=>get a b n)=_
 by_cases d:P=n
 ·subst d;simp
 ·have:Nat.beq P n=false:=by
   cases e:Nat.beq P n
   ·rfl
   ·exact absurd (Nat.eq_of_beq_eq_true e) d
  rw[this,if_neg d]
def Rel.eval{b:Nat}{n:Nat->Value}{P:cu}{a:Act}(c:Rel b n P a):a.eval=ev n P:=by
 funext d
 cases d with
 |tmp e=>exact c.slot e
 |const f=>rfl
 |global g=>rfl
 |func h=>rfl
def Rel.put{b:Nat}{f:Nat->Value}{g:cu}{c:Act}(a:Rel b f g c)(n:Option Tmp)(h:∀P,n=some P->P<b)(d:Value):Rel b f (bH g n d) (c.put n d):=by
 cases n with
 |none=>exact a
 |some n=>
  have i:=h n rfl;refine⟨by simp[Act.put,a.size],λP=>?_⟩;show(c.tmps.setIfInBounds n d).getD P undef=_;rw[bH,dx,<-a.slot];have j:=a.size
  by_cases e:n=P
  ·subst e
   simp[j,i]
  ·rw[if_neg e]
   simp only[Array.getD_eq_getD_getElem?];rw[Array.getElem?_setIfInBounds_ne e]
variable{H:Act}{f2:Act->World->Prop}{d0:Addr}{Z:Array Bool}{U:Array Oper}{l:Array Value}{K:Bool}{a1:Code}{h8:Ending->FrameMode->World->Prop}{A:Ending->World->Prop}{e4:Exit}{d5:Exit->Act->World->Prop}{a9:FrameMode}{a6:Func}{z:FuncId}{b4:List Nat}{f1:List PanicEntry->Act->World->Prop}{a4:List PanicEntry->World->Prop}{a3:List Value}{a c i:Nat}{f3:Nat->Bool}{Y f:Nat->Prop}{S:Oper}{e2:Operand->Value}{h:Program}{L a7:Prop}{g7:Sem Unit}{d9:Sem Value}{g:TypeId}{e9:TypeInfo}{b8 v:Value}{M:Value->Prop}{h6 m s:Value->World->Prop}{a5 b k:World}{y:World->Prop}{Q:cu}{h7:cu->List Deferred->World->Prop}{f0:cu->Prop}
def Rel.defers{n:Nat->Value}(P:Rel a n Q H)(b:List Deferred):Rel a n Q {H with defers:=b}:=⟨P.size,P.slot⟩
def put_defers(n:Act)(P:Option Tmp)(a:Value):(n.put P a).defers=n.defers:=by cases P<;>rfl
def an(n:Bool)(P a:Prop):Prop:=match n with
 |true=>P
 |false=>a
def an.mk(n:K=true->L)(P:K=false->a7):an K L a7:=by
 cases K
 ·exact P rfl
 ·exact n rfl
def an.tt(n:K=true)(P:L):an K L a7:=by subst n;exact P
def an.ff(n:K=false)(P:a7):an K L a7:=by subst n;exact P
def NZ(a:Value)(n:Value->Prop):Prop:=match a with
 | .int b _=>∃P,n (.int b P)
 | .bool _=>∃c,n (.bool c)
 | .string _=>∃d,n (.string d)
 | .slice _ _ _=>∃e P f,n (.slice e P f)
 | .pointer _=>∃g,n (.pointer g)
 | .map _=>∃h,n (.map h)
 |_=>∃i,n i
def NZ.out{z:Value}{φ:Value->Prop}(n:NZ z φ):∃P,φ P:=by
 unfold NZ at n;split at n
 ·exact⟨_,n.choose_spec⟩
 ·exact⟨_,n.choose_spec⟩
 ·exact⟨_,n.choose_spec⟩
 ·obtain⟨a,b,c,n⟩:=n;exact⟨_,n⟩
 ·exact⟨_,n.choose_spec⟩
 ·exact⟨_,n.choose_spec⟩
 ·exact n
def PH:List Value->(List Value->Prop)->Prop
 |[],n=>n []
 |z::P,n=>NZ z λa=>PH P λb=>n (a::b)
def PH.out:∀{P:List Value} {φ:List Value->Prop},PH P φ->∃l,l.length=P.length/\φ l
 |[],_,n=>⟨[],rfl,n⟩
 |z::P,φ,n=>by
  obtain⟨a,n⟩:=NZ.out n;obtain⟨l,b,n⟩:=PH.out n;exact⟨a::l,by simp[b],n⟩
def tH(z:Value)(n:Value->Prop):Prop:=match z with
 | .agg P=>PH P.toList λa=>n (.agg a.toArray)
 |z=>NZ z n
def tH.out{z:Value}{φ:Value->Prop}(n:tH z φ):∃P,φ P:=by
 unfold tH at n;split at n
 ·obtain⟨l,_,n⟩:=PH.out n;exact⟨_,n⟩
 ·exact NZ.out n
def Um:List Value->(List Value->Prop)->Prop
 |[],n=>n []
 |z::P,n=>tH z λa=>Um P λb=>n (a::b)
def Um.out:∀{P:List Value} {φ:List Value->Prop},Um P φ->∃l,φ l
 |[],_,n=>⟨[],n⟩
 |z::P,φ,n=>by
  obtain⟨a,n⟩:=tH.out n;obtain⟨l,n⟩:=Um.out n;exact⟨a::l,n⟩
def dv(n:Program)(P:TypeId):Value:=match n.info? P with
 |some a=>match a.zero with
  |some b=>b
  |none=>undef
 |none=>undef
def lD(n:Program)(P:TypeId):Nat:=match n.info? P with
 |some a=>a.size
 |none=>0
def tx(n:Program)(P:TypeId):Bool:=match n.underlying P with
 |some (.struct _)=>true
 |some (.array _ _)=>true
 |_=>false
def tA(n:Program)(P:TypeId)(a:Value->Prop):Prop:=match n.underlying P with
 |some (.tuple b)=>Um (b.toList.map (dv n)) λc=>a (.tuple c.toArray)
 |_=>tH (dv n P) a
def tA.out{P:Program}{φ:Value->Prop}(n:tA P g φ):∃a,φ a:=by
 unfold tA at n;split at n
 ·obtain⟨l,n⟩:=Um.out n;exact⟨_,n⟩
 ·exact tH.out n
def gZ(P:World)(a:Addr):Nat->List Value->Prop->Prop
 |_,[],n=>n
 |b,c::d,n=>P.cell? (a.add b)=some c/\gZ P a (b+1) d n
def gZ.out{d:World}{e:Addr}:∀{P:Nat} {l:List Value} {φ:Prop},gZ d e P l φ->(∀n a,l[n]? =some a->d.cell? (e.add (P+n))=some a)/\φ
 |_,[],_,c=>⟨λn a b=>by simp at b,c⟩
 |P,j::l,φ,c=>by
  obtain⟨f,g⟩:=c;obtain⟨h,i⟩:=gZ.out g;refine⟨λn a b=>?_,i⟩
  cases n with
  |zero=>simp at b;subst b;exact f
  |succ n=>
   have:=h n a (by simpa using b);rw[show P+1+n=P+(n+1)from by omega]at this;exact this
def iK(n:Program)(P:TypeId)(g:Value)(a:World)(b:Value->Prop):Prop:=match g with
 | .pointer (some c)=>match tx n P with
  |true=>match dv n P with
   | .agg d=>match Nat.beq (lD n P) d.size with
    |true=>PH d.toList λe=>gZ a c 0 e (b (.agg e.toArray))
    |false=>False
   |_=>False
  |false=>NZ (dv n P) λf=>a.cell? c=some f/\b f
 |_=>False
def PS(n:World)(P:Addr)(a:Value)(b:World->Prop):Prop:=(∃c,n.cell? P=some c)/\n.frozen? P=false/\b (n.setCell P a)
def PA(n:World)(P:Obj)(a:World->Prop):Prop:=a (n.alloc P)
def iO(a:Addr):Nat->List Value->World->(World->Prop)->Prop
 |_,[],n,P=>P n
 |b,c::d,n,P=>PS n (a.add b) c λe=>iO a (b+1) d e P
def nq(n:Program)(P:TypeId)(e a:Value)(b:World)(c:World->Prop):Prop:=match e with
 | .pointer (some d)=>match tx n P with
  |true=>match a with
   | .agg cs=>match Nat.beq cs.size (lD n P)with
    |true=>match cs.toList.all Value.oneCell' with
     |true=>iO d 0 cs.toList b c
     |false=>False
    |false=>False
   |_=>False
  |false=>match Nat.beq (lD n P) 1 with
   |true=>an a.oneCell' (PS b d a c) False
   |false=>False
 |_=>False
def RR(n P:Nat):Nat:=match Nat.beq P 1 with
 |true=>n
 |false=>n*P
def LA(P n:Nat):RR P n=P*n:=by
 unfold RR
 cases a:Nat.beq n 1
 ·rfl
 ·have:n=1:=Nat.eq_of_beq_eq_true a
  subst this;simp
def RS(d:Program)(i:TypeId)(f g:Value)(h:Value->Prop):Prop:=match d.underlying i with
 |some (.slice n)=>match f,g with
  | .slice b j _,.int _ a=>∃c P,b=some ⟨c,P,none⟩/\0<=a/\a<j/\h (.pointer (some ⟨c,P+RR a.toNat (lD d n),none⟩))
  |_,_=>False
 |some (.array e n)=>match f,g with
  | .pointer k,.int _ a=>∃c P,k=some ⟨c,P,none⟩/\0<=a/\a<e/\h (.pointer (some ⟨c,P+RR a.toNat (lD d n),none⟩))
  |_,_=>False
 |_=>False
def Fj(a b:Value)(c:Value->Prop):Prop:=match a,b with
 | .string d,.int _ n=>0<=n/\∃P,d[n.toNat]? =some P/\c (.int .u8 P.toNat)
 |_,_=>False
def cH(P:Option Addr)(a b n:Nat):Option Addr:=if b=a then P else P.map (·.add (a*n))
def RT(g:Program)(m:TypeId)(k:Value)(h i l:Option Value)(c:Value->Prop):Prop:=match g.underlying m with
 |some .string=>match k,l with
  | .string d,none=>match h,i with
   |none,none=>c (.string (d.extract 0 d.size))
   |some (.int _ n),none=>0<=n/\n<=d.size/\c (.string (d.extract n.toNat d.size))
   |none,some (.int _ P)=>0<=P/\P<=d.size/\c (.string (d.extract 0 P.toNat))
   |some (.int _ n),some (.int _ P)=>0<=n/\n<=P/\P<=d.size/\c (.string (d.extract n.toNat P.toNat))
   |_,_=>False
  |_,_=>False
 |some (.slice a)=>match k,l with
  | .slice e j b,none=>match h,i with
   |none,none=>c (.slice e j b)
   |some (.int _ n),none=>0<=n/\n<=j/\c (.slice (cH e n.toNat b (lD g a)) (j-n.toNat) (b-n.toNat))
   |none,some (.int _ P)=>0<=P/\P<=b/\c (.slice e P.toNat b)
   |some (.int _ n),some (.int _ P)=>0<=n/\n<=P/\P<=b/\c (.slice (cH e n.toNat b (lD g a)) (P.toNat-n.toNat) (b-n.toNat))
   |_,_=>False
  | .slice e _ b,some (.int _ f)=>match h,i with
   |none,some (.int _ P)=>0<=P/\P<=f/\f<=b/\c (.slice e P.toNat f.toNat)
   |some (.int _ n),some (.int _ P)=>0<=n/\n<=P/\P<=f/\f<=b/\c (.slice (cH e n.toNat f.toNat (lD g a)) (P.toNat-n.toNat) (f.toNat-n.toNat))
   |_,_=>False
  |_,_=>False
 |_=>False
def Wt(a:Option Addr)(b:Value->Prop):Prop:=∃P n,a=some ⟨P,n,none⟩/\b (.pointer (some ⟨P,n,none⟩))
def aG(a:Program)(b:Sem Value)(c:World)(d e:Value->World->Prop):Prop:=match b.run a c with
 | .ok n P=>d n P
 | .halt (.panic n) P=>e n P
 |_=>False
def kr(P:Program)(a:Sem Unit)(b:World)(c:World->Prop)(d:Value->World->Prop):Prop:=match a.run P b with
 | .ok _ n=>c n
 | .halt (.panic e) n=>d e n
 |_=>False
def aG.mk{n w':World}{v:Value}(P:d9.run h n= .ok v w')(a:m v w'):aG h d9 n m s:=by
 unfold aG;rw[P];exact a
def kr.mk{n w':World}(P:g7.run h n= .ok () w')(a:y w'):kr h g7 n y m:=by
 unfold kr;rw[P];exact a
def aG.imp(c:∀P a,m P a->s P a)(n:aG h d9 b m h6):aG h d9 b s h6:=by
 unfold aG at*;split at n
 ·exact c _ _ n
 ·exact n
 ·exact n.elim
def aG.panics{v:Value}(n:d9.run h b= .halt (.panic v) k)(P:s v k):aG h d9 b m s:=by
 unfold aG;rw[n];exact P
def enters(P:Program)(a:FuncId):Bool:=match P.funcs[a]? with
 |some n=>match n.body with
  |some _=>!(n.name== "runtime.NumGoroutine")
  |none=>false
 |none=>false
def PI(n:Ending)(P:Value->Prop)(a:List PanicEntry->Prop):Prop:=match n with
 | .returned b=>P b
 | .panicked c=>a c
 | .outgrown=>False
def PC(a:Program)(b:FuncId)(n:Array Value)(c:World)(d:Value->World->Prop)(e:List PanicEntry->World->Prop):Prop:=
 Calls a b n c λf P=>PI f (λg=>d g P) (λh=>e h P)
def LB(P:Program)(b:FuncId)(n:Array Value)(c:TypeId)(d:World)(e:Value->World->Prop)(f:List PanicEntry->World->Prop):Prop:=
 PC P b n d (λg h=>tA P c λa=>g=a/\e a h) f
def TM(b:Program)(c:Value)(n:Array Value)(d:TypeId)(e:World)(f:Value->World->Prop)(g:List PanicEntry->World->Prop):Prop:=
 ∃a first P,c= .func (.func a) first P/\enters b a=true/\LB b a (first++n++P) d e f g
def Rv(a:Program)(c:FuncId)(n:Array Value)(P:World)(d e:Value->World->Prop):Prop:=
 ∃b:Sem Value,(∀P,(callFunc c n).run a P=(b.run a P).andThen λf g=>.ok (.value f) g)/\aG a b P d e
def Wu(b:Program)(n:Value)(P:String)(a:Array Value)(e:TypeId)(f:World)(g:Value->World->Prop)(h:List PanicEntry->World->Prop):Prop:=
 ∃c as,(∀d,(callMethod n P a).run b d= .ok (.enter c as) d)/\LB b c as e f g h
def isInt(n:Program)(P:TypeId):Bool:=match n.underlying P with
 |some (.int _)=>true
 |_=>false
def LD(n:Program)(P:TypeId):Bool:=match n.underlying P with
 |some (.int _)=>true
 |some .bool=>true
 |some .string=>true
 |_=>false
def isMap(n:Program)(P:TypeId):Bool:=match n.underlying P with
 |some (.map _ _)=>true
 |_=>false
def uM(n:Operand):Bool:=match n with
 | .const _=>true
 |_=>false
def Fk(n:Program)(e:Oper):Bool:=match e.op with
 | .lookup .. =>true
 | .next .. =>true
 | .entry _=>true
 | .mapEntry .. =>true
 | .makeSlice .. =>true
 | .convert a c _=>match isInt n a with
  |true=>match isInt n c with
   |true=>false
   |false=>true
  |false=>true
 | .binOp f d _ P _=>match f with
  | .quo=>match uM P with
   |true=>false
   |false=>true
  | .rem=>match uM P with
   |true=>false
   |false=>true
  | .shl=>match uM P with
   |true=>false
   |false=>true
  | .shr=>match uM P with
   |true=>false
   |false=>true
  | .add=>match isInt n d with
   |true=>false
   |false=>true
  | .eql=>match LD n d with
   |true=>false
   |false=>true
  | .neq=>match LD n d with
   |true=>false
   |false=>true
  |_=>false
 | .call {callee:=.builtin b,argTypes,..}=>match b with
  | .append=>true
  | .copy=>true
  | .cap=>true
  | .len=>isMap n (argTypes.getD 0 0)
  |_=>false
 |_=>false
def Nd(P:Operand->Value)(i:Oper):Option (Sem Value):=match i.op with
 | .move a| .assign a=>some (.pure (P a))
 | .pick b v l=>some (do pure (if<-asBool (P b)then P v else P l))
 | .alloc g=>some (Instr.alloc g true (.tuple #[]))
 | .box g a=>some (Instr.box g (P a))
 | .build h c=>some (Instr.build h (c.map λ(m,a)=>(m,P a)))
 | .buildSlice h o c=>some (Instr.buildSlice h o (c.map λ(m,a)=>(m,P a)))
 | .waits w=>some (Instr.waits w)
 | .binOp k n a p _=>some (do eqGuard k n a p (P a) (P p);binOp k n (P a) (P p))
 | .unOp k _ a=>some (Op.unary k (P a))
 | .convert q r a=>some (convert q r (P a))
 | .makeInterface n a=>some (Instr.makeInterface n (P a))
 | .makeFunc x first d=>some (Instr.makeFunc x (first.map P) (d.map P))
 | .makeMap h y=>some (Instr.makeMap h (y.map P))
 | .makeSlice h z b=>some (Instr.makeSlice h (P z) (P b))
 | .fieldAddr A a s=>some (Instr.fieldAt A (P a) s)
 | .field n a s=>some (Instr.field n (P a) s)
 | .index n a j=>some (Instr.index n (P a) (P j))
 | .lookup n a j t=>some (Instr.lookup n (P a) (P j) t)
 | .mapEntry h B C=>some (Instr.mapEntry h (P B) (P C))
 | .range n a=>some (Instr.range n (P a))
 | .next u e=>some (Instr.next (P u) e i.type)
 | .entry u=>some (Instr.entry (P u))
 | .typeAssert a n f t=>some (Instr.typeAssert (P a) n f t)
 | .extract h j=>some (Instr.extract (P h) j)
 | .panic a=>some (Instr.panic (P a))
 | .call b=>match b.callee with
  | .builtin l=>match l with
   | .append=>some (Builtin.append_ b.argTypes i.type (b.args.map P))
   | .cap=>some (Builtin.cap_ b.argTypes i.type (b.args.map P))
   | .clear=>some (Builtin.clear_ b.argTypes i.type (b.args.map P))
   | .copy=>some (Builtin.copy_ b.argTypes i.type (b.args.map P))
   | .delete=>some (Builtin.delete_ b.argTypes i.type (b.args.map P))
   | .len=>some (Builtin.len_ b.argTypes i.type (b.args.map P))
   | .max=>some (Builtin.max_ b.argTypes i.type (b.args.map P))
   | .min=>some (Builtin.min_ b.argTypes i.type (b.args.map P))
   | .panic=>some (Instr.panic ((b.args.map P).getD 0 .nilIface))
   |_=>none
  |_=>none
 |_=>none
def RU(n:Operand->Value)(d:Oper):Option (Sem Unit):=match d.op with
 | .mapUpdate P a c b| .insert P a c b=>some (Instr.mapUpdate P (n a) (n c) (n b))
 | .entryStore P a e b=>some (Instr.entryStore P (n a) (n e) (n b))
 | .ready f=>some (Instr.ready f)
 |_=>none
def sh{P a d:Type}(n:Result P)(b:P->World->Result a)(c:a->World->Result d):(n.andThen b).andThen c=n.andThen λe f=>(b e f).andThen c:=by
 cases n<;>rfl
def iP(P:Nd e2 S=some d9)(b:Program)(c:World):
  (execOp e2 S).run b c=(d9.run b c).andThen λf g=>.ok (.value f) g:=by
 obtain⟨h,i,d,j,a,guard⟩:=S
 cases i
 case call k=>
  obtain⟨n,e,l⟩:=k
  cases n
  case builtin m=>
   cases m<;>simp only[Nd,Option.some.injEq,reduceCtorEq]at P<;>subst P<;>simp[execOp,resolve,invoke,builtin]
  all_goals simp[Nd]at P
 all_goals first
  |(cases P;done)
  |(cases P;simp[execOp];done)
  |(cases P;simp only[execOp,Sem.run_bind,Sem.run_pure,sh,Result.andThen_ok];done)
  |(cases P;simp only[execOp,Sem.run_bind,Sem.run_pure,sh,Result.andThen_ok];rfl)
def Nf(n:RU e2 S=some g7)(a:Program)(b:World):
  (execOp e2 S).run a b=(g7.run a b).andThen λ_ d=>.ok .skip d:=by
 obtain⟨e,f,c,g,P,guard⟩:=S
 cases f
 all_goals first
  |(simp only[RU,Option.some.injEq]at n;subst n;simp[execOp];done)
  |(simp[RU]at n;done)
section
variable {P:Program}
def cI(P:Program)(n:TypeId)(b:Bool)(c:tx P n=b)(f:∃a,P.underlying n=some a)(d:World):(isAgg n).run P d= .ok b d:=by
 obtain⟨a,e⟩:=f;unfold tx at c;rw[e]at c;simp only[isAgg,Sem.run_bind,run_underlying e,Result.andThen_ok]
 cases a<;>simp_all
def Dt(n:dv P g=v)(c:v≠undef):∃a,P.info? g=some a/\a.zero=some v:=by
 unfold dv at n;split at n
 ·rename_i a d
  split at n
  ·rename_i e b;exact⟨a,d,by rw[b,n]⟩
  ·exact absurd n.symm c
 ·exact absurd n.symm c
def cY(a:P.info? g=some e9)(n:World):(sizeOf g).run P n= .ok e9.size n:=by
 simp[sizeOf,typeInfo,a]
def g_(n:P.info? g=some e9):lD P g=e9.size:=by simp[lD,n]
def uN(P:k.heap=b.heap)(n:Addr):k.cell? n=b.cell? n:=by simp[World.cell?,P]
def iK.out(j:∃m,P.underlying g=some m)(n:iK P g v b M):
  ∃a,(∀c,c.heap=b.heap->(Instr.loadAt g v).run P c= .ok a c)/\M a:=by
 unfold iK at n;split at n
 ·rename_i f
  split at n
  ·rename_i h
   split at n
   ·rename_i y o
    split at n
    ·rename_i p
     obtain⟨l,q,n⟩:=PH.out n;obtain⟨i,n⟩:=gZ.out n;obtain⟨r,k,_⟩:=Dt o (by simp[undef]);have s:r.size=l.length:=by
      have:=Nat.eq_of_beq_eq_true p;rw[g_ k]at this;simp[this,q]
     refine⟨_,λc d=>?_,n⟩;have t:∀e a,l[e]? =some a->c.cell? (f.add e)=some a:=λe a u=>by
      rw[uN d];have:=i e a u;simpa using this
     have w:=run_loadCells_list (P:=P) (w:=c) f l t;simp only[Instr.loadAt,Instr.sureAddr,loadVar,Sem.run_bind,Sem.run_pure,Result.andThen_ok,cI P g _ h j,if_true,cY k,s,w]
    ·exact n.elim
   ·exact n.elim
  ·rename_i h
   obtain⟨a,x,n⟩:=NZ.out n;refine⟨a,λc d=>?_,n⟩;have i:c.cell? f=some a:=by rw[uN d];exact x
   simp[Instr.loadAt,Instr.sureAddr,loadVar,cI P g _ h j,load,Sem.run,i]
 ·exact n.elim
def iO.out{d:Addr}{e:World->Prop}:∀{l:List Value} {b:Nat} {a:World},(∀v∈l,v.oneCell'=true)->iO d b l a e->∃c,(storeCells d l b).run P a= .ok () c/\e c
 |[],b,a,_,n=>⟨a,rfl,n⟩
 |v::l,b,a,f,n=>by
  obtain⟨⟨m,g⟩,h,n⟩:=n;obtain⟨c,i,n⟩:=iO.out (l:=l) (λv j=>f v (List.mem_cons_of_mem _ j)) n;refine⟨c,?_,n⟩;have k:=run_store P a (d.add b) v .plain (f v (List.mem_cons_self ..));simp only[storeCells,Sem.run_bind,k,g,h];simpa using i
def nq.out{g:TypeId}{j a:Value}{h:World}{k:World->Prop}(b:∃e,P.info? g=some e)(n:nq P g j a h k):
  ∃f,(Instr.storeAt g j a).run P h= .ok () f/\k f:=by
 obtain⟨e,b⟩:=b;unfold nq at n;split at n
 ·rename_i l
  split at n
  ·split at n
   ·rename_i cs
    split at n
    ·rename_i c
     split at n
     ·rename_i d
      obtain⟨f,m,n⟩:=iO.out (P:=P) (λa o=>by simpa using List.all_eq_true.1 d a o) n;refine⟨f,?_,n⟩;have i:cs.size=e.size:=by have:=Nat.eq_of_beq_eq_true c;rwa [g_ b]at this
      simp[Instr.storeAt,Instr.sureAddr,storeVar,cY b,Value.cells,i,m]
     ·exact n.elim
    ·exact n.elim
   ·exact n.elim
  ·split at n
   ·rename_i c
    have i:e.size=1:=by have:=Nat.eq_of_beq_eq_true c;rwa [g_ b]at this
    cases d:a.oneCell' with
    |false=>rw[d]at n;exact n.elim
    |true=>
     rw[d]at n;obtain⟨⟨s,p⟩,q,n⟩:=n;refine⟨_,?_,n⟩;have r:a.cells= #[a]:=by cases a<;>first|rfl|(simp[Value.oneCell']at d)
     have c:=run_store P h l a .plain d;rw[p,q]at c;simp[Instr.storeAt,Instr.sureAddr,storeVar,cY b,r,i,storeCells,Addr.add_zero',c]
   ·exact n.elim
 ·exact n.elim
def RS.out(l:∀e,(P.underlying g=some (.slice e)\/∃m,P.underlying g=some (.array m e))->∃f,P.info? e=some f)(n:RS P g v b8 M):
  ∃o,(∀d,(Instr.indexAt g v b8).run P d= .ok o d)/\M o:=by
 unfold RS at n;split at n
 ·rename_i a b
  split at n
  ·rename_i p m t q r
   obtain⟨s,h,rfl,i,j,n⟩:=n;obtain⟨f,c⟩:=l a (.inl b);refine⟨_,λd=>?_,n⟩;simp[Instr.indexAt,asIntOf,run_underlying b,i,j,cY c,LA,g_ c,Addr.add_lit]
  ·exact n.elim
 ·rename_i k a b
  split at n
  ·rename_i u q r
   obtain⟨s,h,rfl,i,j,n⟩:=n;obtain⟨f,c⟩:=l a (.inr ⟨k,b⟩);refine⟨_,λd=>?_,n⟩;simp[Instr.indexAt,Instr.sureAddr,asIntOf,run_underlying b,i,j,cY c,LA,g_ c,Addr.add_lit]
  ·exact n.elim
 ·exact n.elim
def Fj.out(c:P.underlying g=some .string)(n:Fj v b8 M):∃b,(∀a,(Instr.index g v b8).run P a= .ok b a)/\M b:=by
 unfold Fj at n;split at n
 ·rename_i f h i
  obtain⟨d,j,e,n⟩:=n;refine⟨_,λa=>?_,n⟩;simp[Instr.index,asIntOf,run_underlying c,d,e]
 ·exact n.elim
def bC(b:Value)(a:Int)(e:IntKind)(f:b= .int e a)(c:Nat)(n:BoundsCode)(d:World)(g:0<=a/\a<=c):(Instr.sliceBound b c n).run P d= .ok a.toNat d:=by
 subst f;simp[Instr.sliceBound,asIntOf,g]
def RT.out{i j k:Option Value}(y:∀t,P.underlying g=some (.slice t)->∃u,P.info? t=some u)(n:RT P g v i j k M):
  ∃w,(∀a,(Instr.sliceAt g v i j k).run P a= .ok w a)/\M w:=by
 unfold RT at n;split at n
 ·rename_i c
  have e:∀a,(Instr.sliceAt g v i j k).run P a=(Instr.slice g v i j k).run P a:=λa=>by simp[Instr.sliceAt,run_underlying c]
  split at n
  ·rename_i s
   split at n
   ·exact⟨_,λa=>by rw[e];simp[Instr.slice,Instr.sliceBounds,run_underlying c],n⟩
   ·rename_i l
    obtain⟨b,f,n⟩:=n;exact⟨_,λa=>by rw[e];simp[Instr.slice,Instr.sliceBounds,run_underlying c,bC _ l _ rfl s.size _ a ⟨b,f⟩],n⟩
   ·rename_i d
    obtain⟨b,f,n⟩:=n;exact⟨_,λa=>by rw[e];simp[Instr.slice,Instr.sliceBounds,run_underlying c,bC _ d _ rfl s.size _ a ⟨b,f⟩],n⟩
   ·rename_i l _ d
    obtain⟨b,f,m,n⟩:=n;exact⟨_,λa=>by rw[e];simp[Instr.slice,Instr.sliceBounds,run_underlying c,bC _ d _ rfl s.size _ a ⟨by omega,m⟩,bC _ l _ rfl d.toNat _ a ⟨b,by omega⟩],n⟩
   ·exact n.elim
  ·exact n.elim
 ·rename_i o c
  obtain⟨u,h⟩:=y o c;have e:∀a,(Instr.sliceAt g v i j k).run P a=(Instr.slice g v i j k).run P a:=λa=>by simp[Instr.sliceAt,run_underlying c]
  split at n
  ·rename_i q x p
   split at n
   ·refine⟨_,λa=>?_,n⟩
    rw[e]
    cases q<;>simp[Instr.slice,Instr.sliceBounds,run_underlying c,cY h,Addr.add_zero']
   ·rename_i l
    obtain⟨b,f,n⟩:=n;refine⟨_,λa=>?_,n⟩;rw[e];simp[Instr.slice,Instr.sliceBounds,run_underlying c,cY h,bC _ l _ rfl x _ a ⟨b,f⟩,cH,g_ h]
   ·rename_i d
    obtain⟨b,f,n⟩:=n;refine⟨_,λa=>?_,n⟩;rw[e]
    cases q<;>simp[Instr.slice,Instr.sliceBounds,run_underlying c,cY h,bC _ d _ rfl p _ a ⟨b,f⟩,Addr.add_zero']
   ·rename_i l _ d
    obtain⟨b,f,m,n⟩:=n;refine⟨_,λa=>?_,n⟩;rw[e];simp[Instr.slice,Instr.sliceBounds,run_underlying c,cY h,bC _ d _ rfl p _ a ⟨by omega,m⟩,bC _ l _ rfl d.toNat _ a ⟨b,by omega⟩,cH,g_ h]
   ·exact n.elim
  ·rename_i q x p _ r
   split at n
   ·rename_i d
    obtain⟨b,f,m,n⟩:=n;refine⟨_,λa=>?_,n⟩;rw[e]
    cases q<;>simp[Instr.slice,Instr.sliceBounds,run_underlying c,cY h,bC _ r _ rfl p _ a ⟨by omega,m⟩,bC _ d _ rfl r.toNat _ a ⟨b,by omega⟩,Addr.add_zero']
   ·rename_i l _ d
    obtain⟨b,f,m,z,n⟩:=n;refine⟨_,λa=>?_,n⟩;rw[e];simp[Instr.slice,Instr.sliceBounds,run_underlying c,cY h,bC _ r _ rfl p _ a ⟨by omega,z⟩,bC _ d _ rfl r.toNat _ a ⟨by omega,by omega⟩,bC _ l _ rfl d.toNat _ a ⟨b,by omega⟩,cH,g_ h]
   ·exact n.elim
  ·exact n.elim
 ·exact n.elim
end
def known(n:Program)(P:TypeId):Bool:=match n.underlying P,n.info? P with
 |some _,some _=>true
 |_,_=>false
def gg(n:Program)(a:TypeId):Bool:=match n.underlying a with
 |some (.slice P)=>match n.info? P with
  |some _=>true
  |none=>false
 |some (.array _ P)=>match n.info? P with
  |some _=>true
  |none=>false
 |some _=>true
 |none=>false
def dL(n:Bool)(P:Prop):Prop:=match n with
 |true=>P
 |false=>False
def dL.out(n:dL K L):K=true/\L:=by
 cases K
 ·exact n.elim
 ·exact⟨rfl,n⟩
abbrev bG:=Nat->Value
abbrev gJ:=Exit->bG->cu->List Deferred->World->Prop
def Ng(a:Value)(P:Value->Prop):Prop:=match a with
 | .pointer b=>Wt b P
 | .func (.func c) first n=>P (.func (.func c) first n)
 |_=>False
def uO(n:Program)(P a:Nat):List Oper->Value
 |[]=>undef
 |c::b=>match c.op with
  | .extract (.tmp d) e=>match Nat.beq d P with
   |true=>match Nat.beq e a with
    |true=>dv n c.type
    |false=>uO n P a b
   |false=>uO n P a b
  |_=>uO n P a b
def yV(a:Program)(n:Array Oper)(P:Option Tmp)(b:Nat):Value:=match P with
 |some P=>uO a P b n.toList
 |none=>undef
def AU(e:Bool)(n:Value)(P:Value->Prop):Prop:=(n= .tuple #[.bool false]/\P (.tuple #[.bool false]))\/(match e with
 |true=>∃a b,n= .tuple #[.bool true,.int .i64 a,.int .i32 b]/\P (.tuple #[.bool true,.int .i64 a,.int .i32 b])
 |false=>∃c d,n= .tuple #[.bool true,c,d]/\P (.tuple #[.bool true,c,d]))
def AU.out(h:AU K v M):M v:=by
 unfold AU at h;rcases h with⟨rfl,h⟩|h
 ·exact h
 ·cases K
  ·obtain⟨n,P,rfl,h⟩:=h;exact h
  ·obtain⟨n,P,rfl,h⟩:=h;exact h
def Fu(a z1:Value)(b:Value)(c:Value->Prop):Prop:=tH a λn=>tH z1 λP=>b= .tuple #[n,P]/\c (.tuple #[n,P])
def Fu.out{a z1:Value}(c:Fu a z1 v M):M v:=by
 obtain⟨P,d⟩:=tH.out (z:=a) (φ:=λP=>tH z1 λn=>v= .tuple #[P,n]/\M (.tuple #[P,n])) c;obtain⟨n,b⟩:=tH.out (z:=z1) (φ:=λn=>v= .tuple #[P,n]/\M (.tuple #[P,n])) d;rw[b.1];exact b.2
def Fw(a:Value)(b:Value)(c:Value->Prop):Prop:=tH a λn=>∃P,b= .tuple #[n,.bool P]/\c (.tuple #[n,.bool P])
def Fw.out{z n:Value}(b:Fw z n M):M n:=by
 obtain⟨P,a,c,d⟩:=tH.out (z:=z) (φ:=λP=>∃a,n= .tuple #[P,.bool a]/\M (.tuple #[P,.bool a])) b;rw[c];exact d
def PJ(e:Program)(p:Array Oper)(a:bG)(b:Oper)(m:gJ)(i:cu->List Deferred->World->Prop)(n:cu)(c:List Deferred)(h:World):Prop:=
 match b.op with
 | .load k t=>dL (known e k) (iK e k (ev a n t) h λd=>i (bH n b.dst d) c h)
 | .store k t o=>dL (known e k) (nq e k (ev a n t) (ev a n o) h λP=>i (bH n b.dst undef) c P)
 | .indexAddr k o s=>dL (gg e k) (RS e k (ev a n o) (ev a n s) λd=>i (bH n b.dst d) c h)
 | .slice k o x y z=>dL (gg e k) (RT e k (ev a n o) (x.map (ev a n)) (y.map (ev a n)) (z.map (ev a n)) λd=>i (bH n b.dst d) c h)
 | .nilCheck o=>Ng (ev a n o) λd=>i (bH n b.dst d) c h
 | .index k o s=>match e.underlying k with
  |some .string=>Fj (ev a n o) (ev a n s) λd=>i (bH n b.dst d) c h
  |_=>aG e (Instr.index k (ev a n o) (ev a n s)) h (λd P=>i (bH n b.dst d) c P) (λj P=>m (.panic [{v:=j,recovered:=false}]) a n c P)
 | .call {callee:=.value (.func g),args,..}=>match enters e g with
  |true=>LB e g (args.map (ev a n)) b.type h (λd P=>i (bH n b.dst d) c P) (λr P=>m (.panic r) a n c P)
  |false=>Rv e g (args.map (ev a n)) h (λd P=>tA e b.type λl=>d=l/\i (bH n b.dst l) c P) (λj P=>m (.panic [{v:=j,recovered:=false}]) a n c P)
 | .call {callee:=.value f,args,..}=>TM e (ev a n f) (args.map (ev a n)) b.type h (λd P=>i (bH n b.dst d) c P) (λr P=>m (.panic r) a n c P)
 | .call {callee:=.invoke f name,args,..}=>Wu e (ev a n f) name (args.map (ev a n)) b.type h (λd P=>i (bH n b.dst d) c P) (λr P=>m (.panic r) a n c P)
 | .defer {callee:=.value f,args,..}=>match ev a n f with
  | .func A first u=>i (bH n b.dst undef) ({target:=.fn A u,args:=first++args.map (ev a n)}::c) h
  |_=>False
 | .next v q=>aG e (Instr.next (ev a n v) q b.type) h (λd P=>AU q d λl=>i (bH n b.dst l) c P) (λj P=>m (.panic [{v:=j,recovered:=false}]) a n c P)
 | .entry v=>aG e (Instr.entry (ev a n v)) h (λd P=>Fu (yV e p b.dst 0) (yV e p b.dst 1) d λl=>i (bH n b.dst l) c P) (λj P=>m (.panic [{v:=j,recovered:=false}]) a n c P)
 | .mapEntry k B C=>aG e (Instr.mapEntry k (ev a n B) (ev a n C)) h (λd P=>Fu (yV e p b.dst 0) (yV e p b.dst 1) d λl=>i (bH n b.dst l) c P) (λj P=>m (.panic [{v:=j,recovered:=false}]) a n c P)
 | .typeAssert o E w true=>aG e (Instr.typeAssert (ev a n o) E w true) h (λd P=>Fw (dv e w) d λl=>i (bH n b.dst l) c P) (λj P=>m (.panic [{v:=j,recovered:=false}]) a n c P)
 |_=>match Nd (ev a n) b with
  |some q=>match Fk e b with
   |true=>aG e q h (λd P=>tA e b.type λl=>d=l/\i (bH n b.dst l) c P) (λj P=>m (.panic [{v:=j,recovered:=false}]) a n c P)
   |false=>aG e q h (λd P=>i (bH n b.dst d) c P) (λj P=>m (.panic [{v:=j,recovered:=false}]) a n c P)
  |none=>match RU (ev a n) b with
   |some q=>kr e q h (λP=>i (bH n b.dst undef) c P) (λj P=>m (.panic [{v:=j,recovered:=false}]) a n c P)
   |none=>False
def h_(P:enters h z=true)(n:Array Value)(a:World):(callFunc z n).run h a= .ok (.enter z n) a:=by
 unfold enters at P;split at P
 ·rename_i b c
  split at P
  ·rename_i f d
   have e:¬b.name= "runtime.NumGoroutine":=by simpa using P
   simp[callFunc,program,Sem.run,c,d,e]
  ·cases P
 ·cases P
def tB{next:Act->World->Prop}(f:LB h z l g b m a4)(i:∀P n,m P n->next (H.put S.dst P) n)(j:∀a n,a4 a n->d5 (.panic a) H n):
  S.upon h H next d5 (.ok (.enter z l) b):=by
 rw[Oper.upon_enter];refine Calls.mono f λk n c=>?_
 cases k with
 |returned P=>
  obtain⟨d,rfl,e⟩:=tA.out (φ:=λd=>P=d/\m d n) c;exact i _ _ e
 |panicked a=>exact j _ _ c
 |outgrown=>exact c.elim
def known.out{P:Program}(n:known P g=true):(∃a,P.underlying g=some a)/\∃b,P.info? g=some b:=by
 unfold known at n;split at n
 ·rename_i a b c d;exact⟨⟨a,c⟩,b,d⟩
 ·cases n
def gg.out{P:Program}(a:gg P g=true):∀n,(P.underlying g=some (.slice n)\/∃e,P.underlying g=some (.array e n))->∃b,P.info? n=some b:=by
 intro n c;unfold gg at a;rcases c with c|⟨e,c⟩
 ·rw[c]at a
  cases d:P.info? n with
  |none=>simp[d]at a
  |some b=>exact⟨b,rfl⟩
 ·rw[c]at a
  cases d:P.info? n with
  |none=>simp[d]at a
  |some b=>exact⟨b,rfl⟩
variable{V:bG}{c1:gJ}
def Fy{P:Program}{next:Act->World->Prop}(p:Rel a V Q H)(L:∀M,S.dst=some M->M<a)(n:PJ P U V S c1 h7 Q H.defers b)(N:∀d A e,Rel a V (bH Q S.dst d) A->h7 (bH Q S.dst d) A.defers e->next A e)(x:∀O e,c1 (.panic O) V Q H.defers e->d5 (.panic O) H e):S.wp P H b next d5:=by
 have t:∀d e,h7 (bH Q S.dst d) H.defers e->next (H.put S.dst d) e:=λd e B=>
  N d _ _ (p.put S.dst L d) (by rw[put_defers];exact B)
 have i:∀g:Sem Value,(∀b,(execOp (ev V Q) S).run P b=(g.run P b).andThen λd e=>.ok (.value d) e)->
   aG P g b (λd e=>h7 (bH Q S.dst d) H.defers e) (λC e=>c1 (.panic [{v:=C,recovered:=false}]) V Q H.defers e)->S.wp P H b next d5:=by
  intro g m k;unfold Oper.wp;rw[p.eval,m];unfold aG at k
  cases l:g.run P b with
  |ok d e=>
   rw[l]at k;exact t _ _ k
  |halt j e=>
   rw[l]at k
   cases j with
   |panic d=>exact x _ _ k
   |_=>exact k.elim
 have u:∀g:Sem Unit,(∀b,(execOp (ev V Q) S).run P b=(g.run P b).andThen λ_ e=>.ok .skip e)->
   kr P g b (λe=>h7 (bH Q S.dst undef) H.defers e) (λC e=>c1 (.panic [{v:=C,recovered:=false}]) V Q H.defers e)->S.wp P H b next d5:=by
  intro g m k;unfold Oper.wp;rw[p.eval,m];unfold kr at k
  cases l:g.run P b with
  |ok d e=>
   rw[l]at k;exact t _ _ k
  |halt j e=>
   rw[l]at k
   cases j with
   |panic d=>exact x _ _ k
   |_=>exact k.elim
 have h:∀(g:Sem Value),(∀b,(execOp (ev V Q) S).run P b=(g.run P b).andThen λd e=>.ok (.value d) e)->
   (∃d,g.run P b= .ok d b/\h7 (bH Q S.dst d) H.defers b)->S.wp P H b next d5:=by
  rintro g m ⟨d,r,B⟩;unfold Oper.wp;rw[p.eval,m,r];exact t _ _ B
 unfold PJ at n;split at n
 ·rename_i o j f
  obtain⟨q,n⟩:=n.out;obtain⟨d,r,n⟩:=iK.out (known.out q).1 n;exact h (Instr.loadAt o (ev V Q j)) (λb=>by simp[execOp,f]) ⟨d,r b rfl,n⟩
 ·rename_i o j T f
  obtain⟨q,n⟩:=n.out;obtain⟨e,W,n⟩:=nq.out (P:=P) (known.out q).2 n;exact u (Instr.storeAt o (ev V Q j) (ev V Q T)) (λb=>by simp[execOp,f]) (kr.mk W n)
 ·rename_i o j y f
  obtain⟨q,n⟩:=n.out;obtain⟨d,r,n⟩:=RS.out (gg.out q) n;exact h (Instr.indexAt o (ev V Q j) (ev V Q y)) (λb=>by simp[execOp,f]) ⟨d,r b,n⟩
 ·rename_i o j X Y Z f
  obtain⟨q,n⟩:=n.out;obtain⟨d,r,n⟩:=RT.out (λQ E=>gg.out q Q (.inl E)) n;exact h (Instr.sliceAt o (ev V Q j) (X.map (ev V Q)) (Y.map (ev V Q)) (Z.map (ev V Q))) (λb=>by simp[execOp,f]) ⟨d,r b,n⟩
 ·rename_i j f
  unfold Ng at n;split at n
  ·rename_i a5 F
   obtain⟨a6,a0,rfl,n⟩:=n;unfold Oper.wp;rw[p.eval];simp only[execOp,f,F,Sem.run_pure,Oper.upon_value];exact t _ _ n
  ·rename_i w first s F
   unfold Oper.wp;rw[p.eval];simp only[execOp,f,F,Sem.run_pure,Oper.upon_value];exact t _ _ n
  ·exact n.elim
 ·rename_i o j y f
  split at n
  ·rename_i I
   obtain⟨d,r,n⟩:=Fj.out I n;exact h (Instr.index o (ev V Q j) (ev V Q y)) (λb=>by simp[execOp,f]) ⟨d,r b,n⟩
  ·exact i (Instr.index o (ev V Q j) (ev V Q y)) (λb=>by simp[execOp,f]) n
 ·rename_i w c v f
  split at n
  ·rename_i q
   have l:(execOp (ev V Q) S).run P b= .ok (.enter w (c.map (ev V Q))) b:=by
    simp[execOp,f,resolve,ev,Deferred.ofValue,invoke,h_ q]
   unfold Oper.wp;rw[p.eval,l];exact tB n t x
  ·obtain⟨g,m,n⟩:=n
   refine i g (λb=>by simp[execOp,f,resolve,ev,Deferred.ofValue,invoke,m]) (aG.imp ?_ n);intro d e n;obtain⟨a1,rfl,n⟩:=tA.out n;exact n
 ·rename_i z c v a7 f
  obtain⟨w,first,s,J,q,n⟩:=n;have l:(execOp (ev V Q) S).run P b= .ok (.enter w (first++c.map (ev V Q)++s)) b:=by
   simp[execOp,f,resolve,J,Deferred.ofValue,invoke,h_ q]
  unfold Oper.wp;rw[p.eval,l];exact tB n t x
 ·rename_i z R c v f
  obtain⟨w,as,hm,n⟩:=n;have l:(execOp (ev V Q) S).run P b= .ok (.enter w as) b:=by
   have E:(c.map (ev V Q)).extract 0 c.size=c.map (ev V Q):=by
    have:c.size=(c.map (ev V Q)).size:=by simp
    rw[this,Array.extract_size]
   have h0:(#[ev V Q z]++c.map (ev V Q))[0]? =some (ev V Q z):=by rw[Array.getElem?_append_left (Nat.zero_lt_one)];rfl
   simp[execOp,f,resolve,invoke,E,hm,h0]
  unfold Oper.wp;rw[p.eval,l];exact tB n t x
 ·rename_i z c v f
  split at n
  ·rename_i fn first s J
   have l:(execOp (ev V Q) S).run P b= .ok (.defer {target:=.fn fn s,args:=first++c.map (ev V Q)}) b:=by
    simp[execOp,f,resolve,J,Deferred.ofValue]
   unfold Oper.wp;rw[p.eval,l,Oper.upon_defer];exact N undef _ _ ((p.defers _).put S.dst L undef) (by rw[put_defers];exact n)
  ·exact n.elim
 ·rename_i K g f
  refine i (Instr.next (ev V Q K) g S.type) (λb=>by simp[execOp,f]) (aG.imp (λd e n=>?_) n);exact n.out
 ·rename_i K f
  refine i (Instr.entry (ev V Q K)) (λb=>by simp[execOp,f]) (aG.imp (λd e n=>?_) n);exact n.out
 ·rename_i o a2 a3 f
  refine i (Instr.mapEntry o (ev V Q a2) (ev V Q a3)) (λb=>by simp[execOp,f]) (aG.imp (λd e n=>?_) n);exact n.out
 ·rename_i j xT a4 f
  refine i (Instr.typeAssert (ev V Q j) xT a4 true) (λb=>by simp[execOp,f]) (aG.imp (λd e n=>?_) n);exact n.out
 ·split at n
  ·rename_i g m
   split at n
   ·refine i g (λb=>iP m P b) (aG.imp ?_ n)
    intro d e n;obtain⟨a1,rfl,n⟩:=tA.out n;exact n
   ·exact i g (λb=>iP m P b) n
  ·split at n
   ·rename_i g m
    exact u g (λb=>Nf m P b) n
   ·exact n.elim
def iC(n:Array Oper)(P:Nat):Option Nat:=match n[P]? with
 |some a=>a.dst
 |none=>none
def AV(b:Program)(a:bG)(n:Array Oper)(c:gJ):List Oper->(cu->List Deferred->World->Prop)->cu->List Deferred->World->Prop
 |[],e,d,f,g=>e d f g
 |i::P,e,d,f,g=>match i.guard with
  |none=>PJ b n a i c (AV b a n c P e) d f g
  |some (k,h)=>match iC n k with
   |none=>False
   |some j=>match get a d j with
    | .bool l=>an l
     (match h with
      |true=>PJ b n a i c (AV b a n c P e) ((j,.bool true)::d) f g
      |false=>AV b a n c P e (bH ((j,.bool true)::d) i.dst undef) f g)
     (match h with
      |true=>AV b a n c P e (bH ((j,.bool false)::d) i.dst undef) f g
      |false=>PJ b n a i c (AV b a n c P e) ((j,.bool false)::d) f g)
    | .tuple _=>AV b a n c P e (bH d i.dst undef) f g
    |_=>False
def Rel.again(n:Rel a V Q H)(P:get V Q c=v):Rel a V ((c,v)::Q) H:=
 ⟨n.size,λd=>by
  rw[dx,n.slot];split
  ·rename_i b;subst b;exact P
  ·rfl⟩
def qW(P:get V Q a=v)(n:Nat):get V ((a,v)::Q) n=get V Q n:=by
 rw[dx];split
 ·rename_i b;subst b;exact P.symm
 ·rfl
def od(P:Rel a V Q H)(n:iC U c=some i)(g:i<a):
  yielded U H.tmps c=match get V Q i with| .bool d=>some d|_=>none:=by
 have e:((U[c]?).bind (·.dst))=some i:=by
  unfold iC at n
  cases b:U[c]? with
  |none=>rw[b]at n;simp at n
  |some h=>rw[b]at n;simpa using n
 unfold yielded;rw[e];have j:=P.size;have f:H.tmps[i]? =some (get V Q i):=by
  rw[<-P.slot];have:i<H.tmps.size:=by omega
  simp[Array.getD,this]
 simp only[Option.bind_some,f];split<;>simp_all
def cJ(c:Nat)(d:bG)(e:cu)(f:List Nat)(g:gJ):Exit->Act->World->Prop:=λh b i=>
 ∃n P,Rel c n P b/\(∀a,a∉f->get n P a=get d e a)/\g h n P b.defers i
def yW{s:Program}{k:Nat}{c q:bG}{r:cu}{j:List Nat}{b:Array Oper}{l:gJ}(F:∀H P,iC b H=some P->P<k):
  ∀(I:List Oper) (n:cu) (h:Act) (g:World),(∀e∈I,∀f,e.dst=some f->f<k/\f∈j)->Rel k c n h->(∀P,P∉j->get c n P=get q r P)->
   AV s c b l I (λn v g=>l .normal c n v g) n h.defers g->wpList s b (cJ k q r j l) I h g
 |[],n,h,g,_,m,i,d=>⟨c,n,m,i,d⟩
 |e::a,n,h,g,J,m,i,d=>by
  have O:∀f,e.dst=some f->f<k:=λf K=>(J e (List.mem_cons_self ..) f K).1;have Q:∀(n:cu),(∀P,P∉j->get c n P=get q r P)->∀w P,P∉j->get c (bH n e.dst w) P=get q r P:=by
   intro n i w P L
   cases K:e.dst with
   |none=>exact i P L
   |some f=>
    have S:=(J e (List.mem_cons_self ..) f K).2;show get c ((f,w)::n) P=_;rw[dx,if_neg (by rintro rfl;exact L S)];exact i P L
  have x:∀e∈a,∀f,e.dst=some f->f<k/\f∈j:=λe T=>J e (List.mem_cons_of_mem _ T);have o:∀(n:cu),Rel k c n h->(∀P,P∉j->get c n P=get q r P)->AV s c b l a (λn v g=>l .normal c n v g) (bH n e.dst undef) h.defers g->
    wpList s b (cJ k q r j l) a (h.put e.dst undef) g:=λn m i d=>
   yW F a _ _ _ x (m.put _ O _) (Q n i _) (by rw[put_defers];exact d)
  have t:∀(n:cu),Rel k c n h->(∀P,P∉j->get c n P=get q r P)->PJ s b c e l (AV s c b l a λn v g=>l .normal c n v g) n h.defers g->
    e.wp s h g (wpList s b (cJ k q r j l) a) (cJ k q r j l):=λn m i d=>
   Fy m O d (λw Y U M V=>yW F a _ _ _ x M (Q n i w) V) (λZ U W=>⟨c,n,m,i,W⟩)
  unfold wpList;unfold AV at d;split at d
  ·rename_i A
   rw[if_pos (by simp[Region.wanted,A])];exact .inl (t n m i d)
  ·rename_i H p A
   split at d
   ·exact d.elim
   ·rename_i P R
    have u:=od m R (F H P R);split at d
    ·rename_i B y
     rw[y]at u;simp only at u;have N:Region.wanted e (yielded b h.tmps)=(B==p):=by
      simp only[Region.wanted,A,u]
      cases B<;>cases p<;>rfl
     rw[N];have C:=m.again y;have E:∀z,z∉j->get c ((P,.bool B)::n) z=get q r z:=λz X=>by rw[qW y];exact i z X
     cases B<;>cases p<;>simp only[an]at d
     ·exact .inl (t _ C E d)
     ·exact o _ C E d
     ·exact o _ C E d
     ·exact .inl (t _ C E d)
    ·rename_i vs y
     rw[y]at u;simp only at u;have N:Region.wanted e (yielded b h.tmps)=false:=by
      simp[Region.wanted,A,u]
     rw[N];exact o _ m i d
    ·exact d.elim
def AW{n:Type}(P:Program):Sem n->Option n
 | .pure a=>some a
 | .program b=>AW P (b P)
 |_=>none
def wI{c:Type}{b:Program}:∀{s:Sem c} {a:c},AW b s=some a->∀P,s.run b P= .ok a P
 | .pure e,a,n,P=>by simp only[AW,Option.some.injEq]at n;subst n;rfl
 | .program d,a,n,P=>by simp only[AW]at n;exact wI (s:=d b) n P
 | .load ..,_,n,_| .store ..,_,n,_| .new ..,_,n,_| .shape ..,_,n,_| .freeze ..,_,n,_| .frozen ..,_,n,_| .getObj ..,_,n,_| .setObj ..,_,n,_
 | .choose ..,_,n,_| .sys ..,_,n,_| .mark ..,_,n,_| .halt ..,_,n,_=>by simp[AW]at n
def UY(n:Program)(c:Sem Value)(d:TypeId)(P:World)(e:Value->Prop):Prop:=tA n d λa=>(∀b,c.run n (P.drewN b)= .ok a (P.drewN b))/\e a
def TN(P:Program)(c:FuncId)(n:Array Value)(d:TypeId)(a:World)(e:Value->Prop):Prop:=
 tA P d λb=>(∀f,Calls P c n (a.drewN f) λg h=>g= .returned b/\∃i,h=a.drewN i)/\e b
def PK(b:Program)(c:bG)(a:Oper)(e:cu->Prop)(n:cu)(h:World):Prop:=
 match a.op with
 | .load d k=>dL (known b d) (iK b d (ev c n k) h λP=>e (bH n a.dst P))
 | .indexAddr d f i=>dL (gg b d) (RS b d (ev c n f) (ev c n i) λP=>e (bH n a.dst P))
 | .slice d f l m o=>dL (gg b d) (RT b d (ev c n f) (l.map (ev c n)) (m.map (ev c n)) (o.map (ev c n)) λP=>e (bH n a.dst P))
 | .nilCheck f=>Ng (ev c n f) λP=>e (bH n a.dst P)
 | .index d f i=>match b.underlying d with
  |some .string=>Fj (ev c n f) (ev c n i) λP=>e (bH n a.dst P)
  |_=>False
 | .call {callee:=.value (.func g),args,..}=>dL (enters b g) (TN b g (args.map (ev c n)) a.type h λP=>e (bH n a.dst P))
 |_=>match Nd (ev c n) a with
  |some j=>match Fk b a with
   |true=>UY b j a.type h λP=>e (bH n a.dst P)
   |false=>match AW b j with
    |some P=>e (bH n a.dst P)
    |none=>False
  |none=>False
def si(c:Program)(b:bG)(P:Array Oper):List Oper->(cu->Prop)->cu->World->Prop
 |[],e,a,_=>e a
 |g::n,e,a,d=>match g.guard with
  |none=>PK c b g (λa=>si c b P n e a d) a d
  |some (i,f)=>match iC P i with
   |none=>False
   |some h=>match get b a h with
    | .bool j=>an j
     (match f with
      |true=>PK c b g (λa=>si c b P n e a d) ((h,.bool true)::a) d
      |false=>si c b P n e (bH ((h,.bool true)::a) g.dst undef) d)
     (match f with
      |true=>si c b P n e (bH ((h,.bool false)::a) g.dst undef) d
      |false=>PK c b g (λa=>si c b P n e a d) ((h,.bool false)::a) d)
    | .tuple _=>si c b P n e (bH a g.dst undef) d
    |_=>False
def bF(n:World):World->Prop:=λP=>∃a,P=n.drewN a
def tC{next:Act->Prop}(u:Rel a V Q H)(n:PK h V S f0 Q b)(v:∀P,f0 (bH Q S.dst P)->next (H.put S.dst P)):S.quiet h H (bF b) next:=by
 have c:∀k:Sem Value,(∀b,(execOp (ev V Q) S).run h b=(k.run h b).andThen λP w=>.ok (.value P) w)->
   (∃P,(∀e,k.run h (b.drewN e)= .ok P (b.drewN e))/\f0 (bH Q S.dst P))->S.quiet h H (bF b) next:=by
  rintro k m ⟨P,d,x⟩;refine⟨P,?_,v P x⟩;rintro _ ⟨e,rfl⟩;unfold Oper.quietAt;rw[u.eval,m,d];exact⟨rfl,rfl⟩
 unfold PK at n;split at n
 ·rename_i i g f
  obtain⟨j,n⟩:=n.out;obtain⟨P,d,n⟩:=iK.out (known.out j).1 n;exact c (Instr.loadAt i (ev V Q g)) (λb=>by simp[execOp,f]) ⟨P,λe=>d _ rfl,n⟩
 ·rename_i i g o f
  obtain⟨j,n⟩:=n.out;obtain⟨P,d,n⟩:=RS.out (gg.out j) n;exact c (Instr.indexAt i (ev V Q g) (ev V Q o)) (λb=>by simp[execOp,f]) ⟨P,λe=>d _,n⟩
 ·rename_i i g y z A f
  obtain⟨j,n⟩:=n.out;obtain⟨P,d,n⟩:=RT.out (λQ B=>gg.out j Q (.inl B)) n;exact c (Instr.sliceAt i (ev V Q g) (y.map (ev V Q)) (z.map (ev V Q)) (A.map (ev V Q))) (λb=>by simp[execOp,f]) ⟨P,λe=>d _,n⟩
 ·rename_i g f
  unfold Ng at n;split at n
  ·rename_i I p
   obtain⟨C,q,rfl,n⟩:=n;exact c (.pure (.pointer (some ⟨C,q,none⟩))) (λb=>by simp[execOp,f,p]) ⟨_,λe=>rfl,n⟩
  ·rename_i r first s p
   exact c (.pure (.func (.func r) first s)) (λb=>by simp[execOp,f,p]) ⟨_,λe=>rfl,n⟩
  ·exact n.elim
 ·rename_i i g o f
  split at n
  ·rename_i t
   obtain⟨P,d,n⟩:=Fj.out t n;exact c (Instr.index i (ev V Q g) (ev V Q o)) (λb=>by simp[execOp,f]) ⟨P,λe=>d _,n⟩
  ·exact n.elim
 ·rename_i r l E f
  obtain⟨j,n⟩:=n.out;obtain⟨P,d,n⟩:=tA.out n;refine⟨P,?_,v P n⟩;rintro _ ⟨e,rfl⟩;have F:(execOp (ev V Q) S).run h (b.drewN e)= .ok (.enter r (l.map (ev V Q))) (b.drewN e):=by
   simp[execOp,f,resolve,ev,Deferred.ofValue,invoke,h_ j]
  unfold Oper.quietAt;rw[u.eval,F];exact⟨rfl,d e⟩
 ·split at n
  ·rename_i k m
   split at n
   ·obtain⟨P,d,n⟩:=tA.out n
    exact c k (λb=>iP m h b) ⟨P,d,n⟩
   ·split at n
    ·rename_i P d
     exact c k (λb=>iP m h b) ⟨P,λe=>wI d _,n⟩
    ·exact n.elim
  ·exact n.elim
def qu{v:Program}{l:Nat}{f B0:bG}{e0:cu}{W:List Nat}{c:Array Oper}{w:World}{x:cu->Prop}(K:∀B n,iC c B=some n->n<l):
  ∀(C:List Oper) (P:cu) (h:Act),(∀a∈C,∀d,a.dst=some d->d<l/\d∈W)->Rel l f P h->(∀n,n∉W->get f P n=get B0 e0 n)->
   si v f c C x P w->wpQuiet v c (bF w) (λr=>∃m,Rel l f m r/\r.defers=h.defers/\(∀n,n∉W->get f m n=get B0 e0 n)/\x m) C h
 |[],P,h,_,k,j,b=>⟨P,k,rfl,j,b⟩
 |a::g,P,h,E,k,j,b=>by
  have M:∀d,a.dst=some d->d<l:=λd F=>(E a (List.mem_cons_self ..) d F).1;have N:∀(P:cu),(∀n,n∉W->get f P n=get B0 e0 n)->∀e n,n∉W->get f (bH P a.dst e) n=get B0 e0 n:=by
   intro P j e n H
   cases F:a.dst with
   |none=>exact j n H
   |some d=>
    have O:=(E a (List.mem_cons_self ..) d F).2;show get f ((d,e)::P) n=_;rw[dx,if_neg (by rintro rfl;exact H O)];exact j n H
  have I:∀a∈g,∀d,a.dst=some d->d<l/\d∈W:=λa Q=>E a (List.mem_cons_of_mem _ Q);have o:∀(P:cu) (e:Value),Rel l f P h->(∀n,n∉W->get f P n=get B0 e0 n)->si v f c g x (bH P a.dst e) w->
    wpQuiet v c (bF w) (λr=>∃m,Rel l f m r/\r.defers=h.defers/\(∀n,n∉W->get f m n=get B0 e0 n)/\x m) g (h.put a.dst e):=λP e k j b=>by
   have:=qu K g (bH P a.dst e) (h.put a.dst e) I (k.put _ M _) (N P j _) b;rw[put_defers]at this;exact this
  unfold wpQuiet;unfold si at b;split at b
  ·rename_i y
   rw[if_pos (by simp[Region.wanted,y])];exact tC k b λe s=>o P e k j s
  ·rename_i B i y
   split at b
   ·exact b.elim
   ·rename_i n L
    have p:=od k L (K B n L);split at b
    ·rename_i z t
     rw[t]at p;simp only at p;have J:Region.wanted a (yielded c h.tmps)=(z==i):=by
      simp only[Region.wanted,y,p]
      cases z<;>cases i<;>rfl
     rw[J];have q:=k.again t;have A:∀u,u∉W->get f ((n,.bool z)::P) u=get B0 e0 u:=λu R=>by rw[qW t];exact j u R
     cases z<;>cases i<;>simp only[an]at b
     ·exact tC q b λe s=>o _ e q A s
     ·exact o _ _ q A b
     ·exact o _ _ q A b
     ·exact tC q b λe s=>o _ e q A s
    ·rename_i S t
     rw[t]at p;simp only at p;have J:Region.wanted a (yielded c h.tmps)=false:=by
      simp[Region.wanted,y,p]
     rw[J];exact o _ _ k j b
    ·exact b.elim
def kindOf(n:Program)(c:Oper):Nat:=match c.op with
 | .move _| .assign _| .pick .. | .build .. | .binOp .. | .unOp .. | .indexAddr .. | .slice .. | .nilCheck _| .fieldAddr .. | .field .. | .index .. | .extract .. | .typeAssert .. =>0
 | .convert P a _=>match isInt n P with
  |true=>match isInt n a with
   |true=>0
   |false=>2
  |false=>2
 | .load .. | .lookup .. =>1
 | .call {callee:=.builtin b,argTypes,..}=>match b with
  | .len=>match isMap n (argTypes.getD 0 0)with
   |true=>1
   |false=>0
  | .cap| .max| .min=>0
  |_=>2
 |_=>2
def iQ(P:Program)(n:Array Oper)(a:Nat):Nat:=match n[a]? with
 |some b=>kindOf P b
 |none=>2
def fz(P:Program)(n:Array Oper)(a:Nat):Bool:=match iQ P n a with
 |2=>false
 |_=>true
def LF(n:Program):List Oper->Bool
 |[]=>false
 |P::a=>match kindOf n P with
  |2=>true
  |_=>LF n a
def nd(P:Program)(n:Array Oper):List Nat->Option Nat
 |[]=>none
 |a::b=>match fz P n a with
  |true=>some a
  |false=>nd P n b
def ku{b:Program}{P:Array Oper}{a:Nat}:∀{c:List Nat},nd b P c=some a->a∈c/\fz b P a=true
 |[],n=>by cases n
 |g::h,n=>by
  unfold nd at n;split at n
  ·rename_i d;cases n;exact⟨List.mem_cons_self ..,d⟩
  ·obtain⟨e,f⟩:=ku n;exact⟨List.mem_cons_of_mem _ e,f⟩
def tD{c:Program}{n:Array Oper}:∀{d:List Nat},nd c n d=none->∀a∈d,fz c n a=false
 |[],_,a,P=>by cases P
 |f::g,b,a,P=>by
  unfold nd at b;split at b
  ·cases b
  ·rename_i e
   rcases List.mem_cons.1 P with rfl|P
   ·exact e
   ·exact tD b a P
def HA(n:Z.getD a true=false):Z.getD a false=false:=by
 rcases Nat.lt_or_ge a Z.size with P|P
 ·simp[P]at n⊢;exact n
 ·simp[Array.getElem?_eq_none P]at n
def mg(P:Array Oper)(b:Nat):Nat->Array Bool->Array Bool
 |0,n=>n
 |f+1,n=>match(Region.ready .any P n).find? (λa=>!Nat.beq a b)with
  |some a=>mg P b f (n.setIfInBounds a true)
  |none=>n
def eN(c:Program)(n:Array Oper)(listed:Array Bool)(a:Nat):Bool:=
 (λb:Array Bool=>!b.getD a true&&(Region.ready .any n b).all (λP=>Nat.beq P a)&&
  (List.range n.size).all λP=>!b.getD P false||fz c n P||listed.getD P false) (mg n a n.size listed)
structure uP (P:Program) (ops:Array Oper) (i:Nat) (listed M:Array Bool):Prop where
 sub:∀k,listed.getD k false=true->M.getD k false=true
 only:∀j∈Region.ready .any ops M,j=i
 still:∀j,j<ops.size->M.getD j false=true->listed.getD j false=false->fz P ops j=true
 size:M.size=listed.size
def qv{ops:Array Oper}{i:Nat}:∀(f:Nat) (n:Array Bool),(mg ops i f n).size=n.size/\∀P,n.getD P false=true->(mg ops i f n).getD P false=true
 |0,n=>⟨rfl,λ_ a=>a⟩
 |f+1,n=>by
  unfold mg;split
  ·rename_i b _
   obtain⟨c,d⟩:=qv (ops:=ops) (i:=i) f (n.setIfInBounds b true);exact⟨by rw[c];simp,λP e=>d P (getD_set_true e)⟩
  ·exact⟨rfl,λ_ a=>a⟩
def sj{ops:Array Oper}{i:Nat}(n:eN h ops Z i=true):∃b,uP h ops i Z b:=by
 unfold eN at n;simp only[Bool.and_eq_true,List.all_eq_true]at n;obtain⟨⟨_,c⟩,d⟩:=n;obtain⟨e,f⟩:=qv (ops:=ops) (i:=i) ops.size Z;refine⟨_,f,λP a=>Nat.eq_of_beq_eq_true (c P a),λP a g j=>?_,e⟩;have:=d P (List.mem_range.2 a);rw[g,j]at this;simpa using this
def uP.ready{i:Program}{a:Array Oper}{j:Nat}{n c:Array Bool}(b:uP i a j n c){P:Nat}(p:P∈Region.ready .any a n)(q:P≠j):
  fz i a P=true/\uP i a j (n.setIfInBounds P true) c:=by
 obtain⟨k,r,l,s⟩:=mem_ready.1 p;have t:P<a.size:=(Array.getElem?_eq_some_iff.1 l).1;have m:c.getD P false=true:=by
  by_cases d:c.getD P true=false
  ·exact absurd (b.only P (mem_ready.2 ⟨d,r,l,λu v w=>b.sub _ (s u v w)⟩)) q
  ·have x:P<n.size:=by
    rcases Nat.lt_or_ge P n.size with K|K
    ·exact K
    ·simp[Array.getElem?_eq_none K]at k
   have y:P<c.size:=by rw[b.size];exact x
   simp[y]at d⊢;exact d
 have o:n.getD P false=false:=HA k;refine⟨b.still P t m o,λe h=>?_,b.only,λe h d f=>?_,by simp[b.size]⟩
 ·by_cases g:P=e
  ·subst g;exact m
  ·rw[getD_set_ne false g]at h;exact b.sub e h
 ·refine b.still e h d ?_
  by_cases g:P=e
  ·subst g;exact o
  ·rw[getD_set_ne false g]at f;exact f
structure xt (ops:Array Oper) (i:Nat) (listed M:Array Bool):Prop where
 sub:∀k,listed.getD k false=true->M.getD k false=true
 only:∀j∈Region.ready .any ops M,j=i
 size:M.size=listed.size
def qw(P:Array Oper)(n:Array Bool)(a:Nat):Bool:=
 (λb:Array Bool=>(Region.ready .any P b).all (λc=>Nat.beq c a)) (mg P a P.size n)
def HB{ops:Array Oper}{i:Nat}(n:qw ops Z i=true):xt ops i Z (mg ops i ops.size Z):=by
 unfold qw at n;simp only[List.all_eq_true]at n;obtain⟨P,a⟩:=qv (ops:=ops) (i:=i) ops.size Z;exact⟨a,λb c=>Nat.eq_of_beq_eq_true (n b c),P⟩
def xt.ready{a:Array Oper}{d:Nat}{n b:Array Bool}(c:xt a d n b){P:Nat}(k:P∈Region.ready .any a n)(l:P≠d):
  b.getD P false=true/\xt a d (n.setIfInBounds P true) b:=by
 obtain⟨m,o,p,q⟩:=mem_ready.1 k;have g:b.getD P false=true:=by
  by_cases e:b.getD P true=false
  ·exact absurd (c.only P (mem_ready.2 ⟨e,o,p,λr s t=>c.sub _ (q r s t)⟩)) l
  ·have u:P<n.size:=by
    rcases Nat.lt_or_ge P n.size with f|f
    ·exact f
    ·simp[Array.getElem?_eq_none f]at m
   have v:P<b.size:=by rw[c.size];exact u
   simp[v]at e⊢;exact e
 refine⟨g,λh i=>?_,c.only,by simp[c.size]⟩
 by_cases j:P=h
 ·subst j;exact g
 ·rw[getD_set_ne false j]at i;exact c.sub h i
def RV(n:List PanicEntry->Act->World->Prop):Exit->Act->World->Prop:=λP a b=>match P with
 | .panic c=>n c a b
 |_=>False
def RW(c:Program)(P:Array Oper)(a:Bool)(h:List PanicEntry->Act->World->Prop)(i:Nat->Prop)(g:Act->World->Prop):Nat->(World->Prop)->Array Bool->Act->World->Prop
 |0,_,n,e,d=>Region.ready .any P n=[]/\g e d
 |f+1,l,n,e,d=>(Region.ready .any P n=[]->g e d)/\∀b∈Region.ready .any P n,
  (fz c P b=true->stOp c P d b (λj=>RW c P a h i g f l (n.setIfInBounds b true) j d) e)/\
  (fz c P b=false->wpOp c P (RV h) b (λj m=>∃k:World->Prop,(a=true->i b->∀o,k o->l o)/\k m/\RW c P a h i g f k (n.setIfInBounds b true) j m) e d)
def PL(e:∀f H b,f1 f H b->d5 (.panic f) H b)(n:wpOp h U (RV f1) a f2 H b):wpOp h U d5 a f2 H b:=by
 unfold wpOp at*;split
 ·rename_i c;simpa only[c]using n
 ·rename_i g c
  simp only[c]at n;split
  ·rename_i d
   simp only[d,if_true]at n;rcases n with n|⟨_,_,_,n⟩
   ·left
    unfold Oper.wp at*;generalize(execOp H.eval g).run h b=i at*
    cases i with
    |ok j k=>
     cases j<;>simp only[Oper.upon]at n⊢<;>
      first
       |exact n
       |exact Calls.mono n (λl o P=>by cases l<;>first|exact P|exact e _ _ _ P|exact P.elim|(obtain⟨_,_,n⟩:=P;exact n.elim))
    |halt m k=>cases m<;>first|exact e _ _ _ n|exact(show False from n).elim
   ·exact n.elim
  ·rename_i d;simp only[d]at n;exact n
def iR{g:Program}{c:Array Oper}{d:Bool}{l:List PanicEntry->Act->World->Prop}{r:Nat->Prop}{m:Act->World->Prop}{h:Exit->Act->World->Prop}(i:∀o a P,l o a P->h (.panic o) a P)(e:∀a P,m a P->h .normal a P):∀(f:Nat) (j:World->Prop) (n:Array Bool) (a:Act) (P:World),
  RW g c d l r m f j n a P->wpAny g .any c h f n a P
 |0,_,_,_,_,b=>⟨b.1,e _ _ b.2⟩
 |f+1,j,n,a,P,b=>⟨λs=>e _ _ (b.1 s),λp t=>by
   obtain⟨u,v⟩:=b.2 p t
   cases q:fz g c p with
   |true=>exact wpOp_of_stOp (λk b=>iR i e f j _ k P b) (u q)
   |false=>exact PL i (wpOp_mono (λk w ⟨x,_,_,b⟩=>iR i e f x _ k w b) (v q))⟩
section
variable {P:Program} {ops:Array Oper}
def Nh{c g:Oper}(r:ops[a]? =some g)(s:c.apart ops g=true)(t:∀cs j,c.op≠.select cs j)(u:∀cs j,g.op≠.select cs j){m:Act->Prop}(w:∀d,y d->YieldsAt P ops d c v H)(n:stOp P ops b a m (H.put c.dst v)):
  stOp P ops b a (λo=>(∀d,y d->YieldsAt P ops d c v o)/\m (o.put c.dst v)) H:=by
 obtain⟨p,h,q⟩:=Oper.apart_spec s;have i:∀e,∀d,y d->YieldsAt P ops d c v (H.put g.dst e):=λe d x=>
  (w d x).of_same (execOp_put c t H g.dst e q) (wanted_put c H g.dst e q)
 unfold stOp at*;simp only[r]at*;rw[wanted_put g H c.dst v p]at n;split
 ·rename_i k
  simp only[k,if_true]at n;unfold Oper.still at*;rw[execOp_put g u H c.dst v p]at n;generalize(execOp H.eval g).run P b=z at*
  cases z with
  |ok A B=>
   cases A<;>simp only[Oper.stillUpon]at n⊢
   case value e=>exact⟨n.1,i e,by rw[<-Act.put_comm H v e h];exact n.2⟩
   case skip=>exact⟨n.1,i _,by rw[<-Act.put_comm H v undef h];exact n.2⟩
   case enter f args=>obtain⟨l,e,C,E⟩:=n;exact⟨l,e,C,i e,by rw[<-Act.put_comm H v e h];exact E⟩
  |halt d B=>simp only[Oper.stillUpon]at n
 ·rename_i k
  simp only[k]at n;exact⟨i _,by rw[<-Act.put_comm H v undef h];exact n⟩
def Ni{e g:Oper}(t:∀o H b,f1 o (H.put e.dst v) b->f1 o H b)(B:ops[a]? =some g)(C:e.apart ops g=true)(u:∀cs p,e.op≠.select cs p)(E:∀cs p,g.op≠.select cs p)(w:∀n,y n->YieldsAt P ops n e v H)(d:wpOp P ops (RV f1) a f2 (H.put e.dst v) b):
  wpOp P ops (RV f1) a (λx q=>(∀n,y n->YieldsAt P ops n e v x)/\f2 (x.put e.dst v) q) H b:=by
 obtain⟨z,j,m⟩:=Oper.apart_spec C;have k:∀c,∀n,y n->YieldsAt P ops n e v (H.put g.dst c):=λc n r=>
  (w n r).of_same (execOp_put e u H g.dst c m) (wanted_put e H g.dst c m)
 have h:∀l c,∀n,y n->YieldsAt P ops n e v (({H with defers:=l::H.defers}:Act).put g.dst c):=λl c n r=>
  (show YieldsAt P ops n e v {H with defers:=l::H.defers}from w n r).of_same (execOp_put e u _ g.dst c m) (wanted_put e _ g.dst c m)
 unfold wpOp at*;simp only[B]at*;rw[wanted_put g H e.dst v z]at d;split
 ·rename_i s
  simp only[s,if_true]at d;rcases d with d|⟨_,_,_,d⟩
  ·left
   unfold Oper.wp at*;rw[execOp_put g E H e.dst v z]at d;generalize(execOp H.eval g).run P b=A at*
   cases A with
   |ok F q=>
    cases F<;>simp only[Oper.upon]at d⊢
    case value c=>exact⟨k c,by rw[<-Act.put_comm H v c j];exact d⟩
    case skip=>exact⟨k _,by rw[<-Act.put_comm H v undef j];exact d⟩
    case defer l=>exact⟨h l _,by rw[<-Act.put_comm _ v undef j,<-Act.put_defers];exact d⟩
    case enter f args=>
     refine Calls.mono d λI J i=>?_
     cases I with
     |returned c=>exact⟨k c,by rw[<-Act.put_comm H v c j];exact i⟩
     |panicked o=>exact t _ _ _ i
     |outgrown=>obtain⟨_,_,i⟩:=i;exact i.elim
    case row A args=>exact Rows.mono d λc J i=>⟨k c,by rw[<-Act.put_comm H v c j];exact i⟩
   |halt n q=>cases n<;>first|exact t _ _ _ d|exact(show False from d).elim
  ·exact d.elim
 ·rename_i s
  simp only[s]at d;exact⟨k _,by rw[<-Act.put_comm H v undef j];exact d⟩
def uQ{a:Bool}{j:List PanicEntry->Act->World->Prop}{k l:Nat->Prop}(e:∀m,k m->l m){o:Act->World->Prop}:∀(f:Nat) (c:World->Prop) (n:Array Bool) (g:Act) (d:World),
  RW P ops a j l o f c n g d->RW P ops a j k o f c n g d
 |0,_,_,_,_,b=>b
 |f+1,c,n,g,d,b=>⟨b.1,λq r=>by
   obtain⟨s,t⟩:=b.2 q r;refine⟨λh=>stOp_mono (λi b=>uQ e f c _ i d b) (s h),λh=>wpOp_mono (λi u ⟨p,v,w,x⟩=>⟨p,λy z=>v y (e _ z),w,uQ e f p _ i u x⟩) (t h)⟩⟩
def gv(N:∀b,f b->Y b)(hE:∀T o g,f1 T (o.put S.dst v) g->f1 T o g)(I:ops[a]? =some S)(U:fz P ops a=true)(J:∀(b:Nat) (V:Oper) cs k,ops[b]? =some V->V.op≠.select cs k)(L:World->Prop):
  ∀(w:Nat) (p:World->Prop) (n:Array Bool) (o:Act) (g:World),
   (∀b q,ops[b]? =some q->b≠a->n.getD b true=false->(∀i∈q.after,Region.binds .any i=true->i.on≠a)->S.apart ops q=true)->
   a∈Region.ready .any ops n->(∀e,L e->YieldsAt P ops e S v o)->L g->p g->
   ((∀e,L e)\/(K=true/\(∀e,p e->L e)/\((∀b,Y b)\/∃h,xt ops a n h/\∀b,h.getD b false=true->Y b))\/∃h,uP P ops a n h)->
   RW P ops K f1 Y f2 w p (n.setIfInBounds a true) (o.put S.dst v) g->RW P ops K f1 f f2 (w+1) p n o g:=by
 intro w
 induction w with
 |zero=>
  intro p n o g _ l x t W _ y;refine⟨λc=>(by rw[c]at l;cases l),λb m=>?_⟩
  by_cases d:b=a
  ·subst d;exact⟨λ_=>(x g t).stOp I (uQ N _ _ _ _ _ y),λc=>(by rw[U]at c;cases c)⟩
  ·have:=ready_mono m d
   rw[y.1]at this
   cases this
 |succ w O=>
  intro p n o g X l x t W Z y;refine⟨λc=>(by rw[c]at l;cases l),λb m=>?_⟩
  by_cases d:b=a
  ·subst d;exact⟨λ_=>(x g t).stOp I (uQ N _ _ _ _ _ y),λc=>(by rw[U]at c;cases c)⟩
  ·obtain⟨hS,hT⟩:=y.2 b (ready_mono m d)
   obtain⟨a0,q,z,a4⟩:=mem_ready.1 m;have a5:∀i∈q.after,Region.binds .any i=true->i.on≠a:=λi he hb b0=>by
    have h1:=a4 i he hb;rw[b0,HA (mem_ready.1 l).1]at h1
    cases h1
   have a6:=X b q z d a0 a5;have Q:∀u A,ops[u]? =some A->u≠a->(n.setIfInBounds b true).getD u true=false->
     (∀i∈A.after,Region.binds .any i=true->i.on≠a)->S.apart ops A=true:=λu A hk b1 a7 b2=>by
    refine X u A hk b1 ?_ b2
    by_cases a8:b=u
    ·subst a8;exact a0
    ·rw[getD_set_ne true a8]at a7;exact a7
   refine⟨λB=>?_,λB=>?_⟩
   ·have j:=Nh z a6 (λcs k=>J a S cs k I) (λcs k=>J b q cs k z) x (hS B)
    refine stOp_mono (λM r=>O p (n.setIfInBounds b true) M g Q (ready_mono l (Ne.symm d)) r.1 t W ?_ ?_) j
    ·rcases Z with c|⟨s,c,j⟩|⟨h,c⟩
     ·exact .inl c
     ·exact .inr (.inl ⟨s,c,j.imp id λ⟨h,C,E⟩=>⟨h,(C.ready m d).2,E⟩⟩)
     ·exact .inr (.inr ⟨h,(c.ready m d).2⟩)
    ·rw[Array.setIfInBounds_comm _ _ d]
     exact r.2
   ·have j:=Ni hE z a6 (λcs k=>J a S cs k I) (λcs k=>J b q cs k z) x (hT B)
    refine wpOp_mono (λM w' r=>?_) j;obtain⟨r,F,R,H,hM⟩:=r;have a1:K=true->f b->∀e,F e->p e:=λs t=>R s (N _ t);rcases Z with c|⟨s,c,j⟩|⟨h,c⟩
    ·exact⟨F,a1,H,O F (n.setIfInBounds b true) M w' Q (ready_mono l (Ne.symm d)) r (c _) H (.inl c) (by rw[Array.setIfInBounds_comm _ _ d];exact hM)⟩
    ·have a9:Y b:=by
      rcases j with j|⟨h,C,E⟩
      ·exact j b
      ·exact E b (C.ready m d).1
     exact⟨F,a1,H,O F (n.setIfInBounds b true) M w' Q (ready_mono l (Ne.symm d)) r (c _ (R s a9 _ H)) H (.inr (.inl ⟨s,λe hx=>c e (R s a9 e hx),j.imp id λ⟨h,C,E⟩=>⟨h,(C.ready m d).2,E⟩⟩)) (by rw[Array.setIfInBounds_comm _ _ d];exact hM)⟩
    ·rw[(c.ready m d).1]at B;cases B
end
def UZ(n:Bool)(a:Nat->Prop)(b:Value)(P:Prop):Prop:=match n with
 |false=>P
 |true=>match b with
  | .pointer (some c)=>¬a c.block/\P
  |_=>False
def ep(n:Bool)(b:Nat->Prop)(a:World):World->Prop:=match n with
 |true=>λP=>ak b a P
 |false=>λP=>P=a
def TO(n:Bool)(e:Nat->Prop)(b:Program)(c:Sem Value)(P:World)(d:Value):Prop:=match n with
 |true=>∀a,ak e P a->c.run b a= .ok d a
 |false=>c.run b P= .ok d P
def SR(n:Bool)(a:Nat->Prop)(b c:World)(P:Prop):Prop:=match n with
 |true=>ak a b c/\P
 |false=>P
def Nj(a:Program)(b:bG)(c:Oper)(e:Bool)(j:Nat->Prop)(f:cu->Prop)(n:cu)(k:World):Prop:=
 match c.op with
 | .load d l=>dL (known a d) (UZ e j (ev b n l) (iK a d (ev b n l) k λP=>f (bH n c.dst P)))
 | .indexAddr d g h=>dL (gg a d) (RS a d (ev b n g) (ev b n h) λP=>f (bH n c.dst P))
 | .slice d g o p q=>dL (gg a d) (RT a d (ev b n g) (o.map (ev b n)) (p.map (ev b n)) (q.map (ev b n)) λP=>f (bH n c.dst P))
 | .nilCheck g=>Ng (ev b n g) λP=>f (bH n c.dst P)
 | .index d g h=>match a.underlying d with
  |some .string=>Fj (ev b n g) (ev b n h) λP=>f (bH n c.dst P)
  |_=>False
 |_=>match Nd (ev b n) c with
  |some i=>match Fk a c with
   |true=>tA a c.type λP=>(match kindOf a c with
    |0=>∀m,i.run a m= .ok P m
    |_=>TO e j a i k P)/\f (bH n c.dst P)
   |false=>match AW a i with
    |some P=>f (bH n c.dst P)
    |none=>False
  |none=>False
def iK.Wv(k:∃o,h.underlying g=some o)(n:iK h g (.pointer (some d0)) b M):
  ∃P,(∀a,(∀e l,e.block=d0.block->b.cell? e=some l->a.cell? e=some l)->(Instr.loadAt g (.pointer (some d0))).run h a= .ok P a)/\M P:=by
 unfold iK at n;simp only at n;split at n
 ·rename_i f
  split at n
  ·rename_i y p
   split at n
   ·rename_i q
    obtain⟨i,r,n⟩:=PH.out n;obtain⟨j,n⟩:=gZ.out n;obtain⟨s,m,_⟩:=Dt p (by simp[undef]);have t:s.size=i.length:=by
     have:=Nat.eq_of_beq_eq_true q;rw[g_ m]at this;simp[this,r]
    refine⟨_,λa c=>?_,n⟩;have u:∀d P,i[d]? =some P->a.cell? (d0.add d)=some P:=λd P v=>
     c _ _ (by unfold Addr.add;split<;>rfl) (by have:=j d P v;simpa using this)
    have w:=run_loadCells_list (P:=h) (w:=a) d0 i u;simp only[Instr.loadAt,Instr.sureAddr,loadVar,Sem.run_bind,Sem.run_pure,Result.andThen_ok,cI h g _ f k,if_true,cY m,t,w]
   ·exact n.elim
  ·exact n.elim
 ·rename_i f
  obtain⟨P,x,n⟩:=NZ.out n;refine⟨P,λa c=>?_,n⟩;have j:a.cell? d0=some P:=c _ _ rfl x;simp[Instr.loadAt,Instr.sureAddr,loadVar,cI h g _ f k,load,Sem.run,j]
def ak.U_(a:ak f b k)(c:¬f d0.block)(n:b.cell? d0=some v):k.cell? d0=some v:=by
 have P:d0.block<b.heap.size:=by
  by_cases P:d0.block<b.heap.size
  ·exact P
  ·unfold World.cell? at n
   rw[show b.heap[d0.block]? =none by simp;omega]at n
   cases n
 unfold World.cell? at n⊢;rw[a.block _ P c];exact n
def HC(A:Rel a V Q H)(B:Region.wanted S (yielded U H.tmps)=true)(n:Nj h V S K f f0 Q b):
  ∃P,f0 (bH Q S.dst P)/\((∀d,YieldsAt h U d S P H)\/(kindOf h S≠0/\∀d,ep K f b d->YieldsAt h U d S P H)):=by
 have e:∀(o:Sem Value) P d,(∀b,(execOp (ev V Q) S).run h b=(o.run h b).andThen λP C=>.ok (.value P) C)->o.run h d= .ok P d->YieldsAt h U d S P H:=by
  intro o P d r g;refine .inl ⟨B,.inl ?_⟩;rw[A.eval,r,g]
  rfl
 unfold Nj at n;split at n
 ·rename_i m d i
  obtain⟨p,n⟩:=dL.out n;have E:kindOf h S≠0:=by simp[kindOf,i]
  have s:∀(j:Addr),ev V Q d= .pointer (some j)->(∀c,ep K f b c->∀q t,q.block=j.block->b.cell? q=some t->c.cell? q=some t)->(iK h m (.pointer (some j)) b λP=>f0 (bH Q S.dst P))->
    ∃P,f0 (bH Q S.dst P)/\((∀d,YieldsAt h U d S P H)\/(kindOf h S≠0/\∀d,ep K f b d->YieldsAt h U d S P H)):=by
   intro j l F n;obtain⟨P,g,n⟩:=iK.Wv (known.out p).1 n;exact⟨P,n,.inr ⟨E,λc k=>e (Instr.loadAt m (ev V Q d)) P c (λb=>by simp[execOp,i]) (by rw[l];exact g c (F c k))⟩⟩
  unfold UZ at n;split at n
  ·have l:∃j,ev V Q d= .pointer (some j):=by
    unfold iK at n;split at n
    ·exact⟨_,by assumption⟩
    ·exact n.elim
   obtain⟨j,l⟩:=l;rw[l]at n;exact s j l (λc k q t _ u=>by simp only[ep]at k;rw[k];exact u) n
  ·split at n
   ·rename_i j l
    obtain⟨I,n⟩:=n;exact s j l (λc k q t p u=>by simp only[ep]at k;exact k.U_ (by rw[p];exact I) u) (by rw[<-l];exact n)
   ·exact n.elim
 ·rename_i m d v i
  obtain⟨p,n⟩:=dL.out n;obtain⟨P,g,n⟩:=RS.out (gg.out p) n;exact⟨P,n,.inl λc=>e (Instr.indexAt m (ev V Q d) (ev V Q v)) P c (λb=>by simp[execOp,i]) (g _)⟩
 ·rename_i m d J L M i
  obtain⟨p,n⟩:=dL.out n;obtain⟨P,g,n⟩:=RT.out (λQ N=>gg.out p Q (.inl N)) n;exact⟨P,n,.inl λc=>e (Instr.sliceAt m (ev V Q d) (J.map (ev V Q)) (L.map (ev V Q)) (M.map (ev V Q))) P c (λb=>by simp[execOp,i]) (g _)⟩
 ·rename_i d i
  unfold Ng at n;split at n
  ·rename_i j w
   obtain⟨q,x,rfl,n⟩:=n;exact⟨_,n,.inl λc=>e (.pure (.pointer (some ⟨q,x,none⟩))) _ c (λb=>by simp[execOp,i,w]) rfl⟩
  ·rename_i O first y w
   exact⟨_,n,.inl λc=>e (.pure (.func (.func O) first y)) _ c (λb=>by simp[execOp,i,w]) rfl⟩
  ·exact n.elim
 ·rename_i m d v i
  split at n
  ·rename_i z
   obtain⟨P,g,n⟩:=Fj.out z n;exact⟨P,n,.inl λc=>e (Instr.index m (ev V Q d) (ev V Q v)) P c (λb=>by simp[execOp,i]) (g _)⟩
  ·exact n.elim
 ·split at n
  ·rename_i o r
   split at n
   ·obtain⟨P,g,n⟩:=tA.out n
    refine⟨P,n,?_⟩;split at g
    ·exact .inl λc=>e o P c (λb=>iP r h b) (g c)
    ·rename_i R
     refine .inr ⟨R,λc k=>e o P c (λb=>iP r h b) ?_⟩
     cases K with
     |true=>exact g c k
     |false=>simp only[ep]at k;rw[k];exact g
   ·split at n
    ·rename_i P g
     exact⟨P,n,.inl λc=>e o P c (λb=>iP r h b) (wI g _)⟩
    ·exact n.elim
  ·exact n.elim
def gh(d:Array Oper)(e:Oper)(f:bG)(a:cu)(b n:cu->Prop):Prop:=match e.guard with
 |none=>b a
 |some (g,P)=>match iC d g with
  |none=>False
  |some c=>match get f a c with
   | .bool h=>an h
    (match P with
     |true=>b ((c,.bool true)::a)
     |false=>n ((c,.bool true)::a))
    (match P with
     |true=>n ((c,.bool false)::a)
     |false=>b ((c,.bool false)::a))
   | .tuple _=>n a
   |_=>False
def kv:List Nat->(Nat->Prop)->Prop
 |[],_=>True
 |P::a,n=>match a with
  |[]=>n P
  |_=>n P/\kv a n
def kv.out:∀{l:List Nat} {φ:Nat->Prop},kv l φ->∀a∈l,φ a
 |[],_,_,a,n=>by cases n
 |b::c,φ,P,a,n=>by
  unfold kv at P;split at P
  ·simp only[List.mem_singleton]at n
   subst n;exact P
  ·rcases List.mem_cons.1 n with rfl|n
   ·exact P.1
   ·exact kv.out P.2 a n
def SS(c:Program)(P:Array Oper)(a:Bool)(n:Array Bool)(b:Nat):Bool:=
 Region.free .any P n b&&(match iQ c P b with
  |0=>true
  |_=>match a with
   |true=>true
   |false=>eN c P n b)
def fq(b:Program)(P:Array Oper)(a:Bool)(n:Array Bool)(c:Nat):Bool:=match a with
 |false=>false
 |true=>match iQ b P c with
  |0=>false
  |_=>!eN b P n c
def xu(P:Array Oper)(n:Array Bool)(a:Nat)(c:Nat->Bool):Nat->Bool:=match qw P n a with
 |true=>(λM:Array Bool=>λb=>c b||M.getD b false) (mg P a P.size n)
 |false=>λ_=>true
def iD(d:Program)(P:Array Oper)(a:Bool)(n:Array Bool)(b:Nat)(c:Nat->Bool):Nat->Bool:=match fq d P a n b with
 |true=>xu P n b c
 |false=>c
def AX:∀n,f3 n=true->xu U Z a f3 n=true:=by
 intro n P;unfold xu
 cases qw U Z a with
 |true=>simp[P]
 |false=>rfl
def AY:(∀n,xu U Z a f3 n=true)\/∃P,xt U a Z P/\∀n,P.getD n false=true->xu U Z a f3 n=true:=by
 unfold xu
 cases b:qw U Z a with
 |true=>exact .inr ⟨_,HB b,λn c=>by simp only[c,Bool.or_true]⟩
 |false=>exact .inl λ_=>rfl
def uR(f:Program)(g:bG)(P:Array Oper)(a:Bool)(i:Nat->Prop)(k:List PanicEntry->List Deferred->World->Prop)(j:cu->List Deferred->World->Prop):(Nat->Bool)->Nat->Array Bool->cu->List Deferred->World->Prop
 |W,0,n,b,c,d=>dL (Region.ready .any P n).isEmpty (j b c d)
 |W,l+1,n,b,c,d=>match nd f P (Region.ready .any P n)with
  |some e=>dL (SS f P a n e) (match P[e]? with
   |none=>False
   |some h=>gh P h g b (λb=>Nj f g h (fq f P a n e) i (λb=>uR f g P a i k j (iD f P a n e W) l (n.setIfInBounds e true) b c d) b d)
     (λb=>uR f g P a i k j W l (n.setIfInBounds e true) (bH b h.dst undef) c d))
  |none=>match Region.ready .any P n with
   |[]=>j b c d
   |o=>kv o λe=>match P[e]? with
    |none=>False
    |some h=>gh P h g b (λb=>PJ f P g h (λp _ _ c d=>match p with
     | .panic q=>k q c d
     |_=>False) (λb c m=>SR (a&&W e) i d m (uR f g P a i k j W l (n.setIfInBounds e true) b c m)) b c d)
     (λb=>uR f g P a i k j W l (n.setIfInBounds e true) (bH b h.dst undef) c d)
def gh.out{d b:cu->Prop}(r:∀o e,iC U o=some e->e<a)(h:Rel a V Q H)(n:gh U S V Q d b):
  ∃i,Rel a V i H/\(∀f,get V i f=get V Q f)/\((Region.wanted S (yielded U H.tmps)=true/\d i)\/(Region.wanted S (yielded U H.tmps)=false/\b i)):=by
 unfold gh at n;split at n
 ·rename_i j
  exact⟨Q,h,λ_=>rfl,.inl ⟨by simp[Region.wanted,j],n⟩⟩
 ·rename_i o P j
  split at n
  ·exact n.elim
  ·rename_i e q
   have c:=od h q (r o e q);split at n
   ·rename_i k g
    rw[g]at c;simp only at c;have p:Region.wanted S (yielded U H.tmps)=(k==P):=by
     simp only[Region.wanted,j,c]
     cases k<;>cases P<;>rfl
    rw[p];have l:=h.again g;have m:∀f,get V ((e,.bool k)::Q) f=get V Q f:=qW g
    cases k<;>cases P<;>simp only[an]at n
    ·exact⟨_,l,m,.inl ⟨rfl,n⟩⟩
    ·exact⟨_,l,m,.inr ⟨rfl,n⟩⟩
    ·exact⟨_,l,m,.inr ⟨rfl,n⟩⟩
    ·exact⟨_,l,m,.inl ⟨rfl,n⟩⟩
   ·rename_i s g
    rw[g]at c;simp only at c;have p:Region.wanted S (yielded U H.tmps)=false:=by
     simp[Region.wanted,j,c]
    exact⟨Q,h,λ_=>rfl,.inr ⟨p,n⟩⟩
   ·exact n.elim
def ep.refl(n:Bool)(a:Nat->Prop)(P:World):ep n a P P:=by
 cases n with
 |true=>exact⟨rfl,rfl,rfl,Nat.le_refl _,λ_ _ _=>rfl⟩
 |false=>rfl
def ak.chain(n:ak f b k)(P:ak f k a5):ak f b a5:=
 ⟨P.os.trans n.os,P.tape.trans n.tape,P.output.trans n.output,Nat.le_trans n.size P.size,λa c d=>(P.block a (Nat.lt_of_lt_of_le c n.size) d).trans (n.block a c d)⟩
def qx(c:Nat)(d:bG)(e:cu)(f:List Nat)(g:gJ):List PanicEntry->Act->World->Prop:=λh b i=>
 (∃n P,Rel c n P b/\(∀a,a∉f->get n P a=get d e a))/\∀n P,g (.panic h) n P b.defers i
def qx.SU{P:Option Tmp}(h:∀n,P=some n->n∈b4)(d:List PanicEntry)(b:Act)(e:World)(c:qx a V Q b4 c1 d (b.put P v) e):qx a V Q b4 c1 d b e:=by
 obtain⟨⟨k,l,f,i⟩,c⟩:=c;refine⟨⟨λn=>b.tmps.getD n undef,[],⟨?_,λn=>rfl⟩,λn g=>?_⟩,by simpa[put_defers]using c⟩
 ·have:=f.size
  cases P<;>simpa[Act.put]using this
 ·rw[<-i n g,<-f.slot]
  cases P with
  |none=>rfl
  |some P=>
   have j:P≠n:=by rintro rfl;exact g (h P rfl)
   show _=(b.tmps.setIfInBounds P v).getD n undef;simp only[Array.getD_eq_getD_getElem?];rw[Array.getElem?_setIfInBounds_ne j];simp[au.get]
def qx.post(P:List PanicEntry)(b:Act)(c:World)(n:qx a V Q b4 c1 P b c):cJ a V Q b4 c1 (.panic P) b c:=by
 obtain⟨⟨d,e,f,g⟩,n⟩:=n;exact⟨d,e,f,g,n d e⟩
def lE{i:Program}{x:Nat}{l B0:bG}{e0:cu}{W:List Nat}{P:Array Oper}{a:Bool}{y:Nat->Prop}{K:gJ}(z:∀o b,iC P o=some b->b<x)(s:Region.noSelect P=true)(t:∀e∈P.toList,∀r,e.dst=some r->r<x/\r∈W):
  ∀(V:Nat->Bool) (p:Nat) (n:Array Bool) (j:cu) (h:Act) (f:World),Rel x l j h->(∀b,b∉W->get l j b=get B0 e0 b)->
   uR i l P a y (λE Y f=>∀l j,K (.panic E) l j Y f) (λj Y f=>K .normal l j Y f) V p n j h.defers f->RW i P a (qx x B0 e0 W K) (λo=>V o=true) (cJ x B0 e0 W K .normal) p (ep a y f) n h f
 |V,0,n,j,h,f,N,A,c=>by
  obtain⟨L,O⟩:=dL.out c;exact⟨by simpa using L,l,j,N,A,O⟩
 |V,p+1,n,j,h,f,N,A,c=>by
  have S:∀{d:Nat} {e:Oper},P[d]? =some e->∀(m:Value) (E:List PanicEntry) (h:Act) (f:World),qx x B0 e0 W K E (h.put e.dst m) f->qx x B0 e0 W K E h f:=by
   intro d e g m E h f;have M:e∈P.toList:=by
    obtain⟨b0,rfl⟩:=Array.getElem?_eq_some_iff.1 g;simp
   exact qx.SU (λb u=>(t e M b u).2) E h f
  have a5:∀{d:Nat} {e:Oper},P[d]? =some e->(∀r,e.dst=some r->r<x)/\∀(j:cu),(∀b,b∉W->get l j b=get B0 e0 b)->∀m b,b∉W->get l (bH j e.dst m) b=get B0 e0 b:=by
   intro d e g;have M:e∈P.toList:=by
    obtain⟨b0,rfl⟩:=Array.getElem?_eq_some_iff.1 g;simp
   refine⟨λr v=>(t e M r v).1,λj A m b u=>?_⟩
   cases v:e.dst with
   |none=>exact A b u
   |some r=>
    have b1:=(t e M r v).2;show get l ((r,m)::j) b=_;rw[dx,if_neg (by rintro rfl;exact u b1)];exact A b u
  unfold uR at c;split at c
  ·rename_i d F
   obtain⟨T,U⟩:=ku F;obtain⟨a6,c⟩:=dL.out c;split at c
   ·exact c.elim
   ·rename_i e g
    obtain⟨v,H⟩:=a5 g;simp only[SS,Bool.and_eq_true]at a6;obtain⟨b2,Z⟩:=a6;have X:=Region.free_spec g b2;obtain⟨q,k,a3,a0⟩:=gh.out z N c;have B:∀b,b∉W->get l q b=get B0 e0 b:=λb u=>(a3 b).trans (A b u);rcases a0 with⟨I,c⟩|⟨I,c⟩
    ·obtain⟨m,w,C⟩:=HC k I c
     have a1:∀o,V o=true->iD i P a n d V o=true:=by
      intro o hj;unfold iD
      cases fq i P a n d with
      |true=>exact AX o hj
      |false=>exact hj
     have next:=lE z s t (iD i P a n d V) p (n.setIfInBounds d true) (bH q e.dst m) (h.put e.dst m) f (k.put _ v _) (H q B m) (by rw[put_defers];exact w);rcases C with C|⟨Q,C⟩
     ·exact gv a1 (S g _) g U (Region.noSelect_spec s) (λ_=>True) p _ n h f X T (λa2 _=>C a2) trivial (ep.refl ..) (.inl λ_=>trivial) next
     ·have a7:iQ i P d=kindOf i e:=by simp[iQ,g]
      rw[a7]at Z;have b3:(fq i P a n d=true/\a=true)\/(fq i P a n d=false/\eN i P n d=true):=by
       cases a with
       |false=>
        right;refine⟨rfl,?_⟩;split at Z
        ·rename_i R;exact absurd R Q
        ·simpa using Z
       |true=>
        have M:fq i P true n d= !eN i P n d:=by
         unfold fq;rw[a7];generalize kindOf i e=a8 at Q
         cases a8 with
         |zero=>exact absurd rfl Q
         |succ a8=>rfl
        rw[M]
        cases hb:eN i P n d with
        |true=>right;simp
        |false=>left;simp
      rcases b3 with⟨L,O⟩|⟨L,O⟩
      ·rw[L]at C
       subst O;have hg:(∀o,iD i P true n d V o=true)\/∃a9,xt P d n a9/\∀o,a9.getD o false=true->iD i P true n d V o=true:=by
        unfold iD;rw[L];exact AY
       exact gv a1 (S g _) g U (Region.noSelect_spec s) (ep true y f) p _ n h f X T C (ep.refl ..) (ep.refl ..) (.inr (.inl ⟨rfl,λ_ c=>c,hg⟩)) next
      ·rw[L]at C
       exact gv a1 (S g _) g U (Region.noSelect_spec s) (ep false y f) p _ n h f X T C (ep.refl ..) (ep.refl ..) (.inr (.inr (sj O))) next
    ·have next:=lE z s t V p (n.setIfInBounds d true) (bH q e.dst undef) (h.put e.dst undef) f (k.put _ v _) (H q B _) (by rw[put_defers];exact c)
     exact gv (λ_ c=>c) (S g _) g U (Region.noSelect_spec s) (λ_=>True) p _ n h f X T (λa2 _=>.inr ⟨I,rfl⟩) trivial (ep.refl ..) (.inl λ_=>trivial) next
  ·rename_i hn
   have b4:=tD hn;split at c
   ·rename_i R
    exact⟨λ_=>⟨l,j,N,A,c⟩,λd F=>(by rw[R]at F;cases F)⟩
   ·rename_i b5
    refine⟨λR=>absurd R (by simpa using b5),λd F=>⟨λhs=>(by rw[b4 d F]at hs;cases hs),λ_=>?_⟩⟩;have c:=kv.out c d F;split at c
    ·exact c.elim
    ·rename_i e g
     obtain⟨v,H⟩:=a5 g;obtain⟨q,k,a3,a0⟩:=gh.out z N c;have B:∀b,b∉W->get l q b=get B0 e0 b:=λb u=>(a3 b).trans (A b u);unfold wpOp;simp only[g];rcases a0 with⟨I,c⟩|⟨I,c⟩
     ·rw[if_pos I]
      refine .inl (Fy k v c (λm a' J a4 w=>?_) λE J hq=>⟨⟨l,q,k,B⟩,hq⟩)
      cases a with
      |true=>
       cases hV:V d with
       |true=>
        rw[hV]at w;obtain⟨Q,w⟩:=w;exact⟨ep true y J,λ_ _ a2 hx=>Q.chain hx,ep.refl ..,lE z s t V p _ _ a' J a4 (H q B m) w⟩
       |false=>
        rw[hV]at w;exact⟨ep true y J,λ_ c=>(by cases c),ep.refl ..,lE z s t V p _ _ a' J a4 (H q B m) w⟩
      |false=>exact⟨ep false y J,λc=>(by cases c),ep.refl ..,lE z s t V p _ _ a' J a4 (H q B m) w⟩
     ·rw[if_neg (by rw[I];simp)]
      exact⟨ep a y f,λ_ _ _ c=>c,ep.refl ..,lE z s t V p _ _ (h.put e.dst undef) f (k.put _ v _) (H q B _) (by rw[put_defers];exact c)⟩
def SV(a:Bool)(n:Nat->Prop)(b c:World)(P:(Nat->Prop)->Prop):Prop:=match a with
 |true=>ak n b c/\P n
 |false=>∃d:Nat->Prop,P d
def sk(e:Program)(f:bG)(P:Array Oper)(j:List PanicEntry->List Deferred->World->Prop)(h:cu->List Deferred->World->Prop):(Nat->Prop)->(Nat->Bool)->Nat->Array Bool->cu->List Deferred->World->Prop
 |S,i,0,n,a,b,c=>dL (Region.ready .any P n).isEmpty (h a b c)
 |S,i,k+1,n,a,b,c=>match nd e P (Region.ready .any P n)with
  |some d=>dL (SS e P true n d) (match P[d]? with
   |none=>False
   |some g=>gh P g f a (λa=>Nj e f g (fq e P true n d) S (λa=>sk e f P j h S (iD e P true n d i) k (n.setIfInBounds d true) a b c) a c)
     (λa=>sk e f P j h S i k (n.setIfInBounds d true) (bH a g.dst undef) b c))
  |none=>match Region.ready .any P n with
   |[]=>h a b c
   |m=>kv m λd=>match P[d]? with
    |none=>False
    |some g=>gh P g f a (λa=>PJ e P f g (λo _ _ b c=>match o with
     | .panic p=>j p b c
     |_=>False) (λa b l=>SV (i d) S c l λS=>sk e f P j h S i k (n.setIfInBounds d true) a b l) a b c)
     (λa=>sk e f P j h S i k (n.setIfInBounds d true) (bH a g.dst undef) b c)
def ky{h:Program}{w:Nat}{k B0:bG}{e0:cu}{W:List Nat}{P:Array Oper}{H:gJ}(A:∀m a,iC P m=some a->a<w)(t:Region.noSelect P=true)(x:∀d∈P.toList,∀q,d.dst=some q->q<w/\q∈W):
  ∀(S:Nat->Prop) (l:Nat->Bool) (p:Nat) (n:Array Bool) (i:cu) (g:Act) (e:World),Rel w k i g->(∀a,a∉W->get k i a=get B0 e0 a)->
   sk h k P (λB V e=>∀k i,H (.panic B) k i V e) (λi V e=>H .normal k i V e) S l p n i g.defers e->RW h P true (qx w B0 e0 W H) (λm=>l m=true) (cJ w B0 e0 W H .normal) p (ep true S e) n g e
 |S,l,0,n,i,g,e,L,y,b=>by
  obtain⟨I,N⟩:=dL.out b;exact⟨by simpa using I,k,i,L,y,N⟩
 |S,l,p+1,n,i,g,e,L,y,b=>by
  have O:∀{c:Nat} {d:Oper},P[c]? =some d->∀(o:Value) (B:List PanicEntry) (g:Act) (e:World),qx w B0 e0 W H B (g.put d.dst o) e->qx w B0 e0 W H B g e:=by
   intro c d f o B g e;have J:d∈P.toList:=by
    obtain⟨a7,rfl⟩:=Array.getElem?_eq_some_iff.1 f;simp
   exact qx.SU (λa u=>(x d J a u).2) B g e
  have a1:∀{c:Nat} {d:Oper},P[c]? =some d->(∀q,d.dst=some q->q<w)/\∀(i:cu),(∀a,a∉W->get k i a=get B0 e0 a)->∀o a,a∉W->get k (bH i d.dst o) a=get B0 e0 a:=by
   intro c d f;have J:d∈P.toList:=by
    obtain⟨a7,rfl⟩:=Array.getElem?_eq_some_iff.1 f;simp
   refine⟨λq v=>(x d J q v).1,λi y o a u=>?_⟩
   cases v:d.dst with
   |none=>exact y a u
   |some q=>
    have a8:=(x d J q v).2;show get k ((q,o)::i) a=_;rw[dx,if_neg (by rintro rfl;exact u a8)];exact y a u
  unfold sk at b;split at b
  ·rename_i c C
   obtain⟨Q,R⟩:=ku C;obtain⟨a4,b⟩:=dL.out b;split at b
   ·exact b.elim
   ·rename_i d f
    obtain⟨v,K⟩:=a1 f;simp only[SS,Bool.and_eq_true]at a4;obtain⟨a9,b0⟩:=a4;have T:=Region.free_spec f a9;obtain⟨r,j,X,Y⟩:=gh.out A L b;have E:∀a,a∉W->get k r a=get B0 e0 a:=λa u=>(X a).trans (y a u);rcases Y with⟨F,b⟩|⟨F,b⟩
    ·obtain⟨o,s,z⟩:=HC j F b
     have Z:∀m,l m=true->iD h P true n c l m=true:=by
      intro m hj;unfold iD
      cases fq h P true n c with
      |true=>exact AX m hj
      |false=>exact hj
     have next:=ky A t x S (iD h P true n c l) p (n.setIfInBounds c true) (bH r d.dst o) (g.put d.dst o) e (j.put _ v _) (K r E o) (by rw[put_defers];exact s);rcases z with z|⟨U,z⟩
     ·exact gv Z (O f _) f R (Region.noSelect_spec t) (λ_=>True) p _ n g e T Q (λa0 _=>z a0) trivial (ep.refl ..) (.inl λ_=>trivial) next
     ·have a5:iQ h P c=kindOf h d:=by simp[iQ,f]
      rw[a5]at b0;have b1:(fq h P true n c=true/\True)\/(fq h P true n c=false/\eN h P n c=true):=by
       have J:fq h P true n c= !eN h P n c:=by
        unfold fq;rw[a5];generalize kindOf h d=a2 at U
        cases a2 with
        |zero=>exact absurd rfl U
        |succ a2=>rfl
       rw[J]
       cases hb:eN h P n c with
       |true=>right;simp
       |false=>left;simp
      rcases b1 with⟨I,N⟩|⟨I,N⟩
      ·rw[I]at z
       have hg:(∀m,iD h P true n c l m=true)\/∃a3,xt P c n a3/\∀m,a3.getD m false=true->iD h P true n c l m=true:=by
        unfold iD;rw[I];exact AY
       exact gv Z (O f _) f R (Region.noSelect_spec t) (ep true S e) p _ n g e T Q z (ep.refl ..) (ep.refl ..) (.inr (.inl ⟨rfl,λ_ b=>b,hg⟩)) next
      ·rw[I]at z
       exact gv Z (O f _) f R (Region.noSelect_spec t) (ep false S e) p _ n g e T Q z (ep.refl ..) (ep.refl ..) (.inr (.inr (sj N))) next
    ·have next:=ky A t x S l p (n.setIfInBounds c true) (bH r d.dst undef) (g.put d.dst undef) e (j.put _ v _) (K r E _) (by rw[put_defers];exact b)
     exact gv (λ_ b=>b) (O f _) f R (Region.noSelect_spec t) (λ_=>True) p _ n g e T Q (λa0 _=>.inr ⟨F,rfl⟩) trivial (ep.refl ..) (.inl λ_=>trivial) next
  ·rename_i hn
   have b2:=tD hn;split at b
   ·rename_i h0
    exact⟨λ_=>⟨k,i,L,y,b⟩,λc C=>(by rw[h0]at C;cases C)⟩
   ·rename_i b3
    refine⟨λh0=>absurd h0 (by simpa using b3),λc C=>⟨λhs=>(by rw[b2 c C]at hs;cases hs),λ_=>?_⟩⟩;have b:=kv.out b c C;split at b
    ·exact b.elim
    ·rename_i d f
     obtain⟨v,K⟩:=a1 f;obtain⟨r,j,X,Y⟩:=gh.out A L b;have E:∀a,a∉W->get k r a=get B0 e0 a:=λa u=>(X a).trans (y a u);unfold wpOp;simp only[f];rcases Y with⟨F,b⟩|⟨F,b⟩
     ·rw[if_pos F]
      refine .inl (Fy j v b (λo a' M a6 s=>?_) λB M hq=>⟨⟨k,r,j,E⟩,hq⟩)
      cases hV:l c with
      |true=>
       rw[hV]at s;obtain⟨U,s⟩:=s;exact⟨ep true S M,λ_ _ a0 hx=>U.chain hx,ep.refl ..,ky A t x S l p _ _ a' M a6 (K r E o) s⟩
      |false=>
       rw[hV]at s;obtain⟨S',s⟩:=s;exact⟨ep true S' M,λ_ b=>(by cases b),ep.refl ..,ky A t x S' l p _ _ a' M a6 (K r E o) s⟩
     ·rw[if_neg (by rw[F];simp)]
      exact⟨ep true S e,λ_ _ _ b=>b,ep.refl ..,ky A t x S l p _ _ (g.put d.dst undef) e (j.put _ v _) (K r E _) (by rw[put_defers];exact b)⟩
structure fQ where
 aP:List Nat
 TP:List Nat
 kinds:List Nat
def bit(n:Nat):Nat:=Nat.shiftLeft 1 n
def LG(a:Oper):Nat:=a.after.foldl (λn P=>match Region.binds .any P with|true=>Nat.lor n (bit P.on)|false=>n) 0
def Ko(n:Array Oper)(P:Nat):Nat:=(List.range n.size).foldl (λb a=>match Nat.beq a P||(match n[P]?,n[a]? with
 |some B,some c=>c.after.any (λd=>Region.binds .any d&&d.on==P)||B.apart n c
 |_,none=>true
 |none,_=>false)with|true=>Nat.lor b (bit a)|false=>b) 0
def Nk:List Nat->List Nat->Bool
 |[],[]=>true
 |a::n,P::b=>Nat.beq a P&&Nk n b
 |_,_=>false
def fQ.ok(a:Program)(n:Array Oper)(P:fQ):Bool:=
 Nk P.aP (n.toList.map LG)&&Nk P.TP ((List.range n.size).map (Ko n))&&Nk P.kinds (n.toList.map (kindOf a))
def hasB(n P:Nat):Bool:=Nat.testBit n P
def dN(P:fQ)(b a:Nat):List Nat:=(List.range b).filter λn=>!hasB a n&&Nat.beq (Nat.land (P.aP.getD n 0) a) (P.aP.getD n 0)
def Fz(n:fQ)(P:Nat):Bool:=!Nat.beq (n.kinds.getD P 2) 2
def AZ(n:fQ):List Nat->Option Nat
 |[]=>none
 |P::a=>match Fz n P with
  |true=>some P
  |false=>AZ n a
def wJ(a:fQ)(b c:Nat):Nat->Nat->Nat
 |0,n=>n
 |f+1,n=>match(dN a b n).find? (λP=>!Nat.beq P c)with
  |some P=>wJ a b c f (Nat.lor n (bit P))
  |none=>n
def xv(n P:Nat):(bit n).testBit P=decide (n=P):=by
 unfold bit;show(1<<<n).testBit P=_;rw[Nat.one_shiftLeft,Nat.testBit_two_pow]
def oe{d:Type}(a:d->Bool)(b:d->Nat)(P:Nat):∀(c:List d) (n:Nat),(c.foldl (λn e=>match a e with|true=>Nat.lor n (bit (b e))|false=>n) n).testBit P=(n.testBit P||c.any λe=>a e&&b e==P)
 |[],n=>by simp
 |e::c,n=>by
  rw[List.foldl_cons,oe a b P c]
  cases f:a e with
  |false=>simp[f]
  |true=>
   simp only[f,List.any_cons,Bool.true_and];show((n|||bit (b e)).testBit P||_)=_;rw[Nat.testBit_or,xv,Bool.or_assoc]
   congr 2
def xx(a:Oper)(P:Nat):(LG a).testBit P=a.after.any λn=>Region.binds .any n&&n.on==P:=by
 unfold LG;rw[<-Array.foldl_toList,oe (λn=>Region.binds .any n) (λn=>n.on) P];simp
def land_eq:Nat.beq (Nat.land a c) a=true↔∀n,a.testBit n=true->c.testBit n=true:=by
 constructor
 ·intro P n b
  have P:=Nat.eq_of_beq_eq_true P;have:(a&&&c).testBit n=true:=by
   show(Nat.land a c).testBit n=true;rw[P];exact b
  rw[Nat.testBit_and]at this;simp at this;exact this.2
 ·intro P
  have:a&&&c=a:=by
   apply Nat.eq_of_testBit_eq;intro n;rw[Nat.testBit_and]
   cases d:a.testBit n with
   |false=>rfl
   |true=>rw[P n d];rfl
  show Nat.beq (a&&&c) a=true;rw[this];exact Nat.beq_refl a
def Nk.out:∀{l P:List Nat},Nk l P=true->l=P
 |[],[],_=>rfl
 |[],_::_,n=>by cases n
 |_::_,[],n=>by cases n
 |a::l,b::P,n=>by
  simp only[Nk,Bool.and_eq_true]at n;rw[Nat.eq_of_beq_eq_true n.1,Nk.out n.2]
structure BL (listed:Array Bool) (n N:Nat):Prop where
 size:listed.size=n
 bit:∀i,listed.getD i false=N.testBit i
def BL.set(n:BL Z a c)(d:i<a):BL (Z.setIfInBounds i true) a (Nat.lor c (au.bit i)):=by
 refine⟨by simp[n.size],λP=>?_⟩;show _=(c|||au.bit i).testBit P;rw[Nat.testBit_or,xv,<-n.bit P]
 by_cases b:i=P
 ·subst b
  have:i<Z.size:=by rw[n.size];exact d
  simp[this]
 ·rw[getD_set_ne false b];simp[b]
variable{b6:fQ}
def kC(e:b6.ok h U=true)(d:BL Z U.size a):Region.ready .any U Z=dN b6 U.size a:=by
 unfold fQ.ok at e;simp only[Bool.and_eq_true]at e;have j:=Nk.out e.1.1;unfold Region.ready dN;refine List.filter_congr λn P=>?_;have P:=List.mem_range.1 P;have k:Z.getD n true=a.testBit n:=by
  rw[<-d.bit n];have:n<Z.size:=by rw[d.size];exact P
  simp[this]
 have l:b6.aP.getD n 0=LG U[n]:=by
  rw[j];simp[P]
 rw[k,l,Array.getElem?_eq_getElem P];simp only[Option.map_some,Option.getD_some,hasB]
 congr 1
 rw[Bool.eq_iff_iff,land_eq];rw[Array.all_eq_true_iff_forall_mem];constructor
 ·intro f m i
  rw[xx]at i;obtain⟨b,g,c⟩:=Array.any_eq_true'.1 i;simp only[Bool.and_eq_true,beq_iff_eq]at c;have:=f b g;rw[c.1,d.bit,c.2]at this;simpa using this
 ·intro f b g
  cases c:Region.binds .any b with
  |false=>rfl
  |true=>
   rw[d.bit];have:=f b.on (by rw[xx];exact Array.any_eq_true'.2 ⟨b,g,by simp[c]⟩);simp[this]
def ng(n:b6.ok h U=true)(P:a<U.size):b6.kinds.getD a 2=iQ h U a/\Fz b6 a=fz h U a:=by
 unfold fQ.ok at n;simp only[Bool.and_eq_true]at n;have c:=Nk.out n.2;have b:b6.kinds.getD a 2=iQ h U a:=by
  rw[c];unfold iQ;rw[Array.getElem?_eq_getElem P];simp[P]
 refine⟨b,?_⟩;unfold Fz fz;rw[b];generalize iQ h U a=k
 match k with
 |0=>rfl
 |1=>rfl
 |2=>rfl
 |k+3=>rfl
def FA{a:Program}{n:Array Oper}{c:fQ}(d:c.ok a n=true):∀(b:List Nat),(∀P∈b,P<n.size)->AZ c b=nd a n b
 |[],_=>rfl
 |P::f,e=>by
  unfold AZ nd;rw[(ng d (e P (List.mem_cons_self ..))).2,FA d f λg h=>e g (List.mem_cons_of_mem _ h)]
  try(cases fz a n P<;>rfl)
def kD(n:i∈dN b6 a c):i<a:=List.mem_range.1 (List.mem_filter.1 n).1
def uS{h:Program}{P:Array Oper}{d:fQ}(e:d.ok h P=true)(b:Nat):∀(f:Nat) {n:Array Bool} {c:Nat},BL n P.size c->BL (mg P b f n) P.size (wJ d P.size b f c)
 |0,_,_,a=>a
 |f+1,n,c,a=>by
  unfold mg wJ;rw[kC e a]
  cases i:(dN d P.size c).find? (λg=>!Nat.beq g b)with
  |some g=>exact uS e b f (a.set (kD (List.mem_of_find?_eq_some i)))
  |none=>exact a
def uT(a:fQ)(P d b:Nat):Bool:=
 (λc:Nat=>!hasB c b&&(dN a P c).all (λn=>Nat.beq n b)&&(List.range P).all λn=>!hasB c n||Fz a n||hasB d n) (wJ a P b P d)
def BL.Va(n:BL Z a c)(P:i<a):Z.getD i true=c.testBit i:=by
 rw[<-n.bit i];have:i<Z.size:=by rw[n.size];exact P
 simp[this]
def og(n:b6.ok h U=true)(b:BL Z U.size a)(d:c<U.size):uT b6 U.size a c=eN h U Z c:=by
 have P:=uS n c U.size b;unfold uT eN;simp only;rw[kC n P,P.Va d]
 congr 1
 rw[Bool.eq_iff_iff,List.all_eq_true,List.all_eq_true];refine forall_congr' λf=>forall_congr' λe=>?_;rw[(ng n (List.mem_range.1 e)).2,P.bit,b.bit]
 rfl
def PM(P:fQ)(a b c:Nat):Bool:=(List.range a).all λn=>hasB (P.TP.getD c 0) n||hasB b n
def LH(e:b6.ok h U=true)(k:BL Z U.size a)(f:c<U.size):PM b6 U.size a c=Region.free .any U Z c:=by
 unfold fQ.ok at e;simp only[Bool.and_eq_true]at e;have l:=Nk.out e.1.2;have b:b6.TP.getD c 0=Ko U c:=by rw[l];simp[f]
 unfold PM Region.free;rw[b,Array.getElem?_eq_getElem f];simp only;rw[Bool.eq_iff_iff,List.all_eq_true,List.all_eq_true];refine forall_congr' λn=>forall_congr' λd=>?_;have d:=List.mem_range.1 d;rw[k.Va d,Array.getElem?_eq_getElem d];unfold hasB Ko;rw[oe (λn=>Nat.beq n c||(match U[c]?,U[n]? with
  |some H,some j=>j.after.any (λb=>Region.binds .any b&&b.on==c)||H.apart U j
  |_,none=>true
  |none,_=>false)) (λn=>n) n]
 rw[Nat.zero_testBit,Bool.false_or];have P:∀g:Nat->Bool,((List.range U.size).any λb=>g b&&b==n)=g n:=λg=>by
  rw[Bool.eq_iff_iff,List.any_eq_true];constructor
  ·rintro⟨p,_,i⟩
   simp only[Bool.and_eq_true,beq_iff_eq]at i;rw[<-i.2];exact i.1
  ·intro m
   exact⟨n,List.mem_range.2 d,by simp[m]⟩
 rw[P];simp only[Array.getElem?_eq_getElem f,Array.getElem?_eq_getElem d];have o:(Nat.beq n c)=(n==c):=by rw[Bool.eq_iff_iff,Nat.beq_eq,beq_iff_eq]
 rw[o]
 cases(n==c)<;>cases a.testBit n<;>simp
def Un(P:fQ)(n:Bool)(b c a:Nat):Bool:=
 PM P b c a&&(match P.kinds.getD a 2 with
  |0=>true
  |_=>match n with
   |true=>true
   |false=>uT P b c a)
def A_(P:fQ)(n:Bool)(b c a:Nat):Bool:=match n with
 |false=>false
 |true=>match P.kinds.getD a 2 with
  |0=>false
  |_=>!uT P b c a
def Kp(P:fQ)(n b a:Nat):Bool:=(λc:Nat=>(dN P n c).all (λd=>Nat.beq d a)) (wJ P n a n b)
def PN(P:fQ)(n a b:Nat)(d:Nat->Bool):Nat->Bool:=match Kp P n a b with
 |true=>(λe:Nat=>λc=>d c||hasB e c) (wJ P n b n a)
 |false=>λ_=>true
def Du(P:fQ)(n:Bool)(a b c:Nat)(d:Nat->Bool):Nat->Bool:=match A_ P n a b c with
 |true=>PN P a b c d
 |false=>d
def PO(n:b6.ok h U=true)(P:BL Z U.size a):Kp b6 U.size a c=qw U Z c:=by
 have b:=uS n c U.size P;unfold Kp qw;simp only;rw[kC n b]
def LI(n:b6.ok h U=true)(P:BL Z U.size a):PN b6 U.size a c f3=xu U Z c f3:=by
 have b:=uS n c U.size P;unfold PN xu;rw[PO n P]
 cases qw U Z c
 ·rfl
 ·simp only
  funext j
  rw[b.bit]
  rfl
def sq(j:Program)(h:bG)(P:Array Oper)(b:fQ)(g:Nat)(n:Bool)(k:Nat->Prop)(m:List PanicEntry->List Deferred->World->Prop)(l:cu->List Deferred->World->Prop):(Nat->Bool)->Nat->Nat->cu->List Deferred->World->Prop
 |W,0,c,a,d,e=>dL (dN b g c).isEmpty (l a d e)
 |W,o+1,c,a,d,e=>match AZ b (dN b g c)with
  |some f=>dL (Un b n g c f) (match P[f]? with
   |none=>False
   |some i=>gh P i h a (λa=>Nj j h i (A_ b n g c f) k (λa=>sq j h P b g n k m l (Du b n g c f W) o (Nat.lor c (bit f)) a d e) a e)
     (λa=>sq j h P b g n k m l W o (Nat.lor c (bit f)) (bH a i.dst undef) d e))
  |none=>match dN b g c with
   |[]=>l a d e
   |q=>kv q λf=>match P[f]? with
    |none=>False
    |some i=>gh P i h a (λa=>PJ j P h i (λr _ _ d e=>match r with
     | .panic s=>m s d e
     |_=>False) (λa d p=>SR (n&&W f) k e p (sq j h P b g n k m l W o (Nat.lor c (bit f)) a d p)) a d e)
     (λa=>sq j h P b g n k m l W o (Nat.lor c (bit f)) (bH a i.dst undef) d e)
def qy{b c:Nat->Prop}:∀{a:List Nat},(∀n∈a,b n=c n)->kv a b=kv a c
 |[],_=>rfl
 |[n],P=>by
  unfold kv;exact P n (List.mem_cons_self ..)
 |n::f::g,P=>by
  unfold kv;rw[P n (List.mem_cons_self ..),qy λd e=>P d (List.mem_cons_of_mem _ e)]
def qz{f:Program}{k:bG}{n:Array Oper}{g:fQ}(h:g.ok f n=true){a:Bool}{l:Nat->Prop}{m:List PanicEntry->List Deferred->World->Prop}{o:cu->List Deferred->World->Prop}:∀(W:Nat->Bool) (j:Nat) {P:Array Bool} {d:Nat},BL P n.size d->
  sq f k n g n.size a l m o W j d=uR f k n a l m o W j P
 |W,0,P,d,i=>by
  funext e ds w
  unfold sq uR;rw[kC h i]
 |W,j+1,P,d,i=>by
  have p:∀W b,b<n.size->sq f k n g n.size a l m o W j (Nat.lor d (bit b))=uR f k n a l m o W j (P.setIfInBounds b true):=λW b c=>qz h W j (i.set c);have r:AZ g (dN g n.size d)=nd f n (dN g n.size d):=FA h _ λb c=>kD c
  funext e ds w
  unfold sq uR;rw[kC h i,r]
  cases s:nd f n (dN g n.size d)with
  |some b=>
   have c:b<n.size:=kD (ku s).1;have t:Un g a n.size d b=SS f n a P b:=by
    unfold Un SS;rw[LH h i c,(ng h c).1,og h i c]
    try(cases iQ f n b<;>cases a<;>rfl)
   have q:A_ g a n.size d b=fq f n a P b:=by
    unfold A_ fq;rw[(ng h c).1,og h i c]
   have u:Du g a n.size d b W=iD f n a P b W:=by
    unfold Du iD;rw[q,LI h i]
   simp only[t,q,u,p _ b c]
   try(cases n[b]? <;>rfl)
  |none=>
   cases v:dN g n.size d with
   |nil=>rfl
   |cons x y=>
    simp only;refine qy λb c=>?_;have c:b<n.size:=kD (by rw[v];exact c);simp only[p _ b c]
    try(cases n[b]? <;>rfl)
def oh(i:Program)(g:bG)(n:Array Oper)(a:fQ)(f:Nat)(l:List PanicEntry->List Deferred->World->Prop)(j:cu->List Deferred->World->Prop):(Nat->Prop)->(Nat->Bool)->Nat->Nat->cu->List Deferred->World->Prop
 |S,k,0,b,P,c,d=>dL (dN a f b).isEmpty (j P c d)
 |S,k,m+1,b,P,c,d=>match AZ a (dN a f b)with
  |some e=>dL (Un a true f b e) (match n[e]? with
   |none=>False
   |some h=>gh n h g P (λP=>Nj i g h (A_ a true f b e) S (λP=>oh i g n a f l j S (Du a true f b e k) m (Nat.lor b (bit e)) P c d) P d)
     (λP=>oh i g n a f l j S k m (Nat.lor b (bit e)) (bH P h.dst undef) c d))
  |none=>match dN a f b with
   |[]=>j P c d
   |p=>kv p λe=>match n[e]? with
    |none=>False
    |some h=>gh n h g P (λP=>PJ i n g h (λq _ _ c d=>match q with
     | .panic r=>l r c d
     |_=>False) (λP c o=>SV (k e) S d o λS=>oh i g n a f l j S k m (Nat.lor b (bit e)) P c o) P c d)
     (λP=>oh i g n a f l j S k m (Nat.lor b (bit e)) (bH P h.dst undef) c d)
def wK{d:Program}{k:bG}{n:Array Oper}{f:fQ}(h:f.ok d n=true){l:List PanicEntry->List Deferred->World->Prop}{m:cu->List Deferred->World->Prop}:∀(S:Nat->Prop) (g:Nat->Bool) (j:Nat) {P:Array Bool} {c:Nat},BL P n.size c->
  oh d k n f n.size l m S g j c=sk d k n l m S g j P
 |S,g,0,P,c,i=>by
  funext e ds w
  unfold oh sk;rw[kC h i]
 |S,g,j+1,P,c,i=>by
  have o:∀S g a,a<n.size->oh d k n f n.size l m S g j (Nat.lor c (bit a))=sk d k n l m S g j (P.setIfInBounds a true):=λS g a b=>wK h S g j (i.set b);have q:AZ f (dN f n.size c)=nd d n (dN f n.size c):=FA h _ λa b=>kD b
  funext e ds w
  unfold oh sk;rw[kC h i,q]
  cases r:nd d n (dN f n.size c)with
  |some a=>
   have b:a<n.size:=kD (ku r).1;have s:Un f true n.size c a=SS d n true P a:=by
    unfold Un SS;rw[LH h i b,(ng h b).1,og h i b]
    try(cases iQ d n a<;>rfl)
   have p:A_ f true n.size c a=fq d n true P a:=by
    unfold A_ fq;rw[(ng h b).1,og h i b]
   have t:Du f true n.size c a g=iD d n true P a g:=by
    unfold Du iD;rw[p,LI h i]
   simp only[s,p,t,o _ _ a b]
   try(cases n[a]? <;>rfl)
  |none=>
   cases u:dN f n.size c with
   |nil=>rfl
   |cons v x=>
    simp only;refine qy λa b=>?_;have b:a<n.size:=kD (by rw[u];exact b);simp only[o _ _ a b]
    try(cases n[a]? <;>rfl)
def SX(P:List (Nat×fQ))(n:Nat):Option fQ:=match P with
 |[]=>none
 |(a,b)::c=>match Nat.beq a n with
  |true=>some b
  |false=>SX c n
def BL.init(n:Nat):BL (Array.replicate n false) n 0:=⟨by simp,λa=>by
 rw[Nat.zero_testBit]
 by_cases P:a<n
 ·simp[P]
 ·simp[P]⟩
def key:Code->Option Nat
 | .region id _ _=>some id
 | .seq P a=>match key P with
  |some b=>some b
  |none=>key a
 | .cond _ P a=>match key P with
  |some b=>some b
  |none=>key a
 | .block _ n=>key n
 | .loop n=>key n
 | .scope n=>key n
 |_=>none
def Dw:List Oper->List Nat
 |[]=>[]
 |P::n=>match P.dst with
  |some a=>a::Dw n
  |none=>Dw n
def writes:Code->List Nat
 | .region _ P _=>Dw P.toList
 | .seq a b=>writes a++writes b
 | .cond _ a b=>writes a++writes b
 | .block _ n=>writes n
 | .loop n=>writes n
 | .scope n=>writes n
 |_=>[]
def jW{P:List Oper}(n:S∈P)(b:S.dst=some a):a∈Dw P:=by
 induction P with
 |nil=>cases n
 |cons d e c=>
  unfold Dw
  cases n with
  |head=>rw[b];exact List.mem_cons_self ..
  |tail _ n=>split<;>simp[c n]
structure jN where
 loops:List (Nat×List (Nat×Value))
 Pv:List (Nat×List (Nat×Value))
 keeps:List Nat
 Ly:List Nat
 Vb:List (Nat×fQ)
def Nl(P:List (Nat×List (Nat×Value)))(n:Option Nat):Option (List (Nat×Value)):=match n with
 |none=>none
 |some n=>match P with
  |[]=>none
  |(a,b)::c=>match Nat.beq a n with
   |true=>some b
   |false=>Nl c (some n)
def Ba(P:List Nat)(n:Nat):Bool:=match P with
 |[]=>false
 |d::a=>match Nat.beq d n with
  |true=>true
  |false=>Ba a n
def eA(P:List Nat):cu->(cu->Prop)->Prop
 |[],n=>n []
 |(a,c)::b,n=>match Ba P a with
  |true=>eA P b n
  |false=>eA P b λd=>n ((a,c)::d)
def Fn:List Value->Type->Type
 |[],n=>n
 |z::P,n=>match z with
  | .int _ _=>Int->Fn P n
  | .bool _=>Bool->Fn P n
  | .string _=>ByteArray->Fn P n
  | .slice _ _ _=>Option Addr->Nat->Nat->Fn P n
  | .pointer (some _)=>Nat->Nat->Fn P n
  | .pointer none=>Option Addr->Fn P n
  | .map _=>Option Nat->Fn P n
  |_=>Value->Fn P n
def ap:(P:List Value)->Fn P (World->Prop)->List Value->World->Prop
 |[],n,_,a=>n a
 |z::P,n,b,a=>match b with
  |[]=>False
  |v::b=>match z,n with
   | .int e _,n=>match v with
    | .int f c=>dL (decide (f=e)) (ap P (n c) b a)
    |_=>False
   | .bool _,n=>match v with
    | .bool d=>ap P (n d) b a
    |_=>False
   | .string _,n=>match v with
    | .string g=>ap P (n g) b a
    |_=>False
   | .slice _ _ _,n=>match v with
    | .slice h c i=>ap P (n h c i) b a
    |_=>False
   | .pointer (some _),n=>match v with
    | .pointer (some ⟨d,j,none⟩)=>ap P (n d j) b a
    |_=>False
   | .pointer none,n=>match v with
    | .pointer k=>ap P (n k) b a
    |_=>False
   | .map _,n=>match v with
    | .map l=>ap P (n l) b a
    |_=>False
   | .float _ _,n=>ap P (n v) b a
   | .complex _ _ _,n=>ap P (n v) b a
   | .chan _,n=>ap P (n v) b a
   | .func _ _ _,n=>ap P (n v) b a
   | .nilFunc,n=>ap P (n v) b a
   | .iface _ _,n=>ap P (n v) b a
   | .nilIface,n=>ap P (n v) b a
   | .agg _,n=>ap P (n v) b a
   | .tuple _,n=>ap P (n v) b a
def mh:List Value->(List Value->Prop)->Prop
 |[],P=>P []
 |z::a,P=>match z with
  | .int d _=>∀b,mh a λn=>P (.int d b::n)
  | .bool _=>∀c,mh a λn=>P (.bool c::n)
  | .string _=>∀e,mh a λn=>P (.string e::n)
  | .slice _ _ _=>∀f b g,mh a λn=>P (.slice f b g::n)
  | .pointer (some _)=>∀c h,mh a λn=>P (.pointer (some ⟨c,h,none⟩)::n)
  | .pointer none=>∀i,mh a λn=>P (.pointer i::n)
  | .map _=>∀j,mh a λn=>P (.map j::n)
  |_=>∀k,mh a λn=>P (k::n)
def ap.all:∀{f:List Value} {h:Fn f (World->Prop)} {d:List Value} {i:World} {φ:List Value->Prop},d.length=f.length->ap f h d i->mh f φ->φ d
 |[],h,d,i,φ,g,_,c=>by
  cases d with
  |nil=>exact c
  |cons e d=>simp at g
 |z::f,h,d,i,φ,g,n,c=>by
  cases d with
  |nil=>simp at g
  |cons e d=>
   have a:d.length=f.length:=by simpa using g
   cases z
   case pointer r=>
    cases r with
    |none=>
     simp only[mh]at c
     cases e<;>try exact n.elim
     rename_i P;exact ap.all (φ:=λb=>φ (.pointer P::b)) a n (c P)
    |some _=>
     simp only[mh]at c
     cases e<;>try exact n.elim
     rename_i P
     cases P with
     |none=>exact n.elim
     |some P=>
      obtain⟨j,l,m⟩:=P
      cases m with
      |some m=>exact n.elim
      |none=>exact ap.all (φ:=λb=>φ (.pointer (some ⟨j,l,none⟩)::b)) a n (c j l)
   all_goals simp only[mh]at c
   case int k _=>
    cases e<;>try exact n.elim
    rename_i s o;obtain⟨t,n⟩:=dL.out n;obtain rfl:=of_decide_eq_true t;exact ap.all (φ:=λb=>φ (.int s o::b)) a n (c o)
   case bool=>
    cases e<;>try exact n.elim
    rename_i P;exact ap.all (φ:=λb=>φ (.bool P::b)) a n (c P)
   case string=>
    cases e<;>try exact n.elim
    rename_i P;exact ap.all (φ:=λb=>φ (.string P::b)) a n (c P)
   case slice=>
    cases e<;>try exact n.elim
    rename_i P p q;exact ap.all (φ:=λb=>φ (.slice P p q::b)) a n (c P p q)
   case map=>
    cases e<;>try exact n.elim
    rename_i P;exact ap.all (φ:=λb=>φ (.map P::b)) a n (c P)
   all_goals exact ap.all (φ:=λb=>φ (e::b)) a n (c e)
def HD:Ba b4 a=true↔a∈b4:=by
 induction b4 with
 |nil=>simp[Ba]
 |cons n b P=>
  unfold Ba
  cases h:Nat.beq n a with
  |true=>
   have:=Nat.eq_of_beq_eq_true h;simp[this]
  |false=>
   have:n≠a:=by rintro rfl;simp at h
   simp only[P,List.mem_cons];constructor
   ·exact .inr
   ·rintro(rfl|h)
    ·exact absurd rfl this
    ·exact h
def eA.out{d:List Nat}:∀{k:cu} {f:cu->Prop},eA d k f->∃b,(∀P n,n∉d->get P b n=get P k n)/\(∀P n,n∈d->get P b n=P n)/\f b
 |[],f,a=>⟨[],λ_ _ _=>rfl,λ_ _ _=>rfl,a⟩
 |(h,l)::m,f,a=>by
  unfold eA at a;split at a
  ·rename_i g
   have e:h∈d:=HD.1 g;obtain⟨b,i,j,a⟩:=eA.out a;refine⟨b,λP n c=>?_,j,a⟩;rw[i P n c,dx,if_neg (by rintro rfl;exact c e)]
  ·rename_i g
   have e:h∉d:=λe=>by rw[HD.2 e]at g;cases g
   obtain⟨b,i,j,a⟩:=eA.out a;refine⟨(h,l)::b,λP n c=>?_,λP n c=>?_,a⟩
   ·rw[dx,dx,i P n c]
   ·rw[dx,if_neg (by rintro rfl;exact e c),j P n c]
def ia:List (Nat×Value)->List Value
 |[]=>[]
 |(_,n)::P=>n::ia P
def yH(n:bG)(P:cu):List (Nat×Value)->List Value
 |[]=>[]
 |(a,_)::b=>get n P a::yH n P b
def xy:List (Nat×Value)->List Value->cu->cu
 |(P,_)::a,b::c,n=>(P,b)::xy a c n
 |_,_,n=>n
def jh(n:bG)(P:cu):∀a,(yH n P a).length=(ia a).length
 |[]=>rfl
 |(_,_)::b=>by simp[yH,ia,jh n P b]
def Dx(a:bG)(P:Nat->Value)(b:cu):∀(f:List (Nat×Value)) (n:Nat),(∀g,get a b g=P g)->get a (xy f (f.map λc=>P c.1) b) n=P n
 |[],n,d=>d n
 |(h,j)::e,n,d=>by
  show get a ((h,P h)::xy e (e.map λc=>P c.1) b) n=_;rw[dx];split
  ·rename_i i;rw[i]
  ·exact Dx a P b e n d
def yX(n:bG)(P:cu):∀a,yH n P a=a.map λb=>get n P b.1
 |[]=>rfl
 |(_,_)::c=>by simp[yH,yX n P c]
def Bb(n P:List Deferred)(a:Prop):Prop:=match n,P with
 |[],[]=>a
 |n,P=>n=P/\a
def Bb.out{n a:List Deferred}(P:Bb n a L):n=a/\L:=by
 unfold Bb at P;split at P
 ·exact⟨rfl,P⟩
 ·exact P
def Bc(d:bG->cu->List Deferred->World->Prop)(c:gJ):gJ:=λe n P a b=>match e with
 | .normal=>d n P a b
 | .exit id=>c (.exit id) n P a b
 | .goto f=>c (.goto f) n P a b
 | .ret=>c .ret n P a b
 | .panic g=>c (.panic g) n P a b
 | .outgrown=>False
def wL(id:Nat)(n:gJ):gJ:=λe P a b c=>match e with
 | .exit d=>match Nat.beq d id with
  |true=>n .normal P a b c
  |false=>n (.exit d) P a b c
 | .normal=>n .normal P a b c
 | .goto f=>n (.goto f) P a b c
 | .ret=>n .ret P a b c
 | .panic g=>n (.panic g) P a b c
 | .outgrown=>False
def FB(n:gJ):gJ:=λx P a b c=>match x with
 | .goto _=>False
 |x=>n x P a b c
def D(g:Program)(h:jN):Code->gJ->bG->cu->List Deferred->World->Prop
 | .skip,d,b,n,P,a=>d .normal b n P a
 | .label _,d,b,n,P,a=>d .normal b n P a
 | .exit id,d,b,n,P,a=>d (.exit id) b n P a
 | .ret,d,b,n,P,a=>d .ret b n P a
 | .region id c m,d,b,n,P,a=>match m with
  |false=>AV g b c d c.toList (λn P a=>d .normal b n P a) n P a
  |true=>match LF g c.toList with
   |false=>dL (Region.lexB .any c) (si g b c c.toList (λn=>∀e,bF a e->d .normal b n P e) n a)
   |true=>dL (Region.noSelect c) (match SX h.Vb id with
    |none=>match Ba h.keeps id with
     |true=>∀e,bF a e->∃f:Nat->Prop,uR g b c true f (λi P a=>∀b n,d (.panic i) b n P a) (λn P a=>d .normal b n P a) (λ_=>!Ba h.Ly id) c.size (Array.replicate c.size false) n P e
     |false=>∀e,bF a e->uR g b c false (λ_=>False) (λi P a=>∀b n,d (.panic i) b n P a) (λn P a=>d .normal b n P a) (λ_=>true) c.size (Array.replicate c.size false) n P e
    |some r=>dL (r.ok g c) (match Ba h.keeps id with
     |true=>match Ba h.Ly (1000000+id)with
      |true=>∀e,bF a e->∃f:Nat->Prop,oh g b c r c.size (λi P a=>∀b n,d (.panic i) b n P a) (λn P a=>d .normal b n P a) f (λ_=>false) c.size 0 n P e
      |false=>∀e,bF a e->∃f:Nat->Prop,sq g b c r c.size true f (λi P a=>∀b n,d (.panic i) b n P a) (λn P a=>d .normal b n P a) (λ_=>!Ba h.Ly id) c.size 0 n P e
     |false=>∀e,bF a e->sq g b c r c.size false (λ_=>False) (λi P a=>∀b n,d (.panic i) b n P a) (λn P a=>d .normal b n P a) (λ_=>true) c.size 0 n P e))
 | .seq o p,d,b,n,P,a=>match Nl h.Pv (key p)with
  |none=>D g h o (Bc (λb n P a=>D g h p d b n P a) d) b n P a
  |some f=>∃w:Fn (ia f) (World->Prop),D g h o (Bc (λk t l e=>Bb l P (ap (ia f) w (yH k t f) e)) d) b n P a/\
    eA (writes o) n λu=>mh (ia f) λq=>∀(k:bG) (e:World),ap (ia f) w q e->D g h p d k (xy f q u) P e
 | .cond j o p,d,b,n,P,a=>match ev b n j with
  | .bool y=>an y (D g h o d b n P a) (D g h p d b n P a)
  |_=>False
 | .block id j,d,b,n,P,a=>D g h j (wL id d) b n P a
 | .scope j,d,b,n,P,a=>D g h j (FB d) b n P a
 | .loop j,d,b,n,P,a=>match Nl h.loops (key j)with
  |none=>False
  |some f=>∃v:Nat->Fn (ia f) (World->Prop),(∃s,ap (ia f) (v s) (yH b n f) a)/\
    ∀s,eA (writes j) n λu=>mh (ia f) λq=>∀(k:bG) (e:World),ap (ia f) (v s) q e->
     D g h j (Bc (λk t l e=>Bb l P (∃x,x<s/\ap (ia f) (v x) (yH k t f) e)) d) k (xy f q u) P e
 |_,_,_,_,_,_=>False
def cJ.mono{e f:bG}{g h:cu}{i d:List Nat}{j k:gJ}(o:cJ a f h i j e4 H b)(p:∀n,n∈i->n∈d)(q:∀n,n∉d->get f h n=get e g n)(r:∀P c l b,j e4 P c l b->k e4 P c l b):cJ a e g d k e4 H b:=by
 obtain⟨P,c,s,t,u⟩:=o;exact⟨P,c,s,λn m=>(t n (λv=>m (p n v))).trans (q n m),r _ _ _ _ u⟩
def HE{e c:bG}{P:Value}{a:Nat}:∀{d:cu},get e d a=P->c a=P->get c d a=P
 |[],_,n=>n
 |(g,h)::i,n,f=>by
  rw[dx]at n⊢;split
  ·rename_i b;rw[if_pos b]at n;exact n
  ·rename_i b;rw[if_neg b]at n;exact HE n f
def uU{n:Nat}{B0:bG}{f b:cu}(d:List (Nat×Value))(g:H.tmps.size=n)(h:∀a P,P∉b4->get a b P=get a f P)(i:∀a P,P∈b4->get a b P=a P)(j:∀P,P∉b4->H.tmps.getD P undef=get B0 f P):
  Rel n (λP=>H.tmps.getD P undef) (xy d (d.map λk=>H.tmps.getD k.1 undef) b) H:=by
 refine⟨g,λP=>(Dx _ (λP=>H.tmps.getD P undef) b d P λc=>?_).symm⟩
 by_cases e:c∈b4
 ·rw[i _ c e]
 ·rw[h _ c e]
  exact HE (j c e).symm rfl
def nh(b:Rel a V Q H):∀n:List (Nat×Value),yH V Q n=n.map λP=>H.tmps.getD P.1 undef:=λn=>by
 rw[yX];exact List.map_congr_left λP _=>(b.slot P.1).symm
def jP{e:Program}{b:Array Oper}{f:World->Prop}{g h:Act->Prop}(c:∀n,g n->h n):∀(i:List Oper) (n:Act),wpQuiet e b f g i n->wpQuiet e b f h i n
 |[],n,a=>c n a
 |j::P,n,a=>by
  unfold wpQuiet at a⊢;split
  ·rename_i d
   rw[if_pos d]at a;exact Oper.quiet_mono (jP c P) a
  ·rename_i d
   rw[if_neg d]at a;exact jP c P _ a
variable{e1:jN}
def TQ(L:h.follows .mixedOrders=true):∀(x:Code) (m:gJ) (c:bG) (b:cu) (g:Act) (f:World),
  (∀P,P∈writes x->P<a)->(∀I c b z f,m I c b z f->I≠.outgrown)->Rel a c b g->D h e1 x m c b g.defers f->x.wp h (cJ a c b (writes x) m) g f:=by
 intro x
 induction x with
 |skip=>intro m c b g f _ _ j n;exact wp_skip ⟨c,b,j,λ_ _=>rfl,n⟩
 |label Q=>intro m c b g f _ _ j n;exact wp_label ⟨c,b,j,λ_ _=>rfl,n⟩
 |exit id=>intro m c b g f _ _ j n;exact wp_exit ⟨c,b,j,λ_ _=>rfl,n⟩
 |ret=>intro m c b g f _ _ j n;exact wp_ret ⟨c,b,j,λ_ _=>rfl,n⟩
 |goto Q=>intro m c b g f _ _ j n;exact n.elim
 |refuse uV=>intro m c b g f _ _ j n;exact n.elim
 |scope x S=>
  intro m c b g f w B j n;refine wp_scope_straight (Code.wp_mono ?_ (S (FB m) c b g f w (by intro o c b z f d M;subst M;exact B _ _ _ _ _ d rfl) j n));intro o p r l;obtain⟨t,s,u,v,d⟩:=l
  cases o with
  |goto Q=>exact d.elim
  |normal=>exact⟨t,s,u,v,d⟩
  |exit id=>exact⟨t,s,u,v,d⟩
  |ret=>exact⟨t,s,u,v,d⟩
  |panic A=>exact⟨t,s,u,v,d⟩
  |outgrown=>exact⟨t,s,u,v,d⟩
 |rangeFunc d5 ps I a0 d6 d7=>intro m c b g f _ _ j n;exact n.elim
 |region id i J=>
  intro m c b g f w _ j n;have T:∀U∈i.toList,∀V,U.dst=some V->V<a/\V∈writes (.region id i J):=λU R V hd=>⟨w V (jW R hd),jW R hd⟩
  have a1:∀a4 P,iC i a4=some P->P<a:=by
   intro a4 P W;unfold iC at W
   cases R:i[a4]? with
   |none=>rw[R]at W;simp at W
   |some U=>
    rw[R]at W;have c4:U∈i.toList:=by
     have:=Array.getElem?_eq_some_iff.1 R;obtain⟨b3,rfl⟩:=this;simp
    exact(T U c4 P W).1
  cases J with
  |false=>exact wp_region_list (yW a1 i.toList b g f T j (λ_ _=>rfl) n)
  |true=>
   unfold D at n;simp only at n;split at n
   ·obtain⟨hB,n⟩:=dL.out n
    refine wp_region_quiet (C:=bF f) L hB ⟨1,rfl⟩ ?_;have:=qu (B0:=c) (e0:=b) (W:=writes (.region id i true)) a1 i.toList b g T j (λ_ _=>rfl) n;refine jP ?_ _ _ this;rintro p ⟨e',a5,a6,c5,d⟩ r a7;exact⟨c,e',a5,c5,by rw[a6];exact d r a7⟩
   ·obtain⟨b4,n⟩:=dL.out n
    have C:∀(K:Bool) (q:Nat->Prop) (a8:Nat->Bool),uR h c i K q (λA z f=>∀c b,m (.panic A) c b z f) (λb z f=>m .normal c b z f) a8 i.size (Array.replicate i.size false) b g.defers (f.drewN 1)->(Code.region id i true).wp h (cJ a c b (writes (.region id i true)) m) g f:=λK q a8 n=>
     wp_region_any L (iR (λA g f n=>qx.post A g f n) (λ_ _ n=>n) _ _ _ _ _ (lE (B0:=c) (e0:=b) (W:=writes (.region id i true)) a1 b4 T a8 _ _ b g _ j (λ_ _=>rfl) n))
    split at n
    ·split at n
     ·obtain⟨q,n⟩:=n _ ⟨1,rfl⟩
      exact C _ q _ n
     ·exact C _ _ _ (n _ ⟨1,rfl⟩)
    ·obtain⟨hM,n⟩:=dL.out n
     split at n
     ·split at n
      ·obtain⟨q,n⟩:=n _ ⟨1,rfl⟩
       rw[wK hM _ _ _ (BL.init _)]at n;exact wp_region_any L (iR (λA g f n=>qx.post A g f n) (λ_ _ n=>n) _ _ _ _ _ (ky (B0:=c) (e0:=b) (W:=writes (.region id i true)) a1 b4 T q _ _ _ b g _ j (λ_ _=>rfl) n))
      ·obtain⟨q,n⟩:=n _ ⟨1,rfl⟩
       rw[qz hM _ _ (BL.init _)]at n;exact C _ q _ n
     ·have n:=n _ ⟨1,rfl⟩
      rw[qz hM _ _ (BL.init _)]at n;exact C _ _ _ n
 |seq I a0 E F=>
  intro m c b g f w B j n;have b5:∀P,P∈writes I->P<a:=λP k=>w P (List.mem_append.2 (.inl k));have b6:∀P,P∈writes a0->P<a:=λP k=>w P (List.mem_append.2 (.inr k));have e:∀(X:bG->cu->List Deferred->World->Prop) (o:Exit) (p:Act) (r:World),o≠.normal->cJ a c b (writes I) (Bc X m) o p r->cJ a c b (writes (I.seq a0)) m o p r:=by
   intro X o p r c6 l;refine l.mono (λP k=>List.mem_append.2 (.inl k)) (λ_ _=>rfl) λt s d8 w1 d=>?_
   cases o with
   |normal=>exact absurd rfl c6
   |outgrown=>exact d.elim
   |_=>exact d
  have b7:∀(X:bG->cu->List Deferred->World->Prop) o c b z f,Bc X m o c b z f->o≠.outgrown:=by
   intro X o c b z f d M;subst M;exact d.elim
  unfold D at n;split at n
  ·have hx:=E _ c b g f b5 (b7 _) j n
   refine wp_seq (Code.wp_mono ?_ hx);intro o p r l
   cases o with
   |normal=>
    obtain⟨t,s,u,v,d⟩:=l;have hy:=F m t s p r b6 B u d;refine Code.wp_mono (λo b8 b9 l=>?_) hy;refine l.mono (λP k=>List.mem_append.2 (.inr k)) (λP k=>v P λL=>k (List.mem_append.2 (.inl L))) λ_ _ _ _ d=>d
   |exit id=>exact e _ _ _ _ (by simp) l
   |goto Q=>exact e _ _ _ _ (by simp) l
   |ret=>exact e _ _ _ _ (by simp) l
   |panic A=>exact e _ _ _ _ (by simp) l
   |outgrown=>exact e _ _ _ _ (by simp) l
  ·rename_i q hS
   obtain⟨d9,n,a9⟩:=n;obtain⟨s,h1,h2,a9⟩:=eA.out a9;have hx:=E _ c b g f b5 (b7 _) j n;refine wp_seq (Code.wp_mono ?_ hx);intro o p r l
   cases o with
   |normal=>
    obtain⟨N,O,y,a2,d⟩:=l;obtain⟨a3,hJ⟩:=Bb.out d;have hv:=nh y q;have b0:=jh N O q;have c0:=ap.all b0 hJ a9 (λP=>p.tmps.getD P undef) r hJ;rw[hv,<-a3]at c0;have c1:=uU (n:=a) q y.size h1 h2 (B0:=c) (λP k=>(y.slot P).trans (a2 P k));have hy:=F m _ _ p r b6 B c1 c0;refine Code.wp_mono (λo b8 b9 l=>?_) hy;refine l.mono (λP k=>List.mem_append.2 (.inr k)) (λP k=>?_) λ_ _ _ _ d=>d;rw[<-c1.slot];exact(y.slot P).trans (a2 P λL=>k (List.mem_append.2 (.inl L)))
   |exit id=>exact e _ _ _ _ (by simp) l
   |goto Q=>exact e _ _ _ _ (by simp) l
   |ret=>exact e _ _ _ _ (by simp) l
   |panic A=>exact e _ _ _ _ (by simp) l
   |outgrown=>exact e _ _ _ _ (by simp) l
 |cond x I a0 E F=>
  intro m c b g f w B j n;unfold D at n;split at n
  ·rename_i c7 H
   refine wp_cond_split (t:=c7) (by rw[j.eval];exact H) (λk=>?_) (λhf=>?_)
   ·subst k
    refine Code.wp_mono (λo p r l=>?_) (E m c b g f (λP k=>w P (List.mem_append.2 (.inl k))) B j n);exact l.mono (λP k=>List.mem_append.2 (.inl k)) (λ_ _=>rfl) λ_ _ _ _ d=>d
   ·subst hf
    refine Code.wp_mono (λo p r l=>?_) (F m c b g f (λP k=>w P (List.mem_append.2 (.inr k))) B j n);exact l.mono (λP k=>List.mem_append.2 (.inr k)) (λ_ _=>rfl) λ_ _ _ _ d=>d
  ·exact n.elim
 |block id x S=>
  intro m c b g f w B j n;refine wp_block (Code.wp_mono ?_ (S (wL id m) c b g f w (by intro o c b z f d M;subst M;exact d.elim) j n));intro o p r l;obtain⟨t,s,u,v,d⟩:=l
  cases o with
  |exit Y=>
   show(if Y=id then _ else _);simp only[wL]at d
   cases H:Nat.beq Y id with
   |true=>
    rw[H]at d;rw[if_pos (Nat.eq_of_beq_eq_true H)];exact⟨t,s,u,v,d⟩
   |false=>
    rw[H]at d;rw[if_neg (by rintro rfl;simp at H)];exact⟨t,s,u,v,d⟩
  |normal=>exact⟨t,s,u,v,d⟩
  |goto Q=>exact⟨t,s,u,v,d⟩
  |ret=>exact⟨t,s,u,v,d⟩
  |panic A=>exact⟨t,s,u,v,d⟩
  |outgrown=>exact d.elim
 |loop x S=>
  intro m c b g f w B j n;unfold D at n;split at n
  ·exact n.elim
  ·rename_i q hS
   obtain⟨c8,⟨m0,h0⟩,c9⟩:=n;refine wp_loop_ghost (λb1 p r=>p.tmps.size=a/\(∀P,P∉writes x->p.tmps.getD P undef=get c b P)/\p.defers=g.defers/\
    ap (ia q) (c8 b1) (q.map λb2=>p.tmps.getD b2.1 undef) r) m0 ⟨j.size,λP _=>j.slot P,rfl,by rw[<-nh j q];exact h0⟩ ?_
   rintro b1 p r ⟨d0,c2,a3,hI⟩;obtain⟨s,h1,h2,d1⟩:=eA.out (c9 b1);have b0:(q.map λb2=>p.tmps.getD b2.1 undef).length=(ia q).length:=by rw[<-jh c b q,yX];simp
   have H:=ap.all b0 hI d1 (λP=>p.tmps.getD P undef) r hI;have c3:=uU (n:=a) q d0 h1 h2 c2;rw[<-a3]at H;have d2:=S _ _ _ p r w (by intro o c b z f d M;subst M;exact d.elim) c3 H;refine Code.wp_mono ?_ d2;intro o b8 b9 l;obtain⟨N,O,y,a2,d⟩:=l;have Z:∀P,P∉writes x->get N O P=get c b P:=λP k=>(a2 P k).trans ((c3.slot P).symm.trans (c2 P k))
   cases o with
   |normal=>
    obtain⟨d3,m',b3,d4⟩:=Bb.out d;refine⟨m',b3,y.size,λP k=>(y.slot P).trans (Z P k),d3.trans a3,?_⟩;rw[<-nh y q];exact d4
   |outgrown=>exact d.elim
   |exit id=>exact⟨N,O,y,Z,d⟩
   |goto Q=>exact⟨N,O,y,Z,d⟩
   |ret=>exact⟨N,O,y,Z,d⟩
   |panic A=>exact⟨N,O,y,Z,d⟩
def HF(n:Program):List ResultVar->bG->cu->World->(List Value->Prop)->Prop
 |[],_,_,_,P=>P []
 |g::f,a,b,d,P=>match g with
  | .tmp c=>HF n f a b d λe=>P (get a b c::e)
  | .cell h c=>dL (known n c) (iK n c (get a b h) d λi=>HF n f a b d λe=>P (i::e))
def oneOf(n:List Value):Value:=match n with
 |[P]=>P
 |n=>.tuple n.toArray
def Lv(c:Program)(n:World->Prop)(e:List PanicEntry->World->Prop):List Deferred->FrameMode->World->Prop
 |[],.returning,a=>n a
 |[],.panicking P,a=>e P a
 |[],.run,_=>False
 |d::g,h,a=>h≠.run/\∃f b,d.target= .fn (.func f) b/\enters c f=true/\
   CallsD c f (d.args++b) h a λk i j=>PI k (λ_=>Lv c n e g (settle i) j) (λl=>Lv c n e g (raised i l) j)
def fS(P:Program)(b:Func)(c:bG)(d:cu)(a:Ending->World->Prop)(e:List Deferred)(f:FrameMode)(n:World):Prop:=
 Lv P (λn=>HF P b.results.toList c d n λg=>a (.returned (oneOf g)) n) (λh n=>a (.panicked h) n) e f n
def Rw(n:Program)(P:Func)(a:Ending->World->Prop):gJ:=λf b c d e=>match f with
 | .normal=>fS n P b c a d .returning e
 | .ret=>fS n P b c a d .returning e
 | .panic g=>fS n P b c a d (.panicking g) e
 |_=>False
def Bd(n:Array Value):ResultVar->Sem Value
 | .tmp P=>pure (n.getD P undef)
 | .cell a P=>do loadVar P (<-asAddr (n.getD a undef))
def qA{c:Program}{k:bG}{l:cu}{p:Nat}{b:Act}(d:Rel p k l b){a:World}:∀{g:List ResultVar} {e:List Value->Prop},HF c g k l a e->
  ∃f,(g.mapM (Bd b.tmps)).run c a=Result.ok f a/\e f
 |[],e,n=>⟨[],by rw[List.mapM_nil];rfl,n⟩
 |q::g,e,n=>by
  unfold HF at n
  cases q with
  |tmp h=>
   obtain⟨f,i,n⟩:=qA d n;refine⟨_,?_,n⟩;rw[List.mapM_cons];simp only[Bd,Sem.run_bind,Sem.run_pure,Result.andThen_ok,i,d.slot]
  |cell j h=>
   obtain⟨r,n⟩:=dL.out n;obtain⟨s,t,n⟩:=iK.out (known.out r).1 n;obtain⟨f,i,n⟩:=qA d n;refine⟨_,?_,n⟩;rw[List.mapM_cons];have P:=t a rfl;rw[<-d.slot]at P;have:(Bd b.tmps (.cell j h)).run c a= .ok s a:=by
    unfold Bd
    cases m:b.tmps.getD j undef<;>rw[m]at P<;>simp only[Instr.loadAt,Instr.sureAddr,stuck,Sem.run_bind,Sem.run_halt,Result.andThen,reduceCtorEq]at P
    rename_i o
    cases o with
    |none=>simp at P
    |some o=>
          show(do loadVar h (<-asAddr (b.tmps.getD j undef)):Sem Value).run c a=_;rw[m];simpa[asAddr]using P
   simp only[Sem.run_bind,this,Sem.run_pure,Result.andThen_ok,i]
def qB(P:(a6.results.toList.mapM (Bd H.tmps)).run h b=Result.ok a3 b):(results a6 H.tmps).run h b= .ok (oneOf a3) b:=by
 have a:(a6.results.mapM (Bd H.tmps)).run h b=Result.ok a3.toArray b:=by
  rw[Array.mapM_eq_mapM_toList,Sem.run_map,P]
  rfl
 have c:(results a6 H.tmps)=(a6.results.mapM (Bd H.tmps)>>=λn=>pure (if P:n.size=1 then n[0]else Value.tuple n)):=by
   unfold results
   congr 2
 rw[c];simp only[Sem.run_bind,a,Result.andThen_ok,Sem.run_pure]
 congr 1
 match a3 with
 |[]=>rfl
 |[v]=>rfl
 |v::d::e=>
  rw[dif_neg (by simp)]
  rfl
def ni{h:Program}{i:Func}{j:bG}{k:cu}{r:Nat}{l:Act}(e:Rel r j k l){m:Ending->World->Prop}:∀(a:List Deferred) (f:FrameMode) (P:World),
  fS h i j k m a f P->Leaves h i l.tmps m a f P
 |[],.returning,P,n=>by
  obtain⟨C,s,n⟩:=qA e n;exact⟨_,qB s,n⟩
 |[],.panicking t,P,n=>n
 |[],.run,P,n=>n.elim
 |d::a,f,P,n=>by
  obtain⟨u,o,b,p,v,w⟩:=n;refine⟨u,.func o,b,o,d.args++b,p,?_,?_⟩
  ·rw[p];simp only[invoke];exact h_ v _ _
  ·intro x cs y
   obtain⟨q,z,A,B,g,c⟩:=w x cs y;refine⟨q,z,A,B,?_,c⟩
   cases q with
   |returned E=>exact ni e a _ _ g
   |panicked t=>exact ni e a _ _ g
   |outgrown=>exact g.elim
def eJ:Nat->List Value->cu
 |_,[]=>[]
 |n,P::a=>(n,P)::eJ (n+1) a
def om:∀(a:List Value) (n P:Nat),get (λ_=>undef) (eJ n a) P=if n<=P then a.getD (P-n) undef else undef
 |[],n,P=>by simp[eJ,get]
 |v::d,n,P=>by
  rw[eJ,dx,om d (n+1) P]
  by_cases b:n=P
  ·subst b;simp
  ·rw[if_neg b]
   by_cases c:n+1<=P
   ·rw[if_pos c,if_pos (by omega),show P-n=(P-(n+1))+1 from by omega];rfl
   ·rw[if_neg c,if_neg (by omega)]
def tV(n:Nat):List Nat->Bool
 |[]=>true
 |d::P=>match Nat.blt d n with
  |true=>tV n P
  |false=>false
def kH{b:Nat}:∀{c:List Nat},tV b c=true->∀n,n∈c->n<b
 |[],_,n,P=>by cases P
 |d::f,a,n,P=>by
  unfold tV at a;split at a
  ·rename_i e
   cases P with
   |head=>
        have:d+1<=b:=by simpa[Nat.blt]using e
        omega
   |tail _ P=>exact kH a n P
  ·cases a
def qT(e:jN)(f:h.follows .mixedOrders=true)(g:h.funcs[z]? =some a6)(i:a6.body=some a1)(r:l.size<=a6.ntmps)(j:tV a6.ntmps (writes a1)=true)(k:D h e a1 (Rw h a6 A) (λ_=>undef) (eJ 0 l.toList) [] b):Calls h z l b A:=by
 refine calls_of_wp_defers g i ?_;have m:Rel a6.ntmps (λ_=>undef) (eJ 0 l.toList) {tmps:=l++Array.replicate (a6.ntmps-l.size) undef,defers:=[]}:=by
  refine⟨by simp;omega,λa=>?_⟩;rw[om,if_pos (Nat.zero_le _),Nat.sub_zero];simp only[Array.getD_eq_getD_getElem?,List.getD_eq_getElem?_getD,Array.getElem?_append,Array.getElem?_toList]
  by_cases c:a<l.size
  ·simp[c]
  ·rw[if_neg c]
   simp only[Array.getElem?_replicate];have:l[a]? =none:=by simp;omega
   rw[this];split<;>rfl
 refine Code.wp_mono ?_ (TQ f a1 (Rw h a6 A) _ _ _ b (kH j) (by intro d o p s b n q;subst q;exact n.elim) m k);rintro d t u ⟨o,p,P,_,n⟩
 cases d with
 |normal=>exact ni P _ _ _ n
 |ret=>exact ni P _ _ _ n
 |panic v=>exact ni P _ _ _ n
 |exit id=>exact n.elim
 |goto w=>exact n.elim
 |outgrown=>exact n.elim
def Dy(b:Program)(c:Func)(n:Ending->World->Prop):gJ:=λf d e P a=>match f with
 | .normal=>(match P with
  |[]=>fS b c d e n [] .returning a
  |_=>False)
 | .ret=>(match P with
  |[]=>fS b c d e n [] .returning a
  |_=>False)
 | .panic g=>(match P with
  |[]=>n (.panicked g) a
  |_=>False)
 |_=>False
def Dy.out{P:Program}(j:Rel a V Q H)(n:Dy P a6 A e4 V Q H.defers b):
  H.defers=[]/\((e4= .normal\/e4= .ret)/\(∃c,(results a6 H.tmps).run P b= .ok c b/\A (.returned c) b)\/∃h,e4= .panic h/\A (.panicked h) b):=by
 have d:∀e,H.defers=e->(match e with
  |[]=>fS P a6 V Q A [] .returning b
  |_=>False)->e=[]/\∃c,(results a6 H.tmps).run P b= .ok c b/\A (.returned c) b:=by
  intro e i n;split at n
  ·obtain⟨l,k,n⟩:=qA j n
   exact⟨rfl,_,qB k,n⟩
  ·exact n.elim
 unfold Dy at n;split at n
 ·obtain⟨f,g⟩:=d _ rfl n
  exact⟨f,.inl ⟨.inl rfl,g⟩⟩
 ·obtain⟨f,g⟩:=d _ rfl n
  exact⟨f,.inl ⟨.inr rfl,g⟩⟩
 ·split at n
  ·rename_i i
   exact⟨i,.inr ⟨_,rfl,n⟩⟩
  ·exact n.elim
 ·exact n.elim
def wM(c:l.size<=a)(b:List Deferred):Rel a (λ_=>undef) (eJ 0 l.toList) {tmps:=l++Array.replicate (a-l.size) undef,defers:=b}:=by
 refine⟨by simp;omega,λn=>?_⟩;rw[om,if_pos (Nat.zero_le _),Nat.sub_zero];simp only[Array.getD_eq_getD_getElem?,List.getD_eq_getElem?_getD,Array.getElem?_append,Array.getElem?_toList]
 by_cases P:n<l.size
 ·simp[P]
 ·rw[if_neg P]
  simp only[Array.getElem?_replicate];have:l[n]? =none:=by simp;omega
  rw[this];split<;>rfl
def Ab(e:jN)(f:h.follows .mixedOrders=true)(g:h.funcs[z]? =some a6)(i:a6.body=some a1)(j:l.size<=a6.ntmps)(k:tV a6.ntmps (writes a1)=true)(n:D h e a1 (Dy h a6 A) (λ_=>undef) (eJ 0 l.toList) [] b):CallsD h z l a9 b λP m d=>m=a9/\A P d:=by
 refine callsD_of_wp g i (Code.wp_mono ?_ (TQ f a1 (Dy h a6 A) _ _ _ b (kH k) (by intro o p P s b a q;subst q;exact a.elim) (wM j []) n));rintro o t d ⟨p,P,r,_,a⟩;obtain⟨c,(⟨rfl|rfl,n⟩|⟨u,rfl,n⟩)⟩:=a.out r
 ·exact⟨c,n⟩
 ·exact⟨c,n⟩
 ·exact⟨c,n⟩
def sW:FrameMode->Value
 | .panicking ({v,recovered:=false,goexit:=false}::_)=>v
 |_=>.nilIface
def gU:FrameMode->FrameMode
 | .panicking ({v,recovered:=false,goexit:=false}::older)=>.panicking ({v,recovered:=true}::older)
 |u=>u
def Kq{P:Frame}{cs:List Frame}(d:P.mode=a9):recoverD (P::cs)=some (sW a9,{P with mode:=gU a9}::cs)\/(recoverD (P::cs)=none/\sW a9= .nilIface/\gU a9=a9):=by
 subst d;unfold recoverD;simp only;split
 ·rename_i a
  left;rw[a]
  rfl
 ·rename_i c
  right;refine⟨rfl,?_,?_⟩
  ·unfold sW
   split
   ·rename_i b n a;exact absurd a (c b n)
   ·rfl
  ·unfold gU
   split
   ·rename_i b n a;exact absurd a (c b n)
   ·rfl
def OY(t:jN){id:Nat}{d:Tmp}{e:Array TypeId}(u:h.follows .mixedOrders=true)(v:h.funcs[z]? =some a6)(w:a6.body=some (.seq (.region id #[S] false) a1))(x:S.op= .call {callee:=.builtin .recover,args:= #[],argTypes:=e})(a:S.dst=some d)(y:S.guard=none)(A:Nat.blt d a6.ntmps=true)(B:l.size<=a6.ntmps)(C:tV a6.ntmps (writes a1)=true)(c:D h t a1 (Dy h a6 λf k=>h8 f (gU a9) k) (λ_=>undef) ((d,sW a9)::eJ 0 l.toList) [] b):CallsD h z l a9 b h8:=by
 refine callsD_of_wpS v w λn cs m=>wpS_seq (wpS_region ?_);have E:∀o:Act,(execOp o.eval S).run h b= .ok .recover b:=λo=>by simp[execOp,x,resolve,invoke,builtin]
 have F:∀p,Region.wanted S p=true:=λp=>by simp[Region.wanted,y]
 have H:d+1<=a6.ntmps:=by simpa[Nat.blt]using A
 have q:∀(g:Value) (P:List Frame),g=sW a9->P={n with mode:=gU a9}::cs->
   a1.wpS h (bodyPostS h a6 n cs h8) (({tmps:=l++Array.replicate (a6.ntmps-l.size) undef,defers:=[]}:Act).put S.dst g) P b:=by
  rintro g P rfl rfl;refine wpS_of_wp ?_;have r:=(wM B []).put S.dst (λO s=>by rw[a]at s;exact(Option.some.inj s)▸H) (sW a9);rw[a]at r⊢;refine Code.wp_mono ?_ (TQ u a1 _ _ _ _ b (kH C) (by intro I J f Q b i K;subst K;exact i.elim) r c);rintro I R k ⟨J,f,L,_,i⟩;obtain⟨a,(⟨rfl|rfl,c⟩|⟨T,rfl,c⟩)⟩:=i.out L
  ·exact⟨a,_,rfl,c⟩
  ·exact⟨a,_,rfl,c⟩
  ·exact⟨a,_,rfl,c⟩
 simp only[show(List.range (#[S]:Array Oper).size)=[0]from rfl,wpOpsS,List.getElem?_toArray,List.getElem?_cons_zero,F,if_true,E];rcases Kq (cs:=cs) m with j|⟨j,M,N⟩
 ·rw[j]
  exact q _ _ rfl rfl
 ·rw[j]
  exact q _ _ M.symm (by rw[N,<-m])
def EC(n:IntKind)(P a:Int):Int:=n.wrap (BitVec.ofInt n.bits P&&&BitVec.ofInt n.bits a).toNat
def OZ(n:IntKind)(P a:Int):Int:=n.wrap (BitVec.ofInt n.bits P|||BitVec.ofInt n.bits a).toNat
def pO(n:IntKind)(P a:Int):Int:=n.wrap (BitVec.ofInt n.bits P ^^^ BitVec.ofInt n.bits a).toNat
def uG(n:IntKind)(P a:Int):Int:=n.wrap (BitVec.ofInt n.bits P&&& ~~~BitVec.ofInt n.bits a).toNat
def Ke(n:IntKind)(P a:Int):Int:=n.wrap (P*2 ^(min a.toNat n.bits))
def js(n:IntKind)(P a:Int):Int:=P.fdiv (2 ^(min a.toNat n.bits))
def oM(n:L:=by omega):L:=n
theorem bn{p:Prop}(h:p:=by dsimp only;omega):p:=h
theorem be{p:Prop}(h:p:=by simp;omega):p:=h
def sM(n:L:=by simp):L:=n
def dC(n:L:=by decide):L:=n
def kR(n:L:=by kernel_rfl):L:=n
abbrev Qq:= @List.getElem?_eq_getElem
abbrev Qx:= @Int.toNat_natCast
abbrev Qz:= @List.take_of_length_le
abbrev Qj:= @Nat.zero_le
abbrev Qv:= @List.getElem?_eq_some_iff
abbrev Qw:= @List.take_add_one
abbrev Qk:= @Nat.lt_of_lt_of_le
abbrev Qy:= @List.length_take
abbrev QQ:= @List.getD_eq_getElem?_getD
abbrev QX:= @List.length_append
abbrev QZ:= @List.mem_of_getElem?
abbrev QJ:= @List.mem_cons_of_mem
abbrev QV:= @List.mem_cons_self
abbrev QW:= @List.eq_nil_of_length_eq_zero
abbrev QK:= @Bool.and_eq_true
abbrev QY:= @List.map_cons
abbrev Q0:= @Nat.mul_le_mul_right
abbrev Q1:= @Option.some.injEq
abbrev Q2:= @List.mem_cons
abbrev Q3:= @List.map_append
abbrev Q4:= @Nat.le_refl
abbrev Q5:= @Array.getElem?_eq_some_iff
abbrev Q6:= @List.mem_append
abbrev Q7:= @List.getElem?_eq_none
abbrev Q8:= @List.length_map
abbrev Q9:= @List.getElem?_map
abbrev Xq:= @List.length_cons
abbrev Xx:= @Nat.le_trans
abbrev Xz:= @Nat.zero_add
abbrev Xj:= @List.getElem?_set
abbrev Xv:= @decide_eq_false
abbrev Xw:= @List.getElem?_take
abbrev Xk:= @List.mem_map
abbrev Xy:= @of_decide_eq_false
abbrev XQ:= @List.append_assoc
abbrev XX:= @Value.slice.injEq
abbrev XZ:= @List.length_drop
abbrev XJ:= @Option.some.inj
abbrev XV:= @of_decide_eq_true
abbrev XW:= @List.getElem?_append_left
abbrev XK:= @Array.length_toList
abbrev XY:= @List.getElem_mem
abbrev X2:= @Nat.min_eq_left
abbrev X3:= @List.ext_getElem?
abbrev X4:= @List.drop_eq_getElem_cons
abbrev X6:= @Array.getElem?_eq_getElem
abbrev X7:= @Nat.add_mul
abbrev X8:= @List.getElem?_append_right
abbrev X9:= @Nat.eq_of_beq_eq_true
abbrev Zq:= @if_neg
abbrev Zx:= @if_pos
abbrev Zz:= @absurd
abbrev Zj:= @congrArg
abbrev Zv:= @Nat.le_of_ble_eq_true
abbrev Zw:= @List.take_succ_cons
abbrev Zk:= @decide_eq_true_eq
abbrev Zy:= @decide_eq_true
abbrev ZQ:= @List.length_nil
abbrev ZX:= @List.take_append_drop
abbrev ZZ:= @List.getElem?_cons_succ
abbrev ZJ:= @List.getElem?_cons_zero
abbrev ZV:= @List.mem_append_left
abbrev ZW:= @List.mem_append_right
abbrev ZK:= @UInt8.toNat_ofNat'
abbrev ZY:= @List.all_eq_true
abbrev XH:=Value.int .i64
abbrev XL (b:Nat):Value:=.pointer (some ⟨b,0,none⟩)
abbrev XM (b:Nat):Option Addr:=some ⟨b,0,none⟩
abbrev XN:=Nat->Prop
abbrev XR:=Value->World->Prop
abbrev XT:=Ending->World->Prop
abbrev XU:=World->Prop
abbrev ZH:=Option Addr

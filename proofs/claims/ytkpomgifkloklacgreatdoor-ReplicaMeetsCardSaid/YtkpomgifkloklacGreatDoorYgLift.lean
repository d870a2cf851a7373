import Derived.Tactics
import Derived.Defers
import Derived.Recover
import Derived.Deep.Quiet
import Derived.Deep.LoopGhost
import Derived.Laws.Entries
import Derived.Laws.Tables
import Derived.Laws.Cells
import Derived.Scope
set_option linter.all false
namespace Go.aw
open Go
structure ak (S:Nat->Prop) (w w':World):Prop where
 os:w'.os=w.os
 tape:w'.tape=w.tape
 output:w'.output=w.output
 size:w.heap.size<=w'.heap.size
 block:∀k,k<w.heap.size->¬S k->w'.heap[k]? =w.heap[k]?
def get(a:Nat->Value):List (Nat×Value)->Nat->Value
 |[],P=>a P
 |(b,c)::d,P=>match Nat.beq b P with
  |true=>c
  |false=>get a d P
abbrev cQ:=List (Nat×Value)
def ev(P:Nat->Value)(a:cQ):Operand->Value
 | .tmp b=>get P a b
 | .const c=>c
 | .global d=>.pointer (some ⟨d,0,none⟩)
 | .func e=>.func (.func e) #[] #[]
def bX(a:cQ)(P:Option Tmp)(b:Value):cQ:=match P with
 |some P=>(P,b)::a
 |none=>a
structure Rel (n:Nat) (B:Nat->Value) (e:cQ) (a:Act):Prop where
 size:a.tmps.size=n
 slot:∀t,a.tmps.getD t undef=aw.get B e t
def dR(b:Nat->Value)(c:cQ)(a P:Nat)(d:Value):get b ((a,d)::c) P=if a=P then d else get b c P:=by
 show(match Nat.beq a P with|true=>d|false=>get b c P)=_
 by_cases e:a=P
 ·subst e;simp
 ·have:Nat.beq a P=false:=by
   cases f:Nat.beq a P
   ·rfl
   ·exact absurd (Nat.eq_of_beq_eq_true f) e
  rw[this,if_neg e]
def Rel.eval{c:Nat}{P:Nat->Value}{a:cQ}{b:Act}(d:Rel c P a b):b.eval=ev P a:=by
 funext e
 cases e with
 |tmp f=>exact d.slot f
 |const g=>rfl
 |global h=>rfl
 |func i=>rfl
def Rel.put{c:Nat}{g:Nat->Value}{h:cQ}{d:Act}(b:Rel c g h d)(P:Option Tmp)(i:∀a,P=some a->a<c)(e:Value):Rel c g (bX h P e) (d.put P e):=by
 cases P with
 |none=>exact b
 |some P=>
  have j:=i P rfl;refine⟨by simp[Act.put,b.size],λa=>?_⟩;show(d.tmps.setIfInBounds P e).getD a undef=_;rw[bX,dR,<-b.slot];have k:=b.size
  by_cases f:P=a
  ·subst f
   simp[k,j]
  ·rw[if_neg f]
   simp only[Array.getD_eq_getD_getElem?];rw[Array.getElem?_setIfInBounds_ne f]
variable{F:Act}{f3:Act->World->Prop}{c7:Addr}{X:Array Bool}{S:Array Oper}{n:Array Value}{L:Bool}{a0:Code}{h9:Ending->FrameMode->World->Prop}{z:Ending->World->Prop}{e3:Exit}{d2:Exit->Act->World->Prop}{a9:FrameMode}{a7:Func}{y:FuncId}{b2:List Nat}{f2:List PanicEntry->Act->World->Prop}{a2:List PanicEntry->World->Prop}{a1:List Value}{a c i:Nat}{f4:Nat->Bool}{a6 f:Nat->Prop}{O:Oper}{e1:Operand->Value}{h:Program}{J a4:Prop}{g8:Sem Unit}{d8:Sem Value}{g:TypeId}{f0:TypeInfo}{b7 t:Value}{V:Value->Prop}{h7 m s:Value->World->Prop}{a8 b k:World}{x:World->Prop}{N:cQ}{h8:cQ->List Deferred->World->Prop}{f1:cQ->Prop}
def Rel.defers{P:Nat->Value}(b:Rel a P N F)(c:List Deferred):Rel a P N {F with defers:=c}:=⟨b.size,b.slot⟩
def put_defers(P:Act)(a:Option Tmp)(b:Value):(P.put a b).defers=P.defers:=by cases a<;>rfl
def an(P:Bool)(a b:Prop):Prop:=match P with
 |true=>a
 |false=>b
def an.mk(P:L=true->J)(a:L=false->a4):an L J a4:=by
 cases L
 ·exact a rfl
 ·exact P rfl
def an.tt(P:L=true)(a:J):an L J a4:=by subst P;exact a
def an.ff(P:L=false)(a:a4):an L J a4:=by subst P;exact a
def Mb(b:Value)(P:Value->Prop):Prop:=match b with
 | .int c _=>∃a,P (.int c a)
 | .bool _=>∃d,P (.bool d)
 | .string _=>∃e,P (.string e)
 | .slice _ _ _=>∃f a g,P (.slice f a g)
 | .pointer _=>∃h,P (.pointer h)
 | .map _=>∃i,P (.map i)
 |_=>∃j,P j
def Mb.out{z:Value}{φ:Value->Prop}(P:Mb z φ):∃a,φ a:=by
 unfold Mb at P;split at P
 ·exact⟨_,P.choose_spec⟩
 ·exact⟨_,P.choose_spec⟩
 ·exact⟨_,P.choose_spec⟩
 ·obtain⟨b,c,d,P⟩:=P;exact⟨_,P⟩
 ·exact⟨_,P.choose_spec⟩
 ·exact⟨_,P.choose_spec⟩
 ·exact P
def Nl:List Value->(List Value->Prop)->Prop
 |[],P=>P []
 |z::a,P=>Mb z λb=>Nl a λc=>P (b::c)
def Nl.out:∀{a:List Value} {φ:List Value->Prop},Nl a φ->∃l,l.length=a.length/\φ l
 |[],_,P=>⟨[],rfl,P⟩
 |z::a,φ,P=>by
  obtain⟨b,P⟩:=Mb.out P;obtain⟨l,c,P⟩:=Nl.out P;exact⟨b::l,by simp[c],P⟩
def AB(z:Value)(P:Value->Prop):Prop:=match z with
 | .agg a=>Nl a.toList λb=>P (.agg b.toArray)
 |z=>Mb z P
def AB.out{z:Value}{φ:Value->Prop}(P:AB z φ):∃a,φ a:=by
 unfold AB at P;split at P
 ·obtain⟨l,_,P⟩:=Nl.out P;exact⟨_,P⟩
 ·exact Mb.out P
def RV:List Value->(List Value->Prop)->Prop
 |[],P=>P []
 |z::a,P=>AB z λb=>RV a λc=>P (b::c)
def RV.out:∀{a:List Value} {φ:List Value->Prop},RV a φ->∃l,φ l
 |[],_,P=>⟨[],P⟩
 |z::a,φ,P=>by
  obtain⟨b,P⟩:=AB.out P;obtain⟨l,P⟩:=RV.out P;exact⟨b::l,P⟩
def fz(P:Program)(a:TypeId):Value:=match P.info? a with
 |some b=>match b.zero with
  |some c=>c
  |none=>undef
 |none=>undef
def kN(P:Program)(a:TypeId):Nat:=match P.info? a with
 |some b=>b.size
 |none=>0
def sr(P:Program)(a:TypeId):Bool:=match P.underlying a with
 |some (.struct _)=>true
 |some (.array _ _)=>true
 |_=>false
def ss(P:Program)(a:TypeId)(b:Value->Prop):Prop:=match P.underlying a with
 |some (.tuple c)=>RV (c.toList.map (fz P)) λd=>b (.tuple d.toArray)
 |_=>AB (fz P a) b
def ss.out{P:Program}{φ:Value->Prop}(a:ss P g φ):∃b,φ b:=by
 unfold ss at a;split at a
 ·obtain⟨l,a⟩:=RV.out a;exact⟨_,a⟩
 ·exact AB.out a
def gK(a:World)(b:Addr):Nat->List Value->Prop->Prop
 |_,[],P=>P
 |c,d::e,P=>a.cell? (b.add c)=some d/\gK a b (c+1) e P
def gK.out{e:World}{f:Addr}:∀{a:Nat} {l:List Value} {φ:Prop},gK e f a l φ->(∀P b,l[P]? =some b->e.cell? (f.add (a+P))=some b)/\φ
 |_,[],_,d=>⟨λP b c=>by simp at c,d⟩
 |a,k::l,φ,d=>by
  obtain⟨g,h⟩:=d;obtain⟨i,j⟩:=gK.out h;refine⟨λP b c=>?_,j⟩
  cases P with
  |zero=>simp at c;subst c;exact g
  |succ P=>
   have:=i P b (by simpa using c);rw[show a+1+P=a+(P+1)from by omega]at this;exact this
def nE(P:Program)(a:TypeId)(h:Value)(b:World)(c:Value->Prop):Prop:=match h with
 | .pointer (some d)=>match sr P a with
  |true=>match fz P a with
   | .agg e=>match Nat.beq (kN P a) e.size with
    |true=>Nl e.toList λf=>gK b d 0 f (c (.agg f.toArray))
    |false=>False
   |_=>False
  |false=>Mb (fz P a) λg=>b.cell? d=some g/\c g
 |_=>False
def PS(P:World)(a:Addr)(b:Value)(c:World->Prop):Prop:=(∃d,P.cell? a=some d)/\P.frozen? a=false/\c (P.setCell a b)
def PA(P:World)(a:Obj)(b:World->Prop):Prop:=b (P.alloc a)
def iA(b:Addr):Nat->List Value->World->(World->Prop)->Prop
 |_,[],P,a=>a P
 |c,d::e,P,a=>PS P (b.add c) d λf=>iA b (c+1) e f a
def vQ(P:Program)(a:TypeId)(f b:Value)(c:World)(d:World->Prop):Prop:=match f with
 | .pointer (some e)=>match sr P a with
  |true=>match b with
   | .agg cs=>match Nat.beq cs.size (kN P a)with
    |true=>match cs.toList.all Value.oneCell' with
     |true=>iA e 0 cs.toList c d
     |false=>False
    |false=>False
   |_=>False
  |false=>match Nat.beq (kN P a) 1 with
   |true=>an b.oneCell' (PS c e b d) False
   |false=>False
 |_=>False
def Pk(P a:Nat):Nat:=match Nat.beq a 1 with
 |true=>P
 |false=>P*a
def JM(a P:Nat):Pk a P=a*P:=by
 unfold Pk
 cases b:Nat.beq P 1
 ·rfl
 ·have:P=1:=Nat.eq_of_beq_eq_true b
  subst this;simp
def Pl(e:Program)(j:TypeId)(g h:Value)(i:Value->Prop):Prop:=match e.underlying j with
 |some (.slice P)=>match g,h with
  | .slice c k _,.int _ b=>∃d a,c=some ⟨d,a,none⟩/\0<=b/\b<k/\i (.pointer (some ⟨d,a+Pk b.toNat (kN e P),none⟩))
  |_,_=>False
 |some (.array f P)=>match g,h with
  | .pointer l,.int _ b=>∃d a,l=some ⟨d,a,none⟩/\0<=b/\b<f/\i (.pointer (some ⟨d,a+Pk b.toNat (kN e P),none⟩))
  |_,_=>False
 |_=>False
def Dz(b c:Value)(d:Value->Prop):Prop:=match b,c with
 | .string e,.int _ P=>0<=P/\∃a,e[P.toNat]? =some a/\d (.int .u8 a.toNat)
 |_,_=>False
def cz(a:Option Addr)(b c P:Nat):Option Addr:=if c=b then a else a.map (·.add (b*P))
def Pm(h:Program)(n:TypeId)(l:Value)(i j m:Option Value)(d:Value->Prop):Prop:=match h.underlying n with
 |some .string=>match l,m with
  | .string e,none=>match i,j with
   |none,none=>d (.string (e.extract 0 e.size))
   |some (.int _ P),none=>0<=P/\P<=e.size/\d (.string (e.extract P.toNat e.size))
   |none,some (.int _ a)=>0<=a/\a<=e.size/\d (.string (e.extract 0 a.toNat))
   |some (.int _ P),some (.int _ a)=>0<=P/\P<=a/\a<=e.size/\d (.string (e.extract P.toNat a.toNat))
   |_,_=>False
  |_,_=>False
 |some (.slice b)=>match l,m with
  | .slice f k c,none=>match i,j with
   |none,none=>d (.slice f k c)
   |some (.int _ P),none=>0<=P/\P<=k/\d (.slice (cz f P.toNat c (kN h b)) (k-P.toNat) (c-P.toNat))
   |none,some (.int _ a)=>0<=a/\a<=c/\d (.slice f a.toNat c)
   |some (.int _ P),some (.int _ a)=>0<=P/\P<=a/\a<=c/\d (.slice (cz f P.toNat c (kN h b)) (a.toNat-P.toNat) (c-P.toNat))
   |_,_=>False
  | .slice f _ c,some (.int _ g)=>match i,j with
   |none,some (.int _ a)=>0<=a/\a<=g/\g<=c/\d (.slice f a.toNat g.toNat)
   |some (.int _ P),some (.int _ a)=>0<=P/\P<=a/\a<=g/\g<=c/\d (.slice (cz f P.toNat g.toNat (kN h b)) (a.toNat-P.toNat) (g.toNat-P.toNat))
   |_,_=>False
  |_,_=>False
 |_=>False
def TD(b:Option Addr)(c:Value->Prop):Prop:=∃a P,b=some ⟨a,P,none⟩/\c (.pointer (some ⟨a,P,none⟩))
def aH(b:Program)(c:Sem Value)(d:World)(e f:Value->World->Prop):Prop:=match c.run b d with
 | .ok P a=>e P a
 | .halt (.panic P) a=>f P a
 |_=>False
def jS(a:Program)(b:Sem Unit)(c:World)(d:World->Prop)(e:Value->World->Prop):Prop:=match b.run a c with
 | .ok _ P=>d P
 | .halt (.panic f) P=>e f P
 |_=>False
def aH.mk{P w':World}{v:Value}(a:d8.run h P= .ok v w')(b:m v w'):aH h d8 P m s:=by
 unfold aH;rw[a];exact b
def jS.mk{P w':World}(a:g8.run h P= .ok () w')(b:x w'):jS h g8 P x m:=by
 unfold jS;rw[a];exact b
def aH.imp(d:∀a c,m a c->s a c)(P:aH h d8 b m h7):aH h d8 b s h7:=by
 unfold aH at*;split at P
 ·exact d _ _ P
 ·exact P
 ·exact P.elim
def aH.panics{v:Value}(P:d8.run h b= .halt (.panic v) k)(a:s v k):aH h d8 b m s:=by
 unfold aH;rw[P];exact a
def enters(a:Program)(b:FuncId):Bool:=match a.funcs[b]? with
 |some P=>match P.body with
  |some _=>!(P.name== "runtime.NumGoroutine")
  |none=>false
 |none=>false
def Nn(P:Ending)(a:Value->Prop)(b:List PanicEntry->Prop):Prop:=match P with
 | .returned c=>a c
 | .panicked d=>b d
 | .outgrown=>False
def PC(b:Program)(c:FuncId)(P:Array Value)(d:World)(e:Value->World->Prop)(f:List PanicEntry->World->Prop):Prop:=
 Calls b c P d λg a=>Nn g (λh=>e h a) (λi=>f i a)
def JN(a:Program)(c:FuncId)(P:Array Value)(d:TypeId)(e:World)(f:Value->World->Prop)(g:List PanicEntry->World->Prop):Prop:=
 PC a c P e (λh i=>ss a d λb=>h=b/\f b i) g
def Rq(c:Program)(d:Value)(P:Array Value)(e:TypeId)(f:World)(g:Value->World->Prop)(h:List PanicEntry->World->Prop):Prop:=
 ∃b first a,d= .func (.func b) first a/\enters c b=true/\JN c b (first++P++a) e f g h
def OL(b:Program)(d:FuncId)(P:Array Value)(a:World)(e f:Value->World->Prop):Prop:=
 ∃c:Sem Value,(∀a,(callFunc d P).run b a=(c.run b a).andThen λg h=>.ok (.value g) h)/\aH b c a e f
def TE(c:Program)(P:Value)(a:String)(b:Array Value)(f:TypeId)(g:World)(h:Value->World->Prop)(i:List PanicEntry->World->Prop):Prop:=
 ∃d as,(∀e,(callMethod P a b).run c e= .ok (.enter d as) e)/\JN c d as f g h i
def isInt(P:Program)(a:TypeId):Bool:=match P.underlying a with
 |some (.int _)=>true
 |_=>false
def JO(P:Program)(a:TypeId):Bool:=match P.underlying a with
 |some (.int _)=>true
 |some .bool=>true
 |some .string=>true
 |_=>false
def isMap(P:Program)(a:TypeId):Bool:=match P.underlying a with
 |some (.map _ _)=>true
 |_=>false
def tW(P:Operand):Bool:=match P with
 | .const _=>true
 |_=>false
def DA(P:Program)(f:Oper):Bool:=match f.op with
 | .lookup .. =>true
 | .next .. =>true
 | .entry _=>true
 | .mapEntry .. =>true
 | .makeSlice .. =>true
 | .convert c d _=>match isInt P c with
  |true=>match isInt P d with
   |true=>false
   |false=>true
  |false=>true
 | .binOp g e _ a _=>match g with
  | .quo=>match tW a with
   |true=>false
   |false=>true
  | .rem=>match tW a with
   |true=>false
   |false=>true
  | .shl=>match tW a with
   |true=>false
   |false=>true
  | .shr=>match tW a with
   |true=>false
   |false=>true
  | .add=>match isInt P e with
   |true=>false
   |false=>true
  | .eql=>match JO P e with
   |true=>false
   |false=>true
  | .neq=>match JO P e with
   |true=>false
   |false=>true
  |_=>false
 | .call {callee:=.builtin b,argTypes,..}=>match b with
  | .append=>true
  | .copy=>true
  | .cap=>true
  | .len=>isMap P (argTypes.getD 0 0)
  |_=>false
 |_=>false
def Lg(a:Operand->Value)(j:Oper):Option (Sem Value):=match j.op with
 | .move b| .assign b=>some (.pure (a b))
 | .pick c v m=>some (do pure (if<-asBool (a c)then a v else a m))
 | .alloc h=>some (Instr.alloc h true (.tuple #[]))
 | .box h b=>some (Instr.box h (a b))
 | .build i d=>some (Instr.build i (d.map λ(n,b)=>(n,a b)))
 | .buildSlice i o d=>some (Instr.buildSlice i o (d.map λ(n,b)=>(n,a b)))
 | .waits w=>some (Instr.waits w)
 | .binOp l P b p _=>some (do eqGuard l P b p (a b) (a p);binOp l P (a b) (a p))
 | .unOp l _ b=>some (Op.unary l (a b))
 | .convert q r b=>some (convert q r (a b))
 | .makeInterface P b=>some (Instr.makeInterface P (a b))
 | .makeFunc x first e=>some (Instr.makeFunc x (first.map a) (e.map a))
 | .makeMap i y=>some (Instr.makeMap i (y.map a))
 | .makeSlice i z c=>some (Instr.makeSlice i (a z) (a c))
 | .fieldAddr A b s=>some (Instr.fieldAt A (a b) s)
 | .field P b s=>some (Instr.field P (a b) s)
 | .index P b k=>some (Instr.index P (a b) (a k))
 | .lookup P b k t=>some (Instr.lookup P (a b) (a k) t)
 | .mapEntry i B C=>some (Instr.mapEntry i (a B) (a C))
 | .range P b=>some (Instr.range P (a b))
 | .next u f=>some (Instr.next (a u) f j.type)
 | .entry u=>some (Instr.entry (a u))
 | .typeAssert b P g t=>some (Instr.typeAssert (a b) P g t)
 | .extract i k=>some (Instr.extract (a i) k)
 | .panic b=>some (Instr.panic (a b))
 | .call c=>match c.callee with
  | .builtin m=>match m with
   | .append=>some (Builtin.append_ c.argTypes j.type (c.args.map a))
   | .cap=>some (Builtin.cap_ c.argTypes j.type (c.args.map a))
   | .clear=>some (Builtin.clear_ c.argTypes j.type (c.args.map a))
   | .copy=>some (Builtin.copy_ c.argTypes j.type (c.args.map a))
   | .delete=>some (Builtin.delete_ c.argTypes j.type (c.args.map a))
   | .len=>some (Builtin.len_ c.argTypes j.type (c.args.map a))
   | .max=>some (Builtin.max_ c.argTypes j.type (c.args.map a))
   | .min=>some (Builtin.min_ c.argTypes j.type (c.args.map a))
   | .panic=>some (Instr.panic ((c.args.map a).getD 0 .nilIface))
   |_=>none
  |_=>none
 |_=>none
def Pn(P:Operand->Value)(e:Oper):Option (Sem Unit):=match e.op with
 | .mapUpdate a b d c| .insert a b d c=>some (Instr.mapUpdate a (P b) (P d) (P c))
 | .entryStore a b f c=>some (Instr.entryStore a (P b) (P f) (P c))
 | .ready g=>some (Instr.ready g)
 |_=>none
def q_{a b e:Type}(P:Result a)(c:a->World->Result b)(d:b->World->Result e):(P.andThen c).andThen d=P.andThen λf g=>(c f g).andThen d:=by
 cases P<;>rfl
def iB(a:Lg e1 O=some d8)(c:Program)(d:World):
  (execOp e1 O).run c d=(d8.run c d).andThen λg h=>.ok (.value g) h:=by
 obtain⟨i,j,e,k,b,guard⟩:=O
 cases j
 case call l=>
  obtain⟨P,f,m⟩:=l
  cases P
  case builtin n=>
   cases n<;>simp only[Lg,Option.some.injEq,reduceCtorEq]at a<;>subst a<;>simp[execOp,resolve,invoke,builtin]
  all_goals simp[Lg]at a
 all_goals first
  |(cases a;done)
  |(cases a;simp[execOp];done)
  |(cases a;simp only[execOp,Sem.run_bind,Sem.run_pure,q_,Result.andThen_ok];done)
  |(cases a;simp only[execOp,Sem.run_bind,Sem.run_pure,q_,Result.andThen_ok];rfl)
def Lh(P:Pn e1 O=some g8)(b:Program)(c:World):
  (execOp e1 O).run b c=(g8.run b c).andThen λ_ e=>.ok .skip e:=by
 obtain⟨f,g,d,h,a,guard⟩:=O
 cases g
 all_goals first
  |(simp only[Pn,Option.some.injEq]at P;subst P;simp[execOp];done)
  |(simp[Pn]at P;done)
section
variable {P:Program}
def cW(P:Program)(a:TypeId)(c:Bool)(d:sr P a=c)(g:∃b,P.underlying a=some b)(e:World):(isAgg a).run P e= .ok c e:=by
 obtain⟨b,f⟩:=g;unfold sr at d;rw[f]at d;simp only[isAgg,Sem.run_bind,run_underlying f,Result.andThen_ok]
 cases b<;>simp_all
def BM(a:fz P g=t)(d:t≠undef):∃b,P.info? g=some b/\b.zero=some t:=by
 unfold fz at a;split at a
 ·rename_i b e
  split at a
  ·rename_i f c;exact⟨b,e,by rw[c,a]⟩
  ·exact absurd a.symm d
 ·exact absurd a.symm d
def dm(b:P.info? g=some f0)(a:World):(sizeOf g).run P a= .ok f0.size a:=by
 simp[sizeOf,typeInfo,b]
def gM(a:P.info? g=some f0):kN P g=f0.size:=by simp[kN,a]
def tX(a:k.heap=b.heap)(P:Addr):k.cell? P=b.cell? P:=by simp[World.cell?,a]
def nE.out(k:∃n,P.underlying g=some n)(a:nE P g t b V):
  ∃c,(∀d,d.heap=b.heap->(Instr.loadAt g t).run P d= .ok c d)/\V c:=by
 unfold nE at a;split at a
 ·rename_i h
  split at a
  ·rename_i i
   split at a
   ·rename_i y o
    split at a
    ·rename_i p
     obtain⟨l,q,a⟩:=Nl.out a;obtain⟨j,a⟩:=gK.out a;obtain⟨r,m,_⟩:=BM o (by simp[undef]);have s:r.size=l.length:=by
      have:=Nat.eq_of_beq_eq_true p;rw[gM m]at this;simp[this,q]
     refine⟨_,λd e=>?_,a⟩;have u:∀f c,l[f]? =some c->d.cell? (h.add f)=some c:=λf c v=>by
      rw[tX e];have:=j f c v;simpa using this
     have w:=run_loadCells_list (P:=P) (w:=d) h l u;simp only[Instr.loadAt,Instr.sureAddr,loadVar,Sem.run_bind,Sem.run_pure,Result.andThen_ok,cW P g _ i k,if_true,dm m,s,w]
    ·exact a.elim
   ·exact a.elim
  ·rename_i i
   obtain⟨c,x,a⟩:=Mb.out a;refine⟨c,λd e=>?_,a⟩;have j:d.cell? h=some c:=by rw[tX e];exact x
   simp[Instr.loadAt,Instr.sureAddr,loadVar,cW P g _ i k,load,Sem.run,j]
 ·exact a.elim
def iA.out{e:Addr}{f:World->Prop}:∀{l:List Value} {c:Nat} {b:World},(∀v∈l,v.oneCell'=true)->iA e c l b f->∃d,(storeCells e l c).run P b= .ok () d/\f d
 |[],c,b,_,a=>⟨b,rfl,a⟩
 |v::l,c,b,g,a=>by
  obtain⟨⟨n,h⟩,i,a⟩:=a;obtain⟨d,j,a⟩:=iA.out (l:=l) (λv k=>g v (List.mem_cons_of_mem _ k)) a;refine⟨d,?_,a⟩;have m:=run_store P b (e.add c) v .plain (g v (List.mem_cons_self ..));simp only[storeCells,Sem.run_bind,m,h,i];simpa using j
def vQ.out{h:TypeId}{k b:Value}{i:World}{l:World->Prop}(c:∃f,P.info? h=some f)(a:vQ P h k b i l):
  ∃g,(Instr.storeAt h k b).run P i= .ok () g/\l g:=by
 obtain⟨f,c⟩:=c;unfold vQ at a;split at a
 ·rename_i m
  split at a
  ·split at a
   ·rename_i cs
    split at a
    ·rename_i d
     split at a
     ·rename_i e
      obtain⟨g,n,a⟩:=iA.out (P:=P) (λb o=>by simpa using List.all_eq_true.1 e b o) a;refine⟨g,?_,a⟩;have j:cs.size=f.size:=by have:=Nat.eq_of_beq_eq_true d;rwa [gM c]at this
      simp[Instr.storeAt,Instr.sureAddr,storeVar,dm c,Value.cells,j,n]
     ·exact a.elim
    ·exact a.elim
   ·exact a.elim
  ·split at a
   ·rename_i d
    have j:f.size=1:=by have:=Nat.eq_of_beq_eq_true d;rwa [gM c]at this
    cases e:b.oneCell' with
    |false=>rw[e]at a;exact a.elim
    |true=>
     rw[e]at a;obtain⟨⟨s,p⟩,q,a⟩:=a;refine⟨_,?_,a⟩;have r:b.cells= #[b]:=by cases b<;>first|rfl|(simp[Value.oneCell']at e)
     have d:=run_store P i m b .plain e;rw[p,q]at d;simp[Instr.storeAt,Instr.sureAddr,storeVar,dm c,r,j,storeCells,Addr.add_zero',d]
   ·exact a.elim
 ·exact a.elim
def Pl.out(m:∀f,(P.underlying g=some (.slice f)\/∃n,P.underlying g=some (.array n f))->∃h,P.info? f=some h)(a:Pl P g t b7 V):
  ∃o,(∀e,(Instr.indexAt g t b7).run P e= .ok o e)/\V o:=by
 unfold Pl at a;split at a
 ·rename_i b c
  split at a
  ·rename_i p n u q r
   obtain⟨s,i,rfl,j,k,a⟩:=a;obtain⟨h,d⟩:=m b (.inl c);refine⟨_,λe=>?_,a⟩;simp[Instr.indexAt,asIntOf,run_underlying c,j,k,dm d,JM,gM d,Addr.add_lit]
  ·exact a.elim
 ·rename_i l b c
  split at a
  ·rename_i v q r
   obtain⟨s,i,rfl,j,k,a⟩:=a;obtain⟨h,d⟩:=m b (.inr ⟨l,c⟩);refine⟨_,λe=>?_,a⟩;simp[Instr.indexAt,Instr.sureAddr,asIntOf,run_underlying c,j,k,dm d,JM,gM d,Addr.add_lit]
  ·exact a.elim
 ·exact a.elim
def Dz.out(d:P.underlying g=some .string)(a:Dz t b7 V):∃c,(∀b,(Instr.index g t b7).run P b= .ok c b)/\V c:=by
 unfold Dz at a;split at a
 ·rename_i h i j
  obtain⟨e,k,f,a⟩:=a;refine⟨_,λb=>?_,a⟩;simp[Instr.index,asIntOf,run_underlying d,e,f]
 ·exact a.elim
def bG(c:Value)(b:Int)(f:IntKind)(g:c= .int f b)(d:Nat)(a:BoundsCode)(e:World)(h:0<=b/\b<=d):(Instr.sliceBound c d a).run P e= .ok b.toNat e:=by
 subst g;simp[Instr.sliceBound,asIntOf,h]
def Pm.out{j k m:Option Value}(y:∀u,P.underlying g=some (.slice u)->∃v,P.info? u=some v)(a:Pm P g t j k m V):
  ∃w,(∀b,(Instr.sliceAt g t j k m).run P b= .ok w b)/\V w:=by
 unfold Pm at a;split at a
 ·rename_i d
  have f:∀b,(Instr.sliceAt g t j k m).run P b=(Instr.slice g t j k m).run P b:=λb=>by simp[Instr.sliceAt,run_underlying d]
  split at a
  ·rename_i s
   split at a
   ·exact⟨_,λb=>by rw[f];simp[Instr.slice,Instr.sliceBounds,run_underlying d],a⟩
   ·rename_i l
    obtain⟨c,h,a⟩:=a;exact⟨_,λb=>by rw[f];simp[Instr.slice,Instr.sliceBounds,run_underlying d,bG _ l _ rfl s.size _ b ⟨c,h⟩],a⟩
   ·rename_i e
    obtain⟨c,h,a⟩:=a;exact⟨_,λb=>by rw[f];simp[Instr.slice,Instr.sliceBounds,run_underlying d,bG _ e _ rfl s.size _ b ⟨c,h⟩],a⟩
   ·rename_i l _ e
    obtain⟨c,h,n,a⟩:=a;exact⟨_,λb=>by rw[f];simp[Instr.slice,Instr.sliceBounds,run_underlying d,bG _ e _ rfl s.size _ b ⟨by omega,n⟩,bG _ l _ rfl e.toNat _ b ⟨c,by omega⟩],a⟩
   ·exact a.elim
  ·exact a.elim
 ·rename_i o d
  obtain⟨v,i⟩:=y o d;have f:∀b,(Instr.sliceAt g t j k m).run P b=(Instr.slice g t j k m).run P b:=λb=>by simp[Instr.sliceAt,run_underlying d]
  split at a
  ·rename_i q x p
   split at a
   ·refine⟨_,λb=>?_,a⟩
    rw[f]
    cases q<;>simp[Instr.slice,Instr.sliceBounds,run_underlying d,dm i,Addr.add_zero']
   ·rename_i l
    obtain⟨c,h,a⟩:=a;refine⟨_,λb=>?_,a⟩;rw[f];simp[Instr.slice,Instr.sliceBounds,run_underlying d,dm i,bG _ l _ rfl x _ b ⟨c,h⟩,cz,gM i]
   ·rename_i e
    obtain⟨c,h,a⟩:=a;refine⟨_,λb=>?_,a⟩;rw[f]
    cases q<;>simp[Instr.slice,Instr.sliceBounds,run_underlying d,dm i,bG _ e _ rfl p _ b ⟨c,h⟩,Addr.add_zero']
   ·rename_i l _ e
    obtain⟨c,h,n,a⟩:=a;refine⟨_,λb=>?_,a⟩;rw[f];simp[Instr.slice,Instr.sliceBounds,run_underlying d,dm i,bG _ e _ rfl p _ b ⟨by omega,n⟩,bG _ l _ rfl e.toNat _ b ⟨c,by omega⟩,cz,gM i]
   ·exact a.elim
  ·rename_i q x p _ r
   split at a
   ·rename_i e
    obtain⟨c,h,n,a⟩:=a;refine⟨_,λb=>?_,a⟩;rw[f]
    cases q<;>simp[Instr.slice,Instr.sliceBounds,run_underlying d,dm i,bG _ r _ rfl p _ b ⟨by omega,n⟩,bG _ e _ rfl r.toNat _ b ⟨c,by omega⟩,Addr.add_zero']
   ·rename_i l _ e
    obtain⟨c,h,n,z,a⟩:=a;refine⟨_,λb=>?_,a⟩;rw[f];simp[Instr.slice,Instr.sliceBounds,run_underlying d,dm i,bG _ r _ rfl p _ b ⟨by omega,z⟩,bG _ e _ rfl r.toNat _ b ⟨by omega,by omega⟩,bG _ l _ rfl e.toNat _ b ⟨c,by omega⟩,cz,gM i]
   ·exact a.elim
  ·exact a.elim
 ·exact a.elim
end
def known(P:Program)(a:TypeId):Bool:=match P.underlying a,P.info? a with
 |some _,some _=>true
 |_,_=>false
def fX(P:Program)(b:TypeId):Bool:=match P.underlying b with
 |some (.slice a)=>match P.info? a with
  |some _=>true
  |none=>false
 |some (.array _ a)=>match P.info? a with
  |some _=>true
  |none=>false
 |some _=>true
 |none=>false
def eR(P:Bool)(a:Prop):Prop:=match P with
 |true=>a
 |false=>False
def eR.out(P:eR L J):L=true/\J:=by
 cases L
 ·exact P.elim
 ·exact⟨rfl,P⟩
abbrev bU:=Nat->Value
abbrev gN:=Exit->bU->cQ->List Deferred->World->Prop
def Li(b:Value)(a:Value->Prop):Prop:=match b with
 | .pointer c=>TD c a
 | .func (.func d) first P=>a (.func (.func d) first P)
 |_=>False
def tY(P:Program)(a b:Nat):List Oper->Value
 |[]=>undef
 |d::c=>match d.op with
  | .extract (.tmp e) f=>match Nat.beq e a with
   |true=>match Nat.beq f b with
    |true=>fz P d.type
    |false=>tY P a b c
   |false=>tY P a b c
  |_=>tY P a b c
def xE(b:Program)(P:Array Oper)(a:Option Tmp)(c:Nat):Value:=match a with
 |some a=>tY b a c P.toList
 |none=>undef
def tZ(f:Bool)(P:Value)(a:Value->Prop):Prop:=(P= .tuple #[.bool false]/\a (.tuple #[.bool false]))\/(match f with
 |true=>∃b c,P= .tuple #[.bool true,.int .i64 b,.int .i32 c]/\a (.tuple #[.bool true,.int .i64 b,.int .i32 c])
 |false=>∃d e,P= .tuple #[.bool true,d,e]/\a (.tuple #[.bool true,d,e]))
def tZ.out(h:tZ L t V):V t:=by
 unfold tZ at h;rcases h with⟨rfl,h⟩|h
 ·exact h
 ·cases L
  ·obtain⟨P,a,rfl,h⟩:=h;exact h
  ·obtain⟨P,a,rfl,h⟩:=h;exact h
def DB(b z1:Value)(c:Value)(d:Value->Prop):Prop:=AB b λP=>AB z1 λa=>c= .tuple #[P,a]/\d (.tuple #[P,a])
def DB.out{b z1:Value}(d:DB b z1 t V):V t:=by
 obtain⟨a,e⟩:=AB.out (z:=b) (φ:=λa=>AB z1 λP=>t= .tuple #[a,P]/\V (.tuple #[a,P])) d;obtain⟨P,c⟩:=AB.out (z:=z1) (φ:=λP=>t= .tuple #[a,P]/\V (.tuple #[a,P])) e;rw[c.1];exact c.2
def DD(b:Value)(c:Value)(d:Value->Prop):Prop:=AB b λP=>∃a,c= .tuple #[P,.bool a]/\d (.tuple #[P,.bool a])
def DD.out{z P:Value}(c:DD z P V):V P:=by
 obtain⟨a,b,d,e⟩:=AB.out (z:=z) (φ:=λa=>∃b,P= .tuple #[a,.bool b]/\V (.tuple #[a,.bool b])) c;rw[d];exact e
def Po(h:Program)(p:Array Oper)(b:bU)(c:Oper)(n:gN)(j:cQ->List Deferred->World->Prop)(P:cQ)(d:List Deferred)(i:World):Prop:=
 match c.op with
 | .load l t=>eR (known h l) (nE h l (ev b P t) i λe=>j (bX P c.dst e) d i)
 | .store l t o=>eR (known h l) (vQ h l (ev b P t) (ev b P o) i λa=>j (bX P c.dst undef) d a)
 | .indexAddr l o s=>eR (fX h l) (Pl h l (ev b P o) (ev b P s) λe=>j (bX P c.dst e) d i)
 | .slice l o x y z=>eR (fX h l) (Pm h l (ev b P o) (x.map (ev b P)) (y.map (ev b P)) (z.map (ev b P)) λe=>j (bX P c.dst e) d i)
 | .nilCheck o=>Li (ev b P o) λe=>j (bX P c.dst e) d i
 | .index l o s=>match h.underlying l with
  |some .string=>Dz (ev b P o) (ev b P s) λe=>j (bX P c.dst e) d i
  |_=>aH h (Instr.index l (ev b P o) (ev b P s)) i (λe a=>j (bX P c.dst e) d a) (λk a=>n (.panic [{v:=k,recovered:=false}]) b P d a)
 | .call {callee:=.value (.func g),args,..}=>match enters h g with
  |true=>JN h g (args.map (ev b P)) c.type i (λe a=>j (bX P c.dst e) d a) (λr a=>n (.panic r) b P d a)
  |false=>OL h g (args.map (ev b P)) i (λe a=>ss h c.type λm=>e=m/\j (bX P c.dst m) d a) (λk a=>n (.panic [{v:=k,recovered:=false}]) b P d a)
 | .call {callee:=.value f,args,..}=>Rq h (ev b P f) (args.map (ev b P)) c.type i (λe a=>j (bX P c.dst e) d a) (λr a=>n (.panic r) b P d a)
 | .call {callee:=.invoke f name,args,..}=>TE h (ev b P f) name (args.map (ev b P)) c.type i (λe a=>j (bX P c.dst e) d a) (λr a=>n (.panic r) b P d a)
 | .defer {callee:=.value f,args,..}=>match ev b P f with
  | .func A first u=>j (bX P c.dst undef) ({target:=.fn A u,args:=first++args.map (ev b P)}::d) i
  |_=>False
 | .next v q=>aH h (Instr.next (ev b P v) q c.type) i (λe a=>tZ q e λm=>j (bX P c.dst m) d a) (λk a=>n (.panic [{v:=k,recovered:=false}]) b P d a)
 | .entry v=>aH h (Instr.entry (ev b P v)) i (λe a=>DB (xE h p c.dst 0) (xE h p c.dst 1) e λm=>j (bX P c.dst m) d a) (λk a=>n (.panic [{v:=k,recovered:=false}]) b P d a)
 | .mapEntry l B C=>aH h (Instr.mapEntry l (ev b P B) (ev b P C)) i (λe a=>DB (xE h p c.dst 0) (xE h p c.dst 1) e λm=>j (bX P c.dst m) d a) (λk a=>n (.panic [{v:=k,recovered:=false}]) b P d a)
 | .typeAssert o E w true=>aH h (Instr.typeAssert (ev b P o) E w true) i (λe a=>DD (fz h w) e λm=>j (bX P c.dst m) d a) (λk a=>n (.panic [{v:=k,recovered:=false}]) b P d a)
 |_=>match Lg (ev b P) c with
  |some q=>match DA h c with
   |true=>aH h q i (λe a=>ss h c.type λm=>e=m/\j (bX P c.dst m) d a) (λk a=>n (.panic [{v:=k,recovered:=false}]) b P d a)
   |false=>aH h q i (λe a=>j (bX P c.dst e) d a) (λk a=>n (.panic [{v:=k,recovered:=false}]) b P d a)
  |none=>match Pn (ev b P) c with
   |some q=>jS h q i (λa=>j (bX P c.dst undef) d a) (λk a=>n (.panic [{v:=k,recovered:=false}]) b P d a)
   |none=>False
def gO(a:enters h y=true)(P:Array Value)(b:World):(callFunc y P).run h b= .ok (.enter y P) b:=by
 unfold enters at a;split at a
 ·rename_i c d
  split at a
  ·rename_i g e
   have f:¬c.name= "runtime.NumGoroutine":=by simpa using a
   simp[callFunc,program,Sem.run,d,e,f]
  ·cases a
 ·cases a
def su{next:Act->World->Prop}(i:JN h y n g b m a2)(j:∀a P,m a P->next (F.put O.dst a) P)(k:∀c P,a2 c P->d2 (.panic c) F P):
  O.upon h F next d2 (.ok (.enter y n) b):=by
 rw[Oper.upon_enter];refine Calls.mono i λl P d=>?_
 cases l with
 |returned a=>
  obtain⟨e,rfl,f⟩:=ss.out (φ:=λe=>a=e/\m e P) d;exact j _ _ f
 |panicked c=>exact k _ _ d
 |outgrown=>exact d.elim
def known.out{P:Program}(a:known P g=true):(∃b,P.underlying g=some b)/\∃c,P.info? g=some c:=by
 unfold known at a;split at a
 ·rename_i b c d e;exact⟨⟨b,d⟩,c,e⟩
 ·cases a
def fX.out{P:Program}(b:fX P g=true):∀a,(P.underlying g=some (.slice a)\/∃f,P.underlying g=some (.array f a))->∃c,P.info? a=some c:=by
 intro a d;unfold fX at b;rcases d with d|⟨f,d⟩
 ·rw[d]at b
  cases e:P.info? a with
  |none=>simp[e]at b
  |some c=>exact⟨c,rfl⟩
 ·rw[d]at b
  cases e:P.info? a with
  |none=>simp[e]at b
  |some c=>exact⟨c,rfl⟩
variable{T:bU}{b8:gN}
def Is{P:Program}{next:Act->World->Prop}(p:Rel a T N F)(L:∀M,O.dst=some M->M<a)(c:Po P S T O b8 h8 N F.defers b)(Q:∀e A f,Rel a T (bX N O.dst e) A->h8 (bX N O.dst e) A.defers f->next A f)(x:∀R f,b8 (.panic R) T N F.defers f->d2 (.panic R) F f):O.wp P F b next d2:=by
 have t:∀e f,h8 (bX N O.dst e) F.defers f->next (F.put O.dst e) f:=λe f B=>
  Q e _ _ (p.put O.dst L e) (by rw[put_defers];exact B)
 have j:∀h:Sem Value,(∀b,(execOp (ev T N) O).run P b=(h.run P b).andThen λe f=>.ok (.value e) f)->
   aH P h b (λe f=>h8 (bX N O.dst e) F.defers f) (λC f=>b8 (.panic [{v:=C,recovered:=false}]) T N F.defers f)->O.wp P F b next d2:=by
  intro h n l;unfold Oper.wp;rw[p.eval,n];unfold aH at l
  cases m:h.run P b with
  |ok e f=>
   rw[m]at l;exact t _ _ l
  |halt k f=>
   rw[m]at l
   cases k with
   |panic e=>exact x _ _ l
   |_=>exact l.elim
 have u:∀h:Sem Unit,(∀b,(execOp (ev T N) O).run P b=(h.run P b).andThen λ_ f=>.ok .skip f)->
   jS P h b (λf=>h8 (bX N O.dst undef) F.defers f) (λC f=>b8 (.panic [{v:=C,recovered:=false}]) T N F.defers f)->O.wp P F b next d2:=by
  intro h n l;unfold Oper.wp;rw[p.eval,n];unfold jS at l
  cases m:h.run P b with
  |ok e f=>
   rw[m]at l;exact t _ _ l
  |halt k f=>
   rw[m]at l
   cases k with
   |panic e=>exact x _ _ l
   |_=>exact l.elim
 have i:∀(h:Sem Value),(∀b,(execOp (ev T N) O).run P b=(h.run P b).andThen λe f=>.ok (.value e) f)->
   (∃e,h.run P b= .ok e b/\h8 (bX N O.dst e) F.defers b)->O.wp P F b next d2:=by
  rintro h n ⟨e,r,B⟩;unfold Oper.wp;rw[p.eval,n,r];exact t _ _ B
 unfold Po at c;split at c
 ·rename_i o k g
  obtain⟨q,c⟩:=c.out;obtain⟨e,r,c⟩:=nE.out (known.out q).1 c;exact i (Instr.loadAt o (ev T N k)) (λb=>by simp[execOp,g]) ⟨e,r b rfl,c⟩
 ·rename_i o k V g
  obtain⟨q,c⟩:=c.out;obtain⟨f,W,c⟩:=vQ.out (P:=P) (known.out q).2 c;exact u (Instr.storeAt o (ev T N k) (ev T N V)) (λb=>by simp[execOp,g]) (jS.mk W c)
 ·rename_i o k y g
  obtain⟨q,c⟩:=c.out;obtain⟨e,r,c⟩:=Pl.out (fX.out q) c;exact i (Instr.indexAt o (ev T N k) (ev T N y)) (λb=>by simp[execOp,g]) ⟨e,r b,c⟩
 ·rename_i o k X Y Z g
  obtain⟨q,c⟩:=c.out;obtain⟨e,r,c⟩:=Pm.out (λN E=>fX.out q N (.inl E)) c;exact i (Instr.sliceAt o (ev T N k) (X.map (ev T N)) (Y.map (ev T N)) (Z.map (ev T N))) (λb=>by simp[execOp,g]) ⟨e,r b,c⟩
 ·rename_i k g
  unfold Li at c;split at c
  ·rename_i a5 H
   obtain⟨a6,a0,rfl,c⟩:=c;unfold Oper.wp;rw[p.eval];simp only[execOp,g,H,Sem.run_pure,Oper.upon_value];exact t _ _ c
  ·rename_i w first s H
   unfold Oper.wp;rw[p.eval];simp only[execOp,g,H,Sem.run_pure,Oper.upon_value];exact t _ _ c
  ·exact c.elim
 ·rename_i o k y g
  split at c
  ·rename_i I
   obtain⟨e,r,c⟩:=Dz.out I c;exact i (Instr.index o (ev T N k) (ev T N y)) (λb=>by simp[execOp,g]) ⟨e,r b,c⟩
  ·exact j (Instr.index o (ev T N k) (ev T N y)) (λb=>by simp[execOp,g]) c
 ·rename_i w d v g
  split at c
  ·rename_i q
   have m:(execOp (ev T N) O).run P b= .ok (.enter w (d.map (ev T N))) b:=by
    simp[execOp,g,resolve,ev,Deferred.ofValue,invoke,gO q]
   unfold Oper.wp;rw[p.eval,m];exact su c t x
  ·obtain⟨h,n,c⟩:=c
   refine j h (λb=>by simp[execOp,g,resolve,ev,Deferred.ofValue,invoke,n]) (aH.imp ?_ c);intro e f c;obtain⟨a1,rfl,c⟩:=ss.out c;exact c
 ·rename_i z d v a7 g
  obtain⟨w,first,s,J,q,c⟩:=c;have m:(execOp (ev T N) O).run P b= .ok (.enter w (first++d.map (ev T N)++s)) b:=by
   simp[execOp,g,resolve,J,Deferred.ofValue,invoke,gO q]
  unfold Oper.wp;rw[p.eval,m];exact su c t x
 ·rename_i z U d v g
  obtain⟨w,as,hm,c⟩:=c;have m:(execOp (ev T N) O).run P b= .ok (.enter w as) b:=by
   have E:(d.map (ev T N)).extract 0 d.size=d.map (ev T N):=by
    have:d.size=(d.map (ev T N)).size:=by simp
    rw[this,Array.extract_size]
   have h0:(#[ev T N z]++d.map (ev T N))[0]? =some (ev T N z):=by rw[Array.getElem?_append_left (Nat.zero_lt_one)];rfl
   simp[execOp,g,resolve,invoke,E,hm,h0]
  unfold Oper.wp;rw[p.eval,m];exact su c t x
 ·rename_i z d v g
  split at c
  ·rename_i fn first s J
   have m:(execOp (ev T N) O).run P b= .ok (.defer {target:=.fn fn s,args:=first++d.map (ev T N)}) b:=by
    simp[execOp,g,resolve,J,Deferred.ofValue]
   unfold Oper.wp;rw[p.eval,m,Oper.upon_defer];exact Q undef _ _ ((p.defers _).put O.dst L undef) (by rw[put_defers];exact c)
  ·exact c.elim
 ·rename_i K h g
  refine j (Instr.next (ev T N K) h O.type) (λb=>by simp[execOp,g]) (aH.imp (λe f c=>?_) c);exact c.out
 ·rename_i K g
  refine j (Instr.entry (ev T N K)) (λb=>by simp[execOp,g]) (aH.imp (λe f c=>?_) c);exact c.out
 ·rename_i o a2 a3 g
  refine j (Instr.mapEntry o (ev T N a2) (ev T N a3)) (λb=>by simp[execOp,g]) (aH.imp (λe f c=>?_) c);exact c.out
 ·rename_i k xT a4 g
  refine j (Instr.typeAssert (ev T N k) xT a4 true) (λb=>by simp[execOp,g]) (aH.imp (λe f c=>?_) c);exact c.out
 ·split at c
  ·rename_i h n
   split at c
   ·refine j h (λb=>iB n P b) (aH.imp ?_ c)
    intro e f c;obtain⟨a1,rfl,c⟩:=ss.out c;exact c
   ·exact j h (λb=>iB n P b) c
  ·split at c
   ·rename_i h n
    exact u h (λb=>Lh n P b) c
   ·exact c.elim
def iR(P:Array Oper)(a:Nat):Option Nat:=match P[a]? with
 |some b=>b.dst
 |none=>none
def zl(c:Program)(b:bU)(P:Array Oper)(d:gN):List Oper->(cQ->List Deferred->World->Prop)->cQ->List Deferred->World->Prop
 |[],f,e,g,h=>f e g h
 |j::a,f,e,g,h=>match j.guard with
  |none=>Po c P b j d (zl c b P d a f) e g h
  |some (l,i)=>match iR P l with
   |none=>False
   |some k=>match get b e k with
    | .bool m=>an m
     (match i with
      |true=>Po c P b j d (zl c b P d a f) ((k,.bool true)::e) g h
      |false=>zl c b P d a f (bX ((k,.bool true)::e) j.dst undef) g h)
     (match i with
      |true=>zl c b P d a f (bX ((k,.bool false)::e) j.dst undef) g h
      |false=>Po c P b j d (zl c b P d a f) ((k,.bool false)::e) g h)
    | .tuple _=>zl c b P d a f (bX e j.dst undef) g h
    |_=>False
def Rel.again(P:Rel a T N F)(b:get T N c=t):Rel a T ((c,t)::N) F:=
 ⟨P.size,λe=>by
  rw[dR,P.slot];split
  ·rename_i d;subst d;exact b
  ·rfl⟩
def qh(b:get T N a=t)(P:Nat):get T ((a,t)::N) P=get T N P:=by
 rw[dR];split
 ·rename_i c;subst c;exact b.symm
 ·rfl
def nd(b:Rel a T N F)(P:iR S c=some i)(h:i<a):
  yielded S F.tmps c=match get T N i with| .bool e=>some e|_=>none:=by
 have f:((S[c]?).bind (·.dst))=some i:=by
  unfold iR at P
  cases d:S[c]? with
  |none=>rw[d]at P;simp at P
  |some j=>rw[d]at P;simpa using P
 unfold yielded;rw[f];have k:=b.size;have g:F.tmps[i]? =some (get T N i):=by
  rw[<-b.slot];have:i<F.tmps.size:=by omega
  simp[Array.getD,this]
 simp only[Option.bind_some,g];split<;>simp_all
def dd(d:Nat)(e:bU)(f:cQ)(g:List Nat)(h:gN):Exit->Act->World->Prop:=λi c j=>
 ∃P a,Rel d P a c/\(∀b,b∉g->get P a b=get e f b)/\h i P a c.defers j
def xF{s:Program}{l:Nat}{d q:bU}{r:cQ}{k:List Nat}{c:Array Oper}{m:gN}(F:∀H a,iR c H=some a->a<l):
  ∀(I:List Oper) (P:cQ) (i:Act) (h:World),(∀f∈I,∀g,f.dst=some g->g<l/\g∈k)->Rel l d P i->(∀a,a∉k->get d P a=get q r a)->
   zl s d c m I (λP v h=>m .normal d P v h) P i.defers h->wpList s c (dd l q r k m) I i h
 |[],P,i,h,_,n,j,e=>⟨d,P,n,j,e⟩
 |f::b,P,i,h,J,n,j,e=>by
  have O:∀g,f.dst=some g->g<l:=λg K=>(J f (List.mem_cons_self ..) g K).1;have Q:∀(P:cQ),(∀a,a∉k->get d P a=get q r a)->∀w a,a∉k->get d (bX P f.dst w) a=get q r a:=by
   intro P j w a L
   cases K:f.dst with
   |none=>exact j a L
   |some g=>
    have S:=(J f (List.mem_cons_self ..) g K).2;show get d ((g,w)::P) a=_;rw[dR,if_neg (by rintro rfl;exact L S)];exact j a L
  have x:∀f∈b,∀g,f.dst=some g->g<l/\g∈k:=λf T=>J f (List.mem_cons_of_mem _ T);have o:∀(P:cQ),Rel l d P i->(∀a,a∉k->get d P a=get q r a)->zl s d c m b (λP v h=>m .normal d P v h) (bX P f.dst undef) i.defers h->
    wpList s c (dd l q r k m) b (i.put f.dst undef) h:=λP n j e=>
   xF F b _ _ _ x (n.put _ O _) (Q P j _) (by rw[put_defers];exact e)
  have t:∀(P:cQ),Rel l d P i->(∀a,a∉k->get d P a=get q r a)->Po s c d f m (zl s d c m b λP v h=>m .normal d P v h) P i.defers h->
    f.wp s i h (wpList s c (dd l q r k m) b) (dd l q r k m):=λP n j e=>
   Is n O e (λw Y U M V=>xF F b _ _ _ x M (Q P j w) V) (λZ U W=>⟨d,P,n,j,W⟩)
  unfold wpList;unfold zl at e;split at e
  ·rename_i A
   rw[if_pos (by simp[Region.wanted,A])];exact .inl (t P n j e)
  ·rename_i H p A
   split at e
   ·exact e.elim
   ·rename_i a R
    have u:=nd n R (F H a R);split at e
    ·rename_i B y
     rw[y]at u;simp only at u;have N:Region.wanted f (yielded c i.tmps)=(B==p):=by
      simp only[Region.wanted,A,u]
      cases B<;>cases p<;>rfl
     rw[N];have C:=n.again y;have E:∀z,z∉k->get d ((a,.bool B)::P) z=get q r z:=λz X=>by rw[qh y];exact j z X
     cases B<;>cases p<;>simp only[an]at e
     ·exact .inl (t _ C E e)
     ·exact o _ C E e
     ·exact o _ C E e
     ·exact .inl (t _ C E e)
    ·rename_i vs y
     rw[y]at u;simp only at u;have N:Region.wanted f (yielded c i.tmps)=false:=by
      simp[Region.wanted,A,u]
     rw[N];exact o _ n j e
    ·exact e.elim
def zn{P:Type}(a:Program):Sem P->Option P
 | .pure b=>some b
 | .program c=>zn a (c a)
 |_=>none
def vA{d:Type}{c:Program}:∀{s:Sem d} {b:d},zn c s=some b->∀a,s.run c a= .ok b a
 | .pure f,b,P,a=>by simp only[zn,Option.some.injEq]at P;subst P;rfl
 | .program e,b,P,a=>by simp only[zn]at P;exact vA (s:=e c) P a
 | .load ..,_,P,_| .store ..,_,P,_| .new ..,_,P,_| .shape ..,_,P,_| .freeze ..,_,P,_| .frozen ..,_,P,_| .getObj ..,_,P,_| .setObj ..,_,P,_
 | .choose ..,_,P,_| .sys ..,_,P,_| .mark ..,_,P,_| .halt ..,_,P,_=>by simp[zn]at P
def SA(P:Program)(d:Sem Value)(e:TypeId)(a:World)(f:Value->Prop):Prop:=ss P e λb=>(∀c,d.run P (a.drewN c)= .ok b (a.drewN c))/\f b
def Rr(a:Program)(d:FuncId)(P:Array Value)(e:TypeId)(b:World)(f:Value->Prop):Prop:=
 ss a e λc=>(∀g,Calls a d P (b.drewN g) λh i=>h= .returned c/\∃j,i=b.drewN j)/\f c
def No(c:Program)(d:bU)(b:Oper)(f:cQ->Prop)(P:cQ)(i:World):Prop:=
 match b.op with
 | .load e l=>eR (known c e) (nE c e (ev d P l) i λa=>f (bX P b.dst a))
 | .indexAddr e h j=>eR (fX c e) (Pl c e (ev d P h) (ev d P j) λa=>f (bX P b.dst a))
 | .slice e h m n o=>eR (fX c e) (Pm c e (ev d P h) (m.map (ev d P)) (n.map (ev d P)) (o.map (ev d P)) λa=>f (bX P b.dst a))
 | .nilCheck h=>Li (ev d P h) λa=>f (bX P b.dst a)
 | .index e h j=>match c.underlying e with
  |some .string=>Dz (ev d P h) (ev d P j) λa=>f (bX P b.dst a)
  |_=>False
 | .call {callee:=.value (.func g),args,..}=>eR (enters c g) (Rr c g (args.map (ev d P)) b.type i λa=>f (bX P b.dst a))
 |_=>match Lg (ev d P) b with
  |some k=>match DA c b with
   |true=>SA c k b.type i λa=>f (bX P b.dst a)
   |false=>match zn c k with
    |some a=>f (bX P b.dst a)
    |none=>False
  |none=>False
def rb(d:Program)(c:bU)(a:Array Oper):List Oper->(cQ->Prop)->cQ->World->Prop
 |[],f,b,_=>f b
 |h::P,f,b,e=>match h.guard with
  |none=>No d c h (λb=>rb d c a P f b e) b e
  |some (j,g)=>match iR a j with
   |none=>False
   |some i=>match get c b i with
    | .bool k=>an k
     (match g with
      |true=>No d c h (λb=>rb d c a P f b e) ((i,.bool true)::b) e
      |false=>rb d c a P f (bX ((i,.bool true)::b) h.dst undef) e)
     (match g with
      |true=>rb d c a P f (bX ((i,.bool false)::b) h.dst undef) e
      |false=>No d c h (λb=>rb d c a P f b e) ((i,.bool false)::b) e)
    | .tuple _=>rb d c a P f (bX b h.dst undef) e
    |_=>False
def bO(P:World):World->Prop:=λa=>∃b,a=P.drewN b
def sv{next:Act->Prop}(u:Rel a T N F)(P:No h T O f1 N b)(v:∀c,f1 (bX N O.dst c)->next (F.put O.dst c)):O.quiet h F (bO b) next:=by
 have d:∀l:Sem Value,(∀b,(execOp (ev T N) O).run h b=(l.run h b).andThen λc w=>.ok (.value c) w)->
   (∃c,(∀f,l.run h (b.drewN f)= .ok c (b.drewN f))/\f1 (bX N O.dst c))->O.quiet h F (bO b) next:=by
  rintro l n ⟨c,e,x⟩;refine⟨c,?_,v c x⟩;rintro _ ⟨f,rfl⟩;unfold Oper.quietAt;rw[u.eval,n,e];exact⟨rfl,rfl⟩
 unfold No at P;split at P
 ·rename_i j i g
  obtain⟨k,P⟩:=P.out;obtain⟨c,e,P⟩:=nE.out (known.out k).1 P;exact d (Instr.loadAt j (ev T N i)) (λb=>by simp[execOp,g]) ⟨c,λf=>e _ rfl,P⟩
 ·rename_i j i o g
  obtain⟨k,P⟩:=P.out;obtain⟨c,e,P⟩:=Pl.out (fX.out k) P;exact d (Instr.indexAt j (ev T N i) (ev T N o)) (λb=>by simp[execOp,g]) ⟨c,λf=>e _,P⟩
 ·rename_i j i y z A g
  obtain⟨k,P⟩:=P.out;obtain⟨c,e,P⟩:=Pm.out (λN B=>fX.out k N (.inl B)) P;exact d (Instr.sliceAt j (ev T N i) (y.map (ev T N)) (z.map (ev T N)) (A.map (ev T N))) (λb=>by simp[execOp,g]) ⟨c,λf=>e _,P⟩
 ·rename_i i g
  unfold Li at P;split at P
  ·rename_i I p
   obtain⟨C,q,rfl,P⟩:=P;exact d (.pure (.pointer (some ⟨C,q,none⟩))) (λb=>by simp[execOp,g,p]) ⟨_,λf=>rfl,P⟩
  ·rename_i r first s p
   exact d (.pure (.func (.func r) first s)) (λb=>by simp[execOp,g,p]) ⟨_,λf=>rfl,P⟩
  ·exact P.elim
 ·rename_i j i o g
  split at P
  ·rename_i t
   obtain⟨c,e,P⟩:=Dz.out t P;exact d (Instr.index j (ev T N i) (ev T N o)) (λb=>by simp[execOp,g]) ⟨c,λf=>e _,P⟩
  ·exact P.elim
 ·rename_i r m E g
  obtain⟨k,P⟩:=P.out;obtain⟨c,e,P⟩:=ss.out P;refine⟨c,?_,v c P⟩;rintro _ ⟨f,rfl⟩;have H:(execOp (ev T N) O).run h (b.drewN f)= .ok (.enter r (m.map (ev T N))) (b.drewN f):=by
   simp[execOp,g,resolve,ev,Deferred.ofValue,invoke,gO k]
  unfold Oper.quietAt;rw[u.eval,H];exact⟨rfl,e f⟩
 ·split at P
  ·rename_i l n
   split at P
   ·obtain⟨c,e,P⟩:=ss.out P
    exact d l (λb=>iB n h b) ⟨c,e,P⟩
   ·split at P
    ·rename_i c e
     exact d l (λb=>iB n h b) ⟨c,λf=>vA e _,P⟩
    ·exact P.elim
  ·exact P.elim
def pq{v:Program}{m:Nat}{g B0:bU}{e0:cQ}{W:List Nat}{d:Array Oper}{w:World}{x:cQ->Prop}(K:∀B P,iR d B=some P->P<m):
  ∀(C:List Oper) (a:cQ) (i:Act),(∀b∈C,∀e,b.dst=some e->e<m/\e∈W)->Rel m g a i->(∀P,P∉W->get g a P=get B0 e0 P)->
   rb v g d C x a w->wpQuiet v d (bO w) (λr=>∃n,Rel m g n r/\r.defers=i.defers/\(∀P,P∉W->get g n P=get B0 e0 P)/\x n) C i
 |[],a,i,_,l,k,c=>⟨a,l,rfl,k,c⟩
 |b::h,a,i,E,l,k,c=>by
  have M:∀e,b.dst=some e->e<m:=λe F=>(E b (List.mem_cons_self ..) e F).1;have N:∀(a:cQ),(∀P,P∉W->get g a P=get B0 e0 P)->∀f P,P∉W->get g (bX a b.dst f) P=get B0 e0 P:=by
   intro a k f P H
   cases F:b.dst with
   |none=>exact k P H
   |some e=>
    have O:=(E b (List.mem_cons_self ..) e F).2;show get g ((e,f)::a) P=_;rw[dR,if_neg (by rintro rfl;exact H O)];exact k P H
  have I:∀b∈h,∀e,b.dst=some e->e<m/\e∈W:=λb Q=>E b (List.mem_cons_of_mem _ Q);have o:∀(a:cQ) (f:Value),Rel m g a i->(∀P,P∉W->get g a P=get B0 e0 P)->rb v g d h x (bX a b.dst f) w->
    wpQuiet v d (bO w) (λr=>∃n,Rel m g n r/\r.defers=i.defers/\(∀P,P∉W->get g n P=get B0 e0 P)/\x n) h (i.put b.dst f):=λa f l k c=>by
   have:=pq K h (bX a b.dst f) (i.put b.dst f) I (l.put _ M _) (N a k _) c;rw[put_defers]at this;exact this
  unfold wpQuiet;unfold rb at c;split at c
  ·rename_i y
   rw[if_pos (by simp[Region.wanted,y])];exact sv l c λf s=>o a f l k s
  ·rename_i B j y
   split at c
   ·exact c.elim
   ·rename_i P L
    have p:=nd l L (K B P L);split at c
    ·rename_i z t
     rw[t]at p;simp only at p;have J:Region.wanted b (yielded d i.tmps)=(z==j):=by
      simp only[Region.wanted,y,p]
      cases z<;>cases j<;>rfl
     rw[J];have q:=l.again t;have A:∀u,u∉W->get g ((P,.bool z)::a) u=get B0 e0 u:=λu R=>by rw[qh t];exact k u R
     cases z<;>cases j<;>simp only[an]at c
     ·exact sv q c λf s=>o _ f q A s
     ·exact o _ _ q A c
     ·exact o _ _ q A c
     ·exact sv q c λf s=>o _ f q A s
    ·rename_i S t
     rw[t]at p;simp only at p;have J:Region.wanted b (yielded d i.tmps)=false:=by
      simp[Region.wanted,y,p]
     rw[J];exact o _ _ l k c
    ·exact c.elim
def kindOf(P:Program)(d:Oper):Nat:=match d.op with
 | .move _| .assign _| .pick .. | .build .. | .binOp .. | .unOp .. | .indexAddr .. | .slice .. | .nilCheck _| .fieldAddr .. | .field .. | .index .. | .extract .. | .typeAssert .. =>0
 | .convert a c _=>match isInt P a with
  |true=>match isInt P c with
   |true=>0
   |false=>2
  |false=>2
 | .load .. | .lookup .. =>1
 | .call {callee:=.builtin b,argTypes,..}=>match b with
  | .len=>match isMap P (argTypes.getD 0 0)with
   |true=>1
   |false=>0
  | .cap| .max| .min=>0
  |_=>2
 |_=>2
def lC(a:Program)(P:Array Oper)(b:Nat):Nat:=match P[b]? with
 |some c=>kindOf a c
 |none=>2
def ft(a:Program)(P:Array Oper)(b:Nat):Bool:=match lC a P b with
 |2=>false
 |_=>true
def JP(P:Program):List Oper->Bool
 |[]=>false
 |a::b=>match kindOf P a with
  |2=>true
  |_=>JP P b
def rf(a:Program)(P:Array Oper):List Nat->Option Nat
 |[]=>none
 |b::c=>match ft a P b with
  |true=>some b
  |false=>rf a P c
def sw{c:Program}{a:Array Oper}{b:Nat}:∀{d:List Nat},rf c a d=some b->b∈d/\ft c a b=true
 |[],P=>by cases P
 |h::i,P=>by
  unfold rf at P;split at P
  ·rename_i e;cases P;exact⟨List.mem_cons_self ..,e⟩
  ·obtain⟨f,g⟩:=sw P;exact⟨List.mem_cons_of_mem _ f,g⟩
def zo{d:Program}{P:Array Oper}:∀{e:List Nat},rf d P e=none->∀b∈e,ft d P b=false
 |[],_,b,a=>by cases a
 |g::h,c,b,a=>by
  unfold rf at c;split at c
  ·cases c
  ·rename_i f
   rcases List.mem_cons.1 a with rfl|a
   ·exact f
   ·exact zo c b a
def FH(P:X.getD a true=false):X.getD a false=false:=by
 rcases Nat.lt_or_ge a X.size with b|b
 ·simp[b]at P⊢;exact P
 ·simp[Array.getElem?_eq_none b]at P
def lD(a:Array Oper)(c:Nat):Nat->Array Bool->Array Bool
 |0,P=>P
 |f+1,P=>match(Region.ready .any a P).find? (λb=>!Nat.beq b c)with
  |some b=>lD a c f (P.setIfInBounds b true)
  |none=>P
def gP(d:Program)(P:Array Oper)(listed:Array Bool)(b:Nat):Bool:=
 (λc:Array Bool=>!c.getD b true&&(Region.ready .any P c).all (λa=>Nat.beq a b)&&
  (List.range P.size).all λa=>!c.getD a false||ft d P a||listed.getD a false) (lD P b P.size listed)
structure t_ (P:Program) (ops:Array Oper) (i:Nat) (listed M:Array Bool):Prop where
 sub:∀k,listed.getD k false=true->M.getD k false=true
 only:∀j∈Region.ready .any ops M,j=i
 still:∀j,j<ops.size->M.getD j false=true->listed.getD j false=false->ft P ops j=true
 size:M.size=listed.size
def pt{ops:Array Oper}{i:Nat}:∀(f:Nat) (P:Array Bool),(lD ops i f P).size=P.size/\∀a,P.getD a false=true->(lD ops i f P).getD a false=true
 |0,P=>⟨rfl,λ_ b=>b⟩
 |f+1,P=>by
  unfold lD;split
  ·rename_i c _
   obtain⟨d,e⟩:=pt (ops:=ops) (i:=i) f (P.setIfInBounds c true);exact⟨by rw[d];simp,λa g=>e a (getD_set_true g)⟩
  ·exact⟨rfl,λ_ b=>b⟩
def Bd{ops:Array Oper}{i:Nat}(P:gP h ops X i=true):∃c,t_ h ops i X c:=by
 unfold gP at P;simp only[Bool.and_eq_true,List.all_eq_true]at P;obtain⟨⟨_,d⟩,e⟩:=P;obtain⟨f,g⟩:=pt (ops:=ops) (i:=i) ops.size X;refine⟨_,g,λa b=>Nat.eq_of_beq_eq_true (d a b),λa b j k=>?_,f⟩;have:=e a (List.mem_range.2 b);rw[j,k]at this;simpa using this
def t_.ready{j:Program}{b:Array Oper}{k:Nat}{P d:Array Bool}(c:t_ j b k P d){a:Nat}(p:a∈Region.ready .any b P)(q:a≠k):
  ft j b a=true/\t_ j b k (P.setIfInBounds a true) d:=by
 obtain⟨l,r,m,s⟩:=mem_ready.1 p;have t:a<b.size:=(Array.getElem?_eq_some_iff.1 m).1;have n:d.getD a false=true:=by
  by_cases e:d.getD a true=false
  ·exact absurd (c.only a (mem_ready.2 ⟨e,r,m,λu v w=>c.sub _ (s u v w)⟩)) q
  ·have x:a<P.size:=by
    rcases Nat.lt_or_ge a P.size with K|K
    ·exact K
    ·simp[Array.getElem?_eq_none K]at l
   have y:a<d.size:=by rw[c.size];exact x
   simp[y]at e⊢;exact e
 have o:P.getD a false=false:=FH l;refine⟨c.still a t n o,λf i=>?_,c.only,λf i e g=>?_,by simp[c.size]⟩
 ·by_cases h:a=f
  ·subst h;exact n
  ·rw[getD_set_ne false h]at i;exact c.sub f i
 ·refine c.still f i e ?_
  by_cases h:a=f
  ·subst h;exact o
  ·rw[getD_set_ne false h]at g;exact g
structure zq (ops:Array Oper) (i:Nat) (listed M:Array Bool):Prop where
 sub:∀k,listed.getD k false=true->M.getD k false=true
 only:∀j∈Region.ready .any ops M,j=i
 size:M.size=listed.size
def pw(a:Array Oper)(P:Array Bool)(b:Nat):Bool:=
 (λc:Array Bool=>(Region.ready .any a c).all (λd=>Nat.beq d b)) (lD a b a.size P)
def FI{ops:Array Oper}{i:Nat}(P:pw ops X i=true):zq ops i X (lD ops i ops.size X):=by
 unfold pw at P;simp only[List.all_eq_true]at P;obtain⟨a,b⟩:=pt (ops:=ops) (i:=i) ops.size X;exact⟨b,λc d=>Nat.eq_of_beq_eq_true (P c d),a⟩
def zq.ready{b:Array Oper}{e:Nat}{P c:Array Bool}(d:zq b e P c){a:Nat}(l:a∈Region.ready .any b P)(m:a≠e):
  c.getD a false=true/\zq b e (P.setIfInBounds a true) c:=by
 obtain⟨n,o,p,q⟩:=mem_ready.1 l;have h:c.getD a false=true:=by
  by_cases f:c.getD a true=false
  ·exact absurd (d.only a (mem_ready.2 ⟨f,o,p,λr s t=>d.sub _ (q r s t)⟩)) m
  ·have u:a<P.size:=by
    rcases Nat.lt_or_ge a P.size with g|g
    ·exact g
    ·simp[Array.getElem?_eq_none g]at n
   have v:a<c.size:=by rw[d.size];exact u
   simp[v]at f⊢;exact f
 refine⟨h,λi j=>?_,d.only,by simp[d.size]⟩
 by_cases k:a=i
 ·subst k;exact h
 ·rw[getD_set_ne false k]at j;exact d.sub i j
def Pp(P:List PanicEntry->Act->World->Prop):Exit->Act->World->Prop:=λa b c=>match a with
 | .panic d=>P d b c
 |_=>False
def Qt(d:Program)(a:Array Oper)(b:Bool)(i:List PanicEntry->Act->World->Prop)(j:Nat->Prop)(h:Act->World->Prop):Nat->(World->Prop)->Array Bool->Act->World->Prop
 |0,_,P,g,e=>Region.ready .any a P=[]/\h g e
 |f+1,m,P,g,e=>(Region.ready .any a P=[]->h g e)/\∀c∈Region.ready .any a P,
  (ft d a c=true->stOp d a e c (λk=>Qt d a b i j h f m (P.setIfInBounds c true) k e) g)/\
  (ft d a c=false->wpOp d a (Pp i) c (λk n=>∃l:World->Prop,(b=true->j c->∀o,l o->m o)/\l n/\Qt d a b i j h f l (P.setIfInBounds c true) k n) g e)
def Np(f:∀g F b,f2 g F b->d2 (.panic g) F b)(P:wpOp h S (Pp f2) a f3 F b):wpOp h S d2 a f3 F b:=by
 unfold wpOp at*;split
 ·rename_i d;simpa only[d]using P
 ·rename_i i d
  simp only[d]at P;split
  ·rename_i e
   simp only[e,if_true]at P;rcases P with P|⟨_,_,_,P⟩
   ·left
    unfold Oper.wp at*;generalize(execOp F.eval i).run h b=j at*
    cases j with
    |ok k l=>
     cases k<;>simp only[Oper.upon]at P⊢<;>
      first
       |exact P
       |exact Calls.mono P (λm o c=>by cases m<;>first|exact c|exact f _ _ _ c|exact c.elim|(obtain⟨_,_,P⟩:=c;exact P.elim))
    |halt n l=>cases n<;>first|exact f _ _ _ P|exact(show False from P).elim
   ·exact P.elim
  ·rename_i e;simp only[e]at P;exact P
def ng{h:Program}{d:Array Oper}{e:Bool}{m:List PanicEntry->Act->World->Prop}{r:Nat->Prop}{n:Act->World->Prop}{i:Exit->Act->World->Prop}(j:∀o b a,m o b a->i (.panic o) b a)(g:∀b a,n b a->i .normal b a):∀(f:Nat) (k:World->Prop) (P:Array Bool) (b:Act) (a:World),
  Qt h d e m r n f k P b a->wpAny h .any d i f P b a
 |0,_,_,_,_,c=>⟨c.1,g _ _ c.2⟩
 |f+1,k,P,b,a,c=>⟨λs=>g _ _ (c.1 s),λp t=>by
   obtain⟨u,v⟩:=c.2 p t
   cases q:ft h d p with
   |true=>exact wpOp_of_stOp (λl c=>ng j g f k _ l a c) (u q)
   |false=>exact Np j (wpOp_mono (λl w ⟨x,_,_,c⟩=>ng j g f x _ l w c) (v q))⟩
section
variable {P:Program} {ops:Array Oper}
def Lj{d h:Oper}(r:ops[a]? =some h)(s:d.apart ops h=true)(u:∀cs k,d.op≠.select cs k)(v:∀cs k,h.op≠.select cs k){n:Act->Prop}(w:∀e,x e->YieldsAt P ops e d t F)(c:stOp P ops b a n (F.put d.dst t)):
  stOp P ops b a (λo=>(∀e,x e->YieldsAt P ops e d t o)/\n (o.put d.dst t)) F:=by
 obtain⟨p,i,q⟩:=Oper.apart_spec s;have j:∀g,∀e,x e->YieldsAt P ops e d t (F.put h.dst g):=λg e y=>
  (w e y).of_same (execOp_put d u F h.dst g q) (wanted_put d F h.dst g q)
 unfold stOp at*;simp only[r]at*;rw[wanted_put h F d.dst t p]at c;split
 ·rename_i l
  simp only[l,if_true]at c;unfold Oper.still at*;rw[execOp_put h v F d.dst t p]at c;generalize(execOp F.eval h).run P b=z at*
  cases z with
  |ok A B=>
   cases A<;>simp only[Oper.stillUpon]at c⊢
   case value g=>exact⟨c.1,j g,by rw[<-Act.put_comm F t g i];exact c.2⟩
   case skip=>exact⟨c.1,j _,by rw[<-Act.put_comm F t undef i];exact c.2⟩
   case enter f args=>obtain⟨m,g,C,E⟩:=c;exact⟨m,g,C,j g,by rw[<-Act.put_comm F t g i];exact E⟩
  |halt e B=>simp only[Oper.stillUpon]at c
 ·rename_i l
  simp only[l]at c;exact⟨j _,by rw[<-Act.put_comm F t undef i];exact c⟩
def Lk{g h:Oper}(u:∀o F b,f2 o (F.put g.dst t) b->f2 o F b)(B:ops[a]? =some h)(C:g.apart ops h=true)(v:∀cs p,g.op≠.select cs p)(E:∀cs p,h.op≠.select cs p)(w:∀c,x c->YieldsAt P ops c g t F)(e:wpOp P ops (Pp f2) a f3 (F.put g.dst t) b):
  wpOp P ops (Pp f2) a (λy q=>(∀c,x c->YieldsAt P ops c g t y)/\f3 (y.put g.dst t) q) F b:=by
 obtain⟨z,k,n⟩:=Oper.apart_spec C;have l:∀d,∀c,x c->YieldsAt P ops c g t (F.put h.dst d):=λd c r=>
  (w c r).of_same (execOp_put g v F h.dst d n) (wanted_put g F h.dst d n)
 have i:∀m d,∀c,x c->YieldsAt P ops c g t (({F with defers:=m::F.defers}:Act).put h.dst d):=λm d c r=>
  (show YieldsAt P ops c g t {F with defers:=m::F.defers}from w c r).of_same (execOp_put g v _ h.dst d n) (wanted_put g _ h.dst d n)
 unfold wpOp at*;simp only[B]at*;rw[wanted_put h F g.dst t z]at e;split
 ·rename_i s
  simp only[s,if_true]at e;rcases e with e|⟨_,_,_,e⟩
  ·left
   unfold Oper.wp at*;rw[execOp_put h E F g.dst t z]at e;generalize(execOp F.eval h).run P b=A at*
   cases A with
   |ok H q=>
    cases H<;>simp only[Oper.upon]at e⊢
    case value d=>exact⟨l d,by rw[<-Act.put_comm F t d k];exact e⟩
    case skip=>exact⟨l _,by rw[<-Act.put_comm F t undef k];exact e⟩
    case defer m=>exact⟨i m _,by rw[<-Act.put_comm _ t undef k,<-Act.put_defers];exact e⟩
    case enter f args=>
     refine Calls.mono e λI J j=>?_
     cases I with
     |returned d=>exact⟨l d,by rw[<-Act.put_comm F t d k];exact j⟩
     |panicked o=>exact u _ _ _ j
     |outgrown=>obtain⟨_,_,j⟩:=j;exact j.elim
    case row A args=>exact Rows.mono e λd J j=>⟨l d,by rw[<-Act.put_comm F t d k];exact j⟩
   |halt c q=>cases c<;>first|exact u _ _ _ e|exact(show False from e).elim
  ·exact e.elim
 ·rename_i s
  simp only[s]at e;exact⟨l _,by rw[<-Act.put_comm F t undef k];exact e⟩
def ub{b:Bool}{k:List PanicEntry->Act->World->Prop}{l m:Nat->Prop}(g:∀n,l n->m n){o:Act->World->Prop}:∀(f:Nat) (d:World->Prop) (a:Array Bool) (h:Act) (e:World),
  Qt P ops b k m o f d a h e->Qt P ops b k l o f d a h e
 |0,_,_,_,_,c=>c
 |f+1,d,a,h,e,c=>⟨c.1,λq r=>by
   obtain⟨s,t⟩:=c.2 q r;refine⟨λi=>stOp_mono (λj c=>ub g f d _ j e c) (s i),λi=>wpOp_mono (λj u ⟨p,v,w,x⟩=>⟨p,λy z=>v y (g _ z),w,ub g f p _ j u x⟩) (t i)⟩⟩
def qi(N:∀c,f c->a6 c)(hE:∀T o h,f2 T (o.put O.dst t) h->f2 T o h)(I:ops[a]? =some O)(U:ft P ops a=true)(J:∀(c:Nat) (V:Oper) cs l,ops[c]? =some V->V.op≠.select cs l)(K:World->Prop):
  ∀(w:Nat) (p:World->Prop) (b:Array Bool) (o:Act) (h:World),
   (∀c q,ops[c]? =some q->c≠a->b.getD c true=false->(∀j∈q.after,Region.binds .any j=true->j.on≠a)->O.apart ops q=true)->
   a∈Region.ready .any ops b->(∀g,K g->YieldsAt P ops g O t o)->K h->p h->
   ((∀g,K g)\/(L=true/\(∀g,p g->K g)/\((∀c,a6 c)\/∃i,zq ops a b i/\∀c,i.getD c false=true->a6 c))\/∃i,t_ P ops a b i)->
   Qt P ops L f2 a6 f3 w p (b.setIfInBounds a true) (o.put O.dst t) h->Qt P ops L f2 f f3 (w+1) p b o h:=by
 intro w
 induction w with
 |zero=>
  intro p b o h _ m x u W _ y;refine⟨λd=>(by rw[d]at m;cases m),λc n=>?_⟩
  by_cases e:c=a
  ·subst e;exact⟨λ_=>(x h u).stOp I (ub N _ _ _ _ _ y),λd=>(by rw[U]at d;cases d)⟩
  ·have:=ready_mono n e
   rw[y.1]at this
   cases this
 |succ w Q=>
  intro p b o h X m x u W Y y;refine⟨λd=>(by rw[d]at m;cases m),λc n=>?_⟩
  by_cases e:c=a
  ·subst e;exact⟨λ_=>(x h u).stOp I (ub N _ _ _ _ _ y),λd=>(by rw[U]at d;cases d)⟩
  ·obtain⟨hS,hT⟩:=y.2 c (ready_mono n e)
   obtain⟨Z,q,z,a4⟩:=mem_ready.1 n;have a5:∀j∈q.after,Region.binds .any j=true->j.on≠a:=λj he hb b0=>by
    have h1:=a4 j he hb;rw[b0,FH (mem_ready.1 m).1]at h1
    cases h1
   have a0:=X c q z e Z a5;have R:∀v A,ops[v]? =some A->v≠a->(b.setIfInBounds c true).getD v true=false->
     (∀j∈A.after,Region.binds .any j=true->j.on≠a)->O.apart ops A=true:=λv A hk b1 a7 b2=>by
    refine X v A hk b1 ?_ b2
    by_cases a8:c=v
    ·subst a8;exact Z
    ·rw[getD_set_ne true a8]at a7;exact a7
   refine⟨λB=>?_,λB=>?_⟩
   ·have k:=Lj z a0 (λcs l=>J a O cs l I) (λcs l=>J c q cs l z) x (hS B)
    refine stOp_mono (λM r=>Q p (b.setIfInBounds c true) M h R (ready_mono m (Ne.symm e)) r.1 u W ?_ ?_) k
    ·rcases Y with d|⟨s,d,k⟩|⟨i,d⟩
     ·exact .inl d
     ·exact .inr (.inl ⟨s,d,k.imp id λ⟨i,C,E⟩=>⟨i,(C.ready n e).2,E⟩⟩)
     ·exact .inr (.inr ⟨i,(d.ready n e).2⟩)
    ·rw[Array.setIfInBounds_comm _ _ e]
     exact r.2
   ·have k:=Lk hE z a0 (λcs l=>J a O cs l I) (λcs l=>J c q cs l z) x (hT B)
    refine wpOp_mono (λM w' r=>?_) k;obtain⟨r,F,S,H,hM⟩:=r;have a1:L=true->f c->∀g,F g->p g:=λs u=>S s (N _ u);rcases Y with d|⟨s,d,k⟩|⟨i,d⟩
    ·exact⟨F,a1,H,Q F (b.setIfInBounds c true) M w' R (ready_mono m (Ne.symm e)) r (d _) H (.inl d) (by rw[Array.setIfInBounds_comm _ _ e];exact hM)⟩
    ·have a9:a6 c:=by
      rcases k with k|⟨i,C,E⟩
      ·exact k c
      ·exact E c (C.ready n e).1
     exact⟨F,a1,H,Q F (b.setIfInBounds c true) M w' R (ready_mono m (Ne.symm e)) r (d _ (S s a9 _ H)) H (.inr (.inl ⟨s,λg hx=>d g (S s a9 g hx),k.imp id λ⟨i,C,E⟩=>⟨i,(C.ready n e).2,E⟩⟩)) (by rw[Array.setIfInBounds_comm _ _ e];exact hM)⟩
    ·rw[(d.ready n e).1]at B;cases B
end
def SB(P:Bool)(b:Nat->Prop)(c:Value)(a:Prop):Prop:=match P with
 |false=>a
 |true=>match c with
  | .pointer (some d)=>¬b d.block/\a
  |_=>False
def jg(P:Bool)(c:Nat->Prop)(b:World):World->Prop:=match P with
 |true=>λa=>ak c b a
 |false=>λa=>a=b
def Rt(P:Bool)(f:Nat->Prop)(c:Program)(d:Sem Value)(a:World)(e:Value):Prop:=match P with
 |true=>∀b,ak f a b->d.run c b= .ok e b
 |false=>d.run c a= .ok e a
def Qu(P:Bool)(b:Nat->Prop)(c d:World)(a:Prop):Prop:=match P with
 |true=>ak b c d/\a
 |false=>a
def Pq(b:Program)(c:bU)(d:Oper)(f:Bool)(k:Nat->Prop)(g:cQ->Prop)(P:cQ)(l:World):Prop:=
 match d.op with
 | .load e m=>eR (known b e) (SB f k (ev c P m) (nE b e (ev c P m) l λa=>g (bX P d.dst a)))
 | .indexAddr e h i=>eR (fX b e) (Pl b e (ev c P h) (ev c P i) λa=>g (bX P d.dst a))
 | .slice e h o p q=>eR (fX b e) (Pm b e (ev c P h) (o.map (ev c P)) (p.map (ev c P)) (q.map (ev c P)) λa=>g (bX P d.dst a))
 | .nilCheck h=>Li (ev c P h) λa=>g (bX P d.dst a)
 | .index e h i=>match b.underlying e with
  |some .string=>Dz (ev c P h) (ev c P i) λa=>g (bX P d.dst a)
  |_=>False
 |_=>match Lg (ev c P) d with
  |some j=>match DA b d with
   |true=>ss b d.type λa=>(match kindOf b d with
    |0=>∀n,j.run b n= .ok a n
    |_=>Rt f k b j l a)/\g (bX P d.dst a)
   |false=>match zn b j with
    |some a=>g (bX P d.dst a)
    |none=>False
  |none=>False
def nE.TF(l:∃o,h.underlying g=some o)(P:nE h g (.pointer (some c7)) b V):
  ∃a,(∀c,(∀f m,f.block=c7.block->b.cell? f=some m->c.cell? f=some m)->(Instr.loadAt g (.pointer (some c7))).run h c= .ok a c)/\V a:=by
 unfold nE at P;simp only at P;split at P
 ·rename_i i
  split at P
  ·rename_i y p
   split at P
   ·rename_i q
    obtain⟨j,r,P⟩:=Nl.out P;obtain⟨k,P⟩:=gK.out P;obtain⟨s,n,_⟩:=BM p (by simp[undef]);have t:s.size=j.length:=by
     have:=Nat.eq_of_beq_eq_true q;rw[gM n]at this;simp[this,r]
    refine⟨_,λc d=>?_,P⟩;have u:∀e a,j[e]? =some a->c.cell? (c7.add e)=some a:=λe a v=>
     d _ _ (by unfold Addr.add;split<;>rfl) (by have:=k e a v;simpa using this)
    have w:=run_loadCells_list (P:=h) (w:=c) c7 j u;simp only[Instr.loadAt,Instr.sureAddr,loadVar,Sem.run_bind,Sem.run_pure,Result.andThen_ok,cW h g _ i l,if_true,dm n,t,w]
   ·exact P.elim
  ·exact P.elim
 ·rename_i i
  obtain⟨a,x,P⟩:=Mb.out P;refine⟨a,λc d=>?_,P⟩;have k:c.cell? c7=some a:=d _ _ rfl x;simp[Instr.loadAt,Instr.sureAddr,loadVar,cW h g _ i l,load,Sem.run,k]
def ak.SC(c:ak f b k)(d:¬f c7.block)(P:b.cell? c7=some t):k.cell? c7=some t:=by
 have a:c7.block<b.heap.size:=by
  by_cases a:c7.block<b.heap.size
  ·exact a
  ·unfold World.cell? at P
   rw[show b.heap[c7.block]? =none by simp;omega]at P
   cases P
 unfold World.cell? at P⊢;rw[c.block _ a d];exact P
def Nq(A:Rel a T N F)(B:Region.wanted O (yielded S F.tmps)=true)(P:Pq h T O L f f1 N b):
  ∃c,f1 (bX N O.dst c)/\((∀e,YieldsAt h S e O c F)\/(kindOf h O≠0/\∀e,jg L f b e->YieldsAt h S e O c F)):=by
 have g:∀(o:Sem Value) c e,(∀b,(execOp (ev T N) O).run h b=(o.run h b).andThen λc C=>.ok (.value c) C)->o.run h e= .ok c e->YieldsAt h S e O c F:=by
  intro o c e r i;refine .inl ⟨B,.inl ?_⟩;rw[A.eval,r,i]
  rfl
 unfold Pq at P;split at P
 ·rename_i n e j
  obtain⟨p,P⟩:=eR.out P;have E:kindOf h O≠0:=by simp[kindOf,j]
  have s:∀(k:Addr),ev T N e= .pointer (some k)->(∀d,jg L f b d->∀q t,q.block=k.block->b.cell? q=some t->d.cell? q=some t)->(nE h n (.pointer (some k)) b λc=>f1 (bX N O.dst c))->
    ∃c,f1 (bX N O.dst c)/\((∀e,YieldsAt h S e O c F)\/(kindOf h O≠0/\∀e,jg L f b e->YieldsAt h S e O c F)):=by
   intro k m H P;obtain⟨c,i,P⟩:=nE.TF (known.out p).1 P;exact⟨c,P,.inr ⟨E,λd l=>g (Instr.loadAt n (ev T N e)) c d (λb=>by simp[execOp,j]) (by rw[m];exact i d (H d l))⟩⟩
  unfold SB at P;split at P
  ·have m:∃k,ev T N e= .pointer (some k):=by
    unfold nE at P;split at P
    ·exact⟨_,by assumption⟩
    ·exact P.elim
   obtain⟨k,m⟩:=m;rw[m]at P;exact s k m (λd l q t _ u=>by simp only[jg]at l;rw[l];exact u) P
  ·split at P
   ·rename_i k m
    obtain⟨I,P⟩:=P;exact s k m (λd l q t p u=>by simp only[jg]at l;exact l.SC (by rw[p];exact I) u) (by rw[<-m];exact P)
   ·exact P.elim
 ·rename_i n e v j
  obtain⟨p,P⟩:=eR.out P;obtain⟨c,i,P⟩:=Pl.out (fX.out p) P;exact⟨c,P,.inl λd=>g (Instr.indexAt n (ev T N e) (ev T N v)) c d (λb=>by simp[execOp,j]) (i _)⟩
 ·rename_i n e J K M j
  obtain⟨p,P⟩:=eR.out P;obtain⟨c,i,P⟩:=Pm.out (λN Q=>fX.out p N (.inl Q)) P;exact⟨c,P,.inl λd=>g (Instr.sliceAt n (ev T N e) (J.map (ev T N)) (K.map (ev T N)) (M.map (ev T N))) c d (λb=>by simp[execOp,j]) (i _)⟩
 ·rename_i e j
  unfold Li at P;split at P
  ·rename_i k w
   obtain⟨q,x,rfl,P⟩:=P;exact⟨_,P,.inl λd=>g (.pure (.pointer (some ⟨q,x,none⟩))) _ d (λb=>by simp[execOp,j,w]) rfl⟩
  ·rename_i R first y w
   exact⟨_,P,.inl λd=>g (.pure (.func (.func R) first y)) _ d (λb=>by simp[execOp,j,w]) rfl⟩
  ·exact P.elim
 ·rename_i n e v j
  split at P
  ·rename_i z
   obtain⟨c,i,P⟩:=Dz.out z P;exact⟨c,P,.inl λd=>g (Instr.index n (ev T N e) (ev T N v)) c d (λb=>by simp[execOp,j]) (i _)⟩
  ·exact P.elim
 ·split at P
  ·rename_i o r
   split at P
   ·obtain⟨c,i,P⟩:=ss.out P
    refine⟨c,P,?_⟩;split at i
    ·exact .inl λd=>g o c d (λb=>iB r h b) (i d)
    ·rename_i U
     refine .inr ⟨U,λd l=>g o c d (λb=>iB r h b) ?_⟩
     cases L with
     |true=>exact i d l
     |false=>simp only[jg]at l;rw[l];exact i
   ·split at P
    ·rename_i c i
     exact⟨c,P,.inl λd=>g o c d (λb=>iB r h b) (vA i _)⟩
    ·exact P.elim
  ·exact P.elim
def nh(e:Array Oper)(f:Oper)(g:bU)(b:cQ)(c P:cQ->Prop):Prop:=match f.guard with
 |none=>c b
 |some (h,a)=>match iR e h with
  |none=>False
  |some d=>match get g b d with
   | .bool i=>an i
    (match a with
     |true=>c ((d,.bool true)::b)
     |false=>P ((d,.bool true)::b))
    (match a with
     |true=>P ((d,.bool false)::b)
     |false=>c ((d,.bool false)::b))
   | .tuple _=>P b
   |_=>False
def nH:List Nat->(Nat->Prop)->Prop
 |[],_=>True
 |a::b,P=>match b with
  |[]=>P a
  |_=>P a/\nH b P
def nH.out:∀{l:List Nat} {φ:Nat->Prop},nH l φ->∀b∈l,φ b
 |[],_,_,b,P=>by cases P
 |c::d,φ,a,b,P=>by
  unfold nH at a;split at a
  ·simp only[List.mem_singleton]at P
   subst P;exact a
  ·rcases List.mem_cons.1 P with rfl|P
   ·exact a.1
   ·exact nH.out a.2 b P
def Tf(d:Program)(a:Array Oper)(b:Bool)(P:Array Bool)(c:Nat):Bool:=
 Region.free .any a P c&&(match lC d a c with
  |0=>true
  |_=>match b with
   |true=>true
   |false=>gP d a P c)
def ni(c:Program)(a:Array Oper)(b:Bool)(P:Array Bool)(d:Nat):Bool:=match b with
 |false=>false
 |true=>match lC c a d with
  |0=>false
  |_=>!gP c a P d
def v_(a:Array Oper)(P:Array Bool)(b:Nat)(d:Nat->Bool):Nat->Bool:=match pw a P b with
 |true=>(λM:Array Bool=>λc=>d c||M.getD c false) (lD a b a.size P)
 |false=>λ_=>true
def ud(e:Program)(a:Array Oper)(b:Bool)(P:Array Bool)(c:Nat)(d:Nat->Bool):Nat->Bool:=match ni e a b P c with
 |true=>v_ a P c d
 |false=>d
def It:∀P,f4 P=true->v_ S X a f4 P=true:=by
 intro P b;unfold v_
 cases pw S X a with
 |true=>simp[b]
 |false=>rfl
def Iu:(∀P,v_ S X a f4 P=true)\/∃b,zq S a X b/\∀P,b.getD P false=true->v_ S X a f4 P=true:=by
 unfold v_
 cases c:pw S X a with
 |true=>exact .inr ⟨_,FI c,λP d=>by simp only[d,Bool.or_true]⟩
 |false=>exact .inl λ_=>rfl
def ue(g:Program)(h:bU)(a:Array Oper)(b:Bool)(j:Nat->Prop)(l:List PanicEntry->List Deferred->World->Prop)(k:cQ->List Deferred->World->Prop):(Nat->Bool)->Nat->Array Bool->cQ->List Deferred->World->Prop
 |W,0,P,c,d,e=>eR (Region.ready .any a P).isEmpty (k c d e)
 |W,m+1,P,c,d,e=>match rf g a (Region.ready .any a P)with
  |some f=>eR (Tf g a b P f) (match a[f]? with
   |none=>False
   |some i=>nh a i h c (λc=>Pq g h i (ni g a b P f) j (λc=>ue g h a b j l k (ud g a b P f W) m (P.setIfInBounds f true) c d e) c e)
     (λc=>ue g h a b j l k W m (P.setIfInBounds f true) (bX c i.dst undef) d e))
  |none=>match Region.ready .any a P with
   |[]=>k c d e
   |o=>nH o λf=>match a[f]? with
    |none=>False
    |some i=>nh a i h c (λc=>Po g a h i (λp _ _ d e=>match p with
     | .panic q=>l q d e
     |_=>False) (λc d n=>Qu (b&&W f) j e n (ue g h a b j l k W m (P.setIfInBounds f true) c d n)) c d e)
     (λc=>ue g h a b j l k W m (P.setIfInBounds f true) (bX c i.dst undef) d e)
def nh.out{e c:cQ->Prop}(r:∀o f,iR S o=some f->f<a)(i:Rel a T N F)(P:nh S O T N e c):
  ∃j,Rel a T j F/\(∀g,get T j g=get T N g)/\((Region.wanted O (yielded S F.tmps)=true/\e j)\/(Region.wanted O (yielded S F.tmps)=false/\c j)):=by
 unfold nh at P;split at P
 ·rename_i k
  exact⟨N,i,λ_=>rfl,.inl ⟨by simp[Region.wanted,k],P⟩⟩
 ·rename_i o b k
  split at P
  ·exact P.elim
  ·rename_i f q
   have d:=nd i q (r o f q);split at P
   ·rename_i l h
    rw[h]at d;simp only at d;have p:Region.wanted O (yielded S F.tmps)=(l==b):=by
     simp only[Region.wanted,k,d]
     cases l<;>cases b<;>rfl
    rw[p];have m:=i.again h;have n:∀g,get T ((f,.bool l)::N) g=get T N g:=qh h
    cases l<;>cases b<;>simp only[an]at P
    ·exact⟨_,m,n,.inl ⟨rfl,P⟩⟩
    ·exact⟨_,m,n,.inr ⟨rfl,P⟩⟩
    ·exact⟨_,m,n,.inr ⟨rfl,P⟩⟩
    ·exact⟨_,m,n,.inl ⟨rfl,P⟩⟩
   ·rename_i s h
    rw[h]at d;simp only at d;have p:Region.wanted O (yielded S F.tmps)=false:=by
     simp[Region.wanted,k,d]
    exact⟨N,i,λ_=>rfl,.inr ⟨p,P⟩⟩
   ·exact P.elim
def jg.refl(P:Bool)(b:Nat->Prop)(a:World):jg P b a a:=by
 cases P with
 |true=>exact⟨rfl,rfl,rfl,Nat.le_refl _,λ_ _ _=>rfl⟩
 |false=>rfl
def ak.chain(P:ak f b k)(a:ak f k a8):ak f b a8:=
 ⟨a.os.trans P.os,a.tape.trans P.tape,a.output.trans P.output,Nat.le_trans P.size a.size,λc d e=>(a.block c (Nat.lt_of_lt_of_le d P.size) e).trans (P.block c d e)⟩
def zr(d:Nat)(e:bU)(f:cQ)(g:List Nat)(h:gN):List PanicEntry->Act->World->Prop:=λi c j=>
 (∃P a,Rel d P a c/\(∀b,b∉g->get P a b=get e f b))/\∀P a,h (.panic i) P a c.defers j
def zr.SD{b:Option Tmp}(i:∀P,b=some P->P∈b2)(e:List PanicEntry)(c:Act)(f:World)(d:zr a T N b2 b8 e (c.put b t) f):zr a T N b2 b8 e c f:=by
 obtain⟨⟨l,m,g,j⟩,d⟩:=d;refine⟨⟨λP=>c.tmps.getD P undef,[],⟨?_,λP=>rfl⟩,λP h=>?_⟩,by simpa[put_defers]using d⟩
 ·have:=g.size
  cases b<;>simpa[Act.put]using this
 ·rw[<-j P h,<-g.slot]
  cases b with
  |none=>rfl
  |some b=>
   have k:b≠P:=by rintro rfl;exact h (i b rfl)
   show _=(c.tmps.setIfInBounds b t).getD P undef;simp only[Array.getD_eq_getD_getElem?];rw[Array.getElem?_setIfInBounds_ne k];simp[aw.get]
def zr.post(b:List PanicEntry)(c:Act)(d:World)(P:zr a T N b2 b8 b c d):dd a T N b2 b8 (.panic b) c d:=by
 obtain⟨⟨e,f,g,h⟩,P⟩:=P;exact⟨e,f,g,h,P e f⟩
def kO{j:Program}{x:Nat}{m B0:bU}{e0:cQ}{W:List Nat}{a:Array Oper}{b:Bool}{y:Nat->Prop}{K:gN}(z:∀o c,iR a o=some c->c<x)(s:Region.noSelect a=true)(t:∀f∈a.toList,∀r,f.dst=some r->r<x/\r∈W):
  ∀(V:Nat->Bool) (p:Nat) (P:Array Bool) (k:cQ) (i:Act) (g:World),Rel x m k i->(∀c,c∉W->get m k c=get B0 e0 c)->
   ue j m a b y (λE Y g=>∀m k,K (.panic E) m k Y g) (λk Y g=>K .normal m k Y g) V p P k i.defers g->Qt j a b (zr x B0 e0 W K) (λo=>V o=true) (dd x B0 e0 W K .normal) p (jg b y g) P i g
 |V,0,P,k,i,g,N,A,d=>by
  obtain⟨L,O⟩:=eR.out d;exact⟨by simpa using L,m,k,N,A,O⟩
 |V,p+1,P,k,i,g,N,A,d=>by
  have S:∀{e:Nat} {f:Oper},a[e]? =some f->∀(n:Value) (E:List PanicEntry) (i:Act) (g:World),zr x B0 e0 W K E (i.put f.dst n) g->zr x B0 e0 W K E i g:=by
   intro e f h n E i g;have M:f∈a.toList:=by
    obtain⟨b0,rfl⟩:=Array.getElem?_eq_some_iff.1 h;simp
   exact zr.SD (λc u=>(t f M c u).2) E i g
  have a5:∀{e:Nat} {f:Oper},a[e]? =some f->(∀r,f.dst=some r->r<x)/\∀(k:cQ),(∀c,c∉W->get m k c=get B0 e0 c)->∀n c,c∉W->get m (bX k f.dst n) c=get B0 e0 c:=by
   intro e f h;have M:f∈a.toList:=by
    obtain⟨b0,rfl⟩:=Array.getElem?_eq_some_iff.1 h;simp
   refine⟨λr v=>(t f M r v).1,λk A n c u=>?_⟩
   cases v:f.dst with
   |none=>exact A c u
   |some r=>
    have b1:=(t f M r v).2;show get m ((r,n)::k) c=_;rw[dR,if_neg (by rintro rfl;exact u b1)];exact A c u
  unfold ue at d;split at d
  ·rename_i e F
   obtain⟨T,U⟩:=sw F;obtain⟨a6,d⟩:=eR.out d;split at d
   ·exact d.elim
   ·rename_i f h
    obtain⟨v,H⟩:=a5 h;simp only[Tf,Bool.and_eq_true]at a6;obtain⟨b2,Z⟩:=a6;have X:=Region.free_spec h b2;obtain⟨q,l,a3,a0⟩:=nh.out z N d;have B:∀c,c∉W->get m q c=get B0 e0 c:=λc u=>(a3 c).trans (A c u);rcases a0 with⟨I,d⟩|⟨I,d⟩
    ·obtain⟨n,w,C⟩:=Nq l I d
     have a1:∀o,V o=true->ud j a b P e V o=true:=by
      intro o hj;unfold ud
      cases ni j a b P e with
      |true=>exact It o hj
      |false=>exact hj
     have next:=kO z s t (ud j a b P e V) p (P.setIfInBounds e true) (bX q f.dst n) (i.put f.dst n) g (l.put _ v _) (H q B n) (by rw[put_defers];exact w);rcases C with C|⟨Q,C⟩
     ·exact qi a1 (S h _) h U (Region.noSelect_spec s) (λ_=>True) p _ P i g X T (λa2 _=>C a2) trivial (jg.refl ..) (.inl λ_=>trivial) next
     ·have a7:lC j a e=kindOf j f:=by simp[lC,h]
      rw[a7]at Z;have b3:(ni j a b P e=true/\b=true)\/(ni j a b P e=false/\gP j a P e=true):=by
       cases b with
       |false=>
        right;refine⟨rfl,?_⟩;split at Z
        ·rename_i R;exact absurd R Q
        ·simpa using Z
       |true=>
        have M:ni j a true P e= !gP j a P e:=by
         unfold ni;rw[a7];generalize kindOf j f=a8 at Q
         cases a8 with
         |zero=>exact absurd rfl Q
         |succ a8=>rfl
        rw[M]
        cases hb:gP j a P e with
        |true=>right;simp
        |false=>left;simp
      rcases b3 with⟨L,O⟩|⟨L,O⟩
      ·rw[L]at C
       subst O;have hg:(∀o,ud j a true P e V o=true)\/∃a9,zq a e P a9/\∀o,a9.getD o false=true->ud j a true P e V o=true:=by
        unfold ud;rw[L];exact Iu
       exact qi a1 (S h _) h U (Region.noSelect_spec s) (jg true y g) p _ P i g X T C (jg.refl ..) (jg.refl ..) (.inr (.inl ⟨rfl,λ_ d=>d,hg⟩)) next
      ·rw[L]at C
       exact qi a1 (S h _) h U (Region.noSelect_spec s) (jg false y g) p _ P i g X T C (jg.refl ..) (jg.refl ..) (.inr (.inr (Bd O))) next
    ·have next:=kO z s t V p (P.setIfInBounds e true) (bX q f.dst undef) (i.put f.dst undef) g (l.put _ v _) (H q B _) (by rw[put_defers];exact d)
     exact qi (λ_ d=>d) (S h _) h U (Region.noSelect_spec s) (λ_=>True) p _ P i g X T (λa2 _=>.inr ⟨I,rfl⟩) trivial (jg.refl ..) (.inl λ_=>trivial) next
  ·rename_i hn
   have b4:=zo hn;split at d
   ·rename_i R
    exact⟨λ_=>⟨m,k,N,A,d⟩,λe F=>(by rw[R]at F;cases F)⟩
   ·rename_i b5
    refine⟨λR=>absurd R (by simpa using b5),λe F=>⟨λhs=>(by rw[b4 e F]at hs;cases hs),λ_=>?_⟩⟩;have d:=nH.out d e F;split at d
    ·exact d.elim
    ·rename_i f h
     obtain⟨v,H⟩:=a5 h;obtain⟨q,l,a3,a0⟩:=nh.out z N d;have B:∀c,c∉W->get m q c=get B0 e0 c:=λc u=>(a3 c).trans (A c u);unfold wpOp;simp only[h];rcases a0 with⟨I,d⟩|⟨I,d⟩
     ·rw[if_pos I]
      refine .inl (Is l v d (λn a' J a4 w=>?_) λE J hq=>⟨⟨m,q,l,B⟩,hq⟩)
      cases b with
      |true=>
       cases hV:V e with
       |true=>
        rw[hV]at w;obtain⟨Q,w⟩:=w;exact⟨jg true y J,λ_ _ a2 hx=>Q.chain hx,jg.refl ..,kO z s t V p _ _ a' J a4 (H q B n) w⟩
       |false=>
        rw[hV]at w;exact⟨jg true y J,λ_ d=>(by cases d),jg.refl ..,kO z s t V p _ _ a' J a4 (H q B n) w⟩
      |false=>exact⟨jg false y J,λd=>(by cases d),jg.refl ..,kO z s t V p _ _ a' J a4 (H q B n) w⟩
     ·rw[if_neg (by rw[I];simp)]
      exact⟨jg b y g,λ_ _ _ d=>d,jg.refl ..,kO z s t V p _ _ (i.put f.dst undef) g (l.put _ v _) (H q B _) (by rw[put_defers];exact d)⟩
structure gw where
 aN:List Nat
 Ru:List Nat
 kinds:List Nat
def bit(P:Nat):Nat:=Nat.shiftLeft 1 P
def JQ(b:Oper):Nat:=b.after.foldl (λP a=>match Region.binds .any a with|true=>Nat.lor P (bit a.on)|false=>P) 0
def Iv(P:Array Oper)(a:Nat):Nat:=(List.range P.size).foldl (λc b=>match Nat.beq b a||(match P[a]?,P[b]? with
 |some B,some d=>d.after.any (λe=>Region.binds .any e&&e.on==a)||B.apart P d
 |_,none=>true
 |none,_=>false)with|true=>Nat.lor c (bit b)|false=>c) 0
def Ll:List Nat->List Nat->Bool
 |[],[]=>true
 |a::P,b::c=>Nat.beq a b&&Ll P c
 |_,_=>false
def gw.ok(b:Program)(P:Array Oper)(a:gw):Bool:=
 Ll a.aN (P.toList.map JQ)&&Ll a.Ru ((List.range P.size).map (Iv P))&&Ll a.kinds (P.toList.map (kindOf b))
def hasB(P a:Nat):Bool:=Nat.testBit P a
def gQ(a:gw)(c b:Nat):List Nat:=(List.range c).filter λP=>!hasB b P&&Nat.beq (Nat.land (a.aN.getD P 0) b) (a.aN.getD P 0)
def DE(P:gw)(a:Nat):Bool:=!Nat.beq (P.kinds.getD a 2) 2
def FJ(P:gw):List Nat->Option Nat
 |[]=>none
 |a::b=>match DE P a with
  |true=>some a
  |false=>FJ P b
def vB(b:gw)(c d:Nat):Nat->Nat->Nat
 |0,P=>P
 |f+1,P=>match(gQ b c P).find? (λa=>!Nat.beq a d)with
  |some a=>vB b c d f (Nat.lor P (bit a))
  |none=>P
def wg(P a:Nat):(bit P).testBit a=decide (P=a):=by
 unfold bit;show(1<<<P).testBit a=_;rw[Nat.one_shiftLeft,Nat.testBit_two_pow]
def nj{f:Type}(b:f->Bool)(c:f->Nat)(a:Nat):∀(d:List f) (P:Nat),(d.foldl (λP e=>match b e with|true=>Nat.lor P (bit (c e))|false=>P) P).testBit a=(P.testBit a||d.any λe=>b e&&c e==a)
 |[],P=>by simp
 |e::d,P=>by
  rw[List.foldl_cons,nj b c a d]
  cases g:b e with
  |false=>simp[g]
  |true=>
   simp only[g,List.any_cons,Bool.true_and];show((P|||bit (c e)).testBit a||_)=_;rw[Nat.testBit_or,wg,Bool.or_assoc]
   congr 2
def wh(b:Oper)(a:Nat):(JQ b).testBit a=b.after.any λP=>Region.binds .any P&&P.on==a:=by
 unfold JQ;rw[<-Array.foldl_toList,nj (λP=>Region.binds .any P) (λP=>P.on) a];simp
def land_eq:Nat.beq (Nat.land a c) a=true↔∀P,a.testBit P=true->c.testBit P=true:=by
 constructor
 ·intro b P d
  have b:=Nat.eq_of_beq_eq_true b;have:(a&&&c).testBit P=true:=by
   show(Nat.land a c).testBit P=true;rw[b];exact d
  rw[Nat.testBit_and]at this;simp at this;exact this.2
 ·intro b
  have:a&&&c=a:=by
   apply Nat.eq_of_testBit_eq;intro P;rw[Nat.testBit_and]
   cases e:a.testBit P with
   |false=>rfl
   |true=>rw[b P e];rfl
  show Nat.beq (a&&&c) a=true;rw[this];exact Nat.beq_refl a
def Ll.out:∀{l b:List Nat},Ll l b=true->l=b
 |[],[],_=>rfl
 |[],_::_,P=>by cases P
 |_::_,[],P=>by cases P
 |a::l,c::b,P=>by
  simp only[Ll,Bool.and_eq_true]at P;rw[Nat.eq_of_beq_eq_true P.1,Ll.out P.2]
structure DF (listed:Array Bool) (n N:Nat):Prop where
 size:listed.size=n
 bit:∀i,listed.getD i false=N.testBit i
def DF.set(P:DF X a c)(e:i<a):DF (X.setIfInBounds i true) a (Nat.lor c (aw.bit i)):=by
 refine⟨by simp[P.size],λb=>?_⟩;show _=(c|||aw.bit i).testBit b;rw[Nat.testBit_or,wg,<-P.bit b]
 by_cases d:i=b
 ·subst d
  have:i<X.size:=by rw[P.size];exact e
  simp[this]
 ·rw[getD_set_ne false d];simp[d]
variable{b5:gw}
def px(f:b5.ok h S=true)(e:DF X S.size a):Region.ready .any S X=gQ b5 S.size a:=by
 unfold gw.ok at f;simp only[Bool.and_eq_true]at f;have k:=Ll.out f.1.1;unfold Region.ready gQ;refine List.filter_congr λP b=>?_;have b:=List.mem_range.1 b;have l:X.getD P true=a.testBit P:=by
  rw[<-e.bit P];have:P<X.size:=by rw[e.size];exact b
  simp[this]
 have m:b5.aN.getD P 0=JQ S[P]:=by
  rw[k];simp[b]
 rw[l,m,Array.getElem?_eq_getElem b];simp only[Option.map_some,Option.getD_some,hasB]
 congr 1
 rw[Bool.eq_iff_iff,land_eq];rw[Array.all_eq_true_iff_forall_mem];constructor
 ·intro g n j
  rw[wh]at j;obtain⟨c,i,d⟩:=Array.any_eq_true'.1 j;simp only[Bool.and_eq_true,beq_iff_eq]at d;have:=g c i;rw[d.1,e.bit,d.2]at this;simpa using this
 ·intro g c i
  cases d:Region.binds .any c with
  |false=>rfl
  |true=>
   rw[e.bit];have:=g c.on (by rw[wh];exact Array.any_eq_true'.2 ⟨c,i,by simp[d]⟩);simp[this]
def uf(P:b5.ok h S=true)(b:a<S.size):b5.kinds.getD a 2=lC h S a/\DE b5 a=ft h S a:=by
 unfold gw.ok at P;simp only[Bool.and_eq_true]at P;have d:=Ll.out P.2;have c:b5.kinds.getD a 2=lC h S a:=by
  rw[d];unfold lC;rw[Array.getElem?_eq_getElem b];simp[b]
 refine⟨c,?_⟩;unfold DE ft;rw[c];generalize lC h S a=k
 match k with
 |0=>rfl
 |1=>rfl
 |2=>rfl
 |k+3=>rfl
def JR{b:Program}{P:Array Oper}{d:gw}(e:d.ok b P=true):∀(c:List Nat),(∀a∈c,a<P.size)->FJ d c=rf b P c
 |[],_=>rfl
 |a::g,f=>by
  unfold FJ rf;rw[(uf e (f a (List.mem_cons_self ..))).2,JR e g λh i=>f h (List.mem_cons_of_mem _ i)]
  try(cases ft b P a<;>rfl)
def ug(P:i∈gQ b5 a c):i<a:=List.mem_range.1 (List.mem_filter.1 P).1
def uh{i:Program}{a:Array Oper}{e:gw}(g:e.ok i a=true)(c:Nat):∀(f:Nat) {P:Array Bool} {d:Nat},DF P a.size d->DF (lD a c f P) a.size (vB e a.size c f d)
 |0,_,_,b=>b
 |f+1,P,d,b=>by
  unfold lD vB;rw[px g b]
  cases j:(gQ e a.size d).find? (λh=>!Nat.beq h c)with
  |some h=>exact uh g c f (b.set (ug (List.mem_of_find?_eq_some j)))
  |none=>exact b
def uj(b:gw)(a e c:Nat):Bool:=
 (λd:Nat=>!hasB d c&&(gQ b a d).all (λP=>Nat.beq P c)&&(List.range a).all λP=>!hasB d P||DE b P||hasB e P) (vB b a c a e)
def DF.SE(P:DF X a c)(b:i<a):X.getD i true=c.testBit i:=by
 rw[<-P.bit i];have:i<X.size:=by rw[P.size];exact b
 simp[this]
def zt(P:b5.ok h S=true)(d:DF X S.size a)(e:c<S.size):uj b5 S.size a c=gP h S X c:=by
 have b:=uh P c S.size d;unfold uj gP;simp only;rw[px P b,b.SE e]
 congr 1
 rw[Bool.eq_iff_iff,List.all_eq_true,List.all_eq_true];refine forall_congr' λg=>forall_congr' λf=>?_;rw[(uf P (List.mem_range.1 f)).2,b.bit,d.bit]
 rfl
def Nr(a:gw)(b c d:Nat):Bool:=(List.range b).all λP=>hasB (a.Ru.getD d 0) P||hasB c P
def Ps(f:b5.ok h S=true)(l:DF X S.size a)(g:c<S.size):Nr b5 S.size a c=Region.free .any S X c:=by
 unfold gw.ok at f;simp only[Bool.and_eq_true]at f;have m:=Ll.out f.1.2;have d:b5.Ru.getD c 0=Iv S c:=by rw[m];simp[g]
 unfold Nr Region.free;rw[d,Array.getElem?_eq_getElem g];simp only;rw[Bool.eq_iff_iff,List.all_eq_true,List.all_eq_true];refine forall_congr' λP=>forall_congr' λe=>?_;have e:=List.mem_range.1 e;rw[l.SE e,Array.getElem?_eq_getElem e];unfold hasB Iv;rw[nj (λP=>Nat.beq P c||(match S[c]?,S[P]? with
  |some H,some k=>k.after.any (λd=>Region.binds .any d&&d.on==c)||H.apart S k
  |_,none=>true
  |none,_=>false)) (λP=>P) P]
 rw[Nat.zero_testBit,Bool.false_or];have b:∀i:Nat->Bool,((List.range S.size).any λd=>i d&&d==P)=i P:=λi=>by
  rw[Bool.eq_iff_iff,List.any_eq_true];constructor
  ·rintro⟨p,_,j⟩
   simp only[Bool.and_eq_true,beq_iff_eq]at j;rw[<-j.2];exact j.1
  ·intro n
   exact⟨P,List.mem_range.2 e,by simp[n]⟩
 rw[b];simp only[Array.getElem?_eq_getElem g,Array.getElem?_eq_getElem e];have o:(Nat.beq P c)=(P==c):=by rw[Bool.eq_iff_iff,Nat.beq_eq,beq_iff_eq]
 rw[o]
 cases(P==c)<;>cases a.testBit P<;>simp
def TG(a:gw)(P:Bool)(c d b:Nat):Bool:=
 Nr a c d b&&(match a.kinds.getD b 2 with
  |0=>true
  |_=>match P with
   |true=>true
   |false=>uj a c d b)
def JS(a:gw)(P:Bool)(c d b:Nat):Bool:=match P with
 |false=>false
 |true=>match a.kinds.getD b 2 with
  |0=>false
  |_=>!uj a c d b
def Iw(a:gw)(P c b:Nat):Bool:=(λd:Nat=>(gQ a P d).all (λe=>Nat.beq e b)) (vB a P b P c)
def Ns(a:gw)(P b c:Nat)(e:Nat->Bool):Nat->Bool:=match Iw a P b c with
 |true=>(λf:Nat=>λd=>e d||hasB f d) (vB a P c P b)
 |false=>λ_=>true
def Nt(a:gw)(P:Bool)(b c d:Nat)(e:Nat->Bool):Nat->Bool:=match JS a P b c d with
 |true=>Ns a b c d e
 |false=>e
def Nu(P:b5.ok h S=true)(b:DF X S.size a):Iw b5 S.size a c=pw S X c:=by
 have d:=uh P c S.size b;unfold Iw pw;simp only;rw[px P d]
def Pt(P:b5.ok h S=true)(b:DF X S.size a):Ns b5 S.size a c f4=v_ S X c f4:=by
 have d:=uh P c S.size b;unfold Ns v_;rw[Nu P b]
 cases pw S X c
 ·rfl
 ·simp only
  funext j
  rw[d.bit]
  rfl
def ri(k:Program)(i:bU)(a:Array Oper)(c:gw)(h:Nat)(P:Bool)(l:Nat->Prop)(n:List PanicEntry->List Deferred->World->Prop)(m:cQ->List Deferred->World->Prop):(Nat->Bool)->Nat->Nat->cQ->List Deferred->World->Prop
 |W,0,d,b,e,f=>eR (gQ c h d).isEmpty (m b e f)
 |W,o+1,d,b,e,f=>match FJ c (gQ c h d)with
  |some g=>eR (TG c P h d g) (match a[g]? with
   |none=>False
   |some j=>nh a j i b (λb=>Pq k i j (JS c P h d g) l (λb=>ri k i a c h P l n m (Nt c P h d g W) o (Nat.lor d (bit g)) b e f) b f)
     (λb=>ri k i a c h P l n m W o (Nat.lor d (bit g)) (bX b j.dst undef) e f))
  |none=>match gQ c h d with
   |[]=>m b e f
   |q=>nH q λg=>match a[g]? with
    |none=>False
    |some j=>nh a j i b (λb=>Po k a i j (λr _ _ e f=>match r with
     | .panic s=>n s e f
     |_=>False) (λb e p=>Qu (P&&W g) l f p (ri k i a c h P l n m W o (Nat.lor d (bit g)) b e p)) b e f)
     (λb=>ri k i a c h P l n m W o (Nat.lor d (bit g)) (bX b j.dst undef) e f)
def wi{c d:Nat->Prop}:∀{b:List Nat},(∀P∈b,c P=d P)->nH b c=nH b d
 |[],_=>rfl
 |[P],a=>by
  unfold nH;exact a P (List.mem_cons_self ..)
 |P::g::h,a=>by
  unfold nH;rw[a P (List.mem_cons_self ..),wi λe f=>a e (List.mem_cons_of_mem _ f)]
def py{g:Program}{l:bU}{P:Array Oper}{h:gw}(i:h.ok g P=true){b:Bool}{m:Nat->Prop}{n:List PanicEntry->List Deferred->World->Prop}{o:cQ->List Deferred->World->Prop}:∀(W:Nat->Bool) (k:Nat) {a:Array Bool} {f:Nat},DF a P.size f->
  ri g l P h P.size b m n o W k f=ue g l P b m n o W k a
 |W,0,a,f,j=>by
  funext e ds w
  unfold ri ue;rw[px i j]
 |W,k+1,a,f,j=>by
  have p:∀W c,c<P.size->ri g l P h P.size b m n o W k (Nat.lor f (bit c))=ue g l P b m n o W k (a.setIfInBounds c true):=λW c d=>py i W k (j.set d);have r:FJ h (gQ h P.size f)=rf g P (gQ h P.size f):=JR i _ λc d=>ug d
  funext e ds w
  unfold ri ue;rw[px i j,r]
  cases s:rf g P (gQ h P.size f)with
  |some c=>
   have d:c<P.size:=ug (sw s).1;have t:TG h b P.size f c=Tf g P b a c:=by
    unfold TG Tf;rw[Ps i j d,(uf i d).1,zt i j d]
    try(cases lC g P c<;>cases b<;>rfl)
   have q:JS h b P.size f c=ni g P b a c:=by
    unfold JS ni;rw[(uf i d).1,zt i j d]
   have u:Nt h b P.size f c W=ud g P b a c W:=by
    unfold Nt ud;rw[q,Pt i j]
   simp only[t,q,u,p _ c d]
   try(cases P[c]? <;>rfl)
  |none=>
   cases v:gQ h P.size f with
   |nil=>rfl
   |cons x y=>
    simp only;refine wi λc d=>?_;have d:c<P.size:=ug (by rw[v];exact d);simp only[p _ c d]
    try(cases P[c]? <;>rfl)
def QA(a:List (Nat×gw))(P:Nat):Option gw:=match a with
 |[]=>none
 |(b,c)::d=>match Nat.beq b P with
  |true=>some c
  |false=>QA d P
def DF.init(P:Nat):DF (Array.replicate P false) P 0:=⟨by simp,λb=>by
 rw[Nat.zero_testBit]
 by_cases a:b<P
 ·simp[a]
 ·simp[a]⟩
def key:Code->Option Nat
 | .region id _ _=>some id
 | .seq a b=>match key a with
  |some c=>some c
  |none=>key b
 | .cond _ a b=>match key a with
  |some c=>some c
  |none=>key b
 | .block _ P=>key P
 | .loop P=>key P
 | .scope P=>key P
 |_=>none
def BN:List Oper->List Nat
 |[]=>[]
 |a::P=>match a.dst with
  |some b=>b::BN P
  |none=>BN P
def writes:Code->List Nat
 | .region _ a _=>BN a.toList
 | .seq b c=>writes b++writes c
 | .cond _ b c=>writes b++writes c
 | .block _ P=>writes P
 | .loop P=>writes P
 | .scope P=>writes P
 |_=>[]
def jE{b:List Oper}(P:O∈b)(c:O.dst=some a):a∈BN b:=by
 induction b with
 |nil=>cases P
 |cons e f d=>
  unfold BN
  cases P with
  |head=>rw[c];exact List.mem_cons_self ..
  |tail _ P=>split<;>simp[d P]
structure kC where
 loops:List (Nat×List (Nat×Value))
 MV:List (Nat×List (Nat×Value))
 keeps:List Nat
 MU:List Nat
 SF:List (Nat×gw)
def Lm(a:List (Nat×List (Nat×Value)))(P:Option Nat):Option (List (Nat×Value)):=match P with
 |none=>none
 |some P=>match a with
  |[]=>none
  |(b,c)::d=>match Nat.beq b P with
   |true=>some c
   |false=>Lm d (some P)
def Be(a:List Nat)(P:Nat):Bool:=match a with
 |[]=>false
 |d::b=>match Nat.beq d P with
  |true=>true
  |false=>Be b P
def eB(a:List Nat):cQ->(cQ->Prop)->Prop
 |[],P=>P []
 |(b,d)::c,P=>match Be a b with
  |true=>eB a c P
  |false=>eB a c λe=>P ((b,d)::e)
def Fn:List Value->Type->Type
 |[],P=>P
 |z::a,P=>match z with
  | .int _ _=>Int->Fn a P
  | .bool _=>Bool->Fn a P
  | .string _=>ByteArray->Fn a P
  | .slice _ _ _=>Option Addr->Nat->Nat->Fn a P
  | .pointer (some _)=>Nat->Nat->Fn a P
  | .pointer none=>Option Addr->Fn a P
  | .map _=>Option Nat->Fn a P
  |_=>Value->Fn a P
def ap:(a:List Value)->Fn a (World->Prop)->List Value->World->Prop
 |[],P,_,b=>P b
 |z::a,P,c,b=>match c with
  |[]=>False
  |v::c=>match z,P with
   | .int f _,P=>match v with
    | .int g d=>eR (decide (g=f)) (ap a (P d) c b)
    |_=>False
   | .bool _,P=>match v with
    | .bool e=>ap a (P e) c b
    |_=>False
   | .string _,P=>match v with
    | .string h=>ap a (P h) c b
    |_=>False
   | .slice _ _ _,P=>match v with
    | .slice i d j=>ap a (P i d j) c b
    |_=>False
   | .pointer (some _),P=>match v with
    | .pointer (some ⟨e,k,none⟩)=>ap a (P e k) c b
    |_=>False
   | .pointer none,P=>match v with
    | .pointer l=>ap a (P l) c b
    |_=>False
   | .map _,P=>match v with
    | .map m=>ap a (P m) c b
    |_=>False
   | .float _ _,P=>ap a (P v) c b
   | .complex _ _ _,P=>ap a (P v) c b
   | .chan _,P=>ap a (P v) c b
   | .func _ _ _,P=>ap a (P v) c b
   | .nilFunc,P=>ap a (P v) c b
   | .iface _ _,P=>ap a (P v) c b
   | .nilIface,P=>ap a (P v) c b
   | .agg _,P=>ap a (P v) c b
   | .tuple _,P=>ap a (P v) c b
def lE:List Value->(List Value->Prop)->Prop
 |[],a=>a []
 |z::b,a=>match z with
  | .int e _=>∀c,lE b λP=>a (.int e c::P)
  | .bool _=>∀d,lE b λP=>a (.bool d::P)
  | .string _=>∀f,lE b λP=>a (.string f::P)
  | .slice _ _ _=>∀g c h,lE b λP=>a (.slice g c h::P)
  | .pointer (some _)=>∀d i,lE b λP=>a (.pointer (some ⟨d,i,none⟩)::P)
  | .pointer none=>∀j,lE b λP=>a (.pointer j::P)
  | .map _=>∀k,lE b λP=>a (.map k::P)
  |_=>∀l,lE b λP=>a (l::P)
def ap.all:∀{g:List Value} {i:Fn g (World->Prop)} {e:List Value} {j:World} {φ:List Value->Prop},e.length=g.length->ap g i e j->lE g φ->φ e
 |[],i,e,j,φ,h,_,d=>by
  cases e with
  |nil=>exact d
  |cons f e=>simp at h
 |z::g,i,e,j,φ,h,P,d=>by
  cases e with
  |nil=>simp at h
  |cons f e=>
   have b:e.length=g.length:=by simpa using h
   cases z
   case pointer r=>
    cases r with
    |none=>
     simp only[lE]at d
     cases f<;>try exact P.elim
     rename_i a;exact ap.all (φ:=λc=>φ (.pointer a::c)) b P (d a)
    |some _=>
     simp only[lE]at d
     cases f<;>try exact P.elim
     rename_i a
     cases a with
     |none=>exact P.elim
     |some a=>
      obtain⟨l,m,n⟩:=a
      cases n with
      |some n=>exact P.elim
      |none=>exact ap.all (φ:=λc=>φ (.pointer (some ⟨l,m,none⟩)::c)) b P (d l m)
   all_goals simp only[lE]at d
   case int k _=>
    cases f<;>try exact P.elim
    rename_i s o;obtain⟨t,P⟩:=eR.out P;obtain rfl:=of_decide_eq_true t;exact ap.all (φ:=λc=>φ (.int s o::c)) b P (d o)
   case bool=>
    cases f<;>try exact P.elim
    rename_i a;exact ap.all (φ:=λc=>φ (.bool a::c)) b P (d a)
   case string=>
    cases f<;>try exact P.elim
    rename_i a;exact ap.all (φ:=λc=>φ (.string a::c)) b P (d a)
   case slice=>
    cases f<;>try exact P.elim
    rename_i a p q;exact ap.all (φ:=λc=>φ (.slice a p q::c)) b P (d a p q)
   case map=>
    cases f<;>try exact P.elim
    rename_i a;exact ap.all (φ:=λc=>φ (.map a::c)) b P (d a)
   all_goals exact ap.all (φ:=λc=>φ (f::c)) b P (d f)
def FK:Be b2 a=true↔a∈b2:=by
 induction b2 with
 |nil=>simp[Be]
 |cons P c b=>
  unfold Be
  cases h:Nat.beq P a with
  |true=>
   have:=Nat.eq_of_beq_eq_true h;simp[this]
  |false=>
   have:P≠a:=by rintro rfl;simp at h
   simp only[b,List.mem_cons];constructor
   ·exact .inr
   ·rintro(rfl|h)
    ·exact absurd rfl this
    ·exact h
def eB.out{e:List Nat}:∀{l:cQ} {g:cQ->Prop},eB e l g->∃c,(∀a P,P∉e->get a c P=get a l P)/\(∀a P,P∈e->get a c P=a P)/\g c
 |[],g,b=>⟨[],λ_ _ _=>rfl,λ_ _ _=>rfl,b⟩
 |(i,m)::n,g,b=>by
  unfold eB at b;split at b
  ·rename_i h
   have f:i∈e:=FK.1 h;obtain⟨c,j,k,b⟩:=eB.out b;refine⟨c,λa P d=>?_,k,b⟩;rw[j a P d,dR,if_neg (by rintro rfl;exact d f)]
  ·rename_i h
   have f:i∉e:=λf=>by rw[FK.2 f]at h;cases h
   obtain⟨c,j,k,b⟩:=eB.out b;refine⟨(i,m)::c,λa P d=>?_,λa P d=>?_,b⟩
   ·rw[dR,dR,j a P d]
   ·rw[dR,if_neg (by rintro rfl;exact f d),k a P d]
def gR:List (Nat×Value)->List Value
 |[]=>[]
 |(_,P)::a=>P::gR a
def xq(P:bU)(a:cQ):List (Nat×Value)->List Value
 |[]=>[]
 |(b,_)::c=>get P a b::xq P a c
def wj:List (Nat×Value)->List Value->cQ->cQ
 |(a,_)::b,c::d,P=>(a,c)::wj b d P
 |_,_,P=>P
def iS(P:bU)(a:cQ):∀b,(xq P a b).length=(gR b).length
 |[]=>rfl
 |(_,_)::c=>by simp[xq,gR,iS P a c]
def BO(b:bU)(a:Nat->Value)(c:cQ):∀(g:List (Nat×Value)) (P:Nat),(∀h,get b c h=a h)->get b (wj g (g.map λd=>a d.1) c) P=a P
 |[],P,e=>e P
 |(i,k)::f,P,e=>by
  show get b ((i,a i)::wj f (f.map λd=>a d.1) c) P=_;rw[dR];split
  ·rename_i j;rw[j]
  ·exact BO b a c f P e
def xG(P:bU)(a:cQ):∀b,xq P a b=b.map λc=>get P a c.1
 |[]=>rfl
 |(_,_)::d=>by simp[xq,xG P a d]
def zu(P a:List Deferred)(b:Prop):Prop:=match P,a with
 |[],[]=>b
 |P,a=>P=a/\b
def zu.out{P b:List Deferred}(a:zu P b J):P=b/\J:=by
 unfold zu at a;split at a
 ·exact⟨rfl,a⟩
 ·exact a
def zv(e:bU->cQ->List Deferred->World->Prop)(d:gN):gN:=λf P a b c=>match f with
 | .normal=>e P a b c
 | .exit id=>d (.exit id) P a b c
 | .goto g=>d (.goto g) P a b c
 | .ret=>d .ret P a b c
 | .panic h=>d (.panic h) P a b c
 | .outgrown=>False
def vC(id:Nat)(P:gN):gN:=λf a b c d=>match f with
 | .exit e=>match Nat.beq e id with
  |true=>P .normal a b c d
  |false=>P (.exit e) a b c d
 | .normal=>P .normal a b c d
 | .goto g=>P (.goto g) a b c d
 | .ret=>P .ret a b c d
 | .panic h=>P (.panic h) a b c d
 | .outgrown=>False
def DG(P:gN):gN:=λx a b c d=>match x with
 | .goto _=>False
 |x=>P x a b c d
def D(h:Program)(i:kC):Code->gN->bU->cQ->List Deferred->World->Prop
 | .skip,e,c,P,a,b=>e .normal c P a b
 | .label _,e,c,P,a,b=>e .normal c P a b
 | .exit id,e,c,P,a,b=>e (.exit id) c P a b
 | .ret,e,c,P,a,b=>e .ret c P a b
 | .region id d n,e,c,P,a,b=>match n with
  |false=>zl h c d e d.toList (λP a b=>e .normal c P a b) P a b
  |true=>match JP h d.toList with
   |false=>eR (Region.lexB .any d) (rb h c d d.toList (λP=>∀f,bO b f->e .normal c P a f) P b)
   |true=>eR (Region.noSelect d) (match QA i.SF id with
    |none=>match Be i.keeps id with
     |true=>∀f,bO b f->∃g:Nat->Prop,ue h c d true g (λk a b=>∀c P,e (.panic k) c P a b) (λP a b=>e .normal c P a b) (λ_=>!Be i.MU id) d.size (Array.replicate d.size false) P a f
     |false=>∀f,bO b f->ue h c d false (λ_=>False) (λk a b=>∀c P,e (.panic k) c P a b) (λP a b=>e .normal c P a b) (λ_=>true) d.size (Array.replicate d.size false) P a f
    |some s=>eR (s.ok h d) (match Be i.keeps id with
     |true=>∀f,bO b f->∃g:Nat->Prop,ri h c d s d.size true g (λk a b=>∀c P,e (.panic k) c P a b) (λP a b=>e .normal c P a b) (λ_=>!Be i.MU id) d.size 0 P a f
     |false=>∀f,bO b f->ri h c d s d.size false (λ_=>False) (λk a b=>∀c P,e (.panic k) c P a b) (λP a b=>e .normal c P a b) (λ_=>true) d.size 0 P a f))
 | .seq o p,e,c,P,a,b=>match Lm i.MV (key p)with
  |none=>D h i o (zv (λc P a b=>D h i p e c P a b) e) c P a b
  |some g=>∃w:Fn (gR g) (World->Prop),D h i o (zv (λl t m f=>zu m a (ap (gR g) w (xq l t g) f)) e) c P a b/\
    eB (writes o) P λu=>lE (gR g) λq=>∀(l:bU) (f:World),ap (gR g) w q f->D h i p e l (wj g q u) a f
 | .cond j o p,e,c,P,a,b=>match ev c P j with
  | .bool y=>an y (D h i o e c P a b) (D h i p e c P a b)
  |_=>False
 | .block id j,e,c,P,a,b=>D h i j (vC id e) c P a b
 | .scope j,e,c,P,a,b=>D h i j (DG e) c P a b
 | .loop j,e,c,P,a,b=>match Lm i.loops (key j)with
  |none=>False
  |some g=>∃v:Nat->Fn (gR g) (World->Prop),(∃r,ap (gR g) (v r) (xq c P g) b)/\
    ∀r,eB (writes j) P λu=>lE (gR g) λq=>∀(l:bU) (f:World),ap (gR g) (v r) q f->
     D h i j (zv (λl t m f=>zu m a (∃x,x<r/\ap (gR g) (v x) (xq l t g) f)) e) l (wj g q u) a f
 |_,_,_,_,_,_=>False
def dd.mono{f g:bU}{h i:cQ}{j e:List Nat}{k l:gN}(o:dd a g i j k e3 F b)(p:∀P,P∈j->P∈e)(q:∀P,P∉e->get g i P=get f h P)(r:∀c d m b,k e3 c d m b->l e3 c d m b):dd a f h e l e3 F b:=by
 obtain⟨c,d,s,t,u⟩:=o;exact⟨c,d,s,λP n=>(t P (λv=>n (p P v))).trans (q P n),r _ _ _ _ u⟩
def FL{f d:bU}{a:Value}{b:Nat}:∀{e:cQ},get f e b=a->d b=a->get d e b=a
 |[],_,P=>P
 |(h,i)::j,P,g=>by
  rw[dR]at P⊢;split
  ·rename_i c;rw[if_pos c]at P;exact P
  ·rename_i c;rw[if_neg c]at P;exact FL P g
def uk{n:Nat}{B0:bU}{f b:cQ}(d:List (Nat×Value))(g:F.tmps.size=n)(h:∀a P,P∉b2->get a b P=get a f P)(i:∀a P,P∈b2->get a b P=a P)(j:∀P,P∉b2->F.tmps.getD P undef=get B0 f P):
  Rel n (λP=>F.tmps.getD P undef) (wj d (d.map λk=>F.tmps.getD k.1 undef) b) F:=by
 refine⟨g,λP=>(BO _ (λP=>F.tmps.getD P undef) b d P λc=>?_).symm⟩
 by_cases e:c∈b2
 ·rw[i _ c e]
 ·rw[h _ c e]
  exact FL (j c e).symm rfl
def mg(c:Rel a T N F):∀P:List (Nat×Value),xq T N P=P.map λb=>F.tmps.getD b.1 undef:=λP=>by
 rw[xG];exact List.map_congr_left λb _=>(c.slot b.1).symm
def jx{f:Program}{c:Array Oper}{g:World->Prop}{h i:Act->Prop}(d:∀P,h P->i P):∀(j:List Oper) (P:Act),wpQuiet f c g h j P->wpQuiet f c g i j P
 |[],P,b=>d P b
 |k::a,P,b=>by
  unfold wpQuiet at b⊢;split
  ·rename_i e
   rw[if_pos e]at b;exact Oper.quiet_mono (jx d a) b
  ·rename_i e
   rw[if_neg e]at b;exact jx d a _ b
variable{e0:kC}
def Rv(O:h.follows .mixedOrders=true):∀(x:Code) (n:gN) (e:bU) (c:cQ) (i:Act) (g:World),
  (∀b,b∈writes x->b<a)->(∀H e c z g,n H e c z g->H≠.outgrown)->Rel a e c i->D h e0 x n e c i.defers g->x.wp h (dd a e c (writes x) n) i g:=by
 intro x
 induction x with
 |skip=>intro n e c i g _ _ k P;exact wp_skip ⟨e,c,k,λ_ _=>rfl,P⟩
 |label Q=>intro n e c i g _ _ k P;exact wp_label ⟨e,c,k,λ_ _=>rfl,P⟩
 |exit id=>intro n e c i g _ _ k P;exact wp_exit ⟨e,c,k,λ_ _=>rfl,P⟩
 |ret=>intro n e c i g _ _ k P;exact wp_ret ⟨e,c,k,λ_ _=>rfl,P⟩
 |goto Q=>intro n e c i g _ _ k P;exact P.elim
 |refuse um=>intro n e c i g _ _ k P;exact P.elim
 |scope x S=>
  intro n e c i g w A k P;refine wp_scope_straight (Code.wp_mono ?_ (S (DG n) e c i g w (by intro o e c z g d L;subst L;exact A _ _ _ _ _ d rfl) k P));intro o p q l;obtain⟨t,s,u,v,d⟩:=l
  cases o with
  |goto Q=>exact d.elim
  |normal=>exact⟨t,s,u,v,d⟩
  |exit id=>exact⟨t,s,u,v,d⟩
  |ret=>exact⟨t,s,u,v,d⟩
  |panic I=>exact⟨t,s,u,v,d⟩
  |outgrown=>exact⟨t,s,u,v,d⟩
 |rangeFunc d4 ps H Z d5 d6=>intro n e c i g _ _ k P;exact P.elim
 |region id m J=>
  intro n e c i g w _ k P;have hl:∀T∈m.toList,∀U,T.dst=some U->U<a/\U∈writes (.region id m J):=λT R U hd=>⟨w U (jE R hd),jE R hd⟩
  have a1:∀a3 b,iR m a3=some b->b<a:=by
   intro a3 b V;unfold iR at V
   cases R:m[a3]? with
   |none=>rw[R]at V;simp at V
   |some T=>
    rw[R]at V;have c2:T∈m.toList:=by
     have:=Array.getElem?_eq_some_iff.1 R;obtain⟨b2,rfl⟩:=this;simp
    exact(hl T c2 b V).1
  cases J with
  |false=>exact wp_region_list (xF a1 m.toList c i g hl k (λ_ _=>rfl) P)
  |true=>
   unfold D at P;simp only at P;split at P
   ·obtain⟨hB,P⟩:=eR.out P
    refine wp_region_quiet (C:=bO g) O hB ⟨1,rfl⟩ ?_;have:=pq (B0:=e) (e0:=c) (W:=writes (.region id m true)) a1 m.toList c i hl k (λ_ _=>rfl) P;refine jx ?_ _ _ this;rintro p ⟨e',a4,a5,c3,d⟩ q a6;exact⟨e,e',a4,c3,by rw[a5];exact d q a6⟩
   ·obtain⟨c4,P⟩:=eR.out P
    have B:∀(K:Bool) (r:Nat->Prop) (a7:Nat->Bool),ue h e m K r (λI z g=>∀e c,n (.panic I) e c z g) (λc z g=>n .normal e c z g) a7 m.size (Array.replicate m.size false) c i.defers (g.drewN 1)->(Code.region id m true).wp h (dd a e c (writes (.region id m true)) n) i g:=λK r a7 P=>
     wp_region_any O (ng (λI i g P=>zr.post I i g P) (λ_ _ P=>P) _ _ _ _ _ (kO (B0:=e) (e0:=c) (W:=writes (.region id m true)) a1 c4 hl a7 _ _ c i _ k (λ_ _=>rfl) P))
    split at P
    ·split at P
     ·obtain⟨r,P⟩:=P _ ⟨1,rfl⟩
      exact B _ r _ P
     ·exact B _ _ _ (P _ ⟨1,rfl⟩)
    ·obtain⟨hM,P⟩:=eR.out P
     split at P
     ·obtain⟨r,P⟩:=P _ ⟨1,rfl⟩
      rw[py hM _ _ (DF.init _)]at P;exact B _ r _ P
     ·have P:=P _ ⟨1,rfl⟩
      rw[py hM _ _ (DF.init _)]at P;exact B _ _ _ P
 |seq H Z C E=>
  intro n e c i g w A k P;have b3:∀b,b∈writes H->b<a:=λb j=>w b (List.mem_append.2 (.inl j));have b4:∀b,b∈writes Z->b<a:=λb j=>w b (List.mem_append.2 (.inr j));have f:∀(W:bU->cQ->List Deferred->World->Prop) (o:Exit) (p:Act) (q:World),o≠.normal->dd a e c (writes H) (zv W n) o p q->dd a e c (writes (H.seq Z)) n o p q:=by
   intro W o p q c5 l;refine l.mono (λb j=>List.mem_append.2 (.inl j)) (λ_ _=>rfl) λt s d7 w1 d=>?_
   cases o with
   |normal=>exact absurd rfl c5
   |outgrown=>exact d.elim
   |_=>exact d
  have b5:∀(W:bU->cQ->List Deferred->World->Prop) o e c z g,zv W n o e c z g->o≠.outgrown:=by
   intro W o e c z g d L;subst L;exact d.elim
  unfold D at P;split at P
  ·have hx:=C _ e c i g b3 (b5 _) k P
   refine wp_seq (Code.wp_mono ?_ hx);intro o p q l
   cases o with
   |normal=>
    obtain⟨t,s,u,v,d⟩:=l;have hy:=E n t s p q b4 A u d;refine Code.wp_mono (λo b6 b7 l=>?_) hy;refine l.mono (λb j=>List.mem_append.2 (.inr j)) (λb j=>v b λO=>j (List.mem_append.2 (.inl O))) λ_ _ _ _ d=>d
   |exit id=>exact f _ _ _ _ (by simp) l
   |goto Q=>exact f _ _ _ _ (by simp) l
   |ret=>exact f _ _ _ _ (by simp) l
   |panic I=>exact f _ _ _ _ (by simp) l
   |outgrown=>exact f _ _ _ _ (by simp) l
  ·rename_i r hS
   obtain⟨d8,P,a8⟩:=P;obtain⟨s,h1,h2,a8⟩:=eB.out a8;have hx:=C _ e c i g b3 (b5 _) k P;refine wp_seq (Code.wp_mono ?_ hx);intro o p q l
   cases o with
   |normal=>
    obtain⟨M,N,y,a0,d⟩:=l;obtain⟨a2,hJ⟩:=zu.out d;have hv:=mg y r;have a9:=iS M N r;have b8:=ap.all a9 hJ a8 (λb=>p.tmps.getD b undef) q hJ;rw[hv,<-a2]at b8;have b9:=uk (n:=a) r y.size h1 h2 (B0:=e) (λb j=>(y.slot b).trans (a0 b j));have hy:=E n _ _ p q b4 A b9 b8;refine Code.wp_mono (λo b6 b7 l=>?_) hy;refine l.mono (λb j=>List.mem_append.2 (.inr j)) (λb j=>?_) λ_ _ _ _ d=>d;rw[<-b9.slot];exact(y.slot b).trans (a0 b λO=>j (List.mem_append.2 (.inl O)))
   |exit id=>exact f _ _ _ _ (by simp) l
   |goto Q=>exact f _ _ _ _ (by simp) l
   |ret=>exact f _ _ _ _ (by simp) l
   |panic I=>exact f _ _ _ _ (by simp) l
   |outgrown=>exact f _ _ _ _ (by simp) l
 |cond x H Z C E=>
  intro n e c i g w A k P;unfold D at P;split at P
  ·rename_i c6 F
   refine wp_cond_split (t:=c6) (by rw[k.eval];exact F) (λj=>?_) (λhf=>?_)
   ·subst j
    refine Code.wp_mono (λo p q l=>?_) (C n e c i g (λb j=>w b (List.mem_append.2 (.inl j))) A k P);exact l.mono (λb j=>List.mem_append.2 (.inl j)) (λ_ _=>rfl) λ_ _ _ _ d=>d
   ·subst hf
    refine Code.wp_mono (λo p q l=>?_) (E n e c i g (λb j=>w b (List.mem_append.2 (.inr j))) A k P);exact l.mono (λb j=>List.mem_append.2 (.inr j)) (λ_ _=>rfl) λ_ _ _ _ d=>d
  ·exact P.elim
 |block id x S=>
  intro n e c i g w A k P;refine wp_block (Code.wp_mono ?_ (S (vC id n) e c i g w (by intro o e c z g d L;subst L;exact d.elim) k P));intro o p q l;obtain⟨t,s,u,v,d⟩:=l
  cases o with
  |exit X=>
   show(if X=id then _ else _);simp only[vC]at d
   cases F:Nat.beq X id with
   |true=>
    rw[F]at d;rw[if_pos (Nat.eq_of_beq_eq_true F)];exact⟨t,s,u,v,d⟩
   |false=>
    rw[F]at d;rw[if_neg (by rintro rfl;simp at F)];exact⟨t,s,u,v,d⟩
  |normal=>exact⟨t,s,u,v,d⟩
  |goto Q=>exact⟨t,s,u,v,d⟩
  |ret=>exact⟨t,s,u,v,d⟩
  |panic I=>exact⟨t,s,u,v,d⟩
  |outgrown=>exact d.elim
 |loop x S=>
  intro n e c i g w A k P;unfold D at P;split at P
  ·exact P.elim
  ·rename_i r hS
   obtain⟨c7,⟨m0,h0⟩,c8⟩:=P;refine wp_loop_ghost (λb0 p q=>p.tmps.size=a/\(∀b,b∉writes x->p.tmps.getD b undef=get e c b)/\p.defers=i.defers/\
    ap (gR r) (c7 b0) (r.map λb1=>p.tmps.getD b1.1 undef) q) m0 ⟨k.size,λb _=>k.slot b,rfl,by rw[<-mg k r];exact h0⟩ ?_
   rintro b0 p q ⟨c9,c0,a2,hI⟩;obtain⟨s,h1,h2,d0⟩:=eB.out (c8 b0);have a9:(r.map λb1=>p.tmps.getD b1.1 undef).length=(gR r).length:=by rw[<-iS e c r,xG];simp
   have F:=ap.all a9 hI d0 (λb=>p.tmps.getD b undef) q hI;have c1:=uk (n:=a) r c9 h1 h2 c0;rw[<-a2]at F;have d1:=S _ _ _ p q w (by intro o e c z g d L;subst L;exact d.elim) c1 F;refine Code.wp_mono ?_ d1;intro o b6 b7 l;obtain⟨M,N,y,a0,d⟩:=l;have Y:∀b,b∉writes x->get M N b=get e c b:=λb j=>(a0 b j).trans ((c1.slot b).symm.trans (c0 b j))
   cases o with
   |normal=>
    obtain⟨d2,m',b2,d3⟩:=zu.out d;refine⟨m',b2,y.size,λb j=>(y.slot b).trans (Y b j),d2.trans a2,?_⟩;rw[<-mg y r];exact d3
   |outgrown=>exact d.elim
   |exit id=>exact⟨M,N,y,Y,d⟩
   |goto Q=>exact⟨M,N,y,Y,d⟩
   |ret=>exact⟨M,N,y,Y,d⟩
   |panic I=>exact⟨M,N,y,Y,d⟩
def FM(P:Program):List ResultVar->bU->cQ->World->(List Value->Prop)->Prop
 |[],_,_,_,a=>a []
 |h::g,b,c,e,a=>match h with
  | .tmp d=>FM P g b c e λf=>a (get b c d::f)
  | .cell i d=>eR (known P d) (nE P d (get b c i) e λj=>FM P g b c e λf=>a (j::f))
def oneOf(P:List Value):Value:=match P with
 |[a]=>a
 |P=>.tuple P.toArray
def Lv(e:Program)(P:World->Prop)(f:List PanicEntry->World->Prop):List Deferred->FrameMode->World->Prop
 |[],.returning,b=>P b
 |[],.panicking a,b=>f a b
 |[],.run,_=>False
 |d::h,i,b=>i≠.run/\∃g c,d.target= .fn (.func g) c/\enters e g=true/\
   CallsD e g (d.args++c) i b λl j k=>Nn l (λ_=>Lv e P f h (settle j) k) (λm=>Lv e P f h (raised j m) k)
def fO(a:Program)(c:Func)(d:bU)(e:cQ)(b:Ending->World->Prop)(f:List Deferred)(g:FrameMode)(P:World):Prop:=
 Lv a (λP=>FM a c.results.toList d e P λh=>b (.returned (oneOf h)) P) (λi P=>b (.panicked i) P) f g P
def OM(P:Program)(a:Func)(b:Ending->World->Prop):gN:=λg c d e f=>match g with
 | .normal=>fO P a c d b e .returning f
 | .ret=>fO P a c d b e .returning f
 | .panic h=>fO P a c d b e (.panicking h) f
 |_=>False
def zy(P:Array Value):ResultVar->Sem Value
 | .tmp a=>pure (P.getD a undef)
 | .cell b a=>do loadVar a (<-asAddr (P.getD b undef))
def pA{d:Program}{l:bU}{m:cQ}{p:Nat}{c:Act}(e:Rel p l m c){b:World}:∀{h:List ResultVar} {f:List Value->Prop},FM d h l m b f->
  ∃g,(h.mapM (zy c.tmps)).run d b=Result.ok g b/\f g
 |[],f,P=>⟨[],by rw[List.mapM_nil];rfl,P⟩
 |q::h,f,P=>by
  unfold FM at P
  cases q with
  |tmp i=>
   obtain⟨g,j,P⟩:=pA e P;refine⟨_,?_,P⟩;rw[List.mapM_cons];simp only[zy,Sem.run_bind,Sem.run_pure,Result.andThen_ok,j,e.slot]
  |cell k i=>
   obtain⟨r,P⟩:=eR.out P;obtain⟨s,t,P⟩:=nE.out (known.out r).1 P;obtain⟨g,j,P⟩:=pA e P;refine⟨_,?_,P⟩;rw[List.mapM_cons];have a:=t b rfl;rw[<-e.slot]at a;have:(zy c.tmps (.cell k i)).run d b= .ok s b:=by
    unfold zy
    cases n:c.tmps.getD k undef<;>rw[n]at a<;>simp only[Instr.loadAt,Instr.sureAddr,stuck,Sem.run_bind,Sem.run_halt,Result.andThen,reduceCtorEq]at a
    rename_i o
    cases o with
    |none=>simp at a
    |some o=>
          show(do loadVar i (<-asAddr (c.tmps.getD k undef)):Sem Value).run d b=_;rw[n];simpa[asAddr]using a
   simp only[Sem.run_bind,this,Sem.run_pure,Result.andThen_ok,j]
def pB(a:(a7.results.toList.mapM (zy F.tmps)).run h b=Result.ok a1 b):(results a7 F.tmps).run h b= .ok (oneOf a1) b:=by
 have c:(a7.results.mapM (zy F.tmps)).run h b=Result.ok a1.toArray b:=by
  rw[Array.mapM_eq_mapM_toList,Sem.run_map,a]
  rfl
 have d:(results a7 F.tmps)=(a7.results.mapM (zy F.tmps)>>=λP=>pure (if a:P.size=1 then P[0]else Value.tuple P)):=by
   unfold results
   congr 2
 rw[d];simp only[Sem.run_bind,c,Result.andThen_ok,Sem.run_pure]
 congr 1
 match a1 with
 |[]=>rfl
 |[v]=>rfl
 |v::e::f=>
  rw[dif_neg (by simp)]
  rfl
def mh{i:Program}{j:Func}{k:bU}{l:cQ}{r:Nat}{m:Act}(f:Rel r k l m){n:Ending->World->Prop}:∀(b:List Deferred) (g:FrameMode) (a:World),
  fO i j k l n b g a->Leaves i j m.tmps n b g a
 |[],.returning,a,P=>by
  obtain⟨C,s,P⟩:=pA f P;exact⟨_,pB s,P⟩
 |[],.panicking t,a,P=>P
 |[],.run,a,P=>P.elim
 |d::b,g,a,P=>by
  obtain⟨u,o,c,p,v,w⟩:=P;refine⟨u,.func o,c,o,d.args++c,p,?_,?_⟩
  ·rw[p];simp only[invoke];exact gO v _ _
  ·intro x cs y
   obtain⟨q,z,A,B,h,e⟩:=w x cs y;refine⟨q,z,A,B,?_,e⟩
   cases q with
   |returned E=>exact mh f b _ _ h
   |panicked t=>exact mh f b _ _ h
   |outgrown=>exact h.elim
def eK:Nat->List Value->cQ
 |_,[]=>[]
 |P,a::b=>(P,a)::eK (P+1) b
def nk:∀(b:List Value) (P a:Nat),get (λ_=>undef) (eK P b) a=if P<=a then b.getD (a-P) undef else undef
 |[],P,a=>by simp[eK,get]
 |v::e,P,a=>by
  rw[eK,dR,nk e (P+1) a]
  by_cases c:P=a
  ·subst c;simp
  ·rw[if_neg c]
   by_cases d:P+1<=a
   ·rw[if_pos d,if_pos (by omega),show a-P=(a-(P+1))+1 from by omega];rfl
   ·rw[if_neg d,if_neg (by omega)]
def s_(P:Nat):List Nat->Bool
 |[]=>true
 |d::a=>match Nat.blt d P with
  |true=>s_ P a
  |false=>false
def jW{c:Nat}:∀{e:List Nat},s_ c e=true->∀P,P∈e->P<c
 |[],_,P,a=>by cases a
 |d::g,b,P,a=>by
  unfold s_ at b;split at b
  ·rename_i f
   cases a with
   |head=>
        have:d+1<=c:=by simpa[Nat.blt]using f
        omega
   |tail _ a=>exact jW b P a
  ·cases b
def qe(f:kC)(g:h.follows .mixedOrders=true)(i:h.funcs[y]? =some a7)(j:a7.body=some a0)(r:n.size<=a7.ntmps)(k:s_ a7.ntmps (writes a0)=true)(l:D h f a0 (OM h a7 z) (λ_=>undef) (eK 0 n.toList) [] b):Calls h y n b z:=by
 refine calls_of_wp_defers i j ?_;have m:Rel a7.ntmps (λ_=>undef) (eK 0 n.toList) {tmps:=n++Array.replicate (a7.ntmps-n.size) undef,defers:=[]}:=by
  refine⟨by simp;omega,λc=>?_⟩;rw[nk,if_pos (Nat.zero_le _),Nat.sub_zero];simp only[Array.getD_eq_getD_getElem?,List.getD_eq_getElem?_getD,Array.getElem?_append,Array.getElem?_toList]
  by_cases d:c<n.size
  ·simp[d]
  ·rw[if_neg d]
   simp only[Array.getElem?_replicate];have:n[c]? =none:=by simp;omega
   rw[this];split<;>rfl
 refine Code.wp_mono ?_ (Rv g a0 (OM h a7 z) _ _ _ b (jW k) (by intro e o p s b P q;subst q;exact P.elim) m l);rintro e t u ⟨o,p,a,_,P⟩
 cases e with
 |normal=>exact mh a _ _ _ P
 |ret=>exact mh a _ _ _ P
 |panic v=>exact mh a _ _ _ P
 |exit id=>exact P.elim
 |goto w=>exact P.elim
 |outgrown=>exact P.elim
def BP(c:Program)(d:Func)(P:Ending->World->Prop):gN:=λg e f a b=>match g with
 | .normal=>(match a with
  |[]=>fO c d e f P [] .returning b
  |_=>False)
 | .ret=>(match a with
  |[]=>fO c d e f P [] .returning b
  |_=>False)
 | .panic h=>(match a with
  |[]=>P (.panicked h) b
  |_=>False)
 |_=>False
def BP.out{P:Program}(k:Rel a T N F)(c:BP P a7 z e3 T N F.defers b):
  F.defers=[]/\((e3= .normal\/e3= .ret)/\(∃d,(results a7 F.tmps).run P b= .ok d b/\z (.returned d) b)\/∃i,e3= .panic i/\z (.panicked i) b):=by
 have e:∀f,F.defers=f->(match f with
  |[]=>fO P a7 T N z [] .returning b
  |_=>False)->f=[]/\∃d,(results a7 F.tmps).run P b= .ok d b/\z (.returned d) b:=by
  intro f j c;split at c
  ·obtain⟨l,m,c⟩:=pA k c
   exact⟨rfl,_,pB m,c⟩
  ·exact c.elim
 unfold BP at c;split at c
 ·obtain⟨g,h⟩:=e _ rfl c
  exact⟨g,.inl ⟨.inl rfl,h⟩⟩
 ·obtain⟨g,h⟩:=e _ rfl c
  exact⟨g,.inl ⟨.inr rfl,h⟩⟩
 ·split at c
  ·rename_i j
   exact⟨j,.inr ⟨_,rfl,c⟩⟩
  ·exact c.elim
 ·exact c.elim
def vD(d:n.size<=a)(c:List Deferred):Rel a (λ_=>undef) (eK 0 n.toList) {tmps:=n++Array.replicate (a-n.size) undef,defers:=c}:=by
 refine⟨by simp;omega,λP=>?_⟩;rw[nk,if_pos (Nat.zero_le _),Nat.sub_zero];simp only[Array.getD_eq_getD_getElem?,List.getD_eq_getElem?_getD,Array.getElem?_append,Array.getElem?_toList]
 by_cases b:P<n.size
 ·simp[b]
 ·rw[if_neg b]
  simp only[Array.getElem?_replicate];have:n[P]? =none:=by simp;omega
  rw[this];split<;>rfl
def ER(f:kC)(g:h.follows .mixedOrders=true)(i:h.funcs[y]? =some a7)(j:a7.body=some a0)(k:n.size<=a7.ntmps)(l:s_ a7.ntmps (writes a0)=true)(P:D h f a0 (BP h a7 z) (λ_=>undef) (eK 0 n.toList) [] b):CallsD h y n a9 b λa m e=>m=a9/\z a e:=by
 refine callsD_of_wp i j (Code.wp_mono ?_ (Rv g a0 (BP h a7 z) _ _ _ b (jW l) (by intro o p a s b c q;subst q;exact c.elim) (vD k []) P));rintro o t e ⟨p,a,r,_,c⟩;obtain⟨d,(⟨rfl|rfl,P⟩|⟨u,rfl,P⟩)⟩:=c.out r
 ·exact⟨d,P⟩
 ·exact⟨d,P⟩
 ·exact⟨d,P⟩
def rN:FrameMode->Value
 | .panicking ({v,recovered:=false,goexit:=false}::_)=>v
 |_=>.nilIface
def gG:FrameMode->FrameMode
 | .panicking ({v,recovered:=false,goexit:=false}::older)=>.panicking ({v,recovered:=true}::older)
 |u=>u
def Ix{a:Frame}{cs:List Frame}(e:a.mode=a9):recoverD (a::cs)=some (rN a9,{a with mode:=gG a9}::cs)\/(recoverD (a::cs)=none/\rN a9= .nilIface/\gG a9=a9):=by
 subst e;unfold recoverD;simp only;split
 ·rename_i b
  left;rw[b]
  rfl
 ·rename_i d
  right;refine⟨rfl,?_,?_⟩
  ·unfold rN
   split
   ·rename_i c P b;exact absurd b (d c P)
   ·rfl
  ·unfold gG
   split
   ·rename_i c P b;exact absurd b (d c P)
   ·rfl
def MB(t:kC){id:Nat}{e:Tmp}{f:Array TypeId}(u:h.follows .mixedOrders=true)(v:h.funcs[y]? =some a7)(w:a7.body=some (.seq (.region id #[O] false) a0))(x:O.op= .call {callee:=.builtin .recover,args:= #[],argTypes:=f})(c:O.dst=some e)(z:O.guard=none)(A:Nat.blt e a7.ntmps=true)(B:n.size<=a7.ntmps)(C:s_ a7.ntmps (writes a0)=true)(d:D h t a0 (BP h a7 λg l=>h9 g (gG a9) l) (λ_=>undef) ((e,rN a9)::eK 0 n.toList) [] b):CallsD h y n a9 b h9:=by
 refine callsD_of_wpS v w λP cs m=>wpS_seq (wpS_region ?_);have E:∀o:Act,(execOp o.eval O).run h b= .ok .recover b:=λo=>by simp[execOp,x,resolve,invoke,builtin]
 have F:∀p,Region.wanted O p=true:=λp=>by simp[Region.wanted,z]
 have H:e+1<=a7.ntmps:=by simpa[Nat.blt]using A
 have q:∀(i:Value) (a:List Frame),i=rN a9->a={P with mode:=gG a9}::cs->
   a0.wpS h (bodyPostS h a7 P cs h9) (({tmps:=n++Array.replicate (a7.ntmps-n.size) undef,defers:=[]}:Act).put O.dst i) a b:=by
  rintro i a rfl rfl;refine wpS_of_wp ?_;have r:=(vD B []).put O.dst (λQ s=>by rw[c]at s;exact(Option.some.inj s)▸H) (rN a9);rw[c]at r⊢;refine Code.wp_mono ?_ (Rv u a0 _ _ _ _ b (jW C) (by intro I J g R b j K;subst K;exact j.elim) r d);rintro I S l ⟨J,g,L,_,j⟩;obtain⟨c,(⟨rfl|rfl,d⟩|⟨T,rfl,d⟩)⟩:=j.out L
  ·exact⟨c,_,rfl,d⟩
  ·exact⟨c,_,rfl,d⟩
  ·exact⟨c,_,rfl,d⟩
 simp only[show(List.range (#[O]:Array Oper).size)=[0]from rfl,wpOpsS,List.getElem?_toArray,List.getElem?_cons_zero,F,if_true,E];rcases Ix (cs:=cs) m with k|⟨k,M,N⟩
 ·rw[k]
  exact q _ _ rfl rfl
 ·rw[k]
  exact q _ _ M.symm (by rw[N,<-m])
def CM(P:IntKind)(a b:Int):Int:=P.wrap (BitVec.ofInt P.bits a&&&BitVec.ofInt P.bits b).toNat
def L_(P:IntKind)(a b:Int):Int:=P.wrap (BitVec.ofInt P.bits a|||BitVec.ofInt P.bits b).toNat
def oO(P:IntKind)(a b:Int):Int:=P.wrap (BitVec.ofInt P.bits a ^^^ BitVec.ofInt P.bits b).toNat
def tQ(P:IntKind)(a b:Int):Int:=P.wrap (BitVec.ofInt P.bits a&&& ~~~BitVec.ofInt P.bits b).toNat
def H_(P:IntKind)(a b:Int):Int:=P.wrap (a*2 ^(min b.toNat P.bits))
def iY(P:IntKind)(a b:Int):Int:=a.fdiv (2 ^(min b.toNat P.bits))
def oM(P:J:=by omega):J:=P
theorem be{p:Prop}(h:p:=by dsimp only;omega):p:=h
theorem bc{p:Prop}(h:p:=by simp;omega):p:=h
def sM(P:J:=by simp):J:=P
def dC(P:J:=by decide):J:=P
def kR(P:J:=by kernel_rfl):J:=P
abbrev Qq:= @List.getElem?_eq_getElem
abbrev Qx:= @Int.toNat_natCast
abbrev Qz:= @List.take_of_length_le
abbrev Qj:= @Nat.zero_le
abbrev Qv:= @List.getElem?_eq_some_iff
abbrev Qw:= @List.take_add_one
abbrev Qk:= @Nat.lt_of_lt_of_le
abbrev Qy:= @List.length_take
abbrev QQ:= @List.getD_eq_getElem?_getD
abbrev QX:= @List.length_append
abbrev QZ:= @List.mem_of_getElem?
abbrev QJ:= @List.mem_cons_of_mem
abbrev QV:= @List.mem_cons_self
abbrev QW:= @List.eq_nil_of_length_eq_zero
abbrev QK:= @Bool.and_eq_true
abbrev QY:= @List.map_cons
abbrev Q0:= @Nat.mul_le_mul_right
abbrev Q1:= @Option.some.injEq
abbrev Q2:= @List.mem_cons
abbrev Q3:= @List.map_append
abbrev Q4:= @Nat.le_refl
abbrev Q5:= @Array.getElem?_eq_some_iff
abbrev Q6:= @List.mem_append
abbrev Q7:= @List.getElem?_eq_none
abbrev Q8:= @List.length_map
abbrev Q9:= @List.getElem?_map
abbrev Xq:= @List.length_cons
abbrev Xx:= @Nat.le_trans
abbrev Xz:= @Nat.zero_add
abbrev Xj:= @List.getElem?_set
abbrev Xv:= @decide_eq_false
abbrev Xw:= @List.getElem?_take
abbrev Xk:= @List.mem_map
abbrev Xy:= @of_decide_eq_false
abbrev XQ:= @List.append_assoc
abbrev XX:= @Value.slice.injEq
abbrev XZ:= @List.length_drop
abbrev XJ:= @Option.some.inj
abbrev XV:= @of_decide_eq_true
abbrev XW:= @List.getElem?_append_left
abbrev XK:= @Array.length_toList
abbrev XY:= @List.getElem_mem
abbrev X2:= @Nat.min_eq_left
abbrev X3:= @List.ext_getElem?
abbrev X4:= @List.drop_eq_getElem_cons
abbrev X6:= @Array.getElem?_eq_getElem
abbrev X7:= @Nat.add_mul
abbrev X8:= @List.getElem?_append_right
abbrev X9:= @Nat.eq_of_beq_eq_true
abbrev Zq:= @if_neg
abbrev Zx:= @if_pos
abbrev Zz:= @absurd
abbrev Zj:= @congrArg
abbrev Zv:= @Nat.le_of_ble_eq_true
abbrev Zw:= @List.take_succ_cons
abbrev Zk:= @decide_eq_true_eq
abbrev Zy:= @decide_eq_true
abbrev ZQ:= @List.length_nil
abbrev ZX:= @List.take_append_drop
abbrev ZZ:= @List.getElem?_cons_succ
abbrev ZJ:= @List.getElem?_cons_zero
abbrev ZV:= @List.mem_append_left
abbrev ZW:= @List.mem_append_right
abbrev ZK:= @UInt8.toNat_ofNat'
abbrev ZY:= @List.all_eq_true
abbrev XH:=Value.int .i64
abbrev XL (b:Nat):Value:=.pointer (some ⟨b,0,none⟩)
abbrev XM (b:Nat):Option Addr:=some ⟨b,0,none⟩
abbrev XN:=Nat->Prop
abbrev XR:=Value->World->Prop
abbrev XT:=Ending->World->Prop
abbrev XU:=World->Prop
abbrev ZH:=Option Addr

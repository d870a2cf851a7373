import Derived.Tactics
import Derived.Defers
import Derived.Recover
import Derived.Deep.Quiet
import Derived.Deep.LoopGhost
import Derived.Laws.Entries
import Derived.Laws.Tables
import Derived.Laws.Cells
import Derived.Scope
set_option linter.all false
namespace Go.aw
open Go
structure ak (S:Nat->Prop) (w w':World):Prop where
 os:w'.os=w.os
 tape:w'.tape=w.tape
 output:w'.output=w.output
 size:w.heap.size<=w'.heap.size
 block:∀k,k<w.heap.size->¬S k->w'.heap[k]? =w.heap[k]?
def get(a:Nat->Value):List (Nat×Value)->Nat->Value
 |[],P=>a P
 |(b,c)::d,P=>match Nat.beq b P with
  |true=>c
  |false=>get a d P
abbrev cH:=List (Nat×Value)
def ev(P:Nat->Value)(a:cH):Operand->Value
 | .tmp b=>get P a b
 | .const c=>c
 | .global d=>.pointer (some ⟨d,0,none⟩)
 | .func e=>.func (.func e) #[] #[]
def bS(a:cH)(P:Option Tmp)(b:Value):cH:=match P with
 |some P=>(P,b)::a
 |none=>a
structure Rel (n:Nat) (B:Nat->Value) (e:cH) (a:Act):Prop where
 size:a.tmps.size=n
 slot:∀t,a.tmps.getD t undef=aw.get B e t
def dI(b:Nat->Value)(c:cH)(a P:Nat)(d:Value):get b ((a,d)::c) P=if a=P then d else get b c P:=by
 show(match Nat.beq a P with|true=>d|false=>get b c P)=_
 by_cases e:a=P
 ·subst e;simp
 ·have:Nat.beq a P=false:=by
   cases f:Nat.beq a P
   ·rfl
   ·exact absurd (Nat.eq_of_beq_eq_true f) e
  rw[this,if_neg e]
def Rel.eval{c:Nat}{P:Nat->Value}{a:cH}{b:Act}(d:Rel c P a b):b.eval=ev P a:=by
 funext e
 cases e with
 |tmp f=>exact d.slot f
 |const g=>rfl
 |global h=>rfl
 |func i=>rfl
def Rel.put{c:Nat}{g:Nat->Value}{h:cH}{d:Act}(b:Rel c g h d)(P:Option Tmp)(i:∀a,P=some a->a<c)(e:Value):Rel c g (bS h P e) (d.put P e):=by
 cases P with
 |none=>exact b
 |some P=>
  have j:=i P rfl;refine⟨by simp[Act.put,b.size],λa=>?_⟩;show(d.tmps.setIfInBounds P e).getD a undef=_;rw[bS,dI,<-b.slot];have k:=b.size
  by_cases f:P=a
  ·subst f
   simp[k,j]
  ·rw[if_neg f]
   simp only[Array.getD_eq_getD_getElem?];rw[Array.getElem?_setIfInBounds_ne f]
variable{H:Act}{f2:Act->World->Prop}{c9:Addr}{X:Array Bool}{T:Array Oper}{p:Array Value}{L:Bool}{Z:Code}{h9:Ending->FrameMode->World->Prop}{z:Ending->World->Prop}{e3:Exit}{d5:Exit->Act->World->Prop}{a7:FrameMode}{a5:Func}{y:FuncId}{b1:List Nat}{f1:List PanicEntry->Act->World->Prop}{a4:List PanicEntry->World->Prop}{a1:List Value}{a c i:Nat}{f3:Nat->Bool}{a2 f:Nat->Prop}{O:Oper}{e1:Operand->Value}{h:Program}{K a3:Prop}{g9:Sem Unit}{d8:Sem Value}{g:TypeId}{e9:TypeInfo}{b8 t:Value}{R:Value->Prop}{h7 m s:Value->World->Prop}{a8 b k:World}{x:World->Prop}{N:cH}{h8:cH->List Deferred->World->Prop}{f0:cH->Prop}
def Rel.defers{P:Nat->Value}(b:Rel a P N H)(c:List Deferred):Rel a P N {H with defers:=c}:=⟨b.size,b.slot⟩
def put_defers(P:Act)(a:Option Tmp)(b:Value):(P.put a b).defers=P.defers:=by cases a<;>rfl
def an(P:Bool)(a b:Prop):Prop:=match P with
 |true=>a
 |false=>b
def an.mk(P:L=true->K)(a:L=false->a3):an L K a3:=by
 cases L
 ·exact a rfl
 ·exact P rfl
def an.tt(P:L=true)(a:K):an L K a3:=by subst P;exact a
def an.ff(P:L=false)(a:a3):an L K a3:=by subst P;exact a
def ML(b:Value)(P:Value->Prop):Prop:=match b with
 | .int c _=>∃a,P (.int c a)
 | .bool _=>∃d,P (.bool d)
 | .string _=>∃e,P (.string e)
 | .slice _ _ _=>∃f a g,P (.slice f a g)
 | .pointer _=>∃h,P (.pointer h)
 | .map _=>∃i,P (.map i)
 |_=>∃j,P j
def ML.out{z:Value}{φ:Value->Prop}(P:ML z φ):∃a,φ a:=by
 unfold ML at P;split at P
 ·exact⟨_,P.choose_spec⟩
 ·exact⟨_,P.choose_spec⟩
 ·exact⟨_,P.choose_spec⟩
 ·obtain⟨b,c,d,P⟩:=P;exact⟨_,P⟩
 ·exact⟨_,P.choose_spec⟩
 ·exact⟨_,P.choose_spec⟩
 ·exact P
def N_:List Value->(List Value->Prop)->Prop
 |[],P=>P []
 |z::a,P=>ML z λb=>N_ a λc=>P (b::c)
def N_.out:∀{a:List Value} {φ:List Value->Prop},N_ a φ->∃l,l.length=a.length/\φ l
 |[],_,P=>⟨[],rfl,P⟩
 |z::a,φ,P=>by
  obtain⟨b,P⟩:=ML.out P;obtain⟨l,c,P⟩:=N_.out P;exact⟨b::l,by simp[c],P⟩
def Ci(z:Value)(P:Value->Prop):Prop:=match z with
 | .agg a=>N_ a.toList λb=>P (.agg b.toArray)
 |z=>ML z P
def Ci.out{z:Value}{φ:Value->Prop}(P:Ci z φ):∃a,φ a:=by
 unfold Ci at P;split at P
 ·obtain⟨l,_,P⟩:=N_.out P;exact⟨_,P⟩
 ·exact ML.out P
def SH:List Value->(List Value->Prop)->Prop
 |[],P=>P []
 |z::a,P=>Ci z λb=>SH a λc=>P (b::c)
def SH.out:∀{a:List Value} {φ:List Value->Prop},SH a φ->∃l,φ l
 |[],_,P=>⟨[],P⟩
 |z::a,φ,P=>by
  obtain⟨b,P⟩:=Ci.out P;obtain⟨l,P⟩:=SH.out P;exact⟨b::l,P⟩
def fp(P:Program)(a:TypeId):Value:=match P.info? a with
 |some b=>match b.zero with
  |some c=>c
  |none=>undef
 |none=>undef
def kD(P:Program)(a:TypeId):Nat:=match P.info? a with
 |some b=>b.size
 |none=>0
def sx(P:Program)(a:TypeId):Bool:=match P.underlying a with
 |some (.struct _)=>true
 |some (.array _ _)=>true
 |_=>false
def sC(P:Program)(a:TypeId)(b:Value->Prop):Prop:=match P.underlying a with
 |some (.tuple c)=>SH (c.toList.map (fp P)) λd=>b (.tuple d.toArray)
 |_=>Ci (fp P a) b
def sC.out{P:Program}{φ:Value->Prop}(a:sC P g φ):∃b,φ b:=by
 unfold sC at a;split at a
 ·obtain⟨l,a⟩:=SH.out a;exact⟨_,a⟩
 ·exact Ci.out a
def gv(a:World)(b:Addr):Nat->List Value->Prop->Prop
 |_,[],P=>P
 |c,d::e,P=>a.cell? (b.add c)=some d/\gv a b (c+1) e P
def gv.out{e:World}{f:Addr}:∀{a:Nat} {l:List Value} {φ:Prop},gv e f a l φ->(∀P b,l[P]? =some b->e.cell? (f.add (a+P))=some b)/\φ
 |_,[],_,d=>⟨λP b c=>by simp at c,d⟩
 |a,k::l,φ,d=>by
  obtain⟨g,h⟩:=d;obtain⟨i,j⟩:=gv.out h;refine⟨λP b c=>?_,j⟩
  cases P with
  |zero=>simp at c;subst c;exact g
  |succ P=>
   have:=i P b (by simpa using c);rw[show a+1+P=a+(P+1)from by omega]at this;exact this
def nK(P:Program)(a:TypeId)(h:Value)(b:World)(c:Value->Prop):Prop:=match h with
 | .pointer (some d)=>match sx P a with
  |true=>match fp P a with
   | .agg e=>match Nat.beq (kD P a) e.size with
    |true=>N_ e.toList λf=>gv b d 0 f (c (.agg f.toArray))
    |false=>False
   |_=>False
  |false=>ML (fp P a) λg=>b.cell? d=some g/\c g
 |_=>False
def PS(P:World)(a:Addr)(b:Value)(c:World->Prop):Prop:=(∃d,P.cell? a=some d)/\P.frozen? a=false/\c (P.setCell a b)
def PA(P:World)(a:Obj)(b:World->Prop):Prop:=b (P.alloc a)
def il(b:Addr):Nat->List Value->World->(World->Prop)->Prop
 |_,[],P,a=>a P
 |c,d::e,P,a=>PS P (b.add c) d λf=>il b (c+1) e f a
def w_(P:Program)(a:TypeId)(f b:Value)(c:World)(d:World->Prop):Prop:=match f with
 | .pointer (some e)=>match sx P a with
  |true=>match b with
   | .agg cs=>match Nat.beq cs.size (kD P a)with
    |true=>match cs.toList.all Value.oneCell' with
     |true=>il e 0 cs.toList c d
     |false=>False
    |false=>False
   |_=>False
  |false=>match Nat.beq (kD P a) 1 with
   |true=>an b.oneCell' (PS c e b d) False
   |false=>False
 |_=>False
def PU(P a:Nat):Nat:=match Nat.beq a 1 with
 |true=>P
 |false=>P*a
def Kt(a P:Nat):PU a P=a*P:=by
 unfold PU
 cases b:Nat.beq P 1
 ·rfl
 ·have:P=1:=Nat.eq_of_beq_eq_true b
  subst this;simp
def PV(e:Program)(j:TypeId)(g h:Value)(i:Value->Prop):Prop:=match e.underlying j with
 |some (.slice P)=>match g,h with
  | .slice c k _,.int _ b=>∃d a,c=some ⟨d,a,none⟩/\0<=b/\b<k/\i (.pointer (some ⟨d,a+PU b.toNat (kD e P),none⟩))
  |_,_=>False
 |some (.array f P)=>match g,h with
  | .pointer l,.int _ b=>∃d a,l=some ⟨d,a,none⟩/\0<=b/\b<f/\i (.pointer (some ⟨d,a+PU b.toNat (kD e P),none⟩))
  |_,_=>False
 |_=>False
def Er(b c:Value)(d:Value->Prop):Prop:=match b,c with
 | .string e,.int _ P=>0<=P/\∃a,e[P.toNat]? =some a/\d (.int .u8 a.toNat)
 |_,_=>False
def cg(a:Option Addr)(b c P:Nat):Option Addr:=if c=b then a else a.map (·.add (b*P))
def PW(h:Program)(n:TypeId)(l:Value)(i j m:Option Value)(d:Value->Prop):Prop:=match h.underlying n with
 |some .string=>match l,m with
  | .string e,none=>match i,j with
   |none,none=>d (.string (e.extract 0 e.size))
   |some (.int _ P),none=>0<=P/\P<=e.size/\d (.string (e.extract P.toNat e.size))
   |none,some (.int _ a)=>0<=a/\a<=e.size/\d (.string (e.extract 0 a.toNat))
   |some (.int _ P),some (.int _ a)=>0<=P/\P<=a/\a<=e.size/\d (.string (e.extract P.toNat a.toNat))
   |_,_=>False
  |_,_=>False
 |some (.slice b)=>match l,m with
  | .slice f k c,none=>match i,j with
   |none,none=>d (.slice f k c)
   |some (.int _ P),none=>0<=P/\P<=k/\d (.slice (cg f P.toNat c (kD h b)) (k-P.toNat) (c-P.toNat))
   |none,some (.int _ a)=>0<=a/\a<=c/\d (.slice f a.toNat c)
   |some (.int _ P),some (.int _ a)=>0<=P/\P<=a/\a<=c/\d (.slice (cg f P.toNat c (kD h b)) (a.toNat-P.toNat) (c-P.toNat))
   |_,_=>False
  | .slice f _ c,some (.int _ g)=>match i,j with
   |none,some (.int _ a)=>0<=a/\a<=g/\g<=c/\d (.slice f a.toNat g.toNat)
   |some (.int _ P),some (.int _ a)=>0<=P/\P<=a/\a<=g/\g<=c/\d (.slice (cg f P.toNat g.toNat (kD h b)) (a.toNat-P.toNat) (g.toNat-P.toNat))
   |_,_=>False
  |_,_=>False
 |_=>False
def Us(b:Option Addr)(c:Value->Prop):Prop:=∃a P,b=some ⟨a,P,none⟩/\c (.pointer (some ⟨a,P,none⟩))
def aE(b:Program)(c:Sem Value)(d:World)(e f:Value->World->Prop):Prop:=match c.run b d with
 | .ok P a=>e P a
 | .halt (.panic P) a=>f P a
 |_=>False
def jN(a:Program)(b:Sem Unit)(c:World)(d:World->Prop)(e:Value->World->Prop):Prop:=match b.run a c with
 | .ok _ P=>d P
 | .halt (.panic f) P=>e f P
 |_=>False
def aE.mk{P w':World}{v:Value}(a:d8.run h P= .ok v w')(b:m v w'):aE h d8 P m s:=by
 unfold aE;rw[a];exact b
def jN.mk{P w':World}(a:g9.run h P= .ok () w')(b:x w'):jN h g9 P x m:=by
 unfold jN;rw[a];exact b
def aE.imp(d:∀a c,m a c->s a c)(P:aE h d8 b m h7):aE h d8 b s h7:=by
 unfold aE at*;split at P
 ·exact d _ _ P
 ·exact P
 ·exact P.elim
def aE.panics{v:Value}(P:d8.run h b= .halt (.panic v) k)(a:s v k):aE h d8 b m s:=by
 unfold aE;rw[P];exact a
def enters(a:Program)(b:FuncId):Bool:=match a.funcs[b]? with
 |some P=>match P.body with
  |some _=>!(P.name== "runtime.NumGoroutine")
  |none=>false
 |none=>false
def Oa(P:Ending)(a:Value->Prop)(b:List PanicEntry->Prop):Prop:=match P with
 | .returned c=>a c
 | .panicked d=>b d
 | .outgrown=>False
def PC(b:Program)(c:FuncId)(P:Array Value)(d:World)(e:Value->World->Prop)(f:List PanicEntry->World->Prop):Prop:=
 Calls b c P d λg a=>Oa g (λh=>e h a) (λi=>f i a)
def Ku(a:Program)(c:FuncId)(P:Array Value)(d:TypeId)(e:World)(f:Value->World->Prop)(g:List PanicEntry->World->Prop):Prop:=
 PC a c P e (λh i=>sC a d λb=>h=b/\f b i) g
def Sd(c:Program)(d:Value)(P:Array Value)(e:TypeId)(f:World)(g:Value->World->Prop)(h:List PanicEntry->World->Prop):Prop:=
 ∃b first a,d= .func (.func b) first a/\enters c b=true/\Ku c b (first++P++a) e f g h
def Pt(b:Program)(d:FuncId)(P:Array Value)(a:World)(e f:Value->World->Prop):Prop:=
 ∃c:Sem Value,(∀a,(callFunc d P).run b a=(c.run b a).andThen λg h=>.ok (.value g) h)/\aE b c a e f
def Ut(c:Program)(P:Value)(a:String)(b:Array Value)(f:TypeId)(g:World)(h:Value->World->Prop)(i:List PanicEntry->World->Prop):Prop:=
 ∃d as,(∀e,(callMethod P a b).run c e= .ok (.enter d as) e)/\Ku c d as f g h i
def isInt(P:Program)(a:TypeId):Bool:=match P.underlying a with
 |some (.int _)=>true
 |_=>false
def Kv(P:Program)(a:TypeId):Bool:=match P.underlying a with
 |some (.int _)=>true
 |some .bool=>true
 |some .string=>true
 |_=>false
def isMap(P:Program)(a:TypeId):Bool:=match P.underlying a with
 |some (.map _ _)=>true
 |_=>false
def tV(P:Operand):Bool:=match P with
 | .const _=>true
 |_=>false
def Es(P:Program)(f:Oper):Bool:=match f.op with
 | .lookup .. =>true
 | .next .. =>true
 | .entry _=>true
 | .mapEntry .. =>true
 | .makeSlice .. =>true
 | .convert c d _=>match isInt P c with
  |true=>match isInt P d with
   |true=>false
   |false=>true
  |false=>true
 | .binOp g e _ a _=>match g with
  | .quo=>match tV a with
   |true=>false
   |false=>true
  | .rem=>match tV a with
   |true=>false
   |false=>true
  | .shl=>match tV a with
   |true=>false
   |false=>true
  | .shr=>match tV a with
   |true=>false
   |false=>true
  | .add=>match isInt P e with
   |true=>false
   |false=>true
  | .eql=>match Kv P e with
   |true=>false
   |false=>true
  | .neq=>match Kv P e with
   |true=>false
   |false=>true
  |_=>false
 | .call {callee:=.builtin b,argTypes,..}=>match b with
  | .append=>true
  | .copy=>true
  | .cap=>true
  | .len=>isMap P (argTypes.getD 0 0)
  |_=>false
 |_=>false
def LV(a:Operand->Value)(j:Oper):Option (Sem Value):=match j.op with
 | .move b| .assign b=>some (.pure (a b))
 | .pick c v m=>some (do pure (if<-asBool (a c)then a v else a m))
 | .alloc h=>some (Instr.alloc h true (.tuple #[]))
 | .box h b=>some (Instr.box h (a b))
 | .build i d=>some (Instr.build i (d.map λ(n,b)=>(n,a b)))
 | .buildSlice i o d=>some (Instr.buildSlice i o (d.map λ(n,b)=>(n,a b)))
 | .waits w=>some (Instr.waits w)
 | .binOp l P b p _=>some (do eqGuard l P b p (a b) (a p);binOp l P (a b) (a p))
 | .unOp l _ b=>some (Op.unary l (a b))
 | .convert q r b=>some (convert q r (a b))
 | .makeInterface P b=>some (Instr.makeInterface P (a b))
 | .makeFunc x first e=>some (Instr.makeFunc x (first.map a) (e.map a))
 | .makeMap i y=>some (Instr.makeMap i (y.map a))
 | .makeSlice i z c=>some (Instr.makeSlice i (a z) (a c))
 | .fieldAddr A b s=>some (Instr.fieldAt A (a b) s)
 | .field P b s=>some (Instr.field P (a b) s)
 | .index P b k=>some (Instr.index P (a b) (a k))
 | .lookup P b k t=>some (Instr.lookup P (a b) (a k) t)
 | .mapEntry i B C=>some (Instr.mapEntry i (a B) (a C))
 | .range P b=>some (Instr.range P (a b))
 | .next u f=>some (Instr.next (a u) f j.type)
 | .entry u=>some (Instr.entry (a u))
 | .typeAssert b P g t=>some (Instr.typeAssert (a b) P g t)
 | .extract i k=>some (Instr.extract (a i) k)
 | .panic b=>some (Instr.panic (a b))
 | .call c=>match c.callee with
  | .builtin m=>match m with
   | .append=>some (Builtin.append_ c.argTypes j.type (c.args.map a))
   | .cap=>some (Builtin.cap_ c.argTypes j.type (c.args.map a))
   | .clear=>some (Builtin.clear_ c.argTypes j.type (c.args.map a))
   | .copy=>some (Builtin.copy_ c.argTypes j.type (c.args.map a))
   | .delete=>some (Builtin.delete_ c.argTypes j.type (c.args.map a))
   | .len=>some (Builtin.len_ c.argTypes j.type (c.args.map a))
   | .max=>some (Builtin.max_ c.argTypes j.type (c.args.map a))
   | .min=>some (Builtin.min_ c.argTypes j.type (c.args.map a))
   | .panic=>some (Instr.panic ((c.args.map a).getD 0 .nilIface))
   |_=>none
  |_=>none
 |_=>none
def PX(P:Operand->Value)(e:Oper):Option (Sem Unit):=match e.op with
 | .mapUpdate a b d c| .insert a b d c=>some (Instr.mapUpdate a (P b) (P d) (P c))
 | .entryStore a b f c=>some (Instr.entryStore a (P b) (P f) (P c))
 | .ready g=>some (Instr.ready g)
 |_=>none
def rb{a b e:Type}(P:Result a)(c:a->World->Result b)(d:b->World->Result e):(P.andThen c).andThen d=P.andThen λf g=>(c f g).andThen d:=by
 cases P<;>rfl
def im(a:LV e1 O=some d8)(c:Program)(d:World):
  (execOp e1 O).run c d=(d8.run c d).andThen λg h=>.ok (.value g) h:=by
 obtain⟨i,j,e,k,b,guard⟩:=O
 cases j
 case call l=>
  obtain⟨P,f,m⟩:=l
  cases P
  case builtin n=>
   cases n<;>simp only[LV,Option.some.injEq,reduceCtorEq]at a<;>subst a<;>simp[execOp,resolve,invoke,builtin]
  all_goals simp[LV]at a
 all_goals first
  |(cases a;done)
  |(cases a;simp[execOp];done)
  |(cases a;simp only[execOp,Sem.run_bind,Sem.run_pure,rb,Result.andThen_ok];done)
  |(cases a;simp only[execOp,Sem.run_bind,Sem.run_pure,rb,Result.andThen_ok];rfl)
def LW(P:PX e1 O=some g9)(b:Program)(c:World):
  (execOp e1 O).run b c=(g9.run b c).andThen λ_ e=>.ok .skip e:=by
 obtain⟨f,g,d,h,a,guard⟩:=O
 cases g
 all_goals first
  |(simp only[PX,Option.some.injEq]at P;subst P;simp[execOp];done)
  |(simp[PX]at P;done)
section
variable {P:Program}
def cK(P:Program)(a:TypeId)(c:Bool)(d:sx P a=c)(g:∃b,P.underlying a=some b)(e:World):(isAgg a).run P e= .ok c e:=by
 obtain⟨b,f⟩:=g;unfold sx at d;rw[f]at d;simp only[isAgg,Sem.run_bind,run_underlying f,Result.andThen_ok]
 cases b<;>simp_all
def CB(a:fp P g=t)(d:t≠undef):∃b,P.info? g=some b/\b.zero=some t:=by
 unfold fp at a;split at a
 ·rename_i b e
  split at a
  ·rename_i f c;exact⟨b,e,by rw[c,a]⟩
  ·exact absurd a.symm d
 ·exact absurd a.symm d
def cZ(b:P.info? g=some e9)(a:World):(sizeOf g).run P a= .ok e9.size a:=by
 simp[sizeOf,typeInfo,b]
def gw(a:P.info? g=some e9):kD P g=e9.size:=by simp[kD,a]
def tW(a:k.heap=b.heap)(P:Addr):k.cell? P=b.cell? P:=by simp[World.cell?,a]
def nK.out(k:∃n,P.underlying g=some n)(a:nK P g t b R):
  ∃c,(∀d,d.heap=b.heap->(Instr.loadAt g t).run P d= .ok c d)/\R c:=by
 unfold nK at a;split at a
 ·rename_i h
  split at a
  ·rename_i i
   split at a
   ·rename_i y o
    split at a
    ·rename_i p
     obtain⟨l,q,a⟩:=N_.out a;obtain⟨j,a⟩:=gv.out a;obtain⟨r,m,_⟩:=CB o (by simp[undef]);have s:r.size=l.length:=by
      have:=Nat.eq_of_beq_eq_true p;rw[gw m]at this;simp[this,q]
     refine⟨_,λd e=>?_,a⟩;have u:∀f c,l[f]? =some c->d.cell? (h.add f)=some c:=λf c v=>by
      rw[tW e];have:=j f c v;simpa using this
     have w:=run_loadCells_list (P:=P) (w:=d) h l u;simp only[Instr.loadAt,Instr.sureAddr,loadVar,Sem.run_bind,Sem.run_pure,Result.andThen_ok,cK P g _ i k,if_true,cZ m,s,w]
    ·exact a.elim
   ·exact a.elim
  ·rename_i i
   obtain⟨c,x,a⟩:=ML.out a;refine⟨c,λd e=>?_,a⟩;have j:d.cell? h=some c:=by rw[tW e];exact x
   simp[Instr.loadAt,Instr.sureAddr,loadVar,cK P g _ i k,load,Sem.run,j]
 ·exact a.elim
def il.out{e:Addr}{f:World->Prop}:∀{l:List Value} {c:Nat} {b:World},(∀v∈l,v.oneCell'=true)->il e c l b f->∃d,(storeCells e l c).run P b= .ok () d/\f d
 |[],c,b,_,a=>⟨b,rfl,a⟩
 |v::l,c,b,g,a=>by
  obtain⟨⟨n,h⟩,i,a⟩:=a;obtain⟨d,j,a⟩:=il.out (l:=l) (λv k=>g v (List.mem_cons_of_mem _ k)) a;refine⟨d,?_,a⟩;have m:=run_store P b (e.add c) v .plain (g v (List.mem_cons_self ..));simp only[storeCells,Sem.run_bind,m,h,i];simpa using j
def w_.out{h:TypeId}{k b:Value}{i:World}{l:World->Prop}(c:∃f,P.info? h=some f)(a:w_ P h k b i l):
  ∃g,(Instr.storeAt h k b).run P i= .ok () g/\l g:=by
 obtain⟨f,c⟩:=c;unfold w_ at a;split at a
 ·rename_i m
  split at a
  ·split at a
   ·rename_i cs
    split at a
    ·rename_i d
     split at a
     ·rename_i e
      obtain⟨g,n,a⟩:=il.out (P:=P) (λb o=>by simpa using List.all_eq_true.1 e b o) a;refine⟨g,?_,a⟩;have j:cs.size=f.size:=by have:=Nat.eq_of_beq_eq_true d;rwa [gw c]at this
      simp[Instr.storeAt,Instr.sureAddr,storeVar,cZ c,Value.cells,j,n]
     ·exact a.elim
    ·exact a.elim
   ·exact a.elim
  ·split at a
   ·rename_i d
    have j:f.size=1:=by have:=Nat.eq_of_beq_eq_true d;rwa [gw c]at this
    cases e:b.oneCell' with
    |false=>rw[e]at a;exact a.elim
    |true=>
     rw[e]at a;obtain⟨⟨s,p⟩,q,a⟩:=a;refine⟨_,?_,a⟩;have r:b.cells= #[b]:=by cases b<;>first|rfl|(simp[Value.oneCell']at e)
     have d:=run_store P i m b .plain e;rw[p,q]at d;simp[Instr.storeAt,Instr.sureAddr,storeVar,cZ c,r,j,storeCells,Addr.add_zero',d]
   ·exact a.elim
 ·exact a.elim
def PV.out(m:∀f,(P.underlying g=some (.slice f)\/∃n,P.underlying g=some (.array n f))->∃h,P.info? f=some h)(a:PV P g t b8 R):
  ∃o,(∀e,(Instr.indexAt g t b8).run P e= .ok o e)/\R o:=by
 unfold PV at a;split at a
 ·rename_i b c
  split at a
  ·rename_i p n u q r
   obtain⟨s,i,rfl,j,k,a⟩:=a;obtain⟨h,d⟩:=m b (.inl c);refine⟨_,λe=>?_,a⟩;simp[Instr.indexAt,asIntOf,run_underlying c,j,k,cZ d,Kt,gw d,Addr.add_lit]
  ·exact a.elim
 ·rename_i l b c
  split at a
  ·rename_i v q r
   obtain⟨s,i,rfl,j,k,a⟩:=a;obtain⟨h,d⟩:=m b (.inr ⟨l,c⟩);refine⟨_,λe=>?_,a⟩;simp[Instr.indexAt,Instr.sureAddr,asIntOf,run_underlying c,j,k,cZ d,Kt,gw d,Addr.add_lit]
  ·exact a.elim
 ·exact a.elim
def Er.out(d:P.underlying g=some .string)(a:Er t b8 R):∃c,(∀b,(Instr.index g t b8).run P b= .ok c b)/\R c:=by
 unfold Er at a;split at a
 ·rename_i h i j
  obtain⟨e,k,f,a⟩:=a;refine⟨_,λb=>?_,a⟩;simp[Instr.index,asIntOf,run_underlying d,e,f]
 ·exact a.elim
def bw(c:Value)(b:Int)(f:IntKind)(g:c= .int f b)(d:Nat)(a:BoundsCode)(e:World)(h:0<=b/\b<=d):(Instr.sliceBound c d a).run P e= .ok b.toNat e:=by
 subst g;simp[Instr.sliceBound,asIntOf,h]
def PW.out{j k m:Option Value}(y:∀u,P.underlying g=some (.slice u)->∃v,P.info? u=some v)(a:PW P g t j k m R):
  ∃w,(∀b,(Instr.sliceAt g t j k m).run P b= .ok w b)/\R w:=by
 unfold PW at a;split at a
 ·rename_i d
  have f:∀b,(Instr.sliceAt g t j k m).run P b=(Instr.slice g t j k m).run P b:=λb=>by simp[Instr.sliceAt,run_underlying d]
  split at a
  ·rename_i s
   split at a
   ·exact⟨_,λb=>by rw[f];simp[Instr.slice,Instr.sliceBounds,run_underlying d],a⟩
   ·rename_i l
    obtain⟨c,h,a⟩:=a;exact⟨_,λb=>by rw[f];simp[Instr.slice,Instr.sliceBounds,run_underlying d,bw _ l _ rfl s.size _ b ⟨c,h⟩],a⟩
   ·rename_i e
    obtain⟨c,h,a⟩:=a;exact⟨_,λb=>by rw[f];simp[Instr.slice,Instr.sliceBounds,run_underlying d,bw _ e _ rfl s.size _ b ⟨c,h⟩],a⟩
   ·rename_i l _ e
    obtain⟨c,h,n,a⟩:=a;exact⟨_,λb=>by rw[f];simp[Instr.slice,Instr.sliceBounds,run_underlying d,bw _ e _ rfl s.size _ b ⟨by omega,n⟩,bw _ l _ rfl e.toNat _ b ⟨c,by omega⟩],a⟩
   ·exact a.elim
  ·exact a.elim
 ·rename_i o d
  obtain⟨v,i⟩:=y o d;have f:∀b,(Instr.sliceAt g t j k m).run P b=(Instr.slice g t j k m).run P b:=λb=>by simp[Instr.sliceAt,run_underlying d]
  split at a
  ·rename_i q x p
   split at a
   ·refine⟨_,λb=>?_,a⟩
    rw[f]
    cases q<;>simp[Instr.slice,Instr.sliceBounds,run_underlying d,cZ i,Addr.add_zero']
   ·rename_i l
    obtain⟨c,h,a⟩:=a;refine⟨_,λb=>?_,a⟩;rw[f];simp[Instr.slice,Instr.sliceBounds,run_underlying d,cZ i,bw _ l _ rfl x _ b ⟨c,h⟩,cg,gw i]
   ·rename_i e
    obtain⟨c,h,a⟩:=a;refine⟨_,λb=>?_,a⟩;rw[f]
    cases q<;>simp[Instr.slice,Instr.sliceBounds,run_underlying d,cZ i,bw _ e _ rfl p _ b ⟨c,h⟩,Addr.add_zero']
   ·rename_i l _ e
    obtain⟨c,h,n,a⟩:=a;refine⟨_,λb=>?_,a⟩;rw[f];simp[Instr.slice,Instr.sliceBounds,run_underlying d,cZ i,bw _ e _ rfl p _ b ⟨by omega,n⟩,bw _ l _ rfl e.toNat _ b ⟨c,by omega⟩,cg,gw i]
   ·exact a.elim
  ·rename_i q x p _ r
   split at a
   ·rename_i e
    obtain⟨c,h,n,a⟩:=a;refine⟨_,λb=>?_,a⟩;rw[f]
    cases q<;>simp[Instr.slice,Instr.sliceBounds,run_underlying d,cZ i,bw _ r _ rfl p _ b ⟨by omega,n⟩,bw _ e _ rfl r.toNat _ b ⟨c,by omega⟩,Addr.add_zero']
   ·rename_i l _ e
    obtain⟨c,h,n,z,a⟩:=a;refine⟨_,λb=>?_,a⟩;rw[f];simp[Instr.slice,Instr.sliceBounds,run_underlying d,cZ i,bw _ r _ rfl p _ b ⟨by omega,z⟩,bw _ e _ rfl r.toNat _ b ⟨by omega,by omega⟩,bw _ l _ rfl e.toNat _ b ⟨c,by omega⟩,cg,gw i]
   ·exact a.elim
  ·exact a.elim
 ·exact a.elim
end
def known(P:Program)(a:TypeId):Bool:=match P.underlying a,P.info? a with
 |some _,some _=>true
 |_,_=>false
def fJ(P:Program)(b:TypeId):Bool:=match P.underlying b with
 |some (.slice a)=>match P.info? a with
  |some _=>true
  |none=>false
 |some (.array _ a)=>match P.info? a with
  |some _=>true
  |none=>false
 |some _=>true
 |none=>false
def eL(P:Bool)(a:Prop):Prop:=match P with
 |true=>a
 |false=>False
def eL.out(P:eL L K):L=true/\K:=by
 cases L
 ·exact P.elim
 ·exact⟨rfl,P⟩
abbrev bM:=Nat->Value
abbrev gy:=Exit->bM->cH->List Deferred->World->Prop
def LX(b:Value)(a:Value->Prop):Prop:=match b with
 | .pointer c=>Us c a
 | .func (.func d) first P=>a (.func (.func d) first P)
 |_=>False
def tX(P:Program)(a b:Nat):List Oper->Value
 |[]=>undef
 |d::c=>match d.op with
  | .extract (.tmp e) f=>match Nat.beq e a with
   |true=>match Nat.beq f b with
    |true=>fp P d.type
    |false=>tX P a b c
   |false=>tX P a b c
  |_=>tX P a b c
def yf(b:Program)(P:Array Oper)(a:Option Tmp)(c:Nat):Value:=match a with
 |some a=>tX b a c P.toList
 |none=>undef
def Ac(f:Bool)(P:Value)(a:Value->Prop):Prop:=(P= .tuple #[.bool false]/\a (.tuple #[.bool false]))\/(match f with
 |true=>∃b c,P= .tuple #[.bool true,.int .i64 b,.int .i32 c]/\a (.tuple #[.bool true,.int .i64 b,.int .i32 c])
 |false=>∃d e,P= .tuple #[.bool true,d,e]/\a (.tuple #[.bool true,d,e]))
def Ac.out(h:Ac L t R):R t:=by
 unfold Ac at h;rcases h with⟨rfl,h⟩|h
 ·exact h
 ·cases L
  ·obtain⟨P,a,rfl,h⟩:=h;exact h
  ·obtain⟨P,a,rfl,h⟩:=h;exact h
def Et(b z1:Value)(c:Value)(d:Value->Prop):Prop:=Ci b λP=>Ci z1 λa=>c= .tuple #[P,a]/\d (.tuple #[P,a])
def Et.out{b z1:Value}(d:Et b z1 t R):R t:=by
 obtain⟨a,e⟩:=Ci.out (z:=b) (φ:=λa=>Ci z1 λP=>t= .tuple #[a,P]/\R (.tuple #[a,P])) d;obtain⟨P,c⟩:=Ci.out (z:=z1) (φ:=λP=>t= .tuple #[a,P]/\R (.tuple #[a,P])) e;rw[c.1];exact c.2
def Eu(b:Value)(c:Value)(d:Value->Prop):Prop:=Ci b λP=>∃a,c= .tuple #[P,.bool a]/\d (.tuple #[P,.bool a])
def Eu.out{z P:Value}(c:Eu z P R):R P:=by
 obtain⟨a,b,d,e⟩:=Ci.out (z:=z) (φ:=λa=>∃b,P= .tuple #[a,.bool b]/\R (.tuple #[a,.bool b])) c;rw[d];exact e
def PY(h:Program)(p:Array Oper)(b:bM)(c:Oper)(n:gy)(j:cH->List Deferred->World->Prop)(P:cH)(d:List Deferred)(i:World):Prop:=
 match c.op with
 | .load l t=>eL (known h l) (nK h l (ev b P t) i λe=>j (bS P c.dst e) d i)
 | .store l t o=>eL (known h l) (w_ h l (ev b P t) (ev b P o) i λa=>j (bS P c.dst undef) d a)
 | .indexAddr l o s=>eL (fJ h l) (PV h l (ev b P o) (ev b P s) λe=>j (bS P c.dst e) d i)
 | .slice l o x y z=>eL (fJ h l) (PW h l (ev b P o) (x.map (ev b P)) (y.map (ev b P)) (z.map (ev b P)) λe=>j (bS P c.dst e) d i)
 | .nilCheck o=>LX (ev b P o) λe=>j (bS P c.dst e) d i
 | .index l o s=>match h.underlying l with
  |some .string=>Er (ev b P o) (ev b P s) λe=>j (bS P c.dst e) d i
  |_=>aE h (Instr.index l (ev b P o) (ev b P s)) i (λe a=>j (bS P c.dst e) d a) (λk a=>n (.panic [{v:=k,recovered:=false}]) b P d a)
 | .call {callee:=.value (.func g),args,..}=>match enters h g with
  |true=>Ku h g (args.map (ev b P)) c.type i (λe a=>j (bS P c.dst e) d a) (λr a=>n (.panic r) b P d a)
  |false=>Pt h g (args.map (ev b P)) i (λe a=>sC h c.type λm=>e=m/\j (bS P c.dst m) d a) (λk a=>n (.panic [{v:=k,recovered:=false}]) b P d a)
 | .call {callee:=.value f,args,..}=>Sd h (ev b P f) (args.map (ev b P)) c.type i (λe a=>j (bS P c.dst e) d a) (λr a=>n (.panic r) b P d a)
 | .call {callee:=.invoke f name,args,..}=>Ut h (ev b P f) name (args.map (ev b P)) c.type i (λe a=>j (bS P c.dst e) d a) (λr a=>n (.panic r) b P d a)
 | .defer {callee:=.value f,args,..}=>match ev b P f with
  | .func A first u=>j (bS P c.dst undef) ({target:=.fn A u,args:=first++args.map (ev b P)}::d) i
  |_=>False
 | .next v q=>aE h (Instr.next (ev b P v) q c.type) i (λe a=>Ac q e λm=>j (bS P c.dst m) d a) (λk a=>n (.panic [{v:=k,recovered:=false}]) b P d a)
 | .entry v=>aE h (Instr.entry (ev b P v)) i (λe a=>Et (yf h p c.dst 0) (yf h p c.dst 1) e λm=>j (bS P c.dst m) d a) (λk a=>n (.panic [{v:=k,recovered:=false}]) b P d a)
 | .mapEntry l B C=>aE h (Instr.mapEntry l (ev b P B) (ev b P C)) i (λe a=>Et (yf h p c.dst 0) (yf h p c.dst 1) e λm=>j (bS P c.dst m) d a) (λk a=>n (.panic [{v:=k,recovered:=false}]) b P d a)
 | .typeAssert o E w true=>aE h (Instr.typeAssert (ev b P o) E w true) i (λe a=>Eu (fp h w) e λm=>j (bS P c.dst m) d a) (λk a=>n (.panic [{v:=k,recovered:=false}]) b P d a)
 |_=>match LV (ev b P) c with
  |some q=>match Es h c with
   |true=>aE h q i (λe a=>sC h c.type λm=>e=m/\j (bS P c.dst m) d a) (λk a=>n (.panic [{v:=k,recovered:=false}]) b P d a)
   |false=>aE h q i (λe a=>j (bS P c.dst e) d a) (λk a=>n (.panic [{v:=k,recovered:=false}]) b P d a)
  |none=>match PX (ev b P) c with
   |some q=>jN h q i (λa=>j (bS P c.dst undef) d a) (λk a=>n (.panic [{v:=k,recovered:=false}]) b P d a)
   |none=>False
def gA(a:enters h y=true)(P:Array Value)(b:World):(callFunc y P).run h b= .ok (.enter y P) b:=by
 unfold enters at a;split at a
 ·rename_i c d
  split at a
  ·rename_i g e
   have f:¬c.name= "runtime.NumGoroutine":=by simpa using a
   simp[callFunc,program,Sem.run,d,e,f]
  ·cases a
 ·cases a
def sD{next:Act->World->Prop}(i:Ku h y p g b m a4)(j:∀a P,m a P->next (H.put O.dst a) P)(k:∀c P,a4 c P->d5 (.panic c) H P):
  O.upon h H next d5 (.ok (.enter y p) b):=by
 rw[Oper.upon_enter];refine Calls.mono i λl P d=>?_
 cases l with
 |returned a=>
  obtain⟨e,rfl,f⟩:=sC.out (φ:=λe=>a=e/\m e P) d;exact j _ _ f
 |panicked c=>exact k _ _ d
 |outgrown=>exact d.elim
def known.out{P:Program}(a:known P g=true):(∃b,P.underlying g=some b)/\∃c,P.info? g=some c:=by
 unfold known at a;split at a
 ·rename_i b c d e;exact⟨⟨b,d⟩,c,e⟩
 ·cases a
def fJ.out{P:Program}(b:fJ P g=true):∀a,(P.underlying g=some (.slice a)\/∃f,P.underlying g=some (.array f a))->∃c,P.info? a=some c:=by
 intro a d;unfold fJ at b;rcases d with d|⟨f,d⟩
 ·rw[d]at b
  cases e:P.info? a with
  |none=>simp[e]at b
  |some c=>exact⟨c,rfl⟩
 ·rw[d]at b
  cases e:P.info? a with
  |none=>simp[e]at b
  |some c=>exact⟨c,rfl⟩
variable{U:bM}{c0:gy}
def Je{P:Program}{next:Act->World->Prop}(p:Rel a U N H)(L:∀M,O.dst=some M->M<a)(c:PY P T U O c0 h8 N H.defers b)(Q:∀e A f,Rel a U (bS N O.dst e) A->h8 (bS N O.dst e) A.defers f->next A f)(x:∀R f,c0 (.panic R) U N H.defers f->d5 (.panic R) H f):O.wp P H b next d5:=by
 have t:∀e f,h8 (bS N O.dst e) H.defers f->next (H.put O.dst e) f:=λe f B=>
  Q e _ _ (p.put O.dst L e) (by rw[put_defers];exact B)
 have j:∀h:Sem Value,(∀b,(execOp (ev U N) O).run P b=(h.run P b).andThen λe f=>.ok (.value e) f)->
   aE P h b (λe f=>h8 (bS N O.dst e) H.defers f) (λC f=>c0 (.panic [{v:=C,recovered:=false}]) U N H.defers f)->O.wp P H b next d5:=by
  intro h n l;unfold Oper.wp;rw[p.eval,n];unfold aE at l
  cases m:h.run P b with
  |ok e f=>
   rw[m]at l;exact t _ _ l
  |halt k f=>
   rw[m]at l
   cases k with
   |panic e=>exact x _ _ l
   |_=>exact l.elim
 have u:∀h:Sem Unit,(∀b,(execOp (ev U N) O).run P b=(h.run P b).andThen λ_ f=>.ok .skip f)->
   jN P h b (λf=>h8 (bS N O.dst undef) H.defers f) (λC f=>c0 (.panic [{v:=C,recovered:=false}]) U N H.defers f)->O.wp P H b next d5:=by
  intro h n l;unfold Oper.wp;rw[p.eval,n];unfold jN at l
  cases m:h.run P b with
  |ok e f=>
   rw[m]at l;exact t _ _ l
  |halt k f=>
   rw[m]at l
   cases k with
   |panic e=>exact x _ _ l
   |_=>exact l.elim
 have i:∀(h:Sem Value),(∀b,(execOp (ev U N) O).run P b=(h.run P b).andThen λe f=>.ok (.value e) f)->
   (∃e,h.run P b= .ok e b/\h8 (bS N O.dst e) H.defers b)->O.wp P H b next d5:=by
  rintro h n ⟨e,r,B⟩;unfold Oper.wp;rw[p.eval,n,r];exact t _ _ B
 unfold PY at c;split at c
 ·rename_i o k g
  obtain⟨q,c⟩:=c.out;obtain⟨e,r,c⟩:=nK.out (known.out q).1 c;exact i (Instr.loadAt o (ev U N k)) (λb=>by simp[execOp,g]) ⟨e,r b rfl,c⟩
 ·rename_i o k V g
  obtain⟨q,c⟩:=c.out;obtain⟨f,W,c⟩:=w_.out (P:=P) (known.out q).2 c;exact u (Instr.storeAt o (ev U N k) (ev U N V)) (λb=>by simp[execOp,g]) (jN.mk W c)
 ·rename_i o k y g
  obtain⟨q,c⟩:=c.out;obtain⟨e,r,c⟩:=PV.out (fJ.out q) c;exact i (Instr.indexAt o (ev U N k) (ev U N y)) (λb=>by simp[execOp,g]) ⟨e,r b,c⟩
 ·rename_i o k X Y Z g
  obtain⟨q,c⟩:=c.out;obtain⟨e,r,c⟩:=PW.out (λN E=>fJ.out q N (.inl E)) c;exact i (Instr.sliceAt o (ev U N k) (X.map (ev U N)) (Y.map (ev U N)) (Z.map (ev U N))) (λb=>by simp[execOp,g]) ⟨e,r b,c⟩
 ·rename_i k g
  unfold LX at c;split at c
  ·rename_i a5 F
   obtain⟨a6,a0,rfl,c⟩:=c;unfold Oper.wp;rw[p.eval];simp only[execOp,g,F,Sem.run_pure,Oper.upon_value];exact t _ _ c
  ·rename_i w first s F
   unfold Oper.wp;rw[p.eval];simp only[execOp,g,F,Sem.run_pure,Oper.upon_value];exact t _ _ c
  ·exact c.elim
 ·rename_i o k y g
  split at c
  ·rename_i I
   obtain⟨e,r,c⟩:=Er.out I c;exact i (Instr.index o (ev U N k) (ev U N y)) (λb=>by simp[execOp,g]) ⟨e,r b,c⟩
  ·exact j (Instr.index o (ev U N k) (ev U N y)) (λb=>by simp[execOp,g]) c
 ·rename_i w d v g
  split at c
  ·rename_i q
   have m:(execOp (ev U N) O).run P b= .ok (.enter w (d.map (ev U N))) b:=by
    simp[execOp,g,resolve,ev,Deferred.ofValue,invoke,gA q]
   unfold Oper.wp;rw[p.eval,m];exact sD c t x
  ·obtain⟨h,n,c⟩:=c
   refine j h (λb=>by simp[execOp,g,resolve,ev,Deferred.ofValue,invoke,n]) (aE.imp ?_ c);intro e f c;obtain⟨a1,rfl,c⟩:=sC.out c;exact c
 ·rename_i z d v a7 g
  obtain⟨w,first,s,J,q,c⟩:=c;have m:(execOp (ev U N) O).run P b= .ok (.enter w (first++d.map (ev U N)++s)) b:=by
   simp[execOp,g,resolve,J,Deferred.ofValue,invoke,gA q]
  unfold Oper.wp;rw[p.eval,m];exact sD c t x
 ·rename_i z S d v g
  obtain⟨w,as,hm,c⟩:=c;have m:(execOp (ev U N) O).run P b= .ok (.enter w as) b:=by
   have E:(d.map (ev U N)).extract 0 d.size=d.map (ev U N):=by
    have:d.size=(d.map (ev U N)).size:=by simp
    rw[this,Array.extract_size]
   have h0:(#[ev U N z]++d.map (ev U N))[0]? =some (ev U N z):=by rw[Array.getElem?_append_left (Nat.zero_lt_one)];rfl
   simp[execOp,g,resolve,invoke,E,hm,h0]
  unfold Oper.wp;rw[p.eval,m];exact sD c t x
 ·rename_i z d v g
  split at c
  ·rename_i fn first s J
   have m:(execOp (ev U N) O).run P b= .ok (.defer {target:=.fn fn s,args:=first++d.map (ev U N)}) b:=by
    simp[execOp,g,resolve,J,Deferred.ofValue]
   unfold Oper.wp;rw[p.eval,m,Oper.upon_defer];exact Q undef _ _ ((p.defers _).put O.dst L undef) (by rw[put_defers];exact c)
  ·exact c.elim
 ·rename_i K h g
  refine j (Instr.next (ev U N K) h O.type) (λb=>by simp[execOp,g]) (aE.imp (λe f c=>?_) c);exact c.out
 ·rename_i K g
  refine j (Instr.entry (ev U N K)) (λb=>by simp[execOp,g]) (aE.imp (λe f c=>?_) c);exact c.out
 ·rename_i o a2 a3 g
  refine j (Instr.mapEntry o (ev U N a2) (ev U N a3)) (λb=>by simp[execOp,g]) (aE.imp (λe f c=>?_) c);exact c.out
 ·rename_i k xT a4 g
  refine j (Instr.typeAssert (ev U N k) xT a4 true) (λb=>by simp[execOp,g]) (aE.imp (λe f c=>?_) c);exact c.out
 ·split at c
  ·rename_i h n
   split at c
   ·refine j h (λb=>im n P b) (aE.imp ?_ c)
    intro e f c;obtain⟨a1,rfl,c⟩:=sC.out c;exact c
   ·exact j h (λb=>im n P b) c
  ·split at c
   ·rename_i h n
    exact u h (λb=>LW n P b) c
   ·exact c.elim
def iH(P:Array Oper)(a:Nat):Option Nat:=match P[a]? with
 |some b=>b.dst
 |none=>none
def Ad(c:Program)(b:bM)(P:Array Oper)(d:gy):List Oper->(cH->List Deferred->World->Prop)->cH->List Deferred->World->Prop
 |[],f,e,g,h=>f e g h
 |j::a,f,e,g,h=>match j.guard with
  |none=>PY c P b j d (Ad c b P d a f) e g h
  |some (l,i)=>match iH P l with
   |none=>False
   |some k=>match get b e k with
    | .bool m=>an m
     (match i with
      |true=>PY c P b j d (Ad c b P d a f) ((k,.bool true)::e) g h
      |false=>Ad c b P d a f (bS ((k,.bool true)::e) j.dst undef) g h)
     (match i with
      |true=>Ad c b P d a f (bS ((k,.bool false)::e) j.dst undef) g h
      |false=>PY c P b j d (Ad c b P d a f) ((k,.bool false)::e) g h)
    | .tuple _=>Ad c b P d a f (bS e j.dst undef) g h
    |_=>False
def Rel.again(P:Rel a U N H)(b:get U N c=t):Rel a U ((c,t)::N) H:=
 ⟨P.size,λe=>by
  rw[dI,P.slot];split
  ·rename_i d;subst d;exact b
  ·rfl⟩
def qh(b:get U N a=t)(P:Nat):get U ((a,t)::N) P=get U N P:=by
 rw[dI];split
 ·rename_i c;subst c;exact b.symm
 ·rfl
def mX(b:Rel a U N H)(P:iH T c=some i)(h:i<a):
  yielded T H.tmps c=match get U N i with| .bool e=>some e|_=>none:=by
 have f:((T[c]?).bind (·.dst))=some i:=by
  unfold iH at P
  cases d:T[c]? with
  |none=>rw[d]at P;simp at P
  |some j=>rw[d]at P;simpa using P
 unfold yielded;rw[f];have k:=b.size;have g:H.tmps[i]? =some (get U N i):=by
  rw[<-b.slot];have:i<H.tmps.size:=by omega
  simp[Array.getD,this]
 simp only[Option.bind_some,g];split<;>simp_all
def cT(d:Nat)(e:bM)(f:cH)(g:List Nat)(h:gy):Exit->Act->World->Prop:=λi c j=>
 ∃P a,Rel d P a c/\(∀b,b∉g->get P a b=get e f b)/\h i P a c.defers j
def yg{s:Program}{l:Nat}{d q:bM}{r:cH}{k:List Nat}{c:Array Oper}{m:gy}(F:∀H a,iH c H=some a->a<l):
  ∀(I:List Oper) (P:cH) (i:Act) (h:World),(∀f∈I,∀g,f.dst=some g->g<l/\g∈k)->Rel l d P i->(∀a,a∉k->get d P a=get q r a)->
   Ad s d c m I (λP v h=>m .normal d P v h) P i.defers h->wpList s c (cT l q r k m) I i h
 |[],P,i,h,_,n,j,e=>⟨d,P,n,j,e⟩
 |f::b,P,i,h,J,n,j,e=>by
  have O:∀g,f.dst=some g->g<l:=λg K=>(J f (List.mem_cons_self ..) g K).1;have Q:∀(P:cH),(∀a,a∉k->get d P a=get q r a)->∀w a,a∉k->get d (bS P f.dst w) a=get q r a:=by
   intro P j w a L
   cases K:f.dst with
   |none=>exact j a L
   |some g=>
    have S:=(J f (List.mem_cons_self ..) g K).2;show get d ((g,w)::P) a=_;rw[dI,if_neg (by rintro rfl;exact L S)];exact j a L
  have x:∀f∈b,∀g,f.dst=some g->g<l/\g∈k:=λf T=>J f (List.mem_cons_of_mem _ T);have o:∀(P:cH),Rel l d P i->(∀a,a∉k->get d P a=get q r a)->Ad s d c m b (λP v h=>m .normal d P v h) (bS P f.dst undef) i.defers h->
    wpList s c (cT l q r k m) b (i.put f.dst undef) h:=λP n j e=>
   yg F b _ _ _ x (n.put _ O _) (Q P j _) (by rw[put_defers];exact e)
  have t:∀(P:cH),Rel l d P i->(∀a,a∉k->get d P a=get q r a)->PY s c d f m (Ad s d c m b λP v h=>m .normal d P v h) P i.defers h->
    f.wp s i h (wpList s c (cT l q r k m) b) (cT l q r k m):=λP n j e=>
   Je n O e (λw Y U M V=>yg F b _ _ _ x M (Q P j w) V) (λZ U W=>⟨d,P,n,j,W⟩)
  unfold wpList;unfold Ad at e;split at e
  ·rename_i A
   rw[if_pos (by simp[Region.wanted,A])];exact .inl (t P n j e)
  ·rename_i H p A
   split at e
   ·exact e.elim
   ·rename_i a R
    have u:=mX n R (F H a R);split at e
    ·rename_i B y
     rw[y]at u;simp only at u;have N:Region.wanted f (yielded c i.tmps)=(B==p):=by
      simp only[Region.wanted,A,u]
      cases B<;>cases p<;>rfl
     rw[N];have C:=n.again y;have E:∀z,z∉k->get d ((a,.bool B)::P) z=get q r z:=λz X=>by rw[qh y];exact j z X
     cases B<;>cases p<;>simp only[an]at e
     ·exact .inl (t _ C E e)
     ·exact o _ C E e
     ·exact o _ C E e
     ·exact .inl (t _ C E e)
    ·rename_i vs y
     rw[y]at u;simp only at u;have N:Region.wanted f (yielded c i.tmps)=false:=by
      simp[Region.wanted,A,u]
     rw[N];exact o _ n j e
    ·exact e.elim
def Ae{P:Type}(a:Program):Sem P->Option P
 | .pure b=>some b
 | .program c=>Ae a (c a)
 |_=>none
def vI{d:Type}{c:Program}:∀{s:Sem d} {b:d},Ae c s=some b->∀a,s.run c a= .ok b a
 | .pure f,b,P,a=>by simp only[Ae,Option.some.injEq]at P;subst P;rfl
 | .program e,b,P,a=>by simp only[Ae]at P;exact vI (s:=e c) P a
 | .load ..,_,P,_| .store ..,_,P,_| .new ..,_,P,_| .shape ..,_,P,_| .freeze ..,_,P,_| .frozen ..,_,P,_| .getObj ..,_,P,_| .setObj ..,_,P,_
 | .choose ..,_,P,_| .sys ..,_,P,_| .mark ..,_,P,_| .halt ..,_,P,_=>by simp[Ae]at P
def To(P:Program)(d:Sem Value)(e:TypeId)(a:World)(f:Value->Prop):Prop:=sC P e λb=>(∀c,d.run P (a.drewN c)= .ok b (a.drewN c))/\f b
def Se(a:Program)(d:FuncId)(P:Array Value)(e:TypeId)(b:World)(f:Value->Prop):Prop:=
 sC a e λc=>(∀g,Calls a d P (b.drewN g) λh i=>h= .returned c/\∃j,i=b.drewN j)/\f c
def Ob(c:Program)(d:bM)(b:Oper)(f:cH->Prop)(P:cH)(i:World):Prop:=
 match b.op with
 | .load e l=>eL (known c e) (nK c e (ev d P l) i λa=>f (bS P b.dst a))
 | .indexAddr e h j=>eL (fJ c e) (PV c e (ev d P h) (ev d P j) λa=>f (bS P b.dst a))
 | .slice e h m n o=>eL (fJ c e) (PW c e (ev d P h) (m.map (ev d P)) (n.map (ev d P)) (o.map (ev d P)) λa=>f (bS P b.dst a))
 | .nilCheck h=>LX (ev d P h) λa=>f (bS P b.dst a)
 | .index e h j=>match c.underlying e with
  |some .string=>Er (ev d P h) (ev d P j) λa=>f (bS P b.dst a)
  |_=>False
 | .call {callee:=.value (.func g),args,..}=>eL (enters c g) (Se c g (args.map (ev d P)) b.type i λa=>f (bS P b.dst a))
 |_=>match LV (ev d P) b with
  |some k=>match Es c b with
   |true=>To c k b.type i λa=>f (bS P b.dst a)
   |false=>match Ae c k with
    |some a=>f (bS P b.dst a)
    |none=>False
  |none=>False
def rf(d:Program)(c:bM)(a:Array Oper):List Oper->(cH->Prop)->cH->World->Prop
 |[],f,b,_=>f b
 |h::P,f,b,e=>match h.guard with
  |none=>Ob d c h (λb=>rf d c a P f b e) b e
  |some (j,g)=>match iH a j with
   |none=>False
   |some i=>match get c b i with
    | .bool k=>an k
     (match g with
      |true=>Ob d c h (λb=>rf d c a P f b e) ((i,.bool true)::b) e
      |false=>rf d c a P f (bS ((i,.bool true)::b) h.dst undef) e)
     (match g with
      |true=>rf d c a P f (bS ((i,.bool false)::b) h.dst undef) e
      |false=>Ob d c h (λb=>rf d c a P f b e) ((i,.bool false)::b) e)
    | .tuple _=>rf d c a P f (bS b h.dst undef) e
    |_=>False
def bC(P:World):World->Prop:=λa=>∃b,a=P.drewN b
def sE{next:Act->Prop}(u:Rel a U N H)(P:Ob h U O f0 N b)(v:∀c,f0 (bS N O.dst c)->next (H.put O.dst c)):O.quiet h H (bC b) next:=by
 have d:∀l:Sem Value,(∀b,(execOp (ev U N) O).run h b=(l.run h b).andThen λc w=>.ok (.value c) w)->
   (∃c,(∀f,l.run h (b.drewN f)= .ok c (b.drewN f))/\f0 (bS N O.dst c))->O.quiet h H (bC b) next:=by
  rintro l n ⟨c,e,x⟩;refine⟨c,?_,v c x⟩;rintro _ ⟨f,rfl⟩;unfold Oper.quietAt;rw[u.eval,n,e];exact⟨rfl,rfl⟩
 unfold Ob at P;split at P
 ·rename_i j i g
  obtain⟨k,P⟩:=P.out;obtain⟨c,e,P⟩:=nK.out (known.out k).1 P;exact d (Instr.loadAt j (ev U N i)) (λb=>by simp[execOp,g]) ⟨c,λf=>e _ rfl,P⟩
 ·rename_i j i o g
  obtain⟨k,P⟩:=P.out;obtain⟨c,e,P⟩:=PV.out (fJ.out k) P;exact d (Instr.indexAt j (ev U N i) (ev U N o)) (λb=>by simp[execOp,g]) ⟨c,λf=>e _,P⟩
 ·rename_i j i y z A g
  obtain⟨k,P⟩:=P.out;obtain⟨c,e,P⟩:=PW.out (λN B=>fJ.out k N (.inl B)) P;exact d (Instr.sliceAt j (ev U N i) (y.map (ev U N)) (z.map (ev U N)) (A.map (ev U N))) (λb=>by simp[execOp,g]) ⟨c,λf=>e _,P⟩
 ·rename_i i g
  unfold LX at P;split at P
  ·rename_i I p
   obtain⟨C,q,rfl,P⟩:=P;exact d (.pure (.pointer (some ⟨C,q,none⟩))) (λb=>by simp[execOp,g,p]) ⟨_,λf=>rfl,P⟩
  ·rename_i r first s p
   exact d (.pure (.func (.func r) first s)) (λb=>by simp[execOp,g,p]) ⟨_,λf=>rfl,P⟩
  ·exact P.elim
 ·rename_i j i o g
  split at P
  ·rename_i t
   obtain⟨c,e,P⟩:=Er.out t P;exact d (Instr.index j (ev U N i) (ev U N o)) (λb=>by simp[execOp,g]) ⟨c,λf=>e _,P⟩
  ·exact P.elim
 ·rename_i r m E g
  obtain⟨k,P⟩:=P.out;obtain⟨c,e,P⟩:=sC.out P;refine⟨c,?_,v c P⟩;rintro _ ⟨f,rfl⟩;have F:(execOp (ev U N) O).run h (b.drewN f)= .ok (.enter r (m.map (ev U N))) (b.drewN f):=by
   simp[execOp,g,resolve,ev,Deferred.ofValue,invoke,gA k]
  unfold Oper.quietAt;rw[u.eval,F];exact⟨rfl,e f⟩
 ·split at P
  ·rename_i l n
   split at P
   ·obtain⟨c,e,P⟩:=sC.out P
    exact d l (λb=>im n h b) ⟨c,e,P⟩
   ·split at P
    ·rename_i c e
     exact d l (λb=>im n h b) ⟨c,λf=>vI e _,P⟩
    ·exact P.elim
  ·exact P.elim
def pC{v:Program}{m:Nat}{g B0:bM}{e0:cH}{W:List Nat}{d:Array Oper}{w:World}{x:cH->Prop}(K:∀B P,iH d B=some P->P<m):
  ∀(C:List Oper) (a:cH) (i:Act),(∀b∈C,∀e,b.dst=some e->e<m/\e∈W)->Rel m g a i->(∀P,P∉W->get g a P=get B0 e0 P)->
   rf v g d C x a w->wpQuiet v d (bC w) (λr=>∃n,Rel m g n r/\r.defers=i.defers/\(∀P,P∉W->get g n P=get B0 e0 P)/\x n) C i
 |[],a,i,_,l,k,c=>⟨a,l,rfl,k,c⟩
 |b::h,a,i,E,l,k,c=>by
  have M:∀e,b.dst=some e->e<m:=λe F=>(E b (List.mem_cons_self ..) e F).1;have N:∀(a:cH),(∀P,P∉W->get g a P=get B0 e0 P)->∀f P,P∉W->get g (bS a b.dst f) P=get B0 e0 P:=by
   intro a k f P H
   cases F:b.dst with
   |none=>exact k P H
   |some e=>
    have O:=(E b (List.mem_cons_self ..) e F).2;show get g ((e,f)::a) P=_;rw[dI,if_neg (by rintro rfl;exact H O)];exact k P H
  have I:∀b∈h,∀e,b.dst=some e->e<m/\e∈W:=λb Q=>E b (List.mem_cons_of_mem _ Q);have o:∀(a:cH) (f:Value),Rel m g a i->(∀P,P∉W->get g a P=get B0 e0 P)->rf v g d h x (bS a b.dst f) w->
    wpQuiet v d (bC w) (λr=>∃n,Rel m g n r/\r.defers=i.defers/\(∀P,P∉W->get g n P=get B0 e0 P)/\x n) h (i.put b.dst f):=λa f l k c=>by
   have:=pC K h (bS a b.dst f) (i.put b.dst f) I (l.put _ M _) (N a k _) c;rw[put_defers]at this;exact this
  unfold wpQuiet;unfold rf at c;split at c
  ·rename_i y
   rw[if_pos (by simp[Region.wanted,y])];exact sE l c λf s=>o a f l k s
  ·rename_i B j y
   split at c
   ·exact c.elim
   ·rename_i P L
    have p:=mX l L (K B P L);split at c
    ·rename_i z t
     rw[t]at p;simp only at p;have J:Region.wanted b (yielded d i.tmps)=(z==j):=by
      simp only[Region.wanted,y,p]
      cases z<;>cases j<;>rfl
     rw[J];have q:=l.again t;have A:∀u,u∉W->get g ((P,.bool z)::a) u=get B0 e0 u:=λu R=>by rw[qh t];exact k u R
     cases z<;>cases j<;>simp only[an]at c
     ·exact sE q c λf s=>o _ f q A s
     ·exact o _ _ q A c
     ·exact o _ _ q A c
     ·exact sE q c λf s=>o _ f q A s
    ·rename_i S t
     rw[t]at p;simp only at p;have J:Region.wanted b (yielded d i.tmps)=false:=by
      simp[Region.wanted,y,p]
     rw[J];exact o _ _ l k c
    ·exact c.elim
def kindOf(P:Program)(d:Oper):Nat:=match d.op with
 | .move _| .assign _| .pick .. | .build .. | .binOp .. | .unOp .. | .indexAddr .. | .slice .. | .nilCheck _| .fieldAddr .. | .field .. | .index .. | .extract .. | .typeAssert .. =>0
 | .convert a c _=>match isInt P a with
  |true=>match isInt P c with
   |true=>0
   |false=>2
  |false=>2
 | .load .. | .lookup .. =>1
 | .call {callee:=.builtin b,argTypes,..}=>match b with
  | .len=>match isMap P (argTypes.getD 0 0)with
   |true=>1
   |false=>0
  | .cap| .max| .min=>0
  |_=>2
 |_=>2
def lr(a:Program)(P:Array Oper)(b:Nat):Nat:=match P[b]? with
 |some c=>kindOf a c
 |none=>2
def fh(a:Program)(P:Array Oper)(b:Nat):Bool:=match lr a P b with
 |2=>false
 |_=>true
def Kw(P:Program):List Oper->Bool
 |[]=>false
 |a::b=>match kindOf P a with
  |2=>true
  |_=>Kw P b
def ri(a:Program)(P:Array Oper):List Nat->Option Nat
 |[]=>none
 |b::c=>match fh a P b with
  |true=>some b
  |false=>ri a P c
def sF{c:Program}{a:Array Oper}{b:Nat}:∀{d:List Nat},ri c a d=some b->b∈d/\fh c a b=true
 |[],P=>by cases P
 |h::i,P=>by
  unfold ri at P;split at P
  ·rename_i e;cases P;exact⟨List.mem_cons_self ..,e⟩
  ·obtain⟨f,g⟩:=sF P;exact⟨List.mem_cons_of_mem _ f,g⟩
def Af{d:Program}{P:Array Oper}:∀{e:List Nat},ri d P e=none->∀b∈e,fh d P b=false
 |[],_,b,a=>by cases a
 |g::h,c,b,a=>by
  unfold ri at c;split at c
  ·cases c
  ·rename_i f
   rcases List.mem_cons.1 a with rfl|a
   ·exact f
   ·exact Af c b a
def GF(P:X.getD a true=false):X.getD a false=false:=by
 rcases Nat.lt_or_ge a X.size with b|b
 ·simp[b]at P⊢;exact P
 ·simp[Array.getElem?_eq_none b]at P
def lu(a:Array Oper)(c:Nat):Nat->Array Bool->Array Bool
 |0,P=>P
 |f+1,P=>match(Region.ready .any a P).find? (λb=>!Nat.beq b c)with
  |some b=>lu a c f (P.setIfInBounds b true)
  |none=>P
def gB(d:Program)(P:Array Oper)(listed:Array Bool)(b:Nat):Bool:=
 (λc:Array Bool=>!c.getD b true&&(Region.ready .any P c).all (λa=>Nat.beq a b)&&
  (List.range P.size).all λa=>!c.getD a false||fh d P a||listed.getD a false) (lu P b P.size listed)
structure tY (P:Program) (ops:Array Oper) (i:Nat) (listed M:Array Bool):Prop where
 sub:∀k,listed.getD k false=true->M.getD k false=true
 only:∀j∈Region.ready .any ops M,j=i
 still:∀j,j<ops.size->M.getD j false=true->listed.getD j false=false->fh P ops j=true
 size:M.size=listed.size
def pD{ops:Array Oper}{i:Nat}:∀(f:Nat) (P:Array Bool),(lu ops i f P).size=P.size/\∀a,P.getD a false=true->(lu ops i f P).getD a false=true
 |0,P=>⟨rfl,λ_ b=>b⟩
 |f+1,P=>by
  unfold lu;split
  ·rename_i c _
   obtain⟨d,e⟩:=pD (ops:=ops) (i:=i) f (P.setIfInBounds c true);exact⟨by rw[d];simp,λa g=>e a (getD_set_true g)⟩
  ·exact⟨rfl,λ_ b=>b⟩
def BO{ops:Array Oper}{i:Nat}(P:gB h ops X i=true):∃c,tY h ops i X c:=by
 unfold gB at P;simp only[Bool.and_eq_true,List.all_eq_true]at P;obtain⟨⟨_,d⟩,e⟩:=P;obtain⟨f,g⟩:=pD (ops:=ops) (i:=i) ops.size X;refine⟨_,g,λa b=>Nat.eq_of_beq_eq_true (d a b),λa b j k=>?_,f⟩;have:=e a (List.mem_range.2 b);rw[j,k]at this;simpa using this
def tY.ready{j:Program}{b:Array Oper}{k:Nat}{P d:Array Bool}(c:tY j b k P d){a:Nat}(p:a∈Region.ready .any b P)(q:a≠k):
  fh j b a=true/\tY j b k (P.setIfInBounds a true) d:=by
 obtain⟨l,r,m,s⟩:=mem_ready.1 p;have t:a<b.size:=(Array.getElem?_eq_some_iff.1 m).1;have n:d.getD a false=true:=by
  by_cases e:d.getD a true=false
  ·exact absurd (c.only a (mem_ready.2 ⟨e,r,m,λu v w=>c.sub _ (s u v w)⟩)) q
  ·have x:a<P.size:=by
    rcases Nat.lt_or_ge a P.size with K|K
    ·exact K
    ·simp[Array.getElem?_eq_none K]at l
   have y:a<d.size:=by rw[c.size];exact x
   simp[y]at e⊢;exact e
 have o:P.getD a false=false:=GF l;refine⟨c.still a t n o,λf i=>?_,c.only,λf i e g=>?_,by simp[c.size]⟩
 ·by_cases h:a=f
  ·subst h;exact n
  ·rw[getD_set_ne false h]at i;exact c.sub f i
 ·refine c.still f i e ?_
  by_cases h:a=f
  ·subst h;exact o
  ·rw[getD_set_ne false h]at g;exact g
structure Ag (ops:Array Oper) (i:Nat) (listed M:Array Bool):Prop where
 sub:∀k,listed.getD k false=true->M.getD k false=true
 only:∀j∈Region.ready .any ops M,j=i
 size:M.size=listed.size
def pF(a:Array Oper)(P:Array Bool)(b:Nat):Bool:=
 (λc:Array Bool=>(Region.ready .any a c).all (λd=>Nat.beq d b)) (lu a b a.size P)
def GH{ops:Array Oper}{i:Nat}(P:pF ops X i=true):Ag ops i X (lu ops i ops.size X):=by
 unfold pF at P;simp only[List.all_eq_true]at P;obtain⟨a,b⟩:=pD (ops:=ops) (i:=i) ops.size X;exact⟨b,λc d=>Nat.eq_of_beq_eq_true (P c d),a⟩
def Ag.ready{b:Array Oper}{e:Nat}{P c:Array Bool}(d:Ag b e P c){a:Nat}(l:a∈Region.ready .any b P)(m:a≠e):
  c.getD a false=true/\Ag b e (P.setIfInBounds a true) c:=by
 obtain⟨n,o,p,q⟩:=mem_ready.1 l;have h:c.getD a false=true:=by
  by_cases f:c.getD a true=false
  ·exact absurd (d.only a (mem_ready.2 ⟨f,o,p,λr s t=>d.sub _ (q r s t)⟩)) m
  ·have u:a<P.size:=by
    rcases Nat.lt_or_ge a P.size with g|g
    ·exact g
    ·simp[Array.getElem?_eq_none g]at n
   have v:a<c.size:=by rw[d.size];exact u
   simp[v]at f⊢;exact f
 refine⟨h,λi j=>?_,d.only,by simp[d.size]⟩
 by_cases k:a=i
 ·subst k;exact h
 ·rw[getD_set_ne false k]at j;exact d.sub i j
def PZ(P:List PanicEntry->Act->World->Prop):Exit->Act->World->Prop:=λa b c=>match a with
 | .panic d=>P d b c
 |_=>False
def Rl(d:Program)(a:Array Oper)(b:Bool)(i:List PanicEntry->Act->World->Prop)(j:Nat->Prop)(h:Act->World->Prop):Nat->(World->Prop)->Array Bool->Act->World->Prop
 |0,_,P,g,e=>Region.ready .any a P=[]/\h g e
 |f+1,m,P,g,e=>(Region.ready .any a P=[]->h g e)/\∀c∈Region.ready .any a P,
  (fh d a c=true->stOp d a e c (λk=>Rl d a b i j h f m (P.setIfInBounds c true) k e) g)/\
  (fh d a c=false->wpOp d a (PZ i) c (λk n=>∃l:World->Prop,(b=true->j c->∀o,l o->m o)/\l n/\Rl d a b i j h f l (P.setIfInBounds c true) k n) g e)
def Oc(f:∀g H b,f1 g H b->d5 (.panic g) H b)(P:wpOp h T (PZ f1) a f2 H b):wpOp h T d5 a f2 H b:=by
 unfold wpOp at*;split
 ·rename_i d;simpa only[d]using P
 ·rename_i i d
  simp only[d]at P;split
  ·rename_i e
   simp only[e,if_true]at P;rcases P with P|⟨_,_,_,P⟩
   ·left
    unfold Oper.wp at*;generalize(execOp H.eval i).run h b=j at*
    cases j with
    |ok k l=>
     cases k<;>simp only[Oper.upon]at P⊢<;>
      first
       |exact P
       |exact Calls.mono P (λm o c=>by cases m<;>first|exact c|exact f _ _ _ c|exact c.elim|(obtain⟨_,_,P⟩:=c;exact P.elim))
    |halt n l=>cases n<;>first|exact f _ _ _ P|exact(show False from P).elim
   ·exact P.elim
  ·rename_i e;simp only[e]at P;exact P
def mY{h:Program}{d:Array Oper}{e:Bool}{m:List PanicEntry->Act->World->Prop}{r:Nat->Prop}{n:Act->World->Prop}{i:Exit->Act->World->Prop}(j:∀o b a,m o b a->i (.panic o) b a)(g:∀b a,n b a->i .normal b a):∀(f:Nat) (k:World->Prop) (P:Array Bool) (b:Act) (a:World),
  Rl h d e m r n f k P b a->wpAny h .any d i f P b a
 |0,_,_,_,_,c=>⟨c.1,g _ _ c.2⟩
 |f+1,k,P,b,a,c=>⟨λs=>g _ _ (c.1 s),λp t=>by
   obtain⟨u,v⟩:=c.2 p t
   cases q:fh h d p with
   |true=>exact wpOp_of_stOp (λl c=>mY j g f k _ l a c) (u q)
   |false=>exact Oc j (wpOp_mono (λl w ⟨x,_,_,c⟩=>mY j g f x _ l w c) (v q))⟩
section
variable {P:Program} {ops:Array Oper}
def LY{d h:Oper}(r:ops[a]? =some h)(s:d.apart ops h=true)(u:∀cs k,d.op≠.select cs k)(v:∀cs k,h.op≠.select cs k){n:Act->Prop}(w:∀e,x e->YieldsAt P ops e d t H)(c:stOp P ops b a n (H.put d.dst t)):
  stOp P ops b a (λo=>(∀e,x e->YieldsAt P ops e d t o)/\n (o.put d.dst t)) H:=by
 obtain⟨p,i,q⟩:=Oper.apart_spec s;have j:∀g,∀e,x e->YieldsAt P ops e d t (H.put h.dst g):=λg e y=>
  (w e y).of_same (execOp_put d u H h.dst g q) (wanted_put d H h.dst g q)
 unfold stOp at*;simp only[r]at*;rw[wanted_put h H d.dst t p]at c;split
 ·rename_i l
  simp only[l,if_true]at c;unfold Oper.still at*;rw[execOp_put h v H d.dst t p]at c;generalize(execOp H.eval h).run P b=z at*
  cases z with
  |ok A B=>
   cases A<;>simp only[Oper.stillUpon]at c⊢
   case value g=>exact⟨c.1,j g,by rw[<-Act.put_comm H t g i];exact c.2⟩
   case skip=>exact⟨c.1,j _,by rw[<-Act.put_comm H t undef i];exact c.2⟩
   case enter f args=>obtain⟨m,g,C,E⟩:=c;exact⟨m,g,C,j g,by rw[<-Act.put_comm H t g i];exact E⟩
  |halt e B=>simp only[Oper.stillUpon]at c
 ·rename_i l
  simp only[l]at c;exact⟨j _,by rw[<-Act.put_comm H t undef i];exact c⟩
def LZ{g h:Oper}(u:∀o H b,f1 o (H.put g.dst t) b->f1 o H b)(B:ops[a]? =some h)(C:g.apart ops h=true)(v:∀cs p,g.op≠.select cs p)(E:∀cs p,h.op≠.select cs p)(w:∀c,x c->YieldsAt P ops c g t H)(e:wpOp P ops (PZ f1) a f2 (H.put g.dst t) b):
  wpOp P ops (PZ f1) a (λy q=>(∀c,x c->YieldsAt P ops c g t y)/\f2 (y.put g.dst t) q) H b:=by
 obtain⟨z,k,n⟩:=Oper.apart_spec C;have l:∀d,∀c,x c->YieldsAt P ops c g t (H.put h.dst d):=λd c r=>
  (w c r).of_same (execOp_put g v H h.dst d n) (wanted_put g H h.dst d n)
 have i:∀m d,∀c,x c->YieldsAt P ops c g t (({H with defers:=m::H.defers}:Act).put h.dst d):=λm d c r=>
  (show YieldsAt P ops c g t {H with defers:=m::H.defers}from w c r).of_same (execOp_put g v _ h.dst d n) (wanted_put g _ h.dst d n)
 unfold wpOp at*;simp only[B]at*;rw[wanted_put h H g.dst t z]at e;split
 ·rename_i s
  simp only[s,if_true]at e;rcases e with e|⟨_,_,_,e⟩
  ·left
   unfold Oper.wp at*;rw[execOp_put h E H g.dst t z]at e;generalize(execOp H.eval h).run P b=A at*
   cases A with
   |ok F q=>
    cases F<;>simp only[Oper.upon]at e⊢
    case value d=>exact⟨l d,by rw[<-Act.put_comm H t d k];exact e⟩
    case skip=>exact⟨l _,by rw[<-Act.put_comm H t undef k];exact e⟩
    case defer m=>exact⟨i m _,by rw[<-Act.put_comm _ t undef k,<-Act.put_defers];exact e⟩
    case enter f args=>
     refine Calls.mono e λI J j=>?_
     cases I with
     |returned d=>exact⟨l d,by rw[<-Act.put_comm H t d k];exact j⟩
     |panicked o=>exact u _ _ _ j
     |outgrown=>obtain⟨_,_,j⟩:=j;exact j.elim
    case row A args=>exact Rows.mono e λd J j=>⟨l d,by rw[<-Act.put_comm H t d k];exact j⟩
   |halt c q=>cases c<;>first|exact u _ _ _ e|exact(show False from e).elim
  ·exact e.elim
 ·rename_i s
  simp only[s]at e;exact⟨l _,by rw[<-Act.put_comm H t undef k];exact e⟩
def tZ{b:Bool}{k:List PanicEntry->Act->World->Prop}{l m:Nat->Prop}(g:∀n,l n->m n){o:Act->World->Prop}:∀(f:Nat) (d:World->Prop) (a:Array Bool) (h:Act) (e:World),
  Rl P ops b k m o f d a h e->Rl P ops b k l o f d a h e
 |0,_,_,_,_,c=>c
 |f+1,d,a,h,e,c=>⟨c.1,λq r=>by
   obtain⟨s,t⟩:=c.2 q r;refine⟨λi=>stOp_mono (λj c=>tZ g f d _ j e c) (s i),λi=>wpOp_mono (λj u ⟨p,v,w,x⟩=>⟨p,λy z=>v y (g _ z),w,tZ g f p _ j u x⟩) (t i)⟩⟩
def qi(N:∀c,f c->a2 c)(hE:∀T o h,f1 T (o.put O.dst t) h->f1 T o h)(I:ops[a]? =some O)(U:fh P ops a=true)(J:∀(c:Nat) (V:Oper) cs l,ops[c]? =some V->V.op≠.select cs l)(K:World->Prop):
  ∀(w:Nat) (p:World->Prop) (b:Array Bool) (o:Act) (h:World),
   (∀c q,ops[c]? =some q->c≠a->b.getD c true=false->(∀j∈q.after,Region.binds .any j=true->j.on≠a)->O.apart ops q=true)->
   a∈Region.ready .any ops b->(∀g,K g->YieldsAt P ops g O t o)->K h->p h->
   ((∀g,K g)\/(L=true/\(∀g,p g->K g)/\((∀c,a2 c)\/∃i,Ag ops a b i/\∀c,i.getD c false=true->a2 c))\/∃i,tY P ops a b i)->
   Rl P ops L f1 a2 f2 w p (b.setIfInBounds a true) (o.put O.dst t) h->Rl P ops L f1 f f2 (w+1) p b o h:=by
 intro w
 induction w with
 |zero=>
  intro p b o h _ m x u W _ y;refine⟨λd=>(by rw[d]at m;cases m),λc n=>?_⟩
  by_cases e:c=a
  ·subst e;exact⟨λ_=>(x h u).stOp I (tZ N _ _ _ _ _ y),λd=>(by rw[U]at d;cases d)⟩
  ·have:=ready_mono n e
   rw[y.1]at this
   cases this
 |succ w Q=>
  intro p b o h X m x u W Y y;refine⟨λd=>(by rw[d]at m;cases m),λc n=>?_⟩
  by_cases e:c=a
  ·subst e;exact⟨λ_=>(x h u).stOp I (tZ N _ _ _ _ _ y),λd=>(by rw[U]at d;cases d)⟩
  ·obtain⟨hS,hT⟩:=y.2 c (ready_mono n e)
   obtain⟨Z,q,z,a4⟩:=mem_ready.1 n;have a5:∀j∈q.after,Region.binds .any j=true->j.on≠a:=λj he hb b0=>by
    have h1:=a4 j he hb;rw[b0,GF (mem_ready.1 m).1]at h1
    cases h1
   have a6:=X c q z e Z a5;have R:∀v A,ops[v]? =some A->v≠a->(b.setIfInBounds c true).getD v true=false->
     (∀j∈A.after,Region.binds .any j=true->j.on≠a)->O.apart ops A=true:=λv A hk b1 a7 b2=>by
    refine X v A hk b1 ?_ b2
    by_cases a8:c=v
    ·subst a8;exact Z
    ·rw[getD_set_ne true a8]at a7;exact a7
   refine⟨λB=>?_,λB=>?_⟩
   ·have k:=LY z a6 (λcs l=>J a O cs l I) (λcs l=>J c q cs l z) x (hS B)
    refine stOp_mono (λM r=>Q p (b.setIfInBounds c true) M h R (ready_mono m (Ne.symm e)) r.1 u W ?_ ?_) k
    ·rcases Y with d|⟨s,d,k⟩|⟨i,d⟩
     ·exact .inl d
     ·exact .inr (.inl ⟨s,d,k.imp id λ⟨i,C,E⟩=>⟨i,(C.ready n e).2,E⟩⟩)
     ·exact .inr (.inr ⟨i,(d.ready n e).2⟩)
    ·rw[Array.setIfInBounds_comm _ _ e]
     exact r.2
   ·have k:=LZ hE z a6 (λcs l=>J a O cs l I) (λcs l=>J c q cs l z) x (hT B)
    refine wpOp_mono (λM w' r=>?_) k;obtain⟨r,F,S,H,hM⟩:=r;have a0:L=true->f c->∀g,F g->p g:=λs u=>S s (N _ u);rcases Y with d|⟨s,d,k⟩|⟨i,d⟩
    ·exact⟨F,a0,H,Q F (b.setIfInBounds c true) M w' R (ready_mono m (Ne.symm e)) r (d _) H (.inl d) (by rw[Array.setIfInBounds_comm _ _ e];exact hM)⟩
    ·have a9:a2 c:=by
      rcases k with k|⟨i,C,E⟩
      ·exact k c
      ·exact E c (C.ready n e).1
     exact⟨F,a0,H,Q F (b.setIfInBounds c true) M w' R (ready_mono m (Ne.symm e)) r (d _ (S s a9 _ H)) H (.inr (.inl ⟨s,λg hx=>d g (S s a9 g hx),k.imp id λ⟨i,C,E⟩=>⟨i,(C.ready n e).2,E⟩⟩)) (by rw[Array.setIfInBounds_comm _ _ e];exact hM)⟩
    ·rw[(d.ready n e).1]at B;cases B
end
def Tp(P:Bool)(b:Nat->Prop)(c:Value)(a:Prop):Prop:=match P with
 |false=>a
 |true=>match c with
  | .pointer (some d)=>¬b d.block/\a
  |_=>False
def iZ(P:Bool)(c:Nat->Prop)(b:World):World->Prop:=match P with
 |true=>λa=>ak c b a
 |false=>λa=>a=b
def Sf(P:Bool)(f:Nat->Prop)(c:Program)(d:Sem Value)(a:World)(e:Value):Prop:=match P with
 |true=>∀b,ak f a b->d.run c b= .ok e b
 |false=>d.run c a= .ok e a
def Rm(P:Bool)(b:Nat->Prop)(c d:World)(a:Prop):Prop:=match P with
 |true=>ak b c d/\a
 |false=>a
def P_(b:Program)(c:bM)(d:Oper)(f:Bool)(k:Nat->Prop)(g:cH->Prop)(P:cH)(l:World):Prop:=
 match d.op with
 | .load e m=>eL (known b e) (Tp f k (ev c P m) (nK b e (ev c P m) l λa=>g (bS P d.dst a)))
 | .indexAddr e h i=>eL (fJ b e) (PV b e (ev c P h) (ev c P i) λa=>g (bS P d.dst a))
 | .slice e h o p q=>eL (fJ b e) (PW b e (ev c P h) (o.map (ev c P)) (p.map (ev c P)) (q.map (ev c P)) λa=>g (bS P d.dst a))
 | .nilCheck h=>LX (ev c P h) λa=>g (bS P d.dst a)
 | .index e h i=>match b.underlying e with
  |some .string=>Er (ev c P h) (ev c P i) λa=>g (bS P d.dst a)
  |_=>False
 |_=>match LV (ev c P) d with
  |some j=>match Es b d with
   |true=>sC b d.type λa=>(match kindOf b d with
    |0=>∀n,j.run b n= .ok a n
    |_=>Sf f k b j l a)/\g (bS P d.dst a)
   |false=>match Ae b j with
    |some a=>g (bS P d.dst a)
    |none=>False
  |none=>False
def nK.Uu(l:∃o,h.underlying g=some o)(P:nK h g (.pointer (some c9)) b R):
  ∃a,(∀c,(∀f m,f.block=c9.block->b.cell? f=some m->c.cell? f=some m)->(Instr.loadAt g (.pointer (some c9))).run h c= .ok a c)/\R a:=by
 unfold nK at P;simp only at P;split at P
 ·rename_i i
  split at P
  ·rename_i y p
   split at P
   ·rename_i q
    obtain⟨j,r,P⟩:=N_.out P;obtain⟨k,P⟩:=gv.out P;obtain⟨s,n,_⟩:=CB p (by simp[undef]);have t:s.size=j.length:=by
     have:=Nat.eq_of_beq_eq_true q;rw[gw n]at this;simp[this,r]
    refine⟨_,λc d=>?_,P⟩;have u:∀e a,j[e]? =some a->c.cell? (c9.add e)=some a:=λe a v=>
     d _ _ (by unfold Addr.add;split<;>rfl) (by have:=k e a v;simpa using this)
    have w:=run_loadCells_list (P:=h) (w:=c) c9 j u;simp only[Instr.loadAt,Instr.sureAddr,loadVar,Sem.run_bind,Sem.run_pure,Result.andThen_ok,cK h g _ i l,if_true,cZ n,t,w]
   ·exact P.elim
  ·exact P.elim
 ·rename_i i
  obtain⟨a,x,P⟩:=ML.out P;refine⟨a,λc d=>?_,P⟩;have k:c.cell? c9=some a:=d _ _ rfl x;simp[Instr.loadAt,Instr.sureAddr,loadVar,cK h g _ i l,load,Sem.run,k]
def ak.Tq(c:ak f b k)(d:¬f c9.block)(P:b.cell? c9=some t):k.cell? c9=some t:=by
 have a:c9.block<b.heap.size:=by
  by_cases a:c9.block<b.heap.size
  ·exact a
  ·unfold World.cell? at P
   rw[show b.heap[c9.block]? =none by simp;omega]at P
   cases P
 unfold World.cell? at P⊢;rw[c.block _ a d];exact P
def Od(A:Rel a U N H)(B:Region.wanted O (yielded T H.tmps)=true)(P:P_ h U O L f f0 N b):
  ∃c,f0 (bS N O.dst c)/\((∀e,YieldsAt h T e O c H)\/(kindOf h O≠0/\∀e,iZ L f b e->YieldsAt h T e O c H)):=by
 have g:∀(o:Sem Value) c e,(∀b,(execOp (ev U N) O).run h b=(o.run h b).andThen λc C=>.ok (.value c) C)->o.run h e= .ok c e->YieldsAt h T e O c H:=by
  intro o c e r i;refine .inl ⟨B,.inl ?_⟩;rw[A.eval,r,i]
  rfl
 unfold P_ at P;split at P
 ·rename_i n e j
  obtain⟨p,P⟩:=eL.out P;have E:kindOf h O≠0:=by simp[kindOf,j]
  have s:∀(k:Addr),ev U N e= .pointer (some k)->(∀d,iZ L f b d->∀q t,q.block=k.block->b.cell? q=some t->d.cell? q=some t)->(nK h n (.pointer (some k)) b λc=>f0 (bS N O.dst c))->
    ∃c,f0 (bS N O.dst c)/\((∀e,YieldsAt h T e O c H)\/(kindOf h O≠0/\∀e,iZ L f b e->YieldsAt h T e O c H)):=by
   intro k m F P;obtain⟨c,i,P⟩:=nK.Uu (known.out p).1 P;exact⟨c,P,.inr ⟨E,λd l=>g (Instr.loadAt n (ev U N e)) c d (λb=>by simp[execOp,j]) (by rw[m];exact i d (F d l))⟩⟩
  unfold Tp at P;split at P
  ·have m:∃k,ev U N e= .pointer (some k):=by
    unfold nK at P;split at P
    ·exact⟨_,by assumption⟩
    ·exact P.elim
   obtain⟨k,m⟩:=m;rw[m]at P;exact s k m (λd l q t _ u=>by simp only[iZ]at l;rw[l];exact u) P
  ·split at P
   ·rename_i k m
    obtain⟨I,P⟩:=P;exact s k m (λd l q t p u=>by simp only[iZ]at l;exact l.Tq (by rw[p];exact I) u) (by rw[<-m];exact P)
   ·exact P.elim
 ·rename_i n e v j
  obtain⟨p,P⟩:=eL.out P;obtain⟨c,i,P⟩:=PV.out (fJ.out p) P;exact⟨c,P,.inl λd=>g (Instr.indexAt n (ev U N e) (ev U N v)) c d (λb=>by simp[execOp,j]) (i _)⟩
 ·rename_i n e J K M j
  obtain⟨p,P⟩:=eL.out P;obtain⟨c,i,P⟩:=PW.out (λN Q=>fJ.out p N (.inl Q)) P;exact⟨c,P,.inl λd=>g (Instr.sliceAt n (ev U N e) (J.map (ev U N)) (K.map (ev U N)) (M.map (ev U N))) c d (λb=>by simp[execOp,j]) (i _)⟩
 ·rename_i e j
  unfold LX at P;split at P
  ·rename_i k w
   obtain⟨q,x,rfl,P⟩:=P;exact⟨_,P,.inl λd=>g (.pure (.pointer (some ⟨q,x,none⟩))) _ d (λb=>by simp[execOp,j,w]) rfl⟩
  ·rename_i R first y w
   exact⟨_,P,.inl λd=>g (.pure (.func (.func R) first y)) _ d (λb=>by simp[execOp,j,w]) rfl⟩
  ·exact P.elim
 ·rename_i n e v j
  split at P
  ·rename_i z
   obtain⟨c,i,P⟩:=Er.out z P;exact⟨c,P,.inl λd=>g (Instr.index n (ev U N e) (ev U N v)) c d (λb=>by simp[execOp,j]) (i _)⟩
  ·exact P.elim
 ·split at P
  ·rename_i o r
   split at P
   ·obtain⟨c,i,P⟩:=sC.out P
    refine⟨c,P,?_⟩;split at i
    ·exact .inl λd=>g o c d (λb=>im r h b) (i d)
    ·rename_i S
     refine .inr ⟨S,λd l=>g o c d (λb=>im r h b) ?_⟩
     cases L with
     |true=>exact i d l
     |false=>simp only[iZ]at l;rw[l];exact i
   ·split at P
    ·rename_i c i
     exact⟨c,P,.inl λd=>g o c d (λb=>im r h b) (vI i _)⟩
    ·exact P.elim
  ·exact P.elim
def mZ(e:Array Oper)(f:Oper)(g:bM)(b:cH)(c P:cH->Prop):Prop:=match f.guard with
 |none=>c b
 |some (h,a)=>match iH e h with
  |none=>False
  |some d=>match get g b d with
   | .bool i=>an i
    (match a with
     |true=>c ((d,.bool true)::b)
     |false=>P ((d,.bool true)::b))
    (match a with
     |true=>P ((d,.bool false)::b)
     |false=>c ((d,.bool false)::b))
   | .tuple _=>P b
   |_=>False
def nB:List Nat->(Nat->Prop)->Prop
 |[],_=>True
 |a::b,P=>match b with
  |[]=>P a
  |_=>P a/\nB b P
def nB.out:∀{l:List Nat} {φ:Nat->Prop},nB l φ->∀b∈l,φ b
 |[],_,_,b,P=>by cases P
 |c::d,φ,a,b,P=>by
  unfold nB at a;split at a
  ·simp only[List.mem_singleton]at P
   subst P;exact a
  ·rcases List.mem_cons.1 P with rfl|P
   ·exact a.1
   ·exact nB.out a.2 b P
def TS(d:Program)(a:Array Oper)(b:Bool)(P:Array Bool)(c:Nat):Bool:=
 Region.free .any a P c&&(match lr d a c with
  |0=>true
  |_=>match b with
   |true=>true
   |false=>gB d a P c)
def m_(c:Program)(a:Array Oper)(b:Bool)(P:Array Bool)(d:Nat):Bool:=match b with
 |false=>false
 |true=>match lr c a d with
  |0=>false
  |_=>!gB c a P d
def wy(a:Array Oper)(P:Array Bool)(b:Nat)(d:Nat->Bool):Nat->Bool:=match pF a P b with
 |true=>(λM:Array Bool=>λc=>d c||M.getD c false) (lu a b a.size P)
 |false=>λ_=>true
def t_(e:Program)(a:Array Oper)(b:Bool)(P:Array Bool)(c:Nat)(d:Nat->Bool):Nat->Bool:=match m_ e a b P c with
 |true=>wy a P c d
 |false=>d
def Jf:∀P,f3 P=true->wy T X a f3 P=true:=by
 intro P b;unfold wy
 cases pF T X a with
 |true=>simp[b]
 |false=>rfl
def Jg:(∀P,wy T X a f3 P=true)\/∃b,Ag T a X b/\∀P,b.getD P false=true->wy T X a f3 P=true:=by
 unfold wy
 cases c:pF T X a with
 |true=>exact .inr ⟨_,GH c,λP d=>by simp only[d,Bool.or_true]⟩
 |false=>exact .inl λ_=>rfl
def ub(g:Program)(h:bM)(a:Array Oper)(b:Bool)(j:Nat->Prop)(l:List PanicEntry->List Deferred->World->Prop)(k:cH->List Deferred->World->Prop):(Nat->Bool)->Nat->Array Bool->cH->List Deferred->World->Prop
 |W,0,P,c,d,e=>eL (Region.ready .any a P).isEmpty (k c d e)
 |W,m+1,P,c,d,e=>match ri g a (Region.ready .any a P)with
  |some f=>eL (TS g a b P f) (match a[f]? with
   |none=>False
   |some i=>mZ a i h c (λc=>P_ g h i (m_ g a b P f) j (λc=>ub g h a b j l k (t_ g a b P f W) m (P.setIfInBounds f true) c d e) c e)
     (λc=>ub g h a b j l k W m (P.setIfInBounds f true) (bS c i.dst undef) d e))
  |none=>match Region.ready .any a P with
   |[]=>k c d e
   |o=>nB o λf=>match a[f]? with
    |none=>False
    |some i=>mZ a i h c (λc=>PY g a h i (λp _ _ d e=>match p with
     | .panic q=>l q d e
     |_=>False) (λc d n=>Rm (b&&W f) j e n (ub g h a b j l k W m (P.setIfInBounds f true) c d n)) c d e)
     (λc=>ub g h a b j l k W m (P.setIfInBounds f true) (bS c i.dst undef) d e)
def mZ.out{e c:cH->Prop}(r:∀o f,iH T o=some f->f<a)(i:Rel a U N H)(P:mZ T O U N e c):
  ∃j,Rel a U j H/\(∀g,get U j g=get U N g)/\((Region.wanted O (yielded T H.tmps)=true/\e j)\/(Region.wanted O (yielded T H.tmps)=false/\c j)):=by
 unfold mZ at P;split at P
 ·rename_i k
  exact⟨N,i,λ_=>rfl,.inl ⟨by simp[Region.wanted,k],P⟩⟩
 ·rename_i o b k
  split at P
  ·exact P.elim
  ·rename_i f q
   have d:=mX i q (r o f q);split at P
   ·rename_i l h
    rw[h]at d;simp only at d;have p:Region.wanted O (yielded T H.tmps)=(l==b):=by
     simp only[Region.wanted,k,d]
     cases l<;>cases b<;>rfl
    rw[p];have m:=i.again h;have n:∀g,get U ((f,.bool l)::N) g=get U N g:=qh h
    cases l<;>cases b<;>simp only[an]at P
    ·exact⟨_,m,n,.inl ⟨rfl,P⟩⟩
    ·exact⟨_,m,n,.inr ⟨rfl,P⟩⟩
    ·exact⟨_,m,n,.inr ⟨rfl,P⟩⟩
    ·exact⟨_,m,n,.inl ⟨rfl,P⟩⟩
   ·rename_i s h
    rw[h]at d;simp only at d;have p:Region.wanted O (yielded T H.tmps)=false:=by
     simp[Region.wanted,k,d]
    exact⟨N,i,λ_=>rfl,.inr ⟨p,P⟩⟩
   ·exact P.elim
def iZ.refl(P:Bool)(b:Nat->Prop)(a:World):iZ P b a a:=by
 cases P with
 |true=>exact⟨rfl,rfl,rfl,Nat.le_refl _,λ_ _ _=>rfl⟩
 |false=>rfl
def ak.chain(P:ak f b k)(a:ak f k a8):ak f b a8:=
 ⟨a.os.trans P.os,a.tape.trans P.tape,a.output.trans P.output,Nat.le_trans P.size a.size,λc d e=>(a.block c (Nat.lt_of_lt_of_le d P.size) e).trans (P.block c d e)⟩
def Ah(d:Nat)(e:bM)(f:cH)(g:List Nat)(h:gy):List PanicEntry->Act->World->Prop:=λi c j=>
 (∃P a,Rel d P a c/\(∀b,b∉g->get P a b=get e f b))/\∀P a,h (.panic i) P a c.defers j
def Ah.Ts{b:Option Tmp}(i:∀P,b=some P->P∈b1)(e:List PanicEntry)(c:Act)(f:World)(d:Ah a U N b1 c0 e (c.put b t) f):Ah a U N b1 c0 e c f:=by
 obtain⟨⟨l,m,g,j⟩,d⟩:=d;refine⟨⟨λP=>c.tmps.getD P undef,[],⟨?_,λP=>rfl⟩,λP h=>?_⟩,by simpa[put_defers]using d⟩
 ·have:=g.size
  cases b<;>simpa[Act.put]using this
 ·rw[<-j P h,<-g.slot]
  cases b with
  |none=>rfl
  |some b=>
   have k:b≠P:=by rintro rfl;exact h (i b rfl)
   show _=(c.tmps.setIfInBounds b t).getD P undef;simp only[Array.getD_eq_getD_getElem?];rw[Array.getElem?_setIfInBounds_ne k];simp[aw.get]
def Ah.post(b:List PanicEntry)(c:Act)(d:World)(P:Ah a U N b1 c0 b c d):cT a U N b1 c0 (.panic b) c d:=by
 obtain⟨⟨e,f,g,h⟩,P⟩:=P;exact⟨e,f,g,h,P e f⟩
def kH{j:Program}{x:Nat}{m B0:bM}{e0:cH}{W:List Nat}{a:Array Oper}{b:Bool}{y:Nat->Prop}{K:gy}(z:∀o c,iH a o=some c->c<x)(s:Region.noSelect a=true)(t:∀f∈a.toList,∀r,f.dst=some r->r<x/\r∈W):
  ∀(V:Nat->Bool) (p:Nat) (P:Array Bool) (k:cH) (i:Act) (g:World),Rel x m k i->(∀c,c∉W->get m k c=get B0 e0 c)->
   ub j m a b y (λE Y g=>∀m k,K (.panic E) m k Y g) (λk Y g=>K .normal m k Y g) V p P k i.defers g->Rl j a b (Ah x B0 e0 W K) (λo=>V o=true) (cT x B0 e0 W K .normal) p (iZ b y g) P i g
 |V,0,P,k,i,g,N,A,d=>by
  obtain⟨L,O⟩:=eL.out d;exact⟨by simpa using L,m,k,N,A,O⟩
 |V,p+1,P,k,i,g,N,A,d=>by
  have S:∀{e:Nat} {f:Oper},a[e]? =some f->∀(n:Value) (E:List PanicEntry) (i:Act) (g:World),Ah x B0 e0 W K E (i.put f.dst n) g->Ah x B0 e0 W K E i g:=by
   intro e f h n E i g;have M:f∈a.toList:=by
    obtain⟨b0,rfl⟩:=Array.getElem?_eq_some_iff.1 h;simp
   exact Ah.Ts (λc u=>(t f M c u).2) E i g
  have a5:∀{e:Nat} {f:Oper},a[e]? =some f->(∀r,f.dst=some r->r<x)/\∀(k:cH),(∀c,c∉W->get m k c=get B0 e0 c)->∀n c,c∉W->get m (bS k f.dst n) c=get B0 e0 c:=by
   intro e f h;have M:f∈a.toList:=by
    obtain⟨b0,rfl⟩:=Array.getElem?_eq_some_iff.1 h;simp
   refine⟨λr v=>(t f M r v).1,λk A n c u=>?_⟩
   cases v:f.dst with
   |none=>exact A c u
   |some r=>
    have b1:=(t f M r v).2;show get m ((r,n)::k) c=_;rw[dI,if_neg (by rintro rfl;exact u b1)];exact A c u
  unfold ub at d;split at d
  ·rename_i e F
   obtain⟨T,U⟩:=sF F;obtain⟨a6,d⟩:=eL.out d;split at d
   ·exact d.elim
   ·rename_i f h
    obtain⟨v,H⟩:=a5 h;simp only[TS,Bool.and_eq_true]at a6;obtain⟨b2,Z⟩:=a6;have X:=Region.free_spec h b2;obtain⟨q,l,a3,a0⟩:=mZ.out z N d;have B:∀c,c∉W->get m q c=get B0 e0 c:=λc u=>(a3 c).trans (A c u);rcases a0 with⟨I,d⟩|⟨I,d⟩
    ·obtain⟨n,w,C⟩:=Od l I d
     have a1:∀o,V o=true->t_ j a b P e V o=true:=by
      intro o hj;unfold t_
      cases m_ j a b P e with
      |true=>exact Jf o hj
      |false=>exact hj
     have next:=kH z s t (t_ j a b P e V) p (P.setIfInBounds e true) (bS q f.dst n) (i.put f.dst n) g (l.put _ v _) (H q B n) (by rw[put_defers];exact w);rcases C with C|⟨Q,C⟩
     ·exact qi a1 (S h _) h U (Region.noSelect_spec s) (λ_=>True) p _ P i g X T (λa2 _=>C a2) trivial (iZ.refl ..) (.inl λ_=>trivial) next
     ·have a7:lr j a e=kindOf j f:=by simp[lr,h]
      rw[a7]at Z;have b3:(m_ j a b P e=true/\b=true)\/(m_ j a b P e=false/\gB j a P e=true):=by
       cases b with
       |false=>
        right;refine⟨rfl,?_⟩;split at Z
        ·rename_i R;exact absurd R Q
        ·simpa using Z
       |true=>
        have M:m_ j a true P e= !gB j a P e:=by
         unfold m_;rw[a7];generalize kindOf j f=a8 at Q
         cases a8 with
         |zero=>exact absurd rfl Q
         |succ a8=>rfl
        rw[M]
        cases hb:gB j a P e with
        |true=>right;simp
        |false=>left;simp
      rcases b3 with⟨L,O⟩|⟨L,O⟩
      ·rw[L]at C
       subst O;have hg:(∀o,t_ j a true P e V o=true)\/∃a9,Ag a e P a9/\∀o,a9.getD o false=true->t_ j a true P e V o=true:=by
        unfold t_;rw[L];exact Jg
       exact qi a1 (S h _) h U (Region.noSelect_spec s) (iZ true y g) p _ P i g X T C (iZ.refl ..) (iZ.refl ..) (.inr (.inl ⟨rfl,λ_ d=>d,hg⟩)) next
      ·rw[L]at C
       exact qi a1 (S h _) h U (Region.noSelect_spec s) (iZ false y g) p _ P i g X T C (iZ.refl ..) (iZ.refl ..) (.inr (.inr (BO O))) next
    ·have next:=kH z s t V p (P.setIfInBounds e true) (bS q f.dst undef) (i.put f.dst undef) g (l.put _ v _) (H q B _) (by rw[put_defers];exact d)
     exact qi (λ_ d=>d) (S h _) h U (Region.noSelect_spec s) (λ_=>True) p _ P i g X T (λa2 _=>.inr ⟨I,rfl⟩) trivial (iZ.refl ..) (.inl λ_=>trivial) next
  ·rename_i hn
   have b4:=Af hn;split at d
   ·rename_i R
    exact⟨λ_=>⟨m,k,N,A,d⟩,λe F=>(by rw[R]at F;cases F)⟩
   ·rename_i b5
    refine⟨λR=>absurd R (by simpa using b5),λe F=>⟨λhs=>(by rw[b4 e F]at hs;cases hs),λ_=>?_⟩⟩;have d:=nB.out d e F;split at d
    ·exact d.elim
    ·rename_i f h
     obtain⟨v,H⟩:=a5 h;obtain⟨q,l,a3,a0⟩:=mZ.out z N d;have B:∀c,c∉W->get m q c=get B0 e0 c:=λc u=>(a3 c).trans (A c u);unfold wpOp;simp only[h];rcases a0 with⟨I,d⟩|⟨I,d⟩
     ·rw[if_pos I]
      refine .inl (Je l v d (λn a' J a4 w=>?_) λE J hq=>⟨⟨m,q,l,B⟩,hq⟩)
      cases b with
      |true=>
       cases hV:V e with
       |true=>
        rw[hV]at w;obtain⟨Q,w⟩:=w;exact⟨iZ true y J,λ_ _ a2 hx=>Q.chain hx,iZ.refl ..,kH z s t V p _ _ a' J a4 (H q B n) w⟩
       |false=>
        rw[hV]at w;exact⟨iZ true y J,λ_ d=>(by cases d),iZ.refl ..,kH z s t V p _ _ a' J a4 (H q B n) w⟩
      |false=>exact⟨iZ false y J,λd=>(by cases d),iZ.refl ..,kH z s t V p _ _ a' J a4 (H q B n) w⟩
     ·rw[if_neg (by rw[I];simp)]
      exact⟨iZ b y g,λ_ _ _ d=>d,iZ.refl ..,kH z s t V p _ _ (i.put f.dst undef) g (l.put _ v _) (H q B _) (by rw[put_defers];exact d)⟩
structure fX where
 aN:List Nat
 Sg:List Nat
 kinds:List Nat
def bit(P:Nat):Nat:=Nat.shiftLeft 1 P
def Kx(b:Oper):Nat:=b.after.foldl (λP a=>match Region.binds .any a with|true=>Nat.lor P (bit a.on)|false=>P) 0
def Jh(P:Array Oper)(a:Nat):Nat:=(List.range P.size).foldl (λc b=>match Nat.beq b a||(match P[a]?,P[b]? with
 |some B,some d=>d.after.any (λe=>Region.binds .any e&&e.on==a)||B.apart P d
 |_,none=>true
 |none,_=>false)with|true=>Nat.lor c (bit b)|false=>c) 0
def L_:List Nat->List Nat->Bool
 |[],[]=>true
 |a::P,b::c=>Nat.beq a b&&L_ P c
 |_,_=>false
def fX.ok(b:Program)(P:Array Oper)(a:fX):Bool:=
 L_ a.aN (P.toList.map Kx)&&L_ a.Sg ((List.range P.size).map (Jh P))&&L_ a.kinds (P.toList.map (kindOf b))
def hasB(P a:Nat):Bool:=Nat.testBit P a
def gC(a:fX)(c b:Nat):List Nat:=(List.range c).filter λP=>!hasB b P&&Nat.beq (Nat.land (a.aN.getD P 0) b) (a.aN.getD P 0)
def Ev(P:fX)(a:Nat):Bool:=!Nat.beq (P.kinds.getD a 2) 2
def GI(P:fX):List Nat->Option Nat
 |[]=>none
 |a::b=>match Ev P a with
  |true=>some a
  |false=>GI P b
def vJ(b:fX)(c d:Nat):Nat->Nat->Nat
 |0,P=>P
 |f+1,P=>match(gC b c P).find? (λa=>!Nat.beq a d)with
  |some a=>vJ b c d f (Nat.lor P (bit a))
  |none=>P
def wA(P a:Nat):(bit P).testBit a=decide (P=a):=by
 unfold bit;show(1<<<P).testBit a=_;rw[Nat.one_shiftLeft,Nat.testBit_two_pow]
def nd{f:Type}(b:f->Bool)(c:f->Nat)(a:Nat):∀(d:List f) (P:Nat),(d.foldl (λP e=>match b e with|true=>Nat.lor P (bit (c e))|false=>P) P).testBit a=(P.testBit a||d.any λe=>b e&&c e==a)
 |[],P=>by simp
 |e::d,P=>by
  rw[List.foldl_cons,nd b c a d]
  cases g:b e with
  |false=>simp[g]
  |true=>
   simp only[g,List.any_cons,Bool.true_and];show((P|||bit (c e)).testBit a||_)=_;rw[Nat.testBit_or,wA,Bool.or_assoc]
   congr 2
def wB(b:Oper)(a:Nat):(Kx b).testBit a=b.after.any λP=>Region.binds .any P&&P.on==a:=by
 unfold Kx;rw[<-Array.foldl_toList,nd (λP=>Region.binds .any P) (λP=>P.on) a];simp
def land_eq:Nat.beq (Nat.land a c) a=true↔∀P,a.testBit P=true->c.testBit P=true:=by
 constructor
 ·intro b P d
  have b:=Nat.eq_of_beq_eq_true b;have:(a&&&c).testBit P=true:=by
   show(Nat.land a c).testBit P=true;rw[b];exact d
  rw[Nat.testBit_and]at this;simp at this;exact this.2
 ·intro b
  have:a&&&c=a:=by
   apply Nat.eq_of_testBit_eq;intro P;rw[Nat.testBit_and]
   cases e:a.testBit P with
   |false=>rfl
   |true=>rw[b P e];rfl
  show Nat.beq (a&&&c) a=true;rw[this];exact Nat.beq_refl a
def L_.out:∀{l b:List Nat},L_ l b=true->l=b
 |[],[],_=>rfl
 |[],_::_,P=>by cases P
 |_::_,[],P=>by cases P
 |a::l,c::b,P=>by
  simp only[L_,Bool.and_eq_true]at P;rw[Nat.eq_of_beq_eq_true P.1,L_.out P.2]
structure Ew (listed:Array Bool) (n N:Nat):Prop where
 size:listed.size=n
 bit:∀i,listed.getD i false=N.testBit i
def Ew.set(P:Ew X a c)(e:i<a):Ew (X.setIfInBounds i true) a (Nat.lor c (aw.bit i)):=by
 refine⟨by simp[P.size],λb=>?_⟩;show _=(c|||aw.bit i).testBit b;rw[Nat.testBit_or,wA,<-P.bit b]
 by_cases d:i=b
 ·subst d
  have:i<X.size:=by rw[P.size];exact e
  simp[this]
 ·rw[getD_set_ne false d];simp[d]
variable{b5:fX}
def pG(f:b5.ok h T=true)(e:Ew X T.size a):Region.ready .any T X=gC b5 T.size a:=by
 unfold fX.ok at f;simp only[Bool.and_eq_true]at f;have k:=L_.out f.1.1;unfold Region.ready gC;refine List.filter_congr λP b=>?_;have b:=List.mem_range.1 b;have l:X.getD P true=a.testBit P:=by
  rw[<-e.bit P];have:P<X.size:=by rw[e.size];exact b
  simp[this]
 have m:b5.aN.getD P 0=Kx T[P]:=by
  rw[k];simp[b]
 rw[l,m,Array.getElem?_eq_getElem b];simp only[Option.map_some,Option.getD_some,hasB]
 congr 1
 rw[Bool.eq_iff_iff,land_eq];rw[Array.all_eq_true_iff_forall_mem];constructor
 ·intro g n j
  rw[wB]at j;obtain⟨c,i,d⟩:=Array.any_eq_true'.1 j;simp only[Bool.and_eq_true,beq_iff_eq]at d;have:=g c i;rw[d.1,e.bit,d.2]at this;simpa using this
 ·intro g c i
  cases d:Region.binds .any c with
  |false=>rfl
  |true=>
   rw[e.bit];have:=g c.on (by rw[wB];exact Array.any_eq_true'.2 ⟨c,i,by simp[d]⟩);simp[this]
def ud(P:b5.ok h T=true)(b:a<T.size):b5.kinds.getD a 2=lr h T a/\Ev b5 a=fh h T a:=by
 unfold fX.ok at P;simp only[Bool.and_eq_true]at P;have d:=L_.out P.2;have c:b5.kinds.getD a 2=lr h T a:=by
  rw[d];unfold lr;rw[Array.getElem?_eq_getElem b];simp[b]
 refine⟨c,?_⟩;unfold Ev fh;rw[c];generalize lr h T a=k
 match k with
 |0=>rfl
 |1=>rfl
 |2=>rfl
 |k+3=>rfl
def Ky{b:Program}{P:Array Oper}{d:fX}(e:d.ok b P=true):∀(c:List Nat),(∀a∈c,a<P.size)->GI d c=ri b P c
 |[],_=>rfl
 |a::g,f=>by
  unfold GI ri;rw[(ud e (f a (List.mem_cons_self ..))).2,Ky e g λh i=>f h (List.mem_cons_of_mem _ i)]
  try(cases fh b P a<;>rfl)
def ue(P:i∈gC b5 a c):i<a:=List.mem_range.1 (List.mem_filter.1 P).1
def uf{i:Program}{a:Array Oper}{e:fX}(g:e.ok i a=true)(c:Nat):∀(f:Nat) {P:Array Bool} {d:Nat},Ew P a.size d->Ew (lu a c f P) a.size (vJ e a.size c f d)
 |0,_,_,b=>b
 |f+1,P,d,b=>by
  unfold lu vJ;rw[pG g b]
  cases j:(gC e a.size d).find? (λh=>!Nat.beq h c)with
  |some h=>exact uf g c f (b.set (ue (List.mem_of_find?_eq_some j)))
  |none=>exact b
def ug(b:fX)(a e c:Nat):Bool:=
 (λd:Nat=>!hasB d c&&(gC b a d).all (λP=>Nat.beq P c)&&(List.range a).all λP=>!hasB d P||Ev b P||hasB e P) (vJ b a c a e)
def Ew.Tt(P:Ew X a c)(b:i<a):X.getD i true=c.testBit i:=by
 rw[<-P.bit i];have:i<X.size:=by rw[P.size];exact b
 simp[this]
def Ai(P:b5.ok h T=true)(d:Ew X T.size a)(e:c<T.size):ug b5 T.size a c=gB h T X c:=by
 have b:=uf P c T.size d;unfold ug gB;simp only;rw[pG P b,b.Tt e]
 congr 1
 rw[Bool.eq_iff_iff,List.all_eq_true,List.all_eq_true];refine forall_congr' λg=>forall_congr' λf=>?_;rw[(ud P (List.mem_range.1 f)).2,b.bit,d.bit]
 rfl
def Oe(a:fX)(b c d:Nat):Bool:=(List.range b).all λP=>hasB (a.Sg.getD d 0) P||hasB c P
def Qa(f:b5.ok h T=true)(l:Ew X T.size a)(g:c<T.size):Oe b5 T.size a c=Region.free .any T X c:=by
 unfold fX.ok at f;simp only[Bool.and_eq_true]at f;have m:=L_.out f.1.2;have d:b5.Sg.getD c 0=Jh T c:=by rw[m];simp[g]
 unfold Oe Region.free;rw[d,Array.getElem?_eq_getElem g];simp only;rw[Bool.eq_iff_iff,List.all_eq_true,List.all_eq_true];refine forall_congr' λP=>forall_congr' λe=>?_;have e:=List.mem_range.1 e;rw[l.Tt e,Array.getElem?_eq_getElem e];unfold hasB Jh;rw[nd (λP=>Nat.beq P c||(match T[c]?,T[P]? with
  |some H,some k=>k.after.any (λd=>Region.binds .any d&&d.on==c)||H.apart T k
  |_,none=>true
  |none,_=>false)) (λP=>P) P]
 rw[Nat.zero_testBit,Bool.false_or];have b:∀i:Nat->Bool,((List.range T.size).any λd=>i d&&d==P)=i P:=λi=>by
  rw[Bool.eq_iff_iff,List.any_eq_true];constructor
  ·rintro⟨p,_,j⟩
   simp only[Bool.and_eq_true,beq_iff_eq]at j;rw[<-j.2];exact j.1
  ·intro n
   exact⟨P,List.mem_range.2 e,by simp[n]⟩
 rw[b];simp only[Array.getElem?_eq_getElem g,Array.getElem?_eq_getElem e];have o:(Nat.beq P c)=(P==c):=by rw[Bool.eq_iff_iff,Nat.beq_eq,beq_iff_eq]
 rw[o]
 cases(P==c)<;>cases a.testBit P<;>simp
def Uv(a:fX)(P:Bool)(c d b:Nat):Bool:=
 Oe a c d b&&(match a.kinds.getD b 2 with
  |0=>true
  |_=>match P with
   |true=>true
   |false=>ug a c d b)
def Kz(a:fX)(P:Bool)(c d b:Nat):Bool:=match P with
 |false=>false
 |true=>match a.kinds.getD b 2 with
  |0=>false
  |_=>!ug a c d b
def Ji(a:fX)(P c b:Nat):Bool:=(λd:Nat=>(gC a P d).all (λe=>Nat.beq e b)) (vJ a P b P c)
def Of(a:fX)(P b c:Nat)(e:Nat->Bool):Nat->Bool:=match Ji a P b c with
 |true=>(λf:Nat=>λd=>e d||hasB f d) (vJ a P c P b)
 |false=>λ_=>true
def Og(a:fX)(P:Bool)(b c d:Nat)(e:Nat->Bool):Nat->Bool:=match Kz a P b c d with
 |true=>Of a b c d e
 |false=>e
def Oh(P:b5.ok h T=true)(b:Ew X T.size a):Ji b5 T.size a c=pF T X c:=by
 have d:=uf P c T.size b;unfold Ji pF;simp only;rw[pG P d]
def Qb(P:b5.ok h T=true)(b:Ew X T.size a):Of b5 T.size a c f3=wy T X c f3:=by
 have d:=uf P c T.size b;unfold Of wy;rw[Oh P b]
 cases pF T X c
 ·rfl
 ·simp only
  funext j
  rw[d.bit]
  rfl
def rk(k:Program)(i:bM)(a:Array Oper)(c:fX)(h:Nat)(P:Bool)(l:Nat->Prop)(n:List PanicEntry->List Deferred->World->Prop)(m:cH->List Deferred->World->Prop):(Nat->Bool)->Nat->Nat->cH->List Deferred->World->Prop
 |W,0,d,b,e,f=>eL (gC c h d).isEmpty (m b e f)
 |W,o+1,d,b,e,f=>match GI c (gC c h d)with
  |some g=>eL (Uv c P h d g) (match a[g]? with
   |none=>False
   |some j=>mZ a j i b (λb=>P_ k i j (Kz c P h d g) l (λb=>rk k i a c h P l n m (Og c P h d g W) o (Nat.lor d (bit g)) b e f) b f)
     (λb=>rk k i a c h P l n m W o (Nat.lor d (bit g)) (bS b j.dst undef) e f))
  |none=>match gC c h d with
   |[]=>m b e f
   |q=>nB q λg=>match a[g]? with
    |none=>False
    |some j=>mZ a j i b (λb=>PY k a i j (λr _ _ e f=>match r with
     | .panic s=>n s e f
     |_=>False) (λb e p=>Rm (P&&W g) l f p (rk k i a c h P l n m W o (Nat.lor d (bit g)) b e p)) b e f)
     (λb=>rk k i a c h P l n m W o (Nat.lor d (bit g)) (bS b j.dst undef) e f)
def wC{c d:Nat->Prop}:∀{b:List Nat},(∀P∈b,c P=d P)->nB b c=nB b d
 |[],_=>rfl
 |[P],a=>by
  unfold nB;exact a P (List.mem_cons_self ..)
 |P::g::h,a=>by
  unfold nB;rw[a P (List.mem_cons_self ..),wC λe f=>a e (List.mem_cons_of_mem _ f)]
def pH{g:Program}{l:bM}{P:Array Oper}{h:fX}(i:h.ok g P=true){b:Bool}{m:Nat->Prop}{n:List PanicEntry->List Deferred->World->Prop}{o:cH->List Deferred->World->Prop}:∀(W:Nat->Bool) (k:Nat) {a:Array Bool} {f:Nat},Ew a P.size f->
  rk g l P h P.size b m n o W k f=ub g l P b m n o W k a
 |W,0,a,f,j=>by
  funext e ds w
  unfold rk ub;rw[pG i j]
 |W,k+1,a,f,j=>by
  have p:∀W c,c<P.size->rk g l P h P.size b m n o W k (Nat.lor f (bit c))=ub g l P b m n o W k (a.setIfInBounds c true):=λW c d=>pH i W k (j.set d);have r:GI h (gC h P.size f)=ri g P (gC h P.size f):=Ky i _ λc d=>ue d
  funext e ds w
  unfold rk ub;rw[pG i j,r]
  cases s:ri g P (gC h P.size f)with
  |some c=>
   have d:c<P.size:=ue (sF s).1;have t:Uv h b P.size f c=TS g P b a c:=by
    unfold Uv TS;rw[Qa i j d,(ud i d).1,Ai i j d]
    try(cases lr g P c<;>cases b<;>rfl)
   have q:Kz h b P.size f c=m_ g P b a c:=by
    unfold Kz m_;rw[(ud i d).1,Ai i j d]
   have u:Og h b P.size f c W=t_ g P b a c W:=by
    unfold Og t_;rw[q,Qb i j]
   simp only[t,q,u,p _ c d]
   try(cases P[c]? <;>rfl)
  |none=>
   cases v:gC h P.size f with
   |nil=>rfl
   |cons x y=>
    simp only;refine wC λc d=>?_;have d:c<P.size:=ue (by rw[v];exact d);simp only[p _ c d]
    try(cases P[c]? <;>rfl)
def Rn(a:List (Nat×fX))(P:Nat):Option fX:=match a with
 |[]=>none
 |(b,c)::d=>match Nat.beq b P with
  |true=>some c
  |false=>Rn d P
def Ew.init(P:Nat):Ew (Array.replicate P false) P 0:=⟨by simp,λb=>by
 rw[Nat.zero_testBit]
 by_cases a:b<P
 ·simp[a]
 ·simp[a]⟩
def key:Code->Option Nat
 | .region id _ _=>some id
 | .seq a b=>match key a with
  |some c=>some c
  |none=>key b
 | .cond _ a b=>match key a with
  |some c=>some c
  |none=>key b
 | .block _ P=>key P
 | .loop P=>key P
 | .scope P=>key P
 |_=>none
def CC:List Oper->List Nat
 |[]=>[]
 |a::P=>match a.dst with
  |some b=>b::CC P
  |none=>CC P
def writes:Code->List Nat
 | .region _ a _=>CC a.toList
 | .seq b c=>writes b++writes c
 | .cond _ b c=>writes b++writes c
 | .block _ P=>writes P
 | .loop P=>writes P
 | .scope P=>writes P
 |_=>[]
def jz{b:List Oper}(P:O∈b)(c:O.dst=some a):a∈CC b:=by
 induction b with
 |nil=>cases P
 |cons e f d=>
  unfold CC
  cases P with
  |head=>rw[c];exact List.mem_cons_self ..
  |tail _ P=>split<;>simp[d P]
structure jr where
 loops:List (Nat×List (Nat×Value))
 NL:List (Nat×List (Nat×Value))
 keeps:List Nat
 NK:List Nat
 Tu:List (Nat×fX)
def Ma(a:List (Nat×List (Nat×Value)))(P:Option Nat):Option (List (Nat×Value)):=match P with
 |none=>none
 |some P=>match a with
  |[]=>none
  |(b,c)::d=>match Nat.beq b P with
   |true=>some c
   |false=>Ma d (some P)
def BP(a:List Nat)(P:Nat):Bool:=match a with
 |[]=>false
 |d::b=>match Nat.beq d P with
  |true=>true
  |false=>BP b P
def eh(a:List Nat):cH->(cH->Prop)->Prop
 |[],P=>P []
 |(b,d)::c,P=>match BP a b with
  |true=>eh a c P
  |false=>eh a c λe=>P ((b,d)::e)
def Fn:List Value->Type->Type
 |[],P=>P
 |z::a,P=>match z with
  | .int _ _=>Int->Fn a P
  | .bool _=>Bool->Fn a P
  | .string _=>ByteArray->Fn a P
  | .slice _ _ _=>Option Addr->Nat->Nat->Fn a P
  | .pointer (some _)=>Nat->Nat->Fn a P
  | .pointer none=>Option Addr->Fn a P
  | .map _=>Option Nat->Fn a P
  |_=>Value->Fn a P
def ap:(a:List Value)->Fn a (World->Prop)->List Value->World->Prop
 |[],P,_,b=>P b
 |z::a,P,c,b=>match c with
  |[]=>False
  |v::c=>match z,P with
   | .int f _,P=>match v with
    | .int g d=>eL (decide (g=f)) (ap a (P d) c b)
    |_=>False
   | .bool _,P=>match v with
    | .bool e=>ap a (P e) c b
    |_=>False
   | .string _,P=>match v with
    | .string h=>ap a (P h) c b
    |_=>False
   | .slice _ _ _,P=>match v with
    | .slice i d j=>ap a (P i d j) c b
    |_=>False
   | .pointer (some _),P=>match v with
    | .pointer (some ⟨e,k,none⟩)=>ap a (P e k) c b
    |_=>False
   | .pointer none,P=>match v with
    | .pointer l=>ap a (P l) c b
    |_=>False
   | .map _,P=>match v with
    | .map m=>ap a (P m) c b
    |_=>False
   | .float _ _,P=>ap a (P v) c b
   | .complex _ _ _,P=>ap a (P v) c b
   | .chan _,P=>ap a (P v) c b
   | .func _ _ _,P=>ap a (P v) c b
   | .nilFunc,P=>ap a (P v) c b
   | .iface _ _,P=>ap a (P v) c b
   | .nilIface,P=>ap a (P v) c b
   | .agg _,P=>ap a (P v) c b
   | .tuple _,P=>ap a (P v) c b
def lv:List Value->(List Value->Prop)->Prop
 |[],a=>a []
 |z::b,a=>match z with
  | .int e _=>∀c,lv b λP=>a (.int e c::P)
  | .bool _=>∀d,lv b λP=>a (.bool d::P)
  | .string _=>∀f,lv b λP=>a (.string f::P)
  | .slice _ _ _=>∀g c h,lv b λP=>a (.slice g c h::P)
  | .pointer (some _)=>∀d i,lv b λP=>a (.pointer (some ⟨d,i,none⟩)::P)
  | .pointer none=>∀j,lv b λP=>a (.pointer j::P)
  | .map _=>∀k,lv b λP=>a (.map k::P)
  |_=>∀l,lv b λP=>a (l::P)
def ap.all:∀{g:List Value} {i:Fn g (World->Prop)} {e:List Value} {j:World} {φ:List Value->Prop},e.length=g.length->ap g i e j->lv g φ->φ e
 |[],i,e,j,φ,h,_,d=>by
  cases e with
  |nil=>exact d
  |cons f e=>simp at h
 |z::g,i,e,j,φ,h,P,d=>by
  cases e with
  |nil=>simp at h
  |cons f e=>
   have b:e.length=g.length:=by simpa using h
   cases z
   case pointer r=>
    cases r with
    |none=>
     simp only[lv]at d
     cases f<;>try exact P.elim
     rename_i a;exact ap.all (φ:=λc=>φ (.pointer a::c)) b P (d a)
    |some _=>
     simp only[lv]at d
     cases f<;>try exact P.elim
     rename_i a
     cases a with
     |none=>exact P.elim
     |some a=>
      obtain⟨l,m,n⟩:=a
      cases n with
      |some n=>exact P.elim
      |none=>exact ap.all (φ:=λc=>φ (.pointer (some ⟨l,m,none⟩)::c)) b P (d l m)
   all_goals simp only[lv]at d
   case int k _=>
    cases f<;>try exact P.elim
    rename_i s o;obtain⟨t,P⟩:=eL.out P;obtain rfl:=of_decide_eq_true t;exact ap.all (φ:=λc=>φ (.int s o::c)) b P (d o)
   case bool=>
    cases f<;>try exact P.elim
    rename_i a;exact ap.all (φ:=λc=>φ (.bool a::c)) b P (d a)
   case string=>
    cases f<;>try exact P.elim
    rename_i a;exact ap.all (φ:=λc=>φ (.string a::c)) b P (d a)
   case slice=>
    cases f<;>try exact P.elim
    rename_i a p q;exact ap.all (φ:=λc=>φ (.slice a p q::c)) b P (d a p q)
   case map=>
    cases f<;>try exact P.elim
    rename_i a;exact ap.all (φ:=λc=>φ (.map a::c)) b P (d a)
   all_goals exact ap.all (φ:=λc=>φ (f::c)) b P (d f)
def GJ:BP b1 a=true↔a∈b1:=by
 induction b1 with
 |nil=>simp[BP]
 |cons P c b=>
  unfold BP
  cases h:Nat.beq P a with
  |true=>
   have:=Nat.eq_of_beq_eq_true h;simp[this]
  |false=>
   have:P≠a:=by rintro rfl;simp at h
   simp only[b,List.mem_cons];constructor
   ·exact .inr
   ·rintro(rfl|h)
    ·exact absurd rfl this
    ·exact h
def eh.out{e:List Nat}:∀{l:cH} {g:cH->Prop},eh e l g->∃c,(∀a P,P∉e->get a c P=get a l P)/\(∀a P,P∈e->get a c P=a P)/\g c
 |[],g,b=>⟨[],λ_ _ _=>rfl,λ_ _ _=>rfl,b⟩
 |(i,m)::n,g,b=>by
  unfold eh at b;split at b
  ·rename_i h
   have f:i∈e:=GJ.1 h;obtain⟨c,j,k,b⟩:=eh.out b;refine⟨c,λa P d=>?_,k,b⟩;rw[j a P d,dI,if_neg (by rintro rfl;exact d f)]
  ·rename_i h
   have f:i∉e:=λf=>by rw[GJ.2 f]at h;cases h
   obtain⟨c,j,k,b⟩:=eh.out b;refine⟨(i,m)::c,λa P d=>?_,λa P d=>?_,b⟩
   ·rw[dI,dI,j a P d]
   ·rw[dI,if_neg (by rintro rfl;exact f d),k a P d]
def gD:List (Nat×Value)->List Value
 |[]=>[]
 |(_,P)::a=>P::gD a
def xP(P:bM)(a:cH):List (Nat×Value)->List Value
 |[]=>[]
 |(b,_)::c=>get P a b::xP P a c
def wD:List (Nat×Value)->List Value->cH->cH
 |(a,_)::b,c::d,P=>(a,c)::wD b d P
 |_,_,P=>P
def iI(P:bM)(a:cH):∀b,(xP P a b).length=(gD b).length
 |[]=>rfl
 |(_,_)::c=>by simp[xP,gD,iI P a c]
def CD(b:bM)(a:Nat->Value)(c:cH):∀(g:List (Nat×Value)) (P:Nat),(∀h,get b c h=a h)->get b (wD g (g.map λd=>a d.1) c) P=a P
 |[],P,e=>e P
 |(i,k)::f,P,e=>by
  show get b ((i,a i)::wD f (f.map λd=>a d.1) c) P=_;rw[dI];split
  ·rename_i j;rw[j]
  ·exact CD b a c f P e
def yh(P:bM)(a:cH):∀b,xP P a b=b.map λc=>get P a c.1
 |[]=>rfl
 |(_,_)::d=>by simp[xP,yh P a d]
def Aj(P a:List Deferred)(b:Prop):Prop:=match P,a with
 |[],[]=>b
 |P,a=>P=a/\b
def Aj.out{P b:List Deferred}(a:Aj P b K):P=b/\K:=by
 unfold Aj at a;split at a
 ·exact⟨rfl,a⟩
 ·exact a
def Ak(e:bM->cH->List Deferred->World->Prop)(d:gy):gy:=λf P a b c=>match f with
 | .normal=>e P a b c
 | .exit id=>d (.exit id) P a b c
 | .goto g=>d (.goto g) P a b c
 | .ret=>d .ret P a b c
 | .panic h=>d (.panic h) P a b c
 | .outgrown=>False
def vK(id:Nat)(P:gy):gy:=λf a b c d=>match f with
 | .exit e=>match Nat.beq e id with
  |true=>P .normal a b c d
  |false=>P (.exit e) a b c d
 | .normal=>P .normal a b c d
 | .goto g=>P (.goto g) a b c d
 | .ret=>P .ret a b c d
 | .panic h=>P (.panic h) a b c d
 | .outgrown=>False
def Ex(P:gy):gy:=λx a b c d=>match x with
 | .goto _=>False
 |x=>P x a b c d
def D(h:Program)(i:jr):Code->gy->bM->cH->List Deferred->World->Prop
 | .skip,e,c,P,a,b=>e .normal c P a b
 | .label _,e,c,P,a,b=>e .normal c P a b
 | .exit id,e,c,P,a,b=>e (.exit id) c P a b
 | .ret,e,c,P,a,b=>e .ret c P a b
 | .region id d n,e,c,P,a,b=>match n with
  |false=>Ad h c d e d.toList (λP a b=>e .normal c P a b) P a b
  |true=>match Kw h d.toList with
   |false=>eL (Region.lexB .any d) (rf h c d d.toList (λP=>∀f,bC b f->e .normal c P a f) P b)
   |true=>eL (Region.noSelect d) (match Rn i.Tu id with
    |none=>match BP i.keeps id with
     |true=>∀f,bC b f->∃g:Nat->Prop,ub h c d true g (λk a b=>∀c P,e (.panic k) c P a b) (λP a b=>e .normal c P a b) (λ_=>!BP i.NK id) d.size (Array.replicate d.size false) P a f
     |false=>∀f,bC b f->ub h c d false (λ_=>False) (λk a b=>∀c P,e (.panic k) c P a b) (λP a b=>e .normal c P a b) (λ_=>true) d.size (Array.replicate d.size false) P a f
    |some s=>eL (s.ok h d) (match BP i.keeps id with
     |true=>∀f,bC b f->∃g:Nat->Prop,rk h c d s d.size true g (λk a b=>∀c P,e (.panic k) c P a b) (λP a b=>e .normal c P a b) (λ_=>!BP i.NK id) d.size 0 P a f
     |false=>∀f,bC b f->rk h c d s d.size false (λ_=>False) (λk a b=>∀c P,e (.panic k) c P a b) (λP a b=>e .normal c P a b) (λ_=>true) d.size 0 P a f))
 | .seq o p,e,c,P,a,b=>match Ma i.NL (key p)with
  |none=>D h i o (Ak (λc P a b=>D h i p e c P a b) e) c P a b
  |some g=>∃w:Fn (gD g) (World->Prop),D h i o (Ak (λl t m f=>Aj m a (ap (gD g) w (xP l t g) f)) e) c P a b/\
    eh (writes o) P λu=>lv (gD g) λq=>∀(l:bM) (f:World),ap (gD g) w q f->D h i p e l (wD g q u) a f
 | .cond j o p,e,c,P,a,b=>match ev c P j with
  | .bool y=>an y (D h i o e c P a b) (D h i p e c P a b)
  |_=>False
 | .block id j,e,c,P,a,b=>D h i j (vK id e) c P a b
 | .scope j,e,c,P,a,b=>D h i j (Ex e) c P a b
 | .loop j,e,c,P,a,b=>match Ma i.loops (key j)with
  |none=>False
  |some g=>∃v:Nat->Fn (gD g) (World->Prop),(∃r,ap (gD g) (v r) (xP c P g) b)/\
    ∀r,eh (writes j) P λu=>lv (gD g) λq=>∀(l:bM) (f:World),ap (gD g) (v r) q f->
     D h i j (Ak (λl t m f=>Aj m a (∃x,x<r/\ap (gD g) (v x) (xP l t g) f)) e) l (wD g q u) a f
 |_,_,_,_,_,_=>False
def cT.mono{f g:bM}{h i:cH}{j e:List Nat}{k l:gy}(o:cT a g i j k e3 H b)(p:∀P,P∈j->P∈e)(q:∀P,P∉e->get g i P=get f h P)(r:∀c d m b,k e3 c d m b->l e3 c d m b):cT a f h e l e3 H b:=by
 obtain⟨c,d,s,t,u⟩:=o;exact⟨c,d,s,λP n=>(t P (λv=>n (p P v))).trans (q P n),r _ _ _ _ u⟩
def GK{f d:bM}{a:Value}{b:Nat}:∀{e:cH},get f e b=a->d b=a->get d e b=a
 |[],_,P=>P
 |(h,i)::j,P,g=>by
  rw[dI]at P⊢;split
  ·rename_i c;rw[if_pos c]at P;exact P
  ·rename_i c;rw[if_neg c]at P;exact GK P g
def uh{n:Nat}{B0:bM}{f b:cH}(d:List (Nat×Value))(g:H.tmps.size=n)(h:∀a P,P∉b1->get a b P=get a f P)(i:∀a P,P∈b1->get a b P=a P)(j:∀P,P∉b1->H.tmps.getD P undef=get B0 f P):
  Rel n (λP=>H.tmps.getD P undef) (wD d (d.map λk=>H.tmps.getD k.1 undef) b) H:=by
 refine⟨g,λP=>(CD _ (λP=>H.tmps.getD P undef) b d P λc=>?_).symm⟩
 by_cases e:c∈b1
 ·rw[i _ c e]
 ·rw[h _ c e]
  exact GK (j c e).symm rfl
def mf(c:Rel a U N H):∀P:List (Nat×Value),xP U N P=P.map λb=>H.tmps.getD b.1 undef:=λP=>by
 rw[yh];exact List.map_congr_left λb _=>(c.slot b.1).symm
def ju{f:Program}{c:Array Oper}{g:World->Prop}{h i:Act->Prop}(d:∀P,h P->i P):∀(j:List Oper) (P:Act),wpQuiet f c g h j P->wpQuiet f c g i j P
 |[],P,b=>d P b
 |k::a,P,b=>by
  unfold wpQuiet at b⊢;split
  ·rename_i e
   rw[if_pos e]at b;exact Oper.quiet_mono (ju d a) b
  ·rename_i e
   rw[if_neg e]at b;exact ju d a _ b
variable{e0:jr}
def Sh(O:h.follows .mixedOrders=true):∀(x:Code) (n:gy) (e:bM) (c:cH) (i:Act) (g:World),
  (∀b,b∈writes x->b<a)->(∀H e c z g,n H e c z g->H≠.outgrown)->Rel a e c i->D h e0 x n e c i.defers g->x.wp h (cT a e c (writes x) n) i g:=by
 intro x
 induction x with
 |skip=>intro n e c i g _ _ k P;exact wp_skip ⟨e,c,k,λ_ _=>rfl,P⟩
 |label Q=>intro n e c i g _ _ k P;exact wp_label ⟨e,c,k,λ_ _=>rfl,P⟩
 |exit id=>intro n e c i g _ _ k P;exact wp_exit ⟨e,c,k,λ_ _=>rfl,P⟩
 |ret=>intro n e c i g _ _ k P;exact wp_ret ⟨e,c,k,λ_ _=>rfl,P⟩
 |goto Q=>intro n e c i g _ _ k P;exact P.elim
 |refuse uj=>intro n e c i g _ _ k P;exact P.elim
 |scope x S=>
  intro n e c i g w A k P;refine wp_scope_straight (Code.wp_mono ?_ (S (Ex n) e c i g w (by intro o e c z g d L;subst L;exact A _ _ _ _ _ d rfl) k P));intro o p q l;obtain⟨t,s,u,v,d⟩:=l
  cases o with
  |goto Q=>exact d.elim
  |normal=>exact⟨t,s,u,v,d⟩
  |exit id=>exact⟨t,s,u,v,d⟩
  |ret=>exact⟨t,s,u,v,d⟩
  |panic I=>exact⟨t,s,u,v,d⟩
  |outgrown=>exact⟨t,s,u,v,d⟩
 |rangeFunc d4 ps H Z d5 d6=>intro n e c i g _ _ k P;exact P.elim
 |region id m J=>
  intro n e c i g w _ k P;have hl:∀T∈m.toList,∀U,T.dst=some U->U<a/\U∈writes (.region id m J):=λT R U hd=>⟨w U (jz R hd),jz R hd⟩
  have a1:∀a3 b,iH m a3=some b->b<a:=by
   intro a3 b V;unfold iH at V
   cases R:m[a3]? with
   |none=>rw[R]at V;simp at V
   |some T=>
    rw[R]at V;have c2:T∈m.toList:=by
     have:=Array.getElem?_eq_some_iff.1 R;obtain⟨b2,rfl⟩:=this;simp
    exact(hl T c2 b V).1
  cases J with
  |false=>exact wp_region_list (yg a1 m.toList c i g hl k (λ_ _=>rfl) P)
  |true=>
   unfold D at P;simp only at P;split at P
   ·obtain⟨hB,P⟩:=eL.out P
    refine wp_region_quiet (C:=bC g) O hB ⟨1,rfl⟩ ?_;have:=pC (B0:=e) (e0:=c) (W:=writes (.region id m true)) a1 m.toList c i hl k (λ_ _=>rfl) P;refine ju ?_ _ _ this;rintro p ⟨e',a4,a5,c3,d⟩ q a6;exact⟨e,e',a4,c3,by rw[a5];exact d q a6⟩
   ·obtain⟨c4,P⟩:=eL.out P
    have B:∀(K:Bool) (r:Nat->Prop) (a7:Nat->Bool),ub h e m K r (λI z g=>∀e c,n (.panic I) e c z g) (λc z g=>n .normal e c z g) a7 m.size (Array.replicate m.size false) c i.defers (g.drewN 1)->(Code.region id m true).wp h (cT a e c (writes (.region id m true)) n) i g:=λK r a7 P=>
     wp_region_any O (mY (λI i g P=>Ah.post I i g P) (λ_ _ P=>P) _ _ _ _ _ (kH (B0:=e) (e0:=c) (W:=writes (.region id m true)) a1 c4 hl a7 _ _ c i _ k (λ_ _=>rfl) P))
    split at P
    ·split at P
     ·obtain⟨r,P⟩:=P _ ⟨1,rfl⟩
      exact B _ r _ P
     ·exact B _ _ _ (P _ ⟨1,rfl⟩)
    ·obtain⟨hM,P⟩:=eL.out P
     split at P
     ·obtain⟨r,P⟩:=P _ ⟨1,rfl⟩
      rw[pH hM _ _ (Ew.init _)]at P;exact B _ r _ P
     ·have P:=P _ ⟨1,rfl⟩
      rw[pH hM _ _ (Ew.init _)]at P;exact B _ _ _ P
 |seq H Z C E=>
  intro n e c i g w A k P;have b3:∀b,b∈writes H->b<a:=λb j=>w b (List.mem_append.2 (.inl j));have b4:∀b,b∈writes Z->b<a:=λb j=>w b (List.mem_append.2 (.inr j));have f:∀(W:bM->cH->List Deferred->World->Prop) (o:Exit) (p:Act) (q:World),o≠.normal->cT a e c (writes H) (Ak W n) o p q->cT a e c (writes (H.seq Z)) n o p q:=by
   intro W o p q c5 l;refine l.mono (λb j=>List.mem_append.2 (.inl j)) (λ_ _=>rfl) λt s d7 w1 d=>?_
   cases o with
   |normal=>exact absurd rfl c5
   |outgrown=>exact d.elim
   |_=>exact d
  have b5:∀(W:bM->cH->List Deferred->World->Prop) o e c z g,Ak W n o e c z g->o≠.outgrown:=by
   intro W o e c z g d L;subst L;exact d.elim
  unfold D at P;split at P
  ·have hx:=C _ e c i g b3 (b5 _) k P
   refine wp_seq (Code.wp_mono ?_ hx);intro o p q l
   cases o with
   |normal=>
    obtain⟨t,s,u,v,d⟩:=l;have hy:=E n t s p q b4 A u d;refine Code.wp_mono (λo b6 b7 l=>?_) hy;refine l.mono (λb j=>List.mem_append.2 (.inr j)) (λb j=>v b λO=>j (List.mem_append.2 (.inl O))) λ_ _ _ _ d=>d
   |exit id=>exact f _ _ _ _ (by simp) l
   |goto Q=>exact f _ _ _ _ (by simp) l
   |ret=>exact f _ _ _ _ (by simp) l
   |panic I=>exact f _ _ _ _ (by simp) l
   |outgrown=>exact f _ _ _ _ (by simp) l
  ·rename_i r hS
   obtain⟨d8,P,a8⟩:=P;obtain⟨s,h1,h2,a8⟩:=eh.out a8;have hx:=C _ e c i g b3 (b5 _) k P;refine wp_seq (Code.wp_mono ?_ hx);intro o p q l
   cases o with
   |normal=>
    obtain⟨M,N,y,a0,d⟩:=l;obtain⟨a2,hJ⟩:=Aj.out d;have hv:=mf y r;have a9:=iI M N r;have b8:=ap.all a9 hJ a8 (λb=>p.tmps.getD b undef) q hJ;rw[hv,<-a2]at b8;have b9:=uh (n:=a) r y.size h1 h2 (B0:=e) (λb j=>(y.slot b).trans (a0 b j));have hy:=E n _ _ p q b4 A b9 b8;refine Code.wp_mono (λo b6 b7 l=>?_) hy;refine l.mono (λb j=>List.mem_append.2 (.inr j)) (λb j=>?_) λ_ _ _ _ d=>d;rw[<-b9.slot];exact(y.slot b).trans (a0 b λO=>j (List.mem_append.2 (.inl O)))
   |exit id=>exact f _ _ _ _ (by simp) l
   |goto Q=>exact f _ _ _ _ (by simp) l
   |ret=>exact f _ _ _ _ (by simp) l
   |panic I=>exact f _ _ _ _ (by simp) l
   |outgrown=>exact f _ _ _ _ (by simp) l
 |cond x H Z C E=>
  intro n e c i g w A k P;unfold D at P;split at P
  ·rename_i c6 F
   refine wp_cond_split (t:=c6) (by rw[k.eval];exact F) (λj=>?_) (λhf=>?_)
   ·subst j
    refine Code.wp_mono (λo p q l=>?_) (C n e c i g (λb j=>w b (List.mem_append.2 (.inl j))) A k P);exact l.mono (λb j=>List.mem_append.2 (.inl j)) (λ_ _=>rfl) λ_ _ _ _ d=>d
   ·subst hf
    refine Code.wp_mono (λo p q l=>?_) (E n e c i g (λb j=>w b (List.mem_append.2 (.inr j))) A k P);exact l.mono (λb j=>List.mem_append.2 (.inr j)) (λ_ _=>rfl) λ_ _ _ _ d=>d
  ·exact P.elim
 |block id x S=>
  intro n e c i g w A k P;refine wp_block (Code.wp_mono ?_ (S (vK id n) e c i g w (by intro o e c z g d L;subst L;exact d.elim) k P));intro o p q l;obtain⟨t,s,u,v,d⟩:=l
  cases o with
  |exit X=>
   show(if X=id then _ else _);simp only[vK]at d
   cases F:Nat.beq X id with
   |true=>
    rw[F]at d;rw[if_pos (Nat.eq_of_beq_eq_true F)];exact⟨t,s,u,v,d⟩
   |false=>
    rw[F]at d;rw[if_neg (by rintro rfl;simp at F)];exact⟨t,s,u,v,d⟩
  |normal=>exact⟨t,s,u,v,d⟩
  |goto Q=>exact⟨t,s,u,v,d⟩
  |ret=>exact⟨t,s,u,v,d⟩
  |panic I=>exact⟨t,s,u,v,d⟩
  |outgrown=>exact d.elim
 |loop x S=>
  intro n e c i g w A k P;unfold D at P;split at P
  ·exact P.elim
  ·rename_i r hS
   obtain⟨c7,⟨m0,h0⟩,c8⟩:=P;refine wp_loop_ghost (λb0 p q=>p.tmps.size=a/\(∀b,b∉writes x->p.tmps.getD b undef=get e c b)/\p.defers=i.defers/\
    ap (gD r) (c7 b0) (r.map λb1=>p.tmps.getD b1.1 undef) q) m0 ⟨k.size,λb _=>k.slot b,rfl,by rw[<-mf k r];exact h0⟩ ?_
   rintro b0 p q ⟨c9,c0,a2,hI⟩;obtain⟨s,h1,h2,d0⟩:=eh.out (c8 b0);have a9:(r.map λb1=>p.tmps.getD b1.1 undef).length=(gD r).length:=by rw[<-iI e c r,yh];simp
   have F:=ap.all a9 hI d0 (λb=>p.tmps.getD b undef) q hI;have c1:=uh (n:=a) r c9 h1 h2 c0;rw[<-a2]at F;have d1:=S _ _ _ p q w (by intro o e c z g d L;subst L;exact d.elim) c1 F;refine Code.wp_mono ?_ d1;intro o b6 b7 l;obtain⟨M,N,y,a0,d⟩:=l;have Y:∀b,b∉writes x->get M N b=get e c b:=λb j=>(a0 b j).trans ((c1.slot b).symm.trans (c0 b j))
   cases o with
   |normal=>
    obtain⟨d2,m',b2,d3⟩:=Aj.out d;refine⟨m',b2,y.size,λb j=>(y.slot b).trans (Y b j),d2.trans a2,?_⟩;rw[<-mf y r];exact d3
   |outgrown=>exact d.elim
   |exit id=>exact⟨M,N,y,Y,d⟩
   |goto Q=>exact⟨M,N,y,Y,d⟩
   |ret=>exact⟨M,N,y,Y,d⟩
   |panic I=>exact⟨M,N,y,Y,d⟩
def GM(P:Program):List ResultVar->bM->cH->World->(List Value->Prop)->Prop
 |[],_,_,_,a=>a []
 |h::g,b,c,e,a=>match h with
  | .tmp d=>GM P g b c e λf=>a (get b c d::f)
  | .cell i d=>eL (known P d) (nK P d (get b c i) e λj=>GM P g b c e λf=>a (j::f))
def oneOf(P:List Value):Value:=match P with
 |[a]=>a
 |P=>.tuple P.toArray
def Lv(e:Program)(P:World->Prop)(f:List PanicEntry->World->Prop):List Deferred->FrameMode->World->Prop
 |[],.returning,b=>P b
 |[],.panicking a,b=>f a b
 |[],.run,_=>False
 |d::h,i,b=>i≠.run/\∃g c,d.target= .fn (.func g) c/\enters e g=true/\
   CallsD e g (d.args++c) i b λl j k=>Oa l (λ_=>Lv e P f h (settle j) k) (λm=>Lv e P f h (raised j m) k)
def fA(a:Program)(c:Func)(d:bM)(e:cH)(b:Ending->World->Prop)(f:List Deferred)(g:FrameMode)(P:World):Prop:=
 Lv a (λP=>GM a c.results.toList d e P λh=>b (.returned (oneOf h)) P) (λi P=>b (.panicked i) P) f g P
def Pu(P:Program)(a:Func)(b:Ending->World->Prop):gy:=λg c d e f=>match g with
 | .normal=>fA P a c d b e .returning f
 | .ret=>fA P a c d b e .returning f
 | .panic h=>fA P a c d b e (.panicking h) f
 |_=>False
def Al(P:Array Value):ResultVar->Sem Value
 | .tmp a=>pure (P.getD a undef)
 | .cell b a=>do loadVar a (<-asAddr (P.getD b undef))
def pI{d:Program}{l:bM}{m:cH}{p:Nat}{c:Act}(e:Rel p l m c){b:World}:∀{h:List ResultVar} {f:List Value->Prop},GM d h l m b f->
  ∃g,(h.mapM (Al c.tmps)).run d b=Result.ok g b/\f g
 |[],f,P=>⟨[],by rw[List.mapM_nil];rfl,P⟩
 |q::h,f,P=>by
  unfold GM at P
  cases q with
  |tmp i=>
   obtain⟨g,j,P⟩:=pI e P;refine⟨_,?_,P⟩;rw[List.mapM_cons];simp only[Al,Sem.run_bind,Sem.run_pure,Result.andThen_ok,j,e.slot]
  |cell k i=>
   obtain⟨r,P⟩:=eL.out P;obtain⟨s,t,P⟩:=nK.out (known.out r).1 P;obtain⟨g,j,P⟩:=pI e P;refine⟨_,?_,P⟩;rw[List.mapM_cons];have a:=t b rfl;rw[<-e.slot]at a;have:(Al c.tmps (.cell k i)).run d b= .ok s b:=by
    unfold Al
    cases n:c.tmps.getD k undef<;>rw[n]at a<;>simp only[Instr.loadAt,Instr.sureAddr,stuck,Sem.run_bind,Sem.run_halt,Result.andThen,reduceCtorEq]at a
    rename_i o
    cases o with
    |none=>simp at a
    |some o=>
          show(do loadVar i (<-asAddr (c.tmps.getD k undef)):Sem Value).run d b=_;rw[n];simpa[asAddr]using a
   simp only[Sem.run_bind,this,Sem.run_pure,Result.andThen_ok,j]
def pJ(a:(a5.results.toList.mapM (Al H.tmps)).run h b=Result.ok a1 b):(results a5 H.tmps).run h b= .ok (oneOf a1) b:=by
 have c:(a5.results.mapM (Al H.tmps)).run h b=Result.ok a1.toArray b:=by
  rw[Array.mapM_eq_mapM_toList,Sem.run_map,a]
  rfl
 have d:(results a5 H.tmps)=(a5.results.mapM (Al H.tmps)>>=λP=>pure (if a:P.size=1 then P[0]else Value.tuple P)):=by
   unfold results
   congr 2
 rw[d];simp only[Sem.run_bind,c,Result.andThen_ok,Sem.run_pure]
 congr 1
 match a1 with
 |[]=>rfl
 |[v]=>rfl
 |v::e::f=>
  rw[dif_neg (by simp)]
  rfl
def mg{i:Program}{j:Func}{k:bM}{l:cH}{r:Nat}{m:Act}(f:Rel r k l m){n:Ending->World->Prop}:∀(b:List Deferred) (g:FrameMode) (a:World),
  fA i j k l n b g a->Leaves i j m.tmps n b g a
 |[],.returning,a,P=>by
  obtain⟨C,s,P⟩:=pI f P;exact⟨_,pJ s,P⟩
 |[],.panicking t,a,P=>P
 |[],.run,a,P=>P.elim
 |d::b,g,a,P=>by
  obtain⟨u,o,c,p,v,w⟩:=P;refine⟨u,.func o,c,o,d.args++c,p,?_,?_⟩
  ·rw[p];simp only[invoke];exact gA v _ _
  ·intro x cs y
   obtain⟨q,z,A,B,h,e⟩:=w x cs y;refine⟨q,z,A,B,?_,e⟩
   cases q with
   |returned E=>exact mg f b _ _ h
   |panicked t=>exact mg f b _ _ h
   |outgrown=>exact h.elim
def eA:Nat->List Value->cH
 |_,[]=>[]
 |P,a::b=>(P,a)::eA (P+1) b
def ng:∀(b:List Value) (P a:Nat),get (λ_=>undef) (eA P b) a=if P<=a then b.getD (a-P) undef else undef
 |[],P,a=>by simp[eA,get]
 |v::e,P,a=>by
  rw[eA,dI,ng e (P+1) a]
  by_cases c:P=a
  ·subst c;simp
  ·rw[if_neg c]
   by_cases d:P+1<=a
   ·rw[if_pos d,if_pos (by omega),show a-P=(a-(P+1))+1 from by omega];rfl
   ·rw[if_neg d,if_neg (by omega)]
def sW(P:Nat):List Nat->Bool
 |[]=>true
 |d::a=>match Nat.blt d P with
  |true=>sW P a
  |false=>false
def jQ{c:Nat}:∀{e:List Nat},sW c e=true->∀P,P∈e->P<c
 |[],_,P,a=>by cases a
 |d::g,b,P,a=>by
  unfold sW at b;split at b
  ·rename_i f
   cases a with
   |head=>
        have:d+1<=c:=by simpa[Nat.blt]using f
        omega
   |tail _ a=>exact jQ b P a
  ·cases b
def qd(f:jr)(g:h.follows .mixedOrders=true)(i:h.funcs[y]? =some a5)(j:a5.body=some Z)(r:p.size<=a5.ntmps)(k:sW a5.ntmps (writes Z)=true)(l:D h f Z (Pu h a5 z) (λ_=>undef) (eA 0 p.toList) [] b):Calls h y p b z:=by
 refine calls_of_wp_defers i j ?_;have m:Rel a5.ntmps (λ_=>undef) (eA 0 p.toList) {tmps:=p++Array.replicate (a5.ntmps-p.size) undef,defers:=[]}:=by
  refine⟨by simp;omega,λc=>?_⟩;rw[ng,if_pos (Nat.zero_le _),Nat.sub_zero];simp only[Array.getD_eq_getD_getElem?,List.getD_eq_getElem?_getD,Array.getElem?_append,Array.getElem?_toList]
  by_cases d:c<p.size
  ·simp[d]
  ·rw[if_neg d]
   simp only[Array.getElem?_replicate];have:p[c]? =none:=by simp;omega
   rw[this];split<;>rfl
 refine Code.wp_mono ?_ (Sh g Z (Pu h a5 z) _ _ _ b (jQ k) (by intro e n o s b P q;subst q;exact P.elim) m l);rintro e t u ⟨n,o,a,_,P⟩
 cases e with
 |normal=>exact mg a _ _ _ P
 |ret=>exact mg a _ _ _ P
 |panic v=>exact mg a _ _ _ P
 |exit id=>exact P.elim
 |goto w=>exact P.elim
 |outgrown=>exact P.elim
def CE(c:Program)(d:Func)(P:Ending->World->Prop):gy:=λg e f a b=>match g with
 | .normal=>(match a with
  |[]=>fA c d e f P [] .returning b
  |_=>False)
 | .ret=>(match a with
  |[]=>fA c d e f P [] .returning b
  |_=>False)
 | .panic h=>(match a with
  |[]=>P (.panicked h) b
  |_=>False)
 |_=>False
def CE.out{P:Program}(k:Rel a U N H)(c:CE P a5 z e3 U N H.defers b):
  H.defers=[]/\((e3= .normal\/e3= .ret)/\(∃d,(results a5 H.tmps).run P b= .ok d b/\z (.returned d) b)\/∃i,e3= .panic i/\z (.panicked i) b):=by
 have e:∀f,H.defers=f->(match f with
  |[]=>fA P a5 U N z [] .returning b
  |_=>False)->f=[]/\∃d,(results a5 H.tmps).run P b= .ok d b/\z (.returned d) b:=by
  intro f j c;split at c
  ·obtain⟨l,m,c⟩:=pI k c
   exact⟨rfl,_,pJ m,c⟩
  ·exact c.elim
 unfold CE at c;split at c
 ·obtain⟨g,h⟩:=e _ rfl c
  exact⟨g,.inl ⟨.inl rfl,h⟩⟩
 ·obtain⟨g,h⟩:=e _ rfl c
  exact⟨g,.inl ⟨.inr rfl,h⟩⟩
 ·split at c
  ·rename_i j
   exact⟨j,.inr ⟨_,rfl,c⟩⟩
  ·exact c.elim
 ·exact c.elim
def vL(d:p.size<=a)(c:List Deferred):Rel a (λ_=>undef) (eA 0 p.toList) {tmps:=p++Array.replicate (a-p.size) undef,defers:=c}:=by
 refine⟨by simp;omega,λP=>?_⟩;rw[ng,if_pos (Nat.zero_le _),Nat.sub_zero];simp only[Array.getD_eq_getD_getElem?,List.getD_eq_getElem?_getD,Array.getElem?_append,Array.getElem?_toList]
 by_cases b:P<p.size
 ·simp[b]
 ·rw[if_neg b]
  simp only[Array.getElem?_replicate];have:p[P]? =none:=by simp;omega
  rw[this];split<;>rfl
def yM(f:jr)(g:h.follows .mixedOrders=true)(i:h.funcs[y]? =some a5)(j:a5.body=some Z)(k:p.size<=a5.ntmps)(l:sW a5.ntmps (writes Z)=true)(P:D h f Z (CE h a5 z) (λ_=>undef) (eA 0 p.toList) [] b):CallsD h y p a7 b λa m e=>m=a7/\z a e:=by
 refine callsD_of_wp i j (Code.wp_mono ?_ (Sh g Z (CE h a5 z) _ _ _ b (jQ l) (by intro n o a s b c q;subst q;exact c.elim) (vL k []) P));rintro n t e ⟨o,a,r,_,c⟩;obtain⟨d,(⟨rfl|rfl,P⟩|⟨u,rfl,P⟩)⟩:=c.out r
 ·exact⟨d,P⟩
 ·exact⟨d,P⟩
 ·exact⟨d,P⟩
def rV:FrameMode->Value
 | .panicking ({v,recovered:=false,goexit:=false}::_)=>v
 |_=>.nilIface
def gh:FrameMode->FrameMode
 | .panicking ({v,recovered:=false,goexit:=false}::older)=>.panicking ({v,recovered:=true}::older)
 |u=>u
def Jj{a:Frame}{cs:List Frame}(e:a.mode=a7):recoverD (a::cs)=some (rV a7,{a with mode:=gh a7}::cs)\/(recoverD (a::cs)=none/\rV a7= .nilIface/\gh a7=a7):=by
 subst e;unfold recoverD;simp only;split
 ·rename_i b
  left;rw[b]
  rfl
 ·rename_i d
  right;refine⟨rfl,?_,?_⟩
  ·unfold rV
   split
   ·rename_i c P b;exact absurd b (d c P)
   ·rfl
  ·unfold gh
   split
   ·rename_i c P b;exact absurd b (d c P)
   ·rfl
def Nn(t:jr){id:Nat}{e:Tmp}{f:Array TypeId}(u:h.follows .mixedOrders=true)(v:h.funcs[y]? =some a5)(w:a5.body=some (.seq (.region id #[O] false) Z))(x:O.op= .call {callee:=.builtin .recover,args:= #[],argTypes:=f})(c:O.dst=some e)(z:O.guard=none)(A:Nat.blt e a5.ntmps=true)(B:p.size<=a5.ntmps)(C:sW a5.ntmps (writes Z)=true)(d:D h t Z (CE h a5 λg l=>h9 g (gh a7) l) (λ_=>undef) ((e,rV a7)::eA 0 p.toList) [] b):CallsD h y p a7 b h9:=by
 refine callsD_of_wpS v w λP cs m=>wpS_seq (wpS_region ?_);have E:∀n:Act,(execOp n.eval O).run h b= .ok .recover b:=λn=>by simp[execOp,x,resolve,invoke,builtin]
 have F:∀o,Region.wanted O o=true:=λo=>by simp[Region.wanted,z]
 have H:e+1<=a5.ntmps:=by simpa[Nat.blt]using A
 have q:∀(i:Value) (a:List Frame),i=rV a7->a={P with mode:=gh a7}::cs->
   Z.wpS h (bodyPostS h a5 P cs h9) (({tmps:=p++Array.replicate (a5.ntmps-p.size) undef,defers:=[]}:Act).put O.dst i) a b:=by
  rintro i a rfl rfl;refine wpS_of_wp ?_;have r:=(vL B []).put O.dst (λQ s=>by rw[c]at s;exact(Option.some.inj s)▸H) (rV a7);rw[c]at r⊢;refine Code.wp_mono ?_ (Sh u Z _ _ _ _ b (jQ C) (by intro I J g R b j K;subst K;exact j.elim) r d);rintro I S l ⟨J,g,L,_,j⟩;obtain⟨c,(⟨rfl|rfl,d⟩|⟨T,rfl,d⟩)⟩:=j.out L
  ·exact⟨c,_,rfl,d⟩
  ·exact⟨c,_,rfl,d⟩
  ·exact⟨c,_,rfl,d⟩
 simp only[show(List.range (#[O]:Array Oper).size)=[0]from rfl,wpOpsS,List.getElem?_toArray,List.getElem?_cons_zero,F,if_true,E];rcases Jj (cs:=cs) m with k|⟨k,M,N⟩
 ·rw[k]
  exact q _ _ rfl rfl
 ·rw[k]
  exact q _ _ M.symm (by rw[N,<-m])
def DG(P:IntKind)(a b:Int):Int:=P.wrap (BitVec.ofInt P.bits a&&&BitVec.ofInt P.bits b).toNat
def No(P:IntKind)(a b:Int):Int:=P.wrap (BitVec.ofInt P.bits a|||BitVec.ofInt P.bits b).toNat
def oJ(P:IntKind)(a b:Int):Int:=P.wrap (BitVec.ofInt P.bits a ^^^ BitVec.ofInt P.bits b).toNat
def tM(P:IntKind)(a b:Int):Int:=P.wrap (BitVec.ofInt P.bits a&&& ~~~BitVec.ofInt P.bits b).toNat
def IM(P:IntKind)(a b:Int):Int:=P.wrap (a*2 ^(min b.toNat P.bits))
def iP(P:IntKind)(a b:Int):Int:=a.fdiv (2 ^(min b.toNat P.bits))
def oM(P:K:=by omega):K:=P
theorem be{p:Prop}(h:p:=by dsimp only;omega):p:=h
theorem bc{p:Prop}(h:p:=by simp;omega):p:=h
def sM(P:K:=by simp):K:=P
def dC(P:K:=by decide):K:=P
def kR(P:K:=by kernel_rfl):K:=P
abbrev Qq:= @List.getElem?_eq_getElem
abbrev Qx:= @Int.toNat_natCast
abbrev Qz:= @List.take_of_length_le
abbrev Qj:= @Nat.zero_le
abbrev Qv:= @List.getElem?_eq_some_iff
abbrev Qw:= @List.take_add_one
abbrev Qk:= @Nat.lt_of_lt_of_le
abbrev Qy:= @List.length_take
abbrev QQ:= @List.getD_eq_getElem?_getD
abbrev QX:= @List.length_append
abbrev QZ:= @List.mem_of_getElem?
abbrev QJ:= @List.mem_cons_of_mem
abbrev QV:= @List.mem_cons_self
abbrev QW:= @List.eq_nil_of_length_eq_zero
abbrev QK:= @Bool.and_eq_true
abbrev QY:= @List.map_cons
abbrev Q0:= @Nat.mul_le_mul_right
abbrev Q1:= @Option.some.injEq
abbrev Q2:= @List.mem_cons
abbrev Q3:= @List.map_append
abbrev Q4:= @Nat.le_refl
abbrev Q5:= @Array.getElem?_eq_some_iff
abbrev Q6:= @List.mem_append
abbrev Q7:= @List.getElem?_eq_none
abbrev Q8:= @List.length_map
abbrev Q9:= @List.getElem?_map
abbrev Xq:= @List.length_cons
abbrev Xx:= @Nat.le_trans
abbrev Xz:= @Nat.zero_add
abbrev Xj:= @List.getElem?_set
abbrev Xv:= @decide_eq_false
abbrev Xw:= @List.getElem?_take
abbrev Xk:= @List.mem_map
abbrev Xy:= @of_decide_eq_false
abbrev XQ:= @List.append_assoc
abbrev XX:= @Value.slice.injEq
abbrev XZ:= @List.length_drop
abbrev XJ:= @Option.some.inj
abbrev XV:= @of_decide_eq_true
abbrev XW:= @List.getElem?_append_left
abbrev XK:= @Array.length_toList
abbrev XY:= @List.getElem_mem
abbrev X2:= @Nat.min_eq_left
abbrev X3:= @List.ext_getElem?
abbrev X4:= @List.drop_eq_getElem_cons
abbrev X6:= @Array.getElem?_eq_getElem
abbrev X7:= @Nat.add_mul
abbrev X8:= @List.getElem?_append_right
abbrev X9:= @Nat.eq_of_beq_eq_true
abbrev Zq:= @if_neg
abbrev Zx:= @if_pos
abbrev Zz:= @absurd
abbrev Zj:= @congrArg
abbrev Zv:= @Nat.le_of_ble_eq_true
abbrev Zw:= @List.take_succ_cons
abbrev Zk:= @decide_eq_true_eq
abbrev Zy:= @decide_eq_true
abbrev ZQ:= @List.length_nil
abbrev ZX:= @List.take_append_drop
abbrev ZZ:= @List.getElem?_cons_succ
abbrev ZJ:= @List.getElem?_cons_zero
abbrev ZV:= @List.mem_append_left
abbrev ZW:= @List.mem_append_right
abbrev ZK:= @UInt8.toNat_ofNat'
abbrev ZY:= @List.all_eq_true
abbrev XH:=Value.int .i64
abbrev XL (b:Nat):Value:=.pointer (some ⟨b,0,none⟩)
abbrev XM (b:Nat):Option Addr:=some ⟨b,0,none⟩
abbrev XN:=Nat->Prop
abbrev XR:=Value->World->Prop
abbrev XT:=Ending->World->Prop
abbrev XU:=World->Prop
abbrev ZH:=Option Addr

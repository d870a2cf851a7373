import Derived.Test.YtjgjkeponbeekaaGreatDoorYdLift
set_option linter.all false
namespace Go.ar
open Go
structure Ty where
 k:Nat
 size:Nat
 zs:List Value
 el:Nat
 n:Nat
 fs:List (Nat×Nat×Nat)
 ts:List Nat
 ik:IntKind
inductive Tr where
 |n
 |b (l:Tr) (i:Nat) (v:Ty) (r:Tr)
abbrev SC(n:Nat):List Nat->Bool
 |[]=>false
 |x::P=>match P with
  |[]=>Nat.beq x n
  |_::_=>false
abbrev dI:=List (Nat×List Nat×Value)
abbrev zT:Tr->Nat->(Ty->Prop)->Prop
 | .n,_,_=>False
 | .b b a c d,n,P=>match Nat.beq n a with
  |true=>P c
  |false=>match Nat.ble n a with
   |true=>zT b n P
   |false=>zT d n P
abbrev zm:List Nat->Nat->Bool
 |[],_=>false
 |d::P,n=>match Nat.beq d n with
  |true=>true
  |false=>zm P n
abbrev DJ{n:Type}:List n->Nat->(n->Prop)->Prop
 |[],_,_=>False
 |x::a,b,P=>match b with
  |0=>P x
  |c+1=>DJ a c P
abbrev zg:List Nat->Nat->(Nat->Prop)->Prop
 |[],_,n=>n 0
 |x::P,a,n=>match a with
  |0=>n x
  |b+1=>zg P b n
abbrev zL:dI->Nat->(List Nat->Value->Prop)->Prop
 |[],_,_=>False
 |(a,b,c)::d,n,P=>match Nat.beq a n with
  |true=>P b c
  |false=>zL d n P
abbrev zE(P:dI)(a:Operand)(n:List Nat->Value->Prop):Prop:=match a with
 | .tmp b=>zL P b n
 | .const c=>n [2] c
 | .global d=>n [0] (.pointer (some ⟨d,0,none⟩))
 | .func e=>n [0] (.func (.func e) #[] #[])
abbrev zA(P:dI):List Operand->(List Value->Prop)->Prop
 |[],n=>n []
 |x::a,n=>zE P x λ_ b=>zA P a λc=>n (b::c)
abbrev eE(P:dI)(n:Option Tmp)(b:List Nat)(c:Value)(a:dI->Prop):Prop:=match n with
 |some n=>a ((n,b,c)::P)
 |none=>a P
abbrev Xn(n:Nat):Bool:=match n with
 |6=>true
 |7=>true
 |_=>false
abbrev Xo(n:Bool)(P:List Nat)(a:Nat)(b:List Value)(c:Nat):Bool:=match n with
 |false=>false
 |true=>match Xn a with
  |false=>false
  |true=>match b with
   |_::_::_::_=>match zm P c with
    |true=>false
    |false=>true
   |_=>false
abbrev z1(a:Value)(n:Value->Prop):Prop:=match a with
 | .int b _=>∃P:Int,n (.int b P)
 | .bool _=>∃c:Bool,n (.bool c)
 | .string _=>∃d:ByteArray,n (.string d)
 | .slice _ _ _=>∃(e:Option Addr) (P f:Nat),n (.slice e P f)
 | .pointer _=>∃g:Option Addr,n (.pointer g)
 | .map _=>∃h:Option Nat,n (.map h)
 |_=>∃i:Value,n i
abbrev XR(n:List Value):(List Value->Prop)->Prop:=
 List.rec (motive:=λ_=>(List Value->Prop)->Prop) (λP=>P []) (λa _ b P=>z1 a λc=>b λn=>P (c::n)) n
abbrev zX(a:Nat)(n:List Value)(P:Value->Prop):Prop:=match Xn a with
 |true=>XR n λb=>P (.agg b.toArray)
 |false=>match n with
  |z::_=>z1 z P
  |[]=>False
abbrev idx:List Nat:=[0,1,2,3,4,5,6,7,8,9,10,11,12,13,14,15,16,17,18,19]
abbrev Uv(n:Nat)(P:Nat)(a:Nat->Prop):Prop:=match P with
 |0=>a n
 |_=>a (n+P)
abbrev Uw(a:World)(b c:Nat)(d:List Nat):List Value->Prop->Prop:=
 List.rec (motive:=λ_=>List Value->Prop->Prop) (λ_ n=>n) (λe _ f P n=>match P with
  |v::P=>(Uv c e λg=>a.cell? ⟨b,g,none⟩=some v/\f P n)
  |[]=>n) d
abbrev Ux(b c:Nat)(d:List Nat):List Value->World->(World->Prop)->Prop:=
 List.rec (motive:=λ_=>List Value->World->(World->Prop)->Prop) (λ_ n P=>P n) (λe _ f a n P=>match a with
  |v::a=>(Uv c e λg=>PS n ⟨b,g,none⟩ v λh=>f a h P)
  |[]=>P n) d
abbrev Ww(v:Value)(n:List Value->Prop):Prop:=match v with
 | .agg ⟨P⟩=>n P
 |v=>n [v]
abbrev TF:Nat->List Value->(List Value->Prop)->Prop
 |0,_,P=>P []
 |n+1,[],P=>P []
 |n+1,a::b,P=>TF n b λc=>P (a::c)
abbrev TG:Nat->List Value->(List Value->Prop)->Prop
 |0,a,P=>P a
 |n+1,[],P=>P []
 |n+1,_::b,P=>TG n b P
abbrev SD:Nat->List Value->List Value->(List Value->Prop)->Prop
 |0,a,[],P=>P a
 |0,[],_::_,P=>P []
 |0,_::b,c::cs,P=>SD 0 b cs λa=>P (c::a)
 |n+1,[],_,P=>P []
 |n+1,d::b,cs,P=>SD n b cs λa=>P (d::a)
abbrev VK:List Value->List Value->(List Value->Prop)->Prop
 |[],n,P=>P n
 |x::a,n,P=>VK a n λn=>P (x::n)
abbrev VL:Nat->List Value->(List Value->Prop)->Prop
 |0,_,P=>P []
 |n+1,[],P=>P []
 |n+1,a::b,P=>VL n (a::b) λc=>VK (a::b) c P
section
variable (P:Program) (T:Tr) (R:Ending->World->Prop) (q:Bool) (X:List Nat)
abbrev XS(n d:Nat)(a:Nat->Value->Prop):Prop:=zT T n λe=>match e with
 |⟨b,_,c,_,_,_,_,_⟩=>match Xo q X b c d with
  |true=>qk (cN P n) λf=>a 1 f
  |false=>zX b c (a 0)
abbrev Yo(b:Nat)(a:List Nat):List Nat->(List Nat->List Value->Prop)->Prop:=
 List.rec (motive:=λ_=>List Nat->(List Nat->List Value->Prop)->Prop) (λ_ n=>n [] []) (λc _ d is n=>match is with
  |e::is=>XS P T q X c (1000000+b*100+e) λf g=>d is λh a=>n (f::h) (g::a)
  |[]=>n [] []) a
abbrev Lk(n:Nat)(a:Option Tmp)(b:List Nat->Value->Prop):Prop:=zT T n λc=>match c with
 |⟨d,_,_,_,_,_,e,_⟩=>match d with
  |10=>Yo P T q X (a.getD 9999) e idx λf g=>b f (.tuple g.toArray)
  |_=>XS P T q X n (a.getD 9999) λh i=>b [h] i
abbrev Qs(a:dI)(b:List (Nat×Nat×Nat)):List (Nat×Operand)->List Value->(List Value->Prop)->Prop
 |[],n,P=>P n
 |(c,d)::e,n,P=>zE a d λ_ f=>Ww f λcs=>DJ b c λg=>match g with
  |(h,_,_)=>SD h n cs λn=>Qs a b e n P
abbrev MF(a:dI)(b:Nat):List (Nat×Operand)->List Value->(List Value->Prop)->Prop
 |[],n,P=>P n
 |(c,d)::e,n,P=>zE a d λ_ f=>Ww f λcs=>SD (c*b) n cs λn=>MF a b e n P
abbrev SE(b:Bool)(c:IntKind):Int->List Value->(Value->Prop)->Prop
 |n,[],P=>P (.int c n)
 |n,e::d,P=>match e with
  | .int _ a=>match b with
   |true=>SE b c (if a>n then a else n) d P
   |false=>SE b c (if a<n then a else n) d P
  |_=>False
abbrev TH(n:Operand):Bool:=match n with
 | .const _=>true
 |_=>false
abbrev MG(d:dI)(p:Oper)(n:List Nat->Value->Prop)(no:Prop):Prop:=match p.op with
 | .move e=>zE d e n
 | .assign e=>zE d e n
 | .pick c i g=>zE d c λ_ f=>match f with
  | .bool true=>zE d i n
  | .bool false=>zE d g n
  |_=>False
 | .binOp l j e h _=>zE d e λ_ i=>zE d h λ_ g=>match i,g with
  | .int a P,.int _ b=>match l with
   | .add=>n [0] (.int a (IntKind.wrap a (P+b)))
   | .sub=>n [0] (.int a (IntKind.wrap a (P-b)))
   | .mul=>n [0] (.int a (IntKind.wrap a (P*b)))
   | .quo=>match TH h with
    |true=>n [0] (.int a (IntKind.wrap a (Int.tdiv P b)))
    |false=>no
   | .rem=>match TH h with
    |true=>n [0] (.int a (Int.tmod P b))
    |false=>no
   | .shl=>match TH h with
    |true=>n [0] (.int a (IA a P b))
    |false=>no
   | .shr=>match TH h with
    |true=>n [0] (.int a (gY a P b))
    |false=>no
   | .and=>n [0] (.int a (Bg a P b))
   | .or=>n [0] (.int a (Pd a P b))
   | .xor=>n [0] (.int a (qx a P b))
   | .andNot=>n [0] (.int a (lO a P b))
   | .eql=>n [0] (.bool (P==b))
   | .neq=>n [0] (.bool (P !=b))
   | .lss=>n [0] (.bool (decide (P<b)))
   | .leq=>n [0] (.bool (decide (P<=b)))
   | .gtr=>n [0] (.bool (decide (P>b)))
   | .geq=>n [0] (.bool (decide (P>=b)))
  | .string P,.string b=>match l with
   | .eql=>n [0] (.bool (ByteArray.toList P==ByteArray.toList b))
   | .neq=>n [0] (.bool (!(ByteArray.toList P==ByteArray.toList b)))
   | .lss=>n [0] (.bool (Op.bytesLess (ByteArray.toList P) (ByteArray.toList b)))
   | .leq=>n [0] (.bool (Op.bytesLess (ByteArray.toList P) (ByteArray.toList b)||ByteArray.toList P==ByteArray.toList b))
   | .gtr=>n [0] (.bool (!(Op.bytesLess (ByteArray.toList P) (ByteArray.toList b)||ByteArray.toList P==ByteArray.toList b)))
   | .geq=>n [0] (.bool (!(Op.bytesLess (ByteArray.toList P) (ByteArray.toList b))))
   |_=>no
  | .bool P,.bool b=>match l with
   | .eql=>n [0] (.bool (P==b))
   | .neq=>n [0] (.bool (!(P==b)))
   |_=>no
  |_,_=>no
 | .unOp x _ e=>zE d e λq f=>match x,f with
  | .not,.bool g=>match q with
   |2::_=>match g with
    |true=>n [2] (.bool false)
    |false=>n [2] (.bool true)
   |_=>n [0] (.bool (!g))
  | .neg,.int a P=>n [0] (.int a (IntKind.wrap a (0-P)))
  |_,_=>no
 | .convert u y e=>zT T u λi=>zT T y λg=>match i,g with
  |⟨0,_,_,_,_,_,_,_⟩,⟨0,_,_,_,_,_,_,a⟩=>zE d e λ_ f=>match f with
   | .int _ P=>n [0] (.int a (IntKind.wrap a P))
   |_=>False
  |_,_=>no
 | .field j e o=>zE d e λ_ f=>match f with
  | .agg cs=>zT T j λh=>match h with
   |⟨_,_,_,_,_,r,_,_⟩=>DJ r o λs=>match s with
    |(p,t,z)=>TG p cs.toList λk=>match z with
     |0=>match k with
      |c::_=>n [0] c
      |[]=>False
     |_=>TF t k λk=>n [0] (.agg k.toArray)
  |_=>False
 | .build j m=>zT T j λh=>match h with
  |⟨_,_,A,_,_,r,_,_⟩=>Qs d r m.toList A λk=>n [0] (.agg k.toArray)
 | .extract e o=>zE d e λq f=>match f with
  | .tuple cs=>DJ cs.toList o λc=>zg q o λq=>n [q] c
  |_=>False
 | .makeInterface j e=>zE d e λ_ f=>n [0] (.iface j f)
 | .makeFunc s i c=>zA d i.toList λi=>zA d c.toList λc=>n [0] (.func s i.toArray c.toArray)
 | .fieldAddr j e o=>zE d e λ_ f=>match f with
  | .pointer (some ⟨g,p,_⟩)=>zT T j λh=>match h with
   |⟨_,_,_,_,_,r,_,_⟩=>DJ r o λs=>match s with
    |(t,_,_)=>Uv p t λB=>n [0] (.pointer (some ⟨g,B,none⟩))
  |_=>False
 | .call c=>match c.callee with
  | .builtin g=>zA d c.args.toList λk=>match g,k with
   | .len,.slice _ t _::_=>n [0] (.int .i64 ((t:Nat):Int))
   | .len,.string u::_=>n [0] (.int .i64 ((ByteArray.size u:Nat):Int))
   | .max,.int a v::w=>SE true a v w (n [0])
   | .min,.int a v::w=>SE false a v w (n [0])
   |_,_=>no
  |_=>no
 |_=>no
abbrev Uy(a:dI)(n:Option Operand)(P:Option Value->Prop):Prop:=match n with
 |none=>P none
 |some n=>zE a n λ_ b=>P (some b)
abbrev DK(a:dI)(f:Oper)(P:Sem Value->Prop):Prop:=match f.op with
 | .lookup b n e j=>zE a n λ_ n=>zE a e λ_ e=>P (Instr.lookup b n e j)
 | .makeSlice b d c=>zE a d λ_ d=>zE a c λ_ c=>P (Instr.makeSlice b d c)
 | .convert k p n=>zE a n λ_ n=>P (convert k p n)
 | .range b n=>zE a n λ_ n=>P (Instr.range b n)
 | .next g k=>zE a g λ_ g=>P (Instr.next g k f.type)
 | .entry g=>zE a g λ_ g=>P (Instr.entry g)
 | .mapEntry b l e=>zE a l λ_ l=>zE a e λ_ e=>P (Instr.mapEntry b l e)
 | .typeAssert n b q j=>zE a n λ_ n=>P (Instr.typeAssert n b q j)
 | .panic n=>zE a n λ_ n=>P (Instr.panic n)
 | .index b n e=>zE a n λ_ n=>zE a e λ_ e=>P (Instr.index b n e)
 | .binOp h b n m _=>zE a n λ_ o=>zE a m λ_ i=>P (do eqGuard h b n m o i;binOp h b o i)
 | .call c=>match c.callee with
  | .builtin i=>zA a c.args.toList λd=>match i with
   | .append=>P (Builtin.append_ c.argTypes f.type d.toArray)
   | .cap=>P (Builtin.cap_ c.argTypes f.type d.toArray)
   | .clear=>P (Builtin.clear_ c.argTypes f.type d.toArray)
   | .copy=>P (Builtin.copy_ c.argTypes f.type d.toArray)
   | .delete=>P (Builtin.delete_ c.argTypes f.type d.toArray)
   | .len=>P (Builtin.len_ c.argTypes f.type d.toArray)
   | .max=>P (Builtin.max_ c.argTypes f.type d.toArray)
   | .min=>P (Builtin.min_ c.argTypes f.type d.toArray)
   | .panic=>match d with
    |v::_=>P (Instr.panic v)
    |[]=>False
   |_=>False
  |_=>False
 |_=>False
abbrev vA(n:Nat)(P:Nat->Prop):Prop:=zT T n λa=>match a with
 |⟨b,_,_,_,_,_,_,_⟩=>P b
abbrev GJ(e:Oper)(n P:Prop):Prop:=match e.op with
 | .lookup .. =>n
 | .next .. =>n
 | .entry _=>n
 | .mapEntry .. =>n
 | .makeSlice .. =>n
 | .convert f g _=>vA T f λa=>vA T g λd=>match a,d with
  |0,0=>P
  |_,_=>n
 | .binOp h c _ b _=>match h with
  | .quo=>match TH b with
   |true=>P
   |false=>n
  | .rem=>match TH b with
   |true=>P
   |false=>n
  | .shl=>match TH b with
   |true=>P
   |false=>n
  | .shr=>match TH b with
   |true=>P
   |false=>n
  | .add=>vA T c λa=>match a with
   |0=>P
   |_=>n
  | .eql=>vA T c λa=>match a with
   |0=>P
   |1=>P
   |2=>P
   |_=>n
  | .neq=>vA T c λa=>match a with
   |0=>P
   |1=>P
   |2=>P
   |_=>n
  |_=>P
 | .call b=>match b.callee with
  | .builtin d=>match d with
   | .append=>n
   | .copy=>n
   | .cap=>n
   | .len=>DJ b.argTypes.toList 0 λc=>vA T c λa=>match a with
    |5=>n
    |_=>P
   |_=>P
  |_=>P
 |_=>P
abbrev Qt(e i:Nat)(n a:Nat)(b:World)(c:List Nat->Value->Prop):Prop:=zT T e λj=>match j with
 |⟨f,_,d,_,_,_,_,_⟩=>match Xo q X f d i with
  |true=>gP P e (.pointer (some ⟨n,a,none⟩)) b λk=>c [1] k
  |false=>match Xn f with
   |true=>XR d λg=>Uw b n a idx g (c [0] (.agg g.toArray))
   |false=>match d with
    |z::_=>z1 z λh=>b.cell? ⟨n,a,none⟩=some h/\c [0] h
    |[]=>False
abbrev Uz(h:dI)(o:Nat)(p:Operand)(f g i:Option Operand)(a:Value->Prop):Prop:=zE h p λ_ m=>Uy h f λf=>Uy h g λg=>Uy h i λi=>zT T o λj=>match j with
 |⟨2,_,_,_,_,_,_,_⟩=>match m with
  | .string c=>match f,g with
   |none,none=>a (.string (c.extract 0 c.size))
   |some (.int _ n),none=>(0:Int)<=n/\n<=((c.size:Nat):Int)/\a (.string (c.extract n.toNat c.size))
   |none,some (.int _ P)=>(0:Int)<=P/\P<=((c.size:Nat):Int)/\a (.string (c.extract 0 P.toNat))
   |some (.int _ n),some (.int _ P)=>(0:Int)<=n/\n<=P/\P<=((c.size:Nat):Int)/\a (.string (c.extract n.toNat P.toNat))
   |_,_=>False
  |_=>False
 |⟨_,_,_,q,_,_,_,_⟩=>match m with
  | .slice e k b=>zT T q λj=>match j with
   |⟨_,l,_,_,_,_,_,_⟩=>match i with
    |none=>match f,g with
     |none,none=>a (.slice e k b)
     |some (.int _ n),none=>(0:Int)<=n/\n<=((k:Nat):Int)/\a (.slice (cI e n.toNat b l) (k-n.toNat) (b-n.toNat))
     |none,some (.int _ P)=>(0:Int)<=P/\P<=((b:Nat):Int)/\a (.slice e P.toNat b)
     |some (.int _ n),some (.int _ P)=>(0:Int)<=n/\n<=P/\P<=((b:Nat):Int)/\a (.slice (cI e n.toNat b l) (P.toNat-n.toNat) (b-n.toNat))
     |_,_=>False
    |some (.int _ d)=>match f,g with
     |none,some (.int _ P)=>(0:Int)<=P/\P<=d/\d<=((b:Nat):Int)/\a (.slice e P.toNat d.toNat)
     |some (.int _ n),some (.int _ P)=>(0:Int)<=n/\n<=P/\P<=d/\d<=((b:Nat):Int)/\a (.slice (cI e n.toNat d.toNat l) (P.toNat-n.toNat) (d.toNat-n.toNat))
     |_,_=>False
    |_=>False
  |_=>False
abbrev Qu(n:Nat)(P:Int)(a:Nat)(b:Nat->Prop):Prop:=match a with
 |1=>b (n+P.toNat)
 |_=>b (n+P.toNat*a)
abbrev UA(f:dI)(i:Nat)(j n:Operand)(g:Value->Prop):Prop:=zE f j λ_ k=>zE f n λ_ l=>zT T i λb=>match b,l with
 |⟨m,_,_,o,c,_,_,_⟩,.int _ n=>zT T o λb=>match b with
  |⟨_,h,_,_,_,_,_,_⟩=>match m,k with
   |3,.slice d p _=>∃P a,d=some ⟨P,a,none⟩/\(0:Int)<=n/\n<((p:Nat):Int)/\Qu a n h λe=>g (.pointer (some ⟨P,e,none⟩))
   |7,.pointer d=>∃P a,d=some ⟨P,a,none⟩/\(0:Int)<=n/\n<((c:Nat):Int)/\Qu a n h λe=>g (.pointer (some ⟨P,e,none⟩))
   |_,_=>False
 |_,_=>False
abbrev Xp(b:dI)(c:Operand)(n:Value->Prop):Prop:=zE b c λ_ d=>match d with
 | .pointer e=>∃P a,e=some ⟨P,a,none⟩/\n (.pointer (some ⟨P,a,none⟩))
 | .func f g h=>n (.func f g h)
 |_=>False
abbrev VM(P:dI)(b n:Operand)(c:Value->Prop):Prop:=zE P b λ_ d=>zE P n λ_ e=>match d,e with
 | .string f,.int _ n=>(0:Int)<=n/\∃a,f[n.toNat]? =some a/\c (.int .u8 ((a.toNat:Nat):Int))
 |_,_=>False
abbrev Ll(P:Program)(T:Tr)(a b:Nat):List Oper->(Nat->List Value->Prop)->Prop
 |[],n=>n 8 [undef]
 |d::c,n=>match d.op with
  | .extract (.tmp e) f=>match Nat.beq e a with
   |true=>match Nat.beq f b with
    |true=>zT T d.type λg=>match g with
     |⟨h,_,i,_,_,_,_,_⟩=>n h i
    |false=>Ll P T a b c n
   |false=>Ll P T a b c n
  |_=>Ll P T a b c n
abbrev Pe(r:List Oper)(o:Value->World->Prop)(z:List PanicEntry->World->Prop)(a:Oper)(e:dI->World->Prop)(n:dI)(d:World):Prop:=
 match a.op with
 | .load h i=>zE n i λ_ i=>match i with
  | .pointer (some ⟨m,of,_⟩)=>Qt P T q X h (a.dst.getD 9999) m of d λg c=>eE n a.dst g c λn=>e n d
  |_=>False
 | .store h i f=>zE n i λ_ i=>zE n f λg f=>match i with
  | .pointer (some ⟨m,of,_⟩)=>zT T h λs=>match s with
   |⟨j,_,t,_,_,_,_,_⟩=>match Xo q [] j t 0 with
    |true=>kv P h (.pointer (some ⟨m,of,none⟩)) f d λb=>eE n a.dst [0] undef λn=>e n b
    |false=>match SC 1 g with
     |true=>kv P h (.pointer (some ⟨m,of,none⟩)) f d λb=>eE n a.dst [0] undef λn=>e n b
     |false=>Ww f λcs=>Ux m of idx cs d λb=>eE n a.dst [0] undef λn=>e n b
  |_=>False
 | .indexAddr h f w=>UA T n h f w λc=>eE n a.dst [0] c λn=>e n d
 | .slice h f M N O=>Uz T n h f M N O λc=>eE n a.dst [0] c λn=>e n d
 | .nilCheck f=>Xp n f λc=>eE n a.dst [0] c λn=>e n d
 | .index h f w=>VM n f w λc=>eE n a.dst [0] c λn=>e n d
 | .alloc h=>zT T h λs=>match s with
  |⟨_,_,t,_,_,_,_,_⟩=>PA d (.cells t.toArray h) λb=>eE n a.dst [0] (.pointer (some ⟨d.heap.size,0,none⟩)) λn=>e n b
 | .box h f=>zE n f λg c=>match SC 1 g with
  |true=>PA d (.cells (Value.cells c) h) λb=>eE n a.dst [0] (.pointer (some ⟨d.heap.size,0,none⟩)) λn=>e n b
  |false=>Ww c λcs=>PA d (.cells cs.toArray h) λb=>eE n a.dst [0] (.pointer (some ⟨d.heap.size,0,none⟩)) λn=>e n b
 | .buildSlice h A u=>zT T h λs=>match s with
  |⟨_,_,_,H,_,_,_,_⟩=>zT T H λs=>match s with
   |⟨_,Q,t,_,_,_,_,_⟩=>VL A t λB=>MF n Q u.toList B λB=>PA d (.cells B.toArray H) λb=>eE n a.dst [0] (.slice (some ⟨d.heap.size,0,none⟩) A A) λn=>e n b
 | .makeMap _ _=>PA d (.map #[] 0) λb=>eE n a.dst [0] (.map (some d.heap.size)) λn=>e n b
 | .mapUpdate h p j f=>zE n p λ_ p=>zE n j λ_ j=>zE n f λ_ f=>jw P (Instr.mapUpdate h p j f) d (λb=>eE n a.dst [0] undef λn=>e n b) o
 | .insert h p j f=>zE n p λ_ p=>zE n j λ_ j=>zE n f λ_ f=>jw P (Instr.mapUpdate h p j f) d (λb=>eE n a.dst [0] undef λn=>e n b) o
 | .entryStore h p j f=>zE n p λ_ p=>zE n j λ_ j=>zE n f λ_ f=>jw P (Instr.entryStore h p j f) d (λb=>eE n a.dst [0] undef λn=>e n b) o
 | .next S R=>DK n a λl=>aG P l d (λc b=>(c= .tuple #[.bool false]/\eE n a.dst [2] (.tuple #[.bool false]) λn=>e n b)\/(match R with
  |true=>∃w I,c= .tuple #[.bool true,.int .i64 w,.int .i32 I]/\eE n a.dst [2,0,0] (.tuple #[.bool true,.int .i64 w,.int .i32 I]) λn=>e n b
  |false=>∃j f,c= .tuple #[.bool true,j,f]/\eE n a.dst [2,0,0] (.tuple #[.bool true,j,f]) λn=>e n b)) o
 | .entry _=>DK n a λl=>Ll P T (a.dst.getD 9999) 0 r λC E=>Ll P T (a.dst.getD 9999) 1 r λF z1=>aG P l d (λc b=>zX C E λi=>zX F z1 λm=>c= .tuple #[i,m]/\eE n a.dst [0,0] (.tuple #[i,m]) λn=>e n b) o
 | .mapEntry _ _ _=>DK n a λl=>Ll P T (a.dst.getD 9999) 0 r λC E=>Ll P T (a.dst.getD 9999) 1 r λF z1=>aG P l d (λc b=>zX C E λi=>zX F z1 λm=>c= .tuple #[i,m]/\eE n a.dst [0,0] (.tuple #[i,m]) λn=>e n b) o
 | .typeAssert _ _ k true=>DK n a λl=>zT T k λs=>match s with
  |⟨j,_,t,_,_,_,_,_⟩=>aG P l d (λc b=>zX j t λi=>∃m,c= .tuple #[i,.bool m]/\eE n a.dst [0,0] (.tuple #[i,.bool m]) λn=>e n b) o
 | .call y=>match y.callee with
  | .value (.func g)=>zA n y.args.toList λi=>PC P g i.toArray d (λc b=>Lk P T q X a.type a.dst λg k=>c=k/\eE n a.dst g k λn=>e n b) z
  | .value v=>zE n v λ_ v=>zA n y.args.toList λi=>∃g J K,v= .func (.func g) J K/\enters P g=true/\PC P g (J++i.toArray++K) d (λc b=>Lk P T q X a.type a.dst λg k=>c=k/\eE n a.dst g k λn=>e n b) z
  | .invoke v x=>zE n v λ_ v=>zA n y.args.toList λi=>∃g L,(∀d,(callMethod v x i.toArray).run P d= .ok (.enter g L) d)/\PC P g L d (λc b=>Lk P T q X a.type a.dst λg k=>c=k/\eE n a.dst g k λn=>e n b) z
  |_=>GJ T a (DK n a λl=>aG P l d (λc b=>Lk P T q X a.type a.dst λg k=>c=k/\eE n a.dst g k λn=>e n b) o)
   (MG T n a (λg c=>eE n a.dst g c λn=>e n d) (DK n a λl=>aG P l d (λc b=>eE n a.dst [1] c λn=>e n b) o))
 |_=>GJ T a (DK n a λl=>aG P l d (λc b=>Lk P T q X a.type a.dst λg k=>c=k/\eE n a.dst g k λn=>e n b) o)
   (MG T n a (λg c=>eE n a.dst g c λn=>e n d) (DK n a λl=>aG P l d (λc b=>eE n a.dst [1] c λn=>e n b) o))
abbrev VN(n:List Oper)(P:Nat)(a:Nat->Prop):Prop:=DJ n P λb=>match b.dst with
 |some c=>a c
 |none=>False
abbrev GK(e:List Oper)(f:Oper)(P:dI)(a n:dI->Prop):Prop:=match f.guard with
 |none=>a P
 |some (g,c)=>VN e g λb=>zL P b λh i=>match i with
  | .bool d=>match SC 2 h with
   |true=>match c with
    |true=>match d with
     |true=>a ((b,[2],.bool true)::P)
     |false=>n ((b,[2],.bool false)::P)
    |false=>match d with
     |true=>n ((b,[2],.bool true)::P)
     |false=>a ((b,[2],.bool false)::P)
   |false=>match c with
    |true=>al d (a ((b,[2],.bool true)::P)) (n ((b,[2],.bool false)::P))
    |false=>al d (n ((b,[2],.bool true)::P)) (a ((b,[2],.bool false)::P))
  | .tuple _=>n P
  |_=>False
abbrev Xr(b:List Oper)(f:Value->World->Prop)(g:List PanicEntry->World->Prop)(h:List Oper):(dI->World->Prop)->dI->World->Prop:=
 List.rec (motive:=λ_=>(dI->World->Prop)->dI->World->Prop) (λc n a=>c n a)
  (λd _ e c n a=>GK b d n (λn=>Pe P T q X b f g d (λn a=>e c n a) n a) (λn=>eE n d.dst [0] undef λn=>e c n a)) h
abbrev Yp(c:Oper)(n:Nat->Prop):Prop:=match c.op with
 | .move _=>n 0
 | .assign _=>n 0
 | .pick .. =>n 0
 | .build .. =>n 0
 | .binOp .. =>n 0
 | .unOp .. =>n 0
 | .indexAddr .. =>n 0
 | .slice .. =>n 0
 | .nilCheck _=>n 0
 | .fieldAddr .. =>n 0
 | .field .. =>n 0
 | .index .. =>n 0
 | .extract .. =>n 0
 | .typeAssert .. =>n 0
 | .convert d e _=>vA T d λP=>vA T e λa=>match P,a with
  |0,0=>n 0
  |_,_=>n 2
 | .load .. =>n 1
 | .lookup .. =>n 1
 | .call b=>match b.callee with
  | .builtin a=>match a with
   | .len=>DJ b.argTypes.toList 0 λf=>vA T f λP=>match P with
    |5=>n 1
    |_=>n 0
   | .cap=>n 0
   | .max=>n 0
   | .min=>n 0
   |_=>n 2
  |_=>n 2
 |_=>n 2
abbrev VO:List Oper->(List Nat->Prop)->Prop
 |[],n=>n []
 |P::a,n=>Yp T P λb=>VO a λc=>n (b::c)
abbrev SF:List Edge->(List Nat->Prop)->Prop
 |[],n=>n []
 |e::P,n=>match e with
  |⟨a,b⟩=>match b with
   | .textOnly _=>SF P n
   | .gcOnly _=>SF P n
   |_=>SF P λc=>n (a::c)
abbrev TI:List Oper->(List (List Nat)->Prop)->Prop
 |[],n=>n []
 |P::a,n=>SF P.after.toList λb=>TI a λc=>n (b::c)
abbrev TJ:List Nat->Bool
 |[]=>false
 |k::n=>match k with
  |2=>true
  |_=>TJ n
abbrev TK:List Nat->List Nat->Bool
 |[],_=>true
 |a::P,n=>match zm n a with
  |true=>TK P n
  |false=>false
abbrev SG:List Nat:=[0,1,2,3,4,5,6,7,8,9,10,11,12,13,14,15,16,17,18,19,20,21,22,23,24,25,26,27,28,29,30,31,32,33,34,35,36,37,38,39,40,41,42,43,44,45,46,47,48,49,50,51,52,53,54,55,56,57,58,59,60,61,62,63]
abbrev uh(n:List Nat):List Nat->List (List Nat)->List Nat
 |a::is,b::P=>match zm n a with
  |true=>uh n is P
  |false=>match TK b n with
   |true=>a::uh n is P
   |false=>uh n is P
 |_,_=>[]
abbrev VP:List Nat->Nat->Nat
 |[],_=>2
 |x::n,P=>match P with
  |0=>x
  |a+1=>VP n a
abbrev QA(n:List Nat):List Nat->Option Nat
 |[]=>none
 |P::a=>match VP n P with
  |2=>QA n a
  |_=>some P
abbrev GM(n:Nat):List Nat->Option Nat
 |[]=>none
 |P::a=>match Nat.beq n P with
  |true=>GM n a
  |false=>some P
abbrev Lm(a:List (List Nat))(b:Nat):List Oper->List Nat->(List Nat->Prop)->Prop
 |[],n,P=>P n
 |_::c,n,P=>match GM b (uh n SG a)with
  |some d=>Lm a b c (d::n) P
  |none=>P n
abbrev QB(P n:List Nat):List Nat->Bool
 |[]=>true
 |a::b=>match zm n a with
  |true=>QB P n b
  |false=>match VP P a with
   |2=>false
   |_=>QB P n b
abbrev QC(a:List (List Nat))(d:List Nat)(e:List Oper)(b:Nat)(n:List Nat)(P:Bool->Prop):Prop:=Lm a b e n λc=>match GM b (uh c SG a)with
 |some _=>P false
 |none=>match QB d n c with
  |true=>P true
  |false=>P false
abbrev UB:List Nat->List Nat->(List Nat->Prop)->Prop
 |[],n,P=>P n
 |a::b,n,P=>match zm n a with
  |true=>UB b n P
  |false=>UB b (a::n) P
abbrev VQ(b:List (List Nat))(e:List Oper)(c:Nat)(n:List Nat)(P:Option (List Nat))(a:Option (List Nat)->Prop):Prop:=match P with
 |none=>a none
 |some P=>Lm b c e n λd=>match GM c (uh d SG b)with
  |some _=>a none
  |none=>UB d P λP=>a (some P)
abbrev Xs(a:List Nat):(Nat->Prop)->Prop:=
 List.rec (motive:=λ_=>(Nat->Prop)->Prop) (λ_=>True) (λP b c n=>match b with
  |[]=>n P
  |_::_=>n P/\c n) a
abbrev Yq(n:Option (List Nat))(P:Nat):Bool:=match n with
 |none=>true
 |some n=>zm n P
abbrev qO(n:Value)(P:World):Prop:=∀(_:bL) (_:cy),R (.panicked [{v:=n,recovered:=false}]) P
abbrev qP(n:List PanicEntry)(P:World):Prop:=∀(_:bL) (_:cy),R (.panicked n) P
abbrev SH(b:List Oper)(a:Oper)(o:Nat)(d:Bool)(l:Nat->Prop)(e:dI->Prop)(n:dI)(c:World):Prop:=
 match a.op with
 | .load p i=>match d with
  |true=>zE n i λ_ i=>match i with
   | .pointer (some ⟨m,of,_⟩)=>¬l m/\Qt P T q X p (a.dst.getD 9999) m of c λg j=>eE n a.dst g j λn=>e n
   |_=>False
  |false=>Pe P T q X b (qO R) (qP R) a (λn _=>e n) n c
 | .indexAddr .. =>Pe P T q X b (qO R) (qP R) a (λn _=>e n) n c
 | .slice .. =>Pe P T q X b (qO R) (qP R) a (λn _=>e n) n c
 | .nilCheck .. =>Pe P T q X b (qO R) (qP R) a (λn _=>e n) n c
 | .index .. =>Pe P T q X b (qO R) (qP R) a (λn _=>e n) n c
 |_=>GJ T a (DK n a λk=>Lk P T q X a.type a.dst λg h=>(match o with
   |0=>∀f,k.run P f= .ok h f
   |_=>match d with
    |true=>∀f,ak l c f->k.run P f= .ok h f
    |false=>k.run P c= .ok h c)/\eE n a.dst g h λn=>e n)
  (MG T n a (λg j=>eE n a.dst g j λn=>e n) False)
abbrev UC(b:List Oper)(m:List (List Nat))(k:List Nat)(p:List Oper)(h:Bool)(i:Nat->Prop)(r:dI->World->Prop)(j:List Oper):List Nat->Option (List Nat)->dI->World->Prop:=
 List.rec (motive:=λ_=>List Nat->Option (List Nat)->dI->World->Prop) (λ_ _ a d=>r a d) (λ_ _ g n e a d=>match uh n SG m with
  |[]=>r a d
  |s=>match QA k s with
   |some c=>DJ b c λf=>(λo=>GK b f a o (λa=>eE a f.dst [0] undef λa=>g (c::n) e a d)) (match h with
    |false=>λa=>SH P T R q X b f (VP k c) false i (λa=>g (c::n) e a d) a d
    |true=>match VP k c with
     |0=>λa=>SH P T R q X b f 0 false i (λa=>g (c::n) e a d) a d
     |_=>λa=>QC m k p c n λt=>match t with
      |true=>SH P T R q X b f 1 false i (λa=>g (c::n) e a d) a d
      |false=>VQ m p c n e λe=>SH P T R q X b f 1 true i (λa=>g (c::n) e a d) a d)
   |none=>Xs s λc=>DJ b c λf=>GK b f a (λa=>Pe P T q X b (qO R) (qP R) f (λa l=>match h with
     |false=>g (c::n) e a l
     |true=>match Yq e c with
      |true=>ak i d l/\g (c::n) e a l
      |false=>g (c::n) e a l) a d) (λa=>eE a f.dst [0] undef λa=>g (c::n) e a d)) j
abbrev VR(c:List Oper)(i:List Oper):(dI->Prop)->dI->World->Prop:=
 List.rec (motive:=λ_=>(dI->Prop)->dI->World->Prop) (λd n _=>d n) (λa _ e d n b=>GK c a n (λn=>match a.op with
  | .load .. =>Pe P T q X c (qO R) (qP R) a (λn _=>e d n b) n b
  | .indexAddr .. =>Pe P T q X c (qO R) (qP R) a (λn _=>e d n b) n b
  | .slice .. =>Pe P T q X c (qO R) (qP R) a (λn _=>e d n b) n b
  | .nilCheck .. =>Pe P T q X c (qO R) (qP R) a (λn _=>e d n b) n b
  | .index .. =>Pe P T q X c (qO R) (qP R) a (λn _=>e d n b) n b
  |_=>GJ T a (DK n a λj=>Lk P T q X a.type a.dst λf g=>(∀h,j.run P (b.drewN h)= .ok g (b.drewN h))/\eE n a.dst f g λn=>e d n b)
   (MG T n a (λf k=>eE n a.dst f k λn=>e d n b) False)) (λn=>eE n a.dst [0] undef λn=>e d n b)) i
abbrev GN:Code->Option Nat
 | .region id _ _=>some id
 | .seq P a=>match GN P with
  |some b=>some b
  |none=>GN a
 | .cond _ P a=>match GN P with
  |some b=>some b
  |none=>GN a
 | .block _ n=>GN n
 | .loop n=>GN n
 | .scope n=>GN n
 |_=>none
abbrev UD:List Oper->List Nat->List Nat
 |[],n=>n
 |a::P,n=>match a.dst with
  |some b=>b::UD P n
  |none=>UD P n
abbrev SI:Code->List Nat->List Nat
 | .region _ a _,n=>UD a.toList n
 | .seq b c,n=>SI b (SI c n)
 | .cond _ b c,n=>SI b (SI c n)
 | .block _ P,n=>SI P n
 | .loop P,n=>SI P n
 | .scope P,n=>SI P n
 |_,n=>n
abbrev SK(P:List Nat):dI->(dI->Prop)->Prop
 |[],n=>n []
 |(a,c,d)::b,n=>match zm P a with
  |true=>SK P b n
  |false=>SK P b λe=>n ((a,c,d)::e)
abbrev QD(P:List (Nat×List (Nat×Value)))(a:Option Nat):Option (List (Nat×Value)):=match a with
 |none=>none
 |some n=>match P with
  |[]=>none
  |(b,c)::d=>match Nat.beq b n with
   |true=>some c
   |false=>QD d (some n)
abbrev RZ:List (Nat×Value)->List Value
 |[]=>[]
 |(_,n)::P=>n::RZ P
abbrev QE:List Value->Type->Type
 |[],n=>n
 |z::P,n=>match z with
  | .int _ _=>Int->QE P n
  | .bool _=>Bool->QE P n
  | .string _=>ByteArray->QE P n
  | .slice _ _ _=>Option Addr->Nat->Nat->QE P n
  | .pointer (some _)=>Nat->Nat->QE P n
  | .pointer none=>Option Addr->QE P n
  | .map _=>Option Nat->QE P n
  |_=>Value->QE P n
abbrev DM:(P:List Value)->QE P (World->Prop)->List Value->World->Prop
 |[],n,_,a=>n a
 |z::P,n,b,a=>match b with
  |[]=>False
  |v::b=>match z,n with
   | .int k _,n=>match v with
    | .int _ c=>DM P (n c) b a
    |_=>False
   | .bool _,n=>match v with
    | .bool d=>DM P (n d) b a
    |_=>False
   | .string _,n=>match v with
    | .string e=>DM P (n e) b a
    |_=>False
   | .slice _ _ _,n=>match v with
    | .slice f c g=>DM P (n f c g) b a
    |_=>False
   | .pointer (some _),n=>match v with
    | .pointer (some ⟨d,h,_⟩)=>DM P (n d h) b a
    |_=>False
   | .pointer none,n=>match v with
    | .pointer i=>DM P (n i) b a
    |_=>False
   | .map _,n=>match v with
    | .map j=>DM P (n j) b a
    |_=>False
   | .float _ _,n=>DM P (n v) b a
   | .complex _ _ _,n=>DM P (n v) b a
   | .chan _,n=>DM P (n v) b a
   | .func _ _ _,n=>DM P (n v) b a
   | .nilFunc,n=>DM P (n v) b a
   | .iface _ _,n=>DM P (n v) b a
   | .nilIface,n=>DM P (n v) b a
   | .agg _,n=>DM P (n v) b a
   | .tuple _,n=>DM P (n v) b a
abbrev TL(n:List Value):(List Value->Prop)->Prop:=
 List.rec (motive:=λ_=>(List Value->Prop)->Prop) (λP=>P []) (λd _ a P=>match d with
  | .int e _=>∀b:Int,a λn=>P (.int e b::n)
  | .bool _=>∀c:Bool,a λn=>P (.bool c::n)
  | .string _=>∀f:ByteArray,a λn=>P (.string f::n)
  | .slice _ _ _=>∀(g:Option Addr) (b h:Nat),a λn=>P (.slice g b h::n)
  | .pointer (some _)=>∀(c i:Nat),a λn=>P (.pointer (some ⟨c,i,none⟩)::n)
  | .pointer none=>∀j:Option Addr,a λn=>P (.pointer j::n)
  | .map _=>∀k:Option Nat,a λn=>P (.map k::n)
  |_=>∀l:Value,a λn=>P (l::n)) n
abbrev MH(P:dI):List (Nat×Value)->(List Value->Prop)->Prop
 |[],n=>n []
 |(a,_)::b,n=>zL P a λ_ c=>MH P b λd=>n (c::d)
abbrev QF:List (Nat×Value)->List Value->dI->(dI->Prop)->Prop
 |(a,_)::b,c::d,n,P=>QF b d n λn=>P ((a,[0],c)::n)
 |_,_,n,P=>P n
abbrev zC(o:fL)(s:dI->World->Prop)(i:Code):(dI->World->Prop)->(Nat->dI->World->Prop)->dI->World->Prop:=
 Code.rec (motive:=λ_=>(dI->World->Prop)->(Nat->dI->World->Prop)->dI->World->Prop)
  (λc _ n a=>c n a)
  (λid b j c _ n a=>match j with
   |false=>Xr P T q X b.toList (λt a=>R (.panicked [{v:=t,recovered:=false}]) a) (λE a=>R (.panicked E) a) b.toList c n a
   |true=>VO T b.toList λp=>match TJ p with
    |false=>VR P T R q X b.toList b.toList (λn=>∀f,aV a f->c n f) n a
    |true=>TI b.toList λu=>match zm o.keeps id with
     |true=>∀f,aV a f->∃d:Nat->Prop,match zm o.MI id with
      |true=>UC P T R q X b.toList u p b.toList true d c b.toList [] (some []) n f
      |false=>UC P T R q X b.toList u p b.toList true d c b.toList [] none n f
     |false=>∀f,aV a f->UC P T R q X b.toList u p b.toList false (λ_=>False) c b.toList [] none n f)
  (λx y g h c e n a=>match QD o.QG (GN y)with
   |none=>g (λn a=>h c e n a) e n a
   |some d=>∃z:QE (RZ d) (World->Prop),g (λn a=>MH n d λk=>DM (RZ d) z k a) e n a/\
     SK (SI x []) n λv=>TL (RZ d) λl=>∀(F:Nat->Value) (f:World),DM (RZ d) z l f->QF d l v λn=>h c e n f)
  (λi x y g h c e n a=>zE n i λH t=>match t with
   | .bool A=>match SC 2 H with
    |true=>match A with
     |true=>g c e n a
     |false=>h c e n a
    |false=>al A (g c e n a) (h c e n a)
   |_=>False)
  (λid _ m c e n a=>m c (λB n a=>match Nat.beq B id with
   |true=>c n a
   |false=>e B n a) n a)
  (λi m c e n a=>match QD o.loops (GN i)with
   |none=>False
   |some d=>∃w:Nat->QE (RZ d) (World->Prop),(∃r,MH n d λk=>DM (RZ d) (w r) k a)/\
     ∀r,SK (SI i []) n λv=>TL (RZ d) λl=>∀(F:Nat->Value) (f:World),DM (RZ d) (w r) l f->
      QF d l v λn=>m (λn a=>∃C,C<r/\MH n d λk=>DM (RZ d) (w C) k a) e n f)
  (λ_ _ _ _ _ _ _ _ _ _=>False)
  (λid _ e n a=>e id n a)
  (λ_ m c e n a=>m c e n a)
  (λ_ c _ n a=>c n a)
  (λ_ _ _ _ _=>False)
  (λ_ _ n a=>s n a)
  (λ_ _ _ _ _=>False) i
abbrev Xt(d:dI)(g:World)(n:List ResultVar):(List Value->Prop)->Prop:=
 List.rec (motive:=λ_=>(List Value->Prop)->Prop) (λa=>a []) (λh _ e a=>match h with
  | .tmp b=>zL d b λ_ c=>e λn=>a (c::n)
  | .cell f b=>zL d f λ_ i=>match i with
   | .pointer (some ⟨j,k,_⟩)=>Qt P T q X b (2000000+f) j k g λ_ c=>e λn=>a (c::n)
   |_=>False) n
abbrev VS(b:List ResultVar)(c:dI)(n:World):Prop:=Xt P T q X c n b λa=>match a with
 |[d]=>R (.returned d) n
 |a=>R (.returned (.tuple a.toArray)) n
abbrev TM:List Nat->List Value->(dI->Prop)->Prop
 |P::is,a::b,n=>TM is b λc=>n ((P,[0],a)::c)
 |_,_,n=>n []
end
structure An where
 A:fL
 q:Bool
 X:List Nat
abbrev VH(P:Program)(a:Tr)(f:An)(e:List ResultVar)(g:Code)(n:List Value)(h:World)(b:Ending->World->Prop):Prop:=match f with
 |⟨i,c,d⟩=>TM idx n λj=>zC P a b c d i (VS P a b c d e) g (VS P a b c d e) (λ_ _ _=>False) j h

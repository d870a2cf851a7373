import Derived.Test.YtjgjkeponbeekaaGreatDoorYkLift
set_option linter.all false
namespace Go.aw
open Go
structure Ty where
 k:Nat
 size:Nat
 zs:List Value
 el:Nat
 n:Nat
 fs:List (Nat×Nat×Nat)
 ts:List Nat
 ik:IntKind
inductive Tr where
 |n
 |b (l:Tr) (i:Nat) (v:Ty) (r:Tr)
abbrev TI(n:Nat):List Nat->Bool
 |[]=>false
 |x::P=>match P with
  |[]=>Nat.beq x n
  |_::_=>false
abbrev eh:=List (Nat×List Nat×Value)
abbrev zT:Tr->Nat->(Ty->Prop)->Prop
 | .n,_,_=>False
 | .b b a c d,n,P=>match Nat.beq n a with
  |true=>P c
  |false=>match Nat.ble n a with
   |true=>zT b n P
   |false=>zT d n P
abbrev zm:List Nat->Nat->Bool
 |[],_=>false
 |d::P,n=>match Nat.beq d n with
  |true=>true
  |false=>zm P n
abbrev DJ{n:Type}:List n->Nat->(n->Prop)->Prop
 |[],_,_=>False
 |x::a,b,P=>match b with
  |0=>P x
  |c+1=>DJ a c P
abbrev zg:List Nat->Nat->(Nat->Prop)->Prop
 |[],_,n=>n 0
 |x::P,a,n=>match a with
  |0=>n x
  |b+1=>zg P b n
abbrev zL:eh->Nat->(List Nat->Value->Prop)->Prop
 |[],_,_=>False
 |(a,b,c)::d,n,P=>match Nat.beq a n with
  |true=>P b c
  |false=>zL d n P
abbrev zE(P:eh)(a:Operand)(n:List Nat->Value->Prop):Prop:=match a with
 | .tmp b=>zL P b n
 | .const c=>n [2] c
 | .global d=>n [0] (.pointer (some ⟨d,0,none⟩))
 | .func e=>n [0] (.func (.func e) #[] #[])
abbrev zA(P:eh):List Operand->(List Value->Prop)->Prop
 |[],n=>n []
 |x::a,n=>zE P x λ_ b=>zA P a λc=>n (b::c)
abbrev fm(P:eh)(n:Option Tmp)(b:List Nat)(c:Value)(a:eh->Prop):Prop:=match n with
 |some n=>a ((n,b,c)::P)
 |none=>a P
abbrev YD(n:Nat):Bool:=match n with
 |6=>true
 |7=>true
 |_=>false
abbrev YE(n:Bool)(P:List Nat)(a:Nat)(b:List Value)(c:Nat):Bool:=match n with
 |false=>false
 |true=>match YD a with
  |false=>false
  |true=>match b with
   |_::_::_::_=>match zm P c with
    |true=>false
    |false=>true
   |_=>false
abbrev z1(a:Value)(n:Value->Prop):Prop:=match a with
 | .int b _=>∃P:Int,n (.int b P)
 | .bool _=>∃c:Bool,n (.bool c)
 | .string _=>∃d:ByteArray,n (.string d)
 | .slice _ _ _=>∃(e:Option Addr) (P f:Nat),n (.slice e P f)
 | .pointer _=>∃g:Option Addr,n (.pointer g)
 | .map _=>∃h:Option Nat,n (.map h)
 |_=>∃i:Value,n i
abbrev YY(n:List Value):(List Value->Prop)->Prop:=
 List.rec (motive:=λ_=>(List Value->Prop)->Prop) (λP=>P []) (λa _ b P=>z1 a λc=>b λn=>P (c::n)) n
abbrev zX(a:Nat)(n:List Value)(P:Value->Prop):Prop:=match YD a with
 |true=>YY n λb=>P (.agg b.toArray)
 |false=>match n with
  |z::_=>z1 z P
  |[]=>False
abbrev idx:List Nat:=[0,1,2,3,4,5,6,7,8,9,10,11,12,13,14,15,16,17,18,19]
abbrev VA(n:Nat)(P:Nat)(a:Nat->Prop):Prop:=match P with
 |0=>a n
 |_=>a (n+P)
abbrev VB(a:World)(b c:Nat)(d:List Nat):List Value->Prop->Prop:=
 List.rec (motive:=λ_=>List Value->Prop->Prop) (λ_ n=>n) (λe _ f P n=>match P with
  |v::P=>(VA c e λg=>a.cell? ⟨b,g,none⟩=some v/\f P n)
  |[]=>n) d
abbrev VC(b c:Nat)(d:List Nat):List Value->World->(World->Prop)->Prop:=
 List.rec (motive:=λ_=>List Value->World->(World->Prop)->Prop) (λ_ n P=>P n) (λe _ f a n P=>match a with
  |v::a=>(VA c e λg=>PS n ⟨b,g,none⟩ v λh=>f a h P)
  |[]=>P n) d
abbrev XH(v:Value)(n:List Value->Prop):Prop:=match v with
 | .agg ⟨P⟩=>n P
 |v=>n [v]
abbrev UJ:Nat->List Value->(List Value->Prop)->Prop
 |0,_,P=>P []
 |n+1,[],P=>P []
 |n+1,a::b,P=>UJ n b λc=>P (a::c)
abbrev UK:Nat->List Value->(List Value->Prop)->Prop
 |0,a,P=>P a
 |n+1,[],P=>P []
 |n+1,_::b,P=>UK n b P
abbrev TJ:Nat->List Value->List Value->(List Value->Prop)->Prop
 |0,a,[],P=>P a
 |0,[],_::_,P=>P []
 |0,_::b,c::cs,P=>TJ 0 b cs λa=>P (c::a)
 |n+1,[],_,P=>P []
 |n+1,d::b,cs,P=>TJ n b cs λa=>P (d::a)
abbrev WI:List Value->List Value->(List Value->Prop)->Prop
 |[],n,P=>P n
 |x::a,n,P=>WI a n λn=>P (x::n)
abbrev WJ:Nat->List Value->(List Value->Prop)->Prop
 |0,_,P=>P []
 |n+1,[],P=>P []
 |n+1,a::b,P=>WJ n (a::b) λc=>WI (a::b) c P
section
variable (P:Program) (T:Tr) (R:Ending->World->Prop) (q:Bool) (X:List Nat)
abbrev YZ(n d:Nat)(a:Nat->Value->Prop):Prop:=zT T n λe=>match e with
 |⟨b,_,c,_,_,_,_,_⟩=>match YE q X b c d with
  |true=>uX (ej P n) λf=>a 1 f
  |false=>zX b c (a 0)
abbrev Zt(b:Nat)(a:List Nat):List Nat->(List Nat->List Value->Prop)->Prop:=
 List.rec (motive:=λ_=>List Nat->(List Nat->List Value->Prop)->Prop) (λ_ n=>n [] []) (λc _ d is n=>match is with
  |e::is=>YZ P T q X c (1000000+b*100+e) λf g=>d is λh a=>n (f::h) (g::a)
  |[]=>n [] []) a
abbrev LG(n:Nat)(a:Option Tmp)(b:List Nat->Value->Prop):Prop:=zT T n λc=>match c with
 |⟨d,_,_,_,_,_,e,_⟩=>match d with
  |10=>Zt P T q X (a.getD 9999) e idx λf g=>b f (.tuple g.toArray)
  |_=>YZ P T q X n (a.getD 9999) λh i=>b [h] i
abbrev Rt(a:eh)(b:List (Nat×Nat×Nat)):List (Nat×Operand)->List Value->(List Value->Prop)->Prop
 |[],n,P=>P n
 |(c,d)::e,n,P=>zE a d λ_ f=>XH f λcs=>DJ b c λg=>match g with
  |(h,_,_)=>TJ h n cs λn=>Rt a b e n P
abbrev M_(a:eh)(b:Nat):List (Nat×Operand)->List Value->(List Value->Prop)->Prop
 |[],n,P=>P n
 |(c,d)::e,n,P=>zE a d λ_ f=>XH f λcs=>TJ (c*b) n cs λn=>M_ a b e n P
abbrev TK(b:Bool)(c:IntKind):Int->List Value->(Value->Prop)->Prop
 |n,[],P=>P (.int c n)
 |n,e::d,P=>match e with
  | .int _ a=>match b with
   |true=>TK b c (if a>n then a else n) d P
   |false=>TK b c (if a<n then a else n) d P
  |_=>False
abbrev UL(n:Operand):Bool:=match n with
 | .const _=>true
 |_=>false
abbrev Na(d:eh)(p:Oper)(n:List Nat->Value->Prop)(no:Prop):Prop:=match p.op with
 | .move e=>zE d e n
 | .assign e=>zE d e n
 | .pick c i g=>zE d c λ_ f=>match f with
  | .bool true=>zE d i n
  | .bool false=>zE d g n
  |_=>False
 | .binOp l j e h _=>zE d e λ_ i=>zE d h λ_ g=>match i,g with
  | .int a P,.int _ b=>match l with
   | .add=>n [0] (.int a (IntKind.wrap a (P+b)))
   | .sub=>n [0] (.int a (IntKind.wrap a (P-b)))
   | .mul=>n [0] (.int a (IntKind.wrap a (P*b)))
   | .quo=>match UL h with
    |true=>n [0] (.int a (IntKind.wrap a (Int.tdiv P b)))
    |false=>no
   | .rem=>match UL h with
    |true=>n [0] (.int a (Int.tmod P b))
    |false=>no
   | .shl=>match UL h with
    |true=>n [0] (.int a (LH a P b))
    |false=>no
   | .shr=>match UL h with
    |true=>n [0] (.int a (kv a P b))
    |false=>no
   | .and=>n [0] (.int a (Gk a P b))
   | .or=>n [0] (.int a (Ri a P b))
   | .xor=>n [0] (.int a (qT a P b))
   | .andNot=>n [0] (.int a (vR a P b))
   | .eql=>n [0] (.bool (P==b))
   | .neq=>n [0] (.bool (P !=b))
   | .lss=>n [0] (.bool (decide (P<b)))
   | .leq=>n [0] (.bool (decide (P<=b)))
   | .gtr=>n [0] (.bool (decide (P>b)))
   | .geq=>n [0] (.bool (decide (P>=b)))
  | .string P,.string b=>match l with
   | .eql=>n [0] (.bool (ByteArray.toList P==ByteArray.toList b))
   | .neq=>n [0] (.bool (!(ByteArray.toList P==ByteArray.toList b)))
   | .lss=>n [0] (.bool (Op.bytesLess (ByteArray.toList P) (ByteArray.toList b)))
   | .leq=>n [0] (.bool (Op.bytesLess (ByteArray.toList P) (ByteArray.toList b)||ByteArray.toList P==ByteArray.toList b))
   | .gtr=>n [0] (.bool (!(Op.bytesLess (ByteArray.toList P) (ByteArray.toList b)||ByteArray.toList P==ByteArray.toList b)))
   | .geq=>n [0] (.bool (!(Op.bytesLess (ByteArray.toList P) (ByteArray.toList b))))
   |_=>no
  | .bool P,.bool b=>match l with
   | .eql=>n [0] (.bool (P==b))
   | .neq=>n [0] (.bool (!(P==b)))
   |_=>no
  |_,_=>no
 | .unOp x _ e=>zE d e λq f=>match x,f with
  | .not,.bool g=>match q with
   |2::_=>match g with
    |true=>n [2] (.bool false)
    |false=>n [2] (.bool true)
   |_=>n [0] (.bool (!g))
  | .neg,.int a P=>n [0] (.int a (IntKind.wrap a (0-P)))
  |_,_=>no
 | .convert u y e=>zT T u λi=>zT T y λg=>match i,g with
  |⟨0,_,_,_,_,_,_,_⟩,⟨0,_,_,_,_,_,_,a⟩=>zE d e λ_ f=>match f with
   | .int _ P=>n [0] (.int a (IntKind.wrap a P))
   |_=>False
  |_,_=>no
 | .field j e o=>zE d e λ_ f=>match f with
  | .agg cs=>zT T j λh=>match h with
   |⟨_,_,_,_,_,r,_,_⟩=>DJ r o λs=>match s with
    |(p,t,z)=>UK p cs.toList λk=>match z with
     |0=>match k with
      |c::_=>n [0] c
      |[]=>False
     |_=>UJ t k λk=>n [0] (.agg k.toArray)
  |_=>False
 | .build j m=>zT T j λh=>match h with
  |⟨_,_,A,_,_,r,_,_⟩=>Rt d r m.toList A λk=>n [0] (.agg k.toArray)
 | .extract e o=>zE d e λq f=>match f with
  | .tuple cs=>DJ cs.toList o λc=>zg q o λq=>n [q] c
  |_=>False
 | .makeInterface j e=>zE d e λ_ f=>n [0] (.iface j f)
 | .makeFunc s i c=>zA d i.toList λi=>zA d c.toList λc=>n [0] (.func s i.toArray c.toArray)
 | .fieldAddr j e o=>zE d e λ_ f=>match f with
  | .pointer (some ⟨g,p,_⟩)=>zT T j λh=>match h with
   |⟨_,_,_,_,_,r,_,_⟩=>DJ r o λs=>match s with
    |(t,_,_)=>VA p t λB=>n [0] (.pointer (some ⟨g,B,none⟩))
  |_=>False
 | .call c=>match c.callee with
  | .builtin g=>zA d c.args.toList λk=>match g,k with
   | .len,.slice _ t _::_=>n [0] (.int .i64 ((t:Nat):Int))
   | .len,.string u::_=>n [0] (.int .i64 ((ByteArray.size u:Nat):Int))
   | .max,.int a v::w=>TK true a v w (n [0])
   | .min,.int a v::w=>TK false a v w (n [0])
   |_,_=>no
  |_=>no
 |_=>no
abbrev VD(a:eh)(n:Option Operand)(P:Option Value->Prop):Prop:=match n with
 |none=>P none
 |some n=>zE a n λ_ b=>P (some b)
abbrev DK(a:eh)(f:Oper)(P:Sem Value->Prop):Prop:=match f.op with
 | .lookup b n e j=>zE a n λ_ n=>zE a e λ_ e=>P (Instr.lookup b n e j)
 | .makeSlice b d c=>zE a d λ_ d=>zE a c λ_ c=>P (Instr.makeSlice b d c)
 | .convert k p n=>zE a n λ_ n=>P (convert k p n)
 | .range b n=>zE a n λ_ n=>P (Instr.range b n)
 | .next g k=>zE a g λ_ g=>P (Instr.next g k f.type)
 | .entry g=>zE a g λ_ g=>P (Instr.entry g)
 | .mapEntry b l e=>zE a l λ_ l=>zE a e λ_ e=>P (Instr.mapEntry b l e)
 | .typeAssert n b q j=>zE a n λ_ n=>P (Instr.typeAssert n b q j)
 | .panic n=>zE a n λ_ n=>P (Instr.panic n)
 | .index b n e=>zE a n λ_ n=>zE a e λ_ e=>P (Instr.index b n e)
 | .binOp h b n m _=>zE a n λ_ o=>zE a m λ_ i=>P (do eqGuard h b n m o i;binOp h b o i)
 | .call c=>match c.callee with
  | .builtin i=>zA a c.args.toList λd=>match i with
   | .append=>P (Builtin.append_ c.argTypes f.type d.toArray)
   | .cap=>P (Builtin.cap_ c.argTypes f.type d.toArray)
   | .clear=>P (Builtin.clear_ c.argTypes f.type d.toArray)
   | .copy=>P (Builtin.copy_ c.argTypes f.type d.toArray)
   | .delete=>P (Builtin.delete_ c.argTypes f.type d.toArray)
   | .len=>P (Builtin.len_ c.argTypes f.type d.toArray)
   | .max=>P (Builtin.max_ c.argTypes f.type d.toArray)
   | .min=>P (Builtin.min_ c.argTypes f.type d.toArray)
   | .panic=>match d with
    |v::_=>P (Instr.panic v)
    |[]=>False
   |_=>False
  |_=>False
 |_=>False
abbrev vS(n:Nat)(P:Nat->Prop):Prop:=zT T n λa=>match a with
 |⟨b,_,_,_,_,_,_,_⟩=>P b
abbrev GF(e:Oper)(n P:Prop):Prop:=match e.op with
 | .lookup .. =>n
 | .next .. =>n
 | .entry _=>n
 | .mapEntry .. =>n
 | .makeSlice .. =>n
 | .convert f g _=>vS T f λa=>vS T g λd=>match a,d with
  |0,0=>P
  |_,_=>n
 | .binOp h c _ b _=>match h with
  | .quo=>match UL b with
   |true=>P
   |false=>n
  | .rem=>match UL b with
   |true=>P
   |false=>n
  | .shl=>match UL b with
   |true=>P
   |false=>n
  | .shr=>match UL b with
   |true=>P
   |false=>n
  | .add=>vS T c λa=>match a with
   |0=>P
   |_=>n
  | .eql=>vS T c λa=>match a with
   |0=>P
   |1=>P
   |2=>P
   |_=>n
  | .neq=>vS T c λa=>match a with
   |0=>P
   |1=>P
   |2=>P
   |_=>n
  |_=>P
 | .call b=>match b.callee with
  | .builtin d=>match d with
   | .append=>n
   | .copy=>n
   | .cap=>n
   | .len=>DJ b.argTypes.toList 0 λc=>vS T c λa=>match a with
    |5=>n
    |_=>P
   |_=>P
  |_=>P
 |_=>P
abbrev Ru(e i:Nat)(n a:Nat)(b:World)(c:List Nat->Value->Prop):Prop:=zT T e λj=>match j with
 |⟨f,_,d,_,_,_,_,_⟩=>match YE q X f d i with
  |true=>jZ P e (.pointer (some ⟨n,a,none⟩)) b λk=>c [1] k
  |false=>match YD f with
   |true=>YY d λg=>VB b n a idx g (c [0] (.agg g.toArray))
   |false=>match d with
    |z::_=>z1 z λh=>b.cell? ⟨n,a,none⟩=some h/\c [0] h
    |[]=>False
abbrev VE(h:eh)(o:Nat)(p:Operand)(f g i:Option Operand)(a:Value->Prop):Prop:=zE h p λ_ m=>VD h f λf=>VD h g λg=>VD h i λi=>zT T o λj=>match j with
 |⟨2,_,_,_,_,_,_,_⟩=>match m with
  | .string c=>match f,g with
   |none,none=>a (.string (c.extract 0 c.size))
   |some (.int _ n),none=>(0:Int)<=n/\n<=((c.size:Nat):Int)/\a (.string (c.extract n.toNat c.size))
   |none,some (.int _ P)=>(0:Int)<=P/\P<=((c.size:Nat):Int)/\a (.string (c.extract 0 P.toNat))
   |some (.int _ n),some (.int _ P)=>(0:Int)<=n/\n<=P/\P<=((c.size:Nat):Int)/\a (.string (c.extract n.toNat P.toNat))
   |_,_=>False
  |_=>False
 |⟨_,_,_,q,_,_,_,_⟩=>match m with
  | .slice e k b=>zT T q λj=>match j with
   |⟨_,l,_,_,_,_,_,_⟩=>match i with
    |none=>match f,g with
     |none,none=>a (.slice e k b)
     |some (.int _ n),none=>(0:Int)<=n/\n<=((k:Nat):Int)/\a (.slice (dd e n.toNat b l) (k-n.toNat) (b-n.toNat))
     |none,some (.int _ P)=>(0:Int)<=P/\P<=((b:Nat):Int)/\a (.slice e P.toNat b)
     |some (.int _ n),some (.int _ P)=>(0:Int)<=n/\n<=P/\P<=((b:Nat):Int)/\a (.slice (dd e n.toNat b l) (P.toNat-n.toNat) (b-n.toNat))
     |_,_=>False
    |some (.int _ d)=>match f,g with
     |none,some (.int _ P)=>(0:Int)<=P/\P<=d/\d<=((b:Nat):Int)/\a (.slice e P.toNat d.toNat)
     |some (.int _ n),some (.int _ P)=>(0:Int)<=n/\n<=P/\P<=d/\d<=((b:Nat):Int)/\a (.slice (dd e n.toNat d.toNat l) (P.toNat-n.toNat) (d.toNat-n.toNat))
     |_,_=>False
    |_=>False
  |_=>False
abbrev Rv(n:Nat)(P:Int)(a:Nat)(b:Nat->Prop):Prop:=match a with
 |1=>b (n+P.toNat)
 |_=>b (n+P.toNat*a)
abbrev VF(f:eh)(i:Nat)(j n:Operand)(g:Value->Prop):Prop:=zE f j λ_ k=>zE f n λ_ l=>zT T i λb=>match b,l with
 |⟨m,_,_,o,c,_,_,_⟩,.int _ n=>zT T o λb=>match b with
  |⟨_,h,_,_,_,_,_,_⟩=>match m,k with
   |3,.slice d p _=>∃P a,d=some ⟨P,a,none⟩/\(0:Int)<=n/\n<((p:Nat):Int)/\Rv a n h λe=>g (.pointer (some ⟨P,e,none⟩))
   |7,.pointer d=>∃P a,d=some ⟨P,a,none⟩/\(0:Int)<=n/\n<((c:Nat):Int)/\Rv a n h λe=>g (.pointer (some ⟨P,e,none⟩))
   |_,_=>False
 |_,_=>False
abbrev YF(b:eh)(c:Operand)(n:Value->Prop):Prop:=zE b c λ_ d=>match d with
 | .pointer e=>∃P a,e=some ⟨P,a,none⟩/\n (.pointer (some ⟨P,a,none⟩))
 | .func f g h=>n (.func f g h)
 |_=>False
abbrev WK(P:eh)(b n:Operand)(c:Value->Prop):Prop:=zE P b λ_ d=>zE P n λ_ e=>match d,e with
 | .string f,.int _ n=>(0:Int)<=n/\∃a,f[n.toNat]? =some a/\c (.int .u8 ((a.toNat:Nat):Int))
 |_,_=>False
abbrev LI(P:Program)(T:Tr)(a b:Nat):List Oper->(Nat->List Value->Prop)->Prop
 |[],n=>n 8 [undef]
 |d::c,n=>match d.op with
  | .extract (.tmp e) f=>match Nat.beq e a with
   |true=>match Nat.beq f b with
    |true=>zT T d.type λg=>match g with
     |⟨h,_,i,_,_,_,_,_⟩=>n h i
    |false=>LI P T a b c n
   |false=>LI P T a b c n
  |_=>LI P T a b c n
abbrev PR(r:List Oper)(o:Value->World->Prop)(z:List PanicEntry->World->Prop)(a:Oper)(e:eh->World->Prop)(n:eh)(d:World):Prop:=
 match a.op with
 | .load h i=>zE n i λ_ i=>match i with
  | .pointer (some ⟨m,of,_⟩)=>Ru P T q X h (a.dst.getD 9999) m of d λg c=>fm n a.dst g c λn=>e n d
  |_=>False
 | .store h i f=>zE n i λ_ i=>zE n f λg f=>match i with
  | .pointer (some ⟨m,of,_⟩)=>zT T h λs=>match s with
   |⟨j,_,t,_,_,_,_,_⟩=>match YE q [] j t 0 with
    |true=>oG P h (.pointer (some ⟨m,of,none⟩)) f d λb=>fm n a.dst [0] undef λn=>e n b
    |false=>match TI 1 g with
     |true=>oG P h (.pointer (some ⟨m,of,none⟩)) f d λb=>fm n a.dst [0] undef λn=>e n b
     |false=>XH f λcs=>VC m of idx cs d λb=>fm n a.dst [0] undef λn=>e n b
  |_=>False
 | .indexAddr h f w=>VF T n h f w λc=>fm n a.dst [0] c λn=>e n d
 | .slice h f M N O=>VE T n h f M N O λc=>fm n a.dst [0] c λn=>e n d
 | .nilCheck f=>YF n f λc=>fm n a.dst [0] c λn=>e n d
 | .index h f w=>WK n f w λc=>fm n a.dst [0] c λn=>e n d
 | .alloc h=>zT T h λs=>match s with
  |⟨_,_,t,_,_,_,_,_⟩=>PA d (.cells t.toArray h) λb=>fm n a.dst [0] (.pointer (some ⟨d.heap.size,0,none⟩)) λn=>e n b
 | .box h f=>zE n f λg c=>match TI 1 g with
  |true=>PA d (.cells (Value.cells c) h) λb=>fm n a.dst [0] (.pointer (some ⟨d.heap.size,0,none⟩)) λn=>e n b
  |false=>XH c λcs=>PA d (.cells cs.toArray h) λb=>fm n a.dst [0] (.pointer (some ⟨d.heap.size,0,none⟩)) λn=>e n b
 | .buildSlice h A u=>zT T h λs=>match s with
  |⟨_,_,_,H,_,_,_,_⟩=>zT T H λs=>match s with
   |⟨_,Q,t,_,_,_,_,_⟩=>WJ A t λB=>M_ n Q u.toList B λB=>PA d (.cells B.toArray H) λb=>fm n a.dst [0] (.slice (some ⟨d.heap.size,0,none⟩) A A) λn=>e n b
 | .makeMap _ _=>PA d (.map #[] 0) λb=>fm n a.dst [0] (.map (some d.heap.size)) λn=>e n b
 | .mapUpdate h p j f=>zE n p λ_ p=>zE n j λ_ j=>zE n f λ_ f=>lL P (Instr.mapUpdate h p j f) d (λb=>fm n a.dst [0] undef λn=>e n b) o
 | .insert h p j f=>zE n p λ_ p=>zE n j λ_ j=>zE n f λ_ f=>lL P (Instr.mapUpdate h p j f) d (λb=>fm n a.dst [0] undef λn=>e n b) o
 | .entryStore h p j f=>zE n p λ_ p=>zE n j λ_ j=>zE n f λ_ f=>lL P (Instr.entryStore h p j f) d (λb=>fm n a.dst [0] undef λn=>e n b) o
 | .next S R=>DK n a λl=>aJ P l d (λc b=>(c= .tuple #[.bool false]/\fm n a.dst [2] (.tuple #[.bool false]) λn=>e n b)\/(match R with
  |true=>∃w I,c= .tuple #[.bool true,.int .i64 w,.int .i32 I]/\fm n a.dst [2,0,0] (.tuple #[.bool true,.int .i64 w,.int .i32 I]) λn=>e n b
  |false=>∃j f,c= .tuple #[.bool true,j,f]/\fm n a.dst [2,0,0] (.tuple #[.bool true,j,f]) λn=>e n b)) o
 | .entry _=>DK n a λl=>LI P T (a.dst.getD 9999) 0 r λC E=>LI P T (a.dst.getD 9999) 1 r λF z1=>aJ P l d (λc b=>zX C E λi=>zX F z1 λm=>c= .tuple #[i,m]/\fm n a.dst [0,0] (.tuple #[i,m]) λn=>e n b) o
 | .mapEntry _ _ _=>DK n a λl=>LI P T (a.dst.getD 9999) 0 r λC E=>LI P T (a.dst.getD 9999) 1 r λF z1=>aJ P l d (λc b=>zX C E λi=>zX F z1 λm=>c= .tuple #[i,m]/\fm n a.dst [0,0] (.tuple #[i,m]) λn=>e n b) o
 | .typeAssert _ _ k true=>DK n a λl=>zT T k λs=>match s with
  |⟨j,_,t,_,_,_,_,_⟩=>aJ P l d (λc b=>zX j t λi=>∃m,c= .tuple #[i,.bool m]/\fm n a.dst [0,0] (.tuple #[i,.bool m]) λn=>e n b) o
 | .call y=>match y.callee with
  | .value (.func g)=>zA n y.args.toList λi=>PC P g i.toArray d (λc b=>LG P T q X a.type a.dst λg k=>c=k/\fm n a.dst g k λn=>e n b) z
  | .value v=>zE n v λ_ v=>zA n y.args.toList λi=>∃g J K,v= .func (.func g) J K/\enters P g=true/\PC P g (J++i.toArray++K) d (λc b=>LG P T q X a.type a.dst λg k=>c=k/\fm n a.dst g k λn=>e n b) z
  | .invoke v x=>zE n v λ_ v=>zA n y.args.toList λi=>∃g L,(∀d,(callMethod v x i.toArray).run P d= .ok (.enter g L) d)/\PC P g L d (λc b=>LG P T q X a.type a.dst λg k=>c=k/\fm n a.dst g k λn=>e n b) z
  |_=>GF T a (DK n a λl=>aJ P l d (λc b=>LG P T q X a.type a.dst λg k=>c=k/\fm n a.dst g k λn=>e n b) o)
   (Na T n a (λg c=>fm n a.dst g c λn=>e n d) (DK n a λl=>aJ P l d (λc b=>fm n a.dst [1] c λn=>e n b) o))
 |_=>GF T a (DK n a λl=>aJ P l d (λc b=>LG P T q X a.type a.dst λg k=>c=k/\fm n a.dst g k λn=>e n b) o)
   (Na T n a (λg c=>fm n a.dst g c λn=>e n d) (DK n a λl=>aJ P l d (λc b=>fm n a.dst [1] c λn=>e n b) o))
abbrev WL(n:List Oper)(P:Nat)(a:Nat->Prop):Prop:=DJ n P λb=>match b.dst with
 |some c=>a c
 |none=>False
abbrev GG(e:List Oper)(f:Oper)(P:eh)(a n:eh->Prop):Prop:=match f.guard with
 |none=>a P
 |some (g,c)=>WL e g λb=>zL P b λh i=>match i with
  | .bool d=>match TI 2 h with
   |true=>match c with
    |true=>match d with
     |true=>a ((b,[2],.bool true)::P)
     |false=>n ((b,[2],.bool false)::P)
    |false=>match d with
     |true=>n ((b,[2],.bool true)::P)
     |false=>a ((b,[2],.bool false)::P)
   |false=>match c with
    |true=>al d (a ((b,[2],.bool true)::P)) (n ((b,[2],.bool false)::P))
    |false=>al d (n ((b,[2],.bool true)::P)) (a ((b,[2],.bool false)::P))
  | .tuple _=>n P
  |_=>False
abbrev YG(b:List Oper)(f:Value->World->Prop)(g:List PanicEntry->World->Prop)(h:List Oper):(eh->World->Prop)->eh->World->Prop:=
 List.rec (motive:=λ_=>(eh->World->Prop)->eh->World->Prop) (λc n a=>c n a)
  (λd _ e c n a=>GG b d n (λn=>PR P T q X b f g d (λn a=>e c n a) n a) (λn=>fm n d.dst [0] undef λn=>e c n a)) h
abbrev Zu(c:Oper)(n:Nat->Prop):Prop:=match c.op with
 | .move _=>n 0
 | .assign _=>n 0
 | .pick .. =>n 0
 | .build .. =>n 0
 | .binOp .. =>n 0
 | .unOp .. =>n 0
 | .indexAddr .. =>n 0
 | .slice .. =>n 0
 | .nilCheck _=>n 0
 | .fieldAddr .. =>n 0
 | .field .. =>n 0
 | .index .. =>n 0
 | .extract .. =>n 0
 | .typeAssert .. =>n 0
 | .convert d e _=>vS T d λP=>vS T e λa=>match P,a with
  |0,0=>n 0
  |_,_=>n 2
 | .load .. =>n 1
 | .lookup .. =>n 1
 | .call b=>match b.callee with
  | .builtin a=>match a with
   | .len=>DJ b.argTypes.toList 0 λf=>vS T f λP=>match P with
    |5=>n 1
    |_=>n 0
   | .cap=>n 0
   | .max=>n 0
   | .min=>n 0
   |_=>n 2
  |_=>n 2
 |_=>n 2
abbrev WM:List Oper->(List Nat->Prop)->Prop
 |[],n=>n []
 |P::a,n=>Zu T P λb=>WM a λc=>n (b::c)
abbrev TL:List Edge->(List Nat->Prop)->Prop
 |[],n=>n []
 |e::P,n=>match e with
  |⟨a,b⟩=>match b with
   | .textOnly _=>TL P n
   | .gcOnly _=>TL P n
   |_=>TL P λc=>n (a::c)
abbrev UM:List Oper->(List (List Nat)->Prop)->Prop
 |[],n=>n []
 |P::a,n=>TL P.after.toList λb=>UM a λc=>n (b::c)
abbrev UN:List Nat->Bool
 |[]=>false
 |k::n=>match k with
  |2=>true
  |_=>UN n
abbrev UO:List Nat->List Nat->Bool
 |[],_=>true
 |a::P,n=>match zm n a with
  |true=>UO P n
  |false=>false
abbrev TM:List Nat:=[0,1,2,3,4,5,6,7,8,9,10,11,12,13,14,15,16,17,18,19,20,21,22,23,24,25,26,27,28,29,30,31,32,33,34,35,36,37,38,39,40,41,42,43,44,45,46,47,48,49,50,51,52,53,54,55,56,57,58,59,60,61,62,63]
abbrev uE(n:List Nat):List Nat->List (List Nat)->List Nat
 |a::is,b::P=>match zm n a with
  |true=>uE n is P
  |false=>match UO b n with
   |true=>a::uE n is P
   |false=>uE n is P
 |_,_=>[]
abbrev WN:List Nat->Nat->Nat
 |[],_=>2
 |x::n,P=>match P with
  |0=>x
  |a+1=>WN n a
abbrev Rw(n:List Nat):List Nat->Option Nat
 |[]=>none
 |P::a=>match WN n P with
  |2=>Rw n a
  |_=>some P
abbrev GH(n:Nat):List Nat->Option Nat
 |[]=>none
 |P::a=>match Nat.beq n P with
  |true=>GH n a
  |false=>some P
abbrev LJ(a:List (List Nat))(b:Nat):List Oper->List Nat->(List Nat->Prop)->Prop
 |[],n,P=>P n
 |_::c,n,P=>match GH b (uE n TM a)with
  |some d=>LJ a b c (d::n) P
  |none=>P n
abbrev Ry(P n:List Nat):List Nat->Bool
 |[]=>true
 |a::b=>match zm n a with
  |true=>Ry P n b
  |false=>match WN P a with
   |2=>false
   |_=>Ry P n b
abbrev Rz(a:List (List Nat))(d:List Nat)(e:List Oper)(b:Nat)(n:List Nat)(P:Bool->Prop):Prop:=LJ a b e n λc=>match GH b (uE c TM a)with
 |some _=>P false
 |none=>match Ry d n c with
  |true=>P true
  |false=>P false
abbrev VG:List Nat->List Nat->(List Nat->Prop)->Prop
 |[],n,P=>P n
 |a::b,n,P=>match zm n a with
  |true=>VG b n P
  |false=>VG b (a::n) P
abbrev WO(b:List (List Nat))(e:List Oper)(c:Nat)(n:List Nat)(P:Option (List Nat))(a:Option (List Nat)->Prop):Prop:=match P with
 |none=>a none
 |some P=>LJ b c e n λd=>match GH c (uE d TM b)with
  |some _=>a none
  |none=>VG d P λP=>a (some P)
abbrev YH(a:List Nat):(Nat->Prop)->Prop:=
 List.rec (motive:=λ_=>(Nat->Prop)->Prop) (λ_=>True) (λP b c n=>match b with
  |[]=>n P
  |_::_=>n P/\c n) a
abbrev ZA(n:Option (List Nat))(P:Nat):Bool:=match n with
 |none=>true
 |some n=>zm n P
abbrev ry(n:Value)(P:World):Prop:=∀(_:cd) (_:cP),R (.panicked [{v:=n,recovered:=false}]) P
abbrev rz(n:List PanicEntry)(P:World):Prop:=∀(_:cd) (_:cP),R (.panicked n) P
abbrev TN(b:List Oper)(a:Oper)(o:Nat)(d:Bool)(l:Nat->Prop)(e:eh->Prop)(n:eh)(c:World):Prop:=
 match a.op with
 | .load p i=>match d with
  |true=>zE n i λ_ i=>match i with
   | .pointer (some ⟨m,of,_⟩)=>¬l m/\Ru P T q X p (a.dst.getD 9999) m of c λg j=>fm n a.dst g j λn=>e n
   |_=>False
  |false=>PR P T q X b (ry R) (rz R) a (λn _=>e n) n c
 | .indexAddr .. =>PR P T q X b (ry R) (rz R) a (λn _=>e n) n c
 | .slice .. =>PR P T q X b (ry R) (rz R) a (λn _=>e n) n c
 | .nilCheck .. =>PR P T q X b (ry R) (rz R) a (λn _=>e n) n c
 | .index .. =>PR P T q X b (ry R) (rz R) a (λn _=>e n) n c
 |_=>GF T a (DK n a λk=>LG P T q X a.type a.dst λg h=>(match o with
   |0=>∀f,k.run P f= .ok h f
   |_=>match d with
    |true=>∀f,aj l c f->k.run P f= .ok h f
    |false=>k.run P c= .ok h c)/\fm n a.dst g h λn=>e n)
  (Na T n a (λg j=>fm n a.dst g j λn=>e n) False)
abbrev VH(b:List Oper)(m:List (List Nat))(k:List Nat)(p:List Oper)(h:Bool)(i:Nat->Prop)(r:eh->World->Prop)(j:List Oper):List Nat->Option (List Nat)->eh->World->Prop:=
 List.rec (motive:=λ_=>List Nat->Option (List Nat)->eh->World->Prop) (λ_ _ a d=>r a d) (λ_ _ g n e a d=>match uE n TM m with
  |[]=>r a d
  |s=>match Rw k s with
   |some c=>DJ b c λf=>(λo=>GG b f a o (λa=>fm a f.dst [0] undef λa=>g (c::n) e a d)) (match h with
    |false=>λa=>TN P T R q X b f (WN k c) false i (λa=>g (c::n) e a d) a d
    |true=>match WN k c with
     |0=>λa=>TN P T R q X b f 0 false i (λa=>g (c::n) e a d) a d
     |_=>λa=>Rz m k p c n λt=>match t with
      |true=>TN P T R q X b f 1 false i (λa=>g (c::n) e a d) a d
      |false=>WO m p c n e λe=>TN P T R q X b f 1 true i (λa=>g (c::n) e a d) a d)
   |none=>YH s λc=>DJ b c λf=>GG b f a (λa=>PR P T q X b (ry R) (rz R) f (λa l=>match h with
     |false=>g (c::n) e a l
     |true=>match ZA e c with
      |true=>aj i d l/\g (c::n) e a l
      |false=>g (c::n) e a l) a d) (λa=>fm a f.dst [0] undef λa=>g (c::n) e a d)) j
abbrev WQ(c:List Oper)(i:List Oper):(eh->Prop)->eh->World->Prop:=
 List.rec (motive:=λ_=>(eh->Prop)->eh->World->Prop) (λd n _=>d n) (λa _ e d n b=>GG c a n (λn=>match a.op with
  | .load .. =>PR P T q X c (ry R) (rz R) a (λn _=>e d n b) n b
  | .indexAddr .. =>PR P T q X c (ry R) (rz R) a (λn _=>e d n b) n b
  | .slice .. =>PR P T q X c (ry R) (rz R) a (λn _=>e d n b) n b
  | .nilCheck .. =>PR P T q X c (ry R) (rz R) a (λn _=>e d n b) n b
  | .index .. =>PR P T q X c (ry R) (rz R) a (λn _=>e d n b) n b
  |_=>GF T a (DK n a λj=>LG P T q X a.type a.dst λf g=>(∀h,j.run P (b.drewN h)= .ok g (b.drewN h))/\fm n a.dst f g λn=>e d n b)
   (Na T n a (λf k=>fm n a.dst f k λn=>e d n b) False)) (λn=>fm n a.dst [0] undef λn=>e d n b)) i
abbrev GI:Code->Option Nat
 | .region id _ _=>some id
 | .seq P a=>match GI P with
  |some b=>some b
  |none=>GI a
 | .cond _ P a=>match GI P with
  |some b=>some b
  |none=>GI a
 | .block _ n=>GI n
 | .loop n=>GI n
 | .scope n=>GI n
 |_=>none
abbrev VI:List Oper->List Nat->List Nat
 |[],n=>n
 |a::P,n=>match a.dst with
  |some b=>b::VI P n
  |none=>VI P n
abbrev TO:Code->List Nat->List Nat
 | .region _ a _,n=>VI a.toList n
 | .seq b c,n=>TO b (TO c n)
 | .cond _ b c,n=>TO b (TO c n)
 | .block _ P,n=>TO P n
 | .loop P,n=>TO P n
 | .scope P,n=>TO P n
 |_,n=>n
abbrev TP(P:List Nat):eh->(eh->Prop)->Prop
 |[],n=>n []
 |(a,c,d)::b,n=>match zm P a with
  |true=>TP P b n
  |false=>TP P b λe=>n ((a,c,d)::e)
abbrev RA(P:List (Nat×List (Nat×Value)))(a:Option Nat):Option (List (Nat×Value)):=match a with
 |none=>none
 |some n=>match P with
  |[]=>none
  |(b,c)::d=>match Nat.beq b n with
   |true=>some c
   |false=>RA d (some n)
abbrev SV:List (Nat×Value)->List Value
 |[]=>[]
 |(_,n)::P=>n::SV P
abbrev RB:List Value->Type->Type
 |[],n=>n
 |z::P,n=>match z with
  | .int _ _=>Int->RB P n
  | .bool _=>Bool->RB P n
  | .string _=>ByteArray->RB P n
  | .slice _ _ _=>Option Addr->Nat->Nat->RB P n
  | .pointer (some _)=>Nat->Nat->RB P n
  | .pointer none=>Option Addr->RB P n
  | .map _=>Option Nat->RB P n
  |_=>Value->RB P n
abbrev DM:(P:List Value)->RB P (World->Prop)->List Value->World->Prop
 |[],n,_,a=>n a
 |z::P,n,b,a=>match b with
  |[]=>False
  |v::b=>match z,n with
   | .int k _,n=>match v with
    | .int _ c=>DM P (n c) b a
    |_=>False
   | .bool _,n=>match v with
    | .bool d=>DM P (n d) b a
    |_=>False
   | .string _,n=>match v with
    | .string e=>DM P (n e) b a
    |_=>False
   | .slice _ _ _,n=>match v with
    | .slice f c g=>DM P (n f c g) b a
    |_=>False
   | .pointer (some _),n=>match v with
    | .pointer (some ⟨d,h,_⟩)=>DM P (n d h) b a
    |_=>False
   | .pointer none,n=>match v with
    | .pointer i=>DM P (n i) b a
    |_=>False
   | .map _,n=>match v with
    | .map j=>DM P (n j) b a
    |_=>False
   | .float _ _,n=>DM P (n v) b a
   | .complex _ _ _,n=>DM P (n v) b a
   | .chan _,n=>DM P (n v) b a
   | .func _ _ _,n=>DM P (n v) b a
   | .nilFunc,n=>DM P (n v) b a
   | .iface _ _,n=>DM P (n v) b a
   | .nilIface,n=>DM P (n v) b a
   | .agg _,n=>DM P (n v) b a
   | .tuple _,n=>DM P (n v) b a
abbrev UP(n:List Value):(List Value->Prop)->Prop:=
 List.rec (motive:=λ_=>(List Value->Prop)->Prop) (λP=>P []) (λd _ a P=>match d with
  | .int e _=>∀b:Int,a λn=>P (.int e b::n)
  | .bool _=>∀c:Bool,a λn=>P (.bool c::n)
  | .string _=>∀f:ByteArray,a λn=>P (.string f::n)
  | .slice _ _ _=>∀(g:Option Addr) (b h:Nat),a λn=>P (.slice g b h::n)
  | .pointer (some _)=>∀(c i:Nat),a λn=>P (.pointer (some ⟨c,i,none⟩)::n)
  | .pointer none=>∀j:Option Addr,a λn=>P (.pointer j::n)
  | .map _=>∀k:Option Nat,a λn=>P (.map k::n)
  |_=>∀l:Value,a λn=>P (l::n)) n
abbrev Nb(P:eh):List (Nat×Value)->(List Value->Prop)->Prop
 |[],n=>n []
 |(a,_)::b,n=>zL P a λ_ c=>Nb P b λd=>n (c::d)
abbrev RC:List (Nat×Value)->List Value->eh->(eh->Prop)->Prop
 |(a,_)::b,c::d,n,P=>RC b d n λn=>P ((a,[0],c)::n)
 |_,_,n,P=>P n
abbrev zC(o:lx)(s:eh->World->Prop)(i:Code):(eh->World->Prop)->(Nat->eh->World->Prop)->eh->World->Prop:=
 Code.rec (motive:=λ_=>(eh->World->Prop)->(Nat->eh->World->Prop)->eh->World->Prop)
  (λc _ n a=>c n a)
  (λid b j c _ n a=>match j with
   |false=>YG P T q X b.toList (λt a=>R (.panicked [{v:=t,recovered:=false}]) a) (λE a=>R (.panicked E) a) b.toList c n a
   |true=>WM T b.toList λp=>match UN p with
    |false=>WQ P T R q X b.toList b.toList (λn=>∀f,cy a f->c n f) n a
    |true=>UM b.toList λu=>match zm o.keeps id with
     |true=>∀f,cy a f->∃d:Nat->Prop,match zm o.Nc id with
      |true=>VH P T R q X b.toList u p b.toList true d c b.toList [] (some []) n f
      |false=>VH P T R q X b.toList u p b.toList true d c b.toList [] none n f
     |false=>∀f,cy a f->VH P T R q X b.toList u p b.toList false (λ_=>False) c b.toList [] none n f)
  (λx y g h c e n a=>match RA o.RD (GI y)with
   |none=>g (λn a=>h c e n a) e n a
   |some d=>∃z:RB (SV d) (World->Prop),g (λn a=>Nb n d λk=>DM (SV d) z k a) e n a/\
     TP (TO x []) n λv=>UP (SV d) λl=>∀(F:Nat->Value) (f:World),DM (SV d) z l f->RC d l v λn=>h c e n f)
  (λi x y g h c e n a=>zE n i λH t=>match t with
   | .bool A=>match TI 2 H with
    |true=>match A with
     |true=>g c e n a
     |false=>h c e n a
    |false=>al A (g c e n a) (h c e n a)
   |_=>False)
  (λid _ m c e n a=>m c (λB n a=>match Nat.beq B id with
   |true=>c n a
   |false=>e B n a) n a)
  (λi m c e n a=>match RA o.loops (GI i)with
   |none=>False
   |some d=>∃w:Nat->RB (SV d) (World->Prop),(∃r,Nb n d λk=>DM (SV d) (w r) k a)/\
     ∀r,TP (TO i []) n λv=>UP (SV d) λl=>∀(F:Nat->Value) (f:World),DM (SV d) (w r) l f->
      RC d l v λn=>m (λn a=>∃C,C<r/\Nb n d λk=>DM (SV d) (w C) k a) e n f)
  (λ_ _ _ _ _ _ _ _ _ _=>False)
  (λid _ e n a=>e id n a)
  (λ_ m c e n a=>m c e n a)
  (λ_ c _ n a=>c n a)
  (λ_ _ _ _ _=>False)
  (λ_ _ n a=>s n a)
  (λ_ _ _ _ _=>False) i
abbrev YI(d:eh)(g:World)(n:List ResultVar):(List Value->Prop)->Prop:=
 List.rec (motive:=λ_=>(List Value->Prop)->Prop) (λa=>a []) (λh _ e a=>match h with
  | .tmp b=>zL d b λ_ c=>e λn=>a (c::n)
  | .cell f b=>zL d f λ_ i=>match i with
   | .pointer (some ⟨j,k,_⟩)=>Ru P T q X b (2000000+f) j k g λ_ c=>e λn=>a (c::n)
   |_=>False) n
abbrev WR(b:List ResultVar)(c:eh)(n:World):Prop:=YI P T q X c n b λa=>match a with
 |[d]=>R (.returned d) n
 |a=>R (.returned (.tuple a.toArray)) n
abbrev UQ:List Nat->List Value->(eh->Prop)->Prop
 |P::is,a::b,n=>UQ is b λc=>n ((P,[0],a)::c)
 |_,_,n=>n []
end
structure An where
 A:lx
 q:Bool
 X:List Nat
abbrev WE(P:Program)(a:Tr)(f:An)(e:List ResultVar)(g:Code)(n:List Value)(h:World)(b:Ending->World->Prop):Prop:=match f with
 |⟨i,c,d⟩=>UQ idx n λj=>zC P a b c d i (WR P a b c d e) g (WR P a b c d e) (λ_ _ _=>False) j h

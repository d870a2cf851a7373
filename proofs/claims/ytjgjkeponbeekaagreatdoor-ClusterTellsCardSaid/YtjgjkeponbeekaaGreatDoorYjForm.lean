import Derived.Test.YtjgjkeponbeekaaGreatDoorYjLift
set_option linter.all false
namespace Go.aw
open Go
structure Ty where
 k:Nat
 size:Nat
 zs:List Value
 el:Nat
 n:Nat
 fs:List (Nat×Nat×Nat)
 ts:List Nat
 ik:IntKind
inductive Tr where
 |n
 |b (l:Tr) (i:Nat) (v:Ty) (r:Tr)
abbrev Up(n:Nat):List Nat->Bool
 |[]=>false
 |x::P=>match P with
  |[]=>Nat.beq x n
  |_::_=>false
abbrev et:=List (Nat×List Nat×Value)
abbrev zT:Tr->Nat->(Ty->Prop)->Prop
 | .n,_,_=>False
 | .b b a c d,n,P=>match Nat.beq n a with
  |true=>P c
  |false=>match Nat.ble n a with
   |true=>zT b n P
   |false=>zT d n P
abbrev zm:List Nat->Nat->Bool
 |[],_=>false
 |d::P,n=>match Nat.beq d n with
  |true=>true
  |false=>zm P n
abbrev DX{n:Type}:List n->Nat->(n->Prop)->Prop
 |[],_,_=>False
 |x::a,b,P=>match b with
  |0=>P x
  |c+1=>DX a c P
abbrev zg:List Nat->Nat->(Nat->Prop)->Prop
 |[],_,n=>n 0
 |x::P,a,n=>match a with
  |0=>n x
  |b+1=>zg P b n
abbrev zL:et->Nat->(List Nat->Value->Prop)->Prop
 |[],_,_=>False
 |(a,b,c)::d,n,P=>match Nat.beq a n with
  |true=>P b c
  |false=>zL d n P
abbrev zE(P:et)(a:Operand)(n:List Nat->Value->Prop):Prop:=match a with
 | .tmp b=>zL P b n
 | .const c=>n [2] c
 | .global d=>n [0] (.pointer (some ⟨d,0,none⟩))
 | .func e=>n [0] (.func (.func e) #[] #[])
abbrev zA(P:et):List Operand->(List Value->Prop)->Prop
 |[],n=>n []
 |x::a,n=>zE P x λ_ b=>zA P a λc=>n (b::c)
abbrev fl(P:et)(n:Option Tmp)(b:List Nat)(c:Value)(a:et->Prop):Prop:=match n with
 |some n=>a ((n,b,c)::P)
 |none=>a P
abbrev Zs(n:Nat):Bool:=match n with
 |6=>true
 |7=>true
 |_=>false
abbrev Zt(n:Bool)(P:List Nat)(a:Nat)(b:List Value)(c:Nat):Bool:=match n with
 |false=>false
 |true=>match Zs a with
  |false=>false
  |true=>match b with
   |_::_::_::_=>match zm P c with
    |true=>false
    |false=>true
   |_=>false
abbrev z1(a:Value)(n:Value->Prop):Prop:=match a with
 | .int b _=>∃P:Int,n (.int b P)
 | .bool _=>∃c:Bool,n (.bool c)
 | .string _=>∃d:ByteArray,n (.string d)
 | .slice _ _ _=>∃(e:Option Addr) (P f:Nat),n (.slice e P f)
 | .pointer _=>∃g:Option Addr,n (.pointer g)
 | .map _=>∃h:Option Nat,n (.map h)
 |_=>∃i:Value,n i
abbrev zLs(n:List Value):(List Value->Prop)->Prop:=
 List.rec (motive:=λ_=>(List Value->Prop)->Prop) (λP=>P []) (λa _ b P=>z1 a λc=>b λn=>P (c::n)) n
abbrev zX(a:Nat)(n:List Value)(P:Value->Prop):Prop:=match Zs a with
 |true=>zLs n λb=>P (.agg b.toArray)
 |false=>match n with
  |z::_=>z1 z P
  |[]=>False
abbrev idx:List Nat:=[0,1,2,3,4,5,6,7,8,9,10,11,12,13,14,15,16,17,18,19]
abbrev Wi(n:Nat)(P:Nat)(a:Nat->Prop):Prop:=match P with
 |0=>a n
 |_=>a (n+P)
abbrev Wj(a:World)(b c:Nat)(d:List Nat):List Value->Prop->Prop:=
 List.rec (motive:=λ_=>List Value->Prop->Prop) (λ_ n=>n) (λe _ f P n=>match P with
  |v::P=>(Wi c e λg=>a.cell? ⟨b,g,none⟩=some v/\f P n)
  |[]=>n) d
abbrev Wl(b c:Nat)(d:List Nat):List Value->World->(World->Prop)->Prop:=
 List.rec (motive:=λ_=>List Value->World->(World->Prop)->Prop) (λ_ n P=>P n) (λe _ f a n P=>match a with
  |v::a=>(Wi c e λg=>PS n ⟨b,g,none⟩ v λh=>f a h P)
  |[]=>P n) d
abbrev YA(v:Value)(n:List Value->Prop):Prop:=match v with
 | .agg ⟨P⟩=>n P
 |v=>n [v]
abbrev Vs:Nat->List Value->(List Value->Prop)->Prop
 |0,_,P=>P []
 |n+1,[],P=>P []
 |n+1,a::b,P=>Vs n b λc=>P (a::c)
abbrev Vt:Nat->List Value->(List Value->Prop)->Prop
 |0,a,P=>P a
 |n+1,[],P=>P []
 |n+1,_::b,P=>Vt n b P
abbrev Uq:Nat->List Value->List Value->(List Value->Prop)->Prop
 |0,a,[],P=>P a
 |0,[],_::_,P=>P []
 |0,_::b,c::cs,P=>Uq 0 b cs λa=>P (c::a)
 |n+1,[],_,P=>P []
 |n+1,d::b,cs,P=>Uq n b cs λa=>P (d::a)
abbrev XB:List Value->List Value->(List Value->Prop)->Prop
 |[],n,P=>P n
 |x::a,n,P=>XB a n λn=>P (x::n)
abbrev XC:Nat->List Value->(List Value->Prop)->Prop
 |0,_,P=>P []
 |n+1,[],P=>P []
 |n+1,a::b,P=>XC n (a::b) λc=>XB (a::b) c P
section
variable (P:Program) (T:Tr) (R:Ending->World->Prop) (q:Bool) (X:List Nat)
abbrev zTt(n d:Nat)(a:Nat->Value->Prop):Prop:=zT T n λe=>match e with
 |⟨b,_,c,_,_,_,_,_⟩=>match Zt q X b c d with
  |true=>w_ (eE P n) λf=>a 1 f
  |false=>zX b c (a 0)
abbrev zRs(b:Nat)(a:List Nat):List Nat->(List Nat->List Value->Prop)->Prop:=
 List.rec (motive:=λ_=>List Nat->(List Nat->List Value->Prop)->Prop) (λ_ n=>n [] []) (λc _ d is n=>match is with
  |e::is=>zTt P T q X c (1000000+b*100+e) λf g=>d is λh a=>n (f::h) (g::a)
  |[]=>n [] []) a
abbrev Mh(n:Nat)(a:Option Tmp)(b:List Nat->Value->Prop):Prop:=zT T n λc=>match c with
 |⟨d,_,_,_,_,_,e,_⟩=>match d with
  |10=>zRs P T q X (a.getD 9999) e idx λf g=>b f (.tuple g.toArray)
  |_=>zTt P T q X n (a.getD 9999) λh i=>b [h] i
abbrev RZ(a:et)(b:List (Nat×Nat×Nat)):List (Nat×Operand)->List Value->(List Value->Prop)->Prop
 |[],n,P=>P n
 |(c,d)::e,n,P=>zE a d λ_ f=>YA f λcs=>DX b c λg=>match g with
  |(h,_,_)=>Uq h n cs λn=>RZ a b e n P
abbrev NC(a:et)(b:Nat):List (Nat×Operand)->List Value->(List Value->Prop)->Prop
 |[],n,P=>P n
 |(c,d)::e,n,P=>zE a d λ_ f=>YA f λcs=>Uq (c*b) n cs λn=>NC a b e n P
abbrev Ur(b:Bool)(c:IntKind):Int->List Value->(Value->Prop)->Prop
 |n,[],P=>P (.int c n)
 |n,e::d,P=>match e with
  | .int _ a=>match b with
   |true=>Ur b c (if a>n then a else n) d P
   |false=>Ur b c (if a<n then a else n) d P
  |_=>False
abbrev Vu(n:Operand):Bool:=match n with
 | .const _=>true
 |_=>false
abbrev ND(d:et)(p:Oper)(n:List Nat->Value->Prop)(no:Prop):Prop:=match p.op with
 | .move e=>zE d e n
 | .assign e=>zE d e n
 | .pick c i g=>zE d c λ_ f=>match f with
  | .bool true=>zE d i n
  | .bool false=>zE d g n
  |_=>False
 | .binOp l j e h _=>zE d e λ_ i=>zE d h λ_ g=>match i,g with
  | .int a P,.int _ b=>match l with
   | .add=>n [0] (.int a (IntKind.wrap a (P+b)))
   | .sub=>n [0] (.int a (IntKind.wrap a (P-b)))
   | .mul=>n [0] (.int a (IntKind.wrap a (P*b)))
   | .quo=>match Vu h with
    |true=>n [0] (.int a (IntKind.wrap a (Int.tdiv P b)))
    |false=>no
   | .rem=>match Vu h with
    |true=>n [0] (.int a (Int.tmod P b))
    |false=>no
   | .shl=>match Vu h with
    |true=>n [0] (.int a (Mi a P b))
    |false=>no
   | .shr=>match Vu h with
    |true=>n [0] (.int a (kH a P b))
    |false=>no
   | .and=>n [0] (.int a (GH a P b))
   | .or=>n [0] (.int a (RP a P b))
   | .xor=>n [0] (.int a (qX a P b))
   | .andNot=>n [0] (.int a (wi a P b))
   | .eql=>n [0] (.bool (P==b))
   | .neq=>n [0] (.bool (P !=b))
   | .lss=>n [0] (.bool (decide (P<b)))
   | .leq=>n [0] (.bool (decide (P<=b)))
   | .gtr=>n [0] (.bool (decide (P>b)))
   | .geq=>n [0] (.bool (decide (P>=b)))
  | .string P,.string b=>match l with
   | .eql=>n [0] (.bool (ByteArray.toList P==ByteArray.toList b))
   | .neq=>n [0] (.bool (!(ByteArray.toList P==ByteArray.toList b)))
   | .lss=>n [0] (.bool (Op.bytesLess (ByteArray.toList P) (ByteArray.toList b)))
   | .leq=>n [0] (.bool (Op.bytesLess (ByteArray.toList P) (ByteArray.toList b)||ByteArray.toList P==ByteArray.toList b))
   | .gtr=>n [0] (.bool (!(Op.bytesLess (ByteArray.toList P) (ByteArray.toList b)||ByteArray.toList P==ByteArray.toList b)))
   | .geq=>n [0] (.bool (!(Op.bytesLess (ByteArray.toList P) (ByteArray.toList b))))
   |_=>no
  | .bool P,.bool b=>match l with
   | .eql=>n [0] (.bool (P==b))
   | .neq=>n [0] (.bool (!(P==b)))
   |_=>no
  |_,_=>no
 | .unOp x _ e=>zE d e λq f=>match x,f with
  | .not,.bool g=>match q with
   |2::_=>match g with
    |true=>n [2] (.bool false)
    |false=>n [2] (.bool true)
   |_=>n [0] (.bool (!g))
  | .neg,.int a P=>n [0] (.int a (IntKind.wrap a (0-P)))
  |_,_=>no
 | .convert u y e=>zT T u λi=>zT T y λg=>match i,g with
  |⟨0,_,_,_,_,_,_,_⟩,⟨0,_,_,_,_,_,_,a⟩=>zE d e λ_ f=>match f with
   | .int _ P=>n [0] (.int a (IntKind.wrap a P))
   |_=>False
  |_,_=>no
 | .field j e o=>zE d e λ_ f=>match f with
  | .agg cs=>zT T j λh=>match h with
   |⟨_,_,_,_,_,r,_,_⟩=>DX r o λs=>match s with
    |(p,t,z)=>Vt p cs.toList λk=>match z with
     |0=>match k with
      |c::_=>n [0] c
      |[]=>False
     |_=>Vs t k λk=>n [0] (.agg k.toArray)
  |_=>False
 | .build j m=>zT T j λh=>match h with
  |⟨_,_,A,_,_,r,_,_⟩=>RZ d r m.toList A λk=>n [0] (.agg k.toArray)
 | .extract e o=>zE d e λq f=>match f with
  | .tuple cs=>DX cs.toList o λc=>zg q o λq=>n [q] c
  |_=>False
 | .makeInterface j e=>zE d e λ_ f=>n [0] (.iface j f)
 | .makeFunc s i c=>zA d i.toList λi=>zA d c.toList λc=>n [0] (.func s i.toArray c.toArray)
 | .fieldAddr j e o=>zE d e λ_ f=>match f with
  | .pointer (some ⟨g,p,_⟩)=>zT T j λh=>match h with
   |⟨_,_,_,_,_,r,_,_⟩=>DX r o λs=>match s with
    |(t,_,_)=>Wi p t λB=>n [0] (.pointer (some ⟨g,B,none⟩))
  |_=>False
 | .call c=>match c.callee with
  | .builtin g=>zA d c.args.toList λk=>match g,k with
   | .len,.slice _ t _::_=>n [0] (.int .i64 ((t:Nat):Int))
   | .len,.string u::_=>n [0] (.int .i64 ((ByteArray.size u:Nat):Int))
   | .max,.int a v::w=>Ur true a v w (n [0])
   | .min,.int a v::w=>Ur false a v w (n [0])
   |_,_=>no
  |_=>no
 |_=>no
abbrev Wm(a:et)(n:Option Operand)(P:Option Value->Prop):Prop:=match n with
 |none=>P none
 |some n=>zE a n λ_ b=>P (some b)
abbrev DY(a:et)(f:Oper)(P:Sem Value->Prop):Prop:=match f.op with
 | .lookup b n e j=>zE a n λ_ n=>zE a e λ_ e=>P (Instr.lookup b n e j)
 | .makeSlice b d c=>zE a d λ_ d=>zE a c λ_ c=>P (Instr.makeSlice b d c)
 | .convert k p n=>zE a n λ_ n=>P (convert k p n)
 | .range b n=>zE a n λ_ n=>P (Instr.range b n)
 | .next g k=>zE a g λ_ g=>P (Instr.next g k f.type)
 | .entry g=>zE a g λ_ g=>P (Instr.entry g)
 | .mapEntry b l e=>zE a l λ_ l=>zE a e λ_ e=>P (Instr.mapEntry b l e)
 | .typeAssert n b q j=>zE a n λ_ n=>P (Instr.typeAssert n b q j)
 | .panic n=>zE a n λ_ n=>P (Instr.panic n)
 | .index b n e=>zE a n λ_ n=>zE a e λ_ e=>P (Instr.index b n e)
 | .binOp h b n m _=>zE a n λ_ o=>zE a m λ_ i=>P (do eqGuard h b n m o i;binOp h b o i)
 | .call c=>match c.callee with
  | .builtin i=>zA a c.args.toList λd=>match i with
   | .append=>P (Builtin.append_ c.argTypes f.type d.toArray)
   | .cap=>P (Builtin.cap_ c.argTypes f.type d.toArray)
   | .clear=>P (Builtin.clear_ c.argTypes f.type d.toArray)
   | .copy=>P (Builtin.copy_ c.argTypes f.type d.toArray)
   | .delete=>P (Builtin.delete_ c.argTypes f.type d.toArray)
   | .len=>P (Builtin.len_ c.argTypes f.type d.toArray)
   | .max=>P (Builtin.max_ c.argTypes f.type d.toArray)
   | .min=>P (Builtin.min_ c.argTypes f.type d.toArray)
   | .panic=>match d with
    |v::_=>P (Instr.panic v)
    |[]=>False
   |_=>False
  |_=>False
 |_=>False
abbrev wj(n:Nat)(P:Nat->Prop):Prop:=zT T n λa=>match a with
 |⟨b,_,_,_,_,_,_,_⟩=>P b
abbrev Ha(e:Oper)(n P:Prop):Prop:=match e.op with
 | .lookup .. =>n
 | .next .. =>n
 | .entry _=>n
 | .mapEntry .. =>n
 | .makeSlice .. =>n
 | .convert f g _=>wj T f λa=>wj T g λd=>match a,d with
  |0,0=>P
  |_,_=>n
 | .binOp h c _ b _=>match h with
  | .quo=>match Vu b with
   |true=>P
   |false=>n
  | .rem=>match Vu b with
   |true=>P
   |false=>n
  | .shl=>match Vu b with
   |true=>P
   |false=>n
  | .shr=>match Vu b with
   |true=>P
   |false=>n
  | .add=>wj T c λa=>match a with
   |0=>P
   |_=>n
  | .eql=>wj T c λa=>match a with
   |0=>P
   |1=>P
   |2=>P
   |_=>n
  | .neq=>wj T c λa=>match a with
   |0=>P
   |1=>P
   |2=>P
   |_=>n
  |_=>P
 | .call b=>match b.callee with
  | .builtin d=>match d with
   | .append=>n
   | .copy=>n
   | .cap=>n
   | .len=>DX b.argTypes.toList 0 λc=>wj T c λa=>match a with
    |5=>n
    |_=>P
   |_=>P
  |_=>P
 |_=>P
abbrev R_(e i:Nat)(n a:Nat)(b:World)(c:List Nat->Value->Prop):Prop:=zT T e λj=>match j with
 |⟨f,_,d,_,_,_,_,_⟩=>match Zt q X f d i with
  |true=>jW P e (.pointer (some ⟨n,a,none⟩)) b λk=>c [1] k
  |false=>match Zs f with
   |true=>zLs d λg=>Wj b n a idx g (c [0] (.agg g.toArray))
   |false=>match d with
    |z::_=>z1 z λh=>b.cell? ⟨n,a,none⟩=some h/\c [0] h
    |[]=>False
abbrev Wn(h:et)(o:Nat)(p:Operand)(f g i:Option Operand)(a:Value->Prop):Prop:=zE h p λ_ m=>Wm h f λf=>Wm h g λg=>Wm h i λi=>zT T o λj=>match j with
 |⟨2,_,_,_,_,_,_,_⟩=>match m with
  | .string c=>match f,g with
   |none,none=>a (.string (c.extract 0 c.size))
   |some (.int _ n),none=>(0:Int)<=n/\n<=((c.size:Nat):Int)/\a (.string (c.extract n.toNat c.size))
   |none,some (.int _ P)=>(0:Int)<=P/\P<=((c.size:Nat):Int)/\a (.string (c.extract 0 P.toNat))
   |some (.int _ n),some (.int _ P)=>(0:Int)<=n/\n<=P/\P<=((c.size:Nat):Int)/\a (.string (c.extract n.toNat P.toNat))
   |_,_=>False
  |_=>False
 |⟨_,_,_,q,_,_,_,_⟩=>match m with
  | .slice e k b=>zT T q λj=>match j with
   |⟨_,l,_,_,_,_,_,_⟩=>match i with
    |none=>match f,g with
     |none,none=>a (.slice e k b)
     |some (.int _ n),none=>(0:Int)<=n/\n<=((k:Nat):Int)/\a (.slice (dh e n.toNat b l) (k-n.toNat) (b-n.toNat))
     |none,some (.int _ P)=>(0:Int)<=P/\P<=((b:Nat):Int)/\a (.slice e P.toNat b)
     |some (.int _ n),some (.int _ P)=>(0:Int)<=n/\n<=P/\P<=((b:Nat):Int)/\a (.slice (dh e n.toNat b l) (P.toNat-n.toNat) (b-n.toNat))
     |_,_=>False
    |some (.int _ d)=>match f,g with
     |none,some (.int _ P)=>(0:Int)<=P/\P<=d/\d<=((b:Nat):Int)/\a (.slice e P.toNat d.toNat)
     |some (.int _ n),some (.int _ P)=>(0:Int)<=n/\n<=P/\P<=d/\d<=((b:Nat):Int)/\a (.slice (dh e n.toNat d.toNat l) (P.toNat-n.toNat) (d.toNat-n.toNat))
     |_,_=>False
    |_=>False
  |_=>False
abbrev Sa(n:Nat)(P:Int)(a:Nat)(b:Nat->Prop):Prop:=match a with
 |1=>b (n+P.toNat)
 |_=>b (n+P.toNat*a)
abbrev Wo(f:et)(i:Nat)(j n:Operand)(g:Value->Prop):Prop:=zE f j λ_ k=>zE f n λ_ l=>zT T i λb=>match b,l with
 |⟨m,_,_,o,c,_,_,_⟩,.int _ n=>zT T o λb=>match b with
  |⟨_,h,_,_,_,_,_,_⟩=>match m,k with
   |3,.slice d p _=>∃P a,d=some ⟨P,a,none⟩/\(0:Int)<=n/\n<((p:Nat):Int)/\Sa a n h λe=>g (.pointer (some ⟨P,e,none⟩))
   |7,.pointer d=>∃P a,d=some ⟨P,a,none⟩/\(0:Int)<=n/\n<((c:Nat):Int)/\Sa a n h λe=>g (.pointer (some ⟨P,e,none⟩))
   |_,_=>False
 |_,_=>False
abbrev Zu(b:et)(c:Operand)(n:Value->Prop):Prop:=zE b c λ_ d=>match d with
 | .pointer e=>∃P a,e=some ⟨P,a,none⟩/\n (.pointer (some ⟨P,a,none⟩))
 | .func f g h=>n (.func f g h)
 |_=>False
abbrev XD(P:et)(b n:Operand)(c:Value->Prop):Prop:=zE P b λ_ d=>zE P n λ_ e=>match d,e with
 | .string f,.int _ n=>(0:Int)<=n/\∃a,f[n.toNat]? =some a/\c (.int .u8 ((a.toNat:Nat):Int))
 |_,_=>False
abbrev Mj(P:Program)(T:Tr)(a b:Nat):List Oper->(Nat->List Value->Prop)->Prop
 |[],n=>n 8 [undef]
 |d::c,n=>match d.op with
  | .extract (.tmp e) f=>match Nat.beq e a with
   |true=>match Nat.beq f b with
    |true=>zT T d.type λg=>match g with
     |⟨h,_,i,_,_,_,_,_⟩=>n h i
    |false=>Mj P T a b c n
   |false=>Mj P T a b c n
  |_=>Mj P T a b c n
abbrev QB(r:List Oper)(o:Value->World->Prop)(z:List PanicEntry->World->Prop)(a:Oper)(e:et->World->Prop)(n:et)(d:World):Prop:=
 match a.op with
 | .load h i=>zE n i λ_ i=>match i with
  | .pointer (some ⟨m,of,_⟩)=>R_ P T q X h (a.dst.getD 9999) m of d λg c=>fl n a.dst g c λn=>e n d
  |_=>False
 | .store h i f=>zE n i λ_ i=>zE n f λg f=>match i with
  | .pointer (some ⟨m,of,_⟩)=>zT T h λs=>match s with
   |⟨j,_,t,_,_,_,_,_⟩=>match Zt q [] j t 0 with
    |true=>oJ P h (.pointer (some ⟨m,of,none⟩)) f d λb=>fl n a.dst [0] undef λn=>e n b
    |false=>match Up 1 g with
     |true=>oJ P h (.pointer (some ⟨m,of,none⟩)) f d λb=>fl n a.dst [0] undef λn=>e n b
     |false=>YA f λcs=>Wl m of idx cs d λb=>fl n a.dst [0] undef λn=>e n b
  |_=>False
 | .indexAddr h f w=>Wo T n h f w λc=>fl n a.dst [0] c λn=>e n d
 | .slice h f M N O=>Wn T n h f M N O λc=>fl n a.dst [0] c λn=>e n d
 | .nilCheck f=>Zu n f λc=>fl n a.dst [0] c λn=>e n d
 | .index h f w=>XD n f w λc=>fl n a.dst [0] c λn=>e n d
 | .alloc h=>zT T h λs=>match s with
  |⟨_,_,t,_,_,_,_,_⟩=>PA d (.cells t.toArray h) λb=>fl n a.dst [0] (.pointer (some ⟨d.heap.size,0,none⟩)) λn=>e n b
 | .box h f=>zE n f λg c=>match Up 1 g with
  |true=>PA d (.cells (Value.cells c) h) λb=>fl n a.dst [0] (.pointer (some ⟨d.heap.size,0,none⟩)) λn=>e n b
  |false=>YA c λcs=>PA d (.cells cs.toArray h) λb=>fl n a.dst [0] (.pointer (some ⟨d.heap.size,0,none⟩)) λn=>e n b
 | .buildSlice h A u=>zT T h λs=>match s with
  |⟨_,_,_,H,_,_,_,_⟩=>zT T H λs=>match s with
   |⟨_,Q,t,_,_,_,_,_⟩=>XC A t λB=>NC n Q u.toList B λB=>PA d (.cells B.toArray H) λb=>fl n a.dst [0] (.slice (some ⟨d.heap.size,0,none⟩) A A) λn=>e n b
 | .makeMap _ _=>PA d (.map #[] 0) λb=>fl n a.dst [0] (.map (some d.heap.size)) λn=>e n b
 | .mapUpdate h p j f=>zE n p λ_ p=>zE n j λ_ j=>zE n f λ_ f=>lR P (Instr.mapUpdate h p j f) d (λb=>fl n a.dst [0] undef λn=>e n b) o
 | .insert h p j f=>zE n p λ_ p=>zE n j λ_ j=>zE n f λ_ f=>lR P (Instr.mapUpdate h p j f) d (λb=>fl n a.dst [0] undef λn=>e n b) o
 | .entryStore h p j f=>zE n p λ_ p=>zE n j λ_ j=>zE n f λ_ f=>lR P (Instr.entryStore h p j f) d (λb=>fl n a.dst [0] undef λn=>e n b) o
 | .next S R=>DY n a λl=>aK P l d (λc b=>(c= .tuple #[.bool false]/\fl n a.dst [2] (.tuple #[.bool false]) λn=>e n b)\/(match R with
  |true=>∃w I,c= .tuple #[.bool true,.int .i64 w,.int .i32 I]/\fl n a.dst [2,0,0] (.tuple #[.bool true,.int .i64 w,.int .i32 I]) λn=>e n b
  |false=>∃j f,c= .tuple #[.bool true,j,f]/\fl n a.dst [2,0,0] (.tuple #[.bool true,j,f]) λn=>e n b)) o
 | .entry _=>DY n a λl=>Mj P T (a.dst.getD 9999) 0 r λC E=>Mj P T (a.dst.getD 9999) 1 r λF z1=>aK P l d (λc b=>zX C E λi=>zX F z1 λm=>c= .tuple #[i,m]/\fl n a.dst [0,0] (.tuple #[i,m]) λn=>e n b) o
 | .mapEntry _ _ _=>DY n a λl=>Mj P T (a.dst.getD 9999) 0 r λC E=>Mj P T (a.dst.getD 9999) 1 r λF z1=>aK P l d (λc b=>zX C E λi=>zX F z1 λm=>c= .tuple #[i,m]/\fl n a.dst [0,0] (.tuple #[i,m]) λn=>e n b) o
 | .typeAssert _ _ k true=>DY n a λl=>zT T k λs=>match s with
  |⟨j,_,t,_,_,_,_,_⟩=>aK P l d (λc b=>zX j t λi=>∃m,c= .tuple #[i,.bool m]/\fl n a.dst [0,0] (.tuple #[i,.bool m]) λn=>e n b) o
 | .call y=>match y.callee with
  | .value (.func g)=>zA n y.args.toList λi=>PC P g i.toArray d (λc b=>Mh P T q X a.type a.dst λg k=>c=k/\fl n a.dst g k λn=>e n b) z
  | .value v=>zE n v λ_ v=>zA n y.args.toList λi=>∃g J K,v= .func (.func g) J K/\enters P g=true/\PC P g (J++i.toArray++K) d (λc b=>Mh P T q X a.type a.dst λg k=>c=k/\fl n a.dst g k λn=>e n b) z
  | .invoke v x=>zE n v λ_ v=>zA n y.args.toList λi=>∃g L,(∀d,(callMethod v x i.toArray).run P d= .ok (.enter g L) d)/\PC P g L d (λc b=>Mh P T q X a.type a.dst λg k=>c=k/\fl n a.dst g k λn=>e n b) z
  |_=>Ha T a (DY n a λl=>aK P l d (λc b=>Mh P T q X a.type a.dst λg k=>c=k/\fl n a.dst g k λn=>e n b) o)
   (ND T n a (λg c=>fl n a.dst g c λn=>e n d) (DY n a λl=>aK P l d (λc b=>fl n a.dst [1] c λn=>e n b) o))
 |_=>Ha T a (DY n a λl=>aK P l d (λc b=>Mh P T q X a.type a.dst λg k=>c=k/\fl n a.dst g k λn=>e n b) o)
   (ND T n a (λg c=>fl n a.dst g c λn=>e n d) (DY n a λl=>aK P l d (λc b=>fl n a.dst [1] c λn=>e n b) o))
abbrev XE(n:List Oper)(P:Nat)(a:Nat->Prop):Prop:=DX n P λb=>match b.dst with
 |some c=>a c
 |none=>False
abbrev Hb(e:List Oper)(f:Oper)(P:et)(a n:et->Prop):Prop:=match f.guard with
 |none=>a P
 |some (g,c)=>XE e g λb=>zL P b λh i=>match i with
  | .bool d=>match Up 2 h with
   |true=>match c with
    |true=>match d with
     |true=>a ((b,[2],.bool true)::P)
     |false=>n ((b,[2],.bool false)::P)
    |false=>match d with
     |true=>n ((b,[2],.bool true)::P)
     |false=>a ((b,[2],.bool false)::P)
   |false=>match c with
    |true=>al d (a ((b,[2],.bool true)::P)) (n ((b,[2],.bool false)::P))
    |false=>al d (n ((b,[2],.bool true)::P)) (a ((b,[2],.bool false)::P))
  | .tuple _=>n P
  |_=>False
abbrev ZA(b:List Oper)(f:Value->World->Prop)(g:List PanicEntry->World->Prop)(h:List Oper):(et->World->Prop)->et->World->Prop:=
 List.rec (motive:=λ_=>(et->World->Prop)->et->World->Prop) (λc n a=>c n a)
  (λd _ e c n a=>Hb b d n (λn=>QB P T q X b f g d (λn a=>e c n a) n a) (λn=>fl n d.dst [0] undef λn=>e c n a)) h
abbrev zKd(c:Oper)(n:Nat->Prop):Prop:=match c.op with
 | .move _=>n 0
 | .assign _=>n 0
 | .pick .. =>n 0
 | .build .. =>n 0
 | .binOp .. =>n 0
 | .unOp .. =>n 0
 | .indexAddr .. =>n 0
 | .slice .. =>n 0
 | .nilCheck _=>n 0
 | .fieldAddr .. =>n 0
 | .field .. =>n 0
 | .index .. =>n 0
 | .extract .. =>n 0
 | .typeAssert .. =>n 0
 | .convert d e _=>wj T d λP=>wj T e λa=>match P,a with
  |0,0=>n 0
  |_,_=>n 2
 | .load .. =>n 1
 | .lookup .. =>n 1
 | .call b=>match b.callee with
  | .builtin a=>match a with
   | .len=>DX b.argTypes.toList 0 λf=>wj T f λP=>match P with
    |5=>n 1
    |_=>n 0
   | .cap=>n 0
   | .max=>n 0
   | .min=>n 0
   |_=>n 2
  |_=>n 2
 |_=>n 2
abbrev XF:List Oper->(List Nat->Prop)->Prop
 |[],n=>n []
 |P::a,n=>zKd T P λb=>XF a λc=>n (b::c)
abbrev Us:List Edge->(List Nat->Prop)->Prop
 |[],n=>n []
 |e::P,n=>match e with
  |⟨a,b⟩=>match b with
   | .textOnly _=>Us P n
   | .gcOnly _=>Us P n
   |_=>Us P λc=>n (a::c)
abbrev Vv:List Oper->(List (List Nat)->Prop)->Prop
 |[],n=>n []
 |P::a,n=>Us P.after.toList λb=>Vv a λc=>n (b::c)
abbrev Vw:List Nat->Bool
 |[]=>false
 |k::n=>match k with
  |2=>true
  |_=>Vw n
abbrev Vx:List Nat->List Nat->Bool
 |[],_=>true
 |a::P,n=>match zm n a with
  |true=>Vx P n
  |false=>false
abbrev Ut:List Nat:=[0,1,2,3,4,5,6,7,8,9,10,11,12,13,14,15,16,17,18,19,20,21,22,23,24,25,26,27,28,29,30,31,32,33,34,35,36,37,38,39,40,41,42,43,44,45,46,47,48,49,50,51,52,53,54,55,56,57,58,59,60,61,62,63]
abbrev uN(n:List Nat):List Nat->List (List Nat)->List Nat
 |a::is,b::P=>match zm n a with
  |true=>uN n is P
  |false=>match Vx b n with
   |true=>a::uN n is P
   |false=>uN n is P
 |_,_=>[]
abbrev XG:List Nat->Nat->Nat
 |[],_=>2
 |x::n,P=>match P with
  |0=>x
  |a+1=>XG n a
abbrev Sb(n:List Nat):List Nat->Option Nat
 |[]=>none
 |P::a=>match XG n P with
  |2=>Sb n a
  |_=>some P
abbrev Hc(n:Nat):List Nat->Option Nat
 |[]=>none
 |P::a=>match Nat.beq n P with
  |true=>Hc n a
  |false=>some P
abbrev Mk(a:List (List Nat))(b:Nat):List Oper->List Nat->(List Nat->Prop)->Prop
 |[],n,P=>P n
 |_::c,n,P=>match Hc b (uN n Ut a)with
  |some d=>Mk a b c (d::n) P
  |none=>P n
abbrev Sc(P n:List Nat):List Nat->Bool
 |[]=>true
 |a::b=>match zm n a with
  |true=>Sc P n b
  |false=>match XG P a with
   |2=>false
   |_=>Sc P n b
abbrev Sd(a:List (List Nat))(d:List Nat)(e:List Oper)(b:Nat)(n:List Nat)(P:Bool->Prop):Prop:=Mk a b e n λc=>match Hc b (uN c Ut a)with
 |some _=>P false
 |none=>match Sc d n c with
  |true=>P true
  |false=>P false
abbrev Wp:List Nat->List Nat->(List Nat->Prop)->Prop
 |[],n,P=>P n
 |a::b,n,P=>match zm n a with
  |true=>Wp b n P
  |false=>Wp b (a::n) P
abbrev XH(b:List (List Nat))(e:List Oper)(c:Nat)(n:List Nat)(P:Option (List Nat))(a:Option (List Nat)->Prop):Prop:=match P with
 |none=>a none
 |some P=>Mk b c e n λd=>match Hc c (uN d Ut b)with
  |some _=>a none
  |none=>Wp d P λP=>a (some P)
abbrev ZB(a:List Nat):(Nat->Prop)->Prop:=
 List.rec (motive:=λ_=>(Nat->Prop)->Prop) (λ_=>True) (λP b c n=>match b with
  |[]=>n P
  |_::_=>n P/\c n) a
abbrev zIn(n:Option (List Nat))(P:Nat):Bool:=match n with
 |none=>true
 |some n=>zm n P
abbrev rD(n:Value)(P:World):Prop:=∀(_:ck) (_:cP),R (.panicked [{v:=n,recovered:=false}]) P
abbrev rE(n:List PanicEntry)(P:World):Prop:=∀(_:ck) (_:cP),R (.panicked n) P
abbrev Uu(b:List Oper)(a:Oper)(o:Nat)(d:Bool)(l:Nat->Prop)(e:et->Prop)(n:et)(c:World):Prop:=
 match a.op with
 | .load p i=>match d with
  |true=>zE n i λ_ i=>match i with
   | .pointer (some ⟨m,of,_⟩)=>¬l m/\R_ P T q X p (a.dst.getD 9999) m of c λg j=>fl n a.dst g j λn=>e n
   |_=>False
  |false=>QB P T q X b (rD R) (rE R) a (λn _=>e n) n c
 | .indexAddr .. =>QB P T q X b (rD R) (rE R) a (λn _=>e n) n c
 | .slice .. =>QB P T q X b (rD R) (rE R) a (λn _=>e n) n c
 | .nilCheck .. =>QB P T q X b (rD R) (rE R) a (λn _=>e n) n c
 | .index .. =>QB P T q X b (rD R) (rE R) a (λn _=>e n) n c
 |_=>Ha T a (DY n a λk=>Mh P T q X a.type a.dst λg h=>(match o with
   |0=>∀f,k.run P f= .ok h f
   |_=>match d with
    |true=>∀f,aj l c f->k.run P f= .ok h f
    |false=>k.run P c= .ok h c)/\fl n a.dst g h λn=>e n)
  (ND T n a (λg j=>fl n a.dst g j λn=>e n) False)
abbrev Wq(b:List Oper)(m:List (List Nat))(k:List Nat)(p:List Oper)(h:Bool)(i:Nat->Prop)(r:et->World->Prop)(j:List Oper):List Nat->Option (List Nat)->et->World->Prop:=
 List.rec (motive:=λ_=>List Nat->Option (List Nat)->et->World->Prop) (λ_ _ a d=>r a d) (λ_ _ g n e a d=>match uN n Ut m with
  |[]=>r a d
  |s=>match Sb k s with
   |some c=>DX b c λf=>(λo=>Hb b f a o (λa=>fl a f.dst [0] undef λa=>g (c::n) e a d)) (match h with
    |false=>λa=>Uu P T R q X b f (XG k c) false i (λa=>g (c::n) e a d) a d
    |true=>match XG k c with
     |0=>λa=>Uu P T R q X b f 0 false i (λa=>g (c::n) e a d) a d
     |_=>λa=>Sd m k p c n λt=>match t with
      |true=>Uu P T R q X b f 1 false i (λa=>g (c::n) e a d) a d
      |false=>XH m p c n e λe=>Uu P T R q X b f 1 true i (λa=>g (c::n) e a d) a d)
   |none=>ZB s λc=>DX b c λf=>Hb b f a (λa=>QB P T q X b (rD R) (rE R) f (λa l=>match h with
     |false=>g (c::n) e a l
     |true=>match zIn e c with
      |true=>aj i d l/\g (c::n) e a l
      |false=>g (c::n) e a l) a d) (λa=>fl a f.dst [0] undef λa=>g (c::n) e a d)) j
abbrev XI(c:List Oper)(i:List Oper):(et->Prop)->et->World->Prop:=
 List.rec (motive:=λ_=>(et->Prop)->et->World->Prop) (λd n _=>d n) (λa _ e d n b=>Hb c a n (λn=>match a.op with
  | .load .. =>QB P T q X c (rD R) (rE R) a (λn _=>e d n b) n b
  | .indexAddr .. =>QB P T q X c (rD R) (rE R) a (λn _=>e d n b) n b
  | .slice .. =>QB P T q X c (rD R) (rE R) a (λn _=>e d n b) n b
  | .nilCheck .. =>QB P T q X c (rD R) (rE R) a (λn _=>e d n b) n b
  | .index .. =>QB P T q X c (rD R) (rE R) a (λn _=>e d n b) n b
  |_=>Ha T a (DY n a λj=>Mh P T q X a.type a.dst λf g=>(∀h,j.run P (b.drewN h)= .ok g (b.drewN h))/\fl n a.dst f g λn=>e d n b)
   (ND T n a (λf k=>fl n a.dst f k λn=>e d n b) False)) (λn=>fl n a.dst [0] undef λn=>e d n b)) i
abbrev Hd:Code->Option Nat
 | .region id _ _=>some id
 | .seq P a=>match Hd P with
  |some b=>some b
  |none=>Hd a
 | .cond _ P a=>match Hd P with
  |some b=>some b
  |none=>Hd a
 | .block _ n=>Hd n
 | .loop n=>Hd n
 | .scope n=>Hd n
 |_=>none
abbrev Wr:List Oper->List Nat->List Nat
 |[],n=>n
 |a::P,n=>match a.dst with
  |some b=>b::Wr P n
  |none=>Wr P n
abbrev Uv:Code->List Nat->List Nat
 | .region _ a _,n=>Wr a.toList n
 | .seq b c,n=>Uv b (Uv c n)
 | .cond _ b c,n=>Uv b (Uv c n)
 | .block _ P,n=>Uv P n
 | .loop P,n=>Uv P n
 | .scope P,n=>Uv P n
 |_,n=>n
abbrev Uw(P:List Nat):et->(et->Prop)->Prop
 |[],n=>n []
 |(a,c,d)::b,n=>match zm P a with
  |true=>Uw P b n
  |false=>Uw P b λe=>n ((a,c,d)::e)
abbrev Se(P:List (Nat×List (Nat×Value)))(a:Option Nat):Option (List (Nat×Value)):=match a with
 |none=>none
 |some n=>match P with
  |[]=>none
  |(b,c)::d=>match Nat.beq b n with
   |true=>some c
   |false=>Se d (some n)
abbrev TE:List (Nat×Value)->List Value
 |[]=>[]
 |(_,n)::P=>n::TE P
abbrev Sf:List Value->Type->Type
 |[],n=>n
 |z::P,n=>match z with
  | .int _ _=>Int->Sf P n
  | .bool _=>Bool->Sf P n
  | .string _=>ByteArray->Sf P n
  | .slice _ _ _=>Option Addr->Nat->Nat->Sf P n
  | .pointer (some _)=>Nat->Nat->Sf P n
  | .pointer none=>Option Addr->Sf P n
  | .map _=>Option Nat->Sf P n
  |_=>Value->Sf P n
abbrev DZ:(P:List Value)->Sf P (World->Prop)->List Value->World->Prop
 |[],n,_,a=>n a
 |z::P,n,b,a=>match b with
  |[]=>False
  |v::b=>match z,n with
   | .int k _,n=>match v with
    | .int _ c=>DZ P (n c) b a
    |_=>False
   | .bool _,n=>match v with
    | .bool d=>DZ P (n d) b a
    |_=>False
   | .string _,n=>match v with
    | .string e=>DZ P (n e) b a
    |_=>False
   | .slice _ _ _,n=>match v with
    | .slice f c g=>DZ P (n f c g) b a
    |_=>False
   | .pointer (some _),n=>match v with
    | .pointer (some ⟨d,h,_⟩)=>DZ P (n d h) b a
    |_=>False
   | .pointer none,n=>match v with
    | .pointer i=>DZ P (n i) b a
    |_=>False
   | .map _,n=>match v with
    | .map j=>DZ P (n j) b a
    |_=>False
   | .float _ _,n=>DZ P (n v) b a
   | .complex _ _ _,n=>DZ P (n v) b a
   | .chan _,n=>DZ P (n v) b a
   | .func _ _ _,n=>DZ P (n v) b a
   | .nilFunc,n=>DZ P (n v) b a
   | .iface _ _,n=>DZ P (n v) b a
   | .nilIface,n=>DZ P (n v) b a
   | .agg _,n=>DZ P (n v) b a
   | .tuple _,n=>DZ P (n v) b a
abbrev Vy(n:List Value):(List Value->Prop)->Prop:=
 List.rec (motive:=λ_=>(List Value->Prop)->Prop) (λP=>P []) (λd _ a P=>match d with
  | .int e _=>∀b:Int,a λn=>P (.int e b::n)
  | .bool _=>∀c:Bool,a λn=>P (.bool c::n)
  | .string _=>∀f:ByteArray,a λn=>P (.string f::n)
  | .slice _ _ _=>∀(g:Option Addr) (b h:Nat),a λn=>P (.slice g b h::n)
  | .pointer (some _)=>∀(c i:Nat),a λn=>P (.pointer (some ⟨c,i,none⟩)::n)
  | .pointer none=>∀j:Option Addr,a λn=>P (.pointer j::n)
  | .map _=>∀k:Option Nat,a λn=>P (.map k::n)
  |_=>∀l:Value,a λn=>P (l::n)) n
abbrev NF(P:et):List (Nat×Value)->(List Value->Prop)->Prop
 |[],n=>n []
 |(a,_)::b,n=>zL P a λ_ c=>NF P b λd=>n (c::d)
abbrev Sg:List (Nat×Value)->List Value->et->(et->Prop)->Prop
 |(a,_)::b,c::d,n,P=>Sg b d n λn=>P ((a,[0],c)::n)
 |_,_,n,P=>P n
abbrev zC(o:lA)(s:et->World->Prop)(i:Code):(et->World->Prop)->(Nat->et->World->Prop)->et->World->Prop:=
 Code.rec (motive:=λ_=>(et->World->Prop)->(Nat->et->World->Prop)->et->World->Prop)
  (λc _ n a=>c n a)
  (λid b j c _ n a=>match j with
   |false=>ZA P T q X b.toList (λt a=>R (.panicked [{v:=t,recovered:=false}]) a) (λE a=>R (.panicked E) a) b.toList c n a
   |true=>XF T b.toList λp=>match Vw p with
    |false=>XI P T R q X b.toList b.toList (λn=>∀f,cf a f->c n f) n a
    |true=>Vv b.toList λu=>match zm o.keeps id with
     |true=>∀f,cf a f->∃d:Nat->Prop,match zm o.NG id with
      |true=>Wq P T R q X b.toList u p b.toList true d c b.toList [] (some []) n f
      |false=>Wq P T R q X b.toList u p b.toList true d c b.toList [] none n f
     |false=>∀f,cf a f->Wq P T R q X b.toList u p b.toList false (λ_=>False) c b.toList [] none n f)
  (λx y g h c e n a=>match Se o.Sh (Hd y)with
   |none=>g (λn a=>h c e n a) e n a
   |some d=>∃z:Sf (TE d) (World->Prop),g (λn a=>NF n d λk=>DZ (TE d) z k a) e n a/\
     Uw (Uv x []) n λv=>Vy (TE d) λl=>∀(F:Nat->Value) (f:World),DZ (TE d) z l f->Sg d l v λn=>h c e n f)
  (λi x y g h c e n a=>zE n i λH t=>match t with
   | .bool A=>match Up 2 H with
    |true=>match A with
     |true=>g c e n a
     |false=>h c e n a
    |false=>al A (g c e n a) (h c e n a)
   |_=>False)
  (λid _ m c e n a=>m c (λB n a=>match Nat.beq B id with
   |true=>c n a
   |false=>e B n a) n a)
  (λi m c e n a=>match Se o.loops (Hd i)with
   |none=>False
   |some d=>∃w:Nat->Sf (TE d) (World->Prop),(∃r,NF n d λk=>DZ (TE d) (w r) k a)/\
     ∀r,Uw (Uv i []) n λv=>Vy (TE d) λl=>∀(F:Nat->Value) (f:World),DZ (TE d) (w r) l f->
      Sg d l v λn=>m (λn a=>∃C,C<r/\NF n d λk=>DZ (TE d) (w C) k a) e n f)
  (λ_ _ _ _ _ _ _ _ _ _=>False)
  (λid _ e n a=>e id n a)
  (λ_ m c e n a=>m c e n a)
  (λ_ c _ n a=>c n a)
  (λ_ _ _ _ _=>False)
  (λ_ _ n a=>s n a)
  (λ_ _ _ _ _=>False) i
abbrev ZC(d:et)(g:World)(n:List ResultVar):(List Value->Prop)->Prop:=
 List.rec (motive:=λ_=>(List Value->Prop)->Prop) (λa=>a []) (λh _ e a=>match h with
  | .tmp b=>zL d b λ_ c=>e λn=>a (c::n)
  | .cell f b=>zL d f λ_ i=>match i with
   | .pointer (some ⟨j,k,_⟩)=>R_ P T q X b (2000000+f) j k g λ_ c=>e λn=>a (c::n)
   |_=>False) n
abbrev XL(b:List ResultVar)(c:et)(n:World):Prop:=ZC P T q X c n b λa=>match a with
 |[d]=>R (.returned d) n
 |a=>R (.returned (.tuple a.toArray)) n
abbrev Vz:List Nat->List Value->(et->Prop)->Prop
 |P::is,a::b,n=>Vz is b λc=>n ((P,[0],a)::c)
 |_,_,n=>n []
end
structure An where
 A:lA
 q:Bool
 X:List Nat
abbrev Xt(P:Program)(a:Tr)(f:An)(e:List ResultVar)(g:Code)(n:List Value)(h:World)(b:Ending->World->Prop):Prop:=match f with
 |⟨i,c,d⟩=>Vz idx n λj=>zC P a b c d i (XL P a b c d e) g (XL P a b c d e) (λ_ _ _=>False) j h

import Derived.Test.YtjgjkeponbeekaaGreatDoorYbLift
set_option linter.all false
namespace Go.ar
open Go
structure Ty where
 k:Nat
 size:Nat
 zs:List Value
 el:Nat
 n:Nat
 fs:List (Nat×Nat×Nat)
 ts:List Nat
 ik:IntKind
inductive Tr where
 |n
 |b (l:Tr) (i:Nat) (v:Ty) (r:Tr)
abbrev Uy(n:Nat):List Nat->Bool
 |[]=>false
 |x::P=>match P with
  |[]=>Nat.beq x n
  |_::_=>false
abbrev ep:=List (Nat×List Nat×Value)
abbrev zT:Tr->Nat->(Ty->Prop)->Prop
 | .n,_,_=>False
 | .b b a c d,n,P=>match Nat.beq n a with
  |true=>P c
  |false=>match Nat.ble n a with
   |true=>zT b n P
   |false=>zT d n P
abbrev zm:List Nat->Nat->Bool
 |[],_=>false
 |d::P,n=>match Nat.beq d n with
  |true=>true
  |false=>zm P n
abbrev Ef{n:Type}:List n->Nat->(n->Prop)->Prop
 |[],_,_=>False
 |x::a,b,P=>match b with
  |0=>P x
  |c+1=>Ef a c P
abbrev zg:List Nat->Nat->(Nat->Prop)->Prop
 |[],_,n=>n 0
 |x::P,a,n=>match a with
  |0=>n x
  |b+1=>zg P b n
abbrev zL:ep->Nat->(List Nat->Value->Prop)->Prop
 |[],_,_=>False
 |(a,b,c)::d,n,P=>match Nat.beq a n with
  |true=>P b c
  |false=>zL d n P
abbrev zE(P:ep)(a:Operand)(n:List Nat->Value->Prop):Prop:=match a with
 | .tmp b=>zL P b n
 | .const c=>n [2] c
 | .global d=>n [0] (.pointer (some ⟨d,0,none⟩))
 | .func e=>n [0] (.func (.func e) #[] #[])
abbrev zA(P:ep):List Operand->(List Value->Prop)->Prop
 |[],n=>n []
 |x::a,n=>zE P x λ_ b=>zA P a λc=>n (b::c)
abbrev fj(P:ep)(n:Option Tmp)(b:List Nat)(c:Value)(a:ep->Prop):Prop:=match n with
 |some n=>a ((n,b,c)::P)
 |none=>a P
abbrev ZL(n:Nat):Bool:=match n with
 |6=>true
 |7=>true
 |_=>false
abbrev ZM(n:Bool)(P:List Nat)(a:Nat)(b:List Value)(c:Nat):Bool:=match n with
 |false=>false
 |true=>match ZL a with
  |false=>false
  |true=>match b with
   |_::_::_::_=>match zm P c with
    |true=>false
    |false=>true
   |_=>false
abbrev z1(a:Value)(n:Value->Prop):Prop:=match a with
 | .int b _=>∃P:Int,n (.int b P)
 | .bool _=>∃c:Bool,n (.bool c)
 | .string _=>∃d:ByteArray,n (.string d)
 | .slice _ _ _=>∃(e:Option Addr) (P f:Nat),n (.slice e P f)
 | .pointer _=>∃g:Option Addr,n (.pointer g)
 | .map _=>∃h:Option Nat,n (.map h)
 |_=>∃i:Value,n i
abbrev zLs(n:List Value):(List Value->Prop)->Prop:=
 List.rec (motive:=λ_=>(List Value->Prop)->Prop) (λP=>P []) (λa _ b P=>z1 a λc=>b λn=>P (c::n)) n
abbrev zX(a:Nat)(n:List Value)(P:Value->Prop):Prop:=match ZL a with
 |true=>zLs n λb=>P (.agg b.toArray)
 |false=>match n with
  |z::_=>z1 z P
  |[]=>False
abbrev idx:List Nat:=[0,1,2,3,4,5,6,7,8,9,10,11,12,13,14,15,16,17,18,19]
abbrev Wt(n:Nat)(P:Nat)(a:Nat->Prop):Prop:=match P with
 |0=>a n
 |_=>a (n+P)
abbrev Wu(a:World)(b c:Nat)(d:List Nat):List Value->Prop->Prop:=
 List.rec (motive:=λ_=>List Value->Prop->Prop) (λ_ n=>n) (λe _ f P n=>match P with
  |v::P=>(Wt c e λg=>a.cell? ⟨b,g,none⟩=some v/\f P n)
  |[]=>n) d
abbrev Wv(b c:Nat)(d:List Nat):List Value->World->(World->Prop)->Prop:=
 List.rec (motive:=λ_=>List Value->World->(World->Prop)->Prop) (λ_ n P=>P n) (λe _ f a n P=>match a with
  |v::a=>(Wt c e λg=>PS n ⟨b,g,none⟩ v λh=>f a h P)
  |[]=>P n) d
abbrev YL(v:Value)(n:List Value->Prop):Prop:=match v with
 | .agg ⟨P⟩=>n P
 |v=>n [v]
abbrev VE:Nat->List Value->(List Value->Prop)->Prop
 |0,_,P=>P []
 |n+1,[],P=>P []
 |n+1,a::b,P=>VE n b λc=>P (a::c)
abbrev VF:Nat->List Value->(List Value->Prop)->Prop
 |0,a,P=>P a
 |n+1,[],P=>P []
 |n+1,_::b,P=>VF n b P
abbrev Uz:Nat->List Value->List Value->(List Value->Prop)->Prop
 |0,a,[],P=>P a
 |0,[],_::_,P=>P []
 |0,_::b,c::cs,P=>Uz 0 b cs λa=>P (c::a)
 |n+1,[],_,P=>P []
 |n+1,d::b,cs,P=>Uz n b cs λa=>P (d::a)
abbrev XN:List Value->List Value->(List Value->Prop)->Prop
 |[],n,P=>P n
 |x::a,n,P=>XN a n λn=>P (x::n)
abbrev XO:Nat->List Value->(List Value->Prop)->Prop
 |0,_,P=>P []
 |n+1,[],P=>P []
 |n+1,a::b,P=>XO n (a::b) λc=>XN (a::b) c P
section
variable (P:Program) (T:Tr) (R:Ending->World->Prop) (q:Bool) (X:List Nat)
abbrev zTt(n d:Nat)(a:Nat->Value->Prop):Prop:=zT T n λe=>match e with
 |⟨b,_,c,_,_,_,_,_⟩=>match ZM q X b c d with
  |true=>sK (dz P n) λf=>a 1 f
  |false=>zX b c (a 0)
abbrev zRs(b:Nat)(a:List Nat):List Nat->(List Nat->List Value->Prop)->Prop:=
 List.rec (motive:=λ_=>List Nat->(List Nat->List Value->Prop)->Prop) (λ_ n=>n [] []) (λc _ d is n=>match is with
  |e::is=>zTt P T q X c (1000000+b*100+e) λf g=>d is λh a=>n (f::h) (g::a)
  |[]=>n [] []) a
abbrev Mp(n:Nat)(a:Option Tmp)(b:List Nat->Value->Prop):Prop:=zT T n λc=>match c with
 |⟨d,_,_,_,_,_,e,_⟩=>match d with
  |10=>zRs P T q X (a.getD 9999) e idx λf g=>b f (.tuple g.toArray)
  |_=>zTt P T q X n (a.getD 9999) λh i=>b [h] i
abbrev Sf(a:ep)(b:List (Nat×Nat×Nat)):List (Nat×Operand)->List Value->(List Value->Prop)->Prop
 |[],n,P=>P n
 |(c,d)::e,n,P=>zE a d λ_ f=>YL f λcs=>Ef b c λg=>match g with
  |(h,_,_)=>Uz h n cs λn=>Sf a b e n P
abbrev NN(a:ep)(b:Nat):List (Nat×Operand)->List Value->(List Value->Prop)->Prop
 |[],n,P=>P n
 |(c,d)::e,n,P=>zE a d λ_ f=>YL f λcs=>Uz (c*b) n cs λn=>NN a b e n P
abbrev UA(b:Bool)(c:IntKind):Int->List Value->(Value->Prop)->Prop
 |n,[],P=>P (.int c n)
 |n,e::d,P=>match e with
  | .int _ a=>match b with
   |true=>UA b c (if a>n then a else n) d P
   |false=>UA b c (if a<n then a else n) d P
  |_=>False
abbrev VG(n:Operand):Bool:=match n with
 | .const _=>true
 |_=>false
abbrev NO(d:ep)(p:Oper)(n:List Nat->Value->Prop)(no:Prop):Prop:=match p.op with
 | .move e=>zE d e n
 | .assign e=>zE d e n
 | .pick c i g=>zE d c λ_ f=>match f with
  | .bool true=>zE d i n
  | .bool false=>zE d g n
  |_=>False
 | .binOp l j e h _=>zE d e λ_ i=>zE d h λ_ g=>match i,g with
  | .int a P,.int _ b=>match l with
   | .add=>n [0] (.int a (IntKind.wrap a (P+b)))
   | .sub=>n [0] (.int a (IntKind.wrap a (P-b)))
   | .mul=>n [0] (.int a (IntKind.wrap a (P*b)))
   | .quo=>match VG h with
    |true=>n [0] (.int a (IntKind.wrap a (Int.tdiv P b)))
    |false=>no
   | .rem=>match VG h with
    |true=>n [0] (.int a (Int.tmod P b))
    |false=>no
   | .shl=>match VG h with
    |true=>n [0] (.int a (Jf a P b))
    |false=>no
   | .shr=>match VG h with
    |true=>n [0] (.int a (iF a P b))
    |false=>no
   | .and=>n [0] (.int a (BA a P b))
   | .or=>n [0] (.int a (QI a P b))
   | .xor=>n [0] (.int a (qY a P b))
   | .andNot=>n [0] (.int a (mC a P b))
   | .eql=>n [0] (.bool (P==b))
   | .neq=>n [0] (.bool (P !=b))
   | .lss=>n [0] (.bool (decide (P<b)))
   | .leq=>n [0] (.bool (decide (P<=b)))
   | .gtr=>n [0] (.bool (decide (P>b)))
   | .geq=>n [0] (.bool (decide (P>=b)))
  | .string P,.string b=>match l with
   | .eql=>n [0] (.bool (ByteArray.toList P==ByteArray.toList b))
   | .neq=>n [0] (.bool (!(ByteArray.toList P==ByteArray.toList b)))
   | .lss=>n [0] (.bool (Op.bytesLess (ByteArray.toList P) (ByteArray.toList b)))
   | .leq=>n [0] (.bool (Op.bytesLess (ByteArray.toList P) (ByteArray.toList b)||ByteArray.toList P==ByteArray.toList b))
   | .gtr=>n [0] (.bool (!(Op.bytesLess (ByteArray.toList P) (ByteArray.toList b)||ByteArray.toList P==ByteArray.toList b)))
   | .geq=>n [0] (.bool (!(Op.bytesLess (ByteArray.toList P) (ByteArray.toList b))))
   |_=>no
  | .bool P,.bool b=>match l with
   | .eql=>n [0] (.bool (P==b))
   | .neq=>n [0] (.bool (!(P==b)))
   |_=>no
  |_,_=>no
 | .unOp x _ e=>zE d e λq f=>match x,f with
  | .not,.bool g=>match q with
   |2::_=>match g with
    |true=>n [2] (.bool false)
    |false=>n [2] (.bool true)
   |_=>n [0] (.bool (!g))
  | .neg,.int a P=>n [0] (.int a (IntKind.wrap a (0-P)))
  |_,_=>no
 | .convert u y e=>zT T u λi=>zT T y λg=>match i,g with
  |⟨0,_,_,_,_,_,_,_⟩,⟨0,_,_,_,_,_,_,a⟩=>zE d e λ_ f=>match f with
   | .int _ P=>n [0] (.int a (IntKind.wrap a P))
   |_=>False
  |_,_=>no
 | .field j e o=>zE d e λ_ f=>match f with
  | .agg cs=>zT T j λh=>match h with
   |⟨_,_,_,_,_,r,_,_⟩=>Ef r o λs=>match s with
    |(p,t,z)=>VF p cs.toList λk=>match z with
     |0=>match k with
      |c::_=>n [0] c
      |[]=>False
     |_=>VE t k λk=>n [0] (.agg k.toArray)
  |_=>False
 | .build j m=>zT T j λh=>match h with
  |⟨_,_,A,_,_,r,_,_⟩=>Sf d r m.toList A λk=>n [0] (.agg k.toArray)
 | .extract e o=>zE d e λq f=>match f with
  | .tuple cs=>Ef cs.toList o λc=>zg q o λq=>n [q] c
  |_=>False
 | .makeInterface j e=>zE d e λ_ f=>n [0] (.iface j f)
 | .makeFunc s i c=>zA d i.toList λi=>zA d c.toList λc=>n [0] (.func s i.toArray c.toArray)
 | .fieldAddr j e o=>zE d e λ_ f=>match f with
  | .pointer (some ⟨g,p,_⟩)=>zT T j λh=>match h with
   |⟨_,_,_,_,_,r,_,_⟩=>Ef r o λs=>match s with
    |(t,_,_)=>Wt p t λB=>n [0] (.pointer (some ⟨g,B,none⟩))
  |_=>False
 | .call c=>match c.callee with
  | .builtin g=>zA d c.args.toList λk=>match g,k with
   | .len,.slice _ t _::_=>n [0] (.int .i64 ((t:Nat):Int))
   | .len,.string u::_=>n [0] (.int .i64 ((ByteArray.size u:Nat):Int))
   | .max,.int a v::w=>UA true a v w (n [0])
   | .min,.int a v::w=>UA false a v w (n [0])
   |_,_=>no
  |_=>no
 |_=>no
abbrev Ww(a:ep)(n:Option Operand)(P:Option Value->Prop):Prop:=match n with
 |none=>P none
 |some n=>zE a n λ_ b=>P (some b)
abbrev Eg(a:ep)(f:Oper)(P:Sem Value->Prop):Prop:=match f.op with
 | .lookup b n e j=>zE a n λ_ n=>zE a e λ_ e=>P (Instr.lookup b n e j)
 | .makeSlice b d c=>zE a d λ_ d=>zE a c λ_ c=>P (Instr.makeSlice b d c)
 | .convert k p n=>zE a n λ_ n=>P (convert k p n)
 | .range b n=>zE a n λ_ n=>P (Instr.range b n)
 | .next g k=>zE a g λ_ g=>P (Instr.next g k f.type)
 | .entry g=>zE a g λ_ g=>P (Instr.entry g)
 | .mapEntry b l e=>zE a l λ_ l=>zE a e λ_ e=>P (Instr.mapEntry b l e)
 | .typeAssert n b q j=>zE a n λ_ n=>P (Instr.typeAssert n b q j)
 | .panic n=>zE a n λ_ n=>P (Instr.panic n)
 | .index b n e=>zE a n λ_ n=>zE a e λ_ e=>P (Instr.index b n e)
 | .binOp h b n m _=>zE a n λ_ o=>zE a m λ_ i=>P (do eqGuard h b n m o i;binOp h b o i)
 | .call c=>match c.callee with
  | .builtin i=>zA a c.args.toList λd=>match i with
   | .append=>P (Builtin.append_ c.argTypes f.type d.toArray)
   | .cap=>P (Builtin.cap_ c.argTypes f.type d.toArray)
   | .clear=>P (Builtin.clear_ c.argTypes f.type d.toArray)
   | .copy=>P (Builtin.copy_ c.argTypes f.type d.toArray)
   | .delete=>P (Builtin.delete_ c.argTypes f.type d.toArray)
   | .len=>P (Builtin.len_ c.argTypes f.type d.toArray)
   | .max=>P (Builtin.max_ c.argTypes f.type d.toArray)
   | .min=>P (Builtin.min_ c.argTypes f.type d.toArray)
   | .panic=>match d with
    |v::_=>P (Instr.panic v)
    |[]=>False
   |_=>False
  |_=>False
 |_=>False
abbrev wm(n:Nat)(P:Nat->Prop):Prop:=zT T n λa=>match a with
 |⟨b,_,_,_,_,_,_,_⟩=>P b
abbrev Hl(e:Oper)(n P:Prop):Prop:=match e.op with
 | .lookup .. =>n
 | .next .. =>n
 | .entry _=>n
 | .mapEntry .. =>n
 | .makeSlice .. =>n
 | .convert f g _=>wm T f λa=>wm T g λd=>match a,d with
  |0,0=>P
  |_,_=>n
 | .binOp h c _ b _=>match h with
  | .quo=>match VG b with
   |true=>P
   |false=>n
  | .rem=>match VG b with
   |true=>P
   |false=>n
  | .shl=>match VG b with
   |true=>P
   |false=>n
  | .shr=>match VG b with
   |true=>P
   |false=>n
  | .add=>wm T c λa=>match a with
   |0=>P
   |_=>n
  | .eql=>wm T c λa=>match a with
   |0=>P
   |1=>P
   |2=>P
   |_=>n
  | .neq=>wm T c λa=>match a with
   |0=>P
   |1=>P
   |2=>P
   |_=>n
  |_=>P
 | .call b=>match b.callee with
  | .builtin d=>match d with
   | .append=>n
   | .copy=>n
   | .cap=>n
   | .len=>Ef b.argTypes.toList 0 λc=>wm T c λa=>match a with
    |5=>n
    |_=>P
   |_=>P
  |_=>P
 |_=>P
abbrev Sg(e i:Nat)(n a:Nat)(b:World)(c:List Nat->Value->Prop):Prop:=zT T e λj=>match j with
 |⟨f,_,d,_,_,_,_,_⟩=>match ZM q X f d i with
  |true=>jq P e (.pointer (some ⟨n,a,none⟩)) b λk=>c [1] k
  |false=>match ZL f with
   |true=>zLs d λg=>Wu b n a idx g (c [0] (.agg g.toArray))
   |false=>match d with
    |z::_=>z1 z λh=>b.cell? ⟨n,a,none⟩=some h/\c [0] h
    |[]=>False
abbrev Wx(h:ep)(o:Nat)(p:Operand)(f g i:Option Operand)(a:Value->Prop):Prop:=zE h p λ_ m=>Ww h f λf=>Ww h g λg=>Ww h i λi=>zT T o λj=>match j with
 |⟨2,_,_,_,_,_,_,_⟩=>match m with
  | .string c=>match f,g with
   |none,none=>a (.string (c.extract 0 c.size))
   |some (.int _ n),none=>(0:Int)<=n/\n<=((c.size:Nat):Int)/\a (.string (c.extract n.toNat c.size))
   |none,some (.int _ P)=>(0:Int)<=P/\P<=((c.size:Nat):Int)/\a (.string (c.extract 0 P.toNat))
   |some (.int _ n),some (.int _ P)=>(0:Int)<=n/\n<=P/\P<=((c.size:Nat):Int)/\a (.string (c.extract n.toNat P.toNat))
   |_,_=>False
  |_=>False
 |⟨_,_,_,q,_,_,_,_⟩=>match m with
  | .slice e k b=>zT T q λj=>match j with
   |⟨_,l,_,_,_,_,_,_⟩=>match i with
    |none=>match f,g with
     |none,none=>a (.slice e k b)
     |some (.int _ n),none=>(0:Int)<=n/\n<=((k:Nat):Int)/\a (.slice (c_ e n.toNat b l) (k-n.toNat) (b-n.toNat))
     |none,some (.int _ P)=>(0:Int)<=P/\P<=((b:Nat):Int)/\a (.slice e P.toNat b)
     |some (.int _ n),some (.int _ P)=>(0:Int)<=n/\n<=P/\P<=((b:Nat):Int)/\a (.slice (c_ e n.toNat b l) (P.toNat-n.toNat) (b-n.toNat))
     |_,_=>False
    |some (.int _ d)=>match f,g with
     |none,some (.int _ P)=>(0:Int)<=P/\P<=d/\d<=((b:Nat):Int)/\a (.slice e P.toNat d.toNat)
     |some (.int _ n),some (.int _ P)=>(0:Int)<=n/\n<=P/\P<=d/\d<=((b:Nat):Int)/\a (.slice (c_ e n.toNat d.toNat l) (P.toNat-n.toNat) (d.toNat-n.toNat))
     |_,_=>False
    |_=>False
  |_=>False
abbrev Sh(n:Nat)(P:Int)(a:Nat)(b:Nat->Prop):Prop:=match a with
 |1=>b (n+P.toNat)
 |_=>b (n+P.toNat*a)
abbrev Wy(f:ep)(i:Nat)(j n:Operand)(g:Value->Prop):Prop:=zE f j λ_ k=>zE f n λ_ l=>zT T i λb=>match b,l with
 |⟨m,_,_,o,c,_,_,_⟩,.int _ n=>zT T o λb=>match b with
  |⟨_,h,_,_,_,_,_,_⟩=>match m,k with
   |3,.slice d p _=>∃P a,d=some ⟨P,a,none⟩/\(0:Int)<=n/\n<((p:Nat):Int)/\Sh a n h λe=>g (.pointer (some ⟨P,e,none⟩))
   |7,.pointer d=>∃P a,d=some ⟨P,a,none⟩/\(0:Int)<=n/\n<((c:Nat):Int)/\Sh a n h λe=>g (.pointer (some ⟨P,e,none⟩))
   |_,_=>False
 |_,_=>False
abbrev ZN(b:ep)(c:Operand)(n:Value->Prop):Prop:=zE b c λ_ d=>match d with
 | .pointer e=>∃P a,e=some ⟨P,a,none⟩/\n (.pointer (some ⟨P,a,none⟩))
 | .func f g h=>n (.func f g h)
 |_=>False
abbrev XP(P:ep)(b n:Operand)(c:Value->Prop):Prop:=zE P b λ_ d=>zE P n λ_ e=>match d,e with
 | .string f,.int _ n=>(0:Int)<=n/\∃a,f[n.toNat]? =some a/\c (.int .u8 ((a.toNat:Nat):Int))
 |_,_=>False
abbrev Mq(P:Program)(T:Tr)(a b:Nat):List Oper->(Nat->List Value->Prop)->Prop
 |[],n=>n 8 [undef]
 |d::c,n=>match d.op with
  | .extract (.tmp e) f=>match Nat.beq e a with
   |true=>match Nat.beq f b with
    |true=>zT T d.type λg=>match g with
     |⟨h,_,i,_,_,_,_,_⟩=>n h i
    |false=>Mq P T a b c n
   |false=>Mq P T a b c n
  |_=>Mq P T a b c n
abbrev QL(r:List Oper)(o:Value->World->Prop)(z:List PanicEntry->World->Prop)(a:Oper)(e:ep->World->Prop)(n:ep)(d:World):Prop:=
 match a.op with
 | .load h i=>zE n i λ_ i=>match i with
  | .pointer (some ⟨m,of,_⟩)=>Sg P T q X h (a.dst.getD 9999) m of d λg c=>fj n a.dst g c λn=>e n d
  |_=>False
 | .store h i f=>zE n i λ_ i=>zE n f λg f=>match i with
  | .pointer (some ⟨m,of,_⟩)=>zT T h λs=>match s with
   |⟨j,_,t,_,_,_,_,_⟩=>match ZM q [] j t 0 with
    |true=>nw P h (.pointer (some ⟨m,of,none⟩)) f d λb=>fj n a.dst [0] undef λn=>e n b
    |false=>match Uy 1 g with
     |true=>nw P h (.pointer (some ⟨m,of,none⟩)) f d λb=>fj n a.dst [0] undef λn=>e n b
     |false=>YL f λcs=>Wv m of idx cs d λb=>fj n a.dst [0] undef λn=>e n b
  |_=>False
 | .indexAddr h f w=>Wy T n h f w λc=>fj n a.dst [0] c λn=>e n d
 | .slice h f M N O=>Wx T n h f M N O λc=>fj n a.dst [0] c λn=>e n d
 | .nilCheck f=>ZN n f λc=>fj n a.dst [0] c λn=>e n d
 | .index h f w=>XP n f w λc=>fj n a.dst [0] c λn=>e n d
 | .alloc h=>zT T h λs=>match s with
  |⟨_,_,t,_,_,_,_,_⟩=>PA d (.cells t.toArray h) λb=>fj n a.dst [0] (.pointer (some ⟨d.heap.size,0,none⟩)) λn=>e n b
 | .box h f=>zE n f λg c=>match Uy 1 g with
  |true=>PA d (.cells (Value.cells c) h) λb=>fj n a.dst [0] (.pointer (some ⟨d.heap.size,0,none⟩)) λn=>e n b
  |false=>YL c λcs=>PA d (.cells cs.toArray h) λb=>fj n a.dst [0] (.pointer (some ⟨d.heap.size,0,none⟩)) λn=>e n b
 | .buildSlice h A u=>zT T h λs=>match s with
  |⟨_,_,_,H,_,_,_,_⟩=>zT T H λs=>match s with
   |⟨_,Q,t,_,_,_,_,_⟩=>XO A t λB=>NN n Q u.toList B λB=>PA d (.cells B.toArray H) λb=>fj n a.dst [0] (.slice (some ⟨d.heap.size,0,none⟩) A A) λn=>e n b
 | .makeMap _ _=>PA d (.map #[] 0) λb=>fj n a.dst [0] (.map (some d.heap.size)) λn=>e n b
 | .mapUpdate h p j f=>zE n p λ_ p=>zE n j λ_ j=>zE n f λ_ f=>ke P (Instr.mapUpdate h p j f) d (λb=>fj n a.dst [0] undef λn=>e n b) o
 | .insert h p j f=>zE n p λ_ p=>zE n j λ_ j=>zE n f λ_ f=>ke P (Instr.mapUpdate h p j f) d (λb=>fj n a.dst [0] undef λn=>e n b) o
 | .entryStore h p j f=>zE n p λ_ p=>zE n j λ_ j=>zE n f λ_ f=>ke P (Instr.entryStore h p j f) d (λb=>fj n a.dst [0] undef λn=>e n b) o
 | .next S R=>Eg n a λl=>aK P l d (λc b=>(c= .tuple #[.bool false]/\fj n a.dst [2] (.tuple #[.bool false]) λn=>e n b)\/(match R with
  |true=>∃w I,c= .tuple #[.bool true,.int .i64 w,.int .i32 I]/\fj n a.dst [2,0,0] (.tuple #[.bool true,.int .i64 w,.int .i32 I]) λn=>e n b
  |false=>∃j f,c= .tuple #[.bool true,j,f]/\fj n a.dst [2,0,0] (.tuple #[.bool true,j,f]) λn=>e n b)) o
 | .entry _=>Eg n a λl=>Mq P T (a.dst.getD 9999) 0 r λC E=>Mq P T (a.dst.getD 9999) 1 r λF z1=>aK P l d (λc b=>zX C E λi=>zX F z1 λm=>c= .tuple #[i,m]/\fj n a.dst [0,0] (.tuple #[i,m]) λn=>e n b) o
 | .mapEntry _ _ _=>Eg n a λl=>Mq P T (a.dst.getD 9999) 0 r λC E=>Mq P T (a.dst.getD 9999) 1 r λF z1=>aK P l d (λc b=>zX C E λi=>zX F z1 λm=>c= .tuple #[i,m]/\fj n a.dst [0,0] (.tuple #[i,m]) λn=>e n b) o
 | .typeAssert _ _ k true=>Eg n a λl=>zT T k λs=>match s with
  |⟨j,_,t,_,_,_,_,_⟩=>aK P l d (λc b=>zX j t λi=>∃m,c= .tuple #[i,.bool m]/\fj n a.dst [0,0] (.tuple #[i,.bool m]) λn=>e n b) o
 | .call y=>match y.callee with
  | .value (.func g)=>zA n y.args.toList λi=>PC P g i.toArray d (λc b=>Mp P T q X a.type a.dst λg k=>c=k/\fj n a.dst g k λn=>e n b) z
  | .value v=>zE n v λ_ v=>zA n y.args.toList λi=>∃g J K,v= .func (.func g) J K/\enters P g=true/\PC P g (J++i.toArray++K) d (λc b=>Mp P T q X a.type a.dst λg k=>c=k/\fj n a.dst g k λn=>e n b) z
  | .invoke v x=>zE n v λ_ v=>zA n y.args.toList λi=>∃g L,(∀d,(callMethod v x i.toArray).run P d= .ok (.enter g L) d)/\PC P g L d (λc b=>Mp P T q X a.type a.dst λg k=>c=k/\fj n a.dst g k λn=>e n b) z
  |_=>Hl T a (Eg n a λl=>aK P l d (λc b=>Mp P T q X a.type a.dst λg k=>c=k/\fj n a.dst g k λn=>e n b) o)
   (NO T n a (λg c=>fj n a.dst g c λn=>e n d) (Eg n a λl=>aK P l d (λc b=>fj n a.dst [1] c λn=>e n b) o))
 |_=>Hl T a (Eg n a λl=>aK P l d (λc b=>Mp P T q X a.type a.dst λg k=>c=k/\fj n a.dst g k λn=>e n b) o)
   (NO T n a (λg c=>fj n a.dst g c λn=>e n d) (Eg n a λl=>aK P l d (λc b=>fj n a.dst [1] c λn=>e n b) o))
abbrev XR(n:List Oper)(P:Nat)(a:Nat->Prop):Prop:=Ef n P λb=>match b.dst with
 |some c=>a c
 |none=>False
abbrev Hm(e:List Oper)(f:Oper)(P:ep)(a n:ep->Prop):Prop:=match f.guard with
 |none=>a P
 |some (g,c)=>XR e g λb=>zL P b λh i=>match i with
  | .bool d=>match Uy 2 h with
   |true=>match c with
    |true=>match d with
     |true=>a ((b,[2],.bool true)::P)
     |false=>n ((b,[2],.bool false)::P)
    |false=>match d with
     |true=>n ((b,[2],.bool true)::P)
     |false=>a ((b,[2],.bool false)::P)
   |false=>match c with
    |true=>al d (a ((b,[2],.bool true)::P)) (n ((b,[2],.bool false)::P))
    |false=>al d (n ((b,[2],.bool true)::P)) (a ((b,[2],.bool false)::P))
  | .tuple _=>n P
  |_=>False
abbrev ZO(b:List Oper)(f:Value->World->Prop)(g:List PanicEntry->World->Prop)(h:List Oper):(ep->World->Prop)->ep->World->Prop:=
 List.rec (motive:=λ_=>(ep->World->Prop)->ep->World->Prop) (λc n a=>c n a)
  (λd _ e c n a=>Hm b d n (λn=>QL P T q X b f g d (λn a=>e c n a) n a) (λn=>fj n d.dst [0] undef λn=>e c n a)) h
abbrev zKd(c:Oper)(n:Nat->Prop):Prop:=match c.op with
 | .move _=>n 0
 | .assign _=>n 0
 | .pick .. =>n 0
 | .build .. =>n 0
 | .binOp .. =>n 0
 | .unOp .. =>n 0
 | .indexAddr .. =>n 0
 | .slice .. =>n 0
 | .nilCheck _=>n 0
 | .fieldAddr .. =>n 0
 | .field .. =>n 0
 | .index .. =>n 0
 | .extract .. =>n 0
 | .typeAssert .. =>n 0
 | .convert d e _=>wm T d λP=>wm T e λa=>match P,a with
  |0,0=>n 0
  |_,_=>n 2
 | .load .. =>n 1
 | .lookup .. =>n 1
 | .call b=>match b.callee with
  | .builtin a=>match a with
   | .len=>Ef b.argTypes.toList 0 λf=>wm T f λP=>match P with
    |5=>n 1
    |_=>n 0
   | .cap=>n 0
   | .max=>n 0
   | .min=>n 0
   |_=>n 2
  |_=>n 2
 |_=>n 2
abbrev XS:List Oper->(List Nat->Prop)->Prop
 |[],n=>n []
 |P::a,n=>zKd T P λb=>XS a λc=>n (b::c)
abbrev UB:List Edge->(List Nat->Prop)->Prop
 |[],n=>n []
 |e::P,n=>match e with
  |⟨a,b⟩=>match b with
   | .textOnly _=>UB P n
   | .gcOnly _=>UB P n
   |_=>UB P λc=>n (a::c)
abbrev VH:List Oper->(List (List Nat)->Prop)->Prop
 |[],n=>n []
 |P::a,n=>UB P.after.toList λb=>VH a λc=>n (b::c)
abbrev VI:List Nat->Bool
 |[]=>false
 |k::n=>match k with
  |2=>true
  |_=>VI n
abbrev VJ:List Nat->List Nat->Bool
 |[],_=>true
 |a::P,n=>match zm n a with
  |true=>VJ P n
  |false=>false
abbrev UC:List Nat:=[0,1,2,3,4,5,6,7,8,9,10,11,12,13,14,15,16,17,18,19,20,21,22,23,24,25,26,27,28,29,30,31,32,33,34,35,36,37,38,39,40,41,42,43,44,45,46,47,48,49,50,51,52,53,54,55,56,57,58,59,60,61,62,63]
abbrev uQ(n:List Nat):List Nat->List (List Nat)->List Nat
 |a::is,b::P=>match zm n a with
  |true=>uQ n is P
  |false=>match VJ b n with
   |true=>a::uQ n is P
   |false=>uQ n is P
 |_,_=>[]
abbrev XT:List Nat->Nat->Nat
 |[],_=>2
 |x::n,P=>match P with
  |0=>x
  |a+1=>XT n a
abbrev Si(n:List Nat):List Nat->Option Nat
 |[]=>none
 |P::a=>match XT n P with
  |2=>Si n a
  |_=>some P
abbrev Hn(n:Nat):List Nat->Option Nat
 |[]=>none
 |P::a=>match Nat.beq n P with
  |true=>Hn n a
  |false=>some P
abbrev Mr(a:List (List Nat))(b:Nat):List Oper->List Nat->(List Nat->Prop)->Prop
 |[],n,P=>P n
 |_::c,n,P=>match Hn b (uQ n UC a)with
  |some d=>Mr a b c (d::n) P
  |none=>P n
abbrev Sj(P n:List Nat):List Nat->Bool
 |[]=>true
 |a::b=>match zm n a with
  |true=>Sj P n b
  |false=>match XT P a with
   |2=>false
   |_=>Sj P n b
abbrev Sk(a:List (List Nat))(d:List Nat)(e:List Oper)(b:Nat)(n:List Nat)(P:Bool->Prop):Prop:=Mr a b e n λc=>match Hn b (uQ c UC a)with
 |some _=>P false
 |none=>match Sj d n c with
  |true=>P true
  |false=>P false
abbrev Wz:List Nat->List Nat->(List Nat->Prop)->Prop
 |[],n,P=>P n
 |a::b,n,P=>match zm n a with
  |true=>Wz b n P
  |false=>Wz b (a::n) P
abbrev XU(b:List (List Nat))(e:List Oper)(c:Nat)(n:List Nat)(P:Option (List Nat))(a:Option (List Nat)->Prop):Prop:=match P with
 |none=>a none
 |some P=>Mr b c e n λd=>match Hn c (uQ d UC b)with
  |some _=>a none
  |none=>Wz d P λP=>a (some P)
abbrev ZP(a:List Nat):(Nat->Prop)->Prop:=
 List.rec (motive:=λ_=>(Nat->Prop)->Prop) (λ_=>True) (λP b c n=>match b with
  |[]=>n P
  |_::_=>n P/\c n) a
abbrev zIn(n:Option (List Nat))(P:Nat):Bool:=match n with
 |none=>true
 |some n=>zm n P
abbrev rC(n:Value)(P:World):Prop:=∀(_:cm) (_:cW),R (.panicked [{v:=n,recovered:=false}]) P
abbrev rD(n:List PanicEntry)(P:World):Prop:=∀(_:cm) (_:cW),R (.panicked n) P
abbrev UD(b:List Oper)(a:Oper)(o:Nat)(d:Bool)(l:Nat->Prop)(e:ep->Prop)(n:ep)(c:World):Prop:=
 match a.op with
 | .load p i=>match d with
  |true=>zE n i λ_ i=>match i with
   | .pointer (some ⟨m,of,_⟩)=>¬l m/\Sg P T q X p (a.dst.getD 9999) m of c λg j=>fj n a.dst g j λn=>e n
   |_=>False
  |false=>QL P T q X b (rC R) (rD R) a (λn _=>e n) n c
 | .indexAddr .. =>QL P T q X b (rC R) (rD R) a (λn _=>e n) n c
 | .slice .. =>QL P T q X b (rC R) (rD R) a (λn _=>e n) n c
 | .nilCheck .. =>QL P T q X b (rC R) (rD R) a (λn _=>e n) n c
 | .index .. =>QL P T q X b (rC R) (rD R) a (λn _=>e n) n c
 |_=>Hl T a (Eg n a λk=>Mp P T q X a.type a.dst λg h=>(match o with
   |0=>∀f,k.run P f= .ok h f
   |_=>match d with
    |true=>∀f,aj l c f->k.run P f= .ok h f
    |false=>k.run P c= .ok h c)/\fj n a.dst g h λn=>e n)
  (NO T n a (λg j=>fj n a.dst g j λn=>e n) False)
abbrev WA(b:List Oper)(m:List (List Nat))(k:List Nat)(p:List Oper)(h:Bool)(i:Nat->Prop)(r:ep->World->Prop)(j:List Oper):List Nat->Option (List Nat)->ep->World->Prop:=
 List.rec (motive:=λ_=>List Nat->Option (List Nat)->ep->World->Prop) (λ_ _ a d=>r a d) (λ_ _ g n e a d=>match uQ n UC m with
  |[]=>r a d
  |s=>match Si k s with
   |some c=>Ef b c λf=>(λo=>Hm b f a o (λa=>fj a f.dst [0] undef λa=>g (c::n) e a d)) (match h with
    |false=>λa=>UD P T R q X b f (XT k c) false i (λa=>g (c::n) e a d) a d
    |true=>match XT k c with
     |0=>λa=>UD P T R q X b f 0 false i (λa=>g (c::n) e a d) a d
     |_=>λa=>Sk m k p c n λt=>match t with
      |true=>UD P T R q X b f 1 false i (λa=>g (c::n) e a d) a d
      |false=>XU m p c n e λe=>UD P T R q X b f 1 true i (λa=>g (c::n) e a d) a d)
   |none=>ZP s λc=>Ef b c λf=>Hm b f a (λa=>QL P T q X b (rC R) (rD R) f (λa l=>match h with
     |false=>g (c::n) e a l
     |true=>match zIn e c with
      |true=>aj i d l/\g (c::n) e a l
      |false=>g (c::n) e a l) a d) (λa=>fj a f.dst [0] undef λa=>g (c::n) e a d)) j
abbrev X_(c:List Oper)(i:List Oper):(ep->Prop)->ep->World->Prop:=
 List.rec (motive:=λ_=>(ep->Prop)->ep->World->Prop) (λd n _=>d n) (λa _ e d n b=>Hm c a n (λn=>match a.op with
  | .load .. =>QL P T q X c (rC R) (rD R) a (λn _=>e d n b) n b
  | .indexAddr .. =>QL P T q X c (rC R) (rD R) a (λn _=>e d n b) n b
  | .slice .. =>QL P T q X c (rC R) (rD R) a (λn _=>e d n b) n b
  | .nilCheck .. =>QL P T q X c (rC R) (rD R) a (λn _=>e d n b) n b
  | .index .. =>QL P T q X c (rC R) (rD R) a (λn _=>e d n b) n b
  |_=>Hl T a (Eg n a λj=>Mp P T q X a.type a.dst λf g=>(∀h,j.run P (b.drewN h)= .ok g (b.drewN h))/\fj n a.dst f g λn=>e d n b)
   (NO T n a (λf k=>fj n a.dst f k λn=>e d n b) False)) (λn=>fj n a.dst [0] undef λn=>e d n b)) i
abbrev Ho:Code->Option Nat
 | .region id _ _=>some id
 | .seq P a=>match Ho P with
  |some b=>some b
  |none=>Ho a
 | .cond _ P a=>match Ho P with
  |some b=>some b
  |none=>Ho a
 | .block _ n=>Ho n
 | .loop n=>Ho n
 | .scope n=>Ho n
 |_=>none
abbrev WB:List Oper->List Nat->List Nat
 |[],n=>n
 |a::P,n=>match a.dst with
  |some b=>b::WB P n
  |none=>WB P n
abbrev UE:Code->List Nat->List Nat
 | .region _ a _,n=>WB a.toList n
 | .seq b c,n=>UE b (UE c n)
 | .cond _ b c,n=>UE b (UE c n)
 | .block _ P,n=>UE P n
 | .loop P,n=>UE P n
 | .scope P,n=>UE P n
 |_,n=>n
abbrev UF(P:List Nat):ep->(ep->Prop)->Prop
 |[],n=>n []
 |(a,c,d)::b,n=>match zm P a with
  |true=>UF P b n
  |false=>UF P b λe=>n ((a,c,d)::e)
abbrev Sl(P:List (Nat×List (Nat×Value)))(a:Option Nat):Option (List (Nat×Value)):=match a with
 |none=>none
 |some n=>match P with
  |[]=>none
  |(b,c)::d=>match Nat.beq b n with
   |true=>some c
   |false=>Sl d (some n)
abbrev TN:List (Nat×Value)->List Value
 |[]=>[]
 |(_,n)::P=>n::TN P
abbrev Sm:List Value->Type->Type
 |[],n=>n
 |z::P,n=>match z with
  | .int _ _=>Int->Sm P n
  | .bool _=>Bool->Sm P n
  | .string _=>ByteArray->Sm P n
  | .slice _ _ _=>Option Addr->Nat->Nat->Sm P n
  | .pointer (some _)=>Nat->Nat->Sm P n
  | .pointer none=>Option Addr->Sm P n
  | .map _=>Option Nat->Sm P n
  |_=>Value->Sm P n
abbrev Eh:(P:List Value)->Sm P (World->Prop)->List Value->World->Prop
 |[],n,_,a=>n a
 |z::P,n,b,a=>match b with
  |[]=>False
  |v::b=>match z,n with
   | .int k _,n=>match v with
    | .int _ c=>Eh P (n c) b a
    |_=>False
   | .bool _,n=>match v with
    | .bool d=>Eh P (n d) b a
    |_=>False
   | .string _,n=>match v with
    | .string e=>Eh P (n e) b a
    |_=>False
   | .slice _ _ _,n=>match v with
    | .slice f c g=>Eh P (n f c g) b a
    |_=>False
   | .pointer (some _),n=>match v with
    | .pointer (some ⟨d,h,_⟩)=>Eh P (n d h) b a
    |_=>False
   | .pointer none,n=>match v with
    | .pointer i=>Eh P (n i) b a
    |_=>False
   | .map _,n=>match v with
    | .map j=>Eh P (n j) b a
    |_=>False
   | .float _ _,n=>Eh P (n v) b a
   | .complex _ _ _,n=>Eh P (n v) b a
   | .chan _,n=>Eh P (n v) b a
   | .func _ _ _,n=>Eh P (n v) b a
   | .nilFunc,n=>Eh P (n v) b a
   | .iface _ _,n=>Eh P (n v) b a
   | .nilIface,n=>Eh P (n v) b a
   | .agg _,n=>Eh P (n v) b a
   | .tuple _,n=>Eh P (n v) b a
abbrev VK(n:List Value):(List Value->Prop)->Prop:=
 List.rec (motive:=λ_=>(List Value->Prop)->Prop) (λP=>P []) (λd _ a P=>match d with
  | .int e _=>∀b:Int,a λn=>P (.int e b::n)
  | .bool _=>∀c:Bool,a λn=>P (.bool c::n)
  | .string _=>∀f:ByteArray,a λn=>P (.string f::n)
  | .slice _ _ _=>∀(g:Option Addr) (b h:Nat),a λn=>P (.slice g b h::n)
  | .pointer (some _)=>∀(c i:Nat),a λn=>P (.pointer (some ⟨c,i,none⟩)::n)
  | .pointer none=>∀j:Option Addr,a λn=>P (.pointer j::n)
  | .map _=>∀k:Option Nat,a λn=>P (.map k::n)
  |_=>∀l:Value,a λn=>P (l::n)) n
abbrev NP(P:ep):List (Nat×Value)->(List Value->Prop)->Prop
 |[],n=>n []
 |(a,_)::b,n=>zL P a λ_ c=>NP P b λd=>n (c::d)
abbrev Sn:List (Nat×Value)->List Value->ep->(ep->Prop)->Prop
 |(a,_)::b,c::d,n,P=>Sn b d n λn=>P ((a,[0],c)::n)
 |_,_,n,P=>P n
abbrev zC(o:gE)(s:ep->World->Prop)(i:Code):(ep->World->Prop)->(Nat->ep->World->Prop)->ep->World->Prop:=
 Code.rec (motive:=λ_=>(ep->World->Prop)->(Nat->ep->World->Prop)->ep->World->Prop)
  (λc _ n a=>c n a)
  (λid b j c _ n a=>match j with
   |false=>ZO P T q X b.toList (λt a=>R (.panicked [{v:=t,recovered:=false}]) a) (λE a=>R (.panicked E) a) b.toList c n a
   |true=>XS T b.toList λp=>match VI p with
    |false=>X_ P T R q X b.toList b.toList (λn=>∀f,bw a f->c n f) n a
    |true=>VH b.toList λu=>match zm o.keeps id with
     |true=>∀f,bw a f->∃d:Nat->Prop,match zm o.Sp id with
      |true=>WA P T R q X b.toList u p b.toList true d c b.toList [] (some []) n f
      |false=>WA P T R q X b.toList u p b.toList true d c b.toList [] none n f
     |false=>∀f,bw a f->WA P T R q X b.toList u p b.toList false (λ_=>False) c b.toList [] none n f)
  (λx y g h c e n a=>match Sl o.Sq (Ho y)with
   |none=>g (λn a=>h c e n a) e n a
   |some d=>∃z:Sm (TN d) (World->Prop),g (λn a=>NP n d λk=>Eh (TN d) z k a) e n a/\
     UF (UE x []) n λv=>VK (TN d) λl=>∀(F:Nat->Value) (f:World),Eh (TN d) z l f->Sn d l v λn=>h c e n f)
  (λi x y g h c e n a=>zE n i λH t=>match t with
   | .bool A=>match Uy 2 H with
    |true=>match A with
     |true=>g c e n a
     |false=>h c e n a
    |false=>al A (g c e n a) (h c e n a)
   |_=>False)
  (λid _ m c e n a=>m c (λB n a=>match Nat.beq B id with
   |true=>c n a
   |false=>e B n a) n a)
  (λi m c e n a=>match Sl o.loops (Ho i)with
   |none=>False
   |some d=>∃w:Nat->Sm (TN d) (World->Prop),(∃r,NP n d λk=>Eh (TN d) (w r) k a)/\
     ∀r,UF (UE i []) n λv=>VK (TN d) λl=>∀(F:Nat->Value) (f:World),Eh (TN d) (w r) l f->
      Sn d l v λn=>m (λn a=>∃C,C<r/\NP n d λk=>Eh (TN d) (w C) k a) e n f)
  (λ_ _ _ _ _ _ _ _ _ _=>False)
  (λid _ e n a=>e id n a)
  (λ_ m c e n a=>m c e n a)
  (λ_ c _ n a=>c n a)
  (λ_ _ _ _ _=>False)
  (λ_ _ n a=>s n a)
  (λ_ _ _ _ _=>False) i
abbrev ZR(d:ep)(g:World)(n:List ResultVar):(List Value->Prop)->Prop:=
 List.rec (motive:=λ_=>(List Value->Prop)->Prop) (λa=>a []) (λh _ e a=>match h with
  | .tmp b=>zL d b λ_ c=>e λn=>a (c::n)
  | .cell f b=>zL d f λ_ i=>match i with
   | .pointer (some ⟨j,k,_⟩)=>Sg P T q X b (2000000+f) j k g λ_ c=>e λn=>a (c::n)
   |_=>False) n
abbrev Ya(b:List ResultVar)(c:ep)(n:World):Prop:=ZR P T q X c n b λa=>match a with
 |[d]=>R (.returned d) n
 |a=>R (.returned (.tuple a.toArray)) n
abbrev VL:List Nat->List Value->(ep->Prop)->Prop
 |P::is,a::b,n=>VL is b λc=>n ((P,[0],a)::c)
 |_,_,n=>n []
end
structure An where
 A:gE
 q:Bool
 X:List Nat
abbrev XI(P:Program)(a:Tr)(f:An)(e:List ResultVar)(g:Code)(n:List Value)(h:World)(b:Ending->World->Prop):Prop:=match f with
 |⟨i,c,d⟩=>VL idx n λj=>zC P a b c d i (Ya P a b c d e) g (Ya P a b c d e) (λ_ _ _=>False) j h

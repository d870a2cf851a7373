import Derived.Test.YtjgjkeponbeekaaGreatDoorYlLift
set_option linter.all false
namespace Go.au
open Go
structure Ty where
 k:Nat
 size:Nat
 zs:List Value
 el:Nat
 n:Nat
 fs:List (Nat×Nat×Nat)
 ts:List Nat
 ik:IntKind
inductive Tr where
 |n
 |b (l:Tr) (i:Nat) (v:Ty) (r:Tr)
abbrev Sj(n:Nat):List Nat->Bool
 |[]=>false
 |x::P=>match P with
  |[]=>Nat.beq x n
  |_::_=>false
abbrev dJ:=List (Nat×List Nat×Value)
abbrev zT:Tr->Nat->(Ty->Prop)->Prop
 | .n,_,_=>False
 | .b b a c d,n,P=>match Nat.beq n a with
  |true=>P c
  |false=>match Nat.ble n a with
   |true=>zT b n P
   |false=>zT d n P
abbrev zm:List Nat->Nat->Bool
 |[],_=>false
 |d::P,n=>match Nat.beq d n with
  |true=>true
  |false=>zm P n
abbrev Dk{n:Type}:List n->Nat->(n->Prop)->Prop
 |[],_,_=>False
 |x::a,b,P=>match b with
  |0=>P x
  |c+1=>Dk a c P
abbrev zg:List Nat->Nat->(Nat->Prop)->Prop
 |[],_,n=>n 0
 |x::P,a,n=>match a with
  |0=>n x
  |b+1=>zg P b n
abbrev zL:dJ->Nat->(List Nat->Value->Prop)->Prop
 |[],_,_=>False
 |(a,b,c)::d,n,P=>match Nat.beq a n with
  |true=>P b c
  |false=>zL d n P
abbrev zE(P:dJ)(a:Operand)(n:List Nat->Value->Prop):Prop:=match a with
 | .tmp b=>zL P b n
 | .const c=>n [2] c
 | .global d=>n [0] (.pointer (some ⟨d,0,none⟩))
 | .func e=>n [0] (.func (.func e) #[] #[])
abbrev zA(P:dJ):List Operand->(List Value->Prop)->Prop
 |[],n=>n []
 |x::a,n=>zE P x λ_ b=>zA P a λc=>n (b::c)
abbrev eE(P:dJ)(n:Option Tmp)(b:List Nat)(c:Value)(a:dJ->Prop):Prop:=match n with
 |some n=>a ((n,b,c)::P)
 |none=>a P
abbrev WU(n:Nat):Bool:=match n with
 |6=>true
 |7=>true
 |_=>false
abbrev WV(n:Bool)(P:List Nat)(a:Nat)(b:List Value)(c:Nat):Bool:=match n with
 |false=>false
 |true=>match WU a with
  |false=>false
  |true=>match b with
   |_::_::_::_=>match zm P c with
    |true=>false
    |false=>true
   |_=>false
abbrev z1(a:Value)(n:Value->Prop):Prop:=match a with
 | .int b _=>∃P:Int,n (.int b P)
 | .bool _=>∃c:Bool,n (.bool c)
 | .string _=>∃d:ByteArray,n (.string d)
 | .slice _ _ _=>∃(e:Option Addr) (P f:Nat),n (.slice e P f)
 | .pointer _=>∃g:Option Addr,n (.pointer g)
 | .map _=>∃h:Option Nat,n (.map h)
 |_=>∃i:Value,n i
abbrev Xr(n:List Value):(List Value->Prop)->Prop:=
 List.rec (motive:=λ_=>(List Value->Prop)->Prop) (λP=>P []) (λa _ b P=>z1 a λc=>b λn=>P (c::n)) n
abbrev zX(a:Nat)(n:List Value)(P:Value->Prop):Prop:=match WU a with
 |true=>Xr n λb=>P (.agg b.toArray)
 |false=>match n with
  |z::_=>z1 z P
  |[]=>False
abbrev idx:List Nat:=[0,1,2,3,4,5,6,7,8,9,10,11,12,13,14,15,16,17,18,19]
abbrev Ue(n:Nat)(P:Nat)(a:Nat->Prop):Prop:=match P with
 |0=>a n
 |_=>a (n+P)
abbrev Uf(a:World)(b c:Nat)(d:List Nat):List Value->Prop->Prop:=
 List.rec (motive:=λ_=>List Value->Prop->Prop) (λ_ n=>n) (λe _ f P n=>match P with
  |v::P=>(Ue c e λg=>a.cell? ⟨b,g,none⟩=some v/\f P n)
  |[]=>n) d
abbrev Ug(b c:Nat)(d:List Nat):List Value->World->(World->Prop)->Prop:=
 List.rec (motive:=λ_=>List Value->World->(World->Prop)->Prop) (λ_ n P=>P n) (λe _ f a n P=>match a with
  |v::a=>(Ue c e λg=>PS n ⟨b,g,none⟩ v λh=>f a h P)
  |[]=>P n) d
abbrev Wd(v:Value)(n:List Value->Prop):Prop:=match v with
 | .agg ⟨P⟩=>n P
 |v=>n [v]
abbrev Tm:Nat->List Value->(List Value->Prop)->Prop
 |0,_,P=>P []
 |n+1,[],P=>P []
 |n+1,a::b,P=>Tm n b λc=>P (a::c)
abbrev Tn:Nat->List Value->(List Value->Prop)->Prop
 |0,a,P=>P a
 |n+1,[],P=>P []
 |n+1,_::b,P=>Tn n b P
abbrev Sk:Nat->List Value->List Value->(List Value->Prop)->Prop
 |0,a,[],P=>P a
 |0,[],_::_,P=>P []
 |0,_::b,c::cs,P=>Sk 0 b cs λa=>P (c::a)
 |n+1,[],_,P=>P []
 |n+1,d::b,cs,P=>Sk n b cs λa=>P (d::a)
abbrev Vs:List Value->List Value->(List Value->Prop)->Prop
 |[],n,P=>P n
 |x::a,n,P=>Vs a n λn=>P (x::n)
abbrev Vt:Nat->List Value->(List Value->Prop)->Prop
 |0,_,P=>P []
 |n+1,[],P=>P []
 |n+1,a::b,P=>Vt n (a::b) λc=>Vs (a::b) c P
section
variable (P:Program) (T:Tr) (R:Ending->World->Prop) (q:Bool) (X:List Nat)
abbrev Xs(n d:Nat)(a:Nat->Value->Prop):Prop:=zT T n λe=>match e with
 |⟨b,_,c,_,_,_,_,_⟩=>match WV q X b c d with
  |true=>uc (dG P n) λf=>a 1 f
  |false=>zX b c (a 0)
abbrev XS(b:Nat)(a:List Nat):List Nat->(List Nat->List Value->Prop)->Prop:=
 List.rec (motive:=λ_=>List Nat->(List Nat->List Value->Prop)->Prop) (λ_ n=>n [] []) (λc _ d is n=>match is with
  |e::is=>Xs P T q X c (1000000+b*100+e) λf g=>d is λh a=>n (f::h) (g::a)
  |[]=>n [] []) a
abbrev KQ(n:Nat)(a:Option Tmp)(b:List Nat->Value->Prop):Prop:=zT T n λc=>match c with
 |⟨d,_,_,_,_,_,e,_⟩=>match d with
  |10=>XS P T q X (a.getD 9999) e idx λf g=>b f (.tuple g.toArray)
  |_=>Xs P T q X n (a.getD 9999) λh i=>b [h] i
abbrev PZ(a:dJ)(b:List (Nat×Nat×Nat)):List (Nat×Operand)->List Value->(List Value->Prop)->Prop
 |[],n,P=>P n
 |(c,d)::e,n,P=>zE a d λ_ f=>Wd f λcs=>Dk b c λg=>match g with
  |(h,_,_)=>Sk h n cs λn=>PZ a b e n P
abbrev Mo(a:dJ)(b:Nat):List (Nat×Operand)->List Value->(List Value->Prop)->Prop
 |[],n,P=>P n
 |(c,d)::e,n,P=>zE a d λ_ f=>Wd f λcs=>Sk (c*b) n cs λn=>Mo a b e n P
abbrev Sl(b:Bool)(c:IntKind):Int->List Value->(Value->Prop)->Prop
 |n,[],P=>P (.int c n)
 |n,e::d,P=>match e with
  | .int _ a=>match b with
   |true=>Sl b c (if a>n then a else n) d P
   |false=>Sl b c (if a<n then a else n) d P
  |_=>False
abbrev To(n:Operand):Bool:=match n with
 | .const _=>true
 |_=>false
abbrev Mp(d:dJ)(p:Oper)(n:List Nat->Value->Prop)(no:Prop):Prop:=match p.op with
 | .move e=>zE d e n
 | .assign e=>zE d e n
 | .pick c i g=>zE d c λ_ f=>match f with
  | .bool true=>zE d i n
  | .bool false=>zE d g n
  |_=>False
 | .binOp l j e h _=>zE d e λ_ i=>zE d h λ_ g=>match i,g with
  | .int a P,.int _ b=>match l with
   | .add=>n [0] (.int a (IntKind.wrap a (P+b)))
   | .sub=>n [0] (.int a (IntKind.wrap a (P-b)))
   | .mul=>n [0] (.int a (IntKind.wrap a (P*b)))
   | .quo=>match To h with
    |true=>n [0] (.int a (IntKind.wrap a (Int.tdiv P b)))
    |false=>no
   | .rem=>match To h with
    |true=>n [0] (.int a (Int.tmod P b))
    |false=>no
   | .shl=>match To h with
    |true=>n [0] (.int a (KR a P b))
    |false=>no
   | .shr=>match To h with
    |true=>n [0] (.int a (jE a P b))
    |false=>no
   | .and=>n [0] (.int a (FN a P b))
   | .or=>n [0] (.int a (PH a P b))
   | .xor=>n [0] (.int a (qj a P b))
   | .andNot=>n [0] (.int a (vj a P b))
   | .eql=>n [0] (.bool (P==b))
   | .neq=>n [0] (.bool (P !=b))
   | .lss=>n [0] (.bool (decide (P<b)))
   | .leq=>n [0] (.bool (decide (P<=b)))
   | .gtr=>n [0] (.bool (decide (P>b)))
   | .geq=>n [0] (.bool (decide (P>=b)))
  | .string P,.string b=>match l with
   | .eql=>n [0] (.bool (ByteArray.toList P==ByteArray.toList b))
   | .neq=>n [0] (.bool (!(ByteArray.toList P==ByteArray.toList b)))
   | .lss=>n [0] (.bool (Op.bytesLess (ByteArray.toList P) (ByteArray.toList b)))
   | .leq=>n [0] (.bool (Op.bytesLess (ByteArray.toList P) (ByteArray.toList b)||ByteArray.toList P==ByteArray.toList b))
   | .gtr=>n [0] (.bool (!(Op.bytesLess (ByteArray.toList P) (ByteArray.toList b)||ByteArray.toList P==ByteArray.toList b)))
   | .geq=>n [0] (.bool (!(Op.bytesLess (ByteArray.toList P) (ByteArray.toList b))))
   |_=>no
  | .bool P,.bool b=>match l with
   | .eql=>n [0] (.bool (P==b))
   | .neq=>n [0] (.bool (!(P==b)))
   |_=>no
  |_,_=>no
 | .unOp x _ e=>zE d e λq f=>match x,f with
  | .not,.bool g=>match q with
   |2::_=>match g with
    |true=>n [2] (.bool false)
    |false=>n [2] (.bool true)
   |_=>n [0] (.bool (!g))
  | .neg,.int a P=>n [0] (.int a (IntKind.wrap a (0-P)))
  |_,_=>no
 | .convert u y e=>zT T u λi=>zT T y λg=>match i,g with
  |⟨0,_,_,_,_,_,_,_⟩,⟨0,_,_,_,_,_,_,a⟩=>zE d e λ_ f=>match f with
   | .int _ P=>n [0] (.int a (IntKind.wrap a P))
   |_=>False
  |_,_=>no
 | .field j e o=>zE d e λ_ f=>match f with
  | .agg cs=>zT T j λh=>match h with
   |⟨_,_,_,_,_,r,_,_⟩=>Dk r o λs=>match s with
    |(p,t,z)=>Tn p cs.toList λk=>match z with
     |0=>match k with
      |c::_=>n [0] c
      |[]=>False
     |_=>Tm t k λk=>n [0] (.agg k.toArray)
  |_=>False
 | .build j m=>zT T j λh=>match h with
  |⟨_,_,A,_,_,r,_,_⟩=>PZ d r m.toList A λk=>n [0] (.agg k.toArray)
 | .extract e o=>zE d e λq f=>match f with
  | .tuple cs=>Dk cs.toList o λc=>zg q o λq=>n [q] c
  |_=>False
 | .makeInterface j e=>zE d e λ_ f=>n [0] (.iface j f)
 | .makeFunc s i c=>zA d i.toList λi=>zA d c.toList λc=>n [0] (.func s i.toArray c.toArray)
 | .fieldAddr j e o=>zE d e λ_ f=>match f with
  | .pointer (some ⟨g,p,_⟩)=>zT T j λh=>match h with
   |⟨_,_,_,_,_,r,_,_⟩=>Dk r o λs=>match s with
    |(t,_,_)=>Ue p t λB=>n [0] (.pointer (some ⟨g,B,none⟩))
  |_=>False
 | .call c=>match c.callee with
  | .builtin g=>zA d c.args.toList λk=>match g,k with
   | .len,.slice _ t _::_=>n [0] (.int .i64 ((t:Nat):Int))
   | .len,.string u::_=>n [0] (.int .i64 ((ByteArray.size u:Nat):Int))
   | .max,.int a v::w=>Sl true a v w (n [0])
   | .min,.int a v::w=>Sl false a v w (n [0])
   |_,_=>no
  |_=>no
 |_=>no
abbrev Uh(a:dJ)(n:Option Operand)(P:Option Value->Prop):Prop:=match n with
 |none=>P none
 |some n=>zE a n λ_ b=>P (some b)
abbrev Dp(a:dJ)(f:Oper)(P:Sem Value->Prop):Prop:=match f.op with
 | .lookup b n e j=>zE a n λ_ n=>zE a e λ_ e=>P (Instr.lookup b n e j)
 | .makeSlice b d c=>zE a d λ_ d=>zE a c λ_ c=>P (Instr.makeSlice b d c)
 | .convert k p n=>zE a n λ_ n=>P (convert k p n)
 | .range b n=>zE a n λ_ n=>P (Instr.range b n)
 | .next g k=>zE a g λ_ g=>P (Instr.next g k f.type)
 | .entry g=>zE a g λ_ g=>P (Instr.entry g)
 | .mapEntry b l e=>zE a l λ_ l=>zE a e λ_ e=>P (Instr.mapEntry b l e)
 | .typeAssert n b q j=>zE a n λ_ n=>P (Instr.typeAssert n b q j)
 | .panic n=>zE a n λ_ n=>P (Instr.panic n)
 | .index b n e=>zE a n λ_ n=>zE a e λ_ e=>P (Instr.index b n e)
 | .binOp h b n m _=>zE a n λ_ o=>zE a m λ_ i=>P (do eqGuard h b n m o i;binOp h b o i)
 | .call c=>match c.callee with
  | .builtin i=>zA a c.args.toList λd=>match i with
   | .append=>P (Builtin.append_ c.argTypes f.type d.toArray)
   | .cap=>P (Builtin.cap_ c.argTypes f.type d.toArray)
   | .clear=>P (Builtin.clear_ c.argTypes f.type d.toArray)
   | .copy=>P (Builtin.copy_ c.argTypes f.type d.toArray)
   | .delete=>P (Builtin.delete_ c.argTypes f.type d.toArray)
   | .len=>P (Builtin.len_ c.argTypes f.type d.toArray)
   | .max=>P (Builtin.max_ c.argTypes f.type d.toArray)
   | .min=>P (Builtin.min_ c.argTypes f.type d.toArray)
   | .panic=>match d with
    |v::_=>P (Instr.panic v)
    |[]=>False
   |_=>False
  |_=>False
 |_=>False
abbrev vk(n:Nat)(P:Nat->Prop):Prop:=zT T n λa=>match a with
 |⟨b,_,_,_,_,_,_,_⟩=>P b
abbrev Gm(e:Oper)(n P:Prop):Prop:=match e.op with
 | .lookup .. =>n
 | .next .. =>n
 | .entry _=>n
 | .mapEntry .. =>n
 | .makeSlice .. =>n
 | .convert f g _=>vk T f λa=>vk T g λd=>match a,d with
  |0,0=>P
  |_,_=>n
 | .binOp h c _ b _=>match h with
  | .quo=>match To b with
   |true=>P
   |false=>n
  | .rem=>match To b with
   |true=>P
   |false=>n
  | .shl=>match To b with
   |true=>P
   |false=>n
  | .shr=>match To b with
   |true=>P
   |false=>n
  | .add=>vk T c λa=>match a with
   |0=>P
   |_=>n
  | .eql=>vk T c λa=>match a with
   |0=>P
   |1=>P
   |2=>P
   |_=>n
  | .neq=>vk T c λa=>match a with
   |0=>P
   |1=>P
   |2=>P
   |_=>n
  |_=>P
 | .call b=>match b.callee with
  | .builtin d=>match d with
   | .append=>n
   | .copy=>n
   | .cap=>n
   | .len=>Dk b.argTypes.toList 0 λc=>vk T c λa=>match a with
    |5=>n
    |_=>P
   |_=>P
  |_=>P
 |_=>P
abbrev P_(e i:Nat)(n a:Nat)(b:World)(c:List Nat->Value->Prop):Prop:=zT T e λj=>match j with
 |⟨f,_,d,_,_,_,_,_⟩=>match WV q X f d i with
  |true=>ig P e (.pointer (some ⟨n,a,none⟩)) b λk=>c [1] k
  |false=>match WU f with
   |true=>Xr d λg=>Uf b n a idx g (c [0] (.agg g.toArray))
   |false=>match d with
    |z::_=>z1 z λh=>b.cell? ⟨n,a,none⟩=some h/\c [0] h
    |[]=>False
abbrev Ui(h:dJ)(o:Nat)(p:Operand)(f g i:Option Operand)(a:Value->Prop):Prop:=zE h p λ_ m=>Uh h f λf=>Uh h g λg=>Uh h i λi=>zT T o λj=>match j with
 |⟨2,_,_,_,_,_,_,_⟩=>match m with
  | .string c=>match f,g with
   |none,none=>a (.string (c.extract 0 c.size))
   |some (.int _ n),none=>(0:Int)<=n/\n<=((c.size:Nat):Int)/\a (.string (c.extract n.toNat c.size))
   |none,some (.int _ P)=>(0:Int)<=P/\P<=((c.size:Nat):Int)/\a (.string (c.extract 0 P.toNat))
   |some (.int _ n),some (.int _ P)=>(0:Int)<=n/\n<=P/\P<=((c.size:Nat):Int)/\a (.string (c.extract n.toNat P.toNat))
   |_,_=>False
  |_=>False
 |⟨_,_,_,q,_,_,_,_⟩=>match m with
  | .slice e k b=>zT T q λj=>match j with
   |⟨_,l,_,_,_,_,_,_⟩=>match i with
    |none=>match f,g with
     |none,none=>a (.slice e k b)
     |some (.int _ n),none=>(0:Int)<=n/\n<=((k:Nat):Int)/\a (.slice (cK e n.toNat b l) (k-n.toNat) (b-n.toNat))
     |none,some (.int _ P)=>(0:Int)<=P/\P<=((b:Nat):Int)/\a (.slice e P.toNat b)
     |some (.int _ n),some (.int _ P)=>(0:Int)<=n/\n<=P/\P<=((b:Nat):Int)/\a (.slice (cK e n.toNat b l) (P.toNat-n.toNat) (b-n.toNat))
     |_,_=>False
    |some (.int _ d)=>match f,g with
     |none,some (.int _ P)=>(0:Int)<=P/\P<=d/\d<=((b:Nat):Int)/\a (.slice e P.toNat d.toNat)
     |some (.int _ n),some (.int _ P)=>(0:Int)<=n/\n<=P/\P<=d/\d<=((b:Nat):Int)/\a (.slice (cK e n.toNat d.toNat l) (P.toNat-n.toNat) (d.toNat-n.toNat))
     |_,_=>False
    |_=>False
  |_=>False
abbrev Qa(n:Nat)(P:Int)(a:Nat)(b:Nat->Prop):Prop:=match a with
 |1=>b (n+P.toNat)
 |_=>b (n+P.toNat*a)
abbrev Uj(f:dJ)(i:Nat)(j n:Operand)(g:Value->Prop):Prop:=zE f j λ_ k=>zE f n λ_ l=>zT T i λb=>match b,l with
 |⟨m,_,_,o,c,_,_,_⟩,.int _ n=>zT T o λb=>match b with
  |⟨_,h,_,_,_,_,_,_⟩=>match m,k with
   |3,.slice d p _=>∃P a,d=some ⟨P,a,none⟩/\(0:Int)<=n/\n<((p:Nat):Int)/\Qa a n h λe=>g (.pointer (some ⟨P,e,none⟩))
   |7,.pointer d=>∃P a,d=some ⟨P,a,none⟩/\(0:Int)<=n/\n<((c:Nat):Int)/\Qa a n h λe=>g (.pointer (some ⟨P,e,none⟩))
   |_,_=>False
 |_,_=>False
abbrev WW(b:dJ)(c:Operand)(n:Value->Prop):Prop:=zE b c λ_ d=>match d with
 | .pointer e=>∃P a,e=some ⟨P,a,none⟩/\n (.pointer (some ⟨P,a,none⟩))
 | .func f g h=>n (.func f g h)
 |_=>False
abbrev Vu(P:dJ)(b n:Operand)(c:Value->Prop):Prop:=zE P b λ_ d=>zE P n λ_ e=>match d,e with
 | .string f,.int _ n=>(0:Int)<=n/\∃a,f[n.toNat]? =some a/\c (.int .u8 ((a.toNat:Nat):Int))
 |_,_=>False
abbrev KS(P:Program)(T:Tr)(a b:Nat):List Oper->(Nat->List Value->Prop)->Prop
 |[],n=>n 8 [undef]
 |d::c,n=>match d.op with
  | .extract (.tmp e) f=>match Nat.beq e a with
   |true=>match Nat.beq f b with
    |true=>zT T d.type λg=>match g with
     |⟨h,_,i,_,_,_,_,_⟩=>n h i
    |false=>KS P T a b c n
   |false=>KS P T a b c n
  |_=>KS P T a b c n
abbrev ON(r:List Oper)(o:Value->World->Prop)(z:List PanicEntry->World->Prop)(a:Oper)(e:dJ->World->Prop)(n:dJ)(d:World):Prop:=
 match a.op with
 | .load h i=>zE n i λ_ i=>match i with
  | .pointer (some ⟨m,of,_⟩)=>P_ P T q X h (a.dst.getD 9999) m of d λg c=>eE n a.dst g c λn=>e n d
  |_=>False
 | .store h i f=>zE n i λ_ i=>zE n f λg f=>match i with
  | .pointer (some ⟨m,of,_⟩)=>zT T h λs=>match s with
   |⟨j,_,t,_,_,_,_,_⟩=>match WV q [] j t 0 with
    |true=>lr P h (.pointer (some ⟨m,of,none⟩)) f d λb=>eE n a.dst [0] undef λn=>e n b
    |false=>match Sj 1 g with
     |true=>lr P h (.pointer (some ⟨m,of,none⟩)) f d λb=>eE n a.dst [0] undef λn=>e n b
     |false=>Wd f λcs=>Ug m of idx cs d λb=>eE n a.dst [0] undef λn=>e n b
  |_=>False
 | .indexAddr h f w=>Uj T n h f w λc=>eE n a.dst [0] c λn=>e n d
 | .slice h f M N O=>Ui T n h f M N O λc=>eE n a.dst [0] c λn=>e n d
 | .nilCheck f=>WW n f λc=>eE n a.dst [0] c λn=>e n d
 | .index h f w=>Vu n f w λc=>eE n a.dst [0] c λn=>e n d
 | .alloc h=>zT T h λs=>match s with
  |⟨_,_,t,_,_,_,_,_⟩=>PA d (.cells t.toArray h) λb=>eE n a.dst [0] (.pointer (some ⟨d.heap.size,0,none⟩)) λn=>e n b
 | .box h f=>zE n f λg c=>match Sj 1 g with
  |true=>PA d (.cells (Value.cells c) h) λb=>eE n a.dst [0] (.pointer (some ⟨d.heap.size,0,none⟩)) λn=>e n b
  |false=>Wd c λcs=>PA d (.cells cs.toArray h) λb=>eE n a.dst [0] (.pointer (some ⟨d.heap.size,0,none⟩)) λn=>e n b
 | .buildSlice h A u=>zT T h λs=>match s with
  |⟨_,_,_,H,_,_,_,_⟩=>zT T H λs=>match s with
   |⟨_,Q,t,_,_,_,_,_⟩=>Vt A t λB=>Mo n Q u.toList B λB=>PA d (.cells B.toArray H) λb=>eE n a.dst [0] (.slice (some ⟨d.heap.size,0,none⟩) A A) λn=>e n b
 | .makeMap _ _=>PA d (.map #[] 0) λb=>eE n a.dst [0] (.map (some d.heap.size)) λn=>e n b
 | .mapUpdate h p j f=>zE n p λ_ p=>zE n j λ_ j=>zE n f λ_ f=>kN P (Instr.mapUpdate h p j f) d (λb=>eE n a.dst [0] undef λn=>e n b) o
 | .insert h p j f=>zE n p λ_ p=>zE n j λ_ j=>zE n f λ_ f=>kN P (Instr.mapUpdate h p j f) d (λb=>eE n a.dst [0] undef λn=>e n b) o
 | .entryStore h p j f=>zE n p λ_ p=>zE n j λ_ j=>zE n f λ_ f=>kN P (Instr.entryStore h p j f) d (λb=>eE n a.dst [0] undef λn=>e n b) o
 | .next S R=>Dp n a λl=>aG P l d (λc b=>(c= .tuple #[.bool false]/\eE n a.dst [2] (.tuple #[.bool false]) λn=>e n b)\/(match R with
  |true=>∃w I,c= .tuple #[.bool true,.int .i64 w,.int .i32 I]/\eE n a.dst [2,0,0] (.tuple #[.bool true,.int .i64 w,.int .i32 I]) λn=>e n b
  |false=>∃j f,c= .tuple #[.bool true,j,f]/\eE n a.dst [2,0,0] (.tuple #[.bool true,j,f]) λn=>e n b)) o
 | .entry _=>Dp n a λl=>KS P T (a.dst.getD 9999) 0 r λC E=>KS P T (a.dst.getD 9999) 1 r λF z1=>aG P l d (λc b=>zX C E λi=>zX F z1 λm=>c= .tuple #[i,m]/\eE n a.dst [0,0] (.tuple #[i,m]) λn=>e n b) o
 | .mapEntry _ _ _=>Dp n a λl=>KS P T (a.dst.getD 9999) 0 r λC E=>KS P T (a.dst.getD 9999) 1 r λF z1=>aG P l d (λc b=>zX C E λi=>zX F z1 λm=>c= .tuple #[i,m]/\eE n a.dst [0,0] (.tuple #[i,m]) λn=>e n b) o
 | .typeAssert _ _ k true=>Dp n a λl=>zT T k λs=>match s with
  |⟨j,_,t,_,_,_,_,_⟩=>aG P l d (λc b=>zX j t λi=>∃m,c= .tuple #[i,.bool m]/\eE n a.dst [0,0] (.tuple #[i,.bool m]) λn=>e n b) o
 | .call y=>match y.callee with
  | .value (.func g)=>zA n y.args.toList λi=>PC P g i.toArray d (λc b=>KQ P T q X a.type a.dst λg k=>c=k/\eE n a.dst g k λn=>e n b) z
  | .value v=>zE n v λ_ v=>zA n y.args.toList λi=>∃g J K,v= .func (.func g) J K/\enters P g=true/\PC P g (J++i.toArray++K) d (λc b=>KQ P T q X a.type a.dst λg k=>c=k/\eE n a.dst g k λn=>e n b) z
  | .invoke v x=>zE n v λ_ v=>zA n y.args.toList λi=>∃g L,(∀d,(callMethod v x i.toArray).run P d= .ok (.enter g L) d)/\PC P g L d (λc b=>KQ P T q X a.type a.dst λg k=>c=k/\eE n a.dst g k λn=>e n b) z
  |_=>Gm T a (Dp n a λl=>aG P l d (λc b=>KQ P T q X a.type a.dst λg k=>c=k/\eE n a.dst g k λn=>e n b) o)
   (Mp T n a (λg c=>eE n a.dst g c λn=>e n d) (Dp n a λl=>aG P l d (λc b=>eE n a.dst [1] c λn=>e n b) o))
 |_=>Gm T a (Dp n a λl=>aG P l d (λc b=>KQ P T q X a.type a.dst λg k=>c=k/\eE n a.dst g k λn=>e n b) o)
   (Mp T n a (λg c=>eE n a.dst g c λn=>e n d) (Dp n a λl=>aG P l d (λc b=>eE n a.dst [1] c λn=>e n b) o))
abbrev Vv(n:List Oper)(P:Nat)(a:Nat->Prop):Prop:=Dk n P λb=>match b.dst with
 |some c=>a c
 |none=>False
abbrev Gn(e:List Oper)(f:Oper)(P:dJ)(a n:dJ->Prop):Prop:=match f.guard with
 |none=>a P
 |some (g,c)=>Vv e g λb=>zL P b λh i=>match i with
  | .bool d=>match Sj 2 h with
   |true=>match c with
    |true=>match d with
     |true=>a ((b,[2],.bool true)::P)
     |false=>n ((b,[2],.bool false)::P)
    |false=>match d with
     |true=>n ((b,[2],.bool true)::P)
     |false=>a ((b,[2],.bool false)::P)
   |false=>match c with
    |true=>al d (a ((b,[2],.bool true)::P)) (n ((b,[2],.bool false)::P))
    |false=>al d (n ((b,[2],.bool true)::P)) (a ((b,[2],.bool false)::P))
  | .tuple _=>n P
  |_=>False
abbrev WX(b:List Oper)(f:Value->World->Prop)(g:List PanicEntry->World->Prop)(h:List Oper):(dJ->World->Prop)->dJ->World->Prop:=
 List.rec (motive:=λ_=>(dJ->World->Prop)->dJ->World->Prop) (λc n a=>c n a)
  (λd _ e c n a=>Gn b d n (λn=>ON P T q X b f g d (λn a=>e c n a) n a) (λn=>eE n d.dst [0] undef λn=>e c n a)) h
abbrev XT(c:Oper)(n:Nat->Prop):Prop:=match c.op with
 | .move _=>n 0
 | .assign _=>n 0
 | .pick .. =>n 0
 | .build .. =>n 0
 | .binOp .. =>n 0
 | .unOp .. =>n 0
 | .indexAddr .. =>n 0
 | .slice .. =>n 0
 | .nilCheck _=>n 0
 | .fieldAddr .. =>n 0
 | .field .. =>n 0
 | .index .. =>n 0
 | .extract .. =>n 0
 | .typeAssert .. =>n 0
 | .convert d e _=>vk T d λP=>vk T e λa=>match P,a with
  |0,0=>n 0
  |_,_=>n 2
 | .load .. =>n 1
 | .lookup .. =>n 1
 | .call b=>match b.callee with
  | .builtin a=>match a with
   | .len=>Dk b.argTypes.toList 0 λf=>vk T f λP=>match P with
    |5=>n 1
    |_=>n 0
   | .cap=>n 0
   | .max=>n 0
   | .min=>n 0
   |_=>n 2
  |_=>n 2
 |_=>n 2
abbrev Vw:List Oper->(List Nat->Prop)->Prop
 |[],n=>n []
 |P::a,n=>XT T P λb=>Vw a λc=>n (b::c)
abbrev Sm:List Edge->(List Nat->Prop)->Prop
 |[],n=>n []
 |e::P,n=>match e with
  |⟨a,b⟩=>match b with
   | .textOnly _=>Sm P n
   | .gcOnly _=>Sm P n
   |_=>Sm P λc=>n (a::c)
abbrev Tp:List Oper->(List (List Nat)->Prop)->Prop
 |[],n=>n []
 |P::a,n=>Sm P.after.toList λb=>Tp a λc=>n (b::c)
abbrev Tq:List Nat->Bool
 |[]=>false
 |k::n=>match k with
  |2=>true
  |_=>Tq n
abbrev Ts:List Nat->List Nat->Bool
 |[],_=>true
 |a::P,n=>match zm n a with
  |true=>Ts P n
  |false=>false
abbrev Sn:List Nat:=[0,1,2,3,4,5,6,7,8,9,10,11,12,13,14,15,16,17,18,19,20,21,22,23,24,25,26,27,28,29,30,31,32,33,34,35,36,37,38,39,40,41,42,43,44,45,46,47,48,49,50,51,52,53,54,55,56,57,58,59,60,61,62,63]
abbrev tU(n:List Nat):List Nat->List (List Nat)->List Nat
 |a::is,b::P=>match zm n a with
  |true=>tU n is P
  |false=>match Ts b n with
   |true=>a::tU n is P
   |false=>tU n is P
 |_,_=>[]
abbrev Vx:List Nat->Nat->Nat
 |[],_=>2
 |x::n,P=>match P with
  |0=>x
  |a+1=>Vx n a
abbrev Qb(n:List Nat):List Nat->Option Nat
 |[]=>none
 |P::a=>match Vx n P with
  |2=>Qb n a
  |_=>some P
abbrev Gp(n:Nat):List Nat->Option Nat
 |[]=>none
 |P::a=>match Nat.beq n P with
  |true=>Gp n a
  |false=>some P
abbrev KT(a:List (List Nat))(b:Nat):List Oper->List Nat->(List Nat->Prop)->Prop
 |[],n,P=>P n
 |_::c,n,P=>match Gp b (tU n Sn a)with
  |some d=>KT a b c (d::n) P
  |none=>P n
abbrev Qc(P n:List Nat):List Nat->Bool
 |[]=>true
 |a::b=>match zm n a with
  |true=>Qc P n b
  |false=>match Vx P a with
   |2=>false
   |_=>Qc P n b
abbrev Qd(a:List (List Nat))(d:List Nat)(e:List Oper)(b:Nat)(n:List Nat)(P:Bool->Prop):Prop:=KT a b e n λc=>match Gp b (tU c Sn a)with
 |some _=>P false
 |none=>match Qc d n c with
  |true=>P true
  |false=>P false
abbrev Uk:List Nat->List Nat->(List Nat->Prop)->Prop
 |[],n,P=>P n
 |a::b,n,P=>match zm n a with
  |true=>Uk b n P
  |false=>Uk b (a::n) P
abbrev Vy(b:List (List Nat))(e:List Oper)(c:Nat)(n:List Nat)(P:Option (List Nat))(a:Option (List Nat)->Prop):Prop:=match P with
 |none=>a none
 |some P=>KT b c e n λd=>match Gp c (tU d Sn b)with
  |some _=>a none
  |none=>Uk d P λP=>a (some P)
abbrev WY(a:List Nat):(Nat->Prop)->Prop:=
 List.rec (motive:=λ_=>(Nat->Prop)->Prop) (λ_=>True) (λP b c n=>match b with
  |[]=>n P
  |_::_=>n P/\c n) a
abbrev XU(n:Option (List Nat))(P:Nat):Bool:=match n with
 |none=>true
 |some n=>zm n P
abbrev qE(n:Value)(P:World):Prop:=∀(_:bN) (_:cz),R (.panicked [{v:=n,recovered:=false}]) P
abbrev qF(n:List PanicEntry)(P:World):Prop:=∀(_:bN) (_:cz),R (.panicked n) P
abbrev Sp(b:List Oper)(a:Oper)(o:Nat)(d:Bool)(l:Nat->Prop)(e:dJ->Prop)(n:dJ)(c:World):Prop:=
 match a.op with
 | .load p i=>match d with
  |true=>zE n i λ_ i=>match i with
   | .pointer (some ⟨m,of,_⟩)=>¬l m/\P_ P T q X p (a.dst.getD 9999) m of c λg j=>eE n a.dst g j λn=>e n
   |_=>False
  |false=>ON P T q X b (qE R) (qF R) a (λn _=>e n) n c
 | .indexAddr .. =>ON P T q X b (qE R) (qF R) a (λn _=>e n) n c
 | .slice .. =>ON P T q X b (qE R) (qF R) a (λn _=>e n) n c
 | .nilCheck .. =>ON P T q X b (qE R) (qF R) a (λn _=>e n) n c
 | .index .. =>ON P T q X b (qE R) (qF R) a (λn _=>e n) n c
 |_=>Gm T a (Dp n a λk=>KQ P T q X a.type a.dst λg h=>(match o with
   |0=>∀f,k.run P f= .ok h f
   |_=>match d with
    |true=>∀f,ak l c f->k.run P f= .ok h f
    |false=>k.run P c= .ok h c)/\eE n a.dst g h λn=>e n)
  (Mp T n a (λg j=>eE n a.dst g j λn=>e n) False)
abbrev Ul(b:List Oper)(m:List (List Nat))(k:List Nat)(p:List Oper)(h:Bool)(i:Nat->Prop)(r:dJ->World->Prop)(j:List Oper):List Nat->Option (List Nat)->dJ->World->Prop:=
 List.rec (motive:=λ_=>List Nat->Option (List Nat)->dJ->World->Prop) (λ_ _ a d=>r a d) (λ_ _ g n e a d=>match tU n Sn m with
  |[]=>r a d
  |s=>match Qb k s with
   |some c=>Dk b c λf=>(λo=>Gn b f a o (λa=>eE a f.dst [0] undef λa=>g (c::n) e a d)) (match h with
    |false=>λa=>Sp P T R q X b f (Vx k c) false i (λa=>g (c::n) e a d) a d
    |true=>match Vx k c with
     |0=>λa=>Sp P T R q X b f 0 false i (λa=>g (c::n) e a d) a d
     |_=>λa=>Qd m k p c n λt=>match t with
      |true=>Sp P T R q X b f 1 false i (λa=>g (c::n) e a d) a d
      |false=>Vy m p c n e λe=>Sp P T R q X b f 1 true i (λa=>g (c::n) e a d) a d)
   |none=>WY s λc=>Dk b c λf=>Gn b f a (λa=>ON P T q X b (qE R) (qF R) f (λa l=>match h with
     |false=>g (c::n) e a l
     |true=>match XU e c with
      |true=>ak i d l/\g (c::n) e a l
      |false=>g (c::n) e a l) a d) (λa=>eE a f.dst [0] undef λa=>g (c::n) e a d)) j
abbrev Vz(c:List Oper)(i:List Oper):(dJ->Prop)->dJ->World->Prop:=
 List.rec (motive:=λ_=>(dJ->Prop)->dJ->World->Prop) (λd n _=>d n) (λa _ e d n b=>Gn c a n (λn=>match a.op with
  | .load .. =>ON P T q X c (qE R) (qF R) a (λn _=>e d n b) n b
  | .indexAddr .. =>ON P T q X c (qE R) (qF R) a (λn _=>e d n b) n b
  | .slice .. =>ON P T q X c (qE R) (qF R) a (λn _=>e d n b) n b
  | .nilCheck .. =>ON P T q X c (qE R) (qF R) a (λn _=>e d n b) n b
  | .index .. =>ON P T q X c (qE R) (qF R) a (λn _=>e d n b) n b
  |_=>Gm T a (Dp n a λj=>KQ P T q X a.type a.dst λf g=>(∀h,j.run P (b.drewN h)= .ok g (b.drewN h))/\eE n a.dst f g λn=>e d n b)
   (Mp T n a (λf k=>eE n a.dst f k λn=>e d n b) False)) (λn=>eE n a.dst [0] undef λn=>e d n b)) i
abbrev Gq:Code->Option Nat
 | .region id _ _=>some id
 | .seq P a=>match Gq P with
  |some b=>some b
  |none=>Gq a
 | .cond _ P a=>match Gq P with
  |some b=>some b
  |none=>Gq a
 | .block _ n=>Gq n
 | .loop n=>Gq n
 | .scope n=>Gq n
 |_=>none
abbrev Um:List Oper->List Nat->List Nat
 |[],n=>n
 |a::P,n=>match a.dst with
  |some b=>b::Um P n
  |none=>Um P n
abbrev Sq:Code->List Nat->List Nat
 | .region _ a _,n=>Um a.toList n
 | .seq b c,n=>Sq b (Sq c n)
 | .cond _ b c,n=>Sq b (Sq c n)
 | .block _ P,n=>Sq P n
 | .loop P,n=>Sq P n
 | .scope P,n=>Sq P n
 |_,n=>n
abbrev Sr(P:List Nat):dJ->(dJ->Prop)->Prop
 |[],n=>n []
 |(a,c,d)::b,n=>match zm P a with
  |true=>Sr P b n
  |false=>Sr P b λe=>n ((a,c,d)::e)
abbrev Qe(P:List (Nat×List (Nat×Value)))(a:Option Nat):Option (List (Nat×Value)):=match a with
 |none=>none
 |some n=>match P with
  |[]=>none
  |(b,c)::d=>match Nat.beq b n with
   |true=>some c
   |false=>Qe d (some n)
abbrev RH:List (Nat×Value)->List Value
 |[]=>[]
 |(_,n)::P=>n::RH P
abbrev Qf:List Value->Type->Type
 |[],n=>n
 |z::P,n=>match z with
  | .int _ _=>Int->Qf P n
  | .bool _=>Bool->Qf P n
  | .string _=>ByteArray->Qf P n
  | .slice _ _ _=>Option Addr->Nat->Nat->Qf P n
  | .pointer (some _)=>Nat->Nat->Qf P n
  | .pointer none=>Option Addr->Qf P n
  | .map _=>Option Nat->Qf P n
  |_=>Value->Qf P n
abbrev Dq:(P:List Value)->Qf P (World->Prop)->List Value->World->Prop
 |[],n,_,a=>n a
 |z::P,n,b,a=>match b with
  |[]=>False
  |v::b=>match z,n with
   | .int k _,n=>match v with
    | .int _ c=>Dq P (n c) b a
    |_=>False
   | .bool _,n=>match v with
    | .bool d=>Dq P (n d) b a
    |_=>False
   | .string _,n=>match v with
    | .string e=>Dq P (n e) b a
    |_=>False
   | .slice _ _ _,n=>match v with
    | .slice f c g=>Dq P (n f c g) b a
    |_=>False
   | .pointer (some _),n=>match v with
    | .pointer (some ⟨d,h,_⟩)=>Dq P (n d h) b a
    |_=>False
   | .pointer none,n=>match v with
    | .pointer i=>Dq P (n i) b a
    |_=>False
   | .map _,n=>match v with
    | .map j=>Dq P (n j) b a
    |_=>False
   | .float _ _,n=>Dq P (n v) b a
   | .complex _ _ _,n=>Dq P (n v) b a
   | .chan _,n=>Dq P (n v) b a
   | .func _ _ _,n=>Dq P (n v) b a
   | .nilFunc,n=>Dq P (n v) b a
   | .iface _ _,n=>Dq P (n v) b a
   | .nilIface,n=>Dq P (n v) b a
   | .agg _,n=>Dq P (n v) b a
   | .tuple _,n=>Dq P (n v) b a
abbrev Tt(n:List Value):(List Value->Prop)->Prop:=
 List.rec (motive:=λ_=>(List Value->Prop)->Prop) (λP=>P []) (λd _ a P=>match d with
  | .int e _=>∀b:Int,a λn=>P (.int e b::n)
  | .bool _=>∀c:Bool,a λn=>P (.bool c::n)
  | .string _=>∀f:ByteArray,a λn=>P (.string f::n)
  | .slice _ _ _=>∀(g:Option Addr) (b h:Nat),a λn=>P (.slice g b h::n)
  | .pointer (some _)=>∀(c i:Nat),a λn=>P (.pointer (some ⟨c,i,none⟩)::n)
  | .pointer none=>∀j:Option Addr,a λn=>P (.pointer j::n)
  | .map _=>∀k:Option Nat,a λn=>P (.map k::n)
  |_=>∀l:Value,a λn=>P (l::n)) n
abbrev Mq(P:dJ):List (Nat×Value)->(List Value->Prop)->Prop
 |[],n=>n []
 |(a,_)::b,n=>zL P a λ_ c=>Mq P b λd=>n (c::d)
abbrev Qg:List (Nat×Value)->List Value->dJ->(dJ->Prop)->Prop
 |(a,_)::b,c::d,n,P=>Qg b d n λn=>P ((a,[0],c)::n)
 |_,_,n,P=>P n
abbrev zC(o:jW)(s:dJ->World->Prop)(i:Code):(dJ->World->Prop)->(Nat->dJ->World->Prop)->dJ->World->Prop:=
 Code.rec (motive:=λ_=>(dJ->World->Prop)->(Nat->dJ->World->Prop)->dJ->World->Prop)
  (λc _ n a=>c n a)
  (λid b j c _ n a=>match j with
   |false=>WX P T q X b.toList (λt a=>R (.panicked [{v:=t,recovered:=false}]) a) (λE a=>R (.panicked E) a) b.toList c n a
   |true=>Vw T b.toList λp=>match Tq p with
    |false=>Vz P T R q X b.toList b.toList (λn=>∀f,br a f->c n f) n a
    |true=>Tp b.toList λu=>match zm o.keeps id with
     |true=>∀f,br a f->∃d:Nat->Prop,match zm o.Mr id with
      |true=>Ul P T R q X b.toList u p b.toList true d c b.toList [] (some []) n f
      |false=>Ul P T R q X b.toList u p b.toList true d c b.toList [] none n f
     |false=>∀f,br a f->Ul P T R q X b.toList u p b.toList false (λ_=>False) c b.toList [] none n f)
  (λx y g h c e n a=>match Qe o.Qh (Gq y)with
   |none=>g (λn a=>h c e n a) e n a
   |some d=>∃z:Qf (RH d) (World->Prop),g (λn a=>Mq n d λk=>Dq (RH d) z k a) e n a/\
     Sr (Sq x []) n λv=>Tt (RH d) λl=>∀(F:Nat->Value) (f:World),Dq (RH d) z l f->Qg d l v λn=>h c e n f)
  (λi x y g h c e n a=>zE n i λH t=>match t with
   | .bool A=>match Sj 2 H with
    |true=>match A with
     |true=>g c e n a
     |false=>h c e n a
    |false=>al A (g c e n a) (h c e n a)
   |_=>False)
  (λid _ m c e n a=>m c (λB n a=>match Nat.beq B id with
   |true=>c n a
   |false=>e B n a) n a)
  (λi m c e n a=>match Qe o.loops (Gq i)with
   |none=>False
   |some d=>∃w:Nat->Qf (RH d) (World->Prop),(∃r,Mq n d λk=>Dq (RH d) (w r) k a)/\
     ∀r,Sr (Sq i []) n λv=>Tt (RH d) λl=>∀(F:Nat->Value) (f:World),Dq (RH d) (w r) l f->
      Qg d l v λn=>m (λn a=>∃C,C<r/\Mq n d λk=>Dq (RH d) (w C) k a) e n f)
  (λ_ _ _ _ _ _ _ _ _ _=>False)
  (λid _ e n a=>e id n a)
  (λ_ m c e n a=>m c e n a)
  (λ_ c _ n a=>c n a)
  (λ_ _ _ _ _=>False)
  (λ_ _ n a=>s n a)
  (λ_ _ _ _ _=>False) i
abbrev WZ(d:dJ)(g:World)(n:List ResultVar):(List Value->Prop)->Prop:=
 List.rec (motive:=λ_=>(List Value->Prop)->Prop) (λa=>a []) (λh _ e a=>match h with
  | .tmp b=>zL d b λ_ c=>e λn=>a (c::n)
  | .cell f b=>zL d f λ_ i=>match i with
   | .pointer (some ⟨j,k,_⟩)=>P_ P T q X b (2000000+f) j k g λ_ c=>e λn=>a (c::n)
   |_=>False) n
abbrev VA(b:List ResultVar)(c:dJ)(n:World):Prop:=WZ P T q X c n b λa=>match a with
 |[d]=>R (.returned d) n
 |a=>R (.returned (.tuple a.toArray)) n
abbrev Tu:List Nat->List Value->(dJ->Prop)->Prop
 |P::is,a::b,n=>Tu is b λc=>n ((P,[0],a)::c)
 |_,_,n=>n []
end
structure An where
 A:jW
 q:Bool
 X:List Nat
abbrev Vp(P:Program)(a:Tr)(f:An)(e:List ResultVar)(g:Code)(n:List Value)(h:World)(b:Ending->World->Prop):Prop:=match f with
 |⟨i,c,d⟩=>Tu idx n λj=>zC P a b c d i (VA P a b c d e) g (VA P a b c d e) (λ_ _ _=>False) j h

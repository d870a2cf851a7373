import Derived.Test.YtblabbpipmodgaaGreatDoorYqLift
set_option linter.all false
namespace Go.aw
open Go
structure Ty where
 k:Nat
 size:Nat
 zs:List Value
 el:Nat
 n:Nat
 fs:List (Nat×Nat×Nat)
 ts:List Nat
 ik:IntKind
inductive Tr where
 |n
 |b (l:Tr) (i:Nat) (v:Ty) (r:Tr)
abbrev PD(P:Nat):List Nat->Bool
 |[]=>false
 |x::a=>match a with
  |[]=>Nat.beq x P
  |_::_=>false
abbrev dz:=List (Nat×List Nat×Value)
abbrev zT:Tr->Nat->(Ty->Prop)->Prop
 | .n,_,_=>False
 | .b c b d e,P,a=>match Nat.beq P b with
  |true=>a d
  |false=>match Nat.ble P b with
   |true=>zT c P a
   |false=>zT e P a
abbrev zm:List Nat->Nat->Bool
 |[],_=>false
 |d::a,P=>match Nat.beq d P with
  |true=>true
  |false=>zm a P
abbrev BF{P:Type}:List P->Nat->(P->Prop)->Prop
 |[],_,_=>False
 |x::b,c,a=>match c with
  |0=>a x
  |d+1=>BF b d a
abbrev zg:List Nat->Nat->(Nat->Prop)->Prop
 |[],_,P=>P 0
 |x::a,b,P=>match b with
  |0=>P x
  |c+1=>zg a c P
abbrev zL:dz->Nat->(List Nat->Value->Prop)->Prop
 |[],_,_=>False
 |(b,c,d)::e,P,a=>match Nat.beq b P with
  |true=>a c d
  |false=>zL e P a
abbrev zE(a:dz)(b:Operand)(P:List Nat->Value->Prop):Prop:=match b with
 | .tmp c=>zL a c P
 | .const d=>P [2] d
 | .global e=>P [0] (.pointer (some ⟨e,0,none⟩))
 | .func f=>P [0] (.func (.func f) #[] #[])
abbrev zA(a:dz):List Operand->(List Value->Prop)->Prop
 |[],P=>P []
 |x::b,P=>zE a x λ_ c=>zA a b λd=>P (c::d)
abbrev dY(a:dz)(P:Option Tmp)(c:List Nat)(d:Value)(b:dz->Prop):Prop:=match P with
 |some P=>b ((P,c,d)::a)
 |none=>b a
abbrev Uh(P:Nat):Bool:=match P with
 |6=>true
 |7=>true
 |_=>false
abbrev Ui(P:Bool)(a:List Nat)(b:Nat)(c:List Value)(d:Nat):Bool:=match P with
 |false=>false
 |true=>match Uh b with
  |false=>false
  |true=>match c with
   |_::_::_::_=>match zm a d with
    |true=>false
    |false=>true
   |_=>false
abbrev z1(b:Value)(P:Value->Prop):Prop:=match b with
 | .int c _=>∃a:Int,P (.int c a)
 | .bool _=>∃d:Bool,P (.bool d)
 | .string _=>∃e:ByteArray,P (.string e)
 | .slice _ _ _=>∃(f:Option Addr) (a g:Nat),P (.slice f a g)
 | .pointer _=>∃h:Option Addr,P (.pointer h)
 | .map _=>∃i:Option Nat,P (.map i)
 |_=>∃j:Value,P j
abbrev Vb(P:List Value):(List Value->Prop)->Prop:=
 List.rec (motive:=λ_=>(List Value->Prop)->Prop) (λa=>a []) (λb _ c a=>z1 b λd=>c λP=>a (d::P)) P
abbrev zX(b:Nat)(P:List Value)(a:Value->Prop):Prop:=match Uh b with
 |true=>Vb P λc=>a (.agg c.toArray)
 |false=>match P with
  |z::_=>z1 z a
  |[]=>False
abbrev idx:List Nat:=[0,1,2,3,4,5,6,7,8,9,10,11,12,13,14,15,16,17,18,19]
abbrev RO(P:Nat)(a:Nat)(b:Nat->Prop):Prop:=match a with
 |0=>b P
 |_=>b (P+a)
abbrev RP(b:World)(c d:Nat)(e:List Nat):List Value->Prop->Prop:=
 List.rec (motive:=λ_=>List Value->Prop->Prop) (λ_ P=>P) (λf _ g a P=>match a with
  |v::a=>(RO d f λh=>b.cell? ⟨c,h,none⟩=some v/\g a P)
  |[]=>P) e
abbrev RQ(c d:Nat)(e:List Nat):List Value->World->(World->Prop)->Prop:=
 List.rec (motive:=λ_=>List Value->World->(World->Prop)->Prop) (λ_ P a=>a P) (λf _ g b P a=>match b with
  |v::b=>(RO d f λh=>PS P ⟨c,h,none⟩ v λi=>g b i a)
  |[]=>a P) e
abbrev TR(v:Value)(P:List Value->Prop):Prop:=match v with
 | .agg ⟨a⟩=>P a
 |v=>P [v]
abbrev QT:Nat->List Value->(List Value->Prop)->Prop
 |0,_,P=>P []
 |n+1,[],P=>P []
 |n+1,a::b,P=>QT n b λc=>P (a::c)
abbrev QU:Nat->List Value->(List Value->Prop)->Prop
 |0,a,P=>P a
 |n+1,[],P=>P []
 |n+1,_::b,P=>QU n b P
abbrev PE:Nat->List Value->List Value->(List Value->Prop)->Prop
 |0,a,[],P=>P a
 |0,[],_::_,P=>P []
 |0,_::b,c::cs,P=>PE 0 b cs λa=>P (c::a)
 |n+1,[],_,P=>P []
 |n+1,d::b,cs,P=>PE n b cs λa=>P (d::a)
abbrev Tb:List Value->List Value->(List Value->Prop)->Prop
 |[],P,a=>a P
 |x::b,P,a=>Tb b P λP=>a (x::P)
abbrev Tc:Nat->List Value->(List Value->Prop)->Prop
 |0,_,P=>P []
 |n+1,[],P=>P []
 |n+1,a::b,P=>Tc n (a::b) λc=>Tb (a::b) c P
section
variable (P:Program) (T:Tr) (R:Ending->World->Prop) (q:Bool) (X:List Nat)
abbrev Vc(a e:Nat)(b:Nat->Value->Prop):Prop:=zT T a λf=>match f with
 |⟨c,_,d,_,_,_,_,_⟩=>match Ui q X c d e with
  |true=>Ci (fp P a) λg=>b 1 g
  |false=>zX c d (b 0)
abbrev Vk(c:Nat)(b:List Nat):List Nat->(List Nat->List Value->Prop)->Prop:=
 List.rec (motive:=λ_=>List Nat->(List Nat->List Value->Prop)->Prop) (λ_ a=>a [] []) (λd _ e is a=>match is with
  |f::is=>Vc P T q X d (1000000+c*100+f) λg h=>e is λi b=>a (g::i) (h::b)
  |[]=>a [] []) b
abbrev IL(a:Nat)(b:Option Tmp)(c:List Nat->Value->Prop):Prop:=zT T a λd=>match d with
 |⟨e,_,_,_,_,_,f,_⟩=>match e with
  |10=>Vk P T q X (b.getD 9999) f idx λg h=>c g (.tuple h.toArray)
  |_=>Vc P T q X a (b.getD 9999) λi j=>c [i] j
abbrev NA(b:dz)(c:List (Nat×Nat×Nat)):List (Nat×Operand)->List Value->(List Value->Prop)->Prop
 |[],P,a=>a P
 |(d,e)::f,P,a=>zE b e λ_ g=>TR g λcs=>BF c d λh=>match h with
  |(i,_,_)=>PE i P cs λP=>NA b c f P a
abbrev Kl(b:dz)(c:Nat):List (Nat×Operand)->List Value->(List Value->Prop)->Prop
 |[],P,a=>a P
 |(d,e)::f,P,a=>zE b e λ_ g=>TR g λcs=>PE (d*c) P cs λP=>Kl b c f P a
abbrev PF(c:Bool)(d:IntKind):Int->List Value->(Value->Prop)->Prop
 |P,[],a=>a (.int d P)
 |P,f::e,a=>match f with
  | .int _ b=>match c with
   |true=>PF c d (if b>P then b else P) e a
   |false=>PF c d (if b<P then b else P) e a
  |_=>False
abbrev Q_(P:Operand):Bool:=match P with
 | .const _=>true
 |_=>false
abbrev Km(e:dz)(p:Oper)(P:List Nat->Value->Prop)(no:Prop):Prop:=match p.op with
 | .move f=>zE e f P
 | .assign f=>zE e f P
 | .pick c j h=>zE e c λ_ g=>match g with
  | .bool true=>zE e j P
  | .bool false=>zE e h P
  |_=>False
 | .binOp m k f i _=>zE e f λ_ j=>zE e i λ_ h=>match j,h with
  | .int b a,.int _ d=>match m with
   | .add=>P [0] (.int b (IntKind.wrap b (a+d)))
   | .sub=>P [0] (.int b (IntKind.wrap b (a-d)))
   | .mul=>P [0] (.int b (IntKind.wrap b (a*d)))
   | .quo=>match Q_ i with
    |true=>P [0] (.int b (IntKind.wrap b (Int.tdiv a d)))
    |false=>no
   | .rem=>match Q_ i with
    |true=>P [0] (.int b (Int.tmod a d))
    |false=>no
   | .shl=>match Q_ i with
    |true=>P [0] (.int b (IM b a d))
    |false=>no
   | .shr=>match Q_ i with
    |true=>P [0] (.int b (iP b a d))
    |false=>no
   | .and=>P [0] (.int b (DG b a d))
   | .or=>P [0] (.int b (No b a d))
   | .xor=>P [0] (.int b (oJ b a d))
   | .andNot=>P [0] (.int b (tM b a d))
   | .eql=>P [0] (.bool (a==d))
   | .neq=>P [0] (.bool (a !=d))
   | .lss=>P [0] (.bool (decide (a<d)))
   | .leq=>P [0] (.bool (decide (a<=d)))
   | .gtr=>P [0] (.bool (decide (a>d)))
   | .geq=>P [0] (.bool (decide (a>=d)))
  | .string a,.string d=>match m with
   | .eql=>P [0] (.bool (ByteArray.toList a==ByteArray.toList d))
   | .neq=>P [0] (.bool (!(ByteArray.toList a==ByteArray.toList d)))
   | .lss=>P [0] (.bool (Op.bytesLess (ByteArray.toList a) (ByteArray.toList d)))
   | .leq=>P [0] (.bool (Op.bytesLess (ByteArray.toList a) (ByteArray.toList d)||ByteArray.toList a==ByteArray.toList d))
   | .gtr=>P [0] (.bool (!(Op.bytesLess (ByteArray.toList a) (ByteArray.toList d)||ByteArray.toList a==ByteArray.toList d)))
   | .geq=>P [0] (.bool (!(Op.bytesLess (ByteArray.toList a) (ByteArray.toList d))))
   |_=>no
  | .bool a,.bool d=>match m with
   | .eql=>P [0] (.bool (a==d))
   | .neq=>P [0] (.bool (!(a==d)))
   |_=>no
  |_,_=>no
 | .unOp x _ f=>zE e f λq g=>match x,g with
  | .not,.bool h=>match q with
   |2::_=>match h with
    |true=>P [2] (.bool false)
    |false=>P [2] (.bool true)
   |_=>P [0] (.bool (!h))
  | .neg,.int b a=>P [0] (.int b (IntKind.wrap b (0-a)))
  |_,_=>no
 | .convert u y f=>zT T u λj=>zT T y λh=>match j,h with
  |⟨0,_,_,_,_,_,_,_⟩,⟨0,_,_,_,_,_,_,b⟩=>zE e f λ_ g=>match g with
   | .int _ a=>P [0] (.int b (IntKind.wrap b a))
   |_=>False
  |_,_=>no
 | .field k f o=>zE e f λ_ g=>match g with
  | .agg cs=>zT T k λi=>match i with
   |⟨_,_,_,_,_,r,_,_⟩=>BF r o λs=>match s with
    |(p,t,z)=>QU p cs.toList λl=>match z with
     |0=>match l with
      |c::_=>P [0] c
      |[]=>False
     |_=>QT t l λl=>P [0] (.agg l.toArray)
  |_=>False
 | .build k n=>zT T k λi=>match i with
  |⟨_,_,A,_,_,r,_,_⟩=>NA e r n.toList A λl=>P [0] (.agg l.toArray)
 | .extract f o=>zE e f λq g=>match g with
  | .tuple cs=>BF cs.toList o λc=>zg q o λq=>P [q] c
  |_=>False
 | .makeInterface k f=>zE e f λ_ g=>P [0] (.iface k g)
 | .makeFunc s j c=>zA e j.toList λj=>zA e c.toList λc=>P [0] (.func s j.toArray c.toArray)
 | .fieldAddr k f o=>zE e f λ_ g=>match g with
  | .pointer (some ⟨h,p,_⟩)=>zT T k λi=>match i with
   |⟨_,_,_,_,_,r,_,_⟩=>BF r o λs=>match s with
    |(t,_,_)=>RO p t λB=>P [0] (.pointer (some ⟨h,B,none⟩))
  |_=>False
 | .call c=>match c.callee with
  | .builtin h=>zA e c.args.toList λl=>match h,l with
   | .len,.slice _ t _::_=>P [0] (.int .i64 ((t:Nat):Int))
   | .len,.string u::_=>P [0] (.int .i64 ((ByteArray.size u:Nat):Int))
   | .max,.int b v::w=>PF true b v w (P [0])
   | .min,.int b v::w=>PF false b v w (P [0])
   |_,_=>no
  |_=>no
 |_=>no
abbrev RR(b:dz)(P:Option Operand)(a:Option Value->Prop):Prop:=match P with
 |none=>a none
 |some P=>zE b P λ_ c=>a (some c)
abbrev BG(b:dz)(g:Oper)(a:Sem Value->Prop):Prop:=match g.op with
 | .lookup c P f k=>zE b P λ_ P=>zE b f λ_ f=>a (Instr.lookup c P f k)
 | .makeSlice c e d=>zE b e λ_ e=>zE b d λ_ d=>a (Instr.makeSlice c e d)
 | .convert l p P=>zE b P λ_ P=>a (convert l p P)
 | .range c P=>zE b P λ_ P=>a (Instr.range c P)
 | .next h l=>zE b h λ_ h=>a (Instr.next h l g.type)
 | .entry h=>zE b h λ_ h=>a (Instr.entry h)
 | .mapEntry c m f=>zE b m λ_ m=>zE b f λ_ f=>a (Instr.mapEntry c m f)
 | .typeAssert P c q k=>zE b P λ_ P=>a (Instr.typeAssert P c q k)
 | .panic P=>zE b P λ_ P=>a (Instr.panic P)
 | .index c P f=>zE b P λ_ P=>zE b f λ_ f=>a (Instr.index c P f)
 | .binOp i c P n _=>zE b P λ_ o=>zE b n λ_ j=>a (do eqGuard i c P n o j;binOp i c o j)
 | .call d=>match d.callee with
  | .builtin j=>zA b d.args.toList λe=>match j with
   | .append=>a (Builtin.append_ d.argTypes g.type e.toArray)
   | .cap=>a (Builtin.cap_ d.argTypes g.type e.toArray)
   | .clear=>a (Builtin.clear_ d.argTypes g.type e.toArray)
   | .copy=>a (Builtin.copy_ d.argTypes g.type e.toArray)
   | .delete=>a (Builtin.delete_ d.argTypes g.type e.toArray)
   | .len=>a (Builtin.len_ d.argTypes g.type e.toArray)
   | .max=>a (Builtin.max_ d.argTypes g.type e.toArray)
   | .min=>a (Builtin.min_ d.argTypes g.type e.toArray)
   | .panic=>match e with
    |v::_=>a (Instr.panic v)
    |[]=>False
   |_=>False
  |_=>False
 |_=>False
abbrev tN(P:Nat)(a:Nat->Prop):Prop:=zT T P λb=>match b with
 |⟨c,_,_,_,_,_,_,_⟩=>a c
abbrev Ee(f:Oper)(P a:Prop):Prop:=match f.op with
 | .lookup .. =>P
 | .next .. =>P
 | .entry _=>P
 | .mapEntry .. =>P
 | .makeSlice .. =>P
 | .convert g h _=>tN T g λb=>tN T h λe=>match b,e with
  |0,0=>a
  |_,_=>P
 | .binOp i d _ c _=>match i with
  | .quo=>match Q_ c with
   |true=>a
   |false=>P
  | .rem=>match Q_ c with
   |true=>a
   |false=>P
  | .shl=>match Q_ c with
   |true=>a
   |false=>P
  | .shr=>match Q_ c with
   |true=>a
   |false=>P
  | .add=>tN T d λb=>match b with
   |0=>a
   |_=>P
  | .eql=>tN T d λb=>match b with
   |0=>a
   |1=>a
   |2=>a
   |_=>P
  | .neq=>tN T d λb=>match b with
   |0=>a
   |1=>a
   |2=>a
   |_=>P
  |_=>a
 | .call c=>match c.callee with
  | .builtin e=>match e with
   | .append=>P
   | .copy=>P
   | .cap=>P
   | .len=>BF c.argTypes.toList 0 λd=>tN T d λb=>match b with
    |5=>P
    |_=>a
   |_=>a
  |_=>a
 |_=>a
abbrev NB(f j:Nat)(a b:Nat)(c:World)(d:List Nat->Value->Prop):Prop:=zT T f λk=>match k with
 |⟨g,_,e,_,_,_,_,_⟩=>match Ui q X g e j with
  |true=>nK P f (.pointer (some ⟨a,b,none⟩)) c λl=>d [1] l
  |false=>match Uh g with
   |true=>Vb e λh=>RP c a b idx h (d [0] (.agg h.toArray))
   |false=>match e with
    |z::_=>z1 z λi=>c.cell? ⟨a,b,none⟩=some i/\d [0] i
    |[]=>False
abbrev RS(i:dz)(o:Nat)(p:Operand)(g h j:Option Operand)(b:Value->Prop):Prop:=zE i p λ_ n=>RR i g λg=>RR i h λh=>RR i j λj=>zT T o λk=>match k with
 |⟨2,_,_,_,_,_,_,_⟩=>match n with
  | .string d=>match g,h with
   |none,none=>b (.string (d.extract 0 d.size))
   |some (.int _ P),none=>(0:Int)<=P/\P<=((d.size:Nat):Int)/\b (.string (d.extract P.toNat d.size))
   |none,some (.int _ a)=>(0:Int)<=a/\a<=((d.size:Nat):Int)/\b (.string (d.extract 0 a.toNat))
   |some (.int _ P),some (.int _ a)=>(0:Int)<=P/\P<=a/\a<=((d.size:Nat):Int)/\b (.string (d.extract P.toNat a.toNat))
   |_,_=>False
  |_=>False
 |⟨_,_,_,q,_,_,_,_⟩=>match n with
  | .slice f l c=>zT T q λk=>match k with
   |⟨_,m,_,_,_,_,_,_⟩=>match j with
    |none=>match g,h with
     |none,none=>b (.slice f l c)
     |some (.int _ P),none=>(0:Int)<=P/\P<=((l:Nat):Int)/\b (.slice (cg f P.toNat c m) (l-P.toNat) (c-P.toNat))
     |none,some (.int _ a)=>(0:Int)<=a/\a<=((c:Nat):Int)/\b (.slice f a.toNat c)
     |some (.int _ P),some (.int _ a)=>(0:Int)<=P/\P<=a/\a<=((c:Nat):Int)/\b (.slice (cg f P.toNat c m) (a.toNat-P.toNat) (c-P.toNat))
     |_,_=>False
    |some (.int _ e)=>match g,h with
     |none,some (.int _ a)=>(0:Int)<=a/\a<=e/\e<=((c:Nat):Int)/\b (.slice f a.toNat e.toNat)
     |some (.int _ P),some (.int _ a)=>(0:Int)<=P/\P<=a/\a<=e/\e<=((c:Nat):Int)/\b (.slice (cg f P.toNat e.toNat m) (a.toNat-P.toNat) (e.toNat-P.toNat))
     |_,_=>False
    |_=>False
  |_=>False
abbrev NC(P:Nat)(a:Int)(b:Nat)(c:Nat->Prop):Prop:=match b with
 |1=>c (P+a.toNat)
 |_=>c (P+a.toNat*b)
abbrev RT(g:dz)(j:Nat)(k P:Operand)(h:Value->Prop):Prop:=zE g k λ_ l=>zE g P λ_ m=>zT T j λc=>match c,m with
 |⟨n,_,_,o,d,_,_,_⟩,.int _ P=>zT T o λc=>match c with
  |⟨_,i,_,_,_,_,_,_⟩=>match n,l with
   |3,.slice e p _=>∃a b,e=some ⟨a,b,none⟩/\(0:Int)<=P/\P<((p:Nat):Int)/\NC b P i λf=>h (.pointer (some ⟨a,f,none⟩))
   |7,.pointer e=>∃a b,e=some ⟨a,b,none⟩/\(0:Int)<=P/\P<((d:Nat):Int)/\NC b P i λf=>h (.pointer (some ⟨a,f,none⟩))
   |_,_=>False
 |_,_=>False
abbrev Uj(c:dz)(d:Operand)(P:Value->Prop):Prop:=zE c d λ_ e=>match e with
 | .pointer f=>∃a b,f=some ⟨a,b,none⟩/\P (.pointer (some ⟨a,b,none⟩))
 | .func g h i=>P (.func g h i)
 |_=>False
abbrev Td(a:dz)(c P:Operand)(d:Value->Prop):Prop:=zE a c λ_ e=>zE a P λ_ f=>match e,f with
 | .string g,.int _ P=>(0:Int)<=P/\∃b,g[P.toNat]? =some b/\d (.int .u8 ((b.toNat:Nat):Int))
 |_,_=>False
abbrev IN(P:Program)(T:Tr)(b c:Nat):List Oper->(Nat->List Value->Prop)->Prop
 |[],a=>a 8 [undef]
 |e::d,a=>match e.op with
  | .extract (.tmp f) g=>match Nat.beq f b with
   |true=>match Nat.beq g c with
    |true=>zT T e.type λh=>match h with
     |⟨i,_,j,_,_,_,_,_⟩=>a i j
    |false=>IN P T b c d a
   |false=>IN P T b c d a
  |_=>IN P T b c d a
abbrev MK(r:List Oper)(o:Value->World->Prop)(z:List PanicEntry->World->Prop)(b:Oper)(f:dz->World->Prop)(a:dz)(e:World):Prop:=
 match b.op with
 | .load i j=>zE a j λ_ j=>match j with
  | .pointer (some ⟨n,of,_⟩)=>NB P T q X i (b.dst.getD 9999) n of e λh d=>dY a b.dst h d λa=>f a e
  |_=>False
 | .store i j g=>zE a j λ_ j=>zE a g λh g=>match j with
  | .pointer (some ⟨n,of,_⟩)=>zT T i λs=>match s with
   |⟨k,_,t,_,_,_,_,_⟩=>match Ui q [] k t 0 with
    |true=>w_ P i (.pointer (some ⟨n,of,none⟩)) g e λc=>dY a b.dst [0] undef λa=>f a c
    |false=>match PD 1 h with
     |true=>w_ P i (.pointer (some ⟨n,of,none⟩)) g e λc=>dY a b.dst [0] undef λa=>f a c
     |false=>TR g λcs=>RQ n of idx cs e λc=>dY a b.dst [0] undef λa=>f a c
  |_=>False
 | .indexAddr i g w=>RT T a i g w λd=>dY a b.dst [0] d λa=>f a e
 | .slice i g M N O=>RS T a i g M N O λd=>dY a b.dst [0] d λa=>f a e
 | .nilCheck g=>Uj a g λd=>dY a b.dst [0] d λa=>f a e
 | .index i g w=>Td a g w λd=>dY a b.dst [0] d λa=>f a e
 | .alloc i=>zT T i λs=>match s with
  |⟨_,_,t,_,_,_,_,_⟩=>PA e (.cells t.toArray i) λc=>dY a b.dst [0] (.pointer (some ⟨e.heap.size,0,none⟩)) λa=>f a c
 | .box i g=>zE a g λh d=>match PD 1 h with
  |true=>PA e (.cells (Value.cells d) i) λc=>dY a b.dst [0] (.pointer (some ⟨e.heap.size,0,none⟩)) λa=>f a c
  |false=>TR d λcs=>PA e (.cells cs.toArray i) λc=>dY a b.dst [0] (.pointer (some ⟨e.heap.size,0,none⟩)) λa=>f a c
 | .buildSlice i A u=>zT T i λs=>match s with
  |⟨_,_,_,H,_,_,_,_⟩=>zT T H λs=>match s with
   |⟨_,Q,t,_,_,_,_,_⟩=>Tc A t λB=>Kl a Q u.toList B λB=>PA e (.cells B.toArray H) λc=>dY a b.dst [0] (.slice (some ⟨e.heap.size,0,none⟩) A A) λa=>f a c
 | .makeMap _ _=>PA e (.map #[] 0) λc=>dY a b.dst [0] (.map (some e.heap.size)) λa=>f a c
 | .mapUpdate i p k g=>zE a p λ_ p=>zE a k λ_ k=>zE a g λ_ g=>jN P (Instr.mapUpdate i p k g) e (λc=>dY a b.dst [0] undef λa=>f a c) o
 | .insert i p k g=>zE a p λ_ p=>zE a k λ_ k=>zE a g λ_ g=>jN P (Instr.mapUpdate i p k g) e (λc=>dY a b.dst [0] undef λa=>f a c) o
 | .entryStore i p k g=>zE a p λ_ p=>zE a k λ_ k=>zE a g λ_ g=>jN P (Instr.entryStore i p k g) e (λc=>dY a b.dst [0] undef λa=>f a c) o
 | .next S R=>BG a b λm=>aE P m e (λd c=>(d= .tuple #[.bool false]/\dY a b.dst [2] (.tuple #[.bool false]) λa=>f a c)\/(match R with
  |true=>∃w I,d= .tuple #[.bool true,.int .i64 w,.int .i32 I]/\dY a b.dst [2,0,0] (.tuple #[.bool true,.int .i64 w,.int .i32 I]) λa=>f a c
  |false=>∃k g,d= .tuple #[.bool true,k,g]/\dY a b.dst [2,0,0] (.tuple #[.bool true,k,g]) λa=>f a c)) o
 | .entry _=>BG a b λm=>IN P T (b.dst.getD 9999) 0 r λC E=>IN P T (b.dst.getD 9999) 1 r λF z1=>aE P m e (λd c=>zX C E λj=>zX F z1 λn=>d= .tuple #[j,n]/\dY a b.dst [0,0] (.tuple #[j,n]) λa=>f a c) o
 | .mapEntry _ _ _=>BG a b λm=>IN P T (b.dst.getD 9999) 0 r λC E=>IN P T (b.dst.getD 9999) 1 r λF z1=>aE P m e (λd c=>zX C E λj=>zX F z1 λn=>d= .tuple #[j,n]/\dY a b.dst [0,0] (.tuple #[j,n]) λa=>f a c) o
 | .typeAssert _ _ l true=>BG a b λm=>zT T l λs=>match s with
  |⟨k,_,t,_,_,_,_,_⟩=>aE P m e (λd c=>zX k t λj=>∃n,d= .tuple #[j,.bool n]/\dY a b.dst [0,0] (.tuple #[j,.bool n]) λa=>f a c) o
 | .call y=>match y.callee with
  | .value (.func h)=>zA a y.args.toList λj=>PC P h j.toArray e (λd c=>IL P T q X b.type b.dst λh l=>d=l/\dY a b.dst h l λa=>f a c) z
  | .value v=>zE a v λ_ v=>zA a y.args.toList λj=>∃h J K,v= .func (.func h) J K/\enters P h=true/\PC P h (J++j.toArray++K) e (λd c=>IL P T q X b.type b.dst λh l=>d=l/\dY a b.dst h l λa=>f a c) z
  | .invoke v x=>zE a v λ_ v=>zA a y.args.toList λj=>∃h L,(∀e,(callMethod v x j.toArray).run P e= .ok (.enter h L) e)/\PC P h L e (λd c=>IL P T q X b.type b.dst λh l=>d=l/\dY a b.dst h l λa=>f a c) z
  |_=>Ee T b (BG a b λm=>aE P m e (λd c=>IL P T q X b.type b.dst λh l=>d=l/\dY a b.dst h l λa=>f a c) o)
   (Km T a b (λh d=>dY a b.dst h d λa=>f a e) (BG a b λm=>aE P m e (λd c=>dY a b.dst [1] d λa=>f a c) o))
 |_=>Ee T b (BG a b λm=>aE P m e (λd c=>IL P T q X b.type b.dst λh l=>d=l/\dY a b.dst h l λa=>f a c) o)
   (Km T a b (λh d=>dY a b.dst h d λa=>f a e) (BG a b λm=>aE P m e (λd c=>dY a b.dst [1] d λa=>f a c) o))
abbrev Te(P:List Oper)(a:Nat)(b:Nat->Prop):Prop:=BF P a λc=>match c.dst with
 |some d=>b d
 |none=>False
abbrev Ef(f:List Oper)(g:Oper)(a:dz)(b P:dz->Prop):Prop:=match g.guard with
 |none=>b a
 |some (h,d)=>Te f h λc=>zL a c λi j=>match j with
  | .bool e=>match PD 2 i with
   |true=>match d with
    |true=>match e with
     |true=>b ((c,[2],.bool true)::a)
     |false=>P ((c,[2],.bool false)::a)
    |false=>match e with
     |true=>P ((c,[2],.bool true)::a)
     |false=>b ((c,[2],.bool false)::a)
   |false=>match d with
    |true=>an e (b ((c,[2],.bool true)::a)) (P ((c,[2],.bool false)::a))
    |false=>an e (P ((c,[2],.bool true)::a)) (b ((c,[2],.bool false)::a))
  | .tuple _=>P a
  |_=>False
abbrev Uk(c:List Oper)(g:Value->World->Prop)(h:List PanicEntry->World->Prop)(i:List Oper):(dz->World->Prop)->dz->World->Prop:=
 List.rec (motive:=λ_=>(dz->World->Prop)->dz->World->Prop) (λd a b=>d a b)
  (λe _ f d a b=>Ef c e a (λa=>MK P T q X c g h e (λa b=>f d a b) a b) (λa=>dY a e.dst [0] undef λa=>f d a b)) i
abbrev Vl(d:Oper)(P:Nat->Prop):Prop:=match d.op with
 | .move _=>P 0
 | .assign _=>P 0
 | .pick .. =>P 0
 | .build .. =>P 0
 | .binOp .. =>P 0
 | .unOp .. =>P 0
 | .indexAddr .. =>P 0
 | .slice .. =>P 0
 | .nilCheck _=>P 0
 | .fieldAddr .. =>P 0
 | .field .. =>P 0
 | .index .. =>P 0
 | .extract .. =>P 0
 | .typeAssert .. =>P 0
 | .convert e f _=>tN T e λa=>tN T f λb=>match a,b with
  |0,0=>P 0
  |_,_=>P 2
 | .load .. =>P 1
 | .lookup .. =>P 1
 | .call c=>match c.callee with
  | .builtin b=>match b with
   | .len=>BF c.argTypes.toList 0 λg=>tN T g λa=>match a with
    |5=>P 1
    |_=>P 0
   | .cap=>P 0
   | .max=>P 0
   | .min=>P 0
   |_=>P 2
  |_=>P 2
 |_=>P 2
abbrev Tf:List Oper->(List Nat->Prop)->Prop
 |[],P=>P []
 |a::b,P=>Vl T a λc=>Tf b λd=>P (c::d)
abbrev PG:List Edge->(List Nat->Prop)->Prop
 |[],P=>P []
 |e::a,P=>match e with
  |⟨b,c⟩=>match c with
   | .textOnly _=>PG a P
   | .gcOnly _=>PG a P
   |_=>PG a λd=>P (b::d)
abbrev Ra:List Oper->(List (List Nat)->Prop)->Prop
 |[],P=>P []
 |a::b,P=>PG a.after.toList λc=>Ra b λd=>P (c::d)
abbrev Rb:List Nat->Bool
 |[]=>false
 |k::P=>match k with
  |2=>true
  |_=>Rb P
abbrev Re:List Nat->List Nat->Bool
 |[],_=>true
 |a::b,P=>match zm P a with
  |true=>Re b P
  |false=>false
abbrev PH:List Nat:=[0,1,2,3,4,5,6,7,8,9,10,11,12,13,14,15,16,17,18,19,20,21,22,23,24,25,26,27,28,29,30,31,32,33,34,35,36,37,38,39,40,41,42,43,44,45,46,47,48,49,50,51,52,53,54,55,56,57,58,59,60,61,62,63]
abbrev sv(P:List Nat):List Nat->List (List Nat)->List Nat
 |b::is,c::a=>match zm P b with
  |true=>sv P is a
  |false=>match Re c P with
   |true=>b::sv P is a
   |false=>sv P is a
 |_,_=>[]
abbrev Tg:List Nat->Nat->Nat
 |[],_=>2
 |x::P,a=>match a with
  |0=>x
  |b+1=>Tg P b
abbrev ND(P:List Nat):List Nat->Option Nat
 |[]=>none
 |a::b=>match Tg P a with
  |2=>ND P b
  |_=>some a
abbrev Eg(P:Nat):List Nat->Option Nat
 |[]=>none
 |a::b=>match Nat.beq P a with
  |true=>Eg P b
  |false=>some a
abbrev IP(b:List (List Nat))(c:Nat):List Oper->List Nat->(List Nat->Prop)->Prop
 |[],P,a=>a P
 |_::d,P,a=>match Eg c (sv P PH b)with
  |some e=>IP b c d (e::P) a
  |none=>a P
abbrev NF(a P:List Nat):List Nat->Bool
 |[]=>true
 |b::c=>match zm P b with
  |true=>NF a P c
  |false=>match Tg a b with
   |2=>false
   |_=>NF a P c
abbrev NG(b:List (List Nat))(e:List Nat)(f:List Oper)(c:Nat)(P:List Nat)(a:Bool->Prop):Prop:=IP b c f P λd=>match Eg c (sv d PH b)with
 |some _=>a false
 |none=>match NF e P d with
  |true=>a true
  |false=>a false
abbrev RU:List Nat->List Nat->(List Nat->Prop)->Prop
 |[],P,b=>b P
 |a::c,P,b=>match zm P a with
  |true=>RU c P b
  |false=>RU c (a::P) b
abbrev Th(c:List (List Nat))(f:List Oper)(d:Nat)(P:List Nat)(a:Option (List Nat))(b:Option (List Nat)->Prop):Prop:=match a with
 |none=>b none
 |some a=>IP c d f P λe=>match Eg d (sv e PH c)with
  |some _=>b none
  |none=>RU e a λa=>b (some a)
abbrev Ul(b:List Nat):(Nat->Prop)->Prop:=
 List.rec (motive:=λ_=>(Nat->Prop)->Prop) (λ_=>True) (λa c d P=>match c with
  |[]=>P a
  |_::_=>P a/\d P) b
abbrev Vm(P:Option (List Nat))(a:Nat):Bool:=match P with
 |none=>true
 |some P=>zm P a
abbrev pf(P:Value)(a:World):Prop:=∀(_:bM) (_:cH),R (.panicked [{v:=P,recovered:=false}]) a
abbrev pg(P:List PanicEntry)(a:World):Prop:=∀(_:bM) (_:cH),R (.panicked P) a
abbrev PI(c:List Oper)(b:Oper)(o:Nat)(e:Bool)(m:Nat->Prop)(f:dz->Prop)(a:dz)(d:World):Prop:=
 match b.op with
 | .load p j=>match e with
  |true=>zE a j λ_ j=>match j with
   | .pointer (some ⟨n,of,_⟩)=>¬m n/\NB P T q X p (b.dst.getD 9999) n of d λh k=>dY a b.dst h k λa=>f a
   |_=>False
  |false=>MK P T q X c (pf R) (pg R) b (λa _=>f a) a d
 | .indexAddr .. =>MK P T q X c (pf R) (pg R) b (λa _=>f a) a d
 | .slice .. =>MK P T q X c (pf R) (pg R) b (λa _=>f a) a d
 | .nilCheck .. =>MK P T q X c (pf R) (pg R) b (λa _=>f a) a d
 | .index .. =>MK P T q X c (pf R) (pg R) b (λa _=>f a) a d
 |_=>Ee T b (BG a b λl=>IL P T q X b.type b.dst λh i=>(match o with
   |0=>∀g,l.run P g= .ok i g
   |_=>match e with
    |true=>∀g,ak m d g->l.run P g= .ok i g
    |false=>l.run P d= .ok i d)/\dY a b.dst h i λa=>f a)
  (Km T a b (λh k=>dY a b.dst h k λa=>f a) False)
abbrev RV(c:List Oper)(n:List (List Nat))(l:List Nat)(p:List Oper)(i:Bool)(j:Nat->Prop)(r:dz->World->Prop)(k:List Oper):List Nat->Option (List Nat)->dz->World->Prop:=
 List.rec (motive:=λ_=>List Nat->Option (List Nat)->dz->World->Prop) (λ_ _ b e=>r b e) (λ_ _ h a f b e=>match sv a PH n with
  |[]=>r b e
  |s=>match ND l s with
   |some d=>BF c d λg=>(λo=>Ef c g b o (λb=>dY b g.dst [0] undef λb=>h (d::a) f b e)) (match i with
    |false=>λb=>PI P T R q X c g (Tg l d) false j (λb=>h (d::a) f b e) b e
    |true=>match Tg l d with
     |0=>λb=>PI P T R q X c g 0 false j (λb=>h (d::a) f b e) b e
     |_=>λb=>NG n l p d a λt=>match t with
      |true=>PI P T R q X c g 1 false j (λb=>h (d::a) f b e) b e
      |false=>Th n p d a f λf=>PI P T R q X c g 1 true j (λb=>h (d::a) f b e) b e)
   |none=>Ul s λd=>BF c d λg=>Ef c g b (λb=>MK P T q X c (pf R) (pg R) g (λb m=>match i with
     |false=>h (d::a) f b m
     |true=>match Vm f d with
      |true=>ak j e m/\h (d::a) f b m
      |false=>h (d::a) f b m) b e) (λb=>dY b g.dst [0] undef λb=>h (d::a) f b e)) k
abbrev Ti(d:List Oper)(j:List Oper):(dz->Prop)->dz->World->Prop:=
 List.rec (motive:=λ_=>(dz->Prop)->dz->World->Prop) (λe a _=>e a) (λb _ f e a c=>Ef d b a (λa=>match b.op with
  | .load .. =>MK P T q X d (pf R) (pg R) b (λa _=>f e a c) a c
  | .indexAddr .. =>MK P T q X d (pf R) (pg R) b (λa _=>f e a c) a c
  | .slice .. =>MK P T q X d (pf R) (pg R) b (λa _=>f e a c) a c
  | .nilCheck .. =>MK P T q X d (pf R) (pg R) b (λa _=>f e a c) a c
  | .index .. =>MK P T q X d (pf R) (pg R) b (λa _=>f e a c) a c
  |_=>Ee T b (BG a b λk=>IL P T q X b.type b.dst λg h=>(∀i,k.run P (c.drewN i)= .ok h (c.drewN i))/\dY a b.dst g h λa=>f e a c)
   (Km T a b (λg l=>dY a b.dst g l λa=>f e a c) False)) (λa=>dY a b.dst [0] undef λa=>f e a c)) j
abbrev Eh:Code->Option Nat
 | .region id _ _=>some id
 | .seq a b=>match Eh a with
  |some c=>some c
  |none=>Eh b
 | .cond _ a b=>match Eh a with
  |some c=>some c
  |none=>Eh b
 | .block _ P=>Eh P
 | .loop P=>Eh P
 | .scope P=>Eh P
 |_=>none
abbrev RW:List Oper->List Nat->List Nat
 |[],P=>P
 |b::a,P=>match b.dst with
  |some c=>c::RW a P
  |none=>RW a P
abbrev PJ:Code->List Nat->List Nat
 | .region _ b _,P=>RW b.toList P
 | .seq c d,P=>PJ c (PJ d P)
 | .cond _ c d,P=>PJ c (PJ d P)
 | .block _ a,P=>PJ a P
 | .loop a,P=>PJ a P
 | .scope a,P=>PJ a P
 |_,P=>P
abbrev PK(a:List Nat):dz->(dz->Prop)->Prop
 |[],P=>P []
 |(b,d,e)::c,P=>match zm a b with
  |true=>PK a c P
  |false=>PK a c λf=>P ((b,d,e)::f)
abbrev NH(a:List (Nat×List (Nat×Value)))(b:Option Nat):Option (List (Nat×Value)):=match b with
 |none=>none
 |some P=>match a with
  |[]=>none
  |(c,d)::e=>match Nat.beq c P with
   |true=>some d
   |false=>NH e (some P)
abbrev Pc:List (Nat×Value)->List Value
 |[]=>[]
 |(_,P)::a=>P::Pc a
abbrev NI:List Value->Type->Type
 |[],P=>P
 |z::a,P=>match z with
  | .int _ _=>Int->NI a P
  | .bool _=>Bool->NI a P
  | .string _=>ByteArray->NI a P
  | .slice _ _ _=>Option Addr->Nat->Nat->NI a P
  | .pointer (some _)=>Nat->Nat->NI a P
  | .pointer none=>Option Addr->NI a P
  | .map _=>Option Nat->NI a P
  |_=>Value->NI a P
abbrev BH:(a:List Value)->NI a (World->Prop)->List Value->World->Prop
 |[],P,_,b=>P b
 |z::a,P,c,b=>match c with
  |[]=>False
  |v::c=>match z,P with
   | .int l _,P=>match v with
    | .int _ d=>BH a (P d) c b
    |_=>False
   | .bool _,P=>match v with
    | .bool e=>BH a (P e) c b
    |_=>False
   | .string _,P=>match v with
    | .string f=>BH a (P f) c b
    |_=>False
   | .slice _ _ _,P=>match v with
    | .slice g d h=>BH a (P g d h) c b
    |_=>False
   | .pointer (some _),P=>match v with
    | .pointer (some ⟨e,i,_⟩)=>BH a (P e i) c b
    |_=>False
   | .pointer none,P=>match v with
    | .pointer j=>BH a (P j) c b
    |_=>False
   | .map _,P=>match v with
    | .map k=>BH a (P k) c b
    |_=>False
   | .float _ _,P=>BH a (P v) c b
   | .complex _ _ _,P=>BH a (P v) c b
   | .chan _,P=>BH a (P v) c b
   | .func _ _ _,P=>BH a (P v) c b
   | .nilFunc,P=>BH a (P v) c b
   | .iface _ _,P=>BH a (P v) c b
   | .nilIface,P=>BH a (P v) c b
   | .agg _,P=>BH a (P v) c b
   | .tuple _,P=>BH a (P v) c b
abbrev Rf(P:List Value):(List Value->Prop)->Prop:=
 List.rec (motive:=λ_=>(List Value->Prop)->Prop) (λa=>a []) (λe _ b a=>match e with
  | .int f _=>∀c:Int,b λP=>a (.int f c::P)
  | .bool _=>∀d:Bool,b λP=>a (.bool d::P)
  | .string _=>∀g:ByteArray,b λP=>a (.string g::P)
  | .slice _ _ _=>∀(h:Option Addr) (c i:Nat),b λP=>a (.slice h c i::P)
  | .pointer (some _)=>∀(d j:Nat),b λP=>a (.pointer (some ⟨d,j,none⟩)::P)
  | .pointer none=>∀k:Option Addr,b λP=>a (.pointer k::P)
  | .map _=>∀l:Option Nat,b λP=>a (.map l::P)
  |_=>∀m:Value,b λP=>a (m::P)) P
abbrev Kn(a:dz):List (Nat×Value)->(List Value->Prop)->Prop
 |[],P=>P []
 |(b,_)::c,P=>zL a b λ_ d=>Kn a c λe=>P (d::e)
abbrev NJ:List (Nat×Value)->List Value->dz->(dz->Prop)->Prop
 |(b,_)::c,d::e,P,a=>NJ c e P λP=>a ((b,[0],d)::P)
 |_,_,P,a=>a P
abbrev zC(o:jr)(s:dz->World->Prop)(j:Code):(dz->World->Prop)->(Nat->dz->World->Prop)->dz->World->Prop:=
 Code.rec (motive:=λ_=>(dz->World->Prop)->(Nat->dz->World->Prop)->dz->World->Prop)
  (λd _ a b=>d a b)
  (λid c k d _ a b=>match k with
   |false=>Uk P T q X c.toList (λt b=>R (.panicked [{v:=t,recovered:=false}]) b) (λE b=>R (.panicked E) b) c.toList d a b
   |true=>Tf T c.toList λp=>match Rb p with
    |false=>Ti P T R q X c.toList c.toList (λa=>∀g,bC b g->d a g) a b
    |true=>Ra c.toList λu=>match zm o.keeps id with
     |true=>∀g,bC b g->∃e:Nat->Prop,match zm o.NK id with
      |true=>RV P T R q X c.toList u p c.toList true e d c.toList [] (some []) a g
      |false=>RV P T R q X c.toList u p c.toList true e d c.toList [] none a g
     |false=>∀g,bC b g->RV P T R q X c.toList u p c.toList false (λ_=>False) d c.toList [] none a g)
  (λx y h i d f a b=>match NH o.NL (Eh y)with
   |none=>h (λa b=>i d f a b) f a b
   |some e=>∃z:NI (Pc e) (World->Prop),h (λa b=>Kn a e λl=>BH (Pc e) z l b) f a b/\
     PK (PJ x []) a λv=>Rf (Pc e) λm=>∀(F:Nat->Value) (g:World),BH (Pc e) z m g->NJ e m v λa=>i d f a g)
  (λj x y h i d f a b=>zE a j λH t=>match t with
   | .bool A=>match PD 2 H with
    |true=>match A with
     |true=>h d f a b
     |false=>i d f a b
    |false=>an A (h d f a b) (i d f a b)
   |_=>False)
  (λid _ n d f a b=>n d (λB a b=>match Nat.beq B id with
   |true=>d a b
   |false=>f B a b) a b)
  (λj n d f a b=>match NH o.loops (Eh j)with
   |none=>False
   |some e=>∃w:Nat->NI (Pc e) (World->Prop),(∃r,Kn a e λl=>BH (Pc e) (w r) l b)/\
     ∀r,PK (PJ j []) a λv=>Rf (Pc e) λm=>∀(F:Nat->Value) (g:World),BH (Pc e) (w r) m g->
      NJ e m v λa=>n (λa b=>∃C,C<r/\Kn a e λl=>BH (Pc e) (w C) l b) f a g)
  (λ_ _ _ _ _ _ _ _ _ _=>False)
  (λid _ f a b=>f id a b)
  (λ_ n d f a b=>n d f a b)
  (λ_ d _ a b=>d a b)
  (λ_ _ _ _ _=>False)
  (λ_ _ a b=>s a b)
  (λ_ _ _ _ _=>False) j
abbrev Um(e:dz)(h:World)(a:List ResultVar):(List Value->Prop)->Prop:=
 List.rec (motive:=λ_=>(List Value->Prop)->Prop) (λb=>b []) (λi _ f b=>match i with
  | .tmp c=>zL e c λ_ d=>f λa=>b (d::a)
  | .cell g c=>zL e g λ_ j=>match j with
   | .pointer (some ⟨k,l,_⟩)=>NB P T q X c (2000000+g) k l h λ_ d=>f λa=>b (d::a)
   |_=>False) a
abbrev Tj(c:List ResultVar)(d:dz)(a:World):Prop:=Um P T q X d a c λb=>match b with
 |[e]=>R (.returned e) a
 |b=>R (.returned (.tuple b.toArray)) a
abbrev Rg:List Nat->List Value->(dz->Prop)->Prop
 |a::is,b::c,P=>Rg is c λd=>P ((a,[0],b)::d)
 |_,_,P=>P []
end
structure An where
 A:jr
 q:Bool
 X:List Nat
abbrev SZ(a:Program)(b:Tr)(g:An)(f:List ResultVar)(h:Code)(P:List Value)(i:World)(c:Ending->World->Prop):Prop:=match g with
 |⟨j,d,e⟩=>Rg idx P λk=>zC a b c d e j (Tj a b c d e f) h (Tj a b c d e f) (λ_ _ _=>False) k i

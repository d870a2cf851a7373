import Derived.Test.YtblabbpipmodgaaGreatDoorYrLift
set_option linter.all false
namespace Go.aw
open Go
structure Ty where
 k:Nat
 size:Nat
 zs:List Value
 el:Nat
 n:Nat
 fs:List (Nat×Nat×Nat)
 ts:List Nat
 ik:IntKind
inductive Tr where
 |n
 |b (l:Tr) (i:Nat) (v:Ty) (r:Tr)
abbrev Sg(P:Nat):List Nat->Bool
 |[]=>false
 |x::a=>match a with
  |[]=>Nat.beq x P
  |_::_=>false
abbrev eg:=List (Nat×List Nat×Value)
abbrev zT:Tr->Nat->(Ty->Prop)->Prop
 | .n,_,_=>False
 | .b c b d e,P,a=>match Nat.beq P b with
  |true=>a d
  |false=>match Nat.ble P b with
   |true=>zT c P a
   |false=>zT e P a
abbrev zm:List Nat->Nat->Bool
 |[],_=>false
 |d::a,P=>match Nat.beq d P with
  |true=>true
  |false=>zm a P
abbrev CU{P:Type}:List P->Nat->(P->Prop)->Prop
 |[],_,_=>False
 |x::b,c,a=>match c with
  |0=>a x
  |d+1=>CU b d a
abbrev zg:List Nat->Nat->(Nat->Prop)->Prop
 |[],_,P=>P 0
 |x::a,b,P=>match b with
  |0=>P x
  |c+1=>zg a c P
abbrev zL:eg->Nat->(List Nat->Value->Prop)->Prop
 |[],_,_=>False
 |(b,c,d)::e,P,a=>match Nat.beq b P with
  |true=>a c d
  |false=>zL e P a
abbrev zE(a:eg)(b:Operand)(P:List Nat->Value->Prop):Prop:=match b with
 | .tmp c=>zL a c P
 | .const d=>P [2] d
 | .global e=>P [0] (.pointer (some ⟨e,0,none⟩))
 | .func f=>P [0] (.func (.func f) #[] #[])
abbrev zA(a:eg):List Operand->(List Value->Prop)->Prop
 |[],P=>P []
 |x::b,P=>zE a x λ_ c=>zA a b λd=>P (c::d)
abbrev eW(a:eg)(P:Option Tmp)(c:List Nat)(d:Value)(b:eg->Prop):Prop:=match P with
 |some P=>b ((P,c,d)::a)
 |none=>b a
abbrev Wq(P:Nat):Bool:=match P with
 |6=>true
 |7=>true
 |_=>false
abbrev Wr(P:Bool)(a:List Nat)(b:Nat)(c:List Value)(d:Nat):Bool:=match P with
 |false=>false
 |true=>match Wq b with
  |false=>false
  |true=>match c with
   |_::_::_::_=>match zm a d with
    |true=>false
    |false=>true
   |_=>false
abbrev z1(b:Value)(P:Value->Prop):Prop:=match b with
 | .int c _=>∃a:Int,P (.int c a)
 | .bool _=>∃d:Bool,P (.bool d)
 | .string _=>∃e:ByteArray,P (.string e)
 | .slice _ _ _=>∃(f:Option Addr) (a g:Nat),P (.slice f a g)
 | .pointer _=>∃h:Option Addr,P (.pointer h)
 | .map _=>∃i:Option Nat,P (.map i)
 |_=>∃j:Value,P j
abbrev Xo(P:List Value):(List Value->Prop)->Prop:=
 List.rec (motive:=λ_=>(List Value->Prop)->Prop) (λa=>a []) (λb _ c a=>z1 b λd=>c λP=>a (d::P)) P
abbrev zX(b:Nat)(P:List Value)(a:Value->Prop):Prop:=match Wq b with
 |true=>Xo P λc=>a (.agg c.toArray)
 |false=>match P with
  |z::_=>z1 z a
  |[]=>False
abbrev idx:List Nat:=[0,1,2,3,4,5,6,7,8,9,10,11,12,13,14,15,16,17,18,19]
abbrev Ue(P:Nat)(a:Nat)(b:Nat->Prop):Prop:=match a with
 |0=>b P
 |_=>b (P+a)
abbrev Uf(b:World)(c d:Nat)(e:List Nat):List Value->Prop->Prop:=
 List.rec (motive:=λ_=>List Value->Prop->Prop) (λ_ P=>P) (λf _ g a P=>match a with
  |v::a=>(Ue d f λh=>b.cell? ⟨c,h,none⟩=some v/\g a P)
  |[]=>P) e
abbrev Ug(c d:Nat)(e:List Nat):List Value->World->(World->Prop)->Prop:=
 List.rec (motive:=λ_=>List Value->World->(World->Prop)->Prop) (λ_ P a=>a P) (λf _ g b P a=>match b with
  |v::b=>(Ue d f λh=>PS P ⟨c,h,none⟩ v λi=>g b i a)
  |[]=>a P) e
abbrev VZ(v:Value)(P:List Value->Prop):Prop:=match v with
 | .agg ⟨a⟩=>P a
 |v=>P [v]
abbrev To:Nat->List Value->(List Value->Prop)->Prop
 |0,_,P=>P []
 |n+1,[],P=>P []
 |n+1,a::b,P=>To n b λc=>P (a::c)
abbrev Tp:Nat->List Value->(List Value->Prop)->Prop
 |0,a,P=>P a
 |n+1,[],P=>P []
 |n+1,_::b,P=>Tp n b P
abbrev Sh:Nat->List Value->List Value->(List Value->Prop)->Prop
 |0,a,[],P=>P a
 |0,[],_::_,P=>P []
 |0,_::b,c::cs,P=>Sh 0 b cs λa=>P (c::a)
 |n+1,[],_,P=>P []
 |n+1,d::b,cs,P=>Sh n b cs λa=>P (d::a)
abbrev Vj:List Value->List Value->(List Value->Prop)->Prop
 |[],P,a=>a P
 |x::b,P,a=>Vj b P λP=>a (x::P)
abbrev Vk:Nat->List Value->(List Value->Prop)->Prop
 |0,_,P=>P []
 |n+1,[],P=>P []
 |n+1,a::b,P=>Vk n (a::b) λc=>Vj (a::b) c P
section
variable (P:Program) (T:Tr) (R:Ending->World->Prop) (q:Bool) (X:List Nat)
abbrev Xp(a e:Nat)(b:Nat->Value->Prop):Prop:=zT T a λf=>match f with
 |⟨c,_,d,_,_,_,_,_⟩=>match Wr q X c d e with
  |true=>Cx (fD P a) λg=>b 1 g
  |false=>zX c d (b 0)
abbrev XE(c:Nat)(b:List Nat):List Nat->(List Nat->List Value->Prop)->Prop:=
 List.rec (motive:=λ_=>List Nat->(List Nat->List Value->Prop)->Prop) (λ_ a=>a [] []) (λd _ e is a=>match is with
  |f::is=>Xp P T q X d (1000000+c*100+f) λg h=>e is λi b=>a (g::i) (h::b)
  |[]=>a [] []) b
abbrev Ky(a:Nat)(b:Option Tmp)(c:List Nat->Value->Prop):Prop:=zT T a λd=>match d with
 |⟨e,_,_,_,_,_,f,_⟩=>match e with
  |10=>XE P T q X (b.getD 9999) f idx λg h=>c g (.tuple h.toArray)
  |_=>Xp P T q X a (b.getD 9999) λi j=>c [i] j
abbrev PE(b:eg)(c:List (Nat×Nat×Nat)):List (Nat×Operand)->List Value->(List Value->Prop)->Prop
 |[],P,a=>a P
 |(d,e)::f,P,a=>zE b e λ_ g=>VZ g λcs=>CU c d λh=>match h with
  |(i,_,_)=>Sh i P cs λP=>PE b c f P a
abbrev Me(b:eg)(c:Nat):List (Nat×Operand)->List Value->(List Value->Prop)->Prop
 |[],P,a=>a P
 |(d,e)::f,P,a=>zE b e λ_ g=>VZ g λcs=>Sh (d*c) P cs λP=>Me b c f P a
abbrev Si(c:Bool)(d:IntKind):Int->List Value->(Value->Prop)->Prop
 |P,[],a=>a (.int d P)
 |P,f::e,a=>match f with
  | .int _ b=>match c with
   |true=>Si c d (if b>P then b else P) e a
   |false=>Si c d (if b<P then b else P) e a
  |_=>False
abbrev Tq(P:Operand):Bool:=match P with
 | .const _=>true
 |_=>false
abbrev Mf(e:eg)(p:Oper)(P:List Nat->Value->Prop)(no:Prop):Prop:=match p.op with
 | .move f=>zE e f P
 | .assign f=>zE e f P
 | .pick c j h=>zE e c λ_ g=>match g with
  | .bool true=>zE e j P
  | .bool false=>zE e h P
  |_=>False
 | .binOp m k f i _=>zE e f λ_ j=>zE e i λ_ h=>match j,h with
  | .int b a,.int _ d=>match m with
   | .add=>P [0] (.int b (IntKind.wrap b (a+d)))
   | .sub=>P [0] (.int b (IntKind.wrap b (a-d)))
   | .mul=>P [0] (.int b (IntKind.wrap b (a*d)))
   | .quo=>match Tq i with
    |true=>P [0] (.int b (IntKind.wrap b (Int.tdiv a d)))
    |false=>no
   | .rem=>match Tq i with
    |true=>P [0] (.int b (Int.tmod a d))
    |false=>no
   | .shl=>match Tq i with
    |true=>P [0] (.int b (Kz b a d))
    |false=>no
   | .shr=>match Tq i with
    |true=>P [0] (.int b (jH b a d))
    |false=>no
   | .and=>P [0] (.int b (Fu b a d))
   | .or=>P [0] (.int b (Pq b a d))
   | .xor=>P [0] (.int b (qb b a d))
   | .andNot=>P [0] (.int b (uZ b a d))
   | .eql=>P [0] (.bool (a==d))
   | .neq=>P [0] (.bool (a !=d))
   | .lss=>P [0] (.bool (decide (a<d)))
   | .leq=>P [0] (.bool (decide (a<=d)))
   | .gtr=>P [0] (.bool (decide (a>d)))
   | .geq=>P [0] (.bool (decide (a>=d)))
  | .string a,.string d=>match m with
   | .eql=>P [0] (.bool (ByteArray.toList a==ByteArray.toList d))
   | .neq=>P [0] (.bool (!(ByteArray.toList a==ByteArray.toList d)))
   | .lss=>P [0] (.bool (Op.bytesLess (ByteArray.toList a) (ByteArray.toList d)))
   | .leq=>P [0] (.bool (Op.bytesLess (ByteArray.toList a) (ByteArray.toList d)||ByteArray.toList a==ByteArray.toList d))
   | .gtr=>P [0] (.bool (!(Op.bytesLess (ByteArray.toList a) (ByteArray.toList d)||ByteArray.toList a==ByteArray.toList d)))
   | .geq=>P [0] (.bool (!(Op.bytesLess (ByteArray.toList a) (ByteArray.toList d))))
   |_=>no
  | .bool a,.bool d=>match m with
   | .eql=>P [0] (.bool (a==d))
   | .neq=>P [0] (.bool (!(a==d)))
   |_=>no
  |_,_=>no
 | .unOp x _ f=>zE e f λq g=>match x,g with
  | .not,.bool h=>match q with
   |2::_=>match h with
    |true=>P [2] (.bool false)
    |false=>P [2] (.bool true)
   |_=>P [0] (.bool (!h))
  | .neg,.int b a=>P [0] (.int b (IntKind.wrap b (0-a)))
  |_,_=>no
 | .convert u y f=>zT T u λj=>zT T y λh=>match j,h with
  |⟨0,_,_,_,_,_,_,_⟩,⟨0,_,_,_,_,_,_,b⟩=>zE e f λ_ g=>match g with
   | .int _ a=>P [0] (.int b (IntKind.wrap b a))
   |_=>False
  |_,_=>no
 | .field k f o=>zE e f λ_ g=>match g with
  | .agg cs=>zT T k λi=>match i with
   |⟨_,_,_,_,_,r,_,_⟩=>CU r o λs=>match s with
    |(p,t,z)=>Tp p cs.toList λl=>match z with
     |0=>match l with
      |c::_=>P [0] c
      |[]=>False
     |_=>To t l λl=>P [0] (.agg l.toArray)
  |_=>False
 | .build k n=>zT T k λi=>match i with
  |⟨_,_,A,_,_,r,_,_⟩=>PE e r n.toList A λl=>P [0] (.agg l.toArray)
 | .extract f o=>zE e f λq g=>match g with
  | .tuple cs=>CU cs.toList o λc=>zg q o λq=>P [q] c
  |_=>False
 | .makeInterface k f=>zE e f λ_ g=>P [0] (.iface k g)
 | .makeFunc s j c=>zA e j.toList λj=>zA e c.toList λc=>P [0] (.func s j.toArray c.toArray)
 | .fieldAddr k f o=>zE e f λ_ g=>match g with
  | .pointer (some ⟨h,p,_⟩)=>zT T k λi=>match i with
   |⟨_,_,_,_,_,r,_,_⟩=>CU r o λs=>match s with
    |(t,_,_)=>Ue p t λB=>P [0] (.pointer (some ⟨h,B,none⟩))
  |_=>False
 | .call c=>match c.callee with
  | .builtin h=>zA e c.args.toList λl=>match h,l with
   | .len,.slice _ t _::_=>P [0] (.int .i64 ((t:Nat):Int))
   | .len,.string u::_=>P [0] (.int .i64 ((ByteArray.size u:Nat):Int))
   | .max,.int b v::w=>Si true b v w (P [0])
   | .min,.int b v::w=>Si false b v w (P [0])
   |_,_=>no
  |_=>no
 |_=>no
abbrev Uh(b:eg)(P:Option Operand)(a:Option Value->Prop):Prop:=match P with
 |none=>a none
 |some P=>zE b P λ_ c=>a (some c)
abbrev CV(b:eg)(g:Oper)(a:Sem Value->Prop):Prop:=match g.op with
 | .lookup c P f k=>zE b P λ_ P=>zE b f λ_ f=>a (Instr.lookup c P f k)
 | .makeSlice c e d=>zE b e λ_ e=>zE b d λ_ d=>a (Instr.makeSlice c e d)
 | .convert l p P=>zE b P λ_ P=>a (convert l p P)
 | .range c P=>zE b P λ_ P=>a (Instr.range c P)
 | .next h l=>zE b h λ_ h=>a (Instr.next h l g.type)
 | .entry h=>zE b h λ_ h=>a (Instr.entry h)
 | .mapEntry c m f=>zE b m λ_ m=>zE b f λ_ f=>a (Instr.mapEntry c m f)
 | .typeAssert P c q k=>zE b P λ_ P=>a (Instr.typeAssert P c q k)
 | .panic P=>zE b P λ_ P=>a (Instr.panic P)
 | .index c P f=>zE b P λ_ P=>zE b f λ_ f=>a (Instr.index c P f)
 | .binOp i c P n _=>zE b P λ_ o=>zE b n λ_ j=>a (do eqGuard i c P n o j;binOp i c o j)
 | .call d=>match d.callee with
  | .builtin j=>zA b d.args.toList λe=>match j with
   | .append=>a (Builtin.append_ d.argTypes g.type e.toArray)
   | .cap=>a (Builtin.cap_ d.argTypes g.type e.toArray)
   | .clear=>a (Builtin.clear_ d.argTypes g.type e.toArray)
   | .copy=>a (Builtin.copy_ d.argTypes g.type e.toArray)
   | .delete=>a (Builtin.delete_ d.argTypes g.type e.toArray)
   | .len=>a (Builtin.len_ d.argTypes g.type e.toArray)
   | .max=>a (Builtin.max_ d.argTypes g.type e.toArray)
   | .min=>a (Builtin.min_ d.argTypes g.type e.toArray)
   | .panic=>match e with
    |v::_=>a (Instr.panic v)
    |[]=>False
   |_=>False
  |_=>False
 |_=>False
abbrev u_(P:Nat)(a:Nat->Prop):Prop:=zT T P λb=>match b with
 |⟨c,_,_,_,_,_,_,_⟩=>a c
abbrev FU(f:Oper)(P a:Prop):Prop:=match f.op with
 | .lookup .. =>P
 | .next .. =>P
 | .entry _=>P
 | .mapEntry .. =>P
 | .makeSlice .. =>P
 | .convert g h _=>u_ T g λb=>u_ T h λe=>match b,e with
  |0,0=>a
  |_,_=>P
 | .binOp i d _ c _=>match i with
  | .quo=>match Tq c with
   |true=>a
   |false=>P
  | .rem=>match Tq c with
   |true=>a
   |false=>P
  | .shl=>match Tq c with
   |true=>a
   |false=>P
  | .shr=>match Tq c with
   |true=>a
   |false=>P
  | .add=>u_ T d λb=>match b with
   |0=>a
   |_=>P
  | .eql=>u_ T d λb=>match b with
   |0=>a
   |1=>a
   |2=>a
   |_=>P
  | .neq=>u_ T d λb=>match b with
   |0=>a
   |1=>a
   |2=>a
   |_=>P
  |_=>a
 | .call c=>match c.callee with
  | .builtin e=>match e with
   | .append=>P
   | .copy=>P
   | .cap=>P
   | .len=>CU c.argTypes.toList 0 λd=>u_ T d λb=>match b with
    |5=>P
    |_=>a
   |_=>a
  |_=>a
 |_=>a
abbrev PF(f j:Nat)(a b:Nat)(c:World)(d:List Nat->Value->Prop):Prop:=zT T f λk=>match k with
 |⟨g,_,e,_,_,_,_,_⟩=>match Wr q X g e j with
  |true=>oW P f (.pointer (some ⟨a,b,none⟩)) c λl=>d [1] l
  |false=>match Wq g with
   |true=>Xo e λh=>Uf c a b idx h (d [0] (.agg h.toArray))
   |false=>match e with
    |z::_=>z1 z λi=>c.cell? ⟨a,b,none⟩=some i/\d [0] i
    |[]=>False
abbrev Ui(i:eg)(o:Nat)(p:Operand)(g h j:Option Operand)(b:Value->Prop):Prop:=zE i p λ_ n=>Uh i g λg=>Uh i h λh=>Uh i j λj=>zT T o λk=>match k with
 |⟨2,_,_,_,_,_,_,_⟩=>match n with
  | .string d=>match g,h with
   |none,none=>b (.string (d.extract 0 d.size))
   |some (.int _ P),none=>(0:Int)<=P/\P<=((d.size:Nat):Int)/\b (.string (d.extract P.toNat d.size))
   |none,some (.int _ a)=>(0:Int)<=a/\a<=((d.size:Nat):Int)/\b (.string (d.extract 0 a.toNat))
   |some (.int _ P),some (.int _ a)=>(0:Int)<=P/\P<=a/\a<=((d.size:Nat):Int)/\b (.string (d.extract P.toNat a.toNat))
   |_,_=>False
  |_=>False
 |⟨_,_,_,q,_,_,_,_⟩=>match n with
  | .slice f l c=>zT T q λk=>match k with
   |⟨_,m,_,_,_,_,_,_⟩=>match j with
    |none=>match g,h with
     |none,none=>b (.slice f l c)
     |some (.int _ P),none=>(0:Int)<=P/\P<=((l:Nat):Int)/\b (.slice (cI f P.toNat c m) (l-P.toNat) (c-P.toNat))
     |none,some (.int _ a)=>(0:Int)<=a/\a<=((c:Nat):Int)/\b (.slice f a.toNat c)
     |some (.int _ P),some (.int _ a)=>(0:Int)<=P/\P<=a/\a<=((c:Nat):Int)/\b (.slice (cI f P.toNat c m) (a.toNat-P.toNat) (c-P.toNat))
     |_,_=>False
    |some (.int _ e)=>match g,h with
     |none,some (.int _ a)=>(0:Int)<=a/\a<=e/\e<=((c:Nat):Int)/\b (.slice f a.toNat e.toNat)
     |some (.int _ P),some (.int _ a)=>(0:Int)<=P/\P<=a/\a<=e/\e<=((c:Nat):Int)/\b (.slice (cI f P.toNat e.toNat m) (a.toNat-P.toNat) (e.toNat-P.toNat))
     |_,_=>False
    |_=>False
  |_=>False
abbrev PG(P:Nat)(a:Int)(b:Nat)(c:Nat->Prop):Prop:=match b with
 |1=>c (P+a.toNat)
 |_=>c (P+a.toNat*b)
abbrev Uj(g:eg)(j:Nat)(k P:Operand)(h:Value->Prop):Prop:=zE g k λ_ l=>zE g P λ_ m=>zT T j λc=>match c,m with
 |⟨n,_,_,o,d,_,_,_⟩,.int _ P=>zT T o λc=>match c with
  |⟨_,i,_,_,_,_,_,_⟩=>match n,l with
   |3,.slice e p _=>∃a b,e=some ⟨a,b,none⟩/\(0:Int)<=P/\P<((p:Nat):Int)/\PG b P i λf=>h (.pointer (some ⟨a,f,none⟩))
   |7,.pointer e=>∃a b,e=some ⟨a,b,none⟩/\(0:Int)<=P/\P<((d:Nat):Int)/\PG b P i λf=>h (.pointer (some ⟨a,f,none⟩))
   |_,_=>False
 |_,_=>False
abbrev Ws(c:eg)(d:Operand)(P:Value->Prop):Prop:=zE c d λ_ e=>match e with
 | .pointer f=>∃a b,f=some ⟨a,b,none⟩/\P (.pointer (some ⟨a,b,none⟩))
 | .func g h i=>P (.func g h i)
 |_=>False
abbrev Vl(a:eg)(c P:Operand)(d:Value->Prop):Prop:=zE a c λ_ e=>zE a P λ_ f=>match e,f with
 | .string g,.int _ P=>(0:Int)<=P/\∃b,g[P.toNat]? =some b/\d (.int .u8 ((b.toNat:Nat):Int))
 |_,_=>False
abbrev KA(P:Program)(T:Tr)(b c:Nat):List Oper->(Nat->List Value->Prop)->Prop
 |[],a=>a 8 [undef]
 |e::d,a=>match e.op with
  | .extract (.tmp f) g=>match Nat.beq f b with
   |true=>match Nat.beq g c with
    |true=>zT T e.type λh=>match h with
     |⟨i,_,j,_,_,_,_,_⟩=>a i j
    |false=>KA P T b c d a
   |false=>KA P T b c d a
  |_=>KA P T b c d a
abbrev OL(r:List Oper)(o:Value->World->Prop)(z:List PanicEntry->World->Prop)(b:Oper)(f:eg->World->Prop)(a:eg)(e:World):Prop:=
 match b.op with
 | .load i j=>zE a j λ_ j=>match j with
  | .pointer (some ⟨n,of,_⟩)=>PF P T q X i (b.dst.getD 9999) n of e λh d=>eW a b.dst h d λa=>f a e
  |_=>False
 | .store i j g=>zE a j λ_ j=>zE a g λh g=>match j with
  | .pointer (some ⟨n,of,_⟩)=>zT T i λs=>match s with
   |⟨k,_,t,_,_,_,_,_⟩=>match Wr q [] k t 0 with
    |true=>yo P i (.pointer (some ⟨n,of,none⟩)) g e λc=>eW a b.dst [0] undef λa=>f a c
    |false=>match Sg 1 h with
     |true=>yo P i (.pointer (some ⟨n,of,none⟩)) g e λc=>eW a b.dst [0] undef λa=>f a c
     |false=>VZ g λcs=>Ug n of idx cs e λc=>eW a b.dst [0] undef λa=>f a c
  |_=>False
 | .indexAddr i g w=>Uj T a i g w λd=>eW a b.dst [0] d λa=>f a e
 | .slice i g M N O=>Ui T a i g M N O λd=>eW a b.dst [0] d λa=>f a e
 | .nilCheck g=>Ws a g λd=>eW a b.dst [0] d λa=>f a e
 | .index i g w=>Vl a g w λd=>eW a b.dst [0] d λa=>f a e
 | .alloc i=>zT T i λs=>match s with
  |⟨_,_,t,_,_,_,_,_⟩=>PA e (.cells t.toArray i) λc=>eW a b.dst [0] (.pointer (some ⟨e.heap.size,0,none⟩)) λa=>f a c
 | .box i g=>zE a g λh d=>match Sg 1 h with
  |true=>PA e (.cells (Value.cells d) i) λc=>eW a b.dst [0] (.pointer (some ⟨e.heap.size,0,none⟩)) λa=>f a c
  |false=>VZ d λcs=>PA e (.cells cs.toArray i) λc=>eW a b.dst [0] (.pointer (some ⟨e.heap.size,0,none⟩)) λa=>f a c
 | .buildSlice i A u=>zT T i λs=>match s with
  |⟨_,_,_,H,_,_,_,_⟩=>zT T H λs=>match s with
   |⟨_,Q,t,_,_,_,_,_⟩=>Vk A t λB=>Me a Q u.toList B λB=>PA e (.cells B.toArray H) λc=>eW a b.dst [0] (.slice (some ⟨e.heap.size,0,none⟩) A A) λa=>f a c
 | .makeMap _ _=>PA e (.map #[] 0) λc=>eW a b.dst [0] (.map (some e.heap.size)) λa=>f a c
 | .mapUpdate i p k g=>zE a p λ_ p=>zE a k λ_ k=>zE a g λ_ g=>kL P (Instr.mapUpdate i p k g) e (λc=>eW a b.dst [0] undef λa=>f a c) o
 | .insert i p k g=>zE a p λ_ p=>zE a k λ_ k=>zE a g λ_ g=>kL P (Instr.mapUpdate i p k g) e (λc=>eW a b.dst [0] undef λa=>f a c) o
 | .entryStore i p k g=>zE a p λ_ p=>zE a k λ_ k=>zE a g λ_ g=>kL P (Instr.entryStore i p k g) e (λc=>eW a b.dst [0] undef λa=>f a c) o
 | .next S R=>CV a b λm=>aG P m e (λd c=>(d= .tuple #[.bool false]/\eW a b.dst [2] (.tuple #[.bool false]) λa=>f a c)\/(match R with
  |true=>∃w I,d= .tuple #[.bool true,.int .i64 w,.int .i32 I]/\eW a b.dst [2,0,0] (.tuple #[.bool true,.int .i64 w,.int .i32 I]) λa=>f a c
  |false=>∃k g,d= .tuple #[.bool true,k,g]/\eW a b.dst [2,0,0] (.tuple #[.bool true,k,g]) λa=>f a c)) o
 | .entry _=>CV a b λm=>KA P T (b.dst.getD 9999) 0 r λC E=>KA P T (b.dst.getD 9999) 1 r λF z1=>aG P m e (λd c=>zX C E λj=>zX F z1 λn=>d= .tuple #[j,n]/\eW a b.dst [0,0] (.tuple #[j,n]) λa=>f a c) o
 | .mapEntry _ _ _=>CV a b λm=>KA P T (b.dst.getD 9999) 0 r λC E=>KA P T (b.dst.getD 9999) 1 r λF z1=>aG P m e (λd c=>zX C E λj=>zX F z1 λn=>d= .tuple #[j,n]/\eW a b.dst [0,0] (.tuple #[j,n]) λa=>f a c) o
 | .typeAssert _ _ l true=>CV a b λm=>zT T l λs=>match s with
  |⟨k,_,t,_,_,_,_,_⟩=>aG P m e (λd c=>zX k t λj=>∃n,d= .tuple #[j,.bool n]/\eW a b.dst [0,0] (.tuple #[j,.bool n]) λa=>f a c) o
 | .call y=>match y.callee with
  | .value (.func h)=>zA a y.args.toList λj=>PC P h j.toArray e (λd c=>Ky P T q X b.type b.dst λh l=>d=l/\eW a b.dst h l λa=>f a c) z
  | .value v=>zE a v λ_ v=>zA a y.args.toList λj=>∃h J K,v= .func (.func h) J K/\enters P h=true/\PC P h (J++j.toArray++K) e (λd c=>Ky P T q X b.type b.dst λh l=>d=l/\eW a b.dst h l λa=>f a c) z
  | .invoke v x=>zE a v λ_ v=>zA a y.args.toList λj=>∃h L,(∀e,(callMethod v x j.toArray).run P e= .ok (.enter h L) e)/\PC P h L e (λd c=>Ky P T q X b.type b.dst λh l=>d=l/\eW a b.dst h l λa=>f a c) z
  |_=>FU T b (CV a b λm=>aG P m e (λd c=>Ky P T q X b.type b.dst λh l=>d=l/\eW a b.dst h l λa=>f a c) o)
   (Mf T a b (λh d=>eW a b.dst h d λa=>f a e) (CV a b λm=>aG P m e (λd c=>eW a b.dst [1] d λa=>f a c) o))
 |_=>FU T b (CV a b λm=>aG P m e (λd c=>Ky P T q X b.type b.dst λh l=>d=l/\eW a b.dst h l λa=>f a c) o)
   (Mf T a b (λh d=>eW a b.dst h d λa=>f a e) (CV a b λm=>aG P m e (λd c=>eW a b.dst [1] d λa=>f a c) o))
abbrev Vm(P:List Oper)(a:Nat)(b:Nat->Prop):Prop:=CU P a λc=>match c.dst with
 |some d=>b d
 |none=>False
abbrev FV(f:List Oper)(g:Oper)(a:eg)(b P:eg->Prop):Prop:=match g.guard with
 |none=>b a
 |some (h,d)=>Vm f h λc=>zL a c λi j=>match j with
  | .bool e=>match Sg 2 i with
   |true=>match d with
    |true=>match e with
     |true=>b ((c,[2],.bool true)::a)
     |false=>P ((c,[2],.bool false)::a)
    |false=>match e with
     |true=>P ((c,[2],.bool true)::a)
     |false=>b ((c,[2],.bool false)::a)
   |false=>match d with
    |true=>al e (b ((c,[2],.bool true)::a)) (P ((c,[2],.bool false)::a))
    |false=>al e (P ((c,[2],.bool true)::a)) (b ((c,[2],.bool false)::a))
  | .tuple _=>P a
  |_=>False
abbrev Wu(c:List Oper)(g:Value->World->Prop)(h:List PanicEntry->World->Prop)(i:List Oper):(eg->World->Prop)->eg->World->Prop:=
 List.rec (motive:=λ_=>(eg->World->Prop)->eg->World->Prop) (λd a b=>d a b)
  (λe _ f d a b=>FV c e a (λa=>OL P T q X c g h e (λa b=>f d a b) a b) (λa=>eW a e.dst [0] undef λa=>f d a b)) i
abbrev XF(d:Oper)(P:Nat->Prop):Prop:=match d.op with
 | .move _=>P 0
 | .assign _=>P 0
 | .pick .. =>P 0
 | .build .. =>P 0
 | .binOp .. =>P 0
 | .unOp .. =>P 0
 | .indexAddr .. =>P 0
 | .slice .. =>P 0
 | .nilCheck _=>P 0
 | .fieldAddr .. =>P 0
 | .field .. =>P 0
 | .index .. =>P 0
 | .extract .. =>P 0
 | .typeAssert .. =>P 0
 | .convert e f _=>u_ T e λa=>u_ T f λb=>match a,b with
  |0,0=>P 0
  |_,_=>P 2
 | .load .. =>P 1
 | .lookup .. =>P 1
 | .call c=>match c.callee with
  | .builtin b=>match b with
   | .len=>CU c.argTypes.toList 0 λg=>u_ T g λa=>match a with
    |5=>P 1
    |_=>P 0
   | .cap=>P 0
   | .max=>P 0
   | .min=>P 0
   |_=>P 2
  |_=>P 2
 |_=>P 2
abbrev Vn:List Oper->(List Nat->Prop)->Prop
 |[],P=>P []
 |a::b,P=>XF T a λc=>Vn b λd=>P (c::d)
abbrev Sj:List Edge->(List Nat->Prop)->Prop
 |[],P=>P []
 |e::a,P=>match e with
  |⟨b,c⟩=>match c with
   | .textOnly _=>Sj a P
   | .gcOnly _=>Sj a P
   |_=>Sj a λd=>P (b::d)
abbrev Ts:List Oper->(List (List Nat)->Prop)->Prop
 |[],P=>P []
 |a::b,P=>Sj a.after.toList λc=>Ts b λd=>P (c::d)
abbrev Tt:List Nat->Bool
 |[]=>false
 |k::P=>match k with
  |2=>true
  |_=>Tt P
abbrev Tu:List Nat->List Nat->Bool
 |[],_=>true
 |a::b,P=>match zm P a with
  |true=>Tu b P
  |false=>false
abbrev Sk:List Nat:=[0,1,2,3,4,5,6,7,8,9,10,11,12,13,14,15,16,17,18,19,20,21,22,23,24,25,26,27,28,29,30,31,32,33,34,35,36,37,38,39,40,41,42,43,44,45,46,47,48,49,50,51,52,53,54,55,56,57,58,59,60,61,62,63]
abbrev tN(P:List Nat):List Nat->List (List Nat)->List Nat
 |b::is,c::a=>match zm P b with
  |true=>tN P is a
  |false=>match Tu c P with
   |true=>b::tN P is a
   |false=>tN P is a
 |_,_=>[]
abbrev Vo:List Nat->Nat->Nat
 |[],_=>2
 |x::P,a=>match a with
  |0=>x
  |b+1=>Vo P b
abbrev PH(P:List Nat):List Nat->Option Nat
 |[]=>none
 |a::b=>match Vo P a with
  |2=>PH P b
  |_=>some a
abbrev FX(P:Nat):List Nat->Option Nat
 |[]=>none
 |a::b=>match Nat.beq P a with
  |true=>FX P b
  |false=>some a
abbrev KB(b:List (List Nat))(c:Nat):List Oper->List Nat->(List Nat->Prop)->Prop
 |[],P,a=>a P
 |_::d,P,a=>match FX c (tN P Sk b)with
  |some e=>KB b c d (e::P) a
  |none=>a P
abbrev PI(a P:List Nat):List Nat->Bool
 |[]=>true
 |b::c=>match zm P b with
  |true=>PI a P c
  |false=>match Vo a b with
   |2=>false
   |_=>PI a P c
abbrev PJ(b:List (List Nat))(e:List Nat)(f:List Oper)(c:Nat)(P:List Nat)(a:Bool->Prop):Prop:=KB b c f P λd=>match FX c (tN d Sk b)with
 |some _=>a false
 |none=>match PI e P d with
  |true=>a true
  |false=>a false
abbrev Uk:List Nat->List Nat->(List Nat->Prop)->Prop
 |[],P,b=>b P
 |a::c,P,b=>match zm P a with
  |true=>Uk c P b
  |false=>Uk c (a::P) b
abbrev Vp(c:List (List Nat))(f:List Oper)(d:Nat)(P:List Nat)(a:Option (List Nat))(b:Option (List Nat)->Prop):Prop:=match a with
 |none=>b none
 |some a=>KB c d f P λe=>match FX d (tN e Sk c)with
  |some _=>b none
  |none=>Uk e a λa=>b (some a)
abbrev Wv(b:List Nat):(Nat->Prop)->Prop:=
 List.rec (motive:=λ_=>(Nat->Prop)->Prop) (λ_=>True) (λa c d P=>match c with
  |[]=>P a
  |_::_=>P a/\d P) b
abbrev XG(P:Option (List Nat))(a:Nat):Bool:=match P with
 |none=>true
 |some P=>zm P a
abbrev qt(P:Value)(a:World):Prop:=∀(_:cd) (_:cZ),R (.panicked [{v:=P,recovered:=false}]) a
abbrev qu(P:List PanicEntry)(a:World):Prop:=∀(_:cd) (_:cZ),R (.panicked P) a
abbrev Sl(c:List Oper)(b:Oper)(o:Nat)(e:Bool)(m:Nat->Prop)(f:eg->Prop)(a:eg)(d:World):Prop:=
 match b.op with
 | .load p j=>match e with
  |true=>zE a j λ_ j=>match j with
   | .pointer (some ⟨n,of,_⟩)=>¬m n/\PF P T q X p (b.dst.getD 9999) n of d λh k=>eW a b.dst h k λa=>f a
   |_=>False
  |false=>OL P T q X c (qt R) (qu R) b (λa _=>f a) a d
 | .indexAddr .. =>OL P T q X c (qt R) (qu R) b (λa _=>f a) a d
 | .slice .. =>OL P T q X c (qt R) (qu R) b (λa _=>f a) a d
 | .nilCheck .. =>OL P T q X c (qt R) (qu R) b (λa _=>f a) a d
 | .index .. =>OL P T q X c (qt R) (qu R) b (λa _=>f a) a d
 |_=>FU T b (CV a b λl=>Ky P T q X b.type b.dst λh i=>(match o with
   |0=>∀g,l.run P g= .ok i g
   |_=>match e with
    |true=>∀g,aj m d g->l.run P g= .ok i g
    |false=>l.run P d= .ok i d)/\eW a b.dst h i λa=>f a)
  (Mf T a b (λh k=>eW a b.dst h k λa=>f a) False)
abbrev Ul(c:List Oper)(n:List (List Nat))(l:List Nat)(p:List Oper)(i:Bool)(j:Nat->Prop)(r:eg->World->Prop)(k:List Oper):List Nat->Option (List Nat)->eg->World->Prop:=
 List.rec (motive:=λ_=>List Nat->Option (List Nat)->eg->World->Prop) (λ_ _ b e=>r b e) (λ_ _ h a f b e=>match tN a Sk n with
  |[]=>r b e
  |s=>match PH l s with
   |some d=>CU c d λg=>(λo=>FV c g b o (λb=>eW b g.dst [0] undef λb=>h (d::a) f b e)) (match i with
    |false=>λb=>Sl P T R q X c g (Vo l d) false j (λb=>h (d::a) f b e) b e
    |true=>match Vo l d with
     |0=>λb=>Sl P T R q X c g 0 false j (λb=>h (d::a) f b e) b e
     |_=>λb=>PJ n l p d a λt=>match t with
      |true=>Sl P T R q X c g 1 false j (λb=>h (d::a) f b e) b e
      |false=>Vp n p d a f λf=>Sl P T R q X c g 1 true j (λb=>h (d::a) f b e) b e)
   |none=>Wv s λd=>CU c d λg=>FV c g b (λb=>OL P T q X c (qt R) (qu R) g (λb m=>match i with
     |false=>h (d::a) f b m
     |true=>match XG f d with
      |true=>aj j e m/\h (d::a) f b m
      |false=>h (d::a) f b m) b e) (λb=>eW b g.dst [0] undef λb=>h (d::a) f b e)) k
abbrev Vq(d:List Oper)(j:List Oper):(eg->Prop)->eg->World->Prop:=
 List.rec (motive:=λ_=>(eg->Prop)->eg->World->Prop) (λe a _=>e a) (λb _ f e a c=>FV d b a (λa=>match b.op with
  | .load .. =>OL P T q X d (qt R) (qu R) b (λa _=>f e a c) a c
  | .indexAddr .. =>OL P T q X d (qt R) (qu R) b (λa _=>f e a c) a c
  | .slice .. =>OL P T q X d (qt R) (qu R) b (λa _=>f e a c) a c
  | .nilCheck .. =>OL P T q X d (qt R) (qu R) b (λa _=>f e a c) a c
  | .index .. =>OL P T q X d (qt R) (qu R) b (λa _=>f e a c) a c
  |_=>FU T b (CV a b λk=>Ky P T q X b.type b.dst λg h=>(∀i,k.run P (c.drewN i)= .ok h (c.drewN i))/\eW a b.dst g h λa=>f e a c)
   (Mf T a b (λg l=>eW a b.dst g l λa=>f e a c) False)) (λa=>eW a b.dst [0] undef λa=>f e a c)) j
abbrev FY:Code->Option Nat
 | .region id _ _=>some id
 | .seq a b=>match FY a with
  |some c=>some c
  |none=>FY b
 | .cond _ a b=>match FY a with
  |some c=>some c
  |none=>FY b
 | .block _ P=>FY P
 | .loop P=>FY P
 | .scope P=>FY P
 |_=>none
abbrev Um:List Oper->List Nat->List Nat
 |[],P=>P
 |b::a,P=>match b.dst with
  |some c=>c::Um a P
  |none=>Um a P
abbrev Sm:Code->List Nat->List Nat
 | .region _ b _,P=>Um b.toList P
 | .seq c d,P=>Sm c (Sm d P)
 | .cond _ c d,P=>Sm c (Sm d P)
 | .block _ a,P=>Sm a P
 | .loop a,P=>Sm a P
 | .scope a,P=>Sm a P
 |_,P=>P
abbrev Sn(a:List Nat):eg->(eg->Prop)->Prop
 |[],P=>P []
 |(b,d,e)::c,P=>match zm a b with
  |true=>Sn a c P
  |false=>Sn a c λf=>P ((b,d,e)::f)
abbrev PK(a:List (Nat×List (Nat×Value)))(b:Option Nat):Option (List (Nat×Value)):=match b with
 |none=>none
 |some P=>match a with
  |[]=>none
  |(c,d)::e=>match Nat.beq c P with
   |true=>some d
   |false=>PK e (some P)
abbrev RF:List (Nat×Value)->List Value
 |[]=>[]
 |(_,P)::a=>P::RF a
abbrev PL:List Value->Type->Type
 |[],P=>P
 |z::a,P=>match z with
  | .int _ _=>Int->PL a P
  | .bool _=>Bool->PL a P
  | .string _=>ByteArray->PL a P
  | .slice _ _ _=>Option Addr->Nat->Nat->PL a P
  | .pointer (some _)=>Nat->Nat->PL a P
  | .pointer none=>Option Addr->PL a P
  | .map _=>Option Nat->PL a P
  |_=>Value->PL a P
abbrev CW:(a:List Value)->PL a (World->Prop)->List Value->World->Prop
 |[],P,_,b=>P b
 |z::a,P,c,b=>match c with
  |[]=>False
  |v::c=>match z,P with
   | .int l _,P=>match v with
    | .int _ d=>CW a (P d) c b
    |_=>False
   | .bool _,P=>match v with
    | .bool e=>CW a (P e) c b
    |_=>False
   | .string _,P=>match v with
    | .string f=>CW a (P f) c b
    |_=>False
   | .slice _ _ _,P=>match v with
    | .slice g d h=>CW a (P g d h) c b
    |_=>False
   | .pointer (some _),P=>match v with
    | .pointer (some ⟨e,i,_⟩)=>CW a (P e i) c b
    |_=>False
   | .pointer none,P=>match v with
    | .pointer j=>CW a (P j) c b
    |_=>False
   | .map _,P=>match v with
    | .map k=>CW a (P k) c b
    |_=>False
   | .float _ _,P=>CW a (P v) c b
   | .complex _ _ _,P=>CW a (P v) c b
   | .chan _,P=>CW a (P v) c b
   | .func _ _ _,P=>CW a (P v) c b
   | .nilFunc,P=>CW a (P v) c b
   | .iface _ _,P=>CW a (P v) c b
   | .nilIface,P=>CW a (P v) c b
   | .agg _,P=>CW a (P v) c b
   | .tuple _,P=>CW a (P v) c b
abbrev Tv(P:List Value):(List Value->Prop)->Prop:=
 List.rec (motive:=λ_=>(List Value->Prop)->Prop) (λa=>a []) (λe _ b a=>match e with
  | .int f _=>∀c:Int,b λP=>a (.int f c::P)
  | .bool _=>∀d:Bool,b λP=>a (.bool d::P)
  | .string _=>∀g:ByteArray,b λP=>a (.string g::P)
  | .slice _ _ _=>∀(h:Option Addr) (c i:Nat),b λP=>a (.slice h c i::P)
  | .pointer (some _)=>∀(d j:Nat),b λP=>a (.pointer (some ⟨d,j,none⟩)::P)
  | .pointer none=>∀k:Option Addr,b λP=>a (.pointer k::P)
  | .map _=>∀l:Option Nat,b λP=>a (.map l::P)
  |_=>∀m:Value,b λP=>a (m::P)) P
abbrev Mg(a:eg):List (Nat×Value)->(List Value->Prop)->Prop
 |[],P=>P []
 |(b,_)::c,P=>zL a b λ_ d=>Mg a c λe=>P (d::e)
abbrev PM:List (Nat×Value)->List Value->eg->(eg->Prop)->Prop
 |(b,_)::c,d::e,P,a=>PM c e P λP=>a ((b,[0],d)::P)
 |_,_,P,a=>a P
abbrev zC(o:kf)(s:eg->World->Prop)(j:Code):(eg->World->Prop)->(Nat->eg->World->Prop)->eg->World->Prop:=
 Code.rec (motive:=λ_=>(eg->World->Prop)->(Nat->eg->World->Prop)->eg->World->Prop)
  (λd _ a b=>d a b)
  (λid c k d _ a b=>match k with
   |false=>Wu P T q X c.toList (λt b=>R (.panicked [{v:=t,recovered:=false}]) b) (λE b=>R (.panicked E) b) c.toList d a b
   |true=>Vn T c.toList λp=>match Tt p with
    |false=>Vq P T R q X c.toList c.toList (λa=>∀g,bX b g->d a g) a b
    |true=>Ts c.toList λu=>match zm o.keeps id with
     |true=>∀g,bX b g->∃e:Nat->Prop,match zm o.PN id with
      |true=>Ul P T R q X c.toList u p c.toList true e d c.toList [] (some []) a g
      |false=>Ul P T R q X c.toList u p c.toList true e d c.toList [] none a g
     |false=>∀g,bX b g->Ul P T R q X c.toList u p c.toList false (λ_=>False) d c.toList [] none a g)
  (λx y h i d f a b=>match PK o.PO (FY y)with
   |none=>h (λa b=>i d f a b) f a b
   |some e=>∃z:PL (RF e) (World->Prop),h (λa b=>Mg a e λl=>CW (RF e) z l b) f a b/\
     Sn (Sm x []) a λv=>Tv (RF e) λm=>∀(F:Nat->Value) (g:World),CW (RF e) z m g->PM e m v λa=>i d f a g)
  (λj x y h i d f a b=>zE a j λH t=>match t with
   | .bool A=>match Sg 2 H with
    |true=>match A with
     |true=>h d f a b
     |false=>i d f a b
    |false=>al A (h d f a b) (i d f a b)
   |_=>False)
  (λid _ n d f a b=>n d (λB a b=>match Nat.beq B id with
   |true=>d a b
   |false=>f B a b) a b)
  (λj n d f a b=>match PK o.loops (FY j)with
   |none=>False
   |some e=>∃w:Nat->PL (RF e) (World->Prop),(∃r,Mg a e λl=>CW (RF e) (w r) l b)/\
     ∀r,Sn (Sm j []) a λv=>Tv (RF e) λm=>∀(F:Nat->Value) (g:World),CW (RF e) (w r) m g->
      PM e m v λa=>n (λa b=>∃C,C<r/\Mg a e λl=>CW (RF e) (w C) l b) f a g)
  (λ_ _ _ _ _ _ _ _ _ _=>False)
  (λid _ f a b=>f id a b)
  (λ_ n d f a b=>n d f a b)
  (λ_ d _ a b=>d a b)
  (λ_ _ _ _ _=>False)
  (λ_ _ a b=>s a b)
  (λ_ _ _ _ _=>False) j
abbrev Ww(e:eg)(h:World)(a:List ResultVar):(List Value->Prop)->Prop:=
 List.rec (motive:=λ_=>(List Value->Prop)->Prop) (λb=>b []) (λi _ f b=>match i with
  | .tmp c=>zL e c λ_ d=>f λa=>b (d::a)
  | .cell g c=>zL e g λ_ j=>match j with
   | .pointer (some ⟨k,l,_⟩)=>PF P T q X c (2000000+g) k l h λ_ d=>f λa=>b (d::a)
   |_=>False) a
abbrev Vr(c:List ResultVar)(d:eg)(a:World):Prop:=Ww P T q X d a c λb=>match b with
 |[e]=>R (.returned e) a
 |b=>R (.returned (.tuple b.toArray)) a
abbrev Tw:List Nat->List Value->(eg->Prop)->Prop
 |a::is,b::c,P=>Tw is c λd=>P ((a,[0],b)::d)
 |_,_,P=>P []
end
structure An where
 A:kf
 q:Bool
 X:List Nat
abbrev Vg(a:Program)(b:Tr)(g:An)(f:List ResultVar)(h:Code)(P:List Value)(i:World)(c:Ending->World->Prop):Prop:=match g with
 |⟨j,d,e⟩=>Tw idx P λk=>zC a b c d e j (Vr a b c d e f) h (Vr a b c d e f) (λ_ _ _=>False) k i

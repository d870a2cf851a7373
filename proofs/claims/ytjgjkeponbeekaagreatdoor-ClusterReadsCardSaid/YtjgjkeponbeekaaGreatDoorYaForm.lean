import Derived.Test.YtjgjkeponbeekaaGreatDoorYaLift
set_option linter.all false
namespace Go.ar
open Go
structure Ty where
 k:Nat
 size:Nat
 zs:List Value
 el:Nat
 n:Nat
 fs:List (Nat×Nat×Nat)
 ts:List Nat
 ik:IntKind
inductive Tr where
 |n
 |b (l:Tr) (i:Nat) (v:Ty) (r:Tr)
abbrev RN(a:Nat):List Nat->Bool
 |[]=>false
 |x::b=>match b with
  |[]=>Nat.beq x a
  |_::_=>false
abbrev dw:=List (Nat×List Nat×Value)
abbrev zT:Tr->Nat->(Ty->Prop)->Prop
 | .n,_,_=>False
 | .b d c e f,a,b=>match Nat.beq a c with
  |true=>b e
  |false=>match Nat.ble a c with
   |true=>zT d a b
   |false=>zT f a b
abbrev zm:List Nat->Nat->Bool
 |[],_=>false
 |d::b,a=>match Nat.beq d a with
  |true=>true
  |false=>zm b a
abbrev Cz{a:Type}:List a->Nat->(a->Prop)->Prop
 |[],_,_=>False
 |x::c,d,b=>match d with
  |0=>b x
  |e+1=>Cz c e b
abbrev zg:List Nat->Nat->(Nat->Prop)->Prop
 |[],_,a=>a 0
 |x::b,c,a=>match c with
  |0=>a x
  |d+1=>zg b d a
abbrev zL:dw->Nat->(List Nat->Value->Prop)->Prop
 |[],_,_=>False
 |(c,d,e)::f,a,b=>match Nat.beq c a with
  |true=>b d e
  |false=>zL f a b
abbrev zE(b:dw)(c:Operand)(a:List Nat->Value->Prop):Prop:=match c with
 | .tmp d=>zL b d a
 | .const e=>a [2] e
 | .global f=>a [0] (.pointer (some ⟨f,0,none⟩))
 | .func g=>a [0] (.func (.func g) #[] #[])
abbrev zA(b:dw):List Operand->(List Value->Prop)->Prop
 |[],a=>a []
 |x::c,a=>zE b x λ_ d=>zA b c λe=>a (d::e)
abbrev eh(b:dw)(a:Option Tmp)(d:List Nat)(e:Value)(c:dw->Prop):Prop:=match a with
 |some a=>c ((a,d,e)::b)
 |none=>c b
abbrev Wx(a:Nat):Bool:=match a with
 |6=>true
 |7=>true
 |_=>false
abbrev Wy(a:Bool)(b:List Nat)(c:Nat)(d:List Value)(e:Nat):Bool:=match a with
 |false=>false
 |true=>match Wx c with
  |false=>false
  |true=>match d with
   |_::_::_::_=>match zm b e with
    |true=>false
    |false=>true
   |_=>false
abbrev z1(c:Value)(a:Value->Prop):Prop:=match c with
 | .int d _=>∃b:Int,a (.int d b)
 | .bool _=>∃e:Bool,a (.bool e)
 | .string _=>∃f:ByteArray,a (.string f)
 | .slice _ _ _=>∃(g:Option Addr) (b h:Nat),a (.slice g b h)
 | .pointer _=>∃i:Option Addr,a (.pointer i)
 | .map _=>∃j:Option Nat,a (.map j)
 |_=>∃k:Value,a k
abbrev WV(a:List Value):(List Value->Prop)->Prop:=
 List.rec (motive:=λ_=>(List Value->Prop)->Prop) (λb=>b []) (λc _ d b=>z1 c λe=>d λa=>b (e::a)) a
abbrev zX(c:Nat)(a:List Value)(b:Value->Prop):Prop:=match Wx c with
 |true=>WV a λd=>b (.agg d.toArray)
 |false=>match a with
  |z::_=>z1 z b
  |[]=>False
abbrev idx:List Nat:=[0,1,2,3,4,5,6,7,8,9,10,11,12,13,14,15,16,17,18,19]
abbrev TJ(a:Nat)(b:Nat)(c:Nat->Prop):Prop:=match b with
 |0=>c a
 |_=>c (a+b)
abbrev TK(c:World)(d e:Nat)(f:List Nat):List Value->Prop->Prop:=
 List.rec (motive:=λ_=>List Value->Prop->Prop) (λ_ a=>a) (λg _ h b a=>match b with
  |v::b=>(TJ e g λi=>c.cell? ⟨d,i,none⟩=some v/\h b a)
  |[]=>a) f
abbrev TL(d e:Nat)(f:List Nat):List Value->World->(World->Prop)->Prop:=
 List.rec (motive:=λ_=>List Value->World->(World->Prop)->Prop) (λ_ a b=>b a) (λg _ h c a b=>match c with
  |v::c=>(TJ e g λi=>PS a ⟨d,i,none⟩ v λj=>h c j b)
  |[]=>b a) f
abbrev VH(v:Value)(a:List Value->Prop):Prop:=match v with
 | .agg ⟨b⟩=>a b
 |v=>a [v]
abbrev SS:Nat->List Value->(List Value->Prop)->Prop
 |0,_,a=>a []
 |n+1,[],a=>a []
 |n+1,b::c,a=>SS n c λd=>a (b::d)
abbrev SU:Nat->List Value->(List Value->Prop)->Prop
 |0,b,a=>a b
 |n+1,[],a=>a []
 |n+1,_::c,a=>SU n c a
abbrev RO:Nat->List Value->List Value->(List Value->Prop)->Prop
 |0,b,[],a=>a b
 |0,[],_::_,a=>a []
 |0,_::c,d::cs,a=>RO 0 c cs λb=>a (d::b)
 |n+1,[],_,a=>a []
 |n+1,e::c,cs,a=>RO n c cs λb=>a (e::b)
abbrev UT:List Value->List Value->(List Value->Prop)->Prop
 |[],a,b=>b a
 |x::c,a,b=>UT c a λa=>b (x::a)
abbrev UU:Nat->List Value->(List Value->Prop)->Prop
 |0,_,a=>a []
 |n+1,[],a=>a []
 |n+1,b::c,a=>UU n (b::c) λd=>UT (b::c) d a
section
variable (P:Program) (T:Tr) (R:Ending->World->Prop) (q:Bool) (X:List Nat)
abbrev WW(a e:Nat)(b:Nat->Value->Prop):Prop:=zT T a λf=>match f with
 |⟨c,_,d,_,_,_,_,_⟩=>match Wy q X c d e with
  |true=>pI (cJ P a) λg=>b 1 g
  |false=>zX c d (b 0)
abbrev Xp(c:Nat)(b:List Nat):List Nat->(List Nat->List Value->Prop)->Prop:=
 List.rec (motive:=λ_=>List Nat->(List Nat->List Value->Prop)->Prop) (λ_ a=>a [] []) (λd _ e is a=>match is with
  |f::is=>WW P T q X d (1000000+c*100+f) λg h=>e is λi b=>a (g::i) (h::b)
  |[]=>a [] []) b
abbrev Kl(a:Nat)(b:Option Tmp)(c:List Nat->Value->Prop):Prop:=zT T a λd=>match d with
 |⟨e,_,_,_,_,_,f,_⟩=>match e with
  |10=>Xp P T q X (b.getD 9999) f idx λg h=>c g (.tuple h.toArray)
  |_=>WW P T q X a (b.getD 9999) λi j=>c [i] j
abbrev Pt(c:dw)(d:List (Nat×Nat×Nat)):List (Nat×Operand)->List Value->(List Value->Prop)->Prop
 |[],a,b=>b a
 |(e,f)::g,a,b=>zE c f λ_ h=>VH h λcs=>Cz d e λi=>match i with
  |(j,_,_)=>RO j a cs λa=>Pt c d g a b
abbrev LG(c:dw)(d:Nat):List (Nat×Operand)->List Value->(List Value->Prop)->Prop
 |[],a,b=>b a
 |(e,f)::g,a,b=>zE c f λ_ h=>VH h λcs=>RO (e*d) a cs λa=>LG c d g a b
abbrev RP(d:Bool)(e:IntKind):Int->List Value->(Value->Prop)->Prop
 |a,[],b=>b (.int e a)
 |a,g::f,b=>match g with
  | .int _ c=>match d with
   |true=>RP d e (if c>a then c else a) f b
   |false=>RP d e (if c<a then c else a) f b
  |_=>False
abbrev SV(a:Operand):Bool:=match a with
 | .const _=>true
 |_=>false
abbrev LH(f:dw)(q:Oper)(a:List Nat->Value->Prop)(no:Prop):Prop:=match q.op with
 | .move g=>zE f g a
 | .assign g=>zE f g a
 | .pick c k i=>zE f c λ_ h=>match h with
  | .bool true=>zE f k a
  | .bool false=>zE f i a
  |_=>False
 | .binOp n l g j _=>zE f g λ_ k=>zE f j λ_ i=>match k,i with
  | .int d b,.int _ e=>match n with
   | .add=>a [0] (.int d (IntKind.wrap d (b+e)))
   | .sub=>a [0] (.int d (IntKind.wrap d (b-e)))
   | .mul=>a [0] (.int d (IntKind.wrap d (b*e)))
   | .quo=>match SV j with
    |true=>a [0] (.int d (IntKind.wrap d (Int.tdiv b e)))
    |false=>no
   | .rem=>match SV j with
    |true=>a [0] (.int d (Int.tmod b e))
    |false=>no
   | .shl=>match SV j with
    |true=>a [0] (.int d (Ht d b e))
    |false=>no
   | .shr=>match SV j with
    |true=>a [0] (.int d (gw d b e))
    |false=>no
   | .and=>a [0] (.int d (Ai d b e))
   | .or=>a [0] (.int d (Oe d b e))
   | .xor=>a [0] (.int d (pQ d b e))
   | .andNot=>a [0] (.int d (lf d b e))
   | .eql=>a [0] (.bool (b==e))
   | .neq=>a [0] (.bool (b !=e))
   | .lss=>a [0] (.bool (decide (b<e)))
   | .leq=>a [0] (.bool (decide (b<=e)))
   | .gtr=>a [0] (.bool (decide (b>e)))
   | .geq=>a [0] (.bool (decide (b>=e)))
  | .string b,.string e=>match n with
   | .eql=>a [0] (.bool (ByteArray.toList b==ByteArray.toList e))
   | .neq=>a [0] (.bool (!(ByteArray.toList b==ByteArray.toList e)))
   | .lss=>a [0] (.bool (Op.bytesLess (ByteArray.toList b) (ByteArray.toList e)))
   | .leq=>a [0] (.bool (Op.bytesLess (ByteArray.toList b) (ByteArray.toList e)||ByteArray.toList b==ByteArray.toList e))
   | .gtr=>a [0] (.bool (!(Op.bytesLess (ByteArray.toList b) (ByteArray.toList e)||ByteArray.toList b==ByteArray.toList e)))
   | .geq=>a [0] (.bool (!(Op.bytesLess (ByteArray.toList b) (ByteArray.toList e))))
   |_=>no
  | .bool b,.bool e=>match n with
   | .eql=>a [0] (.bool (b==e))
   | .neq=>a [0] (.bool (!(b==e)))
   |_=>no
  |_,_=>no
 | .unOp y _ g=>zE f g λr h=>match y,h with
  | .not,.bool i=>match r with
   |2::_=>match i with
    |true=>a [2] (.bool false)
    |false=>a [2] (.bool true)
   |_=>a [0] (.bool (!i))
  | .neg,.int d b=>a [0] (.int d (IntKind.wrap d (0-b)))
  |_,_=>no
 | .convert v z g=>zT T v λk=>zT T z λi=>match k,i with
  |⟨0,_,_,_,_,_,_,_⟩,⟨0,_,_,_,_,_,_,d⟩=>zE f g λ_ h=>match h with
   | .int _ b=>a [0] (.int d (IntKind.wrap d b))
   |_=>False
  |_,_=>no
 | .field l g p=>zE f g λ_ h=>match h with
  | .agg cs=>zT T l λj=>match j with
   |⟨_,_,_,_,_,s,_,_⟩=>Cz s p λt=>match t with
    |(q,u,A)=>SU q cs.toList λm=>match A with
     |0=>match m with
      |c::_=>a [0] c
      |[]=>False
     |_=>SS u m λm=>a [0] (.agg m.toArray)
  |_=>False
 | .build l o=>zT T l λj=>match j with
  |⟨_,_,B,_,_,s,_,_⟩=>Pt f s o.toList B λm=>a [0] (.agg m.toArray)
 | .extract g p=>zE f g λr h=>match h with
  | .tuple cs=>Cz cs.toList p λc=>zg r p λr=>a [r] c
  |_=>False
 | .makeInterface l g=>zE f g λ_ h=>a [0] (.iface l h)
 | .makeFunc t k c=>zA f k.toList λk=>zA f c.toList λc=>a [0] (.func t k.toArray c.toArray)
 | .fieldAddr l g p=>zE f g λ_ h=>match h with
  | .pointer (some ⟨i,q,_⟩)=>zT T l λj=>match j with
   |⟨_,_,_,_,_,s,_,_⟩=>Cz s p λt=>match t with
    |(u,_,_)=>TJ q u λC=>a [0] (.pointer (some ⟨i,C,none⟩))
  |_=>False
 | .call c=>match c.callee with
  | .builtin i=>zA f c.args.toList λm=>match i,m with
   | .len,.slice _ u _::_=>a [0] (.int .i64 ((u:Nat):Int))
   | .len,.string v::_=>a [0] (.int .i64 ((ByteArray.size v:Nat):Int))
   | .max,.int d w::x=>RP true d w x (a [0])
   | .min,.int d w::x=>RP false d w x (a [0])
   |_,_=>no
  |_=>no
 |_=>no
abbrev TM(c:dw)(a:Option Operand)(b:Option Value->Prop):Prop:=match a with
 |none=>b none
 |some a=>zE c a λ_ d=>b (some d)
abbrev CA(c:dw)(h:Oper)(b:Sem Value->Prop):Prop:=match h.op with
 | .lookup d a g l=>zE c a λ_ a=>zE c g λ_ g=>b (Instr.lookup d a g l)
 | .makeSlice d f e=>zE c f λ_ f=>zE c e λ_ e=>b (Instr.makeSlice d f e)
 | .convert m q a=>zE c a λ_ a=>b (convert m q a)
 | .range d a=>zE c a λ_ a=>b (Instr.range d a)
 | .next i m=>zE c i λ_ i=>b (Instr.next i m h.type)
 | .entry i=>zE c i λ_ i=>b (Instr.entry i)
 | .mapEntry d n g=>zE c n λ_ n=>zE c g λ_ g=>b (Instr.mapEntry d n g)
 | .typeAssert a d r l=>zE c a λ_ a=>b (Instr.typeAssert a d r l)
 | .panic a=>zE c a λ_ a=>b (Instr.panic a)
 | .index d a g=>zE c a λ_ a=>zE c g λ_ g=>b (Instr.index d a g)
 | .binOp j d a o _=>zE c a λ_ p=>zE c o λ_ k=>b (do eqGuard j d a o p k;binOp j d p k)
 | .call e=>match e.callee with
  | .builtin k=>zA c e.args.toList λf=>match k with
   | .append=>b (Builtin.append_ e.argTypes h.type f.toArray)
   | .cap=>b (Builtin.cap_ e.argTypes h.type f.toArray)
   | .clear=>b (Builtin.clear_ e.argTypes h.type f.toArray)
   | .copy=>b (Builtin.copy_ e.argTypes h.type f.toArray)
   | .delete=>b (Builtin.delete_ e.argTypes h.type f.toArray)
   | .len=>b (Builtin.len_ e.argTypes h.type f.toArray)
   | .max=>b (Builtin.max_ e.argTypes h.type f.toArray)
   | .min=>b (Builtin.min_ e.argTypes h.type f.toArray)
   | .panic=>match f with
    |v::_=>b (Instr.panic v)
    |[]=>False
   |_=>False
  |_=>False
 |_=>False
abbrev uI(a:Nat)(b:Nat->Prop):Prop:=zT T a λc=>match c with
 |⟨d,_,_,_,_,_,_,_⟩=>b d
abbrev Fw(g:Oper)(a b:Prop):Prop:=match g.op with
 | .lookup .. =>a
 | .next .. =>a
 | .entry _=>a
 | .mapEntry .. =>a
 | .makeSlice .. =>a
 | .convert h i _=>uI T h λc=>uI T i λf=>match c,f with
  |0,0=>b
  |_,_=>a
 | .binOp j e _ d _=>match j with
  | .quo=>match SV d with
   |true=>b
   |false=>a
  | .rem=>match SV d with
   |true=>b
   |false=>a
  | .shl=>match SV d with
   |true=>b
   |false=>a
  | .shr=>match SV d with
   |true=>b
   |false=>a
  | .add=>uI T e λc=>match c with
   |0=>b
   |_=>a
  | .eql=>uI T e λc=>match c with
   |0=>b
   |1=>b
   |2=>b
   |_=>a
  | .neq=>uI T e λc=>match c with
   |0=>b
   |1=>b
   |2=>b
   |_=>a
  |_=>b
 | .call d=>match d.callee with
  | .builtin f=>match f with
   | .append=>a
   | .copy=>a
   | .cap=>a
   | .len=>Cz d.argTypes.toList 0 λe=>uI T e λc=>match c with
    |5=>a
    |_=>b
   |_=>b
  |_=>b
 |_=>b
abbrev Pu(f j:Nat)(a b:Nat)(c:World)(d:List Nat->Value->Prop):Prop:=zT T f λk=>match k with
 |⟨g,_,e,_,_,_,_,_⟩=>match Wy q X g e j with
  |true=>il P f (.pointer (some ⟨a,b,none⟩)) c λl=>d [1] l
  |false=>match Wx g with
   |true=>WV e λh=>TK c a b idx h (d [0] (.agg h.toArray))
   |false=>match e with
    |z::_=>z1 z λi=>c.cell? ⟨a,b,none⟩=some i/\d [0] i
    |[]=>False
abbrev TN(j:dw)(p:Nat)(q:Operand)(h i k:Option Operand)(c:Value->Prop):Prop:=zE j q λ_ o=>TM j h λh=>TM j i λi=>TM j k λk=>zT T p λl=>match l with
 |⟨2,_,_,_,_,_,_,_⟩=>match o with
  | .string e=>match h,i with
   |none,none=>c (.string (e.extract 0 e.size))
   |some (.int _ a),none=>(0:Int)<=a/\a<=((e.size:Nat):Int)/\c (.string (e.extract a.toNat e.size))
   |none,some (.int _ b)=>(0:Int)<=b/\b<=((e.size:Nat):Int)/\c (.string (e.extract 0 b.toNat))
   |some (.int _ a),some (.int _ b)=>(0:Int)<=a/\a<=b/\b<=((e.size:Nat):Int)/\c (.string (e.extract a.toNat b.toNat))
   |_,_=>False
  |_=>False
 |⟨_,_,_,r,_,_,_,_⟩=>match o with
  | .slice g m d=>zT T r λl=>match l with
   |⟨_,n,_,_,_,_,_,_⟩=>match k with
    |none=>match h,i with
     |none,none=>c (.slice g m d)
     |some (.int _ a),none=>(0:Int)<=a/\a<=((m:Nat):Int)/\c (.slice (cG g a.toNat d n) (m-a.toNat) (d-a.toNat))
     |none,some (.int _ b)=>(0:Int)<=b/\b<=((d:Nat):Int)/\c (.slice g b.toNat d)
     |some (.int _ a),some (.int _ b)=>(0:Int)<=a/\a<=b/\b<=((d:Nat):Int)/\c (.slice (cG g a.toNat d n) (b.toNat-a.toNat) (d-a.toNat))
     |_,_=>False
    |some (.int _ f)=>match h,i with
     |none,some (.int _ b)=>(0:Int)<=b/\b<=f/\f<=((d:Nat):Int)/\c (.slice g b.toNat f.toNat)
     |some (.int _ a),some (.int _ b)=>(0:Int)<=a/\a<=b/\b<=f/\f<=((d:Nat):Int)/\c (.slice (cG g a.toNat f.toNat n) (b.toNat-a.toNat) (f.toNat-a.toNat))
     |_,_=>False
    |_=>False
  |_=>False
abbrev Pv(a:Nat)(b:Int)(c:Nat)(d:Nat->Prop):Prop:=match c with
 |1=>d (a+b.toNat)
 |_=>d (a+b.toNat*c)
abbrev TO(h:dw)(k:Nat)(l a:Operand)(i:Value->Prop):Prop:=zE h l λ_ m=>zE h a λ_ n=>zT T k λd=>match d,n with
 |⟨o,_,_,p,e,_,_,_⟩,.int _ a=>zT T p λd=>match d with
  |⟨_,j,_,_,_,_,_,_⟩=>match o,m with
   |3,.slice f q _=>∃b c,f=some ⟨b,c,none⟩/\(0:Int)<=a/\a<((q:Nat):Int)/\Pv c a j λg=>i (.pointer (some ⟨b,g,none⟩))
   |7,.pointer f=>∃b c,f=some ⟨b,c,none⟩/\(0:Int)<=a/\a<((e:Nat):Int)/\Pv c a j λg=>i (.pointer (some ⟨b,g,none⟩))
   |_,_=>False
 |_,_=>False
abbrev Wz(d:dw)(e:Operand)(a:Value->Prop):Prop:=zE d e λ_ f=>match f with
 | .pointer g=>∃b c,g=some ⟨b,c,none⟩/\a (.pointer (some ⟨b,c,none⟩))
 | .func h i j=>a (.func h i j)
 |_=>False
abbrev UW(b:dw)(d a:Operand)(e:Value->Prop):Prop:=zE b d λ_ f=>zE b a λ_ g=>match f,g with
 | .string h,.int _ a=>(0:Int)<=a/\∃c,h[a.toNat]? =some c/\e (.int .u8 ((c.toNat:Nat):Int))
 |_,_=>False
abbrev Km(P:Program)(T:Tr)(b c:Nat):List Oper->(Nat->List Value->Prop)->Prop
 |[],a=>a 8 [undef]
 |e::d,a=>match e.op with
  | .extract (.tmp f) g=>match Nat.beq f b with
   |true=>match Nat.beq g c with
    |true=>zT T e.type λh=>match h with
     |⟨i,_,j,_,_,_,_,_⟩=>a i j
    |false=>Km P T b c d a
   |false=>Km P T b c d a
  |_=>Km P T b c d a
abbrev Of(r:List Oper)(o:Value->World->Prop)(z:List PanicEntry->World->Prop)(b:Oper)(f:dw->World->Prop)(a:dw)(e:World):Prop:=
 match b.op with
 | .load i j=>zE a j λ_ j=>match j with
  | .pointer (some ⟨n,of,_⟩)=>Pu P T q X i (b.dst.getD 9999) n of e λh d=>eh a b.dst h d λa=>f a e
  |_=>False
 | .store i j g=>zE a j λ_ j=>zE a g λh g=>match j with
  | .pointer (some ⟨n,of,_⟩)=>zT T i λs=>match s with
   |⟨k,_,t,_,_,_,_,_⟩=>match Wy q [] k t 0 with
    |true=>mg P i (.pointer (some ⟨n,of,none⟩)) g e λc=>eh a b.dst [0] undef λa=>f a c
    |false=>match RN 1 h with
     |true=>mg P i (.pointer (some ⟨n,of,none⟩)) g e λc=>eh a b.dst [0] undef λa=>f a c
     |false=>VH g λcs=>TL n of idx cs e λc=>eh a b.dst [0] undef λa=>f a c
  |_=>False
 | .indexAddr i g w=>TO T a i g w λd=>eh a b.dst [0] d λa=>f a e
 | .slice i g M N O=>TN T a i g M N O λd=>eh a b.dst [0] d λa=>f a e
 | .nilCheck g=>Wz a g λd=>eh a b.dst [0] d λa=>f a e
 | .index i g w=>UW a g w λd=>eh a b.dst [0] d λa=>f a e
 | .alloc i=>zT T i λs=>match s with
  |⟨_,_,t,_,_,_,_,_⟩=>PA e (.cells t.toArray i) λc=>eh a b.dst [0] (.pointer (some ⟨e.heap.size,0,none⟩)) λa=>f a c
 | .box i g=>zE a g λh d=>match RN 1 h with
  |true=>PA e (.cells (Value.cells d) i) λc=>eh a b.dst [0] (.pointer (some ⟨e.heap.size,0,none⟩)) λa=>f a c
  |false=>VH d λcs=>PA e (.cells cs.toArray i) λc=>eh a b.dst [0] (.pointer (some ⟨e.heap.size,0,none⟩)) λa=>f a c
 | .buildSlice i A u=>zT T i λs=>match s with
  |⟨_,_,_,H,_,_,_,_⟩=>zT T H λs=>match s with
   |⟨_,Q,t,_,_,_,_,_⟩=>UU A t λB=>LG a Q u.toList B λB=>PA e (.cells B.toArray H) λc=>eh a b.dst [0] (.slice (some ⟨e.heap.size,0,none⟩) A A) λa=>f a c
 | .makeMap _ _=>PA e (.map #[] 0) λc=>eh a b.dst [0] (.map (some e.heap.size)) λa=>f a c
 | .mapUpdate i p k g=>zE a p λ_ p=>zE a k λ_ k=>zE a g λ_ g=>iX P (Instr.mapUpdate i p k g) e (λc=>eh a b.dst [0] undef λa=>f a c) o
 | .insert i p k g=>zE a p λ_ p=>zE a k λ_ k=>zE a g λ_ g=>iX P (Instr.mapUpdate i p k g) e (λc=>eh a b.dst [0] undef λa=>f a c) o
 | .entryStore i p k g=>zE a p λ_ p=>zE a k λ_ k=>zE a g λ_ g=>iX P (Instr.entryStore i p k g) e (λc=>eh a b.dst [0] undef λa=>f a c) o
 | .next S R=>CA a b λm=>aG P m e (λd c=>(d= .tuple #[.bool false]/\eh a b.dst [2] (.tuple #[.bool false]) λa=>f a c)\/(match R with
  |true=>∃w I,d= .tuple #[.bool true,.int .i64 w,.int .i32 I]/\eh a b.dst [2,0,0] (.tuple #[.bool true,.int .i64 w,.int .i32 I]) λa=>f a c
  |false=>∃k g,d= .tuple #[.bool true,k,g]/\eh a b.dst [2,0,0] (.tuple #[.bool true,k,g]) λa=>f a c)) o
 | .entry _=>CA a b λm=>Km P T (b.dst.getD 9999) 0 r λC E=>Km P T (b.dst.getD 9999) 1 r λF z1=>aG P m e (λd c=>zX C E λj=>zX F z1 λn=>d= .tuple #[j,n]/\eh a b.dst [0,0] (.tuple #[j,n]) λa=>f a c) o
 | .mapEntry _ _ _=>CA a b λm=>Km P T (b.dst.getD 9999) 0 r λC E=>Km P T (b.dst.getD 9999) 1 r λF z1=>aG P m e (λd c=>zX C E λj=>zX F z1 λn=>d= .tuple #[j,n]/\eh a b.dst [0,0] (.tuple #[j,n]) λa=>f a c) o
 | .typeAssert _ _ l true=>CA a b λm=>zT T l λs=>match s with
  |⟨k,_,t,_,_,_,_,_⟩=>aG P m e (λd c=>zX k t λj=>∃n,d= .tuple #[j,.bool n]/\eh a b.dst [0,0] (.tuple #[j,.bool n]) λa=>f a c) o
 | .call y=>match y.callee with
  | .value (.func h)=>zA a y.args.toList λj=>PC P h j.toArray e (λd c=>Kl P T q X b.type b.dst λh l=>d=l/\eh a b.dst h l λa=>f a c) z
  | .value v=>zE a v λ_ v=>zA a y.args.toList λj=>∃h J K,v= .func (.func h) J K/\enters P h=true/\PC P h (J++j.toArray++K) e (λd c=>Kl P T q X b.type b.dst λh l=>d=l/\eh a b.dst h l λa=>f a c) z
  | .invoke v x=>zE a v λ_ v=>zA a y.args.toList λj=>∃h L,(∀e,(callMethod v x j.toArray).run P e= .ok (.enter h L) e)/\PC P h L e (λd c=>Kl P T q X b.type b.dst λh l=>d=l/\eh a b.dst h l λa=>f a c) z
  |_=>Fw T b (CA a b λm=>aG P m e (λd c=>Kl P T q X b.type b.dst λh l=>d=l/\eh a b.dst h l λa=>f a c) o)
   (LH T a b (λh d=>eh a b.dst h d λa=>f a e) (CA a b λm=>aG P m e (λd c=>eh a b.dst [1] d λa=>f a c) o))
 |_=>Fw T b (CA a b λm=>aG P m e (λd c=>Kl P T q X b.type b.dst λh l=>d=l/\eh a b.dst h l λa=>f a c) o)
   (LH T a b (λh d=>eh a b.dst h d λa=>f a e) (CA a b λm=>aG P m e (λd c=>eh a b.dst [1] d λa=>f a c) o))
abbrev UX(a:List Oper)(b:Nat)(c:Nat->Prop):Prop:=Cz a b λd=>match d.dst with
 |some e=>c e
 |none=>False
abbrev Fy(g:List Oper)(h:Oper)(b:dw)(c a:dw->Prop):Prop:=match h.guard with
 |none=>c b
 |some (i,e)=>UX g i λd=>zL b d λj k=>match k with
  | .bool f=>match RN 2 j with
   |true=>match e with
    |true=>match f with
     |true=>c ((d,[2],.bool true)::b)
     |false=>a ((d,[2],.bool false)::b)
    |false=>match f with
     |true=>a ((d,[2],.bool true)::b)
     |false=>c ((d,[2],.bool false)::b)
   |false=>match e with
    |true=>al f (c ((d,[2],.bool true)::b)) (a ((d,[2],.bool false)::b))
    |false=>al f (a ((d,[2],.bool true)::b)) (c ((d,[2],.bool false)::b))
  | .tuple _=>a b
  |_=>False
abbrev WA(c:List Oper)(g:Value->World->Prop)(h:List PanicEntry->World->Prop)(i:List Oper):(dw->World->Prop)->dw->World->Prop:=
 List.rec (motive:=λ_=>(dw->World->Prop)->dw->World->Prop) (λd a b=>d a b)
  (λe _ f d a b=>Fy c e a (λa=>Of P T q X c g h e (λa b=>f d a b) a b) (λa=>eh a e.dst [0] undef λa=>f d a b)) i
abbrev Xr(e:Oper)(a:Nat->Prop):Prop:=match e.op with
 | .move _=>a 0
 | .assign _=>a 0
 | .pick .. =>a 0
 | .build .. =>a 0
 | .binOp .. =>a 0
 | .unOp .. =>a 0
 | .indexAddr .. =>a 0
 | .slice .. =>a 0
 | .nilCheck _=>a 0
 | .fieldAddr .. =>a 0
 | .field .. =>a 0
 | .index .. =>a 0
 | .extract .. =>a 0
 | .typeAssert .. =>a 0
 | .convert f g _=>uI T f λb=>uI T g λc=>match b,c with
  |0,0=>a 0
  |_,_=>a 2
 | .load .. =>a 1
 | .lookup .. =>a 1
 | .call d=>match d.callee with
  | .builtin c=>match c with
   | .len=>Cz d.argTypes.toList 0 λh=>uI T h λb=>match b with
    |5=>a 1
    |_=>a 0
   | .cap=>a 0
   | .max=>a 0
   | .min=>a 0
   |_=>a 2
  |_=>a 2
 |_=>a 2
abbrev UY:List Oper->(List Nat->Prop)->Prop
 |[],a=>a []
 |b::c,a=>Xr T b λd=>UY c λe=>a (d::e)
abbrev RQ:List Edge->(List Nat->Prop)->Prop
 |[],a=>a []
 |e::b,a=>match e with
  |⟨c,d⟩=>match d with
   | .textOnly _=>RQ b a
   | .gcOnly _=>RQ b a
   |_=>RQ b λf=>a (c::f)
abbrev SX:List Oper->(List (List Nat)->Prop)->Prop
 |[],a=>a []
 |b::c,a=>RQ b.after.toList λd=>SX c λe=>a (d::e)
abbrev SY:List Nat->Bool
 |[]=>false
 |k::a=>match k with
  |2=>true
  |_=>SY a
abbrev SZ:List Nat->List Nat->Bool
 |[],_=>true
 |a::c,b=>match zm b a with
  |true=>SZ c b
  |false=>false
abbrev RR:List Nat:=[0,1,2,3,4,5,6,7,8,9,10,11,12,13,14,15,16,17,18,19,20,21,22,23,24,25,26,27,28,29,30,31,32,33,34,35,36,37,38,39,40,41,42,43,44,45,46,47,48,49,50,51,52,53,54,55,56,57,58,59,60,61,62,63]
abbrev tB(a:List Nat):List Nat->List (List Nat)->List Nat
 |c::is,d::b=>match zm a c with
  |true=>tB a is b
  |false=>match SZ d a with
   |true=>c::tB a is b
   |false=>tB a is b
 |_,_=>[]
abbrev UZ:List Nat->Nat->Nat
 |[],_=>2
 |x::a,b=>match b with
  |0=>x
  |c+1=>UZ a c
abbrev Pw(a:List Nat):List Nat->Option Nat
 |[]=>none
 |b::c=>match UZ a b with
  |2=>Pw a c
  |_=>some b
abbrev Fz(a:Nat):List Nat->Option Nat
 |[]=>none
 |b::c=>match Nat.beq a b with
  |true=>Fz a c
  |false=>some b
abbrev Kn(c:List (List Nat))(d:Nat):List Oper->List Nat->(List Nat->Prop)->Prop
 |[],a,b=>b a
 |_::e,a,b=>match Fz d (tB a RR c)with
  |some f=>Kn c d e (f::a) b
  |none=>b a
abbrev Px(b a:List Nat):List Nat->Bool
 |[]=>true
 |c::d=>match zm a c with
  |true=>Px b a d
  |false=>match UZ b c with
   |2=>false
   |_=>Px b a d
abbrev Py(c:List (List Nat))(f:List Nat)(g:List Oper)(d:Nat)(a:List Nat)(b:Bool->Prop):Prop:=Kn c d g a λe=>match Fz d (tB e RR c)with
 |some _=>b false
 |none=>match Px f a e with
  |true=>b true
  |false=>b false
abbrev TP:List Nat->List Nat->(List Nat->Prop)->Prop
 |[],b,c=>c b
 |a::d,b,c=>match zm b a with
  |true=>TP d b c
  |false=>TP d (a::b) c
abbrev U_(d:List (List Nat))(g:List Oper)(e:Nat)(a:List Nat)(b:Option (List Nat))(c:Option (List Nat)->Prop):Prop:=match b with
 |none=>c none
 |some b=>Kn d e g a λf=>match Fz e (tB f RR d)with
  |some _=>c none
  |none=>TP f b λb=>c (some b)
abbrev WB(c:List Nat):(Nat->Prop)->Prop:=
 List.rec (motive:=λ_=>(Nat->Prop)->Prop) (λ_=>True) (λb d e a=>match d with
  |[]=>a b
  |_::_=>a b/\e a) c
abbrev Xs(a:Option (List Nat))(b:Nat):Bool:=match a with
 |none=>true
 |some a=>zm a b
abbrev ql(a:Value)(b:World):Prop:=∀(_:bG) (_:cC),R (.panicked [{v:=a,recovered:=false}]) b
abbrev qm(a:List PanicEntry)(b:World):Prop:=∀(_:bG) (_:cC),R (.panicked a) b
abbrev RS(c:List Oper)(b:Oper)(o:Nat)(e:Bool)(m:Nat->Prop)(f:dw->Prop)(a:dw)(d:World):Prop:=
 match b.op with
 | .load p j=>match e with
  |true=>zE a j λ_ j=>match j with
   | .pointer (some ⟨n,of,_⟩)=>¬m n/\Pu P T q X p (b.dst.getD 9999) n of d λh k=>eh a b.dst h k λa=>f a
   |_=>False
  |false=>Of P T q X c (ql R) (qm R) b (λa _=>f a) a d
 | .indexAddr .. =>Of P T q X c (ql R) (qm R) b (λa _=>f a) a d
 | .slice .. =>Of P T q X c (ql R) (qm R) b (λa _=>f a) a d
 | .nilCheck .. =>Of P T q X c (ql R) (qm R) b (λa _=>f a) a d
 | .index .. =>Of P T q X c (ql R) (qm R) b (λa _=>f a) a d
 |_=>Fw T b (CA a b λl=>Kl P T q X b.type b.dst λh i=>(match o with
   |0=>∀g,l.run P g= .ok i g
   |_=>match e with
    |true=>∀g,ak m d g->l.run P g= .ok i g
    |false=>l.run P d= .ok i d)/\eh a b.dst h i λa=>f a)
  (LH T a b (λh k=>eh a b.dst h k λa=>f a) False)
abbrev TQ(c:List Oper)(n:List (List Nat))(l:List Nat)(p:List Oper)(i:Bool)(j:Nat->Prop)(r:dw->World->Prop)(k:List Oper):List Nat->Option (List Nat)->dw->World->Prop:=
 List.rec (motive:=λ_=>List Nat->Option (List Nat)->dw->World->Prop) (λ_ _ b e=>r b e) (λ_ _ h a f b e=>match tB a RR n with
  |[]=>r b e
  |s=>match Pw l s with
   |some d=>Cz c d λg=>(λo=>Fy c g b o (λb=>eh b g.dst [0] undef λb=>h (d::a) f b e)) (match i with
    |false=>λb=>RS P T R q X c g (UZ l d) false j (λb=>h (d::a) f b e) b e
    |true=>match UZ l d with
     |0=>λb=>RS P T R q X c g 0 false j (λb=>h (d::a) f b e) b e
     |_=>λb=>Py n l p d a λt=>match t with
      |true=>RS P T R q X c g 1 false j (λb=>h (d::a) f b e) b e
      |false=>U_ n p d a f λf=>RS P T R q X c g 1 true j (λb=>h (d::a) f b e) b e)
   |none=>WB s λd=>Cz c d λg=>Fy c g b (λb=>Of P T q X c (ql R) (qm R) g (λb m=>match i with
     |false=>h (d::a) f b m
     |true=>match Xs f d with
      |true=>ak j e m/\h (d::a) f b m
      |false=>h (d::a) f b m) b e) (λb=>eh b g.dst [0] undef λb=>h (d::a) f b e)) k
abbrev Va(d:List Oper)(j:List Oper):(dw->Prop)->dw->World->Prop:=
 List.rec (motive:=λ_=>(dw->Prop)->dw->World->Prop) (λe a _=>e a) (λb _ f e a c=>Fy d b a (λa=>match b.op with
  | .load .. =>Of P T q X d (ql R) (qm R) b (λa _=>f e a c) a c
  | .indexAddr .. =>Of P T q X d (ql R) (qm R) b (λa _=>f e a c) a c
  | .slice .. =>Of P T q X d (ql R) (qm R) b (λa _=>f e a c) a c
  | .nilCheck .. =>Of P T q X d (ql R) (qm R) b (λa _=>f e a c) a c
  | .index .. =>Of P T q X d (ql R) (qm R) b (λa _=>f e a c) a c
  |_=>Fw T b (CA a b λk=>Kl P T q X b.type b.dst λg h=>(∀i,k.run P (c.drewN i)= .ok h (c.drewN i))/\eh a b.dst g h λa=>f e a c)
   (LH T a b (λg l=>eh a b.dst g l λa=>f e a c) False)) (λa=>eh a b.dst [0] undef λa=>f e a c)) j
abbrev FA:Code->Option Nat
 | .region id _ _=>some id
 | .seq b c=>match FA b with
  |some d=>some d
  |none=>FA c
 | .cond _ b c=>match FA b with
  |some d=>some d
  |none=>FA c
 | .block _ a=>FA a
 | .loop a=>FA a
 | .scope a=>FA a
 |_=>none
abbrev TR:List Oper->List Nat->List Nat
 |[],a=>a
 |c::b,a=>match c.dst with
  |some d=>d::TR b a
  |none=>TR b a
abbrev RT:Code->List Nat->List Nat
 | .region _ c _,a=>TR c.toList a
 | .seq d e,a=>RT d (RT e a)
 | .cond _ d e,a=>RT d (RT e a)
 | .block _ b,a=>RT b a
 | .loop b,a=>RT b a
 | .scope b,a=>RT b a
 |_,a=>a
abbrev RU(b:List Nat):dw->(dw->Prop)->Prop
 |[],a=>a []
 |(c,e,f)::d,a=>match zm b c with
  |true=>RU b d a
  |false=>RU b d λg=>a ((c,e,f)::g)
abbrev Pz(b:List (Nat×List (Nat×Value)))(c:Option Nat):Option (List (Nat×Value)):=match c with
 |none=>none
 |some a=>match b with
  |[]=>none
  |(d,e)::f=>match Nat.beq d a with
   |true=>some e
   |false=>Pz f (some a)
abbrev Ri:List (Nat×Value)->List Value
 |[]=>[]
 |(_,a)::b=>a::Ri b
abbrev PB:List Value->Type->Type
 |[],a=>a
 |z::b,a=>match z with
  | .int _ _=>Int->PB b a
  | .bool _=>Bool->PB b a
  | .string _=>ByteArray->PB b a
  | .slice _ _ _=>Option Addr->Nat->Nat->PB b a
  | .pointer (some _)=>Nat->Nat->PB b a
  | .pointer none=>Option Addr->PB b a
  | .map _=>Option Nat->PB b a
  |_=>Value->PB b a
abbrev CB:(b:List Value)->PB b (World->Prop)->List Value->World->Prop
 |[],a,_,c=>a c
 |z::b,a,d,c=>match d with
  |[]=>False
  |v::d=>match z,a with
   | .int m _,a=>match v with
    | .int _ e=>CB b (a e) d c
    |_=>False
   | .bool _,a=>match v with
    | .bool f=>CB b (a f) d c
    |_=>False
   | .string _,a=>match v with
    | .string g=>CB b (a g) d c
    |_=>False
   | .slice _ _ _,a=>match v with
    | .slice h e i=>CB b (a h e i) d c
    |_=>False
   | .pointer (some _),a=>match v with
    | .pointer (some ⟨f,j,_⟩)=>CB b (a f j) d c
    |_=>False
   | .pointer none,a=>match v with
    | .pointer k=>CB b (a k) d c
    |_=>False
   | .map _,a=>match v with
    | .map l=>CB b (a l) d c
    |_=>False
   | .float _ _,a=>CB b (a v) d c
   | .complex _ _ _,a=>CB b (a v) d c
   | .chan _,a=>CB b (a v) d c
   | .func _ _ _,a=>CB b (a v) d c
   | .nilFunc,a=>CB b (a v) d c
   | .iface _ _,a=>CB b (a v) d c
   | .nilIface,a=>CB b (a v) d c
   | .agg _,a=>CB b (a v) d c
   | .tuple _,a=>CB b (a v) d c
abbrev S_(a:List Value):(List Value->Prop)->Prop:=
 List.rec (motive:=λ_=>(List Value->Prop)->Prop) (λb=>b []) (λf _ c b=>match f with
  | .int g _=>∀d:Int,c λa=>b (.int g d::a)
  | .bool _=>∀e:Bool,c λa=>b (.bool e::a)
  | .string _=>∀h:ByteArray,c λa=>b (.string h::a)
  | .slice _ _ _=>∀(i:Option Addr) (d j:Nat),c λa=>b (.slice i d j::a)
  | .pointer (some _)=>∀(e k:Nat),c λa=>b (.pointer (some ⟨e,k,none⟩)::a)
  | .pointer none=>∀l:Option Addr,c λa=>b (.pointer l::a)
  | .map _=>∀m:Option Nat,c λa=>b (.map m::a)
  |_=>∀n:Value,c λa=>b (n::a)) a
abbrev LI(b:dw):List (Nat×Value)->(List Value->Prop)->Prop
 |[],a=>a []
 |(c,_)::d,a=>zL b c λ_ e=>LI b d λf=>a (e::f)
abbrev PD:List (Nat×Value)->List Value->dw->(dw->Prop)->Prop
 |(c,_)::d,e::f,a,b=>PD d f a λa=>b ((c,[0],e)::a)
 |_,_,a,b=>b a
abbrev zC(o:ft)(s:dw->World->Prop)(j:Code):(dw->World->Prop)->(Nat->dw->World->Prop)->dw->World->Prop:=
 Code.rec (motive:=λ_=>(dw->World->Prop)->(Nat->dw->World->Prop)->dw->World->Prop)
  (λd _ a b=>d a b)
  (λid c k d _ a b=>match k with
   |false=>WA P T q X c.toList (λt b=>R (.panicked [{v:=t,recovered:=false}]) b) (λE b=>R (.panicked E) b) c.toList d a b
   |true=>UY T c.toList λp=>match SY p with
    |false=>Va P T R q X c.toList c.toList (λa=>∀g,bd b g->d a g) a b
    |true=>SX c.toList λu=>match zm o.keeps id with
     |true=>∀g,bd b g->∃e:Nat->Prop,match zm o.PE id with
      |true=>TQ P T R q X c.toList u p c.toList true e d c.toList [] (some []) a g
      |false=>TQ P T R q X c.toList u p c.toList true e d c.toList [] none a g
     |false=>∀g,bd b g->TQ P T R q X c.toList u p c.toList false (λ_=>False) d c.toList [] none a g)
  (λx y h i d f a b=>match Pz o.PF (FA y)with
   |none=>h (λa b=>i d f a b) f a b
   |some e=>∃z:PB (Ri e) (World->Prop),h (λa b=>LI a e λl=>CB (Ri e) z l b) f a b/\
     RU (RT x []) a λv=>S_ (Ri e) λm=>∀(F:Nat->Value) (g:World),CB (Ri e) z m g->PD e m v λa=>i d f a g)
  (λj x y h i d f a b=>zE a j λH t=>match t with
   | .bool A=>match RN 2 H with
    |true=>match A with
     |true=>h d f a b
     |false=>i d f a b
    |false=>al A (h d f a b) (i d f a b)
   |_=>False)
  (λid _ n d f a b=>n d (λB a b=>match Nat.beq B id with
   |true=>d a b
   |false=>f B a b) a b)
  (λj n d f a b=>match Pz o.loops (FA j)with
   |none=>False
   |some e=>∃w:Nat->PB (Ri e) (World->Prop),(∃r,LI a e λl=>CB (Ri e) (w r) l b)/\
     ∀r,RU (RT j []) a λv=>S_ (Ri e) λm=>∀(F:Nat->Value) (g:World),CB (Ri e) (w r) m g->
      PD e m v λa=>n (λa b=>∃C,C<r/\LI a e λl=>CB (Ri e) (w C) l b) f a g)
  (λ_ _ _ _ _ _ _ _ _ _=>False)
  (λid _ f a b=>f id a b)
  (λ_ n d f a b=>n d f a b)
  (λ_ d _ a b=>d a b)
  (λ_ _ _ _ _=>False)
  (λ_ _ a b=>s a b)
  (λ_ _ _ _ _=>False) j
abbrev WC(e:dw)(h:World)(a:List ResultVar):(List Value->Prop)->Prop:=
 List.rec (motive:=λ_=>(List Value->Prop)->Prop) (λb=>b []) (λi _ f b=>match i with
  | .tmp c=>zL e c λ_ d=>f λa=>b (d::a)
  | .cell g c=>zL e g λ_ j=>match j with
   | .pointer (some ⟨k,l,_⟩)=>Pu P T q X c (2000000+g) k l h λ_ d=>f λa=>b (d::a)
   |_=>False) a
abbrev Vb(c:List ResultVar)(d:dw)(a:World):Prop:=WC P T q X d a c λb=>match b with
 |[e]=>R (.returned e) a
 |b=>R (.returned (.tuple b.toArray)) a
abbrev Ta:List Nat->List Value->(dw->Prop)->Prop
 |b::is,c::d,a=>Ta is d λe=>a ((b,[0],c)::e)
 |_,_,a=>a []
end
structure An where
 A:ft
 q:Bool
 X:List Nat
abbrev UQ(b:Program)(c:Tr)(h:An)(g:List ResultVar)(i:Code)(a:List Value)(j:World)(d:Ending->World->Prop):Prop:=match h with
 |⟨k,e,f⟩=>Ta idx a λl=>zC b c d e f k (Vb b c d e f g) i (Vb b c d e f g) (λ_ _ _=>False) l j
end Go.ar

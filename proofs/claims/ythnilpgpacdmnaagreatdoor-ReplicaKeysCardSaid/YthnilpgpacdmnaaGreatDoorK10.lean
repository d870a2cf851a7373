import Derived.Test.YthnilpgpacdmnaaGreatDoorK9
import Derived.Shelf.SlIter.Nil
import Derived.Shelf.SlIterI.Nil
import Derived.Shelf.SortM.Plain
import Derived.Shelf.SortM.SortNone
import Derived.Shelf.Strconv.Itoa3
import Derived.Shelf.Small.Strs
import Derived.Ground.GgzProg
import Derived.Ground.SlgmProg
import Derived.Ground.NamesProg
import Derived.Test.YthnilpgpacdmnaaGreatDoorProg
import Derived.Laws.CopyRow
import Derived.Laws.IdiomCopy
namespace Go.au
open Go
set_option linter.unusedVariables false
abbrev ql:=BitVec 32
def zQ:ql:=0xEDB88320#32
def lY (a:ql):ql:=(a>>>1) ^^^(if a.getLsbD 0 then zQ else 0#32)
theorem zR (a b:ql):lY (a ^^^ b)=lY a ^^^ lY b:=by
 unfold lY;rw [BitVec.ushiftRight_xor_distrib,BitVec.getLsbD_xor]
 cases a.getLsbD 0<;>cases b.getLsbD 0<;>simp only [Bool.xor_false,Bool.xor_true,Bool.not_true,Bool.not_false,if_true,if_false,Bool.false_eq_true,BitVec.xor_zero,BitVec.zero_xor]
 ·ac_rfl
 ·ac_rfl
 ·have:(a>>>1 ^^^ zQ) ^^^(b>>>1 ^^^ zQ)=(a>>>1 ^^^ b>>>1) ^^^(zQ ^^^ zQ):=by ac_rfl
  rw [this,BitVec.xor_self,BitVec.xor_zero]
def nG (a:ql):ql:=lY (lY (lY (lY (lY (lY (lY (lY a)))))))
theorem CD (a b:ql):nG (a ^^^ b)=nG a ^^^ nG b:=by
 unfold nG;simp only [zR]
def Sb (a:Bool):ql:=if a then 1#32 else 0#32
def zS (a:ql) (b:Bool):ql:=(a>>>1) ^^^(if a.getLsbD 0 !=b then zQ else 0#32)
theorem CE (a:ql) (b:Bool):zS a b=lY (a ^^^ Sb b):=by
 unfold zS
 cases b
 ·simp [Sb,lY]
 ·rw [zR]
  have:lY (Sb true)=zQ:=by decide+kernel
  rw [this];unfold lY
  cases a.getLsbD 0
  ·simp
  ·have c:(a>>>1 ^^^(if true=true then zQ else 0#32)) ^^^ zQ=a>>>1 ^^^(zQ ^^^ zQ):=by rw [if_pos rfl];ac_rfl
   rw [c,BitVec.xor_self];simp
def ju (a:ql) (b:UInt8):ql:=(List.range 8).foldl (λa c=>zS a (b.toNat.testBit c)) a
def wG (a:UInt8):ql:=BitVec.ofNat 32 a.toNat
theorem GD (a:ql) (c:UInt8):ju a c=nG a ^^^ ju 0#32 c:=by
 have g:∀(b:List Nat) (d e:ql),(b.foldl (λa f=>zS a (c.toNat.testBit f)) (d ^^^ e))=(b.foldl (λa _=>lY a) d) ^^^(b.foldl (λa f=>zS a (c.toNat.testBit f)) e):=by
  intro b
  induction b with
  |nil=>intro d e;rfl
  |cons f b h=>
   intro d e;simp only [List.foldl_cons];rw [<-h]
   congr 1
   rw [CE,CE];simp only [zR]
   ac_rfl
 have:=g (List.range 8) a 0#32;rw [BitVec.xor_zero]at this;exact this
theorem GF (a:UInt8):ju 0#32 a=nG (wG a):=by
 have c:(List.range 256).all (λb=>ju 0#32 (UInt8.ofNat b)==nG (wG (UInt8.ofNat b)))=true:=by decide+kernel
 have:=List.all_eq_true.1 c a.toNat (List.mem_range.2 a.toNat_lt);simpa using this
theorem IT (a:ql) (b:UInt8):ju a b=nG (a ^^^ wG b):=by
 rw [GD,GF,CD]
theorem LP {a:ql} (b:a.getLsbD 0=false):lY a=a>>>1:=by
 unfold lY;rw [b];simp
theorem IU (b:ql):nG (b&&&0xFFFFFF00#32)=b>>>8:=by
 have bit:∀a,a<8->((b&&&0xFFFFFF00#32)>>>a).getLsbD 0=false:=λa d=>by
  rw [BitVec.getLsbD_ushiftRight,BitVec.getLsbD_and,Nat.add_zero];have:(0xFFFFFF00#32:ql).getLsbD a=false:=by
   have e:(List.range 8).all (λa=>(0xFFFFFF00#32:ql).getLsbD a==false)=true:=by decide+kernel
   simpa using List.all_eq_true.1 e a (List.mem_range.2 d)
  rw [this,Bool.and_false]
 have step:∀a,a<8->lY ((b&&&0xFFFFFF00#32)>>>a)=(b&&&0xFFFFFF00#32)>>>(a+1):=λa d=>by
  rw [LP (bit a d),BitVec.shiftRight_add]
 have f:b&&&0xFFFFFF00#32=(b&&&0xFFFFFF00#32)>>>0:=sM
 unfold nG;rw [f,step 0 oM,step 1 oM,step 2 oM,step 3 oM,step 4 oM,step 5 oM,step 6 oM,step 7 oM];apply BitVec.eq_of_getLsbD_eq;intro c g;rw [BitVec.getLsbD_ushiftRight,BitVec.getLsbD_ushiftRight,BitVec.getLsbD_and]
 by_cases h:7+1+c<32
 ·have:(0xFFFFFF00#32:ql).getLsbD (7+1+c)=true:=by
   have e:(List.range 24).all (λc=>(0xFFFFFF00#32:ql).getLsbD (7+1+c)==true)=true:=by decide+kernel
   simpa using List.all_eq_true.1 e c (List.mem_range.2 oM)
  rw [this,Bool.and_true]
 ·rw [BitVec.getLsbD_of_ge _ _ oM]
  simp
def iZ:List Nat:=[0x00000000,0x77073096,0xEE0E612C,0x990951BA,0x076DC419,0x706AF48F,0xE963A535,0x9E6495A3,0x0EDB8832,0x79DCB8A4,0xE0D5E91E,0x97D2D988,0x09B64C2B,0x7EB17CBD,0xE7B82D07,0x90BF1D91]
def i_:List Nat:=[0x00000000,0x1DB71064,0x3B6E20C8,0x26D930AC,0x76DC4190,0x6B6B51F4,0x4DB26158,0x5005713C,0xEDB88320,0xF00F9344,0xD6D6A3E8,0xCB61B38C,0x9B64C2B0,0x86D3D2D4,0xA00AE278,0xBDBDF21C]
theorem IV (a:UInt8):nG (wG a)=BitVec.ofNat 32 (iZ.getD (a.toNat % 16) 0) ^^^ BitVec.ofNat 32 (i_.getD (a.toNat/16) 0):=by
 have c:(List.range 256).all (λb=>nG (wG (UInt8.ofNat b))==BitVec.ofNat 32 (iZ.getD ((UInt8.ofNat b).toNat % 16) 0) ^^^ BitVec.ofNat 32 (i_.getD ((UInt8.ofNat b).toNat/16) 0))=true:=by decide+kernel
 have:=List.all_eq_true.1 c a.toNat (List.mem_range.2 a.toNat_lt);simpa using this
theorem LN (a:ql) (c:UInt8):ju a c=a>>>8 ^^^ BitVec.ofNat 32 (iZ.getD ((c.toNat ^^^ a.toNat % 256) % 16) 0) ^^^ BitVec.ofNat 32 (i_.getD ((c.toNat ^^^ a.toNat % 256)/16) 0):=by
 have h:=c.toNat_lt;have o:c.toNat ^^^ a.toNat % 256<2 ^ 8:=Nat.xor_lt_two_pow oM oM;have d:(UInt8.ofNat (c.toNat ^^^ a.toNat % 256)).toNat=c.toNat ^^^ a.toNat % 256:=by
  rw [UInt8.toNat_ofNat'];omega
 have e:=IV (UInt8.ofNat (c.toNat ^^^ a.toNat % 256));rw [d]at e;have i:a ^^^ wG c=wG (UInt8.ofNat (c.toNat ^^^ a.toNat % 256)) ^^^(a&&&0xFFFFFF00#32):=by
  apply BitVec.eq_of_getLsbD_eq;intro b f;unfold wG;rw [d,BitVec.getLsbD_xor,BitVec.getLsbD_xor,BitVec.getLsbD_and,BitVec.getLsbD_ofNat,BitVec.getLsbD_ofNat,Nat.testBit_xor];have j:(a.toNat % 256).testBit b=(decide (b<8)&&a.toNat.testBit b):=by
   rw [show 256=2 ^ 8 from rfl,Nat.testBit_mod_two_pow]
  have k:a.getLsbD b=a.toNat.testBit b:=rfl;rw [j,k];have l:(0xFFFFFF00#32:ql).getLsbD b=decide (8<=b):=by
   have m:(List.range 32).all (λb=>(0xFFFFFF00#32:ql).getLsbD b==decide (8<=b))=true:=by decide+kernel
   simpa using List.all_eq_true.1 m b (List.mem_range.2 f)
  rw [l,decide_eq_true f]
  by_cases g:b<8
  ·rw [decide_eq_true g,Xv oM]
   cases a.toNat.testBit b<;>cases c.toNat.testBit b<;>rfl
  ·have n:c.toNat.testBit b=false:=Nat.testBit_lt_two_pow (Qk h (by
    have:=Nat.pow_le_pow_right (n:=2) oM (show 8<=b by omega);simpa using this))
   rw [Xv g,decide_eq_true oM,n]
   cases a.toNat.testBit b<;>rfl
 rw [IT,i,CD,IU,e]
 ac_rfl
def Kx (a:ql) (b:List UInt8):ql:= ~~~(b.foldl ju (~~~a))
def LO (a:List UInt8):ql:=Kx 0#32 a
end Go.au
namespace Go.au
open Go
set_option linter.unusedVariables false
structure ki where
 bytes:List UInt8
 pos:Nat
 sV:Int
def ki.num (a:ki):Int×Int×Nat:=rdNum (a.bytes.drop a.pos)
def eW (a:ki):Int×ki:=if a.sV≠0 then(0,a)else if a.num.1=0 then(a.num.2.1,⟨a.bytes,a.pos+a.num.2.2,0⟩)else(0,⟨a.bytes,a.pos,a.num.1⟩)
def bW (b:Int) (a:ki):Int×ki:=if a.sV≠0 then(0,a)else if a.num.1=0 then(if a.num.2.1<0\/b<a.num.2.1 then(0,⟨a.bytes,a.pos,3⟩)else(a.num.2.1,⟨a.bytes,a.pos+a.num.2.2,0⟩))else(0,⟨a.bytes,a.pos,a.num.1⟩)
def jO (a:ki):Int:=if a.sV=0/\a.pos<a.bytes.length then 5 else a.sV
def bf:Nat->ki->List Int×ki
 |0,a=>([],a)
 |k+1,a=>((bf k a).1++[(eW (bf k a).2).1],(eW (bf k a).2).2)
theorem iO (a:List UInt8):aK (rdNum a).2.1/\(rdNum a).2.2<=a.length/\(rdNum a).2.2<=9/\((rdNum a).1=0\/(rdNum a).1=4\/(rdNum a).1=5)/\((rdNum a).1=0->1<=(rdNum a).2.2):=by
 unfold rdNum
 cases a with
 |nil=>simp [aK]
 |cons b e=>
  simp only;generalize(if 16<b.toNat then b.toNat-16 else b.toNat)=c;have l:=KV (e.take c);generalize fK (e.take c)=d at l
  by_cases i:8<c
  ·rw [if_pos i];simp [aK]
  rw [if_neg i]
  by_cases j:e.length<c
  ·rw [if_pos j];simp [aK]
  rw [if_neg j]
  by_cases f:(0<c/\e.head? =some 0)\/(¬16<b.toNat/\2 ^ 63<=d)\/(16<b.toNat/\2 ^ 63<d)
  ·rw [if_pos f];simp [aK]
  rw [if_neg f];have k:(¬16<b.toNat->d<2 ^ 63)/\(16<b.toNat->d<=2 ^ 63):=by
   refine⟨λg=>?_,λg=>?_⟩
   ·exact Nat.lt_of_not_le λh=>f (.inr (.inl ⟨g,h⟩))
   ·exact Nat.le_of_not_lt λh=>f (.inr (.inr ⟨g,h⟩))
  refine⟨?_,by simp;omega,by show c+1<=9;omega,.inl rfl,λ_=>by show 1<=c+1;omega⟩;show aK (if 16<b.toNat then-(d:Int)else d);unfold aK;split
  ·have:=k.2 (by assumption);omega
  ·have:=k.1 (by assumption);omega
structure ki.Fit (r:ki):Prop where
 pos:r.pos<=r.bytes.length
 sV:r.sV=0\/r.sV=3\/r.sV=4\/r.sV=5
variable{e:Int}{u:List Int}{x:List UInt8}{Y:ki}
theorem ki.Fit.int (b:Y.Fit):(eW Y).2.Fit/\aK (eW Y).1/\(eW Y).2.bytes=Y.bytes:=by
 obtain⟨c,d,f,a,g⟩:=iO (Y.bytes.drop Y.pos);have e:=b.pos;rw [XZ]at d;unfold eW ki.num;split
 ·exact⟨b,by simp [aK],rfl⟩
 ·split
  ·exact⟨⟨by show Y.pos+_<=Y.bytes.length;omega,.inl rfl⟩,c,rfl⟩
  ·exact⟨⟨e,by show _\/_;rcases a with a|a|a<;>simp [a]⟩,by simp [aK],rfl⟩
theorem ki.Fit.count {r:ki} (c:r.Fit) {m:Int} (b:0<=m):(bW m r).2.Fit/\0<=(bW m r).1/\(bW m r).1<=m/\(bW m r).2.bytes=r.bytes:=by
 obtain⟨f,e,g,a,h⟩:=iO (r.bytes.drop r.pos);have d:=c.pos;rw [XZ]at e;unfold bW ki.num;split
 ·exact⟨c,sM,b,rfl⟩
 ·split
  ·split
   ·exact⟨⟨d,.inr (.inl rfl)⟩,sM,b,rfl⟩
   ·exact⟨⟨by show r.pos+_<=r.bytes.length;omega,.inl rfl⟩,by simp only;omega,by simp only;omega,rfl⟩
  ·exact⟨⟨d,by show _\/_;rcases a with a|a|a<;>simp [a]⟩,by simp,b,rfl⟩
theorem ki.Fit.ints {a:ki} (d:a.Fit):∀k,(bf k a).2.Fit/\(∀c∈(bf k a).1,aK c)/\(bf k a).1.length=k/\(bf k a).2.bytes=a.bytes
 |0=>⟨d,by simp [bf],rfl,rfl⟩
 |k+1=>by
  obtain⟨e,f,g,h⟩:=ki.Fit.ints d k;obtain⟨i,j,l⟩:=e.int;refine⟨i,?_,?_,l.trans h⟩
  ·intro c b
   rcases Q6.1 b with b|b
   ·exact f c b
   ·rw [List.mem_singleton]at b;subst b;exact j
  ·simp [bf,g]
def bJ (a:List Int):List UInt8:=(a.map mY).flatten
theorem FG (a:Int) (b:List Int):bJ (a::b)=mY a++bJ b:=by simp [bJ]
theorem gv (a b:List Int):bJ (a++b)=bJ a++bJ b:=by simp [bJ]
structure aj where
 origin:Int
 seq:Int
 ax:Int
 aN:List Int
 aT:Int
 agg:Int
 field:Int
 op:Int
 arg:Int
 key:Int
deriving DecidableEq
structure aj.Ok (e:aj):Prop where
 origin:aK e.origin
 seq:aK e.seq
 ax:aK e.ax
 aN:∀x∈e.aN,aK x
 aT:aK e.aT
 agg:aK e.agg
 field:aK e.field
 op:aK e.op
 arg:aK e.arg
 key:aK e.key
def Ac:aj:=⟨0,0,0,[],0,0,0,0,0,0⟩
theorem MX:Ac.Ok:=by constructor<;>simp [Ac,aK]
def jN (a:aj):List Int:=[a.origin,a.seq,a.ax,(a.aN.length:Int)]++a.aN++[a.aT,a.agg,a.field,a.op,a.arg,a.key]
def gZ (a:aj):List UInt8×Int:=if 64<a.aN.length then([],3)else(bJ (jN a),0)
def lk (e:ki):aj×ki:=
 (λb=>(λc=>(λd=>(λa=>(⟨b.1.getD 0 0,b.1.getD 1 0,b.1.getD 2 0,d.1,a.1.getD 0 0,a.1.getD 1 0,a.1.getD 2 0,a.1.getD 3 0,a.1.getD 4 0,a.1.getD 5 0⟩,a.2))
  (bf 6 d.2)) (bf c.1.toNat c.2)) (bW 64 b.2)) (bf 3 e)
def iG (a:List UInt8):aj×Int:=if jO (lk ⟨a,0,0⟩).2≠0 then(Ac,jO (lk ⟨a,0,0⟩).2)else((lk ⟨a,0,0⟩).1,0)
theorem et (c:∀a∈u,aK a) (b:Nat):aK (u.getD b 0):=by
 rw [QQ]
 cases d:u[b]? with
 |none=>simp [aK]
 |some a=>exact c a (QZ d)
theorem MY {r:ki} (c:r.Fit):(lk r).2.Fit/\(lk r).1.Ok/\(lk r).1.aN.length<=64:=by
 obtain⟨d,b,j,k⟩:=c.ints 3;obtain⟨e,l,m,n⟩:=d.count (m:=64) oM;obtain⟨f,g,h,o⟩:=e.ints (bW 64 (bf 3 r).2).1.toNat;obtain⟨i,a,p,q⟩:=f.ints 6;refine⟨i,⟨et b 0,et b 1,et b 2,g,et a 0,et a 1,et a 2,et a 3,et a 4,et a 5⟩,?_⟩;show(bf _ _).1.length<=64;rw [h];omega
theorem OZ (a:List UInt8):(iG a).1.Ok/\(iG a).1.aN.length<=64:=by
 unfold iG;have:=MY (r:=⟨a,0,0⟩) ⟨Qj _,.inl rfl⟩;split
 ·exact⟨MX,by simp [Ac]⟩
 ·exact this.2
def Od (a:Nat):List UInt8:=[UInt8.ofNat (a/16777216),UInt8.ofNat (a/65536),UInt8.ofNat (a/256),UInt8.ofNat a]
def ll (b:Int) (a:List UInt8):List UInt8:=[UInt8.ofNat b.toNat,UInt8.ofNat (a.length/65536),UInt8.ofNat (a.length/256),UInt8.ofNat a.length]++a
def fE (a:Int) (b:List UInt8):List UInt8:=ll a b++Od (LO (ll a b)).toNat++[10]
def jq (a:Int) (b:List UInt8):List UInt8×Int:=if a<1\/255<a then([],2)else if 65536<b.length then([],5)else(fE a b,0)
structure VW where
 kind:Int
 body:List UInt8
 n:Nat
 no:Int
def bk (a:List UInt8):VW:=if a.length<4 then⟨0,[],0,4⟩else if a.getD 0 0=0 then⟨0,[],0,2⟩else
 (λb=>if 65536<b then⟨0,[],0,5⟩else if a.length<b+9 then⟨0,[],0,4⟩else
  if a.take (b+9)=fE (a.getD 0 0).toNat ((a.drop 4).take b)then⟨(a.getD 0 0).toNat,(a.drop 4).take b,b+9,0⟩else⟨0,[],0,6⟩)
  ((a.getD 1 0).toNat*65536+(a.getD 2 0).toNat*256+(a.getD 3 0).toNat)
theorem jS (b:Int) (a:List UInt8):(fE b a).length=a.length+9:=by simp [fE,ll,Od]
theorem ue (a:(bk x).no=0):(bk x).n<=x.length/\9<=(bk x).n/\(bk x).n=(bk x).body.length+9:=by
 unfold bk at a⊢;generalize(x.getD 1 0).toNat*65536+(x.getD 2 0).toNat*256+(x.getD 3 0).toNat=g at a⊢;split at a
 ·cases a
 rename_i b;rw [if_neg b];split at a
 ·cases a
 rename_i c;rw [if_neg c];simp only at a⊢;split at a
 ·cases a
 rename_i d;rw [if_neg d];split at a
 ·cases a
 rename_i e;rw [if_neg e];split at a
 ·rename_i f
  rw [if_pos f];refine⟨by simp only;omega,by simp only;omega,by simp;omega⟩
 ·cases a
theorem Uh (c:List UInt8) (a:c.length=4) (b:Nat) (l:b<2 ^ 32):fK c=b↔c=Od b:=by
 match c,a with
 |[d,e,f,g],_=>
  have m:=d.toNat_lt;have n:=e.toNat_lt;have o:=f.toNat_lt;have p:=g.toNat_lt;have k:fK [d,e,f,g]=((d.toNat*256+e.toNat)*256+f.toNat)*256+g.toNat:=by simp [fK]
  rw [k];constructor
  ·intro a
   unfold Od;have h:∀(i:UInt8) (j:Nat),i.toNat=j % 256->i=UInt8.ofNat j:=λi j a=>UInt8.toNat_inj.1 (by rw [UInt8.toNat_ofNat',a]);rw [h d (b/16777216) oM,h e (b/65536) oM,h f (b/256) oM,h g b oM]
  ·intro a
   unfold Od at a;simp only [List.cons.injEq,and_true]at a;obtain⟨rfl,rfl,rfl,rfl⟩:=a;simp only [UInt8.toNat_ofNat'];omega
theorem RC:∀{b:List UInt8},4<=b.length->b.take 4=[b.getD 0 0,b.getD 1 0,b.getD 2 0,b.getD 3 0]
 |x::c::d::e::f,_=>rfl
 |[],a=>by simp at a
 |[_],a=>by simp at a
 |[_,_],a=>by simp at a
 |[_,_,_],a=>by simp at a
theorem Sp {b:List UInt8} {n:Nat} (m:n+9<=b.length) (o:(b.getD 1 0).toNat*65536+(b.getD 2 0).toNat*256+(b.getD 3 0).toNat=n) (p:n<=65536):
  b.take (n+9)=fE (b.getD 0 0).toNat ((b.drop 4).take n)↔((LO (b.take (4+n))).toNat=fK ((b.drop (4+n)).take 4)/\b.getD (8+n) 0=10):=by
 have h:((b.drop 4).take n).length=n:=by simp;omega
 have a:∀(c:UInt8) (d:Nat),c.toNat=d % 256->UInt8.ofNat d=c:=λc d e=>UInt8.toNat_inj.1 (by rw [UInt8.toNat_ofNat',e]);have q:=(b.getD 1 0).toNat_lt;have r:=(b.getD 2 0).toNat_lt;have s:=(b.getD 3 0).toNat_lt;have i:ll (b.getD 0 0).toNat ((b.drop 4).take n)=b.take (4+n):=by
  unfold ll;rw [h,Qx,a (b.getD 0 0) _ (by have:=(b.getD 0 0).toNat_lt;omega),a (b.getD 1 0) (n/65536) oM,a (b.getD 2 0) (n/256) oM,a (b.getD 3 0) n oM];rw [List.take_add]
  congr 1
  exact(RC oM).symm
 have j:b.take (n+9)=b.take (4+n)++(b.drop (4+n)).take 4++[b.getD (8+n) 0]:=by
  rw [show n+9=(4+n)+(4+1) by omega,List.take_add,XQ,List.take_add (l:=b.drop (4+n)),List.drop_drop]
  congr 2
  rw [show 4+n+4=8+n by omega,QQ,Qq oM,Option.getD_some];rw [X4 oM]
  rfl
 unfold fE;rw [i,j];have k:((b.drop (4+n)).take 4).length=4:=by simp;omega
 have l:(LO (b.take (4+n))).toNat<2 ^ 32:=(LO (b.take (4+n))).isLt;rw [eq_comm (b:=fK _),Uh _ k _ l];constructor
 ·intro e
  obtain⟨f,g⟩:=List.append_inj' e rfl;exact⟨List.append_cancel_left f,by simpa using g⟩
 ·rintro⟨f,g⟩
  rw [f,g]
def bO (a:List UInt8):List aj×Nat:=
 if b:(bk a).no=0/\(bk a).kind=1/\(iG (bk a).body).2=0 then((iG (bk a).body).1::(bO (a.drop (bk a).n)).1,(bk a).n+(bO (a.drop (bk a).n)).2)else([],0)
termination_by a.length
decreasing_by all_goals(have:=ue b.1;simp;omega)
theorem HU (a:(bk x).no=0/\(bk x).kind=1/\(iG (bk x).body).2=0):bO x=((iG (bk x).body).1::(bO (x.drop (bk x).n)).1,(bk x).n+(bO (x.drop (bk x).n)).2):=by
 rw [bO,dif_pos a]
theorem Bd (a:¬((bk x).no=0/\(bk x).kind=1/\(iG (bk x).body).2=0)):bO x=([],0):=by
 rw [bO,dif_neg a]
theorem MZ (a:aK e):(mY e).length<=9:=by
 unfold aK at a;have:=Ho (u:=e.natAbs) oM;simp [mY];omega
theorem eV:∀{l:List Int},(∀a∈l,aK a)->(bJ l).length<=9*l.length
 |[],_=>by simp [bJ]
 |n::l,b=>by
  rw [FG,QX,Xq];have d:=MZ (b n (QV ..));have e:=eV (l:=l) λa c=>b a (QJ _ c);omega
variable{m:aj}
theorem aj.Ok.ints (a:m.Ok) (d:m.aN.length<=4611686018427387904):∀c∈jN m,aK c:=by
 intro c b;simp only [jN,Q6,Q2,List.not_mem_nil,or_false]at b;rcases b with((rfl|rfl|rfl|rfl)|b)|(rfl|rfl|rfl|rfl|rfl|rfl)
 ·exact a.origin
 ·exact a.seq
 ·exact a.ax
 ·unfold aK;omega
 ·exact a.aN c b
 ·exact a.aT
 ·exact a.agg
 ·exact a.field
 ·exact a.op
 ·exact a.arg
 ·exact a.key
theorem KR (a:m.Ok) (b:m.aN.length<=64):(bJ (jN m)).length<=666:=by
 have:=eV (a.ints oM);have c:(jN m).length=10+m.aN.length:=by simp [jN];omega
 omega
def vP (a:aj):List UInt8:=fE 1 (bJ (jN a))
theorem HV (a:m.Ok) (b:m.aN.length<=64):(vP m).length<=675/\9<=(vP m).length:=by
 have:=KR a b;unfold vP;rw [jS];omega
def dm (a:List aj):List UInt8:=(a.map vP).flatten
theorem Kb (a:aj) (b:List aj):dm (a::b)=vP a++dm b:=by simp [dm]
theorem Ig (a:x.length<4):(bk x).no≠0:=by unfold bk;rw [if_pos a];simp
theorem Ih (a:(bk x).no≠0):bO x=([],0):=Bd λb=>a b.1
theorem HT:bO []=([],0):=Ih (Ig sM)
def fB (a:aj):List UInt8×Int:=if(gZ a).2≠0 then([],(gZ a).2)else jq 1 (gZ a).1
end Go.au
namespace Go.Proofs.YthnilpgpacdmnaaGreatDoor
open Go.au
set_option linter.unusedVariables false
set_option maxRecDepth 20000
theorem rZ:ix Tryz.prog 221 5 1 1:=⟨kR,kR,dC⟩
end Go.Proofs.YthnilpgpacdmnaaGreatDoor
namespace Go.Proofs
open Go.Shelf
def Tryz.CF:Go.Shelf.Ren:=⟨λ|7=>227|10=>286|n=>n,λ|23=>122|26=>9|3=>220|28=>226|0=>0|27=>225|33=>299|4=>4|n=>n,λ|n=>n⟩
theorem Tryz.rq:Go.Proofs.SlLaysZ.n7 Tryz.prog Tryz.CF:={
 mixed:=by kernel_rfl
 f7:=⟨Tryz.f227.name,by decide,Tryz.func227.trans (congrArg some (by kernel_rfl))⟩
 f10:=⟨Tryz.f286.name,by decide,Tryz.func286.trans (congrArg some (by kernel_rfl))⟩
 t0:=Tryz.underlying0
 a0:=Tryz.isAgg0
 z0:=Tryz.sizeOf0
 v0:=Tryz.zeroValue0
 t4:=Tryz.underlying4
 a4:=Tryz.isAgg4
 z4:=Tryz.sizeOf4
 v4:=Tryz.zeroValue4
 t23:=Tryz.underlying122
 a23:=Tryz.isAgg122
 z23:=Tryz.sizeOf122
 v23:=Tryz.zeroValue122
 t26:=Tryz.underlying9
 a26:=Tryz.isAgg9
 z26:=Tryz.sizeOf9
 v26:=Tryz.zeroValue9
 t27:=Tryz.underlying225
 a27:=Tryz.isAgg225
 z27:=Tryz.sizeOf225
 v27:=Tryz.zeroValue225
 t28:=Tryz.underlying226
 a28:=Tryz.isAgg226
 z28:=Tryz.sizeOf226
 v28:=Tryz.zeroValue226
 t33:=Tryz.underlying299
 a33:=Tryz.isAgg299
 z33:=Tryz.sizeOf299
 v33:=Tryz.zeroValue299}
def Tryz.wH:Go.Shelf.Ren:=⟨λ|6=>226|8=>284|9=>285|11=>315|13=>202|12=>316|23=>271|24=>272|14=>335|15=>336|16=>337|17=>338|18=>339|19=>340|20=>341|21=>342|22=>343|25=>358|26=>303|27=>304|28=>359|29=>360|30=>361|31=>366|n=>n,λ|26=>9|28=>226|24=>275|0=>0|3=>3|37=>305|48=>351|50=>353|4=>4|40=>345|39=>344|45=>216|5=>5|9=>9|51=>380|55=>368|57=>405|58=>406|33=>299|n=>n,λ|n=>n⟩
theorem Tryz.PO:Go.Proofs.SlLaysZ.n6 Tryz.prog Tryz.wH:={
 mixed:=by kernel_rfl
 f6:=⟨Tryz.f226.name,by decide,Tryz.func226.trans (congrArg some (by kernel_rfl))⟩
 f8:=⟨Tryz.f284.name,by decide,Tryz.func284.trans (congrArg some (by kernel_rfl))⟩
 f11:=⟨Tryz.f315.name,by decide,Tryz.func315.trans (congrArg some (by kernel_rfl))⟩
 t0:=Tryz.underlying0
 a0:=Tryz.isAgg0
 z0:=Tryz.sizeOf0
 v0:=Tryz.zeroValue0
 t24:=Tryz.underlying275
 a24:=Tryz.isAgg275
 z24:=Tryz.sizeOf275
 v24:=Tryz.zeroValue275
 t26:=Tryz.underlying9
 a26:=Tryz.isAgg9
 z26:=Tryz.sizeOf9
 v26:=Tryz.zeroValue9
 t28:=Tryz.underlying226
 a28:=Tryz.isAgg226
 z28:=Tryz.sizeOf226
 v28:=Tryz.zeroValue226
 i26:=by kernel_rfl}
def Tryz.MQ:Go.Shelf.Ren:=⟨λ|6=>285|8=>202|9=>316|19=>271|20=>272|21=>335|22=>336|23=>337|24=>338|25=>339|26=>340|27=>341|28=>342|29=>343|36=>358|31=>303|32=>304|37=>359|38=>360|39=>361|41=>366|n=>n,λ|27=>275|29=>9|3=>3|32=>305|26=>275|0=>0|44=>351|46=>353|4=>4|36=>345|35=>344|41=>216|5=>5|9=>9|53=>380|57=>368|63=>405|64=>406|n=>n,λ|n=>n⟩
theorem Tryz.Rp:Go.Proofs.SlLaysM.n6 Tryz.prog Tryz.MQ:={
 mixed:=by kernel_rfl
 f6:=⟨Tryz.f285.name,by decide,Tryz.func285.trans (congrArg some (by kernel_rfl))⟩
 f8:=Tryz.func202.trans (congrArg some (by kernel_rfl))
 f9:=⟨Tryz.f316.name,by decide,Tryz.func316.trans (congrArg some (by kernel_rfl))⟩
 f19:=Tryz.func271.trans (congrArg some (by kernel_rfl))
 f20:=Tryz.func272.trans (congrArg some (by kernel_rfl))
 f21:=⟨Tryz.f335.name,by decide,Tryz.func335.trans (congrArg some (by kernel_rfl))⟩
 f22:=⟨Tryz.f336.name,by decide,Tryz.func336.trans (congrArg some (by kernel_rfl))⟩
 f23:=⟨Tryz.f337.name,by decide,Tryz.func337.trans (congrArg some (by kernel_rfl))⟩
 f24:=⟨Tryz.f338.name,by decide,Tryz.func338.trans (congrArg some (by kernel_rfl))⟩
 f25:=⟨Tryz.f339.name,by decide,Tryz.func339.trans (congrArg some (by kernel_rfl))⟩
 f26:=⟨Tryz.f340.name,by decide,Tryz.func340.trans (congrArg some (by kernel_rfl))⟩
 f27:=⟨Tryz.f341.name,by decide,Tryz.func341.trans (congrArg some (by kernel_rfl))⟩
 f28:=⟨Tryz.f342.name,by decide,Tryz.func342.trans (congrArg some (by kernel_rfl))⟩
 f29:=⟨Tryz.f343.name,by decide,Tryz.func343.trans (congrArg some (by kernel_rfl))⟩
 f31:=Tryz.func303.trans (congrArg some (by kernel_rfl))
 f32:=Tryz.func304.trans (congrArg some (by kernel_rfl))
 f36:=⟨Tryz.f358.name,by decide,Tryz.func358.trans (congrArg some (by kernel_rfl))⟩
 f37:=⟨Tryz.f359.name,by decide,Tryz.func359.trans (congrArg some (by kernel_rfl))⟩
 f38:=⟨Tryz.f360.name,by decide,Tryz.func360.trans (congrArg some (by kernel_rfl))⟩
 f39:=⟨Tryz.f361.name,by decide,Tryz.func361.trans (congrArg some (by kernel_rfl))⟩
 f41:=⟨Tryz.f366.name,by decide,Tryz.func366.trans (congrArg some (by kernel_rfl))⟩
 t0:=Tryz.underlying0
 a0:=Tryz.isAgg0
 z0:=Tryz.sizeOf0
 v0:=Tryz.zeroValue0
 t3:=Tryz.underlying3
 a3:=Tryz.isAgg3
 z3:=Tryz.sizeOf3
 v3:=Tryz.zeroValue3
 t4:=Tryz.underlying4
 a4:=Tryz.isAgg4
 z4:=Tryz.sizeOf4
 v4:=Tryz.zeroValue4
 t5:=Tryz.underlying5
 a5:=Tryz.isAgg5
 z5:=Tryz.sizeOf5
 v5:=Tryz.zeroValue5
 t9:=Tryz.underlying9
 a9:=Tryz.isAgg9
 z9:=Tryz.sizeOf9
 v9:=Tryz.zeroValue9
 t26:=Tryz.underlying275
 a26:=Tryz.isAgg275
 z26:=Tryz.sizeOf275
 v26:=Tryz.zeroValue275
 t27:=Tryz.underlying275
 a27:=Tryz.isAgg275
 z27:=Tryz.sizeOf275
 v27:=Tryz.zeroValue275
 t29:=Tryz.underlying9
 a29:=Tryz.isAgg9
 z29:=Tryz.sizeOf9
 v29:=Tryz.zeroValue9
 t32:=Tryz.underlying305
 a32:=Tryz.isAgg305
 z32:=Tryz.sizeOf305
 v32:=Tryz.zeroValue305
 t35:=Tryz.underlying344
 a35:=Tryz.isAgg344
 z35:=Tryz.sizeOf344
 v35:=Tryz.zeroValue344
 t36:=Tryz.underlying345
 a36:=Tryz.isAgg345
 z36:=Tryz.sizeOf345
 v36:=Tryz.zeroValue345
 t41:=Tryz.underlying216
 a41:=Tryz.isAgg216
 z41:=Tryz.sizeOf216
 v41:=Tryz.zeroValue216
 t44:=Tryz.underlying351
 a44:=Tryz.isAgg351
 z44:=Tryz.sizeOf351
 v44:=Tryz.zeroValue351
 t46:=Tryz.underlying353
 a46:=Tryz.isAgg353
 z46:=Tryz.sizeOf353
 v46:=Tryz.zeroValue353
 t53:=Tryz.underlying380
 a53:=Tryz.isAgg380
 z53:=Tryz.sizeOf380
 v53:=Tryz.zeroValue380
 t57:=Tryz.underlying368
 a57:=Tryz.isAgg368
 z57:=Tryz.sizeOf368
 v57:=Tryz.zeroValue368
 t63:=Tryz.underlying405
 a63:=Tryz.isAgg405
 z63:=Tryz.sizeOf405
 v63:=Tryz.zeroValue405
 t64:=Tryz.underlying406
 a64:=Tryz.isAgg406
 z64:=Tryz.sizeOf406
 v64:=Tryz.zeroValue406}
def Tryz.HZ:Go.Shelf.Ren:=⟨λ|137=>344|217=>362|266=>367|n=>n,λ|9=>9|5=>5|3=>3|n=>n,λ|n=>n⟩
theorem Tryz.Qg:Go.Proofs.Lays.n137 Tryz.prog Tryz.HZ:={
 mixed:=by kernel_rfl
 f137:=Tryz.func344.trans (congrArg some (by kernel_rfl))
 f217:=Tryz.func362.trans (congrArg some (by kernel_rfl))
 f266:=Tryz.func367.trans (congrArg some (by kernel_rfl))
 t3:=Tryz.underlying3
 a3:=Tryz.isAgg3
 z3:=Tryz.sizeOf3
 v3:=Tryz.zeroValue3
 t5:=Tryz.underlying5
 a5:=Tryz.isAgg5
 z5:=Tryz.sizeOf5
 v5:=Tryz.zeroValue5
 t9:=Tryz.underlying9
 a9:=Tryz.isAgg9
 z9:=Tryz.sizeOf9
 v9:=Tryz.zeroValue9}
def Tryz.H_:Go.Shelf.Ren:=⟨λ|129=>272|n=>n,λ|53=>353|3=>3|4=>4|46=>305|5=>5|9=>9|n=>n,λ|n=>n⟩
theorem Tryz.QF:Go.Proofs.Lays.n129 Tryz.prog Tryz.H_:={
 mixed:=by kernel_rfl
 f129:=Tryz.func272.trans (congrArg some (by kernel_rfl))
 t3:=Tryz.underlying3
 a3:=Tryz.isAgg3
 z3:=Tryz.sizeOf3
 v3:=Tryz.zeroValue3
 t4:=Tryz.underlying4
 a4:=Tryz.isAgg4
 z4:=Tryz.sizeOf4
 v4:=Tryz.zeroValue4
 t5:=Tryz.underlying5
 a5:=Tryz.isAgg5
 z5:=Tryz.sizeOf5
 v5:=Tryz.zeroValue5
 t9:=Tryz.underlying9
 a9:=Tryz.isAgg9
 z9:=Tryz.sizeOf9
 v9:=Tryz.zeroValue9
 t46:=Tryz.underlying305
 a46:=Tryz.isAgg305
 z46:=Tryz.sizeOf305
 v46:=Tryz.zeroValue305
 t53:=Tryz.underlying353
 a53:=Tryz.isAgg353
 z53:=Tryz.sizeOf353
 v53:=Tryz.zeroValue353}
def Tryz.FD:Go.Shelf.Ren:=⟨λ|171=>199|243=>262|246=>301|283=>329|284=>330|285=>331|286=>332|129=>272|317=>353|318=>354|319=>355|320=>356|337=>364|338=>365|n=>n,λ|3=>3|9=>9|2=>2|4=>4|171=>401|0=>0|53=>353|37=>221|5=>5|173=>403|212=>421|51=>351|20=>20|213=>422|46=>305|232=>427|233=>428|n=>n,λ|17=>4|18=>6|19=>7|n=>n⟩
theorem Tryz.OX:Go.Proofs.LaysM.n171 Tryz.prog Tryz.FD:={
 mixed:=by kernel_rfl
 f129:=Tryz.func272.trans (congrArg some (by kernel_rfl))
 f171:=Tryz.func199.trans (congrArg some (by kernel_rfl))
 f243:=Tryz.func262.trans (congrArg some (by kernel_rfl))
 f246:=Tryz.func301.trans (congrArg some (by kernel_rfl))
 f283:=Tryz.func329.trans (congrArg some (by kernel_rfl))
 f284:=Tryz.func330.trans (congrArg some (by kernel_rfl))
 f285:=Tryz.func331.trans (congrArg some (by kernel_rfl))
 f286:=Tryz.func332.trans (congrArg some (by kernel_rfl))
 f317:=Tryz.func353.trans (congrArg some (by kernel_rfl))
 f318:=Tryz.func354.trans (congrArg some (by kernel_rfl))
 f319:=Tryz.func355.trans (congrArg some (by kernel_rfl))
 f320:=Tryz.func356.trans (congrArg some (by kernel_rfl))
 f337:=Tryz.func364.trans (congrArg some (by kernel_rfl))
 f338:=Tryz.func365.trans (congrArg some (by kernel_rfl))
 t0:=Tryz.underlying0
 a0:=Tryz.isAgg0
 z0:=Tryz.sizeOf0
 v0:=Tryz.zeroValue0
 t2:=Tryz.underlying2
 a2:=Tryz.isAgg2
 z2:=Tryz.sizeOf2
 v2:=Tryz.zeroValue2
 t3:=Tryz.underlying3
 a3:=Tryz.isAgg3
 z3:=Tryz.sizeOf3
 v3:=Tryz.zeroValue3
 t4:=Tryz.underlying4
 a4:=Tryz.isAgg4
 z4:=Tryz.sizeOf4
 v4:=Tryz.zeroValue4
 t5:=Tryz.underlying5
 a5:=Tryz.isAgg5
 z5:=Tryz.sizeOf5
 v5:=Tryz.zeroValue5
 t9:=Tryz.underlying9
 a9:=Tryz.isAgg9
 z9:=Tryz.sizeOf9
 v9:=Tryz.zeroValue9
 t20:=Tryz.underlying20
 a20:=Tryz.isAgg20
 z20:=Tryz.sizeOf20
 v20:=Tryz.zeroValue20
 t37:=Tryz.underlying221
 a37:=Tryz.isAgg221
 z37:=Tryz.sizeOf221
 v37:=Tryz.zeroValue221
 t46:=Tryz.underlying305
 a46:=Tryz.isAgg305
 z46:=Tryz.sizeOf305
 v46:=Tryz.zeroValue305
 t51:=Tryz.underlying351
 a51:=Tryz.isAgg351
 z51:=Tryz.sizeOf351
 v51:=Tryz.zeroValue351
 t53:=Tryz.underlying353
 a53:=Tryz.isAgg353
 z53:=Tryz.sizeOf353
 v53:=Tryz.zeroValue353
 t171:=Tryz.underlying401
 a171:=Tryz.isAgg401
 z171:=Tryz.sizeOf401
 v171:=Tryz.zeroValue401
 t173:=Tryz.underlying403
 a173:=Tryz.isAgg403
 z173:=Tryz.sizeOf403
 v173:=Tryz.zeroValue403
 t212:=Tryz.underlying421
 a212:=Tryz.isAgg421
 z212:=Tryz.sizeOf421
 v212:=Tryz.zeroValue421
 t213:=Tryz.underlying422
 a213:=Tryz.isAgg422
 z213:=Tryz.sizeOf422
 t232:=Tryz.underlying427
 a232:=Tryz.isAgg427
 z232:=Tryz.sizeOf427
 v232:=Tryz.zeroValue427
 t233:=Tryz.underlying428
 a233:=Tryz.isAgg428
 z233:=Tryz.sizeOf428
 v233:=Tryz.zeroValue428
 g17:=by kernel_rfl
 g18:=by kernel_rfl
 g19:=by kernel_rfl
 i0:=by kernel_rfl
 i2:=by kernel_rfl
 i3:=by kernel_rfl
 i4:=by kernel_rfl
 i5:=by kernel_rfl
 i9:=by kernel_rfl
 i20:=by kernel_rfl
 i37:=by kernel_rfl
 i46:=by kernel_rfl
 i51:=by kernel_rfl
 i53:=by kernel_rfl
 i171:=by kernel_rfl
 i173:=by kernel_rfl
 i212:=by kernel_rfl
 i232:=by kernel_rfl
 i233:=by kernel_rfl
 m17:=by kernel_rfl
 m18:=by kernel_rfl
 m19:=by kernel_rfl}
def Tryz.Dz:Go.Shelf.Ren:=⟨λ|7=>192|10=>259|n=>n,λ|23=>129|26=>3|3=>3|28=>296|0=>0|27=>295|33=>212|4=>4|n=>n,λ|n=>n⟩
theorem Tryz.Ub:Go.Proofs.SlLaysZI.n7 Tryz.prog Tryz.Dz:={
 mixed:=by kernel_rfl
 f7:=⟨Tryz.f192.name,by decide,Tryz.func192.trans (congrArg some (by kernel_rfl))⟩
 f10:=⟨Tryz.f259.name,by decide,Tryz.func259.trans (congrArg some (by kernel_rfl))⟩
 t0:=Tryz.underlying0
 a0:=Tryz.isAgg0
 z0:=Tryz.sizeOf0
 v0:=Tryz.zeroValue0
 t4:=Tryz.underlying4
 a4:=Tryz.isAgg4
 z4:=Tryz.sizeOf4
 v4:=Tryz.zeroValue4
 t23:=Tryz.underlying129
 a23:=Tryz.isAgg129
 z23:=Tryz.sizeOf129
 v23:=Tryz.zeroValue129
 t26:=Tryz.underlying3
 a26:=Tryz.isAgg3
 z26:=Tryz.sizeOf3
 v26:=Tryz.zeroValue3
 t27:=Tryz.underlying295
 a27:=Tryz.isAgg295
 z27:=Tryz.sizeOf295
 v27:=Tryz.zeroValue295
 t28:=Tryz.underlying296
 a28:=Tryz.isAgg296
 z28:=Tryz.sizeOf296
 v28:=Tryz.zeroValue296
 t33:=Tryz.underlying212
 a33:=Tryz.isAgg212
 z33:=Tryz.sizeOf212
 v33:=Tryz.zeroValue212}
def Tryz.xj:Go.Shelf.Ren:=⟨λ|6=>191|8=>257|9=>258|11=>299|13=>202|12=>300|23=>271|24=>272|14=>321|15=>322|16=>323|17=>324|18=>325|19=>326|20=>308|21=>327|22=>328|25=>350|26=>303|27=>304|28=>351|29=>352|30=>273|31=>363|n=>n,λ|26=>3|28=>296|24=>39|0=>0|3=>3|37=>305|48=>351|50=>353|4=>4|40=>345|39=>344|45=>216|5=>5|9=>9|51=>380|55=>368|57=>405|58=>406|33=>212|n=>n,λ|n=>n⟩
theorem Tryz.Rh:Go.Proofs.SlLaysZI.n6 Tryz.prog Tryz.xj:={
 mixed:=by kernel_rfl
 f6:=⟨Tryz.f191.name,by decide,Tryz.func191.trans (congrArg some (by kernel_rfl))⟩
 f8:=⟨Tryz.f257.name,by decide,Tryz.func257.trans (congrArg some (by kernel_rfl))⟩
 f11:=⟨Tryz.f299.name,by decide,Tryz.func299.trans (congrArg some (by kernel_rfl))⟩
 t0:=Tryz.underlying0
 a0:=Tryz.isAgg0
 z0:=Tryz.sizeOf0
 v0:=Tryz.zeroValue0
 t24:=Tryz.underlying39
 a24:=Tryz.isAgg39
 z24:=Tryz.sizeOf39
 v24:=Tryz.zeroValue39
 t26:=Tryz.underlying3
 a26:=Tryz.isAgg3
 z26:=Tryz.sizeOf3
 v26:=Tryz.zeroValue3
 t28:=Tryz.underlying296
 a28:=Tryz.isAgg296
 z28:=Tryz.sizeOf296
 v28:=Tryz.zeroValue296
 i26:=by kernel_rfl}
def Tryz.MR:Go.Shelf.Ren:=⟨λ|5=>258|8=>202|7=>300|19=>271|20=>272|10=>321|11=>322|12=>323|13=>324|14=>325|15=>326|16=>308|17=>327|18=>328|30=>350|31=>303|32=>304|33=>351|34=>352|35=>273|40=>363|n=>n,λ|23=>39|25=>3|3=>3|32=>305|22=>39|0=>0|44=>351|46=>353|4=>4|36=>345|35=>344|41=>216|5=>5|9=>9|53=>380|57=>368|63=>405|64=>406|n=>n,λ|n=>n⟩
theorem Tryz.uH:Go.Proofs.SlLaysM.n5 Tryz.prog Tryz.MR:={
 mixed:=by kernel_rfl
 f5:=⟨Tryz.f258.name,by decide,Tryz.func258.trans (congrArg some (by kernel_rfl))⟩
 f7:=⟨Tryz.f300.name,by decide,Tryz.func300.trans (congrArg some (by kernel_rfl))⟩
 f8:=Tryz.func202.trans (congrArg some (by kernel_rfl))
 f10:=⟨Tryz.f321.name,by decide,Tryz.func321.trans (congrArg some (by kernel_rfl))⟩
 f11:=⟨Tryz.f322.name,by decide,Tryz.func322.trans (congrArg some (by kernel_rfl))⟩
 f12:=⟨Tryz.f323.name,by decide,Tryz.func323.trans (congrArg some (by kernel_rfl))⟩
 f13:=⟨Tryz.f324.name,by decide,Tryz.func324.trans (congrArg some (by kernel_rfl))⟩
 f14:=⟨Tryz.f325.name,by decide,Tryz.func325.trans (congrArg some (by kernel_rfl))⟩
 f15:=⟨Tryz.f326.name,by decide,Tryz.func326.trans (congrArg some (by kernel_rfl))⟩
 f16:=⟨Tryz.f308.name,by decide,Tryz.func308.trans (congrArg some (by kernel_rfl))⟩
 f17:=⟨Tryz.f327.name,by decide,Tryz.func327.trans (congrArg some (by kernel_rfl))⟩
 f18:=⟨Tryz.f328.name,by decide,Tryz.func328.trans (congrArg some (by kernel_rfl))⟩
 f19:=Tryz.func271.trans (congrArg some (by kernel_rfl))
 f20:=Tryz.func272.trans (congrArg some (by kernel_rfl))
 f30:=⟨Tryz.f350.name,by decide,Tryz.func350.trans (congrArg some (by kernel_rfl))⟩
 f31:=Tryz.func303.trans (congrArg some (by kernel_rfl))
 f32:=Tryz.func304.trans (congrArg some (by kernel_rfl))
 f33:=⟨Tryz.f351.name,by decide,Tryz.func351.trans (congrArg some (by kernel_rfl))⟩
 f34:=⟨Tryz.f352.name,by decide,Tryz.func352.trans (congrArg some (by kernel_rfl))⟩
 f35:=⟨Tryz.f273.name,by decide,Tryz.func273.trans (congrArg some (by kernel_rfl))⟩
 f40:=⟨Tryz.f363.name,by decide,Tryz.func363.trans (congrArg some (by kernel_rfl))⟩
 t0:=Tryz.underlying0
 a0:=Tryz.isAgg0
 z0:=Tryz.sizeOf0
 v0:=Tryz.zeroValue0
 t3:=Tryz.underlying3
 a3:=Tryz.isAgg3
 z3:=Tryz.sizeOf3
 v3:=Tryz.zeroValue3
 t4:=Tryz.underlying4
 a4:=Tryz.isAgg4
 z4:=Tryz.sizeOf4
 v4:=Tryz.zeroValue4
 t5:=Tryz.underlying5
 a5:=Tryz.isAgg5
 z5:=Tryz.sizeOf5
 v5:=Tryz.zeroValue5
 t9:=Tryz.underlying9
 a9:=Tryz.isAgg9
 z9:=Tryz.sizeOf9
 v9:=Tryz.zeroValue9
 t22:=Tryz.underlying39
 a22:=Tryz.isAgg39
 z22:=Tryz.sizeOf39
 v22:=Tryz.zeroValue39
 t23:=Tryz.underlying39
 a23:=Tryz.isAgg39
 z23:=Tryz.sizeOf39
 v23:=Tryz.zeroValue39
 t25:=Tryz.underlying3
 a25:=Tryz.isAgg3
 z25:=Tryz.sizeOf3
 v25:=Tryz.zeroValue3
 t32:=Tryz.underlying305
 a32:=Tryz.isAgg305
 z32:=Tryz.sizeOf305
 v32:=Tryz.zeroValue305
 t35:=Tryz.underlying344
 a35:=Tryz.isAgg344
 z35:=Tryz.sizeOf344
 v35:=Tryz.zeroValue344
 t36:=Tryz.underlying345
 a36:=Tryz.isAgg345
 z36:=Tryz.sizeOf345
 v36:=Tryz.zeroValue345
 t41:=Tryz.underlying216
 a41:=Tryz.isAgg216
 z41:=Tryz.sizeOf216
 v41:=Tryz.zeroValue216
 t44:=Tryz.underlying351
 a44:=Tryz.isAgg351
 z44:=Tryz.sizeOf351
 v44:=Tryz.zeroValue351
 t46:=Tryz.underlying353
 a46:=Tryz.isAgg353
 z46:=Tryz.sizeOf353
 v46:=Tryz.zeroValue353
 t53:=Tryz.underlying380
 a53:=Tryz.isAgg380
 z53:=Tryz.sizeOf380
 v53:=Tryz.zeroValue380
 t57:=Tryz.underlying368
 a57:=Tryz.isAgg368
 z57:=Tryz.sizeOf368
 v57:=Tryz.zeroValue368
 t63:=Tryz.underlying405
 a63:=Tryz.isAgg405
 z63:=Tryz.sizeOf405
 v63:=Tryz.zeroValue405
 t64:=Tryz.underlying406
 a64:=Tryz.isAgg406
 z64:=Tryz.sizeOf406
 v64:=Tryz.zeroValue406}
end Go.Proofs
namespace Go.au
open Go
set_option linter.unusedVariables false
theorem wrap_u64 (a:Int):IntKind.wrap .u64 a=a % 18446744073709551616:=by
 unfold IntKind.wrap;simp [IntKind.signed,IntKind.bits]
variable{c9 x:List UInt8}{a c i l:Nat}{d:Option Addr}{h:Program}{A g q:TypeId}{o s:Value->World->Prop}{b:World}
theorem Dk (b:a<18446744073709551616):IntKind.wrap .u64 (a:Int)=a:=by rw [wrap_u64];omega
theorem JI (u:ix h g q 1 1) {M D:Nat->Prop} 
  (f:aO fg q M b (some ⟨a,0,none⟩) c i x) (E:Row fg 1 b D d c c9) (m:∀n,aO fg q (·=a) n (some ⟨a,0,none⟩) c i c9->ak (·=a) b n->n.heap.size=b.heap.size->o (.int .i64 c) n):
  aE h (Builtin.copy_ #[g,g] A #[.slice (some ⟨a,0,none⟩) c i,.slice d c l]) b o s:=by
 obtain⟨a1,a2,N,hz,O,a3,a4⟩:=u.info;have F:(h.info? q).map (·.size)=some 1:=by rw [N];simp [O]
 have p:=E.len;have P:=f.len dC;obtain⟨a5,D0,H,a6,a7⟩:=f.body;rcases H.cases with⟨v,_⟩|⟨Q,e,v,w,R,S,a8⟩
 ·cases v
 cases v
 by_cases I:c=0
 ·subst I
  have:c9=[]:=QW p.symm;subst this;have:x=[]:=QW P.symm;subst this;have r:=run_copy_none (P:=h) b g g A q (some ⟨a,0,none⟩) d 0 i 0 l u.under F (by rfl);refine aE.mk (v:=.int .i64 0) r (m b ?_ (ak.refl _) rfl);have:=f.alone;exact⟨by obtain⟨cs,D,T,j,a9⟩:=this.body;exact⟨cs,λ_=>False,T,by rw [show cs=[]from j];rfl,λ_ f=>f.elim⟩,λj k=>by simpa [aF]using k.symm,λj k=>by rw [k];exact ay w⟩
 ·obtain⟨cs,y,U⟩:=E.bR
  have z:c9≠[]:=by rintro rfl;simp at p;exact I p
  obtain⟨j,B,V,_,_,W⟩:=U z dC;subst V;have t:cs.length=c:=by have:=y.length;rw [this,p];show _*1=_;omega
  have b0:e.size=i:=by rw [S];show i*1=i;omega
  have r:=run_copy_row (P:=h) b g g A q a 0 c i ⟨j,B,none⟩ c l e q cs u.under F w (by rw [t];simp [Nat.min_self]) (λX Y Z=>by rw [Addr.add_lit];exact W X Y Z) oM (y.Of);rw [t]at r;have J:=setRow_heap b a e (e.toList.take 0++cs++e.toList.drop (0+c)).toArray q (0,0) w;refine aE.mk r (m _ ⟨⟨cs,λ_=>False,⟨⟨by rw [t];show c=c*1;omega,.inr ⟨a,i,_,rfl,Qj _,J,R,?_,?_,?_⟩⟩⟩,y.free,λ_ f=>f.elim⟩,λj k=>by simpa [aF]using k.symm,λj k=>by subst k;exact ay J⟩ ⟨rfl,rfl,rfl,by simp [World.setRow],λa0 hk z=>setRow_other b a a0 _ z⟩ (by simp [World.setRow]))
  ·rcases H.row.2 with⟨C,_⟩|⟨Q,K,L,C,_,_,_,hm,_⟩
   ·cases C
   ·cases C;exact hm
  ·show _=i*1
   simp;omega
  ·simp only [List.take_zero,List.nil_append,Xz]
   show(cs++e.toList.drop c).take (c*1)=cs;rw [Nat.mul_one,<-t,List.take_left]
end Go.au
namespace Go.Proofs.YthnilpgpacdmnaaGreatDoor
open Go.au
set_option linter.unusedVariables false
set_option maxRecDepth 20000
variable{e:Int}{a c:Nat}{d:Option Addr}{b:World}
theorem Mx (d:aK e):Calls Tryz.prog 296 #[.int .i64 e] b (Ok λf g=>f= .tuple #[.int .u64 (e.natAbs:Int),.int .u8 (if e<0 then 16 else 0)]/\b=g):=by
 unfold aK at d;refine Gy (al.dec (λa=>?_) (λa=>?_))
 ·refine Ok.mk ⟨?_,rfl⟩
  rw [if_pos a,wrap_u64,wrap_u64];have c:(0-e % 18446744073709551616) % 18446744073709551616=(e.natAbs:Int):=oM
  rw [c]
 ·refine Ok.mk ⟨?_,rfl⟩
  rw [if_neg a,wrap_u64];have c:e % 18446744073709551616=(e.natAbs:Int):=oM
  rw [c]
theorem bits_Len64 {a:Nat} {b:World} (e:a<18446744073709551616):Calls Tryz.prog 272 #[.int .u64 (a:Int)] b (Ok λd c=>d= .int .i64 (Lib.bitLen a:Int)/\b=c):=by
 refine(Any.bits_Len64 Tryz.QF (a:Int) b oM oM).mono ?_;rintro f c ⟨rfl,rfl⟩;exact Ok.mk ⟨by rw [Qx],rfl⟩
theorem SI (d:a<=8) (b:Bool):Na .u8 (if b then 16 else 0) (IntKind.wrap .u8 (a:Int))=((UInt8.ofNat (a+if b then 16 else 0)).toNat:Int):=by
 have c:(List.range 9).all (λa=>Na .u8 16 (IntKind.wrap .u8 (a:Int))==((UInt8.ofNat (a+16)).toNat:Int)&&Na .u8 0 (IntKind.wrap .u8 (a:Int))==((UInt8.ofNat (a+0)).toNat:Int))=true:=by decide+kernel
 have:=List.all_eq_true.1 c a (List.mem_range.2 oM);simp only [QK,beq_iff_eq]at this
 cases b
 ·exact this.2
 ·exact this.1
theorem Aa {j:List UInt8} {m:Int} {D:Nat->Prop} (u:aK m) (i:Row fg 1 b D d a j) (L:a+9<=aI) (hD:∀g,D g->g<b.heap.size):
  Calls Tryz.prog 241 #[.slice d a c,.int .i64 m] b (Ok (oy fg 5 b (j++mY m))):=by
 have n:=i.len;have o:=u;unfold aK at o;have M:=L;unfold aI at M;have v:m.natAbs<2 ^ 64:=oM
 have w:=Ho v;have N:=xf _ v;refine IC (PC.ok (Mx u) ?_);rintro _ _ ⟨rfl,rfl⟩;refine⟨_,_,rfl,PC.ok (bits_Len64 oM) ?_⟩;rintro _ _ ⟨rfl,rfl⟩;have O:IntKind.wrap .i64 (Int.tdiv (IntKind.wrap .i64 ((Lib.bitLen m.natAbs:Int)+7)) 8)=((jg m.natAbs).length:Int):=by
  rw [wrap_i64 (x:=(Lib.bitLen m.natAbs:Int)+7) (by unfold aK;omega),Int.tdiv_eq_ediv_of_nonneg oM,wrap_i64 (by unfold aK;omega),N];omega
 have P:IntKind.wrap .i64 ((IntKind.wrap .i64 (((a:Nat):Int)+1))+((jg m.natAbs).length:Int))=((a+1+(jg m.natAbs).length:Nat):Int):=by
  rw [wrap_i64 (x:=((a:Nat):Int)+1) (by unfold aK;omega),wrap_i64 (by unfold aK;omega)];omega
 refine⟨_,rfl,?_⟩;rw [O,P];refine SK rZ kR oM (by unfold aI;omega) λw1 Q y b4=>?_;refine⟨_,_,_,rfl,JI rZ Q (i.ah y) λR S T b5=>⟨_,rfl,?_⟩⟩;have z:ai b R:=y.new T λg i=>.inr oM;rw [show IntKind.wrap .u8 ((jg m.natAbs).length:Int)=IntKind.wrap .u8 ((jg m.natAbs).length:Int)from rfl];have A:=SI w (decide (m<0));simp only [decide_eq_true_eq]at A;rw [A];refine FT S rZ (x:=UInt8.ofNat ((jg m.natAbs).length+if m<0 then 16 else 0)) (D:=λ_=>False) ⟨rfl,trivial⟩ (λ_ h=>h.elim) (by rw [<-n];unfold aI;omega) (by rw [<-n];unfold maxLen;omega) λa4 c3 U V B W X b6=>?_;have Y:ai b U:=z.new W λg i=>.inr (by simp only [aF,Q1]at i;omega);have Z:a+1=(j++[UInt8.ofNat ((jg m.natAbs).length+if m<0 then 16 else 0)]).length:=by simp [n]
 generalize a8:j++[UInt8.ofNat ((jg m.natAbs).length+if m<0 then 16 else 0)]=p at B Z;have a0:j++mY m=p++(jg m.natAbs).reverse:=by rw [<-a8,XQ];rfl
 rw [a0];generalize a9:(jg m.natAbs).length=f at w⊢;refine⟨_,_,_,rfl,λC E q F H I=>∃e:Nat,e<=f/\H=(f:Int)-1-e/\C=f-e/\q=a+1+e/\∃k,aO fg 5 k I E q F (p++(jg m.natAbs).reverse.take e)/\ai b I/\∀g,k g->b.heap.size<=g,
  ⟨_,0,Qj _,by rw [wrap_i64 (by unfold aK;omega)];omega,rfl,rfl,V,by simpa using B,Y,λg i=>?_⟩,?_⟩
 ·rcases X g i with h|h|h
  ·omega
  ·exact h.elim
  ·have:=z.size;omega
 rintro C E q F H _ r ⟨e,hj,rfl,rfl,rfl,k,l,s,t⟩;refine al.dec (λh1=>?_) (λh1=>?_)
 ·have b7:e<f:=oM
  have b0:IntKind.wrap .i64 (8*((f:Int)-1-e))=((8*(f-1-e):Nat):Int):=by rw [wrap_i64 (by unfold aK;omega)];omega
  rw [b0];have a1:∀x J,(do eqGuard .shr 353 x J (.int .u64 (m.natAbs:Int)) (.int .i64 ((8*(f-1-e):Nat):Int));binOp .shr 353 (.int .u64 (m.natAbs:Int)) (.int .i64 ((8*(f-1-e):Nat):Int)):Sem Value).run Tryz.prog r=
    .ok (.int .u64 ((m.natAbs/256 ^(f-1-e):Nat):Int)) r:=λx J=>by
   have h0:=shift_shr .u64 .i64 (m.natAbs:Int) ((8*(f-1-e):Nat):Int) oM (by show _<=((64:Nat):Int);omega);have e1:(m.natAbs:Int)/2 ^(Int.toNat ((8*(f-1-e):Nat):Int))=((m.natAbs/256 ^(f-1-e):Nat):Int):=by
    have e2:(256:Nat) ^(f-1-e)=2 ^(8*(f-1-e)):=by rw [Nat.pow_mul]
    rw [Qx,e2];simp
   show(Op.shift .shr .u64 (m.natAbs:Int) .i64 ((8*(f-1-e):Nat):Int)).run Tryz.prog r=_;rw [h0,e1]
   rfl
  refine aE.mk (a1 _ _) ⟨_,rfl,?_⟩;have a2:(jg m.natAbs).reverse[e]? =some (UInt8.ofNat (m.natAbs/256 ^(f-1-e))):=by
   rw [List.getElem?_reverse oM,a9];rw [OM _ _ oM]
   congr 1
   refine UInt8.toNat_inj.1 ?_;rw [UInt8.toNat_ofNat',UInt8.toNat_ofNat'];omega
  have a3:IntKind.wrap .u8 ((m.natAbs/256 ^(f-1-e):Nat):Int)=((UInt8.ofNat (m.natAbs/256 ^(f-1-e))).toNat:Int):=by
   rw [UInt8.toNat_ofNat'];unfold IntKind.wrap;simp [IntKind.signed,IntKind.bits]
  rw [a3];have K:(p++(jg m.natAbs).reverse.take e).length=a+1+e:=by simp;omega
  refine FT l rZ (x:=UInt8.ofNat (m.natAbs/256 ^(f-1-e))) (D:=λ_=>False) ⟨rfl,trivial⟩ (λ_ h=>h.elim) (by rw [K];unfold aI;omega) (by rw [K];unfold maxLen;omega) λa5 c5 w5 F5 b1 b2 b3 b8=>?_;refine⟨_,_,_,rfl,_,oM,e+1,oM,by rw [wrap_i64 (by unfold aK;omega)];omega,rfl,oM,F5,?_,s.new b2 λg i=>.inr (t g (l.self g i)),λg i=>?_⟩
  ·rw [Qw,a2]
   simpa using b1
  ·rcases b3 g i with h|h|h
   ·exact t g h
   ·exact h.elim
   ·exact Xx s.size h
 ·obtain rfl:e=f:=oM
  rw [Qz (by simp;omega)]at l;exact Ok.mk ⟨_,_,_,k,rfl,l,s,t⟩
end Go.Proofs.YthnilpgpacdmnaaGreatDoor
namespace Go.au
open Go
set_option linter.unusedVariables false
theorem Own.set {f:World} {l:TypeId} {n:Nat} {g:Option Addr} {o b:Nat} {cs:List Value} (p:Own f l n g o b cs) {m:Nat} {q:Value} {r:World->Prop} (H:m<cs.length) {c d:Nat} (h:g=some ⟨c,d,none⟩)
  (i:∀a,Own a l n g o b (cs.set m q)->ak (λc=>aF g=some c) f a->a.heap.size=f.heap.size->r a):PS f ⟨c,d+m,none⟩ q r:=by
 have s:=p.row.1;rcases p.row.2 with⟨e,I⟩|⟨J,K,k,e,t,u,v,w,x,j⟩
 ·simp only [XX]at e
  rw [e.1]at h;cases h
 ·simp only [XX]at e
  obtain⟨y,-,z⟩:=e;subst y;subst z
  cases h
  rw [Xz];have A:m<k.size:=by
   have:=congrArg List.length j;simp at this;omega
  refine PS.mk u A λa B C E=>i a ⟨⟨by simpa using s,.inr ⟨_,_,_,rfl,t,E,v,w,by simpa using x,?_⟩⟩⟩ (B.mono λc _ F=>by rw [F];rfl) C;rw [Array.toList_setIfInBounds,List.take_set,j]
theorem bu.mu {c:Type} {d:Nat} {a:c->List Value} {hl h1} {e:World} {D:Nat->Prop}:∀{b:List c} {cs:List Value},bu (flat d a (λ_=>True) hl h1) e D b cs↔cs=b.flatMap a
 |[],cs=>by simp [bu]
 |x::b,cs=>by
  constructor
  ·rintro⟨g,h,rfl,⟨rfl,-⟩,f⟩
   rw [bu.mu.1 f];rfl
  ·rintro rfl
   exact⟨a x,b.flatMap a,rfl,⟨rfl,trivial⟩,bu.mu.2 rfl⟩
theorem pU {e:Type} {enc:e->List Value} {k:Nat} (f:∀b,(enc b).length=k) {x':e} {v:Value} {c:Nat} (i:c<k):∀(g:List e) (a:Nat) (b:e),g[a]? =some b->enc x'=(enc b).set c v->(g.flatMap enc).set (a*k+c) v=(g.set a x').flatMap enc
 |[],a,b,d,_=>by simp at d
 |y::j,0,b,d,h=>by
  simp at d;subst d;rw [List.flatMap_cons,List.set_cons_zero,List.flatMap_cons,Nat.zero_mul,Xz,List.set_append_left _ _ (by rw [f];exact i),h]
 |y::j,a+1,b,d,h=>by
  have:=pU f i j a b (by simpa using d) h;have l:(a+1)*k+c-k=a*k+c:=by rw [X7];omega
  have m:k<=(a+1)*k+c:=by rw [X7];omega
  rw [List.flatMap_cons,List.set_cons_succ,List.flatMap_cons,List.set_append_right _ _ (by rw [f];exact m),f,l,this]
theorem jT {c:Type} {a:c->List Value} {d:Nat} (e:∀x,(a x).length=d):∀b:List c,(b.flatMap a).length=b.length*d
 |[]=>by simp
 |x::b=>by rw [List.flatMap_cons,QX,e,jT e b,Xq,X7,Nat.one_mul,Nat.add_comm]
variable{C a c i l:Nat}{f:Nat->Prop}{d p:Option Addr}{h:Program}{j:Type}{A g q:TypeId}{v:Value}{o s:Value->World->Prop}{b:World}{y:World->Prop}
theorem aO.set {n:Type} {e:n->List Value} {hl h1} {k:List n} (o:aO (flat a e (λ_=>True) hl h1) g f b d c i k) {h j:Nat} {x x':n} 
  (q:k[h]? =some x) (s:j<a) (t:e x'=(e x).set j v) (u:d=some ⟨l,C,none⟩)
  (p:∀m,aO (flat a e (λ_=>True) hl h1) g f m d c i (k.set h x')->ak (λl=>aF d=some l) b m->m.heap.size=b.heap.size->y m):PS b ⟨l,C+h*a+j,none⟩ v y:=by
 obtain⟨cs,D,w,z,A⟩:=o.body;have B:=bu.mu.1 z;subst B;have E:h<k.length:=(Qv.1 q).1;rw [Nat.add_assoc];refine w.set (m:=h*a+j) ?_ u λm F H r=>p m ⟨⟨_,D,F,bu.mu.2 (pU hl s k h x q t),A⟩,o.self,λl I=>by rw [r];exact o.aC l I⟩ H r;rw [jT hl];have:(h+1)*a<=k.length*a:=Q0 _ E;rw [X7]at this;omega
theorem wm {P:Program} {w:World} (a:Nat) (c h d:TypeId) (i:TypeInfo) (b:Nat) (f:P.underlying c=some (.slice d)) (g:P.info? d=some i)
  (e:Value) (j:Nat) (k:List Value) (l:w.ownsRow a d b e j k) (m:Nat):
  (Builtin.append_ #[c,c] h #[e,.slice none 0 m]).run P w= .ok e w:=by
 rcases l.2 with⟨rfl,rfl⟩|⟨q,n,o,rfl,_,_,p,_⟩
 ·simp [Builtin.append_,run_underlying f,sizeOf,typeInfo,g,Builtin.lenOf,Builtin.firstCells]
 ·simp [Builtin.append_,run_underlying f,sizeOf,typeInfo,g,Builtin.lenOf,Builtin.firstCells,p,storeCells]
theorem yt {n:jk j} {u:List j} {bytes:Nat} (v:aO n g f b d a c u) (w:ix h q g n.k bytes)
  {D:Nat->Prop} {m:List j} (x:Row n bytes b D p i m) (C:∀e,D e->e<b.heap.size/\aF d≠some e) (r:(u.length+m.length)*bytes<=aI) (E:u.length+m.length<=maxLen)
  (t:∀y k z B,aO n g B z y (a+i) k (u++m)->ak (λF=>aF d=some F) b z->(∀e,B e->f e\/D e\/b.heap.size<=e)->(∀e,aF y=some e->f e\/b.heap.size<=e)->o (.slice y (a+i) k) z):
  aE h (Builtin.append_ #[q,q] A #[.slice d a c,.slice p i l]) b o s:=by
 cases p with
 |some O=>exact jM v w x C r E t
 |none=>
  have H:m=[]:=by
   cases m with
   |nil=>rfl
   |cons I P=>obtain⟨e,J,Q,K,_⟩:=x.el 0 I rfl;cases K
  subst H;obtain rfl:i=0:=x.len;obtain⟨L,R,M,S,T,U,V⟩:=ix.info w;obtain⟨cs,W,N,X,Y⟩:=v.body;exact aE.mk (wm (P:=h) (w:=b) 0 q A g L n.k w.under M (.slice d a c) a cs N.row l) (t d c b f (by simpa using v) (ak.refl _) (λe r=>.inl r) λe r=>.inl (v.self e r))
end Go.au

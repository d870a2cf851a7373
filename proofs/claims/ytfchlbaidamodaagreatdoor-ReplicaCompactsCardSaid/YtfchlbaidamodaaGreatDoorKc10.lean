import Derived.Test.YtfchlbaidamodaaGreatDoorKc9
import Derived.Shelf.SlIter.Nil
import Derived.Shelf.SlIterI.Nil
import Derived.Shelf.SortM.Plain
import Derived.Shelf.SortM.SortNone
import Derived.Shelf.Strconv.Itoa3
import Derived.Shelf.Small.Strs
import Derived.Ground.GgzProg
import Derived.Ground.SlgmProg
import Derived.Ground.NamesProg
import Derived.Test.YtfchlbaidamodaaGreatDoorProg
import Derived.Laws.CopyRow
import Derived.Laws.IdiomCopy
set_option linter.all false
set_option maxRecDepth 20000
namespace Go.ax
open Go
abbrev sF:=BitVec 32
def Cn:sF:=0xEDB88320#32
def nR(a:sF):sF:=(a>>>1) ^^^(if a.getLsbD 0 then Cn else 0#32)
def Co(a b:sF):nR (a ^^^ b)=nR a ^^^ nR b:=by
 unfold nR;rw[BitVec.ushiftRight_xor_distrib,BitVec.getLsbD_xor]
 cases a.getLsbD 0<;>cases b.getLsbD 0<;>simp only[Bool.xor_false,Bool.xor_true,Bool.not_true,Bool.not_false,if_true,if_false,Bool.false_eq_true,BitVec.xor_zero,BitVec.zero_xor]
 ·ac_rfl
 ·ac_rfl
 ·have:(a>>>1 ^^^ Cn) ^^^(b>>>1 ^^^ Cn)=(a>>>1 ^^^ b>>>1) ^^^(Cn ^^^ Cn):=by ac_rfl
  rw[this,BitVec.xor_self,BitVec.xor_zero]
def pJ(a:sF):sF:=nR (nR (nR (nR (nR (nR (nR (nR a)))))))
def FD(a b:sF):pJ (a ^^^ b)=pJ a ^^^ pJ b:=by
 unfold pJ;simp only[Co]
def VO(a:Bool):sF:=if a then 1#32 else 0#32
def Cp(a:sF)(b:Bool):sF:=(a>>>1) ^^^(if a.getLsbD 0 !=b then Cn else 0#32)
def FE(a:sF)(b:Bool):Cp a b=nR (a ^^^ VO b):=by
 unfold Cp
 cases b
 ·simp[VO,nR]
 ·rw[Co]
  have:nR (VO true)=Cn:=by decide+kernel
  rw[this];unfold nR
  cases a.getLsbD 0
  ·simp
  ·have c:(a>>>1 ^^^(if true=true then Cn else 0#32)) ^^^ Cn=a>>>1 ^^^(Cn ^^^ Cn):=by rw[if_pos rfl];ac_rfl
   rw[c,BitVec.xor_self];simp
def lb(a:sF)(b:UInt8):sF:=(List.range 8).foldl (λa c=>Cp a (b.toNat.testBit c)) a
def za(a:UInt8):sF:=BitVec.ofNat 32 a.toNat
def Jr(a:sF)(c:UInt8):lb a c=pJ a ^^^ lb 0#32 c:=by
 have g:∀(b:List Nat) (d e:sF),(b.foldl (λa f=>Cp a (c.toNat.testBit f)) (d ^^^ e))=(b.foldl (λa _=>nR a) d) ^^^(b.foldl (λa f=>Cp a (c.toNat.testBit f)) e):=by
  intro b
  induction b with
  |nil=>intro d e;rfl
  |cons f b h=>
   intro d e;simp only[List.foldl_cons];rw[<-h]
   congr 1
   rw[FE,FE];simp only[Co]
   ac_rfl
 have:=g (List.range 8) a 0#32;rw[BitVec.xor_zero]at this;exact this
def Js(a:UInt8):lb 0#32 a=pJ (za a):=by
 have c:(List.range 256).all (λb=>lb 0#32 (UInt8.ofNat b)==pJ (za (UInt8.ofNat b)))=true:=by decide+kernel
 have:=List.all_eq_true.1 c a.toNat (List.mem_range.2 a.toNat_lt);simpa using this
def LU(a:sF)(b:UInt8):lb a b=pJ (a ^^^ za b):=by
 rw[Jr,Js,FD]
def Pu{a:sF}(b:a.getLsbD 0=false):nR a=a>>>1:=by
 unfold nR;rw[b];simp
def LV(b:sF):pJ (b&&&0xFFFFFF00#32)=b>>>8:=by
 have bit:∀a,a<8->((b&&&0xFFFFFF00#32)>>>a).getLsbD 0=false:=λa d=>by
  rw[BitVec.getLsbD_ushiftRight,BitVec.getLsbD_and,Nat.add_zero];have:(0xFFFFFF00#32:sF).getLsbD a=false:=by
   have e:(List.range 8).all (λa=>(0xFFFFFF00#32:sF).getLsbD a==false)=true:=by decide+kernel
   simpa using List.all_eq_true.1 e a (List.mem_range.2 d)
  rw[this,Bool.and_false]
 have step:∀a,a<8->nR ((b&&&0xFFFFFF00#32)>>>a)=(b&&&0xFFFFFF00#32)>>>(a+1):=λa d=>by
  rw[Pu (bit a d),BitVec.shiftRight_add]
 have f:b&&&0xFFFFFF00#32=(b&&&0xFFFFFF00#32)>>>0:=sM
 unfold pJ;rw[f,step 0 oM,step 1 oM,step 2 oM,step 3 oM,step 4 oM,step 5 oM,step 6 oM,step 7 oM];apply BitVec.eq_of_getLsbD_eq;intro c g;rw[BitVec.getLsbD_ushiftRight,BitVec.getLsbD_ushiftRight,BitVec.getLsbD_and]
 by_cases h:7+1+c<32
 ·have:(0xFFFFFF00#32:sF).getLsbD (7+1+c)=true:=by
   have e:(List.range 24).all (λc=>(0xFFFFFF00#32:sF).getLsbD (7+1+c)==true)=true:=by decide+kernel
   simpa using List.all_eq_true.1 e c (List.mem_range.2 oM)
  rw[this,Bool.and_true]
 ·rw[BitVec.getLsbD_of_ge _ _ oM]
  simp
def kv:List Nat:=[0x00000000,0x77073096,0xEE0E612C,0x990951BA,0x076DC419,0x706AF48F,0xE963A535,0x9E6495A3,0x0EDB8832,0x79DCB8A4,0xE0D5E91E,0x97D2D988,0x09B64C2B,0x7EB17CBD,0xE7B82D07,0x90BF1D91]
def ky:List Nat:=[0x00000000,0x1DB71064,0x3B6E20C8,0x26D930AC,0x76DC4190,0x6B6B51F4,0x4DB26158,0x5005713C,0xEDB88320,0xF00F9344,0xD6D6A3E8,0xCB61B38C,0x9B64C2B0,0x86D3D2D4,0xA00AE278,0xBDBDF21C]
def LW(a:UInt8):pJ (za a)=BitVec.ofNat 32 (kv.getD (a.toNat % 16) 0) ^^^ BitVec.ofNat 32 (ky.getD (a.toNat/16) 0):=by
 have c:(List.range 256).all (λb=>pJ (za (UInt8.ofNat b))==BitVec.ofNat 32 (kv.getD ((UInt8.ofNat b).toNat % 16) 0) ^^^ BitVec.ofNat 32 (ky.getD ((UInt8.ofNat b).toNat/16) 0))=true:=by decide+kernel
 have:=List.all_eq_true.1 c a.toNat (List.mem_range.2 a.toNat_lt);simpa using this
def Pt(a:sF)(c:UInt8):lb a c=a>>>8 ^^^ BitVec.ofNat 32 (kv.getD ((c.toNat ^^^ a.toNat % 256) % 16) 0) ^^^ BitVec.ofNat 32 (ky.getD ((c.toNat ^^^ a.toNat % 256)/16) 0):=by
 have h:=c.toNat_lt;have o:c.toNat ^^^ a.toNat % 256<2 ^ 8:=Nat.xor_lt_two_pow oM oM;have d:(UInt8.ofNat (c.toNat ^^^ a.toNat % 256)).toNat=c.toNat ^^^ a.toNat % 256:=by
  rw[UInt8.toNat_ofNat'];omega
 have e:=LW (UInt8.ofNat (c.toNat ^^^ a.toNat % 256));rw[d]at e;have i:a ^^^ za c=za (UInt8.ofNat (c.toNat ^^^ a.toNat % 256)) ^^^(a&&&0xFFFFFF00#32):=by
  apply BitVec.eq_of_getLsbD_eq;intro b f;unfold za;rw[d,BitVec.getLsbD_xor,BitVec.getLsbD_xor,BitVec.getLsbD_and,BitVec.getLsbD_ofNat,BitVec.getLsbD_ofNat,Nat.testBit_xor];have j:(a.toNat % 256).testBit b=(decide (b<8)&&a.toNat.testBit b):=by
   rw[show 256=2 ^ 8 from rfl,Nat.testBit_mod_two_pow]
  have k:a.getLsbD b=a.toNat.testBit b:=rfl;rw[j,k];have l:(0xFFFFFF00#32:sF).getLsbD b=decide (8<=b):=by
   have m:(List.range 32).all (λb=>(0xFFFFFF00#32:sF).getLsbD b==decide (8<=b))=true:=by decide+kernel
   simpa using List.all_eq_true.1 m b (List.mem_range.2 f)
  rw[l,decide_eq_true f]
  by_cases g:b<8
  ·rw[decide_eq_true g,Xv oM]
   cases a.toNat.testBit b<;>cases c.toNat.testBit b<;>rfl
  ·have n:c.toNat.testBit b=false:=Nat.testBit_lt_two_pow (Qk h (by
    have:=Nat.pow_le_pow_right (n:=2) oM (show 8<=b by omega);simpa using this))
   rw[Xv g,decide_eq_true oM,n]
   cases a.toNat.testBit b<;>rfl
 rw[LU,i,FD,LV,e]
 ac_rfl
def NX(a:sF)(b:List UInt8):sF:= ~~~(b.foldl lb (~~~a))
def LS(a:List UInt8):sF:=NX 0#32 a
end Go.ax
namespace Go.ax
open Go
structure g_ where
 bytes:List UInt8
 pos:Nat
 sO:Int
def g_.num(a:g_):Int×Int×Nat:=rdNum (a.bytes.drop a.pos)
def fu(a:g_):Int×g_:=if a.sO≠0 then(0,a)else if a.num.1=0 then(a.num.2.1,⟨a.bytes,a.pos+a.num.2.2,0⟩)else(0,⟨a.bytes,a.pos,a.num.1⟩)
def bM(b:Int)(a:g_):Int×g_:=if a.sO≠0 then(0,a)else if a.num.1=0 then(if a.num.2.1<0\/b<a.num.2.1 then(0,⟨a.bytes,a.pos,3⟩)else(a.num.2.1,⟨a.bytes,a.pos+a.num.2.2,0⟩))else(0,⟨a.bytes,a.pos,a.num.1⟩)
def h_(a:g_):Int:=if a.sO=0/\a.pos<a.bytes.length then 5 else a.sO
def aY:Nat->g_->List Int×g_
 |0,a=>([],a)
 |k+1,a=>((aY k a).1++[(fu (aY k a).2).1],(fu (aY k a).2).2)
def km(a:List UInt8):aN (rdNum a).2.1/\(rdNum a).2.2<=a.length/\(rdNum a).2.2<=9/\((rdNum a).1=0\/(rdNum a).1=4\/(rdNum a).1=5)/\((rdNum a).1=0->1<=(rdNum a).2.2):=by
 unfold rdNum
 cases a with
 |nil=>simp[aN]
 |cons b e=>
  simp only;generalize(if 16<b.toNat then b.toNat-16 else b.toNat)=c;have l:=OC (e.take c);generalize gO (e.take c)=d at l
  by_cases i:8<c
  ·rw[if_pos i];simp[aN]
  rw[if_neg i]
  by_cases j:e.length<c
  ·rw[if_pos j];simp[aN]
  rw[if_neg j]
  by_cases f:(0<c/\e.head? =some 0)\/(¬16<b.toNat/\2 ^ 63<=d)\/(16<b.toNat/\2 ^ 63<d)
  ·rw[if_pos f];simp[aN]
  rw[if_neg f];have k:(¬16<b.toNat->d<2 ^ 63)/\(16<b.toNat->d<=2 ^ 63):=by
   refine⟨λg=>?_,λg=>?_⟩
   ·exact Nat.lt_of_not_le λh=>f (.inr (.inl ⟨g,h⟩))
   ·exact Nat.le_of_not_lt λh=>f (.inr (.inr ⟨g,h⟩))
  refine⟨?_,by simp;omega,by show c+1<=9;omega,.inl rfl,λ_=>by show 1<=c+1;omega⟩;show aN (if 16<b.toNat then-(d:Int)else d);unfold aN;split
  ·have:=k.2 (by assumption);omega
  ·have:=k.1 (by assumption);omega
structure g_.Fit (r:g_):Prop where
 pos:r.pos<=r.bytes.length
 sO:r.sO=0\/r.sO=3\/r.sO=4\/r.sO=5
variable{e:Int}{s:List Int}{a7 v:List UInt8}{a:Nat}{Q:g_}
def g_.Fit.int(b:Q.Fit):(fu Q).2.Fit/\aN (fu Q).1/\(fu Q).2.bytes=Q.bytes:=by
 obtain⟨c,d,f,a,g⟩:=km (Q.bytes.drop Q.pos);have e:=b.pos;rw[XZ]at d;unfold fu g_.num;split
 ·exact⟨b,by simp[aN],rfl⟩
 ·split
  ·exact⟨⟨by show Q.pos+_<=Q.bytes.length;omega,.inl rfl⟩,c,rfl⟩
  ·exact⟨⟨e,by show _\/_;rcases a with a|a|a<;>simp[a]⟩,by simp[aN],rfl⟩
def g_.Fit.count{r:g_}(c:r.Fit){m:Int}(b:0<=m):(bM m r).2.Fit/\0<=(bM m r).1/\(bM m r).1<=m/\(bM m r).2.bytes=r.bytes:=by
 obtain⟨f,e,g,a,h⟩:=km (r.bytes.drop r.pos);have d:=c.pos;rw[XZ]at e;unfold bM g_.num;split
 ·exact⟨c,sM,b,rfl⟩
 ·split
  ·split
   ·exact⟨⟨d,.inr (.inl rfl)⟩,sM,b,rfl⟩
   ·exact⟨⟨by show r.pos+_<=r.bytes.length;omega,.inl rfl⟩,by simp only;omega,by simp only;omega,rfl⟩
  ·exact⟨⟨d,by show _\/_;rcases a with a|a|a<;>simp[a]⟩,by simp,b,rfl⟩
def g_.Fit.ints{a:g_}(d:a.Fit):∀k,(aY k a).2.Fit/\(∀c∈(aY k a).1,aN c)/\(aY k a).1.length=k/\(aY k a).2.bytes=a.bytes
 |0=>⟨d,by simp[aY],rfl,rfl⟩
 |k+1=>by
  obtain⟨e,f,g,h⟩:=g_.Fit.ints d k;obtain⟨i,j,l⟩:=e.int;refine⟨i,?_,?_,l.trans h⟩
  ·intro c b
   rcases Q6.1 b with b|b
   ·exact f c b
   ·rw[List.mem_singleton]at b;subst b;exact j
  ·simp[aY,g]
structure g_.At (r:g_) (b:List UInt8) (l:List UInt8):Prop where
 bytes:r.bytes=b
 pos:r.pos<=b.length
 sO:r.sO=0
 rest:b.drop r.pos=l
def g_.At.int(a:Q.At v (eB e++a7))(b:aN e):(fu Q).1=e/\(fu Q).2.At v a7:=by
 have c:Q.num=(0,e,(eB e).length):=by unfold g_.num;rw[a.bytes,a.rest];exact Gt b a7
 have d:v.length-Q.pos=(eB e).length+a7.length:=by
  have:=congrArg List.length a.rest
  rwa [XZ,QX]at this
 have f:=a.pos;unfold fu;rw[c,if_neg (by simp[a.sO]),if_pos rfl];refine⟨rfl,a.bytes,by show Q.pos+(eB e).length<=_;omega,rfl,?_⟩;show v.drop (Q.pos+(eB e).length)=a7;rw[<-List.drop_drop,a.rest,List.drop_left]
def g_.At.count{r:g_}{a m:Int}(b:r.At v (eB a++a7))(c:aN a)(e:0<=a)(f:a<=m):(bM m r).1=a/\(bM m r).2.At v a7:=by
 have d:r.num=(0,a,(eB a).length):=by unfold g_.num;rw[b.bytes,b.rest];exact Gt c a7
 have g:v.length-r.pos=(eB a).length+a7.length:=by
  have:=congrArg List.length b.rest
  rwa [XZ,QX]at this
 have h:=b.pos;unfold bM;rw[d,if_neg (by simp[b.sO]),if_pos rfl,if_neg (by simp;omega)];refine⟨rfl,b.bytes,by show r.pos+(eB a).length<=_;omega,rfl,?_⟩;show v.drop (r.pos+(eB a).length)=a7;rw[<-List.drop_drop,b.rest,List.drop_left]
def bt(a:List Int):List UInt8:=(a.map eB).flatten
def lg(a:Int)(b:List Int):bt (a::b)=eB a++bt b:=by simp[bt]
def iP(a b:List Int):bt (a++b)=bt a++bt b:=by simp[bt]
def g_.At.ints:∀(a:List Int) {zs:List Int},Q.At v (bt (a++zs)++a7)->(∀d∈a,aN d)->(aY a.length Q).1=a/\(aY a.length Q).2.At v (bt zs++a7):=by
 intro a;generalize b:a.length=f
 induction f generalizing a with
 |zero=>intro zs c _;have:=QW b;subst this;exact⟨rfl,c⟩
 |succ f e=>
  rcases List.eq_nil_or_concat a with rfl|⟨a,d,rfl⟩
  ·cases b
  rw[List.concat_eq_append]at b⊢;intro zs c g;rw[XQ]at c;rw[QX,List.length_singleton]at b;have e:=λ{zs:List Int}=>e a oM (zs:=zs);obtain⟨i,h⟩:=e c λj k=>g j (List.mem_append_left _ k);rw[List.singleton_append,lg,XQ]at h;obtain⟨l,m⟩:=h.int (g d sM);exact⟨by show _++[_]=_;rw[i,l],m⟩
def g_.At.done(a:Q.At v []):h_ Q=0:=by
 have b:=congrArg List.length a.rest;rw[XZ,List.length_nil]at b;unfold h_;rw[a.bytes,a.sO,if_neg oM]
structure ah where
 origin:Int
 seq:Int
 aA:Int
 aK:List Int
 bd:Int
 agg:Int
 field:Int
 op:Int
 arg:Int
 key:Int
deriving DecidableEq
structure ah.Ok (e:ah):Prop where
 origin:aN e.origin
 seq:aN e.seq
 aA:aN e.aA
 aK:∀x∈e.aK,aN x
 bd:aN e.bd
 agg:aN e.agg
 field:aN e.field
 op:aN e.op
 arg:aN e.arg
 key:aN e.key
def Cz:ah:=⟨0,0,0,[],0,0,0,0,0,0⟩
def Q_:Cz.Ok:=by constructor<;>simp[Cz,aN]
def fU(a:ah):List Int:=[a.origin,a.seq,a.aA,(a.aK.length:Int)]++a.aK++[a.bd,a.agg,a.field,a.op,a.arg,a.key]
def jt(a:ah):List UInt8×Int:=if 64<a.aK.length then([],3)else(bt (fU a),0)
def jF(e:g_):ah×g_:=
 (λb=>(λc=>(λd=>(λa=>(⟨b.1.getD 0 0,b.1.getD 1 0,b.1.getD 2 0,d.1,a.1.getD 0 0,a.1.getD 1 0,a.1.getD 2 0,a.1.getD 3 0,a.1.getD 4 0,a.1.getD 5 0⟩,a.2))
  (aY 6 d.2)) (aY c.1.toNat c.2)) (bM 64 b.2)) (aY 3 e)
def iQ(a:List UInt8):ah×Int:=if h_ (jF ⟨a,0,0⟩).2≠0 then(Cz,h_ (jF ⟨a,0,0⟩).2)else((jF ⟨a,0,0⟩).1,0)
def fy(c:∀a∈s,aN a)(b:Nat):aN (s.getD b 0):=by
 rw[QQ]
 cases d:s[b]? with
 |none=>simp[aN]
 |some a=>exact c a (QZ d)
def Ra{r:g_}(c:r.Fit):(jF r).2.Fit/\(jF r).1.Ok/\(jF r).1.aK.length<=64:=by
 obtain⟨d,b,j,k⟩:=c.ints 3;obtain⟨e,l,m,n⟩:=d.count (m:=64) oM;obtain⟨f,g,h,o⟩:=e.ints (bM 64 (aY 3 r).2).1.toNat;obtain⟨i,a,p,q⟩:=f.ints 6;refine⟨i,⟨fy b 0,fy b 1,fy b 2,g,fy a 0,fy a 1,fy a 2,fy a 3,fy a 4,fy a 5⟩,?_⟩;show(aY _ _).1.length<=64;rw[h];omega
def Tc(a:List UInt8):(iQ a).1.Ok/\(iQ a).1.aK.length<=64:=by
 unfold iQ;have:=Ra (r:=⟨a,0,0⟩) ⟨Qj _,.inl rfl⟩;split
 ·exact⟨Q_,by simp[Cz]⟩
 ·exact this.2
variable{l:ah}
def Rb(a:l.Ok)(v:l.aK.length<=64):iQ (bt (fU l))=(l,0):=by
 have d:(g_.mk (bt (fU l)) 0 0).At (bt (fU l)) (bt ([l.origin,l.seq,l.aA]++((l.aK.length:Int)::(l.aK++[l.bd,l.agg,l.field,l.op,l.arg,l.key])))++[]):=
  ⟨rfl,Qj _,rfl,by rw[List.drop_zero,List.append_nil];simp[fU]⟩
 generalize bt (fU l)=b at d⊢;obtain⟨g,e⟩:=g_.At.ints [l.origin,l.seq,l.aA] d (by intro h c;simp at c;rcases c with rfl|rfl|rfl<;>first|exact a.origin|exact a.seq|exact a.aA);rw[lg,XQ]at e;obtain⟨i,j⟩:=e.count (m:=64) (by unfold aN;omega) oM oM;obtain⟨k,m⟩:=g_.At.ints l.aK j a.aK;have n:(aY l.aK.length (bM 64 (aY [l.origin,l.seq,l.aA].length ⟨b,0,0⟩).2).2).2.At b (bt ([l.bd,l.agg,l.field,l.op,l.arg,l.key]++[])++[]):=m;obtain⟨o,p⟩:=g_.At.ints [l.bd,l.agg,l.field,l.op,l.arg,l.key] n (by intro h c;simp at c;rcases c with rfl|rfl|rfl|rfl|rfl|rfl<;>first|exact a.bd|exact a.agg|exact a.field|exact a.op|exact a.arg|exact a.key);have f:jF ⟨b,0,0⟩=(l,(aY 6 (aY l.aK.length (bM 64 (aY 3 ⟨b,0,0⟩).2).2).2).2):=by
  have q:(bM 64 (aY 3 ⟨b,0,0⟩).2).1=(l.aK.length:Int):=i;have r:(aY 3 ⟨b,0,0⟩).1=[l.origin,l.seq,l.aA]:=g;have s:(aY 6 (aY l.aK.length (bM 64 (aY 3 ⟨b,0,0⟩).2).2).2).1=[l.bd,l.agg,l.field,l.op,l.arg,l.key]:=o;have t:(aY l.aK.length (bM 64 (aY 3 ⟨b,0,0⟩).2).2).1=l.aK:=k;unfold jF;simp only[q,r,Qx,s,t]
  rfl
 have u:h_ (jF ⟨b,0,0⟩).2=0:=by rw[f];exact g_.At.done (by simpa[bt]using p)
 unfold iQ;rw[u,if_neg sM,f]
def Ri(a:Nat):List UInt8:=[UInt8.ofNat (a/16777216),UInt8.ofNat (a/65536),UInt8.ofNat (a/256),UInt8.ofNat a]
def kC(b:Int)(a:List UInt8):List UInt8:=[UInt8.ofNat b.toNat,UInt8.ofNat (a.length/65536),UInt8.ofNat (a.length/256),UInt8.ofNat a.length]++a
def cN(a:Int)(b:List UInt8):List UInt8:=kC a b++Ri (LS (kC a b)).toNat++[10]
def kQ(a:Int)(b:List UInt8):List UInt8×Int:=if a<1\/255<a then([],2)else if 65536<b.length then([],5)else(cN a b,0)
structure Zv where
 kind:Int
 body:List UInt8
 n:Nat
 no:Int
def bC(a:List UInt8):Zv:=if a.length<4 then⟨0,[],0,4⟩else if a.getD 0 0=0 then⟨0,[],0,2⟩else
 (λb=>if 65536<b then⟨0,[],0,5⟩else if a.length<b+9 then⟨0,[],0,4⟩else
  if a.take (b+9)=cN (a.getD 0 0).toNat ((a.drop 4).take b)then⟨(a.getD 0 0).toNat,(a.drop 4).take b,b+9,0⟩else⟨0,[],0,6⟩)
  ((a.getD 1 0).toNat*65536+(a.getD 2 0).toNat*256+(a.getD 3 0).toNat)
def fp(b:Int)(a:List UInt8):(cN b a).length=a.length+9:=by simp[cN,kC,Ri]
def wK(a:(bC v).no=0):(bC v).n<=v.length/\9<=(bC v).n/\(bC v).n=(bC v).body.length+9:=by
 unfold bC at a⊢;generalize(v.getD 1 0).toNat*65536+(v.getD 2 0).toNat*256+(v.getD 3 0).toNat=g at a⊢;split at a
 ·cases a
 rename_i b;rw[if_neg b];split at a
 ·cases a
 rename_i c;rw[if_neg c];simp only at a⊢;split at a
 ·cases a
 rename_i d;rw[if_neg d];split at a
 ·cases a
 rename_i e;rw[if_neg e];split at a
 ·rename_i f
  rw[if_pos f];refine⟨by simp only;omega,by simp only;omega,by simp;omega⟩
 ·cases a
def Tv(b:a<=65536):(UInt8.ofNat (a/65536)).toNat*65536+(UInt8.ofNat (a/256)).toNat*256+(UInt8.ofNat a).toNat=a:=by
 simp only[UInt8.toNat_ofNat'];omega
def Gp{k:Int}{body r:List UInt8}(j:1<=k)(l:k<=255)(b:body.length<=65536):bC (cN k body++r)=⟨k,body,body.length+9,0⟩:=by
 have a:(UInt8.ofNat k.toNat).toNat=k.toNat:=by rw[UInt8.toNat_ofNat'];omega
 have c:(cN k body++r).getD 0 0=UInt8.ofNat k.toNat:=rfl;have d:(cN k body++r).getD 1 0=UInt8.ofNat (body.length/65536):=rfl;have e:(cN k body++r).getD 2 0=UInt8.ofNat (body.length/256):=rfl;have f:(cN k body++r).getD 3 0=UInt8.ofNat body.length:=rfl;have g:((cN k body++r).drop 4).take body.length=body:=by
  have:(cN k body++r).drop 4=body++(Ri (LS (kC k body)).toNat++[10]++r):=by simp[cN,kC]
  rw[this,List.take_left]
 have h:=fp k body;unfold bC;rw[c,d,e,f,Tv b,if_neg (by rw[QX];omega),if_neg (by intro i;have:=congrArg UInt8.toNat i;rw[a]at this;simp at this;omega)];simp only[g,a];rw[if_neg oM,if_neg (by rw[QX];omega),if_pos]
 ·congr 1;omega
 ·rw[<-h,List.take_left]
  congr 1;omega
def Yo(c:List UInt8)(a:c.length=4)(b:Nat)(l:b<2 ^ 32):gO c=b↔c=Ri b:=by
 match c,a with
 |[d,e,f,g],_=>
  have m:=d.toNat_lt;have n:=e.toNat_lt;have o:=f.toNat_lt;have p:=g.toNat_lt;have k:gO [d,e,f,g]=((d.toNat*256+e.toNat)*256+f.toNat)*256+g.toNat:=by simp[gO]
  rw[k];constructor
  ·intro a
   unfold Ri;have h:∀(i:UInt8) (j:Nat),i.toNat=j % 256->i=UInt8.ofNat j:=λi j a=>UInt8.toNat_inj.1 (by rw[UInt8.toNat_ofNat',a]);rw[h d (b/16777216) oM,h e (b/65536) oM,h f (b/256) oM,h g b oM]
  ·intro a
   unfold Ri at a;simp only[List.cons.injEq,and_true]at a;obtain⟨rfl,rfl,rfl,rfl⟩:=a;simp only[UInt8.toNat_ofNat'];omega
def Vp:∀{b:List UInt8},4<=b.length->b.take 4=[b.getD 0 0,b.getD 1 0,b.getD 2 0,b.getD 3 0]
 |x::c::d::e::f,_=>rfl
 |[],a=>by simp at a
 |[_],a=>by simp at a
 |[_,_],a=>by simp at a
 |[_,_,_],a=>by simp at a
def V_{b:List UInt8}{n:Nat}(m:n+9<=b.length)(o:(b.getD 1 0).toNat*65536+(b.getD 2 0).toNat*256+(b.getD 3 0).toNat=n)(p:n<=65536):
  b.take (n+9)=cN (b.getD 0 0).toNat ((b.drop 4).take n)↔((LS (b.take (4+n))).toNat=gO ((b.drop (4+n)).take 4)/\b.getD (8+n) 0=10):=by
 have h:((b.drop 4).take n).length=n:=by simp;omega
 have a:∀(c:UInt8) (d:Nat),c.toNat=d % 256->UInt8.ofNat d=c:=λc d e=>UInt8.toNat_inj.1 (by rw[UInt8.toNat_ofNat',e]);have q:=(b.getD 1 0).toNat_lt;have r:=(b.getD 2 0).toNat_lt;have s:=(b.getD 3 0).toNat_lt;have i:kC (b.getD 0 0).toNat ((b.drop 4).take n)=b.take (4+n):=by
  unfold kC;rw[h,Qx,a (b.getD 0 0) _ (by have:=(b.getD 0 0).toNat_lt;omega),a (b.getD 1 0) (n/65536) oM,a (b.getD 2 0) (n/256) oM,a (b.getD 3 0) n oM];rw[List.take_add]
  congr 1
  exact(Vp oM).symm
 have j:b.take (n+9)=b.take (4+n)++(b.drop (4+n)).take 4++[b.getD (8+n) 0]:=by
  rw[show n+9=(4+n)+(4+1) by omega,List.take_add,XQ,List.take_add (l:=b.drop (4+n)),List.drop_drop]
  congr 2
  rw[show 4+n+4=8+n by omega,QQ,Qq oM,Option.getD_some];rw[X4 oM]
  rfl
 unfold cN;rw[i,j];have k:((b.drop (4+n)).take 4).length=4:=by simp;omega
 have l:(LS (b.take (4+n))).toNat<2 ^ 32:=(LS (b.take (4+n))).isLt;rw[eq_comm (b:=gO _),Yo _ k _ l];constructor
 ·intro e
  obtain⟨f,g⟩:=List.append_inj' e rfl;exact⟨List.append_cancel_left f,by simpa using g⟩
 ·rintro⟨f,g⟩
  rw[f,g]
def bN(a:List UInt8):List ah×Nat:=
 if b:(bC a).no=0/\(bC a).kind=1/\(iQ (bC a).body).2=0 then((iQ (bC a).body).1::(bN (a.drop (bC a).n)).1,(bC a).n+(bN (a.drop (bC a).n)).2)else([],0)
termination_by a.length
decreasing_by all_goals(have:=wK b.1;simp;omega)
def zP(a:(bC v).no=0/\(bC v).kind=1/\(iQ (bC v).body).2=0):bN v=((iQ (bC v).body).1::(bN (v.drop (bC v).n)).1,(bC v).n+(bN (v.drop (bC v).n)).2):=by
 rw[bN,dif_pos a]
def DN(a:¬((bC v).no=0/\(bC v).kind=1/\(iQ (bC v).body).2=0)):bN v=([],0):=by
 rw[bN,dif_neg a]
def Re(a:aN e):(eB e).length<=9:=by
 unfold aN at a;have:=Dx (u:=e.natAbs) oM;simp[eB];omega
def fT:∀{l:List Int},(∀a∈l,aN a)->(bt l).length<=9*l.length
 |[],_=>by simp[bt]
 |n::l,b=>by
  rw[lg,QX,Xq];have d:=Re (b n (QV ..));have e:=fT (l:=l) λa c=>b a (QJ _ c);omega
def ah.Ok.ints(a:l.Ok)(d:l.aK.length<=4611686018427387904):∀c∈fU l,aN c:=by
 intro c b;simp only[fU,Q6,Q2,List.not_mem_nil,or_false]at b;rcases b with((rfl|rfl|rfl|rfl)|b)|(rfl|rfl|rfl|rfl|rfl|rfl)
 ·exact a.origin
 ·exact a.seq
 ·exact a.aA
 ·unfold aN;omega
 ·exact a.aK c b
 ·exact a.bd
 ·exact a.agg
 ·exact a.field
 ·exact a.op
 ·exact a.arg
 ·exact a.key
def Gg(a:l.Ok)(b:l.aK.length<=64):(bt (fU l)).length<=666:=by
 have:=fT (a.ints oM);have c:(fU l).length=10+l.aK.length:=by simp[fU];omega
 omega
def nP(a:ah):List UInt8:=cN 1 (bt (fU a))
def KP(a:l.Ok)(b:l.aK.length<=64):(nP l).length<=675/\9<=(nP l).length:=by
 have:=Gg a b;unfold nP;rw[fp];omega
def Tw(a:l.Ok)(b:l.aK.length<=64)(c:List UInt8):bC (nP l++c)=⟨1,bt (fU l),(nP l).length,0⟩:=by
 unfold nP;rw[Gp dC dC (by have:=Gg a b;omega),fp]
def Eb(b:l.Ok)(c:l.aK.length<=64)(a:List UInt8):bN (nP l++a)=(l::(bN a).1,(nP l).length+(bN a).2):=by
 have d:=Tw b c a;have e:=Rb b c;rw[zP (by rw[d];exact⟨rfl,rfl,by rw[e]⟩),d,e,List.drop_left]
def ar(a:List ah):List UInt8:=(a.map nP).flatten
def ig(a:ah)(b:List ah):ar (a::b)=nP a++ar b:=by simp[ar]
def eh(a b:List ah):ar (a++b)=ar a++ar b:=by simp[ar]
def zy:∀{a:List ah},(∀e∈a,e.Ok/\e.aK.length<=64)->∀b,bN (ar a++b)=(a++(bN b).1,(ar a).length+(bN b).2)
 |[],_,b=>by simp[ar]
 |e::a,c,b=>by
  obtain⟨d,f⟩:=c e (QV ..);rw[ig,XQ,Eb d f,zy (λg h=>c g (QJ _ h)),QX];simp only[List.cons_append,Nat.add_assoc]
def zZ(a:v.length<4):(bC v).no≠0:=by unfold bC;rw[if_pos a];simp
def NK(d:v.length<=65536)(i:a<(cN e v).length):(bC ((cN e v).take a)).no≠0:=by
 by_cases j:a<4
 ·exact zZ (by rw[Qy];omega)
 have b:∀c,c<4->((cN e v).take a).getD c 0=(cN e v).getD c 0:=λc k=>by
  rw[QQ,QQ,Xw,if_pos oM]
 have l:=fp e v;have f:(cN e v).getD 1 0=UInt8.ofNat (v.length/65536):=rfl;have g:(cN e v).getD 2 0=UInt8.ofNat (v.length/256):=rfl;have h:(cN e v).getD 3 0=UInt8.ofNat v.length:=rfl;unfold bC;rw[b 0 oM,b 1 oM,b 2 oM,b 3 oM,f,g,h,Tv d];split
 ·simp
 split
 ·simp
 simp only;rw[if_neg oM,if_pos (by rw[Qy];omega)];simp
def z_(a:(bC v).no≠0):bN v=([],0):=DN λb=>a b.1
def se:bN []=([],0):=z_ (zZ sM)
def xm:∀{l:List ah},(∀e∈l,e.Ok/\e.aK.length<=64)->∀(b:Nat),∃a,a<=l.length/\bN ((ar l).take b)=(l.take a,(ar (l.take a)).length)/\(ar (l.take a)).length<=b/\(a<l.length->b<(ar (l.take (a+1))).length)
 |[],_,b=>⟨0,Q4 _,by simp[ar,se],by simp[ar],sM⟩
 |e::l,c,b=>by
  obtain⟨d,f⟩:=c e (QV ..)
  by_cases g:b<(nP e).length
  ·refine⟨0,Qj _,?_,by simp[ar],λ_=>by simpa[ar]using g⟩
   rw[ig,List.take_append_of_le_length oM,z_]
   ·rfl
   ·exact NK (by have:=Gg d f;omega) g
  ·obtain⟨a,h,i,o,j⟩:=xm (l:=l) (λk m=>c k (QJ _ m)) (b-(nP e).length)
   refine⟨a+1,by simpa using h,?_,?_,λn=>?_⟩
   ·rw[ig,List.take_append,Qz oM,Eb d f,i,List.take_succ_cons,ig,QX]
   ·rw[List.take_succ_cons,ig,QX];omega
   ·have:=j (by simpa using n)
    rw[List.take_succ_cons,ig,QX];omega
def gS(a:ah):List UInt8×Int:=if(jt a).2≠0 then([],(jt a).2)else kQ 1 (jt a).1
end Go.ax
namespace Go.Proofs.YtfchlbaidamodaaGreatDoor
open Go.ax
def ur:jP ZQ 197 5 1 1:=⟨kR,kR,dC⟩
end Go.Proofs.YtfchlbaidamodaaGreatDoor
namespace Go.Proofs
open Go.Shelf
def Tryz.FI:Go.Shelf.Ren:=⟨λ|7=>247|10=>296|n=>n,λ|23=>140|26=>9|3=>204|28=>209|0=>0|27=>208|33=>280|4=>4|n=>n,λ|n=>n⟩
def Tryz.tQ:Go.Proofs.SlLaysZ.n7 Tryz.prog Tryz.FI:={
 mixed:=by kernel_rfl
 f7:=⟨Tryz.f247.name,by decide,Tryz.func247.trans (congrArg some (by kernel_rfl))⟩
 f10:=⟨Tryz.f296.name,by decide,Tryz.func296.trans (congrArg some (by kernel_rfl))⟩
 t0:=Tryz.underlying0
 a0:=Tryz.isAgg0
 z0:=Tryz.sizeOf0
 v0:=Tryz.zeroValue0
 t4:=Tryz.underlying4
 a4:=Tryz.isAgg4
 z4:=Tryz.sizeOf4
 v4:=Tryz.zeroValue4
 t23:=Tryz.underlying140
 a23:=Tryz.isAgg140
 z23:=Tryz.sizeOf140
 v23:=Tryz.zeroValue140
 t26:=Tryz.underlying9
 a26:=Tryz.isAgg9
 z26:=Tryz.sizeOf9
 v26:=Tryz.zeroValue9
 t27:=Tryz.underlying208
 a27:=Tryz.isAgg208
 z27:=Tryz.sizeOf208
 v27:=Tryz.zeroValue208
 t28:=Tryz.underlying209
 a28:=Tryz.isAgg209
 z28:=Tryz.sizeOf209
 v28:=Tryz.zeroValue209
 t33:=Tryz.underlying280
 a33:=Tryz.isAgg280
 z33:=Tryz.sizeOf280
 v33:=Tryz.zeroValue280}
def Tryz.zb:Go.Shelf.Ren:=⟨λ|6=>246|8=>294|9=>295|11=>326|13=>207|12=>327|23=>275|24=>276|14=>350|15=>351|16=>352|17=>353|18=>354|19=>355|20=>356|21=>357|22=>358|25=>366|26=>307|27=>308|28=>367|29=>368|30=>369|31=>372|n=>n,λ|26=>9|28=>209|24=>281|0=>0|3=>3|37=>311|48=>357|50=>359|4=>4|40=>351|39=>350|45=>193|5=>5|9=>9|51=>386|55=>379|57=>406|58=>407|33=>280|n=>n,λ|n=>n⟩
def Tryz.T_:Go.Proofs.SlLaysZ.n6 Tryz.prog Tryz.zb:={
 mixed:=by kernel_rfl
 f6:=⟨Tryz.f246.name,by decide,Tryz.func246.trans (congrArg some (by kernel_rfl))⟩
 f8:=⟨Tryz.f294.name,by decide,Tryz.func294.trans (congrArg some (by kernel_rfl))⟩
 f11:=⟨Tryz.f326.name,by decide,Tryz.func326.trans (congrArg some (by kernel_rfl))⟩
 t0:=Tryz.underlying0
 a0:=Tryz.isAgg0
 z0:=Tryz.sizeOf0
 v0:=Tryz.zeroValue0
 t24:=Tryz.underlying281
 a24:=Tryz.isAgg281
 z24:=Tryz.sizeOf281
 v24:=Tryz.zeroValue281
 t26:=Tryz.underlying9
 a26:=Tryz.isAgg9
 z26:=Tryz.sizeOf9
 v26:=Tryz.zeroValue9
 t28:=Tryz.underlying209
 a28:=Tryz.isAgg209
 z28:=Tryz.sizeOf209
 v28:=Tryz.zeroValue209
 i26:=by kernel_rfl}
def Tryz.QN:Go.Shelf.Ren:=⟨λ|6=>295|8=>207|9=>327|19=>275|20=>276|21=>350|22=>351|23=>352|24=>353|25=>354|26=>355|27=>356|28=>357|29=>358|36=>366|31=>307|32=>308|37=>367|38=>368|39=>369|41=>372|n=>n,λ|27=>281|29=>9|3=>3|32=>311|26=>281|0=>0|44=>357|46=>359|4=>4|36=>351|35=>350|41=>193|5=>5|9=>9|53=>386|57=>379|63=>406|64=>407|n=>n,λ|n=>n⟩
def Tryz.Ve:Go.Proofs.SlLaysM.n6 Tryz.prog Tryz.QN:={
 mixed:=by kernel_rfl
 f6:=⟨Tryz.f295.name,by decide,Tryz.func295.trans (congrArg some (by kernel_rfl))⟩
 f8:=Tryz.func207.trans (congrArg some (by kernel_rfl))
 f9:=⟨Tryz.f327.name,by decide,Tryz.func327.trans (congrArg some (by kernel_rfl))⟩
 f19:=Tryz.func275.trans (congrArg some (by kernel_rfl))
 f20:=Tryz.func276.trans (congrArg some (by kernel_rfl))
 f21:=⟨Tryz.f350.name,by decide,Tryz.func350.trans (congrArg some (by kernel_rfl))⟩
 f22:=⟨Tryz.f351.name,by decide,Tryz.func351.trans (congrArg some (by kernel_rfl))⟩
 f23:=⟨Tryz.f352.name,by decide,Tryz.func352.trans (congrArg some (by kernel_rfl))⟩
 f24:=⟨Tryz.f353.name,by decide,Tryz.func353.trans (congrArg some (by kernel_rfl))⟩
 f25:=⟨Tryz.f354.name,by decide,Tryz.func354.trans (congrArg some (by kernel_rfl))⟩
 f26:=⟨Tryz.f355.name,by decide,Tryz.func355.trans (congrArg some (by kernel_rfl))⟩
 f27:=⟨Tryz.f356.name,by decide,Tryz.func356.trans (congrArg some (by kernel_rfl))⟩
 f28:=⟨Tryz.f357.name,by decide,Tryz.func357.trans (congrArg some (by kernel_rfl))⟩
 f29:=⟨Tryz.f358.name,by decide,Tryz.func358.trans (congrArg some (by kernel_rfl))⟩
 f31:=Tryz.func307.trans (congrArg some (by kernel_rfl))
 f32:=Tryz.func308.trans (congrArg some (by kernel_rfl))
 f36:=⟨Tryz.f366.name,by decide,Tryz.func366.trans (congrArg some (by kernel_rfl))⟩
 f37:=⟨Tryz.f367.name,by decide,Tryz.func367.trans (congrArg some (by kernel_rfl))⟩
 f38:=⟨Tryz.f368.name,by decide,Tryz.func368.trans (congrArg some (by kernel_rfl))⟩
 f39:=⟨Tryz.f369.name,by decide,Tryz.func369.trans (congrArg some (by kernel_rfl))⟩
 f41:=⟨Tryz.f372.name,by decide,Tryz.func372.trans (congrArg some (by kernel_rfl))⟩
 t0:=Tryz.underlying0
 a0:=Tryz.isAgg0
 z0:=Tryz.sizeOf0
 v0:=Tryz.zeroValue0
 t3:=Tryz.underlying3
 a3:=Tryz.isAgg3
 z3:=Tryz.sizeOf3
 v3:=Tryz.zeroValue3
 t4:=Tryz.underlying4
 a4:=Tryz.isAgg4
 z4:=Tryz.sizeOf4
 v4:=Tryz.zeroValue4
 t5:=Tryz.underlying5
 a5:=Tryz.isAgg5
 z5:=Tryz.sizeOf5
 v5:=Tryz.zeroValue5
 t9:=Tryz.underlying9
 a9:=Tryz.isAgg9
 z9:=Tryz.sizeOf9
 v9:=Tryz.zeroValue9
 t26:=Tryz.underlying281
 a26:=Tryz.isAgg281
 z26:=Tryz.sizeOf281
 v26:=Tryz.zeroValue281
 t27:=Tryz.underlying281
 a27:=Tryz.isAgg281
 z27:=Tryz.sizeOf281
 v27:=Tryz.zeroValue281
 t29:=Tryz.underlying9
 a29:=Tryz.isAgg9
 z29:=Tryz.sizeOf9
 v29:=Tryz.zeroValue9
 t32:=Tryz.underlying311
 a32:=Tryz.isAgg311
 z32:=Tryz.sizeOf311
 v32:=Tryz.zeroValue311
 t35:=Tryz.underlying350
 a35:=Tryz.isAgg350
 z35:=Tryz.sizeOf350
 v35:=Tryz.zeroValue350
 t36:=Tryz.underlying351
 a36:=Tryz.isAgg351
 z36:=Tryz.sizeOf351
 v36:=Tryz.zeroValue351
 t41:=Tryz.underlying193
 a41:=Tryz.isAgg193
 z41:=Tryz.sizeOf193
 v41:=Tryz.zeroValue193
 t44:=Tryz.underlying357
 a44:=Tryz.isAgg357
 z44:=Tryz.sizeOf357
 v44:=Tryz.zeroValue357
 t46:=Tryz.underlying359
 a46:=Tryz.isAgg359
 z46:=Tryz.sizeOf359
 v46:=Tryz.zeroValue359
 t53:=Tryz.underlying386
 a53:=Tryz.isAgg386
 z53:=Tryz.sizeOf386
 v53:=Tryz.zeroValue386
 t57:=Tryz.underlying379
 a57:=Tryz.isAgg379
 z57:=Tryz.sizeOf379
 v57:=Tryz.zeroValue379
 t63:=Tryz.underlying406
 a63:=Tryz.isAgg406
 z63:=Tryz.sizeOf406
 v63:=Tryz.zeroValue406
 t64:=Tryz.underlying407
 a64:=Tryz.isAgg407
 z64:=Tryz.sizeOf407
 v64:=Tryz.zeroValue407}
def Tryz.KT:Go.Shelf.Ren:=⟨λ|137=>341|217=>363|266=>371|n=>n,λ|9=>9|5=>5|3=>3|n=>n,λ|n=>n⟩
def Tryz.Uo:Go.Proofs.Lays.n137 Tryz.prog Tryz.KT:={
 mixed:=by kernel_rfl
 f137:=Tryz.func341.trans (congrArg some (by kernel_rfl))
 f217:=Tryz.func363.trans (congrArg some (by kernel_rfl))
 f266:=Tryz.func371.trans (congrArg some (by kernel_rfl))
 t3:=Tryz.underlying3
 a3:=Tryz.isAgg3
 z3:=Tryz.sizeOf3
 v3:=Tryz.zeroValue3
 t5:=Tryz.underlying5
 a5:=Tryz.isAgg5
 z5:=Tryz.sizeOf5
 v5:=Tryz.zeroValue5
 t9:=Tryz.underlying9
 a9:=Tryz.isAgg9
 z9:=Tryz.sizeOf9
 v9:=Tryz.zeroValue9}
def Tryz.KU:Go.Shelf.Ren:=⟨λ|129=>276|n=>n,λ|53=>359|3=>3|4=>4|46=>311|5=>5|9=>9|n=>n,λ|n=>n⟩
def Tryz.UH:Go.Proofs.Lays.n129 Tryz.prog Tryz.KU:={
 mixed:=by kernel_rfl
 f129:=Tryz.func276.trans (congrArg some (by kernel_rfl))
 t3:=Tryz.underlying3
 a3:=Tryz.isAgg3
 z3:=Tryz.sizeOf3
 v3:=Tryz.zeroValue3
 t4:=Tryz.underlying4
 a4:=Tryz.isAgg4
 z4:=Tryz.sizeOf4
 v4:=Tryz.zeroValue4
 t5:=Tryz.underlying5
 a5:=Tryz.isAgg5
 z5:=Tryz.sizeOf5
 v5:=Tryz.zeroValue5
 t9:=Tryz.underlying9
 a9:=Tryz.isAgg9
 z9:=Tryz.sizeOf9
 v9:=Tryz.zeroValue9
 t46:=Tryz.underlying311
 a46:=Tryz.isAgg311
 z46:=Tryz.sizeOf311
 v46:=Tryz.zeroValue311
 t53:=Tryz.underlying359
 a53:=Tryz.isAgg359
 z53:=Tryz.sizeOf359
 v53:=Tryz.zeroValue359}
def Tryz.Iz:Go.Shelf.Ren:=⟨λ|171=>173|243=>245|246=>293|283=>322|284=>323|285=>324|286=>325|129=>276|317=>346|318=>347|319=>348|320=>349|337=>364|338=>365|n=>n,λ|3=>3|9=>9|2=>2|4=>4|171=>398|0=>0|53=>359|37=>197|5=>5|173=>400|212=>420|51=>357|20=>20|213=>421|46=>311|232=>432|233=>433|n=>n,λ|17=>4|18=>6|19=>7|n=>n⟩
def Tryz.Ta:Go.Proofs.LaysM.n171 Tryz.prog Tryz.Iz:={
 mixed:=by kernel_rfl
 f129:=Tryz.func276.trans (congrArg some (by kernel_rfl))
 f171:=Tryz.func173.trans (congrArg some (by kernel_rfl))
 f243:=Tryz.func245.trans (congrArg some (by kernel_rfl))
 f246:=Tryz.func293.trans (congrArg some (by kernel_rfl))
 f283:=Tryz.func322.trans (congrArg some (by kernel_rfl))
 f284:=Tryz.func323.trans (congrArg some (by kernel_rfl))
 f285:=Tryz.func324.trans (congrArg some (by kernel_rfl))
 f286:=Tryz.func325.trans (congrArg some (by kernel_rfl))
 f317:=Tryz.func346.trans (congrArg some (by kernel_rfl))
 f318:=Tryz.func347.trans (congrArg some (by kernel_rfl))
 f319:=Tryz.func348.trans (congrArg some (by kernel_rfl))
 f320:=Tryz.func349.trans (congrArg some (by kernel_rfl))
 f337:=Tryz.func364.trans (congrArg some (by kernel_rfl))
 f338:=Tryz.func365.trans (congrArg some (by kernel_rfl))
 t0:=Tryz.underlying0
 a0:=Tryz.isAgg0
 z0:=Tryz.sizeOf0
 v0:=Tryz.zeroValue0
 t2:=Tryz.underlying2
 a2:=Tryz.isAgg2
 z2:=Tryz.sizeOf2
 v2:=Tryz.zeroValue2
 t3:=Tryz.underlying3
 a3:=Tryz.isAgg3
 z3:=Tryz.sizeOf3
 v3:=Tryz.zeroValue3
 t4:=Tryz.underlying4
 a4:=Tryz.isAgg4
 z4:=Tryz.sizeOf4
 v4:=Tryz.zeroValue4
 t5:=Tryz.underlying5
 a5:=Tryz.isAgg5
 z5:=Tryz.sizeOf5
 v5:=Tryz.zeroValue5
 t9:=Tryz.underlying9
 a9:=Tryz.isAgg9
 z9:=Tryz.sizeOf9
 v9:=Tryz.zeroValue9
 t20:=Tryz.underlying20
 a20:=Tryz.isAgg20
 z20:=Tryz.sizeOf20
 v20:=Tryz.zeroValue20
 t37:=Tryz.underlying197
 a37:=Tryz.isAgg197
 z37:=Tryz.sizeOf197
 v37:=Tryz.zeroValue197
 t46:=Tryz.underlying311
 a46:=Tryz.isAgg311
 z46:=Tryz.sizeOf311
 v46:=Tryz.zeroValue311
 t51:=Tryz.underlying357
 a51:=Tryz.isAgg357
 z51:=Tryz.sizeOf357
 v51:=Tryz.zeroValue357
 t53:=Tryz.underlying359
 a53:=Tryz.isAgg359
 z53:=Tryz.sizeOf359
 v53:=Tryz.zeroValue359
 t171:=Tryz.underlying398
 a171:=Tryz.isAgg398
 z171:=Tryz.sizeOf398
 v171:=Tryz.zeroValue398
 t173:=Tryz.underlying400
 a173:=Tryz.isAgg400
 z173:=Tryz.sizeOf400
 v173:=Tryz.zeroValue400
 t212:=Tryz.underlying420
 a212:=Tryz.isAgg420
 z212:=Tryz.sizeOf420
 v212:=Tryz.zeroValue420
 t213:=Tryz.underlying421
 a213:=Tryz.isAgg421
 z213:=Tryz.sizeOf421
 t232:=Tryz.underlying432
 a232:=Tryz.isAgg432
 z232:=Tryz.sizeOf432
 v232:=Tryz.zeroValue432
 t233:=Tryz.underlying433
 a233:=Tryz.isAgg433
 z233:=Tryz.sizeOf433
 v233:=Tryz.zeroValue433
 g17:=by kernel_rfl
 g18:=by kernel_rfl
 g19:=by kernel_rfl
 i0:=by kernel_rfl
 i2:=by kernel_rfl
 i3:=by kernel_rfl
 i4:=by kernel_rfl
 i5:=by kernel_rfl
 i9:=by kernel_rfl
 i20:=by kernel_rfl
 i37:=by kernel_rfl
 i46:=by kernel_rfl
 i51:=by kernel_rfl
 i53:=by kernel_rfl
 i171:=by kernel_rfl
 i173:=by kernel_rfl
 i212:=by kernel_rfl
 i232:=by kernel_rfl
 i233:=by kernel_rfl
 m17:=by kernel_rfl
 m18:=by kernel_rfl
 m19:=by kernel_rfl}
def Tryz.GD:Go.Shelf.Ren:=⟨λ|7=>240|10=>289|n=>n,λ|23=>147|26=>3|3=>3|28=>329|0=>0|27=>328|33=>189|4=>4|n=>n,λ|n=>n⟩
def Tryz.Yf:Go.Proofs.SlLaysZI.n7 Tryz.prog Tryz.GD:={
 mixed:=by kernel_rfl
 f7:=⟨Tryz.f240.name,by decide,Tryz.func240.trans (congrArg some (by kernel_rfl))⟩
 f10:=⟨Tryz.f289.name,by decide,Tryz.func289.trans (congrArg some (by kernel_rfl))⟩
 t0:=Tryz.underlying0
 a0:=Tryz.isAgg0
 z0:=Tryz.sizeOf0
 v0:=Tryz.zeroValue0
 t4:=Tryz.underlying4
 a4:=Tryz.isAgg4
 z4:=Tryz.sizeOf4
 v4:=Tryz.zeroValue4
 t23:=Tryz.underlying147
 a23:=Tryz.isAgg147
 z23:=Tryz.sizeOf147
 v23:=Tryz.zeroValue147
 t26:=Tryz.underlying3
 a26:=Tryz.isAgg3
 z26:=Tryz.sizeOf3
 v26:=Tryz.zeroValue3
 t27:=Tryz.underlying328
 a27:=Tryz.isAgg328
 z27:=Tryz.sizeOf328
 v27:=Tryz.zeroValue328
 t28:=Tryz.underlying329
 a28:=Tryz.isAgg329
 z28:=Tryz.sizeOf329
 v28:=Tryz.zeroValue329
 t33:=Tryz.underlying189
 a33:=Tryz.isAgg189
 z33:=Tryz.sizeOf189
 v33:=Tryz.zeroValue189}
def Tryz.zR:Go.Shelf.Ren:=⟨λ|6=>239|8=>287|9=>288|11=>318|13=>207|12=>319|23=>275|24=>276|14=>333|15=>334|16=>335|17=>336|18=>337|19=>338|20=>311|21=>339|22=>340|25=>360|26=>307|27=>308|28=>361|29=>362|30=>277|31=>370|n=>n,λ|26=>3|28=>329|24=>55|0=>0|3=>3|37=>311|48=>357|50=>359|4=>4|40=>351|39=>350|45=>193|5=>5|9=>9|51=>386|55=>379|57=>406|58=>407|33=>189|n=>n,λ|n=>n⟩
def Tryz.UY:Go.Proofs.SlLaysZI.n6 Tryz.prog Tryz.zR:={
 mixed:=by kernel_rfl
 f6:=⟨Tryz.f239.name,by decide,Tryz.func239.trans (congrArg some (by kernel_rfl))⟩
 f8:=⟨Tryz.f287.name,by decide,Tryz.func287.trans (congrArg some (by kernel_rfl))⟩
 f11:=⟨Tryz.f318.name,by decide,Tryz.func318.trans (congrArg some (by kernel_rfl))⟩
 t0:=Tryz.underlying0
 a0:=Tryz.isAgg0
 z0:=Tryz.sizeOf0
 v0:=Tryz.zeroValue0
 t24:=Tryz.underlying55
 a24:=Tryz.isAgg55
 z24:=Tryz.sizeOf55
 v24:=Tryz.zeroValue55
 t26:=Tryz.underlying3
 a26:=Tryz.isAgg3
 z26:=Tryz.sizeOf3
 v26:=Tryz.zeroValue3
 t28:=Tryz.underlying329
 a28:=Tryz.isAgg329
 z28:=Tryz.sizeOf329
 v28:=Tryz.zeroValue329
 i26:=by kernel_rfl}
def Tryz.QO:Go.Shelf.Ren:=⟨λ|5=>288|8=>207|7=>319|19=>275|20=>276|10=>333|11=>334|12=>335|13=>336|14=>337|15=>338|16=>311|17=>339|18=>340|30=>360|31=>307|32=>308|33=>361|34=>362|35=>277|40=>370|n=>n,λ|23=>55|25=>3|3=>3|32=>311|22=>55|0=>0|44=>357|46=>359|4=>4|36=>351|35=>350|41=>193|5=>5|9=>9|53=>386|57=>379|63=>406|64=>407|n=>n,λ|n=>n⟩
def Tryz.xq:Go.Proofs.SlLaysM.n5 Tryz.prog Tryz.QO:={
 mixed:=by kernel_rfl
 f5:=⟨Tryz.f288.name,by decide,Tryz.func288.trans (congrArg some (by kernel_rfl))⟩
 f7:=⟨Tryz.f319.name,by decide,Tryz.func319.trans (congrArg some (by kernel_rfl))⟩
 f8:=Tryz.func207.trans (congrArg some (by kernel_rfl))
 f10:=⟨Tryz.f333.name,by decide,Tryz.func333.trans (congrArg some (by kernel_rfl))⟩
 f11:=⟨Tryz.f334.name,by decide,Tryz.func334.trans (congrArg some (by kernel_rfl))⟩
 f12:=⟨Tryz.f335.name,by decide,Tryz.func335.trans (congrArg some (by kernel_rfl))⟩
 f13:=⟨Tryz.f336.name,by decide,Tryz.func336.trans (congrArg some (by kernel_rfl))⟩
 f14:=⟨Tryz.f337.name,by decide,Tryz.func337.trans (congrArg some (by kernel_rfl))⟩
 f15:=⟨Tryz.f338.name,by decide,Tryz.func338.trans (congrArg some (by kernel_rfl))⟩
 f16:=⟨Tryz.f311.name,by decide,Tryz.func311.trans (congrArg some (by kernel_rfl))⟩
 f17:=⟨Tryz.f339.name,by decide,Tryz.func339.trans (congrArg some (by kernel_rfl))⟩
 f18:=⟨Tryz.f340.name,by decide,Tryz.func340.trans (congrArg some (by kernel_rfl))⟩
 f19:=Tryz.func275.trans (congrArg some (by kernel_rfl))
 f20:=Tryz.func276.trans (congrArg some (by kernel_rfl))
 f30:=⟨Tryz.f360.name,by decide,Tryz.func360.trans (congrArg some (by kernel_rfl))⟩
 f31:=Tryz.func307.trans (congrArg some (by kernel_rfl))
 f32:=Tryz.func308.trans (congrArg some (by kernel_rfl))
 f33:=⟨Tryz.f361.name,by decide,Tryz.func361.trans (congrArg some (by kernel_rfl))⟩
 f34:=⟨Tryz.f362.name,by decide,Tryz.func362.trans (congrArg some (by kernel_rfl))⟩
 f35:=⟨Tryz.f277.name,by decide,Tryz.func277.trans (congrArg some (by kernel_rfl))⟩
 f40:=⟨Tryz.f370.name,by decide,Tryz.func370.trans (congrArg some (by kernel_rfl))⟩
 t0:=Tryz.underlying0
 a0:=Tryz.isAgg0
 z0:=Tryz.sizeOf0
 v0:=Tryz.zeroValue0
 t3:=Tryz.underlying3
 a3:=Tryz.isAgg3
 z3:=Tryz.sizeOf3
 v3:=Tryz.zeroValue3
 t4:=Tryz.underlying4
 a4:=Tryz.isAgg4
 z4:=Tryz.sizeOf4
 v4:=Tryz.zeroValue4
 t5:=Tryz.underlying5
 a5:=Tryz.isAgg5
 z5:=Tryz.sizeOf5
 v5:=Tryz.zeroValue5
 t9:=Tryz.underlying9
 a9:=Tryz.isAgg9
 z9:=Tryz.sizeOf9
 v9:=Tryz.zeroValue9
 t22:=Tryz.underlying55
 a22:=Tryz.isAgg55
 z22:=Tryz.sizeOf55
 v22:=Tryz.zeroValue55
 t23:=Tryz.underlying55
 a23:=Tryz.isAgg55
 z23:=Tryz.sizeOf55
 v23:=Tryz.zeroValue55
 t25:=Tryz.underlying3
 a25:=Tryz.isAgg3
 z25:=Tryz.sizeOf3
 v25:=Tryz.zeroValue3
 t32:=Tryz.underlying311
 a32:=Tryz.isAgg311
 z32:=Tryz.sizeOf311
 v32:=Tryz.zeroValue311
 t35:=Tryz.underlying350
 a35:=Tryz.isAgg350
 z35:=Tryz.sizeOf350
 v35:=Tryz.zeroValue350
 t36:=Tryz.underlying351
 a36:=Tryz.isAgg351
 z36:=Tryz.sizeOf351
 v36:=Tryz.zeroValue351
 t41:=Tryz.underlying193
 a41:=Tryz.isAgg193
 z41:=Tryz.sizeOf193
 v41:=Tryz.zeroValue193
 t44:=Tryz.underlying357
 a44:=Tryz.isAgg357
 z44:=Tryz.sizeOf357
 v44:=Tryz.zeroValue357
 t46:=Tryz.underlying359
 a46:=Tryz.isAgg359
 z46:=Tryz.sizeOf359
 v46:=Tryz.zeroValue359
 t53:=Tryz.underlying386
 a53:=Tryz.isAgg386
 z53:=Tryz.sizeOf386
 v53:=Tryz.zeroValue386
 t57:=Tryz.underlying379
 a57:=Tryz.isAgg379
 z57:=Tryz.sizeOf379
 v57:=Tryz.zeroValue379
 t63:=Tryz.underlying406
 a63:=Tryz.isAgg406
 z63:=Tryz.sizeOf406
 v63:=Tryz.zeroValue406
 t64:=Tryz.underlying407
 a64:=Tryz.isAgg407
 z64:=Tryz.sizeOf407
 v64:=Tryz.zeroValue407}
end Go.Proofs
namespace Go.ax
open Go
def wrap_u64(a:Int):IntKind.wrap .u64 a=a % 18446744073709551616:=by
 unfold IntKind.wrap;simp[IntKind.signed,IntKind.bits]
variable{a7 v:List UInt8}{a c i n:Nat}{d:Option Addr}{h:Program}{A g q:TypeId}{o u:Value->World->Prop}{b:World}
def Gs(b:a<18446744073709551616):IntKind.wrap .u64 (a:Int)=a:=by rw[wrap_u64];omega
def MM(t:jP h g q 1 1){M D:Nat->Prop}(f:aV gq q M b (ZZ a) c i v)(E:Row gq 1 b D d c a7)(l:∀m,aV gq q (·=a) m (ZZ a) c i a7->aj (·=a) b m->m.heap.size=b.heap.size->o (QH c) m):
  aH h (Builtin.copy_ #[g,g] A #[.slice (ZZ a) c i,.slice d c n]) b o u:=by
 obtain⟨a1,a2,N,hz,O,a3,a4⟩:=t.info;have F:(h.info? q).map (·.size)=some 1:=by rw[N];simp[O]
 have p:=E.len;have P:=f.len dC;obtain⟨a5,D0,H,a6,a8⟩:=f.body;rcases H.cases with⟨w,_⟩|⟨Q,e,w,x,R,S,a9⟩
 ·cases w
 cases w
 by_cases I:c=0
 ·subst I
  have:a7=[]:=QW p.symm;subst this;have:v=[]:=QW P.symm;subst this;have r:=run_copy_none (P:=h) b g g A q (ZZ a) d 0 i 0 n t.under F (by rfl);refine aH.mk (v:=QH 0) r (l b ?_ (aj.refl _) rfl);have:=f.alone;exact⟨by obtain⟨cs,D,T,j,b0⟩:=this.body;exact⟨cs,λ_=>False,T,by rw[show cs=[]from j];rfl,λ_ f=>f.elim⟩,λj k=>by simpa[aI]using k.symm,λj k=>by rw[k];exact aC x⟩
 ·obtain⟨cs,y,U⟩:=E.bl
  have z:a7≠[]:=by rintro rfl;simp at p;exact I p
  obtain⟨j,B,V,_,_,W⟩:=U z dC;subst V;have s:cs.length=c:=by have:=y.length;rw[this,p];show _*1=_;omega
  have b1:e.size=i:=by rw[S];show i*1=i;omega
  have r:=run_copy_row (P:=h) b g g A q a 0 c i ⟨j,B,none⟩ c n e q cs t.under F x (by rw[s];simp[Nat.min_self]) (λX Y Z=>by rw[Addr.add_lit];exact W X Y Z) oM (y.Sk);rw[s]at r;have J:=setRow_heap b a e (e.toList.take 0++cs++e.toList.drop (0+c)).toArray q (0,0) x;refine aH.mk r (l _ ⟨⟨cs,λ_=>False,⟨⟨by rw[s];show c=c*1;omega,.inr ⟨a,i,_,rfl,Qj _,J,R,?_,?_,?_⟩⟩⟩,y.free,λ_ f=>f.elim⟩,λj k=>by simpa[aI]using k.symm,λj k=>by subst k;exact aC J⟩ ⟨rfl,rfl,rfl,by simp[World.setRow],λa0 hk z=>setRow_other b a a0 _ z⟩ (by simp[World.setRow]))
  ·rcases H.row.2 with⟨C,_⟩|⟨Q,K,L,C,_,_,_,hm,_⟩
   ·cases C
   ·cases C;exact hm
  ·show _=i*1
   simp;omega
  ·simp only[List.take_zero,List.nil_append,Xz]
   show(cs++e.toList.drop c).take (c*1)=cs;rw[Nat.mul_one,<-s,List.take_left]
end Go.ax
namespace Go.Proofs.YtfchlbaidamodaaGreatDoor
open Go.ax
variable{e:Int}{v:List UInt8}{a c:Nat}{d:Option Addr}{b:World}
def Qf(d:aN e):Calls ZQ 304 #[QH e] b (Ok λf g=>f= .tuple #[.int .u64 (e.natAbs:Int),.int .u8 (if e<0 then 16 else 0)]/\b=g):=by
 unfold aN at d;refine Jm (al.dec (λa=>?_) (λa=>?_))
 ·refine Ok.mk ⟨?_,rfl⟩
  rw[if_pos a,wrap_u64,wrap_u64];have c:(0-e % 18446744073709551616) % 18446744073709551616=(e.natAbs:Int):=oM
  rw[c]
 ·refine Ok.mk ⟨?_,rfl⟩
  rw[if_neg a,wrap_u64];have c:e % 18446744073709551616=(e.natAbs:Int):=oM
  rw[c]
def bits_Len64{a:Nat}{b:World}(e:a<18446744073709551616):Calls ZQ 276 #[.int .u64 (a:Int)] b (Ok λd c=>d= QH (Lib.bitLen a:Int)/\b=c):=by
 refine(Any.bits_Len64 Tryz.UH (a:Int) b oM oM).mono ?_;rintro f c ⟨rfl,rfl⟩;exact Ok.mk ⟨by rw[Qx],rfl⟩
def Wo(d:a<=8)(b:Bool):Rg .u8 (if b then 16 else 0) (IntKind.wrap .u8 (a:Int))=((UInt8.ofNat (a+if b then 16 else 0)).toNat:Int):=by
 have c:(List.range 9).all (λa=>Rg .u8 16 (IntKind.wrap .u8 (a:Int))==((UInt8.ofNat (a+16)).toNat:Int)&&Rg .u8 0 (IntKind.wrap .u8 (a:Int))==((UInt8.ofNat (a+0)).toNat:Int))=true:=by decide+kernel
 have:=List.all_eq_true.1 c a (List.mem_range.2 oM);simp only[QK,beq_iff_eq]at this
 cases b
 ·exact this.2
 ·exact this.1
def Cx{m:Int}{D:Nat->Prop}(t:aN m)(i:Row gq 1 b D d a v)(L:a+9<=aQ)(hD:∀g,D g->g<b.heap.size):
  Calls ZQ 260 #[.slice d a c,QH m] b (Ok (qD gq 5 b (v++eB m))):=by
 have l:=i.len;have n:=t;unfold aN at n;have M:=L;unfold aQ at M;have u:m.natAbs<2 ^ 64:=oM
 have w:=Dx u;have N:=zK _ u;refine LD (PC.ok (Qf t) ?_);rintro _ _ ⟨rfl,rfl⟩;refine⟨_,_,rfl,PC.ok (bits_Len64 oM) ?_⟩;rintro _ _ ⟨rfl,rfl⟩;have O:IntKind.wrap .i64 (Int.tdiv (IntKind.wrap .i64 ((Lib.bitLen m.natAbs:Int)+7)) 8)=((fW m.natAbs).length:Int):=by
  rw[wrap_i64 (x:=(Lib.bitLen m.natAbs:Int)+7) (by unfold aN;omega),Int.tdiv_eq_ediv_of_nonneg oM,wrap_i64 (by unfold aN;omega),N];omega
 have P:IntKind.wrap .i64 ((IntKind.wrap .i64 (((a:Nat):Int)+1))+((fW m.natAbs).length:Int))=((a+1+(fW m.natAbs).length:Nat):Int):=by
  rw[wrap_i64 (x:=((a:Nat):Int)+1) (by unfold aN;omega),wrap_i64 (by unfold aN;omega)];omega
 refine⟨_,rfl,?_⟩;rw[O,P];refine Wp ur kR oM (by unfold aQ;omega) λw1 Q y b4=>?_;refine⟨_,_,_,rfl,MM ur Q (i.af y) λR S T b5=>⟨_,rfl,?_⟩⟩;have z:ai b R:=y.new T λg i=>.inr oM;rw[show IntKind.wrap .u8 ((fW m.natAbs).length:Int)=IntKind.wrap .u8 ((fW m.natAbs).length:Int)from rfl];have A:=Wo w (decide (m<0));simp only[decide_eq_true_eq]at A;rw[A];refine IL S ur (x:=UInt8.ofNat ((fW m.natAbs).length+if m<0 then 16 else 0)) (D:=λ_=>False) ⟨rfl,trivial⟩ (λ_ h=>h.elim) (by rw[<-l];unfold aQ;omega) (by rw[<-l];unfold maxLen;omega) λa4 c3 U V B W X b6=>?_;have Y:ai b U:=z.new W λg i=>.inr (by simp only[aI,Q1]at i;omega);have Z:a+1=(v++[UInt8.ofNat ((fW m.natAbs).length+if m<0 then 16 else 0)]).length:=by simp[l]
 generalize a8:v++[UInt8.ofNat ((fW m.natAbs).length+if m<0 then 16 else 0)]=o at B Z;have a0:v++eB m=o++(fW m.natAbs).reverse:=by rw[<-a8,XQ];rfl
 rw[a0];generalize a9:(fW m.natAbs).length=f at w⊢;refine⟨_,_,_,rfl,λC E p F H I=>∃e:Nat,e<=f/\H=(f:Int)-1-e/\C=f-e/\p=a+1+e/\∃j,aV gq 5 j I E p F (o++(fW m.natAbs).reverse.take e)/\ai b I/\∀g,j g->b.heap.size<=g,
  ⟨_,0,Qj _,by rw[wrap_i64 (by unfold aN;omega)];omega,rfl,rfl,V,by simpa using B,Y,λg i=>?_⟩,?_⟩
 ·rcases X g i with h|h|h
  ·omega
  ·exact h.elim
  ·have:=z.size;omega
 rintro C E p F H _ q ⟨e,hj,rfl,rfl,rfl,j,k,r,s⟩;refine al.dec (λh1=>?_) (λh1=>?_)
 ·have b7:e<f:=oM
  have b0:IntKind.wrap .i64 (8*((f:Int)-1-e))=((8*(f-1-e):Nat):Int):=by rw[wrap_i64 (by unfold aN;omega)];omega
  rw[b0];have a1:∀x J,(do eqGuard .shr 359 x J (.int .u64 (m.natAbs:Int)) (QH ((8*(f-1-e):Nat):Int));binOp .shr 359 (.int .u64 (m.natAbs:Int)) (QH ((8*(f-1-e):Nat):Int)):Sem Value).run ZQ q=
    .ok (.int .u64 ((m.natAbs/256 ^(f-1-e):Nat):Int)) q:=λx J=>by
   have h0:=shift_shr .u64 .i64 (m.natAbs:Int) ((8*(f-1-e):Nat):Int) oM (by show _<=((64:Nat):Int);omega);have e1:(m.natAbs:Int)/2 ^(Int.toNat ((8*(f-1-e):Nat):Int))=((m.natAbs/256 ^(f-1-e):Nat):Int):=by
    have e2:(256:Nat) ^(f-1-e)=2 ^(8*(f-1-e)):=by rw[Nat.pow_mul]
    rw[Qx,e2];simp
   show(Op.shift .shr .u64 (m.natAbs:Int) .i64 ((8*(f-1-e):Nat):Int)).run ZQ q=_;rw[h0,e1]
   rfl
  refine aH.mk (a1 _ _) ⟨_,rfl,?_⟩;have a2:(fW m.natAbs).reverse[e]? =some (UInt8.ofNat (m.natAbs/256 ^(f-1-e))):=by
   rw[List.getElem?_reverse oM,a9];rw[SO _ _ oM]
   congr 1
   refine UInt8.toNat_inj.1 ?_;rw[UInt8.toNat_ofNat',UInt8.toNat_ofNat'];omega
  have a3:IntKind.wrap .u8 ((m.natAbs/256 ^(f-1-e):Nat):Int)=((UInt8.ofNat (m.natAbs/256 ^(f-1-e))).toNat:Int):=by
   rw[UInt8.toNat_ofNat'];unfold IntKind.wrap;simp[IntKind.signed,IntKind.bits]
  rw[a3];have K:(o++(fW m.natAbs).reverse.take e).length=a+1+e:=by simp;omega
  refine IL k ur (x:=UInt8.ofNat (m.natAbs/256 ^(f-1-e))) (D:=λ_=>False) ⟨rfl,trivial⟩ (λ_ h=>h.elim) (by rw[K];unfold aQ;omega) (by rw[K];unfold maxLen;omega) λa5 c5 w5 F5 b1 b2 b3 b8=>?_;refine⟨_,_,_,rfl,_,oM,e+1,oM,by rw[wrap_i64 (by unfold aN;omega)];omega,rfl,oM,F5,?_,r.new b2 λg i=>.inr (s g (k.self g i)),λg i=>?_⟩
  ·rw[Qw,a2]
   simpa using b1
  ·rcases b3 g i with h|h|h
   ·exact s g h
   ·exact h.elim
   ·exact Xx r.size h
 ·obtain rfl:e=f:=oM
  rw[Qz (by simp;omega)]at k;exact Ok.mk ⟨_,_,_,j,rfl,k,r,s⟩
end Go.Proofs.YtfchlbaidamodaaGreatDoor
namespace Go.ax
open Go
def Own.set{f:World}{l:TypeId}{n:Nat}{g:Option Addr}{o b:Nat}{cs:List Value}(p:Own f l n g o b cs){m:Nat}{q:Value}{r:World->Prop}(H:m<cs.length){c d:Nat}(h:g=some ⟨c,d,none⟩)(i:∀a,Own a l n g o b (cs.set m q)->aj (λc=>aI g=some c) f a->a.heap.size=f.heap.size->r a):PS f ⟨c,d+m,none⟩ q r:=by
 have s:=p.row.1;rcases p.row.2 with⟨e,I⟩|⟨J,K,k,e,t,u,v,w,x,j⟩
 ·simp only[XX]at e
  rw[e.1]at h;cases h
 ·simp only[XX]at e
  obtain⟨y,-,z⟩:=e;subst y;subst z
  cases h
  rw[Xz];have A:m<k.size:=by
   have:=congrArg List.length j;simp at this;omega
  refine PS.mk u A λa B C E=>i a ⟨⟨by simpa using s,.inr ⟨_,_,_,rfl,t,E,v,w,by simpa using x,?_⟩⟩⟩ (B.mono λc _ F=>by rw[F];rfl) C;rw[Array.toList_setIfInBounds,List.take_set,j]
def bT.om{c:Type}{d:Nat}{a:c->List Value}{hl h1}{e:World}{D:Nat->Prop}:∀{b:List c} {cs:List Value},bT (flat d a (λ_=>True) hl h1) e D b cs↔cs=b.flatMap a
 |[],cs=>by simp[bT]
 |x::b,cs=>by
  constructor
  ·rintro⟨g,h,rfl,⟨rfl,-⟩,f⟩
   rw[bT.om.1 f];rfl
  ·rintro rfl
   exact⟨a x,b.flatMap a,rfl,⟨rfl,trivial⟩,bT.om.2 rfl⟩
def sh{e:Type}{enc:e->List Value}{k:Nat}(f:∀b,(enc b).length=k){x':e}{v:Value}{c:Nat}(i:c<k):∀(g:List e) (a:Nat) (b:e),g[a]? =some b->enc x'=(enc b).set c v->(g.flatMap enc).set (a*k+c) v=(g.set a x').flatMap enc
 |[],a,b,d,_=>by simp at d
 |y::j,0,b,d,h=>by
  simp at d;subst d;rw[List.flatMap_cons,List.set_cons_zero,List.flatMap_cons,Nat.zero_mul,Xz,List.set_append_left _ _ (by rw[f];exact i),h]
 |y::j,a+1,b,d,h=>by
  have:=sh f i j a b (by simpa using d) h;have l:(a+1)*k+c-k=a*k+c:=by rw[X7];omega
  have m:k<=(a+1)*k+c:=by rw[X7];omega
  rw[List.flatMap_cons,List.set_cons_succ,List.flatMap_cons,List.set_append_right _ _ (by rw[f];exact m),f,l,this]
def lN{c:Type}{a:c->List Value}{d:Nat}(e:∀x,(a x).length=d):∀b:List c,(b.flatMap a).length=b.length*d
 |[]=>by simp
 |x::b=>by rw[List.flatMap_cons,QX,e,lN e b,Xq,X7,Nat.one_mul,Nat.add_comm]
variable{E a c i n:Nat}{f:Nat->Prop}{d p:Option Addr}{h:Program}{j:Type}{A g q:TypeId}{w:Value}{o u:Value->World->Prop}{b:World}{y:World->Prop}
def aV.set{m:Type}{e:m->List Value}{hl h1}{k:List m}(o:aV (flat a e (λ_=>True) hl h1) g f b d c i k){h j:Nat}{x x':m}(q:k[h]? =some x)(s:j<a)(t:e x'=(e x).set j w)(u:d=some ⟨n,E,none⟩)(p:∀l,aV (flat a e (λ_=>True) hl h1) g f l d c i (k.set h x')->aj (λn=>aI d=some n) b l->l.heap.size=b.heap.size->y l):PS b ⟨n,E+h*a+j,none⟩ w y:=by
 obtain⟨cs,D,v,z,A⟩:=o.body;have B:=bT.om.1 z;subst B;have C:h<k.length:=(Qv.1 q).1;rw[Nat.add_assoc];refine v.set (m:=h*a+j) ?_ u λl F H r=>p l ⟨⟨_,D,F,bT.om.2 (sh hl s k h x q t),A⟩,o.self,λn I=>by rw[r];exact o.aF n I⟩ H r;rw[lN hl];have:(h+1)*a<=k.length*a:=Q0 _ C;rw[X7]at this;omega
def yO{P:Program}{w:World}(a:Nat)(c h d:TypeId)(i:TypeInfo)(b:Nat)(f:P.underlying c=some (.slice d))(g:P.info? d=some i)(e:Value)(j:Nat)(k:List Value)(l:w.ownsRow a d b e j k)(m:Nat):
  (Builtin.append_ #[c,c] h #[e,.slice none 0 m]).run P w= .ok e w:=by
 rcases l.2 with⟨rfl,rfl⟩|⟨q,n,o,rfl,_,_,p,_⟩
 ·simp[Builtin.append_,run_underlying f,sizeOf,typeInfo,g,Builtin.lenOf,Builtin.firstCells]
 ·simp[Builtin.append_,run_underlying f,sizeOf,typeInfo,g,Builtin.lenOf,Builtin.firstCells,p,storeCells]
def AZ{m:kM j}{t:List j}{bytes:Nat}(v:aV m g f b d a c t)(w:jP h q g m.k bytes){D:Nat->Prop}{l:List j}(x:Row m bytes b D p i l)(C:∀e,D e->e<b.heap.size/\aI d≠some e)(r:(t.length+l.length)*bytes<=aQ)(E:t.length+l.length<=maxLen)(s:∀y k z B,aV m g B z y (a+i) k (t++l)->aj (λF=>aI d=some F) b z->(∀e,B e->f e\/D e\/b.heap.size<=e)->(∀e,aI y=some e->f e\/b.heap.size<=e)->o (.slice y (a+i) k) z):
  aH h (Builtin.append_ #[q,q] A #[.slice d a c,.slice p i n]) b o u:=by
 cases p with
 |some O=>exact lH v w x C r E s
 |none=>
  have H:l=[]:=by
   cases l with
   |nil=>rfl
   |cons I P=>obtain⟨e,J,Q,K,_⟩:=x.el 0 I rfl;cases K
  subst H;obtain rfl:i=0:=x.len;obtain⟨L,R,M,S,T,U,V⟩:=jP.info w;obtain⟨cs,W,N,X,Y⟩:=v.body;exact aH.mk (yO (P:=h) (w:=b) 0 q A g L m.k w.under M (.slice d a c) a cs N.row n) (s d c b f (by simpa using v) (aj.refl _) (λe r=>.inl r) λe r=>.inl (v.self e r))
end Go.ax

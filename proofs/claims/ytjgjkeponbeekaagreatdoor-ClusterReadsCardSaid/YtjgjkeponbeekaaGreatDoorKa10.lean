import Derived.Test.YtjgjkeponbeekaaGreatDoorKa9
import Derived.Shelf.SlIter.Nil
import Derived.Shelf.SlIterI.Nil
import Derived.Shelf.SortM.Plain
import Derived.Shelf.SortM.SortNone
import Derived.Shelf.Strconv.Itoa3
import Derived.Shelf.Small.Strs
import Derived.Ground.GgzProg
import Derived.Ground.SlgmProg
import Derived.Ground.NamesProg
import Derived.Test.YtjgjkeponbeekaaGreatDoorProg
import Derived.Laws.CopyRow
import Derived.Laws.IdiomCopy
set_option linter.all false
set_option maxHeartbeats 4000000
set_option maxRecDepth 20000
namespace Go.ar
open Go
abbrev qS:=BitVec 32
def AK:qS:=0xEDB88320#32
def mT(a:qS):qS:=(a>>>1) ^^^(if a.getLsbD 0 then AK else 0#32)
def AL(a b:qS):mT (a ^^^ b)=mT a ^^^ mT b:=by
 unfold mT;rw[BitVec.ushiftRight_xor_distrib,BitVec.getLsbD_xor]
 cases a.getLsbD 0<;>cases b.getLsbD 0<;>simp only[Bool.xor_false,Bool.xor_true,Bool.not_true,Bool.not_false,if_true,if_false,Bool.false_eq_true,BitVec.xor_zero,BitVec.zero_xor]
 ·ac_rfl
 ·ac_rfl
 ·have:(a>>>1 ^^^ AK) ^^^(b>>>1 ^^^ AK)=(a>>>1 ^^^ b>>>1) ^^^(AK ^^^ AK):=by ac_rfl
  rw[this,BitVec.xor_self,BitVec.xor_zero]
def ow(a:qS):qS:=mT (mT (mT (mT (mT (mT (mT (mT a)))))))
def Dk(a b:qS):ow (a ^^^ b)=ow a ^^^ ow b:=by
 unfold ow;simp only[AL]
def TF(a:Bool):qS:=if a then 1#32 else 0#32
def AM(a:qS)(b:Bool):qS:=(a>>>1) ^^^(if a.getLsbD 0 !=b then AK else 0#32)
def Dp(a:qS)(b:Bool):AM a b=mT (a ^^^ TF b):=by
 unfold AM
 cases b
 ·simp[TF,mT]
 ·rw[AL]
  have:mT (TF true)=AK:=by decide+kernel
  rw[this];unfold mT
  cases a.getLsbD 0
  ·simp
  ·have c:(a>>>1 ^^^(if true=true then AK else 0#32)) ^^^ AK=a>>>1 ^^^(AK ^^^ AK):=by rw[if_pos rfl];ac_rfl
   rw[c,BitVec.xor_self];simp
def jK(a:qS)(b:UInt8):qS:=(List.range 8).foldl (λa c=>AM a (b.toNat.testBit c)) a
def xr(a:UInt8):qS:=BitVec.ofNat 32 a.toNat
def Hx(a:qS)(c:UInt8):jK a c=ow a ^^^ jK 0#32 c:=by
 have g:∀(b:List Nat) (d e:qS),(b.foldl (λa f=>AM a (c.toNat.testBit f)) (d ^^^ e))=(b.foldl (λa _=>mT a) d) ^^^(b.foldl (λa f=>AM a (c.toNat.testBit f)) e):=by
  intro b
  induction b with
  |nil=>intro d e;rfl
  |cons f b h=>
   intro d e;simp only[List.foldl_cons];rw[<-h]
   congr 1
   rw[Dp,Dp];simp only[AL]
   ac_rfl
 have:=g (List.range 8) a 0#32;rw[BitVec.xor_zero]at this;exact this
def Hy(a:UInt8):jK 0#32 a=ow (xr a):=by
 have c:(List.range 256).all (λb=>jK 0#32 (UInt8.ofNat b)==ow (xr (UInt8.ofNat b)))=true:=by decide+kernel
 have:=List.all_eq_true.1 c a.toNat (List.mem_range.2 a.toNat_lt);simpa using this
def Ka(a:qS)(b:UInt8):jK a b=ow (a ^^^ xr b):=by
 rw[Hx,Hy,Dk]
def MS{a:qS}(b:a.getLsbD 0=false):mT a=a>>>1:=by
 unfold mT;rw[b];simp
def Kb(b:qS):ow (b&&&0xFFFFFF00#32)=b>>>8:=by
 have bit:∀a,a<8->((b&&&0xFFFFFF00#32)>>>a).getLsbD 0=false:=λa d=>by
  rw[BitVec.getLsbD_ushiftRight,BitVec.getLsbD_and,Nat.add_zero];have:(0xFFFFFF00#32:qS).getLsbD a=false:=by
   have e:(List.range 8).all (λa=>(0xFFFFFF00#32:qS).getLsbD a==false)=true:=by decide+kernel
   simpa using List.all_eq_true.1 e a (List.mem_range.2 d)
  rw[this,Bool.and_false]
 have step:∀a,a<8->mT ((b&&&0xFFFFFF00#32)>>>a)=(b&&&0xFFFFFF00#32)>>>(a+1):=λa d=>by
  rw[MS (bit a d),BitVec.shiftRight_add]
 have f:b&&&0xFFFFFF00#32=(b&&&0xFFFFFF00#32)>>>0:=sM
 unfold ow;rw[f,step 0 oM,step 1 oM,step 2 oM,step 3 oM,step 4 oM,step 5 oM,step 6 oM,step 7 oM];apply BitVec.eq_of_getLsbD_eq;intro c g;rw[BitVec.getLsbD_ushiftRight,BitVec.getLsbD_ushiftRight,BitVec.getLsbD_and]
 by_cases h:7+1+c<32
 ·have:(0xFFFFFF00#32:qS).getLsbD (7+1+c)=true:=by
   have e:(List.range 24).all (λc=>(0xFFFFFF00#32:qS).getLsbD (7+1+c)==true)=true:=by decide+kernel
   simpa using List.all_eq_true.1 e c (List.mem_range.2 oM)
  rw[this,Bool.and_true]
 ·rw[BitVec.getLsbD_of_ge _ _ oM]
  simp
def jv:List Nat:=[0x00000000,0x77073096,0xEE0E612C,0x990951BA,0x076DC419,0x706AF48F,0xE963A535,0x9E6495A3,0x0EDB8832,0x79DCB8A4,0xE0D5E91E,0x97D2D988,0x09B64C2B,0x7EB17CBD,0xE7B82D07,0x90BF1D91]
def jw:List Nat:=[0x00000000,0x1DB71064,0x3B6E20C8,0x26D930AC,0x76DC4190,0x6B6B51F4,0x4DB26158,0x5005713C,0xEDB88320,0xF00F9344,0xD6D6A3E8,0xCB61B38C,0x9B64C2B0,0x86D3D2D4,0xA00AE278,0xBDBDF21C]
def Kc(a:UInt8):ow (xr a)=BitVec.ofNat 32 (jv.getD (a.toNat % 16) 0) ^^^ BitVec.ofNat 32 (jw.getD (a.toNat/16) 0):=by
 have c:(List.range 256).all (λb=>ow (xr (UInt8.ofNat b))==BitVec.ofNat 32 (jv.getD ((UInt8.ofNat b).toNat % 16) 0) ^^^ BitVec.ofNat 32 (jw.getD ((UInt8.ofNat b).toNat/16) 0))=true:=by decide+kernel
 have:=List.all_eq_true.1 c a.toNat (List.mem_range.2 a.toNat_lt);simpa using this
def MQ(a:qS)(c:UInt8):jK a c=a>>>8 ^^^ BitVec.ofNat 32 (jv.getD ((c.toNat ^^^ a.toNat % 256) % 16) 0) ^^^ BitVec.ofNat 32 (jw.getD ((c.toNat ^^^ a.toNat % 256)/16) 0):=by
 have h:=c.toNat_lt;have o:c.toNat ^^^ a.toNat % 256<2 ^ 8:=Nat.xor_lt_two_pow oM oM;have d:(UInt8.ofNat (c.toNat ^^^ a.toNat % 256)).toNat=c.toNat ^^^ a.toNat % 256:=by
  rw[UInt8.toNat_ofNat'];omega
 have e:=Kc (UInt8.ofNat (c.toNat ^^^ a.toNat % 256));rw[d]at e;have i:a ^^^ xr c=xr (UInt8.ofNat (c.toNat ^^^ a.toNat % 256)) ^^^(a&&&0xFFFFFF00#32):=by
  apply BitVec.eq_of_getLsbD_eq;intro b f;unfold xr;rw[d,BitVec.getLsbD_xor,BitVec.getLsbD_xor,BitVec.getLsbD_and,BitVec.getLsbD_ofNat,BitVec.getLsbD_ofNat,Nat.testBit_xor];have j:(a.toNat % 256).testBit b=(decide (b<8)&&a.toNat.testBit b):=by
   rw[show 256=2 ^ 8 from rfl,Nat.testBit_mod_two_pow]
  have k:a.getLsbD b=a.toNat.testBit b:=rfl;rw[j,k];have l:(0xFFFFFF00#32:qS).getLsbD b=decide (8<=b):=by
   have m:(List.range 32).all (λb=>(0xFFFFFF00#32:qS).getLsbD b==decide (8<=b))=true:=by decide+kernel
   simpa using List.all_eq_true.1 m b (List.mem_range.2 f)
  rw[l,decide_eq_true f]
  by_cases g:b<8
  ·rw[decide_eq_true g,Xv oM]
   cases a.toNat.testBit b<;>cases c.toNat.testBit b<;>rfl
  ·have n:c.toNat.testBit b=false:=Nat.testBit_lt_two_pow (Qk h (by
    have:=Nat.pow_le_pow_right (n:=2) oM (show 8<=b by omega);simpa using this))
   rw[Xv g,decide_eq_true oM,n]
   cases a.toNat.testBit b<;>rfl
 rw[Ka,i,Dk,Kb,e]
 ac_rfl
def LA(a:qS)(b:List UInt8):qS:= ~~~(b.foldl jK (~~~a))
def MR(a:List UInt8):qS:=LA 0#32 a
end Go.ar
namespace Go.ar
open Go
structure lP where
 bytes:List UInt8
 pos:Nat
 uZ:Int
def lP.num(a:lP):Int×Int×Nat:=rdNum (a.bytes.drop a.pos)
def fk(a:lP):Int×lP:=if a.uZ≠0 then(0,a)else if a.num.1=0 then(a.num.2.1,⟨a.bytes,a.pos+a.num.2.2,0⟩)else(0,⟨a.bytes,a.pos,a.num.1⟩)
def bW(b:Int)(a:lP):Int×lP:=if a.uZ≠0 then(0,a)else if a.num.1=0 then(if a.num.2.1<0\/b<a.num.2.1 then(0,⟨a.bytes,a.pos,3⟩)else(a.num.2.1,⟨a.bytes,a.pos+a.num.2.2,0⟩))else(0,⟨a.bytes,a.pos,a.num.1⟩)
def kj(a:lP):Int:=if a.uZ=0/\a.pos<a.bytes.length then 5 else a.uZ
def bg:Nat->lP->List Int×lP
 |0,a=>([],a)
 |k+1,a=>((bg k a).1++[(fk (bg k a).2).1],(fk (bg k a).2).2)
def jg(a:List UInt8):aH (rdNum a).2.1/\(rdNum a).2.2<=a.length/\(rdNum a).2.2<=9/\((rdNum a).1=0\/(rdNum a).1=4\/(rdNum a).1=5)/\((rdNum a).1=0->1<=(rdNum a).2.2):=by
 unfold rdNum
 cases a with
 |nil=>simp[aH]
 |cons b e=>
  simp only;generalize(if 16<b.toNat then b.toNat-16 else b.toNat)=c;have l:=LW (e.take c);generalize fX (e.take c)=d at l
  by_cases i:8<c
  ·rw[if_pos i];simp[aH]
  rw[if_neg i]
  by_cases j:e.length<c
  ·rw[if_pos j];simp[aH]
  rw[if_neg j]
  by_cases f:(0<c/\e.head? =some 0)\/(¬16<b.toNat/\2 ^ 63<=d)\/(16<b.toNat/\2 ^ 63<d)
  ·rw[if_pos f];simp[aH]
  rw[if_neg f];have k:(¬16<b.toNat->d<2 ^ 63)/\(16<b.toNat->d<=2 ^ 63):=by
   refine⟨λg=>?_,λg=>?_⟩
   ·exact Nat.lt_of_not_le λh=>f (.inr (.inl ⟨g,h⟩))
   ·exact Nat.le_of_not_lt λh=>f (.inr (.inr ⟨g,h⟩))
  refine⟨?_,by simp;omega,by show c+1<=9;omega,.inl rfl,λ_=>by show 1<=c+1;omega⟩;show aH (if 16<b.toNat then-(d:Int)else d);unfold aH;split
  ·have:=k.2 (by assumption);omega
  ·have:=k.1 (by assumption);omega
structure lP.Fit (r:lP):Prop where
 pos:r.pos<=r.bytes.length
 uZ:r.uZ=0\/r.uZ=3\/r.uZ=4\/r.uZ=5
variable{e:Int}{t:List Int}{x:List UInt8}{Y:lP}
def lP.Fit.int(b:Y.Fit):(fk Y).2.Fit/\aH (fk Y).1/\(fk Y).2.bytes=Y.bytes:=by
 obtain⟨c,d,f,a,g⟩:=jg (Y.bytes.drop Y.pos);have e:=b.pos;rw[XZ]at d;unfold fk lP.num;split
 ·exact⟨b,by simp[aH],rfl⟩
 ·split
  ·exact⟨⟨by show Y.pos+_<=Y.bytes.length;omega,.inl rfl⟩,c,rfl⟩
  ·exact⟨⟨e,by show _\/_;rcases a with a|a|a<;>simp[a]⟩,by simp[aH],rfl⟩
def lP.Fit.count{r:lP}(c:r.Fit){m:Int}(b:0<=m):(bW m r).2.Fit/\0<=(bW m r).1/\(bW m r).1<=m/\(bW m r).2.bytes=r.bytes:=by
 obtain⟨f,e,g,a,h⟩:=jg (r.bytes.drop r.pos);have d:=c.pos;rw[XZ]at e;unfold bW lP.num;split
 ·exact⟨c,sM,b,rfl⟩
 ·split
  ·split
   ·exact⟨⟨d,.inr (.inl rfl)⟩,sM,b,rfl⟩
   ·exact⟨⟨by show r.pos+_<=r.bytes.length;omega,.inl rfl⟩,by simp only;omega,by simp only;omega,rfl⟩
  ·exact⟨⟨d,by show _\/_;rcases a with a|a|a<;>simp[a]⟩,by simp,b,rfl⟩
def lP.Fit.ints{a:lP}(d:a.Fit):∀k,(bg k a).2.Fit/\(∀c∈(bg k a).1,aH c)/\(bg k a).1.length=k/\(bg k a).2.bytes=a.bytes
 |0=>⟨d,by simp[bg],rfl,rfl⟩
 |k+1=>by
  obtain⟨e,f,g,h⟩:=lP.Fit.ints d k;obtain⟨i,j,l⟩:=e.int;refine⟨i,?_,?_,l.trans h⟩
  ·intro c b
   rcases Q6.1 b with b|b
   ·exact f c b
   ·rw[List.mem_singleton]at b;subst b;exact j
  ·simp[bg,g]
def bI(a:List Int):List UInt8:=(a.map nP).flatten
def Gr(a:Int)(b:List Int):bI (a::b)=nP a++bI b:=by simp[bI]
def gU(a b:List Int):bI (a++b)=bI a++bI b:=by simp[bI]
structure aj where
 origin:Int
 seq:Int
 ay:Int
 aP:List Int
 aS:Int
 agg:Int
 field:Int
 op:Int
 arg:Int
 key:Int
deriving DecidableEq
structure aj.Ok (e:aj):Prop where
 origin:aH e.origin
 seq:aH e.seq
 ay:aH e.ay
 aP:∀x∈e.aP,aH x
 aS:aH e.aS
 agg:aH e.agg
 field:aH e.field
 op:aH e.op
 arg:aH e.arg
 key:aH e.key
def AV:aj:=⟨0,0,0,[],0,0,0,0,0,0⟩
def N_:AV.Ok:=by constructor<;>simp[AV,aH]
def ki(a:aj):List Int:=[a.origin,a.seq,a.ay,(a.aP.length:Int)]++a.aP++[a.aS,a.agg,a.field,a.op,a.arg,a.key]
def iB(a:aj):List UInt8×Int:=if 64<a.aP.length then([],3)else(bI (ki a),0)
def lQ(e:lP):aj×lP:=
 (λb=>(λc=>(λd=>(λa=>(⟨b.1.getD 0 0,b.1.getD 1 0,b.1.getD 2 0,d.1,a.1.getD 0 0,a.1.getD 1 0,a.1.getD 2 0,a.1.getD 3 0,a.1.getD 4 0,a.1.getD 5 0⟩,a.2))
  (bg 6 d.2)) (bg c.1.toNat c.2)) (bW 64 b.2)) (bg 3 e)
def iZ(a:List UInt8):aj×Int:=if kj (lQ ⟨a,0,0⟩).2≠0 then(AV,kj (lQ ⟨a,0,0⟩).2)else((lQ ⟨a,0,0⟩).1,0)
def ez(c:∀a∈t,aH a)(b:Nat):aH (t.getD b 0):=by
 rw[QQ]
 cases d:t[b]? with
 |none=>simp[aH]
 |some a=>exact c a (QZ d)
def Oa{r:lP}(c:r.Fit):(lQ r).2.Fit/\(lQ r).1.Ok/\(lQ r).1.aP.length<=64:=by
 obtain⟨d,b,j,k⟩:=c.ints 3;obtain⟨e,l,m,n⟩:=d.count (m:=64) oM;obtain⟨f,g,h,o⟩:=e.ints (bW 64 (bg 3 r).2).1.toNat;obtain⟨i,a,p,q⟩:=f.ints 6;refine⟨i,⟨ez b 0,ez b 1,ez b 2,g,ez a 0,ez a 1,ez a 2,ez a 3,ez a 4,ez a 5⟩,?_⟩;show(bg _ _).1.length<=64;rw[h];omega
def QD(a:List UInt8):(iZ a).1.Ok/\(iZ a).1.aP.length<=64:=by
 unfold iZ;have:=Oa (r:=⟨a,0,0⟩) ⟨Qj _,.inl rfl⟩;split
 ·exact⟨N_,by simp[AV]⟩
 ·exact this.2
def PH(a:Nat):List UInt8:=[UInt8.ofNat (a/16777216),UInt8.ofNat (a/65536),UInt8.ofNat (a/256),UInt8.ofNat a]
def lR(b:Int)(a:List UInt8):List UInt8:=[UInt8.ofNat b.toNat,UInt8.ofNat (a.length/65536),UInt8.ofNat (a.length/256),UInt8.ofNat a.length]++a
def fR(a:Int)(b:List UInt8):List UInt8:=lR a b++PH (MR (lR a b)).toNat++[10]
def jG(a:Int)(b:List UInt8):List UInt8×Int:=if a<1\/255<a then([],2)else if 65536<b.length then([],5)else(fR a b,0)
structure Xt where
 kind:Int
 body:List UInt8
 n:Nat
 no:Int
def bk(a:List UInt8):Xt:=if a.length<4 then⟨0,[],0,4⟩else if a.getD 0 0=0 then⟨0,[],0,2⟩else
 (λb=>if 65536<b then⟨0,[],0,5⟩else if a.length<b+9 then⟨0,[],0,4⟩else
  if a.take (b+9)=fR (a.getD 0 0).toNat ((a.drop 4).take b)then⟨(a.getD 0 0).toNat,(a.drop 4).take b,b+9,0⟩else⟨0,[],0,6⟩)
  ((a.getD 1 0).toNat*65536+(a.getD 2 0).toNat*256+(a.getD 3 0).toNat)
def kp(b:Int)(a:List UInt8):(fR b a).length=a.length+9:=by simp[fR,lR,PH]
def uK(a:(bk x).no=0):(bk x).n<=x.length/\9<=(bk x).n/\(bk x).n=(bk x).body.length+9:=by
 unfold bk at a⊢;generalize(x.getD 1 0).toNat*65536+(x.getD 2 0).toNat*256+(x.getD 3 0).toNat=g at a⊢;split at a
 ·cases a
 rename_i b;rw[if_neg b];split at a
 ·cases a
 rename_i c;rw[if_neg c];simp only at a⊢;split at a
 ·cases a
 rename_i d;rw[if_neg d];split at a
 ·cases a
 rename_i e;rw[if_neg e];split at a
 ·rename_i f
  rw[if_pos f];refine⟨by simp only;omega,by simp only;omega,by simp;omega⟩
 ·cases a
def VE(c:List UInt8)(a:c.length=4)(b:Nat)(l:b<2 ^ 32):fX c=b↔c=PH b:=by
 match c,a with
 |[d,e,f,g],_=>
  have m:=d.toNat_lt;have n:=e.toNat_lt;have o:=f.toNat_lt;have p:=g.toNat_lt;have k:fX [d,e,f,g]=((d.toNat*256+e.toNat)*256+f.toNat)*256+g.toNat:=by simp[fX]
  rw[k];constructor
  ·intro a
   unfold PH;have h:∀(i:UInt8) (j:Nat),i.toNat=j % 256->i=UInt8.ofNat j:=λi j a=>UInt8.toNat_inj.1 (by rw[UInt8.toNat_ofNat',a]);rw[h d (b/16777216) oM,h e (b/65536) oM,h f (b/256) oM,h g b oM]
  ·intro a
   unfold PH at a;simp only[List.cons.injEq,and_true]at a;obtain⟨rfl,rfl,rfl,rfl⟩:=a;simp only[UInt8.toNat_ofNat'];omega
def Tc:∀{b:List UInt8},4<=b.length->b.take 4=[b.getD 0 0,b.getD 1 0,b.getD 2 0,b.getD 3 0]
 |x::c::d::e::f,_=>rfl
 |[],a=>by simp at a
 |[_],a=>by simp at a
 |[_,_],a=>by simp at a
 |[_,_,_],a=>by simp at a
def TS{b:List UInt8}{n:Nat}(m:n+9<=b.length)(o:(b.getD 1 0).toNat*65536+(b.getD 2 0).toNat*256+(b.getD 3 0).toNat=n)(p:n<=65536):
  b.take (n+9)=fR (b.getD 0 0).toNat ((b.drop 4).take n)↔((MR (b.take (4+n))).toNat=fX ((b.drop (4+n)).take 4)/\b.getD (8+n) 0=10):=by
 have h:((b.drop 4).take n).length=n:=by simp;omega
 have a:∀(c:UInt8) (d:Nat),c.toNat=d % 256->UInt8.ofNat d=c:=λc d e=>UInt8.toNat_inj.1 (by rw[UInt8.toNat_ofNat',e]);have q:=(b.getD 1 0).toNat_lt;have r:=(b.getD 2 0).toNat_lt;have s:=(b.getD 3 0).toNat_lt;have i:lR (b.getD 0 0).toNat ((b.drop 4).take n)=b.take (4+n):=by
  unfold lR;rw[h,Qx,a (b.getD 0 0) _ (by have:=(b.getD 0 0).toNat_lt;omega),a (b.getD 1 0) (n/65536) oM,a (b.getD 2 0) (n/256) oM,a (b.getD 3 0) n oM];rw[List.take_add]
  congr 1
  exact(Tc oM).symm
 have j:b.take (n+9)=b.take (4+n)++(b.drop (4+n)).take 4++[b.getD (8+n) 0]:=by
  rw[show n+9=(4+n)+(4+1) by omega,List.take_add,XQ,List.take_add (l:=b.drop (4+n)),List.drop_drop]
  congr 2
  rw[show 4+n+4=8+n by omega,QQ,Qq oM,Option.getD_some];rw[X4 oM]
  rfl
 unfold fR;rw[i,j];have k:((b.drop (4+n)).take 4).length=4:=by simp;omega
 have l:(MR (b.take (4+n))).toNat<2 ^ 32:=(MR (b.take (4+n))).isLt;rw[eq_comm (b:=fX _),VE _ k _ l];constructor
 ·intro e
  obtain⟨f,g⟩:=List.append_inj' e rfl;exact⟨List.append_cancel_left f,by simpa using g⟩
 ·rintro⟨f,g⟩
  rw[f,g]
def bQ(a:List UInt8):List aj×Nat:=
 if b:(bk a).no=0/\(bk a).kind=1/\(iZ (bk a).body).2=0 then((iZ (bk a).body).1::(bQ (a.drop (bk a).n)).1,(bk a).n+(bQ (a.drop (bk a).n)).2)else([],0)
termination_by a.length
decreasing_by all_goals(have:=uK b.1;simp;omega)
def ID(a:(bk x).no=0/\(bk x).kind=1/\(iZ (bk x).body).2=0):bQ x=((iZ (bk x).body).1::(bQ (x.drop (bk x).n)).1,(bk x).n+(bQ (x.drop (bk x).n)).2):=by
 rw[bQ,dif_pos a]
def BH(a:¬((bk x).no=0/\(bk x).kind=1/\(iZ (bk x).body).2=0)):bQ x=([],0):=by
 rw[bQ,dif_neg a]
def Ob(a:aH e):(nP e).length<=9:=by
 unfold aH at a;have:=HW (u:=e.natAbs) oM;simp[nP];omega
def fj:∀{l:List Int},(∀a∈l,aH a)->(bI l).length<=9*l.length
 |[],_=>by simp[bI]
 |n::l,b=>by
  rw[Gr,QX,Xq];have d:=Ob (b n (QV ..));have e:=fj (l:=l) λa c=>b a (QJ _ c);omega
variable{o:aj}
def aj.Ok.ints(a:o.Ok)(d:o.aP.length<=4611686018427387904):∀c∈ki o,aH c:=by
 intro c b;simp only[ki,Q6,Q2,List.not_mem_nil,or_false]at b;rcases b with((rfl|rfl|rfl|rfl)|b)|(rfl|rfl|rfl|rfl|rfl|rfl)
 ·exact a.origin
 ·exact a.seq
 ·exact a.ay
 ·unfold aH;omega
 ·exact a.aP c b
 ·exact a.aS
 ·exact a.agg
 ·exact a.field
 ·exact a.op
 ·exact a.arg
 ·exact a.key
def LS(a:o.Ok)(b:o.aP.length<=64):(bI (ki o)).length<=666:=by
 have:=fj (a.ints oM);have c:(ki o).length=10+o.aP.length:=by simp[ki];omega
 omega
def wJ(a:aj):List UInt8:=fR 1 (bI (ki a))
def IE(a:o.Ok)(b:o.aP.length<=64):(wJ o).length<=675/\9<=(wJ o).length:=by
 have:=LS a b;unfold wJ;rw[kp];omega
def dV(a:List aj):List UInt8:=(a.map wJ).flatten
def KX(a:aj)(b:List aj):dV (a::b)=wJ a++dV b:=by simp[dV]
def IP(a:x.length<4):(bk x).no≠0:=by unfold bk;rw[if_pos a];simp
def IQ(a:(bk x).no≠0):bQ x=([],0):=BH λb=>a b.1
def IC:bQ []=([],0):=IQ (IP sM)
def fO(a:aj):List UInt8×Int:=if(iB a).2≠0 then([],(iB a).2)else jG 1 (iB a).1
end Go.ar
namespace Go.Proofs.YtjgjkeponbeekaaGreatDoor
open Go.ar
def sK:jC XP 237 5 1 1:=⟨kR,kR,dC⟩
end Go.Proofs.YtjgjkeponbeekaaGreatDoor
namespace Go.Proofs
open Go.Shelf
def Tryz.Dq:Go.Shelf.Ren:=⟨λ|7=>223|10=>282|n=>n,λ|23=>141|26=>9|3=>236|28=>242|0=>0|27=>241|33=>319|4=>4|n=>n,λ|n=>n⟩
def Tryz.se:Go.Proofs.SlLaysZ.n7 Tryz.prog Tryz.Dq:={
 mixed:=by kernel_rfl
 f7:=⟨Tryz.f223.name,by decide,Tryz.func223.trans (congrArg some (by kernel_rfl))⟩
 f10:=⟨Tryz.f282.name,by decide,Tryz.func282.trans (congrArg some (by kernel_rfl))⟩
 t0:=Tryz.underlying0
 a0:=Tryz.isAgg0
 z0:=Tryz.sizeOf0
 v0:=Tryz.zeroValue0
 t4:=Tryz.underlying4
 a4:=Tryz.isAgg4
 z4:=Tryz.sizeOf4
 v4:=Tryz.zeroValue4
 t23:=Tryz.underlying141
 a23:=Tryz.isAgg141
 z23:=Tryz.sizeOf141
 v23:=Tryz.zeroValue141
 t26:=Tryz.underlying9
 a26:=Tryz.isAgg9
 z26:=Tryz.sizeOf9
 v26:=Tryz.zeroValue9
 t27:=Tryz.underlying241
 a27:=Tryz.isAgg241
 z27:=Tryz.sizeOf241
 v27:=Tryz.zeroValue241
 t28:=Tryz.underlying242
 a28:=Tryz.isAgg242
 z28:=Tryz.sizeOf242
 v28:=Tryz.zeroValue242
 t33:=Tryz.underlying319
 a33:=Tryz.isAgg319
 z33:=Tryz.sizeOf319
 v33:=Tryz.zeroValue319}
def Tryz.xt:Go.Shelf.Ren:=⟨λ|6=>222|8=>280|9=>281|11=>322|13=>218|12=>323|23=>276|24=>277|14=>349|15=>350|16=>351|17=>352|18=>353|19=>354|20=>355|21=>356|22=>357|25=>372|26=>317|27=>318|28=>373|29=>374|30=>375|31=>382|n=>n,λ|26=>9|28=>242|24=>271|0=>0|3=>3|37=>324|48=>365|50=>367|4=>4|40=>359|39=>358|45=>273|5=>5|9=>9|51=>400|55=>375|57=>426|58=>427|33=>319|n=>n,λ|n=>n⟩
def Tryz.RH:Go.Proofs.SlLaysZ.n6 Tryz.prog Tryz.xt:={
 mixed:=by kernel_rfl
 f6:=⟨Tryz.f222.name,by decide,Tryz.func222.trans (congrArg some (by kernel_rfl))⟩
 f8:=⟨Tryz.f280.name,by decide,Tryz.func280.trans (congrArg some (by kernel_rfl))⟩
 f11:=⟨Tryz.f322.name,by decide,Tryz.func322.trans (congrArg some (by kernel_rfl))⟩
 t0:=Tryz.underlying0
 a0:=Tryz.isAgg0
 z0:=Tryz.sizeOf0
 v0:=Tryz.zeroValue0
 t24:=Tryz.underlying271
 a24:=Tryz.isAgg271
 z24:=Tryz.sizeOf271
 v24:=Tryz.zeroValue271
 t26:=Tryz.underlying9
 a26:=Tryz.isAgg9
 z26:=Tryz.sizeOf9
 v26:=Tryz.zeroValue9
 t28:=Tryz.underlying242
 a28:=Tryz.isAgg242
 z28:=Tryz.sizeOf242
 v28:=Tryz.zeroValue242
 i26:=by kernel_rfl}
def Tryz.NT:Go.Shelf.Ren:=⟨λ|6=>281|8=>218|9=>323|19=>276|20=>277|21=>349|22=>350|23=>351|24=>352|25=>353|26=>354|27=>355|28=>356|29=>357|36=>372|31=>317|32=>318|37=>373|38=>374|39=>375|41=>382|n=>n,λ|27=>271|29=>9|3=>3|32=>324|26=>271|0=>0|44=>365|46=>367|4=>4|36=>359|35=>358|41=>273|5=>5|9=>9|53=>400|57=>375|63=>426|64=>427|n=>n,λ|n=>n⟩
def Tryz.SP:Go.Proofs.SlLaysM.n6 Tryz.prog Tryz.NT:={
 mixed:=by kernel_rfl
 f6:=⟨Tryz.f281.name,by decide,Tryz.func281.trans (congrArg some (by kernel_rfl))⟩
 f8:=Tryz.func218.trans (congrArg some (by kernel_rfl))
 f9:=⟨Tryz.f323.name,by decide,Tryz.func323.trans (congrArg some (by kernel_rfl))⟩
 f19:=Tryz.func276.trans (congrArg some (by kernel_rfl))
 f20:=Tryz.func277.trans (congrArg some (by kernel_rfl))
 f21:=⟨Tryz.f349.name,by decide,Tryz.func349.trans (congrArg some (by kernel_rfl))⟩
 f22:=⟨Tryz.f350.name,by decide,Tryz.func350.trans (congrArg some (by kernel_rfl))⟩
 f23:=⟨Tryz.f351.name,by decide,Tryz.func351.trans (congrArg some (by kernel_rfl))⟩
 f24:=⟨Tryz.f352.name,by decide,Tryz.func352.trans (congrArg some (by kernel_rfl))⟩
 f25:=⟨Tryz.f353.name,by decide,Tryz.func353.trans (congrArg some (by kernel_rfl))⟩
 f26:=⟨Tryz.f354.name,by decide,Tryz.func354.trans (congrArg some (by kernel_rfl))⟩
 f27:=⟨Tryz.f355.name,by decide,Tryz.func355.trans (congrArg some (by kernel_rfl))⟩
 f28:=⟨Tryz.f356.name,by decide,Tryz.func356.trans (congrArg some (by kernel_rfl))⟩
 f29:=⟨Tryz.f357.name,by decide,Tryz.func357.trans (congrArg some (by kernel_rfl))⟩
 f31:=Tryz.func317.trans (congrArg some (by kernel_rfl))
 f32:=Tryz.func318.trans (congrArg some (by kernel_rfl))
 f36:=⟨Tryz.f372.name,by decide,Tryz.func372.trans (congrArg some (by kernel_rfl))⟩
 f37:=⟨Tryz.f373.name,by decide,Tryz.func373.trans (congrArg some (by kernel_rfl))⟩
 f38:=⟨Tryz.f374.name,by decide,Tryz.func374.trans (congrArg some (by kernel_rfl))⟩
 f39:=⟨Tryz.f375.name,by decide,Tryz.func375.trans (congrArg some (by kernel_rfl))⟩
 f41:=⟨Tryz.f382.name,by decide,Tryz.func382.trans (congrArg some (by kernel_rfl))⟩
 t0:=Tryz.underlying0
 a0:=Tryz.isAgg0
 z0:=Tryz.sizeOf0
 v0:=Tryz.zeroValue0
 t3:=Tryz.underlying3
 a3:=Tryz.isAgg3
 z3:=Tryz.sizeOf3
 v3:=Tryz.zeroValue3
 t4:=Tryz.underlying4
 a4:=Tryz.isAgg4
 z4:=Tryz.sizeOf4
 v4:=Tryz.zeroValue4
 t5:=Tryz.underlying5
 a5:=Tryz.isAgg5
 z5:=Tryz.sizeOf5
 v5:=Tryz.zeroValue5
 t9:=Tryz.underlying9
 a9:=Tryz.isAgg9
 z9:=Tryz.sizeOf9
 v9:=Tryz.zeroValue9
 t26:=Tryz.underlying271
 a26:=Tryz.isAgg271
 z26:=Tryz.sizeOf271
 v26:=Tryz.zeroValue271
 t27:=Tryz.underlying271
 a27:=Tryz.isAgg271
 z27:=Tryz.sizeOf271
 v27:=Tryz.zeroValue271
 t29:=Tryz.underlying9
 a29:=Tryz.isAgg9
 z29:=Tryz.sizeOf9
 v29:=Tryz.zeroValue9
 t32:=Tryz.underlying324
 a32:=Tryz.isAgg324
 z32:=Tryz.sizeOf324
 v32:=Tryz.zeroValue324
 t35:=Tryz.underlying358
 a35:=Tryz.isAgg358
 z35:=Tryz.sizeOf358
 v35:=Tryz.zeroValue358
 t36:=Tryz.underlying359
 a36:=Tryz.isAgg359
 z36:=Tryz.sizeOf359
 v36:=Tryz.zeroValue359
 t41:=Tryz.underlying273
 a41:=Tryz.isAgg273
 z41:=Tryz.sizeOf273
 v41:=Tryz.zeroValue273
 t44:=Tryz.underlying365
 a44:=Tryz.isAgg365
 z44:=Tryz.sizeOf365
 v44:=Tryz.zeroValue365
 t46:=Tryz.underlying367
 a46:=Tryz.isAgg367
 z46:=Tryz.sizeOf367
 v46:=Tryz.zeroValue367
 t53:=Tryz.underlying400
 a53:=Tryz.isAgg400
 z53:=Tryz.sizeOf400
 v53:=Tryz.zeroValue400
 t57:=Tryz.underlying375
 a57:=Tryz.isAgg375
 z57:=Tryz.sizeOf375
 v57:=Tryz.zeroValue375
 t63:=Tryz.underlying426
 a63:=Tryz.isAgg426
 z63:=Tryz.sizeOf426
 v63:=Tryz.zeroValue426
 t64:=Tryz.underlying427
 a64:=Tryz.isAgg427
 z64:=Tryz.sizeOf427
 v64:=Tryz.zeroValue427}
def Tryz.II:Go.Shelf.Ren:=⟨λ|137=>358|217=>376|266=>383|n=>n,λ|9=>9|5=>5|3=>3|n=>n,λ|n=>n⟩
def Tryz.RX:Go.Proofs.Lays.n137 Tryz.prog Tryz.II:={
 mixed:=by kernel_rfl
 f137:=Tryz.func358.trans (congrArg some (by kernel_rfl))
 f217:=Tryz.func376.trans (congrArg some (by kernel_rfl))
 f266:=Tryz.func383.trans (congrArg some (by kernel_rfl))
 t3:=Tryz.underlying3
 a3:=Tryz.isAgg3
 z3:=Tryz.sizeOf3
 v3:=Tryz.zeroValue3
 t5:=Tryz.underlying5
 a5:=Tryz.isAgg5
 z5:=Tryz.sizeOf5
 v5:=Tryz.zeroValue5
 t9:=Tryz.underlying9
 a9:=Tryz.isAgg9
 z9:=Tryz.sizeOf9
 v9:=Tryz.zeroValue9}
def Tryz.IJ:Go.Shelf.Ren:=⟨λ|129=>277|n=>n,λ|53=>367|3=>3|4=>4|46=>324|5=>5|9=>9|n=>n,λ|n=>n⟩
def Tryz.Sl:Go.Proofs.Lays.n129 Tryz.prog Tryz.IJ:={
 mixed:=by kernel_rfl
 f129:=Tryz.func277.trans (congrArg some (by kernel_rfl))
 t3:=Tryz.underlying3
 a3:=Tryz.isAgg3
 z3:=Tryz.sizeOf3
 v3:=Tryz.zeroValue3
 t4:=Tryz.underlying4
 a4:=Tryz.isAgg4
 z4:=Tryz.sizeOf4
 v4:=Tryz.zeroValue4
 t5:=Tryz.underlying5
 a5:=Tryz.isAgg5
 z5:=Tryz.sizeOf5
 v5:=Tryz.zeroValue5
 t9:=Tryz.underlying9
 a9:=Tryz.isAgg9
 z9:=Tryz.sizeOf9
 v9:=Tryz.zeroValue9
 t46:=Tryz.underlying324
 a46:=Tryz.isAgg324
 z46:=Tryz.sizeOf324
 v46:=Tryz.zeroValue324
 t53:=Tryz.underlying367
 a53:=Tryz.isAgg367
 z53:=Tryz.sizeOf367
 v53:=Tryz.zeroValue367}
def Tryz.Gp:Go.Shelf.Ren:=⟨λ|171=>213|243=>267|246=>315|283=>344|284=>345|285=>346|286=>347|129=>277|317=>368|318=>369|319=>370|320=>371|337=>380|338=>381|n=>n,λ|3=>3|9=>9|2=>2|4=>4|171=>422|0=>0|53=>367|37=>237|5=>5|173=>424|212=>441|51=>365|20=>20|213=>442|46=>324|232=>448|233=>449|n=>n,λ|17=>4|18=>6|19=>7|n=>n⟩
def Tryz.QB:Go.Proofs.LaysM.n171 Tryz.prog Tryz.Gp:={
 mixed:=by kernel_rfl
 f129:=Tryz.func277.trans (congrArg some (by kernel_rfl))
 f171:=Tryz.func213.trans (congrArg some (by kernel_rfl))
 f243:=Tryz.func267.trans (congrArg some (by kernel_rfl))
 f246:=Tryz.func315.trans (congrArg some (by kernel_rfl))
 f283:=Tryz.func344.trans (congrArg some (by kernel_rfl))
 f284:=Tryz.func345.trans (congrArg some (by kernel_rfl))
 f285:=Tryz.func346.trans (congrArg some (by kernel_rfl))
 f286:=Tryz.func347.trans (congrArg some (by kernel_rfl))
 f317:=Tryz.func368.trans (congrArg some (by kernel_rfl))
 f318:=Tryz.func369.trans (congrArg some (by kernel_rfl))
 f319:=Tryz.func370.trans (congrArg some (by kernel_rfl))
 f320:=Tryz.func371.trans (congrArg some (by kernel_rfl))
 f337:=Tryz.func380.trans (congrArg some (by kernel_rfl))
 f338:=Tryz.func381.trans (congrArg some (by kernel_rfl))
 t0:=Tryz.underlying0
 a0:=Tryz.isAgg0
 z0:=Tryz.sizeOf0
 v0:=Tryz.zeroValue0
 t2:=Tryz.underlying2
 a2:=Tryz.isAgg2
 z2:=Tryz.sizeOf2
 v2:=Tryz.zeroValue2
 t3:=Tryz.underlying3
 a3:=Tryz.isAgg3
 z3:=Tryz.sizeOf3
 v3:=Tryz.zeroValue3
 t4:=Tryz.underlying4
 a4:=Tryz.isAgg4
 z4:=Tryz.sizeOf4
 v4:=Tryz.zeroValue4
 t5:=Tryz.underlying5
 a5:=Tryz.isAgg5
 z5:=Tryz.sizeOf5
 v5:=Tryz.zeroValue5
 t9:=Tryz.underlying9
 a9:=Tryz.isAgg9
 z9:=Tryz.sizeOf9
 v9:=Tryz.zeroValue9
 t20:=Tryz.underlying20
 a20:=Tryz.isAgg20
 z20:=Tryz.sizeOf20
 v20:=Tryz.zeroValue20
 t37:=Tryz.underlying237
 a37:=Tryz.isAgg237
 z37:=Tryz.sizeOf237
 v37:=Tryz.zeroValue237
 t46:=Tryz.underlying324
 a46:=Tryz.isAgg324
 z46:=Tryz.sizeOf324
 v46:=Tryz.zeroValue324
 t51:=Tryz.underlying365
 a51:=Tryz.isAgg365
 z51:=Tryz.sizeOf365
 v51:=Tryz.zeroValue365
 t53:=Tryz.underlying367
 a53:=Tryz.isAgg367
 z53:=Tryz.sizeOf367
 v53:=Tryz.zeroValue367
 t171:=Tryz.underlying422
 a171:=Tryz.isAgg422
 z171:=Tryz.sizeOf422
 v171:=Tryz.zeroValue422
 t173:=Tryz.underlying424
 a173:=Tryz.isAgg424
 z173:=Tryz.sizeOf424
 v173:=Tryz.zeroValue424
 t212:=Tryz.underlying441
 a212:=Tryz.isAgg441
 z212:=Tryz.sizeOf441
 v212:=Tryz.zeroValue441
 t213:=Tryz.underlying442
 a213:=Tryz.isAgg442
 z213:=Tryz.sizeOf442
 t232:=Tryz.underlying448
 a232:=Tryz.isAgg448
 z232:=Tryz.sizeOf448
 v232:=Tryz.zeroValue448
 t233:=Tryz.underlying449
 a233:=Tryz.isAgg449
 z233:=Tryz.sizeOf449
 v233:=Tryz.zeroValue449
 g17:=by kernel_rfl
 g18:=by kernel_rfl
 g19:=by kernel_rfl
 i0:=by kernel_rfl
 i2:=by kernel_rfl
 i3:=by kernel_rfl
 i4:=by kernel_rfl
 i5:=by kernel_rfl
 i9:=by kernel_rfl
 i20:=by kernel_rfl
 i37:=by kernel_rfl
 i46:=by kernel_rfl
 i51:=by kernel_rfl
 i53:=by kernel_rfl
 i171:=by kernel_rfl
 i173:=by kernel_rfl
 i212:=by kernel_rfl
 i232:=by kernel_rfl
 i233:=by kernel_rfl
 m17:=by kernel_rfl
 m18:=by kernel_rfl
 m19:=by kernel_rfl}
def Tryz.Ed:Go.Shelf.Ren:=⟨λ|7=>198|10=>250|n=>n,λ|23=>148|26=>3|3=>3|28=>299|0=>0|27=>298|33=>83|4=>4|n=>n,λ|n=>n⟩
def Tryz.Vy:Go.Proofs.SlLaysZI.n7 Tryz.prog Tryz.Ed:={
 mixed:=by kernel_rfl
 f7:=⟨Tryz.f198.name,by decide,Tryz.func198.trans (congrArg some (by kernel_rfl))⟩
 f10:=⟨Tryz.f250.name,by decide,Tryz.func250.trans (congrArg some (by kernel_rfl))⟩
 t0:=Tryz.underlying0
 a0:=Tryz.isAgg0
 z0:=Tryz.sizeOf0
 v0:=Tryz.zeroValue0
 t4:=Tryz.underlying4
 a4:=Tryz.isAgg4
 z4:=Tryz.sizeOf4
 v4:=Tryz.zeroValue4
 t23:=Tryz.underlying148
 a23:=Tryz.isAgg148
 z23:=Tryz.sizeOf148
 v23:=Tryz.zeroValue148
 t26:=Tryz.underlying3
 a26:=Tryz.isAgg3
 z26:=Tryz.sizeOf3
 v26:=Tryz.zeroValue3
 t27:=Tryz.underlying298
 a27:=Tryz.isAgg298
 z27:=Tryz.sizeOf298
 v27:=Tryz.zeroValue298
 t28:=Tryz.underlying299
 a28:=Tryz.isAgg299
 z28:=Tryz.sizeOf299
 v28:=Tryz.zeroValue299
 t33:=Tryz.underlying83
 a33:=Tryz.isAgg83
 z33:=Tryz.sizeOf83
 v33:=Tryz.zeroValue83}
def Tryz.xQ:Go.Shelf.Ren:=⟨λ|6=>197|8=>248|9=>249|11=>306|13=>218|12=>307|23=>276|24=>277|14=>331|15=>332|16=>333|17=>334|18=>335|19=>336|20=>337|21=>338|22=>339|25=>364|26=>317|27=>318|28=>365|29=>366|30=>278|31=>378|n=>n,λ|26=>3|28=>299|24=>42|0=>0|3=>3|37=>324|48=>365|50=>367|4=>4|40=>359|39=>358|45=>273|5=>5|9=>9|51=>400|55=>375|57=>426|58=>427|33=>83|n=>n,λ|n=>n⟩
def Tryz.SE:Go.Proofs.SlLaysZI.n6 Tryz.prog Tryz.xQ:={
 mixed:=by kernel_rfl
 f6:=⟨Tryz.f197.name,by decide,Tryz.func197.trans (congrArg some (by kernel_rfl))⟩
 f8:=⟨Tryz.f248.name,by decide,Tryz.func248.trans (congrArg some (by kernel_rfl))⟩
 f11:=⟨Tryz.f306.name,by decide,Tryz.func306.trans (congrArg some (by kernel_rfl))⟩
 t0:=Tryz.underlying0
 a0:=Tryz.isAgg0
 z0:=Tryz.sizeOf0
 v0:=Tryz.zeroValue0
 t24:=Tryz.underlying42
 a24:=Tryz.isAgg42
 z24:=Tryz.sizeOf42
 v24:=Tryz.zeroValue42
 t26:=Tryz.underlying3
 a26:=Tryz.isAgg3
 z26:=Tryz.sizeOf3
 v26:=Tryz.zeroValue3
 t28:=Tryz.underlying299
 a28:=Tryz.isAgg299
 z28:=Tryz.sizeOf299
 v28:=Tryz.zeroValue299
 i26:=by kernel_rfl}
def Tryz.NU:Go.Shelf.Ren:=⟨λ|5=>249|8=>218|7=>307|19=>276|20=>277|10=>331|11=>332|12=>333|13=>334|14=>335|15=>336|16=>337|17=>338|18=>339|30=>364|31=>317|32=>318|33=>365|34=>366|35=>278|40=>378|n=>n,λ|23=>42|25=>3|3=>3|32=>324|22=>42|0=>0|44=>365|46=>367|4=>4|36=>359|35=>358|41=>273|5=>5|9=>9|53=>400|57=>375|63=>426|64=>427|n=>n,λ|n=>n⟩
def Tryz.vk:Go.Proofs.SlLaysM.n5 Tryz.prog Tryz.NU:={
 mixed:=by kernel_rfl
 f5:=⟨Tryz.f249.name,by decide,Tryz.func249.trans (congrArg some (by kernel_rfl))⟩
 f7:=⟨Tryz.f307.name,by decide,Tryz.func307.trans (congrArg some (by kernel_rfl))⟩
 f8:=Tryz.func218.trans (congrArg some (by kernel_rfl))
 f10:=⟨Tryz.f331.name,by decide,Tryz.func331.trans (congrArg some (by kernel_rfl))⟩
 f11:=⟨Tryz.f332.name,by decide,Tryz.func332.trans (congrArg some (by kernel_rfl))⟩
 f12:=⟨Tryz.f333.name,by decide,Tryz.func333.trans (congrArg some (by kernel_rfl))⟩
 f13:=⟨Tryz.f334.name,by decide,Tryz.func334.trans (congrArg some (by kernel_rfl))⟩
 f14:=⟨Tryz.f335.name,by decide,Tryz.func335.trans (congrArg some (by kernel_rfl))⟩
 f15:=⟨Tryz.f336.name,by decide,Tryz.func336.trans (congrArg some (by kernel_rfl))⟩
 f16:=⟨Tryz.f337.name,by decide,Tryz.func337.trans (congrArg some (by kernel_rfl))⟩
 f17:=⟨Tryz.f338.name,by decide,Tryz.func338.trans (congrArg some (by kernel_rfl))⟩
 f18:=⟨Tryz.f339.name,by decide,Tryz.func339.trans (congrArg some (by kernel_rfl))⟩
 f19:=Tryz.func276.trans (congrArg some (by kernel_rfl))
 f20:=Tryz.func277.trans (congrArg some (by kernel_rfl))
 f30:=⟨Tryz.f364.name,by decide,Tryz.func364.trans (congrArg some (by kernel_rfl))⟩
 f31:=Tryz.func317.trans (congrArg some (by kernel_rfl))
 f32:=Tryz.func318.trans (congrArg some (by kernel_rfl))
 f33:=⟨Tryz.f365.name,by decide,Tryz.func365.trans (congrArg some (by kernel_rfl))⟩
 f34:=⟨Tryz.f366.name,by decide,Tryz.func366.trans (congrArg some (by kernel_rfl))⟩
 f35:=⟨Tryz.f278.name,by decide,Tryz.func278.trans (congrArg some (by kernel_rfl))⟩
 f40:=⟨Tryz.f378.name,by decide,Tryz.func378.trans (congrArg some (by kernel_rfl))⟩
 t0:=Tryz.underlying0
 a0:=Tryz.isAgg0
 z0:=Tryz.sizeOf0
 v0:=Tryz.zeroValue0
 t3:=Tryz.underlying3
 a3:=Tryz.isAgg3
 z3:=Tryz.sizeOf3
 v3:=Tryz.zeroValue3
 t4:=Tryz.underlying4
 a4:=Tryz.isAgg4
 z4:=Tryz.sizeOf4
 v4:=Tryz.zeroValue4
 t5:=Tryz.underlying5
 a5:=Tryz.isAgg5
 z5:=Tryz.sizeOf5
 v5:=Tryz.zeroValue5
 t9:=Tryz.underlying9
 a9:=Tryz.isAgg9
 z9:=Tryz.sizeOf9
 v9:=Tryz.zeroValue9
 t22:=Tryz.underlying42
 a22:=Tryz.isAgg42
 z22:=Tryz.sizeOf42
 v22:=Tryz.zeroValue42
 t23:=Tryz.underlying42
 a23:=Tryz.isAgg42
 z23:=Tryz.sizeOf42
 v23:=Tryz.zeroValue42
 t25:=Tryz.underlying3
 a25:=Tryz.isAgg3
 z25:=Tryz.sizeOf3
 v25:=Tryz.zeroValue3
 t32:=Tryz.underlying324
 a32:=Tryz.isAgg324
 z32:=Tryz.sizeOf324
 v32:=Tryz.zeroValue324
 t35:=Tryz.underlying358
 a35:=Tryz.isAgg358
 z35:=Tryz.sizeOf358
 v35:=Tryz.zeroValue358
 t36:=Tryz.underlying359
 a36:=Tryz.isAgg359
 z36:=Tryz.sizeOf359
 v36:=Tryz.zeroValue359
 t41:=Tryz.underlying273
 a41:=Tryz.isAgg273
 z41:=Tryz.sizeOf273
 v41:=Tryz.zeroValue273
 t44:=Tryz.underlying365
 a44:=Tryz.isAgg365
 z44:=Tryz.sizeOf365
 v44:=Tryz.zeroValue365
 t46:=Tryz.underlying367
 a46:=Tryz.isAgg367
 z46:=Tryz.sizeOf367
 v46:=Tryz.zeroValue367
 t53:=Tryz.underlying400
 a53:=Tryz.isAgg400
 z53:=Tryz.sizeOf400
 v53:=Tryz.zeroValue400
 t57:=Tryz.underlying375
 a57:=Tryz.isAgg375
 z57:=Tryz.sizeOf375
 v57:=Tryz.zeroValue375
 t63:=Tryz.underlying426
 a63:=Tryz.isAgg426
 z63:=Tryz.sizeOf426
 v63:=Tryz.zeroValue426
 t64:=Tryz.underlying427
 a64:=Tryz.isAgg427
 z64:=Tryz.sizeOf427
 v64:=Tryz.zeroValue427}
end Go.Proofs
namespace Go.ar
open Go
def wrap_u64(a:Int):IntKind.wrap .u64 a=a % 18446744073709551616:=by
 unfold IntKind.wrap;simp[IntKind.signed,IntKind.bits]
variable{c8 x:List UInt8}{a c i k:Nat}{d:Option Addr}{h:Program}{B g q:TypeId}{p u:Value->World->Prop}{b:World}
def DU(b:a<18446744073709551616):IntKind.wrap .u64 (a:Int)=a:=by rw[wrap_u64];omega
def KE(t:jC h g q 1 1){M D:Nat->Prop}(f:aO fv q M b (ZX a) c i x)(E:Row fv 1 b D d c c8)(m:∀n,aO fv q (·=a) n (ZX a) c i c8->ak (·=a) b n->n.heap.size=b.heap.size->p (XH c) n):
  aG h (Builtin.copy_ #[g,g] B #[.slice (ZX a) c i,.slice d c k]) b p u:=by
 obtain⟨a1,a2,N,hz,O,a4,a5⟩:=t.info;have F:(h.info? q).map (·.size)=some 1:=by rw[N];simp[O]
 have o:=E.len;have P:=f.len dC;obtain⟨a6,D0,H,a7,a8⟩:=f.body;rcases H.cases with⟨v,_⟩|⟨Q,e,v,w,R,S,a9⟩
 ·cases v
 cases v
 by_cases I:c=0
 ·subst I
  have:c8=[]:=QW o.symm;subst this;have:x=[]:=QW P.symm;subst this;have r:=run_copy_none (P:=h) b g g B q (ZX a) d 0 i 0 k t.under F (by rfl);refine aG.mk (v:=XH 0) r (m b ?_ (ak.refl _) rfl);have:=f.alone;exact⟨by obtain⟨cs,D,T,j,a3⟩:=this.body;exact⟨cs,λ_=>False,T,by rw[show cs=[]from j];rfl,λ_ f=>f.elim⟩,λj l=>by simpa[aF]using l.symm,λj l=>by rw[l];exact ax w⟩
 ·obtain⟨cs,y,U⟩:=E.aD
  have z:c8≠[]:=by rintro rfl;simp at o;exact I o
  obtain⟨j,A,V,_,_,W⟩:=U z dC;subst V;have s:cs.length=c:=by have:=y.length;rw[this,o];show _*1=_;omega
  have b0:e.size=i:=by rw[S];show i*1=i;omega
  have r:=run_copy_row (P:=h) b g g B q a 0 c i ⟨j,A,none⟩ c k e q cs t.under F w (by rw[s];simp[Nat.min_self]) (λX Y Z=>by rw[Addr.add_lit];exact W X Y Z) oM (y.PJ);rw[s]at r;have J:=setRow_heap b a e (e.toList.take 0++cs++e.toList.drop (0+c)).toArray q (0,0) w;refine aG.mk r (m _ ⟨⟨cs,λ_=>False,⟨⟨by rw[s];show c=c*1;omega,.inr ⟨a,i,_,rfl,Qj _,J,R,?_,?_,?_⟩⟩⟩,y.free,λ_ f=>f.elim⟩,λj l=>by simpa[aF]using l.symm,λj l=>by subst l;exact ax J⟩ ⟨rfl,rfl,rfl,by simp[World.setRow],λa0 hk z=>setRow_other b a a0 _ z⟩ (by simp[World.setRow]))
  ·rcases H.row.2 with⟨C,_⟩|⟨Q,K,L,C,_,_,_,hm,_⟩
   ·cases C
   ·cases C;exact hm
  ·show _=i*1
   simp;omega
  ·simp only[List.take_zero,List.nil_append,Xz]
   show(cs++e.toList.drop c).take (c*1)=cs;rw[Nat.mul_one,<-s,List.take_left]
end Go.ar
namespace Go.Proofs.YtjgjkeponbeekaaGreatDoor
open Go.ar
variable{e:Int}{a c:Nat}{d:Option Addr}{b:World}
def Nz(d:aH e):Calls XP 293 #[XH e] b (Ok λf g=>f= .tuple #[.int .u64 (e.natAbs:Int),.int .u8 (if e<0 then 16 else 0)]/\b=g):=by
 unfold aH at d;refine Hr (al.dec (λa=>?_) (λa=>?_))
 ·refine Ok.mk ⟨?_,rfl⟩
  rw[if_pos a,wrap_u64,wrap_u64];have c:(0-e % 18446744073709551616) % 18446744073709551616=(e.natAbs:Int):=oM
  rw[c]
 ·refine Ok.mk ⟨?_,rfl⟩
  rw[if_neg a,wrap_u64];have c:e % 18446744073709551616=(e.natAbs:Int):=oM
  rw[c]
def bits_Len64{a:Nat}{b:World}(e:a<18446744073709551616):Calls XP 277 #[.int .u64 (a:Int)] b (Ok λd c=>d= XH (Lib.bitLen a:Int)/\b=c):=by
 refine(Any.bits_Len64 Tryz.Sl (a:Int) b oM oM).mono ?_;rintro f c ⟨rfl,rfl⟩;exact Ok.mk ⟨by rw[Qx],rfl⟩
def Ue(d:a<=8)(b:Bool):Oe .u8 (if b then 16 else 0) (IntKind.wrap .u8 (a:Int))=((UInt8.ofNat (a+if b then 16 else 0)).toNat:Int):=by
 have c:(List.range 9).all (λa=>Oe .u8 16 (IntKind.wrap .u8 (a:Int))==((UInt8.ofNat (a+16)).toNat:Int)&&Oe .u8 0 (IntKind.wrap .u8 (a:Int))==((UInt8.ofNat (a+0)).toNat:Int))=true:=by decide+kernel
 have:=List.all_eq_true.1 c a (List.mem_range.2 oM);simp only[QK,beq_iff_eq]at this
 cases b
 ·exact this.2
 ·exact this.1
def AT{j:List UInt8}{m:Int}{D:Nat->Prop}(u:aH m)(i:Row fv 1 b D d a j)(L:a+9<=aK)(hD:∀g,D g->g<b.heap.size):
  Calls XP 240 #[.slice d a c,XH m] b (Ok (py fv 5 b (j++nP m))):=by
 have n:=i.len;have o:=u;unfold aH at o;have M:=L;unfold aK at M;have v:m.natAbs<2 ^ 64:=oM
 have w:=HW v;have N:=xM _ v;refine JP (PC.ok (Nz u) ?_);rintro _ _ ⟨rfl,rfl⟩;refine⟨_,_,rfl,PC.ok (bits_Len64 oM) ?_⟩;rintro _ _ ⟨rfl,rfl⟩;have O:IntKind.wrap .i64 (Int.tdiv (IntKind.wrap .i64 ((Lib.bitLen m.natAbs:Int)+7)) 8)=((jz m.natAbs).length:Int):=by
  rw[wrap_i64 (x:=(Lib.bitLen m.natAbs:Int)+7) (by unfold aH;omega),Int.tdiv_eq_ediv_of_nonneg oM,wrap_i64 (by unfold aH;omega),N];omega
 have P:IntKind.wrap .i64 ((IntKind.wrap .i64 (((a:Nat):Int)+1))+((jz m.natAbs).length:Int))=((a+1+(jz m.natAbs).length:Nat):Int):=by
  rw[wrap_i64 (x:=((a:Nat):Int)+1) (by unfold aH;omega),wrap_i64 (by unfold aH;omega)];omega
 refine⟨_,rfl,?_⟩;rw[O,P];refine Uf sK kR oM (by unfold aK;omega) λw1 Q y b4=>?_;refine⟨_,_,_,rfl,KE sK Q (i.ah y) λR S T b5=>⟨_,rfl,?_⟩⟩;have z:ai b R:=y.new T λg i=>.inr oM;rw[show IntKind.wrap .u8 ((jz m.natAbs).length:Int)=IntKind.wrap .u8 ((jz m.natAbs).length:Int)from rfl];have A:=Ue w (decide (m<0));simp only[decide_eq_true_eq]at A;rw[A];refine Mo S sK (x:=UInt8.ofNat ((jz m.natAbs).length+if m<0 then 16 else 0)) (D:=λ_=>False) ⟨rfl,trivial⟩ (λ_ h=>h.elim) (by rw[<-n];unfold aK;omega) (by rw[<-n];unfold maxLen;omega) λa4 c3 U V B W X b6=>?_;have Y:ai b U:=z.new W λg i=>.inr (by simp only[aF,Q1]at i;omega);have Z:a+1=(j++[UInt8.ofNat ((jz m.natAbs).length+if m<0 then 16 else 0)]).length:=by simp[n]
 generalize a8:j++[UInt8.ofNat ((jz m.natAbs).length+if m<0 then 16 else 0)]=p at B Z;have a0:j++nP m=p++(jz m.natAbs).reverse:=by rw[<-a8,XQ];rfl
 rw[a0];generalize a9:(jz m.natAbs).length=f at w⊢;refine⟨_,_,_,rfl,λC E q F H I=>∃e:Nat,e<=f/\H=(f:Int)-1-e/\C=f-e/\q=a+1+e/\∃k,aO fv 5 k I E q F (p++(jz m.natAbs).reverse.take e)/\ai b I/\∀g,k g->b.heap.size<=g,
  ⟨_,0,Qj _,by rw[wrap_i64 (by unfold aH;omega)];omega,rfl,rfl,V,by simpa using B,Y,λg i=>?_⟩,?_⟩
 ·rcases X g i with h|h|h
  ·omega
  ·exact h.elim
  ·have:=z.size;omega
 rintro C E q F H _ r ⟨e,hj,rfl,rfl,rfl,k,l,s,t⟩;refine al.dec (λh1=>?_) (λh1=>?_)
 ·have b7:e<f:=oM
  have b0:IntKind.wrap .i64 (8*((f:Int)-1-e))=((8*(f-1-e):Nat):Int):=by rw[wrap_i64 (by unfold aH;omega)];omega
  rw[b0];have a1:∀x J,(do eqGuard .shr 367 x J (.int .u64 (m.natAbs:Int)) (XH ((8*(f-1-e):Nat):Int));binOp .shr 367 (.int .u64 (m.natAbs:Int)) (XH ((8*(f-1-e):Nat):Int)):Sem Value).run XP r=
    .ok (.int .u64 ((m.natAbs/256 ^(f-1-e):Nat):Int)) r:=λx J=>by
   have h0:=shift_shr .u64 .i64 (m.natAbs:Int) ((8*(f-1-e):Nat):Int) oM (by show _<=((64:Nat):Int);omega);have e1:(m.natAbs:Int)/2 ^(Int.toNat ((8*(f-1-e):Nat):Int))=((m.natAbs/256 ^(f-1-e):Nat):Int):=by
    have e2:(256:Nat) ^(f-1-e)=2 ^(8*(f-1-e)):=by rw[Nat.pow_mul]
    rw[Qx,e2];simp
   show(Op.shift .shr .u64 (m.natAbs:Int) .i64 ((8*(f-1-e):Nat):Int)).run XP r=_;rw[h0,e1]
   rfl
  refine aG.mk (a1 _ _) ⟨_,rfl,?_⟩;have a2:(jz m.natAbs).reverse[e]? =some (UInt8.ofNat (m.natAbs/256 ^(f-1-e))):=by
   rw[List.getElem?_reverse oM,a9];rw[Qh _ _ oM]
   congr 1
   refine UInt8.toNat_inj.1 ?_;rw[UInt8.toNat_ofNat',UInt8.toNat_ofNat'];omega
  have a3:IntKind.wrap .u8 ((m.natAbs/256 ^(f-1-e):Nat):Int)=((UInt8.ofNat (m.natAbs/256 ^(f-1-e))).toNat:Int):=by
   rw[UInt8.toNat_ofNat'];unfold IntKind.wrap;simp[IntKind.signed,IntKind.bits]
  rw[a3];have K:(p++(jz m.natAbs).reverse.take e).length=a+1+e:=by simp;omega
  refine Mo l sK (x:=UInt8.ofNat (m.natAbs/256 ^(f-1-e))) (D:=λ_=>False) ⟨rfl,trivial⟩ (λ_ h=>h.elim) (by rw[K];unfold aK;omega) (by rw[K];unfold maxLen;omega) λa5 c5 w5 F5 b1 b2 b3 b8=>?_;refine⟨_,_,_,rfl,_,oM,e+1,oM,by rw[wrap_i64 (by unfold aH;omega)];omega,rfl,oM,F5,?_,s.new b2 λg i=>.inr (t g (l.self g i)),λg i=>?_⟩
  ·rw[Qw,a2]
   simpa using b1
  ·rcases b3 g i with h|h|h
   ·exact t g h
   ·exact h.elim
   ·exact Xx s.size h
 ·obtain rfl:e=f:=oM
  rw[Qz (by simp;omega)]at l;exact Ok.mk ⟨_,_,_,k,rfl,l,s,t⟩
end Go.Proofs.YtjgjkeponbeekaaGreatDoor
namespace Go.ar
open Go
def Own.set{f:World}{l:TypeId}{n:Nat}{g:Option Addr}{o b:Nat}{cs:List Value}(p:Own f l n g o b cs){m:Nat}{q:Value}{r:World->Prop}(H:m<cs.length){c d:Nat}(h:g=some ⟨c,d,none⟩)(i:∀a,Own a l n g o b (cs.set m q)->ak (λc=>aF g=some c) f a->a.heap.size=f.heap.size->r a):PS f ⟨c,d+m,none⟩ q r:=by
 have s:=p.row.1;rcases p.row.2 with⟨e,I⟩|⟨J,K,k,e,t,u,v,w,x,j⟩
 ·simp only[XX]at e
  rw[e.1]at h;cases h
 ·simp only[XX]at e
  obtain⟨y,-,z⟩:=e;subst y;subst z
  cases h
  rw[Xz];have A:m<k.size:=by
   have:=congrArg List.length j;simp at this;omega
  refine PS.mk u A λa B C E=>i a ⟨⟨by simpa using s,.inr ⟨_,_,_,rfl,t,E,v,w,by simpa using x,?_⟩⟩⟩ (B.mono λc _ F=>by rw[F];rfl) C;rw[Array.toList_setIfInBounds,List.take_set,j]
def bu.mZ{c:Type}{d:Nat}{a:c->List Value}{hl h1}{e:World}{D:Nat->Prop}:∀{b:List c} {cs:List Value},bu (flat d a (λ_=>True) hl h1) e D b cs↔cs=b.flatMap a
 |[],cs=>by simp[bu]
 |x::b,cs=>by
  constructor
  ·rintro⟨g,h,rfl,⟨rfl,-⟩,f⟩
   rw[bu.mZ.1 f];rfl
  ·rintro rfl
   exact⟨a x,b.flatMap a,rfl,⟨rfl,trivial⟩,bu.mZ.2 rfl⟩
def qD{e:Type}{enc:e->List Value}{k:Nat}(f:∀b,(enc b).length=k){x':e}{v:Value}{c:Nat}(i:c<k):∀(g:List e) (a:Nat) (b:e),g[a]? =some b->enc x'=(enc b).set c v->(g.flatMap enc).set (a*k+c) v=(g.set a x').flatMap enc
 |[],a,b,d,_=>by simp at d
 |y::j,0,b,d,h=>by
  simp at d;subst d;rw[List.flatMap_cons,List.set_cons_zero,List.flatMap_cons,Nat.zero_mul,Xz,List.set_append_left _ _ (by rw[f];exact i),h]
 |y::j,a+1,b,d,h=>by
  have:=qD f i j a b (by simpa using d) h;have l:(a+1)*k+c-k=a*k+c:=by rw[X7];omega
  have m:k<=(a+1)*k+c:=by rw[X7];omega
  rw[List.flatMap_cons,List.set_cons_succ,List.flatMap_cons,List.set_append_right _ _ (by rw[f];exact m),f,l,this]
def kq{c:Type}{a:c->List Value}{d:Nat}(e:∀x,(a x).length=d):∀b:List c,(b.flatMap a).length=b.length*d
 |[]=>by simp
 |x::b=>by rw[List.flatMap_cons,QX,e,kq e b,Xq,X7,Nat.one_mul,Nat.add_comm]
variable{C a c i k:Nat}{f:Nat->Prop}{d r:Option Addr}{h:Program}{j:Type}{B g q:TypeId}{v:Value}{p u:Value->World->Prop}{b:World}{y:World->Prop}
def aO.set{n:Type}{e:n->List Value}{hl h1}{l:List n}(o:aO (flat a e (λ_=>True) hl h1) g f b d c i l){h j:Nat}{x x':n}(q:l[h]? =some x)(s:j<a)(t:e x'=(e x).set j v)(u:d=some ⟨k,C,none⟩)(p:∀m,aO (flat a e (λ_=>True) hl h1) g f m d c i (l.set h x')->ak (λk=>aF d=some k) b m->m.heap.size=b.heap.size->y m):PS b ⟨k,C+h*a+j,none⟩ v y:=by
 obtain⟨cs,D,w,z,A⟩:=o.body;have B:=bu.mZ.1 z;subst B;have E:h<l.length:=(Qv.1 q).1;rw[Nat.add_assoc];refine w.set (m:=h*a+j) ?_ u λm F H r=>p m ⟨⟨_,D,F,bu.mZ.2 (qD hl s l h x q t),A⟩,o.self,λk I=>by rw[r];exact o.aB k I⟩ H r;rw[kq hl];have:(h+1)*a<=l.length*a:=Q0 _ E;rw[X7]at this;omega
def wY{P:Program}{w:World}(a:Nat)(c h d:TypeId)(i:TypeInfo)(b:Nat)(f:P.underlying c=some (.slice d))(g:P.info? d=some i)(e:Value)(j:Nat)(k:List Value)(l:w.ownsRow a d b e j k)(m:Nat):
  (Builtin.append_ #[c,c] h #[e,.slice none 0 m]).run P w= .ok e w:=by
 rcases l.2 with⟨rfl,rfl⟩|⟨q,n,o,rfl,_,_,p,_⟩
 ·simp[Builtin.append_,run_underlying f,sizeOf,typeInfo,g,Builtin.lenOf,Builtin.firstCells]
 ·simp[Builtin.append_,run_underlying f,sizeOf,typeInfo,g,Builtin.lenOf,Builtin.firstCells,p,storeCells]
def y_{n:jo j}{t:List j}{bytes:Nat}(v:aO n g f b d a c t)(w:jC h q g n.k bytes){D:Nat->Prop}{m:List j}(x:Row n bytes b D r i m)(C:∀e,D e->e<b.heap.size/\aF d≠some e)(o:(t.length+m.length)*bytes<=aK)(E:t.length+m.length<=maxLen)(s:∀y l z A,aO n g A z y (a+i) l (t++m)->ak (λF=>aF d=some F) b z->(∀e,A e->f e\/D e\/b.heap.size<=e)->(∀e,aF y=some e->f e\/b.heap.size<=e)->p (.slice y (a+i) l) z):
  aG h (Builtin.append_ #[q,q] B #[.slice d a c,.slice r i k]) b p u:=by
 cases r with
 |some O=>exact kh v w x C o E s
 |none=>
  have H:m=[]:=by
   cases m with
   |nil=>rfl
   |cons I P=>obtain⟨e,J,Q,K,_⟩:=x.el 0 I rfl;cases K
  subst H;obtain rfl:i=0:=x.len;obtain⟨L,R,M,S,T,U,V⟩:=jC.info w;obtain⟨cs,W,N,X,Y⟩:=v.body;exact aG.mk (wY (P:=h) (w:=b) 0 q B g L n.k w.under M (.slice d a c) a cs N.row k) (s d c b f (by simpa using v) (ak.refl _) (λe o=>.inl o) λe o=>.inl (v.self e o))
end Go.ar

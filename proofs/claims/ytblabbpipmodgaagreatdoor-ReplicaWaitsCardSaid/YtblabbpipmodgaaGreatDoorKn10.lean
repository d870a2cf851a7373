import Derived.Test.YtblabbpipmodgaaGreatDoorKn9
import Derived.Laws.Runes
import Derived.Lib.AppendZeros
import Derived.StringKeys
import Derived.Lib.AppendIntMem
import Derived.Laws.Concat
set_option maxHeartbeats 4000000
set_option linter.all false
set_option maxRecDepth 100000
open Go.IntKind renaming wrap→XG
namespace Go.Proofs.YtblabbpipmodgaaGreatDoor
open Go.aw
def dQ(b:UInt8):Bool:=(97<=b&&b<=122)||(48<=b&&b<=57)||b==46
def cJ(P:ByteArray):Bool:=decide (1<=P.size)&&decide (P.size<=16)&&P.data.toList.all dQ
structure cD where
 bytes:List UInt8
 synced:Nat
 Au:Bool
 deriving DecidableEq
structure al where
 most:Nat
 files:List (ByteArray×cD)
 lE:Bool
 left:Int
 dead:Bool
 deriving DecidableEq
def eJ(P:List (ByteArray×cD)):Nat:=(P.map λa=>a.2.bytes.length).sum
def al.used(D:al):Nat:=eJ D.files
structure al.Ok (D:al):Prop where
 most:D.most<=262144
 fits:D.used<=D.most
 many:D.files.length<=64
 tidy:Tidy D.files
 names:∀x∈D.files,cJ x.1=true
 Qn:∀x∈D.files,x.2.synced<=x.2.bytes.length
 EA:0<=D.left
 EB:aP D.left
variable{U n:Array Value}{L:Bool}{v:ByteArray}{f4:ByteArray×cD}{y:FuncId}{e:Int}{g8:List (ByteArray×cD)}{w:List UInt8}{a c:Nat}{f:XN}{d:ZH}{F j:Type}{b5:UInt8}{b k:World}{x:XU}{W:cD}
def Hp(h:f4∈g8):f4.2.bytes.length<=eJ g8:=by
 unfold eJ
 induction g8 with
 |nil=>cases h
 |cons a g8 P=>
  simp only[QY,List.sum_cons];rcases Q2.1 h with rfl|h
  ·omega
  ·have:=P h;omega
def al.Ok.len{D:al}(P:D.Ok)(a:f4∈D.files):f4.2.bytes.length<=262144:=by
 have:=Hp a;have:=P.fits;have:=P.most;unfold al.used at*;omega
structure eK (w:World) (q:Nat) (G:XN) (f:cD):Prop where
 body:∃a n cap F,w.heap[q]? =some (.cells #[.slice a n cap,XH f.synced,.bool f.Au] 206 (0,0))/\aO fF 5 F w a n cap f.bytes/\(∀b,F b->G b)/\¬F q
 self:G q
 aC:∀b,G b->b<w.heap.size
def eK.af{S G:XN}(c:eK b a G W)(d:ak S b k)(g:∀P,G P->¬S P):eK k a G W:=by
 obtain⟨i,j,e,l,m,n,h,o⟩:=c.body;exact⟨⟨i,j,e,l,d.get m (g _ c.self),n.af d (λP f=>g P (h P f)),h,o⟩,c.self,λP f=>Qk (c.aC P f) d.size⟩
structure rJ where
 q:Nat
 G:XN
 f:cD
def ptr(P:Nat):Value:=XL P
def iy(P:ByteArray×rJ):ByteArray×Value:=(P.1,ptr P.2.q)
def Av(P:ByteArray×rJ):ByteArray×cD:=(P.1,P.2.f)
structure EC (w:World) (L:List (ByteArray×rJ)):Prop where
 each:∀x∈L,eK w x.2.q x.2.G x.2.f
 apart:∀x∈L,∀y∈L,x.1≠y.1->∀b,x.2.G b->¬y.2.G b
 tidy:Tidy L
structure aS (w:World) (p:Nat) (F:XN) (D:al):Prop where
 body:∃r L,w.heap[p]? =some (.cells #[XH D.most,.map (some r),.bool D.lE,XH D.left,.bool D.dead] 142 (0,0))/\bX w r Value.string (L.map iy)/\D.files=L.map Av/\EC w L/\
  (∀x∈L,∀b,x.2.G b->F b/\b≠p/\b≠r)/\F r/\p≠r
 self:F p
 aC:∀b,F b->b<w.heap.size
 ok:D.Ok
variable{a4:List (ByteArray×rJ)}
def EC.af{S:XN}(a:EC b a4)(e:ak S b k)(f:∀P∈a4,∀c,P.2.G c->¬S c):EC k a4:=
 ⟨λP d=>(a.each P d).af e (f P d),a.apart,a.tidy⟩
def aS.af{S e:XN}{D:al}(c:aS b a e D)(d:ak S b k)(f:∀P,e P->¬S P):aS k a e D:=by
 obtain⟨j,l,m,n,o,p,h,i,q⟩:=c.body;exact⟨⟨j,l,d.get m (f _ c.self),n.af d (f _ i),o,p.af d (λr s P g=>f P (h r s P g).1),h,i,q⟩,c.self,λP g=>Qk (c.aC P g) d.size,c.ok⟩
def aS.ah{D:al}(P:aS b a f D)(c:ai b k):aS k a f D:=P.af c λ_ _ P=>P
def sY(b:j->F)(a:List (ByteArray×j))(c:ByteArray)(d:j):(aG a c d).map (λP=>(P.1,b P.2))=aG (a.map λP=>(P.1,b P.2)) c (b d):=by
 induction a with
 |nil=>rfl
 |cons e a f=>
  obtain⟨P,g⟩:=e;simp only[aG,QY];split
  ·rfl
  ·simp[f]
def ED(b:j->F)(a:List (ByteArray×j))(c:ByteArray):(bO a c).map (λP=>(P.1,b P.2))=bO (a.map λP=>(P.1,b P.2)) c:=by
 induction a with
 |nil=>rfl
 |cons d a e=>
  obtain⟨P,f⟩:=d;simp only[bO,QY];split
  ·rfl
  ·simp[e]
def ym(b:j->F)(P:List (ByteArray×j))(c:ByteArray):az (P.map λa=>(a.1,b a.2)) c=(az P c).map b:=by
 induction P with
 |nil=>rfl
 |cons d P e=>
  obtain⟨a,f⟩:=d;simp only[az,QY];split
  ·rfl
  ·exact e
def fh{a:List (ByteArray×j)}(d:Tidy a){b:j}{P:ByteArray×j}(h:P∈aG a v b):P=(v,b)\/(P∈a/\P.1≠v):=by
 by_cases c:P.1=v
 ·left
  have:=EE (d.aG v b) (k:=P.1) (v:=P.2) h;rw[b_,c]at this;simp at this;exact Prod.ext c this.symm
 ·rcases fy h with rfl|h
  ·exact .inl rfl
  ·exact .inr ⟨h,c⟩
def Cz{a:List (ByteArray×j)}(b:Tidy a){P:ByteArray×j}(c:P∈bO a v):P∈a/\P.1≠v:=by
 refine⟨fz c,λe=>?_⟩;have d:=EE (b.bO v) (k:=P.1) (v:=P.2) c;rw[jh b,e]at d;simp at d
def oz{l:List (ByteArray×cD)}{k:ByteArray}{f:cD}:eJ (aG l k f)+((az l k).map λP=>P.bytes.length).getD 0=eJ l+f.bytes.length:=by
 unfold eJ
 induction l with
 |nil=>simp[aG,az]
 |cons a l b=>
  obtain⟨c,d⟩:=a;simp only[aG,az];split
  ·simp;omega
  ·simp only[QY,List.sum_cons]at b⊢;omega
def vw{l:List (ByteArray×cD)}{k:ByteArray}:eJ (bO l k)+((az l k).map λP=>P.bytes.length).getD 0=eJ l:=by
 unfold eJ
 induction l with
 |nil=>simp[bO,az]
 |cons a l b=>
  obtain⟨c,d⟩:=a;simp only[bO,az];split
  ·simp;omega
  ·simp only[QY,List.sum_cons]at b⊢;omega
def uQ{P:List (ByteArray×j)}{b:j}(a:(az P v).isSome=true):(aG P v b).length=P.length:=by
 induction P with
 |nil=>simp[az]at a
 |cons c P d=>
  obtain⟨f,g⟩:=c;simp only[aG,az]at a⊢;split
  ·rfl
  ·rename_i e
   rw[Zq e]at a;simp[d a]
def aS.head{D:al}(c:aS b a f D):∃P,b.heap[a]? =some (.cells #[XH D.most,.map (some P),.bool D.lE,XH D.left,.bool D.dead] 142 (0,0)):=by
 obtain⟨P,e,d,_⟩:=c.body;exact⟨P,d⟩
def aS.Me{D P:al}(d:aS b a f D)(e:ak (·=a) b k)(l:∀c,b.heap[a]? =some (.cells #[XH D.most,.map (some c),.bool D.lE,XH D.left,.bool D.dead] 142 (0,0))->k.heap[a]? =some (.cells #[XH P.most,.map (some c),.bool P.lE,XH P.left,.bool P.dead] 142 (0,0)))(m:P.files=D.files)(n:P.Ok):aS k a f P:=by
 obtain⟨c,o,p,q,r,s,i,t,j⟩:=d.body;exact⟨⟨c,o,l c p,q.af e (λu=>j u.symm),m.trans r,s.af e (λv w g h=>(i v w g h).2.1),i,t,j⟩,d.self,λg h=>Qk (d.aC g h) e.size,n⟩
def aS.CA{D:al}(P:aS b a f D)(d:∀c,aS c a f {D with dead:=L}->ak f b c->c.heap.size=b.heap.size->x c):PS b ⟨a,0+4,none⟩ (.bool L) x:=by
 obtain⟨l,e⟩:=P.head;refine PS.mk e sM λc g i j=>d c (P.Me g (λm h=>?_) rfl ⟨P.ok.most,P.ok.fits,P.ok.many,P.ok.tidy,P.ok.names,P.ok.Qn,P.ok.EA,P.ok.EB⟩) (g.mono λL _ k=>k▸P.self) i;rw[e]at h;cases h;exact j
def aS.Og{D:al}(P:aS b a f D)(j:0<=e)(k:aP e)(d:∀c,aS c a f {D with left:=e}->ak f b c->c.heap.size=b.heap.size->x c):PS b ⟨a,0+3,none⟩ (XH e) x:=by
 obtain⟨o,g⟩:=P.head;refine PS.mk g sM λc h l m=>d c (P.Me h (λp i=>?_) rfl ⟨P.ok.most,P.ok.fits,P.ok.many,P.ok.tidy,P.ok.names,P.ok.Qn,j,k⟩) (h.mono λq _ n=>n▸P.self) l;rw[g]at i;cases i;exact m
def Kh:ZG 34 #[XH e] b (Ok λd c=>
  if e<64\/e>262144 then d= .tuple #[.pointer none,XH 1]/\c=b
  else∃f g,d= .tuple #[XL f,XH 0]/\aS c f g ⟨e.toNat,[],false,0,false⟩/\ai b c/\∀P,g P->b.heap.size<=P):=by
 refine Ek (an.dec (λa=>?_) (λa=>an.dec (λh=>?_) (λh=>?_)))
 ·exact Ok.mk (by rw[Zx (.inl a)];exact⟨rfl,rfl⟩)
 ·exact Ok.mk (by rw[Zx (.inr h)];exact⟨rfl,rfl⟩)
 ·refine PA.mk λj k o l=>PA.mk λm i p n=>Ok.mk ?_
  rw[Zq oM];refine⟨j.heap.size,λP=>b.heap.size<=P/\P<m.heap.size,rfl,⟨⟨b.heap.size,[],?_,bX.new (i.get l id),rfl,⟨sM,sM,by simp[Tidy]⟩,sM,oM,oM⟩,oM,λP a=>a.2,?_⟩,k.ah i,λP a=>a.1⟩
  ·rw[n]
   have:((e.toNat:Nat):Int)=e:=oM
   rw[this]
  ·exact⟨by show e.toNat<=_;omega,by simp[al.used,eJ],by simp,by simp[Tidy],by simp,by simp,by simp,by unfold aP;simp⟩
def al.dies(D:al):Bool:=D.dead||(D.lE&&D.left==0)
def al.cE(D:al):al:=if D.lE then{D with left:=D.left-1}else D
def al.gone(D:al):al:={D with dead:=true}
def Hq{D:al}(l:aS b a f D){e:Int}{D':al}(A:enters XP y=true)(E:D.dies=false->∀P,aS P a f D.cE->ak f b P->P.heap.size=b.heap.size->ZG y (n++ #[]++U) P (Ok λh d=>∃g,h= XH e/\aS d a g D'/\du f P g d)):
  ZG 241 #[XL a,.func (.func y) n U] b (Ok λh d=>∃g,h= XH (if D.dies then 15 else e)/\aS d a g (if D.dies then D.gone else D')/\du f b g d):=by
 obtain⟨L,v⟩:=l.head;have m:∀P,D.dies=true->aS P a f {D with dead:=true}->ak f b P->Ok (λh d=>∃g,h= XH (if D.dies then 15 else e)/\aS d a g (if D.dies then D.gone else D')/\du f b g d) (.returned (XH 15)) P:=
  λP i c F=>Ok.mk ⟨f,by rw[i];rfl,by rw[i];exact c,F,λ_ l=>.inl l⟩
 refine rA ⟨λP=>aS P a f D/\ak f b P/\P.heap.size=b.heap.size/\D.dies=false,?_,?_⟩
 ·refine⟨a,0,rfl,_,ae v rfl,an.mk (λi=>⟨a,0,rfl,l.CA λP c j q=>?_⟩) (λi=>⟨a,0,rfl,_,ae v rfl,an.mk (λo=>⟨a,0,rfl,_,ae v rfl,a,0,rfl,l.CA λP c j q=>?_⟩) (λo=>⟨a,0,rfl,l.CA λP c j q=>?_⟩)⟩)⟩
  ·obtain⟨w,p⟩:=c.head
   exact⟨a,0,rfl,true,ae p rfl,m P (by simp[al.dies,i]) c j⟩
  ·obtain⟨w,p⟩:=c.head
   refine⟨a,0,rfl,D.left==0,ae p rfl,an.mk (λr=>m P (by unfold al.dies;rw[o,r];simp) (by rw[r]at c;exact c) j) (λr=>⟨?_,j,q,by unfold al.dies;rw[i,r];simp⟩)⟩;have:({D with dead:=D.left==0}:al)=D:=by rw[r,<-i]
   rw[this]at c;exact c
  ·obtain⟨w,p⟩:=c.head
   refine⟨a,0,rfl,false,ae p rfl,?_,j,q,by simp[al.dies,i,o]⟩;have:({D with dead:=false}:al)=D:=by rw[<-i]
   rw[this]at c;exact c
 ·rintro M P ⟨c,j,q,t⟩
  obtain⟨w,p⟩:=c.head;have s:∀k,aS k a f D.cE->ak f b k->k.heap.size=b.heap.size->PC XP y (n++ #[]++U) k (λh d=>∃B:Int,h= XH B/\Ok (λh d=>∃g,h= XH (if D.dies then 15 else e)/\aS d a g (if D.dies then D.gone else D')/\du f b g d) (.returned (XH B)) d)
    (λH d=>Ok (λh d=>∃g,h= XH (if D.dies then 15 else e)/\aS d a g (if D.dies then D.gone else D')/\du f b g d) (.panicked H) d):=by
   intro k x u z;refine PC.ok (E t k x u z) ?_;rintro _ N ⟨g,rfl,I,J⟩;exact⟨e,rfl,Ok.mk ⟨g,by rw[t];rfl,by rw[t];exact I,(du.mk u λ_ l=>.inl l:du f b f k).trans J⟩⟩
  refine⟨a,0,rfl,_,ae p rfl,an.mk (λo=>?_) (λo=>?_)⟩
  ·have O:D.left≠0:=by
    intro C;simp[al.dies,o,C]at t
   have C:=c.ok.EA;have Q:=c.ok.EB;have K:XG .i64 (D.left-1)=D.left-1:=wrap_i64 (by unfold aP at*;omega);refine⟨a,0,rfl,_,ae p rfl,a,0,rfl,?_⟩;rw[K];refine c.Og oM (by unfold aP at*;omega) λk x u z=>⟨y,n,U,rfl,A,s k ?_ (j.then u) (z.trans q)⟩
   unfold al.cE;rw[Zx o];exact x
  ·refine⟨y,n,U,rfl,A,s P ?_ j q⟩
   unfold al.cE;rw[Zq (by simp[o])];exact c
def cs:ByteArray:=⟨#[97,98,99,100,101,102,103,104,105,106,107,108,109,110,111,112,113,114,115,116,117,118,119,120,121,122,48,49,50,51,52,53,54,55,56,57,46]⟩
def Mz:∀P:UInt8,decide (0<=Lib.indexByte cs.data.toList P)=dQ P:=by
 have b:(List.range 256).all (λa=>decide (0<=Lib.indexByte cs.data.toList (UInt8.ofNat a))==dQ (UInt8.ofNat a))=true:=by decide+kernel
 intro P;have:=ZY.1 b P.toNat (List.mem_range.2 P.toNat_lt);simpa using this
def Ox(b:128<=b5.toNat):dQ b5=false:=by
 have P:(List.range 128).all (λa=>dQ (UInt8.ofNat (128+a))==false)=true:=by decide+kernel
 have:=ZY.1 P (b5.toNat-128) (List.mem_range.2 (by have:=b5.toNat_lt;omega));rw[show 128+(b5.toNat-128)=b5.toNat by omega]at this;simpa using this
def yy:∀P∈cs.data.toList,P.toNat<128:=by decide+kernel
def Oy:cs.size=37:=by decide+kernel
def strings_IndexByte{P:ByteArray}{a:Int}{b:World}:ZG 341 #[.string P,.int .u8 a] b (Ok λd c=>d= XH (Lib.indexByte P.data.toList a.toNat.toUInt8)/\b=c):=
 (Any.strings_IndexByte Tryz.Oz P a b).mono λg c ⟨e,f⟩=>⟨_,e,rfl,f.symm⟩
def yz:ZG 342 #[.int .i32 e] b (Ok λd f=>d= .bool (Utf8.valid e)/\b=f):=by
 have c:=validRune_eq e;unfold validRune at c;refine ky (an.dec (λg=>an.dec (λh=>?_) (λh=>an.dec (λP=>an.dec (λa=>?_) (λa=>?_)) (λP=>?_))) (λg=>an.dec (λP=>an.dec (λa=>?_) (λa=>?_)) (λP=>?_)))
 all_goals
  refine Ok.mk ⟨?_,rfl⟩;rw[c]
  congr 1
  simp;omega
def oH(P:a<v.size):v[a]? =some (v[a]'P):=by simp[P]
def qD:∀{l:List UInt8} {P:UInt8},(∀b∈l,b≠P)->Lib.indexByte l P= -1
 |[],_,_=>rfl
 |b::l,P,a=>by
  have c:(b==P)=false:=beq_false_of_ne (a b (QV ..));have d:=qD (l:=l) λe f=>a e (QJ _ f);unfold Lib.indexByte;rw[c,d];rfl
def oI(x:0<=e):
  ZG 320 #[.string cs,.int .i32 e] b (Ok λh P=>(∃c:Int,h= XH c/\decide (c>=0)=(decide (e<128)&&dQ e.toNat.toUInt8))/\ai b P):=by
 refine qb ⟨λi P=>i=decide (e<128)/\P=b,an.dec (λ_=>⟨rfl,rfl⟩) (λf=>Zz x f),?_⟩;rintro Q o g ⟨rfl,rfl⟩;refine an.dec (λf=>PC.ok strings_IndexByte ?_) (λf=>an.eB (λy=>?_) (λy=>PC.ok yz ?_))
 ·rintro _ _ ⟨rfl,rfl⟩
  refine⟨_,rfl,Ok.mk ⟨⟨_,rfl,?_⟩,ak.refl _⟩⟩;have z:XG .u8 e=e:=by
   unfold XG;simp[IntKind.signed,IntKind.bits];omega
  rw[z,Zy f,Bool.true_and];exact Mz _
 ·have no:∀P,ai g P->Ok (λh P=>(∃c:Int,h= XH c/\decide (c>=0)=(decide (e<128)&&dQ e.toNat.toUInt8))/\ai g P) (.returned (XH (-1))) P:=λP p=>
   Ok.mk ⟨⟨_,rfl,by rw[Xv f];rfl⟩,p⟩
  refine yA Tryz.underlying9 λA B q R=>⟨λj P=>∃a,j=cs.size-a/\P.heap[g.heap.size]? =some (.stringIter cs a)/\ai g P,⟨_,0,rfl,B,q⟩,?_⟩
  rintro j o r ⟨a,rfl,C,s⟩;refine CK C (λ_=>.inl ⟨rfl,no r s⟩) λk E t F S=>.inr ⟨_,_,rfl,?_⟩;have l:(cs[a]'k).toNat<128:=yy _ (by rw[show cs[a]'k=cs.data.toList[a]'(by simpa using k)from by simp;rfl];exact XY _);have H:=decode_ascii cs a k l;rw[H]at t⊢;refine an.eB (λf=>oM) (λ_=>⟨_,?_,a+1,rfl,t,s.new F λi l=>.inr oM⟩);omega
 ·have no:∀P,ai g P->Ok (λh P=>(∃c:Int,h= XH c/\decide (c>=0)=(decide (e<128)&&dQ e.toNat.toUInt8))/\ai g P) (.returned (XH (-1))) P:=λP p=>
   Ok.mk ⟨⟨_,rfl,by rw[Xv f];rfl⟩,p⟩
  rintro _ _ ⟨rfl,rfl⟩;refine⟨_,rfl,an.not (an.mk (λI=>?_) (λ_=>no _ (ak.refl _)))⟩;obtain⟨J,K,u⟩:=encode_facts e I oM;refine aD.mk (run_convert_int_string g _ _ .i32 e kR Tryz.underlying9) ⟨_,rfl,?_⟩;generalize Utf8.encode e=d at J K u⊢;have L:XG .i64 (((d.size:Nat):Int)-1)=((d.size-1:Nat):Int):=by rw[wrap_i64 bb];omega
  rw[L];refine⟨λj c P=>c=((d.size-1:Nat):Int)/\ai g P,⟨0,rfl,ak.refl _⟩,?_⟩;rintro j c o A ⟨rfl,q⟩;have T:=Oy;have m:d.size-1<d.size:=oM
  have n:d.size-1<cs.size:=oM
  have U:=u m;have V:(cs[d.size-1]'n).toNat<128:=yy _ (by rw[show cs[d.size-1]'n=cs.data.toList[d.size-1]'(by simpa using n)from by simp;rfl];exact XY _);refine an.dec (λW=>⟨λ_ _=>False,?_,λc o b f=>f.elim⟩) (λX=>oM);simp only[Qx];rw[aq oM];refine⟨oM,_,oH n,oM,_,oH m,λr M=>an.dR (λ_=>λE N=>⟨oM,oM,oM,_,oH m,PC.ok strings_IndexByte ?_⟩) (λv=>oM)⟩;rintro _ _ ⟨rfl,rfl⟩;have O:Lib.indexByte (cs.extract (Int.toNat ((d.size-1+1:Nat):Int)) cs.size).data.toList ((((d[d.size-1]'m).toNat:Nat):Int).toNat.toUInt8)= -1:=by
   refine qD λi l v=>?_;have w:=yy i (mem_extract l);rw[v]at w;simp at w;omega
  refine⟨_,rfl,an.dec (λ_=>no _ ((q.ah M.af).ah N.af)) (λf=>?_)⟩;rw[O]at f;omega
def yB(d:0<=e):
  ZG 290 #[.int .i32 e] b (Ok λP a=>P= .bool (!(decide (e<128)&&dQ e.toNat.toUInt8))/\ai b a):=by
 refine uM (PC.ok (φ:=λP a=>P= .bool (decide (e<128)&&dQ e.toNat.toUInt8)/\ai b a) (mj (PC.ok (oI d) ?_)) ?_)
 ·rintro _ f ⟨⟨g,rfl,h⟩,c⟩
  exact⟨g,rfl,Ok.mk ⟨by rw[h],c⟩⟩
 ·rintro _ f ⟨rfl,c⟩
  exact⟨_,rfl,Ok.mk ⟨rfl,c⟩⟩
def jS:
  ZG 292 #[.string v,.func (.func 290) #[] #[]] b (Ok λf e=>f= .bool (!v.data.toList.all dQ)/\ai b e):=by
 have t:enters XP 290=true:=kR
 refine ml (PC.ok (φ:=λf e=>(∃c:Int,f= XH c/\decide (c>=0)= !v.data.toList.all dQ)/\ai b e) (qo (PC.ok (φ:=λf e=>(∃c:Int,f= XH c/\decide (c>=0)= !v.data.toList.all dQ)/\ai b e) (qp ?_) ?_)) ?_)
 ·refine yA Tryz.underlying9 λE u w F=>⟨λo e=>∃P,o=v.size-P/\P<=v.size/\e.heap[b.heap.size]? =some (.stringIter v P)/\ai b e/\(∀h∈v.data.toList.take P,dQ h=true),⟨_,0,rfl,Qj _,u,w,sM⟩,?_⟩
  rintro o H I ⟨P,rfl,J,x,p,i⟩;refine CK x (λy=>.inl ⟨rfl,Ok.mk ⟨⟨_,rfl,?_⟩,p⟩⟩) λd z q A K=>.inr ⟨_,_,rfl,_,_,_,rfl,t,?_⟩
  ·rw[Qz (by simpa using y)]at i
   have:v.data.toList.all dQ=true:=ZY.2 i;rw[this];rfl
  ·have r:ai b z:=p.new A λh a=>.inr oM
   have s:v.data.toList[P]? =some (v[P]'d):=by
    rw[Qq (by simpa using d)];simp;rfl
   refine PC.ok (yB (Int.natCast_nonneg _)) ?_;rintro _ L ⟨rfl,j⟩;refine⟨_,rfl,an.mk (λk=>?_) (λg=>?_)⟩
   ·
    refine Ok.mk ⟨⟨_,rfl,?_⟩,r.ah j⟩;have l:dQ (v[P]'d)=false:=by
     by_cases a:(v[P]'d).toNat<128
     ·rw[decode_ascii v P d a]at k
      simp at k;exact k.resolve_left oM
     ·exact Ox oM
    have:v.data.toList.all dQ=false:=List.all_eq_false.2 ⟨_,QZ s,by simp[l]⟩;rw[this];simp
   ·have a:(v[P]'d).toNat<128:=by
     by_cases a:(v[P]'d).toNat<128
     ·exact a
     ·have M:=(decode_high v P d oM).1
      have B:¬(((Utf8.decode v P).1:Int)<128):=oM
      rw[Xv B]at g;simp at g
    rw[decode_ascii v P d a]at q g;have l:dQ (v[P]'d)=true:=by
     simp at g;exact g.2
    refine⟨_,?_,P+1,rfl,oM,j.get q id,r.ah j,λh a=>?_⟩
    ·omega
    ·rw[Qw,s]at a
     rcases Q6.1 a with a|a
     ·exact i h a
     ·simp at a;rw[a];exact l
 ·rintro _ C ⟨⟨c,rfl,m⟩,n⟩
  exact⟨c,rfl,Ok.mk ⟨⟨c,rfl,m⟩,n⟩⟩
 ·rintro _ C ⟨⟨c,rfl,m⟩,n⟩
  exact⟨c,rfl,Ok.mk ⟨by rw[m],n⟩⟩
def te:ZG 243 #[.string v] b (Ok λa c=>a= .bool (cJ v)/\ai b c):=by
 refine xV (an.TR (λP=>an.dec (λd=>PC.ok jS ?_) (λd=>Ok.mk ⟨?_,ak.refl _⟩)) (λP=>Ok.mk ⟨?_,ak.refl _⟩))
 ·rintro _ h ⟨rfl,e⟩
  refine⟨_,rfl,Ok.mk ⟨?_,e⟩⟩;have f:1<=v.size:=by
   by_cases g:v.size=0
   ·exact Zz (ByteArray.ext (Array.eq_empty_of_size_eq_zero g)) P
   ·omega
  unfold cJ;rw[Zy f,Zy (show v.size<=16 by omega)];simp
 ·unfold cJ
  rw[Xv (show¬v.size<=16 by omega)];simp
 ·subst P;rfl
def jw{D:XN}(h:Row fF 1 b D d a w)(g:∀P,D P->P<b.heap.size):
  ZG 174 #[.slice d a c] b (Ok (nX fF 5 b w)):=by
 have x:=h.len;have e:=h.dE;refine kv (iW sk.under ⟨_,rfl,an.mk (λf=>?_) (λf=>PA.mk λk i y l=>?_)⟩)
 ·have:w=[]:=by
   cases d with
   |none=>
    cases w with
    |nil=>rfl
    |cons m z=>obtain⟨P,n,A,o,_⟩:=h.el 0 m rfl;cases o
   |some p=>cases f
  subst this;exact Ok.mk ⟨none,0,0,λ_=>False,rfl,aO.nil b,ak.refl _,λ_ h=>h.elim⟩
 ·cases d with
  |none=>cases f
  |some p=>
   have q:aO fF 5 (·=b.heap.size) k (XM b.heap.size) 0 0 []:=
    ⟨⟨[],λ_=>False,Own.ub (cur:= #[]) l rfl (Qj _),rfl,λ_ h=>h.elim⟩,λP e=>by simpa[aE]using e.symm,λP e=>oM⟩
   refine jx q sk (D:=D) (h.ah i) (λP e=>⟨by have:=g P e;omega,by have:=g P e;simp only[aE];intro r;cases r;omega⟩) bc (by unfold aN at e;unfold maxLen;simp;omega) λj s B C t u _ v=>?_;refine⟨_,_,_,rfl,Ok.mk ⟨j,_,s,λP=>aE j=some P,rfl,by have h:=t.alone;rw[List.nil_append]at h;exact h,i.new u λP e=>.inr ?_,λP e=>?_⟩⟩
   ·simp only[aE,Q1]at e;omega
   ·rcases v P e with h|h<;>omega
def jv(P:Int)(a:Nat):Nat:=(max 0 (min P a)).toNat
def uR(a:Int)(P:Nat):jv a P<=P:=by unfold jv;omega
def cD.cut(P:cD)(a:Int):cD:=⟨P.bytes.take (jv a P.bytes.length),jv a P.bytes.length,true⟩
def Oh(P:cD)(a:Int):(P.cut a).bytes.length=jv a P.bytes.length:=by
 have:=uR a P.bytes.length;simp[cD.cut];omega
def EF{G:XN}(i:eK b a G W)(c:W.bytes.length<=262144):
  ZG 123 #[XL a,XH e] b (Ok λy p=>∃q,y= .tuple #[]/\eK p a q (W.cut e)/\du G b q p):=by
 obtain⟨r,d,j,z,A,g,R,S⟩:=i.body;have B:d=W.bytes.length:=g.len dC;have T:=g.iG;refine uA λk C=>?_;have f:ai b k:=C.af;have h:=f.get A id;have U:=uR e W.bytes.length;have E:(if(if((d:Nat):Int)<e then((d:Nat):Int)else e)>0 then(if((d:Nat):Int)<e then((d:Nat):Int)else e)else 0)=((jv e W.bytes.length:Nat):Int):=by
  unfold jv;rw[B];omega
 refine⟨a,0,rfl,_,_,_,ae h rfl,a,0,rfl,r,d,j,ae h rfl,?_⟩;refine⟨oM,oM,?_⟩;have F:Row fF 1 k z r d W.bytes:=(g.row dC ba).ah f;refine PC.ok (by rw[E,Qx];exact jw (F.take (m:=jv e W.bytes.length) oM) (λP c=>Qk (g.aC P c) f.size)) ?_;rintro _ H ⟨s,l,t,m,rfl,n,o,u⟩;have I:l=jv e W.bytes.length:=by have:=n.len dC;rw[this];simp;omega
 have V:a<k.heap.size:=ay h;refine⟨_,_,_,rfl,a,0,rfl,PS.mk (o.get h id) sM λX J Y v=>⟨a,0,rfl,s,l,t,ae v rfl,a,0,rfl,PS.mk v sM λZ K s4 L=>⟨a,0,rfl,PS.mk L sM λM N s5 O=>Ok.mk ?_⟩⟩⟩;have w:ak (·=a) H M:=(J.then K).then N;have x:∀P,m P->P≠a:=λP c=>by have:=u P c;omega
 refine⟨λP=>P=a\/m P,rfl,⟨⟨s,l,t,m,?_,n.af w x,λP c=>.inr c,λQ=>x a Q rfl⟩,.inl rfl,?_⟩,⟨((ai.af f).then (ai.af o)).then (w.mono λP _ c=>by rw[c];exact i.self),?_⟩⟩
 ·rw[O]
  subst I
  rfl
 ·rintro P (rfl|c)
  ·have:=o.size;omega
  ·have:=n.aC P c;omega
 ·rintro P (rfl|c)
  ·exact .inl i.self
  ·have:=u P c;have:=f.size;exact .inr oM
structure eW (w:World) (p:Nat) (F:XN) (D:al) (r:Nat) (L:List (ByteArray×rJ)):Prop where
 head:w.heap[p]? =some (.cells #[XH D.most,.map (some r),.bool D.lE,XH D.left,.bool D.dead] 142 (0,0))
 map:bX w r Value.string (L.map iy)
 files:D.files=L.map Av
 each:EC w L
 Ki:∀x∈L,∀b,x.2.G b->F b/\b≠p/\b≠r
 Fr:F r
 pr:p≠r
 self:F p
 aC:∀b,F b->b<w.heap.size
 ok:D.Ok
def aS.open{D:al}(P:aS b a f D):∃c d,eW b a f D c d:=by
 obtain⟨c,d,e,g,h,i,j,k,l⟩:=P.body;exact⟨c,d,e,g,h,i,j,k,l,P.self,P.aC,P.ok⟩
def eW.at{D:al}(P:eW b a f D c a4):aS b a f D:=
 ⟨⟨c,a4,P.head,P.map,P.files,P.each,P.Ki,P.Fr,P.pr⟩,P.self,P.aC,P.ok⟩
def eW.af{S f:XN}{D:al}(P:eW b a f D c a4)(e:ak S b k)(g:∀d,f d->¬S d):eW k a f D c a4:=
 ⟨e.get P.head (g _ P.self),P.map.af e (g _ P.Fr),P.files,P.each.af e (λi j d h=>g d (P.Ki i j d h).1),P.Ki,P.Fr,P.pr,P.self,λd h=>Qk (P.aC d h) e.size,P.ok⟩
def eW.ah{D:al}(P:eW b a f D c a4)(d:ai b k):eW k a f D c a4:=P.af d λ_ _ P=>P
def eW.box{D:al}(i:eW b a f D c a4)(d:ByteArray):
  (az D.files d=none/\az (a4.map iy) d=none)\/∃P,az a4 d=some P/\(d,P)∈a4/\az D.files d=some P.f/\az (a4.map iy) d=some (ptr P.q):=by
 have e:az (a4.map iy) d=(az a4 d).map λP=>ptr P.q:=ym (λP:rJ=>ptr P.q) a4 d;have g:az D.files d=(az a4 d).map λP=>P.f:=by rw[i.files];exact ym (λP:rJ=>P.f) a4 d
 cases h:az a4 d with
 |none=>rw[h]at e g;exact .inl ⟨g,e⟩
 |some P=>rw[h]at e g;exact .inr ⟨P,rfl,cx h,g,e⟩
def al.ef(D:al)(P:ByteArray)(a:cD):al:={D with files:=aG D.files P a}
def al.sX(D:al)(P:ByteArray):al:={D with files:=bO D.files P}
def yo{P:List (ByteArray×j)}{b:j}(h:(v,b)∈P)(a:Tidy P):aG P v b=P:=by
 induction P with
 |nil=>cases h
 |cons c P d=>
  obtain⟨e,g⟩:=c;unfold aG;unfold Tidy at a;simp only[QY,List.nodup_cons]at a;rcases Q2.1 h with h|h
  ·cases h;simp
  ·have:(v==e)=false:=beq_false_of_ne λf=>a.1 (Xk.2 ⟨(v,b),h,f⟩)
   rw[Zq (by simp[this]),d h a.2]
def eW.ft{i w':World}{n G':XN}{D:al}(d:eW i a n D c a4){k:ByteArray}{x:rJ}(v:az a4 k=some x)(t:eK w' x.q G' W)(h:du x.G i G' w')(w:(D.ef k W).Ok):∃u,eW w' a u (D.ef k W) c (aG a4 k ⟨x.q,G',W⟩)/\du n i u w':=by
 have j:=cx v;have l:=d.Ki _ j;have y:ak n i w':=h.af.mono λP _ b=>(l P b).1;have o:∀e∈aG a4 k ⟨x.q,G',W⟩,e=(k,⟨x.q,G',W⟩)\/(e∈a4/\e.1≠k):=λe f=>fh d.each.tidy f;refine⟨λP=>n P\/(i.heap.size<=P/\P<w'.heap.size),⟨h.af.get d.head λb=>(l _ b).2.1 rfl,?_,?_,⟨?_,?_,d.each.tidy.aG _ _⟩,?_,.inl d.Fr,d.pr,.inl d.self,?_,w⟩,y,λP b=>b.imp id (·.1)⟩
 ·have z:(aG a4 k ⟨x.q,G',W⟩).map iy=a4.map iy:=by
   have g:(aG a4 k ⟨x.q,G',W⟩).map iy=aG (a4.map iy) k (ptr x.q):=sY (λx:rJ=>ptr x.q) a4 k _;rw[g];have A:Tidy (a4.map iy):=d.map.tidy;exact yo (Xk.2 ⟨_,j,rfl⟩) A
  rw[z];exact d.map.af h.af λb=>(l _ b).2.2 rfl
 ·have g:(aG a4 k ⟨x.q,G',W⟩).map Av=aG (a4.map Av) k W:=sY (λx:rJ=>x.f) a4 k _
  rw[g,<-d.files];rfl
 ·intro e f
  rcases o e f with rfl|⟨f,s⟩
  ·exact t
  ·exact(d.each.each e f).af h.af λP b=>d.each.apart e f _ j s P b
 ·intro e f p m q P b r
  rcases o e f with rfl|⟨f,s⟩<;>rcases o p m with rfl|⟨m,B⟩
  ·exact q rfl
  ·rcases h.new P b with g|g
   ·exact d.each.apart _ j p m q P g r
   ·have:=(d.each.each p m).aC P r;omega
  ·rcases h.new P r with g|g
   ·exact d.each.apart e f _ j q P b g
   ·have:=(d.each.each e f).aC P b;omega
  ·exact d.each.apart e f p m q P b r
 ·intro e f P b
  rcases o e f with rfl|⟨f,s⟩
  ·have C:=ay d.head
   have E:=d.map.lt;rcases h.new P b with g|g
   ·exact⟨.inl (l P g).1,(l P g).2⟩
   ·exact⟨.inr ⟨g,t.aC P b⟩,oM,oM⟩
  ·exact⟨.inl (d.Ki e f P b).1,(d.Ki e f P b).2⟩
 ·rintro P (b|b)
  ·exact Qk (d.aC P b) h.af.size
  ·exact b.2
def eW.drop{D:al}(d:eW b a f D c a4)(o:bX k c Value.string (bO (a4.map iy) v))(i:ak (·=c) b k)(p:(D.sX v).Ok):eW k a f (D.sX v) c (bO a4 v):=by
 have g:∀P∈bO a4 v,P∈a4:=λP e=>fz e;refine⟨i.get d.head (λh=>d.pr h),?_,?_,⟨λP e=>((d.each.each P (g P e)).af i λj l=>(d.Ki P (g P e) j l).2.2),λP e n q=>d.each.apart P (g P e) n (g n q),d.each.tidy.bO v⟩,λP e=>d.Ki P (g P e),d.Fr,d.pr,d.self,λj l=>Qk (d.aC j l) i.size,p⟩
 ·have h:(bO a4 v).map iy=bO (a4.map iy) v:=ED (λm:rJ=>ptr m.q) a4 v
  rw[h];exact o
 ·have h:(bO a4 v).map Av=bO (a4.map Av) v:=ED (λm:rJ=>m.f) a4 v
  rw[h,<-d.files];rfl
def eW.put{p G':XN}{D:al}(f:eW b a p D c a4){q:Nat}(w:bX k c Value.string (aG (a4.map iy) v (ptr q)))(g:ak (·=c) b k)(r:eK b q G' W)(s:∀d∈a4,d.1≠v->∀P,G' P->¬d.2.G P)(t:∀P,G' P->P≠a/\P≠c)(x:(D.ef v W).Ok):
  eW k a (λP=>p P\/G' P) (D.ef v W) c (aG a4 v ⟨q,G',W⟩):=by
 have i:∀d∈aG a4 v ⟨q,G',W⟩,d=(v,⟨q,G',W⟩)\/(d∈a4/\d.1≠v):=λd e=>fh f.each.tidy e;refine⟨g.get f.head (λh=>f.pr h),?_,?_,⟨?_,?_,f.each.tidy.aG _ _⟩,?_,.inl f.Fr,f.pr,.inl f.self,?_,x⟩
 ·have h:(aG a4 v ⟨q,G',W⟩).map iy=aG (a4.map iy) v (ptr q):=sY (λl:rJ=>ptr l.q) a4 v _
  rw[h];exact w
 ·have h:(aG a4 v ⟨q,G',W⟩).map Av=aG (a4.map Av) v W:=sY (λl:rJ=>l.f) a4 v _
  rw[h,<-f.files];rfl
 ·intro d e
  rcases i d e with rfl|⟨e,m⟩
  ·exact r.af g λP B=>(t P B).2
  ·exact(f.each.each d e).af g λP B=>(f.Ki d e P B).2.2
 ·intro d e n j u P B o
  rcases i d e with rfl|⟨e,m⟩<;>rcases i n j with rfl|⟨j,y⟩
  ·exact u rfl
  ·exact s n j y P B o
  ·exact s d e m P o B
  ·exact f.each.apart d e n j u P B o
 ·intro d e P B
  rcases i d e with rfl|⟨e,m⟩
  ·exact⟨.inr B,t P B⟩
  ·exact⟨.inl (f.Ki d e P B).1,(f.Ki d e P B).2⟩
 ·rintro P (B|B)
  ·exact Qk (f.aC P B) g.size
  ·exact Qk (r.aC P B) g.size
end Go.Proofs.YtblabbpipmodgaaGreatDoor
namespace Go.aw
open Go
def zJ(cs:Array Value):Nat->List Value->Array Value
 |_,[]=>cs
 |P,a::b=>zJ (cs.setIfInBounds P a) (P+1) b
def BN:∀(b:List Value) (cs:Array Value) (a P:Nat),(zJ cs a b)[P]? =if a<=P/\P<a+b.length/\P<cs.size then b[P-a]? else cs[P]?
 |[],cs,a,P=>by rw[Zq bc];rfl
 |v::b,cs,a,P=>by
  unfold zJ;rw[BN b,Array.getElem?_setIfInBounds];simp only[Xq,Array.size_setIfInBounds]
  by_cases c:a+1<=P/\P<a+1+b.length/\P<cs.size
  ·rw[Zx c,Zx oM,show P-a=(P-(a+1))+1 by omega,ZZ]
  ·rw[Zq c]
   by_cases d:a=P
   ·subst d
    by_cases e:a<cs.size
    ·rw[Zx rfl,Zx e,Zx oM,Nat.sub_self,ZJ]
    ·rw[Zx rfl,Zq e,Zq oM,Array.getElem?_eq_none oM]
   ·rw[Zq d,Zq oM]
variable{a1:List Value}{a:Nat}{g:TypeId}{b:World}{x:XU}
def BO{cs:Array Value}(a:a1.length=cs.size):zJ cs 0 a1=a1.toArray:=by
 apply Array.ext_getElem?;intro P;rw[BN]
 by_cases b:P<cs.size
 ·rw[Zx oM];simp
 ·rw[Zq oM,Array.getElem?_eq_none oM]
  simp;omega
def vT{c:Nat}{g:TypeId}{h:XU}:∀(b:List Value) (a:Nat) {P:World} {cs:Array Value},P.heap[c]? =some (.cells cs g (0,0))->a+b.length<=cs.size->
  (∀d,ak (·=c) P d->d.heap.size=P.heap.size->d.heap[c]? =some (.cells (zJ cs a b) g (0,0))->h d)->ia ⟨c,0,none⟩ a b P h
 |[],a,P,cs,e,i,f=>f P (ak.refl _) rfl e
 |v::b,a,P,cs,e,i,f=>by
  unfold ia;rw[Addr.add_lit,Xz];rw[Xq]at i;exact PS.mk e oM λq j k l=>vT b (a+1) l bc λm n o p=>f m (j.then n) (o.trans k) p
def storeAll{cs:Array Value}(c:List Value)(d:b.heap[a]? =some (.cells cs g (0,0)))(e:c.length=cs.size)(f:∀P,ak (·=a) b P->P.heap.size=b.heap.size->P.heap[a]? =some (.cells c.toArray g (0,0))->x P):ia ⟨a,0,none⟩ 0 c b x:=
 vT c 0 d oM λP h i j=>f P h i (by rw[j,BO e])
end Go.aw
namespace Go.aw
open Go
def wrap_u32(P:Nat)(a:P<2 ^ 32):XG .u32 (P:Int)=P:=by
 unfold XG;simp[IntKind.signed,IntKind.bits];omega
def wrap_u8(P:Nat):XG .u8 (P:Int)=((P % 256:Nat):Int):=by
 unfold XG;simp[IntKind.signed,IntKind.bits]
def ofInt32(P:pF):BitVec.ofInt (IntKind.bits .u32) ((P.toNat:Nat):Int)=P:=by
 show BitVec.ofInt 32 ((P.toNat:Nat):Int)=P;rw[BitVec.ofInt_natCast];simp
def Hk(P a:pF):ot .u32 ((P.toNat:Nat):Int) ((a.toNat:Nat):Int)=(((P ^^^ a).toNat:Nat):Int):=by
 unfold ot;rw[ofInt32,ofInt32];exact wrap_u32 _ (P ^^^ a).isLt
def L_(P:pF):ot .u32 (IntKind.max .u32) ((P.toNat:Nat):Int)=(((~~~P).toNat:Nat):Int):=by
 have a:IntKind.max .u32=(((BitVec.allOnes 32).toNat:Nat):Int):=by decide+kernel
 rw[a,Hk,BitVec.allOnes_xor]
def Qh(P:pF):iH .u32 ((P.toNat:Nat):Int) 8=(((P>>>8).toNat:Nat):Int):=by
 unfold iH;have:(min (Int.toNat 8) (IntKind.bits .u32))=8:=dC
 rw[this,BitVec.toNat_ushiftRight,Nat.shiftRight_eq_div_pow];show Int.fdiv _ ((2 ^ 8:Nat):Int)=_;rw[Int.fdiv_eq_ediv_of_nonneg _ (Int.natCast_nonneg _)]
 rfl
def RI(P a:Nat)(b:P<256)(c:a<256):ot .u8 (P:Int) (a:Int)=((P ^^^ a:Nat):Int):=by
 unfold ot;show XG .u8 ((BitVec.ofInt 8 (P:Int) ^^^ BitVec.ofInt 8 (a:Int)).toNat:Int)=_;have d:P ^^^ a<2 ^ 8:=Nat.xor_lt_two_pow oM oM;rw[BitVec.ofInt_natCast,BitVec.ofInt_natCast,BitVec.toNat_xor,BitVec.toNat_ofNat,BitVec.toNat_ofNat,Nat.mod_eq_of_lt oM,Nat.mod_eq_of_lt oM,wrap_u8,Nat.mod_eq_of_lt oM]
def Qi(P:Nat)(b:P<256):Ck .u8 (P:Int) 15=((P % 16:Nat):Int):=by
 unfold Ck;show XG .u8 ((BitVec.ofInt 8 (P:Int)&&&BitVec.ofInt 8 ((15:Nat):Int)).toNat:Int)=_;have a:P&&&15=P % 16:=Nat.and_two_pow_sub_one_eq_mod P 4;rw[BitVec.ofInt_natCast,BitVec.ofInt_natCast,BitVec.toNat_and,BitVec.toNat_ofNat,BitVec.toNat_ofNat,Nat.mod_eq_of_lt oM,Nat.mod_eq_of_lt oM,a,wrap_u8,Nat.mod_eq_of_lt oM]
def RJ(P:Nat):iH .u8 (P:Int) 4=((P/16:Nat):Int):=by
 unfold iH;have:(min (Int.toNat 4) (IntKind.bits .u8))=4:=dC
 rw[this];show Int.fdiv _ ((2 ^ 4:Nat):Int)=_;rw[Int.fdiv_eq_ediv_of_nonneg _ (Int.natCast_nonneg _)]
 rfl
end Go.aw
namespace Go.Proofs.YtblabbpipmodgaaGreatDoor
open Go.aw
structure qu (w:World):Prop where
 lower:∀i,i<16->w.cell? ⟨2,i,none⟩=some (.int .u32 ((iK.getD i 0:Nat):Int))
 upper:∀i,i<16->w.cell? ⟨3,i,none⟩=some (.int .u32 ((iL.getD i 0:Nat):Int))
 lt:2<w.heap.size/\3<w.heap.size
variable{w:List UInt8}{a c:Nat}{f:XN}{d:ZH}{b k:World}
def qu.ah(P:qu b)(c:ai b k):qu k:=
 ⟨λa d=>(c.cell (a:=⟨2,a,none⟩) P.lt.1 id).trans (P.lower a d),λa d=>(c.cell (a:=⟨3,a,none⟩) P.lt.2 id).trans (P.upper a d),Qk P.lt.1 c.size,Qk P.lt.2 c.size⟩
def Ma:∀P,iK.getD P 0<2 ^ 32/\iL.getD P 0<2 ^ 32:=by
 intro P
 by_cases a:P<16
 ·have b:(List.range 16).all (λP=>decide (iK.getD P 0<2 ^ 32/\iL.getD P 0<2 ^ 32))=true:=by decide+kernel
  simpa using ZY.1 b P (List.mem_range.2 a)
 ·rw[QQ,QQ,Q7 (by show 16<=P;omega),Q7 (by show 16<=P;omega)]
  decide
def Mb{s:pF}(p:qu b)(j:Row fF 1 b f d a w):
  ZG 316 #[.int .u32 ((s.toNat:Nat):Int),.slice d a c] b (Ok λq k=>q= .int .u32 (((IY s w).toNat:Nat):Int)/\bG b k):=by
 have H:=j.len;have r:=j.dE;unfold aN at r;refine GZ ⟨λn P i k=>∃g:Nat,i=g/\g<=a/\n=a-g/\bG b k/\P=((((w.take g).foldl iY (~~~s)).toNat:Nat):Int),⟨_,0,rfl,Qj _,rfl,bG.refl b,by rw[L_];rfl⟩,?_⟩;rintro n P i I J ⟨g,rfl,K,rfl,h,rfl⟩;generalize l:(w.take g).foldl iY (~~~s)=P;refine an.dec (λt=>?_) (λt=>Ok.mk ⟨?_,h⟩)
 ·obtain⟨u,m,e,rfl,v,_,x⟩:=(j.ah h.af).lb (i:=g) oM
  have o:=p.ah h.af;have L:=e.toNat_lt;have y:XG .u8 ((P.toNat:Nat):Int)=((P.toNat % 256:Nat):Int):=wrap_u8 _;have M:e.toNat ^^^ P.toNat % 256<2 ^ 8:=Nat.xor_lt_two_pow oM oM;have z:ot .u8 ((e.toNat:Nat):Int) (XG .u8 ((P.toNat:Nat):Int))=((e.toNat ^^^ P.toNat % 256:Nat):Int):=by rw[y,RI _ _ oM oM]
  refine⟨u,m,rfl,oM,oM,_,x,?_⟩;rw[z,Qi _ oM,RJ];refine⟨2,0,rfl,oM,oM,((iK.getD ((e.toNat ^^^ P.toNat % 256) % 16) 0:Nat):Int),?_,3,0,rfl,oM,oM,((iL.getD ((e.toNat ^^^ P.toNat % 256)/16) 0:Nat):Int),?_,λN A=>⟨_,oM,g+1,aq oM,oM,rfl,h.then A,?_⟩⟩
  ·rw[Xz];exact o.lower _ oM
  ·rw[Xz];exact o.upper _ oM
  ·have B:=(Ma ((e.toNat ^^^ P.toNat % 256) % 16)).1
   have C:=(Ma ((e.toNat ^^^ P.toNat % 256)/16)).2;rw[Qh];have E:((iK.getD ((e.toNat ^^^ P.toNat % 256) % 16) 0:Nat):Int)=(((BitVec.ofNat 32 (iK.getD ((e.toNat ^^^ P.toNat % 256) % 16) 0)).toNat:Nat):Int):=by rw[BitVec.toNat_ofNat,Nat.mod_eq_of_lt B]
   have F:((iL.getD ((e.toNat ^^^ P.toNat % 256)/16) 0:Nat):Int)=(((BitVec.ofNat 32 (iL.getD ((e.toNat ^^^ P.toNat % 256)/16) 0)).toNat:Nat):Int):=by rw[BitVec.toNat_ofNat,Nat.mod_eq_of_lt C]
   rw[E,F,Hk,Hk,<-Kd,Qw,v,List.foldl_append,l]
   rfl
 ·rw[Qz oM]at l
  rw[L_,<-l];rfl
def IZ(P:qu b)(e:Row fF 1 b f d a w):
  ZG 284 #[.slice d a c] b (Ok λg h=>g= .int .u32 (((Ke w).toNat:Nat):Int)/\bG b h):=by
 refine Kc (PC.ok (Mb (s:=0#32) P e) ?_);rintro _ j ⟨rfl,i⟩;exact⟨_,rfl,Ok.mk ⟨rfl,i⟩⟩
end Go.Proofs.YtblabbpipmodgaaGreatDoor
namespace Go.aw
open Go
def wrap_u32'(P:Int):XG .u32 P=P % 4294967296:=by
 unfold XG;simp[IntKind.signed,IntKind.bits]
def HA{P d:Nat}(c:P<16777216)(e:d<256):LZ .u32 (Hx .u32 (P:Int) 8) (XG .u32 (d:Int))=((P*256+d:Nat):Int):=by
 have a:Hx .u32 (P:Int) 8=((P*256:Nat):Int):=by
  unfold Hx;have:min (Int.toNat 8) (IntKind.bits .u32)=8:=dC
  rw[this,wrap_u32'];have:((2:Int) ^ 8)=256:=dC
  rw[this];omega
 rw[a,wrap_u32 _ oM];unfold LZ;show XG .u32 ((BitVec.ofInt 32 ((P*256:Nat):Int)|||BitVec.ofInt 32 (d:Int)).toNat:Int)=_;have b:P*256|||d=P*256+d:=by
  have:=(Nat.shiftLeft_add_eq_or_of_lt (a:=P) (i:=8) (b:=d) oM).symm
  rwa [Nat.shiftLeft_eq]at this
 rw[BitVec.ofInt_natCast,BitVec.ofInt_natCast,BitVec.toNat_or,BitVec.toNat_ofNat,BitVec.toNat_ofNat,Nat.mod_eq_of_lt oM,Nat.mod_eq_of_lt oM,b,wrap_u32 _ oM]
def iA(P:Nat):XG .u8 (P:Int)=((UInt8.ofNat P).toNat:Int):=by
 rw[wrap_u8,ZK]
def JS{k:IntKind}{u m:Nat}(P:m<=k.bits):iH k (u:Int) (m:Int)=((u/2 ^ m:Nat):Int):=by
 unfold iH;rw[Qx,X2 P];show Int.fdiv _ ((2:Int) ^ m)=_;rw[Int.fdiv_eq_ediv_of_nonneg _ (Int.pow_nonneg dC)];simp
variable{a c:Nat}{d:ZH}{h:Program}{C g p:TypeId}{m s:XR}{b:World}
def Kn{c tn j P:TypeId}(k:il h c P 1 1)(n:h.underlying tn=some (.int .i64))(o:0<a)(p:a<=aN)(d:∀e f,aO fF P (·=b.heap.size) e (XM b.heap.size) 0 f []->a<=f->ai b e->m (.slice (XM b.heap.size) a f) e):
  aD h (Builtin.append_ #[c,tn] j #[.slice none 0 0,XH (a:Int)]) b m s:=by
 obtain⟨q,g,r,t,A,u,v⟩:=k.info;unfold aN at p;have w:=Lib.run_append_nil_zeros (P:=h) b c tn j P q g .i64 .i64 k.under n r t a o oM oM (by rw[u];omega);have x:=grownCap_ge b a 0 P;refine aD.mk w (d _ _ ?_ x ?_)
 ·have l:=heap_alloc_new b.drew (.cells (Builtin.zeroCells g.cells a++Builtin.zeroCells g.cells (grownCap b a 0 P-a)) P)
  refine⟨⟨[],λ_=>False,⟨⟨sM,.inr ⟨b.heap.size,grownCap b a 0 P,_,rfl,Qj _,l,Qj _,grownCap_le_maxLen b a 0 P (by unfold maxLen;omega),?_,sM⟩⟩⟩,rfl,λ_ d=>d.elim⟩,λy i=>by simpa[aE]using i.symm,λy i=>by rw[i];exact ay l⟩;rw[Array.size_append,size_zeroCells,size_zeroCells,v];show a*1+(grownCap b a 0 P-a)*1=grownCap b a 0 P*1;omega
 ·have z:ai b (b.drewN 1):=ak.drewN b 1
  exact z.then (ak.alloc _ _)
def PJ(P:h.underlying g=some (.slice p))(e:m (XH (c:Int)) b):aD h (Builtin.cap_ #[g] C #[.slice d a c]) b m s:=by
 refine aD.mk (v:=XH (c:Int)) ?_ e;simp[Builtin.cap_,run_underlying P,goInt]
end Go.aw
namespace Go.Proofs.YtblabbpipmodgaaGreatDoor
section
open Go.aw
variable{c1 w:List UInt8}{J a c i q:Nat}{H:Nat×Nat}{d r:ZH}{b:World}
def tk{bs:List UInt8}{D:XN}(f:Row fF 1 b D d a bs)(q:a<=4):
  ZG 299 #[.slice d a c] b (Ok λh P=>h= .int .u32 (fL bs:Int)/\b=P):=by
 have r:=f.len;refine xW ⟨λm g i P=>∃j:Nat,i=j/\j<=a/\m=a-j/\g=(fL (bs.take j):Int)/\b=P,⟨_,0,rfl,Qj _,rfl,rfl,rfl⟩,?_⟩;rintro m g i _ s ⟨j,rfl,t,rfl,rfl,rfl⟩;refine an.dec (λk=>?_) (λk=>?_)
 ·obtain⟨l,e,n,rfl,o,_,p⟩:=f.lb (i:=j) oM
  have u:=mB bs (j:=j) (m:=3) oM;refine⟨l,e,rfl,oM,oM,_,p,_,oM,j+1,aq oM,oM,rfl,?_,rfl⟩;rw[HA (by
            have:(256:Nat) ^ 3=16777216:=dC
            omega) n.toNat_lt,Bi o]
 ·rw[Qz oM]
  exact Ok.mk ⟨rfl,rfl⟩
def CI{m:Nat}(g:0<m)(d:m<=aN):
  ZG 315 #[.slice none 0 0,XH (m:Int)] b (Ok λh P=>∃a e,h= .slice (XM a) 0 e/\aO fF 5 (·=a) P (XM a) 0 e []/\ai b P/\b.heap.size<=a):=by
 have c:=d;unfold aN at c;refine kD ⟨λP=>P=b,an.dec (λf=>oM) (λ_=>rfl),?_⟩;rintro _ n rfl;refine PJ sk.under ⟨_,rfl,?_⟩;have i:XG .i64 ((m:Int)-XG .i64 (((0:Nat):Int)-((0:Nat):Int)))=(m:Int):=by
  rw[wrap_i64 (x:=((0:Nat):Int)-((0:Nat):Int)) bb,wrap_i64 bb];omega
 rw[i];refine an.dec (λf=>?_) (λf=>oM);refine PJ sk.under ⟨_,rfl,oM,oM,?_⟩;refine Kn sk kR g d λo j k p l=>⟨_,_,_,rfl,oM,oM,Ok.mk ⟨_,j,rfl,k,l,Q4 _⟩⟩
def yu{D:XN}(B:b.heap[a]? =some (.cells #[.slice d c q,.slice r i J] 197 H))(R:Row fF 1 b D d c w)(S:Row fF 1 b D r i c1)(C:∀P,D P->P<b.heap.size)(h0:0<c)(e:c+i<=aN):
  ZG 283 #[.slice (XM a) 2 2] b (Ok (nX fF 5 b (w++c1))):=by
 have l1:=R.len;have l2:=S.len;have E:=e;unfold aN at E;refine ju ⟨λg x h f=>b=f/\((g=2/\x=0/\h=0)\/(g=1/\x=(c:Int)/\h=1)\/(g=0/\x=((c+i:Nat):Int)/\h=2)),⟨2,rfl,.inl ⟨rfl,rfl,rfl⟩⟩,?_⟩;rintro g x h _ w1 ⟨rfl,F⟩;rcases F with⟨rfl,rfl,rfl⟩|⟨rfl,rfl,rfl⟩|⟨rfl,rfl,rfl⟩
 ·refine an.tt dC ⟨a,0,rfl,oM,oM,d,c,q,ae B rfl,?_⟩
  rw[wrap_i64 (x:=0+((c:Nat):Int)) bb];exact an.dec (λT=>oM) (λ_=>⟨1,oM,rfl,.inr (.inl ⟨rfl,oM,rfl⟩)⟩)
 ·refine an.tt dC ⟨a,0,rfl,oM,oM,r,i,J,ae B rfl,?_⟩
  rw[wrap_i64 (x:=((c:Nat):Int)+((i:Nat):Int)) bb];exact an.dec (λT=>oM) (λ_=>⟨0,oM,rfl,.inr (.inr ⟨rfl,oM,rfl⟩)⟩)
 refine an.ff dC (PC.ok (CI (m:=c+i) oM e) ?_);rintro _ w2 ⟨U,cq,rfl,Z,k2,hq⟩;have a6:∀P,D P->P≠U:=λP e I=>by have:=C P e;omega
 refine⟨_,_,_,rfl,λg o k p h f=>ai b f/\∃l,(∀P,l P->b.heap.size<=P)/\((g=2/\h=0/\aO fF 5 l f o k p [])\/(g=1/\h=1/\aO fF 5 l f o k p w)\/(g=0/\h=2/\aO fF 5 l f o k p (w++c1))),
  ⟨2,k2,(·=U),λP I=>oM,.inl ⟨rfl,rfl,Z⟩⟩,?_⟩
 rintro g o k p h _ V ⟨s,l,y,F⟩;have W:=s.get B id;have ap:∀{z A:List UInt8} {K u X} {L Y:XR},aO fF 5 l V o k p z->Row fF 1 b D K u A->z.length+A.length<=140737488355328->
   (∀m t f n,aO fF 5 n f m (k+u) t (z++A)->ai b f->(∀P,n P->b.heap.size<=P)->L (.slice m (k+u) t) f)->
   aD XP (Builtin.append_ #[197,197] 197 #[.slice o k p,.slice K u X]) V L Y:=by
  intro z A K u X L Y j hr a5 M;refine wY j sk (hr.ah s) (λP e=>⟨by have:=C P e;have:=s.size;omega,λI=>?_⟩) ba (by unfold maxLen;omega) λm t N n v a3 _ a4=>?_
  ·have:=C P e;have:=y P (j.self P I);omega
  ·exact M m t N (λP=>aE m=some P) v.alone (s.new a3 λP e=>.inr (y P (j.self P e))) λP e=>(a4 P e).elim (y P) λT=>by have:=s.size;omega
 rcases F with⟨rfl,rfl,j⟩|⟨rfl,rfl,j⟩|⟨rfl,rfl,j⟩
 ·refine an.tt dC ⟨a,0,rfl,oM,oM,d,c,q,ae W rfl,?_⟩
  exact ap j R bc λm t N n v O Q=>⟨_,_,_,rfl,1,oM,O,n,Q,.inr (.inl ⟨rfl,rfl,v⟩)⟩
 ·refine an.tt dC ⟨a,0,rfl,oM,oM,r,i,J,ae W rfl,?_⟩
  exact ap j S oM λm t N n v O Q=>⟨_,_,_,rfl,0,oM,O,n,Q,.inr (.inr ⟨rfl,rfl,v⟩)⟩
 ·exact an.ff dC (Ok.mk ⟨_,_,_,l,rfl,j,s,y⟩)
end
section
open Go.aw
def fW:jW:=⟨[],[],[],[],[]⟩
variable{c2 v:ByteArray}{z:XT}{a c:Nat}{d:ZH}{b:World}
def fX(P:an (decide ((((ByteArray.size v:Nat):Int):Int)>=((ByteArray.size c2:Nat):Int))) (((0:Int)<=((ByteArray.size c2:Nat):Int)/\(((ByteArray.size c2:Nat):Int):Int)<=((ByteArray.size v:Nat):Int)/\rt z ((.bool ((ByteArray.toList (ByteArray.extract v 0 (Int.toNat ((ByteArray.size c2:Nat):Int))))==(ByteArray.toList c2)))) b)) (rt z ((.bool false)) b)):ZG 328 #[.string v,.string c2] b z:=DC fW Tryz.func328 rfl P
def fU:jW:=⟨[],[],[],[],[]⟩
def fV(a:PC_ 328 #[.string v,.string c2] b (kB λc P=>an (!c) (rt z ((.tuple #[.string v,.bool false])) P) (((0:Int)<=((ByteArray.size c2:Nat):Int)/\(((ByteArray.size c2:Nat):Int):Int)<=((ByteArray.size v:Nat):Int)/\rt z ((.tuple #[.string (ByteArray.extract v (Int.toNat ((ByteArray.size c2:Nat):Int)) (ByteArray.size v)),.bool true])) P))) (pE z)):ZG 297 #[.string v,.string c2] b z:=DC fU Tryz.func297 rfl a
def yd:jW:=⟨[],[],[],[],[(11,⟨[0,1,0,4,10,18,48,64,192,320,576,1088],[4095,4094,4095,4091,4087,4077,4063,4031,3903,3775,3519,3007],[0,2,0,0,2,0,0,0,0,1,0,0]⟩)]⟩
def ye(o:an (decide ((a:Int)<4)) (rt z ((.tuple #[.ii 0,.ii 4])) b) (((0:Int)<=1/\(1:Int)<=4/\(4:Int)<=(c:Int)/\PC_ 299 #[.slice (bY d (Int.toNat 1) c 1) (Int.toNat 4-Int.toNat 1) (c-Int.toNat 1)] b (λp e=>∃P,p= .int .u32 P/\(ix_ d 0 a λq r=>(∃g,e.cell? (ad q (r+Int.toNat 0))=some (.int .u8 g)/\an (g==0) (rt z ((.tuple #[.ii 0,.ii 2])) e) (an (decide (((XG .i64 P):Int)>65536)) (rt z ((.tuple #[.ii 0,.ii 5])) e) (an (decide ((a:Int)<(XG .i64 ((XG .i64 (4+(XG .i64 P)))+5)))) (rt z ((.tuple #[.ii 0,.ii 4])) e) (((0:Int)<=(XG .i64 (4+(XG .i64 P)))/\((XG .i64 (4+(XG .i64 P))):Int)<=(c:Int)/\((0:Int)<=(XG .i64 (4+(XG .i64 P)))/\((XG .i64 (4+(XG .i64 P))):Int)<=(XG .i64 ((XG .i64 (4+(XG .i64 P)))+5))/\((XG .i64 ((XG .i64 (4+(XG .i64 P)))+5)):Int)<=(c:Int)/\(∀h,bG e h->(∀i,bG h i->((0:Int)<=4/\(4:Int)<=(((c-Int.toNat (XG .i64 (4+(XG .i64 P)))):Nat):Int)/\PC_ 284 #[.slice d (Int.toNat (XG .i64 (4+(XG .i64 P)))) c] i (λs t=>∃j,s= .int .u32 j/\PC_ 299 #[.slice (bY d (Int.toNat (XG .i64 (4+(XG .i64 P)))) c 1) (Int.toNat 4) (c-Int.toNat (XG .i64 (4+(XG .i64 P))))] t (λu f=>∃k,u= .int .u32 k/\an (j !=k) (rt z ((.tuple #[.ii 0,.ii 6])) f) ((∃l m,(bY d (Int.toNat (XG .i64 (4+(XG .i64 P)))) c 1)=some ⟨l,m,none⟩/\(0:Int)<=4/\4<((Int.toNat (XG .i64 ((XG .i64 (4+(XG .i64 P)))+5))-Int.toNat (XG .i64 (4+(XG .i64 P))):Nat):Int)/\(∃n,f.cell? (ad l (m+Int.toNat 4))=some (.int .u8 n)/\an (n !=10) (rt z ((.tuple #[.ii 0,.ii 6])) f) (rt z ((.tuple #[.ii (XG .i64 P),.ii 0])) f))))) (pZ z)) (pZ z)))))))))))) (pE z)))):ZG 251 #[.slice d a c] b z:=DC yd Tryz.func251 rfl o
end
end Go.Proofs.YtblabbpipmodgaaGreatDoor
namespace Go.aw
open Go
def yv(P:List UInt8)(a:Nat)(b:(P.getD 1 0).toNat*65536+(P.getD 2 0).toNat*256+(P.getD 3 0).toNat=a):
  bj P=if P.length<4 then⟨0,[],0,4⟩else if P.getD 0 0=0 then⟨0,[],0,2⟩else if 65536<a then⟨0,[],0,5⟩else if P.length<a+9 then⟨0,[],0,4⟩else
   if P.take (a+9)=fG (P.getD 0 0).toNat ((P.drop 4).take a)then⟨(P.getD 0 0).toNat,(P.drop 4).take a,a+9,0⟩else⟨0,[],0,6⟩:=by
 unfold bj;rw[b]
variable{w:List UInt8}
def Ms(P:(bj w).no=0):(bj w).kind=((w.getD 0 0).toNat:Int)/\(bj w).body=(w.drop 4).take ((bj w).n-9)/\4<=w.length:=by
 rw[yv w _ rfl]at P⊢;split at P
 ·cases P
 rename_i a;rw[Zq a];split at P
 ·cases P
 rename_i b;rw[Zq b];split at P
 ·cases P
 rename_i c;rw[Zq c];split at P
 ·cases P
 rename_i d;rw[Zq d];split at P
 ·rename_i e
  rw[Zx e];exact⟨rfl,sM,oM⟩
 ·cases P
end Go.aw
namespace Go.Proofs.YtblabbpipmodgaaGreatDoor
section
open Go.aw
def yw(P:List UInt8):List Value:=P.map λa=>Value.int .u8 (a.toNat:Int)
variable{e:Int}{w:List UInt8}{a c:Nat}{d:ZH}{b:World}
def Bj{f:Nat×Nat}(P:List UInt8)(c:b.heap[a]? =some (.cells (yw P).toArray 5 f))(e:P.length<=1000):Row fF 1 b (·=a) (XM a) P.length P:=
 Row.lit (enc:=λd:UInt8=>Value.int .u8 (d.toNat:Int)) c P (by simp[yw]) (λ_ _=>trivial) ba
def Bk{D:XN}(A:qu b)(f:Row fF 1 b D d a w)(B:∀P,D P->P<b.heap.size):
  ZG 222 #[.agg #[XH e,.slice d a c]] b (Ok λC E=>∃u,C= .tuple #[u,XH (iU e w).2]/\nX fF 5 b (iU e w).1 u E):=by
 have F:=f.len;refine Er (PA.mk λi k s1 l=>⟨d,a,c,ae l rfl,_,ae l rfl,an.dec (λh=>?_) (λh1=>⟨_,ae l rfl,an.dec (λh=>?_) (λh2=>an.dec (λh=>?_) (λh3=>?_))⟩)⟩)
 ·rw[show iU e w=([],2) by unfold iU;rw[Zx oM]]
  exact Ok.mk ⟨_,rfl,none,0,0,λ_=>False,rfl,aO.nil i,k,λ_ h=>h.elim⟩
 ·rw[show iU e w=([],2) by unfold iU;rw[Zx oM]]
  exact Ok.mk ⟨_,rfl,none,0,0,λ_=>False,rfl,aO.nil i,k,λ_ h=>h.elim⟩
 ·rw[show iU e w=([],5) by unfold iU;rw[Zq oM,Zx oM]]
  exact Ok.mk ⟨_,rfl,none,0,0,λ_=>False,rfl,aO.nil i,k,λ_ h=>h.elim⟩
 rw[show iU e w=(fG e w,0) by unfold iU;rw[Zq oM,Zq oM]];refine⟨_,ae l rfl,PA.mk λH m s2 I=>⟨d,a,c,ae (m.get l id) rfl,PA.mk λo n s3 J=>?_⟩⟩;have K:iH .i64 ((a:Nat):Int) 16=((a/65536:Nat):Int):=JS (k:=.i64) (u:=a) (m:=16) dC;have L:iH .i64 ((a:Nat):Int) 8=((a/256:Nat):Int):=JS (k:=.i64) (u:=a) (m:=8) dC;have M:e=((e.toNat:Nat):Int):=oM
 have N:H.heap[i.heap.size]? =some (.cells (yw [UInt8.ofNat e.toNat,UInt8.ofNat (w.length/65536),UInt8.ofNat (w.length/256),UInt8.ofNat w.length]).toArray 5 (0,0)):=by
  rw[I,K,L,M,iA,iA,iA,iA,F];simp[yw]
 have O:Row fF 1 o (λP=>D P\/P=i.heap.size) (XM i.heap.size) 4 [UInt8.ofNat e.toNat,UInt8.ofNat (w.length/65536),UInt8.ofNat (w.length/256),UInt8.ofNat w.length]:=
  (Bj (f:=(0,0)) [UInt8.ofNat e.toNat,UInt8.ofNat (w.length/65536),UInt8.ofNat (w.length/256),UInt8.ofNat w.length] (n.get N id) sM).mono λP f=>.inr f
 have Q:Row fF 1 o (λP=>D P\/P=i.heap.size) d a w:=(f.ah ((k.then m).then n)).mono λP f=>.inl f;refine PC.ok (yu J O Q (λP f=>f.elim (λh=>by have:=B P h;omega) λh=>oM) oM ba) ?_;rintro _ p ⟨a4,n4,c4,F4,rfl,j,R,v⟩;have S:[UInt8.ofNat e.toNat,UInt8.ofNat (w.length/65536),UInt8.ofNat (w.length/256),UInt8.ofNat w.length]++w=kL e w:=rfl;rw[S]at j;have a8:=j.len dC;have q:(kL e w).length=4+w.length:=by simp[kL];omega
 have r:ai b p:=((k.then m).then n).then R;refine⟨_,_,_,rfl,PC.ok (IZ (A.ah r) (j.row (bytes:=1) dC (by rw[q];unfold aN;omega))) ?_⟩;rintro _ s ⟨rfl,T⟩;have t:ai p s:=T.af;refine⟨_,rfl,?_⟩;generalize U:(Ke (kL e w)).toNat=g;have V:iH .u32 (g:Int) 24=((g/16777216:Nat):Int):=JS (k:=.u32) (u:=g) (m:=24) dC;have W:iH .u32 (g:Int) 16=((g/65536:Nat):Int):=JS (k:=.u32) (u:=g) (m:=16) dC;have X:iH .u32 (g:Int) 8=((g/256:Nat):Int):=JS (k:=.u32) (u:=g) (m:=8) dC;refine PA.mk λY x s6 Z=>?_;have a1:Y.heap[s.heap.size]? =some (.cells (yw (Mt g++[10])).toArray 5 (0,0)):=by rw[Z,V,W,X,iA,iA,iA,iA];rfl
 have a2:=(j.ah t).ah x;have a9:p.heap.size<=s.heap.size:=t.size;refine jx a2 sk (Bj (Mt g++[10]) a1 (by simp[Mt])) (λP y=>⟨oM,λe2=>by have:=j.aC P (j.self P e2);omega⟩) (by rw[q];unfold aN;simp[Mt];omega) (by rw[q];unfold maxLen;simp[Mt];omega) λz c7 w7 F7 a3 a5 _ a6=>?_;refine⟨_,_,_,rfl,Ok.mk ⟨_,rfl,z,_,c7,λP=>aE z=some P,rfl,?_,?_,?_⟩⟩
 ·have h7:=a3.alone
  have y:fG e w=kL e w++(Mt g++[10]):=by unfold fG;rw[U,XQ]
  rw[y];exact h7
 ·exact((r.then t).then x).new a5 λP f=>.inr (by have:=v P (j.self P f);have:=k.size;have:=m.size;have:=n.size;omega)
 ·intro P f
  have b0:b.heap.size<=o.heap.size:=oM
  rcases a6 P f with h|h
  ·have:=v P h;omega
  ·have:=r.size;omega
def EK{D:XN}(C:qu b)(g:Row fF 1 b D d a w)(q:a<=c):
  ZG 251 #[.slice d a c] b (Ok λE F=>E= .tuple #[XH (((bj w).n-9:Nat):Int),XH (bj w).no]/\bG b F):=by
 have W:=g.len;have H:=g.dE;unfold aN at H;generalize r:(w.getD 1 0).toNat*65536+(w.getD 2 0).toNat*256+(w.getD 3 0).toNat=P;have e:=yv w P r;refine ye (an.dec (λl=>?_) (λX=>?_))
 ·rw[e,Zx oM]
  exact Ok.mk ⟨rfl,bG.refl b⟩
 rw[Zq (show¬w.length<4 by omega)]at e;refine⟨oM,oM,oM,PC.ok (tk (bs:=(w.take 4).drop 1) (g.part (lo:=1) (hi:=4) (cap:=c) oM oM q) dC) ?_⟩;rintro _ Y ⟨rfl,rfl⟩;have I:fL ((w.take 4).drop 1)=P:=by
  rw[PK oM];show fL [w.getD 1 0,w.getD 2 0,w.getD 3 0]=P;simp only[fL,List.foldl];omega
 have Z:P<16777216:=by
  have h1:=(w.getD 1 0).toNat_lt;have h2:=(w.getD 2 0).toNat_lt;have h3:=(w.getD 3 0).toNat_lt;omega
 rw[I];obtain⟨j,f,s,rfl,J,_,h⟩:=g.lb (i:=0) oM;have i:w.getD 0 0=s:=by rw[QQ,J];rfl
 have K:XG .i64 (P:Int)=(P:Int):=wrap_i64 bb;have L:XG .i64 (4+(P:Int))=((4+P:Nat):Int):=by rw[wrap_i64 bb];omega
 have M:XG .i64 (((4+P:Nat):Int)+5)=((4+P+5:Nat):Int):=by rw[wrap_i64 bb];omega
 refine⟨_,rfl,j,f,rfl,oM,oM,_,h,?_⟩;rw[K,L,M];refine an.eB (λl=>?_) (λm=>an.dec (λl=>?_) (λa8=>an.dec (λl=>?_) (λa7=>?_)))
 ·rw[e,i,Zx (UInt8.toNat_inj.1 (by
                        have:s.toNat=0:=oM
                        rw[this];rfl))]
  exact Ok.mk ⟨rfl,bG.refl b⟩
 ·rw[e,i,Zq (by rintro rfl;exact m rfl),Zx oM]
  exact Ok.mk ⟨rfl,bG.refl b⟩
 ·rw[e,i,Zq (by rintro rfl;exact m rfl),Zq oM,Zx oM]
  exact Ok.mk ⟨rfl,bG.refl b⟩
 rw[i,Zq (by rintro rfl;exact m rfl),Zq (show¬65536<P by omega),Zq (show¬w.length<P+9 by omega)]at e;have k:=QE (b:=w) (n:=P) oM r oM;rw[i]at k;refine⟨oM,oM,oM,oM,oM,λw8 t N u=>⟨oM,oM,?_⟩⟩;have v:ai b N:=(t.then u).af;have x:=g.ah v;refine PC.ok (IZ (C.ah v) (x.take (m:=4+P) oM)) ?_;rintro _ O ⟨rfl,y⟩;have z:=x.ah y.af;have A:=z.part (lo:=4+P) (hi:=4+P+4) (cap:=c) oM oM q;rw[show 4+P+4-(4+P)=4 by omega]at A;refine⟨_,rfl,PC.ok (tk A dC) ?_⟩;rintro _ a9 ⟨rfl,rfl⟩;have Q:(w.take (4+P+4)).drop (4+P)=(w.drop (4+P)).take 4:=by rw[List.drop_take];congr 1;omega
 rw[Q];have n:bG b O:=(t.then u).then y;refine⟨_,rfl,an.dR (λo=>?_) (λb0=>?_)⟩
 ·rw[e,Zq (λh=>o (by rw[(k.1 h).1]))]
  exact Ok.mk ⟨rfl,n⟩
 obtain⟨b7,o8,p,R,S,_,T⟩:=z.lb (i:=8+P) oM
 cases R
 have B:w.getD (8+P) 0=p:=by rw[QQ,S];rfl
 have U:bY (some ⟨j,f,none⟩) (4+P) c 1=some ⟨j,f+(4+P),none⟩:=by
  unfold bY;rw[Zq oM];simp[Addr.add_lit]
 refine⟨j,f+(4+P),U,oM,oM,_,by rw[show f+(4+P)+Int.toNat 4=f+(8+P) by show f+(4+P)+4=_;omega];exact T,an.dR (λo=>?_) (λhe=>?_)⟩
 ·rw[e,Zq (λh=>o (by rw[<-B,(k.1 h).2];rfl))]
  exact Ok.mk ⟨rfl,n⟩
 ·have V:p=10:=UInt8.toNat_inj.1 (by show p.toNat=10;omega)
  rw[e,Zx (k.2 ⟨oM,B.trans V⟩)];exact Ok.mk ⟨sM,n⟩
def Bl{D:XN}(R:qu b)(e:Row fF 1 b D d a w)(s:a<=c)(t:∀P,D P->P<b.heap.size):
  ZG 182 #[.slice d a c] b (Ok λS u=>∃v x y z,S= .tuple #[.agg #[XH (bj w).kind,.slice v x y],XH ((bj w).n:Int),XH (bj w).no]/\
   aO fF 5 z u v x y (bj w).body/\ai b u/\∀P,z P->b.heap.size<=P):=by
 have hn:=e.len;have T:=e.dE;unfold aN at T;refine En (PA.mk λA i s1 U=>PC.ok (EK (R.ah i) (e.ah i) s) ?_);rintro _ B ⟨rfl,V⟩;have j:ai A B:=V.af;have C:=j.get U id;refine⟨_,_,rfl,an.dR (λk=>?_) (λl=>?_)⟩
 ·have m:(bj w).kind=0/\(bj w).body=[]/\(bj w).n=0:=by
   rw[yv w _ rfl]at k⊢
   repeat' split
   all_goals first|exact⟨rfl,rfl,rfl⟩|skip
   rename_i W X Y Z h5;rw[Zq W,Zq X,Zq Y,Zq Z,Zx h5]at k;exact Zz rfl k
  rw[m.1,m.2.1,m.2.2];refine storeAll [XH 0,.slice none 0 0] C rfl λg h s3 E=>⟨0,none,0,0,ae E rfl,ae E rfl,Ok.mk ⟨none,0,0,λ_=>False,rfl,aO.nil g,?_,λ_ n=>n.elim⟩⟩
  exact(i.then j).new h λP e=>.inr oM
 obtain⟨a0,h9,a1⟩:=tl l;generalize a2:(bj w).n=f at a0 h9 a1;obtain⟨a3,F,b1⟩:=Ms l;rw[a2]at F;have H:(bj w).kind=((w.getD 0 0).toNat:Int)/\(bj w).body=(w.drop 4).take (f-9):=⟨a3,F⟩
 intro g a5;have h:ai B g:=a5.af;have o:ai b g:=(i.then j).then h;have p:=e.ah o;obtain⟨I,o6,J,rfl,hx,_,hc⟩:=p.lb (i:=0) oM;obtain⟨b2,b3,x',es,a6,_,a7,_⟩:=p.vB (i:=0) oM
 cases a6
 have a8:w.getD 0 0=J:=by rw[QQ,hx];rfl
 have K:XG .i64 (4+((f-9:Nat):Int))=((4+(f-9):Nat):Int):=by rw[wrap_i64 bb];omega
 have e9:XG .i64 (((4+(f-9):Nat):Int)+5)=(f:Int):=by rw[wrap_i64 bb];omega
 refine⟨λP=>b.heap.size<=P,I,o6,rfl,oM,oM,by have:=t I a7;omega,_,hc,?_⟩;refine⟨oM,oM,oM,?_⟩;have a4:=p.part (lo:=4) (hi:=4+(f-9)) (cap:=c) oM oM s;refine PC.ok (by rw[K];exact jw a4 (λP n=>by have:=t P n;have:=o.size;omega)) ?_;rintro _ w4 ⟨L,M,N,F4,rfl,a9,q,O⟩;have b4:A.heap.size<=g.heap.size:=(j.then h).size;have g4:=q.get (h.get C id) id;refine⟨_,_,_,rfl,q.af,?_⟩;refine storeAll [XH (XG .i64 (J.toNat:Int)),.slice L M N] g4 rfl λw5 r s5 Q=>⟨r.mono λP _ b0=>oM,_,_,_,_,ae Q rfl,ae Q rfl,Ok.mk ⟨L,M,N,F4,?_,?_,?_,?_⟩⟩
 ·rw[HB,H.1,a8,l,K,e9]
 ·rw[H.2,<-show(w.take (4+(f-9))).drop 4=(w.drop 4).take (f-9) by rw[List.drop_take];congr 1;omega]
  exact a9.af r λP e b0=>by have:=O P e;omega
 ·exact(o.then q).new r λP e=>.inr oM
 ·intro P e;have:=O P e;omega
end
section
open Go.aw
variable{U n:Array Value}{a8:FrameMode}{y:FuncId}{e:Int}{a9 t:List Int}{a2:List PanicEntry->XU}{w:List UInt8}{K:List aj}{a c i:Nat}{f:XN}{Q X:Operand}{d r:ZH}{h:Program}{b:World}{x:XU}{l:aj}{Z:kJ}
def Nd(l:eG b a f Z):
  ZG 254 #[XL a,XH e] b (Re b a f Z (if Z.num.1=0 then(if Z.num.2.1<0\/e<Z.num.2.1 then 3 else 0)else Z.num.1) (λj m=>j= XH Z.num.2.1) Z.num.2.2):=by
 refine ql (PC.red (BG l) ?_ ?_)
 rotate_left
 ·intro d k g h i
  rw[Zq d];exact⟨.inr ⟨d,rfl,g⟩,h,i⟩
 rintro d _ k g rfl h i;rw[Zx d];have c:Z.num.2.1<0\/e<Z.num.2.1->Re b a f Z (if Z.num.2.1<0\/e<Z.num.2.1 then 3 else 0) (λj m=>j= XH Z.num.2.1) Z.num.2.2 (.panicked (PW 3)) k:=λP=>by
  rw[Zx P];exact⟨.inr ⟨dC,rfl,_,g⟩,h,i⟩
 refine⟨_,rfl,an.dec (λn=>fk (λP=>⟨rfl,?_⟩) (λP=>c (.inr ?_))) (λn=>fk (λP=>by cases P) (λ_=>c (.inl oM)))⟩
 ·have P:=XV P
  rw[Zq oM];exact⟨.inl ⟨rfl,g,_,rfl,rfl⟩,h,i⟩
 ·have P:=Xy P
  omega
def FC:(do eqGuard .eql 20 Q (.const .nilIface) .nilIface .nilIface;binOp .eql 20 .nilIface .nilIface:Sem Value).run XP b= .ok (.bool true) b:=by
 cases Q<;>rfl
def Dh:(do eqGuard .eql 20 Q X (.iface 376 (XH e)) .nilIface;binOp .eql 20 (.iface 376 (XH e)) .nilIface:Sem Value).run XP b= .ok (.bool false) b:=by
 rfl
def FD:(Instr.typeAssert (.iface 376 (XH e)) 20 376 true).run XP b= .ok (.tuple #[XH e,.bool true]) b:=by
 rfl
def Lv.ret{ret:XU}(P:a8= .returning)(a:ret b):Lv h ret a2 [] a8 b:=by
 subst P;unfold Lv;exact a
def Lv.one{w:World}(b:a8≠.run)(c:enters h y=true)(d:CallsD h y n a8 w λe P a=>MH e (λ_=>Lv h x a2 [] (settle P) a) (λf=>Lv h x a2 [] (raised P f) a)):Lv h x a2 [{target:=.fn (.func y) n,args:= #[]}] a8 w:=
 ⟨b,y,n,rfl,c,by rw[show(#[]++n:Array Value)=n by simp];exact d⟩
def zb{i S:XN}(e:eG b a i Z)(I:enters XP y=true){A:XU}{no:Int}(s:∀f,S f->f<b.heap.size)(J:Z.tK=0->∀d,ai b d->ZG y (n++ #[]++U) d λc P=>ak S d P/\((no=0/\c= .returned (.tuple #[])/\A P)\/(no≠0/\(no=3\/no=4\/no=5)/\c= .panicked (PW no)/\ak (·=a) d P/\∃t,eG P a i ⟨Z.bytes,t,0⟩))):
  ZG 252 #[XL a,.func (.func y) n U] b (Ok λK P=>K= .tuple #[]/\ak (λf=>S f\/f=a) b P/\
   ((Z.tK≠0/\ai b P)\/(Z.tK=0/\no=0/\ak S b P/\A P)\/(Z.tK=0/\no≠0/\ak (·=a) b P/\eG P a i ⟨Z.bytes,Z.pos,no⟩))):=by
 obtain⟨a0,a2,L,G,u,h2,h3⟩:=e.body;have hp:=ay u;refine nu (PA.mk λd j s1 k=>?_);have v:=j.get u id;refine⟨_,ae k rfl,a,0,rfl,_,ae v rfl,an.dR (λM=>Ok.mk ⟨rfl,j.af,.inl ⟨M,j⟩⟩) (λl=>?_)⟩;refine⟨_,ae k rfl,a,0,rfl,_,ae v rfl,PA.mk λw2 N s2 O=>PS.mk O sM λm Q s3 R=>⟨y,n,U,rfl,I,?_⟩⟩;have w:ak (·=d.heap.size) d m:=N.af.then Q;have o:ai b m:=j.new w λf hb=>.inr oM;refine(J l m o).mono ?_;rintro c g ⟨p,T⟩;have x:g.heap[b.heap.size]? =some (.cells #[XL a] 295 (0,0)):=p.get (w.get k (by intro c;omega)) (λq=>by have:=s _ q;omega);have V:g.heap[d.heap.size]? =some (.cells #[XH (Z.pos:Int)] 3 (0,0)):=p.get R (λq=>by have:=s _ q;omega);have z:ak S b g:=o.af.then p;rcases T with⟨r,rfl,W⟩|⟨r,X,rfl,Y,t,B⟩
 ·refine⟨rfl,Lv.one sM kR ?_⟩
  refine CallsD.mono (fw (rv:=.nilIface) (u:=.returning) rfl (R:=λc h P=>c= .returned (.tuple #[])/\h= .returning/\P=g) ?_) ?_
  ·exact aD.mk FC ⟨_,rfl,an.tt rfl ⟨rfl,rfl,rfl⟩⟩
  ·rintro c h P ⟨rfl,rfl,rfl⟩
   refine Lv.ret rfl ?_;exact Ok.mk ⟨rfl,z.mono λ_ _ e=>.inl e,.inr (.inl ⟨l,r,z,W⟩)⟩
 ·refine Lv.one sM kR ?_
  obtain⟨a',n',C,G',e1,e2,e3⟩:=B.body;refine CallsD.mono (fw (rv:=.iface 376 (XH no)) (u:=.panicking (PW no)) rfl (R:=λc h P=>c= .returned (.tuple #[])/\settle h= .returning/\eG P a i ⟨Z.bytes,Z.pos,no⟩/\ak (·=a) b P) ?_) ?_
  ·refine aD.mk (v:=.bool false) (w':=g) ?_ ⟨_,rfl,an.ff rfl (aD.mk (v:=.tuple #[XH no,.bool true]) (w':=g) ?_ ⟨_,_,rfl,an.tt rfl ?_⟩)⟩
   ·exact Dh
   ·exact FD
   ·refine⟨_,ae x rfl,_,ae x rfl,_,ae V rfl,a,0,rfl,PS.mk e1 sM λw5 E s5 g5=>⟨a,0,rfl,PS.mk g5 sM λw6 F s6 g6=>⟨rfl,rfl,?_,?_⟩⟩⟩
    ·exact B.ft (r':=⟨Z.bytes,Z.pos,no⟩) e2 e3 (E.then F) g6 rfl ⟨e.fit.pos,.inr X⟩
    ·exact(o.af.then Y).then (E.then F)
  ·rintro c h P ⟨rfl,eQ,a1,H⟩
   refine Lv.ret eQ ?_;exact Ok.mk ⟨rfl,H.mono λ_ _ e=>.inr e,.inr (.inr ⟨l,r,H,a1⟩)⟩
def CC(P:eG b a f Z):
  ZG 185 #[XL a] b (Ok λq h=>q= XH (eY Z).1/\eG h a f (eY Z).2/\ak (·=a) b h):=by
 have O:a<b.heap.size:=P.aC a P.self;refine sI (PA.mk λl F Q w=>PA.mk λH r R s=>⟨_,ae (r.get w id) rfl,?_⟩);have x:ai b H:=F.then r;have t:=P.ah x;have I:=r.get w id;refine PC.ok (zb (S:=λg=>g=a\/g=l.heap.size) (no:=Z.num.1) (A:=λh=>eG h a f ⟨Z.bytes,Z.pos+Z.num.2.2,Z.tK⟩/\h.heap[l.heap.size]? =some (.cells #[XH Z.num.2.1] 3 (0,0))) t kR ?_ ?_) ?_
 ·rintro g (rfl|rfl)<;>omega
 ·intro J m p
  refine qm ⟨_,ae (p.get I id) rfl,PC.red (BG (t.ah p)) ?_ ?_⟩
  ·rintro i _ y c rfl j z
   have u:=j.get (p.get s id) oM;refine⟨_,rfl,PS.mk u sM λS A T K=>⟨(j.mono λ_ _ P=>.inl P).then (A.mono λ_ _ P=>.inr P),.inl ⟨i,rfl,c.af A λg n e=>?_,K⟩⟩⟩;have:=P.aC g n;omega
  ·rintro i y c j z
   rw[J]at c;have:=iE (Z.bytes.drop Z.pos);exact⟨j.mono λ_ _ P=>.inl P,.inr ⟨i,by have:=this.2.2.2.1;unfold kJ.num at i⊢;omega,rfl,j,c⟩⟩
 ·rintro _ m ⟨rfl,p,L⟩
  have M:ak (·=a) b m:=x.af.new p λg n=>by
   rcases n with(rfl|rfl)|rfl
   ·exact .inl rfl
   ·exact .inr oM
   ·exact .inl rfl
  have d:∀v:Int,m.heap[l.heap.size]? =some (.cells #[XH v] 3 (0,0))->eG m a f (eY Z).2->v=(eY Z).1->
    (∃B:Int,m.cell? ⟨l.heap.size,0,none⟩=some (XH B)/\PS m ⟨l.heap.size,0,none⟩ (XH B) λC=>∃E:Int,C.cell? ⟨l.heap.size,0,none⟩=some (XH E)/\
     Ok (λq h=>q= XH (eY Z).1/\eG h a f (eY Z).2/\ak (·=a) b h) (.returned (XH E)) C):=by
   rintro v k c rfl;refine⟨_,ae k rfl,PS.mk k sM λy j z u=>⟨_,ae u rfl,Ok.mk ⟨rfl,c.af j λg n e=>?_,M.new j λg n=>.inr oM⟩⟩⟩;have:=P.aC g n;omega
  refine⟨rfl,?_⟩;rcases L with⟨o,k⟩|⟨o,i,_,c,k⟩|⟨o,i,N,c⟩
  ·have e:eY Z=(0,Z):=by unfold eY;rw[Zx o]
   exact d 0 (k.get s id) (by rw[e];exact t.ah k) (by rw[e])
  ·have e:eY Z=(Z.num.2.1,⟨Z.bytes,Z.pos+Z.num.2.2,0⟩):=by unfold eY;rw[Zq (by simp[o]),Zx i]
   exact d _ k (by rw[e];rw[o]at c;exact c) (by rw[e])
  ·have e:eY Z=(0,⟨Z.bytes,Z.pos,Z.num.1⟩):=by unfold eY;rw[Zq (by simp[o]),Zq i]
   exact d 0 (N.get s oM) (by rw[e];exact c) (by rw[e])
def EJ{m:Int}(c:eG b a f Z):
  ZG 184 #[XL a,XH m] b (Ok λv j=>v= XH (bV m Z).1/\eG j a f (bV m Z).2/\ak (·=a) b j):=by
 have X:a<b.heap.size:=c.aC a c.self;refine qg (PA.mk λY M s1 C=>PA.mk λn w sm N=>PA.mk λO u s2 x=>⟨_,ae (u.get (w.get C id) id) rfl,?_⟩);have E:ai b O:=(M.then w).then u;have y:=c.ah E;have Q:=u.get (w.get C id) id;have R:=u.get N id;generalize h:(if Z.num.1=0 then(if Z.num.2.1<0\/m<Z.num.2.1 then 3 else 0)else Z.num.1:Int)=no;refine PC.ok (zb (S:=λi=>i=a\/i=n.heap.size) (no:=no) (A:=λj=>eG j a f ⟨Z.bytes,Z.pos+Z.num.2.2,Z.tK⟩/\j.heap[n.heap.size]? =some (.cells #[XH Z.num.2.1] 3 (0,0))) y kR ?_ ?_) ?_
 ·rintro i (rfl|rfl)<;>omega
 ·intro S o p
  refine nG ⟨_,ae (p.get Q id) rfl,_,ae (p.get R id) rfl,PC.red (Nd (y.ah p)) ?_ ?_⟩
  ·rintro d _ F e rfl k H
   rw[h]at d;have z:=k.get (p.get x id) oM;refine⟨_,rfl,PS.mk z sM λw5 I s5 T=>⟨(k.mono λ_ _ c=>.inl c).then (I.mono λ_ _ c=>.inr c),.inl ⟨d,rfl,e.af I λi q P=>?_,T⟩⟩⟩;have:=c.aC i q;omega
  ·rintro d F e k H
   rw[h]at d⊢;rw[S]at e;have A:=(iE (Z.bytes.drop Z.pos)).2.2.2.1;refine⟨k.mono λ_ _ c=>.inl c,.inr ⟨d,?_,rfl,k,e⟩⟩
   change Z.num.1=0\/Z.num.1=4\/Z.num.1=5 at A
   rw[<-h]at d⊢;split
   ·rename_i P
    rw[Zx P]at d;split
    ·exact .inl rfl
    ·rename_i s;rw[Zq s]at d;exact Zz rfl d
   ·omega
 ·rintro _ o ⟨rfl,p,U⟩
  have V:ak (·=a) b o:=E.af.new p λi q=>by
   rcases q with(rfl|rfl)|rfl
   ·exact .inl rfl
   ·exact .inr oM
   ·exact .inl rfl
  have g:∀B:Int,o.heap[n.heap.size]? =some (.cells #[XH B] 3 (0,0))->eG o a f (bV m Z).2->B=(bV m Z).1->
    (∃J:Int,o.cell? ⟨n.heap.size,0,none⟩=some (XH J)/\PS o ⟨n.heap.size,0,none⟩ (XH J) λK=>∃L:Int,K.cell? ⟨n.heap.size,0,none⟩=some (XH L)/\
     Ok (λv j=>v= XH (bV m Z).1/\eG j a f (bV m Z).2/\ak (·=a) b j) (.returned (XH L)) K):=by
   rintro B l e rfl;refine⟨_,ae l rfl,PS.mk l sM λF k H z=>⟨_,ae z rfl,Ok.mk ⟨rfl,e.af k λi q P=>?_,V.new k λi q=>.inr oM⟩⟩⟩;have:=c.aC i q;omega
  refine⟨rfl,?_⟩;rcases U with⟨r,l⟩|⟨r,d,_,e,l⟩|⟨r,d,W,e⟩
  ·have P:bV m Z=(0,Z):=by unfold bV;rw[Zx r]
   exact g 0 (l.get x id) (by rw[P];exact y.ah l) (by rw[P])
  ·have P:bV m Z=(Z.num.2.1,⟨Z.bytes,Z.pos+Z.num.2.2,0⟩):=by
    have A:=(iE (Z.bytes.drop Z.pos)).2.2.2.1
    change Z.num.1=0\/Z.num.1=4\/Z.num.1=5 at A
    unfold bV;rw[Zq (by simp[r])];split at h
    ·rename_i t
     rw[Zx t];split at h
     ·omega
     ·rename_i s;rw[Zq s]
    ·omega
   exact g _ l (by rw[P];rw[r]at e;exact e) (by rw[P])
  ·have P:bV m Z=(0,⟨Z.bytes,Z.pos,no⟩):=by
    unfold bV;rw[Zq (by simp[r])];split at h
    ·rename_i t
     rw[Zx t];split at h
     ·rename_i s;rw[Zx s,h]
     ·omega
    ·rename_i t;rw[Zq t,h]
   exact g 0 (W.get x oM) (by rw[P];exact e) (by rw[P])
def Ja(g:eG b a f Z):
  ZG 186 #[XL a] b (Ok λh i=>h= XH (jz Z)/\bG b i):=by
 obtain⟨n,o,j,G,c,k,p⟩:=g.body;have q:=k.len dC;have e:Z.tK≠0\/¬Z.pos<Z.bytes.length->jz Z=Z.tK:=λr=>by unfold jz;rw[Zq oM]
 refine rm ⟨a,0,rfl,_,ae c rfl,an.eB (λd=>⟨a,0,rfl,_,ae c rfl,a,0,rfl,_,_,_,ae c rfl,λl P=>an.dec (λm=>?_) λm=>?_⟩) (λd l P=>?_)⟩
 ·exact Ok.mk ⟨by unfold jz;rw[Zx ⟨d,oM⟩],P⟩
 ·exact⟨a,0,rfl,_,ae ((P.af (S:=λ_=>False)).get c id) rfl,Ok.mk ⟨by rw[e (.inr oM)],P⟩⟩
 ·exact⟨a,0,rfl,_,ae ((P.af (S:=λ_=>False)).get c id) rfl,Ok.mk ⟨by rw[e (.inl d)],P⟩⟩
def qA:il XP 27 3 1 8:=⟨kR,kR,dC⟩
def aB(P:aj)(a:ZH)(b c:Nat):List Value:=
 [XH P.origin,XH P.seq,XH P.ax,.slice a b c,XH P.aT,XH P.agg,XH P.field,XH P.op,XH P.arg,XH P.key]
def gO:jf aj where
 k:=10
 rep:=λi D d cs=>∃P a b,cs=aB d P a b/\Row aJ 8 i D P a d.aK/\d.Ok
 af:=λ⟨P,a,b,c,e,f⟩ j g=>⟨P,a,b,c,e.af j g,f⟩
 mono:=λ⟨P,a,b,c,e,f⟩ g=>⟨P,a,b,c,e.mono g,f⟩
 len:=λ⟨P,a,b,c,_,_⟩=>by rw[c];rfl
 one:=λ⟨P,a,b,c,_,_⟩ k h=>by
  rw[c]at h;simp only[aB,Q2,List.not_mem_nil,or_false]at h;rcases h with rfl|rfl|rfl|rfl|rfl|rfl|rfl|rfl|rfl|rfl<;>rfl
def oA:jf aj where
 k:=10
 rep:=λm D f cs=>∃P a b c,cs=aB f P a b/\aO aJ 3 c m P a b f.aK/\(∀d,c d->D d)/\f.Ok/\f.aK.length*8<=aN
 af:=λ⟨P,a,b,c,e,h,g,i⟩ n j=>⟨P,a,b,c,e,h.af n (λd k=>j d (g d k)),g,i⟩
 mono:=λ⟨P,a,b,c,e,h,g,i⟩ j=>⟨P,a,b,c,e,h,λd k=>j d (g d k),i⟩
 len:=λ⟨P,a,b,c,e,_⟩=>by rw[e];rfl
 one:=λ⟨P,a,b,c,e,_⟩ o l=>by
  rw[e]at l;simp only[aB,Q2,List.not_mem_nil,or_false]at l;rcases l with rfl|rfl|rfl|rfl|rfl|rfl|rfl|rfl|rfl|rfl<;>rfl
def oA.read{D:XN}{cs:List Value}(P:oA.rep b D l cs):gO.rep b D l cs:=by
 obtain⟨a,c,d,j,e,f,g,h,i⟩:=P;exact⟨a,c,d,e,(f.row dC i).mono g,h⟩
def oA.row{D:XN}(P:Row oA 96 b D d a K):Row gO 96 b D d a K:=
 ⟨P.len,P.dE,λe f g=>by
  obtain⟨h,c,i,j,k,l,m,n⟩:=P.el e f g;exact⟨h,c,i,j,k,l,m,oA.read n⟩⟩
def zQ:il XP 50 55 10 96:=⟨kR,kR,dC⟩
def CB{s u:Nat}{l D:XN}{m S:Nat}(C:b.heap[a]? =some (.cells #[.slice d s u] 197 (0,0)))(h:aO fF 5 l b d s u w)(q:Row aJ 8 b D r m t)(T:¬l a)(U:¬D a)(V:w.length+9*t.length+9<=aN):
  ZG 282 #[.slice r m S,XL a] b (Ok λW j=>W= .tuple #[]/\∃e f g k,j.heap[a]? =some (.cells #[.slice e f g] 197 (0,0))/\
   aO fF 5 k j e f g (w++bI t)/\¬k a/\ak (·=a) b j/\∀P,k P->l P\/b.heap.size<=P):=by
 have X:=q.len;have a7:=ay C;have Y:=q.dE;unfold aN at Y;refine Am ⟨λE i j=>∃c:Nat,i=c/\c<=m/\E=m-c/\∃e f g k,j.heap[a]? =some (.cells #[.slice e f g] 197 (0,0))/\
   aO fF 5 k j e f g (w++bI (t.take c))/\¬k a/\ak (·=a) b j/\∀P,k P->l P\/b.heap.size<=P,
  ⟨_,0,rfl,Qj _,rfl,d,s,u,l,C,by simpa[bI]using h,T,ak.refl _,λP v=>.inl v⟩,?_⟩
 rintro E i _ w1 ⟨c,rfl,hj,rfl,F,H,I,Z,x,n,a0,o,a1⟩;refine an.dec (λh1=>?_) (λh1=>?_)
 ·obtain⟨P,y,z,rfl,A,B,hc⟩:=(q.af o (λP h p=>U (p▸h))).lb (i:=c) oM
  refine⟨P,y,rfl,oM,oM,z,hc,F,H,I,ae x rfl,?_⟩;have a8:(bI (t.take c)).length<=9*c:=by
   have:=eX (l:=t.take c) (λa9 hy=>by
    obtain⟨J,K⟩:=List.getElem?_of_mem (List.mem_of_mem_take hy);have a2:J<m:=by rw[X];exact(Qv.1 K).1
    obtain⟨_,_,b0,_,L,a3,_⟩:=q.lb (i:=J) a2;rw[K]at L;cases L;exact a3)
   simp only[Qy]at this;omega
  have a4:=n.len dC;rw[QX]at a4;unfold aN at V;refine PC.ok (yq B (n.row (bytes:=1) dC (by rw[QX];unfold aN;omega)) ba n.aC) ?_;rintro _ w2 ⟨a5,n2,c2,M,rfl,a6,N,O⟩;have Q:¬M a:=λv=>by have:=O a v;have:=o.size;omega
  refine⟨_,_,_,rfl,PS.mk (N.get x id) sM λw3 R s3 g3=>⟨_,oM,c+1,aq oM,oM,rfl,a5,n2,c2,M,g3,?_,Q,(o.ah N).then R,λP h=>.inr (Xx o.size (O P h))⟩⟩;rw[Qw,A];have p:w++bI (List.take c t++(some z).toList)=w++bI (List.take c t)++my z:=by rw[gu];simp[bI]
  rw[p];exact a6.af R λP h p=>Q (p▸h)
 ·rw[Qz oM]at n
  exact Ok.mk ⟨rfl,F,H,I,Z,x,n,a0,o,a1⟩
def yr{f:Nat×Nat}(P:List Int)(c:b.heap[a]? =some (.cells (P.map (Value.int .i64)).toArray 3 f))(d:∀e∈P,aP e)(g:P.length<=1000):Row aJ 8 b (·=a) (XM a) P.length P:=
 Row.lit c P sM d ba
def Kl{D:XN}(w:Row aJ 8 b D d a l.aK)(P:l.Ok)(F:∀e,D e->e<b.heap.size):
  ZG 221 #[.agg (aB l d a c).toArray] b (Ok λH I=>∃x,H= .tuple #[x,XH (gT l).2]/\nX fF 5 b (gT l).1 x I):=by
 have J:=w.len;refine Ep (PA.mk λj n s1 y=>⟨d,a,c,ae y rfl,an.dec (λh=>?_) (λh=>?_)⟩)
 ·have q:gT l=([],3):=by unfold gT;rw[Zx oM]
  rw[q];exact Ok.mk ⟨_,rfl,none,0,0,λ_=>False,rfl,aO.nil j,n,λ_ h=>h.elim⟩
 have a8:l.aK.length<=64:=oM
 have q:gT l=(bI (jy l),0):=by unfold gT;rw[Zq oM]
 rw[q];have z:∀e,D e->e<j.heap.size:=λe g=>Qk (F e g) n.size;refine PA.mk λk r s2 K=>?_;have m:=r.get y id;refine⟨_,ae m rfl,_,ae m rfl,_,ae m rfl,_,_,_,ae m rfl,PA.mk λA B s3 L=>⟨_,_,_,rfl,kR,?_⟩⟩;have M:Row aJ 8 A (·=k.heap.size) (XM k.heap.size) 4 [l.origin,l.seq,l.ax,(l.aK.length:Int)]:=
  yr (f:=(0,0)) [l.origin,l.seq,l.ax,(l.aK.length:Int)] (by rw[L,<-J];rfl) (by intro s f;simp at f;rcases f with rfl|rfl|rfl|rfl;exact P.origin;exact P.seq;exact P.ax;unfold aP;omega) sM
 refine PC.ok (CB (B.get K id) (aO.nil A) M id (by show¬j.heap.size=k.heap.size;omega) (by unfold aN;simp)) ?_;rintro _ C ⟨rfl,a4,n4,c4,F4,N,O,Q,R,S⟩;have o:ak (·=j.heap.size) k C:=B.af.then R;have E:=o.get m oM;have T:Row aJ 8 C D d a l.aK:=((w.ah (n.then r)).af o λe g l=>by have:=z e g;omega)
 refine⟨rfl,_,_,_,ae E rfl,_,_,_,rfl,kR,PC.ok (CB N O T Q (λh=>by have:=z _ h;omega) ?_) ?_⟩
 ·have t:=eX (l:=[l.origin,l.seq,l.ax,(l.aK.length:Int)]) (by intro s f;simp at f;rcases f with rfl|rfl|rfl|rfl;exact P.origin;exact P.seq;exact P.ax;unfold aP;omega)
  simp only[List.nil_append,Xq,ZQ]at t⊢;unfold aN;omega
 rintro _ u ⟨rfl,a5,n5,c5,F5,U,V,W,v,X⟩;have i:=v.get E oM;refine⟨rfl,_,ae i rfl,_,ae i rfl,_,ae i rfl,_,ae i rfl,_,ae i rfl,_,ae i rfl,PA.mk λY p s6 Z=>⟨_,_,_,rfl,kR,?_⟩⟩;have r6:Row aJ 8 Y (·=u.heap.size) (XM u.heap.size) 6 [l.aT,l.agg,l.field,l.op,l.arg,l.key]:=
  yr (f:=(0,0)) [l.aT,l.agg,l.field,l.op,l.arg,l.key] Z (by intro s f;simp at f;rcases f with rfl|rfl|rfl|rfl|rfl|rfl;exact P.aT;exact P.agg;exact P.field;exact P.op;exact P.arg;exact P.key) sM
 have a6:=o.size;have a9:=v.size;refine PC.ok (CB (p.get U id) (V.ah p) r6 W (by show¬j.heap.size=u.heap.size;omega) ?_) ?_
 ·have t:=eX (l:=[l.origin,l.seq,l.ax,(l.aK.length:Int)]) (by intro s f;simp at f;rcases f with rfl|rfl|rfl|rfl;exact P.origin;exact P.seq;exact P.ax;unfold aP;omega)
  have h2:=eX P.aK;simp only[List.nil_append,Xq,ZQ,QX]at t h2⊢;unfold aN;omega
 rintro _ w7 ⟨rfl,a7,n7,c7,F7,g7,a2,b0,k7,a3⟩;refine⟨rfl,_,_,_,ae g7 rfl,Ok.mk ⟨_,rfl,a7,n7,c7,F7,rfl,?_,?_,?_⟩⟩
 ·have:jy l=[l.origin,l.seq,l.ax,(l.aK.length:Int)]++l.aK++[l.aT,l.agg,l.field,l.op,l.arg,l.key]:=rfl
  rw[this,gu,gu];exact a2
 ·have ka:ai b k:=n.then r
  exact(ka.new ((o.then v).then (p.af.then k7)) λe g=>.inr oM)
 ·intro e g
  rcases a3 e g with h|h
  ·rcases X e h with h|h
   ·rcases S e h with h|h
    ·exact h.elim
    ·omega
   ·omega
  ·have:=p.size;omega
def oB(a:List Int)(b:ZH)(c d:Nat)(P:List Int):List Value:=
 [XH (a.getD 0 0),XH (a.getD 1 0),XH (a.getD 2 0),.slice b c d,XH (P.getD 0 0),XH (P.getD 1 0),XH (P.getD 2 0),XH (P.getD 3 0),XH (P.getD 4 0),XH (P.getD 5 0)]
def Hs(P:t.length=i)(b:i<3):(oB t d a c a9).toArray.setIfInBounds i (XH e)=(oB (t++[e]) d a c a9).toArray:=by
 match t,P with
 |[],P=>subst P;rfl
 |[_],P=>subst P;rfl
 |[_,_],P=>subst P;rfl
 |_::_::_::_,P=>simp at P;omega
def Ht(P:a9.length=i)(b:i<6):(oB t d a c a9).toArray.setIfInBounds (4+i) (XH e)=(oB t d a c (a9++[e])).toArray:=by
 match a9,P with
 |[],P=>subst P;rfl
 |[_],P=>subst P;rfl
 |[_,_],P=>subst P;rfl
 |[_,_,_],P=>subst P;rfl
 |[_,_,_,_],P=>subst P;rfl
 |[_,_,_,_,_],P=>subst P;rfl
 |_::_::_::_::_::_::_,P=>simp at P;omega
def j_(P:Nat)(a:kJ):a_ (P+1) a=((a_ P a).1++[(eY (a_ P a).2).1],(eY (a_ P a).2).2):=rfl
def Km{D:XN}(f:Row fF 1 b D d a w)(hD:∀P,D P->P<b.heap.size):
  ZG 257 #[.slice d a c] b (Ok λa8 k=>∃a' n' c' v,a8= .tuple #[.agg (aB (iz w).1 a' n' c').toArray,XH (iz w).2]/\aO aJ 3 v k a' n' c' (iz w).1.aK/\ai b k/\∀P,v P->b.heap.size<=P):=by
 refine Es (PA.mk λw1 k1 s1 g1=>PC.ok (Bh (f.ah k1) (λP h=>by have:=hD P h;omega)) ?_);rintro _ i ⟨j,a0,rfl,T,k2,hP⟩;refine⟨_,rfl,PA.mk λw3 U s3 g3=>PA.mk λx y s4 g4=>?_⟩;have c2:=T.self;have h4:w1.heap.size<=j/\j<i.heap.size:=⟨hP j c2,T.aC j c2⟩
 have V:=T.aC;have h2:=k2.size;have d8:=y.get g3 id;have d9:=y.get (U.get (k2.get g1 id) id) id;have e0:=(T.ah U).ah y;have b1:ai b x:=((k1.then k2).then U).then y;refine⟨λm B k=>∃e:Nat,B=e/\e<=3/\m=3-e/\k.heap[i.heap.size]? =some (.cells (oB (a_ e ⟨w,0,0⟩).1 none 0 0 []).toArray 55 (0,0))/\eG k j a0 (a_ e ⟨w,0,0⟩).2/\ak (λP=>P=i.heap.size\/P=j) x k,
  ⟨_,0,rfl,oM,rfl,d8,e0,ak.refl _⟩,?_⟩
 rintro m B _ w5 ⟨e,rfl,hj,rfl,c3,c4,k5⟩;have c5:(kJ.mk w 0 0).Fit:=⟨Qj _,.inl rfl⟩
 refine an.dec (λN=>?_) (λN=>?_)
 ·have c6:e<3:=oM
  have g5:=k5.get g4 oM;have a1:w5.cell? ⟨w3.heap.size,0+Int.toNat (e:Int),none⟩=some (.pointer (some ⟨i.heap.size,e,none⟩)):=by
   rw[Qx,Xz]
   match e,c6 with
   |0,_=>exact ae g5 rfl
   |1,_=>exact ae g5 rfl
   |2,_=>exact ae g5 rfl
  refine⟨_,_,rfl,oM,oM,_,a1,PC.ok (CC c4) ?_⟩;rintro _ w6 ⟨rfl,O,Q⟩;have W:=Q.get c3 oM;refine⟨_,rfl,_,_,rfl,PS.mk W (by simp[oB];omega) λX C s7 g7=>⟨_,oM,e+1,aq oM,oM,rfl,?_,?_,?_⟩⟩
  ·rw[g7,Hs (c5.ints e).2.2.1 c6];rfl
  ·rw[j_]
   exact O.af C λP f r=>by have:=V P f;omega
  ·exact k5.then ((Q.mono λ_ _ h=>.inr h).then (C.mono λ_ _ h=>.inl h))
 obtain rfl:e=3:=oM
 obtain⟨c7,e1,h5,_⟩:=c5.ints 3;refine PC.ok (EJ c4) ?_;rintro _ w6 ⟨rfl,O,Q⟩;have W:=Q.get c3 oM;have e3:ak (λP=>P=i.heap.size\/P=j) x w6:=k5.then (Q.mono λ_ _ h=>.inr h);generalize hL:(a_ 3 ⟨w,0,0⟩).1=H at W e1;generalize hR:(a_ 3 ⟨w,0,0⟩).2=a5 at O c7;obtain⟨Y,e4,c8,_⟩:=c7.count (m:=64) oM;generalize hC:(bV 64 a5).1=I at e4 c8;generalize e5:(bV 64 a5).2=E at O Y;refine⟨_,rfl,λm B k=>∃e:Nat,B=e/\e<=I.toNat/\m=I.toNat-e/\∃s o t v,k.heap[i.heap.size]? =some (.cells (oB H s o t []).toArray 55 (0,0))/\eG k j a0 (a_ e E).2/\
   aO aJ 3 v k s o t (a_ e E).1/\(∀P,v P->x.heap.size<=P)/\ak (λP=>P=i.heap.size\/P=j) x k,
  ⟨_,0,rfl,oM,rfl,none,0,0,λ_=>False,W,O,aO.nil w6,λ_ h=>h.elim,e3⟩,?_⟩
 rintro m B _ X ⟨e,rfl,hj,rfl,s,o,t,v,b8,b9,c0,z,C⟩;have h6:=C.size;refine an.dec (λN=>?_) (λN=>?_)
 ·intro J c9
  have p:ai X J:=c9.af;have s8:J.heap.size=X.heap.size:=by rw[c9.heap]
  refine⟨λP=>P≠i.heap.size,sM,s,o,t,ae (p.get b8 id) rfl,PC.ok (CC (b9.ah p)) ?_⟩;rintro _ K ⟨rfl,Z,u⟩;have b2:=(Y.ints e).2.2.1;refine⟨_,rfl,u.mono (λP _ h=>oM),?_⟩;have L:aO aJ 3 v K s o t (a_ e E).1:=(c0.ah p).af u λP f r=>by have:=z P f;have:=y.size;omega
  refine PA.mk λA n h7 e6=>⟨n.af,?_⟩
  have a2:=L.ah n;have b0:=u.get (p.get b8 id) oM;have l:=n.get b0 id;have e7:=((Y.ints e).1.int).2.1;have d0:Row aJ 8 A (·=K.heap.size) (XM K.heap.size) 1 [(eY (a_ e E).2).1]:=yr (f:=(0,0)) [(eY (a_ e E).2).1] e6 (by simpa using e7) sM;refine jx a2 qA d0 (λP r=>⟨oM,?_⟩) (by rw[b2];unfold aN;simp;omega) (by rw[b2];unfold maxLen;simp;omega) λd1 e8 R h8 d2 a3 h3 b3=>?_
  ·intro e2
   have:=L.aC P (L.self P e2);omega
  refine⟨_,_,_,rfl,PS.mk (a3.get l ?_) (by simp[oB]) λh9 c1 i0 e9=>⟨_,oM,e+1,aq oM,oM,rfl,d1,o+1,e8,λP=>aE d1=some P,?_,?_,?_,?_,?_⟩⟩
  ·intro r;have:=z _ (L.self _ r);have:=y.size;omega
  ·rw[e9];rfl
  ·rw[j_]
   refine((Z.ah n).af a3 λP f r=>?_).af c1 λP f r=>?_
   ·have:=z _ (L.self _ r);have:=V P f;have:=y.size;have:=U.size;omega
   ·have:=V P f;omega
  ·have f2:=d2.alone
   rw[j_];refine f2.af c1 λP f r=>?_;rcases b3 P f with h|h
   ·have:=z P h;have:=y.size;omega
   ·have:=n.size;have:=u.size;have:=p.size;omega
  ·intro P f
   rcases b3 P f with h|h
   ·exact z P h
   ·have:=n.size;have:=u.size;have:=p.size;omega
  ·have ka:ak (λP=>P=i.heap.size\/P=j) x A:=((C.ah p).then (u.mono λ_ _ h=>.inr h)).ah n
   have kb:ak (λP=>P=i.heap.size\/P=j) x R:=ka.new a3 λP f=>.inr (z P (L.self P f));exact kb.then (c1.mono λ_ _ h=>.inl h)
 obtain rfl:e=I.toNat:=oM
 obtain⟨d3,f4,f5,_⟩:=Y.ints I.toNat;generalize f6:(a_ I.toNat E).1=S at c0 f4 f5;generalize f7:(a_ I.toNat E).2=q at b9 d3;refine PA.mk λJ p s8 g8=>?_;have g0:=p.get b8 id;have g2:ak (λP=>P=i.heap.size\/P=j) x J:=C.ah p;have g6:=c0.ah p;have i1:=y.size;refine⟨λm B k=>∃e:Nat,B=e/\e<=6/\m=6-e/\k.heap[i.heap.size]? =some (.cells (oB H s o t (a_ e q).1).toArray 55 (0,0))/\eG k j a0 (a_ e q).2/\ak (λP=>P=i.heap.size\/P=j) J k,
  ⟨_,0,rfl,oM,rfl,g0,b9.ah p,ak.refl _⟩,?_⟩
 rintro m B _ K ⟨e,rfl,hj,rfl,b0,Z,u⟩;refine an.dec (λN=>?_) (λN=>?_)
 ·have d4:e<6:=oM
  have M:=u.get g8 (by have:=C.size;omega);have a1:K.cell? ⟨X.heap.size,0+Int.toNat (e:Int),none⟩=some (.pointer (some ⟨i.heap.size,4+e,none⟩)):=by
   rw[Qx,Xz]
   match e,d4 with
   |0,_=>exact ae M rfl
   |1,_=>exact ae M rfl
   |2,_=>exact ae M rfl
   |3,_=>exact ae M rfl
   |4,_=>exact ae M rfl
   |5,_=>exact ae M rfl
  refine⟨_,_,rfl,oM,oM,_,a1,PC.ok (CC Z) ?_⟩;rintro _ A ⟨rfl,d5,n⟩;have l:=n.get b0 oM;refine⟨_,rfl,_,_,rfl,PS.mk l (by simp[oB];omega) λR F d6 g=>⟨_,oM,e+1,aq oM,oM,rfl,?_,?_,?_⟩⟩
  ·rw[g,Ht (d3.ints e).2.2.1 d4];rfl
  ·rw[j_]
   exact d5.af F λP f r=>by have:=V P f;omega
  ·exact u.then ((n.mono λ_ _ h=>.inr h).then (F.mono λ_ _ h=>.inl h))
 obtain rfl:e=6:=oM
 have a6:kK ⟨w,0,0⟩=(⟨H.getD 0 0,H.getD 1 0,H.getD 2 0,S,(a_ 6 q).1.getD 0 0,(a_ 6 q).1.getD 1 0,(a_ 6 q).1.getD 2 0,(a_ 6 q).1.getD 3 0,(a_ 6 q).1.getD 4 0,(a_ 6 q).1.getD 5 0⟩,(a_ 6 q).2):=by
  unfold kK;simp only[hL,hR,hC,e5,f6,f7]
 refine PC.ok (Ja Z) ?_;rintro _ A ⟨rfl,d7⟩;have n:ai K A:=d7.af;have b4:ak (λP=>P=i.heap.size\/P=j) J A:=u.ah n;have b5:ak (λP=>P=i.heap.size\/P=j) x A:=g2.then b4;have b6:=b5.get d9 oM;have l:=n.get b0 id;have a2:aO aJ 3 v A s o t S:=g6.af b4 λP f r=>by have:=z P f;omega
 have b7:ai b A:=b1.new b5 λP f=>.inr oM;have a7:jz (kK ⟨w,0,0⟩).2=jz (a_ 6 q).2:=by rw[a6]
 refine⟨_,rfl,an.dR (λh0=>?_) (λhe=>?_)⟩
 ·have a4:iz w=(yt,jz (a_ 6 q).2):=by unfold iz;rw[a7,Zx h0]
  rw[a4];refine storeAll [XH 0,XH 0,XH 0,.slice none 0 0,XH 0,XH 0,XH 0,XH 0,XH 0,XH 0] b6 rfl λR F d6 g=>?_;refine⟨0,0,0,none,0,0,0,0,0,0,0,0,ae g rfl,ae g rfl,ae g rfl,ae g rfl,ae g rfl,ae g rfl,ae g rfl,ae g rfl,ae g rfl,ae g rfl,Ok.mk ⟨none,0,0,λ_=>False,rfl,aO.nil R,?_,λ_ h=>h.elim⟩⟩;exact b7.new F λP f=>.inr oM
 ·have a4:iz w=((kK ⟨w,0,0⟩).1,0):=by unfold iz;rw[a7,Zq (by simpa using he)]
  rw[a4,a6];refine⟨_,_,_,s,o,t,_,_,_,_,_,_,ae l rfl,ae l rfl,ae l rfl,ae l rfl,ae l rfl,ae l rfl,ae l rfl,ae l rfl,ae l rfl,ae l rfl,?_⟩;refine storeAll (oB H s o t (a_ 6 q).1) b6 rfl λR F d6 g=>?_;refine⟨_,_,_,s,o,t,_,_,_,_,_,_,ae g rfl,ae g rfl,ae g rfl,ae g rfl,ae g rfl,ae g rfl,ae g rfl,ae g rfl,ae g rfl,ae g rfl,Ok.mk ⟨s,o,t,v,rfl,a2.af F λP f r=>?_,?_,λP f=>?_⟩⟩
  ·have:=z P f;omega
  ·exact b7.new F λP f=>.inr oM
  ·have:=z P f;have:=b1.size;omega
end
end Go.Proofs.YtblabbpipmodgaaGreatDoor
namespace Go.aw
open Go
def d_(P:List UInt8):Nat:=P.foldl (λa b=>a*10+(b.toNat-48)) 0
def fC(P:UInt8):Bool:=decide (48<=P.toNat/\P.toNat<=57)
def e_(P:List UInt8)(a:UInt8):d_ (P++[a])=d_ P*10+(a.toNat-48):=by simp[d_,List.foldl_append]
variable{e o:Int}{w:List UInt8}{a:Nat}{j:Type}
def tV{P a:List j}(b:P≠[]):(P++a).head? =P.head? :=by
 cases P with
 |nil=>exact Zz rfl b
 |cons c P=>rfl
def rZ:∀(P:Nat),d_ (Lib.decDigits P)=P/\(Lib.decDigits P).all fC=true/\Lib.decDigits P≠[]/\(P≠0->(Lib.decDigits P).head? ≠some 48):=by
 intro P
 induction P using Nat.strongRecOn with
 |_ P d=>
  rw[Lib.decDigits]
  by_cases b:P<10
  ·rw[dif_pos b]
   have a:(UInt8.ofNat (48+P)).toNat=48+P:=by rw[ZK];omega
   refine⟨by simp[d_];omega,by simp[fC,a];omega,sM,λi=>?_⟩;intro c;simp only[List.head?_cons,Q1]at c;have:=Zj UInt8.toNat c;rw[a]at this;simp at this;omega
  ·rw[dif_neg b]
   obtain⟨e,f,g,h⟩:=d (P/10) oM;have a:(UInt8.ofNat (48+P % 10)).toNat=48+P % 10:=by rw[ZK];omega
   refine⟨by rw[e_,e,a];omega,?_,sM,λ_=>?_⟩
   ·rw[List.all_append,f];simp[fC,a];omega
   ·rw[tV g];exact h oM
def zz:∀{P:List UInt8},P.all fC=true->P≠[]->P.head? ≠some 48->0<d_ P:=by
 intro P;generalize a:P.length=f
 induction f generalizing P with
 |zero=>intro _ g;exact Zz (QW a) g
 |succ f h=>
  intro b j c;rcases List.eq_nil_or_concat P with rfl|⟨P,d,rfl⟩
  ·cases a
  rw[List.concat_eq_append]at a b c⊢;rw[List.all_append,QK]at b;have k:48<=d.toNat/\d.toNat<=57:=by simpa[fC]using b.2
  rw[e_]
  by_cases e:P=[]
  ·subst e
   have:d.toNat≠48:=λi=>c (by simp;exact UInt8.toNat_inj.1 i);omega
  ·have:=h (by simpa using a) b.1 e (by rwa [tV e]at c)
   omega
def AQ:∀{P:List UInt8},P.all fC=true->P≠[]->(P.head? ≠some 48\/P.length=1)->Lib.decDigits (d_ P)=P:=by
 intro P;generalize f:P.length=g
 induction g generalizing P with
 |zero=>intro _ j;exact Zz (QW f) j
 |succ g k=>
  intro b o c;rcases List.eq_nil_or_concat P with rfl|⟨P,a,rfl⟩
  ·cases f
  rw[List.concat_eq_append]at f b c⊢;rw[List.all_append,QK]at b;have p:48<=a.toNat/\a.toNat<=57:=by simpa[fC]using b.2
  have i:UInt8.ofNat (48+(a.toNat-48))=a:=UInt8.toNat_inj.1 (by rw[ZK];omega);rw[e_]
  by_cases d:P=[]
  ·subst d
   have l:d_ []*10+(a.toNat-48)=a.toNat-48:=by simp[d_]
   rw[l,Lib.decDigits,dif_pos oM,i]
   rfl
  ·have q:0<P.length:=List.length_pos_iff.2 d
   have h:P.length=g:=by simpa using f
   have e:P.head? ≠some 48:=by
    rcases c with c|c
    ·rwa [tV d]at c
    ·omega
   have r:=zz b.1 d e;rw[Lib.decDigits,dif_neg oM];have m:(d_ P*10+(a.toNat-48))/10=d_ P:=oM
   have n:(d_ P*10+(a.toNat-48)) % 10=a.toNat-48:=oM
   rw[m,n,i,k h b.1 d (.inl e)]
def vi:∀(P:List UInt8),P.all fC=true->d_ P<10 ^ P.length:=by
 intro P;generalize a:P.length=c
 induction c generalizing P with
 |zero=>intro _;have:=QW a;subst this;decide
 |succ c e=>
  intro b;rcases List.eq_nil_or_concat P with rfl|⟨P,d,rfl⟩
  ·cases a
  rw[List.concat_eq_append]at a b⊢;rw[List.all_append,QK]at b;have f:48<=d.toNat/\d.toNat<=57:=by simpa[fC]using b.2
  have:=e P (by simpa using a) b.1;rw[e_,Nat.pow_succ];omega
def mS{u:Nat}(h:u<1000000000000):(Lib.decDigits u).length<=12:=by
 rw[Lib.decDigits_length];apply Nat.le_of_not_lt;intro k
 by_cases i:u=0
 ·subst i;rw[Lib.nDigits_small oM]at k;omega
 ·have s:=Lib.lt_pow_nDigits u
  obtain⟨l,m,n,o⟩:=rZ u;have j:=Lib.decDigits_length u;have key:∀(P:List UInt8),P.all fC=true->P≠[]->P.head? ≠some 48->10 ^(P.length-1)<=d_ P:=by
   intro P;generalize b:P.length=a
   induction a generalizing P with
   |zero=>intro _ h;exact Zz (QW b) h
   |succ a p=>
    intro c t e;rcases List.eq_nil_or_concat P with rfl|⟨P,v,rfl⟩
    ·cases b
    rw[List.concat_eq_append]at b c e⊢;have f:=c;rw[List.all_append,QK]at c;rw[e_]
    by_cases d:P=[]
    ·subst d
     have:=zz f sM e;rw[e_]at this;have q:a=0:=by simpa using b.symm
     subst q;simp at this⊢;omega
    ·have g:P.length=a:=by simpa using b
     have j:0<P.length:=List.length_pos_iff.2 d;have:=p P g c.1 d (by rwa [tV d]at e);have r:a+1-1=(a-1)+1:=oM
     rw[r,Nat.pow_succ];omega
  have:=key _ m n (o i);rw[l,j]at this;have w:10 ^ 12<=10 ^(Lib.nDigits u-1):=Nat.pow_le_pow_right oM oM;have:(10:Nat) ^ 12=1000000000000:=dC
  omega
def df:List UInt8:=[115,101,103,46]
def aM(P:Int):List UInt8:=if P<0\/1000000000000<=P then []else df++Lib.decDigits P.toNat
def gV(P:List UInt8):Option Nat:=if P.take 4=df/\5<=P.length/\P.length<=16/\(P.drop 4).all fC=true/\((P.drop 4).head? ≠some 48\/P.length=5)then some (d_ (P.drop 4))else none
def kq(P:0<=e)(a:e<1000000000000):aM e=df++Lib.decDigits e.toNat:=by unfold aM;rw[Zq oM]
def r_(a:0<=e)(b:e<1000000000000):gV (aM e)=some e.toNat:=by
 rw[kq a b];obtain⟨c,d,f,g⟩:=rZ e.toNat;have k:=mS (u:=e.toNat) oM;have l:0<(Lib.decDigits e.toNat).length:=List.length_pos_iff.2 f;have h:(df++Lib.decDigits e.toNat).drop 4=Lib.decDigits e.toNat:=rfl;have i:(df++Lib.decDigits e.toNat).take 4=df:=rfl;have j:(df++Lib.decDigits e.toNat).length=4+(Lib.decDigits e.toNat).length:=by rw[QX];rfl
 unfold gV;rw[h,i,j,c,Zx];refine⟨rfl,oM,oM,d,?_⟩
 by_cases P:e.toNat=0
 ·right
  rw[P,Lib.decDigits_length,Lib.nDigits_small oM]
 ·exact .inl (g P)
def yP(P:gV w=some a):aM a=w/\a<1000000000000:=by
 unfold gV at P;split at P
 ·rename_i e
  obtain⟨f,i,j,b,g⟩:=e;simp only[Q1]at P;have c:(w.drop 4).length=w.length-4:=sM
  have k:=vi _ b;have l:10 ^(w.drop 4).length<=10 ^ 12:=Nat.pow_le_pow_right oM oM;have m:(10:Nat) ^ 12=1000000000000:=dC
  have h:a<1000000000000:=oM
  refine⟨?_,h⟩;rw[kq oM oM,<-P,Qx,AQ b (λd=>by rw[d]at c;simp at c;omega) (g.imp id λd=>oM),<-f,ZX]
 ·cases P
def Ff(c:0<=e)(a:e<1000000000000)(P:aM o=aM e):o=e:=by
 have b:=r_ c a
 by_cases d:o<0\/1000000000000<=o
 ·unfold aM at P
  rw[Zx d,Zq oM]at P;exact Zz (Zj List.length P) (by simp[df])
 ·rw[<-P,r_ oM oM]at b
  simp only[Q1]at b;omega
def zy(P:Int):(aM P).length<=16:=by
 unfold aM;split
 ·simp
 ·have:=mS (u:=P.toNat) oM
  rw[QX];show 4+_<=16;omega
def Dx(c:w.all fC=true)(d:w.length<=12):gV (df++w)=if aM (d_ w)=df++w then some (d_ w)else none:=by
 have f:=vi _ c;have g:10 ^ w.length<=10 ^ 12:=Nat.pow_le_pow_right oM d;have h:(10:Nat) ^ 12=1000000000000:=dC
 split
 ·rename_i a
  rw[<-a,r_ oM oM,Qx]
 ·rename_i a
  cases P:gV (df++w)with
  |none=>rfl
  |some e=>
   obtain⟨b,i⟩:=yP P;have:e=d_ w:=by
    unfold gV at P;split at P
    ·exact(XJ P).symm
    ·cases P
   rw[this]at b;exact Zz b a
def Gi(a:w.all fC=false):gV (df++w)=none:=by
 unfold gV;rw[Zq];rintro⟨_,_,_,P,_⟩;have:(df++w).drop 4=w:=rfl;rw[this,a]at P
 cases P
def Le(P:w.take 4≠df):gV w=none:=by
 unfold gV;rw[Zq λa=>P a.1]
def IE(P:16<w.length):gV w=none:=by
 unfold gV;rw[Zq λa=>oM]
end Go.aw
namespace Go.Proofs.YtblabbpipmodgaaGreatDoor
open Go.aw
def pick(a P:Int):Int:=if P<1 then 0 else if a.tmod P<0 then a.tmod P+P else a.tmod P
def y_{k n:Int}(P:1<=n):0<=pick k n/\pick k n<n:=by
 unfold pick;rw[Zq oM];have a:k.tmod n<n:=Int.tmod_lt_of_pos k oM;have b: -n<k.tmod n:=Int.lt_tmod_of_pos k oM;split<;>omega
variable{e o:Int}{b:World}
def Nb(j:aP o):ZG 16 #[XH e,XH o] b (Ok λg h=>g= XH (pick e o)/\b=h):=by
 refine Hc (an.mk (λa=>?_) (λa=>?_))
 ·have a:=XV a
  exact Ok.mk ⟨by simp[pick,a],rfl⟩
 ·have a:=Xy a
  have c:=y_ (k:=e) (n:=o) oM;have i:∀d f,(do eqGuard .rem 3 d f (XH e) (XH o);binOp .rem 3 (XH e) (XH o):Sem Value).run XP b= .ok (XH (e.tmod o)) b:=λd f=>by
   have:o≠0:=oM
   simp[eqGuard,binOp,Op.intDiv,this]
  refine aD.mk (i _ _) ⟨_,rfl,an.mk (λP=>?_) (λP=>?_)⟩
  ·have P:=XV P
   unfold pick at c;rw[Zq oM,Zx P]at c;refine Ok.mk ⟨?_,rfl⟩;rw[wrap_i64 (by unfold aP at*;omega)];unfold pick;rw[Zq oM,Zx P]
  ·have P:=Xy P
   refine Ok.mk ⟨?_,rfl⟩;unfold pick;rw[Zq oM,Zq P]
end Go.Proofs.YtblabbpipmodgaaGreatDoor
namespace Go.Proofs
open Go.RowKit Go.Maps Go.Sort Go.Shelf
def Tryz.Qm(c:Nat):AnyZ.SortsIn Tryz.prog Tryz.vv Fence.wide c:=
 ⟨λaE a P d b e f g=>callsIn_wide.2 (AnyM.slices_Sort_string Tryz.Px aE a P d b e f g),
  λh P b=>callsIn_wide.2 (AnyM.slices_Sort_string_none Tryz.Px h P b)⟩
end Go.Proofs
namespace Go.Proofs.YtblabbpipmodgaaGreatDoor
section
open Go.aw
open Go.RowKit Go.Maps Go.Sort Go.Shelf
def Ua(P a:ByteArray):Bool:=decide (P.data.toList<=a.data.toList)
def qC(P:List ByteArray):List ByteArray:=P.mergeSort Ua
def Kg(a:List ByteArray):(qC a).map (λP=>P.data.toList)=(a.map λP=>P.data.toList).mergeSort (λP b=>decide (P<=b)):=
 List.map_mergeSort (λc _ d _=>rfl)
def bA.Py{b:Type}{P:b->Value}{c:b->Prop}{hl h1}{e:World}{D:XN}:∀{a:List b},(∀x∈a,c x)->bA (flat 1 (λx=>[P x]) c hl h1) e D a (a.map P)
 |[],_=>rfl
 |x::a,d=>⟨[P x],a.map P,rfl,⟨rfl,d x (QV ..)⟩,bA.Py λf g=>d f (QJ _ g)⟩
variable{f5:List (ByteArray×Value)}{a c:Nat}{H:Nat×Nat}{g:TypeId}{b:World}
def wN(j:bX b a Value.string f5)(I:∀h∈f5,h.1.size<=maxLen)(y:f5.length*16<=aN)(z:b.heap[c]? =some (.cells #[.map (some a)] g H)):
  ZG 246 #[.func (.func 296) #[] #[XL c]] b
   (Ok (nX Md 9 b (qC (f5.map (·.1))))):=by
 unfold aN at y;obtain⟨e,i,J,p,K,L⟩:=j.at';have M:Tryz.prog.underlying 9=some .string:=Tryz.underlying9;have N:e.size=f5.length:=by have:=Zj List.length p;simpa using this
 have A:∀d∈e.toList,∃P:ByteArray,d.key=Value.string P/\P.size<=maxLen:=λd f=>by
  have O:(d.key,d.val)∈f5.map (λh=>(Value.string h.1,h.2)):=by rw[<-p];exact Xk.2 ⟨d,f,rfl⟩
  obtain⟨h,Q,R⟩:=Xk.1 O;exact⟨h.1,(Prod.mk.inj R).1.symm,I h Q⟩
 have B:∀d∈e.toList,∀P:ByteArray,d.key=Value.string P->P.size<=maxLen->WideElems.rd XP 9 (λ_=>some ((.nil:DataW Unit),[])) d=some (.string P.data.toList,.nil):=λd _ P l n=>by
  simp[WideElems.rd,l,Go.WideMaps.keyOf_string_mk M n]
 have S:WideElems.Fit XP 9 (λ_=>some ((.nil:DataW Unit),[])) e i:=by
  refine⟨by unfold maxLen;omega,⟨K,L,?_⟩,λd f=>?_⟩
  ·have:e.toList.map (·.key)=(f5.map (·.1)).map Value.string:=by
    have:=Zj (List.map (λs:Value×Value=>s.1)) p;simpa[Function.comp_def]using this
   rw[this];exact List.pairwise_map.2 (List.Pairwise.imp (λT=>by simpa using T) j.tidy)
  ·obtain⟨P,l,n⟩:=A d f
   exact⟨_,B d f P l n⟩
 have U:b.ownsMap XP 9 (λ_=>some ((.nil:DataW Unit),[])) a e.size (.map ((e.toList.map (WideElems.rg XP 9 (λ_=>some ((.nil:DataW Unit),[])))).foldr DataW.insert [])):=
  ⟨e,i,J,S,Q4 _,rfl⟩
 have C:Maps.size (.map ((e.toList.map (WideElems.rg XP 9 (λ_=>some ((.nil:DataW Unit),[])))).foldr DataW.insert []))=f5.length:=by
  show(List.foldr DataW.insert [] _).length=_;rw[(WideShapes.sorted_perm _).length_eq];simp[N]
 have V:(strKeys (.map ((e.toList.map (WideElems.rg XP 9 (λ_=>some ((.nil:DataW Unit),[])))).foldr DataW.insert []))).Perm ((f5.map (·.1)).map λP=>P.data.toList):=by
  refine(List.Perm.map (λh:Lit×DataW Unit=>Go.strOf h.1) (WideShapes.sorted_perm _)).trans ?_;have:(e.toList.map (WideElems.rg XP 9 (λ_=>some ((.nil:DataW Unit),[])))).map (λh=>Go.strOf h.1)=(f5.map (·.1)).map λP=>P.data.toList:=by
   have W:e.toList.map (λd=>match d.key with| .string P=>P.data.toList|_=>[])=(f5.map (·.1)).map λP=>P.data.toList:=by
    have:=Zj (List.map (λs:Value×Value=>match s.1 with| .string P=>P.data.toList|_=>[])) p;simpa[Function.comp_def]using this
   rw[<-W,List.map_map];refine List.map_congr_left λd f=>?_;obtain⟨P,l,n⟩:=A d f;simp[WideElems.rg,B d f P l n,l,Go.strOf]
  rw[this]
 have X:SeqGives Fence.wide 1 XP 296 #[XL c] encStr (λm=>m.Perm (strKeys _)) (Maps.size _) b:=
  AnyZ.keys_gives (ρ:=Tryz.Bb) {Tryz.Bc with} Fence.wide _ trivial rfl oM c a e.size _ b (ay z) (ae z rfl) U
 have Y:=AnyZ.sorted_in Tryz.Of Fence.wide 4 trivial trivial trivial trivial rfl oM (Tryz.Qm _) (enters_of Tryz.func295 kR rfl) 296 #[XL c] trivial
  (enters_of Tryz.func296 kR rfl) _ _ (by rw[C];unfold maxLen;omega) (by rw[C];exact y) b X
 refine((callsIn_wide (n:=4)).1 Y).mono ?_;rintro d Z ⟨a0,m,rfl,hS,q,a7,t⟩;have E:m.mergeSort (λP u=>decide (P<=u))=(qC (f5.map (·.1))).map λP=>P.data.toList:=by rw[Kg];exact Go.mergeSort_of_perm (hS.trans V)
 have a8:m.length=(qC (f5.map (·.1))).length:=by
  have:=Zj List.length E;simpa using this
 have a1:((m.mergeSort (λP u=>decide (P<=u))).map encStr)=(qC (f5.map (·.1))).map Value.string:=by
  rw[E,List.map_map];refine List.map_congr_left λP _=>?_;show Value.string ⟨P.data.toList.toArray⟩=Value.string P;simp
 rw[a1]at q;have hv:∃o v,a0= .slice o m.length v:=by
  rcases q.2 with⟨rfl,h0⟩|⟨g',w,x,rfl,_⟩
  ·exact⟨none,0,by rw[h0]⟩
  ·exact⟨_,_,rfl⟩
 obtain⟨o,v,rfl⟩:=hv;have F:∀k,aE o=some k->b.heap.size<=k/\k<Z.heap.size:=λk r=>by
  rcases q.2 with⟨f,_⟩|⟨g',w,x,f,a9,a6,_⟩
  ·simp only[XX]at f
   rw[f.1]at r;cases r
  ·simp only[XX]at f
   rw[f.1]at r;simp only[aE,Q1]at r;have:=ay a6;omega
 exact Ok.mk ⟨o,_,v,λk=>aE o=some k,rfl,⟨⟨_,λ_=>False,⟨ownsRow_base_a q (Qj _)⟩,bA.Py (λ_ _=>trivial),λ_ j=>j.elim⟩,λ_ j=>j,λk j=>(F k j).2⟩,ak.LG t,λk j=>(F k j).1⟩
end
section
open Go.aw
def kS:gY XP 9 Value.string:=SX Tryz.underlying9
def mF:np XP 140 9 204 (.pointer none):=⟨kR,kR⟩
def uF:Tryz.prog.underlying 204=some (.pointer 206):=kR
def al.room(D:al):Int:=(D.most:Int)-D.used
def al.op(D:al)(P:al->Int×al):Int×al:=if D.dies then(15,D.gone)else P D.cE
def al.As(a:ByteArray)(P:al->cD->Int×al)(D:al):Int×al:=match az D.files a with
 |none=>(14,D)
 |some b=>P D b
def al.create(D:al)(P:ByteArray):Int×al:=D.op λD=>if cJ P then(if(az D.files P).isSome then(16,D)else if 64<=D.files.length then(12,D)else(0,D.ef P ⟨[],0,false⟩))else(1,D)
def al.append(D:al)(P:ByteArray)(a:List UInt8):Int×al:=D.op (al.As P λD b=>if(a.length:Int)>D.room then(12,D)else(0,D.ef P {b with bytes:=b.bytes++a}))
def al.sync(D:al)(P:ByteArray):Int×al:=D.op (al.As P λD a=>(0,D.ef P (a.cut a.bytes.length)))
def al.EG(D:al)(k:ByteArray)(P:Int):Int×al:=D.op (al.As k λD a=>(0,D.ef k (a.cut P)))
def al.delete(D:al)(P:ByteArray):Int×al:=D.op (al.As P λD a=>(0,D.sX P))
def al.rename(D:al)(P a:ByteArray):Int×al:=D.op (al.As P λD b=>if cJ a then(0,(D.sX P).ef a {b with Au:=true})else(1,D))
def al.read(D:al)(k:ByteArray):List UInt8×Int:=if D.dead then([],15)else match az D.files k with
 |none=>([],14)
 |some P=>(P.bytes,0)
def al.list(D:al):List ByteArray:=qC (D.files.map (·.1))
def ei(D:al):D.cE.files=D.files:=by unfold al.cE;split<;>rfl
def sZ(c:World)(d:Nat)(e:XN)(P:Int×al)(f:Value)(a:World):Prop:=∃b,f= XH P.1/\aS a d b P.2/\du e c b a
variable{U n:Array Value}{v:ByteArray}{e:Int}{d1:Int×al}{f5 g9:List (ByteArray×Value)}{a4:List (ByteArray×rJ)}{w:List UInt8}{a c i:Nat}{a6 f:XN}{d:ZH}{j:Type}{u:Value}{b k:World}{x:XU}{W:cD}
def sZ.same{D:al}(P:aS k a f D)(c:ak f b k):sZ b a f (e,D) (XH e) k:=⟨f,rfl,P,c,λ_ P=>.inl P⟩
def I_{D:al}(c:aS b a f D){g:FuncId}{body:al->Int×al}(d:enters XP g=true)(e:D.dies=false->∀P,aS P a f D.cE->ak f b P->ZG g (n++ #[]++U) P (Ok (sZ P a f (body D.cE)))):
  ZG 241 #[XL a,.func (.func g) n U] b (Ok (sZ b a f (D.op body))):=by
 refine Calls.ok (Hq c (e:=(body D.cE).1) (D':=(body D.cE).2) d λh P i j o=>e h P i j) ?_;rintro p q ⟨k,l,r,m⟩;refine⟨k,?_,?_,m⟩
 ·rw[l];unfold al.op;split<;>rfl
 ·unfold al.op;split<;>simp_all
def s_{D:al}(e:aS b a f D){k:ByteArray}{g:FuncId}{body:al->cD->Int×al}(C:enters XP g=true)(E:D.dies=false->∀h l m P,eW h a f D.cE l m->az m k=some P->ak f b h->ZG g (n++ #[ptr P.q]++U) h (Ok (sZ h a f (body D.cE P.f)))):
  ZG 171 #[XL a,.string k,.func (.func g) n U] b (Ok (sZ b a f (D.op (al.As k body)))):=by
 refine wJ (PA.mk λh F W z=>PA.mk λH r X I=>PA.mk λA o Y J=>?_);have s:ai b A:=(F.ah r).ah o;have K:=e.ah s;have t:=e.aC;refine⟨_,ae (o.get (r.get z id) id) rfl,PC.ok (I_ K (body:=al.As k body) kR λL c B p=>?_) ?_⟩
 ·obtain⟨l,m,i⟩:=B.open
  have M:c.heap[b.heap.size]? =_:=p.get (o.get (r.get z id) id) (λj=>by have:=t _ j;omega);have N:c.heap[h.heap.size]? =_:=p.get (o.get I id) (λj=>by have:=t _ j;omega);have O:c.heap[H.heap.size]? =_:=p.get J (λj=>by have:=t _ j;omega);refine sN ⟨_,ae M rfl,a,0,rfl,some l,ae i.head rfl,_,ae N rfl,?_⟩;rcases i.box k with⟨u,v⟩|⟨P,Q,Z,u,v⟩
  ·refine⟨none,λw=>?_,λq d=>?_⟩
   ·have:=ep mF kS (i.map.af (ak.drewN (S:=λ_=>False) c w) id) k false
    simpa[v]using this
   ·refine xt uF ⟨_,rfl,an.ff rfl (Ok.mk ?_)⟩
    have:al.As k body D.cE=(14,D.cE):=by unfold al.As;rw[u]
    rw[this];exact sZ.same (B.ah d.af) d.af
  ·refine⟨XM P.q,λw=>?_,λq d=>?_⟩
   ·have:=ep mF kS (i.map.af (ak.drewN (S:=λ_=>False) c w) id) k false
    simpa[v,ptr]using this
   ·refine xt uF ⟨_,rfl,an.tt rfl ⟨_,ae (d.af (S:=λ_=>False)|>.get O id) rfl,g,n,U,rfl,C,?_⟩⟩
    have R:ak f b q:=((s.af (S:=f)).then p).ah d.af;refine PC.ok (E L q l m P (i.ah d.af) Q R) ?_;rintro S w6 ⟨x,rfl,T,y⟩;have:al.As k body D.cE=body D.cE P.f:=by unfold al.As;rw[u]
    refine⟨_,rfl,Ok.mk ?_⟩;rw[this];exact⟨x,rfl,T,(du.mk d.af λ_ e=>.inl e:du f c f q).trans y⟩
 ·rintro S c ⟨x,rfl,V,y⟩
  exact⟨_,rfl,Ok.mk ⟨x,rfl,V,(du.mk s.af λ_ e=>.inl e:du f b f A).trans y⟩⟩
def al.Ok.set{D:al}(P:D.Ok){c a:cD}(b:az D.files v=some c)(d:a.bytes.length+D.used<=c.bytes.length+D.most)(e:a.synced<=a.bytes.length):(D.ef v a).Ok:=by
 have f:=cx b;refine⟨P.most,?_,?_,P.tidy.aG _ _,?_,?_,P.EA,P.EB⟩
 ·have:=oz (l:=D.files) (k:=v) (f:=a)
  rw[b]at this;simp only[Option.map_some,Option.getD_some]at this;show eJ (aG D.files v a)<=D.most;unfold al.used at d;omega
 ·show(aG D.files v a).length<=64
  rw[uQ (by rw[b];rfl)];exact P.many
 ·intro x j
  rcases fh P.tidy j with rfl|⟨j,_⟩
  ·show cJ v=true
   exact P.names _ f
  ·exact P.names x j
 ·intro x j
  rcases fh P.tidy j with rfl|⟨j,_⟩
  ·exact e
  ·exact P.Qn x j
def al.Ok.del{D:al}(P:D.Ok)(a:ByteArray):(D.sX a).Ok:=by
 have e:=EH D.files a;have f:=vw (l:=D.files) (k:=a);have d:=P.fits;have g:=P.many;unfold al.used at d;exact⟨P.most,by show eJ (bO D.files a)<=D.most;omega,by show(bO D.files a).length<=64;omega,P.tidy.bO a,λb c=>P.names b (fz c),λb c=>P.Qn b (fz c),P.EA,P.EB⟩
def al.Ok.put{D:al}(P:D.Ok)(c:cJ v=true)(d:W.bytes.length+D.used<=D.most)(f:D.files.length<64)(e:W.synced<=W.bytes.length):(D.ef v W).Ok:=by
 refine⟨P.most,?_,?_,P.tidy.aG _ _,?_,?_,P.EA,P.EB⟩
 ·have:=oz (l:=D.files) (k:=v) (f:=W)
  show eJ (aG D.files v W)<=D.most;unfold al.used at d;omega
 ·have:=vk D.files v W
  show(aG D.files v W).length<=64;omega
 ·intro b a
  rcases fh P.tidy a with rfl|⟨a,_⟩
  ·exact c
  ·exact P.names b a
 ·intro b a
  rcases fh P.tidy a with rfl|⟨a,_⟩
  ·exact e
  ·exact P.Qn b a
def uS{l:List (ByteArray×j)}{k:ByteArray}(P:(az l k).isSome=true):(bO l k).length+1=l.length:=by
 induction l with
 |nil=>simp[az]at P
 |cons a l b=>
  obtain⟨d,e⟩:=a;simp only[bO,az]at P⊢;split
  ·rfl
  ·rename_i c
   rw[Zq c]at P;simp[b P]
def Bd(a:List (ByteArray×j))(b:ByteArray)(d c:j):aG (aG a b d) b c=aG a b c:=by
 induction a with
 |nil=>simp[aG]
 |cons e a f=>
  obtain⟨g,h⟩:=e;simp only[aG]
  by_cases P:(b==g)=true
  ·rw[Zx P,Zx P];simp[aG]
  ·rw[Zq P,Zq P];simp[aG,P,f]
def eK.Oi{G:XN}(c:eK b a G W)(d:∀P,eK P a G {W with Au:=true}->ak (·=a) b P->P.heap.size=b.heap.size->x P):PS b ⟨a,0+2,none⟩ (.bool true) x:=by
 obtain⟨j,k,e,l,m,n,o,g⟩:=c.body;refine PS.mk m sM λp h q r=>d p ⟨⟨j,k,e,l,r,n.af h (λi f s=>g (s▸f)),o,g⟩,c.self,λi f=>by have:=c.aC i f;omega⟩ h q
def al.Ok.cut{D:al}(a:D.Ok)(b:az D.files v=some W)(P:Int):(D.ef v (W.cut P)).Ok:=by
 have c:=Oh W P;have d:=uR P W.bytes.length;have e:=a.fits;exact a.set b oM (by rw[c];exact Q4 _)
def eW.get{D:al}(d:eW b a f D c a4){P:rJ}(e:az a4 v=some P):az D.files v=some P.f:=by
 rw[d.files];have:=ym (λP:rJ=>P.f) a4 v;rw[e]at this;exact this
def jZ(c:Value)(d:World)(g:ai k b)(P:sZ b a f d1 c d):∃e:Int,c= XH e/\Ok (sZ k a f d1) (.returned (XH e)) d:=by
 obtain⟨h,rfl,i,j⟩:=P;exact⟨_,rfl,Ok.mk ⟨h,rfl,i,(du.mk g.af λ_ P=>.inl P:du f k f b).trans j⟩⟩
def Be{D:al}(c:aS b a f D){k:ByteArray}:
  ZG 158 #[XL a,.string k] b (Ok (sZ b a f (D.sync k))):=by
 refine sG (PC.ok (s_ c (k:=k) (g:=225) (body:=λD e=>(0,D.ef k (e.cut e.bytes.length))) kR λv w x y j P d z=>?_) λl m c=>jZ l m (ak.refl b) c);have g:=P.each.each _ (cx d);have h:=P.get d;obtain⟨A,B,n,C,o,p,E,F⟩:=g.body;have q:=p.len dC;refine qj ⟨j.q,0,rfl,_,_,_,ae o rfl,PC.ok (EF g (P.ok.len (cx h))) ?_⟩;rintro _ H ⟨I,rfl,i,r⟩;rw[q]at i;obtain⟨s,t,u⟩:=P.ft d i r (P.ok.cut h _);exact⟨rfl,Ok.mk ⟨s,rfl,t.at,u⟩⟩
def Mf{D:al}(c:aS b a f D):
  ZG 188 #[XL a,.string v,XH e] b (Ok (sZ b a f (D.EG v e))):=by
 refine uE (PA.mk λu g w i=>PC.ok (s_ (c.ah g) (k:=v) (g:=258) (body:=λD j=>(0,D.ef v (j.cut e))) kR λx y z A B P d k=>?_) λl m c=>jZ l m g c);have n:=P.each.each _ (cx d);have h:=P.get d;refine rz ⟨_,ae (k.get i λo=>by have:=c.aC _ o;omega) rfl,PC.ok (EF n (P.ok.len (cx h))) ?_⟩;rintro _ C ⟨E,rfl,p,q⟩;obtain⟨r,s,t⟩:=P.ft d p q (P.ok.cut h _);exact⟨rfl,Ok.mk ⟨r,rfl,s.at,t⟩⟩
def vx{D:al}(P:aS b a f D):
  ZG 119 #[XL a,.string v] b (Ok (sZ b a f (D.delete v))):=by
 refine qe (PA.mk λx h y i=>PA.mk λz e A j=>⟨_,ae (e.get i id) rfl,_,ae j rfl,PC.ok (s_ ((P.ah h).ah e) (k:=v) (g:=172) (body:=λD B=>(0,D.sX v)) kR λC n o E F p H k=>?_) λq r P=>jZ q r (h.ah e) P⟩);have s:=k.get (e.get i id) λc=>by have:=P.aC _ c;omega
 have t:=k.get j λc=>by have:=P.aC _ c;omega
 refine nC λu l=>?_;have d:=p.ah l.af;have g:ai n u:=l.af;refine⟨_,ae (g.get s id) rfl,a,0,rfl,some o,ae d.head rfl,v,ae (g.get t id) rfl,Hr mF kS d.map λI w m J=>Ok.mk ⟨f,rfl,(d.drop w m (d.ok.del v)).at,?_,λ_ P=>.inl P⟩⟩;exact g.af.then (m.mono λK _ c=>by rw[c];exact d.Fr)
def EI{D:al}(d:aS b a f D){k g:ByteArray}:
  ZG 198 #[XL a,.string k,.string g] b (Ok (sZ b a f (D.rename k g))):=by
 refine qi (PA.mk λw1 J s1 K=>PA.mk λX o s2 L=>PA.mk λw3 h s3 Y=>⟨_,ae (h.get (o.get K id) id) rfl,_,ae (h.get L id) rfl,PC.ok (s_ (((d.ah J).ah o).ah h) (k:=k) (g:=261)
  (body:=λD Z=>if cJ g then(0,(D.sX k).ef g {Z with Au:=true})else(1,D)) kR λhd s t b1 x e M u=>?_) λa0 w' d=>jZ a0 w' ((J.ah o).ah h) d⟩)
 have i:=u.get (h.get (o.get K id) id) λP=>by have:=d.aC _ P;omega
 have v:=u.get (h.get L id) λP=>by have:=d.aC _ P;omega
 have N:=u.get Y λP=>by have:=d.aC _ P;omega
 have w:=cx M;have y:=e.get M;refine nI ⟨_,ae N rfl,PC.ok te ?_⟩;rintro _ w5 ⟨rfl,z⟩;refine⟨_,rfl,an.not (an.mk (λp=>λw6 a6=>?_) (λp=>Ok.mk ?_))⟩
 ·have j:ai s w6:=z.ah a6.af
  have q:=e.ah j;refine⟨_,ae (j.get i id) rfl,a,0,rfl,some t,ae q.head rfl,_,ae (j.get v id) rfl,Hr mF kS q.map λw7 a7 A b8=>λB C=>?_⟩;have a8:=q.drop a7 A (q.ok.del k);have E:=a8.ah C.af;have O:∀c,c=t->f c:=λc P=>by rw[P];exact e.Fr
  have F:ak f s B:=(j.af.then (A.mono λc _ P=>O c P)).ah C.af;have Q:∀{c:Nat} {R:Obj},s.heap[c]? =some R->b.heap.size<=c->B.heap[c]? =some R:=λP b9=>F.get P λhF=>by have:=d.aC _ hF;omega
  have l:=e.Ki _ w;have S:eK B (rJ.q x) (rJ.G x) (rJ.f x):=(((e.each.each _ w).af j λ_ _ d=>d).af A λc P=>(l c P).2.2).af C.af λ_ _ d=>d;have a1:b.heap.size<=X.heap.size:=oM
  refine⟨_,ae (Q i (Q4 _)) rfl,a,0,rfl,some t,ae E.head rfl,g,ae (Q N a1) rfl,iI mF kS E.map λw9 a9 H c0=>⟨x.q,0,rfl,?_⟩⟩;have b0:=e.ok.fits;have T:=vw (l:=D.cE.files) (k:=k);rw[y]at T;simp only[Option.map_some,Option.getD_some]at T;have b6:=uS (l:=D.cE.files) (k:=k) (by rw[y];rfl);have b7:=e.ok.many;have a2:=e.ok.Qn _ (cx y);have U:∀m:cD,m.bytes=x.f.bytes->m.synced=x.f.synced->((D.cE.sX k).ef g m).Ok:=λm i v=>(e.ok.del k).put p (by
   show m.bytes.length+eJ (bO D.cE.files k)<=D.cE.most;unfold al.used at b0;rw[i];omega) (by show(bO D.cE.files k).length<64;omega) (by rw[i,v];exact a2)
  have b2:=E.put (q:=x.q) (G':=x.G) a9 H S (λa3 hy c2 c P b3=>by
   obtain⟨b4,b5⟩:=Cz e.each.tidy hy;exact e.each.apart _ w a3 b4 (λI=>b5 I.symm) c P b3) (λc P=>(l c P).2) (U x.f rfl rfl)
  have V:eK w9 x.q x.G x.f:=S.af H λc P=>(l c P).2.2;refine V.Oi λc3 a4 a5 c1=>Ok.mk ?_;obtain⟨F',n,W⟩:=b2.ft (k:=g) (x:=⟨x.q,x.G,x.f⟩) (by rw[b_];simp) a4 ⟨a5.mono λc _ P=>P▸V.self,λ_ d=>.inl d⟩ (by
   unfold al.ef;simp only[Bd];exact U {x.f with Au:=true} rfl rfl)
  rw[p,Zx rfl];have I:((D.cE.sX k).ef g x.f).ef g {x.f with Au:=true}=(D.cE.sX k).ef g {x.f with Au:=true}:=by
   unfold al.ef;simp only[Bd]
  refine⟨F',rfl,by rw[<-I];exact n.at,⟨?_,λc P=>?_⟩⟩
  ·exact(F.then (H.mono λc _ P=>O c P)).then (W.af.mono λc _ P=>P.elim id λd=>(l c d).1)
  ·rcases W.new c P with(r|r)|r
   ·exact .inl r
   ·exact .inl (l c r).1
   ·have:=F.size;exact .inr oM
 ·rw[p];exact⟨f,rfl,(e.ah z).at,z.af,λ_ d=>.inl d⟩
def vy{D:al}(P:aS b a f D):
  ZG 169 #[XL a,.string v] b (Ok (sZ b a f (D.create v))):=by
 refine qh (PA.mk λw1 H s1 I=>PA.mk λw2 n s2 N=>⟨_,ae (n.get I id) rfl,PC.ok (I_ ((P.ah H).ah n) (g:=242)
  (body:=λD=>if cJ v then(if(az D.files v).isSome then(16,D)else if 64<=D.files.length then(12,D)else(0,D.ef v ⟨[],0,false⟩))else(1,D)) kR λhd r O s=>?_) λQ R P=>jZ Q R (H.ah n) P⟩)
 obtain⟨g,t,c⟩:=O.open;have u:=s.get (n.get I id) λd=>by have:=P.aC _ d;omega
 have w:=s.get N λd=>by have:=P.aC _ d;omega
 refine nH ⟨_,ae w rfl,PC.ok te ?_⟩;rintro _ x ⟨rfl,h⟩;refine⟨_,rfl,an.not (an.mk (λi=>?_) (λi=>Ok.mk ?_))⟩
 ·have y:=c.ah h
  have J:∀l,(Instr.lookup 140 (.map (some g)) (.string v) false).run XP (x.drewN l)= .ok ((az (t.map iy) v).getD (.pointer none)) (x.drewN l):=λl=>by
   have:=ep mF kS (y.map.af (ak.drewN (S:=λ_=>False) x l) id) v false;simpa using this
  have S:∃j:ZH,(az (t.map iy) v).getD (.pointer none)= .pointer j/\j.isSome=(az D.cE.files v).isSome:=by
   rcases c.box v with⟨z,A⟩|⟨T,b0,bm,z,A⟩
   ·exact⟨none,by rw[A];rfl,by rw[z];rfl⟩
   ·exact⟨XM T.q,by rw[A];rfl,by rw[z];rfl⟩
  obtain⟨j,U,B⟩:=S;rw[U]at J;refine⟨_,ae (h.get u id) rfl,a,0,rfl,some g,ae y.head rfl,v,ae (h.get w id) rfl,j,J,j.isSome,λl=>nZ uF _ _ j _,λV C=>an.mk (λW=>Ok.mk ?_) (λK=>?_)⟩
  ·rw[i,Zx rfl,Zx (by rw[<-B];exact W)]
   exact⟨f,rfl,(y.ah C.af).at,ai.af (h.ah C.af),λ_ P=>.inl P⟩
  ·have o:ai r V:=h.ah C.af
   have E:=c.ah o;have a8:(t.map iy).length=D.cE.files.length:=by rw[c.files];simp
   refine⟨_,ae (o.get u id) rfl,a,0,rfl,some g,ae E.head rfl,Qo mF E.map ⟨_,rfl,an.dec (λa9=>Ok.mk ?_) (λb3=>λm X=>?_)⟩⟩
   ·rw[i,Zx rfl,Zq (by rw[<-B,K];simp),Zx oM]
    exact⟨f,rfl,E.at,o.af,λ_ P=>.inl P⟩
   ·have k:ai r m:=o.ah X.af
    have p:=c.ah k;have b4:=c.map.lt;have b5:=ay c.head;have a7:b.heap.size<=r.heap.size:=by have:=s.size;omega
    have L:∀e,b.heap.size<=e->e≠g:=λe d a2=>by have:=P.aC g c.Fr;omega
    refine⟨(·=g),L _ (Q4 _),_,ae (k.get u id) rfl,a,0,rfl,c.pr,some g,ae p.head rfl,L _ oM,v,ae (k.get w id) rfl,PA.mk λM q s7 Y=>⟨q.af,iI mF kS (p.ah q).map λw8 Z F b6=>⟨F,Ok.mk ?_⟩⟩⟩;have a3:=p.ah q;have a0:eK M m.heap.size (·=m.heap.size) ⟨[],0,false⟩:=⟨⟨none,0,0,λ_=>False,Y,aO.nil M,λ_ P=>P.elim,λP=>P⟩,rfl,λe d=>oM⟩
    have a4:(D.cE.ef v ⟨[],0,false⟩).Ok:=c.ok.put i (by have:=c.ok.fits;simpa using this) oM (Q4 _);have a5:=a3.put (q:=m.heap.size) (G':=(·=m.heap.size)) Z F a0 (λa1 hy _ e d a6=>by have:=(p.each.each a1 hy).aC e a6;omega) (λe d=>by have:=k.size;omega) a4;rw[i,Zx rfl,Zq (by rw[<-B,K];simp),Zq oM];refine⟨_,rfl,a5.at,⟨(k.af.ah q).then (F.mono λe _ d=>by rw[d];exact c.Fr),λe d=>d.imp id λP=>by have:=k.size;omega⟩⟩
 ·rw[i]
  exact⟨f,rfl,(c.ah h).at,h.af,λ_ P=>.inl P⟩
def fK(P:List (ByteArray×rJ)):Nat:=(P.map λa=>a.2.f.bytes.length).sum
def Bf(P:List (ByteArray×rJ)):fK P=eJ (P.map Av):=by unfold fK eJ;rw[List.map_map];rfl
def Kj{left:List (ByteArray×rJ)}(d:left.map iy=f5++(v,u)::g9):
  ∃P a b,left=P++(v,a)::b/\f5=P.map iy/\g9=b.map iy/\u=ptr a.q:=by
 obtain⟨P,k,e,f,g⟩:=List.map_eq_append_iff.1 d;obtain⟨h,b,i,c,j⟩:=List.map_eq_cons_iff.1 g;obtain⟨l,a⟩:=h;simp only[iy,Prod.mk.injEq]at c;obtain⟨rfl,rfl⟩:=c;exact⟨P,a,b,by rw[e,i],f.symm,j.symm,rfl⟩
def Kk{D:al}(h:aS b a f D):
  ZG 224 #[XL a] b (Ok λk i=>k= XH D.room/\ai b i):=by
 obtain⟨l,c,d⟩:=h.open;have Q:=d.ok.most;have m:=d.ok.fits;unfold al.used at m;rw[d.files,<-Bf]at m;refine sK ⟨a,0,rfl,_,ae d.head rfl,a,0,rfl,some l,ae d.head rfl,mapRange mF d.map λR v w S=>?_⟩;refine⟨λn o i=>∃left:List (ByteArray×rJ),dK i b.heap.size l Value.string (c.map iy) (left.map iy)/\n=left.length/\o=(D.most:Int)-fK c+fK left/\fK left<=fK c/\ai b i/\∀P∈left,P∈c,
  ⟨_,c,v,rfl,oM,Q4 _,w,λ_ h=>h⟩,?_⟩
 rintro n o T U ⟨left,x,rfl,rfl,V,p,q⟩;refine uT x (λy=>.inl ⟨rfl,Ok.mk ⟨?_,p⟩⟩) λj k W X r z A B C Y=>.inr ⟨_,_,rfl,yp B ?_⟩
 ·have:left=[]:=by simpa using y
  subst this;simp only[fK,List.map_nil,List.sum_nil,al.room,al.used];rw[d.files,<-Bf];simp[fK]
 ·obtain⟨g,P,e,rfl,rfl,rfl,rfl⟩:=Kj z
  have E:(j,P)∈c:=q _ sM;have s:ai b r:=p.new C λe Z=>.inr oM;have F:eK r P.q P.G P.f:=(d.each.each _ E).af s λ_ _ h=>h;obtain⟨H,t,I,F0,J,K,h3,h4⟩:=F.body;have L:=K.len dC;have M:fK (g++(j,P)::e)=fK (g++e)+P.f.bytes.length:=by simp[fK];omega
  have N:XG .i64 ((D.most:Int)-fK c+fK (g++(j,P)::e)-((t:Nat):Int))=(D.most:Int)-fK c+fK (g++e):=by
   rw[wrap_i64 bb,L,M];omega
  refine⟨_,_,rfl,P.q,0,rfl,H,t,I,ae J rfl,(g++e).length,sM,g++e,?_,rfl,N,oM,s,λO u=>q O ?_⟩
  ·rw[Q3];exact A
  ·simp only[Q6,Q2]at u⊢;exact u.imp id .inr
def vz{D:al}(h:aS b a f D)(e:Row fF 1 b a6 d c w)(X:d=none->c=0/\i=0)(x:∀P,a6 P->P<b.heap.size/\¬f P):
  ZG 156 #[XL a,.string v,.slice d c i] b (Ok (sZ b a f (D.append v w))):=by
 have K:=e.len;have Y:=e.dE;unfold aN at Y;refine qf (PA.mk λw1 y s1 L=>PA.mk λw2 l s2 Z=>⟨_,ae (l.get L id) rfl,PC.ok (s_ ((h.ah y).ah l) (k:=v) (g:=223)
  (body:=λD M=>if(w.length:Int)>D.room then(12,D)else(0,D.ef v {M with bytes:=M.bytes++w})) kR λhd r a0 b6 g j z s=>?_) λa1 w' h=>jZ a1 w' (y.ah l) h⟩)
 have e1:=s.get (l.get L id) λe=>by have:=h.aC _ e;omega
 have N:=s.get Z λe=>by have:=h.aC _ e;omega
 have a4:Row fF 1 r a6 d c w:=((e.ah y).ah l).af s λP e=>(x P e).2;have A:=j.get z;refine nE λw4 t=>⟨λ_=>False,id,d,c,i,ae (t.af (S:=λ_=>False)|>.get N id) rfl,_,ae (t.af (S:=λ_=>False)|>.get e1 id) rfl,PC.ok (Kk (j.ah t.af).at) ?_⟩
 rintro _ w5 ⟨rfl,O⟩;have B:ai r w5:=(bG.af t).then O;refine⟨_,rfl,O,an.dec (λa5=>Ok.mk ?_) (λa2=>λm a7=>?_)⟩
 ·rw[Zx (by rw[<-K];exact a5)]
  exact⟨f,rfl,(j.ah B).at,B.af,λ_ h=>.inl h⟩
 ·have n:ai r m:=B.ah a7.af
  have C:=j.ah n;have Q:=cx z;have E:eK m g.q g.G g.f:=C.each.each _ Q;obtain⟨u,R,fc,F0,F,o,H,S⟩:=E.body;have b7:=o.len dC;have b8:g.f.bytes.length<=262144:=j.ok.len (cx A);have a8:∀P,g.G P->f P/\P≠a/\P≠a0:=C.Ki _ Q;refine⟨g.q,0,rfl,u,R,fc,ae F rfl,d,c,i,ae (n.get N id) rfl,?_⟩;have a3:∀P,a6 P->P<m.heap.size/\aE u≠some P:=λP e=>⟨by have:=(x P e).1;have:=s.size;have:=n.size;omega,λk=>(x P e).2 (a8 P (H P (o.self P k))).1⟩
  have b9:D.cE.room<=262144:=by have:=j.ok.most;unfold al.room;omega
  refine tf o sk (a4.ah n) X a3 ba (by unfold maxLen;omega) λp c' w7 F' I J _ T=>?_;have hq:aE u≠some g.q:=λk=>S (o.self _ k);have c0:=ay F;have q:aE p≠some g.q:=λk=>by rcases T _ k with h|h;exact S h;omega
  refine⟨_,_,_,rfl,g.q,0,rfl,PS.mk (J.get F hq) sM λU V s8 g8=>Ok.mk ?_⟩;have W:¬((w.length:Int)>D.cE.room):=by rw[<-K];exact a2
  rw[Zq W];have a9:∀P,aE u=some P->g.G P:=λP k=>H P (o.self P k);have b0:eK U g.q (λP=>P=g.q\/aE p=some P) {g.f with bytes:=g.f.bytes++w}:=
   ⟨⟨p,R+c,c',λP=>aE p=some P,g8,I.alone.af V (λP e b1=>q (by rw[<-b1];exact e)),λP e=>.inr e,q⟩,.inl rfl,by
    rintro P (rfl|e)
    ·have:=J.size;omega
    ·have:=I.aC P (I.self P e);omega⟩
  have b2:du g.G m (λP=>P=g.q\/aE p=some P) U:=⟨(J.mono λP _ e=>a9 P e).then (V.mono λP _ e=>e▸E.self),by
   rintro P (rfl|e)
   ·exact .inl E.self
   ·exact(T P e).imp (λh=>H P h) id⟩
  have b3:(D.cE.ef v {g.f with bytes:=g.f.bytes++w}).Ok:=j.ok.set A (by
   unfold al.room at W;simp only[QX];omega) (by have:=j.ok.Qn _ (cx A);simp only[QX];show g.f.synced<=_;have h':g.f.synced<=g.f.bytes.length:=this;omega)
  obtain⟨F2,b4,b5⟩:=C.ft z b0 b2 b3;exact⟨F2,rfl,b4.at,(du.mk n.af λ_ h=>.inl h:du f r f m).trans b5⟩
def uU{D:al}(h:aS b a f D):
  ZG 181 #[XL a,.string v] b (Ok λm n=>∃j,m= .tuple #[j,XH (D.read v).2]/\nX fF 5 b (D.read v).1 j n):=by
 obtain⟨k,C,c⟩:=h.open;have P:nX fF 5 b [] (.slice none 0 0) b:=⟨none,0,0,λ_=>False,rfl,aO.nil b,ak.refl _,λ_ h=>h.elim⟩
 rcases c.box v with⟨g,i⟩|⟨e,E,o,g,i⟩
 ·refine jX ⟨a,0,rfl,some k,ae c.head rfl,wX mF kS c.map ?_⟩
  rw[i];refine⟨_,rfl,a,0,rfl,_,ae c.head rfl,an.mk (λd=>Ok.mk ?_) (λd=>gW uF ⟨_,rfl,an.tt rfl (Ok.mk ?_)⟩)⟩
  ·unfold al.read;rw[d,Zx rfl];exact⟨_,rfl,P⟩
  ·unfold al.read;rw[d,Zq sM,g];exact⟨_,rfl,P⟩
 ·refine jX ⟨a,0,rfl,some k,ae c.head rfl,wX mF kS c.map ?_⟩
  rw[i];refine⟨_,rfl,a,0,rfl,_,ae c.head rfl,an.mk (λd=>Ok.mk ?_) (λd=>gW uF ⟨_,rfl,an.ff rfl ?_⟩)⟩
  ·unfold al.read;rw[d,Zx rfl];exact⟨_,rfl,P⟩
  ·have p:eK b e.q e.G e.f:=c.each.each _ o
   obtain⟨q,r,s,F,t,l,H,I⟩:=p.body;have J:e.f.bytes.length<=262144:=c.ok.len (cx g);refine⟨e.q,0,rfl,q,r,s,ae t rfl,PC.ok (jw (l.row dC ba) l.aC) ?_⟩;rintro _ K ⟨u,w,x,y,rfl,z,A,B⟩;unfold al.read;rw[d,Zq sM,g];exact⟨_,_,_,rfl,Ok.mk ⟨_,rfl,u,w,x,y,rfl,z,A,B⟩⟩
def Bg{D:al}(k:aS b a f D):
  ZG 176 #[XL a] b (Ok (nX Md 9 b D.list)):=by
 obtain⟨h,i,P⟩:=k.open;have z:=P.ok.many;have A:i.length=D.files.length:=by rw[P.files];simp
 refine sH ⟨a,0,rfl,some h,ae P.head rfl,PC.ok (φ:=λl e=>l= .func (.func 296) #[] #[XL b.heap.size]/\ai b e/\e.heap.size=b.heap.size+1/\
  e.heap[b.heap.size]? =some (.cells #[.map (some h)] 140 (0,0))) (dx (PA.mk λm c j g=>Ok.mk ⟨rfl,c,j,g⟩)) ?_⟩
 rintro _ m ⟨rfl,c,j,g⟩;refine⟨_,rfl,PC.ok (wN (P.map.ah c) (λB n=>?_) (by rw[Q8];unfold aN;omega) g) ?_⟩
 ·obtain⟨d,o,rfl⟩:=Xk.1 n
  have:=P.ok.names (Av d) (by rw[P.files];exact Xk.2 ⟨d,o,rfl⟩);unfold cJ at this;simp only[QK,Zk]at this;have C:d.1.size<=16:=this.1.2;show d.1.size<=maxLen;unfold maxLen;omega
 ·rintro _ E ⟨p,q,r,s,rfl,t,u,v⟩
  refine⟨_,_,_,rfl,Ok.mk ⟨p,q,r,s,rfl,?_,c.ah u,λw x=>by have:=v w x;omega⟩⟩;have y:qC ((i.map iy).map (·.1))=D.list:=by unfold al.list;rw[P.files,List.map_map,List.map_map];rfl
  rw[<-y];exact t
end
end Go.Proofs.YtblabbpipmodgaaGreatDoor
namespace Go.aw
open Go
def dV(P:List UInt8):ByteArray:=⟨P.toArray⟩
def oY(P:List UInt8):(dV P).data.toList=P:=by simp[dV]
def Rl(P:ByteArray):dV P.data.toList=P:=by simp[dV]
variable{c1 w:List UInt8}{a:Nat}{Q X:Operand}{h:Program}{g:TypeId}{m s:XR}{b:World}
def Jq(P:dV w=dV c1):w=c1:=by rw[<-oY w,P,oY]
def gM(P:List UInt8):(dV P).size=P.length:=by simp[dV,ByteArray.size]
def oV(P:ByteArray):Int×Bool:=match gV P.data.toList with
 |some a=>(a,true)
 |none=>(0,false)
def TJ{a P:List UInt8}(d:a.length+P.length<=1000000000)(c:m (.string (dV (a++P))) b):
  aD h (do eqGuard .add g Q X (.string (dV a)) (.string (dV P));binOp .add g (.string (dV a)) (.string (dV P))) b m s:=by
 refine aD.mk (v:=.string (dV a++dV P)) (w':=b) ?_ ?_
 ·rw[Sem.run_bind,show(eqGuard .add g Q X (.string (dV a)) (.string (dV P))).run h b= .ok () b from rfl,Result.andThen_ok,binOp_string_add,run_string_add_sum b (dV a) (dV P) (by rw[gM,gM];omega)]
 have:dV a++dV P=dV (a++P):=by
  apply ByteArray.ext;simp[dV]
 rw[this];exact c
def ai.Pg{P:Array Obj}:ai b (Sort.grow (b.drewN a) P):=
 ⟨rfl,rfl,rfl,sM,λd c _=>by rw[Sort.heap_grow_old _ _ (by simpa using c)];rfl⟩
end Go.aw
namespace Go.Proofs.YtblabbpipmodgaaGreatDoor
section
open Go.aw
structure Laid (w:World):Prop where
 oX:qu w
 pow:Lib.TabIs XP w "internal/strconv.uint64pow10" .u64 Lib.pow10Tab
variable{v:ByteArray}{e:Int}{c1 w:List UInt8}{b k:World}
def Laid.ah(P:Laid b)(a:ai b k):Laid k:=⟨P.oX.ah a,Lib.tabBelow_of_tabIs P.pow k a.below⟩
def strconv_Itoa{P:Int}{a:World}(d:Laid a)(b:aP P):ZG 173 #[XH P] a (Ok λe c=>e= .string (dV (Lib.itoa P))/\ai a c):=by
 refine(Any.strconv_Itoa Tryz.No P b.1 b.2 a d.pow).mono ?_;rintro f c ⟨rfl,g,h,rfl⟩;exact Ok.mk ⟨rfl,ai.Pg⟩
def lL(a:Laid b)(c:aP e):ZG 120 #[XH e] b (Ok λd f=>d= .string (dV (aM e))/\ai b f):=by
 refine xR (an.dec (λP=>?_) (λh=>an.dec (λP=>?_) (λi=>PC.ok (strconv_Itoa a c) ?_)))
 ·exact Ok.mk ⟨by unfold aM;rw[Zx (.inl P)];rfl,ak.refl _⟩
 ·exact Ok.mk ⟨by unfold aM;rw[Zx (.inr P)];rfl,ak.refl _⟩
 rintro _ j ⟨rfl,g⟩;refine⟨_,rfl,TJ (a:=df) ?_ ⟨_,rfl,Ok.mk ⟨?_,g⟩⟩⟩
 ·have:=mS (u:=e.toNat) oM
  unfold Lib.itoa;rw[Zq oM];show 4+_<=_;omega
 ·rw[kq oM oM]
  unfold Lib.itoa;rw[Zq oM]
def zu:ZG 328 #[.string (dV w),.string (dV c1)] b (Ok λc d=>c= .bool (decide (w.take c1.length=c1))/\b=d):=by
 refine fX ?_;rw[gM,gM];refine an.dec (λP=>⟨oM,oM,Ok.mk ⟨?_,rfl⟩⟩) (λP=>Ok.mk ⟨?_,rfl⟩)
 ·rw[Qx]
  have a:ByteArray.toList (ByteArray.extract (dV w) 0 c1.length)=w.take c1.length:=by
   rw[ByteArray.toList_eq,ByteArray.data_extract];simp[dV]
  have e:ByteArray.toList (dV c1)=c1:=by rw[ByteArray.toList_eq,oY]
  rw[a,e]
  congr 1
  by_cases P:w.take c1.length=c1<;>simp[P]
 ·have:w.take c1.length≠c1:=λa=>by have:=Zj List.length a;simp at this;omega
  rw[Xv this]
def AO:ZG 248 #[.string (dV w),.string (dV c1)] b (Ok λa c=>a= .tuple (if w.take c1.length=c1 then #[.string (dV (w.drop c1.length)),.bool true]else #[.string (dV w),.bool false])/\b=c):=by
 refine qk (PC.ok (φ:=λa c=>a= .tuple (if w.take c1.length=c1 then #[.string (dV (w.drop c1.length)),.bool true]else #[.string (dV w),.bool false])/\b=c) (fV (PC.ok zu ?_)) ?_)
 ·rintro _ _ ⟨rfl,rfl⟩
  refine⟨_,rfl,?_⟩;rw[gM,gM]
  by_cases P:w.take c1.length=c1
  ·rw[Zx P,Zy P]
   have f:c1.length<=w.length:=by have:=Zj List.length P;simp at this;omega
   refine an.ff rfl ⟨oM,oM,Ok.mk ⟨?_,rfl⟩⟩;have d:ByteArray.extract (dV w) (Int.toNat ((c1.length:Nat):Int)) w.length=dV (w.drop c1.length):=by
    apply ByteArray.ext;rw[Qx,ByteArray.data_extract];have e:List.take (w.length-c1.length) (List.drop c1.length w)=List.drop c1.length w:=Qz sM;simp[dV,e]
   rw[d]
  ·rw[Zq P,Xv P]
   exact an.tt rfl (Ok.mk ⟨rfl,rfl⟩)
 ·rintro _ _ ⟨rfl,rfl⟩
  split
  ·exact⟨_,_,rfl,Ok.mk ⟨rfl,rfl⟩⟩
  ·exact⟨_,_,rfl,Ok.mk ⟨rfl,rfl⟩⟩
def HU(y:Laid b):ZG 177 #[.string v] b (Ok λl e=>l= .tuple #[XH (oV v).1,.bool (oV v).2]/\ai b e):=by
 rw[<-Rl v];generalize v.data.toList=f;have d:(⟨#[115,101,103,46]⟩:ByteArray)=dV df:=rfl;unfold oV;rw[oY];refine uC ?_;rw[d];refine PC.ok AO ?_;rintro _ _ ⟨rfl,rfl⟩;have no:∀e,gV f=none->ai b e->Ok (λl e=>l= .tuple #[XH (match gV f with|some m=>((m:Int),true)|none=>(0,false)).1,.bool (match gV f with|some m=>((m:Int),true)|none=>(0,false)).2]/\ai b e) (.returned (.tuple #[XH 0,.bool false])) e:=λe p z=>by
  rw[p];exact Ok.mk ⟨rfl,z⟩
 by_cases g:f.take df.length=df
 ·rw[Zx g]
  refine⟨_,_,rfl,an.ff rfl ?_⟩;have q:f=df++f.drop 4:=by
   have:=ZX 4 f;rw[show f.take 4=df from g]at this;exact this.symm
  change an (decide (((ByteArray.size (dV (f.drop 4)):Nat):Int)>12)) _ _
  generalize S:f.drop 4=a at q;subst q;rw[gM];refine an.dec (λp=>no _ (IE (by rw[QX];show 16<4+_;omega)) (ak.refl _)) (λT=>?_);refine yA Tryz.underlying9 λU A B V=>⟨λr s e=>∃P,r=a.length-P/\P<=a.length/\s=(d_ (a.take P):Int)/\e.heap[b.heap.size]? =some (.stringIter (dV a) P)/\ai b e/\(a.take P).all fC=true,⟨_,0,rfl,Qj _,rfl,A,B,rfl⟩,?_⟩
  rintro r s W X ⟨P,rfl,Y,rfl,C,h,i⟩;have E:=vi _ i;refine CK C (λF=>.inl ⟨rfl,?_⟩) λd t u j Z=>.inr ⟨_,_,rfl,?_⟩
  ·rw[gM]at F
   rw[Qz oM]at i E⊢;have a0:10 ^ a.length<=10 ^ 12:=Nat.pow_le_pow_right oM oM;have H:(10:Nat) ^ 12=1000000000000:=dC
   refine PC.ok (lL (y.ah h) bb) ?_;rintro _ t ⟨rfl,j⟩;have w:=Dx i oM;refine⟨_,rfl,an.TR (λI=>no _ ?_ (h.then j)) (λJ=>?_)⟩
   ·rw[w,Zq λK=>I (by rw[K])]
   ·rw[w,Zx (Jq J)]
    exact Ok.mk ⟨rfl,h.then j⟩
  ·have n:P<a.length:=by rwa [gM]at d
   have k:ai b t:=h.new j λa1 x=>.inr oM;have o:a[P]? =some ((dV a)[P]'d):=by
    rw[Qq n]
    congr 1
   have c:fC ((dV a)[P]'d)=false->gV (df++a)=none:=λL=>Gi (List.all_eq_false.2 ⟨_,QZ o,by simp[L]⟩)
   by_cases x:((dV a)[P]'d).toNat<128
   ·rw[decode_ascii _ P d x]at u⊢
    simp only;refine an.dec (λM=>no _ (c ?_) k) (λN=>an.dec (λO=>no _ (c ?_) k) (λQ=>?_))
    ·unfold fC;exact Xv oM
    ·unfold fC;exact Xv oM
    ·have a2:10 ^(a.take P).length<=10 ^ 12:=Nat.pow_le_pow_right oM bc
     have H:(10:Nat) ^ 12=1000000000000:=dC
     refine⟨_,oM,P+1,rfl,oM,?_,u,k,?_⟩
     ·rw[Qw,o]
      show _=((d_ (a.take P++[_]):Nat):Int);rw[e_];have R:XG .i32 ((((dV a)[P]'d).toNat:Int)-48)=(((dV a)[P]'d).toNat:Int)-48:=by
       unfold XG;simp[IntKind.signed,IntKind.bits];omega
      rw[R,wrap_i64 (x:=(((dV a)[P]'d).toNat:Int)-48) bb,wrap_i64 (x:=10*_) bb,wrap_i64 bb];omega
     ·rw[Qw,o,List.all_append,i]
      simp[fC];omega
   ·have hh:=(decode_high _ P d oM).1
    refine an.dec (λM=>oM) (λN=>an.dec (λO=>no _ (c ?_) k) (λQ=>oM));unfold fC;exact Xv oM
 ·rw[Zq g]
  exact⟨_,_,rfl,an.tt rfl (no _ (Le g) (ak.refl _))⟩
end
section
open Go.aw
def Su:il XP 27 3 1 8:=⟨kR,kR,dC⟩
def eI(a:List Int)(P:Int):Int:=if P<0 then 0 else max (a.getD P.toNat 0) 0
def CL{xs:List Int}{i:Int}{x:Int}(a:0<=i)(P:xs[i.toNat]? =some x):eI xs i=max x 0:=by
 unfold eI;rw[Zq oM];simp[List.getD,P]
variable{e o:Int}{a9 t:List Int}{a c i q:Nat}{d r:ZH}{b:World}
def EM{xs:List Int}(P:(xs.length:Int)<=e):eI xs e=0:=by
 unfold eI;split
 ·rfl
 ·have:xs[e.toNat]? =none:=by simp;omega
  simp[List.getD,this]
def lZ{i:Int}(g:Ints b d a t):
  ZG 105 #[.slice d a c,XH i] b (Ok λh j=>h= XH (eI t i)/\b=j):=by
 refine Kb ?_;refine an.mk (λe=>?_) (λe=>an.mk (λP=>?_) (λP=>?_))
 ·have:=XV e
  exact Ok.mk ⟨by simp[eI,this],rfl⟩
 ·have P:=XV P
  exact Ok.mk ⟨by rw[EM (by rw[<-g.len];exact P)],rfl⟩
 ·have e:=Xy e
  have P:=Xy P;obtain⟨k,f,l,rfl,o,m,p,n⟩:=g.at (i:=i) oM oM;refine⟨k,f,rfl,oM,oM,l,n,Ok.mk ⟨?_,rfl⟩⟩;rw[CL oM m]
  congr 1
  omega
def lY(a b:List Int)(c:Nat):List Int:=(List.range c).map λ(P:Nat)=>max (eI a P) (eI b P)
def gQ(P a:List Int):List Int:=lY P a (max P.length a.length)
def Gu(a b:List Int)(P:Nat):lY a b (P+1)=lY a b P++[max (eI a P) (eI b P)]:=by simp[lY,List.range_succ]
def qB(a b:List Int)(P:Nat):(lY a b P).length=P:=by simp[lY]
def Pp(a:World)(f:TypeId)(g:List Int)(h:Value)(b:World):Prop:=
 ∃P c d,h= .slice P c d/\Own b f 1 P c d (ints g)/\ai a b/\∀e,aE P=some e->a.heap.size<=e
def Pq:(if o>e then o else e)=max e o:=oM
def xH(j:Ints b d a t)(P:Ints b r c a9):
  ZG 100 #[.slice d a i,.slice r c q] b (Ok (Pp b 3 (gQ t a9))):=by
 have v:=j.len;have w:=P.len;have x:=j.dE;have y:=P.dE;unfold aN at x y;refine Hg ⟨λn k e o p s=>p=(e:Int)/\e<=max a c/\n=max a c-e/\Own s 3 1 k e o (ints (lY t a9 e))/\ai b s/\∀r,aE k=some r->b.heap.size<=r,
  ⟨_,rfl,oM,rfl,Own.nil _ _ _,ak.refl _,by simp[aE]⟩,?_⟩
 rintro n k e o p _ C ⟨rfl,E,rfl,u,f,l⟩;refine an.mk (λg=>?_) (λg=>?_)
 ·have g:=XV g
  refine PC.ok (lZ (j.ah f)) ?_;rintro _ _ ⟨rfl,rfl⟩;refine⟨_,rfl,PC.ok (lZ (P.ah f)) ?_⟩;rintro _ _ ⟨rfl,rfl⟩;refine⟨_,rfl,PA.mk λF m H z=>?_⟩;refine NQ Su (u.ah m) z ba λI J K A B h=>?_;refine⟨_,_,_,rfl,_,?_,?_,oM,rfl,?_,(f.ah m).new B ?_,?_⟩
  ·omega
  ·rw[wrap_i64 bb];simp
  ·rw[Gu,<-Pq];exact A
  ·intro r P;exact .inr (l r P.symm)
  ·intro r P
   rcases h with h|h
   ·exact l r (h▸P)
   ·rw[h]at P;cases P;have:=f.size;have:=m.size;omega
 ·have g:=Xy g
  have:e=max a c:=oM
  subst this;refine Ok.mk ⟨_,_,_,rfl,?_,f,l⟩;unfold gQ;rw[<-v,<-w];exact u
def vV(P a:List Int):Nat->Int
 |0=>0
 |k+1=>if eI P k<eI a k then LZ .i64 (vV P a k) 1 else if eI P k>eI a k then LZ .i64 (vV P a k) 2 else vV P a k
def pk(P a:List Int):Int:=vV P a (max P.length a.length)
def JG(h:Ints b d a t)(j:Ints b r c a9):
  ZG 101 #[.slice d a i,.slice r c q] b (Ok λp k=>p= XH (pk t a9)/\b=k):=by
 have s:=h.len;have u:=j.len;have v:=h.dE;have w:=j.dE;unfold aN at v w;refine Ka ⟨λm n o k=>∃P:Nat,o=P/\P<=max a c/\m=max a c-P/\n=vV t a9 P/\k=b,
  ⟨_,0,rfl,oM,rfl,rfl,rfl⟩,?_⟩
 rintro m n o _ x ⟨P,rfl,y,rfl,rfl,rfl⟩;refine an.mk (λg=>?_) (λg=>?_)
 ·have g:=XV g
  refine PC.ok (lZ h) ?_;rintro _ _ ⟨rfl,rfl⟩;refine⟨_,rfl,PC.ok (lZ j) ?_⟩;rintro _ _ ⟨rfl,rfl⟩;have l:XG .i64 ((P:Int)+1)=((P+1:Nat):Int):=by rw[wrap_i64 bb];simp
  refine⟨_,rfl,an.mk (λe=>?_) (λe=>an.mk (λf=>?_) (λf=>?_))⟩
  ·have e:=XV e
   exact⟨_,oM,P+1,l,oM,rfl,by simp[vV,e],rfl⟩
  ·have e:=Xy e
   have f:=XV f;exact⟨_,oM,P+1,l,oM,rfl,by simp[vV,e,f],rfl⟩
  ·have e:=Xy e
   have f:=Xy f;exact⟨_,oM,P+1,l,oM,rfl,by simp[vV,e,f],rfl⟩
 ·have g:=Xy g
  have:P=max a c:=oM
  subst this;exact Ok.mk ⟨by unfold pk;rw[<-s,<-u],rfl⟩

import Derived.Test.YtjgjkeponbeekaaGreatDoorKi9
import Derived.Laws.Runes
import Derived.Lib.AppendZeros
import Derived.StringKeys
import Derived.Lib.AppendIntMem
import Derived.Laws.Concat
set_option maxHeartbeats 4000000
set_option linter.all false
set_option maxRecDepth 100000
open Go.IntKind renaming wrap→XG
namespace Go.Proofs.YtjgjkeponbeekaaGreatDoor
open Go.au
def eV(b:UInt8):Bool:=(97<=b&&b<=122)||(48<=b&&b<=57)||b==46
def gX(n:ByteArray):Bool:=decide (1<=n.size)&&decide (n.size<=16)&&n.data.toList.all eV
structure cG where
 bytes:List UInt8
 synced:Nat
 lX:Bool
 deriving DecidableEq
structure al where
 most:Nat
 files:List (ByteArray×cG)
 qf:Bool
 left:Int
 dead:Bool
 deriving DecidableEq
def dZ(n:List (ByteArray×cG)):Nat:=(n.map λP=>P.2.bytes.length).sum
def al.used(D:al):Nat:=dZ D.files
structure al.Ok (D:al):Prop where
 most:D.most<=262144
 fits:D.used<=D.most
 many:D.files.length<=64
 tidy:Tidy D.files
 names:∀x∈D.files,gX x.1=true
 QS:∀x∈D.files,x.2.synced<=x.2.bytes.length
 AD:0<=D.left
 AE:aH D.left
variable{W l:Array Value}{K:Bool}{w:ByteArray}{f4:ByteArray×cG}{z:FuncId}{e:Int}{g8:List (ByteArray×cG)}{x:List UInt8}{a c:Nat}{f:XN}{d:ZH}{I j:Type}{b7:UInt8}{b k:World}{y:XU}{a8:cG}
def JW(h:f4∈g8):f4.2.bytes.length<=dZ g8:=by
 unfold dZ
 induction g8 with
 |nil=>cases h
 |cons P g8 n=>
  simp only[QY,List.sum_cons];rcases Q2.1 h with rfl|h
  ·omega
  ·have:=n h;omega
def al.Ok.len{D:al}(n:D.Ok)(P:f4∈D.files):f4.2.bytes.length<=262144:=by
 have:=JW P;have:=n.fits;have:=n.most;unfold al.used at*;omega
structure dJ (w:World) (q:Nat) (G:XN) (f:cG):Prop where
 body:∃a n cap F,w.heap[q]? =some (.cells #[.slice a n cap,XH f.synced,.bool f.lX] 239 (0,0))/\aO fx 5 F w a n cap f.bytes/\(∀b,F b->G b)/\¬F q
 self:G q
 aB:∀b,G b->b<w.heap.size
def dJ.af{S G:XN}(P:dJ b a G a8)(c:ak S b k)(f:∀n,G n->¬S n):dJ k a G a8:=by
 obtain⟨h,i,d,j,l,m,g,o⟩:=P.body;exact⟨⟨h,i,d,j,c.get l (f _ P.self),m.af c (λn e=>f n (g n e)),g,o⟩,P.self,λn e=>Qk (P.aB n e) c.size⟩
structure mZ where
 q:Nat
 G:XN
 f:cG
def ptr(n:Nat):Value:=XL n
def dH(n:ByteArray×mZ):ByteArray×Value:=(n.1,ptr n.2.q)
def uz(n:ByteArray×mZ):ByteArray×cG:=(n.1,n.2.f)
structure CZ (w:World) (L:List (ByteArray×mZ)):Prop where
 each:∀x∈L,dJ w x.2.q x.2.G x.2.f
 apart:∀x∈L,∀y∈L,x.1≠y.1->∀b,x.2.G b->¬y.2.G b
 tidy:Tidy L
structure aN (w:World) (p:Nat) (F:XN) (D:al):Prop where
 body:∃r L,w.heap[p]? =some (.cells #[XH D.most,.map (some r),.bool D.qf,XH D.left,.bool D.dead] 143 (0,0))/\bB w r Value.string (L.map dH)/\D.files=L.map uz/\CZ w L/\
  (∀x∈L,∀b,x.2.G b->F b/\b≠p/\b≠r)/\F r/\p≠r
 self:F p
 aB:∀b,F b->b<w.heap.size
 ok:D.Ok
variable{a2:List (ByteArray×mZ)}
def CZ.af{S:XN}(P:CZ b a2)(d:ak S b k)(e:∀n∈a2,∀a,n.2.G a->¬S a):CZ k a2:=
 ⟨λn c=>(P.each n c).af d (e n c),P.apart,P.tidy⟩
def aN.af{S d:XN}{D:al}(P:aN b a d D)(c:ak S b k)(e:∀n,d n->¬S n):aN k a d D:=by
 obtain⟨i,j,l,m,o,p,g,h,q⟩:=P.body;exact⟨⟨i,j,c.get l (e _ P.self),m.af c (e _ h),o,p.af c (λr s n f=>e n (g r s n f).1),g,h,q⟩,P.self,λn f=>Qk (P.aB n f) c.size,P.ok⟩
def aN.ah{D:al}(n:aN b a f D)(P:ai b k):aN k a f D:=n.af P λ_ _ n=>n
def qg(a:j->I)(P:List (ByteArray×j))(b:ByteArray)(c:j):(aI P b c).map (λn=>(n.1,a n.2))=aI (P.map λn=>(n.1,a n.2)) b (a c):=by
 induction P with
 |nil=>rfl
 |cons d P e=>
  obtain⟨n,f⟩:=d;simp only[aI,QY];split
  ·rfl
  ·simp[e]
def AF(a:j->I)(P:List (ByteArray×j))(b:ByteArray):(bV P b).map (λn=>(n.1,a n.2))=bV (P.map λn=>(n.1,a n.2)) b:=by
 induction P with
 |nil=>rfl
 |cons c P d=>
  obtain⟨n,e⟩:=c;simp only[bV,QY];split
  ·rfl
  ·simp[d]
def AG(a:j->I)(n:List (ByteArray×j))(b:ByteArray):aE (n.map λP=>(P.1,a P.2)) b=(aE n b).map a:=by
 induction n with
 |nil=>rfl
 |cons c n d=>
  obtain⟨P,e⟩:=c;simp only[aE,QY];split
  ·rfl
  ·exact d
def fy{P:List (ByteArray×j)}(c:Tidy P){a:j}{n:ByteArray×j}(h:n∈aI P w a):n=(w,a)\/(n∈P/\n.1≠w):=by
 by_cases b:n.1=w
 ·left
  have:=qh (c.aI w a) (k:=n.1) (v:=n.2) h;rw[qV,b]at this;simp at this;exact Prod.ext b this.symm
 ·rcases eQ h with rfl|h
  ·exact .inl rfl
  ·exact .inr ⟨h,b⟩
def ER{P:List (ByteArray×j)}(a:Tidy P){n:ByteArray×j}(b:n∈bV P w):n∈P/\n.1≠w:=by
 refine⟨fP b,λd=>?_⟩;have c:=qh (a.bV w) (k:=n.1) (v:=n.2) b;rw[MN a,d]at c;simp at c
def xk{l:List (ByteArray×cG)}{k:ByteArray}{f:cG}:dZ (aI l k f)+((aE l k).map λn=>n.bytes.length).getD 0=dZ l+f.bytes.length:=by
 unfold dZ
 induction l with
 |nil=>simp[aI,aE]
 |cons P l a=>
  obtain⟨b,c⟩:=P;simp only[aI,aE];split
  ·simp;omega
  ·simp only[QY,List.sum_cons]at a⊢;omega
def xl{l:List (ByteArray×cG)}{k:ByteArray}:dZ (bV l k)+((aE l k).map λn=>n.bytes.length).getD 0=dZ l:=by
 unfold dZ
 induction l with
 |nil=>simp[bV,aE]
 |cons P l a=>
  obtain⟨b,c⟩:=P;simp only[bV,aE];split
  ·simp;omega
  ·simp only[QY,List.sum_cons]at a⊢;omega
def wB{n:List (ByteArray×j)}{a:j}(P:(aE n w).isSome=true):(aI n w a).length=n.length:=by
 induction n with
 |nil=>simp[aE]at P
 |cons b n c=>
  obtain⟨e,f⟩:=b;simp only[aI,aE]at P⊢;split
  ·rfl
  ·rename_i d
   rw[Zq d]at P;simp[c P]
def aN.head{D:al}(P:aN b a f D):∃n,b.heap[a]? =some (.cells #[XH D.most,.map (some n),.bool D.qf,XH D.left,.bool D.dead] 143 (0,0)):=by
 obtain⟨n,d,c,_⟩:=P.body;exact⟨n,c⟩
def aN.JX{D n:al}(c:aN b a f D)(d:ak (·=a) b k)(j:∀P,b.heap[a]? =some (.cells #[XH D.most,.map (some P),.bool D.qf,XH D.left,.bool D.dead] 143 (0,0))->k.heap[a]? =some (.cells #[XH n.most,.map (some P),.bool n.qf,XH n.left,.bool n.dead] 143 (0,0)))(l:n.files=D.files)(m:n.Ok):aN k a f n:=by
 obtain⟨P,o,p,q,r,s,h,t,i⟩:=c.body;exact⟨⟨P,o,j P p,q.af d (λu=>i u.symm),l.trans r,s.af d (λv w e g=>(h v w e g).2.1),h,t,i⟩,c.self,λe g=>Qk (c.aB e g) d.size,m⟩
def aN.yS{D:al}(n:aN b a f D)(c:∀P,aN P a f {D with dead:=K}->ak f b P->P.heap.size=b.heap.size->y P):PS b ⟨a,0+4,none⟩ (.bool K) y:=by
 obtain⟨k,d⟩:=n.head;refine PS.mk d sM λP e h i=>c P (n.JX e (λl g=>?_) rfl ⟨n.ok.most,n.ok.fits,n.ok.many,n.ok.tidy,n.ok.names,n.ok.QS,n.ok.AD,n.ok.AE⟩) (e.mono λK _ j=>j▸n.self) h;rw[d]at g;cases g;exact i
def aN.Hq{D:al}(n:aN b a f D)(c:∀P,aN P a f {D with qf:=K}->ak f b P->P.heap.size=b.heap.size->y P):PS b ⟨a,0+2,none⟩ (.bool K) y:=by
 obtain⟨k,d⟩:=n.head;refine PS.mk d sM λP e h i=>c P (n.JX e (λl g=>?_) rfl ⟨n.ok.most,n.ok.fits,n.ok.many,n.ok.tidy,n.ok.names,n.ok.QS,n.ok.AD,n.ok.AE⟩) (e.mono λK _ j=>j▸n.self) h;rw[d]at g;cases g;exact i
def aN.Lr{D:al}(n:aN b a f D)(i:0<=e)(j:aH e)(c:∀P,aN P a f {D with left:=e}->ak f b P->P.heap.size=b.heap.size->y P):PS b ⟨a,0+3,none⟩ (XH e) y:=by
 obtain⟨o,d⟩:=n.head;refine PS.mk d sM λP g k l=>c P (n.JX g (λp h=>?_) rfl ⟨n.ok.most,n.ok.fits,n.ok.many,n.ok.tidy,n.ok.names,n.ok.QS,i,j⟩) (g.mono λq _ m=>m▸n.self) k;rw[d]at h;cases h;exact l
def MO:ZG 42 #[XH e] b (Ok λc a=>
  if e<64\/e>262144 then c= .tuple #[.pointer none,XH 1]/\a=b
  else∃d f,c= .tuple #[XL d,XH 0]/\aN a d f ⟨e.toNat,[],false,0,false⟩/\ai b a/\∀n,f n->b.heap.size<=n):=by
 refine Hb (an.dec (λP=>?_) (λP=>an.dec (λg=>?_) (λg=>?_)))
 ·exact Ok.mk (by rw[Zx (.inl P)];exact⟨rfl,rfl⟩)
 ·exact Ok.mk (by rw[Zx (.inr g)];exact⟨rfl,rfl⟩)
 ·refine PA.mk λi j o k=>PA.mk λl h p m=>Ok.mk ?_
  rw[Zq oM];refine⟨i.heap.size,λn=>b.heap.size<=n/\n<l.heap.size,rfl,⟨⟨b.heap.size,[],?_,bB.new (h.get k id),rfl,⟨sM,sM,by simp[Tidy]⟩,sM,oM,oM⟩,oM,λn P=>P.2,?_⟩,j.ah h,λn P=>P.1⟩
  ·rw[m]
   have:((e.toNat:Nat):Int)=e:=oM
   rw[this]
  ·exact⟨by show e.toNat<=_;omega,by simp[al.used,dZ],by simp,by simp[Tidy],by simp,by simp,by simp,by unfold aH;simp⟩
def al.OL(D:al)(n:Int):al:={D with qf:=true,left:=max n 0}
def MP{D:al}(k:aH e)(n:aN b a f D):ZG 91 #[XL a,XH e] b (Ok λd P=>d= .tuple #[]/\aN P a f (D.OL e)/\bL f b f P):=by
 have g:(if e>0 then e else 0)=max e 0:=oM
 refine tX ⟨a,0,rfl,n.Hq λl h i m=>⟨a,0,rfl,h.Lr oM (by unfold aH at*;omega) λo c j p=>Ok.mk ⟨rfl,?_,i.then j,λ_ n=>.inl n⟩⟩⟩;rw[g]at c;exact c
def al.dies(D:al):Bool:=D.dead||(D.qf&&D.left==0)
def al.dI(D:al):al:=if D.qf then{D with left:=D.left-1}else D
def al.gone(D:al):al:={D with dead:=true}
def JY{D:al}(k:aN b a f D){e:Int}{D':al}(A:enters XP z=true)(E:D.dies=false->∀n,aN n a f D.dI->ak f b n->n.heap.size=b.heap.size->ZG z (l++ #[]++W) n (Ok λg c=>∃d,g= XH e/\aN c a d D'/\bL f n d c)):
  ZG 233 #[XL a,.func (.func z) l W] b (Ok λg c=>∃d,g= XH (if D.dies then 15 else e)/\aN c a d (if D.dies then D.gone else D')/\bL f b d c):=by
 obtain⟨L,v⟩:=k.head;have m:∀n,D.dies=true->aN n a f {D with dead:=true}->ak f b n->Ok (λg c=>∃d,g= XH (if D.dies then 15 else e)/\aN c a d (if D.dies then D.gone else D')/\bL f b d c) (.returned (XH 15)) n:=
  λn h P F=>Ok.mk ⟨f,by rw[h];rfl,by rw[h];exact P,F,λ_ k=>.inl k⟩
 refine tk ⟨λn=>aN n a f D/\ak f b n/\n.heap.size=b.heap.size/\D.dies=false,?_,?_⟩
 ·refine⟨a,0,rfl,_,ae v rfl,an.mk (λh=>⟨a,0,rfl,k.yS λn P i q=>?_⟩) (λh=>⟨a,0,rfl,_,ae v rfl,an.mk (λo=>⟨a,0,rfl,_,ae v rfl,a,0,rfl,k.yS λn P i q=>?_⟩) (λo=>⟨a,0,rfl,k.yS λn P i q=>?_⟩)⟩)⟩
  ·obtain⟨w,p⟩:=P.head
   exact⟨a,0,rfl,true,ae p rfl,m n (by simp[al.dies,h]) P i⟩
  ·obtain⟨w,p⟩:=P.head
   refine⟨a,0,rfl,D.left==0,ae p rfl,an.mk (λr=>m n (by unfold al.dies;rw[o,r];simp) (by rw[r]at P;exact P) i) (λr=>⟨?_,i,q,by unfold al.dies;rw[h,r];simp⟩)⟩;have:({D with dead:=D.left==0}:al)=D:=by rw[r,<-h]
   rw[this]at P;exact P
  ·obtain⟨w,p⟩:=P.head
   refine⟨a,0,rfl,false,ae p rfl,?_,i,q,by simp[al.dies,h,o]⟩;have:({D with dead:=false}:al)=D:=by rw[<-h]
   rw[this]at P;exact P
 ·rintro M n ⟨P,i,q,t⟩
  obtain⟨w,p⟩:=P.head;have s:∀j,aN j a f D.dI->ak f b j->j.heap.size=b.heap.size->PC XP z (l++ #[]++W) j (λg c=>∃B:Int,g= XH B/\Ok (λg c=>∃d,g= XH (if D.dies then 15 else e)/\aN c a d (if D.dies then D.gone else D')/\bL f b d c) (.returned (XH B)) c)
    (λH c=>Ok (λg c=>∃d,g= XH (if D.dies then 15 else e)/\aN c a d (if D.dies then D.gone else D')/\bL f b d c) (.panicked H) c):=by
   intro j x u y;refine PC.ok (E t j x u y) ?_;rintro _ N ⟨d,rfl,I,J⟩;exact⟨e,rfl,Ok.mk ⟨d,by rw[t];rfl,by rw[t];exact I,(bL.mk u λ_ k=>.inl k:bL f b f j).trans J⟩⟩
  refine⟨a,0,rfl,_,ae p rfl,an.mk (λo=>?_) (λo=>?_)⟩
  ·have O:D.left≠0:=by
    intro C;simp[al.dies,o,C]at t
   have C:=P.ok.AD;have Q:=P.ok.AE;have K:XG .i64 (D.left-1)=D.left-1:=wrap_i64 (by unfold aH at*;omega);refine⟨a,0,rfl,_,ae p rfl,a,0,rfl,?_⟩;rw[K];refine P.Lr oM (by unfold aH at*;omega) λj x u y=>⟨z,l,W,rfl,A,s j ?_ (i.then u) (y.trans q)⟩
   unfold al.dI;rw[Zx o];exact x
  ·refine⟨z,l,W,rfl,A,s n ?_ i q⟩
   unfold al.dI;rw[Zq (by simp[o])];exact P
def cs:ByteArray:=⟨#[97,98,99,100,101,102,103,104,105,106,107,108,109,110,111,112,113,114,115,116,117,118,119,120,121,122,48,49,50,51,52,53,54,55,56,57,46]⟩
def PD:∀n:UInt8,decide (0<=Lib.indexByte cs.data.toList n)=eV n:=by
 have a:(List.range 256).all (λP=>decide (0<=Lib.indexByte cs.data.toList (UInt8.ofNat P))==eV (UInt8.ofNat P))=true:=by decide+kernel
 intro n;have:=ZY.1 a n.toNat (List.mem_range.2 n.toNat_lt);simpa using this
def RM(a:128<=b7.toNat):eV b7=false:=by
 have n:(List.range 128).all (λP=>eV (UInt8.ofNat (128+P))==false)=true:=by decide+kernel
 have:=ZY.1 n (b7.toNat-128) (List.mem_range.2 (by have:=b7.toNat_lt;omega));rw[show 128+(b7.toNat-128)=b7.toNat by omega]at this;simpa using this
def AQ:∀n∈cs.data.toList,n.toNat<128:=by decide+kernel
def RN:cs.size=37:=by decide+kernel
def strings_IndexByte{n:ByteArray}{P:Int}{a:World}:ZG 358 #[.string n,.int .u8 P] a (Ok λc b=>c= XH (Lib.indexByte n.data.toList P.toNat.toUInt8)/\a=b):=
 (Any.strings_IndexByte Tryz.RO n P a).mono λf b ⟨d,e⟩=>⟨_,d,rfl,e.symm⟩
def AR:ZG 359 #[.int .i32 e] b (Ok λc d=>c= .bool (Utf8.valid e)/\b=d):=by
 have a:=validRune_eq e;unfold validRune at a;refine lT (an.dec (λf=>an.dec (λg=>?_) (λg=>an.dec (λn=>an.dec (λP=>?_) (λP=>?_)) (λn=>?_))) (λf=>an.dec (λn=>an.dec (λP=>?_) (λP=>?_)) (λn=>?_)))
 all_goals
  refine Ok.mk ⟨?_,rfl⟩;rw[a]
  congr 1
  simp;omega
def qq(n:a<w.size):w[a]? =some (w[a]'n):=by simp[n]
def se:∀{l:List UInt8} {n:UInt8},(∀b∈l,b≠n)->Lib.indexByte l n= -1
 |[],_,_=>rfl
 |b::l,n,P=>by
  have a:(b==n)=false:=beq_false_of_ne (P b (QV ..));have c:=se (l:=l) λd e=>P d (QJ _ e);unfold Lib.indexByte;rw[a,c];rfl
def qs(x:0<=e):
  ZG 326 #[.string cs,.int .i32 e] b (Ok λg n=>(∃a:Int,g= XH a/\decide (a>=0)=(decide (e<128)&&eV e.toNat.toUInt8))/\ai b n):=by
 refine rr ⟨λh n=>h=decide (e<128)/\n=b,an.dec (λ_=>⟨rfl,rfl⟩) (λd=>Zz x d),?_⟩;rintro Q o f ⟨rfl,rfl⟩;refine an.dec (λd=>PC.ok strings_IndexByte ?_) (λd=>an.dE (λy=>?_) (λy=>PC.ok AR ?_))
 ·rintro _ _ ⟨rfl,rfl⟩
  refine⟨_,rfl,Ok.mk ⟨⟨_,rfl,?_⟩,ak.refl _⟩⟩;have z:XG .u8 e=e:=by
   unfold XG;simp[IntKind.signed,IntKind.bits];omega
  rw[z,Zy d,Bool.true_and];exact PD _
 ·have no:∀n,ai f n->Ok (λg n=>(∃a:Int,g= XH a/\decide (a>=0)=(decide (e<128)&&eV e.toNat.toUInt8))/\ai f n) (.returned (XH (-1))) n:=λn p=>
   Ok.mk ⟨⟨_,rfl,by rw[Xv d];rfl⟩,p⟩
  refine AS Tryz.underlying9 λA B q R=>⟨λi n=>∃P,i=cs.size-P/\n.heap[f.heap.size]? =some (.stringIter cs P)/\ai f n,⟨_,0,rfl,B,q⟩,?_⟩
  rintro i o r ⟨P,rfl,C,s⟩;refine Fc C (λ_=>.inl ⟨rfl,no r s⟩) λj E t F S=>.inr ⟨_,_,rfl,?_⟩;have k:(cs[P]'j).toNat<128:=AQ _ (by rw[show cs[P]'j=cs.data.toList[P]'(by simpa using j)from by simp;rfl];exact XY _);have H:=decode_ascii cs P j k;rw[H]at t⊢;refine an.dE (λd=>oM) (λ_=>⟨_,?_,P+1,rfl,t,s.new F λh k=>.inr oM⟩);omega
 ·have no:∀n,ai f n->Ok (λg n=>(∃a:Int,g= XH a/\decide (a>=0)=(decide (e<128)&&eV e.toNat.toUInt8))/\ai f n) (.returned (XH (-1))) n:=λn p=>
   Ok.mk ⟨⟨_,rfl,by rw[Xv d];rfl⟩,p⟩
  rintro _ _ ⟨rfl,rfl⟩;refine⟨_,rfl,an.not (an.mk (λI=>?_) (λ_=>no _ (ak.refl _)))⟩;obtain⟨J,K,u⟩:=encode_facts e I oM;refine aG.mk (run_convert_int_string f _ _ .i32 e kR Tryz.underlying9) ⟨_,rfl,?_⟩;generalize Utf8.encode e=c at J K u⊢;have L:XG .i64 (((c.size:Nat):Int)-1)=((c.size-1:Nat):Int):=by rw[wrap_i64 bc];omega
  rw[L];refine⟨λi a n=>a=((c.size-1:Nat):Int)/\ai f n,⟨0,rfl,ak.refl _⟩,?_⟩;rintro i a o A ⟨rfl,q⟩;have T:=RN;have l:c.size-1<c.size:=oM
  have m:c.size-1<cs.size:=oM
  have U:=u l;have V:(cs[c.size-1]'m).toNat<128:=AQ _ (by rw[show cs[c.size-1]'m=cs.data.toList[c.size-1]'(by simpa using m)from by simp;rfl];exact XY _);refine an.dec (λW=>⟨λ_ _=>False,?_,λa o b d=>d.elim⟩) (λX=>oM);simp only[Qx];rw[aq oM];refine⟨oM,_,qq m,oM,_,qq l,λr M=>an.dF (λ_=>λE N=>⟨oM,oM,oM,_,qq l,PC.ok strings_IndexByte ?_⟩) (λv=>oM)⟩;rintro _ _ ⟨rfl,rfl⟩;have O:Lib.indexByte (cs.extract (Int.toNat ((c.size-1+1:Nat):Int)) cs.size).data.toList ((((c[c.size-1]'l).toNat:Nat):Int).toNat.toUInt8)= -1:=by
   refine se λh k v=>?_;have w:=AQ h (mem_extract k);rw[v]at w;simp at w;omega
  refine⟨_,rfl,an.dec (λ_=>no _ ((q.ah M.af).ah N.af)) (λd=>?_)⟩;rw[O]at d;omega
def AT(c:0<=e):
  ZG 289 #[.int .i32 e] b (Ok λn P=>n= .bool (!(decide (e<128)&&eV e.toNat.toUInt8))/\ai b P):=by
 refine wv (PC.ok (φ:=λn P=>n= .bool (decide (e<128)&&eV e.toNat.toUInt8)/\ai b P) (nV (PC.ok (qs c) ?_)) ?_)
 ·rintro _ d ⟨⟨f,rfl,g⟩,a⟩
  exact⟨f,rfl,Ok.mk ⟨by rw[g],a⟩⟩
 ·rintro _ d ⟨rfl,a⟩
  exact⟨_,rfl,Ok.mk ⟨rfl,a⟩⟩
def lg:
  ZG 291 #[.string w,.func (.func 289) #[] #[]] b (Ok λe d=>e= .bool (!w.data.toList.all eV)/\ai b d):=by
 have t:enters XP 289=true:=kR
 refine nW (PC.ok (φ:=λe d=>(∃a:Int,e= XH a/\decide (a>=0)= !w.data.toList.all eV)/\ai b d) (rK (PC.ok (φ:=λe d=>(∃a:Int,e= XH a/\decide (a>=0)= !w.data.toList.all eV)/\ai b d) (rL ?_) ?_)) ?_)
 ·refine AS Tryz.underlying9 λE u v F=>⟨λo d=>∃n,o=w.size-n/\n<=w.size/\d.heap[b.heap.size]? =some (.stringIter w n)/\ai b d/\(∀g∈w.data.toList.take n,eV g=true),⟨_,0,rfl,Qj _,u,v,sM⟩,?_⟩
  rintro o H I ⟨n,rfl,J,x,p,h⟩;refine Fc x (λy=>.inl ⟨rfl,Ok.mk ⟨⟨_,rfl,?_⟩,p⟩⟩) λc z q A K=>.inr ⟨_,_,rfl,_,_,_,rfl,t,?_⟩
  ·rw[Qz (by simpa using y)]at h
   have:w.data.toList.all eV=true:=ZY.2 h;rw[this];rfl
  ·have r:ai b z:=p.new A λg P=>.inr oM
   have s:w.data.toList[n]? =some (w[n]'c):=by
    rw[Qq (by simpa using c)];simp;rfl
   refine PC.ok (AT (Int.natCast_nonneg _)) ?_;rintro _ L ⟨rfl,i⟩;refine⟨_,rfl,an.mk (λj=>?_) (λf=>?_)⟩
   ·
    refine Ok.mk ⟨⟨_,rfl,?_⟩,r.ah i⟩;have k:eV (w[n]'c)=false:=by
     by_cases P:(w[n]'c).toNat<128
     ·rw[decode_ascii w n c P]at j
      simp at j;exact j.resolve_left oM
     ·exact RM oM
    have:w.data.toList.all eV=false:=List.all_eq_false.2 ⟨_,QZ s,by simp[k]⟩;rw[this];simp
   ·have P:(w[n]'c).toNat<128:=by
     by_cases P:(w[n]'c).toNat<128
     ·exact P
     ·have M:=(decode_high w n c oM).1
      have B:¬(((Utf8.decode w n).1:Int)<128):=oM
      rw[Xv B]at f;simp at f
    rw[decode_ascii w n c P]at q f;have k:eV (w[n]'c)=true:=by
     simp at f;exact f.2
    refine⟨_,?_,n+1,rfl,oM,i.get q id,r.ah i,λg P=>?_⟩
    ·omega
    ·rw[Qw,s]at P
     rcases Q6.1 P with P|P
     ·exact h g P
     ·simp at P;rw[P];exact k
 ·rintro _ C ⟨⟨a,rfl,l⟩,m⟩
  exact⟨a,rfl,Ok.mk ⟨⟨a,rfl,l⟩,m⟩⟩
 ·rintro _ C ⟨⟨a,rfl,l⟩,m⟩
  exact⟨a,rfl,Ok.mk ⟨by rw[l],m⟩⟩
def uC:ZG 235 #[.string w] b (Ok λP a=>P= .bool (gX w)/\ai b a):=by
 refine Al (an.WJ (λn=>an.dec (λc=>PC.ok lg ?_) (λc=>Ok.mk ⟨?_,ak.refl _⟩)) (λn=>Ok.mk ⟨?_,ak.refl _⟩))
 ·rintro _ g ⟨rfl,d⟩
  refine⟨_,rfl,Ok.mk ⟨?_,d⟩⟩;have e:1<=w.size:=by
   by_cases f:w.size=0
   ·exact Zz (ByteArray.ext (Array.eq_empty_of_size_eq_zero f)) n
   ·omega
  unfold gX;rw[Zy e,Zy (show w.size<=16 by omega)];simp
 ·unfold gX
  rw[Xv (show¬w.size<=16 by omega)];simp
 ·subst n;rfl
def km{D:XN}(h:Row fx 1 b D d a x)(f:∀n,D n->n<b.heap.size):
  ZG 207 #[.slice d a c] b (Ok (px fx 5 b x)):=by
 have w:=h.len;have P:=h.dP;refine lS (jM sJ.under ⟨_,rfl,an.mk (λe=>?_) (λe=>PA.mk λj g y k=>?_)⟩)
 ·have:x=[]:=by
   cases d with
   |none=>
    cases x with
    |nil=>rfl
    |cons l z=>obtain⟨n,m,A,o,_⟩:=h.el 0 l rfl;cases o
   |some p=>cases e
  subst this;exact Ok.mk ⟨none,0,0,λ_=>False,rfl,aO.nil b,ak.refl _,λ_ h=>h.elim⟩
 ·cases d with
  |none=>cases e
  |some p=>
   have q:aO fx 5 (·=b.heap.size) j (XM b.heap.size) 0 0 []:=
    ⟨⟨[],λ_=>False,Own.zq (cur:= #[]) k rfl (Qj _),rfl,λ_ h=>h.elim⟩,λn P=>by simpa[aF]using P.symm,λn P=>oM⟩
   refine ko q sJ (D:=D) (h.ah g) (λn P=>⟨by have:=f n P;omega,by have:=f n P;simp only[aF];intro r;cases r;omega⟩) be (by unfold aK at P;unfold maxLen;simp;omega) λi s B C t u _ v=>?_;refine⟨_,_,_,rfl,Ok.mk ⟨i,_,s,λn=>aF i=some n,rfl,by have h:=t.alone;rw[List.nil_append]at h;exact h,g.new u λn P=>.inr ?_,λn P=>?_⟩⟩
   ·simp only[aF,Q1]at P;omega
   ·rcases v n P with h|h<;>omega
def nY(n:Int)(P:Nat):Nat:=(max 0 (min n P)).toNat
def wC(P:Int)(n:Nat):nY P n<=n:=by unfold nY;omega
def cG.cut(n:cG)(P:Int):cG:=⟨n.bytes.take (nY P n.bytes.length),nY P n.bytes.length,true⟩
def Rz(n:cG)(P:Int):(n.cut P).bytes.length=nY P n.bytes.length:=by
 have:=wC P n.bytes.length;simp[cG.cut];omega
def AH{G:XN}(h:dJ b a G a8)(P:a8.bytes.length<=262144):
  ZG 139 #[XL a,XH e] b (Ok λy p=>∃q,y= .tuple #[]/\dJ p a q (a8.cut e)/\bL G b q p):=by
 obtain⟨r,c,i,z,A,f,R,S⟩:=h.body;have B:c=a8.bytes.length:=f.len dC;have T:=f.jX;refine vX λj C=>?_;have d:ai b j:=C.af;have g:=d.get A id;have U:=wC e a8.bytes.length;have E:(if(if((c:Nat):Int)<e then((c:Nat):Int)else e)>0 then(if((c:Nat):Int)<e then((c:Nat):Int)else e)else 0)=((nY e a8.bytes.length:Nat):Int):=by
  unfold nY;rw[B];omega
 refine⟨a,0,rfl,_,_,_,ae g rfl,a,0,rfl,r,c,i,ae g rfl,?_⟩;refine⟨oM,oM,?_⟩;have F:Row fx 1 j z r c a8.bytes:=(f.row dC ba).ah d;refine PC.ok (by rw[E,Qx];exact km (F.take (m:=nY e a8.bytes.length) oM) (λn P=>Qk (f.aB n P) d.size)) ?_;rintro _ H ⟨s,k,t,l,rfl,m,o,u⟩;have I:k=nY e a8.bytes.length:=by have:=m.len dC;rw[this];simp;omega
 have V:a<j.heap.size:=ax g;refine⟨_,_,_,rfl,a,0,rfl,PS.mk (o.get g id) sM λW J X v=>⟨a,0,rfl,s,k,t,ae v rfl,a,0,rfl,PS.mk v sM λY K Z L=>⟨a,0,rfl,PS.mk L sM λM N s5 O=>Ok.mk ?_⟩⟩⟩;have w:ak (·=a) H M:=(J.then K).then N;have x:∀n,l n->n≠a:=λn P=>by have:=u n P;omega
 refine⟨λn=>n=a\/l n,rfl,⟨⟨s,k,t,l,?_,m.af w x,λn P=>.inr P,λQ=>x a Q rfl⟩,.inl rfl,?_⟩,⟨((ai.af d).then (ai.af o)).then (w.mono λn _ P=>by rw[P];exact h.self),?_⟩⟩
 ·rw[O]
  subst I
  rfl
 ·rintro n (rfl|P)
  ·have:=o.size;omega
  ·have:=m.aB n P;omega
 ·rintro n (rfl|P)
  ·exact .inl h.self
  ·have:=u n P;have:=d.size;exact .inr oM
structure eL (w:World) (p:Nat) (F:XN) (D:al) (r:Nat) (L:List (ByteArray×mZ)):Prop where
 head:w.heap[p]? =some (.cells #[XH D.most,.map (some r),.bool D.qf,XH D.left,.bool D.dead] 143 (0,0))
 map:bB w r Value.string (L.map dH)
 files:D.files=L.map uz
 each:CZ w L
 Hr:∀x∈L,∀b,x.2.G b->F b/\b≠p/\b≠r
 Fr:F r
 pr:p≠r
 self:F p
 aB:∀b,F b->b<w.heap.size
 ok:D.Ok
def aN.open{D:al}(n:aN b a f D):∃P c,eL b a f D P c:=by
 obtain⟨P,c,d,e,g,h,i,j,k⟩:=n.body;exact⟨P,c,d,e,g,h,i,j,k,n.self,n.aB,n.ok⟩
def eL.at{D:al}(n:eL b a f D c a2):aN b a f D:=
 ⟨⟨c,a2,n.head,n.map,n.files,n.each,n.Hr,n.Fr,n.pr⟩,n.self,n.aB,n.ok⟩
def eL.af{S e:XN}{D:al}(n:eL b a e D c a2)(d:ak S b k)(f:∀P,e P->¬S P):eL k a e D c a2:=
 ⟨d.get n.head (f _ n.self),n.map.af d (f _ n.Fr),n.files,n.each.af d (λh i P g=>f P (n.Hr h i P g).1),n.Hr,n.Fr,n.pr,n.self,λP g=>Qk (n.aB P g) d.size,n.ok⟩
def eL.ah{D:al}(n:eL b a f D c a2)(P:ai b k):eL k a f D c a2:=n.af P λ_ _ n=>n
def eL.box{D:al}(h:eL b a f D c a2)(P:ByteArray):
  (aE D.files P=none/\aE (a2.map dH) P=none)\/∃n,aE a2 P=some n/\(P,n)∈a2/\aE D.files P=some n.f/\aE (a2.map dH) P=some (ptr n.q):=by
 have d:aE (a2.map dH) P=(aE a2 P).map λn=>ptr n.q:=AG (λn:mZ=>ptr n.q) a2 P;have e:aE D.files P=(aE a2 P).map λn=>n.f:=by rw[h.files];exact AG (λn:mZ=>n.f) a2 P
 cases g:aE a2 P with
 |none=>rw[g]at d e;exact .inl ⟨e,d⟩
 |some n=>rw[g]at d e;exact .inr ⟨n,rfl,bT g,e,d⟩
def al.gD(D:al)(n:ByteArray)(P:cG):al:={D with files:=aI D.files n P}
def al.Co(D:al)(n:ByteArray):al:={D with files:=bV D.files n}
def qi{l:List (ByteArray×j)}{k:ByteArray}{v:j}(h:(k,v)∈l)(n:Tidy l):aI l k v=l:=by
 induction l with
 |nil=>cases h
 |cons P l a=>
  obtain⟨b,d⟩:=P;unfold aI;unfold Tidy at n;simp only[QY,List.nodup_cons]at n;rcases Q2.1 h with h|h
  ·cases h;simp
  ·have:(k==b)=false:=beq_false_of_ne λc=>n.1 (Xk.2 ⟨(k,v),h,c⟩)
   rw[Zq (by simp[this]),a h n.2]
def eL.eg{h w':World}{m G':XN}{D:al}(b:eL h a m D c a2){k:ByteArray}{x:mZ}(v:aE a2 k=some x)(t:dJ w' x.q G' a8)(g:bL x.G h G' w')(w:(D.gD k a8).Ok):∃u,eL w' a u (D.gD k a8) c (aI a2 k ⟨x.q,G',a8⟩)/\bL m h u w':=by
 have i:=bT v;have j:=b.Hr _ i;have y:ak m h w':=g.af.mono λn _ P=>(j n P).1;have o:∀d∈aI a2 k ⟨x.q,G',a8⟩,d=(k,⟨x.q,G',a8⟩)\/(d∈a2/\d.1≠k):=λd e=>fy b.each.tidy e;refine⟨λn=>m n\/(h.heap.size<=n/\n<w'.heap.size),⟨g.af.get b.head λP=>(j _ P).2.1 rfl,?_,?_,⟨?_,?_,b.each.tidy.aI _ _⟩,?_,.inl b.Fr,b.pr,.inl b.self,?_,w⟩,y,λn P=>P.imp id (·.1)⟩
 ·have z:(aI a2 k ⟨x.q,G',a8⟩).map dH=a2.map dH:=by
   have f:(aI a2 k ⟨x.q,G',a8⟩).map dH=aI (a2.map dH) k (ptr x.q):=qg (λx:mZ=>ptr x.q) a2 k _;rw[f];have A:Tidy (a2.map dH):=b.map.tidy;exact qi (Xk.2 ⟨_,i,rfl⟩) A
  rw[z];exact b.map.af g.af λP=>(j _ P).2.2 rfl
 ·have f:(aI a2 k ⟨x.q,G',a8⟩).map uz=aI (a2.map uz) k a8:=qg (λx:mZ=>x.f) a2 k _
  rw[f,<-b.files];rfl
 ·intro d e
  rcases o d e with rfl|⟨e,s⟩
  ·exact t
  ·exact(b.each.each d e).af g.af λn P=>b.each.apart d e _ i s n P
 ·intro d e p l q n P r
  rcases o d e with rfl|⟨e,s⟩<;>rcases o p l with rfl|⟨l,B⟩
  ·exact q rfl
  ·rcases g.new n P with f|f
   ·exact b.each.apart _ i p l q n f r
   ·have:=(b.each.each p l).aB n r;omega
  ·rcases g.new n r with f|f
   ·exact b.each.apart d e _ i q n P f
   ·have:=(b.each.each d e).aB n P;omega
  ·exact b.each.apart d e p l q n P r
 ·intro d e n P
  rcases o d e with rfl|⟨e,s⟩
  ·have C:=ax b.head
   have E:=b.map.lt;rcases g.new n P with f|f
   ·exact⟨.inl (j n f).1,(j n f).2⟩
   ·exact⟨.inr ⟨f,t.aB n P⟩,oM,oM⟩
  ·exact⟨.inl (b.Hr d e n P).1,(b.Hr d e n P).2⟩
 ·rintro n (P|P)
  ·exact Qk (b.aB n P) g.af.size
  ·exact P.2
def eL.drop{D:al}(P:eL b a f D c a2)(o:bB k c Value.string (bV (a2.map dH) w))(h:ak (·=c) b k)(p:(D.Co w).Ok):eL k a f (D.Co w) c (bV a2 w):=by
 have e:∀n∈bV a2 w,n∈a2:=λn d=>fP d;refine⟨h.get P.head (λg=>P.pr g),?_,?_,⟨λn d=>((P.each.each n (e n d)).af h λi j=>(P.Hr n (e n d) i j).2.2),λn d m q=>P.each.apart n (e n d) m (e m q),P.each.tidy.bV w⟩,λn d=>P.Hr n (e n d),P.Fr,P.pr,P.self,λi j=>Qk (P.aB i j) h.size,p⟩
 ·have g:(bV a2 w).map dH=bV (a2.map dH) w:=AF (λl:mZ=>ptr l.q) a2 w
  rw[g];exact o
 ·have g:(bV a2 w).map uz=bV (a2.map uz) w:=AF (λl:mZ=>l.f) a2 w
  rw[g,<-P.files];rfl
def eL.put{p G':XN}{D:al}(e:eL b a p D c a2){q:Nat}(v:bB k c Value.string (aI (a2.map dH) w (ptr q)))(f:ak (·=c) b k)(r:dJ b q G' a8)(s:∀P∈a2,P.1≠w->∀n,G' n->¬P.2.G n)(t:∀n,G' n->n≠a/\n≠c)(x:(D.gD w a8).Ok):
  eL k a (λn=>p n\/G' n) (D.gD w a8) c (aI a2 w ⟨q,G',a8⟩):=by
 have h:∀P∈aI a2 w ⟨q,G',a8⟩,P=(w,⟨q,G',a8⟩)\/(P∈a2/\P.1≠w):=λP d=>fy e.each.tidy d;refine⟨f.get e.head (λg=>e.pr g),?_,?_,⟨?_,?_,e.each.tidy.aI _ _⟩,?_,.inl e.Fr,e.pr,.inl e.self,?_,x⟩
 ·have g:(aI a2 w ⟨q,G',a8⟩).map dH=aI (a2.map dH) w (ptr q):=qg (λj:mZ=>ptr j.q) a2 w _
  rw[g];exact v
 ·have g:(aI a2 w ⟨q,G',a8⟩).map uz=aI (a2.map uz) w a8:=qg (λj:mZ=>j.f) a2 w _
  rw[g,<-e.files];rfl
 ·intro P d
  rcases h P d with rfl|⟨d,l⟩
  ·exact r.af f λn B=>(t n B).2
  ·exact(e.each.each P d).af f λn B=>(e.Hr P d n B).2.2
 ·intro P d m i u n B o
  rcases h P d with rfl|⟨d,l⟩<;>rcases h m i with rfl|⟨i,y⟩
  ·exact u rfl
  ·exact s m i y n B o
  ·exact s P d l n o B
  ·exact e.each.apart P d m i u n B o
 ·intro P d n B
  rcases h P d with rfl|⟨d,l⟩
  ·exact⟨.inr B,t n B⟩
  ·exact⟨.inl (e.Hr P d n B).1,(e.Hr P d n B).2⟩
 ·rintro n (B|B)
  ·exact Qk (e.aB n B) f.size
  ·exact Qk (r.aB n B) f.size
end Go.Proofs.YtjgjkeponbeekaaGreatDoor
namespace Go.au
open Go
def BH(cs:Array Value):Nat->List Value->Array Value
 |_,[]=>cs
 |n,P::a=>BH (cs.setIfInBounds n P) (n+1) a
def DV:∀(a:List Value) (cs:Array Value) (P n:Nat),(BH cs P a)[n]? =if P<=n/\n<P+a.length/\n<cs.size then a[n-P]? else cs[n]?
 |[],cs,P,n=>by rw[Zq be];rfl
 |v::a,cs,P,n=>by
  unfold BH;rw[DV a,Array.getElem?_setIfInBounds];simp only[Xq,Array.size_setIfInBounds]
  by_cases b:P+1<=n/\n<P+1+a.length/\n<cs.size
  ·rw[Zx b,Zx oM,show n-P=(n-(P+1))+1 by omega,ZZ]
  ·rw[Zq b]
   by_cases c:P=n
   ·subst c
    by_cases d:P<cs.size
    ·rw[Zx rfl,Zx d,Zx oM,Nat.sub_self,ZJ]
    ·rw[Zx rfl,Zq d,Zq oM,Array.getElem?_eq_none oM]
   ·rw[Zq c,Zq oM]
variable{a3:List Value}{a:Nat}{g:TypeId}{b:World}{y:XU}
def DW{cs:Array Value}(P:a3.length=cs.size):BH cs 0 a3=a3.toArray:=by
 apply Array.ext_getElem?;intro n;rw[DV]
 by_cases a:n<cs.size
 ·rw[Zx oM];simp
 ·rw[Zq oM,Array.getElem?_eq_none oM]
  simp;omega
def xL{b:Nat}{f:TypeId}{g:XU}:∀(a:List Value) (P:Nat) {n:World} {cs:Array Value},n.heap[b]? =some (.cells cs f (0,0))->P+a.length<=cs.size->
  (∀c,ak (·=b) n c->c.heap.size=n.heap.size->c.heap[b]? =some (.cells (BH cs P a) f (0,0))->g c)->iO ⟨b,0,none⟩ P a n g
 |[],P,n,cs,d,h,e=>e n (ak.refl _) rfl d
 |v::a,P,n,cs,d,h,e=>by
  unfold iO;rw[Addr.add_lit,Xz];rw[Xq]at h;exact PS.mk d oM λq i j k=>xL a (P+1) k be λl m o p=>e l (i.then m) (o.trans j) p
def storeAll{cs:Array Value}(P:List Value)(c:b.heap[a]? =some (.cells cs g (0,0)))(d:P.length=cs.size)(e:∀n,ak (·=a) b n->n.heap.size=b.heap.size->n.heap[a]? =some (.cells P.toArray g (0,0))->y n):iO ⟨a,0,none⟩ 0 P b y:=
 xL P 0 c oM λn f h i=>e n f h (by rw[i,DW d])
end Go.au
namespace Go.au
open Go
def wrap_u32(n:Nat)(P:n<2 ^ 32):XG .u32 (n:Int)=n:=by
 unfold XG;simp[IntKind.signed,IntKind.bits];omega
def wrap_u8(n:Nat):XG .u8 (n:Int)=((n % 256:Nat):Int):=by
 unfold XG;simp[IntKind.signed,IntKind.bits]
def ofInt32(n:qU):BitVec.ofInt (IntKind.bits .u32) ((n.toNat:Nat):Int)=n:=by
 show BitVec.ofInt 32 ((n.toNat:Nat):Int)=n;rw[BitVec.ofInt_natCast];simp
def JS(n P:qU):pO .u32 ((n.toNat:Nat):Int) ((P.toNat:Nat):Int)=(((n ^^^ P).toNat:Nat):Int):=by
 unfold pO;rw[ofInt32,ofInt32];exact wrap_u32 _ (n ^^^ P).isLt
def Pb(n:qU):pO .u32 (IntKind.max .u32) ((n.toNat:Nat):Int)=(((~~~n).toNat:Nat):Int):=by
 have P:IntKind.max .u32=(((BitVec.allOnes 32).toNat:Nat):Int):=by decide+kernel
 rw[P,JS,BitVec.allOnes_xor]
def Ts(n:qU):js .u32 ((n.toNat:Nat):Int) 8=(((n>>>8).toNat:Nat):Int):=by
 unfold js;have:(min (Int.toNat 8) (IntKind.bits .u32))=8:=dC
 rw[this,BitVec.toNat_ushiftRight,Nat.shiftRight_eq_div_pow];show Int.fdiv _ ((2 ^ 8:Nat):Int)=_;rw[Int.fdiv_eq_ediv_of_nonneg _ (Int.natCast_nonneg _)]
 rfl
def UH(n P:Nat)(a:n<256)(b:P<256):pO .u8 (n:Int) (P:Int)=((n ^^^ P:Nat):Int):=by
 unfold pO;show XG .u8 ((BitVec.ofInt 8 (n:Int) ^^^ BitVec.ofInt 8 (P:Int)).toNat:Int)=_;have c:n ^^^ P<2 ^ 8:=Nat.xor_lt_two_pow oM oM;rw[BitVec.ofInt_natCast,BitVec.ofInt_natCast,BitVec.toNat_xor,BitVec.toNat_ofNat,BitVec.toNat_ofNat,Nat.mod_eq_of_lt oM,Nat.mod_eq_of_lt oM,wrap_u8,Nat.mod_eq_of_lt oM]
def Tt(n:Nat)(a:n<256):EC .u8 (n:Int) 15=((n % 16:Nat):Int):=by
 unfold EC;show XG .u8 ((BitVec.ofInt 8 (n:Int)&&&BitVec.ofInt 8 ((15:Nat):Int)).toNat:Int)=_;have P:n&&&15=n % 16:=Nat.and_two_pow_sub_one_eq_mod n 4;rw[BitVec.ofInt_natCast,BitVec.ofInt_natCast,BitVec.toNat_and,BitVec.toNat_ofNat,BitVec.toNat_ofNat,Nat.mod_eq_of_lt oM,Nat.mod_eq_of_lt oM,P,wrap_u8,Nat.mod_eq_of_lt oM]
def UI(n:Nat):js .u8 (n:Int) 4=((n/16:Nat):Int):=by
 unfold js;have:(min (Int.toNat 4) (IntKind.bits .u8))=4:=dC
 rw[this];show Int.fdiv _ ((2 ^ 4:Nat):Int)=_;rw[Int.fdiv_eq_ediv_of_nonneg _ (Int.natCast_nonneg _)]
 rfl
end Go.au
namespace Go.Proofs.YtjgjkeponbeekaaGreatDoor
open Go.au
structure pL (w:World):Prop where
 lower:∀i,i<16->w.cell? ⟨2,i,none⟩=some (.int .u32 ((jz.getD i 0:Nat):Int))
 upper:∀i,i<16->w.cell? ⟨3,i,none⟩=some (.int .u32 ((jA.getD i 0:Nat):Int))
 lt:2<w.heap.size/\3<w.heap.size
variable{x:List UInt8}{a c:Nat}{f:XN}{d:ZH}{b k:World}
def pL.ah(n:pL b)(a:ai b k):pL k:=
 ⟨λP c=>(a.cell (a:=⟨2,P,none⟩) n.lt.1 id).trans (n.lower P c),λP c=>(a.cell (a:=⟨3,P,none⟩) n.lt.2 id).trans (n.upper P c),Qk n.lt.1 a.size,Qk n.lt.2 a.size⟩
def Pc:∀n,jz.getD n 0<2 ^ 32/\jA.getD n 0<2 ^ 32:=by
 intro n
 by_cases P:n<16
 ·have a:(List.range 16).all (λn=>decide (jz.getD n 0<2 ^ 32/\jA.getD n 0<2 ^ 32))=true:=by decide+kernel
  simpa using ZY.1 a n (List.mem_range.2 P)
 ·rw[QQ,QQ,Q7 (by show 16<=n;omega),Q7 (by show 16<=n;omega)]
  decide
def Pd{s:qU}(p:pL b)(h:Row fx 1 b f d a x):
  ZG 325 #[.int .u32 ((s.toNat:Nat):Int),.slice d a c] b (Ok λq j=>q= .int .u32 (((Lp s x).toNat:Nat):Int)/\bF b j):=by
 have H:=h.len;have r:=h.dP;unfold aK at r;refine JF ⟨λm n i j=>∃e:Nat,i=e/\e<=a/\m=a-e/\bF b j/\n=((((x.take e).foldl jO (~~~s)).toNat:Nat):Int),⟨_,0,rfl,Qj _,rfl,bF.refl b,by rw[Pb];rfl⟩,?_⟩;rintro m n i I J ⟨e,rfl,K,rfl,g,rfl⟩;generalize k:(x.take e).foldl jO (~~~s)=n;refine an.dec (λt=>?_) (λt=>Ok.mk ⟨?_,g⟩)
 ·obtain⟨u,l,P,rfl,v,_,w⟩:=(h.ah g.af).mr (i:=e) oM
  have o:=p.ah g.af;have L:=P.toNat_lt;have y:XG .u8 ((n.toNat:Nat):Int)=((n.toNat % 256:Nat):Int):=wrap_u8 _;have M:P.toNat ^^^ n.toNat % 256<2 ^ 8:=Nat.xor_lt_two_pow oM oM;have z:pO .u8 ((P.toNat:Nat):Int) (XG .u8 ((n.toNat:Nat):Int))=((P.toNat ^^^ n.toNat % 256:Nat):Int):=by rw[y,UH _ _ oM oM]
  refine⟨u,l,rfl,oM,oM,_,w,?_⟩;rw[z,Tt _ oM,UI];refine⟨2,0,rfl,oM,oM,((jz.getD ((P.toNat ^^^ n.toNat % 256) % 16) 0:Nat):Int),?_,3,0,rfl,oM,oM,((jA.getD ((P.toNat ^^^ n.toNat % 256)/16) 0:Nat):Int),?_,λN A=>⟨_,oM,e+1,aq oM,oM,rfl,g.then A,?_⟩⟩
  ·rw[Xz];exact o.lower _ oM
  ·rw[Xz];exact o.upper _ oM
  ·have B:=(Pc ((P.toNat ^^^ n.toNat % 256) % 16)).1
   have C:=(Pc ((P.toNat ^^^ n.toNat % 256)/16)).2;rw[Ts];have E:((jz.getD ((P.toNat ^^^ n.toNat % 256) % 16) 0:Nat):Int)=(((BitVec.ofNat 32 (jz.getD ((P.toNat ^^^ n.toNat % 256) % 16) 0)).toNat:Nat):Int):=by rw[BitVec.toNat_ofNat,Nat.mod_eq_of_lt B]
   have F:((jA.getD ((P.toNat ^^^ n.toNat % 256)/16) 0:Nat):Int)=(((BitVec.ofNat 32 (jA.getD ((P.toNat ^^^ n.toNat % 256)/16) 0)).toNat:Nat):Int):=by rw[BitVec.toNat_ofNat,Nat.mod_eq_of_lt C]
   rw[E,F,JS,JS,<-MI,Qw,v,List.foldl_append,k]
   rfl
 ·rw[Qz oM]at k
  rw[Pb,<-k];rfl
def Lq(n:pL b)(P:Row fx 1 b f d a x):
  ZG 285 #[.slice d a c] b (Ok λe g=>e= .int .u32 (((MJ x).toNat:Nat):Int)/\bF b g):=by
 refine MF (PC.ok (Pd (s:=0#32) n P) ?_);rintro _ i ⟨rfl,h⟩;exact⟨_,rfl,Ok.mk ⟨rfl,h⟩⟩
end Go.Proofs.YtjgjkeponbeekaaGreatDoor
namespace Go.au
open Go
def wrap_u32'(n:Int):XG .u32 n=n % 4294967296:=by
 unfold XG;simp[IntKind.signed,IntKind.bits]
def Kh{n d:Nat}(b:n<16777216)(c:d<256):OZ .u32 (Ke .u32 (n:Int) 8) (XG .u32 (d:Int))=((n*256+d:Nat):Int):=by
 have P:Ke .u32 (n:Int) 8=((n*256:Nat):Int):=by
  unfold Ke;have:min (Int.toNat 8) (IntKind.bits .u32)=8:=dC
  rw[this,wrap_u32'];have:((2:Int) ^ 8)=256:=dC
  rw[this];omega
 rw[P,wrap_u32 _ oM];unfold OZ;show XG .u32 ((BitVec.ofInt 32 ((n*256:Nat):Int)|||BitVec.ofInt 32 (d:Int)).toNat:Int)=_;have a:n*256|||d=n*256+d:=by
  have:=(Nat.shiftLeft_add_eq_or_of_lt (a:=n) (i:=8) (b:=d) oM).symm
  rwa [Nat.shiftLeft_eq]at this
 rw[BitVec.ofInt_natCast,BitVec.ofInt_natCast,BitVec.toNat_or,BitVec.toNat_ofNat,BitVec.toNat_ofNat,Nat.mod_eq_of_lt oM,Nat.mod_eq_of_lt oM,a,wrap_u32 _ oM]
def jg(n:Nat):XG .u8 (n:Int)=((UInt8.ofNat n).toNat:Int):=by
 rw[wrap_u8,ZK]
def Mj{k:IntKind}{u m:Nat}(n:m<=k.bits):js k (u:Int) (m:Int)=((u/2 ^ m:Nat):Int):=by
 unfold js;rw[Qx,X2 n];show Int.fdiv _ ((2:Int) ^ m)=_;rw[Int.fdiv_eq_ediv_of_nonneg _ (Int.pow_nonneg dC)];simp
variable{a c:Nat}{d:ZH}{h:Program}{B g q:TypeId}{m s:XR}{b:World}
def MU{P tn i n:TypeId}(j:jF h P n 1 1)(l:h.underlying tn=some (.int .i64))(o:0<a)(p:a<=aK)(c:∀d e,aO fx n (·=b.heap.size) d (XM b.heap.size) 0 e []->a<=e->ai b d->m (.slice (XM b.heap.size) a e) d):
  aG h (Builtin.append_ #[P,tn] i #[.slice none 0 0,XH (a:Int)]) b m s:=by
 obtain⟨q,f,r,t,A,u,v⟩:=j.info;unfold aK at p;have w:=Lib.run_append_nil_zeros (P:=h) b P tn i n q f .i64 .i64 j.under l r t a o oM oM (by rw[u];omega);have x:=grownCap_ge b a 0 n;refine aG.mk w (c _ _ ?_ x ?_)
 ·have k:=heap_alloc_new b.drew (.cells (Builtin.zeroCells f.cells a++Builtin.zeroCells f.cells (grownCap b a 0 n-a)) n)
  refine⟨⟨[],λ_=>False,⟨⟨sM,.inr ⟨b.heap.size,grownCap b a 0 n,_,rfl,Qj _,k,Qj _,grownCap_le_maxLen b a 0 n (by unfold maxLen;omega),?_,sM⟩⟩⟩,rfl,λ_ c=>c.elim⟩,λy g=>by simpa[aF]using g.symm,λy g=>by rw[g];exact ax k⟩;rw[Array.size_append,size_zeroCells,size_zeroCells,v];show a*1+(grownCap b a 0 n-a)*1=grownCap b a 0 n*1;omega
 ·have z:ai b (b.drewN 1):=ak.drewN b 1
  exact z.then (ak.alloc _ _)
def SO(n:h.underlying g=some (.slice q))(P:m (XH (c:Int)) b):aG h (Builtin.cap_ #[g] B #[.slice d a c]) b m s:=by
 refine aG.mk (v:=XH (c:Int)) ?_ P;simp[Builtin.cap_,run_underlying n,goInt]
end Go.au
namespace Go.Proofs.YtjgjkeponbeekaaGreatDoor
section
open Go.au
variable{c6 x:List UInt8}{E a c i p:Nat}{C:Nat×Nat}{d u:ZH}{b:World}
def uI{bs:List UInt8}{D:XN}(e:Row fx 1 b D d a bs)(q:a<=4):
  ZG 284 #[.slice d a c] b (Ok λg n=>g= .int .u32 (f_ bs:Int)/\b=n):=by
 have r:=e.len;refine Am ⟨λm f i n=>∃j:Nat,i=j/\j<=a/\m=a-j/\f=(f_ (bs.take j):Int)/\b=n,⟨_,0,rfl,Qj _,rfl,rfl,rfl⟩,?_⟩;rintro m f i _ s ⟨j,rfl,t,rfl,rfl,rfl⟩;refine an.dec (λh=>?_) (λh=>?_)
 ·obtain⟨k,P,l,rfl,o,_,p⟩:=e.mr (i:=j) oM
  have u:=ob bs (j:=j) (m:=3) oM;refine⟨k,P,rfl,oM,oM,_,p,_,oM,j+1,aq oM,oM,rfl,?_,rfl⟩;rw[Kh (by
            have:(256:Nat) ^ 3=16777216:=dC
            omega) l.toNat_lt,Dh o]
 ·rw[Qz oM]
  exact Ok.mk ⟨rfl,rfl⟩
def E_{m:Nat}(f:0<m)(c:m<=aK):
  ZG 328 #[.slice none 0 0,XH (m:Int)] b (Ok λg n=>∃P d,g= .slice (XM P) 0 d/\aO fx 5 (·=P) n (XM P) 0 d []/\ai b n/\b.heap.size<=P):=by
 have a:=c;unfold aK at a;refine lV ⟨λn=>n=b,an.dec (λe=>oM) (λ_=>rfl),?_⟩;rintro _ l rfl;refine SO sJ.under ⟨_,rfl,?_⟩;have h:XG .i64 ((m:Int)-XG .i64 (((0:Nat):Int)-((0:Nat):Int)))=(m:Int):=by
  rw[wrap_i64 (x:=((0:Nat):Int)-((0:Nat):Int)) bc,wrap_i64 bc];omega
 rw[h];refine an.dec (λe=>?_) (λe=>oM);refine SO sJ.under ⟨_,rfl,oM,oM,?_⟩;refine MU sJ kR f c λo i j p k=>⟨_,_,_,rfl,oM,oM,Ok.mk ⟨_,i,rfl,j,k,Q4 _⟩⟩
def AN{D:XN}(B:b.heap[a]? =some (.cells #[.slice d c p,.slice u i E] 237 C))(R:Row fx 1 b D d c x)(S:Row fx 1 b D u i c6)(F:∀n,D n->n<b.heap.size)(h0:0<c)(P:c+i<=aK):
  ZG 294 #[.slice (XM a) 2 2] b (Ok (px fx 5 b (x++c6))):=by
 have l1:=R.len;have l2:=S.len;have H:=P;unfold aK at H;refine kj ⟨λf w g e=>b=e/\((f=2/\w=0/\g=0)\/(f=1/\w=(c:Int)/\g=1)\/(f=0/\w=((c+i:Nat):Int)/\g=2)),⟨2,rfl,.inl ⟨rfl,rfl,rfl⟩⟩,?_⟩;rintro f w g _ w1 ⟨rfl,I⟩;rcases I with⟨rfl,rfl,rfl⟩|⟨rfl,rfl,rfl⟩|⟨rfl,rfl,rfl⟩
 ·refine an.tt dC ⟨a,0,rfl,oM,oM,d,c,p,ae B rfl,?_⟩
  rw[wrap_i64 (x:=0+((c:Nat):Int)) bc];exact an.dec (λT=>oM) (λ_=>⟨1,oM,rfl,.inr (.inl ⟨rfl,oM,rfl⟩)⟩)
 ·refine an.tt dC ⟨a,0,rfl,oM,oM,u,i,E,ae B rfl,?_⟩
  rw[wrap_i64 (x:=((c:Nat):Int)+((i:Nat):Int)) bc];exact an.dec (λT=>oM) (λ_=>⟨0,oM,rfl,.inr (.inr ⟨rfl,oM,rfl⟩)⟩)
 refine an.ff dC (PC.ok (E_ (m:=c+i) oM P) ?_);rintro _ w2 ⟨U,cq,rfl,Z,k2,hq⟩;have a6:∀n,D n->n≠U:=λn P J=>by have:=F n P;omega
 refine⟨_,_,_,rfl,λf o j q g e=>ai b e/\∃k,(∀n,k n->b.heap.size<=n)/\((f=2/\g=0/\aO fx 5 k e o j q [])\/(f=1/\g=1/\aO fx 5 k e o j q x)\/(f=0/\g=2/\aO fx 5 k e o j q (x++c6))),
  ⟨2,k2,(·=U),λn J=>oM,.inl ⟨rfl,rfl,Z⟩⟩,?_⟩
 rintro f o j q g _ V ⟨r,k,y,I⟩;have W:=r.get B id;have ap:∀{z A:List UInt8} {K t X} {L Y:XR},aO fx 5 k V o j q z->Row fx 1 b D K t A->z.length+A.length<=140737488355328->
   (∀l s e m,aO fx 5 m e l (j+t) s (z++A)->ai b e->(∀n,m n->b.heap.size<=n)->L (.slice l (j+t) s) e)->
   aG XP (Builtin.append_ #[237,237] 237 #[.slice o j q,.slice K t X]) V L Y:=by
  intro z A K t X L Y h hr a5 M;refine yU h sJ (hr.ah r) (λn P=>⟨by have:=F n P;have:=r.size;omega,λJ=>?_⟩) ba (by unfold maxLen;omega) λl s N m v a3 _ a4=>?_
  ·have:=F n P;have:=y n (h.self n J);omega
  ·exact M l s N (λn=>aF l=some n) v.alone (r.new a3 λn P=>.inr (y n (h.self n P))) λn P=>(a4 n P).elim (y n) λT=>by have:=r.size;omega
 rcases I with⟨rfl,rfl,h⟩|⟨rfl,rfl,h⟩|⟨rfl,rfl,h⟩
 ·refine an.tt dC ⟨a,0,rfl,oM,oM,d,c,p,ae W rfl,?_⟩
  exact ap h R be λl s N m v O Q=>⟨_,_,_,rfl,1,oM,O,m,Q,.inr (.inl ⟨rfl,rfl,v⟩)⟩
 ·refine an.tt dC ⟨a,0,rfl,oM,oM,u,i,E,ae W rfl,?_⟩
  exact ap h S oM λl s N m v O Q=>⟨_,_,_,rfl,0,oM,O,m,Q,.inr (.inr ⟨rfl,rfl,v⟩)⟩
 ·exact an.ff dC (Ok.mk ⟨_,_,_,k,rfl,h,r,y⟩)
end
section
open Go.au
def gH:jN:=⟨[],[],[],[],[]⟩
variable{c7 w:ByteArray}{A:XT}{a c:Nat}{d:ZH}{b:World}
def gI(n:an (decide ((((ByteArray.size w:Nat):Int):Int)>=((ByteArray.size c7:Nat):Int))) (((0:Int)<=((ByteArray.size c7:Nat):Int)/\(((ByteArray.size c7:Nat):Int):Int)<=((ByteArray.size w:Nat):Int)/\rt A ((.bool ((ByteArray.toList (ByteArray.extract w 0 (Int.toNat ((ByteArray.size c7:Nat):Int))))==(ByteArray.toList c7)))) b)) (rt A ((.bool false)) b)):ZG 324 #[.string w,.string c7] b A:=DC gH Tryz.func324 rfl n
def gF:jN:=⟨[],[],[],[],[]⟩
def gG(P:PC_ 324 #[.string w,.string c7] b (kB λa n=>an (!a) (rt A ((.tuple #[.string w,.bool false])) n) (((0:Int)<=((ByteArray.size c7:Nat):Int)/\(((ByteArray.size c7:Nat):Int):Int)<=((ByteArray.size w:Nat):Int)/\rt A ((.tuple #[.string (ByteArray.extract w (Int.toNat ((ByteArray.size c7:Nat):Int)) (ByteArray.size w)),.bool true])) n))) (pE A)):ZG 283 #[.string w,.string c7] b A:=DC gF Tryz.func283 rfl P
def Ar:jN:=⟨[],[],[],[],[(11,⟨[0,1,0,4,10,18,48,64,192,320,576,1088],[4095,4094,4095,4091,4087,4077,4063,4031,3903,3775,3519,3007],[0,2,0,0,2,0,0,0,0,1,0,0]⟩)]⟩
def As(o:an (decide ((a:Int)<4)) (rt A ((.tuple #[.ii 0,.ii 4])) b) (((0:Int)<=1/\(1:Int)<=4/\(4:Int)<=(c:Int)/\PC_ 284 #[.slice (cH d (Int.toNat 1) c 1) (Int.toNat 4-Int.toNat 1) (c-Int.toNat 1)] b (λp P=>∃n,p= .int .u32 n/\(ix_ d 0 a λq r=>(∃f,P.cell? (ad q (r+Int.toNat 0))=some (.int .u8 f)/\an (f==0) (rt A ((.tuple #[.ii 0,.ii 2])) P) (an (decide (((XG .i64 n):Int)>65536)) (rt A ((.tuple #[.ii 0,.ii 5])) P) (an (decide ((a:Int)<(XG .i64 ((XG .i64 (4+(XG .i64 n)))+5)))) (rt A ((.tuple #[.ii 0,.ii 4])) P) (((0:Int)<=(XG .i64 (4+(XG .i64 n)))/\((XG .i64 (4+(XG .i64 n))):Int)<=(c:Int)/\((0:Int)<=(XG .i64 (4+(XG .i64 n)))/\((XG .i64 (4+(XG .i64 n))):Int)<=(XG .i64 ((XG .i64 (4+(XG .i64 n)))+5))/\((XG .i64 ((XG .i64 (4+(XG .i64 n)))+5)):Int)<=(c:Int)/\(∀g,bF P g->(∀h,bF g h->((0:Int)<=4/\(4:Int)<=(((c-Int.toNat (XG .i64 (4+(XG .i64 n)))):Nat):Int)/\PC_ 285 #[.slice d (Int.toNat (XG .i64 (4+(XG .i64 n)))) c] h (λs t=>∃i,s= .int .u32 i/\PC_ 284 #[.slice (cH d (Int.toNat (XG .i64 (4+(XG .i64 n)))) c 1) (Int.toNat 4) (c-Int.toNat (XG .i64 (4+(XG .i64 n))))] t (λu e=>∃j,u= .int .u32 j/\an (i !=j) (rt A ((.tuple #[.ii 0,.ii 6])) e) ((∃k l,(cH d (Int.toNat (XG .i64 (4+(XG .i64 n)))) c 1)=some ⟨k,l,none⟩/\(0:Int)<=4/\4<((Int.toNat (XG .i64 ((XG .i64 (4+(XG .i64 n)))+5))-Int.toNat (XG .i64 (4+(XG .i64 n))):Nat):Int)/\(∃m,e.cell? (ad k (l+Int.toNat 4))=some (.int .u8 m)/\an (m !=10) (rt A ((.tuple #[.ii 0,.ii 6])) e) (rt A ((.tuple #[.ii (XG .i64 n),.ii 0])) e))))) (pZ A)) (pZ A)))))))))))) (pE A)))):ZG 225 #[.slice d a c] b A:=DC Ar Tryz.func225 rfl o
end
end Go.Proofs.YtjgjkeponbeekaaGreatDoor
namespace Go.au
open Go
def AO(n:List UInt8)(P:Nat)(a:(n.getD 1 0).toNat*65536+(n.getD 2 0).toNat*256+(n.getD 3 0).toNat=P):
  bj n=if n.length<4 then⟨0,[],0,4⟩else if n.getD 0 0=0 then⟨0,[],0,2⟩else if 65536<P then⟨0,[],0,5⟩else if n.length<P+9 then⟨0,[],0,4⟩else
   if n.take (P+9)=fU (n.getD 0 0).toNat ((n.drop 4).take P)then⟨(n.getD 0 0).toNat,(n.drop 4).take P,P+9,0⟩else⟨0,[],0,6⟩:=by
 unfold bj;rw[a]
variable{x:List UInt8}
def Pw(n:(bj x).no=0):(bj x).kind=((x.getD 0 0).toNat:Int)/\(bj x).body=(x.drop 4).take ((bj x).n-9)/\4<=x.length:=by
 rw[AO x _ rfl]at n⊢;split at n
 ·cases n
 rename_i P;rw[Zq P];split at n
 ·cases n
 rename_i a;rw[Zq a];split at n
 ·cases n
 rename_i b;rw[Zq b];split at n
 ·cases n
 rename_i c;rw[Zq c];split at n
 ·rename_i d
  rw[Zx d];exact⟨rfl,sM,oM⟩
 ·cases n
end Go.au
namespace Go.Proofs.YtjgjkeponbeekaaGreatDoor
section
open Go.au
def AP(n:List UInt8):List Value:=n.map λP=>Value.int .u8 (P.toNat:Int)
variable{e:Int}{x:List UInt8}{a c:Nat}{d:ZH}{b:World}
def Dk{f:Nat×Nat}(n:List UInt8)(P:b.heap[a]? =some (.cells (AP n).toArray 5 f))(d:n.length<=1000):Row fx 1 b (·=a) (XM a) n.length n:=
 Row.lit (enc:=λc:UInt8=>Value.int .u8 (c.toNat:Int)) P n (by simp[AP]) (λ_ _=>trivial) ba
def Dp{D:XN}(A:pL b)(P:Row fx 1 b D d a x)(B:∀n,D n->n<b.heap.size):
  ZG 241 #[.agg #[XH e,.slice d a c]] b (Ok λC E=>∃u,C= .tuple #[u,XH (jK e x).2]/\px fx 5 b (jK e x).1 u E):=by
 have F:=P.len;refine Hh (PA.mk λg j s1 k=>⟨d,a,c,ae k rfl,_,ae k rfl,an.dec (λh=>?_) (λh1=>⟨_,ae k rfl,an.dec (λh=>?_) (λh2=>an.dec (λh=>?_) (λh3=>?_))⟩)⟩)
 ·rw[show jK e x=([],2) by unfold jK;rw[Zx oM]]
  exact Ok.mk ⟨_,rfl,none,0,0,λ_=>False,rfl,aO.nil g,j,λ_ h=>h.elim⟩
 ·rw[show jK e x=([],2) by unfold jK;rw[Zx oM]]
  exact Ok.mk ⟨_,rfl,none,0,0,λ_=>False,rfl,aO.nil g,j,λ_ h=>h.elim⟩
 ·rw[show jK e x=([],5) by unfold jK;rw[Zq oM,Zx oM]]
  exact Ok.mk ⟨_,rfl,none,0,0,λ_=>False,rfl,aO.nil g,j,λ_ h=>h.elim⟩
 rw[show jK e x=(fU e x,0) by unfold jK;rw[Zq oM,Zq oM]];refine⟨_,ae k rfl,PA.mk λH l s2 I=>⟨d,a,c,ae (l.get k id) rfl,PA.mk λo m s3 J=>?_⟩⟩;have K:js .i64 ((a:Nat):Int) 16=((a/65536:Nat):Int):=Mj (k:=.i64) (u:=a) (m:=16) dC;have L:js .i64 ((a:Nat):Int) 8=((a/256:Nat):Int):=Mj (k:=.i64) (u:=a) (m:=8) dC;have M:e=((e.toNat:Nat):Int):=oM
 have N:H.heap[g.heap.size]? =some (.cells (AP [UInt8.ofNat e.toNat,UInt8.ofNat (x.length/65536),UInt8.ofNat (x.length/256),UInt8.ofNat x.length]).toArray 5 (0,0)):=by
  rw[I,K,L,M,jg,jg,jg,jg,F];simp[AP]
 have O:Row fx 1 o (λn=>D n\/n=g.heap.size) (XM g.heap.size) 4 [UInt8.ofNat e.toNat,UInt8.ofNat (x.length/65536),UInt8.ofNat (x.length/256),UInt8.ofNat x.length]:=
  (Dk (f:=(0,0)) [UInt8.ofNat e.toNat,UInt8.ofNat (x.length/65536),UInt8.ofNat (x.length/256),UInt8.ofNat x.length] (m.get N id) sM).mono λn P=>.inr P
 have Q:Row fx 1 o (λn=>D n\/n=g.heap.size) d a x:=(P.ah ((j.then l).then m)).mono λn P=>.inl P;refine PC.ok (AN J O Q (λn P=>P.elim (λh=>by have:=B n h;omega) λh=>oM) oM ba) ?_;rintro _ p ⟨a4,n4,c4,F4,rfl,i,R,v⟩;have S:[UInt8.ofNat e.toNat,UInt8.ofNat (x.length/65536),UInt8.ofNat (x.length/256),UInt8.ofNat x.length]++x=l_ e x:=rfl;rw[S]at i;have a8:=i.len dC;have q:(l_ e x).length=4+x.length:=by simp[l_];omega
 have r:ai b p:=((j.then l).then m).then R;refine⟨_,_,_,rfl,PC.ok (Lq (A.ah r) (i.row (bytes:=1) dC (by rw[q];unfold aK;omega))) ?_⟩;rintro _ s ⟨rfl,T⟩;have t:ai p s:=T.af;refine⟨_,rfl,?_⟩;generalize U:(MJ (l_ e x)).toNat=f;have V:js .u32 (f:Int) 24=((f/16777216:Nat):Int):=Mj (k:=.u32) (u:=f) (m:=24) dC;have W:js .u32 (f:Int) 16=((f/65536:Nat):Int):=Mj (k:=.u32) (u:=f) (m:=16) dC;have X:js .u32 (f:Int) 8=((f/256:Nat):Int):=Mj (k:=.u32) (u:=f) (m:=8) dC;refine PA.mk λY w s6 Z=>?_;have a1:Y.heap[s.heap.size]? =some (.cells (AP (Px f++[10])).toArray 5 (0,0)):=by rw[Z,V,W,X,jg,jg,jg,jg];rfl
 have a2:=(i.ah t).ah w;have a9:p.heap.size<=s.heap.size:=t.size;refine ko a2 sJ (Dk (Px f++[10]) a1 (by simp[Px])) (λn y=>⟨oM,λe2=>by have:=i.aB n (i.self n e2);omega⟩) (by rw[q];unfold aK;simp[Px];omega) (by rw[q];unfold maxLen;simp[Px];omega) λz c7 w7 F7 a3 a5 _ a6=>?_;refine⟨_,_,_,rfl,Ok.mk ⟨_,rfl,z,_,c7,λn=>aF z=some n,rfl,?_,?_,?_⟩⟩
 ·have h7:=a3.alone
  have y:fU e x=l_ e x++(Px f++[10]):=by unfold fU;rw[U,XQ]
  rw[y];exact h7
 ·exact((r.then t).then w).new a5 λn P=>.inr (by have:=v n (i.self n P);have:=j.size;have:=l.size;have:=m.size;omega)
 ·intro n P
  have b0:b.heap.size<=o.heap.size:=oM
  rcases a6 n P with h|h
  ·have:=v n h;omega
  ·have:=r.size;omega
def Hy{D:XN}(C:pL b)(f:Row fx 1 b D d a x)(q:a<=c):
  ZG 225 #[.slice d a c] b (Ok λE F=>E= .tuple #[XH (((bj x).n-9:Nat):Int),XH (bj x).no]/\bF b F):=by
 have W:=f.len;have H:=f.dP;unfold aK at H;generalize r:(x.getD 1 0).toNat*65536+(x.getD 2 0).toNat*256+(x.getD 3 0).toNat=n;have P:=AO x n r;refine As (an.dec (λk=>?_) (λX=>?_))
 ·rw[P,Zx oM]
  exact Ok.mk ⟨rfl,bF.refl b⟩
 rw[Zq (show¬x.length<4 by omega)]at P;refine⟨oM,oM,oM,PC.ok (uI (bs:=(x.take 4).drop 1) (f.part (lo:=1) (hi:=4) (cap:=c) oM oM q) dC) ?_⟩;rintro _ Y ⟨rfl,rfl⟩;have I:f_ ((x.take 4).drop 1)=n:=by
  rw[SP oM];show f_ [x.getD 1 0,x.getD 2 0,x.getD 3 0]=n;simp only[f_,List.foldl];omega
 have Z:n<16777216:=by
  have h1:=(x.getD 1 0).toNat_lt;have h2:=(x.getD 2 0).toNat_lt;have h3:=(x.getD 3 0).toNat_lt;omega
 rw[I];obtain⟨i,e,s,rfl,J,_,g⟩:=f.mr (i:=0) oM;have h:x.getD 0 0=s:=by rw[QQ,J];rfl
 have K:XG .i64 (n:Int)=(n:Int):=wrap_i64 bc;have L:XG .i64 (4+(n:Int))=((4+n:Nat):Int):=by rw[wrap_i64 bc];omega
 have M:XG .i64 (((4+n:Nat):Int)+5)=((4+n+5:Nat):Int):=by rw[wrap_i64 bc];omega
 refine⟨_,rfl,i,e,rfl,oM,oM,_,g,?_⟩;rw[K,L,M];refine an.dE (λk=>?_) (λl=>an.dec (λk=>?_) (λa8=>an.dec (λk=>?_) (λa7=>?_)))
 ·rw[P,h,Zx (UInt8.toNat_inj.1 (by
                        have:s.toNat=0:=oM
                        rw[this];rfl))]
  exact Ok.mk ⟨rfl,bF.refl b⟩
 ·rw[P,h,Zq (by rintro rfl;exact l rfl),Zx oM]
  exact Ok.mk ⟨rfl,bF.refl b⟩
 ·rw[P,h,Zq (by rintro rfl;exact l rfl),Zq oM,Zx oM]
  exact Ok.mk ⟨rfl,bF.refl b⟩
 rw[h,Zq (by rintro rfl;exact l rfl),Zq (show¬65536<n by omega),Zq (show¬x.length<n+9 by omega)]at P;have j:=TI (b:=x) (n:=n) oM r oM;rw[h]at j;refine⟨oM,oM,oM,oM,oM,λw8 t N u=>⟨oM,oM,?_⟩⟩;have v:ai b N:=(t.then u).af;have w:=f.ah v;refine PC.ok (Lq (C.ah v) (w.take (m:=4+n) oM)) ?_;rintro _ O ⟨rfl,y⟩;have z:=w.ah y.af;have A:=z.part (lo:=4+n) (hi:=4+n+4) (cap:=c) oM oM q;rw[show 4+n+4-(4+n)=4 by omega]at A;refine⟨_,rfl,PC.ok (uI A dC) ?_⟩;rintro _ a9 ⟨rfl,rfl⟩;have Q:(x.take (4+n+4)).drop (4+n)=(x.drop (4+n)).take 4:=by rw[List.drop_take];congr 1;omega
 rw[Q];have m:bF b O:=(t.then u).then y;refine⟨_,rfl,an.dF (λo=>?_) (λb0=>?_)⟩
 ·rw[P,Zq (λg=>o (by rw[(j.1 g).1]))]
  exact Ok.mk ⟨rfl,m⟩
 obtain⟨b7,o8,p,R,S,_,T⟩:=z.mr (i:=8+n) oM
 cases R
 have B:x.getD (8+n) 0=p:=by rw[QQ,S];rfl
 have U:cH (some ⟨i,e,none⟩) (4+n) c 1=some ⟨i,e+(4+n),none⟩:=by
  unfold cH;rw[Zq oM];simp[Addr.add_lit]
 refine⟨i,e+(4+n),U,oM,oM,_,by rw[show e+(4+n)+Int.toNat 4=e+(8+n) by show e+(4+n)+4=_;omega];exact T,an.dF (λo=>?_) (λhe=>?_)⟩
 ·rw[P,Zq (λg=>o (by rw[<-B,(j.1 g).2];rfl))]
  exact Ok.mk ⟨rfl,m⟩
 ·have V:p=10:=UInt8.toNat_inj.1 (by show p.toNat=10;omega)
  rw[P,Zx (j.2 ⟨oM,B.trans V⟩)];exact Ok.mk ⟨sM,m⟩
def Dq{D:XN}(R:pL b)(P:Row fx 1 b D d a x)(s:a<=c)(t:∀n,D n->n<b.heap.size):
  ZG 163 #[.slice d a c] b (Ok λS u=>∃v w y z,S= .tuple #[.agg #[XH (bj x).kind,.slice v w y],XH ((bj x).n:Int),XH (bj x).no]/\
   aO fx 5 z u v w y (bj x).body/\ai b u/\∀n,z n->b.heap.size<=n):=by
 have hn:=P.len;have T:=P.dP;unfold aK at T;refine He (PA.mk λA h s1 U=>PC.ok (Hy (R.ah h) (P.ah h) s) ?_);rintro _ B ⟨rfl,V⟩;have i:ai A B:=V.af;have C:=i.get U id;refine⟨_,_,rfl,an.dF (λj=>?_) (λk=>?_)⟩
 ·have l:(bj x).kind=0/\(bj x).body=[]/\(bj x).n=0:=by
   rw[AO x _ rfl]at j⊢
   repeat' split
   all_goals first|exact⟨rfl,rfl,rfl⟩|skip
   rename_i W X Y Z h5;rw[Zq W,Zq X,Zq Y,Zq Z,Zx h5]at j;exact Zz rfl j
  rw[l.1,l.2.1,l.2.2];refine storeAll [XH 0,.slice none 0 0] C rfl λf g s3 E=>⟨0,none,0,0,ae E rfl,ae E rfl,Ok.mk ⟨none,0,0,λ_=>False,rfl,aO.nil f,?_,λ_ m=>m.elim⟩⟩
  exact(h.then i).new g λn P=>.inr oM
 obtain⟨a0,h9,a1⟩:=uJ k;generalize a2:(bj x).n=e at a0 h9 a1;obtain⟨a3,F,b1⟩:=Pw k;rw[a2]at F;have H:(bj x).kind=((x.getD 0 0).toNat:Int)/\(bj x).body=(x.drop 4).take (e-9):=⟨a3,F⟩
 intro f a5;have g:ai B f:=a5.af;have o:ai b f:=(h.then i).then g;have p:=P.ah o;obtain⟨I,o6,J,rfl,hx,_,hc⟩:=p.mr (i:=0) oM;obtain⟨b2,b3,x',es,a6,_,a7,_⟩:=p.yP (i:=0) oM
 cases a6
 have a8:x.getD 0 0=J:=by rw[QQ,hx];rfl
 have K:XG .i64 (4+((e-9:Nat):Int))=((4+(e-9):Nat):Int):=by rw[wrap_i64 bc];omega
 have e9:XG .i64 (((4+(e-9):Nat):Int)+5)=(e:Int):=by rw[wrap_i64 bc];omega
 refine⟨λn=>b.heap.size<=n,I,o6,rfl,oM,oM,by have:=t I a7;omega,_,hc,?_⟩;refine⟨oM,oM,oM,?_⟩;have a4:=p.part (lo:=4) (hi:=4+(e-9)) (cap:=c) oM oM s;refine PC.ok (by rw[K];exact km a4 (λn m=>by have:=t n m;have:=o.size;omega)) ?_;rintro _ w4 ⟨L,M,N,F4,rfl,a9,q,O⟩;have b4:A.heap.size<=f.heap.size:=(i.then g).size;have g4:=q.get (g.get C id) id;refine⟨_,_,_,rfl,q.af,?_⟩;refine storeAll [XH (XG .i64 (J.toNat:Int)),.slice L M N] g4 rfl λw5 r s5 Q=>⟨r.mono λn _ b0=>oM,_,_,_,_,ae Q rfl,ae Q rfl,Ok.mk ⟨L,M,N,F4,?_,?_,?_,?_⟩⟩
 ·rw[Ki,H.1,a8,k,K,e9]
 ·rw[H.2,<-show(x.take (4+(e-9))).drop 4=(x.drop 4).take (e-9) by rw[List.drop_take];congr 1;omega]
  exact a9.af r λn P b0=>by have:=O n P;omega
 ·exact(o.then q).new r λn P=>.inr oM
 ·intro n P;have:=O n P;omega
end
section
open Go.au
variable{W l:Array Value}{a9:FrameMode}{z:FuncId}{e:Int}{b0 t:List Int}{a4:List PanicEntry->XU}{x:List UInt8}{J:List aj}{a c i:Nat}{f:XN}{T X:Operand}{d u:ZH}{h:Program}{b:World}{y:XU}{o:aj}{a0:lY}
def Qa(k:eM b a f a0):
  ZG 228 #[XL a,XH e] b (TZ b a f a0 (if a0.num.1=0 then(if a0.num.2.1<0\/e<a0.num.2.1 then 3 else 0)else a0.num.1) (λi l=>i= XH a0.num.2.1) a0.num.2.2):=by
 refine rH (PC.red (DK k) ?_ ?_)
 rotate_left
 ·intro c j d g h
  rw[Zq c];exact⟨.inr ⟨c,rfl,d⟩,g,h⟩
 rintro c _ j d rfl g h;rw[Zx c];have P:a0.num.2.1<0\/e<a0.num.2.1->TZ b a f a0 (if a0.num.2.1<0\/e<a0.num.2.1 then 3 else 0) (λi l=>i= XH a0.num.2.1) a0.num.2.2 (.panicked (SZ 3)) j:=λn=>by
  rw[Zx n];exact⟨.inr ⟨dC,rfl,_,d⟩,g,h⟩
 refine⟨_,rfl,an.dec (λm=>fA (λn=>⟨rfl,?_⟩) (λn=>P (.inr ?_))) (λm=>fA (λn=>by cases n) (λ_=>P (.inl oM)))⟩
 ·have n:=XV n
  rw[Zq oM];exact⟨.inl ⟨rfl,d,_,rfl,rfl⟩,g,h⟩
 ·have n:=Xy n
  omega
def HR:(do eqGuard .eql 20 T (.const .nilIface) .nilIface .nilIface;binOp .eql 20 .nilIface .nilIface:Sem Value).run XP b= .ok (.bool true) b:=by
 cases T<;>rfl
def FI:(do eqGuard .eql 20 T X (.iface 372 (XH e)) .nilIface;binOp .eql 20 (.iface 372 (XH e)) .nilIface:Sem Value).run XP b= .ok (.bool false) b:=by
 rfl
def HS:(Instr.typeAssert (.iface 372 (XH e)) 20 372 true).run XP b= .ok (.tuple #[XH e,.bool true]) b:=by
 rfl
def Lv.ret{ret:XU}(n:a9= .returning)(P:ret b):Lv h ret a4 [] a9 b:=by
 subst n;unfold Lv;exact P
def Lv.one(a:a9≠.run)(c:enters h z=true)(d:CallsD h z l a9 b λe n P=>PI e (λ_=>Lv h y a4 [] (settle n) P) (λf=>Lv h y a4 [] (raised n f) P)):Lv h y a4 [{target:=.fn (.func z) l,args:= #[]}] a9 b:=
 ⟨a,z,l,rfl,c,by rw[show(#[]++l:Array Value)=l by simp];exact d⟩
def Bo{h S:XN}(d:eM b a h a0)(I:enters XP z=true){A:XU}{no:Int}(s:∀e,S e->e<b.heap.size)(J:a0.uV=0->∀c,ai b c->ZG z (l++ #[]++W) c λP n=>ak S c n/\((no=0/\P= .returned (.tuple #[])/\A n)\/(no≠0/\(no=3\/no=4\/no=5)/\P= .panicked (SZ no)/\ak (·=a) c n/\∃t,eM n a h ⟨a0.bytes,t,0⟩))):
  ZG 226 #[XL a,.func (.func z) l W] b (Ok λK n=>K= .tuple #[]/\ak (λe=>S e\/e=a) b n/\
   ((a0.uV≠0/\ai b n)\/(a0.uV=0/\no=0/\ak S b n/\A n)\/(a0.uV=0/\no≠0/\ak (·=a) b n/\eM n a h ⟨a0.bytes,a0.pos,no⟩))):=by
 obtain⟨a2,a3,L,G,u,h2,h3⟩:=d.body;have hp:=ax u;refine oR (PA.mk λc i s1 j=>?_);have v:=i.get u id;refine⟨_,ae j rfl,a,0,rfl,_,ae v rfl,an.dF (λM=>Ok.mk ⟨rfl,i.af,.inl ⟨M,i⟩⟩) (λk=>?_)⟩;refine⟨_,ae j rfl,a,0,rfl,_,ae v rfl,PA.mk λw2 N s2 O=>PS.mk O sM λm Q s3 R=>⟨z,l,W,rfl,I,?_⟩⟩;have w:ak (·=c.heap.size) c m:=N.af.then Q;have o:ai b m:=i.new w λe hb=>.inr oM;refine(J k m o).mono ?_;rintro P f ⟨p,T⟩;have x:f.heap[b.heap.size]? =some (.cells #[XL a] 280 (0,0)):=p.get (w.get j (by intro P;omega)) (λq=>by have:=s _ q;omega);have U:f.heap[c.heap.size]? =some (.cells #[XH (a0.pos:Int)] 3 (0,0)):=p.get R (λq=>by have:=s _ q;omega);have y:ak S b f:=o.af.then p;rcases T with⟨r,rfl,V⟩|⟨r,X,rfl,Y,t,B⟩
 ·refine⟨rfl,Lv.one sM kR ?_⟩
  refine CallsD.mono (fM (rv:=.nilIface) (u:=.returning) rfl (R:=λP g n=>P= .returned (.tuple #[])/\g= .returning/\n=f) ?_) ?_
  ·exact aG.mk HR ⟨_,rfl,an.tt rfl ⟨rfl,rfl,rfl⟩⟩
  ·rintro P g n ⟨rfl,rfl,rfl⟩
   refine Lv.ret rfl ?_;exact Ok.mk ⟨rfl,y.mono λ_ _ d=>.inl d,.inr (.inl ⟨k,r,y,V⟩)⟩
 ·refine Lv.one sM kR ?_
  obtain⟨a',n',C,G',Z,e2,e3⟩:=B.body;refine CallsD.mono (fM (rv:=.iface 372 (XH no)) (u:=.panicking (SZ no)) rfl (R:=λP g n=>P= .returned (.tuple #[])/\settle g= .returning/\eM n a h ⟨a0.bytes,a0.pos,no⟩/\ak (·=a) b n) ?_) ?_
  ·refine aG.mk (v:=.bool false) (w':=f) ?_ ⟨_,rfl,an.ff rfl (aG.mk (v:=.tuple #[XH no,.bool true]) (w':=f) ?_ ⟨_,_,rfl,an.tt rfl ?_⟩)⟩
   ·exact FI
   ·exact HS
   ·refine⟨_,ae x rfl,_,ae x rfl,_,ae U rfl,a,0,rfl,PS.mk Z sM λw5 E s5 g5=>⟨a,0,rfl,PS.mk g5 sM λw6 F s6 g6=>⟨rfl,rfl,?_,?_⟩⟩⟩
    ·exact B.eg (r':=⟨a0.bytes,a0.pos,no⟩) e2 e3 (E.then F) g6 rfl ⟨d.fit.pos,.inr X⟩
    ·exact(o.af.then Y).then (E.then F)
  ·rintro P g n ⟨rfl,e_,a1,H⟩
   refine Lv.ret e_ ?_;exact Ok.mk ⟨rfl,H.mono λ_ _ d=>.inr d,.inr (.inr ⟨k,r,H,a1⟩)⟩
def EU(n:eM b a f a0):
  ZG 166 #[XL a] b (Ok λq g=>q= XH (fp a0).1/\eM g a f (fp a0).2/\ak (·=a) b g):=by
 have O:a<b.heap.size:=n.aB a n.self;refine uh (PA.mk λk F Q w=>PA.mk λH r R s=>⟨_,ae (r.get w id) rfl,?_⟩);have x:ai b H:=F.then r;have t:=n.ah x;have I:=r.get w id;refine PC.ok (Bo (S:=λe=>e=a\/e=k.heap.size) (no:=a0.num.1) (A:=λg=>eM g a f ⟨a0.bytes,a0.pos+a0.num.2.2,a0.uV⟩/\g.heap[k.heap.size]? =some (.cells #[XH a0.num.2.1] 3 (0,0))) t kR ?_ ?_) ?_
 ·rintro e (rfl|rfl)<;>omega
 ·intro J l p
  refine rJ ⟨_,ae (p.get I id) rfl,PC.red (DK (t.ah p)) ?_ ?_⟩
  ·rintro h _ y P rfl i z
   have u:=i.get (p.get s id) oM;refine⟨_,rfl,PS.mk u sM λS A T K=>⟨(i.mono λ_ _ n=>.inl n).then (A.mono λ_ _ n=>.inr n),.inl ⟨h,rfl,P.af A λe m d=>?_,K⟩⟩⟩;have:=n.aB e m;omega
  ·rintro h y P i z
   rw[J]at P;have:=jj (a0.bytes.drop a0.pos);exact⟨i.mono λ_ _ n=>.inl n,.inr ⟨h,by have:=this.2.2.2.1;unfold lY.num at h⊢;omega,rfl,i,P⟩⟩
 ·rintro _ l ⟨rfl,p,L⟩
  have M:ak (·=a) b l:=x.af.new p λe m=>by
   rcases m with(rfl|rfl)|rfl
   ·exact .inl rfl
   ·exact .inr oM
   ·exact .inl rfl
  have c:∀v:Int,l.heap[k.heap.size]? =some (.cells #[XH v] 3 (0,0))->eM l a f (fp a0).2->v=(fp a0).1->
    (∃B:Int,l.cell? ⟨k.heap.size,0,none⟩=some (XH B)/\PS l ⟨k.heap.size,0,none⟩ (XH B) λC=>∃E:Int,C.cell? ⟨k.heap.size,0,none⟩=some (XH E)/\
     Ok (λq g=>q= XH (fp a0).1/\eM g a f (fp a0).2/\ak (·=a) b g) (.returned (XH E)) C):=by
   rintro v j P rfl;refine⟨_,ae j rfl,PS.mk j sM λy i z u=>⟨_,ae u rfl,Ok.mk ⟨rfl,P.af i λe m d=>?_,M.new i λe m=>.inr oM⟩⟩⟩;have:=n.aB e m;omega
  refine⟨rfl,?_⟩;rcases L with⟨o,j⟩|⟨o,h,_,P,j⟩|⟨o,h,N,P⟩
  ·have d:fp a0=(0,a0):=by unfold fp;rw[Zx o]
   exact c 0 (j.get s id) (by rw[d];exact t.ah j) (by rw[d])
  ·have d:fp a0=(a0.num.2.1,⟨a0.bytes,a0.pos+a0.num.2.2,0⟩):=by unfold fp;rw[Zq (by simp[o]),Zx h]
   exact c _ j (by rw[d];rw[o]at P;exact P) (by rw[d])
  ·have d:fp a0=(0,⟨a0.bytes,a0.pos,a0.num.1⟩):=by unfold fp;rw[Zq (by simp[o]),Zq h]
   exact c 0 (N.get s oM) (by rw[d];exact P) (by rw[d])
def Hx{m:Int}(P:eM b a f a0):
  ZG 165 #[XL a,XH m] b (Ok λv i=>v= XH (bW m a0).1/\eM i a f (bW m a0).2/\ak (·=a) b i):=by
 have X:a<b.heap.size:=P.aB a P.self;refine rC (PA.mk λY M Z C=>PA.mk λl w sm N=>PA.mk λO u s2 x=>⟨_,ae (u.get (w.get C id) id) rfl,?_⟩);have E:ai b O:=(M.then w).then u;have y:=P.ah E;have Q:=u.get (w.get C id) id;have R:=u.get N id;generalize g:(if a0.num.1=0 then(if a0.num.2.1<0\/m<a0.num.2.1 then 3 else 0)else a0.num.1:Int)=no;refine PC.ok (Bo (S:=λh=>h=a\/h=l.heap.size) (no:=no) (A:=λi=>eM i a f ⟨a0.bytes,a0.pos+a0.num.2.2,a0.uV⟩/\i.heap[l.heap.size]? =some (.cells #[XH a0.num.2.1] 3 (0,0))) y kR ?_ ?_) ?_
 ·rintro h (rfl|rfl)<;>omega
 ·intro S o p
  refine oZ ⟨_,ae (p.get Q id) rfl,_,ae (p.get R id) rfl,PC.red (Qa (y.ah p)) ?_ ?_⟩
  ·rintro c _ F d rfl j H
   rw[g]at c;have z:=j.get (p.get x id) oM;refine⟨_,rfl,PS.mk z sM λw5 I s5 T=>⟨(j.mono λ_ _ P=>.inl P).then (I.mono λ_ _ P=>.inr P),.inl ⟨c,rfl,d.af I λh q n=>?_,T⟩⟩⟩;have:=P.aB h q;omega
  ·rintro c F d j H
   rw[g]at c⊢;rw[S]at d;have A:=(jj (a0.bytes.drop a0.pos)).2.2.2.1;refine⟨j.mono λ_ _ P=>.inl P,.inr ⟨c,?_,rfl,j,d⟩⟩
   change a0.num.1=0\/a0.num.1=4\/a0.num.1=5 at A
   rw[<-g]at c⊢;split
   ·rename_i n
    rw[Zx n]at c;split
    ·exact .inl rfl
    ·rename_i s;rw[Zq s]at c;exact Zz rfl c
   ·omega
 ·rintro _ o ⟨rfl,p,U⟩
  have V:ak (·=a) b o:=E.af.new p λh q=>by
   rcases q with(rfl|rfl)|rfl
   ·exact .inl rfl
   ·exact .inr oM
   ·exact .inl rfl
  have e:∀B:Int,o.heap[l.heap.size]? =some (.cells #[XH B] 3 (0,0))->eM o a f (bW m a0).2->B=(bW m a0).1->
    (∃J:Int,o.cell? ⟨l.heap.size,0,none⟩=some (XH J)/\PS o ⟨l.heap.size,0,none⟩ (XH J) λK=>∃L:Int,K.cell? ⟨l.heap.size,0,none⟩=some (XH L)/\
     Ok (λv i=>v= XH (bW m a0).1/\eM i a f (bW m a0).2/\ak (·=a) b i) (.returned (XH L)) K):=by
   rintro B k d rfl;refine⟨_,ae k rfl,PS.mk k sM λF j H z=>⟨_,ae z rfl,Ok.mk ⟨rfl,d.af j λh q n=>?_,V.new j λh q=>.inr oM⟩⟩⟩;have:=P.aB h q;omega
  refine⟨rfl,?_⟩;rcases U with⟨r,k⟩|⟨r,c,_,d,k⟩|⟨r,c,W,d⟩
  ·have n:bW m a0=(0,a0):=by unfold bW;rw[Zx r]
   exact e 0 (k.get x id) (by rw[n];exact y.ah k) (by rw[n])
  ·have n:bW m a0=(a0.num.2.1,⟨a0.bytes,a0.pos+a0.num.2.2,0⟩):=by
    have A:=(jj (a0.bytes.drop a0.pos)).2.2.2.1
    change a0.num.1=0\/a0.num.1=4\/a0.num.1=5 at A
    unfold bW;rw[Zq (by simp[r])];split at g
    ·rename_i t
     rw[Zx t];split at g
     ·omega
     ·rename_i s;rw[Zq s]
    ·omega
   exact e _ k (by rw[n];rw[r]at d;exact d) (by rw[n])
  ·have n:bW m a0=(0,⟨a0.bytes,a0.pos,no⟩):=by
    unfold bW;rw[Zq (by simp[r])];split at g
    ·rename_i t
     rw[Zx t];split at g
     ·rename_i s;rw[Zx s,g]
     ·omega
    ·rename_i t;rw[Zq t,g]
   exact e 0 (W.get x oM) (by rw[n];exact d) (by rw[n])
def Lt(e:eM b a f a0):
  ZG 167 #[XL a] b (Ok λg h=>g= XH (kq a0)/\bF b h):=by
 obtain⟨m,o,i,G,P,j,p⟩:=e.body;have q:=j.len dC;have d:a0.uV≠0\/¬a0.pos<a0.bytes.length->kq a0=a0.uV:=λr=>by unfold kq;rw[Zq oM]
 refine s_ ⟨a,0,rfl,_,ae P rfl,an.dE (λc=>⟨a,0,rfl,_,ae P rfl,a,0,rfl,_,_,_,ae P rfl,λk n=>an.dec (λl=>?_) λl=>?_⟩) (λc k n=>?_)⟩
 ·exact Ok.mk ⟨by unfold kq;rw[Zx ⟨c,oM⟩],n⟩
 ·exact⟨a,0,rfl,_,ae ((n.af (S:=λ_=>False)).get P id) rfl,Ok.mk ⟨by rw[d (.inr oM)],n⟩⟩
 ·exact⟨a,0,rfl,_,ae ((n.af (S:=λ_=>False)).get P id) rfl,Ok.mk ⟨by rw[d (.inl c)],n⟩⟩
def tO:jF XP 42 3 1 8:=⟨kR,kR,dC⟩
def aC(n:aj)(P:ZH)(a b:Nat):List Value:=
 [XH n.origin,XH n.seq,XH n.ay,.slice P a b,XH n.aS,XH n.agg,XH n.field,XH n.op,XH n.arg,XH n.key]
def jo:jt aj where
 k:=10
 rep:=λh D c cs=>∃n P a,cs=aC c n P a/\Row aJ 8 h D n P c.aP/\c.Ok
 af:=λ⟨n,P,a,b,d,e⟩ i f=>⟨n,P,a,b,d.af i f,e⟩
 mono:=λ⟨n,P,a,b,d,e⟩ f=>⟨n,P,a,b,d.mono f,e⟩
 len:=λ⟨n,P,a,b,_,_⟩=>by rw[b];rfl
 one:=λ⟨n,P,a,b,_,_⟩ j g=>by
  rw[b]at g;simp only[aC,Q2,List.not_mem_nil,or_false]at g;rcases g with rfl|rfl|rfl|rfl|rfl|rfl|rfl|rfl|rfl|rfl<;>rfl
def uE:jt aj where
 k:=10
 rep:=λl D e cs=>∃n P a b,cs=aC e n P a/\aO aJ 3 b l n P a e.aP/\(∀c,b c->D c)/\e.Ok/\e.aP.length*8<=aK
 af:=λ⟨n,P,a,b,d,g,f,h⟩ m i=>⟨n,P,a,b,d,g.af m (λc j=>i c (f c j)),f,h⟩
 mono:=λ⟨n,P,a,b,d,g,f,h⟩ i=>⟨n,P,a,b,d,g,λc j=>i c (f c j),h⟩
 len:=λ⟨n,P,a,b,d,_⟩=>by rw[d];rfl
 one:=λ⟨n,P,a,b,d,_⟩ o k=>by
  rw[d]at k;simp only[aC,Q2,List.not_mem_nil,or_false]at k;rcases k with rfl|rfl|rfl|rfl|rfl|rfl|rfl|rfl|rfl|rfl<;>rfl
def uE.read{D:XN}{cs:List Value}(n:uE.rep b D o cs):jo.rep b D o cs:=by
 obtain⟨P,a,c,i,d,e,f,g,h⟩:=n;exact⟨P,a,c,d,(e.row dC h).mono f,g⟩
def uE.row{D:XN}(n:Row uE 96 b D d a J):Row jo 96 b D d a J:=
 ⟨n.len,n.dP,λc e f=>by
  obtain⟨g,P,h,i,j,k,l,m⟩:=n.el c e f;exact⟨g,P,h,i,j,k,l,uE.read m⟩⟩
def IL:jF XP 59 63 10 96:=⟨kR,kR,dC⟩
def ET{r s:Nat}{k D:XN}{l S:Nat}(C:b.heap[a]? =some (.cells #[.slice d r s] 237 (0,0)))(g:aO fx 5 k b d r s x)(q:Row aJ 8 b D u l t)(T:¬k a)(U:¬D a)(V:x.length+9*t.length+9<=aK):
  ZG 314 #[.slice u l S,XL a] b (Ok λW h=>W= .tuple #[]/\∃c e f j,h.heap[a]? =some (.cells #[.slice c e f] 237 (0,0))/\
   aO fx 5 j h c e f (x++bJ t)/\¬j a/\ak (·=a) b h/\∀n,j n->k n\/b.heap.size<=n):=by
 have X:=q.len;have a7:=ax C;have Y:=q.dP;unfold aK at Y;refine Ci ⟨λE i h=>∃P:Nat,i=P/\P<=l/\E=l-P/\∃c e f j,h.heap[a]? =some (.cells #[.slice c e f] 237 (0,0))/\
   aO fx 5 j h c e f (x++bJ (t.take P))/\¬j a/\ak (·=a) b h/\∀n,j n->k n\/b.heap.size<=n,
  ⟨_,0,rfl,Qj _,rfl,d,r,s,k,C,by simpa[bJ]using g,T,ak.refl _,λn v=>.inl v⟩,?_⟩
 rintro E i _ w1 ⟨P,rfl,hj,rfl,F,H,I,Z,w,m,a0,o,a1⟩;refine an.dec (λh1=>?_) (λh1=>?_)
 ·obtain⟨n,y,z,rfl,A,B,hc⟩:=(q.af o (λn g p=>U (p▸g))).mr (i:=P) oM
  refine⟨n,y,rfl,oM,oM,z,hc,F,H,I,ae w rfl,?_⟩;have a8:(bJ (t.take P)).length<=9*P:=by
   have:=fm (l:=t.take P) (λa9 hy=>by
    obtain⟨J,K⟩:=List.getElem?_of_mem (List.mem_of_mem_take hy);have a2:J<l:=by rw[X];exact(Qv.1 K).1
    obtain⟨_,_,b0,_,L,a3,_⟩:=q.mr (i:=J) a2;rw[K]at L;cases L;exact a3)
   simp only[Qy]at this;omega
  have a4:=m.len dC;rw[QX]at a4;unfold aK at V;refine PC.ok (AJ B (m.row (bytes:=1) dC (by rw[QX];unfold aK;omega)) ba m.aB) ?_;rintro _ w2 ⟨a5,n2,c2,M,rfl,a6,N,O⟩;have Q:¬M a:=λv=>by have:=O a v;have:=o.size;omega
  refine⟨_,_,_,rfl,PS.mk (N.get w id) sM λw3 R s3 g3=>⟨_,oM,P+1,aq oM,oM,rfl,a5,n2,c2,M,g3,?_,Q,(o.ah N).then R,λn g=>.inr (Xx o.size (O n g))⟩⟩;rw[Qw,A];have p:x++bJ (List.take P t++(some z).toList)=x++bJ (List.take P t)++nZ z:=by rw[gY];simp[bJ]
  rw[p];exact a6.af R λn g p=>Q (p▸g)
 ·rw[Qz oM]at m
  exact Ok.mk ⟨rfl,F,H,I,Z,w,m,a0,o,a1⟩
def AK{f:Nat×Nat}(n:List Int)(P:b.heap[a]? =some (.cells (n.map (Value.int .i64)).toArray 3 f))(c:∀d∈n,aH d)(e:n.length<=1000):Row aJ 8 b (·=a) (XM a) n.length n:=
 Row.lit P n sM c ba
def MR{D:XN}(w:Row aJ 8 b D d a o.aP)(n:o.Ok)(F:∀P,D P->P<b.heap.size):
  ZG 264 #[.agg (aC o d a c).toArray] b (Ok λH I=>∃x,H= .tuple #[x,XH (iB o).2]/\px fx 5 b (iB o).1 x I):=by
 have J:=w.len;refine Hg (PA.mk λi l s1 y=>⟨d,a,c,ae y rfl,an.dec (λh=>?_) (λh=>?_)⟩)
 ·have q:iB o=([],3):=by unfold iB;rw[Zx oM]
  rw[q];exact Ok.mk ⟨_,rfl,none,0,0,λ_=>False,rfl,aO.nil i,l,λ_ h=>h.elim⟩
 have a8:o.aP.length<=64:=oM
 have q:iB o=(bJ (kp o),0):=by unfold iB;rw[Zq oM]
 rw[q];have z:∀P,D P->P<i.heap.size:=λP f=>Qk (F P f) l.size;refine PA.mk λj r s2 K=>?_;have k:=r.get y id;refine⟨_,ae k rfl,_,ae k rfl,_,ae k rfl,_,_,_,ae k rfl,PA.mk λA B s3 L=>⟨_,_,_,rfl,kR,?_⟩⟩;have M:Row aJ 8 A (·=j.heap.size) (XM j.heap.size) 4 [o.origin,o.seq,o.ay,(o.aP.length:Int)]:=
  AK (f:=(0,0)) [o.origin,o.seq,o.ay,(o.aP.length:Int)] (by rw[L,<-J];rfl) (by intro s e;simp at e;rcases e with rfl|rfl|rfl|rfl;exact n.origin;exact n.seq;exact n.ay;unfold aH;omega) sM
 refine PC.ok (ET (B.get K id) (aO.nil A) M id (by show¬i.heap.size=j.heap.size;omega) (by unfold aK;simp)) ?_;rintro _ C ⟨rfl,a4,n4,c4,F4,N,O,Q,R,S⟩;have m:ak (·=i.heap.size) j C:=B.af.then R;have E:=m.get k oM;have T:Row aJ 8 C D d a o.aP:=((w.ah (l.then r)).af m λP f o=>by have:=z P f;omega)
 refine⟨rfl,_,_,_,ae E rfl,_,_,_,rfl,kR,PC.ok (ET N O T Q (λh=>by have:=z _ h;omega) ?_) ?_⟩
 ·have t:=fm (l:=[o.origin,o.seq,o.ay,(o.aP.length:Int)]) (by intro s e;simp at e;rcases e with rfl|rfl|rfl|rfl;exact n.origin;exact n.seq;exact n.ay;unfold aH;omega)
  simp only[List.nil_append,Xq,ZQ]at t⊢;unfold aK;omega
 rintro _ u ⟨rfl,a5,n5,c5,F5,U,V,W,v,X⟩;have g:=v.get E oM;refine⟨rfl,_,ae g rfl,_,ae g rfl,_,ae g rfl,_,ae g rfl,_,ae g rfl,_,ae g rfl,PA.mk λY p s6 Z=>⟨_,_,_,rfl,kR,?_⟩⟩;have r6:Row aJ 8 Y (·=u.heap.size) (XM u.heap.size) 6 [o.aS,o.agg,o.field,o.op,o.arg,o.key]:=
  AK (f:=(0,0)) [o.aS,o.agg,o.field,o.op,o.arg,o.key] Z (by intro s e;simp at e;rcases e with rfl|rfl|rfl|rfl|rfl|rfl;exact n.aS;exact n.agg;exact n.field;exact n.op;exact n.arg;exact n.key) sM
 have a6:=m.size;have a9:=v.size;refine PC.ok (ET (p.get U id) (V.ah p) r6 W (by show¬i.heap.size=u.heap.size;omega) ?_) ?_
 ·have t:=fm (l:=[o.origin,o.seq,o.ay,(o.aP.length:Int)]) (by intro s e;simp at e;rcases e with rfl|rfl|rfl|rfl;exact n.origin;exact n.seq;exact n.ay;unfold aH;omega)
  have h2:=fm n.aP;simp only[List.nil_append,Xq,ZQ,QX]at t h2⊢;unfold aK;omega
 rintro _ w7 ⟨rfl,a7,n7,c7,F7,g7,a2,b0,k7,a3⟩;refine⟨rfl,_,_,_,ae g7 rfl,Ok.mk ⟨_,rfl,a7,n7,c7,F7,rfl,?_,?_,?_⟩⟩
 ·have:kp o=[o.origin,o.seq,o.ay,(o.aP.length:Int)]++o.aP++[o.aS,o.agg,o.field,o.op,o.arg,o.key]:=rfl
  rw[this,gY,gY];exact a2
 ·have ka:ai b j:=l.then r
  exact(ka.new ((m.then v).then (p.af.then k7)) λP f=>.inr oM)
 ·intro P f
  rcases a3 P f with h|h
  ·rcases X P h with h|h
   ·rcases S P h with h|h
    ·exact h.elim
    ·omega
   ·omega
  ·have:=p.size;omega
def qk(P:List Int)(a:ZH)(b c:Nat)(n:List Int):List Value:=
 [XH (P.getD 0 0),XH (P.getD 1 0),XH (P.getD 2 0),.slice a b c,XH (n.getD 0 0),XH (n.getD 1 0),XH (n.getD 2 0),XH (n.getD 3 0),XH (n.getD 4 0),XH (n.getD 5 0)]
def Ka(n:t.length=i)(P:i<3):(qk t d a c b0).toArray.setIfInBounds i (XH e)=(qk (t++[e]) d a c b0).toArray:=by
 match t,n with
 |[],n=>subst n;rfl
 |[_],n=>subst n;rfl
 |[_,_],n=>subst n;rfl
 |_::_::_::_,n=>simp at n;omega
def Kb(n:b0.length=i)(P:i<6):(qk t d a c b0).toArray.setIfInBounds (4+i) (XH e)=(qk t d a c (b0++[e])).toArray:=by
 match b0,n with
 |[],n=>subst n;rfl
 |[_],n=>subst n;rfl
 |[_,_],n=>subst n;rfl
 |[_,_,_],n=>subst n;rfl
 |[_,_,_,_],n=>subst n;rfl
 |[_,_,_,_,_],n=>subst n;rfl
 |_::_::_::_::_::_::_,n=>simp at n;omega
def lA(n:Nat)(P:lY):bf (n+1) P=((bf n P).1++[(fp (bf n P).2).1],(fp (bf n P).2).2):=rfl
def MS{D:XN}(e:Row fx 1 b D d a x)(hD:∀n,D n->n<b.heap.size):
  ZG 231 #[.slice d a c] b (Ok λa8 j=>∃a' n' c' v,a8= .tuple #[.agg (aC (jf x).1 a' n' c').toArray,XH (jf x).2]/\aO aJ 3 v j a' n' c' (jf x).1.aP/\ai b j/\∀n,v n->b.heap.size<=n):=by
 refine Hi (PA.mk λw1 k1 s1 g1=>PC.ok (Df (e.ah k1) (λn h=>by have:=hD n h;omega)) ?_);rintro _ g ⟨i,a0,rfl,T,k2,hP⟩;refine⟨_,rfl,PA.mk λw3 U s3 g3=>PA.mk λw y s4 g4=>?_⟩;have c3:=T.self;have h5:w1.heap.size<=i/\i<g.heap.size:=⟨hP i c3,T.aB i c3⟩
 have V:=T.aB;have h3:=k2.size;have d9:=y.get g3 id;have e0:=y.get (U.get (k2.get g1 id) id) id;have e1:=(T.ah U).ah y;have b1:ai b w:=((k1.then k2).then U).then y;refine⟨λm B j=>∃P:Nat,B=P/\P<=3/\m=3-P/\j.heap[g.heap.size]? =some (.cells (qk (bf P ⟨x,0,0⟩).1 none 0 0 []).toArray 63 (0,0))/\eM j i a0 (bf P ⟨x,0,0⟩).2/\ak (λn=>n=g.heap.size\/n=i) w j,
  ⟨_,0,rfl,oM,rfl,d9,e1,ak.refl _⟩,?_⟩
 rintro m B _ w5 ⟨P,rfl,hj,rfl,c4,c5,k5⟩;have c6:(lY.mk x 0 0).Fit:=⟨Qj _,.inl rfl⟩
 refine an.dec (λN=>?_) (λN=>?_)
 ·have c7:P<3:=oM
  have g5:=k5.get g4 oM;have a1:w5.cell? ⟨w3.heap.size,0+Int.toNat (P:Int),none⟩=some (.pointer (some ⟨g.heap.size,P,none⟩)):=by
   rw[Qx,Xz]
   match P,c7 with
   |0,_=>exact ae g5 rfl
   |1,_=>exact ae g5 rfl
   |2,_=>exact ae g5 rfl
  refine⟨_,_,rfl,oM,oM,_,a1,PC.ok (EU c5) ?_⟩;rintro _ w6 ⟨rfl,O,Q⟩;have W:=Q.get c4 oM;refine⟨_,rfl,_,_,rfl,PS.mk W (by simp[qk];omega) λX C s7 g7=>⟨_,oM,P+1,aq oM,oM,rfl,?_,?_,?_⟩⟩
  ·rw[g7,Ka (c6.ints P).2.2.1 c7];rfl
  ·rw[lA]
   exact O.af C λn e r=>by have:=V n e;omega
  ·exact k5.then ((Q.mono λ_ _ h=>.inr h).then (C.mono λ_ _ h=>.inl h))
 obtain rfl:P=3:=oM
 obtain⟨c8,e3,h6,_⟩:=c6.ints 3;refine PC.ok (Hx c5) ?_;rintro _ w6 ⟨rfl,O,Q⟩;have W:=Q.get c4 oM;have e4:ak (λn=>n=g.heap.size\/n=i) w w6:=k5.then (Q.mono λ_ _ h=>.inr h);generalize hL:(bf 3 ⟨x,0,0⟩).1=H at W e3;generalize hR:(bf 3 ⟨x,0,0⟩).2=a5 at O c8;obtain⟨Y,e5,c9,_⟩:=c8.count (m:=64) oM;generalize hC:(bW 64 a5).1=I at e5 c9;generalize e6:(bW 64 a5).2=E at O Y;refine⟨_,rfl,λm B j=>∃P:Nat,B=P/\P<=I.toNat/\m=I.toNat-P/\∃s o t v,j.heap[g.heap.size]? =some (.cells (qk H s o t []).toArray 63 (0,0))/\eM j i a0 (bf P E).2/\
   aO aJ 3 v j s o t (bf P E).1/\(∀n,v n->w.heap.size<=n)/\ak (λn=>n=g.heap.size\/n=i) w j,
  ⟨_,0,rfl,oM,rfl,none,0,0,λ_=>False,W,O,aO.nil w6,λ_ h=>h.elim,e4⟩,?_⟩
 rintro m B _ X ⟨P,rfl,hj,rfl,s,o,t,v,b8,b9,c1,z,C⟩;have h7:=C.size;refine an.dec (λN=>?_) (λN=>?_)
 ·intro J d0
  have p:ai X J:=d0.af;have s8:J.heap.size=X.heap.size:=by rw[d0.heap]
  refine⟨λn=>n≠g.heap.size,sM,s,o,t,ae (p.get b8 id) rfl,PC.ok (EU (b9.ah p)) ?_⟩;rintro _ K ⟨rfl,Z,u⟩;have b2:=(Y.ints P).2.2.1;refine⟨_,rfl,u.mono (λn _ h=>oM),?_⟩;have L:aO aJ 3 v K s o t (bf P E).1:=(c1.ah p).af u λn e r=>by have:=z n e;have:=y.size;omega
  refine PA.mk λA l h8 e7=>⟨l.af,?_⟩
  have a2:=L.ah l;have b0:=u.get (p.get b8 id) oM;have k:=l.get b0 id;have e8:=((Y.ints P).1.int).2.1;have d1:Row aJ 8 A (·=K.heap.size) (XM K.heap.size) 1 [(fp (bf P E).2).1]:=AK (f:=(0,0)) [(fp (bf P E).2).1] e7 (by simpa using e8) sM;refine ko a2 tO d1 (λn r=>⟨oM,?_⟩) (by rw[b2];unfold aK;simp;omega) (by rw[b2];unfold maxLen;simp;omega) λd2 e9 R h9 d3 a3 h4 b3=>?_
  ·intro e2
   have:=L.aB n (L.self n e2);omega
  refine⟨_,_,_,rfl,PS.mk (a3.get k ?_) (by simp[qk]) λi0 c2 i1 f2=>⟨_,oM,P+1,aq oM,oM,rfl,d2,o+1,e9,λn=>aF d2=some n,?_,?_,?_,?_,?_⟩⟩
  ·intro r;have:=z _ (L.self _ r);have:=y.size;omega
  ·rw[f2];rfl
  ·rw[lA]
   refine((Z.ah l).af a3 λn e r=>?_).af c2 λn e r=>?_
   ·have:=z _ (L.self _ r);have:=V n e;have:=y.size;have:=U.size;omega
   ·have:=V n e;omega
  ·have f3:=d3.alone
   rw[lA];refine f3.af c2 λn e r=>?_;rcases b3 n e with h|h
   ·have:=z n h;have:=y.size;omega
   ·have:=l.size;have:=u.size;have:=p.size;omega
  ·intro n e
   rcases b3 n e with h|h
   ·exact z n h
   ·have:=l.size;have:=u.size;have:=p.size;omega
  ·have ka:ak (λn=>n=g.heap.size\/n=i) w A:=((C.ah p).then (u.mono λ_ _ h=>.inr h)).ah l
   have kb:ak (λn=>n=g.heap.size\/n=i) w R:=ka.new a3 λn e=>.inr (z n (L.self n e));exact kb.then (c2.mono λ_ _ h=>.inl h)
 obtain rfl:P=I.toNat:=oM
 obtain⟨d4,f5,f6,_⟩:=Y.ints I.toNat;generalize f8:(bf I.toNat E).1=S at c1 f5 f6;generalize g0:(bf I.toNat E).2=q at b9 d4;refine PA.mk λJ p s8 g8=>?_;have g2:=p.get b8 id;have g6:ak (λn=>n=g.heap.size\/n=i) w J:=C.ah p;have h0:=c1.ah p;have i2:=y.size;refine⟨λm B j=>∃P:Nat,B=P/\P<=6/\m=6-P/\j.heap[g.heap.size]? =some (.cells (qk H s o t (bf P q).1).toArray 63 (0,0))/\eM j i a0 (bf P q).2/\ak (λn=>n=g.heap.size\/n=i) J j,
  ⟨_,0,rfl,oM,rfl,g2,b9.ah p,ak.refl _⟩,?_⟩
 rintro m B _ K ⟨P,rfl,hj,rfl,b0,Z,u⟩;refine an.dec (λN=>?_) (λN=>?_)
 ·have d5:P<6:=oM
  have M:=u.get g8 (by have:=C.size;omega);have a1:K.cell? ⟨X.heap.size,0+Int.toNat (P:Int),none⟩=some (.pointer (some ⟨g.heap.size,4+P,none⟩)):=by
   rw[Qx,Xz]
   match P,d5 with
   |0,_=>exact ae M rfl
   |1,_=>exact ae M rfl
   |2,_=>exact ae M rfl
   |3,_=>exact ae M rfl
   |4,_=>exact ae M rfl
   |5,_=>exact ae M rfl
  refine⟨_,_,rfl,oM,oM,_,a1,PC.ok (EU Z) ?_⟩;rintro _ A ⟨rfl,d6,l⟩;have k:=l.get b0 oM;refine⟨_,rfl,_,_,rfl,PS.mk k (by simp[qk];omega) λR F d7 f=>⟨_,oM,P+1,aq oM,oM,rfl,?_,?_,?_⟩⟩
  ·rw[f,Kb (d4.ints P).2.2.1 d5];rfl
  ·rw[lA]
   exact d6.af F λn e r=>by have:=V n e;omega
  ·exact u.then ((l.mono λ_ _ h=>.inr h).then (F.mono λ_ _ h=>.inl h))
 obtain rfl:P=6:=oM
 have a6:lZ ⟨x,0,0⟩=(⟨H.getD 0 0,H.getD 1 0,H.getD 2 0,S,(bf 6 q).1.getD 0 0,(bf 6 q).1.getD 1 0,(bf 6 q).1.getD 2 0,(bf 6 q).1.getD 3 0,(bf 6 q).1.getD 4 0,(bf 6 q).1.getD 5 0⟩,(bf 6 q).2):=by
  unfold lZ;simp only[hL,hR,hC,e6,f8,g0]
 refine PC.ok (Lt Z) ?_;rintro _ A ⟨rfl,d8⟩;have l:ai K A:=d8.af;have b4:ak (λn=>n=g.heap.size\/n=i) J A:=u.ah l;have b5:ak (λn=>n=g.heap.size\/n=i) w A:=g6.then b4;have b6:=b5.get e0 oM;have k:=l.get b0 id;have a2:aO aJ 3 v A s o t S:=h0.af b4 λn e r=>by have:=z n e;omega
 have b7:ai b A:=b1.new b5 λn e=>.inr oM;have a7:kq (lZ ⟨x,0,0⟩).2=kq (bf 6 q).2:=by rw[a6]
 refine⟨_,rfl,an.dF (λh2=>?_) (λhe=>?_)⟩
 ·have a4:jf x=(AL,kq (bf 6 q).2):=by unfold jf;rw[a7,Zx h2]
  rw[a4];refine storeAll [XH 0,XH 0,XH 0,.slice none 0 0,XH 0,XH 0,XH 0,XH 0,XH 0,XH 0] b6 rfl λR F d7 f=>?_;refine⟨0,0,0,none,0,0,0,0,0,0,0,0,ae f rfl,ae f rfl,ae f rfl,ae f rfl,ae f rfl,ae f rfl,ae f rfl,ae f rfl,ae f rfl,ae f rfl,Ok.mk ⟨none,0,0,λ_=>False,rfl,aO.nil R,?_,λ_ h=>h.elim⟩⟩;exact b7.new F λn e=>.inr oM
 ·have a4:jf x=((lZ ⟨x,0,0⟩).1,0):=by unfold jf;rw[a7,Zq (by simpa using he)]
  rw[a4,a6];refine⟨_,_,_,s,o,t,_,_,_,_,_,_,ae k rfl,ae k rfl,ae k rfl,ae k rfl,ae k rfl,ae k rfl,ae k rfl,ae k rfl,ae k rfl,ae k rfl,?_⟩;refine storeAll (qk H s o t (bf 6 q).1) b6 rfl λR F d7 f=>?_;refine⟨_,_,_,s,o,t,_,_,_,_,_,_,ae f rfl,ae f rfl,ae f rfl,ae f rfl,ae f rfl,ae f rfl,ae f rfl,ae f rfl,ae f rfl,ae f rfl,Ok.mk ⟨s,o,t,v,rfl,a2.af F λn e r=>?_,?_,λn e=>?_⟩⟩
  ·have:=z n e;omega
  ·exact b7.new F λn e=>.inr oM
  ·have:=z n e;have:=b1.size;omega
end
end Go.Proofs.YtjgjkeponbeekaaGreatDoor
namespace Go.au
open Go
def ef(n:List UInt8):Nat:=n.foldl (λP a=>P*10+(a.toNat-48)) 0
def il(n:UInt8):Bool:=decide (48<=n.toNat/\n.toNat<=57)
def fu(n:List UInt8)(P:UInt8):ef (n++[P])=ef n*10+(P.toNat-48):=by simp[ef,List.foldl_append]
variable{e:Int}{x:List UInt8}{a:Nat}{j:Type}
def vv{n P:List j}(a:n≠[]):(n++P).head? =n.head? :=by
 cases n with
 |nil=>exact Zz rfl a
 |cons b n=>rfl
def Bz:∀(n:Nat),ef (Lib.decDigits n)=n/\(Lib.decDigits n).all il=true/\Lib.decDigits n≠[]/\(n≠0->(Lib.decDigits n).head? ≠some 48):=by
 intro n
 induction n using Nat.strongRecOn with
 |_ n c=>
  rw[Lib.decDigits]
  by_cases a:n<10
  ·rw[dif_pos a]
   have P:(UInt8.ofNat (48+n)).toNat=48+n:=by rw[ZK];omega
   refine⟨by simp[ef];omega,by simp[il,P];omega,sM,λh=>?_⟩;intro b;simp only[List.head?_cons,Q1]at b;have:=Zj UInt8.toNat b;rw[P]at this;simp at this;omega
  ·rw[dif_neg a]
   obtain⟨d,e,f,g⟩:=c (n/10) oM;have P:(UInt8.ofNat (48+n % 10)).toNat=48+n % 10:=by rw[ZK];omega
   refine⟨by rw[fu,d,P];omega,?_,sM,λ_=>?_⟩
   ·rw[List.all_append,e];simp[il,P];omega
   ·rw[vv f];exact g oM
def BA:∀{n:List UInt8},n.all il=true->n≠[]->n.head? ≠some 48->0<ef n:=by
 intro n;generalize P:n.length=e
 induction e generalizing n with
 |zero=>intro _ f;exact Zz (QW P) f
 |succ e g=>
  intro a i b;rcases List.eq_nil_or_concat n with rfl|⟨n,c,rfl⟩
  ·cases P
  rw[List.concat_eq_append]at P a b⊢;rw[List.all_append,QK]at a;have j:48<=c.toNat/\c.toNat<=57:=by simpa[il]using a.2
  rw[fu]
  by_cases d:n=[]
  ·subst d
   have:c.toNat≠48:=λh=>b (by simp;exact UInt8.toNat_inj.1 h);omega
  ·have:=g (by simpa using P) a.1 d (by rwa [vv d]at b)
   omega
def CD:∀{n:List UInt8},n.all il=true->n≠[]->(n.head? ≠some 48\/n.length=1)->Lib.decDigits (ef n)=n:=by
 intro n;generalize e:n.length=f
 induction f generalizing n with
 |zero=>intro _ i;exact Zz (QW e) i
 |succ f j=>
  intro a o b;rcases List.eq_nil_or_concat n with rfl|⟨n,P,rfl⟩
  ·cases e
  rw[List.concat_eq_append]at e a b⊢;rw[List.all_append,QK]at a;have p:48<=P.toNat/\P.toNat<=57:=by simpa[il]using a.2
  have h:UInt8.ofNat (48+(P.toNat-48))=P:=UInt8.toNat_inj.1 (by rw[ZK];omega);rw[fu]
  by_cases c:n=[]
  ·subst c
   have k:ef []*10+(P.toNat-48)=P.toNat-48:=by simp[ef]
   rw[k,Lib.decDigits,dif_pos oM,h]
   rfl
  ·have q:0<n.length:=List.length_pos_iff.2 c
   have g:n.length=f:=by simpa using e
   have d:n.head? ≠some 48:=by
    rcases b with b|b
    ·rwa [vv c]at b
    ·omega
   have r:=BA a.1 c d;rw[Lib.decDigits,dif_neg oM];have l:(ef n*10+(P.toNat-48))/10=ef n:=oM
   have m:(ef n*10+(P.toNat-48)) % 10=P.toNat-48:=oM
   rw[l,m,h,j g a.1 c (.inl d)]
def wU:∀(n:List UInt8),n.all il=true->ef n<10 ^ n.length:=by
 intro n;generalize P:n.length=b
 induction b generalizing n with
 |zero=>intro _;have:=QW P;subst this;decide
 |succ b d=>
  intro a;rcases List.eq_nil_or_concat n with rfl|⟨n,c,rfl⟩
  ·cases P
  rw[List.concat_eq_append]at P a⊢;rw[List.all_append,QK]at a;have e:48<=c.toNat/\c.toNat<=57:=by simpa[il]using a.2
  have:=d n (by simpa using P) a.1;rw[fu,Nat.pow_succ];omega
def vu{u:Nat}(g:u<1000000000000):(Lib.decDigits u).length<=12:=by
 rw[Lib.decDigits_length];apply Nat.le_of_not_lt;intro j
 by_cases h:u=0
 ·subst h;rw[Lib.nDigits_small oM]at j;omega
 ·have s:=Lib.lt_pow_nDigits u
  obtain⟨k,l,m,o⟩:=Bz u;have i:=Lib.decDigits_length u;have key:∀(n:List UInt8),n.all il=true->n≠[]->n.head? ≠some 48->10 ^(n.length-1)<=ef n:=by
   intro n;generalize a:n.length=P
   induction P generalizing n with
   |zero=>intro _ g;exact Zz (QW a) g
   |succ P p=>
    intro b t d;rcases List.eq_nil_or_concat n with rfl|⟨n,v,rfl⟩
    ·cases a
    rw[List.concat_eq_append]at a b d⊢;have e:=b;rw[List.all_append,QK]at b;rw[fu]
    by_cases c:n=[]
    ·subst c
     have:=BA e sM d;rw[fu]at this;have q:P=0:=by simpa using a.symm
     subst q;simp at this⊢;omega
    ·have f:n.length=P:=by simpa using a
     have i:0<n.length:=List.length_pos_iff.2 c;have:=p n f b.1 c (by rwa [vv c]at d);have r:P+1-1=(P-1)+1:=oM
     rw[r,Nat.pow_succ];omega
  have:=key _ l m (o h);rw[k,i]at this;have w:10 ^ 12<=10 ^(Lib.nDigits u-1):=Nat.pow_le_pow_right oM oM;have:(10:Nat) ^ 12=1000000000000:=dC
  omega
def d_:List UInt8:=[115,101,103,46]
def aA(n:Int):List UInt8:=if n<0\/1000000000000<=n then []else d_++Lib.decDigits n.toNat
def iG(n:List UInt8):Option Nat:=if n.take 4=d_/\5<=n.length/\n.length<=16/\(n.drop 4).all il=true/\((n.drop 4).head? ≠some 48\/n.length=5)then some (ef (n.drop 4))else none
def qL(n:0<=e)(P:e<1000000000000):aA e=d_++Lib.decDigits e.toNat:=by unfold aA;rw[Zq oM]
def KO(P:0<=e)(a:e<1000000000000):iG (aA e)=some e.toNat:=by
 rw[qL P a];obtain⟨b,c,d,f⟩:=Bz e.toNat;have j:=vu (u:=e.toNat) oM;have k:0<(Lib.decDigits e.toNat).length:=List.length_pos_iff.2 d;have g:(d_++Lib.decDigits e.toNat).drop 4=Lib.decDigits e.toNat:=rfl;have h:(d_++Lib.decDigits e.toNat).take 4=d_:=rfl;have i:(d_++Lib.decDigits e.toNat).length=4+(Lib.decDigits e.toNat).length:=by rw[QX];rfl
 unfold iG;rw[g,h,i,b,Zx];refine⟨rfl,oM,oM,c,?_⟩
 by_cases n:e.toNat=0
 ·right
  rw[n,Lib.decDigits_length,Lib.nDigits_small oM]
 ·exact .inl (f n)
def Be(n:iG x=some a):aA a=x/\a<1000000000000:=by
 unfold iG at n;split at n
 ·rename_i d
  obtain⟨e,h,i,P,f⟩:=d;simp only[Q1]at n;have b:(x.drop 4).length=x.length-4:=sM
  have j:=wU _ P;have k:10 ^(x.drop 4).length<=10 ^ 12:=Nat.pow_le_pow_right oM oM;have l:(10:Nat) ^ 12=1000000000000:=dC
  have g:a<1000000000000:=oM
  refine⟨?_,g⟩;rw[qL oM oM,<-n,Qx,CD P (λc=>by rw[c]at b;simp at b;omega) (f.imp id λc=>oM),<-e,ZX]
 ·cases n
def FU(b:x.all il=true)(c:x.length<=12):iG (d_++x)=if aA (ef x)=d_++x then some (ef x)else none:=by
 have e:=wU _ b;have f:10 ^ x.length<=10 ^ 12:=Nat.pow_le_pow_right oM c;have g:(10:Nat) ^ 12=1000000000000:=dC
 split
 ·rename_i P
  rw[<-P,KO oM oM,Qx]
 ·rename_i P
  cases n:iG (d_++x)with
  |none=>rfl
  |some d=>
   obtain⟨a,h⟩:=Be n;have:d=ef x:=by
    unfold iG at n;split at n
    ·exact(XJ n).symm
    ·cases n
   rw[this]at a;exact Zz a P
def Is(P:x.all il=false):iG (d_++x)=none:=by
 unfold iG;rw[Zq];rintro⟨_,_,_,n,_⟩;have:(d_++x).drop 4=x:=rfl;rw[this,P]at n
 cases n
def NJ(n:x.take 4≠d_):iG x=none:=by
 unfold iG;rw[Zq λP=>n P.1]
def KM(n:16<x.length):iG x=none:=by
 unfold iG;rw[Zq λP=>oM]
end Go.au
namespace Go.Proofs.YtjgjkeponbeekaaGreatDoor
open Go.au
def pick(P n:Int):Int:=if n<1 then 0 else if P.tmod n<0 then P.tmod n+n else P.tmod n
def zS{k n:Int}(P:1<=n):0<=pick k n/\pick k n<n:=by
 unfold pick;rw[Zq oM];have a:k.tmod n<n:=Int.tmod_lt_of_pos k oM;have b: -n<k.tmod n:=Int.lt_tmod_of_pos k oM;split<;>omega
variable{e r:Int}{b:World}
def OS(i:aH r):ZG 15 #[XH e,XH r] b (Ok λf g=>f= XH (pick e r)/\b=g):=by
 refine JJ (an.mk (λP=>?_) (λP=>?_))
 ·have P:=XV P
  exact Ok.mk ⟨by simp[pick,P],rfl⟩
 ·have P:=Xy P
  have a:=zS (k:=e) (n:=r) oM;have h:∀c d,(do eqGuard .rem 3 c d (XH e) (XH r);binOp .rem 3 (XH e) (XH r):Sem Value).run XP b= .ok (XH (e.tmod r)) b:=λc d=>by
   have:r≠0:=oM
   simp[eqGuard,binOp,Op.intDiv,this]
  refine aG.mk (h _ _) ⟨_,rfl,an.mk (λn=>?_) (λn=>?_)⟩
  ·have n:=XV n
   unfold pick at a;rw[Zq oM,Zx n]at a;refine Ok.mk ⟨?_,rfl⟩;rw[wrap_i64 (by unfold aH at*;omega)];unfold pick;rw[Zq oM,Zx n]
  ·have n:=Xy n
   refine Ok.mk ⟨?_,rfl⟩;unfold pick;rw[Zq oM,Zq n]
end Go.Proofs.YtjgjkeponbeekaaGreatDoor
namespace Go.Proofs
open Go.RowKit Go.Maps Go.Sort Go.Shelf
def Tryz.Tv(b:Nat):AnyZ.SortsIn Tryz.prog Tryz.xj Fence.wide b:=
 ⟨λaF P n c a d e f=>callsIn_wide.2 (AnyM.slices_Sort_string Tryz.SC aF P n c a d e f),
  λg n a=>callsIn_wide.2 (AnyM.slices_Sort_string_none Tryz.SC g n a)⟩
end Go.Proofs
namespace Go.Proofs.YtjgjkeponbeekaaGreatDoor
section
open Go.au
open Go.RowKit Go.Maps Go.Sort Go.Shelf
def W_(n P:ByteArray):Bool:=decide (n.data.toList<=P.data.toList)
def uy(n:List ByteArray):List ByteArray:=n.mergeSort W_
def ML(P:List ByteArray):(uy P).map (λn=>n.data.toList)=(P.map λn=>n.data.toList).mergeSort (λn a=>decide (n<=a)):=
 List.map_mergeSort (λb _ c _=>rfl)
def bD.SD{a:Type}{n:a->Value}{b:a->Prop}{hl h1}{d:World}{D:XN}:∀{P:List a},(∀x∈P,b x)->bD (flat 1 (λx=>[n x]) b hl h1) d D P (P.map n)
 |[],_=>rfl
 |x::P,c=>⟨[n x],P.map n,rfl,⟨rfl,c x (QV ..)⟩,bD.SD λe f=>c e (QJ _ f)⟩
variable{f5:List (ByteArray×Value)}{a c:Nat}{C:Nat×Nat}{g:TypeId}{b:World}
def yD(i:bB b a Value.string f5)(I:∀f∈f5,f.1.size<=maxLen)(y:f5.length*16<=aK)(z:b.heap[c]? =some (.cells #[.map (some a)] g C)):
  ZG 222 #[.func (.func 282) #[] #[XL c]] b
   (Ok (px MM 9 b (uy (f5.map (·.1))))):=by
 unfold aK at y;obtain⟨d,h,J,p,K,L⟩:=i.at';have M:Tryz.prog.underlying 9=some .string:=Tryz.underlying9;have N:d.size=f5.length:=by have:=Zj List.length p;simpa using this
 have A:∀P∈d.toList,∃n:ByteArray,P.key=Value.string n/\n.size<=maxLen:=λP e=>by
  have O:(P.key,P.val)∈f5.map (λf=>(Value.string f.1,f.2)):=by rw[<-p];exact Xk.2 ⟨P,e,rfl⟩
  obtain⟨f,Q,R⟩:=Xk.1 O;exact⟨f.1,(Prod.mk.inj R).1.symm,I f Q⟩
 have B:∀P∈d.toList,∀n:ByteArray,P.key=Value.string n->n.size<=maxLen->WideElems.rd XP 9 (λ_=>some ((.nil:DataW Unit),[])) P=some (.string n.data.toList,.nil):=λP _ n k m=>by
  simp[WideElems.rd,k,Go.WideMaps.keyOf_string_mk M m]
 have S:WideElems.Fit XP 9 (λ_=>some ((.nil:DataW Unit),[])) d h:=by
  refine⟨by unfold maxLen;omega,⟨K,L,?_⟩,λP e=>?_⟩
  ·have:d.toList.map (·.key)=(f5.map (·.1)).map Value.string:=by
    have:=Zj (List.map (λs:Value×Value=>s.1)) p;simpa[Function.comp_def]using this
   rw[this];exact List.pairwise_map.2 (List.Pairwise.imp (λT=>by simpa using T) i.tidy)
  ·obtain⟨n,k,m⟩:=A P e
   exact⟨_,B P e n k m⟩
 have U:b.ownsMap XP 9 (λ_=>some ((.nil:DataW Unit),[])) a d.size (.map ((d.toList.map (WideElems.rg XP 9 (λ_=>some ((.nil:DataW Unit),[])))).foldr DataW.insert [])):=
  ⟨d,h,J,S,Q4 _,rfl⟩
 have E:Maps.size (.map ((d.toList.map (WideElems.rg XP 9 (λ_=>some ((.nil:DataW Unit),[])))).foldr DataW.insert []))=f5.length:=by
  show(List.foldr DataW.insert [] _).length=_;rw[(WideShapes.sorted_perm _).length_eq];simp[N]
 have V:(strKeys (.map ((d.toList.map (WideElems.rg XP 9 (λ_=>some ((.nil:DataW Unit),[])))).foldr DataW.insert []))).Perm ((f5.map (·.1)).map λn=>n.data.toList):=by
  refine(List.Perm.map (λf:Lit×DataW Unit=>Go.strOf f.1) (WideShapes.sorted_perm _)).trans ?_;have:(d.toList.map (WideElems.rg XP 9 (λ_=>some ((.nil:DataW Unit),[])))).map (λf=>Go.strOf f.1)=(f5.map (·.1)).map λn=>n.data.toList:=by
   have W:d.toList.map (λP=>match P.key with| .string n=>n.data.toList|_=>[])=(f5.map (·.1)).map λn=>n.data.toList:=by
    have:=Zj (List.map (λs:Value×Value=>match s.1 with| .string n=>n.data.toList|_=>[])) p;simpa[Function.comp_def]using this
   rw[<-W,List.map_map];refine List.map_congr_left λP e=>?_;obtain⟨n,k,m⟩:=A P e;simp[WideElems.rg,B P e n k m,k,Go.strOf]
  rw[this]
 have X:SeqGives Fence.wide 1 XP 282 #[XL c] encStr (λl=>l.Perm (strKeys _)) (Maps.size _) b:=
  AnyZ.keys_gives (ρ:=Tryz.CY) {Tryz.r_ with} Fence.wide _ trivial rfl oM c a d.size _ b (ax z) (ae z rfl) U
 have Y:=AnyZ.sorted_in Tryz.Ry Fence.wide 4 trivial trivial trivial trivial rfl oM (Tryz.Tv _) (enters_of Tryz.func281 kR rfl) 282 #[XL c] trivial
  (enters_of Tryz.func282 kR rfl) _ _ (by rw[E];unfold maxLen;omega) (by rw[E];exact y) b X
 refine((callsIn_wide (n:=4)).1 Y).mono ?_;rintro P Z ⟨a0,l,rfl,hS,q,a7,t⟩;have F:l.mergeSort (λn u=>decide (n<=u))=(uy (f5.map (·.1))).map λn=>n.data.toList:=by rw[ML];exact Go.mergeSort_of_perm (hS.trans V)
 have a8:l.length=(uy (f5.map (·.1))).length:=by
  have:=Zj List.length F;simpa using this
 have a1:((l.mergeSort (λn u=>decide (n<=u))).map encStr)=(uy (f5.map (·.1))).map Value.string:=by
  rw[F,List.map_map];refine List.map_congr_left λn _=>?_;show Value.string ⟨n.data.toList.toArray⟩=Value.string n;simp
 rw[a1]at q;have hv:∃o v,a0= .slice o l.length v:=by
  rcases q.2 with⟨rfl,h0⟩|⟨g',w,x,rfl,_⟩
  ·exact⟨none,0,by rw[h0]⟩
  ·exact⟨_,_,rfl⟩
 obtain⟨o,v,rfl⟩:=hv;have H:∀j,aF o=some j->b.heap.size<=j/\j<Z.heap.size:=λj r=>by
  rcases q.2 with⟨e,_⟩|⟨g',w,x,e,a9,a6,_⟩
  ·simp only[XX]at e
   rw[e.1]at r;cases r
  ·simp only[XX]at e
   rw[e.1]at r;simp only[aF,Q1]at r;have:=ax a6;omega
 exact Ok.mk ⟨o,_,v,λj=>aF o=some j,rfl,⟨⟨_,λ_=>False,⟨ownsRow_base_a q (Qj _)⟩,bD.SD (λ_ _=>trivial),λ_ i=>i.elim⟩,λ_ i=>i,λj i=>(H j i).2⟩,ak.Gu t,λj i=>(H j i).1⟩
end
section
open Go.au
def kS:im XP 9 Value.string:=Wj Tryz.underlying9
def mF:lH XP 141 9 236 (.pointer none):=⟨kR,kR⟩
def uF:Tryz.prog.underlying 236=some (.pointer 239):=kR
def al.room(D:al):Int:=(D.most:Int)-D.used
def al.op(D:al)(n:al->Int×al):Int×al:=if D.dies then(15,D.gone)else n D.dI
def al.Pe(P:ByteArray)(n:al->cG->Int×al)(D:al):Int×al:=match aE D.files P with
 |none=>(14,D)
 |some a=>n D a
def al.create(D:al)(n:ByteArray):Int×al:=D.op λD=>if gX n then(if(aE D.files n).isSome then(16,D)else if 64<=D.files.length then(12,D)else(0,D.gD n ⟨[],0,false⟩))else(1,D)
def al.append(D:al)(n:ByteArray)(P:List UInt8):Int×al:=D.op (al.Pe n λD a=>if(P.length:Int)>D.room then(12,D)else(0,D.gD n {a with bytes:=a.bytes++P}))
def al.sync(D:al)(n:ByteArray):Int×al:=D.op (al.Pe n λD P=>(0,D.gD n (P.cut P.bytes.length)))
def al.Hs(D:al)(k:ByteArray)(n:Int):Int×al:=D.op (al.Pe k λD P=>(0,D.gD k (P.cut n)))
def al.delete(D:al)(n:ByteArray):Int×al:=D.op (al.Pe n λD P=>(0,D.Co n))
def al.rename(D:al)(n P:ByteArray):Int×al:=D.op (al.Pe n λD a=>if gX P then(0,(D.Co n).gD P {a with lX:=true})else(1,D))
def al.read(D:al)(k:ByteArray):List UInt8×Int:=if D.dead then([],15)else match aE D.files k with
 |none=>([],14)
 |some n=>(n.bytes,0)
def al.list(D:al):List ByteArray:=uy (D.files.map (·.1))
def uA(b:World)(c:Nat)(d:XN)(n:Int×al)(e:Value)(P:World):Prop:=∃a,e= XH n.1/\aN P c a n.2/\bL d b a P
variable{W l:Array Value}{w:ByteArray}{e:Int}{d3:Int×al}{f5 g9:List (ByteArray×Value)}{a2:List (ByteArray×mZ)}{x:List UInt8}{a c i:Nat}{Y f:XN}{d:ZH}{j:Type}{v:Value}{b k:World}{y:XU}{a8:cG}
def uA.same{D:al}(n:aN k a f D)(P:ak f b k):uA b a f (e,D) (XH e) k:=⟨f,rfl,n,P,λ_ n=>.inl n⟩
def Ls{D:al}(P:aN b a f D){g:FuncId}{body:al->Int×al}(c:enters XP g=true)(d:D.dies=false->∀n,aN n a f D.dI->ak f b n->ZG g (l++ #[]++W) n (Ok (uA n a f (body D.dI)))):
  ZG 233 #[XL a,.func (.func g) l W] b (Ok (uA b a f (D.op body))):=by
 refine Calls.ok (JY P (e:=(body D.dI).1) (D':=(body D.dI).2) c λe n h i o=>d e n h i) ?_;rintro p q ⟨j,k,r,m⟩;refine⟨j,?_,?_,m⟩
 ·rw[k];unfold al.op;split<;>rfl
 ·unfold al.op;split<;>simp_all
def uB{D:al}(d:aN b a f D){k:ByteArray}{g:FuncId}{body:al->cG->Int×al}(C:enters XP g=true)(E:D.dies=false->∀e j m n,eL e a f D.dI j m->aE m k=some n->ak f b e->ZG g (l++ #[ptr n.q]++W) e (Ok (uA e a f (body D.dI n.f)))):
  ZG 210 #[XL a,.string k,.func (.func g) l W] b (Ok (uA b a f (D.op (al.Pe k body)))):=by
 refine yw (PA.mk λe F V z=>PA.mk λH r X I=>PA.mk λA o Y J=>?_);have s:ai b A:=(F.ah r).ah o;have K:=d.ah s;have t:=d.aB;refine⟨_,ae (o.get (r.get z id) id) rfl,PC.ok (Ls K (body:=al.Pe k body) kR λL P B p=>?_) ?_⟩
 ·obtain⟨j,m,h⟩:=B.open
  have M:P.heap[b.heap.size]? =_:=p.get (o.get (r.get z id) id) (λi=>by have:=t _ i;omega);have N:P.heap[e.heap.size]? =_:=p.get (o.get I id) (λi=>by have:=t _ i;omega);have O:P.heap[H.heap.size]? =_:=p.get J (λi=>by have:=t _ i;omega);refine uo ⟨_,ae M rfl,a,0,rfl,some j,ae h.head rfl,_,ae N rfl,?_⟩;rcases h.box k with⟨u,v⟩|⟨n,Q,Z,u,v⟩
  ·refine⟨none,λw=>?_,λq c=>?_⟩
   ·have:=dK mF kS (h.map.af (ak.drewN (S:=λ_=>False) P w) id) k false
    simpa[v]using this
   ·refine zr uF ⟨_,rfl,an.ff rfl (Ok.mk ?_)⟩
    have:al.Pe k body D.dI=(14,D.dI):=by unfold al.Pe;rw[u]
    rw[this];exact uA.same (B.ah c.af) c.af
  ·refine⟨XM n.q,λw=>?_,λq c=>?_⟩
   ·have:=dK mF kS (h.map.af (ak.drewN (S:=λ_=>False) P w) id) k false
    simpa[v,ptr]using this
   ·refine zr uF ⟨_,rfl,an.tt rfl ⟨_,ae (c.af (S:=λ_=>False)|>.get O id) rfl,g,l,W,rfl,C,?_⟩⟩
    have R:ak f b q:=((s.af (S:=f)).then p).ah c.af;refine PC.ok (E L q j m n (h.ah c.af) Q R) ?_;rintro S w6 ⟨x,rfl,T,y⟩;have:al.Pe k body D.dI=body D.dI n.f:=by unfold al.Pe;rw[u]
    refine⟨_,rfl,Ok.mk ?_⟩;rw[this];exact⟨x,rfl,T,(bL.mk c.af λ_ d=>.inl d:bL f P f q).trans y⟩
 ·rintro S P ⟨x,rfl,U,y⟩
  exact⟨_,rfl,Ok.mk ⟨x,rfl,U,(bL.mk s.af λ_ d=>.inl d:bL f b f A).trans y⟩⟩
def al.Ok.set{D:al}(n:D.Ok){b P:cG}(a:aE D.files w=some b)(c:P.bytes.length+D.used<=b.bytes.length+D.most)(d:P.synced<=P.bytes.length):(D.gD w P).Ok:=by
 have e:=bT a;refine⟨n.most,?_,?_,n.tidy.aI _ _,?_,?_,n.AD,n.AE⟩
 ·have:=xk (l:=D.files) (k:=w) (f:=P)
  rw[a]at this;simp only[Option.map_some,Option.getD_some]at this;show dZ (aI D.files w P)<=D.most;unfold al.used at c;omega
 ·show(aI D.files w P).length<=64
  rw[wB (by rw[a];rfl)];exact n.many
 ·intro x j
  rcases fy n.tidy j with rfl|⟨j,_⟩
  ·show gX w=true
   exact n.names _ e
  ·exact n.names x j
 ·intro x j
  rcases fy n.tidy j with rfl|⟨j,_⟩
  ·exact d
  ·exact n.QS x j
def al.Ok.del{D:al}(n:D.Ok)(P:ByteArray):(D.Co P).Ok:=by
 have d:=Ht D.files P;have e:=xl (l:=D.files) (k:=P);have c:=n.fits;have f:=n.many;unfold al.used at c;exact⟨n.most,by show dZ (bV D.files P)<=D.most;omega,by show(bV D.files P).length<=64;omega,n.tidy.bV P,λa b=>n.names a (fP b),λa b=>n.QS a (fP b),n.AD,n.AE⟩
def al.Ok.put{D:al}(n:D.Ok)(b:gX w=true)(c:a8.bytes.length+D.used<=D.most)(e:D.files.length<64)(d:a8.synced<=a8.bytes.length):(D.gD w a8).Ok:=by
 refine⟨n.most,?_,?_,n.tidy.aI _ _,?_,?_,n.AD,n.AE⟩
 ·have:=xk (l:=D.files) (k:=w) (f:=a8)
  show dZ (aI D.files w a8)<=D.most;unfold al.used at c;omega
 ·have:=wW D.files w a8
  show(aI D.files w a8).length<=64;omega
 ·intro a P
  rcases fy n.tidy P with rfl|⟨P,_⟩
  ·exact b
  ·exact n.names a P
 ·intro a P
  rcases fy n.tidy P with rfl|⟨P,_⟩
  ·exact d
  ·exact n.QS a P
def wD{l:List (ByteArray×j)}{k:ByteArray}(n:(aE l k).isSome=true):(bV l k).length+1=l.length:=by
 induction l with
 |nil=>simp[aE]at n
 |cons P l a=>
  obtain⟨c,d⟩:=P;simp only[bV,aE]at n⊢;split
  ·rfl
  ·rename_i b
   rw[Zq b]at n;simp[a n]
def C_(P:List (ByteArray×j))(a:ByteArray)(c b:j):aI (aI P a c) a b=aI P a b:=by
 induction P with
 |nil=>simp[aI]
 |cons d P e=>
  obtain⟨f,g⟩:=d;simp only[aI]
  by_cases n:(a==f)=true
  ·rw[Zx n,Zx n];simp[aI]
  ·rw[Zq n,Zq n];simp[aI,n,e]
def dJ.RA{G:XN}(P:dJ b a G a8)(c:∀n,dJ n a G {a8 with lX:=true}->ak (·=a) b n->n.heap.size=b.heap.size->y n):PS b ⟨a,0+2,none⟩ (.bool true) y:=by
 obtain⟨i,j,d,k,l,m,o,f⟩:=P.body;refine PS.mk l sM λp g q r=>c p ⟨⟨i,j,d,k,r,m.af g (λh e s=>f (s▸e)),o,f⟩,P.self,λh e=>by have:=P.aB h e;omega⟩ g q
def al.Ok.cut{D:al}(P:D.Ok)(a:aE D.files w=some a8)(n:Int):(D.gD w (a8.cut n)).Ok:=by
 have b:=Rz a8 n;have c:=wC n a8.bytes.length;have d:=P.fits;exact P.set a oM (by rw[b];exact Q4 _)
def eL.get{D:al}(P:eL b a f D c a2){n:mZ}(d:aE a2 w=some n):aE D.files w=some n.f:=by
 rw[P.files];have:=AG (λn:mZ=>n.f) a2 w;rw[d]at this;exact this
def lz(P:Value)(c:World)(e:ai k b)(n:uA b a f d3 P c):∃d:Int,P= XH d/\Ok (uA k a f d3) (.returned (XH d)) c:=by
 obtain⟨g,rfl,h,i⟩:=n;exact⟨_,rfl,Ok.mk ⟨g,rfl,h,(bL.mk e.af λ_ n=>.inl n:bL f k f b).trans i⟩⟩
def Da{D:al}(P:aN b a f D){k:ByteArray}:
  ZG 172 #[XL a,.string k] b (Ok (uA b a f (D.sync k))):=by
 refine uf (PC.ok (uB P (k:=k) (g:=236) (body:=λD d=>(0,D.gD k (d.cut d.bytes.length))) kR λv w x y i n c z=>?_) λj l P=>lz j l (ak.refl b) P);have e:=n.each.each _ (bT c);have g:=n.get c;obtain⟨A,B,m,C,o,p,E,F⟩:=e.body;have q:=p.len dC;refine rF ⟨i.q,0,rfl,_,_,_,ae o rfl,PC.ok (AH e (n.ok.len (bT g))) ?_⟩;rintro _ H ⟨I,rfl,h,r⟩;rw[q]at h;obtain⟨s,t,u⟩:=n.eg c h r (n.ok.cut g _);exact⟨rfl,Ok.mk ⟨s,rfl,t.at,u⟩⟩
def Pf{D:al}(P:aN b a f D):
  ZG 169 #[XL a,.string w,XH e] b (Ok (uA b a f (D.Hs w e))):=by
 refine wh (PA.mk λu d v h=>PC.ok (uB (P.ah d) (k:=w) (g:=232) (body:=λD i=>(0,D.gD w (i.cut e))) kR λx y z A B n c j=>?_) λk l P=>lz k l d P);have m:=n.each.each _ (bT c);have g:=n.get c;refine tj ⟨_,ae (j.get h λo=>by have:=P.aB _ o;omega) rfl,PC.ok (AH m (n.ok.len (bT g))) ?_⟩;rintro _ C ⟨E,rfl,p,q⟩;obtain⟨r,s,t⟩:=n.eg c p q (n.ok.cut g _);exact⟨rfl,Ok.mk ⟨r,rfl,s.at,t⟩⟩
def xm{D:al}(n:aN b a f D):
  ZG 141 #[XL a,.string w] b (Ok (uA b a f (D.delete w))):=by
 refine rz (PA.mk λx g y h=>PA.mk λz d A i=>⟨_,ae (d.get h id) rfl,_,ae i rfl,PC.ok (uB ((n.ah g).ah d) (k:=w) (g:=211) (body:=λD B=>(0,D.Co w)) kR λC m o E F p H j=>?_) λq r n=>lz q r (g.ah d) n⟩);have s:=j.get (d.get h id) λP=>by have:=n.aB _ P;omega
 have t:=j.get i λP=>by have:=n.aB _ P;omega
 refine oX λu k=>?_;have c:=p.ah k.af;have e:ai m u:=k.af;refine⟨_,ae (e.get s id) rfl,a,0,rfl,some o,ae c.head rfl,w,ae (e.get t id) rfl,JZ mF kS c.map λI v l J=>Ok.mk ⟨f,rfl,(c.drop v l (c.ok.del w)).at,?_,λ_ n=>.inl n⟩⟩;exact e.af.then (l.mono λK _ P=>by rw[P];exact c.Fr)
def Hu{D:al}(c:aN b a f D){k e:ByteArray}:
  ZG 182 #[XL a,.string k,.string e] b (Ok (uA b a f (D.rename k e))):=by
 refine rE (PA.mk λw1 J s1 K=>PA.mk λX o s2 L=>PA.mk λw3 g s3 Y=>⟨_,ae (g.get (o.get K id) id) rfl,_,ae (g.get L id) rfl,PC.ok (uB (((c.ah J).ah o).ah g) (k:=k) (g:=242)
  (body:=λD Z=>if gX e then(0,(D.Co k).gD e {Z with lX:=true})else(1,D)) kR λhd s t b1 x d M u=>?_) λa0 w' c=>lz a0 w' ((J.ah o).ah g) c⟩)
 have h:=u.get (g.get (o.get K id) id) λn=>by have:=c.aB _ n;omega
 have v:=u.get (g.get L id) λn=>by have:=c.aB _ n;omega
 have N:=u.get Y λn=>by have:=c.aB _ n;omega
 have w:=bT M;have y:=d.get M;refine pd ⟨_,ae N rfl,PC.ok uC ?_⟩;rintro _ w5 ⟨rfl,z⟩;refine⟨_,rfl,an.not (an.mk (λp=>λw6 a6=>?_) (λp=>Ok.mk ?_))⟩
 ·have i:ai s w6:=z.ah a6.af
  have q:=d.ah i;refine⟨_,ae (i.get h id) rfl,a,0,rfl,some t,ae q.head rfl,_,ae (i.get v id) rfl,JZ mF kS q.map λw7 a7 A b8=>λB C=>?_⟩;have a8:=q.drop a7 A (q.ok.del k);have E:=a8.ah C.af;have O:∀P,P=t->f P:=λP n=>by rw[n];exact d.Fr
  have F:ak f s B:=(i.af.then (A.mono λP _ n=>O P n)).ah C.af;have Q:∀{P:Nat} {R:Obj},s.heap[P]? =some R->b.heap.size<=P->B.heap[P]? =some R:=λn b9=>F.get n λhF=>by have:=c.aB _ hF;omega
  have j:=d.Hr _ w;have S:dJ B (mZ.q x) (mZ.G x) (mZ.f x):=(((d.each.each _ w).af i λ_ _ c=>c).af A λP n=>(j P n).2.2).af C.af λ_ _ c=>c;have a1:b.heap.size<=X.heap.size:=oM
  refine⟨_,ae (Q h (Q4 _)) rfl,a,0,rfl,some t,ae E.head rfl,e,ae (Q N a1) rfl,cV mF kS E.map λw9 a9 H c2=>⟨x.q,0,rfl,?_⟩⟩;have b0:=d.ok.fits;have T:=xl (l:=D.dI.files) (k:=k);rw[y]at T;simp only[Option.map_some,Option.getD_some]at T;have b6:=wD (l:=D.dI.files) (k:=k) (by rw[y];rfl);have b7:=d.ok.many;have a2:=d.ok.QS _ (bT y);have U:∀l:cG,l.bytes=x.f.bytes->l.synced=x.f.synced->((D.dI.Co k).gD e l).Ok:=λl h v=>(d.ok.del k).put p (by
   show l.bytes.length+dZ (bV D.dI.files k)<=D.dI.most;unfold al.used at b0;rw[h];omega) (by show(bV D.dI.files k).length<64;omega) (by rw[h,v];exact a2)
  have b2:=E.put (q:=x.q) (G':=x.G) a9 H S (λa3 hy c3 P n b3=>by
   obtain⟨b4,b5⟩:=ER d.each.tidy hy;exact d.each.apart _ w a3 b4 (λI=>b5 I.symm) P n b3) (λP n=>(j P n).2) (U x.f rfl rfl)
  have V:dJ w9 x.q x.G x.f:=S.af H λP n=>(j P n).2.2;refine V.RA λc4 a4 a5 c0=>Ok.mk ?_;obtain⟨F',m,W⟩:=b2.eg (k:=e) (x:=⟨x.q,x.G,x.f⟩) (by rw[qV];simp) a4 ⟨a5.mono λP _ n=>n▸V.self,λ_ c=>.inl c⟩ (by
   unfold al.gD;simp only[C_];exact U {x.f with lX:=true} rfl rfl)
  rw[p,Zx rfl];have I:((D.dI.Co k).gD e x.f).gD e {x.f with lX:=true}=(D.dI.Co k).gD e {x.f with lX:=true}:=by
   unfold al.gD;simp only[C_]
  refine⟨F',rfl,by rw[<-I];exact m.at,⟨?_,λP n=>?_⟩⟩
  ·exact(F.then (H.mono λP _ n=>O P n)).then (W.af.mono λP _ n=>n.elim id λc=>(j P c).1)
  ·rcases W.new P n with(r|r)|r
   ·exact .inl r
   ·exact .inl (j P r).1
   ·have:=F.size;exact .inr oM
 ·rw[p];exact⟨f,rfl,(d.ah z).at,z.af,λ_ c=>.inl c⟩
def xo{D:al}(n:aN b a f D):
  ZG 170 #[XL a,.string w] b (Ok (uA b a f (D.create w))):=by
 refine rD (PA.mk λw1 H s1 I=>PA.mk λw2 m s2 N=>⟨_,ae (m.get I id) rfl,PC.ok (Ls ((n.ah H).ah m) (g:=234)
  (body:=λD=>if gX w then(if(aE D.files w).isSome then(16,D)else if 64<=D.files.length then(12,D)else(0,D.gD w ⟨[],0,false⟩))else(1,D)) kR λhd r O s=>?_) λQ R n=>lz Q R (H.ah m) n⟩)
 obtain⟨e,t,P⟩:=O.open;have u:=s.get (m.get I id) λc=>by have:=n.aB _ c;omega
 have v:=s.get N λc=>by have:=n.aB _ c;omega
 refine o_ ⟨_,ae v rfl,PC.ok uC ?_⟩;rintro _ x ⟨rfl,g⟩;refine⟨_,rfl,an.not (an.mk (λh=>?_) (λh=>Ok.mk ?_))⟩
 ·have y:=P.ah g
  have J:∀k,(Instr.lookup 141 (.map (some e)) (.string w) false).run XP (x.drewN k)= .ok ((aE (t.map dH) w).getD (.pointer none)) (x.drewN k):=λk=>by
   have:=dK mF kS (y.map.af (ak.drewN (S:=λ_=>False) x k) id) w false;simpa using this
  have S:∃i:ZH,(aE (t.map dH) w).getD (.pointer none)= .pointer i/\i.isSome=(aE D.dI.files w).isSome:=by
   rcases P.box w with⟨z,A⟩|⟨T,b0,bm,z,A⟩
   ·exact⟨none,by rw[A];rfl,by rw[z];rfl⟩
   ·exact⟨XM T.q,by rw[A];rfl,by rw[z];rfl⟩
  obtain⟨i,U,B⟩:=S;rw[U]at J;refine⟨_,ae (g.get u id) rfl,a,0,rfl,some e,ae y.head rfl,w,ae (g.get v id) rfl,i,J,i.isSome,λk=>py uF _ _ i _,λV C=>an.mk (λW=>Ok.mk ?_) (λK=>?_)⟩
  ·rw[h,Zx rfl,Zx (by rw[<-B];exact W)]
   exact⟨f,rfl,(y.ah C.af).at,ai.af (g.ah C.af),λ_ n=>.inl n⟩
  ·have o:ai r V:=g.ah C.af
   have E:=P.ah o;have a8:(t.map dH).length=D.dI.files.length:=by rw[P.files];simp
   refine⟨_,ae (o.get u id) rfl,a,0,rfl,some e,ae E.head rfl,Tw mF E.map ⟨_,rfl,an.dec (λa9=>Ok.mk ?_) (λb3=>λl X=>?_)⟩⟩
   ·rw[h,Zx rfl,Zq (by rw[<-B,K];simp),Zx oM]
    exact⟨f,rfl,E.at,o.af,λ_ n=>.inl n⟩
   ·have j:ai r l:=o.ah X.af
    have p:=P.ah j;have b4:=P.map.lt;have b5:=ax P.head;have a7:b.heap.size<=r.heap.size:=by have:=s.size;omega
    have L:∀d,b.heap.size<=d->d≠e:=λd c a2=>by have:=n.aB e P.Fr;omega
    refine⟨(·=e),L _ (Q4 _),_,ae (j.get u id) rfl,a,0,rfl,P.pr,some e,ae p.head rfl,L _ oM,w,ae (j.get v id) rfl,PA.mk λM q s7 Y=>⟨q.af,cV mF kS (p.ah q).map λw8 Z F b6=>⟨F,Ok.mk ?_⟩⟩⟩;have a3:=p.ah q;have a0:dJ M l.heap.size (·=l.heap.size) ⟨[],0,false⟩:=⟨⟨none,0,0,λ_=>False,Y,aO.nil M,λ_ n=>n.elim,λn=>n⟩,rfl,λd c=>oM⟩
    have a4:(D.dI.gD w ⟨[],0,false⟩).Ok:=P.ok.put h (by have:=P.ok.fits;simpa using this) oM (Q4 _);have a5:=a3.put (q:=l.heap.size) (G':=(·=l.heap.size)) Z F a0 (λa1 hy _ d c a6=>by have:=(p.each.each a1 hy).aB d a6;omega) (λd c=>by have:=j.size;omega) a4;rw[h,Zx rfl,Zq (by rw[<-B,K];simp),Zq oM];refine⟨_,rfl,a5.at,⟨(j.af.ah q).then (F.mono λd _ c=>by rw[c];exact P.Fr),λd c=>c.imp id λn=>by have:=j.size;omega⟩⟩
 ·rw[h]
  exact⟨f,rfl,(P.ah g).at,g.af,λ_ n=>.inl n⟩
def fZ(n:List (ByteArray×mZ)):Nat:=(n.map λP=>P.2.f.bytes.length).sum
def Dd(n:List (ByteArray×mZ)):fZ n=dZ (n.map uz):=by unfold fZ dZ;rw[List.map_map];rfl
def wF{left:List (ByteArray×mZ)}(c:left.map dH=f5++(w,v)::g9):
  ∃n P a,left=n++(w,P)::a/\f5=n.map dH/\g9=a.map dH/\v=ptr P.q:=by
 obtain⟨n,j,d,e,f⟩:=List.map_eq_append_iff.1 c;obtain⟨g,a,h,b,i⟩:=List.map_eq_cons_iff.1 f;obtain⟨k,P⟩:=g;simp only[dH,Prod.mk.injEq]at b;obtain⟨rfl,rfl⟩:=b;exact⟨n,P,a,by rw[d,h],e.symm,i.symm,rfl⟩
def MQ{D:al}(g:aN b a f D):
  ZG 239 #[XL a] b (Ok λj h=>j= XH D.room/\ai b h):=by
 obtain⟨k,P,c⟩:=g.open;have Q:=c.ok.most;have l:=c.ok.fits;unfold al.used at l;rw[c.files,<-Dd]at l;refine uk ⟨a,0,rfl,_,ae c.head rfl,a,0,rfl,some k,ae c.head rfl,mapRange mF c.map λR v w S=>?_⟩;refine⟨λm o h=>∃left:List (ByteArray×mZ),cB h b.heap.size k Value.string (P.map dH) (left.map dH)/\m=left.length/\o=(D.most:Int)-fZ P+fZ left/\fZ left<=fZ P/\ai b h/\∀n∈left,n∈P,
  ⟨_,P,v,rfl,oM,Q4 _,w,λ_ g=>g⟩,?_⟩
 rintro m o T U ⟨left,x,rfl,rfl,V,p,q⟩;refine m_ x (λy=>.inl ⟨rfl,Ok.mk ⟨?_,p⟩⟩) λi j W X r z A B C Y=>.inr ⟨_,_,rfl,qj B ?_⟩
 ·have:left=[]:=by simpa using y
  subst this;simp only[fZ,List.map_nil,List.sum_nil,al.room,al.used];rw[c.files,<-Dd];simp[fZ]
 ·obtain⟨e,n,d,rfl,rfl,rfl,rfl⟩:=wF z
  have E:(i,n)∈P:=q _ sM;have s:ai b r:=p.new C λd Z=>.inr oM;have F:dJ r n.q n.G n.f:=(c.each.each _ E).af s λ_ _ g=>g;obtain⟨H,t,I,F0,J,K,h3,h4⟩:=F.body;have L:=K.len dC;have M:fZ (e++(i,n)::d)=fZ (e++d)+n.f.bytes.length:=by simp[fZ];omega
  have N:XG .i64 ((D.most:Int)-fZ P+fZ (e++(i,n)::d)-((t:Nat):Int))=(D.most:Int)-fZ P+fZ (e++d):=by
   rw[wrap_i64 bc,L,M];omega
  refine⟨_,_,rfl,n.q,0,rfl,H,t,I,ae J rfl,(e++d).length,sM,e++d,?_,rfl,N,oM,s,λO u=>q O ?_⟩
  ·rw[Q3];exact A
  ·simp only[Q6,Q2]at u⊢;exact u.imp id .inr
def xp{D:al}(h:aN b a f D)(P:Row fx 1 b Y d c x)(X:d=none->c=0/\i=0)(v:∀n,Y n->n<b.heap.size/\¬f n):
  ZG 178 #[XL a,.string w,.slice d c i] b (Ok (uA b a f (D.append w x))):=by
 have K:=P.len;have Z:=P.dP;unfold aK at Z;refine rA (PA.mk λw1 y s1 L=>PA.mk λw2 k s2 g2=>⟨_,ae (k.get L id) rfl,PC.ok (uB ((h.ah y).ah k) (k:=w) (g:=238)
  (body:=λD M=>if(x.length:Int)>D.room then(12,D)else(0,D.gD w {M with bytes:=M.bytes++x})) kR λhd r a0 b5 e g z s=>?_) λa1 w' h=>lz a1 w' (y.ah k) h⟩)
 have e1:=s.get (k.get L id) λP=>by have:=h.aB _ P;omega
 have N:=s.get g2 λP=>by have:=h.aB _ P;omega
 have a4:Row fx 1 r Y d c x:=((P.ah y).ah k).af s λn P=>(v n P).2;have A:=g.get z;refine oY λw4 t=>⟨λ_=>False,id,d,c,i,ae (t.af (S:=λ_=>False)|>.get N id) rfl,_,ae (t.af (S:=λ_=>False)|>.get e1 id) rfl,PC.ok (MQ (g.ah t.af).at) ?_⟩
 rintro _ w5 ⟨rfl,O⟩;have B:ai r w5:=(bF.af t).then O;refine⟨_,rfl,O,an.dec (λa5=>Ok.mk ?_) (λa6=>λl a7=>?_)⟩
 ·rw[Zx (by rw[<-K];exact a5)]
  exact⟨f,rfl,(g.ah B).at,B.af,λ_ h=>.inl h⟩
 ·have m:ai r l:=B.ah a7.af
  have C:=g.ah m;have Q:=bT z;have E:dJ l e.q e.G e.f:=C.each.each _ Q;obtain⟨u,R,fc,F0,F,o,H,S⟩:=E.body;have b6:=o.len dC;have b7:e.f.bytes.length<=262144:=g.ok.len (bT A);have a8:∀n,e.G n->f n/\n≠a/\n≠a0:=C.Hr _ Q;refine⟨e.q,0,rfl,u,R,fc,ae F rfl,d,c,i,ae (m.get N id) rfl,?_⟩;have a2:∀n,Y n->n<l.heap.size/\aF u≠some n:=λn P=>⟨by have:=(v n P).1;have:=s.size;have:=m.size;omega,λj=>(v n P).2 (a8 n (H n (o.self n j))).1⟩
  have b8:D.dI.room<=262144:=by have:=g.ok.most;unfold al.room;omega
  refine yR o sJ (a4.ah m) X a2 ba (by unfold maxLen;omega) λp c' w7 F' I J _ T=>?_;have hq:aF u≠some e.q:=λj=>S (o.self _ j);have b9:=ax F;have q:aF p≠some e.q:=λj=>by rcases T _ j with h|h;exact S h;omega
  refine⟨_,_,_,rfl,e.q,0,rfl,PS.mk (J.get F hq) sM λU V s8 g8=>Ok.mk ?_⟩;have W:¬((x.length:Int)>D.dI.room):=by rw[<-K];exact a6
  rw[Zq W];have a9:∀n,aF u=some n->e.G n:=λn j=>H n (o.self n j);have b0:dJ U e.q (λn=>n=e.q\/aF p=some n) {e.f with bytes:=e.f.bytes++x}:=
   ⟨⟨p,R+c,c',λn=>aF p=some n,g8,I.alone.af V (λn P a3=>q (by rw[<-a3];exact P)),λn P=>.inr P,q⟩,.inl rfl,by
    rintro n (rfl|P)
    ·have:=J.size;omega
    ·have:=I.aB n (I.self n P);omega⟩
  have b1:bL e.G l (λn=>n=e.q\/aF p=some n) U:=⟨(J.mono λn _ P=>a9 n P).then (V.mono λn _ P=>P▸E.self),by
   rintro n (rfl|P)
   ·exact .inl E.self
   ·exact(T n P).imp (λh=>H n h) id⟩
  have b2:(D.dI.gD w {e.f with bytes:=e.f.bytes++x}).Ok:=g.ok.set A (by
   unfold al.room at W;simp only[QX];omega) (by have:=g.ok.QS _ (bT A);simp only[QX];show e.f.synced<=_;have h':e.f.synced<=e.f.bytes.length:=this;omega)
  obtain⟨F2,b3,b4⟩:=C.eg z b0 b1 b2;exact⟨F2,rfl,b3.at,(bL.mk m.af λ_ h=>.inl h:bL f r f l).trans b4⟩
def wG{D:al}(g:aN b a f D):
  ZG 162 #[XL a,.string w] b (Ok λl m=>∃i,l= .tuple #[i,XH (D.read w).2]/\px fx 5 b (D.read w).1 i m):=by
 obtain⟨j,C,P⟩:=g.open;have n:px fx 5 b [] (.slice none 0 0) b:=⟨none,0,0,λ_=>False,rfl,aO.nil b,ak.refl _,λ_ g=>g.elim⟩
 rcases P.box w with⟨e,h⟩|⟨d,E,o,e,h⟩
 ·refine lx ⟨a,0,rfl,some j,ae P.head rfl,yT mF kS P.map ?_⟩
  rw[h];refine⟨_,rfl,a,0,rfl,_,ae P.head rfl,an.mk (λc=>Ok.mk ?_) (λc=>fh uF ⟨_,rfl,an.tt rfl (Ok.mk ?_)⟩)⟩
  ·unfold al.read;rw[c,Zx rfl];exact⟨_,rfl,n⟩
  ·unfold al.read;rw[c,Zq sM,e];exact⟨_,rfl,n⟩
 ·refine lx ⟨a,0,rfl,some j,ae P.head rfl,yT mF kS P.map ?_⟩
  rw[h];refine⟨_,rfl,a,0,rfl,_,ae P.head rfl,an.mk (λc=>Ok.mk ?_) (λc=>fh uF ⟨_,rfl,an.ff rfl ?_⟩)⟩
  ·unfold al.read;rw[c,Zx rfl];exact⟨_,rfl,n⟩
  ·have p:dJ b d.q d.G d.f:=P.each.each _ o
   obtain⟨q,r,s,F,t,k,H,I⟩:=p.body;have J:d.f.bytes.length<=262144:=P.ok.len (bT e);refine⟨d.q,0,rfl,q,r,s,ae t rfl,PC.ok (km (k.row dC ba) k.aB) ?_⟩;rintro _ K ⟨u,v,x,y,rfl,z,A,B⟩;unfold al.read;rw[c,Zq sM,e];exact⟨_,_,_,rfl,Ok.mk ⟨_,rfl,u,v,x,y,rfl,z,A,B⟩⟩
def wH{D:al}(j:aN b a f D):
  ZG 160 #[XL a] b (Ok (px MM 9 b D.list)):=by
 obtain⟨g,h,n⟩:=j.open;have z:=n.ok.many;have A:h.length=D.files.length:=by rw[n.files];simp
 refine ug ⟨a,0,rfl,some g,ae n.head rfl,PC.ok (φ:=λk d=>k= .func (.func 282) #[] #[XL b.heap.size]/\ai b d/\d.heap.size=b.heap.size+1/\
  d.heap[b.heap.size]? =some (.cells #[.map (some g)] 141 (0,0))) (dm (PA.mk λl P i e=>Ok.mk ⟨rfl,P,i,e⟩)) ?_⟩
 rintro _ l ⟨rfl,P,i,e⟩;refine⟨_,rfl,PC.ok (yD (n.map.ah P) (λB m=>?_) (by rw[Q8];unfold aK;omega) e) ?_⟩
 ·obtain⟨c,o,rfl⟩:=Xk.1 m
  have:=n.ok.names (uz c) (by rw[n.files];exact Xk.2 ⟨c,o,rfl⟩);unfold gX at this;simp only[QK,Zk]at this;have C:c.1.size<=16:=this.1.2;show c.1.size<=maxLen;unfold maxLen;omega
 ·rintro _ E ⟨p,q,r,s,rfl,t,u,v⟩
  refine⟨_,_,_,rfl,Ok.mk ⟨p,q,r,s,rfl,?_,P.ah u,λw x=>by have:=v w x;omega⟩⟩;have y:uy ((h.map dH).map (·.1))=D.list:=by unfold al.list;rw[n.files,List.map_map,List.map_map];rfl
  rw[<-y];exact t
def Hv{n:List (ByteArray×j)}(P:Tidy n)(a:ByteArray):bV n a=n.filter λb=>b.1 !=a:=by
 induction n with
 |nil=>rfl
 |cons f n e=>
  obtain⟨b,k⟩:=f;unfold Tidy at P e;simp only[QY,List.nodup_cons]at P;unfold bV
  by_cases c:(a==b)=true
  ·rw[Zx c]
   have g:a=b:=eq_of_beq c;subst g;rw[List.filter_cons_of_neg sM];exact(List.filter_eq_self.2 λh i=>by
    simp only[bne_iff_ne,ne_eq];intro d;exact P.1 (d▸Xk.2 ⟨h,i,rfl⟩)).symm
  ·rw[Zq c,e P.2,List.filter_cons_of_pos]
   simp only[bne_iff_ne,ne_eq];intro d;exact c (by rw[d];simp)
def stays(left:List (ByteArray×mZ))(n:ByteArray×mZ):Bool:=n.2.f.lX||left.any λP=>P.1==n.1
def yE(J:bB b a Value.string (a2.map dH))(l:CZ b a2)(K:∀n∈a2,∀c,n.2.G c->c≠a):
  ZG 137 #[.map (some a),.func (.func 138) #[] #[]] b
   (Ok λo h=>o= .tuple #[]/\bB h a Value.string ((a2.filter λn=>n.2.f.lX).map dH)/\ak (·=a) b h):=by
 have L:enters XP 138=true:=kR
 refine cM (mapRange mF J λw1 M N s1=>?_);refine⟨λu h=>∃left:List (ByteArray×mZ),cB h b.heap.size a Value.string ((a2.filter (stays left)).map dH) (left.map dH)/\u=left.length/\ak (·=a) b h/\(∀n∈left,n∈a2)/\Tidy left,
  ⟨_,a2,?_,rfl,N.af,λ_ O=>O,l.tidy⟩,?_⟩
 ·have i:a2.filter (stays a2)=a2:=List.filter_eq_self.2 λn m=>by
   unfold stays;rw[Bool.or_eq_true];exact .inr (List.any_eq_true.2 ⟨n,m,sM⟩)
  rw[i];exact M
 ·rintro u a0 w2 ⟨left,p,rfl,v,w,j⟩
  refine m_ p (λk=>.inl ⟨rfl,Ok.mk ⟨rfl,?_,v⟩⟩) λd o l1 l2 r Q x R S s3=>.inr ⟨_,_,rfl,qj R ?_⟩
  ·have:left=[]:=by simpa using k
   subst this;have i:(a2.filter (stays []))=a2.filter λn=>n.2.f.lX:=List.filter_congr λn _=>by simp[stays]
   rw[i]at p;exact p.map
  ·obtain⟨e,n,c,rfl,rfl,rfl,rfl⟩:=wF Q
   have m:(d,n)∈a2:=w _ sM;have a6:b.heap.size≠a:=p.ne;have s:ak (·=a) b r:=v.new S λc y=>.inr oM;have T:dJ r n.q n.G n.f:=(l.each _ m).af s λc y=>K _ m c y;obtain⟨fa,fn,fc,F0,q,z,h3,h4⟩:=T.body;have A:d∉(e++c).map (·.1):=by
    unfold Tidy at j;rw[Q3,QY]at j;rw[Q3];intro U;have V:=(List.perm_middle (a:=d) (l₁:=e.map (·.1)) (l₂:=c.map (·.1))).nodup_iff.1 j;exact(List.nodup_cons.1 V).1 U
   have B:∀P∈a2,P.1≠d->stays (e++(d,n)::c) P=stays (e++c) P:=λP f g=>by
    unfold stays
    congr 1
    have:(d==P.1)=false:=beq_false_of_ne (Ne.symm g);simp[List.any_append,this]
   have C:∀P∈a2,P.1=d->P=(d,n):=λP f k=>by
    have q:=qh l.tidy (k:=P.1) (v:=P.2) f;have z:=qh l.tidy (k:=d) (v:=n) m;rw[k,z]at q;exact Prod.ext k (XJ q).symm
   have W:(e++c).any (λP=>P.1==d)=false:=by
    rw[List.any_eq_false];intro P f k;exact A (Xk.2 ⟨P,f,eq_of_beq k⟩)
   have E:Tidy (e++c):=by
    unfold Tidy at j⊢;rw[Q3,QY]at j;rw[Q3];exact(List.nodup_cons.1 ((List.perm_middle (a:=d) (l₁:=e.map (·.1)) (l₂:=c.map (·.1))).nodup_iff.1 j)).2
   have F:∀P∈e++c,P∈a2:=λP f=>w P (by simp only[Q6,Q2]at f⊢;exact f.imp id .inr);have H:(e++c).length<(e++(d,n)::c).length:=sM
   refine⟨_,_,rfl,_,_,_,rfl,L,PC.ok (φ:=λo h=>o= .bool (!n.f.lX)/\h=r) (pR ⟨n.q,0,rfl,_,ae q rfl,Ok.mk ⟨rfl,rfl⟩⟩) ?_⟩;rintro _ _ ⟨rfl,rfl⟩;refine⟨_,rfl,an.not (an.mk (λt=>⟨_,H,e++c,?_,rfl,s,F,E⟩) (λt=>?_))⟩
   ·have i:a2.filter (stays (e++(d,n)::c))=a2.filter (stays (e++c)):=List.filter_congr λP f=>by
     by_cases g:P.1=d
     ·rw[C P f g];simp[stays,t]
     ·exact B P f g
    rw[Q3,<-i];exact x
   ·refine Pg mF kS x (by rw[<-Q3];simpa[dH,Function.comp_def]using A) λw4 I X s4=>⟨_,H,e++c,?_,rfl,s.then X,F,E⟩
    have i:bV ((a2.filter (stays (e++(d,n)::c))).map dH) d=(a2.filter (stays (e++c))).map dH:=by
     have Y:bV ((a2.filter (stays (e++(d,n)::c))).map dH) d=(bV (a2.filter (stays (e++(d,n)::c))) d).map dH:=(AF (λn:mZ=>ptr n.q) _ d).symm;have Z:Tidy (a2.filter (stays (e++(d,n)::c))):=List.Nodup.sublist (List.Sublist.map _ List.filter_sublist) l.tidy;rw[Y,Hv Z,List.filter_filter]
     congr 1
     refine List.filter_congr λP f=>?_
     by_cases g:P.1=d
     ·rw[C P f g]
      simp only[stays,t,W,Bool.or_false,bne_self_eq_false,Bool.false_and]
     ·rw[B P f g]
      have:(P.1 !=d)=true:=by simpa using g
      rw[this,Bool.true_and]
    rw[i,<-Q3]at I;exact I
end
end Go.Proofs.YtjgjkeponbeekaaGreatDoor
namespace Go.au
open Go
def cy(n:List UInt8):ByteArray:=⟨n.toArray⟩
def vr(n:List UInt8):(cy n).data.toList=n:=by simp[cy]
def Ue(n:ByteArray):cy n.data.toList=n:=by simp[cy]
variable{c6 x:List UInt8}{a:Nat}{T X:Operand}{h:Program}{g:TypeId}{m s:XR}{b:World}
def Si(n:cy x=cy c6):x=c6:=by rw[<-vr x,n,vr]
def ij(n:List UInt8):(cy n).size=n.length:=by simp[cy,ByteArray.size]
def lP(n:ByteArray):Int×Bool:=match iG n.data.toList with
 |some P=>(P,true)
 |none=>(0,false)
def Wy{a n:List UInt8}(c:a.length+n.length<=1000000000)(P:m (.string (cy (a++n))) b):
  aG h (do eqGuard .add g T X (.string (cy a)) (.string (cy n));binOp .add g (.string (cy a)) (.string (cy n))) b m s:=by
 refine aG.mk (v:=.string (cy a++cy n)) (w':=b) ?_ ?_
 ·rw[Sem.run_bind,show(eqGuard .add g T X (.string (cy a)) (.string (cy n))).run h b= .ok () b from rfl,Result.andThen_ok,binOp_string_add,run_string_add_sum b (cy a) (cy n) (by rw[ij,ij];omega)]
 have:cy a++cy n=cy (a++n):=by
  apply ByteArray.ext;simp[cy]
 rw[this];exact P
def ai.Sj{n:Array Obj}:ai b (Sort.grow (b.drewN a) n):=
 ⟨rfl,rfl,rfl,sM,λc P _=>by rw[Sort.heap_grow_old _ _ (by simpa using P)];rfl⟩
end Go.au
namespace Go.Proofs.YtjgjkeponbeekaaGreatDoor
open Go.au
structure Laid (w:World):Prop where
 oL:pL w
 pow:Lib.TabIs XP w "internal/strconv.uint64pow10" .u64 Lib.pow10Tab
variable{w:ByteArray}{e:Int}{c6 x:List UInt8}{b k:World}
def Laid.ah(n:Laid b)(P:ai b k):Laid k:=⟨n.oL.ah P,Lib.tabBelow_of_tabIs n.pow k P.below⟩
def strconv_Itoa{n:Int}{P:World}(c:Laid P)(a:aH n):ZG 213 #[XH n] P (Ok λd b=>d= .string (cy (Lib.itoa n))/\ai P b):=by
 refine(Any.strconv_Itoa Tryz.Qn n a.1 a.2 P c.pow).mono ?_;rintro e b ⟨rfl,f,g,rfl⟩;exact Ok.mk ⟨rfl,ai.Sj⟩
def je(P:Laid b)(a:aH e):ZG 146 #[XH e] b (Ok λc d=>c= .string (cy (aA e))/\ai b d):=by
 refine Ai (an.dec (λn=>?_) (λg=>an.dec (λn=>?_) (λh=>PC.ok (strconv_Itoa P a) ?_)))
 ·exact Ok.mk ⟨by unfold aA;rw[Zx (.inl n)];rfl,ak.refl _⟩
 ·exact Ok.mk ⟨by unfold aA;rw[Zx (.inr n)];rfl,ak.refl _⟩
 rintro _ i ⟨rfl,f⟩;refine⟨_,rfl,Wy (a:=d_) ?_ ⟨_,rfl,Ok.mk ⟨?_,f⟩⟩⟩
 ·have:=vu (u:=e.toNat) oM
  unfold Lib.itoa;rw[Zq oM];show 4+_<=_;omega
 ·rw[qL oM oM]
  unfold Lib.itoa;rw[Zq oM]
def Bw:ZG 324 #[.string (cy x),.string (cy c6)] b (Ok λa c=>a= .bool (decide (x.take c6.length=c6))/\b=c):=by
 refine gI ?_;rw[ij,ij];refine an.dec (λn=>⟨oM,oM,Ok.mk ⟨?_,rfl⟩⟩) (λn=>Ok.mk ⟨?_,rfl⟩)
 ·rw[Qx]
  have P:ByteArray.toList (ByteArray.extract (cy x) 0 c6.length)=x.take c6.length:=by
   rw[ByteArray.toList_eq,ByteArray.data_extract];simp[cy]
  have d:ByteArray.toList (cy c6)=c6:=by rw[ByteArray.toList_eq,vr]
  rw[P,d]
  congr 1
  by_cases n:x.take c6.length=c6<;>simp[n]
 ·have:x.take c6.length≠c6:=λP=>by have:=Zj List.length P;simp at this;omega
  rw[Xv this]
def CC:ZG 224 #[.string (cy x),.string (cy c6)] b (Ok λP a=>P= .tuple (if x.take c6.length=c6 then #[.string (cy (x.drop c6.length)),.bool true]else #[.string (cy x),.bool false])/\b=a):=by
 refine rG (PC.ok (φ:=λP a=>P= .tuple (if x.take c6.length=c6 then #[.string (cy (x.drop c6.length)),.bool true]else #[.string (cy x),.bool false])/\b=a) (gG (PC.ok Bw ?_)) ?_)
 ·rintro _ _ ⟨rfl,rfl⟩
  refine⟨_,rfl,?_⟩;rw[ij,ij]
  by_cases n:x.take c6.length=c6
  ·rw[Zx n,Zy n]
   have e:c6.length<=x.length:=by have:=Zj List.length n;simp at this;omega
   refine an.ff rfl ⟨oM,oM,Ok.mk ⟨?_,rfl⟩⟩;have c:ByteArray.extract (cy x) (Int.toNat ((c6.length:Nat):Int)) x.length=cy (x.drop c6.length):=by
    apply ByteArray.ext;rw[Qx,ByteArray.data_extract];have d:List.take (x.length-c6.length) (List.drop c6.length x)=List.drop c6.length x:=Qz sM;simp[cy,d]
   rw[c]
  ·rw[Zq n,Xv n]
   exact an.tt rfl (Ok.mk ⟨rfl,rfl⟩)
 ·rintro _ _ ⟨rfl,rfl⟩
  split
  ·exact⟨_,_,rfl,Ok.mk ⟨rfl,rfl⟩⟩
  ·exact⟨_,_,rfl,Ok.mk ⟨rfl,rfl⟩⟩
def Aa(y:Laid b):ZG 161 #[.string w] b (Ok λk d=>k= .tuple #[XH (lP w).1,.bool (lP w).2]/\ai b d):=by
 rw[<-Ue w];generalize w.data.toList=e;have c:(⟨#[115,101,103,46]⟩:ByteArray)=cy d_:=rfl;unfold lP;rw[vr];refine v_ ?_;rw[c];refine PC.ok CC ?_;rintro _ _ ⟨rfl,rfl⟩;have no:∀d,iG e=none->ai b d->Ok (λk d=>k= .tuple #[XH (match iG e with|some l=>((l:Int),true)|none=>(0,false)).1,.bool (match iG e with|some l=>((l:Int),true)|none=>(0,false)).2]/\ai b d) (.returned (.tuple #[XH 0,.bool false])) d:=λd p z=>by
  rw[p];exact Ok.mk ⟨rfl,z⟩
 by_cases f:e.take d_.length=d_
 ·rw[Zx f]
  refine⟨_,_,rfl,an.ff rfl ?_⟩;have q:e=d_++e.drop 4:=by
   have:=ZX 4 e;rw[show e.take 4=d_ from f]at this;exact this.symm
  change an (decide (((ByteArray.size (cy (e.drop 4)):Nat):Int)>12)) _ _
  generalize S:e.drop 4=P at q;subst q;rw[ij];refine an.dec (λp=>no _ (KM (by rw[QX];show 16<4+_;omega)) (ak.refl _)) (λT=>?_);refine AS Tryz.underlying9 λU A B V=>⟨λr s d=>∃n,r=P.length-n/\n<=P.length/\s=(ef (P.take n):Int)/\d.heap[b.heap.size]? =some (.stringIter (cy P) n)/\ai b d/\(P.take n).all il=true,⟨_,0,rfl,Qj _,rfl,A,B,rfl⟩,?_⟩
  rintro r s W X ⟨n,rfl,Y,rfl,C,g,h⟩;have E:=wU _ h;refine Fc C (λF=>.inl ⟨rfl,?_⟩) λc t u i Z=>.inr ⟨_,_,rfl,?_⟩
  ·rw[ij]at F
   rw[Qz oM]at h E⊢;have a0:10 ^ P.length<=10 ^ 12:=Nat.pow_le_pow_right oM oM;have H:(10:Nat) ^ 12=1000000000000:=dC
   refine PC.ok (je (y.ah g) bc) ?_;rintro _ t ⟨rfl,i⟩;have v:=FU h oM;refine⟨_,rfl,an.WJ (λI=>no _ ?_ (g.then i)) (λJ=>?_)⟩
   ·rw[v,Zq λK=>I (by rw[K])]
   ·rw[v,Zx (Si J)]
    exact Ok.mk ⟨rfl,g.then i⟩
  ·have m:n<P.length:=by rwa [ij]at c
   have j:ai b t:=g.new i λa1 x=>.inr oM;have o:P[n]? =some ((cy P)[n]'c):=by
    rw[Qq m]
    congr 1
   have a:il ((cy P)[n]'c)=false->iG (d_++P)=none:=λL=>Is (List.all_eq_false.2 ⟨_,QZ o,by simp[L]⟩)
   by_cases x:((cy P)[n]'c).toNat<128
   ·rw[decode_ascii _ n c x]at u⊢
    simp only;refine an.dec (λM=>no _ (a ?_) j) (λN=>an.dec (λO=>no _ (a ?_) j) (λQ=>?_))
    ·unfold il;exact Xv oM
    ·unfold il;exact Xv oM
    ·have a2:10 ^(P.take n).length<=10 ^ 12:=Nat.pow_le_pow_right oM be
     have H:(10:Nat) ^ 12=1000000000000:=dC
     refine⟨_,oM,n+1,rfl,oM,?_,u,j,?_⟩
     ·rw[Qw,o]
      show _=((ef (P.take n++[_]):Nat):Int);rw[fu];have R:XG .i32 ((((cy P)[n]'c).toNat:Int)-48)=(((cy P)[n]'c).toNat:Int)-48:=by
       unfold XG;simp[IntKind.signed,IntKind.bits];omega
      rw[R,wrap_i64 (x:=(((cy P)[n]'c).toNat:Int)-48) bc,wrap_i64 (x:=10*_) bc,wrap_i64 bc];omega
     ·rw[Qw,o,List.all_append,h]
      simp[il];omega
   ·have hh:=(decode_high _ n c oM).1
    refine an.dec (λM=>oM) (λN=>an.dec (λO=>no _ (a ?_) j) (λQ=>oM));unfold il;exact Xv oM
 ·rw[Zq f]
  exact⟨_,_,rfl,an.tt rfl (no _ (NJ f) (ak.refl _))⟩

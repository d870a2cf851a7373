import Derived.Test.YtjgjkeponbeekaaGreatDoorKl9
import Derived.Laws.Runes
import Derived.Lib.AppendZeros
import Derived.StringKeys
import Derived.Lib.AppendIntMem
import Derived.Laws.Concat
set_option maxHeartbeats 4000000
set_option linter.all false
set_option maxRecDepth 100000
open Go.IntKind renaming wrap→ZG
namespace Go.Proofs.YtjgjkeponbeekaaGreatDoor
open Go.au
def ft(b:UInt8):Bool:=(97<=b&&b<=122)||(48<=b&&b<=57)||b==46
def iv(n:ByteArray):Bool:=decide (1<=n.size)&&decide (n.size<=16)&&n.data.toList.all ft
structure cJ where
 bytes:List UInt8
 synced:Nat
 mB:Bool
 deriving DecidableEq
structure an where
 most:Nat
 files:List (ByteArray×cJ)
 qy:Bool
 left:Int
 dead:Bool
 deriving DecidableEq
def ez(n:List (ByteArray×cJ)):Nat:=(n.map λP=>P.2.bytes.length).sum
def an.used(D:an):Nat:=ez D.files
structure an.Ok (D:an):Prop where
 most:D.most<=262144
 fits:D.used<=D.most
 many:D.files.length<=64
 tidy:Tidy D.files
 names:∀x∈D.files,iv x.1=true
 RG:∀x∈D.files,x.2.synced<=x.2.bytes.length
 Bp:0<=D.left
 Bq:aJ D.left
variable{W l:Array Value}{K:Bool}{w:ByteArray}{f5:ByteArray×cJ}{z:FuncId}{e:Int}{g9:List (ByteArray×cJ)}{x:List UInt8}{a c:Nat}{f:ZN}{d:YQ}{I j:Type}{b8:UInt8}{b k:World}{y:ZU}{a9:cJ}
def KG(h:f5∈g9):f5.2.bytes.length<=ez g9:=by
 unfold ez
 induction g9 with
 |nil=>cases h
 |cons P g9 n=>
  simp only[QY,List.sum_cons];rcases Q2.1 h with rfl|h
  ·omega
  ·have:=n h;omega
def an.Ok.len{D:an}(n:D.Ok)(P:f5∈D.files):f5.2.bytes.length<=262144:=by
 have:=KG P;have:=n.fits;have:=n.most;unfold an.used at*;omega
structure dW (w:World) (q:Nat) (G:ZN) (f:cJ):Prop where
 body:∃a n cap F,w.heap[q]? =some (.cells #[.slice a n cap,ZH f.synced,.bool f.mB] 239 (0,0))/\aM fN 5 F w a n cap f.bytes/\(∀b,F b->G b)/\¬F q
 self:G q
 aC:∀b,G b->b<w.heap.size
def dW.af{S G:ZN}(P:dW b a G a9)(c:ak S b k)(f:∀n,G n->¬S n):dW k a G a9:=by
 obtain⟨h,i,d,j,l,m,g,o⟩:=P.body;exact⟨⟨h,i,d,j,c.get l (f _ P.self),m.af c (λn e=>f n (g n e)),g,o⟩,P.self,λn e=>Qk (P.aC n e) c.size⟩
structure ny where
 q:Nat
 G:ZN
 f:cJ
def ptr(n:Nat):Value:=ZL n
def dS(n:ByteArray×ny):ByteArray×Value:=(n.1,ptr n.2.q)
def uZ(n:ByteArray×ny):ByteArray×cJ:=(n.1,n.2.f)
structure Eb (w:World) (L:List (ByteArray×ny)):Prop where
 each:∀x∈L,dW w x.2.q x.2.G x.2.f
 apart:∀x∈L,∀y∈L,x.1≠y.1->∀b,x.2.G b->¬y.2.G b
 tidy:Tidy L
structure aO (w:World) (p:Nat) (F:ZN) (D:an):Prop where
 body:∃r L,w.heap[p]? =some (.cells #[ZH D.most,.map (some r),.bool D.qy,ZH D.left,.bool D.dead] 143 (0,0))/\bI w r Value.string (L.map dS)/\D.files=L.map uZ/\Eb w L/\
  (∀x∈L,∀b,x.2.G b->F b/\b≠p/\b≠r)/\F r/\p≠r
 self:F p
 aC:∀b,F b->b<w.heap.size
 ok:D.Ok
variable{a3:List (ByteArray×ny)}
def Eb.af{S:ZN}(P:Eb b a3)(d:ak S b k)(e:∀n∈a3,∀a,n.2.G a->¬S a):Eb k a3:=
 ⟨λn c=>(P.each n c).af d (e n c),P.apart,P.tidy⟩
def aO.af{S d:ZN}{D:an}(P:aO b a d D)(c:ak S b k)(e:∀n,d n->¬S n):aO k a d D:=by
 obtain⟨i,j,l,m,o,p,g,h,q⟩:=P.body;exact⟨⟨i,j,c.get l (e _ P.self),m.af c (e _ h),o,p.af c (λr s n f=>e n (g r s n f).1),g,h,q⟩,P.self,λn f=>Qk (P.aC n f) c.size,P.ok⟩
def aO.ah{D:an}(n:aO b a f D)(P:ai b k):aO k a f D:=n.af P λ_ _ n=>n
def qz(a:j->I)(P:List (ByteArray×j))(b:ByteArray)(c:j):(aH P b c).map (λn=>(n.1,a n.2))=aH (P.map λn=>(n.1,a n.2)) b (a c):=by
 induction P with
 |nil=>rfl
 |cons d P e=>
  obtain⟨n,f⟩:=d;simp only[aH,QY];split
  ·rfl
  ·simp[e]
def Br(a:j->I)(P:List (ByteArray×j))(b:ByteArray):(bY P b).map (λn=>(n.1,a n.2))=bY (P.map λn=>(n.1,a n.2)) b:=by
 induction P with
 |nil=>rfl
 |cons c P d=>
  obtain⟨n,e⟩:=c;simp only[bY,QY];split
  ·rfl
  ·simp[d]
def Bs(a:j->I)(n:List (ByteArray×j))(b:ByteArray):aF (n.map λP=>(P.1,a P.2)) b=(aF n b).map a:=by
 induction n with
 |nil=>rfl
 |cons c n d=>
  obtain⟨P,e⟩:=c;simp only[aF,QY];split
  ·rfl
  ·exact d
def fO{P:List (ByteArray×j)}(c:Tidy P){a:j}{n:ByteArray×j}(h:n∈aH P w a):n=(w,a)\/(n∈P/\n.1≠w):=by
 by_cases b:n.1=w
 ·left
  have:=qA (c.aH w a) (k:=n.1) (v:=n.2) h;rw[rz,b]at this;simp at this;exact Prod.ext b this.symm
 ·rcases fj h with rfl|h
  ·exact .inl rfl
  ·exact .inr ⟨h,b⟩
def Gc{P:List (ByteArray×j)}(a:Tidy P){n:ByteArray×j}(b:n∈bY P w):n∈P/\n.1≠w:=by
 refine⟨gl b,λd=>?_⟩;have c:=qA (a.bY w) (k:=n.1) (v:=n.2) b;rw[Nz a,d]at c;simp at c
def xS{l:List (ByteArray×cJ)}{k:ByteArray}{f:cJ}:ez (aH l k f)+((aF l k).map λn=>n.bytes.length).getD 0=ez l+f.bytes.length:=by
 unfold ez
 induction l with
 |nil=>simp[aH,aF]
 |cons P l a=>
  obtain⟨b,c⟩:=P;simp only[aH,aF];split
  ·simp;omega
  ·simp only[QY,List.sum_cons]at a⊢;omega
def xU{l:List (ByteArray×cJ)}{k:ByteArray}:ez (bY l k)+((aF l k).map λn=>n.bytes.length).getD 0=ez l:=by
 unfold ez
 induction l with
 |nil=>simp[bY,aF]
 |cons P l a=>
  obtain⟨b,c⟩:=P;simp only[bY,aF];split
  ·simp;omega
  ·simp only[QY,List.sum_cons]at a⊢;omega
def xf{n:List (ByteArray×j)}{a:j}(P:(aF n w).isSome=true):(aH n w a).length=n.length:=by
 induction n with
 |nil=>simp[aF]at P
 |cons b n c=>
  obtain⟨e,f⟩:=b;simp only[aH,aF]at P⊢;split
  ·rfl
  ·rename_i d
   rw[Zq d]at P;simp[c P]
def aO.head{D:an}(P:aO b a f D):∃n,b.heap[a]? =some (.cells #[ZH D.most,.map (some n),.bool D.qy,ZH D.left,.bool D.dead] 143 (0,0)):=by
 obtain⟨n,d,c,_⟩:=P.body;exact⟨n,c⟩
def aO.KH{D n:an}(c:aO b a f D)(d:ak (·=a) b k)(j:∀P,b.heap[a]? =some (.cells #[ZH D.most,.map (some P),.bool D.qy,ZH D.left,.bool D.dead] 143 (0,0))->k.heap[a]? =some (.cells #[ZH n.most,.map (some P),.bool n.qy,ZH n.left,.bool n.dead] 143 (0,0)))(l:n.files=D.files)(m:n.Ok):aO k a f n:=by
 obtain⟨P,o,p,q,r,s,h,t,i⟩:=c.body;exact⟨⟨P,o,j P p,q.af d (λu=>i u.symm),l.trans r,s.af d (λv w e g=>(h v w e g).2.1),h,t,i⟩,c.self,λe g=>Qk (c.aC e g) d.size,m⟩
def aO.zP{D:an}(n:aO b a f D)(c:∀P,aO P a f {D with dead:=K}->ak f b P->P.heap.size=b.heap.size->y P):PS b ⟨a,0+4,none⟩ (.bool K) y:=by
 obtain⟨k,d⟩:=n.head;refine PS.mk d sM λP e h i=>c P (n.KH e (λl g=>?_) rfl ⟨n.ok.most,n.ok.fits,n.ok.many,n.ok.tidy,n.ok.names,n.ok.RG,n.ok.Bp,n.ok.Bq⟩) (e.mono λK _ j=>j▸n.self) h;rw[d]at g;cases g;exact i
def aO.Il{D:an}(n:aO b a f D)(c:∀P,aO P a f {D with qy:=K}->ak f b P->P.heap.size=b.heap.size->y P):PS b ⟨a,0+2,none⟩ (.bool K) y:=by
 obtain⟨k,d⟩:=n.head;refine PS.mk d sM λP e h i=>c P (n.KH e (λl g=>?_) rfl ⟨n.ok.most,n.ok.fits,n.ok.many,n.ok.tidy,n.ok.names,n.ok.RG,n.ok.Bp,n.ok.Bq⟩) (e.mono λK _ j=>j▸n.self) h;rw[d]at g;cases g;exact i
def aO.Mk{D:an}(n:aO b a f D)(i:0<=e)(j:aJ e)(c:∀P,aO P a f {D with left:=e}->ak f b P->P.heap.size=b.heap.size->y P):PS b ⟨a,0+3,none⟩ (ZH e) y:=by
 obtain⟨o,d⟩:=n.head;refine PS.mk d sM λP g k l=>c P (n.KH g (λp h=>?_) rfl ⟨n.ok.most,n.ok.fits,n.ok.many,n.ok.tidy,n.ok.names,n.ok.RG,i,j⟩) (g.mono λq _ m=>m▸n.self) k;rw[d]at h;cases h;exact l
def NA:YX 42 #[ZH e] b (Ok λc a=>
  if e<64\/e>262144 then c= .tuple #[.pointer none,ZH 1]/\a=b
  else∃d f,c= .tuple #[ZL d,ZH 0]/\aO a d f ⟨e.toNat,[],false,0,false⟩/\ai b a/\∀n,f n->b.heap.size<=n):=by
 refine HV (al.dec (λP=>?_) (λP=>al.dec (λg=>?_) (λg=>?_)))
 ·exact Ok.mk (by rw[Zx (.inl P)];exact⟨rfl,rfl⟩)
 ·exact Ok.mk (by rw[Zx (.inr g)];exact⟨rfl,rfl⟩)
 ·refine PA.mk λi j o k=>PA.mk λl h p m=>Ok.mk ?_
  rw[Zq oM];refine⟨i.heap.size,λn=>b.heap.size<=n/\n<l.heap.size,rfl,⟨⟨b.heap.size,[],?_,bI.new (h.get k id),rfl,⟨sM,sM,by simp[Tidy]⟩,sM,oM,oM⟩,oM,λn P=>P.2,?_⟩,j.ah h,λn P=>P.1⟩
  ·rw[m]
   have:((e.toNat:Nat):Int)=e:=oM
   rw[this]
  ·exact⟨by show e.toNat<=_;omega,by simp[an.used,ez],by simp,by simp[Tidy],by simp,by simp,by simp,by unfold aJ;simp⟩
def an.Pt(D:an)(n:Int):an:={D with qy:=true,left:=max n 0}
def NB{D:an}(k:aJ e)(n:aO b a f D):YX 91 #[ZL a,ZH e] b (Ok λd P=>d= .tuple #[]/\aO P a f (D.Pt e)/\bB f b f P):=by
 have g:(if e>0 then e else 0)=max e 0:=oM
 refine uz ⟨a,0,rfl,n.Il λl h i m=>⟨a,0,rfl,h.Mk oM (by unfold aJ at*;omega) λo c j p=>Ok.mk ⟨rfl,?_,i.then j,λ_ n=>.inl n⟩⟩⟩;rw[g]at c;exact c
def an.dies(D:an):Bool:=D.dead||(D.qy&&D.left==0)
def an.dT(D:an):an:=if D.qy then{D with left:=D.left-1}else D
def an.gone(D:an):an:={D with dead:=true}
def KI{D:an}(k:aO b a f D){e:Int}{D':an}(A:enters ZP z=true)(E:D.dies=false->∀n,aO n a f D.dT->ak f b n->n.heap.size=b.heap.size->YX z (l++ #[]++W) n (Ok λg c=>∃d,g= ZH e/\aO c a d D'/\bB f n d c)):
  YX 233 #[ZL a,.func (.func z) l W] b (Ok λg c=>∃d,g= ZH (if D.dies then 15 else e)/\aO c a d (if D.dies then D.gone else D')/\bB f b d c):=by
 obtain⟨L,v⟩:=k.head;have m:∀n,D.dies=true->aO n a f {D with dead:=true}->ak f b n->Ok (λg c=>∃d,g= ZH (if D.dies then 15 else e)/\aO c a d (if D.dies then D.gone else D')/\bB f b d c) (.returned (ZH 15)) n:=
  λn h P F=>Ok.mk ⟨f,by rw[h];rfl,by rw[h];exact P,F,λ_ k=>.inl k⟩
 refine tK ⟨λn=>aO n a f D/\ak f b n/\n.heap.size=b.heap.size/\D.dies=false,?_,?_⟩
 ·refine⟨a,0,rfl,_,ae v rfl,al.mk (λh=>⟨a,0,rfl,k.zP λn P i q=>?_⟩) (λh=>⟨a,0,rfl,_,ae v rfl,al.mk (λo=>⟨a,0,rfl,_,ae v rfl,a,0,rfl,k.zP λn P i q=>?_⟩) (λo=>⟨a,0,rfl,k.zP λn P i q=>?_⟩)⟩)⟩
  ·obtain⟨w,p⟩:=P.head
   exact⟨a,0,rfl,true,ae p rfl,m n (by simp[an.dies,h]) P i⟩
  ·obtain⟨w,p⟩:=P.head
   refine⟨a,0,rfl,D.left==0,ae p rfl,al.mk (λr=>m n (by unfold an.dies;rw[o,r];simp) (by rw[r]at P;exact P) i) (λr=>⟨?_,i,q,by unfold an.dies;rw[h,r];simp⟩)⟩;have:({D with dead:=D.left==0}:an)=D:=by rw[r,<-h]
   rw[this]at P;exact P
  ·obtain⟨w,p⟩:=P.head
   refine⟨a,0,rfl,false,ae p rfl,?_,i,q,by simp[an.dies,h,o]⟩;have:({D with dead:=false}:an)=D:=by rw[<-h]
   rw[this]at P;exact P
 ·rintro M n ⟨P,i,q,t⟩
  obtain⟨w,p⟩:=P.head;have s:∀j,aO j a f D.dT->ak f b j->j.heap.size=b.heap.size->PC ZP z (l++ #[]++W) j (λg c=>∃B:Int,g= ZH B/\Ok (λg c=>∃d,g= ZH (if D.dies then 15 else e)/\aO c a d (if D.dies then D.gone else D')/\bB f b d c) (.returned (ZH B)) c)
    (λH c=>Ok (λg c=>∃d,g= ZH (if D.dies then 15 else e)/\aO c a d (if D.dies then D.gone else D')/\bB f b d c) (.panicked H) c):=by
   intro j x u y;refine PC.ok (E t j x u y) ?_;rintro _ N ⟨d,rfl,I,J⟩;exact⟨e,rfl,Ok.mk ⟨d,by rw[t];rfl,by rw[t];exact I,(bB.mk u λ_ k=>.inl k:bB f b f j).trans J⟩⟩
  refine⟨a,0,rfl,_,ae p rfl,al.mk (λo=>?_) (λo=>?_)⟩
  ·have O:D.left≠0:=by
    intro C;simp[an.dies,o,C]at t
   have C:=P.ok.Bp;have Q:=P.ok.Bq;have K:ZG .i64 (D.left-1)=D.left-1:=wrap_i64 (by unfold aJ at*;omega);refine⟨a,0,rfl,_,ae p rfl,a,0,rfl,?_⟩;rw[K];refine P.Mk oM (by unfold aJ at*;omega) λj x u y=>⟨z,l,W,rfl,A,s j ?_ (i.then u) (y.trans q)⟩
   unfold an.dT;rw[Zx o];exact x
  ·refine⟨z,l,W,rfl,A,s n ?_ i q⟩
   unfold an.dT;rw[Zq (by simp[o])];exact P
def cs:ByteArray:=⟨#[97,98,99,100,101,102,103,104,105,106,107,108,109,110,111,112,113,114,115,116,117,118,119,120,121,122,48,49,50,51,52,53,54,55,56,57,46]⟩
def Qp:∀n:UInt8,decide (0<=Lib.indexByte cs.data.toList n)=ft n:=by
 have a:(List.range 256).all (λP=>decide (0<=Lib.indexByte cs.data.toList (UInt8.ofNat P))==ft (UInt8.ofNat P))=true:=by decide+kernel
 intro n;have:=ZY.1 a n.toNat (List.mem_range.2 n.toNat_lt);simpa using this
def Ss(a:128<=b8.toNat):ft b8=false:=by
 have n:(List.range 128).all (λP=>ft (UInt8.ofNat (128+P))==false)=true:=by decide+kernel
 have:=ZY.1 n (b8.toNat-128) (List.mem_range.2 (by have:=b8.toNat_lt;omega));rw[show 128+(b8.toNat-128)=b8.toNat by omega]at this;simpa using this
def BF:∀n∈cs.data.toList,n.toNat<128:=by decide+kernel
def Su:cs.size=37:=by decide+kernel
def strings_IndexByte{n:ByteArray}{P:Int}{a:World}:YX 358 #[.string n,.int .u8 P] a (Ok λc b=>c= ZH (Lib.indexByte n.data.toList P.toNat.toUInt8)/\a=b):=
 (Any.strings_IndexByte Tryz.Sv n P a).mono λf b ⟨d,e⟩=>⟨_,d,rfl,e.symm⟩
def BG:YX 359 #[.int .i32 e] b (Ok λc d=>c= .bool (Utf8.valid e)/\b=d):=by
 have a:=validRune_eq e;unfold validRune at a;refine mr (al.dec (λf=>al.dec (λg=>?_) (λg=>al.dec (λn=>al.dec (λP=>?_) (λP=>?_)) (λn=>?_))) (λf=>al.dec (λn=>al.dec (λP=>?_) (λP=>?_)) (λn=>?_)))
 all_goals
  refine Ok.mk ⟨?_,rfl⟩;rw[a]
  congr 1
  simp;omega
def qI(n:a<w.size):w[a]? =some (w[a]'n):=by simp[n]
def sH:∀{l:List UInt8} {n:UInt8},(∀b∈l,b≠n)->Lib.indexByte l n= -1
 |[],_,_=>rfl
 |b::l,n,P=>by
  have a:(b==n)=false:=beq_false_of_ne (P b (QV ..));have c:=sH (l:=l) λd e=>P d (QJ _ e);unfold Lib.indexByte;rw[a,c];rfl
def qJ(x:0<=e):
  YX 326 #[.string cs,.int .i32 e] b (Ok λg n=>(∃a:Int,g= ZH a/\decide (a>=0)=(decide (e<128)&&ft e.toNat.toUInt8))/\ai b n):=by
 refine rU ⟨λh n=>h=decide (e<128)/\n=b,al.dec (λ_=>⟨rfl,rfl⟩) (λd=>Zz x d),?_⟩;rintro Q o f ⟨rfl,rfl⟩;refine al.dec (λd=>PC.ok strings_IndexByte ?_) (λd=>al.cW (λy=>?_) (λy=>PC.ok BG ?_))
 ·rintro _ _ ⟨rfl,rfl⟩
  refine⟨_,rfl,Ok.mk ⟨⟨_,rfl,?_⟩,ak.refl _⟩⟩;have z:ZG .u8 e=e:=by
   unfold ZG;simp[IntKind.signed,IntKind.bits];omega
  rw[z,Zy d,Bool.true_and];exact Qp _
 ·have no:∀n,ai f n->Ok (λg n=>(∃a:Int,g= ZH a/\decide (a>=0)=(decide (e<128)&&ft e.toNat.toUInt8))/\ai f n) (.returned (ZH (-1))) n:=λn p=>
   Ok.mk ⟨⟨_,rfl,by rw[Xv d];rfl⟩,p⟩
  refine BH Tryz.underlying9 λA B q R=>⟨λi n=>∃P,i=cs.size-P/\n.heap[f.heap.size]? =some (.stringIter cs P)/\ai f n,⟨_,0,rfl,B,q⟩,?_⟩
  rintro i o r ⟨P,rfl,C,s⟩;refine Gs C (λ_=>.inl ⟨rfl,no r s⟩) λj E t F S=>.inr ⟨_,_,rfl,?_⟩;have k:(cs[P]'j).toNat<128:=BF _ (by rw[show cs[P]'j=cs.data.toList[P]'(by simpa using j)from by simp;rfl];exact XY _);have H:=decode_ascii cs P j k;rw[H]at t⊢;refine al.cW (λd=>oM) (λ_=>⟨_,?_,P+1,rfl,t,s.new F λh k=>.inr oM⟩);omega
 ·have no:∀n,ai f n->Ok (λg n=>(∃a:Int,g= ZH a/\decide (a>=0)=(decide (e<128)&&ft e.toNat.toUInt8))/\ai f n) (.returned (ZH (-1))) n:=λn p=>
   Ok.mk ⟨⟨_,rfl,by rw[Xv d];rfl⟩,p⟩
  rintro _ _ ⟨rfl,rfl⟩;refine⟨_,rfl,al.not (al.mk (λI=>?_) (λ_=>no _ (ak.refl _)))⟩;obtain⟨J,K,u⟩:=encode_facts e I oM;refine aG.mk (run_convert_int_string f _ _ .i32 e kR Tryz.underlying9) ⟨_,rfl,?_⟩;generalize Utf8.encode e=c at J K u⊢;have L:ZG .i64 (((c.size:Nat):Int)-1)=((c.size-1:Nat):Int):=by rw[wrap_i64 bc];omega
  rw[L];refine⟨λi a n=>a=((c.size-1:Nat):Int)/\ai f n,⟨0,rfl,ak.refl _⟩,?_⟩;rintro i a o A ⟨rfl,q⟩;have T:=Su;have l:c.size-1<c.size:=oM
  have m:c.size-1<cs.size:=oM
  have U:=u l;have V:(cs[c.size-1]'m).toNat<128:=BF _ (by rw[show cs[c.size-1]'m=cs.data.toList[c.size-1]'(by simpa using m)from by simp;rfl];exact XY _);refine al.dec (λW=>⟨λ_ _=>False,?_,λa o b d=>d.elim⟩) (λX=>oM);simp only[Qx];rw[aq oM];refine⟨oM,_,qI m,oM,_,qI l,λr M=>al.dQ (λ_=>λE N=>⟨oM,oM,oM,_,qI l,PC.ok strings_IndexByte ?_⟩) (λv=>oM)⟩;rintro _ _ ⟨rfl,rfl⟩;have O:Lib.indexByte (cs.extract (Int.toNat ((c.size-1+1:Nat):Int)) cs.size).data.toList ((((c[c.size-1]'l).toNat:Nat):Int).toNat.toUInt8)= -1:=by
   refine sH λh k v=>?_;have w:=BF h (mem_extract k);rw[v]at w;simp at w;omega
  refine⟨_,rfl,al.dec (λ_=>no _ ((q.ah M.af).ah N.af)) (λd=>?_)⟩;rw[O]at d;omega
def BI(c:0<=e):
  YX 289 #[.int .i32 e] b (Ok λn P=>n= .bool (!(decide (e<128)&&ft e.toNat.toUInt8))/\ai b P):=by
 refine wW (PC.ok (φ:=λn P=>n= .bool (decide (e<128)&&ft e.toNat.toUInt8)/\ai b P) (ou (PC.ok (qJ c) ?_)) ?_)
 ·rintro _ d ⟨⟨f,rfl,g⟩,a⟩
  exact⟨f,rfl,Ok.mk ⟨by rw[g],a⟩⟩
 ·rintro _ d ⟨rfl,a⟩
  exact⟨_,rfl,Ok.mk ⟨rfl,a⟩⟩
def lE:
  YX 291 #[.string w,.func (.func 289) #[] #[]] b (Ok λe d=>e= .bool (!w.data.toList.all ft)/\ai b d):=by
 have t:enters ZP 289=true:=kR
 refine ow (PC.ok (φ:=λe d=>(∃a:Int,e= ZH a/\decide (a>=0)= !w.data.toList.all ft)/\ai b d) (si (PC.ok (φ:=λe d=>(∃a:Int,e= ZH a/\decide (a>=0)= !w.data.toList.all ft)/\ai b d) (sj ?_) ?_)) ?_)
 ·refine BH Tryz.underlying9 λE u v F=>⟨λo d=>∃n,o=w.size-n/\n<=w.size/\d.heap[b.heap.size]? =some (.stringIter w n)/\ai b d/\(∀g∈w.data.toList.take n,ft g=true),⟨_,0,rfl,Qj _,u,v,sM⟩,?_⟩
  rintro o H I ⟨n,rfl,J,x,p,h⟩;refine Gs x (λy=>.inl ⟨rfl,Ok.mk ⟨⟨_,rfl,?_⟩,p⟩⟩) λc z q A K=>.inr ⟨_,_,rfl,_,_,_,rfl,t,?_⟩
  ·rw[Qz (by simpa using y)]at h
   have:w.data.toList.all ft=true:=ZY.2 h;rw[this];rfl
  ·have r:ai b z:=p.new A λg P=>.inr oM
   have s:w.data.toList[n]? =some (w[n]'c):=by
    rw[Qq (by simpa using c)];simp;rfl
   refine PC.ok (BI (Int.natCast_nonneg _)) ?_;rintro _ L ⟨rfl,i⟩;refine⟨_,rfl,al.mk (λj=>?_) (λf=>?_)⟩
   ·
    refine Ok.mk ⟨⟨_,rfl,?_⟩,r.ah i⟩;have k:ft (w[n]'c)=false:=by
     by_cases P:(w[n]'c).toNat<128
     ·rw[decode_ascii w n c P]at j
      simp at j;exact j.resolve_left oM
     ·exact Ss oM
    have:w.data.toList.all ft=false:=List.all_eq_false.2 ⟨_,QZ s,by simp[k]⟩;rw[this];simp
   ·have P:(w[n]'c).toNat<128:=by
     by_cases P:(w[n]'c).toNat<128
     ·exact P
     ·have M:=(decode_high w n c oM).1
      have B:¬(((Utf8.decode w n).1:Int)<128):=oM
      rw[Xv B]at f;simp at f
    rw[decode_ascii w n c P]at q f;have k:ft (w[n]'c)=true:=by
     simp at f;exact f.2
    refine⟨_,?_,n+1,rfl,oM,i.get q id,r.ah i,λg P=>?_⟩
    ·omega
    ·rw[Qw,s]at P
     rcases Q6.1 P with P|P
     ·exact h g P
     ·simp at P;rw[P];exact k
 ·rintro _ C ⟨⟨a,rfl,l⟩,m⟩
  exact⟨a,rfl,Ok.mk ⟨⟨a,rfl,l⟩,m⟩⟩
 ·rintro _ C ⟨⟨a,rfl,l⟩,m⟩
  exact⟨a,rfl,Ok.mk ⟨by rw[l],m⟩⟩
def vh:YX 235 #[.string w] b (Ok λP a=>P= .bool (iv w)/\ai b a):=by
 refine Ba (al.Xt (λn=>al.dec (λc=>PC.ok lE ?_) (λc=>Ok.mk ⟨?_,ak.refl _⟩)) (λn=>Ok.mk ⟨?_,ak.refl _⟩))
 ·rintro _ g ⟨rfl,d⟩
  refine⟨_,rfl,Ok.mk ⟨?_,d⟩⟩;have e:1<=w.size:=by
   by_cases f:w.size=0
   ·exact Zz (ByteArray.ext (Array.eq_empty_of_size_eq_zero f)) n
   ·omega
  unfold iv;rw[Zy e,Zy (show w.size<=16 by omega)];simp
 ·unfold iv
  rw[Xv (show¬w.size<=16 by omega)];simp
 ·subst n;rfl
def kJ{D:ZN}(h:Row fN 1 b D d a x)(f:∀n,D n->n<b.heap.size):
  YX 207 #[.slice d a c] b (Ok (oW fN 5 b x)):=by
 have w:=h.len;have P:=h.ef;refine mq (jZ tg.under ⟨_,rfl,al.mk (λe=>?_) (λe=>PA.mk λj g y k=>?_)⟩)
 ·have:x=[]:=by
   cases d with
   |none=>
    cases x with
    |nil=>rfl
    |cons l z=>obtain⟨n,m,A,o,_⟩:=h.el 0 l rfl;cases o
   |some p=>cases e
  subst this;exact Ok.mk ⟨none,0,0,λ_=>False,rfl,aM.nil b,ak.refl _,λ_ h=>h.elim⟩
 ·cases d with
  |none=>cases e
  |some p=>
   have q:aM fN 5 (·=b.heap.size) j (ZM b.heap.size) 0 0 []:=
    ⟨⟨[],λ_=>False,Own.Af (cur:= #[]) k rfl (Qj _),rfl,λ_ h=>h.elim⟩,λn P=>by simpa[aD]using P.symm,λn P=>oM⟩
   refine kK q tg (D:=D) (h.ah g) (λn P=>⟨by have:=f n P;omega,by have:=f n P;simp only[aD];intro r;cases r;omega⟩) be (by unfold aK at P;unfold maxLen;simp;omega) λi s B C t u _ v=>?_;refine⟨_,_,_,rfl,Ok.mk ⟨i,_,s,λn=>aD i=some n,rfl,by have h:=t.alone;rw[List.nil_append]at h;exact h,g.new u λn P=>.inr ?_,λn P=>?_⟩⟩
   ·simp only[aD,Q1]at P;omega
   ·rcases v n P with h|h<;>omega
def oy(n:Int)(P:Nat):Nat:=(max 0 (min n P)).toNat
def xg(P:Int)(n:Nat):oy P n<=n:=by unfold oy;omega
def cJ.cut(n:cJ)(P:Int):cJ:=⟨n.bytes.take (oy P n.bytes.length),oy P n.bytes.length,true⟩
def Se(n:cJ)(P:Int):(n.cut P).bytes.length=oy P n.bytes.length:=by
 have:=xg P n.bytes.length;simp[cJ.cut];omega
def Bt{G:ZN}(h:dW b a G a9)(P:a9.bytes.length<=262144):
  YX 139 #[ZL a,ZH e] b (Ok λy p=>∃q,y= .tuple #[]/\dW p a q (a9.cut e)/\bB G b q p):=by
 obtain⟨r,c,i,z,A,f,R,S⟩:=h.body;have B:c=a9.bytes.length:=f.len dC;have T:=f.jD;refine wL λj C=>?_;have d:ai b j:=C.af;have g:=d.get A id;have U:=xg e a9.bytes.length;have E:(if(if((c:Nat):Int)<e then((c:Nat):Int)else e)>0 then(if((c:Nat):Int)<e then((c:Nat):Int)else e)else 0)=((oy e a9.bytes.length:Nat):Int):=by
  unfold oy;rw[B];omega
 refine⟨a,0,rfl,_,_,_,ae g rfl,a,0,rfl,r,c,i,ae g rfl,?_⟩;refine⟨oM,oM,?_⟩;have F:Row fN 1 j z r c a9.bytes:=(f.row dC ba).ah d;refine PC.ok (by rw[E,Qx];exact kJ (F.take (m:=oy e a9.bytes.length) oM) (λn P=>Qk (f.aC n P) d.size)) ?_;rintro _ H ⟨s,k,t,l,rfl,m,o,u⟩;have I:k=oy e a9.bytes.length:=by have:=m.len dC;rw[this];simp;omega
 have V:a<j.heap.size:=ax g;refine⟨_,_,_,rfl,a,0,rfl,PS.mk (o.get g id) sM λW J X v=>⟨a,0,rfl,s,k,t,ae v rfl,a,0,rfl,PS.mk v sM λY K Z L=>⟨a,0,rfl,PS.mk L sM λM N s5 O=>Ok.mk ?_⟩⟩⟩;have w:ak (·=a) H M:=(J.then K).then N;have x:∀n,l n->n≠a:=λn P=>by have:=u n P;omega
 refine⟨λn=>n=a\/l n,rfl,⟨⟨s,k,t,l,?_,m.af w x,λn P=>.inr P,λQ=>x a Q rfl⟩,.inl rfl,?_⟩,⟨((ai.af d).then (ai.af o)).then (w.mono λn _ P=>by rw[P];exact h.self),?_⟩⟩
 ·rw[O]
  subst I
  rfl
 ·rintro n (rfl|P)
  ·have:=o.size;omega
  ·have:=m.aC n P;omega
 ·rintro n (rfl|P)
  ·exact .inl h.self
  ·have:=u n P;have:=d.size;exact .inr oM
structure eZ (w:World) (p:Nat) (F:ZN) (D:an) (r:Nat) (L:List (ByteArray×ny)):Prop where
 head:w.heap[p]? =some (.cells #[ZH D.most,.map (some r),.bool D.qy,ZH D.left,.bool D.dead] 143 (0,0))
 map:bI w r Value.string (L.map dS)
 files:D.files=L.map uZ
 each:Eb w L
 Im:∀x∈L,∀b,x.2.G b->F b/\b≠p/\b≠r
 Fr:F r
 pr:p≠r
 self:F p
 aC:∀b,F b->b<w.heap.size
 ok:D.Ok
def aO.open{D:an}(n:aO b a f D):∃P c,eZ b a f D P c:=by
 obtain⟨P,c,d,e,g,h,i,j,k⟩:=n.body;exact⟨P,c,d,e,g,h,i,j,k,n.self,n.aC,n.ok⟩
def eZ.at{D:an}(n:eZ b a f D c a3):aO b a f D:=
 ⟨⟨c,a3,n.head,n.map,n.files,n.each,n.Im,n.Fr,n.pr⟩,n.self,n.aC,n.ok⟩
def eZ.af{S e:ZN}{D:an}(n:eZ b a e D c a3)(d:ak S b k)(f:∀P,e P->¬S P):eZ k a e D c a3:=
 ⟨d.get n.head (f _ n.self),n.map.af d (f _ n.Fr),n.files,n.each.af d (λh i P g=>f P (n.Im h i P g).1),n.Im,n.Fr,n.pr,n.self,λP g=>Qk (n.aC P g) d.size,n.ok⟩
def eZ.ah{D:an}(n:eZ b a f D c a3)(P:ai b k):eZ k a f D c a3:=n.af P λ_ _ n=>n
def eZ.box{D:an}(h:eZ b a f D c a3)(P:ByteArray):
  (aF D.files P=none/\aF (a3.map dS) P=none)\/∃n,aF a3 P=some n/\(P,n)∈a3/\aF D.files P=some n.f/\aF (a3.map dS) P=some (ptr n.q):=by
 have d:aF (a3.map dS) P=(aF a3 P).map λn=>ptr n.q:=Bs (λn:ny=>ptr n.q) a3 P;have e:aF D.files P=(aF a3 P).map λn=>n.f:=by rw[h.files];exact Bs (λn:ny=>n.f) a3 P
 cases g:aF a3 P with
 |none=>rw[g]at d e;exact .inl ⟨e,d⟩
 |some n=>rw[g]at d e;exact .inr ⟨n,rfl,bW g,e,d⟩
def an.gV(D:an)(n:ByteArray)(P:cJ):an:={D with files:=aH D.files n P}
def an.Df(D:an)(n:ByteArray):an:={D with files:=bY D.files n}
def qB{l:List (ByteArray×j)}{k:ByteArray}{v:j}(h:(k,v)∈l)(n:Tidy l):aH l k v=l:=by
 induction l with
 |nil=>cases h
 |cons P l a=>
  obtain⟨b,d⟩:=P;unfold aH;unfold Tidy at n;simp only[QY,List.nodup_cons]at n;rcases Q2.1 h with h|h
  ·cases h;simp
  ·have:(k==b)=false:=beq_false_of_ne λc=>n.1 (Xk.2 ⟨(k,v),h,c⟩)
   rw[Zq (by simp[this]),a h n.2]
def eZ.dU{h w':World}{m G':ZN}{D:an}(b:eZ h a m D c a3){k:ByteArray}{x:ny}(v:aF a3 k=some x)(t:dW w' x.q G' a9)(g:bB x.G h G' w')(w:(D.gV k a9).Ok):∃u,eZ w' a u (D.gV k a9) c (aH a3 k ⟨x.q,G',a9⟩)/\bB m h u w':=by
 have i:=bW v;have j:=b.Im _ i;have y:ak m h w':=g.af.mono λn _ P=>(j n P).1;have o:∀d∈aH a3 k ⟨x.q,G',a9⟩,d=(k,⟨x.q,G',a9⟩)\/(d∈a3/\d.1≠k):=λd e=>fO b.each.tidy e;refine⟨λn=>m n\/(h.heap.size<=n/\n<w'.heap.size),⟨g.af.get b.head λP=>(j _ P).2.1 rfl,?_,?_,⟨?_,?_,b.each.tidy.aH _ _⟩,?_,.inl b.Fr,b.pr,.inl b.self,?_,w⟩,y,λn P=>P.imp id (·.1)⟩
 ·have z:(aH a3 k ⟨x.q,G',a9⟩).map dS=a3.map dS:=by
   have f:(aH a3 k ⟨x.q,G',a9⟩).map dS=aH (a3.map dS) k (ptr x.q):=qz (λx:ny=>ptr x.q) a3 k _;rw[f];have A:Tidy (a3.map dS):=b.map.tidy;exact qB (Xk.2 ⟨_,i,rfl⟩) A
  rw[z];exact b.map.af g.af λP=>(j _ P).2.2 rfl
 ·have f:(aH a3 k ⟨x.q,G',a9⟩).map uZ=aH (a3.map uZ) k a9:=qz (λx:ny=>x.f) a3 k _
  rw[f,<-b.files];rfl
 ·intro d e
  rcases o d e with rfl|⟨e,s⟩
  ·exact t
  ·exact(b.each.each d e).af g.af λn P=>b.each.apart d e _ i s n P
 ·intro d e p l q n P r
  rcases o d e with rfl|⟨e,s⟩<;>rcases o p l with rfl|⟨l,B⟩
  ·exact q rfl
  ·rcases g.new n P with f|f
   ·exact b.each.apart _ i p l q n f r
   ·have:=(b.each.each p l).aC n r;omega
  ·rcases g.new n r with f|f
   ·exact b.each.apart d e _ i q n P f
   ·have:=(b.each.each d e).aC n P;omega
  ·exact b.each.apart d e p l q n P r
 ·intro d e n P
  rcases o d e with rfl|⟨e,s⟩
  ·have C:=ax b.head
   have E:=b.map.lt;rcases g.new n P with f|f
   ·exact⟨.inl (j n f).1,(j n f).2⟩
   ·exact⟨.inr ⟨f,t.aC n P⟩,oM,oM⟩
  ·exact⟨.inl (b.Im d e n P).1,(b.Im d e n P).2⟩
 ·rintro n (P|P)
  ·exact Qk (b.aC n P) g.af.size
  ·exact P.2
def eZ.drop{D:an}(P:eZ b a f D c a3)(o:bI k c Value.string (bY (a3.map dS) w))(h:ak (·=c) b k)(p:(D.Df w).Ok):eZ k a f (D.Df w) c (bY a3 w):=by
 have e:∀n∈bY a3 w,n∈a3:=λn d=>gl d;refine⟨h.get P.head (λg=>P.pr g),?_,?_,⟨λn d=>((P.each.each n (e n d)).af h λi j=>(P.Im n (e n d) i j).2.2),λn d m q=>P.each.apart n (e n d) m (e m q),P.each.tidy.bY w⟩,λn d=>P.Im n (e n d),P.Fr,P.pr,P.self,λi j=>Qk (P.aC i j) h.size,p⟩
 ·have g:(bY a3 w).map dS=bY (a3.map dS) w:=Br (λl:ny=>ptr l.q) a3 w
  rw[g];exact o
 ·have g:(bY a3 w).map uZ=bY (a3.map uZ) w:=Br (λl:ny=>l.f) a3 w
  rw[g,<-P.files];rfl
def eZ.put{p G':ZN}{D:an}(e:eZ b a p D c a3){q:Nat}(v:bI k c Value.string (aH (a3.map dS) w (ptr q)))(f:ak (·=c) b k)(r:dW b q G' a9)(s:∀P∈a3,P.1≠w->∀n,G' n->¬P.2.G n)(t:∀n,G' n->n≠a/\n≠c)(x:(D.gV w a9).Ok):
  eZ k a (λn=>p n\/G' n) (D.gV w a9) c (aH a3 w ⟨q,G',a9⟩):=by
 have h:∀P∈aH a3 w ⟨q,G',a9⟩,P=(w,⟨q,G',a9⟩)\/(P∈a3/\P.1≠w):=λP d=>fO e.each.tidy d;refine⟨f.get e.head (λg=>e.pr g),?_,?_,⟨?_,?_,e.each.tidy.aH _ _⟩,?_,.inl e.Fr,e.pr,.inl e.self,?_,x⟩
 ·have g:(aH a3 w ⟨q,G',a9⟩).map dS=aH (a3.map dS) w (ptr q):=qz (λj:ny=>ptr j.q) a3 w _
  rw[g];exact v
 ·have g:(aH a3 w ⟨q,G',a9⟩).map uZ=aH (a3.map uZ) w a9:=qz (λj:ny=>j.f) a3 w _
  rw[g,<-e.files];rfl
 ·intro P d
  rcases h P d with rfl|⟨d,l⟩
  ·exact r.af f λn B=>(t n B).2
  ·exact(e.each.each P d).af f λn B=>(e.Im P d n B).2.2
 ·intro P d m i u n B o
  rcases h P d with rfl|⟨d,l⟩<;>rcases h m i with rfl|⟨i,y⟩
  ·exact u rfl
  ·exact s m i y n B o
  ·exact s P d l n o B
  ·exact e.each.apart P d m i u n B o
 ·intro P d n B
  rcases h P d with rfl|⟨d,l⟩
  ·exact⟨.inr B,t n B⟩
  ·exact⟨.inl (e.Im P d n B).1,(e.Im P d n B).2⟩
 ·rintro n (B|B)
  ·exact Qk (e.aC n B) f.size
  ·exact Qk (r.aC n B) f.size
end Go.Proofs.YtjgjkeponbeekaaGreatDoor
namespace Go.au
open Go
def Cx(cs:Array Value):Nat->List Value->Array Value
 |_,[]=>cs
 |n,P::a=>Cx (cs.setIfInBounds n P) (n+1) a
def EM:∀(a:List Value) (cs:Array Value) (P n:Nat),(Cx cs P a)[n]? =if P<=n/\n<P+a.length/\n<cs.size then a[n-P]? else cs[n]?
 |[],cs,P,n=>by rw[Zq be];rfl
 |v::a,cs,P,n=>by
  unfold Cx;rw[EM a,Array.getElem?_setIfInBounds];simp only[Xq,Array.size_setIfInBounds]
  by_cases b:P+1<=n/\n<P+1+a.length/\n<cs.size
  ·rw[Zx b,Zx oM,show n-P=(n-(P+1))+1 by omega,ZZ]
  ·rw[Zq b]
   by_cases c:P=n
   ·subst c
    by_cases d:P<cs.size
    ·rw[Zx rfl,Zx d,Zx oM,Nat.sub_self,ZJ]
    ·rw[Zx rfl,Zq d,Zq oM,Array.getElem?_eq_none oM]
   ·rw[Zq c,Zq oM]
variable{a4:List Value}{a:Nat}{g:TypeId}{b:World}{y:ZU}
def EN{cs:Array Value}(P:a4.length=cs.size):Cx cs 0 a4=a4.toArray:=by
 apply Array.ext_getElem?;intro n;rw[EM]
 by_cases a:n<cs.size
 ·rw[Zx oM];simp
 ·rw[Zq oM,Array.getElem?_eq_none oM]
  simp;omega
def yz{b:Nat}{f:TypeId}{g:ZU}:∀(a:List Value) (P:Nat) {n:World} {cs:Array Value},n.heap[b]? =some (.cells cs f (0,0))->P+a.length<=cs.size->
  (∀c,ak (·=b) n c->c.heap.size=n.heap.size->c.heap[b]? =some (.cells (Cx cs P a) f (0,0))->g c)->jf ⟨b,0,none⟩ P a n g
 |[],P,n,cs,d,h,e=>e n (ak.refl _) rfl d
 |v::a,P,n,cs,d,h,e=>by
  unfold jf;rw[Addr.add_lit,Xz];rw[Xq]at h;exact PS.mk d oM λq i j k=>yz a (P+1) k be λl m o p=>e l (i.then m) (o.trans j) p
def storeAll{cs:Array Value}(P:List Value)(c:b.heap[a]? =some (.cells cs g (0,0)))(d:P.length=cs.size)(e:∀n,ak (·=a) b n->n.heap.size=b.heap.size->n.heap[a]? =some (.cells P.toArray g (0,0))->y n):jf ⟨a,0,none⟩ 0 P b y:=
 yz P 0 c oM λn f h i=>e n f h (by rw[i,EN d])
end Go.au
namespace Go.au
open Go
def wrap_u32(n:Nat)(P:n<2 ^ 32):ZG .u32 (n:Int)=n:=by
 unfold ZG;simp[IntKind.signed,IntKind.bits];omega
def wrap_u8(n:Nat):ZG .u8 (n:Int)=((n % 256:Nat):Int):=by
 unfold ZG;simp[IntKind.signed,IntKind.bits]
def ofInt32(n:ry):BitVec.ofInt (IntKind.bits .u32) ((n.toNat:Nat):Int)=n:=by
 show BitVec.ofInt 32 ((n.toNat:Nat):Int)=n;rw[BitVec.ofInt_natCast];simp
def KC(n P:ry):qj .u32 ((n.toNat:Nat):Int) ((P.toNat:Nat):Int)=(((n ^^^ P).toNat:Nat):Int):=by
 unfold qj;rw[ofInt32,ofInt32];exact wrap_u32 _ (n ^^^ P).isLt
def PK(n:ry):qj .u32 (IntKind.max .u32) ((n.toNat:Nat):Int)=(((~~~n).toNat:Nat):Int):=by
 have P:IntKind.max .u32=(((BitVec.allOnes 32).toNat:Nat):Int):=by decide+kernel
 rw[P,KC,BitVec.allOnes_xor]
def TY(n:ry):jE .u32 ((n.toNat:Nat):Int) 8=(((n>>>8).toNat:Nat):Int):=by
 unfold jE;have:(min (Int.toNat 8) (IntKind.bits .u32))=8:=dC
 rw[this,BitVec.toNat_ushiftRight,Nat.shiftRight_eq_div_pow];show Int.fdiv _ ((2 ^ 8:Nat):Int)=_;rw[Int.fdiv_eq_ediv_of_nonneg _ (Int.natCast_nonneg _)]
 rfl
def Vq(n P:Nat)(a:n<256)(b:P<256):qj .u8 (n:Int) (P:Int)=((n ^^^ P:Nat):Int):=by
 unfold qj;show ZG .u8 ((BitVec.ofInt 8 (n:Int) ^^^ BitVec.ofInt 8 (P:Int)).toNat:Int)=_;have c:n ^^^ P<2 ^ 8:=Nat.xor_lt_two_pow oM oM;rw[BitVec.ofInt_natCast,BitVec.ofInt_natCast,BitVec.toNat_xor,BitVec.toNat_ofNat,BitVec.toNat_ofNat,Nat.mod_eq_of_lt oM,Nat.mod_eq_of_lt oM,wrap_u8,Nat.mod_eq_of_lt oM]
def TZ(n:Nat)(a:n<256):FN .u8 (n:Int) 15=((n % 16:Nat):Int):=by
 unfold FN;show ZG .u8 ((BitVec.ofInt 8 (n:Int)&&&BitVec.ofInt 8 ((15:Nat):Int)).toNat:Int)=_;have P:n&&&15=n % 16:=Nat.and_two_pow_sub_one_eq_mod n 4;rw[BitVec.ofInt_natCast,BitVec.ofInt_natCast,BitVec.toNat_and,BitVec.toNat_ofNat,BitVec.toNat_ofNat,Nat.mod_eq_of_lt oM,Nat.mod_eq_of_lt oM,P,wrap_u8,Nat.mod_eq_of_lt oM]
def Vr(n:Nat):jE .u8 (n:Int) 4=((n/16:Nat):Int):=by
 unfold jE;have:(min (Int.toNat 4) (IntKind.bits .u8))=4:=dC
 rw[this];show Int.fdiv _ ((2 ^ 4:Nat):Int)=_;rw[Int.fdiv_eq_ediv_of_nonneg _ (Int.natCast_nonneg _)]
 rfl
end Go.au
namespace Go.Proofs.YtjgjkeponbeekaaGreatDoor
open Go.au
structure qg (w:World):Prop where
 lower:∀i,i<16->w.cell? ⟨2,i,none⟩=some (.int .u32 ((jM.getD i 0:Nat):Int))
 upper:∀i,i<16->w.cell? ⟨3,i,none⟩=some (.int .u32 ((jN.getD i 0:Nat):Int))
 lt:2<w.heap.size/\3<w.heap.size
variable{x:List UInt8}{a c:Nat}{f:ZN}{d:YQ}{b k:World}
def qg.ah(n:qg b)(a:ai b k):qg k:=
 ⟨λP c=>(a.cell (a:=⟨2,P,none⟩) n.lt.1 id).trans (n.lower P c),λP c=>(a.cell (a:=⟨3,P,none⟩) n.lt.2 id).trans (n.upper P c),Qk n.lt.1 a.size,Qk n.lt.2 a.size⟩
def PL:∀n,jM.getD n 0<2 ^ 32/\jN.getD n 0<2 ^ 32:=by
 intro n
 by_cases P:n<16
 ·have a:(List.range 16).all (λn=>decide (jM.getD n 0<2 ^ 32/\jN.getD n 0<2 ^ 32))=true:=by decide+kernel
  simpa using ZY.1 a n (List.mem_range.2 P)
 ·rw[QQ,QQ,Q7 (by show 16<=n;omega),Q7 (by show 16<=n;omega)]
  decide
def PM{s:ry}(p:qg b)(h:Row fN 1 b f d a x):
  YX 325 #[.int .u32 ((s.toNat:Nat):Int),.slice d a c] b (Ok λq j=>q= .int .u32 (((Mi s x).toNat:Nat):Int)/\br b j):=by
 have H:=h.len;have r:=h.ef;unfold aK at r;refine Kq ⟨λm n i j=>∃e:Nat,i=e/\e<=a/\m=a-e/\br b j/\n=((((x.take e).foldl ke (~~~s)).toNat:Nat):Int),⟨_,0,rfl,Qj _,rfl,br.refl b,by rw[PK];rfl⟩,?_⟩;rintro m n i I J ⟨e,rfl,K,rfl,g,rfl⟩;generalize k:(x.take e).foldl ke (~~~s)=n;refine al.dec (λt=>?_) (λt=>Ok.mk ⟨?_,g⟩)
 ·obtain⟨u,l,P,rfl,v,_,w⟩:=(h.ah g.af).mP (i:=e) oM
  have o:=p.ah g.af;have L:=P.toNat_lt;have y:ZG .u8 ((n.toNat:Nat):Int)=((n.toNat % 256:Nat):Int):=wrap_u8 _;have M:P.toNat ^^^ n.toNat % 256<2 ^ 8:=Nat.xor_lt_two_pow oM oM;have z:qj .u8 ((P.toNat:Nat):Int) (ZG .u8 ((n.toNat:Nat):Int))=((P.toNat ^^^ n.toNat % 256:Nat):Int):=by rw[y,Vq _ _ oM oM]
  refine⟨u,l,rfl,oM,oM,_,w,?_⟩;rw[z,TZ _ oM,Vr];refine⟨2,0,rfl,oM,oM,((jM.getD ((P.toNat ^^^ n.toNat % 256) % 16) 0:Nat):Int),?_,3,0,rfl,oM,oM,((jN.getD ((P.toNat ^^^ n.toNat % 256)/16) 0:Nat):Int),?_,λN A=>⟨_,oM,e+1,aq oM,oM,rfl,g.then A,?_⟩⟩
  ·rw[Xz];exact o.lower _ oM
  ·rw[Xz];exact o.upper _ oM
  ·have B:=(PL ((P.toNat ^^^ n.toNat % 256) % 16)).1
   have C:=(PL ((P.toNat ^^^ n.toNat % 256)/16)).2;rw[TY];have E:((jM.getD ((P.toNat ^^^ n.toNat % 256) % 16) 0:Nat):Int)=(((BitVec.ofNat 32 (jM.getD ((P.toNat ^^^ n.toNat % 256) % 16) 0)).toNat:Nat):Int):=by rw[BitVec.toNat_ofNat,Nat.mod_eq_of_lt B]
   have F:((jN.getD ((P.toNat ^^^ n.toNat % 256)/16) 0:Nat):Int)=(((BitVec.ofNat 32 (jN.getD ((P.toNat ^^^ n.toNat % 256)/16) 0)).toNat:Nat):Int):=by rw[BitVec.toNat_ofNat,Nat.mod_eq_of_lt C]
   rw[E,F,KC,KC,<-Nu,Qw,v,List.foldl_append,k]
   rfl
 ·rw[Qz oM]at k
  rw[PK,<-k];rfl
def Mj(n:qg b)(P:Row fN 1 b f d a x):
  YX 285 #[.slice d a c] b (Ok λe g=>e= .int .u32 (((Nv x).toNat:Nat):Int)/\br b g):=by
 refine Nr (PC.ok (PM (s:=0#32) n P) ?_);rintro _ i ⟨rfl,h⟩;exact⟨_,rfl,Ok.mk ⟨rfl,h⟩⟩
end Go.Proofs.YtjgjkeponbeekaaGreatDoor
namespace Go.au
open Go
def wrap_u32'(n:Int):ZG .u32 n=n % 4294967296:=by
 unfold ZG;simp[IntKind.signed,IntKind.bits]
def KU{n d:Nat}(b:n<16777216)(c:d<256):PH .u32 (KR .u32 (n:Int) 8) (ZG .u32 (d:Int))=((n*256+d:Nat):Int):=by
 have P:KR .u32 (n:Int) 8=((n*256:Nat):Int):=by
  unfold KR;have:min (Int.toNat 8) (IntKind.bits .u32)=8:=dC
  rw[this,wrap_u32'];have:((2:Int) ^ 8)=256:=dC
  rw[this];omega
 rw[P,wrap_u32 _ oM];unfold PH;show ZG .u32 ((BitVec.ofInt 32 ((n*256:Nat):Int)|||BitVec.ofInt 32 (d:Int)).toNat:Int)=_;have a:n*256|||d=n*256+d:=by
  have:=(Nat.shiftLeft_add_eq_or_of_lt (a:=n) (i:=8) (b:=d) oM).symm
  rwa [Nat.shiftLeft_eq]at this
 rw[BitVec.ofInt_natCast,BitVec.ofInt_natCast,BitVec.toNat_or,BitVec.toNat_ofNat,BitVec.toNat_ofNat,Nat.mod_eq_of_lt oM,Nat.mod_eq_of_lt oM,a,wrap_u32 _ oM]
def jv(n:Nat):ZG .u8 (n:Int)=((UInt8.ofNat n).toNat:Int):=by
 rw[wrap_u8,ZK]
def MY{k:IntKind}{u m:Nat}(n:m<=k.bits):jE k (u:Int) (m:Int)=((u/2 ^ m:Nat):Int):=by
 unfold jE;rw[Qx,X2 n];show Int.fdiv _ ((2:Int) ^ m)=_;rw[Int.fdiv_eq_ediv_of_nonneg _ (Int.pow_nonneg dC)];simp
variable{a c:Nat}{d:YQ}{h:Program}{B g q:TypeId}{m s:ZR}{b:World}
def NG{P tn i n:TypeId}(j:jS h P n 1 1)(l:h.underlying tn=some (.int .i64))(o:0<a)(p:a<=aK)(c:∀d e,aM fN n (·=b.heap.size) d (ZM b.heap.size) 0 e []->a<=e->ai b d->m (.slice (ZM b.heap.size) a e) d):
  aG h (Builtin.append_ #[P,tn] i #[.slice none 0 0,ZH (a:Int)]) b m s:=by
 obtain⟨q,f,r,t,A,u,v⟩:=j.info;unfold aK at p;have w:=Lib.run_append_nil_zeros (P:=h) b P tn i n q f .i64 .i64 j.under l r t a o oM oM (by rw[u];omega);have x:=grownCap_ge b a 0 n;refine aG.mk w (c _ _ ?_ x ?_)
 ·have k:=heap_alloc_new b.drew (.cells (Builtin.zeroCells f.cells a++Builtin.zeroCells f.cells (grownCap b a 0 n-a)) n)
  refine⟨⟨[],λ_=>False,⟨⟨sM,.inr ⟨b.heap.size,grownCap b a 0 n,_,rfl,Qj _,k,Qj _,grownCap_le_maxLen b a 0 n (by unfold maxLen;omega),?_,sM⟩⟩⟩,rfl,λ_ c=>c.elim⟩,λy g=>by simpa[aD]using g.symm,λy g=>by rw[g];exact ax k⟩;rw[Array.size_append,size_zeroCells,size_zeroCells,v];show a*1+(grownCap b a 0 n-a)*1=grownCap b a 0 n*1;omega
 ·have z:ai b (b.drewN 1):=ak.drewN b 1
  exact z.then (ak.alloc _ _)
def Tv(n:h.underlying g=some (.slice q))(P:m (ZH (c:Int)) b):aG h (Builtin.cap_ #[g] B #[.slice d a c]) b m s:=by
 refine aG.mk (v:=ZH (c:Int)) ?_ P;simp[Builtin.cap_,run_underlying n,goInt]
end Go.au
namespace Go.Proofs.YtjgjkeponbeekaaGreatDoor
section
open Go.au
variable{c6 x:List UInt8}{E a c i p:Nat}{C:Nat×Nat}{d u:YQ}{b:World}
def vl{bs:List UInt8}{D:ZN}(e:Row fN 1 b D d a bs)(q:a<=4):
  YX 284 #[.slice d a c] b (Ok λg n=>g= .int .u32 (gH bs:Int)/\b=n):=by
 have r:=e.len;refine Bb ⟨λm f i n=>∃j:Nat,i=j/\j<=a/\m=a-j/\f=(gH (bs.take j):Int)/\b=n,⟨_,0,rfl,Qj _,rfl,rfl,rfl⟩,?_⟩;rintro m f i _ s ⟨j,rfl,t,rfl,rfl,rfl⟩;refine al.dec (λh=>?_) (λh=>?_)
 ·obtain⟨k,P,l,rfl,o,_,p⟩:=e.mP (i:=j) oM
  have u:=oC bs (j:=j) (m:=3) oM;refine⟨k,P,rfl,oM,oM,_,p,_,oM,j+1,aq oM,oM,rfl,?_,rfl⟩;rw[KU (by
            have:(256:Nat) ^ 3=16777216:=dC
            omega) l.toNat_lt,Eh o]
 ·rw[Qz oM]
  exact Ok.mk ⟨rfl,rfl⟩
def Gr{m:Nat}(f:0<m)(c:m<=aK):
  YX 328 #[.slice none 0 0,ZH (m:Int)] b (Ok λg n=>∃P d,g= .slice (ZM P) 0 d/\aM fN 5 (·=P) n (ZM P) 0 d []/\ai b n/\b.heap.size<=P):=by
 have a:=c;unfold aK at a;refine my ⟨λn=>n=b,al.dec (λe=>oM) (λ_=>rfl),?_⟩;rintro _ l rfl;refine Tv tg.under ⟨_,rfl,?_⟩;have h:ZG .i64 ((m:Int)-ZG .i64 (((0:Nat):Int)-((0:Nat):Int)))=(m:Int):=by
  rw[wrap_i64 (x:=((0:Nat):Int)-((0:Nat):Int)) bc,wrap_i64 bc];omega
 rw[h];refine al.dec (λe=>?_) (λe=>oM);refine Tv tg.under ⟨_,rfl,oM,oM,?_⟩;refine NG tg kR f c λo i j p k=>⟨_,_,_,rfl,oM,oM,Ok.mk ⟨_,i,rfl,j,k,Q4 _⟩⟩
def BC{D:ZN}(B:b.heap[a]? =some (.cells #[.slice d c p,.slice u i E] 237 C))(R:Row fN 1 b D d c x)(S:Row fN 1 b D u i c6)(F:∀n,D n->n<b.heap.size)(h0:0<c)(P:c+i<=aK):
  YX 294 #[.slice (ZM a) 2 2] b (Ok (oW fN 5 b (x++c6))):=by
 have l1:=R.len;have l2:=S.len;have H:=P;unfold aK at H;refine kH ⟨λf w g e=>b=e/\((f=2/\w=0/\g=0)\/(f=1/\w=(c:Int)/\g=1)\/(f=0/\w=((c+i:Nat):Int)/\g=2)),⟨2,rfl,.inl ⟨rfl,rfl,rfl⟩⟩,?_⟩;rintro f w g _ w1 ⟨rfl,I⟩;rcases I with⟨rfl,rfl,rfl⟩|⟨rfl,rfl,rfl⟩|⟨rfl,rfl,rfl⟩
 ·refine al.tt dC ⟨a,0,rfl,oM,oM,d,c,p,ae B rfl,?_⟩
  rw[wrap_i64 (x:=0+((c:Nat):Int)) bc];exact al.dec (λT=>oM) (λ_=>⟨1,oM,rfl,.inr (.inl ⟨rfl,oM,rfl⟩)⟩)
 ·refine al.tt dC ⟨a,0,rfl,oM,oM,u,i,E,ae B rfl,?_⟩
  rw[wrap_i64 (x:=((c:Nat):Int)+((i:Nat):Int)) bc];exact al.dec (λT=>oM) (λ_=>⟨0,oM,rfl,.inr (.inr ⟨rfl,oM,rfl⟩)⟩)
 refine al.ff dC (PC.ok (Gr (m:=c+i) oM P) ?_);rintro _ w2 ⟨U,cq,rfl,Z,k2,hq⟩;have a6:∀n,D n->n≠U:=λn P J=>by have:=F n P;omega
 refine⟨_,_,_,rfl,λf o j q g e=>ai b e/\∃k,(∀n,k n->b.heap.size<=n)/\((f=2/\g=0/\aM fN 5 k e o j q [])\/(f=1/\g=1/\aM fN 5 k e o j q x)\/(f=0/\g=2/\aM fN 5 k e o j q (x++c6))),
  ⟨2,k2,(·=U),λn J=>oM,.inl ⟨rfl,rfl,Z⟩⟩,?_⟩
 rintro f o j q g _ V ⟨r,k,y,I⟩;have W:=r.get B id;have ap:∀{z A:List UInt8} {K t X} {L Y:ZR},aM fN 5 k V o j q z->Row fN 1 b D K t A->z.length+A.length<=140737488355328->
   (∀l s e m,aM fN 5 m e l (j+t) s (z++A)->ai b e->(∀n,m n->b.heap.size<=n)->L (.slice l (j+t) s) e)->
   aG ZP (Builtin.append_ #[237,237] 237 #[.slice o j q,.slice K t X]) V L Y:=by
  intro z A K t X L Y h hr a5 M;refine zR h tg (hr.ah r) (λn P=>⟨by have:=F n P;have:=r.size;omega,λJ=>?_⟩) ba (by unfold maxLen;omega) λl s N m v a3 _ a4=>?_
  ·have:=F n P;have:=y n (h.self n J);omega
  ·exact M l s N (λn=>aD l=some n) v.alone (r.new a3 λn P=>.inr (y n (h.self n P))) λn P=>(a4 n P).elim (y n) λT=>by have:=r.size;omega
 rcases I with⟨rfl,rfl,h⟩|⟨rfl,rfl,h⟩|⟨rfl,rfl,h⟩
 ·refine al.tt dC ⟨a,0,rfl,oM,oM,d,c,p,ae W rfl,?_⟩
  exact ap h R be λl s N m v O Q=>⟨_,_,_,rfl,1,oM,O,m,Q,.inr (.inl ⟨rfl,rfl,v⟩)⟩
 ·refine al.tt dC ⟨a,0,rfl,oM,oM,u,i,E,ae W rfl,?_⟩
  exact ap h S oM λl s N m v O Q=>⟨_,_,_,rfl,0,oM,O,m,Q,.inr (.inr ⟨rfl,rfl,v⟩)⟩
 ·exact al.ff dC (Ok.mk ⟨_,_,_,k,rfl,h,r,y⟩)
end
section
open Go.au
def gY:jW:=⟨[],[],[],[],[]⟩
variable{c7 w:ByteArray}{A:ZT}{a c:Nat}{d:YQ}{b:World}
def gZ(n:al (decide ((((ByteArray.size w:Nat):Int):Int)>=((ByteArray.size c7:Nat):Int))) (((0:Int)<=((ByteArray.size c7:Nat):Int)/\(((ByteArray.size c7:Nat):Int):Int)<=((ByteArray.size w:Nat):Int)/\rt A ((.bool ((ByteArray.toList (ByteArray.extract w 0 (Int.toNat ((ByteArray.size c7:Nat):Int))))==(ByteArray.toList c7)))) b)) (rt A ((.bool false)) b)):YX 324 #[.string w,.string c7] b A:=DC gY Tryz.func324 rfl n
def gW:jW:=⟨[],[],[],[],[]⟩
def gX(P:PC_ 324 #[.string w,.string c7] b (kB λa n=>al (!a) (rt A ((.tuple #[.string w,.bool false])) n) (((0:Int)<=((ByteArray.size c7:Nat):Int)/\(((ByteArray.size c7:Nat):Int):Int)<=((ByteArray.size w:Nat):Int)/\rt A ((.tuple #[.string (ByteArray.extract w (Int.toNat ((ByteArray.size c7:Nat):Int)) (ByteArray.size w)),.bool true])) n))) (pE A)):YX 283 #[.string w,.string c7] b A:=DC gW Tryz.func283 rfl P
def Bf:jW:=⟨[],[],[],[],[(11,⟨[0,1,0,4,10,18,48,64,192,320,576,1088],[4095,4094,4095,4091,4087,4077,4063,4031,3903,3775,3519,3007],[0,2,0,0,2,0,0,0,0,1,0,0]⟩)]⟩
def Bg(o:al (decide ((a:Int)<4)) (rt A ((.tuple #[.ii 0,.ii 4])) b) (((0:Int)<=1/\(1:Int)<=4/\(4:Int)<=(c:Int)/\PC_ 284 #[.slice (cK d (Int.toNat 1) c 1) (Int.toNat 4-Int.toNat 1) (c-Int.toNat 1)] b (λp P=>∃n,p= .int .u32 n/\(ix_ d 0 a λq r=>(∃f,P.cell? (ad q (r+Int.toNat 0))=some (.int .u8 f)/\al (f==0) (rt A ((.tuple #[.ii 0,.ii 2])) P) (al (decide (((ZG .i64 n):Int)>65536)) (rt A ((.tuple #[.ii 0,.ii 5])) P) (al (decide ((a:Int)<(ZG .i64 ((ZG .i64 (4+(ZG .i64 n)))+5)))) (rt A ((.tuple #[.ii 0,.ii 4])) P) (((0:Int)<=(ZG .i64 (4+(ZG .i64 n)))/\((ZG .i64 (4+(ZG .i64 n))):Int)<=(c:Int)/\((0:Int)<=(ZG .i64 (4+(ZG .i64 n)))/\((ZG .i64 (4+(ZG .i64 n))):Int)<=(ZG .i64 ((ZG .i64 (4+(ZG .i64 n)))+5))/\((ZG .i64 ((ZG .i64 (4+(ZG .i64 n)))+5)):Int)<=(c:Int)/\(∀g,br P g->(∀h,br g h->((0:Int)<=4/\(4:Int)<=(((c-Int.toNat (ZG .i64 (4+(ZG .i64 n)))):Nat):Int)/\PC_ 285 #[.slice d (Int.toNat (ZG .i64 (4+(ZG .i64 n)))) c] h (λs t=>∃i,s= .int .u32 i/\PC_ 284 #[.slice (cK d (Int.toNat (ZG .i64 (4+(ZG .i64 n)))) c 1) (Int.toNat 4) (c-Int.toNat (ZG .i64 (4+(ZG .i64 n))))] t (λu e=>∃j,u= .int .u32 j/\al (i !=j) (rt A ((.tuple #[.ii 0,.ii 6])) e) ((∃k l,(cK d (Int.toNat (ZG .i64 (4+(ZG .i64 n)))) c 1)=some ⟨k,l,none⟩/\(0:Int)<=4/\4<((Int.toNat (ZG .i64 ((ZG .i64 (4+(ZG .i64 n)))+5))-Int.toNat (ZG .i64 (4+(ZG .i64 n))):Nat):Int)/\(∃m,e.cell? (ad k (l+Int.toNat 4))=some (.int .u8 m)/\al (m !=10) (rt A ((.tuple #[.ii 0,.ii 6])) e) (rt A ((.tuple #[.ii (ZG .i64 n),.ii 0])) e))))) (pZ A)) (pZ A)))))))))))) (pE A)))):YX 225 #[.slice d a c] b A:=DC Bf Tryz.func225 rfl o
end
end Go.Proofs.YtjgjkeponbeekaaGreatDoor
namespace Go.au
open Go
def BD(n:List UInt8)(P:Nat)(a:(n.getD 1 0).toNat*65536+(n.getD 2 0).toNat*256+(n.getD 3 0).toNat=P):
  bq n=if n.length<4 then⟨0,[],0,4⟩else if n.getD 0 0=0 then⟨0,[],0,2⟩else if 65536<P then⟨0,[],0,5⟩else if n.length<P+9 then⟨0,[],0,4⟩else
   if n.take (P+9)=gA (n.getD 0 0).toNat ((n.drop 4).take P)then⟨(n.getD 0 0).toNat,(n.drop 4).take P,P+9,0⟩else⟨0,[],0,6⟩:=by
 unfold bq;rw[a]
variable{x:List UInt8}
def Qi(n:(bq x).no=0):(bq x).kind=((x.getD 0 0).toNat:Int)/\(bq x).body=(x.drop 4).take ((bq x).n-9)/\4<=x.length:=by
 rw[BD x _ rfl]at n⊢;split at n
 ·cases n
 rename_i P;rw[Zq P];split at n
 ·cases n
 rename_i a;rw[Zq a];split at n
 ·cases n
 rename_i b;rw[Zq b];split at n
 ·cases n
 rename_i c;rw[Zq c];split at n
 ·rename_i d
  rw[Zx d];exact⟨rfl,sM,oM⟩
 ·cases n
end Go.au
namespace Go.Proofs.YtjgjkeponbeekaaGreatDoor
section
open Go.au
def BE(n:List UInt8):List Value:=n.map λP=>Value.int .u8 (P.toNat:Int)
variable{e:Int}{x:List UInt8}{a c:Nat}{d:YQ}{b:World}
def Ei{f:Nat×Nat}(n:List UInt8)(P:b.heap[a]? =some (.cells (BE n).toArray 5 f))(d:n.length<=1000):Row fN 1 b (·=a) (ZM a) n.length n:=
 Row.lit (enc:=λc:UInt8=>Value.int .u8 (c.toNat:Int)) P n (by simp[BE]) (λ_ _=>trivial) ba
def Ej{D:ZN}(A:qg b)(P:Row fN 1 b D d a x)(B:∀n,D n->n<b.heap.size):
  YX 241 #[.agg #[ZH e,.slice d a c]] b (Ok λC E=>∃u,C= .tuple #[u,ZH (jX e x).2]/\oW fN 5 b (jX e x).1 u E):=by
 have F:=P.len;refine Ia (PA.mk λg j s1 k=>⟨d,a,c,ae k rfl,_,ae k rfl,al.dec (λh=>?_) (λh1=>⟨_,ae k rfl,al.dec (λh=>?_) (λh2=>al.dec (λh=>?_) (λh3=>?_))⟩)⟩)
 ·rw[show jX e x=([],2) by unfold jX;rw[Zx oM]]
  exact Ok.mk ⟨_,rfl,none,0,0,λ_=>False,rfl,aM.nil g,j,λ_ h=>h.elim⟩
 ·rw[show jX e x=([],2) by unfold jX;rw[Zx oM]]
  exact Ok.mk ⟨_,rfl,none,0,0,λ_=>False,rfl,aM.nil g,j,λ_ h=>h.elim⟩
 ·rw[show jX e x=([],5) by unfold jX;rw[Zq oM,Zx oM]]
  exact Ok.mk ⟨_,rfl,none,0,0,λ_=>False,rfl,aM.nil g,j,λ_ h=>h.elim⟩
 rw[show jX e x=(gA e x,0) by unfold jX;rw[Zq oM,Zq oM]];refine⟨_,ae k rfl,PA.mk λH l s2 I=>⟨d,a,c,ae (l.get k id) rfl,PA.mk λo m s3 J=>?_⟩⟩;have K:jE .i64 ((a:Nat):Int) 16=((a/65536:Nat):Int):=MY (k:=.i64) (u:=a) (m:=16) dC;have L:jE .i64 ((a:Nat):Int) 8=((a/256:Nat):Int):=MY (k:=.i64) (u:=a) (m:=8) dC;have M:e=((e.toNat:Nat):Int):=oM
 have N:H.heap[g.heap.size]? =some (.cells (BE [UInt8.ofNat e.toNat,UInt8.ofNat (x.length/65536),UInt8.ofNat (x.length/256),UInt8.ofNat x.length]).toArray 5 (0,0)):=by
  rw[I,K,L,M,jv,jv,jv,jv,F];simp[BE]
 have O:Row fN 1 o (λn=>D n\/n=g.heap.size) (ZM g.heap.size) 4 [UInt8.ofNat e.toNat,UInt8.ofNat (x.length/65536),UInt8.ofNat (x.length/256),UInt8.ofNat x.length]:=
  (Ei (f:=(0,0)) [UInt8.ofNat e.toNat,UInt8.ofNat (x.length/65536),UInt8.ofNat (x.length/256),UInt8.ofNat x.length] (m.get N id) sM).mono λn P=>.inr P
 have Q:Row fN 1 o (λn=>D n\/n=g.heap.size) d a x:=(P.ah ((j.then l).then m)).mono λn P=>.inl P;refine PC.ok (BC J O Q (λn P=>P.elim (λh=>by have:=B n h;omega) λh=>oM) oM ba) ?_;rintro _ p ⟨a4,n4,c4,F4,rfl,i,R,v⟩;have S:[UInt8.ofNat e.toNat,UInt8.ofNat (x.length/65536),UInt8.ofNat (x.length/256),UInt8.ofNat x.length]++x=mE e x:=rfl;rw[S]at i;have a8:=i.len dC;have q:(mE e x).length=4+x.length:=by simp[mE];omega
 have r:ai b p:=((j.then l).then m).then R;refine⟨_,_,_,rfl,PC.ok (Mj (A.ah r) (i.row (bytes:=1) dC (by rw[q];unfold aK;omega))) ?_⟩;rintro _ s ⟨rfl,T⟩;have t:ai p s:=T.af;refine⟨_,rfl,?_⟩;generalize U:(Nv (mE e x)).toNat=f;have V:jE .u32 (f:Int) 24=((f/16777216:Nat):Int):=MY (k:=.u32) (u:=f) (m:=24) dC;have W:jE .u32 (f:Int) 16=((f/65536:Nat):Int):=MY (k:=.u32) (u:=f) (m:=16) dC;have X:jE .u32 (f:Int) 8=((f/256:Nat):Int):=MY (k:=.u32) (u:=f) (m:=8) dC;refine PA.mk λY w s6 Z=>?_;have a1:Y.heap[s.heap.size]? =some (.cells (BE (Ql f++[10])).toArray 5 (0,0)):=by rw[Z,V,W,X,jv,jv,jv,jv];rfl
 have a2:=(i.ah t).ah w;have a9:p.heap.size<=s.heap.size:=t.size;refine kK a2 tg (Ei (Ql f++[10]) a1 (by simp[Ql])) (λn y=>⟨oM,λe2=>by have:=i.aC n (i.self n e2);omega⟩) (by rw[q];unfold aK;simp[Ql];omega) (by rw[q];unfold maxLen;simp[Ql];omega) λz c7 w7 F7 a3 a5 _ a6=>?_;refine⟨_,_,_,rfl,Ok.mk ⟨_,rfl,z,_,c7,λn=>aD z=some n,rfl,?_,?_,?_⟩⟩
 ·have h7:=a3.alone
  have y:gA e x=mE e x++(Ql f++[10]):=by unfold gA;rw[U,XQ]
  rw[y];exact h7
 ·exact((r.then t).then w).new a5 λn P=>.inr (by have:=v n (i.self n P);have:=j.size;have:=l.size;have:=m.size;omega)
 ·intro n P
  have b0:b.heap.size<=o.heap.size:=oM
  rcases a6 n P with h|h
  ·have:=v n h;omega
  ·have:=r.size;omega
def IA{D:ZN}(C:qg b)(f:Row fN 1 b D d a x)(q:a<=c):
  YX 225 #[.slice d a c] b (Ok λE F=>E= .tuple #[ZH (((bq x).n-9:Nat):Int),ZH (bq x).no]/\br b F):=by
 have W:=f.len;have H:=f.ef;unfold aK at H;generalize r:(x.getD 1 0).toNat*65536+(x.getD 2 0).toNat*256+(x.getD 3 0).toNat=n;have P:=BD x n r;refine Bg (al.dec (λk=>?_) (λX=>?_))
 ·rw[P,Zx oM]
  exact Ok.mk ⟨rfl,br.refl b⟩
 rw[Zq (show¬x.length<4 by omega)]at P;refine⟨oM,oM,oM,PC.ok (vl (bs:=(x.take 4).drop 1) (f.part (lo:=1) (hi:=4) (cap:=c) oM oM q) dC) ?_⟩;rintro _ Y ⟨rfl,rfl⟩;have I:gH ((x.take 4).drop 1)=n:=by
  rw[Tw oM];show gH [x.getD 1 0,x.getD 2 0,x.getD 3 0]=n;simp only[gH,List.foldl];omega
 have Z:n<16777216:=by
  have h1:=(x.getD 1 0).toNat_lt;have h2:=(x.getD 2 0).toNat_lt;have h3:=(x.getD 3 0).toNat_lt;omega
 rw[I];obtain⟨i,e,s,rfl,J,_,g⟩:=f.mP (i:=0) oM;have h:x.getD 0 0=s:=by rw[QQ,J];rfl
 have K:ZG .i64 (n:Int)=(n:Int):=wrap_i64 bc;have L:ZG .i64 (4+(n:Int))=((4+n:Nat):Int):=by rw[wrap_i64 bc];omega
 have M:ZG .i64 (((4+n:Nat):Int)+5)=((4+n+5:Nat):Int):=by rw[wrap_i64 bc];omega
 refine⟨_,rfl,i,e,rfl,oM,oM,_,g,?_⟩;rw[K,L,M];refine al.cW (λk=>?_) (λl=>al.dec (λk=>?_) (λa8=>al.dec (λk=>?_) (λa7=>?_)))
 ·rw[P,h,Zx (UInt8.toNat_inj.1 (by
                        have:s.toNat=0:=oM
                        rw[this];rfl))]
  exact Ok.mk ⟨rfl,br.refl b⟩
 ·rw[P,h,Zq (by rintro rfl;exact l rfl),Zx oM]
  exact Ok.mk ⟨rfl,br.refl b⟩
 ·rw[P,h,Zq (by rintro rfl;exact l rfl),Zq oM,Zx oM]
  exact Ok.mk ⟨rfl,br.refl b⟩
 rw[h,Zq (by rintro rfl;exact l rfl),Zq (show¬65536<n by omega),Zq (show¬x.length<n+9 by omega)]at P;have j:=Un (b:=x) (n:=n) oM r oM;rw[h]at j;refine⟨oM,oM,oM,oM,oM,λw8 t N u=>⟨oM,oM,?_⟩⟩;have v:ai b N:=(t.then u).af;have w:=f.ah v;refine PC.ok (Mj (C.ah v) (w.take (m:=4+n) oM)) ?_;rintro _ O ⟨rfl,y⟩;have z:=w.ah y.af;have A:=z.part (lo:=4+n) (hi:=4+n+4) (cap:=c) oM oM q;rw[show 4+n+4-(4+n)=4 by omega]at A;refine⟨_,rfl,PC.ok (vl A dC) ?_⟩;rintro _ a9 ⟨rfl,rfl⟩;have Q:(x.take (4+n+4)).drop (4+n)=(x.drop (4+n)).take 4:=by rw[List.drop_take];congr 1;omega
 rw[Q];have m:br b O:=(t.then u).then y;refine⟨_,rfl,al.dQ (λo=>?_) (λb0=>?_)⟩
 ·rw[P,Zq (λg=>o (by rw[(j.1 g).1]))]
  exact Ok.mk ⟨rfl,m⟩
 obtain⟨b7,o8,p,R,S,_,T⟩:=z.mP (i:=8+n) oM
 cases R
 have B:x.getD (8+n) 0=p:=by rw[QQ,S];rfl
 have U:cK (some ⟨i,e,none⟩) (4+n) c 1=some ⟨i,e+(4+n),none⟩:=by
  unfold cK;rw[Zq oM];simp[Addr.add_lit]
 refine⟨i,e+(4+n),U,oM,oM,_,by rw[show e+(4+n)+Int.toNat 4=e+(8+n) by show e+(4+n)+4=_;omega];exact T,al.dQ (λo=>?_) (λhe=>?_)⟩
 ·rw[P,Zq (λg=>o (by rw[<-B,(j.1 g).2];rfl))]
  exact Ok.mk ⟨rfl,m⟩
 ·have V:p=10:=UInt8.toNat_inj.1 (by show p.toNat=10;omega)
  rw[P,Zx (j.2 ⟨oM,B.trans V⟩)];exact Ok.mk ⟨sM,m⟩
def Ek{D:ZN}(R:qg b)(P:Row fN 1 b D d a x)(s:a<=c)(t:∀n,D n->n<b.heap.size):
  YX 163 #[.slice d a c] b (Ok λS u=>∃v w y z,S= .tuple #[.agg #[ZH (bq x).kind,.slice v w y],ZH ((bq x).n:Int),ZH (bq x).no]/\
   aM fN 5 z u v w y (bq x).body/\ai b u/\∀n,z n->b.heap.size<=n):=by
 have hn:=P.len;have T:=P.ef;unfold aK at T;refine HY (PA.mk λA h s1 U=>PC.ok (IA (R.ah h) (P.ah h) s) ?_);rintro _ B ⟨rfl,V⟩;have i:ai A B:=V.af;have C:=i.get U id;refine⟨_,_,rfl,al.dQ (λj=>?_) (λk=>?_)⟩
 ·have l:(bq x).kind=0/\(bq x).body=[]/\(bq x).n=0:=by
   rw[BD x _ rfl]at j⊢
   repeat' split
   all_goals first|exact⟨rfl,rfl,rfl⟩|skip
   rename_i W X Y Z h5;rw[Zq W,Zq X,Zq Y,Zq Z,Zx h5]at j;exact Zz rfl j
  rw[l.1,l.2.1,l.2.2];refine storeAll [ZH 0,.slice none 0 0] C rfl λf g s3 E=>⟨0,none,0,0,ae E rfl,ae E rfl,Ok.mk ⟨none,0,0,λ_=>False,rfl,aM.nil f,?_,λ_ m=>m.elim⟩⟩
  exact(h.then i).new g λn P=>.inr oM
 obtain⟨a0,h9,a1⟩:=vm k;generalize a2:(bq x).n=e at a0 h9 a1;obtain⟨a3,F,b1⟩:=Qi k;rw[a2]at F;have H:(bq x).kind=((x.getD 0 0).toNat:Int)/\(bq x).body=(x.drop 4).take (e-9):=⟨a3,F⟩
 intro f a5;have g:ai B f:=a5.af;have o:ai b f:=(h.then i).then g;have p:=P.ah o;obtain⟨I,o6,J,rfl,hx,_,hc⟩:=p.mP (i:=0) oM;obtain⟨b2,b3,x',es,a6,_,a7,_⟩:=p.vW (i:=0) oM
 cases a6
 have a8:x.getD 0 0=J:=by rw[QQ,hx];rfl
 have K:ZG .i64 (4+((e-9:Nat):Int))=((4+(e-9):Nat):Int):=by rw[wrap_i64 bc];omega
 have e9:ZG .i64 (((4+(e-9):Nat):Int)+5)=(e:Int):=by rw[wrap_i64 bc];omega
 refine⟨λn=>b.heap.size<=n,I,o6,rfl,oM,oM,by have:=t I a7;omega,_,hc,?_⟩;refine⟨oM,oM,oM,?_⟩;have a4:=p.part (lo:=4) (hi:=4+(e-9)) (cap:=c) oM oM s;refine PC.ok (by rw[K];exact kJ a4 (λn m=>by have:=t n m;have:=o.size;omega)) ?_;rintro _ w4 ⟨L,M,N,F4,rfl,a9,q,O⟩;have b4:A.heap.size<=f.heap.size:=(i.then g).size;have g4:=q.get (g.get C id) id;refine⟨_,_,_,rfl,q.af,?_⟩;refine storeAll [ZH (ZG .i64 (J.toNat:Int)),.slice L M N] g4 rfl λw5 r s5 Q=>⟨r.mono λn _ b0=>oM,_,_,_,_,ae Q rfl,ae Q rfl,Ok.mk ⟨L,M,N,F4,?_,?_,?_,?_⟩⟩
 ·rw[KV,H.1,a8,k,K,e9]
 ·rw[H.2,<-show(x.take (4+(e-9))).drop 4=(x.drop 4).take (e-9) by rw[List.drop_take];congr 1;omega]
  exact a9.af r λn P b0=>by have:=O n P;omega
 ·exact(o.then q).new r λn P=>.inr oM
 ·intro n P;have:=O n P;omega
end
section
open Go.au
variable{W l:Array Value}{b0:FrameMode}{z:FuncId}{e:Int}{b1 t:List Int}{a5:List PanicEntry->ZU}{x:List UInt8}{J:List aj}{a c i:Nat}{f:ZN}{T X:Operand}{d u:YQ}{h:Program}{b:World}{y:ZU}{o:aj}{a0:mC}
def QS(k:e_ b a f a0):
  YX 228 #[ZL a,ZH e] b (UD b a f a0 (if a0.num.1=0 then(if a0.num.2.1<0\/e<a0.num.2.1 then 3 else 0)else a0.num.1) (λi l=>i= ZH a0.num.2.1) a0.num.2.2):=by
 refine sg (PC.red (ED k) ?_ ?_)
 rotate_left
 ·intro c j d g h
  rw[Zq c];exact⟨.inr ⟨c,rfl,d⟩,g,h⟩
 rintro c _ j d rfl g h;rw[Zx c];have P:a0.num.2.1<0\/e<a0.num.2.1->UD b a f a0 (if a0.num.2.1<0\/e<a0.num.2.1 then 3 else 0) (λi l=>i= ZH a0.num.2.1) a0.num.2.2 (.panicked (TF 3)) j:=λn=>by
  rw[Zx n];exact⟨.inr ⟨dC,rfl,_,d⟩,g,h⟩
 refine⟨_,rfl,al.dec (λm=>fQ (λn=>⟨rfl,?_⟩) (λn=>P (.inr ?_))) (λm=>fQ (λn=>by cases n) (λ_=>P (.inl oM)))⟩
 ·have n:=XV n
  rw[Zq oM];exact⟨.inl ⟨rfl,d,_,rfl,rfl⟩,g,h⟩
 ·have n:=Xy n
  omega
def IV:(do eqGuard .eql 20 T (.const .nilIface) .nilIface .nilIface;binOp .eql 20 .nilIface .nilIface:Sem Value).run ZP b= .ok (.bool true) b:=by
 cases T<;>rfl
def GK:(do eqGuard .eql 20 T X (.iface 372 (ZH e)) .nilIface;binOp .eql 20 (.iface 372 (ZH e)) .nilIface:Sem Value).run ZP b= .ok (.bool false) b:=by
 rfl
def IW:(Instr.typeAssert (.iface 372 (ZH e)) 20 372 true).run ZP b= .ok (.tuple #[ZH e,.bool true]) b:=by
 rfl
def Lv.ret{ret:ZU}(n:b0= .returning)(P:ret b):Lv h ret a5 [] b0 b:=by
 subst n;unfold Lv;exact P
def Lv.one(a:b0≠.run)(c:enters h z=true)(d:CallsD h z l b0 b λe n P=>QA e (λ_=>Lv h y a5 [] (settle n) P) (λf=>Lv h y a5 [] (raised n f) P)):Lv h y a5 [{target:=.fn (.func z) l,args:= #[]}] b0 b:=
 ⟨a,z,l,rfl,c,by rw[show(#[]++l:Array Value)=l by simp];exact d⟩
def Cd{h S:ZN}(d:e_ b a h a0)(I:enters ZP z=true){A:ZU}{no:Int}(s:∀e,S e->e<b.heap.size)(J:a0.vC=0->∀c,ai b c->YX z (l++ #[]++W) c λP n=>ak S c n/\((no=0/\P= .returned (.tuple #[])/\A n)\/(no≠0/\(no=3\/no=4\/no=5)/\P= .panicked (TF no)/\ak (·=a) c n/\∃t,e_ n a h ⟨a0.bytes,t,0⟩))):
  YX 226 #[ZL a,.func (.func z) l W] b (Ok λK n=>K= .tuple #[]/\ak (λe=>S e\/e=a) b n/\
   ((a0.vC≠0/\ai b n)\/(a0.vC=0/\no=0/\ak S b n/\A n)\/(a0.vC=0/\no≠0/\ak (·=a) b n/\e_ n a h ⟨a0.bytes,a0.pos,no⟩))):=by
 obtain⟨a2,a3,L,G,u,h2,h3⟩:=d.body;have hp:=ax u;refine pq (PA.mk λc i s1 j=>?_);have v:=i.get u id;refine⟨_,ae j rfl,a,0,rfl,_,ae v rfl,al.dQ (λM=>Ok.mk ⟨rfl,i.af,.inl ⟨M,i⟩⟩) (λk=>?_)⟩;refine⟨_,ae j rfl,a,0,rfl,_,ae v rfl,PA.mk λw2 N s2 O=>PS.mk O sM λm Q s3 R=>⟨z,l,W,rfl,I,?_⟩⟩;have w:ak (·=c.heap.size) c m:=N.af.then Q;have o:ai b m:=i.new w λe hb=>.inr oM;refine(J k m o).mono ?_;rintro P f ⟨p,T⟩;have x:f.heap[b.heap.size]? =some (.cells #[ZL a] 280 (0,0)):=p.get (w.get j (by intro P;omega)) (λq=>by have:=s _ q;omega);have U:f.heap[c.heap.size]? =some (.cells #[ZH (a0.pos:Int)] 3 (0,0)):=p.get R (λq=>by have:=s _ q;omega);have y:ak S b f:=o.af.then p;rcases T with⟨r,rfl,V⟩|⟨r,X,rfl,Y,t,B⟩
 ·refine⟨rfl,Lv.one sM kR ?_⟩
  refine CallsD.mono (gh (rv:=.nilIface) (u:=.returning) rfl (R:=λP g n=>P= .returned (.tuple #[])/\g= .returning/\n=f) ?_) ?_
  ·exact aG.mk IV ⟨_,rfl,al.tt rfl ⟨rfl,rfl,rfl⟩⟩
  ·rintro P g n ⟨rfl,rfl,rfl⟩
   refine Lv.ret rfl ?_;exact Ok.mk ⟨rfl,y.mono λ_ _ d=>.inl d,.inr (.inl ⟨k,r,y,V⟩)⟩
 ·refine Lv.one sM kR ?_
  obtain⟨a',n',C,G',Z,e2,e3⟩:=B.body;refine CallsD.mono (gh (rv:=.iface 372 (ZH no)) (u:=.panicking (TF no)) rfl (R:=λP g n=>P= .returned (.tuple #[])/\settle g= .returning/\e_ n a h ⟨a0.bytes,a0.pos,no⟩/\ak (·=a) b n) ?_) ?_
  ·refine aG.mk (v:=.bool false) (w':=f) ?_ ⟨_,rfl,al.ff rfl (aG.mk (v:=.tuple #[ZH no,.bool true]) (w':=f) ?_ ⟨_,_,rfl,al.tt rfl ?_⟩)⟩
   ·exact GK
   ·exact IW
   ·refine⟨_,ae x rfl,_,ae x rfl,_,ae U rfl,a,0,rfl,PS.mk Z sM λw5 E s5 g5=>⟨a,0,rfl,PS.mk g5 sM λw6 F s6 g6=>⟨rfl,rfl,?_,?_⟩⟩⟩
    ·exact B.dU (r':=⟨a0.bytes,a0.pos,no⟩) e2 e3 (E.then F) g6 rfl ⟨d.fit.pos,.inr X⟩
    ·exact(o.af.then Y).then (E.then F)
  ·rintro P g n ⟨rfl,eh,a1,H⟩
   refine Lv.ret eh ?_;exact Ok.mk ⟨rfl,H.mono λ_ _ d=>.inr d,.inr (.inr ⟨k,r,H,a1⟩)⟩
def Gi(n:e_ b a f a0):
  YX 166 #[ZL a] b (Ok λq g=>q= ZH (fF a0).1/\e_ g a f (fF a0).2/\ak (·=a) b g):=by
 have O:a<b.heap.size:=n.aC a n.self;refine uM (PA.mk λk F Q w=>PA.mk λH r R s=>⟨_,ae (r.get w id) rfl,?_⟩);have x:ai b H:=F.then r;have t:=n.ah x;have I:=r.get w id;refine PC.ok (Cd (S:=λe=>e=a\/e=k.heap.size) (no:=a0.num.1) (A:=λg=>e_ g a f ⟨a0.bytes,a0.pos+a0.num.2.2,a0.vC⟩/\g.heap[k.heap.size]? =some (.cells #[ZH a0.num.2.1] 3 (0,0))) t kR ?_ ?_) ?_
 ·rintro e (rfl|rfl)<;>omega
 ·intro J l p
  refine sh ⟨_,ae (p.get I id) rfl,PC.red (ED (t.ah p)) ?_ ?_⟩
  ·rintro h _ y P rfl i z
   have u:=i.get (p.get s id) oM;refine⟨_,rfl,PS.mk u sM λS A T K=>⟨(i.mono λ_ _ n=>.inl n).then (A.mono λ_ _ n=>.inr n),.inl ⟨h,rfl,P.af A λe m d=>?_,K⟩⟩⟩;have:=n.aC e m;omega
  ·rintro h y P i z
   rw[J]at P;have:=jy (a0.bytes.drop a0.pos);exact⟨i.mono λ_ _ n=>.inl n,.inr ⟨h,by have:=this.2.2.2.1;unfold mC.num at h⊢;omega,rfl,i,P⟩⟩
 ·rintro _ l ⟨rfl,p,L⟩
  have M:ak (·=a) b l:=x.af.new p λe m=>by
   rcases m with(rfl|rfl)|rfl
   ·exact .inl rfl
   ·exact .inr oM
   ·exact .inl rfl
  have c:∀v:Int,l.heap[k.heap.size]? =some (.cells #[ZH v] 3 (0,0))->e_ l a f (fF a0).2->v=(fF a0).1->
    (∃B:Int,l.cell? ⟨k.heap.size,0,none⟩=some (ZH B)/\PS l ⟨k.heap.size,0,none⟩ (ZH B) λC=>∃E:Int,C.cell? ⟨k.heap.size,0,none⟩=some (ZH E)/\
     Ok (λq g=>q= ZH (fF a0).1/\e_ g a f (fF a0).2/\ak (·=a) b g) (.returned (ZH E)) C):=by
   rintro v j P rfl;refine⟨_,ae j rfl,PS.mk j sM λy i z u=>⟨_,ae u rfl,Ok.mk ⟨rfl,P.af i λe m d=>?_,M.new i λe m=>.inr oM⟩⟩⟩;have:=n.aC e m;omega
  refine⟨rfl,?_⟩;rcases L with⟨o,j⟩|⟨o,h,_,P,j⟩|⟨o,h,N,P⟩
  ·have d:fF a0=(0,a0):=by unfold fF;rw[Zx o]
   exact c 0 (j.get s id) (by rw[d];exact t.ah j) (by rw[d])
  ·have d:fF a0=(a0.num.2.1,⟨a0.bytes,a0.pos+a0.num.2.2,0⟩):=by unfold fF;rw[Zq (by simp[o]),Zx h]
   exact c _ j (by rw[d];rw[o]at P;exact P) (by rw[d])
  ·have d:fF a0=(0,⟨a0.bytes,a0.pos,a0.num.1⟩):=by unfold fF;rw[Zq (by simp[o]),Zq h]
   exact c 0 (N.get s oM) (by rw[d];exact P) (by rw[d])
def It{m:Int}(P:e_ b a f a0):
  YX 165 #[ZL a,ZH m] b (Ok λv i=>v= ZH (bZ m a0).1/\e_ i a f (bZ m a0).2/\ak (·=a) b i):=by
 have X:a<b.heap.size:=P.aC a P.self;refine rZ (PA.mk λY M Z C=>PA.mk λl w sm N=>PA.mk λO u s2 x=>⟨_,ae (u.get (w.get C id) id) rfl,?_⟩);have E:ai b O:=(M.then w).then u;have y:=P.ah E;have Q:=u.get (w.get C id) id;have R:=u.get N id;generalize g:(if a0.num.1=0 then(if a0.num.2.1<0\/m<a0.num.2.1 then 3 else 0)else a0.num.1:Int)=no;refine PC.ok (Cd (S:=λh=>h=a\/h=l.heap.size) (no:=no) (A:=λi=>e_ i a f ⟨a0.bytes,a0.pos+a0.num.2.2,a0.vC⟩/\i.heap[l.heap.size]? =some (.cells #[ZH a0.num.2.1] 3 (0,0))) y kR ?_ ?_) ?_
 ·rintro h (rfl|rfl)<;>omega
 ·intro S o p
  refine pF ⟨_,ae (p.get Q id) rfl,_,ae (p.get R id) rfl,PC.red (QS (y.ah p)) ?_ ?_⟩
  ·rintro c _ F d rfl j H
   rw[g]at c;have z:=j.get (p.get x id) oM;refine⟨_,rfl,PS.mk z sM λw5 I s5 T=>⟨(j.mono λ_ _ P=>.inl P).then (I.mono λ_ _ P=>.inr P),.inl ⟨c,rfl,d.af I λh q n=>?_,T⟩⟩⟩;have:=P.aC h q;omega
  ·rintro c F d j H
   rw[g]at c⊢;rw[S]at d;have A:=(jy (a0.bytes.drop a0.pos)).2.2.2.1;refine⟨j.mono λ_ _ P=>.inl P,.inr ⟨c,?_,rfl,j,d⟩⟩
   change a0.num.1=0\/a0.num.1=4\/a0.num.1=5 at A
   rw[<-g]at c⊢;split
   ·rename_i n
    rw[Zx n]at c;split
    ·exact .inl rfl
    ·rename_i s;rw[Zq s]at c;exact Zz rfl c
   ·omega
 ·rintro _ o ⟨rfl,p,U⟩
  have V:ak (·=a) b o:=E.af.new p λh q=>by
   rcases q with(rfl|rfl)|rfl
   ·exact .inl rfl
   ·exact .inr oM
   ·exact .inl rfl
  have e:∀B:Int,o.heap[l.heap.size]? =some (.cells #[ZH B] 3 (0,0))->e_ o a f (bZ m a0).2->B=(bZ m a0).1->
    (∃J:Int,o.cell? ⟨l.heap.size,0,none⟩=some (ZH J)/\PS o ⟨l.heap.size,0,none⟩ (ZH J) λK=>∃L:Int,K.cell? ⟨l.heap.size,0,none⟩=some (ZH L)/\
     Ok (λv i=>v= ZH (bZ m a0).1/\e_ i a f (bZ m a0).2/\ak (·=a) b i) (.returned (ZH L)) K):=by
   rintro B k d rfl;refine⟨_,ae k rfl,PS.mk k sM λF j H z=>⟨_,ae z rfl,Ok.mk ⟨rfl,d.af j λh q n=>?_,V.new j λh q=>.inr oM⟩⟩⟩;have:=P.aC h q;omega
  refine⟨rfl,?_⟩;rcases U with⟨r,k⟩|⟨r,c,_,d,k⟩|⟨r,c,W,d⟩
  ·have n:bZ m a0=(0,a0):=by unfold bZ;rw[Zx r]
   exact e 0 (k.get x id) (by rw[n];exact y.ah k) (by rw[n])
  ·have n:bZ m a0=(a0.num.2.1,⟨a0.bytes,a0.pos+a0.num.2.2,0⟩):=by
    have A:=(jy (a0.bytes.drop a0.pos)).2.2.2.1
    change a0.num.1=0\/a0.num.1=4\/a0.num.1=5 at A
    unfold bZ;rw[Zq (by simp[r])];split at g
    ·rename_i t
     rw[Zx t];split at g
     ·omega
     ·rename_i s;rw[Zq s]
    ·omega
   exact e _ k (by rw[n];rw[r]at d;exact d) (by rw[n])
  ·have n:bZ m a0=(0,⟨a0.bytes,a0.pos,no⟩):=by
    unfold bZ;rw[Zq (by simp[r])];split at g
    ·rename_i t
     rw[Zx t];split at g
     ·rename_i s;rw[Zx s,g]
     ·omega
    ·rename_i t;rw[Zq t,g]
   exact e 0 (W.get x oM) (by rw[n];exact d) (by rw[n])
def Mm(e:e_ b a f a0):
  YX 167 #[ZL a] b (Ok λg h=>g= ZH (kM a0)/\br b h):=by
 obtain⟨m,o,i,G,P,j,p⟩:=e.body;have q:=j.len dC;have d:a0.vC≠0\/¬a0.pos<a0.bytes.length->kM a0=a0.vC:=λr=>by unfold kM;rw[Zq oM]
 refine tD ⟨a,0,rfl,_,ae P rfl,al.cW (λc=>⟨a,0,rfl,_,ae P rfl,a,0,rfl,_,_,_,ae P rfl,λk n=>al.dec (λl=>?_) λl=>?_⟩) (λc k n=>?_)⟩
 ·exact Ok.mk ⟨by unfold kM;rw[Zx ⟨c,oM⟩],n⟩
 ·exact⟨a,0,rfl,_,ae ((n.af (S:=λ_=>False)).get P id) rfl,Ok.mk ⟨by rw[d (.inr oM)],n⟩⟩
 ·exact⟨a,0,rfl,_,ae ((n.af (S:=λ_=>False)).get P id) rfl,Ok.mk ⟨by rw[d (.inl c)],n⟩⟩
def uk:jS ZP 42 3 1 8:=⟨kR,kR,dC⟩
def aE(n:aj)(P:YQ)(a b:Nat):List Value:=
 [ZH n.origin,ZH n.seq,ZH n.aA,.slice P a b,ZH n.aU,ZH n.agg,ZH n.field,ZH n.op,ZH n.arg,ZH n.key]
def jB:jF aj where
 k:=10
 rep:=λh D c cs=>∃n P a,cs=aE c n P a/\Row aI 8 h D n P c.aQ/\c.Ok
 af:=λ⟨n,P,a,b,d,e⟩ i f=>⟨n,P,a,b,d.af i f,e⟩
 mono:=λ⟨n,P,a,b,d,e⟩ f=>⟨n,P,a,b,d.mono f,e⟩
 len:=λ⟨n,P,a,b,_,_⟩=>by rw[b];rfl
 one:=λ⟨n,P,a,b,_,_⟩ j g=>by
  rw[b]at g;simp only[aE,Q2,List.not_mem_nil,or_false]at g;rcases g with rfl|rfl|rfl|rfl|rfl|rfl|rfl|rfl|rfl|rfl<;>rfl
def vi:jF aj where
 k:=10
 rep:=λl D e cs=>∃n P a b,cs=aE e n P a/\aM aI 3 b l n P a e.aQ/\(∀c,b c->D c)/\e.Ok/\e.aQ.length*8<=aK
 af:=λ⟨n,P,a,b,d,g,f,h⟩ m i=>⟨n,P,a,b,d,g.af m (λc j=>i c (f c j)),f,h⟩
 mono:=λ⟨n,P,a,b,d,g,f,h⟩ i=>⟨n,P,a,b,d,g,λc j=>i c (f c j),h⟩
 len:=λ⟨n,P,a,b,d,_⟩=>by rw[d];rfl
 one:=λ⟨n,P,a,b,d,_⟩ o k=>by
  rw[d]at k;simp only[aE,Q2,List.not_mem_nil,or_false]at k;rcases k with rfl|rfl|rfl|rfl|rfl|rfl|rfl|rfl|rfl|rfl<;>rfl
def vi.read{D:ZN}{cs:List Value}(n:vi.rep b D o cs):jB.rep b D o cs:=by
 obtain⟨P,a,c,i,d,e,f,g,h⟩:=n;exact⟨P,a,c,d,(e.row dC h).mono f,g⟩
def vi.row{D:ZN}(n:Row vi 96 b D d a J):Row jB 96 b D d a J:=
 ⟨n.len,n.ef,λc e f=>by
  obtain⟨g,P,h,i,j,k,l,m⟩:=n.el c e f;exact⟨g,P,h,i,j,k,l,vi.read m⟩⟩
def JM:jS ZP 59 63 10 96:=⟨kR,kR,dC⟩
def Gh{r s:Nat}{k D:ZN}{l S:Nat}(C:b.heap[a]? =some (.cells #[.slice d r s] 237 (0,0)))(g:aM fN 5 k b d r s x)(q:Row aI 8 b D u l t)(T:¬k a)(U:¬D a)(V:x.length+9*t.length+9<=aK):
  YX 314 #[.slice u l S,ZL a] b (Ok λW h=>W= .tuple #[]/\∃c e f j,h.heap[a]? =some (.cells #[.slice c e f] 237 (0,0))/\
   aM fN 5 j h c e f (x++bR t)/\¬j a/\ak (·=a) b h/\∀n,j n->k n\/b.heap.size<=n):=by
 have X:=q.len;have a7:=ax C;have Y:=q.ef;unfold aK at Y;refine CY ⟨λE i h=>∃P:Nat,i=P/\P<=l/\E=l-P/\∃c e f j,h.heap[a]? =some (.cells #[.slice c e f] 237 (0,0))/\
   aM fN 5 j h c e f (x++bR (t.take P))/\¬j a/\ak (·=a) b h/\∀n,j n->k n\/b.heap.size<=n,
  ⟨_,0,rfl,Qj _,rfl,d,r,s,k,C,by simpa[bR]using g,T,ak.refl _,λn v=>.inl v⟩,?_⟩
 rintro E i _ w1 ⟨P,rfl,hj,rfl,F,H,I,Z,w,m,a0,o,a1⟩;refine al.dec (λh1=>?_) (λh1=>?_)
 ·obtain⟨n,y,z,rfl,A,B,hc⟩:=(q.af o (λn g p=>U (p▸g))).mP (i:=P) oM
  refine⟨n,y,rfl,oM,oM,z,hc,F,H,I,ae w rfl,?_⟩;have a8:(bR (t.take P)).length<=9*P:=by
   have:=fE (l:=t.take P) (λa9 hy=>by
    obtain⟨J,K⟩:=List.getElem?_of_mem (List.mem_of_mem_take hy);have a2:J<l:=by rw[X];exact(Qv.1 K).1
    obtain⟨_,_,b0,_,L,a3,_⟩:=q.mP (i:=J) a2;rw[K]at L;cases L;exact a3)
   simp only[Qy]at this;omega
  have a4:=m.len dC;rw[QX]at a4;unfold aK at V;refine PC.ok (Bv B (m.row (bytes:=1) dC (by rw[QX];unfold aK;omega)) ba m.aC) ?_;rintro _ w2 ⟨a5,n2,c2,M,rfl,a6,N,O⟩;have Q:¬M a:=λv=>by have:=O a v;have:=o.size;omega
  refine⟨_,_,_,rfl,PS.mk (N.get w id) sM λw3 R s3 g3=>⟨_,oM,P+1,aq oM,oM,rfl,a5,n2,c2,M,g3,?_,Q,(o.ah N).then R,λn g=>.inr (Xx o.size (O n g))⟩⟩;rw[Qw,A];have p:x++bR (List.take P t++(some z).toList)=x++bR (List.take P t)++oz z:=by rw[iw];simp[bR]
  rw[p];exact a6.af R λn g p=>Q (p▸g)
 ·rw[Qz oM]at m
  exact Ok.mk ⟨rfl,F,H,I,Z,w,m,a0,o,a1⟩
def Bw{f:Nat×Nat}(n:List Int)(P:b.heap[a]? =some (.cells (n.map (Value.int .i64)).toArray 3 f))(c:∀d∈n,aJ d)(e:n.length<=1000):Row aI 8 b (·=a) (ZM a) n.length n:=
 Row.lit P n sM c ba
def ND{D:ZN}(w:Row aI 8 b D d a o.aQ)(n:o.Ok)(F:∀P,D P->P<b.heap.size):
  YX 264 #[.agg (aE o d a c).toArray] b (Ok λH I=>∃x,H= .tuple #[x,ZH (iR o).2]/\oW fN 5 b (iR o).1 x I):=by
 have J:=w.len;refine H_ (PA.mk λi l s1 y=>⟨d,a,c,ae y rfl,al.dec (λh=>?_) (λh=>?_)⟩)
 ·have q:iR o=([],3):=by unfold iR;rw[Zx oM]
  rw[q];exact Ok.mk ⟨_,rfl,none,0,0,λ_=>False,rfl,aM.nil i,l,λ_ h=>h.elim⟩
 have a8:o.aQ.length<=64:=oM
 have q:iR o=(bR (kL o),0):=by unfold iR;rw[Zq oM]
 rw[q];have z:∀P,D P->P<i.heap.size:=λP f=>Qk (F P f) l.size;refine PA.mk λj r s2 K=>?_;have k:=r.get y id;refine⟨_,ae k rfl,_,ae k rfl,_,ae k rfl,_,_,_,ae k rfl,PA.mk λA B s3 L=>⟨_,_,_,rfl,kR,?_⟩⟩;have M:Row aI 8 A (·=j.heap.size) (ZM j.heap.size) 4 [o.origin,o.seq,o.aA,(o.aQ.length:Int)]:=
  Bw (f:=(0,0)) [o.origin,o.seq,o.aA,(o.aQ.length:Int)] (by rw[L,<-J];rfl) (by intro s e;simp at e;rcases e with rfl|rfl|rfl|rfl;exact n.origin;exact n.seq;exact n.aA;unfold aJ;omega) sM
 refine PC.ok (Gh (B.get K id) (aM.nil A) M id (by show¬i.heap.size=j.heap.size;omega) (by unfold aK;simp)) ?_;rintro _ C ⟨rfl,a4,n4,c4,F4,N,O,Q,R,S⟩;have m:ak (·=i.heap.size) j C:=B.af.then R;have E:=m.get k oM;have T:Row aI 8 C D d a o.aQ:=((w.ah (l.then r)).af m λP f o=>by have:=z P f;omega)
 refine⟨rfl,_,_,_,ae E rfl,_,_,_,rfl,kR,PC.ok (Gh N O T Q (λh=>by have:=z _ h;omega) ?_) ?_⟩
 ·have t:=fE (l:=[o.origin,o.seq,o.aA,(o.aQ.length:Int)]) (by intro s e;simp at e;rcases e with rfl|rfl|rfl|rfl;exact n.origin;exact n.seq;exact n.aA;unfold aJ;omega)
  simp only[List.nil_append,Xq,ZQ]at t⊢;unfold aK;omega
 rintro _ u ⟨rfl,a5,n5,c5,F5,U,V,W,v,X⟩;have g:=v.get E oM;refine⟨rfl,_,ae g rfl,_,ae g rfl,_,ae g rfl,_,ae g rfl,_,ae g rfl,_,ae g rfl,PA.mk λY p s6 Z=>⟨_,_,_,rfl,kR,?_⟩⟩;have r6:Row aI 8 Y (·=u.heap.size) (ZM u.heap.size) 6 [o.aU,o.agg,o.field,o.op,o.arg,o.key]:=
  Bw (f:=(0,0)) [o.aU,o.agg,o.field,o.op,o.arg,o.key] Z (by intro s e;simp at e;rcases e with rfl|rfl|rfl|rfl|rfl|rfl;exact n.aU;exact n.agg;exact n.field;exact n.op;exact n.arg;exact n.key) sM
 have a6:=m.size;have a9:=v.size;refine PC.ok (Gh (p.get U id) (V.ah p) r6 W (by show¬i.heap.size=u.heap.size;omega) ?_) ?_
 ·have t:=fE (l:=[o.origin,o.seq,o.aA,(o.aQ.length:Int)]) (by intro s e;simp at e;rcases e with rfl|rfl|rfl|rfl;exact n.origin;exact n.seq;exact n.aA;unfold aJ;omega)
  have h2:=fE n.aQ;simp only[List.nil_append,Xq,ZQ,QX]at t h2⊢;unfold aK;omega
 rintro _ w7 ⟨rfl,a7,n7,c7,F7,g7,a2,b0,k7,a3⟩;refine⟨rfl,_,_,_,ae g7 rfl,Ok.mk ⟨_,rfl,a7,n7,c7,F7,rfl,?_,?_,?_⟩⟩
 ·have:kL o=[o.origin,o.seq,o.aA,(o.aQ.length:Int)]++o.aQ++[o.aU,o.agg,o.field,o.op,o.arg,o.key]:=rfl
  rw[this,iw,iw];exact a2
 ·have ka:ai b j:=l.then r
  exact(ka.new ((m.then v).then (p.af.then k7)) λP f=>.inr oM)
 ·intro P f
  rcases a3 P f with h|h
  ·rcases X P h with h|h
   ·rcases S P h with h|h
    ·exact h.elim
    ·omega
   ·omega
  ·have:=p.size;omega
def qD(P:List Int)(a:YQ)(b c:Nat)(n:List Int):List Value:=
 [ZH (P.getD 0 0),ZH (P.getD 1 0),ZH (P.getD 2 0),.slice a b c,ZH (n.getD 0 0),ZH (n.getD 1 0),ZH (n.getD 2 0),ZH (n.getD 3 0),ZH (n.getD 4 0),ZH (n.getD 5 0)]
def KL(n:t.length=i)(P:i<3):(qD t d a c b1).toArray.setIfInBounds i (ZH e)=(qD (t++[e]) d a c b1).toArray:=by
 match t,n with
 |[],n=>subst n;rfl
 |[_],n=>subst n;rfl
 |[_,_],n=>subst n;rfl
 |_::_::_::_,n=>simp at n;omega
def KM(n:b1.length=i)(P:i<6):(qD t d a c b1).toArray.setIfInBounds (4+i) (ZH e)=(qD t d a c (b1++[e])).toArray:=by
 match b1,n with
 |[],n=>subst n;rfl
 |[_],n=>subst n;rfl
 |[_,_],n=>subst n;rfl
 |[_,_,_],n=>subst n;rfl
 |[_,_,_,_],n=>subst n;rfl
 |[_,_,_,_,_],n=>subst n;rfl
 |_::_::_::_::_::_::_,n=>simp at n;omega
def lP(n:Nat)(P:mC):bh (n+1) P=((bh n P).1++[(fF (bh n P).2).1],(fF (bh n P).2).2):=rfl
def NF{D:ZN}(e:Row fN 1 b D d a x)(hD:∀n,D n->n<b.heap.size):
  YX 231 #[.slice d a c] b (Ok λa8 j=>∃a' n' c' v,a8= .tuple #[.agg (aE (ju x).1 a' n' c').toArray,ZH (ju x).2]/\aM aI 3 v j a' n' c' (ju x).1.aQ/\ai b j/\∀n,v n->b.heap.size<=n):=by
 refine Ib (PA.mk λw1 k1 s1 g1=>PC.ok (Ef (e.ah k1) (λn h=>by have:=hD n h;omega)) ?_);rintro _ g ⟨i,a0,rfl,T,k2,hP⟩;refine⟨_,rfl,PA.mk λw3 U s3 g3=>PA.mk λw y s4 g4=>?_⟩;have c3:=T.self;have h5:w1.heap.size<=i/\i<g.heap.size:=⟨hP i c3,T.aC i c3⟩
 have V:=T.aC;have h3:=k2.size;have d9:=y.get g3 id;have e0:=y.get (U.get (k2.get g1 id) id) id;have e1:=(T.ah U).ah y;have b1:ai b w:=((k1.then k2).then U).then y;refine⟨λm B j=>∃P:Nat,B=P/\P<=3/\m=3-P/\j.heap[g.heap.size]? =some (.cells (qD (bh P ⟨x,0,0⟩).1 none 0 0 []).toArray 63 (0,0))/\e_ j i a0 (bh P ⟨x,0,0⟩).2/\ak (λn=>n=g.heap.size\/n=i) w j,
  ⟨_,0,rfl,oM,rfl,d9,e1,ak.refl _⟩,?_⟩
 rintro m B _ w5 ⟨P,rfl,hj,rfl,c4,c5,k5⟩;have c6:(mC.mk x 0 0).Fit:=⟨Qj _,.inl rfl⟩
 refine al.dec (λN=>?_) (λN=>?_)
 ·have c7:P<3:=oM
  have g5:=k5.get g4 oM;have a1:w5.cell? ⟨w3.heap.size,0+Int.toNat (P:Int),none⟩=some (.pointer (some ⟨g.heap.size,P,none⟩)):=by
   rw[Qx,Xz]
   match P,c7 with
   |0,_=>exact ae g5 rfl
   |1,_=>exact ae g5 rfl
   |2,_=>exact ae g5 rfl
  refine⟨_,_,rfl,oM,oM,_,a1,PC.ok (Gi c5) ?_⟩;rintro _ w6 ⟨rfl,O,Q⟩;have W:=Q.get c4 oM;refine⟨_,rfl,_,_,rfl,PS.mk W (by simp[qD];omega) λX C s7 g7=>⟨_,oM,P+1,aq oM,oM,rfl,?_,?_,?_⟩⟩
  ·rw[g7,KL (c6.ints P).2.2.1 c7];rfl
  ·rw[lP]
   exact O.af C λn e r=>by have:=V n e;omega
  ·exact k5.then ((Q.mono λ_ _ h=>.inr h).then (C.mono λ_ _ h=>.inl h))
 obtain rfl:P=3:=oM
 obtain⟨c8,e3,h6,_⟩:=c6.ints 3;refine PC.ok (It c5) ?_;rintro _ w6 ⟨rfl,O,Q⟩;have W:=Q.get c4 oM;have e4:ak (λn=>n=g.heap.size\/n=i) w w6:=k5.then (Q.mono λ_ _ h=>.inr h);generalize hL:(bh 3 ⟨x,0,0⟩).1=H at W e3;generalize hR:(bh 3 ⟨x,0,0⟩).2=a5 at O c8;obtain⟨Y,e5,c9,_⟩:=c8.count (m:=64) oM;generalize hC:(bZ 64 a5).1=I at e5 c9;generalize e6:(bZ 64 a5).2=E at O Y;refine⟨_,rfl,λm B j=>∃P:Nat,B=P/\P<=I.toNat/\m=I.toNat-P/\∃s o t v,j.heap[g.heap.size]? =some (.cells (qD H s o t []).toArray 63 (0,0))/\e_ j i a0 (bh P E).2/\
   aM aI 3 v j s o t (bh P E).1/\(∀n,v n->w.heap.size<=n)/\ak (λn=>n=g.heap.size\/n=i) w j,
  ⟨_,0,rfl,oM,rfl,none,0,0,λ_=>False,W,O,aM.nil w6,λ_ h=>h.elim,e4⟩,?_⟩
 rintro m B _ X ⟨P,rfl,hj,rfl,s,o,t,v,b8,b9,c1,z,C⟩;have h7:=C.size;refine al.dec (λN=>?_) (λN=>?_)
 ·intro J d0
  have p:ai X J:=d0.af;have s8:J.heap.size=X.heap.size:=by rw[d0.heap]
  refine⟨λn=>n≠g.heap.size,sM,s,o,t,ae (p.get b8 id) rfl,PC.ok (Gi (b9.ah p)) ?_⟩;rintro _ K ⟨rfl,Z,u⟩;have b2:=(Y.ints P).2.2.1;refine⟨_,rfl,u.mono (λn _ h=>oM),?_⟩;have L:aM aI 3 v K s o t (bh P E).1:=(c1.ah p).af u λn e r=>by have:=z n e;have:=y.size;omega
  refine PA.mk λA l h8 e7=>⟨l.af,?_⟩
  have a2:=L.ah l;have b0:=u.get (p.get b8 id) oM;have k:=l.get b0 id;have e8:=((Y.ints P).1.int).2.1;have d1:Row aI 8 A (·=K.heap.size) (ZM K.heap.size) 1 [(fF (bh P E).2).1]:=Bw (f:=(0,0)) [(fF (bh P E).2).1] e7 (by simpa using e8) sM;refine kK a2 uk d1 (λn r=>⟨oM,?_⟩) (by rw[b2];unfold aK;simp;omega) (by rw[b2];unfold maxLen;simp;omega) λd2 e9 R h9 d3 a3 h4 b3=>?_
  ·intro e2
   have:=L.aC n (L.self n e2);omega
  refine⟨_,_,_,rfl,PS.mk (a3.get k ?_) (by simp[qD]) λi0 c2 i1 f2=>⟨_,oM,P+1,aq oM,oM,rfl,d2,o+1,e9,λn=>aD d2=some n,?_,?_,?_,?_,?_⟩⟩
  ·intro r;have:=z _ (L.self _ r);have:=y.size;omega
  ·rw[f2];rfl
  ·rw[lP]
   refine((Z.ah l).af a3 λn e r=>?_).af c2 λn e r=>?_
   ·have:=z _ (L.self _ r);have:=V n e;have:=y.size;have:=U.size;omega
   ·have:=V n e;omega
  ·have f3:=d3.alone
   rw[lP];refine f3.af c2 λn e r=>?_;rcases b3 n e with h|h
   ·have:=z n h;have:=y.size;omega
   ·have:=l.size;have:=u.size;have:=p.size;omega
  ·intro n e
   rcases b3 n e with h|h
   ·exact z n h
   ·have:=l.size;have:=u.size;have:=p.size;omega
  ·have ka:ak (λn=>n=g.heap.size\/n=i) w A:=((C.ah p).then (u.mono λ_ _ h=>.inr h)).ah l
   have kb:ak (λn=>n=g.heap.size\/n=i) w R:=ka.new a3 λn e=>.inr (z n (L.self n e));exact kb.then (c2.mono λ_ _ h=>.inl h)
 obtain rfl:P=I.toNat:=oM
 obtain⟨d4,f4,f5,_⟩:=Y.ints I.toNat;generalize f8:(bh I.toNat E).1=S at c1 f4 f5;generalize g0:(bh I.toNat E).2=q at b9 d4;refine PA.mk λJ p s8 g8=>?_;have g2:=p.get b8 id;have g6:ak (λn=>n=g.heap.size\/n=i) w J:=C.ah p;have h0:=c1.ah p;have i2:=y.size;refine⟨λm B j=>∃P:Nat,B=P/\P<=6/\m=6-P/\j.heap[g.heap.size]? =some (.cells (qD H s o t (bh P q).1).toArray 63 (0,0))/\e_ j i a0 (bh P q).2/\ak (λn=>n=g.heap.size\/n=i) J j,
  ⟨_,0,rfl,oM,rfl,g2,b9.ah p,ak.refl _⟩,?_⟩
 rintro m B _ K ⟨P,rfl,hj,rfl,b0,Z,u⟩;refine al.dec (λN=>?_) (λN=>?_)
 ·have d5:P<6:=oM
  have M:=u.get g8 (by have:=C.size;omega);have a1:K.cell? ⟨X.heap.size,0+Int.toNat (P:Int),none⟩=some (.pointer (some ⟨g.heap.size,4+P,none⟩)):=by
   rw[Qx,Xz]
   match P,d5 with
   |0,_=>exact ae M rfl
   |1,_=>exact ae M rfl
   |2,_=>exact ae M rfl
   |3,_=>exact ae M rfl
   |4,_=>exact ae M rfl
   |5,_=>exact ae M rfl
  refine⟨_,_,rfl,oM,oM,_,a1,PC.ok (Gi Z) ?_⟩;rintro _ A ⟨rfl,d6,l⟩;have k:=l.get b0 oM;refine⟨_,rfl,_,_,rfl,PS.mk k (by simp[qD];omega) λR F d7 f=>⟨_,oM,P+1,aq oM,oM,rfl,?_,?_,?_⟩⟩
  ·rw[f,KM (d4.ints P).2.2.1 d5];rfl
  ·rw[lP]
   exact d6.af F λn e r=>by have:=V n e;omega
  ·exact u.then ((l.mono λ_ _ h=>.inr h).then (F.mono λ_ _ h=>.inl h))
 obtain rfl:P=6:=oM
 have a6:mD ⟨x,0,0⟩=(⟨H.getD 0 0,H.getD 1 0,H.getD 2 0,S,(bh 6 q).1.getD 0 0,(bh 6 q).1.getD 1 0,(bh 6 q).1.getD 2 0,(bh 6 q).1.getD 3 0,(bh 6 q).1.getD 4 0,(bh 6 q).1.getD 5 0⟩,(bh 6 q).2):=by
  unfold mD;simp only[hL,hR,hC,e6,f8,g0]
 refine PC.ok (Mm Z) ?_;rintro _ A ⟨rfl,d8⟩;have l:ai K A:=d8.af;have b4:ak (λn=>n=g.heap.size\/n=i) J A:=u.ah l;have b5:ak (λn=>n=g.heap.size\/n=i) w A:=g6.then b4;have b6:=b5.get e0 oM;have k:=l.get b0 id;have a2:aM aI 3 v A s o t S:=h0.af b4 λn e r=>by have:=z n e;omega
 have b7:ai b A:=b1.new b5 λn e=>.inr oM;have a7:kM (mD ⟨x,0,0⟩).2=kM (bh 6 q).2:=by rw[a6]
 refine⟨_,rfl,al.dQ (λh2=>?_) (λhe=>?_)⟩
 ·have a4:ju x=(By,kM (bh 6 q).2):=by unfold ju;rw[a7,Zx h2]
  rw[a4];refine storeAll [ZH 0,ZH 0,ZH 0,.slice none 0 0,ZH 0,ZH 0,ZH 0,ZH 0,ZH 0,ZH 0] b6 rfl λR F d7 f=>?_;refine⟨0,0,0,none,0,0,0,0,0,0,0,0,ae f rfl,ae f rfl,ae f rfl,ae f rfl,ae f rfl,ae f rfl,ae f rfl,ae f rfl,ae f rfl,ae f rfl,Ok.mk ⟨none,0,0,λ_=>False,rfl,aM.nil R,?_,λ_ h=>h.elim⟩⟩;exact b7.new F λn e=>.inr oM
 ·have a4:ju x=((mD ⟨x,0,0⟩).1,0):=by unfold ju;rw[a7,Zq (by simpa using he)]
  rw[a4,a6];refine⟨_,_,_,s,o,t,_,_,_,_,_,_,ae k rfl,ae k rfl,ae k rfl,ae k rfl,ae k rfl,ae k rfl,ae k rfl,ae k rfl,ae k rfl,ae k rfl,?_⟩;refine storeAll (qD H s o t (bh 6 q).1) b6 rfl λR F d7 f=>?_;refine⟨_,_,_,s,o,t,_,_,_,_,_,_,ae f rfl,ae f rfl,ae f rfl,ae f rfl,ae f rfl,ae f rfl,ae f rfl,ae f rfl,ae f rfl,ae f rfl,Ok.mk ⟨s,o,t,v,rfl,a2.af F λn e r=>?_,?_,λn e=>?_⟩⟩
  ·have:=z n e;omega
  ·exact b7.new F λn e=>.inr oM
  ·have:=z n e;have:=b1.size;omega
end
end Go.Proofs.YtjgjkeponbeekaaGreatDoor
namespace Go.au
open Go
def eB(n:List UInt8):Nat:=n.foldl (λP a=>P*10+(a.toNat-48)) 0
def iG(n:UInt8):Bool:=decide (48<=n.toNat/\n.toNat<=57)
def fJ(n:List UInt8)(P:UInt8):eB (n++[P])=eB n*10+(P.toNat-48):=by simp[eB,List.foldl_append]
variable{e:Int}{x:List UInt8}{a:Nat}{j:Type}
def vS{n P:List j}(a:n≠[]):(n++P).head? =n.head? :=by
 cases n with
 |nil=>exact Zz rfl a
 |cons b n=>rfl
def Co:∀(n:Nat),eB (Lib.decDigits n)=n/\(Lib.decDigits n).all iG=true/\Lib.decDigits n≠[]/\(n≠0->(Lib.decDigits n).head? ≠some 48):=by
 intro n
 induction n using Nat.strongRecOn with
 |_ n c=>
  rw[Lib.decDigits]
  by_cases a:n<10
  ·rw[dif_pos a]
   have P:(UInt8.ofNat (48+n)).toNat=48+n:=by rw[ZK];omega
   refine⟨by simp[eB];omega,by simp[iG,P];omega,sM,λh=>?_⟩;intro b;simp only[List.head?_cons,Q1]at b;have:=Zj UInt8.toNat b;rw[P]at this;simp at this;omega
  ·rw[dif_neg a]
   obtain⟨d,e,f,g⟩:=c (n/10) oM;have P:(UInt8.ofNat (48+n % 10)).toNat=48+n % 10:=by rw[ZK];omega
   refine⟨by rw[fJ,d,P];omega,?_,sM,λ_=>?_⟩
   ·rw[List.all_append,e];simp[iG,P];omega
   ·rw[vS f];exact g oM
def Cp:∀{n:List UInt8},n.all iG=true->n≠[]->n.head? ≠some 48->0<eB n:=by
 intro n;generalize P:n.length=e
 induction e generalizing n with
 |zero=>intro _ f;exact Zz (QW P) f
 |succ e g=>
  intro a i b;rcases List.eq_nil_or_concat n with rfl|⟨n,c,rfl⟩
  ·cases P
  rw[List.concat_eq_append]at P a b⊢;rw[List.all_append,QK]at a;have j:48<=c.toNat/\c.toNat<=57:=by simpa[iG]using a.2
  rw[fJ]
  by_cases d:n=[]
  ·subst d
   have:c.toNat≠48:=λh=>b (by simp;exact UInt8.toNat_inj.1 h);omega
  ·have:=g (by simpa using P) a.1 d (by rwa [vS d]at b)
   omega
def DB:∀{n:List UInt8},n.all iG=true->n≠[]->(n.head? ≠some 48\/n.length=1)->Lib.decDigits (eB n)=n:=by
 intro n;generalize e:n.length=f
 induction f generalizing n with
 |zero=>intro _ i;exact Zz (QW e) i
 |succ f j=>
  intro a o b;rcases List.eq_nil_or_concat n with rfl|⟨n,P,rfl⟩
  ·cases e
  rw[List.concat_eq_append]at e a b⊢;rw[List.all_append,QK]at a;have p:48<=P.toNat/\P.toNat<=57:=by simpa[iG]using a.2
  have h:UInt8.ofNat (48+(P.toNat-48))=P:=UInt8.toNat_inj.1 (by rw[ZK];omega);rw[fJ]
  by_cases c:n=[]
  ·subst c
   have k:eB []*10+(P.toNat-48)=P.toNat-48:=by simp[eB]
   rw[k,Lib.decDigits,dif_pos oM,h]
   rfl
  ·have q:0<n.length:=List.length_pos_iff.2 c
   have g:n.length=f:=by simpa using e
   have d:n.head? ≠some 48:=by
    rcases b with b|b
    ·rwa [vS c]at b
    ·omega
   have r:=Cp a.1 c d;rw[Lib.decDigits,dif_neg oM];have l:(eB n*10+(P.toNat-48))/10=eB n:=oM
   have m:(eB n*10+(P.toNat-48)) % 10=P.toNat-48:=oM
   rw[l,m,h,j g a.1 c (.inl d)]
def xA:∀(n:List UInt8),n.all iG=true->eB n<10 ^ n.length:=by
 intro n;generalize P:n.length=b
 induction b generalizing n with
 |zero=>intro _;have:=QW P;subst this;decide
 |succ b d=>
  intro a;rcases List.eq_nil_or_concat n with rfl|⟨n,c,rfl⟩
  ·cases P
  rw[List.concat_eq_append]at P a⊢;rw[List.all_append,QK]at a;have e:48<=c.toNat/\c.toNat<=57:=by simpa[iG]using a.2
  have:=d n (by simpa using P) a.1;rw[fJ,Nat.pow_succ];omega
def vR{u:Nat}(g:u<1000000000000):(Lib.decDigits u).length<=12:=by
 rw[Lib.decDigits_length];apply Nat.le_of_not_lt;intro j
 by_cases h:u=0
 ·subst h;rw[Lib.nDigits_small oM]at j;omega
 ·have s:=Lib.lt_pow_nDigits u
  obtain⟨k,l,m,o⟩:=Co u;have i:=Lib.decDigits_length u;have key:∀(n:List UInt8),n.all iG=true->n≠[]->n.head? ≠some 48->10 ^(n.length-1)<=eB n:=by
   intro n;generalize a:n.length=P
   induction P generalizing n with
   |zero=>intro _ g;exact Zz (QW a) g
   |succ P p=>
    intro b t d;rcases List.eq_nil_or_concat n with rfl|⟨n,v,rfl⟩
    ·cases a
    rw[List.concat_eq_append]at a b d⊢;have e:=b;rw[List.all_append,QK]at b;rw[fJ]
    by_cases c:n=[]
    ·subst c
     have:=Cp e sM d;rw[fJ]at this;have q:P=0:=by simpa using a.symm
     subst q;simp at this⊢;omega
    ·have f:n.length=P:=by simpa using a
     have i:0<n.length:=List.length_pos_iff.2 c;have:=p n f b.1 c (by rwa [vS c]at d);have r:P+1-1=(P-1)+1:=oM
     rw[r,Nat.pow_succ];omega
  have:=key _ l m (o h);rw[k,i]at this;have w:10 ^ 12<=10 ^(Lib.nDigits u-1):=Nat.pow_le_pow_right oM oM;have:(10:Nat) ^ 12=1000000000000:=dC
  omega
def eA:List UInt8:=[115,101,103,46]
def aB(n:Int):List UInt8:=if n<0\/1000000000000<=n then []else eA++Lib.decDigits n.toNat
def iW(n:List UInt8):Option Nat:=if n.take 4=eA/\5<=n.length/\n.length<=16/\(n.drop 4).all iG=true/\((n.drop 4).head? ≠some 48\/n.length=5)then some (eB (n.drop 4))else none
def rf(n:0<=e)(P:e<1000000000000):aB e=eA++Lib.decDigits e.toNat:=by unfold aB;rw[Zq oM]
def LG(P:0<=e)(a:e<1000000000000):iW (aB e)=some e.toNat:=by
 rw[rf P a];obtain⟨b,c,d,f⟩:=Co e.toNat;have j:=vR (u:=e.toNat) oM;have k:0<(Lib.decDigits e.toNat).length:=List.length_pos_iff.2 d;have g:(eA++Lib.decDigits e.toNat).drop 4=Lib.decDigits e.toNat:=rfl;have h:(eA++Lib.decDigits e.toNat).take 4=eA:=rfl;have i:(eA++Lib.decDigits e.toNat).length=4+(Lib.decDigits e.toNat).length:=by rw[QX];rfl
 unfold iW;rw[g,h,i,b,Zx];refine⟨rfl,oM,oM,c,?_⟩
 by_cases n:e.toNat=0
 ·right
  rw[n,Lib.decDigits_length,Lib.nDigits_small oM]
 ·exact .inl (f n)
def BU(n:iW x=some a):aB a=x/\a<1000000000000:=by
 unfold iW at n;split at n
 ·rename_i d
  obtain⟨e,h,i,P,f⟩:=d;simp only[Q1]at n;have b:(x.drop 4).length=x.length-4:=sM
  have j:=xA _ P;have k:10 ^(x.drop 4).length<=10 ^ 12:=Nat.pow_le_pow_right oM oM;have l:(10:Nat) ^ 12=1000000000000:=dC
  have g:a<1000000000000:=oM
  refine⟨?_,g⟩;rw[rf oM oM,<-n,Qx,DB P (λc=>by rw[c]at b;simp at b;omega) (f.imp id λc=>oM),<-e,ZX]
 ·cases n
def GX(b:x.all iG=true)(c:x.length<=12):iW (eA++x)=if aB (eB x)=eA++x then some (eB x)else none:=by
 have e:=xA _ b;have f:10 ^ x.length<=10 ^ 12:=Nat.pow_le_pow_right oM c;have g:(10:Nat) ^ 12=1000000000000:=dC
 split
 ·rename_i P
  rw[<-P,LG oM oM,Qx]
 ·rename_i P
  cases n:iW (eA++x)with
  |none=>rfl
  |some d=>
   obtain⟨a,h⟩:=BU n;have:d=eB x:=by
    unfold iW at n;split at n
    ·exact(XJ n).symm
    ·cases n
   rw[this]at a;exact Zz a P
def Jt(P:x.all iG=false):iW (eA++x)=none:=by
 unfold iW;rw[Zq];rintro⟨_,_,_,n,_⟩;have:(eA++x).drop 4=x:=rfl;rw[this,P]at n
 cases n
def Ow(n:x.take 4≠eA):iW x=none:=by
 unfold iW;rw[Zq λP=>n P.1]
def LD(n:16<x.length):iW x=none:=by
 unfold iW;rw[Zq λP=>oM]
end Go.au
namespace Go.Proofs.YtjgjkeponbeekaaGreatDoor
open Go.au
end Go.Proofs.YtjgjkeponbeekaaGreatDoor
namespace Go.Proofs
open Go.RowKit Go.Maps Go.Sort Go.Shelf
def Tryz.Ua(b:Nat):AnyZ.SortsIn Tryz.prog Tryz.xR Fence.wide b:=
 ⟨λaD P n c a d e f=>callsIn_wide.2 (AnyM.slices_Sort_string Tryz.Tj aD P n c a d e f),
  λg n a=>callsIn_wide.2 (AnyM.slices_Sort_string_none Tryz.Tj g n a)⟩
end Go.Proofs
namespace Go.Proofs.YtjgjkeponbeekaaGreatDoor
section
open Go.au
open Go.RowKit Go.Maps Go.Sort Go.Shelf
def XR(n P:ByteArray):Bool:=decide (n.data.toList<=P.data.toList)
def uY(n:List ByteArray):List ByteArray:=n.mergeSort XR
def Nx(P:List ByteArray):(uY P).map (λn=>n.data.toList)=(P.map λn=>n.data.toList).mergeSort (λn a=>decide (n<=a)):=
 List.map_mergeSort (λb _ c _=>rfl)
def bK.Tk{a:Type}{n:a->Value}{b:a->Prop}{hl h1}{d:World}{D:ZN}:∀{P:List a},(∀x∈P,b x)->bK (flat 1 (λx=>[n x]) b hl h1) d D P (P.map n)
 |[],_=>rfl
 |x::P,c=>⟨[n x],P.map n,rfl,⟨rfl,c x (QV ..)⟩,bK.Tk λe f=>c e (QJ _ f)⟩
variable{f6:List (ByteArray×Value)}{a c:Nat}{C:Nat×Nat}{g:TypeId}{b:World}
def zv(i:bI b a Value.string f6)(I:∀f∈f6,f.1.size<=maxLen)(y:f6.length*16<=aK)(z:b.heap[c]? =some (.cells #[.map (some a)] g C)):
  YX 222 #[.func (.func 282) #[] #[ZL c]] b
   (Ok (oW Ny 9 b (uY (f6.map (·.1))))):=by
 unfold aK at y;obtain⟨d,h,J,p,K,L⟩:=i.at';have M:Tryz.prog.underlying 9=some .string:=Tryz.underlying9;have N:d.size=f6.length:=by have:=Zj List.length p;simpa using this
 have A:∀P∈d.toList,∃n:ByteArray,P.key=Value.string n/\n.size<=maxLen:=λP e=>by
  have O:(P.key,P.val)∈f6.map (λf=>(Value.string f.1,f.2)):=by rw[<-p];exact Xk.2 ⟨P,e,rfl⟩
  obtain⟨f,Q,R⟩:=Xk.1 O;exact⟨f.1,(Prod.mk.inj R).1.symm,I f Q⟩
 have B:∀P∈d.toList,∀n:ByteArray,P.key=Value.string n->n.size<=maxLen->WideElems.rd ZP 9 (λ_=>some ((.nil:DataW Unit),[])) P=some (.string n.data.toList,.nil):=λP _ n k m=>by
  simp[WideElems.rd,k,Go.WideMaps.keyOf_string_mk M m]
 have S:WideElems.Fit ZP 9 (λ_=>some ((.nil:DataW Unit),[])) d h:=by
  refine⟨by unfold maxLen;omega,⟨K,L,?_⟩,λP e=>?_⟩
  ·have:d.toList.map (·.key)=(f6.map (·.1)).map Value.string:=by
    have:=Zj (List.map (λs:Value×Value=>s.1)) p;simpa[Function.comp_def]using this
   rw[this];exact List.pairwise_map.2 (List.Pairwise.imp (λT=>by simpa using T) i.tidy)
  ·obtain⟨n,k,m⟩:=A P e
   exact⟨_,B P e n k m⟩
 have U:b.ownsMap ZP 9 (λ_=>some ((.nil:DataW Unit),[])) a d.size (.map ((d.toList.map (WideElems.rg ZP 9 (λ_=>some ((.nil:DataW Unit),[])))).foldr DataW.insert [])):=
  ⟨d,h,J,S,Q4 _,rfl⟩
 have E:Maps.size (.map ((d.toList.map (WideElems.rg ZP 9 (λ_=>some ((.nil:DataW Unit),[])))).foldr DataW.insert []))=f6.length:=by
  show(List.foldr DataW.insert [] _).length=_;rw[(WideShapes.sorted_perm _).length_eq];simp[N]
 have V:(strKeys (.map ((d.toList.map (WideElems.rg ZP 9 (λ_=>some ((.nil:DataW Unit),[])))).foldr DataW.insert []))).Perm ((f6.map (·.1)).map λn=>n.data.toList):=by
  refine(List.Perm.map (λf:Lit×DataW Unit=>Go.strOf f.1) (WideShapes.sorted_perm _)).trans ?_;have:(d.toList.map (WideElems.rg ZP 9 (λ_=>some ((.nil:DataW Unit),[])))).map (λf=>Go.strOf f.1)=(f6.map (·.1)).map λn=>n.data.toList:=by
   have W:d.toList.map (λP=>match P.key with| .string n=>n.data.toList|_=>[])=(f6.map (·.1)).map λn=>n.data.toList:=by
    have:=Zj (List.map (λs:Value×Value=>match s.1 with| .string n=>n.data.toList|_=>[])) p;simpa[Function.comp_def]using this
   rw[<-W,List.map_map];refine List.map_congr_left λP e=>?_;obtain⟨n,k,m⟩:=A P e;simp[WideElems.rg,B P e n k m,k,Go.strOf]
  rw[this]
 have X:SeqGives Fence.wide 1 ZP 282 #[ZL c] encStr (λl=>l.Perm (strKeys _)) (Maps.size _) b:=
  AnyZ.keys_gives (ρ:=Tryz.D_) {Tryz.sF with} Fence.wide _ trivial rfl oM c a d.size _ b (ax z) (ae z rfl) U
 have Y:=AnyZ.sorted_in Tryz.Sd Fence.wide 4 trivial trivial trivial trivial rfl oM (Tryz.Ua _) (enters_of Tryz.func281 kR rfl) 282 #[ZL c] trivial
  (enters_of Tryz.func282 kR rfl) _ _ (by rw[E];unfold maxLen;omega) (by rw[E];exact y) b X
 refine((callsIn_wide (n:=4)).1 Y).mono ?_;rintro P Z ⟨a0,l,rfl,hS,q,a7,t⟩;have F:l.mergeSort (λn u=>decide (n<=u))=(uY (f6.map (·.1))).map λn=>n.data.toList:=by rw[Nx];exact Go.mergeSort_of_perm (hS.trans V)
 have a8:l.length=(uY (f6.map (·.1))).length:=by
  have:=Zj List.length F;simpa using this
 have a1:((l.mergeSort (λn u=>decide (n<=u))).map encStr)=(uY (f6.map (·.1))).map Value.string:=by
  rw[F,List.map_map];refine List.map_congr_left λn _=>?_;show Value.string ⟨n.data.toList.toArray⟩=Value.string n;simp
 rw[a1]at q;have hv:∃o v,a0= .slice o l.length v:=by
  rcases q.2 with⟨rfl,h0⟩|⟨g',w,x,rfl,_⟩
  ·exact⟨none,0,by rw[h0]⟩
  ·exact⟨_,_,rfl⟩
 obtain⟨o,v,rfl⟩:=hv;have H:∀j,aD o=some j->b.heap.size<=j/\j<Z.heap.size:=λj r=>by
  rcases q.2 with⟨e,_⟩|⟨g',w,x,e,a9,a6,_⟩
  ·simp only[XX]at e
   rw[e.1]at r;cases r
  ·simp only[XX]at e
   rw[e.1]at r;simp only[aD,Q1]at r;have:=ax a6;omega
 exact Ok.mk ⟨o,_,v,λj=>aD o=some j,rfl,⟨⟨_,λ_=>False,⟨ownsRow_base_a q (Qj _)⟩,bK.Tk (λ_ _=>trivial),λ_ i=>i.elim⟩,λ_ i=>i,λj i=>(H j i).2⟩,ak.Hq t,λj i=>(H j i).1⟩
end
section
open Go.au
def kS:iH ZP 9 Value.string:=WT Tryz.underlying9
def mF:lW ZP 141 9 236 (.pointer none):=⟨kR,kR⟩
def uF:Tryz.prog.underlying 236=some (.pointer 239):=kR
def an.room(D:an):Int:=(D.most:Int)-D.used
def an.op(D:an)(n:an->Int×an):Int×an:=if D.dies then(15,D.gone)else n D.dT
def an.PN(P:ByteArray)(n:an->cJ->Int×an)(D:an):Int×an:=match aF D.files P with
 |none=>(14,D)
 |some a=>n D a
def an.create(D:an)(n:ByteArray):Int×an:=D.op λD=>if iv n then(if(aF D.files n).isSome then(16,D)else if 64<=D.files.length then(12,D)else(0,D.gV n ⟨[],0,false⟩))else(1,D)
def an.append(D:an)(n:ByteArray)(P:List UInt8):Int×an:=D.op (an.PN n λD a=>if(P.length:Int)>D.room then(12,D)else(0,D.gV n {a with bytes:=a.bytes++P}))
def an.sync(D:an)(n:ByteArray):Int×an:=D.op (an.PN n λD P=>(0,D.gV n (P.cut P.bytes.length)))
def an.Io(D:an)(k:ByteArray)(n:Int):Int×an:=D.op (an.PN k λD P=>(0,D.gV k (P.cut n)))
def an.delete(D:an)(n:ByteArray):Int×an:=D.op (an.PN n λD P=>(0,D.Df n))
def an.rename(D:an)(n P:ByteArray):Int×an:=D.op (an.PN n λD a=>if iv P then(0,(D.Df n).gV P {a with mB:=true})else(1,D))
def an.read(D:an)(k:ByteArray):List UInt8×Int:=if D.dead then([],15)else match aF D.files k with
 |none=>([],14)
 |some n=>(n.bytes,0)
def an.list(D:an):List ByteArray:=uY (D.files.map (·.1))
def u_(b:World)(c:Nat)(d:ZN)(n:Int×an)(e:Value)(P:World):Prop:=∃a,e= ZH n.1/\aO P c a n.2/\bB d b a P
variable{W l:Array Value}{w:ByteArray}{e:Int}{d3:Int×an}{f6 h0:List (ByteArray×Value)}{a3:List (ByteArray×ny)}{x:List UInt8}{a c i:Nat}{Y f:ZN}{d:YQ}{j:Type}{v:Value}{b k:World}{y:ZU}{a9:cJ}
def u_.same{D:an}(n:aO k a f D)(P:ak f b k):u_ b a f (e,D) (ZH e) k:=⟨f,rfl,n,P,λ_ n=>.inl n⟩
def Ml{D:an}(P:aO b a f D){g:FuncId}{body:an->Int×an}(c:enters ZP g=true)(d:D.dies=false->∀n,aO n a f D.dT->ak f b n->YX g (l++ #[]++W) n (Ok (u_ n a f (body D.dT)))):
  YX 233 #[ZL a,.func (.func g) l W] b (Ok (u_ b a f (D.op body))):=by
 refine Calls.ok (KI P (e:=(body D.dT).1) (D':=(body D.dT).2) c λe n h i o=>d e n h i) ?_;rintro p q ⟨j,k,r,m⟩;refine⟨j,?_,?_,m⟩
 ·rw[k];unfold an.op;split<;>rfl
 ·unfold an.op;split<;>simp_all
def ve{D:an}(d:aO b a f D){k:ByteArray}{g:FuncId}{body:an->cJ->Int×an}(C:enters ZP g=true)(E:D.dies=false->∀e j m n,eZ e a f D.dT j m->aF m k=some n->ak f b e->YX g (l++ #[ptr n.q]++W) e (Ok (u_ e a f (body D.dT n.f)))):
  YX 210 #[ZL a,.string k,.func (.func g) l W] b (Ok (u_ b a f (D.op (an.PN k body)))):=by
 refine zj (PA.mk λe F V z=>PA.mk λH r X I=>PA.mk λA o Y J=>?_);have s:ai b A:=(F.ah r).ah o;have K:=d.ah s;have t:=d.aC;refine⟨_,ae (o.get (r.get z id) id) rfl,PC.ok (Ml K (body:=an.PN k body) kR λL P B p=>?_) ?_⟩
 ·obtain⟨j,m,h⟩:=B.open
  have M:P.heap[b.heap.size]? =_:=p.get (o.get (r.get z id) id) (λi=>by have:=t _ i;omega);have N:P.heap[e.heap.size]? =_:=p.get (o.get I id) (λi=>by have:=t _ i;omega);have O:P.heap[H.heap.size]? =_:=p.get J (λi=>by have:=t _ i;omega);refine uQ ⟨_,ae M rfl,a,0,rfl,some j,ae h.head rfl,_,ae N rfl,?_⟩;rcases h.box k with⟨u,v⟩|⟨n,Q,Z,u,v⟩
  ·refine⟨none,λw=>?_,λq c=>?_⟩
   ·have:=dX mF kS (h.map.af (ak.drewN (S:=λ_=>False) P w) id) k false
    simpa[v]using this
   ·refine Ag uF ⟨_,rfl,al.ff rfl (Ok.mk ?_)⟩
    have:an.PN k body D.dT=(14,D.dT):=by unfold an.PN;rw[u]
    rw[this];exact u_.same (B.ah c.af) c.af
  ·refine⟨ZM n.q,λw=>?_,λq c=>?_⟩
   ·have:=dX mF kS (h.map.af (ak.drewN (S:=λ_=>False) P w) id) k false
    simpa[v,ptr]using this
   ·refine Ag uF ⟨_,rfl,al.tt rfl ⟨_,ae (c.af (S:=λ_=>False)|>.get O id) rfl,g,l,W,rfl,C,?_⟩⟩
    have R:ak f b q:=((s.af (S:=f)).then p).ah c.af;refine PC.ok (E L q j m n (h.ah c.af) Q R) ?_;rintro S w6 ⟨x,rfl,T,y⟩;have:an.PN k body D.dT=body D.dT n.f:=by unfold an.PN;rw[u]
    refine⟨_,rfl,Ok.mk ?_⟩;rw[this];exact⟨x,rfl,T,(bB.mk c.af λ_ d=>.inl d:bB f P f q).trans y⟩
 ·rintro S P ⟨x,rfl,U,y⟩
  exact⟨_,rfl,Ok.mk ⟨x,rfl,U,(bB.mk s.af λ_ d=>.inl d:bB f b f A).trans y⟩⟩
def an.Ok.set{D:an}(n:D.Ok){b P:cJ}(a:aF D.files w=some b)(c:P.bytes.length+D.used<=b.bytes.length+D.most)(d:P.synced<=P.bytes.length):(D.gV w P).Ok:=by
 have e:=bW a;refine⟨n.most,?_,?_,n.tidy.aH _ _,?_,?_,n.Bp,n.Bq⟩
 ·have:=xS (l:=D.files) (k:=w) (f:=P)
  rw[a]at this;simp only[Option.map_some,Option.getD_some]at this;show ez (aH D.files w P)<=D.most;unfold an.used at c;omega
 ·show(aH D.files w P).length<=64
  rw[xf (by rw[a];rfl)];exact n.many
 ·intro x j
  rcases fO n.tidy j with rfl|⟨j,_⟩
  ·show iv w=true
   exact n.names _ e
  ·exact n.names x j
 ·intro x j
  rcases fO n.tidy j with rfl|⟨j,_⟩
  ·exact d
  ·exact n.RG x j
def an.Ok.del{D:an}(n:D.Ok)(P:ByteArray):(D.Df P).Ok:=by
 have d:=Ip D.files P;have e:=xU (l:=D.files) (k:=P);have c:=n.fits;have f:=n.many;unfold an.used at c;exact⟨n.most,by show ez (bY D.files P)<=D.most;omega,by show(bY D.files P).length<=64;omega,n.tidy.bY P,λa b=>n.names a (gl b),λa b=>n.RG a (gl b),n.Bp,n.Bq⟩
def an.Ok.put{D:an}(n:D.Ok)(b:iv w=true)(c:a9.bytes.length+D.used<=D.most)(e:D.files.length<64)(d:a9.synced<=a9.bytes.length):(D.gV w a9).Ok:=by
 refine⟨n.most,?_,?_,n.tidy.aH _ _,?_,?_,n.Bp,n.Bq⟩
 ·have:=xS (l:=D.files) (k:=w) (f:=a9)
  show ez (aH D.files w a9)<=D.most;unfold an.used at c;omega
 ·have:=xC D.files w a9
  show(aH D.files w a9).length<=64;omega
 ·intro a P
  rcases fO n.tidy P with rfl|⟨P,_⟩
  ·exact b
  ·exact n.names a P
 ·intro a P
  rcases fO n.tidy P with rfl|⟨P,_⟩
  ·exact d
  ·exact n.RG a P
def xh{l:List (ByteArray×j)}{k:ByteArray}(n:(aF l k).isSome=true):(bY l k).length+1=l.length:=by
 induction l with
 |nil=>simp[aF]at n
 |cons P l a=>
  obtain⟨c,d⟩:=P;simp only[bY,aF]at n⊢;split
  ·rfl
  ·rename_i b
   rw[Zq b]at n;simp[a n]
def Ec(P:List (ByteArray×j))(a:ByteArray)(c b:j):aH (aH P a c) a b=aH P a b:=by
 induction P with
 |nil=>simp[aH]
 |cons d P e=>
  obtain⟨f,g⟩:=d;simp only[aH]
  by_cases n:(a==f)=true
  ·rw[Zx n,Zx n];simp[aH]
  ·rw[Zq n,Zq n];simp[aH,n,e]
def dW.Sf{G:ZN}(P:dW b a G a9)(c:∀n,dW n a G {a9 with mB:=true}->ak (·=a) b n->n.heap.size=b.heap.size->y n):PS b ⟨a,0+2,none⟩ (.bool true) y:=by
 obtain⟨i,j,d,k,l,m,o,f⟩:=P.body;refine PS.mk l sM λp g q r=>c p ⟨⟨i,j,d,k,r,m.af g (λh e s=>f (s▸e)),o,f⟩,P.self,λh e=>by have:=P.aC h e;omega⟩ g q
def an.Ok.cut{D:an}(P:D.Ok)(a:aF D.files w=some a9)(n:Int):(D.gV w (a9.cut n)).Ok:=by
 have b:=Se a9 n;have c:=xg n a9.bytes.length;have d:=P.fits;exact P.set a oM (by rw[b];exact Q4 _)
def eZ.get{D:an}(P:eZ b a f D c a3){n:ny}(d:aF a3 w=some n):aF D.files w=some n.f:=by
 rw[P.files];have:=Bs (λn:ny=>n.f) a3 w;rw[d]at this;exact this
def lO(P:Value)(c:World)(e:ai k b)(n:u_ b a f d3 P c):∃d:Int,P= ZH d/\Ok (u_ k a f d3) (.returned (ZH d)) c:=by
 obtain⟨g,rfl,h,i⟩:=n;exact⟨_,rfl,Ok.mk ⟨g,rfl,h,(bB.mk e.af λ_ n=>.inl n:bB f k f b).trans i⟩⟩
def Ed{D:an}(P:aO b a f D){k:ByteArray}:
  YX 172 #[ZL a,.string k] b (Ok (u_ b a f (D.sync k))):=by
 refine uK (PC.ok (ve P (k:=k) (g:=236) (body:=λD d=>(0,D.gV k (d.cut d.bytes.length))) kR λv w x y i n c z=>?_) λj l P=>lO j l (ak.refl b) P);have e:=n.each.each _ (bW c);have g:=n.get c;obtain⟨A,B,m,C,o,p,E,F⟩:=e.body;have q:=p.len dC;refine se ⟨i.q,0,rfl,_,_,_,ae o rfl,PC.ok (Bt e (n.ok.len (bW g))) ?_⟩;rintro _ H ⟨I,rfl,h,r⟩;rw[q]at h;obtain⟨s,t,u⟩:=n.dU c h r (n.ok.cut g _);exact⟨rfl,Ok.mk ⟨s,rfl,t.at,u⟩⟩
def PO{D:an}(P:aO b a f D):
  YX 169 #[ZL a,.string w,ZH e] b (Ok (u_ b a f (D.Io w e))):=by
 refine wP (PA.mk λu d v h=>PC.ok (ve (P.ah d) (k:=w) (g:=232) (body:=λD i=>(0,D.gV w (i.cut e))) kR λx y z A B n c j=>?_) λk l P=>lO k l d P);have m:=n.each.each _ (bW c);have g:=n.get c;refine tJ ⟨_,ae (j.get h λo=>by have:=P.aC _ o;omega) rfl,PC.ok (Bt m (n.ok.len (bW g))) ?_⟩;rintro _ C ⟨E,rfl,p,q⟩;obtain⟨r,s,t⟩:=n.dU c p q (n.ok.cut g _);exact⟨rfl,Ok.mk ⟨r,rfl,s.at,t⟩⟩
def xV{D:an}(n:aO b a f D):
  YX 141 #[ZL a,.string w] b (Ok (u_ b a f (D.delete w))):=by
 refine rX (PA.mk λx g y h=>PA.mk λz d A i=>⟨_,ae (d.get h id) rfl,_,ae i rfl,PC.ok (ve ((n.ah g).ah d) (k:=w) (g:=211) (body:=λD B=>(0,D.Df w)) kR λC m o E F p H j=>?_) λq r n=>lO q r (g.ah d) n⟩);have s:=j.get (d.get h id) λP=>by have:=n.aC _ P;omega
 have t:=j.get i λP=>by have:=n.aC _ P;omega
 refine pC λu k=>?_;have c:=p.ah k.af;have e:ai m u:=k.af;refine⟨_,ae (e.get s id) rfl,a,0,rfl,some o,ae c.head rfl,w,ae (e.get t id) rfl,KJ mF kS c.map λI v l J=>Ok.mk ⟨f,rfl,(c.drop v l (c.ok.del w)).at,?_,λ_ n=>.inl n⟩⟩;exact e.af.then (l.mono λK _ P=>by rw[P];exact c.Fr)
def Iq{D:an}(c:aO b a f D){k e:ByteArray}:
  YX 182 #[ZL a,.string k,.string e] b (Ok (u_ b a f (D.rename k e))):=by
 refine sd (PA.mk λw1 J s1 K=>PA.mk λX o s2 L=>PA.mk λw3 g s3 Y=>⟨_,ae (g.get (o.get K id) id) rfl,_,ae (g.get L id) rfl,PC.ok (ve (((c.ah J).ah o).ah g) (k:=k) (g:=242)
  (body:=λD Z=>if iv e then(0,(D.Df k).gV e {Z with mB:=true})else(1,D)) kR λhd s t b1 x d M u=>?_) λa0 w' c=>lO a0 w' ((J.ah o).ah g) c⟩)
 have h:=u.get (g.get (o.get K id) id) λn=>by have:=c.aC _ n;omega
 have v:=u.get (g.get L id) λn=>by have:=c.aC _ n;omega
 have N:=u.get Y λn=>by have:=c.aC _ n;omega
 have w:=bW M;have y:=d.get M;refine pH ⟨_,ae N rfl,PC.ok vh ?_⟩;rintro _ w5 ⟨rfl,z⟩;refine⟨_,rfl,al.not (al.mk (λp=>λw6 a6=>?_) (λp=>Ok.mk ?_))⟩
 ·have i:ai s w6:=z.ah a6.af
  have q:=d.ah i;refine⟨_,ae (i.get h id) rfl,a,0,rfl,some t,ae q.head rfl,_,ae (i.get v id) rfl,KJ mF kS q.map λw7 a7 A b8=>λB C=>?_⟩;have a8:=q.drop a7 A (q.ok.del k);have E:=a8.ah C.af;have O:∀P,P=t->f P:=λP n=>by rw[n];exact d.Fr
  have F:ak f s B:=(i.af.then (A.mono λP _ n=>O P n)).ah C.af;have Q:∀{P:Nat} {R:Obj},s.heap[P]? =some R->b.heap.size<=P->B.heap[P]? =some R:=λn b9=>F.get n λhF=>by have:=c.aC _ hF;omega
  have j:=d.Im _ w;have S:dW B (ny.q x) (ny.G x) (ny.f x):=(((d.each.each _ w).af i λ_ _ c=>c).af A λP n=>(j P n).2.2).af C.af λ_ _ c=>c;have a1:b.heap.size<=X.heap.size:=oM
  refine⟨_,ae (Q h (Q4 _)) rfl,a,0,rfl,some t,ae E.head rfl,e,ae (Q N a1) rfl,dd mF kS E.map λw9 a9 H c2=>⟨x.q,0,rfl,?_⟩⟩;have b0:=d.ok.fits;have T:=xU (l:=D.dT.files) (k:=k);rw[y]at T;simp only[Option.map_some,Option.getD_some]at T;have b6:=xh (l:=D.dT.files) (k:=k) (by rw[y];rfl);have b7:=d.ok.many;have a2:=d.ok.RG _ (bW y);have U:∀l:cJ,l.bytes=x.f.bytes->l.synced=x.f.synced->((D.dT.Df k).gV e l).Ok:=λl h v=>(d.ok.del k).put p (by
   show l.bytes.length+ez (bY D.dT.files k)<=D.dT.most;unfold an.used at b0;rw[h];omega) (by show(bY D.dT.files k).length<64;omega) (by rw[h,v];exact a2)
  have b2:=E.put (q:=x.q) (G':=x.G) a9 H S (λa3 hy c3 P n b3=>by
   obtain⟨b4,b5⟩:=Gc d.each.tidy hy;exact d.each.apart _ w a3 b4 (λI=>b5 I.symm) P n b3) (λP n=>(j P n).2) (U x.f rfl rfl)
  have V:dW w9 x.q x.G x.f:=S.af H λP n=>(j P n).2.2;refine V.Sf λc4 a4 a5 c0=>Ok.mk ?_;obtain⟨F',m,W⟩:=b2.dU (k:=e) (x:=⟨x.q,x.G,x.f⟩) (by rw[rz];simp) a4 ⟨a5.mono λP _ n=>n▸V.self,λ_ c=>.inl c⟩ (by
   unfold an.gV;simp only[Ec];exact U {x.f with mB:=true} rfl rfl)
  rw[p,Zx rfl];have I:((D.dT.Df k).gV e x.f).gV e {x.f with mB:=true}=(D.dT.Df k).gV e {x.f with mB:=true}:=by
   unfold an.gV;simp only[Ec]
  refine⟨F',rfl,by rw[<-I];exact m.at,⟨?_,λP n=>?_⟩⟩
  ·exact(F.then (H.mono λP _ n=>O P n)).then (W.af.mono λP _ n=>n.elim id λc=>(j P c).1)
  ·rcases W.new P n with(r|r)|r
   ·exact .inl r
   ·exact .inl (j P r).1
   ·have:=F.size;exact .inr oM
 ·rw[p];exact⟨f,rfl,(d.ah z).at,z.af,λ_ c=>.inl c⟩
def xW{D:an}(n:aO b a f D):
  YX 170 #[ZL a,.string w] b (Ok (u_ b a f (D.create w))):=by
 refine r_ (PA.mk λw1 H s1 I=>PA.mk λw2 m s2 N=>⟨_,ae (m.get I id) rfl,PC.ok (Ml ((n.ah H).ah m) (g:=234)
  (body:=λD=>if iv w then(if(aF D.files w).isSome then(16,D)else if 64<=D.files.length then(12,D)else(0,D.gV w ⟨[],0,false⟩))else(1,D)) kR λhd r O s=>?_) λQ R n=>lO Q R (H.ah m) n⟩)
 obtain⟨e,t,P⟩:=O.open;have u:=s.get (m.get I id) λc=>by have:=n.aC _ c;omega
 have v:=s.get N λc=>by have:=n.aC _ c;omega
 refine pG ⟨_,ae v rfl,PC.ok vh ?_⟩;rintro _ x ⟨rfl,g⟩;refine⟨_,rfl,al.not (al.mk (λh=>?_) (λh=>Ok.mk ?_))⟩
 ·have y:=P.ah g
  have J:∀k,(Instr.lookup 141 (.map (some e)) (.string w) false).run ZP (x.drewN k)= .ok ((aF (t.map dS) w).getD (.pointer none)) (x.drewN k):=λk=>by
   have:=dX mF kS (y.map.af (ak.drewN (S:=λ_=>False) x k) id) w false;simpa using this
  have S:∃i:YQ,(aF (t.map dS) w).getD (.pointer none)= .pointer i/\i.isSome=(aF D.dT.files w).isSome:=by
   rcases P.box w with⟨z,A⟩|⟨T,b0,bm,z,A⟩
   ·exact⟨none,by rw[A];rfl,by rw[z];rfl⟩
   ·exact⟨ZM T.q,by rw[A];rfl,by rw[z];rfl⟩
  obtain⟨i,U,B⟩:=S;rw[U]at J;refine⟨_,ae (g.get u id) rfl,a,0,rfl,some e,ae y.head rfl,w,ae (g.get v id) rfl,i,J,i.isSome,λk=>pO uF _ _ i _,λV C=>al.mk (λW=>Ok.mk ?_) (λK=>?_)⟩
  ·rw[h,Zx rfl,Zx (by rw[<-B];exact W)]
   exact⟨f,rfl,(y.ah C.af).at,ai.af (g.ah C.af),λ_ n=>.inl n⟩
  ·have o:ai r V:=g.ah C.af
   have E:=P.ah o;have a8:(t.map dS).length=D.dT.files.length:=by rw[P.files];simp
   refine⟨_,ae (o.get u id) rfl,a,0,rfl,some e,ae E.head rfl,Ub mF E.map ⟨_,rfl,al.dec (λa9=>Ok.mk ?_) (λb3=>λl X=>?_)⟩⟩
   ·rw[h,Zx rfl,Zq (by rw[<-B,K];simp),Zx oM]
    exact⟨f,rfl,E.at,o.af,λ_ n=>.inl n⟩
   ·have j:ai r l:=o.ah X.af
    have p:=P.ah j;have b4:=P.map.lt;have b5:=ax P.head;have a7:b.heap.size<=r.heap.size:=by have:=s.size;omega
    have L:∀d,b.heap.size<=d->d≠e:=λd c a2=>by have:=n.aC e P.Fr;omega
    refine⟨(·=e),L _ (Q4 _),_,ae (j.get u id) rfl,a,0,rfl,P.pr,some e,ae p.head rfl,L _ oM,w,ae (j.get v id) rfl,PA.mk λM q s7 Y=>⟨q.af,dd mF kS (p.ah q).map λw8 Z F b6=>⟨F,Ok.mk ?_⟩⟩⟩;have a3:=p.ah q;have a0:dW M l.heap.size (·=l.heap.size) ⟨[],0,false⟩:=⟨⟨none,0,0,λ_=>False,Y,aM.nil M,λ_ n=>n.elim,λn=>n⟩,rfl,λd c=>oM⟩
    have a4:(D.dT.gV w ⟨[],0,false⟩).Ok:=P.ok.put h (by have:=P.ok.fits;simpa using this) oM (Q4 _);have a5:=a3.put (q:=l.heap.size) (G':=(·=l.heap.size)) Z F a0 (λa1 hy _ d c a6=>by have:=(p.each.each a1 hy).aC d a6;omega) (λd c=>by have:=j.size;omega) a4;rw[h,Zx rfl,Zq (by rw[<-B,K];simp),Zq oM];refine⟨_,rfl,a5.at,⟨(j.af.ah q).then (F.mono λd _ c=>by rw[c];exact P.Fr),λd c=>c.imp id λn=>by have:=j.size;omega⟩⟩
 ·rw[h]
  exact⟨f,rfl,(P.ah g).at,g.af,λ_ n=>.inl n⟩
def gG(n:List (ByteArray×ny)):Nat:=(n.map λP=>P.2.f.bytes.length).sum
def Ee(n:List (ByteArray×ny)):gG n=ez (n.map uZ):=by unfold gG ez;rw[List.map_map];rfl
def xi{left:List (ByteArray×ny)}(c:left.map dS=f6++(w,v)::h0):
  ∃n P a,left=n++(w,P)::a/\f6=n.map dS/\h0=a.map dS/\v=ptr P.q:=by
 obtain⟨n,j,d,e,f⟩:=List.map_eq_append_iff.1 c;obtain⟨g,a,h,b,i⟩:=List.map_eq_cons_iff.1 f;obtain⟨k,P⟩:=g;simp only[dS,Prod.mk.injEq]at b;obtain⟨rfl,rfl⟩:=b;exact⟨n,P,a,by rw[d,h],e.symm,i.symm,rfl⟩
def NC{D:an}(g:aO b a f D):
  YX 239 #[ZL a] b (Ok λj h=>j= ZH D.room/\ai b h):=by
 obtain⟨k,P,c⟩:=g.open;have Q:=c.ok.most;have l:=c.ok.fits;unfold an.used at l;rw[c.files,<-Ee]at l;refine uO ⟨a,0,rfl,_,ae c.head rfl,a,0,rfl,some k,ae c.head rfl,mapRange mF c.map λR v w S=>?_⟩;refine⟨λm o h=>∃left:List (ByteArray×ny),cD h b.heap.size k Value.string (P.map dS) (left.map dS)/\m=left.length/\o=(D.most:Int)-gG P+gG left/\gG left<=gG P/\ai b h/\∀n∈left,n∈P,
  ⟨_,P,v,rfl,oM,Q4 _,w,λ_ g=>g⟩,?_⟩
 rintro m o T U ⟨left,x,rfl,rfl,V,p,q⟩;refine nz x (λy=>.inl ⟨rfl,Ok.mk ⟨?_,p⟩⟩) λi j W X r z A B C Y=>.inr ⟨_,_,rfl,qC B ?_⟩
 ·have:left=[]:=by simpa using y
  subst this;simp only[gG,List.map_nil,List.sum_nil,an.room,an.used];rw[c.files,<-Ee];simp[gG]
 ·obtain⟨e,n,d,rfl,rfl,rfl,rfl⟩:=xi z
  have E:(i,n)∈P:=q _ sM;have s:ai b r:=p.new C λd Z=>.inr oM;have F:dW r n.q n.G n.f:=(c.each.each _ E).af s λ_ _ g=>g;obtain⟨H,t,I,F0,J,K,h3,h4⟩:=F.body;have L:=K.len dC;have M:gG (e++(i,n)::d)=gG (e++d)+n.f.bytes.length:=by simp[gG];omega
  have N:ZG .i64 ((D.most:Int)-gG P+gG (e++(i,n)::d)-((t:Nat):Int))=(D.most:Int)-gG P+gG (e++d):=by
   rw[wrap_i64 bc,L,M];omega
  refine⟨_,_,rfl,n.q,0,rfl,H,t,I,ae J rfl,(e++d).length,sM,e++d,?_,rfl,N,oM,s,λO u=>q O ?_⟩
  ·rw[Q3];exact A
  ·simp only[Q6,Q2]at u⊢;exact u.imp id .inr
def xX{D:an}(h:aO b a f D)(P:Row fN 1 b Y d c x)(X:d=none->c=0/\i=0)(v:∀n,Y n->n<b.heap.size/\¬f n):
  YX 178 #[ZL a,.string w,.slice d c i] b (Ok (u_ b a f (D.append w x))):=by
 have K:=P.len;have Z:=P.ef;unfold aK at Z;refine rY (PA.mk λw1 y s1 L=>PA.mk λw2 k s2 g2=>⟨_,ae (k.get L id) rfl,PC.ok (ve ((h.ah y).ah k) (k:=w) (g:=238)
  (body:=λD M=>if(x.length:Int)>D.room then(12,D)else(0,D.gV w {M with bytes:=M.bytes++x})) kR λhd r a0 b5 e g z s=>?_) λa1 w' h=>lO a1 w' (y.ah k) h⟩)
 have e1:=s.get (k.get L id) λP=>by have:=h.aC _ P;omega
 have N:=s.get g2 λP=>by have:=h.aC _ P;omega
 have a4:Row fN 1 r Y d c x:=((P.ah y).ah k).af s λn P=>(v n P).2;have A:=g.get z;refine pD λw4 t=>⟨λ_=>False,id,d,c,i,ae (t.af (S:=λ_=>False)|>.get N id) rfl,_,ae (t.af (S:=λ_=>False)|>.get e1 id) rfl,PC.ok (NC (g.ah t.af).at) ?_⟩
 rintro _ w5 ⟨rfl,O⟩;have B:ai r w5:=(br.af t).then O;refine⟨_,rfl,O,al.dec (λa5=>Ok.mk ?_) (λa6=>λl a7=>?_)⟩
 ·rw[Zx (by rw[<-K];exact a5)]
  exact⟨f,rfl,(g.ah B).at,B.af,λ_ h=>.inl h⟩
 ·have m:ai r l:=B.ah a7.af
  have C:=g.ah m;have Q:=bW z;have E:dW l e.q e.G e.f:=C.each.each _ Q;obtain⟨u,R,fc,F0,F,o,H,S⟩:=E.body;have b6:=o.len dC;have b7:e.f.bytes.length<=262144:=g.ok.len (bW A);have a8:∀n,e.G n->f n/\n≠a/\n≠a0:=C.Im _ Q;refine⟨e.q,0,rfl,u,R,fc,ae F rfl,d,c,i,ae (m.get N id) rfl,?_⟩;have a2:∀n,Y n->n<l.heap.size/\aD u≠some n:=λn P=>⟨by have:=(v n P).1;have:=s.size;have:=m.size;omega,λj=>(v n P).2 (a8 n (H n (o.self n j))).1⟩
  have b8:D.dT.room<=262144:=by have:=g.ok.most;unfold an.room;omega
  refine zO o tg (a4.ah m) X a2 ba (by unfold maxLen;omega) λp c' w7 F' I J _ T=>?_;have hq:aD u≠some e.q:=λj=>S (o.self _ j);have b9:=ax F;have q:aD p≠some e.q:=λj=>by rcases T _ j with h|h;exact S h;omega
  refine⟨_,_,_,rfl,e.q,0,rfl,PS.mk (J.get F hq) sM λU V s8 g8=>Ok.mk ?_⟩;have W:¬((x.length:Int)>D.dT.room):=by rw[<-K];exact a6
  rw[Zq W];have a9:∀n,aD u=some n->e.G n:=λn j=>H n (o.self n j);have b0:dW U e.q (λn=>n=e.q\/aD p=some n) {e.f with bytes:=e.f.bytes++x}:=
   ⟨⟨p,R+c,c',λn=>aD p=some n,g8,I.alone.af V (λn P a3=>q (by rw[<-a3];exact P)),λn P=>.inr P,q⟩,.inl rfl,by
    rintro n (rfl|P)
    ·have:=J.size;omega
    ·have:=I.aC n (I.self n P);omega⟩
  have b1:bB e.G l (λn=>n=e.q\/aD p=some n) U:=⟨(J.mono λn _ P=>a9 n P).then (V.mono λn _ P=>P▸E.self),by
   rintro n (rfl|P)
   ·exact .inl E.self
   ·exact(T n P).imp (λh=>H n h) id⟩
  have b2:(D.dT.gV w {e.f with bytes:=e.f.bytes++x}).Ok:=g.ok.set A (by
   unfold an.room at W;simp only[QX];omega) (by have:=g.ok.RG _ (bW A);simp only[QX];show e.f.synced<=_;have h':e.f.synced<=e.f.bytes.length:=this;omega)
  obtain⟨F2,b3,b4⟩:=C.dU z b0 b1 b2;exact⟨F2,rfl,b3.at,(bB.mk m.af λ_ h=>.inl h:bB f r f l).trans b4⟩
def xj{D:an}(g:aO b a f D):
  YX 162 #[ZL a,.string w] b (Ok λl m=>∃i,l= .tuple #[i,ZH (D.read w).2]/\oW fN 5 b (D.read w).1 i m):=by
 obtain⟨j,C,P⟩:=g.open;have n:oW fN 5 b [] (.slice none 0 0) b:=⟨none,0,0,λ_=>False,rfl,aM.nil b,ak.refl _,λ_ g=>g.elim⟩
 rcases P.box w with⟨e,h⟩|⟨d,E,o,e,h⟩
 ·refine lM ⟨a,0,rfl,some j,ae P.head rfl,zQ mF kS P.map ?_⟩
  rw[h];refine⟨_,rfl,a,0,rfl,_,ae P.head rfl,al.mk (λc=>Ok.mk ?_) (λc=>fz uF ⟨_,rfl,al.tt rfl (Ok.mk ?_)⟩)⟩
  ·unfold an.read;rw[c,Zx rfl];exact⟨_,rfl,n⟩
  ·unfold an.read;rw[c,Zq sM,e];exact⟨_,rfl,n⟩
 ·refine lM ⟨a,0,rfl,some j,ae P.head rfl,zQ mF kS P.map ?_⟩
  rw[h];refine⟨_,rfl,a,0,rfl,_,ae P.head rfl,al.mk (λc=>Ok.mk ?_) (λc=>fz uF ⟨_,rfl,al.ff rfl ?_⟩)⟩
  ·unfold an.read;rw[c,Zx rfl];exact⟨_,rfl,n⟩
  ·have p:dW b d.q d.G d.f:=P.each.each _ o
   obtain⟨q,r,s,F,t,k,H,I⟩:=p.body;have J:d.f.bytes.length<=262144:=P.ok.len (bW e);refine⟨d.q,0,rfl,q,r,s,ae t rfl,PC.ok (kJ (k.row dC ba) k.aC) ?_⟩;rintro _ K ⟨u,v,x,y,rfl,z,A,B⟩;unfold an.read;rw[c,Zq sM,e];exact⟨_,_,_,rfl,Ok.mk ⟨_,rfl,u,v,x,y,rfl,z,A,B⟩⟩
def xk{D:an}(j:aO b a f D):
  YX 160 #[ZL a] b (Ok (oW Ny 9 b D.list)):=by
 obtain⟨g,h,n⟩:=j.open;have z:=n.ok.many;have A:h.length=D.files.length:=by rw[n.files];simp
 refine uL ⟨a,0,rfl,some g,ae n.head rfl,PC.ok (φ:=λk d=>k= .func (.func 282) #[] #[ZL b.heap.size]/\ai b d/\d.heap.size=b.heap.size+1/\
  d.heap[b.heap.size]? =some (.cells #[.map (some g)] 141 (0,0))) (dA (PA.mk λl P i e=>Ok.mk ⟨rfl,P,i,e⟩)) ?_⟩
 rintro _ l ⟨rfl,P,i,e⟩;refine⟨_,rfl,PC.ok (zv (n.map.ah P) (λB m=>?_) (by rw[Q8];unfold aK;omega) e) ?_⟩
 ·obtain⟨c,o,rfl⟩:=Xk.1 m
  have:=n.ok.names (uZ c) (by rw[n.files];exact Xk.2 ⟨c,o,rfl⟩);unfold iv at this;simp only[QK,Zk]at this;have C:c.1.size<=16:=this.1.2;show c.1.size<=maxLen;unfold maxLen;omega
 ·rintro _ E ⟨p,q,r,s,rfl,t,u,v⟩
  refine⟨_,_,_,rfl,Ok.mk ⟨p,q,r,s,rfl,?_,P.ah u,λw x=>by have:=v w x;omega⟩⟩;have y:uY ((h.map dS).map (·.1))=D.list:=by unfold an.list;rw[n.files,List.map_map,List.map_map];rfl
  rw[<-y];exact t
def Ir{n:List (ByteArray×j)}(P:Tidy n)(a:ByteArray):bY n a=n.filter λb=>b.1 !=a:=by
 induction n with
 |nil=>rfl
 |cons f n e=>
  obtain⟨b,k⟩:=f;unfold Tidy at P e;simp only[QY,List.nodup_cons]at P;unfold bY
  by_cases c:(a==b)=true
  ·rw[Zx c]
   have g:a=b:=eq_of_beq c;subst g;rw[List.filter_cons_of_neg sM];exact(List.filter_eq_self.2 λh i=>by
    simp only[bne_iff_ne,ne_eq];intro d;exact P.1 (d▸Xk.2 ⟨h,i,rfl⟩)).symm
  ·rw[Zq c,e P.2,List.filter_cons_of_pos]
   simp only[bne_iff_ne,ne_eq];intro d;exact c (by rw[d];simp)
def stays(left:List (ByteArray×ny))(n:ByteArray×ny):Bool:=n.2.f.mB||left.any λP=>P.1==n.1
def zy(J:bI b a Value.string (a3.map dS))(l:Eb b a3)(K:∀n∈a3,∀c,n.2.G c->c≠a):
  YX 137 #[.map (some a),.func (.func 138) #[] #[]] b
   (Ok λo h=>o= .tuple #[]/\bI h a Value.string ((a3.filter λn=>n.2.f.mB).map dS)/\ak (·=a) b h):=by
 have L:enters ZP 138=true:=kR
 refine cR (mapRange mF J λw1 M N s1=>?_);refine⟨λu h=>∃left:List (ByteArray×ny),cD h b.heap.size a Value.string ((a3.filter (stays left)).map dS) (left.map dS)/\u=left.length/\ak (·=a) b h/\(∀n∈left,n∈a3)/\Tidy left,
  ⟨_,a3,?_,rfl,N.af,λ_ O=>O,l.tidy⟩,?_⟩
 ·have i:a3.filter (stays a3)=a3:=List.filter_eq_self.2 λn m=>by
   unfold stays;rw[Bool.or_eq_true];exact .inr (List.any_eq_true.2 ⟨n,m,sM⟩)
  rw[i];exact M
 ·rintro u a0 w2 ⟨left,p,rfl,v,w,j⟩
  refine nz p (λk=>.inl ⟨rfl,Ok.mk ⟨rfl,?_,v⟩⟩) λd o l1 l2 r Q x R S s3=>.inr ⟨_,_,rfl,qC R ?_⟩
  ·have:left=[]:=by simpa using k
   subst this;have i:(a3.filter (stays []))=a3.filter λn=>n.2.f.mB:=List.filter_congr λn _=>by simp[stays]
   rw[i]at p;exact p.map
  ·obtain⟨e,n,c,rfl,rfl,rfl,rfl⟩:=xi Q
   have m:(d,n)∈a3:=w _ sM;have a6:b.heap.size≠a:=p.ne;have s:ak (·=a) b r:=v.new S λc y=>.inr oM;have T:dW r n.q n.G n.f:=(l.each _ m).af s λc y=>K _ m c y;obtain⟨fa,fn,fc,F0,q,z,h3,h4⟩:=T.body;have A:d∉(e++c).map (·.1):=by
    unfold Tidy at j;rw[Q3,QY]at j;rw[Q3];intro U;have V:=(List.perm_middle (a:=d) (l₁:=e.map (·.1)) (l₂:=c.map (·.1))).nodup_iff.1 j;exact(List.nodup_cons.1 V).1 U
   have B:∀P∈a3,P.1≠d->stays (e++(d,n)::c) P=stays (e++c) P:=λP f g=>by
    unfold stays
    congr 1
    have:(d==P.1)=false:=beq_false_of_ne (Ne.symm g);simp[List.any_append,this]
   have C:∀P∈a3,P.1=d->P=(d,n):=λP f k=>by
    have q:=qA l.tidy (k:=P.1) (v:=P.2) f;have z:=qA l.tidy (k:=d) (v:=n) m;rw[k,z]at q;exact Prod.ext k (XJ q).symm
   have W:(e++c).any (λP=>P.1==d)=false:=by
    rw[List.any_eq_false];intro P f k;exact A (Xk.2 ⟨P,f,eq_of_beq k⟩)
   have E:Tidy (e++c):=by
    unfold Tidy at j⊢;rw[Q3,QY]at j;rw[Q3];exact(List.nodup_cons.1 ((List.perm_middle (a:=d) (l₁:=e.map (·.1)) (l₂:=c.map (·.1))).nodup_iff.1 j)).2
   have F:∀P∈e++c,P∈a3:=λP f=>w P (by simp only[Q6,Q2]at f⊢;exact f.imp id .inr);have H:(e++c).length<(e++(d,n)::c).length:=sM
   refine⟨_,_,rfl,_,_,_,rfl,L,PC.ok (φ:=λo h=>o= .bool (!n.f.mB)/\h=r) (qm ⟨n.q,0,rfl,_,ae q rfl,Ok.mk ⟨rfl,rfl⟩⟩) ?_⟩;rintro _ _ ⟨rfl,rfl⟩;refine⟨_,rfl,al.not (al.mk (λt=>⟨_,H,e++c,?_,rfl,s,F,E⟩) (λt=>?_))⟩
   ·have i:a3.filter (stays (e++(d,n)::c))=a3.filter (stays (e++c)):=List.filter_congr λP f=>by
     by_cases g:P.1=d
     ·rw[C P f g];simp[stays,t]
     ·exact B P f g
    rw[Q3,<-i];exact x
   ·refine PQ mF kS x (by rw[<-Q3];simpa[dS,Function.comp_def]using A) λw4 I X s4=>⟨_,H,e++c,?_,rfl,s.then X,F,E⟩
    have i:bY ((a3.filter (stays (e++(d,n)::c))).map dS) d=(a3.filter (stays (e++c))).map dS:=by
     have Y:bY ((a3.filter (stays (e++(d,n)::c))).map dS) d=(bY (a3.filter (stays (e++(d,n)::c))) d).map dS:=(Br (λn:ny=>ptr n.q) _ d).symm;have Z:Tidy (a3.filter (stays (e++(d,n)::c))):=List.Nodup.sublist (List.Sublist.map _ List.filter_sublist) l.tidy;rw[Y,Ir Z,List.filter_filter]
     congr 1
     refine List.filter_congr λP f=>?_
     by_cases g:P.1=d
     ·rw[C P f g]
      simp only[stays,t,W,Bool.or_false,bne_self_eq_false,Bool.false_and]
     ·rw[B P f g]
      have:(P.1 !=d)=true:=by simpa using g
      rw[this,Bool.true_and]
    rw[i,<-Q3]at I;exact I
end
end Go.Proofs.YtjgjkeponbeekaaGreatDoor
namespace Go.au
open Go
def cB(n:List UInt8):ByteArray:=⟨n.toArray⟩
def vQ(n:List UInt8):(cB n).data.toList=n:=by simp[cB]
def UJ(n:ByteArray):cB n.data.toList=n:=by simp[cB]
variable{c6 x:List UInt8}{a:Nat}{T X:Operand}{h:Program}{g:TypeId}{m s:ZR}{b:World}
def SQ(n:cB x=cB c6):x=c6:=by rw[<-vQ x,n,vQ]
def iF(n:List UInt8):(cB n).size=n.length:=by simp[cB,ByteArray.size]
def mi(n:ByteArray):Int×Bool:=match iW n.data.toList with
 |some P=>(P,true)
 |none=>(0,false)
def Xg{a n:List UInt8}(c:a.length+n.length<=1000000000)(P:m (.string (cB (a++n))) b):
  aG h (do eqGuard .add g T X (.string (cB a)) (.string (cB n));binOp .add g (.string (cB a)) (.string (cB n))) b m s:=by
 refine aG.mk (v:=.string (cB a++cB n)) (w':=b) ?_ ?_
 ·rw[Sem.run_bind,show(eqGuard .add g T X (.string (cB a)) (.string (cB n))).run h b= .ok () b from rfl,Result.andThen_ok,binOp_string_add,run_string_add_sum b (cB a) (cB n) (by rw[iF,iF];omega)]
 have:cB a++cB n=cB (a++n):=by
  apply ByteArray.ext;simp[cB]
 rw[this];exact P
def ai.SR{n:Array Obj}:ai b (Sort.grow (b.drewN a) n):=
 ⟨rfl,rfl,rfl,sM,λc P _=>by rw[Sort.heap_grow_old _ _ (by simpa using P)];rfl⟩
end Go.au
namespace Go.Proofs.YtjgjkeponbeekaaGreatDoor
open Go.au
structure Laid (w:World):Prop where
 nU:qg w
 pow:Lib.TabIs ZP w "internal/strconv.uint64pow10" .u64 Lib.pow10Tab
variable{w:ByteArray}{e:Int}{c6 x:List UInt8}{b k:World}
def Laid.ah(n:Laid b)(P:ai b k):Laid k:=⟨n.nU.ah P,Lib.tabBelow_of_tabIs n.pow k P.below⟩
def strconv_Itoa{n:Int}{P:World}(c:Laid P)(a:aJ n):YX 213 #[ZH n] P (Ok λd b=>d= .string (cB (Lib.itoa n))/\ai P b):=by
 refine(Any.strconv_Itoa Tryz.Ri n a.1 a.2 P c.pow).mono ?_;rintro e b ⟨rfl,f,g,rfl⟩;exact Ok.mk ⟨rfl,ai.SR⟩
def jt(P:Laid b)(a:aJ e):YX 146 #[ZH e] b (Ok λc d=>c= .string (cB (aB e))/\ai b d):=by
 refine AY (al.dec (λn=>?_) (λg=>al.dec (λn=>?_) (λh=>PC.ok (strconv_Itoa P a) ?_)))
 ·exact Ok.mk ⟨by unfold aB;rw[Zx (.inl n)];rfl,ak.refl _⟩
 ·exact Ok.mk ⟨by unfold aB;rw[Zx (.inr n)];rfl,ak.refl _⟩
 rintro _ i ⟨rfl,f⟩;refine⟨_,rfl,Xg (a:=eA) ?_ ⟨_,rfl,Ok.mk ⟨?_,f⟩⟩⟩
 ·have:=vR (u:=e.toNat) oM
  unfold Lib.itoa;rw[Zq oM];show 4+_<=_;omega
 ·rw[rf oM oM]
  unfold Lib.itoa;rw[Zq oM]
def Cm:YX 324 #[.string (cB x),.string (cB c6)] b (Ok λa c=>a= .bool (decide (x.take c6.length=c6))/\b=c):=by
 refine gZ ?_;rw[iF,iF];refine al.dec (λn=>⟨oM,oM,Ok.mk ⟨?_,rfl⟩⟩) (λn=>Ok.mk ⟨?_,rfl⟩)
 ·rw[Qx]
  have P:ByteArray.toList (ByteArray.extract (cB x) 0 c6.length)=x.take c6.length:=by
   rw[ByteArray.toList_eq,ByteArray.data_extract];simp[cB]
  have d:ByteArray.toList (cB c6)=c6:=by rw[ByteArray.toList_eq,vQ]
  rw[P,d]
  congr 1
  by_cases n:x.take c6.length=c6<;>simp[n]
 ·have:x.take c6.length≠c6:=λP=>by have:=Zj List.length P;simp at this;omega
  rw[Xv this]
def DA:YX 224 #[.string (cB x),.string (cB c6)] b (Ok λP a=>P= .tuple (if x.take c6.length=c6 then #[.string (cB (x.drop c6.length)),.bool true]else #[.string (cB x),.bool false])/\b=a):=by
 refine sf (PC.ok (φ:=λP a=>P= .tuple (if x.take c6.length=c6 then #[.string (cB (x.drop c6.length)),.bool true]else #[.string (cB x),.bool false])/\b=a) (gX (PC.ok Cm ?_)) ?_)
 ·rintro _ _ ⟨rfl,rfl⟩
  refine⟨_,rfl,?_⟩;rw[iF,iF]
  by_cases n:x.take c6.length=c6
  ·rw[Zx n,Zy n]
   have e:c6.length<=x.length:=by have:=Zj List.length n;simp at this;omega
   refine al.ff rfl ⟨oM,oM,Ok.mk ⟨?_,rfl⟩⟩;have c:ByteArray.extract (cB x) (Int.toNat ((c6.length:Nat):Int)) x.length=cB (x.drop c6.length):=by
    apply ByteArray.ext;rw[Qx,ByteArray.data_extract];have d:List.take (x.length-c6.length) (List.drop c6.length x)=List.drop c6.length x:=Qz sM;simp[cB,d]
   rw[c]
  ·rw[Zq n,Xv n]
   exact al.tt rfl (Ok.mk ⟨rfl,rfl⟩)
 ·rintro _ _ ⟨rfl,rfl⟩
  split
  ·exact⟨_,_,rfl,Ok.mk ⟨rfl,rfl⟩⟩
  ·exact⟨_,_,rfl,Ok.mk ⟨rfl,rfl⟩⟩
def AQ(y:Laid b):YX 161 #[.string w] b (Ok λk d=>k= .tuple #[ZH (mi w).1,.bool (mi w).2]/\ai b d):=by
 rw[<-UJ w];generalize w.data.toList=e;have c:(⟨#[115,101,103,46]⟩:ByteArray)=cB eA:=rfl;unfold mi;rw[vQ];refine wO ?_;rw[c];refine PC.ok DA ?_;rintro _ _ ⟨rfl,rfl⟩;have no:∀d,iW e=none->ai b d->Ok (λk d=>k= .tuple #[ZH (match iW e with|some l=>((l:Int),true)|none=>(0,false)).1,.bool (match iW e with|some l=>((l:Int),true)|none=>(0,false)).2]/\ai b d) (.returned (.tuple #[ZH 0,.bool false])) d:=λd p z=>by
  rw[p];exact Ok.mk ⟨rfl,z⟩
 by_cases f:e.take eA.length=eA
 ·rw[Zx f]
  refine⟨_,_,rfl,al.ff rfl ?_⟩;have q:e=eA++e.drop 4:=by
   have:=ZX 4 e;rw[show e.take 4=eA from f]at this;exact this.symm
  change al (decide (((ByteArray.size (cB (e.drop 4)):Nat):Int)>12)) _ _
  generalize S:e.drop 4=P at q;subst q;rw[iF];refine al.dec (λp=>no _ (LD (by rw[QX];show 16<4+_;omega)) (ak.refl _)) (λT=>?_);refine BH Tryz.underlying9 λU A B V=>⟨λr s d=>∃n,r=P.length-n/\n<=P.length/\s=(eB (P.take n):Int)/\d.heap[b.heap.size]? =some (.stringIter (cB P) n)/\ai b d/\(P.take n).all iG=true,⟨_,0,rfl,Qj _,rfl,A,B,rfl⟩,?_⟩
  rintro r s W X ⟨n,rfl,Y,rfl,C,g,h⟩;have E:=xA _ h;refine Gs C (λF=>.inl ⟨rfl,?_⟩) λc t u i Z=>.inr ⟨_,_,rfl,?_⟩
  ·rw[iF]at F
   rw[Qz oM]at h E⊢;have a0:10 ^ P.length<=10 ^ 12:=Nat.pow_le_pow_right oM oM;have H:(10:Nat) ^ 12=1000000000000:=dC
   refine PC.ok (jt (y.ah g) bc) ?_;rintro _ t ⟨rfl,i⟩;have v:=GX h oM;refine⟨_,rfl,al.Xt (λI=>no _ ?_ (g.then i)) (λJ=>?_)⟩
   ·rw[v,Zq λK=>I (by rw[K])]
   ·rw[v,Zx (SQ J)]
    exact Ok.mk ⟨rfl,g.then i⟩
  ·have m:n<P.length:=by rwa [iF]at c
   have j:ai b t:=g.new i λa1 x=>.inr oM;have o:P[n]? =some ((cB P)[n]'c):=by
    rw[Qq m]
    congr 1
   have a:iG ((cB P)[n]'c)=false->iW (eA++P)=none:=λL=>Jt (List.all_eq_false.2 ⟨_,QZ o,by simp[L]⟩)
   by_cases x:((cB P)[n]'c).toNat<128
   ·rw[decode_ascii _ n c x]at u⊢
    simp only;refine al.dec (λM=>no _ (a ?_) j) (λN=>al.dec (λO=>no _ (a ?_) j) (λQ=>?_))
    ·unfold iG;exact Xv oM
    ·unfold iG;exact Xv oM
    ·have a2:10 ^(P.take n).length<=10 ^ 12:=Nat.pow_le_pow_right oM be
     have H:(10:Nat) ^ 12=1000000000000:=dC
     refine⟨_,oM,n+1,rfl,oM,?_,u,j,?_⟩
     ·rw[Qw,o]
      show _=((eB (P.take n++[_]):Nat):Int);rw[fJ];have R:ZG .i32 ((((cB P)[n]'c).toNat:Int)-48)=(((cB P)[n]'c).toNat:Int)-48:=by
       unfold ZG;simp[IntKind.signed,IntKind.bits];omega
      rw[R,wrap_i64 (x:=(((cB P)[n]'c).toNat:Int)-48) bc,wrap_i64 (x:=10*_) bc,wrap_i64 bc];omega
     ·rw[Qw,o,List.all_append,h]
      simp[iG];omega
   ·have hh:=(decode_high _ n c oM).1
    refine al.dec (λM=>oM) (λN=>al.dec (λO=>no _ (a ?_) j) (λQ=>oM));unfold iG;exact Xv oM
 ·rw[Zq f]
  exact⟨_,_,rfl,al.tt rfl (no _ (Ow f) (ak.refl _))⟩

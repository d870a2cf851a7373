import Derived.Test.YtjgjkeponbeekaaGreatDoorKa11
import Derived.Laws.Runes
import Derived.Lib.AppendZeros
set_option linter.all false
set_option maxHeartbeats 4000000
set_option maxRecDepth 100000
namespace Go.Proofs.YtjgjkeponbeekaaGreatDoor
open Go.ar
def eR(b:UInt8):Bool:=(97<=b&&b<=122)||(48<=b&&b<=57)||b==46
def gT(a:ByteArray):Bool:=decide (1<=a.size)&&decide (a.size<=16)&&a.data.toList.all eR
structure cH where
 bytes:List UInt8
 synced:Nat
 lO:Bool
 deriving DecidableEq
structure an where
 most:Nat
 files:List (ByteArray×cH)
 qf:Bool
 left:Int
 dead:Bool
 deriving DecidableEq
def dX(a:List (ByteArray×cH)):Nat:=(a.map λb=>b.2.bytes.length).sum
def an.used(D:an):Nat:=dX D.files
structure an.Ok (D:an):Prop where
 most:D.most<=262144
 fits:D.used<=D.most
 many:D.files.length<=64
 tidy:Tidy D.files
 names:∀x∈D.files,gT x.1=true
 Rh:∀x∈D.files,x.2.synced<=x.2.bytes.length
 AN:0<=D.left
 AO:aH D.left
variable{V n:Array Value}{I:Bool}{w:ByteArray}{f6:ByteArray×cH}{z:FuncId}{e:Int}{g8:List (ByteArray×cH)}{x:List UInt8}{a c:Nat}{f:Nat->Prop}{d:Option Addr}{J j:Type}{b8:UInt8}{b l:World}{y:World->Prop}{a6:cH}
def Kd(h:f6∈g8):f6.2.bytes.length<=dX g8:=by
 unfold dX
 induction g8 with
 |nil=>cases h
 |cons b g8 a=>
  simp only[QY,List.sum_cons];rcases Q2.1 h with rfl|h
  ·omega
  ·have:=a h;omega
def an.Ok.len{D:an}(a:D.Ok)(b:f6∈D.files):f6.2.bytes.length<=262144:=by
 have:=Kd b;have:=a.fits;have:=a.most;unfold an.used at*;omega
structure dJ (w:World) (q:Nat) (G:Nat->Prop) (f:cH):Prop where
 body:∃a n cap F,w.heap[q]? =some (.cells #[.slice a n cap,XH f.synced,.bool f.lO] 239 (0,0))/\aO fv 5 F w a n cap f.bytes/\(∀b,F b->G b)/\¬F q
 self:G q
 aB:∀b,G b->b<w.heap.size
def dJ.af{S G:Nat->Prop}(d:dJ b a G a6)(e:ak S b l)(h:∀c,G c->¬S c):dJ l a G a6:=by
 obtain⟨j,k,f,m,n,o,i,p⟩:=d.body;exact⟨⟨j,k,f,m,e.get n (h _ d.self),o.af e (λc g=>h c (i c g)),i,p⟩,d.self,λc g=>Qk (d.aB c g) e.size⟩
structure mU where
 q:Nat
 G:Nat->Prop
 f:cH
def ptr(a:Nat):Value:=ZQ a
def dF(a:ByteArray×mU):ByteArray×Value:=(a.1,ptr a.2.q)
def uB(a:ByteArray×mU):ByteArray×cH:=(a.1,a.2.f)
structure Dr (w:World) (L:List (ByteArray×mU)):Prop where
 each:∀x∈L,dJ w x.2.q x.2.G x.2.f
 apart:∀x∈L,∀y∈L,x.1≠y.1->∀b,x.2.G b->¬y.2.G b
 tidy:Tidy L
structure aN (w:World) (p:Nat) (F:Nat->Prop) (D:an):Prop where
 body:∃r L,w.heap[p]? =some (.cells #[XH D.most,.map (some r),.bool D.qf,XH D.left,.bool D.dead] 143 (0,0))/\bD w r Value.string (L.map dF)/\D.files=L.map uB/\Dr w L/\
  (∀x∈L,∀b,x.2.G b->F b/\b≠p/\b≠r)/\F r/\p≠r
 self:F p
 aB:∀b,F b->b<w.heap.size
 ok:D.Ok
variable{a1:List (ByteArray×mU)}
def Dr.af{S:Nat->Prop}(c:Dr b a1)(f:ak S b l)(g:∀a∈a1,∀d,a.2.G d->¬S d):Dr l a1:=
 ⟨λa e=>(c.each a e).af f (g a e),c.apart,c.tidy⟩
def aN.af{S f:Nat->Prop}{D:an}(d:aN b a f D)(e:ak S b l)(g:∀c,f c->¬S c):aN l a f D:=by
 obtain⟨k,m,n,o,p,q,i,j,r⟩:=d.body;exact⟨⟨k,m,e.get n (g _ d.self),o.af e (g _ j),p,q.af e (λs t c h=>g c (i s t c h).1),i,j,r⟩,d.self,λc h=>Qk (d.aB c h) e.size,d.ok⟩
def aN.ah{D:an}(c:aN b a f D)(d:ai b l):aN l a f D:=c.af d λ_ _ c=>c
def qg(c:j->J)(b:List (ByteArray×j))(d:ByteArray)(e:j):(aI b d e).map (λa=>(a.1,c a.2))=aI (b.map λa=>(a.1,c a.2)) d (c e):=by
 induction b with
 |nil=>rfl
 |cons f b g=>
  obtain⟨a,h⟩:=f;simp only[aI,QY];split
  ·rfl
  ·simp[g]
def AP(c:j->J)(b:List (ByteArray×j))(d:ByteArray):(bV b d).map (λa=>(a.1,c a.2))=bV (b.map λa=>(a.1,c a.2)) d:=by
 induction b with
 |nil=>rfl
 |cons e b f=>
  obtain⟨a,g⟩:=e;simp only[bV,QY];split
  ·rfl
  ·simp[f]
def AQ(c:j->J)(a:List (ByteArray×j))(d:ByteArray):aE (a.map λb=>(b.1,c b.2)) d=(aE a d).map c:=by
 induction a with
 |nil=>rfl
 |cons e a f=>
  obtain⟨b,g⟩:=e;simp only[aE,QY];split
  ·rfl
  ·exact f
def fw{b:List (ByteArray×j)}(e:Tidy b){c:j}{a:ByteArray×j}(h:a∈aI b w c):a=(w,c)\/(a∈b/\a.1≠w):=by
 by_cases d:a.1=w
 ·left
  have:=qh (e.aI w c) (k:=a.1) (v:=a.2) h;rw[qT,d]at this;simp at this;exact Prod.ext d this.symm
 ·rcases eM h with rfl|h
  ·exact .inl rfl
  ·exact .inr ⟨h,d⟩
def Fe{b:List (ByteArray×j)}(c:Tidy b){a:ByteArray×j}(d:a∈bV b w):a∈b/\a.1≠w:=by
 refine⟨fN d,λf=>?_⟩;have e:=qh (c.bV w) (k:=a.1) (v:=a.2) d;rw[MV c,f]at e;simp at e
def xu{l:List (ByteArray×cH)}{k:ByteArray}{f:cH}:dX (aI l k f)+((aE l k).map λa=>a.bytes.length).getD 0=dX l+f.bytes.length:=by
 unfold dX
 induction l with
 |nil=>simp[aI,aE]
 |cons b l c=>
  obtain⟨d,e⟩:=b;simp only[aI,aE];split
  ·simp;omega
  ·simp only[QY,List.sum_cons]at c⊢;omega
def xv{l:List (ByteArray×cH)}{k:ByteArray}:dX (bV l k)+((aE l k).map λa=>a.bytes.length).getD 0=dX l:=by
 unfold dX
 induction l with
 |nil=>simp[bV,aE]
 |cons b l c=>
  obtain⟨d,e⟩:=b;simp only[bV,aE];split
  ·simp;omega
  ·simp only[QY,List.sum_cons]at c⊢;omega
def wL{a:List (ByteArray×j)}{c:j}(b:(aE a w).isSome=true):(aI a w c).length=a.length:=by
 induction a with
 |nil=>simp[aE]at b
 |cons d a e=>
  obtain⟨g,h⟩:=d;simp only[aI,aE]at b⊢;split
  ·rfl
  ·rename_i f
   rw[if_neg f]at b;simp[e b]
def aN.head{D:an}(d:aN b a f D):∃c,b.heap[a]? =some (.cells #[XH D.most,.map (some c),.bool D.qf,XH D.left,.bool D.dead] 143 (0,0)):=by
 obtain⟨c,g,e,_⟩:=d.body;exact⟨c,e⟩
def aN.Ke{D c:an}(e:aN b a f D)(g:ak (·=a) b l)(m:∀d,b.heap[a]? =some (.cells #[XH D.most,.map (some d),.bool D.qf,XH D.left,.bool D.dead] 143 (0,0))->l.heap[a]? =some (.cells #[XH c.most,.map (some d),.bool c.qf,XH c.left,.bool c.dead] 143 (0,0)))(n:c.files=D.files)(o:c.Ok):aN l a f c:=by
 obtain⟨d,p,q,r,s,t,j,u,k⟩:=e.body;exact⟨⟨d,p,m d q,r.af g (λv=>k v.symm),n.trans s,t.af g (λw x h i=>(j w x h i).2.1),j,u,k⟩,e.self,λh i=>Qk (e.aB h i) g.size,o⟩
def aN.yY{D:an}(c:aN b a f D)(e:∀d,aN d a f {D with dead:=I}->ak f b d->d.heap.size=b.heap.size->y d):PS b ⟨a,0+4,none⟩ (.bool I) y:=by
 obtain⟨m,g⟩:=c.head;refine PS.mk g sM λd h j k=>e d (c.Ke h (λn i=>?_) rfl ⟨c.ok.most,c.ok.fits,c.ok.many,c.ok.tidy,c.ok.names,c.ok.Rh,c.ok.AN,c.ok.AO⟩) (h.mono λI _ l=>l▸c.self) j;rw[g]at i;cases i;exact k
def aN.Hz{D:an}(c:aN b a f D)(e:∀d,aN d a f {D with qf:=I}->ak f b d->d.heap.size=b.heap.size->y d):PS b ⟨a,0+2,none⟩ (.bool I) y:=by
 obtain⟨m,g⟩:=c.head;refine PS.mk g sM λd h j k=>e d (c.Ke h (λn i=>?_) rfl ⟨c.ok.most,c.ok.fits,c.ok.many,c.ok.tidy,c.ok.names,c.ok.Rh,c.ok.AN,c.ok.AO⟩) (h.mono λI _ l=>l▸c.self) j;rw[g]at i;cases i;exact k
def aN.LC{D:an}(c:aN b a f D)(k:0<=e)(l:aH e)(g:∀d,aN d a f {D with left:=e}->ak f b d->d.heap.size=b.heap.size->y d):PS b ⟨a,0+3,none⟩ (XH e) y:=by
 obtain⟨p,h⟩:=c.head;refine PS.mk h sM λd i m n=>g d (c.Ke i (λq j=>?_) rfl ⟨c.ok.most,c.ok.fits,c.ok.many,c.ok.tidy,c.ok.names,c.ok.Rh,k,l⟩) (i.mono λr _ o=>o▸c.self) m;rw[h]at j;cases j;exact n
def MW:Calls XP 42 #[XH e] b (Ok λf d=>
  if e<64\/e>262144 then f= .tuple #[.pointer none,XH 1]/\d=b
  else∃g h,f= .tuple #[ZQ g,XH 0]/\aN d g h ⟨e.toNat,[],false,0,false⟩/\ai b d/\∀a,h a->b.heap.size<=a):=by
 refine Hl (al.dec (λc=>?_) (λc=>al.dec (λi=>?_) (λi=>?_)))
 ·exact Ok.mk (by rw[if_pos (.inl c)];exact⟨rfl,rfl⟩)
 ·exact Ok.mk (by rw[if_pos (.inr i)];exact⟨rfl,rfl⟩)
 ·refine PA.mk λk l p m=>PA.mk λn j q o=>Ok.mk ?_
  rw[if_neg oM];refine⟨k.heap.size,λa=>b.heap.size<=a/\a<n.heap.size,rfl,⟨⟨b.heap.size,[],?_,bD.new (j.get m id),rfl,⟨sM,sM,by simp[Tidy]⟩,sM,oM,oM⟩,oM,λa c=>c.2,?_⟩,l.ah j,λa c=>c.1⟩
  ·rw[o]
   have:((e.toNat:Nat):Int)=e:=oM
   rw[this]
  ·exact⟨by show e.toNat<=_;omega,by simp[an.used,dX],by simp,by simp[Tidy],by simp,by simp,by simp,by unfold aH;simp⟩
def an.OT(D:an)(a:Int):an:={D with qf:=true,left:=max a 0}
def MX{D:an}(m:aH e)(c:aN b a f D):Calls XP 91 #[ZQ a,XH e] b (Ok λh d=>h= .tuple #[]/\aN d a f (D.OT e)/\bK f b f d):=by
 have i:(if e>0 then e else 0)=max e 0:=oM
 refine tZ ⟨a,0,rfl,c.Hz λn j k o=>⟨a,0,rfl,j.LC oM (by unfold aH at*;omega) λp g l q=>Ok.mk ⟨rfl,?_,k.then l,λ_ c=>.inl c⟩⟩⟩;rw[i]at g;exact g
def an.dies(D:an):Bool:=D.dead||(D.qf&&D.left==0)
def an.dG(D:an):an:=if D.qf then{D with left:=D.left-1}else D
def an.gone(D:an):an:={D with dead:=true}
def Kf{D:an}(m:aN b a f D){e:Int}{D':an}(B:enters XP z=true)(F:D.dies=false->∀c,aN c a f D.dG->ak f b c->c.heap.size=b.heap.size->Calls XP z (n++ #[]++V) c (Ok λi g=>∃h,i= XH e/\aN g a h D'/\bK f c h g)):
  Calls XP 233 #[ZQ a,.func (.func z) n V] b (Ok λi g=>∃h,i= XH (if D.dies then 15 else e)/\aN g a h (if D.dies then D.gone else D')/\bK f b h g):=by
 obtain⟨M,w⟩:=m.head;have o:∀c,D.dies=true->aN c a f {D with dead:=true}->ak f b c->Ok (λi g=>∃h,i= XH (if D.dies then 15 else e)/\aN g a h (if D.dies then D.gone else D')/\bK f b h g) (.returned (XH 15)) c:=
  λc j d H=>Ok.mk ⟨f,by rw[j];rfl,by rw[j];exact d,H,λ_ m=>.inl m⟩
 refine tj ⟨λc=>aN c a f D/\ak f b c/\c.heap.size=b.heap.size/\D.dies=false,?_,?_⟩
 ·refine⟨a,0,rfl,_,ae w rfl,al.mk (λj=>⟨a,0,rfl,m.yY λc d k r=>?_⟩) (λj=>⟨a,0,rfl,_,ae w rfl,al.mk (λp=>⟨a,0,rfl,_,ae w rfl,a,0,rfl,m.yY λc d k r=>?_⟩) (λp=>⟨a,0,rfl,m.yY λc d k r=>?_⟩)⟩)⟩
  ·obtain⟨x,q⟩:=d.head
   exact⟨a,0,rfl,true,ae q rfl,o c (by simp[an.dies,j]) d k⟩
  ·obtain⟨x,q⟩:=d.head
   refine⟨a,0,rfl,D.left==0,ae q rfl,al.mk (λs=>o c (by unfold an.dies;rw[p,s];simp) (by rw[s]at d;exact d) k) (λs=>⟨?_,k,r,by unfold an.dies;rw[j,s];simp⟩)⟩;have:({D with dead:=D.left==0}:an)=D:=by rw[s,<-j]
   rw[this]at d;exact d
  ·obtain⟨x,q⟩:=d.head
   refine⟨a,0,rfl,false,ae q rfl,?_,k,r,by simp[an.dies,j,p]⟩;have:({D with dead:=false}:an)=D:=by rw[<-j]
   rw[this]at d;exact d
 ·rintro N c ⟨d,k,r,u⟩
  obtain⟨x,q⟩:=d.head;have t:∀l,aN l a f D.dG->ak f b l->l.heap.size=b.heap.size->PC XP z (n++ #[]++V) l (λi g=>∃C:Int,i= XH C/\Ok (λi g=>∃h,i= XH (if D.dies then 15 else e)/\aN g a h (if D.dies then D.gone else D')/\bK f b h g) (.returned (XH C)) g)
    (λI g=>Ok (λi g=>∃h,i= XH (if D.dies then 15 else e)/\aN g a h (if D.dies then D.gone else D')/\bK f b h g) (.panicked I) g):=by
   intro l y v A;refine PC.ok (F u l y v A) ?_;rintro _ O ⟨h,rfl,J,K⟩;exact⟨e,rfl,Ok.mk ⟨h,by rw[u];rfl,by rw[u];exact J,(bK.mk v λ_ m=>.inl m:bK f b f l).trans K⟩⟩
  refine⟨a,0,rfl,_,ae q rfl,al.mk (λp=>?_) (λp=>?_)⟩
  ·have P:D.left≠0:=by
    intro E;simp[an.dies,p,E]at u
   have E:=d.ok.AN;have Q:=d.ok.AO;have L:IntKind.wrap .i64 (D.left-1)=D.left-1:=wrap_i64 (by unfold aH at*;omega);refine⟨a,0,rfl,_,ae q rfl,a,0,rfl,?_⟩;rw[L];refine d.LC oM (by unfold aH at*;omega) λl y v A=>⟨z,n,V,rfl,B,t l ?_ (k.then v) (A.trans r)⟩
   unfold an.dG;rw[if_pos p];exact y
  ·refine⟨z,n,V,rfl,B,t c ?_ k r⟩
   unfold an.dG;rw[if_neg (by simp[p])];exact d
def cs:ByteArray:=⟨#[97,98,99,100,101,102,103,104,105,106,107,108,109,110,111,112,113,114,115,116,117,118,119,120,121,122,48,49,50,51,52,53,54,55,56,57,46]⟩
def PL:∀a:UInt8,decide (0<=Lib.indexByte cs.data.toList a)=eR a:=by
 have c:(List.range 256).all (λb=>decide (0<=Lib.indexByte cs.data.toList (UInt8.ofNat b))==eR (UInt8.ofNat b))=true:=by decide+kernel
 intro a;have:=List.all_eq_true.1 c a.toNat (List.mem_range.2 a.toNat_lt);simpa using this
def RV(c:128<=b8.toNat):eR b8=false:=by
 have a:(List.range 128).all (λb=>eR (UInt8.ofNat (128+b))==false)=true:=by decide+kernel
 have:=List.all_eq_true.1 a (b8.toNat-128) (List.mem_range.2 (by have:=b8.toNat_lt;omega));rw[show 128+(b8.toNat-128)=b8.toNat by omega]at this;simpa using this
def A_:∀a∈cs.data.toList,a.toNat<128:=by decide+kernel
def RW:cs.size=37:=by decide+kernel
def strings_IndexByte{a:ByteArray}{b:Int}{c:World}:Calls XP 358 #[.string a,.int .u8 b] c (Ok λe d=>e= XH (Lib.indexByte a.data.toList b.toNat.toUInt8)/\c=d):=
 (Any.strings_IndexByte Tryz.RX a b c).mono λh d ⟨f,g⟩=>⟨_,f,rfl,g.symm⟩
def Ba:Calls XP 359 #[.int .i32 e] b (Ok λf g=>f= .bool (Utf8.valid e)/\b=g):=by
 have d:=validRune_eq e;unfold validRune at d;refine lK (al.dec (λh=>al.dec (λi=>?_) (λi=>al.dec (λa=>al.dec (λc=>?_) (λc=>?_)) (λa=>?_))) (λh=>al.dec (λa=>al.dec (λc=>?_) (λc=>?_)) (λa=>?_)))
 all_goals
  refine Ok.mk ⟨?_,rfl⟩;rw[d]
  congr 1
  simp;omega
def qq(b:a<w.size):w[a]? =some (w[a]'b):=by simp[b]
def sg:∀{l:List UInt8} {a:UInt8},(∀b∈l,b≠a)->Lib.indexByte l a= -1
 |[],_,_=>rfl
 |b::l,a,c=>by
  have d:(b==a)=false:=beq_false_of_ne (c b (QV ..));have e:=sg (l:=l) λf g=>c f (QJ _ g);unfold Lib.indexByte;rw[d,e];rfl
def qs(y:0<=e):
  Calls XP 326 #[.string cs,.int .i32 e] b (Ok λi a=>(∃d:Int,i= XH d/\decide (d>=0)=(decide (e<128)&&eR e.toNat.toUInt8))/\ai b a):=by
 refine rq ⟨λj a=>j=decide (e<128)/\a=b,al.dec (λ_=>⟨rfl,rfl⟩) (λg=>absurd y g),?_⟩;rintro Q p h ⟨rfl,rfl⟩;refine al.dec (λg=>PC.ok strings_IndexByte ?_) (λg=>al.dA (λz=>?_) (λz=>PC.ok Ba ?_))
 ·rintro _ _ ⟨rfl,rfl⟩
  refine⟨_,rfl,Ok.mk ⟨⟨_,rfl,?_⟩,ak.refl _⟩⟩;have A:IntKind.wrap .u8 e=e:=by
   unfold IntKind.wrap;simp[IntKind.signed,IntKind.bits];omega
  rw[A,decide_eq_true g,Bool.true_and];exact PL _
 ·have no:∀a,ai h a->Ok (λi a=>(∃d:Int,i= XH d/\decide (d>=0)=(decide (e<128)&&eR e.toNat.toUInt8))/\ai h a) (.returned (XH (-1))) a:=λa q=>
   Ok.mk ⟨⟨_,rfl,by rw[Xv g];rfl⟩,q⟩
  refine Bb Tryz.underlying9 λB C r R=>⟨λk a=>∃c,k=cs.size-c/\a.heap[h.heap.size]? =some (.stringIter cs c)/\ai h a,⟨_,0,rfl,C,r⟩,?_⟩
  rintro k p s ⟨c,rfl,E,t⟩;refine FC E (λ_=>.inl ⟨rfl,no s t⟩) λl F u H S=>.inr ⟨_,_,rfl,?_⟩;have m:(cs[c]'l).toNat<128:=A_ _ (by rw[show cs[c]'l=cs.data.toList[c]'(by simpa using l)from by simp;rfl];exact XY _);have I:=decode_ascii cs c l m;rw[I]at u⊢;refine al.dA (λg=>oM) (λ_=>⟨_,?_,c+1,rfl,u,t.new H λj m=>.inr oM⟩);omega
 ·have no:∀a,ai h a->Ok (λi a=>(∃d:Int,i= XH d/\decide (d>=0)=(decide (e<128)&&eR e.toNat.toUInt8))/\ai h a) (.returned (XH (-1))) a:=λa q=>
   Ok.mk ⟨⟨_,rfl,by rw[Xv g];rfl⟩,q⟩
  rintro _ _ ⟨rfl,rfl⟩;refine⟨_,rfl,al.not (al.mk (λJ=>?_) (λ_=>no _ (ak.refl _)))⟩;obtain⟨K,L,v⟩:=encode_facts e J oM;refine aG.mk (run_convert_int_string h _ _ .i32 e kR Tryz.underlying9) ⟨_,rfl,?_⟩;generalize Utf8.encode e=f at K L v⊢;have M:IntKind.wrap .i64 (((f.size:Nat):Int)-1)=((f.size-1:Nat):Int):=by rw[wrap_i64 (by unfold aH;omega)];omega
  rw[M];refine⟨λk d a=>d=((f.size-1:Nat):Int)/\ai h a,⟨0,rfl,ak.refl _⟩,?_⟩;rintro k d p B ⟨rfl,r⟩;have T:=RW;have n:f.size-1<f.size:=oM
  have o:f.size-1<cs.size:=oM
  have U:=v n;have V:(cs[f.size-1]'o).toNat<128:=A_ _ (by rw[show cs[f.size-1]'o=cs.data.toList[f.size-1]'(by simpa using o)from by simp;rfl];exact XY _);refine al.dec (λW=>⟨λ_ _=>False,?_,λd p b g=>g.elim⟩) (λX=>oM);simp only[Qx];rw[aq oM];refine⟨oM,_,qq o,oM,_,qq n,λs N=>al.dB (λ_=>λF O=>⟨oM,oM,oM,_,qq n,PC.ok strings_IndexByte ?_⟩) (λw=>oM)⟩;rintro _ _ ⟨rfl,rfl⟩;have P:Lib.indexByte (cs.extract (Int.toNat ((f.size-1+1:Nat):Int)) cs.size).data.toList ((((f[f.size-1]'n).toNat:Nat):Int).toNat.toUInt8)= -1:=by
   refine sg λj m w=>?_;have x:=A_ j (mem_extract m);rw[w]at x;simp at x;omega
  refine⟨_,rfl,al.dec (λ_=>no _ ((r.ah N.af).ah O.af)) (λg=>?_)⟩;rw[P]at g;omega
def Bc(f:0<=e):
  Calls XP 289 #[.int .i32 e] b (Ok λa c=>a= .bool (!(decide (e<128)&&eR e.toNat.toUInt8))/\ai b c):=by
 refine wB (PC.ok (φ:=λa c=>a= .bool (decide (e<128)&&eR e.toNat.toUInt8)/\ai b c) (nI (PC.ok (qs f) ?_)) ?_)
 ·rintro _ g ⟨⟨h,rfl,i⟩,d⟩
  exact⟨h,rfl,Ok.mk ⟨by rw[i],d⟩⟩
 ·rintro _ g ⟨rfl,d⟩
  exact⟨_,rfl,Ok.mk ⟨rfl,d⟩⟩
def kO:
  Calls XP 291 #[.string w,.func (.func 289) #[] #[]] b (Ok λg f=>g= .bool (!w.data.toList.all eR)/\ai b f):=by
 have u:enters XP 289=true:=kR
 refine nJ (PC.ok (φ:=λg f=>(∃d:Int,g= XH d/\decide (d>=0)= !w.data.toList.all eR)/\ai b f) (rH (PC.ok (φ:=λg f=>(∃d:Int,g= XH d/\decide (d>=0)= !w.data.toList.all eR)/\ai b f) (rJ ?_) ?_)) ?_)
 ·refine Bb Tryz.underlying9 λF v x H=>⟨λp f=>∃a,p=w.size-a/\a<=w.size/\f.heap[b.heap.size]? =some (.stringIter w a)/\ai b f/\(∀i∈w.data.toList.take a,eR i=true),⟨_,0,rfl,Qj _,v,x,sM⟩,?_⟩
  rintro p I J ⟨a,rfl,K,y,q,j⟩;refine FC y (λz=>.inl ⟨rfl,Ok.mk ⟨⟨_,rfl,?_⟩,q⟩⟩) λe A r B L=>.inr ⟨_,_,rfl,_,_,_,rfl,u,?_⟩
  ·rw[Qz (by simpa using z)]at j
   have:w.data.toList.all eR=true:=List.all_eq_true.2 j;rw[this];rfl
  ·have s:ai b A:=q.new B λi c=>.inr oM
   have t:w.data.toList[a]? =some (w[a]'e):=by
    rw[Qq (by simpa using e)];simp;rfl
   refine PC.ok (Bc (Int.natCast_nonneg _)) ?_;rintro _ M ⟨rfl,k⟩;refine⟨_,rfl,al.mk (λl=>?_) (λh=>?_)⟩
   ·
    refine Ok.mk ⟨⟨_,rfl,?_⟩,s.ah k⟩;have m:eR (w[a]'e)=false:=by
     by_cases c:(w[a]'e).toNat<128
     ·rw[decode_ascii w a e c]at l
      simp at l;exact l.resolve_left oM
     ·exact RV oM
    have:w.data.toList.all eR=false:=List.all_eq_false.2 ⟨_,QZ t,by simp[m]⟩;rw[this];simp
   ·have c:(w[a]'e).toNat<128:=by
     by_cases c:(w[a]'e).toNat<128
     ·exact c
     ·have N:=(decode_high w a e oM).1
      have C:¬(((Utf8.decode w a).1:Int)<128):=oM
      rw[Xv C]at h;simp at h
    rw[decode_ascii w a e c]at r h;have m:eR (w[a]'e)=true:=by
     simp at h;exact h.2
    refine⟨_,?_,a+1,rfl,oM,k.get r id,s.ah k,λi c=>?_⟩
    ·omega
    ·rw[Qw,t]at c
     rcases Q6.1 c with c|c
     ·exact j i c
     ·simp at c;rw[c];exact m
 ·rintro _ E ⟨⟨d,rfl,n⟩,o⟩
  exact⟨d,rfl,Ok.mk ⟨⟨d,rfl,n⟩,o⟩⟩
 ·rintro _ E ⟨⟨d,rfl,n⟩,o⟩
  exact⟨d,rfl,Ok.mk ⟨by rw[n],o⟩⟩
def uG:Calls XP 235 #[.string w] b (Ok λc d=>c= .bool (gT w)/\ai b d):=by
 refine As (al.WX (λa=>al.dec (λe=>PC.ok kO ?_) (λe=>Ok.mk ⟨?_,ak.refl _⟩)) (λa=>Ok.mk ⟨?_,ak.refl _⟩))
 ·rintro _ i ⟨rfl,f⟩
  refine⟨_,rfl,Ok.mk ⟨?_,f⟩⟩;have g:1<=w.size:=by
   by_cases h:w.size=0
   ·exact absurd (ByteArray.ext (Array.eq_empty_of_size_eq_zero h)) a
   ·omega
  unfold gT;rw[decide_eq_true g,decide_eq_true (show w.size<=16 by omega)];simp
 ·unfold gT
  rw[Xv (show¬w.size<=16 by omega)];simp
 ·subst a;rfl
def kf{D:Nat->Prop}(h:Row fv 1 b D d a x)(i:∀e,D e->e<b.heap.size):
  Calls XP 207 #[.slice d a c] b (Ok (py fv 5 b x)):=by
 have y:=h.len;have f:=h.dN;refine lJ (jJ sK.under ⟨_,rfl,al.mk (λg=>?_) (λg=>PA.mk λl j z m=>?_)⟩)
 ·have:x=[]:=by
   cases d with
   |none=>
    cases x with
    |nil=>rfl
    |cons n A=>obtain⟨e,o,B,p,_⟩:=h.el 0 n rfl;cases p
   |some q=>cases g
  subst this;exact Ok.mk ⟨none,0,0,λ_=>False,rfl,aO.nil b,ak.refl _,λ_ h=>h.elim⟩
 ·cases d with
  |none=>cases g
  |some q=>
   have r:aO fv 5 (·=b.heap.size) l (ZX b.heap.size) 0 0 []:=
    ⟨⟨[],λ_=>False,Own.zz (cur:= #[]) m rfl (Qj _),rfl,λ_ h=>h.elim⟩,λe f=>by simpa[aF]using f.symm,λe f=>oM⟩
   refine kh r sK (D:=D) (h.ah j) (λe f=>⟨by have:=i e f;omega,by have:=i e f;simp only[aF];intro s;cases s;omega⟩) (by simp;omega) (by unfold aK at f;unfold maxLen;simp;omega) λk t C E u v _ w=>?_;refine⟨_,_,_,rfl,Ok.mk ⟨k,_,t,λe=>aF k=some e,rfl,by have h:=u.alone;rw[List.nil_append]at h;exact h,j.new v λe f=>.inr ?_,λe f=>?_⟩⟩
   ·simp only[aF,Q1]at f;omega
   ·rcases w e f with h|h<;>omega
def nN(a:Int)(b:Nat):Nat:=(max 0 (min a b)).toNat
def wM(b:Int)(a:Nat):nN b a<=a:=by unfold nN;omega
def cH.cut(a:cH)(b:Int):cH:=⟨a.bytes.take (nN b a.bytes.length),nN b a.bytes.length,true⟩
def RI(a:cH)(b:Int):(a.cut b).bytes.length=nN b a.bytes.length:=by
 have:=wM b a.bytes.length;simp[cH.cut];omega
def AR{G:Nat->Prop}(j:dJ b a G a6)(d:a6.bytes.length<=262144):
  Calls XP 139 #[ZQ a,XH e] b (Ok λz q=>∃r,z= .tuple #[]/\dJ q a r (a6.cut e)/\bK G b r q):=by
 obtain⟨s,f,k,A,B,h,R,S⟩:=j.body;have C:f=a6.bytes.length:=h.len dC;have T:=h.jT;refine ur λl E=>?_;have g:ai b l:=E.af;have i:=g.get B id;have U:=wM e a6.bytes.length;have F:(if(if((f:Nat):Int)<e then((f:Nat):Int)else e)>0 then(if((f:Nat):Int)<e then((f:Nat):Int)else e)else 0)=((nN e a6.bytes.length:Nat):Int):=by
  unfold nN;rw[C];omega
 refine⟨a,0,rfl,_,_,_,ae i rfl,a,0,rfl,s,f,k,ae i rfl,?_⟩;rw[F];refine⟨oM,oM,?_⟩;rw[Qx];have H:Row fv 1 l A s f a6.bytes:=(h.row dC (by unfold aK;omega)).ah g;refine PC.ok (kf (H.take (m:=nN e a6.bytes.length) oM) (λc d=>Qk (h.aB c d) g.size)) ?_;rintro _ I ⟨t,m,u,n,rfl,o,p,v⟩;have J:m=nN e a6.bytes.length:=by have:=o.len dC;rw[this];simp;omega
 have V:a<l.heap.size:=ax i;refine⟨_,_,_,rfl,a,0,rfl,PS.mk (p.get i id) sM λW K X w=>⟨a,0,rfl,t,m,u,ae w rfl,a,0,rfl,PS.mk w sM λY L Z M=>⟨a,0,rfl,PS.mk M sM λN O s5 P=>Ok.mk ?_⟩⟩⟩;have x:ak (·=a) I N:=(K.then L).then O;have y:∀c,n c->c≠a:=λc d=>by have:=v c d;omega
 refine⟨λc=>c=a\/n c,rfl,⟨⟨t,m,u,n,?_,o.af x y,λc d=>.inr d,λQ=>y a Q rfl⟩,.inl rfl,?_⟩,⟨((ai.af g).then (ai.af p)).then (x.mono λc _ d=>by rw[d];exact j.self),?_⟩⟩
 ·rw[P]
  subst J
  rfl
 ·rintro c (rfl|d)
  ·have:=p.size;omega
  ·have:=o.aB c d;omega
 ·rintro c (rfl|d)
  ·exact .inl j.self
  ·have:=v c d;have:=g.size;exact .inr oM
structure eI (w:World) (p:Nat) (F:Nat->Prop) (D:an) (r:Nat) (L:List (ByteArray×mU)):Prop where
 head:w.heap[p]? =some (.cells #[XH D.most,.map (some r),.bool D.qf,XH D.left,.bool D.dead] 143 (0,0))
 map:bD w r Value.string (L.map dF)
 files:D.files=L.map uB
 each:Dr w L
 HA:∀x∈L,∀b,x.2.G b->F b/\b≠p/\b≠r
 Fr:F r
 pr:p≠r
 self:F p
 aB:∀b,F b->b<w.heap.size
 ok:D.Ok
def aN.open{D:an}(c:aN b a f D):∃d e,eI b a f D d e:=by
 obtain⟨d,e,g,h,i,j,k,l,m⟩:=c.body;exact⟨d,e,g,h,i,j,k,l,m,c.self,c.aB,c.ok⟩
def eI.at{D:an}(d:eI b a f D c a1):aN b a f D:=
 ⟨⟨c,a1,d.head,d.map,d.files,d.each,d.HA,d.Fr,d.pr⟩,d.self,d.aB,d.ok⟩
def eI.af{S g:Nat->Prop}{D:an}(d:eI b a g D c a1)(f:ak S b l)(h:∀e,g e->¬S e):eI l a g D c a1:=
 ⟨f.get d.head (h _ d.self),d.map.af f (h _ d.Fr),d.files,d.each.af f (λj k e i=>h e (d.HA j k e i).1),d.HA,d.Fr,d.pr,d.self,λe i=>Qk (d.aB e i) f.size,d.ok⟩
def eI.ah{D:an}(d:eI b a f D c a1)(e:ai b l):eI l a f D c a1:=d.af e λ_ _ d=>d
def eI.box{D:an}(j:eI b a f D c a1)(e:ByteArray):
  (aE D.files e=none/\aE (a1.map dF) e=none)\/∃d,aE a1 e=some d/\(e,d)∈a1/\aE D.files e=some d.f/\aE (a1.map dF) e=some (ptr d.q):=by
 have g:aE (a1.map dF) e=(aE a1 e).map λd=>ptr d.q:=AQ (λd:mU=>ptr d.q) a1 e;have h:aE D.files e=(aE a1 e).map λd=>d.f:=by rw[j.files];exact AQ (λd:mU=>d.f) a1 e
 cases i:aE a1 e with
 |none=>rw[i]at g h;exact .inl ⟨h,g⟩
 |some d=>rw[i]at g h;exact .inr ⟨d,rfl,bS i,h,g⟩
def an.gy(D:an)(a:ByteArray)(b:cH):an:={D with files:=aI D.files a b}
def an.Cw(D:an)(a:ByteArray):an:={D with files:=bV D.files a}
def qi{l:List (ByteArray×j)}{k:ByteArray}{v:j}(h:(k,v)∈l)(a:Tidy l):aI l k v=l:=by
 induction l with
 |nil=>cases h
 |cons b l c=>
  obtain⟨d,f⟩:=b;unfold aI;unfold Tidy at a;simp only[QY,List.nodup_cons]at a;rcases Q2.1 h with h|h
  ·cases h;simp
  ·have:(k==d)=false:=beq_false_of_ne λe=>a.1 (Xk.2 ⟨(k,v),h,e⟩)
   rw[if_neg (by simp[this]),c h a.2]
def eI.d_{j w':World}{o G':Nat->Prop}{D:an}(e:eI j a o D c a1){k:ByteArray}{x:mU}(w:aE a1 k=some x)(u:dJ w' x.q G' a6)(i:bK x.G j G' w')(y:(D.gy k a6).Ok):∃v,eI w' a v (D.gy k a6) c (aI a1 k ⟨x.q,G',a6⟩)/\bK o j v w':=by
 have l:=bS w;have m:=e.HA _ l;have z:ak o j w':=i.af.mono λb _ d=>(m b d).1;have p:∀f∈aI a1 k ⟨x.q,G',a6⟩,f=(k,⟨x.q,G',a6⟩)\/(f∈a1/\f.1≠k):=λf g=>fw e.each.tidy g;refine⟨λb=>o b\/(j.heap.size<=b/\b<w'.heap.size),⟨i.af.get e.head λd=>(m _ d).2.1 rfl,?_,?_,⟨?_,?_,e.each.tidy.aI _ _⟩,?_,.inl e.Fr,e.pr,.inl e.self,?_,y⟩,z,λb d=>d.imp id (·.1)⟩
 ·have A:(aI a1 k ⟨x.q,G',a6⟩).map dF=a1.map dF:=by
   have h:(aI a1 k ⟨x.q,G',a6⟩).map dF=aI (a1.map dF) k (ptr x.q):=qg (λx:mU=>ptr x.q) a1 k _;rw[h];have B:Tidy (a1.map dF):=e.map.tidy;exact qi (Xk.2 ⟨_,l,rfl⟩) B
  rw[A];exact e.map.af i.af λd=>(m _ d).2.2 rfl
 ·have h:(aI a1 k ⟨x.q,G',a6⟩).map uB=aI (a1.map uB) k a6:=qg (λx:mU=>x.f) a1 k _
  rw[h,<-e.files];rfl
 ·intro f g
  rcases p f g with rfl|⟨g,t⟩
  ·exact u
  ·exact(e.each.each f g).af i.af λb d=>e.each.apart f g _ l t b d
 ·intro f g q n r b d s
  rcases p f g with rfl|⟨g,t⟩<;>rcases p q n with rfl|⟨n,C⟩
  ·exact r rfl
  ·rcases i.new b d with h|h
   ·exact e.each.apart _ l q n r b h s
   ·have:=(e.each.each q n).aB b s;omega
  ·rcases i.new b s with h|h
   ·exact e.each.apart f g _ l r b d h
   ·have:=(e.each.each f g).aB b d;omega
  ·exact e.each.apart f g q n r b d s
 ·intro f g b d
  rcases p f g with rfl|⟨g,t⟩
  ·have E:=ax e.head
   have F:=e.map.lt;rcases i.new b d with h|h
   ·exact⟨.inl (m b h).1,(m b h).2⟩
   ·exact⟨.inr ⟨h,u.aB b d⟩,oM,oM⟩
  ·exact⟨.inl (e.HA f g b d).1,(e.HA f g b d).2⟩
 ·rintro b (d|d)
  ·exact Qk (e.aB b d) i.af.size
  ·exact d.2
def eI.drop{D:an}(e:eI b a f D c a1)(p:bD l c Value.string (bV (a1.map dF) w))(j:ak (·=c) b l)(q:(D.Cw w).Ok):eI l a f (D.Cw w) c (bV a1 w):=by
 have h:∀d∈bV a1 w,d∈a1:=λd g=>fN g;refine⟨j.get e.head (λi=>e.pr i),?_,?_,⟨λd g=>((e.each.each d (h d g)).af j λk m=>(e.HA d (h d g) k m).2.2),λd g o r=>e.each.apart d (h d g) o (h o r),e.each.tidy.bV w⟩,λd g=>e.HA d (h d g),e.Fr,e.pr,e.self,λk m=>Qk (e.aB k m) j.size,q⟩
 ·have i:(bV a1 w).map dF=bV (a1.map dF) w:=AP (λn:mU=>ptr n.q) a1 w
  rw[i];exact p
 ·have i:(bV a1 w).map uB=bV (a1.map uB) w:=AP (λn:mU=>n.f) a1 w
  rw[i,<-e.files];rfl
def eI.put{r G':Nat->Prop}{D:an}(g:eI b a r D c a1){q:Nat}(x:bD l c Value.string (aI (a1.map dF) w (ptr q)))(h:ak (·=c) b l)(s:dJ b q G' a6)(t:∀e∈a1,e.1≠w->∀d,G' d->¬e.2.G d)(u:∀d,G' d->d≠a/\d≠c)(y:(D.gy w a6).Ok):
  eI l a (λd=>r d\/G' d) (D.gy w a6) c (aI a1 w ⟨q,G',a6⟩):=by
 have j:∀e∈aI a1 w ⟨q,G',a6⟩,e=(w,⟨q,G',a6⟩)\/(e∈a1/\e.1≠w):=λe f=>fw g.each.tidy f;refine⟨h.get g.head (λi=>g.pr i),?_,?_,⟨?_,?_,g.each.tidy.aI _ _⟩,?_,.inl g.Fr,g.pr,.inl g.self,?_,y⟩
 ·have i:(aI a1 w ⟨q,G',a6⟩).map dF=aI (a1.map dF) w (ptr q):=qg (λm:mU=>ptr m.q) a1 w _
  rw[i];exact x
 ·have i:(aI a1 w ⟨q,G',a6⟩).map uB=aI (a1.map uB) w a6:=qg (λm:mU=>m.f) a1 w _
  rw[i,<-g.files];rfl
 ·intro e f
  rcases j e f with rfl|⟨f,n⟩
  ·exact s.af h λd B=>(u d B).2
  ·exact(g.each.each e f).af h λd B=>(g.HA e f d B).2.2
 ·intro e f o k v d B p
  rcases j e f with rfl|⟨f,n⟩<;>rcases j o k with rfl|⟨k,z⟩
  ·exact v rfl
  ·exact t o k z d B p
  ·exact t e f n d p B
  ·exact g.each.apart e f o k v d B p
 ·intro e f d B
  rcases j e f with rfl|⟨f,n⟩
  ·exact⟨.inr B,u d B⟩
  ·exact⟨.inl (g.HA e f d B).1,(g.HA e f d B).2⟩
 ·rintro d (B|B)
  ·exact Qk (g.aB d B) h.size
  ·exact Qk (s.aB d B) h.size
end Go.Proofs.YtjgjkeponbeekaaGreatDoor
namespace Go.ar
open Go
def BQ(cs:Array Value):Nat->List Value->Array Value
 |_,[]=>cs
 |a,b::c=>BQ (cs.setIfInBounds a b) (a+1) c
def Ee:∀(c:List Value) (cs:Array Value) (b a:Nat),(BQ cs b c)[a]? =if b<=a/\a<b+c.length/\a<cs.size then c[a-b]? else cs[a]?
 |[],cs,b,a=>by rw[if_neg (by simp;omega)];rfl
 |v::c,cs,b,a=>by
  unfold BQ;rw[Ee c,Array.getElem?_setIfInBounds];simp only[Xq,Array.size_setIfInBounds]
  by_cases d:b+1<=a/\a<b+1+c.length/\a<cs.size
  ·rw[if_pos d,if_pos oM,show a-b=(a-(b+1))+1 by omega,List.getElem?_cons_succ]
  ·rw[if_neg d]
   by_cases e:b=a
   ·subst e
    by_cases f:b<cs.size
    ·rw[if_pos rfl,if_pos f,if_pos oM,Nat.sub_self,List.getElem?_cons_zero]
    ·rw[if_pos rfl,if_neg f,if_neg oM,Array.getElem?_eq_none oM]
   ·rw[if_neg e,if_neg oM]
variable{a2:List Value}{a:Nat}{g:TypeId}{b:World}{y:World->Prop}
def Ef{cs:Array Value}(b:a2.length=cs.size):BQ cs 0 a2=a2.toArray:=by
 apply Array.ext_getElem?;intro a;rw[Ee]
 by_cases c:a<cs.size
 ·rw[if_pos oM];simp
 ·rw[if_neg oM,Array.getElem?_eq_none oM]
  simp;omega
def xS{d:Nat}{h:TypeId}{i:World->Prop}:∀(c:List Value) (b:Nat) {a:World} {cs:Array Value},a.heap[d]? =some (.cells cs h (0,0))->b+c.length<=cs.size->
  (∀e,ak (·=d) a e->e.heap.size=a.heap.size->e.heap[d]? =some (.cells (BQ cs b c) h (0,0))->i e)->iL ⟨d,0,none⟩ b c a i
 |[],b,a,cs,f,j,g=>g a (ak.refl _) rfl f
 |v::c,b,a,cs,f,j,g=>by
  unfold iL;rw[Addr.add_lit,Xz];rw[Xq]at j;exact PS.mk f oM λr k l m=>xS c (b+1) m (by simp;omega) λn o p q=>g n (k.then o) (p.trans l) q
def storeAll{cs:Array Value}(d:List Value)(e:b.heap[a]? =some (.cells cs g (0,0)))(f:d.length=cs.size)(h:∀c,ak (·=a) b c->c.heap.size=b.heap.size->c.heap[a]? =some (.cells d.toArray g (0,0))->y c):iL ⟨a,0,none⟩ 0 d b y:=
 xS d 0 e oM λc i j k=>h c i j (by rw[k,Ef f])
end Go.ar
namespace Go.ar
open Go
def wrap_u32(a:Nat)(b:a<2 ^ 32):IntKind.wrap .u32 (a:Int)=a:=by
 unfold IntKind.wrap;simp[IntKind.signed,IntKind.bits];omega
def wrap_u8(a:Nat):IntKind.wrap .u8 (a:Int)=((a % 256:Nat):Int):=by
 unfold IntKind.wrap;simp[IntKind.signed,IntKind.bits]
def ofInt32(a:qS):BitVec.ofInt (IntKind.bits .u32) ((a.toNat:Nat):Int)=a:=by
 show BitVec.ofInt 32 ((a.toNat:Nat):Int)=a;rw[BitVec.ofInt_natCast];simp
def J_(a b:qS):pQ .u32 ((a.toNat:Nat):Int) ((b.toNat:Nat):Int)=(((a ^^^ b).toNat:Nat):Int):=by
 unfold pQ;rw[ofInt32,ofInt32];exact wrap_u32 _ (a ^^^ b).isLt
def Pj(a:qS):pQ .u32 (IntKind.max .u32) ((a.toNat:Nat):Int)=(((~~~a).toNat:Nat):Int):=by
 have b:IntKind.max .u32=(((BitVec.allOnes 32).toNat:Nat):Int):=by decide+kernel
 rw[b,J_,BitVec.allOnes_xor]
def TD(a:qS):gw .u32 ((a.toNat:Nat):Int) 8=(((a>>>8).toNat:Nat):Int):=by
 unfold gw;have:(min (Int.toNat 8) (IntKind.bits .u32))=8:=dC
 rw[this,BitVec.toNat_ushiftRight,Nat.shiftRight_eq_div_pow];show Int.fdiv _ ((2 ^ 8:Nat):Int)=_;rw[Int.fdiv_eq_ediv_of_nonneg _ (Int.natCast_nonneg _)]
 rfl
def UR(a b:Nat)(c:a<256)(d:b<256):pQ .u8 (a:Int) (b:Int)=((a ^^^ b:Nat):Int):=by
 unfold pQ;show IntKind.wrap .u8 ((BitVec.ofInt 8 (a:Int) ^^^ BitVec.ofInt 8 (b:Int)).toNat:Int)=_;have e:a ^^^ b<2 ^ 8:=Nat.xor_lt_two_pow oM oM;rw[BitVec.ofInt_natCast,BitVec.ofInt_natCast,BitVec.toNat_xor,BitVec.toNat_ofNat,BitVec.toNat_ofNat,Nat.mod_eq_of_lt oM,Nat.mod_eq_of_lt oM,wrap_u8,Nat.mod_eq_of_lt oM]
def TE(a:Nat)(c:a<256):Ai .u8 (a:Int) 15=((a % 16:Nat):Int):=by
 unfold Ai;show IntKind.wrap .u8 ((BitVec.ofInt 8 (a:Int)&&&BitVec.ofInt 8 ((15:Nat):Int)).toNat:Int)=_;have b:a&&&15=a % 16:=Nat.and_two_pow_sub_one_eq_mod a 4;rw[BitVec.ofInt_natCast,BitVec.ofInt_natCast,BitVec.toNat_and,BitVec.toNat_ofNat,BitVec.toNat_ofNat,Nat.mod_eq_of_lt oM,Nat.mod_eq_of_lt oM,b,wrap_u8,Nat.mod_eq_of_lt oM]
def US(a:Nat):gw .u8 (a:Int) 4=((a/16:Nat):Int):=by
 unfold gw;have:(min (Int.toNat 4) (IntKind.bits .u8))=4:=dC
 rw[this];show Int.fdiv _ ((2 ^ 4:Nat):Int)=_;rw[Int.fdiv_eq_ediv_of_nonneg _ (Int.natCast_nonneg _)]
 rfl
end Go.ar
namespace Go.Proofs.YtjgjkeponbeekaaGreatDoor
open Go.ar
structure pN (w:World):Prop where
 lower:∀i,i<16->w.cell? ⟨2,i,none⟩=some (.int .u32 ((jv.getD i 0:Nat):Int))
 upper:∀i,i<16->w.cell? ⟨3,i,none⟩=some (.int .u32 ((jw.getD i 0:Nat):Int))
 lt:2<w.heap.size/\3<w.heap.size
variable{x:List UInt8}{a c:Nat}{f:Nat->Prop}{d:Option Addr}{b l:World}
def pN.ah(a:pN b)(d:ai b l):pN l:=
 ⟨λc e=>(d.cell (a:=⟨2,c,none⟩) a.lt.1 id).trans (a.lower c e),λc e=>(d.cell (a:=⟨3,c,none⟩) a.lt.2 id).trans (a.upper c e),Qk a.lt.1 d.size,Qk a.lt.2 d.size⟩
def Pk:∀a,jv.getD a 0<2 ^ 32/\jw.getD a 0<2 ^ 32:=by
 intro a
 by_cases b:a<16
 ·have c:(List.range 16).all (λa=>decide (jv.getD a 0<2 ^ 32/\jw.getD a 0<2 ^ 32))=true:=by decide+kernel
  simpa using List.all_eq_true.1 c a (List.mem_range.2 b)
 ·rw[QQ,QQ,Q7 (by show 16<=a;omega),Q7 (by show 16<=a;omega)]
  decide
def Pl{s:qS}(q:pN b)(k:Row fv 1 b f d a x):
  Calls XP 325 #[.int .u32 ((s.toNat:Nat):Int),.slice d a c] b (Ok λr l=>r= .int .u32 (((LA s x).toNat:Nat):Int)/\bd b l):=by
 have I:=k.len;have t:=k.dN;unfold aK at t;refine JN ⟨λo e i l=>∃h:Nat,i=h/\h<=a/\o=a-h/\bd b l/\e=((((x.take h).foldl jK (~~~s)).toNat:Nat):Int),⟨_,0,rfl,Qj _,rfl,bd.refl b,by rw[Pj];rfl⟩,?_⟩;rintro o e i J K ⟨h,rfl,L,rfl,j,rfl⟩;generalize m:(x.take h).foldl jK (~~~s)=e;refine al.dec (λu=>?_) (λu=>Ok.mk ⟨?_,j⟩)
 ·obtain⟨v,n,g,rfl,w,_,y⟩:=(k.ah j.af).l_ (i:=h) oM
  have p:=q.ah j.af;have M:=g.toNat_lt;have z:IntKind.wrap .u8 ((e.toNat:Nat):Int)=((e.toNat % 256:Nat):Int):=wrap_u8 _;have N:g.toNat ^^^ e.toNat % 256<2 ^ 8:=Nat.xor_lt_two_pow oM oM;have A:pQ .u8 ((g.toNat:Nat):Int) (IntKind.wrap .u8 ((e.toNat:Nat):Int))=((g.toNat ^^^ e.toNat % 256:Nat):Int):=by rw[z,UR _ _ oM oM]
  refine⟨v,n,rfl,oM,oM,_,y,?_⟩;rw[A,TE _ oM,US];refine⟨2,0,rfl,oM,oM,((jv.getD ((g.toNat ^^^ e.toNat % 256) % 16) 0:Nat):Int),?_,3,0,rfl,oM,oM,((jw.getD ((g.toNat ^^^ e.toNat % 256)/16) 0:Nat):Int),?_,λO B=>⟨_,oM,h+1,aq oM,oM,rfl,j.then B,?_⟩⟩
  ·rw[Xz];exact p.lower _ oM
  ·rw[Xz];exact p.upper _ oM
  ·have C:=(Pk ((g.toNat ^^^ e.toNat % 256) % 16)).1
   have E:=(Pk ((g.toNat ^^^ e.toNat % 256)/16)).2;rw[TD];have F:((jv.getD ((g.toNat ^^^ e.toNat % 256) % 16) 0:Nat):Int)=(((BitVec.ofNat 32 (jv.getD ((g.toNat ^^^ e.toNat % 256) % 16) 0)).toNat:Nat):Int):=by rw[BitVec.toNat_ofNat,Nat.mod_eq_of_lt C]
   have H:((jw.getD ((g.toNat ^^^ e.toNat % 256)/16) 0:Nat):Int)=(((BitVec.ofNat 32 (jw.getD ((g.toNat ^^^ e.toNat % 256)/16) 0)).toNat:Nat):Int):=by rw[BitVec.toNat_ofNat,Nat.mod_eq_of_lt E]
   rw[F,H,J_,J_,<-MQ,Qw,w,List.foldl_append,m]
   rfl
 ·rw[Qz oM]at m
  rw[Pj,<-m];rfl
def LB(e:pN b)(g:Row fv 1 b f d a x):
  Calls XP 285 #[.slice d a c] b (Ok λh i=>h= .int .u32 (((MR x).toNat:Nat):Int)/\bd b i):=by
 refine MN (PC.ok (Pl (s:=0#32) e g) ?_);rintro _ k ⟨rfl,j⟩;exact⟨_,rfl,Ok.mk ⟨rfl,j⟩⟩
end Go.Proofs.YtjgjkeponbeekaaGreatDoor
namespace Go.ar
open Go
def wrap_u32'(a:Int):IntKind.wrap .u32 a=a % 4294967296:=by
 unfold IntKind.wrap;simp[IntKind.signed,IntKind.bits]
def Ko{a d:Nat}(e:a<16777216)(f:d<256):Oe .u32 (Ht .u32 (a:Int) 8) (IntKind.wrap .u32 (d:Int))=((a*256+d:Nat):Int):=by
 have b:Ht .u32 (a:Int) 8=((a*256:Nat):Int):=by
  unfold Ht;have:min (Int.toNat 8) (IntKind.bits .u32)=8:=dC
  rw[this,wrap_u32'];have:((2:Int) ^ 8)=256:=dC
  rw[this];omega
 rw[b,wrap_u32 _ oM];unfold Oe;show IntKind.wrap .u32 ((BitVec.ofInt 32 ((a*256:Nat):Int)|||BitVec.ofInt 32 (d:Int)).toNat:Int)=_;have c:a*256|||d=a*256+d:=by
  have:=(Nat.shiftLeft_add_eq_or_of_lt (a:=a) (i:=8) (b:=d) oM).symm
  rwa [Nat.shiftLeft_eq]at this
 rw[BitVec.ofInt_natCast,BitVec.ofInt_natCast,BitVec.toNat_or,BitVec.toNat_ofNat,BitVec.toNat_ofNat,Nat.mod_eq_of_lt oM,Nat.mod_eq_of_lt oM,c,wrap_u32 _ oM]
def i_(a:Nat):IntKind.wrap .u8 (a:Int)=((UInt8.ofNat a).toNat:Int):=by
 rw[wrap_u8,UInt8.toNat_ofNat']
def Mr{k:IntKind}{u m:Nat}(a:m<=k.bits):gw k (u:Int) (m:Int)=((u/2 ^ m:Nat):Int):=by
 unfold gw;rw[Qx,X2 a];show Int.fdiv _ ((2:Int) ^ m)=_;rw[Int.fdiv_eq_ediv_of_nonneg _ (Int.pow_nonneg dC)];simp
variable{a c:Nat}{d:Option Addr}{h:Program}{B g q:TypeId}{p u:Value->World->Prop}{b:World}
def Nb{d tn k c:TypeId}(l:jC h d c 1 1)(n:h.underlying tn=some (.int .i64))(o:0<a)(q:a<=aK)(e:∀f g,aO fv c (·=b.heap.size) f (ZX b.heap.size) 0 g []->a<=g->ai b f->p (.slice (ZX b.heap.size) a g) f):
  aG h (Builtin.append_ #[d,tn] k #[.slice none 0 0,XH (a:Int)]) b p u:=by
 obtain⟨r,i,s,t,B,v,w⟩:=l.info;unfold aK at q;have x:=Lib.run_append_nil_zeros (P:=h) b d tn k c r i .i64 .i64 l.under n s t a o oM oM (by rw[v];omega);have y:=grownCap_ge b a 0 c;refine aG.mk x (e _ _ ?_ y ?_)
 ·have m:=heap_alloc_new b.drew (.cells (Builtin.zeroCells i.cells a++Builtin.zeroCells i.cells (grownCap b a 0 c-a)) c)
  refine⟨⟨[],λ_=>False,⟨⟨sM,.inr ⟨b.heap.size,grownCap b a 0 c,_,rfl,Qj _,m,Qj _,grownCap_le_maxLen b a 0 c (by unfold maxLen;omega),?_,sM⟩⟩⟩,rfl,λ_ e=>e.elim⟩,λz j=>by simpa[aF]using j.symm,λz j=>by rw[j];exact ax m⟩;rw[Array.size_append,size_zeroCells,size_zeroCells,w];show a*1+(grownCap b a 0 c-a)*1=grownCap b a 0 c*1;omega
 ·have A:ai b (b.drewN 1):=ak.drewN b 1
  exact A.then (ak.alloc _ _)
def Tb(e:h.underlying g=some (.slice q))(f:p (XH (c:Int)) b):aG h (Builtin.cap_ #[g] B #[.slice d a c]) b p u:=by
 refine aG.mk (v:=XH (c:Int)) ?_ f;simp[Builtin.cap_,run_underlying e,goInt]
end Go.ar
namespace Go.Proofs.YtjgjkeponbeekaaGreatDoor
open Go.ar
variable{c8 x:List UInt8}{C a c i k:Nat}{E:Nat×Nat}{d r:Option Addr}{b:World}
def uJ{bs:List UInt8}{D:Nat->Prop}(g:Row fv 1 b D d a bs)(r:a<=4):
  Calls XP 284 #[.slice d a c] b (Ok λk e=>k= .int .u32 (fX bs:Int)/\b=e):=by
 have s:=g.len;refine Au ⟨λm h i e=>∃j:Nat,i=j/\j<=a/\m=a-j/\h=(fX (bs.take j):Int)/\b=e,⟨_,0,rfl,Qj _,rfl,rfl,rfl⟩,?_⟩;rintro m h i _ t ⟨j,rfl,u,rfl,rfl,rfl⟩;refine al.dec (λl=>?_) (λl=>?_)
 ·obtain⟨n,f,o,rfl,p,_,q⟩:=g.l_ (i:=j) oM
  have v:=nR bs (j:=j) (m:=3) oM;refine⟨n,f,rfl,oM,oM,_,q,_,oM,j+1,aq oM,oM,rfl,?_,rfl⟩;rw[Ko (by
            have:(256:Nat) ^ 3=16777216:=dC
            omega) o.toNat_lt,Dy p]
 ·rw[Qz oM]
  exact Ok.mk ⟨rfl,rfl⟩
def FB{m:Nat}(h:0<m)(e:m<=aK):
  Calls XP 328 #[.slice none 0 0,XH (m:Int)] b (Ok λi a=>∃c f,i= .slice (ZX c) 0 f/\aO fv 5 (·=c) a (ZX c) 0 f []/\ai b a/\b.heap.size<=c):=by
 have d:=e;unfold aK at d;refine lM ⟨λa=>a=b,al.dec (λg=>oM) (λ_=>rfl),?_⟩;rintro _ o rfl;refine Tb sK.under ⟨_,rfl,?_⟩;have j:IntKind.wrap .i64 ((m:Int)-IntKind.wrap .i64 (((0:Nat):Int)-((0:Nat):Int)))=(m:Int):=by
  rw[wrap_i64 (x:=((0:Nat):Int)-((0:Nat):Int)) (by unfold aH;omega),wrap_i64 (by unfold aH;omega)];omega
 rw[j];refine al.dec (λg=>?_) (λg=>oM);refine Tb sK.under ⟨_,rfl,oM,oM,?_⟩;refine Nb sK kR h e λp k l q n=>⟨_,_,_,rfl,oM,oM,Ok.mk ⟨_,k,rfl,l,n,Q4 _⟩⟩
def AX{D:Nat->Prop}(F:b.heap[a]? =some (.cells #[.slice d c k,.slice r i C] 237 E))(R:Row fv 1 b D d c x)(S:Row fv 1 b D r i c8)(H:∀e,D e->e<b.heap.size)(h0:0<c)(f:c+i<=aK):
  Calls XP 294 #[.slice (ZX a) 2 2] b (Ok (py fv 5 b (x++c8))):=by
 have l1:=R.len;have l2:=S.len;have I:=f;unfold aK at I;refine ke ⟨λh y j g=>b=g/\((h=2/\y=0/\j=0)\/(h=1/\y=(c:Int)/\j=1)\/(h=0/\y=((c+i:Nat):Int)/\j=2)),⟨2,rfl,.inl ⟨rfl,rfl,rfl⟩⟩,?_⟩;rintro h y j _ w1 ⟨rfl,J⟩;rcases J with⟨rfl,rfl,rfl⟩|⟨rfl,rfl,rfl⟩|⟨rfl,rfl,rfl⟩
 ·refine al.tt dC ⟨a,0,rfl,oM,oM,d,c,k,ae F rfl,?_⟩
  rw[wrap_i64 (x:=0+((c:Nat):Int)) (by unfold aH;omega)];exact al.dec (λT=>oM) (λ_=>⟨1,oM,rfl,.inr (.inl ⟨rfl,oM,rfl⟩)⟩)
 ·refine al.tt dC ⟨a,0,rfl,oM,oM,r,i,C,ae F rfl,?_⟩
  rw[wrap_i64 (x:=((c:Nat):Int)+((i:Nat):Int)) (by unfold aH;omega)];exact al.dec (λT=>oM) (λ_=>⟨0,oM,rfl,.inr (.inr ⟨rfl,oM,rfl⟩)⟩)
 refine al.ff dC (PC.ok (FB (m:=c+i) oM f) ?_);rintro _ w2 ⟨U,cq,rfl,Z,k2,hq⟩;have a6:∀e,D e->e≠U:=λe f K=>by have:=H e f;omega
 refine⟨_,_,_,rfl,λh q m s j g=>ai b g/\∃n,(∀e,n e->b.heap.size<=e)/\((h=2/\j=0/\aO fv 5 n g q m s [])\/(h=1/\j=1/\aO fv 5 n g q m s x)\/(h=0/\j=2/\aO fv 5 n g q m s (x++c8))),
  ⟨2,k2,(·=U),λe K=>oM,.inl ⟨rfl,rfl,Z⟩⟩,?_⟩
 rintro h q m s j _ V ⟨t,n,z,J⟩;have W:=t.get F id;have ap:∀{A B:List UInt8} {L v X} {M Y:Value->World->Prop},aO fv 5 n V q m s A->Row fv 1 b D L v B->A.length+B.length<=140737488355328->
   (∀o u g p,aO fv 5 p g o (m+v) u (A++B)->ai b g->(∀e,p e->b.heap.size<=e)->M (.slice o (m+v) u) g)->
   aG XP (Builtin.append_ #[237,237] 237 #[.slice q m s,.slice L v X]) V M Y:=by
  intro A B L v X M Y l hr a5 N;refine y_ l sK (hr.ah t) (λe f=>⟨by have:=H e f;have:=t.size;omega,λK=>?_⟩) (by unfold aK;omega) (by unfold maxLen;omega) λo u O p w a3 _ a4=>?_
  ·have:=H e f;have:=z e (l.self e K);omega
  ·exact N o u O (λe=>aF o=some e) w.alone (t.new a3 λe f=>.inr (z e (l.self e f))) λe f=>(a4 e f).elim (z e) λT=>by have:=t.size;omega
 rcases J with⟨rfl,rfl,l⟩|⟨rfl,rfl,l⟩|⟨rfl,rfl,l⟩
 ·refine al.tt dC ⟨a,0,rfl,oM,oM,d,c,k,ae W rfl,?_⟩
  exact ap l R (by simp;omega) λo u O p w P Q=>⟨_,_,_,rfl,1,oM,P,p,Q,.inr (.inl ⟨rfl,rfl,w⟩)⟩
 ·refine al.tt dC ⟨a,0,rfl,oM,oM,r,i,C,ae W rfl,?_⟩
  exact ap l S oM λo u O p w P Q=>⟨_,_,_,rfl,0,oM,P,p,Q,.inr (.inr ⟨rfl,rfl,w⟩)⟩
 ·exact al.ff dC (Ok.mk ⟨_,_,_,n,rfl,l,t,z⟩)
end Go.Proofs.YtjgjkeponbeekaaGreatDoor
namespace Go.Proofs.YtjgjkeponbeekaaGreatDoor
open Go.ar
def oX:ft:=⟨[],[],[],[],[]⟩
variable{c4 w:ByteArray}{s:Ending->World->Prop}{A U b2 c1 c2 c3 e m:Int}{a c i k:Nat}{d r:Option Addr}{b:World}
def oY{g:Int}(n:PA b (.cells #[XH e,XH m,XH A,.slice d a c,XH U,XH b2,XH c1,XH c2,XH c3,XH g] 63) λf=>
   (∃(h:Int),f.cell? ⟨i,k,none⟩=some (XH h)/\al ((h:Int) !=0) ((∃(j:Int),f.cell? ⟨b.heap.size,0+9,none⟩=some (XH j)/\
   (∃(l:Int),f.cell? ⟨i,k,none⟩=some (XH l)/\s (.returned (.bool ((j:Int)==l))) f))) (s (.returned (.bool false)) f))):
  Calls XP 202 #[.agg #[XH e,XH m,XH A,.slice d a c,XH U,XH b2,XH c1,XH c2,XH c3,XH g],.pointer (some ⟨i,k,none⟩)] b s:=
 fu oX mixed Tryz.func202 rfl (Nat.le_of_ble_eq_true kR) kR (Eq.mp kR n)
def oV:ft:=⟨[],[],[],[],[]⟩
def oW(i:PA b (.cells #[.slice r a c] 42) λj=>PC XP 93 #[.pointer d,.func (.func 195) #[] #[ZQ b.heap.size]] j (λk l=>
   ∃(h:Option Addr) (f:Nat) (g:Nat),k= .slice h f g/\((0:Int)<=(if(if e>0 then e else 0)<((f:Nat):Int)then(if e>0 then e else 0)else((f:Nat):Int))/\
   ((if(if e>0 then e else 0)<((f:Nat):Int)then(if e>0 then e else 0)else((f:Nat):Int)):Int)<=((g:Nat):Int)/\
   s (.returned (.slice h (Int.toNat (if(if e>0 then e else 0)<((f:Nat):Int)then(if e>0 then e else 0)else((f:Nat):Int))) g)) l)) (λm b=>
   s (.panicked m) b)):
  Calls XP 122 #[.pointer d,.slice r a c,XH e] b s:=
 fu oV mixed Tryz.func122 rfl (Nat.le_of_ble_eq_true kR) kR (Eq.mp kR i)
def rO:ft:=⟨[],[],[],[],[]⟩
def rQ(l:PA b (.cells #[XH e] 3) λa=>PA a (.cells #[XH 0,XH 0,XH 0,.slice none 0 0,XH 0,XH 0,XH 0,XH 0,XH 0,XH 0] 63) λm=>
   PC XP 93 #[.pointer d,.func (.func 202) #[] #[ZQ b.heap.size]] m (λn c=>∃(g:Option Addr) (f:Nat) (o:Nat),n= .slice g f o/\
   al ((((f:Nat):Int):Int)==0) (mg XP 63 (ZQ a.heap.size) (.agg #[XH 0,XH 0,XH 0,.slice none 0 0,XH 0,XH 0,XH 0,XH 0,XH 0,XH 0]) c λh=>
   (il XP 63 (ZQ a.heap.size) h λp=>s (.returned (.tuple #[p,.bool false])) h)) ((∃i j,g=some ⟨i,j,none⟩/\
   (0:Int)<=0/\0<((f:Nat):Int)/\(il XP 63 (.pointer (some ⟨i,j+Int.toNat 0*10,none⟩)) c λq=>mg XP 63 (ZQ a.heap.size) q c λk=>
   (il XP 63 (ZQ a.heap.size) k λr=>s (.returned (.tuple #[r,.bool true])) k))))) (λt b=>s (.panicked t) b)):
  Calls XP 126 #[.pointer d,XH e] b s:=
 fu rO mixed Tryz.func126 rfl (Nat.le_of_ble_eq_true kR) kR (Eq.mp kR l)
def mP:ft:=⟨[],[],[1],[],[(1,⟨[0,1,2,0,0,16,32,72,128,260,1023],[2047,2046,2045,2047,2047,2031,2015,1975,1919,1787,1535],[0,0,1,1,0,0,1,2,0,0,0]⟩)]⟩
def mQ{j:Int}(u:PA b (.cells #[XH e,XH m,XH A,.slice d a c,XH U,XH b2,XH c1,XH c2,XH c3,XH j] 63) λv=>
   (∀f,bd v f->∃l:Nat->Prop,(¬l b.heap.size/\(∃(n:Int),f.cell? ⟨b.heap.size,0+1,none⟩=some (XH n)/\(∃(o:Option Addr) (p:Nat) (q:Nat),f.cell? ⟨i,k,none⟩=some (.slice o p q)/\
   (∃(r:Int),f.cell? ⟨b.heap.size,0,none⟩=some (XH r)/\PC XP 196 #[.slice o p q,XH r] f (λw t=>
   ∃(g:Int),w= XH g/\(ak l f t/\s (.returned (.bool (decide ((n:Int)>(if g>0 then g else 0))))) t)) (λx h=>
   ∀(_:bG) (_:cC),s (.panicked x) h))))))):
  Calls XP 195 #[.agg #[XH e,XH m,XH A,.slice d a c,XH U,XH b2,XH c1,XH c2,XH c3,XH j],.pointer (some ⟨i,k,none⟩)] b s:=
 fu mP mixed Tryz.func195 rfl (Nat.le_of_ble_eq_true kR) kR (Eq.mp kR u)
def Aw:ft:=⟨[],[],[],[],[]⟩
def Ax{r:Int}{j:Int}(N:PA b (.cells #[XH e,XH m,XH A,.slice d a c,XH U,XH b2,XH c1,XH c2,XH c3,XH r] 63) λf=>
   (∃(t:Int),f.cell? ⟨b.heap.size,0,none⟩=some (XH t)/\al (decide ((t:Int)<0)) (s (.returned (XH 1)) f) ((∃(u:Int),f.cell? ⟨b.heap.size,0,none⟩=some (XH u)/\
   al (decide ((u:Int)>=j)) (s (.returned (XH 1)) f) ((∃(k:Int),f.cell? ⟨b.heap.size,0+1,none⟩=some (XH k)/\(∃(l:Int),f.cell? ⟨b.heap.size,0+2,none⟩=some (XH l)/\
   al (decide (((if l<k then l else k):Int)<1)) (s (.returned (XH 1)) f) ((∃(n:Int),f.cell? ⟨b.heap.size,0+5,none⟩=some (XH n)/\
   (∃(o:Int),f.cell? ⟨b.heap.size,0+9,none⟩=some (XH o)/\al (decide (((if o<n then o else n):Int)<0)) (s (.returned (XH 1)) f) ((∃(O:Option Addr) (v:Nat) (P:Nat),f.cell? ⟨b.heap.size,0+3,none⟩=some (.slice O v P)/\
   al ((((v:Nat):Int):Int) !=j) (s (.returned (XH 1)) f) ((∃(w:Option Addr) (x:Nat) (y:Nat),f.cell? ⟨b.heap.size,0+3,none⟩=some (.slice w x y)/\
   PC XP 184 #[.slice w x y,.func (.func 183) #[] #[]] f (λQ h=>∃(z:Bool),Q= .bool z/\al z (s (.returned (XH 1)) h) ((∃(B:Option Addr) (C:Nat) (R:Nat),h.cell? ⟨b.heap.size,0+3,none⟩=some (.slice B C R)/\
   (∃(i:Int),h.cell? ⟨b.heap.size,0,none⟩=some (XH i)/\(∃E F,B=some ⟨E,F,none⟩/\(0:Int)<=i/\i<((C:Nat):Int)/\
   (∃(H:Int),h.cell? ⟨E,F+Int.toNat i,none⟩=some (XH H)/\(∃(I:Int),h.cell? ⟨b.heap.size,0+1,none⟩=some (XH I)/\
   (∀g,bd h g->al ((H:Int) !=(IntKind.wrap .i64 (I-1))) (s (.returned (XH 9)) g) ((∃(J:Int),g.cell? ⟨b.heap.size,0+7,none⟩=some (XH J)/\
   al (decide ((J:Int)<1)) (s (.returned (XH 2)) g) ((∃(K:Int),g.cell? ⟨b.heap.size,0+7,none⟩=some (XH K)/\al (decide ((K:Int)>5)) (s (.returned (XH 2)) g) ((∃(p:Int),g.cell? ⟨b.heap.size,0+4,none⟩=some (XH p)/\
   (∃(q:Int),g.cell? ⟨b.heap.size,0+6,none⟩=some (XH q)/\al (decide (((if q<p then q else p):Int)<0)) (s (.returned (XH 8)) g) ((∃(L:Int),g.cell? ⟨b.heap.size,0+4,none⟩=some (XH L)/\
   al (decide ((L:Int)>=8)) (s (.returned (XH 8)) g) ((∃(M:Int),g.cell? ⟨b.heap.size,0+6,none⟩=some (XH M)/\al (decide ((M:Int)>=8)) (s (.returned (XH 8)) g) (s (.returned (XH 0)) g)))))))))))))))))))) (λS b=>
   s (.panicked S) b))))))))))))))):
  Calls XP 113 #[.agg #[XH e,XH m,XH A,.slice d a c,XH U,XH b2,XH c1,XH c2,XH c3,XH r],XH j] b s:=
 fu Aw mixed Tryz.func113 rfl (Nat.le_of_ble_eq_true kR) kR (Eq.mp kR N)
def gD:ft:=⟨[],[],[],[],[]⟩
def gE(a:al (decide ((((ByteArray.size w:Nat):Int):Int)>=((ByteArray.size c4:Nat):Int))) (((0:Int)<=((ByteArray.size c4:Nat):Int)/\(((ByteArray.size c4:Nat):Int):Int)<=((ByteArray.size w:Nat):Int)/\rt s ((.bool ((ByteArray.toList (ByteArray.extract w 0 (Int.toNat ((ByteArray.size c4:Nat):Int))))==(ByteArray.toList c4)))) b)) (rt s ((.bool false)) b)):Calls XP 324 #[.string w,.string c4] b s:=DC gD Tryz.func324 rfl a
def pW:ft:=⟨[],[],[],[],[]⟩
def pX(d:PC_ 283 #[.string w,.string c4] b (λe f=>∃a c,e= .tuple #[.string a,.bool c]/\rt s ((.tuple #[.string a,.bool c])) f) (pE s)):Calls XP 224 #[.string w,.string c4] b s:=DC pW Tryz.func224 rfl d
def gB:ft:=⟨[],[],[],[],[]⟩
def gC(c:PC_ 324 #[.string w,.string c4] b (kB λd a=>al (!d) (rt s ((.tuple #[.string w,.bool false])) a) (((0:Int)<=((ByteArray.size c4:Nat):Int)/\(((ByteArray.size c4:Nat):Int):Int)<=((ByteArray.size w:Nat):Int)/\rt s ((.tuple #[.string (ByteArray.extract w (Int.toNat ((ByteArray.size c4:Nat):Int)) (ByteArray.size w)),.bool true])) a))) (pE s)):Calls XP 283 #[.string w,.string c4] b s:=DC gB Tryz.func283 rfl c
def EW:ft:=⟨[],[],[4],[],[(4,⟨[0,1,2,4,0,0,32,80,128,264,0,1024,2048,1023,16383,32767],[65535,65534,65533,65531,65535,65535,65503,65455,65407,65271,65535,64511,63487,65023,61439,65535],[0,0,1,0,0,0,0,0,2,0,0,0,0,2,0,0]⟩)]⟩
def EX(x:PA b (.cells #[.ii 0,.slice none 0 0] 277) λy=>PC_ 225 #[.slice d a c] y (λz l=>∃e h,z= .tuple #[.ii e,.ii h]/\al (h !=0) (PS l (ab_ b 0) (.ii 0) λA=>PS A (ab_ b (0+1)) (.slice none 0 0) λi=>(∃m n o p,i.cell? (ab_ b 0)=some (.ii m)/\i.cell? (ab_ b (0+1))=some (.slice n o p)/\rt s ((.tuple #[.agg #[.ii m,.slice n o p],.ii 0,.ii h])) i)) ((∀f,bd l f->∃j:Nat->Prop,(ix_ d 0 a λq B=>(¬j q/\(∃r,f.cell? (ad q (B+Int.toNat 0))=some (.int .u8 r)/\((0:Int)<=4/\(4:Int)<=(IntKind.wrap .i64 (4+e))/\((IntKind.wrap .i64 (4+e)):Int)<=(c:Int)/\PC_ 207 #[.slice (cG d (Int.toNat 4) c 1) (Int.toNat (IntKind.wrap .i64 (4+e))-Int.toNat 4) (c-Int.toNat 4)] f (kS_ λC E D k=>(ak j f k/\PS k (ab_ b 0) (.ii (IntKind.wrap .i64 r)) λF=>PS F (ab_ b (0+1)) (.slice C E D) λg=>(ak j k g/\(∃t u v w,g.cell? (ab_ b 0)=some (.ii t)/\g.cell? (ab_ b (0+1))=some (.slice u v w)/\rt s ((.tuple #[.agg #[.ii t,.slice u v w],.ii (IntKind.wrap .i64 ((IntKind.wrap .i64 (4+e))+5)),.ii 0])) g)))) (pZ s)))))))) (pE s)):Calls XP 163 #[.slice d a c] b s:=DC EW Tryz.func163 rfl x
def EY:ft:=⟨[],[],[],[],[]⟩
def EZ(n:PA b (.cells #[.ii e,.slice d a c] 277) λf=>(rS f (ab_ b (0+1)) λE h D=>(rI f (ab_ b 0) λo=>al (decide (o<1)) (rt s ((.tuple #[.slice none 0 0,.ii 2])) f) ((rI f (ab_ b 0) λp=>al (decide (p>255)) (rt s ((.tuple #[.slice none 0 0,.ii 2])) f) (al (decide ((h:Int)>65536)) (rt s ((.tuple #[.slice none 0 0,.ii 5])) f) ((rI f (ab_ b 0) λq=>PA f (.cells #[.int .u8 (IntKind.wrap .u8 q),.int .u8 (IntKind.wrap .u8 (gw .i64 (h:Int) 16)),.int .u8 (IntKind.wrap .u8 (gw .i64 (h:Int) 8)),.int .u8 (IntKind.wrap .u8 (h:Int))] 5) λi=>(rS i (ab_ b (0+1)) λr t u=>PA i (.cells #[.slice (some (ab_ f 0)) 4 4,.slice r t u] 237) λv=>PC_ 294 #[.slice (some (ab_ i 0)) 2 2] v (kS_ λj k l w=>PC_ 285 #[.slice j k l] w (λx m=>∃g,x= .int .u32 g/\PA m (.cells #[.int .u8 (IntKind.wrap .u8 (gw .u32 g 24)),.int .u8 (IntKind.wrap .u8 (gw .u32 g 16)),.int .u8 (IntKind.wrap .u8 (gw .u32 g 8)),.int .u8 (IntKind.wrap .u8 g),.int .u8 10] 5) λy=>PR_ (ap_ 237 (.slice j k l) (.slice (some (ab_ m 0)) 5 5)) y (kS_ λz A B C=>rt s ((.tuple #[.slice z A B,.ii 0])) C) (pV s)) (pE s)) (pE s)))))))))):Calls XP 241 #[.agg #[.ii e,.slice d a c]] b s:=DC EY Tryz.func241 rfl n
end Go.Proofs.YtjgjkeponbeekaaGreatDoor

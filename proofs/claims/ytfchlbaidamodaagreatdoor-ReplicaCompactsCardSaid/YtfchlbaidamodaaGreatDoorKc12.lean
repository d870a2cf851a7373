import Derived.Test.YtfchlbaidamodaaGreatDoorKc11
import Derived.Laws.Runes
import Derived.Lib.AppendZeros
set_option linter.all false
set_option maxRecDepth 20000
namespace Go.Proofs.YtfchlbaidamodaaGreatDoor
open Go.ax
def eW(b:UInt8):Bool:=(97<=b&&b<=122)||(48<=b&&b<=57)||b==46
def dv(a:ByteArray):Bool:=decide (1<=a.size)&&decide (a.size<=16)&&a.data.toList.all eW
structure bQ where
 bytes:List UInt8
 synced:Nat
 jk:Bool
 deriving DecidableEq
structure ak where
 most:Nat
 files:List (ByteArray×bQ)
 js:Bool
 left:Int
 dead:Bool
 deriving DecidableEq
def eL(a:List (ByteArray×bQ)):Nat:=(a.map λb=>b.2.bytes.length).sum
def ak.used(D:ak):Nat:=eL D.files
structure ak.Ok (D:ak):Prop where
 most:D.most<=262144
 fits:D.used<=D.most
 many:D.files.length<=64
 tidy:Tidy D.files
 names:∀x∈D.files,dv x.1=true
 TD:∀x∈D.files,x.2.synced<=x.2.bytes.length
 Cs:0<=D.left
 Ct:aN D.left
variable{X r:Array Value}{I:Bool}{x:ByteArray}{f8:ByteArray×bQ}{z:FuncId}{e:Int}{h1:List (ByteArray×bQ)}{v:List UInt8}{a c:Nat}{f:Nat->Prop}{d:Option Addr}{K j:Type}{c2:UInt8}{b k:World}{y:World->Prop}{W:bQ}
def LZ(h:f8∈h1):f8.2.bytes.length<=eL h1:=by
 unfold eL
 induction h1 with
 |nil=>cases h
 |cons b h1 a=>
  simp only[QY,List.sum_cons];rcases Q2.1 h with rfl|h
  ·omega
  ·have:=a h;omega
def ak.Ok.len{D:ak}(a:D.Ok)(b:f8∈D.files):f8.2.bytes.length<=262144:=by
 have:=LZ b;have:=a.fits;have:=a.most;unfold ak.used at*;omega
structure eX (w:World) (q:Nat) (G:Nat->Prop) (f:bQ):Prop where
 body:∃a n cap F,w.heap[q]? =some (.cells #[.slice a n cap,QH f.synced,.bool f.jk] 206 (0,0))/\aV gq 5 F w a n cap f.bytes/\(∀b,F b->G b)/\¬F q
 self:G q
 aF:∀b,G b->b<w.heap.size
def eX.keep{S G:Nat->Prop}(d:eX b a G W)(e:aj S b k)(h:∀c,G c->¬S c):eX k a G W:=by
 obtain⟨j,l,f,m,n,o,i,p⟩:=d.body;exact⟨⟨j,l,f,m,e.get n (h _ d.self),o.keep e (λc g=>h c (i c g)),i,p⟩,d.self,λc g=>Qk (d.aF c g) e.size⟩
structure nW where
 q:Nat
 G:Nat->Prop
 f:bQ
def ptr(a:Nat):Value:=ZX a
def eQ(a:ByteArray×nW):ByteArray×Value:=(a.1,ptr a.2.q)
def wC(a:ByteArray×nW):ByteArray×bQ:=(a.1,a.2.f)
structure FJ (w:World) (L:List (ByteArray×nW)):Prop where
 each:∀x∈L,eX w x.2.q x.2.G x.2.f
 apart:∀x∈L,∀y∈L,x.1≠y.1->∀b,x.2.G b->¬y.2.G b
 tidy:Tidy L
structure aW (w:World) (p:Nat) (F:Nat->Prop) (D:ak):Prop where
 body:∃r L,w.heap[p]? =some (.cells #[QH D.most,.map (some r),.bool D.js,QH D.left,.bool D.dead] 142 (0,0))/\cx w r Value.string (L.map eQ)/\D.files=L.map wC/\FJ w L/\
  (∀x∈L,∀b,x.2.G b->F b/\b≠p/\b≠r)/\F r/\p≠r
 self:F p
 aF:∀b,F b->b<w.heap.size
 ok:D.Ok
variable{a2:List (ByteArray×nW)}
def FJ.keep{S:Nat->Prop}(c:FJ b a2)(f:aj S b k)(g:∀a∈a2,∀d,a.2.G d->¬S d):FJ k a2:=
 ⟨λa e=>(c.each a e).keep f (g a e),c.apart,c.tidy⟩
def aW.keep{S f:Nat->Prop}{D:ak}(d:aW b a f D)(e:aj S b k)(g:∀c,f c->¬S c):aW k a f D:=by
 obtain⟨l,m,n,o,p,q,i,j,r⟩:=d.body;exact⟨⟨l,m,e.get n (g _ d.self),o.keep e (g _ j),p,q.keep e (λs t c h=>g c (i s t c h).1),i,j,r⟩,d.self,λc h=>Qk (d.aF c h) e.size,d.ok⟩
def aW.af{D:ak}(c:aW b a f D)(d:ai b k):aW k a f D:=c.keep d λ_ _ c=>c
def rm(c:j->K)(b:List (ByteArray×j))(d:ByteArray)(e:j):(aJ b d e).map (λa=>(a.1,c a.2))=aJ (b.map λa=>(a.1,c a.2)) d (c e):=by
 induction b with
 |nil=>rfl
 |cons f b g=>
  obtain⟨a,h⟩:=f;simp only[aJ,QY];split
  ·rfl
  ·simp[g]
def Cu(c:j->K)(b:List (ByteArray×j))(d:ByteArray):(bV b d).map (λa=>(a.1,c a.2))=bV (b.map λa=>(a.1,c a.2)) d:=by
 induction b with
 |nil=>rfl
 |cons e b f=>
  obtain⟨a,g⟩:=e;simp only[bV,QY];split
  ·rfl
  ·simp[f]
def Cv(c:j->K)(a:List (ByteArray×j))(d:ByteArray):ay (a.map λb=>(b.1,c b.2)) d=(ay a d).map c:=by
 induction a with
 |nil=>rfl
 |cons e a f=>
  obtain⟨b,g⟩:=e;simp only[ay,QY];split
  ·rfl
  ·exact f
def gu{b:List (ByteArray×j)}(e:Tidy b){c:j}{a:ByteArray×j}(h:a∈aJ b x c):a=(x,c)\/(a∈b/\a.1≠x):=by
 by_cases d:a.1=x
 ·left
  have:=rp (e.aJ x c) (k:=a.1) (v:=a.2) h;rw[bu,d]at this;simp at this;exact Prod.ext d this.symm
 ·rcases fG h with rfl|h
  ·exact .inl rfl
  ·exact .inr ⟨h,d⟩
def HC{b:List (ByteArray×j)}(c:Tidy b){a:ByteArray×j}(d:a∈bV b x):a∈b/\a.1≠x:=by
 refine⟨gN d,λf=>?_⟩;have e:=rp (c.bV x) (k:=a.1) (v:=a.2) d;rw[gh c,f]at e;simp at e
def rq{l:List (ByteArray×bQ)}{k:ByteArray}{f:bQ}:eL (aJ l k f)+((ay l k).map λa=>a.bytes.length).getD 0=eL l+f.bytes.length:=by
 unfold eL
 induction l with
 |nil=>simp[aJ,ay]
 |cons b l c=>
  obtain⟨d,e⟩:=b;simp only[aJ,ay];split
  ·simp;omega
  ·simp only[QY,List.sum_cons]at c⊢;omega
def ze{l:List (ByteArray×bQ)}{k:ByteArray}:eL (bV l k)+((ay l k).map λa=>a.bytes.length).getD 0=eL l:=by
 unfold eL
 induction l with
 |nil=>simp[bV,ay]
 |cons b l c=>
  obtain⟨d,e⟩:=b;simp only[bV,ay];split
  ·simp;omega
  ·simp only[QY,List.sum_cons]at c⊢;omega
def yw{a:List (ByteArray×j)}{c:j}(b:(ay a x).isSome=true):(aJ a x c).length=a.length:=by
 induction a with
 |nil=>simp[ay]at b
 |cons d a e=>
  obtain⟨g,h⟩:=d;simp only[aJ,ay]at b⊢;split
  ·rfl
  ·rename_i f
   rw[if_neg f]at b;simp[e b]
def aW.head{D:ak}(d:aW b a f D):∃c,b.heap[a]? =some (.cells #[QH D.most,.map (some c),.bool D.js,QH D.left,.bool D.dead] 142 (0,0)):=by
 obtain⟨c,g,e,_⟩:=d.body;exact⟨c,e⟩
def aW.L_{D c:ak}(e:aW b a f D)(g:aj (·=a) b k)(m:∀d,b.heap[a]? =some (.cells #[QH D.most,.map (some d),.bool D.js,QH D.left,.bool D.dead] 142 (0,0))->k.heap[a]? =some (.cells #[QH c.most,.map (some d),.bool c.js,QH c.left,.bool c.dead] 142 (0,0)))(n:c.files=D.files)(o:c.Ok):aW k a f c:=by
 obtain⟨d,p,q,r,s,t,j,u,l⟩:=e.body;exact⟨⟨d,p,m d q,r.keep g (λv=>l v.symm),n.trans s,t.keep g (λw x h i=>(j w x h i).2.1),j,u,l⟩,e.self,λh i=>Qk (e.aF h i) g.size,o⟩
def aW.AX{D:ak}(c:aW b a f D)(e:∀d,aW d a f {D with dead:=I}->aj f b d->d.heap.size=b.heap.size->y d):PS b ⟨a,0+4,none⟩ (.bool I) y:=by
 obtain⟨m,g⟩:=c.head;refine PS.mk g sM λd h j k=>e d (c.L_ h (λn i=>?_) rfl ⟨c.ok.most,c.ok.fits,c.ok.many,c.ok.tidy,c.ok.names,c.ok.TD,c.ok.Cs,c.ok.Ct⟩) (h.mono λI _ l=>l▸c.self) j;rw[g]at i;cases i;exact k
def aW.Jw{D:ak}(c:aW b a f D)(e:∀d,aW d a f {D with js:=I}->aj f b d->d.heap.size=b.heap.size->y d):PS b ⟨a,0+2,none⟩ (.bool I) y:=by
 obtain⟨m,g⟩:=c.head;refine PS.mk g sM λd h j k=>e d (c.L_ h (λn i=>?_) rfl ⟨c.ok.most,c.ok.fits,c.ok.many,c.ok.tidy,c.ok.names,c.ok.TD,c.ok.Cs,c.ok.Ct⟩) (h.mono λI _ l=>l▸c.self) j;rw[g]at i;cases i;exact k
def aW.NZ{D:ak}(c:aW b a f D)(k:0<=e)(l:aN e)(g:∀d,aW d a f {D with left:=e}->aj f b d->d.heap.size=b.heap.size->y d):PS b ⟨a,0+3,none⟩ (QH e) y:=by
 obtain⟨p,h⟩:=c.head;refine PS.mk h sM λd i m n=>g d (c.L_ i (λq j=>?_) rfl ⟨c.ok.most,c.ok.fits,c.ok.many,c.ok.tidy,c.ok.names,c.ok.TD,k,l⟩) (i.mono λr _ o=>o▸c.self) m;rw[h]at j;cases j;exact n
def Py:Calls ZQ 34 #[QH e] b (Ok λf d=>
  if e<64\/e>262144 then f= .tuple #[.pointer none,QH 1]/\d=b
  else∃g h,f= .tuple #[ZX g,QH 0]/\aW d g h ⟨e.toNat,[],false,0,false⟩/\ai b d/\∀a,h a->b.heap.size<=a):=by
 refine Jg (al.dec (λc=>?_) (λc=>al.dec (λi=>?_) (λi=>?_)))
 ·exact Ok.mk (by rw[if_pos (.inl c)];exact⟨rfl,rfl⟩)
 ·exact Ok.mk (by rw[if_pos (.inr i)];exact⟨rfl,rfl⟩)
 ·refine PA.mk λk l p m=>PA.mk λn j q o=>Ok.mk ?_
  rw[if_neg oM];refine⟨k.heap.size,λa=>b.heap.size<=a/\a<n.heap.size,rfl,⟨⟨b.heap.size,[],?_,cx.new (j.get m id),rfl,⟨sM,sM,by simp[Tidy]⟩,sM,oM,oM⟩,oM,λa c=>c.2,?_⟩,l.af j,λa c=>c.1⟩
  ·rw[o]
   have:((e.toNat:Nat):Int)=e:=oM
   rw[this]
  ·exact⟨by show e.toNat<=_;omega,by simp[ak.used,eL],by simp,by simp[Tidy],by simp,by simp,by simp,by unfold aN;simp⟩
def ak.Ma(D:ak)(a:Int):ak:={D with js:=true,left:=max a 0}
def Pz{D:ak}(m:aN e)(c:aW b a f D):Calls ZQ 114 #[ZX a,QH e] b (Ok λh d=>h= .tuple #[]/\aW d a f (D.Ma e)/\de f b f d):=by
 have i:(if e>0 then e else 0)=max e 0:=oM
 refine vP ⟨a,0,rfl,c.Jw λn j k o=>⟨a,0,rfl,j.NZ oM (by unfold aN at*;omega) λp g l q=>Ok.mk ⟨rfl,?_,k.then l,λ_ c=>.inl c⟩⟩⟩;rw[i]at g;exact g
def ak.dies(D:ak):Bool:=D.dead||(D.js&&D.left==0)
def ak.di(D:ak):ak:=if D.js then{D with left:=D.left-1}else D
def ak.gone(D:ak):ak:={D with dead:=true}
def Mb{D:ak}(m:aW b a f D){e:Int}{D':ak}(B:enters ZQ z=true)(F:D.dies=false->∀c,aW c a f D.di->aj f b c->c.heap.size=b.heap.size->Calls ZQ z (r++ #[]++X) c (Ok λi g=>∃h,i= QH e/\aW g a h D'/\de f c h g)):
  Calls ZQ 241 #[ZX a,.func (.func z) r X] b (Ok λi g=>∃h,i= QH (if D.dies then 15 else e)/\aW g a h (if D.dies then D.gone else D')/\de f b h g):=by
 obtain⟨M,w⟩:=m.head;have n:∀c,D.dies=true->aW c a f {D with dead:=true}->aj f b c->Ok (λi g=>∃h,i= QH (if D.dies then 15 else e)/\aW g a h (if D.dies then D.gone else D')/\de f b h g) (.returned (QH 15)) c:=
  λc j d H=>Ok.mk ⟨f,by rw[j];rfl,by rw[j];exact d,H,λ_ m=>.inl m⟩
 refine uQ ⟨λc=>aW c a f D/\aj f b c/\c.heap.size=b.heap.size/\D.dies=false,?_,?_⟩
 ·refine⟨a,0,rfl,_,ae w rfl,al.mk (λj=>⟨a,0,rfl,m.AX λc d k q=>?_⟩) (λj=>⟨a,0,rfl,_,ae w rfl,al.mk (λo=>⟨a,0,rfl,_,ae w rfl,a,0,rfl,m.AX λc d k q=>?_⟩) (λo=>⟨a,0,rfl,m.AX λc d k q=>?_⟩)⟩)⟩
  ·obtain⟨x,p⟩:=d.head
   exact⟨a,0,rfl,true,ae p rfl,n c (by simp[ak.dies,j]) d k⟩
  ·obtain⟨x,p⟩:=d.head
   refine⟨a,0,rfl,D.left==0,ae p rfl,al.mk (λs=>n c (by unfold ak.dies;rw[o,s];simp) (by rw[s]at d;exact d) k) (λs=>⟨?_,k,q,by unfold ak.dies;rw[j,s];simp⟩)⟩;have:({D with dead:=D.left==0}:ak)=D:=by rw[s,<-j]
   rw[this]at d;exact d
  ·obtain⟨x,p⟩:=d.head
   refine⟨a,0,rfl,false,ae p rfl,?_,k,q,by simp[ak.dies,j,o]⟩;have:({D with dead:=false}:ak)=D:=by rw[<-j]
   rw[this]at d;exact d
 ·rintro N c ⟨d,k,q,u⟩
  obtain⟨x,p⟩:=d.head;have t:∀l,aW l a f D.di->aj f b l->l.heap.size=b.heap.size->PC ZQ z (r++ #[]++X) l (λi g=>∃C:Int,i= QH C/\Ok (λi g=>∃h,i= QH (if D.dies then 15 else e)/\aW g a h (if D.dies then D.gone else D')/\de f b h g) (.returned (QH C)) g)
    (λI g=>Ok (λi g=>∃h,i= QH (if D.dies then 15 else e)/\aW g a h (if D.dies then D.gone else D')/\de f b h g) (.panicked I) g):=by
   intro l y v A;refine PC.ok (F u l y v A) ?_;rintro _ O ⟨h,rfl,J,K⟩;exact⟨e,rfl,Ok.mk ⟨h,by rw[u];rfl,by rw[u];exact J,(de.mk v λ_ m=>.inl m:de f b f l).trans K⟩⟩
  refine⟨a,0,rfl,_,ae p rfl,al.mk (λo=>?_) (λo=>?_)⟩
  ·have P:D.left≠0:=by
    intro E;simp[ak.dies,o,E]at u
   have E:=d.ok.Cs;have Q:=d.ok.Ct;have L:IntKind.wrap .i64 (D.left-1)=D.left-1:=wrap_i64 (by unfold aN at*;omega);refine⟨a,0,rfl,_,ae p rfl,a,0,rfl,?_⟩;rw[L];refine d.NZ oM (by unfold aN at*;omega) λl y v A=>⟨z,r,X,rfl,B,t l ?_ (k.then v) (A.trans q)⟩
   unfold ak.di;rw[if_pos o];exact y
  ·refine⟨z,r,X,rfl,B,t c ?_ k q⟩
   unfold ak.di;rw[if_neg (by simp[o])];exact d
def cs:ByteArray:=⟨#[97,98,99,100,101,102,103,104,105,106,107,108,109,110,111,112,113,114,115,116,117,118,119,120,121,122,48,49,50,51,52,53,54,55,56,57,46]⟩
def Sm:∀a:UInt8,decide (0<=Lib.indexByte cs.data.toList a)=eW a:=by
 have c:(List.range 256).all (λb=>decide (0<=Lib.indexByte cs.data.toList (UInt8.ofNat b))==eW (UInt8.ofNat b))=true:=by decide+kernel
 intro a;have:=List.all_eq_true.1 c a.toNat (List.mem_range.2 a.toNat_lt);simpa using this
def Um(c:128<=c2.toNat):eW c2=false:=by
 have a:(List.range 128).all (λb=>eW (UInt8.ofNat (128+b))==false)=true:=by decide+kernel
 have:=List.all_eq_true.1 a (c2.toNat-128) (List.mem_range.2 (by have:=c2.toNat_lt;omega));rw[show 128+(c2.toNat-128)=c2.toNat by omega]at this;simpa using this
def CG:∀a∈cs.data.toList,a.toNat<128:=by decide+kernel
def Un:cs.size=37:=by decide+kernel
def strings_IndexByte{a:ByteArray}{b:Int}{c:World}:Calls ZQ 341 #[.string a,.int .u8 b] c (Ok λe d=>e= QH (Lib.indexByte a.data.toList b.toNat.toUInt8)/\c=d):=
 (Any.strings_IndexByte Tryz.Uo a b c).mono λh d ⟨f,g⟩=>⟨_,f,rfl,g.symm⟩
def CH:Calls ZQ 342 #[.int .i32 e] b (Ok λf g=>f= .bool (Utf8.valid e)/\b=g):=by
 have d:=validRune_eq e;unfold validRune at d;refine mP (al.dec (λh=>al.dec (λi=>?_) (λi=>al.dec (λa=>al.dec (λc=>?_) (λc=>?_)) (λa=>?_))) (λh=>al.dec (λa=>al.dec (λc=>?_) (λc=>?_)) (λa=>?_)))
 all_goals
  refine Ok.mk ⟨?_,rfl⟩;rw[d]
  congr 1
  simp;omega
def rG(b:a<x.size):x[a]? =some (x[a]'b):=by simp[b]
def tR:∀{l:List UInt8} {a:UInt8},(∀b∈l,b≠a)->Lib.indexByte l a= -1
 |[],_,_=>rfl
 |b::l,a,c=>by
  have d:(b==a)=false:=beq_false_of_ne (c b (QV ..));have e:=tR (l:=l) λf g=>c f (QJ _ g);unfold Lib.indexByte;rw[d,e];rfl
def rH(y:0<=e):
  Calls ZQ 320 #[.string cs,.int .i32 e] b (Ok λi a=>(∃d:Int,i= QH d/\decide (d>=0)=(decide (e<128)&&eW e.toNat.toUInt8))/\ai b a):=by
 refine te ⟨λj a=>j=decide (e<128)/\a=b,al.dec (λ_=>⟨rfl,rfl⟩) (λg=>absurd y g),?_⟩;rintro Q p h ⟨rfl,rfl⟩;refine al.dec (λg=>PC.ok strings_IndexByte ?_) (λg=>al.dX (λz=>?_) (λz=>PC.ok CH ?_))
 ·rintro _ _ ⟨rfl,rfl⟩
  refine⟨_,rfl,Ok.mk ⟨⟨_,rfl,?_⟩,aj.refl _⟩⟩;have A:IntKind.wrap .u8 e=e:=by
   unfold IntKind.wrap;simp[IntKind.signed,IntKind.bits];omega
  rw[A,decide_eq_true g,Bool.true_and];exact Sm _
 ·have no:∀a,ai h a->Ok (λi a=>(∃d:Int,i= QH d/\decide (d>=0)=(decide (e<128)&&eW e.toNat.toUInt8))/\ai h a) (.returned (QH (-1))) a:=λa q=>
   Ok.mk ⟨⟨_,rfl,by rw[Xv g];rfl⟩,q⟩
  refine CI Tryz.underlying9 λB C r R=>⟨λk a=>∃c,k=cs.size-c/\a.heap[h.heap.size]? =some (.stringIter cs c)/\ai h a,⟨_,0,rfl,C,r⟩,?_⟩
  rintro k p s ⟨c,rfl,E,t⟩;refine HL E (λ_=>.inl ⟨rfl,no s t⟩) λl F u H S=>.inr ⟨_,_,rfl,?_⟩;have m:(cs[c]'l).toNat<128:=CG _ (by rw[show cs[c]'l=cs.data.toList[c]'(by simpa using l)from by simp;rfl];exact XY _);have I:=decode_ascii cs c l m;rw[I]at u⊢;refine al.dX (λg=>oM) (λ_=>⟨_,?_,c+1,rfl,u,t.new H λj m=>.inr oM⟩);omega
 ·have no:∀a,ai h a->Ok (λi a=>(∃d:Int,i= QH d/\decide (d>=0)=(decide (e<128)&&eW e.toNat.toUInt8))/\ai h a) (.returned (QH (-1))) a:=λa q=>
   Ok.mk ⟨⟨_,rfl,by rw[Xv g];rfl⟩,q⟩
  rintro _ _ ⟨rfl,rfl⟩;refine⟨_,rfl,al.not (al.mk (λJ=>?_) (λ_=>no _ (aj.refl _)))⟩;obtain⟨K,L,v⟩:=encode_facts e J oM;refine aH.mk (run_convert_int_string h _ _ .i32 e kR Tryz.underlying9) ⟨_,rfl,?_⟩;generalize Utf8.encode e=f at K L v⊢;have M:IntKind.wrap .i64 (((f.size:Nat):Int)-1)=((f.size-1:Nat):Int):=by rw[wrap_i64 (by unfold aN;omega)];omega
  rw[M];refine⟨λk d a=>d=((f.size-1:Nat):Int)/\ai h a,⟨0,rfl,aj.refl _⟩,?_⟩;rintro k d p B ⟨rfl,r⟩;have T:=Un;have n:f.size-1<f.size:=oM
  have o:f.size-1<cs.size:=oM
  have U:=v n;have V:(cs[f.size-1]'o).toNat<128:=CG _ (by rw[show cs[f.size-1]'o=cs.data.toList[f.size-1]'(by simpa using o)from by simp;rfl];exact XY _);refine al.dec (λW=>⟨λ_ _=>False,?_,λd p b g=>g.elim⟩) (λX=>oM);simp only[Qx];rw[an oM];refine⟨oM,_,rG o,oM,_,rG n,λs N=>al.dw (λ_=>λF O=>⟨oM,oM,oM,_,rG n,PC.ok strings_IndexByte ?_⟩) (λw=>oM)⟩;rintro _ _ ⟨rfl,rfl⟩;have P:Lib.indexByte (cs.extract (Int.toNat ((f.size-1+1:Nat):Int)) cs.size).data.toList ((((f[f.size-1]'n).toNat:Nat):Int).toNat.toUInt8)= -1:=by
   refine tR λj m w=>?_;have x:=CG j (mem_extract m);rw[w]at x;simp at x;omega
  refine⟨_,rfl,al.dec (λ_=>no _ ((r.af N.keep).af O.keep)) (λg=>?_)⟩;rw[P]at g;omega
def CK(f:0<=e):
  Calls ZQ 290 #[.int .i32 e] b (Ok λa c=>a= .bool (!(decide (e<128)&&eW e.toNat.toUInt8))/\ai b c):=by
 refine ym (PC.ok (φ:=λa c=>a= .bool (decide (e<128)&&eW e.toNat.toUInt8)/\ai b c) (oQ (PC.ok (rH f) ?_)) ?_)
 ·rintro _ g ⟨⟨h,rfl,i⟩,d⟩
  exact⟨h,rfl,Ok.mk ⟨by rw[i],d⟩⟩
 ·rintro _ g ⟨rfl,d⟩
  exact⟨_,rfl,Ok.mk ⟨rfl,d⟩⟩
def l_:
  Calls ZQ 292 #[.string x,.func (.func 290) #[] #[]] b (Ok λg f=>g= .bool (!x.data.toList.all eW)/\ai b f):=by
 have u:enters ZQ 290=true:=kR
 refine oR (PC.ok (φ:=λg f=>(∃d:Int,g= QH d/\decide (d>=0)= !x.data.toList.all eW)/\ai b f) (tw (PC.ok (φ:=λg f=>(∃d:Int,g= QH d/\decide (d>=0)= !x.data.toList.all eW)/\ai b f) (tx ?_) ?_)) ?_)
 ·refine CI Tryz.underlying9 λF v w H=>⟨λp f=>∃a,p=x.size-a/\a<=x.size/\f.heap[b.heap.size]? =some (.stringIter x a)/\ai b f/\(∀i∈x.data.toList.take a,eW i=true),⟨_,0,rfl,Qj _,v,w,sM⟩,?_⟩
  rintro p I J ⟨a,rfl,K,y,q,j⟩;refine HL y (λz=>.inl ⟨rfl,Ok.mk ⟨⟨_,rfl,?_⟩,q⟩⟩) λe A r B L=>.inr ⟨_,_,rfl,_,_,_,rfl,u,?_⟩
  ·rw[Qz (by simpa using z)]at j
   have:x.data.toList.all eW=true:=List.all_eq_true.2 j;rw[this];rfl
  ·have s:ai b A:=q.new B λi c=>.inr oM
   have t:x.data.toList[a]? =some (x[a]'e):=by
    rw[Qq (by simpa using e)];simp;rfl
   refine PC.ok (CK (Int.natCast_nonneg _)) ?_;rintro _ M ⟨rfl,k⟩;refine⟨_,rfl,al.mk (λl=>?_) (λh=>?_)⟩
   ·
    refine Ok.mk ⟨⟨_,rfl,?_⟩,s.af k⟩;have m:eW (x[a]'e)=false:=by
     by_cases c:(x[a]'e).toNat<128
     ·rw[decode_ascii x a e c]at l
      simp at l;exact l.resolve_left oM
     ·exact Um oM
    have:x.data.toList.all eW=false:=List.all_eq_false.2 ⟨_,QZ t,by simp[m]⟩;rw[this];simp
   ·have c:(x[a]'e).toNat<128:=by
     by_cases c:(x[a]'e).toNat<128
     ·exact c
     ·have N:=(decode_high x a e oM).1
      have C:¬(((Utf8.decode x a).1:Int)<128):=oM
      rw[Xv C]at h;simp at h
    rw[decode_ascii x a e c]at r h;have m:eW (x[a]'e)=true:=by
     simp at h;exact h.2
    refine⟨_,?_,a+1,rfl,oM,k.get r id,s.af k,λi c=>?_⟩
    ·omega
    ·rw[Qw,t]at c
     rcases Q6.1 c with c|c
     ·exact j i c
     ·simp at c;rw[c];exact m
 ·rintro _ E ⟨⟨d,rfl,n⟩,o⟩
  exact⟨d,rfl,Ok.mk ⟨⟨d,rfl,n⟩,o⟩⟩
 ·rintro _ E ⟨⟨d,rfl,n⟩,o⟩
  exact⟨d,rfl,Ok.mk ⟨by rw[n],o⟩⟩
def wG:Calls ZQ 243 #[.string x] b (Ok λc d=>c= .bool (dv x)/\ai b d):=by
 refine BX (al.Zl (λa=>al.dec (λe=>PC.ok l_ ?_) (λe=>Ok.mk ⟨?_,aj.refl _⟩)) (λa=>Ok.mk ⟨?_,aj.refl _⟩))
 ·rintro _ i ⟨rfl,f⟩
  refine⟨_,rfl,Ok.mk ⟨?_,f⟩⟩;have g:1<=x.size:=by
   by_cases h:x.size=0
   ·exact absurd (ByteArray.ext (Array.eq_empty_of_size_eq_zero h)) a
   ·omega
  unfold dv;rw[decide_eq_true g,decide_eq_true (show x.size<=16 by omega)];simp
 ·unfold dv
  rw[Xv (show¬x.size<=16 by omega)];simp
 ·subst a;rfl
def lG{D:Nat->Prop}(h:Row gq 1 b D d a v)(i:∀e,D e->e<b.heap.size):
  Calls ZQ 174 #[.slice d a c] b (Ok (qD gq 5 b v)):=by
 have y:=h.len;have f:=h.d_;refine mO (kZ ur.under ⟨_,rfl,al.mk (λg=>?_) (λg=>PA.mk λl j z m=>?_)⟩)
 ·have:v=[]:=by
   cases d with
   |none=>
    cases v with
    |nil=>rfl
    |cons n A=>obtain⟨e,o,B,p,_⟩:=h.el 0 n rfl;cases p
   |some q=>cases g
  subst this;exact Ok.mk ⟨none,0,0,λ_=>False,rfl,aV.nil b,aj.refl _,λ_ h=>h.elim⟩
 ·cases d with
  |none=>cases g
  |some q=>
   have r:aV gq 5 (·=b.heap.size) l (ZZ b.heap.size) 0 0 []:=
    ⟨⟨[],λ_=>False,Own.xF (cur:= #[]) m rfl (Qj _),rfl,λ_ h=>h.elim⟩,λe f=>by simpa[aI]using f.symm,λe f=>oM⟩
   refine lH r ur (D:=D) (h.af j) (λe f=>⟨by have:=i e f;omega,by have:=i e f;simp only[aI];intro s;cases s;omega⟩) (by simp;omega) (by unfold aQ at f;unfold maxLen;simp;omega) λk t C E u w _ x=>?_;refine⟨_,_,_,rfl,Ok.mk ⟨k,_,t,λe=>aI k=some e,rfl,by have h:=u.alone;rw[List.nil_append]at h;exact h,j.new w λe f=>.inr ?_,λe f=>?_⟩⟩
   ·simp only[aI,Q1]at f;omega
   ·rcases x e f with h|h<;>omega
def gY(a:Int)(b:Nat):Nat:=(max 0 (min a b)).toNat
def nV(b:Int)(a:Nat):gY b a<=a:=by unfold gY;omega
def bQ.cut(a:bQ)(b:Int):bQ:=⟨a.bytes.take (gY b a.bytes.length),gY b a.bytes.length,true⟩
def Ua(a:bQ)(b:Int):(a.cut b).bytes.length=gY b a.bytes.length:=by
 have:=nV b a.bytes.length;simp[bQ.cut];omega
def Cw{G:Nat->Prop}(j:eX b a G W)(d:W.bytes.length<=262144):
  Calls ZQ 123 #[ZX a,QH e] b (Ok λz q=>∃r,z= .tuple #[]/\eX q a r (W.cut e)/\de G b r q):=by
 obtain⟨s,f,k,A,B,h,R,S⟩:=j.body;have C:f=W.bytes.length:=h.len dC;have T:=h.jx;refine wj λl E=>?_;have g:ai b l:=E.keep;have i:=g.get B id;have U:=nV e W.bytes.length;have F:(if(if((f:Nat):Int)<e then((f:Nat):Int)else e)>0 then(if((f:Nat):Int)<e then((f:Nat):Int)else e)else 0)=((gY e W.bytes.length:Nat):Int):=by
  unfold gY;rw[C];omega
 refine⟨a,0,rfl,_,_,_,ae i rfl,a,0,rfl,s,f,k,ae i rfl,?_⟩;rw[F];refine⟨oM,oM,?_⟩;rw[Qx];have H:Row gq 1 l A s f W.bytes:=(h.row dC (by unfold aQ;omega)).af g;refine PC.ok (lG (H.take (m:=gY e W.bytes.length) oM) (λc d=>Qk (h.aF c d) g.size)) ?_;rintro _ I ⟨t,m,u,n,rfl,o,p,v⟩;have J:m=gY e W.bytes.length:=by have:=o.len dC;rw[this];simp;omega
 have V:a<l.heap.size:=aC i;refine⟨_,_,_,rfl,a,0,rfl,PS.mk (p.get i id) sM λX K Y w=>⟨a,0,rfl,t,m,u,ae w rfl,a,0,rfl,PS.mk w sM λZ L s4 M=>⟨a,0,rfl,PS.mk M sM λN O s5 P=>Ok.mk ?_⟩⟩⟩;have x:aj (·=a) I N:=(K.then L).then O;have y:∀c,n c->c≠a:=λc d=>by have:=v c d;omega
 refine⟨λc=>c=a\/n c,rfl,⟨⟨t,m,u,n,?_,o.keep x y,λc d=>.inr d,λQ=>y a Q rfl⟩,.inl rfl,?_⟩,⟨((ai.keep g).then (ai.keep p)).then (x.mono λc _ d=>by rw[d];exact j.self),?_⟩⟩
 ·rw[P]
  subst J
  rfl
 ·rintro c (rfl|d)
  ·have:=p.size;omega
  ·have:=o.aF c d;omega
 ·rintro c (rfl|d)
  ·exact .inl j.self
  ·have:=v c d;have:=g.size;exact .inr oM
structure fE (w:World) (p:Nat) (F:Nat->Prop) (D:ak) (r:Nat) (L:List (ByteArray×nW)):Prop where
 head:w.heap[p]? =some (.cells #[QH D.most,.map (some r),.bool D.js,QH D.left,.bool D.dead] 142 (0,0))
 map:cx w r Value.string (L.map eQ)
 files:D.files=L.map wC
 each:FJ w L
 Jy:∀x∈L,∀b,x.2.G b->F b/\b≠p/\b≠r
 Fr:F r
 pr:p≠r
 self:F p
 aF:∀b,F b->b<w.heap.size
 ok:D.Ok
def aW.open{D:ak}(c:aW b a f D):∃d e,fE b a f D d e:=by
 obtain⟨d,e,g,h,i,j,k,l,m⟩:=c.body;exact⟨d,e,g,h,i,j,k,l,m,c.self,c.aF,c.ok⟩
def fE.at{D:ak}(d:fE b a f D c a2):aW b a f D:=
 ⟨⟨c,a2,d.head,d.map,d.files,d.each,d.Jy,d.Fr,d.pr⟩,d.self,d.aF,d.ok⟩
def fE.keep{S g:Nat->Prop}{D:ak}(d:fE b a g D c a2)(f:aj S b k)(h:∀e,g e->¬S e):fE k a g D c a2:=
 ⟨f.get d.head (h _ d.self),d.map.keep f (h _ d.Fr),d.files,d.each.keep f (λj l e i=>h e (d.Jy j l e i).1),d.Jy,d.Fr,d.pr,d.self,λe i=>Qk (d.aF e i) f.size,d.ok⟩
def fE.af{D:ak}(d:fE b a f D c a2)(e:ai b k):fE k a f D c a2:=d.keep e λ_ _ d=>d
def fE.box{D:ak}(j:fE b a f D c a2)(e:ByteArray):
  (ay D.files e=none/\ay (a2.map eQ) e=none)\/∃d,ay a2 e=some d/\(e,d)∈a2/\ay D.files e=some d.f/\ay (a2.map eQ) e=some (ptr d.q):=by
 have g:ay (a2.map eQ) e=(ay a2 e).map λd=>ptr d.q:=Cv (λd:nW=>ptr d.q) a2 e;have h:ay D.files e=(ay a2 e).map λd=>d.f:=by rw[j.files];exact Cv (λd:nW=>d.f) a2 e
 cases i:ay a2 e with
 |none=>rw[i]at g h;exact .inl ⟨h,g⟩
 |some d=>rw[i]at g h;exact .inr ⟨d,rfl,cF i,h,g⟩
def ak.eJ(D:ak)(a:ByteArray)(b:bQ):ak:={D with files:=aJ D.files a b}
def ak.wB(D:ak)(a:ByteArray):ak:={D with files:=bV D.files a}
def ru{l:List (ByteArray×j)}{k:ByteArray}{v:j}(h:(k,v)∈l)(a:Tidy l):aJ l k v=l:=by
 induction l with
 |nil=>cases h
 |cons b l c=>
  obtain⟨d,f⟩:=b;unfold aJ;unfold Tidy at a;simp only[QY,List.nodup_cons]at a;rcases Q2.1 h with h|h
  ·cases h;simp
  ·have:(k==d)=false:=beq_false_of_ne λe=>a.1 (Xk.2 ⟨(k,v),h,e⟩)
   rw[if_neg (by simp[this]),c h a.2]
def fE.fr{j w':World}{o G':Nat->Prop}{D:ak}(e:fE j a o D c a2){k:ByteArray}{x:nW}(w:ay a2 k=some x)(u:eX w' x.q G' W)(i:de x.G j G' w')(y:(D.eJ k W).Ok):∃v,fE w' a v (D.eJ k W) c (aJ a2 k ⟨x.q,G',W⟩)/\de o j v w':=by
 have l:=cF w;have m:=e.Jy _ l;have z:aj o j w':=i.keep.mono λb _ d=>(m b d).1;have p:∀f∈aJ a2 k ⟨x.q,G',W⟩,f=(k,⟨x.q,G',W⟩)\/(f∈a2/\f.1≠k):=λf g=>gu e.each.tidy g;refine⟨λb=>o b\/(j.heap.size<=b/\b<w'.heap.size),⟨i.keep.get e.head λd=>(m _ d).2.1 rfl,?_,?_,⟨?_,?_,e.each.tidy.aJ _ _⟩,?_,.inl e.Fr,e.pr,.inl e.self,?_,y⟩,z,λb d=>d.imp id (·.1)⟩
 ·have A:(aJ a2 k ⟨x.q,G',W⟩).map eQ=a2.map eQ:=by
   have h:(aJ a2 k ⟨x.q,G',W⟩).map eQ=aJ (a2.map eQ) k (ptr x.q):=rm (λx:nW=>ptr x.q) a2 k _;rw[h];have B:Tidy (a2.map eQ):=e.map.tidy;exact ru (Xk.2 ⟨_,l,rfl⟩) B
  rw[A];exact e.map.keep i.keep λd=>(m _ d).2.2 rfl
 ·have h:(aJ a2 k ⟨x.q,G',W⟩).map wC=aJ (a2.map wC) k W:=rm (λx:nW=>x.f) a2 k _
  rw[h,<-e.files];rfl
 ·intro f g
  rcases p f g with rfl|⟨g,t⟩
  ·exact u
  ·exact(e.each.each f g).keep i.keep λb d=>e.each.apart f g _ l t b d
 ·intro f g q n r b d s
  rcases p f g with rfl|⟨g,t⟩<;>rcases p q n with rfl|⟨n,C⟩
  ·exact r rfl
  ·rcases i.new b d with h|h
   ·exact e.each.apart _ l q n r b h s
   ·have:=(e.each.each q n).aF b s;omega
  ·rcases i.new b s with h|h
   ·exact e.each.apart f g _ l r b d h
   ·have:=(e.each.each f g).aF b d;omega
  ·exact e.each.apart f g q n r b d s
 ·intro f g b d
  rcases p f g with rfl|⟨g,t⟩
  ·have E:=aC e.head
   have F:=e.map.lt;rcases i.new b d with h|h
   ·exact⟨.inl (m b h).1,(m b h).2⟩
   ·exact⟨.inr ⟨h,u.aF b d⟩,oM,oM⟩
  ·exact⟨.inl (e.Jy f g b d).1,(e.Jy f g b d).2⟩
 ·rintro b (d|d)
  ·exact Qk (e.aF b d) i.keep.size
  ·exact d.2
def fE.drop{D:ak}(e:fE b a f D c a2)(p:cx k c Value.string (bV (a2.map eQ) x))(j:aj (·=c) b k)(q:(D.wB x).Ok):fE k a f (D.wB x) c (bV a2 x):=by
 have h:∀d∈bV a2 x,d∈a2:=λd g=>gN g;refine⟨j.get e.head (λi=>e.pr i),?_,?_,⟨λd g=>((e.each.each d (h d g)).keep j λl m=>(e.Jy d (h d g) l m).2.2),λd g o r=>e.each.apart d (h d g) o (h o r),e.each.tidy.bV x⟩,λd g=>e.Jy d (h d g),e.Fr,e.pr,e.self,λl m=>Qk (e.aF l m) j.size,q⟩
 ·have i:(bV a2 x).map eQ=bV (a2.map eQ) x:=Cu (λn:nW=>ptr n.q) a2 x
  rw[i];exact p
 ·have i:(bV a2 x).map wC=bV (a2.map wC) x:=Cu (λn:nW=>n.f) a2 x
  rw[i,<-e.files];rfl
def fE.put{r G':Nat->Prop}{D:ak}(g:fE b a r D c a2){q:Nat}(w:cx k c Value.string (aJ (a2.map eQ) x (ptr q)))(h:aj (·=c) b k)(s:eX b q G' W)(t:∀e∈a2,e.1≠x->∀d,G' d->¬e.2.G d)(u:∀d,G' d->d≠a/\d≠c)(y:(D.eJ x W).Ok):
  fE k a (λd=>r d\/G' d) (D.eJ x W) c (aJ a2 x ⟨q,G',W⟩):=by
 have j:∀e∈aJ a2 x ⟨q,G',W⟩,e=(x,⟨q,G',W⟩)\/(e∈a2/\e.1≠x):=λe f=>gu g.each.tidy f;refine⟨h.get g.head (λi=>g.pr i),?_,?_,⟨?_,?_,g.each.tidy.aJ _ _⟩,?_,.inl g.Fr,g.pr,.inl g.self,?_,y⟩
 ·have i:(aJ a2 x ⟨q,G',W⟩).map eQ=aJ (a2.map eQ) x (ptr q):=rm (λm:nW=>ptr m.q) a2 x _
  rw[i];exact w
 ·have i:(aJ a2 x ⟨q,G',W⟩).map wC=aJ (a2.map wC) x W:=rm (λm:nW=>m.f) a2 x _
  rw[i,<-g.files];rfl
 ·intro e f
  rcases j e f with rfl|⟨f,n⟩
  ·exact s.keep h λd B=>(u d B).2
  ·exact(g.each.each e f).keep h λd B=>(g.Jy e f d B).2.2
 ·intro e f o l v d B p
  rcases j e f with rfl|⟨f,n⟩<;>rcases j o l with rfl|⟨l,z⟩
  ·exact v rfl
  ·exact t o l z d B p
  ·exact t e f n d p B
  ·exact g.each.apart e f o l v d B p
 ·intro e f d B
  rcases j e f with rfl|⟨f,n⟩
  ·exact⟨.inr B,u d B⟩
  ·exact⟨.inl (g.Jy e f d B).1,(g.Jy e f d B).2⟩
 ·rintro d (B|B)
  ·exact Qk (g.aF d B) h.size
  ·exact Qk (s.aF d B) h.size
end Go.Proofs.YtfchlbaidamodaaGreatDoor
namespace Go.ax
open Go
def DX(cs:Array Value):Nat->List Value->Array Value
 |_,[]=>cs
 |a,b::c=>DX (cs.setIfInBounds a b) (a+1) c
def GF:∀(c:List Value) (cs:Array Value) (b a:Nat),(DX cs b c)[a]? =if b<=a/\a<b+c.length/\a<cs.size then c[a-b]? else cs[a]?
 |[],cs,b,a=>by rw[if_neg (by simp;omega)];rfl
 |v::c,cs,b,a=>by
  unfold DX;rw[GF c,Array.getElem?_setIfInBounds];simp only[Xq,Array.size_setIfInBounds]
  by_cases d:b+1<=a/\a<b+1+c.length/\a<cs.size
  ·rw[if_pos d,if_pos oM,show a-b=(a-(b+1))+1 by omega,List.getElem?_cons_succ]
  ·rw[if_neg d]
   by_cases e:b=a
   ·subst e
    by_cases f:b<cs.size
    ·rw[if_pos rfl,if_pos f,if_pos oM,Nat.sub_self,List.getElem?_cons_zero]
    ·rw[if_pos rfl,if_neg f,if_neg oM,Array.getElem?_eq_none oM]
   ·rw[if_neg e,if_neg oM]
variable{a3:List Value}{a:Nat}{g:TypeId}{b:World}{y:World->Prop}
def GH{cs:Array Value}(b:a3.length=cs.size):DX cs 0 a3=a3.toArray:=by
 apply Array.ext_getElem?;intro a;rw[GF]
 by_cases c:a<cs.size
 ·rw[if_pos oM];simp
 ·rw[if_neg oM,Array.getElem?_eq_none oM]
  simp;omega
def zU{d:Nat}{h:TypeId}{i:World->Prop}:∀(c:List Value) (b:Nat) {a:World} {cs:Array Value},a.heap[d]? =some (.cells cs h (0,0))->b+c.length<=cs.size->
  (∀e,aj (·=d) a e->e.heap.size=a.heap.size->e.heap[d]? =some (.cells (DX cs b c) h (0,0))->i e)->jG ⟨d,0,none⟩ b c a i
 |[],b,a,cs,f,j,g=>g a (aj.refl _) rfl f
 |v::c,b,a,cs,f,j,g=>by
  unfold jG;rw[Addr.add_lit,Xz];rw[Xq]at j;exact PS.mk f oM λr k l m=>zU c (b+1) m (by simp;omega) λn o p q=>g n (k.then o) (p.trans l) q
def storeAll{cs:Array Value}(d:List Value)(e:b.heap[a]? =some (.cells cs g (0,0)))(f:d.length=cs.size)(h:∀c,aj (·=a) b c->c.heap.size=b.heap.size->c.heap[a]? =some (.cells d.toArray g (0,0))->y c):jG ⟨a,0,none⟩ 0 d b y:=
 zU d 0 e oM λc i j k=>h c i j (by rw[k,GH f])
end Go.ax
namespace Go.ax
open Go
def wrap_u32(a:Nat)(b:a<2 ^ 32):IntKind.wrap .u32 (a:Int)=a:=by
 unfold IntKind.wrap;simp[IntKind.signed,IntKind.bits];omega
def wrap_u8(a:Nat):IntKind.wrap .u8 (a:Int)=((a % 256:Nat):Int):=by
 unfold IntKind.wrap;simp[IntKind.signed,IntKind.bits]
def ofInt32(a:sF):BitVec.ofInt (IntKind.bits .u32) ((a.toNat:Nat):Int)=a:=by
 show BitVec.ofInt 32 ((a.toNat:Nat):Int)=a;rw[BitVec.ofInt_natCast];simp
def LR(a b:sF):qY .u32 ((a.toNat:Nat):Int) ((b.toNat:Nat):Int)=(((a ^^^ b).toNat:Nat):Int):=by
 unfold qY;rw[ofInt32,ofInt32];exact wrap_u32 _ (a ^^^ b).isLt
def RQ(a:sF):qY .u32 (IntKind.max .u32) ((a.toNat:Nat):Int)=(((~~~a).toNat:Nat):Int):=by
 have b:IntKind.max .u32=(((BitVec.allOnes 32).toNat:Nat):Int):=by decide+kernel
 rw[b,LR,BitVec.allOnes_xor]
def VM(a:sF):iA .u32 ((a.toNat:Nat):Int) 8=(((a>>>8).toNat:Nat):Int):=by
 unfold iA;have:(min (Int.toNat 8) (IntKind.bits .u32))=8:=dC
 rw[this,BitVec.toNat_ushiftRight,Nat.shiftRight_eq_div_pow];show Int.fdiv _ ((2 ^ 8:Nat):Int)=_;rw[Int.fdiv_eq_ediv_of_nonneg _ (Int.natCast_nonneg _)]
 rfl
def Xl(a b:Nat)(c:a<256)(d:b<256):qY .u8 (a:Int) (b:Int)=((a ^^^ b:Nat):Int):=by
 unfold qY;show IntKind.wrap .u8 ((BitVec.ofInt 8 (a:Int) ^^^ BitVec.ofInt 8 (b:Int)).toNat:Int)=_;have e:a ^^^ b<2 ^ 8:=Nat.xor_lt_two_pow oM oM;rw[BitVec.ofInt_natCast,BitVec.ofInt_natCast,BitVec.toNat_xor,BitVec.toNat_ofNat,BitVec.toNat_ofNat,Nat.mod_eq_of_lt oM,Nat.mod_eq_of_lt oM,wrap_u8,Nat.mod_eq_of_lt oM]
def VN(a:Nat)(c:a<256):BL .u8 (a:Int) 15=((a % 16:Nat):Int):=by
 unfold BL;show IntKind.wrap .u8 ((BitVec.ofInt 8 (a:Int)&&&BitVec.ofInt 8 ((15:Nat):Int)).toNat:Int)=_;have b:a&&&15=a % 16:=Nat.and_two_pow_sub_one_eq_mod a 4;rw[BitVec.ofInt_natCast,BitVec.ofInt_natCast,BitVec.toNat_and,BitVec.toNat_ofNat,BitVec.toNat_ofNat,Nat.mod_eq_of_lt oM,Nat.mod_eq_of_lt oM,b,wrap_u8,Nat.mod_eq_of_lt oM]
def Xm(a:Nat):iA .u8 (a:Int) 4=((a/16:Nat):Int):=by
 unfold iA;have:(min (Int.toNat 4) (IntKind.bits .u8))=4:=dC
 rw[this];show Int.fdiv _ ((2 ^ 4:Nat):Int)=_;rw[Int.fdiv_eq_ediv_of_nonneg _ (Int.natCast_nonneg _)]
 rfl
end Go.ax
namespace Go.Proofs.YtfchlbaidamodaaGreatDoor
open Go.ax
structure qU (w:World):Prop where
 lower:∀i,i<16->w.cell? ⟨2,i,none⟩=some (.int .u32 ((kv.getD i 0:Nat):Int))
 upper:∀i,i<16->w.cell? ⟨3,i,none⟩=some (.int .u32 ((ky.getD i 0:Nat):Int))
 lt:2<w.heap.size/\3<w.heap.size
variable{v:List UInt8}{a c:Nat}{f:Nat->Prop}{d:Option Addr}{b k:World}
def qU.af(a:qU b)(d:ai b k):qU k:=
 ⟨λc e=>(d.cell (a:=⟨2,c,none⟩) a.lt.1 id).trans (a.lower c e),λc e=>(d.cell (a:=⟨3,c,none⟩) a.lt.2 id).trans (a.upper c e),Qk a.lt.1 d.size,Qk a.lt.2 d.size⟩
def RR:∀a,kv.getD a 0<2 ^ 32/\ky.getD a 0<2 ^ 32:=by
 intro a
 by_cases b:a<16
 ·have c:(List.range 16).all (λa=>decide (kv.getD a 0<2 ^ 32/\ky.getD a 0<2 ^ 32))=true:=by decide+kernel
  simpa using List.all_eq_true.1 c a (List.mem_range.2 b)
 ·rw[QQ,QQ,Q7 (by show 16<=a;omega),Q7 (by show 16<=a;omega)]
  decide
def RS{s:sF}(q:qU b)(k:Row gq 1 b f d a v):
  Calls ZQ 316 #[.int .u32 ((s.toNat:Nat):Int),.slice d a c] b (Ok λr l=>r= .int .u32 (((NX s v).toNat:Nat):Int)/\bE b l):=by
 have I:=k.len;have t:=k.d_;unfold aQ at t;refine LB ⟨λo e i l=>∃h:Nat,i=h/\h<=a/\o=a-h/\bE b l/\e=((((v.take h).foldl lb (~~~s)).toNat:Nat):Int),⟨_,0,rfl,Qj _,rfl,bE.refl b,by rw[RQ];rfl⟩,?_⟩;rintro o e i J K ⟨h,rfl,L,rfl,j,rfl⟩;generalize m:(v.take h).foldl lb (~~~s)=e;refine al.dec (λu=>?_) (λu=>Ok.mk ⟨?_,j⟩)
 ·obtain⟨w,n,g,rfl,x,_,y⟩:=(k.af j.keep).mh (i:=h) oM
  have p:=q.af j.keep;have M:=g.toNat_lt;have z:IntKind.wrap .u8 ((e.toNat:Nat):Int)=((e.toNat % 256:Nat):Int):=wrap_u8 _;have N:g.toNat ^^^ e.toNat % 256<2 ^ 8:=Nat.xor_lt_two_pow oM oM;have A:qY .u8 ((g.toNat:Nat):Int) (IntKind.wrap .u8 ((e.toNat:Nat):Int))=((g.toNat ^^^ e.toNat % 256:Nat):Int):=by rw[z,Xl _ _ oM oM]
  refine⟨w,n,rfl,oM,oM,_,y,?_⟩;rw[A,VN _ oM,Xm];refine⟨2,0,rfl,oM,oM,((kv.getD ((g.toNat ^^^ e.toNat % 256) % 16) 0:Nat):Int),?_,3,0,rfl,oM,oM,((ky.getD ((g.toNat ^^^ e.toNat % 256)/16) 0:Nat):Int),?_,λO B=>⟨_,oM,h+1,an oM,oM,rfl,j.then B,?_⟩⟩
  ·rw[Xz];exact p.lower _ oM
  ·rw[Xz];exact p.upper _ oM
  ·have C:=(RR ((g.toNat ^^^ e.toNat % 256) % 16)).1
   have E:=(RR ((g.toNat ^^^ e.toNat % 256)/16)).2;rw[VM];have F:((kv.getD ((g.toNat ^^^ e.toNat % 256) % 16) 0:Nat):Int)=(((BitVec.ofNat 32 (kv.getD ((g.toNat ^^^ e.toNat % 256) % 16) 0)).toNat:Nat):Int):=by rw[BitVec.toNat_ofNat,Nat.mod_eq_of_lt C]
   have H:((ky.getD ((g.toNat ^^^ e.toNat % 256)/16) 0:Nat):Int)=(((BitVec.ofNat 32 (ky.getD ((g.toNat ^^^ e.toNat % 256)/16) 0)).toNat:Nat):Int):=by rw[BitVec.toNat_ofNat,Nat.mod_eq_of_lt E]
   rw[F,H,LR,LR,<-Pt,Qw,x,List.foldl_append,m]
   rfl
 ·rw[Qz oM]at m
  rw[RQ,<-m];rfl
def NY(e:qU b)(g:Row gq 1 b f d a v):
  Calls ZQ 284 #[.slice d a c] b (Ok λh i=>h= .int .u32 (((LS v).toNat:Nat):Int)/\bE b i):=by
 refine Pp (PC.ok (RS (s:=0#32) e g) ?_);rintro _ k ⟨rfl,j⟩;exact⟨_,rfl,Ok.mk ⟨rfl,j⟩⟩
end Go.Proofs.YtfchlbaidamodaaGreatDoor
namespace Go.ax
open Go
def wrap_u32'(a:Int):IntKind.wrap .u32 a=a % 4294967296:=by
 unfold IntKind.wrap;simp[IntKind.signed,IntKind.bits]
def Ml{a d:Nat}(e:a<16777216)(f:d<256):Rg .u32 (Jn .u32 (a:Int) 8) (IntKind.wrap .u32 (d:Int))=((a*256+d:Nat):Int):=by
 have b:Jn .u32 (a:Int) 8=((a*256:Nat):Int):=by
  unfold Jn;have:min (Int.toNat 8) (IntKind.bits .u32)=8:=dC
  rw[this,wrap_u32'];have:((2:Int) ^ 8)=256:=dC
  rw[this];omega
 rw[b,wrap_u32 _ oM];unfold Rg;show IntKind.wrap .u32 ((BitVec.ofInt 32 ((a*256:Nat):Int)|||BitVec.ofInt 32 (d:Int)).toNat:Int)=_;have c:a*256|||d=a*256+d:=by
  have:=(Nat.shiftLeft_add_eq_or_of_lt (a:=a) (i:=8) (b:=d) oM).symm
  rwa [Nat.shiftLeft_eq]at this
 rw[BitVec.ofInt_natCast,BitVec.ofInt_natCast,BitVec.toNat_or,BitVec.toNat_ofNat,BitVec.toNat_ofNat,Nat.mod_eq_of_lt oM,Nat.mod_eq_of_lt oM,c,wrap_u32 _ oM]
def jX(a:Nat):IntKind.wrap .u8 (a:Int)=((UInt8.ofNat a).toNat:Int):=by
 rw[wrap_u8,UInt8.toNat_ofNat']
def O_{k:IntKind}{u m:Nat}(a:m<=k.bits):iA k (u:Int) (m:Int)=((u/2 ^ m:Nat):Int):=by
 unfold iA;rw[Qx,X2 a];show Int.fdiv _ ((2:Int) ^ m)=_;rw[Int.fdiv_eq_ediv_of_nonneg _ (Int.pow_nonneg dC)];simp
variable{a c:Nat}{d:Option Addr}{h:Program}{A g q:TypeId}{o u:Value->World->Prop}{b:World}
def PF{d tn k c:TypeId}(l:jP h d c 1 1)(n:h.underlying tn=some (.int .i64))(p:0<a)(q:a<=aQ)(e:∀f g,aV gq c (·=b.heap.size) f (ZZ b.heap.size) 0 g []->a<=g->ai b f->o (.slice (ZZ b.heap.size) a g) f):
  aH h (Builtin.append_ #[d,tn] k #[.slice none 0 0,QH (a:Int)]) b o u:=by
 obtain⟨r,i,s,t,B,v,w⟩:=l.info;unfold aQ at q;have x:=Lib.run_append_nil_zeros (P:=h) b d tn k c r i .i64 .i64 l.under n s t a p oM oM (by rw[v];omega);have y:=grownCap_ge b a 0 c;refine aH.mk x (e _ _ ?_ y ?_)
 ·have m:=heap_alloc_new b.drew (.cells (Builtin.zeroCells i.cells a++Builtin.zeroCells i.cells (grownCap b a 0 c-a)) c)
  refine⟨⟨[],λ_=>False,⟨⟨sM,.inr ⟨b.heap.size,grownCap b a 0 c,_,rfl,Qj _,m,Qj _,grownCap_le_maxLen b a 0 c (by unfold maxLen;omega),?_,sM⟩⟩⟩,rfl,λ_ e=>e.elim⟩,λz j=>by simpa[aI]using j.symm,λz j=>by rw[j];exact aC m⟩;rw[Array.size_append,size_zeroCells,size_zeroCells,w];show a*1+(grownCap b a 0 c-a)*1=grownCap b a 0 c*1;omega
 ·have A:ai b (b.drewN 1):=aj.drewN b 1
  exact A.then (aj.alloc _ _)
def Vo(e:h.underlying g=some (.slice q))(f:o (QH (c:Int)) b):aH h (Builtin.cap_ #[g] A #[.slice d a c]) b o u:=by
 refine aH.mk (v:=QH (c:Int)) ?_ f;simp[Builtin.cap_,run_underlying e,goInt]
end Go.ax
namespace Go.Proofs.YtfchlbaidamodaaGreatDoor
open Go.ax
variable{a7 v:List UInt8}{E a c i n:Nat}{F:Nat×Nat}{d p:Option Addr}{b:World}
def wJ{bs:List UInt8}{D:Nat->Prop}(g:Row gq 1 b D d a bs)(r:a<=4):
  Calls ZQ 299 #[.slice d a c] b (Ok λk e=>k= .int .u32 (gO bs:Int)/\b=e):=by
 have s:=g.len;refine BY ⟨λm h i e=>∃j:Nat,i=j/\j<=a/\m=a-j/\h=(gO (bs.take j):Int)/\b=e,⟨_,0,rfl,Qj _,rfl,rfl,rfl⟩,?_⟩;rintro m h i _ t ⟨j,rfl,u,rfl,rfl,rfl⟩;refine al.dec (λl=>?_) (λl=>?_)
 ·obtain⟨n,f,o,rfl,p,_,q⟩:=g.mh (i:=j) oM
  have v:=oW bs (j:=j) (m:=3) oM;refine⟨n,f,rfl,oM,oM,_,q,_,oM,j+1,an oM,oM,rfl,?_,rfl⟩;rw[Ml (by
            have:(256:Nat) ^ 3=16777216:=dC
            omega) o.toNat_lt,FN p]
 ·rw[Qz oM]
  exact Ok.mk ⟨rfl,rfl⟩
def HK{m:Nat}(h:0<m)(e:m<=aQ):
  Calls ZQ 315 #[.slice none 0 0,QH (m:Int)] b (Ok λi a=>∃c f,i= .slice (ZZ c) 0 f/\aV gq 5 (·=c) a (ZZ c) 0 f []/\ai b a/\b.heap.size<=c):=by
 have d:=e;unfold aQ at d;refine mR ⟨λa=>a=b,al.dec (λg=>oM) (λ_=>rfl),?_⟩;rintro _ o rfl;refine Vo ur.under ⟨_,rfl,?_⟩;have j:IntKind.wrap .i64 ((m:Int)-IntKind.wrap .i64 (((0:Nat):Int)-((0:Nat):Int)))=(m:Int):=by
  rw[wrap_i64 (x:=((0:Nat):Int)-((0:Nat):Int)) (by unfold aN;omega),wrap_i64 (by unfold aN;omega)];omega
 rw[j];refine al.dec (λg=>?_) (λg=>oM);refine Vo ur.under ⟨_,rfl,oM,oM,?_⟩;refine PF ur kR h e λp k l q n=>⟨_,_,_,rfl,oM,oM,Ok.mk ⟨_,k,rfl,l,n,Q4 _⟩⟩
def CA{D:Nat->Prop}(C:b.heap[a]? =some (.cells #[.slice d c n,.slice p i E] 197 F))(R:Row gq 1 b D d c v)(S:Row gq 1 b D p i a7)(H:∀e,D e->e<b.heap.size)(h0:0<c)(f:c+i<=aQ):
  Calls ZQ 283 #[.slice (ZZ a) 2 2] b (Ok (qD gq 5 b (v++a7))):=by
 have l1:=R.len;have l2:=S.len;have I:=f;unfold aQ at I;refine lF ⟨λh y j g=>b=g/\((h=2/\y=0/\j=0)\/(h=1/\y=(c:Int)/\j=1)\/(h=0/\y=((c+i:Nat):Int)/\j=2)),⟨2,rfl,.inl ⟨rfl,rfl,rfl⟩⟩,?_⟩;rintro h y j _ w1 ⟨rfl,J⟩;rcases J with⟨rfl,rfl,rfl⟩|⟨rfl,rfl,rfl⟩|⟨rfl,rfl,rfl⟩
 ·refine al.tt dC ⟨a,0,rfl,oM,oM,d,c,n,ae C rfl,?_⟩
  rw[wrap_i64 (x:=0+((c:Nat):Int)) (by unfold aN;omega)];exact al.dec (λT=>oM) (λ_=>⟨1,oM,rfl,.inr (.inl ⟨rfl,oM,rfl⟩)⟩)
 ·refine al.tt dC ⟨a,0,rfl,oM,oM,p,i,E,ae C rfl,?_⟩
  rw[wrap_i64 (x:=((c:Nat):Int)+((i:Nat):Int)) (by unfold aN;omega)];exact al.dec (λT=>oM) (λ_=>⟨0,oM,rfl,.inr (.inr ⟨rfl,oM,rfl⟩)⟩)
 refine al.ff dC (PC.ok (HK (m:=c+i) oM f) ?_);rintro _ w2 ⟨U,cq,rfl,Z,k2,hq⟩;have a6:∀e,D e->e≠U:=λe f K=>by have:=H e f;omega
 refine⟨_,_,_,rfl,λh r l s j g=>ai b g/\∃m,(∀e,m e->b.heap.size<=e)/\((h=2/\j=0/\aV gq 5 m g r l s [])\/(h=1/\j=1/\aV gq 5 m g r l s v)\/(h=0/\j=2/\aV gq 5 m g r l s (v++a7))),
  ⟨2,k2,(·=U),λe K=>oM,.inl ⟨rfl,rfl,Z⟩⟩,?_⟩
 rintro h r l s j _ V ⟨t,m,z,J⟩;have W:=t.get C id;have ap:∀{A B:List UInt8} {L w X} {M Y:Value->World->Prop},aV gq 5 m V r l s A->Row gq 1 b D L w B->A.length+B.length<=140737488355328->
   (∀o u g q,aV gq 5 q g o (l+w) u (A++B)->ai b g->(∀e,q e->b.heap.size<=e)->M (.slice o (l+w) u) g)->
   aH ZQ (Builtin.append_ #[197,197] 197 #[.slice r l s,.slice L w X]) V M Y:=by
  intro A B L w X M Y k hr a5 N;refine AZ k ur (hr.af t) (λe f=>⟨by have:=H e f;have:=t.size;omega,λK=>?_⟩) (by unfold aQ;omega) (by unfold maxLen;omega) λo u O q x a3 _ a4=>?_
  ·have:=H e f;have:=z e (k.self e K);omega
  ·exact N o u O (λe=>aI o=some e) x.alone (t.new a3 λe f=>.inr (z e (k.self e f))) λe f=>(a4 e f).elim (z e) λT=>by have:=t.size;omega
 rcases J with⟨rfl,rfl,k⟩|⟨rfl,rfl,k⟩|⟨rfl,rfl,k⟩
 ·refine al.tt dC ⟨a,0,rfl,oM,oM,d,c,n,ae W rfl,?_⟩
  exact ap k R (by simp;omega) λo u O q x P Q=>⟨_,_,_,rfl,1,oM,P,q,Q,.inr (.inl ⟨rfl,rfl,x⟩)⟩
 ·refine al.tt dC ⟨a,0,rfl,oM,oM,p,i,E,ae W rfl,?_⟩
  exact ap k S oM λo u O q x P Q=>⟨_,_,_,rfl,0,oM,P,q,Q,.inr (.inr ⟨rfl,rfl,x⟩)⟩
 ·exact al.ff dC (Ok.mk ⟨_,_,_,m,rfl,k,t,z⟩)
end Go.Proofs.YtfchlbaidamodaaGreatDoor
namespace Go.ax
open Go
def CB(a:List UInt8)(b:Nat)(c:(a.getD 1 0).toNat*65536+(a.getD 2 0).toNat*256+(a.getD 3 0).toNat=b):
  bC a=if a.length<4 then⟨0,[],0,4⟩else if a.getD 0 0=0 then⟨0,[],0,2⟩else if 65536<b then⟨0,[],0,5⟩else if a.length<b+9 then⟨0,[],0,4⟩else
   if a.take (b+9)=cN (a.getD 0 0).toNat ((a.drop 4).take b)then⟨(a.getD 0 0).toNat,(a.drop 4).take b,b+9,0⟩else⟨0,[],0,6⟩:=by
 unfold bC;rw[c]
variable{v:List UInt8}
def Si(a:(bC v).no=0):(bC v).kind=((v.getD 0 0).toNat:Int)/\(bC v).body=(v.drop 4).take ((bC v).n-9)/\4<=v.length:=by
 rw[CB v _ rfl]at a⊢;split at a
 ·cases a
 rename_i b;rw[if_neg b];split at a
 ·cases a
 rename_i c;rw[if_neg c];split at a
 ·cases a
 rename_i d;rw[if_neg d];split at a
 ·cases a
 rename_i e;rw[if_neg e];split at a
 ·rename_i f
  rw[if_pos f];exact⟨rfl,sM,oM⟩
 ·cases a
end Go.ax
namespace Go.Proofs.YtfchlbaidamodaaGreatDoor
open Go.ax
def CC(a:List UInt8):List Value:=a.map λb=>Value.int .u8 (b.toNat:Int)
variable{e:Int}{v:List UInt8}{a c:Nat}{d:Option Addr}{b:World}
def FO{f:Nat×Nat}(c:List UInt8)(d:b.heap[a]? =some (.cells (CC c).toArray 5 f))(g:c.length<=1000):Row gq 1 b (·=a) (ZZ a) c.length c:=
 Row.lit (enc:=λe:UInt8=>Value.int .u8 (e.toNat:Int)) d c (by simp[CC]) (λ_ _=>trivial) (by unfold aQ;omega)
def FP{D:Nat->Prop}(B:qU b)(g:Row gq 1 b D d a v)(C:∀f,D f->f<b.heap.size):
  Calls ZQ 222 #[.agg #[QH e,.slice d a c]] b (Ok λE F=>∃w,E= .tuple #[w,QH (kQ e v).2]/\qD gq 5 b (kQ e v).1 w F):=by
 have H:=g.len;refine Hy (PA.mk λj l s1 m=>⟨d,a,c,ae m rfl,_,ae m rfl,al.dec (λh=>?_) (λh1=>⟨_,ae m rfl,al.dec (λh=>?_) (λh2=>al.dec (λh=>?_) (λh3=>?_))⟩)⟩)
 ·rw[show kQ e v=([],2) by unfold kQ;rw[if_pos oM]]
  exact Ok.mk ⟨_,rfl,none,0,0,λ_=>False,rfl,aV.nil j,l,λ_ h=>h.elim⟩
 ·rw[show kQ e v=([],2) by unfold kQ;rw[if_pos oM]]
  exact Ok.mk ⟨_,rfl,none,0,0,λ_=>False,rfl,aV.nil j,l,λ_ h=>h.elim⟩
 ·rw[show kQ e v=([],5) by unfold kQ;rw[if_neg oM,if_pos oM]]
  exact Ok.mk ⟨_,rfl,none,0,0,λ_=>False,rfl,aV.nil j,l,λ_ h=>h.elim⟩
 rw[show kQ e v=(cN e v,0) by unfold kQ;rw[if_neg oM,if_neg oM]];refine⟨_,ae m rfl,PA.mk λI n s2 J=>⟨d,a,c,ae (n.get m id) rfl,PA.mk λp o s3 K=>?_⟩⟩;have L:iA .i64 ((a:Nat):Int) 16=((a/65536:Nat):Int):=O_ (k:=.i64) (u:=a) (m:=16) dC;have M:iA .i64 ((a:Nat):Int) 8=((a/256:Nat):Int):=O_ (k:=.i64) (u:=a) (m:=8) dC;have N:e=((e.toNat:Nat):Int):=oM
 have O:I.heap[j.heap.size]? =some (.cells (CC [UInt8.ofNat e.toNat,UInt8.ofNat (v.length/65536),UInt8.ofNat (v.length/256),UInt8.ofNat v.length]).toArray 5 (0,0)):=by
  rw[J,L,M,N,jX,jX,jX,jX,H];simp[CC]
 have P:Row gq 1 p (λf=>D f\/f=j.heap.size) (ZZ j.heap.size) 4 [UInt8.ofNat e.toNat,UInt8.ofNat (v.length/65536),UInt8.ofNat (v.length/256),UInt8.ofNat v.length]:=
  (FO (f:=(0,0)) [UInt8.ofNat e.toNat,UInt8.ofNat (v.length/65536),UInt8.ofNat (v.length/256),UInt8.ofNat v.length] (o.get O id) sM).mono λf g=>.inr g
 have Q:Row gq 1 p (λf=>D f\/f=j.heap.size) d a v:=(g.af ((l.then n).then o)).mono λf g=>.inl g;refine PC.ok (CA K P Q (λf g=>g.elim (λh=>by have:=C f h;omega) λh=>oM) oM (by unfold aQ;omega)) ?_;rintro _ q ⟨a4,n4,c4,F4,rfl,k,R,x⟩;have S:[UInt8.ofNat e.toNat,UInt8.ofNat (v.length/65536),UInt8.ofNat (v.length/256),UInt8.ofNat v.length]++v=kC e v:=rfl;rw[S]at k;have a8:=k.len dC;have r:(kC e v).length=4+v.length:=by simp[kC];omega
 have s:ai b q:=((l.then n).then o).then R;refine⟨_,_,_,rfl,PC.ok (NY (B.af s) (k.row (bytes:=1) dC (by rw[r];unfold aQ;omega))) ?_⟩;rintro _ t ⟨rfl,T⟩;have u:ai q t:=T.keep;refine⟨_,rfl,?_⟩;generalize U:(LS (kC e v)).toNat=i;have V:iA .u32 (i:Int) 24=((i/16777216:Nat):Int):=O_ (k:=.u32) (u:=i) (m:=24) dC;have W:iA .u32 (i:Int) 16=((i/65536:Nat):Int):=O_ (k:=.u32) (u:=i) (m:=16) dC;have X:iA .u32 (i:Int) 8=((i/256:Nat):Int):=O_ (k:=.u32) (u:=i) (m:=8) dC;rw[V,W,X,jX,jX,jX,jX];refine PA.mk λY y s6 Z=>?_;have a1:Y.heap[t.heap.size]? =some (.cells (CC (Ri i++[10])).toArray 5 (0,0)):=by rw[Z];rfl
 have a2:=(k.af u).af y;have a9:q.heap.size<=t.heap.size:=u.size;refine lH a2 ur (FO (Ri i++[10]) a1 (by simp[Ri])) (λf z=>⟨oM,λe2=>by have:=k.aF f (k.self f e2);omega⟩) (by rw[r];unfold aQ;simp[Ri];omega) (by rw[r];unfold maxLen;simp[Ri];omega) λA c7 w7 F7 a3 a5 _ a6=>?_;refine⟨_,_,_,rfl,Ok.mk ⟨_,rfl,A,_,c7,λf=>aI A=some f,rfl,?_,?_,?_⟩⟩
 ·have h7:=a3.alone
  have z:cN e v=kC e v++(Ri i++[10]):=by unfold cN;rw[U,XQ]
  rw[z];exact h7
 ·exact((s.then u).then y).new a5 λf g=>.inr (by have:=x f (k.self f g);have:=l.size;have:=n.size;have:=o.size;omega)
 ·intro f g
  have b0:b.heap.size<=p.heap.size:=oM
  rcases a6 f g with h|h
  ·have:=x f h;omega
  ·have:=s.size;omega
def JE{D:Nat->Prop}(E:qU b)(h:Row gq 1 b D d a v)(r:a<=c):
  Calls ZQ 251 #[.slice d a c] b (Ok λF H=>F= .tuple #[QH (((bC v).n-9:Nat):Int),QH (bC v).no]/\bE b H):=by
 have W:=h.len;have I:=h.d_;unfold aQ at I;generalize s:(v.getD 1 0).toNat*65536+(v.getD 2 0).toNat*256+(v.getD 3 0).toNat=e;have f:=CB v e s;refine Cg (al.dec (λm=>?_) (λX=>?_))
 ·rw[f,if_pos oM]
  exact Ok.mk ⟨rfl,bE.refl b⟩
 rw[if_neg (show¬v.length<4 by omega)]at f;refine⟨oM,oM,oM,PC.ok (wJ (bs:=(v.take 4).drop 1) (h.part (lo:=1) (hi:=4) (cap:=c) oM oM r) dC) ?_⟩;rintro _ Y ⟨rfl,rfl⟩;have J:gO ((v.take 4).drop 1)=e:=by
  rw[Vp oM];show gO [v.getD 1 0,v.getD 2 0,v.getD 3 0]=e;simp only[gO,List.foldl];omega
 have Z:e<16777216:=by
  have h1:=(v.getD 1 0).toNat_lt;have h2:=(v.getD 2 0).toNat_lt;have h3:=(v.getD 3 0).toNat_lt;omega
 rw[J];obtain⟨k,g,t,rfl,K,_,i⟩:=h.mh (i:=0) oM;have j:v.getD 0 0=t:=by rw[QQ,K];rfl
 have L:IntKind.wrap .i64 (e:Int)=(e:Int):=wrap_i64 (by unfold aN;omega);have M:IntKind.wrap .i64 (4+(e:Int))=((4+e:Nat):Int):=by rw[wrap_i64 (by unfold aN;omega)];omega
 have N:IntKind.wrap .i64 (((4+e:Nat):Int)+5)=((4+e+5:Nat):Int):=by rw[wrap_i64 (by unfold aN;omega)];omega
 refine⟨_,rfl,k,g,rfl,oM,oM,_,i,?_⟩;rw[L,M,N];refine al.dX (λm=>?_) (λn=>al.dec (λm=>?_) (λa8=>al.dec (λm=>?_) (λa7=>?_)))
 ·rw[f,j,if_pos (UInt8.toNat_inj.1 (by
                        have:t.toNat=0:=oM
                        rw[this];rfl))]
  exact Ok.mk ⟨rfl,bE.refl b⟩
 ·rw[f,j,if_neg (by rintro rfl;exact n rfl),if_pos oM]
  exact Ok.mk ⟨rfl,bE.refl b⟩
 ·rw[f,j,if_neg (by rintro rfl;exact n rfl),if_neg oM,if_pos oM]
  exact Ok.mk ⟨rfl,bE.refl b⟩
 rw[j,if_neg (by rintro rfl;exact n rfl),if_neg (show¬65536<e by omega),if_neg (show¬v.length<e+9 by omega)]at f;have l:=V_ (b:=v) (n:=e) oM s oM;rw[j]at l;refine⟨oM,oM,oM,oM,oM,λw8 u O w=>⟨oM,oM,?_⟩⟩;have x:ai b O:=(u.then w).keep;have y:=h.af x;refine PC.ok (NY (E.af x) (y.take (m:=4+e) oM)) ?_;rintro _ P ⟨rfl,z⟩;have A:=y.af z.keep;have B:=A.part (lo:=4+e) (hi:=4+e+4) (cap:=c) oM oM r;rw[show 4+e+4-(4+e)=4 by omega]at B;refine⟨_,rfl,PC.ok (wJ B dC) ?_⟩;rintro _ a9 ⟨rfl,rfl⟩;have Q:(v.take (4+e+4)).drop (4+e)=(v.drop (4+e)).take 4:=by rw[List.drop_take];congr 1;omega
 rw[Q];have o:bE b P:=(u.then w).then z;refine⟨_,rfl,al.dw (λp=>?_) (λb0=>?_)⟩
 ·rw[f,if_neg (λi=>p (by rw[(l.1 i).1]))]
  exact Ok.mk ⟨rfl,o⟩
 obtain⟨b7,o8,q,R,S,_,T⟩:=A.mh (i:=8+e) oM
 cases R
 have C:v.getD (8+e) 0=q:=by rw[QQ,S];rfl
 have U:cM (some ⟨k,g,none⟩) (4+e) c 1=some ⟨k,g+(4+e),none⟩:=by
  unfold cM;rw[if_neg oM];simp[Addr.add_lit]
 refine⟨k,g+(4+e),U,oM,oM,_,by rw[show g+(4+e)+Int.toNat 4=g+(8+e) by show g+(4+e)+4=_;omega];exact T,al.dw (λp=>?_) (λhe=>?_)⟩
 ·rw[f,if_neg (λi=>p (by rw[<-C,(l.1 i).2];rfl))]
  exact Ok.mk ⟨rfl,o⟩
 ·have V:q=10:=UInt8.toNat_inj.1 (by show q.toNat=10;omega)
  rw[f,if_pos (l.2 ⟨oM,C.trans V⟩)];exact Ok.mk ⟨sM,o⟩
def FQ{D:Nat->Prop}(Q:qU b)(f:Row gq 1 b D d a v)(t:a<=c)(u:∀e,D e->e<b.heap.size):
  Calls ZQ 182 #[.slice d a c] b (Ok λR w=>∃x y z A,R= .tuple #[.agg #[QH (bC v).kind,.slice x y z],QH ((bC v).n:Int),QH (bC v).no]/\
   aV gq 5 A w x y z (bC v).body/\ai b w/\∀e,A e->b.heap.size<=e):=by
 have hn:=f.len;have S:=f.d_;unfold aQ at S;refine Hw (PA.mk λB j s1 T=>PC.ok (JE (Q.af j) (f.af j) t) ?_);rintro _ C ⟨rfl,U⟩;have k:ai B C:=U.keep;have E:=k.get T id;refine⟨_,_,rfl,al.dw (λl=>?_) (λm=>?_)⟩
 ·have n:(bC v).kind=0/\(bC v).body=[]/\(bC v).n=0:=by
   rw[CB v _ rfl]at l⊢
   repeat' split
   all_goals first|exact⟨rfl,rfl,rfl⟩|skip
   rename_i V W X Y Z;rw[if_neg V,if_neg W,if_neg X,if_neg Y,if_pos Z]at l;exact absurd rfl l
  rw[n.1,n.2.1,n.2.2];refine storeAll [QH 0,.slice none 0 0] E rfl λh i s3 F=>⟨0,none,0,0,ae F rfl,ae F rfl,Ok.mk ⟨none,0,0,λ_=>False,rfl,aV.nil h,?_,λ_ o=>o.elim⟩⟩
  exact(j.then k).new i λe f=>.inr oM
 obtain⟨a0,h9,a1⟩:=wK m;generalize a2:(bC v).n=g at a0 h9 a1;obtain⟨a3,H,b1⟩:=Si m;rw[a2]at H;have I:(bC v).kind=((v.getD 0 0).toNat:Int)/\(bC v).body=(v.drop 4).take (g-9):=⟨a3,H⟩
 intro h a5;have i:ai C h:=a5.keep;have p:ai b h:=(j.then k).then i;have q:=f.af p;obtain⟨J,o6,K,rfl,hx,_,hc⟩:=q.mh (i:=0) oM;obtain⟨b2,b3,x',es,a6,_,a7,_⟩:=q.sS (i:=0) oM
 cases a6
 have a8:v.getD 0 0=K:=by rw[QQ,hx];rfl
 have e4:IntKind.wrap .i64 (4+((g-9:Nat):Int))=((4+(g-9):Nat):Int):=by rw[wrap_i64 (by unfold aN;omega)];omega
 have e9:IntKind.wrap .i64 (((4+(g-9):Nat):Int)+5)=(g:Int):=by rw[wrap_i64 (by unfold aN;omega)];omega
 refine⟨λe=>b.heap.size<=e,J,o6,rfl,oM,oM,by have:=u J a7;omega,_,hc,?_⟩;rw[e4,e9];refine⟨oM,oM,oM,?_⟩;have a4:=q.part (lo:=4) (hi:=4+(g-9)) (cap:=c) oM oM t;refine PC.ok (lG a4 (λe o=>by have:=u e o;have:=p.size;omega)) ?_;rintro _ w4 ⟨L,M,N,F4,rfl,a9,r,O⟩;have b4:B.heap.size<=h.heap.size:=(k.then i).size;have g4:=r.get (i.get E id) id;refine⟨_,_,_,rfl,r.keep,?_⟩;refine storeAll [QH (IntKind.wrap .i64 (K.toNat:Int)),.slice L M N] g4 rfl λw5 s s5 P=>⟨s.mono λe _ b0=>oM,_,_,_,_,ae P rfl,ae P rfl,Ok.mk ⟨L,M,N,F4,?_,?_,?_,?_⟩⟩
 ·rw[Mm,I.1,a8,m]
 ·rw[I.2,<-show(v.take (4+(g-9))).drop 4=(v.drop 4).take (g-9) by rw[List.drop_take];congr 1;omega]
  exact a9.keep s λe f b0=>by have:=O e f;omega
 ·exact(p.then r).new s λe f=>.inr oM
 ·intro e f;have:=O e f;omega
end Go.Proofs.YtfchlbaidamodaaGreatDoor

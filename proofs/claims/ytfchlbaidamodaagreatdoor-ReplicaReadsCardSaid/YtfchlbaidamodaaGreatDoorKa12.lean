import Derived.Test.YtfchlbaidamodaaGreatDoorKa11
import Derived.Laws.Runes
import Derived.Lib.AppendZeros
set_option linter.all false
set_option maxRecDepth 100000
namespace Go.Proofs.YtfchlbaidamodaaGreatDoor
open Go.ax
def eW (b:UInt8):Bool:=(97<=b&&b<=122)||(48<=b&&b<=57)||b==46
def dv (a:ByteArray):Bool:=decide (1<=a.size)&&decide (a.size<=16)&&a.data.toList.all eW
structure bQ where
 bytes:List UInt8
 synced:Nat
 jk:Bool
 deriving DecidableEq
structure ak where
 most:Nat
 files:List (ByteArray×bQ)
 js:Bool
 left:Int
 dead:Bool
 deriving DecidableEq
def eL (a:List (ByteArray×bQ)):Nat:=(a.map λb=>b.2.bytes.length).sum
def ak.used (D:ak):Nat:=eL D.files
structure ak.Ok (D:ak):Prop where
 most:D.most<=262144
 fits:D.used<=D.most
 many:D.files.length<=64
 tidy:Tidy D.files
 names:∀x∈D.files,dv x.1=true
 TD:∀x∈D.files,x.2.synced<=x.2.bytes.length
 Cs:0<=D.left
 Ct:aN D.left
variable{U r:Array Value}{J:Bool}{w:ByteArray}{f9:ByteArray×bQ}{z:FuncId}{e:Int}{h2:List (ByteArray×bQ)}{x:List UInt8}{a c:Nat}{f:Nat->Prop}{d:Option Addr}{K j:Type}{b9:UInt8}{b k:World}{y:World->Prop}{a1:bQ}
theorem LZ (h:f9∈h2):f9.2.bytes.length<=eL h2:=by
 unfold eL
 induction h2 with
 |nil=>cases h
 |cons b h2 a=>
  simp only [QY,List.sum_cons];rcases Q2.1 h with rfl|h
  ·omega
  ·have:=a h;omega
theorem ak.Ok.len {D:ak} (a:D.Ok) (b:f9∈D.files):f9.2.bytes.length<=262144:=by
 have:=LZ b;have:=a.fits;have:=a.most;unfold ak.used at*;omega
structure eX (w:World) (q:Nat) (G:Nat->Prop) (f:bQ):Prop where
 body:∃a n cap F,w.heap[q]? =some (.cells #[.slice a n cap,QH f.synced,.bool f.jk] 206 (0,0))/\aV gq 5 F w a n cap f.bytes/\(∀b,F b->G b)/\¬F q
 self:G q
 aF:∀b,G b->b<w.heap.size
theorem eX.keep {S G:Nat->Prop} (d:eX b a G a1) (e:aj S b k) (h:∀c,G c->¬S c):eX k a G a1:=by
 obtain⟨j,l,f,m,n,o,i,p⟩:=d.body;exact⟨⟨j,l,f,m,e.get n (h _ d.self),o.keep e (λc g=>h c (i c g)),i,p⟩,d.self,λc g=>Qk (d.aF c g) e.size⟩
structure nW where
 q:Nat
 G:Nat->Prop
 f:bQ
def ptr (a:Nat):Value:=.pointer (some ⟨a,0,none⟩)
def eQ (a:ByteArray×nW):ByteArray×Value:=(a.1,ptr a.2.q)
def wC (a:ByteArray×nW):ByteArray×bQ:=(a.1,a.2.f)
structure FJ (w:World) (L:List (ByteArray×nW)):Prop where
 each:∀x∈L,eX w x.2.q x.2.G x.2.f
 apart:∀x∈L,∀y∈L,x.1≠y.1->∀b,x.2.G b->¬y.2.G b
 tidy:Tidy L
structure aW (w:World) (p:Nat) (F:Nat->Prop) (D:ak):Prop where
 body:∃r L,w.heap[p]? =some (.cells #[QH D.most,.map (some r),.bool D.js,QH D.left,.bool D.dead] 142 (0,0))/\cx w r Value.string (L.map eQ)/\D.files=L.map wC/\FJ w L/\
  (∀x∈L,∀b,x.2.G b->F b/\b≠p/\b≠r)/\F r/\p≠r
 self:F p
 aF:∀b,F b->b<w.heap.size
 ok:D.Ok
variable{a2:List (ByteArray×nW)}
theorem FJ.keep {S:Nat->Prop} (c:FJ b a2) (f:aj S b k) (g:∀a∈a2,∀d,a.2.G d->¬S d):FJ k a2:=
 ⟨λa e=>(c.each a e).keep f (g a e),c.apart,c.tidy⟩
theorem aW.keep {S f:Nat->Prop} {D:ak} (d:aW b a f D) (e:aj S b k) (g:∀c,f c->¬S c):aW k a f D:=by
 obtain⟨l,m,n,o,p,q,i,j,r⟩:=d.body;exact⟨⟨l,m,e.get n (g _ d.self),o.keep e (g _ j),p,q.keep e (λs t c h=>g c (i s t c h).1),i,j,r⟩,d.self,λc h=>Qk (d.aF c h) e.size,d.ok⟩
theorem aW.af {D:ak} (c:aW b a f D) (d:ai b k):aW k a f D:=c.keep d λ_ _ c=>c
theorem rm (c:j->K) (b:List (ByteArray×j)) (d:ByteArray) (e:j):(aJ b d e).map (λa=>(a.1,c a.2))=aJ (b.map λa=>(a.1,c a.2)) d (c e):=by
 induction b with
 |nil=>rfl
 |cons f b g=>
  obtain⟨a,h⟩:=f;simp only [aJ,QY];split
  ·rfl
  ·simp [g]
theorem Cu (c:j->K) (b:List (ByteArray×j)) (d:ByteArray):(bV b d).map (λa=>(a.1,c a.2))=bV (b.map λa=>(a.1,c a.2)) d:=by
 induction b with
 |nil=>rfl
 |cons e b f=>
  obtain⟨a,g⟩:=e;simp only [bV,QY];split
  ·rfl
  ·simp [f]
theorem Cv (c:j->K) (a:List (ByteArray×j)) (d:ByteArray):ay (a.map λb=>(b.1,c b.2)) d=(ay a d).map c:=by
 induction a with
 |nil=>rfl
 |cons e a f=>
  obtain⟨b,g⟩:=e;simp only [ay,QY];split
  ·rfl
  ·exact f
theorem gu {b:List (ByteArray×j)} (e:Tidy b) {c:j} {a:ByteArray×j} (h:a∈aJ b w c):a=(w,c)\/(a∈b/\a.1≠w):=by
 by_cases d:a.1=w
 ·left
  have:=rp (e.aJ w c) (k:=a.1) (v:=a.2) h;rw [bu,d]at this;simp at this;exact Prod.ext d this.symm
 ·rcases fG h with rfl|h
  ·exact .inl rfl
  ·exact .inr ⟨h,d⟩
theorem HC {b:List (ByteArray×j)} (c:Tidy b) {a:ByteArray×j} (d:a∈bV b w):a∈b/\a.1≠w:=by
 refine⟨gN d,λf=>?_⟩;have e:=rp (c.bV w) (k:=a.1) (v:=a.2) d;rw [gh c,f]at e;simp at e
theorem rq {l:List (ByteArray×bQ)} {k:ByteArray} {f:bQ}:eL (aJ l k f)+((ay l k).map λa=>a.bytes.length).getD 0=eL l+f.bytes.length:=by
 unfold eL
 induction l with
 |nil=>simp [aJ,ay]
 |cons b l c=>
  obtain⟨d,e⟩:=b;simp only [aJ,ay];split
  ·simp;omega
  ·simp only [QY,List.sum_cons]at c⊢;omega
theorem ze {l:List (ByteArray×bQ)} {k:ByteArray}:eL (bV l k)+((ay l k).map λa=>a.bytes.length).getD 0=eL l:=by
 unfold eL
 induction l with
 |nil=>simp [bV,ay]
 |cons b l c=>
  obtain⟨d,e⟩:=b;simp only [bV,ay];split
  ·simp;omega
  ·simp only [QY,List.sum_cons]at c⊢;omega
theorem yw {a:List (ByteArray×j)} {c:j} (b:(ay a w).isSome=true):(aJ a w c).length=a.length:=by
 induction a with
 |nil=>simp [ay]at b
 |cons d a e=>
  obtain⟨g,h⟩:=d;simp only [aJ,ay]at b⊢;split
  ·rfl
  ·rename_i f
   rw [if_neg f]at b;simp [e b]
theorem aW.head {D:ak} (d:aW b a f D):∃c,b.heap[a]? =some (.cells #[QH D.most,.map (some c),.bool D.js,QH D.left,.bool D.dead] 142 (0,0)):=by
 obtain⟨c,g,e,_⟩:=d.body;exact⟨c,e⟩
theorem aW.L_ {D c:ak} (e:aW b a f D) (g:aj (·=a) b k)
  (m:∀d,b.heap[a]? =some (.cells #[QH D.most,.map (some d),.bool D.js,QH D.left,.bool D.dead] 142 (0,0))->k.heap[a]? =some (.cells #[QH c.most,.map (some d),.bool c.js,QH c.left,.bool c.dead] 142 (0,0)))
  (n:c.files=D.files) (o:c.Ok):aW k a f c:=by
 obtain⟨d,p,q,r,s,t,j,u,l⟩:=e.body;exact⟨⟨d,p,m d q,r.keep g (λv=>l v.symm),n.trans s,t.keep g (λw x h i=>(j w x h i).2.1),j,u,l⟩,e.self,λh i=>Qk (e.aF h i) g.size,o⟩
theorem aW.AX {D:ak} (c:aW b a f D) (e:∀d,aW d a f {D with dead:=J}->aj f b d->d.heap.size=b.heap.size->y d):PS b ⟨a,0+4,none⟩ (.bool J) y:=by
 obtain⟨m,g⟩:=c.head;refine PS.mk g sM λd h j k=>e d (c.L_ h (λn i=>?_) rfl ⟨c.ok.most,c.ok.fits,c.ok.many,c.ok.tidy,c.ok.names,c.ok.TD,c.ok.Cs,c.ok.Ct⟩) (h.mono λJ _ l=>l▸c.self) j;rw [g]at i;cases i;exact k
theorem aW.Jw {D:ak} (c:aW b a f D) (e:∀d,aW d a f {D with js:=J}->aj f b d->d.heap.size=b.heap.size->y d):PS b ⟨a,0+2,none⟩ (.bool J) y:=by
 obtain⟨m,g⟩:=c.head;refine PS.mk g sM λd h j k=>e d (c.L_ h (λn i=>?_) rfl ⟨c.ok.most,c.ok.fits,c.ok.many,c.ok.tidy,c.ok.names,c.ok.TD,c.ok.Cs,c.ok.Ct⟩) (h.mono λJ _ l=>l▸c.self) j;rw [g]at i;cases i;exact k
theorem aW.NZ {D:ak} (c:aW b a f D) (k:0<=e) (l:aN e) (g:∀d,aW d a f {D with left:=e}->aj f b d->d.heap.size=b.heap.size->y d):PS b ⟨a,0+3,none⟩ (QH e) y:=by
 obtain⟨p,h⟩:=c.head;refine PS.mk h sM λd i m n=>g d (c.L_ i (λq j=>?_) rfl ⟨c.ok.most,c.ok.fits,c.ok.many,c.ok.tidy,c.ok.names,c.ok.TD,k,l⟩) (i.mono λr _ o=>o▸c.self) m;rw [h]at j;cases j;exact n
theorem Py :Calls ZQ 34 #[QH e] b (Ok λf d=>
  if e<64\/e>262144 then f= .tuple #[.pointer none,QH 1]/\d=b
  else∃g h,f= .tuple #[.pointer (some ⟨g,0,none⟩),QH 0]/\aW d g h ⟨e.toNat,[],false,0,false⟩/\ai b d/\∀a,h a->b.heap.size<=a):=by
 refine Jg (al.dec (λc=>?_) (λc=>al.dec (λi=>?_) (λi=>?_)))
 ·exact Ok.mk (by rw [if_pos (.inl c)];exact⟨rfl,rfl⟩)
 ·exact Ok.mk (by rw [if_pos (.inr i)];exact⟨rfl,rfl⟩)
 ·refine PA.mk λk l p m=>PA.mk λn j q o=>Ok.mk ?_
  rw [if_neg oM];refine⟨k.heap.size,λa=>b.heap.size<=a/\a<n.heap.size,rfl,⟨⟨b.heap.size,[],?_,cx.new (j.get m id),rfl,⟨sM,sM,by simp [Tidy]⟩,sM,oM,oM⟩,oM,λa c=>c.2,?_⟩,l.af j,λa c=>c.1⟩
  ·rw [o]
   have:((e.toNat:Nat):Int)=e:=oM
   rw [this]
  ·exact⟨by show e.toNat<=_;omega,by simp [ak.used,eL],by simp,by simp [Tidy],by simp,by simp,by simp,by unfold aN;simp⟩
def ak.Ma (D:ak) (a:Int):ak:={D with js:=true,left:=max a 0}
theorem Pz {D:ak} (m:aN e) (c:aW b a f D):Calls ZQ 114 #[.pointer (some ⟨a,0,none⟩),QH e] b (Ok λh d=>h= .tuple #[]/\aW d a f (D.Ma e)/\de f b f d):=by
 have i:(if e>0 then e else 0)=max e 0:=oM
 refine vP ⟨a,0,rfl,c.Jw λn j k o=>⟨a,0,rfl,j.NZ oM (by unfold aN at*;omega) λp g l q=>Ok.mk ⟨rfl,?_,k.then l,λ_ c=>.inl c⟩⟩⟩;rw [i]at g;exact g
def ak.dies (D:ak):Bool:=D.dead||(D.js&&D.left==0)
def ak.di (D:ak):ak:=if D.js then{D with left:=D.left-1}else D
def ak.gone (D:ak):ak:={D with dead:=true}
theorem Mb {D:ak} (m:aW b a f D) {e:Int} {D':ak} (B:enters ZQ z=true)
  (F:D.dies=false->∀c,aW c a f D.di->aj f b c->c.heap.size=b.heap.size->Calls ZQ z (r++ #[]++U) c (Ok λi g=>∃h,i= QH e/\aW g a h D'/\de f c h g)):
  Calls ZQ 241 #[.pointer (some ⟨a,0,none⟩),.func (.func z) r U] b (Ok λi g=>∃h,i= QH (if D.dies then 15 else e)/\aW g a h (if D.dies then D.gone else D')/\de f b h g):=by
 obtain⟨M,w⟩:=m.head;have n:∀c,D.dies=true->aW c a f {D with dead:=true}->aj f b c->Ok (λi g=>∃h,i= QH (if D.dies then 15 else e)/\aW g a h (if D.dies then D.gone else D')/\de f b h g) (.returned (QH 15)) c:=
  λc j d H=>Ok.mk ⟨f,by rw [j];rfl,by rw [j];exact d,H,λ_ m=>.inl m⟩
 refine uQ ⟨λc=>aW c a f D/\aj f b c/\c.heap.size=b.heap.size/\D.dies=false,?_,?_⟩
 ·refine⟨a,0,rfl,_,ae w rfl,al.mk (λj=>⟨a,0,rfl,m.AX λc d k q=>?_⟩) (λj=>⟨a,0,rfl,_,ae w rfl,al.mk (λo=>⟨a,0,rfl,_,ae w rfl,a,0,rfl,m.AX λc d k q=>?_⟩) (λo=>⟨a,0,rfl,m.AX λc d k q=>?_⟩)⟩)⟩
  ·obtain⟨x,p⟩:=d.head
   exact⟨a,0,rfl,true,ae p rfl,n c (by simp [ak.dies,j]) d k⟩
  ·obtain⟨x,p⟩:=d.head
   refine⟨a,0,rfl,D.left==0,ae p rfl,al.mk (λs=>n c (by unfold ak.dies;rw [o,s];simp) (by rw [s]at d;exact d) k) (λs=>⟨?_,k,q,by unfold ak.dies;rw [j,s];simp⟩)⟩;have:({D with dead:=D.left==0}:ak)=D:=by rw [s,<-j]
   rw [this]at d;exact d
  ·obtain⟨x,p⟩:=d.head
   refine⟨a,0,rfl,false,ae p rfl,?_,k,q,by simp [ak.dies,j,o]⟩;have:({D with dead:=false}:ak)=D:=by rw [<-j]
   rw [this]at d;exact d
 ·rintro N c ⟨d,k,q,u⟩
  obtain⟨x,p⟩:=d.head;have t:∀l,aW l a f D.di->aj f b l->l.heap.size=b.heap.size->PC ZQ z (r++ #[]++U) l (λi g=>∃C:Int,i= QH C/\Ok (λi g=>∃h,i= QH (if D.dies then 15 else e)/\aW g a h (if D.dies then D.gone else D')/\de f b h g) (.returned (QH C)) g)
    (λI g=>Ok (λi g=>∃h,i= QH (if D.dies then 15 else e)/\aW g a h (if D.dies then D.gone else D')/\de f b h g) (.panicked I) g):=by
   intro l y v A;refine PC.ok (F u l y v A) ?_;rintro _ O ⟨h,rfl,J,K⟩;exact⟨e,rfl,Ok.mk ⟨h,by rw [u];rfl,by rw [u];exact J,(de.mk v λ_ m=>.inl m:de f b f l).trans K⟩⟩
  refine⟨a,0,rfl,_,ae p rfl,al.mk (λo=>?_) (λo=>?_)⟩
  ·have P:D.left≠0:=by
    intro E;simp [ak.dies,o,E]at u
   have E:=d.ok.Cs;have Q:=d.ok.Ct;have L:IntKind.wrap .i64 (D.left-1)=D.left-1:=wrap_i64 (by unfold aN at*;omega);refine⟨a,0,rfl,_,ae p rfl,a,0,rfl,?_⟩;rw [L];refine d.NZ oM (by unfold aN at*;omega) λl y v A=>⟨z,r,U,rfl,B,t l ?_ (k.then v) (A.trans q)⟩
   unfold ak.di;rw [if_pos o];exact y
  ·refine⟨z,r,U,rfl,B,t c ?_ k q⟩
   unfold ak.di;rw [if_neg (by simp [o])];exact d
def cs:ByteArray:=⟨#[97,98,99,100,101,102,103,104,105,106,107,108,109,110,111,112,113,114,115,116,117,118,119,120,121,122,48,49,50,51,52,53,54,55,56,57,46]⟩
theorem Sm:∀a:UInt8,decide (0<=Lib.indexByte cs.data.toList a)=eW a:=by
 have c:(List.range 256).all (λb=>decide (0<=Lib.indexByte cs.data.toList (UInt8.ofNat b))==eW (UInt8.ofNat b))=true:=by decide+kernel
 intro a;have:=List.all_eq_true.1 c a.toNat (List.mem_range.2 a.toNat_lt);simpa using this
theorem Um (c:128<=b9.toNat):eW b9=false:=by
 have a:(List.range 128).all (λb=>eW (UInt8.ofNat (128+b))==false)=true:=by decide+kernel
 have:=List.all_eq_true.1 a (b9.toNat-128) (List.mem_range.2 (by have:=b9.toNat_lt;omega));rw [show 128+(b9.toNat-128)=b9.toNat by omega]at this;simpa using this
theorem CG:∀a∈cs.data.toList,a.toNat<128:=by decide+kernel
theorem Un:cs.size=37:=by decide+kernel
theorem strings_IndexByte {a:ByteArray} {b:Int} {c:World}:Calls ZQ 341 #[.string a,.int .u8 b] c (Ok λe d=>e= QH (Lib.indexByte a.data.toList b.toNat.toUInt8)/\c=d):=
 (Any.strings_IndexByte Tryz.Uo a b c).mono λh d ⟨f,g⟩=>⟨_,f,rfl,g.symm⟩
theorem CH :Calls ZQ 342 #[.int .i32 e] b (Ok λf g=>f= .bool (Utf8.valid e)/\b=g):=by
 have d:=validRune_eq e;unfold validRune at d;refine mP (al.dec (λh=>al.dec (λi=>?_) (λi=>al.dec (λa=>al.dec (λc=>?_) (λc=>?_)) (λa=>?_))) (λh=>al.dec (λa=>al.dec (λc=>?_) (λc=>?_)) (λa=>?_)))
 all_goals
  refine Ok.mk ⟨?_,rfl⟩;rw [d]
  congr 1
  simp;omega
theorem rG (b:a<w.size):w[a]? =some (w[a]'b):=by simp [b]
theorem tR:∀{l:List UInt8} {a:UInt8},(∀b∈l,b≠a)->Lib.indexByte l a= -1
 |[],_,_=>rfl
 |b::l,a,c=>by
  have d:(b==a)=false:=beq_false_of_ne (c b (QV ..));have e:=tR (l:=l) λf g=>c f (QJ _ g);unfold Lib.indexByte;rw [d,e];rfl
theorem rH (y:0<=e):
  Calls ZQ 320 #[.string cs,.int .i32 e] b (Ok λi a=>(∃d:Int,i= QH d/\decide (d>=0)=(decide (e<128)&&eW e.toNat.toUInt8))/\ai b a):=by
 refine te ⟨λj a=>j=decide (e<128)/\a=b,al.dec (λ_=>⟨rfl,rfl⟩) (λg=>absurd y g),?_⟩;rintro Q p h ⟨rfl,rfl⟩;refine al.dec (λg=>PC.ok strings_IndexByte ?_) (λg=>al.dX (λz=>?_) (λz=>PC.ok CH ?_))
 ·rintro _ _ ⟨rfl,rfl⟩
  refine⟨_,rfl,Ok.mk ⟨⟨_,rfl,?_⟩,aj.refl _⟩⟩;have A:IntKind.wrap .u8 e=e:=by
   unfold IntKind.wrap;simp [IntKind.signed,IntKind.bits];omega
  rw [A,decide_eq_true g,Bool.true_and];exact Sm _
 ·have no:∀a,ai h a->Ok (λi a=>(∃d:Int,i= QH d/\decide (d>=0)=(decide (e<128)&&eW e.toNat.toUInt8))/\ai h a) (.returned (QH (-1))) a:=λa q=>
   Ok.mk ⟨⟨_,rfl,by rw [Xv g];rfl⟩,q⟩
  refine CI Tryz.underlying9 λB C r R=>⟨λk a=>∃c,k=cs.size-c/\a.heap[h.heap.size]? =some (.stringIter cs c)/\ai h a,⟨_,0,rfl,C,r⟩,?_⟩
  rintro k p s ⟨c,rfl,E,t⟩;refine HL E (λ_=>.inl ⟨rfl,no s t⟩) λl F u H S=>.inr ⟨_,_,rfl,?_⟩;have m:(cs[c]'l).toNat<128:=CG _ (by rw [show cs[c]'l=cs.data.toList[c]'(by simpa using l)from by simp;rfl];exact XY _);have I:=decode_ascii cs c l m;rw [I]at u⊢;refine al.dX (λg=>oM) (λ_=>⟨_,?_,c+1,rfl,u,t.new H λj m=>.inr oM⟩);omega
 ·have no:∀a,ai h a->Ok (λi a=>(∃d:Int,i= QH d/\decide (d>=0)=(decide (e<128)&&eW e.toNat.toUInt8))/\ai h a) (.returned (QH (-1))) a:=λa q=>
   Ok.mk ⟨⟨_,rfl,by rw [Xv g];rfl⟩,q⟩
  rintro _ _ ⟨rfl,rfl⟩;refine⟨_,rfl,al.not (al.mk (λJ=>?_) (λ_=>no _ (aj.refl _)))⟩;obtain⟨K,L,v⟩:=encode_facts e J oM;refine aH.mk (run_convert_int_string h _ _ .i32 e kR Tryz.underlying9) ⟨_,rfl,?_⟩;generalize Utf8.encode e=f at K L v⊢;have M:IntKind.wrap .i64 (((f.size:Nat):Int)-1)=((f.size-1:Nat):Int):=by rw [wrap_i64 (by unfold aN;omega)];omega
  rw [M];refine⟨λk d a=>d=((f.size-1:Nat):Int)/\ai h a,⟨0,rfl,aj.refl _⟩,?_⟩;rintro k d p B ⟨rfl,r⟩;have T:=Un;have n:f.size-1<f.size:=oM
  have o:f.size-1<cs.size:=oM
  have U:=v n;have V:(cs[f.size-1]'o).toNat<128:=CG _ (by rw [show cs[f.size-1]'o=cs.data.toList[f.size-1]'(by simpa using o)from by simp;rfl];exact XY _);refine al.dec (λW=>⟨λ_ _=>False,?_,λd p b g=>g.elim⟩) (λX=>oM);simp only [Qx];rw [an oM];refine⟨oM,_,rG o,oM,_,rG n,λs N=>al.dw (λ_=>λF O=>⟨oM,oM,oM,_,rG n,PC.ok strings_IndexByte ?_⟩) (λw=>oM)⟩;rintro _ _ ⟨rfl,rfl⟩;have P:Lib.indexByte (cs.extract (Int.toNat ((f.size-1+1:Nat):Int)) cs.size).data.toList ((((f[f.size-1]'n).toNat:Nat):Int).toNat.toUInt8)= -1:=by
   refine tR λj m w=>?_;have x:=CG j (mem_extract m);rw [w]at x;simp at x;omega
  refine⟨_,rfl,al.dec (λ_=>no _ ((r.af N.keep).af O.keep)) (λg=>?_)⟩;rw [P]at g;omega
theorem CK (f:0<=e):
  Calls ZQ 290 #[.int .i32 e] b (Ok λa c=>a= .bool (!(decide (e<128)&&eW e.toNat.toUInt8))/\ai b c):=by
 refine ym (PC.ok (φ:=λa c=>a= .bool (decide (e<128)&&eW e.toNat.toUInt8)/\ai b c) (oQ (PC.ok (rH f) ?_)) ?_)
 ·rintro _ g ⟨⟨h,rfl,i⟩,d⟩
  exact⟨h,rfl,Ok.mk ⟨by rw [i],d⟩⟩
 ·rintro _ g ⟨rfl,d⟩
  exact⟨_,rfl,Ok.mk ⟨rfl,d⟩⟩
theorem l_ :
  Calls ZQ 292 #[.string w,.func (.func 290) #[] #[]] b (Ok λg f=>g= .bool (!w.data.toList.all eW)/\ai b f):=by
 have u:enters ZQ 290=true:=kR
 refine oR (PC.ok (φ:=λg f=>(∃d:Int,g= QH d/\decide (d>=0)= !w.data.toList.all eW)/\ai b f) (tw (PC.ok (φ:=λg f=>(∃d:Int,g= QH d/\decide (d>=0)= !w.data.toList.all eW)/\ai b f) (tx ?_) ?_)) ?_)
 ·refine CI Tryz.underlying9 λF v x H=>⟨λp f=>∃a,p=w.size-a/\a<=w.size/\f.heap[b.heap.size]? =some (.stringIter w a)/\ai b f/\(∀i∈w.data.toList.take a,eW i=true),⟨_,0,rfl,Qj _,v,x,sM⟩,?_⟩
  rintro p I J ⟨a,rfl,K,y,q,j⟩;refine HL y (λz=>.inl ⟨rfl,Ok.mk ⟨⟨_,rfl,?_⟩,q⟩⟩) λe A r B L=>.inr ⟨_,_,rfl,_,_,_,rfl,u,?_⟩
  ·rw [Qz (by simpa using z)]at j
   have:w.data.toList.all eW=true:=List.all_eq_true.2 j;rw [this];rfl
  ·have s:ai b A:=q.new B λi c=>.inr oM
   have t:w.data.toList[a]? =some (w[a]'e):=by
    rw [Qq (by simpa using e)];simp;rfl
   refine PC.ok (CK (Int.natCast_nonneg _)) ?_;rintro _ M ⟨rfl,k⟩;refine⟨_,rfl,al.mk (λl=>?_) (λh=>?_)⟩
   ·
    refine Ok.mk ⟨⟨_,rfl,?_⟩,s.af k⟩;have m:eW (w[a]'e)=false:=by
     by_cases c:(w[a]'e).toNat<128
     ·rw [decode_ascii w a e c]at l
      simp at l;exact l.resolve_left oM
     ·exact Um oM
    have:w.data.toList.all eW=false:=List.all_eq_false.2 ⟨_,QZ t,by simp [m]⟩;rw [this];simp
   ·have c:(w[a]'e).toNat<128:=by
     by_cases c:(w[a]'e).toNat<128
     ·exact c
     ·have N:=(decode_high w a e oM).1
      have C:¬(((Utf8.decode w a).1:Int)<128):=oM
      rw [Xv C]at h;simp at h
    rw [decode_ascii w a e c]at r h;have m:eW (w[a]'e)=true:=by
     simp at h;exact h.2
    refine⟨_,?_,a+1,rfl,oM,k.get r id,s.af k,λi c=>?_⟩
    ·omega
    ·rw [Qw,t]at c
     rcases Q6.1 c with c|c
     ·exact j i c
     ·simp at c;rw [c];exact m
 ·rintro _ E ⟨⟨d,rfl,n⟩,o⟩
  exact⟨d,rfl,Ok.mk ⟨⟨d,rfl,n⟩,o⟩⟩
 ·rintro _ E ⟨⟨d,rfl,n⟩,o⟩
  exact⟨d,rfl,Ok.mk ⟨by rw [n],o⟩⟩
theorem wG :Calls ZQ 243 #[.string w] b (Ok λc d=>c= .bool (dv w)/\ai b d):=by
 refine BX (al.Zl (λa=>al.dec (λe=>PC.ok l_ ?_) (λe=>Ok.mk ⟨?_,aj.refl _⟩)) (λa=>Ok.mk ⟨?_,aj.refl _⟩))
 ·rintro _ i ⟨rfl,f⟩
  refine⟨_,rfl,Ok.mk ⟨?_,f⟩⟩;have g:1<=w.size:=by
   by_cases h:w.size=0
   ·exact absurd (ByteArray.ext (Array.eq_empty_of_size_eq_zero h)) a
   ·omega
  unfold dv;rw [decide_eq_true g,decide_eq_true (show w.size<=16 by omega)];simp
 ·unfold dv
  rw [Xv (show¬w.size<=16 by omega)];simp
 ·subst a;rfl
theorem lG {D:Nat->Prop} (h:Row gq 1 b D d a x) (i:∀e,D e->e<b.heap.size):
  Calls ZQ 174 #[.slice d a c] b (Ok (qD gq 5 b x)):=by
 have y:=h.len;have f:=h.d_;refine mO (kZ ur.under ⟨_,rfl,al.mk (λg=>?_) (λg=>PA.mk λl j z m=>?_)⟩)
 ·have:x=[]:=by
   cases d with
   |none=>
    cases x with
    |nil=>rfl
    |cons n A=>obtain⟨e,o,B,p,_⟩:=h.el 0 n rfl;cases p
   |some q=>cases g
  subst this;exact Ok.mk ⟨none,0,0,λ_=>False,rfl,aV.nil b,aj.refl _,λ_ h=>h.elim⟩
 ·cases d with
  |none=>cases g
  |some q=>
   have r:aV gq 5 (·=b.heap.size) l (some ⟨b.heap.size,0,none⟩) 0 0 []:=
    ⟨⟨[],λ_=>False,Own.xF (cur:= #[]) m rfl (Qj _),rfl,λ_ h=>h.elim⟩,λe f=>by simpa [aI]using f.symm,λe f=>oM⟩
   refine lH r ur (D:=D) (h.af j) (λe f=>⟨by have:=i e f;omega,by have:=i e f;simp only [aI];intro s;cases s;omega⟩) (by simp;omega) (by unfold aQ at f;unfold maxLen;simp;omega) λk t C E u v _ w=>?_;refine⟨_,_,_,rfl,Ok.mk ⟨k,_,t,λe=>aI k=some e,rfl,by have h:=u.alone;rw [List.nil_append]at h;exact h,j.new v λe f=>.inr ?_,λe f=>?_⟩⟩
   ·simp only [aI,Q1]at f;omega
   ·rcases w e f with h|h<;>omega
def gY (a:Int) (b:Nat):Nat:=(max 0 (min a b)).toNat
theorem nV (b:Int) (a:Nat):gY b a<=a:=by unfold gY;omega
def bQ.cut (a:bQ) (b:Int):bQ:=⟨a.bytes.take (gY b a.bytes.length),gY b a.bytes.length,true⟩
theorem Ua (a:bQ) (b:Int):(a.cut b).bytes.length=gY b a.bytes.length:=by
 have:=nV b a.bytes.length;simp [bQ.cut];omega
theorem Cw {G:Nat->Prop} (j:eX b a G a1) (d:a1.bytes.length<=262144):
  Calls ZQ 123 #[.pointer (some ⟨a,0,none⟩),QH e] b (Ok λz q=>∃r,z= .tuple #[]/\eX q a r (a1.cut e)/\de G b r q):=by
 obtain⟨s,f,k,A,B,h,R,S⟩:=j.body;have C:f=a1.bytes.length:=h.len dC;have T:=h.jx;refine wj λl E=>?_;have g:ai b l:=E.keep;have i:=g.get B id;have U:=nV e a1.bytes.length;have F:(if(if((f:Nat):Int)<e then((f:Nat):Int)else e)>0 then(if((f:Nat):Int)<e then((f:Nat):Int)else e)else 0)=((gY e a1.bytes.length:Nat):Int):=by
  unfold gY;rw [C];omega
 refine⟨a,0,rfl,_,_,_,ae i rfl,a,0,rfl,s,f,k,ae i rfl,?_⟩;rw [F];refine⟨oM,oM,?_⟩;rw [Qx];have H:Row gq 1 l A s f a1.bytes:=(h.row dC (by unfold aQ;omega)).af g;refine PC.ok (lG (H.take (m:=gY e a1.bytes.length) oM) (λc d=>Qk (h.aF c d) g.size)) ?_;rintro _ I ⟨t,m,u,n,rfl,o,p,v⟩;have J:m=gY e a1.bytes.length:=by have:=o.len dC;rw [this];simp;omega
 have V:a<l.heap.size:=aC i;refine⟨_,_,_,rfl,a,0,rfl,PS.mk (p.get i id) sM λW K X w=>⟨a,0,rfl,t,m,u,ae w rfl,a,0,rfl,PS.mk w sM λY L Z M=>⟨a,0,rfl,PS.mk M sM λN O s5 P=>Ok.mk ?_⟩⟩⟩;have x:aj (·=a) I N:=(K.then L).then O;have y:∀c,n c->c≠a:=λc d=>by have:=v c d;omega
 refine⟨λc=>c=a\/n c,rfl,⟨⟨t,m,u,n,?_,o.keep x y,λc d=>.inr d,λQ=>y a Q rfl⟩,.inl rfl,?_⟩,⟨((ai.keep g).then (ai.keep p)).then (x.mono λc _ d=>by rw [d];exact j.self),?_⟩⟩
 ·rw [P]
  subst J
  rfl
 ·rintro c (rfl|d)
  ·have:=p.size;omega
  ·have:=o.aF c d;omega
 ·rintro c (rfl|d)
  ·exact .inl j.self
  ·have:=v c d;have:=g.size;exact .inr oM
structure fE (w:World) (p:Nat) (F:Nat->Prop) (D:ak) (r:Nat) (L:List (ByteArray×nW)):Prop where
 head:w.heap[p]? =some (.cells #[QH D.most,.map (some r),.bool D.js,QH D.left,.bool D.dead] 142 (0,0))
 map:cx w r Value.string (L.map eQ)
 files:D.files=L.map wC
 each:FJ w L
 Jy:∀x∈L,∀b,x.2.G b->F b/\b≠p/\b≠r
 Fr:F r
 pr:p≠r
 self:F p
 aF:∀b,F b->b<w.heap.size
 ok:D.Ok
theorem aW.open {D:ak} (c:aW b a f D):∃d e,fE b a f D d e:=by
 obtain⟨d,e,g,h,i,j,k,l,m⟩:=c.body;exact⟨d,e,g,h,i,j,k,l,m,c.self,c.aF,c.ok⟩
theorem fE.at {D:ak} (d:fE b a f D c a2):aW b a f D:=
 ⟨⟨c,a2,d.head,d.map,d.files,d.each,d.Jy,d.Fr,d.pr⟩,d.self,d.aF,d.ok⟩
theorem fE.keep {S g:Nat->Prop} {D:ak} (d:fE b a g D c a2) (f:aj S b k) (h:∀e,g e->¬S e):fE k a g D c a2:=
 ⟨f.get d.head (h _ d.self),d.map.keep f (h _ d.Fr),d.files,d.each.keep f (λj l e i=>h e (d.Jy j l e i).1),d.Jy,d.Fr,d.pr,d.self,λe i=>Qk (d.aF e i) f.size,d.ok⟩
theorem fE.af {D:ak} (d:fE b a f D c a2) (e:ai b k):fE k a f D c a2:=d.keep e λ_ _ d=>d
theorem fE.box {D:ak} (j:fE b a f D c a2) (e:ByteArray):
  (ay D.files e=none/\ay (a2.map eQ) e=none)\/∃d,ay a2 e=some d/\(e,d)∈a2/\ay D.files e=some d.f/\ay (a2.map eQ) e=some (ptr d.q):=by
 have g:ay (a2.map eQ) e=(ay a2 e).map λd=>ptr d.q:=Cv (λd:nW=>ptr d.q) a2 e;have h:ay D.files e=(ay a2 e).map λd=>d.f:=by rw [j.files];exact Cv (λd:nW=>d.f) a2 e
 cases i:ay a2 e with
 |none=>rw [i]at g h;exact .inl ⟨h,g⟩
 |some d=>rw [i]at g h;exact .inr ⟨d,rfl,cF i,h,g⟩
def ak.eJ (D:ak) (a:ByteArray) (b:bQ):ak:={D with files:=aJ D.files a b}
def ak.wB (D:ak) (a:ByteArray):ak:={D with files:=bV D.files a}
theorem ru {l:List (ByteArray×j)} {k:ByteArray} {v:j} (h:(k,v)∈l) (a:Tidy l):aJ l k v=l:=by
 induction l with
 |nil=>cases h
 |cons b l c=>
  obtain⟨d,f⟩:=b;unfold aJ;unfold Tidy at a;simp only [QY,List.nodup_cons]at a;rcases Q2.1 h with h|h
  ·cases h;simp
  ·have:(k==d)=false:=beq_false_of_ne λe=>a.1 (Xk.2 ⟨(k,v),h,e⟩)
   rw [if_neg (by simp [this]),c h a.2]
theorem fE.fr {j w':World} {o G':Nat->Prop} {D:ak} (e:fE j a o D c a2) {k:ByteArray} {x:nW} (w:ay a2 k=some x) 
  (u:eX w' x.q G' a1) (i:de x.G j G' w') (y:(D.eJ k a1).Ok):∃v,fE w' a v (D.eJ k a1) c (aJ a2 k ⟨x.q,G',a1⟩)/\de o j v w':=by
 have l:=cF w;have m:=e.Jy _ l;have z:aj o j w':=i.keep.mono λb _ d=>(m b d).1;have p:∀f∈aJ a2 k ⟨x.q,G',a1⟩,f=(k,⟨x.q,G',a1⟩)\/(f∈a2/\f.1≠k):=λf g=>gu e.each.tidy g;refine⟨λb=>o b\/(j.heap.size<=b/\b<w'.heap.size),⟨i.keep.get e.head λd=>(m _ d).2.1 rfl,?_,?_,⟨?_,?_,e.each.tidy.aJ _ _⟩,?_,.inl e.Fr,e.pr,.inl e.self,?_,y⟩,z,λb d=>d.imp id (·.1)⟩
 ·have A:(aJ a2 k ⟨x.q,G',a1⟩).map eQ=a2.map eQ:=by
   have h:(aJ a2 k ⟨x.q,G',a1⟩).map eQ=aJ (a2.map eQ) k (ptr x.q):=rm (λx:nW=>ptr x.q) a2 k _;rw [h];have B:Tidy (a2.map eQ):=e.map.tidy;exact ru (Xk.2 ⟨_,l,rfl⟩) B
  rw [A];exact e.map.keep i.keep λd=>(m _ d).2.2 rfl
 ·have h:(aJ a2 k ⟨x.q,G',a1⟩).map wC=aJ (a2.map wC) k a1:=rm (λx:nW=>x.f) a2 k _
  rw [h,<-e.files];rfl
 ·intro f g
  rcases p f g with rfl|⟨g,t⟩
  ·exact u
  ·exact(e.each.each f g).keep i.keep λb d=>e.each.apart f g _ l t b d
 ·intro f g q n r b d s
  rcases p f g with rfl|⟨g,t⟩<;>rcases p q n with rfl|⟨n,C⟩
  ·exact r rfl
  ·rcases i.new b d with h|h
   ·exact e.each.apart _ l q n r b h s
   ·have:=(e.each.each q n).aF b s;omega
  ·rcases i.new b s with h|h
   ·exact e.each.apart f g _ l r b d h
   ·have:=(e.each.each f g).aF b d;omega
  ·exact e.each.apart f g q n r b d s
 ·intro f g b d
  rcases p f g with rfl|⟨g,t⟩
  ·have E:=aC e.head
   have F:=e.map.lt;rcases i.new b d with h|h
   ·exact⟨.inl (m b h).1,(m b h).2⟩
   ·exact⟨.inr ⟨h,u.aF b d⟩,oM,oM⟩
  ·exact⟨.inl (e.Jy f g b d).1,(e.Jy f g b d).2⟩
 ·rintro b (d|d)
  ·exact Qk (e.aF b d) i.keep.size
  ·exact d.2
theorem fE.drop {D:ak} (e:fE b a f D c a2) 
  (p:cx k c Value.string (bV (a2.map eQ) w)) (j:aj (·=c) b k) (q:(D.wB w).Ok):fE k a f (D.wB w) c (bV a2 w):=by
 have h:∀d∈bV a2 w,d∈a2:=λd g=>gN g;refine⟨j.get e.head (λi=>e.pr i),?_,?_,⟨λd g=>((e.each.each d (h d g)).keep j λl m=>(e.Jy d (h d g) l m).2.2),λd g o r=>e.each.apart d (h d g) o (h o r),e.each.tidy.bV w⟩,λd g=>e.Jy d (h d g),e.Fr,e.pr,e.self,λl m=>Qk (e.aF l m) j.size,q⟩
 ·have i:(bV a2 w).map eQ=bV (a2.map eQ) w:=Cu (λn:nW=>ptr n.q) a2 w
  rw [i];exact p
 ·have i:(bV a2 w).map wC=bV (a2.map wC) w:=Cu (λn:nW=>n.f) a2 w
  rw [i,<-e.files];rfl
theorem fE.put {r G':Nat->Prop} {D:ak} (g:fE b a r D c a2) {q:Nat} 
  (x:cx k c Value.string (aJ (a2.map eQ) w (ptr q))) (h:aj (·=c) b k) (s:eX b q G' a1) (t:∀e∈a2,e.1≠w->∀d,G' d->¬e.2.G d) (u:∀d,G' d->d≠a/\d≠c) (y:(D.eJ w a1).Ok):
  fE k a (λd=>r d\/G' d) (D.eJ w a1) c (aJ a2 w ⟨q,G',a1⟩):=by
 have j:∀e∈aJ a2 w ⟨q,G',a1⟩,e=(w,⟨q,G',a1⟩)\/(e∈a2/\e.1≠w):=λe f=>gu g.each.tidy f;refine⟨h.get g.head (λi=>g.pr i),?_,?_,⟨?_,?_,g.each.tidy.aJ _ _⟩,?_,.inl g.Fr,g.pr,.inl g.self,?_,y⟩
 ·have i:(aJ a2 w ⟨q,G',a1⟩).map eQ=aJ (a2.map eQ) w (ptr q):=rm (λm:nW=>ptr m.q) a2 w _
  rw [i];exact x
 ·have i:(aJ a2 w ⟨q,G',a1⟩).map wC=aJ (a2.map wC) w a1:=rm (λm:nW=>m.f) a2 w _
  rw [i,<-g.files];rfl
 ·intro e f
  rcases j e f with rfl|⟨f,n⟩
  ·exact s.keep h λd B=>(u d B).2
  ·exact(g.each.each e f).keep h λd B=>(g.Jy e f d B).2.2
 ·intro e f o l v d B p
  rcases j e f with rfl|⟨f,n⟩<;>rcases j o l with rfl|⟨l,z⟩
  ·exact v rfl
  ·exact t o l z d B p
  ·exact t e f n d p B
  ·exact g.each.apart e f o l v d B p
 ·intro e f d B
  rcases j e f with rfl|⟨f,n⟩
  ·exact⟨.inr B,u d B⟩
  ·exact⟨.inl (g.Jy e f d B).1,(g.Jy e f d B).2⟩
 ·rintro d (B|B)
  ·exact Qk (g.aF d B) h.size
  ·exact Qk (s.aF d B) h.size
end Go.Proofs.YtfchlbaidamodaaGreatDoor
namespace Go.ax
open Go
def DX (cs:Array Value):Nat->List Value->Array Value
 |_,[]=>cs
 |a,b::c=>DX (cs.setIfInBounds a b) (a+1) c
theorem GF:∀(c:List Value) (cs:Array Value) (b a:Nat),(DX cs b c)[a]? =if b<=a/\a<b+c.length/\a<cs.size then c[a-b]? else cs[a]?
 |[],cs,b,a=>by rw [if_neg (by simp;omega)];rfl
 |v::c,cs,b,a=>by
  unfold DX;rw [GF c,Array.getElem?_setIfInBounds];simp only [Xq,Array.size_setIfInBounds]
  by_cases d:b+1<=a/\a<b+1+c.length/\a<cs.size
  ·rw [if_pos d,if_pos oM,show a-b=(a-(b+1))+1 by omega,List.getElem?_cons_succ]
  ·rw [if_neg d]
   by_cases e:b=a
   ·subst e
    by_cases f:b<cs.size
    ·rw [if_pos rfl,if_pos f,if_pos oM,Nat.sub_self,List.getElem?_cons_zero]
    ·rw [if_pos rfl,if_neg f,if_neg oM,Array.getElem?_eq_none oM]
   ·rw [if_neg e,if_neg oM]
variable{a3:List Value}{a:Nat}{g:TypeId}{b:World}{y:World->Prop}
theorem GH {cs:Array Value} (b:a3.length=cs.size):DX cs 0 a3=a3.toArray:=by
 apply Array.ext_getElem?;intro a;rw [GF]
 by_cases c:a<cs.size
 ·rw [if_pos oM];simp
 ·rw [if_neg oM,Array.getElem?_eq_none oM]
  simp;omega
theorem zU {d:Nat} {h:TypeId} {i:World->Prop}:∀(c:List Value) (b:Nat) {a:World} {cs:Array Value},a.heap[d]? =some (.cells cs h (0,0))->b+c.length<=cs.size->
  (∀e,aj (·=d) a e->e.heap.size=a.heap.size->e.heap[d]? =some (.cells (DX cs b c) h (0,0))->i e)->jG ⟨d,0,none⟩ b c a i
 |[],b,a,cs,f,j,g=>g a (aj.refl _) rfl f
 |v::c,b,a,cs,f,j,g=>by
  unfold jG;rw [Addr.add_lit,Xz];rw [Xq]at j;exact PS.mk f oM λr k l m=>zU c (b+1) m (by simp;omega) λn o p q=>g n (k.then o) (p.trans l) q
theorem storeAll {cs:Array Value} (d:List Value) (e:b.heap[a]? =some (.cells cs g (0,0))) (f:d.length=cs.size)
  (h:∀c,aj (·=a) b c->c.heap.size=b.heap.size->c.heap[a]? =some (.cells d.toArray g (0,0))->y c):jG ⟨a,0,none⟩ 0 d b y:=
 zU d 0 e oM λc i j k=>h c i j (by rw [k,GH f])
end Go.ax
namespace Go.ax
open Go
theorem wrap_u32 (a:Nat) (b:a<2 ^ 32):IntKind.wrap .u32 (a:Int)=a:=by
 unfold IntKind.wrap;simp [IntKind.signed,IntKind.bits];omega
theorem wrap_u8 (a:Nat):IntKind.wrap .u8 (a:Int)=((a % 256:Nat):Int):=by
 unfold IntKind.wrap;simp [IntKind.signed,IntKind.bits]
theorem ofInt32 (a:sF):BitVec.ofInt (IntKind.bits .u32) ((a.toNat:Nat):Int)=a:=by
 show BitVec.ofInt 32 ((a.toNat:Nat):Int)=a;rw [BitVec.ofInt_natCast];simp
theorem LR (a b:sF):qY .u32 ((a.toNat:Nat):Int) ((b.toNat:Nat):Int)=(((a ^^^ b).toNat:Nat):Int):=by
 unfold qY;rw [ofInt32,ofInt32];exact wrap_u32 _ (a ^^^ b).isLt
theorem RQ (a:sF):qY .u32 (IntKind.max .u32) ((a.toNat:Nat):Int)=(((~~~a).toNat:Nat):Int):=by
 have b:IntKind.max .u32=(((BitVec.allOnes 32).toNat:Nat):Int):=by decide+kernel
 rw [b,LR,BitVec.allOnes_xor]
theorem VM (a:sF):iA .u32 ((a.toNat:Nat):Int) 8=(((a>>>8).toNat:Nat):Int):=by
 unfold iA;have:(min (Int.toNat 8) (IntKind.bits .u32))=8:=dC
 rw [this,BitVec.toNat_ushiftRight,Nat.shiftRight_eq_div_pow];show Int.fdiv _ ((2 ^ 8:Nat):Int)=_;rw [Int.fdiv_eq_ediv_of_nonneg _ (Int.natCast_nonneg _)]
 rfl
theorem Xl (a b:Nat) (c:a<256) (d:b<256):qY .u8 (a:Int) (b:Int)=((a ^^^ b:Nat):Int):=by
 unfold qY;show IntKind.wrap .u8 ((BitVec.ofInt 8 (a:Int) ^^^ BitVec.ofInt 8 (b:Int)).toNat:Int)=_;have e:a ^^^ b<2 ^ 8:=Nat.xor_lt_two_pow oM oM;rw [BitVec.ofInt_natCast,BitVec.ofInt_natCast,BitVec.toNat_xor,BitVec.toNat_ofNat,BitVec.toNat_ofNat,Nat.mod_eq_of_lt oM,Nat.mod_eq_of_lt oM,wrap_u8,Nat.mod_eq_of_lt oM]
theorem VN (a:Nat) (c:a<256):BL .u8 (a:Int) 15=((a % 16:Nat):Int):=by
 unfold BL;show IntKind.wrap .u8 ((BitVec.ofInt 8 (a:Int)&&&BitVec.ofInt 8 ((15:Nat):Int)).toNat:Int)=_;have b:a&&&15=a % 16:=Nat.and_two_pow_sub_one_eq_mod a 4;rw [BitVec.ofInt_natCast,BitVec.ofInt_natCast,BitVec.toNat_and,BitVec.toNat_ofNat,BitVec.toNat_ofNat,Nat.mod_eq_of_lt oM,Nat.mod_eq_of_lt oM,b,wrap_u8,Nat.mod_eq_of_lt oM]
theorem Xm (a:Nat):iA .u8 (a:Int) 4=((a/16:Nat):Int):=by
 unfold iA;have:(min (Int.toNat 4) (IntKind.bits .u8))=4:=dC
 rw [this];show Int.fdiv _ ((2 ^ 4:Nat):Int)=_;rw [Int.fdiv_eq_ediv_of_nonneg _ (Int.natCast_nonneg _)]
 rfl
end Go.ax
namespace Go.Proofs.YtfchlbaidamodaaGreatDoor
open Go.ax
structure qU (w:World):Prop where
 lower:∀i,i<16->w.cell? ⟨2,i,none⟩=some (.int .u32 ((kv.getD i 0:Nat):Int))
 upper:∀i,i<16->w.cell? ⟨3,i,none⟩=some (.int .u32 ((ky.getD i 0:Nat):Int))
 lt:2<w.heap.size/\3<w.heap.size
variable{x:List UInt8}{a c:Nat}{f:Nat->Prop}{d:Option Addr}{b k:World}
theorem qU.af (a:qU b) (d:ai b k):qU k:=
 ⟨λc e=>(d.cell (a:=⟨2,c,none⟩) a.lt.1 id).trans (a.lower c e),λc e=>(d.cell (a:=⟨3,c,none⟩) a.lt.2 id).trans (a.upper c e),Qk a.lt.1 d.size,Qk a.lt.2 d.size⟩
theorem RR:∀a,kv.getD a 0<2 ^ 32/\ky.getD a 0<2 ^ 32:=by
 intro a
 by_cases b:a<16
 ·have c:(List.range 16).all (λa=>decide (kv.getD a 0<2 ^ 32/\ky.getD a 0<2 ^ 32))=true:=by decide+kernel
  simpa using List.all_eq_true.1 c a (List.mem_range.2 b)
 ·rw [QQ,QQ,Q7 (by show 16<=a;omega),Q7 (by show 16<=a;omega)]
  decide
theorem RS {s:sF} (q:qU b) (k:Row gq 1 b f d a x):
  Calls ZQ 316 #[.int .u32 ((s.toNat:Nat):Int),.slice d a c] b (Ok λr l=>r= .int .u32 (((NX s x).toNat:Nat):Int)/\bE b l):=by
 have I:=k.len;have t:=k.d_;unfold aQ at t;refine LB ⟨λo e i l=>∃h:Nat,i=h/\h<=a/\o=a-h/\bE b l/\e=((((x.take h).foldl lb (~~~s)).toNat:Nat):Int),⟨_,0,rfl,Qj _,rfl,bE.refl b,by rw [RQ];rfl⟩,?_⟩;rintro o e i J K ⟨h,rfl,L,rfl,j,rfl⟩;generalize m:(x.take h).foldl lb (~~~s)=e;refine al.dec (λu=>?_) (λu=>Ok.mk ⟨?_,j⟩)
 ·obtain⟨v,n,g,rfl,w,_,y⟩:=(k.af j.keep).mh (i:=h) oM
  have p:=q.af j.keep;have M:=g.toNat_lt;have z:IntKind.wrap .u8 ((e.toNat:Nat):Int)=((e.toNat % 256:Nat):Int):=wrap_u8 _;have N:g.toNat ^^^ e.toNat % 256<2 ^ 8:=Nat.xor_lt_two_pow oM oM;have A:qY .u8 ((g.toNat:Nat):Int) (IntKind.wrap .u8 ((e.toNat:Nat):Int))=((g.toNat ^^^ e.toNat % 256:Nat):Int):=by rw [z,Xl _ _ oM oM]
  refine⟨v,n,rfl,oM,oM,_,y,?_⟩;rw [A,VN _ oM,Xm];refine⟨2,0,rfl,oM,oM,((kv.getD ((g.toNat ^^^ e.toNat % 256) % 16) 0:Nat):Int),?_,3,0,rfl,oM,oM,((ky.getD ((g.toNat ^^^ e.toNat % 256)/16) 0:Nat):Int),?_,λO B=>⟨_,oM,h+1,an oM,oM,rfl,j.then B,?_⟩⟩
  ·rw [Xz];exact p.lower _ oM
  ·rw [Xz];exact p.upper _ oM
  ·have C:=(RR ((g.toNat ^^^ e.toNat % 256) % 16)).1
   have E:=(RR ((g.toNat ^^^ e.toNat % 256)/16)).2;rw [VM];have F:((kv.getD ((g.toNat ^^^ e.toNat % 256) % 16) 0:Nat):Int)=(((BitVec.ofNat 32 (kv.getD ((g.toNat ^^^ e.toNat % 256) % 16) 0)).toNat:Nat):Int):=by rw [BitVec.toNat_ofNat,Nat.mod_eq_of_lt C]
   have H:((ky.getD ((g.toNat ^^^ e.toNat % 256)/16) 0:Nat):Int)=(((BitVec.ofNat 32 (ky.getD ((g.toNat ^^^ e.toNat % 256)/16) 0)).toNat:Nat):Int):=by rw [BitVec.toNat_ofNat,Nat.mod_eq_of_lt E]
   rw [F,H,LR,LR,<-Pt,Qw,w,List.foldl_append,m]
   rfl
 ·rw [Qz oM]at m
  rw [RQ,<-m];rfl
theorem NY (e:qU b) (g:Row gq 1 b f d a x):
  Calls ZQ 284 #[.slice d a c] b (Ok λh i=>h= .int .u32 (((LS x).toNat:Nat):Int)/\bE b i):=by
 refine Pp (PC.ok (RS (s:=0#32) e g) ?_);rintro _ k ⟨rfl,j⟩;exact⟨_,rfl,Ok.mk ⟨rfl,j⟩⟩
end Go.Proofs.YtfchlbaidamodaaGreatDoor
namespace Go.ax
open Go
theorem wrap_u32' (a:Int):IntKind.wrap .u32 a=a % 4294967296:=by
 unfold IntKind.wrap;simp [IntKind.signed,IntKind.bits]
theorem Ml {a d:Nat} (e:a<16777216) (f:d<256):Rg .u32 (Jn .u32 (a:Int) 8) (IntKind.wrap .u32 (d:Int))=((a*256+d:Nat):Int):=by
 have b:Jn .u32 (a:Int) 8=((a*256:Nat):Int):=by
  unfold Jn;have:min (Int.toNat 8) (IntKind.bits .u32)=8:=dC
  rw [this,wrap_u32'];have:((2:Int) ^ 8)=256:=dC
  rw [this];omega
 rw [b,wrap_u32 _ oM];unfold Rg;show IntKind.wrap .u32 ((BitVec.ofInt 32 ((a*256:Nat):Int)|||BitVec.ofInt 32 (d:Int)).toNat:Int)=_;have c:a*256|||d=a*256+d:=by
  have:=(Nat.shiftLeft_add_eq_or_of_lt (a:=a) (i:=8) (b:=d) oM).symm
  rwa [Nat.shiftLeft_eq]at this
 rw [BitVec.ofInt_natCast,BitVec.ofInt_natCast,BitVec.toNat_or,BitVec.toNat_ofNat,BitVec.toNat_ofNat,Nat.mod_eq_of_lt oM,Nat.mod_eq_of_lt oM,c,wrap_u32 _ oM]
theorem jX (a:Nat):IntKind.wrap .u8 (a:Int)=((UInt8.ofNat a).toNat:Int):=by
 rw [wrap_u8,UInt8.toNat_ofNat']
theorem O_ {k:IntKind} {u m:Nat} (a:m<=k.bits):iA k (u:Int) (m:Int)=((u/2 ^ m:Nat):Int):=by
 unfold iA;rw [Qx,X2 a];show Int.fdiv _ ((2:Int) ^ m)=_;rw [Int.fdiv_eq_ediv_of_nonneg _ (Int.pow_nonneg dC)];simp
variable{a c:Nat}{d:Option Addr}{h:Program}{B g q:TypeId}{o t:Value->World->Prop}{b:World}
theorem PF {d tn k c:TypeId} (l:jP h d c 1 1) (n:h.underlying tn=some (.int .i64)) (p:0<a) (q:a<=aQ) 
  (e:∀f g,aV gq c (·=b.heap.size) f (some ⟨b.heap.size,0,none⟩) 0 g []->a<=g->ai b f->o (.slice (some ⟨b.heap.size,0,none⟩) a g) f):
  aH h (Builtin.append_ #[d,tn] k #[.slice none 0 0,QH (a:Int)]) b o t:=by
 obtain⟨r,i,s,u,B,v,w⟩:=l.info;unfold aQ at q;have x:=Lib.run_append_nil_zeros (P:=h) b d tn k c r i .i64 .i64 l.under n s u a p oM oM (by rw [v];omega);have y:=grownCap_ge b a 0 c;refine aH.mk x (e _ _ ?_ y ?_)
 ·have m:=heap_alloc_new b.drew (.cells (Builtin.zeroCells i.cells a++Builtin.zeroCells i.cells (grownCap b a 0 c-a)) c)
  refine⟨⟨[],λ_=>False,⟨⟨sM,.inr ⟨b.heap.size,grownCap b a 0 c,_,rfl,Qj _,m,Qj _,grownCap_le_maxLen b a 0 c (by unfold maxLen;omega),?_,sM⟩⟩⟩,rfl,λ_ e=>e.elim⟩,λz j=>by simpa [aI]using j.symm,λz j=>by rw [j];exact aC m⟩;rw [Array.size_append,size_zeroCells,size_zeroCells,w];show a*1+(grownCap b a 0 c-a)*1=grownCap b a 0 c*1;omega
 ·have A:ai b (b.drewN 1):=aj.drewN b 1
  exact A.then (aj.alloc _ _)
theorem Vo (e:h.underlying g=some (.slice q)) (f:o (QH (c:Int)) b):aH h (Builtin.cap_ #[g] B #[.slice d a c]) b o t:=by
 refine aH.mk (v:=QH (c:Int)) ?_ f;simp [Builtin.cap_,run_underlying e,goInt]
end Go.ax
namespace Go.Proofs.YtfchlbaidamodaaGreatDoor
open Go.ax
variable{d0 x:List UInt8}{E a c i l:Nat}{H:Nat×Nat}{d p:Option Addr}{b:World}
theorem wJ {bs:List UInt8} {D:Nat->Prop} (g:Row gq 1 b D d a bs) (r:a<=4):
  Calls ZQ 299 #[.slice d a c] b (Ok λk e=>k= .int .u32 (gO bs:Int)/\b=e):=by
 have s:=g.len;refine BY ⟨λm h i e=>∃j:Nat,i=j/\j<=a/\m=a-j/\h=(gO (bs.take j):Int)/\b=e,⟨_,0,rfl,Qj _,rfl,rfl,rfl⟩,?_⟩;rintro m h i _ t ⟨j,rfl,u,rfl,rfl,rfl⟩;refine al.dec (λl=>?_) (λl=>?_)
 ·obtain⟨n,f,o,rfl,p,_,q⟩:=g.mh (i:=j) oM
  have v:=oW bs (j:=j) (m:=3) oM;refine⟨n,f,rfl,oM,oM,_,q,_,oM,j+1,an oM,oM,rfl,?_,rfl⟩;rw [Ml (by
            have:(256:Nat) ^ 3=16777216:=dC
            omega) o.toNat_lt,FN p]
 ·rw [Qz oM]
  exact Ok.mk ⟨rfl,rfl⟩
theorem HK {m:Nat} (h:0<m) (e:m<=aQ):
  Calls ZQ 315 #[.slice none 0 0,QH (m:Int)] b (Ok λi a=>∃c f,i= .slice (some ⟨c,0,none⟩) 0 f/\aV gq 5 (·=c) a (some ⟨c,0,none⟩) 0 f []/\ai b a/\b.heap.size<=c):=by
 have d:=e;unfold aQ at d;refine mR ⟨λa=>a=b,al.dec (λg=>oM) (λ_=>rfl),?_⟩;rintro _ o rfl;refine Vo ur.under ⟨_,rfl,?_⟩;have j:IntKind.wrap .i64 ((m:Int)-IntKind.wrap .i64 (((0:Nat):Int)-((0:Nat):Int)))=(m:Int):=by
  rw [wrap_i64 (x:=((0:Nat):Int)-((0:Nat):Int)) (by unfold aN;omega),wrap_i64 (by unfold aN;omega)];omega
 rw [j];refine al.dec (λg=>?_) (λg=>oM);refine Vo ur.under ⟨_,rfl,oM,oM,?_⟩;refine PF ur kR h e λp k l q n=>⟨_,_,_,rfl,oM,oM,Ok.mk ⟨_,k,rfl,l,n,Q4 _⟩⟩
theorem CA {D:Nat->Prop} (C:b.heap[a]? =some (.cells #[.slice d c l,.slice p i E] 197 H))
  (R:Row gq 1 b D d c x) (S:Row gq 1 b D p i d0) (F:∀e,D e->e<b.heap.size) (h0:0<c) (f:c+i<=aQ):
  Calls ZQ 283 #[.slice (some ⟨a,0,none⟩) 2 2] b (Ok (qD gq 5 b (x++d0))):=by
 have l1:=R.len;have l2:=S.len;have I:=f;unfold aQ at I;refine lF ⟨λh y j g=>b=g/\((h=2/\y=0/\j=0)\/(h=1/\y=(c:Int)/\j=1)\/(h=0/\y=((c+i:Nat):Int)/\j=2)),⟨2,rfl,.inl ⟨rfl,rfl,rfl⟩⟩,?_⟩;rintro h y j _ w1 ⟨rfl,J⟩;rcases J with⟨rfl,rfl,rfl⟩|⟨rfl,rfl,rfl⟩|⟨rfl,rfl,rfl⟩
 ·refine al.tt dC ⟨a,0,rfl,oM,oM,d,c,l,ae C rfl,?_⟩
  rw [wrap_i64 (x:=0+((c:Nat):Int)) (by unfold aN;omega)];exact al.dec (λT=>oM) (λ_=>⟨1,oM,rfl,.inr (.inl ⟨rfl,oM,rfl⟩)⟩)
 ·refine al.tt dC ⟨a,0,rfl,oM,oM,p,i,E,ae C rfl,?_⟩
  rw [wrap_i64 (x:=((c:Nat):Int)+((i:Nat):Int)) (by unfold aN;omega)];exact al.dec (λT=>oM) (λ_=>⟨0,oM,rfl,.inr (.inr ⟨rfl,oM,rfl⟩)⟩)
 refine al.ff dC (PC.ok (HK (m:=c+i) oM f) ?_);rintro _ w2 ⟨U,cq,rfl,Z,k2,hq⟩;have a6:∀e,D e->e≠U:=λe f K=>by have:=F e f;omega
 refine⟨_,_,_,rfl,λh r m s j g=>ai b g/\∃n,(∀e,n e->b.heap.size<=e)/\((h=2/\j=0/\aV gq 5 n g r m s [])\/(h=1/\j=1/\aV gq 5 n g r m s x)\/(h=0/\j=2/\aV gq 5 n g r m s (x++d0))),
  ⟨2,k2,(·=U),λe K=>oM,.inl ⟨rfl,rfl,Z⟩⟩,?_⟩
 rintro h r m s j _ V ⟨t,n,z,J⟩;have W:=t.get C id;have ap:∀{A B:List UInt8} {L v X} {M Y:Value->World->Prop},aV gq 5 n V r m s A->Row gq 1 b D L v B->A.length+B.length<=140737488355328->
   (∀o u g q,aV gq 5 q g o (m+v) u (A++B)->ai b g->(∀e,q e->b.heap.size<=e)->M (.slice o (m+v) u) g)->
   aH ZQ (Builtin.append_ #[197,197] 197 #[.slice r m s,.slice L v X]) V M Y:=by
  intro A B L v X M Y k hr a5 N;refine AZ k ur (hr.af t) (λe f=>⟨by have:=F e f;have:=t.size;omega,λK=>?_⟩) (by unfold aQ;omega) (by unfold maxLen;omega) λo u O q w a3 _ a4=>?_
  ·have:=F e f;have:=z e (k.self e K);omega
  ·exact N o u O (λe=>aI o=some e) w.alone (t.new a3 λe f=>.inr (z e (k.self e f))) λe f=>(a4 e f).elim (z e) λT=>by have:=t.size;omega
 rcases J with⟨rfl,rfl,k⟩|⟨rfl,rfl,k⟩|⟨rfl,rfl,k⟩
 ·refine al.tt dC ⟨a,0,rfl,oM,oM,d,c,l,ae W rfl,?_⟩
  exact ap k R (by simp;omega) λo u O q w P Q=>⟨_,_,_,rfl,1,oM,P,q,Q,.inr (.inl ⟨rfl,rfl,w⟩)⟩
 ·refine al.tt dC ⟨a,0,rfl,oM,oM,p,i,E,ae W rfl,?_⟩
  exact ap k S oM λo u O q w P Q=>⟨_,_,_,rfl,0,oM,P,q,Q,.inr (.inr ⟨rfl,rfl,w⟩)⟩
 ·exact al.ff dC (Ok.mk ⟨_,_,_,n,rfl,k,t,z⟩)
end Go.Proofs.YtfchlbaidamodaaGreatDoor
namespace Go.Proofs.YtfchlbaidamodaaGreatDoor
open Go.ax
def ql:fS:=⟨[],[],[],[],[]⟩
variable{c5 w:ByteArray}{s:Ending->World->Prop}{F V b2 c2 c3 c4 e m:Int}{a c i l:Nat}{d p:Option Addr}{b:World}
theorem qm {g:Int} 
  (n:PA b (.cells #[QH e,QH m,QH F,.slice d a c,QH V,QH b2,QH c2,QH c3,QH c4,QH g] 59) λf=>
   (∃(h:Int),f.cell? ⟨i,l,none⟩=some (QH h)/\al ((h:Int) !=0) ((∃(j:Int),f.cell? ⟨b.heap.size,0+9,none⟩=some (QH j)/\
   (∃(k:Int),f.cell? ⟨i,l,none⟩=some (QH k)/\s (.returned (.bool ((j:Int)==k))) f))) (s (.returned (.bool false)) f))):
  Calls ZQ 152 #[.agg #[QH e,QH m,QH F,.slice d a c,QH V,QH b2,QH c2,QH c3,QH c4,QH g],.pointer (some ⟨i,l,none⟩)] b s:=
 gl ql mixed Tryz.func152 rfl (Nat.le_of_ble_eq_true kR) kR (Eq.mp kR n)
def qv:fS:=⟨[],[],[],[],[]⟩
theorem qw 
  (i:PA b (.cells #[.slice p a c] 55) λj=>PC ZQ 80 #[.pointer d,.func (.func 111) #[] #[.pointer (some ⟨b.heap.size,0,none⟩)]] j (λk l=>
   ∃(h:Option Addr) (f:Nat) (g:Nat),k= .slice h f g/\((0:Int)<=(if(if e>0 then e else 0)<((f:Nat):Int)then(if e>0 then e else 0)else((f:Nat):Int))/\
   ((if(if e>0 then e else 0)<((f:Nat):Int)then(if e>0 then e else 0)else((f:Nat):Int)):Int)<=((g:Nat):Int)/\
   s (.returned (.slice h (Int.toNat (if(if e>0 then e else 0)<((f:Nat):Int)then(if e>0 then e else 0)else((f:Nat):Int))) g)) l)) (λm b=>
   s (.panicked m) b)):
  Calls ZQ 55 #[.pointer d,.slice p a c,QH e] b s:=
 gl qv mixed Tryz.func55 rfl (Nat.le_of_ble_eq_true kR) kR (Eq.mp kR i)
def tE:fS:=⟨[],[],[],[],[]⟩
theorem tF 
  (l:PA b (.cells #[QH e] 3) λa=>PA a (.cells #[QH 0,QH 0,QH 0,.slice none 0 0,QH 0,QH 0,QH 0,QH 0,QH 0,QH 0] 59) λm=>
   PC ZQ 80 #[.pointer d,.func (.func 152) #[] #[.pointer (some ⟨b.heap.size,0,none⟩)]] m (λn c=>∃(g:Option Addr) (f:Nat) (o:Nat),n= .slice g f o/\
   al ((((f:Nat):Int):Int)==0) (xJ ZQ 59 (.pointer (some ⟨a.heap.size,0,none⟩)) (.agg #[QH 0,QH 0,QH 0,.slice none 0 0,QH 0,QH 0,QH 0,QH 0,QH 0,QH 0]) c λh=>
   (ow ZQ 59 (.pointer (some ⟨a.heap.size,0,none⟩)) h λp=>s (.returned (.tuple #[p,.bool false])) h)) ((∃i j,g=some ⟨i,j,none⟩/\
   (0:Int)<=0/\0<((f:Nat):Int)/\(ow ZQ 59 (.pointer (some ⟨i,j+Int.toNat 0*10,none⟩)) c λq=>xJ ZQ 59 (.pointer (some ⟨a.heap.size,0,none⟩)) q c λk=>
   (ow ZQ 59 (.pointer (some ⟨a.heap.size,0,none⟩)) k λr=>s (.returned (.tuple #[r,.bool true])) k))))) (λt b=>s (.panicked t) b)):
  Calls ZQ 83 #[.pointer d,QH e] b s:=
 gl tE mixed Tryz.func83 rfl (Nat.le_of_ble_eq_true kR) kR (Eq.mp kR l)
def nJ:fS:=⟨[],[],[1],[],[(1,⟨[0,1,2,0,0,16,32,72,128,260,1023],[2047,2046,2045,2047,2047,2031,2015,1975,1919,1787,1535],[0,0,1,1,0,0,1,2,0,0,0]⟩)]⟩
theorem nK {j:Int} 
  (u:PA b (.cells #[QH e,QH m,QH F,.slice d a c,QH V,QH b2,QH c2,QH c3,QH c4,QH j] 59) λv=>
   (∀f,bE v f->∃k:Nat->Prop,(¬k b.heap.size/\(∃(n:Int),f.cell? ⟨b.heap.size,0+1,none⟩=some (QH n)/\(∃(o:Option Addr) (p:Nat) (q:Nat),f.cell? ⟨i,l,none⟩=some (.slice o p q)/\
   (∃(r:Int),f.cell? ⟨b.heap.size,0,none⟩=some (QH r)/\PC ZQ 112 #[.slice o p q,QH r] f (λw t=>
   ∃(g:Int),w= QH g/\(aj k f t/\s (.returned (.bool (decide ((n:Int)>(if g>0 then g else 0))))) t)) (λx h=>
   ∀(_:cy) (_:dq),s (.panicked x) h))))))):
  Calls ZQ 111 #[.agg #[QH e,QH m,QH F,.slice d a c,QH V,QH b2,QH c2,QH c3,QH c4,QH j],.pointer (some ⟨i,l,none⟩)] b s:=
 gl nJ mixed Tryz.func111 rfl (Nat.le_of_ble_eq_true kR) kR (Eq.mp kR u)
def B_:fS:=⟨[],[],[],[],[]⟩
theorem Ca {r:Int} {j:Int} 
  (N:PA b (.cells #[QH e,QH m,QH F,.slice d a c,QH V,QH b2,QH c2,QH c3,QH c4,QH r] 59) λf=>
   (∃(t:Int),f.cell? ⟨b.heap.size,0,none⟩=some (QH t)/\al (decide ((t:Int)<0)) (s (.returned (QH 1)) f) ((∃(u:Int),f.cell? ⟨b.heap.size,0,none⟩=some (QH u)/\
   al (decide ((u:Int)>=j)) (s (.returned (QH 1)) f) ((∃(k:Int),f.cell? ⟨b.heap.size,0+1,none⟩=some (QH k)/\(∃(l:Int),f.cell? ⟨b.heap.size,0+2,none⟩=some (QH l)/\
   al (decide (((if l<k then l else k):Int)<1)) (s (.returned (QH 1)) f) ((∃(n:Int),f.cell? ⟨b.heap.size,0+5,none⟩=some (QH n)/\
   (∃(o:Int),f.cell? ⟨b.heap.size,0+9,none⟩=some (QH o)/\al (decide (((if o<n then o else n):Int)<0)) (s (.returned (QH 1)) f) ((∃(O:Option Addr) (v:Nat) (P:Nat),f.cell? ⟨b.heap.size,0+3,none⟩=some (.slice O v P)/\
   al ((((v:Nat):Int):Int) !=j) (s (.returned (QH 1)) f) ((∃(w:Option Addr) (x:Nat) (y:Nat),f.cell? ⟨b.heap.size,0+3,none⟩=some (.slice w x y)/\
   PC ZQ 200 #[.slice w x y,.func (.func 199) #[] #[]] f (λQ h=>∃(z:Bool),Q= .bool z/\al z (s (.returned (QH 1)) h) ((∃(A:Option Addr) (B:Nat) (R:Nat),h.cell? ⟨b.heap.size,0+3,none⟩=some (.slice A B R)/\
   (∃(i:Int),h.cell? ⟨b.heap.size,0,none⟩=some (QH i)/\(∃C E,A=some ⟨C,E,none⟩/\(0:Int)<=i/\i<((B:Nat):Int)/\
   (∃(H:Int),h.cell? ⟨C,E+Int.toNat i,none⟩=some (QH H)/\(∃(I:Int),h.cell? ⟨b.heap.size,0+1,none⟩=some (QH I)/\
   (∀g,bE h g->al ((H:Int) !=(IntKind.wrap .i64 (I-1))) (s (.returned (QH 9)) g) ((∃(J:Int),g.cell? ⟨b.heap.size,0+7,none⟩=some (QH J)/\
   al (decide ((J:Int)<1)) (s (.returned (QH 2)) g) ((∃(K:Int),g.cell? ⟨b.heap.size,0+7,none⟩=some (QH K)/\al (decide ((K:Int)>5)) (s (.returned (QH 2)) g) ((∃(p:Int),g.cell? ⟨b.heap.size,0+4,none⟩=some (QH p)/\
   (∃(q:Int),g.cell? ⟨b.heap.size,0+6,none⟩=some (QH q)/\al (decide (((if q<p then q else p):Int)<0)) (s (.returned (QH 8)) g) ((∃(L:Int),g.cell? ⟨b.heap.size,0+4,none⟩=some (QH L)/\
   al (decide ((L:Int)>=8)) (s (.returned (QH 8)) g) ((∃(M:Int),g.cell? ⟨b.heap.size,0+6,none⟩=some (QH M)/\al (decide ((M:Int)>=8)) (s (.returned (QH 8)) g) (s (.returned (QH 0)) g)))))))))))))))))))) (λS b=>
   s (.panicked S) b))))))))))))))):
  Calls ZQ 140 #[.agg #[QH e,QH m,QH F,.slice d a c,QH V,QH b2,QH c2,QH c3,QH c4,QH r],QH j] b s:=
 gl B_ mixed Tryz.func140 rfl (Nat.le_of_ble_eq_true kR) kR (Eq.mp kR N)
def iB:fS:=⟨[],[],[],[],[]⟩
theorem iC (c:PC_ 328 #[.string w,.string c5] b (kB λd a=>al (!d) (rt s ((.tuple #[.string w,.bool false])) a) (((0:Int)<=((ByteArray.size c5:Nat):Int)/\(((ByteArray.size c5:Nat):Int):Int)<=((ByteArray.size w:Nat):Int)/\rt s ((.tuple #[.string (ByteArray.extract w (Int.toNat ((ByteArray.size c5:Nat):Int)) (ByteArray.size w)),.bool true])) a))) (pE s)):Calls ZQ 297 #[.string w,.string c5] b s:=DC iB Tryz.func297 rfl c
def iD:fS:=⟨[],[],[],[],[]⟩
theorem iE (a:al (decide ((((ByteArray.size w:Nat):Int):Int)>=((ByteArray.size c5:Nat):Int))) (((0:Int)<=((ByteArray.size c5:Nat):Int)/\(((ByteArray.size c5:Nat):Int):Int)<=((ByteArray.size w:Nat):Int)/\rt s ((.bool ((ByteArray.toList (ByteArray.extract w 0 (Int.toNat ((ByteArray.size c5:Nat):Int))))==(ByteArray.toList c5)))) b)) (rt s ((.bool false)) b)):Calls ZQ 328 #[.string w,.string c5] b s:=DC iD Tryz.func328 rfl a
def rb:fS:=⟨[],[],[],[],[]⟩
theorem rf (d:PC_ 297 #[.string w,.string c5] b (λe f=>∃a c,e= .tuple #[.string a,.bool c]/\rt s ((.tuple #[.string a,.bool c])) f) (pE s)):Calls ZQ 248 #[.string w,.string c5] b s:=DC rb Tryz.func248 rfl d
def Cf:fS:=⟨[],[],[],[],[(11,⟨[0,1,0,4,10,18,48,64,192,320,576,1088],[4095,4094,4095,4091,4087,4077,4063,4031,3903,3775,3519,3007],[0,2,0,0,2,0,0,0,0,1,0,0]⟩)]⟩
theorem Cg (p:al (decide ((a:Int)<4)) (rt s ((.tuple #[.ii 0,.ii 4])) b) (((0:Int)<=1/\(1:Int)<=4/\(4:Int)<=(c:Int)/\PC_ 299 #[.slice (cM d (Int.toNat 1) c 1) (Int.toNat 4-Int.toNat 1) (c-Int.toNat 1)] b (λq f=>∃e,q= .int .u32 e/\(ix_ d 0 a λr t=>(∃h,f.cell? (ad r (t+Int.toNat 0))=some (.int .u8 h)/\al (h==0) (rt s ((.tuple #[.ii 0,.ii 2])) f) (al (decide (((IntKind.wrap .i64 e):Int)>65536)) (rt s ((.tuple #[.ii 0,.ii 5])) f) (al (decide ((a:Int)<(IntKind.wrap .i64 ((IntKind.wrap .i64 (4+(IntKind.wrap .i64 e)))+5)))) (rt s ((.tuple #[.ii 0,.ii 4])) f) (((0:Int)<=(IntKind.wrap .i64 (4+(IntKind.wrap .i64 e)))/\((IntKind.wrap .i64 (4+(IntKind.wrap .i64 e))):Int)<=(c:Int)/\((0:Int)<=(IntKind.wrap .i64 (4+(IntKind.wrap .i64 e)))/\((IntKind.wrap .i64 (4+(IntKind.wrap .i64 e))):Int)<=(IntKind.wrap .i64 ((IntKind.wrap .i64 (4+(IntKind.wrap .i64 e)))+5))/\((IntKind.wrap .i64 ((IntKind.wrap .i64 (4+(IntKind.wrap .i64 e)))+5)):Int)<=(c:Int)/\(∀i,bE f i->(∀j,bE i j->((0:Int)<=4/\(4:Int)<=(((c-Int.toNat (IntKind.wrap .i64 (4+(IntKind.wrap .i64 e)))):Nat):Int)/\PC_ 284 #[.slice d (Int.toNat (IntKind.wrap .i64 (4+(IntKind.wrap .i64 e)))) c] j (λu v=>∃k,u= .int .u32 k/\PC_ 299 #[.slice (cM d (Int.toNat (IntKind.wrap .i64 (4+(IntKind.wrap .i64 e)))) c 1) (Int.toNat 4) (c-Int.toNat (IntKind.wrap .i64 (4+(IntKind.wrap .i64 e))))] v (λw g=>∃l,w= .int .u32 l/\al (k !=l) (rt s ((.tuple #[.ii 0,.ii 6])) g) ((∃m n,(cM d (Int.toNat (IntKind.wrap .i64 (4+(IntKind.wrap .i64 e)))) c 1)=some ⟨m,n,none⟩/\(0:Int)<=4/\4<((Int.toNat (IntKind.wrap .i64 ((IntKind.wrap .i64 (4+(IntKind.wrap .i64 e)))+5))-Int.toNat (IntKind.wrap .i64 (4+(IntKind.wrap .i64 e))):Nat):Int)/\(∃o,g.cell? (ad m (n+Int.toNat 4))=some (.int .u8 o)/\al (o !=10) (rt s ((.tuple #[.ii 0,.ii 6])) g) (rt s ((.tuple #[.ii (IntKind.wrap .i64 e),.ii 0])) g))))) (pZ s)) (pZ s)))))))))))) (pE s)))):Calls ZQ 251 #[.slice d a c] b s:=DC Cf Tryz.func251 rfl p
def Hv:fS:=⟨[],[],[4],[],[(4,⟨[0,1,2,4,0,0,32,80,128,264,0,1024,2048,1023,16383,32767],[65535,65534,65533,65531,65535,65535,65503,65455,65407,65271,65535,64511,63487,65023,61439,65535],[0,0,1,0,0,0,0,0,2,0,0,0,0,2,0,0]⟩)]⟩
theorem Hw (x:PA b (.cells #[.ii 0,.slice none 0 0] 292) λy=>PC_ 251 #[.slice d a c] y (λz l=>∃e h,z= .tuple #[.ii e,.ii h]/\al (h !=0) (PS l (ab_ b 0) (.ii 0) λA=>PS A (ab_ b (0+1)) (.slice none 0 0) λi=>(∃m n o p,i.cell? (ab_ b 0)=some (.ii m)/\i.cell? (ab_ b (0+1))=some (.slice n o p)/\rt s ((.tuple #[.agg #[.ii m,.slice n o p],.ii 0,.ii h])) i)) ((∀f,bE l f->∃j:Nat->Prop,(ix_ d 0 a λq B=>(¬j q/\(∃r,f.cell? (ad q (B+Int.toNat 0))=some (.int .u8 r)/\((0:Int)<=4/\(4:Int)<=(IntKind.wrap .i64 (4+e))/\((IntKind.wrap .i64 (4+e)):Int)<=(c:Int)/\PC_ 174 #[.slice (cM d (Int.toNat 4) c 1) (Int.toNat (IntKind.wrap .i64 (4+e))-Int.toNat 4) (c-Int.toNat 4)] f (kS_ λC E D k=>(aj j f k/\PS k (ab_ b 0) (.ii (IntKind.wrap .i64 r)) λF=>PS F (ab_ b (0+1)) (.slice C E D) λg=>(aj j k g/\(∃t u v w,g.cell? (ab_ b 0)=some (.ii t)/\g.cell? (ab_ b (0+1))=some (.slice u v w)/\rt s ((.tuple #[.agg #[.ii t,.slice u v w],.ii (IntKind.wrap .i64 ((IntKind.wrap .i64 (4+e))+5)),.ii 0])) g)))) (pZ s)))))))) (pE s)):Calls ZQ 182 #[.slice d a c] b s:=DC Hv Tryz.func182 rfl x
end Go.Proofs.YtfchlbaidamodaaGreatDoor

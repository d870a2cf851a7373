import Derived.Test.YthnilpgpacdmnaaGreatDoorK11
import Derived.Laws.Runes
import Derived.Lib.AppendZeros
namespace Go.Proofs.YthnilpgpacdmnaaGreatDoor
open Go.au
set_option linter.unusedVariables false
set_option maxRecDepth 20000
def eL (b:UInt8):Bool:=(97<=b&&b<=122)||(48<=b&&b<=57)||b==46
def gu (a:ByteArray):Bool:=decide (1<=a.size)&&decide (a.size<=16)&&a.data.toList.all eL
structure cI where
 bytes:List UInt8
 synced:Nat
 lj:Bool
 deriving DecidableEq
structure an where
 most:Nat
 files:List (ByteArray×cI)
 lZ:Bool
 left:Int
 dead:Bool
 deriving DecidableEq
def dW (a:List (ByteArray×cI)):Nat:=(a.map λb=>b.2.bytes.length).sum
def an.used (D:an):Nat:=dW D.files
structure an.Ok (D:an):Prop where
 most:D.most<=262144
 fits:D.used<=D.most
 many:D.files.length<=64
 tidy:Tidy D.files
 names:∀x∈D.files,gu x.1=true
 Pu:∀x∈D.files,x.2.synced<=x.2.bytes.length
 zU:0<=D.left
 zV:aK D.left
variable{U r:Array Value}{K:Bool}{w:ByteArray}{f8:ByteArray×cI}{z:FuncId}{e:Int}{h4:List (ByteArray×cI)}{x:List UInt8}{a c:Nat}{f:Nat->Prop}{d:Option Addr}{L j:Type}{b9:UInt8}{b k:World}{y:World->Prop}{a6:cI}
theorem IW (h:f8∈h4):f8.2.bytes.length<=dW h4:=by
 unfold dW
 induction h4 with
 |nil=>cases h
 |cons b h4 a=>
  simp only [QY,List.sum_cons];rcases Q2.1 h with rfl|h
  ·omega
  ·have:=a h;omega
theorem an.Ok.len {D:an} (a:D.Ok) (b:f8∈D.files):f8.2.bytes.length<=262144:=by
 have:=IW b;have:=a.fits;have:=a.most;unfold an.used at*;omega
structure dL (w:World) (q:Nat) (G:Nat->Prop) (f:cI):Prop where
 body:∃a n cap F,w.heap[q]? =some (.cells #[.slice a n cap,.int .i64 f.synced,.bool f.lj] 223 (0,0))/\aO fg 5 F w a n cap f.bytes/\(∀b,F b->G b)/\¬F q
 self:G q
 aC:∀b,G b->b<w.heap.size
theorem dL.af {S G:Nat->Prop} (d:dL b a G a6) (e:ak S b k) (h:∀c,G c->¬S c):dL k a G a6:=by
 obtain⟨j,l,f,m,n,o,i,p⟩:=d.body;exact⟨⟨j,l,f,m,e.get n (h _ d.self),o.af e (λc g=>h c (i c g)),i,p⟩,d.self,λc g=>Qk (d.aC c g) e.size⟩
structure l_ where
 q:Nat
 G:Nat->Prop
 f:cI
def ptr (a:Nat):Value:=.pointer (some ⟨a,0,none⟩)
def dG (a:ByteArray×l_):ByteArray×Value:=(a.1,ptr a.2.q)
def tW (a:ByteArray×l_):ByteArray×cI:=(a.1,a.2.f)
structure CG (w:World) (L:List (ByteArray×l_)):Prop where
 each:∀x∈L,dL w x.2.q x.2.G x.2.f
 apart:∀x∈L,∀y∈L,x.1≠y.1->∀b,x.2.G b->¬y.2.G b
 tidy:Tidy L
structure aP (w:World) (p:Nat) (F:Nat->Prop) (D:an):Prop where
 body:∃r L,w.heap[p]? =some (.cells #[.int .i64 D.most,.map (some r),.bool D.lZ,.int .i64 D.left,.bool D.dead] 124 (0,0))/\bG w r Value.string (L.map dG)/\D.files=L.map tW/\CG w L/\
  (∀x∈L,∀b,x.2.G b->F b/\b≠p/\b≠r)/\F r/\p≠r
 self:F p
 aC:∀b,F b->b<w.heap.size
 ok:D.Ok
variable{a0:List (ByteArray×l_)}
theorem CG.af {S:Nat->Prop} (c:CG b a0) (f:ak S b k) (g:∀a∈a0,∀d,a.2.G d->¬S d):CG k a0:=
 ⟨λa e=>(c.each a e).af f (g a e),c.apart,c.tidy⟩
theorem aP.af {S f:Nat->Prop} {D:an} (d:aP b a f D) (e:ak S b k) (g:∀c,f c->¬S c):aP k a f D:=by
 obtain⟨l,m,n,o,p,q,i,j,r⟩:=d.body;exact⟨⟨l,m,e.get n (g _ d.self),o.af e (g _ j),p,q.af e (λs t c h=>g c (i s t c h).1),i,j,r⟩,d.self,λc h=>Qk (d.aC c h) e.size,d.ok⟩
theorem aP.ah {D:an} (c:aP b a f D) (d:ai b k):aP k a f D:=c.af d λ_ _ c=>c
theorem ph (c:j->L) (b:List (ByteArray×j)) (d:ByteArray) (e:j):(aH b d e).map (λa=>(a.1,c a.2))=aH (b.map λa=>(a.1,c a.2)) d (c e):=by
 induction b with
 |nil=>rfl
 |cons f b g=>
  obtain⟨a,h⟩:=f;simp only [aH,QY];split
  ·rfl
  ·simp [g]
theorem zW (c:j->L) (b:List (ByteArray×j)) (d:ByteArray):(bV b d).map (λa=>(a.1,c a.2))=bV (b.map λa=>(a.1,c a.2)) d:=by
 induction b with
 |nil=>rfl
 |cons e b f=>
  obtain⟨a,g⟩:=e;simp only [bV,QY];split
  ·rfl
  ·simp [f]
theorem zY (c:j->L) (a:List (ByteArray×j)) (d:ByteArray):aD (a.map λb=>(b.1,c b.2)) d=(aD a d).map c:=by
 induction a with
 |nil=>rfl
 |cons e a f=>
  obtain⟨b,g⟩:=e;simp only [aD,QY];split
  ·rfl
  ·exact f
theorem fh {b:List (ByteArray×j)} (e:Tidy b) {c:j} {a:ByteArray×j} (h:a∈aH b w c):a=(w,c)\/(a∈b/\a.1≠w):=by
 by_cases d:a.1=w
 ·left
  have:=pk (e.aH w c) (k:=a.1) (v:=a.2) h;rw [qm,d]at this;simp at this;exact Prod.ext d this.symm
 ·rcases eG h with rfl|h
  ·exact .inl rfl
  ·exact .inr ⟨h,d⟩
theorem Eu {b:List (ByteArray×j)} (c:Tidy b) {a:ByteArray×j} (d:a∈bV b w):a∈b/\a.1≠w:=by
 refine⟨fA d,λf=>?_⟩;have e:=pk (c.bV w) (k:=a.1) (v:=a.2) d;rw [LS c,f]at e;simp at e
theorem wI {l:List (ByteArray×cI)} {k:ByteArray} {f:cI}:dW (aH l k f)+((aD l k).map λa=>a.bytes.length).getD 0=dW l+f.bytes.length:=by
 unfold dW
 induction l with
 |nil=>simp [aH,aD]
 |cons b l c=>
  obtain⟨d,e⟩:=b;simp only [aH,aD];split
  ·simp;omega
  ·simp only [QY,List.sum_cons]at c⊢;omega
theorem wJ {l:List (ByteArray×cI)} {k:ByteArray}:dW (bV l k)+((aD l k).map λa=>a.bytes.length).getD 0=dW l:=by
 unfold dW
 induction l with
 |nil=>simp [bV,aD]
 |cons b l c=>
  obtain⟨d,e⟩:=b;simp only [bV,aD];split
  ·simp;omega
  ·simp only [QY,List.sum_cons]at c⊢;omega
theorem vR {a:List (ByteArray×j)} {c:j} (b:(aD a w).isSome=true):(aH a w c).length=a.length:=by
 induction a with
 |nil=>simp [aD]at b
 |cons d a e=>
  obtain⟨g,h⟩:=d;simp only [aH,aD]at b⊢;split
  ·rfl
  ·rename_i f
   rw [if_neg f]at b;simp [e b]
theorem aP.head {D:an} (d:aP b a f D):∃c,b.heap[a]? =some (.cells #[.int .i64 D.most,.map (some c),.bool D.lZ,.int .i64 D.left,.bool D.dead] 124 (0,0)):=by
 obtain⟨c,g,e,_⟩:=d.body;exact⟨c,e⟩
theorem aP.IX {D c:an} (e:aP b a f D) (g:ak (·=a) b k)
  (m:∀d,b.heap[a]? =some (.cells #[.int .i64 D.most,.map (some d),.bool D.lZ,.int .i64 D.left,.bool D.dead] 124 (0,0))->k.heap[a]? =some (.cells #[.int .i64 c.most,.map (some d),.bool c.lZ,.int .i64 c.left,.bool c.dead] 124 (0,0)))
  (n:c.files=D.files) (o:c.Ok):aP k a f c:=by
 obtain⟨d,p,q,r,s,t,j,u,l⟩:=e.body;exact⟨⟨d,p,m d q,r.af g (λv=>l v.symm),n.trans s,t.af g (λw x h i=>(j w x h i).2.1),j,u,l⟩,e.self,λh i=>Qk (e.aC h i) g.size,o⟩
theorem aP.yq {D:an} (c:aP b a f D) (e:∀d,aP d a f {D with dead:=K}->ak f b d->d.heap.size=b.heap.size->y d):PS b ⟨a,0+4,none⟩ (.bool K) y:=by
 obtain⟨m,g⟩:=c.head;refine PS.mk g sM λd h j k=>e d (c.IX h (λn i=>?_) rfl ⟨c.ok.most,c.ok.fits,c.ok.many,c.ok.tidy,c.ok.names,c.ok.Pu,c.ok.zU,c.ok.zV⟩) (h.mono λK _ l=>l▸c.self) j;rw [g]at i;cases i;exact k
theorem aP.GH {D:an} (c:aP b a f D) (e:∀d,aP d a f {D with lZ:=K}->ak f b d->d.heap.size=b.heap.size->y d):PS b ⟨a,0+2,none⟩ (.bool K) y:=by
 obtain⟨m,g⟩:=c.head;refine PS.mk g sM λd h j k=>e d (c.IX h (λn i=>?_) rfl ⟨c.ok.most,c.ok.fits,c.ok.many,c.ok.tidy,c.ok.names,c.ok.Pu,c.ok.zU,c.ok.zV⟩) (h.mono λK _ l=>l▸c.self) j;rw [g]at i;cases i;exact k
theorem aP.Kz {D:an} (c:aP b a f D) (k:0<=e) (l:aK e) (g:∀d,aP d a f {D with left:=e}->ak f b d->d.heap.size=b.heap.size->y d):PS b ⟨a,0+3,none⟩ (.int .i64 e) y:=by
 obtain⟨p,h⟩:=c.head;refine PS.mk h sM λd i m n=>g d (c.IX i (λq j=>?_) rfl ⟨c.ok.most,c.ok.fits,c.ok.many,c.ok.tidy,c.ok.names,c.ok.Pu,k,l⟩) (i.mono λr _ o=>o▸c.self) m;rw [h]at j;cases j;exact n
theorem LU :Calls Tryz.prog 23 #[.int .i64 e] b (Ok λf d=>
  if e<64\/e>262144 then f= .tuple #[.pointer none,.int .i64 1]/\d=b
  else∃g h,f= .tuple #[.pointer (some ⟨g,0,none⟩),.int .i64 0]/\aP d g h ⟨e.toNat,[],false,0,false⟩/\ai b d/\∀a,h a->b.heap.size<=a):=by
 refine Gs (al.dec (λc=>?_) (λc=>al.dec (λi=>?_) (λi=>?_)))
 ·exact Ok.mk (by rw [if_pos (.inl c)];exact⟨rfl,rfl⟩)
 ·exact Ok.mk (by rw [if_pos (.inr i)];exact⟨rfl,rfl⟩)
 ·refine PA.mk λk l p m=>PA.mk λn j q o=>Ok.mk ?_
  rw [if_neg oM];refine⟨k.heap.size,λa=>b.heap.size<=a/\a<n.heap.size,rfl,⟨⟨b.heap.size,[],?_,bG.new (j.get m id),rfl,⟨sM,sM,by simp [Tidy]⟩,sM,oM,oM⟩,oM,λa c=>c.2,?_⟩,l.ah j,λa c=>c.1⟩
  ·rw [o]
   have:((e.toNat:Nat):Int)=e:=oM
   rw [this]
  ·exact⟨by show e.toNat<=_;omega,by simp [an.used,dW],by simp,by simp [Tidy],by simp,by simp,by simp,by unfold aK;simp⟩
def an.PQ (D:an) (a:Int):an:={D with lZ:=true,left:=max a 0}
theorem LV {D:an} (m:aK e) (c:aP b a f D):Calls Tryz.prog 75 #[.pointer (some ⟨a,0,none⟩),.int .i64 e] b (Ok λh d=>h= .tuple #[]/\aP d a f (D.PQ e)/\cz f b f d):=by
 have i:(if e>0 then e else 0)=max e 0:=oM
 refine tx ⟨a,0,rfl,c.GH λn j k o=>⟨a,0,rfl,j.Kz oM (by unfold aK at*;omega) λp g l q=>Ok.mk ⟨rfl,?_,k.then l,λ_ c=>.inl c⟩⟩⟩;rw [i]at g;exact g
def an.dies (D:an):Bool:=D.dead||(D.lZ&&D.left==0)
def an.dH (D:an):an:=if D.lZ then{D with left:=D.left-1}else D
def an.gone (D:an):an:={D with dead:=true}
theorem IY {D:an} (m:aP b a f D) {e:Int} {D':an} (B:enters Tryz.prog z=true)
  (F:D.dies=false->∀c,aP c a f D.dH->ak f b c->c.heap.size=b.heap.size->Calls Tryz.prog z (r++ #[]++U) c (Ok λi g=>∃h,i= .int .i64 e/\aP g a h D'/\cz f c h g)):
  Calls Tryz.prog 237 #[.pointer (some ⟨a,0,none⟩),.func (.func z) r U] b (Ok λi g=>∃h,i= .int .i64 (if D.dies then 15 else e)/\aP g a h (if D.dies then D.gone else D')/\cz f b h g):=by
 obtain⟨M,w⟩:=m.head;have n:∀c,D.dies=true->aP c a f {D with dead:=true}->ak f b c->Ok (λi g=>∃h,i= .int .i64 (if D.dies then 15 else e)/\aP g a h (if D.dies then D.gone else D')/\cz f b h g) (.returned (.int .i64 15)) c:=
  λc j d H=>Ok.mk ⟨f,by rw [j];rfl,by rw [j];exact d,H,λ_ m=>.inl m⟩
 refine sC ⟨λc=>aP c a f D/\ak f b c/\c.heap.size=b.heap.size/\D.dies=false,?_,?_⟩
 ·refine⟨a,0,rfl,_,ae w rfl,al.mk (λj=>⟨a,0,rfl,m.yq λc d k q=>?_⟩) (λj=>⟨a,0,rfl,_,ae w rfl,al.mk (λo=>⟨a,0,rfl,_,ae w rfl,a,0,rfl,m.yq λc d k q=>?_⟩) (λo=>⟨a,0,rfl,m.yq λc d k q=>?_⟩)⟩)⟩
  ·obtain⟨x,p⟩:=d.head
   exact⟨a,0,rfl,true,ae p rfl,n c (by simp [an.dies,j]) d k⟩
  ·obtain⟨x,p⟩:=d.head
   refine⟨a,0,rfl,D.left==0,ae p rfl,al.mk (λs=>n c (by unfold an.dies;rw [o,s];simp) (by rw [s]at d;exact d) k) (λs=>⟨?_,k,q,by unfold an.dies;rw [j,s];simp⟩)⟩;have:({D with dead:=D.left==0}:an)=D:=by rw [s,<-j]
   rw [this]at d;exact d
  ·obtain⟨x,p⟩:=d.head
   refine⟨a,0,rfl,false,ae p rfl,?_,k,q,by simp [an.dies,j,o]⟩;have:({D with dead:=false}:an)=D:=by rw [<-j]
   rw [this]at d;exact d
 ·rintro N c ⟨d,k,q,u⟩
  obtain⟨x,p⟩:=d.head;have t:∀l,aP l a f D.dH->ak f b l->l.heap.size=b.heap.size->PC Tryz.prog z (r++ #[]++U) l (λi g=>∃C:Int,i= .int .i64 C/\Ok (λi g=>∃h,i= .int .i64 (if D.dies then 15 else e)/\aP g a h (if D.dies then D.gone else D')/\cz f b h g) (.returned (.int .i64 C)) g)
    (λI g=>Ok (λi g=>∃h,i= .int .i64 (if D.dies then 15 else e)/\aP g a h (if D.dies then D.gone else D')/\cz f b h g) (.panicked I) g):=by
   intro l y v A;refine PC.ok (F u l y v A) ?_;rintro _ O ⟨h,rfl,J,K⟩;exact⟨e,rfl,Ok.mk ⟨h,by rw [u];rfl,by rw [u];exact J,(cz.mk v λ_ m=>.inl m:cz f b f l).trans K⟩⟩
  refine⟨a,0,rfl,_,ae p rfl,al.mk (λo=>?_) (λo=>?_)⟩
  ·have P:D.left≠0:=by
    intro E;simp [an.dies,o,E]at u
   have E:=d.ok.zU;have Q:=d.ok.zV;have L:IntKind.wrap .i64 (D.left-1)=D.left-1:=wrap_i64 (by unfold aK at*;omega);refine⟨a,0,rfl,_,ae p rfl,a,0,rfl,?_⟩;rw [L];refine d.Kz oM (by unfold aK at*;omega) λl y v A=>⟨z,r,U,rfl,B,t l ?_ (k.then v) (A.trans q)⟩
   unfold an.dH;rw [if_pos o];exact y
  ·refine⟨z,r,U,rfl,B,t c ?_ k q⟩
   unfold an.dH;rw [if_neg (by simp [o])];exact d
def cs:ByteArray:=⟨#[97,98,99,100,101,102,103,104,105,106,107,108,109,110,111,112,113,114,115,116,117,118,119,120,121,122,48,49,50,51,52,53,54,55,56,57,46]⟩
theorem Oh:∀a:UInt8,decide (0<=Lib.indexByte cs.data.toList a)=eL a:=by
 have c:(List.range 256).all (λb=>decide (0<=Lib.indexByte cs.data.toList (UInt8.ofNat b))==eL (UInt8.ofNat b))=true:=by decide+kernel
 intro a;have:=List.all_eq_true.1 c a.toNat (List.mem_range.2 a.toNat_lt);simpa using this
theorem Qe (c:128<=b9.toNat):eL b9=false:=by
 have a:(List.range 128).all (λb=>eL (UInt8.ofNat (128+b))==false)=true:=by decide+kernel
 have:=List.all_eq_true.1 a (b9.toNat-128) (List.mem_range.2 (by have:=b9.toNat_lt;omega));rw [show 128+(b9.toNat-128)=b9.toNat by omega]at this;simpa using this
theorem Ah:∀a∈cs.data.toList,a.toNat<128:=by decide+kernel
theorem Qf:cs.size=37:=by decide+kernel
theorem strings_IndexByte {a:ByteArray} {b:Int} {c:World}:Calls Tryz.prog 344 #[.string a,.int .u8 b] c (Ok λe d=>e= .int .i64 (Lib.indexByte a.data.toList b.toNat.toUInt8)/\c=d):=
 (Any.strings_IndexByte Tryz.Qg a b c).mono λh d ⟨f,g⟩=>⟨_,f,rfl,g.symm⟩
theorem Ai :Calls Tryz.prog 345 #[.int .i32 e] b (Ok λf g=>f= .bool (Utf8.valid e)/\b=g):=by
 have d:=validRune_eq e;unfold validRune at d;refine k_ (al.dec (λh=>al.dec (λi=>?_) (λi=>al.dec (λa=>al.dec (λc=>?_) (λc=>?_)) (λa=>?_))) (λh=>al.dec (λa=>al.dec (λc=>?_) (λc=>?_)) (λa=>?_)))
 all_goals
  refine Ok.mk ⟨?_,rfl⟩;rw [d]
  congr 1
  simp;omega
theorem pD (b:a<w.size):w[a]? =some (w[a]'b):=by simp [b]
theorem rr:∀{l:List UInt8} {a:UInt8},(∀b∈l,b≠a)->Lib.indexByte l a= -1
 |[],_,_=>rfl
 |b::l,a,c=>by
  have d:(b==a)=false:=beq_false_of_ne (c b (QV ..));have e:=rr (l:=l) λf g=>c f (QJ _ g);unfold Lib.indexByte;rw [d,e];rfl
theorem pF (y:0<=e):
  Calls Tryz.prog 318 #[.string cs,.int .i32 e] b (Ok λi a=>(∃d:Int,i= .int .i64 d/\decide (d>=0)=(decide (e<128)&&eL e.toNat.toUInt8))/\ai b a):=by
 refine qH ⟨λj a=>j=decide (e<128)/\a=b,al.dec (λ_=>⟨rfl,rfl⟩) (λg=>absurd y g),?_⟩;rintro Q p h ⟨rfl,rfl⟩;refine al.dec (λg=>PC.ok strings_IndexByte ?_) (λg=>al.dJ (λz=>?_) (λz=>PC.ok Ai ?_))
 ·rintro _ _ ⟨rfl,rfl⟩
  refine⟨_,rfl,Ok.mk ⟨⟨_,rfl,?_⟩,ak.refl _⟩⟩;have A:IntKind.wrap .u8 e=e:=by
   unfold IntKind.wrap;simp [IntKind.signed,IntKind.bits];omega
  rw [A,decide_eq_true g,Bool.true_and];exact Oh _
 ·have no:∀a,ai h a->Ok (λi a=>(∃d:Int,i= .int .i64 d/\decide (d>=0)=(decide (e<128)&&eL e.toNat.toUInt8))/\ai h a) (.returned (.int .i64 (-1))) a:=λa q=>
   Ok.mk ⟨⟨_,rfl,by rw [Xv g];rfl⟩,q⟩
  refine Aj Tryz.underlying9 λB C r R=>⟨λk a=>∃c,k=cs.size-c/\a.heap[h.heap.size]? =some (.stringIter cs c)/\ai h a,⟨_,0,rfl,C,r⟩,?_⟩
  rintro k p s ⟨c,rfl,E,t⟩;refine EE E (λ_=>.inl ⟨rfl,no s t⟩) λl F u H S=>.inr ⟨_,_,rfl,?_⟩;have m:(cs[c]'l).toNat<128:=Ah _ (by rw [show cs[c]'l=cs.data.toList[c]'(by simpa using l)from by simp;rfl];exact XY _);have I:=decode_ascii cs c l m;rw [I]at u⊢;refine al.dJ (λg=>oM) (λ_=>⟨_,?_,c+1,rfl,u,t.new H λj m=>.inr oM⟩);omega
 ·have no:∀a,ai h a->Ok (λi a=>(∃d:Int,i= .int .i64 d/\decide (d>=0)=(decide (e<128)&&eL e.toNat.toUInt8))/\ai h a) (.returned (.int .i64 (-1))) a:=λa q=>
   Ok.mk ⟨⟨_,rfl,by rw [Xv g];rfl⟩,q⟩
  rintro _ _ ⟨rfl,rfl⟩;refine⟨_,rfl,al.not (al.mk (λJ=>?_) (λ_=>no _ (ak.refl _)))⟩;obtain⟨K,L,v⟩:=encode_facts e J oM;refine aE.mk (run_convert_int_string h _ _ .i32 e kR Tryz.underlying9) ⟨_,rfl,?_⟩;generalize Utf8.encode e=f at K L v⊢;have M:IntKind.wrap .i64 (((f.size:Nat):Int)-1)=((f.size-1:Nat):Int):=by rw [wrap_i64 (by unfold aK;omega)];omega
  rw [M];refine⟨λk d a=>d=((f.size-1:Nat):Int)/\ai h a,⟨0,rfl,ak.refl _⟩,?_⟩;rintro k d p B ⟨rfl,r⟩;have T:=Qf;have n:f.size-1<f.size:=oM
  have o:f.size-1<cs.size:=oM
  have U:=v n;have V:(cs[f.size-1]'o).toNat<128:=Ah _ (by rw [show cs[f.size-1]'o=cs.data.toList[f.size-1]'(by simpa using o)from by simp;rfl];exact XY _);refine al.dec (λW=>⟨λ_ _=>False,?_,λd p b g=>g.elim⟩) (λX=>oM);simp only [Qx];rw [aq oM];refine⟨oM,_,pD o,oM,_,pD n,λs N=>al.df (λ_=>λF O=>⟨oM,oM,oM,_,pD n,PC.ok strings_IndexByte ?_⟩) (λw=>oM)⟩;rintro _ _ ⟨rfl,rfl⟩;have P:Lib.indexByte (cs.extract (Int.toNat ((f.size-1+1:Nat):Int)) cs.size).data.toList ((((f[f.size-1]'n).toNat:Nat):Int).toNat.toUInt8)= -1:=by
   refine rr λj m w=>?_;have x:=Ah j (mem_extract m);rw [w]at x;simp at x;omega
  refine⟨_,rfl,al.dec (λ_=>no _ ((r.ah N.af).ah O.af)) (λg=>?_)⟩;rw [P]at g;omega
theorem Ak (f:0<=e):
  Calls Tryz.prog 292 #[.int .i32 e] b (Ok λa c=>a= .bool (!(decide (e<128)&&eL e.toNat.toUInt8))/\ai b c):=by
 refine vH (PC.ok (φ:=λa c=>a= .bool (decide (e<128)&&eL e.toNat.toUInt8)/\ai b c) (mU (PC.ok (pF f) ?_)) ?_)
 ·rintro _ g ⟨⟨h,rfl,i⟩,d⟩
  exact⟨h,rfl,Ok.mk ⟨by rw [i],d⟩⟩
 ·rintro _ g ⟨rfl,d⟩
  exact⟨_,rfl,Ok.mk ⟨rfl,d⟩⟩
theorem kj :
  Calls Tryz.prog 294 #[.string w,.func (.func 292) #[] #[]] b (Ok λg f=>g= .bool (!w.data.toList.all eL)/\ai b f):=by
 have u:enters Tryz.prog 292=true:=kR
 refine mV (PC.ok (φ:=λg f=>(∃d:Int,g= .int .i64 d/\decide (d>=0)= !w.data.toList.all eL)/\ai b f) (qS (PC.ok (φ:=λg f=>(∃d:Int,g= .int .i64 d/\decide (d>=0)= !w.data.toList.all eL)/\ai b f) (qT ?_) ?_)) ?_)
 ·refine Aj Tryz.underlying9 λF v x H=>⟨λp f=>∃a,p=w.size-a/\a<=w.size/\f.heap[b.heap.size]? =some (.stringIter w a)/\ai b f/\(∀i∈w.data.toList.take a,eL i=true),⟨_,0,rfl,Qj _,v,x,sM⟩,?_⟩
  rintro p I J ⟨a,rfl,K,y,q,j⟩;refine EE y (λz=>.inl ⟨rfl,Ok.mk ⟨⟨_,rfl,?_⟩,q⟩⟩) λe A r B L=>.inr ⟨_,_,rfl,_,_,_,rfl,u,?_⟩
  ·rw [Qz (by simpa using z)]at j
   have:w.data.toList.all eL=true:=List.all_eq_true.2 j;rw [this];rfl
  ·have s:ai b A:=q.new B λi c=>.inr oM
   have t:w.data.toList[a]? =some (w[a]'e):=by
    rw [Qq (by simpa using e)];simp;rfl
   refine PC.ok (Ak (Int.natCast_nonneg _)) ?_;rintro _ M ⟨rfl,k⟩;refine⟨_,rfl,al.mk (λl=>?_) (λh=>?_)⟩
   ·
    refine Ok.mk ⟨⟨_,rfl,?_⟩,s.ah k⟩;have m:eL (w[a]'e)=false:=by
     by_cases c:(w[a]'e).toNat<128
     ·rw [decode_ascii w a e c]at l
      simp at l;exact l.resolve_left oM
     ·exact Qe oM
    have:w.data.toList.all eL=false:=List.all_eq_false.2 ⟨_,QZ t,by simp [m]⟩;rw [this];simp
   ·have c:(w[a]'e).toNat<128:=by
     by_cases c:(w[a]'e).toNat<128
     ·exact c
     ·have N:=(decode_high w a e oM).1
      have C:¬(((Utf8.decode w a).1:Int)<128):=oM
      rw [Xv C]at h;simp at h
    rw [decode_ascii w a e c]at r h;have m:eL (w[a]'e)=true:=by
     simp at h;exact h.2
    refine⟨_,?_,a+1,rfl,oM,k.get r id,s.ah k,λi c=>?_⟩
    ·omega
    ·rw [Qw,t]at c
     rcases Q6.1 c with c|c
     ·exact j i c
     ·simp at c;rw [c];exact m
 ·rintro _ E ⟨⟨d,rfl,n⟩,o⟩
  exact⟨d,rfl,Ok.mk ⟨⟨d,rfl,n⟩,o⟩⟩
 ·rintro _ E ⟨⟨d,rfl,n⟩,o⟩
  exact⟨d,rfl,Ok.mk ⟨by rw [n],o⟩⟩
theorem tZ :Calls Tryz.prog 239 #[.string w] b (Ok λc d=>c= .bool (gu w)/\ai b d):=by
 refine zu (al.Vz (λa=>al.dec (λe=>PC.ok kj ?_) (λe=>Ok.mk ⟨?_,ak.refl _⟩)) (λa=>Ok.mk ⟨?_,ak.refl _⟩))
 ·rintro _ i ⟨rfl,f⟩
  refine⟨_,rfl,Ok.mk ⟨?_,f⟩⟩;have g:1<=w.size:=by
   by_cases h:w.size=0
   ·exact absurd (ByteArray.ext (Array.eq_empty_of_size_eq_zero h)) a
   ·omega
  unfold gu;rw [decide_eq_true g,decide_eq_true (show w.size<=16 by omega)];simp
 ·unfold gu
  rw [Xv (show¬w.size<=16 by omega)];simp
 ·subst a;rfl
theorem jL {D:Nat->Prop} (h:Row fg 1 b D d a x) (i:∀e,D e->e<b.heap.size):
  Calls Tryz.prog 193 #[.slice d a c] b (Ok (oy fg 5 b x)):=by
 have y:=h.len;have f:=h.dt;refine kZ (js rZ.under ⟨_,rfl,al.mk (λg=>?_) (λg=>PA.mk λl j z m=>?_)⟩)
 ·have:x=[]:=by
   cases d with
   |none=>
    cases x with
    |nil=>rfl
    |cons n A=>obtain⟨e,o,B,p,_⟩:=h.el 0 n rfl;cases p
   |some q=>cases g
  subst this;exact Ok.mk ⟨none,0,0,λ_=>False,rfl,aO.nil b,ak.refl _,λ_ h=>h.elim⟩
 ·cases d with
  |none=>cases g
  |some q=>
   have r:aO fg 5 (·=b.heap.size) l (some ⟨b.heap.size,0,none⟩) 0 0 []:=
    ⟨⟨[],λ_=>False,Own.yJ (cur:= #[]) m rfl (Qj _),rfl,λ_ h=>h.elim⟩,λe f=>by simpa [aF]using f.symm,λe f=>oM⟩
   refine jM r rZ (D:=D) (h.ah j) (λe f=>⟨by have:=i e f;omega,by have:=i e f;simp only [aF];intro s;cases s;omega⟩) (by simp;omega) (by unfold aI at f;unfold maxLen;simp;omega) λk t C E u v _ w=>?_;refine⟨_,_,_,rfl,Ok.mk ⟨k,_,t,λe=>aF k=some e,rfl,by have h:=u.alone;rw [List.nil_append]at h;exact h,j.new v λe f=>.inr ?_,λe f=>?_⟩⟩
   ·simp only [aF,Q1]at f;omega
   ·rcases w e f with h|h<;>omega
def mX (a:Int) (b:Nat):Nat:=(max 0 (min a b)).toNat
theorem vS (b:Int) (a:Nat):mX b a<=a:=by unfold mX;omega
def cI.cut (a:cI) (b:Int):cI:=⟨a.bytes.take (mX b a.bytes.length),mX b a.bytes.length,true⟩
theorem PR (a:cI) (b:Int):(a.cut b).bytes.length=mX b a.bytes.length:=by
 have:=vS b a.bytes.length;simp [cI.cut];omega
theorem zZ {G:Nat->Prop} (j:dL b a G a6) (d:a6.bytes.length<=262144):
  Calls Tryz.prog 133 #[.pointer (some ⟨a,0,none⟩),.int .i64 e] b (Ok λz q=>∃r,z= .tuple #[]/\dL q a r (a6.cut e)/\cz G b r q):=by
 obtain⟨s,f,k,A,B,h,R,S⟩:=j.body;have C:f=a6.bytes.length:=h.len dC;have T:=h.jD;refine tO λl E=>?_;have g:ai b l:=E.af;have i:=g.get B id;have U:=vS e a6.bytes.length;have F:(if(if((f:Nat):Int)<e then((f:Nat):Int)else e)>0 then(if((f:Nat):Int)<e then((f:Nat):Int)else e)else 0)=((mX e a6.bytes.length:Nat):Int):=by
  unfold mX;rw [C];omega
 refine⟨a,0,rfl,_,_,_,ae i rfl,a,0,rfl,s,f,k,ae i rfl,?_⟩;rw [F];refine⟨oM,oM,?_⟩;rw [Qx];have H:Row fg 1 l A s f a6.bytes:=(h.row dC (by unfold aI;omega)).ah g;refine PC.ok (jL (H.take (m:=mX e a6.bytes.length) oM) (λc d=>Qk (h.aC c d) g.size)) ?_;rintro _ I ⟨t,m,u,n,rfl,o,p,v⟩;have J:m=mX e a6.bytes.length:=by have:=o.len dC;rw [this];simp;omega
 have V:a<l.heap.size:=ay i;refine⟨_,_,_,rfl,a,0,rfl,PS.mk (p.get i id) sM λW K X w=>⟨a,0,rfl,t,m,u,ae w rfl,a,0,rfl,PS.mk w sM λY L Z M=>⟨a,0,rfl,PS.mk M sM λN O s5 P=>Ok.mk ?_⟩⟩⟩;have x:ak (·=a) I N:=(K.then L).then O;have y:∀c,n c->c≠a:=λc d=>by have:=v c d;omega
 refine⟨λc=>c=a\/n c,rfl,⟨⟨t,m,u,n,?_,o.af x y,λc d=>.inr d,λQ=>y a Q rfl⟩,.inl rfl,?_⟩,⟨((ai.af g).then (ai.af p)).then (x.mono λc _ d=>by rw [d];exact j.self),?_⟩⟩
 ·rw [P]
  subst J
  rfl
 ·rintro c (rfl|d)
  ·have:=p.size;omega
  ·have:=o.aC c d;omega
 ·rintro c (rfl|d)
  ·exact .inl j.self
  ·have:=v c d;have:=g.size;exact .inr oM
structure eE (w:World) (p:Nat) (F:Nat->Prop) (D:an) (r:Nat) (L:List (ByteArray×l_)):Prop where
 head:w.heap[p]? =some (.cells #[.int .i64 D.most,.map (some r),.bool D.lZ,.int .i64 D.left,.bool D.dead] 124 (0,0))
 map:bG w r Value.string (L.map dG)
 files:D.files=L.map tW
 each:CG w L
 GI:∀x∈L,∀b,x.2.G b->F b/\b≠p/\b≠r
 Fr:F r
 pr:p≠r
 self:F p
 aC:∀b,F b->b<w.heap.size
 ok:D.Ok
theorem aP.open {D:an} (c:aP b a f D):∃d e,eE b a f D d e:=by
 obtain⟨d,e,g,h,i,j,k,l,m⟩:=c.body;exact⟨d,e,g,h,i,j,k,l,m,c.self,c.aC,c.ok⟩
theorem eE.at {D:an} (d:eE b a f D c a0):aP b a f D:=
 ⟨⟨c,a0,d.head,d.map,d.files,d.each,d.GI,d.Fr,d.pr⟩,d.self,d.aC,d.ok⟩
theorem eE.af {S g:Nat->Prop} {D:an} (d:eE b a g D c a0) (f:ak S b k) (h:∀e,g e->¬S e):eE k a g D c a0:=
 ⟨f.get d.head (h _ d.self),d.map.af f (h _ d.Fr),d.files,d.each.af f (λj l e i=>h e (d.GI j l e i).1),d.GI,d.Fr,d.pr,d.self,λe i=>Qk (d.aC e i) f.size,d.ok⟩
theorem eE.ah {D:an} (d:eE b a f D c a0) (e:ai b k):eE k a f D c a0:=d.af e λ_ _ d=>d
theorem eE.box {D:an} (j:eE b a f D c a0) (e:ByteArray):
  (aD D.files e=none/\aD (a0.map dG) e=none)\/∃d,aD a0 e=some d/\(e,d)∈a0/\aD D.files e=some d.f/\aD (a0.map dG) e=some (ptr d.q):=by
 have g:aD (a0.map dG) e=(aD a0 e).map λd=>ptr d.q:=zY (λd:l_=>ptr d.q) a0 e;have h:aD D.files e=(aD a0 e).map λd=>d.f:=by rw [j.files];exact zY (λd:l_=>d.f) a0 e
 cases i:aD a0 e with
 |none=>rw [i]at g h;exact .inl ⟨h,g⟩
 |some d=>rw [i]at g h;exact .inr ⟨d,rfl,bQ i,h,g⟩
def an.gU (D:an) (a:ByteArray) (b:cI):an:={D with files:=aH D.files a b}
def an.BU (D:an) (a:ByteArray):an:={D with files:=bV D.files a}
theorem pq {l:List (ByteArray×j)} {k:ByteArray} {v:j} (h:(k,v)∈l) (a:Tidy l):aH l k v=l:=by
 induction l with
 |nil=>cases h
 |cons b l c=>
  obtain⟨d,f⟩:=b;unfold aH;unfold Tidy at a;simp only [QY,List.nodup_cons]at a;rcases Q2.1 h with h|h
  ·cases h;simp
  ·have:(k==d)=false:=beq_false_of_ne λe=>a.1 (Xk.2 ⟨(k,v),h,e⟩)
   rw [if_neg (by simp [this]),c h a.2]
theorem eE.dZ {j w':World} {o G':Nat->Prop} {D:an} (e:eE j a o D c a0) {k:ByteArray} {x:l_} (w:aD a0 k=some x) 
  (u:dL w' x.q G' a6) (i:cz x.G j G' w') (y:(D.gU k a6).Ok):∃v,eE w' a v (D.gU k a6) c (aH a0 k ⟨x.q,G',a6⟩)/\cz o j v w':=by
 have l:=bQ w;have m:=e.GI _ l;have z:ak o j w':=i.af.mono λb _ d=>(m b d).1;have p:∀f∈aH a0 k ⟨x.q,G',a6⟩,f=(k,⟨x.q,G',a6⟩)\/(f∈a0/\f.1≠k):=λf g=>fh e.each.tidy g;refine⟨λb=>o b\/(j.heap.size<=b/\b<w'.heap.size),⟨i.af.get e.head λd=>(m _ d).2.1 rfl,?_,?_,⟨?_,?_,e.each.tidy.aH _ _⟩,?_,.inl e.Fr,e.pr,.inl e.self,?_,y⟩,z,λb d=>d.imp id (·.1)⟩
 ·have A:(aH a0 k ⟨x.q,G',a6⟩).map dG=a0.map dG:=by
   have h:(aH a0 k ⟨x.q,G',a6⟩).map dG=aH (a0.map dG) k (ptr x.q):=ph (λx:l_=>ptr x.q) a0 k _;rw [h];have B:Tidy (a0.map dG):=e.map.tidy;exact pq (Xk.2 ⟨_,l,rfl⟩) B
  rw [A];exact e.map.af i.af λd=>(m _ d).2.2 rfl
 ·have h:(aH a0 k ⟨x.q,G',a6⟩).map tW=aH (a0.map tW) k a6:=ph (λx:l_=>x.f) a0 k _
  rw [h,<-e.files];rfl
 ·intro f g
  rcases p f g with rfl|⟨g,t⟩
  ·exact u
  ·exact(e.each.each f g).af i.af λb d=>e.each.apart f g _ l t b d
 ·intro f g q n r b d s
  rcases p f g with rfl|⟨g,t⟩<;>rcases p q n with rfl|⟨n,C⟩
  ·exact r rfl
  ·rcases i.new b d with h|h
   ·exact e.each.apart _ l q n r b h s
   ·have:=(e.each.each q n).aC b s;omega
  ·rcases i.new b s with h|h
   ·exact e.each.apart f g _ l r b d h
   ·have:=(e.each.each f g).aC b d;omega
  ·exact e.each.apart f g q n r b d s
 ·intro f g b d
  rcases p f g with rfl|⟨g,t⟩
  ·have E:=ay e.head
   have F:=e.map.lt;rcases i.new b d with h|h
   ·exact⟨.inl (m b h).1,(m b h).2⟩
   ·exact⟨.inr ⟨h,u.aC b d⟩,oM,oM⟩
  ·exact⟨.inl (e.GI f g b d).1,(e.GI f g b d).2⟩
 ·rintro b (d|d)
  ·exact Qk (e.aC b d) i.af.size
  ·exact d.2
theorem eE.drop {D:an} (e:eE b a f D c a0) 
  (p:bG k c Value.string (bV (a0.map dG) w)) (j:ak (·=c) b k) (q:(D.BU w).Ok):eE k a f (D.BU w) c (bV a0 w):=by
 have h:∀d∈bV a0 w,d∈a0:=λd g=>fA g;refine⟨j.get e.head (λi=>e.pr i),?_,?_,⟨λd g=>((e.each.each d (h d g)).af j λl m=>(e.GI d (h d g) l m).2.2),λd g o r=>e.each.apart d (h d g) o (h o r),e.each.tidy.bV w⟩,λd g=>e.GI d (h d g),e.Fr,e.pr,e.self,λl m=>Qk (e.aC l m) j.size,q⟩
 ·have i:(bV a0 w).map dG=bV (a0.map dG) w:=zW (λn:l_=>ptr n.q) a0 w
  rw [i];exact p
 ·have i:(bV a0 w).map tW=bV (a0.map tW) w:=zW (λn:l_=>n.f) a0 w
  rw [i,<-e.files];rfl
theorem eE.put {r G':Nat->Prop} {D:an} (g:eE b a r D c a0) {q:Nat} 
  (x:bG k c Value.string (aH (a0.map dG) w (ptr q))) (h:ak (·=c) b k) (s:dL b q G' a6) (t:∀e∈a0,e.1≠w->∀d,G' d->¬e.2.G d) (u:∀d,G' d->d≠a/\d≠c) (y:(D.gU w a6).Ok):
  eE k a (λd=>r d\/G' d) (D.gU w a6) c (aH a0 w ⟨q,G',a6⟩):=by
 have j:∀e∈aH a0 w ⟨q,G',a6⟩,e=(w,⟨q,G',a6⟩)\/(e∈a0/\e.1≠w):=λe f=>fh g.each.tidy f;refine⟨h.get g.head (λi=>g.pr i),?_,?_,⟨?_,?_,g.each.tidy.aH _ _⟩,?_,.inl g.Fr,g.pr,.inl g.self,?_,y⟩
 ·have i:(aH a0 w ⟨q,G',a6⟩).map dG=aH (a0.map dG) w (ptr q):=ph (λm:l_=>ptr m.q) a0 w _
  rw [i];exact x
 ·have i:(aH a0 w ⟨q,G',a6⟩).map tW=aH (a0.map tW) w a6:=ph (λm:l_=>m.f) a0 w _
  rw [i,<-g.files];rfl
 ·intro e f
  rcases j e f with rfl|⟨f,n⟩
  ·exact s.af h λd B=>(u d B).2
  ·exact(g.each.each e f).af h λd B=>(g.GI e f d B).2.2
 ·intro e f o l v d B p
  rcases j e f with rfl|⟨f,n⟩<;>rcases j o l with rfl|⟨l,z⟩
  ·exact v rfl
  ·exact t o l z d B p
  ·exact t e f n d p B
  ·exact g.each.apart e f o l v d B p
 ·intro e f d B
  rcases j e f with rfl|⟨f,n⟩
  ·exact⟨.inr B,u d B⟩
  ·exact⟨.inl (g.GI e f d B).1,(g.GI e f d B).2⟩
 ·rintro d (B|B)
  ·exact Qk (g.aC d B) h.size
  ·exact Qk (s.aC d B) h.size
end Go.Proofs.YthnilpgpacdmnaaGreatDoor
namespace Go.au
open Go
set_option linter.unusedVariables false
def Bm (cs:Array Value):Nat->List Value->Array Value
 |_,[]=>cs
 |a,b::c=>Bm (cs.setIfInBounds a b) (a+1) c
theorem DA:∀(c:List Value) (cs:Array Value) (b a:Nat),(Bm cs b c)[a]? =if b<=a/\a<b+c.length/\a<cs.size then c[a-b]? else cs[a]?
 |[],cs,b,a=>by rw [if_neg (by simp;omega)];rfl
 |v::c,cs,b,a=>by
  unfold Bm;rw [DA c,Array.getElem?_setIfInBounds];simp only [Xq,Array.size_setIfInBounds]
  by_cases d:b+1<=a/\a<b+1+c.length/\a<cs.size
  ·rw [if_pos d,if_pos oM,show a-b=(a-(b+1))+1 by omega,List.getElem?_cons_succ]
  ·rw [if_neg d]
   by_cases e:b=a
   ·subst e
    by_cases f:b<cs.size
    ·rw [if_pos rfl,if_pos f,if_pos oM,Nat.sub_self,List.getElem?_cons_zero]
    ·rw [if_pos rfl,if_neg f,if_neg oM,Array.getElem?_eq_none oM]
   ·rw [if_neg e,if_neg oM]
variable{a1:List Value}{a:Nat}{g:TypeId}{b:World}{y:World->Prop}
theorem DB {cs:Array Value} (b:a1.length=cs.size):Bm cs 0 a1=a1.toArray:=by
 apply Array.ext_getElem?;intro a;rw [DA]
 by_cases c:a<cs.size
 ·rw [if_pos oM];simp
 ·rw [if_neg oM,Array.getElem?_eq_none oM]
  simp;omega
theorem xl {d:Nat} {h:TypeId} {i:World->Prop}:∀(c:List Value) (b:Nat) {a:World} {cs:Array Value},a.heap[d]? =some (.cells cs h (0,0))->b+c.length<=cs.size->
  (∀e,ak (·=d) a e->e.heap.size=a.heap.size->e.heap[d]? =some (.cells (Bm cs b c) h (0,0))->i e)->iq ⟨d,0,none⟩ b c a i
 |[],b,a,cs,f,j,g=>g a (ak.refl _) rfl f
 |v::c,b,a,cs,f,j,g=>by
  unfold iq;rw [Addr.add_lit,Xz];rw [Xq]at j;exact PS.mk f oM λr k l m=>xl c (b+1) m (by simp;omega) λn o p q=>g n (k.then o) (p.trans l) q
theorem storeAll {cs:Array Value} (d:List Value) (e:b.heap[a]? =some (.cells cs g (0,0))) (f:d.length=cs.size)
  (h:∀c,ak (·=a) b c->c.heap.size=b.heap.size->c.heap[a]? =some (.cells d.toArray g (0,0))->y c):iq ⟨a,0,none⟩ 0 d b y:=
 xl d 0 e oM λc i j k=>h c i j (by rw [k,DB f])
end Go.au
namespace Go.au
open Go
set_option linter.unusedVariables false
theorem wrap_u32 (a:Nat) (b:a<2 ^ 32):IntKind.wrap .u32 (a:Int)=a:=by
 unfold IntKind.wrap;simp [IntKind.signed,IntKind.bits];omega
theorem wrap_u8 (a:Nat):IntKind.wrap .u8 (a:Int)=((a % 256:Nat):Int):=by
 unfold IntKind.wrap;simp [IntKind.signed,IntKind.bits]
theorem ofInt32 (a:ql):BitVec.ofInt (IntKind.bits .u32) ((a.toNat:Nat):Int)=a:=by
 show BitVec.ofInt 32 ((a.toNat:Nat):Int)=a;rw [BitVec.ofInt_natCast];simp
theorem IS (a b:ql):oU .u32 ((a.toNat:Nat):Int) ((b.toNat:Nat):Int)=(((a ^^^ b).toNat:Nat):Int):=by
 unfold oU;rw [ofInt32,ofInt32];exact wrap_u32 _ (a ^^^ b).isLt
theorem NJ (a:ql):oU .u32 (IntKind.max .u32) ((a.toNat:Nat):Int)=(((~~~a).toNat:Nat):Int):=by
 have b:IntKind.max .u32=(((BitVec.allOnes 32).toNat:Nat):Int):=by decide+kernel
 rw [b,IS,BitVec.allOnes_xor]
theorem R_ (a:ql):fU .u32 ((a.toNat:Nat):Int) 8=(((a>>>8).toNat:Nat):Int):=by
 unfold fU;have:(min (Int.toNat 8) (IntKind.bits .u32))=8:=dC
 rw [this,BitVec.toNat_ushiftRight,Nat.shiftRight_eq_div_pow];show Int.fdiv _ ((2 ^ 8:Nat):Int)=_;rw [Int.fdiv_eq_ediv_of_nonneg _ (Int.natCast_nonneg _)]
 rfl
theorem Tt (a b:Nat) (c:a<256) (d:b<256):oU .u8 (a:Int) (b:Int)=((a ^^^ b:Nat):Int):=by
 unfold oU;show IntKind.wrap .u8 ((BitVec.ofInt 8 (a:Int) ^^^ BitVec.ofInt 8 (b:Int)).toNat:Int)=_;have e:a ^^^ b<2 ^ 8:=Nat.xor_lt_two_pow oM oM;rw [BitVec.ofInt_natCast,BitVec.ofInt_natCast,BitVec.toNat_xor,BitVec.toNat_ofNat,BitVec.toNat_ofNat,Nat.mod_eq_of_lt oM,Nat.mod_eq_of_lt oM,wrap_u8,Nat.mod_eq_of_lt oM]
theorem Sa (a:Nat) (c:a<256):zb .u8 (a:Int) 15=((a % 16:Nat):Int):=by
 unfold zb;show IntKind.wrap .u8 ((BitVec.ofInt 8 (a:Int)&&&BitVec.ofInt 8 ((15:Nat):Int)).toNat:Int)=_;have b:a&&&15=a % 16:=Nat.and_two_pow_sub_one_eq_mod a 4;rw [BitVec.ofInt_natCast,BitVec.ofInt_natCast,BitVec.toNat_and,BitVec.toNat_ofNat,BitVec.toNat_ofNat,Nat.mod_eq_of_lt oM,Nat.mod_eq_of_lt oM,b,wrap_u8,Nat.mod_eq_of_lt oM]
theorem Tu (a:Nat):fU .u8 (a:Int) 4=((a/16:Nat):Int):=by
 unfold fU;have:(min (Int.toNat 4) (IntKind.bits .u8))=4:=dC
 rw [this];show Int.fdiv _ ((2 ^ 4:Nat):Int)=_;rw [Int.fdiv_eq_ediv_of_nonneg _ (Int.natCast_nonneg _)]
 rfl
end Go.au
namespace Go.Proofs.YthnilpgpacdmnaaGreatDoor
open Go.au
set_option linter.unusedVariables false
set_option maxRecDepth 20000
structure oR (w:World):Prop where
 lower:∀i,i<16->w.cell? ⟨2,i,none⟩=some (.int .u32 ((iZ.getD i 0:Nat):Int))
 upper:∀i,i<16->w.cell? ⟨3,i,none⟩=some (.int .u32 ((i_.getD i 0:Nat):Int))
 lt:2<w.heap.size/\3<w.heap.size
variable{x:List UInt8}{a c:Nat}{f:Nat->Prop}{d:Option Addr}{b k:World}
theorem oR.ah (a:oR b) (d:ai b k):oR k:=
 ⟨λc e=>(d.cell (a:=⟨2,c,none⟩) a.lt.1 id).trans (a.lower c e),λc e=>(d.cell (a:=⟨3,c,none⟩) a.lt.2 id).trans (a.upper c e),Qk a.lt.1 d.size,Qk a.lt.2 d.size⟩
theorem NK:∀a,iZ.getD a 0<2 ^ 32/\i_.getD a 0<2 ^ 32:=by
 intro a
 by_cases b:a<16
 ·have c:(List.range 16).all (λa=>decide (iZ.getD a 0<2 ^ 32/\i_.getD a 0<2 ^ 32))=true:=by decide+kernel
  simpa using List.all_eq_true.1 c a (List.mem_range.2 b)
 ·rw [QQ,QQ,Q7 (by show 16<=a;omega),Q7 (by show 16<=a;omega)]
  decide
theorem NL {s:ql} (q:oR b) (k:Row fg 1 b f d a x):
  Calls Tryz.prog 313 #[.int .u32 ((s.toNat:Nat):Int),.slice d a c] b (Ok λr l=>r= .int .u32 (((Kx s x).toNat:Nat):Int)/\bd b l):=by
 have I:=k.len;have t:=k.dt;unfold aI at t;refine IE ⟨λo e i l=>∃h:Nat,i=h/\h<=a/\o=a-h/\bd b l/\e=((((x.take h).foldl ju (~~~s)).toNat:Nat):Int),⟨_,0,rfl,Qj _,rfl,bd.refl b,by rw [NJ];rfl⟩,?_⟩;rintro o e i J K ⟨h,rfl,L,rfl,j,rfl⟩;generalize m:(x.take h).foldl ju (~~~s)=e;refine al.dec (λu=>?_) (λu=>Ok.mk ⟨?_,j⟩)
 ·obtain⟨v,n,g,rfl,w,_,y⟩:=(k.ah j.af).kp (i:=h) oM
  have p:=q.ah j.af;have M:=g.toNat_lt;have z:IntKind.wrap .u8 ((e.toNat:Nat):Int)=((e.toNat % 256:Nat):Int):=wrap_u8 _;have N:g.toNat ^^^ e.toNat % 256<2 ^ 8:=Nat.xor_lt_two_pow oM oM;have A:oU .u8 ((g.toNat:Nat):Int) (IntKind.wrap .u8 ((e.toNat:Nat):Int))=((g.toNat ^^^ e.toNat % 256:Nat):Int):=by rw [z,Tt _ _ oM oM]
  refine⟨v,n,rfl,oM,oM,_,y,?_⟩;rw [A,Sa _ oM,Tu];refine⟨2,0,rfl,oM,oM,((iZ.getD ((g.toNat ^^^ e.toNat % 256) % 16) 0:Nat):Int),?_,3,0,rfl,oM,oM,((i_.getD ((g.toNat ^^^ e.toNat % 256)/16) 0:Nat):Int),?_,λO B=>⟨_,oM,h+1,aq oM,oM,rfl,j.then B,?_⟩⟩
  ·rw [Xz];exact p.lower _ oM
  ·rw [Xz];exact p.upper _ oM
  ·have C:=(NK ((g.toNat ^^^ e.toNat % 256) % 16)).1
   have E:=(NK ((g.toNat ^^^ e.toNat % 256)/16)).2;rw [R_];have F:((iZ.getD ((g.toNat ^^^ e.toNat % 256) % 16) 0:Nat):Int)=(((BitVec.ofNat 32 (iZ.getD ((g.toNat ^^^ e.toNat % 256) % 16) 0)).toNat:Nat):Int):=by rw [BitVec.toNat_ofNat,Nat.mod_eq_of_lt C]
   have H:((i_.getD ((g.toNat ^^^ e.toNat % 256)/16) 0:Nat):Int)=(((BitVec.ofNat 32 (i_.getD ((g.toNat ^^^ e.toNat % 256)/16) 0)).toNat:Nat):Int):=by rw [BitVec.toNat_ofNat,Nat.mod_eq_of_lt E]
   rw [F,H,IS,IS,<-LN,Qw,w,List.foldl_append,m]
   rfl
 ·rw [Qz oM]at m
  rw [NJ,<-m];rfl
theorem Ky (e:oR b) (g:Row fg 1 b f d a x):
  Calls Tryz.prog 282 #[.slice d a c] b (Ok λh i=>h= .int .u32 (((LO x).toNat:Nat):Int)/\bd b i):=by
 refine LJ (PC.ok (NL (s:=0#32) e g) ?_);rintro _ k ⟨rfl,j⟩;exact⟨_,rfl,Ok.mk ⟨rfl,j⟩⟩
end Go.Proofs.YthnilpgpacdmnaaGreatDoor
namespace Go.au
open Go
set_option linter.unusedVariables false
theorem wrap_u32' (a:Int):IntKind.wrap .u32 a=a % 4294967296:=by
 unfold IntKind.wrap;simp [IntKind.signed,IntKind.bits]
theorem Jh {a d:Nat} (e:a<16777216) (f:d<256):Na .u32 (Gz .u32 (a:Int) 8) (IntKind.wrap .u32 (d:Int))=((a*256+d:Nat):Int):=by
 have b:Gz .u32 (a:Int) 8=((a*256:Nat):Int):=by
  unfold Gz;have:min (Int.toNat 8) (IntKind.bits .u32)=8:=dC
  rw [this,wrap_u32'];have:((2:Int) ^ 8)=256:=dC
  rw [this];omega
 rw [b,wrap_u32 _ oM];unfold Na;show IntKind.wrap .u32 ((BitVec.ofInt 32 ((a*256:Nat):Int)|||BitVec.ofInt 32 (d:Int)).toNat:Int)=_;have c:a*256|||d=a*256+d:=by
  have:=(Nat.shiftLeft_add_eq_or_of_lt (a:=a) (i:=8) (b:=d) oM).symm
  rwa [Nat.shiftLeft_eq]at this
 rw [BitVec.ofInt_natCast,BitVec.ofInt_natCast,BitVec.toNat_or,BitVec.toNat_ofNat,BitVec.toNat_ofNat,Nat.mod_eq_of_lt oM,Nat.mod_eq_of_lt oM,c,wrap_u32 _ oM]
theorem iH (a:Nat):IntKind.wrap .u8 (a:Int)=((UInt8.ofNat a).toNat:Int):=by
 rw [wrap_u8,UInt8.toNat_ofNat']
theorem Lt {k:IntKind} {u m:Nat} (a:m<=k.bits):fU k (u:Int) (m:Int)=((u/2 ^ m:Nat):Int):=by
 unfold fU;rw [Qx,X2 a];show Int.fdiv _ ((2:Int) ^ m)=_;rw [Int.fdiv_eq_ediv_of_nonneg _ (Int.pow_nonneg dC)];simp
variable{a c:Nat}{d:Option Addr}{h:Program}{A g q:TypeId}{o s:Value->World->Prop}{b:World}
theorem LZ {d tn k c:TypeId} (l:ix h d c 1 1) (n:h.underlying tn=some (.int .i64)) (p:0<a) (q:a<=aI) 
  (e:∀f g,aO fg c (·=b.heap.size) f (some ⟨b.heap.size,0,none⟩) 0 g []->a<=g->ai b f->o (.slice (some ⟨b.heap.size,0,none⟩) a g) f):
  aE h (Builtin.append_ #[d,tn] k #[.slice none 0 0,.int .i64 (a:Int)]) b o s:=by
 obtain⟨r,i,t,u,B,v,w⟩:=l.info;unfold aI at q;have x:=Lib.run_append_nil_zeros (P:=h) b d tn k c r i .i64 .i64 l.under n t u a p oM oM (by rw [v];omega);have y:=grownCap_ge b a 0 c;refine aE.mk x (e _ _ ?_ y ?_)
 ·have m:=heap_alloc_new b.drew (.cells (Builtin.zeroCells i.cells a++Builtin.zeroCells i.cells (grownCap b a 0 c-a)) c)
  refine⟨⟨[],λ_=>False,⟨⟨sM,.inr ⟨b.heap.size,grownCap b a 0 c,_,rfl,Qj _,m,Qj _,grownCap_le_maxLen b a 0 c (by unfold maxLen;omega),?_,sM⟩⟩⟩,rfl,λ_ e=>e.elim⟩,λz j=>by simpa [aF]using j.symm,λz j=>by rw [j];exact ay m⟩;rw [Array.size_append,size_zeroCells,size_zeroCells,w];show a*1+(grownCap b a 0 c-a)*1=grownCap b a 0 c*1;omega
 ·have A:ai b (b.drewN 1):=ak.drewN b 1
  exact A.then (ak.alloc _ _)
theorem RB (e:h.underlying g=some (.slice q)) (f:o (.int .i64 (c:Int)) b):aE h (Builtin.cap_ #[g] A #[.slice d a c]) b o s:=by
 refine aE.mk (v:=.int .i64 (c:Int)) ?_ f;simp [Builtin.cap_,run_underlying e,goInt]
end Go.au
namespace Go.Proofs.YthnilpgpacdmnaaGreatDoor
open Go.au
set_option linter.unusedVariables false
set_option maxRecDepth 20000
variable{c9 x:List UInt8}{C a c i l:Nat}{F:Nat×Nat}{d p:Option Addr}{b:World}
theorem ud {bs:List UInt8} {D:Nat->Prop} (g:Row fg 1 b D d a bs) (r:a<=4):
  Calls Tryz.prog 288 #[.slice d a c] b (Ok λk e=>k= .int .u32 (fK bs:Int)/\b=e):=by
 have s:=g.len;refine zv ⟨λm h i e=>∃j:Nat,i=j/\j<=a/\m=a-j/\h=(fK (bs.take j):Int)/\b=e,⟨_,0,rfl,Qj _,rfl,rfl,rfl⟩,?_⟩;rintro m h i _ t ⟨j,rfl,u,rfl,rfl,rfl⟩;refine al.dec (λl=>?_) (λl=>?_)
 ·obtain⟨n,f,o,rfl,p,_,q⟩:=g.kp (i:=j) oM
  have v:=m_ bs (j:=j) (m:=3) oM;refine⟨n,f,rfl,oM,oM,_,q,_,oM,j+1,aq oM,oM,rfl,?_,rfl⟩;rw [Jh (by
            have:(256:Nat) ^ 3=16777216:=dC
            omega) o.toNat_lt,CN p]
 ·rw [Qz oM]
  exact Ok.mk ⟨rfl,rfl⟩
theorem ED {m:Nat} (h:0<m) (e:m<=aI):
  Calls Tryz.prog 312 #[.slice none 0 0,.int .i64 (m:Int)] b (Ok λi a=>∃c f,i= .slice (some ⟨c,0,none⟩) 0 f/\aO fg 5 (·=c) a (some ⟨c,0,none⟩) 0 f []/\ai b a/\b.heap.size<=c):=by
 have d:=e;unfold aI at d;refine lf ⟨λa=>a=b,al.dec (λg=>oM) (λ_=>rfl),?_⟩;rintro _ o rfl;refine RB rZ.under ⟨_,rfl,?_⟩;have j:IntKind.wrap .i64 ((m:Int)-IntKind.wrap .i64 (((0:Nat):Int)-((0:Nat):Int)))=(m:Int):=by
  rw [wrap_i64 (x:=((0:Nat):Int)-((0:Nat):Int)) (by unfold aK;omega),wrap_i64 (by unfold aK;omega)];omega
 rw [j];refine al.dec (λg=>?_) (λg=>oM);refine RB rZ.under ⟨_,rfl,oM,oM,?_⟩;refine LZ rZ kR h e λp k l q n=>⟨_,_,_,rfl,oM,oM,Ok.mk ⟨_,k,rfl,l,n,Q4 _⟩⟩
theorem Ad {D:Nat->Prop} (E:b.heap[a]? =some (.cells #[.slice d c l,.slice p i C] 221 F))
  (R:Row fg 1 b D d c x) (S:Row fg 1 b D p i c9) (H:∀e,D e->e<b.heap.size) (h0:0<c) (f:c+i<=aI):
  Calls Tryz.prog 281 #[.slice (some ⟨a,0,none⟩) 2 2] b (Ok (oy fg 5 b (x++c9))):=by
 have l1:=R.len;have l2:=S.len;have I:=f;unfold aI at I;refine jK ⟨λh y j g=>b=g/\((h=2/\y=0/\j=0)\/(h=1/\y=(c:Int)/\j=1)\/(h=0/\y=((c+i:Nat):Int)/\j=2)),⟨2,rfl,.inl ⟨rfl,rfl,rfl⟩⟩,?_⟩;rintro h y j _ w1 ⟨rfl,J⟩;rcases J with⟨rfl,rfl,rfl⟩|⟨rfl,rfl,rfl⟩|⟨rfl,rfl,rfl⟩
 ·refine al.tt dC ⟨a,0,rfl,oM,oM,d,c,l,ae E rfl,?_⟩
  rw [wrap_i64 (x:=0+((c:Nat):Int)) (by unfold aK;omega)];exact al.dec (λT=>oM) (λ_=>⟨1,oM,rfl,.inr (.inl ⟨rfl,oM,rfl⟩)⟩)
 ·refine al.tt dC ⟨a,0,rfl,oM,oM,p,i,C,ae E rfl,?_⟩
  rw [wrap_i64 (x:=((c:Nat):Int)+((i:Nat):Int)) (by unfold aK;omega)];exact al.dec (λT=>oM) (λ_=>⟨0,oM,rfl,.inr (.inr ⟨rfl,oM,rfl⟩)⟩)
 refine al.ff dC (PC.ok (ED (m:=c+i) oM f) ?_);rintro _ w2 ⟨U,cq,rfl,Z,k2,hq⟩;have a6:∀e,D e->e≠U:=λe f K=>by have:=H e f;omega
 refine⟨_,_,_,rfl,λh r m s j g=>ai b g/\∃n,(∀e,n e->b.heap.size<=e)/\((h=2/\j=0/\aO fg 5 n g r m s [])\/(h=1/\j=1/\aO fg 5 n g r m s x)\/(h=0/\j=2/\aO fg 5 n g r m s (x++c9))),
  ⟨2,k2,(·=U),λe K=>oM,.inl ⟨rfl,rfl,Z⟩⟩,?_⟩
 rintro h r m s j _ V ⟨t,n,z,J⟩;have W:=t.get E id;have ap:∀{A B:List UInt8} {L v X} {M Y:Value->World->Prop},aO fg 5 n V r m s A->Row fg 1 b D L v B->A.length+B.length<=140737488355328->
   (∀o u g q,aO fg 5 q g o (m+v) u (A++B)->ai b g->(∀e,q e->b.heap.size<=e)->M (.slice o (m+v) u) g)->
   aE Tryz.prog (Builtin.append_ #[221,221] 221 #[.slice r m s,.slice L v X]) V M Y:=by
  intro A B L v X M Y k hr a5 N;refine yt k rZ (hr.ah t) (λe f=>⟨by have:=H e f;have:=t.size;omega,λK=>?_⟩) (by unfold aI;omega) (by unfold maxLen;omega) λo u O q w a3 _ a4=>?_
  ·have:=H e f;have:=z e (k.self e K);omega
  ·exact N o u O (λe=>aF o=some e) w.alone (t.new a3 λe f=>.inr (z e (k.self e f))) λe f=>(a4 e f).elim (z e) λT=>by have:=t.size;omega
 rcases J with⟨rfl,rfl,k⟩|⟨rfl,rfl,k⟩|⟨rfl,rfl,k⟩
 ·refine al.tt dC ⟨a,0,rfl,oM,oM,d,c,l,ae W rfl,?_⟩
  exact ap k R (by simp;omega) λo u O q w P Q=>⟨_,_,_,rfl,1,oM,P,q,Q,.inr (.inl ⟨rfl,rfl,w⟩)⟩
 ·refine al.tt dC ⟨a,0,rfl,oM,oM,p,i,C,ae W rfl,?_⟩
  exact ap k S oM λo u O q w P Q=>⟨_,_,_,rfl,0,oM,P,q,Q,.inr (.inr ⟨rfl,rfl,w⟩)⟩
 ·exact al.ff dC (Ok.mk ⟨_,_,_,n,rfl,k,t,z⟩)
end Go.Proofs.YthnilpgpacdmnaaGreatDoor
namespace Go.Proofs.YthnilpgpacdmnaaGreatDoor
open Go.au
set_option maxRecDepth 100000
set_option linter.unusedVariables false
def om:fq:=⟨[],[],[],[],[]⟩
variable{c5 w:ByteArray}{t:Ending->World->Prop}{E V b1 c2 c3 c4 e n:Int}{a c i l:Nat}{d p:Option Addr}{b:World}
theorem oq {g:Int} 
  (m:PA b (.cells #[.int .i64 e,.int .i64 n,.int .i64 E,.slice d a c,.int .i64 V,.int .i64 b1,.int .i64 c2,.int .i64 c3,.int .i64 c4,.int .i64 g] 60) λf=>
   (∃(h:Int),f.cell? ⟨i,l,none⟩=some (.int .i64 h)/\al ((h:Int) !=0) ((∃(j:Int),f.cell? ⟨b.heap.size,0+9,none⟩=some (.int .i64 j)/\
   (∃(k:Int),f.cell? ⟨i,l,none⟩=some (.int .i64 k)/\t (.returned (.bool ((j:Int)==k))) f))) (t (.returned (.bool false)) f))):
  Calls Tryz.prog 148 #[.agg #[.int .i64 e,.int .i64 n,.int .i64 E,.slice d a c,.int .i64 V,.int .i64 b1,.int .i64 c2,.int .i64 c3,.int .i64 c4,.int .i64 g],.pointer (some ⟨i,l,none⟩)] b t:=
 ks om mixed Tryz.func148 rfl (Nat.le_of_ble_eq_true kR) kR (Eq.mp kR m)
def ow:fq:=⟨[],[],[],[],[]⟩
theorem ox 
  (i:PA b (.cells #[.slice p a c] 39) λj=>PC Tryz.prog 77 #[.pointer d,.func (.func 127) #[] #[.pointer (some ⟨b.heap.size,0,none⟩)]] j (λk l=>
   ∃(h:Option Addr) (f:Nat) (g:Nat),k= .slice h f g/\((0:Int)<=(if(if e>0 then e else 0)<((f:Nat):Int)then(if e>0 then e else 0)else((f:Nat):Int))/\
   ((if(if e>0 then e else 0)<((f:Nat):Int)then(if e>0 then e else 0)else((f:Nat):Int)):Int)<=((g:Nat):Int)/\
   t (.returned (.slice h (Int.toNat (if(if e>0 then e else 0)<((f:Nat):Int)then(if e>0 then e else 0)else((f:Nat):Int))) g)) l)) (λm b=>
   t (.panicked m) b)):
  Calls Tryz.prog 67 #[.pointer d,.slice p a c,.int .i64 e] b t:=
 ks ow mixed Tryz.func67 rfl (Nat.le_of_ble_eq_true kR) kR (Eq.mp kR i)
def qY:fq:=⟨[],[],[],[],[]⟩
theorem qZ 
  (l:PA b (.cells #[.int .i64 e] 3) λa=>PA a (.cells #[.int .i64 0,.int .i64 0,.int .i64 0,.slice none 0 0,.int .i64 0,.int .i64 0,.int .i64 0,.int .i64 0,.int .i64 0,.int .i64 0] 60) λm=>
   PC Tryz.prog 77 #[.pointer d,.func (.func 148) #[] #[.pointer (some ⟨b.heap.size,0,none⟩)]] m (λn c=>∃(g:Option Addr) (f:Nat) (o:Nat),n= .slice g f o/\
   al ((((f:Nat):Int):Int)==0) (xu Tryz.prog 60 (.pointer (some ⟨a.heap.size,0,none⟩)) (.agg #[.int .i64 0,.int .i64 0,.int .i64 0,.slice none 0 0,.int .i64 0,.int .i64 0,.int .i64 0,.int .i64 0,.int .i64 0,.int .i64 0]) c λh=>
   (nR Tryz.prog 60 (.pointer (some ⟨a.heap.size,0,none⟩)) h λp=>t (.returned (.tuple #[p,.bool false])) h)) ((∃i j,g=some ⟨i,j,none⟩/\
   (0:Int)<=0/\0<((f:Nat):Int)/\(nR Tryz.prog 60 (.pointer (some ⟨i,j+Int.toNat 0*10,none⟩)) c λq=>xu Tryz.prog 60 (.pointer (some ⟨a.heap.size,0,none⟩)) q c λk=>
   (nR Tryz.prog 60 (.pointer (some ⟨a.heap.size,0,none⟩)) k λr=>t (.returned (.tuple #[r,.bool true])) k))))) (λs b=>t (.panicked s) b)):
  Calls Tryz.prog 83 #[.pointer d,.int .i64 e] b t:=
 ks qY mixed Tryz.func83 rfl (Nat.le_of_ble_eq_true kR) kR (Eq.mp kR l)
def lU:fq:=⟨[],[],[1],[],[(1,⟨[0,1,2,0,0,16,32,72,128,260,1023],[2047,2046,2045,2047,2047,2031,2015,1975,1919,1787,1535],[0,0,1,1,0,0,1,2,0,0,0]⟩)]⟩
theorem lV {j:Int} 
  (u:PA b (.cells #[.int .i64 e,.int .i64 n,.int .i64 E,.slice d a c,.int .i64 V,.int .i64 b1,.int .i64 c2,.int .i64 c3,.int .i64 c4,.int .i64 j] 60) λv=>
   (∀f,bd v f->∃k:Nat->Prop,(¬k b.heap.size/\(∃(m:Int),f.cell? ⟨b.heap.size,0+1,none⟩=some (.int .i64 m)/\(∃(o:Option Addr) (p:Nat) (q:Nat),f.cell? ⟨i,l,none⟩=some (.slice o p q)/\
   (∃(r:Int),f.cell? ⟨b.heap.size,0,none⟩=some (.int .i64 r)/\PC Tryz.prog 128 #[.slice o p q,.int .i64 r] f (λw s=>
   ∃(g:Int),w= .int .i64 g/\(ak k f s/\t (.returned (.bool (decide ((m:Int)>(if g>0 then g else 0))))) s)) (λx h=>
   ∀(_:bK) (_:cG),t (.panicked x) h))))))):
  Calls Tryz.prog 127 #[.agg #[.int .i64 e,.int .i64 n,.int .i64 E,.slice d a c,.int .i64 V,.int .i64 b1,.int .i64 c2,.int .i64 c3,.int .i64 c4,.int .i64 j],.pointer (some ⟨i,l,none⟩)] b t:=
 ks lU mixed Tryz.func127 rfl (Nat.le_of_ble_eq_true kR) kR (Eq.mp kR u)
def zz:fq:=⟨[],[],[],[],[]⟩
theorem zB {r:Int} {j:Int} 
  (N:PA b (.cells #[.int .i64 e,.int .i64 n,.int .i64 E,.slice d a c,.int .i64 V,.int .i64 b1,.int .i64 c2,.int .i64 c3,.int .i64 c4,.int .i64 r] 60) λf=>
   (∃(s:Int),f.cell? ⟨b.heap.size,0,none⟩=some (.int .i64 s)/\al (decide ((s:Int)<0)) (t (.returned (.int .i64 1)) f) ((∃(u:Int),f.cell? ⟨b.heap.size,0,none⟩=some (.int .i64 u)/\
   al (decide ((u:Int)>=j)) (t (.returned (.int .i64 1)) f) ((∃(k:Int),f.cell? ⟨b.heap.size,0+1,none⟩=some (.int .i64 k)/\(∃(l:Int),f.cell? ⟨b.heap.size,0+2,none⟩=some (.int .i64 l)/\
   al (decide (((if l<k then l else k):Int)<1)) (t (.returned (.int .i64 1)) f) ((∃(m:Int),f.cell? ⟨b.heap.size,0+5,none⟩=some (.int .i64 m)/\
   (∃(o:Int),f.cell? ⟨b.heap.size,0+9,none⟩=some (.int .i64 o)/\al (decide (((if o<m then o else m):Int)<0)) (t (.returned (.int .i64 1)) f) ((∃(O:Option Addr) (v:Nat) (P:Nat),f.cell? ⟨b.heap.size,0+3,none⟩=some (.slice O v P)/\
   al ((((v:Nat):Int):Int) !=j) (t (.returned (.int .i64 1)) f) ((∃(w:Option Addr) (x:Nat) (y:Nat),f.cell? ⟨b.heap.size,0+3,none⟩=some (.slice w x y)/\
   PC Tryz.prog 186 #[.slice w x y,.func (.func 185) #[] #[]] f (λQ h=>∃(z:Bool),Q= .bool z/\al z (t (.returned (.int .i64 1)) h) ((∃(A:Option Addr) (B:Nat) (R:Nat),h.cell? ⟨b.heap.size,0+3,none⟩=some (.slice A B R)/\
   (∃(i:Int),h.cell? ⟨b.heap.size,0,none⟩=some (.int .i64 i)/\(∃C F,A=some ⟨C,F,none⟩/\(0:Int)<=i/\i<((B:Nat):Int)/\
   (∃(H:Int),h.cell? ⟨C,F+Int.toNat i,none⟩=some (.int .i64 H)/\(∃(I:Int),h.cell? ⟨b.heap.size,0+1,none⟩=some (.int .i64 I)/\
   (∀g,bd h g->al ((H:Int) !=(IntKind.wrap .i64 (I-1))) (t (.returned (.int .i64 9)) g) ((∃(J:Int),g.cell? ⟨b.heap.size,0+7,none⟩=some (.int .i64 J)/\
   al (decide ((J:Int)<1)) (t (.returned (.int .i64 2)) g) ((∃(K:Int),g.cell? ⟨b.heap.size,0+7,none⟩=some (.int .i64 K)/\al (decide ((K:Int)>5)) (t (.returned (.int .i64 2)) g) ((∃(p:Int),g.cell? ⟨b.heap.size,0+4,none⟩=some (.int .i64 p)/\
   (∃(q:Int),g.cell? ⟨b.heap.size,0+6,none⟩=some (.int .i64 q)/\al (decide (((if q<p then q else p):Int)<0)) (t (.returned (.int .i64 8)) g) ((∃(L:Int),g.cell? ⟨b.heap.size,0+4,none⟩=some (.int .i64 L)/\
   al (decide ((L:Int)>=8)) (t (.returned (.int .i64 8)) g) ((∃(M:Int),g.cell? ⟨b.heap.size,0+6,none⟩=some (.int .i64 M)/\al (decide ((M:Int)>=8)) (t (.returned (.int .i64 8)) g) (t (.returned (.int .i64 0)) g)))))))))))))))))))) (λS b=>
   t (.panicked S) b))))))))))))))):
  Calls Tryz.prog 114 #[.agg #[.int .i64 e,.int .i64 n,.int .i64 E,.slice d a c,.int .i64 V,.int .i64 b1,.int .i64 c2,.int .i64 c3,.int .i64 c4,.int .i64 r],.int .i64 j] b t:=
 ks zz mixed Tryz.func114 rfl (Nat.le_of_ble_eq_true kR) kR (Eq.mp kR N)
def fV:fq:=⟨[],[],[],[],[]⟩
theorem fW (c:PC_ 317 #[.string w,.string c5] b (kB λd a=>al (!d) (rt t ((.tuple #[.string w,.bool false])) a) (((0:Int)<=((ByteArray.size c5:Nat):Int)/\(((ByteArray.size c5:Nat):Int):Int)<=((ByteArray.size w:Nat):Int)/\rt t ((.tuple #[.string (ByteArray.extract w (Int.toNat ((ByteArray.size c5:Nat):Int)) (ByteArray.size w)),.bool true])) a))) (pE t)):Calls Tryz.prog 287 #[.string w,.string c5] b t:=DC fV Tryz.func287 rfl c
def fX:fq:=⟨[],[],[],[],[]⟩
theorem fY (a:al (decide ((((ByteArray.size w:Nat):Int):Int)>=((ByteArray.size c5:Nat):Int))) (((0:Int)<=((ByteArray.size c5:Nat):Int)/\(((ByteArray.size c5:Nat):Int):Int)<=((ByteArray.size w:Nat):Int)/\rt t ((.bool ((ByteArray.toList (ByteArray.extract w 0 (Int.toNat ((ByteArray.size c5:Nat):Int))))==(ByteArray.toList c5)))) b)) (rt t ((.bool false)) b)):Calls Tryz.prog 317 #[.string w,.string c5] b t:=DC fX Tryz.func317 rfl a
def oX:fq:=⟨[],[],[],[],[]⟩
theorem oY (d:PC_ 287 #[.string w,.string c5] b (λe f=>∃a c,e= .tuple #[.string a,.bool c]/\rt t ((.tuple #[.string a,.bool c])) f) (pE t)):Calls Tryz.prog 228 #[.string w,.string c5] b t:=DC oX Tryz.func228 rfl d
def zI:fq:=⟨[],[],[],[],[(11,⟨[0,1,0,4,10,18,48,64,192,320,576,1088],[4095,4094,4095,4091,4087,4077,4063,4031,3903,3775,3519,3007],[0,2,0,0,2,0,0,0,0,1,0,0]⟩)]⟩
theorem zJ (p:al (decide ((a:Int)<4)) (rt t ((.tuple #[.ii 0,.ii 4])) b) (((0:Int)<=1/\(1:Int)<=4/\(4:Int)<=(c:Int)/\PC_ 288 #[.slice (b_ d (Int.toNat 1) c 1) (Int.toNat 4-Int.toNat 1) (c-Int.toNat 1)] b (λq f=>∃e,q= .int .u32 e/\(ix_ d 0 a λr s=>(∃h,f.cell? (ad r (s+Int.toNat 0))=some (.int .u8 h)/\al (h==0) (rt t ((.tuple #[.ii 0,.ii 2])) f) (al (decide (((IntKind.wrap .i64 e):Int)>65536)) (rt t ((.tuple #[.ii 0,.ii 5])) f) (al (decide ((a:Int)<(IntKind.wrap .i64 ((IntKind.wrap .i64 (4+(IntKind.wrap .i64 e)))+5)))) (rt t ((.tuple #[.ii 0,.ii 4])) f) (((0:Int)<=(IntKind.wrap .i64 (4+(IntKind.wrap .i64 e)))/\((IntKind.wrap .i64 (4+(IntKind.wrap .i64 e))):Int)<=(c:Int)/\((0:Int)<=(IntKind.wrap .i64 (4+(IntKind.wrap .i64 e)))/\((IntKind.wrap .i64 (4+(IntKind.wrap .i64 e))):Int)<=(IntKind.wrap .i64 ((IntKind.wrap .i64 (4+(IntKind.wrap .i64 e)))+5))/\((IntKind.wrap .i64 ((IntKind.wrap .i64 (4+(IntKind.wrap .i64 e)))+5)):Int)<=(c:Int)/\(∀i,bd f i->(∀j,bd i j->((0:Int)<=4/\(4:Int)<=(((c-Int.toNat (IntKind.wrap .i64 (4+(IntKind.wrap .i64 e)))):Nat):Int)/\PC_ 282 #[.slice d (Int.toNat (IntKind.wrap .i64 (4+(IntKind.wrap .i64 e)))) c] j (λu v=>∃k,u= .int .u32 k/\PC_ 288 #[.slice (b_ d (Int.toNat (IntKind.wrap .i64 (4+(IntKind.wrap .i64 e)))) c 1) (Int.toNat 4) (c-Int.toNat (IntKind.wrap .i64 (4+(IntKind.wrap .i64 e))))] v (λw g=>∃l,w= .int .u32 l/\al (k !=l) (rt t ((.tuple #[.ii 0,.ii 6])) g) ((∃m n,(b_ d (Int.toNat (IntKind.wrap .i64 (4+(IntKind.wrap .i64 e)))) c 1)=some ⟨m,n,none⟩/\(0:Int)<=4/\4<((Int.toNat (IntKind.wrap .i64 ((IntKind.wrap .i64 (4+(IntKind.wrap .i64 e)))+5))-Int.toNat (IntKind.wrap .i64 (4+(IntKind.wrap .i64 e))):Nat):Int)/\(∃o,g.cell? (ad m (n+Int.toNat 4))=some (.int .u8 o)/\al (o !=10) (rt t ((.tuple #[.ii 0,.ii 6])) g) (rt t ((.tuple #[.ii (IntKind.wrap .i64 e),.ii 0])) g))))) (pZ t)) (pZ t)))))))))))) (pE t)))):Calls Tryz.prog 229 #[.slice d a c] b t:=DC zI Tryz.func229 rfl p
def En:fq:=⟨[],[],[4],[],[(4,⟨[0,1,2,4,0,0,32,80,128,264,0,1024,2048,1023,16383,32767],[65535,65534,65533,65531,65535,65535,65503,65455,65407,65271,65535,64511,63487,65023,61439,65535],[0,0,1,0,0,0,0,0,2,0,0,0,0,2,0,0]⟩)]⟩
theorem Eo (x:PA b (.cells #[.ii 0,.slice none 0 0] 280) λy=>PC_ 229 #[.slice d a c] y (λz l=>∃e h,z= .tuple #[.ii e,.ii h]/\al (h !=0) (PS l (ab_ b 0) (.ii 0) λA=>PS A (ab_ b (0+1)) (.slice none 0 0) λi=>(∃m n o p,i.cell? (ab_ b 0)=some (.ii m)/\i.cell? (ab_ b (0+1))=some (.slice n o p)/\rt t ((.tuple #[.agg #[.ii m,.slice n o p],.ii 0,.ii h])) i)) ((∀f,bd l f->∃j:Nat->Prop,(ix_ d 0 a λq B=>(¬j q/\(∃r,f.cell? (ad q (B+Int.toNat 0))=some (.int .u8 r)/\((0:Int)<=4/\(4:Int)<=(IntKind.wrap .i64 (4+e))/\((IntKind.wrap .i64 (4+e)):Int)<=(c:Int)/\PC_ 193 #[.slice (b_ d (Int.toNat 4) c 1) (Int.toNat (IntKind.wrap .i64 (4+e))-Int.toNat 4) (c-Int.toNat 4)] f (kS_ λC E D k=>(ak j f k/\PS k (ab_ b 0) (.ii (IntKind.wrap .i64 r)) λF=>PS F (ab_ b (0+1)) (.slice C E D) λg=>(ak j k g/\(∃s u v w,g.cell? (ab_ b 0)=some (.ii s)/\g.cell? (ab_ b (0+1))=some (.slice u v w)/\rt t ((.tuple #[.agg #[.ii s,.slice u v w],.ii (IntKind.wrap .i64 ((IntKind.wrap .i64 (4+e))+5)),.ii 0])) g)))) (pZ t)))))))) (pE t)):Calls Tryz.prog 167 #[.slice d a c] b t:=DC En Tryz.func167 rfl x
end Go.Proofs.YthnilpgpacdmnaaGreatDoor

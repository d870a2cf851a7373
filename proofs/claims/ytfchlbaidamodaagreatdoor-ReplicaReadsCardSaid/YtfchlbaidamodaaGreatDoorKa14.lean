import Derived.Test.YtfchlbaidamodaaGreatDoorKa13
import Derived.Lib.AppendIntMem
import Derived.Laws.Concat
set_option linter.all false
set_option maxRecDepth 20000
namespace Go.Proofs.YtfchlbaidamodaaGreatDoor
open Go.ax
theorem kS:jh ZQ 9 Value.string:=YL Tryz.underlying9
theorem mF:nu ZQ 140 9 204 (.pointer none):=⟨kR,kR⟩
theorem uF:Tryz.prog.underlying 204=some (.pointer 206):=kR
def ak.room (D:ak):Int:=(D.most:Int)-D.used
def ak.op (D:ak) (a:ak->Int×ak):Int×ak:=if D.dies then(15,D.gone)else a D.di
def ak.Cr (b:ByteArray) (a:ak->bQ->Int×ak) (D:ak):Int×ak:=match ay D.files b with
 |none=>(14,D)
 |some c=>a D c
def ak.create (D:ak) (a:ByteArray):Int×ak:=D.op λD=>if dv a then(if(ay D.files a).isSome then(16,D)else if 64<=D.files.length then(12,D)else(0,D.eJ a ⟨[],0,false⟩))else(1,D)
def ak.append (D:ak) (a:ByteArray) (b:List UInt8):Int×ak:=D.op (ak.Cr a λD c=>if(b.length:Int)>D.room then(12,D)else(0,D.eJ a {c with bytes:=c.bytes++b}))
def ak.sync (D:ak) (a:ByteArray):Int×ak:=D.op (ak.Cr a λD b=>(0,D.eJ a (b.cut b.bytes.length)))
def ak.nT (D:ak) (k:ByteArray) (a:Int):Int×ak:=D.op (ak.Cr k λD b=>(0,D.eJ k (b.cut a)))
def ak.delete (D:ak) (a:ByteArray):Int×ak:=D.op (ak.Cr a λD b=>(0,D.wB a))
def ak.rename (D:ak) (a b:ByteArray):Int×ak:=D.op (ak.Cr a λD c=>if dv b then(0,(D.wB a).eJ b {c with jk:=true})else(1,D))
def ak.read (D:ak) (k:ByteArray):List UInt8×Int:=if D.dead then([],15)else match ay D.files k with
 |none=>([],14)
 |some a=>(a.bytes,0)
def ak.list (D:ak):List ByteArray:=tP (D.files.map (·.1))
theorem eP (D:ak):D.di.files=D.files:=by unfold ak.di;split<;>rfl
def wD (d:World) (e:Nat) (f:Nat->Prop) (a:Int×ak) (g:Value) (b:World):Prop:=∃c,g= QH a.1/\aW b e c a.2/\de f d c b
variable{U r:Array Value}{w:ByteArray}{e:Int}{d7:Int×ak}{g0 h3:List (ByteArray×Value)}{a2:List (ByteArray×nW)}{x:List UInt8}{a c i:Nat}{a4 f:Nat->Prop}{d:Option Addr}{j:Type}{v:Value}{b k:World}{y:World->Prop}{a1:bQ}
theorem wD.same {D:ak} (c:aW k a f D) (d:aj f b k):wD b a f (e,D) (QH e) k:=⟨f,rfl,c,d,λ_ c=>.inl c⟩
theorem N_ {D:ak} (d:aW b a f D) {g:FuncId} {body:ak->Int×ak} (e:enters ZQ g=true)
  (h:D.dies=false->∀c,aW c a f D.di->aj f b c->Calls ZQ g (r++ #[]++U) c (Ok (wD c a f (body D.di)))):
  Calls ZQ 241 #[.pointer (some ⟨a,0,none⟩),.func (.func g) r U] b (Ok (wD b a f (D.op body))):=by
 refine Calls.ok (Mb d (e:=(body D.di).1) (D':=(body D.di).2) e λi c j k o=>h i c j k) ?_;rintro p q ⟨l,m,s,n⟩;refine⟨l,?_,?_,n⟩
 ·rw [m];unfold ak.op;split<;>rfl
 ·unfold ak.op;split<;>simp_all
theorem wF {D:ak} (h:aW b a f D) {k:ByteArray} {g:FuncId} {body:ak->bQ->Int×ak} (E:enters ZQ g=true)
  (F:D.dies=false->∀i m n c,fE i a f D.di m n->ay n k=some c->aj f b i->Calls ZQ g (r++ #[ptr c.q]++U) i (Ok (wD i a f (body D.di c.f)))):
  Calls ZQ 171 #[.pointer (some ⟨a,0,none⟩),.string k,.func (.func g) r U] b (Ok (wD b a f (D.op (ak.Cr k body)))):=by
 refine AB (PA.mk λi H W A=>PA.mk λI s X J=>PA.mk λB o Y K=>?_);have t:ai b B:=(H.af s).af o;have L:=h.af t;have u:=h.aF;refine⟨_,ae (o.get (s.get A id) id) rfl,PC.ok (N_ L (body:=ak.Cr k body) kR λM d C p=>?_) ?_⟩
 ·obtain⟨m,n,j⟩:=C.open
  have N:d.heap[b.heap.size]? =_:=p.get (o.get (s.get A id) id) (λl=>by have:=u _ l;omega);have O:d.heap[i.heap.size]? =_:=p.get (o.get J id) (λl=>by have:=u _ l;omega);have P:d.heap[I.heap.size]? =_:=p.get K (λl=>by have:=u _ l;omega);refine wh ⟨_,ae N rfl,a,0,rfl,some m,ae j.head rfl,_,ae O rfl,?_⟩;rcases j.box k with⟨v,w⟩|⟨c,Q,Z,v,w⟩
  ·refine⟨none,λx=>?_,λq e=>?_⟩
   ·have:=eY mF kS (j.map.keep (aj.drewN (S:=λ_=>False) d x) id) k false
    simpa [w]using this
   ·refine Bo uF ⟨_,rfl,al.ff rfl (Ok.mk ?_)⟩
    have:ak.Cr k body D.di=(14,D.di):=by unfold ak.Cr;rw [v]
    rw [this];exact wD.same (C.af e.keep) e.keep
  ·refine⟨some ⟨c.q,0,none⟩,λx=>?_,λq e=>?_⟩
   ·have:=eY mF kS (j.map.keep (aj.drewN (S:=λ_=>False) d x) id) k false
    simpa [w,ptr]using this
   ·refine Bo uF ⟨_,rfl,al.tt rfl ⟨_,ae (e.keep (S:=λ_=>False)|>.get P id) rfl,g,r,U,rfl,E,?_⟩⟩
    have R:aj f b q:=((t.keep (S:=f)).then p).af e.keep;refine PC.ok (F M q m n c (j.af e.keep) Q R) ?_;rintro S w6 ⟨y,rfl,T,z⟩;have:ak.Cr k body D.di=body D.di c.f:=by unfold ak.Cr;rw [v]
    refine⟨_,rfl,Ok.mk ?_⟩;rw [this];exact⟨y,rfl,T,(de.mk e.keep λ_ h=>.inl h:de f d f q).trans z⟩
 ·rintro S d ⟨y,rfl,V,z⟩
  exact⟨_,rfl,Ok.mk ⟨y,rfl,V,(de.mk t.keep λ_ h=>.inl h:de f b f B).trans z⟩⟩
theorem ak.Ok.set {D:ak} (a:D.Ok) {d b:bQ} (c:ay D.files w=some d) (e:b.bytes.length+D.used<=d.bytes.length+D.most) (f:b.synced<=b.bytes.length):(D.eJ w b).Ok:=by
 have g:=cF c;refine⟨a.most,?_,?_,a.tidy.aJ _ _,?_,?_,a.Cs,a.Ct⟩
 ·have:=rq (l:=D.files) (k:=w) (f:=b)
  rw [c]at this;simp only [Option.map_some,Option.getD_some]at this;show eL (aJ D.files w b)<=D.most;unfold ak.used at e;omega
 ·show(aJ D.files w b).length<=64
  rw [yw (by rw [c];rfl)];exact a.many
 ·intro x j
  rcases gu a.tidy j with rfl|⟨j,_⟩
  ·show dv w=true
   exact a.names _ g
  ·exact a.names x j
 ·intro x j
  rcases gu a.tidy j with rfl|⟨j,_⟩
  ·exact f
  ·exact a.TD x j
theorem ak.Ok.del {D:ak} (a:D.Ok) (b:ByteArray):(D.wB b).Ok:=by
 have f:=Jz D.files b;have g:=ze (l:=D.files) (k:=b);have e:=a.fits;have h:=a.many;unfold ak.used at e;exact⟨a.most,by show eL (bV D.files b)<=D.most;omega,by show(bV D.files b).length<=64;omega,a.tidy.bV b,λc d=>a.names c (gN d),λc d=>a.TD c (gN d),a.Cs,a.Ct⟩
theorem ak.Ok.put {D:ak} (a:D.Ok) (d:dv w=true) (e:a1.bytes.length+D.used<=D.most) (g:D.files.length<64) (f:a1.synced<=a1.bytes.length):(D.eJ w a1).Ok:=by
 refine⟨a.most,?_,?_,a.tidy.aJ _ _,?_,?_,a.Cs,a.Ct⟩
 ·have:=rq (l:=D.files) (k:=w) (f:=a1)
  show eL (aJ D.files w a1)<=D.most;unfold ak.used at e;omega
 ·have:=yU D.files w a1
  show(aJ D.files w a1).length<=64;omega
 ·intro c b
  rcases gu a.tidy b with rfl|⟨b,_⟩
  ·exact d
  ·exact a.names c b
 ·intro c b
  rcases gu a.tidy b with rfl|⟨b,_⟩
  ·exact f
  ·exact a.TD c b
theorem yx {l:List (ByteArray×j)} {k:ByteArray} (a:(ay l k).isSome=true):(bV l k).length+1=l.length:=by
 induction l with
 |nil=>simp [ay]at a
 |cons b l c=>
  obtain⟨e,f⟩:=b;simp only [bV,ay]at a⊢;split
  ·rfl
  ·rename_i d
   rw [if_neg d]at a;simp [c a]
theorem yy (b:List (ByteArray×j)) (c:ByteArray) (e d:j):aJ (aJ b c e) c d=aJ b c d:=by
 induction b with
 |nil=>simp [aJ]
 |cons f b g=>
  obtain⟨h,i⟩:=f;simp only [aJ]
  by_cases a:(c==h)=true
  ·rw [if_pos a,if_pos a];simp [aJ]
  ·rw [if_neg a,if_neg a];simp [aJ,a,g]
theorem eX.Ub {G:Nat->Prop} (d:eX b a G a1) (e:∀c,eX c a G {a1 with jk:=true}->aj (·=a) b c->c.heap.size=b.heap.size->y c):PS b ⟨a,0+2,none⟩ (.bool true) y:=by
 obtain⟨k,l,f,m,n,o,p,h⟩:=d.body;refine PS.mk n sM λq i r s=>e q ⟨⟨k,l,f,m,s,o.keep i (λj g t=>h (t▸g)),p,h⟩,d.self,λj g=>by have:=d.aF j g;omega⟩ i r
theorem ak.Ok.cut {D:ak} (b:D.Ok) (c:ay D.files w=some a1) (a:Int):(D.eJ w (a1.cut a)).Ok:=by
 have d:=Ua a1 a;have e:=nV a a1.bytes.length;have f:=b.fits;exact b.set c oM (by rw [d];exact Q4 _)
theorem fE.get {D:ak} (e:fE b a f D c a2) {d:nW} (g:ay a2 w=some d):ay D.files w=some d.f:=by
 rw [e.files];have:=Cv (λd:nW=>d.f) a2 w;rw [g]at this;exact this
theorem mr (d:Value) (e:World) (h:ai k b) (c:wD b a f d7 d e):∃g:Int,d= QH g/\Ok (wD k a f d7) (.returned (QH g)) e:=by
 obtain⟨i,rfl,j,l⟩:=c;exact⟨_,rfl,Ok.mk ⟨i,rfl,j,(de.mk h.keep λ_ c=>.inl c:de f k f b).trans l⟩⟩
theorem FK {D:ak} (d:aW b a f D) {k:ByteArray}:
  Calls ZQ 158 #[.pointer (some ⟨a,0,none⟩),.string k] b (Ok (wD b a f (D.sync k))):=by
 refine vW (PC.ok (wF d (k:=k) (g:=225) (body:=λD g=>(0,D.eJ k (g.cut g.bytes.length))) kR λw x y z l c e A=>?_) λm n d=>mr m n (aj.refl b) d);have h:=c.each.each _ (cF e);have i:=c.get e;obtain⟨B,C,o,E,p,q,F,H⟩:=h.body;have r:=q.len dC;refine tr ⟨l.q,0,rfl,_,_,_,ae p rfl,PC.ok (Cw h (c.ok.len (cF i))) ?_⟩;rintro _ I ⟨J,rfl,j,s⟩;rw [r]at j;obtain⟨t,u,v⟩:=c.fr e j s (c.ok.cut i _);exact⟨rfl,Ok.mk ⟨t,rfl,u.at,v⟩⟩
theorem RT {D:ak} (d:aW b a f D) :
  Calls ZQ 188 #[.pointer (some ⟨a,0,none⟩),.string w,QH e] b (Ok (wD b a f (D.nT w e))):=by
 refine yf (PA.mk λv h x j=>PC.ok (wF (d.af h) (k:=w) (g:=258) (body:=λD k=>(0,D.eJ w (k.cut e))) kR λy z A B C c g l=>?_) λm n d=>mr m n h d);have o:=c.each.each _ (cF g);have i:=c.get g;refine uP ⟨_,ae (l.get j λp=>by have:=d.aF _ p;omega) rfl,PC.ok (Cw o (c.ok.len (cF i))) ?_⟩;rintro _ E ⟨F,rfl,q,r⟩;obtain⟨s,t,u⟩:=c.fr g q r (c.ok.cut i _);exact⟨rfl,Ok.mk ⟨s,rfl,t.at,u⟩⟩
theorem zf {D:ak} (c:aW b a f D) :
  Calls ZQ 119 #[.pointer (some ⟨a,0,none⟩),.string w] b (Ok (wD b a f (D.delete w))):=by
 refine th (PA.mk λy i z j=>PA.mk λA g B k=>⟨_,ae (g.get j id) rfl,_,ae k rfl,PC.ok (wF ((c.af i).af g) (k:=w) (g:=172) (body:=λD C=>(0,D.wB w)) kR λE o p F H q I l=>?_) λr s c=>mr r s (i.af g) c⟩);have t:=l.get (g.get j id) λd=>by have:=c.aF _ d;omega
 have u:=l.get k λd=>by have:=c.aF _ d;omega
 refine qg λv m=>?_;have e:=q.af m.keep;have h:ai o v:=m.keep;refine⟨_,ae (h.get t id) rfl,a,0,rfl,some p,ae e.head rfl,w,ae (h.get u id) rfl,Mc mF kS e.map λJ x n K=>Ok.mk ⟨f,rfl,(e.drop x n (e.ok.del w)).at,?_,λ_ c=>.inl c⟩⟩;exact h.keep.then (n.mono λL _ d=>by rw [d];exact e.Fr)
theorem JA {D:ak} (e:aW b a f D) {k h:ByteArray}:
  Calls ZQ 198 #[.pointer (some ⟨a,0,none⟩),.string k,.string h] b (Ok (wD b a f (D.rename k h))):=by
 refine tq (PA.mk λw1 K s1 L=>PA.mk λX p s2 M=>PA.mk λw3 i s3 Y=>⟨_,ae (i.get (p.get L id) id) rfl,_,ae (i.get M id) rfl,PC.ok (wF (((e.af K).af p).af i) (k:=k) (g:=261)
  (body:=λD Z=>if dv h then(0,(D.wB k).eJ h {Z with jk:=true})else(1,D)) kR λhd t u b1 x g N v=>?_) λa0 w' e=>mr a0 w' ((K.af p).af i) e⟩)
 have j:=v.get (i.get (p.get L id) id) λc=>by have:=e.aF _ c;omega
 have w:=v.get (i.get M id) λc=>by have:=e.aF _ c;omega
 have O:=v.get Y λc=>by have:=e.aF _ c;omega
 have y:=cF N;have z:=g.get N;refine qk ⟨_,ae O rfl,PC.ok wG ?_⟩;rintro _ w5 ⟨rfl,A⟩;refine⟨_,rfl,al.not (al.mk (λq=>λw6 a6=>?_) (λq=>Ok.mk ?_))⟩
 ·have l:ai t w6:=A.af a6.keep
  have r:=g.af l;refine⟨_,ae (l.get j id) rfl,a,0,rfl,some u,ae r.head rfl,_,ae (l.get w id) rfl,Mc mF kS r.map λw7 a7 B b8=>λC E=>?_⟩;have a8:=r.drop a7 B (r.ok.del k);have F:=a8.af E.keep;have P:∀d,d=u->f d:=λd c=>by rw [c];exact g.Fr
  have H:aj f t C:=(l.keep.then (B.mono λd _ c=>P d c)).af E.keep;have Q:∀{d:Nat} {R:Obj},t.heap[d]? =some R->b.heap.size<=d->C.heap[d]? =some R:=λc b9=>H.get c λhF=>by have:=e.aF _ hF;omega
  have m:=g.Jy _ y;have S:eX C (nW.q x) (nW.G x) (nW.f x):=(((g.each.each _ y).keep l λ_ _ e=>e).keep B λd c=>(m d c).2.2).keep E.keep λ_ _ e=>e;have a1:b.heap.size<=X.heap.size:=oM
  refine⟨_,ae (Q j (Q4 _)) rfl,a,0,rfl,some u,ae F.head rfl,h,ae (Q O a1) rfl,jz mF kS F.map λw9 a9 I c0=>⟨x.q,0,rfl,?_⟩⟩;have b0:=g.ok.fits;have T:=ze (l:=D.di.files) (k:=k);rw [z]at T;simp only [Option.map_some,Option.getD_some]at T;have b6:=yx (l:=D.di.files) (k:=k) (by rw [z];rfl);have b7:=g.ok.many;have a2:=g.ok.TD _ (cF z);have U:∀n:bQ,n.bytes=x.f.bytes->n.synced=x.f.synced->((D.di.wB k).eJ h n).Ok:=λn j w=>(g.ok.del k).put q (by
   show n.bytes.length+eL (bV D.di.files k)<=D.di.most;unfold ak.used at b0;rw [j];omega) (by show(bV D.di.files k).length<64;omega) (by rw [j,w];exact a2)
  have b2:=F.put (q:=x.q) (G':=x.G) a9 I S (λa3 hy c2 d c b3=>by
   obtain⟨b4,b5⟩:=HC g.each.tidy hy;exact g.each.apart _ y a3 b4 (λJ=>b5 J.symm) d c b3) (λd c=>(m d c).2) (U x.f rfl rfl)
  have V:eX w9 x.q x.G x.f:=S.keep I λd c=>(m d c).2.2;refine V.Ub λc3 a4 a5 c1=>Ok.mk ?_;obtain⟨F',o,W⟩:=b2.fr (k:=h) (x:=⟨x.q,x.G,x.f⟩) (by rw [bu];simp) a4 ⟨a5.mono λd _ c=>c▸V.self,λ_ e=>.inl e⟩ (by
   unfold ak.eJ;simp only [yy];exact U {x.f with jk:=true} rfl rfl)
  rw [q,if_pos rfl];have J:((D.di.wB k).eJ h x.f).eJ h {x.f with jk:=true}=(D.di.wB k).eJ h {x.f with jk:=true}:=by
   unfold ak.eJ;simp only [yy]
  refine⟨F',rfl,by rw [<-J];exact o.at,⟨?_,λd c=>?_⟩⟩
  ·exact(H.then (I.mono λd _ c=>P d c)).then (W.keep.mono λd _ c=>c.elim id λe=>(m d e).1)
  ·rcases W.new d c with(s|s)|s
   ·exact .inl s
   ·exact .inl (m d s).1
   ·have:=H.size;exact .inr oM
 ·rw [q];exact⟨f,rfl,(g.af A).at,A.keep,λ_ e=>.inl e⟩
theorem zh {D:ak} (c:aW b a f D) :
  Calls ZQ 169 #[.pointer (some ⟨a,0,none⟩),.string w] b (Ok (wD b a f (D.create w))):=by
 refine tl (PA.mk λw1 I s1 J=>PA.mk λw2 o s2 O=>⟨_,ae (o.get J id) rfl,PC.ok (N_ ((c.af I).af o) (g:=242)
  (body:=λD=>if dv w then(if(ay D.files w).isSome then(16,D)else if 64<=D.files.length then(12,D)else(0,D.eJ w ⟨[],0,false⟩))else(1,D)) kR λhd s P t=>?_) λQ R c=>mr Q R (I.af o) c⟩)
 obtain⟨h,u,d⟩:=P.open;have v:=t.get (o.get J id) λe=>by have:=c.aF _ e;omega
 have x:=t.get O λe=>by have:=c.aF _ e;omega
 refine qj ⟨_,ae x rfl,PC.ok wG ?_⟩;rintro _ y ⟨rfl,i⟩;refine⟨_,rfl,al.not (al.mk (λj=>?_) (λj=>Ok.mk ?_))⟩
 ·have z:=d.af i
  have K:∀m,(Instr.lookup 140 (.map (some h)) (.string w) false).run ZQ (y.drewN m)= .ok ((ay (u.map eQ) w).getD (.pointer none)) (y.drewN m):=λm=>by
   have:=eY mF kS (z.map.keep (aj.drewN (S:=λ_=>False) y m) id) w false;simpa using this
  have S:∃k:Option Addr,(ay (u.map eQ) w).getD (.pointer none)= .pointer k/\k.isSome=(ay D.di.files w).isSome:=by
   rcases d.box w with⟨A,B⟩|⟨T,b0,bm,A,B⟩
   ·exact⟨none,by rw [B];rfl,by rw [A];rfl⟩
   ·exact⟨some ⟨T.q,0,none⟩,by rw [B];rfl,by rw [A];rfl⟩
  obtain⟨k,U,C⟩:=S;rw [U]at K;refine⟨_,ae (i.get v id) rfl,a,0,rfl,some h,ae z.head rfl,w,ae (i.get x id) rfl,k,K,k.isSome,λm=>qM uF _ _ k _,λV E=>al.mk (λW=>Ok.mk ?_) (λL=>?_)⟩
  ·rw [j,if_pos rfl,if_pos (by rw [<-C];exact W)]
   exact⟨f,rfl,(z.af E.keep).at,ai.keep (i.af E.keep),λ_ c=>.inl c⟩
  ·have p:ai s V:=i.af E.keep
   have F:=d.af p;have a8:(u.map eQ).length=D.di.files.length:=by rw [d.files];simp
   refine⟨_,ae (p.get v id) rfl,a,0,rfl,some h,ae F.head rfl,VQ mF F.map ⟨_,rfl,al.dec (λa9=>Ok.mk ?_) (λb3=>λn X=>?_)⟩⟩
   ·rw [j,if_pos rfl,if_neg (by rw [<-C,L];simp),if_pos oM]
    exact⟨f,rfl,F.at,p.keep,λ_ c=>.inl c⟩
   ·have l:ai s n:=p.af X.keep
    have q:=d.af l;have b4:=d.map.lt;have b5:=aC d.head;have a7:b.heap.size<=s.heap.size:=by have:=t.size;omega
    have M:∀g,b.heap.size<=g->g≠h:=λg e a2=>by have:=c.aF h d.Fr;omega
    refine⟨(·=h),M _ (Q4 _),_,ae (l.get v id) rfl,a,0,rfl,d.pr,some h,ae q.head rfl,M _ oM,w,ae (l.get x id) rfl,PA.mk λN r s7 Y=>⟨r.keep,jz mF kS (q.af r).map λw8 Z H b6=>⟨H,Ok.mk ?_⟩⟩⟩;have a3:=q.af r;have a0:eX N n.heap.size (·=n.heap.size) ⟨[],0,false⟩:=⟨⟨none,0,0,λ_=>False,Y,aV.nil N,λ_ c=>c.elim,λc=>c⟩,rfl,λg e=>oM⟩
    have a4:(D.di.eJ w ⟨[],0,false⟩).Ok:=d.ok.put j (by have:=d.ok.fits;simpa using this) oM (Q4 _);have a5:=a3.put (q:=n.heap.size) (G':=(·=n.heap.size)) Z H a0 (λa1 hy _ g e a6=>by have:=(q.each.each a1 hy).aF g a6;omega) (λg e=>by have:=l.size;omega) a4;rw [j,if_pos rfl,if_neg (by rw [<-C,L];simp),if_neg oM];refine⟨_,rfl,a5.at,⟨(l.keep.af r).then (H.mono λg _ e=>by rw [e];exact d.Fr),λg e=>e.imp id λc=>by have:=l.size;omega⟩⟩
 ·rw [j]
  exact⟨f,rfl,(d.af i).at,i.keep,λ_ c=>.inl c⟩
def gZ (a:List (ByteArray×nW)):Nat:=(a.map λb=>b.2.f.bytes.length).sum
theorem FL (a:List (ByteArray×nW)):gZ a=eL (a.map wC):=by unfold gZ eL;rw [List.map_map];rfl
theorem yz {left:List (ByteArray×nW)} (e:left.map eQ=g0++(w,v)::h3):
  ∃a b c,left=a++(w,b)::c/\g0=a.map eQ/\h3=c.map eQ/\v=ptr b.q:=by
 obtain⟨a,l,f,g,h⟩:=List.map_eq_append_iff.1 e;obtain⟨i,c,j,d,k⟩:=List.map_eq_cons_iff.1 h;obtain⟨m,b⟩:=i;simp only [eQ,Prod.mk.injEq]at d;obtain⟨rfl,rfl⟩:=d;exact⟨a,b,c,by rw [f,j],g.symm,k.symm,rfl⟩
theorem PB {D:ak} (i:aW b a f D):
  Calls ZQ 224 #[.pointer (some ⟨a,0,none⟩)] b (Ok λl j=>l= QH D.room/\ai b j):=by
 obtain⟨m,d,e⟩:=i.open;have Q:=e.ok.most;have n:=e.ok.fits;unfold ak.used at n;rw [e.files,<-FL]at n;refine v_ ⟨a,0,rfl,_,ae e.head rfl,a,0,rfl,some m,ae e.head rfl,mapRange mF e.map λR w x S=>?_⟩;refine⟨λo p j=>∃left:List (ByteArray×nW),dj j b.heap.size m Value.string (d.map eQ) (left.map eQ)/\o=left.length/\p=(D.most:Int)-gZ d+gZ left/\gZ left<=gZ d/\ai b j/\∀c∈left,c∈d,
  ⟨_,d,w,rfl,oM,Q4 _,x,λ_ i=>i⟩,?_⟩
 rintro o p T U ⟨left,y,rfl,rfl,V,q,r⟩;refine nX y (λz=>.inl ⟨rfl,Ok.mk ⟨?_,q⟩⟩) λk l W X s A B C E Y=>.inr ⟨_,_,rfl,ry C ?_⟩
 ·have:left=[]:=by simpa using z
  subst this;simp only [gZ,List.map_nil,List.sum_nil,ak.room,ak.used];rw [e.files,<-FL];simp [gZ]
 ·obtain⟨h,c,g,rfl,rfl,rfl,rfl⟩:=yz A
  have F:(k,c)∈d:=r _ sM;have t:ai b s:=q.new E λg Z=>.inr oM;have H:eX s c.q c.G c.f:=(e.each.each _ F).keep t λ_ _ i=>i;obtain⟨I,u,J,F0,K,L,h3,h4⟩:=H.body;have M:=L.len dC;have N:gZ (h++(k,c)::g)=gZ (h++g)+c.f.bytes.length:=by simp [gZ];omega
  have O:IntKind.wrap .i64 ((D.most:Int)-gZ d+gZ (h++(k,c)::g)-((u:Nat):Int))=(D.most:Int)-gZ d+gZ (h++g):=by
   rw [wrap_i64 (by unfold aN;omega),M,N];omega
  refine⟨_,_,rfl,c.q,0,rfl,I,u,J,ae K rfl,(h++g).length,sM,h++g,?_,rfl,O,oM,t,λP v=>r P ?_⟩
  ·rw [Q3];exact B
  ·simp only [Q6,Q2]at v⊢;exact v.imp id .inr
theorem zi {D:ak} (h:aW b a f D) (g:Row gq 1 b a4 d c x) (X:d=none->c=0/\i=0) (y:∀e,a4 e->e<b.heap.size/\¬f e):
  Calls ZQ 156 #[.pointer (some ⟨a,0,none⟩),.string w,.slice d c i] b (Ok (wD b a f (D.append w x))):=by
 have L:=g.len;have Y:=g.d_;unfold aQ at Y;refine tj (PA.mk λw1 z s1 M=>PA.mk λw2 m s2 Z=>⟨_,ae (m.get M id) rfl,PC.ok (wF ((h.af z).af m) (k:=w) (g:=223)
  (body:=λD N=>if(x.length:Int)>D.room then(12,D)else(0,D.eJ w {N with bytes:=N.bytes++x})) kR λhd s a0 b6 j k A t=>?_) λa1 w' h=>mr a1 w' (z.af m) h⟩)
 have e1:=t.get (m.get M id) λg=>by have:=h.aF _ g;omega
 have O:=t.get Z λg=>by have:=h.aF _ g;omega
 have a2:Row gq 1 s a4 d c x:=((g.af z).af m).keep t λe g=>(y e g).2;have B:=k.get A;refine qh λw4 u=>⟨λ_=>False,id,d,c,i,ae (u.keep (S:=λ_=>False)|>.get O id) rfl,_,ae (u.keep (S:=λ_=>False)|>.get e1 id) rfl,PC.ok (PB (k.af u.keep).at) ?_⟩
 rintro _ w5 ⟨rfl,P⟩;have C:ai s w5:=(bE.keep u).then P;refine⟨_,rfl,P,al.dec (λa5=>Ok.mk ?_) (λa6=>λn a7=>?_)⟩
 ·rw [if_pos (by rw [<-L];exact a5)]
  exact⟨f,rfl,(k.af C).at,C.keep,λ_ h=>.inl h⟩
 ·have o:ai s n:=C.af a7.keep
  have E:=k.af o;have Q:=cF A;have F:eX n j.q j.G j.f:=E.each.each _ Q;obtain⟨v,R,fc,F0,H,p,I,S⟩:=F.body;have b7:=p.len dC;have b8:j.f.bytes.length<=262144:=k.ok.len (cF B);have a8:∀e,j.G e->f e/\e≠a/\e≠a0:=E.Jy _ Q;refine⟨j.q,0,rfl,v,R,fc,ae H rfl,d,c,i,ae (o.get O id) rfl,?_⟩;have a3:∀e,a4 e->e<n.heap.size/\aI v≠some e:=λe g=>⟨by have:=(y e g).1;have:=t.size;have:=o.size;omega,λl=>(y e g).2 (a8 e (I e (p.self e l))).1⟩
  have b9:D.di.room<=262144:=by have:=k.ok.most;unfold ak.room;omega
  refine sE p ur (a2.af o) X a3 (by unfold aQ;omega) (by unfold maxLen;omega) λq c' w7 F' J K _ T=>?_;have hq:aI v≠some j.q:=λl=>S (p.self _ l);have c0:=aC H;have r:aI q≠some j.q:=λl=>by rcases T _ l with h|h;exact S h;omega
  refine⟨_,_,_,rfl,j.q,0,rfl,PS.mk (K.get H hq) sM λU V s8 g8=>Ok.mk ?_⟩;have W:¬((x.length:Int)>D.di.room):=by rw [<-L];exact a6
  rw [if_neg W];have a9:∀e,aI v=some e->j.G e:=λe l=>I e (p.self e l);have b0:eX U j.q (λe=>e=j.q\/aI q=some e) {j.f with bytes:=j.f.bytes++x}:=
   ⟨⟨q,R+c,c',λe=>aI q=some e,g8,J.alone.keep V (λe g b1=>r (by rw [<-b1];exact g)),λe g=>.inr g,r⟩,.inl rfl,by
    rintro e (rfl|g)
    ·have:=K.size;omega
    ·have:=J.aF e (J.self e g);omega⟩
  have b2:de j.G n (λe=>e=j.q\/aI q=some e) U:=⟨(K.mono λe _ g=>a9 e g).then (V.mono λe _ g=>g▸F.self),by
   rintro e (rfl|g)
   ·exact .inl F.self
   ·exact(T e g).imp (λh=>I e h) id⟩
  have b3:(D.di.eJ w {j.f with bytes:=j.f.bytes++x}).Ok:=k.ok.set B (by
   unfold ak.room at W;simp only [QX];omega) (by have:=k.ok.TD _ (cF B);simp only [QX];show j.f.synced<=_;have h':j.f.synced<=j.f.bytes.length:=this;omega)
  obtain⟨F2,b4,b5⟩:=E.fr A b0 b2 b3;exact⟨F2,rfl,b4.at,(de.mk o.keep λ_ h=>.inl h:de f s f n).trans b5⟩
theorem yA {D:ak} (i:aW b a f D) :
  Calls ZQ 181 #[.pointer (some ⟨a,0,none⟩),.string w] b (Ok λn o=>∃k,n= .tuple #[k,QH (D.read w).2]/\qD gq 5 b (D.read w).1 k o):=by
 obtain⟨l,E,d⟩:=i.open;have c:qD gq 5 b [] (.slice none 0 0) b:=⟨none,0,0,λ_=>False,rfl,aV.nil b,aj.refl _,λ_ i=>i.elim⟩
 rcases d.box w with⟨h,j⟩|⟨g,F,p,h,j⟩
 ·refine mj ⟨a,0,rfl,some l,ae d.head rfl,AY mF kS d.map ?_⟩
  rw [j];refine⟨_,rfl,a,0,rfl,_,ae d.head rfl,al.mk (λe=>Ok.mk ?_) (λe=>fQ uF ⟨_,rfl,al.tt rfl (Ok.mk ?_)⟩)⟩
  ·unfold ak.read;rw [e,if_pos rfl];exact⟨_,rfl,c⟩
  ·unfold ak.read;rw [e,if_neg sM,h];exact⟨_,rfl,c⟩
 ·refine mj ⟨a,0,rfl,some l,ae d.head rfl,AY mF kS d.map ?_⟩
  rw [j];refine⟨_,rfl,a,0,rfl,_,ae d.head rfl,al.mk (λe=>Ok.mk ?_) (λe=>fQ uF ⟨_,rfl,al.ff rfl ?_⟩)⟩
  ·unfold ak.read;rw [e,if_pos rfl];exact⟨_,rfl,c⟩
  ·have q:eX b g.q g.G g.f:=d.each.each _ p
   obtain⟨r,s,t,H,u,m,I,J⟩:=q.body;have K:g.f.bytes.length<=262144:=d.ok.len (cF h);refine⟨g.q,0,rfl,r,s,t,ae u rfl,PC.ok (lG (m.row dC (by unfold aQ;omega)) m.aF) ?_⟩;rintro _ L ⟨v,x,y,z,rfl,A,B,C⟩;unfold ak.read;rw [e,if_neg sM,h];exact⟨_,_,_,rfl,Ok.mk ⟨_,rfl,v,x,y,z,rfl,A,B,C⟩⟩
theorem yB {D:ak} (l:aW b a f D):
  Calls ZQ 176 #[.pointer (some ⟨a,0,none⟩)] b (Ok (qD Px 9 b D.list)):=by
 obtain⟨i,j,c⟩:=l.open;have A:=c.ok.many;have B:j.length=D.files.length:=by rw [c.files];simp
 refine vX ⟨a,0,rfl,some i,ae c.head rfl,PC.ok (φ:=λm g=>m= .func (.func 296) #[] #[.pointer (some ⟨b.heap.size,0,none⟩)]/\ai b g/\g.heap.size=b.heap.size+1/\
  g.heap[b.heap.size]? =some (.cells #[.map (some i)] 140 (0,0))) (ey (PA.mk λn d k h=>Ok.mk ⟨rfl,d,k,h⟩)) ?_⟩
 rintro _ n ⟨rfl,d,k,h⟩;refine⟨_,rfl,PC.ok (AK (c.map.af d) (λC o=>?_) (by rw [Q8];unfold aQ;omega) h) ?_⟩
 ·obtain⟨e,p,rfl⟩:=Xk.1 o
  have:=c.ok.names (wC e) (by rw [c.files];exact Xk.2 ⟨e,p,rfl⟩);unfold dv at this;simp only [QK,decide_eq_true_eq]at this;have E:e.1.size<=16:=this.1.2;show e.1.size<=maxLen;unfold maxLen;omega
 ·rintro _ F ⟨q,r,s,t,rfl,u,v,w⟩
  refine⟨_,_,_,rfl,Ok.mk ⟨q,r,s,t,rfl,?_,d.af v,λx y=>by have:=w x y;omega⟩⟩;have z:tP ((j.map eQ).map (·.1))=D.list:=by unfold ak.list;rw [c.files,List.map_map,List.map_map];rfl
  rw [<-z];exact u
theorem JB {a:List (ByteArray×j)} (b:Tidy a) (c:ByteArray):bV a c=a.filter λd=>d.1 !=c:=by
 induction a with
 |nil=>rfl
 |cons h a g=>
  obtain⟨d,m⟩:=h;unfold Tidy at b g;simp only [QY,List.nodup_cons]at b;unfold bV
  by_cases e:(c==d)=true
  ·rw [if_pos e]
   have i:c=d:=eq_of_beq e;subst i;rw [List.filter_cons_of_neg sM];exact(List.filter_eq_self.2 λk l=>by
    simp only [bne_iff_ne,ne_eq];intro f;exact b.1 (f▸Xk.2 ⟨k,l,rfl⟩)).symm
  ·rw [if_neg e,g b.2,List.filter_cons_of_pos]
   simp only [bne_iff_ne,ne_eq];intro f;exact e (by rw [f];simp)
def stays (left:List (ByteArray×nW)) (a:ByteArray×nW):Bool:=a.2.f.jk||left.any λb=>b.1==a.1
theorem AL (K:cx b a Value.string (a2.map eQ)) (n:FJ b a2) (L:∀c∈a2,∀e,c.2.G e->e≠a):
  Calls ZQ 121 #[.map (some a),.func (.func 122) #[] #[]] b
   (Ok λp j=>p= .tuple #[]/\cx j a Value.string ((a2.filter λc=>c.2.f.jk).map eQ)/\aj (·=a) b j):=by
 have M:enters ZQ 122=true:=kR
 refine dE (mapRange mF K λw1 N O s1=>?_);refine⟨λv j=>∃left:List (ByteArray×nW),dj j b.heap.size a Value.string ((a2.filter (stays left)).map eQ) (left.map eQ)/\v=left.length/\aj (·=a) b j/\(∀c∈left,c∈a2)/\Tidy left,
  ⟨_,a2,?_,rfl,O.keep,λ_ P=>P,n.tidy⟩,?_⟩
 ·have k:a2.filter (stays a2)=a2:=List.filter_eq_self.2 λc o=>by
   unfold stays;rw [Bool.or_eq_true];exact .inr (List.any_eq_true.2 ⟨c,o,sM⟩)
  rw [k];exact N
 ·rintro v a0 w2 ⟨left,q,rfl,w,x,l⟩
  refine nX q (λm=>.inl ⟨rfl,Ok.mk ⟨rfl,?_,w⟩⟩) λf p l1 l2 s Q y R S s3=>.inr ⟨_,_,rfl,ry R ?_⟩
  ·have:left=[]:=by simpa using m
   subst this;have k:(a2.filter (stays []))=a2.filter λc=>c.2.f.jk:=List.filter_congr λc _=>by simp [stays]
   rw [k]at q;exact q.map
  ·obtain⟨g,c,e,rfl,rfl,rfl,rfl⟩:=yz Q
   have o:(f,c)∈a2:=x _ sM;have a6:b.heap.size≠a:=q.ne;have t:aj (·=a) b s:=w.new S λe z=>.inr oM;have T:eX s c.q c.G c.f:=(n.each _ o).keep t λe z=>L _ o e z;obtain⟨fa,fn,fc,F0,r,A,h3,h4⟩:=T.body;have B:f∉(g++e).map (·.1):=by
    unfold Tidy at l;rw [Q3,QY]at l;rw [Q3];intro U;have V:=(List.perm_middle (a:=f) (l₁:=g.map (·.1)) (l₂:=e.map (·.1))).nodup_iff.1 l;exact(List.nodup_cons.1 V).1 U
   have C:∀d∈a2,d.1≠f->stays (g++(f,c)::e) d=stays (g++e) d:=λd h i=>by
    unfold stays
    congr 1
    have:(f==d.1)=false:=beq_false_of_ne (Ne.symm i);simp [List.any_append,this]
   have E:∀d∈a2,d.1=f->d=(f,c):=λd h m=>by
    have r:=rp n.tidy (k:=d.1) (v:=d.2) h;have A:=rp n.tidy (k:=f) (v:=c) o;rw [m,A]at r;exact Prod.ext m (XJ r).symm
   have W:(g++e).any (λd=>d.1==f)=false:=by
    rw [List.any_eq_false];intro d h m;exact B (Xk.2 ⟨d,h,eq_of_beq m⟩)
   have F:Tidy (g++e):=by
    unfold Tidy at l⊢;rw [Q3,QY]at l;rw [Q3];exact(List.nodup_cons.1 ((List.perm_middle (a:=f) (l₁:=g.map (·.1)) (l₂:=e.map (·.1))).nodup_iff.1 l)).2
   have H:∀d∈g++e,d∈a2:=λd h=>x d (by simp only [Q6,Q2]at h⊢;exact h.imp id .inr);have I:(g++e).length<(g++(f,c)::e).length:=sM
   refine⟨_,_,rfl,_,_,_,rfl,M,PC.ok (φ:=λp j=>p= .bool (!c.f.jk)/\j=s) (q_ ⟨c.q,0,rfl,_,ae r rfl,Ok.mk ⟨rfl,rfl⟩⟩) ?_⟩;rintro _ _ ⟨rfl,rfl⟩;refine⟨_,rfl,al.not (al.mk (λu=>⟨_,I,g++e,?_,rfl,t,H,F⟩) (λu=>?_))⟩
   ·have k:a2.filter (stays (g++(f,c)::e))=a2.filter (stays (g++e)):=List.filter_congr λd h=>by
     by_cases i:d.1=f
     ·rw [E d h i];simp [stays,u]
     ·exact C d h i
    rw [Q3,<-k];exact y
   ·refine RU mF kS y (by rw [<-Q3];simpa [eQ,Function.comp_def]using B) λw4 J X s4=>⟨_,I,g++e,?_,rfl,t.then X,H,F⟩
    have k:bV ((a2.filter (stays (g++(f,c)::e))).map eQ) f=(a2.filter (stays (g++e))).map eQ:=by
     have Y:bV ((a2.filter (stays (g++(f,c)::e))).map eQ) f=(bV (a2.filter (stays (g++(f,c)::e))) f).map eQ:=(Cu (λc:nW=>ptr c.q) _ f).symm;have Z:Tidy (a2.filter (stays (g++(f,c)::e))):=List.Nodup.sublist (List.Sublist.map _ List.filter_sublist) n.tidy;rw [Y,JB Z,List.filter_filter]
     congr 1
     refine List.filter_congr λd h=>?_
     by_cases i:d.1=f
     ·rw [E d h i]
      simp only [stays,u,W,Bool.or_false,bne_self_eq_false,Bool.false_and]
     ·rw [C d h i]
      have:(d.1 !=f)=true:=by simpa using i
      rw [this,Bool.true_and]
    rw [k,<-Q3]at J;exact J
end Go.Proofs.YtfchlbaidamodaaGreatDoor
namespace Go.ax
open Go
def cR (a:List UInt8):ByteArray:=⟨a.toArray⟩
theorem og (a:List UInt8):(cR a).data.toList=a:=by simp [cR]
theorem WM (a:ByteArray):cR a.data.toList=a:=by simp [cR]
variable{d0 x:List UInt8}{a:Nat}{Q W:Operand}{h:Program}{g:TypeId}{o t:Value->World->Prop}{b:World}
theorem Ox (a:cR x=cR d0):x=d0:=by rw [<-og x,a,og]
theorem jf (a:List UInt8):(cR a).size=a.length:=by simp [cR,ByteArray.size]
def gV (a:ByteArray):Int×Bool:=match jw a.data.toList with
 |some b=>(b,true)
 |none=>(0,false)
theorem Zc {a c:List UInt8} (e:a.length+c.length<=1000000000) (d:o (.string (cR (a++c))) b):
  aH h (do eqGuard .add g Q W (.string (cR a)) (.string (cR c));binOp .add g (.string (cR a)) (.string (cR c))) b o t:=by
 refine aH.mk (v:=.string (cR a++cR c)) (w':=b) ?_ ?_
 ·rw [Sem.run_bind,show(eqGuard .add g Q W (.string (cR a)) (.string (cR c))).run h b= .ok () b from rfl,Result.andThen_ok,binOp_string_add,run_string_add_sum b (cR a) (cR c) (by rw [jf,jf];omega)]
 have:cR a++cR c=cR (a++c):=by
  apply ByteArray.ext;simp [cR]
 rw [this];exact d
theorem ai.UQ {c:Array Obj}:ai b (Sort.grow (b.drewN a) c):=
 ⟨rfl,rfl,rfl,sM,λe d _=>by rw [Sort.heap_grow_old _ _ (by simpa using d)];rfl⟩
end Go.ax
namespace Go.Proofs.YtfchlbaidamodaaGreatDoor
open Go.ax
structure Laid (w:World):Prop where
 oH:qU w
 pow:Lib.TabIs ZQ w "internal/strconv.uint64pow10" .u64 Lib.pow10Tab
variable{w:ByteArray}{e:Int}{d0 x:List UInt8}{b k:World}
theorem Laid.af (a:Laid b) (c:ai b k):Laid k:=⟨a.oH.af c,Lib.tabBelow_of_tabIs a.pow k c.below⟩
theorem strconv_Itoa {a:Int} {b:World} (e:Laid b) (c:aN a):Calls ZQ 173 #[QH a] b (Ok λf d=>f= .string (cR (Lib.itoa a))/\ai b d):=by
 refine(Any.strconv_Itoa Tryz.Ta a c.1 c.2 b e.pow).mono ?_;rintro g d ⟨rfl,h,i,rfl⟩;exact Ok.mk ⟨rfl,ai.UQ⟩
theorem jV (c:Laid b) (d:aN e):Calls ZQ 120 #[QH e] b (Ok λf g=>f= .string (cR (aB e))/\ai b g):=by
 refine BU (al.dec (λa=>?_) (λi=>al.dec (λa=>?_) (λj=>PC.ok (strconv_Itoa c d) ?_)))
 ·exact Ok.mk ⟨by unfold aB;rw [if_pos (.inl a)];rfl,aj.refl _⟩
 ·exact Ok.mk ⟨by unfold aB;rw [if_pos (.inr a)];rfl,aj.refl _⟩
 rintro _ k ⟨rfl,h⟩;refine⟨_,rfl,Zc (a:=dV) ?_ ⟨_,rfl,Ok.mk ⟨?_,h⟩⟩⟩
 ·have:=pC (u:=e.toNat) oM
  unfold Lib.itoa;rw [if_neg oM];show 4+_<=_;omega
 ·rw [mI oM oM]
  unfold Lib.itoa;rw [if_neg oM]
theorem DM :Calls ZQ 328 #[.string (cR x),.string (cR d0)] b (Ok λd e=>d= .bool (decide (x.take d0.length=d0))/\b=e):=by
 refine iE ?_;rw [jf,jf];refine al.dec (λa=>⟨oM,oM,Ok.mk ⟨?_,rfl⟩⟩) (λa=>Ok.mk ⟨?_,rfl⟩)
 ·rw [Qx]
  have c:ByteArray.toList (ByteArray.extract (cR x) 0 d0.length)=x.take d0.length:=by
   rw [ByteArray.toList_eq,ByteArray.data_extract];simp [cR]
  have f:ByteArray.toList (cR d0)=d0:=by rw [ByteArray.toList_eq,og]
  rw [c,f]
  congr 1
  by_cases a:x.take d0.length=d0<;>simp [a]
 ·have:x.take d0.length≠d0:=λc=>by have:=congrArg List.length c;simp at this;omega
  rw [Xv this]
theorem Fc :Calls ZQ 248 #[.string (cR x),.string (cR d0)] b (Ok λc d=>c= .tuple (if x.take d0.length=d0 then #[.string (cR (x.drop d0.length)),.bool true]else #[.string (cR x),.bool false])/\b=d):=by
 refine rf (PC.ok (φ:=λc d=>c= .tuple (if x.take d0.length=d0 then #[.string (cR (x.drop d0.length)),.bool true]else #[.string (cR x),.bool false])/\b=d) (iC (PC.ok DM ?_)) ?_)
 ·rintro _ _ ⟨rfl,rfl⟩
  refine⟨_,rfl,?_⟩;rw [jf,jf]
  by_cases a:x.take d0.length=d0
  ·rw [if_pos a,decide_eq_true a]
   have g:d0.length<=x.length:=by have:=congrArg List.length a;simp at this;omega
   refine al.ff rfl ⟨oM,oM,Ok.mk ⟨?_,rfl⟩⟩;have e:ByteArray.extract (cR x) (Int.toNat ((d0.length:Nat):Int)) x.length=cR (x.drop d0.length):=by
    apply ByteArray.ext;rw [Qx,ByteArray.data_extract];have f:List.take (x.length-d0.length) (List.drop d0.length x)=List.drop d0.length x:=Qz sM;simp [cR,f]
   rw [e]
  ·rw [if_neg a,Xv a]
   exact al.tt rfl (Ok.mk ⟨rfl,rfl⟩)
 ·rintro _ _ ⟨rfl,rfl⟩
  split
  ·exact⟨_,_,rfl,Ok.mk ⟨rfl,rfl⟩⟩
  ·exact⟨_,_,rfl,Ok.mk ⟨rfl,rfl⟩⟩
theorem BI (z:Laid b):Calls ZQ 177 #[.string w] b (Ok λm f=>m= .tuple #[QH (gV w).1,.bool (gV w).2]/\ai b f):=by
 rw [<-WM w];generalize w.data.toList=g;have e:(⟨#[115,101,103,46]⟩:ByteArray)=cR dV:=rfl;unfold gV;rw [og];refine ye ?_;rw [e];refine PC.ok Fc ?_;rintro _ _ ⟨rfl,rfl⟩;have no:∀f,jw g=none->ai b f->Ok (λm f=>m= .tuple #[QH (match jw g with|some n=>((n:Int),true)|none=>(0,false)).1,.bool (match jw g with|some n=>((n:Int),true)|none=>(0,false)).2]/\ai b f) (.returned (.tuple #[QH 0,.bool false])) f:=λf q A=>by
  rw [q];exact Ok.mk ⟨rfl,A⟩
 by_cases h:g.take dV.length=dV
 ·rw [if_pos h]
  refine⟨_,_,rfl,al.ff rfl ?_⟩;have r:g=dV++g.drop 4:=by
   have:=List.take_append_drop 4 g;rw [show g.take 4=dV from h]at this;exact this.symm
  change al (decide (((ByteArray.size (cR (g.drop 4)):Nat):Int)>12)) _ _
  generalize S:g.drop 4=c at r;subst r;rw [jf];refine al.dec (λq=>no _ (NA (by rw [QX];show 16<4+_;omega)) (aj.refl _)) (λT=>?_);refine CI Tryz.underlying9 λU B C V=>⟨λs t f=>∃a,s=c.length-a/\a<=c.length/\t=(fq (c.take a):Int)/\f.heap[b.heap.size]? =some (.stringIter (cR c) a)/\ai b f/\(c.take a).all gQ=true,⟨_,0,rfl,Qj _,rfl,B,C,rfl⟩,?_⟩
  rintro s t W X ⟨a,rfl,Y,rfl,E,i,j⟩;have F:=yR _ j;refine HL E (λH=>.inl ⟨rfl,?_⟩) λe u v k Z=>.inr ⟨_,_,rfl,?_⟩
  ·rw [jf]at H
   rw [Qz oM]at j F⊢;have a0:10 ^ c.length<=10 ^ 12:=Nat.pow_le_pow_right oM oM;have I:(10:Nat) ^ 12=1000000000000:=dC
   refine PC.ok (jV (z.af i) (by unfold aN;omega)) ?_;rintro _ u ⟨rfl,k⟩;have x:=Iu j oM;refine⟨_,rfl,al.Zl (λJ=>no _ ?_ (i.then k)) (λK=>?_)⟩
   ·rw [x,if_neg λL=>J (by rw [L])]
   ·rw [x,if_pos (Ox K)]
    exact Ok.mk ⟨rfl,i.then k⟩
  ·have o:a<c.length:=by rwa [jf]at e
   have l:ai b u:=i.new k λa1 y=>.inr oM;have p:c[a]? =some ((cR c)[a]'e):=by
    rw [Qq o]
    congr 1
   have d:gQ ((cR c)[a]'e)=false->jw (dV++c)=none:=λM=>KO (List.all_eq_false.2 ⟨_,QZ p,by simp [M]⟩)
   by_cases y:((cR c)[a]'e).toNat<128
   ·rw [decode_ascii _ a e y]at v⊢
    simp only;refine al.dec (λN=>no _ (d ?_) l) (λO=>al.dec (λP=>no _ (d ?_) l) (λQ=>?_))
    ·unfold gQ;exact Xv oM
    ·unfold gQ;exact Xv oM
    ·have a2:10 ^(c.take a).length<=10 ^ 12:=Nat.pow_le_pow_right oM (by simp;omega)
     have I:(10:Nat) ^ 12=1000000000000:=dC
     refine⟨_,oM,a+1,rfl,oM,?_,v,l,?_⟩
     ·rw [Qw,p]
      show _=((fq (c.take a++[_]):Nat):Int);rw [fY];have R:IntKind.wrap .i32 ((((cR c)[a]'e).toNat:Int)-48)=(((cR c)[a]'e).toNat:Int)-48:=by
       unfold IntKind.wrap;simp [IntKind.signed,IntKind.bits];omega
      rw [R,wrap_i64 (x:=(((cR c)[a]'e).toNat:Int)-48) (by unfold aN;omega),wrap_i64 (x:=10*_) (by unfold aN;omega),wrap_i64 (by unfold aN;omega)];omega
     ·rw [Qw,p,List.all_append,j]
      simp [gQ];omega
   ·have hh:=(decode_high _ a e oM).1
    refine al.dec (λN=>oM) (λO=>al.dec (λP=>no _ (d ?_) l) (λQ=>oM));unfold gQ;exact Xv oM
 ·rw [if_neg h]
  exact⟨_,_,rfl,al.tt rfl (no _ (QI h) (aj.refl _))⟩
end Go.Proofs.YtfchlbaidamodaaGreatDoor
namespace Go.Proofs.YtfchlbaidamodaaGreatDoor
open Go.ax
theorem Vy:jP ZQ 55 3 1 8:=⟨kR,kR,dC⟩
def fH (b:List Int) (a:Int):Int:=if a<0 then 0 else max (b.getD a.toNat 0) 0
variable{e m:Int}{b3 u:List Int}{a c i l:Nat}{d p:Option Addr}{b:World}{n:ah}
theorem HM (b:0<=e) (a:u[e.toNat]? =some m):fH u e=max m 0:=by
 unfold fH;rw [if_neg oM];simp [List.getD,a]
theorem JF (a:(u.length:Int)<=e):fH u e=0:=by
 unfold fH;split
 ·rfl
 ·have:u[e.toNat]? =none:=by simp;omega
  simp [List.getD,this]
theorem oD {i:Int} (h:Ints b d a u):
  Calls ZQ 112 #[.slice d a c,QH i] b (Ok λj k=>j= QH (fH u i)/\b=k):=by
 refine Po ?_;refine al.mk (λf=>?_) (λf=>al.mk (λe=>?_) (λe=>?_))
 ·have:=XV f
  exact Ok.mk ⟨by simp [fH,this],rfl⟩
 ·have e:=XV e
  exact Ok.mk ⟨by rw [JF (by rw [<-h.len];exact e)],rfl⟩
 ·have f:=Xy f
  have e:=Xy e;obtain⟨l,g,m,rfl,p,n,q,o⟩:=h.at (i:=i) oM oM;refine⟨l,g,rfl,oM,oM,m,o,Ok.mk ⟨?_,rfl⟩⟩;rw [HM oM n]
  congr 1
  omega
def oC (b c:List Int) (d:Nat):List Int:=(List.range d).map λ(a:Nat)=>max (fH b a) (fH c a)
def jo (a b:List Int):List Int:=oC a b (max a.length b.length)
theorem KW (b c:List Int) (a:Nat):oC b c (a+1)=oC b c a++[max (fH b a) (fH c a)]:=by simp [oC,List.range_succ]
theorem tO (b c:List Int) (a:Nat):(oC b c a).length=a:=by simp [oC]
def Ix (b:World) (g:TypeId) (h:List Int) (i:Value) (c:World):Prop:=
 ∃a d e,i= .slice a d e/\Own c g 1 a d e (ints h)/\ai b c/\∀f,aI a=some f->b.heap.size<=f
theorem U_ :(if m>e then m else e)=max e m:=oM
theorem BG (k:Ints b d a u) (e:Ints b p c b3):
  Calls ZQ 108 #[.slice d a i,.slice p c l] b (Ok (Ix b 3 (jo u b3))):=by
 have w:=k.len;have x:=e.len;have y:=k.d_;have z:=e.d_;unfold aQ at y z;refine LM ⟨λq m f r s t=>s=(f:Int)/\f<=max a c/\q=max a c-f/\Own t 3 1 m f r (ints (oC u b3 f))/\ai b t/\∀p,aI m=some p->b.heap.size<=p,
  ⟨_,rfl,oM,rfl,Own.nil _ _ _,aj.refl _,by simp [aI]⟩,?_⟩
 rintro q m f r s _ E ⟨rfl,F,rfl,v,g,n⟩;refine al.mk (λh=>?_) (λh=>?_)
 ·have h:=XV h
  refine PC.ok (oD (k.af g)) ?_;rintro _ _ ⟨rfl,rfl⟩;refine⟨_,rfl,PC.ok (oD (e.af g)) ?_⟩;rintro _ _ ⟨rfl,rfl⟩;refine⟨_,rfl,PA.mk λH o I A=>?_⟩;refine NQ Vy (v.af o) A (by unfold aQ;omega) λJ K L B C j=>?_;refine⟨_,_,_,rfl,_,?_,?_,oM,rfl,?_,(g.af o).new C ?_,?_⟩
  ·omega
  ·rw [wrap_i64 (by unfold aN;omega)];simp
  ·rw [KW,<-U_];exact B
  ·intro p e;exact .inr (n p e.symm)
  ·intro p e
   rcases j with j|j
   ·exact n p (j▸e)
   ·rw [j]at e;cases e;have:=g.size;have:=o.size;omega
 ·have h:=Xy h
  have:f=max a c:=oM
  subst this;refine Ok.mk ⟨_,_,_,rfl,?_,g,n⟩;unfold jo;rw [<-w,<-x];exact v
def zW (a b:List Int):Nat->Int
 |0=>0
 |k+1=>if fH a k<fH b k then Rg .i64 (zW a b k) 1 else if fH a k>fH b k then Rg .i64 (zW a b k) 2 else zW a b k
def sk (a b:List Int):Int:=zW a b (max a.length b.length)
theorem OP (j:Ints b d a u) (k:Ints b p c b3):
  Calls ZQ 109 #[.slice d a i,.slice p c l] b (Ok λs m=>s= QH (sk u b3)/\b=m):=by
 have t:=j.len;have v:=k.len;have w:=j.d_;have x:=k.d_;unfold aQ at w x;refine Pn ⟨λo q r m=>∃e:Nat,r=e/\e<=max a c/\o=max a c-e/\q=zW u b3 e/\m=b,
  ⟨_,0,rfl,oM,rfl,rfl,rfl⟩,?_⟩
 rintro o q r _ y ⟨e,rfl,z,rfl,rfl,rfl⟩;refine al.mk (λh=>?_) (λh=>?_)
 ·have h:=XV h
  refine PC.ok (oD j) ?_;rintro _ _ ⟨rfl,rfl⟩;refine⟨_,rfl,PC.ok (oD k) ?_⟩;rintro _ _ ⟨rfl,rfl⟩;have n:IntKind.wrap .i64 ((e:Int)+1)=((e+1:Nat):Int):=by rw [wrap_i64 (by unfold aN;omega)];simp
  refine⟨_,rfl,al.mk (λf=>?_) (λf=>al.mk (λg=>?_) (λg=>?_))⟩
  ·have f:=XV f
   exact⟨_,oM,e+1,n,oM,rfl,by simp [zW,f],rfl⟩
  ·have f:=Xy f
   have g:=XV g;exact⟨_,oM,e+1,n,oM,rfl,by simp [zW,f,g],rfl⟩
  ·have f:=Xy f
   have g:=Xy g;exact⟨_,oM,e+1,n,oM,rfl,by simp [zW,f,g],rfl⟩
 ·have h:=Xy h
  have:e=max a c:=oM
  subst this;exact Ok.mk ⟨by unfold sk;rw [<-t,<-v],rfl⟩
structure kO where
 ck:Int
 qF:Int
 lU:Int
 least:Int
 deriving DecidableEq
structure bD where
 kind:Int
 eV:Int
 floor:Bool
 bH:List kO
 deriving DecidableEq
structure jO where
 bd:Int
 field:Int
 group:Int
 GO:Int
 make:Int
 deriving DecidableEq
structure aR where
 types:List (List bD)
 projs:List jO
 deriving DecidableEq
structure jS where
 bd:Int
 agg:Int
 field:Int
 op:Int
 arg:Int
 expect:Int
 key:Int
 deriving DecidableEq
structure du where
 n:Int
 set:List Int
 deriving DecidableEq
structure mV where
 version:Int
 cells:List du
 deriving DecidableEq
structure df where
 ev:ah
 void:Bool
 GO:Int×Int
structure ep where
 group:Int
 value:Int
 count:Int
 deriving DecidableEq
abbrev pH (a:Int):Int:=IntKind.wrap .i64 a
def within (a b c:Int):Bool:=decide (b<=a)&&decide (a<=c)
def aR.at (a:aR) (b:Int):List bD:=if within b 0 (a.types.length-1)then a.types.getD b.toNat []else []
def aR.Ed (a:aR) (b c:Int):Option bD:=
 if within b 0 (a.types.length-1)&&within c 0 ((a.at b).length-1)then(a.at b)[c.toNat]? else none
def rO (a:Int):Int:=if a=1 then 1 else if a=2 then 2 else if a=3 then 3 else if a=4 then 3 else if a=5 then 4 else 0
def jY (b:aR) (c d op arg:Int):Int:=match b.Ed c d with
 |none=>8
 |some a=>if !within op 1 5||rO op !=a.kind then 2 else if op==1&&arg==0||op==5&& !within arg 0 (a.bH.length-1)then 1 else 0
def sj (a:aR):Bool:=
 if !within a.types.length 1 8||decide (8<a.projs.length)then true else
 a.types.any λc=>!within c.length 1 8||c.any λb=>if b.kind==4 then !within b.bH.length 1 16 else decide (0<b.bH.length)
def Tz (b:List bD) (c a:Int):Bool:=within c 0 (b.length-1)&&((b[c.toNat]?).map (·.kind)==some a)
def Wn (a b:Int):Bool:=b==1||b==2&&within a 2 4||b==3&&a==2
def fK (a:List bD) (f:bD):Int:=
 if !within f.kind 1 4 then 2 else if !within f.eV 1 3|| !Wn f.kind f.eV||f.floor&&f.kind !=1 then 1 else
 if f.bH.any λm=>decide (m.ck<0)||decide (m.qF<0)||m.lU== -1&&m.least !=0 then 1 else
 if f.bH.any λm=>m.lU != -1&& !Tz a m.lU 1 then 8 else 0
def mK (b:aR) (a:jO):Int:=
 if(b.Ed a.bd a.field).isNone then 8 else
 if a.group==3&& !Tz (b.at a.bd) a.GO 2||a.group !=3&&a.GO !=0 then 8 else
 if !within a.group 1 3|| !within a.make 1 5 then 2 else 0
def cO {b:Type} (a:b->Int):List b->Int
 |[]=>0
 |x::c=>if a x !=0 then a x else cO a c
def dd (a:aR):Int:=
 if sj a then 3 else
 let b:=cO (λc=>cO (fK c) c) a.types
 if b !=0 then b else cO (mK a) a.projs
def aO (a:ah):Int×Int:=(a.origin,a.seq)
def fg (a b:ah):Bool:=decide (a.aA<b.aA)||a.aA==b.aA&&(decide (a.origin<b.origin)||a.origin==b.origin&&decide (a.seq<b.seq))
def tJ (a b:ah):Int:=if fg a b then-1 else if fg b a then 1 else 0
def dh (a:ah) (b:Nat):Int:=
 if a.origin<0\/(b:Int)<=a.origin\/min a.seq a.aA<1\/min a.agg a.key<0\/a.aK.length≠b\/a.aK.any (λc=>decide (c<0))then 1 else
 if a.aK.getD a.origin.toNat 0≠pH (a.seq-1)then 9 else
 if a.op<1\/5<a.op then 2 else if min a.bd a.field<0\/8<=a.bd\/8<=a.field then 8 else 0
def Ck (a b:ah):Bool:=decide (a.seq<=fH b.aK a.origin)
def wy (a b:ah):Bool:=aO a !=aO b&& !Ck a b&& !Ck b a
structure aq where
 n:Nat
 l:List ah
def dO (a:ah):List ah->List ah
 |[]=>[a]
 |x::b=>if fg a x then a::x::b else x::dO a b
def aq.sX (a:aq) (b:Nat):Nat:=a.l.countP λc=>c.origin==(b:Int)
def aq.vec (a:aq):List Int:=(List.range a.n).map λb=>(a.sX b:Int)
def aq.get (a:aq) (id:Int×Int):Option ah:=a.l.find? λb=>aO b==id
def aq.top (a:aq):Int:=a.l.foldl (λb c=>max b c.aA) 0
def aq.ly (f:aq) (a:ah) (c:Nat):Bool:=
 let d:=a.aK.getD c 0
 d==0||match f.get (c,d)with
  |none=>false
  |some b=>decide (b.aA<a.aA)&&(List.range b.aK.length).all λe=>decide (b.aK.getD e 0<=a.aK.getD e 0)
def aq.add (a:aq) (b:ah):Int×aq:=
 let no:=dh b a.n
 if no≠0 then(no,a)else
 if(a.get (aO b)).isSome then(16,a)else
 if b.seq≠(a.vec.getD b.origin.toNat 0)+1 then(9,a)else
 if(List.range a.n).any λc=>!a.ly b c then(9,a)else(0,{a with l:=dO b a.l})
def aq.eI (a:aq) (l:List ah):aq:=l.foldl (λa b=>(a.add b).2) a
def aq.missing (c:aq) (d:List Int) (a:Int):List ah:=(c.l.filter λb=>decide (max 0 (fH d b.origin)<b.seq)).take (max 0 a).toNat
def aq.keyed (a:aq) (key:Int):Option ah:=a.l.find? λb=>key !=0&&b.key==key
def dG (a:List bD):List du:=a.map λ_=>⟨0,[]⟩
def NT (a b:Int):Bool:=decide (a<pH (a+b))==decide (0<b)
def xL (g:List bD) (e:List du) (a d arg:Int):Int:=
 let f:=g.getD a.toNat ⟨0,0,false,[]⟩
 let b:=e.getD a.toNat ⟨0,[]⟩
 let h:Bool:=
  if d=1 then(arg==0||NT b.n arg)&& !(f.floor&&decide (pH (b.n+arg)<0))
  else if d=3 then decide (arg∈b.set)||decide (b.set.length<64)
  else if d=5 then(let c:=f.bH.getD arg.toNat ⟨0,0,0,0⟩;b.n==c.ck&&(decide (c.lU<0)||decide (c.least<=(e.getD c.lU.toNat ⟨0,[]⟩).n)))
  else true
 if h then 0 else 10
def qN (a:Int):List Int->List Int
 |[]=>[a]
 |y::b=>if a<y then a::y::b else if a=y then y::b else y::qN a b
def TO (e:List bD) (c:List du) (a d arg:Int):List du:=
 let f:=e.getD a.toNat ⟨0,0,false,[]⟩
 let b:=c.getD a.toNat ⟨0,[]⟩
 if d=1 then c.set a.toNat {b with n:=pH (b.n+arg)}
 else if d=2 then c.set a.toNat {b with n:=arg}
 else if d=3 then c.set a.toNat {b with set:=qN arg b.set}
 else if d=4 then c.set a.toNat {b with set:=b.set.filter λg=>g !=arg}
 else if d=5 then c.set a.toNat {b with n:=(f.bH.getD arg.toNat ⟨0,0,0,0⟩).qF}
 else c
def fl (c:bD) (a b:Int×Int):Bool:=
 if c.kind=2 then a.1==2&&b.1==2&&a !=b
 else if c.kind=4 then a.1==5&&b.1==5&&a !=b
 else if c.kind=3 then a==(3,b.2)&&b==(4,a.2)||a==(4,b.2)&&b==(3,a.2)
 else false
def mU (f:bD) (a b:ah):Bool:=(f.eV==2||f.eV==3&&decide (b.arg<a.arg))&&fl f (a.op,a.arg) (b.op,b.arg)&&wy a b
structure bk where
 decl:aR
 entries:List df
 fj:List ((Int×Int)×mV)
 done:List ((Int×Int×Int)×List ah)
def bk.new (a:aR):bk:=⟨a,[],[],[]⟩
def bk.try (b:bk) (a:ah):Bool×(Int×Int)×bk:=
 if jY b.decl a.bd a.field a.op a.arg≠0 then(true,(0,0),b)else
 let e:=b.decl.at a.bd
 let d:=(a.bd,a.agg,a.field)
 match((ay b.done d).getD []).find? λg=>mU (e.getD a.field.toNat ⟨0,0,false,[]⟩) g a with
 |some g=>(true,aO g,b)
 |none=>
  let f:=ay b.fj (a.bd,a.agg)
  let c:=match f with
   |some f=>f.cells
   |none=>dG e
  if xL e c a.field a.op a.arg≠0 then(true,(0,0),b)else
  (false,(0,0),{b with
   fj:=aJ b.fj (a.bd,a.agg) ⟨pH ((f.getD ⟨0,[]⟩).version+1),TO e c a.field a.op a.arg⟩
   done:=aJ b.done d ((ay b.done d).getD []++[a])})
def bk.add (d:bk) (b:ah):df×bk:=
 let a:=d.try b
 let c:df:=⟨b,a.1,a.2.1⟩
 (c,{a.2.2 with entries:=a.2.2.entries++[c]})
def bk.state (a:bk) (b c:Int):Option mV:=ay a.fj (b,c)
def cG (a:aR) (b:List ah):bk:=b.foldl (λc d=>(c.add d).2) (bk.new a)
def ll (d:List df) (e b f:Int) (a:Nat):List df×Bool:=
 let own:=(d.filter λc=>c.ev.bd==e&&c.ev.agg==b).drop (max f 0).toNat
 (own.take a,decide (a<own.length))
def ot (d:List ep) (a:Int) (b:Nat):List ep×Bool:=
 let c:=d.dropWhile λe=>decide (e.group<=a)
 (c.take b,decide (b<c.length))
def fB (b:aR) (a:jS):Int:=if a.agg<0\/a.key<0\/a.expect< -1 then 1 else jY b a.bd a.field a.op a.arg
def a_ (b:jS) (a:Int) (c:List Int) (d:Int):Int×ah:=
 let no:ah:=⟨0,0,0,[],0,0,0,0,0,0⟩
 if a<0\/(c.length:Int)<=a\/d<0 then(1,no)else
 if fH c a=9223372036854775807\/d=9223372036854775807 then(13,no)else
 (0,⟨a,fH c a+1,d+1,jo c [],b.bd,b.agg,b.field,b.op,b.arg,b.key⟩)
def kV (f:aR) (d:aq) (j:bk) (b start:Int) (a:jS):ah×Bool×Int:=
 let no:ah:=⟨0,0,0,[],0,0,0,0,0,0⟩
 let g:=fB f a
 if g≠0 then(no,false,g)else
 match d.keyed a.key with
 |some k=>(k,false,0)
 |none=>
  let h:=f.at a.bd
  let i:=j.state a.bd a.agg
  let c:=match i with
   |some l=>l.cells
   |none=>dG h
  if¬(a.expect= -1\/a.expect=(i.getD ⟨0,[]⟩).version)then(no,false,11)else
  if xL h c a.field a.op a.arg≠0 then(no,false,10)else
  let e:=a_ a b d.vec (max d.top start)
  (e.2,decide (e.1=0),e.1)
structure ef where
 p:jO
 rows:List (Int×ep)
def mG (a:jO) (b:ep) (arg:Int):Int:=
 if a.make=1 then b.count else if a.make=2 then pH (b.value+arg)else
 if a.make=5\/b.count=1/\(a.make=3\/a.make=4)then arg else
 if a.make=3 then min b.value arg else if a.make=4 then max b.value arg else 0
def ef.add (a:ef) (e:df) (d:Int):ef:=
 let c:=if a.p.group=1 then some e.ev.agg else if a.p.group=2 then some e.ev.arg else if a.p.group=3 then some d else none
 match c with
 |none=>a
 |some c=>
  if e.void||e.ev.bd !=a.p.bd||e.ev.field !=a.p.field then a else
  let b:=(ay a.rows c).getD ⟨0,0,0⟩
  let b:ep:=⟨c,b.value,pH (b.count+1)⟩
  {a with rows:=aJ a.rows c ⟨c,mG a.p b e.ev.arg,b.count⟩}
def ng (a:ep):List ep->List ep
 |[]=>[a]
 |y::b=>if a.group<y.group then a::y::b else y::ng a b
def ef.list (a:ef):List ep:=(a.rows.map (·.2)).foldr ng []
structure kL where
 view:bk
 rows:List ef
def kL.new (a:aR):kL:=⟨bk.new a,a.projs.map λb=>⟨b,[]⟩⟩
def tI (a:Option mV) (b:jO):Int:=match a with
 |none=>0
 |some a=>((a.cells[b.GO.toNat]?).map (·.n)).getD 0
def kL.add (c:kL) (a:ah):kL:=
 let b:=c.view.add a
 let e:=b.2.state a.bd a.agg
 ⟨b.2,c.rows.map λd=>d.add b.1 (tI e d.p)⟩
def eN (a:aR) (b:List ah):kL:=b.foldl kL.add (kL.new a)
def dQ (a:Nat) (b:List ah) (c:ah):Bool×List ah:=
 if a<=b.length\/b.any (λd=>aO d==aO c)then(false,b)else(true,dO c b)
def cP (a:aq):List ah->Option (ah×aq×List ah)
 |[]=>none
 |e::c=>if(a.add e).1=0 then some (e,(a.add e).2,c)else(cP a c).map λb=>(b.1,b.2.1,e::b.2.2)
def cW:Nat->aq->List ah->List ah->List ah×List ah
 |0,c,b,a=>(a,b)
 |k+1,c,b,a=>match cP c b with
  |none=>(a,b)
  |some (d,e,f)=>cW k e f (a++[d])
def bI (b:aq) (a:List ah):List ah×List ah:=
 let a:=a.filter λc=>(b.get (aO c)).isNone
 cW (a.length+1) b a []
structure dz where
 kind:Int
 ck:Int
 qF:Int
 vec:List Int
 events:List ah
def iu (a:dz) (b:Int):Int:=if 0<a.events.length then 8 else if(a.vec.length:Int)≠b then 1 else if a.vec.any (λc=>decide (c<0))then 1 else 0
def ez (b:dz) (c:Nat) (a:Int):Int:=if 0<b.vec.length then 8 else if b.events.length<1\/a<(b.events.length:Int)then 3 else cO (λd=>dh d c) b.events
def dJ (m:dz) (c:Nat) (b:Int):Int:=
 let a:=!(decide (0<=m.ck)&&decide (m.ck<c))|| !(decide (0<=m.qF)&&decide (m.qF<c))||m.ck==m.qF
 if m.kind=3 then(if a then 1 else ez m c b)
 else if m.kind=1\/m.kind=2\/m.kind=4 then(if a then 1 else iu m c)
 else 2
def lj (a:aq) (b c:Int):dz:=⟨1,b,c,a.vec,[]⟩
def yN (a:aq) (b c:Int):dz:=⟨4,b,c,a.vec,[]⟩
def mE (e:aq) (a:Int) (b:dz) (c:Int):List dz:=
 if b.kind≠1/\b.kind≠2 then []else
 let f:=e.missing b.vec (max 1 (min c 32))
 let h:List dz:=if 0<f.length then [⟨3,a,b.ck,[],f⟩]else []
 let g:=sk b.vec e.vec
 let i:List dz:=if b.kind=1/\(g=2\/g=3)then [⟨2,a,b.ck,e.vec,[]⟩]else []
 let d:=h++i
 if d.isEmpty then [yN e a b.ck]else d
theorem HF :(if m<e then m else e)=min e m:=oM
theorem Uc {D:Nat->Prop} (k:Row aP 8 b D d a u):
  Calls ZQ 200 #[.slice d a c,.func (.func 199) #[] #[]] b (Ok λi e=>i= .bool (u.any λf=>decide (f<0))/\b=e):=by
 have x:=k.len;have r:=k.d_;unfold aQ at r;refine jT (PC.ok (φ:=λi e=>(∃h:Int,i= QH h/\(0<=h↔(u.any λf=>decide (f<0))=true))/\b=e) (lD ⟨λn h e=>∃g:Nat,h=g/\g<=a/\n=a-g/\((u.take g).any λf=>decide (f<0))=false/\b=e,
  ⟨_,0,rfl,Qj _,rfl,sM,rfl⟩,?_⟩) ?_)
 ·rintro n h _ _ ⟨g,rfl,y,rfl,l,rfl⟩
  refine al.dec (λs=>?_) (λs=>?_)
  ·obtain⟨t,m,o,rfl,p,_,v⟩:=k.mh (i:=g) oM
   refine⟨t,m,rfl,oM,oM,_,v,199,_,_,rfl,kR,PC.ok (φ:=λi e=>i= .bool (decide (o<0))/\b=e) (Az (Ok.mk ⟨rfl,rfl⟩)) ?_⟩;rintro _ _ ⟨rfl,rfl⟩;refine⟨_,rfl,al.dec (λq=>?_) (λq=>?_)⟩
   ·exact Ok.mk ⟨⟨_,rfl,λ_=>List.any_eq_true.2 ⟨o,QZ p,by simpa using q⟩,λ_=>oM⟩,rfl⟩
   ·refine⟨_,oM,g+1,an oM,oM,rfl,?_,rfl⟩
    rw [Qw,p,List.any_append,l];simp;omega
  ·rw [Qz oM]at l
   exact Ok.mk ⟨⟨_,rfl,λj=>oM,λj=>by rw [l]at j;cases j⟩,rfl⟩
 ·rintro _ _ ⟨⟨h,rfl,w⟩,rfl⟩
  exact⟨_,rfl,Ok.mk ⟨by cases j:(u.any λf=>decide (f<0))<;>simp [j]at w⊢<;>omega,rfl⟩⟩
theorem zj {D:Nat->Prop} (m:Row aP 8 b D d a n.aK) (J:i<4611686018427387904):
  Calls ZQ 140 #[.agg (aE n d a c).toArray,QH (i:Int)] b (Ok λk l=>k= QH (dh n i)/\ai b l):=by
 have K:=m.len;have y:=m.d_;unfold aQ at y;refine Ca (PA.mk λz o L h=>⟨_,ae h rfl,?_⟩);have g:(n.origin<0\/(i:Int)<=n.origin\/min n.seq n.aA<1\/min n.agg n.key<0\/n.aK.length≠i\/n.aK.any (λq=>decide (q<0))=true)->Ok (λk l=>k= QH (dh n i)/\ai b l) (.returned (QH 1)) z:=λe=>by
  refine Ok.mk ⟨?_,o⟩;unfold dh;rw [if_pos e]
 refine al.dec (λe=>g (.inl e)) λM=>⟨_,ae h rfl,al.dec (λe=>g (.inr (.inl e))) λN=>⟨_,ae h rfl,_,ae h rfl,?_⟩⟩
 rw [HF];refine al.dec (λe=>g (.inr (.inr (.inl e)))) λO=>⟨_,ae h rfl,_,ae h rfl,?_⟩
 rw [HF];refine al.dec (λe=>g (.inr (.inr (.inr (.inl e))))) λP=>⟨_,_,_,ae h rfl,al.dw (λe=>g (.inr (.inr (.inr (.inr (.inl oM)))))) λQ=>⟨_,_,_,ae h rfl,PC.ok (Uc (m.af o)) ?_⟩⟩
 rintro _ _ ⟨rfl,rfl⟩;refine⟨_,rfl,al.mk (λe=>g (.inr (.inr (.inr (.inr (.inr e)))))) λA=>⟨_,_,_,ae h rfl,_,ae h rfl,?_⟩⟩;obtain⟨B,r,C,rfl,E,R,F⟩:=(m.af o).mh (i:=n.origin.toNat) oM;have u:¬(n.origin<0\/(i:Int)<=n.origin\/min n.seq n.aA<1\/min n.agg n.key<0\/n.aK.length≠i\/n.aK.any (λq=>decide (q<0))=true):=by
  rw [A];simp only [Bool.false_eq_true,or_false,not_or];omega
 refine⟨B,r,rfl,oM,oM,_,F,_,ae h rfl,λv w=>?_⟩;have H:ai b v:=o.then w.keep;have j:=(bE.keep (S:=λ_=>False) w).get h id;have x:n.aK.getD n.origin.toNat 0=C:=by rw [QQ,E];rfl
 have f:∀s:Int,dh n i=s->Ok (λk l=>k= QH (dh n i)/\ai b l) (.returned (QH s)) v:=λs e=>Ok.mk ⟨by rw [e],H⟩;refine al.dw (λe=>f 9 (by unfold dh;rw [if_neg u,x,if_pos e])) λI=>⟨_,ae j rfl,?_⟩
 have t:dh n i=if n.op<1\/5<n.op then 2 else if min n.bd n.field<0\/8<=n.bd\/8<=n.field then 8 else 0:=by
  unfold dh;rw [if_neg u,x,if_neg (by simpa using I)]
 refine al.dec (λe=>f 2 (by rw [t,if_pos (.inl e)])) λS=>⟨_,ae j rfl,al.dec (λe=>f 2 (by rw [t,if_pos (.inr e)])) λT=>⟨_,ae j rfl,_,ae j rfl,?_⟩⟩
 rw [HF];have p:dh n i=if min n.bd n.field<0\/8<=n.bd\/8<=n.field then 8 else 0:=by rw [t,if_neg oM]
 refine al.dec (λe=>f 8 (by rw [p,if_pos (.inl e)])) λU=>⟨_,ae j rfl,al.dec (λe=>f 8 (by rw [p,if_pos (.inr (.inl e))])) λV=>⟨_,ae j rfl,al.dec (λe=>f 8 (by rw [p,if_pos (.inr (.inr e))])) λW=>f 0 (by rw [p,if_neg oM])⟩⟩
end Go.Proofs.YtfchlbaidamodaaGreatDoor

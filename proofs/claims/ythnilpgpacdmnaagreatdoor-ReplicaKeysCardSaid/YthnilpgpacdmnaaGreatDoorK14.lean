import Derived.Test.YthnilpgpacdmnaaGreatDoorK13
import Derived.Lib.AppendIntMem
import Derived.Laws.Concat
namespace Go.Proofs.YthnilpgpacdmnaaGreatDoor
open Go.au
set_option linter.unusedVariables false
set_option maxRecDepth 20000
theorem kS:gQ Tryz.prog 9 Value.string:=UB Tryz.underlying9
theorem mF:lJ Tryz.prog 122 9 220 (.pointer none):=⟨kR,kR⟩
theorem uF:Tryz.prog.underlying 220=some (.pointer 223):=kR
def an.room (D:an):Int:=(D.most:Int)-D.used
def an.op (D:an) (a:an->Int×an):Int×an:=if D.dies then(15,D.gone)else a D.dH
def an.NM (b:ByteArray) (a:an->cI->Int×an) (D:an):Int×an:=match aD D.files b with
 |none=>(14,D)
 |some c=>a D c
def an.create (D:an) (a:ByteArray):Int×an:=D.op λD=>if gu a then(if(aD D.files a).isSome then(16,D)else if 64<=D.files.length then(12,D)else(0,D.gU a ⟨[],0,false⟩))else(1,D)
def an.append (D:an) (a:ByteArray) (b:List UInt8):Int×an:=D.op (an.NM a λD c=>if(b.length:Int)>D.room then(12,D)else(0,D.gU a {c with bytes:=c.bytes++b}))
def an.sync (D:an) (a:ByteArray):Int×an:=D.op (an.NM a λD b=>(0,D.gU a (b.cut b.bytes.length)))
def an.GJ (D:an) (k:ByteArray) (a:Int):Int×an:=D.op (an.NM k λD b=>(0,D.gU k (b.cut a)))
def an.delete (D:an) (a:ByteArray):Int×an:=D.op (an.NM a λD b=>(0,D.BU a))
def an.rename (D:an) (a b:ByteArray):Int×an:=D.op (an.NM a λD c=>if gu b then(0,(D.BU a).gU b {c with lj:=true})else(1,D))
def an.read (D:an) (k:ByteArray):List UInt8×Int:=if D.dead then([],15)else match aD D.files k with
 |none=>([],14)
 |some a=>(a.bytes,0)
def an.list (D:an):List ByteArray:=tV (D.files.map (·.1))
def tX (d:World) (e:Nat) (f:Nat->Prop) (a:Int×an) (g:Value) (b:World):Prop:=∃c,g= .int .i64 a.1/\aP b e c a.2/\cz f d c b
variable{U r:Array Value}{w:ByteArray}{e:Int}{d6:Int×an}{f9 h5:List (ByteArray×Value)}{a0:List (ByteArray×l_)}{x:List UInt8}{a c i:Nat}{a2 f:Nat->Prop}{d:Option Addr}{j:Type}{v:Value}{b k:World}{y:World->Prop}{a6:cI}
theorem tX.same {D:an} (c:aP k a f D) (d:ak f b k):tX b a f (e,D) (.int .i64 e) k:=⟨f,rfl,c,d,λ_ c=>.inl c⟩
theorem KA {D:an} (d:aP b a f D) {g:FuncId} {body:an->Int×an} (e:enters Tryz.prog g=true)
  (h:D.dies=false->∀c,aP c a f D.dH->ak f b c->Calls Tryz.prog g (r++ #[]++U) c (Ok (tX c a f (body D.dH)))):
  Calls Tryz.prog 237 #[.pointer (some ⟨a,0,none⟩),.func (.func g) r U] b (Ok (tX b a f (D.op body))):=by
 refine Calls.ok (IY d (e:=(body D.dH).1) (D':=(body D.dH).2) e λi c j k o=>h i c j k) ?_;rintro p q ⟨l,m,s,n⟩;refine⟨l,?_,?_,n⟩
 ·rw [m];unfold an.op;split<;>rfl
 ·unfold an.op;split<;>simp_all
theorem tY {D:an} (h:aP b a f D) {k:ByteArray} {g:FuncId} {body:an->cI->Int×an} (E:enters Tryz.prog g=true)
  (F:D.dies=false->∀i m n c,eE i a f D.dH m n->aD n k=some c->ak f b i->Calls Tryz.prog g (r++ #[ptr c.q]++U) i (Ok (tX i a f (body D.dH c.f)))):
  Calls Tryz.prog 196 #[.pointer (some ⟨a,0,none⟩),.string k,.func (.func g) r U] b (Ok (tX b a f (D.op (an.NM k body)))):=by
 refine xU (PA.mk λi H W A=>PA.mk λI s X J=>PA.mk λB o Y K=>?_);have t:ai b B:=(H.ah s).ah o;have L:=h.ah t;have u:=h.aC;refine⟨_,ae (o.get (s.get A id) id) rfl,PC.ok (KA L (body:=an.NM k body) kR λM d C p=>?_) ?_⟩
 ·obtain⟨m,n,j⟩:=C.open
  have N:d.heap[b.heap.size]? =_:=p.get (o.get (s.get A id) id) (λl=>by have:=u _ l;omega);have O:d.heap[i.heap.size]? =_:=p.get (o.get J id) (λl=>by have:=u _ l;omega);have P:d.heap[I.heap.size]? =_:=p.get K (λl=>by have:=u _ l;omega);refine tM ⟨_,ae N rfl,a,0,rfl,some m,ae j.head rfl,_,ae O rfl,?_⟩;rcases j.box k with⟨v,w⟩|⟨c,Q,Z,v,w⟩
  ·refine⟨none,λx=>?_,λq e=>?_⟩
   ·have:=dN mF kS (j.map.af (ak.drewN (S:=λ_=>False) d x) id) k false
    simpa [w]using this
   ·refine yK uF ⟨_,rfl,al.ff rfl (Ok.mk ?_)⟩
    have:an.NM k body D.dH=(14,D.dH):=by unfold an.NM;rw [v]
    rw [this];exact tX.same (C.ah e.af) e.af
  ·refine⟨some ⟨c.q,0,none⟩,λx=>?_,λq e=>?_⟩
   ·have:=dN mF kS (j.map.af (ak.drewN (S:=λ_=>False) d x) id) k false
    simpa [w,ptr]using this
   ·refine yK uF ⟨_,rfl,al.tt rfl ⟨_,ae (e.af (S:=λ_=>False)|>.get P id) rfl,g,r,U,rfl,E,?_⟩⟩
    have R:ak f b q:=((t.af (S:=f)).then p).ah e.af;refine PC.ok (F M q m n c (j.ah e.af) Q R) ?_;rintro S w6 ⟨y,rfl,T,z⟩;have:an.NM k body D.dH=body D.dH c.f:=by unfold an.NM;rw [v]
    refine⟨_,rfl,Ok.mk ?_⟩;rw [this];exact⟨y,rfl,T,(cz.mk e.af λ_ h=>.inl h:cz f d f q).trans z⟩
 ·rintro S d ⟨y,rfl,V,z⟩
  exact⟨_,rfl,Ok.mk ⟨y,rfl,V,(cz.mk t.af λ_ h=>.inl h:cz f b f B).trans z⟩⟩
theorem an.Ok.set {D:an} (a:D.Ok) {d b:cI} (c:aD D.files w=some d) (e:b.bytes.length+D.used<=d.bytes.length+D.most) (f:b.synced<=b.bytes.length):(D.gU w b).Ok:=by
 have g:=bQ c;refine⟨a.most,?_,?_,a.tidy.aH _ _,?_,?_,a.zU,a.zV⟩
 ·have:=wI (l:=D.files) (k:=w) (f:=b)
  rw [c]at this;simp only [Option.map_some,Option.getD_some]at this;show dW (aH D.files w b)<=D.most;unfold an.used at e;omega
 ·show(aH D.files w b).length<=64
  rw [vR (by rw [c];rfl)];exact a.many
 ·intro x j
  rcases fh a.tidy j with rfl|⟨j,_⟩
  ·show gu w=true
   exact a.names _ g
  ·exact a.names x j
 ·intro x j
  rcases fh a.tidy j with rfl|⟨j,_⟩
  ·exact f
  ·exact a.Pu x j
theorem an.Ok.del {D:an} (a:D.Ok) (b:ByteArray):(D.BU b).Ok:=by
 have f:=GK D.files b;have g:=wJ (l:=D.files) (k:=b);have e:=a.fits;have h:=a.many;unfold an.used at e;exact⟨a.most,by show dW (bV D.files b)<=D.most;omega,by show(bV D.files b).length<=64;omega,a.tidy.bV b,λc d=>a.names c (fA d),λc d=>a.Pu c (fA d),a.zU,a.zV⟩
theorem an.Ok.put {D:an} (a:D.Ok) (d:gu w=true) (e:a6.bytes.length+D.used<=D.most) (g:D.files.length<64) (f:a6.synced<=a6.bytes.length):(D.gU w a6).Ok:=by
 refine⟨a.most,?_,?_,a.tidy.aH _ _,?_,?_,a.zU,a.zV⟩
 ·have:=wI (l:=D.files) (k:=w) (f:=a6)
  show dW (aH D.files w a6)<=D.most;unfold an.used at e;omega
 ·have:=wx D.files w a6
  show(aH D.files w a6).length<=64;omega
 ·intro c b
  rcases fh a.tidy b with rfl|⟨b,_⟩
  ·exact d
  ·exact a.names c b
 ·intro c b
  rcases fh a.tidy b with rfl|⟨b,_⟩
  ·exact f
  ·exact a.Pu c b
theorem vT {l:List (ByteArray×j)} {k:ByteArray} (a:(aD l k).isSome=true):(bV l k).length+1=l.length:=by
 induction l with
 |nil=>simp [aD]at a
 |cons b l c=>
  obtain⟨e,f⟩:=b;simp only [bV,aD]at a⊢;split
  ·rfl
  ·rename_i d
   rw [if_neg d]at a;simp [c a]
theorem CH (b:List (ByteArray×j)) (c:ByteArray) (e d:j):aH (aH b c e) c d=aH b c d:=by
 induction b with
 |nil=>simp [aH]
 |cons f b g=>
  obtain⟨h,i⟩:=f;simp only [aH]
  by_cases a:(c==h)=true
  ·rw [if_pos a,if_pos a];simp [aH]
  ·rw [if_neg a,if_neg a];simp [aH,a,g]
theorem dL.PT {G:Nat->Prop} (d:dL b a G a6) (e:∀c,dL c a G {a6 with lj:=true}->ak (·=a) b c->c.heap.size=b.heap.size->y c):PS b ⟨a,0+2,none⟩ (.bool true) y:=by
 obtain⟨k,l,f,m,n,o,p,h⟩:=d.body;refine PS.mk n sM λq i r s=>e q ⟨⟨k,l,f,m,s,o.af i (λj g t=>h (t▸g)),p,h⟩,d.self,λj g=>by have:=d.aC j g;omega⟩ i r
theorem an.Ok.cut {D:an} (b:D.Ok) (c:aD D.files w=some a6) (a:Int):(D.gU w (a6.cut a)).Ok:=by
 have d:=PR a6 a;have e:=vS a a6.bytes.length;have f:=b.fits;exact b.set c oM (by rw [d];exact Q4 _)
theorem eE.get {D:an} (e:eE b a f D c a0) {d:l_} (g:aD a0 w=some d):aD D.files w=some d.f:=by
 rw [e.files];have:=zY (λd:l_=>d.f) a0 w;rw [g]at this;exact this
theorem kC (d:Value) (e:World) (h:ai k b) (c:tX b a f d6 d e):∃g:Int,d= .int .i64 g/\Ok (tX k a f d6) (.returned (.int .i64 g)) e:=by
 obtain⟨i,rfl,j,l⟩:=c;exact⟨_,rfl,Ok.mk ⟨i,rfl,j,(cz.mk h.af λ_ c=>.inl c:cz f k f b).trans l⟩⟩
theorem CI {D:an} (d:aP b a f D) {k:ByteArray}:
  Calls Tryz.prog 154 #[.pointer (some ⟨a,0,none⟩),.string k] b (Ok (tX b a f (D.sync k))):=by
 refine tG (PC.ok (tY d (k:=k) (g:=222) (body:=λD g=>(0,D.gU k (g.cut g.bytes.length))) kR λw x y z l c e A=>?_) λm n d=>kC m n (ak.refl b) d);have h:=c.each.each _ (bQ e);have i:=c.get e;obtain⟨B,C,o,E,p,q,F,H⟩:=h.body;have r:=q.len dC;refine qP ⟨l.q,0,rfl,_,_,_,ae p rfl,PC.ok (zZ h (c.ok.len (bQ i))) ?_⟩;rintro _ I ⟨J,rfl,j,s⟩;rw [r]at j;obtain⟨t,u,v⟩:=c.dZ e j s (c.ok.cut i _);exact⟨rfl,Ok.mk ⟨t,rfl,u.at,v⟩⟩
theorem NN {D:an} (d:aP b a f D) :
  Calls Tryz.prog 173 #[.pointer (some ⟨a,0,none⟩),.string w,.int .i64 e] b (Ok (tX b a f (D.GJ w e))):=by
 refine vA (PA.mk λv h x j=>PC.ok (tY (d.ah h) (k:=w) (g:=236) (body:=λD k=>(0,D.gU w (k.cut e))) kR λy z A B C c g l=>?_) λm n d=>kC m n h d);have o:=c.each.each _ (bQ g);have i:=c.get g;refine sx ⟨_,ae (l.get j λp=>by have:=d.aC _ p;omega) rfl,PC.ok (zZ o (c.ok.len (bQ i))) ?_⟩;rintro _ E ⟨F,rfl,q,r⟩;obtain⟨s,t,u⟩:=c.dZ g q r (c.ok.cut i _);exact⟨rfl,Ok.mk ⟨s,rfl,t.at,u⟩⟩
theorem wK {D:an} (c:aP b a f D) :
  Calls Tryz.prog 135 #[.pointer (some ⟨a,0,none⟩),.string w] b (Ok (tX b a f (D.delete w))):=by
 refine qK (PA.mk λy i z j=>PA.mk λA g B k=>⟨_,ae (g.get j id) rfl,_,ae k rfl,PC.ok (tY ((c.ah i).ah g) (k:=w) (g:=197) (body:=λD C=>(0,D.BU w)) kR λE o p F H q I l=>?_) λr s c=>kC r s (i.ah g) c⟩);have t:=l.get (g.get j id) λd=>by have:=c.aC _ d;omega
 have u:=l.get k λd=>by have:=c.aC _ d;omega
 refine ob λv m=>?_;have e:=q.ah m.af;have h:ai o v:=m.af;refine⟨_,ae (h.get t id) rfl,a,0,rfl,some p,ae e.head rfl,w,ae (h.get u id) rfl,IZ mF kS e.map λJ x n K=>Ok.mk ⟨f,rfl,(e.drop x n (e.ok.del w)).at,?_,λ_ c=>.inl c⟩⟩;exact h.af.then (n.mono λL _ d=>by rw [d];exact e.Fr)
theorem GM {D:an} (e:aP b a f D) {k h:ByteArray}:
  Calls Tryz.prog 184 #[.pointer (some ⟨a,0,none⟩),.string k,.string h] b (Ok (tX b a f (D.rename k h))):=by
 refine qO (PA.mk λw1 K s1 L=>PA.mk λX p s2 M=>PA.mk λw3 i s3 Y=>⟨_,ae (i.get (p.get L id) id) rfl,_,ae (i.get M id) rfl,PC.ok (tY (((e.ah K).ah p).ah i) (k:=k) (g:=242)
  (body:=λD Z=>if gu h then(0,(D.BU k).gU h {Z with lj:=true})else(1,D)) kR λhd t u b1 x g N v=>?_) λa0 w' e=>kC a0 w' ((K.ah p).ah i) e⟩)
 have j:=v.get (i.get (p.get L id) id) λc=>by have:=e.aC _ c;omega
 have w:=v.get (i.get M id) λc=>by have:=e.aC _ c;omega
 have O:=v.get Y λc=>by have:=e.aC _ c;omega
 have y:=bQ N;have z:=g.get N;refine oh ⟨_,ae O rfl,PC.ok tZ ?_⟩;rintro _ w5 ⟨rfl,A⟩;refine⟨_,rfl,al.not (al.mk (λq=>λw6 a6=>?_) (λq=>Ok.mk ?_))⟩
 ·have l:ai t w6:=A.ah a6.af
  have r:=g.ah l;refine⟨_,ae (l.get j id) rfl,a,0,rfl,some u,ae r.head rfl,_,ae (l.get w id) rfl,IZ mF kS r.map λw7 a7 B b8=>λC E=>?_⟩;have a8:=r.drop a7 B (r.ok.del k);have F:=a8.ah E.af;have P:∀d,d=u->f d:=λd c=>by rw [c];exact g.Fr
  have H:ak f t C:=(l.af.then (B.mono λd _ c=>P d c)).ah E.af;have Q:∀{d:Nat} {R:Obj},t.heap[d]? =some R->b.heap.size<=d->C.heap[d]? =some R:=λc b9=>H.get c λhF=>by have:=e.aC _ hF;omega
  have m:=g.GI _ y;have S:dL C (l_.q x) (l_.G x) (l_.f x):=(((g.each.each _ y).af l λ_ _ e=>e).af B λd c=>(m d c).2.2).af E.af λ_ _ e=>e;have a1:b.heap.size<=X.heap.size:=oM
  refine⟨_,ae (Q j (Q4 _)) rfl,a,0,rfl,some u,ae F.head rfl,h,ae (Q O a1) rfl,ij mF kS F.map λw9 a9 I c0=>⟨x.q,0,rfl,?_⟩⟩;have b0:=g.ok.fits;have T:=wJ (l:=D.dH.files) (k:=k);rw [z]at T;simp only [Option.map_some,Option.getD_some]at T;have b6:=vT (l:=D.dH.files) (k:=k) (by rw [z];rfl);have b7:=g.ok.many;have a2:=g.ok.Pu _ (bQ z);have U:∀n:cI,n.bytes=x.f.bytes->n.synced=x.f.synced->((D.dH.BU k).gU h n).Ok:=λn j w=>(g.ok.del k).put q (by
   show n.bytes.length+dW (bV D.dH.files k)<=D.dH.most;unfold an.used at b0;rw [j];omega) (by show(bV D.dH.files k).length<64;omega) (by rw [j,w];exact a2)
  have b2:=F.put (q:=x.q) (G':=x.G) a9 I S (λa3 hy c2 d c b3=>by
   obtain⟨b4,b5⟩:=Eu g.each.tidy hy;exact g.each.apart _ y a3 b4 (λJ=>b5 J.symm) d c b3) (λd c=>(m d c).2) (U x.f rfl rfl)
  have V:dL w9 x.q x.G x.f:=S.af I λd c=>(m d c).2.2;refine V.PT λc3 a4 a5 c1=>Ok.mk ?_;obtain⟨F',o,W⟩:=b2.dZ (k:=h) (x:=⟨x.q,x.G,x.f⟩) (by rw [qm];simp) a4 ⟨a5.mono λd _ c=>c▸V.self,λ_ e=>.inl e⟩ (by
   unfold an.gU;simp only [CH];exact U {x.f with lj:=true} rfl rfl)
  rw [q,if_pos rfl];have J:((D.dH.BU k).gU h x.f).gU h {x.f with lj:=true}=(D.dH.BU k).gU h {x.f with lj:=true}:=by
   unfold an.gU;simp only [CH]
  refine⟨F',rfl,by rw [<-J];exact o.at,⟨?_,λd c=>?_⟩⟩
  ·exact(H.then (I.mono λd _ c=>P d c)).then (W.af.mono λd _ c=>c.elim id λe=>(m d e).1)
  ·rcases W.new d c with(s|s)|s
   ·exact .inl s
   ·exact .inl (m d s).1
   ·have:=H.size;exact .inr oM
 ·rw [q];exact⟨f,rfl,(g.ah A).at,A.af,λ_ e=>.inl e⟩
theorem wL {D:an} (c:aP b a f D) :
  Calls Tryz.prog 174 #[.pointer (some ⟨a,0,none⟩),.string w] b (Ok (tX b a f (D.create w))):=by
 refine qN (PA.mk λw1 I s1 J=>PA.mk λw2 o s2 O=>⟨_,ae (o.get J id) rfl,PC.ok (KA ((c.ah I).ah o) (g:=238)
  (body:=λD=>if gu w then(if(aD D.files w).isSome then(16,D)else if 64<=D.files.length then(12,D)else(0,D.gU w ⟨[],0,false⟩))else(1,D)) kR λhd s P t=>?_) λQ R c=>kC Q R (I.ah o) c⟩)
 obtain⟨h,u,d⟩:=P.open;have v:=t.get (o.get J id) λe=>by have:=c.aC _ e;omega
 have x:=t.get O λe=>by have:=c.aC _ e;omega
 refine og ⟨_,ae x rfl,PC.ok tZ ?_⟩;rintro _ y ⟨rfl,i⟩;refine⟨_,rfl,al.not (al.mk (λj=>?_) (λj=>Ok.mk ?_))⟩
 ·have z:=d.ah i
  have K:∀m,(Instr.lookup 122 (.map (some h)) (.string w) false).run Tryz.prog (y.drewN m)= .ok ((aD (u.map dG) w).getD (.pointer none)) (y.drewN m):=λm=>by
   have:=dN mF kS (z.map.af (ak.drewN (S:=λ_=>False) y m) id) w false;simpa using this
  have S:∃k:Option Addr,(aD (u.map dG) w).getD (.pointer none)= .pointer k/\k.isSome=(aD D.dH.files w).isSome:=by
   rcases d.box w with⟨A,B⟩|⟨T,b0,bm,A,B⟩
   ·exact⟨none,by rw [B];rfl,by rw [A];rfl⟩
   ·exact⟨some ⟨T.q,0,none⟩,by rw [B];rfl,by rw [A];rfl⟩
  obtain⟨k,U,C⟩:=S;rw [U]at K;refine⟨_,ae (i.get v id) rfl,a,0,rfl,some h,ae z.head rfl,w,ae (i.get x id) rfl,k,K,k.isSome,λm=>oH uF _ _ k _,λV E=>al.mk (λW=>Ok.mk ?_) (λL=>?_)⟩
  ·rw [j,if_pos rfl,if_pos (by rw [<-C];exact W)]
   exact⟨f,rfl,(z.ah E.af).at,ai.af (i.ah E.af),λ_ c=>.inl c⟩
  ·have p:ai s V:=i.ah E.af
   have F:=d.ah p;have a8:(u.map dG).length=D.dH.files.length:=by rw [d.files];simp
   refine⟨_,ae (p.get v id) rfl,a,0,rfl,some h,ae F.head rfl,Sd mF F.map ⟨_,rfl,al.dec (λa9=>Ok.mk ?_) (λb3=>λn X=>?_)⟩⟩
   ·rw [j,if_pos rfl,if_neg (by rw [<-C,L];simp),if_pos oM]
    exact⟨f,rfl,F.at,p.af,λ_ c=>.inl c⟩
   ·have l:ai s n:=p.ah X.af
    have q:=d.ah l;have b4:=d.map.lt;have b5:=ay d.head;have a7:b.heap.size<=s.heap.size:=by have:=t.size;omega
    have M:∀g,b.heap.size<=g->g≠h:=λg e a2=>by have:=c.aC h d.Fr;omega
    refine⟨(·=h),M _ (Q4 _),_,ae (l.get v id) rfl,a,0,rfl,d.pr,some h,ae q.head rfl,M _ oM,w,ae (l.get x id) rfl,PA.mk λN r s7 Y=>⟨r.af,ij mF kS (q.ah r).map λw8 Z H b6=>⟨H,Ok.mk ?_⟩⟩⟩;have a3:=q.ah r;have a0:dL N n.heap.size (·=n.heap.size) ⟨[],0,false⟩:=⟨⟨none,0,0,λ_=>False,Y,aO.nil N,λ_ c=>c.elim,λc=>c⟩,rfl,λg e=>oM⟩
    have a4:(D.dH.gU w ⟨[],0,false⟩).Ok:=d.ok.put j (by have:=d.ok.fits;simpa using this) oM (Q4 _);have a5:=a3.put (q:=n.heap.size) (G':=(·=n.heap.size)) Z H a0 (λa1 hy _ g e a6=>by have:=(q.each.each a1 hy).aC g a6;omega) (λg e=>by have:=l.size;omega) a4;rw [j,if_pos rfl,if_neg (by rw [<-C,L];simp),if_neg oM];refine⟨_,rfl,a5.at,⟨(l.af.ah r).then (H.mono λg _ e=>by rw [e];exact d.Fr),λg e=>e.imp id λc=>by have:=l.size;omega⟩⟩
 ·rw [j]
  exact⟨f,rfl,(d.ah i).at,i.af,λ_ c=>.inl c⟩
def fJ (a:List (ByteArray×l_)):Nat:=(a.map λb=>b.2.f.bytes.length).sum
theorem CK (a:List (ByteArray×l_)):fJ a=dW (a.map tW):=by unfold fJ dW;rw [List.map_map];rfl
theorem vU {left:List (ByteArray×l_)} (e:left.map dG=f9++(w,v)::h5):
  ∃a b c,left=a++(w,b)::c/\f9=a.map dG/\h5=c.map dG/\v=ptr b.q:=by
 obtain⟨a,l,f,g,h⟩:=List.map_eq_append_iff.1 e;obtain⟨i,c,j,d,k⟩:=List.map_eq_cons_iff.1 h;obtain⟨m,b⟩:=i;simp only [dG,Prod.mk.injEq]at d;obtain⟨rfl,rfl⟩:=d;exact⟨a,b,c,by rw [f,j],g.symm,k.symm,rfl⟩
theorem LW {D:an} (i:aP b a f D):
  Calls Tryz.prog 221 #[.pointer (some ⟨a,0,none⟩)] b (Ok λl j=>l= .int .i64 D.room/\ai b j):=by
 obtain⟨m,d,e⟩:=i.open;have Q:=e.ok.most;have n:=e.ok.fits;unfold an.used at n;rw [e.files,<-CK]at n;refine tK ⟨a,0,rfl,_,ae e.head rfl,a,0,rfl,some m,ae e.head rfl,mapRange mF e.map λR w x S=>?_⟩;refine⟨λo p j=>∃left:List (ByteArray×l_),cE j b.heap.size m Value.string (d.map dG) (left.map dG)/\o=left.length/\p=(D.most:Int)-fJ d+fJ left/\fJ left<=fJ d/\ai b j/\∀c∈left,c∈d,
  ⟨_,d,w,rfl,oM,Q4 _,x,λ_ i=>i⟩,?_⟩
 rintro o p T U ⟨left,y,rfl,rfl,V,q,r⟩;refine mf y (λz=>.inl ⟨rfl,Ok.mk ⟨?_,q⟩⟩) λk l W X s A B C E Y=>.inr ⟨_,_,rfl,pt C ?_⟩
 ·have:left=[]:=by simpa using z
  subst this;simp only [fJ,List.map_nil,List.sum_nil,an.room,an.used];rw [e.files,<-CK];simp [fJ]
 ·obtain⟨h,c,g,rfl,rfl,rfl,rfl⟩:=vU A
  have F:(k,c)∈d:=r _ sM;have t:ai b s:=q.new E λg Z=>.inr oM;have H:dL s c.q c.G c.f:=(e.each.each _ F).af t λ_ _ i=>i;obtain⟨I,u,J,F0,K,L,h3,h4⟩:=H.body;have M:=L.len dC;have N:fJ (h++(k,c)::g)=fJ (h++g)+c.f.bytes.length:=by simp [fJ];omega
  have O:IntKind.wrap .i64 ((D.most:Int)-fJ d+fJ (h++(k,c)::g)-((u:Nat):Int))=(D.most:Int)-fJ d+fJ (h++g):=by
   rw [wrap_i64 (by unfold aK;omega),M,N];omega
  refine⟨_,_,rfl,c.q,0,rfl,I,u,J,ae K rfl,(h++g).length,sM,h++g,?_,rfl,O,oM,t,λP v=>r P ?_⟩
  ·rw [Q3];exact B
  ·simp only [Q6,Q2]at v⊢;exact v.imp id .inr
theorem wM {D:an} (h:aP b a f D) (g:Row fg 1 b a2 d c x) (X:d=none->c=0/\i=0) (y:∀e,a2 e->e<b.heap.size/\¬f e):
  Calls Tryz.prog 152 #[.pointer (some ⟨a,0,none⟩),.string w,.slice d c i] b (Ok (tX b a f (D.append w x))):=by
 have L:=g.len;have Y:=g.dt;unfold aI at Y;refine qL (PA.mk λw1 z s1 M=>PA.mk λw2 m s2 Z=>⟨_,ae (m.get M id) rfl,PC.ok (tY ((h.ah z).ah m) (k:=w) (g:=220)
  (body:=λD N=>if(x.length:Int)>D.room then(12,D)else(0,D.gU w {N with bytes:=N.bytes++x})) kR λhd s a0 b6 j k A t=>?_) λa1 w' h=>kC a1 w' (z.ah m) h⟩)
 have e1:=t.get (m.get M id) λg=>by have:=h.aC _ g;omega
 have O:=t.get Z λg=>by have:=h.aC _ g;omega
 have a4:Row fg 1 s a2 d c x:=((g.ah z).ah m).af t λe g=>(y e g).2;have B:=k.get A;refine od λw4 u=>⟨λ_=>False,id,d,c,i,ae (u.af (S:=λ_=>False)|>.get O id) rfl,_,ae (u.af (S:=λ_=>False)|>.get e1 id) rfl,PC.ok (LW (k.ah u.af).at) ?_⟩
 rintro _ w5 ⟨rfl,P⟩;have C:ai s w5:=(bd.af u).then P;refine⟨_,rfl,P,al.dec (λa5=>Ok.mk ?_) (λa6=>λn a7=>?_)⟩
 ·rw [if_pos (by rw [<-L];exact a5)]
  exact⟨f,rfl,(k.ah C).at,C.af,λ_ h=>.inl h⟩
 ·have o:ai s n:=C.ah a7.af
  have E:=k.ah o;have Q:=bQ A;have F:dL n j.q j.G j.f:=E.each.each _ Q;obtain⟨v,R,fc,F0,H,p,I,S⟩:=F.body;have b7:=p.len dC;have b8:j.f.bytes.length<=262144:=k.ok.len (bQ B);have a8:∀e,j.G e->f e/\e≠a/\e≠a0:=E.GI _ Q;refine⟨j.q,0,rfl,v,R,fc,ae H rfl,d,c,i,ae (o.get O id) rfl,?_⟩;have a3:∀e,a2 e->e<n.heap.size/\aF v≠some e:=λe g=>⟨by have:=(y e g).1;have:=t.size;have:=o.size;omega,λl=>(y e g).2 (a8 e (I e (p.self e l))).1⟩
  have b9:D.dH.room<=262144:=by have:=k.ok.most;unfold an.room;omega
  refine yp p rZ (a4.ah o) X a3 (by unfold aI;omega) (by unfold maxLen;omega) λq c' w7 F' J K _ T=>?_;have hq:aF v≠some j.q:=λl=>S (p.self _ l);have c0:=ay H;have r:aF q≠some j.q:=λl=>by rcases T _ l with h|h;exact S h;omega
  refine⟨_,_,_,rfl,j.q,0,rfl,PS.mk (K.get H hq) sM λU V s8 g8=>Ok.mk ?_⟩;have W:¬((x.length:Int)>D.dH.room):=by rw [<-L];exact a6
  rw [if_neg W];have a9:∀e,aF v=some e->j.G e:=λe l=>I e (p.self e l);have b0:dL U j.q (λe=>e=j.q\/aF q=some e) {j.f with bytes:=j.f.bytes++x}:=
   ⟨⟨q,R+c,c',λe=>aF q=some e,g8,J.alone.af V (λe g b1=>r (by rw [<-b1];exact g)),λe g=>.inr g,r⟩,.inl rfl,by
    rintro e (rfl|g)
    ·have:=K.size;omega
    ·have:=J.aC e (J.self e g);omega⟩
  have b2:cz j.G n (λe=>e=j.q\/aF q=some e) U:=⟨(K.mono λe _ g=>a9 e g).then (V.mono λe _ g=>g▸F.self),by
   rintro e (rfl|g)
   ·exact .inl F.self
   ·exact(T e g).imp (λh=>I e h) id⟩
  have b3:(D.dH.gU w {j.f with bytes:=j.f.bytes++x}).Ok:=k.ok.set B (by
   unfold an.room at W;simp only [QX];omega) (by have:=k.ok.Pu _ (bQ B);simp only [QX];show j.f.synced<=_;have h':j.f.synced<=j.f.bytes.length:=this;omega)
  obtain⟨F2,b4,b5⟩:=E.dZ A b0 b2 b3;exact⟨F2,rfl,b4.at,(cz.mk o.af λ_ h=>.inl h:cz f s f n).trans b5⟩
theorem vV {D:an} (i:aP b a f D) :
  Calls Tryz.prog 166 #[.pointer (some ⟨a,0,none⟩),.string w] b (Ok λn o=>∃k,n= .tuple #[k,.int .i64 (D.read w).2]/\oy fg 5 b (D.read w).1 k o):=by
 obtain⟨l,E,d⟩:=i.open;have c:oy fg 5 b [] (.slice none 0 0) b:=⟨none,0,0,λ_=>False,rfl,aO.nil b,ak.refl _,λ_ i=>i.elim⟩
 rcases d.box w with⟨h,j⟩|⟨g,F,p,h,j⟩
 ·refine ku ⟨a,0,rfl,some l,ae d.head rfl,yr mF kS d.map ?_⟩
  rw [j];refine⟨_,rfl,a,0,rfl,_,ae d.head rfl,al.mk (λe=>Ok.mk ?_) (λe=>fG uF ⟨_,rfl,al.tt rfl (Ok.mk ?_)⟩)⟩
  ·unfold an.read;rw [e,if_pos rfl];exact⟨_,rfl,c⟩
  ·unfold an.read;rw [e,if_neg sM,h];exact⟨_,rfl,c⟩
 ·refine ku ⟨a,0,rfl,some l,ae d.head rfl,yr mF kS d.map ?_⟩
  rw [j];refine⟨_,rfl,a,0,rfl,_,ae d.head rfl,al.mk (λe=>Ok.mk ?_) (λe=>fG uF ⟨_,rfl,al.ff rfl ?_⟩)⟩
  ·unfold an.read;rw [e,if_pos rfl];exact⟨_,rfl,c⟩
  ·have q:dL b g.q g.G g.f:=d.each.each _ p
   obtain⟨r,s,t,H,u,m,I,J⟩:=q.body;have K:g.f.bytes.length<=262144:=d.ok.len (bQ h);refine⟨g.q,0,rfl,r,s,t,ae u rfl,PC.ok (jL (m.row dC (by unfold aI;omega)) m.aC) ?_⟩;rintro _ L ⟨v,x,y,z,rfl,A,B,C⟩;unfold an.read;rw [e,if_neg sM,h];exact⟨_,_,_,rfl,Ok.mk ⟨_,rfl,v,x,y,z,rfl,A,B,C⟩⟩
theorem vW {D:an} (l:aP b a f D):
  Calls Tryz.prog 164 #[.pointer (some ⟨a,0,none⟩)] b (Ok (oy LR 9 b D.list)):=by
 obtain⟨i,j,c⟩:=l.open;have A:=c.ok.many;have B:j.length=D.files.length:=by rw [c.files];simp
 refine tH ⟨a,0,rfl,some i,ae c.head rfl,PC.ok (φ:=λm g=>m= .func (.func 286) #[] #[.pointer (some ⟨b.heap.size,0,none⟩)]/\ai b g/\g.heap.size=b.heap.size+1/\
  g.heap[b.heap.size]? =some (.cells #[.map (some i)] 122 (0,0))) (dx (PA.mk λn d k h=>Ok.mk ⟨rfl,d,k,h⟩)) ?_⟩
 rintro _ n ⟨rfl,d,k,h⟩;refine⟨_,rfl,PC.ok (yd (c.map.ah d) (λC o=>?_) (by rw [Q8];unfold aI;omega) h) ?_⟩
 ·obtain⟨e,p,rfl⟩:=Xk.1 o
  have:=c.ok.names (tW e) (by rw [c.files];exact Xk.2 ⟨e,p,rfl⟩);unfold gu at this;simp only [QK,decide_eq_true_eq]at this;have E:e.1.size<=16:=this.1.2;show e.1.size<=maxLen;unfold maxLen;omega
 ·rintro _ F ⟨q,r,s,t,rfl,u,v,w⟩
  refine⟨_,_,_,rfl,Ok.mk ⟨q,r,s,t,rfl,?_,d.ah v,λx y=>by have:=w x y;omega⟩⟩;have z:tV ((j.map dG).map (·.1))=D.list:=by unfold an.list;rw [c.files,List.map_map,List.map_map];rfl
  rw [<-z];exact u
theorem GN {a:List (ByteArray×j)} (b:Tidy a) (c:ByteArray):bV a c=a.filter λd=>d.1 !=c:=by
 induction a with
 |nil=>rfl
 |cons h a g=>
  obtain⟨d,m⟩:=h;unfold Tidy at b g;simp only [QY,List.nodup_cons]at b;unfold bV
  by_cases e:(c==d)=true
  ·rw [if_pos e]
   have i:c=d:=eq_of_beq e;subst i;rw [List.filter_cons_of_neg sM];exact(List.filter_eq_self.2 λk l=>by
    simp only [bne_iff_ne,ne_eq];intro f;exact b.1 (f▸Xk.2 ⟨k,l,rfl⟩)).symm
  ·rw [if_neg e,g b.2,List.filter_cons_of_pos]
   simp only [bne_iff_ne,ne_eq];intro f;exact e (by rw [f];simp)
def stays (left:List (ByteArray×l_)) (a:ByteArray×l_):Bool:=a.2.f.lj||left.any λb=>b.1==a.1
theorem ye (K:bG b a Value.string (a0.map dG)) (n:CG b a0) (L:∀c∈a0,∀e,c.2.G e->e≠a):
  Calls Tryz.prog 131 #[.map (some a),.func (.func 132) #[] #[]] b
   (Ok λp j=>p= .tuple #[]/\bG j a Value.string ((a0.filter λc=>c.2.f.lj).map dG)/\ak (·=a) b j):=by
 have M:enters Tryz.prog 132=true:=kR
 refine cM (mapRange mF K λw1 N O s1=>?_);refine⟨λv j=>∃left:List (ByteArray×l_),cE j b.heap.size a Value.string ((a0.filter (stays left)).map dG) (left.map dG)/\v=left.length/\ak (·=a) b j/\(∀c∈left,c∈a0)/\Tidy left,
  ⟨_,a0,?_,rfl,O.af,λ_ P=>P,n.tidy⟩,?_⟩
 ·have k:a0.filter (stays a0)=a0:=List.filter_eq_self.2 λc o=>by
   unfold stays;rw [Bool.or_eq_true];exact .inr (List.any_eq_true.2 ⟨c,o,sM⟩)
  rw [k];exact N
 ·rintro v a1 w2 ⟨left,q,rfl,w,x,l⟩
  refine mf q (λm=>.inl ⟨rfl,Ok.mk ⟨rfl,?_,w⟩⟩) λf p l1 l2 s Q y R S s3=>.inr ⟨_,_,rfl,pt R ?_⟩
  ·have:left=[]:=by simpa using m
   subst this;have k:(a0.filter (stays []))=a0.filter λc=>c.2.f.lj:=List.filter_congr λc _=>by simp [stays]
   rw [k]at q;exact q.map
  ·obtain⟨g,c,e,rfl,rfl,rfl,rfl⟩:=vU Q
   have o:(f,c)∈a0:=x _ sM;have a6:b.heap.size≠a:=q.ne;have t:ak (·=a) b s:=w.new S λe z=>.inr oM;have T:dL s c.q c.G c.f:=(n.each _ o).af t λe z=>L _ o e z;obtain⟨fa,fn,fc,F0,r,A,h3,h4⟩:=T.body;have B:f∉(g++e).map (·.1):=by
    unfold Tidy at l;rw [Q3,QY]at l;rw [Q3];intro U;have V:=(List.perm_middle (a:=f) (l₁:=g.map (·.1)) (l₂:=e.map (·.1))).nodup_iff.1 l;exact(List.nodup_cons.1 V).1 U
   have C:∀d∈a0,d.1≠f->stays (g++(f,c)::e) d=stays (g++e) d:=λd h i=>by
    unfold stays
    congr 1
    have:(f==d.1)=false:=beq_false_of_ne (Ne.symm i);simp [List.any_append,this]
   have E:∀d∈a0,d.1=f->d=(f,c):=λd h m=>by
    have r:=pk n.tidy (k:=d.1) (v:=d.2) h;have A:=pk n.tidy (k:=f) (v:=c) o;rw [m,A]at r;exact Prod.ext m (XJ r).symm
   have W:(g++e).any (λd=>d.1==f)=false:=by
    rw [List.any_eq_false];intro d h m;exact B (Xk.2 ⟨d,h,eq_of_beq m⟩)
   have F:Tidy (g++e):=by
    unfold Tidy at l⊢;rw [Q3,QY]at l;rw [Q3];exact(List.nodup_cons.1 ((List.perm_middle (a:=f) (l₁:=g.map (·.1)) (l₂:=e.map (·.1))).nodup_iff.1 l)).2
   have H:∀d∈g++e,d∈a0:=λd h=>x d (by simp only [Q6,Q2]at h⊢;exact h.imp id .inr);have I:(g++e).length<(g++(f,c)::e).length:=sM
   refine⟨_,_,rfl,_,_,_,rfl,M,PC.ok (φ:=λp j=>p= .bool (!c.f.lj)/\j=s) (oW ⟨c.q,0,rfl,_,ae r rfl,Ok.mk ⟨rfl,rfl⟩⟩) ?_⟩;rintro _ _ ⟨rfl,rfl⟩;refine⟨_,rfl,al.not (al.mk (λu=>⟨_,I,g++e,?_,rfl,t,H,F⟩) (λu=>?_))⟩
   ·have k:a0.filter (stays (g++(f,c)::e))=a0.filter (stays (g++e)):=List.filter_congr λd h=>by
     by_cases i:d.1=f
     ·rw [E d h i];simp [stays,u]
     ·exact C d h i
    rw [Q3,<-k];exact y
   ·refine NO mF kS y (by rw [<-Q3];simpa [dG,Function.comp_def]using B) λw4 J X s4=>⟨_,I,g++e,?_,rfl,t.then X,H,F⟩
    have k:bV ((a0.filter (stays (g++(f,c)::e))).map dG) f=(a0.filter (stays (g++e))).map dG:=by
     have Y:bV ((a0.filter (stays (g++(f,c)::e))).map dG) f=(bV (a0.filter (stays (g++(f,c)::e))) f).map dG:=(zW (λc:l_=>ptr c.q) _ f).symm;have Z:Tidy (a0.filter (stays (g++(f,c)::e))):=List.Nodup.sublist (List.Sublist.map _ List.filter_sublist) n.tidy;rw [Y,GN Z,List.filter_filter]
     congr 1
     refine List.filter_congr λd h=>?_
     by_cases i:d.1=f
     ·rw [E d h i]
      simp only [stays,u,W,Bool.or_false,bne_self_eq_false,Bool.false_and]
     ·rw [C d h i]
      have:(d.1 !=f)=true:=by simpa using i
      rw [this,Bool.true_and]
    rw [k,<-Q3]at J;exact J
end Go.Proofs.YthnilpgpacdmnaaGreatDoor
namespace Go.au
open Go
set_option linter.unusedVariables false
def cx (a:List UInt8):ByteArray:=⟨a.toArray⟩
theorem uR (a:List UInt8):(cx a).data.toList=a:=by simp [cx]
theorem SV (a:ByteArray):cx a.data.toList=a:=by simp [cx]
variable{c9 x:List UInt8}{a:Nat}{Q W:Operand}{h:Program}{g:TypeId}{o s:Value->World->Prop}{b:World}
theorem QT (a:cx x=cx c9):x=c9:=by rw [<-uR x,a,uR]
theorem gN (a:List UInt8):(cx a).size=a.length:=by simp [cx,ByteArray.size]
def kV (a:ByteArray):Int×Bool:=match ic a.data.toList with
 |some b=>(b,true)
 |none=>(0,false)
theorem Vp {a c:List UInt8} (e:a.length+c.length<=1000000000) (d:o (.string (cx (a++c))) b):
  aE h (do eqGuard .add g Q W (.string (cx a)) (.string (cx c));binOp .add g (.string (cx a)) (.string (cx c))) b o s:=by
 refine aE.mk (v:=.string (cx a++cx c)) (w':=b) ?_ ?_
 ·rw [Sem.run_bind,show(eqGuard .add g Q W (.string (cx a)) (.string (cx c))).run h b= .ok () b from rfl,Result.andThen_ok,binOp_string_add,run_string_add_sum b (cx a) (cx c) (by rw [gN,gN];omega)]
 have:cx a++cx c=cx (a++c):=by
  apply ByteArray.ext;simp [cx]
 rw [this];exact d
theorem ai.QU {c:Array Obj}:ai b (Sort.grow (b.drewN a) c):=
 ⟨rfl,rfl,rfl,sM,λe d _=>by rw [Sort.heap_grow_old _ _ (by simpa using d)];rfl⟩
end Go.au
namespace Go.Proofs.YthnilpgpacdmnaaGreatDoor
open Go.au
set_option linter.unusedVariables false
set_option maxRecDepth 20000
structure Laid (w:World):Prop where
 mN:oR w
 pow:Lib.TabIs Tryz.prog w "internal/strconv.uint64pow10" .u64 Lib.pow10Tab
variable{w:ByteArray}{e:Int}{c9 x:List UInt8}{b k:World}
theorem Laid.ah (a:Laid b) (c:ai b k):Laid k:=⟨a.mN.ah c,Lib.tabBelow_of_tabIs a.pow k c.below⟩
theorem strconv_Itoa {a:Int} {b:World} (e:Laid b) (c:aK a):Calls Tryz.prog 199 #[.int .i64 a] b (Ok λf d=>f= .string (cx (Lib.itoa a))/\ai b d):=by
 refine(Any.strconv_Itoa Tryz.OX a c.1 c.2 b e.pow).mono ?_;rintro g d ⟨rfl,h,i,rfl⟩;exact Ok.mk ⟨rfl,ai.QU⟩
theorem iE (c:Laid b) (d:aK e):Calls Tryz.prog 140 #[.int .i64 e] b (Ok λf g=>f= .string (cx (aA e))/\ai b g):=by
 refine zq (al.dec (λa=>?_) (λi=>al.dec (λa=>?_) (λj=>PC.ok (strconv_Itoa c d) ?_)))
 ·exact Ok.mk ⟨by unfold aA;rw [if_pos (.inl a)];rfl,ak.refl _⟩
 ·exact Ok.mk ⟨by unfold aA;rw [if_pos (.inr a)];rfl,ak.refl _⟩
 rintro _ k ⟨rfl,h⟩;refine⟨_,rfl,Vp (a:=dX) ?_ ⟨_,rfl,Ok.mk ⟨?_,h⟩⟩⟩
 ·have:=uS (u:=e.toNat) oM
  unfold Lib.itoa;rw [if_neg oM];show 4+_<=_;omega
 ·rw [qf oM oM]
  unfold Lib.itoa;rw [if_neg oM]
theorem Bc :Calls Tryz.prog 317 #[.string (cx x),.string (cx c9)] b (Ok λd e=>d= .bool (decide (x.take c9.length=c9))/\b=e):=by
 refine fY ?_;rw [gN,gN];refine al.dec (λa=>⟨oM,oM,Ok.mk ⟨?_,rfl⟩⟩) (λa=>Ok.mk ⟨?_,rfl⟩)
 ·rw [Qx]
  have c:ByteArray.toList (ByteArray.extract (cx x) 0 c9.length)=x.take c9.length:=by
   rw [ByteArray.toList_eq,ByteArray.data_extract];simp [cx]
  have f:ByteArray.toList (cx c9)=c9:=by rw [ByteArray.toList_eq,uR]
  rw [c,f]
  congr 1
  by_cases a:x.take c9.length=c9<;>simp [a]
 ·have:x.take c9.length≠c9:=λc=>by have:=congrArg List.length c;simp at this;omega
  rw [Xv this]
theorem Co :Calls Tryz.prog 228 #[.string (cx x),.string (cx c9)] b (Ok λc d=>c= .tuple (if x.take c9.length=c9 then #[.string (cx (x.drop c9.length)),.bool true]else #[.string (cx x),.bool false])/\b=d):=by
 refine oY (PC.ok (φ:=λc d=>c= .tuple (if x.take c9.length=c9 then #[.string (cx (x.drop c9.length)),.bool true]else #[.string (cx x),.bool false])/\b=d) (fW (PC.ok Bc ?_)) ?_)
 ·rintro _ _ ⟨rfl,rfl⟩
  refine⟨_,rfl,?_⟩;rw [gN,gN]
  by_cases a:x.take c9.length=c9
  ·rw [if_pos a,decide_eq_true a]
   have g:c9.length<=x.length:=by have:=congrArg List.length a;simp at this;omega
   refine al.ff rfl ⟨oM,oM,Ok.mk ⟨?_,rfl⟩⟩;have e:ByteArray.extract (cx x) (Int.toNat ((c9.length:Nat):Int)) x.length=cx (x.drop c9.length):=by
    apply ByteArray.ext;rw [Qx,ByteArray.data_extract];have f:List.take (x.length-c9.length) (List.drop c9.length x)=List.drop c9.length x:=Qz sM;simp [cx,f]
   rw [e]
  ·rw [if_neg a,Xv a]
   exact al.tt rfl (Ok.mk ⟨rfl,rfl⟩)
 ·rintro _ _ ⟨rfl,rfl⟩
  split
  ·exact⟨_,_,rfl,Ok.mk ⟨rfl,rfl⟩⟩
  ·exact⟨_,_,rfl,Ok.mk ⟨rfl,rfl⟩⟩
theorem y_ (z:Laid b):Calls Tryz.prog 165 #[.string w] b (Ok λm f=>m= .tuple #[.int .i64 (kV w).1,.bool (kV w).2]/\ai b f):=by
 rw [<-SV w];generalize w.data.toList=g;have e:(⟨#[115,101,103,46]⟩:ByteArray)=cx dX:=rfl;unfold kV;rw [uR];refine vz ?_;rw [e];refine PC.ok Co ?_;rintro _ _ ⟨rfl,rfl⟩;have no:∀f,ic g=none->ai b f->Ok (λm f=>m= .tuple #[.int .i64 (match ic g with|some n=>((n:Int),true)|none=>(0,false)).1,.bool (match ic g with|some n=>((n:Int),true)|none=>(0,false)).2]/\ai b f) (.returned (.tuple #[.int .i64 0,.bool false])) f:=λf q A=>by
  rw [q];exact Ok.mk ⟨rfl,A⟩
 by_cases h:g.take dX.length=dX
 ·rw [if_pos h]
  refine⟨_,_,rfl,al.ff rfl ?_⟩;have r:g=dX++g.drop 4:=by
   have:=List.take_append_drop 4 g;rw [show g.take 4=dX from h]at this;exact this.symm
  change al (decide (((ByteArray.size (cx (g.drop 4)):Nat):Int)>12)) _ _
  generalize S:g.drop 4=c at r;subst r;rw [gN];refine al.dec (λq=>no _ (Ka (by rw [QX];show 16<4+_;omega)) (ak.refl _)) (λT=>?_);refine Aj Tryz.underlying9 λU B C V=>⟨λs t f=>∃a,s=c.length-a/\a<=c.length/\t=(dY (c.take a):Int)/\f.heap[b.heap.size]? =some (.stringIter (cx c) a)/\ai b f/\(c.take a).all gO=true,⟨_,0,rfl,Qj _,rfl,B,C,rfl⟩,?_⟩
  rintro s t W X ⟨a,rfl,Y,rfl,E,i,j⟩;have F:=wu _ j;refine EE E (λH=>.inl ⟨rfl,?_⟩) λe u v k Z=>.inr ⟨_,_,rfl,?_⟩
  ·rw [gN]at H
   rw [Qz oM]at j F⊢;have a0:10 ^ c.length<=10 ^ 12:=Nat.pow_le_pow_right oM oM;have I:(10:Nat) ^ 12=1000000000000:=dC
   refine PC.ok (iE (z.ah i) (by unfold aK;omega)) ?_;rintro _ u ⟨rfl,k⟩;have x:=Fy j oM;refine⟨_,rfl,al.Vz (λJ=>no _ ?_ (i.then k)) (λK=>?_)⟩
   ·rw [x,if_neg λL=>J (by rw [L])]
   ·rw [x,if_pos (QT K)]
    exact Ok.mk ⟨rfl,i.then k⟩
  ·have o:a<c.length:=by rwa [gN]at e
   have l:ai b u:=i.new k λa1 y=>.inr oM;have p:c[a]? =some ((cx c)[a]'e):=by
    rw [Qq o]
    congr 1
   have d:gO ((cx c)[a]'e)=false->ic (dX++c)=none:=λM=>HS (List.all_eq_false.2 ⟨_,QZ p,by simp [M]⟩)
   by_cases y:((cx c)[a]'e).toNat<128
   ·rw [decode_ascii _ a e y]at v⊢
    simp only;refine al.dec (λN=>no _ (d ?_) l) (λO=>al.dec (λP=>no _ (d ?_) l) (λQ=>?_))
    ·unfold gO;exact Xv oM
    ·unfold gO;exact Xv oM
    ·have a2:10 ^(c.take a).length<=10 ^ 12:=Nat.pow_le_pow_right oM (by simp;omega)
     have I:(10:Nat) ^ 12=1000000000000:=dC
     refine⟨_,oM,a+1,rfl,oM,?_,v,l,?_⟩
     ·rw [Qw,p]
      show _=((dY (c.take a++[_]):Nat):Int);rw [eZ];have R:IntKind.wrap .i32 ((((cx c)[a]'e).toNat:Int)-48)=(((cx c)[a]'e).toNat:Int)-48:=by
       unfold IntKind.wrap;simp [IntKind.signed,IntKind.bits];omega
      rw [R,wrap_i64 (x:=(((cx c)[a]'e).toNat:Int)-48) (by unfold aK;omega),wrap_i64 (x:=10*_) (by unfold aK;omega),wrap_i64 (by unfold aK;omega)];omega
     ·rw [Qw,p,List.all_append,j]
      simp [gO];omega
   ·have hh:=(decode_high _ a e oM).1
    refine al.dec (λN=>oM) (λO=>al.dec (λP=>no _ (d ?_) l) (λQ=>oM));unfold gO;exact Xv oM
 ·rw [if_neg h]
  exact⟨_,_,rfl,al.tt rfl (no _ (MN h) (ak.refl _))⟩
end Go.Proofs.YthnilpgpacdmnaaGreatDoor
namespace Go.Proofs.YthnilpgpacdmnaaGreatDoor
open Go.au
set_option linter.unusedVariables false
set_option maxRecDepth 20000
theorem RN:ix Tryz.prog 39 3 1 8:=⟨kR,kR,dC⟩
def eJ (b:List Int) (a:Int):Int:=if a<0 then 0 else max (b.getD a.toNat 0) 0
theorem EF {xs:List Int} {i:Int} {x:Int} (b:0<=i) (a:xs[i.toNat]? =some x):eJ xs i=max x 0:=by
 unfold eJ;rw [if_neg oM];simp [List.getD,a]
variable{e n:Int}{b2 u:List Int}{a c i l:Nat}{d p:Option Addr}{b:World}{m:aj}
theorem GU {xs:List Int} (a:(xs.length:Int)<=e):eJ xs e=0:=by
 unfold eJ;split
 ·rfl
 ·have:xs[e.toNat]? =none:=by simp;omega
  simp [List.getD,this]
theorem mJ {i:Int} (h:Ints b d a u):
  Calls Tryz.prog 128 #[.slice d a c,.int .i64 i] b (Ok λj k=>j= .int .i64 (eJ u i)/\b=k):=by
 refine LI ?_;refine al.mk (λf=>?_) (λf=>al.mk (λe=>?_) (λe=>?_))
 ·have:=XV f
  exact Ok.mk ⟨by simp [eJ,this],rfl⟩
 ·have e:=XV e
  exact Ok.mk ⟨by rw [GU (by rw [<-h.len];exact e)],rfl⟩
 ·have f:=Xy f
  have e:=Xy e;obtain⟨l,g,m,rfl,p,n,q,o⟩:=h.at (i:=i) oM oM;refine⟨l,g,rfl,oM,oM,m,o,Ok.mk ⟨?_,rfl⟩⟩;rw [EF oM n]
  congr 1
  omega
def mI (b c:List Int) (d:Nat):List Int:=(List.range d).map λ(a:Nat)=>max (eJ b a) (eJ c a)
def gW (a b:List Int):List Int:=mI a b (max a.length b.length)
theorem Ib (b c:List Int) (a:Nat):mI b c (a+1)=mI b c a++[max (eJ b a) (eJ c a)]:=by simp [mI,List.range_succ]
theorem rp (b c:List Int) (a:Nat):(mI b c a).length=a:=by simp [mI]
def FB (b:World) (g:TypeId) (h:List Int) (i:Value) (c:World):Prop:=
 ∃a d e,i= .slice a d e/\Own c g 1 a d e (ints h)/\ai b c/\∀f,aF a=some f->b.heap.size<=f
theorem Rj :(if n>e then n else e)=max e n:=oM
theorem yX (k:Ints b d a u) (e:Ints b p c b2):
  Calls Tryz.prog 124 #[.slice d a i,.slice p c l] b (Ok (FB b 3 (gW u b2))):=by
 have w:=k.len;have x:=e.len;have y:=k.dt;have z:=e.dt;unfold aI at y z;refine IL ⟨λq m f r s t=>s=(f:Int)/\f<=max a c/\q=max a c-f/\Own t 3 1 m f r (ints (mI u b2 f))/\ai b t/\∀p,aF m=some p->b.heap.size<=p,
  ⟨_,rfl,oM,rfl,Own.nil _ _ _,ak.refl _,by simp [aF]⟩,?_⟩
 rintro q m f r s _ E ⟨rfl,F,rfl,v,g,n⟩;refine al.mk (λh=>?_) (λh=>?_)
 ·have h:=XV h
  refine PC.ok (mJ (k.ah g)) ?_;rintro _ _ ⟨rfl,rfl⟩;refine⟨_,rfl,PC.ok (mJ (e.ah g)) ?_⟩;rintro _ _ ⟨rfl,rfl⟩;refine⟨_,rfl,PA.mk λH o I A=>?_⟩;refine Kq RN (v.ah o) A (by unfold aI;omega) λJ K L B C j=>?_;refine⟨_,_,_,rfl,_,?_,?_,oM,rfl,?_,(g.ah o).new C ?_,?_⟩
  ·omega
  ·rw [wrap_i64 (by unfold aK;omega)];simp
  ·rw [Ib,<-Rj];exact B
  ·intro p e;exact .inr (n p e.symm)
  ·intro p e
   rcases j with j|j
   ·exact n p (j▸e)
   ·rw [j]at e;cases e;have:=g.size;have:=o.size;omega
 ·have h:=Xy h
  have:f=max a c:=oM
  subst this;refine Ok.mk ⟨_,_,_,rfl,?_,g,n⟩;unfold gW;rw [<-w,<-x];exact v
def xo (a b:List Int):Nat->Int
 |0=>0
 |k+1=>if eJ a k<eJ b k then Na .i64 (xo a b k) 1 else if eJ a k>eJ b k then Na .i64 (xo a b k) 2 else xo a b k
def p_ (a b:List Int):Int:=xo a b (max a.length b.length)
theorem Lh (j:Ints b d a u) (k:Ints b p c b2):
  Calls Tryz.prog 125 #[.slice d a i,.slice p c l] b (Ok λs m=>s= .int .i64 (p_ u b2)/\b=m):=by
 have t:=j.len;have v:=k.len;have w:=j.dt;have x:=k.dt;unfold aI at w x;refine LH ⟨λo q r m=>∃e:Nat,r=e/\e<=max a c/\o=max a c-e/\q=xo u b2 e/\m=b,
  ⟨_,0,rfl,oM,rfl,rfl,rfl⟩,?_⟩
 rintro o q r _ y ⟨e,rfl,z,rfl,rfl,rfl⟩;refine al.mk (λh=>?_) (λh=>?_)
 ·have h:=XV h
  refine PC.ok (mJ j) ?_;rintro _ _ ⟨rfl,rfl⟩;refine⟨_,rfl,PC.ok (mJ k) ?_⟩;rintro _ _ ⟨rfl,rfl⟩;have n:IntKind.wrap .i64 ((e:Int)+1)=((e+1:Nat):Int):=by rw [wrap_i64 (by unfold aK;omega)];simp
  refine⟨_,rfl,al.mk (λf=>?_) (λf=>al.mk (λg=>?_) (λg=>?_))⟩
  ·have f:=XV f
   exact⟨_,oM,e+1,n,oM,rfl,by simp [xo,f],rfl⟩
  ·have f:=Xy f
   have g:=XV g;exact⟨_,oM,e+1,n,oM,rfl,by simp [xo,f,g],rfl⟩
  ·have f:=Xy f
   have g:=Xy g;exact⟨_,oM,e+1,n,oM,rfl,by simp [xo,f,g],rfl⟩
 ·have h:=Xy h
  have:e=max a c:=oM
  subst this;exact Ok.mk ⟨by unfold p_;rw [<-t,<-v],rfl⟩
structure jo where
 bD:Int
 oA:Int
 jY:Int
 least:Int
 deriving DecidableEq
structure a_ where
 kind:Int
 dK:Int
 floor:Bool
 bh:List jo
 deriving DecidableEq
structure iw where
 aT:Int
 field:Int
 group:Int
 DG:Int
 make:Int
 deriving DecidableEq
structure aM where
 types:List (List a_)
 projs:List iw
 deriving DecidableEq
structure iU where
 aT:Int
 agg:Int
 field:Int
 op:Int
 arg:Int
 expect:Int
 key:Int
 deriving DecidableEq
structure cH where
 n:Int
 set:List Int
 deriving DecidableEq
structure lr where
 version:Int
 cells:List cH
 deriving DecidableEq
structure cC where
 ev:aj
 void:Bool
 DG:Int×Int
structure du where
 group:Int
 value:Int
 count:Int
 deriving DecidableEq
abbrev nE (a:Int):Int:=IntKind.wrap .i64 a
def within (a b c:Int):Bool:=decide (b<=a)&&decide (a<=c)
def aM.at (a:aM) (b:Int):List a_:=if within b 0 (a.types.length-1)then a.types.getD b.toNat []else []
def aM.Br (a:aM) (b c:Int):Option a_:=
 if within b 0 (a.types.length-1)&&within c 0 ((a.at b).length-1)then(a.at b)[c.toNat]? else none
def pK (a:Int):Int:=if a=1 then 1 else if a=2 then 2 else if a=3 then 3 else if a=4 then 3 else if a=5 then 4 else 0
def iI (b:aM) (c d op arg:Int):Int:=match b.Br c d with
 |none=>8
 |some a=>if !within op 1 5||pK op !=a.kind then 2 else if op==1&&arg==0||op==5&& !within arg 0 (a.bh.length-1)then 1 else 0
def pX (a:aM):Bool:=
 if !within a.types.length 1 8||decide (8<a.projs.length)then true else
 a.types.any λc=>!within c.length 1 8||c.any λb=>if b.kind==4 then !within b.bh.length 1 16 else decide (0<b.bh.length)
def Ps (b:List a_) (c a:Int):Bool:=within c 0 (b.length-1)&&((b[c.toNat]?).map (·.kind)==some a)
def SH (a b:Int):Bool:=b==1||b==2&&within a 2 4||b==3&&a==2
def eO (a:List a_) (f:a_):Int:=
 if !within f.kind 1 4 then 2 else if !within f.dK 1 3|| !SH f.kind f.dK||f.floor&&f.kind !=1 then 1 else
 if f.bh.any λm=>decide (m.bD<0)||decide (m.oA<0)||m.jY== -1&&m.least !=0 then 1 else
 if f.bh.any λm=>m.jY != -1&& !Ps a m.jY 1 then 8 else 0
def kU (b:aM) (a:iw):Int:=
 if(b.Br a.aT a.field).isNone then 8 else
 if a.group==3&& !Ps (b.at a.aT) a.DG 2||a.group !=3&&a.DG !=0 then 8 else
 if !within a.group 1 3|| !within a.make 1 5 then 2 else 0
def ck {b:Type} (a:b->Int):List b->Int
 |[]=>0
 |x::c=>if a x !=0 then a x else ck a c
def cO (a:aM):Int:=
 if pX a then 3 else
 let b:=ck (λc=>ck (eO c) c) a.types
 if b !=0 then b else ck (kU a) a.projs
def aR (a:aj):Int×Int:=(a.origin,a.seq)
def dP (a b:aj):Bool:=decide (a.ax<b.ax)||a.ax==b.ax&&(decide (a.origin<b.origin)||a.origin==b.origin&&decide (a.seq<b.seq))
def rf (a b:aj):Int:=if dP a b then-1 else if dP b a then 1 else 0
def cD (a:aj) (b:Nat):Int:=
 if a.origin<0\/(b:Int)<=a.origin\/min a.seq a.ax<1\/min a.agg a.key<0\/a.aN.length≠b\/a.aN.any (λc=>decide (c<0))then 1 else
 if a.aN.getD a.origin.toNat 0≠nE (a.seq-1)then 9 else
 if a.op<1\/5<a.op then 2 else if min a.aT a.field<0\/8<=a.aT\/8<=a.field then 8 else 0
def zO (a b:aj):Bool:=decide (a.seq<=eJ b.aN a.origin)
def tU (a b:aj):Bool:=aR a !=aR b&& !zO a b&& !zO b a
structure aw where
 n:Nat
 l:List aj
def de (a:aj):List aj->List aj
 |[]=>[a]
 |x::b=>if dP a x then a::x::b else x::de a b
def aw.s_ (a:aw) (b:Nat):Nat:=a.l.countP λc=>c.origin==(b:Int)
def aw.vec (a:aw):List Int:=(List.range a.n).map λb=>(a.s_ b:Int)
def aw.get (a:aw) (id:Int×Int):Option aj:=a.l.find? λb=>aR b==id
def aw.top (a:aw):Int:=a.l.foldl (λb c=>max b c.ax) 0
def aw.iz (f:aw) (a:aj) (c:Nat):Bool:=
 let d:=a.aN.getD c 0
 d==0||match f.get (c,d)with
  |none=>false
  |some b=>decide (b.ax<a.ax)&&(List.range b.aN.length).all λe=>decide (b.aN.getD e 0<=a.aN.getD e 0)
def aw.add (a:aw) (b:aj):Int×aw:=
 let no:=cD b a.n
 if no≠0 then(no,a)else
 if(a.get (aR b)).isSome then(16,a)else
 if b.seq≠(a.vec.getD b.origin.toNat 0)+1 then(9,a)else
 if(List.range a.n).any λc=>!a.iz b c then(9,a)else(0,{a with l:=de b a.l})
def aw.fe (a:aw) (l:List aj):aw:=l.foldl (λa b=>(a.add b).2) a
def aw.missing (c:aw) (d:List Int) (a:Int):List aj:=(c.l.filter λb=>decide (max 0 (eJ d b.origin)<b.seq)).take (max 0 a).toNat
def aw.keyed (a:aw) (key:Int):Option aj:=a.l.find? λb=>key !=0&&b.key==key
def cP (a:List a_):List cH:=a.map λ_=>⟨0,[]⟩
def Kt (a b:Int):Bool:=decide (a<nE (a+b))==decide (0<b)
def ve (g:List a_) (e:List cH) (a d arg:Int):Int:=
 let f:=g.getD a.toNat ⟨0,0,false,[]⟩
 let b:=e.getD a.toNat ⟨0,[]⟩
 let h:Bool:=
  if d=1 then(arg==0||Kt b.n arg)&& !(f.floor&&decide (nE (b.n+arg)<0))
  else if d=3 then decide (arg∈b.set)||decide (b.set.length<64)
  else if d=5 then(let c:=f.bh.getD arg.toNat ⟨0,0,0,0⟩;b.n==c.bD&&(decide (c.jY<0)||decide (c.least<=(e.getD c.jY.toNat ⟨0,[]⟩).n)))
  else true
 if h then 0 else 10
def oI (a:Int):List Int->List Int
 |[]=>[a]
 |y::b=>if a<y then a::y::b else if a=y then y::b else y::oI a b
def PH (e:List a_) (c:List cH) (a d arg:Int):List cH:=
 let f:=e.getD a.toNat ⟨0,0,false,[]⟩
 let b:=c.getD a.toNat ⟨0,[]⟩
 if d=1 then c.set a.toNat {b with n:=nE (b.n+arg)}
 else if d=2 then c.set a.toNat {b with n:=arg}
 else if d=3 then c.set a.toNat {b with set:=oI arg b.set}
 else if d=4 then c.set a.toNat {b with set:=b.set.filter λg=>g !=arg}
 else if d=5 then c.set a.toNat {b with n:=(f.bh.getD arg.toNat ⟨0,0,0,0⟩).oA}
 else c
def dV (c:a_) (a b:Int×Int):Bool:=
 if c.kind=2 then a.1==2&&b.1==2&&a !=b
 else if c.kind=4 then a.1==5&&b.1==5&&a !=b
 else if c.kind=3 then a==(3,b.2)&&b==(4,a.2)||a==(4,b.2)&&b==(3,a.2)
 else false
def lg (f:a_) (a b:aj):Bool:=(f.dK==2||f.dK==3&&decide (b.arg<a.arg))&&dV f (a.op,a.arg) (b.op,b.arg)&&tU a b
structure aU where
 decl:aM
 entries:List cC
 dR:List ((Int×Int)×lr)
 done:List ((Int×Int×Int)×List aj)
def aU.new (a:aM):aU:=⟨a,[],[],[]⟩
def aU.try (b:aU) (a:aj):Bool×(Int×Int)×aU:=
 if iI b.decl a.aT a.field a.op a.arg≠0 then(true,(0,0),b)else
 let e:=b.decl.at a.aT
 let d:=(a.aT,a.agg,a.field)
 match((aD b.done d).getD []).find? λg=>lg (e.getD a.field.toNat ⟨0,0,false,[]⟩) g a with
 |some g=>(true,aR g,b)
 |none=>
  let f:=aD b.dR (a.aT,a.agg)
  let c:=match f with
   |some f=>f.cells
   |none=>cP e
  if ve e c a.field a.op a.arg≠0 then(true,(0,0),b)else
  (false,(0,0),{b with
   dR:=aH b.dR (a.aT,a.agg) ⟨nE ((f.getD ⟨0,[]⟩).version+1),PH e c a.field a.op a.arg⟩
   done:=aH b.done d ((aD b.done d).getD []++[a])})
def aU.add (d:aU) (b:aj):cC×aU:=
 let a:=d.try b
 let c:cC:=⟨b,a.1,a.2.1⟩
 (c,{a.2.2 with entries:=a.2.2.entries++[c]})
def aU.state (a:aU) (b c:Int):Option lr:=aD a.dR (b,c)
def cg (a:aM) (b:List aj):aU:=b.foldl (λc d=>(c.add d).2) (aU.new a)
def jz (d:List cC) (e b f:Int) (a:Nat):List cC×Bool:=
 let own:=(d.filter λc=>c.ev.aT==e&&c.ev.agg==b).drop (max f 0).toNat
 (own.take a,decide (a<own.length))
def mz (d:List du) (a:Int) (b:Nat):List du×Bool:=
 let c:=d.dropWhile λe=>decide (e.group<=a)
 (c.take b,decide (b<c.length))
def eA (b:aM) (a:iU):Int:=if a.agg<0\/a.key<0\/a.expect< -1 then 1 else iI b a.aT a.field a.op a.arg
def aQ (b:iU) (a:Int) (c:List Int) (d:Int):Int×aj:=
 let no:aj:=⟨0,0,0,[],0,0,0,0,0,0⟩
 if a<0\/(c.length:Int)<=a\/d<0 then(1,no)else
 if eJ c a=9223372036854775807\/d=9223372036854775807 then(13,no)else
 (0,⟨a,eJ c a+1,d+1,gW c [],b.aT,b.agg,b.field,b.op,b.arg,b.key⟩)
def mg (f:aM) (d:aw) (j:aU) (b start:Int) (a:iU):aj×Bool×Int:=
 let no:aj:=⟨0,0,0,[],0,0,0,0,0,0⟩
 let g:=eA f a
 if g≠0 then(no,false,g)else
 match d.keyed a.key with
 |some k=>(k,false,0)
 |none=>
  let h:=f.at a.aT
  let i:=j.state a.aT a.agg
  let c:=match i with
   |some l=>l.cells
   |none=>cP h
  if¬(a.expect= -1\/a.expect=(i.getD ⟨0,[]⟩).version)then(no,false,11)else
  if ve h c a.field a.op a.arg≠0 then(no,false,10)else
  let e:=aQ a b d.vec (max d.top start)
  (e.2,decide (e.1=0),e.1)
structure dh where
 p:iw
 rows:List (Int×du)
def kO (a:iw) (b:du) (arg:Int):Int:=
 if a.make=1 then b.count else if a.make=2 then nE (b.value+arg)else
 if a.make=5\/b.count=1/\(a.make=3\/a.make=4)then arg else
 if a.make=3 then min b.value arg else if a.make=4 then max b.value arg else 0
def dh.add (a:dh) (e:cC) (d:Int):dh:=
 let c:=if a.p.group=1 then some e.ev.agg else if a.p.group=2 then some e.ev.arg else if a.p.group=3 then some d else none
 match c with
 |none=>a
 |some c=>
  if e.void||e.ev.aT !=a.p.aT||e.ev.field !=a.p.field then a else
  let b:=(aD a.rows c).getD ⟨0,0,0⟩
  let b:du:=⟨c,b.value,nE (b.count+1)⟩
  {a with rows:=aH a.rows c ⟨c,kO a.p b e.ev.arg,b.count⟩}
def lC (a:du):List du->List du
 |[]=>[a]
 |y::b=>if a.group<y.group then a::y::b else y::lC a b
def dh.list (a:dh):List du:=(a.rows.map (·.2)).foldr lC []
structure jj where
 view:aU
 rows:List dh
def jj.new (a:aM):jj:=⟨aU.new a,a.projs.map λb=>⟨b,[]⟩⟩
def rb (a:Option lr) (b:iw):Int:=match a with
 |none=>0
 |some a=>((a.cells[b.DG.toNat]?).map (·.n)).getD 0
def jj.add (c:jj) (a:aj):jj:=
 let b:=c.view.add a
 let e:=b.2.state a.aT a.agg
 ⟨b.2,c.rows.map λd=>d.add b.1 (rb e d.p)⟩
def dE (a:aM) (b:List aj):jj:=b.foldl jj.add (jj.new a)
def eI (a:Nat) (b:List aj) (c:aj):Bool×List aj:=
 if a<=b.length\/b.any (λd=>aR d==aR c)then(false,b)else(true,de c b)
def ez (a:aw):List aj->Option (aj×aw×List aj)
 |[]=>none
 |e::c=>if(a.add e).1=0 then some (e,(a.add e).2,c)else(ez a c).map λb=>(b.1,b.2.1,e::b.2.2)
def dS:Nat->aw->List aj->List aj->List aj×List aj
 |0,c,b,a=>(a,b)
 |k+1,c,b,a=>match ez c b with
  |none=>(a,b)
  |some (d,e,f)=>dS k e f (a++[d])
def bw (b:aw) (a:List aj):List aj×List aj:=
 let a:=a.filter λc=>(b.get (aR c)).isNone
 dS (a.length+1) b a []
structure cN where
 kind:Int
 bD:Int
 oA:Int
 vec:List Int
 events:List aj
def fQ (a:cN) (b:Int):Int:=if 0<a.events.length then 8 else if(a.vec.length:Int)≠b then 1 else if a.vec.any (λc=>decide (c<0))then 1 else 0
def eH (b:cN) (c:Nat) (a:Int):Int:=if 0<b.vec.length then 8 else if b.events.length<1\/a<(b.events.length:Int)then 3 else ck (λd=>cD d c) b.events
def eX (m:cN) (c:Nat) (b:Int):Int:=
 let a:=!(decide (0<=m.bD)&&decide (m.bD<c))|| !(decide (0<=m.oA)&&decide (m.oA<c))||m.bD==m.oA
 if m.kind=3 then(if a then 1 else eH m c b)
 else if m.kind=1\/m.kind=2\/m.kind=4 then(if a then 1 else fQ m c)
 else 2
def jx (a:aw) (b c:Int):cN:=⟨1,b,c,a.vec,[]⟩
def yi (a:aw) (b c:Int):cN:=⟨4,b,c,a.vec,[]⟩
def kN (e:aw) (a:Int) (b:cN) (c:Int):List cN:=
 if b.kind≠1/\b.kind≠2 then []else
 let f:=e.missing b.vec (max 1 (min c 32))
 let h:List cN:=if 0<f.length then [⟨3,a,b.bD,[],f⟩]else []
 let g:=p_ b.vec e.vec
 let i:List cN:=if b.kind=1/\(g=2\/g=3)then [⟨2,a,b.bD,e.vec,[]⟩]else []
 let d:=h++i
 if d.isEmpty then [yi e a b.bD]else d
theorem Ey :(if n<e then n else e)=min e n:=oM
theorem PU {D:Nat->Prop} (k:Row aG 8 b D d a u):
  Calls Tryz.prog 186 #[.slice d a c,.func (.func 185) #[] #[]] b (Ok λi e=>i= .bool (u.any λf=>decide (f<0))/\b=e):=by
 have x:=k.len;have r:=k.dt;unfold aI at r;refine iC (PC.ok (φ:=λi e=>(∃h:Int,i= .int .i64 h/\(0<=h↔(u.any λf=>decide (f<0))=true))/\b=e) (jH ⟨λn h e=>∃g:Nat,h=g/\g<=a/\n=a-g/\((u.take g).any λf=>decide (f<0))=false/\b=e,
  ⟨_,0,rfl,Qj _,rfl,sM,rfl⟩,?_⟩) ?_)
 ·rintro n h _ _ ⟨g,rfl,y,rfl,l,rfl⟩
  refine al.dec (λs=>?_) (λs=>?_)
  ·obtain⟨t,m,o,rfl,p,_,v⟩:=k.kp (i:=g) oM
   refine⟨t,m,rfl,oM,oM,_,v,185,_,_,rfl,kR,PC.ok (φ:=λi e=>i= .bool (decide (o<0))/\b=e) (xR (Ok.mk ⟨rfl,rfl⟩)) ?_⟩;rintro _ _ ⟨rfl,rfl⟩;refine⟨_,rfl,al.dec (λq=>?_) (λq=>?_)⟩
   ·exact Ok.mk ⟨⟨_,rfl,λ_=>List.any_eq_true.2 ⟨o,QZ p,by simpa using q⟩,λ_=>oM⟩,rfl⟩
   ·refine⟨_,oM,g+1,aq oM,oM,rfl,?_,rfl⟩
    rw [Qw,p,List.any_append,l];simp;omega
  ·rw [Qz oM]at l
   exact Ok.mk ⟨⟨_,rfl,λj=>oM,λj=>by rw [l]at j;cases j⟩,rfl⟩
 ·rintro _ _ ⟨⟨h,rfl,w⟩,rfl⟩
  exact⟨_,rfl,Ok.mk ⟨by cases j:(u.any λf=>decide (f<0))<;>simp [j]at w⊢<;>omega,rfl⟩⟩
theorem wO {D:Nat->Prop} (n:Row aG 8 b D d a m.aN) (J:i<4611686018427387904):
  Calls Tryz.prog 114 #[.agg (aB m d a c).toArray,.int .i64 (i:Int)] b (Ok λk l=>k= .int .i64 (cD m i)/\ai b l):=by
 have K:=n.len;have y:=n.dt;unfold aI at y;refine zB (PA.mk λz o L h=>⟨_,ae h rfl,?_⟩);have g:(m.origin<0\/(i:Int)<=m.origin\/min m.seq m.ax<1\/min m.agg m.key<0\/m.aN.length≠i\/m.aN.any (λq=>decide (q<0))=true)->Ok (λk l=>k= .int .i64 (cD m i)/\ai b l) (.returned (.int .i64 1)) z:=λe=>by
  refine Ok.mk ⟨?_,o⟩;unfold cD;rw [if_pos e]
 refine al.dec (λe=>g (.inl e)) λM=>⟨_,ae h rfl,al.dec (λe=>g (.inr (.inl e))) λN=>⟨_,ae h rfl,_,ae h rfl,?_⟩⟩
 rw [Ey];refine al.dec (λe=>g (.inr (.inr (.inl e)))) λO=>⟨_,ae h rfl,_,ae h rfl,?_⟩
 rw [Ey];refine al.dec (λe=>g (.inr (.inr (.inr (.inl e))))) λP=>⟨_,_,_,ae h rfl,al.df (λe=>g (.inr (.inr (.inr (.inr (.inl oM)))))) λQ=>⟨_,_,_,ae h rfl,PC.ok (PU (n.ah o)) ?_⟩⟩
 rintro _ _ ⟨rfl,rfl⟩;refine⟨_,rfl,al.mk (λe=>g (.inr (.inr (.inr (.inr (.inr e)))))) λA=>⟨_,_,_,ae h rfl,_,ae h rfl,?_⟩⟩;obtain⟨B,r,C,rfl,E,R,F⟩:=(n.ah o).kp (i:=m.origin.toNat) oM;have u:¬(m.origin<0\/(i:Int)<=m.origin\/min m.seq m.ax<1\/min m.agg m.key<0\/m.aN.length≠i\/m.aN.any (λq=>decide (q<0))=true):=by
  rw [A];simp only [Bool.false_eq_true,or_false,not_or];omega
 refine⟨B,r,rfl,oM,oM,_,F,_,ae h rfl,λv w=>?_⟩;have H:ai b v:=o.then w.af;have j:=(bd.af (S:=λ_=>False) w).get h id;have x:m.aN.getD m.origin.toNat 0=C:=by rw [QQ,E];rfl
 have f:∀s:Int,cD m i=s->Ok (λk l=>k= .int .i64 (cD m i)/\ai b l) (.returned (.int .i64 s)) v:=λs e=>Ok.mk ⟨by rw [e],H⟩;refine al.df (λe=>f 9 (by unfold cD;rw [if_neg u,x,if_pos e])) λI=>⟨_,ae j rfl,?_⟩
 have t:cD m i=if m.op<1\/5<m.op then 2 else if min m.aT m.field<0\/8<=m.aT\/8<=m.field then 8 else 0:=by
  unfold cD;rw [if_neg u,x,if_neg (by simpa using I)]
 refine al.dec (λe=>f 2 (by rw [t,if_pos (.inl e)])) λS=>⟨_,ae j rfl,al.dec (λe=>f 2 (by rw [t,if_pos (.inr e)])) λT=>⟨_,ae j rfl,_,ae j rfl,?_⟩⟩
 rw [Ey];have p:cD m i=if min m.aT m.field<0\/8<=m.aT\/8<=m.field then 8 else 0:=by rw [t,if_neg oM]
 refine al.dec (λe=>f 8 (by rw [p,if_pos (.inl e)])) λU=>⟨_,ae j rfl,al.dec (λe=>f 8 (by rw [p,if_pos (.inr (.inl e))])) λV=>⟨_,ae j rfl,al.dec (λe=>f 8 (by rw [p,if_pos (.inr (.inr e))])) λW=>f 0 (by rw [p,if_neg oM])⟩⟩
end Go.Proofs.YthnilpgpacdmnaaGreatDoor

import Derived.Test.YtjgjkeponbeekaaGreatDoorKa13
import Derived.Lib.AppendIntMem
import Derived.Laws.Concat
set_option linter.all false
set_option maxHeartbeats 4000000
set_option maxRecDepth 20000
namespace Go.Proofs.YtjgjkeponbeekaaGreatDoor
open Go.ar
def kS:im XP 9 Value.string:=Ww Tryz.underlying9
def mF:lx XP 141 9 236 (.pointer none):=⟨kR,kR⟩
def uF:Tryz.prog.underlying 236=some (.pointer 239):=kR
def an.room(D:an):Int:=(D.most:Int)-D.used
def an.op(D:an)(a:an->Int×an):Int×an:=if D.dies then(15,D.gone)else a D.dG
def an.Pm(b:ByteArray)(a:an->cH->Int×an)(D:an):Int×an:=match aE D.files b with
 |none=>(14,D)
 |some c=>a D c
def an.create(D:an)(a:ByteArray):Int×an:=D.op λD=>if gT a then(if(aE D.files a).isSome then(16,D)else if 64<=D.files.length then(12,D)else(0,D.gy a ⟨[],0,false⟩))else(1,D)
def an.append(D:an)(a:ByteArray)(b:List UInt8):Int×an:=D.op (an.Pm a λD c=>if(b.length:Int)>D.room then(12,D)else(0,D.gy a {c with bytes:=c.bytes++b}))
def an.sync(D:an)(a:ByteArray):Int×an:=D.op (an.Pm a λD b=>(0,D.gy a (b.cut b.bytes.length)))
def an.HB(D:an)(k:ByteArray)(a:Int):Int×an:=D.op (an.Pm k λD b=>(0,D.gy k (b.cut a)))
def an.delete(D:an)(a:ByteArray):Int×an:=D.op (an.Pm a λD b=>(0,D.Cw a))
def an.rename(D:an)(a b:ByteArray):Int×an:=D.op (an.Pm a λD c=>if gT b then(0,(D.Cw a).gy b {c with lO:=true})else(1,D))
def an.read(D:an)(k:ByteArray):List UInt8×Int:=if D.dead then([],15)else match aE D.files k with
 |none=>([],14)
 |some a=>(a.bytes,0)
def an.list(D:an):List ByteArray:=uA (D.files.map (·.1))
def uC(d:World)(e:Nat)(f:Nat->Prop)(a:Int×an)(g:Value)(b:World):Prop:=∃c,g= XH a.1/\aN b e c a.2/\bK f d c b
variable{V n:Array Value}{w:ByteArray}{e:Int}{d5:Int×an}{f7 g9:List (ByteArray×Value)}{a1:List (ByteArray×mU)}{x:List UInt8}{a c i:Nat}{a3 f:Nat->Prop}{d:Option Addr}{j:Type}{v:Value}{b l:World}{y:World->Prop}{a6:cH}
def uC.same{D:an}(c:aN l a f D)(d:ak f b l):uC b a f (e,D) (XH e) l:=⟨f,rfl,c,d,λ_ c=>.inl c⟩
def LD{D:an}(d:aN b a f D){g:FuncId}{body:an->Int×an}(e:enters XP g=true)(h:D.dies=false->∀c,aN c a f D.dG->ak f b c->Calls XP g (n++ #[]++V) c (Ok (uC c a f (body D.dG)))):
  Calls XP 233 #[ZQ a,.func (.func g) n V] b (Ok (uC b a f (D.op body))):=by
 refine Calls.ok (Kf d (e:=(body D.dG).1) (D':=(body D.dG).2) e λi c j k p=>h i c j k) ?_;rintro q r ⟨l,m,s,o⟩;refine⟨l,?_,?_,o⟩
 ·rw[m];unfold an.op;split<;>rfl
 ·unfold an.op;split<;>simp_all
def uE{D:an}(h:aN b a f D){k:ByteArray}{g:FuncId}{body:an->cH->Int×an}(E:enters XP g=true)(F:D.dies=false->∀i m o c,eI i a f D.dG m o->aE o k=some c->ak f b i->Calls XP g (n++ #[ptr c.q]++V) i (Ok (uC i a f (body D.dG c.f)))):
  Calls XP 210 #[ZQ a,.string k,.func (.func g) n V] b (Ok (uC b a f (D.op (an.Pm k body)))):=by
 refine yA (PA.mk λi H W A=>PA.mk λI s X J=>PA.mk λB p Y K=>?_);have t:ai b B:=(H.ah s).ah p;have L:=h.ah t;have u:=h.aB;refine⟨_,ae (p.get (s.get A id) id) rfl,PC.ok (LD L (body:=an.Pm k body) kR λM d C q=>?_) ?_⟩
 ·obtain⟨m,o,j⟩:=C.open
  have N:d.heap[b.heap.size]? =_:=q.get (p.get (s.get A id) id) (λl=>by have:=u _ l;omega);have O:d.heap[i.heap.size]? =_:=q.get (p.get J id) (λl=>by have:=u _ l;omega);have P:d.heap[I.heap.size]? =_:=q.get K (λl=>by have:=u _ l;omega);refine uo ⟨_,ae N rfl,a,0,rfl,some m,ae j.head rfl,_,ae O rfl,?_⟩;rcases j.box k with⟨v,w⟩|⟨c,Q,Z,v,w⟩
  ·refine⟨none,λx=>?_,λr e=>?_⟩
   ·have:=dK mF kS (j.map.af (ak.drewN (S:=λ_=>False) d x) id) k false
    simpa[w]using this
   ·refine zB uF ⟨_,rfl,al.ff rfl (Ok.mk ?_)⟩
    have:an.Pm k body D.dG=(14,D.dG):=by unfold an.Pm;rw[v]
    rw[this];exact uC.same (C.ah e.af) e.af
  ·refine⟨ZX c.q,λx=>?_,λr e=>?_⟩
   ·have:=dK mF kS (j.map.af (ak.drewN (S:=λ_=>False) d x) id) k false
    simpa[w,ptr]using this
   ·refine zB uF ⟨_,rfl,al.tt rfl ⟨_,ae (e.af (S:=λ_=>False)|>.get P id) rfl,g,n,V,rfl,E,?_⟩⟩
    have R:ak f b r:=((t.af (S:=f)).then q).ah e.af;refine PC.ok (F M r m o c (j.ah e.af) Q R) ?_;rintro S w6 ⟨y,rfl,T,z⟩;have:an.Pm k body D.dG=body D.dG c.f:=by unfold an.Pm;rw[v]
    refine⟨_,rfl,Ok.mk ?_⟩;rw[this];exact⟨y,rfl,T,(bK.mk e.af λ_ h=>.inl h:bK f d f r).trans z⟩
 ·rintro S d ⟨y,rfl,U,z⟩
  exact⟨_,rfl,Ok.mk ⟨y,rfl,U,(bK.mk t.af λ_ h=>.inl h:bK f b f B).trans z⟩⟩
def an.Ok.set{D:an}(a:D.Ok){d b:cH}(c:aE D.files w=some d)(e:b.bytes.length+D.used<=d.bytes.length+D.most)(f:b.synced<=b.bytes.length):(D.gy w b).Ok:=by
 have g:=bS c;refine⟨a.most,?_,?_,a.tidy.aI _ _,?_,?_,a.AN,a.AO⟩
 ·have:=xu (l:=D.files) (k:=w) (f:=b)
  rw[c]at this;simp only[Option.map_some,Option.getD_some]at this;show dX (aI D.files w b)<=D.most;unfold an.used at e;omega
 ·show(aI D.files w b).length<=64
  rw[wL (by rw[c];rfl)];exact a.many
 ·intro x j
  rcases fw a.tidy j with rfl|⟨j,_⟩
  ·show gT w=true
   exact a.names _ g
  ·exact a.names x j
 ·intro x j
  rcases fw a.tidy j with rfl|⟨j,_⟩
  ·exact f
  ·exact a.Rh x j
def an.Ok.del{D:an}(a:D.Ok)(b:ByteArray):(D.Cw b).Ok:=by
 have f:=HC D.files b;have g:=xv (l:=D.files) (k:=b);have e:=a.fits;have h:=a.many;unfold an.used at e;exact⟨a.most,by show dX (bV D.files b)<=D.most;omega,by show(bV D.files b).length<=64;omega,a.tidy.bV b,λc d=>a.names c (fN d),λc d=>a.Rh c (fN d),a.AN,a.AO⟩
def an.Ok.put{D:an}(a:D.Ok)(d:gT w=true)(e:a6.bytes.length+D.used<=D.most)(g:D.files.length<64)(f:a6.synced<=a6.bytes.length):(D.gy w a6).Ok:=by
 refine⟨a.most,?_,?_,a.tidy.aI _ _,?_,?_,a.AN,a.AO⟩
 ·have:=xu (l:=D.files) (k:=w) (f:=a6)
  show dX (aI D.files w a6)<=D.most;unfold an.used at e;omega
 ·have:=xh D.files w a6
  show(aI D.files w a6).length<=64;omega
 ·intro c b
  rcases fw a.tidy b with rfl|⟨b,_⟩
  ·exact d
  ·exact a.names c b
 ·intro c b
  rcases fw a.tidy b with rfl|⟨b,_⟩
  ·exact f
  ·exact a.Rh c b
def wN{l:List (ByteArray×j)}{k:ByteArray}(a:(aE l k).isSome=true):(bV l k).length+1=l.length:=by
 induction l with
 |nil=>simp[aE]at a
 |cons b l c=>
  obtain⟨e,f⟩:=b;simp only[bV,aE]at a⊢;split
  ·rfl
  ·rename_i d
   rw[if_neg d]at a;simp[c a]
def Ds(b:List (ByteArray×j))(c:ByteArray)(e d:j):aI (aI b c e) c d=aI b c d:=by
 induction b with
 |nil=>simp[aI]
 |cons f b g=>
  obtain⟨h,i⟩:=f;simp only[aI]
  by_cases a:(c==h)=true
  ·rw[if_pos a,if_pos a];simp[aI]
  ·rw[if_neg a,if_neg a];simp[aI,a,g]
def dJ.RJ{G:Nat->Prop}(d:dJ b a G a6)(e:∀c,dJ c a G {a6 with lO:=true}->ak (·=a) b c->c.heap.size=b.heap.size->y c):PS b ⟨a,0+2,none⟩ (.bool true) y:=by
 obtain⟨k,l,f,m,n,o,p,h⟩:=d.body;refine PS.mk n sM λq i r s=>e q ⟨⟨k,l,f,m,s,o.af i (λj g t=>h (t▸g)),p,h⟩,d.self,λj g=>by have:=d.aB j g;omega⟩ i r
def an.Ok.cut{D:an}(b:D.Ok)(c:aE D.files w=some a6)(a:Int):(D.gy w (a6.cut a)).Ok:=by
 have d:=RI a6 a;have e:=wM a a6.bytes.length;have f:=b.fits;exact b.set c oM (by rw[d];exact Q4 _)
def eI.get{D:an}(e:eI b a f D c a1){d:mU}(g:aE a1 w=some d):aE D.files w=some d.f:=by
 rw[e.files];have:=AQ (λd:mU=>d.f) a1 w;rw[g]at this;exact this
def lj(d:Value)(e:World)(h:ai l b)(c:uC b a f d5 d e):∃g:Int,d= XH g/\Ok (uC l a f d5) (.returned (XH g)) e:=by
 obtain⟨i,rfl,j,k⟩:=c;exact⟨_,rfl,Ok.mk ⟨i,rfl,j,(bK.mk h.af λ_ c=>.inl c:bK f l f b).trans k⟩⟩
def Dt{D:an}(d:aN b a f D){k:ByteArray}:
  Calls XP 172 #[ZQ a,.string k] b (Ok (uC b a f (D.sync k))):=by
 refine uf (PC.ok (uE d (k:=k) (g:=236) (body:=λD g=>(0,D.gy k (g.cut g.bytes.length))) kR λw x y z l c e A=>?_) λm n d=>lj m n (ak.refl b) d);have h:=c.each.each _ (bS e);have i:=c.get e;obtain⟨B,C,o,E,p,q,F,H⟩:=h.body;have r:=q.len dC;refine rE ⟨l.q,0,rfl,_,_,_,ae p rfl,PC.ok (AR h (c.ok.len (bS i))) ?_⟩;rintro _ I ⟨J,rfl,j,s⟩;rw[r]at j;obtain⟨t,u,v⟩:=c.d_ e j s (c.ok.cut i _);exact⟨rfl,Ok.mk ⟨t,rfl,u.at,v⟩⟩
def Pn{D:an}(d:aN b a f D):
  Calls XP 169 #[ZQ a,.string w,XH e] b (Ok (uC b a f (D.HB w e))):=by
 refine wo (PA.mk λv h x j=>PC.ok (uE (d.ah h) (k:=w) (g:=232) (body:=λD k=>(0,D.gy w (k.cut e))) kR λy z A B C c g l=>?_) λm n d=>lj m n h d);have o:=c.each.each _ (bS g);have i:=c.get g;refine th ⟨_,ae (l.get j λp=>by have:=d.aB _ p;omega) rfl,PC.ok (AR o (c.ok.len (bS i))) ?_⟩;rintro _ E ⟨F,rfl,q,r⟩;obtain⟨s,t,u⟩:=c.d_ g q r (c.ok.cut i _);exact⟨rfl,Ok.mk ⟨s,rfl,t.at,u⟩⟩
def xx{D:an}(c:aN b a f D):
  Calls XP 141 #[ZQ a,.string w] b (Ok (uC b a f (D.delete w))):=by
 refine ry (PA.mk λy i z j=>PA.mk λA g B k=>⟨_,ae (g.get j id) rfl,_,ae k rfl,PC.ok (uE ((c.ah i).ah g) (k:=w) (g:=211) (body:=λD C=>(0,D.Cw w)) kR λE o p F H q I l=>?_) λr s c=>lj r s (i.ah g) c⟩);have t:=l.get (g.get j id) λd=>by have:=c.aB _ d;omega
 have u:=l.get k λd=>by have:=c.aB _ d;omega
 refine oQ λv m=>?_;have e:=q.ah m.af;have h:ai o v:=m.af;refine⟨_,ae (h.get t id) rfl,a,0,rfl,some p,ae e.head rfl,w,ae (h.get u id) rfl,Kg mF kS e.map λJ x n K=>Ok.mk ⟨f,rfl,(e.drop x n (e.ok.del w)).at,?_,λ_ c=>.inl c⟩⟩;exact h.af.then (n.mono λL _ d=>by rw[d];exact e.Fr)
def HD{D:an}(e:aN b a f D){k h:ByteArray}:
  Calls XP 182 #[ZQ a,.string k,.string h] b (Ok (uC b a f (D.rename k h))):=by
 refine rD (PA.mk λw1 K s1 L=>PA.mk λX p s2 M=>PA.mk λw3 i s3 Y=>⟨_,ae (i.get (p.get L id) id) rfl,_,ae (i.get M id) rfl,PC.ok (uE (((e.ah K).ah p).ah i) (k:=k) (g:=242)
  (body:=λD Z=>if gT h then(0,(D.Cw k).gy h {Z with lO:=true})else(1,D)) kR λhd t u b1 x g N v=>?_) λa0 w' e=>lj a0 w' ((K.ah p).ah i) e⟩)
 have j:=v.get (i.get (p.get L id) id) λc=>by have:=e.aB _ c;omega
 have w:=v.get (i.get M id) λc=>by have:=e.aB _ c;omega
 have O:=v.get Y λc=>by have:=e.aB _ c;omega
 have y:=bS N;have z:=g.get N;refine oU ⟨_,ae O rfl,PC.ok uG ?_⟩;rintro _ w5 ⟨rfl,A⟩;refine⟨_,rfl,al.not (al.mk (λq=>λw6 a6=>?_) (λq=>Ok.mk ?_))⟩
 ·have l:ai t w6:=A.ah a6.af
  have r:=g.ah l;refine⟨_,ae (l.get j id) rfl,a,0,rfl,some u,ae r.head rfl,_,ae (l.get w id) rfl,Kg mF kS r.map λw7 a7 B b8=>λC E=>?_⟩;have a8:=r.drop a7 B (r.ok.del k);have F:=a8.ah E.af;have P:∀d,d=u->f d:=λd c=>by rw[c];exact g.Fr
  have H:ak f t C:=(l.af.then (B.mono λd _ c=>P d c)).ah E.af;have Q:∀{d:Nat} {R:Obj},t.heap[d]? =some R->b.heap.size<=d->C.heap[d]? =some R:=λc b9=>H.get c λhF=>by have:=e.aB _ hF;omega
  have m:=g.HA _ y;have S:dJ C (mU.q x) (mU.G x) (mU.f x):=(((g.each.each _ y).af l λ_ _ e=>e).af B λd c=>(m d c).2.2).af E.af λ_ _ e=>e;have a1:b.heap.size<=X.heap.size:=oM
  refine⟨_,ae (Q j (Q4 _)) rfl,a,0,rfl,some u,ae F.head rfl,h,ae (Q O a1) rfl,cW mF kS F.map λw9 a9 I c2=>⟨x.q,0,rfl,?_⟩⟩;have b0:=g.ok.fits;have T:=xv (l:=D.dG.files) (k:=k);rw[z]at T;simp only[Option.map_some,Option.getD_some]at T;have b6:=wN (l:=D.dG.files) (k:=k) (by rw[z];rfl);have b7:=g.ok.many;have a2:=g.ok.Rh _ (bS z);have U:∀n:cH,n.bytes=x.f.bytes->n.synced=x.f.synced->((D.dG.Cw k).gy h n).Ok:=λn j w=>(g.ok.del k).put q (by
   show n.bytes.length+dX (bV D.dG.files k)<=D.dG.most;unfold an.used at b0;rw[j];omega) (by show(bV D.dG.files k).length<64;omega) (by rw[j,w];exact a2)
  have b2:=F.put (q:=x.q) (G':=x.G) a9 I S (λa3 hy c3 d c b3=>by
   obtain⟨b4,b5⟩:=Fe g.each.tidy hy;exact g.each.apart _ y a3 b4 (λJ=>b5 J.symm) d c b3) (λd c=>(m d c).2) (U x.f rfl rfl)
  have V:dJ w9 x.q x.G x.f:=S.af I λd c=>(m d c).2.2;refine V.RJ λc4 a4 a5 c0=>Ok.mk ?_;obtain⟨F',o,W⟩:=b2.d_ (k:=h) (x:=⟨x.q,x.G,x.f⟩) (by rw[qT];simp) a4 ⟨a5.mono λd _ c=>c▸V.self,λ_ e=>.inl e⟩ (by
   unfold an.gy;simp only[Ds];exact U {x.f with lO:=true} rfl rfl)
  rw[q,if_pos rfl];have J:((D.dG.Cw k).gy h x.f).gy h {x.f with lO:=true}=(D.dG.Cw k).gy h {x.f with lO:=true}:=by
   unfold an.gy;simp only[Ds]
  refine⟨F',rfl,by rw[<-J];exact o.at,⟨?_,λd c=>?_⟩⟩
  ·exact(H.then (I.mono λd _ c=>P d c)).then (W.af.mono λd _ c=>c.elim id λe=>(m d e).1)
  ·rcases W.new d c with(s|s)|s
   ·exact .inl s
   ·exact .inl (m d s).1
   ·have:=H.size;exact .inr oM
 ·rw[q];exact⟨f,rfl,(g.ah A).at,A.af,λ_ e=>.inl e⟩
def xy{D:an}(c:aN b a f D):
  Calls XP 170 #[ZQ a,.string w] b (Ok (uC b a f (D.create w))):=by
 refine rC (PA.mk λw1 I s1 J=>PA.mk λw2 o s2 O=>⟨_,ae (o.get J id) rfl,PC.ok (LD ((c.ah I).ah o) (g:=234)
  (body:=λD=>if gT w then(if(aE D.files w).isSome then(16,D)else if 64<=D.files.length then(12,D)else(0,D.gy w ⟨[],0,false⟩))else(1,D)) kR λhd s P t=>?_) λQ R c=>lj Q R (I.ah o) c⟩)
 obtain⟨h,u,d⟩:=P.open;have v:=t.get (o.get J id) λe=>by have:=c.aB _ e;omega
 have x:=t.get O λe=>by have:=c.aB _ e;omega
 refine oT ⟨_,ae x rfl,PC.ok uG ?_⟩;rintro _ y ⟨rfl,i⟩;refine⟨_,rfl,al.not (al.mk (λj=>?_) (λj=>Ok.mk ?_))⟩
 ·have z:=d.ah i
  have K:∀m,(Instr.lookup 141 (.map (some h)) (.string w) false).run XP (y.drewN m)= .ok ((aE (u.map dF) w).getD (.pointer none)) (y.drewN m):=λm=>by
   have:=dK mF kS (z.map.af (ak.drewN (S:=λ_=>False) y m) id) w false;simpa using this
  have S:∃k:Option Addr,(aE (u.map dF) w).getD (.pointer none)= .pointer k/\k.isSome=(aE D.dG.files w).isSome:=by
   rcases d.box w with⟨A,B⟩|⟨T,b0,bm,A,B⟩
   ·exact⟨none,by rw[B];rfl,by rw[A];rfl⟩
   ·exact⟨ZX T.q,by rw[B];rfl,by rw[A];rfl⟩
  obtain⟨k,U,C⟩:=S;rw[U]at K;refine⟨_,ae (i.get v id) rfl,a,0,rfl,some h,ae z.head rfl,w,ae (i.get x id) rfl,k,K,k.isSome,λm=>pA uF _ _ k _,λV E=>al.mk (λW=>Ok.mk ?_) (λL=>?_)⟩
  ·rw[j,if_pos rfl,if_pos (by rw[<-C];exact W)]
   exact⟨f,rfl,(z.ah E.af).at,ai.af (i.ah E.af),λ_ c=>.inl c⟩
  ·have p:ai s V:=i.ah E.af
   have F:=d.ah p;have a8:(u.map dF).length=D.dG.files.length:=by rw[d.files];simp
   refine⟨_,ae (p.get v id) rfl,a,0,rfl,some h,ae F.head rfl,TH mF F.map ⟨_,rfl,al.dec (λa9=>Ok.mk ?_) (λb3=>λn X=>?_)⟩⟩
   ·rw[j,if_pos rfl,if_neg (by rw[<-C,L];simp),if_pos oM]
    exact⟨f,rfl,F.at,p.af,λ_ c=>.inl c⟩
   ·have l:ai s n:=p.ah X.af
    have q:=d.ah l;have b4:=d.map.lt;have b5:=ax d.head;have a7:b.heap.size<=s.heap.size:=by have:=t.size;omega
    have M:∀g,b.heap.size<=g->g≠h:=λg e a2=>by have:=c.aB h d.Fr;omega
    refine⟨(·=h),M _ (Q4 _),_,ae (l.get v id) rfl,a,0,rfl,d.pr,some h,ae q.head rfl,M _ oM,w,ae (l.get x id) rfl,PA.mk λN r s7 Y=>⟨r.af,cW mF kS (q.ah r).map λw8 Z H b6=>⟨H,Ok.mk ?_⟩⟩⟩;have a3:=q.ah r;have a0:dJ N n.heap.size (·=n.heap.size) ⟨[],0,false⟩:=⟨⟨none,0,0,λ_=>False,Y,aO.nil N,λ_ c=>c.elim,λc=>c⟩,rfl,λg e=>oM⟩
    have a4:(D.dG.gy w ⟨[],0,false⟩).Ok:=d.ok.put j (by have:=d.ok.fits;simpa using this) oM (Q4 _);have a5:=a3.put (q:=n.heap.size) (G':=(·=n.heap.size)) Z H a0 (λa1 hy _ g e a6=>by have:=(q.each.each a1 hy).aB g a6;omega) (λg e=>by have:=l.size;omega) a4;rw[j,if_pos rfl,if_neg (by rw[<-C,L];simp),if_neg oM];refine⟨_,rfl,a5.at,⟨(l.af.ah r).then (H.mono λg _ e=>by rw[e];exact d.Fr),λg e=>e.imp id λc=>by have:=l.size;omega⟩⟩
 ·rw[j]
  exact⟨f,rfl,(d.ah i).at,i.af,λ_ c=>.inl c⟩
def fW(a:List (ByteArray×mU)):Nat:=(a.map λb=>b.2.f.bytes.length).sum
def Du(a:List (ByteArray×mU)):fW a=dX (a.map uB):=by unfold fW dX;rw[List.map_map];rfl
def wO{left:List (ByteArray×mU)}(e:left.map dF=f7++(w,v)::g9):
  ∃a b c,left=a++(w,b)::c/\f7=a.map dF/\g9=c.map dF/\v=ptr b.q:=by
 obtain⟨a,l,f,g,h⟩:=List.map_eq_append_iff.1 e;obtain⟨i,c,j,d,k⟩:=List.map_eq_cons_iff.1 h;obtain⟨m,b⟩:=i;simp only[dF,Prod.mk.injEq]at d;obtain⟨rfl,rfl⟩:=d;exact⟨a,b,c,by rw[f,j],g.symm,k.symm,rfl⟩
def MY{D:an}(i:aN b a f D):
  Calls XP 239 #[ZQ a] b (Ok λl j=>l= XH D.room/\ai b j):=by
 obtain⟨m,d,e⟩:=i.open;have Q:=e.ok.most;have n:=e.ok.fits;unfold an.used at n;rw[e.files,<-Du]at n;refine uk ⟨a,0,rfl,_,ae e.head rfl,a,0,rfl,some m,ae e.head rfl,mapRange mF e.map λR w x S=>?_⟩;refine⟨λo p j=>∃left:List (ByteArray×mU),cA j b.heap.size m Value.string (d.map dF) (left.map dF)/\o=left.length/\p=(D.most:Int)-fW d+fW left/\fW left<=fW d/\ai b j/\∀c∈left,c∈d,
  ⟨_,d,w,rfl,oM,Q4 _,x,λ_ i=>i⟩,?_⟩
 rintro o p T U ⟨left,y,rfl,rfl,V,q,r⟩;refine mV y (λz=>.inl ⟨rfl,Ok.mk ⟨?_,q⟩⟩) λk l W X s A B C E Y=>.inr ⟨_,_,rfl,qj C ?_⟩
 ·have:left=[]:=by simpa using z
  subst this;simp only[fW,List.map_nil,List.sum_nil,an.room,an.used];rw[e.files,<-Du];simp[fW]
 ·obtain⟨h,c,g,rfl,rfl,rfl,rfl⟩:=wO A
  have F:(k,c)∈d:=r _ sM;have t:ai b s:=q.new E λg Z=>.inr oM;have H:dJ s c.q c.G c.f:=(e.each.each _ F).af t λ_ _ i=>i;obtain⟨I,u,J,F0,K,L,h3,h4⟩:=H.body;have M:=L.len dC;have N:fW (h++(k,c)::g)=fW (h++g)+c.f.bytes.length:=by simp[fW];omega
  have O:IntKind.wrap .i64 ((D.most:Int)-fW d+fW (h++(k,c)::g)-((u:Nat):Int))=(D.most:Int)-fW d+fW (h++g):=by
   rw[wrap_i64 (by unfold aH;omega),M,N];omega
  refine⟨_,_,rfl,c.q,0,rfl,I,u,J,ae K rfl,(h++g).length,sM,h++g,?_,rfl,O,oM,t,λP v=>r P ?_⟩
  ·rw[Q3];exact B
  ·simp only[Q6,Q2]at v⊢;exact v.imp id .inr
def xz{D:an}(h:aN b a f D)(g:Row fv 1 b a3 d c x)(X:d=none->c=0/\i=0)(y:∀e,a3 e->e<b.heap.size/\¬f e):
  Calls XP 178 #[ZQ a,.string w,.slice d c i] b (Ok (uC b a f (D.append w x))):=by
 have L:=g.len;have Y:=g.dN;unfold aK at Y;refine rz (PA.mk λw1 z s1 M=>PA.mk λw2 m s2 Z=>⟨_,ae (m.get M id) rfl,PC.ok (uE ((h.ah z).ah m) (k:=w) (g:=238)
  (body:=λD N=>if(x.length:Int)>D.room then(12,D)else(0,D.gy w {N with bytes:=N.bytes++x})) kR λhd s a0 b6 j k A t=>?_) λa1 w' h=>lj a1 w' (z.ah m) h⟩)
 have e1:=t.get (m.get M id) λg=>by have:=h.aB _ g;omega
 have O:=t.get Z λg=>by have:=h.aB _ g;omega
 have a4:Row fv 1 s a3 d c x:=((g.ah z).ah m).af t λe g=>(y e g).2;have B:=k.get A;refine oR λw4 u=>⟨λ_=>False,id,d,c,i,ae (u.af (S:=λ_=>False)|>.get O id) rfl,_,ae (u.af (S:=λ_=>False)|>.get e1 id) rfl,PC.ok (MY (k.ah u.af).at) ?_⟩
 rintro _ w5 ⟨rfl,P⟩;have C:ai s w5:=(bd.af u).then P;refine⟨_,rfl,P,al.dec (λa5=>Ok.mk ?_) (λa6=>λn a7=>?_)⟩
 ·rw[if_pos (by rw[<-L];exact a5)]
  exact⟨f,rfl,(k.ah C).at,C.af,λ_ h=>.inl h⟩
 ·have o:ai s n:=C.ah a7.af
  have E:=k.ah o;have Q:=bS A;have F:dJ n j.q j.G j.f:=E.each.each _ Q;obtain⟨v,R,fc,F0,H,p,I,S⟩:=F.body;have b7:=p.len dC;have b8:j.f.bytes.length<=262144:=k.ok.len (bS B);have a8:∀e,j.G e->f e/\e≠a/\e≠a0:=E.HA _ Q;refine⟨j.q,0,rfl,v,R,fc,ae H rfl,d,c,i,ae (o.get O id) rfl,?_⟩;have a2:∀e,a3 e->e<n.heap.size/\aF v≠some e:=λe g=>⟨by have:=(y e g).1;have:=t.size;have:=o.size;omega,λl=>(y e g).2 (a8 e (I e (p.self e l))).1⟩
  have b9:D.dG.room<=262144:=by have:=k.ok.most;unfold an.room;omega
  refine yX p sK (a4.ah o) X a2 (by unfold aK;omega) (by unfold maxLen;omega) λq c' w7 F' J K _ T=>?_;have hq:aF v≠some j.q:=λl=>S (p.self _ l);have c0:=ax H;have r:aF q≠some j.q:=λl=>by rcases T _ l with h|h;exact S h;omega
  refine⟨_,_,_,rfl,j.q,0,rfl,PS.mk (K.get H hq) sM λU V s8 g8=>Ok.mk ?_⟩;have W:¬((x.length:Int)>D.dG.room):=by rw[<-L];exact a6
  rw[if_neg W];have a9:∀e,aF v=some e->j.G e:=λe l=>I e (p.self e l);have b0:dJ U j.q (λe=>e=j.q\/aF q=some e) {j.f with bytes:=j.f.bytes++x}:=
   ⟨⟨q,R+c,c',λe=>aF q=some e,g8,J.alone.af V (λe g b1=>r (by rw[<-b1];exact g)),λe g=>.inr g,r⟩,.inl rfl,by
    rintro e (rfl|g)
    ·have:=K.size;omega
    ·have:=J.aB e (J.self e g);omega⟩
  have b2:bK j.G n (λe=>e=j.q\/aF q=some e) U:=⟨(K.mono λe _ g=>a9 e g).then (V.mono λe _ g=>g▸F.self),by
   rintro e (rfl|g)
   ·exact .inl F.self
   ·exact(T e g).imp (λh=>I e h) id⟩
  have b3:(D.dG.gy w {j.f with bytes:=j.f.bytes++x}).Ok:=k.ok.set B (by
   unfold an.room at W;simp only[QX];omega) (by have:=k.ok.Rh _ (bS B);simp only[QX];show j.f.synced<=_;have h':j.f.synced<=j.f.bytes.length:=this;omega)
  obtain⟨F2,b4,b5⟩:=E.d_ A b0 b2 b3;exact⟨F2,rfl,b4.at,(bK.mk o.af λ_ h=>.inl h:bK f s f n).trans b5⟩
def wP{D:an}(i:aN b a f D):
  Calls XP 162 #[ZQ a,.string w] b (Ok λn o=>∃k,n= .tuple #[k,XH (D.read w).2]/\py fv 5 b (D.read w).1 k o):=by
 obtain⟨l,E,d⟩:=i.open;have c:py fv 5 b [] (.slice none 0 0) b:=⟨none,0,0,λ_=>False,rfl,aO.nil b,ak.refl _,λ_ i=>i.elim⟩
 rcases d.box w with⟨h,j⟩|⟨g,F,p,h,j⟩
 ·refine lb ⟨a,0,rfl,some l,ae d.head rfl,yZ mF kS d.map ?_⟩
  rw[j];refine⟨_,rfl,a,0,rfl,_,ae d.head rfl,al.mk (λe=>Ok.mk ?_) (λe=>e_ uF ⟨_,rfl,al.tt rfl (Ok.mk ?_)⟩)⟩
  ·unfold an.read;rw[e,if_pos rfl];exact⟨_,rfl,c⟩
  ·unfold an.read;rw[e,if_neg sM,h];exact⟨_,rfl,c⟩
 ·refine lb ⟨a,0,rfl,some l,ae d.head rfl,yZ mF kS d.map ?_⟩
  rw[j];refine⟨_,rfl,a,0,rfl,_,ae d.head rfl,al.mk (λe=>Ok.mk ?_) (λe=>e_ uF ⟨_,rfl,al.ff rfl ?_⟩)⟩
  ·unfold an.read;rw[e,if_pos rfl];exact⟨_,rfl,c⟩
  ·have q:dJ b g.q g.G g.f:=d.each.each _ p
   obtain⟨r,s,t,H,u,m,I,J⟩:=q.body;have K:g.f.bytes.length<=262144:=d.ok.len (bS h);refine⟨g.q,0,rfl,r,s,t,ae u rfl,PC.ok (kf (m.row dC (by unfold aK;omega)) m.aB) ?_⟩;rintro _ L ⟨v,x,y,z,rfl,A,B,C⟩;unfold an.read;rw[e,if_neg sM,h];exact⟨_,_,_,rfl,Ok.mk ⟨_,rfl,v,x,y,z,rfl,A,B,C⟩⟩
def wQ{D:an}(l:aN b a f D):
  Calls XP 160 #[ZQ a] b (Ok (py MU 9 b D.list)):=by
 obtain⟨i,j,c⟩:=l.open;have A:=c.ok.many;have B:j.length=D.files.length:=by rw[c.files];simp
 refine ug ⟨a,0,rfl,some i,ae c.head rfl,PC.ok (φ:=λm g=>m= .func (.func 282) #[] #[ZQ b.heap.size]/\ai b g/\g.heap.size=b.heap.size+1/\
  g.heap[b.heap.size]? =some (.cells #[.map (some i)] 141 (0,0))) (dq (PA.mk λn d k h=>Ok.mk ⟨rfl,d,k,h⟩)) ?_⟩
 rintro _ n ⟨rfl,d,k,h⟩;refine⟨_,rfl,PC.ok (yJ (c.map.ah d) (λC o=>?_) (by rw[Q8];unfold aK;omega) h) ?_⟩
 ·obtain⟨e,p,rfl⟩:=Xk.1 o
  have:=c.ok.names (uB e) (by rw[c.files];exact Xk.2 ⟨e,p,rfl⟩);unfold gT at this;simp only[QK,decide_eq_true_eq]at this;have E:e.1.size<=16:=this.1.2;show e.1.size<=maxLen;unfold maxLen;omega
 ·rintro _ F ⟨q,r,s,t,rfl,u,v,w⟩
  refine⟨_,_,_,rfl,Ok.mk ⟨q,r,s,t,rfl,?_,d.ah v,λx y=>by have:=w x y;omega⟩⟩;have z:uA ((j.map dF).map (·.1))=D.list:=by unfold an.list;rw[c.files,List.map_map,List.map_map];rfl
  rw[<-z];exact u
def HE{a:List (ByteArray×j)}(b:Tidy a)(c:ByteArray):bV a c=a.filter λd=>d.1 !=c:=by
 induction a with
 |nil=>rfl
 |cons h a g=>
  obtain⟨d,m⟩:=h;unfold Tidy at b g;simp only[QY,List.nodup_cons]at b;unfold bV
  by_cases e:(c==d)=true
  ·rw[if_pos e]
   have i:c=d:=eq_of_beq e;subst i;rw[List.filter_cons_of_neg sM];exact(List.filter_eq_self.2 λk l=>by
    simp only[bne_iff_ne,ne_eq];intro f;exact b.1 (f▸Xk.2 ⟨k,l,rfl⟩)).symm
  ·rw[if_neg e,g b.2,List.filter_cons_of_pos]
   simp only[bne_iff_ne,ne_eq];intro f;exact e (by rw[f];simp)
def stays(left:List (ByteArray×mU))(a:ByteArray×mU):Bool:=a.2.f.lO||left.any λb=>b.1==a.1
def yK(K:bD b a Value.string (a1.map dF))(n:Dr b a1)(L:∀c∈a1,∀e,c.2.G e->e≠a):
  Calls XP 137 #[.map (some a),.func (.func 138) #[] #[]] b
   (Ok λp j=>p= .tuple #[]/\bD j a Value.string ((a1.filter λc=>c.2.f.lO).map dF)/\ak (·=a) b j):=by
 have M:enters XP 138=true:=kR
 refine cM (mapRange mF K λw1 N O s1=>?_);refine⟨λv j=>∃left:List (ByteArray×mU),cA j b.heap.size a Value.string ((a1.filter (stays left)).map dF) (left.map dF)/\v=left.length/\ak (·=a) b j/\(∀c∈left,c∈a1)/\Tidy left,
  ⟨_,a1,?_,rfl,O.af,λ_ P=>P,n.tidy⟩,?_⟩
 ·have k:a1.filter (stays a1)=a1:=List.filter_eq_self.2 λc o=>by
   unfold stays;rw[Bool.or_eq_true];exact .inr (List.any_eq_true.2 ⟨c,o,sM⟩)
  rw[k];exact N
 ·rintro v a0 w2 ⟨left,q,rfl,w,x,l⟩
  refine mV q (λm=>.inl ⟨rfl,Ok.mk ⟨rfl,?_,w⟩⟩) λf p l1 l2 s Q y R S s3=>.inr ⟨_,_,rfl,qj R ?_⟩
  ·have:left=[]:=by simpa using m
   subst this;have k:(a1.filter (stays []))=a1.filter λc=>c.2.f.lO:=List.filter_congr λc _=>by simp[stays]
   rw[k]at q;exact q.map
  ·obtain⟨g,c,e,rfl,rfl,rfl,rfl⟩:=wO Q
   have o:(f,c)∈a1:=x _ sM;have a6:b.heap.size≠a:=q.ne;have t:ak (·=a) b s:=w.new S λe z=>.inr oM;have T:dJ s c.q c.G c.f:=(n.each _ o).af t λe z=>L _ o e z;obtain⟨fa,fn,fc,F0,r,A,h3,h4⟩:=T.body;have B:f∉(g++e).map (·.1):=by
    unfold Tidy at l;rw[Q3,QY]at l;rw[Q3];intro U;have V:=(List.perm_middle (a:=f) (l₁:=g.map (·.1)) (l₂:=e.map (·.1))).nodup_iff.1 l;exact(List.nodup_cons.1 V).1 U
   have C:∀d∈a1,d.1≠f->stays (g++(f,c)::e) d=stays (g++e) d:=λd h i=>by
    unfold stays
    congr 1
    have:(f==d.1)=false:=beq_false_of_ne (Ne.symm i);simp[List.any_append,this]
   have E:∀d∈a1,d.1=f->d=(f,c):=λd h m=>by
    have r:=qh n.tidy (k:=d.1) (v:=d.2) h;have A:=qh n.tidy (k:=f) (v:=c) o;rw[m,A]at r;exact Prod.ext m (XJ r).symm
   have W:(g++e).any (λd=>d.1==f)=false:=by
    rw[List.any_eq_false];intro d h m;exact B (Xk.2 ⟨d,h,eq_of_beq m⟩)
   have F:Tidy (g++e):=by
    unfold Tidy at l⊢;rw[Q3,QY]at l;rw[Q3];exact(List.nodup_cons.1 ((List.perm_middle (a:=f) (l₁:=g.map (·.1)) (l₂:=e.map (·.1))).nodup_iff.1 l)).2
   have H:∀d∈g++e,d∈a1:=λd h=>x d (by simp only[Q6,Q2]at h⊢;exact h.imp id .inr);have I:(g++e).length<(g++(f,c)::e).length:=sM
   refine⟨_,_,rfl,_,_,_,rfl,M,PC.ok (φ:=λp j=>p= .bool (!c.f.lO)/\j=s) (pS ⟨c.q,0,rfl,_,ae r rfl,Ok.mk ⟨rfl,rfl⟩⟩) ?_⟩;rintro _ _ ⟨rfl,rfl⟩;refine⟨_,rfl,al.not (al.mk (λu=>⟨_,I,g++e,?_,rfl,t,H,F⟩) (λu=>?_))⟩
   ·have k:a1.filter (stays (g++(f,c)::e))=a1.filter (stays (g++e)):=List.filter_congr λd h=>by
     by_cases i:d.1=f
     ·rw[E d h i];simp[stays,u]
     ·exact C d h i
    rw[Q3,<-k];exact y
   ·refine Po mF kS y (by rw[<-Q3];simpa[dF,Function.comp_def]using B) λw4 J X s4=>⟨_,I,g++e,?_,rfl,t.then X,H,F⟩
    have k:bV ((a1.filter (stays (g++(f,c)::e))).map dF) f=(a1.filter (stays (g++e))).map dF:=by
     have Y:bV ((a1.filter (stays (g++(f,c)::e))).map dF) f=(bV (a1.filter (stays (g++(f,c)::e))) f).map dF:=(AP (λc:mU=>ptr c.q) _ f).symm;have Z:Tidy (a1.filter (stays (g++(f,c)::e))):=List.Nodup.sublist (List.Sublist.map _ List.filter_sublist) n.tidy;rw[Y,HE Z,List.filter_filter]
     congr 1
     refine List.filter_congr λd h=>?_
     by_cases i:d.1=f
     ·rw[E d h i]
      simp only[stays,u,W,Bool.or_false,bne_self_eq_false,Bool.false_and]
     ·rw[C d h i]
      have:(d.1 !=f)=true:=by simpa using i
      rw[this,Bool.true_and]
    rw[k,<-Q3]at J;exact J
end Go.Proofs.YtjgjkeponbeekaaGreatDoor
namespace Go.ar
open Go
def cx(a:List UInt8):ByteArray:=⟨a.toArray⟩
def vx(a:List UInt8):(cx a).data.toList=a:=by simp[cx]
def Up(a:ByteArray):cx a.data.toList=a:=by simp[cx]
variable{c8 x:List UInt8}{a:Nat}{R W:Operand}{h:Program}{g:TypeId}{p u:Value->World->Prop}{b:World}
def Sw(a:cx x=cx c8):x=c8:=by rw[<-vx x,a,vx]
def ig(a:List UInt8):(cx a).size=a.length:=by simp[cx,ByteArray.size]
def lG(a:ByteArray):Int×Bool:=match iE a.data.toList with
 |some b=>(b,true)
 |none=>(0,false)
def WM{a c:List UInt8}(e:a.length+c.length<=1000000000)(d:p (.string (cx (a++c))) b):
  aG h (do eqGuard .add g R W (.string (cx a)) (.string (cx c));binOp .add g (.string (cx a)) (.string (cx c))) b p u:=by
 refine aG.mk (v:=.string (cx a++cx c)) (w':=b) ?_ ?_
 ·rw[Sem.run_bind,show(eqGuard .add g R W (.string (cx a)) (.string (cx c))).run h b= .ok () b from rfl,Result.andThen_ok,binOp_string_add,run_string_add_sum b (cx a) (cx c) (by rw[ig,ig];omega)]
 have:cx a++cx c=cx (a++c):=by
  apply ByteArray.ext;simp[cx]
 rw[this];exact d
def ai.Sx{c:Array Obj}:ai b (Sort.grow (b.drewN a) c):=
 ⟨rfl,rfl,rfl,sM,λe d _=>by rw[Sort.heap_grow_old _ _ (by simpa using d)];rfl⟩
end Go.ar
namespace Go.Proofs.YtjgjkeponbeekaaGreatDoor
open Go.ar
structure Laid (w:World):Prop where
 oE:pN w
 pow:Lib.TabIs XP w "internal/strconv.uint64pow10" .u64 Lib.pow10Tab
variable{w:ByteArray}{e:Int}{c8 x:List UInt8}{b l:World}
def Laid.ah(a:Laid b)(c:ai b l):Laid l:=⟨a.oE.ah c,Lib.tabBelow_of_tabIs a.pow l c.below⟩
def strconv_Itoa{a:Int}{b:World}(e:Laid b)(c:aH a):Calls XP 213 #[XH a] b (Ok λf d=>f= .string (cx (Lib.itoa a))/\ai b d):=by
 refine(Any.strconv_Itoa Tryz.QB a c.1 c.2 b e.pow).mono ?_;rintro g d ⟨rfl,h,i,rfl⟩;exact Ok.mk ⟨rfl,ai.Sx⟩
def iY(c:Laid b)(d:aH e):Calls XP 146 #[XH e] b (Ok λf g=>f= .string (cx (aA e))/\ai b g):=by
 refine Ap (al.dec (λa=>?_) (λi=>al.dec (λa=>?_) (λj=>PC.ok (strconv_Itoa c d) ?_)))
 ·exact Ok.mk ⟨by unfold aA;rw[if_pos (.inl a)];rfl,ak.refl _⟩
 ·exact Ok.mk ⟨by unfold aA;rw[if_pos (.inr a)];rfl,ak.refl _⟩
 rintro _ k ⟨rfl,h⟩;refine⟨_,rfl,WM (a:=dY) ?_ ⟨_,rfl,Ok.mk ⟨?_,h⟩⟩⟩
 ·have:=vy (u:=e.toNat) oM
  unfold Lib.itoa;rw[if_neg oM];show 4+_<=_;omega
 ·rw[qK oM oM]
  unfold Lib.itoa;rw[if_neg oM]
def BG:Calls XP 324 #[.string (cx x),.string (cx c8)] b (Ok λd e=>d= .bool (decide (x.take c8.length=c8))/\b=e):=by
 refine gE ?_;rw[ig,ig];refine al.dec (λa=>⟨oM,oM,Ok.mk ⟨?_,rfl⟩⟩) (λa=>Ok.mk ⟨?_,rfl⟩)
 ·rw[Qx]
  have c:ByteArray.toList (ByteArray.extract (cx x) 0 c8.length)=x.take c8.length:=by
   rw[ByteArray.toList_eq,ByteArray.data_extract];simp[cx]
  have f:ByteArray.toList (cx c8)=c8:=by rw[ByteArray.toList_eq,vx]
  rw[c,f]
  congr 1
  by_cases a:x.take c8.length=c8<;>simp[a]
 ·have:x.take c8.length≠c8:=λc=>by have:=congrArg List.length c;simp at this;omega
  rw[Xv this]
def CN:Calls XP 224 #[.string (cx x),.string (cx c8)] b (Ok λc d=>c= .tuple (if x.take c8.length=c8 then #[.string (cx (x.drop c8.length)),.bool true]else #[.string (cx x),.bool false])/\b=d):=by
 refine pX (PC.ok (φ:=λc d=>c= .tuple (if x.take c8.length=c8 then #[.string (cx (x.drop c8.length)),.bool true]else #[.string (cx x),.bool false])/\b=d) (gC (PC.ok BG ?_)) ?_)
 ·rintro _ _ ⟨rfl,rfl⟩
  refine⟨_,rfl,?_⟩;rw[ig,ig]
  by_cases a:x.take c8.length=c8
  ·rw[if_pos a,decide_eq_true a]
   have g:c8.length<=x.length:=by have:=congrArg List.length a;simp at this;omega
   refine al.ff rfl ⟨oM,oM,Ok.mk ⟨?_,rfl⟩⟩;have e:ByteArray.extract (cx x) (Int.toNat ((c8.length:Nat):Int)) x.length=cx (x.drop c8.length):=by
    apply ByteArray.ext;rw[Qx,ByteArray.data_extract];have f:List.take (x.length-c8.length) (List.drop c8.length x)=List.drop c8.length x:=Qz sM;simp[cx,f]
   rw[e]
  ·rw[if_neg a,Xv a]
   exact al.tt rfl (Ok.mk ⟨rfl,rfl⟩)
 ·rintro _ _ ⟨rfl,rfl⟩
  split
  ·exact⟨_,_,rfl,Ok.mk ⟨rfl,rfl⟩⟩
  ·exact⟨_,_,rfl,Ok.mk ⟨rfl,rfl⟩⟩
def Ag(z:Laid b):Calls XP 161 #[.string w] b (Ok λm f=>m= .tuple #[XH (lG w).1,.bool (lG w).2]/\ai b f):=by
 rw[<-Up w];generalize w.data.toList=g;have e:(⟨#[115,101,103,46]⟩:ByteArray)=cx dY:=rfl;unfold lG;rw[vx];refine wm ?_;rw[e];refine PC.ok CN ?_;rintro _ _ ⟨rfl,rfl⟩;have no:∀f,iE g=none->ai b f->Ok (λm f=>m= .tuple #[XH (match iE g with|some n=>((n:Int),true)|none=>(0,false)).1,.bool (match iE g with|some n=>((n:Int),true)|none=>(0,false)).2]/\ai b f) (.returned (.tuple #[XH 0,.bool false])) f:=λf q A=>by
  rw[q];exact Ok.mk ⟨rfl,A⟩
 by_cases h:g.take dY.length=dY
 ·rw[if_pos h]
  refine⟨_,_,rfl,al.ff rfl ?_⟩;have r:g=dY++g.drop 4:=by
   have:=List.take_append_drop 4 g;rw[show g.take 4=dY from h]at this;exact this.symm
  change al (decide (((ByteArray.size (cx (g.drop 4)):Nat):Int)>12)) _ _
  generalize S:g.drop 4=c at r;subst r;rw[ig];refine al.dec (λq=>no _ (KW (by rw[QX];show 16<4+_;omega)) (ak.refl _)) (λT=>?_);refine Bb Tryz.underlying9 λU B C V=>⟨λs t f=>∃a,s=c.length-a/\a<=c.length/\t=(dZ (c.take a):Int)/\f.heap[b.heap.size]? =some (.stringIter (cx c) a)/\ai b f/\(c.take a).all ij=true,⟨_,0,rfl,Qj _,rfl,B,C,rfl⟩,?_⟩
  rintro s t W X ⟨a,rfl,Y,rfl,E,i,j⟩;have F:=xf _ j;refine FC E (λH=>.inl ⟨rfl,?_⟩) λe u v k Z=>.inr ⟨_,_,rfl,?_⟩
  ·rw[ig]at H
   rw[Qz oM]at j F⊢;have a0:10 ^ c.length<=10 ^ 12:=Nat.pow_le_pow_right oM oM;have I:(10:Nat) ^ 12=1000000000000:=dC
   refine PC.ok (iY (z.ah i) (by unfold aH;omega)) ?_;rintro _ u ⟨rfl,k⟩;have x:=Gi j oM;refine⟨_,rfl,al.WX (λJ=>no _ ?_ (i.then k)) (λK=>?_)⟩
   ·rw[x,if_neg λL=>J (by rw[L])]
   ·rw[x,if_pos (Sw K)]
    exact Ok.mk ⟨rfl,i.then k⟩
  ·have o:a<c.length:=by rwa [ig]at e
   have l:ai b u:=i.new k λa1 y=>.inr oM;have p:c[a]? =some ((cx c)[a]'e):=by
    rw[Qq o]
    congr 1
   have d:ij ((cx c)[a]'e)=false->iE (dY++c)=none:=λM=>IB (List.all_eq_false.2 ⟨_,QZ p,by simp[M]⟩)
   by_cases y:((cx c)[a]'e).toNat<128
   ·rw[decode_ascii _ a e y]at v⊢
    simp only;refine al.dec (λN=>no _ (d ?_) l) (λO=>al.dec (λP=>no _ (d ?_) l) (λQ=>?_))
    ·unfold ij;exact Xv oM
    ·unfold ij;exact Xv oM
    ·have a2:10 ^(c.take a).length<=10 ^ 12:=Nat.pow_le_pow_right oM (by simp;omega)
     have I:(10:Nat) ^ 12=1000000000000:=dC
     refine⟨_,oM,a+1,rfl,oM,?_,v,l,?_⟩
     ·rw[Qw,p]
      show _=((dZ (c.take a++[_]):Nat):Int);rw[fp];have R:IntKind.wrap .i32 ((((cx c)[a]'e).toNat:Int)-48)=(((cx c)[a]'e).toNat:Int)-48:=by
       unfold IntKind.wrap;simp[IntKind.signed,IntKind.bits];omega
      rw[R,wrap_i64 (x:=(((cx c)[a]'e).toNat:Int)-48) (by unfold aH;omega),wrap_i64 (x:=10*_) (by unfold aH;omega),wrap_i64 (by unfold aH;omega)];omega
     ·rw[Qw,p,List.all_append,j]
      simp[ij];omega
   ·have hh:=(decode_high _ a e oM).1
    refine al.dec (λN=>oM) (λO=>al.dec (λP=>no _ (d ?_) l) (λQ=>oM));unfold ij;exact Xv oM
 ·rw[if_neg h]
  exact⟨_,_,rfl,al.tt rfl (no _ (NQ h) (ak.refl _))⟩
end Go.Proofs.YtjgjkeponbeekaaGreatDoor
namespace Go.Proofs.YtjgjkeponbeekaaGreatDoor
open Go.ar
def Tk:jC XP 42 3 1 8:=⟨kR,kR,dC⟩
def fh(b:List Int)(a:Int):Int:=if a<0 then 0 else max (b.getD a.toNat 0) 0
variable{e m:Int}{a8 t:List Int}{a c i k:Nat}{d r:Option Addr}{b:World}{o:aj}
def SG(b:0<=e)(a:t[e.toNat]? =some m):fh t e=max m 0:=by
 unfold fh;rw[if_neg oM];simp[List.getD,a]
def QS(a:(t.length:Int)<=e):fh t e=0:=by
 unfold fh;split
 ·rfl
 ·have:t[e.toNat]? =none:=by simp;omega
  simp[List.getD,this]
def nu{i:Int}(h:Ints b d a t):
  Calls XP 196 #[.slice d a c,XH i] b (Ok λj k=>j= XH (fh t i)/\b=k):=by
 refine MM ?_;refine al.mk (λf=>?_) (λf=>al.mk (λe=>?_) (λe=>?_))
 ·have:=XV f
  exact Ok.mk ⟨by simp[fh,this],rfl⟩
 ·have e:=XV e
  exact Ok.mk ⟨by rw[QS (by rw[<-h.len];exact e)],rfl⟩
 ·have f:=Xy f
  have e:=Xy e;obtain⟨l,g,m,rfl,p,n,q,o⟩:=h.at (i:=i) oM oM;refine⟨l,g,rfl,oM,oM,m,o,Ok.mk ⟨?_,rfl⟩⟩;rw[SG oM n]
  congr 1
  omega
def pM(b c:List Int)(d:Nat):List Int:=(List.range d).map λ(a:Nat)=>max (fh b a) (fh c a)
def jF(a b:List Int):List Int:=pM a b (max a.length b.length)
def IL(b c:List Int)(a:Nat):pM b c (a+1)=pM b c a++[max (fh b a) (fh c a)]:=by simp[pM,List.range_succ]
def sd(b c:List Int)(a:Nat):(pM b c a).length=a:=by simp[pM]
def Gm(b:World)(g:TypeId)(h:List Int)(i:Value)(c:World):Prop:=
 ∃a d e,i= .slice a d e/\Own c g 1 a d e (ints h)/\ai b c/\∀f,aF a=some f->b.heap.size<=f
def SH:(if m>e then m else e)=max e m:=oM
def Ad(l:Ints b d a t)(e:Ints b r c a8):
  Calls XP 192 #[.slice d a i,.slice r c k] b (Ok (Gm b 3 (jF t a8))):=by
 have w:=l.len;have x:=e.len;have y:=l.dN;have z:=e.dN;unfold aK at y z;refine JV ⟨λp m f q s u=>s=(f:Int)/\f<=max a c/\p=max a c-f/\Own u 3 1 m f q (ints (pM t a8 f))/\ai b u/\∀r,aF m=some r->b.heap.size<=r,
  ⟨_,rfl,oM,rfl,Own.nil _ _ _,ak.refl _,by simp[aF]⟩,?_⟩
 rintro p m f q s _ E ⟨rfl,F,rfl,v,g,n⟩;refine al.mk (λh=>?_) (λh=>?_)
 ·have h:=XV h
  refine PC.ok (nu (l.ah g)) ?_;rintro _ _ ⟨rfl,rfl⟩;refine⟨_,rfl,PC.ok (nu (e.ah g)) ?_⟩;rintro _ _ ⟨rfl,rfl⟩;refine⟨_,rfl,PA.mk λH o I A=>?_⟩;refine Lm Tk (v.ah o) A (by unfold aK;omega) λJ K L B C j=>?_;refine⟨_,_,_,rfl,_,?_,?_,oM,rfl,?_,(g.ah o).new C ?_,?_⟩
  ·omega
  ·rw[wrap_i64 (by unfold aH;omega)];simp
  ·rw[IL,<-SH];exact B
  ·intro r e;exact .inr (n r e.symm)
  ·intro r e
   rcases j with j|j
   ·exact n r (j▸e)
   ·rw[j]at e;cases e;have:=g.size;have:=o.size;omega
 ·have h:=Xy h
  have:f=max a c:=oM
  subst this;refine Ok.mk ⟨_,_,_,rfl,?_,g,n⟩;unfold jF;rw[<-w,<-x];exact v
def xV(a b:List Int):Nat->Int
 |0=>0
 |k+1=>if fh a k<fh b k then Oe .i64 (xV a b k) 1 else if fh a k>fh b k then Oe .i64 (xV a b k) 2 else xV a b k
def lA(a b:List Int):Int:=xV a b (max a.length b.length)
def Me(j:Ints b d a t)(l:Ints b r c a8):
  Calls XP 193 #[.slice d a i,.slice r c k] b (Ok λs m=>s= XH (lA t a8)/\b=m):=by
 have u:=j.len;have v:=l.len;have w:=j.dN;have x:=l.dN;unfold aK at w x;refine ML ⟨λo p q m=>∃e:Nat,q=e/\e<=max a c/\o=max a c-e/\p=xV t a8 e/\m=b,
  ⟨_,0,rfl,oM,rfl,rfl,rfl⟩,?_⟩
 rintro o p q _ y ⟨e,rfl,z,rfl,rfl,rfl⟩;refine al.mk (λh=>?_) (λh=>?_)
 ·have h:=XV h
  refine PC.ok (nu j) ?_;rintro _ _ ⟨rfl,rfl⟩;refine⟨_,rfl,PC.ok (nu l) ?_⟩;rintro _ _ ⟨rfl,rfl⟩;have n:IntKind.wrap .i64 ((e:Int)+1)=((e+1:Nat):Int):=by rw[wrap_i64 (by unfold aH;omega)];simp
  refine⟨_,rfl,al.mk (λf=>?_) (λf=>al.mk (λg=>?_) (λg=>?_))⟩
  ·have f:=XV f
   exact⟨_,oM,e+1,n,oM,rfl,by simp[xV,f],rfl⟩
  ·have f:=Xy f
   have g:=XV g;exact⟨_,oM,e+1,n,oM,rfl,by simp[xV,f,g],rfl⟩
  ·have f:=Xy f
   have g:=Xy g;exact⟨_,oM,e+1,n,oM,rfl,by simp[xV,f,g],rfl⟩
 ·have h:=Xy h
  have:e=max a c:=oM
  subst this;exact Ok.mk ⟨by unfold lA;rw[<-u,<-v],rfl⟩
structure jE where
 bw:Int
 ng:Int
 kD:Int
 least:Int
 deriving DecidableEq
structure bf where
 kind:Int
 dI:Int
 floor:Bool
 bq:List jE
 deriving DecidableEq
structure iP where
 aS:Int
 field:Int
 group:Int
 Ek:Int
 make:Int
 deriving DecidableEq
structure aM where
 types:List (List bf)
 projs:List iP
 deriving DecidableEq
structure lF where
 aS:Int
 agg:Int
 field:Int
 op:Int
 arg:Int
 expect:Int
 key:Int
 deriving DecidableEq
structure cD where
 n:Int
 set:List Int
 deriving DecidableEq
structure lS where
 version:Int
 cells:List cD
 deriving DecidableEq
structure cy where
 ev:aj
 void:Bool
 Ek:Int×Int
structure di where
 group:Int
 value:Int
 count:Int
 deriving DecidableEq
abbrev oD(a:Int):Int:=IntKind.wrap .i64 a
def within(a b c:Int):Bool:=decide (b<=a)&&decide (a<=c)
def aM.at(a:aM)(b:Int):List bf:=if within b 0 (a.types.length-1)then a.types.getD b.toNat []else []
def aM.CI(a:aM)(b c:Int):Option bf:=
 if within b 0 (a.types.length-1)&&within c 0 ((a.at b).length-1)then(a.at b)[c.toNat]? else none
def qt(a:Int):Int:=if a=1 then 1 else if a=2 then 2 else if a=3 then 3 else if a=4 then 3 else if a=5 then 4 else 0
def ks(b:aM)(c d op arg:Int):Int:=match b.CI c d with
 |none=>8
 |some a=>if !within op 1 5||qt op !=a.kind then 2 else if op==1&&arg==0||op==5&& !within arg 0 (a.bq.length-1)then 1 else 0
def qF(a:aM):Bool:=
 if !within a.types.length 1 8||decide (8<a.projs.length)then true else
 a.types.any λc=>!within c.length 1 8||c.any λb=>if b.kind==4 then !within b.bq.length 1 16 else decide (0<b.bq.length)
def Rf(b:List bf)(c a:Int):Bool:=within c 0 (b.length-1)&&((b[c.toNat]?).map (·.kind)==some a)
def Ud(a b:Int):Bool:=b==1||b==2&&within a 2 4||b==3&&a==2
def eU(a:List bf)(f:bf):Int:=
 if !within f.kind 1 4 then 2 else if !within f.dI 1 3|| !Ud f.kind f.dI||f.floor&&f.kind !=1 then 1 else
 if f.bq.any λm=>decide (m.bw<0)||decide (m.ng<0)||m.kD== -1&&m.least !=0 then 1 else
 if f.bq.any λm=>m.kD != -1&& !Rf a m.kD 1 then 8 else 0
def lv(b:aM)(a:iP):Int:=
 if(b.CI a.aS a.field).isNone then 8 else
 if a.group==3&& !Rf (b.at a.aS) a.Ek 2||a.group !=3&&a.Ek !=0 then 8 else
 if !within a.group 1 3|| !within a.make 1 5 then 2 else 0
def cj{b:Type}(a:b->Int):List b->Int
 |[]=>0
 |x::c=>if a x !=0 then a x else cj a c
def cN(a:aM):Int:=
 if qF a then 3 else
 let b:=cj (λc=>cj (eU c) c) a.types
 if b !=0 then b else cj (lv a) a.projs
def aW(a:aj):Int×Int:=(a.origin,a.seq)
def dQ(a b:aj):Bool:=decide (a.ay<b.ay)||a.ay==b.ay&&(decide (a.origin<b.origin)||a.origin==b.origin&&decide (a.seq<b.seq))
def rX(a b:aj):Int:=if dQ a b then-1 else if dQ b a then 1 else 0
def cK(a:aj)(b:Nat):Int:=
 if a.origin<0\/(b:Int)<=a.origin\/min a.seq a.ay<1\/min a.agg a.key<0\/a.aP.length≠b\/a.aP.any (λc=>decide (c<0))then 1 else
 if a.aP.getD a.origin.toNat 0≠oD (a.seq-1)then 9 else
 if a.op<1\/5<a.op then 2 else if min a.aS a.field<0\/8<=a.aS\/8<=a.field then 8 else 0
def AI(a b:aj):Bool:=decide (a.seq<=fh b.aP a.origin)
def uz(a b:aj):Bool:=aW a !=aW b&& !AI a b&& !AI b a
structure aw where
 n:Nat
 l:List aj
def dd(a:aj):List aj->List aj
 |[]=>[a]
 |x::b=>if dQ a x then a::x::b else x::dd a b
def aw.EA(a:aw)(b:Nat):Nat:=a.l.countP λc=>c.origin==(b:Int)
def aw.vec(a:aw):List Int:=(List.range a.n).map λb=>(a.EA b:Int)
def aw.get(a:aw)(id:Int×Int):Option aj:=a.l.find? λb=>aW b==id
def aw.top(a:aw):Int:=a.l.foldl (λb c=>max b c.ay) 0
def aw.ly(f:aw)(a:aj)(c:Nat):Bool:=
 let d:=a.aP.getD c 0
 d==0||match f.get (c,d)with
  |none=>false
  |some b=>decide (b.ay<a.ay)&&(List.range b.aP.length).all λe=>decide (b.aP.getD e 0<=a.aP.getD e 0)
def aw.add(a:aw)(b:aj):Int×aw:=
 let no:=cK b a.n
 if no≠0 then(no,a)else
 if(a.get (aW b)).isSome then(16,a)else
 if b.seq≠(a.vec.getD b.origin.toNat 0)+1 then(9,a)else
 if(List.range a.n).any λc=>!a.ly b c then(9,a)else(0,{a with l:=dd b a.l})
def aw.fr(a:aw)(l:List aj):aw:=l.foldl (λa b=>(a.add b).2) a
def aw.missing(c:aw)(d:List Int)(a:Int):List aj:=(c.l.filter λb=>decide (max 0 (fh d b.origin)<b.seq)).take (max 0 a).toNat
def aw.keyed(a:aw)(key:Int):Option aj:=a.l.find? λb=>key !=0&&b.key==key
def du(a:List bf):List cD:=a.map λ_=>⟨0,[]⟩
def Lq(a b:Int):Bool:=decide (a<oD (a+b))==decide (0<b)
def vJ(g:List bf)(e:List cD)(a d arg:Int):Int:=
 let f:=g.getD a.toNat ⟨0,0,false,[]⟩
 let b:=e.getD a.toNat ⟨0,[]⟩
 let h:Bool:=
  if d=1 then(arg==0||Lq b.n arg)&& !(f.floor&&decide (oD (b.n+arg)<0))
  else if d=3 then decide (arg∈b.set)||decide (b.set.length<64)
  else if d=5 then(let c:=f.bq.getD arg.toNat ⟨0,0,0,0⟩;b.n==c.bw&&(decide (c.kD<0)||decide (c.least<=(e.getD c.kD.toNat ⟨0,[]⟩).n)))
  else true
 if h then 0 else 10
def pB(a:Int):List Int->List Int
 |[]=>[a]
 |y::b=>if a<y then a::y::b else if a=y then y::b else y::pB a b
def Rr(e:List bf)(c:List cD)(a d arg:Int):List cD:=
 let f:=e.getD a.toNat ⟨0,0,false,[]⟩
 let b:=c.getD a.toNat ⟨0,[]⟩
 if d=1 then c.set a.toNat {b with n:=oD (b.n+arg)}
 else if d=2 then c.set a.toNat {b with n:=arg}
 else if d=3 then c.set a.toNat {b with set:=pB arg b.set}
 else if d=4 then c.set a.toNat {b with set:=b.set.filter λg=>g !=arg}
 else if d=5 then c.set a.toNat {b with n:=(f.bq.getD arg.toNat ⟨0,0,0,0⟩).ng}
 else c
def dW(c:bf)(a b:Int×Int):Bool:=
 if c.kind=2 then a.1==2&&b.1==2&&a !=b
 else if c.kind=4 then a.1==5&&b.1==5&&a !=b
 else if c.kind=3 then a==(3,b.2)&&b==(4,a.2)||a==(4,b.2)&&b==(3,a.2)
 else false
def lN(f:bf)(a b:aj):Bool:=(f.dI==2||f.dI==3&&decide (b.arg<a.arg))&&dW f (a.op,a.arg) (b.op,b.arg)&&uz a b
structure aU where
 decl:aM
 entries:List cy
 dP:List ((Int×Int)×lS)
 done:List ((Int×Int×Int)×List aj)
def aU.new(a:aM):aU:=⟨a,[],[],[]⟩
def aU.try(b:aU)(a:aj):Bool×(Int×Int)×aU:=
 if ks b.decl a.aS a.field a.op a.arg≠0 then(true,(0,0),b)else
 let e:=b.decl.at a.aS
 let d:=(a.aS,a.agg,a.field)
 match((aE b.done d).getD []).find? λg=>lN (e.getD a.field.toNat ⟨0,0,false,[]⟩) g a with
 |some g=>(true,aW g,b)
 |none=>
  let f:=aE b.dP (a.aS,a.agg)
  let c:=match f with
   |some f=>f.cells
   |none=>du e
  if vJ e c a.field a.op a.arg≠0 then(true,(0,0),b)else
  (false,(0,0),{b with
   dP:=aI b.dP (a.aS,a.agg) ⟨oD ((f.getD ⟨0,[]⟩).version+1),Rr e c a.field a.op a.arg⟩
   done:=aI b.done d ((aE b.done d).getD []++[a])})
def aU.add(d:aU)(b:aj):cy×aU:=
 let a:=d.try b
 let c:cy:=⟨b,a.1,a.2.1⟩
 (c,{a.2.2 with entries:=a.2.2.entries++[c]})
def aU.state(a:aU)(b c:Int):Option lS:=aE a.dP (b,c)
def cm(a:aM)(b:List aj):aU:=b.foldl (λc d=>(c.add d).2) (aU.new a)
def jO(d:List cy)(e b f:Int)(a:Nat):List cy×Bool:=
 let own:=(d.filter λc=>c.ev.aS==e&&c.ev.agg==b).drop (max f 0).toNat
 (own.take a,decide (a<own.length))
def nd(d:List di)(a:Int)(b:Nat):List di×Bool:=
 let c:=d.dropWhile λe=>decide (e.group<=a)
 (c.take b,decide (b<c.length))
def iV(b:aM)(a:lF):Int:=if a.agg<0\/a.key<0\/a.expect< -1 then 1 else ks b a.aS a.field a.op a.arg
def aQ(b:lF)(a:Int)(c:List Int)(d:Int):Int×aj:=
 let no:aj:=⟨0,0,0,[],0,0,0,0,0,0⟩
 if a<0\/(c.length:Int)<=a\/d<0 then(1,no)else
 if fh c a=9223372036854775807\/d=9223372036854775807 then(13,no)else
 (0,⟨a,fh c a+1,d+1,jF c [],b.aS,b.agg,b.field,b.op,b.arg,b.key⟩)
def qG(f:aM)(d:aw)(j:aU)(b start:Int)(a:lF):aj×Bool×Int:=
 let no:aj:=⟨0,0,0,[],0,0,0,0,0,0⟩
 let g:=iV f a
 if g≠0 then(no,false,g)else
 match d.keyed a.key with
 |some k=>(k,false,0)
 |none=>
  let h:=f.at a.aS
  let i:=j.state a.aS a.agg
  let c:=match i with
   |some l=>l.cells
   |none=>du h
  if¬(a.expect= -1\/a.expect=(i.getD ⟨0,[]⟩).version)then(no,false,11)else
  if vJ h c a.field a.op a.arg≠0 then(no,false,10)else
  let e:=aQ a b d.vec (max d.top start)
  (e.2,decide (e.1=0),e.1)
structure de where
 p:iP
 rows:List (Int×di)
def lu(a:iP)(b:di)(arg:Int):Int:=
 if a.make=1 then b.count else if a.make=2 then oD (b.value+arg)else
 if a.make=5\/b.count=1/\(a.make=3\/a.make=4)then arg else
 if a.make=3 then min b.value arg else if a.make=4 then max b.value arg else 0
def de.add(a:de)(e:cy)(d:Int):de:=
 let c:=if a.p.group=1 then some e.ev.agg else if a.p.group=2 then some e.ev.arg else if a.p.group=3 then some d else none
 match c with
 |none=>a
 |some c=>
  if e.void||e.ev.aS !=a.p.aS||e.ev.field !=a.p.field then a else
  let b:=(aE a.rows c).getD ⟨0,0,0⟩
  let b:di:=⟨c,b.value,oD (b.count+1)⟩
  {a with rows:=aI a.rows c ⟨c,lu a.p b e.ev.arg,b.count⟩}
def lY(a:di):List di->List di
 |[]=>[a]
 |y::b=>if a.group<y.group then a::y::b else y::lY a b
def de.list(a:de):List di:=(a.rows.map (·.2)).foldr lY []
structure jB where
 view:aU
 rows:List de
def jB.new(a:aM):jB:=⟨aU.new a,a.projs.map λb=>⟨b,[]⟩⟩
def rW(a:Option lS)(b:iP):Int:=match a with
 |none=>0
 |some a=>((a.cells[b.Ek.toNat]?).map (·.n)).getD 0
def jB.add(c:jB)(a:aj):jB:=
 let b:=c.view.add a
 let e:=b.2.state a.aS a.agg
 ⟨b.2,c.rows.map λd=>d.add b.1 (rW e d.p)⟩
def dE(a:aM)(b:List aj):jB:=b.foldl jB.add (jB.new a)
def eO(a:Nat)(b:List aj)(c:aj):Bool×List aj:=
 if a<=b.length\/b.any (λd=>aW d==aW c)then(false,b)else(true,dd c b)
def eC(a:aw):List aj->Option (aj×aw×List aj)
 |[]=>none
 |e::c=>if(a.add e).1=0 then some (e,(a.add e).2,c)else(eC a c).map λb=>(b.1,b.2.1,e::b.2.2)
def dR:Nat->aw->List aj->List aj->List aj×List aj
 |0,c,b,a=>(a,b)
 |k+1,c,b,a=>match eC c b with
  |none=>(a,b)
  |some (d,e,f)=>dR k e f (a++[d])
def bt(b:aw)(a:List aj):List aj×List aj:=
 let a:=a.filter λc=>(b.get (aW c)).isNone
 dR (a.length+1) b a []
structure bR where
 kind:Int
 bw:Int
 ng:Int
 vec:List Int
 events:List aj
def gj(a:bR)(b:Int):Int:=if 0<a.events.length then 8 else if(a.vec.length:Int)≠b then 1 else if a.vec.any (λc=>decide (c<0))then 1 else 0
def eN(b:bR)(c:Nat)(a:Int):Int:=if 0<b.vec.length then 8 else if b.events.length<1\/a<(b.events.length:Int)then 3 else cj (λd=>cK d c) b.events
def fl(m:bR)(c:Nat)(b:Int):Int:=
 let a:=!(decide (0<=m.bw)&&decide (m.bw<c))|| !(decide (0<=m.ng)&&decide (m.ng<c))||m.bw==m.ng
 if m.kind=3 then(if a then 1 else eN m c b)
 else if m.kind=1\/m.kind=2\/m.kind=4 then(if a then 1 else gj m c)
 else 2
def jM(a:aw)(b c:Int):bR:=⟨1,b,c,a.vec,[]⟩
def yP(a:aw)(b c:Int):bR:=⟨4,b,c,a.vec,[]⟩
def kY(e:aw)(a:Int)(b:bR)(c:Int):List bR:=
 if b.kind≠1/\b.kind≠2 then []else
 let f:=e.missing b.vec (max 1 (min c 32))
 let h:List bR:=if 0<f.length then [⟨3,a,b.bw,[],f⟩]else []
 let g:=lA b.vec e.vec
 let i:List bR:=if b.kind=1/\(g=2\/g=3)then [⟨2,a,b.bw,e.vec,[]⟩]else []
 let d:=h++i
 if d.isEmpty then [yP e a b.bw]else d
def Fu:(if m<e then m else e)=min e m:=oM
def RL{D:Nat->Prop}(k:Row aJ 8 b D d a t):
  Calls XP 184 #[.slice d a c,.func (.func 183) #[] #[]] b (Ok λi e=>i= .bool (t.any λf=>decide (f<0))/\b=e):=by
 have x:=k.len;have r:=k.dN;unfold aK at r;refine iW (PC.ok (φ:=λi e=>(∃h:Int,i= XH h/\(0<=h↔(t.any λf=>decide (f<0))=true))/\b=e) (jZ ⟨λn h e=>∃g:Nat,h=g/\g<=a/\n=a-g/\((t.take g).any λf=>decide (f<0))=false/\b=e,
  ⟨_,0,rfl,Qj _,rfl,sM,rfl⟩,?_⟩) ?_)
 ·rintro n h _ _ ⟨g,rfl,y,rfl,l,rfl⟩
  refine al.dec (λs=>?_) (λs=>?_)
  ·obtain⟨u,m,o,rfl,p,_,v⟩:=k.l_ (i:=g) oM
   refine⟨u,m,rfl,oM,oM,_,v,183,_,_,rfl,kR,PC.ok (φ:=λi e=>i= .bool (decide (o<0))/\b=e) (yy (Ok.mk ⟨rfl,rfl⟩)) ?_⟩;rintro _ _ ⟨rfl,rfl⟩;refine⟨_,rfl,al.dec (λq=>?_) (λq=>?_)⟩
   ·exact Ok.mk ⟨⟨_,rfl,λ_=>List.any_eq_true.2 ⟨o,QZ p,by simpa using q⟩,λ_=>oM⟩,rfl⟩
   ·refine⟨_,oM,g+1,aq oM,oM,rfl,?_,rfl⟩
    rw[Qw,p,List.any_append,l];simp;omega
  ·rw[Qz oM]at l
   exact Ok.mk ⟨⟨_,rfl,λj=>oM,λj=>by rw[l]at j;cases j⟩,rfl⟩
 ·rintro _ _ ⟨⟨h,rfl,w⟩,rfl⟩
  exact⟨_,rfl,Ok.mk ⟨by cases j:(t.any λf=>decide (f<0))<;>simp[j]at w⊢<;>omega,rfl⟩⟩
def xB{D:Nat->Prop}(m:Row aJ 8 b D d a o.aP)(J:i<4611686018427387904):
  Calls XP 113 #[.agg (aC o d a c).toArray,XH (i:Int)] b (Ok λk l=>k= XH (cK o i)/\ai b l):=by
 have K:=m.len;have y:=m.dN;unfold aK at y;refine Ax (PA.mk λz n L h=>⟨_,ae h rfl,?_⟩);have g:(o.origin<0\/(i:Int)<=o.origin\/min o.seq o.ay<1\/min o.agg o.key<0\/o.aP.length≠i\/o.aP.any (λq=>decide (q<0))=true)->Ok (λk l=>k= XH (cK o i)/\ai b l) (.returned (XH 1)) z:=λe=>by
  refine Ok.mk ⟨?_,n⟩;unfold cK;rw[if_pos e]
 refine al.dec (λe=>g (.inl e)) λM=>⟨_,ae h rfl,al.dec (λe=>g (.inr (.inl e))) λN=>⟨_,ae h rfl,_,ae h rfl,?_⟩⟩
 rw[Fu];refine al.dec (λe=>g (.inr (.inr (.inl e)))) λO=>⟨_,ae h rfl,_,ae h rfl,?_⟩
 rw[Fu];refine al.dec (λe=>g (.inr (.inr (.inr (.inl e))))) λP=>⟨_,_,_,ae h rfl,al.dB (λe=>g (.inr (.inr (.inr (.inr (.inl oM)))))) λQ=>⟨_,_,_,ae h rfl,PC.ok (RL (m.ah n)) ?_⟩⟩
 rintro _ _ ⟨rfl,rfl⟩;refine⟨_,rfl,al.mk (λe=>g (.inr (.inr (.inr (.inr (.inr e)))))) λA=>⟨_,_,_,ae h rfl,_,ae h rfl,?_⟩⟩;obtain⟨B,r,C,rfl,E,R,F⟩:=(m.ah n).l_ (i:=o.origin.toNat) oM;have u:¬(o.origin<0\/(i:Int)<=o.origin\/min o.seq o.ay<1\/min o.agg o.key<0\/o.aP.length≠i\/o.aP.any (λq=>decide (q<0))=true):=by
  rw[A];simp only[Bool.false_eq_true,or_false,not_or];omega
 refine⟨B,r,rfl,oM,oM,_,F,_,ae h rfl,λv w=>?_⟩;have H:ai b v:=n.then w.af;have j:=(bd.af (S:=λ_=>False) w).get h id;have x:o.aP.getD o.origin.toNat 0=C:=by rw[QQ,E];rfl
 have f:∀s:Int,cK o i=s->Ok (λk l=>k= XH (cK o i)/\ai b l) (.returned (XH s)) v:=λs e=>Ok.mk ⟨by rw[e],H⟩;refine al.dB (λe=>f 9 (by unfold cK;rw[if_neg u,x,if_pos e])) λI=>⟨_,ae j rfl,?_⟩
 have t:cK o i=if o.op<1\/5<o.op then 2 else if min o.aS o.field<0\/8<=o.aS\/8<=o.field then 8 else 0:=by
  unfold cK;rw[if_neg u,x,if_neg (by simpa using I)]
 refine al.dec (λe=>f 2 (by rw[t,if_pos (.inl e)])) λS=>⟨_,ae j rfl,al.dec (λe=>f 2 (by rw[t,if_pos (.inr e)])) λT=>⟨_,ae j rfl,_,ae j rfl,?_⟩⟩
 rw[Fu];have p:cK o i=if min o.aS o.field<0\/8<=o.aS\/8<=o.field then 8 else 0:=by rw[t,if_neg oM]
 refine al.dec (λe=>f 8 (by rw[p,if_pos (.inl e)])) λU=>⟨_,ae j rfl,al.dec (λe=>f 8 (by rw[p,if_pos (.inr (.inl e))])) λV=>⟨_,ae j rfl,al.dec (λe=>f 8 (by rw[p,if_pos (.inr (.inr e))])) λW=>f 0 (by rw[p,if_neg oM])⟩⟩
end Go.Proofs.YtjgjkeponbeekaaGreatDoor

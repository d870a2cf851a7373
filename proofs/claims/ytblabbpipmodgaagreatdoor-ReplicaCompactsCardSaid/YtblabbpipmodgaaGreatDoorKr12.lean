import Derived.Test.YtblabbpipmodgaaGreatDoorKr11
import Derived.RangeFuncSeq
import Derived.RangeFuncLeaves
set_option maxHeartbeats 4000000
set_option linter.all false
set_option maxRecDepth 20000
open Go.IntKind renaming wrap→ZG
namespace Go.Proofs.YtblabbpipmodgaaGreatDoor
open Go.aw
variable{y:FuncId}{e:Int}{d2:Int×ak}{s:List Int}{v:List UInt8}{B:List ah}{a c i:Nat}{a4 f:ZN}{d:YQ}{m:ZR}{b k:World}{x:ZU}{l:ah}{W:bP}
def ck{D:ZN}(h:Row aM 8 b D d a s)(g:∀P,D P->P<b.heap.size):
  YX 102 #[.slice d a c] b (Ok (pC aM 3 b s)):=by
 have x:=h.len;have e:=h.dO;refine nR (j_ sj.under ⟨_,rfl,al.mk (λf=>?_) (λf=>PA.mk λk i y l=>?_)⟩)
 ·have:s=[]:=by
   cases d with
   |none=>
    cases s with
    |nil=>rfl
    |cons m z=>obtain⟨P,n,A,o,_⟩:=h.el 0 m rfl;cases o
   |some p=>cases f
  subst this;exact Ok.mk ⟨none,0,0,λ_=>False,rfl,aU.nil b,aj.refl _,λ_ h=>h.elim⟩
 ·cases d with
  |none=>cases f
  |some p=>
   have q:aU aM 3 (·=b.heap.size) k (ZM b.heap.size) 0 0 []:=
    ⟨⟨[],λ_=>False,Own.zO (cur:= #[]) l rfl (Qj _),rfl,λ_ h=>h.elim⟩,λP e=>by simpa[aH]using e.symm,λP e=>oM⟩
   refine kK q sj (D:=D) (h.af i) (λP e=>⟨by have:=g P e;omega,by have:=g P e;simp only[aH];intro r;cases r;omega⟩) bc (by unfold aO at e;unfold maxLen;simp;omega) λj t B C u v _ w=>?_;refine⟨_,_,_,rfl,Ok.mk ⟨j,_,t,λP=>aH j=some P,rfl,by have h:=u.alone;rw[List.nil_append]at h;exact h,i.new v λP e=>.inr ?_,λP e=>?_⟩⟩
   ·simp only[aH,Q1]at e;omega
   ·rcases w P e with h|h<;>omega
def eC(P:Int)(a:ByteArray):Int:=if(gB a).2 then max P ((gB a).1+1)else P
def sE(P:List ByteArray):Int:=P.foldl eC 1
def gQ(D:ak):Int:=sE D.list
def Ej(P:ByteArray):0<=(gB P).1/\(gB P).1<1000000000000:=by
 unfold gB;split
 ·rename_i b a
  have:=(BD a).2;simp;omega
 ·simp
def Gq(a:1<=e/\e<=1000000000000)(P:ByteArray):1<=eC e P/\eC e P<=1000000000000:=by
 have:=Ej P;unfold eC;split<;>omega
def Iw:∀(a:List ByteArray) (P:Int),(1<=P/\P<=1000000000000)->1<=a.foldl eC P/\a.foldl eC P<=1000000000000
 |[],P,b=>b
 |s::a,P,b=>Iw a _ (Gq b s)
def rf(P:List ByteArray):1<=sE P/\sE P<=1000000000000:=Iw P 1 oM
def Ix{D:ak}(s:Laid b)(i:aV b a f D):
  YX 135 #[ZL a] b (Ok λt e=>t= ZH (gQ D)/\ai b e):=by
 refine CH (PC.ok (wT i) ?_);rintro _ j ⟨u,d,z,G,rfl,k,l,A⟩;have B:D.list.length<=64:=by rw[nG];exact i.ok.many
 have C:=k.len dC;have v:Row Ns 16 j G u d D.list:=k.row dC ba;refine⟨_,_,_,rfl,λm n o e=>∃P:Nat,o=P/\P<=d/\m=d-P/\n=sE (D.list.take P)/\ai j e,⟨_,0,rfl,Qj _,rfl,rfl,aj.refl _⟩,?_⟩;rintro m n o _ E ⟨P,rfl,F,rfl,rfl,c⟩;refine al.dec (λH=>?_) (λI=>?_)
 ·obtain⟨w,g,p,rfl,x,_,y⟩:=(v.af c).lN (i:=P) oM
  refine⟨w,g,rfl,oM,oM,_,y,PC.ok (Aj (s.af (l.then c))) ?_⟩;rintro _ J ⟨rfl,q⟩;have K:=Ej p;have L:=rf (D.list.take P);have r:sE (D.list.take (P+1))=eC (sE (D.list.take P)) p:=by
   unfold sE;rw[Qw,x,List.foldl_append];rfl
  refine⟨_,_,rfl,al.mk (λh=>⟨_,?_,P+1,an oM,oM,rfl,?_,c.then q⟩) (λh=>⟨_,?_,P+1,an oM,oM,rfl,?_,c.then q⟩)⟩
  ·omega
  ·rw[r,wrap_i64 bb]
   unfold eC;rw[Zx h];split<;>omega
  ·omega
  ·rw[r];unfold eC;rw[Zq (by simp[h])]
 ·obtain rfl:P=d:=oM
  rw[Qz oM];exact Ok.mk ⟨rfl,l.then c⟩
structure dw where
 size:Int
 bd:List Int
 bytes:Int
 next:Int
structure iP (w:World) (p q:Nat) (G:ZN) (V:dw):Prop where
 body:∃a n c E,w.heap[q]? =some (.cells #[ZL p,ZH V.size,.slice a n c,ZH V.bytes,ZH V.next] 228 (0,0))/\aU aM 3 E w a n c V.bd/\∀b,E b->G b/\b≠q
 self:G q
 aE:∀b,G b->b<w.heap.size
 many:V.bd.length<=64
 AK:aN V.next
section
variable {w0 w w1 w':World} {p q:Nat} {D D':ak} {V V':dw} {X Y G S:ZN}
def iP.keep(a:iP w p q G V)(b:aj S w w')(d:∀P,G P->¬S P):iP w' p q G V:=by
 obtain⟨f,g,h,i,j,k,e⟩:=a.body;exact⟨⟨f,g,h,i,b.get j (d q a.self),k.keep b λP c=>d P (e P c).1,e⟩,a.self,λP c=>Qk (a.aE P c) b.size,a.many,a.AK⟩
def iP.af(P:iP w p q G V)(a:ai w w'):iP w' p q G V:=P.keep a λ_ _ P=>P
def cE(w0 w:World)(p q:Nat)(V:dw)(D:ak)(X:ZN):Prop:=∃G,a_ w0 w p D (λP=>X P\/G P)/\iP w p q G V/\∀P,G P->w0.heap.size<=P/\¬X P
def cE.gr(P:cE w0 w p q V D X):ai w0 w:=by obtain⟨G,a,b,c⟩:=P;exact a.gr
def cE.ok(P:cE w0 w p q V D X):D.Ok:=by obtain⟨G,a,b,c⟩:=P;exact a.ok
def cE.many(P:cE w0 w p q V D X):V.bd.length<=64:=by obtain⟨G,b,a,c⟩:=P;exact a.many
def cE.AK(P:cE w0 w p q V D X):aN V.next:=by obtain⟨G,b,a,c⟩:=P;exact a.AK
def cE.aE(a:cE w0 w p q V D X):∀P,X P->P<w.heap.size:=by obtain⟨G,⟨d,e,f,g,b⟩,h,i⟩:=a;exact λP c=>b P (.inl c)
def cE.WH(a:cE w0 w p q V D X):q<w.heap.size/\w0.heap.size<=q/\¬X q:=by obtain⟨G,c,P,b⟩:=a;exact⟨P.aE q P.self,b q P.self⟩
def cE.tO(P:cE w0 w p q V D X):a_ w0 w p D X:=by obtain⟨G,a,c,d⟩:=P;exact a.mono λe b=>.inl b
def cE.af(a:cE w0 w p q V D X)(P:ai w w'):cE w0 w' p q V D X:=by
 obtain⟨G,b,c,d⟩:=a;exact⟨G,b.af P,c.af P,d⟩
def cE.mono(d:cE w0 w p q V D X)(b:∀P,Y P->X P):cE w0 w p q V D Y:=by
 obtain⟨G,e,f,c⟩:=d;exact⟨G,e.mono λP a=>a.imp (b P) id,f,λP a=>⟨(c P a).1,λg=>(c P a).2 (b P g)⟩⟩
def cE.add(f:cE w0 w p q V D X)(b:ai w w')(c:∀P,Y P->w.heap.size<=P/\P<w'.heap.size):cE w0 w' p q V D (λP=>X P\/Y P):=by
 obtain⟨G,g,d,e⟩:=f;refine⟨G,(g.add b c).mono λP a=>?_,d.af b,λP a=>⟨(e P a).1,λh=>h.elim (e P a).2 λi=>by have:=d.aE P a;have:=(c P i).1;omega⟩⟩;rcases a with(a|a)|a
 ·exact .inl (.inl a)
 ·exact .inr a
 ·exact .inl (.inr a)
def cE.other(g:cE w0 w p q V D X)(b:aj Y w w')(c:∀P,Y P->X P/\w0.heap.size<=P):cE w0 w' p q V D X:=by
 obtain⟨G,⟨h,i,j,e,k⟩,l,f⟩:=g;exact⟨G,⟨h,i.keep b λP a d=>(e P a).2 (.inl (c P d).1),j.new b λP a=>.inr (c P a).2,e,λP a=>Qk (k P a) b.size⟩,l.keep b λP a d=>(f P a).2 (c P d).1,f⟩
def cE.on{P:Array Value}(f:cE w0 w p q V D X)(g:∀c,(∀a,X a->c a)->a_ w0 w p D c->YX y P w (Ok (mU w0 w p c d2))):YX y P w (Ok λd w'=>d= ZH d2.1/\cE w0 w' p q V d2.2 X/\aj (dS X) w w'):=by
 obtain⟨G,h,i,j⟩:=f;refine Calls.ok (g _ (λa b=>.inl b) h) ?_;rintro d w' ⟨k,l,e⟩;exact⟨k,⟨G,l,i.keep e λa b m=>m (.inr b),j⟩,e.mono λa _ b n=>b (.inl n)⟩
def dw.last(V:dw):ByteArray:=cF (ax (V.bd.getLast?.getD 0))
def iP.row(e:iP w p q G V):∃a P c b,w.heap[q]? =some (.cells #[ZL p,ZH V.size,.slice a P c,ZH V.bytes,ZH V.next] 228 (0,0))/\Row aM 8 w b a P V.bd/\(∀d,b d->G d/\d≠q)/\P=V.bd.length:=by
 obtain⟨a,P,c,b,g,f,h⟩:=e.body;have:=e.many;exact⟨a,P,c,b,g,f.row dC ba,h,f.len dC⟩
def Iy(e:Laid w)(c:iP w p q G V)(f:V.bd≠[]):YX 157 #[ZL q] w (Ok λg w'=>g= .string V.last/\ai w w'):=by
 obtain⟨u,a,v,x,h,i,y,j⟩:=c.row;have z:0<V.bd.length:=List.length_pos_iff.2 f;have A:=c.many;refine uC λw1 k=>?_;have P:ai w w1:=k.keep;have d:=P.get h id;have l:ZG .i64 ((a:Int)-1)=((a-1:Nat):Int):=by rw[wrap_i64 bb];omega
 obtain⟨m,b,n,rfl,o,r,s⟩:=(i.af P).lN (i:=a-1) oM;refine⟨q,0,rfl,_,_,_,ae d rfl,q,0,rfl,_,_,_,ae d rfl,m,b,rfl,?_⟩;rw[l];refine⟨oM,oM,n,s,PC.ok (jv (e.af P) r) ?_⟩;rintro _ B ⟨rfl,t⟩;refine⟨_,rfl,Ok.mk ⟨?_,P.then t⟩⟩;unfold dw.last;rw[List.getLast?_eq_getElem?,<-j,o];rfl
def Iz(j:Laid w0)(g:cE w0 w p q V D X)(k:V.bd≠[]):YX 92 #[ZL q] w (Ok λl w'=>l= ZH (D.sync V.last).1/\cE w0 w' p q V (D.sync V.last).2 X/\aj (dS X) w w'):=by
 refine uz λw1 m=>?_;have d:ai w w1:=m.keep;have n:=g.af d;obtain⟨G,o,P,h⟩:=n;obtain⟨y,z,A,B,r,C,E,i⟩:=P.row;have F:=h q P.self;have H:=P.aE q P.self;refine⟨λb=>b≠q/\¬X b,q,0,rfl,λs=>s.1 rfl,_,ae r rfl,PC.ok (Iy (j.af (g.gr.then d)) P k) ?_⟩;rintro _ I ⟨rfl,c⟩;have t:=P.af c;have u:=o.af c;refine⟨_,rfl,c.keep,PC.ok u.sync ?_⟩;rintro _ J ⟨rfl,v,e⟩;refine⟨_,rfl,e.mono λb _ a=>⟨λx=>a (.inr (x▸P.self)),λf=>a (.inl f)⟩,Ok.mk ⟨rfl,⟨G,v,t.keep e λb a i=>i (.inr a),h⟩,?_⟩⟩;exact(ai.keep (d.then c)).then (e.mono λb _ a f=>a (.inl f))
def FN(P:iP w p q G V):YX 118 #[ZL q] w (Ok (pC aM 3 w V.bd)):=by
 obtain⟨j,k,l,m,b,c,d,n⟩:=P.row;refine pk ⟨q,0,rfl,_,_,_,ae b rfl,PC.ok (ck c λa e=>P.aE a (d a e).1) ?_⟩;rintro _ w1 ⟨o,r,s,f,rfl,g,h,i⟩;exact⟨_,_,_,rfl,Ok.mk ⟨_,_,_,f,rfl,g,h,i⟩⟩
def Ps(P:iP w p q G V):YX 117 #[ZL q] w (Ok λa w'=>a= ZH V.next/\w=w'):=by
 obtain⟨c,d,e,f,b,g,h,i⟩:=P.row;exact uB ⟨q,0,rfl,_,ae b rfl,Ok.mk ⟨rfl,rfl⟩⟩
end
def mj(P:dw)(D:ak):Int×dw×ak:=
 let c:=cF (ax P.next)
 let a:=D.sync c
 if a.1≠0 then(a.1,P,(a.2.delete c).2)else
 let b:=bC a.2 (P.bd++[P.next])
 if b.1≠0 then(b.1,P,(b.2.delete c).2)else
 (0,⟨P.size,P.bd++[P.next],0,ZG .i64 (P.next+1)⟩,b.2)
def bA(a:dw)(D:ak):Int×dw×ak:=
 let P:=D.create (cF (ax a.next))
 if P.1≠0 then(P.1,a,P.2)else mj a P.2
def aK(P:dw)(D:ak):Int×dw×ak:=
 if P.bd=[]then bA P D else
 let a:=D.sync P.last
 if a.1≠0 then(a.1,P,a.2)else bA P a.2
def El(c d:World)(e f:Nat)(a:ZN)(P:Int×dw×ak)(g:Value)(b:World):Prop:=g= ZH P.1/\cE c b e f P.2.1 P.2.2 a/\aj (dS a) d b
def Qu(P:Int):aN (ZG .i64 P):=by
 unfold aN ZG;simp[IntKind.signed,IntKind.bits];omega
def Gr{D:ak}{a:List Int}(P:(bC D a).1=0):a.length<=64:=by
 unfold bC at P;split at P
 ·cases P
 ·omega
variable{b0:dw}
def Em{D:ak}(hL:Laid b)(h:cE b k a c b0 D f):
  YX 138 #[ZL c] k (Ok (El b k a c f (aK b0 D))):=by
 have b2:=h.aE;obtain⟨p3,j4,e6⟩:=h.WH;have p4:=h.gr.size;have e7:=h.AK;have j5:=h.many;refine tj (PA.mk λB k1 s1 g1=>PA.mk λw2 k2 s2 g2=>?_);have d6:ai k w2:=k1.then k2
 let b6:ZN:=λP=>f P\/(P=k.heap.size\/P=B.heap.size)
 have hY:cE b w2 a c b0 D b6:=h.add d6 λP d=>by omega
 have b7:=k2.get g1 id;refine⟨λe=>∃C,cE b e a c b0 C b6/\aj (dS f) k e/\w2.heap.size<=e.heap.size/\e.heap[k.heap.size]? =some (.cells #[ZL c] 95 (0,0))/\e.heap[B.heap.size]? =some (.cells #[ZH 0] 34 (0,0))/\aK b0 D=bA b0 C,?_,?_⟩
 ·obtain⟨G,hD,hl,hG⟩:=id hY
  obtain⟨t,E,I,m,S,hr,hE,u⟩:=hl.row;refine⟨_,ae b7 rfl,c,0,rfl,_,_,_,ae S rfl,al.dec (λo6=>?_) (λy=>?_)⟩
  ·have v:b0.bd≠[]:=λi=>by rw[i]at u;simp at u;omega
   refine⟨_,ae b7 rfl,PC.ok (Iz hL hY v) ?_⟩;rintro _ w3 ⟨rfl,Y,k3⟩;have kX:aj (dS f) k w3:=(ai.keep d6).then (k3.mono λP _ d j=>d (.inl j));have b8:=k3.get b7 λu=>u (.inr (.inl rfl));have b9:=k3.get g2 λu=>u (.inr (.inr rfl));have hB:aK b0 D=if(D.sync b0.last).1≠0 then((D.sync b0.last).1,b0,(D.sync b0.last).2)else bA b0 (D.sync b0.last).2:=by unfold aK;rw[Zq v]
   refine⟨_,rfl,al.dV (λe9=>?_) (λF=>⟨_,Y,kX,k3.size,b8,b9,by rw[hB,Zq (by simpa using F)]⟩)⟩;refine PS.mk b9 sM λJ L s4 g4=>⟨_,ae g4 rfl,Ok.mk ?_⟩
   rw[hB,Zx e9];exact⟨rfl,(Y.other L λP d=>⟨d▸.inr (.inr rfl),oM⟩).mono λP d=>.inl d,kX.then (L.mono λP _ d j=>by have:=b2 P j;omega)⟩
  ·have he:b0.bd=[]:=QW oM
   exact⟨D,hY,ai.keep d6,Q4 _,b7,g2,by unfold aK;rw[Zx he]⟩
 rintro _ w3 ⟨C,Y,b3,o7,b8,b9,hB⟩;rw[hB];obtain⟨G3,p5,j6,p6⟩:=id Y;obtain⟨f9,n3,h0,E3,j7,-,-,-⟩:=j6.row;refine⟨_,ae b8 rfl,c,0,rfl,_,ae j7 rfl,PC.ok (jv (hL.af Y.gr) e7) ?_⟩;rintro _ J ⟨rfl,L⟩;refine⟨_,rfl,PA.mk λw5 k5 s5 g5=>PS.mk g5 sM λw6 k6 s6 g6=>?_⟩
 let p:ZN:=λP=>b6 P\/P=J.heap.size
 have f5:=Y.af L;have p7:=f5.gr.size;have p8:=L.size;have j8:cE b w6 a c b0 C p:=(f5.add (Y:=(·=J.heap.size)) k5 λP d=>oM).other k6 λP d=>⟨.inr d,oM⟩
 have j9:aj (dS f) k w6:=((b3.af L).af k5).then (k6.mono λP _ d j=>by have:=b2 P j;have:=b3.size;omega);have d8:∀{P},f P->p P:=λj=>.inl (.inl j);intro M e4;have k7:ai w6 M:=e4.keep;have f6:=j8.af k7;have gn:w6.heap[J.heap.size]? =some (.cells #[.string (cF (ax b0.next))] 9 (0,0)):=g6;have k0:=k6.get (k5.get (L.get b8 id) id) oM;have g0:=k6.get (k5.get (L.get b9 id) id) oM
 let q:World->Int->Prop:=λe i=>e.heap[k.heap.size]? =some (.cells #[ZL c] 95 (0,0))/\e.heap[B.heap.size]? =some (.cells #[ZH i] 34 (0,0))/\e.heap[J.heap.size]? =some (.cells #[.string (cF (ax b0.next))] 9 (0,0))
 have C6:q w6 0:=⟨k0,g0,gn⟩
 have g:∀{e w:World} {i:Int} {d0:ZN},q e i->aj d0 e w->(∀P,d0 P->¬(P=k.heap.size\/P=B.heap.size\/P=J.heap.size))->q w i:=λN o hS=>
  ⟨o.get N.1 λO=>hS _ O (.inl rfl),o.get N.2.1 λO=>hS _ O (.inr (.inl rfl)),o.get N.2.2 λO=>hS _ O (.inr (.inr rfl))⟩
 have l:∀{e w:World} {i:Int},q e i->aj (dS p) e w->q w i:=λN o=>g N o λP d hc=>d (by
  rcases hc with rfl|rfl|rfl
  ·exact .inl (.inr (.inl rfl))
  ·exact .inl (.inr (.inr rfl))
  ·exact .inr rfl)
 have c0:∀{e w:World},aj (dS f) k e->aj (dS p) e w->aj (dS f) k w:=λt P=>t.then (P.mono λP _ d j=>d (d8 j));have C7:q M 0:=g C6 k7 λP d=>d.elim;obtain⟨G7,p9,l0,q0⟩:=id f6;obtain⟨k4,n7,l1,E7,l3,-,-,-⟩:=l0.row;refine⟨_,ae C7.1 rfl,c,0,rfl,_,ae l3 rfl,_,ae C7.2.2 rfl,PC.ok (f6.on (λp hZ T=>T.create)) ?_⟩;rintro _ w8 ⟨rfl,c1,k8⟩;have C8:=l C7 k8;have g3:=c0 (j9.af k7) k8;have l4:bA b0 C=if(C.create (cF (ax b0.next))).1≠0 then((C.create (cF (ax b0.next))).1,b0,(C.create (cF (ax b0.next))).2)else mj b0 (C.create (cF (ax b0.next))).2:=rfl
 rw[l4];generalize q1:C.create (cF (ax b0.next))=cr at c1⊢;obtain⟨l2,K⟩:=cr;simp only at c1⊢;have q2:B.heap.size<w2.heap.size:=oM
 have g7:∀{e:World} {z:Int×dw×ak} {i:Int} {w:World},cE b e a c z.2.1 z.2.2 p->aj (dS f) k e->aj (·=B.heap.size) e w->i=z.1->El b k a c f z (ZH i) w:=by
  intro e z i w u o O he;exact⟨by rw[he],(u.other O λP d=>⟨d▸.inl (.inr (.inr rfl)),oM⟩).mono λP d=>d8 d,o.then (O.mono λP _ d j=>by have:=b2 P j;omega)⟩
 refine⟨_,rfl,al.dV (λv=>?_) (λF=>?_)⟩
 ·refine PS.mk C8.2.1 sM λw9 k9 s9 g9=>⟨_,ae g9 rfl,Ok.mk ?_⟩
  rw[Zx v];exact g7 c1 g3 k9 rfl
 rw[Zq (by simpa using F)];have A:∀{z:Int×dw×ak} (i:Int) (m:ak) (e:World),cE b e a c b0 m p->aj (dS f) k e->q e i->i≠0->z=(i,b0,(m.delete (cF (ax b0.next))).2)->
   Lv ZP (λg8=>∃h2:Int,g8.cell? ⟨B.heap.size,0,none⟩=some (ZH h2)/\Ok (El b k a c f z) (.returned (ZH h2)) g8) (λch e=>Ok (El b k a c f z) (.panicked ch) e)
    ([{target:=.fn (.func 189) #[ZL B.heap.size,ZL k.heap.size,ZL J.heap.size],args:= #[]}]:List Deferred) .returning e:=by
  intro z i m e u o N v hr;refine Lv.one sM kR (CallsD.mono (iO (R:=λe' M=>e'= .returned (.tuple #[])/\∃h3:Int,M.cell? ⟨B.heap.size,0,none⟩=some (ZH h3)/\Ok (El b k a c f z) (.returned (ZH h3)) M) ⟨_,ae N.2.1 rfl,al.dV (λ_=>?_) (λF=>Zz F v)⟩) ?_)
  ·intro wa da
   have ka:ai e wa:=da.keep;have h4:=u.af ka;have e0:q wa i:=g N ka λP d=>d.elim;obtain⟨Ga,q3,l5,q4⟩:=id h4;obtain⟨aa,na,ca,Ea,c3,-,-,-⟩:=l5.row;refine⟨_,ae e0.1 rfl,c,0,rfl,_,ae c3 rfl,_,ae e0.2.2 rfl,PC.ok (h4.on (λp hZ T=>T.delete)) ?_⟩;rintro _ U ⟨rfl,l6,kb⟩;have l7:=l e0 kb;refine⟨_,rfl,rfl,_,ae l7.2.1 rfl,Ok.mk ?_⟩;rw[hr];exact⟨rfl,l6.mono λP d=>d8 d,c0 (o.af ka) kb⟩
  ·rintro e' u' M ⟨rfl,rfl,hX⟩
   exact Lv.ret rfl hX
 intro w9 e8;have k9:ai w8 w9:=e8.keep;have h5:=c1.af k9;have C9:q w9 0:=g C8 k9 λP d=>d.elim;obtain⟨G9,q5,l8,q6⟩:=id h5;obtain⟨n5,n9,n6,E9,l9,-,-,-⟩:=l8.row;refine⟨_,ae C9.1 rfl,c,0,rfl,_,ae l9 rfl,_,ae C9.2.2 rfl,PC.ok (h5.on (λp hZ T=>T.sync)) ?_⟩;rintro _ Z ⟨rfl,V,h6⟩;have a0:=l C9 h6;have d1:=c0 (g3.af k9) h6;have m0:mj b0 K=if(K.sync (cF (ax b0.next))).1≠0 then((K.sync (cF (ax b0.next))).1,b0,((K.sync (cF (ax b0.next))).2.delete (cF (ax b0.next))).2)else
   if(bC (K.sync (cF (ax b0.next))).2 (b0.bd++[b0.next])).1≠0 then((bC (K.sync (cF (ax b0.next))).2 (b0.bd++[b0.next])).1,b0,((bC (K.sync (cF (ax b0.next))).2 (b0.bd++[b0.next])).2.delete (cF (ax b0.next))).2)else
   (0,⟨b0.size,b0.bd++[b0.next],0,ZG .i64 (b0.next+1)⟩,(bC (K.sync (cF (ax b0.next))).2 (b0.bd++[b0.next])).2):=rfl
 rw[m0];generalize q7:K.sync (cF (ax b0.next))=sy at V⊢;obtain⟨q8,c2⟩:=sy;dsimp only at V;refine⟨_,rfl,al.dV (λv=>?_) (λF=>?_)⟩
 ·refine PS.mk a0.2.1 sM λr s q9 m1=>?_
  rw[Zx v];exact A _ c2 r (V.other s λP d=>⟨d▸.inl (.inr (.inr rfl)),oM⟩) (d1.then (s.mono λP _ d j=>by have:=b2 P j;omega)) ⟨s.get a0.1 oM,m1,s.get a0.2.2 (by have:=b3.size;omega)⟩ v rfl
 rw[Zq (by simpa using F)];have o8:J.heap.size<Z.heap.size:=aA a0.2.2;refine⟨λt E I e=>∃m,aU aM 3 m e t E I (b0.bd++[b0.next])/\(∀P,m P->Z.heap.size<=P)/\ai Z e,?_,?_⟩
 ·intro r m2
  have s:ai Z r:=m2.keep;have a5:=V.af s;have b1:q r 0:=g a0 s λP d=>d.elim;obtain⟨m3,h7,W,h8⟩:=id a5;obtain⟨m4,m5,m6,m7,a6,d2,d3,o9⟩:=W.row;have p0:=W.aE c W.self;have a2:∀{wa U wc:World} {S:Nat} {t E I:_} {a3:ZN},aU aM 3 a3 U t E I b0.bd->(∀P,a3 P->r.heap.size<=P/\P≠S)->U.heap[S]? =some (.cells #[ZH b0.next] 3 (0,0))->ai r U->
    ∀κ ε,(∀X n' c' e,(∃m,aU aM 3 m e X n' c' (b0.bd++[b0.next])/\(∀P,m P->Z.heap.size<=P)/\ai Z e)->aj (λP=>r.heap.size<=P) U e->κ (.slice X n' c') e)->
    aG ZP (Builtin.append_ #[27,27] 27 #[.slice t E I,.slice (ZM S) 1 1]) U κ ε:=by
   intro wa U wc S t E I a3 Q hF hg o κ ε c7;refine kK Q sj (D:=(·=S)) (Row.lit hg [b0.next] rfl (λd4 j=>by simp at j;subst j;exact e7) (by unfold aO;simp)) (λP i=>⟨i▸aA hg,λf0=>(hF P (Q.self P f0)).2 i⟩) (by unfold aO;simp;omega) (by unfold maxLen;simp;omega) λX c' e F' c8 a4 _ c9=>?_;refine c7 X _ c' e ⟨λP=>aH X=some P,c8.alone,λP d=>?_,?_⟩ (a4.mono λP _ d=>(hF P (Q.self P d)).1)
   ·have:=s.size;have:=o.size
    rcases c9 P d with h|h
    ·have:=(hF P h).1;omega
    ·omega
   ·exact(s.then o).new a4 λP d=>.inr (by have:=(hF P (Q.self P d)).1;have:=s.size;omega)
  have r0:k.heap.size<r.heap.size:=aA b1.1;refine⟨λP=>r.heap.size<=P,oM,_,ae b1.1 rfl,c,0,rfl,oM,_,_,_,ae a6 rfl,oM,_,ae b1.1 rfl,c,0,rfl,oM,_,ae a6 rfl,?_,?_⟩
  ·refine PC.ok (ck d2 λP d=>W.aE P (d3 P d).1) ?_
   rintro _ b4 ⟨r3,r4,r5,r6,rfl,a7,H,h9⟩;refine⟨_,_,_,rfl,H.keep,PA.mk λx n m8 e1=>⟨n.keep,a2 (wa:=x) (wc:=x) (a7.af n) (λP d=>⟨h9 P d,by have:=a7.aE P d;omega⟩) e1 (H.then n) _ _ λX n' c' e hJ o=>⟨_,_,_,rfl,o,trivial,hJ⟩⟩⟩
  ·refine PA.mk λb4 H r7 m9=>⟨H.keep,PC.ok (ck (d2.af H) λP d=>by have:=W.aE P (d3 P d).1;have:=H.size;omega) ?_⟩
   rintro _ x ⟨n0,n1,n2,r8,rfl,a8,n,d5⟩;exact⟨_,_,_,rfl,n.keep,a2 (wa:=x) (wc:=x) a8 (λP d=>⟨by have:=d5 P d;omega,by have:=d5 P d;omega⟩) (n.get m9 id) (H.then n) _ _ λX n' c' e hJ o=>⟨_,_,_,rfl,o,trivial,hJ⟩⟩
 rintro t E I _ r ⟨m,Q,hE,s⟩;have p1:(b0.bd++[b0.next]).length<=65:=by simp;omega
 have a5:cE b r a c b0 c2 (λP=>p P\/m P):=V.add s λP d=>⟨hE P d,Q.aE P d⟩
 have b1:q r 0:=g a0 s λP d=>d.elim;have d7:Row aM 8 r m t E (b0.bd++[b0.next]):=Q.row dC ba;have f1:∀d4∈b0.bd++[b0.next],aN d4:=Mt d7;obtain⟨m3,h7,W,h8⟩:=id a5;obtain⟨m4,m5,m6,m7,a6,-,-,-⟩:=W.row;refine⟨_,ae b1.1 rfl,c,0,rfl,_,ae a6 rfl,PC.ok (a5.on λZ' n4 T=>T.bC hL.nH d7 f1 λP d=>.inr (n4 P (.inr d))) ?_⟩;rintro _ b4 ⟨rfl,a9,H⟩;have R:aj (dS p) r b4:=H.mono λP _ d y=>d (.inl y);have c4:=l b1 R;have d9:=c0 (d1.af s) R;have a7:=Q.keep H λP d u=>u (.inr d);have b5:= @Gr c2 (b0.bd++[b0.next]);have i0:True:=trivial;generalize r9:bC c2 (b0.bd++[b0.next])=mw at a9 b5 i0⊢;obtain⟨s0,c5⟩:=mw;dsimp only at a9 b5 i0⊢;refine⟨_,rfl,al.dV (λv=>?_) (λF=>?_)⟩
 ·refine PS.mk c4.2.1 sM λx n m8 e1=>?_
  rw[Zx v];have f2:cE b b4 a c b0 c5 p:=a9.mono λP d=>.inl d;exact A _ c5 x (f2.other n λP d=>⟨d▸.inl (.inr (.inr rfl)),oM⟩) (d9.then (n.mono λP _ d j=>by have:=b2 P j;omega)) ⟨n.get c4.1 oM,e1,n.get c4.2.2 (by have:=b3.size;omega)⟩ v rfl
 rw[Zq (by simpa using F)];have b5:=b5 F;intro x n8;have n:ai b4 x:=n8.keep;have i1:=a9.af n;have e5:q x 0:=g c4 n λP d=>d.elim;have a8:=a7.af n;obtain⟨s3,i2,e2,p2⟩:=id i1;obtain⟨n0,n1,n2,s7,i3,-,-,-⟩:=e2.row;have i4:∀P,m P->P≠c:=λP d i=>by have:=hE P d;omega
 have o0:c≠k.heap.size/\c≠B.heap.size/\c≠J.heap.size:=by have:=b3.size;omega
 refine⟨(·=c),_,ae e5.1 rfl,λi=>o0.1 i.symm,_,ae e5.1 rfl,c,0,rfl,PS.mk i3 sM λs8 i5 t0 o1=>⟨i5,c,0,rfl,PS.mk o1 sM λo2 i6 t1 i7=>⟨i6,?_⟩⟩⟩;have e3:=i5.then i6;have i8:q o2 0:=g e5 e3 λP d hc=>by subst d;omega
 refine⟨_,ae i8.1 rfl,c,0,rfl,_,ae i7 rfl,c,0,rfl,PS.mk i7 sM λc6 i9 t2 j0=>?_⟩;have o3:q c6 0:=g i8 i9 λP d hc=>by subst d;omega
 have a1:aj (·=c) x c6:=e3.then i9;refine PS.mk o3.2.1 sM λo4 o5 t3 j1=>Lv.one sM kR (CallsD.mono (iO (R:=λe' M=>e'= .returned (.tuple #[])/\M=o4) ⟨_,ae j1 rfl,al.dV (λhc=>Zz rfl hc) (λ_=>⟨rfl,rfl⟩)⟩) ?_);rintro e' u' _ ⟨rfl,rfl,rfl⟩;refine Lv.ret rfl ⟨_,ae j1 rfl,Ok.mk ?_⟩;have j2:c6.heap[c]? =some (.cells #[ZL a,ZH b0.size,.slice t E I,ZH 0,ZH (ZG .i64 (b0.next+1))] 228 (0,0)):=j0;have j3:cE b c6 a c ⟨b0.size,b0.bd++[b0.next],0,ZG .i64 (b0.next+1)⟩ c5 p:=by
  refine⟨λP=>P=c\/m P,?_,⟨⟨t,E,I,m,j2,a8.keep a1 λP d i=>i4 P d i,λP d=>⟨.inr d,i4 P d⟩⟩,.inl rfl,?_,b5,?_⟩,?_⟩
  ·have h1:a_ b x a c5 (λP=>p P\/(P=c\/m P)):=i2.mono λP d=>by
    rcases d with d|d|d
    ·exact .inl (.inl d)
    ·exact .inr (d▸e2.self)
    ·exact .inl (.inr d)
   obtain⟨a3,f4,f7,f3,f8⟩:=h1;exact⟨a3,f4.keep a1 λP d i=>(f3 P d).2 (.inr (.inl i)),f7.new a1 λP d=>.inr oM,f3,λP d=>Qk (f8 P d) a1.size⟩
  ·rintro P (rfl|d)
   ·exact aA j0
   ·exact Qk (a8.aE P d) a1.size
  ·show aN (ZG .i64 (b0.next+1))
   exact Qu _
  ·rintro P (rfl|d)
   ·exact⟨j4,λy=>by
     rcases y with(y|y|y)|y
     ·exact e6 y
     ·omega
     ·omega
     ·omega⟩
   ·have:=hE P d
    exact⟨by have:=V.gr.size;omega,λy=>by have:=V.aE P y;omega⟩
 exact g7 j3 ((d9.af n).then (a1.mono λP _ d j=>e6 (d▸j))) o5 rfl
def ay(no:Int):ByteArray:=cF (ax no)
structure nY where
 no:Int
 out:List ah
 V:dw
 D:ak
def cO:List Int->List ah->dw->ak->nY
 |[],P,a,D=>⟨0,P,a,D⟩
 |no::b,P,a,D=>
  if(D.read (ay no)).2≠0 then⟨0,P,a,D⟩else
  if(bG (D.read (ay no)).1).2<(D.read (ay no)).1.length then
   ⟨(D.mW (ay no) (bG (D.read (ay no)).1).2).1,P++(bG (D.read (ay no)).1).1,⟨a.size,a.bd++[no],(bG (D.read (ay no)).1).2,a.next⟩,(D.mW (ay no) (bG (D.read (ay no)).1).2).2⟩
  else cO b (P++(bG (D.read (ay no)).1).1) ⟨a.size,a.bd++[no],(bG (D.read (ay no)).1).2,a.next⟩ D
section
variable {w0 w w1 w':World} {p q:Nat} {D D':ak} {V V':dw} {X Y Z G S:ZN}
def a_.eV(c:a_ w0 w p D X)(d:aj Y w w')(e:∀P,Y P->X P/\w0.heap.size<=P)(f:∀P,Z P->(X P\/w.heap.size<=P)/\P<w'.heap.size):a_ w0 w' p D Z:=by
 obtain⟨h,g,i,b,l⟩:=c;exact⟨h,g.keep d λP a j=>(b P a).2 (e P j).1,i.new d λP a=>.inr (e P a).2,λP a=>⟨(b P a).1,λk=>(f P k).1.elim (b P a).2 λc=>by have:=g.aE P a;omega⟩,λP a=>(f P a).2⟩
def cE.eV(g:cE w0 w p q V D X)(b:aj Y w w')(c:∀P,Y P->X P/\w0.heap.size<=P)(d:∀P,Z P->(X P\/w.heap.size<=P)/\P<w'.heap.size):cE w0 w' p q V D Z:=by
 obtain⟨G,h,e,f⟩:=g;refine⟨G,h.eV b (λP a=>⟨.inl (c P a).1,(c P a).2⟩) λP a=>?_,e.keep b λP a i=>(f P a).2 (c P i).1,λP a=>⟨(f P a).1,λj=>(d P j).1.elim (f P a).2 λg=>by have:=e.aE P a;omega⟩⟩;rcases a with a|a
 ·exact⟨(d P a).1.imp .inl id,(d P a).2⟩
 ·exact⟨.inl (.inr a),Qk (e.aE P a) b.size⟩
def QA{no B:Int}(h:cE w0 w p q V D X)(O:aN no)(Q:V.bd.length+1<=64)(s:∀w',cE w0 w' p q ⟨V.size,V.bd++[no],B,V.next⟩ D X->aj (dS X) w w'->x w'):
  ∃C E,(ZM q:YQ)=some ⟨C,E,none⟩/\∃(i:YQ) (t u:Nat),w.cell? ⟨C,E+2,none⟩=some (.slice i t u)/\
   PA w (.cells #[ZH no] 3) λR=>aG ZP (Builtin.append_ #[27,27] 27 #[.slice i t u,.slice (ZM w.heap.size) 1 1]) R (λS T=>
    ∃(d:YQ) (F j:Nat),S= .slice d F j/\∃H I,(ZM q:YQ)=some ⟨H,I,none⟩/\PS T ⟨H,I+2,none⟩ (.slice d F j) λU=>
     ∃J K,(ZM q:YQ)=some ⟨J,K,none⟩/\PS U ⟨J,K+3,none⟩ (ZH B) x) m:=by
 obtain⟨G,W,c,e⟩:=id h;obtain⟨i,t,u,a0,L,f,g⟩:=c.body;have a8:=c.aE q c.self;refine⟨q,0,rfl,_,_,_,ae L rfl,PA.mk λw1 k s1 Y=>?_⟩;refine kK (f.af k) sj (D:=(·=w.heap.size)) (Row.lit Y [no] rfl (λa1 l=>by simp at l;subst l;exact O) (by unfold aO;simp)) (λP b=>⟨oM,λZ=>by have:=f.aE P (f.self P Z);omega⟩) (by unfold aO;simp;omega) (by unfold maxLen;simp;omega) λd j w2 F' n o _ v=>?_
 replace n:=n.alone
 have a6:¬aH i=some q:=λb=>(g q (f.self q b)).2 rfl;have g2:=o.get (k.get L id) a6;have z2:=o.size;have y:¬aH d=some q:=λb=>by
  rcases v q b with h|h
  ·exact(g q h).2 rfl
  ·omega
 refine⟨_,_,_,rfl,q,0,rfl,PS.mk g2 sM λw3 z s3 g3=>⟨q,0,rfl,PS.mk g3 sM λr A s4 g4=>s r ?_ ?_⟩⟩
 ·have a7:aj (λP=>aH i=some P\/P=q) w1 r:=((o.mono λP _ a=>.inl a).then (z.mono λP _ a=>.inr a)).then (A.mono λP _ a=>.inr a)
  have kG:aj G w r:=(ai.keep k).then (a7.mono λP _ a=>a.elim (λh=>(g P (f.self P h)).1) λh=>h▸c.self);have M:∀P,aH d=some P->P<r.heap.size:=λP a=>by have:=n.aE P a;omega
  refine⟨λP=>P=q\/aH d=some P,W.eV kG (λP a=>⟨.inr a,(e P a).1⟩) λP a=>?_,⟨⟨d,_,j,(λP=>aH d=some P),g4,?_,λP a=>⟨.inr a,λb=>y (b▸a)⟩⟩,.inl rfl,?_,by simpa using Q,c.AK⟩,?_⟩
  ·rcases a with a|rfl|a
   ·exact⟨.inl (.inl a),by have:=h.aE P a;omega⟩
   ·exact⟨.inl (.inr c.self),oM⟩
   ·refine⟨?_,M P a⟩
    rcases v P a with h|h
    ·exact .inl (.inr (g P h).1)
    ·exact .inr oM
  ·exact(n.keep z λP a b=>y (b▸a)).keep A λP a b=>y (b▸a)
  ·rintro P (rfl|a)
   ·omega
   ·exact M P a
  ·rintro P (rfl|a)
   ·exact e _ c.self
   ·rcases v P a with N|N
    ·exact e P (g P N).1
    ·exact⟨by have:=h.gr.size;omega,λl=>by have:=h.aE P l;omega⟩
 ·refine(((ai.keep k).then (o.mono λP _ a=>?_)).then (z.mono λP _ a=>?_)).then (A.mono λP _ a=>?_)
  ·exact(e P (g P (f.self P a)).1).2
  ·exact(e P (a▸c.self)).2
  ·exact(e P (a▸c.self)).2
def Uw{j P:Nat}(a:j<=64)(b:P<=j*262144):P<=16777216:=oM
def SG(w0 w:World)(p q:Nat)(X:ZN)(P:nY)(e:Value)(w':World):Prop:=
 ∃b c d G,e= .tuple #[.slice b c d,ZH P.no]/\aU qq 55 G w' b c d P.out/\cE w0 w' p q P.V P.D (λa=>X a\/G a)/\aj (dS X) w w'/\(∀a,G a->w.heap.size<=a)/\P.out.length<=16777216
def QB(C:Laid w0)(h:cE w0 w p q V D X)(Q:Row aM 8 w f d a s)(c2:∀P,f P->X P)(f3:V.bd.length+s.length<=64):
  YX 137 #[ZL q,.agg #[.slice d a c]] w (Ok (SG w0 w p q X (cO s [] V D))):=by
 have l:=Q.len;have R:=h.aE;have f6:=h.gr.size;refine tK (PA.mk λw1 S s1 g1=>⟨_,_,_,ae g1 rfl,λT U W Y Z w'=>∃(g:Nat) (i:dw) (e:List ah) (G:ZN),Z=g/\g<=s.length/\T=s.length-g/\cO s [] V D=cO (s.drop g) e i D/\i.bd.length=V.bd.length+g/\e.length<=g*262144/\
  aU qq 55 G w' U W Y e/\cE w0 w' p q i D (λP=>X P\/G P)/\aj (dS X) w w'/\∀P,G P->w.heap.size<=P,
  ⟨_,0,V,[],λ_=>False,rfl,Qj _,rfl,rfl,rfl,Qj _,aU.nil w1,(h.af S).mono λP b=>b.elim id λh=>h.elim,ai.keep S,λ_ h=>h.elim⟩,?_⟩)
 rintro T U W Y Z _ w2 ⟨g,i,e,G,rfl,hj,rfl,a4,g0,a0,m,hN,r,u⟩;rw[a4];refine al.dec (λg2=>?_) (λg3=>?_)
 rotate_left
 ·obtain rfl:g=s.length:=oM
  rw[List.drop_of_length_le (Q4 _)];exact Ok.mk ⟨_,_,_,G,rfl,m,hN,r,u,Uw oM a0⟩
 obtain⟨P,E,no,rfl,n,j,F⟩:=(Q.keep r λP b l=>l (c2 P b)).lN (i:=g) oM;have a2:s.drop g=no::s.drop (g+1):=by
  obtain⟨c4,rfl⟩:=Qv.1 n;exact X4 c4
 rw[a2]at a4⊢;refine⟨P,E,rfl,oM,oM,no,F,λw3 d3=>?_⟩;have k3:ai w2 w3:=d3.keep;have H:=hN.af k3;obtain⟨G3,c8,d0,g4⟩:=id H;obtain⟨a3,n3,c3,E3,d1,-,-,-⟩:=d0.row;refine⟨λ_=>False,q,0,rfl,id,_,ae d1 rfl,PC.ok (jv (C.af H.gr) j) ?_⟩;rintro _ w4 ⟨rfl,z⟩;have d2:=H.af z;refine⟨_,rfl,z,PC.ok ((c8.af z).read (k:=ay no)) ?_⟩;rintro _ w5 ⟨a5,n5,c5,F5,rfl,d4,g5,-,I⟩;have v:=d2.af I;have x:ai w2 w5:=(k3.then z).then I;have g6:=d4.len dC;have g7:=Ip v.ok (ay no);refine⟨_,_,_,_,rfl,I,al.dV (λd5=>?_) (λhe=>?_)⟩
 ·rw[show cO (no::s.drop (g+1)) e i D=⟨0,e,i,D⟩ by unfold cO;rw[Zx d5]]
  exact Ok.mk ⟨_,_,_,G,rfl,m.af x,v,r.af x,u,Uw oM a0⟩
 obtain⟨G5,d6,d7,g8⟩:=id v;obtain⟨g9,h0,h2,E5,d8,-,-,-⟩:=d7.row;obtain⟨a7,e0,-,-,-⟩:=id d6;refine⟨q,0,rfl,_,ae d8 rfl,PC.ok (QC (C.af v.gr) e0 j) ?_⟩;rintro _ w6 ⟨a6,n6,c6,F6,rfl,t,J,K,a8⟩;have e1:cE w0 w6 p q i D (λP=>(X P\/G P)\/F6 P):=v.add J λP b=>⟨K P b,t.aE P b⟩
 have b0:=x.then J;have e2:=m.aE;generalize e3:bG (D.read (cF (ax no))).1=sl at t a8;obtain⟨k,o⟩:=sl;dsimp only at t a8;have a1:bG (D.read (ay no)).1=(k,o):=e3;have b1:Row qq 96 w6 F6 a6 n6 k:=t.row dC ba;refine⟨_,_,_,_,rfl,zn (m.af b0) G_ b1 (λL=>t.Nl L) (λP b=>⟨t.aE P b,λF=>by have:=e2 P (m.self P F);have:=K P b;have:=x.size;omega⟩) ba (by unfold maxLen;omega) λa9 c7 w7 A b2 M b3 _=>?_⟩;have h3:=x.size;have z6:=J.size;have b4:=b2.aE;have e4:cE w0 w7 p q i D (λP=>X P\/A P):=e1.eV M (λP b=>⟨.inl (.inr (m.self P b)),by have:=u P (m.self P b);omega⟩) λP b=>by
  rcases b with b|b
  ·exact⟨.inl (.inl (.inl b)),by have:=R P b;have:=r.size;have:=M.size;omega⟩
  ·refine⟨?_,b4 P b⟩
   rcases b3 P b with h|h|h
   ·exact .inl (.inl (.inr h))
   ·exact .inl (.inr h)
   ·exact .inr h
 have e5:aj (dS X) w w7:=(r.af b0).then (M.mono λP _ b n=>by have:=u P (m.self P b);have:=R P n;omega);have b5:∀P,A P->w.heap.size<=P:=λP b=>by
  have:=r.size;rcases b3 P b with h|h|h
  ·exact u P h
  ·have:=K P h;omega
  ·omega
 refine⟨_,_,_,rfl,QA e4 j oM λw8 b6 k8=>?_⟩;have b7:aj (dS X) w w8:=e5.then (k8.mono λP _ b n=>b (.inl n));have b8:=b2.keep k8 λP b l=>l (.inr b);refine al.dec (λf4=>?_) (λf5=>?_)
 ·rw[show cO (no::s.drop (g+1)) e i D=⟨(D.mW (ay no) o).1,e++k,⟨i.size,i.bd++[no],o,i.next⟩,(D.mW (ay no) o).2⟩ by
   unfold cO;rw[a1,Zq (by simpa using he),Zx (by show o<_;omega)]]
  intro w9 d9;have N:ai w8 w9:=d9.keep;have b9:=b6.af N;obtain⟨G9,e6,O,e7⟩:=id b9;obtain⟨c9,n9,f0,E9,e8,-,-,-⟩:=O.row;refine⟨λP=>P≠q,q,0,rfl,λhs=>hs rfl,_,ae e8 rfl,PC.ok (jv (C.af b9.gr) j) ?_⟩;rintro _ e9 ⟨rfl,y⟩;refine⟨_,rfl,y.keep,PC.ok ((e6.af y).mW (k:=ay no)) ?_⟩;rintro _ f2 ⟨rfl,c0,B⟩;have c1:aj (dS X) e9 f2:=B.mono λP _ b n=>b (.inl (.inl n));refine⟨_,rfl,B.mono λP _ b L=>b (.inr (L▸O.self)),Ok.mk ⟨_,_,_,A,rfl,?_,⟨G9,c0,(O.af y).keep B λP b l=>l (.inr b),e7⟩,((b7.af N).af y).then c1,b5,?_⟩⟩
  ·exact((b8.af N).af y).keep B λP b l=>l (.inl (.inr b))
  ·exact Uw (j:=g+1) oM bc
 ·refine⟨_,?_,g+1,⟨i.size,i.bd++[no],o,i.next⟩,e++k,A,an oM,oM,rfl,?_,by simp;omega,by simp;omega,b8,b6,b7,b5⟩
  ·omega
  ·conv=>lhs;unfold cO
   rw[a1,Zq (by simpa using he),Zq (by show¬o<_;omega)]
end
def dJ(D:ak)(P:Int):dw:=⟨P,[],0,gQ D⟩
def told(D:ak):List Int:=(dz D).getD []
def fM(a:Nat)(P:nY):nY:=
 if P.no≠0 then P else
 if P.V.bd=[]then⟨(aK P.V P.D).1,P.out,(aK P.V P.D).2.1,(aK P.V P.D).2.2⟩else
 if P.V.bd.length<a then⟨(bC P.D P.V.bd).1,P.out,P.V,(bC P.D P.V.bd).2⟩else P
def aT(D:ak)(P:Int):nY:=fM (told D).length (cO (told D) [] (dJ D P) D)
def SH(f c:World)(g:Nat)(d:ZN)(P:nY)(h:Value)(a:World):Prop:=
 (P.no≠0/\h= .tuple #[.pointer none,.slice none 0 0,ZH P.no]/\a_ f a g P.D d/\aj (dS d) c a)\/
 (P.no=0/\∃e i j k G,h= .tuple #[ZL e,.slice i j k,ZH 0]/\aU qq 55 G a i j k P.out/\cE f a g e P.V P.D (λb=>d b\/G b)/\aj (dS d) c a/\(∀b,G b->c.heap.size<=b)/\c.heap.size<=e/\P.out.length<=16777216)
def HK{D:ak}{size:Int}(s:Laid b)(i:a_ b k a D f):
  YX 74 #[ZL a,ZH size] k (Ok (SH b k a f (aT D size))):=by
 have S:∀P,f P->P<k.heap.size:=by obtain⟨a0,h1,h2,h3,h4⟩:=i;exact h4
 have d0:=i.gr.size;obtain⟨a0,hF,-,-,-⟩:=id i;refine CE (PC.ok (Ix (s.af i.gr) hF) ?_);rintro _ e ⟨rfl,F⟩;have T:=i.af F;have d1:=rf D.list;refine⟨_,rfl,PA.mk λw2 U s2 g2=>PC.ok ((T.af U).il s.nH) ?_⟩;rintro _ t ⟨x,y,V,z,rfl,W,X,-,H⟩;have z1:=F.size;have z3:=H.size
 change aU aM 3 z t x y V (told D)at W
 have d2:(told D).length<=64:=DI;have b4:ai e t:=U.then H;refine⟨_,_,_,_,rfl,PA.mk λw4 k4 s4 g4=>PS.mk g4 sM λl k5 s5 Y=>⟨_,_,_,ae Y rfl,?_⟩⟩;have b5:l.heap[t.heap.size]? =some (.cells #[.slice x y V] 230 (0,0)):=Y;have I:ai t l:=k4.new k5 λP c=>.inr oM;have Z:ai e l:=b4.then I;have a8:ai k l:=F.then Z;have b6:=I.get (H.get g2 id) id;have a9:=W.af I
 let J:ZN:=λP=>f P\/(z P\/P=t.heap.size)
 have b7:cE b l a e.heap.size (dJ D size) D J:=by
  refine⟨(·=e.heap.size),T.eV Z (Y:=λ_=>False) (λP c=>c.elim) λP c=>?_,⟨⟨none,0,0,λ_=>False,b6,aU.nil l,λ_ i=>i.elim⟩,rfl,λP c=>oM,Qj _,?_⟩,λP c=>⟨oM,λE=>?_⟩⟩
  ·rcases c with(c|c|c)|c
   ·exact⟨.inl c,by have:=S P c;omega⟩
   ·exact⟨.inr (by have:=X P c;omega),a9.aE P c⟩
   ·exact⟨.inr oM,oM⟩
   ·exact⟨.inr oM,oM⟩
  ·show aN (sE D.list);unfold aN;omega
  ·subst c
   rcases E with E|E|E
   ·have:=S _ E;omega
   ·have:=X _ E;omega
   ·omega
 have K:Row aM 8 l z x y (told D):=a9.row dC ba;refine PC.ok (QB s b7 K (λP c=>.inr (.inl c)) (by show 0+_<=_;omega)) ?_;rintro _ L ⟨a6,n6,c6,m,rfl,A,u,M,b8,b0⟩;have z5:=a8.size;have hq:k.heap.size<=e.heap.size:=z1;have N:aj (dS f) k L:=(ai.keep a8).then (M.mono λP _ c E=>c (.inl E));have g6:=M.get b5 λj=>j (.inr (.inr rfl));have b9:Row aM 8 L z x y (told D):=K.keep M λP c j=>j (.inr (.inl c));have d3:=K.len;show _;unfold aT;generalize cO (told D) [] (dJ D size) D=g at A u b0;have b1:∀P,m P->k.heap.size<=P:=λP c=>by have:=b8 P c;omega
 refine⟨_,_,_,_,rfl,λno n=>∃o p,fM (told D).length g=⟨no,g.out,o,p⟩/\aU qq 55 m n a6 n6 c6 g.out/\cE b n a e.heap.size o p (λP=>f P\/m P)/\aj (dS f) k n,?_,?_⟩
 ·have d:∀{n o p},cE b n a e.heap.size o p (λP=>J P\/m P)->cE b n a e.heap.size o p (λP=>f P\/m P):=λi=>i.mono λP c=>c.imp .inl id
  refine al.dV (λq=>⟨g.V,g.D,by unfold fM;rw[Zx q],A,d u,N⟩) (λv=>?_);obtain⟨GL,c0,b2,c1⟩:=id u;obtain⟨aL,nL,cL,EL,O,b3,c2,c4⟩:=b2.row;refine⟨_,_,rfl,_,_,_,ae O rfl,al.eD (λhz=>?_) (λc5=>?_)⟩
  ·have Q:g.V.bd=[]:=QW oM
   refine PC.ok (Em s u) ?_;rintro _ B ⟨rfl,r,h⟩;exact⟨_,rfl,_,_,by unfold fM;rw[Zq (by simpa using v),Zx Q],A.keep h λP c j=>j (.inr c),d r,N.then (h.mono λP _ c E=>c (.inl (.inl E)))⟩
  ·have q:¬g.V.bd=[]:=λa1=>c5 (by rw[c4,a1];rfl)
   refine⟨_,_,rfl,_,_,_,ae O rfl,_,_,_,ae g6 rfl,λB d7=>?_⟩;have h:ai L B:=d7.keep;have r:=u.af h;have C:=A.af h;have w:aj (dS f) k B:=N.af h;refine al.dec (λd4=>?_) (λd5=>⟨_,_,by unfold fM;rw[Zq (by simpa using v),Zq q,Zq oM],C,d r,w⟩);have c7:=h.get O id;refine⟨_,_,rfl,_,_,_,ae c7 rfl,PC.ok ((c0.af h).bC s.nH (b3.af h) (Mt b3) λP c=>.inr (.inr (c2 P c).1)) ?_⟩;rintro _ w8 ⟨rfl,c8,R⟩;have c9:cE b w8 a e.heap.size g.V (bC g.D g.V.bd).2 (λP=>J P\/m P):=⟨GL,c8,(b2.af h).keep R λP c j=>j (.inr c),c1⟩
   exact⟨_,rfl,_,_,by unfold fM;rw[Zq (by simpa using v),Zq q,Zx oM],C.keep R λP c j=>j (.inl (.inr c)),d c9,w.then (R.mono λP _ c E=>c (.inl (.inl (.inl E))))⟩
 ·rintro no _ B ⟨o,p,Q,C,r,w⟩
  rw[Q];refine al.dV (λq=>Ok.mk (.inl ⟨q,rfl,r.tO.mono λP c=>.inl c,w⟩)) (λv=>Ok.mk (.inr ⟨v,e.heap.size,a6,n6,c6,m,by rfl,C,r,w,b1,hq,b0⟩))
def eK(P:ah):Bool:=decide (64<P.aJ.length)
def aF(a:dw)(D:ak)(b:List ah):Int×dw×ak:=
 if b.any eK then(3,a,D)else if b=[]then(0,a,D)else
 let P:=if a.size<=a.bytes then aK a D else(0,a,D)
 if P.1≠0 then P else
 let c:=P.2.2.append P.2.1.last (az b)
 if c.1≠0 then(c.1,P.2.1,c.2)else(0,⟨P.2.1.size,P.2.1.bd,ZG .i64 (P.2.1.bytes+((az b).length:Nat)),P.2.1.next⟩,c.2)
def sF{D:ak}(P:(aK b0 D).1=0):(aK b0 D).2.1.bd≠[]:=by
 have d:∀a:ak,(mj b0 a).1=0->(mj b0 a).2.1.bd≠[]:=by
  intro a;unfold mj;dsimp only;split
  ·rename_i b;intro P;exact Zz P b
  ·split
   ·rename_i b;intro P;exact Zz P b
   ·intro _;simp
 have c:∀a:ak,(bA b0 a).1=0->(bA b0 a).2.1.bd≠[]:=by
  intro a;unfold bA;dsimp only;split
  ·rename_i b;intro P;exact Zz P b
  ·exact d _
 revert P
 unfold aK;dsimp only;split
 ·exact c D
 ·split
  ·rename_i b;intro P;exact Zz P b
  ·exact c _
def LZ(P:l.Ok)(a:l.aJ.length<=64):(mT l).length<=675:=by
 have:=Ek P a;have b:=qj P a;unfold mT at*;rw[eT];omega
def nX(P:List ah)(a:ah):az (P++[a])=az P++mT a:=by simp[az]
def KX{D:ak}{v b6:Nat}(V:Laid b)(u:cE b k a c b0 D f)(d0:b0.bd≠[])(hr:Row ia 96 k a4 d v B)(d1:∀P,a4 P->P<k.heap.size)(hl:B.length<=20000000):
  YX 91 #[ZL c,.slice d v b6] k (Ok (El b k a c f (aF b0 D B))):=by
 have z:=hr.len;have e9:=u.aE;refine rH ⟨λa6 K L W a7 w=>∃(h:Nat) (x:ZN),a7=h/\h<=v/\a6=v-h/\(∀g∈B.take h,g.Ok/\g.aJ.length<=64)/\(az (B.take h)).length<=675*h/\aU fN 5 x w K L W (az (B.take h))/\ai k w/\∀P,x P->k.heap.size<=P,
  ⟨_,0,λ_=>False,rfl,Qj _,rfl,sM,by simp[az],aU.nil k,aj.refl _,λ_ u=>u.elim⟩,?_⟩
 rintro a6 K L W a7 _ X ⟨h,x,rfl,hj,rfl,Z,d4,p,m,hF⟩;have b3:=p.len dC;refine al.dec (λd5=>?_) (λd6=>?_)
 ·obtain⟨P,a0,g,es,rfl,_,_,q,j,c0,n1,c1,rfl,hd,M⟩:=(hr.af m).vQ (i:=h) oM
  have n:=λi (hi:i<10)=>j i hi;refine⟨P,a0,rfl,oM,oM,_,_,_,_,_,_,_,_,_,_,_,_,n 0 dC,n 1 dC,n 2 dC,n 3 dC,n 4 dC,n 5 dC,n 6 dC,n 7 dC,n 8 dC,n 9 dC,PA.mk λA C s2 g2=>?_⟩;refine storeAll (aD g c0 n1 c1) g2 rfl λE r s3 o=>?_;have y:ai X E:=C.new r λP e=>.inr oM;refine⟨_,_,_,_,_,_,_,_,_,_,_,_,ae o rfl,ae o rfl,ae o rfl,ae o rfl,ae o rfl,ae o rfl,ae o rfl,ae o rfl,ae o rfl,ae o rfl,?_⟩;refine PC.ok (DJ (V.af ((u.gr.then m).then y)) (hd.af y) M λP e=>by have:=d1 P e;have:=(m.then y).size;omega) ?_;rintro _ w4 ⟨c3,n4,f0,F4,rfl,s,t,b4⟩
  by_cases N:g.aJ.length<=64
  ·have a8:=qj M N
   rw[a8]at s⊢;have f1:=LZ M N;refine⟨_,_,_,_,rfl,al.dV (λj=>Zz rfl j) (λ_=>?_)⟩;have a9:=y.then t;have c4:Row fN 1 w4 F4 c3 n4 (mT g):=s.row (bytes:=1) dC (by unfold aO;dsimp only;omega);have f2:=a9.size;have f3:=y.size;refine zn (p.af a9) sU c4 (λg=>s.Nl g) (λP e=>⟨s.aE P e,λj=>by have:=p.aE P (p.self P j);have:=b4 P e;omega⟩) ba (by unfold maxLen;omega) λb5 c5 w5 F5 a1 d7 d8 _=>?_;have b1:B.take (h+1)=B.take h++[g]:=by rw[Qw,q];rfl
   refine⟨_,_,_,rfl,v-(h+1),oM,h+1,F5,an oM,oM,rfl,?_,?_,?_,(m.then a9).new d7 λP e=>.inr (by have:=hF P (p.self P e);omega),?_⟩
   ·rw[b1]
    intro c6 a2;rcases Q6.1 a2 with Y|Y
    ·exact Z c6 Y
    ·simp at Y;subst Y;exact⟨M,N⟩
   ·rw[b1,nX];simp;omega
   ·rw[b1,nX];exact a1
   ·intro P e
    have:=m.size;rcases d8 P e with Y|Y|Y
    ·exact hF P Y
    ·have:=b4 P Y;omega
    ·omega
  ·have a8:=xr N
   rw[a8]at s⊢;refine⟨_,_,_,_,rfl,al.dV (λ_=>?_) (λj=>Zz j dC)⟩;have d2:B.any eK=true:=List.any_eq_true.2 ⟨g,QZ q,by unfold eK;simp;omega⟩;refine Ok.mk ?_;rw[show aF b0 D B=(3,b0,D) by unfold aF;rw[Zx d2]];have b7:=(m.then y).then t;exact⟨rfl,u.af b7,ai.keep b7⟩
 ·obtain rfl:h=v:=oM
  rw[Qz oM]at Z d4 p b3;have b8:B.any eK=false:=by
   rw[<-Bool.not_eq_true];intro j;obtain⟨g,he,h2⟩:=List.any_eq_true.1 j;have:=(Z g he).2;unfold eK at h2;simp at h2;omega
  refine al.eD (λhz=>?_) (λd9=>?_)
  ·have he:B=[]:=QW oM
   refine Ok.mk ?_;rw[show aF b0 D B=(0,b0,D) by unfold aF;rw[Zq (by simp[b8]),Zx he]];exact⟨rfl,u.af m,ai.keep m⟩
  have e0:B≠[]:=λg=>d9 (by rw[z,g];rfl)
  let F:ZN:=λP=>f P\/x P
  have b9:cE b X a c b0 D F:=u.add m λP e=>⟨hF P e,p.aE P e⟩
  have d3:aF b0 D B=if(if b0.size<=b0.bytes then aK b0 D else(0,b0,D)).1≠0 then(if b0.size<=b0.bytes then aK b0 D else(0,b0,D))else
    if((if b0.size<=b0.bytes then aK b0 D else(0,b0,D)).2.2.append (if b0.size<=b0.bytes then aK b0 D else(0,b0,D)).2.1.last (az B)).1≠0 then(((if b0.size<=b0.bytes then aK b0 D else(0,b0,D)).2.2.append (if b0.size<=b0.bytes then aK b0 D else(0,b0,D)).2.1.last (az B)).1,(if b0.size<=b0.bytes then aK b0 D else(0,b0,D)).2.1,((if b0.size<=b0.bytes then aK b0 D else(0,b0,D)).2.2.append (if b0.size<=b0.bytes then aK b0 D else(0,b0,D)).2.1.last (az B)).2)
    else(0,⟨(if b0.size<=b0.bytes then aK b0 D else(0,b0,D)).2.1.size,(if b0.size<=b0.bytes then aK b0 D else(0,b0,D)).2.1.bd,ZG .i64 ((if b0.size<=b0.bytes then aK b0 D else(0,b0,D)).2.1.bytes+((az B).length:Nat)),(if b0.size<=b0.bytes then aK b0 D else(0,b0,D)).2.1.next⟩,((if b0.size<=b0.bytes then aK b0 D else(0,b0,D)).2.2.append (if b0.size<=b0.bytes then aK b0 D else(0,b0,D)).2.1.last (az B)).2):=by
   unfold aF;rw[Zq (by simp[b8]),Zq e0]
  obtain⟨GL,f4,e2,f5⟩:=id b9;obtain⟨aL,nL,cL,EL,gL,f6,f7,g0⟩:=e2.row;rw[d3];refine⟨λw=>∃H O,(if b0.size<=b0.bytes then aK b0 D else(0,b0,D))=(0,H,O)/\H.bd≠[]/\cE b w a c H O F/\aj (dS f) k w/\aU fN 5 x w K L W (az B),?_,?_⟩
  ·refine⟨c,0,rfl,_,ae gL rfl,c,0,rfl,_,ae gL rfl,λA e1=>?_⟩
   have C:ai X A:=e1.keep;have Q:=b9.af C;have R:=p.af C;have S:aj (dS f) k A:=ai.keep (m.then C);refine al.dec (λd6=>?_) (λd5=>⟨b0,D,by rw[Zq oM],d0,Q,S,R⟩);refine PC.ok (Em V Q) ?_;rintro _ E ⟨rfl,I,r⟩;have c2:aj (dS f) k E:=S.then (r.mono λP _ e q=>e (.inl q));have a3:(if b0.size<=b0.bytes then aK b0 D else(0,b0,D))=aK b0 D:=Zx oM;rw[a3];refine⟨_,rfl,al.dV (λa5=>?_) (λT=>⟨_,_,by rw[<-T],sF T,I,c2,R.keep r λP e z=>z (.inr e)⟩)⟩;rw[Zx a5];exact Ok.mk ⟨rfl,I.mono λP e=>.inl e,c2⟩
  ·rintro _ A ⟨H,O,a3,e3,Q,S,R⟩ E e4
   rw[a3];have r:ai A E:=e4.keep;have I:=Q.af r;have e5:=R.af r;obtain⟨G3,e6,U,J⟩:=id I;obtain⟨f8,n3,f9,E3,e7,-,-,-⟩:=U.row;refine⟨λP=>P≠c,c,0,rfl,λhs=>hs rfl,_,ae e7 rfl,PC.ok (Iy (V.af I.gr) U e3) ?_⟩;rintro _ w4 ⟨rfl,t⟩;have s:=e5.af t;have e8:Row fN 1 w4 x K L (az B):=s.row (bytes:=1) dC ba;refine⟨_,rfl,t.keep,PC.ok ((e6.af t).append e8 (λg=>s.Nl g) λP e=>.inr (.inl (.inr e))) ?_⟩;rintro _ w5 ⟨rfl,b2,k5⟩;have l:=(U.af t).keep k5 λP e z=>z (.inr e);have c7:aj (dS f) k w5:=((S.af r).af t).then (k5.mono λP _ e q=>e (.inl (.inl q)));refine⟨_,rfl,k5.mono λP _ e g=>e (.inr (g▸U.self)),?_⟩;rw[Zq (λj:((0,H,O):Int×dw×ak).1≠0=>j rfl)];refine al.dV (λa5=>?_) (λT=>?_)
   ·rw[Zx a5]
    exact Ok.mk ⟨rfl,cE.mono (X:=F) ⟨G3,b2,l,J⟩ λP e=>.inl e,c7⟩
   ·rw[Zq (by simpa using T)]
    obtain⟨b5,n5,c5,E5,c8,a1,c9⟩:=l.body;refine⟨c,0,rfl,_,ae c8 rfl,c,0,rfl,PS.mk c8 sM λw6 k6 s6 g6=>Ok.mk ⟨rfl,?_,c7.then (k6.mono λP _ e q=>(J P (e▸l.self)).2 (.inl q))⟩⟩;rw[b3]at g6;refine cE.mono (X:=F) ⟨G3,b2.eV k6 (λP e=>⟨.inr (e▸l.self),(J P (e▸l.self)).1⟩) (λP e=>⟨.inl e,by have:=(e.elim (cE.aE (X:=F) ⟨G3,b2,l,J⟩ P) (l.aE P):P<w5.heap.size);omega⟩),⟨⟨b5,n5,c5,E5,g6,a1.keep k6 λP e g=>(c9 P e).2 g,c9⟩,l.self,λP e=>by have:=l.aE P e;omega,l.many,l.AK⟩,J⟩ λP e=>.inl e
def dP(P:List UInt8):bP:=⟨P,P.length,true⟩
structure bV (D:ak):Prop where
 dead:D.dead=false
 iQ:D.iQ=false
section
variable {D E:ak} {k:ByteArray} {l:List Int}
def AQ(D:ak)(P:ak->Int×ak):D.op P=(15,D.gone)\/D.op P=P D.cU:=by
 unfold ak.op;split
 ·exact .inl rfl
 ·exact .inr rfl
def bV.op(a:bV D)(P:ak->Int×ak):D.op P=P D:=by
 unfold ak.op ak.dies ak.cU;rw[a.dead,a.iQ]
 rfl
def bV.same(P:bV D)(a:E.dead=D.dead)(b:E.iQ=D.iQ):bV E:=⟨a.trans P.dead,b.trans P.iQ⟩
def Pw(P:bP):P.cut P.bytes.length=dP P.bytes:=by
 have a:gF (P.bytes.length:Int) P.bytes.length=P.bytes.length:=by unfold gF;omega
 simp[bP.cut,a,dP]
def kv(D:ak)(k:ByteArray):((D.create k).1≠0/\(D.create k).2.files=D.files)\/((D.create k).1=0/\c_ k=true/\aq D.files k=none/\(D.create k).2.files=aI D.files k ⟨[],0,false⟩):=by
 unfold ak.create;rcases AQ D λD=>if c_ k then(if(aq D.files k).isSome then(16,D)else if 64<=D.files.length then(12,D)else(0,D.fE k ⟨[],0,false⟩))else(1,D)with h|h
 ·rw[h];exact .inl ⟨sM,rfl⟩
 ·rw[h]
  have P:=ey D;split
  ·rename_i a
   split
   ·exact .inl ⟨sM,P⟩
   ·split
    ·exact .inl ⟨sM,P⟩
    ·rename_i b _
     refine .inr ⟨rfl,a,?_,?_⟩
     ·rw[<-P];simpa using b
     ·show aI D.cU.files k _=_;rw[P]
  ·exact .inl ⟨sM,P⟩
def bV.create(P:bV D)(k:ByteArray):bV (D.create k).2/\(c_ k=true->aq D.files k=none->(D.create k).1=0\/(D.create k).1=12):=by
 unfold ak.create;rw[P.op];split
 ·split
  ·rename_i d b;exact⟨P,λ_ a=>by rw[a]at b;cases b⟩
  ·split
   ·exact⟨P,λ_ _=>.inr rfl⟩
   ·exact⟨P.same rfl rfl,λ_ _=>.inl rfl⟩
 ·rename_i a;exact⟨P,λc=>Zz c a⟩
def uS(D:ak)(k:ByteArray)(P:ak->bP->Int×ak):((D.op (ak.AR k P)).1≠0/\(D.op (ak.AR k P)).2.files=D.files)\/∃a,aq D.files k=some a/\D.op (ak.AR k P)=P D.cU a:=by
 rcases AQ D (ak.AR k P)with h|h
 ·rw[h];exact .inl ⟨sM,rfl⟩
 ·rw[h]
  unfold ak.AR;rw[ey];split
  ·exact .inl ⟨sM,ey D⟩
  ·rename_i a b;exact .inr ⟨a,b,rfl⟩
def bV.on(a:bV D)(b:aq D.files k=some W)(P:ak->bP->Int×ak):D.op (ak.AR k P)=P D W:=by
 rw[a.op];unfold ak.AR;rw[b]
def bV.Wo(a:bV D){P:ak->bP->Int×ak}(b:∀c,bV (P D c).2):bV (D.op (ak.AR k P)).2:=by
 rw[a.op];unfold ak.AR;split
 ·exact a
 ·exact b _
def nI(D:ak)(k:ByteArray)(a:List UInt8):((D.append k a).1≠0/\(D.append k a).2.files=D.files)\/((D.append k a).1=0/\∃P,aq D.files k=some P/\(D.append k a).2.files=aI D.files k {P with bytes:=P.bytes++a}):=by
 unfold ak.append;rcases uS D k λD P=>if(a.length:Int)>D.room then(12,D)else(0,D.fE k {P with bytes:=P.bytes++a})with b|⟨P,c,b⟩
 ·exact .inl b
 ·rw[b]
  split
  ·exact .inl ⟨sM,ey D⟩
  ·exact .inr ⟨rfl,P,c,by show aI D.cU.files k _=_;rw[ey]⟩
def bV.append(P:bV D)(k:ByteArray)(a:List UInt8):bV (D.append k a).2/\∀b,aq D.files k=some b->(D.append k a).1=0\/(D.append k a).1=12:=by
 refine⟨?_,λb c=>?_⟩
 ·unfold ak.append
  refine P.Wo λb=>?_;split
  ·exact P
  ·exact P.same rfl rfl
 ·unfold ak.append
  rw[P.on c];split
  ·exact .inr rfl
  ·exact .inl rfl
def mL(D:ak)(k:ByteArray):((D.sync k).1≠0/\(D.sync k).2.files=D.files)\/((D.sync k).1=0/\∃P,aq D.files k=some P/\(D.sync k).2.files=aI D.files k (dP P.bytes)):=by
 unfold ak.sync;rcases uS D k λD P=>(0,D.fE k (P.cut P.bytes.length))with a|⟨P,b,a⟩
 ·exact .inl a
 ·rw[a,Pw];exact .inr ⟨rfl,P,b,by show aI D.cU.files k _=_;rw[ey]⟩
def bV.sync(P:bV D)(k:ByteArray):bV (D.sync k).2/\∀a,aq D.files k=some a->(D.sync k).1=0:=by
 refine⟨?_,λa b=>?_⟩
 ·unfold ak.sync;exact P.Wo λa=>P.same rfl rfl
 ·unfold ak.sync;rw[P.on b]
def bV.mW(a:bV D)(b:aq D.files k=some W)(P:Int):(D.mW k P).1=0/\(D.mW k P).2=D.fE k (W.cut P)/\bV (D.mW k P).2:=by
 unfold ak.mW;rw[a.on b];exact⟨rfl,rfl,a.same rfl rfl⟩
def iY(D:ak)(k:ByteArray):(D.delete k).2.files=D.files\/(D.delete k).2.files=bL D.files k:=by
 unfold ak.delete;rcases uS D k λD a=>(0,D.uT k)with P|⟨a,b,P⟩
 ·exact .inl P.2
 ·rw[P];exact .inr (by show bL D.cU.files k=_;rw[ey])
def bV.delete(P:bV D)(k:ByteArray):bV (D.delete k).2/\((D.delete k).2.files=bL D.files k\/(aq D.files k=none/\(D.delete k).2.files=D.files)):=by
 unfold ak.delete;refine⟨P.Wo λb=>P.same rfl rfl,?_⟩;rw[P.op];unfold ak.AR;split
 ·rename_i a;exact .inr ⟨a,rfl⟩
 ·exact .inl rfl
def te(k:ByteArray)(D E:ak):Prop:=Tidy E.files/\∀P,P≠k->aq E.files P=aq D.files P
def te.refl(P:Tidy D.files):te k D D:=⟨P,λ_ _=>rfl⟩
def te.of(P:te k D E){a:ak}(b:a.files=E.files):te k D a:=⟨by rw[b];exact P.1,λc d=>by rw[b];exact P.2 c d⟩
def te.put(P:te k D E){a:ak}(b:a.files=aI E.files k W):te k D a:=⟨by rw[b];exact P.1.aI _ _,λd c=>by rw[b,bD,Zq (by simpa using c)];exact P.2 d c⟩
def te.del(P:te k D E){F:ak}(a:F.files=bL E.files k):te k D F:=⟨by rw[a];exact P.1.bL _,λc b=>by rw[a,fL P.1,Zq (by simpa using b)];exact P.2 c b⟩
def te.clean(P:te aQ D E):te aQ D (ep E).2:=by
 unfold ep;split
 ·rcases iY E aQ with e|e
  ·exact P.of e
  ·exact P.del e
 ·exact P
def zl:aQ≠bS:=λP=>by have:=tn;rw[P]at this;simp at this
def RZ(D:ak)(l:List Int)(P:Int×ak):Prop:=(P.1≠0/\te aQ D P.2)\/
  (P.1=0/\l.length<=64/\Tidy P.2.files/\aq P.2.files bS=some (dP (bO l))/\∀a,a≠aQ->a≠bS->aq P.2.files a=aq D.files a)
def RZ.step{a k:Nat}{r:Int×ak}(g:oI l a E=r)(b:r.1≠0->te aQ D r.2)(c:r.1=0->RZ D l (nZ l (a+1) k r.2)):RZ D l (nZ l a (k+1) E):=by
 rw[nZ,g];split
 ·rename_i P;exact .inl ⟨P,(b P).clean⟩
 ·rename_i P;exact c (by simpa using P)
def JQ(o:Tidy D.files)(l:List Int):RZ D l (bC D l):=by
 unfold bC;split
 ·exact .inl ⟨sM,te.refl o⟩
 rename_i z;have i:te aQ D (ep D).2:=(te.refl o).clean;refine RZ.step (r:=ep D) rfl (λ_=>i) λ_=>?_;generalize(ep D).2=e at i;have B:=kv e aQ;refine RZ.step (r:=e.create aQ) rfl (λd=>?_) λu=>?_
 ·rcases B with B|B
  ·exact i.of B.2
  ·exact Zz B.1 d
 rcases B with B|⟨_,_,_,B⟩
 ·exact Zz u B.1
 have k:te aQ D (e.create aQ).2:=i.put B;have p:aq (e.create aQ).2.files aQ=some ⟨[],0,false⟩:=by rw[B,bD];simp
 generalize(e.create aQ).2=f at k p;have b:=nI f aQ (bO l);refine RZ.step (r:=f.append aQ (bO l)) rfl (λd=>?_) λv=>?_
 ·rcases b with b|b
  ·exact k.of b.2
  ·exact Zz b.1 d
 rcases b with b|⟨_,j,c,b⟩
 ·exact Zz v b.1
 rw[p]at c;cases c
 have m:te aQ D (f.append aQ (bO l)).2:=k.put b;have q:aq (f.append aQ (bO l)).2.files aQ=some ⟨bO l,0,false⟩:=by rw[b,bD];simp
 generalize(f.append aQ (bO l)).2=g at m q;have F:=mL g aQ;refine RZ.step (r:=g.sync aQ) rfl (λd=>?_) λw=>?_
 ·rcases F with F|F
  ·exact m.of F.2
  ·exact Zz F.1 d
 rcases F with F|⟨_,j,c,F⟩
 ·exact Zz w F.1
 rw[q]at c;cases c
 have h:te aQ D (g.sync aQ).2:=m.put F;have r:aq (g.sync aQ).2.files aQ=some (dP (bO l)):=by rw[F,bD];simp
 generalize(g.sync aQ).2=P at h r;have a:((P.rename aQ bS).1≠0/\(P.rename aQ bS).2.files=P.files)\/((P.rename aQ bS).1=0/\(P.rename aQ bS).2.files=aI (bL P.files aQ) bS (dP (bO l))):=by
  unfold ak.rename;rcases uS P aQ λD j=>if c_ bS then(0,(D.uT aQ).fE bS {j with jf:=true})else(1,D)with n|⟨j,c,n⟩
  ·exact .inl n
  ·rw[n,Zx HO]
   rw[r]at c;cases c
   exact .inr ⟨rfl,by show aI (bL P.cU.files aQ) bS _=_;rw[ey];rfl⟩
 refine RZ.step (r:=P.rename aQ bS) rfl (λd=>?_) λx=>?_
 ·rcases a with a|a
  ·exact h.of a.2
  ·exact Zz a.1 d
 rcases a with a|⟨_,a⟩
 ·exact Zz x a.1
 refine .inr ⟨rfl,oM,?_,?_,λs t y=>?_⟩
 ·show Tidy (P.rename aQ bS).2.files;rw[a];exact(h.1.bL _).aI _ _
 ·show aq (P.rename aQ bS).2.files bS=_;rw[a,bD];simp
 ·show aq (P.rename aQ bS).2.files s=_
  rw[a,bD,Zq (by simpa using y),fL h.1,Zq (by simpa using t)];exact h.2 s t
def R_(P:Int×ak):Prop:=bV P.2/\(P.1=0\/P.1=3\/P.1=12)
def bV.clean(P:bV D):bV (ep D).2:=by
 unfold ep;split
 ·exact(P.delete _).1
 ·exact P
def Km(b:bV D)(P:Tidy D.files):(ep D).1=0/\aq (ep D).2.files aQ=none/\Tidy (ep D).2.files:=by
 unfold ep;split
 ·rename_i a
  obtain⟨e,c⟩:=Option.isSome_iff_exists.1 a;have d:D.delete aQ=(0,D.uT aQ):=by unfold ak.delete;rw[b.on c]
  rw[d];exact⟨rfl,by show aq (bL _ _) _=_;rw[fL P];simp,P.bL _⟩
 ·rename_i a;exact⟨rfl,by simpa using a,P⟩
def R_.step{P k:Nat}{r:Int×ak}(g:oI l P E=r)(a:bV r.2)(b:r.1=0\/r.1=3\/r.1=12)(c:r.1=0->R_ (nZ l (P+1) k r.2)):R_ (nZ l P (k+1) E):=by
 rw[nZ,g];split
 ·exact⟨a.clean,b⟩
 ·rename_i d;exact c (by simpa using d)
def bV.bC(i:bV D)(s:Tidy D.files)(l:List Int):R_ (bC D l):=by
 unfold Go.Proofs.YtblabbpipmodgaaGreatDoor.bC;split
 ·exact⟨i,.inr (.inl rfl)⟩
 obtain⟨z1,p,t⟩:=Km i s;have j:=i.clean;refine R_.step (r:=ep D) rfl j (.inl z1) λ_=>?_;generalize(ep D).2=e at j p t;have P:=kv e aQ;obtain⟨k,u⟩:=j.create aQ;refine R_.step (r:=e.create aQ) rfl k ((u Sa p).imp id .inr) λv=>?_;rcases P with P|⟨_,_,_,P⟩
 ·exact Zz v P.1
 have q:aq (e.create aQ).2.files aQ=some ⟨[],0,false⟩:=by rw[P,bD];simp
 generalize(e.create aQ).2=f at k q;have a:=nI f aQ (bO l);obtain⟨m,w⟩:=k.append aQ (bO l);refine R_.step (r:=f.append aQ (bO l)) rfl m ((w _ q).imp id .inr) λx=>?_;rcases a with a|⟨_,b,A,a⟩
 ·exact Zz x a.1
 have g:∃b,aq (f.append aQ (bO l)).2.files aQ=some b:=by rw[a,bD];simp
 generalize(f.append aQ (bO l)).2=h at m g;obtain⟨B,g⟩:=g;have c:=mL h aQ;obtain⟨d,y⟩:=m.sync aQ;refine R_.step (r:=h.sync aQ) rfl d (.inl (y _ g)) λz=>?_;rcases c with c|⟨_,b,C,c⟩
 ·exact Zz z c.1
 have r:aq (h.sync aQ).2.files aQ=some (dP b.bytes):=by rw[c,bD];simp
 generalize(h.sync aQ).2=n at d r;have o:n.rename aQ bS=(0,(n.uT aQ).fE bS {dP b.bytes with jf:=true}):=by
  unfold ak.rename;rw[d.on r,Zx HO]
 refine R_.step (r:=n.rename aQ bS) rfl (by rw[o];exact d.same rfl rfl) (.inl (by rw[o])) λE=>?_;rw[o];exact⟨d.same rfl rfl,.inl rfl⟩
def Nq{l:List (ByteArray×bP)}(b:Tidy l)(c:bP->Bool)(e:bP->bP)(k:ByteArray):
  aq ((l.filter λP=>c P.2).map λP=>(P.1,e P.2)) k=(aq l k).bind λg=>if c g then some (e g)else none:=by
 induction l with
 |nil=>rfl
 |cons m l f=>
  obtain⟨P,h⟩:=m;unfold Tidy at b f;simp only[QY,List.nodup_cons]at b;rw[List.filter_cons]
  by_cases i:(k==P)=true
  ·have n:k=P:=eq_of_beq i
   subst n;have o:aq ((l.filter λP=>c P.2).map λP=>(P.1,e P.2)) k=none:=by
    rw[mX];intro j;apply b.1;simp only[List.map_map,Xk,List.mem_filter]at j⊢;obtain⟨p,⟨q,_⟩,r⟩:=j;exact⟨p,q,r⟩
   by_cases a:c h=true
   ·simp[a,aq]
   ·rw[Zq (by simpa using a),o];simp[a,aq]
  ·have d:(k==P)=false:=by simpa using i
   by_cases a:c h=true
   ·simp only[a,if_true,QY,aq,d,Bool.false_eq_true,if_false]
    exact f b.2
   ·rw[Zq (by simpa using a)]
    simp only[aq,d,Bool.false_eq_true,if_false];exact f b.2
def DN(b:Tidy D.files)(a:Int)(k:ByteArray):aq (D.dY a).files k=(aq D.files k).bind λP=>if P.jf then some (r_ a P)else none:=
 Nq b (λP=>P.jf) (r_ a) k
def Kn(b:Tidy D.files)(a:Int):Tidy (D.dY a).files:=by
 show(((D.files.filter λP=>P.2.jf).map λP=>(P.1,r_ a P.2)).map (·.1)).Nodup;rw[List.map_map];exact(qk b λP=>P.2.jf)
def HP(D:ak)(P:Int):bV (D.dY P):=⟨rfl,rfl⟩
def DO(b:Int)(P:List UInt8)(d:a<=P.length):∃c,a<=c/\c<=P.length/\r_ b ⟨P,a,true⟩=dP (P.take c):=by
 refine⟨gF (FO b ⟨P,a,true⟩) P.length,?_,mY _ _,?_⟩
 ·unfold gF FO;simp only;omega
 ·have:=mY (FO b ⟨P,a,true⟩) P.length
  unfold r_ bP.cut dP;simp only[Qy,X2 this]
def tM(a:Tidy D.files)(P:Int){k:ByteArray}(b:aq D.files k=some (dP v)):aq (D.dY P).files k=some (dP v):=by
 rw[DN a,b];obtain⟨d,e,f,c⟩:=DO P v (Q4 _);show(if true then some (r_ P ⟨v,v.length,true⟩)else none)=_;rw[c,Qz oM];rfl
end
abbrev oV:=List (Int×List ah)
def cX(P:oV):List Int:=P.map (·.1)
def cu(P:oV)(a:List ah):List ah:=(P.map (·.2)).flatten++a
structure cM (D:ak) (A:oV) (no:Int) (l:List ah) (k:Nat):Prop where
 tidy:Tidy D.files
 full:∀x∈A,aq D.files (ay x.1)=some (dP (az x.2))
 last:∃s,aq D.files (ay no)=some ⟨az l,s,true⟩/\(az (l.take k)).length<=s/\s<=(az l).length
 kl:k<=l.length
 UT:aq D.files bS=some (dP (bO (cX A++[no])))
 zf:∀n∈cX A++[no],1<=n/\n<1000000000000
 ym:(cX A++[no]).Pairwise (·<·)
 evs:∀e∈cu A l,e.Ok/\e.aJ.length<=64
 many:A.length+1<=64
structure GU (V:dw) (A:oV) (no:Int) (l:List ah):Prop where
 bd:V.bd=cX A++[no]
 bytes:V.bytes=((az l).length:Nat)
 next:no<V.next/\V.next<=1000000000000
def fj{n:Int}(d:c_ (ay n)=true\/0<=n/\n<1000000000000):ay n≠bS/\ay n≠aQ:=by
 have b:bS.data.toList.take 4≠dF:=by decide+kernel
 have c:aQ.data.toList.take 4≠dF:=by decide+kernel
 have P:(ay n).data.toList.take 4=dF\/(ay n).data.toList=[]:=by
  unfold ay;rw[nn];unfold ax;split
  ·exact .inr rfl
  ·exact .inl (by simp[dF])
 refine⟨λa=>?_,λa=>?_⟩
 ·rw[a]at P
  rcases P with P|P
  ·exact b P
  ·revert P;decide+kernel
 ·rw[a]at P
  rcases P with P|P
  ·exact c P
  ·revert P;decide+kernel
def qY{a P:Int}(b:0<=a/\a<1000000000000)(c:ay P=ay a):P=a:=IA b.1 b.2 (Mu c)
def s_(a:0<=e):c_ (ay e)=true↔e<1000000000000:=by
 constructor
 ·intro P
  by_cases b:e<1000000000000
  ·exact b
  ·have:ay e=cF []:=by unfold ay ax;rw[Zx (.inr oM)]
   have c:c_ (cF [])=false:=by decide+kernel
   rw[this,c]at P;cases P
 ·intro P;exact IB a P
def jm(P:List ah)(a:Nat):(az (P.take a)).length<=(az P).length:=by
 have b:=ZX a P
 conv=>rhs;rw[<-b,fQ,QX]
 omega
def BE(P:oV)(no:Int)(a b:List ah):cu (P++[(no,a)]) b=cu P a++b:=by simp[cu]
section
variable {D E:ak} {A:oV} {no:Int} {l x:List ah} {k j:Nat} {V:dw}
def cM.same(P:cM D A no l k)(d:Tidy E.files)(a:∀b∈cX A++[no],aq E.files (ay b)=aq D.files (ay b))(e:aq E.files bS=aq D.files bS):cM E A no l k:=
 ⟨d,λx c=>(a x.1 (ZV _ (Xk.2 ⟨x,c,rfl⟩))).trans (P.full x c),by
  obtain⟨f,g,h⟩:=P.last;exact⟨f,(a no (ZW _ (List.mem_singleton.2 rfl))).trans g,h⟩,P.kl,e.trans P.UT,P.zf,P.ym,P.evs,P.many⟩
def cM.files(a:cM D A no l k)(P:E.files=D.files):cM E A no l k:=a.same (by rw[P];exact a.tidy) (λ_ _=>by rw[P]) (by rw[P])
def cM.tf(P:cM D A no l k):1<=no/\no<1000000000000:=P.zf no (ZW _ (List.mem_singleton.2 rfl))
def cM.TF(a:cM D A no l k):∀P∈A,ay P.1≠ay no:=λP c d=>by
 have e:=a.tf;have:=qY ⟨oM,e.2⟩ d;have b:=a.ym;rw[List.pairwise_append]at b;have:=b.2.2 P.1 (Xk.2 ⟨P,c,rfl⟩) no (List.mem_singleton.2 rfl);omega
def cM.put(P:cM D A no l k){s c:Nat}(a:E.files=aI D.files (ay no) ⟨az B,s,true⟩)(f:c<=B.length)(g:(az (B.take c)).length<=s)(h:s<=(az B).length)(i:∀b∈B,b.Ok/\b.aJ.length<=64):cM E A no B c:=
 ⟨by rw[a];exact P.tidy.aI _ _,λd e=>by rw[a,bD,Zq (by simpa using P.TF d e)];exact P.full d e,⟨s,by rw[a,bD];simp,g,h⟩,f,by
  have:=(fj (n:=no) (.inr (by have:=P.tf;omega))).1;rw[a,bD,Zq (by simpa using this.symm)];exact P.UT,P.zf,P.ym,λb a=>by
  rcases Q6.1 a with F|F
  ·exact P.evs b (ZV _ F)
  ·exact i b F,P.many⟩
def cM.VY(a:cM D A no l k):∀P∈l,P.Ok/\P.aJ.length<=64:=λP b=>a.evs P (ZW _ b)
def cM.KP(P:GU V A no l):V.last=ay no:=by unfold dw.last;rw[P.bd];simp[ay]
def cM.mono(P:cM D A no l k)(a:j<=k):cM D A no l j:=by
 obtain⟨b,c,d,e⟩:=P.last;exact⟨P.tidy,P.full,⟨b,c,Xx (BF a) d,e⟩,Xx a P.kl,P.UT,P.zf,P.ym,P.evs,P.many⟩
def Ee(P:cM D A no l k):((D.sync (ay no)).1=0/\cM (D.sync (ay no)).2 A no l l.length)\/((D.sync (ay no)).1≠0/\cM (D.sync (ay no)).2 A no l k):=by
 rcases mL D (ay no)with⟨a,b⟩|⟨a,e,c,b⟩
 ·exact .inr ⟨a,P.files b⟩
 ·obtain⟨f,d,g,h⟩:=P.last
  rw[d]at c;cases c
  exact .inl ⟨a,P.put b (Q4 _) (by rw[List.take_length];exact Q4 _) (Q4 _) P.VY⟩
def BG(n:Tidy D.files)(o:0<=V.next):((bA V D).1≠0/\(bA V D).2.1=V/\Tidy (bA V D).2.2.files/\∀x,x≠ay V.next->x≠aQ->aq (bA V D).2.2.files x=aq D.files x)\/
  ((bA V D).1=0/\V.next<1000000000000/\V.bd.length+1<=64/\aq D.files (ay V.next)=none/\(bA V D).2.1=⟨V.size,V.bd++[V.next],0,V.next+1⟩/\Tidy (bA V D).2.2.files/\aq (bA V D).2.2.files (ay V.next)=some (dP [])/\
   aq (bA V D).2.2.files bS=some (dP (bO (V.bd++[V.next])))/\∀x,x≠ay V.next->x≠aQ->x≠bS->aq (bA V D).2.2.files x=aq D.files x):=by
 unfold bA;dsimp only;rw[show cF (ax V.next)=ay V.next from rfl];rcases kv D (ay V.next)with⟨f,g⟩|⟨f,g,w,p⟩
 ·rw[Zx f]
  exact .inl ⟨f,rfl,by show Tidy (D.create _).2.files;rw[g];exact n,λx _ _=>by show aq (D.create (ay V.next)).2.files x=_;rw[g]⟩
 have q:=(s_ o).1 g;obtain⟨y,nt⟩:=fj (n:=V.next) (.inr ⟨o,q⟩);rw[Zq (show¬(D.create (ay V.next)).1≠0 by simpa using f)];have h:te (ay V.next) D (D.create (ay V.next)).2:=(te.refl n).put p;have r:aq (D.create (ay V.next)).2.files (ay V.next)=some ⟨[],0,false⟩:=by rw[p,bD];simp
 generalize(D.create (ay V.next)).2=a at h r;unfold mj;dsimp only;rw[show cF (ax V.next)=ay V.next from rfl];have b:∀{F:ak},Tidy F.files->(∀x,x≠ay V.next->x≠aQ->aq F.files x=aq D.files x)->Tidy (F.delete (ay V.next)).2.files/\∀x,x≠ay V.next->x≠aQ->aq (F.delete (ay V.next)).2.files x=aq D.files x:=by
  intro F m s;rcases iY F (ay V.next)with e|e
  ·rw[e];exact⟨m,s⟩
  ·rw[e];exact⟨m.bL _,λx P c=>by rw[fL m,Zq (by simpa using P)];exact s x P c⟩
 rcases mL a (ay V.next)with⟨i,d⟩|⟨i,E,t,d⟩
 ·rw[Zx i]
  have:=b (F:=(a.sync (ay V.next)).2) (by rw[d];exact h.1) λx P _=>by rw[d];exact h.2 x P
  exact .inl ⟨i,rfl,this⟩
 rw[r]at t;cases t
 have j:te (ay V.next) D (a.sync (ay V.next)).2:=h.put d;have u:aq (a.sync (ay V.next)).2.files (ay V.next)=some (dP []):=by rw[d,bD];simp
 rw[Zq (show¬(a.sync (ay V.next)).1≠0 by simpa using i)];generalize(a.sync (ay V.next)).2=z at j u;rcases JQ j.1 (V.bd++[V.next])with⟨k,l⟩|⟨k,l,A,B,v⟩
 ·rw[Zx k]
  have:=b (F:=(bC z (V.bd++[V.next])).2) l.1 λx P c=>(l.2 x c).trans (j.2 x P);exact .inl ⟨k,rfl,this⟩
 ·rw[Zq (by simpa using k)]
  refine .inr ⟨rfl,q,by simpa using l,w,?_,A,(v _ nt y).trans u,B,λx P c C=>(v x c C).trans (j.2 x P)⟩;rw[wrap_i64 bb]
def cM.bA(c:cM D A no l l.length)(j:GU V A no l):((bA V D).1≠0/\(bA V D).2.1=V/\cM (bA V D).2.2 A no l l.length)\/
  ((bA V D).1=0/\(bA V D).2.1.size=V.size/\cM (bA V D).2.2 (A++[(no,l)]) V.next [] 0/\GU (bA V D).2.1 (A++[(no,l)]) V.next []/\(bA V D).2.1.next=V.next+1):=by
 have H:=c.tf;have I:=j.next;have q:∀P∈cX A++[no],P<V.next:=λP b=>by
  rcases Q6.1 b with a|a
  ·have k:=c.ym
   rw[List.pairwise_append]at k;have:=k.2.2 P a no (List.mem_singleton.2 rfl);omega
  ·have:=List.mem_singleton.1 a;omega
 have m:∀P∈cX A++[no],ay P≠ay V.next:=λP b e=>by
  have a:=c.zf P b;have k:=q P b;have:=qY (a:=P) ⟨oM,a.2⟩ e.symm;omega
 have f:∀P∈cX A++[no],ay P≠bS/\ay P≠aQ:=λP b=>fj (.inr (by have:=c.zf P b;omega));have u:bS≠ay V.next:=λe=>by
  by_cases J:V.next<1000000000000
  ·exact(fj (n:=V.next) (.inr oM)).1 e.symm
  ·have v:ay V.next=cF []:=by unfold ay ax;rw[Zx (.inr oM)]
   rw[v]at e
   revert e;decide+kernel
 rcases BG (V:=V) c.tidy oM with⟨n,r,h,o⟩|⟨n,r,h,o,g,w,x,s,t⟩
 ·exact .inl ⟨n,r,c.same h (λP b=>o _ (m P b) (f P b).2) (o _ u λe=>zl e.symm)⟩
 ·rw[j.bd]at h s
  have y:A.length+1+1<=64:=by simpa[cX]using h
  have i:cX (A++[(no,l)])=cX A++[no]:=by simp[cX]
  refine .inr ⟨n,by rw[g],⟨w,λp z=>?_,⟨0,x,by simp[az],Qj _⟩,Q4 _,by rw[i];exact s,?_,?_,by rw[BE,List.append_nil];exact c.evs,by simpa using y⟩,⟨by rw[g,i,j.bd],by rw[g];simp[az],by rw[g];simp only;omega⟩,by rw[g]⟩
  ·rcases Q6.1 z with a|a
   ·have d:p.1∈cX A++[no]:=ZV _ (Xk.2 ⟨p,a,rfl⟩)
    rw[t _ (m _ d) (f _ d).2 (f _ d).1];exact c.full p a
   ·rw[List.mem_singleton]at a
    subst a;have d:no∈cX A++[no]:=ZW _ (List.mem_singleton.2 rfl);obtain⟨B,C,E,K⟩:=c.last;rw[List.take_length]at E;have F:B=(az l).length:=oM
    show aq _ (ay no)=_;rw[t _ (m _ d) (f _ d).2 (f _ d).1,C,F];rfl
  ·rw[i]
   intro P b;rcases Q6.1 b with a|a
   ·exact c.zf P a
   ·have:=List.mem_singleton.1 a;omega
  ·rw[i,List.pairwise_append]
   exact⟨c.ym,List.pairwise_singleton _ _,λP b L d=>by have:=List.mem_singleton.1 d;have:=q P b;omega⟩
def cM.begin(d:cM D A no l k)(a:GU V A no l):((aK V D).1≠0/\(aK V D).2.1=V/\cM (aK V D).2.2 A no l k)\/
  ((aK V D).1=0/\(aK V D).2.1.size=V.size/\cM (aK V D).2.2 (A++[(no,l)]) V.next [] 0/\GU (aK V D).2.1 (A++[(no,l)]) V.next []/\(aK V D).2.1.next=V.next+1):=by
 have e:¬V.bd=[]:=by rw[a.bd];simp
 have f:aK V D=if(D.sync (ay no)).1≠0 then((D.sync (ay no)).1,V,(D.sync (ay no)).2)else Go.Proofs.YtblabbpipmodgaaGreatDoor.bA V (D.sync (ay no)).2:=by
  unfold aK;rw[Zq e,cM.KP a]
 rw[f];rcases Ee d with⟨P,c⟩|⟨P,c⟩
 ·rw[Zq (by simpa using P)]
  rcases c.bA a with⟨g,h,i⟩|b
  ·exact .inl ⟨g,h,i.mono d.kl⟩
  ·exact .inr b
 ·rw[Zx P];exact .inl ⟨P,rfl,c⟩
end
def bJ(P:List ah):List UInt8×Int:=if P.any eK then([],3)else(az P,0)
def Kf(V:Laid b)(E:Row ia 96 b f d a B)(W:∀P,f P->P<b.heap.size)(hl:B.length<=20000000):
  YX 115 #[.slice d a c] b (Ok λX q=>∃F H I m,X= .tuple #[.slice F H I,ZH (bJ B).2]/\aU fN 5 m q F H I (bJ B).1/\ai b q/\∀P,m P->b.heap.size<=P):=by
 have hn:=E.len;refine wA ⟨λJ K L N O q=>∃(e:Nat) (m:ZN),O=e/\e<=a/\J=a-e/\(∀g∈B.take e,g.Ok/\g.aJ.length<=64)/\(az (B.take e)).length<=675*e/\aU fN 5 m q K L N (az (B.take e))/\ai b q/\∀P,m P->b.heap.size<=P,
  ⟨_,0,λ_=>False,rfl,Qj _,rfl,sM,by simp[az],aU.nil b,aj.refl _,λ_ u=>u.elim⟩,?_⟩
 rintro J K L N O _ Y ⟨e,m,rfl,hj,rfl,v,Z,o,n,w⟩;refine al.dec (λa9=>?_) (λb0=>?_)
 ·obtain⟨P,x,g,es,rfl,_,_,Q,k,a1,n1,c1,rfl,hd,s⟩:=(E.af n).vQ (i:=e) oM
  have h:=λi (hi:i<10)=>k i hi;refine⟨P,x,rfl,oM,oM,_,_,_,_,_,_,_,_,_,_,_,_,h 0 dC,h 1 dC,h 2 dC,h 3 dC,h 4 dC,h 5 dC,h 6 dC,h 7 dC,h 8 dC,h 9 dC,PA.mk λw2 k2 s2 g2=>?_⟩;refine storeAll (aD g a1 n1 c1) g2 rfl λw3 k3 s3 j=>?_;have p:ai Y w3:=k2.new k3 λP l=>.inr oM;refine⟨_,_,_,_,_,_,_,_,_,_,_,_,ae j rfl,ae j rfl,ae j rfl,ae j rfl,ae j rfl,ae j rfl,ae j rfl,ae j rfl,ae j rfl,ae j rfl,?_⟩;refine PC.ok (DJ (V.af (n.then p)) (hd.af p) s λP l=>by have:=W P l;have:=(n.then p).size;omega) ?_;rintro _ R ⟨a4,n4,c4,F4,rfl,r,S,T⟩
  by_cases t:g.aJ.length<=64
  ·have y:=qj s t
   rw[y]at r⊢;have b1:=LZ s t;refine⟨_,_,_,_,rfl,al.dV (λk=>Zz rfl k) (λ_=>?_)⟩;have z:=p.then S;have a0:Row fN 1 R F4 a4 n4 (mT g):=r.row (bytes:=1) dC (by unfold aO;dsimp only;omega);have b2:=z.size;have b3:=p.size;refine zn (o.af z) sU a0 (λg=>r.Nl g) (λP l=>⟨r.aE P l,λk=>by have:=o.aE P (o.self P k);have:=T P l;omega⟩) ba (by unfold maxLen;omega) λb4 c5 w5 F5 a3 a6 a7 _=>?_;have A:B.take (e+1)=B.take e++[g]:=by rw[Qw,Q];rfl
   refine⟨_,_,_,rfl,a-(e+1),oM,e+1,F5,an oM,oM,rfl,?_,?_,?_,(n.then z).new a6 λP l=>.inr (by have:=w P (o.self P l);omega),?_⟩
   ·rw[A]
    intro a2 C;rcases Q6.1 C with M|M
    ·exact v a2 M
    ·simp at M;subst M;exact⟨s,t⟩
   ·rw[A,nX];simp;omega
   ·rw[A,nX];exact a3
   ·intro P l
    have:=n.size;rcases a7 P l with M|M|M
    ·exact w P M
    ·have:=T P M;omega
    ·omega
  ·have y:=xr t
   rw[y]at r⊢;refine⟨_,_,_,_,rfl,al.dV (λ_=>?_) (λk=>Zz k dC)⟩;have a5:B.any eK=true:=List.any_eq_true.2 ⟨g,QZ Q,by unfold eK;simp;omega⟩;rw[show bJ B=([],3) by unfold bJ;rw[Zx a5]];exact Ok.mk ⟨none,0,0,λ_=>False,rfl,aU.nil R,(n.then p).then S,λ_ u=>u.elim⟩
 ·obtain rfl:e=a:=oM
  rw[Qz oM]at v Z o;have a8:B.any eK=false:=by
   rw[<-Bool.not_eq_true];intro k;obtain⟨g,he,U⟩:=List.any_eq_true.1 k;have:=(v g he).2;unfold eK at U;simp at U;omega
  rw[show bJ B=(az B,0) by unfold bJ;rw[Zq (by simp[a8])]];exact Ok.mk ⟨_,_,_,m,rfl,o,n,w⟩
def bE(no:Int)(e:List UInt8)(D:ak):Int×ak:=
 let P:=cF (ax no)
 let a:=D.create P
 if a.1≠0 then(a.1,a.2)else
 let b:=a.2.append P e
 if b.1≠0 then(b.1,(b.2.delete P).2)else
 let c:=b.2.sync P
 if c.1≠0 then(c.1,(c.2.delete P).2)else
 let d:=bC c.2 [no]
 (d.1,if d.1≠0 then(d.2.delete P).2 else d.2)
def Nn{D:ak}{no:Int}(hL:Laid b)(L:a_ b k a D f)(R:aN no)(g:Row fN 1 k a4 d c v)(c4:d=none->c=0/\i=0)(b2:∀P,a4 P->f P):
  YX 116 #[ZL a,ZH no,.slice d c i] k (Ok (mU b k a f (bE no v D))):=by
 have e3:=L.gr.size;have S:∀P,f P->P<k.heap.size:=by obtain⟨a3,f1,f2,T,U⟩:=L;exact U
 refine yw (PA.mk λx k1 s1 g1=>PA.mk λw2 V s2 g2=>PC.ok (jv (hL.af ((L.gr.then k1).then V)) R) ?_);rintro _ W ⟨rfl,M⟩;have z3:=M.size;refine⟨_,rfl,PA.mk λw4 X s4 g4=>PS.mk g4 sM λY Z s5 g5=>?_⟩
 let s:ZN:=λP=>f P\/(P=k.heap.size\/P=x.heap.size\/P=W.heap.size)
 have b3:ai k Y:=((((k1.then V).then M).then X)).new Z λP g=>.inr oM;have c9:a_ b Y a D s:=L.add b3 λP g=>by omega
 let y:World->Int->Prop:=λj m=>j.heap[k.heap.size]? =some (.cells #[ZL a] 87 (0,0))/\j.heap[x.heap.size]? =some (.cells #[ZH m] 34 (0,0))/\j.heap[W.heap.size]? =some (.cells #[.string (cF (ax no))] 9 (0,0))
 have C5:y Y 0:=⟨Z.get (X.get (M.get (V.get g1 id) id) id) oM,Z.get (X.get (M.get g2 id) id) oM,g5⟩
 have h:∀{j o:World} {m:Int},y j m->aj (dS s) j o->y o m:=λn t=>
  ⟨t.get n.1 λp=>p (.inr (.inl rfl)),t.get n.2.1 λp=>p (.inr (.inr (.inl rfl))),t.get n.2.2 λp=>p (.inr (.inr (.inr rfl)))⟩
 have H:∀{j o:World},aj (dS f) k j->aj (dS s) j o->aj (dS f) k o:=λd P=>d.then (P.mono λP _ g q=>g (.inl q));have e:∀{j:World} {m B:Int} {u:ak} {κ:ZU},y j m->a_ b j a u s->aj (dS f) k j->(∀o,y o B->a_ b o a u s->aj (dS f) k o->aj (·=x.heap.size) j o->κ o)->PS j ⟨x.heap.size,0,none⟩ (ZH B) κ:=by
  intro j m B u κ n hN t a0;have h1:=aA n.2.1;refine PS.mk n.2.1 sM λo z e4 d0=>a0 o ⟨z.get n.1 oM,d0,z.get n.2.2 oM⟩ ?_ (t.then (z.mono λP _ g q=>by have:=S P q;omega)) z;obtain⟨a3,f1,f2,T,U⟩:=hN;exact⟨a3,f1.keep z λP g m=>(T P g).2 (.inr (.inr (.inl m))),f2.new z λP g=>.inr oM,T,λP g=>Qk (U P g) z.size⟩
 have l:∀{I:Int×ak} (m:Int) (u:ak) (j:World),a_ b j a u s->aj (dS f) k j->y j m->I=(m,if m≠0 then(u.delete (cF (ax no))).2 else u)->
   Lv ZP (λb4=>∃b5:Int,b4.cell? ⟨x.heap.size,0,none⟩=some (ZH b5)/\Ok (mU b k a f I) (.returned (ZH b5)) b4) (λch j=>Ok (mU b k a f I) (.panicked ch) j)
    ([{target:=.fn (.func 170) #[ZL x.heap.size,ZL k.heap.size,ZL W.heap.size],args:= #[]}]:List Deferred) .returning j:=by
  intro I m u j p t n hr;refine Lv.one sM kR (CallsD.mono (tl (R:=λB J=>B= .returned (.tuple #[])/\∃b6:Int,J.cell? ⟨x.heap.size,0,none⟩=some (ZH b6)/\Ok (mU b k a f I) (.returned (ZH b6)) J) ⟨_,ae n.2.1 rfl,al.dV (λr=>⟨_,ae n.1 rfl,_,ae n.2.2 rfl,PC.ok p.delete ?_⟩) (λA=>⟨rfl,_,ae n.2.1 rfl,Ok.mk ?_⟩)⟩) ?_)
  ·rintro _ wb ⟨rfl,d1,kb⟩
   have d2:=h n kb;refine⟨_,rfl,rfl,_,ae d2.2.1 rfl,Ok.mk ?_⟩;rw[hr,Zx r];exact⟨rfl,d1.mono λP g=>.inl g,H t kb⟩
  ·rw[hr,Zq (by simpa using A)]
   exact⟨rfl,p.mono λP g=>.inl g,t⟩
  ·rintro B u' J ⟨rfl,rfl,S⟩
   exact Lv.ret rfl S
 refine⟨_,ae C5.1 rfl,_,ae C5.2.2 rfl,PC.ok c9.create ?_⟩;rintro _ w6 ⟨rfl,b7,k6⟩;have C6:=h C5 k6;have d3:=H (ai.keep b3) k6;have hW:bE no v D=if(D.create (cF (ax no))).1≠0 then((D.create (cF (ax no))).1,(D.create (cF (ax no))).2)else
   if((D.create (cF (ax no))).2.append (cF (ax no)) v).1≠0 then(((D.create (cF (ax no))).2.append (cF (ax no)) v).1,(((D.create (cF (ax no))).2.append (cF (ax no)) v).2.delete (cF (ax no))).2)else
   if((((D.create (cF (ax no))).2.append (cF (ax no)) v).2).sync (cF (ax no))).1≠0 then(((((D.create (cF (ax no))).2.append (cF (ax no)) v).2).sync (cF (ax no))).1,(((((D.create (cF (ax no))).2.append (cF (ax no)) v).2).sync (cF (ax no))).2.delete (cF (ax no))).2)else
   ((bC ((((D.create (cF (ax no))).2.append (cF (ax no)) v).2).sync (cF (ax no))).2 [no]).1,if(bC ((((D.create (cF (ax no))).2.append (cF (ax no)) v).2).sync (cF (ax no))).2 [no]).1≠0 then((bC ((((D.create (cF (ax no))).2.append (cF (ax no)) v).2).sync (cF (ax no))).2 [no]).2.delete (cF (ax no))).2 else(bC ((((D.create (cF (ax no))).2.append (cF (ax no)) v).2).sync (cF (ax no))).2 [no]).2):=rfl
 rw[hW];generalize D.create (cF (ax no))=cr at b7⊢;refine⟨_,rfl,e C6 b7 d3 λJ C b8 a5 k7=>⟨_,ae C.2.1 rfl,al.dV (λr=>?_) (λA=>?_)⟩⟩
 ·refine⟨_,ae C.2.1 rfl,e C b8 a5 λw8 C8 N a6 k8=>⟨_,ae C8.2.1 rfl,Ok.mk ?_⟩⟩
  rw[Zx r];exact⟨rfl,N.mono λP g=>.inl g,a6⟩
 rw[Zq (by simpa using A)];have d4:Row fN 1 J a4 d c v:=g.keep a5 λP g p=>p (b2 P g);refine⟨_,ae C.1 rfl,_,ae C.2.2 rfl,PC.ok (b8.append d4 c4 λP g=>.inr (.inl (b2 P g))) ?_⟩;rintro _ w8 ⟨rfl,N,k8⟩;have C8:=h C k8;have a6:=H a5 k8;generalize cr.2.append (cF (ax no)) v=ap at N⊢;refine⟨_,rfl,e C8 N a6 λw9 E b9 c0 k9=>⟨_,ae E.2.1 rfl,al.dV (λr=>?_) (λA=>?_)⟩⟩
 ·refine⟨_,ae E.2.1 rfl,e E b9 c0 λc1 a7 O a1 a8=>?_⟩
  rw[Zx r];exact l _ _ c1 O a1 a7 (by rw[Zx r])
 rw[Zq (by simpa using A)];refine⟨_,ae E.1 rfl,_,ae E.2.2 rfl,PC.ok b9.sync ?_⟩;rintro _ c1 ⟨rfl,O,a8⟩;have a7:=h E a8;have a1:=H c0 a8;generalize ap.2.sync (cF (ax no))=sy at O⊢;refine⟨_,rfl,e a7 O a1 λa9 K b1 c2 e5=>⟨_,ae K.2.1 rfl,al.dV (λr=>?_) (λA=>?_)⟩⟩
 ·refine⟨_,ae K.2.1 rfl,e K b1 c2 λF b0 a2 c5 Q=>?_⟩
  rw[Zx r];exact l _ _ F a2 c5 b0 (by rw[Zx r])
 rw[Zq (by simpa using A)];refine⟨_,ae K.1 rfl,PA.mk λF Q e6 c3=>?_⟩;have a2:a_ b F a sy.2 (λP=>s P\/P=a9.heap.size):=b1.add Q λP g=>by subst g;exact⟨Q4 _,aA c3⟩
 have c6:Row aM 8 F (·=a9.heap.size) (ZM a9.heap.size) 1 [no]:=Row.lit c3 [no] rfl (λc7 q=>by simp at q;subst q;exact R) (by unfold aO;simp);refine PC.ok (a2.bC hL.nH c6 (λc7 q=>by simp at q;subst q;exact R) λP g=>.inr (.inr g)) ?_;rintro _ d5 ⟨rfl,c8,d6⟩;have w:aj (dS s) F d5:=d6.mono λP _ g hy=>g (.inl hy);have b0:y F sy.1:=h K (ai.keep Q);have d7:=h b0 w;have d8:=H (c2.af Q) w;exact⟨_,rfl,e d7 (c8.mono λP g=>.inl g) d8 λd9 e0 e1 e2 e7=>l _ _ d9 e1 e2 e0 rfl⟩
def i_:List Int->ak->ak
 |[],D=>D
 |no::P,D=>if(D.delete (ay no)).1≠0 then(D.delete (ay no)).2 else i_ P (D.delete (ay no)).2
def aR(P:dw)(D:ak)(a:List ah)(b:Int):nY:=
 if(bJ a).2≠0 then⟨(bJ a).2,[],P,D⟩else
 if(bE P.next (bJ a).1 D).1≠0 then⟨(bE P.next (bJ a).1 D).1,[],P,(bE P.next (bJ a).1 D).2⟩else
 aT (i_ P.bd (bE P.next (bJ a).1 D).2) b
def Kg(d h:World)(e i:Nat)(j:dw)(b:ZN)(a:nY)(f:Value)(c:World):Prop:=
 ∃G,iP c e i G j/\(∀P,G P->d.heap.size<=P/\¬b P)/\aj (dS b) h c/\
  ((a.no≠0/\f= .tuple #[.pointer none,ZH a.no]/\a_ d c e a.D (λP=>b P\/G P))\/
   (a.no=0/\∃g,f= .tuple #[ZL g,ZH 0]/\cE d c e g a.V a.D (λP=>b P\/G P)))
def HI{D:ak}{U a5:Nat}(z:Laid b)(V:cE b k a c b0 D f)(W:Row ia 96 k a4 d U B)(b3:∀P,a4 P->P<k.heap.size)(hl:B.length<=20000000):
  YX 60 #[ZL a,ZL c,.slice d U a5,ZH e] k (Ok (Kg b k a c b0 f (aR b0 D B e))):=by
 obtain⟨G,I,u,A⟩:=id V;have d0:=u.many;refine uv (PC.ok (Kf (z.af V.gr) W b3 hl) ?_);rintro _ w1 ⟨b4,n1,c1,F1,rfl,J,p,b5⟩;have hz:∀P,(f P\/G P)->P<k.heap.size:=by obtain⟨d1,f1,f2,f3,f4⟩:=I;exact f4
 refine⟨_,_,_,_,rfl,al.dV (λj=>Ok.mk ?_) (λq=>PC.ok (Ps (u.af p)) ?_)⟩
 ·rw[show aR b0 D B e=⟨(bJ B).2,[],b0,D⟩ by unfold aR;rw[Zx j]]
  exact⟨G,u.af p,A,ai.keep p,.inl ⟨j,rfl,I.af p⟩⟩
 rintro _ _ ⟨rfl,rfl⟩;have b6:a_ b w1 a D (λP=>(f P\/G P)\/F1 P):=I.add p λP g=>⟨b5 P g,J.aE P g⟩
 have d2:(bJ B).1.length<=13500000000:=by
  unfold bJ;split
  ·simp
  ·rename_i b8
   have:∀n∈B,n.Ok/\n.aJ.length<=64:=λn X=>by
    obtain⟨i,hi⟩:=List.mem_iff_getElem?.1 X;obtain⟨P,v,es,-,-,-,-,b4,n1,c1,-,-,b9⟩:=W.el i n hi;refine⟨b9,?_⟩;have:¬eK n=true:=λK=>b8 (List.any_eq_true.2 ⟨n,X,K⟩);unfold eK at this;simp at this;omega
   have:=HJ this;show(az B).length<=_;omega
 refine⟨_,rfl,PC.ok (Nn z b6 u.AK (J.row (bytes:=1) dC ba) (λn=>J.Nl n) λP g=>.inr g) ?_⟩;rintro _ Y ⟨rfl,c0,Z⟩;have L:a_ b Y a (bE b0.next (bJ B).1 D).2 (λP=>f P\/G P):=c0.mono λP g=>.inl g;have M:=(u.af p).keep Z λP g l=>l (.inl (.inr g));have a6:aj (dS f) k Y:=(ai.keep p).then (Z.mono λP _ g m=>g (.inl (.inl m)));have hC:aR b0 D B e=if(bE b0.next (bJ B).1 D).1≠0 then⟨(bE b0.next (bJ B).1 D).1,[],b0,(bE b0.next (bJ B).1 D).2⟩else aT (i_ b0.bd (bE b0.next (bJ B).1 D).2) e:=by
  unfold aR;rw[Zq (by simpa using q)]
 rw[hC];generalize bE b0.next (bJ B).1 D=w at L⊢;refine⟨_,rfl,al.dV (λj=>Ok.mk ?_) (λq=>?_)⟩
 ·rw[Zx j]
  exact⟨G,M,A,a6,.inl ⟨j,rfl,L⟩⟩
 rw[Zq (by simpa using q)];refine⟨λo=>a_ b o a (i_ b0.bd w.2) (λP=>f P\/G P)/\iP o a c G b0/\aj (dS f) k o,PC.ok (FN M) ?_,?_⟩
 ·rintro _ w3 ⟨a3,s,c3,C,rfl,N,O,c2⟩
  have d3:=N.len dC;have Q:a_ b w3 a w.2 (λP=>(f P\/G P)\/C P):=L.add O λP g=>⟨c2 P g,N.aE P g⟩
  refine⟨_,_,_,rfl,λa0 a1 o=>∃(h:Nat) (r:ak),a1=h/\h<=s/\a0=s-h/\i_ b0.bd w.2=i_ (b0.bd.drop h) r/\a_ b o a r (λP=>(f P\/G P)\/C P)/\aU aM 3 C o a3 s c3 b0.bd/\iP o a c G b0/\aj (dS f) k o,
   ⟨_,0,w.2,rfl,Qj _,rfl,rfl,Q,N,M.af O,a6.af O⟩,?_⟩
  rintro a0 a1 _ w4 ⟨h,r,rfl,hj,rfl,E,x,R,a7,a8⟩;refine al.dec (λd4=>?_) (λd5=>?_)
  ·have c5:Row aM 8 w4 C a3 s b0.bd:=R.row dC ba
   obtain⟨P,v,t,rfl,m,c6,K⟩:=c5.lN (i:=h) oM;refine⟨P,v,rfl,oM,oM,t,K,PC.ok (jv (z.af x.gr) c6) ?_⟩;rintro _ w5 ⟨rfl,F⟩;refine⟨_,rfl,PC.ok (x.af F).delete ?_⟩;rintro _ w6 ⟨rfl,S,T⟩;have b7:b0.bd.drop h=t::b0.bd.drop (h+1):=by
    obtain⟨c7,rfl⟩:=Qv.1 m;exact X4 c7
   rw[b7]at E;have H:i_ b0.bd w.2=if(r.delete (cF (ax t))).1≠0 then(r.delete (cF (ax t))).2 else i_ (b0.bd.drop (h+1)) (r.delete (cF (ax t))).2:=E
   have a9:=(a7.af F).keep T λP g l=>l (.inl (.inr g));have a2:aj (dS f) k w6:=(a8.af F).then (T.mono λP _ g m=>g (.inl (.inl m)));have c8:=(R.af F).keep T λP g l=>l (.inr g);generalize r.delete (cF (ax t))=c4 at H S⊢;refine⟨_,rfl,al.dV (λj=>?_) (λq=>?_)⟩
   ·rw[H,Zx j]
    exact⟨S.mono λP g=>.inl g,a9,a2⟩
   ·rw[Zq (by simpa using q)]at H
    exact⟨s-(h+1),oM,h+1,c4.2,an oM,oM,rfl,H,S,c8,a9,a2⟩
  ·obtain rfl:h=s:=oM
   rw[List.drop_of_length_le oM]at E;rw[E];exact⟨x.mono λP g=>.inl g,a7,a8⟩
 ·rintro _ w3 ⟨Q,b1,b2⟩
  refine PC.ok (HK (size:=e) z Q) ?_;rintro _ w4 (⟨j,rfl,x,y⟩|⟨q,q2,d6,n4,d7,G4,rfl,R,c9,y,-,-,-⟩)
  ·exact⟨_,_,_,_,_,rfl,Ok.mk ⟨G,b1.keep y λP g l=>l (.inr g),A,b2.then (y.mono λP _ g m=>g (.inl m)),.inl ⟨j,rfl,x⟩⟩⟩
  ·exact⟨_,_,_,_,_,rfl,Ok.mk ⟨G,b1.keep y λP g l=>l (.inr g),A,b2.then (y.mono λP _ g m=>g (.inl m)),.inr ⟨q,q2,rfl,c9.mono λP g=>.inl g⟩⟩⟩
end Go.Proofs.YtblabbpipmodgaaGreatDoor
namespace Go.aw
open Go
abbrev FW(P:Option Nat):Fence:={Fence.wide with round:=P}
variable{H:Act}{U:Array Oper}{p:Array Value}{J:Bool}{h0 h1:Bool->ZU}{a0:Code}{z:ZT}{e4:Exit}{d4:Exit->Act->ZU}{a5:Func}{y:FuncId}{b3:List Nat}{a2 e3:List Value}{a c i:Nat}{f:ZN}{c4:Obj}{Q:Oper}{S:Operand}{e2:Operand->Value}{c5:Option Nat}{h:Program}{m:ZR}{b k:World}{N:cZ}{V:cd}{c1:iB}{e1:kf}
def tW:CallsIn (FW c5) a h y p b z↔Calls h y p b z:=
 ⟨λP=>callsIn_wide.1 (show CallsIn Fence.wide a h y p b z from P),λP=>show CallsIn (FW c5) a h y p b z from(callsIn_wide (n:=a)).2 P⟩
def SR(P:Nat):(FW c5).room P:=λ_ a=>by simp[Fence.wide]at a
def Oq{P:String}(c:Rows h P p b m):RowsIn (FW c5) a h P p b m:=by
 intro d cs _;obtain⟨e,f,g,i⟩:=c d cs;exact⟨e,f,g,(stepsIn_wide (P:=h)).2 i⟩
def vK(P:Oper):Bool:=match P.op with
 | .defer _=>false
 |_=>true
def vK.out(P:vK Q=true):∀a,Q.op≠.defer a:=by
 intro a b;unfold vK at P;rw[b]at P;cases P
section
variable {P:Program} {ro:Option Nat} {n:Nat}
def MG{next:Act->ZU}(d:ro=none\/vK Q=true)(a:Q.wp P H b next d4):Q.wpIn (FW ro) n P H b next d4:=by
 refine⟨λ_ _=>trivial,?_⟩;have f:Q.semAt (FW ro).round H.eval=execOp H.eval Q:=by
  rcases d with rfl|d
  ·rfl
  ·exact Oper.semAt_eq _ _ _ (vK.out d)
 rw[f];unfold Oper.wp at a;generalize(execOp H.eval Q).run P b=g at a⊢
 cases g with
 |ok e h=>
  cases e with
  |value i=>exact a
  |skip=>exact a
  |defer j=>exact a
  |enter k c=>exact⟨λa=>by simp[Fence.wide]at a,tW.2 a⟩
  |row row c=>exact⟨λa=>by simp[Fence.wide]at a,Oq a⟩
  |_=>exact a.elim
 |halt e h=>cases e<;>first|exact a|exact a.elim
def qR{b:Array Oper}{g:Exit->Act->ZU}(h:∀d c,¬g .outgrown d c)(e:ro=none\/∀i∈b.toList,vK i=true):∀(f:List Nat) (d:Act) (c:World),wpOps P b g f d c->wpOpsIn (FW ro) n P b g f d c
 |[],d,c,a=>a
 |l::f,d,c,a=>by
  unfold wpOps at a;unfold wpOpsIn
  cases j:b[l]? with
  |none=>rw[j]at a;exact qR h e f d c a
  |some i=>
   rw[j]at a;simp only at a⊢;split
   ·rename_i k
    rw[Zx k]at a;rcases a with a|⟨-,m,o,a⟩
    ·have p:i.wp P d c (wpOpsIn (FW ro) n P b g f) g:=Oper.wp_mono (λd c a=>qR h e f d c a) a
     refine MG ?_ p;rcases e with e|e
     ·exact .inl e
     ·refine .inr (e i ?_)
      obtain⟨q,rfl⟩:=Q5.1 j;simp
    ·exact Zz a (h m o)
   ·rename_i k
    rw[Zq k]at a;exact⟨λ_ _=>trivial,qR h e f _ c a⟩
end
section
variable {F:Fence} {n:Nat} {P:Program} {Q:Exit->Act->ZU} {a:Act} {w:World} {b:Frame} {k:List Item} {cs:List Frame}
def gV:step P (lone (b.atR a (.code (.scope a0)::k)) cs w)= .next (lone (b.atR a (.code a0:: .inScope a0::k)) cs w):=
 step_lone_go (by simp[stepG,stepG.exec,Frame.atR])
def Dr:step P (lone (b.atR a (.inScope a0::k)) cs w)= .next (lone (b.atR a k) cs w):=
 step_lone_go (by simp[stepG,stepG.exec,Frame.atR])
def Lt(o:a0.wpIn F n P (Exit.noGoto Q) a w):(Code.scope a0).wpIn F n P Q a w:=by
 intro b k cs p h i;have e:(lone (b.atR a (.code (.scope a0)::k)) cs w).fenced P F:=fenced_calm h i rfl;obtain⟨q,c,d,f,g⟩:=o b (.inScope a0::k) cs p h i
 cases q with
 |normal=>exact⟨.normal,c,d,f,.head e gV (StepsIn.trans g (.one (fenced_calm h i rfl) Dr))⟩
 |exit id=>
  have m:exitTo id (.inScope a0::k)=exitTo id k:=by simp[exitTo]
  exact⟨.exit id,c,d,f,λr j=>.head e gV (g.1 r (by rw[m];exact j)),
   λl j=>let⟨k₁,h1,h2⟩:=g.2 l (by rw[m];exact j);⟨k₁,h1,.head e gV h2⟩⟩
 |goto s=>exact f.elim
 |ret=>exact⟨_,c,d,f,.of_steps (.one e gV) g⟩
 |panic t=>exact⟨_,c,d,f,.of_steps (.one e gV) g⟩
 |outgrown=>exact⟨_,c,d,f,.of_steps (.one e gV) g⟩
def wpIn_loop_ghost(b:Nat->Act->ZU)(c:Nat)(g:b c a w)(d:∀e a w,b e a w->a0.wpIn F n P (Exit.then (λh i=>∃l,l<e/\b l h i) Q) a w):(Code.loop a0).wpIn F n P Q a w:=by
 refine wpIn_loop (λa w=>∃e,b e a w) (λa w=>leastOf (λe=>b e a w)) ⟨c,g⟩ ?_;intro a w m;refine wpIn_mono (d _ a w (leastOf_spec m).1) ?_;intro o h i f
 cases o with
 |normal=>
  obtain⟨j,p,k⟩:=f;exact show(∃n,b n h i)/\leastOf (λn=>b n h i)<leastOf (λn=>b n a w)from⟨⟨j,k⟩,Nat.lt_of_le_of_lt ((leastOf_spec ⟨j,k⟩).2 j k) p⟩
 |exit id=>exact f
 |goto q=>exact f
 |ret=>exact f
 |panic r=>exact f
 |outgrown=>exact f
end
def Lu(A:h.follows .mixedOrders=true){n id:Nat}(B:∀a,a∈writes (.region id U J)->a<n)(p:Rel n V N H)(P:D h e1 (.region id U J) c1 V N H.defers b):
  (J=false->wpOps h U (du n V N (writes (.region id U J)) c1) (List.range U.size) H b)/\
  (J=true->∀a,wpOps h U (du n V N (writes (.region id U J)) c1) (Region.schedule (h.follows .mixedOrders) U a) H {b with drawn:=b.drawn+1}):=by
 have m:∀j∈U.toList,∀k,j.dst=some k->k<n/\k∈writes (.region id U J):=λj g k y=>⟨B k (kr g y),kr g y⟩
 have q:∀r a,jA U r=some a->a<n:=by
  intro r a l;unfold jA at l
  cases g:U[r]? with
  |none=>rw[g]at l;simp at l
  |some j=>
   rw[g]at l;have C:j∈U.toList:=by
    have:=Q5.1 g;obtain⟨O,rfl⟩:=this;simp
   exact(m j C a l).1
 cases J with
 |false=>
  refine⟨λ_=>?_,λP=>by cases P⟩;rw[List.range_eq_range',<-XK,wpOps_eq_wpList U.toList 0 sM];exact zy q U.toList N H b m p (λ_ _=>rfl) P
 |true=>
  refine⟨λP=>(by cases P),λ_ a=>?_⟩;simp only[Region.schedule,A,Bool.true_or,if_true];refine wpAny_sound U.size a _ H _ ?_;unfold D at P;simp only at P;split at P
  ·obtain⟨s,P⟩:=ft.out P
   simp only[Region.lexB,QK]at s;have E:=qC (B0:=V) (e0:=N) (W:=writes (.region id U true)) q U.toList N H m p (λ_ _=>rfl) P;have F:wpQuiet h U (bX b) (λo=>∀c,bX b c->du n V N (writes (.region id U true)) c1 .normal o c) U.toList H:=by
    refine ki ?_ _ _ E;rintro o ⟨I,t,u,K,L⟩ c f;exact⟨V,I,t,K,by rw[u];exact L c f⟩
   refine wpAny_of_quiet (C:=bX b) (Q:=λo=>∀c,bX b c->du n V N (writes (.region id U true)) c1 .normal o c) (λ_ c f P=>P c f) _ _ _ _ ⟨1,rfl⟩ ?_;have:=wpAnyQ_lex (C:=bX b) (md:=.any) s.1 U.toList 0 (Array.replicate U.size false) H sM (by simpa using s.2) F;simpa using this
  ·obtain⟨M,P⟩:=ft.out P
   have d:∀(e:Bool) (i:ZN) (v:Nat->Bool),vw h V U e i (λw x b=>∀V N,c1 (.panic w) V N x b) (λN x b=>c1 .normal V N x b) v U.size (Array.replicate U.size false) N H.defers (b.drewN 1)->
     wpAny h .any U (du n V N (writes (.region id U true)) c1) U.size (Array.replicate U.size false) H {b with drawn:=b.drawn+1}:=λe i v P=>
    og (λw H b P=>By.post w H b P) (λ_ _ P=>P) _ _ _ _ _ (lF (B0:=V) (e0:=N) (W:=writes (.region id U true)) q M m v _ _ N H _ p (λ_ _=>rfl) P)
   split at P
   ·split at P
    ·obtain⟨i,P⟩:=P _ ⟨1,rfl⟩
     exact d _ i _ P
    ·exact d _ _ _ (P _ ⟨1,rfl⟩)
   ·obtain⟨z,P⟩:=ft.out P
    split at P
    ·obtain⟨i,P⟩:=P _ ⟨1,rfl⟩
     rw[qG z _ _ (Gn.init _)]at P;exact d _ i _ P
    ·have P:=P _ ⟨1,rfl⟩
     rw[qG z _ _ (Gn.init _)]at P;exact d _ _ _ P
def jJ(a:Program)(b:Nat)(c:List Value)(d:World)(e:Bool->ZU):Prop:=
 YieldAt (FW none) 0 a b c.toArray d λf g=>∃P,f= .returned (.bool P)/\e P g
def jJ.mono(g:jJ h a a2 b h0)(i:∀c f,h0 c f->h1 c f):jJ h a a2 b h1:=by
 obtain⟨j,d,P,e,k,l⟩:=g;exact⟨j,d,P,e,k,l.mono λn f ⟨c,m,g⟩=>⟨c,m,i c f g⟩⟩
def UI(b:Program)(c:Value)(P:Array Value)(d:World)(e:ZR):Prop:=
 ∃a,c= .func (.yield a) #[] #[]/\jJ b a P.toList d λf g=>e (.bool f) g
def zB(P:Oper):Option (Operand×Array Operand):=match P.op with
 | .call {callee:=.value (.func _),..}=>none
 | .call {callee:=.value f,args,..}=>some (f,args)
 |_=>none
def QU(e:Program)(b:cd)(c:Array Oper)(i:iB)(d:Oper)(f:cZ->List Deferred->ZU)(a:cZ)(g:List Deferred)(h:World):Prop:=match zB d with
 |some (j,P)=>UI e (ev b a j) (P.map (ev b a)) h λk l=>f (cx a d.dst k) g l
 |none=>SA e c b d i f a g h
def qS(c:Program)(b:cd)(P:Array Oper)(d:iB):List Oper->(cZ->List Deferred->ZU)->cZ->List Deferred->ZU
 |[],f,e,g,h=>f e g h
 |j::a,f,e,g,h=>match j.guard with
  |none=>QU c b P d j (qS c b P d a f) e g h
  |some (l,i)=>match jA P l with
   |none=>False
   |some k=>match get b e k with
    | .bool m=>al m
     (match i with
      |true=>QU c b P d j (qS c b P d a f) ((k,.bool true)::e) g h
      |false=>qS c b P d a f (cx ((k,.bool true)::e) j.dst undef) g h)
     (match i with
      |true=>qS c b P d a f (cx ((k,.bool false)::e) j.dst undef) g h
      |false=>QU c b P d j (qS c b P d a f) ((k,.bool false)::e) g h)
    | .tuple _=>qS c b P d a f (cx e j.dst undef) g h
    |_=>False
def Lw{P d:Code}(e:RoundIn (FW none) c h i y p P d b z):RoundIn (FW c5) a h i y p P d b z:=
 ⟨trivial,λf cs _=>e.2 f cs (SR _)⟩
def GH{P:Array Operand}{l:Nat}(a:zB Q=some (S,P))(d:e2 S= .func (.yield l) #[] #[]):
  (execOp e2 Q).run h b=(Instr.yield l (P.map e2)).run h b:=by
 unfold zB at a;split at a
 ·cases a
 ·rename_i f c g e
  simp only[Q1,Prod.mk.injEq]at a;obtain⟨rfl,rfl⟩:=a;simp only[execOp,e,resolve,d];simp[Deferred.ofValue,invoke,Sem.run_bind,Sem.run_pure,Result.andThen]
 ·cases a
def vL{w:Program}{B:Option Nat}{L o:Nat}{f t:cd}{u:cZ}{l:List Nat}{a:Array Oper}{m:iB}(M:∀n b,jA a n=some b->b<o)(S:∀a1 f P y g,m a1 f P y g->a1≠.outgrown)(v:B=none\/∀e∈a.toList,vK e=true):
  ∀(N:List Oper) (p:Nat) (P:cZ) (j:Act) (g:World),(∀n,N[n]? =a[p+n]?)->(∀e∈N,∀h,e.dst=some h->h<o/\h∈l)->Rel o f P j->(∀b,b∉l->get f P b=get t u b)->
   qS w f a m N (λP y g=>m .normal f P y g) P j.defers g->wpOpsIn (FW B) L w a (du o t u l m) (List.range' p N.length) j g
 |[],p,P,j,g,_,_,k,i,d=>⟨f,P,k,i,d⟩
 |e::c,p,P,j,g,a2,T,k,i,d=>by
  have h0:a[p]? =some e:=by simpa using(a2 0).symm
  have a4:e∈a.toList:=by
   obtain⟨a7,rfl⟩:=Q5.1 h0;simp
  have U:∀n,c[n]? =a[p+1+n]? :=λn=>by have:=a2 (n+1);simpa[Nat.add_assoc,Nat.add_comm 1 n]using this
  have V:∀h,e.dst=some h->h<o:=λh v=>(T e (QV ..) h v).1;have W:∀(P:cZ),(∀b,b∉l->get f P b=get t u b)->∀C b,b∉l->get f (cx P e.dst C) b=get t u b:=by
   intro P i C b X
   cases v:e.dst with
   |none=>exact i b X
   |some h=>
    have a5:=(T e (QV ..) h v).2;show get f ((h,C)::P) b=_;rw[eB,Zq (by rintro rfl;exact X a5)];exact i b X
  have z:∀e∈c,∀h,e.dst=some h->h<o/\h∈l:=λe ho=>T e (QJ _ ho);have A:∀(P:cZ),Rel o f P j->(∀b,b∉l->get f P b=get t u b)->QU w f a m e (qS w f a m c λP y g=>m .normal f P y g) P j.defers g->
    e.wpIn (FW B) L w j g (wpOpsIn (FW B) L w a (du o t u l m) (List.range' (p+1) c.length)) (du o t u l m):=λP k i d=>by
   unfold QU at d;split at d
   ·rename_i a8 E q
    obtain⟨Y,hf,fn,F,x,H,h1,h2⟩:=d;refine⟨λ_ _=>trivial,?_⟩;have Z:∀a3,e.op≠.defer a3:=by
     intro a3 Z;unfold zB at q;rw[Z]at q;cases q
    rw[Oper.semAt_eq _ _ _ Z,k.eval,GH (l:=Y) q hf];have a6:(Instr.yield Y (E.map (ev f P))).run w g= .ok (.round Y fn F x H) g:=by
     have:=h1
     rwa [Array.toArray_toList]at this
    rw[a6,Oper.uponIn_round];refine⟨λd=>by simp[Fence.wide]at d,(Lw h2).mono ?_⟩;rintro _ w' ⟨I,rfl,hK⟩;exact vL M S v c (p+1) _ _ _ U z (k.put _ V _) (W P i _) (by rw[put_defers];exact hK)
   ·refine MG (v.imp id λv=>v e a4) ?_
    exact KR k V d (λC a' w' a0 hK=>vL M S v c (p+1) _ _ _ U z a0 (W P i C) hK) (λch w' hq=>⟨f,P,k,i,hq⟩)
  have r:∀(P:cZ),Rel o f P j->(∀b,b∉l->get f P b=get t u b)->qS w f a m c (λP y g=>m .normal f P y g) (cx P e.dst undef) j.defers g->
    wpOpsIn (FW B) L w a (du o t u l m) (List.range' (p+1) c.length) (j.put e.dst undef) g:=λP k i d=>
   vL M S v c (p+1) _ _ _ U z (k.put _ V _) (W P i _) (by rw[put_defers];exact d)
  simp only[Xq,List.range'_succ];unfold wpOpsIn;rw[h0];simp only;unfold qS at d;split at d
  ·rename_i O
   rw[Zx (by simp[Region.wanted,O])];exact A P k i d
  ·rename_i n s O
   split at d
   ·exact d.elim
   ·rename_i b hj
    have q:=oe k hj (M n b hj);split at d
    ·rename_i I J
     rw[J]at q;simp only at q;have hw:Region.wanted e (yielded a j.tmps)=(I==s):=by
      simp only[Region.wanted,O,q]
      cases I<;>cases s<;>rfl
     rw[hw];have Q:=k.again J;have R:∀K,K∉l->get f ((b,.bool I)::P) K=get t u K:=λK hu=>by rw[rk J];exact i K hu
     cases I<;>cases s<;>simp only[al]at d
     ·exact A _ Q R d
     ·exact⟨λ_ _=>trivial,r _ Q R d⟩
     ·exact⟨λ_ _=>trivial,r _ Q R d⟩
     ·exact A _ Q R d
    ·rename_i vs J
     rw[J]at q;simp only at q;have hw:Region.wanted e (yielded a j.tmps)=false:=by
      simp[Region.wanted,O,q]
     rw[hw];exact⟨λ_ _=>trivial,r _ k i d⟩
    ·exact d.elim
def pW(b:Nat)(P a:World):Prop:=aj (λc=>c=b) P a/\a.heap.size=P.heap.size
def qi(P:Nat)(a:World):Prop:=a.heap[P]? =some (.deferred (some []))
def MH(P:Nat):Deferred:={target:=.collected P,args:= #[]}
def Lx:List Value->(List Value->Prop)->Prop
 |[],P=>P []
 |z::c,P=>match z with
  | .agg cs=>mi cs.toList λa=>Lx c λb=>P (.agg a.toArray::b)
  |z=>mi [z] λa=>Lx c λb=>P (a++b)
def nE(P:World):ZN:=λa=>a≠P.heap.size/\a≠P.heap.size+1
def sY(a b:List Value):Prop:=∀P:List Value->Prop,Lx a P->P b
def Ot:List (Exit×(ZU))->(Exit->(ZU)->Prop)->Prop
 |[],_=>True
 |(a,b)::c,P=>P a b/\Ot c P
def VF(P:Exit->ZU):List Exit->List (Exit×(ZU))
 |[]=>[]
 |x::a=>(x,λb=>P x b)::VF P a
def Wa(P:Exit):List (Exit×(ZU))->Prop
 |[]=>False
 |(a,_)::b=>P=a\/Wa P b
def Ot.out{b:Exit->ZU}{φ:Exit->(ZU)->Prop}:∀{l:List Exit},Ot (VF b l) φ->∀P,Wa P (VF b l)->P∈l/\φ P (λc=>b P c)
 |[],_,P,a=>a.elim
 |y::i,d,P,a=>by
  obtain⟨e,f⟩:=d;rcases a with rfl|a
  ·exact⟨QV ..,e⟩
  ·obtain⟨g,h⟩:=Ot.out f P a
   exact⟨QJ _ g,h⟩
def FM(n:Program)(v:Value)(w:List Value)(b:World)(y:(List Value->Prop)->(List Value->Exit->ZU)->ZU)(z:ZU)(p:List (Exit×(ZU))):Prop:=
 ∃o l,v= .func (.func o) #[] l/\enters n o=true/\
 ∃(q:Type) (r:q) (g:q->List (List Value)->ZU) (k:Exit->List (List Value)->ZU) (s:List (List Value)->List Value->Prop) (t:List (List Value)->Prop),
  (∀i,aj (λ_=>False) b i->i.heap.size=b.heap.size+2->g r [] i)/\
  (∀c P a e,g c P a->pW (b.heap.size+1) a e->g c P e)/\
  (∀x P a e,k x P a->pW (b.heap.size+1) a e->k x P e)/\
  (∀c P a,g c P a->b.heap.size+2<=a.heap.size->y (s P) (λh x d=>match x with
   | .normal=>g c (P++[h]) d
   |x=>Wa x p/\k x (P++[h]) d) a)/\
  (∀(j:ZU) (m:Exit->ZU),(∀a e,j a->aj (nE b) a e->j e)->(∀x a e,m x a->aj (nE b) a e->m x e)->
   (∀a,j a->b.heap.size+2<=a.heap.size)->
   (∀c P h a,g c P a->j a->sY w h->s P h->jJ n (b.heap.size+1) h a λu d=>(u=true/\g c (P++[h]) d/\j d)\/(u=false/\∃x,k x (P++[h]) d/\m x d))->
   ∀i,g r [] i->j i->Calls n o (#[.func (.yield (b.heap.size+1)) #[] #[]]++l) i λA d=>(∃B,A= .returned B)/\((j d/\∃c f,g c f d/\t f)\/∃x P,k x P d/\m x d))/\
  (∀c f a,g c f a->t f->qi b.heap.size a->z a)/\
  Ot p λx C=>∀P a,k x P a->qi b.heap.size a->C a
def MI:List Nat->List Value->cZ->cZ
 |a::b,c::d,P=>MI b d ((a,c)::P)
 |_,_,P=>P
def Ou:List (Nat×Value)->List Nat
 |[]=>[]
 |(P,_)::a=>P::Ou a
def iG:Code->Bool
 | .region _ a _=>a.toList.all vK
 | .seq b c=>iG b&&iG c
 | .cond _ b c=>iG b&&iG c
 | .block _ P=>iG P
 | .loop P=>iG P
 | .scope P=>iG P
 | .rangeFunc .. =>false
 |_=>true
def gy:Code->List Exit
 | .exit id=>[.exit id]
 | .ret=>[.ret]
 | .seq a b=>gy a++gy b
 | .cond _ a b=>gy a++gy b
 | .block _ P=>gy P
 | .loop P=>gy P
 | .scope P=>gy P
 |_=>[]
def Q_:Exit->Code
 | .ret=>.ret
 | .exit id=>.exit id
 | .goto P=>.goto P
 |_=>.skip
def UJ(P:Exit->ZU):iB:=λb _ _ _ a=>match b with
 | .normal=>P .normal a
 | .ret=>P .ret a
 | .exit id=>P (.exit id) a
 |_=>False
def DR(g:Program)(f:kf)(h:List Nat):Bool->Code->iB->cd->cZ->List Deferred->ZU
 |_,.skip,d,c,P,b,a=>d .normal c P b a
 |_,.label _,d,c,P,b,a=>d .normal c P b a
 |_,.exit id,d,c,P,b,a=>d (.exit id) c P b a
 |_,.ret,d,c,P,b,a=>d .ret c P b a
 |_,.region id q p,d,c,P,b,a=>match Df h id with
  |true=>(match p with
   |false=>qS g c q d q.toList (λP b a=>d .normal c P b a) P b a
   |true=>False)
  |false=>D g f (.region id q p) d c P b a
 |top,.seq i l,d,c,P,b,a=>match NW f.PO (key l)with
  |none=>DR g f h top i (BB (λc P b a=>DR g f h top l d c P b a) d) c P b a
  |some e=>∃x:Fn (iF e) (ZU),DR g f h top i (BB (λm s k j=>BA k b (ap (iF e) x (yY m s e) j)) d) c P b a/\
    e_ (writes i) P λu=>mi (iF e) λn=>∀(m:cd) (j:World),ap (iF e) x n j->DR g f h top l d m (xJ e n u) b j
 |top,.cond o i l,d,c,P,b,a=>match ev c P o with
  | .bool A=>al A (DR g f h top i d c P b a) (DR g f h top l d c P b a)
  |_=>False
 |top,.block id o,d,c,P,b,a=>DR g f h top o (wY id d) c P b a
 |top,.scope o,d,c,P,b,a=>DR g f h top o (Gp d) c P b a
 |top,.loop o,d,c,P,b,a=>match NW f.loops (key o)with
  |none=>False
  |some e=>∃v:Nat->Fn (iF e) (ZU),(∃t,ap (iF e) (v t) (yY c P e) a)/\
    ∀t,e_ (writes o) P λu=>mi (iF e) λn=>∀(m:cd) (j:World),ap (iF e) (v t) n j->
     DR g f h top o (BB (λm s k j=>BA k b (∃y,y<t/\ap (iF e) (v y) (yY m s e) j)) d) m (xJ e n u) b j
 |top,.rangeFunc B C i l,d,c,P,b,a=>match top with
  |false=>False
  |true=>match NW f.loops (key l)with
   |none=>False
   |some e=>ft (NV (Ou e) C.toList&&(iG i&&iG l)) (FM g (ev c P B) (iF e) a
     (λE F r=>Lx (iF e) λn=>E n->DR g f h false i (BB (λm s k j=>aj (nE a) r j/\∀w,pW (a.heap.size+1) j w->DR g f h false l (UJ λi z=>aj (nE a) w z/\F n i z) m s k w) (λ_ _ _ _ _=>False)) c (MI (Ou e) n P) [] r)
     (λr=>d .normal c P (MH a.heap.size::b) r) (VF (λi r=>d i c P (MH a.heap.size::b) r) (gy l)))
 |_,_,_,_,_,_,_=>False
def kZ:Code->List Nat
 | .region _ c _=>Eg c.toList
 | .seq P a=>kZ P++kZ a
 | .cond _ P a=>kZ P++kZ a
 | .block _ b=>kZ b
 | .loop b=>kZ b
 | .scope b=>kZ b
 | .rangeFunc _ d P a=>d.toList++(kZ P++kZ a)
 |_=>[]
def Ra:∀(a:List Value) (c:List Value->Prop),(∀P,P.length=a.length->c P)->Lx a c:=by
 have e:∀(a:List Value) (c:List Value->Prop),(∀P,P.length=a.length->c P)->mi a c:=by
  intro a
  induction a with
  |nil=>intro c b;exact b [] rfl
  |cons h a f=>
   intro c b
   cases h
   case pointer i=>cases i<;>simp only[mi]<;>intros<;>exact f _ λP d=>b _ (by simp[d])
   all_goals(simp only[mi];intros;exact f _ λP d=>b _ (by simp[d]))
 intro a
 induction a with
 |nil=>intro c b;exact b [] rfl
 |cons h a f=>
  intro c b
  cases h
  case pointer i=>cases i<;>(simp only[Lx];exact e [_] _ λP d=>f _ λk g=>b _ (by have j:P.length=1:=d;simp[j,g,Nat.add_comm]))
  case agg cs=>exact e cs.toList _ λP d=>f _ λk g=>b _ (by simp[g])
  all_goals(simp only[Lx];exact e [_] _ λP d=>f _ λk g=>b _ (by have j:P.length=1:=d;simp[j,g,Nat.add_comm]))
def sY.len(P:sY a2 e3):e3.length=a2.length:=P _ (Ra a2 _ λ_ P=>P)
def Je:∀P:List (Nat×Value),(Ou P).length=(iF P).length
 |[]=>rfl
 |(_,_)::a=>by simp[Ou,iF,Je a]
def EC{f:Nat}{j:cd}:∀(c:List Nat) (a:List Value) (d:cZ) (P:Array Value),(∀b∈c,b<f)->a.length=c.length->Rel f j d {tmps:=P,defers:=[]}->
  Rel f j (MI c a d) {tmps:=(c.zip a).foldl (λb (k:Nat×Value)=>b.setIfInBounds k.1 k.2) P,defers:=[]}
 |[],a,d,P,_,e,g=>by
  cases a with
  |nil=>exact g
  |cons h a=>simp at e
 |b::c,a,d,P,l,e,g=>by
  cases a with
  |nil=>simp at e
  |cons h a=>
   exact EC c a ((b,h)::d) _ (λm i=>l m (QJ _ i)) (by simpa using e) (g.put (some b) (λm i=>by cases i;exact l b (QV ..)) h)
def Jf:∀(a:Code) (b:Exit),b∈gy a->b= .ret\/∃id,b= .exit id:=by
 intro a
 induction a with
 |exit id=>intro b P;simp only[gy,List.mem_singleton]at P;exact .inr ⟨id,P⟩
 |ret=>intro b P;simp only[gy,List.mem_singleton]at P;exact .inl P
 |seq b g c d=>intro e P;exact(Q6.1 P).elim (c e) (d e)
 |cond a b g c d=>intro e P;exact(Q6.1 P).elim (c e) (d e)
 |block id a f=>exact f
 |loop a f=>exact f
 |scope a f=>exact f
 |_=>intro e P;cases P
def jF{w:World}{l:Nat}{o:Obj}:pW l w (w.putObj l o):=
 ⟨⟨rfl,rfl,rfl,sM,λa _ P=>World.putObj_heap_other P⟩,sM⟩
def aj.obj(c:aj f b k)(P:b.heap[a]? =some c4)(d:¬f a):k.heap[a]? =some c4:=
 (c.block a (Q5.1 P).1 d).trans P
def du.of(P:Rel a V N H)(c:c1 e4 V N H.defers b):du a V N b3 c1 e4 H b:=⟨V,N,P,λ_ _=>rfl,c⟩
def VG(hm:h.follows .mixedOrders=true){n m:Nat}:∀(I:Code) (r:Option Nat) (d:Bool) (t:iB) (e:cd) (f:cZ) (l:Act) (b:World),
  (r=none\/(d=false/\iG I=true))->(∀a,a∈kZ I->a<n)->(∀u e f Y b,t u e f Y b->u≠.outgrown)->Rel n e f l->DR h e1 b3 d I t e f l.defers b->I.wpIn (FW r) m h (du n e f (writes I) t) l b:=by
 intro I
 induction I generalizing m with
 |skip=>intro r d t e f l b _ _ _ k P;exact wpIn_skip (du.of k P)
 |label a0=>intro r d t e f l b _ _ _ k P;exact wpIn_label (du.of k P)
 |exit id=>intro r d t e f l b _ _ _ k P;exact wpIn_exit (du.of k P)
 |ret=>intro r d t e f l b _ _ _ k P;exact wpIn_ret (du.of k P)
 |goto a0=>intro r d t e f l b _ _ _ k P;exact P.elim
 |refuse rm=>intro r d t e f l b _ _ _ k P;exact P.elim
 |scope I ih=>
  intro r d t e f l b C y J k P;refine Lt (wpIn_mono (ih r d (Gp t) e f l b C y (by intro q e f Y b c Q;subst Q;exact J _ _ _ _ _ c rfl) k P) ?_);intro q v x o;obtain⟨z,w,B,F,c⟩:=o
  cases q with
  |goto a0=>exact c.elim
  |normal=>exact⟨z,w,B,F,c⟩
  |exit id=>exact⟨z,w,B,F,c⟩
  |ret=>exact⟨z,w,B,F,c⟩
  |panic ch=>exact⟨z,w,B,F,c⟩
  |outgrown=>exact⟨z,w,B,F,c⟩
 |region id A Z=>
  intro r d t e f l b C y J k P;have hd:r=none\/∀V∈A.toList,vK V=true:=C.imp (λP=>P) λP=>by
   have:=P.2;unfold iG at this;exact ZY.1 this
  have d1:∀v x,¬du n e f (writes (.region id A Z)) t .outgrown v x:=λl b ⟨e,f,_,_,c⟩=>J _ _ _ _ _ c rfl;unfold DR at P;split at P
  ·split at P
   ·have W:∀V∈A.toList,∀a5,V.dst=some a5->a5<n/\a5∈writes (.region id A false):=λV ho a5 hd=>⟨y a5 (kr ho hd),kr ho hd⟩
    have e9:∀c4 a,jA A c4=some a->a<n:=by
     intro c4 a N;unfold jA at N
     cases ho:A[c4]? with
     |none=>rw[ho]at N;simp at N
     |some V=>
      rw[ho]at N;have f0:V∈A.toList:=by
       obtain⟨d2,rfl⟩:=Q5.1 ho;simp
      exact(W V f0 a N).1
    refine wpIn_region ?_;rw[List.range_eq_range',<-XK];exact vL e9 J hd A.toList 0 f l b sM W k (λ_ _=>rfl) P
   ·exact P.elim
  ·obtain⟨h1,h2⟩:=Lu hm (n:=n) y k P
   cases Z with
   |false=>exact wpIn_region (qR d1 hd _ _ _ (h1 rfl))
   |true=>exact wpIn_region_draw λa=>qR d1 hd _ _ _ (h2 rfl a)
 |seq u R K L=>
  intro r d t e f l b C y J k P;have b4:r=none\/(d=false/\iG u=true):=C.imp (λP=>P) λP=>⟨P.1,by have:=P.2;simp only[iG,QK]at this;exact this.1⟩
  have b5:r=none\/(d=false/\iG R=true):=C.imp (λP=>P) λP=>⟨P.1,by have:=P.2;simp only[iG,QK]at this;exact this.2⟩
  have b6:∀a,a∈kZ u->a<n:=λa j=>y a (Q6.2 (.inl j));have b7:∀a,a∈kZ R->a<n:=λa j=>y a (Q6.2 (.inr j));have g:∀(a3:cd->cZ->List Deferred->ZU) (q:Exit) (v:Act) (x:World),q≠.normal->du n e f (writes u) (BB a3 t) q v x->du n e f (writes (u.seq R)) t q v x:=by
   intro a3 q v x f4 o;refine o.mono (λa j=>Q6.2 (.inl j)) (λ_ _=>rfl) λz w i8 w1 c=>?_
   cases q with
   |normal=>exact Zz rfl f4
   |outgrown=>exact c.elim
   |_=>exact c
  have d3:∀(a3:cd->cZ->List Deferred->ZU) q e f Y b,BB a3 t q e f Y b->q≠.outgrown:=by
   intro a3 q e f Y b c Q;subst Q;exact c.elim
  unfold DR at P;split at P
  ·have hx:=K (m:=m) r d _ e f l b b4 b6 (d3 _) k P
   refine wpIn_seq (wpIn_mono hx ?_);intro q v x o
   cases q with
   |normal=>
    obtain⟨z,w,B,F,c⟩:=o;have hy:=L (m:=m) r d t z w v x b5 b7 J B c;refine wpIn_mono hy (λq d4 d5 o=>?_);refine o.mono (λa j=>Q6.2 (.inr j)) (λa j=>F a λhm=>j (Q6.2 (.inl hm))) λ_ _ _ _ c=>c
   |exit id=>exact g _ _ _ _ sM o
   |goto a0=>exact g _ _ _ _ sM o
   |ret=>exact g _ _ _ _ sM o
   |panic ch=>exact g _ _ _ _ sM o
   |outgrown=>exact g _ _ _ _ sM o
  ·rename_i H hS
   obtain⟨f5,P,c5⟩:=P;obtain⟨w,h1,h2,c5⟩:=e_.out c5;have hx:=K (m:=m) r d _ e f l b b4 b6 (d3 _) k P;refine wpIn_seq (wpIn_mono hx ?_);intro q v x o
   cases q with
   |normal=>
    obtain⟨B2,e2,O,b8,c⟩:=o;obtain⟨b9,hJ⟩:=BA.out c;have hv:=nj O H;have a7:=jB B2 e2 H;have d6:=ap.all a7 hJ c5 (λa=>v.tmps.getD a undef) x hJ;rw[hv,<-b9]at d6;have d7:=vB (n:=n) H O.size h1 h2 (B0:=e) (λa j=>(O.slot a).trans (b8 a j));have hy:=L (m:=m) r d t _ _ v x b5 b7 J d7 d6;refine wpIn_mono hy (λq d4 d5 o=>?_);refine o.mono (λa j=>Q6.2 (.inr j)) (λa j=>?_) λ_ _ _ _ c=>c;rw[<-d7.slot];exact(O.slot a).trans (b8 a λhm=>j (Q6.2 (.inl hm)))
   |exit id=>exact g _ _ _ _ sM o
   |goto a0=>exact g _ _ _ _ sM o
   |ret=>exact g _ _ _ _ sM o
   |panic ch=>exact g _ _ _ _ sM o
   |outgrown=>exact g _ _ _ _ sM o
 |cond I u R K L=>
  intro r d t e f l b C y J k P;have b4:r=none\/(d=false/\iG u=true):=C.imp (λP=>P) λP=>⟨P.1,by have:=P.2;simp only[iG,QK]at this;exact this.1⟩
  have b5:r=none\/(d=false/\iG R=true):=C.imp (λP=>P) λP=>⟨P.1,by have:=P.2;simp only[iG,QK]at this;exact this.2⟩
  unfold DR at P;split at P
  ·rename_i f6 S
   refine wpIn_cond_split (t:=f6) (by rw[k.eval];exact S) (λj=>?_) (λhf=>?_)
   ·subst j
    refine wpIn_mono (K r d t e f l b b4 (λa j=>y a (Q6.2 (.inl j))) J k P) (λq v x o=>?_);exact o.mono (λa j=>Q6.2 (.inl j)) (λ_ _=>rfl) λ_ _ _ _ c=>c
   ·subst hf
    refine wpIn_mono (L r d t e f l b b5 (λa j=>y a (Q6.2 (.inr j))) J k P) (λq v x o=>?_);exact o.mono (λa j=>Q6.2 (.inr j)) (λ_ _=>rfl) λ_ _ _ _ c=>c
  ·exact P.elim
 |block id I ih=>
  intro r d t e f l b C y J k P;refine wpIn_block (wpIn_mono (ih r d (wY id t) e f l b C y (by intro q e f Y b c Q;subst Q;exact c.elim) k P) ?_);intro q v x o;obtain⟨z,w,B,F,c⟩:=o
  cases q with
  |exit a8=>
   show(if a8=id then _ else _);simp only[wY]at c
   cases S:Nat.beq a8 id with
   |true=>
    rw[S]at c;rw[Zx (X9 S)];exact⟨z,w,B,F,c⟩
   |false=>
    rw[S]at c;rw[Zq (by rintro rfl;simp at S)];exact⟨z,w,B,F,c⟩
  |normal=>exact⟨z,w,B,F,c⟩
  |goto a0=>exact⟨z,w,B,F,c⟩
  |ret=>exact⟨z,w,B,F,c⟩
  |panic ch=>exact⟨z,w,B,F,c⟩
  |outgrown=>exact c.elim
 |loop I ih=>
  intro r d t e f l b C y J k P;unfold DR at P;split at P
  ·exact P.elim
  ·rename_i H hS
   obtain⟨f7,⟨m0,h0⟩,f8⟩:=P;refine wpIn_loop_ghost (λm v x=>v.tmps.size=n/\(∀a,a∉writes I->v.tmps.getD a undef=get e f a)/\v.defers=l.defers/\
    ap (iF H) (f7 m) (H.map λa4=>v.tmps.getD a4.1 undef) x) m0 ⟨k.size,λa _=>k.slot a,rfl,by rw[<-nj k H];exact h0⟩ ?_
   rintro mm v x ⟨f9,d8,b9,hI⟩;obtain⟨w,h1,h2,g0⟩:=e_.out (f8 mm);have a7:(H.map λa4=>v.tmps.getD a4.1 undef).length=(iF H).length:=by rw[<-jB e f H,zz];simp
   have S:=ap.all a7 hI g0 (λa=>v.tmps.getD a undef) x hI;have c0:=vB (n:=n) H f9 h1 h2 d8;rw[<-b9]at S;have c6:=ih (m:=m) r d _ _ _ v x C y (by intro q e f Y b c Q;subst Q;exact c.elim) c0 S;refine wpIn_mono c6 ?_;intro q d4 d5 o;obtain⟨B2,e2,O,b8,c⟩:=o;have a9:∀a,a∉writes I->get B2 e2 a=get e f a:=λa j=>(b8 a j).trans ((c0.slot a).symm.trans (d8 a j))
   cases q with
   |normal=>
    obtain⟨g1,m',d2,g2⟩:=BA.out c;refine⟨m',d2,O.size,λa j=>(O.slot a).trans (a9 a j),g1.trans b9,?_⟩;rw[<-nj O H];exact g2
   |outgrown=>exact c.elim
   |exit id=>exact⟨B2,e2,O,a9,c⟩
   |goto a0=>exact⟨B2,e2,O,a9,c⟩
   |ret=>exact⟨B2,e2,O,a9,c⟩
   |panic ch=>exact⟨B2,e2,O,a9,c⟩
 |rangeFunc g3 ps u R K L=>
  intro r d t e f l b C y J k P;unfold DR at P;split at P
  ·exact P.elim
  obtain rfl:r=none:=C.resolve_right λP=>by cases P.1
  split at P
  ·exact P.elim
  rename_i H hS;obtain⟨d9,P⟩:=ft.out P;simp only[QK]at d9;obtain⟨c1,g4,g5⟩:=d9;have c1:=NV.out c1;obtain⟨c7,a1,g6,g7,σ,s0,f5,Jx,a3,i9,g8,e0,c2,c6,g9,h3,h4⟩:=P;have b6:∀a,a∈kZ u->a<n:=λa j=>y a (Q6.2 (.inr (Q6.2 (.inl j))));have b7:∀a,a∈kZ R->a<n:=λa j=>y a (Q6.2 (.inr (Q6.2 (.inr j))));have h5:∀a,a∈ps.toList->a<n:=λa j=>y a (Q6.2 (.inl j));refine wpIn_rangeFunc ?_;intro fn _;obtain⟨p,s⟩:∃p:LoopState->Option Code->Loop,p=λst pe=>{state:=st,pending:=pe,fn,tmps:=l.tmps,params:=ps,assign:=u,body:=R,defers:=b.heap.size}:=⟨_,rfl⟩
  obtain⟨T,b2⟩:∃T,(b.alloc (.deferred (some []))).alloc (.loop (p .ready none))=T:=⟨_,rfl⟩
  have h6:T.heap[b.heap.size+1]? =some (.loop (p .ready none)):=by
   rw[<-b2];have:=World.alloc_heap_new (b.alloc (.deferred (some []))) (.loop (p .ready none));rwa [World.size_alloc]at this
  have h7:T.heap[b.heap.size]? =some (.deferred (some [])):=by
   rw[<-b2];exact(Go.RowKit.Below.heap_alloc _ _ _ sM).trans (World.alloc_heap_new b _)
  have h8:T.heap.size=b.heap.size+2:=by rw[<-b2];simp
  have h9:aj (λ_=>False) b T:=by
   rw[<-b2];exact⟨rfl,rfl,rfl,by simp;omega,λi0 E _=>(Go.RowKit.Below.heap_alloc _ _ _ bc).trans (Go.RowKit.Below.heap_alloc b _ i0 E)⟩
  let i1:ZU:=λe1=>e1.heap[b.heap.size+1]? =some (.loop (p .ready none))/\e1.heap[b.heap.size]? =some (.deferred (some []))
  let Rx:Exit->ZU:=λu e1=>Wa u (VF (λu A0=>t u e f (MH b.heap.size::l.defers) A0) (gy R))/\e1.heap[b.heap.size+1]? =some (.loop (p .done (some (Q_ u))))/\e1.heap[b.heap.size]? =some (.deferred (some []))
  have c3:∀{e1 e:World} {V o':Obj},aj (nE b) e1 e->e1.heap[b.heap.size+1]? =some V->e1.heap[b.heap.size]? =some o'->e.heap[b.heap.size+1]? =some V/\e.heap[b.heap.size]? =some o':=λE h1 h2=>
   ⟨E.obj h1 λP=>P.2 rfl,E.obj h2 λP=>P.1 rfl⟩
  refine⟨b.heap.size+1,[MH b.heap.size],T,{target:=.fn (.func c7) a1,args:= #[.func (.yield (b.heap.size+1)) #[] #[]]},T,c7,#[.func (.yield (b.heap.size+1)) #[] #[]]++a1,T,?_,?_,λ_ _=>trivial,?_,λP=>by simp[Fence.wide]at P,?_⟩
  ·rw[<-b2,s];exact run_enterLoop_outer _ _ _ _ _
  ·have hg:l.eval g3= .func (.func c7) #[] a1:=by rw[k.eval];exact g6
   simp only[resolve,hg];simp[go_sem]
  ·simp only[invoke];exact iC g7 _ _
  refine tW.2 (Calls.mono (g9 i1 Rx (λe1 e P E=>c3 E P.1 P.2) (λu e1 e P E=>⟨P.1,c3 E P.2.1 P.2.2⟩) (λe1 P=>by have:=(Q5.1 P.1).1;omega) ?_ T (g8 T h9 h8) ⟨h6,h7⟩) ?_)
  ·
   rintro c8 M vs A1 N ⟨W,E⟩ e3 hN;have a7:=e3.len;have e4:vs.length=ps.toList.length:=by rw[a7,<-c1,Je]
   have hy:=run_yield (P:=h) (args:=vs.toArray) W (by rw[s];simpa using e4);rw[s]at hy;refine⟨fn,_,u,R,hy,roundIn_of_wpIn trivial ?_⟩;have S:=e3 _ (c6 c8 M A1 N (by have:=(Q5.1 W).1;omega)) hN;have c0:Rel n e (MI (Ou H) vs f) {tmps:=(ps.zip vs.toArray).foldl (λU (u:Tmp×Value)=>U.setIfInBounds u.1 u.2) l.tmps,defers:=[]}:=by
    have h0:Rel n e f {tmps:=l.tmps,defers:=[]}:=⟨k.size,k.slot⟩
    have:=EC ps.toList vs f l.tmps h5 e4 h0;rw[c1];have w:(ps.zip vs.toArray).foldl (λU (u:Tmp×Value)=>U.setIfInBounds u.1 u.2) l.tmps=(ps.toList.zip vs).foldl (λa (a4:Nat×Value)=>a.setIfInBounds a4.1 a4.2) l.tmps:=by
     rw[<-Array.foldl_toList,Array.toList_zip]
    rw[w];exact this
   have hx:=K (m:=0) (some (b.heap.size+1)) false _ e _ _ A1 (.inr ⟨rfl,g4⟩) b6 (by intro q e f Y b c Q;subst Q;exact c.elim) c0 S;refine wpIn_mono hx ?_;intro q i2 A2 o;obtain⟨z,w,B,-,c⟩:=o
   cases q with
   |exit id=>exact c.elim
   |goto a0=>exact c.elim
   |ret=>exact c.elim
   |panic ch=>exact c.elim
   |outgrown=>exact c.elim
   |normal=>
    obtain⟨i3,c⟩:=c;obtain⟨e5,i4⟩:=c3 i3 W E;refine⟨_,run_beginRound e5 (by rw[s]),?_⟩;have c:=c _ (jF (w:=A2) (l:=b.heap.size+1) (o:=.loop {p .ready none with state:=.busy}));have e6:(A2.putObj (b.heap.size+1) (.loop {p .ready none with state:=.busy})).heap[b.heap.size+1]? =some (.loop {p .ready none with state:=.busy}):=World.putObj_heap_same (Q5.1 e5).1;have e7:(A2.putObj (b.heap.size+1) (.loop {p .ready none with state:=.busy})).heap[b.heap.size]? =some (.deferred (some [])):=(World.putObj_heap_other oM).trans i4;generalize A2.putObj (b.heap.size+1) (.loop {p .ready none with state:=.busy})=A3 at c e6 e7;have hy:=L (m:=0) (some (b.heap.size+1)) false _ z w i2 A3 (.inr ⟨rfl,g5⟩) b7 (by intro q e f Y b c Q;subst Q;exact c.elim) B c;refine wpIn_mono hy ?_;have a2:∀(i:Option Code) (X:World),aj (nE b) A3 X->
      (Instr.endRound (b.heap.size+1) i).run h X= .ok (.bool i.isNone) (X.putObj (b.heap.size+1) (.loop (p (if i.isNone then .ready else .done) i)))/\
      (X.putObj (b.heap.size+1) (.loop (p (if i.isNone then .ready else .done) i))).heap[b.heap.size+1]? =some (.loop (p (if i.isNone then .ready else .done) i))/\
      (X.putObj (b.heap.size+1) (.loop (p (if i.isNone then .ready else .done) i))).heap[b.heap.size]? =some (.deferred (some [])):=λi X a6=>by
     obtain⟨e8,i5⟩:=c3 a6 e6 e7;have:=run_endRound (P:=h) i e8;rw[s]at this⊢;exact⟨this,World.putObj_heap_same (Q5.1 e8).1,(World.putObj_heap_other oM).trans i5⟩
    intro q j0 X o;obtain⟨B4,j1,j2,-,b1⟩:=o
    cases q with
    |normal=>
     obtain⟨a6,b0⟩:=b1;obtain⟨f1,f2,f3⟩:=a2 none X a6;exact⟨_,_,f1,true,rfl,.inl ⟨rfl,e0 _ _ _ _ b0 jF,f2,f3⟩⟩
    |ret=>
     obtain⟨a6,c9,b0⟩:=b1;obtain⟨f1,f2,f3⟩:=a2 (some .ret) X a6;exact⟨_,_,f1,false,rfl,.inr ⟨rfl,.ret,c2 _ _ _ _ b0 jF,c9,f2,f3⟩⟩
    |exit id=>
     obtain⟨a6,c9,b0⟩:=b1;obtain⟨f1,f2,f3⟩:=a2 (some (.exit id)) X a6;exact⟨_,_,f1,false,rfl,.inr ⟨rfl,.exit id,c2 _ _ _ _ b0 jF,c9,f2,f3⟩⟩
    |goto a=>exact b1.elim
    |panic ch=>exact b1.elim
    |outgrown=>exact b1.elim
  ·
   rintro ed A2 ⟨⟨j3,rfl⟩,(⟨⟨W,E⟩,c8,d0,N,hT⟩|⟨x1,M,N,i6,W,E⟩)⟩
   ·refine⟨none,_,by have:=run_endLoop (P:=h) W (by rw[s];simp);rw[s]at this;exact this,?_⟩
    exact du.of (k.defers _) (h3 c8 d0 _ (e0 _ _ _ _ N jF) hT ((World.putObj_heap_other oM).trans E))
   ·refine⟨some (Q_ x1),_,by have:=run_endLoop (P:=h) W (by rw[s];simp);rw[s]at this;exact this,?_⟩
    obtain⟨i7,c⟩:=Ot.out h4 x1 i6;rcases Jf R x1 i7 with rfl|⟨id,rfl⟩
    ·exact wpIn_ret (du.of (k.defers _) (c M _ (c2 .ret M A2 _ N jF) ((World.putObj_heap_other oM).trans E)))
    ·exact wpIn_exit (du.of (k.defers _) (c M _ (c2 (.exit id) M A2 _ N jF) ((World.putObj_heap_other oM).trans E)))
def UW(P:ZU):List Deferred->ZU
 |[],a=>P a
 |d::e,a=>match d.target with
  | .collected b=>qi b a/\∀c,pW b a c->UW P e c
  |_=>False
def TL(d:Program)(e:Func)(a:ZT):iB:=λh f g b P=>match h with
 | .normal=>UW (λP=>Iv d e.results.toList f g P λc=>a (.returned (oneOf c)) P) b P
 | .ret=>UW (λP=>Iv d e.results.toList f g P λc=>a (.returned (oneOf c)) P) b P
 | .panic i=>UW (λP=>a (.panicked i) P) b P
 |_=>False
def oB{g:Program}{h:Func}{P:Array Value}{i:ZT}{c:ZU}{f:FrameMode}(j:f≠.run){k:Nat}(l:∀a,c a->LeavesIn (FW none) k g h P i [] f a):∀(e:List Deferred) (a:World),UW c e a->LeavesInM (FW none) k g h P i e f a
 |[],a,b=>l a b
 |d::e,a,b=>by
  unfold UW at b;split at b
  ·rename_i m n
   obtain⟨o,b⟩:=b;exact⟨j,.inl ⟨m,_,n,run_takeDeferred o,oB j l e _ (b _ jF)⟩⟩
  ·exact b.elim
def mS(i:kf)(j:List Nat)(k:h.follows .mixedOrders=true)(l:h.funcs[y]? =some a5)(m:a5.body=some a0)(n:p.size<=a5.ntmps)(o:uq a5.ntmps (kZ a0)=true)(a:DR h i j true a0 (TL h a5 z) (λ_=>undef) (fk 0 p.toList) [] b):Calls h y p b z:=by
 refine tW.1 (callsIn_of_wp_marks (F:=FW none) (n:=0) l m trivial (wpIn_mono (VG k a0 none true (TL h a5 z) _ _ _ b (.inl rfl) (kN o) (by intro d e f u b P q;subst q;exact P.elim) (wZ n []) a) ?_));rintro d r v ⟨e,f,s,_,P⟩;have g:∀b,(Iv h a5.results.toList e f b λc=>z (.returned (oneOf c)) b)->LeavesIn (FW none) 0 h a5 r.tmps z [] .returning b:=λb a=>by
  obtain⟨c,t,a⟩:=qH s a;exact⟨_,qI t,a⟩
 cases d with
 |normal=>exact oB sM g _ _ P
 |ret=>exact oB sM g _ _ P
 |panic w=>exact oB sM (λb a=>a) _ _ P
 |exit id=>exact P.elim
 |goto c=>exact P.elim
 |outgrown=>exact P.elim

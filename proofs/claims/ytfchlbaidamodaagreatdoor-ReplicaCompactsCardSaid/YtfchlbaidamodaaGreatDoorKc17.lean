import Derived.Test.YtfchlbaidamodaaGreatDoorKc16
set_option linter.all false
set_option maxRecDepth 20000
namespace Go.Proofs.YtfchlbaidamodaaGreatDoor
open Go.ax
variable{r:Array Value}{z:FuncId}{e:Int}{d5:Int×ak}{s:List Int}{v:List UInt8}{B:List ah}{a c:Nat}{a4 f:Nat->Prop}{d:Option Addr}{o:Value->World->Prop}{b k:World}{y:World->Prop}{l:ah}{W:bQ}
def cH{D:Nat->Prop}(h:Row aP 8 b D d a s)(i:∀e,D e->e<b.heap.size):
  Calls ZQ 96 #[.slice d a c] b (Ok (qD aP 3 b s)):=by
 have y:=h.len;have f:=h.d_;refine oO (kZ tN.under ⟨_,rfl,al.mk (λg=>?_) (λg=>PA.mk λl j z m=>?_)⟩)
 ·have:s=[]:=by
   cases d with
   |none=>
    cases s with
    |nil=>rfl
    |cons n A=>obtain⟨e,o,B,p,_⟩:=h.el 0 n rfl;cases p
   |some q=>cases g
  subst this;exact Ok.mk ⟨none,0,0,λ_=>False,rfl,aV.nil b,aj.refl _,λ_ h=>h.elim⟩
 ·cases d with
  |none=>cases g
  |some q=>
   have r:aV aP 3 (·=b.heap.size) l (ZZ b.heap.size) 0 0 []:=
    ⟨⟨[],λ_=>False,Own.xF (cur:= #[]) m rfl (Qj _),rfl,λ_ h=>h.elim⟩,λe f=>by simpa[aI]using f.symm,λe f=>oM⟩
   refine lH r tN (D:=D) (h.af j) (λe f=>⟨by have:=i e f;omega,by have:=i e f;simp only[aI];intro t;cases t;omega⟩) (by simp;omega) (by unfold aQ at f;unfold maxLen;simp;omega) λk u C E v w _ x=>?_;refine⟨_,_,_,rfl,Ok.mk ⟨k,_,u,λe=>aI k=some e,rfl,by have h:=v.alone;rw[List.nil_append]at h;exact h,j.new w λe f=>.inr ?_,λe f=>?_⟩⟩
   ·simp only[aI,Q1]at f;omega
   ·rcases x e f with h|h<;>omega
def eU(a:Int)(b:ByteArray):Int:=if(gV b).2 then max a ((gV b).1+1)else a
def tX(a:List ByteArray):Int:=a.foldl eU 1
def iq(D:ak):Int:=tX D.list
def Gf(a:ByteArray):0<=(gV a).1/\(gV a).1<1000000000000:=by
 unfold gV;split
 ·rename_i c b
  have:=(Dh b).2;simp;omega
 ·simp
def HY(b:1<=e/\e<=1000000000000)(a:ByteArray):1<=eU e a/\eU e a<=1000000000000:=by
 have:=Gf a;unfold eU;split<;>omega
def JX:∀(b:List ByteArray) (a:Int),(1<=a/\a<=1000000000000)->1<=b.foldl eU a/\b.foldl eU a<=1000000000000
 |[],a,c=>c
 |s::b,a,c=>JX b _ (HY c s)
def sI(a:List ByteArray):1<=tX a/\tX a<=1000000000000:=JX a 1 oM
def JY{D:ak}(t:Laid b)(j:aW b a f D):
  Calls ZQ 135 #[ZX a] b (Ok λu g=>u= QH (iq D)/\ai b g):=by
 refine Ey (PC.ok (yB j) ?_);rintro _ k ⟨v,e,A,G,rfl,l,m,B⟩;have C:D.list.length<=64:=by rw[oG];exact j.ok.many
 have E:=l.len dC;have w:Row Px 16 k G v e D.list:=l.row dC (by unfold aQ;omega);refine⟨_,_,_,rfl,λn o p g=>∃c:Nat,p=c/\c<=e/\n=e-c/\o=tX (D.list.take c)/\ai k g,⟨_,0,rfl,Qj _,rfl,rfl,aj.refl _⟩,?_⟩;rintro n o p _ F ⟨c,rfl,H,rfl,rfl,d⟩;refine al.dec (λI=>?_) (λJ=>?_)
 ·obtain⟨x,h,q,rfl,y,_,z⟩:=(w.af d).mh (i:=c) oM
  refine⟨x,h,rfl,oM,oM,_,z,PC.ok (BI (t.af (m.then d))) ?_⟩;rintro _ K ⟨rfl,r⟩;have L:=Gf q;have M:=sI (D.list.take c);have s:tX (D.list.take (c+1))=eU (tX (D.list.take c)) q:=by
   unfold tX;rw[Qw,y,List.foldl_append];rfl
  refine⟨_,_,rfl,al.mk (λi=>⟨_,?_,c+1,an oM,oM,rfl,?_,d.then r⟩) (λi=>⟨_,?_,c+1,an oM,oM,rfl,?_,d.then r⟩)⟩
  ·omega
  ·rw[s,wrap_i64 (by unfold aN;omega)]
   unfold eU;rw[if_pos i];split<;>omega
  ·omega
  ·rw[s];unfold eU;rw[if_neg (by simp[i])]
 ·obtain rfl:c=e:=oM
  rw[Qz oM];exact Ok.mk ⟨rfl,m.then d⟩
structure cY where
 size:Int
 aX:List Int
 bytes:Int
 next:Int
structure jr (w:World) (p q:Nat) (G:Nat->Prop) (V:cY):Prop where
 body:∃a n c E,w.heap[q]? =some (.cells #[ZX p,QH V.size,.slice a n c,QH V.bytes,QH V.next] 228 (0,0))/\aV aP 3 E w a n c V.aX/\∀b,E b->G b/\b≠q
 self:G q
 aF:∀b,G b->b<w.heap.size
 many:V.aX.length<=64
 Cj:aN V.next
section
variable {w0 w w1 w':World} {p q:Nat} {D D':ak} {V V':cY} {X Y G S:Nat->Prop}
def jr.keep(b:jr w p q G V)(c:aj S w w')(e:∀a,G a->¬S a):jr w' p q G V:=by
 obtain⟨g,h,i,j,k,l,f⟩:=b.body;exact⟨⟨g,h,i,j,c.get k (e q b.self),l.keep c λa d=>e a (f a d).1,f⟩,b.self,λa d=>Qk (b.aF a d) c.size,b.many,b.Cj⟩
def jr.af(a:jr w p q G V)(b:ai w w'):jr w' p q G V:=a.keep b λ_ _ a=>a
def cQ(w0 w:World)(p q:Nat)(V:cY)(D:ak)(X:Nat->Prop):Prop:=∃G,bf w0 w p D (λa=>X a\/G a)/\jr w p q G V/\∀a,G a->w0.heap.size<=a/\¬X a
def cQ.gr(a:cQ w0 w p q V D X):ai w0 w:=by obtain⟨G,b,c,d⟩:=a;exact b.gr
def cQ.ok(a:cQ w0 w p q V D X):D.Ok:=by obtain⟨G,b,c,d⟩:=a;exact b.ok
def cQ.many(a:cQ w0 w p q V D X):V.aX.length<=64:=by obtain⟨G,c,b,d⟩:=a;exact b.many
def cQ.Cj(a:cQ w0 w p q V D X):aN V.next:=by obtain⟨G,c,b,d⟩:=a;exact b.Cj
def cQ.aF(b:cQ w0 w p q V D X):∀a,X a->a<w.heap.size:=by obtain⟨G,⟨e,f,g,h,c⟩,i,j⟩:=b;exact λa d=>c a (.inl d)
def cQ.Y_(b:cQ w0 w p q V D X):q<w.heap.size/\w0.heap.size<=q/\¬X q:=by obtain⟨G,d,a,c⟩:=b;exact⟨a.aF q a.self,c q a.self⟩
def cQ.nY(a:cQ w0 w p q V D X):bf w0 w p D X:=by obtain⟨G,b,d,e⟩:=a;exact b.mono λf c=>.inl c
def cQ.af(b:cQ w0 w p q V D X)(a:ai w w'):cQ w0 w' p q V D X:=by
 obtain⟨G,c,d,e⟩:=b;exact⟨G,c.af a,d.af a,e⟩
def cQ.mono(e:cQ w0 w p q V D X)(c:∀a,Y a->X a):cQ w0 w p q V D Y:=by
 obtain⟨G,f,g,d⟩:=e;exact⟨G,f.mono λa b=>b.imp (c a) id,g,λa b=>⟨(d a b).1,λh=>(d a b).2 (c a h)⟩⟩
def cQ.add(g:cQ w0 w p q V D X)(c:ai w w')(d:∀a,Y a->w.heap.size<=a/\a<w'.heap.size):cQ w0 w' p q V D (λa=>X a\/Y a):=by
 obtain⟨G,h,e,f⟩:=g;refine⟨G,(h.add c d).mono λa b=>?_,e.af c,λa b=>⟨(f a b).1,λi=>i.elim (f a b).2 λj=>by have:=e.aF a b;have:=(d a j).1;omega⟩⟩;rcases b with(b|b)|b
 ·exact .inl (.inl b)
 ·exact .inr b
 ·exact .inl (.inr b)
def cQ.other(h:cQ w0 w p q V D X)(c:aj Y w w')(d:∀a,Y a->X a/\w0.heap.size<=a):cQ w0 w' p q V D X:=by
 obtain⟨G,⟨i,j,k,f,l⟩,m,g⟩:=h;exact⟨G,⟨i,j.keep c λa b e=>(f a b).2 (.inl (d a e).1),k.new c λa b=>.inr (d a b).2,f,λa b=>Qk (l a b) c.size⟩,m.keep c λa b e=>(g a b).2 (d a e).1,g⟩
def cQ.on(f:cQ w0 w p q V D X)(g:∀c,(∀a,X a->c a)->bf w0 w p D c->Calls ZQ z r w (Ok (nQ w0 w p c d5))):Calls ZQ z r w (Ok λd w'=>d= QH d5.1/\cQ w0 w' p q V d5.2 X/\aj (et X) w w'):=by
 obtain⟨G,h,i,j⟩:=f;refine Calls.ok (g _ (λa b=>.inl b) h) ?_;rintro d w' ⟨k,l,e⟩;exact⟨k,⟨G,l,i.keep e λa b m=>m (.inr b),j⟩,e.mono λa _ b n=>b (.inl n)⟩
def cY.last(V:cY):ByteArray:=cR (aB (V.aX.getLast?.getD 0))
def jr.row(f:jr w p q G V):∃b a d c,w.heap[q]? =some (.cells #[ZX p,QH V.size,.slice b a d,QH V.bytes,QH V.next] 228 (0,0))/\Row aP 8 w c b a V.aX/\(∀e,c e->G e/\e≠q)/\a=V.aX.length:=by
 obtain⟨b,a,d,c,h,g,i⟩:=f.body;have:=f.many;exact⟨b,a,d,c,h,g.row dC (by unfold aQ;omega),i,g.len dC⟩
def JZ(f:Laid w)(d:jr w p q G V)(g:V.aX≠[]):Calls ZQ 157 #[ZX q] w (Ok λh w'=>h= .string V.last/\ai w w'):=by
 obtain⟨v,b,x,y,i,j,z,k⟩:=d.row;have A:0<V.aX.length:=List.length_pos_iff.2 g;have B:=d.many;refine vV λw1 l=>?_;have a:ai w w1:=l.keep;have e:=a.get i id;have m:IntKind.wrap .i64 ((b:Int)-1)=((b-1:Nat):Int):=by rw[wrap_i64 (by unfold aN;omega)];omega
 obtain⟨n,c,o,rfl,r,s,t⟩:=(j.af a).mh (i:=b-1) oM;refine⟨q,0,rfl,_,_,_,ae e rfl,q,0,rfl,_,_,_,ae e rfl,n,c,rfl,?_⟩;rw[m];refine⟨oM,oM,o,t,PC.ok (jV (f.af a) s) ?_⟩;rintro _ C ⟨rfl,u⟩;refine⟨_,rfl,Ok.mk ⟨?_,a.then u⟩⟩;unfold cY.last;rw[List.getLast?_eq_getElem?,<-k,r];rfl
def J_(k:Laid w0)(h:cQ w0 w p q V D X)(l:V.aX≠[]):Calls ZQ 92 #[ZX q] w (Ok λm w'=>m= QH (D.sync V.last).1/\cQ w0 w' p q V (D.sync V.last).2 X/\aj (et X) w w'):=by
 refine vS λw1 n=>?_;have e:ai w w1:=n.keep;have o:=h.af e;obtain⟨G,r,a,i⟩:=o;obtain⟨z,A,B,C,s,E,F,j⟩:=a.row;have H:=i q a.self;have I:=a.aF q a.self;refine⟨λc=>c≠q/\¬X c,q,0,rfl,λt=>t.1 rfl,_,ae s rfl,PC.ok (JZ (k.af (h.gr.then e)) a l) ?_⟩;rintro _ J ⟨rfl,d⟩;have u:=a.af d;have v:=r.af d;refine⟨_,rfl,d.keep,PC.ok v.sync ?_⟩;rintro _ K ⟨rfl,x,f⟩;refine⟨_,rfl,f.mono λc _ b=>⟨λy=>b (.inr (y▸a.self)),λg=>b (.inl g)⟩,Ok.mk ⟨rfl,⟨G,x,u.keep f λc b j=>j (.inr b),i⟩,?_⟩⟩;exact(ai.keep (e.then d)).then (f.mono λc _ b g=>b (.inl g))
def HA(a:jr w p q G V):Calls ZQ 118 #[ZX q] w (Ok (qD aP 3 w V.aX)):=by
 obtain⟨k,l,m,n,c,d,e,o⟩:=a.row;refine qf ⟨q,0,rfl,_,_,_,ae c rfl,PC.ok (cH d λb f=>a.aF b (e b f).1) ?_⟩;rintro _ w1 ⟨r,s,t,g,rfl,h,i,j⟩;exact⟨_,_,_,rfl,Ok.mk ⟨_,_,_,g,rfl,h,i,j⟩⟩
def RP(a:jr w p q G V):Calls ZQ 117 #[ZX q] w (Ok λb w'=>b= QH V.next/\w=w'):=by
 obtain⟨d,e,f,g,c,h,i,j⟩:=a.row;exact vU ⟨q,0,rfl,_,ae c rfl,Ok.mk ⟨rfl,rfl⟩⟩
end
def m_(a:cY)(D:ak):Int×cY×ak:=
 let d:=cR (aB a.next)
 let b:=D.sync d
 if b.1≠0 then(b.1,a,(b.2.delete d).2)else
 let c:=bJ b.2 (a.aX++[a.next])
 if c.1≠0 then(c.1,a,(c.2.delete d).2)else
 (0,⟨a.size,a.aX++[a.next],0,IntKind.wrap .i64 (a.next+1)⟩,c.2)
def bF(b:cY)(D:ak):Int×cY×ak:=
 let a:=D.create (cR (aB b.next))
 if a.1≠0 then(a.1,b,a.2)else m_ b a.2
def aG(a:cY)(D:ak):Int×cY×ak:=
 if a.aX=[]then bF a D else
 let b:=D.sync a.last
 if b.1≠0 then(b.1,a,b.2)else bF a b.2
def Gh(d e:World)(f g:Nat)(b:Nat->Prop)(a:Int×cY×ak)(h:Value)(c:World):Prop:=h= QH a.1/\cQ d c f g a.2.1 a.2.2 b/\aj (et b) e c
def SF(a:Int):aN (IntKind.wrap .i64 a):=by
 unfold aN IntKind.wrap;simp[IntKind.signed,IntKind.bits];omega
def HZ{D:ak}{b:List Int}(a:(bJ D b).1=0):b.length<=64:=by
 unfold bJ at a;split at a
 ·cases a
 ·omega
variable{b0:cY}
def Gi{D:ak}(hL:Laid b)(h:cQ b k a c b0 D f):
  Calls ZQ 138 #[ZX c] k (Ok (Gh b k a c f (aG b0 D))):=by
 have b2:=h.aF;obtain⟨p3,j4,e6⟩:=h.Y_;have p4:=h.gr.size;have e7:=h.Cj;have j5:=h.many;refine uC (PA.mk λC k1 s1 g1=>PA.mk λw2 k2 s2 g2=>?_);have d6:ai k w2:=k1.then k2
 let b6:Nat->Prop:=λd=>f d\/(d=k.heap.size\/d=C.heap.size)
 have hY:cQ b w2 a c b0 D b6:=h.add d6 λd e=>by omega
 have b7:=k2.get g1 id;refine⟨λg=>∃E,cQ b g a c b0 E b6/\aj (et f) k g/\w2.heap.size<=g.heap.size/\g.heap[k.heap.size]? =some (.cells #[ZX c] 95 (0,0))/\g.heap[C.heap.size]? =some (.cells #[QH 0] 34 (0,0))/\aG b0 D=bF b0 E,?_,?_⟩
 ·obtain⟨G,hD,hl,hG⟩:=id hY
  obtain⟨u,F,J,n,S,hr,hE,v⟩:=hl.row;refine⟨_,ae b7 rfl,c,0,rfl,_,_,_,ae S rfl,al.dec (λo6=>?_) (λz=>?_)⟩
  ·have w:b0.aX≠[]:=λj=>by rw[j]at v;simp at v;omega
   refine⟨_,ae b7 rfl,PC.ok (J_ hL hY w) ?_⟩;rintro _ w3 ⟨rfl,Y,k3⟩;have kX:aj (et f) k w3:=(ai.keep d6).then (k3.mono λd _ e l=>e (.inl l));have b8:=k3.get b7 λv=>v (.inr (.inl rfl));have b9:=k3.get g2 λv=>v (.inr (.inr rfl));have hB:aG b0 D=if(D.sync b0.last).1≠0 then((D.sync b0.last).1,b0,(D.sync b0.last).2)else bF b0 (D.sync b0.last).2:=by unfold aG;rw[if_neg w]
   refine⟨_,rfl,al.dw (λe9=>?_) (λH=>⟨_,Y,kX,k3.size,b8,b9,by rw[hB,if_neg (by simpa using H)]⟩)⟩;refine PS.mk b9 sM λK M s4 g4=>⟨_,ae g4 rfl,Ok.mk ?_⟩
   rw[hB,if_pos e9];exact⟨rfl,(Y.other M λd e=>⟨e▸.inr (.inr rfl),oM⟩).mono λd e=>.inl e,kX.then (M.mono λd _ e l=>by have:=b2 d l;omega)⟩
  ·have he:b0.aX=[]:=QW oM
   exact⟨D,hY,ai.keep d6,Q4 _,b7,g2,by unfold aG;rw[if_pos he]⟩
 rintro _ w3 ⟨E,Y,b3,o7,b8,b9,hB⟩;rw[hB];obtain⟨G3,p5,j6,p6⟩:=id Y;obtain⟨f9,n3,h0,E3,j7,-,-,-⟩:=j6.row;refine⟨_,ae b8 rfl,c,0,rfl,_,ae j7 rfl,PC.ok (jV (hL.af Y.gr) e7) ?_⟩;rintro _ K ⟨rfl,M⟩;refine⟨_,rfl,PA.mk λw5 k5 s5 g5=>PS.mk g5 sM λw6 k6 s6 g6=>?_⟩
 let q:Nat->Prop:=λd=>b6 d\/d=K.heap.size
 have f5:=Y.af M;have p7:=f5.gr.size;have p8:=M.size;have j8:cQ b w6 a c b0 E q:=(f5.add (Y:=(·=K.heap.size)) k5 λd e=>oM).other k6 λd e=>⟨.inr e,oM⟩
 have j9:aj (et f) k w6:=((b3.af M).af k5).then (k6.mono λd _ e l=>by have:=b2 d l;have:=b3.size;omega);have d8:∀{d},f d->q d:=λl=>.inl (.inl l);intro N e4;have k7:ai w6 N:=e4.keep;have f6:=j8.af k7;have gn:w6.heap[K.heap.size]? =some (.cells #[.string (cR (aB b0.next))] 9 (0,0)):=g6;have k0:=k6.get (k5.get (M.get b8 id) id) oM;have g0:=k6.get (k5.get (M.get b9 id) id) oM
 let r:World->Int->Prop:=λg j=>g.heap[k.heap.size]? =some (.cells #[ZX c] 95 (0,0))/\g.heap[C.heap.size]? =some (.cells #[QH j] 34 (0,0))/\g.heap[K.heap.size]? =some (.cells #[.string (cR (aB b0.next))] 9 (0,0))
 have C6:r w6 0:=⟨k0,g0,gn⟩
 have i:∀{g x:World} {j:Int} {d0:Nat->Prop},r g j->aj d0 g x->(∀d,d0 d->¬(d=k.heap.size\/d=C.heap.size\/d=K.heap.size))->r x j:=λO p hS=>
  ⟨p.get O.1 λP=>hS _ P (.inl rfl),p.get O.2.1 λP=>hS _ P (.inr (.inl rfl)),p.get O.2.2 λP=>hS _ P (.inr (.inr rfl))⟩
 have m:∀{g x:World} {j:Int},r g j->aj (et q) g x->r x j:=λO p=>i O p λd e hc=>e (by
  rcases hc with rfl|rfl|rfl
  ·exact .inl (.inr (.inl rfl))
  ·exact .inl (.inr (.inr rfl))
  ·exact .inr rfl)
 have c0:∀{g x:World},aj (et f) k g->aj (et q) g x->aj (et f) k x:=λu d=>u.then (d.mono λd _ e l=>e (d8 l));have C7:r N 0:=i C6 k7 λd e=>e.elim;obtain⟨G7,p9,l0,q0⟩:=id f6;obtain⟨k4,n7,l1,E7,l3,-,-,-⟩:=l0.row;refine⟨_,ae C7.1 rfl,c,0,rfl,_,ae l3 rfl,_,ae C7.2.2 rfl,PC.ok (f6.on (λq hZ T=>T.create)) ?_⟩;rintro _ w8 ⟨rfl,c1,k8⟩;have C8:=m C7 k8;have g3:=c0 (j9.af k7) k8;have l4:bF b0 E=if(E.create (cR (aB b0.next))).1≠0 then((E.create (cR (aB b0.next))).1,b0,(E.create (cR (aB b0.next))).2)else m_ b0 (E.create (cR (aB b0.next))).2:=rfl
 rw[l4];generalize q1:E.create (cR (aB b0.next))=cr at c1⊢;obtain⟨l2,L⟩:=cr;simp only at c1⊢;have q2:C.heap.size<w2.heap.size:=oM
 have g7:∀{g:World} {A:Int×cY×ak} {j:Int} {x:World},cQ b g a c A.2.1 A.2.2 q->aj (et f) k g->aj (·=C.heap.size) g x->j=A.1->Gh b k a c f A (QH j) x:=by
  intro g A j x v p P he;exact⟨by rw[he],(v.other P λd e=>⟨e▸.inl (.inr (.inr rfl)),oM⟩).mono λd e=>d8 e,p.then (P.mono λd _ e l=>by have:=b2 d l;omega)⟩
 refine⟨_,rfl,al.dw (λw=>?_) (λH=>?_)⟩
 ·refine PS.mk C8.2.1 sM λw9 k9 s9 g9=>⟨_,ae g9 rfl,Ok.mk ?_⟩
  rw[if_pos w];exact g7 c1 g3 k9 rfl
 rw[if_neg (by simpa using H)];have B:∀{A:Int×cY×ak} (j:Int) (n:ak) (g:World),cQ b g a c b0 n q->aj (et f) k g->r g j->j≠0->A=(j,b0,(n.delete (cR (aB b0.next))).2)->
   Lv ZQ (λg8=>∃h2:Int,g8.cell? ⟨C.heap.size,0,none⟩=some (QH h2)/\Ok (Gh b k a c f A) (.returned (QH h2)) g8) (λch g=>Ok (Gh b k a c f A) (.panicked ch) g)
    ([{target:=.fn (.func 189) #[ZX C.heap.size,ZX k.heap.size,ZX K.heap.size],args:= #[]}]:List Deferred) .returning g:=by
  intro A j n g v p O w hr;refine Lv.one sM kR (CallsD.mono (jq (R:=λe' N=>e'= .returned (.tuple #[])/\∃h3:Int,N.cell? ⟨C.heap.size,0,none⟩=some (QH h3)/\Ok (Gh b k a c f A) (.returned (QH h3)) N) ⟨_,ae O.2.1 rfl,al.dw (λ_=>?_) (λH=>absurd H w)⟩) ?_)
  ·intro wa da
   have ka:ai g wa:=da.keep;have h4:=v.af ka;have e0:r wa j:=i O ka λd e=>e.elim;obtain⟨Ga,q3,l5,q4⟩:=id h4;obtain⟨aa,na,ca,Ea,c3,-,-,-⟩:=l5.row;refine⟨_,ae e0.1 rfl,c,0,rfl,_,ae c3 rfl,_,ae e0.2.2 rfl,PC.ok (h4.on (λq hZ T=>T.delete)) ?_⟩;rintro _ U ⟨rfl,l6,kb⟩;have l7:=m e0 kb;refine⟨_,rfl,rfl,_,ae l7.2.1 rfl,Ok.mk ?_⟩;rw[hr];exact⟨rfl,l6.mono λd e=>d8 e,c0 (p.af ka) kb⟩
  ·rintro e' u' N ⟨rfl,rfl,hX⟩
   exact Lv.ret rfl hX
 intro w9 e8;have k9:ai w8 w9:=e8.keep;have h5:=c1.af k9;have C9:r w9 0:=i C8 k9 λd e=>e.elim;obtain⟨G9,q5,l8,q6⟩:=id h5;obtain⟨n5,n9,n6,E9,l9,-,-,-⟩:=l8.row;refine⟨_,ae C9.1 rfl,c,0,rfl,_,ae l9 rfl,_,ae C9.2.2 rfl,PC.ok (h5.on (λq hZ T=>T.sync)) ?_⟩;rintro _ Z ⟨rfl,V,h6⟩;have a0:=m C9 h6;have d1:=c0 (g3.af k9) h6;have m0:m_ b0 L=if(L.sync (cR (aB b0.next))).1≠0 then((L.sync (cR (aB b0.next))).1,b0,((L.sync (cR (aB b0.next))).2.delete (cR (aB b0.next))).2)else
   if(bJ (L.sync (cR (aB b0.next))).2 (b0.aX++[b0.next])).1≠0 then((bJ (L.sync (cR (aB b0.next))).2 (b0.aX++[b0.next])).1,b0,((bJ (L.sync (cR (aB b0.next))).2 (b0.aX++[b0.next])).2.delete (cR (aB b0.next))).2)else
   (0,⟨b0.size,b0.aX++[b0.next],0,IntKind.wrap .i64 (b0.next+1)⟩,(bJ (L.sync (cR (aB b0.next))).2 (b0.aX++[b0.next])).2):=rfl
 rw[m0];generalize q7:L.sync (cR (aB b0.next))=sy at V⊢;obtain⟨q8,c2⟩:=sy;dsimp only at V;refine⟨_,rfl,al.dw (λw=>?_) (λH=>?_)⟩
 ·refine PS.mk a0.2.1 sM λs t q9 m1=>?_
  rw[if_pos w];exact B _ c2 s (V.other t λd e=>⟨e▸.inl (.inr (.inr rfl)),oM⟩) (d1.then (t.mono λd _ e l=>by have:=b2 d l;omega)) ⟨t.get a0.1 oM,m1,t.get a0.2.2 (by have:=b3.size;omega)⟩ w rfl
 rw[if_neg (by simpa using H)];have o8:K.heap.size<Z.heap.size:=aC a0.2.2;refine⟨λu F J g=>∃n,aV aP 3 n g u F J (b0.aX++[b0.next])/\(∀d,n d->Z.heap.size<=d)/\ai Z g,?_,?_⟩
 ·intro s m2
  have t:ai Z s:=m2.keep;have a5:=V.af t;have b1:r s 0:=i a0 t λd e=>e.elim;obtain⟨m3,h7,W,h8⟩:=id a5;obtain⟨m4,m5,m6,m7,a6,d2,d3,o9⟩:=W.row;have p0:=W.aF c W.self;have a2:∀{wa U wc:World} {S:Nat} {u F J:_} {a3:Nat->Prop},aV aP 3 a3 U u F J b0.aX->(∀d,a3 d->s.heap.size<=d/\d≠S)->U.heap[S]? =some (.cells #[QH b0.next] 3 (0,0))->ai s U->
    ∀κ ε,(∀X n' c' g,(∃n,aV aP 3 n g X n' c' (b0.aX++[b0.next])/\(∀d,n d->Z.heap.size<=d)/\ai Z g)->aj (λd=>s.heap.size<=d) U g->κ (.slice X n' c') g)->
    aH ZQ (Builtin.append_ #[55,55] 55 #[.slice u F J,.slice (ZZ S) 1 1]) U κ ε:=by
   intro wa U wc S u F J a3 Q hF hg p κ ε c7;refine lH Q tN (D:=(·=S)) (Row.lit hg [b0.next] rfl (λd4 l=>by simp at l;subst l;exact e7) (by unfold aQ;simp)) (λd j=>⟨j▸aC hg,λf0=>(hF d (Q.self d f0)).2 j⟩) (by unfold aQ;simp;omega) (by unfold maxLen;simp;omega) λX c' g F' c8 a4 _ c9=>?_;refine c7 X _ c' g ⟨λd=>aI X=some d,c8.alone,λd e=>?_,?_⟩ (a4.mono λd _ e=>(hF d (Q.self d e)).1)
   ·have:=t.size;have:=p.size
    rcases c9 d e with h|h
    ·have:=(hF d h).1;omega
    ·omega
   ·exact(t.then p).new a4 λd e=>.inr (by have:=(hF d (Q.self d e)).1;have:=t.size;omega)
  have r0:k.heap.size<s.heap.size:=aC b1.1;refine⟨λd=>s.heap.size<=d,oM,_,ae b1.1 rfl,c,0,rfl,oM,_,_,_,ae a6 rfl,oM,_,ae b1.1 rfl,c,0,rfl,oM,_,ae a6 rfl,?_,?_⟩
  ·refine PC.ok (cH d2 λd e=>W.aF d (d3 d e).1) ?_
   rintro _ b4 ⟨r3,r4,r5,r6,rfl,a7,I,h9⟩;refine⟨_,_,_,rfl,I.keep,PA.mk λy o m8 e1=>⟨o.keep,a2 (wa:=y) (wc:=y) (a7.af o) (λd e=>⟨h9 d e,by have:=a7.aF d e;omega⟩) e1 (I.then o) _ _ λX n' c' g hJ p=>⟨_,_,_,rfl,p,trivial,hJ⟩⟩⟩
  ·refine PA.mk λb4 I r7 m9=>⟨I.keep,PC.ok (cH (d2.af I) λd e=>by have:=W.aF d (d3 d e).1;have:=I.size;omega) ?_⟩
   rintro _ y ⟨n0,n1,n2,r8,rfl,a8,o,d5⟩;exact⟨_,_,_,rfl,o.keep,a2 (wa:=y) (wc:=y) a8 (λd e=>⟨by have:=d5 d e;omega,by have:=d5 d e;omega⟩) (o.get m9 id) (I.then o) _ _ λX n' c' g hJ p=>⟨_,_,_,rfl,p,trivial,hJ⟩⟩
 rintro u F J _ s ⟨n,Q,hE,t⟩;have p1:(b0.aX++[b0.next]).length<=65:=by simp;omega
 have a5:cQ b s a c b0 c2 (λd=>q d\/n d):=V.add t λd e=>⟨hE d e,Q.aF d e⟩
 have b1:r s 0:=i a0 t λd e=>e.elim;have d7:Row aP 8 s n u F (b0.aX++[b0.next]):=Q.row dC (by unfold aQ;omega);have f1:∀d4∈b0.aX++[b0.next],aN d4:=Ow d7;obtain⟨m3,h7,W,h8⟩:=id a5;obtain⟨m4,m5,m6,m7,a6,-,-,-⟩:=W.row;refine⟨_,ae b1.1 rfl,c,0,rfl,_,ae a6 rfl,PC.ok (a5.on λZ' n4 T=>T.bJ hL.oH d7 f1 λd e=>.inr (n4 d (.inr e))) ?_⟩;rintro _ b4 ⟨rfl,a9,I⟩;have R:aj (et q) s b4:=I.mono λd _ e z=>e (.inl z);have c4:=m b1 R;have d9:=c0 (d1.af t) R;have a7:=Q.keep I λd e v=>v (.inr e);have b5:= @HZ c2 (b0.aX++[b0.next]);have i0:True:=trivial;generalize r9:bJ c2 (b0.aX++[b0.next])=mw at a9 b5 i0⊢;obtain⟨s0,c5⟩:=mw;dsimp only at a9 b5 i0⊢;refine⟨_,rfl,al.dw (λw=>?_) (λH=>?_)⟩
 ·refine PS.mk c4.2.1 sM λy o m8 e1=>?_
  rw[if_pos w];have f2:cQ b b4 a c b0 c5 q:=a9.mono λd e=>.inl e;exact B _ c5 y (f2.other o λd e=>⟨e▸.inl (.inr (.inr rfl)),oM⟩) (d9.then (o.mono λd _ e l=>by have:=b2 d l;omega)) ⟨o.get c4.1 oM,e1,o.get c4.2.2 (by have:=b3.size;omega)⟩ w rfl
 rw[if_neg (by simpa using H)];have b5:=b5 H;intro y n8;have o:ai b4 y:=n8.keep;have i1:=a9.af o;have e5:r y 0:=i c4 o λd e=>e.elim;have a8:=a7.af o;obtain⟨s3,i2,e2,p2⟩:=id i1;obtain⟨n0,n1,n2,s7,i3,-,-,-⟩:=e2.row;have i4:∀d,n d->d≠c:=λd e j=>by have:=hE d e;omega
 have o0:c≠k.heap.size/\c≠C.heap.size/\c≠K.heap.size:=by have:=b3.size;omega
 refine⟨(·=c),_,ae e5.1 rfl,λj=>o0.1 j.symm,_,ae e5.1 rfl,c,0,rfl,PS.mk i3 sM λs8 i5 t0 o1=>⟨i5,c,0,rfl,PS.mk o1 sM λo2 i6 t1 i7=>⟨i6,?_⟩⟩⟩;have e3:=i5.then i6;have i8:r o2 0:=i e5 e3 λd e hc=>by subst e;omega
 refine⟨_,ae i8.1 rfl,c,0,rfl,_,ae i7 rfl,c,0,rfl,PS.mk i7 sM λc6 i9 t2 j0=>?_⟩;have o3:r c6 0:=i i8 i9 λd e hc=>by subst e;omega
 have a1:aj (·=c) y c6:=e3.then i9;refine PS.mk o3.2.1 sM λo4 o5 t3 j1=>Lv.one sM kR (CallsD.mono (jq (R:=λe' N=>e'= .returned (.tuple #[])/\N=o4) ⟨_,ae j1 rfl,al.dw (λhc=>absurd rfl hc) (λ_=>⟨rfl,rfl⟩)⟩) ?_);rintro e' u' _ ⟨rfl,rfl,rfl⟩;refine Lv.ret rfl ⟨_,ae j1 rfl,Ok.mk ?_⟩;have j2:c6.heap[c]? =some (.cells #[ZX a,QH b0.size,.slice u F J,QH 0,QH (IntKind.wrap .i64 (b0.next+1))] 228 (0,0)):=j0;have j3:cQ b c6 a c ⟨b0.size,b0.aX++[b0.next],0,IntKind.wrap .i64 (b0.next+1)⟩ c5 q:=by
  refine⟨λd=>d=c\/n d,?_,⟨⟨u,F,J,n,j2,a8.keep a1 λd e j=>i4 d e j,λd e=>⟨.inr e,i4 d e⟩⟩,.inl rfl,?_,b5,?_⟩,?_⟩
  ·have h1:bf b y a c5 (λd=>q d\/(d=c\/n d)):=i2.mono λd e=>by
    rcases e with e|e|e
    ·exact .inl (.inl e)
    ·exact .inr (e▸e2.self)
    ·exact .inl (.inr e)
   obtain⟨a3,f4,f7,f3,f8⟩:=h1;exact⟨a3,f4.keep a1 λd e j=>(f3 d e).2 (.inr (.inl j)),f7.new a1 λd e=>.inr oM,f3,λd e=>Qk (f8 d e) a1.size⟩
  ·rintro d (rfl|e)
   ·exact aC j0
   ·exact Qk (a8.aF d e) a1.size
  ·show aN (IntKind.wrap .i64 (b0.next+1))
   exact SF _
  ·rintro d (rfl|e)
   ·exact⟨j4,λz=>by
     rcases z with(z|z|z)|z
     ·exact e6 z
     ·omega
     ·omega
     ·omega⟩
   ·have:=hE d e
    exact⟨by have:=V.gr.size;omega,λz=>by have:=V.aF d z;omega⟩
 exact g7 j3 ((d9.af o).then (a1.mono λd _ e l=>e6 (e▸l))) o5 rfl
def au(no:Int):ByteArray:=cR (aB no)
structure oT where
 no:Int
 out:List ah
 V:cY
 D:ak
def cZ:List Int->List ah->cY->ak->oT
 |[],a,b,D=>⟨0,a,b,D⟩
 |no::c,a,b,D=>
  if(D.read (au no)).2≠0 then⟨0,a,b,D⟩else
  if(bN (D.read (au no)).1).2<(D.read (au no)).1.length then
   ⟨(D.nT (au no) (bN (D.read (au no)).1).2).1,a++(bN (D.read (au no)).1).1,⟨b.size,b.aX++[no],(bN (D.read (au no)).1).2,b.next⟩,(D.nT (au no) (bN (D.read (au no)).1).2).2⟩
  else cZ c (a++(bN (D.read (au no)).1).1) ⟨b.size,b.aX++[no],(bN (D.read (au no)).1).2,b.next⟩ D
section
variable {w0 w w1 w':World} {p q:Nat} {D D':ak} {V V':cY} {X Y Z G S:Nat->Prop}
def bf.fr(d:bf w0 w p D X)(e:aj Y w w')(f:∀a,Y a->X a/\w0.heap.size<=a)(g:∀a,Z a->(X a\/w.heap.size<=a)/\a<w'.heap.size):bf w0 w' p D Z:=by
 obtain⟨i,h,j,c,m⟩:=d;exact⟨i,h.keep e λa b k=>(c a b).2 (f a k).1,j.new e λa b=>.inr (f a b).2,λa b=>⟨(c a b).1,λl=>(g a l).1.elim (c a b).2 λd=>by have:=h.aF a b;omega⟩,λa b=>(g a b).2⟩
def cQ.fr(h:cQ w0 w p q V D X)(c:aj Y w w')(d:∀a,Y a->X a/\w0.heap.size<=a)(e:∀a,Z a->(X a\/w.heap.size<=a)/\a<w'.heap.size):cQ w0 w' p q V D Z:=by
 obtain⟨G,i,f,g⟩:=h;refine⟨G,i.fr c (λa b=>⟨.inl (d a b).1,(d a b).2⟩) λa b=>?_,f.keep c λa b j=>(g a b).2 (d a j).1,λa b=>⟨(g a b).1,λk=>(e a k).1.elim (g a b).2 λh=>by have:=f.aF a b;omega⟩⟩;rcases b with b|b
 ·exact⟨(e a b).1.imp .inl id,(e a b).2⟩
 ·exact⟨.inl (.inr b),Qk (f.aF a b) c.size⟩
def SG{no C:Int}(h:cQ w0 w p q V D X)(P:aN no)(Q:V.aX.length+1<=64)(t:∀w',cQ w0 w' p q ⟨V.size,V.aX++[no],C,V.next⟩ D X->aj (et X) w w'->y w'):
  ∃E F,(ZZ q:Option Addr)=some ⟨E,F,none⟩/\∃(j:Option Addr) (u v:Nat),w.cell? ⟨E,F+2,none⟩=some (.slice j u v)/\
   PA w (.cells #[QH no] 3) λR=>aH ZQ (Builtin.append_ #[55,55] 55 #[.slice j u v,.slice (ZZ w.heap.size) 1 1]) R (λS T=>
    ∃(e:Option Addr) (H k:Nat),S= .slice e H k/\∃I J,(ZZ q:Option Addr)=some ⟨I,J,none⟩/\PS T ⟨I,J+2,none⟩ (.slice e H k) λU=>
     ∃K L,(ZZ q:Option Addr)=some ⟨K,L,none⟩/\PS U ⟨K,L+3,none⟩ (QH C) y) o:=by
 obtain⟨G,W,d,f⟩:=id h;obtain⟨j,u,v,a0,M,g,i⟩:=d.body;have a8:=d.aF q d.self;refine⟨q,0,rfl,_,_,_,ae M rfl,PA.mk λw1 l s1 Y=>?_⟩;refine lH (g.af l) tN (D:=(·=w.heap.size)) (Row.lit Y [no] rfl (λa1 m=>by simp at m;subst m;exact P) (by unfold aQ;simp)) (λa c=>⟨oM,λZ=>by have:=g.aF a (g.self a Z);omega⟩) (by unfold aQ;simp;omega) (by unfold maxLen;simp;omega) λe k w2 F' n r _ x=>?_
 replace n:=n.alone
 have a6:¬aI j=some q:=λc=>(i q (g.self q c)).2 rfl;have g2:=r.get (l.get M id) a6;have z2:=r.size;have z:¬aI e=some q:=λc=>by
  rcases x q c with h|h
  ·exact(i q h).2 rfl
  ·omega
 refine⟨_,_,_,rfl,q,0,rfl,PS.mk g2 sM λw3 A s3 g3=>⟨q,0,rfl,PS.mk g3 sM λs B s4 g4=>t s ?_ ?_⟩⟩
 ·have a7:aj (λa=>aI j=some a\/a=q) w1 s:=((r.mono λa _ b=>.inl b).then (A.mono λa _ b=>.inr b)).then (B.mono λa _ b=>.inr b)
  have kG:aj G w s:=(ai.keep l).then (a7.mono λa _ b=>b.elim (λh=>(i a (g.self a h)).1) λh=>h▸d.self);have N:∀a,aI e=some a->a<s.heap.size:=λa b=>by have:=n.aF a b;omega
  refine⟨λa=>a=q\/aI e=some a,W.fr kG (λa b=>⟨.inr b,(f a b).1⟩) λa b=>?_,⟨⟨e,_,k,(λa=>aI e=some a),g4,?_,λa b=>⟨.inr b,λc=>z (c▸b)⟩⟩,.inl rfl,?_,by simpa using Q,d.Cj⟩,?_⟩
  ·rcases b with b|rfl|b
   ·exact⟨.inl (.inl b),by have:=h.aF a b;omega⟩
   ·exact⟨.inl (.inr d.self),oM⟩
   ·refine⟨?_,N a b⟩
    rcases x a b with h|h
    ·exact .inl (.inr (i a h).1)
    ·exact .inr oM
  ·exact(n.keep A λa b c=>z (c▸b)).keep B λa b c=>z (c▸b)
  ·rintro a (rfl|b)
   ·omega
   ·exact N a b
  ·rintro a (rfl|b)
   ·exact f _ d.self
   ·rcases x a b with O|O
    ·exact f a (i a O).1
    ·exact⟨by have:=h.gr.size;omega,λm=>by have:=h.aF a m;omega⟩
 ·refine(((ai.keep l).then (r.mono λa _ b=>?_)).then (A.mono λa _ b=>?_)).then (B.mono λa _ b=>?_)
  ·exact(f a (i a (g.self a b)).1).2
  ·exact(f a (b▸d.self)).2
  ·exact(f a (b▸d.self)).2
def Wi{j a:Nat}(b:j<=64)(c:a<=j*262144):a<=16777216:=oM
def UD(w0 w:World)(p q:Nat)(X:Nat->Prop)(a:oT)(f:Value)(w':World):Prop:=
 ∃c d e G,f= .tuple #[.slice c d e,QH a.no]/\aV qz 59 G w' c d e a.out/\cQ w0 w' p q a.V a.D (λb=>X b\/G b)/\aj (et X) w w'/\(∀b,G b->w.heap.size<=b)/\a.out.length<=16777216
def SH(C:Laid w0)(h:cQ w0 w p q V D X)(P:Row aP 8 w f d a s)(c2:∀b,f b->X b)(f3:V.aX.length+s.length<=64):
  Calls ZQ 137 #[ZX q,.agg #[.slice d a c]] w (Ok (UD w0 w p q X (cZ s [] V D))):=by
 have l:=P.len;have Q:=h.aF;have f6:=h.gr.size;refine uV (PA.mk λw1 R s1 g1=>⟨_,_,_,ae g1 rfl,λS T U W Y w'=>∃(i:Nat) (j:cY) (g:List ah) (G:Nat->Prop),Y=i/\i<=s.length/\S=s.length-i/\cZ s [] V D=cZ (s.drop i) g j D/\j.aX.length=V.aX.length+i/\g.length<=i*262144/\
  aV qz 59 G w' T U W g/\cQ w0 w' p q j D (λb=>X b\/G b)/\aj (et X) w w'/\∀b,G b->w.heap.size<=b,
  ⟨_,0,V,[],λ_=>False,rfl,Qj _,rfl,rfl,rfl,Qj _,aV.nil w1,(h.af R).mono λb e=>e.elim id λh=>h.elim,ai.keep R,λ_ h=>h.elim⟩,?_⟩)
 rintro S T U W Y _ Z ⟨i,j,g,G,rfl,hj,rfl,a4,g0,a0,m,hN,r,u⟩;rw[a4];refine al.dec (λg2=>?_) (λg3=>?_)
 rotate_left
 ·obtain rfl:i=s.length:=oM
  rw[List.drop_of_length_le (Q4 _)];exact Ok.mk ⟨_,_,_,G,rfl,m,hN,r,u,Wi oM a0⟩
 obtain⟨b,E,no,rfl,n,k,F⟩:=(P.keep r λb e l=>l (c2 b e)).mh (i:=i) oM;have a2:s.drop i=no::s.drop (i+1):=by
  obtain⟨c4,rfl⟩:=Qv.1 n;exact X4 c4
 rw[a2]at a4⊢;refine⟨b,E,rfl,oM,oM,no,F,λw3 d3=>?_⟩;have k3:ai Z w3:=d3.keep;have H:=hN.af k3;obtain⟨G3,c8,d0,g4⟩:=id H;obtain⟨a3,n3,c3,E3,d1,-,-,-⟩:=d0.row;refine⟨λ_=>False,q,0,rfl,id,_,ae d1 rfl,PC.ok (jV (C.af H.gr) k) ?_⟩;rintro _ w4 ⟨rfl,z⟩;have d2:=H.af z;refine⟨_,rfl,z,PC.ok ((c8.af z).read (k:=au no)) ?_⟩;rintro _ w5 ⟨a5,n5,c5,F5,rfl,d4,g5,-,I⟩;have v:=d2.af I;have x:ai Z w5:=(k3.then z).then I;have g6:=d4.len dC;have g7:=JQ v.ok (au no);refine⟨_,_,_,_,rfl,I,al.dw (λd5=>?_) (λhe=>?_)⟩
 ·rw[show cZ (no::s.drop (i+1)) g j D=⟨0,g,j,D⟩ by unfold cZ;rw[if_pos d5]]
  exact Ok.mk ⟨_,_,_,G,rfl,m.af x,v,r.af x,u,Wi oM a0⟩
 obtain⟨G5,d6,d7,g8⟩:=id v;obtain⟨g9,h0,h2,E5,d8,-,-,-⟩:=d7.row;obtain⟨a7,e0,-,-,-⟩:=id d6;refine⟨q,0,rfl,_,ae d8 rfl,PC.ok (SI (C.af v.gr) e0 k) ?_⟩;rintro _ w6 ⟨a6,n6,c6,F6,rfl,t,J,K,a8⟩;have e1:cQ w0 w6 p q j D (λb=>(X b\/G b)\/F6 b):=v.add J λb e=>⟨K b e,t.aF b e⟩
 have b0:=x.then J;have e2:=m.aF;generalize e3:bN (D.read (cR (aB no))).1=sl at t a8;obtain⟨evs,o⟩:=sl;dsimp only at t a8;have a1:bN (D.read (au no)).1=(evs,o):=e3;have b1:Row qz 96 w6 F6 a6 n6 evs:=t.row dC (by unfold aQ;omega);refine⟨_,_,_,_,rfl,sE (m.af b0) Eg b1 (λL=>t.Pq L) (λb e=>⟨t.aF b e,λF=>by have:=e2 b (m.self b F);have:=K b e;have:=x.size;omega⟩) (by unfold aQ;omega) (by unfold maxLen;omega) λa9 c7 w7 A b2 M b3 _=>?_⟩;have h3:=x.size;have z6:=J.size;have b4:=b2.aF;have e4:cQ w0 w7 p q j D (λb=>X b\/A b):=e1.fr M (λb e=>⟨.inl (.inr (m.self b e)),by have:=u b (m.self b e);omega⟩) λb e=>by
  rcases e with e|e
  ·exact⟨.inl (.inl (.inl e)),by have:=Q b e;have:=r.size;have:=M.size;omega⟩
  ·refine⟨?_,b4 b e⟩
   rcases b3 b e with h|h|h
   ·exact .inl (.inl (.inr h))
   ·exact .inl (.inr h)
   ·exact .inr h
 have e5:aj (et X) w w7:=(r.af b0).then (M.mono λb _ e n=>by have:=u b (m.self b e);have:=Q b n;omega);have b5:∀b,A b->w.heap.size<=b:=λb e=>by
  have:=r.size;rcases b3 b e with h|h|h
  ·exact u b h
  ·have:=K b h;omega
  ·omega
 refine⟨_,_,_,rfl,SG e4 k oM λw8 b6 k8=>?_⟩;have b7:aj (et X) w w8:=e5.then (k8.mono λb _ e n=>e (.inl n));have b8:=b2.keep k8 λb e l=>l (.inr e);refine al.dec (λf4=>?_) (λf5=>?_)
 ·rw[show cZ (no::s.drop (i+1)) g j D=⟨(D.nT (au no) o).1,g++evs,⟨j.size,j.aX++[no],o,j.next⟩,(D.nT (au no) o).2⟩ by
   unfold cZ;rw[a1,if_neg (by simpa using he),if_pos (by show o<_;omega)]]
  intro w9 d9;have N:ai w8 w9:=d9.keep;have b9:=b6.af N;obtain⟨G9,e6,O,e7⟩:=id b9;obtain⟨c9,n9,f0,E9,e8,-,-,-⟩:=O.row;refine⟨λb=>b≠q,q,0,rfl,λhs=>hs rfl,_,ae e8 rfl,PC.ok (jV (C.af b9.gr) k) ?_⟩;rintro _ e9 ⟨rfl,y⟩;refine⟨_,rfl,y.keep,PC.ok ((e6.af y).nT (k:=au no)) ?_⟩;rintro _ f2 ⟨rfl,c0,B⟩;have c1:aj (et X) e9 f2:=B.mono λb _ e n=>e (.inl (.inl n));refine⟨_,rfl,B.mono λb _ e L=>e (.inr (L▸O.self)),Ok.mk ⟨_,_,_,A,rfl,?_,⟨G9,c0,(O.af y).keep B λb e l=>l (.inr e),e7⟩,((b7.af N).af y).then c1,b5,?_⟩⟩
  ·exact((b8.af N).af y).keep B λb e l=>l (.inl (.inr e))
  ·exact Wi (j:=i+1) oM (by simp;omega)
 ·refine⟨_,?_,i+1,⟨j.size,j.aX++[no],o,j.next⟩,g++evs,A,an oM,oM,rfl,?_,by simp;omega,by simp;omega,b8,b6,b7,b5⟩
  ·omega
  ·conv=>lhs;unfold cZ
   rw[a1,if_neg (by simpa using he),if_neg (by show¬o<_;omega)]
end
def dY(D:ak)(a:Int):cY:=⟨a,[],0,iq D⟩
def told(D:ak):List Int:=(dR D).getD []
def gj(b:Nat)(a:oT):oT:=
 if a.no≠0 then a else
 if a.V.aX=[]then⟨(aG a.V a.D).1,a.out,(aG a.V a.D).2.1,(aG a.V a.D).2.2⟩else
 if a.V.aX.length<b then⟨(bJ a.D a.V.aX).1,a.out,a.V,(bJ a.D a.V.aX).2⟩else a
def aM(D:ak)(a:Int):oT:=gj (told D).length (cZ (told D) [] (dY D a) D)
def UE(g d:World)(h:Nat)(e:Nat->Prop)(a:oT)(i:Value)(b:World):Prop:=
 (a.no≠0/\i= .tuple #[.pointer none,.slice none 0 0,QH a.no]/\bf g b h a.D e/\aj (et e) d b)\/
 (a.no=0/\∃f j k l G,i= .tuple #[ZX f,.slice j k l,QH 0]/\aV qz 59 G b j k l a.out/\cQ g b h f a.V a.D (λc=>e c\/G c)/\aj (et e) d b/\(∀c,G c->d.heap.size<=c)/\d.heap.size<=f/\a.out.length<=16777216)
def Jp{D:ak}{size:Int}(t:Laid b)(j:bf b k a D f):
  Calls ZQ 74 #[ZX a,QH size] k (Ok (UE b k a f (aM D size))):=by
 have S:∀c,f c->c<k.heap.size:=by obtain⟨a0,h1,h2,h3,h4⟩:=j;exact h4
 have d0:=j.gr.size;obtain⟨a0,hF,-,-,-⟩:=id j;refine Ew (PC.ok (JY (t.af j.gr) hF) ?_);rintro _ g ⟨rfl,H⟩;have T:=j.af H;have d1:=sI D.list;refine⟨_,rfl,PA.mk λw2 U s2 g2=>PC.ok ((T.af U).iK t.oH) ?_⟩;rintro _ u ⟨y,z,V,A,rfl,W,X,-,I⟩;have z1:=H.size;have z3:=I.size
 change aV aP 3 A u y z V (told D)at W
 have d2:(told D).length<=64:=FB;have b4:ai g u:=U.then I;refine⟨_,_,_,_,rfl,PA.mk λw4 k4 s4 g4=>PS.mk g4 sM λm k5 s5 Y=>⟨_,_,_,ae Y rfl,?_⟩⟩;have b5:m.heap[u.heap.size]? =some (.cells #[.slice y z V] 230 (0,0)):=Y;have J:ai u m:=k4.new k5 λc d=>.inr oM;have Z:ai g m:=b4.then J;have a8:ai k m:=H.then Z;have b6:=J.get (I.get g2 id) id;have a9:=W.af J
 let K:Nat->Prop:=λc=>f c\/(A c\/c=u.heap.size)
 have b7:cQ b m a g.heap.size (dY D size) D K:=by
  refine⟨(·=g.heap.size),T.fr Z (Y:=λ_=>False) (λc d=>d.elim) λc d=>?_,⟨⟨none,0,0,λ_=>False,b6,aV.nil m,λ_ j=>j.elim⟩,rfl,λc d=>oM,Qj _,?_⟩,λc d=>⟨oM,λE=>?_⟩⟩
  ·rcases d with(d|d|d)|d
   ·exact⟨.inl d,by have:=S c d;omega⟩
   ·exact⟨.inr (by have:=X c d;omega),a9.aF c d⟩
   ·exact⟨.inr oM,oM⟩
   ·exact⟨.inr oM,oM⟩
  ·show aN (tX D.list);unfold aN;omega
  ·subst d
   rcases E with E|E|E
   ·have:=S _ E;omega
   ·have:=X _ E;omega
   ·omega
 have L:Row aP 8 m A y z (told D):=a9.row dC (by unfold aQ;omega);refine PC.ok (SH t b7 L (λc d=>.inr (.inl d)) (by show 0+_<=_;omega)) ?_;rintro _ M ⟨a6,n6,c6,n,rfl,B,v,N,b8,b0⟩;have z5:=a8.size;have hq:k.heap.size<=g.heap.size:=z1;have O:aj (et f) k M:=(ai.keep a8).then (N.mono λc _ d E=>d (.inl E));have g6:=N.get b5 λl=>l (.inr (.inr rfl));have b9:Row aP 8 M A y z (told D):=L.keep N λc d l=>l (.inr (.inl d));have d3:=L.len;show _;unfold aM;generalize cZ (told D) [] (dY D size) D=h at B v b0;have b1:∀c,n c->k.heap.size<=c:=λc d=>by have:=b8 c d;omega
 refine⟨_,_,_,_,rfl,λno o=>∃p q,gj (told D).length h=⟨no,h.out,p,q⟩/\aV qz 59 n o a6 n6 c6 h.out/\cQ b o a g.heap.size p q (λc=>f c\/n c)/\aj (et f) k o,?_,?_⟩
 ·have e:∀{o p q},cQ b o a g.heap.size p q (λc=>K c\/n c)->cQ b o a g.heap.size p q (λc=>f c\/n c):=λj=>j.mono λc d=>d.imp .inl id
  refine al.dw (λr=>⟨h.V,h.D,by unfold gj;rw[if_pos r],B,e v,O⟩) (λw=>?_);obtain⟨GL,c0,b2,c1⟩:=id v;obtain⟨aL,nL,cL,EL,P,b3,c2,c4⟩:=b2.row;refine⟨_,_,rfl,_,_,_,ae P rfl,al.dX (λhz=>?_) (λc5=>?_)⟩
  ·have Q:h.V.aX=[]:=QW oM
   refine PC.ok (Gi t v) ?_;rintro _ C ⟨rfl,s,i⟩;exact⟨_,rfl,_,_,by unfold gj;rw[if_neg (by simpa using w),if_pos Q],B.keep i λc d l=>l (.inr d),e s,O.then (i.mono λc _ d E=>d (.inl (.inl E)))⟩
  ·have r:¬h.V.aX=[]:=λa1=>c5 (by rw[c4,a1];rfl)
   refine⟨_,_,rfl,_,_,_,ae P rfl,_,_,_,ae g6 rfl,λC d7=>?_⟩;have i:ai M C:=d7.keep;have s:=v.af i;have F:=B.af i;have x:aj (et f) k C:=O.af i;refine al.dec (λd4=>?_) (λd5=>⟨_,_,by unfold gj;rw[if_neg (by simpa using w),if_neg r,if_neg oM],F,e s,x⟩);have c7:=i.get P id;refine⟨_,_,rfl,_,_,_,ae c7 rfl,PC.ok ((c0.af i).bJ t.oH (b3.af i) (Ow b3) λc d=>.inr (.inr (c2 c d).1)) ?_⟩;rintro _ w8 ⟨rfl,c8,R⟩;have c9:cQ b w8 a g.heap.size h.V (bJ h.D h.V.aX).2 (λc=>K c\/n c):=⟨GL,c8,(b2.af i).keep R λc d l=>l (.inr d),c1⟩
   exact⟨_,rfl,_,_,by unfold gj;rw[if_neg (by simpa using w),if_neg r,if_pos oM],F.keep R λc d l=>l (.inl (.inr d)),e c9,x.then (R.mono λc _ d E=>d (.inl (.inl (.inl E))))⟩
 ·rintro no _ C ⟨p,q,Q,F,s,x⟩
  rw[Q];refine al.dw (λr=>Ok.mk (.inl ⟨r,rfl,s.nY.mono λc d=>.inl d,x⟩)) (λw=>Ok.mk (.inr ⟨w,g.heap.size,a6,n6,c6,n,by rfl,F,s,x,b1,hq,b0⟩))
def eD(a:ah):Bool:=decide (64<a.aK.length)
def az(b:cY)(D:ak)(c:List ah):Int×cY×ak:=
 if c.any eD then(3,b,D)else if c=[]then(0,b,D)else
 let a:=if b.size<=b.bytes then aG b D else(0,b,D)
 if a.1≠0 then a else
 let d:=a.2.2.append a.2.1.last (ar c)
 if d.1≠0 then(d.1,a.2.1,d.2)else(0,⟨a.2.1.size,a.2.1.aX,IntKind.wrap .i64 (a.2.1.bytes+((ar c).length:Nat)),a.2.1.next⟩,d.2)
def tY{D:ak}(a:(aG b0 D).1=0):(aG b0 D).2.1.aX≠[]:=by
 have e:∀b:ak,(m_ b0 b).1=0->(m_ b0 b).2.1.aX≠[]:=by
  intro b;unfold m_;dsimp only;split
  ·rename_i c;intro a;exact absurd a c
  ·split
   ·rename_i c;intro a;exact absurd a c
   ·intro _;simp
 have d:∀b:ak,(bF b0 b).1=0->(bF b0 b).2.1.aX≠[]:=by
  intro b;unfold bF;dsimp only;split
  ·rename_i c;intro a;exact absurd a c
  ·exact e _
 revert a
 unfold aG;dsimp only;split
 ·exact d D
 ·split
  ·rename_i c;intro a;exact absurd a c
  ·exact d _
def NW(a:l.Ok)(b:l.aK.length<=64):(nP l).length<=675:=by
 have:=Gg a b;have c:=rk a b;unfold nP at*;rw[fp];omega
def oS(a:List ah)(b:ah):ar (a++[b])=ar a++nP b:=by simp[ar]
def MG{D:ak}{w b6:Nat}(V:Laid b)(v:cQ b k a c b0 D f)(d0:b0.aX≠[])(hr:Row fZ 96 k a4 d w B)(d1:∀e,a4 e->e<k.heap.size)(hl:B.length<=20000000):
  Calls ZQ 91 #[ZX c,.slice d w b6] k (Ok (Gh b k a c f (az b0 D B))):=by
 have A:=hr.len;have e9:=v.aF;refine tg ⟨λa6 L M W a7 x=>∃(j:Nat) (y:Nat->Prop),a7=j/\j<=w/\a6=w-j/\(∀h∈B.take j,h.Ok/\h.aK.length<=64)/\(ar (B.take j)).length<=675*j/\aV gq 5 y x L M W (ar (B.take j))/\ai k x/\∀e,y e->k.heap.size<=e,
  ⟨_,0,λ_=>False,rfl,Qj _,rfl,sM,by simp[ar],aV.nil k,aj.refl _,λ_ v=>v.elim⟩,?_⟩
 rintro a6 L M W a7 _ X ⟨j,y,rfl,hj,rfl,Z,d4,q,n,hF⟩;have b3:=q.len dC;refine al.dec (λd5=>?_) (λd6=>?_)
 ·obtain⟨e,a0,h,es,rfl,_,_,r,l,c0,n1,c1,rfl,hd,N⟩:=(hr.af n).sS (i:=j) oM
  have o:=λi (hi:i<10)=>l i hi;refine⟨e,a0,rfl,oM,oM,_,_,_,_,_,_,_,_,_,_,_,_,o 0 dC,o 1 dC,o 2 dC,o 3 dC,o 4 dC,o 5 dC,o 6 dC,o 7 dC,o 8 dC,o 9 dC,PA.mk λC E s2 g2=>?_⟩;refine storeAll (aE h c0 n1 c1) g2 rfl λF s s3 p=>?_;have z:ai X F:=E.new s λe g=>.inr oM;refine⟨_,_,_,_,_,_,_,_,_,_,_,_,ae p rfl,ae p rfl,ae p rfl,ae p rfl,ae p rfl,ae p rfl,ae p rfl,ae p rfl,ae p rfl,ae p rfl,?_⟩;refine PC.ok (FC (V.af ((v.gr.then n).then z)) (hd.af z) N λe g=>by have:=d1 e g;have:=(n.then z).size;omega) ?_;rintro _ w4 ⟨c3,n4,f0,F4,rfl,t,u,b4⟩
  by_cases O:h.aK.length<=64
  ·have a8:=rk N O
   rw[a8]at t⊢;have f1:=NW N O;refine⟨_,_,_,_,rfl,al.dw (λl=>absurd rfl l) (λ_=>?_)⟩;have a9:=z.then u;have c4:Row gq 1 w4 F4 c3 n4 (nP h):=t.row (bytes:=1) dC (by unfold aQ;dsimp only;omega);have f2:=a9.size;have f3:=z.size;refine sE (q.af a9) ur c4 (λh=>t.Pq h) (λe g=>⟨t.aF e g,λl=>by have:=q.aF e (q.self e l);have:=b4 e g;omega⟩) (by unfold aQ;omega) (by unfold maxLen;omega) λb5 c5 w5 F5 a1 d7 d8 _=>?_;have b1:B.take (j+1)=B.take j++[h]:=by rw[Qw,r];rfl
   refine⟨_,_,_,rfl,w-(j+1),oM,j+1,F5,an oM,oM,rfl,?_,?_,?_,(n.then a9).new d7 λe g=>.inr (by have:=hF e (q.self e g);omega),?_⟩
   ·rw[b1]
    intro c6 a2;rcases Q6.1 a2 with Y|Y
    ·exact Z c6 Y
    ·simp at Y;subst Y;exact⟨N,O⟩
   ·rw[b1,oS];simp;omega
   ·rw[b1,oS];exact a1
   ·intro e g
    have:=n.size;rcases d8 e g with Y|Y|Y
    ·exact hF e Y
    ·have:=b4 e Y;omega
    ·omega
  ·have a8:=y_ O
   rw[a8]at t⊢;refine⟨_,_,_,_,rfl,al.dw (λ_=>?_) (λl=>absurd l dC)⟩;have d2:B.any eD=true:=List.any_eq_true.2 ⟨h,QZ r,by unfold eD;simp;omega⟩;refine Ok.mk ?_;rw[show az b0 D B=(3,b0,D) by unfold az;rw[if_pos d2]];have b7:=(n.then z).then u;exact⟨rfl,v.af b7,ai.keep b7⟩
 ·obtain rfl:j=w:=oM
  rw[Qz oM]at Z d4 q b3;have b8:B.any eD=false:=by
   rw[<-Bool.not_eq_true];intro l;obtain⟨h,he,h2⟩:=List.any_eq_true.1 l;have:=(Z h he).2;unfold eD at h2;simp at h2;omega
  refine al.dX (λhz=>?_) (λd9=>?_)
  ·have he:B=[]:=QW oM
   refine Ok.mk ?_;rw[show az b0 D B=(0,b0,D) by unfold az;rw[if_neg (by simp[b8]),if_pos he]];exact⟨rfl,v.af n,ai.keep n⟩
  have e0:B≠[]:=λh=>d9 (by rw[A,h];rfl)
  let H:Nat->Prop:=λe=>f e\/y e
  have b9:cQ b X a c b0 D H:=v.add n λe g=>⟨hF e g,q.aF e g⟩
  have d3:az b0 D B=if(if b0.size<=b0.bytes then aG b0 D else(0,b0,D)).1≠0 then(if b0.size<=b0.bytes then aG b0 D else(0,b0,D))else
    if((if b0.size<=b0.bytes then aG b0 D else(0,b0,D)).2.2.append (if b0.size<=b0.bytes then aG b0 D else(0,b0,D)).2.1.last (ar B)).1≠0 then(((if b0.size<=b0.bytes then aG b0 D else(0,b0,D)).2.2.append (if b0.size<=b0.bytes then aG b0 D else(0,b0,D)).2.1.last (ar B)).1,(if b0.size<=b0.bytes then aG b0 D else(0,b0,D)).2.1,((if b0.size<=b0.bytes then aG b0 D else(0,b0,D)).2.2.append (if b0.size<=b0.bytes then aG b0 D else(0,b0,D)).2.1.last (ar B)).2)
    else(0,⟨(if b0.size<=b0.bytes then aG b0 D else(0,b0,D)).2.1.size,(if b0.size<=b0.bytes then aG b0 D else(0,b0,D)).2.1.aX,IntKind.wrap .i64 ((if b0.size<=b0.bytes then aG b0 D else(0,b0,D)).2.1.bytes+((ar B).length:Nat)),(if b0.size<=b0.bytes then aG b0 D else(0,b0,D)).2.1.next⟩,((if b0.size<=b0.bytes then aG b0 D else(0,b0,D)).2.2.append (if b0.size<=b0.bytes then aG b0 D else(0,b0,D)).2.1.last (ar B)).2):=by
   unfold az;rw[if_neg (by simp[b8]),if_neg e0]
  obtain⟨GL,f4,e2,f5⟩:=id b9;obtain⟨aL,nL,cL,EL,gL,f6,f7,g0⟩:=e2.row;rw[d3];refine⟨λx=>∃I P,(if b0.size<=b0.bytes then aG b0 D else(0,b0,D))=(0,I,P)/\I.aX≠[]/\cQ b x a c I P H/\aj (et f) k x/\aV gq 5 y x L M W (ar B),?_,?_⟩
  ·refine⟨c,0,rfl,_,ae gL rfl,c,0,rfl,_,ae gL rfl,λC e1=>?_⟩
   have E:ai X C:=e1.keep;have Q:=b9.af E;have R:=q.af E;have S:aj (et f) k C:=ai.keep (n.then E);refine al.dec (λd6=>?_) (λd5=>⟨b0,D,by rw[if_neg oM],d0,Q,S,R⟩);refine PC.ok (Gi V Q) ?_;rintro _ F ⟨rfl,J,s⟩;have c2:aj (et f) k F:=S.then (s.mono λe _ g r=>g (.inl r));have a3:(if b0.size<=b0.bytes then aG b0 D else(0,b0,D))=aG b0 D:=if_pos oM;rw[a3];refine⟨_,rfl,al.dw (λa5=>?_) (λT=>⟨_,_,by rw[<-T],tY T,J,c2,R.keep s λe g A=>A (.inr g)⟩)⟩;rw[if_pos a5];exact Ok.mk ⟨rfl,J.mono λe g=>.inl g,c2⟩
  ·rintro _ C ⟨I,P,a3,e3,Q,S,R⟩ F e4
   rw[a3];have s:ai C F:=e4.keep;have J:=Q.af s;have e5:=R.af s;obtain⟨G3,e6,U,K⟩:=id J;obtain⟨f8,n3,f9,E3,e7,-,-,-⟩:=U.row;refine⟨λe=>e≠c,c,0,rfl,λhs=>hs rfl,_,ae e7 rfl,PC.ok (JZ (V.af J.gr) U e3) ?_⟩;rintro _ w4 ⟨rfl,u⟩;have t:=e5.af u;have e8:Row gq 1 w4 y L M (ar B):=t.row (bytes:=1) dC (by unfold aQ;omega);refine⟨_,rfl,u.keep,PC.ok ((e6.af u).append e8 (λh=>t.Pq h) λe g=>.inr (.inl (.inr g))) ?_⟩;rintro _ w5 ⟨rfl,b2,k5⟩;have m:=(U.af u).keep k5 λe g A=>A (.inr g);have c7:aj (et f) k w5:=((S.af s).af u).then (k5.mono λe _ g r=>g (.inl (.inl r)));refine⟨_,rfl,k5.mono λe _ g h=>g (.inr (h▸U.self)),?_⟩;rw[if_neg (λl:((0,I,P):Int×cY×ak).1≠0=>l rfl)];refine al.dw (λa5=>?_) (λT=>?_)
   ·rw[if_pos a5]
    exact Ok.mk ⟨rfl,cQ.mono (X:=H) ⟨G3,b2,m,K⟩ λe g=>.inl g,c7⟩
   ·rw[if_neg (by simpa using T)]
    obtain⟨b5,n5,c5,E5,c8,a1,c9⟩:=m.body;refine⟨c,0,rfl,_,ae c8 rfl,c,0,rfl,PS.mk c8 sM λw6 k6 s6 g6=>Ok.mk ⟨rfl,?_,c7.then (k6.mono λe _ g r=>(K e (g▸m.self)).2 (.inl r))⟩⟩;rw[b3]at g6;refine cQ.mono (X:=H) ⟨G3,b2.fr k6 (λe g=>⟨.inr (g▸m.self),(K e (g▸m.self)).1⟩) (λe g=>⟨.inl g,by have:=(g.elim (cQ.aF (X:=H) ⟨G3,b2,m,K⟩ e) (m.aF e):e<w5.heap.size);omega⟩),⟨⟨b5,n5,c5,E5,g6,a1.keep k6 λe g h=>(c9 e g).2 h,c9⟩,m.self,λe g=>by have:=m.aF e g;omega,m.many,m.Cj⟩,K⟩ λe g=>.inl g
def dB(a:List UInt8):bQ:=⟨a,a.length,true⟩
structure bK (D:ak):Prop where
 dead:D.dead=false
 js:D.js=false
section
variable {D E:ak} {k:ByteArray} {l:List Int}
def Cq(D:ak)(a:ak->Int×ak):D.op a=(15,D.gone)\/D.op a=a D.di:=by
 unfold ak.op;split
 ·exact .inl rfl
 ·exact .inr rfl
def bK.op(b:bK D)(a:ak->Int×ak):D.op a=a D:=by
 unfold ak.op ak.dies ak.di;rw[b.dead,b.js]
 rfl
def bK.same(a:bK D)(b:E.dead=D.dead)(c:E.js=D.js):bK E:=⟨b.trans a.dead,c.trans a.js⟩
def Jt(a:bQ):a.cut a.bytes.length=dB a.bytes:=by
 have b:gY (a.bytes.length:Int) a.bytes.length=a.bytes.length:=by unfold gY;omega
 simp[bQ.cut,b,dB]
def lz(D:ak)(k:ByteArray):((D.create k).1≠0/\(D.create k).2.files=D.files)\/((D.create k).1=0/\dv k=true/\ay D.files k=none/\(D.create k).2.files=aJ D.files k ⟨[],0,false⟩):=by
 unfold ak.create;rcases Cq D λD=>if dv k then(if(ay D.files k).isSome then(16,D)else if 64<=D.files.length then(12,D)else(0,D.eJ k ⟨[],0,false⟩))else(1,D)with h|h
 ·rw[h];exact .inl ⟨sM,rfl⟩
 ·rw[h]
  have a:=eP D;split
  ·rename_i b
   split
   ·exact .inl ⟨sM,a⟩
   ·split
    ·exact .inl ⟨sM,a⟩
    ·rename_i c _
     refine .inr ⟨rfl,b,?_,?_⟩
     ·rw[<-a];simpa using c
     ·show aJ D.di.files k _=_;rw[a]
  ·exact .inl ⟨sM,a⟩
def bK.create(a:bK D)(k:ByteArray):bK (D.create k).2/\(dv k=true->ay D.files k=none->(D.create k).1=0\/(D.create k).1=12):=by
 unfold ak.create;rw[a.op];split
 ·split
  ·rename_i e c;exact⟨a,λ_ b=>by rw[b]at c;cases c⟩
  ·split
   ·exact⟨a,λ_ _=>.inr rfl⟩
   ·exact⟨a.same rfl rfl,λ_ _=>.inl rfl⟩
 ·rename_i b;exact⟨a,λd=>absurd d b⟩
def wA(D:ak)(k:ByteArray)(a:ak->bQ->Int×ak):((D.op (ak.Cr k a)).1≠0/\(D.op (ak.Cr k a)).2.files=D.files)\/∃b,ay D.files k=some b/\D.op (ak.Cr k a)=a D.di b:=by
 rcases Cq D (ak.Cr k a)with h|h
 ·rw[h];exact .inl ⟨sM,rfl⟩
 ·rw[h]
  unfold ak.Cr;rw[eP];split
  ·exact .inl ⟨sM,eP D⟩
  ·rename_i b c;exact .inr ⟨b,c,rfl⟩
def bK.on(b:bK D)(c:ay D.files k=some W)(a:ak->bQ->Int×ak):D.op (ak.Cr k a)=a D W:=by
 rw[b.op];unfold ak.Cr;rw[c]
def bK.YK(b:bK D){a:ak->bQ->Int×ak}(c:∀d,bK (a D d).2):bK (D.op (ak.Cr k a)).2:=by
 rw[b.op];unfold ak.Cr;split
 ·exact b
 ·exact c _
def lA(D:ak)(k:ByteArray)(b:List UInt8):((D.append k b).1≠0/\(D.append k b).2.files=D.files)\/((D.append k b).1=0/\∃a,ay D.files k=some a/\(D.append k b).2.files=aJ D.files k {a with bytes:=a.bytes++b}):=by
 unfold ak.append;rcases wA D k λD a=>if(b.length:Int)>D.room then(12,D)else(0,D.eJ k {a with bytes:=a.bytes++b})with c|⟨a,d,c⟩
 ·exact .inl c
 ·rw[c]
  split
  ·exact .inl ⟨sM,eP D⟩
  ·exact .inr ⟨rfl,a,d,by show aJ D.di.files k _=_;rw[eP]⟩
def bK.append(a:bK D)(k:ByteArray)(b:List UInt8):bK (D.append k b).2/\∀c,ay D.files k=some c->(D.append k b).1=0\/(D.append k b).1=12:=by
 refine⟨?_,λc d=>?_⟩
 ·unfold ak.append
  refine a.YK λc=>?_;split
  ·exact a
  ·exact a.same rfl rfl
 ·unfold ak.append
  rw[a.on d];split
  ·exact .inr rfl
  ·exact .inl rfl
def iL(D:ak)(k:ByteArray):((D.sync k).1≠0/\(D.sync k).2.files=D.files)\/((D.sync k).1=0/\∃a,ay D.files k=some a/\(D.sync k).2.files=aJ D.files k (dB a.bytes)):=by
 unfold ak.sync;rcases wA D k λD a=>(0,D.eJ k (a.cut a.bytes.length))with b|⟨a,c,b⟩
 ·exact .inl b
 ·rw[b,Jt];exact .inr ⟨rfl,a,c,by show aJ D.di.files k _=_;rw[eP]⟩
def bK.sync(a:bK D)(k:ByteArray):bK (D.sync k).2/\∀b,ay D.files k=some b->(D.sync k).1=0:=by
 refine⟨?_,λb c=>?_⟩
 ·unfold ak.sync;exact a.YK λb=>a.same rfl rfl
 ·unfold ak.sync;rw[a.on c]
def bK.nT(b:bK D)(c:ay D.files k=some W)(a:Int):(D.nT k a).1=0/\(D.nT k a).2=D.eJ k (W.cut a)/\bK (D.nT k a).2:=by
 unfold ak.nT;rw[b.on c];exact⟨rfl,rfl,b.same rfl rfl⟩
def jA(D:ak)(k:ByteArray):(D.delete k).2.files=D.files\/(D.delete k).2.files=bV D.files k:=by
 unfold ak.delete;rcases wA D k λD b=>(0,D.wB k)with a|⟨b,c,a⟩
 ·exact .inl a.2
 ·rw[a];exact .inr (by show bV D.di.files k=_;rw[eP])
def bK.delete(a:bK D)(k:ByteArray):bK (D.delete k).2/\((D.delete k).2.files=bV D.files k\/(ay D.files k=none/\(D.delete k).2.files=D.files)):=by
 unfold ak.delete;refine⟨a.YK λc=>a.same rfl rfl,?_⟩;rw[a.op];unfold ak.Cr;split
 ·rename_i b;exact .inr ⟨b,rfl⟩
 ·exact .inl rfl
def uz(k:ByteArray)(D E:ak):Prop:=Tidy E.files/\∀a,a≠k->ay E.files a=ay D.files a
def uz.refl(a:Tidy D.files):uz k D D:=⟨a,λ_ _=>rfl⟩
def uz.of(a:uz k D E){b:ak}(c:b.files=E.files):uz k D b:=⟨by rw[c];exact a.1,λd e=>by rw[c];exact a.2 d e⟩
def uz.put(a:uz k D E){b:ak}(c:b.files=aJ E.files k W):uz k D b:=⟨by rw[c];exact a.1.aJ _ _,λe d=>by rw[c,bu,if_neg (by simpa using d)];exact a.2 e d⟩
def uz.del(a:uz k D E){F:ak}(b:F.files=bV E.files k):uz k D F:=⟨by rw[b];exact a.1.bV _,λd c=>by rw[b,gh a.1,if_neg (by simpa using c)];exact a.2 d c⟩
def uz.clean(a:uz aS D E):uz aS D (eK E).2:=by
 unfold eK;split
 ·rcases jA E aS with e|e
  ·exact a.of e
  ·exact a.del e
 ·exact a
def AW:aS≠cg:=λa=>by have:=tn;rw[a]at this;simp at this
def TX(D:ak)(l:List Int)(a:Int×ak):Prop:=(a.1≠0/\uz aS D a.2)\/
  (a.1=0/\l.length<=64/\Tidy a.2.files/\ay a.2.files cg=some (dB (bW l))/\∀b,b≠aS->b≠cg->ay a.2.files b=ay D.files b)
def TX.step{b k:Nat}{r:Int×ak}(g:pK l b E=r)(c:r.1≠0->uz aS D r.2)(d:r.1=0->TX D l (oU l (b+1) k r.2)):TX D l (oU l b (k+1) E):=by
 rw[oU,g];split
 ·rename_i a;exact .inl ⟨a,(c a).clean⟩
 ·rename_i a;exact d (by simpa using a)
def Lx(p:Tidy D.files)(l:List Int):TX D l (bJ D l):=by
 unfold bJ;split
 ·exact .inl ⟨sM,uz.refl p⟩
 rename_i A;have j:uz aS D (eK D).2:=(uz.refl p).clean;refine TX.step (r:=eK D) rfl (λ_=>j) λ_=>?_;generalize(eK D).2=f at j;have B:=lz f aS;refine TX.step (r:=f.create aS) rfl (λe=>?_) λv=>?_
 ·rcases B with B|B
  ·exact j.of B.2
  ·exact absurd B.1 e
 rcases B with B|⟨_,_,_,B⟩
 ·exact absurd v B.1
 have m:uz aS D (f.create aS).2:=j.put B;have q:ay (f.create aS).2.files aS=some ⟨[],0,false⟩:=by rw[B,bu];simp
 generalize(f.create aS).2=g at m q;have c:=lA g aS (bW l);refine TX.step (r:=g.append aS (bW l)) rfl (λe=>?_) λw=>?_
 ·rcases c with c|c
  ·exact m.of c.2
  ·exact absurd c.1 e
 rcases c with c|⟨_,k,d,c⟩
 ·exact absurd w c.1
 rw[q]at d;cases d
 have n:uz aS D (g.append aS (bW l)).2:=m.put c;have r:ay (g.append aS (bW l)).2.files aS=some ⟨bW l,0,false⟩:=by rw[c,bu];simp
 generalize(g.append aS (bW l)).2=h at n r;have F:=iL h aS;refine TX.step (r:=h.sync aS) rfl (λe=>?_) λx=>?_
 ·rcases F with F|F
  ·exact n.of F.2
  ·exact absurd F.1 e
 rcases F with F|⟨_,k,d,F⟩
 ·exact absurd x F.1
 rw[r]at d;cases d
 have i:uz aS D (h.sync aS).2:=n.put F;have s:ay (h.sync aS).2.files aS=some (dB (bW l)):=by rw[F,bu];simp
 generalize(h.sync aS).2=a at i s;have b:((a.rename aS cg).1≠0/\(a.rename aS cg).2.files=a.files)\/((a.rename aS cg).1=0/\(a.rename aS cg).2.files=aJ (bV a.files aS) cg (dB (bW l))):=by
  unfold ak.rename;rcases wA a aS λD k=>if dv cg then(0,(D.wB aS).eJ cg {k with jk:=true})else(1,D)with o|⟨k,d,o⟩
  ·exact .inl o
  ·rw[o,if_pos Ju]
   rw[s]at d;cases d
   exact .inr ⟨rfl,by show aJ (bV a.di.files aS) cg _=_;rw[eP];rfl⟩
 refine TX.step (r:=a.rename aS cg) rfl (λe=>?_) λy=>?_
 ·rcases b with b|b
  ·exact i.of b.2
  ·exact absurd b.1 e
 rcases b with b|⟨_,b⟩
 ·exact absurd y b.1
 refine .inr ⟨rfl,oM,?_,?_,λt u z=>?_⟩
 ·show Tidy (a.rename aS cg).2.files;rw[b];exact(i.1.bV _).aJ _ _
 ·show ay (a.rename aS cg).2.files cg=_;rw[b,bu];simp
 ·show ay (a.rename aS cg).2.files t=_
  rw[b,bu,if_neg (by simpa using z),gh i.1,if_neg (by simpa using u)];exact i.2 t u
def TY(a:Int×ak):Prop:=bK a.2/\(a.1=0\/a.1=3\/a.1=12)
def bK.clean(a:bK D):bK (eK D).2:=by
 unfold eK;split
 ·exact(a.delete _).1
 ·exact a
def LX(c:bK D)(a:Tidy D.files):(eK D).1=0/\ay (eK D).2.files aS=none/\Tidy (eK D).2.files:=by
 unfold eK;split
 ·rename_i b
  obtain⟨f,d⟩:=Option.isSome_iff_exists.1 b;have e:D.delete aS=(0,D.wB aS):=by unfold ak.delete;rw[c.on d]
  rw[e];exact⟨rfl,by show ay (bV _ _) _=_;rw[gh a];simp,a.bV _⟩
 ·rename_i b;exact⟨rfl,by simpa using b,a⟩
def TY.step{a k:Nat}{r:Int×ak}(g:pK l a E=r)(b:bK r.2)(c:r.1=0\/r.1=3\/r.1=12)(d:r.1=0->TY (oU l (a+1) k r.2)):TY (oU l a (k+1) E):=by
 rw[oU,g];split
 ·exact⟨b.clean,c⟩
 ·rename_i e;exact d (by simpa using e)
def bK.bJ(j:bK D)(t:Tidy D.files)(l:List Int):TY (bJ D l):=by
 unfold Go.Proofs.YtfchlbaidamodaaGreatDoor.bJ;split
 ·exact⟨j,.inr (.inl rfl)⟩
 obtain⟨z1,q,u⟩:=LX j t;have k:=j.clean;refine TY.step (r:=eK D) rfl k (.inl z1) λ_=>?_;generalize(eK D).2=f at k q u;have a:=lz f aS;obtain⟨m,v⟩:=k.create aS;refine TY.step (r:=f.create aS) rfl m ((v TZ q).imp id .inr) λw=>?_;rcases a with a|⟨_,_,_,a⟩
 ·exact absurd w a.1
 have r:ay (f.create aS).2.files aS=some ⟨[],0,false⟩:=by rw[a,bu];simp
 generalize(f.create aS).2=g at m r;have b:=lA g aS (bW l);obtain⟨n,x⟩:=m.append aS (bW l);refine TY.step (r:=g.append aS (bW l)) rfl n ((x _ r).imp id .inr) λy=>?_;rcases b with b|⟨_,c,B,b⟩
 ·exact absurd y b.1
 have h:∃c,ay (g.append aS (bW l)).2.files aS=some c:=by rw[b,bu];simp
 generalize(g.append aS (bW l)).2=i at n h;obtain⟨C,h⟩:=h;have d:=iL i aS;obtain⟨e,z⟩:=n.sync aS;refine TY.step (r:=i.sync aS) rfl e (.inl (z _ h)) λA=>?_;rcases d with d|⟨_,c,E,d⟩
 ·exact absurd A d.1
 have s:ay (i.sync aS).2.files aS=some (dB c.bytes):=by rw[d,bu];simp
 generalize(i.sync aS).2=o at e s;have p:o.rename aS cg=(0,(o.wB aS).eJ cg {dB c.bytes with jk:=true}):=by
  unfold ak.rename;rw[e.on s,if_pos Ju]
 refine TY.step (r:=o.rename aS cg) rfl (by rw[p];exact e.same rfl rfl) (.inl (by rw[p])) λF=>?_;rw[p];exact⟨e.same rfl rfl,.inl rfl⟩
def Pv{l:List (ByteArray×bQ)}(c:Tidy l)(d:bQ->Bool)(f:bQ->bQ)(k:ByteArray):
  ay ((l.filter λa=>d a.2).map λa=>(a.1,f a.2)) k=(ay l k).bind λh=>if d h then some (f h)else none:=by
 induction l with
 |nil=>rfl
 |cons n l g=>
  obtain⟨a,i⟩:=n;unfold Tidy at c g;simp only[QY,List.nodup_cons]at c;rw[List.filter_cons]
  by_cases j:(k==a)=true
  ·have o:k=a:=eq_of_beq j
   subst o;have p:ay ((l.filter λa=>d a.2).map λa=>(a.1,f a.2)) k=none:=by
    rw[nU];intro m;apply c.1;simp only[List.map_map,Xk,List.mem_filter]at m⊢;obtain⟨q,⟨r,_⟩,s⟩:=m;exact⟨q,r,s⟩
   by_cases b:d i=true
   ·simp[b,ay]
   ·rw[if_neg (by simpa using b),p];simp[b,ay]
  ·have e:(k==a)=false:=by simpa using j
   by_cases b:d i=true
   ·simp only[b,if_true,QY,ay,e,Bool.false_eq_true,if_false]
    exact g c.2
   ·rw[if_neg (by simpa using b)]
    simp only[ay,e,Bool.false_eq_true,if_false];exact g c.2
def FG(c:Tidy D.files)(b:Int)(k:ByteArray):ay (D.eA b).files k=(ay D.files k).bind λa=>if a.jk then some (tG b a)else none:=
 Pv c (λa=>a.jk) (tG b) k
def LY(c:Tidy D.files)(b:Int):Tidy (D.eA b).files:=by
 show(((D.files.filter λa=>a.2.jk).map λa=>(a.1,tG b a.2)).map (·.1)).Nodup;rw[List.map_map];exact(rl c λa=>a.2.jk)
def Jv(D:ak)(a:Int):bK (D.eA a):=⟨rfl,rfl⟩
def FH(c:Int)(b:List UInt8)(e:a<=b.length):∃d,a<=d/\d<=b.length/\tG c ⟨b,a,true⟩=dB (b.take d):=by
 refine⟨gY (HB c ⟨b,a,true⟩) b.length,?_,nV _ _,?_⟩
 ·unfold gY HB;simp only;omega
 ·have:=nV (HB c ⟨b,a,true⟩) b.length
  unfold tG bQ.cut dB;simp only[Qy,X2 this]
def vb(b:Tidy D.files)(a:Int){k:ByteArray}(c:ay D.files k=some (dB v)):ay (D.eA a).files k=some (dB v):=by
 rw[FG b,c];obtain⟨e,f,g,d⟩:=FH a v (Q4 _);show(if true then some (tG a ⟨v,v.length,true⟩)else none)=_;rw[d,Qz oM];rfl
end
end Go.Proofs.YtfchlbaidamodaaGreatDoor

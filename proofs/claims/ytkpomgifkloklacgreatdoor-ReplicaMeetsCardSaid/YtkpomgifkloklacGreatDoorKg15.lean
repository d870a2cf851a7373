import Derived.Test.YtkpomgifkloklacGreatDoorKg14
set_option maxHeartbeats 4000000
set_option linter.all false
set_option maxRecDepth 20000
namespace Go.Proofs.YtkpomgifkloklacGreatDoor
open Go.aw
variable{e:Int}{u:List Int}{c1:List bg}{b4:List cO}{a c i p:Nat}{f:XN}{d:ZH}{j:Type}{b:World}{x:XU}{b3:bg}
def oJ{P:List (Bx cO)}{D:XN}(f:Row jH.ju 32 b D d a P)(g:∀e,D e->e<b.heap.size):ZG 172 #[.slice d a c] b (Ok (qw jH.ju 73 b P)):=
 gD (yd Mq dC f g λi j h=>Ok.mk h)
def OD(l:aU aQ 3 f b d a c u)(q:i<=a)(r:b.heap[p]? =some (.cells #[XH e] 3 (0,0)))(s:aP e)(t:¬f p)(z:u.length<1000000):
  ZG 233 #[.slice d a c,XH (i:Int),.slice (XM p) 1 1] b (Ok λv m=>∃g h j,v= .slice g (a+1) h/\aU aQ 3 j m g (a+1) h (u.take i++e::u.drop i)/\dy f b j m):=by
 refine lP (EI.one (c:=aQ) (tb:=4) (x:=e) (D:=λ_=>False) sX kR ?_ l q r ⟨rfl,s⟩ (λk P=>P.elim) (λw=>t (l.self p w)) ba (by unfold maxLen;omega) λg h m j n x y=>Ok.mk ⟨g,h,j,rfl,n,x.mono λk _ P=>l.self k P,λk P=>?_⟩)
 ·intro o b
  rw[run_callFunc_extern Tryz.func273 kR kR kR (e:=Extern.SlicesOverlaps.overlaps #[55,55] #[4]) kR]
 ·rcases y k P with P|P|P
  ·exact .inl P
  ·exact P.elim
  ·exact .inr P
def OE(g:aU aQ 3 f b d a c u)(h:i<a)(n:a<1000000):
  ZG 234 #[.slice d a c,XH (i:Int),XH (IntKind.wrap .i64 ((i:Int)+1))] b (Ok λj P=>j= .slice d (a-1) c/\aU aQ 3 f P d (a-1) c (u.eraseIdx i)/\ak f b P):=
 lQ (EJ.one (c:=aQ) (tz:=0) sX kR g h (by unfold maxLen;omega) λP e k=>Ok.mk ⟨rfl,e,k.mono λl _ m=>g.self l m⟩)
def RU(b:bg)(P:cO)(a arg:Int):cO:=
 if a=1 then{P with n:=lN (P.n+arg)}else if a=2 then{P with n:=arg}else if a=3 then{P with set:=oF arg P.set}
 else if a=4 then{P with set:=P.set.filter λc=>c !=arg}else{P with n:=(b.bl.getD arg.toNat ⟨0,0,0,0⟩).lf}
def QO{P a arg:Int}(b:1<=a)(c:a<=5):OF c1 b4 P a arg=b4.set P.toNat (RU (c1.getD P.toNat ⟨0,0,false,[]⟩) (b4.getD P.toNat ⟨0,[]⟩) a arg):=by
 have:a=1\/a=2\/a=3\/a=4\/a=5:=oM
 rcases this with rfl|rfl|rfl|rfl|rfl<;>rfl
section
variable {w w':World} {D E F:XN} {f:bg} {ma ca:ZH} {mn mc cn cc i:Nat} {arg:Int} {L:List (Bx cO)} {bx:Bx cO}
structure jo (w:World) (ca:ZH) (cn cc:Nat) (L:List (Bx cO)) (i:Nat) (bx:Bx cO) (F:XN):Prop where
 nC:aU jH.ju 73 (λb=>aI ca=some b) w ca cn cc L
 at':L[i]? =some bx
 set:aU aQ 3 F w bx.a bx.n bx.c bx.x.set
 ap:∀b,F b->¬aI ca=some b
 ok:aP bx.x.n/\uL bx.x.set/\bx.x.set.length<=64
 dK:L.length<=1000000
def jo.ah(P:jo w ca cn cc L i bx F)(a:ai w w'):jo w' ca cn cc L i bx F:=⟨P.nC.ah a,P.at',P.set.ah a,P.ap,P.ok,P.dK⟩
def jo.len(P:jo w ca cn cc L i bx F):i<cn:=by
 rw[P.nC.len dC];exact(Qv.1 P.at').1
def jo.cells(b:jo w ca cn cc L i bx F):∃P a,ca=some ⟨P,a,none⟩/\P<w.heap.size/\w.cell? ⟨P,a+i*2,none⟩=some (XH bx.x.n)/\w.cell? ⟨P,a+i*2+1,none⟩=some (.slice bx.a bx.n bx.c):=by
 obtain⟨P,a,f,d,e,g,c,rfl,-⟩:=(b.nC.row (bytes:=32) dC (by have:=b.dK;unfold aT;omega)).el i bx b.at';exact⟨P,a,d,e,c 0 dC,c 1 dC⟩
def oK(b:World)(ca:ZH)(cn cc:Nat)(L:List (Bx cO))(i:Nat)(F:XN)(c:cO)(w':World):Prop:=
 ∃(P:Bx cO) (d:XN),P.x=c/\aU jH.ju 73 (λa=>aI ca=some a) w' ca cn cc (L.set i P)/\aU aQ 3 d w' P.a P.n P.c c.set/\ak (λa=>aI ca=some a\/F a) b w'/\∀a,d a->F a\/b.heap.size<=a
def Hx{f w:World}(g:ai f w)(b:jo w ca cn cc L i bx F)(h:ca=some ⟨a,c,none⟩)(j:∀w',ak (λa=>aI ca=some a) w w'->oK f ca cn cc L i F {bx.x with n:=e} w'->x w'):
  PS w ⟨a,c+i*2,none⟩ (XH e) x:=by
 refine aU.set (j:=0) (x':=⟨{bx.x with n:=e},bx.a,bx.n,bx.c⟩) b.nC b.at' dC rfl h λk l d n=>j k d ⟨_,F,rfl,l,b.set.af d λa P m=>b.ap a P m,(ai.af g).then (d.mono λa _ P=>.inl P),λa P=>.inl P⟩
def Mw{q b w:World}{k l:Nat}{g:XN}(r:ai q b)(e:jo b ca cn cc L i bx F)(t:aU aQ 3 g w d k l u)(h:dy F b g w)(m:ca=some ⟨a,c,none⟩)(v:∀w',oK q ca cn cc L i F {bx.x with set:=u} w'->x w'):
  PS w ⟨a,c+i*2+1,none⟩ (.slice d k l) x:=by
 have n:aU jH.ju 73 (λa=>aI ca=some a) w ca cn cc L:=e.nC.af h.1 λa P j=>e.ap a j P;have z:=e.nC.aF a (by rw[m];rfl);have y:∀f,g f->¬aI ca=some f:=λf o p=>by
  rcases h.2 f o with j|j
  ·exact e.ap f j p
  ·rw[m]at p;simp only[aI,Q1]at p;omega
 have A:=r.size;refine aU.set (j:=1) (x':=⟨{bx.x with set:=u},d,k,l⟩) n e.at' dC rfl m λb n s B=>v b ⟨_,g,rfl,n,t.af s y,((ai.af r).then (h.1.mono λa _ P=>.inr P)).then (s.mono λa _ P=>.inl P),λa P=>(h.2 a P).imp id λP=>oM⟩
def do_1(P:jo w ca cn cc L i bx F):ZG 174 #[x_ f ma mn mc ca cn cc (i:Int) arg] w (Ok λj w'=>j= .tuple #[]/\oK w ca cn cc L i F {bx.x with n:=lN (bx.x.n+arg)} w'):=by
 have k:=P.len;refine ye (PA.mk λl m v n=>λo p=>⟨λa=>aI ca=some a,?_⟩);have e:ai l o:=p.af;have g:=e.get n id;have d:=m.then e;obtain⟨a,q,b,r,s,x⟩:=(P.ah d).cells;have y:=P.nC.aF a (by rw[b];rfl);refine au (sW ..) g ⟨λh=>by rw[b]at h;simp only[aI,Q1]at h;omega,_,ae g rfl,PC.ok (gC b k) ?_⟩;rintro _ z ⟨rfl,c⟩;exact⟨_,rfl,ai.af c,_,_,rfl,_,(c.cell (a:=⟨a,q+i*2,none⟩) r id).trans s,_,_,rfl,Hx (d.then c) (P.ah (d.then c)) b λA t u=>⟨t,Ok.mk ⟨rfl,u⟩⟩⟩
def To(P:jo w ca cn cc L i bx F):ZG 177 #[x_ f ma mn mc ca cn cc (i:Int) arg] w (Ok λj w'=>j= .tuple #[]/\oK w ca cn cc L i F {bx.x with n:=arg} w'):=by
 have k:=P.len;refine yf (PA.mk λl m s n=>λo p=>⟨λb=>aI ca=some b,?_⟩);have e:ai l o:=p.af;have g:=e.get n id;have c:=m.then e;obtain⟨b,t,a,u,v,x⟩:=(P.ah c).cells;have y:=P.nC.aF b (by rw[a];rfl);refine au (sW ..) g ⟨λh=>by rw[a]at h;simp only[aI,Q1]at h;omega,_,ae g rfl,PC.ok (gC a k) ?_⟩;rintro _ z ⟨rfl,d⟩;exact⟨_,rfl,ai.af d,_,_,rfl,Hx (c.then d) (P.ah (c.then d)) a λA q r=>⟨q,Ok.mk ⟨rfl,r⟩⟩⟩
def Tp(b:jo w ca cn cc L i bx F)(h:Row fy 32 w E ma mn f.bl)(o:∀a,E a->¬aI ca=some a)(I:0<=arg)(J:arg<(mn:Int)):ZG 182 #[x_ f ma mn mc ca cn cc (i:Int) arg] w (Ok λp w'=>p= .tuple #[]/\oK w ca cn cc L i F {bx.x with n:=(f.bl.getD arg.toNat ⟨0,0,0,0⟩).lf} w'):=by
 have q:=b.len;refine yg (PA.mk λr s K t=>λu v=>⟨λa=>aI ca=some a,?_⟩);have j:ai r u:=v.af;have e:=j.get t id;have c:=s.then j;obtain⟨a,M,d,N,O,Q⟩:=(b.ah c).cells;have R:=b.nC.aF a (by rw[d];rfl);have S:=h.len;obtain⟨P,rfl⟩:∃P:Nat,arg=P:=⟨arg.toNat,oM⟩
 have k:P<f.bl.length:=oM
 obtain⟨l,x,T,y,U,z,A,rfl,-⟩:=(h.ah c).el P f.bl[P] (by simp[k]);have B:f.bl.getD P ⟨0,0,0,0⟩=f.bl[P]:=by simp[QQ,k]
 simp only[Qx,B];have m:¬aI ca=some w.heap.size:=λn=>by rw[d]at n;simp only[aI,Q1]at n;omega
 refine au (sW ..) e ⟨m,_,_,_,ae e rfl,m,_,ae e rfl,l,x,y,oM,oM,o l z,_,A 1 dC,PC.ok (gC d q) ?_⟩;rintro _ V ⟨rfl,g⟩;exact⟨_,rfl,ai.af g,_,_,rfl,Hx (c.then g) (b.ah (c.then g)) d λW C H=>⟨C,Ok.mk ⟨rfl,H⟩⟩⟩
def Tq(P:jo w ca cn cc L i bx F)(v:aP arg):ZG 179 #[x_ f ma mn mc ca cn cc (i:Int) arg] w (Ok λx w'=>x= .tuple #[]/\oK w ca cn cc L i F {bx.x with set:=oF arg bx.x.set} w'):=by
 have y:=P.len;obtain⟨-,b,S⟩:=P.ok;refine Hy (PA.mk λT m U n=>au (sW ..) n ?_);obtain⟨c,o,j,a,V,z⟩:=(P.ah m).cells;have W:=P.nC.aF c (by rw[j];rfl);refine PC.ok (gC j y) ?_;rintro _ A ⟨rfl,d⟩;refine⟨_,rfl,λp B=>?_⟩;have e:ai A p:=B.af;have g:=(m.then d).then e;have q:=e.get (d.get n id) id;have r:=((d.then e).cell (a:=⟨c,o+i*2+1,none⟩) a id).trans z;have s:=P.set.ah g;refine⟨_,_,rfl,_,_,_,r,_,ae q rfl,PC.ok (rE (s.row (bytes:=8) dC ba) b) ?_⟩;rintro _ _ ⟨rfl,rfl⟩;have X:=P.set.len dC;refine⟨_,_,rfl,an.not (an.mk (λC=>Ok.mk ⟨rfl,?_⟩) (λE=>λH I=>?_))⟩
 ·have h:arg∈bx.x.set:=XV C
  refine⟨bx,F,by rw[sS h b],?_,by rw[sS h b];exact s,ai.af g,λc a=>.inl a⟩;have:L.set i bx=L:=by
   apply X3;intro Y;rw[Xj];split
   ·rename_i J;subst J;rw[Zx (Qv.1 P.at').1,P.at']
   ·rfl
  rw[this];exact P.nC.ah g
 ·have h:arg∉bx.x.set:=Xy E
  have k:ai p H:=I.af;have K:=k.get q id;have t:=g.then k;refine⟨no,_,_,rfl,id,_,_,_,(k.cell (a:=⟨c,o+i*2+1,none⟩) (Qk a (d.then e).size) id).trans r,_,ae K rfl,PA.mk λZ u s5 M=>⟨ai.af u,?_⟩⟩;have l:=t.then u;have a1:=xU (λN=>decide (N<arg)) bx.x.set;have z4:=t.size;refine PC.ok (OD (P.set.ah l) oM M v (λa=>by have:=P.set.aF _ a;omega) oM) ?_;rintro _ w6 ⟨a',c',F',rfl,O,Q⟩;rw[ED b h];exact⟨_,_,_,rfl,_,_,rfl,Mw l (P.ah l) O Q j λw7 R=>Ok.mk ⟨rfl,R⟩⟩
def Ts(P:jo w ca cn cc L i bx F):ZG 180 #[x_ f ma mn mc ca cn cc (i:Int) arg] w (Ok λo w'=>o= .tuple #[]/\oK w ca cn cc L i F {bx.x with set:=bx.x.set.filter λp=>p !=arg} w'):=by
 have q:=P.len;obtain⟨-,j,I⟩:=P.ok;refine Az (PA.mk λJ k K l=>au (sW ..) l ?_);obtain⟨d,r,m,a,M,s⟩:=(P.ah k).cells;refine PC.ok (gC m q) ?_;rintro _ t ⟨rfl,e⟩;refine⟨_,rfl,λu v=>?_⟩;have g:ai t u:=v.af;have b:=(k.then e).then g;have x:=g.get (e.get l id) id;have n:=((e.then g).cell (a:=⟨d,r+i*2+1,none⟩) a id).trans s;have h:=P.set.ah b;refine⟨_,_,rfl,_,_,_,n,_,ae x rfl,PC.ok (rE (h.row (bytes:=8) dC ba) j) ?_⟩;rintro _ _ ⟨rfl,rfl⟩;have N:=P.set.len dC;refine⟨_,_,rfl,an.mk (λy=>?_) (λz=>Ok.mk ⟨rfl,?_⟩)⟩
 ·have c:arg∈bx.x.set:=XV y
  obtain⟨A,O⟩:=Jw j c;refine⟨_,_,rfl,_,_,_,n,PC.ok (OE h oM oM) ?_⟩;rintro _ Q ⟨rfl,B,C⟩;rw[A];exact⟨_,_,_,rfl,_,_,rfl,Mw b (P.ah b) B ⟨C,λd a=>.inl a⟩ m λR E=>Ok.mk ⟨rfl,E⟩⟩
 ·have c:arg∉bx.x.set:=Xy z
  refine⟨bx,F,by rw[EF c],?_,by rw[EF c];exact h,ai.af b,λd a=>.inl a⟩;have:L.set i bx=L:=by
   apply X3;intro S;rw[Xj];split
   ·rename_i H;subst H;rw[Zx (Qv.1 P.at').1,P.at']
   ·rfl
  rw[this];exact P.nC.ah b
end
def JA(P:Int):aP (lN P):=by
 unfold lN IntKind.wrap aP;simp[IntKind.signed,IntKind.bits];omega
def Mx(P:e∉u):(oF e u).length=u.length+1:=by
 induction u with
 |nil=>rfl
 |cons b u a=>
  simp only[Q2,not_or]at P;unfold oF;rw[Zq P.1];split
  ·rfl
  ·simp[a P.2]
def My{P:List j}{b:j}(c:P[a]? =some b):P.set a b=P:=by
 apply X3;intro e;rw[Xj];split
 ·rename_i d;subst d;rw[Zx (Qv.1 c).1,c]
 ·rfl
section
variable {w w':World} {D E F:XN} {t:List bg} {cells:List cO} {op arg:Int} {ma ca ta:ZH} {mn mc cn cc tn tc i:Nat} {L:List (Bx cO)} {bx:Bx cO}
def QP{P:cO}(b:∀g∈b3.bl,jq.Ok g)(i:aP P.n/\uL P.set/\P.set.length<=64)(j:aP arg)(k:op=3->arg∈P.set\/P.set.length<64):
  aP (RU b3 P op arg).n/\uL (RU b3 P op arg).set/\(RU b3 P op arg).set.length<=64:=by
 obtain⟨f,a,c⟩:=i;unfold RU
 split
 ·exact⟨JA _,a,c⟩
 split
 ·exact⟨j,a,c⟩
 split
 ·rename_i h
  refine⟨f,Bs a,?_⟩
  by_cases b:arg∈P.set
  ·show(oF arg P.set).length<=64
   rw[sS b a];exact c
  ·show(oF arg P.set).length<=64
   rw[Mx b];rcases k h with h|h
   ·exact Zz h b
   ·omega
 split
 ·exact⟨f,a.sublist List.filter_sublist,Xx (List.length_filter_le ..) c⟩
 ·refine⟨?_,a,c⟩
  show aP (b3.bl.getD arg.toNat ⟨0,0,0,0⟩).lf
  by_cases d:arg.toNat<b3.bl.length
  ·have e:b3.bl.getD arg.toNat ⟨0,0,0,0⟩=b3.bl[arg.toNat]:=by simp[QQ,d]
   rw[e];exact(b _ (XY d)).2.1
  ·have e:b3.bl.getD arg.toNat ⟨0,0,0,0⟩=⟨0,0,0,0⟩:=by simp[QQ,Q7 (Nat.le_of_not_lt d)]
   rw[e];simp[aP]
def OG(a:EN t cells (i:Int) op arg)(e:aP arg)(b:Row fy 32 w E ma mn (t.getD i ⟨0,0,false,[]⟩).bl)(f:∀c,E c->¬aI ca=some c)(P:jo w ca cn cc L i bx F):
  enters XP (Td op)=true/\ZG (Td op) (#[]++ #[x_ (t.getD i ⟨0,0,false,[]⟩) ma mn mc ca cn cc (i:Int) arg]++ #[]) w (Ok λg w'=>g= .tuple #[]/\oK w ca cn cc L i F (RU (t.getD i ⟨0,0,false,[]⟩) bx.x op arg) w'):=by
 have j:=a.Se;have k:=a.Sf;have:op=1\/op=2\/op=3\/op=4\/op=5:=oM
 rcases this with rfl|rfl|rfl|rfl|rfl
 ·exact⟨kR,do_1 P⟩
 ·exact⟨kR,To P⟩
 ·exact⟨kR,Tq P e⟩
 ·exact⟨kR,Ts P⟩
 ·obtain⟨h,d,l⟩:=a.mv rfl
  rw[Qx]at d;exact⟨kR,Tp P b f h (by rw[b.len];exact d)⟩
structure Sh (w9:World) (ca:ZH) (cn cc:Nat) (D:XN) (cells:List cO) (j:Nat) (w':World) (L:List (Bx cO)) (Fi:Nat->XN):Prop where
 nC:aU jH.ju 73 (λb=>aI ca=some b) w' ca cn cc L
 eq:L.map (·.x)=cells
 own:∀i b,i<j->L[i]? =some b->aU aQ 3 (Fi i) w' b.a b.n b.c b.x.set
 aF:∀i x,Fi i x->w9.heap.size<=x/\x<w'.heap.size/\¬aI ca=some x
 ap:∀i k x,i≠k->Fi i x->¬Fi k x
 oL:∀i x,j<=i->¬Fi i x
 af:ak (λb=>aI ca=some b) w9 w'
def OH{s:Int}(o:EN t cells s op arg)(M:uP t cells s op arg=0)(a2:aP arg)(e3:t.length<=64)(ht:Row nV 48 w E ta tn t)(hE:∀a,E a->a<w.heap.size)(h:Row eT 32 w D ca cn cells)(hD:∀a,D a->a<w.heap.size):
  ZG 166 #[.agg #[.slice ta tn tc],.slice ca cn cc,XH s,XH op,XH arg] w (Ok (qw eT 73 w (OF t cells s op arg))):=by
 obtain⟨i,rfl⟩:∃i:Nat,s=i:=⟨s.toNat,by have:=o.f0;omega⟩
 obtain⟨m,A,l2,l3⟩:=ez.boxes h;have e4:=o.len;have e5:m.length=cells.length:=by rw[<-A];simp
 refine KG (PA.mk λw1 k1 s1 g1=>PC.ok (oJ (l2.ah k1) λa c=>by have:=hD a c;omega) ?_);rintro _ N ⟨n,q,C,F9,rfl,v,O,d4⟩;have e6:=v.len dC;have e7:=h.len;have x:∀a,aI n=some a->w1.heap.size<=a:=λa c=>d4 a (v.self a c);have Q:∀a,aI n=some a->a<N.heap.size:=λa c=>v.aF a (v.self a c);refine⟨_,_,_,rfl,λR a8 w'=>∃f:Nat,a8=f/\f<=q/\R=q-f/\∃L p,Sh N n q C D cells f w' L p/\∀b,f<=b->L[b]? =m[b]?,
  ⟨_,0,rfl,Qj _,rfl,m,λ_ _=>False,⟨v.alone,A,λi a hi=>oM,λ_ _ h=>h.elim,λ_ _ _ _ h=>h.elim,λ_ _ _=>id,ak.refl _⟩,λb _=>rfl⟩,?_⟩
 rintro R _ _ b9 ⟨f,rfl,hj,rfl,L,p,d,a3⟩;have e8:L.length=cells.length:=by rw[<-d.eq];simp
 have F:ai w b9:=(k1.then O).new d.af λa c=>.inr (by have:=x a c;omega);refine an.dec (λe9=>?_) (λf0=>?_)
 ·have c0:f<m.length:=oM
  have S:m[f]? =some m[f]:=Qq c0;obtain⟨a,T,es,U,c,g0,a9,rfl,-⟩:=(l2.ah F).el f m[f] S;have d5:=l3 m[f] (XY c0);refine⟨a,T,U,oM,oM,_,_,_,a9 1 dC,PC.ok (cy (d5.1.ah F) λa c=>by have:=hD a c;have:=F.size;omega) ?_⟩;rintro _ g2 ⟨g3,g4,g5,G,rfl,a4,H,I⟩;have a5:=d.nC.ah H;have hz:=d.af.size;obtain⟨y,c1⟩:∃y,n=XM y:=by
   rcases a5.body with⟨cs,D',ho,-⟩;rcases ho.cases with⟨-,hn,-⟩|⟨y,b0,e,-⟩
   ·omega
   ·exact⟨y,e⟩
  refine⟨_,_,_,rfl,y,0,c1,oM,oM,?_⟩;simp only[Qx];refine ez.set a5 (by rw[a3 f (Q4 _)];exact S) c1 λg6 c2 V g7=>⟨_,?_,f+1,aq oM,oM,rfl,_,λb=>if b=f then G else p b,⟨c2,?_,?_,?_,?_,?_,?_⟩,?_⟩
  ·omega
  ·rw[List.map_set,d.eq,My]
   rw[<-A,Q9,S];rfl
  ·intro b a l c
   rw[Xj]at c
   by_cases W:f=b
   ·subst W
    rw[Zx rfl,Zx oM]at c
    cases c
    rw[Zx rfl];exact a4.af V λP B e=>by have:=I P B;have:=Q P e;omega
   ·rw[Zq W]at c
    rw[Zq (λe=>W e.symm)];exact((d.own b a oM c).ah H).af V λP B e=>(d.aF b P B).2.2 e
  ·intro b P B
   split at B
   ·have:=I P B;have:=a4.aF P B;exact⟨oM,oM,λe=>by have:=Q P e;omega⟩
   ·have J:=d.aF b P B;have:=H.size;exact⟨J.1,oM,J.2.2⟩
  ·intro b k' P X B g
   split at B<;>split at g
   ·omega
   ·have:=I P B;have:=d.aF k' P g;omega
   ·have:=I P g;have:=d.aF b P B;omega
   ·exact d.ap b k' P X B g
  ·intro b P l B
   rw[Zq oM]at B;exact d.oL b P oM B
  ·exact(d.af.ah H).then V
  ·intro b l
   rw[Xj,Zq oM,a3 b oM]
 ·have g8:f=q:=oM
  refine PC.ok xZ ?_;rintro _ g9 ⟨f5,rfl,Y,Z⟩;refine⟨_,rfl,lO xY CD Y ?_⟩;rw[Jy o.Se o.Sf];refine⟨_,_,_,rfl,PA.mk λh0 d6 h2 d7=>aB (Mu op) d7 rfl λd8 d9 h4 b3=>an.tt rfl λb4 e0=>?_⟩;have c3:ai d8 b4:=e0.af;have u:ai b9 b4:=((Z.then d6).new d9 λa c=>.inr (by have:=Z.size;omega)).then c3;have c4:=F.then u;have b3:=c3.get b3 id;have z9:=d.af.size;have h5:=Z.size;have h6:=O.size;have gt:=u.get (d.af.get (O.get g1 id) (λe=>by have:=x _ e;omega)) id;have h7:=o.f1;have h8:=ht.len;obtain⟨a,T,f6,f7,b1,U,c,h9,f1,f2,f3,f4,c5⟩:=CH (ht.ah c4) (i:=i) oM;have c6:i<L.length:=oM
  have K:L[i]? =some L[i]:=Qq c6;generalize L[i]=bx at K;have b5:cells[i]? =some bx.x:=by rw[<-d.eq,Q9,K];rfl
  have c7:cells.getD i ⟨0,[]⟩=bx.x:=by rw[QQ,b5];rfl
  have a0:∀(b:Nat) (P:cO),cells[b]? =some P->aP P.n/\uL P.set/\P.set.length<=64:=λb P B=>by
   rw[<-A,Q9]at B
   cases hL:m[b]? with
   |none=>rw[hL]at B;cases B
   |some b2=>rw[hL]at B;cases B;exact(l3 b2 (QZ hL)).2
  have c8:jo b4 n q C L i bx (p i):=⟨d.nC.ah u,K,(d.own i bx oM K).ah u,λa c=>(d.aF i a c).2.2,a0 i _ b5,oM⟩
  obtain⟨a1,r⟩:=OG (mc:=b1) o a2 c5 (λa c e=>by have:=hE a c;have:=x a e;omega) c8;refine⟨_,ae b3 rfl,_,_,_,ae gt rfl,a,T,U,oM,oM,_,_,_,_,_,_,f1,f2,f3,f4,_,_,_,rfl,a1,PC.ok r ?_⟩;rintro _ b6 ⟨rfl,j,z,g,d0,a6,b7,d1⟩;have i0:=b7.size;have zg:=u.size;have b8:∀P,z P->N.heap.size<=P:=λP B=>by
   rcases d1 P B with h|h
   ·exact(d.aF i P h).1
   ·omega
  have d2:∀b a,(L.set i j)[b]? =some a->aU aQ 3 (λP=>if b=i then z P else p b P) b6 a.a a.n a.c a.x.set:=λb a c=>by
   rw[Xj]at c
   by_cases l:i=b
   ·subst l
    rw[Zx rfl,Zx c6]at c
    cases c
    simp only[if_true];rw[g];exact a6
   ·rw[Zq l]at c
    simp only[Zq (λe:b=i=>l e.symm)];have i1:=(Qv.1 c).1;refine((d.own b a oM c).ah u).af b7 λP B e=>?_;rcases e with e|e
    ·exact(d.aF b P B).2.2 e
    ·exact d.ap b i P (λe=>l e.symm) B e
  have a7:∀a∈L.set i j,aP a.x.n/\uL a.x.set/\a.x.set.length<=64:=λa c=>by
   obtain⟨b,l,rfl⟩:=List.getElem_of_mem c;have k:(L.set i j)[b]? =some (L.set i j)[b]:=Qq l;generalize(L.set i j)[b]=a at k;rw[Xj]at k
   by_cases d3:i=b
   ·rw[Zx d3,Zx oM]at k
    cases k
    rw[g];refine QP (λR Y=>?_) (a0 i _ b5) a2 λh3=>?_
    ·obtain⟨c9,hq,rfl⟩:=List.getElem_of_mem Y
     obtain⟨b',o',es,-,-,-,-,-,e1⟩:=c5.el c9 _ (Qq hq);exact e1
    ·rw[CF]at M
     have c:Mr t cells (i:Int) op arg=true:=by
      cases hq:Mr t cells (i:Int) op arg
      ·rw[hq]at M;simp at M
      ·rfl
     unfold Mr at c;subst h3;simp only[Qx,c7]at c;simpa using c
   ·rw[Zq d3]at k
    exact a0 b _ (by rw[<-d.eq,Q9,k];rfl)
  have e2:∀a∈L.set i j,a.x.set.length<=64:=λa c=>(a7 a c).2.2;have hU:aU jH.KF 73 (λP=>aI n=some P\/((∃b,b≠i/\p b P)\/z P)) b6 n q C ((L.set i j).map (·.x)):=by
   refine ez.unbox (N:=jH) (D:=λP=>(∃b,b≠i/\p b P)\/z P) d0 (λa c=>(⟨?_,a7 a c⟩:jH.In b6 _ a)) (λP B=>?_)
   ·obtain⟨b,l,rfl⟩:=List.getElem_of_mem c
    have J:=d2 b _ (Qq l);refine(J.row (bytes:=8) dC ?_).mono λP B=>?_
    ·have:=e2 _ c;unfold aT;omega
    ·split at B
     ·exact .inr B
     ·rename_i X;exact .inl ⟨b,X,B⟩
   ·rcases B with⟨b,-,B⟩|B
    ·have:=d.aF b P B;exact⟨oM,this.2.2⟩
    ·refine⟨a6.aF P B,λe=>?_⟩
     rcases d1 P B with h|h
     ·exact(d.aF i P h).2.2 e
     ·have:=Q P e;omega
  refine⟨rfl,Ok.mk ⟨n,q,C,(λP=>aI n=some P\/((∃b,b≠i/\p b P)\/z P)),rfl,?_,?_,?_⟩⟩
  ·rw[QO o.Se o.Sf,Qx,c7,<-g,<-d.eq,<-List.map_set];exact hU
  ·exact c4.new b7 λP B=>.inr (by
    rcases B with B|B
    ·have:=x P B;omega
    ·have:=(d.aF i P B).1;omega)
  ·rintro P (B|⟨b,-,B⟩|B)
   ·have:=x P B;omega
   ·have:=(d.aF b P B).1;omega
   ·have:=b8 P B;omega
end
end Go.Proofs.YtkpomgifkloklacGreatDoor
namespace Go.aw
open Go
variable{d:ZH}{x:XU}
section
variable {α β:Type} {N:ez α β} {w9 w w':World} {a:ZH} {n c j:Nat} {L0:List (Bx α)} {e:TypeId}
def dO(N:ez α β)(e:TypeId)(w9:World)(a:ZH)(n c:Nat)(L0:List (Bx α))(j:Nat)(w':World):Prop:=
 ∃(b:List (Bx α)) (g:XN),aU N.ju e (λP=>aI a=some P) w' a n c b/\b.map (·.x)=L0.map (·.x)/\(∀(h:Nat) (P:Bx α),h<j->b[h]? =some P->N.In w' g P)/\(∀f:Nat,j<=f->b[f]? =L0[f]?)/\
  ak (λP=>aI a=some P) w9 w'/\∀d,g d->w9.heap.size<=d/\d<w'.heap.size/\¬aI a=some d
def dO.start(P:aU N.ju e (λb=>aI a=some b) w9 a n c L0):dO N e w9 a n c L0 0 w9:=
 ⟨L0,λ_=>False,P,rfl,λd b f=>oM,λ_ _=>rfl,ak.refl _,λ_ P=>P.elim⟩
def dO.ah(b:dO N e w9 a n c L0 j w)(P:ai w w'):dO N e w9 a n c L0 j w':=by
 obtain⟨h,i,k,l,m,o,p,d⟩:=b;exact⟨h,i,k.ah P,l,λq r s t=>(m q r s t).af P λ_ _ b=>b,o,p.ah P,λf g=>⟨(d f g).1,Qk (d f g).2.1 P.size,(d f g).2.2⟩⟩
def dO.af(P:dO N e w9 a n c L0 j w):ak (λb=>aI a=some b) w9 w:=P.elim λd P=>P.elim λD P=>P.2.2.2.2.1
def dO.len(P:dO N e w9 a n c L0 j w):n=L0.length:=by
 obtain⟨g,h,b,d,-⟩:=P;have:=Zj List.length d;simp at this;have f:0<N.k:=Nat.lt_of_le_of_lt (Qj _) N.ho;rw[b.len f,this]
def dO.some(b:dO N e w9 a n c L0 j w)(h:j<n):∃P,a=XM P:=by
 obtain⟨i,k,d,-⟩:=b;rcases d.body with⟨cs,l,f,-⟩;rcases f.cases with⟨-,m,-⟩|⟨P,g,e,-⟩
 ·omega
 ·exact⟨P,e⟩
def dO.cell(l:dO N e w9 a n c L0 j w){g:Nat}(m:a=Option.some ⟨g,0,none⟩){P:Bx α}(o:L0[j]? =Option.some P)(p:n*N.k<=aT):∀d f,(N.hd P.x P.a P.n P.c)[d]? =Option.some f->w.cell? ⟨g,0+j*N.k+d,none⟩=Option.some f:=by
 obtain⟨t,u,h,v,x,q,y,z⟩:=l;have i:0<N.k:=Nat.lt_of_le_of_lt (Qj _) N.ho;have r:=h.row (bytes:=N.k) i (by rw[<-h.len i];exact p);obtain⟨A,B,C,b,-,-,s,rfl,-⟩:=r.el j P (by rw[q j (Q4 _)];exact o);rw[m]at b;cases b
 intro d f k;rw[<-k];exact s d (by have:=(Qv.1 k).1;rw[N.hl]at this;exact this)
def dO.step(y:dO N e w9 a n c L0 j w){g:Nat}(p:a=Option.some ⟨g,0,none⟩){b:Bx α}(h:L0[j]? =Option.some b){q z:Nat}{G:XN}(A:Row N.ci N.ib w G d q (N.inner b.x))(C:N.ok b.x)(l:∀P,G P->w9.heap.size<=P/\P<w.heap.size)(Q:g<w9.heap.size)(m:∀w',dO N e w9 a n c L0 (j+1) w'->ak (λb=>aI a=Option.some b) w w'->w'.heap.size=w.heap.size->x w'):
  PS w ⟨g,0+j*N.k+N.o,none⟩ (.slice d q z) x:=by
 obtain⟨E,F,H,I,J,r,K,s⟩:=y;have t:E[j]? =Option.some b:=by rw[r j (Q4 _)];exact h
 have L:=(Qv.1 t).1;have u:∀P,G P->¬aI a=Option.some P:=λP B e=>by
  have:=(l P B).1;rw[p]at e;simp only[aI,Q1]at e;omega
 refine ez.set H t p λM O f o=>m M ⟨_,λP=>F P\/G P,O,?_,?_,?_,K.then f,?_⟩ f o
 ·rw[List.map_set,I]
  apply X3;intro R;rw[Xj];split
  ·rename_i e;subst e
   rw[Zx (by simpa using(Qv.1 h).1),Q9,h];rfl
  ·rfl
 ·intro i P S B
  rw[Xj]at B
  by_cases v:j=i
  ·subst v
   rw[Zx rfl,Zx L]at B
   cases B
   exact⟨(A.af f λP B=>u P B).mono λP B=>.inr B,C⟩
  ·rw[Zq v]at B
   exact((J i P oM B).af f λP B=>(s P B).2.2).mono λP B=>.inl B
 ·intro k T
  rw[Xj,Zq oM,r k oM]
 ·rintro P (B|B)
  ·rw[o];exact s P B
  ·rw[o];exact⟨(l P B).1,(l P B).2,u P B⟩
def dO.done(f:dO N e w9 a n c L0 n w):∃g,aU N.KF e g w a n c (L0.map (·.x))/\∀P,g P->aI a=Option.some P\/w9.heap.size<=P:=by
 have q:=f.len;obtain⟨i,j,k,h,l,r,s,d⟩:=f;have t:i.length=L0.length:=by have:=Zj List.length h;simpa using this
 rw[<-h];refine⟨_,ez.unbox (D:=j) k (λu m=>?_) λP b=>⟨(d P b).2.1,(d P b).2.2⟩,λP b=>b.imp id λb=>(d P b).1⟩;obtain⟨o,p,rfl⟩:=List.getElem_of_mem m;exact l o _ oM (Qq p)
end
end Go.aw
namespace Go.Proofs.YtkpomgifkloklacGreatDoor
open Go.aw
def ow:ez aj Int where
 k:=10
 ci:=aQ
 ib:=8
 inner:=(·.aN)
 hd:=aD
 ok:=aj.Ok
 hl:=λ_ _ _ _=>rfl
 h1:=λa b c d e P=>by
  simp only[aD,Q2,List.not_mem_nil,or_false]at P;rcases P with rfl|rfl|rfl|rfl|rfl|rfl|rfl|rfl|rfl|rfl<;>rfl
 o:=3
 ho:=dC
 fm:=λ_ _ _ _ _ _ _=>rfl
def OU:ow.KF=iX:=rfl
def Ho:ez bg jq where
 k:=4
 ci:=fy
 ib:=32
 inner:=(·.bl)
 hd:=dv
 ok:=λP=>aP P.kind/\aP P.dE
 hl:=λ_ _ _ _=>rfl
 h1:=λb c d e f a=>by
  simp only[dv,Q2,List.not_mem_nil,or_false]at a;rcases a with rfl|rfl|rfl|rfl<;>rfl
 o:=3
 ho:=dC
 fm:=λ_ _ _ _ _ _ _=>rfl
def Ey:Ho.KF=nV:=rfl
variable{e:Int}{b4:List cO}{a c:Nat}{d:ZH}
section
variable {w w':World} {D E F:XN}
def mY{e:aj}{w:World}{D:XN}(i:Row aQ 8 w D d a e.aN)(s:∀P,D P->P<w.heap.size):
  ZG 106 #[jk e d a c] w (Ok λt w'=>∃d a c G,t=jk e d a c/\Row aQ 8 w' G d a e.aN/\(∀P,G P->w.heap.size<=P/\P<w'.heap.size)/\ai w w'):=by
 have u:=i.dK;have v:=i.len;refine CX (PA.mk λz m A f=>PA.mk λB g C j=>⟨_,_,_,ae (g.get f id) rfl,PC.ok (cy (i.ah (m.then g)) λP b=>by have:=s P b;omega) ?_⟩);rintro _ E ⟨n,o,p,G,rfl,q,h,k⟩;have f:=h.get (g.get f id) id;have j:=h.get j id;refine⟨_,_,_,rfl,PS.mk f (by simp[aD]) λF l H x=>?_⟩;refine au (cs:=aD e n o p) (aX _ _ _ _) x (aB (aX _ _ _ _) (l.get j oM) rfl λI r J y=>au (aX _ _ _ _) y (Ok.mk ⟨n,o,p,G,rfl,?_,?_,?_⟩))
 ·refine(((q.af l λP b=>?_).af r λP b=>?_).row (bytes:=8) dC (by rw[<-v];exact u))
  ·have:=k P b;omega
  ·have:=k P b;omega
 ·intro P b
  have:=k P b;have:=q.aF P b;omega
 ·have K:=h.size
  exact((ak.new ((m.then g).then h) l λP b=>.inr oM).new r λP b=>.inr oM)
def HX(h:Row eT 32 w D d a b4)(C:∀P,D P->P<w.heap.size):
  ZG 112 #[.agg #[XH e,.slice d a c]] w (Ok λa1 w'=>∃E H I F,a1= .agg #[XH e,.slice E H I]/\aU eT 73 F w' E H I b4/\(∀P,F P->w.heap.size<=P)/\ai w w'):=by
 obtain⟨l,J,l2,l3⟩:=ez.boxes h;have K:=h.dK;have c1:=h.len;have c2:l.length=b4.length:=by rw[<-J];simp
 refine CY (PA.mk λL M s1 N=>PA.mk λw2 p s2 g2=>⟨_,_,_,ae (p.get N id) rfl,PC.ok (oJ (l2.ah (M.then p)) λP b=>by have:=C P b;omega) ?_⟩);rintro _ w9 ⟨j,m,v,F9,rfl,q,r,b6⟩;have n:∀P,aI j=some P->w2.heap.size<=P:=λP b=>b6 P (q.self P b);have a2:∀P,aI j=some P->P<w9.heap.size:=λP b=>q.aF P (q.self P b);refine⟨_,_,_,rfl,PS.mk (r.get (p.get N id) id) sM λs x c3 t=>⟨_,_,_,ae t rfl,?_⟩⟩;have z9:=r.size;have a3:=x.get (r.get g2 id) oM;have a4:aU jH.ju 73 (λP=>aI j=some P) s j m v l:=q.alone.af x λP b f=>by have:=n P b;omega
 have a5:ai w s:=((M.then p).then r).new x λP b=>.inr oM;refine⟨λO a6 w'=>∃g:Nat,a6=g/\g<=m/\O=m-g/\dO jH 73 s j m v l g w',⟨_,0,rfl,Qj _,rfl,dO.start a4⟩,?_⟩;rintro O _ _ Q ⟨g,rfl,hj,rfl,i⟩;have c4:=i.len;have y:ai w Q:=a5.new i.af λP b=>.inr (by have:=n P b;omega);have z:¬aI j=some w.heap.size:=λf=>by have:=n _ f;omega
 have R:¬aI j=some L.heap.size:=λf=>by have:=n _ f;omega
 refine an.dec (λc5=>λb7 b8=>?_) (λc6=>?_)
 ·have o:ai Q b7:=b8.af
  have S:=i.ah o;obtain⟨k,rfl⟩:=i.some oM;have c7:=n k rfl;have a7:k<s.heap.size:=by have:=a2 k rfl;omega
  have A:l[g]? =some l[g]:=Qq oM;have u:=l3 l[g] (XY oM);generalize l[g]=B at A u;have T:=o.get (i.af.get t z) id;refine⟨λP=>P=k,by show w.heap.size≠k;omega,_,_,_,ae T rfl,_,_,_,ae T rfl,k,0,rfl,by omega,by omega,_,_,_,S.cell rfl A (by show m*2<=aT;unfold aT at K⊢;omega) 1 _ rfl,PC.ok (cy ((u.1.ah y).ah o) λP b=>by have:=C P b;have:=(y.then o).size;omega) ?_⟩;rintro _ c8 ⟨d0,d1,d2,G,rfl,U,V,hG⟩;refine⟨_,_,_,rfl,ai.af V,k,0,rfl,oM,oM,?_⟩;have d3:=i.af.size;have d4:=o.size;refine(S.ah V).step (g:=k) rfl A (U.row (bytes:=8) dC ?_) u.2 (λW X=>⟨by have:=hG W X;omega,U.aF W X⟩) a7 λd5 b0 b9 d6=>⟨b9.mono λP _ f=>(by simpa[aI]using f.symm),_,?_,g+1,aq (by unfold aT at K;omega),oM,rfl,b0⟩
  ·have:B.x.set.length<=64:=u.2.2.2
   show(jH.inner B.x).length*8<=aT;unfold aT;show B.x.set.length*8<=_;omega
  ·omega
 ·obtain rfl:g=m:=oM
  obtain⟨Fd,Y,Z⟩:=i.done;rw[J]at Y;have d7:=i.af.size;refine⟨_,_,_,_,ae (i.af.get t z) rfl,ae (i.af.get t z) rfl,PS.mk (i.af.get a3 R) sM λd8 b2 d9 c0=>PS.mk c0 sM λe0 b3 e1 a0=>⟨_,_,_,_,ae a0 rfl,ae a0 rfl,Ok.mk ⟨j,_,v,Fd,rfl,?_,?_,?_⟩⟩⟩
  ·have b5:∀P,Fd P->P≠L.heap.size:=λP b f=>by
    rcases Z P b with h|h
    ·exact R (f▸h)
    ·omega
   exact(Y.af b2 λP b f=>b5 P b f).af b3 λP b f=>b5 P b f
  ·intro P b
   rcases Z P b with h|h
   ·have:=n P h;omega
   ·omega
  ·exact(y.new b2 λP b=>.inr oM).new b3 λP b=>.inr oM
end
variable{r:ZH}{C:aM}
section
variable {w w':World} {D E F:XN}
def oB{P:List iH}(e:Row tP 40 w D d a P)(f:∀b,D b->b<w.heap.size):ZG 90 #[.slice d a c] w (Ok (qw tP 109 w P)):=
 gI (yd HY dC e f λh w' g=>Ok.mk g)
def oC{P:List (Bx bg)}(e:Row Ho.ju 48 w D d a P)(f:∀b,D b->b<w.heap.size):ZG 91 #[.slice d a c] w (Ok (qw Ho.ju 104 w P)):=
 fT (yd MK dC e f λh w' g=>Ok.mk g)
def AW{tn tc pn pc:Nat}(h:aZ w D C d tn r pn)(S:∀P,D P->P<w.heap.size):
  ZG 104 #[.agg #[.slice d tn tc,.slice r pn pc]] w (Ok λa5 w'=>∃o xy T e f g G,a5= .agg #[.slice o xy T,.slice e f g]/\aZ w' G C o xy e f/\(∀P,G P->w.heap.size<=P/\P<w'.heap.size)/\ai w w'):=by
 have d3:=h.aW.len;have E:=h.aW.dK;have d4:=h.xM.len;have d5:=h.xM.dK;refine wX (PA.mk λw1 k1 s1 g1=>PA.mk λw2 F s2 g2=>⟨_,_,_,ae (F.get g1 id) rfl,PC.ok (oB (h.xM.ah (k1.then F)) λP B=>by have:=S P B;omega) ?_⟩);rintro _ p ⟨e,f,g,G1,rfl,U,H,b4⟩;have z8:=H.size;refine⟨_,_,_,rfl,PA.mk λg8 d6 g9 d7=>PS.mk d7 sM λh0 d8 h3 d9=>PS.mk d9 sM λq e0 h4 e1=>?_⟩;have s:ai p q:=(d6.new d8 λP B=>.inr oM).new e0 λP B=>.inr oM;have b5:ai w q:=((k1.then F).then H).then s;have ga:=s.get (H.get (F.get g1 id) id) id;have gz:=s.get (H.get g2 id) id;have h5:=s.size;have b6:q.heap[p.heap.size]? =some (.cells #[.slice none 0 0,.slice e f g] 25 (0,0)):=e1;refine⟨_,_,_,ae ga rfl,λt V w'=>∃a:Nat,V=a/\a<=tn/\t=tn-a/\ak (·=p.heap.size) q w'/\∃I J W u,w'.heap[p.heap.size]? =some (.cells #[.slice I J W,.slice e f g] 25 (0,0))/\aU jG 111 u w' I J W (C.types.take a)/\∀P,u P->q.heap.size<=P,
  ⟨_,0,rfl,Qj _,rfl,ak.refl _,none,0,0,λ_=>False,b6,aU.nil _,λ_ h=>h.elim⟩,?_⟩
 rintro t _ _ Y ⟨a,rfl,hj,rfl,v,I,J,W,u,Z,i,l⟩;have K:ai w Y:=b5.new v λP B=>.inr oM;have zk:=v.size;refine an.dec (λh6=>?_) (λh7=>?_)
 ·have b7:a<C.types.length:=oM
  obtain⟨P,a6,es,ha,B,h8,a8,fa,fn,fc,rfl,L⟩:=(h.aW.ah K).el a C.types[a] (by simp[b7]);have b8:C.types[a]? =some C.types[a]:=Qq b7;generalize C.types[a]=a1 at L b8;have c0:=a8 0 dC;have e2:jG.k=1:=rfl;rw[e2,Nat.mul_one]at c0;refine⟨P,a6,ha,oM,oM,fa,fn,fc,by rw[Qx];exact c0,PA.mk λh9 e3 i0 e4=>PS.mk e4 sM λb9 e5 i1 e6=>⟨_,_,_,ae e6 rfl,?_⟩⟩;have M:ai Y b9:=e3.new e5 λP B=>.inr oM;have c1:=K.then M;obtain⟨m,l1,l2,l3⟩:=ez.boxes (N:=Ho) L;have a7:=L.dK;refine PC.ok (oC (l2.ah M) λP B=>by have:=S P B;have:=c1.size;omega) ?_;rintro _ c2 ⟨a9,x,c9,F9,rfl,N,c3,e7⟩;have i2:=M.size;have i3:=c3.size;have O:∀P,aI a9=some P->b9.heap.size<=P:=λP B=>e7 P (N.self P B);have c4:∀P,aI a9=some P->P<c2.heap.size:=λP B=>N.aF P (N.self P B);refine⟨_,_,_,rfl,λt V w'=>∃a:Nat,V=a/\a<=x/\t=x-a/\dO Ho 104 c2 a9 x c9 m a w',⟨_,0,rfl,Qj _,rfl,dO.start N.alone⟩,?_⟩;rintro t _ _ e8 ⟨n,rfl,hi,rfl,j⟩;have i4:=j.len;have i5:m.length=a1.length:=by rw[<-l1];simp
  have e9:=L.len;have y:ai Y e8:=(M.then c3).new j.af λP B=>.inr (by have:=O P B;omega);have i6:=j.af.size;refine an.dec (λg5=>?_) (λg6=>?_)
  ·obtain⟨Q,rfl⟩:=j.some oM
   have c5:=c4 Q rfl;have a0:m[n]? =some m[n]:=Qq oM;have z:=l3 m[n] (XY oM);generalize m[n]=R at a0 z;refine⟨Q,0,rfl,oM,oM,_,_,_,j.cell rfl a0 (by show x*4<=aT;unfold aT at a7⊢;omega) 3 _ rfl,PC.ok (rz (z.1.ah y) λP B=>by have:=S P B;have:=(K.then y).size;omega) ?_⟩;rintro _ i7 ⟨i8,i9,j0,G,rfl,a2,f2,hG⟩;refine⟨_,_,_,rfl,Q,0,rfl,oM,oM,?_⟩;refine(j.ah f2).step (g:=Q) rfl a0 (a2.row (bytes:=32) dC ?_) z.2 (λa3 hx=>⟨by have:=hG a3 hx;omega,a2.aF a3 hx⟩) c5 λj1 c6 j2 j3=>⟨_,?_,n+1,aq (by unfold aT at a7;omega),oM,rfl,c6⟩
   ·have c:=z.1.dK
    have X:=z.1.len;show R.x.bl.length*32<=aT;have j4:R.n=R.x.bl.length:=X;have j5:R.n*32<=aT:=c;omega
   ·omega
  ·obtain rfl:n=x:=oM
   obtain⟨Fd,hd,b0⟩:=j.done;rw[l1,Ey]at hd;have a4:=y.get Z id;refine⟨_,_,_,ae a4 rfl,Kx (c:=jG) (x:=a1) (i.ah y) Ju (D:=Fd) ⟨_,_,_,rfl,hd.row dC (by rw[<-e9];exact a7)⟩ (λP B=>⟨hd.aF P B,λb=>?_⟩) ?_ ?_ λa' A j6 F' d0 b1 c7 g7=>⟨_,_,_,rfl,?_⟩⟩
   ·have c:=i.aF P (i.self P b)
    rcases b0 P B with X|X
    ·have:=O P X;omega
    ·omega
   ·have:=List.length_take_le a C.types;unfold aT at E⊢;omega
   ·have:=List.length_take_le a C.types;unfold aT at E;unfold maxLen;omega
   ·have k:¬aI I=some p.heap.size:=λb=>by have:=l _ (i.self _ b);omega
    have g0:=b1.get a4 k;have j7:=b1.size;refine PS.mk g0 sM λj8 c8 j9 g3=>⟨_,?_,a+1,aq (by unfold aT at E;omega),oM,rfl,?_,a',J+1,A,F',g3,?_,?_⟩
    ·omega
    ·exact((v.ah y).new b1 λP B=>.inr (l _ (i.self P B))).then c8
    ·rw[Qw,b8]
     refine d0.af c8 λP B b=>?_;rcases c7 P B with c|c|c
     ·have:=l P c;omega
     ·rcases b0 P c with X|X
      ·have:=O P X;omega
      ·omega
     ·omega
    ·intro P B
     rcases c7 P B with c|c|c
     ·exact l P c
     ·rcases b0 P c with X|X
      ·have:=O P X;omega
      ·omega
     ·omega
 ·obtain rfl:a=tn:=oM
  rw[Qz oM]at i;have d1:=v.get gz oM;have f0:=(U.ah s).af v λP B b=>by have:=U.aF P B;omega
  refine⟨_,_,_,_,_,_,ae Z rfl,ae Z rfl,PS.mk d1 sM λk0 b2 k3 g4=>PS.mk g4 sM λk4 b3 k5 d2=>⟨_,_,_,_,_,_,ae d2 rfl,ae d2 rfl,Ok.mk ⟨_,_,_,_,_,_,λP=>u P\/G1 P,rfl,⟨?_,?_⟩,?_,?_⟩⟩⟩
  ·have k:∀P,u P->P≠w1.heap.size:=λP B b=>by have:=l P B;omega
   exact((((i.row (bytes:=24) dC (by rw[<-d3];exact E)).af b2 λP B b=>k P B b).af b3 λP B b=>k P B b)).mono λP B=>.inl B
  ·have k:∀P,G1 P->P≠w1.heap.size:=λP B b=>by have:=b4 P B;omega
   exact((((f0.row (bytes:=40) dC (by rw[<-d4];exact d5)).af b2 λP B b=>k P B b).af b3 λP B b=>k P B b)).mono λP B=>.inr B
  ·rintro P (B|B)
   ·have:=l P B;have:=i.aF P B;omega
   ·have:=b4 P B;have:=U.aF P B;omega
  ·exact(K.new b2 λP B=>.inr oM).new b3 λP B=>.inr oM
end
end Go.Proofs.YtkpomgifkloklacGreatDoor
namespace Go.aw
open Go
def np{P a b:Type}(c:P->a->b->Prop):List (P×a)->List (P×b)->Prop
 |[],[]=>True
 |(d,e)::f,(g,h)::i=>d=g/\c d e h/\np c f i
 |_,_=>False
section
variable {κ β γ:Type} {R R':κ->β->γ->Prop}
def np.mono:∀{P:List (κ×β)} {a:List (κ×γ)},np R P a->(∀e b c,R e b c->R' e b c)->np R' P a
 |[],[],_,_=>trivial
 |(g,b)::P,(h,c)::a,d,f=>⟨d.1,f _ _ _ d.2.1,np.mono d.2.2 f⟩
def np.ax[BEq κ][LawfulBEq κ](P:κ):∀{a:List (κ×β)} {b:List (κ×γ)},np R a b->
  (aw.ax a P=none/\aw.ax b P=none)\/∃c d,aw.ax a P=some c/\aw.ax b P=some d/\R P c d
 |[],[],_=>.inl ⟨rfl,rfl⟩
 |(f,c)::a,(j,d)::b,g=>by
  obtain⟨rfl,h,i⟩:=g;unfold aw.ax
  by_cases e:P==f
  ·obtain rfl:P=f:=by simpa using e
   simp only[e,if_true];exact .inr ⟨c,d,rfl,rfl,h⟩
  ·simp only[e];exact np.ax P i
def np.off{g:κ}:∀{P:List (κ×β)} {a:List (κ×γ)},np R P a->(∀b c d,b≠g->R b c d->R' b c d)->g∉P.map (·.1)->np R' P a
 |[],[],_,_,_=>trivial
 |(j,c)::P,(k,d)::a,e,h,f=>by
  simp only[QY,Q2,not_or]at f;exact⟨e.1,h _ _ _ (λi=>f.1 i.symm) e.2.1,np.off e.2.2 h f.2⟩
def np.aJ[BEq κ][LawfulBEq κ]{P:κ}{a:β}{b:γ}(f:R' P a b):∀{c:List (κ×β)} {g:List (κ×γ)},np R c g->(∀h a b,h≠P->R h a b->R' h a b)->Tidy c->np R' (aw.aJ c P a) (aw.aJ g P b)
 |[],[],_,_,_=>⟨rfl,f,trivial⟩
 |(j,p)::c,(q,r)::g,l,i,d=>by
  obtain⟨rfl,m,k⟩:=l;unfold Tidy at d;simp only[QY,List.nodup_cons]at d;unfold aw.aJ
  by_cases e:P==j
  ·simp only[e,if_true]
   obtain rfl:P=j:=by simpa using e
   refine⟨rfl,f,?_⟩;have n:P∉c.map (·.1):=d.1;exact np.off k i n
  ·simp only[e]
   exact⟨rfl,i _ _ _ (λo=>e (by simp[o])) m,np.aJ f k i d.2⟩
end
def uu{c:Type}(e:World)(f:Nat)(a:c->Value)(g:c)(h:Int):Prop:=
 ∃(d:Array MapEntry) (P i:Nat) (b:MapEntry),e.heap[f]? =some (.map d P)/\d[i]? =some b/\b.key=a g/\(b.born:Int)=h
variable{e:Int}{a:Nat}{j:Type}{m s:XR}{b k:World}{x:XU}
def uu.af{S:XN}{c:j->Value}{d:j}(f:uu b a c d e)(g:ak S b k)(h:¬S a):uu k a c d e:=by
 obtain⟨i,P,l,m,n,o⟩:=f;exact⟨i,P,l,m,g.get n h,o⟩
section
variable {κ:Type} [BEq κ] [LawfulBEq κ] {P:Program} {t kt vt:TypeId} {z:Value} {enc:κ->Value}
def BW{κ d:Type}[BEq κ][LawfulBEq κ]{a:κ}{e:d}:∀{b:List (κ×d)},ax b a=some e->aJ b a e=b
 |(f,g)::b,P=>by
  unfold ax at P;unfold aJ
  by_cases c:a==f
  ·rw[Zx c]at P⊢
   obtain rfl:a=f:=by simpa using c
   cases P;rfl
  ·rw[Zq c]at P⊢
   rw[BW P]
def DK(w:nU P t kt vt z)(o:iq P kt enc){e:List (κ×Value)}(x:cj b a enc e){k:κ}(p:∀w' C,cj w' a enc (aJ e k ((ax e k).getD z))->uu w' a enc k C->ak (·=a) b w'->w'.heap.size=b.heap.size->m (.tuple #[(ax e k).getD z,XH C]) w'):aH P (Instr.mapEntry t (.map (some a)) (enc k)) b m s:=by
 obtain⟨d,c,j,l,y,E⟩:=x.at';have q:=kU o k d.toList e l b;have I:d.toList.length=e.length:=by have:=Zj List.length l;simpa using this
 have r:=az j;have h:=vG e k 0
 cases u:ml e k 0 with
 |none=>
  rw[u]at q h;have v:ax e k=none:=h.symm;rw[v]at p;have J:=w.JW b;refine aH.mk (w':={b with heap:=b.heap.setIfInBounds a (.map (d.push {key:=enc k,val:=z,born:=c}) (c+1))}) ?_ (p _ c ⟨⟨_,_,dG b a _ r,?_,?_,?_⟩,x.tidy.aJ k z⟩ ⟨_,_,d.size,{key:=enc k,val:=z,born:=c},dG b a _ r,sM,rfl,rfl⟩ (ak.setObj b a _) sM)
  ·simp[Instr.mapEntry,run_underlying w.under,eC j,eD o,q,fY j,J,goInt]
  ·rw[Option.getD_none,(vH u).1 z];simp[l]
  ·intro g i
   simp only[Array.toList_push,Q6,List.mem_singleton]at i;rcases i with i|rfl
   ·have:=y g i;omega
   ·show c<c+1;omega
  ·simp only[Array.toList_push,Q3,QY,List.map_nil]
   rw[List.nodup_append];refine⟨E,sM,?_⟩;intro K h L A T;simp only[List.mem_singleton]at A;obtain⟨g,i,rfl⟩:=Xk.1 h;have:=y g i;omega
 |some M=>
  obtain⟨f,F⟩:=M;rw[u]at q h;have v:ax e k=some F:=h.symm;obtain⟨_,N,H,O⟩:=qj u;rw[Nat.sub_zero]at N H O;have B:f<d.size:=by
                 have:d.size=e.length:=by simpa using I
                 omega
  have n:d[f].key=enc k:=by
   have:=Zj (·[f]?) l;simp only[Q9,H,Option.map_some]at this;simp[B]at this;exact this.1
  have Q:(d.modify f λg=>{g with key:=enc k})=d:=by
   apply Array.ext
   ·simp
   ·intro U V W
    rw[Array.getElem_modify];split
    ·rename_i g;subst g
     cases R:d[f]with
     |mk K L m=>rw[R]at n;simp at n;simp[n]
    ·rfl
  rw[v]at p;refine aH.mk (w':={b with heap:=b.heap.setIfInBounds a (.map d c)}) ?_ (p _ (d[f].born) ⟨⟨_,_,dG b a _ r,?_,y,E⟩,x.tidy.aJ k F⟩ ⟨_,_,f,d[f],dG b a _ r,by simp[B],n,rfl⟩ (ak.setObj b a _) sM)
  ·have S:(Instr.keyThatStays (enc k) (enc k)).run P b= .ok (enc k) b:=by simp[Instr.keyThatStays,o.same]
   simp[Instr.mapEntry,run_underlying w.under,eC j,eD o,q,B,n,S,fY j,Q,goInt]
  ·rw[Option.getD_some,BW v];exact l
def zF(J:iq P kt enc){d:List (κ×Value)}(u:cj b a enc d){i:κ}(K:uu b a enc i e){l:Value}(L:∀p,cj p a enc (aJ d i l)->ak (·=a) b p->p.heap.size=b.heap.size->x p):jS P (Instr.entryStore t (.map (some a)) (XH e) l) b x m:=by
 obtain⟨g,n,q,v,M,z⟩:=u.at';obtain⟨N,r,c,j,o,O,A,Q⟩:=K;rw[q]at o;cases o
 subst Q;have R:g.toList.length=d.length:=by have:=Zj List.length v;simpa using this
 have S:=az q;obtain⟨s,rfl⟩:=Q5.1 O;have w:c<d.length:=by
                have:g.size=d.length:=by simpa using R
                omega
 have B:d[c]? =some (i,g[c].val):=by
  have:=Zj (·[c]?) v;simp only[Q9,Qq w,Option.map_some]at this;simp[s]at this;have T:d[c].1=i:=J.inj (by rw[<-this.1,A]);rw[Qq w]
  congr 1
  exact Prod.ext T this.2.symm
 have U:aJ d i l=d.set c (i,l):=by
  cases C:ml d i 0 with
  |none=>
   have E:=vG d i 0;rw[C]at E;have:=qk.1 E.symm;exact Zz (Xk.2 ⟨_,QZ B,rfl⟩) this
  |some V=>
   obtain⟨h,a2⟩:=V;obtain⟨_,f,F,H⟩:=qj C;rw[Nat.sub_zero]at f F H;have k:h=c:=by
    have W:(d.map (·.1))[h]? =some i:=by rw[Q9,F];rfl
    have X:(d.map (·.1))[c]? =some i:=by rw[Q9,B];rfl
    obtain⟨Y,Z⟩:=Qv.1 W;obtain⟨q3,q4⟩:=Qv.1 X;exact(List.getElem_inj (xs:=d.map (λe=>e.1)) (h₀:=Y) (h₁:=q3) (show(d.map (λe=>e.1)).Nodup from u.tidy)).1 (Z.trans q4.symm)
   rw[(H l).1,k]
 have a0:g.findIdx? (λj=>(j.born:Int)==(g[c].born:Int))=some c:=by
  rw[Array.findIdx?_eq_some_iff_getElem];refine⟨s,sM,λh f=>?_⟩;have a1:h<g.size:=oM
  have a3:g[h].born≠g[c].born:=λj=>by
   have:=(List.getElem_inj (xs:=g.toList.map (·.born)) (h₀:=by simpa using a1) (h₁:=by simpa using s) z).1 (by simpa using j);omega
  simp;omega
 refine jS.mk (w':={b with heap:=b.heap.setIfInBounds a (.map (g.modify c λj=>{j with val:=l}) n)}) ?_ (L _ ⟨⟨_,_,dG b a _ S,?_,?_,?_⟩,u.tidy.aJ i l⟩ (ak.setObj b a _) sM)
 ·simp[Instr.entryStore,eC q,asInt,asIntOf,a0,fY q]
 ·rw[U]
  apply X3;intro h;have f:=Zj (·[h]?) v;simp only[Q9]at f;simp only[Array.toList_modify,Q9,Xj,List.getElem?_modify]
  by_cases k:c=h
  ·subst k
   simp[s,w,A]
  ·simp only[k,if_false,Option.map_map]at f⊢
   simpa using f
 ·intro j I
  rw[Array.toList_modify]at I;obtain⟨h,f⟩:=List.getElem?_of_mem I;rw[List.getElem?_modify]at f
  cases y:g.toList[h]? with
  |none=>rw[y]at f;simp at f
  |some e'=>
   rw[y]at f;have hm:=QZ y;have:=M e' hm
   by_cases k:c=h
   ·simp[k]at f;subst f;exact this
   ·simp[k]at f;subst f;exact this
 ·have:(g.modify c λj=>{j with val:=l}).toList.map (·.born)=g.toList.map (·.born):=by
   apply X3;intro h;simp only[Array.toList_modify,Q9,List.getElem?_modify,Option.map_map]
   by_cases k:c=h<;>simp[k]<;>rfl
  rw[this];exact z
end
end Go.aw
namespace Go.Proofs.YtkpomgifkloklacGreatDoor
open Go.aw
def uG{f:Type}{d:f->Int}:∀{e:List f},cg d e=0->∀b∈e,d b=0
 |[],_,b,a=>by cases a
 |y::e,P,b,a=>by
  unfold cg at P
  by_cases c:d y=0
  ·rw[c]at P
   simp only[bne_self_eq_false,Bool.false_eq_true,if_false]at P;rcases Q2.1 a with rfl|a
   ·exact c
   ·exact uG P b a
  ·rw[Zx (by simpa using c)]at P
   exact Zz P c
variable{L:Bool}{e q:Int}{d1:Int×Int}{E:List aj}{c1:List bg}{a c i p:Nat}{f:XN}{c0 d r:ZH}{g:TypeId}{t:Value}{b:World}{C:aM}{d5:aY}{l:aj}{b3:bg}{d6:iH}
def jF(P:cJ C=0):pO C=false/\(∀a∈C.types,∀d∈a,eS a d=0)/\∀e∈C.projs,k_ C e=0:=by
 unfold cJ at P;split at P
 ·simp at P
 ·rename_i f
  simp only at P;split at P
  ·rename_i b
   exact Zz P (by simpa using b)
  ·rename_i b
   refine⟨by simpa using f,λa g=>?_,uG P⟩;have c:cg (λa=>cg (eS a) a) C.types=0:=by simpa using b
   exact uG (uG c a g)
def uJ(P:pO C=false):1<=C.types.length/\C.types.length<=8/\C.projs.length<=8/\∀a∈C.types,1<=a.length/\a.length<=8:=by
 unfold pO at P;split at P
 ·cases P
 ·rename_i b
  simp only[Bool.or_eq_true,Bool.not_eq_true',Zk,not_or,Bool.not_eq_false,Nat.not_lt]at b;obtain⟨b,c⟩:=b;rw[bu]at b;refine⟨oM,oM,c,λa d=>?_⟩;rw[List.any_eq_false]at P;have:=P a d;simp only[Bool.or_eq_true,Bool.not_eq_true',not_or,Bool.not_eq_false]at this;have:=bu.1 this.1;omega
def Qa(P:eS c1 b3=0):∀a∈b3.bl,a.ko<(c1.length:Int):=by
 intro a c;unfold eS at P;split at P
 ·simp at P
 split at P
 ·simp at P
 split at P
 ·simp at P
 split at P
 ·simp at P
 ·rename_i b
  rw[Bool.not_eq_true,List.any_eq_false]at b;have:=b a c
  by_cases d:a.ko= -1
  ·omega
  ·have:Oq c1 a.ko 1=true:=by
    simpa[d]using this
   unfold Oq at this;simp only[QK]at this;have:=bu.1 this.1;omega
def o_(P:C.Ar e q=some b3):0<=e/\e<(C.types.length:Int)/\C.at e=C.types.getD e.toNat []/\0<=q/\q<((C.at e).length:Int)/\(C.at e).getD q.toNat ⟨0,0,false,[]⟩=b3/\b3∈C.at e:=by
 unfold aM.Ar at P;split at P
 ·rename_i a
  simp only[QK,bu]at a;refine⟨a.1.1,oM,?_,a.2.1,oM,by rw[QQ,P];rfl,QZ P⟩;unfold aM.at;rw[Zx (bu.2 a.1)]
 ·cases P
def at_mem(a:0<=e)(b:e<(C.types.length:Int)):C.at e∈C.types:=by
 unfold aM.at;rw[Zx (bu.2 ⟨a,oM⟩)];have P:e.toNat<C.types.length:=oM
 have:C.types.getD e.toNat []=C.types[e.toNat]:=by simp[QQ,P]
 rw[this];exact XY P
def Du(n:cJ C=0){a c f arg:Int}(P:iQ C a c f arg=0){cells:List cO}(o:cells.length=(C.at a).length):
  EN (C.at a) cells c f arg/\0<=a/\a<(C.types.length:Int)/\(C.at a).length<=8:=by
 obtain⟨p,q,y⟩:=jF n;obtain⟨z,A,B,r⟩:=uJ p;unfold iQ at P
 cases d:C.Ar a c with
 |none=>rw[d]at P;simp at P
 |some b=>
  rw[d]at P;simp only at P;obtain⟨g,h,E,s,t,u,v⟩:=o_ d;split at P
  ·simp at P
  ·rename_i i
   split at P
   ·simp at P
   ·rename_i j
    simp only[Bool.or_eq_true,Bool.not_eq_true',not_or,Bool.not_eq_false]at i j;have k:=bu.1 i.1;have l:=at_mem g h;refine⟨⟨s,t,o,k.1,k.2,λw=>?_⟩,g,h,(r _ l).2⟩;rw[u];have x:=Qa (q _ l b v);have e:within arg 0 (b.bl.length-1)=true:=by
     have:=j.2;simp only[QK,beq_iff_eq,Bool.not_eq_true',not_and,Bool.not_eq_false]at this;exact this w
    have e:=bu.1 e;have m:arg.toNat<b.bl.length:=oM
    refine⟨e.1,oM,?_⟩;have:b.bl.getD arg.toNat ⟨0,0,0,0⟩=b.bl[arg.toNat]:=by simp[QQ,m]
    rw[this];exact x _ (XY m)
structure aY.OK (V:aY):Prop where
 decl:cJ V.decl=0
 st:∀x∈V.ef,x.2.cells.length=(V.decl.at x.1.1).length
def Kr(a:List bg)(P:List cO)(b c arg:Int):(OF a P b c arg).length=P.length:=by
 unfold OF
 simp only;split
 ·simp
 split
 ·simp
 split
 ·simp
 split
 ·simp
 split
 ·simp
 ·rfl
def aY.cellsOf(a:aY)(P:aj):List cO:=match ax a.ef (P.aW,P.agg)with
 |some b=>b.cells
 |none=>c_ (a.decl.at P.aW)
def aY.OK.len(a:d5.OK)(P:aj):(d5.cellsOf P).length=(d5.decl.at P.aW).length:=by
 unfold aY.cellsOf
 cases b:ax d5.ef (P.aW,P.agg)with
 |none=>simp[c_]
 |some c=>exact a.st _ (bV b)
def aY.qt(a:aY)(P:aj):a.try P=if iQ a.decl P.aW P.field P.op P.arg≠0 then(true,(0,0),a)else
  match((ax a.done (P.aW,P.agg,P.field)).getD []).find? λb=>lv ((a.decl.at P.aW).getD P.field.toNat ⟨0,0,false,[]⟩) b P with
  |some b=>(true,aR b,a)
  |none=>if uP (a.decl.at P.aW) (a.cellsOf P) P.field P.op P.arg≠0 then(true,(0,0),a)else
   (false,(0,0),{a with ef:=aJ a.ef (P.aW,P.agg) ⟨lN (((ax a.ef (P.aW,P.agg)).getD ⟨0,[]⟩).version+1),OF (a.decl.at P.aW) (a.cellsOf P) P.field P.op P.arg⟩,done:=aJ a.done (P.aW,P.agg,P.field) ((ax a.done (P.aW,P.agg,P.field)).getD []++[P])}):=rfl
def aY.On(P:d5.OK)(b:aj):(d5.try b).2.2.OK/\(d5.try b).2.2.decl=d5.decl:=by
 rw[aY.qt];split
 ·exact⟨P,rfl⟩
 split
 ·exact⟨P,rfl⟩
 split
 ·exact⟨P,rfl⟩
 ·refine⟨⟨P.decl,λc a=>?_⟩,rfl⟩
  rcases fH a with rfl|a
  ·show(OF _ _ _ _ _).length=_
   rw[Kr,P.len]
  ·exact P.st c a
def aY.xP(b:d5.OK)(P:aj):(d5.add P).2.OK/\(d5.add P).2.decl=d5.decl:=by
 obtain⟨a,c⟩:=aY.On b P;exact⟨⟨a.decl,a.st⟩,c⟩
def aY.rC(P:cJ C=0):(aY.new C).OK:=⟨P,λb a=>by cases a⟩
def Jo:ez cM Int where
 k:=13
 ci:=aQ
 ib:=8
 inner:=(·.ev.aN)
 hd:=λP a b c=>aD P.ev a b c++[.bool P.void,XH P.Cq.1,XH P.Cq.2]
 ok:=λP=>P.ev.Ok
 hl:=λ_ _ _ _=>rfl
 h1:=λP a b c e d=>by
  simp only[aD,List.cons_append,List.nil_append,Q2,List.not_mem_nil,or_false]at d;rcases d with rfl|rfl|rfl|rfl|rfl|rfl|rfl|rfl|rfl|rfl|rfl|rfl|rfl<;>rfl
 o:=3
 ho:=dC
 fm:=λ_ _ _ _ _ _ _=>rfl
abbrev wK:jB cM:=Jo.KF
abbrev gB(P:cM)(a:ZH)(b c:Nat):List Value:=aD P.ev a b c++[.bool P.void,XH P.Cq.1,XH P.Cq.2]
def Oe:iI XP 43 141 13 120:=⟨kR,kR,dC⟩
def kv(P:cM)(a:ZH)(b c:Nat):iJ XP 141 (gB P a b c)=true:=kR
def Mf(P:cM)(a:ZH)(b c:Nat):Ph (fz XP 141) (.agg (gB P a b c).toArray)=true:=kR
def Oi:Hn XP 217 3:=⟨kR,kR,⟨ "typ", "no",kR,dC,dC⟩,kR,kR,kR⟩
def PZ:uE XP 278 217 3:=⟨Oi,kR,⟨ "agg", "field",kR,dC,dC⟩,kR,kR,kR⟩
def RT:iq XP 217 nK:=Oi.key
def Ui:iq XP 278 Ap:=PZ.key
def Uj:nU XP 204 217 42 (.agg #[XH 0,.slice none 0 0]):=⟨kR,kR⟩
def Uv:nU XP 205 278 50 (.slice none 0 0):=⟨kR,kR⟩
inductive Hb where
 |self|st|dn|LV|Oj|SZ
 |done (k:Int×Int×Int)
structure Cn where
 ta:ZH
 tn:Nat
 tc:Nat
 pa:ZH
 pn:Nat
 pc:Nat
 ea:ZH
 en:Nat
 ec:Nat
 r1:Nat
 r2:Nat
 l1:List ((Int×Int)×Value)
 l2:List ((Int×Int×Int)×Value)
 cls:Nat->Hb
abbrev Cn.P(a:Cn)(b:XN)(c:Hb):XN:=λP=>b P/\a.cls P=c
def Tj(c:World)(D:XN)(d:Value)(P:lA):Prop:=∃a b e,d= .agg #[XH P.version,.slice a b e]/\Row eT 32 c D a b P.cells
def Tk(c:World)(D:XN)(d:Value)(e:List aj):Prop:=∃P a b,d= .slice P a b/\aU iX 59 D c P a b e
structure wI (w:World) (p:Nat) (F:XN) (V:aY) (q:Cn):Prop where
 at':w.heap[p]? =some (.cells #[.slice q.ta q.tn q.tc,.slice q.pa q.pn q.pc,.slice q.ea q.en q.ec,.map (some q.r1),.map (some q.r2)] 207 (0,0))
 Oj:aZ w (q.P F .Oj) V.decl q.ta q.tn q.pa q.pn
 LV:aU wK 141 (q.P F .LV) w q.ea q.en q.ec V.entries
 st:cj w q.r1 nK q.l1
 S_:eZ (Tj w (q.P F .SZ)) q.l1 V.ef
 dn:cj w q.r2 Ap q.l2
 Tl:np (λk=>Tk w (q.P F (.done k))) q.l2 V.done
 aF:∀b,F b->b<w.heap.size
 lp:F p/\q.cls p= .self
 l1:F q.r1/\q.cls q.r1= .st
 l2:F q.r2/\q.cls q.r2= .dn
def cw(a:World)(b:Nat)(c:XN)(P:aY):Prop:=P.OK/\∃d,wI a b c P d
section
variable {w w':World} {p:Nat} {F T D:XN} {V:aY} {q:Cn}
def Tj.af{P:lA}(b:Tj w D t P)(c:ak T w w')(d:∀a,D a->¬T a):Tj w' D t P:=by
 obtain⟨e,f,g,h,i⟩:=b;exact⟨e,f,g,h,i.af c d⟩
def Tk.af(a:Tk w D t E)(b:ak T w w')(c:∀P,D P->¬T P):Tk w' D t E:=by
 obtain⟨d,e,f,g,h⟩:=a;exact⟨d,e,f,g,h.af b c⟩
def wI.af(P:wI w p F V q)(c:ak T w w')(d:∀a,F a->¬T a):wI w' p F V q:=
 ⟨c.get P.at' (d _ P.lp.1),P.Oj.af c λa b=>d a b.1,P.LV.af c λa b=>d a b.1,P.st.af c (d _ P.l1.1),P.S_.mono λf g e=>e.af c λa b=>d a b.1,
  P.dn.af c (d _ P.l2.1),P.Tl.mono λh f g e=>e.af c λa b=>d a b.1,λa b=>Qk (P.aF a b) c.size,P.lp,P.l1,P.l2⟩
def wI.ah(P:wI w p F V q)(a:ai w w'):wI w' p F V q:=P.af a λ_ _ P=>P
def cw.af(P:cw w p F V)(b:ak T w w')(c:∀a,F a->¬T a):cw w' p F V:=⟨P.1,P.2.imp λq d=>d.af b c⟩
def cw.ah(P:cw w p F V)(a:ai w w'):cw w' p F V:=P.af a λ_ _ P=>P
def cw.aF(a:cw w p F V):∀P,F P->P<w.heap.size:=a.2.elim λq b=>b.aF
def cw.self(P:cw w p F V):F p:=P.2.elim λq a=>a.lp.1
def Ez{tn u m v:Nat}(x:cJ C=0)(y:aZ w D C d tn r m)(z:∀P,D P->P<w.heap.size):
  ZG 55 #[.agg #[.slice d tn u,.slice r m v]] w (Ok λA w'=>∃p F,A= XL p/\cw w' p F (aY.new C)/\(∀P,F P->w.heap.size<=P)/\ai w w'):=by
 refine HG (PA.mk λK n L o=>⟨_,_,_,_,_,_,ae o rfl,ae o rfl,PC.ok (AW (y.ah n) λP a=>by have:=z P a;omega) ?_⟩);rintro _ e ⟨g,xy,h,i,j,k,G,rfl,B,E,q⟩;refine⟨_,_,_,_,_,_,rfl,PA.mk λb s M H=>PA.mk λc l N I=>PA.mk λt f O J=>Ok.mk ⟨c.heap.size,λP=>w.heap.size<=P/\P<t.heap.size,rfl,⟨aY.rC x,
  ⟨⟨g,xy,h,i,j,k,none,0,0,e.heap.size,b.heap.size,[],[],λP=>if P=c.heap.size then .self else if P=e.heap.size then .st else if P=b.heap.size then .dn else .Oj⟩,?_⟩⟩,λP a=>a.1,((n.then q).then s).then (l.then f)⟩⟩
 have Q:=q.size;refine⟨J,?_,?_,cj.new (f.get (l.get H id) id),trivial,cj.new (f.get I id),trivial,λP a=>a.2,⟨⟨by show w.heap.size<=c.heap.size;omega,by show c.heap.size<_;omega⟩,Zx rfl⟩,⟨⟨by show w.heap.size<=e.heap.size;omega,by show e.heap.size<_;omega⟩,?_⟩,⟨⟨by show w.heap.size<=b.heap.size;omega,by show b.heap.size<_;omega⟩,?_⟩⟩
 ·refine(((B.ah s).ah l).ah f).mono λP a=>?_
  have:=E P a;refine⟨⟨oM,oM⟩,?_⟩;show(if P=c.heap.size then _ else _)=_;rw[Zq oM,Zq oM,Zq oM]
 ·exact(aU.nil t).mono (λP a=>a.elim) λP a=>a.1.2
 ·show(if e.heap.size=c.heap.size then _ else _)=_
  rw[Zq oM,Zx rfl]
 ·show(if b.heap.size=c.heap.size then Hb.self else if b.heap.size=e.heap.size then Hb.st else if b.heap.size=b.heap.size then Hb.dn else Hb.Oj)=Hb.dn
  rw[Zq oM,Zq oM,Zx rfl]
abbrev En:lA:=⟨0,[]⟩
def mE(k:cw w p F V){b c:Int}:
  ZG 61 #[XL p,XH b,XH c] w (Ok λr w'=>∃d e f G,r= .tuple #[.agg #[XH ((V.state b c).getD En).version,.slice d e f],.bool (V.state b c).isSome]/\aU eT 73 G w' d e f ((V.state b c).getD En).cells/\(∀P,G P->w.heap.size<=P)/\ai w w'):=by
 obtain⟨T,q,k⟩:=k;refine tf (PA.mk λs t U z=>?_);have j:=k.ah t;refine⟨p,0,rfl,_,ae j.at' rfl,lO (enc:=nK) (k:=(b,c)) Uj RT j.st ?_⟩;obtain⟨i,P,d,e,f,g,h,A,B,l⟩:∃(i:lA) (P:Bool) (d:ZH) (e f:Nat),(ax q.l1 (b,c)).getD (.agg #[XH 0,.slice none 0 0])= .agg #[XH i.version,.slice d e f]/\(ax q.l1 (b,c)).isSome=P/\(V.state b c).getD En=i/\(V.state b c).isSome=P/\Row eT 32 s (q.P F .SZ) d e i.cells:=by
  unfold aY.state;rcases j.S_.ax (b,c)with⟨g,h⟩|⟨r,i,g,h,d,e,f,rfl,l⟩
  ·exact⟨En,false,none,0,0,by rw[g];rfl,by rw[g];rfl,by rw[h];rfl,by rw[h];rfl,Row.nil _ _⟩
  ·exact⟨i,true,d,e,f,by rw[g];rfl,by rw[g];rfl,by rw[h];rfl,by rw[h];rfl,l⟩
 rw[g,h,A,B];refine⟨_,_,_,_,_,rfl,PA.mk λW C X E=>PS.mk E sM λY H Z I=>PS.mk I sM λJ K s7 u=>?_⟩;have m:ai s J:=(C.new H λP a=>.inr oM).new K λP a=>.inr oM;refine⟨_,_,_,_,ae u rfl,ae u rfl,PC.ok (HX (l.ah m) λP a=>by have:=j.aF P a.1;omega) ?_⟩;rintro _ w8 ⟨L,M,N,G,rfl,O,n,o⟩;have Q:=o.get (m.get z id) id;have z8:=o.size;refine⟨_,_,_,_,rfl,PS.mk Q sM λw9 v s9 R=>PS.mk R sM λa0 x a1 y=>⟨_,_,_,_,ae y rfl,ae y rfl,Ok.mk ⟨L,M,N,G,rfl,?_,?_,?_⟩⟩⟩
 ·exact(O.af v λP a S=>by have:=n P a;omega).af x λP a S=>by have:=n P a;omega
 ·intro P a;have:=n P a;omega
 ·exact(((t.then m).then o).new v λP a=>.inr oM).new x λP a=>.inr oM
end
section
variable {w w':World} {D D' S:XN} {d:aM} {ta pa:ZH} {tn tc pn pc:Nat}
def vS{a b op arg:Int}(S:eu w)(k:aZ w D d ta tn pa pn)(T:∀g,D g->g<w.heap.size):
  ZG 110 #[.agg #[.slice ta tn tc,.slice pa pn pc],XH a,XH b,XH op,XH arg] w (Ok λf w'=>f= XH (iQ d a b op arg)/\ai w w'):=by
 refine AO (PA.mk λw1 B s1 C=>⟨_,_,_,_,_,_,ae C rfl,ae C rfl,PC.ok (nu (k.ah B) λg s=>by have:=T g s;omega) ?_⟩);rintro f w2 ⟨U,p⟩;have q:=B.then U
 cases l:d.Ar a b with
 |none=>
  rw[l]at p;refine bS (Gs SM none 0 0) ⟨_,p,PA.mk λV t W u=>aB (eL _ _ _ _) u rfl λX v Y E=>an.tt rfl (Ok.mk ⟨?_,(q.then t).new v λg s=>.inr (by have:=q.size;omega)⟩)⟩;unfold iQ;rw[l]
 |some h=>
  rw[l]at p;obtain⟨r,i,F,a5,rfl,Z,hF⟩:=p;have x:iQ d a b op arg=if !within op 1 5||pk op !=h.kind then 2 else if op==1&&arg==0||op==5&& !within arg 0 (h.bl.length-1)then 1 else 0:=by unfold iQ;rw[l]
  have hz:=q.size;refine bS (Gs h r i F) ⟨_,rfl,PA.mk λV t W u=>aB (eL h r i F) u rfl λX v Y E=>an.ff rfl λy H=>PC.ok bY ?_⟩;rintro _ _ ⟨rfl,rfl⟩;have I:=(bO.af (S:=λ_=>False) H).get E id;have J:ai w y:=((q.then t).new v λg s=>.inr oM).then H.af;have P:∀z:Int,iQ d a b op arg=z->Ok (λf w'=>f= XH (iQ d a b op arg)/\ai w w') (.returned (XH z)) y:=λz k=>Ok.mk ⟨by rw[k],J⟩;refine⟨_,rfl,an.not (an.mk (λe=>?_) (λe=>P 2 (by rw[x,e];rfl)))⟩;have a6:=bu.1 e;refine⟨1,0,rfl,oM,oM,pk op,?_,_,ae I rfl,an.dX (λa0=>P 2 ?_) (λhe=>?_)⟩
  ·have:=(S.ah J).kinds op.toNat oM
   rw[Xz,this,Int.toNat_of_nonneg oM]
  ·rw[x,e,Zx (by simpa using a0)]
  have m:iQ d a b op arg=if op==1&&arg==0||op==5&& !within arg 0 (h.bl.length-1)then 1 else 0:=by rw[x,e,he];simp
  have hn:i=h.bl.length:=Z.len dC;have a7:i<=140737488355328:=by
   obtain⟨a1,xy,K,-⟩:∃(r:ZH) (i:Nat),Row fy 32 w D r i h.bl/\True:=by
    obtain⟨j,n,a8,a3,a9,A,h3,h4⟩:=aM.o_ l;have b0:=k.aW.len;obtain⟨g,a2,T',es,rfl,_,_,o,L,b1,n1,c1,rfl,M⟩:=k.aW.at (i:=a) j oM;rw[a3]at o;cases o
    have b2:=M.len;obtain⟨b3,b4,x',b5,rfl,_,_,N,b6,b7,n2,c2,rfl,hM,_⟩:=M.at (i:=b) A oM;rw[h4]at N;cases N
    exact⟨_,_,hM,trivial⟩
   have n:=K.len;have A:=K.dK;unfold aT at A;omega
  have bl:∀{O:List PanicEntry->XU},op=5->PC XP 84 #[XH arg,XH 0,XH (IntKind.wrap .i64 ((i:Int)-1))] y (λa4 Q=>∃R:Bool,a4= .bool R/\an (!R) (Ok (λf w'=>f= XH (iQ d a b op arg)/\ai w w') (.returned (XH 1)) Q) (Ok (λf w'=>f= XH (iQ d a b op arg)/\ai w w') (.returned (XH 0)) Q)) O:=by
   intro O c;refine PC.ok bY ?_;rintro _ _ ⟨rfl,rfl⟩;rw[wrap_i64 bb,hn];refine⟨_,rfl,an.not (an.mk (λe=>P 0 ?_) (λe=>P 1 ?_))⟩
   ·rw[m,e,c];rfl
   ·rw[m,e,c];rfl
  refine an.eG (λn=>an.eG (λj=>an.eG (λ_=>P 1 (by rw[m,n,j];rfl)) (λL=>Zz j L)) (λj=>an.eG (λc=>Zz c oM) (λc=>P 0 ?_))) (λn=>an.eG (λc=>⟨_,_,_,ae I rfl,bl c⟩) (λc=>P 0 ?_))
  ·rw[m,Zq (by simp[j,c])]
  ·rw[m,Zq (by simp[n,c])]
def Ch{g:ZH}(b:Row nV 48 w D g a c1):
  ZG 87 #[.agg #[.slice g a c],XH e,XH q] w (Ok λj w'=>j= .bool (Oq c1 e q)/\ai w w'):=by
 have h:=b.len;have k:=b.dK;unfold aT at k;refine EV (PA.mk λo d p i=>⟨_,_,_,ae i rfl,PC.ok bY ?_⟩);rintro _ _ ⟨rfl,rfl⟩;rw[wrap_i64 bb];refine⟨_,rfl,an.mk (λP=>?_) (λP=>Ok.mk ⟨?_,d⟩)⟩
 ·have r:=bu.1 P
  obtain⟨l,f,s,t,rfl,_,_,m,n,u,v,x,rfl,_⟩:=(b.ah d).at (i:=e) oM oM;refine⟨_,_,_,ae i rfl,l,f,rfl,oM,oM,_,n 0 dC,Ok.mk ⟨?_,d⟩⟩;unfold Oq;rw[<-h,P,m];rfl
 ·unfold Oq;rw[<-h,P];rfl
def PK(a:1<=e/\e<=4)(b:1<=q/\q<=3):∃P:Int,(∀w',(do eqGuard .shr 3 (.tmp 19) (.tmp 21) (XH (([0,2,14,6,6]:List Int).getD e.toNat 0)) (XH q);binOp .shr 3 (XH (([0,2,14,6,6]:List Int).getD e.toNat 0)) (XH q):Sem Value).run XP w'= .ok (XH P) w')/\((CM .i64 P 1==0)= !NG e q):=by
 refine⟨(([0,2,14,6,6]:List Int).getD e.toNat 0).fdiv (2 ^ q.toNat),?_,?_⟩<;>rcases(by omega:e=1\/e=2\/e=3\/e=4)with rfl|rfl|rfl|rfl<;>rcases(by omega:q=1\/q=2\/q=3)with rfl|rfl|rfl<;>first
  |(intro w';kernel_rfl)
  |decide
def Jf(m:jq):Bool:=decide (m.bE<0)||decide (m.lf<0)||m.ko== -1&&m.least !=0
def PL{c:jq}:ZG 85 (#[]++ #[.agg (mJ c).toArray]++ #[]) w (Ok λf w'=>f= .bool (Jf c)/\ai w w'):=by
 refine uZ (PA.mk λg a h b=>⟨_,ae b rfl,an.dec (λP=>Ok.mk ⟨by simp[Jf,P],a⟩) (λd=>⟨_,ae b rfl,an.dec (λP=>Ok.mk ⟨by simp[Jf,P],a⟩) (λe=>⟨_,ae b rfl,an.eG (λP=>⟨_,ae b rfl,Ok.mk ⟨by simp[Jf,d,e,P],a⟩⟩) (λP=>Ok.mk ⟨by simp[Jf,d,e,P],a⟩)⟩)⟩)⟩)
def GM(a:List bg)(P:jq):Bool:=P.ko != -1&& !Oq a P.ko 1
def PM{b:jq}{e:ZH}(h:Row nV 48 w D e c c1)(j:w.heap[a]? =some (.cells #[.slice e c i] g (0,0))):
  ZG 86 (#[]++ #[.agg (mJ b).toArray]++ #[XL a]) w (Ok λk w'=>k= .bool (GM c1 b)/\ai w w'):=by
 refine u_ (PA.mk λm P n f=>⟨_,ae f rfl,an.dX (λd=>⟨_,_,_,ae (P.get j id) rfl,_,ae f rfl,PC.ok (Ch (h.ah P)) ?_⟩) (λd=>Ok.mk ⟨by simp[GM,d],P⟩)⟩);rintro _ o ⟨rfl,l⟩;exact⟨_,rfl,Ok.mk ⟨by unfold GM;rw[show(b.ko != -1)=true by simpa using d];simp,P.then l⟩⟩
def Ed{y z:ZH}(H:eu w)(I:Row nV 48 w D y a c1)(A:Row fy 32 w D z i b3.bl):
  ZG 45 #[.agg #[.slice y a c],.agg (dv b3 z i p).toArray] w (Ok λo w'=>o= XH (eS c1 b3)/\ai w w'):=by
 refine yo (PA.mk λV J W K=>PA.mk λq B X r=>⟨_,ae r rfl,PC.ok bY ?_⟩);rintro _ _ ⟨rfl,rfl⟩;have C:=J.then B;refine⟨_,rfl,an.not (an.mk (λf=>?_) (λf=>Ok.mk ⟨by unfold eS;rw[f];rfl,C⟩))⟩;have s:=bu.1 f;refine⟨λw'=>ai w w'/\q.heap.size<=w'.heap.size/\ai q w'/\within b3.dE 1 3=true/\NG b3.kind b3.dE=true/\(b3.floor&&b3.kind !=1)=false,λl E=>?_,?_⟩
 ·have d:=(bO.af (S:=λ_=>False) E).get r id
  have e:ai q l:=E.af;have P:ai w l:=C.then e;have g:eS c1 b3=1->Ok (λo w'=>o= XH (eS c1 b3)/\ai w w') (.returned (XH 1)) l:=λj=>Ok.mk ⟨by rw[j],P⟩;refine⟨_,ae d rfl,PC.ok bY ?_⟩;rintro _ _ ⟨rfl,rfl⟩;refine⟨_,rfl,an.not (an.mk (λb=>?_) (λb=>g (by unfold eS;rw[f,b];rfl)))⟩;have t:=bu.1 b;obtain⟨L,M,N⟩:=PK s t;refine⟨_,ae d rfl,0,0,rfl,oM,oM,_,by rw[Xz];exact(H.ah P).SN b3.kind.toNat oM,_,ae d rfl,L,M,?_⟩;refine an.mk (λm=>?_) (λm=>?_)<;>rw[N]at m
  ·exact g (by unfold eS;rw[f,b,show NG b3.kind b3.dE=false by simpa using m];rfl)
  have k:NG b3.kind b3.dE=true:=by simpa using m
  refine⟨_,ae d rfl,an.mk (λu=>⟨_,ae d rfl,an.dX (λO=>g ?_) (λQ=>⟨P,e.size,e,b,k,by simp[Q]⟩)⟩) (λu=>⟨P,e.size,e,b,k,by simp[u]⟩)⟩;unfold eS;rw[f,b,k,u];simp[O]
 ·rintro Y l ⟨P,Z,e,b,k,R⟩
  have d:=e.get r id;have v:eS c1 b3=if b3.bl.any Jf then 1 else if b3.bl.any (GM c1)then 8 else 0:=by
   unfold eS;rw[f,b,k,R];rfl
  refine⟨_,_,_,ae d rfl,PC.ok (GK (p:=Jf) (A.ah P) kR λS T h=>PL) ?_⟩;rintro _ T ⟨rfl,h⟩;refine⟨_,rfl,an.mk (λj=>Ok.mk ⟨by rw[v,Zx j],P.then h⟩) (λj=>⟨_,_,_,ae (h.get d id) rfl,PC.ok (GK (p:=GM c1) (A.ah (P.then h)) kR λS U n=>PM (I.ah ((P.then h).then n)) (n.get (h.get (e.get (B.get K id) id) id) id)) ?_⟩)⟩;rintro _ U ⟨rfl,n⟩;have F:=(P.then h).then n;exact⟨_,rfl,an.mk (λx=>Ok.mk ⟨by rw[v,j,x];rfl,F⟩) (λx=>Ok.mk ⟨by rw[v,j,x];rfl,F⟩)⟩
def RN{P b kind:Int}(c:(d.Ar P b).isSome):∃a,d.types[P.toNat]? =some a/\d.at P=a/\0<=P/\P<d.types.length:=by
 obtain⟨j,e⟩:=Option.isSome_iff_exists.1 c;obtain⟨f,g,a,h,i,_⟩:=aM.o_ e;exact⟨a,h,i,f,g⟩
def Ee(r:aZ w D d ta tn pa pn)(O:∀P,D P->P<w.heap.size):
  ZG 46 #[.agg #[.slice ta tn tc,.slice pa pn pc],.agg (mG d6).toArray] w (Ok λC w'=>C= XH (k_ d d6)/\ai w w'):=by
 refine yp (PA.mk λZ E s1 s=>PA.mk λw2 h s2 m=>⟨_,_,_,_,_,_,ae (h.get s id) rfl,ae (h.get s id) rfl,_,ae m rfl,_,ae m rfl,PC.ok (nu (r.ah (E.then h)) λP c=>by have:=O P c;omega) ?_⟩);rintro C w3 ⟨i,n⟩;have t:=(E.then h).then i;have hz:=i.size
 cases j:d.Ar d6.aW d6.field with
 |none=>
  rw[j]at n;refine bS (Gs SM none 0 0) ⟨_,n,PA.mk λQ e R u=>aB (eL _ _ _ _) u rfl λo f S T=>an.tt rfl (Ok.mk ⟨?_,(t.then e).new f λP c=>.inr oM⟩)⟩;unfold k_;rw[j];rfl
 |some F=>
  rw[j]at n;obtain⟨H,I,J,a0,rfl,ho,hF⟩:=n;have K:(d.Ar d6.aW d6.field).isNone=false:=by rw[j];rfl
  refine bS (Gs F H I J) ⟨_,rfl,PA.mk λQ e R u=>aB (eL F H I J) u rfl λo f S T=>an.ff rfl ⟨λP w'=>P=(d6.group==3&& !Oq (d.at d6.aW) d6.Cq 2||d6.group !=3&&d6.Cq !=0)/\ai o w',?_,?_⟩⟩
  ·have U:ai w o:=(t.then e).new f λP c=>.inr oM
   intro v V;have a:ai o v:=V.af;have W:=a.get (f.get (e.get (i.get (h.get s id) id) id) oM) id;have b:=a.get (f.get (e.get (i.get m id) id) oM) id;refine⟨_,ae b rfl,an.eG (λg=>⟨_,_,_,ae W rfl,_,ae b rfl,?_⟩) (λg=>⟨_,ae b rfl,an.dX (λ_=>⟨_,ae b rfl,?_,a⟩) (λk=>Zz k g)⟩)⟩
   ·obtain⟨a1,X,L,M,h1⟩:=RN (kind:=0) (by rw[j];rfl:(d.Ar d6.aW d6.field).isSome)
    have hl:=r.aW.len;obtain⟨P,x,T',es,rfl,_,_,l,k,a2,n1,c1,rfl,Y⟩:=((r.ah (U.then a)).aW).at (i:=d6.aW) M oM;rw[X]at l;cases l
    have N:=k 0 dC;simp only[jG,Nat.mul_one,Nat.add_zero]at N;refine⟨P,x,rfl,M,oM,_,_,_,N,_,ae b rfl,PC.ok (Ch Y) ?_⟩;rintro _ w7 ⟨rfl,y⟩;refine⟨_,rfl,an.not (an.mk (λz=>⟨_,ae (y.get b id) rfl,an.dX (λk=>Zz g k) (λ_=>⟨?_,a.then y⟩)⟩) (λz=>⟨?_,a.then y⟩))⟩
    ·rw[L,z,g];rfl
    ·rw[L,z,g];rfl
   ·rw[show(d6.group==3)=false by simpa using g,show(d6.group !=3)=true by simpa using g];rfl
  ·rintro P a3 v ⟨rfl,a⟩
   have p:ai w v:=((t.then e).new f λP c=>.inr oM).then a;have b:=a.get (f.get (e.get (i.get m id) id) oM) id;refine an.mk (λc=>Ok.mk ⟨by unfold k_;rw[K,Zq sM,Zx c],p⟩) (λc=>⟨_,ae b rfl,PC.ok bY ?_⟩);have A:k_ d d6=if !within d6.group 1 3|| !within d6.make 1 5 then 2 else 0:=by unfold k_;rw[K,Zq sM,c];rfl
   rintro _ _ ⟨rfl,rfl⟩;refine⟨_,rfl,an.not (an.mk (λq=>⟨_,ae b rfl,PC.ok bY ?_⟩) (λq=>Ok.mk ⟨by rw[A,q];rfl,p⟩))⟩;rintro _ _ ⟨rfl,rfl⟩;exact⟨_,rfl,an.not (an.mk (λB=>Ok.mk ⟨by rw[A,q,B];rfl,p⟩) (λB=>Ok.mk ⟨by rw[A,q,B];rfl,p⟩))⟩
end
def P_(P:Int×Int×Int):iJ XP 278 [XH P.1,XH P.2.1,XH P.2.2]=true:=kR
def Hc{P c:Type}[BEq P][LawfulBEq P]{a:P}{f d:c}:∀b:List (P×c),aJ (aJ b a f) a d=aJ b a d
 |[]=>by simp[aJ]
 |(g,h)::b=>by
  by_cases e:a==g
  ·simp[e,aJ]
  ·simp[e,aJ,Hc b]
section
variable {w w':World} {p:Nat} {F T D:XN} {V:aY} {q:Cn}
def El(w:World)(p:Nat)(F D:XN)(V:aY)(P:aj)(c:Value)(w':World):Prop:=
 c= .tuple #[.bool (V.try P).1,.agg #[XH (V.try P).2.1.1,XH (V.try P).2.1.2]]/\∃b,cw w' p b (V.try P).2.2/\ak F w w'/\∀a,b a->F a\/D a\/w.heap.size<=a
def Ol(b:cw w p F V)(P:ai w w')(a:V.try l=(L,d1,V)):Ok (El w p F D V l) (.returned (.tuple #[.bool L,.agg #[XH d1.1,XH d1.2]])) w':=by
 refine Ok.mk ⟨by rw[a],F,?_,ai.af P,λL c=>.inl c⟩;rw[a];exact b.ah P
def Co(i:wI b p F V q)(P:Int×Int×Int):∃a c d e,(ax q.l2 P).getD (.slice none 0 0)= .slice a c d/\(ax V.done P).getD []=e/\(aU iX 59 (q.P F (.done P)) b a c d e):=by
 rcases i.Tl.ax P with⟨f,g⟩|⟨l,e,f,g,a,c,d,rfl,k⟩
 ·exact⟨none,0,0,[],by rw[f];rfl,by rw[g];rfl,(aU.nil b).mono (λj h=>h.elim) λj h=>i.aF j h.1⟩
 ·exact⟨a,c,d,e,by rw[f];rfl,by rw[g];rfl,k⟩
def Om(e:cw w p F V)(hT:eu w)(hr:Row aQ 8 w D d a l.aN)(C:∀P,D P->P<w.heap.size/\¬F P)(he:l.Ok)(b:((ax V.done (l.aW,l.agg,l.field)).getD []).length<=20000000):
  ZG 105 #[XL p,jk l d a c] w (Ok (El w p F D V l)):=by
 have l4:=e;obtain⟨hV,q,e⟩:=e;have g:=e.aF;have C2:=g _ e.lp.1;refine wY (PA.mk λE u0 C3 u1=>PA.mk λo7 o8 C4 u2=>λl5 o9=>?_);have l6:ai o7 l5:=o9.af;have C5:l5.heap.size=o7.heap.size:=by rw[o9.heap]
 have k0:ai w l5:=(u0.then o8).then l6;have ge:=l6.get (o8.get u1 id) id;have gb:=l6.get u2 id;have Q:=e.ah k0;refine⟨p,0,rfl,_,_,_,_,_,_,ae Q.at' rfl,ae Q.at' rfl,_,ae ge rfl,_,ae ge rfl,_,ae ge rfl,_,ae ge rfl,PC.ok (vS (hT.ah k0) Q.Oj λP b=>Q.aF P b.1) ?_⟩;rintro _ R ⟨rfl,S⟩;have k1:=k0.then S;have C6:=S.size;have c0:=S.get gb id;have c1:=S.get ge id;have m:∀{w1:World} {i:Int×Int} {P:Bool},ai R w1->V.try l=(P,i,V)->∀w2,bO w1 w2->∀(x H:Int),x=i.1->H=i.2->PS w2 ⟨E.heap.size,0,none⟩ (XH x) λw3=>PS w3 ⟨E.heap.size,0+1,none⟩ (XH H) λw4=>∃(p0 p1:Int),w4.cell? ⟨E.heap.size,0,none⟩=some (XH p0)/\w4.cell? ⟨E.heap.size,0+1,none⟩=some (XH p1)/\Ok (El w p F D V l) (.returned (.tuple #[.bool P,.agg #[XH p0,XH p1]])) w4:=λ{w1 i P} hk I w2 f7 x H hx k=>by
  have k2:ai w1 w2:=f7.af;have kk:=(k1.then hk).then k2;have g2:=k2.get (hk.get c0 id) id;subst hx k;refine PS.mk g2 sM λw3 k3 s3 g3=>PS.mk g3 sM λw4 J s4 g4=>⟨_,_,ae g4 rfl,ae g4 rfl,Ol l4 ((kk.new k3 λP b=>.inr oM).new J λP b=>.inr oM) I⟩
 refine⟨_,rfl,an.dX (λd5=>λu3 p2=>?_) (λg9=>?_)⟩
 ·have p3:=(p2.af (S:=λ_=>False)).get c0 id
  exact⟨_,_,ae p3 rfl,ae p3 rfl,m (i:=(0,0)) (ak.refl _) (by rw[aY.qt,Zx d5]) u3 p2 _ _ rfl rfl⟩
 obtain⟨c3,t0,t1,C7⟩:=Du hV.decl g9 (hV.len l);obtain⟨v,p4⟩:∃v:Nat,l.aW=v:=⟨l.aW.toNat,oM⟩
 have l7:=c3.f0;have l8:=c3.f1;obtain⟨fi,g5⟩:∃fi:Nat,l.field=fi:=⟨l.field.toNat,oM⟩
 have u4:V.decl.at l.aW=V.decl.types.getD v []:=by
  unfold aM.at;rw[Zx (bu.2 ⟨t0,oM⟩),p4,Qx]
 obtain⟨tb,lf,es,u5,u6,p5,u7,fa,fn,fc,rfl,y⟩:=(Q.ah S).Oj.aW.el v V.decl.types[v] sM;have y:Row nV 48 R (q.P F .Oj) fa fn (V.decl.at l.aW):=by
  rw[u4];have:V.decl.types.getD v []=V.decl.types[v]:=by simp[QQ,show v<V.decl.types.length by omega]
  rw[this];exact y
 have C8:=(Q.ah S).Oj.aW.len;have h0:=u7 0 dC;have u9:jG.k=1:=rfl;rw[u9,Nat.mul_one]at h0;have v0:=g tb p5.1;refine⟨λT v1 ab ao w'=>v1=0/\ao=0/\ai R w'/\w'.heap[T]? =some (.cells #[.slice fa fn fc] 111 (0,0))/\w'.heap[ab]? =some (.cells #[XH l.aW,XH l.agg,XH l.field] 278 (0,0))/\R.heap.size<=T/\R.heap.size<=ab,?_,?_⟩
 ·intro K p6
  have d6:ai R K:=p6.af;have C9:K.heap.size=R.heap.size:=by rw[p6.heap]
  have p7:=(Q.ah S).ah d6;have c4:=d6.get c1 id;refine⟨λP=>K.heap.size<=P,p,0,rfl,oM,_,_,_,ae p7.at' rfl,by show¬K.heap.size<=w.heap.size;omega,_,ae c4 rfl,tb,lf,u5,t0,by omega,by show¬K.heap.size<=tb;omega,fa,fn,fc,?_,by show¬K.heap.size<=w.heap.size;omega,_,ae c4 rfl,by show¬K.heap.size<=w.heap.size;omega,_,ae c4 rfl,by show¬K.heap.size<=w.heap.size;omega,_,ae c4 rfl,?_,?_⟩
  ·rw[p4,Qx]
   exact(d6.cell (a:=⟨tb,lf+v,none⟩) u6 id).trans h0
  ·refine PA.mk λv2 d7 v3 l9=>⟨ai.af d7,PA.mk λv4 U v5 m0=>⟨ai.af U,PS.mk (U.get l9 id) sM λv6 W v7 m1=>⟨W.mono λP _ l=>oM,aB (P_ (l.aW,l.agg,l.field)) (W.get m0 oM) rfl λv8 X v9 m2=>⟨X.mono λP _ l=>oM,rfl,rfl,?_,X.get m1 oM,m2,oM,oM⟩⟩⟩⟩
   exact(((d6.then d7).then U).new W λP b=>.inr oM).new X λP b=>.inr oM
  ·refine PA.mk λv2 d7 v3 l9=>⟨ai.af d7,PA.mk λv4 U v5 m0=>⟨ai.af U,PS.mk m0 sM λv6 W v7 m1=>⟨W.mono λP _ l=>oM,aB (P_ (l.aW,l.agg,l.field)) (W.get (U.get l9 id) oM) rfl λv8 X v9 m2=>⟨X.mono λP _ l=>oM,rfl,rfl,?_,X.get m1 oM,m2,oM,oM⟩⟩⟩⟩
   exact(((d6.then d7).then U).new W λP b=>.inr oM).new X λP b=>.inr oM
 rintro T _ ab _ _ p8 ⟨rfl,rfl,p9,q0,h6,y9,D0⟩;have k2:=k1.then p9;have d8:=e.ah k2;obtain⟨da,dn,dc,j,x0,m3,q1⟩:=Co d8 (l.aW,l.agg,l.field);rw[m3]at b;refine⟨p,0,rfl,_,ae d8.at' rfl,au (cs:=[XH l.aW,XH l.agg,XH l.field]) (P_ (l.aW,l.agg,l.field)) h6 ⟨da,dn,dc,λb1=>?_,λq2 x1=>?_⟩⟩
 ·have:=eA Uv Ui (d8.dn.ah (ak.drewN p8 b1)) (l.aW,l.agg,l.field) false
  rw[x0]at this;exact this
 have g6:ai p8 q2:=x1.af;have D1:=q1.len dC;have m4:=(q1.ah g6).row (bytes:=96) dC ba;refine⟨λb1 a5 w'=>∃h:Nat,a5=h/\h<=dn/\b1=dn-h/\(∀x∈j.take h,lv ((V.decl.at l.aW).getD l.field.toNat ⟨0,0,false,[]⟩) x l=false)/\ai q2 w',⟨_,0,rfl,Qj _,rfl,sM,ak.refl _⟩,?_⟩;rintro b1 _ _ m5 ⟨h,rfl,hj,rfl,d9,e0⟩;have k3:=(p9.then g6).then e0;have h7:=e0.get (g6.get q0 id) id;have q3:=e0.get (g6.get h6 id) id;have h8:=k3.get c1 id;have c5:∀{r:Bool×(Int×Int)×aY},(match j.find? λx=>lv ((V.decl.at l.aW).getD l.field.toNat ⟨0,0,false,[]⟩) x l with
  |some x=>(true,aR x,V)
  |none=>if uP (V.decl.at l.aW) (V.cellsOf l) l.field l.op l.arg≠0 then(true,(0,0),V)else
   (false,(0,0),{V with ef:=aJ V.ef (l.aW,l.agg) ⟨lN (((ax V.ef (l.aW,l.agg)).getD ⟨0,[]⟩).version+1),OF (V.decl.at l.aW) (V.cellsOf l) l.field l.op l.arg⟩,done:=aJ V.done (l.aW,l.agg,l.field) (j++[l])}))=r->V.try l=r:=λ{r} hr=>by
  rw[aY.qt,Zq (by simpa using g9),m3];exact hr
 refine an.dec (λD2=>?_) (λD3=>?_)
 ·have g7:h<j.length:=oM
  obtain⟨db,b5,es,x2,D4,D5,q4,xa,xn,xc,rfl,q5,q6⟩:=(m4.ah e0).el h j[h] (Qq g7);have g8:j[h]? =some j[h]:=Qq g7;generalize j[h]=x at q4 q5 q6 g8;refine⟨db,b5,x2,oM,oM,bq (es:=aD x xa xn xc) (k:=10) (aX x xa xn xc) rfl (λa5 I=>q4 a5 I) (PA.mk λD6 x3 D7 x4=>aB (aX x xa xn xc) x4 rfl λq7 x5 D8 x6=>λx7 x8=>?_)⟩;have m6:ai m5 q7:=x3.new x5 λP b=>.inr oM;have q8:ai q7 x7:=x8.af;have J:=m6.then q8;have e1:=k3.then J;obtain⟨fb,fo,b6,b7,b8,x9,D9,E0,f8,f9,h1,h2,E1⟩:=CH (y.ah e1) (i:=fi) (by rw[y.len];omega);have h9:=q8.get x6 id;refine⟨_,_,_,ae (J.get h7 id) rfl,_,ae (J.get h8 id) rfl,fb,fo,x9,l7,by rw[y.len];exact l8,?_⟩;rw[g5,Qx];refine bq (es:=dv ((V.decl.at l.aW).getD fi ⟨0,0,false,[]⟩) b6 b7 b8) (k:=4) (eL _ _ _ _) rfl (λa5 I=>?_) (au (aX x xa xn xc) h9 (au (aX l d a c) (J.get h8 id) (PC.ok (yG (q5.ah J) ((hr.ah k1).ah e1)) ?_)))
  ·match a5,I with
   |0,_=>exact f8
   |1,_=>exact f9
   |2,_=>exact h1
   |3,_=>exact h2
  rintro _ E2 ⟨rfl,m7⟩;have y0:(V.decl.at l.aW).getD fi ⟨0,0,false,[]⟩=(V.decl.at l.aW).getD l.field.toNat ⟨0,0,false,[]⟩:=by rw[g5,Qx]
  rw[y0];refine⟨_,rfl,an.mk (λhv=>λy1 q9=>?_) (λhv=>⟨_,?_,h+1,aq oM,oM,rfl,λH k=>?_,(e0.then J).then m7⟩)⟩
  ·have r0:=(q9.af (S:=λ_=>False)).get (m7.get h9 id) id
   refine⟨_,_,ae r0 rfl,ae r0 rfl,m (e1.then m7) (i:=aR x) (c5 ?_) y1 q9 _ _ rfl rfl⟩;have hf:j.find? (λx=>lv ((V.decl.at l.aW).getD l.field.toNat ⟨0,0,false,[]⟩) x l)=some x:=by
    rw[List.find?_eq_some_iff_append];refine⟨hv,j.take h,j.drop (h+1),?_,λH k=>by rw[d9 H k];rfl⟩;rw[<-ZX h j]
    congr 1
    ·rw[ZX]
    ·rw[ZX,X4 g7]
     congr 1
     rw[Qq g7]at g8;exact XJ g8
   rw[hf]
  ·omega
  ·rw[Qw,g8]at k
   rcases Q6.1 k with k|k
   ·first|exact d9 H k|(rw[<-g5];exact d9 H k)
   ·simp at k;subst k;first|exact hv|(rw[<-g5];exact hv)
 ·have E3:h=dn:=oM
  rw[Qz oM]at d9;have m8:j.find? (λx=>lv ((V.decl.at l.aW).getD l.field.toNat ⟨0,0,false,[]⟩) x l)=none:=List.find?_eq_none.2 λx hx=>by rw[d9 x hx];simp
  rw[m8]at c5;intro Y i0;have c7:ai m5 Y:=i0.af;have z0:Y.heap.size=m5.heap.size:=by rw[i0.heap]
  have k5:=k3.then c7;have e9:=k1.then k5;have z5:=k5.size;have z3:=k3.size;have b9:=e.ah e9;have b2:=c7.get q3 id;have c2:=c7.get h7 id;have m9:=k5.get c1 id;have E4:=c7.size;have z2:=az b2;have z4:=az c2;obtain⟨s,P,n,o,z,f,Z,h3,h4,d3⟩:∃(s:lA) (P:Bool) (n:ZH) (o z:Nat),(ax q.l1 (l.aW,l.agg)).getD (.agg #[XH 0,.slice none 0 0])= .agg #[XH s.version,.slice n o z]/\(ax q.l1 (l.aW,l.agg)).isSome=P/\(ax V.ef (l.aW,l.agg)).getD En=s/\(P=true->V.cellsOf l=s.cells)/\Row eT 32 Y (q.P F .SZ) n o s.cells/\(P=false->V.cellsOf l=c_ (V.decl.at l.aW)):=by
   unfold aY.cellsOf;rcases b9.S_.ax (l.aW,l.agg)with⟨f,Z⟩|⟨f0,s,f,Z,n,o,z,rfl,hr⟩
   ·exact⟨En,false,none,0,0,by rw[f];rfl,by rw[f];rfl,by rw[Z];rfl,λe=>(by cases e),Row.nil _ _,λ_=>by rw[Z]⟩
   ·exact⟨s,true,n,o,z,by rw[f];rfl,by rw[f];rfl,by rw[Z];rfl,λ_=>by rw[Z],hr,λe=>(by cases e)⟩
  obtain⟨d3,h5⟩:=d3;refine⟨λP=>P=Y.heap.size,p,0,rfl,oM,_,ae b9.at' rfl,oM,_,_,ae b2 rfl,ae b2 rfl,s.version,n,o,z,P,λw' hk=>?_,PA.mk λz7 i1 z8 r3=>⟨ai.af i1,PS.mk r3 sM λz9 i2 A0 r4=>PS.mk r4 sM λr5 i3 A1 i4=>⟨i2.then i3,?_⟩⟩⟩
  ·have:=eA Uj RT (b9.st.af hk (by have:=g _ e.l1.1;omega)) (l.aW,l.agg) true
   rw[f,Z]at this;exact this
  have k6:ai Y r5:=(i1.new i2 λP b=>.inr oM).new i3 λP b=>.inr oM;refine⟨λw'=>ai Y w'/\∃n o z Dc,w'.heap[Y.heap.size]? =some (.cells #[XH s.version,.slice n o z] 42 (0,0))/\Row eT 32 w' Dc n o (V.cellsOf l)/\∀P,Dc P->P<w'.heap.size,?_,?_⟩
  ·refine an.not (an.mk (λy2=>⟨k6,n,o,z,_,i4,by rw[h4 y2];exact d3.ah k6,λP b=>by have:=g P b.1;have:=k6.size;have:=e9.size;omega⟩) (λy3=>⟨_,_,_,ae (k6.get c2 id) rfl,PC.ok (EP (t:=V.decl.at l.aW) rfl (y.len) (by rw[y.len];omega)) ?_⟩))
   rintro _ A2 ⟨k4,n6,l1,G6,rfl,r6,k7,y4⟩;have z6:=k6.size;refine⟨_,_,_,rfl,PS.mk (k7.get i4 id) sM λA3 i5 A4 r7=>⟨(k6.then k7).new i5 λP b=>.inr oM,k4,n6,l1,G6,r7,?_,λP b=>by have:=r6.aF P b;omega⟩⟩;rw[h5 y3];exact(r6.af i5 λP b l=>by have:=y4 P b;omega).row dC (by unfold aT c_;simp;omega)
  rintro _ A5 ⟨a3,n,o,z,Dc,f1,d3,y5⟩;have A6:=a3.size;have f2:=k5.then a3;have f3:=a3.get c2 id;have n0:=a3.get b2 id;have c6:=a3.get m9 id;refine⟨_,_,_,ae f3 rfl,_,_,_,ae f1 rfl,_,ae c6 rfl,_,ae c6 rfl,_,ae c6 rfl,PC.ok (EO c3 (y.ah f2) d3) ?_⟩;rintro _ r8 ⟨rfl,a0⟩;have k8:=f2.then a0;refine⟨_,rfl,an.dX (λd5=>λr9 i6=>?_) (λy6=>λc8 s0=>?_)⟩
  ·have i7:=(i6.af (S:=λ_=>False)).get (k8.get c0 id) id
   refine⟨_,_,ae i7 rfl,ae i7 rfl,m (i:=(0,0)) k8 (c5 ?_) r9 i6 _ _ rfl rfl⟩;simp only;rw[Zx d5]
  have f4:uP (V.decl.at l.aW) (V.cellsOf l) l.field l.op l.arg=0:=y6;have a1:ai r8 c8:=s0.af;have k9:=k8.then a1;have n1:=(a3.then a0).then a1;have d2:=k1.then k9;have n3:=e.ah d2;have b3:=k9.get c1 id;have e2:=(a0.then a1).get n0 id;have n4:=(a0.then a1).get f3 id;have f5:=(a0.then a1).get f1 id;have E5:=g _ e.l1.1;have E6:=g _ e.l2.1;have A7:=n1.size;have y7:=d2.size;have e8:¬p=q.r1:=λl=>by have f:=e.lp.2;rw[l,e.l1.2]at f;cases f
  have i8:¬p=q.r2:=λl=>by have f:=e.lp.2;rw[l,e.l2.2]at f;cases f
  have i9:¬q.r1=q.r2:=λl=>by have f:=e.l1.2;rw[l,e.l2.2]at f;cases f
  refine⟨λP=>P=q.r1,p,0,rfl,e8,_,ae n3.at' rfl,oM,_,_,ae e2 rfl,ae e2 rfl,oM,_,ae f5 rfl,_,_,_,ae n4 rfl,_,_,_,ae f5 rfl,_,ae b3 rfl,_,ae b3 rfl,_,ae b3 rfl,PC.ok (OH c3 f4 he.arg oM (y.ah k9) (λP b=>by have:=g P b.1;omega) (d3.ah (a0.then a1)) λP b=>by have:=y5 P b;have:=(a0.then a1).size;omega) ?_⟩;rintro _ a6 ⟨s1,s2,s5,G,rfl,j0,a4,hG⟩;have e3:=d2.then a4;have t:=e.ah e3;have A8:=a4.size;refine⟨_,_,_,rfl,ai.af a4,iZ (enc:=nK) (k:=(l.aW,l.agg)) Uj RT t.st λj1 s6 j2 A9=>⟨j2,λc9 j3=>?_⟩⟩;have j4:ai j1 c9:=j3.af;have B0:c9.heap.size=j1.heap.size:=by rw[j3.heap]
  have A:ak (·=q.r1) a6 c9:=j2.ah j4;have key:∀P,F P/\q.cls P= .done (l.aW,l.agg,l.field)->P≠p/\P≠q.r1/\P≠q.r2:=λP b=>
   ⟨λl=>(by have f:=e.lp.2;rw[<-l,b.2]at f;cases f),λl=>(by have f:=e.l1.2;rw[<-l,b.2]at f;cases f),λl=>(by have f:=e.l2.2;rw[<-l,b.2]at f;cases f)⟩
  have n8:=A.get t.at' e8;have n9:=A.get (a4.get e2 id) oM;have u:=A.get (a4.get b3 id) oM;have o0:=t.dn.af A (λl=>i9 l.symm);have o1:=A.get (a4.get (k9.get c0 id) id) oM;obtain⟨a2,a7,e4,l2,s7,j5,j6⟩:=Co t (l.aW,l.agg,l.field);rw[m3]at j5;subst j5;have o2:=j6.af A λP b l=>(key P b).2.1 l;have B1:=A.size;refine⟨λP=>P=q.r2\/(F P/\q.cls P= .done (l.aW,l.agg,l.field)),p,0,rfl,λB=>B.elim i8 λB=>(key p B).1 rfl,_,ae n8 rfl,λB=>B.elim (λl=>oM) λB=>by have:=g _ B.1;omega,
   au (cs:=[XH l.aW,XH l.agg,XH l.field]) (P_ (l.aW,l.agg,l.field)) n9 ⟨_,_,_,_,_,_,_,_,_,_,_,_,ae u rfl,ae u rfl,ae u rfl,ae u rfl,ae u rfl,ae u rfl,ae u rfl,ae u rfl,ae u rfl,ae u rfl,
   PA.mk λB2 a8 B3 s8=>⟨ai.af a8,DK (enc:=Ap) (k:=(l.aW,l.agg,l.field)) Uv Ui (o0.ah a8) λB4 x s9 o4 a9 B5=>⟨a2,a7,e4,x,by rw[s7],a9.mono λP _ l=>.inl l,?_⟩⟩⟩⟩
  have o5:=(o2.ah a8).af a9 λP b l=>(key P b).2.2 l;have t2:=a9.get s8 oM;have b4:∀P,aI a2=some P->F P/\q.cls P= .done (l.aW,l.agg,l.field):=λP b=>j6.self P b;have y8:=(((hr.ah e3).af A λP b l=>(C P b).2 (l▸e.l1.1)).ah a8).af a9 λP b l=>(C P b).2 (l▸e.l2.1);refine d_ (c:=iX) o5 Hj t2 (D:=D) (x:=l) ⟨d,a,c,rfl,y8,he⟩ (λP b=>⟨by have:=(C P b).1;omega,λee=>(C P b).2 (b4 P ee).1⟩) ba (by unfold maxLen;omega) λa' L t3 F2 f6 b0 o6=>⟨_,_,_,rfl,b0.mono λP _ b=>.inr (b4 P b),?_⟩
  have t4:¬aI a2=some q.r2:=λee=>(key _ (b4 _ ee)).2.2 rfl;refine zF Ui (s9.af b0 t4) (o4.af b0 t4) λj7 t5 g0 B6=>⟨g0.mono λP _ l=>.inl l,λd0 j8=>?_⟩
  have g1:ai j7 d0:=j8.af;have B7:d0.heap.size=j7.heap.size:=by rw[j8.heap]
  have B8:=b0.size;have kb:ak (λP=>P=q.r2\/(F P/\q.cls P= .done (l.aW,l.agg,l.field))) c9 d0:=((((ai.af a8).then (a9.mono λP _ l=>.inl l)).then (b0.mono λP _ b=>.inr (b4 P b))).then (g0.mono λP _ l=>.inl l)).then (ai.af g1);have e5:=kb.get o1 (λB=>B.elim (λl=>oM) λB=>by have:=g _ B.1;omega);refine⟨_,_,ae e5 rfl,ae e5 rfl,PS.mk e5 sM λB9 j9 C0 t6=>PS.mk t6 sM λd1 l0 C1 l3=>⟨_,_,ae l3 rfl,ae l3 rfl,?_⟩⟩;have M:ak (λP=>P=q.r1\/P=q.r2\/(F P/\q.cls P= .done (l.aW,l.agg,l.field))\/P=E.heap.size) a6 d1:=
   ((A.mono λP _ l=>.inl l).then (kb.mono λP _ b=>b.elim (λl=>.inr (.inl l)) λb=>.inr (.inr (.inl b)))).then ((j9.mono λP _ l=>.inr (.inr (.inr l))).then (l0.mono λP _ l=>.inr (.inr (.inr l))))
  have kc:ak (·=E.heap.size) d0 d1:=j9.then l0;have zT:=M.size;have I:=c5 (r:=(false,(0,0),{V with ef:=aJ V.ef (l.aW,l.agg) ⟨lN (((ax V.ef (l.aW,l.agg)).getD ⟨0,[]⟩).version+1),OF (V.decl.at l.aW) (V.cellsOf l) l.field l.op l.arg⟩,done:=aJ V.done (l.aW,l.agg,l.field) (j++[l])})) (by simp only;rw[Zq (by simpa using f4)]);have t7:=(aY.On hV l).1;refine Ok.mk ⟨by rw[I],λP=>P<d1.heap.size/\(F P\/D P\/w.heap.size<=P),?_,?_,λP b=>b.2⟩
  rotate_left
  ·exact(ai.af e3).trans M (λ_ _ e=>e) λP b hT=>by
    rcases hT with rfl|rfl|hT|rfl
    ·exact e.l1.1
    ·exact e.l2.1
    ·exact hT.1
    ·omega
  rw[I]at t7⊢;have t8:∀P,G P->c8.heap.size<=P/\P<a6.heap.size:=λP b=>⟨hG P b,j0.aF P b⟩
  have N:∀P,F P->P<d1.heap.size:=λP b=>by have:=g P b;omega
  classical
  have O:∀P,F P->(if F P then q.cls P else if c8.heap.size<=P/\P<a6.heap.size then Hb.SZ else Hb.done (l.aW,l.agg,l.field))=q.cls P:=λP b=>Zx b;refine⟨t7,⟨q.ta,q.tn,q.tc,q.pa,q.pn,q.pc,q.ea,q.en,q.ec,q.r1,q.r2,aJ q.l1 (l.aW,l.agg) (.agg #[XH (lN (s.version+1)),.slice s1 s2 s5]),aJ q.l2 (l.aW,l.agg,l.field) (.slice a' (a7+1) L),λP=>if F P then q.cls P else if c8.heap.size<=P/\P<a6.heap.size then Hb.SZ else Hb.done (l.aW,l.agg,l.field)⟩,?_,?_,?_,?_,?_,?_,?_,λP b=>b.1,⟨⟨N _ e.lp.1,.inl e.lp.1⟩,(O _ e.lp.1).trans e.lp.2⟩,⟨⟨N _ e.l1.1,.inl e.l1.1⟩,(O _ e.l1.1).trans e.l1.2⟩,⟨⟨N _ e.l2.1,.inl e.l2.1⟩,(O _ e.l2.1).trans e.l2.2⟩⟩
  ·exact M.get t.at' λB=>by
    rcases B with B|B|B|B
    ·exact e8 B
    ·exact i8 B
    ·exact(key _ B).1 rfl
    ·omega
  ·refine(t.Oj.af M λP b B=>?_).mono λP b=>⟨⟨N P b.1,.inl b.1⟩,(O P b.1).trans b.2⟩
   have d4:=g P b.1;rcases B with rfl|rfl|B|B
   ·have:=e.l1.2;rw[b.2]at this;cases this
   ·have:=e.l2.2;rw[b.2]at this;cases this
   ·have:=B.2;rw[b.2]at this;cases this
   ·omega
  ·refine(t.LV.af M λP b B=>?_).mono (λP b=>⟨⟨N P b.1,.inl b.1⟩,(O P b.1).trans b.2⟩) λP b=>b.1.1
   have d4:=g P b.1;rcases B with rfl|rfl|B|B
   ·have:=e.l1.2;rw[b.2]at this;cases this
   ·have:=e.l2.2;rw[b.2]at this;cases this
   ·have:=B.2;rw[b.2]at this;cases this
   ·omega
  ·exact((s6.ah j4).af kb λB=>B.elim i9 λB=>(key _ B).2.1 rfl).af kc oM
  ·refine eZ.aJ ?_ ?_
   ·refine⟨s1,s2,s5,by rw[h3],?_⟩
    refine((j0.row (bytes:=32) dC ?_).af M λP b B=>?_).mono λP b=>?_
    ·rw[Kr,hV.len];unfold aT;omega
    ·have d4:=t8 P b
     rcases B with rfl|rfl|B|B
     ·omega
     ·omega
     ·have:=g P B.1;omega
     ·omega
    ·have d4:=t8 P b
     refine⟨⟨oM,.inr (.inr oM)⟩,?_⟩;show(if F P then _ else _)=_;rw[Zq (λhf=>by have:=g P hf;omega),Zx d4]
   ·refine t.S_.mono λf0 n5 hu=>?_
    obtain⟨e6,n2,e7,rfl,hu⟩:=hu;refine⟨e6,n2,e7,rfl,(hu.af M λP b B=>?_).mono λP b=>⟨⟨N P b.1,.inl b.1⟩,(O P b.1).trans b.2⟩⟩;have d4:=g P b.1;rcases B with rfl|rfl|B|B
    ·have:=e.l1.2;rw[b.2]at this;cases this
    ·have:=e.l2.2;rw[b.2]at this;cases this
    ·have:=B.2;rw[b.2]at this;cases this
    ·omega
  ·have:=(t5.ah g1).af kc (by show¬q.r2=E.heap.size;omega)
   rw[Hc]at this;exact this
  ·refine np.aJ ?_ t.Tl ?_ t.dn.tidy
   ·refine⟨a',_,L,rfl,?_⟩
    have t9:∀P,F2 P->P<t3.heap.size/\P≠E.heap.size:=λP b=>by
     refine⟨f6.aF P b,λl=>?_⟩;rcases o6 P b with f|f|f
     ·have:=g P f.1;omega
     ·have:=(C P f).1;omega
     ·omega
    refine((f6.af g0 λP b l=>?_).ah g1|>.af kc λP b l=>(t9 P b).2 l).mono (λP b=>?_) λP b=>b.1.1
    ·rcases o6 P b with f|f|f
     ·exact(key P f).2.2 l
     ·exact(C P f).2 (l▸e.l2.1)
     ·omega
    ·have:=(t9 P b).1
     have hz:=kc.size;rcases o6 P b with f|f|f
     ·exact⟨⟨N P f.1,.inl f.1⟩,(O P f.1).trans f.2⟩
     ·refine⟨⟨oM,.inr (.inl f)⟩,?_⟩
      show(if F P then _ else _)=_;rw[Zq (C P f).2,Zq (by have:=(C P f).1;omega)]
     ·refine⟨⟨oM,.inr (.inr oM)⟩,?_⟩
      show(if F P then _ else _)=_;rw[Zq (λhf=>by have:=g P hf;omega),Zq oM]
   ·intro n7 f0 n5 d5 hu
    obtain⟨e6,n2,e7,rfl,hu⟩:=hu;refine⟨e6,n2,e7,rfl,(hu.af M λP b B=>?_).mono (λP b=>⟨⟨N P b.1,.inl b.1⟩,(O P b.1).trans b.2⟩) λP b=>b.1.1⟩;have d4:=g P b.1;rcases B with rfl|rfl|B|B
    ·have:=e.l1.2;rw[b.2]at this;cases this
    ·have:=e.l2.2;rw[b.2]at this;cases this
    ·have:=B.2;rw[b.2]at this
     simp only[Hb.done.injEq]at this;exact d5 this
    ·omega
end
section
variable {w w':World} {p:Nat} {F T D:XN} {V:aY} {q:Cn}
abbrev Cr(P:cM)(a:ZH)(b c:Nat):Value:=.agg (gB P a b c).toArray
def Es(L:cw w p F V)(hT:eu w)(hr:Row aQ 8 w D d a l.aN)(o:∀P,D P->P<w.heap.size/\¬F P)(he:l.Ok)(b:((ax V.done (l.aW,l.agg,l.field)).getD []).length<=20000000)(M:V.entries.length<=20000000):
  ZG 56 #[XL p,jk l d a c] w (Ok λW w'=>∃d a c G,W=Cr (V.add l).1 d a c/\Row aQ 8 w' G d a l.aN/\∃X,cw w' p X (V.add l).2/\dy F w X w'/\∀P,G P->w.heap.size<=P/\P<w'.heap.size/\¬X P):=by
 have Y:=L.aF;have h6:=Y _ L.self;refine wS (PA.mk λt e5 h7 d0=>PA.mk λh8 Z h9 e6=>?_);have k0:=e5.then Z;refine au (aX l d a c) (Z.get d0 id) (PC.ok (mY (hr.ah k0) λP b=>by have:=(o P b).1;omega) ?_);rintro _ i0 ⟨a6,n1,c1,G1,rfl,e7,u,N⟩;have a0:=k0.then N;refine bS (qy l a6 n1 c1) ⟨rfl,PC.ok (Om (L.ah a0) (hT.ah a0) e7 (λP b=>⟨(u P b).2,λj=>by have:=Y P j;have:=u P b;omega⟩) he b) ?_⟩;rintro _ v ⟨rfl,f,b8,O,Q⟩;have i1:=N.size;have i2:=O.size;have b0:∀P,f P->F P\/w.heap.size<=P:=λP b=>by
  rcases Q P b with e|e|e
  ·exact .inl e
  ·have:=u P e;exact .inr oM
  ·exact .inr oM
 have b1:ak F w v:=(ai.af a0).then O;have R:∀{P:Nat},w.heap.size<=P->¬F P:=λ{P} b j=>by have:=Y P j;omega
 have d1:=O.get (N.get (Z.get d0 id) id) (R (Q4 _));have d2:=O.get (N.get e6 id) (R oM);refine⟨_,_,_,rfl,PA.mk λi3 e8 i4 e9=>PS.mk e9 sM λi5 f2 i6 g0=>PS.mk g0 sM λi7 g1 i8 g2=>λx b9=>?_⟩;have A:ai v x:=((e8.new f2 λP b=>.inr oM).new g1 λP b=>.inr oM).then b9.af;have i9:x.heap.size=v.heap.size+1:=by rw[b9.heap];omega
 have a1:x.heap[v.heap.size]? =some (.cells #[XH (V.try l).2.1.1,XH (V.try l).2.1.2] 39 (0,0)):=(b9.af (S:=λ_=>False)).get g2 id;have b2:=A.get d1 id;obtain⟨h5,q,g⟩:=b8.ah A;have c0:=b8.self;have y:=b8.aF;have b3:=((hr.af b1 λP b=>(o P b).2).ah A)
 have a4:(V.try l).2.2.entries=V.entries:=by
  rw[aY.qt];split;rfl;split;rfl;split<;>rfl
 have j0:=g.LV.len dC;have B:∀P,aI q.ea=some P->f P/\q.cls P= .LV:=λP b=>g.LV.self P b;have C:¬aI q.ea=some p:=λk=>by have e:=(B p k).2;rw[g.lp.2]at e;cases e
 refine⟨λP=>aI q.ea=some P,p,0,rfl,C,_,_,_,ae g.at' rfl,au (aX l d a c) b2 ⟨λk=>by have:=y _ (B _ k).1;omega,_,_,ae a1 rfl,ae a1 rfl,PC.ok (mY b3 λP b=>by have:=(o P b).1;omega) ?_⟩⟩;rintro _ j1 ⟨a7,n2,c2,G2,rfl,g3,z,c4⟩;have j2:=c4.size;refine⟨_,_,_,_,_,_,_,_,_,_,_,_,rfl,ai.af c4,PA.mk λd3 c5 j3 g4=>⟨ai.af c5,?_⟩⟩;have a2:=c4.then c5;refine d_ (c:=wK) (x:=⟨l,(V.try l).1,(V.try l).2.1⟩) (g.LV.ah a2) Oe g4 (D:=G2) ⟨a7,n2,c2,rfl,g3.ah c5,he⟩ (λP b=>⟨by have:=z P b;omega,λk=>by have:=y _ (B _ k).1;have:=z P b;omega⟩) (by rw[a4];unfold aT;omega) (by rw[a4];unfold maxLen;omega) λa' E d4 F2 b4 c6 c7=>⟨_,_,_,rfl,p,0,rfl,?_⟩
 have j4:=c6.size;have d5:=c6.get ((g.ah a2).at') C;refine PS.mk d5 sM λH g5 j5 g6=>λr d6=>?_;have d7:ai H r:=d6.af;have j6:r.heap.size=H.heap.size:=by rw[d6.heap]
 have a5:ak (·=p) d4 r:=g5.ah d7;have k5:ak (λP=>aI q.ea=some P\/P=p) x r:=((ai.af a2).then (c6.mono λP _ b=>.inl b)).then (a5.mono λP _ b=>.inr b);have I:ak f x r:=k5.mono λP _ b=>b.elim (λe=>(B P e).1) λe=>e▸c0;have c8:∀{P:Nat},v.heap.size<=P->¬f P:=λ{P} b j=>by have:=y P j;omega
 have g7:¬f w.heap.size:=λj=>by
  rcases Q _ j with e|e|e
  ·exact R (Q4 _) e
  ·have:=u _ e;omega
  ·omega
 have c9:¬f t.heap.size:=λj=>by
  rcases Q _ j with e|e|e
  ·exact R oM e
  ·have:=u _ e;omega
  ·omega
 have d8:=I.get b2 g7;have d9:=I.get (A.get d2 id) c9;have b5:=I.get a1 (c8 (Q4 _));have e0:∀P,D P->¬f P:=λP b j=>by
  rcases Q _ j with e|e|e
  ·exact(o P b).2 e
  ·have:=u _ e;have:=(o P b).1;omega
  ·have:=(o P b).1;omega
 have e1:=b3.af I e0;have j7:=k5.size;refine⟨λP=>P=t.heap.size,au (aX l d a c) d8 ⟨oM,_,_,ae b5 rfl,ae b5 rfl,PC.ok (mY e1 λP b=>by have:=(o P b).1;omega) ?_⟩⟩;rintro _ j8 ⟨a3,n3,c3,G3,rfl,g8,e2,J⟩;have j9:=J.size;refine⟨_,_,_,_,_,_,_,_,_,_,_,_,rfl,ai.af J,aB (kv ⟨l,(V.try l).1,(V.try l).2.1⟩ a3 n3 c3) (J.get d9 id) rfl λe3 S k2 g9=>⟨S,au (kv ⟨l,(V.try l).1,(V.try l).2.1⟩ a3 n3 c3) g9 (Ok.mk ⟨a3,n3,c3,G3,rfl,g8.af S λP b k=>by have:=e2 P b;omega,λP=>P<H.heap.size/\(f P\/G2 P\/d3.heap.size<=P),?_,⟨?_,?_⟩,?_⟩)⟩⟩
 ·have h3:=(aY.xP (by
   have:V.OK:=L.1;exact this) l).1
  have T:ak (λP=>P=t.heap.size) r e3:=(ai.af J).then S;have zc:=T.size;have h4:∀P,f P->P<H.heap.size:=λP b=>by have:=y P b;omega
  classical
  have e4:∀P,f P->(if f P then q.cls P else Hb.LV)=q.cls P:=λP b=>Zx b;have K:ak (λP=>(aI q.ea=some P\/P=p)\/P=t.heap.size) x e3:=(k5.mono λP _ b=>.inl b).then (T.mono λP _ b=>.inr b);have h:∀(n:Hb) P,n≠.LV->n≠.self->f P/\q.cls P=n->¬((aI q.ea=some P\/P=p)\/P=t.heap.size):=λn P e U b m=>by
   rcases m with(m|m)|m
   ·exact e (b.2.symm.trans (B P m).2)
   ·subst m;exact U (b.2.symm.trans g.lp.2)
   ·subst m;exact c9 b.1
  have i:∀(n:Hb) P,f P/\q.cls P=n->((P<H.heap.size/\(f P\/G2 P\/d3.heap.size<=P))/\(if f P then q.cls P else Hb.LV)=n):=λn P b=>⟨⟨h4 P b.1,.inl b.1⟩,(e4 P b.1).trans b.2⟩
  refine⟨h3,⟨q.ta,q.tn,q.tc,q.pa,q.pn,q.pc,a',q.en+1,E,q.r1,q.r2,q.l1,q.l2,λP=>if f P then q.cls P else Hb.LV⟩,?_,?_,?_,?_,?_,?_,?_,λP b=>by have:=b.1;omega,i _ _ g.lp,i _ _ g.l1,i _ _ g.l2⟩
  ·exact T.get (d7.get g6 id) oM
  ·exact(g.Oj.af K λP b=>h _ P sM sM b).mono (i _)
  ·have M:∀P,F2 P->P<d4.heap.size/\P≠t.heap.size/\P≠p:=λP b=>by
    refine⟨b4.aF P b,λk=>?_,λk=>?_⟩
    ·rcases c7 P b with e|e|e
     ·exact c9 (k▸e.1)
     ·have:=z P e;omega
     ·omega
    ·rcases c7 P b with e|e|e
     ·have U:=e.2;rw[k,g.lp.2]at U;cases U
     ·have:=z P e;have:=y p c0;omega
     ·have:=y p c0;omega
   have:(V.add l).2.entries=(V.try l).2.2.entries++[⟨l,(V.try l).1,(V.try l).2.1⟩]:=rfl;rw[this];refine((b4.af a5 λP b=>(M P b).2.2).af T λP b=>(M P b).2.1).mono (λP b=>?_) λP b=>by have:=b.1.1;omega
   have h0:=(M P b).1;rcases c7 P b with e|e|e
   ·exact i _ P e
   ·have:=z P e
    refine⟨⟨oM,.inr (.inl e)⟩,?_⟩;show(if f P then _ else _)=_;rw[Zq (c8 oM)]
   ·refine⟨⟨oM,.inr (.inr e)⟩,?_⟩
    show(if f P then _ else _)=_;rw[Zq (c8 oM)]
  ·exact g.st.af K (h _ _ sM sM g.l1)
  ·refine g.S_.mono λW a8 s=>?_
   obtain⟨x1,x2,x3,rfl,s⟩:=s;exact⟨x1,x2,x3,rfl,(s.af K λP b=>h _ P sM sM b).mono (i _)⟩
  ·exact g.dn.af K (h _ _ sM sM g.l2)
  ·refine g.Tl.mono λa9 W a8 s=>?_
   obtain⟨x1,x2,x3,rfl,s⟩:=s;exact⟨x1,x2,x3,rfl,(s.af K λP b=>h _ P sM sM b).mono (i _) λP b=>by have:=b.1.1;omega⟩
 ·have k1:ak f v r:=(ai.af A).then I
  exact((b1.new k1 b0).ah J).new S λP b=>.inr oM
 ·intro P b
  rcases b.2 with e|e|e
  ·exact b0 P e
  ·have:=z P e;exact .inr oM
  ·exact .inr oM
 ·intro P b
  have:=e2 P b;refine⟨oM,oM,λm=>by have:=m.1;omega⟩
def Cs(d:aM):∀(b:List aj) (P:aY) (a:Int×Int×Int),(((ax (b.foldl (λP e=>(P.add e).2) P).done a).getD []).length<=((ax P.done a).getD []).length+b.length)/\(b.foldl (λP e=>(P.add e).2) P).entries.length=P.entries.length+b.length
 |[],P,a=>by simp
 |e::b,P,a=>by
  rw[List.foldl_cons];obtain⟨f,g⟩:=Cs d b (P.add e).2 a;have j:((ax (P.add e).2.done a).getD []).length<=((ax P.done a).getD []).length+1:=by
   show((ax (P.try e).2.2.done a).getD []).length<=_;rw[aY.qt];split
   ·simp
   split
   ·simp
   split
   ·simp
   ·simp only
    rw[bN];split
    ·rename_i h
     have c:a=(e.aW,e.agg,e.field):=by simpa using h
     rw[c];simp
    ·simp
  have i:(P.add e).2.entries.length=P.entries.length+1:=by
   show((P.try e).2.2.entries++[_]).length=_;have:(P.try e).2.2.entries=P.entries:=by rw[aY.qt];split;rfl;split;rfl;split<;>rfl
   rw[this];simp
  refine⟨?_,by rw[g,i];simp;omega⟩;simp only[Xq]at f⊢;omega
def Er{tn M q N j O:Nat}(Q:cJ C=0)(R:eu w)(S:aZ w D C d tn r q)(T:∀P,D P->P<w.heap.size)(s:Row iX 96 w f c0 j E)(t:∀P,f P->P<w.heap.size)(b:E.length<=20000000):
  ZG 31 #[.agg #[.slice d tn M,.slice r q N],.slice c0 j O] w (Ok λU w'=>∃p F,U= XL p/\cw w' p F (b_ C E)/\(∀P,F P->w.heap.size<=P)/\ai w w'):=by
 refine HE (PA.mk λw1 u s1 v=>⟨_,_,_,_,_,_,ae v rfl,ae v rfl,PC.ok (Ez Q (S.ah u) λP b=>by have:=T P b;omega) ?_⟩);rintro _ w9 ⟨p,V,rfl,e,W,x⟩;have a9:=s.len;have X:=u.then x;have z9:=x.size;refine⟨_,rfl,λy o w'=>∃a:Nat,o=a/\a<=j/\y=j-a/\∃F,cw w' p F (b_ C (E.take a))/\(∀P,F P->w.heap.size<=P)/\ai w w',⟨_,0,rfl,Qj _,rfl,V,e,λP b=>by have:=W P b;omega,X⟩,?_⟩;rintro y _ _ Y ⟨a,rfl,hj,rfl,F,e,k,g⟩;refine an.dec (λb0=>?_) (λb1=>?_)
 ·have z:a<E.length:=oM
  obtain⟨P,Z,es,ha,a0,b2,A,l,m,n,rfl,B,H⟩:=(s.ah g).el a E[a] (Qq z);have I:E[a]? =some E[a]:=Qq z;generalize E[a]=c at A B H I;refine⟨P,Z,ha,oM,oM,bq (es:=aD c l m n) (k:=10) (aX c l m n) rfl (λo ht=>A o ht) (PA.mk λb3 a3 b4 a5=>aB (aX c l m n) a5 rfl λa6 a7 b5 a8=>au (aX c l m n) a8 ?_)⟩;have h:ai Y a6:=a3.new a7 λP b=>.inr oM;have J:=Cs C (E.take a) (aY.new C) (c.aW,c.agg,c.field);have b6:=List.length_take_le a E;have b7:((ax (b_ C (E.take a)).done (c.aW,c.agg,c.field)).getD []).length<=0+(E.take a).length:=J.1;have b8:(b_ C (E.take a)).entries.length=0+(E.take a).length:=J.2;have b9:=g.size;have a1:=h.size;refine PC.ok (Es (e.ah h) (R.ah (g.then h)) (B.ah h) (λP b=>⟨by have:=t P b;omega,λhf=>by have:=k P hf;have:=t P b;omega⟩) H oM oM) ?_;rintro _ c1 ⟨a4,n4,c4,G,rfl,-,F',i,K,-⟩;refine bS (Mf _ a4 n4 c4) ⟨rfl,_,?_,a+1,aq oM,oM,rfl,F',?_,λP b=>?_,(g.then h).new K.1 λP b=>.inr (k P b)⟩
  ·omega
  ·rw[Qw,I]
   unfold b_ at i⊢;rw[List.foldl_append];exact i
  ·rcases K.2 P b with L|L
   ·exact k P L
   ·omega
 ·rw[Qz oM]at e
  exact Ok.mk ⟨p,F,rfl,e,k,g⟩
end
end Go.Proofs.YtkpomgifkloklacGreatDoor
namespace Go.aw
open Go
variable{a1:List Value}{K a c c6 e4 i p:Nat}{f:XN}{d r:ZH}{h:Program}{H j:Type}{g o:TypeId}{b:World}{x:XU}
def LR{cs:List j}{p m:Nat}{v:j}{vs:List j}(P:p<cs.length):(cs.set p v).take (p+1)++vs++(cs.set p v).drop (p+1+m)=cs.take p++(v::vs)++cs.drop (p+(m+1)):=by
 have a:(cs.set p v).take (p+1)=cs.take p++[v]:=by
  rw[Qw,Xj,Zx rfl,Zx P,List.take_set_of_le (Q4 _)];rfl
 have b:(cs.set p v).drop (p+1+m)=cs.drop (p+(m+1)):=by
  rw[List.drop_set_of_lt oM,show p+1+m=p+(m+1) by omega]
 rw[a,b];simp
def Am{l:TypeId}{m:Nat}{g:ZH}{n d a h e:Nat}{o:XU}(p:g=some ⟨h,e,none⟩):∀(b:List Value) (P:Nat) {c:World} {cs:List Value},Own c l m g n d cs->a+P+b.length<=cs.length->
  (∀f,Own f l m g n d (cs.take (a+P)++b++cs.drop (a+P+b.length))->ak (λh=>aI g=some h) c f->f.heap.size=c.heap.size->o f)->iA ⟨h,e+a,none⟩ P b c o
 |[],P,c,cs,i,q,j=>j c (by simpa using i) (ak.refl _) rfl
 |v::b,P,c,cs,i,q,j=>by
  unfold iA;rw[Xq]at q;rw[Addr.add_lit,Nat.add_assoc];refine i.set (m:=a+P) oM p λf r s t=>Am p b (P+1) r bc λu k w x=>j u ?_ (s.then w) (x.trans t);have:=LR (cs:=cs) (p:=a+P) (m:=b.length) (v:=v) (vs:=b) oM;rw[show a+(P+1)=a+P+1 from rfl]at k;rw[this]at k;exact k
def Own.store{k c m f e:Nat}{P cs:List Value}(n:Own b o a d k c cs)(p:d=some ⟨f,e,none⟩)(l:iJ h g P=true)(q:m+P.length<=cs.length)(j:∀i,Own i o a d k c (cs.take m++P++cs.drop (m+P.length))->ak (λf=>aI d=some f) b i->i.heap.size=b.heap.size->x i):vQ h g (.pointer (some ⟨f,e+m,none⟩)) (.agg P.toArray) b x:=by
 simp only[iJ,QK]at l;obtain⟨⟨⟨r,w⟩,s⟩,t⟩:=l;unfold vQ;have u:Nat.beq P.toArray.size (kN h g)=true:=by simpa using s
 have v:P.toArray.toList.all Value.oneCell'=true:=by simpa using t
 simp only[r,u,v];exact Am p P 0 n (by simpa using q) j
def ez.store{P:ez j H}{n:List (Bx j)}(w:aU P.ju o f b d a c n){e:Bx j}(y:n[i]? =some e)(L:d=some ⟨c6,e4,none⟩){s:Nat}(B:a1=(P.hd e.x r p K).take s)(a0:P.o<s)(a2:s<=P.k)(M:iJ h g a1=true)(z:∀t,aU P.ju o f t d a c (n.set i ⟨e.x,r,p,K⟩)->ak (λk=>aI d=some k) b t->t.heap.size=b.heap.size->x t):vQ h g (.pointer (some ⟨c6,e4+i*P.k,none⟩)) (.agg a1.toArray) b x:=by
 obtain⟨cs,D,N,C,O⟩:=w.body;have E:=bK.mq.1 C;have Q:i<n.length:=(Qv.1 y).1;have F:cs.length=n.length*P.k:=by rw[E];exact j_ (λk:Bx j=>P.hl k.x k.a k.n k.c) n
 have u:a1.length=s:=by rw[B,Qy,P.hl];omega
 have R:(i+1)*P.k<=n.length*P.k:=Q0 _ Q;rw[X7,Nat.one_mul]at R;refine N.store (m:=i*P.k) L M (by rw[F,u];omega) λt S T I=>z t ⟨⟨_,D,S,bK.mq.2 ?_,O⟩,w.self,λk U=>by rw[I];exact w.aF k U⟩ T I;have V:=pM (enc:=λk:Bx j=>P.hd k.x k.a k.n k.c) (k:=P.k) (λk=>P.hl k.x k.a k.n k.c) (x':=⟨e.x,r,p,K⟩) (v:=.slice r p K) P.ho n i e y (P.fm ..).symm;rw[<-V,<-E,u];have W:∀l,l<P.k->cs[i*P.k+l]? =(P.hd e.x e.a e.n e.c)[l]? :=λl X=>by
  obtain⟨Y,A,J⟩:=C.at y;have Z:Y=P.hd e.x e.a e.n e.c:=J.1;rw[<-Z];exact A l X
 apply X3;intro l;have q:∀m,m<s->a1[m]? =(P.hd e.x r p K)[m]? :=λm hu=>by rw[B,Xw,Zx hu]
 by_cases A:l<i*P.k
 ·rw[XQ,XW (by rw[Qy];omega),Xw,Zx A,Xj,Zq oM]
 ·by_cases J:l<i*P.k+s
  ·rw[XQ,X8 (by rw[Qy];omega),XW (by rw[Qy,u];omega),Qy,q _ oM]
   obtain⟨m,rfl⟩:∃m,l=i*P.k+m:=⟨l-i*P.k,oM⟩
   rw[X2 oM,Nat.add_sub_cancel_left,Xj];have v:=P.fm e.x e.a e.n e.c r p K;split
   ·rename_i o
    have:m=P.o:=oM
    subst this;rw[Zx (by rw[F];have:=P.ho;omega),<-v,Xj,Zx rfl,Zx (by rw[P.hl];exact P.ho)]
   ·rename_i o
    rw[W m oM,<-v,Xj,Zq oM]
  ·rw[X8 (by rw[QX,Qy,u];omega),QX,Qy,u,List.getElem?_drop,Xj,Zq (by have:=P.ho;omega)]
   congr 1
   omega
end Go.aw
namespace Go.aw
open Go
variable{h:Program}{x:XU}
section
variable {α β:Type} {N:ez α β} {w9 w w':World} {a:ZH} {n c j:Nat} {L0:List (Bx α)} {e:TypeId}
def dO.step2{f:TypeId}(y:dO N e w9 a n c L0 j w){g:Nat}(o:a=Option.some ⟨g,0,none⟩){b:Bx α}(i:L0[j]? =Option.some b){a':ZH}{n' c':Nat}{G:XN}(z:Row N.ci N.ib w G a' n' (N.inner b.x))(A:N.ok b.x)(k:∀P,G P->w9.heap.size<=P/\P<w.heap.size)(U:g<w9.heap.size){hd:List Value}{r:Nat}(C:hd=(N.hd b.x a' n' c').take r)(E:N.o<r)(F:r<=N.k)(H:iJ h f hd=true)(l:∀w',dO N e w9 a n c L0 (j+1) w'->ak (λb=>aI a=Option.some b) w w'->w'.heap.size=w.heap.size->x w'):vQ h f (.pointer (Option.some ⟨g,0+j*N.k,none⟩)) (.agg hd.toArray) w x:=by
 obtain⟨I,J,K,L,M,p,O,q⟩:=y;have s:I[j]? =Option.some b:=by rw[p j (Q4 _)];exact i
 have Q:=(Qv.1 s).1;have t:∀P,G P->¬aI a=Option.some P:=λP B e=>by
  have:=(k P B).1;rw[o]at e;simp only[aI,Q1]at e;omega
 refine ez.store K s o C E F H λR S d m=>l R ⟨_,λP=>J P\/G P,S,?_,?_,?_,O.then d,?_⟩ d m
 ·rw[List.map_set,L]
  apply X3;intro f;rw[Xj];split
  ·rename_i e;subst e
   rw[Zx (by simpa using(Qv.1 i).1),Q9,i];rfl
  ·rfl
 ·intro u P V B
  rw[Xj]at B
  by_cases v:j=u
  ·subst v
   rw[Zx rfl,Zx Q]at B
   cases B
   exact⟨(z.af d λP B=>t P B).mono λP B=>.inr B,A⟩
  ·rw[Zq v]at B
   exact((M u P oM B).af d λP B=>(q P B).2.2).mono λP B=>.inl B
 ·intro T W
  rw[Xj,Zq oM,p T oM]
 ·rintro P (B|B)
  ·rw[m];exact q P B
  ·rw[m];exact⟨(k P B).1,(k P B).2,t P B⟩
end
end Go.aw
namespace Go.Proofs.YtkpomgifkloklacGreatDoor
section
open Go.aw
variable{a c:Nat}{d:ZH}
section
variable {w w':World} {p:Nat} {F D:XN} {V:aY}
def xu{P:List (Bx cM)}(e:Row Jo.ju 120 w D d a P)(f:∀b,D b->b<w.heap.size):ZG 347 #[.slice d a c] w (Ok (qw Jo.ju 141 w P)):=
 fU (yd Oe dC e f λh w' g=>Ok.mk g)
def Cv(d:cw w p F V)(b:V.entries.length<=20000000):ZG 345 #[XL p] w (Ok (qw wK 141 w V.entries)):=by
 obtain⟨X,Y,d⟩:=d;have k:=d.LV.row (bytes:=120) dC ba;have H:=k.dK;have Z:=k.len;obtain⟨f,v,I,J⟩:=ez.boxes k;have a8:f.length=V.entries.length:=by rw[<-v];simp
 refine qP ⟨p,0,rfl,_,_,_,ae d.at' rfl,PC.ok (xu I λP b=>d.aF P b.1) ?_⟩;rintro _ x ⟨i,g,y,F9,rfl,j,z,K⟩;have l:∀P,aI i=some P->w.heap.size<=P:=λP b=>K P (j.self P b);have L:∀P,aI i=some P->P<x.heap.size:=λP b=>j.aF P (j.self P b);refine⟨_,_,_,rfl,λA M w'=>∃c:Nat,M=c/\c<=g/\A=g-c/\dO Jo 141 x i g y f c w',⟨_,0,rfl,Qj _,rfl,dO.start j.alone⟩,?_⟩;rintro A _ _ N ⟨c,rfl,hj,rfl,e⟩;have b0:=e.len;have m:ai w N:=z.new e.af λP b=>.inr (l P b);have zk:=e.af.size;refine an.dec (λb1=>?_) (λb2=>?_)
 ·obtain⟨h,rfl⟩:=e.some oM
  have b3:=l h rfl;have O:=L h rfl;have n:f[c]? =some f[c]:=Qq oM;have o:=J f[c] (XY oM);generalize f[c]=a at n o;refine⟨h,0,rfl,oM,oM,bq (es:=aD a.x.ev a.a a.n a.c) (k:=10) (aX _ _ _ _) rfl (λq Q=>?_) (PC.ok (mY (e:=a.x.ev) (o.1.ah m) λP b=>by have:=d.aF P b.1;have:=m.size;omega) ?_)⟩
  ·have R:=e.cell rfl n (by show g*13<=aT;unfold aT at H⊢;omega) q
   rw[Qx];have r:q<(aD a.x.ev a.a a.n a.c).length:=Q;rw[Qq r];refine R _ ?_;show(aD a.x.ev a.a a.n a.c++_)[q]? =_;rw[XW r,Qq r]
  rintro _ b4 ⟨s,t,u,G,rfl,S,B,T⟩;refine bS (qy a.x.ev s t u) ⟨rfl,h,0,rfl,oM,oM,?_⟩;rw[Qx];refine(e.ah T).step2 (g:=h) rfl n (a':=s) (n':=t) (c':=u) (G:=G) S o.2 (λC E=>⟨by have:=B C E;omega,(B C E).2⟩) O (hd:=aD a.x.ev s t u) (r:=10) rfl dC dC (aX _ _ _ _) λb5 U b6 b7=>⟨_,?_,c+1,aq oM,oM,rfl,U⟩
  omega
 ·obtain rfl:c=g:=oM
  obtain⟨Fd,hd,W⟩:=e.done;rw[v]at hd;have z9:=z.size;exact Ok.mk ⟨i,_,y,Fd,rfl,hd,m,λP b=>(W P b).elim (l P) λd=>oM⟩
end
end
section
open Go.aw
def a_(P:dz):List Value:=[XH P.group,XH P.value,XH P.count]
def dz.Ok(P:dz):Prop:=aP P.group/\aP P.value/\aP P.count
def EA:jB dz:=flat 3 a_ dz.Ok (λ_=>rfl) (λa b P=>by simp[a_]at P;rcases P with rfl|rfl|rfl<;>rfl)
def SH:iI XP 44 244 3 24:=⟨kR,kR,dC⟩
variable{y:FuncId}{e q:Int}{d7:dz}
section
variable {w w':World} {D:XN} {a:ZH} {n c:Nat} {l:List dz}
def zN(b:Row EA 24 w D a n l)(d:∀P,D P->P<w.heap.size):ZG 193 #[.slice a n c] w (Ok (qw EA 244 w l)):=
 iw (yd SH dC b d λf w' e=>Ok.mk e)
def II{most:Int}(b:Row EA 24 w D a n l)(g:∀d,D d->d<w.heap.size)(u:n<=c):
  ZG 135 #[.slice a n c,XH most] w (Ok λh w'=>∃e,h= .tuple #[e,.bool (decide ((max most 0).toNat<l.length))]/\qw EA 244 w (l.take (max most 0).toNat) e w'):=by
 have v:=b.len;have i:(if 0>most then 0 else most)=max most 0:=by split<;>omega
 refine AS ?_;rw[i];obtain⟨P,f⟩:∃P:Nat,(if(n:Int)<max most 0 then(n:Int)else max most 0)=P:=⟨(if(n:Int)<max most 0 then(n:Int)else max most 0).toNat,by split<;>omega⟩
 rw[f];have j:P=min n (max most 0).toNat:=by split at f<;>omega
 rw[Qx];refine⟨oM,oM,oM,PC.ok (zN (b.take (m:=P) oM) g) ?_⟩;rintro _ x ⟨k,m,o,p,rfl,q,r,s⟩;refine⟨_,_,_,rfl,Ok.mk ⟨_,?_,k,m,o,p,rfl,?_,r,s⟩⟩
 ·have:decide ((P:Int)<(n:Int))=decide ((max most 0).toNat<l.length):=by rw[decide_eq_decide];omega
  rw[this]
 ·have:l.take (max most 0).toNat=l.take P:=by
   rw[j]
   by_cases t:(max most 0).toNat<=n
   ·rw[Nat.min_eq_right t]
   ·rw[X2 oM,Qz oM,Qz oM]
  rw[this];exact q
def Gk{g h:Array Value}{b k:Nat}(u:b<=20000000)(m:k<=b)(n:enters XP y=true)(o:∀(c:Nat) e,c<b->ai w e->ZG y (g++ #[XH (c:Int)]++h) e (Ok λf w'=>f= .bool (decide (k<=c))/\ai e w')):
  ZG 133 #[XH (b:Int),.func (.func y) g h] w (Ok λf w'=>f= XH (k:Int)/\ai w w'):=by
 refine yA ⟨λi c p w'=>∃P a:Nat,c=P/\p=a/\i=a-P/\P<=a/\a<=b/\P<=k/\k<=a/\ai w w',⟨_,0,b,rfl,rfl,rfl,oM,oM,oM,m,ak.refl _⟩,?_⟩;rintro i _ _ _ q ⟨P,a,rfl,rfl,rfl,v,r,s,t,d⟩;refine an.dec (λx=>?_) (λz=>?_)
 ·rw[QI oM]
  refine⟨_,_,_,rfl,n,PC.ok (o _ q oM d) ?_⟩;rintro _ A ⟨rfl,j⟩;refine⟨_,rfl,an.not (an.dec (λl=>⟨_,?_,P,(P+a)/2,rfl,rfl,rfl,oM,oM,s,l,d.then j⟩) (λl=>⟨_,?_,(P+a)/2+1,a,aq oM,rfl,rfl,oM,r,oM,t,d.then j⟩))⟩
  ·omega
  ·omega
 ·obtain rfl:P=k:=oM
  exact Ok.mk ⟨rfl,d⟩
def rq{a:Type}(P:a->Bool):∀l:List a,l.dropWhile P=l.drop (posOf P l)
 |[]=>rfl
 |x::l=>by
  unfold posOf;rw[List.dropWhile_cons,List.takeWhile_cons]
  cases b:P x
  ·simp
  ·simpa[posOf]using rq P l
abbrev sR(l:List dz):Prop:=l.Pairwise λa P=>a.group<P.group
def PD{l:List dz}(c:sR l){P:Nat}(a:l[P]? =some d7):decide (posOf (λd7=>decide (d7.group<=e)) l<=P)=decide (d7.group>e):=by
 rw[decide_eq_decide]
 induction l generalizing P with
 |nil=>simp at a
 |cons d l f=>
  obtain⟨g,h⟩:=List.pairwise_cons.1 c;unfold posOf;rw[List.takeWhile_cons]
  by_cases b:d.group<=e
  ·rw[Zy b]
   cases P with
   |zero=>
    simp at a;subst a;simp;omega
   |succ P=>
    have:=f h (by simpa using a);unfold posOf at this;simp only[if_true,Xq];omega
  ·rw[Xv b]
   simp only[Bool.false_eq_true,if_false,ZQ,Qj,true_iff]
   cases P with
   |zero=>simp at a;subst a;omega
   |succ P=>
    have:=g d7 (QZ (by simpa using a));omega
def IJ(j:Row EA 24 w D a n l)(u:∀b,D b->b<w.heap.size)(v:n<=c)(x:sR l)(y:n<=20000000):
  ZG 83 #[.slice a n c,XH e,XH q] w (Ok λz w'=>∃P,z= .tuple #[P,.bool (mu l e (max q 0).toNat).2]/\qw EA 244 w (mu l e (max q 0).toNat).1 P w'):=by
 have Q:=j.len;have R:=xU (λP:dz=>decide (P.group<=e)) l;refine CU (PA.mk λS o T k=>PA.mk λU g V A=>⟨_,_,_,ae (g.get k id) rfl,PC.ok (Gk (k:=posOf (λP=>decide (P.group<=e)) l) y oM kR λh B W d=>?_) ?_⟩)
 ·have f:=(o.then g).then d
  obtain⟨b,C,X,E,i,-,F,rfl,-⟩:=(j.ah f).el h l[h] (Qq oM);have H:l[h]? =some l[h]:=Qq oM;refine yv ⟨_,_,_,ae (d.get (g.get k id) id) rfl,b,C,E,oM,oM,_,by rw[Qx];exact F 0 dC,_,ae (d.get A id) rfl,λI J=>Ok.mk ⟨?_,J.af⟩⟩;rw[PD x H]
 ·rintro _ B ⟨rfl,d⟩
  have f:=(o.then g).then d;have m:=(j.ah f).part (lo:=posOf (λP=>decide (P.group<=e)) l) (hi:=n) (cap:=c) oM (Q4 _) v;rw[Qz oM]at m;have K:EA.k=3:=rfl;rw[K]at m;refine⟨_,rfl,_,_,_,ae (d.get (g.get k id) id) rfl,oM,oM,?_⟩;rw[Qx];refine PC.ok (II (most:=q) m (λb i=>by have:=u b i;have:=f.size;omega) oM) ?_;rintro _ I ⟨_,rfl,p,r,s,L,rfl,M,N,O⟩;have t:l.dropWhile (λP=>decide (P.group<=e))=l.drop (posOf (λP=>decide (P.group<=e)) l):=rq _ l;refine⟨_,_,_,_,rfl,Ok.mk ⟨.slice p r s,?_,p,r,s,L,rfl,?_,f.then N,λb i=>by have:=O b i;have:=f.size;omega⟩⟩
  ·unfold mu;rw[t]
  ·unfold mu;rw[t];exact M
end
def rp(P:dz):Value:=.agg (a_ P).toArray
def Lb(P:dz):iJ XP 244 (a_ P)=true:=kR
def TJ(P:dz):Ph (fz XP 244) (.agg (a_ P).toArray)=true:=kR
structure ke (w:World) (p r:Nat) (R:du):Prop where
 at':w.heap[p]? =some (.cells #[XH R.p.aW,XH R.p.field,XH R.p.group,XH R.p.Cq,XH R.p.make,.map (some r)] 255 (0,0))
 map:cj w r (Value.int .i64) (R.rows.map λx=>(x.1,rp x.2))
 ok:∀x∈R.rows,dz.Ok x.2/\x.2.group=x.1
variable{a c:Nat}{d:ZH}{l:aj}{d6:iH}
section
variable {w w':World} {p r:Nat} {R:du} {T:XN}
def ke.af(P:ke w p r R)(a:ak T w w')(b:¬T p)(c:¬T r):ke w' p r R:=⟨a.get P.at' b,P.map.af a c,P.ok⟩
def ke.ah(P:ke w p r R)(a:ai w w'):ke w' p r R:=P.af a id id
def Mk:ZG 92 #[.agg (mG d6).toArray] w (Ok λb w'=>∃p r,b= XL p/\ke w' p r ⟨d6,[]⟩/\w.heap.size<=p/\w.heap.size<=r/\p<w'.heap.size/\r<w'.heap.size/\ai w w'):=by
 refine HH (PA.mk λc d j P=>⟨_,_,_,_,_,ae P rfl,ae P rfl,ae P rfl,ae P rfl,ae P rfl,PA.mk λe f k g=>PA.mk λl a m h=>Ok.mk ⟨e.heap.size,c.heap.size,rfl,⟨h,cj.new (a.get g id),λd6 i=>by cases i⟩,oM,oM,oM,oM,(d.then f).then a⟩⟩)
def DP(P:iH)(b:aj)(a:Int):Option Int:=if P.group=1 then some b.agg else if P.group=2 then some b.arg else if P.group=3 then some a else none
def IK(i:ke w p r R):ZG 216 #[XL p,jk l d a c,XH e] w (Ok λj w'=>j= .tuple #[XH ((DP R.p l e).getD 0),.bool (DP R.p l e).isSome]/\ai w w'):=by
 refine tx (PA.mk λk P m h=>⟨p,0,rfl,_,ae (i.ah P).at' rfl,an.eG (λb=>⟨_,ae h rfl,Ok.mk ⟨?_,P⟩⟩) (λb=>an.eG (λf=>⟨_,ae h rfl,Ok.mk ⟨?_,P⟩⟩) (λf=>an.eG (λg=>Ok.mk ⟨?_,P⟩) (λg=>Ok.mk ⟨?_,P⟩)))⟩)
 ·unfold DP;rw[Zx b];rfl
 ·unfold DP;rw[Zq b,Zx f];rfl
 ·unfold DP;rw[Zq b,Zq f,Zx g];rfl
 ·unfold DP;rw[Zq b,Zq f,Zq g];rfl
def Lx(h:ke w p r R){arg:Int}:ZG 217 #[XL p,.agg (a_ d7).toArray,XH arg] w (Ok λl w'=>l= XH (kW R.p d7 arg)/\ai w w'):=by
 refine vk (PA.mk λm b o f=>?_);have c:=(h.ah b).at';refine⟨_,ae f rfl,p,0,rfl,_,ae c rfl,an.eG (λd=>⟨_,ae f rfl,Ok.mk ⟨?_,b⟩⟩) (λd=>⟨p,0,rfl,_,ae c rfl,an.eG (λe=>⟨_,ae f rfl,Ok.mk ⟨?_,b⟩⟩) (λe=>⟨λk w'=>k=decide (R.p.make=5\/d7.count=1/\(R.p.make=3\/R.p.make=4))/\m=w',?_,?_⟩)⟩)⟩
 ·unfold kW;rw[Zx d]
 ·unfold kW;rw[Zq d,Zx e]
 ·refine⟨p,0,rfl,_,ae c rfl,an.eG (λg=>⟨?_,rfl⟩) (λg=>an.eG (λj=>⟨p,0,rfl,_,ae c rfl,an.eG (λP=>⟨?_,rfl⟩) (λP=>⟨p,0,rfl,_,ae c rfl,?_,rfl⟩)⟩) (λj=>⟨?_,rfl⟩))⟩
  ·rw[Zy (.inl g)];simpa using g
  ·rw[Zy (.inr ⟨j,.inl P⟩)]
  ·by_cases a:R.p.make=4
   ·rw[Zy (.inr ⟨j,.inr a⟩)];simpa using a
   ·rw[Xv (by rintro(h|⟨-,h|h⟩);exact g h;exact P h;exact a h)];simpa using a
  ·rw[Xv (by rintro(h|⟨h,-⟩);exact g h;exact j h)]
 ·rintro k _ _ ⟨n,rfl⟩
  subst n;refine an.dec (λi=>Ok.mk ⟨?_,b⟩) (λi=>⟨p,0,rfl,_,ae c rfl,an.eG (λP=>⟨_,ae f rfl,Ok.mk ⟨?_,b⟩⟩) (λP=>⟨p,0,rfl,_,ae c rfl,an.eG (λa=>⟨_,ae f rfl,Ok.mk ⟨?_,b⟩⟩) (λa=>Ok.mk ⟨?_,b⟩)⟩)⟩)
  ·unfold kW;rw[Zq d,Zq e,Zx i]
  ·have:(if arg<d7.value then arg else d7.value)=min d7.value arg:=by split<;>omega
   unfold kW;rw[Zq d,Zq e,Zq i,Zx P,<-this]
  ·have:(if arg>d7.value then arg else d7.value)=max d7.value arg:=by split<;>omega
   unfold kW;rw[Zq d,Zq e,Zq i,Zq P,Zx a,<-this]
  ·unfold kW;rw[Zq d,Zq e,Zq i,Zq P,Zq a]
end
def NF:nU XP 253 3 244 (rp ⟨0,0,0⟩):=⟨kR,kR⟩
def JZ{a e f:Type}[BEq a](b:e->f)(c:a):∀P:List (a×e),ax (P.map λd=>(d.1,b d.2)) c=(ax P c).map b
 |[]=>rfl
 |(d,g)::P=>by
  simp only[QY];unfold ax;split
  ·rfl
  ·exact JZ b c P
def J_{c d g:Type}[BEq c](a:d->g)(e:c)(f:d):∀b:List (c×d),aJ (b.map λP=>(P.1,a P.2)) e (a f)=(aJ b e f).map λP=>(P.1,a P.2)
 |[]=>rfl
 |(P,h)::b=>by
  simp only[QY];unfold aJ;split
  ·simp
  ·simp[J_ a e f b]
section
variable {w w':World} {p r:Nat} {R:du}
def du.add_def(r:du)(e:cM)(a:Int):r.add e a=match DP r.p e.ev a with
  |none=>r
  |some P=>if e.void||e.ev.aW !=r.p.aW||e.ev.field !=r.p.field then r else
   {r with rows:=aJ r.rows P ⟨P,kW r.p ⟨P,((ax r.rows P).getD ⟨0,0,0⟩).value,lN (((ax r.rows P).getD ⟨0,0,0⟩).count+1)⟩ e.ev.arg,lN (((ax r.rows P).getD ⟨0,0,0⟩).count+1)⟩}:=rfl
def Et:aP 0:=by unfold aP;omega
def RE{arg:Int}(P:dz.Ok d7)(a:aP arg):aP (kW d6 d7 arg):=by
 obtain⟨c,d,b⟩:=P;unfold kW;split;exact b;split;exact JA _;split;exact a;split
 ·unfold aP at*;omega
 split
 ·unfold aP at*;omega
 ·exact Et
def Mg(i:ke w p r R)(a1:p≠r){x:cM}(v:x.ev.Ok)(a2:aP e):ZG 163 #[XL p,Cr x d a c,XH e] w (Ok λl w'=>l= .tuple #[]/\ke w' p r (R.add x e)/\ak (·=r) w w'):=by
 have b1:=az i.at';have b2:=i.map.lt;refine xh (PA.mk λw1 L s1 M=>RF (cs:=aD x.ev d a c) (aX _ _ _ _) M (λa3 l N=>?_) (PC.ok (IK (i.ah L)) ?_))
 ·rw[Xz]
  have a4:=(Qv.1 N).1;show(aD x.ev d a c++_).toArray[a3]? =_;simp only[List.getElem?_toArray];rw[XW a4];exact N
 rintro _ O ⟨rfl,Q⟩;have m:=L.then Q;have n:=Q.get M id;have o:=i.ah m;have f:R.add x e=R->∀h,bO O h->Ok (λl w'=>l= .tuple #[]/\ke w' p r (R.add x e)/\ak (·=r) w w') (.returned (.tuple #[])) h:=λhe h j=>Ok.mk ⟨rfl,by rw[he];exact o.ah j.af,ai.af (m.then j.af)⟩;refine⟨_,_,rfl,an.not (an.mk (λy=>?_) (λy=>f ?_))⟩
 rotate_left
 ·rw[du.add_def,show DP R.p x.ev e=none by simpa using y]
 obtain⟨b,g⟩:=Option.isSome_iff_exists.1 y;rw[g,Option.getD_some];have s:∀{q:du},(if x.void||x.ev.aW !=R.p.aW||x.ev.field !=R.p.field then R else
   {R with rows:=aJ R.rows b ⟨b,kW R.p ⟨b,((ax R.rows b).getD ⟨0,0,0⟩).value,lN (((ax R.rows b).getD ⟨0,0,0⟩).count+1)⟩ x.ev.arg,lN (((ax R.rows b).getD ⟨0,0,0⟩).count+1)⟩})=q->R.add x e=q:=λ{q} z=>by
  rw[du.add_def,g];exact z
 refine⟨_,ae n rfl,an.mk (λk=>f (s (by rw[k];rfl))) (λk=>⟨_,ae n rfl,p,0,rfl,_,ae o.at' rfl,an.dX (λA=>f (s ?_)) (λA=>⟨_,ae n rfl,p,0,rfl,_,ae o.at' rfl,λh j=>?_⟩)⟩)⟩
 ·rw[k,show(x.ev.aW !=R.p.aW)=true by simpa using A];rfl
 have S:(x.ev.aW !=R.p.aW)=false:=by simpa using A
 have t:ai O h:=j.af;have u:=o.ah t;refine an.dX (λB=>f (s (by rw[k,S,show(x.ev.field !=R.p.field)=true by simpa using B];rfl)) h j) (λB=>?_);have a5:(x.ev.field !=R.p.field)=false:=by simpa using B
 have T:aP b:=by
  unfold DP at g;split at g
  ·cases g;exact v.agg
  split at g
  ·cases g;exact v.arg
  split at g
  ·cases g;exact a2
  ·cases g
 obtain⟨P,C⟩:∃P,P=(ax R.rows b).getD ⟨0,0,0⟩:=⟨_,rfl⟩
 have a6:dz.Ok P:=by
  rw[C]
  cases z:ax R.rows b with
  |none=>exact⟨Et,Et,Et⟩
  |some U=>exact(i.ok _ (bV z)).1
 have a7:(ax (R.rows.map λx=>(x.1,rp x.2)) b).getD (rp ⟨0,0,0⟩)=rp P:=by
  rw[JZ,C];cases ax R.rows b<;>rfl
 refine⟨p,0,rfl,_,ae u.at' rfl,xz NF CD u.map ?_⟩;rw[a7];refine bS (TJ P) ⟨rfl,PA.mk λw4 k4 s4 g4=>aB (Lb P) g4 rfl λw5 k5 s5 g5=>PS.mk g5 (by simp[a_]) λw6 k6 s6 V=>⟨_,ae V rfl,PS.mk V (by simp[a_]) λw7 k7 s7 W=>?_⟩⟩;have E:ai h w7:=((k4.new k5 λF H=>.inr oM).new k6 λF H=>.inr oM).new k7 λF H=>.inr oM;have a8:=E.get (t.get n id) id;refine au (cs:=a_ ⟨b,P.value,lN (P.count+1)⟩) (Lb _) W ⟨_,ae a8 rfl,PC.ok (Lx (u.ah E)) ?_⟩;rintro _ w8 ⟨rfl,I⟩;have z8:=I.size;refine⟨_,rfl,PS.mk (I.get W id) (by simp[a_]) λw9 k9 s9 g9=>λX a9=>?_⟩;have Y:ai w9 X:=a9.af;have Z:ai h X:=((E.then I).new k9 λF H=>.inr oM).then Y;have J:=u.ah Z;have z3:=(m.then t).size;refine⟨p,0,rfl,_,ae J.at' rfl,au (cs:=a_ ⟨b,kW R.p ⟨b,P.value,lN (P.count+1)⟩ x.ev.arg,lN (P.count+1)⟩) (Lb _) (Y.get g9 id) (iZ NF CD J.map λb3 b0 a0 b4=>Ok.mk ⟨rfl,?_,?_⟩)⟩
 ·rw[s (q:={R with rows:=aJ R.rows b ⟨b,kW R.p ⟨b,P.value,lN (P.count+1)⟩ x.ev.arg,lN (P.count+1)⟩}) (by rw[k,S,a5,C];rfl)]
  refine⟨a0.get J.at' a1,?_,λU K=>?_⟩
  ·rw[<-J_];exact b0
  ·rcases fH K with rfl|K
   ·exact⟨⟨T,RE ⟨T,a6.2.1,JA _⟩ v.arg,JA _⟩,rfl⟩
   ·exact i.ok U K
 ·exact(ai.af ((m.then t).then Z)).then a0
end
section
variable {w w':World} {p r:Nat} {R:du}
def Ks(f:ke w p r R):ZG 194 #[XL p] w (Ok λg w'=>∃c e,g= XL c/\ke w' c e R/\c≠e/\w.heap.size<=c/\w.heap.size<=e/\c<w'.heap.size/\e<w'.heap.size/\ai w w'):=by
 refine vj λa i=>?_;have j:ai w a:=i.af;have t:a.heap.size=w.heap.size:=by rw[i.heap]
 have b:=f.ah j;obtain⟨d,P,l,m,n,o⟩:=b.map.at';refine⟨no,p,0,rfl,id,_,_,_,_,_,ae b.at' rfl,ae b.at' rfl,ae b.at' rfl,ae b.at' rfl,ae b.at' rfl,p,0,rfl,_,ae b.at' rfl,PC.ok (φ:=λg w'=>g= .map (some a.heap.size)/\w'=a.alloc (.map d P)) ((AnyW.maps_Clone Tryz.RG r d P a l).mono ?_) ?_⟩
 ·rintro u w' ⟨rfl,q⟩
  exact Ok.mk ⟨rfl,q⟩
 ·rintro _ v ⟨rfl,rfl⟩
  have k:ai a (a.alloc (.map d P)):=ak.alloc _ _;have x:(a.alloc (.map d P)).heap.size=a.heap.size+1:=sM
  refine⟨_,rfl,ai.af k,PA.mk λy h z s=>⟨ai.af h,Ok.mk ⟨_,a.heap.size,rfl,⟨s,⟨⟨d,P,h.get (heap_alloc_new a _) id,m,n,o⟩,f.map.tidy⟩,f.ok⟩,?_⟩⟩⟩;refine⟨oM,oM,oM,oM,oM,(j.then k).then h⟩
end
open Go.aw Go.Sort
def mr{c:Type}{g:Nat}{P:c->List Value}{e:c->Prop}{hl h1}{h:World}{D:XN}:∀{a:List c} {cs:List Value},bK (flat g P e hl h1) h D a cs↔cs=a.flatMap P/\∀x∈a,e x
 |[],cs=>by simp[bK]
 |x::a,cs=>by
  constructor
  ·rintro⟨l,m,rfl,⟨rfl,i⟩,j⟩
   obtain⟨rfl,k⟩:=mr.1 j;exact⟨rfl,λd b=>by rcases Q2.1 b with rfl|b;exact i;exact k d b⟩
  ·rintro⟨rfl,f⟩
   exact⟨P x,a.flatMap P,rfl,⟨rfl,f x (QV ..)⟩,mr.2 ⟨rfl,λd b=>f d (QJ _ b)⟩⟩
section
variable {α:Type} {enc:α->List Value} {K:Nat}
def fx(b:∀a,(enc a).length=K)(P:List α):(P.flatMap enc).length=P.length*K:=by
 induction P with
 |nil=>simp
 |cons a P c=>rw[List.flatMap_cons,QX,c,b,Xq,X7];omega
def jy[Inhabited α](g:0<K)(b:∀d,(enc d).length=K){P:List α}(e:a<P.length*K):(P.flatMap enc)[a]? =(enc P[a/K]!)[a % K]? :=by
 induction P generalizing a with
 |nil=>simp at e
 |cons d P h=>
  rw[List.flatMap_cons]
  by_cases c:a<K
  ·rw[XW (by rw[b];exact c),Nat.div_eq_of_lt c,Nat.mod_eq_of_lt c];rfl
  ·rw[Xq,X7]at e
   rw[X8 (by rw[b];omega),b,h oM];obtain⟨f,rfl⟩:∃f,a=f+K:=⟨a-K,oM⟩
   rw[Nat.add_sub_cancel,Nat.add_div_right _ g,Nat.add_mod_right];simp
def wF[Inhabited α](d:0<K)(c:∀g,(enc g).length=K)(P:List α):(flatK enc K P.toArray).toList=P.flatMap enc:=by
 apply X3;intro a
 by_cases b:a<P.length*K
 ·rw[jy d c b]
  have h:a<(flatK enc K P.toArray).size:=by simpa using b
  have e:=get_flatK enc K P.toArray a (by simpa using b);rw[getElem!_pos _ a h]at e;have f:a % K<(enc P[a/K]!).length:=by rw[c];exact Nat.mod_lt _ d
  rw[Qq (by simpa using b),Qq f]
  congr 1
  rw[Array.getElem_toList,e];rw[getElem!_pos _ _ (by simpa using f)]
  congr 1
  simp
 ·rw[Q7 (by simpa using b),Q7 (by rw[fx c];omega)]
end
instance:Inhabited dz:=⟨⟨0,0,0⟩⟩
def RP(a:dz):∀b∈a_ a,b.oneCell'=true:=by
 intro c P;simp only[a_,Q2,List.not_mem_nil,or_false]at P;rcases P with rfl|rfl|rfl<;>rfl
def nB(P:dz):(a_ P).length=3:=rfl
def Ak(P a:dz):Int:=if P.group<a.group then-1 else 1
def xJ(P a:dz):ltOf Ak P a=decide (P.group<a.group):=by
 unfold ltOf Ak
 by_cases b:P.group<a.group<;>simp[b]
def SV:SWO (ltOf Ak) where
 irrefl x:=by rw[xJ];simp
 trans x y z h1 h2:=by rw[xJ]at*;simp at*;omega
 ntrans x y z h1 h2:=by rw[xJ]at*;simp at*;omega
variable{g2:List dz}{f:XN}{b:World}
def RQ{c d:dz}:ZG 349 #[.agg (a_ c).toArray,.agg (a_ d).toArray] b (Ok λf g=>f= XH (Ak c d)/\G b g):=by
 refine se (PA.SS λj e k h=>PA.SS λl P m i=>⟨_,ae ((P.af (S:=λ_=>False)).get h id) rfl,_,ae i rfl,an.dec (λa=>Ok.mk ⟨?_,e.then P⟩) (λa=>Ok.mk ⟨?_,e.then P⟩)⟩)
 ·unfold Ak;rw[Zx a]
 ·unfold Ak;rw[Zq a]
def Lu(l:aU EA 244 f b d a c g2)(B:g2.length<=20000000):
  ZG 348 #[.slice d a c,.func (.func 349) #[] #[]] b (Ok λL r=>L= .tuple #[]/\∃C:List dz,C.Perm g2/\(C.Pairwise λs M=>¬M.group<s.group)/\aU EA 244 f r d a c C/\ak (λt=>aI d=some t) b r):=by
 obtain⟨cs,D,x,Y,Z⟩:=l.body;obtain⟨rfl,N⟩:=mr.1 Y;obtain⟨P,y⟩:∃P,P=g2:=⟨g2,rfl⟩
 rw[<-y]at x N;have E:=l.len dC;have u:P.length=a:=by rw[E,<-y]
 rcases x.cases with⟨rfl,rfl,rfl,h0⟩|⟨h,i,rfl,v,O,F,Q⟩
 ·have hd:P=[]:=QW u
  refine(AnyF.slices_SortFunc_none Tryz.QG none 0 _ b).mono ?_;rintro z r ⟨rfl,rfl⟩;exact Ok.mk ⟨rfl,g2,List.Perm.refl _,by rw[<-y,hd];exact List.Pairwise.nil,l,ak.refl _⟩
 ·have R:EA.k=3:=rfl
  rw[R]at Q F;have a5:flatK a_ 3 P.toArray=(P.flatMap a_).toArray:=by rw[<-wF (show 0<3 by decide) nB]
  have hH:HoldsK a_ 3 b h 0 P.toArray:=by
   intro j n;rw[size_flatK]at n;simp only[List.size_toArray]at n;have S:j<(P.flatMap a_).length:=by rw[fx nB];exact n
   refine⟨?_,by simp[World.frozen?,v]⟩;have o:(flatK a_ 3 P.toArray)[j]! =(P.flatMap a_)[j]:=by
    rw[a5,getElem!_pos _ j (by simpa using S)];simp
   rw[o,Xz];refine ae v ?_;have k:(i.toList.take (a*3))[j]? =some (P.flatMap a_)[j]:=by rw[Q];exact Qq S
   rw[Xw,Zx oM]at k;simpa using k
  have B:=x.row;have H:c<=maxLen:=by
   obtain⟨_,a0,_,T,_,_,_,H,_⟩:=x.row.2.resolve_left (by rintro⟨l,_⟩;cases l);simp only[XX]at T;rw[T.2.2];exact H
  have a6:P.toArray.size<4611686018427387904:=by
   simp only[List.size_toArray,u];omega
  have U:=AnyQ.slices_SortFunc Tryz.QG 3 (λb=>cW _ _ _ kR ⟨_,Tryz.underlying244⟩ b) (λb=>Tryz.sizeOf244 b) a_ (λ_=>rfl) RP (Ak) SV 349 #[] h 0 c P.toArray b
   (enters_of Tryz.func349 kR rfl) (λa9 p dk b0 s M=>(RQ).mono ?_) hH (az v) a6
  ·rw[show P.toArray.size=a by simpa using u]at U
   refine U.mono ?_;rintro z r ⟨rfl,g,w,p,hp,hs,rfl⟩;obtain⟨p1,p2,V⟩:=hp;have e:g.size=a:=p1.trans (by simpa using u);have W:g.toList.Perm P:=by
    have o:g.extract 0 a=g:=by rw[<-e];exact Array.extract_size
    have k:P.toArray.extract 0 a=P.toArray:=by rw[show a=P.toArray.size by simpa using u.symm];exact Array.extract_size
    rw[o,k]at V;exact V
   have a2:flatK a_ 3 g=(g.toList.flatMap a_).toArray:=by rw[<-wF (show 0<3 by decide) nB]
   have I:(sortWorldK a_ 3 b h 0 w g p).heap[h]? =some (.cells (putCells id 0 (flatK a_ 3 g) i) 244 (0,0)):=by
    have a7:=az v;show((Sort.ahead b w).heap.modify h _++p)[h]? =_;rw[Array.getElem?_append_left (by simpa[Sort.ahead]using a7),Array.getElem?_modify,Zx rfl];show Option.map _ b.heap[h]? =_;rw[v];rfl
   have A:ak (λt=>aI (XM h)=some t) b (sortWorldK a_ 3 b h 0 w g p):=by
    refine⟨rfl,rfl,rfl,?_,λa1 A E=>?_⟩
    ·show b.heap.size<=((Sort.ahead b w).heap.modify h _++p).size
     simp[Sort.ahead]
    ·show((Sort.ahead b w).heap.modify h _++p)[a1]? =_
     rw[Array.getElem?_append_left (by simpa[Sort.ahead]using A),Array.getElem?_modify,Zq (λz=>E (by rw[z];rfl))]
     rfl
   have a3:(putCells id 0 (flatK a_ 3 g) i).size=c*3:=by unfold putCells;rw[Array.size_mapIdx];exact F
   refine Ok.mk ⟨rfl,g.toList,by rw[<-y];exact W,?_,⟨⟨g.toList.flatMap a_,D,⟨⟨?_,.inr ⟨h,c,_,rfl,Qj _,I,O,H,a3,?_⟩⟩⟩,mr.2 ⟨rfl,λs hx=>?_⟩,Z⟩,l.self,λt B=>Qk (l.aF t B) A.size⟩,A⟩
   ·rw[List.pairwise_iff_getElem]
    intro X j hi n a8;have o:=hs X j (Qj _) a8 (by simpa[e]using n);rw[xJ,getElem!_pos _ j (by simpa using n),getElem!_pos _ X (by simpa using hi)]at o;simpa using o
   ·rw[fx nB,XK,e];rfl
   ·apply X3
    intro q;rw[R,Xw];split
    ·rename_i m
     rw[jy (show 0<3 by decide) nB (by rw[XK,e];exact m),<-jy (show 0<3 by decide) nB (by rw[XK,e];exact m)];unfold putCells;have a4:q<i.size:=by rw[F];exact Qk m (Q0 _ O)
     rw[Array.getElem?_toList,Array.getElem?_mapIdx,X6 a4];simp only[Option.map_some];have J:q<(flatK a_ 3 g).size:=by rw[size_flatK,e];exact m
     rw[Zx ⟨Qj _,by rw[Xz];exact J⟩,Nat.sub_zero,getElem!_pos _ q J];have:(flatK a_ 3 g)[q]=(g.toList.flatMap a_)[q]'(by rw[fx nB,XK,e];exact m):=by
      have k:=Zj (·[q]?) a2;simp only[List.getElem?_toArray]at k;rw[X6 J,Qq (by rw[fx nB,XK,e];exact m)]at k;exact XJ k
     rw[this];exact(Qq _).symm
    ·rename_i m
     rw[Q7 (by rw[fx nB,XK,e];omega)]
   ·have K:s∈P:=W.mem_iff.1 hx
    exact N s K
  ·rintro z r ⟨L,rfl,rfl,hG⟩
   exact⟨rfl,hG⟩
end
end Go.Proofs.YtkpomgifkloklacGreatDoor
namespace Go.aw
open Go
structure bL (w:World) (F:XN) (cls:Nat->Nat) (C:Nat->World->(XN)->Prop):Prop where
 at':∀k,C k w (λb=>F b/\cls b=k)
 aF:∀b,F b->b<w.heap.size
def sP(P:Nat->World->(XN)->Prop):Prop:=∀a b c G d,P a b G->ak d b c->(∀e,G e->¬d e)->P a c G
section
variable {w w':World} {F T:XN} {cls:Nat->Nat} {C C2:Nat->World->(XN)->Prop}
def bL.af(b:bL w F cls C)(e:sP C)(c:ak T w w')(f:∀P,F P->¬T P):bL w' F cls C:=
 ⟨λd=>e d w w' _ T (b.at' d) c λP a=>f P a.1,λP a=>Qk (b.aF P a) c.size⟩
def bL.ah(P:bL w F cls C)(a:sP C)(b:ai w w'):bL w' F cls C:=P.af a b λ_ _ P=>P
def bL.Ew(h:bL w F cls C)(m:sP C){k:Nat}{G':XN}(g:ak (λP=>F P/\cls P=k) w w')(n:∀P,G' P->F P->cls P=k)(o:∀P,G' P->P<w'.heap.size)(p:C2 k w' G')(q:∀b G,b≠k->C b w' G->C2 b w' G):∃f c,bL w' f c C2/\ak F w w'/\(∀P,f P->((F P/\cls P≠k)\/G' P))/\(∀b,b≠k->(λP=>f P/\c P=b)=λP=>F P/\cls P=b)/\(λP=>f P/\c P=k)=G':=by
 classical
 have i:∀b,b≠k->(λP=>((F P/\cls P≠k)\/G' P)/\(if G' P then k else cls P)=b)=λP=>F P/\cls P=b:=λb e=>by
  funext P
  refine propext ⟨λa=>?_,λa=>?_⟩
  ·by_cases d:G' P
   ·rw[Zx d]at a;exact Zz a.2.symm e
   ·rw[Zq d]at a
    exact⟨(a.1.resolve_right d).1,a.2⟩
  ·have j:cls P≠k:=λr=>e (a.2.symm.trans r)
   rw[Zq λd=>j (n P d a.1)];exact⟨.inl ⟨a.1,j⟩,a.2⟩
 have l:(λP=>((F P/\cls P≠k)\/G' P)/\(if G' P then k else cls P)=k)=G':=by
  funext P
  refine propext ⟨λa=>?_,λa=>⟨.inr a,Zx a⟩⟩
  by_cases d:G' P
  ·exact d
  ·rw[Zq d]at a;exact Zz a.2 (a.1.resolve_right d).2
 refine⟨λP=>(F P/\cls P≠k)\/G' P,λP=>if G' P then k else cls P,⟨λb=>?_,λP a=>?_⟩,g.mono λP _ a=>a.1,λP a=>a,i,l⟩
 ·by_cases e:b=k
  ·subst e
   rw[l];exact p
  ·rw[i b e]
   refine q b _ e (m b w w' _ _ (h.at' b) g λP a s=>e (a.2.symm.trans s.2))
 ·rcases a with a|a
  ·exact Qk (h.aF P a.1) g.size
  ·exact o P a
def bL.fC(d:bL w F cls C)(i:sP C){k:Nat}{G':XN}(j:ak (λP=>F P/\cls P=k) w w')(f:∀P,G' P->(F P/\cls P=k)\/w.heap.size<=P)(l:∀P,G' P->P<w'.heap.size)(e:C2 k w' G')(m:∀b G,b≠k->C b w' G->C2 b w' G):∃c a,bL w' c a C2/\dy F w c w'/\(∀P,c P->((F P/\cls P≠k)\/G' P))/\(∀b,b≠k->(λP=>c P/\a P=b)=λP=>F P/\cls P=b)/\(λP=>c P/\a P=k)=G':=by
 obtain⟨c,a,g,e,h,n⟩:=d.Ew i j (λP o p=>(f P o).elim (·.2) λg=>by have:=d.aF P p;omega) l e m;exact⟨c,a,g,⟨e,λP q=>(h P q).elim (λd=>.inl d.1) λd=>(f P d).imp (·.1) id⟩,h,n⟩
def bL.same(d:bL w F cls C)(f:sP C){k:Nat}(e:ak (λP=>F P/\cls P=k) w w')(g:C2 k w' (λP=>F P/\cls P=k))(h:∀a G,a≠k->C a w' G->C2 a w' G):bL w' F cls C2:=
 ⟨λa=>by
  by_cases b:a=k
  ·subst b;exact g
  ·exact h a _ b (f a w w' _ _ (d.at' a) e λP c i=>b (c.2.symm.trans i.2)),λP c=>Qk (d.aF P c) e.size⟩
def bL.Hg(e:bL w F cls C)(f:sP C){k:Nat}{G':XN}(d:dy (λP=>F P/\cls P=k) w G' w')(g:∀P,G' P->P<w'.heap.size)(h:C2 k w' G')(i:∀b G,b≠k->C b w' G->C2 b w' G):∃c a,bL w' c a C2/\dy F w c w'/\(∀P,c P->((F P/\cls P≠k)\/G' P))/\(∀b,b≠k->(λP=>c P/\a P=b)=λP=>F P/\cls P=b)/\(λP=>c P/\a P=k)=G':=e.fC f d.1 d.2 g h i
def bL.join{G:Nat->XN}(b:∀P,C P w (G P))(h:∀e f a,G e a->G f a->e=f)(i:∀P a,G P a->a<w.heap.size):∃cls,bL w (λa=>∃P,G P a) cls C:=by
 classical
 refine⟨λa=>if b:∃P,G P a then b.choose else 0,⟨λP=>?_,λa ⟨P,c⟩=>i P a c⟩⟩;have:(λa=>(∃P,G P a)/\(if b:∃P,G P a then b.choose else 0)=P)=G P:=by
  funext a
  refine propext ⟨λ⟨d,g⟩=>?_,λc=>⟨⟨P,c⟩,?_⟩⟩
  ·rw[dif_pos d]at g;exact g▸d.choose_spec
  ·have d:∃P,G P a:=⟨P,c⟩
   rw[dif_pos d];exact h _ _ a d.choose_spec c
 rw[this];exact b P
end
end Go.aw
namespace Go.Proofs.YtkpomgifkloklacGreatDoor
open Go.aw
def SI:jB Nat:=flat 1 (λa=>[XL a]) (λ_=>True) (λ_=>rfl) (λb c P=>by simp at P;subst P;rfl)
def Md:iI XP 180 187 1 8:=⟨kR,kR,dC⟩
structure cx (w:World) (G:XN) (a:ZH) (n c:Nat) (Rs:List du):Prop where
 body:∃ps:List (Nat×Nat),ps.length=Rs.length/\aU SI 187 (λb=>aI a=some b) w a n c (ps.map (·.1))/\
  (∀(i j:Nat) (x y:Nat×Nat),ps[i]? =some x->ps[j]? =some y->x.1≠y.2/\(x.2=y.2->i=j))/\(∀x∈ps,G x.1/\G x.2/\aI a≠some x.1/\aI a≠some x.2)/\
  ∀(i:Nat) (x:Nat×Nat) (R:du),ps[i]? =some x->Rs[i]? =some R->ke w x.1 x.2 R
 self:∀b,aI a=some b->G b
variable{I:Nat×Nat}{h:Program}{g o:TypeId}{m s:XR}
section
variable {w w':World} {G G' T:XN} {a:ZH} {n c:Nat} {Rs:List du}
def cx.af(b:cx w G a n c Rs)(h:ak T w w')(d:∀P,G P->¬T P):cx w' G a n c Rs:=by
 obtain⟨i,j,k,l,e,m⟩:=b.body;exact⟨⟨i,j,k.af h λP o=>d P (b.self P o),l,e,λp f q g r=>(m p f q g r).af h (d _ (e f (QZ g)).1) (d _ (e f (QZ g)).2.1)⟩,b.self⟩
def cx.ah(P:cx w G a n c Rs)(b:ai w w'):cx w' G a n c Rs:=P.af b λ_ _ P=>P
def cx.mono(g:cx w G a n c Rs)(b:∀P,G P->G' P):cx w G' a n c Rs:=by
 obtain⟨h,i,j,k,d,l⟩:=g.body;exact⟨⟨h,i,j,k,λe f=>⟨b _ (d e f).1,b _ (d e f).2.1,(d e f).2.2⟩,l⟩,λP m=>b P (g.self P m)⟩
def cx.len(P:cx w G a n c Rs):n=Rs.length:=by
 obtain⟨e,b,d,-⟩:=P.body;rw[d.len dC,Q8,b]
def cx.nil(w:World):cx w (λ_=>False) none 0 0 []:=⟨⟨[],rfl,(aU.nil w).mono (λa P=>P.elim) (λa P=>by cases P),sM,sM,sM⟩,λa P=>by cases P⟩
def cx.elem(m:cx w G a n c Rs){P:Nat}{o:du}(u:Rs[P]? =some o):∃f e g,a=XM f/\w.cell? ⟨f,0+P,none⟩=some (XL e)/\ke w e g o/\e≠g/\G e/\G g/\G f/\
  ∀w' p,ak (·=g) w w'->ke w' e g p->cx w' G a n c (Rs.set P p):=by
 obtain⟨h,B,v,j,x,y⟩:=m.body;have L:=(Qv.1 u).1;have b:h[P]? =some h[P]:=Qq oM;generalize h[P]=d at b;obtain⟨cs,D,C,E,M⟩:=v.body;have q:=x d (QZ b);obtain⟨rfl,-⟩:=mr.1 E;have F:((h.map (·.1)).flatMap λe=>[Value.pointer (XM e)])[P]? =some (XL d.1):=by
  rw[jy (K:=1) dC (λ_=>rfl) bc,Nat.div_one,Nat.mod_one,getElem!_pos _ P bc];simp[(Qv.1 b).2]
 obtain⟨f,z,H⟩:=C.cell F;refine⟨f,d.1,d.2,z,by rw[Xz];exact H.2,y P d o b u,(j P P d d b b).1,q.1,q.2.1,m.self f (by rw[z];rfl),λw' p A I=>⟨⟨h,by simpa using B,v.af A λN J r=>q.2.2.2 (r▸J),j,x,λk s K i l=>?_⟩,m.self⟩⟩
 by_cases t:P=k
 ·subst t
  rw[b]at i;cases i
  rw[List.getElem?_set_self oM]at l;cases l
  exact I
 ·rw[List.getElem?_set_ne t]at l
  exact(y k s K i l).af A (j k P s d i b).1 λr=>t ((j P k d s b i).2 r.symm)
def cx.push(r:cx w G a n c Rs)(J:∀P,G P->P<w.heap.size){e f N:Nat}{O:du}(K:ke w e f O)(Q:¬G e)(y:¬G f)(X:e≠f)(Y:iI h g 187 1 8)(Z:w.heap[N]? =some (.cells #[XL e] 187 I))(b:Rs.length<=1000)(L:∀k z w' G',cx w' G' k (n+1) z (Rs++[O])->ak G w w'->(∀P,G' P->G P\/P=e\/P=f\/w.heap.size<=P)->(∀P,G' P->P<w'.heap.size)->m (.slice k (n+1) z) w'):
  aH h (Builtin.append_ #[g,g] o #[.slice a n c,.slice (XM N) 1 1]) w m s:=by
 obtain⟨l,p,M,h3,A,h5⟩:=r.body;have a1:e<w.heap.size:=az K.at';have a2:f<w.heap.size:=K.map.lt;refine d_ M Y Z (D:=λ_=>False) (x:=e) ⟨rfl,trivial⟩ (λP b=>b.elim) (by unfold aT;simp;omega) (by unfold maxLen;simp;omega) λk z w' F' R C hF=>?_;have a0:∀P,aI k=some P->aI a=some P\/w.heap.size<=P:=λP b=>(hF P (R.self P b)).imp id λr=>r.resolve_left id;have t:=R.alone;have a5:=C.size;have S:∀P,aI k=some P->aI a=some P\/w.heap.size<=P:=a0;have F:∀P,P<w.heap.size->aI a≠some P->aI k≠some P:=λP b p M=>(S P M).elim p oM;have T:aI a≠some e:=λj=>Q (r.self e j);have U:aI a≠some f:=λj=>y (r.self f j);refine L k z w' (λP=>(G P\/P=e\/P=f\/aI k=some P)) ⟨⟨l++[(e,f)],by simp[p],by rw[Q3];exact t,λi V x u B H=>?_,λx B=>?_,λi x a3 B q=>?_⟩,λP b=>.inr (.inr (.inr b))⟩ (C.mono λP _ b=>r.self P b) (λP b=>?_) λP b=>?_
 ·have E:∀i x,(l++[(e,f)])[i]? =some x->(l[i]? =some x)\/(i=l.length/\x=(e,f)):=λi x B=>by
   rw[List.getElem?_append]at B;split at B
   ·exact .inl B
   ·rename_i W
    have:i-l.length=0:=by
     rcases Nat.eq_zero_or_pos (i-l.length)with v|v
     ·exact v
     ·rw[Q7 bc]at B;cases B
    rw[this]at B;simp at B;exact .inr ⟨oM,B.symm⟩
  rcases E i x B with B|⟨rfl,rfl⟩<;>rcases E V u H with H|⟨rfl,rfl⟩
  ·exact h3 i V x u B H
  ·have d:=A x (QZ B)
   exact⟨λj=>y ((show x.1=f from j)▸d.1),λj=>Zz ((show x.2=f from j)▸d.2.1) y⟩
  ·have d:=A u (QZ H)
   exact⟨λj=>Q ((show e=u.2 from j)▸d.2.1),λj=>Zz ((show f=u.2 from j)▸d.2.1) y⟩
  ·exact⟨X,λ_=>rfl⟩
 ·rcases Q6.1 B with B|B
  ·have d:=A x B
   exact⟨.inl d.1,.inl d.2.1,F _ (J _ d.1) d.2.2.1,F _ (J _ d.2.1) d.2.2.2⟩
  ·simp at B;subst B
   exact⟨.inr (.inl rfl),.inr (.inr (.inl rfl)),F _ a1 T,F _ a2 U⟩
 ·rw[List.getElem?_append]at B q
  rw[<-p]at q;split at B
  ·rename_i a4
   rw[Zx a4]at q;have d:=A x (QZ B);exact(h5 i x a3 B q).af C d.2.2.1 d.2.2.2
  ·rename_i W
   rw[Zq W]at q;have:i-l.length=0:=by
    rcases Nat.eq_zero_or_pos (i-l.length)with v|v
    ·exact v
    ·rw[Q7 bc]at B;cases B
   rw[this]at B q;simp at B q;subst B q;exact K.af C T U
 ·rcases b with b|b|b|b
  ·exact .inl b
  ·exact .inr (.inl b)
  ·exact .inr (.inr (.inl b))
  ·rcases S P b with p|p
   ·exact .inl (r.self P p)
   ·exact .inr (.inr (.inr p))
 ·rcases b with b|b|b|b
  ·have:=J P b;omega
  ·omega
  ·omega
  ·exact t.aF P b
def Uk:jB (List du) where
 k:=2
 rep:=λw D Rs cs=>∃P a n c,cs=[.pointer P,.slice a n c]/\cx w D a n c Rs
 af:=λ⟨P,a,n,c,b,d⟩ g e=>⟨P,a,n,c,b,d.af g e⟩
 mono:=λ⟨P,a,n,c,b,d⟩ e=>⟨P,a,n,c,b,d.mono e⟩
 len:=λ⟨P,a,n,c,b,d⟩=>by rw[b];rfl
 one:=λ⟨P,a,n,c,b,d⟩ h f=>by
  rw[b]at f;simp only[Q2,List.not_mem_nil,or_false]at f;rcases f with rfl|rfl<;>rfl
def R_:iI XP 183 182 2 32:=⟨kR,kR,dC⟩

import Derived.Test.YtblabbpipmodgaaGreatDoorKp17
set_option maxHeartbeats 4000000
set_option linter.all false
set_option maxRecDepth 20000
namespace Go.Proofs.YtblabbpipmodgaaGreatDoor
open Go.aw
def uW{d:au}:∀{a:List aj} {e:aj} {S':au} {l':List aj},ey d a=some (e,S',l')->l'.length+1=a.length
 |[],e,S',l',P=>by simp[ey]at P
 |x::a,e,S',l',P=>by
  unfold ey at P;split at P
  ·simp only[Q1,Prod.mk.injEq]at P
   obtain⟨-,-,rfl⟩:=P;rfl
  ·cases b:ey d a with
   |none=>rw[b]at P;cases P
   |some c=>
    rw[b]at P;simp only[Option.map_some,Q1,Prod.mk.injEq]at P;obtain⟨rfl,rfl,rfl⟩:=P;have:=uW (e:=c.1) (S':=c.2.1) (l':=c.2.2) b;simp only[Xq];omega
def uX:∀(k:Nat) (b:au) (a P:List aj),(dW k b a P).1.length+(dW k b a P).2.length=P.length+a.length
 |0,b,a,P=>rfl
 |k+1,b,a,P=>by
  unfold dW
  cases f:ey b a with
  |none=>rfl
  |some g=>
   obtain⟨c,d,e⟩:=g;have i:=uW f;have h:=uX k d e (P++[c]);show(dW k d e (P++[c])).1.length+(dW k d e (P++[c])).2.length=_;rw[h,QX,List.length_singleton];omega
def uY(a:au)(P:List aj):(bz a P).1.length+(bz a P).2.length<=P.length:=by
 unfold bz;dsimp only;rw[uX];have:=List.length_filter_le (λb=>(a.get (bd b)).isNone) P;simp only[ZQ];omega
structure FB (w:World) (wp most:Nat) (M0 D0 E:XN) (s:Nat) (S:au) (b:List aj) (oa:ZH) (on oc:Nat) (Lo:List (Bx aj)) (w1:World) (M Db Fs Do:XN):Prop where
 buf:fZ w1 wp M Db most b
 set:cC w1 s Fs S
 Ma:∀x∈Lo,oL.In w1 Do x
 out:aT oL.jB 55 (λb=>aI oa=some b) w1 oa on oc Lo
 nM:∀b,M b->(M0 b\/w.heap.size<=b)/\¬Fs b
 nD:∀b,Db b->(D0 b\/w.heap.size<=b)/\¬Fs b
 nF:∀b,Fs b->w.heap.size<=b
 nO:∀b,Do b->(E b\/D0 b\/w.heap.size<=b)/\b<w1.heap.size/\¬M b/\¬Fs b
 nA:∀b,aI oa=some b->w.heap.size<=b/\¬M b/\¬Fs b/\¬Do b/\¬Db b
 af:ak M0 w w1
 cl:S.Cl
variable{a:Nat}{f:XN}{d:ZH}{g o:TypeId}{m:aj}
section
variable {w w' w0 w1 w2:World} {p wp most s on oc:Nat} {F E T Z M0 D0 M Db Fs Do:XN} {cls:Nat->Nat} {h:iZ} {c:cD} {self:Int} {X:bI} {S:au} {b:List aj} {oa:ZH} {Lo:List (Bx aj)}
def fZ.Ni(P:fZ w p M Db most b):∀b,M b->b<w.heap.size:=by obtain⟨-,d,e,c,f,a⟩:=P;exact a.dM
def fZ.Ib(P:fZ w p M Db most b):∀b,Db b->b<w.heap.size/\¬M b:=by obtain⟨-,d,e,c,f,a⟩:=P;exact a.dD
def FB.ah(P:FB w wp most M0 D0 E s S b oa on oc Lo w1 M Db Fs Do)(a:ai w1 w2):FB w wp most M0 D0 E s S b oa on oc Lo w2 M Db Fs Do:=
 ⟨P.buf.ah a,P.set.ah a,λd e=>(P.Ma d e).af a λ_ _ h=>h,P.out.ah a,P.nM,P.nD,P.nF,λb c=>⟨(P.nO b c).1,by have:=(P.nO b c).2.1;have:=a.size;omega,(P.nO b c).2.2⟩,P.nA,P.af.ah a,P.cl⟩
def FB.add(a:FB w wp most M0 D0 E s S b oa on oc Lo w1 M Db Fs Do){i n:Nat}(o:Row aM 8 w1 f d i m.aQ)(p:∀b,f b->b<w1.heap.size/\¬Fs b)(j:m.Ok)(y:S.l.length<=20000000):
  ZG 75 #[XL s,js m d i n] w1 (Ok λk w'=>k= XH (S.add m).1/\∃g,FB w wp most M0 D0 E s (S.add m).2 b oa on oc Lo w' M Db g Do/\ak Fs w1 w'/\∀b,g b->Fs b\/w1.heap.size<=b):=by
 refine(tB a.set o p j oM).mono ?_;rintro _ w2 ⟨k,rfl,rfl,l,q,c⟩;have r:=a.buf.Ni;have t:=a.buf.Ib;have z:=a.af.size;have e:∀b,b<w1.heap.size->¬Fs b->¬l b:=λb A u h=>(c.new b h).elim u oM;refine Ok.mk ⟨rfl,l,⟨a.buf.af c.af (λb P=>(a.nM b P).2) λb P=>(a.nD b P).2,q,λv x=>(a.Ma v x).af c.af λb P=>(a.nO b P).2.2.2,a.out.af c.af λb P=>(a.nA b P).2.2.1,λb P=>⟨(a.nM b P).1,e b (r b P) (a.nM b P).2⟩,λb P=>⟨(a.nD b P).1,e b (t b P).1 (a.nD b P).2⟩,
  λb P=>(c.new b P).elim (a.nF b) λY=>oM,λb P=>⟨(a.nO b P).1,by have:=(a.nO b P).2.1;have:=c.af.size;omega,(a.nO b P).2.2.1,e b (a.nO b P).2.1 (a.nO b P).2.2.2⟩,λb P=>⟨(a.nA b P).1,(a.nA b P).2.1,e b (a.out.aF b P) (a.nA b P).2.2.1,(a.nA b P).2.2.2⟩,a.af.new c.af λb P=>.inr (a.nF b P),a.cl.add j⟩,c.af,c.new⟩
def FB.push{t:Program}(c:FB w wp most M0 D0 E s S b oa on oc Lo w1 M Db Fs Do)(y:iH t g 55 oL.jB.k 96){d:Bx aj}(z:oL.In w1 f d)(e:∀b,f b->(E b\/D0 b\/w.heap.size<=b)/\b<w1.heap.size/\¬M b/\¬Fs b/\aI oa≠some b){A:Nat×Nat}(B:w1.heap[a]? =some (.cells (aD d.x d.a d.n d.c).toArray 55 A))(Q:Lo.length<=1000000){u C:XR}(q:∀l p w' r,FB w wp most M0 D0 E s S b l (on+1) p (Lo++[d]) w' M Db Fs r->ak (λb=>aI oa=some b) w1 w'->(∀b,aI l=some b->aI oa=some b\/w1.heap.size<=b)->u (.slice l (on+1) p) w'):
  aH t (Builtin.append_ #[g,g] o #[.slice oa on oc,.slice (XM a) 1 1]) w1 u C:=by
 refine ep (c:=oL.jB) (x:=d) (D:=λ_=>False) c.out y B ⟨rfl,trivial⟩ (λb P=>P.elim) ba (by unfold maxLen;omega) λl p w2 R v i F=>?_;have I:=v.alone;have x:∀b,aI l=some b->aI oa=some b\/w1.heap.size<=b:=λb P=>(F b (v.self b P)).imp id λh=>h.resolve_left id;have T:=i.size;have z1:=c.af.size;have J:=c.buf.Ni;have K:=c.buf.Ib;have L:=c.set.aF;have nA:=c.nA;refine q l p w2 (λb=>Do b\/f b) ⟨c.buf.af i (λb P j=>(nA b j).2.1 P) λb P j=>(nA b j).2.2.2.2 P,c.set.af i λb P j=>(nA b j).2.2.1 P,λN m=>?_,I,c.nM,c.nD,c.nF,λb P=>?_,λb P=>?_,c.af.new i λb P=>.inr (nA b P).1,c.cl⟩ i x
 ·rcases Q6.1 m with m|m
  ·exact((c.Ma N m).af i λb P j=>(nA b j).2.2.2.1 P).mono λb P=>.inl P
  ·simp at m;subst m
   exact(z.af i λb P=>(e b P).2.2.2.2).mono λb P=>.inr P
 ·rcases P with P|P
  ·exact⟨(c.nO b P).1,by have:=(c.nO b P).2.1;omega,(c.nO b P).2.2⟩
  ·exact⟨(e b P).1,by have:=(e b P).2.1;omega,(e b P).2.2.1,(e b P).2.2.2.1⟩
 ·rcases x b P with H|H
  ·exact⟨(nA b H).1,(nA b H).2.1,(nA b H).2.2.1,λn=>n.elim (nA b H).2.2.2.1 λO=>(e b O).2.2.2.2 H,(nA b H).2.2.2.2⟩
  ·exact⟨oM,λk=>by have:=J b k;omega,λk=>by have:=L b k;omega,λk=>k.elim (λn=>by have:=(c.nO b n).2.1;omega) λn=>by have:=(e b n).2.1;omega,λk=>by have:=(K b k).1;omega⟩
def FB.wait(P:FB w wp most M0 D0 E s S b oa on oc Lo w1 M Db Fs Do){k p:Nat}(q:Row aM 8 w1 f d k m.aQ)(r:∀b,f b->b<w1.heap.size)(t:m.Ok):
  ZG 159 #[XL wp,js m d k p] w1 (Ok λl w'=>∃u,l= .bool u/\∃h i,FB w wp most M0 D0 E s S (eX most b m).2 oa on oc Lo w' h i Fs Do/\ak M w1 w'):=by
 refine(IP P.buf q r t).mono ?_;rintro _ w2 ⟨l,rfl,rfl,h,v,x,g,j,n⟩;have o:=P.set.aF;have A:=P.af.size;have B:=g.size;refine Ok.mk ⟨_,rfl,h,v,⟨x,P.set.af g λb a e=>(P.nM b e).2 a,λy z=>(P.Ma y z).af g λb a=>(P.nO b a).2.2.1,P.out.af g λb a=>(P.nA b a).2.1,λb a=>?_,λb a=>?_,P.nF,λb a=>⟨(P.nO b a).1,by have:=(P.nO b a).2.1;omega,λe=>?_,(P.nO b a).2.2.2⟩,λb a=>⟨(P.nA b a).1,λe=>?_,(P.nA b a).2.2.1,(P.nA b a).2.2.2.1,λe=>?_⟩,?_,P.cl⟩,g⟩
 ·rcases j b a with c|c
  ·exact P.nM b c
  ·exact⟨.inr oM,λe=>by have:=o b e;omega⟩
 ·rcases n b a with c|c
  ·exact P.nD b c
  ·exact⟨.inr oM,λe=>by have:=o b e;omega⟩
 ·rcases j b e with c|c
  ·exact(P.nO b a).2.2.1 c
  ·have:=(P.nO b a).2.1;omega
 ·rcases j b e with c|c
  ·exact(P.nA b a).2.1 c
  ·have:=P.out.aF b a;omega
 ·rcases n b e with c|c
  ·exact(P.nA b a).2.2.2.2 c
  ·have:=P.out.aF b a;omega
 ·exact P.af.new g λb a=>(P.nM b a).1
def FB.ready(P:FB w wp most M0 D0 E s S b oa on oc Lo w1 M Db Fs Do)(j:S.l.length<=19000000):
  ZG 160 #[XL wp,XL s] w1 (Ok λi w'=>∃c f g e,i= .slice c f g/\aT oL.jB 55 (λb=>aI c=some b) w' c f g e/\e.map (·.x)=(bz S b).1/\(∀h∈e,oL.In w' Db h)/\(∀b,aI c=some b->w1.heap.size<=b)/\
   FB w wp most M0 D0 E s S (bz S b).2 oa on oc Lo w' M Db Fs Do/\ak M w1 w'):=by
 refine(Ec P.buf P.set P.cl j).mono ?_;rintro _ w2 ⟨i,rfl,c,f,g,e,rfl,k,l,m,n,o,d⟩;have r:=d.size;exact Ok.mk ⟨c,f,g,e,rfl,k,l,m,n,⟨o,P.set.af d λb a p=>(P.nM b p).2 a,λh q=>(P.Ma h q).af d λb a=>(P.nO b a).2.2.1,P.out.af d λb a=>(P.nA b a).2.1,P.nM,P.nD,P.nF,λb a=>⟨(P.nO b a).1,by have:=(P.nO b a).2.1;omega,(P.nO b a).2.2⟩,P.nA,P.af.new d λb a=>(P.nM b a).1,P.cl⟩,d⟩
end
section
variable {w w' w0 w1 w2:World} {p wp most s on oc:Nat} {F E T Z M0 D0 M Db Fs Do:XN} {cls:Nat->Nat} {h:iZ} {c:cD} {self:Int} {X:bI} {S:au} {b:List aj} {oa:ZH} {Lo:List (Bx aj)} {evs:List aj} {ea:ZH} {en ec:Nat}
def Bi(most:Nat)(P:List aj)(a:aj):(eX most P a).2.length<=P.length+1:=by
 unfold eX;split
 ·show P.length<=_;omega
 ·show(dw a P).length<=_
  rw[(dj a P).length_eq];simp
def Nh(L:cI w F cls p h c self X)(e4:kY c self)(hr:Row h_ 96 w E ea en evs)(A:∀b,E b->b<w.heap.size/\¬F b)(m3:evs.length<=1000)(hl:X.S.l.length<=18000000):
  ZG 98 #[XL p,.slice ea en ec] w (Ok λf1 w'=>∃oa on oc Lo U o Do,f1= .slice oa on oc/\aT oL.jB 55 (λb=>aI oa=some b) w' oa on oc Lo/\Lo.map (·.x)=(gW c X evs).1/\(∀P∈Lo,oL.In w' Do P)/\
   cI w' U o p h c self {X with waits:=(gW c X evs).2}/\cK F w U w'/\(∀b,Do b->b<w'.heap.size/\aI oa≠some b/\¬(U b/\o b=2))/\(∀b,aI oa=some b->w.heap.size<=b/\¬U b)/\(gW c X evs).1.length<=evs.length+256):=by
 obtain⟨m8,m9,n0⟩:=e4.br;have e5:=L.aF;have i6:=L.HO;obtain⟨hS,a0,hn⟩:=(show cC w h.sp (λb=>F b/\cls b=3) X.S/\X.S.Cl/\X.S.n=c.br.toNat from L.at' 3)
 obtain⟨M0,D0,t,c1,a1⟩:=(show MJ w (λb=>F b/\cls b=5) h.wp c.buffer.toNat X.waits from L.at' 5)
 have f3:X.waits.length<=256:=Xx t.1.2.le t.1.1;have n1:=hr.len;refine mr (PC.ok (HY (evs:=[]) L e4 (dN w (λ_=>False)) (λb d=>d.elim) bc) ?_);rintro _ w4 ⟨s,i7,rfl,i8,b1,k4⟩;have e6:d_ c X.S []=X.S:=(A_ a0 hn []).trans rfl;have z4:=k4.size;have i9:(d_ c X.S []).Cl:=by rw[e6];exact a0
 have j0:(d_ c X.S []).l.length=X.S.l.length:=by rw[e6]
 have j1:FB w h.wp c.buffer.toNat M0 D0 E s (d_ c X.S []) X.waits none 0 0 [] w4 M0 D0 i7 (λ_=>False):=by
  have j2:=t.Ni;have e7:=t.Ib;refine⟨t.ah k4,i8,sM,(aT.nil w4).mono (λb d=>d.elim) (λb d=>(by cases d)),λb d=>⟨.inl d,λj=>by have:=j2 b d;have:=b1 b j;omega⟩,λb d=>⟨.inl d,λj=>by have:=(e7 b d).1;have:=b1 b j;omega⟩,b1,λb d=>d.elim,λb d=>(by cases d),ai.af k4,i9⟩
 have B:∀{w1:World},ak M0 w w1->w1.heap[p]? =some (.cells (h.cells c self) 99 (0,0)):=λ{w1} hk=>hk.get L.bl λl=>by
  have:=(c1 p l).2;rw[i6.2]at this;cases this
 have e8:∀b,E b->¬M0 b:=λb d l=>(A b d).2 (c1 b l).1;obtain⟨C,e9⟩:∃C,C=eV c.buffer.toNat evs (d_ c X.S []) [] X.waits:=⟨_,rfl⟩
 have r:gW c X evs=qp (C.2.2.length+1) C.1 C.2.1 C.2.2:=by rw[e9];rfl
 refine⟨_,rfl,λH oa on oc I w'=>∃(e:Nat) (S:au) (b:List aj) (Lo:List (Bx aj)) (M Db Fs Do:XN),I=e/\e<=en/\H=en-e/\FB w h.wp c.buffer.toNat M0 D0 E s S b oa on oc Lo w' M Db Fs Do/\eV c.buffer.toNat (evs.drop e) S (Lo.map (·.x)) b=C/\S.l.length<=X.S.l.length+Lo.length/\Lo.length<=e/\b.length<=256/\Lo.length+b.length<=X.waits.length+e,
  ⟨_,0,_,_,_,_,_,_,_,rfl,Qj _,rfl,j1,e9.symm,by simp[j0],sM,f3,sM⟩,?_⟩
 rintro H oa on oc _ _ f2 ⟨e,S,b,Lo,M,Db,Fs,Do,rfl,hj,rfl,j,u,V,f5,b3,f4⟩;have j3:=j.af.size;have j4:=j.out.len dC;refine an.dec (λj5=>?_) (λj6=>?_)
 ·obtain⟨P,i⟩:∃P,evs[e]? =some P:=⟨_,Qq oM⟩
  have a8:evs.drop e=P::evs.drop (e+1):=by
   rw[X4 oM]
   congr 1
   exact(Qv.1 i).2
  rw[a8]at u;obtain⟨gb,go,es,ha,j7,n3,d2,xa,xn,xc,rfl,d3,b4⟩:=(hr.af j.af e8).el e P i;refine⟨gb,go,ha,oM,oM,bC (es:=aD P xa xn xc) (k:=10) (aZ _ _ _ _) rfl (λI ht=>by rw[Qx];exact d2 I ht) (PA.mk λn4 j8 n8 j9=>aB (aZ P xa xn xc) j9 rfl λk0 k1 n9 f6=>ar (aZ P xa xn xc) f6 ?_)⟩;have a2:ai f2 k0:=j8.new k1 λb d=>.inr (by have d:b=f2.heap.size:=d;omega);have o0:=a2.size;have d4:∀b,E b->¬Fs b:=λb d l=>by have:=j.nF b l;have:=(A b d).1;omega
  refine PC.ok ((j.ah a2).add (d3.ah a2) (λb d=>⟨by have:=(A b d).1;omega,d4 b d⟩) b4 oM) ?_;rintro _ k2 ⟨rfl,N,J,a5,m4⟩;have o1:=a5.size;have b5:=j.set.aF;have v:=a5.get f6 λl=>by have:=b5 _ l;omega
  have f7:=S.yx P;have f8:eV c.buffer.toNat (P::evs.drop (e+1)) S (Lo.map (·.x)) b=if(S.add P).1=0 then eV c.buffer.toNat (evs.drop (e+1)) (S.add P).2 (Lo.map (·.x)++[P]) b else if(S.add P).1=16 then eV c.buffer.toNat (evs.drop (e+1)) S (Lo.map (·.x)) b else eV c.buffer.toNat (evs.drop (e+1)) S (Lo.map (·.x)) (eX c.buffer.toNat b P).2:=rfl
  rw[f8]at u;have a9:(S.add P).1≠0->(S.add P).2=S:=λW=>by
   rcases S.gg P with⟨-,f⟩|⟨f,-⟩
   ·exact f
   ·rw[f]at W;exact Zz rfl W
  refine⟨_,rfl,an.dO (λq=>?_) (λq=>an.dO (λd5=>?_) (λd5=>λk3 k5=>?_))⟩
  ·rw[Zx q]at u
   have c4:(S.add P).2.l.length<=S.l.length+1:=f7;refine⟨_,_,_,_,_,_,_,_,_,_,_,_,ae v rfl,ae v rfl,ae v rfl,ae v rfl,ae v rfl,ae v rfl,ae v rfl,ae v rfl,ae v rfl,ae v rfl,PA.mk λk6 d6 o2 k7=>?_⟩;have g0:oL.In k6 E ⟨P,xa,xn,xc⟩:=⟨((d3.ah a2).af a5 λb d=>d4 b d).ah d6,b4⟩
   have g1:=J.ah d6;refine g1.push vk g0 (λb d=>⟨.inl d,by have:=(A b d).1;have:=d6.size;omega,λl=>?_,λl=>by have:=J.nF b l;have:=(A b d).1;omega,λn=>by have:=(J.nA b n).1;have:=(A b d).1;omega⟩) k7 oM λa' c' o3 O g2 m5 _=>⟨_,_,_,rfl,_,oM,e+1,_,_,_,M,Db,N,O,aq oM,oM,rfl,g2,?_,?_,?_,b3,?_⟩
   ·rcases(J.nM b l).1 with f|f
    ·exact e8 b d f
    ·have:=(A b d).1;omega
   ·rw[Q3];exact u
   ·rw[QX,List.length_singleton];omega
   ·rw[QX,List.length_singleton];omega
   ·rw[QX,List.length_singleton];omega
  ·rw[Zq q,Zx d5]at u
   rw[a9 q]at J;exact⟨_,oM,e+1,S,b,Lo,M,Db,N,Do,aq oM,oM,rfl,J,u,V,oM,b3,oM⟩
  ·rw[Zq q,Zq d5]at u
   rw[a9 q]at J;have c5:ai k2 k3:=k5.af;have c9:=J.ah c5;refine⟨p,0,rfl,_,ae (B c9.af) rfl,ar (aZ P xa xn xc) (c5.get v id) (PC.ok (c9.wait (((d3.ah a2).af a5 λb d=>d4 b d).ah c5) (λb d=>by have:=(A b d).1;have:=c5.size;omega) b4) ?_)⟩;rintro _ o4 ⟨I,rfl,M',b6,b7,m6⟩;have d7:=Bi c.buffer.toNat b P;have g3:(eX c.buffer.toNat b P).2.length<=256:=Xx b7.buf.1.2.le b7.buf.1.1;exact⟨_,rfl,_,oM,e+1,S,_,Lo,M',b6,N,Do,aq oM,oM,rfl,b7,u,V,oM,g3,oM⟩
 have o5:e=evs.length:=oM
 rw[List.drop_eq_nil_of_le oM]at u;have d0:C=(S,Lo.map (·.x),b):=u.symm;rw[d0]at r;have b8:Lo.length+b.length<=evs.length+256:=oM
 refine⟨λH oa on oc w'=>∃(S:au) (b:List aj) (Lo:List (Bx aj)) (M Db Fs Do:XN) (k:Nat),H=b.length/\FB w h.wp c.buffer.toNat M0 D0 E s S b oa on oc Lo w' M Db Fs Do/\b.length<=k/\qp (k+1) S (Lo.map (·.x)) b=gW c X evs/\S.l.length<=X.S.l.length+Lo.length/\Lo.length+b.length<=evs.length+256,
  ⟨_,S,b,Lo,M,Db,Fs,Do,b.length,rfl,j,Q4 _,r.symm,V,b8⟩,?_⟩
 clear j u V f5 b3 f4 b8 j4 j3 d0 r
 rintro H oa on oc _ o6 ⟨S,b,Lo,M,Db,Fs,Do,k,rfl,j,hk,r,V,f4⟩;have o7:=j.af.size;refine⟨p,0,rfl,_,ae (B j.af) rfl,PC.ok (j.ready oM) ?_⟩;rintro _ o8 ⟨Y,n2,f9,Z,rfl,g4,d8,k8,g5,m,g6⟩;have o9:=g4.len dC;have d7:=uY S b;have g7:Z.length=(bz S b).1.length:=by rw[<-d8,Q8]
 have k9:qp (k+1) S (Lo.map (·.x)) b=if(bz S b).1=[]then(Lo.map (·.x),(bz S b).2)else qp k (eN (bz S b).1 S (Lo.map (·.x))).1 (eN (bz S b).1 S (Lo.map (·.x))).2 (bz S b).2:=rfl
 rw[k9]at r;have p0:=g6.size;refine⟨_,_,_,rfl,an.dO (λq=>?_) (λq=>?_)⟩
 ·have g8:(bz S b).1=[]:=QW oM
  rw[Zx g8]at r;rw[<-r];have hM:=m.buf.Ni;have l0:=m.buf.Ib;obtain⟨U,o,b9,a3,l3,c2,-⟩:=L.eE bM (k:=5) (G':=λb=>M b\/Db b) (C2:=kM p (h.cells c self) h c {X with waits:=(bz S b).2} X.S.l) (m.af.mono λb _ d=>c1 b d)
   (λP i=>i.elim (λf=>(m.nM P f).1.imp (c1 P) id) λf=>(m.nD P f).1.imp (a1 P) id) (λP i=>i.elim (hM P) λf=>(l0 P f).1) ⟨M,Db,m.buf,λ_ h=>.inl h,λ_ h=>.inr h⟩ λe G hj hc=>by
    rcases e with _|_|_|_|_|_|_|e<;>first|exact hc|exact Zz rfl hj
  refine Ok.mk ⟨oa,on,oc,Lo,U,o,Do,rfl,m.out,rfl,m.Ma,b9,a3,λP i=>⟨(m.nO P i).2.1,λn=>(m.nA P n).2.2.2.1 i,λQ=>?_⟩,λP i=>⟨(m.nA P i).1,λQ=>?_⟩,by rw[Q8];omega⟩
  ·have d9:F P/\cls P=2:=by
    have:=congrFun (c2 2 dC) P;exact this▸Q
   rcases(m.nO P i).1 with f|f|f
   ·exact(A P f).2 d9.1
   ·have:=(a1 P f).2;rw[d9.2]at this;cases this
   ·have:=e5 P d9.1;omega
  ·rcases l3 P Q with f|f
   ·have:=e5 P f.1;have:=(m.nA P i).1;omega
   ·exact f.elim (m.nA P i).2.1 (m.nA P i).2.2.2.2
 ·have W:(bz S b).1≠[]:=λn=>by rw[n,ZQ]at g7;omega
  rw[Zq W]at r;obtain⟨k',rfl⟩:∃k',k=k'+1:=⟨k-1,by
   have:0<b.length:=by
    have:=List.length_pos_iff.2 W;omega
   omega⟩
  obtain⟨av,e0⟩:∃av,av=eN (bz S b).1 S (Lo.map (·.x)):=⟨_,rfl⟩
  rw[<-e0]at r;have g9:Lo.length+Z.length+(bz S b).2.length<=evs.length+256:=oM
  obtain⟨b2,b3⟩:∃b2,b2=(bz S b).2:=⟨_,rfl⟩
  rw[<-b3]at r m g9 d7;have e7:=m.buf.Ib;obtain⟨x,hR⟩:∃x,x=(bz S b).1:=⟨_,rfl⟩
  rw[<-hR]at d8 g7 d7 e0;have h0:∀a,aI Y=some a->¬Fs a/\aI oa≠some a:=λa g=>by
   have f:=g5 a g;exact⟨λl=>by have:=j.set.aF a l;omega,λn=>by have:=j.out.aF a n;omega⟩
  have p1:∀a,aI Y=some a->¬Db a:=λa g l=>by
   have f:=g5 a g;have h6:=(j.buf.Ib a l).1;omega
  refine⟨λH oa on oc I w'=>∃(e:Nat) (S:au) (Lo:List (Bx aj)) (Fs Do:XN),I=e/\e<=n2/\H=n2-e/\FB w h.wp c.buffer.toNat M0 D0 E s S b2 oa on oc Lo w' M Db Fs Do/\eN (x.drop e) S (Lo.map (·.x))=av/\S.l.length<=X.S.l.length+Lo.length/\Lo.length+(n2-e)+b2.length<=evs.length+256/\aT oL.jB 55 (λb=>aI Y=some b) w' Y n2 f9 Z/\(∀P∈Z,oL.In w' Db P)/\∀a,aI Y=some a->¬Fs a/\aI oa≠some a,
   ⟨_,0,S,Lo,Fs,Do,rfl,Qj _,rfl,m,e0.symm,V,oM,g4,k8,h0⟩,?_⟩
  rintro H c3 h1 h5 _ _ h2 ⟨e,y,b0,l4,h3,rfl,hj,rfl,K,R,l5,b8,c4,h4,e2⟩;have p2:=K.af.size;have m7:=K.out.len dC;refine an.dec (λj5=>?_) (λj6=>?_)
  ·obtain⟨P,i⟩:∃P,Z[e]? =some P:=⟨_,Qq oM⟩
   have h7:x[e]? =some P.x:=by rw[<-d8,Q9,i];rfl
   have a8:x.drop e=P.x::x.drop (e+1):=by
    rw[X4 (Qv.1 h7).1]
    congr 1
    exact(Qv.1 h7).2
   have h8:eN (P.x::x.drop (e+1)) y (b0.map (·.x))=if(y.add P.x).1=0 then eN (x.drop (e+1)) (y.add P.x).2 (b0.map (·.x)++[P.x])else eN (x.drop (e+1)) (y.add P.x).2 (b0.map (·.x)):=rfl
   rw[a8,h8]at R;have d1:=h4 P (QZ i);obtain⟨gb,go,es,ha,j7,p3,d2,rfl,-⟩:=(c4.row (bytes:=96) dC ba).el e P i;refine⟨gb,go,ha,oM,oM,bC (es:=aD P.x P.a P.n P.c) (k:=10) (aZ _ _ _ _) rfl (λI ht=>by rw[Qx];exact d2 I ht) (PA.mk λp4 l6 p5 l7=>aB (aZ P.x P.a P.n P.c) l7 rfl λl8 l9 p6 h9=>ar (aZ P.x P.a P.n P.c) h9 ?_)⟩;have a4:ai h2 l8:=l6.new l9 λb d=>.inr (by have d:b=h2.heap.size:=d;omega);have p7:=a4.size;have m0:=K.buf.Ib;have i0:=c4.aF;refine PC.ok ((K.ah a4).add (d1.af a4 λ_ _ h=>h).1 (λa g=>⟨by have:=(m0 a g).1;omega,(K.nD a g).2⟩) d1.2 oM) ?_;rintro _ m1 ⟨rfl,e3,T,a6,i1⟩;have p8:=a6.size;have b5:=K.set.aF;have z:=a6.get h9 λl=>by have:=b5 _ l;omega
   have f7:=y.yx P.x;have c6:=(c4.ah a4).af a6 λa g=>(e2 a g).1;have c7:∀a∈Z,oL.In m1 Db a:=λa g=>((h4 a g).af a4 λ_ _ h=>h).af a6 λc8 Q=>(K.nD c8 Q).2;have a7:∀a,aI Y=some a->¬e3 a/\aI c3≠some a:=λa g=>⟨λl=>(i1 a l).elim (e2 a g).1 λf=>by have:=i0 a g;omega,(e2 a g).2⟩
   refine⟨_,rfl,an.dO (λq=>?_) (λq=>?_)⟩
   ·rw[Zx q]at R
    refine⟨_,_,_,_,_,_,_,_,_,_,_,_,ae z rfl,ae z rfl,ae z rfl,ae z rfl,ae z rfl,ae z rfl,ae z rfl,ae z rfl,ae z rfl,ae z rfl,PA.mk λp9 c0 q0 m2=>?_⟩;have i2:=T.ah c0;have e1:=T.buf.Ib;have q1:=c0.size;refine i2.push vk ((c7 P (QZ i)).af c0 λ_ _ h=>h) (λa g=>⟨.inr (T.nD a g).1,by have:=(e1 a g).1;omega,(e1 a g).2,(T.nD a g).2,λn=>(T.nA a n).2.2.2.2 g⟩) m2 oM λa' c' q2 O i3 f0 i4=>⟨_,_,_,rfl,_,oM,e+1,_,_,e3,O,aq oM,oM,rfl,i3,?_,?_,?_,(c6.ah c0).af f0 λa g n=>(a7 a g).2 n,λa g=>((c7 a g).af c0 λ_ _ h=>h).af f0 λc8 Q n=>(T.nA c8 n).2.2.2.2 Q,λa g=>⟨(a7 a g).1,λn=>?_⟩⟩
    ·rw[Q3];exact R
    ·rw[QX,List.length_singleton];omega
    ·rw[QX,List.length_singleton];omega
    ·rcases i4 a n with f|f
     ·exact(a7 a g).2 f
     ·have:=c6.aF a g;omega
   ·rw[Zq q]at R
    have a9:(y.add P.x).2.l.length<=y.l.length:=by
     rcases y.gg P.x with⟨-,f⟩|⟨f,-⟩
     ·rw[f];exact Q4 _
     ·rw[f]at q;exact Zz rfl q
    exact⟨_,oM,e+1,_,b0,e3,h3,aq oM,oM,rfl,T,R,oM,oM,c6,c7,a7⟩
  ·rw[List.drop_eq_nil_of_le oM]at R
   have i5:av=(y,b0.map (·.x)):=R.symm;rw[i5]at r;have q3:0<x.length:=by have:=List.length_pos_iff.2 W;rw[<-hR]at this;exact this
   exact⟨b2.length,oM,y,b2,b0,M,Db,l4,h3,k',rfl,K,oM,r,l5,oM⟩
end
section
variable {w w' w0 w1 w2:World} {p:Nat} {F E Dv:XN} {cls:Nat->Nat} {h:iZ} {c:cD} {self:Int} {X:bI} {m:c_} {va ea:ZH} {vn vc en ec:Nat}
def Ng(hr:bE w p F c self X)(he:Env w0 w F){V:cY}(a6:X.log=some V)(c3:Row h_ 96 w E ea en m.events)(N:∀P,E P->P<w.heap.size/\¬F P)(a7:m.events.length<=1000)(hl:X.S.l.length<=18000000):
  ZG 46 #[XL p,jm m va vn vc ea en ec] w (Ok λa5 w'=>∃O e,a5= .tuple #[O,XH (jq c self X m).2.1]/\eM w e (jq c self X m).1 O w'/\bE w' p e c self (jq c self X m).2.2/\cK F w e w'):=by
 obtain⟨g,h,cls,Q⟩:=hr;have R:=Q.aF;refine mq (PA.mk λS q s8 T=>?_);obtain⟨a,U⟩:∃a,a=gW c X m.events:=⟨_,rfl⟩
 have y:∀{z},(if a.1=[]then([wv X.S self m.bP],0,{X with waits:=a.2})else
   if(ef c {X with waits:=a.2} a.1).1≠0 then([],(ef c {X with waits:=a.2} a.1).1,{(ef c {X with waits:=a.2} a.1).2 with waits:=[]})else([wv (ef c {X with waits:=a.2} a.1).2.S self m.bP],0,(ef c {X with waits:=a.2} a.1).2))=z->jq c self X m=z:=λ{z} d=>by rw[<-d,U];rfl
 refine⟨λw'=>∃e f,bE w' p e c self f/\cK F w e w'/\(∀P,e P->F P\/S.heap.size<=P)/\w'.heap[w.heap.size]? =some (.cells (bS m va vn vc ea en ec).toArray 60 (0,0))/\jq c self X m=([wv f.S self m.bP],0,f),?_,?_⟩
 ·refine⟨_,_,_,ae T rfl,PC.ok (Nh (cI.ah Q q) g (c3.ah q) (λP b=>⟨by have:=(N P b).1;omega,(N P b).2⟩) a7 hl) ?_⟩
  rw[<-U];rintro _ W ⟨Y,on,oc,Lo,A,b0,Do,rfl,B,Z,c4,b2,i,r,c5,e0⟩;have hn:=B.len dC;have c6:Lo.length=a.1.length:=by rw[<-Z,Q8]
  have b3:=eI.unbox B c4 λP b=>⟨(r P b).1,(r P b).2.1⟩
  rw[QR,Z]at b3;have b4:Row h_ 96 W (λP=>aI Y=some P\/Do P) Y on a.1:=b3.row dC ba;have C:cK F w A W:=⟨(ai.af q).then i.af,λP b=>(i.new P b).imp id λh1=>oM⟩
  have H:∀P,A P->F P\/S.heap.size<=P:=i.new;have b5:=i.af.get T λd=>by have:=R _ d;omega
  have c7:=(he.ah q).Bz i;refine⟨_,_,_,rfl,an.dec (λd9=>?_) (λhz=>?_)⟩
  rotate_left
  ·have b6:a.1=[]:=QW oM
   exact⟨A,{X with waits:=a.2},⟨g,h,b0,b2⟩,C,H,b5,y (Zx b6)⟩
  have b7:a.1≠[]:=λs=>by rw[s,ZQ]at c6;omega
  refine PC.ok (HP b2 g c7 (V:=V) a6 b4 (λP b=>b.elim (λs=>⟨B.aF P s,λd=>(c5 P s).2 d.1⟩) λd=>⟨(r P d).1,(r P d).2.2⟩) (by show X.S.l.length+_<=_;omega)) ?_;rintro _ c8 ⟨rfl,k,F2,a1,t,I,-⟩;have a0:=C.trans I;have e1:=C.af.size;refine⟨_,rfl,an.dI (λb8=>?_) (λh0=>?_)⟩
  ·obtain⟨a2,Db,b,hM,hD⟩:=(show MJ c8 (λP=>F2 P/\a1 P=5) k.wp c.buffer.toNat (ef c {X with waits:=a.2} a.1).2.waits from t.at' 5)
   refine⟨p,0,rfl,_,ae (t.at' 0).2 rfl,PC.ok (tA b) ?_⟩;rintro _ e2 ⟨rfl,a3,c9⟩;obtain⟨F3,l,J,n,-⟩:=t.Bz bM (k:=5) (G':=a2) (C2:=kM p (k.cells c self) k c {(ef c {X with waits:=a.2} a.1).2 with waits:=[]} (ef c {X with waits:=a.2} a.1).2.S.l) ⟨c9.mono λP _ b=>hM P b,λP b=>.inl (hM P b)⟩ a3.Ni ⟨a2,_,a3,λ_ h=>h,λP b=>b.elim⟩ λa4 G hj hc=>by
    rcases a4 with _|_|_|_|_|_|_|a4<;>first|exact hc|exact Zz rfl hj
   refine⟨rfl,Ok.mk ?_⟩;rw[y ((Zq b7).trans (Zx b8))];exact⟨_,F3,rfl,eM.nil _ _ _,⟨g,k,l,J⟩,a0.trans n⟩
  ·refine⟨F2,(ef c {X with waits:=a.2} a.1).2,⟨g,k,a1,t⟩,a0,λP b=>(I.new P b).elim (H P) λK=>.inr (by have:=i.af.size;omega),I.af.get b5 λd=>?_,y ((Zq b7).trans (Zq (by simpa using h0)))⟩
   rcases H _ d with K|K
   ·have:=R _ K;omega
   ·omega
 ·rintro _ d0 ⟨e,f,d1,L,e3,d2,d3⟩ b9 d4
  obtain⟨-,h',o,M⟩:=d1;have u:ai d0 b9:=d4.af;have j:=cI.ah M u;refine⟨p,0,rfl,_,ae j.bl rfl,p,0,rfl,_,ae j.bl rfl,_,ae (u.get d2 id) rfl,PC.ok (HG (j.at' 3).1) ?_⟩;rintro _ d5 ⟨a8,n2,c2,G,rfl,c0,hG,v⟩;have c1:=c0.aF;have e4:=L.af.size;have z2:=u.size;have d6:=v.size;refine⟨_,_,_,_,_,_,_,_,_,rfl,PA.mk λd7 x e5 d8=>?_⟩;have hm:bh b9 [wv f.S self m.bP] (.slice (XM d5.heap.size) 1 1) d7:=bh.one (D:=G) d8 ⟨(c0.ah x).row dC (by show f.S.vec.length*8<=aO;rw[f.S.bN];have:f.S.n<=64:=(j.at' 3).1.1.n;unfold aO;omega),dN _ _⟩ (λP b=>⟨hG P b,by have:=c1 P b;omega,by have:=c1 P b;omega⟩) d6 (v.then x);rw[d3];exact Ok.mk ⟨_,e,rfl,hm.out j.aF oM,⟨g,h',o,cI.ah j (v.then x)⟩,((L.af.ah u).ah v).ah x,L.new⟩
end
section
variable {w w' w0 w1 w2:World} {p:Nat} {F E Dv:XN} {cls:Nat->Nat} {h:iZ} {c:cD} {self:Int} {X:bI} {m:c_} {va ea:ZH} {vn vc en ec:Nat}
def kY.Aw(P:kY c self):1<=c.chunk/\c.chunk<=32:=by
 have:=P.right;unfold gX within at this;simp only[QK,Zk]at this;omega
def kZ(hr:bE w p F c self X)(he:Env w0 w F)(V:Row aM 8 w Dv va vn m.vec)(f2:∀P,Dv P->P<w.heap.size/\¬F P)(c7:Row h_ 96 w E ea en m.events)(hE:∀P,E P->P<w.heap.size/\¬F P)(hl:X.S.l.length<=18000000):
  ZG 17 #[XL p,jm m va vn vc ea en ec] w (Ok λW w'=>∃q f,W= .tuple #[q,XH (bA c self X m).2.1]/\eM w f (bA c self X m).1 q w'/\bE w' p f c self (bA c self X m).2.2/\cK F w f w'):=by
 have b0:=hr;obtain⟨x,h,cls,g⟩:=hr;have I:=g.aF;obtain⟨f3,h7,h9⟩:=x.br;have i0:=x.Aw;refine kH (PA.mk λw8 Y s8 g8=>?_);have h8:=cI.ah g Y;have no:∀{w1:World} {i:Int},ai w w1->bA c self X m=([],i,X)->Ok (λW w'=>∃q f,W= .tuple #[q,XH (bA c self X m).2.1]/\eM w f (bA c self X m).1 q w'/\bE w' p f c self (bA c self X m).2.2/\cK F w f w') (.returned (.tuple #[.slice none 0 0,XH i])) w1:=λ{w1 i} J Z=>by
  rw[Z];exact Ok.mk ⟨_,F,rfl,eM.nil _ _ _,b0.ah J,ai.af J,λP a=>.inl a⟩
 refine⟨p,0,rfl,_,ae h8.bl rfl,fm Tryz.underlying95 ⟨_,rfl,?_⟩⟩;have c8:DL w (λP=>F P/\cls P=2) h.dp h.lp X.D X.log:=g.at' 2
 cases y:X.log with
 |none=>
  obtain⟨Fd,-,-,j⟩:=c8;rw[y]at j;have j:h.lp=none:=j;rw[j];exact an.tt rfl (no Y (by unfold bA;rw[y]))
 |some a8=>
 obtain⟨a9,a0,a6,-⟩:=DL.Nf (y▸c8) (he.sub λP a=>a.1) λP a=>I P a.1;have K:∀{r},(if eC m c.br.toNat c.chunk≠0 then([],eC m c.br.toNat c.chunk,X)else if m.oN≠self then([],1,X)else if m.kind=3 then jq c self X m else
   if m.kind≠4 then(lk X.S self m c.chunk,0,{X with fI:=X.fI.yt m.bP m.vec X.S.vec})else
   if X.S.missing m.vec c.chunk=[]then([],0,{X with fI:=X.fI.yt m.bP m.vec X.S.vec})else([⟨3,self,m.bP,[],X.S.missing m.vec c.chunk⟩],0,{X with fI:=X.fI.yt m.bP m.vec X.S.vec}))=r->bA c self X m=r:=λ{r} l=>by rw[<-l];unfold bA;rw[y]
 rw[a0];refine an.ff rfl λf4 c9=>?_;have L:ai w f4:=Y.then c9.af;have d0:=cI.ah g L;have d1:=(c9.af (S:=λ_=>False)).get g8 id;refine ar (iS m va vn vc ea en ec) d1 ⟨p,0,rfl,_,ae d0.bl rfl,p,0,rfl,_,ae d0.bl rfl,?_⟩;rw[f3];refine PC.ok (MX (V.ah L) (c7.ah L) oM) ?_;rintro _ i1 ⟨rfl,d2⟩;have a1:=L.then d2;have f6:=cI.ah g a1;have d3:=d2.get d1 id;refine⟨_,rfl,an.dI (λs=>no a1 (K (Zx s))) (λs=>⟨_,ae d3 rfl,p,0,rfl,_,ae f6.bl rfl,λf7 d4=>?_⟩)⟩;have k:ai w f7:=a1.then d4.af;have i2:=cI.ah g k;have b8:=(d4.af (S:=λ_=>False)).get d3 id;have b9:¬eC m c.br.toNat c.chunk≠0:=by simpa using s
 refine an.dI (λM=>no k (K ((Zq b9).trans (Zx M)))) (λM=>⟨_,ae b8 rfl,an.dO (λj=>?_) (λj=>λd5 d6=>?_)⟩)
 ·have Z:=K (((Zq b9).trans (Zq (by simpa using M))).trans (Zx j))
  have d7:m.events.length<=1000:=by
   have d:=s;unfold eC at d;simp only at d;rw[Zx j]at d;split at d
   ·cases d
   ·unfold eB at d
    split at d
    ·cases d
    split at d
    ·cases d
    ·omega
  refine ar (iS m va vn vc ea en ec) b8 (PC.ok (Ng (b0.ah k) (he.ah k) y (c7.ah k) (λP a=>⟨by have:=(hE P a).1;have:=k.size;omega,(hE P a).2⟩) d7 hl) ?_);rintro _ i3 ⟨q,f,rfl,b1,g0,b2⟩;have g1:=b1;obtain⟨a2,n2,c2,a7,D,rfl,o2,o3,o4,o5,o6⟩:=b1;refine⟨_,_,_,_,rfl,Ok.mk ?_⟩;have f0:=k.size;rw[Z];exact⟨_,f,rfl,⟨a2,n2,c2,a7,D,rfl,o2,o3,o4,λP a=>⟨by have:=(o5 P a).1;omega,(o5 P a).2⟩,λP a=>⟨by have:=(o6 P a).1;omega,(o6 P a).2⟩⟩,g0,(ai.af k).then b2.af,λP a=>(b2.new P a).imp id λd=>oM⟩
 ·have c0:ai w d5:=k.then d6.af
  have N:=cI.ah g c0;have c1:=(d6.af (S:=λ_=>False)).get b8 id;have d8:dQ d5 h.tp (λP=>F P/\cls P=6) X.fI:=N.at' 6;have fj:=(N.at' 3).1;have nS:¬(F p/\cls p=6):=λi=>by have:=i.2;rw[g.HO.2]at this;cases this
  have d9:¬(F w.heap.size/\cls w.heap.size=6):=λi=>by have:=I _ i.1;omega
  refine⟨λP=>F P/\cls P=6,p,0,rfl,nS,_,ae N.bl rfl,d9,_,ae c1 rfl,d9,_,_,_,ae c1 rfl,p,0,rfl,_,ae N.bl rfl,PC.ok (kO fj) ?_⟩;rintro _ g2 ⟨a2,n2,c2,G,rfl,e0,z,hG⟩;have hN:X.S.n<=64:=fj.1.n;have g3:Row aM 8 g2 G a2 n2 X.S.vec:=e0.row dC (by rw[X.S.bN];unfold aO;omega);have i4:=c0.size;have i5:=z.size;have A:=c0.then z;refine⟨_,_,_,rfl,ai.af z,PC.ok (HQ (d8.ah z) ((V.ah A).sq) g3.sq λ_=>dh.2 λP a l=>?_) ?_⟩
  ·have:=hG P (e0.self P a);have:=I P l.1;omega
  rintro _ c4 ⟨G6,rfl,a3,b3⟩;obtain⟨O,e,B,b,-⟩:=(cI.ah g A).Bz bM (k:=6) (G':=G6) (C2:=kM p (h.cells c self) h c {X with fI:=X.fI.yt m.bP m.vec X.S.vec} X.S.l) b3 a3.aF a3 λa4 G hj s=>by
   rcases a4 with _|_|_|_|_|_|_|a4<;>first|exact s|exact Zz rfl hj
  have n:cK F w O c4:=⟨(ai.af A).then b.af,λP a=>(b.new P a).imp id λd=>by have:=A.size;omega⟩
  have Q:=b.af.get (z.get c1 id) λl=>by have:=I _ l;omega
  have b4:=(V.ah A).af b.af λP a=>(f2 P a).2;have i6:=n.af.size;have c5:=λ{r} l=>K (r:=r) (((Zq b9).trans (Zq (by simpa using M))).trans ((Zq j).trans l));refine⟨_,rfl,b3.af,_,ae Q rfl,an.dI (λR=>λe1 g4=>?_) (λR=>λe2 g5=>?_)⟩
  ·have C:ai c4 e1:=g4.af
   have t:=cI.ah B C;have i7:=C.size;refine⟨p,0,rfl,_,ae t.bl rfl,p,0,rfl,_,ae t.bl rfl,ar (iS m va vn vc ea en ec) (C.get Q id) ⟨p,0,rfl,_,ae t.bl rfl,PC.ok (HR (t.at' 3).1 (show X.S.l.length<=20000000 by omega) (b4.ah C)) ?_⟩⟩;rintro _ g6 c6;obtain⟨a5,S,c3,rfl⟩:=c6.sl;have b5:ai e1 g6:=by obtain⟨_,_,_,_,_,_,_,_,_,_,_,J⟩:=c6;exact J
   refine⟨_,_,_,rfl,Ok.mk ?_⟩;rw[c5 (Zx R)];exact⟨_,O,rfl,c6.out t.aF oM,⟨x,h,e,cI.ah t b5⟩,(n.af.ah C).ah b5,n.new⟩
  ·have o:ai c4 e2:=g5.af
   have H:=cI.ah B o;have i8:=o.size;refine⟨p,0,rfl,_,ae H.bl rfl,_,_,_,ae (o.get Q id) rfl,p,0,rfl,_,ae H.bl rfl,PC.ok (xm (H.at' 3).1 (by show X.S.l.length<=_;omega) (b4.ah o)) ?_⟩;rintro _ e3 ⟨a5,S,c3,G3,rfl,T,u,g7⟩;have e4:=T.len dC;have b6:=T.aF;have e5:=cI.ah H u;have i9:=u.size;have d7:(X.S.missing m.vec c.chunk).length<=32:=by
    unfold au.missing;rw[Qy];omega
   change aT h_ 55 G3 e3 a5 S c3 (X.S.missing m.vec c.chunk)at T
   refine⟨_,_,_,rfl,an.dec (λh6=>λe6 g9=>?_) (λhz=>Ok.mk ?_)⟩
   ·have e7:X.S.missing m.vec c.chunk≠[]:=λi=>by
     have b7:S=(X.S.missing m.vec c.chunk).length:=e4;rw[i,ZQ]at b7;omega
    have v:ai e3 e6:=g9.af;have e8:=cI.ah e5 v;have j0:=v.size;refine⟨p,0,rfl,_,ae e8.bl rfl,_,ae (v.get (u.get (o.get Q id) id) id) rfl,PA.mk λh0 U j1 h2=>Ok.mk ?_⟩;have hm:bh e2 [⟨3,self,m.bP,[],X.S.missing m.vec c.chunk⟩] (.slice (XM e6.heap.size) 1 1) h0:=bh.one (m:=⟨3,self,m.bP,[],X.S.missing m.vec c.chunk⟩) (va:=none) (vn:=0) (vc:=0) (D:=G3) h2 ⟨dN _ _,((T.ah v).ah U).row dC ba⟩ (λP a=>⟨g7 P a,by have:=b6 P a;omega,by have:=b6 P a;omega⟩) oM ((u.then v).then U);rw[c5 ((Zq (by simpa using R)).trans (Zq e7))];exact⟨_,O,rfl,hm.out H.aF oM,⟨x,h,e,cI.ah e8 U⟩,(((n.af.ah o).ah u).ah v).ah U,n.new⟩
   ·have e9:X.S.missing m.vec c.chunk=[]:=QW (by
     have b7:S=(X.S.missing m.vec c.chunk).length:=e4;omega)
    rw[c5 ((Zq (by simpa using R)).trans (Zx e9))];exact⟨_,O,rfl,eM.nil _ _ _,⟨x,h,e,e5⟩,(n.af.ah o).ah u,n.new⟩
end
variable{e:Int}
section
variable {w w' w0 w1 w2:World} {p:Nat} {F E Dv:XN} {cls:Nat->Nat} {h:iZ} {c:cD} {self:Int} {X:bI}
def MK(O:bE w p F c self X)(t:Env w0 w F)(Q:aN e):
  ZG 25 #[XL p,XH e] w (Ok λR w'=>∃r,R= XH (Az c X e).1/\bE w' p r c self (Az c X e).2/\cK F w r w'/\(Az c X e).2.S.l.length<=16777216):=by
 obtain⟨B,h,cls,s⟩:=O;have b8:=s.aF;have b9:=s.HO;have u:bD w F cls (recC p (wA h c self h.lp (XM h.sp) (XM h.bp)) {h with lp:=none} c {X with log:=none} false):=
  ⟨λk=>by
   have f:=s.at' k;rcases k with _|_|_|_|_|_|_|k<;>first|exact f|trivial|(intro S;cases S)|(obtain⟨Fd,i,v,T⟩:=f;exact⟨Fd,i,v,rfl⟩),s.aF⟩
 obtain⟨Fd,U,n,-⟩:=(show DL w (λP=>F P/\cls P=2) h.dp none X.D none from u.at' 2)
 refine mj ⟨p,0,rfl,_,ae (u.at' 0).2 rfl,PC.ok (Jw U Q) ?_⟩;rintro _ V ⟨C,rfl,E,H⟩;obtain⟨W,Y,x,o,-⟩:=u.Bz gq (k:=2) (G':=C) (C2:=recC p (wA h c self h.lp (XM h.sp) (XM h.bp)) {h with lp:=none} c {X with log:=none,D:=X.D.Ah e} false) ⟨H.af.mono λP _ a=>n P a,λP a=>(H.new P a).imp (n P) id⟩ (λP a=>E.aF P a) ⟨C,E,λP a=>a,rfl⟩ λb G j f=>by
  rcases b with _|_|_|_|_|_|_|b<;>first|exact f|exact Zz rfl j
 obtain⟨I,Db,a,J,hD⟩:=(show MJ V (λP=>W P/\Y P=5) h.wp c.buffer.toNat X.waits from x.at' 5)
 refine⟨rfl,p,0,rfl,_,ae (x.at' 0).2 rfl,PC.ok (tA a) ?_⟩;rintro _ c0 ⟨rfl,K,Z⟩;obtain⟨l,g,d,m,-⟩:=x.Bz gq (k:=5) (G':=I) (C2:=recC p (wA h c self h.lp (XM h.sp) (XM h.bp)) {h with lp:=none} c {X with log:=none,D:=X.D.Ah e,waits:=[]} false) ⟨Z.mono λP _ a=>J P a,λP a=>.inl (J P a)⟩ K.Ni ⟨I,_,K,λ_ h=>h,λP a=>a.elim⟩ λb G j f=>by
  rcases b with _|_|_|_|_|_|_|b<;>first|exact f|exact Zz rfl j
 refine⟨rfl,p,0,rfl,_,ae (d.at' 0).2 rfl,PC.ok (HS (d.at' 6)) ?_⟩;rintro _ y ⟨rfl,a3,L⟩;have z:bD y l g (recC p (wA h c self h.lp (XM h.sp) (XM h.bp)) {h with lp:=none} c {X with log:=none,D:=X.D.Ah e,waits:=[],fI:=⟨X.fI.cV,[],[]⟩} false):=d.same gq (k:=6) L a3 λb G j f=>by
  rcases b with _|_|_|_|_|_|_|b<;>first|exact f|exact Zz rfl j
 have M:cK F w l y:=by
  have i:=o.trans m;exact⟨i.af.new (L.mono λP _ a=>a.1) λP a=>i.new P a,i.new⟩
 have a5:=t.Bz M;have b3:=DL.pP (show DL y (λP=>l P/\g P=2) h.dp none (X.D.Ah e) none from z.at' 2) (a5.sub λP a=>a.1);refine⟨rfl,p,0,rfl,_,ae (z.at' 0).2 rfl,PC.ok (Mj t.laid b3) ?_⟩;rintro _ c1 ⟨rfl,a0,b4⟩;obtain⟨G2,b5,a6,b6,-⟩:=DL.LF (Y:=λ_=>False) (a0.mono λP a=>a.elim id False.elim) b4;obtain⟨c2,b7,a7,a1,-⟩:=z.Bz gq (k:=2) (G':=G2) (C2:=recC p (wA h c self h.lp (XM h.sp) (XM h.bp)) {h with lp:=none} c {X with log:=none,D:=zl (X.D.Ah e),waits:=[],fI:=⟨X.fI.cV,[],[]⟩} false) a6 b6 (by
   obtain⟨Fd,i,v,T⟩:=b5;exact⟨Fd,i,v,rfl⟩) λb G j f=>by
  rcases b with _|_|_|_|_|_|_|b<;>first|exact f|exact Zz rfl j
 have N:=M.trans a1;refine⟨rfl,PC.ok (xo (h:={h with lp:=none}) (z1:=h.lp) (z2:=XM h.sp) (z3:=XM h.bp) a7 B (t.Bz N)) ?_⟩;rintro _ c3 ⟨rfl,a8,h',r,q,A,a9⟩;exact⟨_,rfl,Ok.mk ⟨r,rfl,⟨B,h',q,A⟩,N.trans a9,a8⟩⟩
def OV(r:bE w p F c self X)(s:aN e):
  ZG 59 #[XL p,XH e] w (Ok λt w'=>∃l,t= .tuple #[]/\bE w' p l c self {X with D:=X.D.QM e}/\cK F w l w'):=by
 obtain⟨u,h,cls,g⟩:=r;obtain⟨Fd,v,i,b⟩:=(show DL w (λP=>F P/\cls P=2) h.dp h.lp X.D X.log from g.at' 2)
 refine mY ⟨p,0,rfl,_,ae g.bl rfl,PC.ok (Mw s v) ?_⟩;rintro _ m ⟨rfl,x,j⟩;have y:cI m F cls p h c self {X with D:=X.D.QM e}:=bD.same g bM (k:=2) (j.af.mono λP _ a=>i P a) (by
  refine⟨Fd,x,i,?_⟩;show match X.log with
   |none=>h.lp=none
   |some k=>k.a_≠[]/\∃d f,h.lp=some ⟨d,0,none⟩/\iq m h.dp d f k/\∀P,f P->(F P/\cls P=2)/\¬Fd P
  cases n:X.log with
  |none=>rw[n]at b;exact b
  |some k=>
   rw[n]at b;obtain⟨z,d,f,A,B,o⟩:=b;exact⟨z,d,f,A,B.af j.af λP a=>(o P a).2,o⟩) λq G C E=>by
  rcases q with _|_|_|_|_|_|_|q<;>first|exact E|exact Zz rfl C
 exact⟨rfl,Ok.mk ⟨F,rfl,⟨u,h,cls,y⟩,j.af.mono λP _ a=>(i P a).1,λP a=>.inl a⟩⟩
def Ct{V:cY}{D:al}{l:List aj}{size:Int}(a:(cG V D l size).no=0):(cG V D l size).V.a_≠[]:=by
 revert a
 unfold cG;split
 ·rename_i P;intro h;exact Zz h P
 split
 ·rename_i P;intro h;exact Zz h P
 ·exact Bc
def Hj(R:bE w p F c self X)(A:Env w0 w F)(hl:X.S.l.length<=18000000):
  ZG 24 #[XL p] w (Ok λa2 w'=>∃S,a2= XH (gY c X).1/\bE w' p S c self (gY c X).2/\cK F w S w'):=by
 have a6:=R;obtain⟨T,h,cls,n⟩:=R;have a8:=n.aF;refine kJ ⟨p,0,rfl,_,ae n.bl rfl,fm Tryz.underlying95 ⟨_,rfl,?_⟩⟩;have U:DL w (λP=>F P/\cls P=2) h.dp h.lp X.D X.log:=n.at' 2
 cases l:X.log with
 |none=>
  obtain⟨Fd,-,-,i⟩:=U;rw[l]at i;have i:h.lp=none:=i;rw[i];have o:gY c X=(15,X):=by unfold gY;rw[l]
  rw[o];exact an.tt rfl (Ok.mk ⟨F,rfl,a6,cK.refl _ _⟩)
 |some b=>
 obtain⟨y,e,B,-⟩:=DL.Nf (l▸U) (A.sub λP a=>a.1) λP a=>a8 P a.1;have C:∀{j},(if(cG b X.D X.S.l c.bO).no≠0 then((cG b X.D X.S.l c.bO).no,{X with D:=(cG b X.D X.S.l c.bO).D})else(0,{X with D:=(cG b X.D X.S.l c.bO).D,log:=some (cG b X.D X.S.l c.bO).V}))=j->gY c X=j:=λ{j} E=>by rw[<-E];unfold gY;rw[l]
 rw[e];refine an.ff rfl λw9 d9=>?_;have V:ai w w9:=d9.af;have m:=cI.ah n V;have W:=n.HO;have H:¬(F p/\cls p=2):=λq=>by have:=q.2;rw[W.2]at this;cases this
 refine⟨λP=>F P/\cls P=2,p,0,rfl,H,_,ae m.bl rfl,p,0,rfl,H,_,ae m.bl rfl,p,0,rfl,_,ae m.bl rfl,p,0,rfl,H,_,ae m.bl rfl,PC.ok (qx (m.at' 3).1 oM) ?_⟩;rintro _ r ⟨b6,b7,cc,G,rfl,Y,I,hG⟩;have z:=cI.ah m I;have s:=V.then I;have a9:=Y.aF;obtain⟨Z,g,-,J⟩:=DL.Nf (show DL r (λP=>F P/\cls P=2) h.dp h.lp X.D (some b)from l▸z.at' 2) ((A.ah s).sub λP a=>a.1) λP a=>z.aF P a.1;have E:Z=y:=by rw[e]at g;cases g;rfl
 subst E;refine⟨_,_,_,rfl,ai.af I,?_⟩;rw[e];refine PC.ok (GM A.laid J (Y.row dC ba) a9 oM) ?_;have a0:=Ct (V:=b) (D:=X.D) (l:=X.S.l) (size:=c.bO);generalize cG b X.D X.S.l c.bO=j at C a0;rintro _ a3 ⟨K,a4,b0,a5,⟨t,rfl,b1⟩|⟨t,q3,rfl,b2⟩⟩
 ·obtain⟨Fd,h1,h2,i,h4⟩:=b1
  have L:∀P,¬(P<r.heap.size/\¬(F P/\cls P=2))->(F P/\cls P=2)\/r.heap.size<=P:=λP a=>by
   rcases Nat.lt_or_ge P r.heap.size with M|M
   ·exact .inl (Classical.byContradiction λh8=>a ⟨M,h8⟩)
   ·exact .inr M
  have a1:ak (λP=>F P/\cls P=2) r a3:=a5.mono λP b8 a=>(L P a).resolve_right oM;obtain⟨N,k,f,u,-⟩:=z.eE bM (k:=2) (G':=λP=>Fd P\/K P) (C2:=kM p (h.cells c self) h c {X with D:=j.D} X.S.l) a1 (λP a=>a.elim (λv=>L P λh6=>(i P v).2 (.inl h6)) λv=>L P (b0 P v).2) (λP a=>a.elim (h1.aF P) (a4.aF P)) (by
    refine⟨Fd,h1,λP a=>.inl a,?_⟩;show match X.log with
     |none=>h.lp=none
     |some b=>b.a_≠[]/\∃y Fl,h.lp=some ⟨y,0,none⟩/\iq a3 h.dp y Fl b/\∀P,Fl P->(Fd P\/K P)/\¬Fd P
    rw[l];exact⟨B,Z,K,e,a4,λP a=>⟨.inr a,λhd=>(i P hd).2 (.inr a)⟩⟩) λx G O o=>by
   rcases x with _|_|_|_|_|_|_|x<;>first|exact o|exact Zz rfl O
  refine⟨_,_,rfl,a1,an.dO (λQ=>Zz Q t) (λ_=>Ok.mk ?_)⟩;rw[C (Zx t)];exact⟨N,rfl,⟨T,h,k,f⟩,(ai.af s).then u.af,λP a=>(u.new P a).imp id λv=>by have:=s.size;omega⟩
 ·obtain⟨G2,b3,u,b4,hY⟩:=DL.Fu b2 a5 (a0 t)
  obtain⟨N,k,f,d,-⟩:=z.Bz bM (k:=2) (G':=G2) (C2:=kM p (h.cells c self) {h with lp:=XM q3} c {X with D:=j.D,log:=some j.V} X.S.l) u b4 b3 λx G O o=>by
   rcases x with _|_|_|_|_|_|_|x<;>first|exact o|exact Zz rfl O
  refine⟨_,_,rfl,u.af,an.dO (λ_=>⟨p,0,rfl,PS.mk (f.at' 0).2 sM λb9 a7 c0 b5=>Ok.mk ?_⟩) (λQ=>Zz rfl Q)⟩;rw[C (Zq (by simpa using t))];exact⟨N,rfl,⟨T,{h with lp:=XM q3},k,cI.store f a7 b5⟩,((ai.af s).then d.af).then (a7.mono λP _ q=>by have q:P=p:=q;rw[q];exact W.1),λP a=>(d.new P a).imp id λv=>by have:=s.size;omega⟩
end
variable{S q:Int}{c3:List bj}{r:ZH}{J:aR}
section
variable {w w' w0 w1 w2:World} {p:Nat} {F E D:XN} {c:cD} {self:Int}
def dL(c:cD)(P:ZH)(tn a:Nat)(b:ZH)(d e:Nat):List Value:=[XH c.br,XH c.pP,XH c.bO,XH c.chunk,XH c.buffer,XH c.cV,XH c.every,XH c.start,.slice P tn a,.slice b d e]
abbrev ny(c:cD)(P:ZH)(tn a:Nat)(b:ZH)(d e:Nat):Value:=.agg (dL c P tn a b d e).toArray
def pT(c:cD)(P:ZH)(tn a:Nat)(b:ZH)(d e:Nat):ia XP 29 (dL c P tn a b d e)=true:=kR
def nK:ZG 70 #[XH e,XH q,XH S] w (Ok λP w'=>P= .bool (within e q S)/\w=w'):=by
 refine tI (an.dec (λa=>Ok.mk ⟨?_,rfl⟩) (λa=>Ok.mk ⟨?_,rfl⟩))
 ·simp[within];omega
 ·simp[within];omega
def Nj{tn z A B:Nat}:ZG 33 #[ny c d tn z r A B,XH self] w (Ok λk w'=>k= .bool (gX c self)/\ai w w'):=by
 refine xK (PA.mk λw1 t I a=>?_);have J:∀{l m n:Int} {o:Bool->Prop} {u:List PanicEntry->XU},o (within l m n)->∃p v x,(Value.func (.func 70) #[] #[])= .func (.func p) v x/\enters XP p=true/\PC XP p (v++ #[XH l,XH m,XH n]++x) w1 (λC E=>∃(y:Bool),C= .bool y/\E=w1/\o y) u:=λ{l m n o u} q=>by
  refine⟨_,_,_,rfl,kR,PC.ok nK ?_⟩;rintro _ _ ⟨rfl,rfl⟩;exact⟨_,rfl,rfl,q⟩
 have no:gX c self=false->Ok (λk w'=>k= .bool (gX c self)/\ai w w') (.returned (.bool false)) w1:=λF=>Ok.mk ⟨by rw[F],t⟩;have b:gX c self=(within c.br 1 64&&(within self 0 (c.br-1)&&(within c.pP 64 262144&&(decide (c.bO>=1)&&(decide (c.every>=1)&&(within c.chunk 1 32&&(within c.buffer 1 256&&(within c.cV 1 1048576&&decide (c.start>=0))))))))):=by
  unfold gX;simp only[Bool.and_assoc]
 refine⟨_,ae a rfl,_,_,_,rfl,kR,PC.ok nK ?_⟩;rintro _ _ ⟨rfl,rfl⟩;refine⟨_,rfl,an.mk (λP=>⟨_,ae a rfl,_,_,_,rfl,kR,PC.ok nK ?_⟩) (λP=>no (by rw[b,P];rfl))⟩;have H:IntKind.wrap .i64 (c.br-1)=c.br-1:=wrap_i64 (by have:=bB.1 P;unfold aN;omega);rw[H];rintro _ _ ⟨rfl,rfl⟩;refine⟨_,rfl,an.mk (λe=>⟨_,ae a rfl,_,_,_,rfl,kR,PC.ok nK ?_⟩) (λe=>no (by rw[b,P,e];rfl))⟩;rintro _ _ ⟨rfl,rfl⟩;refine⟨_,rfl,an.mk (λf=>⟨_,ae a rfl,an.mk (λg=>⟨_,ae a rfl,an.mk (λh=>⟨_,ae a rfl,_,_,_,rfl,kR,PC.ok nK ?_⟩) (λh=>no (by rw[b,P,e,f,g,h];rfl))⟩) (λg=>no (by rw[b,P,e,f,g];rfl))⟩) (λf=>no (by rw[b,P,e,f];rfl))⟩;rintro _ _ ⟨rfl,rfl⟩;refine⟨_,rfl,an.mk (λi=>⟨_,ae a rfl,_,_,_,rfl,kR,PC.ok nK ?_⟩) (λi=>no (by rw[b,P,e,f,g,h,i];rfl))⟩;rintro _ _ ⟨rfl,rfl⟩;refine⟨_,rfl,an.mk (λj=>⟨_,ae a rfl,_,_,_,rfl,kR,PC.ok nK ?_⟩) (λj=>no (by rw[b,P,e,f,g,h,i,j];rfl))⟩;rintro _ _ ⟨rfl,rfl⟩;refine⟨_,rfl,an.mk (λs=>⟨_,ae a rfl,Ok.mk ⟨by rw[b,P,e,f,g,h,i,j,s];rfl,t⟩⟩) (λs=>no (by rw[b,P,e,f,g,h,i,j,s];rfl))⟩
def Pw{P a:Nat}(b:J.types[P]? =some c3)(d:a<c3.length):J.Cs (P:Int) (a:Int)=c3[a]? :=by
 have e:=(Qv.1 b).1;have c:J.at (P:Int)=c3:=by
  unfold aR.at;rw[Zx (bB.2 ⟨oM,oM⟩),Qx,QQ,b];rfl
 unfold aR.Cs;rw[c,Zx (by simp only[QK,bB];exact⟨⟨oM,oM⟩,oM,oM⟩),Qx]
end
section
variable {w w' w0 w1 w2:World} {p:Nat} {F E D:XN} {c:cD} {self:Int}
def Kn{tn tc M pc:Nat}(h:bf w D J d tn r M)(hD:∀P,D P->P<w.heap.size):
  ZG 35 #[.agg #[.slice d tn tc,.slice r M pc]] w (Ok λc4 w'=>∃u Ab a2 e v k G,c4= .agg #[.slice u Ab a2,.slice e v k]/\bf w' G J u Ab e v/\(∀P,G P->w.heap.size<=P/\P<w'.heap.size)/\ai w w'):=by
 have f4:=h.aX.len;have b8:=h.aX.dB;have f6:=h.yO.len;have f7:=h.yO.dB;refine vw (PA.mk λN k4 s4 g4=>PA.mk λw5 k5 s5 g5=>⟨_,_,_,ae (k5.get g4 id) rfl,?_⟩);have x:=k4.then k5;refine yB (aT.nil (c:=uq) (e:=128) w5) JB (h.yO.ah x) (λP a=>⟨by have:=hD P a;omega,λb=>by cases b⟩) (by rw[ZQ];unfold aO at*;omega) (by rw[ZQ];unfold aO at*;unfold maxLen;omega) λe k f Fp d1 k8 j6 d2=>⟨_,_,_,rfl,PA.mk λj7 g0 j8 g1=>PS.mk g1 sM λj9 g2 k0 g3=>PS.mk g3 sM λs g6 k1 g7=>?_⟩
 rw[List.nil_append,Xz]at d1;have a9:=d1.alone;have b9:∀P,aI e=some P->w5.heap.size<=P/\P<f.heap.size:=λP a=>⟨(d2 P a).elim False.elim id,a9.aF P a⟩
 have z8:=k8.size;have y:ai w5 f:=k8.mono λP _ b=>by cases b
 have z:ai f s:=(g0.new g2 λP a=>.inr (by have a:P=f.heap.size:=a;omega)).new g6 λP a=>.inr (by have a:P=f.heap.size:=a;omega);have b0:ai w s:=(x.then y).then z;have gp:=z.get (y.get (k5.get g4 id) id) id;have gr:=z.get (y.get g5 id) id;have b1:s.heap[f.heap.size]? =some (.cells #[.slice none 0 0,.slice e (0+M) k] 25 (0,0)):=g7;rw[Xz]at b1;have k2:=z.size;refine⟨_,_,_,ae gp rfl,λA a3 w'=>∃i:Nat,a3=i/\i<=tn/\A=tn-i/\ak (·=f.heap.size) s w'/\∃O Q oc R,w'.heap[f.heap.size]? =some (.cells #[.slice O Q oc,.slice e M k] 25 (0,0))/\aT jO 130 R w' O Q oc (J.types.take i)/\∀P,R P->s.heap.size<=P,
  ⟨_,0,rfl,Qj _,rfl,ak.refl _,none,0,0,λ_=>False,b1,aT.nil _,λ_ h=>h.elim⟩,?_⟩
 rintro A _ _ S ⟨i,rfl,hj,rfl,t,O,Q,oc,R,T,m,B⟩;have U:ai w S:=b0.new t λP a=>.inr (by have a:P=f.heap.size:=a;have:=x.size;have:=y.size;omega);have zk:=t.size;have b2:=t.get gp λb=>by have b:w.heap.size=f.heap.size:=b;have:=k4.size;omega
 refine an.dec (λk3=>?_) (λk6=>?_)
 ·have g8:i<J.types.length:=oM
  have V:J.types[i]? =some J.types[i]:=Qq g8;generalize J.types[i]=n at V;obtain⟨P,d5,es,ha,a,k7,d6,fa,fn,fc,rfl,W⟩:=(h.aX.ah U).el i n V;have c0:=d6 0 dC;have g9:jO.k=1:=rfl;rw[g9,Nat.mul_one]at c0;have h0:=W.len;have c2:=W.dB;refine⟨P,d5,ha,oM,oM,fa,fn,fc,by rw[Qx];exact c0,PA.mk λk9 h3 l0 h4=>PS.mk h4 sM λj h6 l3 h7=>PA.mk λl4 d3 l5 h8=>PS.mk h8 sM λC d4 l6 h9=>?_⟩;have p:ai S C:=((h3.new h6 λP a=>.inr (by have a:P=S.heap.size:=a;omega)).then d3).new d4 λP a=>.inr (by have a:P=j.heap.size:=a;omega);have d7:=d4.get (d3.get h7 id) oM;have e3:=p.get b2 id;have l7:=p.size;have e4:=U.then p;refine⟨_,_,_,ae d7 rfl,λA a3 w'=>∃g:Nat,a3=g/\g<=fn/\A=fn-g/\ak (·=j.heap.size) C w'/\∃E F X Y,w'.heap[j.heap.size]? =some (.cells #[.slice E F X] 130 (0,0))/\aT oq 123 Y w' E F X (n.take g)/\∀P,Y P->C.heap.size<=P,
   ⟨_,0,rfl,Qj _,rfl,ak.refl _,none,0,0,λ_=>False,h9,aT.nil _,λ_ h=>h.elim⟩,?_⟩
  rintro A _ _ d8 ⟨g,rfl,hk,rfl,q,E,F,X,Y,gx,o,H⟩;have zx:=q.size;have b3:ai w d8:=e4.new q λP a=>.inr (by have a:P=j.heap.size:=a;have:=U.size;omega);have b4:=q.get e3 λb=>by have b:w.heap.size=j.heap.size:=b;have:=ay b2;omega
  refine an.dec (λj4=>?_) (λj5=>?_)
  ·have d9:g<n.length:=oM
   have I:n[g]? =some n[g]:=Qq d9;have a4:=Pw V d9;rw[I]at a4;obtain⟨fb,fo,e6,-,-,-,-,ya,yn,yc,rfl,-,b5⟩:=(W.ah p).el g n[g] I;generalize n[g]=K at I a4 b5;refine⟨_,_,_,_,_,_,ae b4 rfl,ae b4 rfl,PC.ok (nN (h.ah b3) λP a=>by have:=hD P a;have:=b3.size;omega) ?_⟩;rw[a4];rintro _ e0 ⟨e1,Z,a0,cc,Fm,rfl,c3,e2⟩;have e8:=c3.aF;have l8:=e1.size;refine bX (HT K Z a0 cc) ⟨_,rfl,PA.mk λl9 i0 m0 i1=>aB (eS K Z a0 cc) i1 rfl λi2 i3 m1 a7=>?_⟩;have a5:ai e0 i2:=i0.new i3 λP a=>.inr (by have a:P=e0.heap.size:=a;omega);have b6:=e1.then a5;have e9:=b6.get gx id;refine⟨_,_,_,ae e9 rfl,_,_,_,_,_,_,ae a7 rfl,ae a7 rfl,ae a7 rfl,ae a7 rfl,PA.mk λi4 e5 m2 i5=>?_⟩;have a1:=b6.then e5;have f0:=(c3.ah a5).ah e5;have m3:=c3.len dC;have a8:Row fF 32 i4 Fm Z a0 K.bq:=f0.row dC (by
    obtain⟨_,_,_,_,_,_,_,_,_,_,hq,a8,_⟩:=(W.ah p).el g K I;have h1:=a8.dB;have h2:=a8.len;rw[<-h2];exact h1)
   refine ep (c:=oq) (x:=K) (o.ah a1) Oy i5 (D:=Fm) ⟨Z,a0,cc,rfl,a8,b5⟩ (λP a=>⟨by have:=e8 P a;have:=a5.size;omega,λb=>by have:=o.aF P (o.self P b);have:=e2 P a;omega⟩) (by rw[Qy];unfold aO at*;omega) (by rw[Qy];unfold aO at c2;unfold maxLen;omega) λa' c' m4 L f1 c5 c6=>⟨_,_,_,rfl,?_⟩
   have i6:¬aI E=some j.heap.size:=λb=>by have:=H _ (o.self _ b);omega
   have m5:=a1.size;have m6:=c5.size;have c:∀P,L P->C.heap.size<=P:=λP a=>by
    rcases c6 P a with l|l|l
    ·exact H P l
    ·have:=e2 P l;omega
    ·omega
   refine PS.mk (c5.get (a1.get gx id) i6) sM λm7 e7 m8 i7=>⟨_,oM,g+1,aq (by unfold aO at c2;omega),oM,rfl,((q.ah a1).new c5 λP a=>.inr (H P (o.self P a))).then e7,a',F+1,c',L,i7,?_,c⟩
   rw[Qw,I];exact f1.af e7 λP a b=>by have b:P=j.heap.size:=b;have:=c P a;omega
  ·rw[Qz oM]at o
   have i8:ak (·=j.heap.size) C d8:=q;have b7:=q.get (p.get T id) λb=>by have b:f.heap.size=j.heap.size:=b;have:=ay T;omega
   refine⟨_,_,_,ae b7 rfl,_,_,_,ae gx rfl,PA.mk λi9 c7 m9 j0=>?_⟩;have a6:ai S i9:=(p.new q λP a=>.inr (by have a:P=j.heap.size:=a;omega)).then c7;refine ep (c:=jO) (x:=n) (m.ah a6) KN j0 (D:=Y) ⟨E,F,X,rfl,(o.ah c7).row dC (by rw[<-h0];exact c2)⟩ (λP a=>⟨by have:=o.aF P a;omega,λb=>by have:=m.aF P (m.self P b);have:=H P a;omega⟩) (by rw[Qy];unfold aO at*;omega) (by rw[Qy];unfold aO at b8;unfold maxLen;omega) λa' c' n0 L f2 c8 c6=>⟨_,_,_,rfl,?_⟩
   have j1:¬aI O=some f.heap.size:=λb=>by have:=B _ (m.self _ b);omega
   have n1:=a6.size;have n2:=c8.size;have c:∀P,L P->s.heap.size<=P:=λP a=>by
    rcases c6 P a with l|l|l
    ·exact B P l
    ·have:=H P l;omega
    ·omega
   refine PS.mk (c8.get (c7.get b7 id) j1) sM λn3 c1 n4 j2=>⟨_,oM,i+1,aq (by unfold aO at b8;omega),oM,rfl,((t.ah a6).new c8 λP a=>.inr (B P (m.self P a))).then c1,a',Q+1,c',L,j2,?_,c⟩
   rw[Qw,V];exact f2.af c1 λP a b=>by have b:P=f.heap.size:=b;have:=c P a;omega
 ·rw[Qz oM]at m
  have z5:=y.size;have f5:=t.get gr λb=>by have b:N.heap.size=f.heap.size:=b;omega
  have f8:=((a9.ah z).af t λP a b=>by have b:P=f.heap.size:=b;have:=b9 P a;omega)
  refine⟨_,_,_,_,_,_,ae T rfl,ae T rfl,PS.mk f5 sM λn8 c9 n9 j3=>PS.mk j3 sM λo0 d0 o1 f3=>⟨_,_,_,_,_,_,ae f3 rfl,ae f3 rfl,Ok.mk ⟨_,_,_,_,_,_,λP=>R P\/aI e=some P,rfl,⟨?_,?_⟩,?_,?_⟩⟩⟩
  ·exact(((m.row (bytes:=24) dC (by rw[<-f4];exact b8)).af (c9.then d0) λP a b=>by have b:P=N.heap.size:=b;have:=B P a;omega)).mono λP a=>.inl a
  ·exact(((f8.row (bytes:=40) dC (by rw[<-f6];exact f7)).af (c9.then d0) λP a b=>by have b:P=N.heap.size:=b;have:=b9 P a;omega)).mono λP a=>.inr a
  ·rintro P (a|a)
   ·have:=B P a;have:=m.aF P a;have:=x.size;have:=b0.size;omega
   ·have:=b9 P a;have:=x.size;omega
  ·exact U.new (c9.then d0) λP a=>.inr (by have a:P=N.heap.size:=a;have:=k4.size;omega)
end
variable{j:Type}
section
variable {w w':World} {D D' S:XN} {d:aR} {ta pa:ZH} {tn tc pn pc:Nat}
def rX(P:bj):Bool:=if P.kind==4 then !within P.bq.length 1 16 else decide (0<P.bq.length)
def Bj(P:List bj):Bool:=!within P.length 1 8||P.any rX
def Il{P:j->Bool}{b:List j}{c:j}(d:b[a]? =some c)(e:(b.take a).any P=false)(f:P c=false):(b.take (a+1)).any P=false:=by
 rw[Qw,d,List.any_append,e];simp[f]
def Kz{b:j->Bool}{c:List j}{P:j}(d:c[a]? =some P)(e:b P=true):c.any b=true:=List.any_eq_true.2 ⟨P,QZ d,e⟩
def fw{f:Type}{g:f->Int}:∀{a:List f} {b:Nat} {c:f},a[b]? =some c->cj g (a.take b)=0->cj g (a.take (b+1))=g c
 |[],b,c,P,_=>by simp at P
 |y::a,0,c,P,_=>by simp at P;subst P;simp[cj];intro P;exact P.symm
 |y::a,b+1,c,P,d=>by
  simp only[Zw,cj]at d⊢;split at d
  ·rename_i e;simp at e;exact Zz d e
  ·rename_i e;rw[Zq e];exact fw (by simpa using P) d
def nR{b:Type}{a:b->Int}:∀{l:List b} {j:Nat},cj a (l.take j)≠0->cj a l=cj a (l.take j)
 |[],j,P=>by simp at P⊢
 |y::l,0,P=>by simp[cj]at P
 |y::l,j+1,P=>by
  simp only[Zw,cj]at P⊢;split
  ·rfl
  ·rename_i c;rw[Zq c]at P;exact nR P
def Im(c:bf w D d ta tn pa pn):ZG 67 #[.agg #[.slice ta tn tc,.slice pa pn pc]] w (Ok λe w'=>e= .bool (ql d)/\ai w w'):=by
 have r:=c.aX.len;have s:=c.aX.dB;have hp:=c.yO.len;unfold aO at s;refine BO (PA.mk λY t s1 u=>⟨_,_,_,ae u rfl,PC.ok cf ?_⟩);rintro _ _ ⟨rfl,rfl⟩;refine⟨_,rfl,an.not (an.mk (λh=>⟨_,_,_,ae u rfl,an.dec (λZ=>Ok.mk ⟨?_,t⟩) (λZ=>⟨_,_,_,ae u rfl,λj k w'=>∃a:Nat,k=a/\a<=tn/\j=tn-a/\(d.types.take a).any Bj=false/\ai Y w',⟨_,0,rfl,Qj _,rfl,sM,ak.refl _⟩,?_⟩)⟩) (λh=>Ok.mk ⟨?_,t⟩))⟩
 ·unfold ql;rw[<-r,h,Zx bc]
 rotate_left
 ·unfold ql;rw[<-r,h];rfl
 have v:ql d=d.types.any Bj:=by unfold ql Bj rX;rw[<-r,h,Zq bc]
 rintro j k _ w2 ⟨a,rfl,hj,rfl,x,K⟩;have l:=t.then K;refine an.dec (λa8=>?_) (λa9=>?_)
 rotate_left
 ·rw[Qz oM]at x
  exact Ok.mk ⟨by rw[v,x],l⟩
 obtain⟨y,z,A,es,rfl,_,_,B,f,a2,g,c1,rfl,C⟩:=((c.ah l).aX).wK (i:=a) oM;have L:=C.len;have a0:=C.dB;unfold aO at a0;have M:=f 0 dC;simp only[jO,Nat.mul_one,Nat.add_zero]at M;refine⟨y,z,rfl,oM,oM,_,_,_,M,PA.mk λw3 k3 s3 g3=>PS.mk g3 sM λm k4 s4 N=>⟨_,_,_,ae N rfl,PC.ok cf ?_⟩⟩;rintro _ _ ⟨rfl,rfl⟩;have n:ai w2 m:=k3.new k4 λy s=>.inr oM;have E:Bj A=true->Ok (λe w'=>e= .bool (ql d)/\ai w w') (.returned (.bool true)) m:=λP=>Ok.mk ⟨by rw[v,Kz B P],l.then n⟩;refine⟨_,rfl,an.not (an.mk (λF=>⟨_,_,_,ae N rfl,λj k w'=>∃i:Nat,k=i/\i<=g/\j=g-i/\(A.take i).any rX=false/\ai m w',⟨_,0,rfl,Qj _,rfl,sM,ak.refl _⟩,?_⟩) (λF=>E (by unfold Bj;rw[<-L,F];rfl)))⟩;rintro m' t' _ w5 ⟨i,rfl,hi,rfl,H,o⟩;have a3:=(l.then n).then o;refine an.dec (λa6=>?_) (λa7=>?_)
 rotate_left
 ·rw[Qz oM]at H
  exact⟨_,oM,a+1,aq oM,oM,rfl,Il B x (by unfold Bj;rw[<-L,F,H];rfl),(K.then n).then o⟩
 obtain⟨b2,a1,p,b0,rfl,_,_,O,a4,Q,R,S,rfl,T,b1,b3⟩:=((C.ah n).ah o).wK (i:=i) oM;have U:=T.len;have a5:=T.dB;unfold aO at a5;refine⟨b2,a1,rfl,oM,oM,bC (eS p Q R S) rfl a4 (PA.mk λw6 k6 s6 g6=>aB (eS p Q R S) g6 rfl λI k7 s7 J=>⟨_,ae J rfl,?_⟩)⟩;have V:ai w5 I:=k6.new k7 λy s=>.inr oM;have W:rX p=true->Ok (λe w'=>e= .bool (ql d)/\ai w w') (.returned (.bool true)) I:=λP=>Ok.mk ⟨by rw[v,Kz B (by unfold Bj;rw[Kz O P];simp)],a3.then V⟩;have next:rX p=false->∃X,X<g-i/\∃q:Nat,IntKind.wrap .i64 ((i:Int)+1)=q/\q<=g/\X=g-q/\(A.take q).any rX=false/\ai m I:=λP=>
  ⟨_,oM,i+1,aq oM,oM,rfl,Il O H P,o.then V⟩
 refine an.dO (λb=>⟨_,_,_,ae J rfl,PC.ok cf ?_⟩) (λb=>an.not (an.dO (λf=>Zz f b) (λ_=>⟨_,_,_,ae J rfl,an.dec (λc=>W ?_) (λc=>next ?_)⟩)))
 ·rintro _ _ ⟨rfl,rfl⟩
  refine⟨_,rfl,an.not (an.mk (λP=>an.not (an.dO (λ_=>next ?_) (λf=>Zz b f))) (λP=>W ?_))⟩
  ·unfold rX;rw[b,<-U,P];rfl
  ·unfold rX;rw[b,<-U,P];rfl
 ·unfold rX;rw[Zq (by simpa using b)];simp only[Zk];omega
 ·unfold rX;rw[Zq (by simpa using b)];simp only[decide_eq_false_iff_not];omega
def Fw(hT:eG w)(g:bf w D d ta tn pa pn)(hD:∀a,D a->a<w.heap.size):
  ZG 32 #[.agg #[.slice ta tn tc,.slice pa pn pc]] w (Ok λB w'=>B= XH (di d)/\ai w w'):=by
 have hl:=g.aX.len;have f:=g.aX.dB;have b1:=g.yO.len;have a6:=g.yO.dB;unfold aO at f a6;refine zu (PA.mk λw1 U s1 C=>⟨_,_,_,_,_,_,ae C rfl,ae C rfl,PC.ok (Im (g.ah U)) ?_⟩);rintro _ w2 ⟨rfl,V⟩;have W:=U.then V;have X:=V.get C id;refine⟨_,rfl,an.mk (λt=>Ok.mk ⟨by unfold di;rw[t];rfl,W⟩) (λt=>⟨_,_,_,ae X rfl,λk b w'=>∃P:Nat,b=P/\P<=tn/\k=tn-P/\cj (λb=>cj (fe b) b) (d.types.take P)=0/\ai w2 w',⟨_,0,rfl,Qj _,rfl,rfl,ak.refl _⟩,?_⟩)⟩;rintro k b _ Y ⟨P,rfl,hj,rfl,u,E⟩;have v:=W.then E;have Z:=E.get X id;have F:∀{w':World},ai w w'->∀P c,d.types[P]? =some c->cj (λb=>cj (fe b) b) (d.types.take P)=0->∀x:Int,cj (fe c) c=x->x≠0->Ok (λB w'=>B= XH (di d)/\ai w w') (.returned (XH x)) w':=by
  intro w' a2 P c y h0 x hr j;have l:=fw y h0;rw[hr]at l;have h2:=nR (l:=d.types) (j:=P+1) (by rw[l];exact j);refine Ok.mk ⟨?_,a2⟩;unfold di;rw[t,h2,l];simp[j]
 refine an.dec (λb2=>?_) (λb3=>⟨_,_,_,ae Z rfl,λk b w'=>∃i:Nat,b=i/\i<=pn/\k=pn-i/\cj (lr d) (d.projs.take i)=0/\ai Y w',⟨_,0,rfl,Qj _,rfl,rfl,ak.refl _⟩,?_⟩)
 ·obtain⟨a,H,I,es,rfl,_,_,y,hc,b4,n1,c1,rfl,z⟩:=((g.ah v).aX).wK (i:=P) oM
  have b5:=z.len;have a7:=z.dB;unfold aO at a7;have a0:=hc 0 dC;simp only[jO,Nat.mul_one,Nat.add_zero]at a0;refine⟨a,H,rfl,oM,oM,_,_,_,a0,PA.mk λw4 o s4 g4=>PS.mk g4 sM λJ K s5 A=>⟨_,_,_,ae A rfl,λk b w'=>∃i:Nat,b=i/\i<=n1/\k=n1-i/\cj (fe I) (I.take i)=0/\ai J w',⟨_,0,rfl,Qj _,rfl,rfl,ak.refl _⟩,?_⟩⟩;have a8:ai Y J:=o.new K λa f=>.inr oM;rintro m' t' _ L ⟨i,rfl,hi,rfl,e,m⟩;have p:=a8.then m;refine an.dec (λa3=>?_) (λa9=>?_)
  ·obtain⟨M,N,c,b0,rfl,_,_,n,O,Q,R,S,rfl,hM,b6,b7⟩:=(z.ah p).wK (i:=i) oM
   refine⟨M,N,rfl,oM,oM,bC (eS c Q R S) rfl O (PA.mk λw7 h s7 g7=>aB (eS c Q R S) g7 rfl λw8 q s8 g8=>⟨_,_,_,ae (q.get (h.get (m.get A id) id) (by have:=m.size;omega)) rfl,ar (eS c Q R S) g8 (PC.ok (FE (hT.ah ?_) (z.ah ?_) (hM.ah ?_)) ?_)⟩)⟩
   ·exact(v.then p).then (h.new q λa f=>.inr oM)
   ·exact p.then (h.new q λa f=>.inr oM)
   ·exact h.new q λa f=>.inr oM
   ·rintro _ w9 ⟨rfl,k9⟩
    have a4:ai L w9:=ak.then (h.new q λa f=>.inr oM) k9;refine⟨_,rfl,an.dI (λj=>?_) (λT=>⟨_,oM,i+1,aq oM,oM,rfl,by rw[fw n e];exact T,m.then a4⟩)⟩;have l:=fw n e;exact F ((v.then p).then a4) P I y u _ (by rw[nR (j:=i+1) (by rw[l];exact j),l]) j
  ·rw[Qz oM]at e
   refine⟨_,oM,P+1,aq oM,oM,rfl,by rw[fw y u];exact e,E.then p⟩
 ·rw[Qz oM]at u
  rintro m' t' _ w4 ⟨i,rfl,hi,rfl,e,o⟩;have r:=v.then o;have a1:di d=cj (lr d) d.projs:=by unfold di;rw[t,u];simp
  refine an.dec (λa3=>?_) (λa9=>?_)
  ·obtain⟨M,N,c,b0,rfl,_,_,n,O,rfl,_⟩:=((g.ah r).yO).wK (i:=i) oM
   refine⟨M,N,rfl,oM,oM,bC (oP c) rfl O (PA.mk λJ K s5 A=>aB (oP c) A rfl λL m s6 g6=>?_)⟩;have s:ai w4 L:=K.new m λa f=>.inr oM;have a5:=s.get (o.get Z id) id;refine⟨_,_,_,_,_,_,ae a5 rfl,ae a5 rfl,ar (oP c) g6 (PC.ok (FG (g.ah (r.then s)) λa f=>by have:=hD a f;have:=(r.then s).size;omega) ?_)⟩;rintro _ w7 ⟨rfl,h⟩;refine⟨_,rfl,an.dI (λj=>Ok.mk ⟨?_,(r.then s).then h⟩) (λT=>⟨_,oM,i+1,aq oM,oM,rfl,by rw[fw n e];exact T,(o.then s).then h⟩)⟩;rw[a1,nR (j:=i+1) (by rw[fw n e];exact j),fw n e]
  ·rw[Qz oM]at e
   exact Ok.mk ⟨by rw[a1,e],r⟩
end
def bY(P:cD)(a:Int):Int×bI:=
 if di P.decl≠0 then(di P.decl,(yr P).2)else if gX P a=false then(1,(yr P).2)else yr P
def Ko(b:World)(a:cD)(P:Int)(c:Value)(d:World):Prop:=ai b d/\
 (((bY a P).1≠0/\c= .tuple #[.pointer none,XH (bY a P).1])\/
  ((bY a P).1=0/\∃e f,c= .tuple #[XL e,XH 0]/\bE d e f a P (bY a P).2/\(∀g,f g->b.heap.size<=g)/\(bY a P).2.S.l.length<=16777216))
section
variable {w w' w0 w1 w2:World} {p:Nat} {F E D:XN} {c:cD} {self:Int}
def yH(hT:eG w0)(hL:Laid w0)(A:ai w0 w){tn Q B R:Nat}(hd:bf w D c.decl d tn r B)(hD:∀P,D P->P<w.heap.size)(hs:aN c.bO)(d3:aN c.every)(d4:aN c.start):
  ZG 11 #[ny c d tn Q r B R,XH self] w (Ok (Ko w c self)):=by
 refine BK (PA.mk λf3 C f4 E=>⟨_,_,_,_,_,_,ae E rfl,ae E rfl,PC.ok (Fw (hT.ah (A.then C)) (hd.ah C) λP a=>by have:=hD P a;omega) ?_⟩);rintro _ d5 ⟨rfl,b8⟩;have a3:=C.then b8;have b9:d5.heap[w.heap.size]? =some (.cells (dL c d tn Q r B R).toArray 29 (0,0)):=b8.get E id;refine⟨_,rfl,an.dI (λl=>Ok.mk ⟨a3,.inl ?_⟩) (λS=>ar (pT c d tn Q r B R) b9 (PC.ok Nj ?_))⟩
 ·have:bY c self=(di c.decl,(yr c).2):=by unfold bY;rw[Zx l]
  rw[this];exact⟨l,rfl⟩
 rintro _ T ⟨rfl,c0⟩;have F:=a3.then c0;have U:=c0.get b9 id;refine⟨_,rfl,an.not (an.mk (λm=>?_) (λm=>Ok.mk ⟨F,.inl ?_⟩))⟩
 rotate_left
 ·have:bY c self=(1,(yr c).2):=by unfold bY;rw[Zq (by simpa using S),Zx m]
  rw[this];exact⟨show(1:Int)≠0 by decide,rfl⟩
 have a4:bY c self=yr c:=by unfold bY;rw[Zq (by simpa using S),Zq (by rw[m];simp)]
 have c1:kY c self:=⟨m,S,hs,d3,d4⟩
 have c2:=m;unfold gX within at c2;simp only[QK,Zk]at c2;refine⟨_,ae U rfl,PC.ok (se (A.then F) oM oM) ?_⟩;rintro _ c3 ⟨dp,rfl,d6,V⟩;obtain⟨Fd,c4,-,d7,-⟩:=d6;have H:∀P,Fd P->T.heap.size<=P/\P<c3.heap.size:=λP a=>⟨Nat.le_of_not_lt (d7 P a).2,c4.aF P a⟩
 have W:=F.then V;have X:=V.get U id;refine⟨_,_,rfl,an.dI (λl=>Zz rfl l) (λ_=>⟨_,_,_,_,_,_,ae X rfl,ae X rfl,PC.ok (Kn (hd.ah W) λP a=>by have:=hD P a;have:=W.size;omega) ?_⟩)⟩;rintro _ c5 ⟨n,Ab,o,p,q,s,I,rfl,d8,J,K⟩;have c6:=W.then K;have d9:=K.get X id;have f6:=C.size;have f7:=F.size;have g1:=V.size;have g2:=K.size;have g3:=ay E;have e8:w.heap.size<T.heap.size:=ay U;refine⟨_,_,_,_,_,_,rfl,PS.mk d9 (by simp[dL]) λg4 e0 g5 e1=>PS.mk e1 (by simp[dL]) λY e2 g6 e3=>λt c7=>?_⟩;have Z:ak (λP=>P=w.heap.size) c5 Y:=e0.then e2;have L:ai Y t:=c7.af;have g7:t.heap.size=Y.heap.size:=by rw[c7.heap]
 have e:t.heap[w.heap.size]? =some (.cells (dL c n Ab o p q s).toArray 29 (0,0)):=L.get e3 id;have c8:ai w t:=(c6.new Z λP a=>.inr (by have a:P=w.heap.size:=a;omega)).then L;have h:∀{P:Nat},T.heap.size<=P->P≠w.heap.size:=λ{P} a=>by omega
 refine⟨λ_=>False,id,_,_,_,_,_,_,_,_,_,_,_,_,_,_,ae e rfl,ae e rfl,ae e rfl,ae e rfl,ae e rfl,ae e rfl,ae e rfl,ae e rfl,ae e rfl,ae e rfl,_,ae e rfl,id,_,ae e rfl,PC.ok (IM oM) ?_⟩;rintro _ e4 ⟨i,rfl,c9,e9,f2,b4⟩;refine⟨_,rfl,b4,PC.ok HU ?_⟩;rintro _ g ⟨tp,M,rfl,a5,N,d0⟩;have g8:=b4.size;have g9:=N.size;have d1:=a5.aF;refine⟨_,rfl,N,PA.mk λb5 O h2 e5=>⟨O,?_⟩⟩
 let f:iZ:=⟨n,Ab,o,p,q,s,dp,none,0,0,i,tp⟩
 let a2:bI:=⟨⟨c.br.toNat,[]⟩,eY c.pP.toNat,none,[],⟨c.cV,[],[]⟩⟩
 have d2:b5.heap[g.heap.size]? =some (.cells (wA f c self none none none) 99 (0,0)):=e5;have a0:ai t b5:=(b4.then N).then O;have a1:=c8.then a0;have b6:∃u,bD b5 (λP=>∃k,(match k with|0=>P=g.heap.size|1=>I P|2=>Fd P|5=>P=i|6=>M P|_=>False:Prop)) u (recC g.heap.size (wA f c self none none none) f c a2 false):=by
  refine bD.join (G:=λk P=>match k with|0=>P=g.heap.size|1=>I P|2=>Fd P|5=>P=i|6=>M P|_=>False) (λk=>?_) (λj a9 P b hj=>?_) λk P a=>?_
  ·match k with
   |0=>exact⟨rfl,d2⟩
   |1=>exact(((d8.af Z λP a v=>h (by have:=J P a;omega) v).ah L).ah a0)
   |2=>exact⟨Fd,((((c4.af K λ_ _ f=>f).af Z λP a v=>h (H P a).1 v).af L λ_ _ f=>f).af a0 λ_ _ f=>f),λP a=>a,rfl⟩
   |3=>intro v;cases v
   |4=>trivial
   |5=>exact⟨_,_,c9.ah (N.then O),λ_ f=>f,λP a=>a.elim⟩
   |6=>exact a5.ah O
   |k+7=>trivial
  ·have x:∀j:Nat,(match j with|0=>P=g.heap.size|1=>I P|2=>Fd P|5=>P=i|6=>M P|_=>False:Prop)->j=(if P<c3.heap.size then 2 else if P<c5.heap.size then 1 else if P<e4.heap.size then 5 else if P<g.heap.size then 6 else 0):=λj b=>by
    rcases j with _|_|_|_|_|_|_|j
    ·have b:P=g.heap.size:=b
     rw[Zq oM,Zq oM,Zq oM,Zq oM]
    ·have:=J P b;rw[Zq oM,Zx oM]
    ·have:=H P b;rw[Zx oM]
    ·exact b.elim
    ·exact b.elim
    ·have b:P=i:=b
     rw[Zq oM,Zq oM,Zx oM]
    ·have h5:=d0 P b;have h6:=d1 P b;rw[Zq oM,Zq oM,Zq oM,Zx oM]
    ·exact b.elim
   rw[x j b,<-x a9 hj]
  ·rcases k with _|_|_|_|_|_|_|k
   ·have a:P=g.heap.size:=a
    omega
   ·have:=J P a;omega
   ·have:=H P a;omega
   ·exact a.elim
   ·exact a.elim
   ·have a:P=i:=a
    omega
   ·have:=d1 P a;omega
   ·exact a.elim
 obtain⟨u,hp⟩:=b6;have b7:∀P,(∃k,(match k with|0=>P=g.heap.size|1=>I P|2=>Fd P|5=>P=i|6=>M P|_=>False:Prop))->w.heap.size<=P:=λP ⟨k,a⟩=>by
  rcases k with _|_|_|_|_|_|_|k
  ·have a:P=g.heap.size:=a
   omega
  ·have:=J P a;omega
  ·have:=H P a;omega
  ·exact a.elim
  ·exact a.elim
  ·have a:P=i:=a
   omega
  ·have:=d0 P a;omega
  ·exact a.elim
 refine PC.ok (xo (h:=f) (z1:=none) (z2:=none) (z3:=none) hp c1 ⟨hT,hL,A.then a1,λP a=>by have:=b7 P a;have:=A.size;omega⟩) ?_;rintro _ e6 ⟨rfl,a6,h',F',y,z,a7⟩;have e7:fO c a2=yr c:=rfl;rw[e7]at z a6⊢;have a8:ai w e6:=a1.new a7.af λP a=>.inr (b7 P a);refine⟨_,rfl,an.dI (λl=>Ok.mk ⟨a8,.inl ?_⟩) (λhz=>Ok.mk ⟨a8,.inr ?_⟩)⟩
 ·rw[a4];exact⟨l,rfl⟩
 ·rw[a4]
  exact⟨hz,_,F',rfl,⟨c1,h',y,z⟩,λP a=>(a7.new P a).elim (b7 P) λh5=>by have:=a1.size;omega,a6⟩
end
def Kp(P:World):(callMethod (.iface 97 (XL a)) "State" #[XH e,XH q]).run XP P= .ok (.enter 391 #[XL a,XH e,XH q]) P:=kR
def Fy(P:World):(callMethod (.iface 97 (XL a)) "Entries" #[]).run XP P= .ok (.enter 389 #[XL a]) P:=kR
def Nk(P:World):(callMethod (.iface 97 (XL a)) "Rows" #[XH e]).run XP P= .ok (.enter 390 #[XL a,XH e]) P:=kR
def Cn(P:aR)(a:List aj)(b c:Int):sW:=match(cH P a).state b c with
 |none=>n_ 14
 |some d=>⟨0,(0,0),d,[],[],false⟩
def wg(b:aR)(c:List aj)(a P:Int):sW:=if a<0\/a>=(b.projs.length:Int)then n_ 1 else⟨0,(0,0),⟨0,[]⟩,[],(mN (il b c a) P 32).1,(mN (il b c a) P 32).2⟩
section
variable {w w' w0 w1 w2:World} {p:Nat} {F E D:XN} {cls:Nat->Nat} {h:iZ} {c:cD} {self:Int} {X:bI}
def Bd(P:cI w F cls p h c self X):ZG 66 #[XL p] w (Ok λa w'=>a= .iface 97 (XL h.bp)/\w=w'):=
 m_ ⟨p,0,rfl,_,ae P.bl rfl,Ok.mk ⟨rfl,rfl⟩⟩
def yC(x:bE w p F c self X):ZG 30 #[XL p,XH e,XH q] w (Ok λy w'=>iu w (Cn c.decl X.S.l e q) y w'/\ai w w'):=by
 obtain⟨z,h,cls,n⟩:=x;refine oy (PA.mk λA d S B=>PC.ok (Bd (cI.ah n d)) ?_);rintro _ _ ⟨rfl,rfl⟩;have C:=cI.ah n d;have P:dd A h.bp (λa=>F a/\cls a=4) c.decl c.every.toNat X.S.l:=C.at' 4;refine⟨_,rfl,_,_,Kp,PC.ok (IK P) ?_⟩;rintro _ o ⟨i,j,k,G,rfl,l,r,f⟩;have E:=l.aF;have T:=f.size;refine⟨_,_,_,_,_,rfl,PA.mk λU H V I=>PS.mk I sM λW J Y K=>PS.mk K sM λL M Z m=>?_⟩;have b:ai o L:=H.new (J.then M) λa P=>.inr (by have P:a=o.heap.size:=P;omega);have s:=b.get (f.get B id) id;have b0:=b.size;have t:(((cH c.decl X.S.l).state e q).getD FP).cells.length<=8:=CD (Gh z.decl X.S.l).1 ⟨0,0,0,[],e,q,0,0,0,0⟩;unfold Cn
 cases N:(cH c.decl X.S.l).state e q with
 |none=>
  refine an.tt rfl (aB (kq (n_ 14) none 0 0 none 0 0 none 0 0) s rfl λb1 O b2 Q=>ar (kq (n_ 14) none 0 0 none 0 0 none 0 0) Q (Ok.mk ⟨iu.plain rfl rfl rfl,?_⟩));exact((d.then f).then b).new O λa P=>.inr (by have P:a=w.heap.size:=P;omega)
 |some g=>
  rw[N]at l t m;refine an.ff rfl ⟨_,_,_,_,ae m rfl,ae m rfl,aB (kq ⟨0,(0,0),g,[],[],false⟩ i j k none 0 0 none 0 0) s rfl λb3 u b4 R=>ar (kq ⟨0,(0,0),g,[],[],false⟩ i j k none 0 0 none 0 0) R (Ok.mk ⟨?_,?_⟩)⟩
  ·refine⟨i,j,k,none,0,0,none,0,0,G,rfl,((l.ah b).af u λa P v=>by have v:a=w.heap.size:=v;have:=r a P;omega).row dC (by have:g.cells.length<=8:=t;show g.cells.length*32<=aO;unfold aO;omega),dN _ _,dN _ _,λa P=>⟨by have:=r a P;omega,by have:=E a P;omega⟩⟩
  ·exact((d.then f).then b).new u λa P=>.inr (by have P:a=w.heap.size:=P;omega)
def Nl(b:aR)(P:List aj)(c:Int):(il b P c).length<=P.length:=by
 unfold il;split
 ·simp
 split
 ·simp
 ·rename_i a d
  have f:=KO b P a (QZ d);have e:=(wy (a.rows.map (·.2))).length_eq;rw[Q8]at e;show(a.rows.map (·.2)|>.foldr lQ []).length<=_;omega
def qC(A:bE w p F c self X):ZG 54 #[XL p,XH e,XH q] w (Ok λf w'=>iu w (wg c.decl X.S.l e q) f w'/\ai w w'):=by
 obtain⟨R,h,cls,B⟩:=A;refine ml (PA.mk λg i S r=>?_);have b:=cI.ah B i;have no:(e<0\/e>=(c.decl.projs.length:Int))->xC XP 46 (XL w.heap.size) (.agg (mE (n_ 1) none 0 0 none 0 0 none 0 0).toArray) g λs=>ot XP 46 (XL w.heap.size) s λC=>Ok (λf w'=>iu w (wg c.decl X.S.l e q) f w'/\ai w w') (.returned C) s:=λE=>by
  refine aB (kq (n_ 1) none 0 0 none 0 0 none 0 0) r rfl λT H U I=>ar (kq (n_ 1) none 0 0 none 0 0 none 0 0) I (Ok.mk ⟨?_,i.new H λP a=>.inr (by have a:P=w.heap.size:=a;omega)⟩);unfold wg;rw[Zx E];exact iu.plain rfl rfl rfl
 have V:=(show bf g (λP=>F P/\cls P=1) c.decl h.ta h.tn h.pa h.pn from b.at' 1).yO.len;refine an.dec (λj=>no (.inl j)) (λj=>⟨p,0,rfl,_,_,_,ae b.bl rfl,an.dec (λt=>no (.inr oM)) (λt=>PC.ok (Bd b) ?_)⟩);rintro _ _ ⟨rfl,rfl⟩;have a:dd g h.bp (λP=>F P/\cls P=4) c.decl c.every.toNat X.S.l:=b.at' 4;have W:X.S.l.length<=20000000:=a.1.2.2.2;have Y:=Nl c.decl X.S.l e;refine⟨_,rfl,_,_,Nk,PC.ok (LY a) ?_⟩;rintro _ Z ⟨⟨a0,a1,cc,G,rfl,d,k,hG⟩,J⟩;have hn:=d.len dC;have K:=d.jN;refine⟨_,_,_,rfl,PC.ok (Ki (d.row dC ba) d.aF K J oM) ?_⟩;rintro _ L ⟨a2,rfl,l,m,n,M,rfl,u,o,v⟩;have N:=u.aF;have a9:=k.size;have b0:=o.size;have b1:(mN (il c.decl X.S.l e) q 32).1.length<=32:=by unfold mN;rw[Qy];omega
 have O:ai w L:=(i.then k).then o;refine⟨_,_,_,_,rfl,aB (kq ⟨0,(0,0),⟨0,[]⟩,[],(mN (il c.decl X.S.l e) q 32).1,(mN (il c.decl X.S.l e) q 32).2⟩ none 0 0 none 0 0 l m n) (o.get (k.get r id) id) rfl λb2 x b3 Q=>ar (kq ⟨0,(0,0),⟨0,[]⟩,[],(mN (il c.decl X.S.l e) q 32).1,(mN (il c.decl X.S.l e) q 32).2⟩ none 0 0 none 0 0 l m n) Q (Ok.mk ⟨?_,O.new x λP a=>.inr (by have a:P=w.heap.size:=a;omega)⟩)⟩;unfold wg;rw[Zq (by rintro(y|y);exact j y;exact t oM)];refine⟨none,0,0,none,0,0,l,m,n,M,rfl,dN _ _,dN _ _,(u.af x λP a z=>by have z:P=w.heap.size:=z;have:=v P a;omega).row dC (by show(mN (il c.decl X.S.l e) q 32).1.length*24<=aO;unfold aO;omega),λP a=>⟨by have:=v P a;omega,by have:=N P a;omega⟩⟩
end
def Bw{b:Type}{c:b->Bool}:∀{L:List b} {j:Nat} {P:b},L[j]? =some P->c P=true->(L.filter c)[((L.take j).filter c).length]? =some P
 |[],j,P,a,_=>by simp at a
 |x::L,0,P,a,d=>by simp at a;subst a;simp[d]
 |x::L,j+1,P,a,d=>by
  have e:=Bw (L:=L) (j:=j) (by simpa using a) d;rw[Zw,List.filter_cons,List.filter_cons];split
  ·simpa using e
  ·exact e
variable{E g5:Nat×Nat}
section
variable {w w' wz A B w1:World} {D:XN} {a:ZH} {n c:Nat} {l:List cM} {O R1 R2 f most:Nat} {own L:List (Bx cM)} {pre:List (List Value)}
def SB(b P:Int)(a:cM):Bool:=a.ev.aX==b&&a.ev.agg==P
def CA{e:cM}{a:ZH}{n c:Nat}(i:Row aM 8 w D a n e.ev.aQ)(t:∀P,D P->P<w.heap.size):
  ZG 164 #[DU e a n c] w (Ok λu w'=>∃a n c G,u=DU e a n c/\Row aM 8 w' G a n e.ev.aQ/\(∀P,G P->w.heap.size<=P/\P<w'.heap.size)/\ai w w'):=by
 have v:=i.dB;have x:=i.len;refine x_ (PA.mk λw1 m A f=>PA.mk λB g C j=>⟨_,_,_,ae (g.get f id) rfl,PC.ok (b_ (i.ah (m.then g)) λP b=>by have:=t P b;omega) ?_⟩);rintro _ E ⟨o,p,q,G,rfl,r,h,k⟩;have f:=h.get (g.get f id) id;have j:=h.get j id;have F:=h.size;refine⟨_,_,_,rfl,PS.mk f sM λH l I y=>?_⟩;refine ar (cs:=gD e o p q) (kN _ _ _ _) y (aB (kN _ _ _ _) (l.get j (λd=>by have d:w1.heap.size=w.heap.size:=d;omega)) rfl λJ s K z=>ar (kN _ _ _ _) z (Ok.mk ⟨o,p,q,G,rfl,?_,?_,?_⟩))
 ·refine(((r.af l λP b d=>?_).af s λP b d=>?_).row (bytes:=8) dC (by rw[<-x];exact v))
  ·have d:P=w.heap.size:=d;have:=k P b;omega
  ·have d:P=w1.heap.size:=d;have:=k P b;omega
 ·intro P b
  have:=k P b;have:=r.aF P b;omega
 ·exact((((m.then g).then h).new l λP b=>.inr (by have b:P=w.heap.size:=b;omega)).new s λP b=>.inr (by have b:P=w1.heap.size:=b;omega))
def NA{d:cM}{f h:Nat}(j:w.heap[f]? =some (.cells #[XH e] g E))(k:w.heap[h]? =some (.cells #[XH q] o g5)):
  ZG 163 #[DU d a n c,XL f,XL h] w (Ok λl w'=>l= .bool (SB e q d)/\ai w w'):=by
 refine xZ (PA.mk λw1 P m i=>⟨_,ae i rfl,_,ae (P.get j id) rfl,an.mk (λb=>⟨_,ae i rfl,_,ae (P.get k id) rfl,Ok.mk ⟨?_,P⟩⟩) (λb=>Ok.mk ⟨?_,P⟩)⟩)
 ·unfold SB;rw[b];rfl
 ·unfold SB;rw[b];rfl
structure NJ (wz:World) (O:Nat) (own:List (Bx cM)) (f most:Nat) (pre:List (List Value)) (A:World):Prop where
 af:ak (·=O) wz A
 dB:wz.heap.size+2<=A.heap.size
 nW:∃a n c G,A.heap[O]? =some (.cells #[.slice a n c] 43 (0,0))/\aT xB 160 G A a n c (((own.take pre.length).drop f).map (·.x))/\(∀b,G b->wz.heap.size+2<=b)/\n<=most
structure TP (wz:World) (O R1 R2:Nat) (own:List (Bx cM)) (f most:Nat) (A:World):Prop where
 af:ak (λb=>b=O\/b=R1\/b=R2) wz A
 r2:A.heap[R2]? =some (.cells #[.bool true] 4 (0,0))
 more:most<(own.drop f).length
 nW:∃a n c G,A.heap[R1]? =some (.cells #[.slice a n c] 43 (0,0))/\aT xB 160 G A a n c (((own.drop f).take most).map (·.x))/\(∀b,G b->wz.heap.size+2<=b)
def NJ.ah(b:NJ wz O own f most pre A)(P:ai A B):NJ wz O own f most pre B:=by
 obtain⟨d,e,a,n,c,G,g,h,i⟩:=b;exact⟨d.ah P,Xx e P.size,a,n,c,G,P.get g id,h.ah P,i⟩
def NJ.eE(o:O<wz.heap.size)(h:NJ wz O own f most pre A)(i:ph (wz.heap.size+1) A B):NJ wz O own f most pre B:=by
 obtain⟨j,p,a,n,c,G,k,l,g,m⟩:=h;obtain⟨e,q⟩:=i;exact⟨j.new e λb d=>.inr (by have d:b=wz.heap.size+1:=d;omega),oM,a,n,c,G,e.get k (λP=>by have P:O=wz.heap.size+1:=P;omega),l.af e λb d P=>by have P:b=wz.heap.size+1:=P;have:=g b d;omega,g,m⟩
def TP.eE(q:O<wz.heap.size/\R1<wz.heap.size/\R2<wz.heap.size)(h:TP wz O R1 R2 own f most A){k:Nat}(r:wz.heap.size<=k/\k<=wz.heap.size+1)(i:ph k A B):TP wz O R1 R2 own f most B:=by
 obtain⟨j,l,m,a,n,c,G,o,p,g⟩:=h;obtain⟨b,s⟩:=i;exact⟨j.new b λd e=>.inr (by have e:d=k:=e;omega),b.get l (λP=>by have P:R2=k:=P;omega),m,a,n,c,G,b.get o (λP=>by have P:R1=k:=P;omega),p.af b λd e P=>by have P:d=k:=P;have:=g d e;omega,g⟩
def RV{r s t u:Nat}{R:XU}{Rx:XU}(hO:O<wz.heap.size)(Y:wz.heap[r]? =some (.cells #[XH e] g E))(Z:wz.heap[s]? =some (.cells #[XH q] o g5))(h1:r≠O)(h2:s≠O)(v:∃j f,wz.heap[t]? =some (.cells #[.slice a n c] j f))(h3:t≠O)(w:∃j f,wz.heap[u]? =some (.cells #[.func (.func 163) #[] #[XL r,XL s]] j f))(h4:u≠O)(I:Row KJ.jB 120 wz D a n L)(hD:∀P,D P->P<wz.heap.size/\P≠O)(J:own=L.filter λP=>SB e q P.x)(b6:L.length<=20000000)(hR:∀A B,R A->ak (mU wz) A B->R B)(hy:∀pre l A,NJ wz O own f most pre A->R A->sr [XH 0,DU ⟨qO,false,(0,0)⟩ none 0 0] l->(∃P,own[pre.length]? =some P/\l=[XH (pre.length:Int),DU P.x P.a P.n P.c])->jh XP (wz.heap.size+1) l A λP d=>(P=true/\NJ wz O own f most (pre++[l]) d/\R d)\/(P=false/\TP wz O R1 R2 own f most d/\Rx d))(K:NJ wz O own f most [] w1)(a4:R w1):
  ZG 237 #[.func (.yield (wz.heap.size+1)) #[] #[],XL t,XL u] w1 (λj d=>(∃a0,j= .returned a0)/\((R d/\∃k:List (List Value),NJ wz O own f most k d/\k.length=own.length)\/(TP wz O R1 R2 own f most d/\Rx d))):=by
 obtain⟨e3,f3,v⟩:=v;obtain⟨e4,f4,w⟩:=w;have hn:=I.len;refine ud ⟨_,_,_,ae (K.af.get v h3) rfl,λM a1 x w'=>∃(b:Nat) (pre:List (List Value)),x=b/\b<=n/\M=n-b/\a1=(pre.length:Int)/\pre.length=((L.take b).filter λP=>SB e q P.x).length/\NJ wz O own f most pre w'/\R w',⟨_,0,[],rfl,Qj _,rfl,rfl,rfl,K,a4⟩,?_⟩;rintro M _ _ _ N ⟨b,pre,rfl,hj,rfl,rfl,i,m,Q⟩;refine an.dec (λb7=>?_) (λb8=>?_)
 ·obtain⟨P,h⟩:∃P,L[b]? =some P:=⟨_,Qq oM⟩
  obtain⟨a2,a3,es,ha,a5,a6,y,rfl,-⟩:=(I.af m.af λP h=>(hD P h).2).el b P h;have b3:pre.length<=20000000:=by
   rw[i];have h5:=List.length_filter_le (λP:Bx cM=>SB e q P.x) (L.take b);have h6:=List.length_take_le b L;omega
  refine⟨a2,a3,ha,oM,oM,bC (es:=gD P.x P.a P.n P.c) (k:=13) (kN _ _ _ _) rfl (λx ht=>by rw[Qx];exact y x ht) (PA.mk λb9 a7 c0 a8=>aB (kN P.x P.a P.n P.c) a8 rfl λa9 b0 c1 S=>?_)⟩;have T:ai N a9:=a7.new b0 λP h=>.inr (by have h:P=N.heap.size:=h;omega);have z:=m.ah T;refine⟨_,ae (z.af.get w h4) rfl,ar (kN P.x P.a P.n P.c) S ⟨_,_,_,rfl,kR,PC.ok (NA (z.af.get Y h1) (z.af.get Z h2)) ?_⟩⟩;rintro _ b1 ⟨rfl,U⟩;have V:=T.then U;have W:=m.ah V;have X:=hR _ _ Q (ai.af V);refine⟨_,rfl,an.not (an.mk (λp=>?_) (λp=>⟨_,oM,b+1,pre,aq oM,oM,rfl,rfl,?_,W,X⟩))⟩
  rotate_left
  ·rw[Qw,h,List.filter_append,i];simp[p]
  refine ar (kN P.x P.a P.n P.c) (U.get S id) ⟨_,rfl,(hy pre _ b1 W X ?_ ⟨P,?_,rfl⟩).mono ?_⟩
  ·exact λφ C=>C pre.length P.x.ev.origin P.x.ev.seq P.x.ev.aA P.a P.n P.c P.x.ev.aX P.x.ev.agg P.x.ev.field P.x.ev.op P.x.ev.arg P.x.ev.key P.x.void P.x.DT.1 P.x.DT.2
  ·rw[J,i];exact Bw h p
  ·rintro b' d (⟨rfl,F,b5⟩|⟨rfl,H,b2⟩)
   ·refine an.ff rfl ⟨_,oM,b+1,pre++[_],aq oM,oM,rfl,?_,?_,F,b5⟩
    ·rw[aq oM];simp
    ·rw[Qw,h,List.filter_append,QX,QX,<-i];simp[p]
   ·exact an.tt rfl ⟨⟨_,rfl⟩,.inr ⟨H,b2⟩⟩
 ·rw[Qz oM]at i
  exact⟨⟨_,rfl⟩,.inl ⟨Q,pre,m,by rw[J];exact i⟩⟩
end
section
variable {w w' wz A B w1:World} {D:XN} {a:ZH} {n c:Nat} {l:List cM}
def HV{most:Nat}(I:Row xB 120 w D a n l)(hD:∀P,D P->P<w.heap.size)(hm:most<=1000)(hl:l.length<=20000000)(k1:aN S):
  ZG 109 #[.slice a n c,XH e,XH q,XH S,XH (most:Int)] w (Ok λa6 w'=>∃N,a6= .tuple #[N,.bool (jJ l e q S most).2]/\oK xB 160 w (jJ l e q S most).1 N w'):=by
 obtain⟨V,c1,hL,e8⟩:=eI.boxes (N:=KJ) I;have k5:V.length=l.length:=by rw[<-c1,Q8]
 obtain⟨own,p⟩:∃own,own=V.filter λP=>SB e q P.x:=⟨_,rfl⟩
 obtain⟨i,hf⟩:∃i:Nat,i=(max S 0).toNat:=⟨_,rfl⟩
 have c7:own.map (·.x)=l.filter λb=>b.ev.aX==e&&b.ev.agg==q:=by rw[p,<-c1,List.filter_map];rfl
 have e9:jJ l e q S most=(((own.drop i).take most).map (·.x),decide (most<(own.drop i).length)):=by
  unfold jJ;rw[<-c7,<-hf];simp only[List.map_take,List.map_drop,XZ,Q8]
 rw[e9];have h4:own.length<=20000000:=by rw[p];have:=List.length_filter_le (λP:Bx cM=>SB e q P.x) V;omega
 refine Ca (PA.mk λw6 k6 s6 g6=>PA.mk λv k7 s7 g7=>PA.mk λw8 k8 s8 g8=>PA.mk λj k9 s9 g9=>PA.mk λk a0 l0 f3=>PA.mk λm W l3 f4=>PA.mk λf6 O l4 f7=>?_);have a7:=(((k8.then k9).then a0).then W).then O;have c8:=a7.get (show v.heap[w6.heap.size]? =_ from g7) id;have k2:(if 0>(if False then(0:Int)else S)then 0 else S)=(i:Int):=by simp;split<;>omega
 refine⟨_,ae ((((k9.then a0).then W).then O).get g8 id) rfl,?_⟩;have g0:(if 0>S then(0:Int)else S)=(i:Int):=by rw[hf];split<;>omega
 rw[g0];refine PS.mk ((((k9.then a0).then W).then O).get g8 id) sM λE J l5 g1=>?_;have c9:E.heap[v.heap.size]? =some (.cells #[XH (i:Int)] 3 (0,0)):=g1;have d0:ai w f6:=((k6.then k7).then a7)
 have d1:ai w E:=d0.new J λP d=>.inr (by have d:P=v.heap.size:=d;omega);have d2:=J.get ((k7.then a7).get g6 id) (λb=>by have b:w.heap.size=v.heap.size:=b;omega);have d5:=J.get c8 (λb=>by have b:w6.heap.size=v.heap.size:=b;omega);have d6:=J.get (((a0.then W).then O).get g9 id) (λb=>by have b:w8.heap.size=v.heap.size:=b;omega);have d8:=J.get ((W.then O).get f3 id) (λb=>by have b:j.heap.size=v.heap.size:=b;omega);have e1:=J.get (O.get f4 id) (λb=>by have b:k.heap.size=v.heap.size:=b;omega);have e2:=J.get f7 (λb=>by have b:m.heap.size=v.heap.size:=b;omega);refine PC.ok (φ:=λa6 w'=>a6= .func (.func 237) #[] #[XL E.heap.size,.pointer (some ⟨E.heap.size+1,0,none⟩)]/\w'.heap[E.heap.size]? =some (.cells #[.slice a n c] 43 (0,0))/\(∃b ff,w'.heap[E.heap.size+1]? =some (.cells #[.func (.func 163) #[] #[XL w.heap.size,XL w6.heap.size]] b ff))/\ai E w'/\w'.heap.size=E.heap.size+2)
  (zH (PA.mk λw3 k3 s3 g3=>PA.mk λw4 k4 s4 g4=>Ok.mk ⟨by rw[s3],k4.get g3 id,⟨_,_,by rw[<-s3];exact g4⟩,k3.then k4,oM⟩)) ?_
 rintro _ wz ⟨rfl,g2,g5,y,sz⟩;have h:=d1.then y;have a8:=y.get d2 id;have a9:=y.get d5 id;have b0:=y.get d6 id;have b1:=y.get c9 id;have K:=y.get d8 id;have L:=y.get e1 id;have X:=y.get e2 id;have Y:m.heap.size<wz.heap.size:=ay X;have d3:j.heap.size<wz.heap.size:=ay K;have d4:k.heap.size<wz.heap.size:=ay L;have b2:∀P,D P->P<wz.heap.size/\P≠m.heap.size:=λP d=>⟨by have:=hD P d;have:=h.size;omega,λb=>by have:=hD P d;omega⟩
 have e3:∀P∈V,KJ.In wz D P:=λP d=>(e8 P d).af h λ_ _ I=>I;have e5:∀{c0:Nat} {P:Bx cM},own[c0]? =some P->P∈V:=λ{c0 P} d=>by
  have:=QZ d;rw[p]at this;exact(List.mem_filter.1 this).1
 refine⟨_,rfl,237,_,rfl,kR,Unit,(),λ_=>NJ wz m.heap.size own i most,λN _ A=>N= .ret/\TP wz m.heap.size j.heap.size k.heap.size own i most A,
  λf Q=>∃P,own[f.length]? =some P/\Q=[XH (f.length:Int),DU P.x P.a P.n P.c],λz=>z.length=own.length,?_,λ_ f A B M t=>M.eE Y t,λN f A B hx t=>⟨hx.1,hx.2.eE ⟨Y,d3,d4⟩ ⟨oM,oM⟩ t⟩,?_,?_,?_,?_,trivial⟩
 ·intro w1 hk hs
  refine⟨ai.af hk,oM,none,0,0,λ_=>False,hk.get X id,?_,λP d=>d.elim,Qj _⟩;simpa using aT.nil w1
 ·rintro _ f A M l6 l7 l8 l9 m0 ta tn tc m1 m2 m3 m4 m5 m6 m7 m8 m9 ⟨P,d,he⟩
  simp only[gD,aD,List.cons_append,List.nil_append,List.cons.injEq,Value.agg.injEq,Array.mk.injEq,Value.int.injEq,XX,Value.bool.injEq,and_true,true_and]at he;obtain⟨rfl,rfl,rfl,rfl,⟨rfl,rfl,rfl⟩,rfl,rfl,rfl,rfl,rfl,rfl,rfl,rfl,rfl⟩:=he;have n0:f.length<own.length:=(Qv.1 d).1;refine PA.mk λn1 h0 n3 h8=>aB (kN P.x P.a P.n P.c) h8 rfl λh9 i0 n4 i1=>?_;have c2:ai A h9:=h0.new i0 λP d=>.inr (by have d:P=A.heap.size:=d;omega);refine⟨ai.af c2,λb3 t=>?_⟩;have c3:=(M.ah c2).eE Y t;have i2:=t.1.get i1 (λb=>by have b:A.heap.size=wz.heap.size+1:=b;omega);have n8:=t.2;have Z:=c3.af;have c4:∀Q:List Value,(((own.take (f++[Q]).length).drop i)=if f.length<i then []else((own.take f.length).drop i)++[P]):=λQ=>by
   rw[QX,List.length_singleton,Qw,d];have i3:(own.take f.length).length=f.length:=by rw[Qy];omega
   split
   ·rename_i r
    exact List.drop_eq_nil_of_le (by rw[QX,i3];simp;omega)
   ·rename_i r
    rw[List.drop_append_of_le_length oM];rfl
  obtain⟨o,x,C,F,R,G,u,s,r,h6⟩:=c3;have a1:=s.len dC;rw[Q8,XZ,Qy,X2 oM]at a1;refine⟨_,ae (Z.get b1 (λb=>by have b:v.heap.size=m.heap.size:=b;omega)) rfl,an.dec (λn9=>⟨ak.refl _,?_⟩) (λo0=>⟨_,_,_,ae u rfl,_,ae (Z.get b0 (λb=>by have b:w8.heap.size=m.heap.size:=b;omega)) rfl,an.dec (λi4=>?_) (λi5=>λd7 i6=>?_)⟩)⟩
  ·refine⟨o,x,C,F,R,G,u,?_,r,h6⟩
   rw[c4,Zx oM];rw[List.drop_eq_nil_of_le (by rw[Qy];omega)]at s;exact s
  ·have e6:F=most:=oM
   have b4:=Z.get K (λb=>by have b:j.heap.size=m.heap.size:=b;omega);have b5:=Z.get L (λb=>by have b:k.heap.size=m.heap.size:=b;omega);refine⟨_,_,_,ae u rfl,PS.mk b4 sM λo1 d9 o2 i7=>PS.mk (d9.get b5 (λb=>by have b:k.heap.size=j.heap.size:=b;omega)) sM λi8 e0 o3 i9=>?_⟩;have T:ak (λP=>P=j.heap.size\/P=k.heap.size) b3 i8:=(d9.mono λP _ b=>.inl b).then (e0.mono λP _ b=>.inr b);have j0:(own.drop i).take most=(own.take f.length).drop i:=by
    rw[<-e6,a1,List.drop_take]
   refine⟨T.mono λP _ d=>⟨by rcases d with rfl|rfl<;>omega,by rcases d with rfl|rfl<;>omega⟩,.inl rfl,rfl,(o.mono λP _ b=>.inl b).then (T.mono λP _ b=>.inr b),i9,by rw[XZ];omega,C,F,R,G,e0.get i7 (λb=>by have b:j.heap.size=k.heap.size:=b;omega),?_,r⟩;rw[j0];exact s.af T λP d b=>by have:=r P d;rcases b with rfl|rfl<;>omega
  ·have U:ai b3 d7:=i6.af
   have c5:=(e3 P (e5 d)).af Z λP d b=>(b2 P d).2 b;have e7:Row aM 8 d7 D P.a P.n P.x.ev.aQ:=c5.1.ah U;have f0:P.x.ev.Ok:=c5.2;refine⟨λ_=>False,id,_,_,_,ae (U.get u id) rfl,ar (kN P.x P.a P.n P.c) (U.get i2 id) (PC.ok (CA e7 λP d=>by have:=(b2 P d).1;have:=U.size;omega) ?_)⟩;rintro _ o4 ⟨f1,n2,f2,G2,rfl,j1,b6,b7⟩;have o5:=U.size;have o6:=b7.size;refine⟨_,_,_,_,_,_,_,_,_,_,_,_,_,_,_,rfl,b7,PA.mk λo7 b8 o8 j2=>⟨b8,?_⟩⟩;have a2:=(U.then b7).then b8;refine ep (c:=xB) (x:=P.x) (s.ah a2) PV j2 (D:=G2) ⟨f1,n2,f2,rfl,j1.ah b8,f0⟩ (λP d=>⟨by have:=b6 P d;omega,λb=>by have:=s.aF P (s.self P b);have:=b6 P d;omega⟩) (by rw[Q8,XZ,Qy];unfold aO;omega) (by rw[Q8,XZ,Qy];unfold maxLen;omega) λa' c' o9 F' f5 b9 j3=>⟨_,_,_,rfl,?_⟩
   have g:∀P,aI C=some P->wz.heap.size+2<=P:=λP d=>r P (s.self P d);have j4:¬aI C=some m.heap.size:=λb=>by have:=g _ b;omega
   have p0:=b9.size;have p1:=a2.size;have H:∀P,F' P->wz.heap.size+2<=P:=λP d=>by
    rcases j3 P d with h7|h7|h7
    ·exact r P h7
    ·have:=b6 P h7;omega
    ·omega
   refine PS.mk (b9.get (a2.get u id) j4) sM λj5 e4 p2 j6=>?_;have T:ak (λP=>aI C=some P\/P=m.heap.size) b3 j5:=((ai.af a2).then (b9.mono λP _ b=>.inl b)).then (e4.mono λP _ b=>.inr b);refine⟨T.mono λP _ d=>⟨?_,?_⟩,⟨(o.new (T.mono λP _ b=>b) λP d=>d.elim (λb=>.inr (by have:=g P b;omega)) .inl),oM,a',F+1,c',F',j6,?_,H,oM⟩⟩
   ·rcases d with d|rfl
    ·have:=g P d;omega
    ·omega
   ·rcases d with d|rfl
    ·have:=g P d;omega
    ·omega
   ·rw[c4,Zq oM,Q3]
    exact f5.af e4 λP d b=>by have b:P=m.heap.size:=b;have:=H P d;omega
 ·intro f8 Rx hR _ p3 hy w1 j7 f9
  refine Calls.mono (RV (own:=own) (f:=i) (most:=most) (R:=f8) (Rx:=Rx .ret) (R1:=j.heap.size) (R2:=k.heap.size) Y a8 a9 oM oM ⟨_,_,y.size|>λ_=>g2⟩ oM g5 oM (hL.ah h) b2 p oM hR (λf Q A M j8 t hN=>(hy () f Q A M j8 t hN).mono ?_) j7 f9) ?_
  ·rintro P A' (I|⟨o,N,⟨rfl,x⟩,u⟩)
   ·exact .inl I
   ·exact .inr ⟨o,x,u⟩
  ·rintro b A' ⟨hv,I⟩
   refine⟨hv,?_⟩;rcases I with⟨o,z,x,u⟩|⟨o,x⟩
   ·exact .inl ⟨o,(),z,x,u⟩
   ·exact .inr ⟨.ret,[],⟨rfl,o⟩,x⟩
 ·rintro _ z A M c6 hm
  obtain⟨o,x,C,F,R,G,u,s,r,h6⟩:=M;have a1:=s.len dC;rw[c6,List.take_length]at s;rw[c6,List.take_length,Q8,XZ]at a1;have b4:=o.get K (λb=>by have b:j.heap.size=m.heap.size:=b;omega);have b5:=o.get L (λb=>by have b:k.heap.size=m.heap.size:=b;omega);refine⟨_,_,_,ae u rfl,PS.mk b4 sM λp4 a3 p5 j9=>PS.mk (a3.get b5 (λb=>by have b:k.heap.size=j.heap.size:=b;omega)) sM λp6 a4 p7 k0=>?_⟩;refine⟨a4.get (a3.get hm (λb=>by have b:wz.heap.size=j.heap.size:=b;omega)) (λb=>by have b:wz.heap.size=k.heap.size:=b;omega),λp8 t=>?_⟩;have a5:=t.1;have h1:=a5.get (a4.get j9 (λb=>by have b:j.heap.size=k.heap.size:=b;omega)) (λb=>by have b:j.heap.size=wz.heap.size:=b;omega);have h2:=a5.get k0 (λb=>by have b:k.heap.size=wz.heap.size:=b;omega);refine⟨_,_,_,ae h1 rfl,_,ae h2 rfl,Ok.mk ⟨_,?_,C,F,R,G,rfl,?_,?_,λP d=>by have:=r P d;have:=h.size;omega⟩⟩
  ·rw[Xv (by rw[XZ];omega)]
  ·rw[Qz (by rw[XZ];omega)]
   exact((s.af a3 λP d b=>by have b:P=j.heap.size:=b;have:=r P d;omega).af a4 λP d b=>by have b:P=k.heap.size:=b;have:=r P d;omega).af a5 λP d b=>by have b:P=wz.heap.size:=b;have:=r P d;omega
  ·refine(((h.new o λP d=>.inr (by have d:P=m.heap.size:=d;omega)).new a3 λP d=>.inr (by have d:P=j.heap.size:=d;omega)).new a4 λP d=>.inr (by have d:P=k.heap.size:=d;omega)).new a5 λP d=>.inr (by have d:P=wz.heap.size:=d;have:=h.size;omega)
 ·rintro f A ⟨-,hx⟩ hm
  refine⟨hm,λp9 t=>?_⟩;obtain⟨o,x,h3,C,F,R,G,u,s,r⟩:=hx.eE ⟨Y,d3,d4⟩ ⟨oM,oM⟩ t;refine⟨_,_,_,ae u rfl,_,ae x rfl,Ok.mk ⟨_,by rw[Zy h3],C,F,R,G,rfl,s,?_,λP d=>by have:=r P d;have:=h.size;omega⟩⟩;exact h.new o λP d=>.inr (by rcases d with d|d|d<;>omega)
end
def yD(a:aR)(b:List aj)(c d P:Int):sW:=⟨0,(0,0),⟨0,[]⟩,(jJ (cH a b).entries c d P 32).1,[],(jJ (cH a b).entries c d P 32).2⟩
section
variable {w w' w0 w1 w2:World} {p:Nat} {F E D:XN} {cls:Nat->Nat} {h:iZ} {c:cD} {self:Int} {X:bI}
def AA(s:bE w p F c self X)(t:aN S):ZG 53 #[XL p,XH e,XH q,XH S] w (Ok λu w'=>iu w (yD c.decl X.S.l e q S) u w'/\ai w w'):=by
 obtain⟨I,h,cls,k⟩:=s;refine lz (PA.mk λv b J x=>PC.ok (Bd (cI.ah k b)) ?_);rintro _ _ ⟨rfl,rfl⟩;have y:=cI.ah k b;have P:dd v h.bp (λa=>F a/\cls a=4) c.decl c.every.toNat X.S.l:=y.at' 4;have z:=(vi c.decl X.S.l P.1.2.2.2).1;refine⟨_,rfl,_,_,Fy,PC.ok (DX P) ?_⟩;rintro _ K ⟨L,M,N,G,rfl,l,d,O⟩;refine⟨_,_,_,rfl,PC.ok (HV (most:=32) (l.row dC ba) l.aF oM z t) ?_⟩;rintro _ A ⟨Q,rfl,f,g,i,B,rfl,m,j,n⟩;have C:=m.aF;have R:=d.size;have T:=j.size;have U:(jJ (cH c.decl X.S.l).entries e q S 32).1.length<=32:=by unfold jJ;rw[Qy];omega
 have E:ai w A:=(b.then d).then j;refine⟨_,_,_,_,rfl,aB (kq (yD c.decl X.S.l e q S) none 0 0 f g i none 0 0) (j.get (d.get x id) id) rfl λV o W H=>ar (kq (yD c.decl X.S.l e q S) none 0 0 f g i none 0 0) H (Ok.mk ⟨?_,E.new o λa P=>.inr (by have P:a=w.heap.size:=P;omega)⟩)⟩;refine⟨none,0,0,f,g,i,none,0,0,B,rfl,dN _ _,(m.af o λa P r=>by have r:a=w.heap.size:=r;have:=n a P;omega).row dC (by show(jJ (cH c.decl X.S.l).entries e q S 32).1.length*120<=aO;unfold aO;omega),dN _ _,λa P=>⟨by have:=n a P;omega,by have:=C a P;omega⟩⟩
end
variable{p:Array Value}{b9:Int}{a9:List cQ}{g2:List dE}{c:Nat}{Q W:Operand}{c2:ZH}{h:Program}{b8 u:Value}{R:Value->Prop}{b:World}{b3:bj}{e7:c_}{e6:sW}
def OT:(do eqGuard .neq 39 Q W (.agg #[XH e,XH q]) (.agg #[XH S,XH b9]);binOp .neq 39 (.agg #[XH e,XH q]) (.agg #[XH S,XH b9]):Sem Value).run XP b= .ok (.bool (!(e==S&&q==b9))) b:=by
 have P:=JM (x:=Q) (y:=W) (a:=e) (b:=q) (c:=S) (d:=b9) (w:=b);rw[Sem.run_bind,run_eqGuard_agg b .eql _ Q W _ _ kR,Result.andThen_ok,run_eql_struct]at P;rw[Sem.run_bind,run_eqGuard_agg b .neq _ Q W _ _ kR,Result.andThen_ok,run_neq_struct];generalize(Op.equalIn 10000 39 (.agg #[XH e,XH q]) (.agg #[XH S,XH b9])).run XP b=a at P⊢
 cases a with
 |ok c d=>simp only[Result.andThen_ok,Result.ok.injEq,Value.bool.injEq]at P⊢;obtain⟨rfl,rfl⟩:=P;exact⟨rfl,rfl⟩
 |_=>simp[Result.andThen]at P
def Td(a:dE)(b:World):(do eqGuard .neq 269 Q W (.agg (bg a).toArray) (.agg (bg a).toArray);binOp .neq 269 (.agg (bg a).toArray) (.agg (bg a).toArray):Sem Value).run XP b= .ok (.bool false) b:=by
 have e:Tryz.prog.underlying 269=some (.struct (Tryz.prog.fieldsOf 269)):=kR
 have c:Tryz.prog.underlying 3=some (.int .i64):=kR
 have P:(Tryz.prog.fieldsOf 269).toList.map (λd=>(d.name,d.type,d.offset))=[("Group",3,0),("Value",3,1),("Count",3,2)]:=kR
 rw[Sem.run_bind,run_eqGuard_agg b .neq _ Q W _ _ kR,Result.andThen_ok,run_neq_struct,run_equalIn_struct b 9999 _ _ _ e kR];generalize(Tryz.prog.fieldsOf 269).toList=f at P
 match f,P with
 |[d,t,u],P=>
  simp only[QY,List.map_nil,List.cons.injEq,Prod.mk.injEq,and_true]at P;obtain⟨⟨g,h,i⟩,⟨j,k,l⟩,m,n,o⟩:=P;have p:(isAgg 3).run XP b= .ok false b:=cU _ _ _ kR ⟨_,c⟩ b;have q:=run_equalIn_int (P:=XP) b 9998 3 .i64 .i64 a.group a.group c;have r:=run_equalIn_int (P:=XP) b 9998 3 .i64 .i64 a.value a.value c;have s:=run_equalIn_int (P:=XP) b 9998 3 .i64 .i64 a.count a.count c;unfold Op.eqFields Op.eqFields Op.eqFields Op.eqFields;rw[g,h,i,j,k,l,m,n,o];simp[part,p,q,r,s,bg]
 |[],P=>simp at P
 |[_],P=>simp at P
 |[_,_],P=>simp at P
 |_::_::_::_::_,P=>simp at P
section
variable {w w':World} {D E:XN} {a b:ZH} {n m c d:Nat}
def Ch(f:Row fg 32 w D a n a9)(h:Row fg 32 w E b m a9):ZG 161 #[.slice a n c,.slice b m d] w (Ok λu w'=>u= .bool true/\ai w w'):=by
 have F:=f.len;have H:=h.len;have v:=f.dB;unfold aO at v;refine xY (an.dI (λe=>Zz oM e) (λ_=>?_));refine⟨λj i w'=>∃P:Nat,i=P/\P<=n/\j=n-P/\ai w w',⟨_,0,rfl,Qj _,rfl,ak.refl w⟩,?_⟩;rintro j i _ I ⟨P,rfl,J,rfl,k⟩;refine an.dec (λK x y=>?_) (λ_=>Ok.mk ⟨rfl,k⟩);have g:ai w x:=k.then y.af;obtain⟨l,o,L,M,rfl,_,_,z,p,N,O,Q,rfl,A,_⟩:=(f.ah g).wK (i:=P) oM;obtain⟨q,r,R,S,rfl,_,_,s,t,T,U,V,rfl,B,_⟩:=(h.ah g).wK (i:=P) oM;rw[z]at s;cases s
 refine⟨l,o,rfl,oM,oM,_,p 0 dC,q,r,rfl,oM,oM,_,t 0 dC,an.dI (λe=>Zz rfl e) (λ_=>?_)⟩;refine⟨l,o,rfl,oM,oM,_,_,_,p 1 dC,q,r,rfl,oM,oM,_,_,_,t 1 dC,PC.ok (iF A B) ?_⟩;rintro _ W ⟨rfl,C⟩;exact⟨_,rfl,an.not (an.dec (λ_=>⟨_,oM,P+1,aq oM,oM,rfl,g.then C.af⟩) (λe=>Zz rfl e))⟩
def Ci{s:lJ}(h:Row fg 32 w D a n s.cells)(i:Row fg 32 w E b m s.cells):ZG 106 #[.agg #[XH s.version,.slice a n c],.agg #[XH s.version,.slice b m d]] w (Ok λj w'=>j= .bool true/\ai w w'):=by
 refine xP (PA.mk λp e q k=>PA.mk λr P t f=>?_);have g:=P.get k id;refine⟨_,ae g rfl,_,ae f rfl,an.dO (λ_=>?_) (λl=>Zz rfl l)⟩;refine⟨_,_,_,ae g rfl,_,_,_,ae f rfl,PC.ok (Ch (h.ah (e.then P)) (i.ah (e.then P))) ?_⟩;rintro _ u ⟨rfl,o⟩;exact⟨_,rfl,Ok.mk ⟨rfl,(e.then P).then o⟩⟩
def ym{C:List cM}(p:Row xB 120 w D a n C)(F:Row xB 120 w E b m C):ZG 107 #[.slice a n c,.slice b m d] w (Ok λN w'=>N= .bool true/\ai w w'):=by
 have Y:=p.len;have Z:=F.len;have O:=p.dB;unfold aO at O;refine tG (an.dI (λg=>Zz oM g) (λ_=>?_));refine⟨λH i w'=>∃e:Nat,i=e/\e<=n/\H=n-e/\ai w w',⟨_,0,rfl,Qj _,rfl,ak.refl w⟩,?_⟩;rintro H i _ w1 ⟨e,rfl,hj,rfl,I⟩;refine an.dec (λh1 q Q=>?_) (λ_=>Ok.mk ⟨rfl,I⟩);have r:ai w q:=I.then Q.af;obtain⟨h,j,k,es,rfl,R,_,S,J,s,t,u,rfl,T,_⟩:=(p.ah r).wK (i:=e) oM;obtain⟨l,o,a0,fs,rfl,U,_,K,L,v,x,y,rfl,V,_⟩:=(F.ah r).wK (i:=e) oM;rw[S]at K;cases K
 have W:∀P,P<10->q.cell? ⟨h,j+e*13+P,none⟩=(aD k.ev s t u)[P]? :=λP f=>(J P (show P<13 by omega)).trans (XW (show P<10 from f));have X:∀P,P<10->q.cell? ⟨l,o+e*13+P,none⟩=(aD k.ev v x y)[P]? :=λP f=>(L P (show P<13 by omega)).trans (XW (show P<10 from f));refine⟨h,j,rfl,oM,oM,bC (es:=aD k.ev s t u) (k:=10) (aZ _ _ _ _) rfl (λP f=>by rw[Qx];exact W P f) ⟨l,o,rfl,oM,oM,bC (es:=aD k.ev v x y) (k:=10) (aZ _ _ _ _) rfl (λP f=>by rw[Qx];exact X P f) (PC.ok (rH T V) ?_)⟩⟩;rintro _ M ⟨rfl,z⟩;have A:∀P,P<13->M.cell? ⟨h,j+e*13+P,none⟩=(gD k s t u)[P]? :=λP f=>(z.cell (a:=⟨h,j+e*13+P,none⟩) R id).trans (J P f);have B:∀P,P<13->M.cell? ⟨l,o+e*13+P,none⟩=(gD k v x y)[P]? :=λP f=>(z.cell (a:=⟨l,o+e*13+P,none⟩) U id).trans (L P f);refine⟨_,rfl,an.not (an.dec (λ_=>?_) (λg=>Zz rfl g))⟩;refine⟨h,j,rfl,oM,oM,_,A 10 dC,l,o,rfl,oM,oM,_,B 10 dC,an.not (an.mk (λ_=>?_) (λg=>by simp at g))⟩;refine⟨h,j,rfl,oM,oM,_,_,A 11 dC,A 12 dC,l,o,rfl,oM,oM,_,_,B 11 dC,B 12 dC,_,λw'=>OT,an.mk (λg=>by simp at g) (λ_=>?_)⟩;exact⟨_,oM,e+1,aq oM,oM,rfl,r.then z⟩
def ES(g:Row Gg 24 w D a n g2)(l:Row Gg 24 w E b m g2):ZG 108 #[.slice a n c,.slice b m d] w (Ok λq w'=>q= .bool true/\ai w w'):=by
 have B:=g.len;have C:=l.len;have r:=g.dB;unfold aO at r;refine zF (an.dI (λh=>Zz oM h) (λ_=>?_));refine⟨λo i w'=>∃P:Nat,i=P/\P<=n/\o=n-P/\ai w w',⟨_,0,rfl,Qj _,rfl,ak.refl w⟩,?_⟩;rintro o i _ F ⟨P,rfl,H,rfl,f⟩;refine an.dec (λI=>?_) (λ_=>Ok.mk ⟨rfl,f⟩);obtain⟨s,t,e,J,rfl,K,_,u,v,rfl,_⟩:=(g.ah f).wK (i:=P) oM;obtain⟨x,y,L,M,rfl,N,_,p,z,rfl,_⟩:=(l.ah f).wK (i:=P) oM;rw[u]at p;cases p
 refine⟨s,t,rfl,oM,oM,bC (es:=bg e) (k:=3) (MI e) rfl (λj k=>by rw[Qx];exact v j k) ⟨x,y,rfl,oM,oM,bC (es:=bg e) (k:=3) (MI e) rfl (λj k=>by rw[Qx];exact z j k) ⟨false,λm=>Td e _,λO A=>an.mk (λh=>by cases h) λ_=>?_⟩⟩⟩;exact⟨_,oM,P+1,aq oM,oM,rfl,f.then A.af⟩
def Au{l m:World}(n:iu l e6 u w)(o:iu m e6 b8 w):ZG 52 #[u,b8] w (Ok λb8 w'=>b8= .bool true/\ai w w'):=by
 obtain⟨A,B,C,E,F,H,I,J,K,G,rfl,p,q,r,L⟩:=n;obtain⟨M,tn,N,O,Q,R,S,T,U,V,rfl,s,t,v,W⟩:=o;refine vz (PA.mk λX x Y y=>PA.mk λz g Z b=>?_);have c:=g.get y id;have P:ai w z:=x.then g;refine⟨_,ae c rfl,_,ae b rfl,an.dO (λ_=>?_) (λe=>Zz rfl e)⟩;refine⟨_,_,ae c rfl,ae c rfl,_,_,ae b rfl,ae b rfl,aH.mk JM ⟨_,rfl,an.mk (λ_=>?_) (λe=>by simp at e)⟩⟩;refine⟨_,_,_,_,ae c rfl,ae c rfl,_,_,_,_,ae b rfl,ae b rfl,PC.ok (Ci (s:=e6.st) (p.ah P) (s.ah P)) ?_⟩;rintro _ w5 ⟨rfl,a⟩;have h:=a.get c id;have i:=a.get b id;refine⟨_,rfl,an.tt rfl ⟨_,_,_,ae h rfl,_,_,_,ae i rfl,PC.ok (ym (q.ah (P.then a)) (t.ah (P.then a))) ?_⟩⟩;rintro _ w6 ⟨rfl,d⟩;have j:=d.get h id;have k:=d.get i id;refine⟨_,rfl,an.tt rfl ⟨_,_,_,ae j rfl,_,_,_,ae k rfl,PC.ok (ES (r.ah ((P.then a).then d)) (v.ah ((P.then a).then d))) ?_⟩⟩;rintro _ w7 ⟨rfl,f⟩;exact⟨_,rfl,an.tt rfl ⟨_,ae (f.get j id) rfl,_,ae (f.get k id) rfl,Ok.mk ⟨sM,((P.then a).then d).then f⟩⟩⟩
end
section
variable {w w':World} {D E:XN} {a b:ZH} {n m c:Nat}
def Cj(h:Row fF 32 w D a n b3.bq):ZG 77 #[.agg (dy b3 a n c).toArray] w (Ok λH w'=>∃p v q e,H= .agg (dy b3 p v q).toArray/\aT fF 125 e w' p v q b3.bq/\ai w w'/\∀b,e b->w.heap.size<=b):=by
 have Y:=h.len;have P:=h.dB;unfold aO at P;refine xN (PA.mk λy I Z J=>PA.mk λr z s7 K=>?_);have L:=z.get J id;have A:=I.then z;refine⟨λB k d l i w'=>i=(d:Int)/\d<=n/\B=n-d/\∃e,aT fF 125 e w' k d l (b3.bq.take d)/\ai r w'/\∀b,e b->r.heap.size<=b,
  ⟨_,rfl,Qj _,rfl,λ_=>False,by simpa using aT.nil r,ak.refl _,λ_ h=>h.elim⟩,?_⟩
 rintro B k d l i _ w1 ⟨rfl,hj,rfl,e,m,f,g⟩;have s:=f.get L id;have C:=A.then f;have E:(b3.bq.take d).length=d:=by simp;omega
 refine⟨_,_,_,ae s rfl,an.dec (λM=>?_) (λM=>?_)⟩
 ·obtain⟨b,t,x,es,rfl,_,_,N,o,rfl,O⟩:=(h.ah C).wK (i:=d) oM
  refine⟨_,_,_,ae s rfl,b,t,rfl,oM,oM,_,_,_,_,o 0 dC,o 1 dC,o 2 dC,o 3 dC,Gc m JN (x:=x) (D:=λ_=>False) ⟨rfl,O⟩ (λ_ h=>h.elim) (by rw[E];unfold aO;omega) (by rw[E];unfold maxLen;omega) λp q Q R S T U _=>?_⟩;refine⟨_,_,_,rfl,n-(d+1),oM,aq oM,oM,rfl,R,?_,f.new T λb P=>.inr (g b (m.self b P)),?_⟩
  ·rw[Qw,N];exact S
  ·intro b P
   have:=f.size;rcases U b P with h|h|h
   ·exact g b h
   ·exact h.elim
   ·omega
 ·obtain rfl:d=n:=oM
  rw[Qz oM]at m;have V:=f.get K id;refine PS.mk s sM λw2 u s2 W=>ar (cs:=dy b3 k d l) (eS _ _ _ _) W (aB (eS _ _ _ _) (u.get V oM) rfl λQ F s3 X=>ar (eS _ _ _ _) X (Ok.mk ⟨k,d,l,e,rfl,?_,?_,λb P=>by have:=g b P;have:=A.size;omega⟩))
  ·exact(m.af u λb P j=>by have j:b=w.heap.size:=j;have:=g b P;omega).af F λb P j=>by have j:b=y.heap.size:=j;have:=g b P;omega
  ·exact(C.new u λb P=>.inr (by have P:b=w.heap.size:=P;omega)).new F λb P=>.inr (by have P:b=y.heap.size:=P;omega)
def ET{tn tc W pc:Nat}(o:bf w D J d tn r W):
  ZG 39 #[.agg #[.slice d tn tc,.slice r W pc]] w (Ok λe0 w'=>∃H Ab a3 I K a7 G,e0= .agg #[.slice H Ab a3,.slice I K a7]/\bf w' G J H Ab I K/\(∀b,G b->w.heap.size<=b/\b<w'.heap.size)/\ai w w'):=by
 have g8:=o.aX.len;have b3:=o.aX.dB;have g9:=o.yO.len;have b4:=o.yO.dB;refine zv (PA.mk λL k4 s4 g4=>PA.mk λh k5 s5 g5=>PA.mk λw6 k6 s6 g6=>?_);have b5:=k4.then k5;have d7:=b5.then k6;have gp:=k6.get (k5.get g4 id) id;have gr:=k6.get g5 id;have z6:=d7.size;refine⟨λm M w'=>∃f:Nat,M=f/\f<=tn/\m=tn-f/\ak (·=h.heap.size) w6 w'/\∃N O X Z,w'.heap[h.heap.size]? =some (.cells #[.slice N O X,.slice none 0 0] 25 (0,0))/\aT jO 130 Z w' N O X (J.types.take f)/\∀b,Z b->w6.heap.size<=b,
  ⟨_,0,rfl,Qj _,rfl,ak.refl _,none,0,0,λ_=>False,g6,aT.nil _,λ_ o=>o.elim⟩,?_⟩
 rintro m _ _ g ⟨f,rfl,hj,rfl,Q,N,O,X,Z,go,v,E⟩;have a4:ai w g:=d7.new Q λb P=>.inr (by have P:b=h.heap.size:=P;have:=b5.size;omega);have zk:=Q.size;have a0:=Q.get gp λc=>by have c:w.heap.size=h.heap.size:=c;omega
 refine⟨_,_,_,ae a0 rfl,an.dec (λj7=>?_) (λj8=>?_)⟩
 ·have h0:f<J.types.length:=oM
  have b6:J.types[f]? =some J.types[f]:=Qq h0;generalize J.types[f]=p at b6;obtain⟨b,A,es,ha,P,j9,e1,fa,fn,fc,rfl,b8⟩:=(o.aX.ah a4).el f p b6;have c0:=e1 0 dC;have h2:jO.k=1:=rfl;rw[h2,Nat.mul_one]at c0;have h3:=b8.len;have b9:=b8.dB;refine PA.mk λk0 h4 k1 h6=>PS.mk h6 sM λa5 h7 k2 h8=>?_;have B:ai g a5:=h4.new h7 λb P=>.inr (by have P:b=g.heap.size:=P;omega);have e2:=B.get a0 id;have d9:=B.size;have e3:=a4.then B;refine⟨λm M w'=>∃k:Nat,M=k/\k<=fn/\m=fn-k/\ak (·=g.heap.size) a5 w'/\∃s t x u,w'.heap[g.heap.size]? =some (.cells #[.slice s t x] 130 (0,0))/\aT oq 123 u w' s t x (p.take k)/\∀b,u b->a5.heap.size<=b,
   ⟨_,0,rfl,Qj _,rfl,ak.refl _,none,0,0,λ_=>False,h8,aT.nil _,λ_ o=>o.elim⟩,?_⟩
  rintro m _ _ a6 ⟨k,rfl,hk,rfl,i,s,t,x,u,y,j,q⟩;have zx:=i.size;have e4:ai w a6:=e3.new i λb P=>.inr (by have P:b=g.heap.size:=P;have:=a4.size;omega);have b2:=i.get e2 λc=>by have c:w.heap.size=g.heap.size:=c;have:=ay a0;omega
  have b7:a6.cell? ⟨b,A+Int.toNat (f:Int),none⟩=some (.slice fa fn fc):=by
   rw[Qx];refine(i.cell (a:=⟨b,A+f,none⟩) (Qk P d9) λc=>by have c:b=g.heap.size:=c;omega).trans ((B.cell (a:=⟨b,A+f,none⟩) P id).trans ?_);exact c0
  refine⟨_,_,_,ae b2 rfl,b,A,ha,oM,oM,_,_,_,b7,an.dec (λe5=>?_) (λe6=>?_)⟩
  ·intro c1 h9
   have l:ai a6 c1:=h9.af;have j6:=e4.then l;have e7:=l.get y id;have e8:=l.get b2 id;have f0:c1.cell? ⟨b,A+Int.toNat (f:Int),none⟩=some (.slice fa fn fc):=(l.cell (a:=⟨b,A+Int.toNat (f:Int),none⟩) (Qk (Qk P d9) zx) id).trans b7;have i0:k<p.length:=oM
   have c2:p[k]? =some p[k]:=Qq i0;generalize p[k]=F at c2;have f1:ai g c1:=(B.new i λb P=>.inr (by have P:b=g.heap.size:=P;omega)).then l;obtain⟨fb,fo,a8,rfl,-,-,c4,ya,yn,yc,rfl,c5,a9⟩:=(b8.ah f1).el k F c2;have f3:=c5.len;have f5:=c5.dB;refine⟨λ_=>False,id,_,_,_,ae e7 rfl,_,_,_,ae e8 rfl,b,A,ha,oM,oM,_,_,_,f0,fb,fo,rfl,oM,oM,bC (es:=dy F ya yn yc) (k:=4) (eS _ _ _ _) rfl (λp ht=>by rw[Qx];exact c4 p ht) (PC.ok (Cj c5) ?_)⟩;rintro _ k3 ⟨a,n,cc,Fm,rfl,c6,e9,f2⟩;have f6:=c6.aF;refine⟨_,_,_,_,_,_,rfl,e9,PA.mk λf4 c7 k7 i1=>⟨c7,?_⟩⟩;have a1:ai a6 f4:=(l.then e9).then c7;have k8:=c6.len dC;have f7:Row fF 32 f4 Fm a n F.bq:=(c6.ah c7).row dC (by rw[<-f3];exact f5);refine ep (c:=oq) (x:=F) (j.ah a1) Oy i1 (D:=Fm) ⟨a,n,cc,rfl,f7,a9⟩ (λb P=>⟨by have:=f6 b P;omega,λc=>by have:=j.aF b (j.self b c);have:=f2 b P;have:=l.size;omega⟩) (by rw[Qy];unfold aO at*;omega) (by rw[Qy];unfold aO at b9;unfold maxLen;omega) λR S i2 z b0 C T=>⟨_,_,_,rfl,?_⟩
   have c9:¬aI s=some g.heap.size:=λc=>by have:=q _ (j.self _ c);omega
   have k9:=a1.size;have i3:=C.size;have zd:=l.size;have e:∀b,z b->a5.heap.size<=b:=λb P=>by
    rcases T b P with Y|Y|Y
    ·exact q b Y
    ·have:=f2 b Y;omega
    ·omega
   refine PS.mk (C.get (a1.get y id) c9) sM λi4 U i5 d0=>⟨_,oM,k+1,aq (by unfold aO at b9;omega),oM,rfl,((i.ah a1).new C λb P=>.inr (q b (j.self b P))).then U,R,t+1,S,z,d0,?_,e⟩
   rw[Qw,c2];exact b0.af U λb P c=>by have c:b=g.heap.size:=c;have:=e b P;omega
  ·rw[Qz oM]at j
   have c3:=i.get (B.get go id) λc=>by have c:h.heap.size=g.heap.size:=c;have:=ay go;omega
   refine⟨_,_,_,ae c3 rfl,_,_,_,ae y rfl,PA.mk λi6 d1 l0 i7=>?_⟩;have b1:ai g i6:=(B.new i λb P=>.inr (by have P:b=g.heap.size:=P;omega)).then d1;refine ep (c:=jO) (x:=p) (v.ah b1) KN i7 (D:=u) ⟨s,t,x,rfl,(j.ah d1).row dC (by rw[<-h3];exact b9)⟩ (λb P=>⟨by have:=j.aF b P;omega,λc=>by have:=v.aF b (v.self b c);have:=q b P;omega⟩) (by rw[Qy];unfold aO at*;omega) (by rw[Qy];unfold aO at b3;unfold maxLen;omega) λR S l3 z f8 d2 T=>⟨_,_,_,rfl,?_⟩
   have i8:¬aI N=some h.heap.size:=λc=>by have:=E _ (v.self _ c);omega
   have l4:=b1.size;have l5:=d2.size;have e:∀b,z b->w6.heap.size<=b:=λb P=>by
    rcases T b P with Y|Y|Y
    ·exact E b Y
    ·have:=q b Y;omega
    ·omega
   refine PS.mk (d2.get (d1.get c3 id) i8) sM λl6 c8 l7 i9=>⟨_,oM,f+1,aq (by unfold aO at b3;omega),oM,rfl,((Q.ah b1).new d2 λb P=>.inr (E b (v.self b P))).then c8,R,O+1,S,z,i9,?_,e⟩
   rw[Qw,b6];exact f8.af c8 λb P c=>by have c:b=h.heap.size:=c;have:=e b P;omega
 ·rw[Qz oM]at v
  have f9:=v.aF;refine⟨λm M w'=>∃f:Nat,M=f/\f<=W/\m=W-f/\ak (·=h.heap.size) g w'/\∃s t x u,w'.heap[h.heap.size]? =some (.cells #[.slice N O X,.slice s t x] 25 (0,0))/\aT uq 128 u w' s t x (J.projs.take f)/\∀b,u b->g.heap.size<=b,
   ⟨_,0,rfl,Qj _,rfl,ak.refl _,none,0,0,λ_=>False,go,aT.nil _,λ_ o=>o.elim⟩,?_⟩
  rintro m _ _ d3 ⟨k,rfl,hk,rfl,i,s,t,x,u,y,j,q⟩;have zx:=i.size;have d4:ai w d3:=a4.new i λb P=>.inr (by have P:b=h.heap.size:=P;have:=b5.size;omega);have d8:=i.get a0 λc=>by have c:w.heap.size=h.heap.size:=c;omega
  refine⟨_,_,_,ae d8 rfl,an.dec (λe5=>?_) (λe6=>?_)⟩
  ·intro j0 j1
   have l:ai d3 j0:=j1.af;have g0:=l.get y id;obtain⟨fb,fo,F,a8,rfl,-,-,j2,c4,rfl,a9⟩:=(o.yO.ah (d4.then l)).wK (i:=k) oM;have V:=λp (ht:p<5)=>c4 p ht;refine⟨λ_=>False,id,_,_,_,ae g0 rfl,_,_,_,ae (l.get d8 id) rfl,fb,fo,rfl,oM,oM,_,_,_,_,_,V 0 dC,V 1 dC,V 2 dC,V 3 dC,V 4 dC,PA.mk λj3 g1 l8 j4=>⟨g1,?_⟩⟩;have a2:ai d3 j3:=l.then g1;refine ep (c:=uq) (x:=F) (j.ah a2) JB j4 (D:=λ_=>False) ⟨rfl,a9⟩ (λb P=>P.elim) (by rw[Qy];unfold aO at*;omega) (by rw[Qy];unfold aO at b4;unfold maxLen;omega) λR S i2 z b0 C T=>⟨_,_,_,rfl,?_⟩
   have c9:¬aI s=some h.heap.size:=λc=>by have:=q _ (j.self _ c);omega
   have l9:=a2.size;have i3:=C.size;have zd:=l.size;have e:∀b,z b->g.heap.size<=b:=λb P=>by
    rcases T b P with Y|Y|Y
    ·exact q b Y
    ·exact Y.elim
    ·omega
   refine PS.mk (C.get (a2.get y id) c9) sM λi4 U i5 d0=>⟨_,oM,k+1,aq (by unfold aO at b4;omega),oM,rfl,((i.ah a2).new C λb P=>.inr (q b (j.self b P))).then U,R,t+1,S,z,d0,?_,e⟩
   rw[Qw,j2];exact b0.af U λb P c=>by have c:b=h.heap.size:=c;have:=e b P;omega
  ·rw[Qz oM]at j
   have g2:=j.aF;have g3:=i.get (Q.get gr λc=>by have c:L.heap.size=h.heap.size:=c;omega) λc=>by have c:L.heap.size=h.heap.size:=c;omega
   have h1:=v.af i λb P c=>by have c:b=h.heap.size:=c;have:=E b P;omega
   refine⟨_,_,_,_,_,_,ae y rfl,ae y rfl,PS.mk g3 sM λm0 d5 m1 j5=>PS.mk j5 sM λm2 d6 m3 g7=>⟨_,_,_,_,_,_,ae g7 rfl,ae g7 rfl,Ok.mk ⟨_,_,_,_,_,_,λb=>Z b\/u b,rfl,⟨?_,?_⟩,?_,?_⟩⟩⟩
   ·exact(((h1.row (bytes:=24) dC (by rw[<-g8];exact b3)).af (d5.then d6) λb P c=>by have c:b=L.heap.size:=c;have:=E b P;omega)).mono λb P=>.inl P
   ·exact(((j.row (bytes:=40) dC (by rw[<-g9];exact b4)).af (d5.then d6) λb P c=>by have c:b=L.heap.size:=c;have:=q b P;omega)).mono λb P=>.inr P
   ·have z4:=k4.size
    rintro b (P|P)
    ·have:=E b P;have:=f9 b P;omega
    ·have:=q b P;have:=g2 b P;omega
   ·exact d4.new (d5.then d6) λb P=>.inr (by have P:b=L.heap.size:=P;have:=k4.size;omega)
def uy{c:cD}{tn t p u:Nat}(v:bf w D c.decl d tn r p):
  ZG 12 #[ny c d tn t r p u] w (Ok λx w'=>∃P Ab f a e g G,x=ny c P Ab f a e g/\bf w' G c.decl P Ab a e/\(∀b,G b->w.heap.size<=b/\b<w'.heap.size)/\ai w w'):=by
 refine zr (PA.mk λk q I y=>PA.mk λJ l K z=>?_);have m:=l.get y id;refine⟨_,_,_,_,_,_,ae m rfl,ae m rfl,PC.ok (ET (v.ah (q.then l))) ?_⟩;rintro _ L ⟨P,Ab,f,a,e,g,G,rfl,A,n,j⟩;have M:=j.size;refine⟨_,_,_,_,_,_,rfl,PS.mk (j.get m id) sM λN B O C=>PS.mk C sM λQ E R F=>?_⟩;have o:=B.then E;refine ar (pT c P Ab f a e g) F (aB (pT c P Ab f a e g) (o.get (j.get z id) λi=>by have i:k.heap.size=w.heap.size:=i;omega) rfl λS s T H=>ar (pT c P Ab f a e g) H (Ok.mk ⟨_,_,_,_,_,_,G,rfl,?_,λb h=>?_,?_⟩))
 ·exact(A.af o λb h i=>by have i:b=w.heap.size:=i;have:=n b h;omega).af s λb h i=>by have i:b=k.heap.size:=i;have:=n b h;omega
 ·have:=n b h;omega
 ·exact(((q.then l).then j).new o λb h=>.inr (by have h:b=w.heap.size:=h;omega)).new s λb h=>.inr (by have h:b=k.heap.size:=h;omega)
end
structure Ck where
 kind:Int
 n:Int
 now:Int
 cmd:kv
 m:c_
section
variable (c:cD) (self:Int)
def Lh(a:bI)(P:Ck):Int×bI:=
 if P.kind=0 then((dY c self a P.cmd).1,(dY c self a P.cmd).2.2)else
 if P.kind=1 then(0,(gj c self a P.n (pick P.now 4611686018427387904)).2)else
 if P.kind=2 then(bA c self a P.m).2 else
 if P.kind=3 then(0,(Ia self a (pick P.now 4611686018427387904)).2)else
 if P.kind=4 then Az c a P.n else
 if P.kind=5 then(0,{a with D:=a.D.QM P.n})else
 if P.kind=6 then gY c a else(0,a)
end
structure iU (X Y:bI):Prop where
 evs:Y.S.l.length<=X.S.l.length+300\/Y.S.l.length<=16777216
 asked:Y.fI.asked.length<=X.fI.asked.length+1
def iU.refl(P:bI):iU P P:=⟨.inl oM,oM⟩
def Ic{P a:Type}[BEq P][LawfulBEq P](b:P)(c:a):∀(d:List (P×a)),(aK d b c).length<=d.length+1
 |[]=>by simp[aK]
 |(f,g)::e=>by
  unfold aK;split
  ·simp
  ·have:=Ic b c e
   simp;omega
def DE{a d:Type}[BEq a][LawfulBEq a](P:a)(e:d):∀(c:List (a×d)),P∈c.map (·.1)->(aK c P e).map (·.1)=c.map (·.1)
 |[],h=>by simp at h
 |(g,j)::f,h=>by
  unfold aK
  by_cases b:(P==g)=true
  ·rw[Zx b]
   have:=eq_of_beq b;subst this;rfl
  ·rw[Zq b]
   have i:P∈f.map (·.1):=by
    rcases Q2.1 h with h|h
    ·exact Zz (by rw[h];simp) b
    ·exact h
   simp[DE P e f i]
def Ie{P c:Type}[BEq P][LawfulBEq P](a:P):∀(b:List (P×c)),(bK b a).length<=b.length
 |[]=>by simp[bK]
 |(e,f)::d=>by
  unfold bK;split
  ·simp
  ·have:=Ie a d
   simp;omega
def FC(c P:Int)(a:List Int×List (Int×Int))(b:Int)(d:b∈a.2.map (·.1)):(fD c P a b).2.map (·.1)=a.2.map (·.1):=by
 unfold fD;split
 ·exact DE _ _ _ d
 ·rfl
def uZ(c P:Int):∀(b:List Int) (a:List Int×List (Int×Int)),(∀x∈b,x∈a.2.map (·.1))->(b.foldl (fD c P) a).2.map (·.1)=a.2.map (·.1)
 |[],a,_=>rfl
 |x::b,a,d=>by
  have e:=FC c P a x (d x (QV ..));rw[List.foldl_cons,uZ c P b _ λf g=>by rw[e];exact d f (QJ _ g),e]
def jb.PE(P:jb)(a:Int):(P.PD a).asked.length=P.asked.length:=by
 have c:=uZ P.cV a (P.open.take P.open.length) ([],P.asked) λd b=>by
  have b:=List.mem_of_mem_take b;unfold jb.open at b;exact(List.mergeSort_perm _ _).mem_iff.1 b
 have:=Zj List.length c;rw[Q8,Q8]at this;exact this
def qI(P:Nat):∀(c:List aj) (d:au) (a b:List aj),(eV P c d a b).2.1.length+(eV P c d a b).2.2.length<=a.length+b.length+c.length
 |[],d,a,b=>by simp[eV]
 |e::c,d,a,b=>by
  unfold eV;split
  ·have:=qI P c (d.add e).2 (a++[e]) b
   simp at this⊢;omega
  split
  ·have:=qI P c d a b
   simp;omega
  ·have:=qI P c d a (eX P b e).2
   have:=Bi P b e;simp;omega
def qq:∀(a:List aj) (b:au) (P:List aj),(eN a b P).2.length<=P.length+a.length
 |[],b,P=>by simp[eN]
 |e::a,b,P=>by
  unfold eN;split
  ·have:=qq a (b.add e).2 (P++[e])
   simp at this⊢;omega
  ·have:=qq a (b.add e).2 P
   simp;omega
def DF:∀(k:Nat) (a:au) (P b:List aj),(qp k a P b).1.length<=P.length+b.length
 |0,a,P,b=>by simp[qp]
 |k+1,a,P,b=>by
  unfold qp;have c:=uY a b;dsimp only;split
  ·simp
  ·have d:=qq (bz a b).1 a P
   have e:=DF k (eN (bz a b).1 a P).1 (eN (bz a b).1 a P).2 (bz a b).2;omega
def Ks(a:cD)(P:bI)(b:List aj):(gW a P b).1.length<=P.waits.length+b.length:=by
 have c:=qI a.buffer.toNat b (d_ a P.S []) [] P.waits;have d:=DF ((eV a.buffer.toNat b (d_ a P.S []) [] P.waits).2.2.length+1) (eV a.buffer.toNat b (d_ a P.S []) [] P.waits).1 (eV a.buffer.toNat b (d_ a P.S []) [] P.waits).2.1 (eV a.buffer.toNat b (d_ a P.S []) [] P.waits).2.2;simp at c;unfold gW;dsimp only;omega
def No(b:cD)(P:au)(a:List aj):(d_ b P a).l.length<=P.l.length+a.length:=by
 have:=au.lW (P.l++a) ⟨b.br.toNat,[]⟩;unfold d_;simp at this⊢;omega
def DG(b:cD)(P:bI)(a:List aj):(ef b P a).2.S.l.length<=P.S.l.length+a.length/\(ef b P a).2.fI=P.fI:=by
 unfold ef
 cases P.log with
 |none=>exact⟨by dsimp only;omega,rfl⟩
 |some c=>
  dsimp only;split
  ·exact⟨by dsimp only;omega,rfl⟩
  split
  ·exact⟨by dsimp only;omega,rfl⟩
  ·exact⟨No b P.S a,rfl⟩
def Ax(b:cD)(a:Int)(P:bI)(c:kv):iU P (dY b a P c).2.2:=by
 unfold dY
 cases P.log with
 |none=>exact iU.refl P
 |some d=>
  dsimp only;split
  ·exact iU.refl P
  split
  ·have:=DG b P [(qm b.decl P.S (cH b.decl P.S.l) a b.start c).1]
   simp at this;split
   ·exact⟨.inl be,by dsimp only;rw[this.2];omega⟩
   ·exact⟨.inl be,by dsimp only;rw[this.2];omega⟩
  ·exact iU.refl P
def lK(c:cD)(d:Int)(P:bI)(a:c_)(j:P.waits.length<=256)(k:c.chunk<=32):iU P (bA c d P a).2.2:=by
 unfold bA
 cases P.log with
 |none=>exact iU.refl P
 |some l=>
  dsimp only;split
  ·exact iU.refl P
  rename_i h;split
  ·exact iU.refl P
  split
  ·rename_i i
   have m:a.events.length<=32:=by
    rcases Nat.lt_or_ge 32 a.events.length with g|g
    ·exfalso
     apply h;unfold eC;rw[Zx i];intro b;split at b
     ·cases b
     ·unfold eB at b
      split at b
      ·cases b
      ·rw[Zx (.inr oM)]at b;cases b
    ·exact g
   unfold jq;have n:=Ks c P a.events;dsimp only;split
   ·exact⟨.inl be,by dsimp only;omega⟩
   ·have e:=DG c {P with waits:=(gW c P a.events).2} (gW c P a.events).1
    dsimp only at e;split
    ·exact⟨.inl be,by dsimp only;rw[e.2];omega⟩
    ·exact⟨.inl be,by dsimp only;rw[e.2];omega⟩
  ·have f:(P.fI.yt a.bP a.vec P.S.vec).asked.length<=P.fI.asked.length+1:=by
    unfold jb.yt;dsimp only;split
    ·have:=Ie a.bP P.fI.asked;omega
    ·omega
   split
   ·exact⟨.inl be,f⟩
   split
   ·exact⟨.inl be,f⟩
   ·exact⟨.inl be,f⟩
def Ay(d:cD)(P:Int)(b:bI)(a c:Int):iU b (gj d P b a c).2:=by
 unfold gj;split
 ·exact iU.refl b
 ·exact⟨.inl be,Ic _ _ _⟩
def JT(P:Int)(b:bI)(a:Int):iU b (Ia P b a).2:=by
 unfold Ia;exact⟨.inl be,by dsimp only;rw[jb.PE];omega⟩
def wW(a:cD)(P:bI):(fO a P).2.fI=P.fI:=by
 unfold fO;dsimp only;split<;>rfl
def Cm(a:cD)(P:bI):iU P (gY a P).2:=by
 unfold gY
 cases P.log with
 |none=>exact iU.refl P
 |some b=>
  dsimp only;split
  ·exact⟨.inl be,by dsimp only;omega⟩
  ·exact⟨.inl be,by dsimp only;omega⟩
structure Ck.Ok (x:Ck):Prop where
 kind:aN x.kind
 n:aN x.n
 now:aN x.now
 cmd:x.cmd.Ok
def pU(P:Ck)(a:ZH)(b c:Nat)(d:ZH)(e f:Nat):List Value:=[XH P.kind,XH P.n,XH P.now]++gH P.cmd++bS P.m a b c d e f
abbrev Te(P:Ck)(a:ZH)(b c:Nat)(d:ZH)(e f:Nat):Value:=.agg (pU P a b c d e f).toArray
def Un(P:Ck)(a:ZH)(b c:Nat)(d:ZH)(e f:Nat):ia XP 67 (pU P a b c d e f)=true:=kR
def Hf(P:sW)(a:ZH)(b c:Nat)(d:ZH)(e f:Nat)(g:ZH)(h i:Nat):Qh (ft XP 46) (.agg (mE P a b c d e f g h i).toArray)=true:=kR
def Lf(P:cD)(a:ZH)(tn b:Nat)(c:ZH)(d e:Nat):Qh (ft XP 29) (ny P a tn b c d e)=true:=kR
def Rg:ju Ck where
 k:=15
 rep:=λm D h cs=>∃P a d b c e,cs=pU h P a d b c e/\Row aM 8 m D P a h.m.vec/\Row h_ 96 m D b c h.m.events/\h.Ok
 af:=λ⟨P,a,d,b,c,e,f,i,j,k⟩ n g=>⟨P,a,d,b,c,e,f,i.af n g,j.af n g,k⟩
 mono:=λ⟨P,a,d,b,c,e,f,i,j,k⟩ g=>⟨P,a,d,b,c,e,f,i.mono g,j.mono g,k⟩
 len:=λ⟨P,a,d,b,c,e,f,_⟩=>by rw[f];rfl
 one:=λ⟨P,a,d,b,c,e,f,_⟩ o l=>by
  rw[f]at l;simp only[pU,gH,bS,List.cons_append,List.nil_append,Q2,List.not_mem_nil,or_false]at l;rcases l with rfl|rfl|rfl|rfl|rfl|rfl|rfl|rfl|rfl|rfl|rfl|rfl|rfl|rfl|rfl<;>rfl
def Lg{es:List Value}(f:ia h g es=true)(i:b.heap[a]? =some (.cells p o E))(j:∀P,P<es.length->p[c+P]? =es[P]?)(k:R (.agg es.toArray)):ot h g (.pointer (some ⟨a,c,none⟩)) b R:=
 bC f rfl (λP d=>by
  have e:=j P d;rw[Qq d]at e⊢;exact ae i e) k
variable{g6:List Ck}
section
variable {w w' w0 w1 w2:World} {p:Nat} {F E D Dv:XN} {c:cD} {self:Int} {X:bI} {va ea:ZH} {vn vc en ec:Nat}
def Hg:ZG 56 #[XH e] w (Ok λP w'=>P= XH (pick e 4611686018427387904)/\w=w'):=by
 refine Jc (PC.ok (Hh bb) ?_);rintro _ _ ⟨rfl,rfl⟩;exact⟨_,rfl,Ok.mk ⟨rfl,rfl⟩⟩
def JO(i:Row aM 8 w D va vn e7.vec)(e:Row h_ 96 w E ea en e7.events):
  ZG 27 #[jm e7 va vn vc ea en ec] w (Ok λf w'=>(∃c:Bool,f= .bool c/\(c=false->∀P∈e7.events,P.aQ.length<=100))/\ai w w'):=by
 refine Er (PA.mk λw1 a j d=>⟨_,_,_,ae d rfl,an.dec (λ_=>Ok.mk ⟨⟨_,rfl,sM⟩,a⟩) (λ_=>⟨_,_,_,ae d rfl,PC.ok (JP (e.ah a)) ?_⟩)⟩);rintro _ _ ⟨rfl,rfl⟩;refine⟨_,rfl,Ok.mk ⟨⟨_,rfl,λb P g=>?_⟩,a⟩⟩;have b:=Xy b;exact Nat.le_of_not_lt λh=>b (.inl ⟨P,g,h⟩)
def JQ{tn n k o:Nat}(h:bf w D J d tn r k):ZG 28 #[.agg #[.slice d tn n,.slice r k o]] w (Ok λp w'=>(∃e:Bool,p= .bool e)/\ai w w'):=by
 have A:=h.aX.len;have q:=h.aX.dB;unfold aO at q;refine Es (PA.mk λw1 P B a=>⟨_,_,_,ae a rfl,an.dec (λ_=>Ok.mk ⟨⟨_,rfl⟩,P⟩) (λ_=>⟨_,_,_,ae a rfl,an.dec (λ_=>Ok.mk ⟨⟨_,rfl⟩,P⟩) (λ_=>?_)⟩)⟩);refine⟨λf i w'=>∃b:Nat,i=b/\b<=tn/\f=tn-b/\w1=w',⟨_,0,rfl,Qj _,rfl,rfl⟩,?_⟩;rintro f _ _ _ ⟨b,rfl,C,rfl,rfl⟩;refine⟨_,_,_,ae a rfl,an.dec (λE=>?_) (λ_=>Ok.mk ⟨⟨_,rfl⟩,P⟩)⟩;obtain⟨e,j,F,H,rfl,I,-,K,s,L,l,M,rfl,m⟩:=(h.aX.ah P).wK (i:=b) oM;have g:=s 0 dC;have t:jO.k=1:=rfl;rw[t,Nat.mul_one]at g;have u:=m.dB;unfold aO at u;refine⟨_,_,_,ae a rfl,e,j,rfl,oM,oM,_,_,_,g,an.dec (λ_=>Ok.mk ⟨⟨_,rfl⟩,P⟩) (λ_=>?_)⟩;refine⟨λf i w'=>∃c:Nat,i=c/\c<=l/\f=l-c/\w1=w',⟨_,0,rfl,Qj _,rfl,rfl⟩,?_⟩;rintro f _ _ _ ⟨c,rfl,N,rfl,rfl⟩;refine⟨_,_,_,ae a rfl,e,j,rfl,oM,oM,_,_,_,g,an.dec (λO=>?_) (λ_=>⟨_,oM,b+1,aq oM,oM,rfl,rfl⟩)⟩;obtain⟨v,x,Q,y,rfl,-,-,R,z,S,T,U,rfl,-,-⟩:=m.wK (i:=c) oM;exact⟨_,_,_,ae a rfl,e,j,rfl,oM,oM,_,_,_,g,v,x,rfl,oM,oM,_,_,_,z 3 dC,an.dec (λ_=>Ok.mk ⟨⟨_,rfl⟩,P⟩) (λ_=>⟨_,oM,c+1,aq oM,oM,rfl,rfl⟩)⟩
def JR{tn v q x l y:Nat}(z:bf w D c.decl d tn r q)(n:Row Rg 152 w E c2 l g6):
  ZG 9 #[ny c d tn v r q x,.slice c2 l y] w (Ok λA w'=>(∃f:Bool,A= .bool f/\(f=false->g6.length<=100/\∀b∈g6,∀h∈b.m.events,h.aQ.length<=100))/\ai w w'):=by
 have T:=n.len;have B:=n.dB;unfold aO at B;refine Eo (PA.mk λw1 m U C=>?_);refine⟨λo w'=>ai w1 w'/\(g6.length<=100->∀b∈g6,∀h∈b.m.events,h.aQ.length<=100),⟨λs o a w'=>∃P:Nat,a=P/\P<=l/\s=l-P/\ai w1 w'/\∀b∈g6.take P,∀h∈b.m.events,h.aQ.length<=100,⟨_,0,rfl,Qj _,rfl,ak.refl _,sM⟩,?_⟩,?_⟩
 ·rintro s o _ _ w2 ⟨P,rfl,V,rfl,i,j⟩
  refine an.dec (λW=>an.dec (λF=>?_) (λF=>⟨i,λH=>oM⟩)) (λX=>⟨i,λ_=>by rw[Qz oM]at j;exact j⟩);obtain⟨f,k,I,Y,rfl,J,-,K,t,va,vn,vc,ea,en,ec,rfl,L,M,-⟩:=(n.ah (m.then i)).wK (i:=P) oM;refine⟨f,k,rfl,oM,oM,bC (es:=bS I.m va vn vc ea en ec) (k:=5) (iS _ _ _ _ _ _ _) rfl (λa Z=>by
   rw[Qx];have:=t (10+a) (show 10+a<15 by omega);rw[show k+P*15+10+a=k+P*Rg.k+(10+a) by show _=k+P*15+_;omega,this];rcases a with _|_|_|_|_|a<;>first|rfl|omega) (PC.ok (JO L M) ?_)⟩
  rintro _ N ⟨⟨O,rfl,Q⟩,e⟩;refine⟨_,rfl,an.mk (λ_=>Ok.mk ⟨⟨_,rfl,sM⟩,(m.then i).then e⟩) (λR=>?_)⟩;refine⟨f,k,rfl,oM,oM,_,_,_,(e.cell (a:=⟨f,_,none⟩) J id).trans (by rw[Qx];exact t 14 dC),_,oM,P+1,aq oM,oM,rfl,i.then e,?_⟩;rw[Qw,K];intro b g;rcases Q6.1 g with g|g
  ·exact j b g
  ·simp at g;subst g;exact Q R
 ·rintro o _ N ⟨e,j⟩
  have u:=e.get C id;refine⟨_,_,_,_,_,_,ae u rfl,ae u rfl,PC.ok (JQ (z.ah (m.then e))) ?_⟩;rintro _ w4 ⟨⟨O,rfl⟩,S⟩;have p:=(m.then e).then S;refine⟨_,rfl,an.mk (λ_=>Ok.mk ⟨⟨_,rfl,sM⟩,p⟩) (λ_=>an.dec (λ_=>Ok.mk ⟨⟨_,rfl,sM⟩,p⟩) (λH=>Ok.mk ⟨⟨_,rfl,λ_=>⟨oM,j oM⟩⟩,p⟩))⟩
def Hi(q:Row aM 8 w D va vn e7.vec)(r:Row h_ 96 w E ea en e7.events)(I:∀b∈e7.events,b.aQ.length<=100):
  ZG 57 #[jm e7 va vn vc ea en ec] w (Ok λJ w'=>∃c d s e f t G,J=jm e7 c d s e f t/\Row aM 8 w' G c d e7.vec/\Row h_ 96 w' G e f e7.events/\(∀P,G P->w.heap.size<=P/\P<w'.heap.size)/\ai w w'):=by
 have K:=q.len;have L:=q.dB;have M:=r.len;have N:=r.dB;refine BN (PA.mk λw1 O Z Q=>PA.mk λw2 y s2 R=>?_);have z:=O.then y;have A:=y.get Q id;refine⟨_,_,_,ae A rfl,PC.ok (rJ (q.ah z)) ?_⟩;rintro _ w3 ⟨h,i,j,S,rfl,B,k,l⟩;have z3:=k.size;have T:=B.aF;refine⟨_,_,_,rfl,PS.mk (k.get A id) (by simp[bS]) λU u s4 C=>⟨_,_,_,ae C rfl,?_⟩⟩;have F:ai w U:=(z.then k).new u λP a=>.inr (by have a:P=w.heap.size:=a;omega);refine PC.ok (Av (r.ah F) I) ?_;rintro _ w5 ⟨m,n,o,V,rfl,H,g,v⟩;have z5:=g.size;have W:=H.aF;refine⟨_,_,_,rfl,PS.mk (g.get C id) (by simp[bS]) λw6 p s6 X=>ar (iS e7 h i j m n o) X (aB (iS e7 h i j m n o) (p.get (g.get (u.get (k.get R id) oM) id) oM) rfl λw7 x s7 Y=>ar (iS e7 h i j m n o) Y (Ok.mk ⟨h,i,j,m,n,o,λP=>S P\/V P,rfl,?_,?_,?_,?_⟩))⟩
 ·refine Row.mono ?_ λP a=>Or.inl a
  exact((((B.af u λP a b=>by have b:P=w.heap.size:=b;have:=l P a;omega).ah g).af p λP a b=>by have b:P=w.heap.size:=b;have:=l P a;omega).af x λP a b=>by have b:P=w1.heap.size:=b;have:=l P a;omega).row dC (by rw[<-K];exact L)
 ·refine Row.mono ?_ λP a=>Or.inr a
  exact pK.row (((H.af p λP a b=>by have b:P=w.heap.size:=b;have:=v P a;omega).af x λP a b=>by have b:P=w1.heap.size:=b;have:=v P a;omega).row dC (by rw[<-M];exact N))
 ·rintro P (a|a)
  ·have:=l P a;have:=T P a;omega
  ·have:=v P a;have:=W P a;omega
 ·exact(((F.then g).new p λP a=>.inr (by have a:P=w.heap.size:=a;omega)).new x λP a=>.inr (by have a:P=w1.heap.size:=a;omega))
def bE.waits(d:bE w p F c self X):X.waits.length<=256:=by
 obtain⟨g,e,P,f⟩:=d;obtain⟨h,D,a,-,-⟩:=(show MJ w (λb=>F b/\P b=5) e.wp c.buffer.toNat X.waits from f.at' 5)
 exact Xx a.1.2.le a.1.1
def bE.ok(P:bE w p F c self X):kY c self:=P.1
def cK.after(P:ai w w1)(a:cK F w1 f w2):cK F w f w2:=⟨(ai.af P).then a.af,λb c=>(a.new b c).imp id λd=>by have:=P.size;omega⟩
def JS(m:bE w p F c self X)(Q:Env w0 w F){a:Ck}(n:a.Ok)(R:Row aM 8 w Dv va vn a.m.vec)(S:Row h_ 96 w E ea en a.m.events)(T:∀U∈a.m.events,U.aQ.length<=100)(B:X.S.l.length<=18000000)(V:X.fI.asked.length<=1000):
  ZG 20 #[XL p,Te a va vn vc ea en ec] w (Ok λW w'=>∃P,W= XH (Lh c self X a).1/\bE w' p P c self (Lh c self X a).2/\cK F w P w'/\iU X (Lh c self X a).2):=by
 have C:=m.aF;have Y:=m.waits;have Z:=m.ok.Aw;refine Ep (PA.mk λw1 b s1 h=>⟨_,ae h rfl,?_⟩);have f:=m.ah b;have o:=Q.ah b;unfold Lh;refine an.dO (λr=>?_) (λr=>?_)
 ·rw[Zx r]
  refine Lg (es:=gH a.cmd) (CH a.cmd) h (λj s=>by rcases j with _|_|_|_|_|_|_|j<;>first|rfl|exact Zz s (by simp[gH])) (PC.ok (wV f o n.cmd oM) ?_);rintro _ w2 ⟨P,⟨sa,sn,sc,xa,xn,xc,ra,rn,rc,G,rfl,-,-,-,-⟩,a2,a0⟩;refine⟨_,_,_,_,_,_,_,_,_,_,_,_,_,_,rfl,Ok.mk ⟨P,?_,a2,cK.after b a0,Ax c self X a.cmd⟩⟩
  by_cases k:(dY c self X a.cmd).1≠0
  ·rw[Zx k]
  ·rw[Zq k];have k:(dY c self X a.cmd).1=0:=Classical.not_not.1 k;rw[k]
 rw[Zq r];refine an.dO (λt=>?_) (λt=>?_)
 ·rw[Zx t]
  intro w2 d2;have i:ai w1 w2:=d2.af;have H:=i.get h id;refine⟨F,λu=>by have:=C _ u;omega,_,ae H rfl,_,ae H rfl,PC.ok Hg ?_⟩;rintro _ _ ⟨rfl,rfl⟩;refine⟨_,rfl,ak.refl _,PC.ok (uz (f.ah i) n.n) ?_⟩;rintro _ l ⟨P,⟨I,J,K,L,M,rfl,-⟩,e,d⟩;exact⟨_,_,_,rfl,d.af,Ok.mk ⟨P,rfl,e,cK.after (b.then i) d,Ay c self X _ _⟩⟩
 rw[Zq t];refine an.dO (λv=>?_) (λv=>?_)
 ·rw[Zx v]
  refine Lg (es:=bS a.m va vn vc ea en ec) (iS _ _ _ _ _ _ _) h (λj s=>by rcases j with _|_|_|_|_|j<;>first|rfl|exact Zz s (by simp[bS])) (PC.ok (Hi (R.ah b) (S.ah b) T) ?_);rintro _ w2 ⟨a1,a3,a4,a5,a6,a7,G,rfl,a8,a9,N,i⟩;have z1:=b.size;have O:∀g,G g->g<w2.heap.size/\¬F g:=λg q=>⟨(N g q).2,λu=>by have:=C g u;have:=N g q;omega⟩
  refine bX (Uo _ _ _ _ _ _ _) ⟨rfl,PC.ok (kZ (f.ah i) (o.ah i) a8 O a9 O B) ?_⟩;rintro _ l ⟨v1,P,rfl,⟨I,J,K,L,M,rfl,-⟩,e,d⟩;exact⟨_,_,_,_,rfl,Ok.mk ⟨P,rfl,e,cK.after (b.then i) d,lK c self X a.m Y Z.2⟩⟩
 rw[Zq v];refine an.dO (λx=>?_) (λx=>?_)
 ·rw[Zx x]
  refine⟨_,ae h rfl,PC.ok Hg ?_⟩;rintro _ _ ⟨rfl,rfl⟩;refine⟨_,rfl,PC.ok (OU f V) ?_⟩;rintro _ l ⟨P,⟨I,J,K,L,M,rfl,-⟩,e,d⟩;exact⟨_,_,_,rfl,Ok.mk ⟨P,rfl,e,cK.after b d,JT self X _⟩⟩
 rw[Zq x];refine an.dO (λy=>?_) (λy=>?_)
 ·rw[Zx y]
  refine⟨_,ae h rfl,PC.ok (MK f o n.n) ?_⟩;rintro _ l ⟨P,rfl,e,d,b0⟩;refine⟨_,rfl,Ok.mk ⟨P,rfl,e,cK.after b d,.inr b0,?_⟩⟩;unfold Az;rw[wW];exact Qj _
 rw[Zq y];refine an.dO (λz=>?_) (λz=>?_)
 ·rw[Zx z]
  refine⟨_,ae h rfl,PC.ok (OV f n.n) ?_⟩;rintro _ l ⟨P,rfl,e,d⟩;exact⟨rfl,Ok.mk ⟨P,rfl,e,cK.after b d,⟨.inl be,by dsimp only;omega⟩⟩⟩
 rw[Zq z];refine an.dO (λA=>?_) (λA=>?_)
 ·rw[Zx A]
  refine PC.ok (Hj f o B) ?_;rintro _ l ⟨P,rfl,e,d⟩;exact⟨_,rfl,Ok.mk ⟨P,rfl,e,cK.after b d,Cm c X⟩⟩
 ·rw[Zq A]
  exact Ok.mk ⟨F,rfl,f,⟨ai.af b,λg q=>.inl q⟩,iU.refl X⟩

import Derived.Test.YtjgjkeponbeekaaGreatDoorKj15
set_option maxHeartbeats 4000000
set_option linter.all false
set_option maxRecDepth 100000
open Go.IntKind renaming wrap→PP
namespace Go.Proofs.YtjgjkeponbeekaaGreatDoor
open Go.aw
variable{Y m:Array Value}{z:FuncId}{M b4 e r:Int}{d3:Int×Int}{F f8:List ah}{a c:Nat}{C:Nat×Nat}{X a1:Operand}{d x:bc}{h:Program}{g p:TypeId}{b:World}{N l:ah}{H:au}
def YI(n:KC h g p):(do eqGuard .eql g X a1 (.agg #[WP e,WP r]) (.agg #[WP M,WP b4]);binOp .eql g (.agg #[WP e,WP r]) (.agg #[WP M,WP b4]):Sem Value).run h b= .ok (.bool (e==M&&r==b4)) b:=by
 rw[Sem.run_bind,run_eqGuard_agg b .eql _ X a1 _ _ n.hm,Result.andThen_ok,run_eql_struct];have:=n.equalIn 9998 (e,r) (M,b4) b;unfold pX at this;rw[this];rfl
section
variable {w w':World} {p:Nat} {F T D:UK} {d:aT} {every:Nat} {l l2:List ah}
def HV(U:df w p F d every l)(V:fw b)(J:ai b w)(K:∀P,F P->b.heap.size<=P){L:bc}(M:Row lb 96 w D L a l2)(e2:a<=c)(z:∀P,D P->P<w.heap.size/\¬F P)(e3:l2.length<=20000000)(b2:∀(W:Nat) (g j:ah),l[W]? =some g->l2[W]? =some j->bd g=bd j->g=j):
  be 75 #[RK p,.slice L a c] w (Ok λb3 w'=>∃A:Int,b3= WP A/\∃h,df w' p h d every l2/\cz F w h w'):=by
 have hn:=M.len;have X:=U;obtain⟨⟨h1,h2,h3,h4⟩,e0,b6,e4,B⟩:=U;have e5:=aU.len (B.at' 2) dC;have e6:=B.aF;refine qE ⟨λi w'=>∃n:Nat,i=n/\n<=l.length/\n<=l2.length/\l.take n=l2.take n/\ai w w',?_,?_⟩
 ·refine⟨λe i w'=>∃n:Nat,i=n/\n<=l.length/\n<=l2.length/\e=l.length-n/\l.take n=l2.take n/\ai w w',⟨_,0,rfl,Qj _,Qj _,rfl,rfl,aj.refl _⟩,?_⟩
  rintro e _ _ w9 ⟨n,rfl,Y,Z,rfl,m,t⟩;have h9:=eA.af B t;have a4:=h9.bB;refine⟨p,0,rfl,_,_,_,ae a4 rfl,al.dec (λN=>?_) (λa5 c1 C=>⟨n,rfl,Y,Z,m,t.then C.keep⟩)⟩;have a6:n<l.length/\n<l2.length:=by split at N<;>omega
  have k:l[n]? =some l[n]:=Qq a6.1;have E:l2[n]? =some l2[n]:=Qq a6.2;generalize l[n]=g at k;generalize l2[n]=j at E;obtain⟨P,o,es,O,c2,c3,H,ya,yn,yc,rfl,e7,e1⟩:=(M.af t).el n j E;obtain⟨b7,o2,e8,c4,e9,f0,a0,u,v,x,rfl,a7,a1⟩:=(aU.row (bytes:=96) (h9.at' 2) dC ce).el n g k;have y0:=H 0 dC;have y1:=H 1 dC;have x0:=a0 0 dC;have x1:=a0 1 dC;refine⟨P,o,O,oM,oM,_,_,y0,y1,p,0,rfl,_,_,_,ae a4 rfl,b7,o2,c4,oM,oM,_,_,x0,x1,(j.origin==g.origin&&j.seq==g.seq),λe=>YI Nd,λc1 C=>al.mk (λQ=>⟨_,?_,n+1,aq oM,oM,oM,rfl,?_,t.then C.keep⟩) (λ_=>⟨n,rfl,Y,Z,m,t.then C.keep⟩)⟩
  ·omega
  ·simp only[QK,beq_iff_eq]at Q
   have c5:=b2 n g j k E (by simp[bd,Q.1,Q.2]);rw[Qw,Qw,m,k,E,c5]
 rintro _ _ f1 ⟨i,rfl,c6,c7,m,q⟩;have c8:=eA.af B q;have b9:=c8.bB;have f2:=q.size;refine⟨λw'=>∃e h,e<=l2.length/\df w' p h d every (l2.take e)/\cz F w h w',⟨p,0,rfl,_,_,_,ae b9 rfl,al.dec (λN=>?_) (λa5=>?_)⟩,?_⟩
 ·refine PC.ok (Ol (X.af q) V (J.then q) K c6) ?_
  rintro _ f4 ⟨rfl,h,R,a9⟩;have b0:i/every*every<=i:=Nat.div_mul_le_self ..;refine⟨rfl,_,h,Xx b0 c7,?_,(ai.keep q).then a9.keep,λP f=>(a9.new P f).imp id oM⟩;have:l.take (i/every*every)=l2.take (i/every*every):=by
   have:=Zj (List.take (i/every*every)) m
   rwa [List.take_take,List.take_take,X2 b0]at this
  rw[<-this];exact R
 ·have c9:i=l.length:=oM
  refine⟨l.length,F,oM,?_,ai.keep q,λP f=>.inl f⟩;rw[c9,List.take_length]at m;rw[<-m];exact X.af q
 rintro _ f5 ⟨e,F1,hm,b1,a2⟩;have c0:=b1;obtain⟨-,q1,f3,f6,b4⟩:=b1;have a3:=aU.len (b4.at' 2) dC;rw[Qy,X2 hm]at a3;have f7:=a2.keep.size;refine⟨p,0,rfl,_,_,_,ae b4.bB rfl,oM,oM,?_⟩;rw[Qx,a3];refine⟨λA s w'=>∃(n:Nat) (h:UK),s=n/\n<=a-e/\A=a-e-n/\df w' p h d every (l2.take (e+n))/\cz F w h w',⟨_,0,F1,rfl,Qj _,rfl,c0,a2⟩,?_⟩;rintro A _ _ b5 ⟨n,S,rfl,hj,rfl,T,r⟩;refine al.dec (λN=>?_) (λa5=>?_)
 ·have d0:e+n<l2.length:=oM
  have k:l2[e+n]? =some l2[e+n]:=Qq d0;generalize l2[e+n]=g at k;have d1:=M.keep r.keep λP f=>(z P f).2;obtain⟨P,o,es,O,c2,c3,H,u,v,x,rfl,a7,a1⟩:=d1.el (e+n) g k;have d2:dh L e c 10=some ⟨P,o+e*10,none⟩:=by rw[O];exact gl oM
  have f8:=r.keep.size;refine⟨P,o+e*10,d2,oM,oM,cx (es:=aI g u v x) (k:=10) (bh g u v x) rfl (λs ht=>by rw[Qx];have:=H s ht;rw[show o+e*10+n*10+s=o+(e+n)*lb.k+s by show _=o+(e+n)*10+s;omega];exact this) (PA.mk λg1 d3 g2 d4=>aD (bh g u v x) d4 rfl λb8 d5 g3 d6=>ar (bh g u v x) d6 ?_)⟩;have I:ai b5 b8:=d3.new d5 λP f=>.inr (by have f:P=b5.heap.size:=f;omega);have a8:cz F w S b8:=⟨r.keep.af I,r.new⟩
  have d7:∀P,D P->¬S P:=λP f hf=>by
   rcases r.new P hf with y|y
   ·exact(z P f).2 y
   ·have:=(z P f).1;omega
  refine PC.ok (QL (T.af I) V (J.new a8.keep λP f=>.inr (K P f)) (λP f=>?_) (by rw[Qy];omega) (a7.af I) (λP f=>⟨by have:=(z P f).1;have:=I.size;omega,d7 P f⟩) a1) ?_
  ·rcases r.new P f with y|y
   ·exact K P y
   ·have:=J.size;omega
  rintro _ g4 ⟨rfl,F3,d8,d9⟩;refine⟨rfl,_,?_,n+1,F3,aq oM,oM,rfl,?_,a8.trans d9⟩
  ·omega
  ·rw[show e+(n+1)=e+n+1 by omega,Qw,k];exact d8
 ·rw[Qz oM]at T
  exact Ok.mk ⟨_,rfl,S,T,r⟩
end
section
variable {w w':World} {p:Nat} {F T D:UK} {d:aT} {every:Nat} {l l2:List ah}
def QN{d:aT}{ta pa:bc}{tn tc pn pc:Nat}{ev:Int}(m:dt d=0)(g9:aM ev)(hT:fw w)(o:bu w D d ta tn pa pn)(hD:∀n,D n->n<w.heap.size):
  be 72 #[.agg #[.slice ta tn tc,.slice pa pn pc],WP ev] w (Ok λe3 w'=>∃p F,e3= RK p/\df w' p F d (max 1 ev).toNat []/\(∀n,F n->w.heap.size<=n)/\ai w w'):=by
 have h0:=o.aZ.len;have X:=o.aZ.fh;have h3:=o.F_.len;have h4:=o.F_.fh;have e6:d.projs.length<=8:=(AL (nH m).1).2.2.1;obtain⟨every,e7⟩:∃every:Nat,every=(max 1 ev).toNat:=⟨_,rfl⟩
 have e8:(if ev>1 then ev else 1)=(every:Int):=by split<;>omega
 have c0:0<every/\every<9223372036854775808:=by unfold aM at g9;omega
 rw[<-e7];refine Gc ?_;refine PA.mk λw1 k1 s1 g1=>⟨_,_,_,ae g1 rfl,PC.ok (qF (o.F_.af k1) λn B=>by have:=hD n B;omega) ?_⟩
 rintro _ P ⟨h,f,v,x,rfl,Y,k8,h5⟩;have z8:=k8.size;refine⟨_,_,_,rfl,PA.mk λc1 Z k9 d8=>?_⟩;rw[e8]at d8;have e9:ai w c1:=(k1.then k8).then Z;have ga:=Z.get (k8.get g1 id) id;have l0:=Z.size;refine⟨_,_,_,ae ga rfl,λq I w'=>∃a:Nat,I=a/\a<=tn/\q=tn-a/\aj (·=P.heap.size) c1 w'/\∃r s J j,w'.heap[P.heap.size]? =some (.cells #[.slice r s J,.slice h f v,WP (every:Int),.slice none 0 0,.pointer none,.slice none 0 0,.slice none 0 0] 202 (0,0))/\aU nJ 118 j w' r s J (d.types.take a)/\∀n,j n->c1.heap.size<=n,
  ⟨_,0,rfl,Qj _,rfl,aj.refl _,none,0,0,λ_=>False,d8,aU.nil _,λ_ o=>o.elim⟩,?_⟩
 rintro q _ _ y ⟨a,rfl,hj,rfl,kk,r,s,J,j,K,t,L⟩;have a7:ai w y:=e9.new kk λn B=>.inr oM;have zk:=kk.size;refine al.dec (λl4=>?_) (λl5=>?_)
 ·have e0:a<d.types.length:=oM
  obtain⟨n,a4,es,ha,B,h6,f0,fa,fn,fc,rfl,a8⟩:=(o.aZ.af a7).el a d.types[a] (by simp[e0]);have e1:d.types[a]? =some d.types[a]:=Qq e0;generalize d.types[a]=a0 at a8 e1;have c2:=f0 0 dC;have h7:nJ.k=1:=rfl;rw[h7,Nat.mul_one]at c2;refine⟨n,a4,ha,oM,oM,fa,fn,fc,by rw[Qx];exact c2,PA.mk λl6 h8 l7 h9=>PS.mk h9 sM λe2 i0 l8 i1=>⟨_,_,_,ae i1 rfl,?_⟩⟩;have a1:ai y e2:=h8.new i0 λn B=>.inr oM;have f1:=a7.then a1;obtain⟨C,l1,l2,l3⟩:=fk.boxes (N:=KJ) a8;have c4:=a8.fh;refine PC.ok (qG (l2.af a1) λn B=>by have:=hD n B;have:=f1.size;omega) ?_;rintro _ e4 ⟨a9,M,f2,F9,rfl,b0,e5,i2⟩;have l9:=a1.size;have m0:=e5.size;have a2:∀n,aG a9=some n->e2.heap.size<=n:=λn B=>i2 n (b0.self n B);have f3:∀n,aG a9=some n->n<e4.heap.size:=λn B=>b0.aF n (b0.self n B);refine⟨_,_,_,rfl,λq I w'=>∃a:Nat,I=a/\a<=M/\q=M-a/\dZ KJ 121 e4 a9 M f2 C a w',⟨_,0,rfl,Qj _,rfl,dZ.start b0.alone⟩,?_⟩;rintro q _ _ i3 ⟨c,rfl,g,rfl,z⟩;have m1:=z.len;have m2:C.length=a0.length:=by rw[<-l1];simp
  have i4:=a8.len;have N:ai y i3:=(a1.then e5).new z.keep λn B=>.inr (by have:=a2 n B;omega);have m3:=z.keep.size;refine al.dec (λf6=>?_) (λf7=>?_)
  ·obtain⟨a3,rfl⟩:=z.some oM
   have f9:=f3 a3 rfl;have a5:C[c]? =some C[c]:=Qq oM;have O:=l3 C[c] (XY oM);generalize C[c]=bx at a5 O;refine⟨a3,0,rfl,oM,oM,_,_,_,z.cell rfl a5 (by show M*4<=aR;unfold aR at c4⊢;omega) 3 _ rfl,PC.ok (tR (O.1.af N) λn B=>by have:=hD n B;have:=(a7.then N).size;omega) ?_⟩;rintro _ m4 ⟨m5,m6,m7,G,rfl,c3,i5,i⟩;refine⟨_,_,_,rfl,a3,0,rfl,oM,oM,?_⟩;refine(z.af i5).step (g:=a3) rfl a5 (c3.row (bytes:=32) dC ?_) O.2 (λu E=>⟨by have:=i u E;omega,c3.aF u E⟩) f9 λm8 g3 m9 n0=>⟨_,?_,c+1,aq (by unfold aR at c4;omega),oM,rfl,g3⟩
   ·have e:=O.1.fh
    have l:=O.1.len;show bx.x.bG.length*32<=aR;have n1:bx.n=bx.x.bG.length:=l;have n2:bx.n*32<=aR:=e;omega
   ·omega
  ·obtain rfl:c=M:=oM
   obtain⟨Fd,m,c6⟩:=z.done;rw[l1,HW]at m;have c5:=N.get K id;refine⟨P.heap.size,0,rfl,_,_,_,ae c5 rfl,KK (c:=nJ) (x:=a0) (t.af N) QO (D:=Fd) ⟨_,_,_,rfl,m.row dC (by rw[<-i4];exact c4)⟩ (λn B=>⟨m.aF n B,λb=>?_⟩) ?_ ?_ λa' Q n3 F' g6 c7 f4 n4=>⟨_,_,_,rfl,P.heap.size,0,rfl,?_⟩⟩
   ·have e:=t.aF n (t.self n b)
    rcases c6 n B with l|l
    ·have:=a2 n l;omega
    ·omega
   ·have:=List.length_take_le a d.types;unfold aR at X⊢;omega
   ·have:=List.length_take_le a d.types;unfold aR at X;unfold maxLen;omega
   ·have i6:¬aG r=some P.heap.size:=λb=>by have:=L _ (t.self _ b);omega
    have i7:=c7.get c5 i6;have n5:=c7.size;refine PS.mk i7 sM λn6 f5 n7 i8=>⟨_,?_,a+1,aq (by unfold aR at X;omega),oM,rfl,?_,a',s+1,Q,F',i8,?_,?_⟩
    ·omega
    ·exact((kk.af N).new c7 λn B=>.inr (L _ (t.self n B))).then f5
    ·rw[Qw,e1]
     refine g6.keep f5 λn B b=>?_;rcases f4 n B with e|e|e
     ·have:=L n e;omega
     ·rcases c6 n e with l|l
      ·have:=a2 n l;omega
      ·omega
     ·omega
    ·intro n B
     rcases f4 n B with e|e|e
     ·exact L n e
     ·rcases c6 n e with l|l
      ·have:=a2 n l;omega
      ·omega
     ·omega
 ·obtain rfl:a=tn:=oM
  rw[Qz oM]at t;have h1:=(Y.af Z).keep kk λn B b=>by have:=Y.aF n B;omega
  have n8:P.heap.size<y.heap.size:=aA K;have f8:bu y (λn=>j n\/x n) d r s h f:=⟨(t.row (bytes:=24) dC (by rw[<-h0];exact X)).mono λn B=>.inl B,(h1.row (bytes:=40) dC (by rw[<-h3];exact h4)).mono λn B=>.inr B⟩
  have A:∀n,j n\/x n->w.heap.size<=n/\n<y.heap.size/\n≠P.heap.size:=λn B=>by
   rcases B with B|B
   ·have:=L n B;have:=t.aF n B;omega
   ·have:=h5 n B;have:=Y.aF n B;omega
  refine⟨P.heap.size,0,rfl,_,_,_,_,_,_,ae K rfl,ae K rfl,PC.ok (HX m f8 λn B=>(A n B).2.1) ?_⟩;rintro _ i9 ⟨vp,R,rfl,hv,b1,b2⟩;have o0:=b2.size;have g0:=hv.aF;refine⟨_,rfl,P.heap.size,0,rfl,PS.mk (b2.get K id) sM λS c8 o1 g2=>⟨P.heap.size,0,rfl,_,_,_,ae g2 rfl,?_⟩⟩;have n9:=Y.len dC;have c9:bu S (λn=>j n\/x n) d r s h f:=(f8.af b2).keep c8 λn B b=>(A n B).2.2 b;have h2:cJ S vp R (bf.new d):=hv.keep c8 λn B b=>by have b:n=P.heap.size:=b;have:=b1 n B;omega
  refine⟨λq I w'=>∃(a:Nat) (ra:bc) (T rc:Nat) (G:UK),I=a/\a<=f/\q=f-a/\aj (·=P.heap.size) S w'/\w'.heap[P.heap.size]? =some (.cells #[.slice r s J,.slice h f v,WP (every:Int),.slice none 0 0,RK vp,.slice ra T rc,.slice none 0 0] 202 (0,0))/\
   cK w' G ra T rc ((d.projs.take a).map λp=>(⟨p,[]⟩:dQ))/\∀n,G n->S.heap.size<=n/\n<w'.heap.size,⟨_,0,none,0,0,λ_=>False,rfl,Qj _,rfl,aj.refl _,g2,cK.nil _,λn B=>B.elim⟩,?_⟩
  rintro q _ _ b3 ⟨c,ra,T,rc,G,rfl,g,rfl,H,d0,b4,i⟩;have o2:=H.size;refine al.dec (λf6=>?_) (λf7=>?_)
  ·have j0:c<d.projs.length:=oM
   have E:d.projs[c]? =some d.projs[c]:=Qq j0;generalize d.projs[c]=u at E;obtain⟨n,a4,es,a6,d5,h6,b5,rfl,d6⟩:=(c9.keep H λn B b=>(A n B).2.2 b).F_.el c u E;refine⟨n,a4,a6,oM,oM,cx (es:=oL u) (k:=5) (qC u) rfl (λa0 ht=>by rw[Qx];exact b5 a0 ht) (PA.mk λo3 j1 o4 j2=>aD (qC u) j2 rfl λo5 j3 o6 j4=>λj5 g4=>⟨λ_=>False,P.heap.size,0,rfl,id,?_⟩)⟩;have d1:ai b3 j5:=(j1.new j3 λn B=>.inr (by have B:n=b3.heap.size:=B;omega)).then g4.keep;refine⟨_,_,_,ae (d1.get d0 id) rfl,ar (qC u) ((g4.keep (S:=λ_=>False)).get j4 id) (PC.ok QP ?_)⟩;rintro _ o7 ⟨p',r',rfl,d2,o8,o9,p0,p1,d3⟩;have j6:p'≠r':=λb=>by
    obtain⟨es,cl,hm,-⟩:=d2.map.at';have:=d2.at';rw[b,hm]at this;cases this
   have p2:=d3.size;have p3:=d1.size;refine⟨_,rfl,d3,PA.mk λp4 d4 p5 j7=>⟨d4,?_⟩⟩;have b6:=(d1.then d3).then d4;have j8:=b4.len;rw[Q8,Qy,X2 oM]at j8;refine(b4.af b6).push (λn B=>by have:=(i n B).2;omega) (d2.af d4) (λB=>by have:=(i _ B).2;omega) (λB=>by have:=(i _ B).2;omega) j6 QF j7 (by rw[Q8,Qy];omega) λj9 k0 p6 G3 k2 g5 k3 k4=>⟨_,_,_,rfl,P.heap.size,0,rfl,?_⟩
   have k5:=g5.get (b6.get d0 id) λB=>by have:=(i _ B).1;omega
   have d7:∀n,G3 n->S.heap.size<=n:=λn B=>by
    rcases k3 n B with e|e|e|e
    ·exact(i n e).1
    ·omega
    ·omega
    ·omega
   refine PS.mk k5 sM λp7 g7 p8 k6=>⟨_,?_,c+1,j9,T+1,k0,G3,aq oM,oM,rfl,((H.af b6).new g5 λn B=>.inr (i n B).1).then g7,k6,?_,λn B=>⟨d7 n B,by have:=k4 n B;omega⟩⟩
   ·omega
   ·rw[Qw,E,Q3]
    exact k2.keep g7 λn B b=>by have b:n=P.heap.size:=b;have:=d7 n B;omega
  ·rw[Qz oM]at b4
   have k7:∃U,eA b3 (λn=>∃k,(match k with|0=>n=P.heap.size|1=>j n\/x n|3=>R n|4=>G n|_=>False:Prop)) U P.heap.size ⟨r,s,J,h,f,v,every,none,0,0,vp,ra,T,rc,none,0,0⟩ d (bR d []) (eC d []).rows [] []:=by
    refine bb.join (G:=λk n=>match k with|0=>n=P.heap.size|1=>j n\/x n|3=>R n|4=>G n|_=>False) (λk=>?_) (λc a n g hj=>?_) λk n B=>?_
    ·match k with
     |0=>exact⟨rfl,d0⟩
     |1=>exact c9.keep H λn B b=>(A n B).2.2 b
     |2=>exact aU.nil _
     |3=>exact h2.keep H λn B b=>by have b:n=P.heap.size:=b;have:=b1 n B;omega
     |4=>exact b4
     |5=>exact aU.nil _
     |k+6=>trivial
    ·have V:∀c:Nat,(match c with|0=>n=P.heap.size|1=>j n\/x n|3=>R n|4=>G n|_=>False:Prop)->c=(if n=P.heap.size then 0 else if n<y.heap.size then 1 else if n<i9.heap.size then 3 else 4):=λc g=>by
      rcases c with _|_|_|_|_|c
      ·have g:n=P.heap.size:=g
       rw[Zx g]
      ·have:=A n g;rw[Zq oM,Zx oM]
      ·exact g.elim
      ·have:=b1 n g;have:=g0 n g;rw[Zq oM,Zq oM,Zx oM]
      ·have:=i n g;rw[Zq oM,Zq oM,Zq oM]
      ·exact g.elim
     rw[V c g,<-V a hj]
    ·rcases k with _|_|_|_|_|k
     ·have B:n=P.heap.size:=B
      omega
     ·have:=A n B;omega
     ·exact B.elim
     ·have:=g0 n B;omega
     ·have:=i n B;omega
     ·exact B.elim
   obtain⟨U,hq⟩:=k7;have b7:ai w b3:=(((a7.then b2).new c8 λn B=>.inr (by have B:n=P.heap.size:=B;omega)).new H λn B=>.inr (by have B:n=P.heap.size:=B;omega))
   have g8:∀n,(∃k,(match k with|0=>n=P.heap.size|1=>j n\/x n|3=>R n|4=>G n|_=>False:Prop))->w.heap.size<=n:=λn ⟨k,B⟩=>by
    rcases k with _|_|_|_|_|k
    ·have B:n=P.heap.size:=B
     omega
    ·exact(A n B).1
    ·exact B.elim
    ·have:=b1 n B;omega
    ·have:=i n B;omega
    ·exact B.elim
   refine PC.ok (El hq m (hT.af b7) sM (by rw[qD];exact e6) sM sM) ?_;rintro _ p9 ⟨rfl,q',F',W,b8,b9,d9⟩;refine⟨rfl,Ok.mk ⟨P.heap.size,F',rfl,⟨⟨m,c0.1,c0.2,sM⟩,q',W,b9,?_⟩,λn B=>?_,b7.new d9.keep λn B=>.inr (g8 n B)⟩⟩
   ·rw[QR];simpa using b8
   ·rcases d9.new n B with e|e
    ·exact g8 n e
    ·have:=b7.size;omega
end
def Nf(e:aT)(P:List ah):∀n∈(eC e P).rows,n.rows.length<=P.length:=by
 have:∀(P:List ah) (a:kV) (b:Nat),(∀n∈a.rows,n.rows.length<=b)->∀n∈(P.foldl kV.add a).rows,n.rows.length<=b+P.length:=by
  intro P
  induction P with
  |nil=>intro a b f n c;exact f n c
  |cons d P k=>
   intro a b f n c;have:=k (a.add d) (b+1) (λg h=>?_) n c
   ·simp only[Xq];omega
   ·obtain⟨i,j,rfl⟩:=Xk.1 (show g∈a.rows.map λn=>n.add (a.view.add d).1 (tm ((a.view.add d).2.state d.aZ d.agg) n.p)from h)
    have m:=f i j;unfold dQ.add;dsimp only;split
    ·omega
    ·split
     ·omega
     ·exact Xx (yq ..) oM
 intro n c;have:=this P (kV.new e) 0 (λg h=>by
  obtain⟨i,j,rfl⟩:=Xk.1 (show g∈e.projs.map λl=>(⟨l,[]⟩:dQ)from h);exact Q4 0) n c
 omega
def ju(P:aT)(a:List ah)(n:Int):List ep:=if n<0 then []else match(eC P a).rows[n.toNat]? with
 |none=>[]
 |some b=>b.list
section
variable {w w':World} {p:Nat} {F T D:UK} {d:aT} {every:Nat} {l:List ah}
def KL(q:df w p F d every l):
  be 402 #[RK p,WP e,WP r] w (Ok λs w'=>∃a b c G,s= .tuple #[.agg #[WP (((bR d l).state e r).getD HO).version,.slice a b c],.bool ((bR d l).state e r).isSome]/\aU gG 78 G w' a b c (((bR d l).state e r).getD HO).cells/\(∀n,G n->w.heap.size<=n)/\ai w w'):=by
 obtain⟨y,z,t,rfl,h⟩:=q;refine sI (PA.mk λA f B u=>⟨p,0,rfl,_,ae (eA.af h f).bB rfl,PC.ok (oK ((eA.af h f).at' 3)) ?_⟩);rintro _ C ⟨a,b,c,G,rfl,v,i,g⟩;have E:=g.size;refine⟨_,_,_,_,_,rfl,PS.mk (g.get u id) sM λH j I x=>PS.mk x sM λJ k K m=>⟨_,_,_,_,ae m rfl,ae m rfl,Ok.mk ⟨a,b,c,G,rfl,?_,λn P=>?_,?_⟩⟩⟩
 ·exact v.keep (j.then k) λn P o=>by have o:n=w.heap.size:=o;have:=i n P;omega
 ·have:=i n P;omega
 ·exact(f.then g).new (j.then k) λn P=>.inr (by have P:n=w.heap.size:=P;omega)
def Gf(P:df w p F d every l):be 400 #[RK p] w (Ok (qH AO 133 w (bR d l).entries)):=by
 obtain⟨a,h,b,rfl,n⟩:=P;refine p_ ⟨p,0,rfl,_,ae n.bB rfl,PC.ok (Gh (n.at' 3) (xf d l a.2.2.2).1) ?_⟩;rintro _ i ⟨c,e,f,G,rfl,g⟩;exact⟨_,_,_,rfl,Ok.mk ⟨c,e,f,G,rfl,g⟩⟩
def On(i:df w p F d every l):be 401 #[RK p,WP e] w (Ok λj w'=>qH KD 135 w (ju d l e) j w'/\ve (ju d l e)):=by
 obtain⟨k,B,m,rfl,P⟩:=i;have C:=cK.len (P.at' 4);refine tS (al.dec (λf=>Ok.mk ⟨⟨none,0,0,λ_=>False,rfl,?_,aj.refl _,λo a=>a.elim⟩,?_⟩) (λb=>⟨p,0,rfl,_,_,_,ae P.bB rfl,al.dec (λq=>Ok.mk ⟨⟨none,0,0,λ_=>False,rfl,?_,aj.refl _,λo a=>a.elim⟩,?_⟩) (λq=>?_)⟩))
 ·unfold ju;rw[Zx f];exact aU.nil _
 ·unfold ju;rw[Zx f];exact List.Pairwise.nil
 ·unfold ju;rw[Zq b,Q7 oM];exact aU.nil _
 ·unfold ju;rw[Zq b,Q7 oM];exact List.Pairwise.nil
 ·obtain⟨n,rfl⟩:∃n:Nat,e=n:=⟨e.toNat,oM⟩
  have c:(eC d l).rows[n]? =some (eC d l).rows[n]:=Qq oM;have g:(eC d l).rows[n]∈(eC d l).rows:=XY oM;have r:ju d l (n:Int)=(eC d l).rows[n].list:=by unfold ju;rw[Zq b,Qx,c]
  rw[r];generalize(eC d l).rows[n]=s at c g;obtain⟨t,E,H,u,v,h,-⟩:=cK.elem (P.at' 4) c;refine⟨p,0,rfl,_,_,_,ae P.bB rfl,t,0,u,oM,oM,_,by rw[Qx];exact v,PC.ok (Oo h (Xx (Nf d l s g) k.2.2.2)) ?_⟩;rintro _ I ⟨x,y,z,G,rfl,A⟩;exact⟨_,_,_,rfl,Ok.mk ⟨⟨x,y,z,G,rfl,A⟩,h.zy⟩⟩
end
structure au.Cl (S:au):Prop where
 ok:S.OK
 m_:∀e∈S.l,∀o,o<S.n->S.m_ e o=true
 le:∀e∈S.l,e.seq<=(S.Gt e.origin.toNat:Int)
 has:∀(o:Nat) (s:Int),o<S.n->1<=s->s<=(S.Gt o:Int)->∃e∈S.l,bd e=((o:Int),s)
def Be:H.m_ l a=true↔l.aN.getD a 0=0\/∃n,H.get ((a:Int),l.aN.getD a 0)=some n/\n.aB<l.aB/\∀P,P<n.aN.length->n.aN.getD P 0<=l.aN.getD P 0:=by
 unfold au.m_;generalize l.aN.getD a 0=b;dsimp only
 cases c:H.get ((a:Int),b)with
 |none=>simp
 |some n=>simp
def au.Cl.new(n:a<=64):au.Cl ⟨a,[]⟩:=⟨au.tT n,sM,sM,λb c _ d P=>by simp[au.Gt]at P;omega⟩
def au.TQ(n:au.OK ⟨H.n,dN l H.l⟩)(P:H.get d3=some N):au.get ⟨H.n,dN l H.l⟩ d3=some N:=by
 obtain⟨a,rfl⟩:=au.get_some P;exact n.get ((cN l H.l).mem_iff.2 (QJ _ a))
def au.gq(n:au)(P:ah):((n.add P).1≠0/\(n.add P).2=n)\/(n.add P=(0,⟨n.n,dN P n.l⟩)/\cR P n.n=0/\n.get (bd P)=none/\P.seq=n.vec.getD P.origin.toNat 0+1/\∀a,a<n.n->n.m_ P a=true):=by
 rw[au.add_def];split
 ·rename_i b;exact .inl ⟨b,rfl⟩
 rename_i c;split
 ·exact .inl ⟨sM,rfl⟩
 rename_i d;split
 ·exact .inl ⟨sM,rfl⟩
 rename_i e;split
 ·exact .inl ⟨sM,rfl⟩
 rename_i f;refine .inr ⟨rfl,by simpa using c,by simpa using d,by simpa using e,?_⟩;simpa[List.any_eq_false]using f
def au.TR{S:au}(P:cR l S.n=0)(a:S.get (bd l)=none)(b:l.seq=S.vec.getD l.origin.toNat 0+1)(c:∀n,n<S.n->S.m_ l n=true):S.add l=(0,⟨S.n,dN l S.l⟩):=by
 rw[au.add_def,Zq (by simpa using P),Zq (by simp[a]),Zq (by simpa using b),Zq];simpa[List.any_eq_false]using c
def au.Cl.add{b:au}(g:b.Cl){a:ah}(q:a.Ok):(b.add a).2.Cl:=by
 have k:=(au.AP g.ok q).1;rcases b.gq a with⟨-,f⟩|⟨h,r,y,s,t⟩
 ·rw[f];exact g
 rw[h]at k⊢;simp only at k⊢;obtain⟨z,A,B,-⟩:=nV r;obtain⟨i,l⟩:∃i:Nat,a.origin=i:=⟨a.origin.toNat,oM⟩
 have u:i<b.n:=oM
 rw[l,Qx,b.vo u]at s;have c:∀n,n∈dN a b.l↔n=a\/n∈b.l:=λn=>by rw[(cN a b.l).mem_iff,Q2]
 have d:∀n e,b.m_ n e=true->au.m_ ⟨b.n,dN a b.l⟩ n e=true:=λn e P=>by
  rw[Be]at P⊢;rcases P with P|⟨v,h,f⟩
  ·exact .inl P
  ·exact .inr ⟨v,au.TQ k h,f⟩
 refine⟨k,λn P e j=>?_,λn P=>?_,λe m j h f=>?_⟩
 ·rcases(c n).1 P with rfl|P
  ·exact d _ _ (t e j)
  ·exact d _ _ (g.m_ n P e j)
 ·rw[au.Gu]
  rcases(c n).1 P with rfl|P
  ·rw[l,Qx,Zx rfl];omega
  ·have:=g.le n P
   split<;>omega
 ·rw[au.Gu]at f
  by_cases p:a.origin=(e:Int)
  ·rw[Zx p]at f
   have w:i=e:=oM
   subst w
   by_cases x:m=a.seq
   ·exact⟨a,(c a).2 (.inl rfl),by simp[bd,l,x]⟩
   ·obtain⟨n,P,o⟩:=g.has i m j h oM
    exact⟨n,(c n).2 (.inr P),o⟩
  ·rw[Zq p]at f
   obtain⟨n,P,o⟩:=g.has e m j h oM;exact⟨n,(c n).2 (.inr P),o⟩
def au.Vn(n:au)(P:ah):(n.add P).2.n=n.n:=by
 rcases n.gq P with⟨-,a⟩|⟨b,-⟩
 ·rw[a]
 ·rw[b]
def au.Au(n:au)(P:ah):(n.add P).2.l.length<=n.l.length+1:=by
 rcases n.gq P with⟨-,a⟩|⟨b,-⟩
 ·rw[a];omega
 ·rw[b];show(dN P n.l).length<=_;rw[(cN P n.l).length_eq];simp
def au.sr(n:au)(P:List ah)(a:ah):n.eD (P++[a])=((n.eD P).add a).2:=by unfold au.eD;rw[List.foldl_append];rfl
def au.Bf(n:au)(P a:List ah):n.eD (P++a)=(n.eD P).eD a:=by unfold au.eD;rw[List.foldl_append]
def au.Cl.eD:∀{l:List ah} {S:au},S.Cl->(∀e∈l,e.Ok)->(S.eD l).Cl
 |[],S,n,_=>n
 |e::l,S,n,P=>au.Cl.eD (l:=l) (S:=(S.add e).2) (n.add (P e (QV ..))) λa b=>P a (QJ _ b)
def au.Rl:∀(P:List ah) (n:au),(n.eD P).n=n.n
 |[],n=>rfl
 |e::P,n=>(au.Rl P _).trans (n.Vn e)
def au.nQ:∀(P:List ah) (n:au),(n.eD P).l.length<=n.l.length+P.length
 |[],n=>by simp[au.eD]
 |e::P,n=>by
  have a:=au.nQ P (n.add e).2;have b:=n.Au e;show((n.add e).2.eD P).l.length<=_;simp only[Xq];omega
def tZ{P:ah}:∀{n:List ah},(∀x∈n,eU P x=false)->dN P n=n++[P]
 |[],_=>rfl
 |x::n,a=>by
  unfold dN;rw[Zq (by rw[a x (QV ..)];simp),tZ λb c=>a b (QJ _ c)];rfl
def au.Cl.take{n:au}(f:n.Cl):∀{k:Nat},k<=n.l.length->(⟨n.n,[]⟩:au).eD (n.l.take k)=⟨n.n,n.l.take k⟩/\au.Cl ⟨n.n,n.l.take k⟩
 |0,_=>⟨rfl,by simpa using au.Cl.new f.ok.n⟩
 |k+1,U=>by
  obtain⟨I,j⟩:=au.Cl.take f (k:=k) oM;have e:n.l[k]? =some n.l[k]:=Qq oM;have l:n.l[k]∈n.l:=XY oM;generalize n.l[k]=P at e l;have v:n.l=n.l.take k++P::n.l.drop (k+1):=by
   conv=>lhs;rw[<-ZX k n.l]
   congr 1
   rw[X4 oM]
   congr 1
   have:=Qq (l:=n.l) (i:=k) oM;rw[e]at this;exact(XJ this).symm
  have p:=f.ok.Q_;have g:=f.ok.ids;rw[v]at p g;have d:∀x∈n.l,eU x P=true->x∈n.l.take k:=λx b m=>by
   rw[v]at b;rcases Q6.1 b with b|b
   ·exact b
   rcases Q2.1 b with rfl|b
   ·rw[ke]at m;omega
   ·have J:=(List.pairwise_append.1 p).2.1
    have q:=(List.pairwise_cons.1 J).1 x b;rw[nR q]at m;cases m
  have a:∀x∈n.l.take k,eU x P=true:=λx b=>(List.pairwise_append.1 p).2.2 x b P (QV ..);have w:au.get ⟨n.n,n.l.take k⟩ (bd P)=none:=by
   cases K:au.get ⟨n.n,n.l.take k⟩ (bd P)with
   |none=>rfl
   |some x=>
    obtain⟨h,i⟩:=au.get_some K;rw[Q3,QY,List.nodup_append]at g;exact Zz i (g.2.2 (bd x) (Xk.2 ⟨x,h,rfl⟩) (bd P) (QV ..))
  have y:=f.ok.Yw P l;obtain⟨V,W,L,X,-,-,Y,-,z,-⟩:=nV y;obtain⟨c,r⟩:∃c:Nat,P.origin=c:=⟨P.origin.toNat,oM⟩
  have s:c<n.n:=oM
  have A:∀o,o<n.n->au.m_ ⟨n.n,n.l.take k⟩ P o=true:=λo M=>by
   have:=f.m_ P l o M;rw[Be]at this⊢;rcases this with B|⟨x,t,C,N⟩
   ·exact .inl B
   ·obtain⟨h,i⟩:=au.get_some t
    refine .inr ⟨x,?_,C,N⟩;rw[<-i];exact j.ok.get (d x h (by rw[ke];exact .inl C))
  have E:=f.ok.ok P l;have Q:P.seq=(au.vec ⟨n.n,n.l.take k⟩).getD P.origin.toNat 0+1:=by
   rw[r,Qx,au.vo (S:=⟨n.n,n.l.take k⟩) s];have Z:(au.Gt ⟨n.n,n.l.take k⟩ c:Int)+1<=P.seq:=by
    rcases Int.lt_or_le (au.Gt ⟨n.n,n.l.take k⟩ c:Int) P.seq with m|O
    ·omega
    ·obtain⟨x,R,S⟩:=j.has c P.seq s L O
     have:=au.get_none w x R;exact Zz (S.trans (by simp[bd,r])) this
   have O:P.seq<=(au.Gt ⟨n.n,n.l.take k⟩ c:Int)+1:=by
    have T:qf (P.seq-1)=P.seq-1:=by
     have:=E.seq;exact wrap_i64 (by unfold aM at*;omega)
    rw[T,r,Qx]at z;have:=A c s;rw[Be,z]at this;rcases this with B|⟨x,t,-⟩
    ·omega
    ·obtain⟨h,i⟩:=au.get_some t
     have q:=j.le x h;have F:x.origin=c/\x.seq=P.seq-1:=by
      have:=i;simp only[bd,Prod.mk.injEq]at this;exact this
     rw[F.1,F.2,Qx]at q;omega
   show P.seq=(au.Gt ⟨n.n,n.l.take k⟩ c:Int)+1;omega
  have H:=au.TR (S:=⟨n.n,n.l.take k⟩) y w Q A;have a0:dN P (n.l.take k)=n.l.take (k+1):=by
   rw[tZ λx e=>nR (a x e),Qw,e];rfl
  rw[show n.l.take (k+1)=n.l.take k++[P] by rw[Qw,e];rfl,au.sr,I,H];have u:=j.add E;rw[H]at u;rw[show dN P (n.l.take k)=n.l.take k++[P]from tZ λx e=>nR (a x e)]at u⊢;exact⟨rfl,u⟩
def au.Cl.VX(n:H.Cl):(⟨H.n,[]⟩:au).eD H.l=H:=by
 have:=(n.take (Q4 _)).1;rw[List.take_length]at this;exact this
def Ep{n:ah}:∀{l:List ah},(∀x∈l,bd x≠bd n)->dN n l=l.take (posOf (λx=>eU x n) l)++n::l.drop (posOf (λx=>eU x n) l)
 |[],_=>rfl
 |x::l,a=>by
  have b:=a x (QV ..);unfold dN posOf;rw[List.takeWhile_cons]
  by_cases P:eU x n=true
  ·rw[Zx P,Zq (by rw[nR P];simp)]
   have:=Ep (l:=l) λc d=>a c (QJ _ d);rw[this];simp[posOf]
  ·rw[Zq P,Zx ((Gn b).resolve_left P)]
   rfl
structure qK (most:Nat) (l:List ah):Prop where
 Q_:VU l
 ids:(l.map bd).Nodup
 ok:∀e∈l,e.Ok
 le:l.length<=most
def qK.nil(n:Nat):qK n []:=⟨List.Pairwise.nil,sM,sM,Qj _⟩
def qK.add(b:qK a F)(f:l.Ok):qK a (eV a F l).2:=by
 unfold eV;split
 ·exact b
 rename_i d;rw[not_or]at d;have e:∀n∈F,bd n≠bd l:=by
  have:=d.2;simp only[List.any_eq_true,beq_iff_eq,not_exists,not_and]at this;exact this
 have c:=cN l F;refine⟨xi b.Q_ e,?_,λn P=>?_,by rw[c.length_eq,Xq];omega⟩
 ·refine(c.map bd).nodup_iff.2 ?_
  rw[QY,List.nodup_cons];exact⟨λg=>by obtain⟨n,P,h⟩:=Xk.1 g;exact e n P h,b.ids⟩
 ·rcases Q2.1 (c.mem_iff.1 P)with rfl|P
  ·exact f
  ·exact b.ok n P
def qK.sub(n:qK a F)(P:f8.Sublist F):qK a f8:=
 ⟨n.Q_.sublist P,n.ids.sublist (P.map bd),λb c=>n.ok b (P.subset c),Xx P.length_le n.le⟩
def tr{P:au}:∀{n:List ah},(∀e∈n,(P.add e).1≠0)->dO P n=none
 |[],_=>rfl
 |e::n,a=>by
  unfold dO;rw[Zq (a e (QV ..)),tr λb c=>a b (QJ _ c)];rfl
def tv{a:au}:∀{n:List ah} {i:Nat} {e:ah},(∀x∈n.take i,(a.add x).1≠0)->n[i]? =some e->(a.add e).1=0->dO a n=some (e,(a.add e).2,n.eraseIdx i)
 |[],i,e,_,P,_=>by simp at P
 |x::n,0,e,b,P,c=>by
  simp at P;subst P;unfold dO;rw[Zx c];rfl
 |x::n,i+1,e,b,P,c=>by
  unfold dO;rw[Zq (b x sM),tv (i:=i) (e:=e) (λd f=>b d (by simp[f])) (by simpa using P) c]
  rfl
def eh(n:bV)(P:bc)(a b:Nat)(c:bc)(d e:Nat):List Value:=[WP n.kind,WP n.bM,WP n.mL,.slice P a b,.slice c d e]
abbrev iV(n:bV)(P:bc)(a b:Nat)(c:bc)(d e:Nat):Value:=.agg (eh n P a b c d e).toArray
def eW(n:bV)(P:bc)(a b:Nat)(c:bc)(d e:Nat):iQ LL 127 (eh n P a b c d e)=true:=kR
def Eu(n:bV)(P:bc)(a b:Nat)(c:bc)(d e:Nat):UA (eE LL 127) (iV n P a b c d e)=true:=kR
section
variable {w w':World} {D E F:UK} {m:bV} {va ea:bc} {vn vc en ec N:Nat} {chunk:Int} {p:Nat} {S:au}
def My(b:Row aP 8 w D va vn m.vec)(i:Row lb 96 w E ea en m.events):be 189 #[iV m va vn vc ea en ec,WP (N:Int)] w (Ok λj w'=>j= WP (gC m N)/\ai w w'):=by
 have u:=b.len;have v:=i.len;have k:=b.fh;refine GO (PA.mk λx c y d=>⟨_,_,_,ae d rfl,al.dec (λl=>Ok.mk ⟨?_,c⟩) (λl=>⟨_,_,_,ae d rfl,al.eK (λo=>Ok.mk ⟨?_,c⟩) (λo=>⟨_,_,_,ae d rfl,λf p w'=>∃n:Nat,p=n/\n<=vn/\f=vn-n/\((m.vec.take n).any λP=>decide (P<0))=false/\ai w w',⟨_,0,rfl,Qj _,rfl,sM,c⟩,?_⟩)⟩)⟩)
 ·unfold gC;rw[Zx oM]
 ·unfold gC;rw[Zq oM,Zx oM]
 rintro f _ _ z ⟨n,rfl,A,rfl,e,a⟩;refine al.dec (λB=>?_) (λC=>Ok.mk ⟨?_,a⟩)
 ·obtain⟨q,r,P,s,g,-,t⟩:=(b.af a).nE (i:=n) oM
  refine⟨q,r,s,oM,oM,P,t,al.dec (λh=>Ok.mk ⟨?_,a⟩) (λh=>⟨_,oM,n+1,aq (by unfold aR at k;omega),oM,rfl,?_,a⟩)⟩
  ·unfold gC;rw[Zq oM,Zq oM,Zx (List.any_eq_true.2 ⟨P,QZ g,by simpa using h⟩)]
  ·rw[Qw,g,List.any_append,e];simp;omega
 ·rw[Qz oM]at e
  unfold gC;rw[Zq oM,Zq oM,Zq (by rw[e];simp)]
def yS{c:Type}{n:c->Int}:∀{P:List c} {d:Nat} {a:c},(∀y∈P.take d,n y=0)->P[d]? =some a->n a≠0->cD n P=n a
 |y::P,0,a,_,b,e=>by
  simp at b;subst b;unfold cD;rw[Zx (by simpa using e)]
 |y::P,d+1,a,f,b,e=>by
  have g:n y=0:=f y sM;unfold cD
  rw[g];simp only[bne_self_eq_false,Bool.false_eq_true,if_false];exact yS (λh i=>f h (QJ _ i)) (by simpa using b) e
def CB{P:Type}{a:P->Int}:∀{n:List P},(∀y∈n,a y=0)->cD a n=0
 |[],_=>rfl
 |y::n,b=>by
  unfold cD
  rw[b y (QV ..)];simpa using CB λc d=>b c (QJ _ d)
def Mz(t:Row aP 8 w D va vn m.vec)(h:Row lb 96 w E ea en m.events)(u:N<4611686018427387904):be 188 #[iV m va vn vc ea en ec,WP (N:Int),WP chunk] w (Ok λv w'=>v= WP (eB m N chunk)/\ai w w'):=by
 have W:=t.len;have X:=h.len;have x:=h.fh;refine GN (PA.mk λY a Z b=>⟨_,_,_,ae b rfl,al.dec (λy=>Ok.mk ⟨?_,a⟩) (λy=>⟨_,_,_,ae b rfl,al.dec (λz=>Ok.mk ⟨?_,a⟩) (λz=>⟨_,_,_,ae b rfl,al.dec (λA=>Ok.mk ⟨?_,a⟩) (λA=>⟨_,_,_,ae b rfl,λl i w'=>∃n:Nat,i=n/\n<=en/\l=en-n/\(∀P∈m.events.take n,cR P N=0)/\ai w w',⟨_,0,rfl,Qj _,rfl,sM,a⟩,?_⟩)⟩)⟩)⟩)
 ·unfold eB;rw[Zx oM]
 ·unfold eB;rw[Zq oM,Zx (.inl oM)]
 ·unfold eB;rw[Zq oM,Zx (.inr oM)]
 rintro l _ _ B ⟨n,rfl,hj,rfl,c,d⟩;have o:eB m N chunk=cD (λC=>cR C N) m.events:=by unfold eB;rw[Zq oM,Zq oM]
 refine al.dec (λa4=>?_) (λa5=>Ok.mk ⟨?_,d⟩)
 ·obtain⟨p,F,es,I,J,a6,q,e,f,g,rfl,r,K⟩:=(h.af d).el n m.events[n] (Qq oM)
  have j:m.events[n]? =some m.events[n]:=Qq oM;generalize m.events[n]=P at q r K j;refine⟨p,F,I,oM,oM,cx (es:=aI P e f g) (k:=10) (bh P e f g) rfl (λi L=>q i L) (PA.mk λw3 M s3 O=>aD (bh P e f g) O rfl λQ R s4 S=>ar (bh P e f g) S ?_)⟩;have k:ai B Q:=M.new R λp J=>.inr oM;refine PC.ok (yI (r.af k) u) ?_;rintro _ w5 ⟨rfl,s⟩;refine⟨_,rfl,al.eK (λT=>Ok.mk ⟨by rw[o,yS c j T],(d.then k).then s⟩) (λU=>⟨_,oM,n+1,aq (by unfold aR at x;omega),oM,rfl,λV H=>?_,(d.then k).then s⟩)⟩;rw[Qw,j]at H;rcases Q6.1 H with H|H
  ·exact c V H
  ·simp at H;subst H;exact U
 ·rw[Qz oM]at c
  rw[o,CB c]
def yT(h:cM w p F S):be 78 #[RK p,WP e,WP r] w (Ok λi w'=>∃va vn vc G,i=iV (lr S e r) va vn vc none 0 0/\aU aP 3 G w' va vn vc S.vec/\(∀r,G r->w.heap.size<=r)/\ai w w'):=by
 refine DH (PA.mk λm d o j=>PC.ok (mK (h.af d)) ?_);rintro _ q ⟨P,a,b,G,rfl,k,c,f⟩;have s:=c.size;refine⟨_,_,_,rfl,aD (eW (lr S e r) P a b none 0 0) (c.get j id) rfl λt g u l=>ar (eW (lr S e r) P a b none 0 0) l (Ok.mk ⟨P,a,b,G,rfl,k.keep g λr n v=>?_,λr n=>?_,(d.then c).new g λr n=>.inr oM⟩)⟩
 ·have:=f r n;omega
 ·have:=f r n;omega
def JL(h:cM w p F S):be 191 #[RK p,WP e,WP r] w (Ok λi w'=>∃va vn vc G,i=iV (Am S e r) va vn vc none 0 0/\aU aP 3 G w' va vn vc S.vec/\(∀r,G r->w.heap.size<=r)/\ai w w'):=by
 refine LM (PA.mk λm d o j=>PC.ok (mK (h.af d)) ?_);rintro _ q ⟨P,a,b,G,rfl,k,c,f⟩;have s:=c.size;refine⟨_,_,_,rfl,aD (eW (Am S e r) P a b none 0 0) (c.get j id) rfl λt g u l=>ar (eW (Am S e r) P a b none 0 0) l (Ok.mk ⟨P,a,b,G,rfl,k.keep g λr n v=>?_,λr n=>?_,(d.then c).new g λr n=>.inr oM⟩)⟩
 ·have:=f r n;omega
 ·have:=f r n;omega
def FC{cs:Array Value}(P:w.heap[a]? =some (.cells cs g C))(b:cs[0]? =some (WP (N:Int))):be 187 #[WP e,RK a] w (Ok λc w'=>c= .bool (decide (0<=e)&&decide (e<N))/\w=w'):=by
 refine DM (al.dec (λn=>⟨_,ae P b,Ok.mk ⟨?_,rfl⟩⟩) (λn=>Ok.mk ⟨?_,rfl⟩))
 ·rw[Zy (show 0<=e from n)];rfl
 ·rw[Xv (show¬0<=e from n)];rfl
def PI(o:Row aP 8 w D va vn m.vec)(p:Row lb 96 w E ea en m.events)(v:N<4611686018427387904):be 118 #[iV m va vn vc ea en ec,WP (N:Int),WP chunk] w (Ok λf w'=>f= WP (ei m N chunk)/\ai w w'):=by
 refine IN (PA.mk λx y J z=>PA.mk λg q K i=>?_);have b:=q.get z id;have n:=y.then q;refine⟨λA w'=>A=(!(decide (0<=m.bM)&&decide (m.bM<N))|| !(decide (0<=m.mL)&&decide (m.mL<N))||m.bM==m.mL)/\g=w',?_,?_⟩
 ·refine⟨_,ae b rfl,_,_,_,rfl,kR,PC.ok (FC (N:=N) i rfl) ?_⟩
  rintro _ _ ⟨rfl,rfl⟩;refine⟨_,rfl,al.not (al.mk (λP=>⟨_,ae b rfl,_,_,_,rfl,kR,PC.ok (FC (N:=N) i rfl) ?_⟩) (λP=>⟨by rw[P];rfl,rfl⟩))⟩;rintro _ _ ⟨rfl,rfl⟩;refine⟨_,rfl,al.not (al.mk (λa=>⟨_,ae b rfl,_,ae b rfl,by rw[P,a];rfl,rfl⟩) (λa=>⟨by rw[P,a];rfl,rfl⟩))⟩
 rintro j _ _ ⟨B,rfl⟩;have e:ei m N chunk=if m.kind=3 then(if j then 1 else eB m N chunk)else if m.kind=1\/m.kind=2\/m.kind=4 then(if j then 1 else gC m N)else 2:=by rw[B];rfl
 have c:∀{r:List PanicEntry->ba},(if j then 1 else gC m N)=ei m N chunk->al j (Ok (λf w'=>f= WP (ei m N chunk)/\ai w w') (.returned (WP 1)) g) (jW LL 127 (RK w.heap.size) g λC=>(∃(s:Int),g.cell? ⟨x.heap.size,0,none⟩=some (WP s)/\PC LL 189 #[C,WP s] g (λF H=>∃(t:Int),F= WP t/\Ok (λf w'=>f= WP (ei m N chunk)/\ai w w') (.returned (WP t)) H) r)):=λ{r} u=>by
  refine al.mk (λh=>Ok.mk ⟨by rw[<-u,h];rfl,n⟩) (λh=>ar (eW m va vn vc ea en ec) b ⟨_,ae i rfl,PC.ok (My (o.af n) (p.af n)) ?_⟩);rintro _ I ⟨rfl,k⟩;exact⟨_,rfl,Ok.mk ⟨by rw[<-u,h];rfl,n.then k⟩⟩
 refine⟨_,ae b rfl,al.eI (λd=>al.not (al.mk (λh=>?_) (λh=>ar (eW m va vn vc ea en ec) b ⟨_,ae i rfl,PC.ok (Mz (o.af n) (p.af n) v) ?_⟩))) (λd=>al.eI (λP=>al.tt (by simpa using P) (c ?_)) (λP=>al.eI (λa=>al.tt (by simpa using a) (c ?_)) (λa=>al.eI (λl=>c ?_) (λl=>Ok.mk ⟨?_,n⟩))))⟩
 ·exact al.tt h (Ok.mk ⟨by rw[e,Zx d,h];rfl,n⟩)
 ·rintro _ I ⟨rfl,k⟩
  exact⟨_,rfl,Ok.mk ⟨by rw[e,Zx d,h];rfl,n.then k⟩⟩
 ·rw[e,Zq d,Zx (show m.kind=1\/m.kind=2\/m.kind=4 from .inl P)]
 ·rw[e,Zq d,Zx (show m.kind=1\/m.kind=2\/m.kind=4 from .inr (.inl a))]
 ·rw[e,Zq d,Zx (show m.kind=1\/m.kind=2\/m.kind=4 from .inr (.inr l))]
 ·rw[e,Zq d,Zq (by rintro(h|h|h);exact P h;exact a h;exact l h)]
end
structure QT (w:World) (p:Nat) (M D:UK) (most:Nat) (l:List ah) (a:bc) (n c:Nat) (L:List (Bx ah)):Prop where
 at':w.heap[p]? =some (.cells #[WP (most:Int),.slice a n c] 147 (0,0))
 nG:aU nK.kv 63 (λb=>aG a=some b) w a n c L
 map:L.map (·.x)=l
 Ot:∀b∈L,nK.In w D b
 dD:∀b,D b->b<w.heap.size/\¬M b
 mp:M p
 ma:∀b,aG a=some b->M b/\b≠p
 dM:∀b,M b->b<w.heap.size
def iA(a:World)(b:Nat)(c D:UK)(n:Nat)(P:List ah):Prop:=(n<=256/\qK n P)/\∃d e f g,QT a b c D n P d e f g
section
variable {w w':World} {p:Nat} {M D T E:UK} {most:Nat} {l:List ah} {a:bc} {n c:Nat} {L:List (Bx ah)}
def QT.keep(b:QT w p M D most l a n c L)(e:aj T w w')(f:∀P,M P->¬T P)(g:∀P,D P->¬T P):QT w' p M D most l a n c L:=
 ⟨e.get b.at' (f _ b.mp),b.nG.keep e λP d=>f P (b.ma P d).1,b.map,λP d=>(b.Ot P d).keep e g,λP d=>⟨Qk (b.dD P d).1 e.size,(b.dD P d).2⟩,b.mp,b.ma,λP d=>Qk (b.dM P d) e.size⟩
def iA.keep(b:iA w p M D most l)(d:aj T w w')(e:∀P,M P->¬T P)(f:∀P,D P->¬T P):iA w' p M D most l:=by
 obtain⟨g,a,n,c,L,b⟩:=b;exact⟨g,a,n,c,L,b.keep d e f⟩
def iA.af(n:iA w p M D most l)(P:ai w w'):iA w' p M D most l:=n.keep P (λ_ _ n=>n) λ_ _ n=>n
def tW:kD LL 59 63 nK.kv.k 96:=KF
def KM(f:0<=e/\e<=256):be 44 #[WP e] w (Ok λb w'=>∃p,b= RK p/\iA w' p (·=p) (λ_=>False) e.toNat []/\w.heap.size<=p/\p<w'.heap.size/\ai w w'):=by
 refine Gi (PA.mk λc d g a=>Ok.mk ⟨w.heap.size,rfl,⟨⟨oM,qK.nil _⟩,none,0,0,[],?_,(aU.nil c).mono (λP n=>n.elim) (λP n=>by cases n),rfl,sM,λP n=>n.elim,rfl,λP n=>(by cases n),λP n=>by have n:P=w.heap.size:=n;omega⟩,Q4 _,oM,d⟩);have:(if(if 256<e then 256 else e)>0 then(if 256<e then 256 else e)else 0)=((e.toNat:Nat):Int):=by split<;>split<;>omega
 rw[this]at a;exact a
def vi(d:iA w p M D most l):be 84 #[RK p] w (Ok λf w'=>f= .tuple #[]/\iA w' p M (λ_=>False) most []/\aj M w w'):=by
 obtain⟨g,a,n,c,L,d⟩:=d;refine qb ⟨p,0,rfl,PS.mk d.at' sM λh i j k=>Ok.mk ⟨rfl,⟨⟨g.1,qK.nil _⟩,none,0,0,[],k,(aU.nil h).mono (λb P=>P.elim) (λb P=>by cases P),rfl,sM,λb P=>P.elim,d.mp,λb P=>(by cases P),λb P=>by rw[j];exact d.dM b P⟩,i.mono λb _ e=>by have e:b=p:=e;exact e▸d.mp⟩⟩
def AV(r:enters LL z=true)(b:Nat->ba)(o:Nat->ba)(h:b 0 w)(i:∀P f,b P f->Row nK.kv 96 f E a n L)(s:∀P d f,L[P]? =some d->b P f->be z (m++ #[kU d.x d.a d.n d.c]++Y) f (Ok λg w'=>(g= .bool true/\o P w')\/(g= .bool false/\b (P+1) w'))):
  be 304 #[.slice a n c,.func (.func z) m Y] w (Ok λg w'=>(∃P,P<n/\g= WP (P:Int)/\o P w')\/(g= WP (-1)/\b n w')):=by
 have F:=(i 0 w h).len;have t:=(i 0 w h).fh;unfold aR at t;refine fU ⟨λp j w'=>∃P:Nat,j=P/\P<=n/\p=n-P/\b P w',⟨_,0,rfl,Qj _,rfl,h⟩,?_⟩;rintro p _ _ q ⟨P,rfl,H,rfl,k⟩;refine al.dec (λI=>?_) (λJ=>?_)
 ·have u:P<L.length:=oM
  have l:L[P]? =some L[P]:=Qq u;generalize L[P]=e at l;obtain⟨d,v,K,x,M,N,y,rfl,-⟩:=(i P q k).el P e l;refine⟨d,v,x,oM,oM,cx (es:=aI e.x e.a e.n e.c) (k:=10) (bh _ _ _ _) rfl (λj A=>by rw[Qx];exact y j A) ⟨_,_,_,rfl,r,PC.ok (s P e q l k) ?_⟩⟩;rintro _ O (⟨rfl,B⟩|⟨rfl,C⟩)
  ·exact⟨_,rfl,al.tt rfl (Ok.mk (.inl ⟨P,oM,rfl,B⟩))⟩
  ·exact⟨_,rfl,al.ff rfl ⟨_,oM,P+1,aq oM,oM,rfl,C⟩⟩
 ·obtain rfl:P=n:=oM
  exact Ok.mk (.inr ⟨rfl,k⟩)
def Ie{P:ah}{f g:Nat}{a:Nat}{b:ah}{h i:Nat}(c:w.heap[a]? =some (.cells (aI b x h i).toArray 63 C)):
  be 296 #[kU P d f g,RK a] w (Ok λj w'=>j= .bool (bd P==bd b)/\ai w w'):=by
 refine qd (PA.mk λk n l e=>⟨_,_,ae e rfl,ae e rfl,_,_,ae (n.get c id) rfl,ae (n.get c id) rfl,Nd.eql ⟨_,rfl,Ok.mk ⟨rfl,n⟩⟩⟩)
def KN(l:Row nK.kv 96 w E a n L)(v:∀P,E P->P<w.heap.size){m:Nat}{f:ah}{q r:Nat}(s:w.heap[m]? =some (.cells (aI f d q r).toArray 63 C)):
  be 295 #[.slice a n c,.func (.func 296) #[] #[RK m]] w (Ok λo w'=>o= .bool (L.any λP=>bd P.x==bd f)/\ai w w'):=by
 have x:=l.len;refine fx (PC.ok (AV (E:=E) kR (λg h=>(∀P∈L.take g,(bd P.x==bd f)=false)/\ai w h) (λg h=>(L.any λP=>bd P.x==bd f)=true/\ai w h) ⟨sM,aj.refl _⟩ (λg h i=>l.af i.2) ?_) ?_)
 ·rintro g P h j ⟨k,b⟩
  refine(Ie (b.get s id)).mono ?_;rintro _ y ⟨o,rfl,rfl,p⟩;refine Ok.mk ?_
  cases i:bd P.x==bd f
  ·refine .inr ⟨rfl,λt e=>?_,b.then p⟩
   rw[Qw,j]at e;rcases Q6.1 e with e|e
   ·exact k t e
   ·simp at e;subst e;exact i
  ·exact .inl ⟨rfl,List.any_eq_true.2 ⟨P,QZ j,i⟩,b.then p⟩
 ·rintro _ z (⟨g,A,rfl,u,b⟩|⟨rfl,k,b⟩)
  ·exact⟨_,rfl,Ok.mk ⟨by rw[u,Zy oM],b⟩⟩
  ·refine⟨_,rfl,Ok.mk ⟨?_,b⟩⟩
   rw[Qz oM]at k;rw[List.any_eq_false.2 λP j=>by rw[k P j];simp]
   rfl
end
section
variable {w w':World} {p:Nat} {M D T E:UK} {most:Nat} {l:List ah} {a:bc} {n c:Nat} {L:List (Bx ah)}
def qL{e f:ah}{a i:bc}{n c j k:Nat}{w:World}:be 298 #[kU e a n c,kU f i j k] w (Ok λl w'=>l= WP (tq e f)/\ai w w'):=by
 refine xh (PA.mk λu m v o=>PA.mk λp g x q=>λr s=>⟨λ_=>False,?_⟩);have P:ai p r:=s.keep;have b:=P.get (g.get o id) id;have d:=P.get q id;refine⟨_,ae b rfl,_,ae d rfl,id,_,ae b rfl,id,_,ae d rfl,id,_,ae b rfl,id,_,ae d rfl,PC.ok iB ?_⟩;rintro _ _ ⟨rfl,rfl⟩;refine⟨_,rfl,aj.refl _,PC.ok iB ?_⟩;rintro _ _ ⟨rfl,rfl⟩;refine⟨_,rfl,aj.refl _,PC.ok iB ?_⟩;rintro _ _ ⟨rfl,rfl⟩;refine⟨_,rfl,aj.refl _,PA.mk λy h z t=>⟨h,PC.ok (QU t) ?_⟩⟩;rintro _ _ ⟨rfl,rfl⟩;exact⟨_,rfl,aj.refl _,Ok.mk ⟨by rw[Ig],((m.then g).then P).then h⟩⟩
def Eo{n P:ah}:tq n P<0↔eU n P=true:=by
 unfold tq
 cases eU n P
 ·cases eU P n<;>simp
 ·simp
def Dq(x:Row nK.kv 96 w E a n L)(U:VU (L.map (·.x))){i:ah}{C F:Nat}:
  be 297 #[.slice a n c,kU i d C F,.func (.func 298) #[] #[]] w (Ok λV w'=>∃P,V= .tuple #[WP ((posOf (λo=>eU o.x i) L:Nat):Int),.bool P]/\ai w w'):=by
 have hl:=x.len;have W:=x.fh;unfold aR at W;have N:∀{j k:Nat} {b l:Bx ah},L[j]? =some b->L[k]? =some l->j<=k->b=l\/eU b.x l.x=true:=λ{j k b l} m q b4=>by
  rcases Nat.lt_or_ge j k with h|h
  ·right
   have y:(L.map (·.x))[j]? =some b.x:=by rw[Q9,m];rfl
   have z:(L.map (·.x))[k]? =some l.x:=by rw[Q9,q];rfl
   obtain⟨X,Y⟩:=Qv.1 y;obtain⟨Z,e2⟩:=Qv.1 z;have:=List.pairwise_iff_getElem.1 U j k X Z h;rw[Y,e2]at this;exact this
  ·obtain rfl:j=k:=oM
   rw[m]at q;exact .inl (XJ q)
 refine dx (PA.mk λa4 O b5 Q=>⟨λR j k w'=>∃p e:Nat,j=p/\k=e/\R=e-p/\p<=e/\e<=n/\(∀P b,P<p->L[P]? =some b->eU b.x i=true)/\(∀P b,e<=P->L[P]? =some b->eU b.x i=false)/\ai a4 w',
  ⟨_,0,n,rfl,rfl,rfl,oM,oM,λP b g=>oM,λP b g m=>by have:=(Qv.1 m).1;omega,aj.refl _⟩,?_⟩)
 rintro R _ _ _ S ⟨p,e,rfl,rfl,rfl,b6,a5,y,z,s⟩;have t:enters LL 298=true:=kR
 refine al.dec (λb7 a6 a7=>?_) (λb8 a8 a9=>?_)
 ·have A:ai S a6:=a7.keep
  have u:=(O.then s).then A;rw[VS oM];have r:L[(p+e)/2]? =some L[(p+e)/2]:=Qq oM;generalize L[(p+e)/2]=f at r;obtain⟨o,H,es,I,b0,b1,J,rfl,-⟩:=(x.af u).el _ f r;refine⟨o,H,I,oM,oM,cx (es:=aI f.x f.a f.n f.c) (k:=10) (bh _ _ _ _) rfl (λP g=>by rw[Qx];exact J P g) (ar (bh i d C F) ((s.then A).get Q id) ⟨_,_,_,rfl,t,PC.ok qL ?_⟩)⟩;rintro _ b2 ⟨rfl,B⟩;refine⟨_,rfl,al.dec (λK=>⟨_,?_,(p+e)/2+1,e,aq oM,rfl,rfl,oM,a5,λP l g q=>?_,z,(s.then A).then B⟩) (λK=>⟨_,?_,p,(p+e)/2,rfl,rfl,rfl,oM,oM,y,λP l g q=>?_,(s.then A).then B⟩)⟩
  ·omega
  ·have v:=Eo.1 K
   rcases N q r oM with rfl|M
   ·exact v
   ·exact tX M v
  ·omega
  ·have v:¬eU f.x i=true:=λh=>K (Eo.2 h)
   rcases N r q g with rfl|M
   ·simpa using v
   ·cases h4:eU l.x i
    ·rfl
    ·exact Zz (tX M h4) v
 ·obtain rfl:p=e:=oM
  have T:ai S a8:=a9.keep;have u:=(O.then s).then T;have a3:posOf (λo=>eU o.x i) L=p:=AT oM (λP b g m=>y P b g m) (λb m=>z p b (Q4 _) m);rw[a3];refine al.dec (λb3=>?_) (λb3=>Ok.mk ⟨false,rfl,u⟩);have r:L[p]? =some L[p]:=Qq oM;generalize L[p]=f at r;obtain⟨o,H,es,I,b0,b1,J,rfl,-⟩:=(x.af u).el _ f r;refine⟨o,H,I,oM,oM,cx (es:=aI f.x f.a f.n f.c) (k:=10) (bh _ _ _ _) rfl (λP g=>by rw[Qx];exact J P g) (ar (bh i d C F) ((s.then T).get Q id) ⟨_,_,_,rfl,t,PC.ok qL ?_⟩)⟩;rintro _ b2 ⟨rfl,B⟩;exact⟨_,rfl,Ok.mk ⟨_,rfl,u.then B⟩⟩
def VV{f h:Nat}{x:Bx ah}(j:aU nK.kv 63 (λP=>aG a=some P) w a n c L)(k:f<=n)(l:w.heap[h]? =some (.cells (aI x.x x.a x.n x.c).toArray 63 (0,0)))(m:aG a≠some h)(r:L.length<=20000000):
  be 299 #[.slice a n c,WP (f:Int),.slice (UV h) 1 1] w (Ok λo w'=>∃d g,o= .slice d (n+1) g/\aU nK.kv 63 (λP=>aG d=some P) w' d (n+1) g (L.take f++x::L.drop f)/\aj (λP=>aG a=some P) w w'/\∀P,aG d=some P->aG a=some P\/w.heap.size<=P):=by
 refine gN (Ih.one (c:=nK.kv) (tb:=4) (x:=x) (D:=λ_=>False) tW kR ?_ j k l ⟨rfl,trivial⟩ (λP b=>b.elim) m ce (by unfold maxLen;omega) λd g w' s e p q=>Ok.mk ⟨d,g,rfl,aU.alone e,p,λP b=>?_⟩)
 ·intro i w
  rw[run_callFunc_extern Tryz.func329 kR kR kR (e:=Extern.SlicesOverlaps.overlaps #[59,59] #[4]) kR]
 ·rcases q P (e.self P b)with b|b|b
  ·exact .inl b
  ·exact b.elim
  ·exact .inr b
def VW{b:Nat}(e:aU nK.kv 63 (λP=>aG a=some P) w a n c L)(f:b<n)(i:n<=20000000):
  be 305 #[.slice a n c,WP (b:Int),WP (PP .i64 ((b:Int)+1))] w (Ok λg w'=>g= .slice a (n-1) c/\aU nK.kv 63 (λP=>aG a=some P) w' a (n-1) c (L.eraseIdx b)/\aj (λP=>aG a=some P) w w'):=
 gO (Gj.one (c:=nK.kv) (tz:=0) tW kR e f (by unfold maxLen;omega) λw' d h=>Ok.mk ⟨rfl,d,h⟩)
def KO(f:iA w p M D most l){e:ah}{en ec:Nat}(O:Row aP 8 w E d en e.aN)(hE:∀P,E P->P<w.heap.size)(he:e.Ok):
  be 246 #[RK p,kU e d en ec] w (Ok λQ w'=>Q= .bool (eV most l e).1/\∃o q,iA w' p o q most (eV most l e).2/\aj M w w'/\(∀P,o P->M P\/w.heap.size<=P)/\∀P,q P->D P\/w.heap.size<=P):=by
 have b3:=f;obtain⟨B,a,n,c,L,f⟩:=f;have d8:L.length=l.length:=by rw[<-f.map,Q8]
 have hn:n=L.length:=f.nG.len dC;have d9:=f.dM p f.mp;have e0:=B.2.le;have j:(L.any λP=>bd P.x==bd e)=l.any (λi=>bd i==bd e):=by rw[<-f.map,List.any_map];rfl
 refine sJ (PA.mk λc6 b4 e1 b5=>λR c7=>⟨λ_=>False,?_⟩);have S:ai c6 R:=c7.keep;have m:ai w R:=b4.then S;have T:=m.get f.at' id;have no:(eV most l e)=(false,l)->∀U,ai w U->Ok (λQ w'=>Q= .bool (eV most l e).1/\∃o q,iA w' p o q most (eV most l e).2/\aj M w w'/\(∀P,o P->M P\/w.heap.size<=P)/\∀P,q P->D P\/w.heap.size<=P) (.returned (.bool false)) U:=λhq U k1=>
  Ok.mk ⟨by rw[hq],M,D,by rw[hq];exact b3.af k1,ai.keep k1,λP b=>.inl b,λP b=>.inl b⟩
 refine⟨p,0,rfl,_,_,_,ae T rfl,p,0,rfl,_,ae T rfl,al.dec (λe2=>no (by unfold eV;rw[Zx (.inl oM)]) R m) (λe3=>⟨p,0,rfl,id,_,_,_,ae T rfl,aj.refl _,PC.ok (KN (E:=λP=>aG a=some P) (((f.nG.af m).row (bytes:=96) dC ce)) (λP b=>by have:=(f.nG.aF P b);have:=m.size;omega) (S.get b5 id)) ?_⟩)⟩;rintro _ b6 ⟨rfl,C⟩;refine⟨_,rfl,C,al.mk (λr=>no (by unfold eV;rw[Zx (.inr (j▸r))]) b6 (m.then C)) (λr=>?_)⟩;have F:=m.then C;have b7:eV most l e=(true,dN e l):=by unfold eV;rw[Zq (by rw[<-j];rintro(g|g);omega;rw[r]at g;cases g)]
 have c8:∀i∈l,bd i≠bd e:=by
  rw[j]at r;simpa[List.any_eq_false]using r
 have V:=(S.then C).get b5 id;refine⟨_,_,_,ae V rfl,PC.ok (bS (O.af F) λP b=>by have:=hE P b;have:=F.size;omega) ?_⟩;rintro _ b8 ⟨H,I,J,G,rfl,W,X,Y⟩;have e4:=F.size;have e5:=X.size;refine⟨_,_,_,rfl,PS.mk (X.get V id) (by simp[aI]) λZ a9 e6 c9=>λK b9=>?_⟩;have s:ai Z K:=b9.keep;have e7:K.heap.size=Z.heap.size:=by rw[b9.heap]
 have a0:Z.heap[w.heap.size]? =some (.cells (aI e H I J).toArray 63 (0,0)):=c9;have a1:ai w K:=((F.then X).new a9 λP b=>.inr (by have b:P=w.heap.size:=b;omega)).then s;have b0:=f.keep a1 (λ_ _ f=>f) λ_ _ f=>f;have c1:VU (L.map (·.x)):=by rw[f.map];exact B.2.Q_
 refine⟨p,0,rfl,_,_,_,ae b0.at' rfl,ar (bh e H I J) (s.get a0 id) (PC.ok (Dq (b0.nG.row (bytes:=96) dC ce) c1) ?_)⟩;rintro _ e8 ⟨a4,rfl,d0⟩;refine⟨_,_,rfl,λd1 d2=>⟨λ_=>False,?_⟩⟩;have t:ai K d1:=d0.then d2.keep;have a2:=a1.then t;have c3:=b0.keep t (λ_ _ f=>f) λ_ _ f=>f;have h:=t.get (s.get a0 id) id;have d7:=AS (λP:Bx ah=>eU P.x e) L;refine⟨p,0,rfl,id,_,_,_,ae c3.at' rfl,_,_,_,_,_,_,_,_,_,_,_,_,ae h rfl,ae h rfl,ae h rfl,ae h rfl,ae h rfl,ae h rfl,ae h rfl,ae h rfl,ae h rfl,ae h rfl,PA.mk λd3 u e9 d4=>⟨u,?_⟩⟩;have c4:=c3.keep u (λ_ _ f=>f) λ_ _ f=>f;have f2:=a2.size;refine PC.ok (VV (x:=⟨e,H,I,J⟩) c4.nG oM d4 (λe=>by have:=f.nG.aF _ e;omega) oM) ?_;rintro _ f4 ⟨a',c',rfl,a3,v,x⟩;have b1:¬aG a=some p:=λe=>(f.ma p e).2 rfl;have f5:=v.size;refine⟨_,_,_,rfl,p,0,rfl,PS.mk (v.get c4.at' b1) sM λd5 N f6 d6=>?_⟩;have y:aj M w d5:=((ai.keep (a2.then u)).then (v.mono λP _ b=>(f.ma P b).1)).then (N.mono λP _ e=>by have e:P=p:=e;exact e▸f.mp);refine Ok.mk ⟨by rw[b7],λP=>M P\/aG a'=some P,λP=>D P\/G P,⟨⟨B.1,B.2.add he⟩,a',n+1,c',L.take (posOf (λP=>eU P.x e) L)++⟨e,H,I,J⟩::L.drop (posOf (λP=>eU P.x e) L),d6,?_,?_,?_,?_,.inl f.mp,?_,?_⟩,?_,?_,?_⟩
 ·refine a3.keep N λP b e=>?_
  have e:P=p:=e;rcases x P b with g|g
  ·exact b1 (e▸g)
  ·omega
 ·rw[b7]
  have c5:posOf (λi=>eU i e) l=posOf (λP:Bx ah=>eU P.x e) L:=by
   unfold posOf;rw[<-f.map,List.takeWhile_map,Q8];rfl
  show _=dN e l;rw[Ep c8,c5,Q3,QY,List.map_take,List.map_drop,f.map]
 ·have b2:∀P,G P->b6.heap.size<=P/\P<b8.heap.size:=λP b=>⟨Y P b,W.aF P b⟩
  intro i k;rcases Q6.1 k with k|k
  ·exact((f.Ot i (List.mem_of_mem_take k)).keep y λP b=>(f.dD P b).2).mono λP b=>.inl b
  rcases Q2.1 k with rfl|k
  ·refine⟨(((((W.keep a9 λP b e=>?_).af s).af (t.then u)).keep v λP b e=>?_).keep N λP b e=>?_).row (bytes:=8) dC (by rw[<-O.len];exact O.fh)|>.mono λP b=>.inr b,he⟩
   ·have e:P=w.heap.size:=e;have:=b2 P b;have:=aA V;omega
   ·have:=f.nG.aF P e;have:=b2 P b;omega
   ·have e:P=p:=e;have:=b2 P b;omega
  ·exact((f.Ot i (List.mem_of_mem_drop k)).keep y λP b=>(f.dD P b).2).mono λP b=>.inl b
 ·intro P b
  have hz:b8.heap.size<=d3.heap.size:=by have:=a9.size;have:=s.size;have:=t.size;have:=u.size;omega
  rcases b with b|b
  ·have g:=f.dD P b
   refine⟨by have:=y.size;omega,λz=>z.elim g.2 λe=>?_⟩;rcases x P e with A|A
   ·exact g.2 (f.ma P A).1
   ·omega
  ·have g:=W.aF P b;have h3:=Y P b
   have f8:=b4.size;refine⟨by have:=v.size;have:=N.size;omega,λz=>?_⟩;rcases z with z|e
   ·have:=f.dM P z;omega
   rcases x P e with A|A
   ·have:=f.nG.aF P A;omega
   ·omega
 ·intro P b
  refine⟨.inr b,λe=>?_⟩;rcases x P b with g|g
  ·exact b1 (e▸g)
  ·omega
 ·intro P b
  rcases b with b|b
  ·have:=f.dM P b;have:=y.size;omega
  ·have:=a3.aF P b;omega
 ·exact y
 ·intro P b
  rcases b with b|b
  ·exact .inl b
  rcases x P b with g|g
  ·exact .inl (f.ma P g).1
  ·exact .inr oM
 ·intro P b
  rcases b with b|b
  ·exact .inl b
  ·exact .inr (by have:=Y P b;omega)
end
end Go.Proofs.YtjgjkeponbeekaaGreatDoor
namespace Go.aw
open Go
variable{E a c i q:Nat}{f:UK}{d:bc}{h:Program}{j:Type}{g p:TypeId}{b:World}{y:ba}
def aU.TI{k:Nat}{n:j->List Value}{m:j->Prop}{hl h1}{P:List j}{x:j}(e:aU (flat k n m hl h1) p f b d a c P)(z:E<P.length)(A:0<k)(B:m x)(C:d=some ⟨i,q,none⟩)(F:iQ h g (n x)=true)(o:∀l,aU (flat k n m hl h1) p f l d a c (P.set E x)->aj (λi=>aG d=some i) b l->l.heap.size=b.heap.size->y l):oJ h g (.pointer (some ⟨i,q+E*k,none⟩)) (.agg (n x).toArray) b y:=by
 have L:=e.len A;obtain⟨cs,D,s,H,t⟩:=e.body;have M:cs.length=a*k:=s.length;have N:(E+1)*k<=a*k:=Q0 _ oM;have I:(E+1)*k=E*k+k:=by rw[X7,Nat.one_mul]
 refine s.store (m:=E*k) C F (by rw[hl];omega) λJ K u v=>o J ⟨⟨_,D,K,?_,t⟩,e.self,λi r=>by rw[v];exact e.aF i r⟩ u v;have w:=H.keep u λi r=>(t i r).2;rw[hl,<-I,show P.set E x=P.take E++[x]++P.drop (E+1) by rw[XQ,List.singleton_append];exact List.set_eq_take_append_cons_drop .. |>.trans (Zx z)];exact bY.append (bY.append (w.take E) (bY.one ⟨rfl,B⟩)) (w.drop (E+1))
end Go.aw
namespace Go.Proofs.YtjgjkeponbeekaaGreatDoor
section
open Go.aw
variable{Y m:Array Value}{z:FuncId}{Z f:UK}{d:bc}{H:au}
section
variable {w w':World} {p:Nat} {M D T E:UK} {most:Nat} {l:List ah} {a:bc} {n c:Nat} {L:List (Bx ah)}
def Ou{pr:ah->Bool}(H:enters LL z=true)(o:aU nK.kv 63 (λP=>aG a=some P) w a n c L)(hl:L.length<=20000000)(I:∀(P:Bx ah) e,aj (λP=>aG a=some P) w e->be z (m++ #[kU P.x P.a P.n P.c]++Y) e (Ok λs w'=>s= .bool (pr P.x)/\ai e w')):
  be 302 #[.slice a n c,.func (.func z) m Y] w (Ok λs w'=>∃p,s= .slice a p c/\aU nK.kv 63 (λP=>aG a=some P) w' a p c (L.filter λP=>!pr P.x)/\aj (λP=>aG a=some P) w w'):=by
 have hn:=o.len dC;have b6:=o.lE;have q:∀{e:World} {f:List (Bx ah)},aU nK.kv 63 (λP=>aG a=some P) e a n c f->f.length=L.length->Row nK.kv 96 e (λP=>aG a=some P) a n f:=λ{e f} Z b7=>Z.row dC ce;refine fS (PC.ok (AV (E:=λP=>aG a=some P) (L:=L) H (λd e=>(∀P∈L.take d,pr P.x=false)/\ai w e) (λd e=>(∀P∈L.take d,pr P.x=false)/\(∀P,L[d]? =some P->pr P.x=true)/\ai w e) ⟨sM,aj.refl _⟩ (λd e h1=>(q o rfl).af h1.2) ?_) ?_)
 ·rintro d P e h ⟨i,A⟩
  refine(I P e (ai.keep A)).mono ?_;rintro _ w2 ⟨s,rfl,rfl,J⟩;refine Ok.mk ?_
  cases K:pr P.x
  ·refine .inr ⟨rfl,λM g=>?_,A.then J⟩
   rw[Qw,h]at g;rcases Q6.1 g with g|g
   ·exact i M g
   ·simp at g;subst g;exact K
  ·exact .inl ⟨rfl,i,λM g=>by rw[h]at g;cases g;exact K,A.then J⟩
 rintro _ w4 (⟨k,b8,rfl,i,a0,r⟩|⟨rfl,i,r⟩)
 rotate_left
 ·refine⟨_,rfl,al.tt sM (Ok.mk ⟨n,rfl,?_,ai.keep r⟩)⟩
  rw[Qz oM]at i;rw[List.filter_eq_self.2 λP h=>by rw[i P h];rfl];exact o.af r
 have N:L[k]? =some L[k]:=Qq oM;have a8:(L.take (k+1)).filter (λP=>!pr P.x)=L.take k:=by
  rw[Qw,N,List.filter_append,List.filter_eq_self.2 λP h=>by rw[i P h];rfl];simp[a0 _ N]
 refine⟨_,rfl,al.ff sM ⟨λp l d w'=>∃(B j:Nat) (f:List (Bx ah)),l=B/\d=j/\B<j/\j<=n/\p=n-j/\aU nK.kv 63 (λP=>aG a=some P) w' a n c f/\f.length=L.length/\f.take B=(L.take j).filter (λP=>!pr P.x)/\f.drop j=L.drop j/\aj (λP=>aG a=some P) w w',
  ⟨_,k,k+1,L,rfl,aq oM,oM,oM,rfl,o.af r,rfl,a8.symm,rfl,ai.keep r⟩,?_⟩⟩
 rintro p _ _ _ O ⟨l,d,f,rfl,rfl,b9,c1,rfl,t,C,u,Q,v⟩;refine al.dec (λc2=>?_) (λc3=>?_)
 ·have x:L[d]? =some L[d]:=Qq oM
  have R:f[d]? =some L[d]:=by
   have:=Zj (·[0]?) Q;simp only[List.getElem?_drop,Nat.add_zero]at this;rw[this,x]
  have S:f.drop (d+1)=L.drop (d+1):=by
   have:=Zj (List.drop 1) Q
   rwa [List.drop_drop,List.drop_drop]at this
  generalize L[d]=b at x R;obtain⟨P,T,es,E,c4,c5,a9,rfl,-⟩:=(q t C).el d b R;refine⟨P,T,E,oM,oM,cx (es:=aI b.x b.a b.n b.c) (k:=10) (bh _ _ _ _) rfl (λa1 ht=>by rw[Qx];exact a9 a1 ht) (PA.mk λc6 b0 c7 b1=>aD (bh b.x b.a b.n b.c) b1 rfl λU b2 c8 V=>ar (bh b.x b.a b.n b.c) V ⟨_,_,_,rfl,H,?_⟩)⟩;have W:ai O U:=b0.new b2 λP h=>.inr (by have h:P=O.heap.size:=h;omega);refine PC.ok (I b U (v.af W)) ?_;rintro _ c9 ⟨rfl,X⟩;have y:=W.then X;refine⟨_,rfl,al.not (al.mk (λF=>⟨_,?_,l,d+1,f,rfl,aq oM,oM,oM,rfl,t.af y,C,?_,S,v.af y⟩) (λF=>?_))⟩
  ·omega
  ·rw[u,Qw,x,List.filter_append]
   simp[F]
  ·refine ar (bh b.x b.a b.n b.c) (X.get V id) ⟨P,T,E,oM,oM,?_⟩
   rw[Qx];refine aU.TI (x:=b) (k:=10) (t.af y) oM dC trivial E (bh b.x b.a b.n b.c) λd0 a7 b3 d1=>⟨_,?_,l+1,d+1,f.set l b,aq oM,aq oM,oM,oM,rfl,a7,by simpa using C,?_,?_,(v.af y).then b3⟩
   ·omega
   ·rw[Qw (l:=L),x,List.filter_append,<-u,Qw,List.getElem?_set_self oM,List.take_set_of_le (Q4 _)]
    simp[F]
   ·rw[List.drop_set_of_lt oM,S]
 ·obtain rfl:d=n:=oM
  rw[Qz (l:=L) oM]at u;refine⟨oM,oM,?_⟩;rw[Qx];refine AN tW kR t oM λwZ b4 b5 d2=>⟨oM,oM,Ok.mk ⟨l,rfl,?_,v.then b5⟩⟩
  rw[<-u];exact b4
def Ov{a b:Nat}(k:cM w a f H)(l:w.heap[b]? =some (.cells #[RK a] 102 (0,0))){P:ah}{m o:Nat}:
  be 300 #[kU P d m o,RK b] w (Ok λp w'=>p= .bool (H.get (bd P)).isSome/\ai w w'):=by
 refine nN (PA.mk λv n x c=>⟨_,ae (n.get l id) rfl,_,_,ae c rfl,ae c rfl,PC.ok (TJ (k.af n) (bd P)) ?_⟩);rintro _ q ⟨e,g,h,G,rfl,y,z,i⟩;exact cA (sK _ e g h) ⟨_,rfl,PA.mk λA r B s=>aD (bh _ e g h) s rfl λC t E F=>Ok.mk ⟨rfl,((n.then i).then r).new t λu j=>.inr (by have j:u=q.heap.size:=j;have:=n.size;have:=i.size;omega)⟩⟩
def Ow{e h:Nat}(l:cM w e f H)(m:w.heap[h]? =some (.cells #[RK e] 102 (0,0))){P:ah}{g i:Nat}(o:Row aP 8 w Z d g P.aN)(j:∀n,Z n->n<w.heap.size/\¬f n)(p:P.Ok)(t:H.l.length<=20000000):
  be 303 #[kU P d g i,RK h] w (Ok λq w'=>q= .bool (decide ((H.add P).1=0))/\∃b,cM w' e b (H.add P).2/\cz f w b w'):=by
 refine nP (PA.mk λu a v r=>⟨_,ae (a.get m id) rfl,ar (bh P d g i) r (PC.ok (vj (l.af a) (o.af a) (λn c=>⟨by have:=(j n c).1;omega,(j n c).2⟩) p oM) ?_)⟩);rintro _ x ⟨rfl,b,s,k⟩;have:=a.size;exact⟨_,rfl,Ok.mk ⟨by congr 1,b,s,(ai.keep a).then k.keep,λn c=>(k.new n c).imp id oM⟩⟩
end
end
section
open Go.aw
variable{g3:List (Bx ah)}{f:UK}{d:bc}{b:World}{H:au}
section
variable {w w':World} {p:Nat} {M D E:UK} {most:Nat} {l:List ah} {a:bc} {n c:Nat} {L:List (Bx ah)}
structure TC (w:World) (p:Nat) (M:UK) (most:Nat) (a:bc) (c s tb:Nat) (T:au) (nc:Nat) (Lc:List (Bx ah)) (oa:bc) (on oc:Nat) (Lo:List (Bx ah)) (w1:World):Prop where
 set:∃F1,cM w1 s F1 T/\(∀b,F1 b->w.heap.size<=b/\b≠tb)/\∀b,aG oa=some b->w.heap.size<=b/\¬F1 b/\b≠tb
 ptr:w1.heap[tb]? =some (.cells #[RK s] 102 (0,0))
 buf:w1.heap[p]? =some (.cells #[WP (most:Int),.slice a nc c] 147 (0,0))
 nG:aU nK.kv 63 (λb=>aG a=some b) w1 a nc c Lc
 out:aU nK.kv 63 (λb=>aG oa=some b) w1 oa on oc Lo
 keep:aj M w w1
def yt(h:QT w p M D most l a n c L){q j:Nat}{i:Nat}{r s:Nat}{t:List (Bx ah)}(F:TC w p M most a c q j H i g3 d r s t b)(N:∀P∈g3,P∈L)(O:H.l.length<=20000000)(a6:g3.length<=20000000):
  be 304 #[.slice a i c,.func (.func 303) #[] #[RK j]] b (Ok λz w'=>
   (z= WP (-1)/\(∀P∈g3,(H.add P.x).1≠0)/\TC w p M most a c q j H i g3 d r s t w')\/
   (∃g P,g<i/\z= WP (g:Int)/\g3[g]? =some P/\(∀v∈g3.take g,(H.add v.x).1≠0)/\(H.add P.x).1=0/\TC w p M most a c q j (H.add P.x).2 i g3 d r s t w')):=by
 have R:=h.dM p h.mp;have a7:=F.nG.len dC;have S:∀P,aG a=some P->P<w.heap.size:=λP e=>h.dM P (h.ma P e).1;refine(AV (E:=λP=>aG a=some P) (L:=g3) kR (λg k=>(∀P∈g3.take g,(H.add P.x).1≠0)/\TC w p M most a c q j H i g3 d r s t k) (λg k=>∃P,g3[g]? =some P/\(∀v∈g3.take g,(H.add v.x).1≠0)/\(H.add P.x).1=0/\TC w p M most a c q j (H.add P.x).2 i g3 d r s t k) ⟨sM,F⟩
  (λg k f=>f.2.nG.row dC ce) ?_).mono ?_
 ·rintro g P k e ⟨I,f⟩
  obtain⟨T,U,x,A⟩:=f.set;have J:=(h.Ot P (N P (QZ e))).keep f.keep λP e=>(h.dD P e).2;have z2:=f.keep.size;refine(Ow U f.ptr J.1 (λP e=>⟨by have:=(h.dD P e).1;omega,λm=>by have:=(h.dD P e).1;have:=(x P m).1;omega⟩) J.2 O).mono ?_;rintro _ V ⟨z,rfl,rfl,W,X,o⟩;have K:∀P,P<w.heap.size->¬T P:=λP e m=>by have:=(x P m).1;omega
  have Y:=aA f.ptr;have C:∀P,aG d=some P->P<k.heap.size:=λP e=>f.out.aF P e;have E:TC w p M most a c q j (H.add P.x).2 i g3 d r s t V:=⟨⟨W,X,λP e=>(o.new P e).elim (x P) λy=>⟨oM,oM⟩,λP e=>⟨(A P e).1,λm=>(o.new P m).elim (A P e).2.1 λy=>by have:=C P e;omega,(A P e).2.2⟩⟩,
   o.keep.get f.ptr λm=>(x _ m).2 rfl,o.keep.get f.buf (K p R),f.nG.keep o.keep λP e=>K P (S P e),f.out.keep o.keep λP e=>(A P e).2.1,f.keep.new o.keep λP e=>.inr (x P e).1⟩
  refine Ok.mk ?_
  by_cases u:(H.add P.x).1=0
  ·exact .inl ⟨by rw[Zy u],P,e,I,u,E⟩
  ·refine .inr ⟨by rw[Xv u],λv Q=>?_,?_⟩
   ·rw[Qw,e]at Q
    rcases Q6.1 Q with Q|Q
    ·exact I v Q
    ·simp at Q;subst Q;exact u
   ·rcases H.gq P.x with⟨-,y⟩|⟨y,-⟩
    ·rw[y]at E;exact E
    ·rw[y]at u;exact Zz rfl u
 ·rintro _ k ⟨z,rfl,Z⟩
  rcases Z with⟨g,hj,rfl,P,B,f,h3,h4⟩|⟨rfl,B,f⟩
  ·exact Ok.mk (.inr ⟨g,P,hj,rfl,B,f,h3,h4⟩)
  ·rw[Qz oM]at B
   exact Ok.mk (.inl ⟨rfl,B,f⟩)
def Gk(d7:iA w p M D most l){b3:Nat}(hs:cM w b3 f H)(g3:H.Cl)(k2:H.l.length<=19000000):
  be 247 #[RK p,RK b3] w (Ok λd8 w'=>∃q z C k,d8= .slice q z C/\aU nK.kv 63 (λP=>aG q=some P) w' q z C k/\k.map (·.x)=(bF H l).1/\(∀P∈k,nK.In w' D P)/\(∀P,aG q=some P->w.heap.size<=P)/\
   iA w' p M D most (bF H l).2/\aj M w w'):=by
 obtain⟨W,a,n,c,L,g⟩:=d7;have g4:=g.dM p g.mp;have X:∀P,aG a=some P->P<w.heap.size:=λP b=>g.dM P (g.ma P b).1;have k3:L.length=l.length:=by rw[<-g.map,Q8]
 have h1:l.length<=256:=Xx W.2.le W.1;have hN:=hs.1.n;refine qe (PC.ok (mK hs) ?_);rintro _ w4 ⟨va,vn,vc,Fv,rfl,g6,k4,k5⟩;have d2:=g6.len dC;rw[H.bT]at d2;subst d2;refine⟨_,_,_,rfl,PC.ok (Gm hN) ?_⟩;rintro _ A ⟨E,F2,rfl,d3,d4,k7⟩;have z4:=k4.size;have z7:=k7.size;refine⟨_,rfl,PA.mk λw9 k9 s9 g9=>PS.mk g9 sM λg7 g8 k6 h4=>?_⟩;have a1:ai A g7:=k9.new g8 λP b=>.inr (by have b:P=A.heap.size:=b;omega);have b4:=(k4.then k7).then a1;have Y:=d3.aF;refine PC.ok (vk (hs.af b4) oM) ?_;rintro _ Z ⟨ea,en,ec,G,rfl,b9,a6,hG⟩;have k8:=b9.len dC;have l0:=a1.size;have l3:=a6.size;have e0:Row lb 96 Z G ea en H.l:=b9.row dC ce;have h6:Z.heap[A.heap.size]? =some (.cells #[RK E] 102 (0,0)):=a6.get h4 id;have d6:=b9.aF;refine⟨_,_,_,rfl,λR a2 w'=>∃(e:Nat) (S:UK),a2=e/\e<=en/\R=en-e/\cM w' E S ((⟨H.n,[]⟩:au).eD (H.l.take e))/\(∀P,S P->F2 P\/Z.heap.size<=P)/\aj F2 Z w',⟨_,0,F2,rfl,Qj _,rfl,d3.af (a1.then a6),λP b=>.inl b,aj.refl _⟩,?_⟩;rintro R _ _ a7 ⟨e,S,rfl,hj,rfl,a8,a9,T⟩;have l4:=T.size;have c1:=T.get h6 λF=>by have:=Y _ F;omega
 refine al.dec (λl5=>?_) (λl6=>?_)
 ·have K:H.l[e]? =some H.l[e]:=Qq oM
  generalize H.l[e]=N at K;have e7:=e0.keep T λP b F=>by have:=Y _ F;have:=hG P b;omega
  obtain⟨P,e8,es,ha,l7,l8,c2,xa,xn,xc,rfl,h7,f0⟩:=e7.el e N K;refine⟨P,e8,ha,oM,oM,cx (es:=aI N xa xn xc) (k:=10) (bh _ _ _ _) rfl (λa2 ht=>by rw[Qx];exact c2 a2 ht) (PA.mk λl9 h8 m1 h9=>aD (bh N xa xn xc) h9 rfl λi1 i3 m2 i4=>?_)⟩;have O:ai a7 i1:=h8.new i3 λP b=>.inr (by have b:P=a7.heap.size:=b;omega);have c3:=au.nQ (H.l.take e) ⟨H.n,[]⟩;rw[Qy]at c3;simp only[ZQ]at c3;refine⟨_,ae (O.get c1 id) rfl,ar (bh N xa xn xc) i4 (PC.ok (vj (a8.af O) (h7.af O) (λP b=>⟨by have:=d6 P b;have:=O.size;omega,λF=>?_⟩) f0 oM) ?_)⟩
  ·rcases a9 P F with j|j
   ·have:=Y _ j;have:=hG P b;omega
   ·have:=d6 P b;omega
  rintro _ i5 ⟨rfl,F3,i6,d9⟩;refine⟨_,rfl,_,oM,e+1,F3,aq oM,oM,rfl,?_,λP b=>?_,?_⟩
  ·rw[Qw,K]
   show cM i5 E F3 (au.eD _ (H.l.take e++[N]));rw[au.sr];exact i6
  ·rcases d9.new P b with j|j
   ·exact a9 P j
   ·have:=O.size;exact .inr oM
  ·exact(T.af O).new d9.keep λP b=>a9 P b
 rw[Qz oM,g3.VX]at a8;have b5:ai w a7:=(b4.then a6).new T λP b=>.inr (by have:=d4 P b;omega);have c4:=g.keep b5 (λ_ _ g=>g) λ_ _ g=>g;have s:∀P,S P->w.heap.size<=P/\P≠A.heap.size:=λP b=>by
  rcases a9 P b with j|j
  ·have:=d4 P j;have:=Y P j;omega
  ·omega
 refine⟨p,0,rfl,_,_,_,ae c4.at' rfl,PC.ok (Ou (pr:=λd=>(H.get (bd d)).isSome) kR c4.nG oM λP w1 hk=>?_) ?_⟩
 ·refine Ov (a8.keep hk λP b d=>?_) (hk.get c1 λd=>?_)
  ·have:=X P d;have:=(s P b).1;omega
  ·have:=X _ d;omega
 rintro _ m3 ⟨m0,rfl,f1,e1⟩;have b0:¬aG a=some p:=λd=>(g.ma p d).2 rfl;refine⟨_,_,_,rfl,p,0,rfl,PS.mk (e1.get c4.at' b0) sM λe2 e3 m4 e4=>⟨p,0,rfl,_,_,_,ae e4 rfl,?_⟩⟩;obtain⟨t,y⟩:∃t,t=L.filter λP=>!(H.get (bd P.x)).isSome:=⟨_,rfl⟩
 have a3:aj (λP=>aG a=some P\/P=p) a7 e2:=(e1.mono λP _ b=>.inl b).then (e3.mono λP _ b=>.inr b);have Yu:∀P,aG a=some P\/P=p->P<w.heap.size:=λP b=>b.elim (X P) λd=>d▸g4;have e5:TC w p M most a c E A.heap.size H m0 t none 0 0 [] e2:=by
  refine⟨⟨S,a8.keep a3 λP b d=>by have:=Yu P d;have:=(s P b).1;omega,s,λP b=>by cases b⟩,a3.get c1 λd=>by have:=Yu _ d;omega,e4,?_,(aU.nil _).mono (λP b=>b.elim) λP b=>(by cases b),?_⟩
  ·rw[y];exact f1.keep e3 λP b d=>b0 (by have d:P=p:=d;rw[<-d];exact b)
  ·exact(ai.keep b5).then (a3.mono λP _ b=>b.elim (λd=>(g.ma P d).1) λd=>d▸g.mp)
 have b6:∀P∈t,P∈L:=λP b=>by rw[y]at b;exact(List.mem_filter.1 b).1
 have a4:t.map (·.x)=l.filter λd=>(H.get (bd d)).isNone:=by
  rw[y,<-g.map,List.filter_map]
  congr 1
  refine List.filter_congr λP b=>?_;show(!(H.get (bd P.x)).isSome)=(H.get (bd P.x)).isNone
  cases H.get (bd P.x)<;>rfl
 have b7:t.length<=L.length:=by rw[y];exact List.length_filter_le ..
 refine PC.ok (yt g e5 b6 oM oM) ?_;rintro i7 m5 b8;obtain⟨i0,i8⟩:∃u:Int,i7= WP u:=by
  rcases b8 with⟨m,-⟩|⟨e,P,-,m,-⟩
  ·exact⟨_,m⟩
  ·exact⟨_,m⟩
 subst i8;refine⟨_,rfl,λR q z C u w'=>∃(r:au) (h k:List (Bx ah)) (B U:Nat),R=h.length/\(∀P∈h,P∈L)/\(∀P∈k,P∈L)/\(h.map (·.x)).Sublist l/\h.length<=U/\r.l.length+h.length<=H.l.length+L.length/\h.length<=L.length/\k.length+h.length<=L.length/\B=h.length/\
   du (U+1) r (h.map (·.x)) (k.map (·.x))=bF H l/\
   ((u= -1/\(∀P∈h,(r.add P.x).1≠0)/\TC w p M most a c E A.heap.size r B h q z C k w')\/
    (∃e P,e<B/\u=(e:Int)/\h[e]? =some P/\(∀v∈h.take e,(r.add v.x).1≠0)/\(r.add P.x).1=0/\TC w p M most a c E A.heap.size (r.add P.x).2 B h q z C k w')),?_,?_⟩
 ·have i9:=e5.nG.len dC
  refine⟨_,H,t,[],m0,t.length,rfl,b6,sM,by rw[a4];exact List.filter_sublist,Q4 _,oM,b7,by simpa using b7,i9,?_,?_⟩
  ·rw[a4]
   show du (t.length+1) H _ []=_;unfold bF;rw[<-a4];show _=du ((t.map (·.x)).length+1) H _ [];rw[Q8]
  ·rcases b8 with⟨m,I,J⟩|⟨e,P,m,I,J⟩
   ·exact .inl ⟨by simpa using m,I,J⟩
   ·exact .inr ⟨e,P,m,by simpa using I,J⟩
 rintro R q z C u _ j0 ⟨r,h,k,B,U,rfl,a5,c0,e6,hk,m6,k0,k1,m7,c6,j1⟩;rcases j1 with⟨rfl,c5,i⟩|⟨e,P,hj,rfl,b,c5,f3,i⟩
 ·refine al.ff sM (Ok.mk ⟨q,z,C,k,rfl,i.out,?_,λP b=>(g.Ot P (c0 P b)).keep i.keep λP b=>(g.dD P b).2,λP b=>by obtain⟨F1,-,-,j⟩:=i.set;exact(j P b).1,⟨⟨W.1,?_⟩,a,B,c,h,i.buf,i.nG,?_,λP b=>(g.Ot P (a5 P b)).keep i.keep λP b=>(g.dD P b).2,λP b=>⟨by have:=(g.dD P b).1;have:=i.keep.size;omega,(g.dD P b).2⟩,g.mp,g.ma,λP b=>by have:=g.dM P b;have:=i.keep.size;omega⟩,i.keep⟩)
  all_goals
   have f7:bF H l=(k.map (·.x),h.map (·.x)):=by
    rw[<-c6];unfold du;rw[tr λd he=>by obtain⟨P,b,rfl⟩:=Xk.1 he;exact c5 P b]
   rw[f7]
  exact W.2.sub e6
 ·have j2:e<h.length:=oM
  have m8:=i;obtain⟨F1,e9,f2,b1⟩:=i.set;have m9:=i.keep.size;have c3:=r.Au P.x;obtain⟨gb,go,es,ha,n0,n1,c2,rfl,-⟩:=(i.nG.row (bytes:=96) dC ce).el e P b;have d:=λu (hi:u<10)=>c2 u hi;refine al.dec (λ_=>⟨p,0,rfl,_,_,_,ae i.buf rfl,gb,go,ha,oM,oM,_,_,_,_,_,_,_,_,_,_,_,_,d 0 dC,d 1 dC,d 2 dC,d 3 dC,d 4 dC,d 5 dC,d 6 dC,d 7 dC,d 8 dC,d 9 dC,PA.mk λj3 f4 n2 j4=>?_⟩) (λhn=>oM);have n3:=i.out.len dC;refine fM (c:=nK.kv) (x:=P) (D:=λ_=>False) (i.out.af f4) tW j4 ⟨rfl,trivial⟩ (λP b=>b.elim) ce (by unfold maxLen;omega) λV b2 f5 Fo c7 j5 j6=>⟨_,_,_,rfl,p,0,rfl,?_⟩
  have f8:=c7.alone;have d0:∀P,aG V=some P->aG q=some P\/j3.heap.size<=P:=λP b=>(j6 P (c7.self P b)).imp id λg=>g.resolve_left id;have o:∀P,aG q=some P->w.heap.size<=P:=λP b=>(b1 P b).1;have Q:aj (λP=>aG q=some P) j0 f5:=(ai.keep f4).then j5;have f6:=Q.get i.buf λd=>by have:=o _ d;omega
  have f9:=i.nG.keep Q λP b d=>by have:=o _ d;have:=X P b;omega
  have n4:=Q.size;refine⟨_,_,_,ae f6 rfl,PC.ok (VW f9 hj oM) ?_⟩;rintro _ n8 ⟨rfl,g5,c8⟩;have n9:=c8.size;refine⟨_,_,_,rfl,p,0,rfl,PS.mk (c8.get f6 b0) sM λg0 g1 o0 g2=>⟨p,0,rfl,_,_,_,ae g2 rfl,?_⟩⟩;have o1:(h.eraseIdx e).length=h.length-1:=List.length_eraseIdx_of_lt j2;have a0:aj (λP=>aG a=some P\/P=p) f5 g0:=(c8.mono λP _ b=>.inl b).then (g1.mono λP _ b=>.inr b);have c9:∀P,w.heap.size<=P->¬(aG a=some P\/P=p):=λP b d=>by have:=Yu P d;omega
  have j7:TC w p M most a c E A.heap.size (r.add P.x).2 (B-1) (h.eraseIdx e) V (z+1) b2 (k++[P]) g0:=by
   refine⟨⟨F1,(e9.keep Q λP b d=>(b1 P d).2.1 b).keep a0 λP b=>c9 P (f2 P b).1,f2,λP b=>?_⟩,a0.get (Q.get i.ptr λd=>(b1 _ d).2.2 rfl) (c9 _ oM),g2,g5.keep g1 λP b d=>b0 (by have d:P=p:=d;rw[<-d];exact b),f8.keep a0 λP b=>c9 P ?_,?_⟩
   ·rcases d0 P b with j|j
    ·exact b1 P j
    ·have hd:=e9.aF
     have o2:=aA i.ptr;exact⟨oM,λF=>by have:=hd P F;omega,oM⟩
   ·rcases d0 P b with j|j
    ·exact o P j
    ·omega
   ·exact(i.keep.new Q λP b=>.inr (o P b)).then (a0.mono λP _ b=>b.elim (λd=>(g.ma P d).1) λd=>d▸g.mp)
  have d1:∀v∈h.eraseIdx e,v∈L:=λv x=>a5 v ((List.eraseIdx_sublist ..).subset x);refine PC.ok (yt g j7 d1 oM oM) ?_;rintro j8 o3 d5;obtain⟨i2,j9⟩:∃u:Int,j8= WP u:=by
   rcases d5 with⟨m,-⟩|⟨e,P,-,m,-⟩
   ·exact⟨_,m⟩
   ·exact⟨_,m⟩
  subst j9;have h0:∃k',U=k'+1:=⟨U-1,oM⟩
  obtain⟨k',rfl⟩:=h0;refine⟨_,rfl,(h.eraseIdx e).length,oM,(r.add P.x).2,h.eraseIdx e,k++[P],B-1,k',rfl,d1,?_,?_,oM,oM,oM,by simp;omega,oM,?_,?_⟩
  ·intro v x
   rcases Q6.1 x with x|x
   ·exact c0 v x
   ·simp at x;subst x;exact a5 v (QZ b)
  ·exact((List.eraseIdx_sublist ..).map _).trans e6
  ·rw[<-c6]
   conv=>rhs;unfold du
   rw[tv (i:=e) (e:=P.x) (λN K=>by rw[<-List.map_take]at K;obtain⟨v,x,rfl⟩:=Xk.1 K;exact c5 v x) (by rw[Q9,b];rfl) f3];show _=du (k'+1) (r.add P.x).2 ((h.map (·.x)).eraseIdx e) (k.map (·.x)++[P.x]);rw[map_eraseIdx,Q3];rfl
  ·rcases d5 with⟨m,I,J⟩|⟨e,P,m,I,J⟩
   ·exact .inl ⟨by simpa using m,I,J⟩
   ·exact .inr ⟨e,P,m,by simpa using I,J⟩
end
def uJ:lA:=⟨[(3,[(6,.slice none 0 0),(16,WP 0)])],[],[5,12],[],[(5,⟨[0,1,2,4,0,16,40,64,128,128,511,2047],[4095,4094,4093,4091,4095,4079,4055,4031,3967,3967,3839,3583],[0,0,0,1,0,2,2,0,0,0,0,0]⟩),(12,⟨[0,0,2,4,8,0,32,0,208,257,1023],[2047,2047,2045,2043,2039,2047,2015,2047,1839,2046,1791],[0,0,0,0,1,0,2,0,2,0,0]⟩)]⟩
variable{A:am}{e:Int}{s:List Int}{u:List UInt8}{F:List ah}{a c i q:Nat}{Z:UK}{x:bc}{o:ac}{k:World}{y:ba}{l:ah}{g4:ak->bO->Int×ak}{W:bO}{b3:dw}
def uK(N:PA b (.cells #[.slice x a c] 211) λu=>(rS u (ab_ b 0) λO v c3=>(∃o:Nat->bc->Nat->Nat->Int->ba,(∃P,o P none 0 0 0 u)/\∀(P:Nat) (e:bc) (f:Nat) (g:Nat) (n:Int) (c4:Nat->Value) (h:World),o P e f g n h->al (decide (n<(v:Int))) ((ix_ O n v λQ R=>(rI h (ad Q (R+Int.toNat n)) λi=>(∀j,cf h j->∃p:UK,(dr d λw S=>(¬p w/\(rP j (ad w S) λT=>PC_ 146 #[.ii i] j (λU q=>∃y,U= .string y/\(aj p j q/\PC_ 162 #[.pointer T,.string y] q (λV k=>∃W z X B,V= .tuple #[.slice W z X,.ii B]/\(aj p q k/\al (B !=0) (rt A ((.tuple #[.slice e f g,.ii 0])) k) ((dr d λY Z=>(rP k (ad Y Z) λa1=>PC_ 168 #[.pointer a1,.ii i] k (λa2 a3=>∃D C E l,a2= .tuple #[.slice D C E,.ii l]/\PR_ (ap_ 59 (.slice e f g) (.slice D C E)) a3 (kS_ λG F H r=>(dr d λa4 a5=>(rS r (ad a4 (a5+2)) λa6 a7 a8=>PA r (.cells #[.ii i] 3) λa9=>PR_ (ap_ 42 (.slice a6 a7 a8) (.slice (some (ab_ r 0)) 1 1)) a9 (kS_ λb0 b1 b2 b3=>(dr d λb4 b5=>PS b3 (ad b4 (b5+2)) (.slice b0 b1 b2) λb6=>(dr d λb7 b8=>PS b6 (ad b7 (b8+3)) (.ii l) λI=>al (decide (l<(z:Int))) ((∀m,cf I m->∃s:UK,(dr d λJ b9=>(¬s J/\(rP m (ad J b9) λc0=>PC_ 146 #[.ii i] m (λc1 t=>∃K,c1= .string K/\(aj s m t/\PC_ 169 #[.pointer c0,.string K,.ii l] t (kI_ λc2 L=>(aj s t L/\rt A ((.tuple #[.slice G F H,.ii c2])) L)) (pZ A))) (pZ A)))))) ((∃M,M<P/\o M G F H (PP .i64 (n+1)) I))))) (pV A)))) (pV A)) (pE A)))))) (pZ A))) (pZ A)))))))) (rt A ((.tuple #[.slice e f g,.ii 0])) h)))):be 110 #[.pointer d,.agg #[.slice x a c]] b A:=DC uJ Tryz.func110 rfl N
def lZ(n:dw)(D:ak):Int×dw×ak:=
 let b:=cH (ax n.next)
 let P:=D.sync b
 if P.1≠0 then(P.1,n,(P.2.delete b).2)else
 let a:=bw P.2 (n.a_++[n.next])
 if a.1≠0 then(a.1,n,(a.2.delete b).2)else
 (0,⟨n.size,n.a_++[n.next],0,PP .i64 (n.next+1)⟩,a.2)
def bz(P:dw)(D:ak):Int×dw×ak:=
 let n:=D.create (cH (ax P.next))
 if n.1≠0 then(n.1,P,n.2)else lZ P n.2
def aH(n:dw)(D:ak):Int×dw×ak:=
 if n.a_=[]then bz n D else
 let P:=D.sync n.last
 if P.1≠0 then(P.1,n,P.2)else bz n P.2
def Fk(b c:World)(d e:Nat)(P:UK)(n:Int×dw×ak)(f:Value)(a:World):Prop:=f= WP n.1/\cI b a d e n.2.1 n.2.2 P/\aj (dW P) c a
def SC(n:Int):aM (PP .i64 n):=by
 unfold aM PP;simp[IntKind.signed,IntKind.bits];omega
def Hq{D:ak}{P:List Int}(n:(bw D P).1=0):P.length<=64:=by
 unfold bw at n;split at n
 ·cases n
 ·omega
def Fu{D:ak}(hL:Laid b)(h:cI b k a c b3 D f):
  be 111 #[RK c] k (Ok (Fk b k a c f (aH b3 D))):=by
 have b2:=h.aF;obtain⟨p3,j4,e7⟩:=h.ZI;have p4:=h.gr.size;have e9:=h.BL;have j5:=h.many;refine uk (PA.mk λB k1 s1 g1=>PA.mk λw2 k2 s2 g2=>?_);have d8:ai k w2:=k1.then k2
 let b6:UK:=λn=>f n\/(n=k.heap.size\/n=B.heap.size)
 have hY:cI b w2 a c b3 D b6:=h.add d8 λn P=>by omega
 have b7:=k2.get g1 id;refine⟨λd=>∃C,cI b d a c b3 C b6/\aj (dW f) k d/\w2.heap.size<=d.heap.size/\d.heap[k.heap.size]? =some (.cells #[RK c] 101 (0,0))/\d.heap[B.heap.size]? =some (.cells #[WP 0] 34 (0,0))/\aH b3 D=bz b3 C,?_,?_⟩
 ·obtain⟨G,hD,hl,hG⟩:=id hY
  obtain⟨t,E,I,l,S,hr,hE,u⟩:=hl.row;refine⟨_,ae b7 rfl,c,0,rfl,_,_,_,ae S rfl,al.dec (λo6=>?_) (λy=>?_)⟩
  ·have v:b3.a_≠[]:=λg=>by rw[g]at u;simp at u;omega
   refine⟨_,ae b7 rfl,PC.ok (JE hL hY v) ?_⟩;rintro _ w3 ⟨rfl,Y,k3⟩;have kX:aj (dW f) k w3:=(ai.keep d8).then (k3.mono λn _ P i=>P (.inl i));have b8:=k3.get b7 λu=>u (.inr (.inl rfl));have b9:=k3.get g2 λu=>u (.inr (.inr rfl));have hB:aH b3 D=if(D.sync b3.last).1≠0 then((D.sync b3.last).1,b3,(D.sync b3.last).2)else bz b3 (D.sync b3.last).2:=by unfold aH;rw[Zq v]
   refine⟨_,rfl,al.eK (λf5=>?_) (λF=>⟨_,Y,kX,k3.size,b8,b9,by rw[hB,Zq (by simpa using F)]⟩)⟩;refine PS.mk b9 sM λJ L s4 g4=>⟨_,ae g4 rfl,Ok.mk ?_⟩
   rw[hB,Zx f5];exact⟨rfl,(Y.other L λn P=>⟨P▸.inr (.inr rfl),oM⟩).mono λn P=>.inl P,kX.then (L.mono λn _ P i=>by have:=b2 n i;omega)⟩
  ·have he:b3.a_=[]:=QW oM
   exact⟨D,hY,ai.keep d8,Q4 _,b7,g2,by unfold aH;rw[Zx he]⟩
 rintro _ w3 ⟨C,Y,a1,o7,b8,b9,hB⟩;rw[hB];obtain⟨G3,p5,j6,p6⟩:=id Y;obtain⟨f9,n3,h0,E3,j7,-,-,-⟩:=j6.row;refine⟨_,ae b8 rfl,c,0,rfl,_,ae j7 rfl,PC.ok (km (hL.af Y.gr) e9) ?_⟩;rintro _ J ⟨rfl,L⟩;refine⟨_,rfl,PA.mk λw5 k5 s5 g5=>PS.mk g5 sM λw6 k6 s6 g6=>?_⟩
 let p:UK:=λn=>b6 n\/n=J.heap.size
 have f6:=Y.af L;have p7:=f6.gr.size;have p8:=L.size;have j8:cI b w6 a c b3 C p:=(f6.add (Y:=(·=J.heap.size)) k5 λn P=>oM).other k6 λn P=>⟨.inr P,oM⟩
 have j9:aj (dW f) k w6:=((a1.af L).af k5).then (k6.mono λn _ P i=>by have:=b2 n i;have:=a1.size;omega);have e0:∀{n},f n->p n:=λi=>.inl (.inl i);intro M e4;have k7:ai w6 M:=e4.keep;have f8:=j8.af k7;have gn:w6.heap[J.heap.size]? =some (.cells #[.string (cH (ax b3.next))] 9 (0,0)):=g6;have k0:=k6.get (k5.get (L.get b8 id) id) oM;have g0:=k6.get (k5.get (L.get b9 id) id) oM
 let q:World->Int->Prop:=λd g=>d.heap[k.heap.size]? =some (.cells #[RK c] 101 (0,0))/\d.heap[B.heap.size]? =some (.cells #[WP g] 34 (0,0))/\d.heap[J.heap.size]? =some (.cells #[.string (cH (ax b3.next))] 9 (0,0))
 have C6:q w6 0:=⟨k0,g0,gn⟩
 have e:∀{d w:World} {g:Int} {d0:UK},q d g->aj d0 d w->(∀n,d0 n->¬(n=k.heap.size\/n=B.heap.size\/n=J.heap.size))->q w g:=λN o hS=>
  ⟨o.get N.1 λO=>hS _ O (.inl rfl),o.get N.2.1 λO=>hS _ O (.inr (.inl rfl)),o.get N.2.2 λO=>hS _ O (.inr (.inr rfl))⟩
 have j:∀{d w:World} {g:Int},q d g->aj (dW p) d w->q w g:=λN o=>e N o λn P hc=>P (by
  rcases hc with rfl|rfl|rfl
  ·exact .inl (.inr (.inl rfl))
  ·exact .inl (.inr (.inr rfl))
  ·exact .inr rfl)
 have c1:∀{d w:World},aj (dW f) k d->aj (dW p) d w->aj (dW f) k w:=λt n=>t.then (n.mono λn _ P i=>P (e0 i));have C7:q M 0:=e C6 k7 λn P=>P.elim;obtain⟨G7,p9,l0,q0⟩:=id f8;obtain⟨k4,n7,l1,E7,l3,-,-,-⟩:=l0.row;refine⟨_,ae C7.1 rfl,c,0,rfl,_,ae l3 rfl,_,ae C7.2.2 rfl,PC.ok (f8.on (λp hZ T=>T.create)) ?_⟩;rintro _ w8 ⟨rfl,c2,k8⟩;have C8:=j C7 k8;have g3:=c1 (j9.af k7) k8;have l4:bz b3 C=if(C.create (cH (ax b3.next))).1≠0 then((C.create (cH (ax b3.next))).1,b3,(C.create (cH (ax b3.next))).2)else lZ b3 (C.create (cH (ax b3.next))).2:=rfl
 rw[l4];generalize q1:C.create (cH (ax b3.next))=cr at c2⊢;obtain⟨l2,K⟩:=cr;simp only at c2⊢;have q2:B.heap.size<w2.heap.size:=oM
 have g7:∀{d:World} {z:Int×dw×ak} {g:Int} {w:World},cI b d a c z.2.1 z.2.2 p->aj (dW f) k d->aj (·=B.heap.size) d w->g=z.1->Fk b k a c f z (WP g) w:=by
  intro d z g w u o O he;exact⟨by rw[he],(u.other O λn P=>⟨P▸.inl (.inr (.inr rfl)),oM⟩).mono λn P=>e0 P,o.then (O.mono λn _ P i=>by have:=b2 n i;omega)⟩
 refine⟨_,rfl,al.eK (λv=>?_) (λF=>?_)⟩
 ·refine PS.mk C8.2.1 sM λw9 k9 s9 g9=>⟨_,ae g9 rfl,Ok.mk ?_⟩
  rw[Zx v];exact g7 c2 g3 k9 rfl
 rw[Zq (by simpa using F)];have A:∀{z:Int×dw×ak} (g:Int) (l:ak) (d:World),cI b d a c b3 l p->aj (dW f) k d->q d g->g≠0->z=(g,b3,(l.delete (cH (ax b3.next))).2)->
   Lv LL (λg8=>∃h2:Int,g8.cell? ⟨B.heap.size,0,none⟩=some (WP h2)/\Ok (Fk b k a c f z) (.returned (WP h2)) g8) (λch d=>Ok (Fk b k a c f z) (.panicked ch) d)
    ([{target:=.fn (.func 171) #[RK B.heap.size,RK k.heap.size,RK J.heap.size],args:= #[]}]:List Deferred) .returning d:=by
  intro z g l d u o N v hr;refine Lv.one sM kR (CallsD.mono (jx (R:=λe' M=>e'= .returned (.tuple #[])/\∃h3:Int,M.cell? ⟨B.heap.size,0,none⟩=some (WP h3)/\Ok (Fk b k a c f z) (.returned (WP h3)) M) ⟨_,ae N.2.1 rfl,al.eK (λ_=>?_) (λF=>Zz F v)⟩) ?_)
  ·intro wa da
   have ka:ai d wa:=da.keep;have h4:=u.af ka;have e1:q wa g:=e N ka λn P=>P.elim;obtain⟨Ga,q3,l5,q4⟩:=id h4;obtain⟨aa,na,ca,Ea,c0,-,-,-⟩:=l5.row;refine⟨_,ae e1.1 rfl,c,0,rfl,_,ae c0 rfl,_,ae e1.2.2 rfl,PC.ok (h4.on (λp hZ T=>T.delete)) ?_⟩;rintro _ U ⟨rfl,l6,kb⟩;have l7:=j e1 kb;refine⟨_,rfl,rfl,_,ae l7.2.1 rfl,Ok.mk ?_⟩;rw[hr];exact⟨rfl,l6.mono λn P=>e0 P,c1 (o.af ka) kb⟩
  ·rintro e' u' M ⟨rfl,rfl,hX⟩
   exact Lv.ret rfl hX
 intro w9 e5;have k9:ai w8 w9:=e5.keep;have h5:=c2.af k9;have C9:q w9 0:=e C8 k9 λn P=>P.elim;obtain⟨G9,q5,l8,q6⟩:=id h5;obtain⟨n5,n9,n6,E9,l9,-,-,-⟩:=l8.row;refine⟨_,ae C9.1 rfl,c,0,rfl,_,ae l9 rfl,_,ae C9.2.2 rfl,PC.ok (h5.on (λp hZ T=>T.sync)) ?_⟩;rintro _ Z ⟨rfl,V,h6⟩;have b0:=j C9 h6;have d1:=c1 (g3.af k9) h6;have m0:lZ b3 K=if(K.sync (cH (ax b3.next))).1≠0 then((K.sync (cH (ax b3.next))).1,b3,((K.sync (cH (ax b3.next))).2.delete (cH (ax b3.next))).2)else
   if(bw (K.sync (cH (ax b3.next))).2 (b3.a_++[b3.next])).1≠0 then((bw (K.sync (cH (ax b3.next))).2 (b3.a_++[b3.next])).1,b3,((bw (K.sync (cH (ax b3.next))).2 (b3.a_++[b3.next])).2.delete (cH (ax b3.next))).2)else
   (0,⟨b3.size,b3.a_++[b3.next],0,PP .i64 (b3.next+1)⟩,(bw (K.sync (cH (ax b3.next))).2 (b3.a_++[b3.next])).2):=rfl
 rw[m0];generalize q7:K.sync (cH (ax b3.next))=sy at V⊢;obtain⟨q8,c4⟩:=sy;dsimp only at V;refine⟨_,rfl,al.eK (λv=>?_) (λF=>?_)⟩
 ·refine PS.mk b0.2.1 sM λr s q9 m1=>?_
  rw[Zx v];exact A _ c4 r (V.other s λn P=>⟨P▸.inl (.inr (.inr rfl)),oM⟩) (d1.then (s.mono λn _ P i=>by have:=b2 n i;omega)) ⟨s.get b0.1 oM,m1,s.get b0.2.2 (by have:=a1.size;omega)⟩ v rfl
 rw[Zq (by simpa using F)];have o8:J.heap.size<Z.heap.size:=aA b0.2.2;refine⟨λt E I d=>∃l,aU aP 3 l d t E I (b3.a_++[b3.next])/\(∀n,l n->Z.heap.size<=n)/\ai Z d,?_,?_⟩
 ·intro r m2
  have s:ai Z r:=m2.keep;have a5:=V.af s;have b1:q r 0:=e b0 s λn P=>P.elim;obtain⟨m3,h7,W,h8⟩:=id a5;obtain⟨m4,m5,m6,m7,a6,d2,d3,o9⟩:=W.row;have p0:=W.aF c W.self;have a2:∀{wa U wc:World} {S:Nat} {t E I:_} {a3:UK},aU aP 3 a3 U t E I b3.a_->(∀n,a3 n->r.heap.size<=n/\n≠S)->U.heap[S]? =some (.cells #[WP b3.next] 3 (0,0))->ai r U->
    ∀κ ε,(∀X n' c' d,(∃l,aU aP 3 l d X n' c' (b3.a_++[b3.next])/\(∀n,l n->Z.heap.size<=n)/\ai Z d)->aj (λn=>r.heap.size<=n) U d->κ (.slice X n' c') d)->
    aK LL (Builtin.append_ #[42,42] 42 #[.slice t E I,.slice (UV S) 1 1]) U κ ε:=by
   intro wa U wc S t E I a3 Q hF hg o κ ε c3;refine lQ Q vm (D:=(·=S)) (Row.lit hg [b3.next] rfl (λd4 i=>by simp at i;subst i;exact e9) (by unfold aR;simp)) (λn g=>⟨g▸aA hg,λe8=>(hF n (Q.self n e8)).2 g⟩) (by unfold aR;simp;omega) (by unfold maxLen;simp;omega) λX c' d F' c7 a4 _ c9=>?_;refine c3 X _ c' d ⟨λn=>aG X=some n,c7.alone,λn P=>?_,?_⟩ (a4.mono λn _ P=>(hF n (Q.self n P)).1)
   ·have:=s.size;have:=o.size
    rcases c9 n P with h|h
    ·have:=(hF n h).1;omega
    ·omega
   ·exact(s.then o).new a4 λn P=>.inr (by have:=(hF n (Q.self n P)).1;have:=s.size;omega)
  have r0:k.heap.size<r.heap.size:=aA b1.1;refine⟨λn=>r.heap.size<=n,oM,_,ae b1.1 rfl,c,0,rfl,oM,_,_,_,ae a6 rfl,oM,_,ae b1.1 rfl,c,0,rfl,oM,_,ae a6 rfl,?_,?_⟩
  ·refine PC.ok (bS d2 λn P=>W.aF n (d3 n P).1) ?_
   rintro _ b4 ⟨r3,r4,r5,r6,rfl,a7,H,h9⟩;refine⟨_,_,_,rfl,H.keep,PA.mk λx m m8 e3=>⟨m.keep,a2 (wa:=x) (wc:=x) (a7.af m) (λn P=>⟨h9 n P,by have:=a7.aF n P;omega⟩) e3 (H.then m) _ _ λX n' c' d hJ o=>⟨_,_,_,rfl,o,trivial,hJ⟩⟩⟩
  ·refine PA.mk λb4 H r7 m9=>⟨H.keep,PC.ok (bS (d2.af H) λn P=>by have:=W.aF n (d3 n P).1;have:=H.size;omega) ?_⟩
   rintro _ x ⟨n0,n1,n2,r8,rfl,a8,m,d5⟩;exact⟨_,_,_,rfl,m.keep,a2 (wa:=x) (wc:=x) a8 (λn P=>⟨by have:=d5 n P;omega,by have:=d5 n P;omega⟩) (m.get m9 id) (H.then m) _ _ λX n' c' d hJ o=>⟨_,_,_,rfl,o,trivial,hJ⟩⟩
 rintro t E I _ r ⟨l,Q,hE,s⟩;have p1:(b3.a_++[b3.next]).length<=65:=by simp;omega
 have a5:cI b r a c b3 c4 (λn=>p n\/l n):=V.add s λn P=>⟨hE n P,Q.aF n P⟩
 have b1:q r 0:=e b0 s λn P=>P.elim;have d6:Row aP 8 r l t E (b3.a_++[b3.next]):=Q.row dC ce;have f0:∀d4∈b3.a_++[b3.next],aM d4:=NQ d6;obtain⟨m3,h7,W,h8⟩:=id a5;obtain⟨m4,m5,m6,m7,a6,-,-,-⟩:=W.row;refine⟨_,ae b1.1 rfl,c,0,rfl,_,ae a6 rfl,PC.ok (a5.on λZ' n4 T=>T.bw hL.qg d6 f0 λn P=>.inr (n4 n (.inr P))) ?_⟩;rintro _ b4 ⟨rfl,a9,H⟩;have R:aj (dW p) r b4:=H.mono λn _ P y=>P (.inl y);have c5:=j b1 R;have d7:=c1 (d1.af s) R;have a7:=Q.keep H λn P u=>u (.inr P);have b5:= @Hq c4 (b3.a_++[b3.next]);have i0:True:=trivial;generalize r9:bw c4 (b3.a_++[b3.next])=mw at a9 b5 i0⊢;obtain⟨s0,c6⟩:=mw;dsimp only at a9 b5 i0⊢;refine⟨_,rfl,al.eK (λv=>?_) (λF=>?_)⟩
 ·refine PS.mk c5.2.1 sM λx m m8 e3=>?_
  rw[Zx v];have f1:cI b b4 a c b3 c6 p:=a9.mono λn P=>.inl P;exact A _ c6 x (f1.other m λn P=>⟨P▸.inl (.inr (.inr rfl)),oM⟩) (d7.then (m.mono λn _ P i=>by have:=b2 n i;omega)) ⟨m.get c5.1 oM,e3,m.get c5.2.2 (by have:=a1.size;omega)⟩ v rfl
 rw[Zq (by simpa using F)];have b5:=b5 F;intro x n8;have m:ai b4 x:=n8.keep;have i1:=a9.af m;have e6:q x 0:=e c5 m λn P=>P.elim;have a8:=a7.af m;obtain⟨s3,i2,d9,p2⟩:=id i1;obtain⟨n0,n1,n2,s7,i3,-,-,-⟩:=d9.row;have i4:∀n,l n->n≠c:=λn P g=>by have:=hE n P;omega
 have o0:c≠k.heap.size/\c≠B.heap.size/\c≠J.heap.size:=by have:=a1.size;omega
 refine⟨(·=c),_,ae e6.1 rfl,λg=>o0.1 g.symm,_,ae e6.1 rfl,c,0,rfl,PS.mk i3 sM λs8 i5 t0 o1=>⟨i5,c,0,rfl,PS.mk o1 sM λo2 i6 t1 i7=>⟨i6,?_⟩⟩⟩;have e2:=i5.then i6;have i8:q o2 0:=e e6 e2 λn P hc=>by subst P;omega
 refine⟨_,ae i8.1 rfl,c,0,rfl,_,ae i7 rfl,c,0,rfl,PS.mk i7 sM λc8 i9 t2 j0=>?_⟩;have o3:q c8 0:=e i8 i9 λn P hc=>by subst P;omega
 have a0:aj (·=c) x c8:=e2.then i9;refine PS.mk o3.2.1 sM λo4 o5 t3 j1=>Lv.one sM kR (CallsD.mono (jx (R:=λe' M=>e'= .returned (.tuple #[])/\M=o4) ⟨_,ae j1 rfl,al.eK (λhc=>Zz rfl hc) (λ_=>⟨rfl,rfl⟩)⟩) ?_);rintro e' u' _ ⟨rfl,rfl,rfl⟩;refine Lv.ret rfl ⟨_,ae j1 rfl,Ok.mk ?_⟩;have j2:c8.heap[c]? =some (.cells #[RK a,WP b3.size,.slice t E I,WP 0,WP (PP .i64 (b3.next+1))] 209 (0,0)):=j0;have j3:cI b c8 a c ⟨b3.size,b3.a_++[b3.next],0,PP .i64 (b3.next+1)⟩ c6 p:=by
  refine⟨λn=>n=c\/l n,?_,⟨⟨t,E,I,l,j2,a8.keep a0 λn P g=>i4 n P g,λn P=>⟨.inr P,i4 n P⟩⟩,.inl rfl,?_,b5,?_⟩,?_⟩
  ·have h1:aY b x a c6 (λn=>p n\/(n=c\/l n)):=i2.mono λn P=>by
    rcases P with P|P|P
    ·exact .inl (.inl P)
    ·exact .inr (P▸d9.self)
    ·exact .inl (.inr P)
   obtain⟨a3,f2,f4,f3,f7⟩:=h1;exact⟨a3,f2.keep a0 λn P g=>(f3 n P).2 (.inr (.inl g)),f4.new a0 λn P=>.inr oM,f3,λn P=>Qk (f7 n P) a0.size⟩
  ·rintro n (rfl|P)
   ·exact aA j0
   ·exact Qk (a8.aF n P) a0.size
  ·show aM (PP .i64 (b3.next+1))
   exact SC _
  ·rintro n (rfl|P)
   ·exact⟨j4,λy=>by
     rcases y with(y|y|y)|y
     ·exact e7 y
     ·omega
     ·omega
     ·omega⟩
   ·have:=hE n P
    exact⟨by have:=V.gr.size;omega,λy=>by have:=V.aF n y;omega⟩
 exact g7 j3 ((d7.af m).then (a0.mono λn _ P i=>e7 (P▸i))) o5 rfl
def ay(no:Int):ByteArray:=cH (ax no)
structure pw where
 no:Int
 out:List ah
 V:dw
 D:ak
def cO:List Int->List ah->dw->ak->pw
 |[],n,P,D=>⟨0,n,P,D⟩
 |no::a,n,P,D=>
  if(D.read (ay no)).2≠0 then⟨0,n,P,D⟩else
  if(bE (D.read (ay no)).1).2<(D.read (ay no)).1.length then
   ⟨(D.ou (ay no) (bE (D.read (ay no)).1).2).1,n++(bE (D.read (ay no)).1).1,⟨P.size,P.a_++[no],(bE (D.read (ay no)).1).2,P.next⟩,(D.ou (ay no) (bE (D.read (ay no)).1).2).2⟩
  else cO a (n++(bE (D.read (ay no)).1).1) ⟨P.size,P.a_++[no],(bE (D.read (ay no)).1).2,P.next⟩ D
section
variable {w0 w w1 w':World} {p q:Nat} {D D':ak} {V V':dw} {X Y Z G S:UK}
def aY.fj(b:aY w0 w p D X)(c:aj Y w w')(d:∀n,Y n->X n/\w0.heap.size<=n)(e:∀n,Z n->(X n\/w.heap.size<=n)/\n<w'.heap.size):aY w0 w' p D Z:=by
 obtain⟨g,f,h,a,k⟩:=b;exact⟨g,f.keep c λn P i=>(a n P).2 (d n i).1,h.new c λn P=>.inr (d n P).2,λn P=>⟨(a n P).1,λj=>(e n j).1.elim (a n P).2 λb=>by have:=f.aF n P;omega⟩,λn P=>(e n P).2⟩
def cI.fj(f:cI w0 w p q V D X)(a:aj Y w w')(b:∀n,Y n->X n/\w0.heap.size<=n)(c:∀n,Z n->(X n\/w.heap.size<=n)/\n<w'.heap.size):cI w0 w' p q V D Z:=by
 obtain⟨G,g,d,e⟩:=f;refine⟨G,g.fj a (λn P=>⟨.inl (b n P).1,(b n P).2⟩) λn P=>?_,d.keep a λn P h=>(e n P).2 (b n h).1,λn P=>⟨(e n P).1,λi=>(c n i).1.elim (e n P).2 λf=>by have:=d.aF n P;omega⟩⟩;rcases P with P|P
 ·exact⟨(c n P).1.imp .inl id,(c n P).2⟩
 ·exact⟨.inl (.inr P),Qk (d.aF n P) a.size⟩
def SD{no B:Int}(h:cI w0 w p q V D X)(O:aM no)(Q:V.a_.length+1<=64)(s:∀w',cI w0 w' p q ⟨V.size,V.a_++[no],B,V.next⟩ D X->aj (dW X) w w'->y w'):
  ∃C E,(UV q:bc)=some ⟨C,E,none⟩/\∃(g:bc) (t u:Nat),w.cell? ⟨C,E+2,none⟩=some (.slice g t u)/\
   PA w (.cells #[WP no] 3) λR=>aK LL (Builtin.append_ #[42,42] 42 #[.slice g t u,.slice (UV w.heap.size) 1 1]) R (λS T=>
    ∃(c:bc) (F i:Nat),S= .slice c F i/\∃H I,(UV q:bc)=some ⟨H,I,none⟩/\PS T ⟨H,I+2,none⟩ (.slice c F i) λU=>
     ∃J K,(UV q:bc)=some ⟨J,K,none⟩/\PS U ⟨J,K+3,none⟩ (WP B) y) o:=by
 obtain⟨G,W,b,d⟩:=id h;obtain⟨g,t,u,a0,L,e,f⟩:=b.body;have a8:=b.aF q b.self;refine⟨q,0,rfl,_,_,_,ae L rfl,PA.mk λw1 j s1 Y=>?_⟩;refine lQ (e.af j) vm (D:=(·=w.heap.size)) (Row.lit Y [no] rfl (λa1 k=>by simp at k;subst k;exact O) (by unfold aR;simp)) (λn a=>⟨oM,λZ=>by have:=e.aF n (e.self n Z);omega⟩) (by unfold aR;simp;omega) (by unfold maxLen;simp;omega) λc i w2 F' l m _ v=>?_
 replace l:=l.alone
 have a6:¬aG g=some q:=λa=>(f q (e.self q a)).2 rfl;have g2:=m.get (j.get L id) a6;have z2:=m.size;have x:¬aG c=some q:=λa=>by
  rcases v q a with h|h
  ·exact(f q h).2 rfl
  ·omega
 refine⟨_,_,_,rfl,q,0,rfl,PS.mk g2 sM λw3 z s3 g3=>⟨q,0,rfl,PS.mk g3 sM λr A s4 g4=>s r ?_ ?_⟩⟩
 ·have a7:aj (λn=>aG g=some n\/n=q) w1 r:=((m.mono λn _ P=>.inl P).then (z.mono λn _ P=>.inr P)).then (A.mono λn _ P=>.inr P)
  have kG:aj G w r:=(ai.keep j).then (a7.mono λn _ P=>P.elim (λh=>(f n (e.self n h)).1) λh=>h▸b.self);have M:∀n,aG c=some n->n<r.heap.size:=λn P=>by have:=l.aF n P;omega
  refine⟨λn=>n=q\/aG c=some n,W.fj kG (λn P=>⟨.inr P,(d n P).1⟩) λn P=>?_,⟨⟨c,_,i,(λn=>aG c=some n),g4,?_,λn P=>⟨.inr P,λa=>x (a▸P)⟩⟩,.inl rfl,?_,by simpa using Q,b.BL⟩,?_⟩
  ·rcases P with P|rfl|P
   ·exact⟨.inl (.inl P),by have:=h.aF n P;omega⟩
   ·exact⟨.inl (.inr b.self),oM⟩
   ·refine⟨?_,M n P⟩
    rcases v n P with h|h
    ·exact .inl (.inr (f n h).1)
    ·exact .inr oM
  ·exact(l.keep z λn P a=>x (a▸P)).keep A λn P a=>x (a▸P)
  ·rintro n (rfl|P)
   ·omega
   ·exact M n P
  ·rintro n (rfl|P)
   ·exact d _ b.self
   ·rcases v n P with N|N
    ·exact d n (f n N).1
    ·exact⟨by have:=h.gr.size;omega,λk=>by have:=h.aF n k;omega⟩
 ·refine(((ai.keep j).then (m.mono λn _ P=>?_)).then (z.mono λn _ P=>?_)).then (A.mono λn _ P=>?_)
  ·exact(d n (f n (e.self n P)).1).2
  ·exact(d n (P▸b.self)).2
  ·exact(d n (P▸b.self)).2
def Wz{j n:Nat}(P:j<=64)(a:n<=j*262144):n<=16777216:=oM
def UL(w0 w:World)(p q:Nat)(X:UK)(n:pw)(d:Value)(w':World):Prop:=
 ∃a b c G,d= .tuple #[.slice a b c,WP n.no]/\aU wh 63 G w' a b c n.out/\cI w0 w' p q n.V n.D (λP=>X P\/G P)/\aj (dW X) w w'/\(∀P,G P->w.heap.size<=P)/\n.out.length<=16777216
def SE(C:Laid w0)(h:cI w0 w p q V D X)(Q:Row aP 8 w f d a s)(c4:∀n,f n->X n)(f5:V.a_.length+s.length<=64):
  be 110 #[RK q,.agg #[.slice d a c]] w (Ok (UL w0 w p q X (cO s [] V D))):=by
 have k:=Q.len;have R:=h.aF;have g0:=h.gr.size;refine uK (PA.mk λw1 S s1 g1=>⟨_,_,_,ae g1 rfl,λT U W Y Z w'=>∃(e:Nat) (g:dw) (b:List ah) (G:UK),Z=e/\e<=s.length/\T=s.length-e/\cO s [] V D=cO (s.drop e) b g D/\g.a_.length=V.a_.length+e/\b.length<=e*262144/\
  aU wh 63 G w' U W Y b/\cI w0 w' p q g D (λn=>X n\/G n)/\aj (dW X) w w'/\∀n,G n->w.heap.size<=n,
  ⟨_,0,V,[],λ_=>False,rfl,Qj _,rfl,rfl,rfl,Qj _,aU.nil w1,(h.af S).mono λn P=>P.elim id λh=>h.elim,ai.keep S,λ_ h=>h.elim⟩,?_⟩)
 rintro T U W Y Z _ w2 ⟨e,g,b,G,rfl,hj,rfl,a4,g2,a0,l,hN,r,u⟩;rw[a4];refine al.dec (λg3=>?_) (λg4=>?_)
 rotate_left
 ·obtain rfl:e=s.length:=oM
  rw[List.drop_of_length_le (Q4 _)];exact Ok.mk ⟨_,_,_,G,rfl,l,hN,r,u,Wz oM a0⟩
 obtain⟨n,E,no,rfl,m,i,F⟩:=(Q.keep r λn P k=>k (c4 n P)).nE (i:=e) oM;have a2:s.drop e=no::s.drop (e+1):=by
  obtain⟨c8,rfl⟩:=Qv.1 m;exact X4 c8
 rw[a2]at a4⊢;refine⟨n,E,rfl,oM,oM,no,F,λw3 d3=>?_⟩;have k3:ai w2 w3:=d3.keep;have H:=hN.af k3;obtain⟨G3,d0,d1,g5⟩:=id H;obtain⟨a3,n3,c3,E3,d2,-,-,-⟩:=d1.row;refine⟨λ_=>False,q,0,rfl,id,_,ae d2 rfl,PC.ok (km (C.af H.gr) i) ?_⟩;rintro _ w4 ⟨rfl,z⟩;have d4:=H.af z;refine⟨_,rfl,z,PC.ok ((d0.af z).read (k:=ay no)) ?_⟩;rintro _ w5 ⟨a5,n5,c5,F5,rfl,d5,g6,-,I⟩;have v:=d4.af I;have x:ai w2 w5:=(k3.then z).then I;have g7:=d5.len dC;have g8:=Jt v.ok (ay no);refine⟨_,_,_,_,rfl,I,al.eK (λd6=>?_) (λhe=>?_)⟩
 ·rw[show cO (no::s.drop (e+1)) b g D=⟨0,b,g,D⟩ by unfold cO;rw[Zx d6]]
  exact Ok.mk ⟨_,_,_,G,rfl,l.af x,v,r.af x,u,Wz oM a0⟩
 obtain⟨G5,d7,d8,g9⟩:=id v;obtain⟨h0,h2,h3,E5,e0,-,-,-⟩:=d8.row;obtain⟨a7,e1,-,-,-⟩:=id d7;refine⟨q,0,rfl,_,ae e0 rfl,PC.ok (SF (C.af v.gr) e1 i) ?_⟩;rintro _ w6 ⟨a6,n6,c6,F6,rfl,t,J,K,a8⟩;have e2:cI w0 w6 p q g D (λn=>(X n\/G n)\/F6 n):=v.add J λn P=>⟨K n P,t.aF n P⟩
 have b0:=x.then J;have e3:=l.aF;generalize e4:bE (D.read (cH (ax no))).1=sl at t a8;obtain⟨j,o⟩:=sl;dsimp only at t a8;have a1:bE (D.read (ay no)).1=(j,o):=e4;have b1:Row wh 96 w6 F6 a6 n6 j:=t.row dC ce;refine⟨_,_,_,_,rfl,Ay (l.af b0) KF b1 (λL=>t.OW L) (λn P=>⟨t.aF n P,λF=>by have:=e3 n (l.self n F);have:=K n P;have:=x.size;omega⟩) ce (by unfold maxLen;omega) λa9 c7 w7 A b2 M b3 _=>?_⟩;have h4:=x.size;have z6:=J.size;have b4:=b2.aF;have e5:cI w0 w7 p q g D (λn=>X n\/A n):=e2.fj M (λn P=>⟨.inl (.inr (l.self n P)),by have:=u n (l.self n P);omega⟩) λn P=>by
  rcases P with P|P
  ·exact⟨.inl (.inl (.inl P)),by have:=R n P;have:=r.size;have:=M.size;omega⟩
  ·refine⟨?_,b4 n P⟩
   rcases b3 n P with h|h|h
   ·exact .inl (.inl (.inr h))
   ·exact .inl (.inr h)
   ·exact .inr h
 have e6:aj (dW X) w w7:=(r.af b0).then (M.mono λn _ P m=>by have:=u n (l.self n P);have:=R n m;omega);have b5:∀n,A n->w.heap.size<=n:=λn P=>by
  have:=r.size;rcases b3 n P with h|h|h
  ·exact u n h
  ·have:=K n h;omega
  ·omega
 refine⟨_,_,_,rfl,SD e5 i oM λw8 b6 k8=>?_⟩;have b7:aj (dW X) w w8:=e6.then (k8.mono λn _ P m=>P (.inl m));have b8:=b2.keep k8 λn P k=>k (.inr P);refine al.dec (λf6=>?_) (λf8=>?_)
 ·rw[show cO (no::s.drop (e+1)) b g D=⟨(D.ou (ay no) o).1,b++j,⟨g.size,g.a_++[no],o,g.next⟩,(D.ou (ay no) o).2⟩ by
   unfold cO;rw[a1,Zq (by simpa using he),Zx (by show o<_;omega)]]
  intro w9 d9;have N:ai w8 w9:=d9.keep;have b9:=b6.af N;obtain⟨G9,e7,O,e8⟩:=id b9;obtain⟨c0,n9,c9,E9,e9,-,-,-⟩:=O.row;refine⟨λn=>n≠q,q,0,rfl,λhs=>hs rfl,_,ae e9 rfl,PC.ok (km (C.af b9.gr) i) ?_⟩;rintro _ f2 ⟨rfl,y⟩;refine⟨_,rfl,y.keep,PC.ok ((e7.af y).ou (k:=ay no)) ?_⟩;rintro _ f4 ⟨rfl,c1,B⟩;have c2:aj (dW X) f2 f4:=B.mono λn _ P m=>P (.inl (.inl m));refine⟨_,rfl,B.mono λn _ P L=>P (.inr (L▸O.self)),Ok.mk ⟨_,_,_,A,rfl,?_,⟨G9,c1,(O.af y).keep B λn P k=>k (.inr P),e8⟩,((b7.af N).af y).then c2,b5,?_⟩⟩
  ·exact((b8.af N).af y).keep B λn P k=>k (.inl (.inr P))
  ·exact Wz (j:=e+1) oM cS
 ·refine⟨_,?_,e+1,⟨g.size,g.a_++[no],o,g.next⟩,b++j,A,aq oM,oM,rfl,?_,by simp;omega,by simp;omega,b8,b6,b7,b5⟩
  ·omega
  ·conv=>lhs;unfold cO
   rw[a1,Zq (by simpa using he),Zq (by show¬o<_;omega)]
end
def jK(D:ak)(n:ByteArray):Bool:=decide (n=aO)||((ig n).2&& !decide ((ig n).1∈(dF D).getD []))
def GF(D:ak):List ByteArray:=D.list.filter (jK D)
def KV(D:ak)(n:List ByteArray):ak:=n.foldl (λD P=>(D.delete P).2) D
def dv(D:ak):ak:=KV D (GF D)
def Bp(n:List ByteArray):List (List Value):=n.map λP=>[.string P]
def RL(D:ak)(n:List (List Value)):ak:=n.foldl (λD P=>match P with
 |[.string a]=>(D.delete a).2
 |_=>D) D
def Ey:∀(n:List ByteArray) (D:ak),RL D (Bp n)=KV D n
 |[],D=>rfl
 |s::n,D=>Ey n (D.delete s).2
def OO(D:ak)(n:List (List Value))(P:ByteArray):RL D (n++[[.string P]])=((RL D n).delete P).2:=by
 unfold RL;rw[List.foldl_append];rfl
def Ez(n:List ByteArray)(P:ByteArray):Bp (n++[P])=Bp n++[[.string P]]:=by unfold Bp;simp
def DA{D:UK}(P:Row aP 8 b D d a s):
  be 265 #[.slice d a c,WP e] b (Ok λp f=>(∃l:Int,p= WP l/\(0<=l↔e∈s))/\b=f):=by
 have w:=P.len;have q:=P.fh;unfold aR at q;refine oU ⟨λm i f=>∃n:Nat,i=n/\n<=a/\m=a-n/\e∉s.take n/\b=f,⟨_,0,rfl,Qj _,rfl,sM,rfl⟩,?_⟩;rintro m i _ _ ⟨n,rfl,x,rfl,g,rfl⟩;refine al.dec (λr=>?_) (λr=>?_)
 ·obtain⟨t,j,y,rfl,o,_,u⟩:=P.nE (i:=n) oM
  refine⟨t,j,rfl,oM,oM,_,u,al.eI (λk=>?_) (λk=>?_)⟩
  ·exact Ok.mk ⟨⟨_,rfl,λ_=>k▸QZ o,λ_=>oM⟩,rfl⟩
  ·refine⟨_,oM,n+1,aq oM,oM,rfl,?_,rfl⟩
   rw[Qw,o];intro v;rcases Q6.1 v with h|h
   ·exact g h
   ·simp at h;exact k h
 ·rw[Qz oM]at g
  exact Ok.mk ⟨⟨_,rfl,λh=>oM,λh=>Zz h g⟩,rfl⟩
def xp{D:UK}(n:Row aP 8 b D d a s):
  be 209 #[.slice d a c,WP e] b (Ok λP f=>P= .bool (decide (e∈s))/\b=f):=by
 refine mu (PC.ok (DA n) ?_);rintro _ _ ⟨⟨h,rfl,g⟩,rfl⟩;exact⟨_,rfl,Ok.mk ⟨by rw[decide_eq_decide.2 g],rfl⟩⟩
section
variable {w0 w w1 w':World} {p:Nat} {D D':ak} {X Y:UK}
def aY.lt(P:aY w0 w p D X):∀n,X n->n<w.heap.size:=by obtain⟨b,c,d,e,a⟩:=P;exact a
def OP(h:aY w0 w p D X)(s:qT w0):be 140 #[RK p] w (Ok λt w'=>∃i j c d e,∃Y G:UK,t= .func (.func 208) #[] #[RK i,RK j]/\
  (∃f k,w'.heap[i]? =some (.cells #[RK p] f k))/\(∃f k,w'.heap[j]? =some (.cells #[.slice c d e] f k))/\aU aP 3 G w' c d e ((dF D).getD [])/\Y i/\Y j/\(∀P,G P->Y P)/\aY w0 w' p D (λP=>X P\/Y P)/\ai w w'):=by
 have A:=h.gr.size;refine zH (PA.mk λw1 m B o=>⟨_,ae o rfl,PC.ok ((h.add m (Y:=(·=w.heap.size)) λP n=>⟨oM,oM⟩).iY s) ?_⟩);rintro _ a ⟨c,d,e,G,rfl,q,C,u,l⟩;refine⟨_,_,_,_,rfl,PA.mk λE g F v=>PS.mk v sM λH b I x=>Ok.mk ⟨w.heap.size,a.heap.size,c,d,e,λP=>(P=w.heap.size\/G P)\/P=a.heap.size,G,rfl,?_⟩⟩;have J:=l.size;have y:w.heap.size≠a.heap.size:=oM
 have r:∀P,G P->P<a.heap.size:=q.aF;have z:=u.add g (Y:=(·=a.heap.size)) λP n=>⟨oM,oM⟩
 refine⟨⟨_,_,b.get (g.get (l.get o id) id) y⟩,⟨_,_,x⟩,(q.af g).keep b (λP n f=>by have:=r P n;omega),.inl (.inl rfl),.inr rfl,λP n=>.inl (.inr n),?_,?_⟩
 ·refine z.fj b (λP n=>⟨.inr n,oM⟩) λP n=>⟨.inl ?_,?_⟩
  ·rcases n with n|(n|n)|n
   ·exact .inl (.inl (.inl n))
   ·exact .inl (.inl (.inr n))
   ·exact .inl (.inr n)
   ·exact .inr n
  ·have:=b.size
   rcases n with n|(n|n)|n
   ·have:=h.lt P n;omega
   ·omega
   ·have:=r P n;omega
   ·omega
 ·exact aj.new ((m.then l).then g) b λP n=>.inr oM
def CJ(w0 P:World)(p:Nat)(D:ak)(d:UK)(a:World×(UK))(b:List (List Value))(c:World):Prop:=
 aY w0 c p (RL D b) (λn=>(d n\/(P.heap.size<=n/\n<P.heap.size+2))\/a.2 n)/\aj (dW d) P c/\aj (dW a.2) a.1 c/\∀n,a.2 n->P.heap.size+2<=n
variable {w5:World} {X5:UK} {s:World×(UK)} {pre:List (List Value)} {A B:World}
def CJ.af(n:CJ w0 w5 p D X5 s pre A)(P:ai A B):CJ w0 w5 p D X5 s pre B:=⟨n.1.af P,n.2.1.af P,n.2.2.1.af P,n.2.2.2⟩
def CJ.fj(d:ai w0 w5)(e:CJ w0 w5 p D X5 s pre A)(f:qU (w5.heap.size+1) A B):CJ w0 w5 p D X5 s pre B:=by
 obtain⟨b,g,h,c⟩:=e;obtain⟨a,i⟩:=f;have:=d.size;refine⟨b.fj a (λn P=>⟨.inl (.inr ⟨oM,oM⟩),oM⟩) λn P=>⟨.inl P,by rw[i];exact b.lt n P⟩,g.new a λn P=>.inr oM,h.new a λn P=>.inl λj=>?_,c⟩;have:=c n j;omega
def IL{G:UK}{R:ba}(X:Laid w0)(a5:∀n,X5 n->n<w5.heap.size)(r:∃t u,w5.heap[a]? =some (.cells #[RK p] t u))(Y:X5 a)(v:∃t u,w5.heap[c]? =some (.cells #[.slice d i q] t u))(Z:X5 c)(hl:aU aP 3 G w5 d i q ((dF D).getD []))(hG:∀n,G n->X5 n)(E:∀A B,R A->aj (oV w5) A B->R B)(F:∀s pre w A,CJ w0 w5 p D X5 s pre A->R A->uc [.string ⟨#[]⟩] w->kJ LL (w5.heap.size+1) w A λn l=>n=true/\CJ w0 w5 p D X5 s (pre++[w]) l/\R l)(x:CJ w0 w5 p D X5 (w5,no) [] w1)(a0:R w1)(a1:w5.heap.size+2<=w1.heap.size):
  be 208 #[.func (.yield (w5.heap.size+1)) #[] #[],RK a,RK c] w1 (Ok λa4 w'=>R w'/\∃s,CJ w0 w5 p D X5 s (Bp (GF D)) w'):=by
 obtain⟨e2,f2,r⟩:=r;obtain⟨e4,f4,v⟩:=v;have H:aY w0 w1 p D _:=x.1;refine ud ⟨_,ae (x.2.1.get r λb=>b Y) rfl,PC.ok H.list ?_⟩;rintro _ y ⟨a8,I,c8,J,rfl,K,a2,h8,L⟩;have a6:D.list.length<=64:=by rw[oW];exact H.ok.many
 have a7:=K.len dC;have a3:CJ w0 w5 p D X5 (y,J) [] y:=⟨h8.mono λn e=>e.elim (λf=>.inl (.inl f)) .inr,x.2.1.af L,aj.refl _,λn e=>Xx a1 (a2 n e)⟩
 refine⟨_,_,_,rfl,λM N w'=>∃P:Nat,N=P/\P<=I/\M=I-P/\CJ w0 w5 p D X5 (y,J) (Bp ((D.list.take P).filter (jK D))) w'/\R w',⟨_,0,rfl,Qj _,rfl,a3,E _ _ a0 (ai.keep L)⟩,?_⟩;rintro M N _ a9 ⟨P,rfl,hj,rfl,j,O⟩;refine al.dec (λb0=>?_) (λb1=>?_)
 ·obtain⟨n,z,s,rfl,Q,_,k⟩:=((K.keep j.2.2.1 λn e b=>b e).row (bytes:=16) dC ce).nE (i:=P) oM
  refine⟨n,z,rfl,oM,oM,_,k,PC.ok (Bq (X.af j.1.gr)) ?_⟩;rintro _ b2 ⟨rfl,S⟩;have h:=j.af S;have m:=E _ _ O (ai.keep S);have T:uc [.string ⟨#[]⟩] [.string s]:=λφ f=>f s;have U:jK D s=true->(D.list.take (P+1)).filter (jK D)=(D.list.take P).filter (jK D)++[s]:=λf=>by
   rw[Qw,Q,List.filter_append];simp[f]
  have V:jK D s=false->(D.list.take (P+1)).filter (jK D)=(D.list.take P).filter (jK D):=λf=>by
   rw[Qw,Q,List.filter_append];simp[f]
  refine⟨_,_,rfl,al.Zo (λhe=>?_) (λW=>al.mk (λo=>?_) (λo=>?_))⟩
  ·refine⟨_,rfl,(F _ _ _ _ h m T).mono ?_⟩
   rintro _ l ⟨rfl,g,C⟩;refine al.ff rfl ⟨_,?_,P+1,aq oM,oM,rfl,?_,C⟩
   ·omega
   ·rw[U (by unfold jK;rw[show s=aO from he];simp),Ez];exact g
  ·refine⟨_,_,_,ae (h.2.1.get v λb=>b Z) rfl,PC.ok (xp ((hl.keep h.2.1 λn e b=>b (hG n e)).row (bytes:=8) dC (by have:=EA (D:=D);unfold aR;omega))) ?_⟩
   rintro _ _ ⟨rfl,rfl⟩;refine⟨_,rfl,al.mk (λk=>?_) (λk=>?_)⟩
   ·refine⟨_,rfl,(F _ _ _ _ h m T).mono ?_⟩
    rintro _ l ⟨rfl,g,C⟩;refine al.ff rfl ⟨_,?_,P+1,aq oM,oM,rfl,?_,C⟩
    ·omega
    ·rw[U (by unfold jK;rw[o,k];simp),Ez];exact g
   ·refine⟨_,?_,P+1,aq oM,oM,rfl,?_,m⟩
    ·omega
    ·rw[V (by unfold jK;rw[o,k,Xv (show¬s=aO from W)];rfl)];exact h
  ·refine⟨_,?_,P+1,aq oM,oM,rfl,?_,m⟩
   ·omega
   ·rw[V (by unfold jK;rw[o,Xv (show¬s=aO from W)];rfl)];exact h
 ·rw[Qz oM]at j
  exact Ok.mk ⟨O,_,j⟩
def OQ(r:Laid w0)(b:aY w0 w p D X):be 86 #[RK p] w (Ok λh w'=>h= .tuple #[]/\aY w0 w' p (dv D) X/\aj (dW X) w w'):=by
 have a6:=b.gr.size;refine zI (PA.mk λw1 t s1 u=>⟨_,ae u rfl,PC.ok (OP (b.add t (Y:=(·=w.heap.size)) λn P=>⟨oM,oM⟩) r.qg) ?_⟩);rintro _ w5 ⟨b2,b4,a0,a1,a2,Y,G,rfl,C,E,F,H,I,J,i,j⟩;have K:=j.get u id;have k:=i.gr;have z5:=j.size;refine⟨_,rfl,208,_,rfl,kR,World×(UK),(w5,no),CJ w0 w5 p D λn=>(X n\/n=w.heap.size)\/Y n,λ_ _ _=>False,λ_ _=>True,λl=>l=Bp (GF D),?_,λs pre A B c d=>c.fj k d,λ_ _ _ _ b _=>b,?_,?_,?_,trivial⟩
 ·intro L m s6
  exact⟨(i.add m (Y:=λn=>w5.heap.size<=n/\n<w5.heap.size+2) λn P=>⟨P.1,oM⟩).mono λn P=>P.elim id False.elim,ai.keep m,ai.keep m,λn P=>P.elim⟩
 ·intro s pre A c a7 a8 _
  refine⟨aj.refl _,λa9 d=>?_⟩;obtain⟨e,g,v,x⟩:=c.fj k d;refine⟨_,ae (g.get K λa=>a (.inl (.inr rfl))) rfl,PC.ok e.delete ?_⟩;rintro _ b0 ⟨rfl,M,o⟩;refine⟨_,rfl,o.mono λn _ a=>⟨λN=>a (.inl (.inr ⟨oM,oM⟩)),λN=>a (.inl (.inr ⟨oM,oM⟩))⟩,?_⟩;show CJ _ _ _ _ _ _ _ _;refine⟨by rw[OO];exact M,g.new o λn a=>.inl λf=>a (.inl (.inl f)),v.new o λn a=>.inl λf=>a (.inr f),x⟩
 ·intro O Rx Q _ R S L T y
  refine Calls.mono (IL (R:=O) r i.lt C (.inr H) E (.inr I) F (λn P=>.inr (J n P)) Q (λs pre U A c V d=>(S s pre U A c V d trivial).mono ?_) T y (R _ y)) ?_
  ·rintro n W (b|⟨-,a3,b,-⟩)
   ·exact b
   ·exact b.elim
  ·rintro _ W ⟨h,rfl,Z,s,q⟩
   exact⟨⟨h,rfl⟩,.inl ⟨Z,s,_,q,rfl⟩⟩
 ·rintro s _ A ⟨e,g,v,x⟩ rfl hm
  refine⟨hm,λb1 ⟨z,a5⟩=>Ok.mk ⟨rfl,?_,?_⟩⟩
  ·rw[Ey]at e
   exact(e.fj z (λn P=>⟨.inl (.inr ⟨oM,oM⟩),by have:=k.size;omega⟩) λn P=>⟨.inl P,by rw[a5];exact e.lt n P⟩).mono λn P=>.inl (.inl (.inl (.inl P)))
  ·exact aj.new (aj.new (ai.keep (t.then j)) g λn a=>.inl λf=>a (.inl (.inl f))) z λn P=>.inr oM
end
def dP(D:ak)(n:Int):dw:=⟨n,[],0,iD D⟩
def told(D:ak):List Int:=(dF D).getD []
def gv(P:Nat)(n:pw):pw:=
 if n.no≠0 then n else
 if n.V.a_=[]then⟨(aH n.V n.D).1,n.out,(aH n.V n.D).2.1,(aH n.V n.D).2.2⟩else
 if n.V.a_.length<P then⟨(bw n.D n.V.a_).1,n.out,n.V,(bw n.D n.V.a_).2⟩else n
def aS(D:ak)(n:Int):pw:=gv (told D).length (cO (told D) [] (dP D n) D)
def UM(e b:World)(f:Nat)(c:UK)(n:pw)(g:Value)(P:World):Prop:=
 (n.no≠0/\g= .tuple #[.pointer none,.slice none 0 0,WP n.no]/\aY e P f n.D c/\aj (dW c) b P)\/
 (n.no=0/\∃d h i j G,g= .tuple #[RK d,.slice h i j,WP 0]/\aU wh 63 G P h i j n.out/\cI e P f d n.V n.D (λa=>c a\/G a)/\aj (dW c) b P/\(∀a,G a->b.heap.size<=a)/\b.heap.size<=d/\n.out.length<=16777216)
def I_{D:ak}{size:Int}(s:Laid b)(h:aY b k a D f):
  be 73 #[RK a,WP size] k (Ok (UM b k a f (aS D size))):=by
 have S:∀n,f n->n<k.heap.size:=by obtain⟨a0,h1,h2,h3,h4⟩:=h;exact h4
 have d1:=h.gr.size;obtain⟨a0,hF,-,-,-⟩:=id h;refine DG (PC.ok (JC (s.af h.gr) hF) ?_);rintro _ d ⟨rfl,F⟩;have T:=h.af F;have d2:=sA D.list;refine⟨_,rfl,PA.mk λw2 U s2 g2=>PC.ok ((T.af U).iY s.qg) ?_⟩;rintro _ t ⟨x,y,V,z,rfl,W,X,-,H⟩;have z1:=F.size;have z3:=H.size
 change aU aP 3 z t x y V (told D)at W
 have d3:(told D).length<=64:=EA;have b4:ai d t:=U.then H;refine⟨_,_,_,_,rfl,PA.mk λw4 k4 s4 g4=>PS.mk g4 sM λj k5 s5 Y=>⟨_,_,_,ae Y rfl,?_⟩⟩;have b5:j.heap[t.heap.size]? =some (.cells #[.slice x y V] 211 (0,0)):=Y;have I:ai t j:=k4.new k5 λn P=>.inr oM;have Z:ai d j:=b4.then I;have a8:ai k j:=F.then Z;have b6:=I.get (H.get g2 id) id;have a9:=W.af I
 let J:UK:=λn=>f n\/(z n\/n=t.heap.size)
 have b7:cI b j a d.heap.size (dP D size) D J:=by
  refine⟨(·=d.heap.size),T.fj Z (Y:=λ_=>False) (λn P=>P.elim) λn P=>?_,⟨⟨none,0,0,λ_=>False,b6,aU.nil j,λ_ h=>h.elim⟩,rfl,λn P=>oM,Qj _,?_⟩,λn P=>⟨oM,λE=>?_⟩⟩
  ·rcases P with(P|P|P)|P
   ·exact⟨.inl P,by have:=S n P;omega⟩
   ·exact⟨.inr (by have:=X n P;omega),a9.aF n P⟩
   ·exact⟨.inr oM,oM⟩
   ·exact⟨.inr oM,oM⟩
  ·show aM (tJ D.list);unfold aM;omega
  ·subst P
   rcases E with E|E|E
   ·have:=S _ E;omega
   ·have:=X _ E;omega
   ·omega
 have K:Row aP 8 j z x y (told D):=a9.row dC ce;refine PC.ok (SE s b7 K (λn P=>.inr (.inl P)) (by show 0+_<=_;omega)) ?_;rintro _ L ⟨a6,n6,c6,l,rfl,A,u,M,b8,b0⟩;have z5:=a8.size;have hq:k.heap.size<=d.heap.size:=z1;have N:aj (dW f) k L:=(ai.keep a8).then (M.mono λn _ P E=>P (.inl E));have g6:=M.get b5 λi=>i (.inr (.inr rfl));have b9:Row aP 8 L z x y (told D):=K.keep M λn P i=>i (.inr (.inl P));have d4:=K.len;show _;unfold aS;generalize cO (told D) [] (dP D size) D=e at A u b0;have b1:∀n,l n->k.heap.size<=n:=λn P=>by have:=b8 n P;omega
 refine⟨_,_,_,_,rfl,λno m=>∃o p,gv (told D).length e=⟨no,e.out,o,p⟩/\aU wh 63 l m a6 n6 c6 e.out/\cI b m a d.heap.size o p (λn=>f n\/l n)/\aj (dW f) k m,?_,?_⟩
 ·have c:∀{m o p},cI b m a d.heap.size o p (λn=>J n\/l n)->cI b m a d.heap.size o p (λn=>f n\/l n):=λh=>h.mono λn P=>P.imp .inl id
  refine al.eK (λq=>⟨e.V,e.D,by unfold gv;rw[Zx q],A,c u,N⟩) (λv=>?_);obtain⟨GL,c1,b2,c2⟩:=id u;obtain⟨aL,nL,cL,EL,O,b3,c4,c5⟩:=b2.row;refine⟨_,_,rfl,_,_,_,ae O rfl,al.eI (λhz=>?_) (λc7=>?_)⟩
  ·have Q:e.V.a_=[]:=QW oM
   refine PC.ok (Fu s u) ?_;rintro _ B ⟨rfl,r,g⟩;exact⟨_,rfl,_,_,by unfold gv;rw[Zq (by simpa using v),Zx Q],A.keep g λn P i=>i (.inr P),c r,N.then (g.mono λn _ P E=>P (.inl (.inl E)))⟩
  ·have q:¬e.V.a_=[]:=λa1=>c7 (by rw[c5,a1];rfl)
   refine⟨_,_,rfl,_,_,_,ae O rfl,_,_,_,ae g6 rfl,λB d7=>?_⟩;have g:ai L B:=d7.keep;have r:=u.af g;have C:=A.af g;have w:aj (dW f) k B:=N.af g;refine al.dec (λd5=>?_) (λd6=>⟨_,_,by unfold gv;rw[Zq (by simpa using v),Zq q,Zq oM],C,c r,w⟩);have c8:=g.get O id;refine⟨_,_,rfl,_,_,_,ae c8 rfl,PC.ok ((c1.af g).bw s.qg (b3.af g) (NQ b3) λn P=>.inr (.inr (c4 n P).1)) ?_⟩;rintro _ w8 ⟨rfl,c9,R⟩;have d0:cI b w8 a d.heap.size e.V (bw e.D e.V.a_).2 (λn=>J n\/l n):=⟨GL,c9,(b2.af g).keep R λn P i=>i (.inr P),c2⟩
   exact⟨_,rfl,_,_,by unfold gv;rw[Zq (by simpa using v),Zq q,Zx oM],C.keep R λn P i=>i (.inl (.inr P)),c d0,w.then (R.mono λn _ P E=>P (.inl (.inl (.inl E))))⟩
 ·rintro no _ B ⟨o,p,Q,C,r,w⟩
  rw[Q];refine al.eK (λq=>Ok.mk (.inl ⟨q,rfl,r.uO.mono λn P=>.inl P,w⟩)) (λv=>Ok.mk (.inr ⟨v,d.heap.size,a6,n6,c6,l,by rfl,C,r,w,b1,hq,b0⟩))
def eS(n:ah):Bool:=decide (64<n.aN.length)
def aE(P:dw)(D:ak)(a:List ah):Int×dw×ak:=
 if a.any eS then(3,P,D)else if a=[]then(0,P,D)else
 let n:=if P.size<=P.bytes then aH P D else(0,P,D)
 if n.1≠0 then n else
 let b:=n.2.2.append n.2.1.last (az a)
 if b.1≠0 then(b.1,n.2.1,b.2)else(0,⟨n.2.1.size,n.2.1.a_,PP .i64 (n.2.1.bytes+((az a).length:Nat)),n.2.1.next⟩,b.2)
def tK{D:ak}(n:(aH b3 D).1=0):(aH b3 D).2.1.a_≠[]:=by
 have c:∀P:ak,(lZ b3 P).1=0->(lZ b3 P).2.1.a_≠[]:=by
  intro P;unfold lZ;dsimp only;split
  ·rename_i a;intro n;exact Zz n a
  ·split
   ·rename_i a;intro n;exact Zz n a
   ·intro _;simp
 have b:∀P:ak,(bz b3 P).1=0->(bz b3 P).2.1.a_≠[]:=by
  intro P;unfold bz;dsimp only;split
  ·rename_i a;intro n;exact Zz n a
  ·exact c _
 revert n
 unfold aH;dsimp only;split
 ·exact b D
 ·split
  ·rename_i a;intro n;exact Zz n a
  ·exact b _
def Nw(n:l.Ok)(P:l.aN.length<=64):(om l).length<=675:=by
 have:=Fj n P;have a:=rp n P;unfold om at*;rw[fe];omega
def pt(n:List ah)(P:ah):az (n++[P])=az n++om P:=by simp[az]
def Mx{D:ak}{v b6:Nat}(V:Laid b)(u:cI b k a c b3 D f)(d1:b3.a_≠[])(hr:Row lb 96 k Z d v F)(d4:∀n,Z n->n<k.heap.size)(hl:F.length<=20000000):
  be 134 #[RK c,.slice d v b6] k (Ok (Fk b k a c f (aE b3 D F))):=by
 have z:=hr.len;have e9:=u.aF;refine sS ⟨λa4 K L W a5 w=>∃(g:Nat) (x:UK),a5=g/\g<=v/\a4=v-g/\(∀e∈F.take g,e.Ok/\e.aN.length<=64)/\(az (F.take g)).length<=675*g/\aU gw 5 x w K L W (az (F.take g))/\ai k w/\∀n,x n->k.heap.size<=n,
  ⟨_,0,λ_=>False,rfl,Qj _,rfl,sM,by simp[az],aU.nil k,aj.refl _,λ_ u=>u.elim⟩,?_⟩
 rintro a4 K L W a5 _ X ⟨g,x,rfl,hj,rfl,a7,d5,p,l,hF⟩;have a6:=p.len dC;refine al.dec (λd6=>?_) (λd7=>?_)
 ·obtain⟨n,a0,e,es,rfl,_,_,q,h,c0,n1,c1,rfl,hd,M⟩:=(hr.af l).Iq (i:=g) oM
  have m:=λi (hi:i<10)=>h i hi;refine⟨n,a0,rfl,oM,oM,_,_,_,_,_,_,_,_,_,_,_,_,m 0 dC,m 1 dC,m 2 dC,m 3 dC,m 4 dC,m 5 dC,m 6 dC,m 7 dC,m 8 dC,m 9 dC,PA.mk λA B s2 g2=>?_⟩;refine storeAll (aI e c0 n1 c1) g2 rfl λC r s3 o=>?_;have y:ai X C:=B.new r λn P=>.inr oM;refine⟨_,_,_,_,_,_,_,_,_,_,_,_,ae o rfl,ae o rfl,ae o rfl,ae o rfl,ae o rfl,ae o rfl,ae o rfl,ae o rfl,ae o rfl,ae o rfl,?_⟩;refine PC.ok (EC (V.af ((u.gr.then l).then y)) (hd.af y) M λn P=>by have:=d4 n P;have:=(l.then y).size;omega) ?_;rintro _ w4 ⟨c2,n4,f0,F4,rfl,s,t,b4⟩
  by_cases N:e.aN.length<=64
  ·have a8:=rp M N
   rw[a8]at s⊢;have f1:=Nw M N;refine⟨_,_,_,_,rfl,al.eK (λh=>Zz rfl h) (λ_=>?_)⟩;have a9:=y.then t;have c3:Row gw 1 w4 F4 c2 n4 (om e):=s.row (bytes:=1) dC (by unfold aR;dsimp only;omega);have f2:=a9.size;have f4:=y.size;refine Ay (p.af a9) tY c3 (λe=>s.OW e) (λn P=>⟨s.aF n P,λh=>by have:=p.aF n (p.self n h);have:=b4 n P;omega⟩) ce (by unfold maxLen;omega) λb5 c5 w5 F5 b0 d8 d9 _=>?_;have b1:F.take (g+1)=F.take g++[e]:=by rw[Qw,q];rfl
   refine⟨_,_,_,rfl,v-(g+1),oM,g+1,F5,aq oM,oM,rfl,?_,?_,?_,(l.then a9).new d8 λn P=>.inr (by have:=hF n (p.self n P);omega),?_⟩
   ·rw[b1]
    intro c4 a1;rcases Q6.1 a1 with Y|Y
    ·exact a7 c4 Y
    ·simp at Y;subst Y;exact⟨M,N⟩
   ·rw[b1,pt];simp;omega
   ·rw[b1,pt];exact b0
   ·intro n P
    have:=l.size;rcases d9 n P with Y|Y|Y
    ·exact hF n Y
    ·have:=b4 n Y;omega
    ·omega
  ·have a8:=yz N
   rw[a8]at s⊢;refine⟨_,_,_,_,rfl,al.eK (λ_=>?_) (λh=>Zz h dC)⟩;have c7:F.any eS=true:=List.any_eq_true.2 ⟨e,QZ q,by unfold eS;simp;omega⟩;refine Ok.mk ?_;rw[show aE b3 D F=(3,b3,D) by unfold aE;rw[Zx c7]];have b7:=(l.then y).then t;exact⟨rfl,u.af b7,ai.keep b7⟩
 ·obtain rfl:g=v:=oM
  rw[Qz oM]at a7 d5 p a6;have b8:F.any eS=false:=by
   rw[<-Bool.not_eq_true];intro h;obtain⟨e,he,h2⟩:=List.any_eq_true.1 h;have:=(a7 e he).2;unfold eS at h2;simp at h2;omega
  refine al.eI (λhz=>?_) (λe0=>?_)
  ·have he:F=[]:=QW oM
   refine Ok.mk ?_;rw[show aE b3 D F=(0,b3,D) by unfold aE;rw[Zq (by simp[b8]),Zx he]];exact⟨rfl,u.af l,ai.keep l⟩
  have e2:F≠[]:=λe=>e0 (by rw[z,e];rfl)
  let E:UK:=λn=>f n\/x n
  have b9:cI b X a c b3 D E:=u.add l λn P=>⟨hF n P,p.aF n P⟩
  have d2:aE b3 D F=if(if b3.size<=b3.bytes then aH b3 D else(0,b3,D)).1≠0 then(if b3.size<=b3.bytes then aH b3 D else(0,b3,D))else
    if((if b3.size<=b3.bytes then aH b3 D else(0,b3,D)).2.2.append (if b3.size<=b3.bytes then aH b3 D else(0,b3,D)).2.1.last (az F)).1≠0 then(((if b3.size<=b3.bytes then aH b3 D else(0,b3,D)).2.2.append (if b3.size<=b3.bytes then aH b3 D else(0,b3,D)).2.1.last (az F)).1,(if b3.size<=b3.bytes then aH b3 D else(0,b3,D)).2.1,((if b3.size<=b3.bytes then aH b3 D else(0,b3,D)).2.2.append (if b3.size<=b3.bytes then aH b3 D else(0,b3,D)).2.1.last (az F)).2)
    else(0,⟨(if b3.size<=b3.bytes then aH b3 D else(0,b3,D)).2.1.size,(if b3.size<=b3.bytes then aH b3 D else(0,b3,D)).2.1.a_,PP .i64 ((if b3.size<=b3.bytes then aH b3 D else(0,b3,D)).2.1.bytes+((az F).length:Nat)),(if b3.size<=b3.bytes then aH b3 D else(0,b3,D)).2.1.next⟩,((if b3.size<=b3.bytes then aH b3 D else(0,b3,D)).2.2.append (if b3.size<=b3.bytes then aH b3 D else(0,b3,D)).2.1.last (az F)).2):=by
   unfold aE;rw[Zq (by simp[b8]),Zq e2]
  obtain⟨GL,f5,e3,f6⟩:=id b9;obtain⟨aL,nL,cL,EL,gL,f8,g0,g1⟩:=e3.row;rw[d2];refine⟨λw=>∃H O,(if b3.size<=b3.bytes then aH b3 D else(0,b3,D))=(0,H,O)/\H.a_≠[]/\cI b w a c H O E/\aj (dW f) k w/\aU gw 5 x w K L W (az F),?_,?_⟩
  ·refine⟨c,0,rfl,_,ae gL rfl,c,0,rfl,_,ae gL rfl,λA d3=>?_⟩
   have B:ai X A:=d3.keep;have Q:=b9.af B;have R:=p.af B;have S:aj (dW f) k A:=ai.keep (l.then B);refine al.dec (λd7=>?_) (λd6=>⟨b3,D,by rw[Zq oM],d1,Q,S,R⟩);refine PC.ok (Fu V Q) ?_;rintro _ C ⟨rfl,I,r⟩;have c6:aj (dW f) k C:=S.then (r.mono λn _ P q=>P (.inl q));have a2:(if b3.size<=b3.bytes then aH b3 D else(0,b3,D))=aH b3 D:=Zx oM;rw[a2];refine⟨_,rfl,al.eK (λa3=>?_) (λT=>⟨_,_,by rw[<-T],tK T,I,c6,R.keep r λn P z=>z (.inr P)⟩)⟩;rw[Zx a3];exact Ok.mk ⟨rfl,I.mono λn P=>.inl P,c6⟩
  ·rintro _ A ⟨H,O,a2,e1,Q,S,R⟩ C e4
   rw[a2];have r:ai A C:=e4.keep;have I:=Q.af r;have e5:=R.af r;obtain⟨G3,e6,U,J⟩:=id I;obtain⟨f3,n3,f7,E3,e7,-,-,-⟩:=U.row;refine⟨λn=>n≠c,c,0,rfl,λhs=>hs rfl,_,ae e7 rfl,PC.ok (JD (V.af I.gr) U e1) ?_⟩;rintro _ w4 ⟨rfl,t⟩;have s:=e5.af t;have e8:Row gw 1 w4 x K L (az F):=s.row (bytes:=1) dC ce;refine⟨_,rfl,t.keep,PC.ok ((e6.af t).append e8 (λe=>s.OW e) λn P=>.inr (.inl (.inr P))) ?_⟩;rintro _ w5 ⟨rfl,b2,k5⟩;have j:=(U.af t).keep k5 λn P z=>z (.inr P);have c8:aj (dW f) k w5:=((S.af r).af t).then (k5.mono λn _ P q=>P (.inl (.inl q)));refine⟨_,rfl,k5.mono λn _ P e=>P (.inr (e▸U.self)),?_⟩;rw[Zq (λh:((0,H,O):Int×dw×ak).1≠0=>h rfl)];refine al.eK (λa3=>?_) (λT=>?_)
   ·rw[Zx a3]
    exact Ok.mk ⟨rfl,cI.mono (X:=E) ⟨G3,b2,j,J⟩ λn P=>.inl P,c8⟩
   ·rw[Zq (by simpa using T)]
    obtain⟨b5,n5,c5,E5,c9,b0,d0⟩:=j.body;refine⟨c,0,rfl,_,ae c9 rfl,c,0,rfl,PS.mk c9 sM λw6 k6 s6 g6=>Ok.mk ⟨rfl,?_,c8.then (k6.mono λn _ P q=>(J n (P▸j.self)).2 (.inl q))⟩⟩;rw[a6]at g6;refine cI.mono (X:=E) ⟨G3,b2.fj k6 (λn P=>⟨.inr (P▸j.self),(J n (P▸j.self)).1⟩) (λn P=>⟨.inl P,by have:=(P.elim (cI.aF (X:=E) ⟨G3,b2,j,J⟩ n) (j.aF n):n<w5.heap.size);omega⟩),⟨⟨b5,n5,c5,E5,g6,b0.keep k6 λn P e=>(d0 n P).2 e,d0⟩,j.self,λn P=>by have:=j.aF n P;omega,j.many,j.BL⟩,J⟩ λn P=>.inl P
def dT(n:List UInt8):bO:=⟨n,n.length,true⟩
structure cg (D:ak):Prop where
 dead:D.dead=false
 jz:D.jz=false
section
variable {D E:ak} {k:ByteArray} {l:List Int}
def rq(D:ak)(n:ak->Int×ak):D.op n=(15,D.gone)\/D.op n=n D.cT:=by
 unfold ak.op;split
 ·exact .inl rfl
 ·exact .inr rfl
def cg.op(P:cg D)(n:ak->Int×ak):D.op n=n D:=by
 unfold ak.op ak.dies ak.cT;rw[P.dead,P.jz]
 rfl
def cg.same(n:cg D)(P:E.dead=D.dead)(a:E.jz=D.jz):cg E:=⟨P.trans n.dead,a.trans n.jz⟩
def RU(n:bO):n.cut n.bytes.length=dT n.bytes:=by
 have P:iq (n.bytes.length:Int) n.bytes.length=n.bytes.length:=by unfold iq;omega
 simp[bO.cut,P,dT]
def jM(D:ak)(k:ByteArray):((D.create k).1≠0/\(D.create k).2.files=D.files)\/((D.create k).1=0/\cU k=true/\an D.files k=none/\(D.create k).2.files=aJ D.files k ⟨[],0,false⟩):=by
 unfold ak.create;rcases rq D λD=>if cU k then(if(an D.files k).isSome then(16,D)else if 64<=D.files.length then(12,D)else(0,D.fy k ⟨[],0,false⟩))else(1,D)with h|h
 ·rw[h];exact .inl ⟨sM,rfl⟩
 ·rw[h]
  have n:=dU D;split
  ·rename_i P
   split
   ·exact .inl ⟨sM,n⟩
   ·split
    ·exact .inl ⟨sM,n⟩
    ·rename_i a _
     refine .inr ⟨rfl,P,?_,?_⟩
     ·rw[<-n];simpa using a
     ·show aJ D.cT.files k _=_;rw[n]
  ·exact .inl ⟨sM,n⟩
def cg.create(n:cg D)(k:ByteArray):cg (D.create k).2/\(cU k=true->an D.files k=none->(D.create k).1=0\/(D.create k).1=12):=by
 unfold ak.create;rw[n.op];split
 ·split
  ·rename_i c a;exact⟨n,λ_ P=>by rw[P]at a;cases a⟩
  ·split
   ·exact⟨n,λ_ _=>.inr rfl⟩
   ·exact⟨n.same rfl rfl,λ_ _=>.inl rfl⟩
 ·rename_i P;exact⟨n,λb=>Zz b P⟩
def vV(D:ak)(k:ByteArray)(n:ak->bO->Int×ak):((D.op (ak.yB k n)).1≠0/\(D.op (ak.yB k n)).2.files=D.files)\/∃P,an D.files k=some P/\D.op (ak.yB k n)=n D.cT P:=by
 rcases rq D (ak.yB k n)with h|h
 ·rw[h];exact .inl ⟨sM,rfl⟩
 ·rw[h]
  unfold ak.yB;rw[dU];split
  ·exact .inl ⟨sM,dU D⟩
  ·rename_i P a;exact .inr ⟨P,a,rfl⟩
def cg.on(P:cg D)(a:an D.files k=some W)(n:ak->bO->Int×ak):D.op (ak.yB k n)=n D W:=by
 rw[P.op];unfold ak.yB;rw[a]
def cg.Zp(n:cg D)(P:∀a,cg (g4 D a).2):cg (D.op (ak.yB k g4)).2:=by
 rw[n.op];unfold ak.yB;split
 ·exact n
 ·exact P _
def lJ(D:ak)(k:ByteArray)(P:List UInt8):((D.append k P).1≠0/\(D.append k P).2.files=D.files)\/((D.append k P).1=0/\∃n,an D.files k=some n/\(D.append k P).2.files=aJ D.files k {n with bytes:=n.bytes++P}):=by
 unfold ak.append;rcases vV D k λD n=>if(P.length:Int)>D.room then(12,D)else(0,D.fy k {n with bytes:=n.bytes++P})with a|⟨n,b,a⟩
 ·exact .inl a
 ·rw[a]
  split
  ·exact .inl ⟨sM,dU D⟩
  ·exact .inr ⟨rfl,n,b,by show aJ D.cT.files k _=_;rw[dU]⟩
def cg.append(n:cg D)(k:ByteArray)(P:List UInt8):cg (D.append k P).2/\∀a,an D.files k=some a->(D.append k P).1=0\/(D.append k P).1=12:=by
 refine⟨?_,λa b=>?_⟩
 ·unfold ak.append
  refine n.Zp λa=>?_;split
  ·exact n
  ·exact n.same rfl rfl
 ·unfold ak.append
  rw[n.on b];split
  ·exact .inr rfl
  ·exact .inl rfl
def lK(D:ak)(k:ByteArray):((D.sync k).1≠0/\(D.sync k).2.files=D.files)\/((D.sync k).1=0/\∃n,an D.files k=some n/\(D.sync k).2.files=aJ D.files k (dT n.bytes)):=by
 unfold ak.sync;rcases vV D k λD n=>(0,D.fy k (n.cut n.bytes.length))with P|⟨n,a,P⟩
 ·exact .inl P
 ·rw[P,RU];exact .inr ⟨rfl,n,a,by show aJ D.cT.files k _=_;rw[dU]⟩
def cg.sync(n:cg D)(k:ByteArray):cg (D.sync k).2/\∀P,an D.files k=some P->(D.sync k).1=0:=by
 refine⟨?_,λP a=>?_⟩
 ·unfold ak.sync;exact n.Zp λP=>n.same rfl rfl
 ·unfold ak.sync;rw[n.on a]
def cg.ou(P:cg D)(a:an D.files k=some W)(n:Int):(D.ou k n).1=0/\(D.ou k n).2=D.fy k (W.cut n)/\cg (D.ou k n).2:=by
 unfold ak.ou;rw[P.on a];exact⟨rfl,rfl,P.same rfl rfl⟩
def jH(D:ak)(k:ByteArray):(D.delete k).2.files=D.files\/(D.delete k).2.files=bK D.files k:=by
 unfold ak.delete;rcases vV D k λD P=>(0,D.vW k)with n|⟨P,a,n⟩
 ·exact .inl n.2
 ·rw[n];exact .inr (by show bK D.cT.files k=_;rw[dU])
def cg.delete(n:cg D)(k:ByteArray):cg (D.delete k).2/\((D.delete k).2.files=bK D.files k\/(an D.files k=none/\(D.delete k).2.files=D.files)):=by
 unfold ak.delete;refine⟨n.Zp λa=>n.same rfl rfl,?_⟩;rw[n.op];unfold ak.yB;split
 ·rename_i P;exact .inr ⟨P,rfl⟩
 ·exact .inl rfl
def uf(k:ByteArray)(D E:ak):Prop:=Tidy E.files/\∀n,n≠k->an E.files n=an D.files n
def uf.refl(n:Tidy D.files):uf k D D:=⟨n,λ_ _=>rfl⟩
def uf.of(n:uf k D E){P:ak}(a:P.files=E.files):uf k D P:=⟨by rw[a];exact n.1,λb c=>by rw[a];exact n.2 b c⟩
def uf.put(n:uf k D E){P:ak}(a:P.files=aJ E.files k W):uf k D P:=⟨by rw[a];exact n.1.aJ _ _,λc b=>by rw[a,bl,Zq (by simpa using b)];exact n.2 c b⟩
def uf.del(n:uf k D E){F:ak}(P:F.files=bK E.files k):uf k D F:=⟨by rw[P];exact n.1.bK _,λb a=>by rw[P,gu n.1,Zq (by simpa using a)];exact n.2 b a⟩
def uf.clean(n:uf aO D E):uf aO D (dR E).2:=by
 unfold dR;split
 ·rcases jH E aO with e|e
  ·exact n.of e
  ·exact n.del e
 ·exact n
def Nv:aO≠bZ:=λn=>by have:=tn;rw[n]at this;simp at this
def Uh(D:ak)(l:List Int)(n:Int×ak):Prop:=(n.1≠0/\uf aO D n.2)\/
  (n.1=0/\l.length<=64/\Tidy n.2.files/\an n.2.files bZ=some (dT (bQ l))/\∀P,P≠aO->P≠bZ->an n.2.files P=an D.files P)
def Uh.step{P k:Nat}{r:Int×ak}(g:gH l P E=r)(a:r.1≠0->uf aO D r.2)(b:r.1=0->Uh D l (kN l (P+1) k r.2)):Uh D l (kN l P (k+1) E):=by
 rw[kN,g];split
 ·rename_i n;exact .inl ⟨n,(a n).clean⟩
 ·rename_i n;exact b (by simpa using n)
def Lz(o:Tidy D.files)(l:List Int):Uh D l (bw D l):=by
 unfold bw;split
 ·exact .inl ⟨sM,uf.refl o⟩
 rename_i z;have h:uf aO D (dR D).2:=(uf.refl o).clean;refine Uh.step (r:=dR D) rfl (λ_=>h) λ_=>?_;generalize(dR D).2=d at h;have B:=jM d aO;refine Uh.step (r:=d.create aO) rfl (λc=>?_) λu=>?_
 ·rcases B with B|B
  ·exact h.of B.2
  ·exact Zz B.1 c
 rcases B with B|⟨_,_,_,B⟩
 ·exact Zz u B.1
 have j:uf aO D (d.create aO).2:=h.put B;have p:an (d.create aO).2.files aO=some ⟨[],0,false⟩:=by rw[B,bl];simp
 generalize(d.create aO).2=e at j p;have a:=lJ e aO (bQ l);refine Uh.step (r:=e.append aO (bQ l)) rfl (λc=>?_) λv=>?_
 ·rcases a with a|a
  ·exact j.of a.2
  ·exact Zz a.1 c
 rcases a with a|⟨_,i,b,a⟩
 ·exact Zz v a.1
 rw[p]at b;cases b
 have k:uf aO D (e.append aO (bQ l)).2:=j.put a;have q:an (e.append aO (bQ l)).2.files aO=some ⟨bQ l,0,false⟩:=by rw[a,bl];simp
 generalize(e.append aO (bQ l)).2=f at k q;have F:=lK f aO;refine Uh.step (r:=f.sync aO) rfl (λc=>?_) λw=>?_
 ·rcases F with F|F
  ·exact k.of F.2
  ·exact Zz F.1 c
 rcases F with F|⟨_,i,b,F⟩
 ·exact Zz w F.1
 rw[q]at b;cases b
 have g:uf aO D (f.sync aO).2:=k.put F;have r:an (f.sync aO).2.files aO=some (dT (bQ l)):=by rw[F,bl];simp
 generalize(f.sync aO).2=n at g r;have P:((n.rename aO bZ).1≠0/\(n.rename aO bZ).2.files=n.files)\/((n.rename aO bZ).1=0/\(n.rename aO bZ).2.files=aJ (bK n.files aO) bZ (dT (bQ l))):=by
  unfold ak.rename;rcases vV n aO λD i=>if cU bZ then(0,(D.vW aO).fy bZ {i with jP:=true})else(1,D)with m|⟨i,b,m⟩
  ·exact .inl m
  ·rw[m,Zx Jd]
   rw[r]at b;cases b
   exact .inr ⟨rfl,by show aJ (bK n.cT.files aO) bZ _=_;rw[dU];rfl⟩
 refine Uh.step (r:=n.rename aO bZ) rfl (λc=>?_) λx=>?_
 ·rcases P with P|P
  ·exact g.of P.2
  ·exact Zz P.1 c
 rcases P with P|⟨_,P⟩
 ·exact Zz x P.1
 refine .inr ⟨rfl,oM,?_,?_,λs t y=>?_⟩
 ·show Tidy (n.rename aO bZ).2.files;rw[P];exact(g.1.bK _).aJ _ _
 ·show an (n.rename aO bZ).2.files bZ=_;rw[P,bl];simp
 ·show an (n.rename aO bZ).2.files s=_
  rw[P,bl,Zq (by simpa using y),gu g.1,Zq (by simpa using t)];exact g.2 s t
def Ui(n:Int×ak):Prop:=cg n.2/\(n.1=0\/n.1=3\/n.1=12)
def cg.clean(n:cg D):cg (dR D).2:=by
 unfold dR;split
 ·exact(n.delete _).1
 ·exact n
def LY(a:cg D)(n:Tidy D.files):(dR D).1=0/\an (dR D).2.files aO=none/\Tidy (dR D).2.files:=by
 unfold dR;split
 ·rename_i P
  obtain⟨d,b⟩:=Option.isSome_iff_exists.1 P;have c:D.delete aO=(0,D.vW aO):=by unfold ak.delete;rw[a.on b]
  rw[c];exact⟨rfl,by show an (bK _ _) _=_;rw[gu n];simp,n.bK _⟩
 ·rename_i P;exact⟨rfl,by simpa using P,n⟩
def Ui.step{n k:Nat}{r:Int×ak}(g:gH l n E=r)(P:cg r.2)(a:r.1=0\/r.1=3\/r.1=12)(b:r.1=0->Ui (kN l (n+1) k r.2)):Ui (kN l n (k+1) E):=by
 rw[kN,g];split
 ·exact⟨P.clean,a⟩
 ·rename_i c;exact b (by simpa using c)
def cg.bw(h:cg D)(s:Tidy D.files)(l:List Int):Ui (bw D l):=by
 unfold Go.Proofs.YtjgjkeponbeekaaGreatDoor.bw;split
 ·exact⟨h,.inr (.inl rfl)⟩
 obtain⟨z1,p,t⟩:=LY h s;have i:=h.clean;refine Ui.step (r:=dR D) rfl i (.inl z1) λ_=>?_;generalize(dR D).2=d at i p t;have n:=jM d aO;obtain⟨j,u⟩:=i.create aO;refine Ui.step (r:=d.create aO) rfl j ((u Uj p).imp id .inr) λv=>?_;rcases n with n|⟨_,_,_,n⟩
 ·exact Zz v n.1
 have q:an (d.create aO).2.files aO=some ⟨[],0,false⟩:=by rw[n,bl];simp
 generalize(d.create aO).2=e at j q;have P:=lJ e aO (bQ l);obtain⟨k,w⟩:=j.append aO (bQ l);refine Ui.step (r:=e.append aO (bQ l)) rfl k ((w _ q).imp id .inr) λx=>?_;rcases P with P|⟨_,a,A,P⟩
 ·exact Zz x P.1
 have f:∃a,an (e.append aO (bQ l)).2.files aO=some a:=by rw[P,bl];simp
 generalize(e.append aO (bQ l)).2=g at k f;obtain⟨B,f⟩:=f;have b:=lK g aO;obtain⟨c,y⟩:=k.sync aO;refine Ui.step (r:=g.sync aO) rfl c (.inl (y _ f)) λz=>?_;rcases b with b|⟨_,a,C,b⟩
 ·exact Zz z b.1
 have r:an (g.sync aO).2.files aO=some (dT a.bytes):=by rw[b,bl];simp
 generalize(g.sync aO).2=m at c r;have o:m.rename aO bZ=(0,(m.vW aO).fy bZ {dT a.bytes with jP:=true}):=by
  unfold ak.rename;rw[c.on r,Zx Jd]
 refine Ui.step (r:=m.rename aO bZ) rfl (by rw[o];exact c.same rfl rfl) (.inl (by rw[o])) λE=>?_;rw[o];exact⟨c.same rfl rfl,.inl rfl⟩
def O_{l:List (ByteArray×bO)}(a:Tidy l)(b:bO->Bool)(d:bO->bO)(k:ByteArray):
  an ((l.filter λn=>b n.2).map λn=>(n.1,d n.2)) k=(an l k).bind λf=>if b f then some (d f)else none:=by
 induction l with
 |nil=>rfl
 |cons j l e=>
  obtain⟨n,g⟩:=j;unfold Tidy at a e;simp only[QY,List.nodup_cons]at a;rw[List.filter_cons]
  by_cases h:(k==n)=true
  ·have m:k=n:=eq_of_beq h
   subst m;have o:an ((l.filter λn=>b n.2).map λn=>(n.1,d n.2)) k=none:=by
    rw[jJ];intro i;apply a.1;simp only[List.map_map,Xk,List.mem_filter]at i⊢;obtain⟨p,⟨q,_⟩,r⟩:=i;exact⟨p,q,r⟩
   by_cases P:b g=true
   ·simp[P,an]
   ·rw[Zq (by simpa using P),o];simp[P,an]
  ·have c:(k==n)=false:=by simpa using h
   by_cases P:b g=true
   ·simp only[P,if_true,QY,an,c,Bool.false_eq_true,if_false]
    exact e a.2
   ·rw[Zq (by simpa using P)]
    simp only[an,c,Bool.false_eq_true,if_false];exact e a.2
def EF(a:Tidy D.files)(P:Int)(k:ByteArray):an (D.ey P).files k=(an D.files k).bind λn=>if n.jP then some (tk P n)else none:=
 O_ a (λn=>n.jP) (tk P) k
def LZ(a:Tidy D.files)(P:Int):Tidy (D.ey P).files:=by
 show(((D.files.filter λn=>n.2.jP).map λn=>(n.1,tk P n.2)).map (·.1)).Nodup;rw[List.map_map];exact(rr a λn=>n.2.jP)
def Je(D:ak)(n:Int):cg (D.ey n):=⟨rfl,rfl⟩
def EG(P:Int)(n:List UInt8)(c:a<=n.length):∃b,a<=b/\b<=n.length/\tk P ⟨n,a,true⟩=dT (n.take b):=by
 refine⟨iq (GW P ⟨n,a,true⟩) n.length,?_,ow _ _,?_⟩
 ·unfold iq GW;simp only;omega
 ·have:=ow (GW P ⟨n,a,true⟩) n.length
  unfold tk bO.cut dT;simp only[Qy,X2 this]
def uM(P:Tidy D.files)(n:Int){k:ByteArray}(a:an D.files k=some (dT u)):an (D.ey n).files k=some (dT u):=by
 rw[EF P,a];obtain⟨c,d,e,b⟩:=EG n u (Q4 _);show(if true then some (tk n ⟨u,u.length,true⟩)else none)=_;rw[b,Qz oM];rfl

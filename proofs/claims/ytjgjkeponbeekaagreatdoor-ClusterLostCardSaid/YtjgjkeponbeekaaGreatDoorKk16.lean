import Derived.Test.YtjgjkeponbeekaaGreatDoorKk15
set_option maxHeartbeats 4000000
set_option linter.all false
set_option maxRecDepth 100000
open Go.IntKind renaming wrap→ZG
namespace Go.Proofs.YtjgjkeponbeekaaGreatDoor
open Go.aw
variable{Y m:Array Value}{z:FuncId}{R c1 e q:Int}{d4:Int×Int}{H f5:List ah}{a c:Nat}{X a1:Operand}{d x:WP}{h:Program}{g p:TypeId}{b:World}{N l:ah}{B:au}
def XS(n:Ke h g p):(do eqGuard .eql g X a1 (.agg #[ZH e,ZH q]) (.agg #[ZH R,ZH c1]);binOp .eql g (.agg #[ZH e,ZH q]) (.agg #[ZH R,ZH c1]):Sem Value).run h b= .ok (.bool (e==R&&q==c1)) b:=by
 rw[Sem.run_bind,run_eqGuard_agg b .eql _ X a1 _ _ n.hm,Result.andThen_ok,run_eql_struct];have:=n.equalIn 9998 (e,q) (R,c1) b;unfold pU at this;rw[this];rfl
section
variable {w w':World} {p:Nat} {F T D:ZN} {d:aS} {every:Nat} {l l2:List ah}
def HB(U:c_ w p F d every l)(V:fw b)(J:ai b w)(K:∀P,F P->b.heap.size<=P){L:WP}(M:Row ku 96 w D L a l2)(e2:a<=c)(z:∀P,D P->P<w.heap.size/\¬F P)(e3:l2.length<=20000000)(b2:∀(W:Nat) (g j:ah),l[W]? =some g->l2[W]? =some j->bd g=bd j->g=j):
  PP 75 #[ZL p,.slice L a c] w (Ok λb3 w'=>∃A:Int,b3= ZH A/\∃h,c_ w' p h d every l2/\cu F w h w'):=by
 have hn:=M.len;have X:=U;obtain⟨⟨h1,h2,h3,h4⟩,e0,b6,e4,B⟩:=U;have e5:=aV.len (B.at' 2) dC;have e6:=B.aE;refine qz ⟨λi w'=>∃n:Nat,i=n/\n<=l.length/\n<=l2.length/\l.take n=l2.take n/\ai w w',?_,?_⟩
 ·refine⟨λe i w'=>∃n:Nat,i=n/\n<=l.length/\n<=l2.length/\e=l.length-n/\l.take n=l2.take n/\ai w w',⟨_,0,rfl,Qj _,Qj _,rfl,rfl,aj.refl _⟩,?_⟩
  rintro e _ _ w9 ⟨n,rfl,Y,Z,rfl,m,t⟩;have h9:=eu.af B t;have a4:=h9.bw;refine⟨p,0,rfl,_,_,_,ae a4 rfl,al.dec (λN=>?_) (λa5 c1 C=>⟨n,rfl,Y,Z,m,t.then C.keep⟩)⟩;have a6:n<l.length/\n<l2.length:=by split at N<;>omega
  have k:l[n]? =some l[n]:=Qq a6.1;have E:l2[n]? =some l2[n]:=Qq a6.2;generalize l[n]=g at k;generalize l2[n]=j at E;obtain⟨P,o,es,O,c2,c3,H,ya,yn,yc,rfl,e7,e1⟩:=(M.af t).el n j E;obtain⟨b7,o2,e8,c4,e9,f0,a0,u,v,x,rfl,a7,a1⟩:=(aV.row (bytes:=96) (h9.at' 2) dC ba).el n g k;have y0:=H 0 dC;have y1:=H 1 dC;have x0:=a0 0 dC;have x1:=a0 1 dC;refine⟨P,o,O,oM,oM,_,_,y0,y1,p,0,rfl,_,_,_,ae a4 rfl,b7,o2,c4,oM,oM,_,_,x0,x1,(j.origin==g.origin&&j.seq==g.seq),λe=>XS MD,λc1 C=>al.mk (λQ=>⟨_,?_,n+1,an oM,oM,oM,rfl,?_,t.then C.keep⟩) (λ_=>⟨n,rfl,Y,Z,m,t.then C.keep⟩)⟩
  ·omega
  ·simp only[QK,beq_iff_eq]at Q
   have c5:=b2 n g j k E (by simp[bd,Q.1,Q.2]);rw[Qw,Qw,m,k,E,c5]
 rintro _ _ f1 ⟨i,rfl,c6,c7,m,q⟩;have c8:=eu.af B q;have b9:=c8.bw;have f2:=q.size;refine⟨λw'=>∃e h,e<=l2.length/\c_ w' p h d every (l2.take e)/\cu F w h w',⟨p,0,rfl,_,_,_,ae b9 rfl,al.dec (λN=>?_) (λa5=>?_)⟩,?_⟩
 ·refine PC.ok (NK (X.af q) V (J.then q) K c6) ?_
  rintro _ f3 ⟨rfl,h,R,a9⟩;have b0:i/every*every<=i:=Nat.div_mul_le_self ..;refine⟨rfl,_,h,Xx b0 c7,?_,(ai.keep q).then a9.keep,λP f=>(a9.new P f).imp id oM⟩;have:l.take (i/every*every)=l2.take (i/every*every):=by
   have:=Zj (List.take (i/every*every)) m
   rwa [List.take_take,List.take_take,X2 b0]at this
  rw[<-this];exact R
 ·have c9:i=l.length:=oM
  refine⟨l.length,F,oM,?_,ai.keep q,λP f=>.inl f⟩;rw[c9,List.take_length]at m;rw[<-m];exact X.af q
 rintro _ f4 ⟨e,F1,hm,b1,a2⟩;have c0:=b1;obtain⟨-,q1,f5,f6,b4⟩:=b1;have a3:=aV.len (b4.at' 2) dC;rw[Qy,X2 hm]at a3;have f7:=a2.keep.size;refine⟨p,0,rfl,_,_,_,ae b4.bw rfl,oM,oM,?_⟩;rw[Qx,a3];refine⟨λA s w'=>∃(n:Nat) (h:ZN),s=n/\n<=a-e/\A=a-e-n/\c_ w' p h d every (l2.take (e+n))/\cu F w h w',⟨_,0,F1,rfl,Qj _,rfl,c0,a2⟩,?_⟩;rintro A _ _ b5 ⟨n,S,rfl,hj,rfl,T,r⟩;refine al.dec (λN=>?_) (λa5=>?_)
 ·have d0:e+n<l2.length:=oM
  have k:l2[e+n]? =some l2[e+n]:=Qq d0;generalize l2[e+n]=g at k;have d1:=M.keep r.keep λP f=>(z P f).2;obtain⟨P,o,es,O,c2,c3,H,u,v,x,rfl,a7,a1⟩:=d1.el (e+n) g k;have d2:dd L e c 10=some ⟨P,o+e*10,none⟩:=by rw[O];exact gh oM
  have f8:=r.keep.size;refine⟨P,o+e*10,d2,oM,oM,ck (es:=aH g u v x) (k:=10) (bg g u v x) rfl (λs ht=>by rw[Qx];have:=H s ht;rw[show o+e*10+n*10+s=o+(e+n)*ku.k+s by show _=o+(e+n)*10+s;omega];exact this) (PA.mk λg1 d3 g2 d4=>aC (bg g u v x) d4 rfl λb8 d5 g3 d6=>ar (bg g u v x) d6 ?_)⟩;have I:ai b5 b8:=d3.new d5 λP f=>.inr (by have f:P=b5.heap.size:=f;omega);have a8:cu F w S b8:=⟨r.keep.af I,r.new⟩
  have d7:∀P,D P->¬S P:=λP f hf=>by
   rcases r.new P hf with y|y
   ·exact(z P f).2 y
   ·have:=(z P f).1;omega
  refine PC.ok (P_ (T.af I) V (J.new a8.keep λP f=>.inr (K P f)) (λP f=>?_) (by rw[Qy];omega) (a7.af I) (λP f=>⟨by have:=(z P f).1;have:=I.size;omega,d7 P f⟩) a1) ?_
  ·rcases r.new P f with y|y
   ·exact K P y
   ·have:=J.size;omega
  rintro _ g4 ⟨rfl,F3,d8,d9⟩;refine⟨rfl,_,?_,n+1,F3,an oM,oM,rfl,?_,a8.trans d9⟩
  ·omega
  ·rw[show e+(n+1)=e+n+1 by omega,Qw,k];exact d8
 ·rw[Qz oM]at T
  exact Ok.mk ⟨_,rfl,S,T,r⟩
end
section
variable {w w':World} {p:Nat} {F T D:ZN} {d:aS} {every:Nat} {l l2:List ah}
def Qb{d:aS}{ta pa:WP}{tn tc pn pc:Nat}{ev:Int}(m:dj d=0)(g9:aM ev)(hT:fw w)(o:bt w D d ta tn pa pn)(hD:∀n,D n->n<w.heap.size):
  PP 72 #[.agg #[.slice ta tn tc,.slice pa pn pc],ZH ev] w (Ok λe3 w'=>∃p F,e3= ZL p/\c_ w' p F d (max 1 ev).toNat []/\(∀n,F n->w.heap.size<=n)/\ai w w'):=by
 have h0:=o.aZ.len;have X:=o.aZ.fj;have h3:=o.FG.len;have h4:=o.FG.fj;have e6:d.projs.length<=8:=(Ax (ny m).1).2.2.1;obtain⟨every,e7⟩:∃every:Nat,every=(max 1 ev).toNat:=⟨_,rfl⟩
 have e8:(if ev>1 then ev else 1)=(every:Int):=by split<;>omega
 have c0:0<every/\every<9223372036854775808:=by unfold aM at g9;omega
 rw[<-e7];refine FI ?_;refine PA.mk λw1 k1 s1 g1=>⟨_,_,_,ae g1 rfl,PC.ok (qA (o.FG.af k1) λn B=>by have:=hD n B;omega) ?_⟩
 rintro _ P ⟨h,f,v,x,rfl,Y,k8,h5⟩;have z8:=k8.size;refine⟨_,_,_,rfl,PA.mk λc1 Z k9 d8=>?_⟩;rw[e8]at d8;have e9:ai w c1:=(k1.then k8).then Z;have ga:=Z.get (k8.get g1 id) id;have l0:=Z.size;refine⟨_,_,_,ae ga rfl,λq I w'=>∃a:Nat,I=a/\a<=tn/\q=tn-a/\aj (·=P.heap.size) c1 w'/\∃r s J j,w'.heap[P.heap.size]? =some (.cells #[.slice r s J,.slice h f v,ZH (every:Int),.slice none 0 0,.pointer none,.slice none 0 0,.slice none 0 0] 202 (0,0))/\aV nB 118 j w' r s J (d.types.take a)/\∀n,j n->c1.heap.size<=n,
  ⟨_,0,rfl,Qj _,rfl,aj.refl _,none,0,0,λ_=>False,d8,aV.nil _,λ_ o=>o.elim⟩,?_⟩
 rintro q _ _ y ⟨a,rfl,hj,rfl,kk,r,s,J,j,K,t,L⟩;have a7:ai w y:=e9.new kk λn B=>.inr oM;have zk:=kk.size;refine al.dec (λl4=>?_) (λl5=>?_)
 ·have e0:a<d.types.length:=oM
  obtain⟨n,a4,es,ha,B,h6,f0,fa,fn,fc,rfl,a8⟩:=(o.aZ.af a7).el a d.types[a] (by simp[e0]);have e1:d.types[a]? =some d.types[a]:=Qq e0;generalize d.types[a]=a0 at a8 e1;have c2:=f0 0 dC;have h7:nB.k=1:=rfl;rw[h7,Nat.mul_one]at c2;refine⟨n,a4,ha,oM,oM,fa,fn,fc,by rw[Qx];exact c2,PA.mk λl6 h8 l7 h9=>PS.mk h9 sM λe2 i0 l8 i1=>⟨_,_,_,ae i1 rfl,?_⟩⟩;have a1:ai y e2:=h8.new i0 λn B=>.inr oM;have f1:=a7.then a1;obtain⟨C,l1,l2,l3⟩:=fl.boxes (N:=Kl) a8;have c4:=a8.fj;refine PC.ok (qB (l2.af a1) λn B=>by have:=hD n B;have:=f1.size;omega) ?_;rintro _ e4 ⟨a9,M,f2,F9,rfl,b0,e5,i2⟩;have l9:=a1.size;have m0:=e5.size;have a2:∀n,aG a9=some n->e2.heap.size<=n:=λn B=>i2 n (b0.self n B);have f5:∀n,aG a9=some n->n<e4.heap.size:=λn B=>b0.aE n (b0.self n B);refine⟨_,_,_,rfl,λq I w'=>∃a:Nat,I=a/\a<=M/\q=M-a/\dV Kl 121 e4 a9 M f2 C a w',⟨_,0,rfl,Qj _,rfl,dV.start b0.alone⟩,?_⟩;rintro q _ _ i3 ⟨c,rfl,g,rfl,z⟩;have m1:=z.len;have m2:C.length=a0.length:=by rw[<-l1];simp
  have i4:=a8.len;have N:ai y i3:=(a1.then e5).new z.keep λn B=>.inr (by have:=a2 n B;omega);have m3:=z.keep.size;refine al.dec (λf6=>?_) (λf7=>?_)
  ·obtain⟨a3,rfl⟩:=z.some oM
   have f9:=f5 a3 rfl;have a5:C[c]? =some C[c]:=Qq oM;have O:=l3 C[c] (XY oM);generalize C[c]=bx at a5 O;refine⟨a3,0,rfl,oM,oM,_,_,_,z.cell rfl a5 (by show M*4<=aT;unfold aT at c4⊢;omega) 3 _ rfl,PC.ok (tL (O.1.af N) λn B=>by have:=hD n B;have:=(a7.then N).size;omega) ?_⟩;rintro _ m4 ⟨m5,m6,m7,G,rfl,c3,i5,i⟩;refine⟨_,_,_,rfl,a3,0,rfl,oM,oM,?_⟩;refine(z.af i5).step (g:=a3) rfl a5 (c3.row (bytes:=32) dC ?_) O.2 (λu E=>⟨by have:=i u E;omega,c3.aE u E⟩) f9 λm8 g3 m9 n0=>⟨_,?_,c+1,an (by unfold aT at c4;omega),oM,rfl,g3⟩
   ·have e:=O.1.fj
    have l:=O.1.len;show bx.x.bG.length*32<=aT;have n1:bx.n=bx.x.bG.length:=l;have n2:bx.n*32<=aT:=e;omega
   ·omega
  ·obtain rfl:c=M:=oM
   obtain⟨Fd,m,c6⟩:=z.done;rw[l1,HC]at m;have c5:=N.get K id;refine⟨P.heap.size,0,rfl,_,_,_,ae c5 rfl,NM (c:=nB) (x:=a0) (t.af N) Qc (D:=Fd) ⟨_,_,_,rfl,m.row dC (by rw[<-i4];exact c4)⟩ (λn B=>⟨m.aE n B,λb=>?_⟩) ?_ ?_ λa' Q n3 F' g6 c7 f3 n4=>⟨_,_,_,rfl,P.heap.size,0,rfl,?_⟩⟩
   ·have e:=t.aE n (t.self n b)
    rcases c6 n B with l|l
    ·have:=a2 n l;omega
    ·omega
   ·have:=List.length_take_le a d.types;unfold aT at X⊢;omega
   ·have:=List.length_take_le a d.types;unfold aT at X;unfold maxLen;omega
   ·have i6:¬aG r=some P.heap.size:=λb=>by have:=L _ (t.self _ b);omega
    have i7:=c7.get c5 i6;have n5:=c7.size;refine PS.mk i7 sM λn6 f4 n7 i8=>⟨_,?_,a+1,an (by unfold aT at X;omega),oM,rfl,?_,a',s+1,Q,F',i8,?_,?_⟩
    ·omega
    ·exact((kk.af N).new c7 λn B=>.inr (L _ (t.self n B))).then f4
    ·rw[Qw,e1]
     refine g6.keep f4 λn B b=>?_;rcases f3 n B with e|e|e
     ·have:=L n e;omega
     ·rcases c6 n e with l|l
      ·have:=a2 n l;omega
      ·omega
     ·omega
    ·intro n B
     rcases f3 n B with e|e|e
     ·exact L n e
     ·rcases c6 n e with l|l
      ·have:=a2 n l;omega
      ·omega
     ·omega
 ·obtain rfl:a=tn:=oM
  rw[Qz oM]at t;have h1:=(Y.af Z).keep kk λn B b=>by have:=Y.aE n B;omega
  have n8:P.heap.size<y.heap.size:=aA K;have f8:bt y (λn=>j n\/x n) d r s h f:=⟨(t.row (bytes:=24) dC (by rw[<-h0];exact X)).mono λn B=>.inl B,(h1.row (bytes:=40) dC (by rw[<-h3];exact h4)).mono λn B=>.inr B⟩
  have A:∀n,j n\/x n->w.heap.size<=n/\n<y.heap.size/\n≠P.heap.size:=λn B=>by
   rcases B with B|B
   ·have:=L n B;have:=t.aE n B;omega
   ·have:=h5 n B;have:=Y.aE n B;omega
  refine⟨P.heap.size,0,rfl,_,_,_,_,_,_,ae K rfl,ae K rfl,PC.ok (HD m f8 λn B=>(A n B).2.1) ?_⟩;rintro _ i9 ⟨vp,R,rfl,hv,b1,b2⟩;have o0:=b2.size;have g0:=hv.aE;refine⟨_,rfl,P.heap.size,0,rfl,PS.mk (b2.get K id) sM λS c8 o1 g2=>⟨P.heap.size,0,rfl,_,_,_,ae g2 rfl,?_⟩⟩;have n9:=Y.len dC;have c9:bt S (λn=>j n\/x n) d r s h f:=(f8.af b2).keep c8 λn B b=>(A n B).2.2 b;have h2:cG S vp R (bf.new d):=hv.keep c8 λn B b=>by have b:n=P.heap.size:=b;have:=b1 n B;omega
  refine⟨λq I w'=>∃(a:Nat) (ra:WP) (T rc:Nat) (G:ZN),I=a/\a<=f/\q=f-a/\aj (·=P.heap.size) S w'/\w'.heap[P.heap.size]? =some (.cells #[.slice r s J,.slice h f v,ZH (every:Int),.slice none 0 0,ZL vp,.slice ra T rc,.slice none 0 0] 202 (0,0))/\
   cH w' G ra T rc ((d.projs.take a).map λp=>(⟨p,[]⟩:dO))/\∀n,G n->S.heap.size<=n/\n<w'.heap.size,⟨_,0,none,0,0,λ_=>False,rfl,Qj _,rfl,aj.refl _,g2,cH.nil _,λn B=>B.elim⟩,?_⟩
  rintro q _ _ b3 ⟨c,ra,T,rc,G,rfl,g,rfl,H,d0,b4,i⟩;have o2:=H.size;refine al.dec (λf6=>?_) (λf7=>?_)
  ·have j0:c<d.projs.length:=oM
   have E:d.projs[c]? =some d.projs[c]:=Qq j0;generalize d.projs[c]=u at E;obtain⟨n,a4,es,a6,d5,h6,b5,rfl,d6⟩:=(c9.keep H λn B b=>(A n B).2.2 b).FG.el c u E;refine⟨n,a4,a6,oM,oM,ck (es:=oI u) (k:=5) (qx u) rfl (λa0 ht=>by rw[Qx];exact b5 a0 ht) (PA.mk λo3 j1 o4 j2=>aC (qx u) j2 rfl λo5 j3 o6 j4=>λj5 g4=>⟨λ_=>False,P.heap.size,0,rfl,id,?_⟩)⟩;have d1:ai b3 j5:=(j1.new j3 λn B=>.inr (by have B:n=b3.heap.size:=B;omega)).then g4.keep;refine⟨_,_,_,ae (d1.get d0 id) rfl,ar (qx u) ((g4.keep (S:=λ_=>False)).get j4 id) (PC.ok Qd ?_)⟩;rintro _ o7 ⟨p',r',rfl,d2,o8,o9,p0,p1,d3⟩;have j6:p'≠r':=λb=>by
    obtain⟨es,cl,hm,-⟩:=d2.map.at';have:=d2.at';rw[b,hm]at this;cases this
   have p2:=d3.size;have p3:=d1.size;refine⟨_,rfl,d3,PA.mk λp4 d4 p5 j7=>⟨d4,?_⟩⟩;have b6:=(d1.then d3).then d4;have j8:=b4.len;rw[Q8,Qy,X2 oM]at j8;refine(b4.af b6).push (λn B=>by have:=(i n B).2;omega) (d2.af d4) (λB=>by have:=(i _ B).2;omega) (λB=>by have:=(i _ B).2;omega) j6 PW j7 (by rw[Q8,Qy];omega) λj9 k0 p6 G3 k2 g5 k3 k4=>⟨_,_,_,rfl,P.heap.size,0,rfl,?_⟩
   have k5:=g5.get (b6.get d0 id) λB=>by have:=(i _ B).1;omega
   have d7:∀n,G3 n->S.heap.size<=n:=λn B=>by
    rcases k3 n B with e|e|e|e
    ·exact(i n e).1
    ·omega
    ·omega
    ·omega
   refine PS.mk k5 sM λp7 g7 p8 k6=>⟨_,?_,c+1,j9,T+1,k0,G3,an oM,oM,rfl,((H.af b6).new g5 λn B=>.inr (i n B).1).then g7,k6,?_,λn B=>⟨d7 n B,by have:=k4 n B;omega⟩⟩
   ·omega
   ·rw[Qw,E,Q3]
    exact k2.keep g7 λn B b=>by have b:n=P.heap.size:=b;have:=d7 n B;omega
  ·rw[Qz oM]at b4
   have k7:∃U,eu b3 (λn=>∃k,(match k with|0=>n=P.heap.size|1=>j n\/x n|3=>R n|4=>G n|_=>False:Prop)) U P.heap.size ⟨r,s,J,h,f,v,every,none,0,0,vp,ra,T,rc,none,0,0⟩ d (bO d []) (eA d []).rows [] []:=by
    refine bb.join (G:=λk n=>match k with|0=>n=P.heap.size|1=>j n\/x n|3=>R n|4=>G n|_=>False) (λk=>?_) (λc a n g hj=>?_) λk n B=>?_
    ·match k with
     |0=>exact⟨rfl,d0⟩
     |1=>exact c9.keep H λn B b=>(A n B).2.2 b
     |2=>exact aV.nil _
     |3=>exact h2.keep H λn B b=>by have b:n=P.heap.size:=b;have:=b1 n B;omega
     |4=>exact b4
     |5=>exact aV.nil _
     |k+6=>trivial
    ·have V:∀c:Nat,(match c with|0=>n=P.heap.size|1=>j n\/x n|3=>R n|4=>G n|_=>False:Prop)->c=(if n=P.heap.size then 0 else if n<y.heap.size then 1 else if n<i9.heap.size then 3 else 4):=λc g=>by
      rcases c with _|_|_|_|_|c
      ·have g:n=P.heap.size:=g
       rw[Zx g]
      ·have:=A n g;rw[Zq oM,Zx oM]
      ·exact g.elim
      ·have:=b1 n g;have:=g0 n g;rw[Zq oM,Zq oM,Zx oM]
      ·have:=i n g;rw[Zq oM,Zq oM,Zq oM]
      ·exact g.elim
     rw[V c g,<-V a hj]
    ·rcases k with _|_|_|_|_|k
     ·have B:n=P.heap.size:=B
      omega
     ·have:=A n B;omega
     ·exact B.elim
     ·have:=g0 n B;omega
     ·have:=i n B;omega
     ·exact B.elim
   obtain⟨U,hq⟩:=k7;have b7:ai w b3:=(((a7.then b2).new c8 λn B=>.inr (by have B:n=P.heap.size:=B;omega)).new H λn B=>.inr (by have B:n=P.heap.size:=B;omega))
   have g8:∀n,(∃k,(match k with|0=>n=P.heap.size|1=>j n\/x n|3=>R n|4=>G n|_=>False:Prop))->w.heap.size<=n:=λn ⟨k,B⟩=>by
    rcases k with _|_|_|_|_|k
    ·have B:n=P.heap.size:=B
     omega
    ·exact(A n B).1
    ·exact B.elim
    ·have:=b1 n B;omega
    ·have:=i n B;omega
    ·exact B.elim
   refine PC.ok (DZ hq m (hT.af b7) sM (by rw[qy];exact e6) sM sM) ?_;rintro _ p9 ⟨rfl,q',F',W,b8,b9,d9⟩;refine⟨rfl,Ok.mk ⟨P.heap.size,F',rfl,⟨⟨m,c0.1,c0.2,sM⟩,q',W,b9,?_⟩,λn B=>?_,b7.new d9.keep λn B=>.inr (g8 n B)⟩⟩
   ·rw[Qe];simpa using b8
   ·rcases d9.new n B with e|e
    ·exact g8 n e
    ·have:=b7.size;omega
end
def ME(e:aS)(P:List ah):∀n∈(eA e P).rows,n.rows.length<=P.length:=by
 have:∀(P:List ah) (a:kO) (b:Nat),(∀n∈a.rows,n.rows.length<=b)->∀n∈(P.foldl kO.add a).rows,n.rows.length<=b+P.length:=by
  intro P
  induction P with
  |nil=>intro a b f n c;exact f n c
  |cons d P k=>
   intro a b f n c;have:=k (a.add d) (b+1) (λg h=>?_) n c
   ·simp only[Xq];omega
   ·obtain⟨i,j,rfl⟩:=Xk.1 (show g∈a.rows.map λn=>n.add (a.view.add d).1 (tg ((a.view.add d).2.state d.aZ d.agg) n.p)from h)
    have m:=f i j;unfold dO.add;dsimp only;split
    ·omega
    ·split
     ·omega
     ·exact Xx (ye ..) oM
 intro n c;have:=this P (kO.new e) 0 (λg h=>by
  obtain⟨i,j,rfl⟩:=Xk.1 (show g∈e.projs.map λl=>(⟨l,[]⟩:dO)from h);exact Q4 0) n c
 omega
def jq(P:aS)(a:List ah)(n:Int):List eg:=if n<0 then []else match(eA P a).rows[n.toNat]? with
 |none=>[]
 |some b=>b.list
section
variable {w w':World} {p:Nat} {F T D:ZN} {d:aS} {every:Nat} {l:List ah}
def Km(r:c_ w p F d every l):
  PP 402 #[ZL p,ZH e,ZH q] w (Ok λs w'=>∃a b c G,s= .tuple #[.agg #[ZH (((bO d l).state e q).getD Ht).version,.slice a b c],.bool ((bO d l).state e q).isSome]/\aV gB 78 G w' a b c (((bO d l).state e q).getD Ht).cells/\(∀n,G n->w.heap.size<=n)/\ai w w'):=by
 obtain⟨y,z,t,rfl,h⟩:=r;refine sD (PA.mk λA f B u=>⟨p,0,rfl,_,ae (eu.af h f).bw rfl,PC.ok (oH ((eu.af h f).at' 3)) ?_⟩);rintro _ C ⟨a,b,c,G,rfl,v,i,g⟩;have E:=g.size;refine⟨_,_,_,_,_,rfl,PS.mk (g.get u id) sM λH j I x=>PS.mk x sM λJ k K m=>⟨_,_,_,_,ae m rfl,ae m rfl,Ok.mk ⟨a,b,c,G,rfl,?_,λn P=>?_,?_⟩⟩⟩
 ·exact v.keep (j.then k) λn P o=>by have o:n=w.heap.size:=o;have:=i n P;omega
 ·have:=i n P;omega
 ·exact(f.then g).new (j.then k) λn P=>.inr (by have P:n=w.heap.size:=P;omega)
def FJ(P:c_ w p F d every l):PP 400 #[ZL p] w (Ok (qC AA 133 w (bO d l).entries)):=by
 obtain⟨a,h,b,rfl,n⟩:=P;refine pW ⟨p,0,rfl,_,ae n.bw rfl,PC.ok (FK (n.at' 3) (wR d l a.2.2.2).1) ?_⟩;rintro _ i ⟨c,e,f,G,rfl,g⟩;exact⟨_,_,_,rfl,Ok.mk ⟨c,e,f,G,rfl,g⟩⟩
def NN(i:c_ w p F d every l):PP 401 #[ZL p,ZH e] w (Ok λj w'=>qC Kf 135 w (jq d l e) j w'/\uR (jq d l e)):=by
 obtain⟨k,B,m,rfl,P⟩:=i;have C:=cH.len (P.at' 4);refine tM (al.dec (λf=>Ok.mk ⟨⟨none,0,0,λ_=>False,rfl,?_,aj.refl _,λo a=>a.elim⟩,?_⟩) (λb=>⟨p,0,rfl,_,_,_,ae P.bw rfl,al.dec (λq=>Ok.mk ⟨⟨none,0,0,λ_=>False,rfl,?_,aj.refl _,λo a=>a.elim⟩,?_⟩) (λq=>?_)⟩))
 ·unfold jq;rw[Zx f];exact aV.nil _
 ·unfold jq;rw[Zx f];exact List.Pairwise.nil
 ·unfold jq;rw[Zq b,Q7 oM];exact aV.nil _
 ·unfold jq;rw[Zq b,Q7 oM];exact List.Pairwise.nil
 ·obtain⟨n,rfl⟩:∃n:Nat,e=n:=⟨e.toNat,oM⟩
  have c:(eA d l).rows[n]? =some (eA d l).rows[n]:=Qq oM;have g:(eA d l).rows[n]∈(eA d l).rows:=XY oM;have r:jq d l (n:Int)=(eA d l).rows[n].list:=by unfold jq;rw[Zq b,Qx,c]
  rw[r];generalize(eA d l).rows[n]=s at c g;obtain⟨t,E,H,u,v,h,-⟩:=cH.elem (P.at' 4) c;refine⟨p,0,rfl,_,_,_,ae P.bw rfl,t,0,u,oM,oM,_,by rw[Qx];exact v,PC.ok (NO h (Xx (ME d l s g) k.2.2.2)) ?_⟩;rintro _ I ⟨x,y,z,G,rfl,A⟩;exact⟨_,_,_,rfl,Ok.mk ⟨⟨x,y,z,G,rfl,A⟩,h.y_⟩⟩
end
structure au.Cl (S:au):Prop where
 ok:S.OK
 mS:∀e∈S.l,∀o,o<S.n->S.mS e o=true
 le:∀e∈S.l,e.seq<=(S.Ee e.origin.toNat:Int)
 has:∀(o:Nat) (s:Int),o<S.n->1<=s->s<=(S.Ee o:Int)->∃e∈S.l,bd e=((o:Int),s)
def AS:B.mS l a=true↔l.aN.getD a 0=0\/∃n,B.get ((a:Int),l.aN.getD a 0)=some n/\n.aB<l.aB/\∀P,P<n.aN.length->n.aN.getD P 0<=l.aN.getD P 0:=by
 unfold au.mS;generalize l.aN.getD a 0=b;dsimp only
 cases c:B.get ((a:Int),b)with
 |none=>simp
 |some n=>simp
def au.Cl.new(n:a<=64):au.Cl ⟨a,[]⟩:=⟨au.tN n,sM,sM,λb c _ d P=>by simp[au.Ee]at P;omega⟩
def au.Th(n:au.OK ⟨B.n,dI l B.l⟩)(P:B.get d4=some N):au.get ⟨B.n,dI l B.l⟩ d4=some N:=by
 obtain⟨a,rfl⟩:=au.get_some P;exact n.get ((cN l B.l).mem_iff.2 (QJ _ a))
def au.eT(n:au)(P:ah):((n.add P).1≠0/\(n.add P).2=n)\/(n.add P=(0,⟨n.n,dI P n.l⟩)/\dh P n.n=0/\n.get (bd P)=none/\P.seq=n.vec.getD P.origin.toNat 0+1/\∀a,a<n.n->n.mS P a=true):=by
 rw[au.add_def];split
 ·rename_i b;exact .inl ⟨b,rfl⟩
 rename_i c;split
 ·exact .inl ⟨sM,rfl⟩
 rename_i d;split
 ·exact .inl ⟨sM,rfl⟩
 rename_i e;split
 ·exact .inl ⟨sM,rfl⟩
 rename_i f;refine .inr ⟨rfl,by simpa using c,by simpa using d,by simpa using e,?_⟩;simpa[List.any_eq_false]using f
def au.Ti{S:au}(P:dh l S.n=0)(a:S.get (bd l)=none)(b:l.seq=S.vec.getD l.origin.toNat 0+1)(c:∀n,n<S.n->S.mS l n=true):S.add l=(0,⟨S.n,dI l S.l⟩):=by
 rw[au.add_def,Zq (by simpa using P),Zq (by simp[a]),Zq (by simpa using b),Zq];simpa[List.any_eq_false]using c
def au.Cl.add{b:au}(g:b.Cl){a:ah}(q:a.Ok):(b.add a).2.Cl:=by
 have k:=(au.AB g.ok q).1;rcases b.eT a with⟨-,f⟩|⟨h,r,y,s,t⟩
 ·rw[f];exact g
 rw[h]at k⊢;simp only at k⊢;obtain⟨z,A,B,-⟩:=nP r;obtain⟨i,l⟩:∃i:Nat,a.origin=i:=⟨a.origin.toNat,oM⟩
 have u:i<b.n:=oM
 rw[l,Qx,b.qK u]at s;have c:∀n,n∈dI a b.l↔n=a\/n∈b.l:=λn=>by rw[(cN a b.l).mem_iff,Q2]
 have d:∀n e,b.mS n e=true->au.mS ⟨b.n,dI a b.l⟩ n e=true:=λn e P=>by
  rw[AS]at P⊢;rcases P with P|⟨v,h,f⟩
  ·exact .inl P
  ·exact .inr ⟨v,au.Th k h,f⟩
 refine⟨k,λn P e j=>?_,λn P=>?_,λe m j h f=>?_⟩
 ·rcases(c n).1 P with rfl|P
  ·exact d _ _ (t e j)
  ·exact d _ _ (g.mS n P e j)
 ·rw[au.FV]
  rcases(c n).1 P with rfl|P
  ·rw[l,Qx,Zx rfl];omega
  ·have:=g.le n P
   split<;>omega
 ·rw[au.FV]at f
  by_cases p:a.origin=(e:Int)
  ·rw[Zx p]at f
   have w:i=e:=oM
   subst w
   by_cases x:m=a.seq
   ·exact⟨a,(c a).2 (.inl rfl),by simp[bd,l,x]⟩
   ·obtain⟨n,P,o⟩:=g.has i m j h oM
    exact⟨n,(c n).2 (.inr P),o⟩
  ·rw[Zq p]at f
   obtain⟨n,P,o⟩:=g.has e m j h oM;exact⟨n,(c n).2 (.inr P),o⟩
def au.UE(n:au)(P:ah):(n.add P).2.n=n.n:=by
 rcases n.eT P with⟨-,a⟩|⟨b,-⟩
 ·rw[a]
 ·rw[b]
def au.Af(n:au)(P:ah):(n.add P).2.l.length<=n.l.length+1:=by
 rcases n.eT P with⟨-,a⟩|⟨b,-⟩
 ·rw[a];omega
 ·rw[b];show(dI P n.l).length<=_;rw[(cN P n.l).length_eq];simp
def au.nI(n:au)(P:List ah)(a:ah):n.eB (P++[a])=((n.eB P).add a).2:=by unfold au.eB;rw[List.foldl_append];rfl
def au.AT(n:au)(P a:List ah):n.eB (P++a)=(n.eB P).eB a:=by unfold au.eB;rw[List.foldl_append]
def au.Cl.eB:∀{l:List ah} {S:au},S.Cl->(∀e∈l,e.Ok)->(S.eB l).Cl
 |[],S,n,_=>n
 |e::l,S,n,P=>au.Cl.eB (l:=l) (S:=(S.add e).2) (n.add (P e (QV ..))) λa b=>P a (QJ _ b)
def au.QA:∀(P:List ah) (n:au),(n.eB P).n=n.n
 |[],n=>rfl
 |e::P,n=>(au.QA P _).trans (n.UE e)
def au.nH:∀(P:List ah) (n:au),(n.eB P).l.length<=n.l.length+P.length
 |[],n=>by simp[au.eB]
 |e::P,n=>by
  have a:=au.nH P (n.add e).2;have b:=n.Af e;show((n.add e).2.eB P).l.length<=_;simp only[Xq];omega
def tT{P:ah}:∀{n:List ah},(∀x∈n,eR P x=false)->dI P n=n++[P]
 |[],_=>rfl
 |x::n,a=>by
  unfold dI;rw[Zq (by rw[a x (QV ..)];simp),tT λb c=>a b (QJ _ c)];rfl
def au.Cl.take{n:au}(f:n.Cl):∀{k:Nat},k<=n.l.length->(⟨n.n,[]⟩:au).eB (n.l.take k)=⟨n.n,n.l.take k⟩/\au.Cl ⟨n.n,n.l.take k⟩
 |0,_=>⟨rfl,by simpa using au.Cl.new f.ok.n⟩
 |k+1,U=>by
  obtain⟨I,j⟩:=au.Cl.take f (k:=k) oM;have e:n.l[k]? =some n.l[k]:=Qq oM;have l:n.l[k]∈n.l:=XY oM;generalize n.l[k]=P at e l;have v:n.l=n.l.take k++P::n.l.drop (k+1):=by
   conv=>lhs;rw[<-ZX k n.l]
   congr 1
   rw[X4 oM]
   congr 1
   have:=Qq (l:=n.l) (i:=k) oM;rw[e]at this;exact(XJ this).symm
  have p:=f.ok.Qi;have g:=f.ok.ids;rw[v]at p g;have d:∀x∈n.l,eR x P=true->x∈n.l.take k:=λx b m=>by
   rw[v]at b;rcases Q6.1 b with b|b
   ·exact b
   rcases Q2.1 b with rfl|b
   ·rw[jX]at m;omega
   ·have J:=(List.pairwise_append.1 p).2.1
    have q:=(List.pairwise_cons.1 J).1 x b;rw[nJ q]at m;cases m
  have a:∀x∈n.l.take k,eR x P=true:=λx b=>(List.pairwise_append.1 p).2.2 x b P (QV ..);have w:au.get ⟨n.n,n.l.take k⟩ (bd P)=none:=by
   cases K:au.get ⟨n.n,n.l.take k⟩ (bd P)with
   |none=>rfl
   |some x=>
    obtain⟨h,i⟩:=au.get_some K;rw[Q3,QY,List.nodup_append]at g;exact Zz i (g.2.2 (bd x) (Xk.2 ⟨x,h,rfl⟩) (bd P) (QV ..))
  have y:=f.ok.XE P l;obtain⟨V,W,L,X,-,-,Y,-,z,-⟩:=nP y;obtain⟨c,r⟩:∃c:Nat,P.origin=c:=⟨P.origin.toNat,oM⟩
  have s:c<n.n:=oM
  have A:∀o,o<n.n->au.mS ⟨n.n,n.l.take k⟩ P o=true:=λo M=>by
   have:=f.mS P l o M;rw[AS]at this⊢;rcases this with B|⟨x,t,C,N⟩
   ·exact .inl B
   ·obtain⟨h,i⟩:=au.get_some t
    refine .inr ⟨x,?_,C,N⟩;rw[<-i];exact j.ok.get (d x h (by rw[jX];exact .inl C))
  have E:=f.ok.ok P l;have Q:P.seq=(au.vec ⟨n.n,n.l.take k⟩).getD P.origin.toNat 0+1:=by
   rw[r,Qx,au.qK (S:=⟨n.n,n.l.take k⟩) s];have Z:(au.Ee ⟨n.n,n.l.take k⟩ c:Int)+1<=P.seq:=by
    rcases Int.lt_or_le (au.Ee ⟨n.n,n.l.take k⟩ c:Int) P.seq with m|O
    ·omega
    ·obtain⟨x,R,S⟩:=j.has c P.seq s L O
     have:=au.get_none w x R;exact Zz (S.trans (by simp[bd,r])) this
   have O:P.seq<=(au.Ee ⟨n.n,n.l.take k⟩ c:Int)+1:=by
    have T:qd (P.seq-1)=P.seq-1:=by
     have:=E.seq;exact wrap_i64 (by unfold aM at*;omega)
    rw[T,r,Qx]at z;have:=A c s;rw[AS,z]at this;rcases this with B|⟨x,t,-⟩
    ·omega
    ·obtain⟨h,i⟩:=au.get_some t
     have q:=j.le x h;have F:x.origin=c/\x.seq=P.seq-1:=by
      have:=i;simp only[bd,Prod.mk.injEq]at this;exact this
     rw[F.1,F.2,Qx]at q;omega
   show P.seq=(au.Ee ⟨n.n,n.l.take k⟩ c:Int)+1;omega
  have H:=au.Ti (S:=⟨n.n,n.l.take k⟩) y w Q A;have a0:dI P (n.l.take k)=n.l.take (k+1):=by
   rw[tT λx e=>nJ (a x e),Qw,e];rfl
  rw[show n.l.take (k+1)=n.l.take k++[P] by rw[Qw,e];rfl,au.nI,I,H];have u:=j.add E;rw[H]at u;rw[show dI P (n.l.take k)=n.l.take k++[P]from tT λx e=>nJ (a x e)]at u⊢;exact⟨rfl,u⟩
def au.Cl.Vo(n:B.Cl):(⟨B.n,[]⟩:au).eB B.l=B:=by
 have:=(n.take (Q4 _)).1;rw[List.take_length]at this;exact this
def Ed{n:ah}:∀{l:List ah},(∀x∈l,bd x≠bd n)->dI n l=l.take (posOf (λx=>eR x n) l)++n::l.drop (posOf (λx=>eR x n) l)
 |[],_=>rfl
 |x::l,a=>by
  have b:=a x (QV ..);unfold dI posOf;rw[List.takeWhile_cons]
  by_cases P:eR x n=true
  ·rw[Zx P,Zq (by rw[nJ P];simp)]
   have:=Ed (l:=l) λc d=>a c (QJ _ d);rw[this];simp[posOf]
  ·rw[Zq P,Zx ((FP b).resolve_left P)]
   rfl
structure qF (most:Nat) (l:List ah):Prop where
 Qi:Vl l
 ids:(l.map bd).Nodup
 ok:∀e∈l,e.Ok
 le:l.length<=most
def qF.nil(n:Nat):qF n []:=⟨List.Pairwise.nil,sM,sM,Qj _⟩
def qF.add(b:qF a H)(f:l.Ok):qF a (eS a H l).2:=by
 unfold eS;split
 ·exact b
 rename_i d;rw[not_or]at d;have e:∀n∈H,bd n≠bd l:=by
  have:=d.2;simp only[List.any_eq_true,beq_iff_eq,not_exists,not_and]at this;exact this
 have c:=cN l H;refine⟨wU b.Qi e,?_,λn P=>?_,by rw[c.length_eq,Xq];omega⟩
 ·refine(c.map bd).nodup_iff.2 ?_
  rw[QY,List.nodup_cons];exact⟨λg=>by obtain⟨n,P,h⟩:=Xk.1 g;exact e n P h,b.ids⟩
 ·rcases Q2.1 (c.mem_iff.1 P)with rfl|P
  ·exact f
  ·exact b.ok n P
def qF.sub(n:qF a H)(P:f5.Sublist H):qF a f5:=
 ⟨n.Qi.sublist P,n.ids.sublist (P.map bd),λb c=>n.ok b (P.subset c),Xx P.length_le n.le⟩
def tj{P:au}:∀{n:List ah},(∀e∈n,(P.add e).1≠0)->dJ P n=none
 |[],_=>rfl
 |e::n,a=>by
  unfold dJ;rw[Zq (a e (QV ..)),tj λb c=>a b (QJ _ c)];rfl
def tk{a:au}:∀{n:List ah} {i:Nat} {e:ah},(∀x∈n.take i,(a.add x).1≠0)->n[i]? =some e->(a.add e).1=0->dJ a n=some (e,(a.add e).2,n.eraseIdx i)
 |[],i,e,_,P,_=>by simp at P
 |x::n,0,e,b,P,c=>by
  simp at P;subst P;unfold dJ;rw[Zx c];rfl
 |x::n,i+1,e,b,P,c=>by
  unfold dJ;rw[Zq (b x sM),tk (i:=i) (e:=e) (λd f=>b d (by simp[f])) (by simpa using P) c]
  rfl
def dZ(n:bY)(P:WP)(a b:Nat)(c:WP)(d e:Nat):List Value:=[ZH n.kind,ZH n.bM,ZH n.mR,.slice P a b,.slice c d e]
abbrev iP(n:bY)(P:WP)(a b:Nat)(c:WP)(d e:Nat):Value:=.agg (dZ n P a b c d e).toArray
def eU(n:bY)(P:WP)(a b:Nat)(c:WP)(d e:Nat):iL ZP 127 (dZ n P a b c d e)=true:=kR
def Ei(n:bY)(P:WP)(a b:Nat)(c:WP)(d e:Nat):TU (ej ZP 127) (iP n P a b c d e)=true:=kR
section
variable {w w':World} {D E F:ZN} {m:bY} {va ea:WP} {vn vc en ec N:Nat} {chunk:Int} {p:Nat} {S:au}
def L_(b:Row aP 8 w D va vn m.vec)(i:Row ku 96 w E ea en m.events):PP 189 #[iP m va vn vc ea en ec,ZH (N:Int)] w (Ok λj w'=>j= ZH (iA m N)/\ai w w'):=by
 have u:=b.len;have v:=i.len;have k:=b.fj;refine Gs (PA.mk λx c y d=>⟨_,_,_,ae d rfl,al.dec (λl=>Ok.mk ⟨?_,c⟩) (λl=>⟨_,_,_,ae d rfl,al.eO (λo=>Ok.mk ⟨?_,c⟩) (λo=>⟨_,_,_,ae d rfl,λf p w'=>∃n:Nat,p=n/\n<=vn/\f=vn-n/\((m.vec.take n).any λP=>decide (P<0))=false/\ai w w',⟨_,0,rfl,Qj _,rfl,sM,c⟩,?_⟩)⟩)⟩)
 ·unfold iA;rw[Zx oM]
 ·unfold iA;rw[Zq oM,Zx oM]
 rintro f _ _ z ⟨n,rfl,A,rfl,e,a⟩;refine al.dec (λB=>?_) (λC=>Ok.mk ⟨?_,a⟩)
 ·obtain⟨q,r,P,s,g,-,t⟩:=(b.af a).oF (i:=n) oM
  refine⟨q,r,s,oM,oM,P,t,al.dec (λh=>Ok.mk ⟨?_,a⟩) (λh=>⟨_,oM,n+1,an (by unfold aT at k;omega),oM,rfl,?_,a⟩)⟩
  ·unfold iA;rw[Zq oM,Zq oM,Zx (List.any_eq_true.2 ⟨P,QZ g,by simpa using h⟩)]
  ·rw[Qw,g,List.any_append,e];simp;omega
 ·rw[Qz oM]at e
  unfold iA;rw[Zq oM,Zq oM,Zq (by rw[e];simp)]
def yG{c:Type}{n:c->Int}:∀{P:List c} {d:Nat} {a:c},(∀y∈P.take d,n y=0)->P[d]? =some a->n a≠0->cK n P=n a
 |y::P,0,a,_,b,e=>by
  simp at b;subst b;unfold cK;rw[Zx (by simpa using e)]
 |y::P,d+1,a,f,b,e=>by
  have g:n y=0:=f y sM;unfold cK
  rw[g];simp only[bne_self_eq_false,Bool.false_eq_true,if_false];exact yG (λh i=>f h (QJ _ i)) (by simpa using b) e
def Cs{P:Type}{a:P->Int}:∀{n:List P},(∀y∈n,a y=0)->cK a n=0
 |[],_=>rfl
 |y::n,b=>by
  unfold cK
  rw[b y (QV ..)];simpa using Cs λc d=>b c (QJ _ d)
def Ma(t:Row aP 8 w D va vn m.vec)(h:Row ku 96 w E ea en m.events)(u:N<4611686018427387904):PP 188 #[iP m va vn vc ea en ec,ZH (N:Int),ZH chunk] w (Ok λv w'=>v= ZH (fe m N chunk)/\ai w w'):=by
 have W:=t.len;have X:=h.len;have x:=h.fj;refine Gr (PA.mk λY a Z b=>⟨_,_,_,ae b rfl,al.dec (λy=>Ok.mk ⟨?_,a⟩) (λy=>⟨_,_,_,ae b rfl,al.dec (λz=>Ok.mk ⟨?_,a⟩) (λz=>⟨_,_,_,ae b rfl,al.dec (λA=>Ok.mk ⟨?_,a⟩) (λA=>⟨_,_,_,ae b rfl,λl i w'=>∃n:Nat,i=n/\n<=en/\l=en-n/\(∀P∈m.events.take n,dh P N=0)/\ai w w',⟨_,0,rfl,Qj _,rfl,sM,a⟩,?_⟩)⟩)⟩)⟩)
 ·unfold fe;rw[Zx oM]
 ·unfold fe;rw[Zq oM,Zx (.inl oM)]
 ·unfold fe;rw[Zq oM,Zx (.inr oM)]
 rintro l _ _ B ⟨n,rfl,hj,rfl,c,d⟩;have o:fe m N chunk=cK (λC=>dh C N) m.events:=by unfold fe;rw[Zq oM,Zq oM]
 refine al.dec (λa4=>?_) (λa5=>Ok.mk ⟨?_,d⟩)
 ·obtain⟨p,F,es,I,J,a6,q,e,f,g,rfl,r,K⟩:=(h.af d).el n m.events[n] (Qq oM)
  have j:m.events[n]? =some m.events[n]:=Qq oM;generalize m.events[n]=P at q r K j;refine⟨p,F,I,oM,oM,ck (es:=aH P e f g) (k:=10) (bg P e f g) rfl (λi L=>q i L) (PA.mk λw3 M s3 O=>aC (bg P e f g) O rfl λQ R s4 S=>ar (bg P e f g) S ?_)⟩;have k:ai B Q:=M.new R λp J=>.inr oM;refine PC.ok (yy (r.af k) u) ?_;rintro _ w5 ⟨rfl,s⟩;refine⟨_,rfl,al.eO (λT=>Ok.mk ⟨by rw[o,yG c j T],(d.then k).then s⟩) (λU=>⟨_,oM,n+1,an (by unfold aT at x;omega),oM,rfl,λV H=>?_,(d.then k).then s⟩)⟩;rw[Qw,j]at H;rcases Q6.1 H with H|H
  ·exact c V H
  ·simp at H;subst H;exact U
 ·rw[Qz oM]at c
  rw[o,Cs c]
def yH(h:cI w p F S):PP 78 #[ZL p,ZH e,ZH q] w (Ok λi w'=>∃va vn vc G,i=iP (ll S e q) va vn vc none 0 0/\aV aP 3 G w' va vn vc S.vec/\(∀q,G q->w.heap.size<=q)/\ai w w'):=by
 refine Dt (PA.mk λm d o j=>PC.ok (oJ (h.af d)) ?_);rintro _ r ⟨P,a,b,G,rfl,k,c,f⟩;have s:=c.size;refine⟨_,_,_,rfl,aC (eU (ll S e q) P a b none 0 0) (c.get j id) rfl λt g u l=>ar (eU (ll S e q) P a b none 0 0) l (Ok.mk ⟨P,a,b,G,rfl,k.keep g λq n v=>?_,λq n=>?_,(d.then c).new g λq n=>.inr oM⟩)⟩
 ·have:=f q n;omega
 ·have:=f q n;omega
def Jp(h:cI w p F S):PP 191 #[ZL p,ZH e,ZH q] w (Ok λi w'=>∃va vn vc G,i=iP (z_ S e q) va vn vc none 0 0/\aV aP 3 G w' va vn vc S.vec/\(∀q,G q->w.heap.size<=q)/\ai w w'):=by
 refine Lh (PA.mk λm d o j=>PC.ok (oJ (h.af d)) ?_);rintro _ r ⟨P,a,b,G,rfl,k,c,f⟩;have s:=c.size;refine⟨_,_,_,rfl,aC (eU (z_ S e q) P a b none 0 0) (c.get j id) rfl λt g u l=>ar (eU (z_ S e q) P a b none 0 0) l (Ok.mk ⟨P,a,b,G,rfl,k.keep g λq n v=>?_,λq n=>?_,(d.then c).new g λq n=>.inr oM⟩)⟩
 ·have:=f q n;omega
 ·have:=f q n;omega
def EV{cs:Array Value}{P:Nat×Nat}(b:w.heap[a]? =some (.cells cs g P))(c:cs[0]? =some (ZH (N:Int))):PP 187 #[ZH e,ZL a] w (Ok λd w'=>d= .bool (decide (0<=e)&&decide (e<N))/\w=w'):=by
 refine Dy (al.dec (λn=>⟨_,ae b c,Ok.mk ⟨?_,rfl⟩⟩) (λn=>Ok.mk ⟨?_,rfl⟩))
 ·rw[Zy (show 0<=e from n)];rfl
 ·rw[Xv (show¬0<=e from n)];rfl
def Pd(o:Row aP 8 w D va vn m.vec)(p:Row ku 96 w E ea en m.events)(v:N<4611686018427387904):PP 118 #[iP m va vn vc ea en ec,ZH (N:Int),ZH chunk] w (Ok λf w'=>f= ZH (e_ m N chunk)/\ai w w'):=by
 refine Iq (PA.mk λx y J z=>PA.mk λg q K i=>?_);have b:=q.get z id;have n:=y.then q;refine⟨λA w'=>A=(!(decide (0<=m.bM)&&decide (m.bM<N))|| !(decide (0<=m.mR)&&decide (m.mR<N))||m.bM==m.mR)/\g=w',?_,?_⟩
 ·refine⟨_,ae b rfl,_,_,_,rfl,kR,PC.ok (EV (N:=N) i rfl) ?_⟩
  rintro _ _ ⟨rfl,rfl⟩;refine⟨_,rfl,al.not (al.mk (λP=>⟨_,ae b rfl,_,_,_,rfl,kR,PC.ok (EV (N:=N) i rfl) ?_⟩) (λP=>⟨by rw[P];rfl,rfl⟩))⟩;rintro _ _ ⟨rfl,rfl⟩;refine⟨_,rfl,al.not (al.mk (λa=>⟨_,ae b rfl,_,ae b rfl,by rw[P,a];rfl,rfl⟩) (λa=>⟨by rw[P,a];rfl,rfl⟩))⟩
 rintro j _ _ ⟨B,rfl⟩;have e:e_ m N chunk=if m.kind=3 then(if j then 1 else fe m N chunk)else if m.kind=1\/m.kind=2\/m.kind=4 then(if j then 1 else iA m N)else 2:=by rw[B];rfl
 have c:∀{r:List PanicEntry->ZU},(if j then 1 else iA m N)=e_ m N chunk->al j (Ok (λf w'=>f= ZH (e_ m N chunk)/\ai w w') (.returned (ZH 1)) g) (jZ ZP 127 (ZL w.heap.size) g λC=>(∃(s:Int),g.cell? ⟨x.heap.size,0,none⟩=some (ZH s)/\PC ZP 189 #[C,ZH s] g (λF H=>∃(t:Int),F= ZH t/\Ok (λf w'=>f= ZH (e_ m N chunk)/\ai w w') (.returned (ZH t)) H) r)):=λ{r} u=>by
  refine al.mk (λh=>Ok.mk ⟨by rw[<-u,h];rfl,n⟩) (λh=>ar (eU m va vn vc ea en ec) b ⟨_,ae i rfl,PC.ok (L_ (o.af n) (p.af n)) ?_⟩);rintro _ I ⟨rfl,k⟩;exact⟨_,rfl,Ok.mk ⟨by rw[<-u,h];rfl,n.then k⟩⟩
 refine⟨_,ae b rfl,al.eN (λd=>al.not (al.mk (λh=>?_) (λh=>ar (eU m va vn vc ea en ec) b ⟨_,ae i rfl,PC.ok (Ma (o.af n) (p.af n) v) ?_⟩))) (λd=>al.eN (λP=>al.tt (by simpa using P) (c ?_)) (λP=>al.eN (λa=>al.tt (by simpa using a) (c ?_)) (λa=>al.eN (λl=>c ?_) (λl=>Ok.mk ⟨?_,n⟩))))⟩
 ·exact al.tt h (Ok.mk ⟨by rw[e,Zx d,h];rfl,n⟩)
 ·rintro _ I ⟨rfl,k⟩
  exact⟨_,rfl,Ok.mk ⟨by rw[e,Zx d,h];rfl,n.then k⟩⟩
 ·rw[e,Zq d,Zx (show m.kind=1\/m.kind=2\/m.kind=4 from .inl P)]
 ·rw[e,Zq d,Zx (show m.kind=1\/m.kind=2\/m.kind=4 from .inr (.inl a))]
 ·rw[e,Zq d,Zx (show m.kind=1\/m.kind=2\/m.kind=4 from .inr (.inr l))]
 ·rw[e,Zq d,Zq (by rintro(h|h|h);exact P h;exact a h;exact l h)]
end
structure Qg (w:World) (p:Nat) (M D:ZN) (most:Nat) (l:List ah) (a:WP) (n c:Nat) (L:List (Bx ah)):Prop where
 at':w.heap[p]? =some (.cells #[ZH (most:Int),.slice a n c] 147 (0,0))
 nx:aV nC.kr 63 (λb=>aG a=some b) w a n c L
 map:L.map (·.x)=l
 NQ:∀b∈L,nC.In w D b
 dD:∀b,D b->b<w.heap.size/\¬M b
 mp:M p
 ma:∀b,aG a=some b->M b/\b≠p
 dM:∀b,M b->b<w.heap.size
def iu(a:World)(b:Nat)(c D:ZN)(n:Nat)(P:List ah):Prop:=(n<=256/\qF n P)/\∃d e f g,Qg a b c D n P d e f g
section
variable {w w':World} {p:Nat} {M D T E:ZN} {most:Nat} {l:List ah} {a:WP} {n c:Nat} {L:List (Bx ah)}
def Qg.keep(b:Qg w p M D most l a n c L)(e:aj T w w')(f:∀P,M P->¬T P)(g:∀P,D P->¬T P):Qg w' p M D most l a n c L:=
 ⟨e.get b.at' (f _ b.mp),b.nx.keep e λP d=>f P (b.ma P d).1,b.map,λP d=>(b.NQ P d).keep e g,λP d=>⟨Qk (b.dD P d).1 e.size,(b.dD P d).2⟩,b.mp,b.ma,λP d=>Qk (b.dM P d) e.size⟩
def iu.keep(b:iu w p M D most l)(d:aj T w w')(e:∀P,M P->¬T P)(f:∀P,D P->¬T P):iu w' p M D most l:=by
 obtain⟨g,a,n,c,L,b⟩:=b;exact⟨g,a,n,c,L,b.keep d e f⟩
def iu.af(n:iu w p M D most l)(P:ai w w'):iu w' p M D most l:=n.keep P (λ_ _ n=>n) λ_ _ n=>n
def tQ:kQ ZP 59 63 nC.kr.k 96:=Kh
def Kn(f:0<=e/\e<=256):PP 44 #[ZH e] w (Ok λb w'=>∃p,b= ZL p/\iu w' p (·=p) (λ_=>False) e.toNat []/\w.heap.size<=p/\p<w'.heap.size/\ai w w'):=by
 refine FL (PA.mk λc d g a=>Ok.mk ⟨w.heap.size,rfl,⟨⟨oM,qF.nil _⟩,none,0,0,[],?_,(aV.nil c).mono (λP n=>n.elim) (λP n=>by cases n),rfl,sM,λP n=>n.elim,rfl,λP n=>(by cases n),λP n=>by have n:P=w.heap.size:=n;omega⟩,Q4 _,oM,d⟩);have:(if(if 256<e then 256 else e)>0 then(if 256<e then 256 else e)else 0)=((e.toNat:Nat):Int):=by split<;>split<;>omega
 rw[this]at a;exact a
def uT(d:iu w p M D most l):PP 84 #[ZL p] w (Ok λf w'=>f= .tuple #[]/\iu w' p M (λ_=>False) most []/\aj M w w'):=by
 obtain⟨g,a,n,c,L,d⟩:=d;refine pX ⟨p,0,rfl,PS.mk d.at' sM λh i j k=>Ok.mk ⟨rfl,⟨⟨g.1,qF.nil _⟩,none,0,0,[],k,(aV.nil h).mono (λb P=>P.elim) (λb P=>by cases P),rfl,sM,λb P=>P.elim,d.mp,λb P=>(by cases P),λb P=>by rw[j];exact d.dM b P⟩,i.mono λb _ e=>by have e:b=p:=e;exact e▸d.mp⟩⟩
def AI(r:enters ZP z=true)(b:Nat->ZU)(o:Nat->ZU)(h:b 0 w)(i:∀P f,b P f->Row nC.kr 96 f E a n L)(s:∀P d f,L[P]? =some d->b P f->PP z (m++ #[kN d.x d.a d.n d.c]++Y) f (Ok λg w'=>(g= .bool true/\o P w')\/(g= .bool false/\b (P+1) w'))):
  PP 304 #[.slice a n c,.func (.func z) m Y] w (Ok λg w'=>(∃P,P<n/\g= ZH (P:Int)/\o P w')\/(g= ZH (-1)/\b n w')):=by
 have F:=(i 0 w h).len;have t:=(i 0 w h).fj;unfold aT at t;refine fR ⟨λp j w'=>∃P:Nat,j=P/\P<=n/\p=n-P/\b P w',⟨_,0,rfl,Qj _,rfl,h⟩,?_⟩;rintro p _ _ q ⟨P,rfl,H,rfl,k⟩;refine al.dec (λI=>?_) (λJ=>?_)
 ·have u:P<L.length:=oM
  have l:L[P]? =some L[P]:=Qq u;generalize L[P]=e at l;obtain⟨d,v,K,x,M,N,y,rfl,-⟩:=(i P q k).el P e l;refine⟨d,v,x,oM,oM,ck (es:=aH e.x e.a e.n e.c) (k:=10) (bg _ _ _ _) rfl (λj A=>by rw[Qx];exact y j A) ⟨_,_,_,rfl,r,PC.ok (s P e q l k) ?_⟩⟩;rintro _ O (⟨rfl,B⟩|⟨rfl,C⟩)
  ·exact⟨_,rfl,al.tt rfl (Ok.mk (.inl ⟨P,oM,rfl,B⟩))⟩
  ·exact⟨_,rfl,al.ff rfl ⟨_,oM,P+1,an oM,oM,rfl,C⟩⟩
 ·obtain rfl:P=n:=oM
  exact Ok.mk (.inr ⟨rfl,k⟩)
def HK{P:ah}{f g:Nat}{a:Nat}{b:ah}{h i:Nat}{j:Nat×Nat}(c:w.heap[a]? =some (.cells (aH b x h i).toArray 63 j)):
  PP 296 #[kN P d f g,ZL a] w (Ok λk w'=>k= .bool (bd P==bd b)/\ai w w'):=by
 refine p_ (PA.mk λl n m e=>⟨_,_,ae e rfl,ae e rfl,_,_,ae (n.get c id) rfl,ae (n.get c id) rfl,MD.eql ⟨_,rfl,Ok.mk ⟨rfl,n⟩⟩⟩)
def Ko(l:Row nC.kr 96 w E a n L)(x:∀P,E P->P<w.heap.size){m:Nat}{f:ah}{q r:Nat}{s:Nat×Nat}(t:w.heap[m]? =some (.cells (aH f d q r).toArray 63 s)):
  PP 295 #[.slice a n c,.func (.func 296) #[] #[ZL m]] w (Ok λo w'=>o= .bool (L.any λP=>bd P.x==bd f)/\ai w w'):=by
 have y:=l.len;refine fx (PC.ok (AI (E:=E) kR (λg h=>(∀P∈L.take g,(bd P.x==bd f)=false)/\ai w h) (λg h=>(L.any λP=>bd P.x==bd f)=true/\ai w h) ⟨sM,aj.refl _⟩ (λg h i=>l.af i.2) ?_) ?_)
 ·rintro g P h j ⟨k,b⟩
  refine(HK (b.get t id)).mono ?_;rintro _ z ⟨o,rfl,rfl,p⟩;refine Ok.mk ?_
  cases i:bd P.x==bd f
  ·refine .inr ⟨rfl,λu e=>?_,b.then p⟩
   rw[Qw,j]at e;rcases Q6.1 e with e|e
   ·exact k u e
   ·simp at e;subst e;exact i
  ·exact .inl ⟨rfl,List.any_eq_true.2 ⟨P,QZ j,i⟩,b.then p⟩
 ·rintro _ A (⟨g,B,rfl,v,b⟩|⟨rfl,k,b⟩)
  ·exact⟨_,rfl,Ok.mk ⟨by rw[v,Zy oM],b⟩⟩
  ·refine⟨_,rfl,Ok.mk ⟨?_,b⟩⟩
   rw[Qz oM]at k;rw[List.any_eq_false.2 λP j=>by rw[k P j];simp]
   rfl
end
section
variable {w w':World} {p:Nat} {M D T E:ZN} {most:Nat} {l:List ah} {a:WP} {n c:Nat} {L:List (Bx ah)}
def qG{e f:ah}{a i:WP}{n c j k:Nat}{w:World}:PP 298 #[kN e a n c,kN f i j k] w (Ok λl w'=>l= ZH (th e f)/\ai w w'):=by
 refine wT (PA.mk λu m v o=>PA.mk λp g x q=>λr s=>⟨λ_=>False,?_⟩);have P:ai p r:=s.keep;have b:=P.get (g.get o id) id;have d:=P.get q id;refine⟨_,ae b rfl,_,ae d rfl,id,_,ae b rfl,id,_,ae d rfl,id,_,ae b rfl,id,_,ae d rfl,PC.ok iv ?_⟩;rintro _ _ ⟨rfl,rfl⟩;refine⟨_,rfl,aj.refl _,PC.ok iv ?_⟩;rintro _ _ ⟨rfl,rfl⟩;refine⟨_,rfl,aj.refl _,PC.ok iv ?_⟩;rintro _ _ ⟨rfl,rfl⟩;refine⟨_,rfl,aj.refl _,PA.mk λy h z t=>⟨h,PC.ok (Qh t) ?_⟩⟩;rintro _ _ ⟨rfl,rfl⟩;exact⟨_,rfl,aj.refl _,Ok.mk ⟨by rw[HL],((m.then g).then P).then h⟩⟩
def Ec{n P:ah}:th n P<0↔eR n P=true:=by
 unfold th
 cases eR n P
 ·cases eR P n<;>simp
 ·simp
def CX(x:Row nC.kr 96 w E a n L)(U:Vl (L.map (·.x))){i:ah}{C F:Nat}:
  PP 297 #[.slice a n c,kN i d C F,.func (.func 298) #[] #[]] w (Ok λV w'=>∃P,V= .tuple #[ZH ((posOf (λo=>eR o.x i) L:Nat):Int),.bool P]/\ai w w'):=by
 have hl:=x.len;have W:=x.fj;unfold aT at W;have N:∀{j k:Nat} {b l:Bx ah},L[j]? =some b->L[k]? =some l->j<=k->b=l\/eR b.x l.x=true:=λ{j k b l} m q b4=>by
  rcases Nat.lt_or_ge j k with h|h
  ·right
   have y:(L.map (·.x))[j]? =some b.x:=by rw[Q9,m];rfl
   have z:(L.map (·.x))[k]? =some l.x:=by rw[Q9,q];rfl
   obtain⟨X,Y⟩:=Qv.1 y;obtain⟨Z,e2⟩:=Qv.1 z;have:=List.pairwise_iff_getElem.1 U j k X Z h;rw[Y,e2]at this;exact this
  ·obtain rfl:j=k:=oM
   rw[m]at q;exact .inl (XJ q)
 refine du (PA.mk λa4 O b5 Q=>⟨λR j k w'=>∃p e:Nat,j=p/\k=e/\R=e-p/\p<=e/\e<=n/\(∀P b,P<p->L[P]? =some b->eR b.x i=true)/\(∀P b,e<=P->L[P]? =some b->eR b.x i=false)/\ai a4 w',
  ⟨_,0,n,rfl,rfl,rfl,oM,oM,λP b g=>oM,λP b g m=>by have:=(Qv.1 m).1;omega,aj.refl _⟩,?_⟩)
 rintro R _ _ _ S ⟨p,e,rfl,rfl,rfl,b6,a5,y,z,s⟩;have t:enters ZP 298=true:=kR
 refine al.dec (λb7 a6 a7=>?_) (λb8 a8 a9=>?_)
 ·have A:ai S a6:=a7.keep
  have u:=(O.then s).then A;rw[Vj oM];have r:L[(p+e)/2]? =some L[(p+e)/2]:=Qq oM;generalize L[(p+e)/2]=f at r;obtain⟨o,H,es,I,b0,b1,J,rfl,-⟩:=(x.af u).el _ f r;refine⟨o,H,I,oM,oM,ck (es:=aH f.x f.a f.n f.c) (k:=10) (bg _ _ _ _) rfl (λP g=>by rw[Qx];exact J P g) (ar (bg i d C F) ((s.then A).get Q id) ⟨_,_,_,rfl,t,PC.ok qG ?_⟩)⟩;rintro _ b2 ⟨rfl,B⟩;refine⟨_,rfl,al.dec (λK=>⟨_,?_,(p+e)/2+1,e,an oM,rfl,rfl,oM,a5,λP l g q=>?_,z,(s.then A).then B⟩) (λK=>⟨_,?_,p,(p+e)/2,rfl,rfl,rfl,oM,oM,y,λP l g q=>?_,(s.then A).then B⟩)⟩
  ·omega
  ·have v:=Ec.1 K
   rcases N q r oM with rfl|M
   ·exact v
   ·exact tR M v
  ·omega
  ·have v:¬eR f.x i=true:=λh=>K (Ec.2 h)
   rcases N r q g with rfl|M
   ·simpa using v
   ·cases h4:eR l.x i
    ·rfl
    ·exact Zz (tR M h4) v
 ·obtain rfl:p=e:=oM
  have T:ai S a8:=a9.keep;have u:=(O.then s).then T;have a3:posOf (λo=>eR o.x i) L=p:=AG oM (λP b g m=>y P b g m) (λb m=>z p b (Q4 _) m);rw[a3];refine al.dec (λb3=>?_) (λb3=>Ok.mk ⟨false,rfl,u⟩);have r:L[p]? =some L[p]:=Qq oM;generalize L[p]=f at r;obtain⟨o,H,es,I,b0,b1,J,rfl,-⟩:=(x.af u).el _ f r;refine⟨o,H,I,oM,oM,ck (es:=aH f.x f.a f.n f.c) (k:=10) (bg _ _ _ _) rfl (λP g=>by rw[Qx];exact J P g) (ar (bg i d C F) ((s.then T).get Q id) ⟨_,_,_,rfl,t,PC.ok qG ?_⟩)⟩;rintro _ b2 ⟨rfl,B⟩;exact⟨_,rfl,Ok.mk ⟨_,rfl,u.then B⟩⟩
def Vm{f h:Nat}{x:Bx ah}(j:aV nC.kr 63 (λP=>aG a=some P) w a n c L)(k:f<=n)(l:w.heap[h]? =some (.cells (aH x.x x.a x.n x.c).toArray 63 (0,0)))(m:aG a≠some h)(r:L.length<=20000000):
  PP 299 #[.slice a n c,ZH (f:Int),.slice (ZM h) 1 1] w (Ok λo w'=>∃d g,o= .slice d (n+1) g/\aV nC.kr 63 (λP=>aG d=some P) w' d (n+1) g (L.take f++x::L.drop f)/\aj (λP=>aG a=some P) w w'/\∀P,aG d=some P->aG a=some P\/w.heap.size<=P):=by
 refine gH (HM.one (c:=nC.kr) (tb:=4) (x:=x) (D:=λ_=>False) tQ kR ?_ j k l ⟨rfl,trivial⟩ (λP b=>b.elim) m ba (by unfold maxLen;omega) λd g w' s e p q=>Ok.mk ⟨d,g,rfl,aV.alone e,p,λP b=>?_⟩)
 ·intro i w
  rw[run_callFunc_extern Tryz.func329 kR kR kR (e:=Extern.SlicesOverlaps.overlaps #[59,59] #[4]) kR]
 ·rcases q P (e.self P b)with b|b|b
  ·exact .inl b
  ·exact b.elim
  ·exact .inr b
def Vn{b:Nat}(e:aV nC.kr 63 (λP=>aG a=some P) w a n c L)(f:b<n)(i:n<=20000000):
  PP 305 #[.slice a n c,ZH (b:Int),ZH (ZG .i64 ((b:Int)+1))] w (Ok λg w'=>g= .slice a (n-1) c/\aV nC.kr 63 (λP=>aG a=some P) w' a (n-1) c (L.eraseIdx b)/\aj (λP=>aG a=some P) w w'):=
 gI (FM.one (c:=nC.kr) (tz:=0) tQ kR e f (by unfold maxLen;omega) λw' d h=>Ok.mk ⟨rfl,d,h⟩)
def Kp(f:iu w p M D most l){e:ah}{en ec:Nat}(O:Row aP 8 w E d en e.aN)(hE:∀P,E P->P<w.heap.size)(he:e.Ok):
  PP 246 #[ZL p,kN e d en ec] w (Ok λQ w'=>Q= .bool (eS most l e).1/\∃o q,iu w' p o q most (eS most l e).2/\aj M w w'/\(∀P,o P->M P\/w.heap.size<=P)/\∀P,q P->D P\/w.heap.size<=P):=by
 have b3:=f;obtain⟨B,a,n,c,L,f⟩:=f;have d8:L.length=l.length:=by rw[<-f.map,Q8]
 have hn:n=L.length:=f.nx.len dC;have d9:=f.dM p f.mp;have e0:=B.2.le;have j:(L.any λP=>bd P.x==bd e)=l.any (λi=>bd i==bd e):=by rw[<-f.map,List.any_map];rfl
 refine sE (PA.mk λc6 b4 e1 b5=>λR c7=>⟨λ_=>False,?_⟩);have S:ai c6 R:=c7.keep;have m:ai w R:=b4.then S;have T:=m.get f.at' id;have no:(eS most l e)=(false,l)->∀U,ai w U->Ok (λQ w'=>Q= .bool (eS most l e).1/\∃o q,iu w' p o q most (eS most l e).2/\aj M w w'/\(∀P,o P->M P\/w.heap.size<=P)/\∀P,q P->D P\/w.heap.size<=P) (.returned (.bool false)) U:=λhq U k1=>
  Ok.mk ⟨by rw[hq],M,D,by rw[hq];exact b3.af k1,ai.keep k1,λP b=>.inl b,λP b=>.inl b⟩
 refine⟨p,0,rfl,_,_,_,ae T rfl,p,0,rfl,_,ae T rfl,al.dec (λe2=>no (by unfold eS;rw[Zx (.inl oM)]) R m) (λe3=>⟨p,0,rfl,id,_,_,_,ae T rfl,aj.refl _,PC.ok (Ko (E:=λP=>aG a=some P) (((f.nx.af m).row (bytes:=96) dC ba)) (λP b=>by have:=(f.nx.aE P b);have:=m.size;omega) (S.get b5 id)) ?_⟩)⟩;rintro _ b6 ⟨rfl,C⟩;refine⟨_,rfl,C,al.mk (λr=>no (by unfold eS;rw[Zx (.inr (j▸r))]) b6 (m.then C)) (λr=>?_)⟩;have F:=m.then C;have b7:eS most l e=(true,dI e l):=by unfold eS;rw[Zq (by rw[<-j];rintro(g|g);omega;rw[r]at g;cases g)]
 have c8:∀i∈l,bd i≠bd e:=by
  rw[j]at r;simpa[List.any_eq_false]using r
 have V:=(S.then C).get b5 id;refine⟨_,_,_,ae V rfl,PC.ok (bP (O.af F) λP b=>by have:=hE P b;have:=F.size;omega) ?_⟩;rintro _ b8 ⟨H,I,J,G,rfl,W,X,Y⟩;have e4:=F.size;have e5:=X.size;refine⟨_,_,_,rfl,PS.mk (X.get V id) (by simp[aH]) λZ a9 e6 c9=>λK b9=>?_⟩;have s:ai Z K:=b9.keep;have e7:K.heap.size=Z.heap.size:=by rw[b9.heap]
 have a0:Z.heap[w.heap.size]? =some (.cells (aH e H I J).toArray 63 (0,0)):=c9;have a1:ai w K:=((F.then X).new a9 λP b=>.inr (by have b:P=w.heap.size:=b;omega)).then s;have b0:=f.keep a1 (λ_ _ f=>f) λ_ _ f=>f;have c1:Vl (L.map (·.x)):=by rw[f.map];exact B.2.Qi
 refine⟨p,0,rfl,_,_,_,ae b0.at' rfl,ar (bg e H I J) (s.get a0 id) (PC.ok (CX (b0.nx.row (bytes:=96) dC ba) c1) ?_)⟩;rintro _ e8 ⟨a4,rfl,d0⟩;refine⟨_,_,rfl,λd1 d2=>⟨λ_=>False,?_⟩⟩;have t:ai K d1:=d0.then d2.keep;have a2:=a1.then t;have c3:=b0.keep t (λ_ _ f=>f) λ_ _ f=>f;have h:=t.get (s.get a0 id) id;have d7:=AF (λP:Bx ah=>eR P.x e) L;refine⟨p,0,rfl,id,_,_,_,ae c3.at' rfl,_,_,_,_,_,_,_,_,_,_,_,_,ae h rfl,ae h rfl,ae h rfl,ae h rfl,ae h rfl,ae h rfl,ae h rfl,ae h rfl,ae h rfl,ae h rfl,PA.mk λd3 u e9 d4=>⟨u,?_⟩⟩;have c4:=c3.keep u (λ_ _ f=>f) λ_ _ f=>f;have f2:=a2.size;refine PC.ok (Vm (x:=⟨e,H,I,J⟩) c4.nx oM d4 (λe=>by have:=f.nx.aE _ e;omega) oM) ?_;rintro _ f3 ⟨a',c',rfl,a3,v,x⟩;have b1:¬aG a=some p:=λe=>(f.ma p e).2 rfl;have f4:=v.size;refine⟨_,_,_,rfl,p,0,rfl,PS.mk (v.get c4.at' b1) sM λd5 N f6 d6=>?_⟩;have y:aj M w d5:=((ai.keep (a2.then u)).then (v.mono λP _ b=>(f.ma P b).1)).then (N.mono λP _ e=>by have e:P=p:=e;exact e▸f.mp);refine Ok.mk ⟨by rw[b7],λP=>M P\/aG a'=some P,λP=>D P\/G P,⟨⟨B.1,B.2.add he⟩,a',n+1,c',L.take (posOf (λP=>eR P.x e) L)++⟨e,H,I,J⟩::L.drop (posOf (λP=>eR P.x e) L),d6,?_,?_,?_,?_,.inl f.mp,?_,?_⟩,?_,?_,?_⟩
 ·refine a3.keep N λP b e=>?_
  have e:P=p:=e;rcases x P b with g|g
  ·exact b1 (e▸g)
  ·omega
 ·rw[b7]
  have c5:posOf (λi=>eR i e) l=posOf (λP:Bx ah=>eR P.x e) L:=by
   unfold posOf;rw[<-f.map,List.takeWhile_map,Q8];rfl
  show _=dI e l;rw[Ed c8,c5,Q3,QY,List.map_take,List.map_drop,f.map]
 ·have b2:∀P,G P->b6.heap.size<=P/\P<b8.heap.size:=λP b=>⟨Y P b,W.aE P b⟩
  intro i k;rcases Q6.1 k with k|k
  ·exact((f.NQ i (List.mem_of_mem_take k)).keep y λP b=>(f.dD P b).2).mono λP b=>.inl b
  rcases Q2.1 k with rfl|k
  ·refine⟨(((((W.keep a9 λP b e=>?_).af s).af (t.then u)).keep v λP b e=>?_).keep N λP b e=>?_).row (bytes:=8) dC (by rw[<-O.len];exact O.fj)|>.mono λP b=>.inr b,he⟩
   ·have e:P=w.heap.size:=e;have:=b2 P b;have:=aA V;omega
   ·have:=f.nx.aE P e;have:=b2 P b;omega
   ·have e:P=p:=e;have:=b2 P b;omega
  ·exact((f.NQ i (List.mem_of_mem_drop k)).keep y λP b=>(f.dD P b).2).mono λP b=>.inl b
 ·intro P b
  have hz:b8.heap.size<=d3.heap.size:=by have:=a9.size;have:=s.size;have:=t.size;have:=u.size;omega
  rcases b with b|b
  ·have g:=f.dD P b
   refine⟨by have:=y.size;omega,λz=>z.elim g.2 λe=>?_⟩;rcases x P e with A|A
   ·exact g.2 (f.ma P A).1
   ·omega
  ·have g:=W.aE P b;have h3:=Y P b
   have f8:=b4.size;refine⟨by have:=v.size;have:=N.size;omega,λz=>?_⟩;rcases z with z|e
   ·have:=f.dM P z;omega
   rcases x P e with A|A
   ·have:=f.nx.aE P A;omega
   ·omega
 ·intro P b
  refine⟨.inr b,λe=>?_⟩;rcases x P b with g|g
  ·exact b1 (e▸g)
  ·omega
 ·intro P b
  rcases b with b|b
  ·have:=f.dM P b;have:=y.size;omega
  ·have:=a3.aE P b;omega
 ·exact y
 ·intro P b
  rcases b with b|b
  ·exact .inl b
  rcases x P b with g|g
  ·exact .inl (f.ma P g).1
  ·exact .inr oM
 ·intro P b
  rcases b with b|b
  ·exact .inl b
  ·exact .inr (by have:=Y P b;omega)
end
end Go.Proofs.YtjgjkeponbeekaaGreatDoor
namespace Go.aw
open Go
variable{F a c i r:Nat}{f:ZN}{d:WP}{h:Program}{j:Type}{g p:TypeId}{b:World}{y:ZU}
def aV.S_{k:Nat}{n:j->List Value}{m:j->Prop}{hl h1}{P:List j}{x:j}(e:aV (flat k n m hl h1) p f b d a c P)(z:F<P.length)(A:0<k)(B:m x)(C:d=some ⟨i,r,none⟩)(E:iL h g (n x)=true)(o:∀l,aV (flat k n m hl h1) p f l d a c (P.set F x)->aj (λi=>aG d=some i) b l->l.heap.size=b.heap.size->y l):oG h g (.pointer (some ⟨i,r+F*k,none⟩)) (.agg (n x).toArray) b y:=by
 have L:=e.len A;obtain⟨cs,D,s,H,t⟩:=e.body;have M:cs.length=a*k:=s.length;have N:(F+1)*k<=a*k:=Q0 _ oM;have I:(F+1)*k=F*k+k:=by rw[X7,Nat.one_mul]
 refine s.store (m:=F*k) C E (by rw[hl];omega) λJ K u v=>o J ⟨⟨_,D,K,?_,t⟩,e.self,λi q=>by rw[v];exact e.aE i q⟩ u v;have w:=H.keep u λi q=>(t i q).2;rw[hl,<-I,show P.set F x=P.take F++[x]++P.drop (F+1) by rw[XQ,List.singleton_append];exact List.set_eq_take_append_cons_drop .. |>.trans (Zx z)];exact bV.append (bV.append (w.take F) (bV.one ⟨rfl,B⟩)) (w.drop (F+1))
end Go.aw
namespace Go.Proofs.YtjgjkeponbeekaaGreatDoor
section
open Go.aw
variable{Y m:Array Value}{z:FuncId}{Z f:ZN}{d:WP}{B:au}
section
variable {w w':World} {p:Nat} {M D T E:ZN} {most:Nat} {l:List ah} {a:WP} {n c:Nat} {L:List (Bx ah)}
def NR{pr:ah->Bool}(H:enters ZP z=true)(o:aV nC.kr 63 (λP=>aG a=some P) w a n c L)(hl:L.length<=20000000)(I:∀(P:Bx ah) e,aj (λP=>aG a=some P) w e->PP z (m++ #[kN P.x P.a P.n P.c]++Y) e (Ok λs w'=>s= .bool (pr P.x)/\ai e w')):
  PP 302 #[.slice a n c,.func (.func z) m Y] w (Ok λs w'=>∃p,s= .slice a p c/\aV nC.kr 63 (λP=>aG a=some P) w' a p c (L.filter λP=>!pr P.x)/\aj (λP=>aG a=some P) w w'):=by
 have hn:=o.len dC;have b6:=o.lA;have q:∀{e:World} {f:List (Bx ah)},aV nC.kr 63 (λP=>aG a=some P) e a n c f->f.length=L.length->Row nC.kr 96 e (λP=>aG a=some P) a n f:=λ{e f} Z b7=>Z.row dC ba;refine fP (PC.ok (AI (E:=λP=>aG a=some P) (L:=L) H (λd e=>(∀P∈L.take d,pr P.x=false)/\ai w e) (λd e=>(∀P∈L.take d,pr P.x=false)/\(∀P,L[d]? =some P->pr P.x=true)/\ai w e) ⟨sM,aj.refl _⟩ (λd e h1=>(q o rfl).af h1.2) ?_) ?_)
 ·rintro d P e h ⟨i,A⟩
  refine(I P e (ai.keep A)).mono ?_;rintro _ w2 ⟨s,rfl,rfl,J⟩;refine Ok.mk ?_
  cases K:pr P.x
  ·refine .inr ⟨rfl,λM g=>?_,A.then J⟩
   rw[Qw,h]at g;rcases Q6.1 g with g|g
   ·exact i M g
   ·simp at g;subst g;exact K
  ·exact .inl ⟨rfl,i,λM g=>by rw[h]at g;cases g;exact K,A.then J⟩
 rintro _ w4 (⟨k,b8,rfl,i,a0,r⟩|⟨rfl,i,r⟩)
 rotate_left
 ·refine⟨_,rfl,al.tt sM (Ok.mk ⟨n,rfl,?_,ai.keep r⟩)⟩
  rw[Qz oM]at i;rw[List.filter_eq_self.2 λP h=>by rw[i P h];rfl];exact o.af r
 have N:L[k]? =some L[k]:=Qq oM;have a8:(L.take (k+1)).filter (λP=>!pr P.x)=L.take k:=by
  rw[Qw,N,List.filter_append,List.filter_eq_self.2 λP h=>by rw[i P h];rfl];simp[a0 _ N]
 refine⟨_,rfl,al.ff sM ⟨λp l d w'=>∃(B j:Nat) (f:List (Bx ah)),l=B/\d=j/\B<j/\j<=n/\p=n-j/\aV nC.kr 63 (λP=>aG a=some P) w' a n c f/\f.length=L.length/\f.take B=(L.take j).filter (λP=>!pr P.x)/\f.drop j=L.drop j/\aj (λP=>aG a=some P) w w',
  ⟨_,k,k+1,L,rfl,an oM,oM,oM,rfl,o.af r,rfl,a8.symm,rfl,ai.keep r⟩,?_⟩⟩
 rintro p _ _ _ O ⟨l,d,f,rfl,rfl,b9,c1,rfl,t,C,u,Q,v⟩;refine al.dec (λc2=>?_) (λc3=>?_)
 ·have x:L[d]? =some L[d]:=Qq oM
  have R:f[d]? =some L[d]:=by
   have:=Zj (·[0]?) Q;simp only[List.getElem?_drop,Nat.add_zero]at this;rw[this,x]
  have S:f.drop (d+1)=L.drop (d+1):=by
   have:=Zj (List.drop 1) Q
   rwa [List.drop_drop,List.drop_drop]at this
  generalize L[d]=b at x R;obtain⟨P,T,es,E,c4,c5,a9,rfl,-⟩:=(q t C).el d b R;refine⟨P,T,E,oM,oM,ck (es:=aH b.x b.a b.n b.c) (k:=10) (bg _ _ _ _) rfl (λa1 ht=>by rw[Qx];exact a9 a1 ht) (PA.mk λc6 b0 c7 b1=>aC (bg b.x b.a b.n b.c) b1 rfl λU b2 c8 V=>ar (bg b.x b.a b.n b.c) V ⟨_,_,_,rfl,H,?_⟩)⟩;have W:ai O U:=b0.new b2 λP h=>.inr (by have h:P=O.heap.size:=h;omega);refine PC.ok (I b U (v.af W)) ?_;rintro _ c9 ⟨rfl,X⟩;have y:=W.then X;refine⟨_,rfl,al.not (al.mk (λF=>⟨_,?_,l,d+1,f,rfl,an oM,oM,oM,rfl,t.af y,C,?_,S,v.af y⟩) (λF=>?_))⟩
  ·omega
  ·rw[u,Qw,x,List.filter_append]
   simp[F]
  ·refine ar (bg b.x b.a b.n b.c) (X.get V id) ⟨P,T,E,oM,oM,?_⟩
   rw[Qx];refine aV.S_ (x:=b) (k:=10) (t.af y) oM dC trivial E (bg b.x b.a b.n b.c) λd0 a7 b3 d1=>⟨_,?_,l+1,d+1,f.set l b,an oM,an oM,oM,oM,rfl,a7,by simpa using C,?_,?_,(v.af y).then b3⟩
   ·omega
   ·rw[Qw (l:=L),x,List.filter_append,<-u,Qw,List.getElem?_set_self oM,List.take_set_of_le (Q4 _)]
    simp[F]
   ·rw[List.drop_set_of_lt oM,S]
 ·obtain rfl:d=n:=oM
  rw[Qz (l:=L) oM]at u;refine⟨oM,oM,?_⟩;rw[Qx];refine Az tQ kR t oM λwP b4 b5 d2=>⟨oM,oM,Ok.mk ⟨l,rfl,?_,v.then b5⟩⟩
  rw[<-u];exact b4
def NS{a b:Nat}(k:cI w a f B)(l:w.heap[b]? =some (.cells #[ZL a] 102 (0,0))){P:ah}{m o:Nat}:
  PP 300 #[kN P d m o,ZL b] w (Ok λp w'=>p= .bool (B.get (bd P)).isSome/\ai w w'):=by
 refine nE (PA.mk λv n x c=>⟨_,ae (n.get l id) rfl,_,_,ae c rfl,ae c rfl,PC.ok (Ta (k.af n) (bd P)) ?_⟩);rintro _ q ⟨e,g,h,G,rfl,y,z,i⟩;exact cx (sF _ e g h) ⟨_,rfl,PA.mk λA r C s=>aC (bg _ e g h) s rfl λE t F H=>Ok.mk ⟨rfl,((n.then i).then r).new t λu j=>.inr (by have j:u=q.heap.size:=j;have:=n.size;have:=i.size;omega)⟩⟩
def NT{e h:Nat}(l:cI w e f B)(m:w.heap[h]? =some (.cells #[ZL e] 102 (0,0))){P:ah}{g i:Nat}(o:Row aP 8 w Z d g P.aN)(j:∀n,Z n->n<w.heap.size/\¬f n)(p:P.Ok)(t:B.l.length<=20000000):
  PP 303 #[kN P d g i,ZL h] w (Ok λq w'=>q= .bool (decide ((B.add P).1=0))/\∃b,cI w' e b (B.add P).2/\cu f w b w'):=by
 refine nG (PA.mk λu a v r=>⟨_,ae (a.get m id) rfl,ar (bg P d g i) r (PC.ok (uU (l.af a) (o.af a) (λn c=>⟨by have:=(j n c).1;omega,(j n c).2⟩) p oM) ?_)⟩);rintro _ x ⟨rfl,b,s,k⟩;have:=a.size;exact⟨_,rfl,Ok.mk ⟨by congr 1,b,s,(ai.keep a).then k.keep,λn c=>(k.new n c).imp id oM⟩⟩
end
end
section
open Go.aw
variable{g1:List (Bx ah)}{f:ZN}{d:WP}{b:World}{B:au}
section
variable {w w':World} {p:Nat} {M D E:ZN} {most:Nat} {l:List ah} {a:WP} {n c:Nat} {L:List (Bx ah)}
structure SS (w:World) (p:Nat) (M:ZN) (most:Nat) (a:WP) (c s tb:Nat) (T:au) (nc:Nat) (Lc:List (Bx ah)) (oa:WP) (on oc:Nat) (Lo:List (Bx ah)) (w1:World):Prop where
 set:∃F1,cI w1 s F1 T/\(∀b,F1 b->w.heap.size<=b/\b≠tb)/\∀b,aG oa=some b->w.heap.size<=b/\¬F1 b/\b≠tb
 ptr:w1.heap[tb]? =some (.cells #[ZL s] 102 (0,0))
 buf:w1.heap[p]? =some (.cells #[ZH (most:Int),.slice a nc c] 147 (0,0))
 nx:aV nC.kr 63 (λb=>aG a=some b) w1 a nc c Lc
 out:aV nC.kr 63 (λb=>aG oa=some b) w1 oa on oc Lo
 keep:aj M w w1
def yi(h:Qg w p M D most l a n c L){q j:Nat}{i:Nat}{r s:Nat}{t:List (Bx ah)}(H:SS w p M most a c q j B i g1 d r s t b)(N:∀P∈g1,P∈L)(O:B.l.length<=20000000)(a6:g1.length<=20000000):
  PP 304 #[.slice a i c,.func (.func 303) #[] #[ZL j]] b (Ok λz w'=>
   (z= ZH (-1)/\(∀P∈g1,(B.add P.x).1≠0)/\SS w p M most a c q j B i g1 d r s t w')\/
   (∃g P,g<i/\z= ZH (g:Int)/\g1[g]? =some P/\(∀v∈g1.take g,(B.add v.x).1≠0)/\(B.add P.x).1=0/\SS w p M most a c q j (B.add P.x).2 i g1 d r s t w')):=by
 have R:=h.dM p h.mp;have a7:=H.nx.len dC;have S:∀P,aG a=some P->P<w.heap.size:=λP e=>h.dM P (h.ma P e).1;refine(AI (E:=λP=>aG a=some P) (L:=g1) kR (λg k=>(∀P∈g1.take g,(B.add P.x).1≠0)/\SS w p M most a c q j B i g1 d r s t k) (λg k=>∃P,g1[g]? =some P/\(∀v∈g1.take g,(B.add v.x).1≠0)/\(B.add P.x).1=0/\SS w p M most a c q j (B.add P.x).2 i g1 d r s t k) ⟨sM,H⟩
  (λg k f=>f.2.nx.row dC ba) ?_).mono ?_
 ·rintro g P k e ⟨I,f⟩
  obtain⟨T,U,x,A⟩:=f.set;have J:=(h.NQ P (N P (QZ e))).keep f.keep λP e=>(h.dD P e).2;have z2:=f.keep.size;refine(NT U f.ptr J.1 (λP e=>⟨by have:=(h.dD P e).1;omega,λm=>by have:=(h.dD P e).1;have:=(x P m).1;omega⟩) J.2 O).mono ?_;rintro _ V ⟨z,rfl,rfl,W,X,o⟩;have K:∀P,P<w.heap.size->¬T P:=λP e m=>by have:=(x P m).1;omega
  have Y:=aA f.ptr;have E:∀P,aG d=some P->P<k.heap.size:=λP e=>f.out.aE P e;have F:SS w p M most a c q j (B.add P.x).2 i g1 d r s t V:=⟨⟨W,X,λP e=>(o.new P e).elim (x P) λy=>⟨oM,oM⟩,λP e=>⟨(A P e).1,λm=>(o.new P m).elim (A P e).2.1 λy=>by have:=E P e;omega,(A P e).2.2⟩⟩,
   o.keep.get f.ptr λm=>(x _ m).2 rfl,o.keep.get f.buf (K p R),f.nx.keep o.keep λP e=>K P (S P e),f.out.keep o.keep λP e=>(A P e).2.1,f.keep.new o.keep λP e=>.inr (x P e).1⟩
  refine Ok.mk ?_
  by_cases u:(B.add P.x).1=0
  ·exact .inl ⟨by rw[Zy u],P,e,I,u,F⟩
  ·refine .inr ⟨by rw[Xv u],λv Q=>?_,?_⟩
   ·rw[Qw,e]at Q
    rcases Q6.1 Q with Q|Q
    ·exact I v Q
    ·simp at Q;subst Q;exact u
   ·rcases B.eT P.x with⟨-,y⟩|⟨y,-⟩
    ·rw[y]at F;exact F
    ·rw[y]at u;exact Zz rfl u
 ·rintro _ k ⟨z,rfl,Z⟩
  rcases Z with⟨g,hj,rfl,P,C,f,h3,h4⟩|⟨rfl,C,f⟩
  ·exact Ok.mk (.inr ⟨g,P,hj,rfl,C,f,h3,h4⟩)
  ·rw[Qz oM]at C
   exact Ok.mk (.inl ⟨rfl,C,f⟩)
def FN(d7:iu w p M D most l){b3:Nat}(hs:cI w b3 f B)(g3:B.Cl)(k2:B.l.length<=19000000):
  PP 247 #[ZL p,ZL b3] w (Ok λd8 w'=>∃q z E k,d8= .slice q z E/\aV nC.kr 63 (λP=>aG q=some P) w' q z E k/\k.map (·.x)=(bF B l).1/\(∀P∈k,nC.In w' D P)/\(∀P,aG q=some P->w.heap.size<=P)/\
   iu w' p M D most (bF B l).2/\aj M w w'):=by
 obtain⟨W,a,n,c,L,g⟩:=d7;have g4:=g.dM p g.mp;have X:∀P,aG a=some P->P<w.heap.size:=λP b=>g.dM P (g.ma P b).1;have k3:L.length=l.length:=by rw[<-g.map,Q8]
 have h1:l.length<=256:=Xx W.2.le W.1;have hN:=hs.1.n;refine qb (PC.ok (oJ hs) ?_);rintro _ w4 ⟨va,vn,vc,Fv,rfl,g6,k4,k5⟩;have d2:=g6.len dC;rw[B.cj]at d2;subst d2;refine⟨_,_,_,rfl,PC.ok (FO hN) ?_⟩;rintro _ A ⟨F,F2,rfl,d3,d4,k7⟩;have z4:=k4.size;have z7:=k7.size;refine⟨_,rfl,PA.mk λw9 k9 s9 g9=>PS.mk g9 sM λg7 g8 k6 h4=>?_⟩;have a1:ai A g7:=k9.new g8 λP b=>.inr (by have b:P=A.heap.size:=b;omega);have b4:=(k4.then k7).then a1;have Y:=d3.aE;refine PC.ok (si (hs.af b4) oM) ?_;rintro _ Z ⟨ea,en,ec,G,rfl,b9,a6,hG⟩;have k8:=b9.len dC;have l0:=a1.size;have l3:=a6.size;have e0:Row ku 96 Z G ea en B.l:=b9.row dC ba;have h6:Z.heap[A.heap.size]? =some (.cells #[ZL F] 102 (0,0)):=a6.get h4 id;have d6:=b9.aE;refine⟨_,_,_,rfl,λR a2 w'=>∃(e:Nat) (S:ZN),a2=e/\e<=en/\R=en-e/\cI w' F S ((⟨B.n,[]⟩:au).eB (B.l.take e))/\(∀P,S P->F2 P\/Z.heap.size<=P)/\aj F2 Z w',⟨_,0,F2,rfl,Qj _,rfl,d3.af (a1.then a6),λP b=>.inl b,aj.refl _⟩,?_⟩;rintro R _ _ a7 ⟨e,S,rfl,hj,rfl,a8,a9,T⟩;have l4:=T.size;have c1:=T.get h6 λH=>by have:=Y _ H;omega
 refine al.dec (λl5=>?_) (λl6=>?_)
 ·have K:B.l[e]? =some B.l[e]:=Qq oM
  generalize B.l[e]=N at K;have e7:=e0.keep T λP b H=>by have:=Y _ H;have:=hG P b;omega
  obtain⟨P,e8,es,ha,l7,l8,c2,xa,xn,xc,rfl,h7,f0⟩:=e7.el e N K;refine⟨P,e8,ha,oM,oM,ck (es:=aH N xa xn xc) (k:=10) (bg _ _ _ _) rfl (λa2 ht=>by rw[Qx];exact c2 a2 ht) (PA.mk λl9 h8 m1 h9=>aC (bg N xa xn xc) h9 rfl λi1 i3 m2 i4=>?_)⟩;have O:ai a7 i1:=h8.new i3 λP b=>.inr (by have b:P=a7.heap.size:=b;omega);have c3:=au.nH (B.l.take e) ⟨B.n,[]⟩;rw[Qy]at c3;simp only[ZQ]at c3;refine⟨_,ae (O.get c1 id) rfl,ar (bg N xa xn xc) i4 (PC.ok (uU (a8.af O) (h7.af O) (λP b=>⟨by have:=d6 P b;have:=O.size;omega,λH=>?_⟩) f0 oM) ?_)⟩
  ·rcases a9 P H with j|j
   ·have:=Y _ j;have:=hG P b;omega
   ·have:=d6 P b;omega
  rintro _ i5 ⟨rfl,F3,i6,d9⟩;refine⟨_,rfl,_,oM,e+1,F3,an oM,oM,rfl,?_,λP b=>?_,?_⟩
  ·rw[Qw,K]
   show cI i5 F F3 (au.eB _ (B.l.take e++[N]));rw[au.nI];exact i6
  ·rcases d9.new P b with j|j
   ·exact a9 P j
   ·have:=O.size;exact .inr oM
  ·exact(T.af O).new d9.keep λP b=>a9 P b
 rw[Qz oM,g3.Vo]at a8;have b5:ai w a7:=(b4.then a6).new T λP b=>.inr (by have:=d4 P b;omega);have c4:=g.keep b5 (λ_ _ g=>g) λ_ _ g=>g;have s:∀P,S P->w.heap.size<=P/\P≠A.heap.size:=λP b=>by
  rcases a9 P b with j|j
  ·have:=d4 P j;have:=Y P j;omega
  ·omega
 refine⟨p,0,rfl,_,_,_,ae c4.at' rfl,PC.ok (NR (pr:=λd=>(B.get (bd d)).isSome) kR c4.nx oM λP w1 hk=>?_) ?_⟩
 ·refine NS (a8.keep hk λP b d=>?_) (hk.get c1 λd=>?_)
  ·have:=X P d;have:=(s P b).1;omega
  ·have:=X _ d;omega
 rintro _ m3 ⟨m0,rfl,f1,e1⟩;have b0:¬aG a=some p:=λd=>(g.ma p d).2 rfl;refine⟨_,_,_,rfl,p,0,rfl,PS.mk (e1.get c4.at' b0) sM λe2 e3 m4 e4=>⟨p,0,rfl,_,_,_,ae e4 rfl,?_⟩⟩;obtain⟨t,y⟩:∃t,t=L.filter λP=>!(B.get (bd P.x)).isSome:=⟨_,rfl⟩
 have a3:aj (λP=>aG a=some P\/P=p) a7 e2:=(e1.mono λP _ b=>.inl b).then (e3.mono λP _ b=>.inr b);have XC:∀P,aG a=some P\/P=p->P<w.heap.size:=λP b=>b.elim (X P) λd=>d▸g4;have e5:SS w p M most a c F A.heap.size B m0 t none 0 0 [] e2:=by
  refine⟨⟨S,a8.keep a3 λP b d=>by have:=XC P d;have:=(s P b).1;omega,s,λP b=>by cases b⟩,a3.get c1 λd=>by have:=XC _ d;omega,e4,?_,(aV.nil _).mono (λP b=>b.elim) λP b=>(by cases b),?_⟩
  ·rw[y];exact f1.keep e3 λP b d=>b0 (by have d:P=p:=d;rw[<-d];exact b)
  ·exact(ai.keep b5).then (a3.mono λP _ b=>b.elim (λd=>(g.ma P d).1) λd=>d▸g.mp)
 have b6:∀P∈t,P∈L:=λP b=>by rw[y]at b;exact(List.mem_filter.1 b).1
 have a4:t.map (·.x)=l.filter λd=>(B.get (bd d)).isNone:=by
  rw[y,<-g.map,List.filter_map]
  congr 1
  refine List.filter_congr λP b=>?_;show(!(B.get (bd P.x)).isSome)=(B.get (bd P.x)).isNone
  cases B.get (bd P.x)<;>rfl
 have b7:t.length<=L.length:=by rw[y];exact List.length_filter_le ..
 refine PC.ok (yi g e5 b6 oM oM) ?_;rintro i7 m5 b8;obtain⟨i0,i8⟩:∃u:Int,i7= ZH u:=by
  rcases b8 with⟨m,-⟩|⟨e,P,-,m,-⟩
  ·exact⟨_,m⟩
  ·exact⟨_,m⟩
 subst i8;refine⟨_,rfl,λR q z E u w'=>∃(r:au) (h k:List (Bx ah)) (C U:Nat),R=h.length/\(∀P∈h,P∈L)/\(∀P∈k,P∈L)/\(h.map (·.x)).Sublist l/\h.length<=U/\r.l.length+h.length<=B.l.length+L.length/\h.length<=L.length/\k.length+h.length<=L.length/\C=h.length/\
   dm (U+1) r (h.map (·.x)) (k.map (·.x))=bF B l/\
   ((u= -1/\(∀P∈h,(r.add P.x).1≠0)/\SS w p M most a c F A.heap.size r C h q z E k w')\/
    (∃e P,e<C/\u=(e:Int)/\h[e]? =some P/\(∀v∈h.take e,(r.add v.x).1≠0)/\(r.add P.x).1=0/\SS w p M most a c F A.heap.size (r.add P.x).2 C h q z E k w')),?_,?_⟩
 ·have i9:=e5.nx.len dC
  refine⟨_,B,t,[],m0,t.length,rfl,b6,sM,by rw[a4];exact List.filter_sublist,Q4 _,oM,b7,by simpa using b7,i9,?_,?_⟩
  ·rw[a4]
   show dm (t.length+1) B _ []=_;unfold bF;rw[<-a4];show _=dm ((t.map (·.x)).length+1) B _ [];rw[Q8]
  ·rcases b8 with⟨m,I,J⟩|⟨e,P,m,I,J⟩
   ·exact .inl ⟨by simpa using m,I,J⟩
   ·exact .inr ⟨e,P,m,by simpa using I,J⟩
 rintro R q z E u _ j0 ⟨r,h,k,C,U,rfl,a5,c0,e6,hk,m6,k0,k1,m7,c6,j1⟩;rcases j1 with⟨rfl,c5,i⟩|⟨e,P,hj,rfl,b,c5,f5,i⟩
 ·refine al.ff sM (Ok.mk ⟨q,z,E,k,rfl,i.out,?_,λP b=>(g.NQ P (c0 P b)).keep i.keep λP b=>(g.dD P b).2,λP b=>by obtain⟨F1,-,-,j⟩:=i.set;exact(j P b).1,⟨⟨W.1,?_⟩,a,C,c,h,i.buf,i.nx,?_,λP b=>(g.NQ P (a5 P b)).keep i.keep λP b=>(g.dD P b).2,λP b=>⟨by have:=(g.dD P b).1;have:=i.keep.size;omega,(g.dD P b).2⟩,g.mp,g.ma,λP b=>by have:=g.dM P b;have:=i.keep.size;omega⟩,i.keep⟩)
  all_goals
   have f7:bF B l=(k.map (·.x),h.map (·.x)):=by
    rw[<-c6];unfold dm;rw[tj λd he=>by obtain⟨P,b,rfl⟩:=Xk.1 he;exact c5 P b]
   rw[f7]
  exact W.2.sub e6
 ·have j2:e<h.length:=oM
  have m8:=i;obtain⟨F1,e9,f2,b1⟩:=i.set;have m9:=i.keep.size;have c3:=r.Af P.x;obtain⟨gb,go,es,ha,n0,n1,c2,rfl,-⟩:=(i.nx.row (bytes:=96) dC ba).el e P b;have d:=λu (hi:u<10)=>c2 u hi;refine al.dec (λ_=>⟨p,0,rfl,_,_,_,ae i.buf rfl,gb,go,ha,oM,oM,_,_,_,_,_,_,_,_,_,_,_,_,d 0 dC,d 1 dC,d 2 dC,d 3 dC,d 4 dC,d 5 dC,d 6 dC,d 7 dC,d 8 dC,d 9 dC,PA.mk λj3 f3 n2 j4=>?_⟩) (λhn=>oM);have n3:=i.out.len dC;refine fK (c:=nC.kr) (x:=P) (D:=λ_=>False) (i.out.af f3) tQ j4 ⟨rfl,trivial⟩ (λP b=>b.elim) ba (by unfold maxLen;omega) λV b2 f4 Fo c7 j5 j6=>⟨_,_,_,rfl,p,0,rfl,?_⟩
  have f8:=c7.alone;have d0:∀P,aG V=some P->aG q=some P\/j3.heap.size<=P:=λP b=>(j6 P (c7.self P b)).imp id λg=>g.resolve_left id;have o:∀P,aG q=some P->w.heap.size<=P:=λP b=>(b1 P b).1;have Q:aj (λP=>aG q=some P) j0 f4:=(ai.keep f3).then j5;have f6:=Q.get i.buf λd=>by have:=o _ d;omega
  have f9:=i.nx.keep Q λP b d=>by have:=o _ d;have:=X P b;omega
  have n4:=Q.size;refine⟨_,_,_,ae f6 rfl,PC.ok (Vn f9 hj oM) ?_⟩;rintro _ n8 ⟨rfl,g5,c8⟩;have n9:=c8.size;refine⟨_,_,_,rfl,p,0,rfl,PS.mk (c8.get f6 b0) sM λg0 g1 o0 g2=>⟨p,0,rfl,_,_,_,ae g2 rfl,?_⟩⟩;have o1:(h.eraseIdx e).length=h.length-1:=List.length_eraseIdx_of_lt j2;have a0:aj (λP=>aG a=some P\/P=p) f4 g0:=(c8.mono λP _ b=>.inl b).then (g1.mono λP _ b=>.inr b);have c9:∀P,w.heap.size<=P->¬(aG a=some P\/P=p):=λP b d=>by have:=XC P d;omega
  have j7:SS w p M most a c F A.heap.size (r.add P.x).2 (C-1) (h.eraseIdx e) V (z+1) b2 (k++[P]) g0:=by
   refine⟨⟨F1,(e9.keep Q λP b d=>(b1 P d).2.1 b).keep a0 λP b=>c9 P (f2 P b).1,f2,λP b=>?_⟩,a0.get (Q.get i.ptr λd=>(b1 _ d).2.2 rfl) (c9 _ oM),g2,g5.keep g1 λP b d=>b0 (by have d:P=p:=d;rw[<-d];exact b),f8.keep a0 λP b=>c9 P ?_,?_⟩
   ·rcases d0 P b with j|j
    ·exact b1 P j
    ·have hd:=e9.aE
     have o2:=aA i.ptr;exact⟨oM,λH=>by have:=hd P H;omega,oM⟩
   ·rcases d0 P b with j|j
    ·exact o P j
    ·omega
   ·exact(i.keep.new Q λP b=>.inr (o P b)).then (a0.mono λP _ b=>b.elim (λd=>(g.ma P d).1) λd=>d▸g.mp)
  have d1:∀v∈h.eraseIdx e,v∈L:=λv x=>a5 v ((List.eraseIdx_sublist ..).subset x);refine PC.ok (yi g j7 d1 oM oM) ?_;rintro j8 o3 d5;obtain⟨i2,j9⟩:∃u:Int,j8= ZH u:=by
   rcases d5 with⟨m,-⟩|⟨e,P,-,m,-⟩
   ·exact⟨_,m⟩
   ·exact⟨_,m⟩
  subst j9;have h0:∃k',U=k'+1:=⟨U-1,oM⟩
  obtain⟨k',rfl⟩:=h0;refine⟨_,rfl,(h.eraseIdx e).length,oM,(r.add P.x).2,h.eraseIdx e,k++[P],C-1,k',rfl,d1,?_,?_,oM,oM,oM,by simp;omega,oM,?_,?_⟩
  ·intro v x
   rcases Q6.1 x with x|x
   ·exact c0 v x
   ·simp at x;subst x;exact a5 v (QZ b)
  ·exact((List.eraseIdx_sublist ..).map _).trans e6
  ·rw[<-c6]
   conv=>rhs;unfold dm
   rw[tk (i:=e) (e:=P.x) (λN K=>by rw[<-List.map_take]at K;obtain⟨v,x,rfl⟩:=Xk.1 K;exact c5 v x) (by rw[Q9,b];rfl) f5];show _=dm (k'+1) (r.add P.x).2 ((h.map (·.x)).eraseIdx e) (k.map (·.x)++[P.x]);rw[map_eraseIdx,Q3];rfl
  ·rcases d5 with⟨m,I,J⟩|⟨e,P,m,I,J⟩
   ·exact .inl ⟨by simpa using m,I,J⟩
   ·exact .inr ⟨e,P,m,by simpa using I,J⟩
end
def uz:lx:=⟨[(3,[(6,.slice none 0 0),(16,ZH 0)])],[],[5,12],[],[(5,⟨[0,1,2,4,0,16,40,64,128,128,511,2047],[4095,4094,4093,4091,4095,4079,4055,4031,3967,3967,3839,3583],[0,0,0,1,0,2,2,0,0,0,0,0]⟩),(12,⟨[0,0,2,4,8,0,32,0,208,257,1023],[2047,2047,2045,2043,2039,2047,2015,2047,1839,2046,1791],[0,0,0,0,1,0,2,0,2,0,0]⟩)]⟩
variable{A:ZT}{e:Int}{s:List Int}{u:List UInt8}{H:List ah}{a c i r:Nat}{Z:ZN}{x:WP}{o:ZR}{k:World}{y:ZU}{l:ah}{W:bS}{b2:dv}
def uA(N:PA b (.cells #[.slice x a c] 211) λu=>(rS u (ab_ b 0) λO v c3=>(∃o:Nat->WP->Nat->Nat->Int->ZU,(∃P,o P none 0 0 0 u)/\∀(P:Nat) (e:WP) (f:Nat) (g:Nat) (n:Int) (c4:Nat->Value) (h:World),o P e f g n h->al (decide (n<(v:Int))) ((ix_ O n v λQ R=>(rI h (ad Q (R+Int.toNat n)) λi=>(∀j,cy h j->∃p:ZN,(dr d λw S=>(¬p w/\(rP j (ad w S) λT=>PC_ 146 #[.ii i] j (λU q=>∃y,U= .string y/\(aj p j q/\PC_ 162 #[.pointer T,.string y] q (λV k=>∃W z X B,V= .tuple #[.slice W z X,.ii B]/\(aj p q k/\al (B !=0) (rt A ((.tuple #[.slice e f g,.ii 0])) k) ((dr d λY Z=>(rP k (ad Y Z) λa1=>PC_ 168 #[.pointer a1,.ii i] k (λa2 a3=>∃D C E l,a2= .tuple #[.slice D C E,.ii l]/\PR_ (ap_ 59 (.slice e f g) (.slice D C E)) a3 (kS_ λG F H r=>(dr d λa4 a5=>(rS r (ad a4 (a5+2)) λa6 a7 a8=>PA r (.cells #[.ii i] 3) λa9=>PR_ (ap_ 42 (.slice a6 a7 a8) (.slice (some (ab_ r 0)) 1 1)) a9 (kS_ λb0 b1 b2 b3=>(dr d λb4 b5=>PS b3 (ad b4 (b5+2)) (.slice b0 b1 b2) λb6=>(dr d λb7 b8=>PS b6 (ad b7 (b8+3)) (.ii l) λI=>al (decide (l<(z:Int))) ((∀m,cy I m->∃s:ZN,(dr d λJ b9=>(¬s J/\(rP m (ad J b9) λc0=>PC_ 146 #[.ii i] m (λc1 t=>∃K,c1= .string K/\(aj s m t/\PC_ 169 #[.pointer c0,.string K,.ii l] t (kI_ λc2 L=>(aj s t L/\rt A ((.tuple #[.slice G F H,.ii c2])) L)) (pZ A))) (pZ A)))))) ((∃M,M<P/\o M G F H (ZG .i64 (n+1)) I))))) (pV A)))) (pV A)) (pE A)))))) (pZ A))) (pZ A)))))))) (rt A ((.tuple #[.slice e f g,.ii 0])) h)))):PP 110 #[.pointer d,.agg #[.slice x a c]] b A:=DC uz Tryz.func110 rfl N
def nq(n:dv)(D:ak):Int×dv×ak:=
 let b:=cF (ax n.next)
 let P:=D.sync b
 if P.1≠0 then(P.1,n,(P.2.delete b).2)else
 let a:=bA P.2 (n.a_++[n.next])
 if a.1≠0 then(a.1,n,(a.2.delete b).2)else
 (0,⟨n.size,n.a_++[n.next],0,ZG .i64 (n.next+1)⟩,a.2)
def bz(P:dv)(D:ak):Int×dv×ak:=
 let n:=D.create (cF (ax P.next))
 if n.1≠0 then(n.1,P,n.2)else nq P n.2
def aK(n:dv)(D:ak):Int×dv×ak:=
 if n.a_=[]then bz n D else
 let P:=D.sync n.last
 if P.1≠0 then(P.1,n,P.2)else bz n P.2
def EN(b c:World)(d e:Nat)(P:ZN)(n:Int×dv×ak)(f:Value)(a:World):Prop:=f= ZH n.1/\cE b a d e n.2.1 n.2.2 P/\aj (dS P) c a
def RX(n:Int):aM (ZG .i64 n):=by
 unfold aM ZG;simp[IntKind.signed,IntKind.bits];omega
def GX{D:ak}{P:List Int}(n:(bA D P).1=0):P.length<=64:=by
 unfold bA at n;split at n
 ·cases n
 ·omega
def EO{D:ak}(hL:Laid b)(h:cE b k a c b2 D f):
  PP 111 #[ZL c] k (Ok (EN b k a c f (aK b2 D))):=by
 have a1:=h.aE;obtain⟨p4,j5,e7⟩:=h.YO;have p5:=h.gr.size;have e9:=h.By;have j6:=h.many;refine ub (PA.mk λB k1 s1 g1=>PA.mk λw2 k2 s2 g2=>?_);have d8:ai k w2:=k1.then k2
 let b6:ZN:=λn=>f n\/(n=k.heap.size\/n=B.heap.size)
 have hY:cE b w2 a c b2 D b6:=h.add d8 λn P=>by omega
 have b7:=k2.get g1 id;refine⟨λd=>∃C,cE b d a c b2 C b6/\aj (dS f) k d/\w2.heap.size<=d.heap.size/\d.heap[k.heap.size]? =some (.cells #[ZL c] 101 (0,0))/\d.heap[B.heap.size]? =some (.cells #[ZH 0] 34 (0,0))/\aK b2 D=bz b2 C,?_,?_⟩
 ·obtain⟨G,hD,hl,hG⟩:=id hY
  obtain⟨t,E,I,l,S,hr,hE,u⟩:=hl.row;refine⟨_,ae b7 rfl,c,0,rfl,_,_,_,ae S rfl,al.dec (λo7=>?_) (λy=>?_)⟩
  ·have v:b2.a_≠[]:=λg=>by rw[g]at u;simp at u;omega
   refine⟨_,ae b7 rfl,PC.ok (Ji hL hY v) ?_⟩;rintro _ w3 ⟨rfl,Y,k3⟩;have kX:aj (dS f) k w3:=(ai.keep d8).then (k3.mono λn _ P i=>P (.inl i));have b8:=k3.get b7 λu=>u (.inr (.inl rfl));have b9:=k3.get g2 λu=>u (.inr (.inr rfl));have hB:aK b2 D=if(D.sync b2.last).1≠0 then((D.sync b2.last).1,b2,(D.sync b2.last).2)else bz b2 (D.sync b2.last).2:=by unfold aK;rw[Zq v]
   refine⟨_,rfl,al.eO (λf6=>?_) (λF=>⟨_,Y,kX,k3.size,b8,b9,by rw[hB,Zq (by simpa using F)]⟩)⟩;refine PS.mk b9 sM λJ L s4 g4=>⟨_,ae g4 rfl,Ok.mk ?_⟩
   rw[hB,Zx f6];exact⟨rfl,(Y.other L λn P=>⟨P▸.inr (.inr rfl),oM⟩).mono λn P=>.inl P,kX.then (L.mono λn _ P i=>by have:=a1 n i;omega)⟩
  ·have he:b2.a_=[]:=QW oM
   exact⟨D,hY,ai.keep d8,Q4 _,b7,g2,by unfold aK;rw[Zx he]⟩
 rintro _ w3 ⟨C,Y,b3,o8,b8,b9,hB⟩;rw[hB];obtain⟨G3,p6,j7,p7⟩:=id Y;obtain⟨f7,n3,f9,E3,j8,-,-,-⟩:=j7.row;refine⟨_,ae b8 rfl,c,0,rfl,_,ae j8 rfl,PC.ok (kh (hL.af Y.gr) e9) ?_⟩;rintro _ J ⟨rfl,L⟩;refine⟨_,rfl,PA.mk λw5 k5 s5 g5=>PS.mk g5 sM λw6 k6 s6 g6=>?_⟩
 let p:ZN:=λn=>b6 n\/n=J.heap.size
 have f8:=Y.af L;have p8:=f8.gr.size;have p9:=L.size;have j9:cE b w6 a c b2 C p:=(f8.add (Y:=(·=J.heap.size)) k5 λn P=>oM).other k6 λn P=>⟨.inr P,oM⟩
 have k0:aj (dS f) k w6:=((b3.af L).af k5).then (k6.mono λn _ P i=>by have:=a1 n i;have:=b3.size;omega);have e0:∀{n},f n->p n:=λi=>.inl (.inl i);intro M e4;have k7:ai w6 M:=e4.keep;have g0:=j9.af k7;have gn:w6.heap[J.heap.size]? =some (.cells #[.string (cF (ax b2.next))] 9 (0,0)):=g6;have l0:=k6.get (k5.get (L.get b8 id) id) oM;have g3:=k6.get (k5.get (L.get b9 id) id) oM
 let q:World->Int->Prop:=λd g=>d.heap[k.heap.size]? =some (.cells #[ZL c] 101 (0,0))/\d.heap[B.heap.size]? =some (.cells #[ZH g] 34 (0,0))/\d.heap[J.heap.size]? =some (.cells #[.string (cF (ax b2.next))] 9 (0,0))
 have C6:q w6 0:=⟨l0,g3,gn⟩
 have e:∀{d w:World} {g:Int} {d0:ZN},q d g->aj d0 d w->(∀n,d0 n->¬(n=k.heap.size\/n=B.heap.size\/n=J.heap.size))->q w g:=λN o hS=>
  ⟨o.get N.1 λO=>hS _ O (.inl rfl),o.get N.2.1 λO=>hS _ O (.inr (.inl rfl)),o.get N.2.2 λO=>hS _ O (.inr (.inr rfl))⟩
 have j:∀{d w:World} {g:Int},q d g->aj (dS p) d w->q w g:=λN o=>e N o λn P hc=>P (by
  rcases hc with rfl|rfl|rfl
  ·exact .inl (.inr (.inl rfl))
  ·exact .inl (.inr (.inr rfl))
  ·exact .inr rfl)
 have c1:∀{d w:World},aj (dS f) k d->aj (dS p) d w->aj (dS f) k w:=λt n=>t.then (n.mono λn _ P i=>P (e0 i));have C7:q M 0:=e C6 k7 λn P=>P.elim;obtain⟨G7,q0,l3,q1⟩:=id g0;obtain⟨h0,n7,k4,E7,l4,-,-,-⟩:=l3.row;refine⟨_,ae C7.1 rfl,c,0,rfl,_,ae l4 rfl,_,ae C7.2.2 rfl,PC.ok (g0.on (λp hZ T=>T.create)) ?_⟩;rintro _ w8 ⟨rfl,c2,k8⟩;have C8:=j C7 k8;have g7:=c1 (k0.af k7) k8;have l5:bz b2 C=if(C.create (cF (ax b2.next))).1≠0 then((C.create (cF (ax b2.next))).1,b2,(C.create (cF (ax b2.next))).2)else nq b2 (C.create (cF (ax b2.next))).2:=rfl
 rw[l5];generalize q2:C.create (cF (ax b2.next))=cr at c2⊢;obtain⟨l1,K⟩:=cr;simp only at c2⊢;have q3:B.heap.size<w2.heap.size:=oM
 have g8:∀{d:World} {z:Int×dv×ak} {g:Int} {w:World},cE b d a c z.2.1 z.2.2 p->aj (dS f) k d->aj (·=B.heap.size) d w->g=z.1->EN b k a c f z (ZH g) w:=by
  intro d z g w u o O he;exact⟨by rw[he],(u.other O λn P=>⟨P▸.inl (.inr (.inr rfl)),oM⟩).mono λn P=>e0 P,o.then (O.mono λn _ P i=>by have:=a1 n i;omega)⟩
 refine⟨_,rfl,al.eO (λv=>?_) (λF=>?_)⟩
 ·refine PS.mk C8.2.1 sM λw9 k9 s9 g9=>⟨_,ae g9 rfl,Ok.mk ?_⟩
  rw[Zx v];exact g8 c2 g7 k9 rfl
 rw[Zq (by simpa using F)];have A:∀{z:Int×dv×ak} (g:Int) (l:ak) (d:World),cE b d a c b2 l p->aj (dS f) k d->q d g->g≠0->z=(g,b2,(l.delete (cF (ax b2.next))).2)->
   Lv ZP (λh2=>∃h3:Int,h2.cell? ⟨B.heap.size,0,none⟩=some (ZH h3)/\Ok (EN b k a c f z) (.returned (ZH h3)) h2) (λch d=>Ok (EN b k a c f z) (.panicked ch) d)
    ([{target:=.fn (.func 171) #[ZL B.heap.size,ZL k.heap.size,ZL J.heap.size],args:= #[]}]:List Deferred) .returning d:=by
  intro z g l d u o N v hr;refine Lv.one sM kR (CallsD.mono (jt (R:=λe' M=>e'= .returned (.tuple #[])/\∃h4:Int,M.cell? ⟨B.heap.size,0,none⟩=some (ZH h4)/\Ok (EN b k a c f z) (.returned (ZH h4)) M) ⟨_,ae N.2.1 rfl,al.eO (λ_=>?_) (λF=>Zz F v)⟩) ?_)
  ·intro wa da
   have ka:ai d wa:=da.keep;have h5:=u.af ka;have e1:q wa g:=e N ka λn P=>P.elim;obtain⟨Ga,q4,l6,q5⟩:=id h5;obtain⟨aa,na,ca,Ea,c0,-,-,-⟩:=l6.row;refine⟨_,ae e1.1 rfl,c,0,rfl,_,ae c0 rfl,_,ae e1.2.2 rfl,PC.ok (h5.on (λp hZ T=>T.delete)) ?_⟩;rintro _ U ⟨rfl,l7,kb⟩;have l8:=j e1 kb;refine⟨_,rfl,rfl,_,ae l8.2.1 rfl,Ok.mk ?_⟩;rw[hr];exact⟨rfl,l7.mono λn P=>e0 P,c1 (o.af ka) kb⟩
  ·rintro e' u' M ⟨rfl,rfl,hX⟩
   exact Lv.ret rfl hX
 intro w9 e5;have k9:ai w8 w9:=e5.keep;have h6:=c2.af k9;have C9:q w9 0:=e C8 k9 λn P=>P.elim;obtain⟨G9,q6,l9,q7⟩:=id h6;obtain⟨l2,n9,n5,E9,m0,-,-,-⟩:=l9.row;refine⟨_,ae C9.1 rfl,c,0,rfl,_,ae m0 rfl,_,ae C9.2.2 rfl,PC.ok (h6.on (λp hZ T=>T.sync)) ?_⟩;rintro _ Z ⟨rfl,V,h7⟩;have b0:=j C9 h7;have d1:=c1 (g7.af k9) h7;have m1:nq b2 K=if(K.sync (cF (ax b2.next))).1≠0 then((K.sync (cF (ax b2.next))).1,b2,((K.sync (cF (ax b2.next))).2.delete (cF (ax b2.next))).2)else
   if(bA (K.sync (cF (ax b2.next))).2 (b2.a_++[b2.next])).1≠0 then((bA (K.sync (cF (ax b2.next))).2 (b2.a_++[b2.next])).1,b2,((bA (K.sync (cF (ax b2.next))).2 (b2.a_++[b2.next])).2.delete (cF (ax b2.next))).2)else
   (0,⟨b2.size,b2.a_++[b2.next],0,ZG .i64 (b2.next+1)⟩,(bA (K.sync (cF (ax b2.next))).2 (b2.a_++[b2.next])).2):=rfl
 rw[m1];generalize q8:K.sync (cF (ax b2.next))=sy at V⊢;obtain⟨q9,c4⟩:=sy;dsimp only at V;refine⟨_,rfl,al.eO (λv=>?_) (λF=>?_)⟩
 ·refine PS.mk b0.2.1 sM λr s r0 m2=>?_
  rw[Zx v];exact A _ c4 r (V.other s λn P=>⟨P▸.inl (.inr (.inr rfl)),oM⟩) (d1.then (s.mono λn _ P i=>by have:=a1 n i;omega)) ⟨s.get b0.1 oM,m2,s.get b0.2.2 (by have:=b3.size;omega)⟩ v rfl
 rw[Zq (by simpa using F)];have o9:J.heap.size<Z.heap.size:=aA b0.2.2;refine⟨λt E I d=>∃l,aV aP 3 l d t E I (b2.a_++[b2.next])/\(∀n,l n->Z.heap.size<=n)/\ai Z d,?_,?_⟩
 ·intro r m3
  have s:ai Z r:=m3.keep;have a5:=V.af s;have b1:q r 0:=e b0 s λn P=>P.elim;obtain⟨m4,h8,W,h9⟩:=id a5;obtain⟨m5,m6,m7,m8,a6,d2,d3,p0⟩:=W.row;have p1:=W.aE c W.self;have a2:∀{wa U wc:World} {S:Nat} {t E I:_} {a3:ZN},aV aP 3 a3 U t E I b2.a_->(∀n,a3 n->r.heap.size<=n/\n≠S)->U.heap[S]? =some (.cells #[ZH b2.next] 3 (0,0))->ai r U->
    ∀κ ε,(∀X n' c' d,(∃l,aV aP 3 l d X n' c' (b2.a_++[b2.next])/\(∀n,l n->Z.heap.size<=n)/\ai Z d)->aj (λn=>r.heap.size<=n) U d->κ (.slice X n' c') d)->
    aJ ZP (Builtin.append_ #[42,42] 42 #[.slice t E I,.slice (ZM S) 1 1]) U κ ε:=by
   intro wa U wc S t E I a3 Q hF hg o κ ε c3;refine lK Q uW (D:=(·=S)) (Row.lit hg [b2.next] rfl (λd4 i=>by simp at i;subst i;exact e9) (by unfold aT;simp)) (λn g=>⟨g▸aA hg,λe8=>(hF n (Q.self n e8)).2 g⟩) (by unfold aT;simp;omega) (by unfold maxLen;simp;omega) λX c' d F' c7 a4 _ c9=>?_;refine c3 X _ c' d ⟨λn=>aG X=some n,c7.alone,λn P=>?_,?_⟩ (a4.mono λn _ P=>(hF n (Q.self n P)).1)
   ·have:=s.size;have:=o.size
    rcases c9 n P with h|h
    ·have:=(hF n h).1;omega
    ·omega
   ·exact(s.then o).new a4 λn P=>.inr (by have:=(hF n (Q.self n P)).1;have:=s.size;omega)
  have r3:k.heap.size<r.heap.size:=aA b1.1;refine⟨λn=>r.heap.size<=n,oM,_,ae b1.1 rfl,c,0,rfl,oM,_,_,_,ae a6 rfl,oM,_,ae b1.1 rfl,c,0,rfl,oM,_,ae a6 rfl,?_,?_⟩
  ·refine PC.ok (bP d2 λn P=>W.aE n (d3 n P).1) ?_
   rintro _ b4 ⟨r4,r5,r6,r7,rfl,a7,H,i0⟩;refine⟨_,_,_,rfl,H.keep,PA.mk λx m m9 e3=>⟨m.keep,a2 (wa:=x) (wc:=x) (a7.af m) (λn P=>⟨i0 n P,by have:=a7.aE n P;omega⟩) e3 (H.then m) _ _ λX n' c' d hJ o=>⟨_,_,_,rfl,o,trivial,hJ⟩⟩⟩
  ·refine PA.mk λb4 H r8 n0=>⟨H.keep,PC.ok (bP (d2.af H) λn P=>by have:=W.aE n (d3 n P).1;have:=H.size;omega) ?_⟩
   rintro _ x ⟨n1,n2,n4,r9,rfl,a8,m,d5⟩;exact⟨_,_,_,rfl,m.keep,a2 (wa:=x) (wc:=x) a8 (λn P=>⟨by have:=d5 n P;omega,by have:=d5 n P;omega⟩) (m.get n0 id) (H.then m) _ _ λX n' c' d hJ o=>⟨_,_,_,rfl,o,trivial,hJ⟩⟩
 rintro t E I _ r ⟨l,Q,hE,s⟩;have p2:(b2.a_++[b2.next]).length<=65:=by simp;omega
 have a5:cE b r a c b2 c4 (λn=>p n\/l n):=V.add s λn P=>⟨hE n P,Q.aE n P⟩
 have b1:q r 0:=e b0 s λn P=>P.elim;have d6:Row aP 8 r l t E (b2.a_++[b2.next]):=Q.row dC ba;have f0:∀d4∈b2.a_++[b2.next],aM d4:=No d6;obtain⟨m4,h8,W,h9⟩:=id a5;obtain⟨m5,m6,m7,m8,a6,-,-,-⟩:=W.row;refine⟨_,ae b1.1 rfl,c,0,rfl,_,ae a6 rfl,PC.ok (a5.on λZ' n8 T=>T.bA hL.qf d6 f0 λn P=>.inr (n8 n (.inr P))) ?_⟩;rintro _ b4 ⟨rfl,a9,H⟩;have R:aj (dS p) r b4:=H.mono λn _ P y=>P (.inl y);have c5:=j b1 R;have d7:=c1 (d1.af s) R;have a7:=Q.keep H λn P u=>u (.inr P);have b5:= @GX c4 (b2.a_++[b2.next]);have i1:True:=trivial;generalize s0:bA c4 (b2.a_++[b2.next])=mw at a9 b5 i1⊢;obtain⟨s3,c6⟩:=mw;dsimp only at a9 b5 i1⊢;refine⟨_,rfl,al.eO (λv=>?_) (λF=>?_)⟩
 ·refine PS.mk c5.2.1 sM λx m m9 e3=>?_
  rw[Zx v];have f1:cE b b4 a c b2 c6 p:=a9.mono λn P=>.inl P;exact A _ c6 x (f1.other m λn P=>⟨P▸.inl (.inr (.inr rfl)),oM⟩) (d7.then (m.mono λn _ P i=>by have:=a1 n i;omega)) ⟨m.get c5.1 oM,e3,m.get c5.2.2 (by have:=b3.size;omega)⟩ v rfl
 rw[Zq (by simpa using F)];have b5:=b5 F;intro x o0;have m:ai b4 x:=o0.keep;have i2:=a9.af m;have e6:q x 0:=e c5 m λn P=>P.elim;have a8:=a7.af m;obtain⟨s7,i3,d9,p3⟩:=id i2;obtain⟨n1,n2,n4,s8,i4,-,-,-⟩:=d9.row;have i5:∀n,l n->n≠c:=λn P g=>by have:=hE n P;omega
 have o1:c≠k.heap.size/\c≠B.heap.size/\c≠J.heap.size:=by have:=b3.size;omega
 refine⟨(·=c),_,ae e6.1 rfl,λg=>o1.1 g.symm,_,ae e6.1 rfl,c,0,rfl,PS.mk i4 sM λt0 i6 t1 o2=>⟨i6,c,0,rfl,PS.mk o2 sM λo3 i7 t2 i8=>⟨i7,?_⟩⟩⟩;have e2:=i6.then i7;have i9:q o3 0:=e e6 e2 λn P hc=>by subst P;omega
 refine⟨_,ae i9.1 rfl,c,0,rfl,_,ae i8 rfl,c,0,rfl,PS.mk i8 sM λc8 j0 t3 j1=>?_⟩;have o4:q c8 0:=e i9 j0 λn P hc=>by subst P;omega
 have a0:aj (·=c) x c8:=e2.then j0;refine PS.mk o4.2.1 sM λo5 o6 t4 j2=>Lv.one sM kR (CallsD.mono (jt (R:=λe' M=>e'= .returned (.tuple #[])/\M=o5) ⟨_,ae j2 rfl,al.eO (λhc=>Zz rfl hc) (λ_=>⟨rfl,rfl⟩)⟩) ?_);rintro e' u' _ ⟨rfl,rfl,rfl⟩;refine Lv.ret rfl ⟨_,ae j2 rfl,Ok.mk ?_⟩;have j3:c8.heap[c]? =some (.cells #[ZL a,ZH b2.size,.slice t E I,ZH 0,ZH (ZG .i64 (b2.next+1))] 209 (0,0)):=j1;have j4:cE b c8 a c ⟨b2.size,b2.a_++[b2.next],0,ZG .i64 (b2.next+1)⟩ c6 p:=by
  refine⟨λn=>n=c\/l n,?_,⟨⟨t,E,I,l,j3,a8.keep a0 λn P g=>i5 n P g,λn P=>⟨.inr P,i5 n P⟩⟩,.inl rfl,?_,b5,?_⟩,?_⟩
  ·have h1:aY b x a c6 (λn=>p n\/(n=c\/l n)):=i3.mono λn P=>by
    rcases P with P|P|P
    ·exact .inl (.inl P)
    ·exact .inr (P▸d9.self)
    ·exact .inl (.inr P)
   obtain⟨a3,f2,f4,f3,f5⟩:=h1;exact⟨a3,f2.keep a0 λn P g=>(f3 n P).2 (.inr (.inl g)),f4.new a0 λn P=>.inr oM,f3,λn P=>Qk (f5 n P) a0.size⟩
  ·rintro n (rfl|P)
   ·exact aA j1
   ·exact Qk (a8.aE n P) a0.size
  ·show aM (ZG .i64 (b2.next+1))
   exact RX _
  ·rintro n (rfl|P)
   ·exact⟨j5,λy=>by
     rcases y with(y|y|y)|y
     ·exact e7 y
     ·omega
     ·omega
     ·omega⟩
   ·have:=hE n P
    exact⟨by have:=V.gr.size;omega,λy=>by have:=V.aE n y;omega⟩
 exact g8 j4 ((d7.af m).then (a0.mono λn _ P i=>e7 (P▸i))) o6 rfl
def ay(no:Int):ByteArray:=cF (ax no)
structure pk where
 no:Int
 out:List ah
 V:dv
 D:ak
def cO:List Int->List ah->dv->ak->pk
 |[],n,P,D=>⟨0,n,P,D⟩
 |no::a,n,P,D=>
  if(D.read (ay no)).2≠0 then⟨0,n,P,D⟩else
  if(bE (D.read (ay no)).1).2<(D.read (ay no)).1.length then
   ⟨(D.oh (ay no) (bE (D.read (ay no)).1).2).1,n++(bE (D.read (ay no)).1).1,⟨P.size,P.a_++[no],(bE (D.read (ay no)).1).2,P.next⟩,(D.oh (ay no) (bE (D.read (ay no)).1).2).2⟩
  else cO a (n++(bE (D.read (ay no)).1).1) ⟨P.size,P.a_++[no],(bE (D.read (ay no)).1).2,P.next⟩ D
section
variable {w0 w w1 w':World} {p q:Nat} {D D':ak} {V V':dv} {X Y Z G S:ZN}
def aY.fk(b:aY w0 w p D X)(c:aj Y w w')(d:∀n,Y n->X n/\w0.heap.size<=n)(e:∀n,Z n->(X n\/w.heap.size<=n)/\n<w'.heap.size):aY w0 w' p D Z:=by
 obtain⟨g,f,h,a,k⟩:=b;exact⟨g,f.keep c λn P i=>(a n P).2 (d n i).1,h.new c λn P=>.inr (d n P).2,λn P=>⟨(a n P).1,λj=>(e n j).1.elim (a n P).2 λb=>by have:=f.aE n P;omega⟩,λn P=>(e n P).2⟩
def cE.fk(f:cE w0 w p q V D X)(a:aj Y w w')(b:∀n,Y n->X n/\w0.heap.size<=n)(c:∀n,Z n->(X n\/w.heap.size<=n)/\n<w'.heap.size):cE w0 w' p q V D Z:=by
 obtain⟨G,g,d,e⟩:=f;refine⟨G,g.fk a (λn P=>⟨.inl (b n P).1,(b n P).2⟩) λn P=>?_,d.keep a λn P h=>(e n P).2 (b n h).1,λn P=>⟨(e n P).1,λi=>(c n i).1.elim (e n P).2 λf=>by have:=d.aE n P;omega⟩⟩;rcases P with P|P
 ·exact⟨(c n P).1.imp .inl id,(c n P).2⟩
 ·exact⟨.inl (.inr P),Qk (d.aE n P) a.size⟩
def RY{no B:Int}(h:cE w0 w p q V D X)(O:aM no)(Q:V.a_.length+1<=64)(s:∀w',cE w0 w' p q ⟨V.size,V.a_++[no],B,V.next⟩ D X->aj (dS X) w w'->y w'):
  ∃C E,(ZM q:WP)=some ⟨C,E,none⟩/\∃(g:WP) (t u:Nat),w.cell? ⟨C,E+2,none⟩=some (.slice g t u)/\
   PA w (.cells #[ZH no] 3) λR=>aJ ZP (Builtin.append_ #[42,42] 42 #[.slice g t u,.slice (ZM w.heap.size) 1 1]) R (λS T=>
    ∃(c:WP) (F i:Nat),S= .slice c F i/\∃H I,(ZM q:WP)=some ⟨H,I,none⟩/\PS T ⟨H,I+2,none⟩ (.slice c F i) λU=>
     ∃J K,(ZM q:WP)=some ⟨J,K,none⟩/\PS U ⟨J,K+3,none⟩ (ZH B) y) o:=by
 obtain⟨G,W,b,d⟩:=id h;obtain⟨g,t,u,a0,L,e,f⟩:=b.body;have a8:=b.aE q b.self;refine⟨q,0,rfl,_,_,_,ae L rfl,PA.mk λw1 j s1 Y=>?_⟩;refine lK (e.af j) uW (D:=(·=w.heap.size)) (Row.lit Y [no] rfl (λa1 k=>by simp at k;subst k;exact O) (by unfold aT;simp)) (λn a=>⟨oM,λZ=>by have:=e.aE n (e.self n Z);omega⟩) (by unfold aT;simp;omega) (by unfold maxLen;simp;omega) λc i w2 F' l m _ v=>?_
 replace l:=l.alone
 have a6:¬aG g=some q:=λa=>(f q (e.self q a)).2 rfl;have g2:=m.get (j.get L id) a6;have z2:=m.size;have x:¬aG c=some q:=λa=>by
  rcases v q a with h|h
  ·exact(f q h).2 rfl
  ·omega
 refine⟨_,_,_,rfl,q,0,rfl,PS.mk g2 sM λw3 z s3 g3=>⟨q,0,rfl,PS.mk g3 sM λr A s4 g4=>s r ?_ ?_⟩⟩
 ·have a7:aj (λn=>aG g=some n\/n=q) w1 r:=((m.mono λn _ P=>.inl P).then (z.mono λn _ P=>.inr P)).then (A.mono λn _ P=>.inr P)
  have kG:aj G w r:=(ai.keep j).then (a7.mono λn _ P=>P.elim (λh=>(f n (e.self n h)).1) λh=>h▸b.self);have M:∀n,aG c=some n->n<r.heap.size:=λn P=>by have:=l.aE n P;omega
  refine⟨λn=>n=q\/aG c=some n,W.fk kG (λn P=>⟨.inr P,(d n P).1⟩) λn P=>?_,⟨⟨c,_,i,(λn=>aG c=some n),g4,?_,λn P=>⟨.inr P,λa=>x (a▸P)⟩⟩,.inl rfl,?_,by simpa using Q,b.By⟩,?_⟩
  ·rcases P with P|rfl|P
   ·exact⟨.inl (.inl P),by have:=h.aE n P;omega⟩
   ·exact⟨.inl (.inr b.self),oM⟩
   ·refine⟨?_,M n P⟩
    rcases v n P with h|h
    ·exact .inl (.inr (f n h).1)
    ·exact .inr oM
  ·exact(l.keep z λn P a=>x (a▸P)).keep A λn P a=>x (a▸P)
  ·rintro n (rfl|P)
   ·omega
   ·exact M n P
  ·rintro n (rfl|P)
   ·exact d _ b.self
   ·rcases v n P with N|N
    ·exact d n (f n N).1
    ·exact⟨by have:=h.gr.size;omega,λk=>by have:=h.aE n k;omega⟩
 ·refine(((ai.keep j).then (m.mono λn _ P=>?_)).then (z.mono λn _ P=>?_)).then (A.mono λn _ P=>?_)
  ·exact(d n (f n (e.self n P)).1).2
  ·exact(d n (P▸b.self)).2
  ·exact(d n (P▸b.self)).2
def VQ{j n:Nat}(P:j<=64)(a:n<=j*262144):n<=16777216:=oM
def Ue(w0 w:World)(p q:Nat)(X:ZN)(n:pk)(d:Value)(w':World):Prop:=
 ∃a b c G,d= .tuple #[.slice a b c,ZH n.no]/\aV vQ 63 G w' a b c n.out/\cE w0 w' p q n.V n.D (λP=>X P\/G P)/\aj (dS X) w w'/\(∀P,G P->w.heap.size<=P)/\n.out.length<=16777216
def RZ(C:Laid w0)(h:cE w0 w p q V D X)(Q:Row aP 8 w f d a s)(c4:∀n,f n->X n)(f4:V.a_.length+s.length<=64):
  PP 110 #[ZL q,.agg #[.slice d a c]] w (Ok (Ue w0 w p q X (cO s [] V D))):=by
 have k:=Q.len;have R:=h.aE;have g0:=h.gr.size;refine uA (PA.mk λw1 S s1 g1=>⟨_,_,_,ae g1 rfl,λT U W Y Z w'=>∃(e:Nat) (g:dv) (b:List ah) (G:ZN),Z=e/\e<=s.length/\T=s.length-e/\cO s [] V D=cO (s.drop e) b g D/\g.a_.length=V.a_.length+e/\b.length<=e*262144/\
  aV vQ 63 G w' U W Y b/\cE w0 w' p q g D (λn=>X n\/G n)/\aj (dS X) w w'/\∀n,G n->w.heap.size<=n,
  ⟨_,0,V,[],λ_=>False,rfl,Qj _,rfl,rfl,rfl,Qj _,aV.nil w1,(h.af S).mono λn P=>P.elim id λh=>h.elim,ai.keep S,λ_ h=>h.elim⟩,?_⟩)
 rintro T U W Y Z _ w2 ⟨e,g,b,G,rfl,hj,rfl,a4,g2,a0,l,hN,r,u⟩;rw[a4];refine al.dec (λg3=>?_) (λg4=>?_)
 rotate_left
 ·obtain rfl:e=s.length:=oM
  rw[List.drop_of_length_le (Q4 _)];exact Ok.mk ⟨_,_,_,G,rfl,l,hN,r,u,VQ oM a0⟩
 obtain⟨n,E,no,rfl,m,i,F⟩:=(Q.keep r λn P k=>k (c4 n P)).oF (i:=e) oM;have a2:s.drop e=no::s.drop (e+1):=by
  obtain⟨c8,rfl⟩:=Qv.1 m;exact X4 c8
 rw[a2]at a4⊢;refine⟨n,E,rfl,oM,oM,no,F,λw3 d3=>?_⟩;have k3:ai w2 w3:=d3.keep;have H:=hN.af k3;obtain⟨G3,d0,d1,g5⟩:=id H;obtain⟨a3,n3,c3,E3,d2,-,-,-⟩:=d1.row;refine⟨λ_=>False,q,0,rfl,id,_,ae d2 rfl,PC.ok (kh (C.af H.gr) i) ?_⟩;rintro _ w4 ⟨rfl,z⟩;have d4:=H.af z;refine⟨_,rfl,z,PC.ok ((d0.af z).read (k:=ay no)) ?_⟩;rintro _ w5 ⟨a5,n5,c5,F5,rfl,d5,g6,-,I⟩;have v:=d4.af I;have x:ai w2 w5:=(k3.then z).then I;have g7:=d5.len dC;have g8:=IZ v.ok (ay no);refine⟨_,_,_,_,rfl,I,al.eO (λd6=>?_) (λhe=>?_)⟩
 ·rw[show cO (no::s.drop (e+1)) b g D=⟨0,b,g,D⟩ by unfold cO;rw[Zx d6]]
  exact Ok.mk ⟨_,_,_,G,rfl,l.af x,v,r.af x,u,VQ oM a0⟩
 obtain⟨G5,d7,d8,g9⟩:=id v;obtain⟨h0,h2,h3,E5,e0,-,-,-⟩:=d8.row;obtain⟨a7,e1,-,-,-⟩:=id d7;refine⟨q,0,rfl,_,ae e0 rfl,PC.ok (R_ (C.af v.gr) e1 i) ?_⟩;rintro _ w6 ⟨a6,n6,c6,F6,rfl,t,J,K,a8⟩;have e2:cE w0 w6 p q g D (λn=>(X n\/G n)\/F6 n):=v.add J λn P=>⟨K n P,t.aE n P⟩
 have b0:=x.then J;have e3:=l.aE;generalize e4:bE (D.read (cF (ax no))).1=sl at t a8;obtain⟨j,o⟩:=sl;dsimp only at t a8;have a1:bE (D.read (ay no)).1=(j,o):=e4;have b1:Row vQ 96 w6 F6 a6 n6 j:=t.row dC ba;refine⟨_,_,_,_,rfl,Aj (l.af b0) Kh b1 (λL=>t.Ot L) (λn P=>⟨t.aE n P,λF=>by have:=e3 n (l.self n F);have:=K n P;have:=x.size;omega⟩) ba (by unfold maxLen;omega) λa9 c7 w7 A b2 M b3 _=>?_⟩;have h4:=x.size;have z6:=J.size;have b4:=b2.aE;have e5:cE w0 w7 p q g D (λn=>X n\/A n):=e2.fk M (λn P=>⟨.inl (.inr (l.self n P)),by have:=u n (l.self n P);omega⟩) λn P=>by
  rcases P with P|P
  ·exact⟨.inl (.inl (.inl P)),by have:=R n P;have:=r.size;have:=M.size;omega⟩
  ·refine⟨?_,b4 n P⟩
   rcases b3 n P with h|h|h
   ·exact .inl (.inl (.inr h))
   ·exact .inl (.inr h)
   ·exact .inr h
 have e6:aj (dS X) w w7:=(r.af b0).then (M.mono λn _ P m=>by have:=u n (l.self n P);have:=R n m;omega);have b5:∀n,A n->w.heap.size<=n:=λn P=>by
  have:=r.size;rcases b3 n P with h|h|h
  ·exact u n h
  ·have:=K n h;omega
  ·omega
 refine⟨_,_,_,rfl,RY e5 i oM λw8 b6 k8=>?_⟩;have b7:aj (dS X) w w8:=e6.then (k8.mono λn _ P m=>P (.inl m));have b8:=b2.keep k8 λn P k=>k (.inr P);refine al.dec (λf6=>?_) (λf8=>?_)
 ·rw[show cO (no::s.drop (e+1)) b g D=⟨(D.oh (ay no) o).1,b++j,⟨g.size,g.a_++[no],o,g.next⟩,(D.oh (ay no) o).2⟩ by
   unfold cO;rw[a1,Zq (by simpa using he),Zx (by show o<_;omega)]]
  intro w9 d9;have N:ai w8 w9:=d9.keep;have b9:=b6.af N;obtain⟨G9,e7,O,e8⟩:=id b9;obtain⟨c0,n9,c9,E9,e9,-,-,-⟩:=O.row;refine⟨λn=>n≠q,q,0,rfl,λhs=>hs rfl,_,ae e9 rfl,PC.ok (kh (C.af b9.gr) i) ?_⟩;rintro _ f2 ⟨rfl,y⟩;refine⟨_,rfl,y.keep,PC.ok ((e7.af y).oh (k:=ay no)) ?_⟩;rintro _ f3 ⟨rfl,c1,B⟩;have c2:aj (dS X) f2 f3:=B.mono λn _ P m=>P (.inl (.inl m));refine⟨_,rfl,B.mono λn _ P L=>P (.inr (L▸O.self)),Ok.mk ⟨_,_,_,A,rfl,?_,⟨G9,c1,(O.af y).keep B λn P k=>k (.inr P),e8⟩,((b7.af N).af y).then c2,b5,?_⟩⟩
  ·exact((b8.af N).af y).keep B λn P k=>k (.inl (.inr P))
  ·exact VQ (j:=e+1) oM be
 ·refine⟨_,?_,e+1,⟨g.size,g.a_++[no],o,g.next⟩,b++j,A,an oM,oM,rfl,?_,by simp;omega,by simp;omega,b8,b6,b7,b5⟩
  ·omega
  ·conv=>lhs;unfold cO
   rw[a1,Zq (by simpa using he),Zq (by show¬o<_;omega)]
end
def jH(D:ak)(n:ByteArray):Bool:=decide (n=aO)||((gZ n).2&& !decide ((gZ n).1∈(dz D).getD []))
def Gi(D:ak):List ByteArray:=D.list.filter (jH D)
def Kw(D:ak)(n:List ByteArray):ak:=n.foldl (λD P=>(D.delete P).2) D
def dq(D:ak):ak:=Kw D (Gi D)
def Bd(n:List ByteArray):List (List Value):=n.map λP=>[.string P]
def Re(D:ak)(n:List (List Value)):ak:=n.foldl (λD P=>match P with
 |[.string a]=>(D.delete a).2
 |_=>D) D
def Ek:∀(n:List ByteArray) (D:ak),Re D (Bd n)=Kw D n
 |[],D=>rfl
 |s::n,D=>Ek n (D.delete s).2
def Oh(D:ak)(n:List (List Value))(P:ByteArray):Re D (n++[[.string P]])=((Re D n).delete P).2:=by
 unfold Re;rw[List.foldl_append];rfl
def El(n:List ByteArray)(P:ByteArray):Bd (n++[P])=Bd n++[[.string P]]:=by unfold Bd;simp
def Dh{D:ZN}(P:Row aP 8 b D d a s):
  PP 265 #[.slice d a c,ZH e] b (Ok λp f=>(∃l:Int,p= ZH l/\(0<=l↔e∈s))/\b=f):=by
 have w:=P.len;have q:=P.fj;unfold aT at q;refine oQ ⟨λm i f=>∃n:Nat,i=n/\n<=a/\m=a-n/\e∉s.take n/\b=f,⟨_,0,rfl,Qj _,rfl,sM,rfl⟩,?_⟩;rintro m i _ _ ⟨n,rfl,x,rfl,g,rfl⟩;refine al.dec (λr=>?_) (λr=>?_)
 ·obtain⟨t,j,y,rfl,o,_,u⟩:=P.oF (i:=n) oM
  refine⟨t,j,rfl,oM,oM,_,u,al.eN (λk=>?_) (λk=>?_)⟩
  ·exact Ok.mk ⟨⟨_,rfl,λ_=>k▸QZ o,λ_=>oM⟩,rfl⟩
  ·refine⟨_,oM,n+1,an oM,oM,rfl,?_,rfl⟩
   rw[Qw,o];intro v;rcases Q6.1 v with h|h
   ·exact g h
   ·simp at h;exact k h
 ·rw[Qz oM]at g
  exact Ok.mk ⟨⟨_,rfl,λh=>oM,λh=>Zz h g⟩,rfl⟩
def xd{D:ZN}(n:Row aP 8 b D d a s):
  PP 209 #[.slice d a c,ZH e] b (Ok λP f=>P= .bool (decide (e∈s))/\b=f):=by
 refine mf (PC.ok (Dh n) ?_);rintro _ _ ⟨⟨h,rfl,g⟩,rfl⟩;exact⟨_,rfl,Ok.mk ⟨by rw[decide_eq_decide.2 g],rfl⟩⟩
section
variable {w0 w w1 w':World} {p:Nat} {D D':ak} {X Y:ZN}
def aY.lt(P:aY w0 w p D X):∀n,X n->n<w.heap.size:=by obtain⟨b,c,d,e,a⟩:=P;exact a
def Oi(h:aY w0 w p D X)(s:qP w0):PP 140 #[ZL p] w (Ok λt w'=>∃i j c d e,∃Y G:ZN,t= .func (.func 208) #[] #[ZL i,ZL j]/\
  (∃f k,w'.heap[i]? =some (.cells #[ZL p] f k))/\(∃f k,w'.heap[j]? =some (.cells #[.slice c d e] f k))/\aV aP 3 G w' c d e ((dz D).getD [])/\Y i/\Y j/\(∀P,G P->Y P)/\aY w0 w' p D (λP=>X P\/Y P)/\ai w w'):=by
 have A:=h.gr.size;refine zl (PA.mk λw1 m B o=>⟨_,ae o rfl,PC.ok ((h.add m (Y:=(·=w.heap.size)) λP n=>⟨oM,oM⟩).iS s) ?_⟩);rintro _ a ⟨c,d,e,G,rfl,q,C,u,l⟩;refine⟨_,_,_,_,rfl,PA.mk λE g F v=>PS.mk v sM λH b I x=>Ok.mk ⟨w.heap.size,a.heap.size,c,d,e,λP=>(P=w.heap.size\/G P)\/P=a.heap.size,G,rfl,?_⟩⟩;have J:=l.size;have y:w.heap.size≠a.heap.size:=oM
 have r:∀P,G P->P<a.heap.size:=q.aE;have z:=u.add g (Y:=(·=a.heap.size)) λP n=>⟨oM,oM⟩
 refine⟨⟨_,_,b.get (g.get (l.get o id) id) y⟩,⟨_,_,x⟩,(q.af g).keep b (λP n f=>by have:=r P n;omega),.inl (.inl rfl),.inr rfl,λP n=>.inl (.inr n),?_,?_⟩
 ·refine z.fk b (λP n=>⟨.inr n,oM⟩) λP n=>⟨.inl ?_,?_⟩
  ·rcases n with n|(n|n)|n
   ·exact .inl (.inl (.inl n))
   ·exact .inl (.inl (.inr n))
   ·exact .inl (.inr n)
   ·exact .inr n
  ·have:=b.size
   rcases n with n|(n|n)|n
   ·have:=h.lt P n;omega
   ·omega
   ·have:=r P n;omega
   ·omega
 ·exact aj.new ((m.then l).then g) b λP n=>.inr oM
def CJ(w0 P:World)(p:Nat)(D:ak)(d:ZN)(a:World×(ZN))(b:List (List Value))(c:World):Prop:=
 aY w0 c p (Re D b) (λn=>(d n\/(P.heap.size<=n/\n<P.heap.size+2))\/a.2 n)/\aj (dS d) P c/\aj (dS a.2) a.1 c/\∀n,a.2 n->P.heap.size+2<=n
variable {w5:World} {X5:ZN} {s:World×(ZN)} {pre:List (List Value)} {A B:World}
def CJ.af(n:CJ w0 w5 p D X5 s pre A)(P:ai A B):CJ w0 w5 p D X5 s pre B:=⟨n.1.af P,n.2.1.af P,n.2.2.1.af P,n.2.2.2⟩
def CJ.fk(d:ai w0 w5)(e:CJ w0 w5 p D X5 s pre A)(f:qQ (w5.heap.size+1) A B):CJ w0 w5 p D X5 s pre B:=by
 obtain⟨b,g,h,c⟩:=e;obtain⟨a,i⟩:=f;have:=d.size;refine⟨b.fk a (λn P=>⟨.inl (.inr ⟨oM,oM⟩),oM⟩) λn P=>⟨.inl P,by rw[i];exact b.lt n P⟩,g.new a λn P=>.inr oM,h.new a λn P=>.inl λj=>?_,c⟩;have:=c n j;omega
def Io{G:ZN}{R:ZU}(X:Laid w0)(a5:∀n,X5 n->n<w5.heap.size)(q:∃t u,w5.heap[a]? =some (.cells #[ZL p] t u))(Y:X5 a)(v:∃t u,w5.heap[c]? =some (.cells #[.slice d i r] t u))(Z:X5 c)(hl:aV aP 3 G w5 d i r ((dz D).getD []))(hG:∀n,G n->X5 n)(E:∀A B,R A->aj (oR w5) A B->R B)(F:∀s pre w A,CJ w0 w5 p D X5 s pre A->R A->tV [.string ⟨#[]⟩] w->kD ZP (w5.heap.size+1) w A λn l=>n=true/\CJ w0 w5 p D X5 s (pre++[w]) l/\R l)(x:CJ w0 w5 p D X5 (w5,no) [] w1)(a0:R w1)(a1:w5.heap.size+2<=w1.heap.size):
  PP 208 #[.func (.yield (w5.heap.size+1)) #[] #[],ZL a,ZL c] w1 (Ok λa4 w'=>R w'/\∃s,CJ w0 w5 p D X5 s (Bd (Gi D)) w'):=by
 obtain⟨e2,f2,q⟩:=q;obtain⟨e4,f4,v⟩:=v;have H:aY w0 w1 p D _:=x.1;refine tW ⟨_,ae (x.2.1.get q λb=>b Y) rfl,PC.ok H.list ?_⟩;rintro _ y ⟨a8,I,c8,J,rfl,K,a2,h8,L⟩;have a6:D.list.length<=64:=by rw[oS];exact H.ok.many
 have a7:=K.len dC;have a3:CJ w0 w5 p D X5 (y,J) [] y:=⟨h8.mono λn e=>e.elim (λf=>.inl (.inl f)) .inr,x.2.1.af L,aj.refl _,λn e=>Xx a1 (a2 n e)⟩
 refine⟨_,_,_,rfl,λM N w'=>∃P:Nat,N=P/\P<=I/\M=I-P/\CJ w0 w5 p D X5 (y,J) (Bd ((D.list.take P).filter (jH D))) w'/\R w',⟨_,0,rfl,Qj _,rfl,a3,E _ _ a0 (ai.keep L)⟩,?_⟩;rintro M N _ a9 ⟨P,rfl,hj,rfl,j,O⟩;refine al.dec (λb0=>?_) (λb1=>?_)
 ·obtain⟨n,z,s,rfl,Q,_,k⟩:=((K.keep j.2.2.1 λn e b=>b e).row (bytes:=16) dC ba).oF (i:=P) oM
  refine⟨n,z,rfl,oM,oM,_,k,PC.ok (Be (X.af j.1.gr)) ?_⟩;rintro _ b2 ⟨rfl,S⟩;have h:=j.af S;have m:=E _ _ O (ai.keep S);have T:tV [.string ⟨#[]⟩] [.string s]:=λφ f=>f s;have U:jH D s=true->(D.list.take (P+1)).filter (jH D)=(D.list.take P).filter (jH D)++[s]:=λf=>by
   rw[Qw,Q,List.filter_append];simp[f]
  have V:jH D s=false->(D.list.take (P+1)).filter (jH D)=(D.list.take P).filter (jH D):=λf=>by
   rw[Qw,Q,List.filter_append];simp[f]
  refine⟨_,_,rfl,al.YA (λhe=>?_) (λW=>al.mk (λo=>?_) (λo=>?_))⟩
  ·refine⟨_,rfl,(F _ _ _ _ h m T).mono ?_⟩
   rintro _ l ⟨rfl,g,C⟩;refine al.ff rfl ⟨_,?_,P+1,an oM,oM,rfl,?_,C⟩
   ·omega
   ·rw[U (by unfold jH;rw[show s=aO from he];simp),El];exact g
  ·refine⟨_,_,_,ae (h.2.1.get v λb=>b Z) rfl,PC.ok (xd ((hl.keep h.2.1 λn e b=>b (hG n e)).row (bytes:=8) dC (by have:=Em (D:=D);unfold aT;omega))) ?_⟩
   rintro _ _ ⟨rfl,rfl⟩;refine⟨_,rfl,al.mk (λk=>?_) (λk=>?_)⟩
   ·refine⟨_,rfl,(F _ _ _ _ h m T).mono ?_⟩
    rintro _ l ⟨rfl,g,C⟩;refine al.ff rfl ⟨_,?_,P+1,an oM,oM,rfl,?_,C⟩
    ·omega
    ·rw[U (by unfold jH;rw[o,k];simp),El];exact g
   ·refine⟨_,?_,P+1,an oM,oM,rfl,?_,m⟩
    ·omega
    ·rw[V (by unfold jH;rw[o,k,Xv (show¬s=aO from W)];rfl)];exact h
  ·refine⟨_,?_,P+1,an oM,oM,rfl,?_,m⟩
   ·omega
   ·rw[V (by unfold jH;rw[o,Xv (show¬s=aO from W)];rfl)];exact h
 ·rw[Qz oM]at j
  exact Ok.mk ⟨O,_,j⟩
def Oj(r:Laid w0)(b:aY w0 w p D X):PP 86 #[ZL p] w (Ok λh w'=>h= .tuple #[]/\aY w0 w' p (dq D) X/\aj (dS X) w w'):=by
 have a6:=b.gr.size;refine zo (PA.mk λw1 t s1 u=>⟨_,ae u rfl,PC.ok (Oi (b.add t (Y:=(·=w.heap.size)) λn P=>⟨oM,oM⟩) r.qf) ?_⟩);rintro _ w5 ⟨b2,b4,a0,a1,a2,Y,G,rfl,C,E,F,H,I,J,i,j⟩;have K:=j.get u id;have k:=i.gr;have z5:=j.size;refine⟨_,rfl,208,_,rfl,kR,World×(ZN),(w5,no),CJ w0 w5 p D λn=>(X n\/n=w.heap.size)\/Y n,λ_ _ _=>False,λ_ _=>True,λl=>l=Bd (Gi D),?_,λs pre A B c d=>c.fk k d,λ_ _ _ _ b _=>b,?_,?_,?_,trivial⟩
 ·intro L m s6
  exact⟨(i.add m (Y:=λn=>w5.heap.size<=n/\n<w5.heap.size+2) λn P=>⟨P.1,oM⟩).mono λn P=>P.elim id False.elim,ai.keep m,ai.keep m,λn P=>P.elim⟩
 ·intro s pre A c a7 a8 _
  refine⟨aj.refl _,λa9 d=>?_⟩;obtain⟨e,g,v,x⟩:=c.fk k d;refine⟨_,ae (g.get K λa=>a (.inl (.inr rfl))) rfl,PC.ok e.delete ?_⟩;rintro _ b0 ⟨rfl,M,o⟩;refine⟨_,rfl,o.mono λn _ a=>⟨λN=>a (.inl (.inr ⟨oM,oM⟩)),λN=>a (.inl (.inr ⟨oM,oM⟩))⟩,?_⟩;show CJ _ _ _ _ _ _ _ _;refine⟨by rw[Oh];exact M,g.new o λn a=>.inl λf=>a (.inl (.inl f)),v.new o λn a=>.inl λf=>a (.inr f),x⟩
 ·intro O Rx Q _ R S L T y
  refine Calls.mono (Io (R:=O) r i.lt C (.inr H) E (.inr I) F (λn P=>.inr (J n P)) Q (λs pre U A c V d=>(S s pre U A c V d trivial).mono ?_) T y (R _ y)) ?_
  ·rintro n W (b|⟨-,a3,b,-⟩)
   ·exact b
   ·exact b.elim
  ·rintro _ W ⟨h,rfl,Z,s,q⟩
   exact⟨⟨h,rfl⟩,.inl ⟨Z,s,_,q,rfl⟩⟩
 ·rintro s _ A ⟨e,g,v,x⟩ rfl hm
  refine⟨hm,λb1 ⟨z,a5⟩=>Ok.mk ⟨rfl,?_,?_⟩⟩
  ·rw[Ek]at e
   exact(e.fk z (λn P=>⟨.inl (.inr ⟨oM,oM⟩),by have:=k.size;omega⟩) λn P=>⟨.inl P,by rw[a5];exact e.lt n P⟩).mono λn P=>.inl (.inl (.inl (.inl P)))
  ·exact aj.new (aj.new (ai.keep (t.then j)) g λn a=>.inl λf=>a (.inl (.inl f))) z λn P=>.inr oM
end
def dN(D:ak)(n:Int):dv:=⟨n,[],0,ix D⟩
def told(D:ak):List Int:=(dz D).getD []
def gj(P:Nat)(n:pk):pk:=
 if n.no≠0 then n else
 if n.V.a_=[]then⟨(aK n.V n.D).1,n.out,(aK n.V n.D).2.1,(aK n.V n.D).2.2⟩else
 if n.V.a_.length<P then⟨(bA n.D n.V.a_).1,n.out,n.V,(bA n.D n.V.a_).2⟩else n
def aR(D:ak)(n:Int):pk:=gj (told D).length (cO (told D) [] (dN D n) D)
def Uf(e b:World)(f:Nat)(c:ZN)(n:pk)(g:Value)(P:World):Prop:=
 (n.no≠0/\g= .tuple #[.pointer none,.slice none 0 0,ZH n.no]/\aY e P f n.D c/\aj (dS c) b P)\/
 (n.no=0/\∃d h i j G,g= .tuple #[ZL d,.slice h i j,ZH 0]/\aV vQ 63 G P h i j n.out/\cE e P f d n.V n.D (λa=>c a\/G a)/\aj (dS c) b P/\(∀a,G a->b.heap.size<=a)/\b.heap.size<=d/\n.out.length<=16777216)
def IB{D:ak}{size:Int}(s:Laid b)(h:aY b k a D f):
  PP 73 #[ZL a,ZH size] k (Ok (Uf b k a f (aR D size))):=by
 have S:∀n,f n->n<k.heap.size:=by obtain⟨a0,h1,h2,h3,h4⟩:=h;exact h4
 have d1:=h.gr.size;obtain⟨a0,hF,-,-,-⟩:=id h;refine Ds (PC.ok (Jg (s.af h.gr) hF) ?_);rintro _ d ⟨rfl,F⟩;have T:=h.af F;have d2:=ss D.list;refine⟨_,rfl,PA.mk λw2 U s2 g2=>PC.ok ((T.af U).iS s.qf) ?_⟩;rintro _ t ⟨x,y,V,z,rfl,W,X,-,H⟩;have z1:=F.size;have z3:=H.size
 change aV aP 3 z t x y V (told D)at W
 have d3:(told D).length<=64:=Em;have b4:ai d t:=U.then H;refine⟨_,_,_,_,rfl,PA.mk λw4 k4 s4 g4=>PS.mk g4 sM λj k5 s5 Y=>⟨_,_,_,ae Y rfl,?_⟩⟩;have b5:j.heap[t.heap.size]? =some (.cells #[.slice x y V] 211 (0,0)):=Y;have I:ai t j:=k4.new k5 λn P=>.inr oM;have Z:ai d j:=b4.then I;have a8:ai k j:=F.then Z;have b6:=I.get (H.get g2 id) id;have a9:=W.af I
 let J:ZN:=λn=>f n\/(z n\/n=t.heap.size)
 have b7:cE b j a d.heap.size (dN D size) D J:=by
  refine⟨(·=d.heap.size),T.fk Z (Y:=λ_=>False) (λn P=>P.elim) λn P=>?_,⟨⟨none,0,0,λ_=>False,b6,aV.nil j,λ_ h=>h.elim⟩,rfl,λn P=>oM,Qj _,?_⟩,λn P=>⟨oM,λE=>?_⟩⟩
  ·rcases P with(P|P|P)|P
   ·exact⟨.inl P,by have:=S n P;omega⟩
   ·exact⟨.inr (by have:=X n P;omega),a9.aE n P⟩
   ·exact⟨.inr oM,oM⟩
   ·exact⟨.inr oM,oM⟩
  ·show aM (tD D.list);unfold aM;omega
  ·subst P
   rcases E with E|E|E
   ·have:=S _ E;omega
   ·have:=X _ E;omega
   ·omega
 have K:Row aP 8 j z x y (told D):=a9.row dC ba;refine PC.ok (RZ s b7 K (λn P=>.inr (.inl P)) (by show 0+_<=_;omega)) ?_;rintro _ L ⟨a6,n6,c6,l,rfl,A,u,M,b8,b0⟩;have z5:=a8.size;have hq:k.heap.size<=d.heap.size:=z1;have N:aj (dS f) k L:=(ai.keep a8).then (M.mono λn _ P E=>P (.inl E));have g6:=M.get b5 λi=>i (.inr (.inr rfl));have b9:Row aP 8 L z x y (told D):=K.keep M λn P i=>i (.inr (.inl P));have d4:=K.len;show _;unfold aR;generalize cO (told D) [] (dN D size) D=e at A u b0;have b1:∀n,l n->k.heap.size<=n:=λn P=>by have:=b8 n P;omega
 refine⟨_,_,_,_,rfl,λno m=>∃o p,gj (told D).length e=⟨no,e.out,o,p⟩/\aV vQ 63 l m a6 n6 c6 e.out/\cE b m a d.heap.size o p (λn=>f n\/l n)/\aj (dS f) k m,?_,?_⟩
 ·have c:∀{m o p},cE b m a d.heap.size o p (λn=>J n\/l n)->cE b m a d.heap.size o p (λn=>f n\/l n):=λh=>h.mono λn P=>P.imp .inl id
  refine al.eO (λq=>⟨e.V,e.D,by unfold gj;rw[Zx q],A,c u,N⟩) (λv=>?_);obtain⟨GL,c1,b2,c2⟩:=id u;obtain⟨aL,nL,cL,EL,O,b3,c4,c5⟩:=b2.row;refine⟨_,_,rfl,_,_,_,ae O rfl,al.eN (λhz=>?_) (λc7=>?_)⟩
  ·have Q:e.V.a_=[]:=QW oM
   refine PC.ok (EO s u) ?_;rintro _ B ⟨rfl,r,g⟩;exact⟨_,rfl,_,_,by unfold gj;rw[Zq (by simpa using v),Zx Q],A.keep g λn P i=>i (.inr P),c r,N.then (g.mono λn _ P E=>P (.inl (.inl E)))⟩
  ·have q:¬e.V.a_=[]:=λa1=>c7 (by rw[c5,a1];rfl)
   refine⟨_,_,rfl,_,_,_,ae O rfl,_,_,_,ae g6 rfl,λB d7=>?_⟩;have g:ai L B:=d7.keep;have r:=u.af g;have C:=A.af g;have w:aj (dS f) k B:=N.af g;refine al.dec (λd5=>?_) (λd6=>⟨_,_,by unfold gj;rw[Zq (by simpa using v),Zq q,Zq oM],C,c r,w⟩);have c8:=g.get O id;refine⟨_,_,rfl,_,_,_,ae c8 rfl,PC.ok ((c1.af g).bA s.qf (b3.af g) (No b3) λn P=>.inr (.inr (c4 n P).1)) ?_⟩;rintro _ w8 ⟨rfl,c9,R⟩;have d0:cE b w8 a d.heap.size e.V (bA e.D e.V.a_).2 (λn=>J n\/l n):=⟨GL,c9,(b2.af g).keep R λn P i=>i (.inr P),c2⟩
   exact⟨_,rfl,_,_,by unfold gj;rw[Zq (by simpa using v),Zq q,Zx oM],C.keep R λn P i=>i (.inl (.inr P)),c d0,w.then (R.mono λn _ P E=>P (.inl (.inl (.inl E))))⟩
 ·rintro no _ B ⟨o,p,Q,C,r,w⟩
  rw[Q];refine al.eO (λq=>Ok.mk (.inl ⟨q,rfl,r.uG.mono λn P=>.inl P,w⟩)) (λv=>Ok.mk (.inr ⟨v,d.heap.size,a6,n6,c6,l,by rfl,C,r,w,b1,hq,b0⟩))
def eP(n:ah):Bool:=decide (64<n.aN.length)
def aF(P:dv)(D:ak)(a:List ah):Int×dv×ak:=
 if a.any eP then(3,P,D)else if a=[]then(0,P,D)else
 let n:=if P.size<=P.bytes then aK P D else(0,P,D)
 if n.1≠0 then n else
 let b:=n.2.2.append n.2.1.last (az a)
 if b.1≠0 then(b.1,n.2.1,b.2)else(0,⟨n.2.1.size,n.2.1.a_,ZG .i64 (n.2.1.bytes+((az a).length:Nat)),n.2.1.next⟩,b.2)
def tE{D:ak}(n:(aK b2 D).1=0):(aK b2 D).2.1.a_≠[]:=by
 have c:∀P:ak,(nq b2 P).1=0->(nq b2 P).2.1.a_≠[]:=by
  intro P;unfold nq;dsimp only;split
  ·rename_i a;intro n;exact Zz n a
  ·split
   ·rename_i a;intro n;exact Zz n a
   ·intro _;simp
 have b:∀P:ak,(bz b2 P).1=0->(bz b2 P).2.1.a_≠[]:=by
  intro P;unfold bz;dsimp only;split
  ·rename_i a;intro n;exact Zz n a
  ·exact c _
 revert n
 unfold aK;dsimp only;split
 ·exact b D
 ·split
  ·rename_i a;intro n;exact Zz n a
  ·exact b _
def MU(n:l.Ok)(P:l.aN.length<=64):(od l).length<=675:=by
 have:=EM n P;have a:=rk n P;unfold od at*;rw[fg];omega
def ph(n:List ah)(P:ah):az (n++[P])=az n++od P:=by simp[az]
def LZ{D:ak}{v b6:Nat}(V:Laid b)(u:cE b k a c b2 D f)(d1:b2.a_≠[])(hr:Row ku 96 k Z d v H)(d4:∀n,Z n->n<k.heap.size)(hl:H.length<=20000000):
  PP 134 #[ZL c,.slice d v b6] k (Ok (EN b k a c f (aF b2 D H))):=by
 have z:=hr.len;have e9:=u.aE;refine sN ⟨λa5 K L W a6 w=>∃(g:Nat) (x:ZN),a6=g/\g<=v/\a5=v-g/\(∀e∈H.take g,e.Ok/\e.aN.length<=64)/\(az (H.take g)).length<=675*g/\aV gl 5 x w K L W (az (H.take g))/\ai k w/\∀n,x n->k.heap.size<=n,
  ⟨_,0,λ_=>False,rfl,Qj _,rfl,sM,by simp[az],aV.nil k,aj.refl _,λ_ u=>u.elim⟩,?_⟩
 rintro a5 K L W a6 _ X ⟨g,x,rfl,hj,rfl,a7,d5,p,l,hF⟩;have b3:=p.len dC;refine al.dec (λd6=>?_) (λd7=>?_)
 ·obtain⟨n,a0,e,es,rfl,_,_,q,h,c0,n1,c1,rfl,hd,M⟩:=(hr.af l).HU (i:=g) oM
  have m:=λi (hi:i<10)=>h i hi;refine⟨n,a0,rfl,oM,oM,_,_,_,_,_,_,_,_,_,_,_,_,m 0 dC,m 1 dC,m 2 dC,m 3 dC,m 4 dC,m 5 dC,m 6 dC,m 7 dC,m 8 dC,m 9 dC,PA.mk λA B s2 g2=>?_⟩;refine storeAll (aH e c0 n1 c1) g2 rfl λC r s3 o=>?_;have y:ai X C:=B.new r λn P=>.inr oM;refine⟨_,_,_,_,_,_,_,_,_,_,_,_,ae o rfl,ae o rfl,ae o rfl,ae o rfl,ae o rfl,ae o rfl,ae o rfl,ae o rfl,ae o rfl,ae o rfl,?_⟩;refine PC.ok (En (V.af ((u.gr.then l).then y)) (hd.af y) M λn P=>by have:=d4 n P;have:=(l.then y).size;omega) ?_;rintro _ w4 ⟨c2,n4,f0,F4,rfl,s,t,b4⟩
  by_cases N:e.aN.length<=64
  ·have a8:=rk M N
   rw[a8]at s⊢;have f1:=MU M N;refine⟨_,_,_,_,rfl,al.eO (λh=>Zz rfl h) (λ_=>?_)⟩;have a9:=y.then t;have c3:Row gl 1 w4 F4 c2 n4 (od e):=s.row (bytes:=1) dC (by unfold aT;dsimp only;omega);have f2:=a9.size;have f3:=y.size;refine Aj (p.af a9) tS c3 (λe=>s.Ot e) (λn P=>⟨s.aE n P,λh=>by have:=p.aE n (p.self n h);have:=b4 n P;omega⟩) ba (by unfold maxLen;omega) λb5 c5 w5 F5 b0 d8 d9 _=>?_;have b1:H.take (g+1)=H.take g++[e]:=by rw[Qw,q];rfl
   refine⟨_,_,_,rfl,v-(g+1),oM,g+1,F5,an oM,oM,rfl,?_,?_,?_,(l.then a9).new d8 λn P=>.inr (by have:=hF n (p.self n P);omega),?_⟩
   ·rw[b1]
    intro c4 a1;rcases Q6.1 a1 with Y|Y
    ·exact a7 c4 Y
    ·simp at Y;subst Y;exact⟨M,N⟩
   ·rw[b1,ph];simp;omega
   ·rw[b1,ph];exact b0
   ·intro n P
    have:=l.size;rcases d9 n P with Y|Y|Y
    ·exact hF n Y
    ·have:=b4 n Y;omega
    ·omega
  ·have a8:=yp N
   rw[a8]at s⊢;refine⟨_,_,_,_,rfl,al.eO (λ_=>?_) (λh=>Zz h dC)⟩;have c7:H.any eP=true:=List.any_eq_true.2 ⟨e,QZ q,by unfold eP;simp;omega⟩;refine Ok.mk ?_;rw[show aF b2 D H=(3,b2,D) by unfold aF;rw[Zx c7]];have b7:=(l.then y).then t;exact⟨rfl,u.af b7,ai.keep b7⟩
 ·obtain rfl:g=v:=oM
  rw[Qz oM]at a7 d5 p b3;have b8:H.any eP=false:=by
   rw[<-Bool.not_eq_true];intro h;obtain⟨e,he,h2⟩:=List.any_eq_true.1 h;have:=(a7 e he).2;unfold eP at h2;simp at h2;omega
  refine al.eN (λhz=>?_) (λe0=>?_)
  ·have he:H=[]:=QW oM
   refine Ok.mk ?_;rw[show aF b2 D H=(0,b2,D) by unfold aF;rw[Zq (by simp[b8]),Zx he]];exact⟨rfl,u.af l,ai.keep l⟩
  have e2:H≠[]:=λe=>e0 (by rw[z,e];rfl)
  let E:ZN:=λn=>f n\/x n
  have b9:cE b X a c b2 D E:=u.add l λn P=>⟨hF n P,p.aE n P⟩
  have d2:aF b2 D H=if(if b2.size<=b2.bytes then aK b2 D else(0,b2,D)).1≠0 then(if b2.size<=b2.bytes then aK b2 D else(0,b2,D))else
    if((if b2.size<=b2.bytes then aK b2 D else(0,b2,D)).2.2.append (if b2.size<=b2.bytes then aK b2 D else(0,b2,D)).2.1.last (az H)).1≠0 then(((if b2.size<=b2.bytes then aK b2 D else(0,b2,D)).2.2.append (if b2.size<=b2.bytes then aK b2 D else(0,b2,D)).2.1.last (az H)).1,(if b2.size<=b2.bytes then aK b2 D else(0,b2,D)).2.1,((if b2.size<=b2.bytes then aK b2 D else(0,b2,D)).2.2.append (if b2.size<=b2.bytes then aK b2 D else(0,b2,D)).2.1.last (az H)).2)
    else(0,⟨(if b2.size<=b2.bytes then aK b2 D else(0,b2,D)).2.1.size,(if b2.size<=b2.bytes then aK b2 D else(0,b2,D)).2.1.a_,ZG .i64 ((if b2.size<=b2.bytes then aK b2 D else(0,b2,D)).2.1.bytes+((az H).length:Nat)),(if b2.size<=b2.bytes then aK b2 D else(0,b2,D)).2.1.next⟩,((if b2.size<=b2.bytes then aK b2 D else(0,b2,D)).2.2.append (if b2.size<=b2.bytes then aK b2 D else(0,b2,D)).2.1.last (az H)).2):=by
   unfold aF;rw[Zq (by simp[b8]),Zq e2]
  obtain⟨GL,f4,e3,f6⟩:=id b9;obtain⟨aL,nL,cL,EL,gL,f8,g0,g1⟩:=e3.row;rw[d2];refine⟨λw=>∃F O,(if b2.size<=b2.bytes then aK b2 D else(0,b2,D))=(0,F,O)/\F.a_≠[]/\cE b w a c F O E/\aj (dS f) k w/\aV gl 5 x w K L W (az H),?_,?_⟩
  ·refine⟨c,0,rfl,_,ae gL rfl,c,0,rfl,_,ae gL rfl,λA d3=>?_⟩
   have B:ai X A:=d3.keep;have Q:=b9.af B;have R:=p.af B;have S:aj (dS f) k A:=ai.keep (l.then B);refine al.dec (λd7=>?_) (λd6=>⟨b2,D,by rw[Zq oM],d1,Q,S,R⟩);refine PC.ok (EO V Q) ?_;rintro _ C ⟨rfl,I,r⟩;have c6:aj (dS f) k C:=S.then (r.mono λn _ P q=>P (.inl q));have a2:(if b2.size<=b2.bytes then aK b2 D else(0,b2,D))=aK b2 D:=Zx oM;rw[a2];refine⟨_,rfl,al.eO (λa3=>?_) (λT=>⟨_,_,by rw[<-T],tE T,I,c6,R.keep r λn P z=>z (.inr P)⟩)⟩;rw[Zx a3];exact Ok.mk ⟨rfl,I.mono λn P=>.inl P,c6⟩
  ·rintro _ A ⟨F,O,a2,e1,Q,S,R⟩ C e4
   rw[a2];have r:ai A C:=e4.keep;have I:=Q.af r;have e5:=R.af r;obtain⟨G3,e6,U,J⟩:=id I;obtain⟨f5,n3,f7,E3,e7,-,-,-⟩:=U.row;refine⟨λn=>n≠c,c,0,rfl,λhs=>hs rfl,_,ae e7 rfl,PC.ok (Jh (V.af I.gr) U e1) ?_⟩;rintro _ w4 ⟨rfl,t⟩;have s:=e5.af t;have e8:Row gl 1 w4 x K L (az H):=s.row (bytes:=1) dC ba;refine⟨_,rfl,t.keep,PC.ok ((e6.af t).append e8 (λe=>s.Ot e) λn P=>.inr (.inl (.inr P))) ?_⟩;rintro _ w5 ⟨rfl,a4,k5⟩;have j:=(U.af t).keep k5 λn P z=>z (.inr P);have c8:aj (dS f) k w5:=((S.af r).af t).then (k5.mono λn _ P q=>P (.inl (.inl q)));refine⟨_,rfl,k5.mono λn _ P e=>P (.inr (e▸U.self)),?_⟩;rw[Zq (λh:((0,F,O):Int×dv×ak).1≠0=>h rfl)];refine al.eO (λa3=>?_) (λT=>?_)
   ·rw[Zx a3]
    exact Ok.mk ⟨rfl,cE.mono (X:=E) ⟨G3,a4,j,J⟩ λn P=>.inl P,c8⟩
   ·rw[Zq (by simpa using T)]
    obtain⟨b5,n5,c5,E5,c9,b0,d0⟩:=j.body;refine⟨c,0,rfl,_,ae c9 rfl,c,0,rfl,PS.mk c9 sM λw6 k6 s6 g6=>Ok.mk ⟨rfl,?_,c8.then (k6.mono λn _ P q=>(J n (P▸j.self)).2 (.inl q))⟩⟩;rw[b3]at g6;refine cE.mono (X:=E) ⟨G3,a4.fk k6 (λn P=>⟨.inr (P▸j.self),(J n (P▸j.self)).1⟩) (λn P=>⟨.inl P,by have:=(P.elim (cE.aE (X:=E) ⟨G3,a4,j,J⟩ n) (j.aE n):n<w5.heap.size);omega⟩),⟨⟨b5,n5,c5,E5,g6,b0.keep k6 λn P e=>(d0 n P).2 e,d0⟩,j.self,λn P=>by have:=j.aE n P;omega,j.many,j.By⟩,J⟩ λn P=>.inl P
def dQ(n:List UInt8):bS:=⟨n,n.length,true⟩
structure bZ (D:ak):Prop where
 dead:D.dead=false
 jv:D.jv=false
section
variable {D E:ak} {k:ByteArray} {l:List Int}
def BE(D:ak)(n:ak->Int×ak):D.op n=(15,D.gone)\/D.op n=n D.cR:=by
 unfold ak.op;split
 ·exact .inl rfl
 ·exact .inr rfl
def bZ.op(P:bZ D)(n:ak->Int×ak):D.op n=n D:=by
 unfold ak.op ak.dies ak.cR;rw[P.dead,P.jv]
 rfl
def bZ.same(n:bZ D)(P:E.dead=D.dead)(a:E.jv=D.jv):bZ E:=⟨P.trans n.dead,a.trans n.jv⟩
def Rn(n:bS):n.cut n.bytes.length=dQ n.bytes:=by
 have P:ic (n.bytes.length:Int) n.bytes.length=n.bytes.length:=by unfold ic;omega
 simp[bS.cut,P,dQ]
def lE(D:ak)(k:ByteArray):((D.create k).1≠0/\(D.create k).2.files=D.files)\/((D.create k).1=0/\cY k=true/\aq D.files k=none/\(D.create k).2.files=aI D.files k ⟨[],0,false⟩):=by
 unfold ak.create;rcases BE D λD=>if cY k then(if(aq D.files k).isSome then(16,D)else if 64<=D.files.length then(12,D)else(0,D.fG k ⟨[],0,false⟩))else(1,D)with h|h
 ·rw[h];exact .inl ⟨sM,rfl⟩
 ·rw[h]
  have n:=eC D;split
  ·rename_i P
   split
   ·exact .inl ⟨sM,n⟩
   ·split
    ·exact .inl ⟨sM,n⟩
    ·rename_i a _
     refine .inr ⟨rfl,P,?_,?_⟩
     ·rw[<-n];simpa using a
     ·show aI D.cR.files k _=_;rw[n]
  ·exact .inl ⟨sM,n⟩
def bZ.create(n:bZ D)(k:ByteArray):bZ (D.create k).2/\(cY k=true->aq D.files k=none->(D.create k).1=0\/(D.create k).1=12):=by
 unfold ak.create;rw[n.op];split
 ·split
  ·rename_i c a;exact⟨n,λ_ P=>by rw[P]at a;cases a⟩
  ·split
   ·exact⟨n,λ_ _=>.inr rfl⟩
   ·exact⟨n.same rfl rfl,λ_ _=>.inl rfl⟩
 ·rename_i P;exact⟨n,λb=>Zz b P⟩
def vK(D:ak)(k:ByteArray)(n:ak->bS->Int×ak):((D.op (ak.BF k n)).1≠0/\(D.op (ak.BF k n)).2.files=D.files)\/∃P,aq D.files k=some P/\D.op (ak.BF k n)=n D.cR P:=by
 rcases BE D (ak.BF k n)with h|h
 ·rw[h];exact .inl ⟨sM,rfl⟩
 ·rw[h]
  unfold ak.BF;rw[eC];split
  ·exact .inl ⟨sM,eC D⟩
  ·rename_i P a;exact .inr ⟨P,a,rfl⟩
def bZ.on(P:bZ D)(a:aq D.files k=some W)(n:ak->bS->Int×ak):D.op (ak.BF k n)=n D W:=by
 rw[P.op];unfold ak.BF;rw[a]
def bZ.YB(P:bZ D){n:ak->bS->Int×ak}(a:∀b,bZ (n D b).2):bZ (D.op (ak.BF k n)).2:=by
 rw[P.op];unfold ak.BF;split
 ·exact P
 ·exact a _
def oT(D:ak)(k:ByteArray)(P:List UInt8):((D.append k P).1≠0/\(D.append k P).2.files=D.files)\/((D.append k P).1=0/\∃n,aq D.files k=some n/\(D.append k P).2.files=aI D.files k {n with bytes:=n.bytes++P}):=by
 unfold ak.append;rcases vK D k λD n=>if(P.length:Int)>D.room then(12,D)else(0,D.fG k {n with bytes:=n.bytes++P})with a|⟨n,b,a⟩
 ·exact .inl a
 ·rw[a]
  split
  ·exact .inl ⟨sM,eC D⟩
  ·exact .inr ⟨rfl,n,b,by show aI D.cR.files k _=_;rw[eC]⟩
def bZ.append(n:bZ D)(k:ByteArray)(P:List UInt8):bZ (D.append k P).2/\∀a,aq D.files k=some a->(D.append k P).1=0\/(D.append k P).1=12:=by
 refine⟨?_,λa b=>?_⟩
 ·unfold ak.append
  refine n.YB λa=>?_;split
  ·exact n
  ·exact n.same rfl rfl
 ·unfold ak.append
  rw[n.on b];split
  ·exact .inr rfl
  ·exact .inl rfl
def nU(D:ak)(k:ByteArray):((D.sync k).1≠0/\(D.sync k).2.files=D.files)\/((D.sync k).1=0/\∃n,aq D.files k=some n/\(D.sync k).2.files=aI D.files k (dQ n.bytes)):=by
 unfold ak.sync;rcases vK D k λD n=>(0,D.fG k (n.cut n.bytes.length))with P|⟨n,a,P⟩
 ·exact .inl P
 ·rw[P,Rn];exact .inr ⟨rfl,n,a,by show aI D.cR.files k _=_;rw[eC]⟩
def bZ.sync(n:bZ D)(k:ByteArray):bZ (D.sync k).2/\∀P,aq D.files k=some P->(D.sync k).1=0:=by
 refine⟨?_,λP a=>?_⟩
 ·unfold ak.sync;exact n.YB λP=>n.same rfl rfl
 ·unfold ak.sync;rw[n.on a]
def bZ.oh(P:bZ D)(a:aq D.files k=some W)(n:Int):(D.oh k n).1=0/\(D.oh k n).2=D.fG k (W.cut n)/\bZ (D.oh k n).2:=by
 unfold ak.oh;rw[P.on a];exact⟨rfl,rfl,P.same rfl rfl⟩
def jD(D:ak)(k:ByteArray):(D.delete k).2.files=D.files\/(D.delete k).2.files=bL D.files k:=by
 unfold ak.delete;rcases vK D k λD P=>(0,D.vL k)with n|⟨P,a,n⟩
 ·exact .inl n.2
 ·rw[n];exact .inr (by show bL D.cR.files k=_;rw[eC])
def bZ.delete(n:bZ D)(k:ByteArray):bZ (D.delete k).2/\((D.delete k).2.files=bL D.files k\/(aq D.files k=none/\(D.delete k).2.files=D.files)):=by
 unfold ak.delete;refine⟨n.YB λa=>n.same rfl rfl,?_⟩;rw[n.op];unfold ak.BF;split
 ·rename_i P;exact .inr ⟨P,rfl⟩
 ·exact .inl rfl
def tY(k:ByteArray)(D E:ak):Prop:=Tidy E.files/\∀n,n≠k->aq E.files n=aq D.files n
def tY.refl(n:Tidy D.files):tY k D D:=⟨n,λ_ _=>rfl⟩
def tY.of(n:tY k D E){P:ak}(a:P.files=E.files):tY k D P:=⟨by rw[a];exact n.1,λb c=>by rw[a];exact n.2 b c⟩
def tY.put(n:tY k D E){P:ak}(a:P.files=aI E.files k W):tY k D P:=⟨by rw[a];exact n.1.aI _ _,λc b=>by rw[a,bB,Zq (by simpa using b)];exact n.2 c b⟩
def tY.del(n:tY k D E){F:ak}(P:F.files=bL E.files k):tY k D F:=⟨by rw[P];exact n.1.bL _,λb a=>by rw[P,gi n.1,Zq (by simpa using a)];exact n.2 b a⟩
def tY.clean(n:tY aO D E):tY aO D (ez E).2:=by
 unfold ez;split
 ·rcases jD E aO with e|e
  ·exact n.of e
  ·exact n.del e
 ·exact n
def MT:aO≠bW:=λn=>by have:=tn;rw[n]at this;simp at this
def TA(D:ak)(l:List Int)(n:Int×ak):Prop:=(n.1≠0/\tY aO D n.2)\/
  (n.1=0/\l.length<=64/\Tidy n.2.files/\aq n.2.files bW=some (dQ (bN l))/\∀P,P≠aO->P≠bW->aq n.2.files P=aq D.files P)
def TA.step{P k:Nat}{r:Int×ak}(g:pR l P E=r)(a:r.1≠0->tY aO D r.2)(b:r.1=0->TA D l (pq l (P+1) k r.2)):TA D l (pq l P (k+1) E):=by
 rw[pq,g];split
 ·rename_i n;exact .inl ⟨n,(a n).clean⟩
 ·rename_i n;exact b (by simpa using n)
def KW(o:Tidy D.files)(l:List Int):TA D l (bA D l):=by
 unfold bA;split
 ·exact .inl ⟨sM,tY.refl o⟩
 rename_i z;have h:tY aO D (ez D).2:=(tY.refl o).clean;refine TA.step (r:=ez D) rfl (λ_=>h) λ_=>?_;generalize(ez D).2=d at h;have B:=lE d aO;refine TA.step (r:=d.create aO) rfl (λc=>?_) λu=>?_
 ·rcases B with B|B
  ·exact h.of B.2
  ·exact Zz B.1 c
 rcases B with B|⟨_,_,_,B⟩
 ·exact Zz u B.1
 have j:tY aO D (d.create aO).2:=h.put B;have p:aq (d.create aO).2.files aO=some ⟨[],0,false⟩:=by rw[B,bB];simp
 generalize(d.create aO).2=e at j p;have a:=oT e aO (bN l);refine TA.step (r:=e.append aO (bN l)) rfl (λc=>?_) λv=>?_
 ·rcases a with a|a
  ·exact j.of a.2
  ·exact Zz a.1 c
 rcases a with a|⟨_,i,b,a⟩
 ·exact Zz v a.1
 rw[p]at b;cases b
 have k:tY aO D (e.append aO (bN l)).2:=j.put a;have q:aq (e.append aO (bN l)).2.files aO=some ⟨bN l,0,false⟩:=by rw[a,bB];simp
 generalize(e.append aO (bN l)).2=f at k q;have F:=nU f aO;refine TA.step (r:=f.sync aO) rfl (λc=>?_) λw=>?_
 ·rcases F with F|F
  ·exact k.of F.2
  ·exact Zz F.1 c
 rcases F with F|⟨_,i,b,F⟩
 ·exact Zz w F.1
 rw[q]at b;cases b
 have g:tY aO D (f.sync aO).2:=k.put F;have r:aq (f.sync aO).2.files aO=some (dQ (bN l)):=by rw[F,bB];simp
 generalize(f.sync aO).2=n at g r;have P:((n.rename aO bW).1≠0/\(n.rename aO bW).2.files=n.files)\/((n.rename aO bW).1=0/\(n.rename aO bW).2.files=aI (bL n.files aO) bW (dQ (bN l))):=by
  unfold ak.rename;rcases vK n aO λD i=>if cY bW then(0,(D.vL aO).fG bW {i with jM:=true})else(1,D)with m|⟨i,b,m⟩
  ·exact .inl m
  ·rw[m,Zx IF]
   rw[r]at b;cases b
   exact .inr ⟨rfl,by show aI (bL n.cR.files aO) bW _=_;rw[eC];rfl⟩
 refine TA.step (r:=n.rename aO bW) rfl (λc=>?_) λx=>?_
 ·rcases P with P|P
  ·exact g.of P.2
  ·exact Zz P.1 c
 rcases P with P|⟨_,P⟩
 ·exact Zz x P.1
 refine .inr ⟨rfl,oM,?_,?_,λs t y=>?_⟩
 ·show Tidy (n.rename aO bW).2.files;rw[P];exact(g.1.bL _).aI _ _
 ·show aq (n.rename aO bW).2.files bW=_;rw[P,bB];simp
 ·show aq (n.rename aO bW).2.files s=_
  rw[P,bB,Zq (by simpa using y),gi g.1,Zq (by simpa using t)];exact g.2 s t
def TB(n:Int×ak):Prop:=bZ n.2/\(n.1=0\/n.1=3\/n.1=12)
def bZ.clean(n:bZ D):bZ (ez D).2:=by
 unfold ez;split
 ·exact(n.delete _).1
 ·exact n
def Lt(a:bZ D)(n:Tidy D.files):(ez D).1=0/\aq (ez D).2.files aO=none/\Tidy (ez D).2.files:=by
 unfold ez;split
 ·rename_i P
  obtain⟨d,b⟩:=Option.isSome_iff_exists.1 P;have c:D.delete aO=(0,D.vL aO):=by unfold ak.delete;rw[a.on b]
  rw[c];exact⟨rfl,by show aq (bL _ _) _=_;rw[gi n];simp,n.bL _⟩
 ·rename_i P;exact⟨rfl,by simpa using P,n⟩
def TB.step{n k:Nat}{r:Int×ak}(g:pR l n E=r)(P:bZ r.2)(a:r.1=0\/r.1=3\/r.1=12)(b:r.1=0->TB (pq l (n+1) k r.2)):TB (pq l n (k+1) E):=by
 rw[pq,g];split
 ·exact⟨P.clean,a⟩
 ·rename_i c;exact b (by simpa using c)
def bZ.bA(h:bZ D)(s:Tidy D.files)(l:List Int):TB (bA D l):=by
 unfold Go.Proofs.YtjgjkeponbeekaaGreatDoor.bA;split
 ·exact⟨h,.inr (.inl rfl)⟩
 obtain⟨z1,p,t⟩:=Lt h s;have i:=h.clean;refine TB.step (r:=ez D) rfl i (.inl z1) λ_=>?_;generalize(ez D).2=d at i p t;have n:=lE d aO;obtain⟨j,u⟩:=i.create aO;refine TB.step (r:=d.create aO) rfl j ((u TC p).imp id .inr) λv=>?_;rcases n with n|⟨_,_,_,n⟩
 ·exact Zz v n.1
 have q:aq (d.create aO).2.files aO=some ⟨[],0,false⟩:=by rw[n,bB];simp
 generalize(d.create aO).2=e at j q;have P:=oT e aO (bN l);obtain⟨k,w⟩:=j.append aO (bN l);refine TB.step (r:=e.append aO (bN l)) rfl k ((w _ q).imp id .inr) λx=>?_;rcases P with P|⟨_,a,A,P⟩
 ·exact Zz x P.1
 have f:∃a,aq (e.append aO (bN l)).2.files aO=some a:=by rw[P,bB];simp
 generalize(e.append aO (bN l)).2=g at k f;obtain⟨B,f⟩:=f;have b:=nU g aO;obtain⟨c,y⟩:=k.sync aO;refine TB.step (r:=g.sync aO) rfl c (.inl (y _ f)) λz=>?_;rcases b with b|⟨_,a,C,b⟩
 ·exact Zz z b.1
 have r:aq (g.sync aO).2.files aO=some (dQ a.bytes):=by rw[b,bB];simp
 generalize(g.sync aO).2=m at c r;have o:m.rename aO bW=(0,(m.vL aO).fG bW {dQ a.bytes with jM:=true}):=by
  unfold ak.rename;rw[c.on r,Zx IF]
 refine TB.step (r:=m.rename aO bW) rfl (by rw[o];exact c.same rfl rfl) (.inl (by rw[o])) λE=>?_;rw[o];exact⟨c.same rfl rfl,.inl rfl⟩
def Ox{l:List (ByteArray×bS)}(a:Tidy l)(b:bS->Bool)(d:bS->bS)(k:ByteArray):
  aq ((l.filter λn=>b n.2).map λn=>(n.1,d n.2)) k=(aq l k).bind λf=>if b f then some (d f)else none:=by
 induction l with
 |nil=>rfl
 |cons j l e=>
  obtain⟨n,g⟩:=j;unfold Tidy at a e;simp only[QY,List.nodup_cons]at a;rw[List.filter_cons]
  by_cases h:(k==n)=true
  ·have m:k=n:=eq_of_beq h
   subst m;have o:aq ((l.filter λn=>b n.2).map λn=>(n.1,d n.2)) k=none:=by
    rw[jG];intro i;apply a.1;simp only[List.map_map,Xk,List.mem_filter]at i⊢;obtain⟨p,⟨q,_⟩,r⟩:=i;exact⟨p,q,r⟩
   by_cases P:b g=true
   ·simp[P,aq]
   ·rw[Zq (by simpa using P),o];simp[P,aq]
  ·have c:(k==n)=false:=by simpa using h
   by_cases P:b g=true
   ·simp only[P,if_true,QY,aq,c,Bool.false_eq_true,if_false]
    exact e a.2
   ·rw[Zq (by simpa using P)]
    simp only[aq,c,Bool.false_eq_true,if_false];exact e a.2
def Er(a:Tidy D.files)(P:Int)(k:ByteArray):aq (D.ep P).files k=(aq D.files k).bind λn=>if n.jM then some (te P n)else none:=
 Ox a (λn=>n.jM) (te P) k
def Lu(a:Tidy D.files)(P:Int):Tidy (D.ep P).files:=by
 show(((D.files.filter λn=>n.2.jM).map λn=>(n.1,te P n.2)).map (·.1)).Nodup;rw[List.map_map];exact(rl a λn=>n.2.jM)
def IG(D:ak)(n:Int):bZ (D.ep n):=⟨rfl,rfl⟩
def Es(P:Int)(n:List UInt8)(c:a<=n.length):∃b,a<=b/\b<=n.length/\te P ⟨n,a,true⟩=dQ (n.take b):=by
 refine⟨ic (Gz P ⟨n,a,true⟩) n.length,?_,om _ _,?_⟩
 ·unfold ic Gz;simp only;omega
 ·have:=om (Gz P ⟨n,a,true⟩) n.length
  unfold te bS.cut dQ;simp only[Qy,X2 this]
def uC(P:Tidy D.files)(n:Int){k:ByteArray}(a:aq D.files k=some (dQ u)):aq (D.ep n).files k=some (dQ u):=by
 rw[Er P,a];obtain⟨c,d,e,b⟩:=Es n u (Q4 _);show(if true then some (te n ⟨u,u.length,true⟩)else none)=_;rw[b,Qz oM];rfl

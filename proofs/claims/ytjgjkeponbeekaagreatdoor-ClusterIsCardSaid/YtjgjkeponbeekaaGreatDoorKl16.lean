import Derived.Test.YtjgjkeponbeekaaGreatDoorKl15
set_option maxHeartbeats 4000000
set_option linter.all false
set_option maxRecDepth 100000
open Go.IntKind renaming wrap→ZG
namespace Go.Proofs.YtjgjkeponbeekaaGreatDoor
open Go.au
variable{z:FuncId}{N b4 e r:Int}{d4:Int×Int}{J e0:List aj}{a c:Nat}{C:Nat×Nat}{T X:Operand}{d u:YQ}{h:Program}{g q:TypeId}{b:World}{O o:aj}{F:aw}
def Wm(n:JQ h g q):(do eqGuard .eql g T X (.agg #[ZH e,ZH r]) (.agg #[ZH N,ZH b4]);binOp .eql g (.agg #[ZH e,ZH r]) (.agg #[ZH N,ZH b4]):Sem Value).run h b= .ok (.bool (e==N&&r==b4)) b:=by
 rw[Sem.run_bind,run_eqGuard_agg b .eql _ T X _ _ n.hm,Result.andThen_ok,run_eql_struct];have:=n.equalIn 9998 (e,r) (N,b4) b;unfold oV at this;rw[this];rfl
section
variable {w w':World} {p:Nat} {F T D:ZN} {d:aN} {every:Nat} {l l2:List aj}
def Hl(U:cU w p F d every l)(V:eP b)(J:ai b w)(K:∀P,F P->b.heap.size<=P){L:YQ}(M:Row jB 96 w D L a l2)(e2:a<=c)(z:∀P,D P->P<w.heap.size/\¬F P)(e3:l2.length<=20000000)(b2:∀(W:Nat) (g j:aj),l[W]? =some g->l2[W]? =some j->aY g=aY j->g=j):
  YX 75 #[ZL p,.slice L a c] w (Ok λb3 w'=>∃A:Int,b3= ZH A/\∃h,cU w' p h d every l2/\bB F w h w'):=by
 have hn:=M.len;have X:=U;obtain⟨⟨h1,h2,h3,h4⟩,e0,b6,e4,B⟩:=U;have e5:=aM.len (B.at' 2) dC;have e6:=B.aC;refine pL ⟨λi w'=>∃n:Nat,i=n/\n<=l.length/\n<=l2.length/\l.take n=l2.take n/\ai w w',?_,?_⟩
 ·refine⟨λe i w'=>∃n:Nat,i=n/\n<=l.length/\n<=l2.length/\e=l.length-n/\l.take n=l2.take n/\ai w w',⟨_,0,rfl,Qj _,Qj _,rfl,rfl,ak.refl _⟩,?_⟩
  rintro e _ _ w9 ⟨n,rfl,Y,Z,rfl,m,t⟩;have h9:=dO.ah B t;have a4:=h9.bj;refine⟨p,0,rfl,_,_,_,ae a4 rfl,al.dec (λN=>?_) (λa5 c1 C=>⟨n,rfl,Y,Z,m,t.then C.af⟩)⟩;have a6:n<l.length/\n<l2.length:=by split at N<;>omega
  have k:l[n]? =some l[n]:=Qq a6.1;have E:l2[n]? =some l2[n]:=Qq a6.2;generalize l[n]=g at k;generalize l2[n]=j at E;obtain⟨P,o,es,O,c2,c3,H,ya,yn,yc,rfl,e7,e1⟩:=(M.ah t).el n j E;obtain⟨b7,o2,e8,c4,e9,f0,a0,u,v,x,rfl,a7,a1⟩:=(aM.row (bytes:=96) (h9.at' 2) dC ba).el n g k;have y0:=H 0 dC;have y1:=H 1 dC;have x0:=a0 0 dC;have x1:=a0 1 dC;refine⟨P,o,O,oM,oM,_,_,y0,y1,p,0,rfl,_,_,_,ae a4 rfl,b7,o2,c4,oM,oM,_,_,x0,x1,(j.origin==g.origin&&j.seq==g.seq),λe=>Wm LS,λc1 C=>al.mk (λQ=>⟨_,?_,n+1,aq oM,oM,oM,rfl,?_,t.then C.af⟩) (λ_=>⟨n,rfl,Y,Z,m,t.then C.af⟩)⟩
  ·omega
  ·simp only[QK,beq_iff_eq]at Q
   have c5:=b2 n g j k E (by simp[aY,Q.1,Q.2]);rw[Qw,Qw,m,k,E,c5]
 rintro _ _ f1 ⟨i,rfl,c6,c7,m,q⟩;have c8:=dO.ah B q;have b9:=c8.bj;have f2:=q.size;refine⟨λw'=>∃e h,e<=l2.length/\cU w' p h d every (l2.take e)/\bB F w h w',⟨p,0,rfl,_,_,_,ae b9 rfl,al.dec (λN=>?_) (λa5=>?_)⟩,?_⟩
 ·refine PC.ok (MU (X.ah q) V (J.then q) K c6) ?_
  rintro _ f3 ⟨rfl,h,R,a9⟩;have b0:i/every*every<=i:=Nat.div_mul_le_self ..;refine⟨rfl,_,h,Xx b0 c7,?_,(ai.af q).then a9.af,λP f=>(a9.new P f).imp id oM⟩;have:l.take (i/every*every)=l2.take (i/every*every):=by
   have:=Zj (List.take (i/every*every)) m
   rwa [List.take_take,List.take_take,X2 b0]at this
  rw[<-this];exact R
 ·have c9:i=l.length:=oM
  refine⟨l.length,F,oM,?_,ai.af q,λP f=>.inl f⟩;rw[c9,List.take_length]at m;rw[<-m];exact X.ah q
 rintro _ f4 ⟨e,F1,hm,b1,a2⟩;have c0:=b1;obtain⟨-,q1,f5,f6,b4⟩:=b1;have a3:=aM.len (b4.at' 2) dC;rw[Qy,X2 hm]at a3;have f7:=a2.af.size;refine⟨p,0,rfl,_,_,_,ae b4.bj rfl,oM,oM,?_⟩;rw[Qx,a3];refine⟨λA s w'=>∃(n:Nat) (h:ZN),s=n/\n<=a-e/\A=a-e-n/\cU w' p h d every (l2.take (e+n))/\bB F w h w',⟨_,0,F1,rfl,Qj _,rfl,c0,a2⟩,?_⟩;rintro A _ _ b5 ⟨n,S,rfl,hj,rfl,T,r⟩;refine al.dec (λN=>?_) (λa5=>?_)
 ·have d0:e+n<l2.length:=oM
  have k:l2[e+n]? =some l2[e+n]:=Qq d0;generalize l2[e+n]=g at k;have d1:=M.af r.af λP f=>(z P f).2;obtain⟨P,o,es,O,c2,c3,H,u,v,x,rfl,a7,a1⟩:=d1.el (e+n) g k;have d2:cK L e c 10=some ⟨P,o+e*10,none⟩:=by rw[O];exact fL oM
  have f8:=r.af.size;refine⟨P,o+e*10,d2,oM,oM,bA (es:=aE g u v x) (k:=10) (aW g u v x) rfl (λs ht=>by rw[Qx];have:=H s ht;rw[show o+e*10+n*10+s=o+(e+n)*jB.k+s by show _=o+(e+n)*10+s;omega];exact this) (PA.mk λg1 d3 g2 d4=>az (aW g u v x) d4 rfl λb8 d5 g3 d6=>ar (aW g u v x) d6 ?_)⟩;have I:ai b5 b8:=d3.new d5 λP f=>.inr (by have f:P=b5.heap.size:=f;omega);have a8:bB F w S b8:=⟨r.af.ah I,r.new⟩
  have d7:∀P,D P->¬S P:=λP f hf=>by
   rcases r.new P hf with y|y
   ·exact(z P f).2 y
   ·have:=(z P f).1;omega
  refine PC.ok (OU (T.ah I) V (J.new a8.af λP f=>.inr (K P f)) (λP f=>?_) (by rw[Qy];omega) (a7.ah I) (λP f=>⟨by have:=(z P f).1;have:=I.size;omega,d7 P f⟩) a1) ?_
  ·rcases r.new P f with y|y
   ·exact K P y
   ·have:=J.size;omega
  rintro _ g4 ⟨rfl,F3,d8,d9⟩;refine⟨rfl,_,?_,n+1,F3,aq oM,oM,rfl,?_,a8.trans d9⟩
  ·omega
  ·rw[show e+(n+1)=e+n+1 by omega,Qw,k];exact d8
 ·rw[Qz oM]at T
  exact Ok.mk ⟨_,rfl,S,T,r⟩
end
section
variable {w w':World} {p:Nat} {F T D:ZN} {d:aN} {every:Nat} {l l2:List aj}
def OW{d:aN}{ta pa:YQ}{tn tc pn pc:Nat}{ev:Int}(m:cT d=0)(g9:aJ ev)(hT:eP w)(o:bf w D d ta tn pa pn)(hD:∀n,D n->n<w.heap.size):
  YX 72 #[.agg #[.slice ta tn tc,.slice pa pn pc],ZH ev] w (Ok λe3 w'=>∃p F,e3= ZL p/\cU w' p F d (max 1 ev).toNat []/\(∀n,F n->w.heap.size<=n)/\ai w w'):=by
 have h0:=o.aU.len;have X:=o.aU.ef;have h3:=o.EV.len;have h4:=o.EV.ef;have e6:d.projs.length<=8:=(Ab (mR m).1).2.2.1;obtain⟨every,e7⟩:∃every:Nat,every=(max 1 ev).toNat:=⟨_,rfl⟩
 have e8:(if ev>1 then ev else 1)=(every:Int):=by split<;>omega
 have c0:0<every/\every<9223372036854775808:=by unfold aJ at g9;omega
 rw[<-e7];refine EX ?_;refine PA.mk λw1 k1 s1 g1=>⟨_,_,_,ae g1 rfl,PC.ok (pM (o.EV.ah k1) λn B=>by have:=hD n B;omega) ?_⟩
 rintro _ P ⟨h,f,v,x,rfl,Y,k8,h5⟩;have z8:=k8.size;refine⟨_,_,_,rfl,PA.mk λc1 Z k9 d8=>?_⟩;rw[e8]at d8;have e9:ai w c1:=(k1.then k8).then Z;have ga:=Z.get (k8.get g1 id) id;have l0:=Z.size;refine⟨_,_,_,ae ga rfl,λq I w'=>∃a:Nat,I=a/\a<=tn/\q=tn-a/\ak (·=P.heap.size) c1 w'/\∃r s J j,w'.heap[P.heap.size]? =some (.cells #[.slice r s J,.slice h f v,ZH (every:Int),.slice none 0 0,.pointer none,.slice none 0 0,.slice none 0 0] 202 (0,0))/\aM mT 118 j w' r s J (d.types.take a)/\∀n,j n->c1.heap.size<=n,
  ⟨_,0,rfl,Qj _,rfl,ak.refl _,none,0,0,λ_=>False,d8,aM.nil _,λ_ o=>o.elim⟩,?_⟩
 rintro q _ _ y ⟨a,rfl,hj,rfl,kk,r,s,J,j,K,t,L⟩;have a7:ai w y:=e9.new kk λn B=>.inr oM;have zk:=kk.size;refine al.dec (λl4=>?_) (λl5=>?_)
 ·have e0:a<d.types.length:=oM
  obtain⟨n,a4,es,ha,B,h6,f0,fa,fn,fc,rfl,a8⟩:=(o.aU.ah a7).el a d.types[a] (by simp[e0]);have e1:d.types[a]? =some d.types[a]:=Qq e0;generalize d.types[a]=a0 at a8 e1;have c2:=f0 0 dC;have h7:mT.k=1:=rfl;rw[h7,Nat.mul_one]at c2;refine⟨n,a4,ha,oM,oM,fa,fn,fc,by rw[Qx];exact c2,PA.mk λl6 h8 l7 h9=>PS.mk h9 sM λe2 i0 l8 i1=>⟨_,_,_,ae i1 rfl,?_⟩⟩;have a1:ai y e2:=h8.new i0 λn B=>.inr oM;have f1:=a7.then a1;obtain⟨C,l1,l2,l3⟩:=eC.boxes (N:=JR) a8;have c4:=a8.ef;refine PC.ok (pN (l2.ah a1) λn B=>by have:=hD n B;have:=f1.size;omega) ?_;rintro _ e4 ⟨a9,M,f2,F9,rfl,b0,e5,i2⟩;have l9:=a1.size;have m0:=e5.size;have a2:∀n,aD a9=some n->e2.heap.size<=n:=λn B=>i2 n (b0.self n B);have f5:∀n,aD a9=some n->n<e4.heap.size:=λn B=>b0.aC n (b0.self n B);refine⟨_,_,_,rfl,λq I w'=>∃a:Nat,I=a/\a<=M/\q=M-a/\dB JR 121 e4 a9 M f2 C a w',⟨_,0,rfl,Qj _,rfl,dB.start b0.alone⟩,?_⟩;rintro q _ _ i3 ⟨c,rfl,g,rfl,z⟩;have m1:=z.len;have m2:C.length=a0.length:=by rw[<-l1];simp
  have i4:=a8.len;have N:ai y i3:=(a1.then e5).new z.af λn B=>.inr (by have:=a2 n B;omega);have m3:=z.af.size;refine al.dec (λf6=>?_) (λf7=>?_)
  ·obtain⟨a3,rfl⟩:=z.some oM
   have f9:=f5 a3 rfl;have a5:C[c]? =some C[c]:=Qq oM;have O:=l3 C[c] (XY oM);generalize C[c]=bx at a5 O;refine⟨a3,0,rfl,oM,oM,_,_,_,z.cell rfl a5 (by show M*4<=aK;unfold aK at c4⊢;omega) 3 _ rfl,PC.ok (sX (O.1.ah N) λn B=>by have:=hD n B;have:=(a7.then N).size;omega) ?_⟩;rintro _ m4 ⟨m5,m6,m7,G,rfl,c3,i5,i⟩;refine⟨_,_,_,rfl,a3,0,rfl,oM,oM,?_⟩;refine(z.ah i5).step (g:=a3) rfl a5 (c3.row (bytes:=32) dC ?_) O.2 (λu E=>⟨by have:=i u E;omega,c3.aC u E⟩) f9 λm8 g3 m9 n0=>⟨_,?_,c+1,aq (by unfold aK at c4;omega),oM,rfl,g3⟩
   ·have e:=O.1.ef
    have l:=O.1.len;show bx.x.bw.length*32<=aK;have n1:bx.n=bx.x.bw.length:=l;have n2:bx.n*32<=aK:=e;omega
   ·omega
  ·obtain rfl:c=M:=oM
   obtain⟨Fd,m,c6⟩:=z.done;rw[l1,Hm]at m;have c5:=N.get K id;refine⟨P.heap.size,0,rfl,_,_,_,ae c5 rfl,Hn (c:=mT) (x:=a0) (t.ah N) OX (D:=Fd) ⟨_,_,_,rfl,m.row dC (by rw[<-i4];exact c4)⟩ (λn B=>⟨m.aC n B,λb=>?_⟩) ?_ ?_ λa' Q n3 F' g6 c7 f3 n4=>⟨_,_,_,rfl,P.heap.size,0,rfl,?_⟩⟩
   ·have e:=t.aC n (t.self n b)
    rcases c6 n B with l|l
    ·have:=a2 n l;omega
    ·omega
   ·have:=List.length_take_le a d.types;unfold aK at X⊢;omega
   ·have:=List.length_take_le a d.types;unfold aK at X;unfold maxLen;omega
   ·have i6:¬aD r=some P.heap.size:=λb=>by have:=L _ (t.self _ b);omega
    have i7:=c7.get c5 i6;have n5:=c7.size;refine PS.mk i7 sM λn6 f4 n7 i8=>⟨_,?_,a+1,aq (by unfold aK at X;omega),oM,rfl,?_,a',s+1,Q,F',i8,?_,?_⟩
    ·omega
    ·exact((kk.ah N).new c7 λn B=>.inr (L _ (t.self n B))).then f4
    ·rw[Qw,e1]
     refine g6.af f4 λn B b=>?_;rcases f3 n B with e|e|e
     ·have:=L n e;omega
     ·rcases c6 n e with l|l
      ·have:=a2 n l;omega
      ·omega
     ·omega
    ·intro n B
     rcases f3 n B with e|e|e
     ·exact L n e
     ·rcases c6 n e with l|l
      ·have:=a2 n l;omega
      ·omega
     ·omega
 ·obtain rfl:a=tn:=oM
  rw[Qz oM]at t;have h1:=(Y.ah Z).af kk λn B b=>by have:=Y.aC n B;omega
  have n8:P.heap.size<y.heap.size:=ax K;have f8:bf y (λn=>j n\/x n) d r s h f:=⟨(t.row (bytes:=24) dC (by rw[<-h0];exact X)).mono λn B=>.inl B,(h1.row (bytes:=40) dC (by rw[<-h3];exact h4)).mono λn B=>.inr B⟩
  have A:∀n,j n\/x n->w.heap.size<=n/\n<y.heap.size/\n≠P.heap.size:=λn B=>by
   rcases B with B|B
   ·have:=L n B;have:=t.aC n B;omega
   ·have:=h5 n B;have:=Y.aC n B;omega
  refine⟨P.heap.size,0,rfl,_,_,_,_,_,_,ae K rfl,ae K rfl,PC.ok (Ho m f8 λn B=>(A n B).2.1) ?_⟩;rintro _ i9 ⟨vp,R,rfl,hv,b1,b2⟩;have o0:=b2.size;have g0:=hv.aC;refine⟨_,rfl,P.heap.size,0,rfl,PS.mk (b2.get K id) sM λS c8 o1 g2=>⟨P.heap.size,0,rfl,_,_,_,ae g2 rfl,?_⟩⟩;have n9:=Y.len dC;have c9:bf S (λn=>j n\/x n) d r s h f:=(f8.ah b2).af c8 λn B b=>(A n B).2.2 b;have h2:cg S vp R (aV.new d):=hv.af c8 λn B b=>by have b:n=P.heap.size:=b;have:=b1 n B;omega
  refine⟨λq I w'=>∃(a:Nat) (ra:YQ) (T rc:Nat) (G:ZN),I=a/\a<=f/\q=f-a/\ak (·=P.heap.size) S w'/\w'.heap[P.heap.size]? =some (.cells #[.slice r s J,.slice h f v,ZH (every:Int),.slice none 0 0,ZL vp,.slice ra T rc,.slice none 0 0] 202 (0,0))/\
   cj w' G ra T rc ((d.projs.take a).map λp=>(⟨p,[]⟩:dm))/\∀n,G n->S.heap.size<=n/\n<w'.heap.size,⟨_,0,none,0,0,λ_=>False,rfl,Qj _,rfl,ak.refl _,g2,cj.nil _,λn B=>B.elim⟩,?_⟩
  rintro q _ _ b3 ⟨c,ra,T,rc,G,rfl,g,rfl,H,d0,b4,i⟩;have o2:=H.size;refine al.dec (λf6=>?_) (λf7=>?_)
  ·have j0:c<d.projs.length:=oM
   have E:d.projs[c]? =some d.projs[c]:=Qq j0;generalize d.projs[c]=u at E;obtain⟨n,a4,es,a6,d5,h6,b5,rfl,d6⟩:=(c9.af H λn B b=>(A n B).2.2 b).EV.el c u E;refine⟨n,a4,a6,oM,oM,bA (es:=nR u) (k:=5) (pJ u) rfl (λa0 ht=>by rw[Qx];exact b5 a0 ht) (PA.mk λo3 j1 o4 j2=>az (pJ u) j2 rfl λo5 j3 o6 j4=>λj5 g4=>⟨λ_=>False,P.heap.size,0,rfl,id,?_⟩)⟩;have d1:ai b3 j5:=(j1.new j3 λn B=>.inr (by have B:n=b3.heap.size:=B;omega)).then g4.af;refine⟨_,_,_,ae (d1.get d0 id) rfl,ar (pJ u) ((g4.af (S:=λ_=>False)).get j4 id) (PC.ok OY ?_)⟩;rintro _ o7 ⟨p',r',rfl,d2,o8,o9,p0,p1,d3⟩;have j6:p'≠r':=λb=>by
    obtain⟨es,cl,hm,-⟩:=d2.map.at';have:=d2.at';rw[b,hm]at this;cases this
   have p2:=d3.size;have p3:=d1.size;refine⟨_,rfl,d3,PA.mk λp4 d4 p5 j7=>⟨d4,?_⟩⟩;have b6:=(d1.then d3).then d4;have j8:=b4.len;rw[Q8,Qy,X2 oM]at j8;refine(b4.ah b6).push (λn B=>by have:=(i n B).2;omega) (d2.ah d4) (λB=>by have:=(i _ B).2;omega) (λB=>by have:=(i _ B).2;omega) j6 OQ j7 (by rw[Q8,Qy];omega) λj9 k0 p6 G3 k2 g5 k3 k4=>⟨_,_,_,rfl,P.heap.size,0,rfl,?_⟩
   have k5:=g5.get (b6.get d0 id) λB=>by have:=(i _ B).1;omega
   have d7:∀n,G3 n->S.heap.size<=n:=λn B=>by
    rcases k3 n B with e|e|e|e
    ·exact(i n e).1
    ·omega
    ·omega
    ·omega
   refine PS.mk k5 sM λp7 g7 p8 k6=>⟨_,?_,c+1,j9,T+1,k0,G3,aq oM,oM,rfl,((H.ah b6).new g5 λn B=>.inr (i n B).1).then g7,k6,?_,λn B=>⟨d7 n B,by have:=k4 n B;omega⟩⟩
   ·omega
   ·rw[Qw,E,Q3]
    exact k2.af g7 λn B b=>by have b:n=P.heap.size:=b;have:=d7 n B;omega
  ·rw[Qz oM]at b4
   have k7:∃U,dO b3 (λn=>∃k,(match k with|0=>n=P.heap.size|1=>j n\/x n|3=>R n|4=>G n|_=>False:Prop)) U P.heap.size ⟨r,s,J,h,f,v,every,none,0,0,vp,ra,T,rc,none,0,0⟩ d (cy d []) (dR d []).rows [] []:=by
    refine aP.join (G:=λk n=>match k with|0=>n=P.heap.size|1=>j n\/x n|3=>R n|4=>G n|_=>False) (λk=>?_) (λc a n g hj=>?_) λk n B=>?_
    ·match k with
     |0=>exact⟨rfl,d0⟩
     |1=>exact c9.af H λn B b=>(A n B).2.2 b
     |2=>exact aM.nil _
     |3=>exact h2.af H λn B b=>by have b:n=P.heap.size:=b;have:=b1 n B;omega
     |4=>exact b4
     |5=>exact aM.nil _
     |k+6=>trivial
    ·have V:∀c:Nat,(match c with|0=>n=P.heap.size|1=>j n\/x n|3=>R n|4=>G n|_=>False:Prop)->c=(if n=P.heap.size then 0 else if n<y.heap.size then 1 else if n<i9.heap.size then 3 else 4):=λc g=>by
      rcases c with _|_|_|_|_|c
      ·have g:n=P.heap.size:=g
       rw[Zx g]
      ·have:=A n g;rw[Zq oM,Zx oM]
      ·exact g.elim
      ·have:=b1 n g;have:=g0 n g;rw[Zq oM,Zq oM,Zx oM]
      ·have:=i n g;rw[Zq oM,Zq oM,Zq oM]
      ·exact g.elim
     rw[V c g,<-V a hj]
    ·rcases k with _|_|_|_|_|k
     ·have B:n=P.heap.size:=B
      omega
     ·have:=A n B;omega
     ·exact B.elim
     ·have:=g0 n B;omega
     ·have:=i n B;omega
     ·exact B.elim
   obtain⟨U,hq⟩:=k7;have b7:ai w b3:=(((a7.then b2).new c8 λn B=>.inr (by have B:n=P.heap.size:=B;omega)).new H λn B=>.inr (by have B:n=P.heap.size:=B;omega))
   have g8:∀n,(∃k,(match k with|0=>n=P.heap.size|1=>j n\/x n|3=>R n|4=>G n|_=>False:Prop))->w.heap.size<=n:=λn ⟨k,B⟩=>by
    rcases k with _|_|_|_|_|k
    ·have B:n=P.heap.size:=B
     omega
    ·exact(A n B).1
    ·exact B.elim
    ·have:=b1 n B;omega
    ·have:=i n B;omega
    ·exact B.elim
   refine PC.ok (DG hq m (hT.ah b7) sM (by rw[pK];exact e6) sM sM) ?_;rintro _ p9 ⟨rfl,q',F',W,b8,b9,d9⟩;refine⟨rfl,Ok.mk ⟨P.heap.size,F',rfl,⟨⟨m,c0.1,c0.2,sM⟩,q',W,b9,?_⟩,λn B=>?_,b7.new d9.af λn B=>.inr (g8 n B)⟩⟩
   ·rw[OZ];simpa using b8
   ·rcases d9.new n B with e|e
    ·exact g8 n e
    ·have:=b7.size;omega
end
def LU(e:aN)(P:List aj):∀n∈(dR e P).rows,n.rows.length<=P.length:=by
 have:∀(P:List aj) (a:jR) (b:Nat),(∀n∈a.rows,n.rows.length<=b)->∀n∈(P.foldl jR.add a).rows,n.rows.length<=b+P.length:=by
  intro P
  induction P with
  |nil=>intro a b f n c;exact f n c
  |cons d P k=>
   intro a b f n c;have:=k (a.add d) (b+1) (λg h=>?_) n c
   ·simp only[Xq];omega
   ·obtain⟨i,j,rfl⟩:=Xk.1 (show g∈a.rows.map λn=>n.add (a.view.add d).1 (su ((a.view.add d).2.state d.aU d.agg) n.p)from h)
    have m:=f i j;unfold dm.add;dsimp only;split
    ·omega
    ·split
     ·omega
     ·exact Xx (xC ..) oM
 intro n c;have:=this P (jR.new e) 0 (λg h=>by
  obtain⟨i,j,rfl⟩:=Xk.1 (show g∈e.projs.map λl=>(⟨l,[]⟩:dm)from h);exact Q4 0) n c
 omega
def iM(P:aN)(a:List aj)(n:Int):List dx:=if n<0 then []else match(dR P a).rows[n.toNat]? with
 |none=>[]
 |some b=>b.list
section
variable {w w':World} {p:Nat} {F T D:ZN} {d:aN} {every:Nat} {l:List aj}
def JS(q:cU w p F d every l):
  YX 402 #[ZL p,ZH e,ZH r] w (Ok λs w'=>∃a b c G,s= .tuple #[.agg #[ZH (((cy d l).state e r).getD He).version,.slice a b c],.bool ((cy d l).state e r).isSome]/\aM eG 78 G w' a b c (((cy d l).state e r).getD He).cells/\(∀n,G n->w.heap.size<=n)/\ai w w'):=by
 obtain⟨y,z,t,rfl,h⟩:=q;refine rJ (PA.mk λA f B u=>⟨p,0,rfl,_,ae (dO.ah h f).bj rfl,PC.ok (nQ ((dO.ah h f).at' 3)) ?_⟩);rintro _ C ⟨a,b,c,G,rfl,v,i,g⟩;have E:=g.size;refine⟨_,_,_,_,_,rfl,PS.mk (g.get u id) sM λH j I x=>PS.mk x sM λJ k K m=>⟨_,_,_,_,ae m rfl,ae m rfl,Ok.mk ⟨a,b,c,G,rfl,?_,λn P=>?_,?_⟩⟩⟩
 ·exact v.af (j.then k) λn P o=>by have o:n=w.heap.size:=o;have:=i n P;omega
 ·have:=i n P;omega
 ·exact(f.then g).new (j.then k) λn P=>.inr (by have P:n=w.heap.size:=P;omega)
def EY(P:cU w p F d every l):YX 400 #[ZL p] w (Ok (oW vZ 133 w (cy d l).entries)):=by
 obtain⟨a,h,b,rfl,n⟩:=P;refine oX ⟨p,0,rfl,_,ae n.bj rfl,PC.ok (EZ (n.at' 3) (vY d l a.2.2.2).1) ?_⟩;rintro _ i ⟨c,e,f,G,rfl,g⟩;exact⟨_,_,_,rfl,Ok.mk ⟨c,e,f,G,rfl,g⟩⟩
def MW(i:cU w p F d every l):YX 401 #[ZL p,ZH e] w (Ok λj w'=>oW Hf 135 w (iM d l e) j w'/\ue (iM d l e)):=by
 obtain⟨k,B,m,rfl,P⟩:=i;have C:=cj.len (P.at' 4);refine sY (al.dec (λf=>Ok.mk ⟨⟨none,0,0,λ_=>False,rfl,?_,ak.refl _,λo a=>a.elim⟩,?_⟩) (λb=>⟨p,0,rfl,_,_,_,ae P.bj rfl,al.dec (λq=>Ok.mk ⟨⟨none,0,0,λ_=>False,rfl,?_,ak.refl _,λo a=>a.elim⟩,?_⟩) (λq=>?_)⟩))
 ·unfold iM;rw[Zx f];exact aM.nil _
 ·unfold iM;rw[Zx f];exact List.Pairwise.nil
 ·unfold iM;rw[Zq b,Q7 oM];exact aM.nil _
 ·unfold iM;rw[Zq b,Q7 oM];exact List.Pairwise.nil
 ·obtain⟨n,rfl⟩:∃n:Nat,e=n:=⟨e.toNat,oM⟩
  have c:(dR d l).rows[n]? =some (dR d l).rows[n]:=Qq oM;have g:(dR d l).rows[n]∈(dR d l).rows:=XY oM;have r:iM d l (n:Int)=(dR d l).rows[n].list:=by unfold iM;rw[Zq b,Qx,c]
  rw[r];generalize(dR d l).rows[n]=s at c g;obtain⟨t,E,H,u,v,h,-⟩:=cj.elem (P.at' 4) c;refine⟨p,0,rfl,_,_,_,ae P.bj rfl,t,0,u,oM,oM,_,by rw[Qx];exact v,PC.ok (MX h (Xx (LU d l s g) k.2.2.2)) ?_⟩;rintro _ I ⟨x,y,z,G,rfl,A⟩;exact⟨_,_,_,rfl,Ok.mk ⟨⟨x,y,z,G,rfl,A⟩,h.UZ⟩⟩
end
structure aw.Cl (S:aw):Prop where
 ok:S.OK
 lY:∀e∈S.l,∀o,o<S.n->S.lY e o=true
 le:∀e∈S.l,e.seq<=(S.Fz e.origin.toNat:Int)
 has:∀(o:Nat) (s:Int),o<S.n->1<=s->s<=(S.Fz o:Int)->∃e∈S.l,aY e=((o:Int),s)
def Au:F.lY o a=true↔o.aQ.getD a 0=0\/∃n,F.get ((a:Int),o.aQ.getD a 0)=some n/\n.aA<o.aA/\∀P,P<n.aQ.length->n.aQ.getD P 0<=o.aQ.getD P 0:=by
 unfold aw.lY;generalize o.aQ.getD a 0=b;dsimp only
 cases c:F.get ((a:Int),b)with
 |none=>simp
 |some n=>simp
def aw.Cl.new(n:a<=64):aw.Cl ⟨a,[]⟩:=⟨aw.sZ n,sM,sM,λb c _ d P=>by simp[aw.Fz]at P;omega⟩
def aw.RU(n:aw.OK ⟨F.n,dj o F.l⟩)(P:F.get d4=some O):aw.get ⟨F.n,dj o F.l⟩ d4=some O:=by
 obtain⟨a,rfl⟩:=aw.get_some P;exact n.get ((c_ o F.l).mem_iff.2 (QJ _ a))
def aw.iY(n:aw)(P:aj):((n.add P).1≠0/\(n.add P).2=n)\/(n.add P=(0,⟨n.n,dj P n.l⟩)/\cQ P n.n=0/\n.get (aY P)=none/\P.seq=n.vec.getD P.origin.toNat 0+1/\∀a,a<n.n->n.lY P a=true):=by
 rw[aw.add_def];split
 ·rename_i b;exact .inl ⟨b,rfl⟩
 rename_i c;split
 ·exact .inl ⟨sM,rfl⟩
 rename_i d;split
 ·exact .inl ⟨sM,rfl⟩
 rename_i e;split
 ·exact .inl ⟨sM,rfl⟩
 rename_i f;refine .inr ⟨rfl,by simpa using c,by simpa using d,by simpa using e,?_⟩;simpa[List.any_eq_false]using f
def aw.RV{S:aw}(P:cQ o S.n=0)(a:S.get (aY o)=none)(b:o.seq=S.vec.getD o.origin.toNat 0+1)(c:∀n,n<S.n->S.lY o n=true):S.add o=(0,⟨S.n,dj o S.l⟩):=by
 rw[aw.add_def,Zq (by simpa using P),Zq (by simp[a]),Zq (by simpa using b),Zq];simpa[List.any_eq_false]using c
def aw.Cl.add{b:aw}(g:b.Cl){a:aj}(q:a.Ok):(b.add a).2.Cl:=by
 have k:=(aw.Ae g.ok q).1;rcases b.iY a with⟨-,f⟩|⟨h,r,y,s,t⟩
 ·rw[f];exact g
 rw[h]at k⊢;simp only at k⊢;obtain⟨z,A,B,-⟩:=rq r;obtain⟨i,l⟩:∃i:Nat,a.origin=i:=⟨a.origin.toNat,oM⟩
 have u:i<b.n:=oM
 rw[l,Qx,b.um u]at s;have c:∀n,n∈dj a b.l↔n=a\/n∈b.l:=λn=>by rw[(c_ a b.l).mem_iff,Q2]
 have d:∀n e,b.lY n e=true->aw.lY ⟨b.n,dj a b.l⟩ n e=true:=λn e P=>by
  rw[Au]at P⊢;rcases P with P|⟨v,h,f⟩
  ·exact .inl P
  ·exact .inr ⟨v,aw.RU k h,f⟩
 refine⟨k,λn P e j=>?_,λn P=>?_,λe m j h f=>?_⟩
 ·rcases(c n).1 P with rfl|P
  ·exact d _ _ (t e j)
  ·exact d _ _ (g.lY n P e j)
 ·rw[aw.FA]
  rcases(c n).1 P with rfl|P
  ·rw[l,Qx,Zx rfl];omega
  ·have:=g.le n P
   split<;>omega
 ·rw[aw.FA]at f
  by_cases p:a.origin=(e:Int)
  ·rw[Zx p]at f
   have w:i=e:=oM
   subst w
   by_cases x:m=a.seq
   ·exact⟨a,(c a).2 (.inl rfl),by simp[aY,l,x]⟩
   ·obtain⟨n,P,o⟩:=g.has i m j h oM
    exact⟨n,(c n).2 (.inr P),o⟩
  ·rw[Zq p]at f
   obtain⟨n,P,o⟩:=g.has e m j h oM;exact⟨n,(c n).2 (.inr P),o⟩
def aw.Th(n:aw)(P:aj):(n.add P).2.n=n.n:=by
 rcases n.iY P with⟨-,a⟩|⟨b,-⟩
 ·rw[a]
 ·rw[b]
def aw.zM(n:aw)(P:aj):(n.add P).2.l.length<=n.l.length+1:=by
 rcases n.iY P with⟨-,a⟩|⟨b,-⟩
 ·rw[a];omega
 ·rw[b];show(dj P n.l).length<=_;rw[(c_ P n.l).length_eq];simp
def aw.rp(n:aw)(P:List aj)(a:aj):n.fM (P++[a])=((n.fM P).add a).2:=by unfold aw.fM;rw[List.foldl_append];rfl
def aw.Pn(n:aw)(P a:List aj):n.fM (P++a)=(n.fM P).fM a:=by unfold aw.fM;rw[List.foldl_append]
def aw.Cl.fM:∀{l:List aj} {S:aw},S.Cl->(∀e∈l,e.Ok)->(S.fM l).Cl
 |[],S,n,_=>n
 |e::l,S,n,P=>aw.Cl.fM (l:=l) (S:=(S.add e).2) (n.add (P e (QV ..))) λa b=>P a (QJ _ b)
def aw.Po:∀(P:List aj) (n:aw),(n.fM P).n=n.n
 |[],n=>rfl
 |e::P,n=>(aw.Po P _).trans (n.Th e)
def aw.mX:∀(P:List aj) (n:aw),(n.fM P).l.length<=n.l.length+P.length
 |[],n=>by simp[aw.fM]
 |e::P,n=>by
  have a:=aw.mX P (n.add e).2;have b:=n.zM e;show((n.add e).2.fM P).l.length<=_;simp only[Xq];omega
def th{P:aj}:∀{n:List aj},(∀x∈n,ei P x=false)->dj P n=n++[P]
 |[],_=>rfl
 |x::n,a=>by
  unfold dj;rw[Zq (by rw[a x (QV ..)];simp),th λb c=>a b (QJ _ c)];rfl
def aw.Cl.take{n:aw}(g:n.Cl):∀{k:Nat},k<=n.l.length->(⟨n.n,[]⟩:aw).fM (n.l.take k)=⟨n.n,n.l.take k⟩/\aw.Cl ⟨n.n,n.l.take k⟩
 |0,_=>⟨rfl,by simpa using aw.Cl.new g.ok.n⟩
 |k+1,U=>by
  obtain⟨I,l⟩:=aw.Cl.take g (k:=k) oM;have f:n.l[k]? =some n.l[k]:=Qq oM;have m:n.l[k]∈n.l:=XY oM;generalize n.l[k]=P at f m;have w:n.l=n.l.take k++P::n.l.drop (k+1):=by
   conv=>lhs;rw[<-ZX k n.l]
   congr 1
   rw[X4 oM]
   congr 1
   have:=Qq (l:=n.l) (i:=k) oM;rw[f]at this;exact(XJ this).symm
  have q:=g.ok.Pc;have h:=g.ok.ids;rw[w]at q h;have e:∀a∈n.l,ei a P=true->a∈n.l.take k:=λa c o=>by
   rw[w]at c;rcases Q6.1 c with c|c
   ·exact c
   rcases Q2.1 c with rfl|c
   ·rw[jq]at o;omega
   ·have J:=(List.pairwise_append.1 q).2.1
    have r:=(List.pairwise_cons.1 J).1 a c;rw[mY r]at o;cases o
  have b:∀a∈n.l.take k,ei a P=true:=λa c=>(List.pairwise_append.1 q).2.2 a c P (QV ..);have x:aw.get ⟨n.n,n.l.take k⟩ (aY P)=none:=by
   cases K:aw.get ⟨n.n,n.l.take k⟩ (aY P)with
   |none=>rfl
   |some a=>
    obtain⟨i,j⟩:=aw.get_some K;rw[Q3,QY,List.nodup_append]at h;exact Zz j (h.2.2 (aY a) (Xk.2 ⟨a,i,rfl⟩) (aY P) (QV ..))
  have y:=g.ok.Ws P m;obtain⟨V,W,L,X,-,-,Y,-,z,-⟩:=rq y;obtain⟨d,s⟩:∃d:Nat,P.origin=d:=⟨P.origin.toNat,oM⟩
  have t:d<n.n:=oM
  have A:∀p,p<n.n->aw.lY ⟨n.n,n.l.take k⟩ P p=true:=λp M=>by
   have:=g.lY P m p M;rw[Au]at this⊢;rcases this with B|⟨a,u,C,N⟩
   ·exact .inl B
   ·obtain⟨i,j⟩:=aw.get_some u
    refine .inr ⟨a,?_,C,N⟩;rw[<-j];exact l.ok.get (e a i (by rw[jq];exact .inl C))
  have E:=g.ok.ok P m;have Q:P.seq=(aw.vec ⟨n.n,n.l.take k⟩).getD P.origin.toNat 0+1:=by
   rw[s,Qx,aw.um (S:=⟨n.n,n.l.take k⟩) t];have Z:(aw.Fz ⟨n.n,n.l.take k⟩ d:Int)+1<=P.seq:=by
    rcases Int.lt_or_le (aw.Fz ⟨n.n,n.l.take k⟩ d:Int) P.seq with o|O
    ·omega
    ·obtain⟨a,R,S⟩:=l.has d P.seq t L O
     have:=aw.get_none x a R;exact Zz (S.trans (by simp[aY,s])) this
   have O:P.seq<=(aw.Fz ⟨n.n,n.l.take k⟩ d:Int)+1:=by
    have T:pd (P.seq-1)=P.seq-1:=by
     have:=E.seq;exact wrap_i64 (by unfold aJ at*;omega)
    rw[T,s,Qx]at z;have:=A d t;rw[Au,z]at this;rcases this with B|⟨a,u,-⟩
    ·omega
    ·obtain⟨i,j⟩:=aw.get_some u
     have r:=l.le a i;have F:a.origin=d/\a.seq=P.seq-1:=by
      have:=j;simp only[aY,Prod.mk.injEq]at this;exact this
     rw[F.1,F.2,Qx]at r;omega
   show P.seq=(aw.Fz ⟨n.n,n.l.take k⟩ d:Int)+1;omega
  have H:=aw.RV (S:=⟨n.n,n.l.take k⟩) y x Q A;have a0:dj P (n.l.take k)=n.l.take (k+1):=by
   rw[th λa f=>mY (b a f),Qw,f];rfl
  rw[show n.l.take (k+1)=n.l.take k++[P] by rw[Qw,f];rfl,aw.rp,I,H];have v:=l.add E;rw[H]at v;rw[show dj P (n.l.take k)=n.l.take k++[P]from th λa f=>mY (b a f)]at v⊢;exact⟨rfl,v⟩
def aw.Cl.Va(n:F.Cl):(⟨F.n,[]⟩:aw).fM F.l=F:=by
 have:=(n.take (Q4 _)).1;rw[List.take_length]at this;exact this
def DM{n:aj}:∀{l:List aj},(∀x∈l,aY x≠aY n)->dj n l=l.take (posOf (λx=>ei x n) l)++n::l.drop (posOf (λx=>ei x n) l)
 |[],_=>rfl
 |x::l,a=>by
  have b:=a x (QV ..);unfold dj posOf;rw[List.takeWhile_cons]
  by_cases P:ei x n=true
  ·rw[Zx P,Zq (by rw[mY P];simp)]
   have:=DM (l:=l) λc d=>a c (QJ _ d);rw[this];simp[posOf]
  ·rw[Zq P,Zx ((Fj b).resolve_left P)]
   rfl
structure pQ (most:Nat) (l:List aj):Prop where
 Pc:TP l
 ids:(l.map aY).Nodup
 ok:∀e∈l,e.Ok
 le:l.length<=most
def pQ.nil(n:Nat):pQ n []:=⟨List.Pairwise.nil,sM,sM,Qj _⟩
def pQ.add(b:pQ a J)(f:o.Ok):pQ a (fl a J o).2:=by
 unfold fl;split
 ·exact b
 rename_i d;rw[not_or]at d;have e:∀n∈J,aY n≠aY o:=by
  have:=d.2;simp only[List.any_eq_true,beq_iff_eq,not_exists,not_and]at this;exact this
 have c:=c_ o J;refine⟨wi b.Pc e,?_,λn P=>?_,by rw[c.length_eq,Xq];omega⟩
 ·refine(c.map aY).nodup_iff.2 ?_
  rw[QY,List.nodup_cons];exact⟨λg=>by obtain⟨n,P,h⟩:=Xk.1 g;exact e n P h,b.ids⟩
 ·rcases Q2.1 (c.mem_iff.1 P)with rfl|P
  ·exact f
  ·exact b.ok n P
def pQ.sub(n:pQ a J)(P:e0.Sublist J):pQ a e0:=
 ⟨n.Pc.sublist P,n.ids.sublist (P.map aY),λb c=>n.ok b (P.subset c),Xx P.length_le n.le⟩
def sw{P:aw}:∀{n:List aj},(∀e∈n,(P.add e).1≠0)->eR P n=none
 |[],_=>rfl
 |e::n,a=>by
  unfold eR;rw[Zq (a e (QV ..)),sw λb c=>a b (QJ _ c)];rfl
def sx{a:aw}:∀{n:List aj} {i:Nat} {e:aj},(∀x∈n.take i,(a.add x).1≠0)->n[i]? =some e->(a.add e).1=0->eR a n=some (e,(a.add e).2,n.eraseIdx i)
 |[],i,e,_,P,_=>by simp at P
 |x::n,0,e,b,P,c=>by
  simp at P;subst P;unfold eR;rw[Zx c];rfl
 |x::n,i+1,e,b,P,c=>by
  unfold eR;rw[Zq (b x sM),sx (i:=i) (e:=e) (λd f=>b d (by simp[f])) (by simpa using P) c]
  rfl
def cV(n:bt)(P:YQ)(a b:Nat)(c:YQ)(d e:Nat):List Value:=[ZH n.kind,ZH n.bl,ZH n.lX,.slice P a b,.slice c d e]
abbrev ij(n:bt)(P:YQ)(a b:Nat)(c:YQ)(d e:Nat):Value:=.agg (cV n P a b c d e).toArray
def dL(n:bt)(P:YQ)(a b:Nat)(c:YQ)(d e:Nat):ia ZP 127 (cV n P a b c d e)=true:=kR
def DP(n:bt)(P:YQ)(a b:Nat)(c:YQ)(d e:Nat):Sw (dG ZP 127) (ij n P a b c d e)=true:=kR
section
variable {w w':World} {D E F:ZN} {m:bt} {va ea:YQ} {vn vc en ec N:Nat} {chunk:Int} {p:Nat} {S:aw}
def Lg(b:Row aI 8 w D va vn m.vec)(i:Row jB 96 w E ea en m.events):YX 189 #[ij m va vn vc ea en ec,ZH (N:Int)] w (Ok λj w'=>j= ZH (gR m N)/\ai w w'):=by
 have u:=b.len;have v:=i.len;have k:=b.ef;refine FU (PA.mk λx c y d=>⟨_,_,_,ae d rfl,al.dec (λl=>Ok.mk ⟨?_,c⟩) (λl=>⟨_,_,_,ae d rfl,al.dQ (λo=>Ok.mk ⟨?_,c⟩) (λo=>⟨_,_,_,ae d rfl,λf p w'=>∃n:Nat,p=n/\n<=vn/\f=vn-n/\((m.vec.take n).any λP=>decide (P<0))=false/\ai w w',⟨_,0,rfl,Qj _,rfl,sM,c⟩,?_⟩)⟩)⟩)
 ·unfold gR;rw[Zx oM]
 ·unfold gR;rw[Zq oM,Zx oM]
 rintro f _ _ z ⟨n,rfl,A,rfl,e,a⟩;refine al.dec (λB=>?_) (λC=>Ok.mk ⟨?_,a⟩)
 ·obtain⟨q,r,P,s,g,-,t⟩:=(b.ah a).mP (i:=n) oM
  refine⟨q,r,s,oM,oM,P,t,al.dec (λh=>Ok.mk ⟨?_,a⟩) (λh=>⟨_,oM,n+1,aq (by unfold aK at k;omega),oM,rfl,?_,a⟩)⟩
  ·unfold gR;rw[Zq oM,Zq oM,Zx (List.any_eq_true.2 ⟨P,QZ g,by simpa using h⟩)]
  ·rw[Qw,g,List.any_append,e];simp;omega
 ·rw[Qz oM]at e
  unfold gR;rw[Zq oM,Zq oM,Zq (by rw[e];simp)]
def ym{c:Type}{n:c->Int}:∀{P:List c} {d:Nat} {a:c},(∀y∈P.take d,n y=0)->P[d]? =some a->n a≠0->cm n P=n a
 |y::P,0,a,_,b,e=>by
  simp at b;subst b;unfold cm;rw[Zx (by simpa using e)]
 |y::P,d+1,a,f,b,e=>by
  have g:n y=0:=f y sM;unfold cm
  rw[g];simp only[bne_self_eq_false,Bool.false_eq_true,if_false];exact ym (λh i=>f h (QJ _ i)) (by simpa using b) e
def B_{P:Type}{a:P->Int}:∀{n:List P},(∀y∈n,a y=0)->cm a n=0
 |[],_=>rfl
 |y::n,b=>by
  unfold cm
  rw[b y (QV ..)];simpa using B_ λc d=>b c (QJ _ d)
def Lh(t:Row aI 8 w D va vn m.vec)(h:Row jB 96 w E ea en m.events)(u:N<4611686018427387904):YX 188 #[ij m va vn vc ea en ec,ZH (N:Int),ZH chunk] w (Ok λv w'=>v= ZH (fk m N chunk)/\ai w w'):=by
 have W:=t.len;have X:=h.len;have x:=h.ef;refine FT (PA.mk λY a Z b=>⟨_,_,_,ae b rfl,al.dec (λy=>Ok.mk ⟨?_,a⟩) (λy=>⟨_,_,_,ae b rfl,al.dec (λz=>Ok.mk ⟨?_,a⟩) (λz=>⟨_,_,_,ae b rfl,al.dec (λA=>Ok.mk ⟨?_,a⟩) (λA=>⟨_,_,_,ae b rfl,λl i w'=>∃n:Nat,i=n/\n<=en/\l=en-n/\(∀P∈m.events.take n,cQ P N=0)/\ai w w',⟨_,0,rfl,Qj _,rfl,sM,a⟩,?_⟩)⟩)⟩)⟩)
 ·unfold fk;rw[Zx oM]
 ·unfold fk;rw[Zq oM,Zx (.inl oM)]
 ·unfold fk;rw[Zq oM,Zx (.inr oM)]
 rintro l _ _ B ⟨n,rfl,hj,rfl,c,d⟩;have o:fk m N chunk=cm (λC=>cQ C N) m.events:=by unfold fk;rw[Zq oM,Zq oM]
 refine al.dec (λa4=>?_) (λa5=>Ok.mk ⟨?_,d⟩)
 ·obtain⟨p,F,es,I,J,a6,q,e,f,g,rfl,r,K⟩:=(h.ah d).el n m.events[n] (Qq oM)
  have j:m.events[n]? =some m.events[n]:=Qq oM;generalize m.events[n]=P at q r K j;refine⟨p,F,I,oM,oM,bA (es:=aE P e f g) (k:=10) (aW P e f g) rfl (λi L=>q i L) (PA.mk λw3 M s3 O=>az (aW P e f g) O rfl λQ R s4 S=>ar (aW P e f g) S ?_)⟩;have k:ai B Q:=M.new R λp J=>.inr oM;refine PC.ok (xZ (r.ah k) u) ?_;rintro _ w5 ⟨rfl,s⟩;refine⟨_,rfl,al.dQ (λT=>Ok.mk ⟨by rw[o,ym c j T],(d.then k).then s⟩) (λU=>⟨_,oM,n+1,aq (by unfold aK at x;omega),oM,rfl,λV H=>?_,(d.then k).then s⟩)⟩;rw[Qw,j]at H;rcases Q6.1 H with H|H
  ·exact c V H
  ·simp at H;subst H;exact U
 ·rw[Qz oM]at c
  rw[o,B_ c]
def yo(h:ck w p F S):YX 78 #[ZL p,ZH e,ZH r] w (Ok λi w'=>∃va vn vc G,i=ij (kh S e r) va vn vc none 0 0/\aM aI 3 G w' va vn vc S.vec/\(∀r,G r->w.heap.size<=r)/\ai w w'):=by
 refine CR (PA.mk λm d o j=>PC.ok (lI (h.ah d)) ?_);rintro _ q ⟨P,a,b,G,rfl,k,c,f⟩;have s:=c.size;refine⟨_,_,_,rfl,az (dL (kh S e r) P a b none 0 0) (c.get j id) rfl λt g u l=>ar (dL (kh S e r) P a b none 0 0) l (Ok.mk ⟨P,a,b,G,rfl,k.af g λr n v=>?_,λr n=>?_,(d.then c).new g λr n=>.inr oM⟩)⟩
 ·have:=f r n;omega
 ·have:=f r n;omega
def IP(h:ck w p F S):YX 191 #[ZL p,ZH e,ZH r] w (Ok λi w'=>∃va vn vc G,i=ij (zH S e r) va vn vc none 0 0/\aM aI 3 G w' va vn vc S.vec/\(∀r,G r->w.heap.size<=r)/\ai w w'):=by
 refine Kw (PA.mk λm d o j=>PC.ok (lI (h.ah d)) ?_);rintro _ q ⟨P,a,b,G,rfl,k,c,f⟩;have s:=c.size;refine⟨_,_,_,rfl,az (dL (zH S e r) P a b none 0 0) (c.get j id) rfl λt g u l=>ar (dL (zH S e r) P a b none 0 0) l (Ok.mk ⟨P,a,b,G,rfl,k.af g λr n v=>?_,λr n=>?_,(d.then c).new g λr n=>.inr oM⟩)⟩
 ·have:=f r n;omega
 ·have:=f r n;omega
def EA{cs:Array Value}(P:w.heap[a]? =some (.cells cs g C))(b:cs[0]? =some (ZH (N:Int))):YX 187 #[ZH e,ZL a] w (Ok λc w'=>c= .bool (decide (0<=e)&&decide (e<N))/\w=w'):=by
 refine CV (al.dec (λn=>⟨_,ae P b,Ok.mk ⟨?_,rfl⟩⟩) (λn=>Ok.mk ⟨?_,rfl⟩))
 ·rw[Zy (show 0<=e from n)];rfl
 ·rw[Xv (show¬0<=e from n)];rfl
def Oa(o:Row aI 8 w D va vn m.vec)(p:Row jB 96 w E ea en m.events)(v:N<4611686018427387904):YX 118 #[ij m va vn vc ea en ec,ZH (N:Int),ZH chunk] w (Ok λf w'=>f= ZH (fH m N chunk)/\ai w w'):=by
 refine HW (PA.mk λx y J z=>PA.mk λg q K i=>?_);have b:=q.get z id;have n:=y.then q;refine⟨λA w'=>A=(!(decide (0<=m.bl)&&decide (m.bl<N))|| !(decide (0<=m.lX)&&decide (m.lX<N))||m.bl==m.lX)/\g=w',?_,?_⟩
 ·refine⟨_,ae b rfl,_,_,_,rfl,kR,PC.ok (EA (N:=N) i rfl) ?_⟩
  rintro _ _ ⟨rfl,rfl⟩;refine⟨_,rfl,al.not (al.mk (λP=>⟨_,ae b rfl,_,_,_,rfl,kR,PC.ok (EA (N:=N) i rfl) ?_⟩) (λP=>⟨by rw[P];rfl,rfl⟩))⟩;rintro _ _ ⟨rfl,rfl⟩;refine⟨_,rfl,al.not (al.mk (λa=>⟨_,ae b rfl,_,ae b rfl,by rw[P,a];rfl,rfl⟩) (λa=>⟨by rw[P,a];rfl,rfl⟩))⟩
 rintro j _ _ ⟨B,rfl⟩;have e:fH m N chunk=if m.kind=3 then(if j then 1 else fk m N chunk)else if m.kind=1\/m.kind=2\/m.kind=4 then(if j then 1 else gR m N)else 2:=by rw[B];rfl
 have c:∀{r:List PanicEntry->ZU},(if j then 1 else gR m N)=fH m N chunk->al j (Ok (λf w'=>f= ZH (fH m N chunk)/\ai w w') (.returned (ZH 1)) g) (ig ZP 127 (ZL w.heap.size) g λC=>(∃(s:Int),g.cell? ⟨x.heap.size,0,none⟩=some (ZH s)/\PC ZP 189 #[C,ZH s] g (λF H=>∃(t:Int),F= ZH t/\Ok (λf w'=>f= ZH (fH m N chunk)/\ai w w') (.returned (ZH t)) H) r)):=λ{r} u=>by
  refine al.mk (λh=>Ok.mk ⟨by rw[<-u,h];rfl,n⟩) (λh=>ar (dL m va vn vc ea en ec) b ⟨_,ae i rfl,PC.ok (Lg (o.ah n) (p.ah n)) ?_⟩);rintro _ I ⟨rfl,k⟩;exact⟨_,rfl,Ok.mk ⟨by rw[<-u,h];rfl,n.then k⟩⟩
 refine⟨_,ae b rfl,al.cW (λd=>al.not (al.mk (λh=>?_) (λh=>ar (dL m va vn vc ea en ec) b ⟨_,ae i rfl,PC.ok (Lh (o.ah n) (p.ah n) v) ?_⟩))) (λd=>al.cW (λP=>al.tt (by simpa using P) (c ?_)) (λP=>al.cW (λa=>al.tt (by simpa using a) (c ?_)) (λa=>al.cW (λl=>c ?_) (λl=>Ok.mk ⟨?_,n⟩))))⟩
 ·exact al.tt h (Ok.mk ⟨by rw[e,Zx d,h];rfl,n⟩)
 ·rintro _ I ⟨rfl,k⟩
  exact⟨_,rfl,Ok.mk ⟨by rw[e,Zx d,h];rfl,n.then k⟩⟩
 ·rw[e,Zq d,Zx (show m.kind=1\/m.kind=2\/m.kind=4 from .inl P)]
 ·rw[e,Zq d,Zx (show m.kind=1\/m.kind=2\/m.kind=4 from .inr (.inl a))]
 ·rw[e,Zq d,Zx (show m.kind=1\/m.kind=2\/m.kind=4 from .inr (.inr l))]
 ·rw[e,Zq d,Zq (by rintro(h|h|h);exact P h;exact a h;exact l h)]
end
structure Pa (w:World) (p:Nat) (M D:ZN) (most:Nat) (l:List aj) (a:YQ) (n c:Nat) (L:List (Bx aj)):Prop where
 at':w.heap[p]? =some (.cells #[ZH (most:Int),.slice a n c] 147 (0,0))
 mQ:aM mU.jC 63 (λb=>aD a=some b) w a n c L
 map:L.map (·.x)=l
 MZ:∀b∈L,mU.In w D b
 dD:∀b,D b->b<w.heap.size/\¬M b
 mp:M p
 ma:∀b,aD a=some b->M b/\b≠p
 dM:∀b,M b->b<w.heap.size
def gK(a:World)(b:Nat)(c D:ZN)(n:Nat)(P:List aj):Prop:=(n<=256/\pQ n P)/\∃d e f g,Pa a b c D n P d e f g
section
variable {w w':World} {p:Nat} {M D T E:ZN} {most:Nat} {l:List aj} {a:YQ} {n c:Nat} {L:List (Bx aj)}
def Pa.af(b:Pa w p M D most l a n c L)(e:ak T w w')(f:∀P,M P->¬T P)(g:∀P,D P->¬T P):Pa w' p M D most l a n c L:=
 ⟨e.get b.at' (f _ b.mp),b.mQ.af e λP d=>f P (b.ma P d).1,b.map,λP d=>(b.MZ P d).af e g,λP d=>⟨Qk (b.dD P d).1 e.size,(b.dD P d).2⟩,b.mp,b.ma,λP d=>Qk (b.dM P d) e.size⟩
def gK.af(b:gK w p M D most l)(d:ak T w w')(e:∀P,M P->¬T P)(f:∀P,D P->¬T P):gK w' p M D most l:=by
 obtain⟨g,a,n,c,L,b⟩:=b;exact⟨g,a,n,c,L,b.af d e f⟩
def gK.ah(n:gK w p M D most l)(P:ai w w'):gK w' p M D most l:=n.af P (λ_ _ n=>n) λ_ _ n=>n
def te:jS ZP 59 63 mU.jC.k 96:=JM
def JT(f:0<=e/\e<=256):YX 44 #[ZH e] w (Ok λb w'=>∃p,b= ZL p/\gK w' p (·=p) (λ_=>False) e.toNat []/\w.heap.size<=p/\p<w'.heap.size/\ai w w'):=by
 refine E_ (PA.mk λc d g a=>Ok.mk ⟨w.heap.size,rfl,⟨⟨oM,pQ.nil _⟩,none,0,0,[],?_,(aM.nil c).mono (λP n=>n.elim) (λP n=>by cases n),rfl,sM,λP n=>n.elim,rfl,λP n=>(by cases n),λP n=>by have n:P=w.heap.size:=n;omega⟩,Q4 _,oM,d⟩);have:(if(if 256<e then 256 else e)>0 then(if 256<e then 256 else e)else 0)=((e.toNat:Nat):Int):=by split<;>split<;>omega
 rw[this]at a;exact a
def ug(d:gK w p M D most l):YX 84 #[ZL p] w (Ok λf w'=>f= .tuple #[]/\gK w' p M (λ_=>False) most []/\ak M w w'):=by
 obtain⟨g,a,n,c,L,d⟩:=d;refine oY ⟨p,0,rfl,PS.mk d.at' sM λh i j k=>Ok.mk ⟨rfl,⟨⟨g.1,pQ.nil _⟩,none,0,0,[],k,(aM.nil h).mono (λb P=>P.elim) (λb P=>by cases P),rfl,sM,λb P=>P.elim,d.mp,λb P=>(by cases P),λb P=>by rw[j];exact d.dM b P⟩,i.mono λb _ e=>by have e:b=p:=e;exact e▸d.mp⟩⟩
def Ak{m o:Array Value}(s:enters ZP z=true)(b:Nat->ZU)(p:Nat->ZU)(h:b 0 w)(i:∀P f,b P f->Row mU.jC 96 f E a n L)(t:∀P d f,L[P]? =some d->b P f->YX z (m++ #[jQ d.x d.a d.n d.c]++o) f (Ok λg w'=>(g= .bool true/\p P w')\/(g= .bool false/\b (P+1) w'))):
  YX 304 #[.slice a n c,.func (.func z) m o] w (Ok λg w'=>(∃P,P<n/\g= ZH (P:Int)/\p P w')\/(g= ZH (-1)/\b n w')):=by
 have H:=(i 0 w h).len;have u:=(i 0 w h).ef;unfold aK at u;refine fA ⟨λq j w'=>∃P:Nat,j=P/\P<=n/\q=n-P/\b P w',⟨_,0,rfl,Qj _,rfl,h⟩,?_⟩;rintro q _ _ r ⟨P,rfl,I,rfl,k⟩;refine al.dec (λJ=>?_) (λK=>?_)
 ·have v:P<L.length:=oM
  have l:L[P]? =some L[P]:=Qq v;generalize L[P]=e at l;obtain⟨d,x,M,y,N,O,A,rfl,-⟩:=(i P r k).el P e l;refine⟨d,x,y,oM,oM,bA (es:=aE e.x e.a e.n e.c) (k:=10) (aW _ _ _ _) rfl (λj B=>by rw[Qx];exact A j B) ⟨_,_,_,rfl,s,PC.ok (t P e r l k) ?_⟩⟩;rintro _ Q (⟨rfl,C⟩|⟨rfl,F⟩)
  ·exact⟨_,rfl,al.tt rfl (Ok.mk (.inl ⟨P,oM,rfl,C⟩))⟩
  ·exact⟨_,rfl,al.ff rfl ⟨_,oM,P+1,aq oM,oM,rfl,F⟩⟩
 ·obtain rfl:P=n:=oM
  exact Ok.mk (.inr ⟨rfl,k⟩)
def Hv{c e:Nat}{P:Nat}{f g:Nat}(a:w.heap[P]? =some (.cells (aE O u f g).toArray 63 C)):
  YX 296 #[jQ o d c e,ZL P] w (Ok λh w'=>h= .bool (aY o==aY O)/\ai w w'):=by
 refine oZ (PA.mk λi n j b=>⟨_,_,ae b rfl,ae b rfl,_,_,ae (n.get a id) rfl,ae (n.get a id) rfl,LS.eql ⟨_,rfl,Ok.mk ⟨rfl,n⟩⟩⟩)
def JU(k:Row mU.jC 96 w E a n L)(v:∀P,E P->P<w.heap.size){l:Nat}{q r:Nat}(s:w.heap[l]? =some (.cells (aE o d q r).toArray 63 C)):
  YX 295 #[.slice a n c,.func (.func 296) #[] #[ZL l]] w (Ok λm w'=>m= .bool (L.any λP=>aY P.x==aY o)/\ai w w'):=by
 have x:=k.len;refine eQ (PC.ok (Ak (E:=E) kR (λf g=>(∀P∈L.take f,(aY P.x==aY o)=false)/\ai w g) (λf g=>(L.any λP=>aY P.x==aY o)=true/\ai w g) ⟨sM,ak.refl _⟩ (λf g h=>k.ah h.2) ?_) ?_)
 ·rintro f P g i ⟨j,b⟩
  refine(Hv (b.get s id)).mono ?_;rintro _ y ⟨m,rfl,rfl,p⟩;refine Ok.mk ?_
  cases h:aY P.x==aY o
  ·refine .inr ⟨rfl,λt e=>?_,b.then p⟩
   rw[Qw,i]at e;rcases Q6.1 e with e|e
   ·exact j t e
   ·simp at e;subst e;exact h
  ·exact .inl ⟨rfl,List.any_eq_true.2 ⟨P,QZ i,h⟩,b.then p⟩
 ·rintro _ z (⟨f,A,rfl,u,b⟩|⟨rfl,j,b⟩)
  ·exact⟨_,rfl,Ok.mk ⟨by rw[u,Zy oM],b⟩⟩
  ·refine⟨_,rfl,Ok.mk ⟨?_,b⟩⟩
   rw[Qz oM]at j;rw[List.any_eq_false.2 λP i=>by rw[j P i];simp]
   rfl
end
section
variable {w w':World} {p:Nat} {M D T E:ZN} {most:Nat} {l:List aj} {a:YQ} {n c:Nat} {L:List (Bx aj)}
def pR{a g:YQ}{n c h i:Nat}{w:World}:YX 298 #[jQ o a n c,jQ O g h i] w (Ok λj w'=>j= ZH (sv o O)/\ai w w'):=by
 refine wh (PA.mk λt k u l=>PA.mk λm e v p=>λq r=>⟨λ_=>False,?_⟩);have P:ai m q:=r.af;have b:=P.get (e.get l id) id;have d:=P.get p id;refine⟨_,ae b rfl,_,ae d rfl,id,_,ae b rfl,id,_,ae d rfl,id,_,ae b rfl,id,_,ae d rfl,PC.ok gM ?_⟩;rintro _ _ ⟨rfl,rfl⟩;refine⟨_,rfl,ak.refl _,PC.ok gM ?_⟩;rintro _ _ ⟨rfl,rfl⟩;refine⟨_,rfl,ak.refl _,PC.ok gM ?_⟩;rintro _ _ ⟨rfl,rfl⟩;refine⟨_,rfl,ak.refl _,PA.mk λx f y s=>⟨f,PC.ok (Pb s) ?_⟩⟩;rintro _ _ ⟨rfl,rfl⟩;exact⟨_,rfl,ak.refl _,Ok.mk ⟨by rw[Hw],((k.then e).then P).then f⟩⟩
def DK:sv o O<0↔ei o O=true:=by
 unfold sv
 cases ei o O
 ·cases ei O o<;>simp
 ·simp
def CE(x:Row mU.jC 96 w E a n L)(U:TP (L.map (·.x))){C F:Nat}:
  YX 297 #[.slice a n c,jQ o d C F,.func (.func 298) #[] #[]] w (Ok λV w'=>∃P,V= .tuple #[ZH ((posOf (λm=>ei m.x o) L:Nat):Int),.bool P]/\ai w w'):=by
 have hl:=x.len;have W:=x.ef;unfold aK at W;have N:∀{i j:Nat} {b k:Bx aj},L[i]? =some b->L[j]? =some k->i<=j->b=k\/ei b.x k.x=true:=λ{i j b k} l q b4=>by
  rcases Nat.lt_or_ge i j with h|h
  ·right
   have y:(L.map (·.x))[i]? =some b.x:=by rw[Q9,l];rfl
   have z:(L.map (·.x))[j]? =some k.x:=by rw[Q9,q];rfl
   obtain⟨X,Y⟩:=Qv.1 y;obtain⟨Z,e2⟩:=Qv.1 z;have:=List.pairwise_iff_getElem.1 U i j X Z h;rw[Y,e2]at this;exact this
  ·obtain rfl:i=j:=oM
   rw[l]at q;exact .inl (XJ q)
 refine cX (PA.mk λa4 O b5 Q=>⟨λR i j w'=>∃p e:Nat,i=p/\j=e/\R=e-p/\p<=e/\e<=n/\(∀P b,P<p->L[P]? =some b->ei b.x o=true)/\(∀P b,e<=P->L[P]? =some b->ei b.x o=false)/\ai a4 w',
  ⟨_,0,n,rfl,rfl,rfl,oM,oM,λP b g=>oM,λP b g l=>by have:=(Qv.1 l).1;omega,ak.refl _⟩,?_⟩)
 rintro R _ _ _ S ⟨p,e,rfl,rfl,rfl,b6,a5,y,z,s⟩;have t:enters ZP 298=true:=kR
 refine al.dec (λb7 a6 a7=>?_) (λb8 a8 a9=>?_)
 ·have A:ai S a6:=a7.af
  have u:=(O.then s).then A;rw[TN oM];have r:L[(p+e)/2]? =some L[(p+e)/2]:=Qq oM;generalize L[(p+e)/2]=f at r;obtain⟨m,H,es,I,b0,b1,J,rfl,-⟩:=(x.ah u).el _ f r;refine⟨m,H,I,oM,oM,bA (es:=aE f.x f.a f.n f.c) (k:=10) (aW _ _ _ _) rfl (λP g=>by rw[Qx];exact J P g) (ar (aW o d C F) ((s.then A).get Q id) ⟨_,_,_,rfl,t,PC.ok pR ?_⟩)⟩;rintro _ b2 ⟨rfl,B⟩;refine⟨_,rfl,al.dec (λK=>⟨_,?_,(p+e)/2+1,e,aq oM,rfl,rfl,oM,a5,λP k g q=>?_,z,(s.then A).then B⟩) (λK=>⟨_,?_,p,(p+e)/2,rfl,rfl,rfl,oM,oM,y,λP k g q=>?_,(s.then A).then B⟩)⟩
  ·omega
  ·have v:=DK.1 K
   rcases N q r oM with rfl|M
   ·exact v
   ·exact tf M v
  ·omega
  ·have v:¬ei f.x o=true:=λh=>K (DK.2 h)
   rcases N r q g with rfl|M
   ·simpa using v
   ·cases h4:ei k.x o
    ·rfl
    ·exact Zz (tf M h4) v
 ·obtain rfl:p=e:=oM
  have T:ai S a8:=a9.af;have u:=(O.then s).then T;have a3:posOf (λm=>ei m.x o) L=p:=Ai oM (λP b g l=>y P b g l) (λb l=>z p b (Q4 _) l);rw[a3];refine al.dec (λb3=>?_) (λb3=>Ok.mk ⟨false,rfl,u⟩);have r:L[p]? =some L[p]:=Qq oM;generalize L[p]=f at r;obtain⟨m,H,es,I,b0,b1,J,rfl,-⟩:=(x.ah u).el _ f r;refine⟨m,H,I,oM,oM,bA (es:=aE f.x f.a f.n f.c) (k:=10) (aW _ _ _ _) rfl (λP g=>by rw[Qx];exact J P g) (ar (aW o d C F) ((s.then T).get Q id) ⟨_,_,_,rfl,t,PC.ok pR ?_⟩)⟩;rintro _ b2 ⟨rfl,B⟩;exact⟨_,rfl,Ok.mk ⟨_,rfl,u.then B⟩⟩
def TQ{f h:Nat}{x:Bx aj}(j:aM mU.jC 63 (λP=>aD a=some P) w a n c L)(k:f<=n)(l:w.heap[h]? =some (.cells (aE x.x x.a x.n x.c).toArray 63 (0,0)))(m:aD a≠some h)(r:L.length<=20000000):
  YX 299 #[.slice a n c,ZH (f:Int),.slice (ZM h) 1 1] w (Ok λo w'=>∃d g,o= .slice d (n+1) g/\aM mU.jC 63 (λP=>aD d=some P) w' d (n+1) g (L.take f++x::L.drop f)/\ak (λP=>aD a=some P) w w'/\∀P,aD d=some P->aD a=some P\/w.heap.size<=P):=by
 refine fX (Hx.one (c:=mU.jC) (tb:=4) (x:=x) (D:=λ_=>False) te kR ?_ j k l ⟨rfl,trivial⟩ (λP b=>b.elim) m ba (by unfold maxLen;omega) λd g w' s e p q=>Ok.mk ⟨d,g,rfl,aM.alone e,p,λP b=>?_⟩)
 ·intro i w
  rw[run_callFunc_extern Tryz.func329 kR kR kR (e:=Extern.SlicesOverlaps.overlaps #[59,59] #[4]) kR]
 ·rcases q P (e.self P b)with b|b|b
  ·exact .inl b
  ·exact b.elim
  ·exact .inr b
def TR{b:Nat}(e:aM mU.jC 63 (λP=>aD a=some P) w a n c L)(f:b<n)(i:n<=20000000):
  YX 305 #[.slice a n c,ZH (b:Int),ZH (ZG .i64 ((b:Int)+1))] w (Ok λg w'=>g= .slice a (n-1) c/\aM mU.jC 63 (λP=>aD a=some P) w' a (n-1) c (L.eraseIdx b)/\ak (λP=>aD a=some P) w w'):=
 fY (Fc.one (c:=mU.jC) (tz:=0) te kR e f (by unfold maxLen;omega) λw' d h=>Ok.mk ⟨rfl,d,h⟩)
def JV(f:gK w p M D most l){e:aj}{en ec:Nat}(O:Row aI 8 w E d en e.aQ)(hE:∀P,E P->P<w.heap.size)(he:e.Ok):
  YX 246 #[ZL p,jQ e d en ec] w (Ok λQ w'=>Q= .bool (fl most l e).1/\∃o q,gK w' p o q most (fl most l e).2/\ak M w w'/\(∀P,o P->M P\/w.heap.size<=P)/\∀P,q P->D P\/w.heap.size<=P):=by
 have b3:=f;obtain⟨B,a,n,c,L,f⟩:=f;have d8:L.length=l.length:=by rw[<-f.map,Q8]
 have hn:n=L.length:=f.mQ.len dC;have d9:=f.dM p f.mp;have e0:=B.2.le;have j:(L.any λP=>aY P.x==aY e)=l.any (λi=>aY i==aY e):=by rw[<-f.map,List.any_map];rfl
 refine rK (PA.mk λc6 b4 e1 b5=>λR c7=>⟨λ_=>False,?_⟩);have S:ai c6 R:=c7.af;have m:ai w R:=b4.then S;have T:=m.get f.at' id;have no:(fl most l e)=(false,l)->∀U,ai w U->Ok (λQ w'=>Q= .bool (fl most l e).1/\∃o q,gK w' p o q most (fl most l e).2/\ak M w w'/\(∀P,o P->M P\/w.heap.size<=P)/\∀P,q P->D P\/w.heap.size<=P) (.returned (.bool false)) U:=λhq U k1=>
  Ok.mk ⟨by rw[hq],M,D,by rw[hq];exact b3.ah k1,ai.af k1,λP b=>.inl b,λP b=>.inl b⟩
 refine⟨p,0,rfl,_,_,_,ae T rfl,p,0,rfl,_,ae T rfl,al.dec (λe2=>no (by unfold fl;rw[Zx (.inl oM)]) R m) (λe3=>⟨p,0,rfl,id,_,_,_,ae T rfl,ak.refl _,PC.ok (JU (E:=λP=>aD a=some P) (((f.mQ.ah m).row (bytes:=96) dC ba)) (λP b=>by have:=(f.mQ.aC P b);have:=m.size;omega) (S.get b5 id)) ?_⟩)⟩;rintro _ b6 ⟨rfl,C⟩;refine⟨_,rfl,C,al.mk (λr=>no (by unfold fl;rw[Zx (.inr (j▸r))]) b6 (m.then C)) (λr=>?_)⟩;have F:=m.then C;have b7:fl most l e=(true,dj e l):=by unfold fl;rw[Zq (by rw[<-j];rintro(g|g);omega;rw[r]at g;cases g)]
 have c8:∀i∈l,aY i≠aY e:=by
  rw[j]at r;simpa[List.any_eq_false]using r
 have V:=(S.then C).get b5 id;refine⟨_,_,_,ae V rfl,PC.ok (bH (O.ah F) λP b=>by have:=hE P b;have:=F.size;omega) ?_⟩;rintro _ b8 ⟨H,I,J,G,rfl,W,X,Y⟩;have e4:=F.size;have e5:=X.size;refine⟨_,_,_,rfl,PS.mk (X.get V id) (by simp[aE]) λZ a9 e6 c9=>λK b9=>?_⟩;have s:ai Z K:=b9.af;have e7:K.heap.size=Z.heap.size:=by rw[b9.heap]
 have a0:Z.heap[w.heap.size]? =some (.cells (aE e H I J).toArray 63 (0,0)):=c9;have a1:ai w K:=((F.then X).new a9 λP b=>.inr (by have b:P=w.heap.size:=b;omega)).then s;have b0:=f.af a1 (λ_ _ f=>f) λ_ _ f=>f;have c1:TP (L.map (·.x)):=by rw[f.map];exact B.2.Pc
 refine⟨p,0,rfl,_,_,_,ae b0.at' rfl,ar (aW e H I J) (s.get a0 id) (PC.ok (CE (b0.mQ.row (bytes:=96) dC ba) c1) ?_)⟩;rintro _ e8 ⟨a4,rfl,d0⟩;refine⟨_,_,rfl,λd1 d2=>⟨λ_=>False,?_⟩⟩;have t:ai K d1:=d0.then d2.af;have a2:=a1.then t;have c3:=b0.af t (λ_ _ f=>f) λ_ _ f=>f;have h:=t.get (s.get a0 id) id;have d7:=Ah (λP:Bx aj=>ei P.x e) L;refine⟨p,0,rfl,id,_,_,_,ae c3.at' rfl,_,_,_,_,_,_,_,_,_,_,_,_,ae h rfl,ae h rfl,ae h rfl,ae h rfl,ae h rfl,ae h rfl,ae h rfl,ae h rfl,ae h rfl,ae h rfl,PA.mk λd3 u e9 d4=>⟨u,?_⟩⟩;have c4:=c3.af u (λ_ _ f=>f) λ_ _ f=>f;have f2:=a2.size;refine PC.ok (TQ (x:=⟨e,H,I,J⟩) c4.mQ oM d4 (λe=>by have:=f.mQ.aC _ e;omega) oM) ?_;rintro _ f3 ⟨a',c',rfl,a3,v,x⟩;have b1:¬aD a=some p:=λe=>(f.ma p e).2 rfl;have f4:=v.size;refine⟨_,_,_,rfl,p,0,rfl,PS.mk (v.get c4.at' b1) sM λd5 N f5 d6=>?_⟩;have y:ak M w d5:=((ai.af (a2.then u)).then (v.mono λP _ b=>(f.ma P b).1)).then (N.mono λP _ e=>by have e:P=p:=e;exact e▸f.mp);refine Ok.mk ⟨by rw[b7],λP=>M P\/aD a'=some P,λP=>D P\/G P,⟨⟨B.1,B.2.add he⟩,a',n+1,c',L.take (posOf (λP=>ei P.x e) L)++⟨e,H,I,J⟩::L.drop (posOf (λP=>ei P.x e) L),d6,?_,?_,?_,?_,.inl f.mp,?_,?_⟩,?_,?_,?_⟩
 ·refine a3.af N λP b e=>?_
  have e:P=p:=e;rcases x P b with g|g
  ·exact b1 (e▸g)
  ·omega
 ·rw[b7]
  have c5:posOf (λi=>ei i e) l=posOf (λP:Bx aj=>ei P.x e) L:=by
   unfold posOf;rw[<-f.map,List.takeWhile_map,Q8];rfl
  show _=dj e l;rw[DM c8,c5,Q3,QY,List.map_take,List.map_drop,f.map]
 ·have b2:∀P,G P->b6.heap.size<=P/\P<b8.heap.size:=λP b=>⟨Y P b,W.aC P b⟩
  intro i k;rcases Q6.1 k with k|k
  ·exact((f.MZ i (List.mem_of_mem_take k)).af y λP b=>(f.dD P b).2).mono λP b=>.inl b
  rcases Q2.1 k with rfl|k
  ·refine⟨(((((W.af a9 λP b e=>?_).ah s).ah (t.then u)).af v λP b e=>?_).af N λP b e=>?_).row (bytes:=8) dC (by rw[<-O.len];exact O.ef)|>.mono λP b=>.inr b,he⟩
   ·have e:P=w.heap.size:=e;have:=b2 P b;have:=ax V;omega
   ·have:=f.mQ.aC P e;have:=b2 P b;omega
   ·have e:P=p:=e;have:=b2 P b;omega
  ·exact((f.MZ i (List.mem_of_mem_drop k)).af y λP b=>(f.dD P b).2).mono λP b=>.inl b
 ·intro P b
  have hz:b8.heap.size<=d3.heap.size:=by have:=a9.size;have:=s.size;have:=t.size;have:=u.size;omega
  rcases b with b|b
  ·have g:=f.dD P b
   refine⟨by have:=y.size;omega,λz=>z.elim g.2 λe=>?_⟩;rcases x P e with A|A
   ·exact g.2 (f.ma P A).1
   ·omega
  ·have g:=W.aC P b;have h3:=Y P b
   have f8:=b4.size;refine⟨by have:=v.size;have:=N.size;omega,λz=>?_⟩;rcases z with z|e
   ·have:=f.dM P z;omega
   rcases x P e with A|A
   ·have:=f.mQ.aC P A;omega
   ·omega
 ·intro P b
  refine⟨.inr b,λe=>?_⟩;rcases x P b with g|g
  ·exact b1 (e▸g)
  ·omega
 ·intro P b
  rcases b with b|b
  ·have:=f.dM P b;have:=y.size;omega
  ·have:=a3.aC P b;omega
 ·exact y
 ·intro P b
  rcases b with b|b
  ·exact .inl b
  rcases x P b with g|g
  ·exact .inl (f.ma P g).1
  ·exact .inr oM
 ·intro P b
  rcases b with b|b
  ·exact .inl b
  ·exact .inr (by have:=Y P b;omega)
end
end Go.Proofs.YtjgjkeponbeekaaGreatDoor
namespace Go.au
open Go
variable{E a c i p:Nat}{f:ZN}{d:YQ}{h:Program}{j:Type}{g q:TypeId}{b:World}{y:ZU}
def aM.RM{k:Nat}{n:j->List Value}{m:j->Prop}{hl h1}{P:List j}{x:j}(e:aM (flat k n m hl h1) q f b d a c P)(z:E<P.length)(A:0<k)(B:m x)(C:d=some ⟨i,p,none⟩)(F:ia h g (n x)=true)(o:∀l,aM (flat k n m hl h1) q f l d a c (P.set E x)->ak (λi=>aD d=some i) b l->l.heap.size=b.heap.size->y l):lr h g (.pointer (some ⟨i,p+E*k,none⟩)) (.agg (n x).toArray) b y:=by
 have L:=e.len A;obtain⟨cs,D,s,H,t⟩:=e.body;have M:cs.length=a*k:=s.length;have N:(E+1)*k<=a*k:=Q0 _ oM;have I:(E+1)*k=E*k+k:=by rw[X7,Nat.one_mul]
 refine s.store (m:=E*k) C F (by rw[hl];omega) λJ K u v=>o J ⟨⟨_,D,K,?_,t⟩,e.self,λi r=>by rw[v];exact e.aC i r⟩ u v;have w:=H.af u λi r=>(t i r).2;rw[hl,<-I,show P.set E x=P.take E++[x]++P.drop (E+1) by rw[XQ,List.singleton_append];exact List.set_eq_take_append_cons_drop .. |>.trans (Zx z)];exact bK.append (bK.append (w.take E) (bK.one ⟨rfl,B⟩)) (w.drop (E+1))
end Go.au
namespace Go.Proofs.YtjgjkeponbeekaaGreatDoor
section
open Go.au
variable{z:FuncId}{Y f:ZN}{d:YQ}{o:aj}{F:aw}
section
variable {w w':World} {p:Nat} {M D T E:ZN} {most:Nat} {l:List aj} {a:YQ} {n c:Nat} {L:List (Bx aj)}
def M_{F H:Array Value}{pr:aj->Bool}(I:enters ZP z=true)(m:aM mU.jC 63 (λP=>aD a=some P) w a n c L)(hl:L.length<=20000000)(J:∀(P:Bx aj) e,ak (λP=>aD a=some P) w e->YX z (F++ #[jQ P.x P.a P.n P.c]++H) e (Ok λr w'=>r= .bool (pr P.x)/\ai e w')):
  YX 302 #[.slice a n c,.func (.func z) F H] w (Ok λr w'=>∃o,r= .slice a o c/\aM mU.jC 63 (λP=>aD a=some P) w' a o c (L.filter λP=>!pr P.x)/\ak (λP=>aD a=some P) w w'):=by
 have hn:=m.len dC;have b6:=m.jD;have p:∀{e:World} {f:List (Bx aj)},aM mU.jC 63 (λP=>aD a=some P) e a n c f->f.length=L.length->Row mU.jC 96 e (λP=>aD a=some P) a n f:=λ{e f} Z b7=>Z.row dC ba;refine fx (PC.ok (Ak (E:=λP=>aD a=some P) (L:=L) I (λd e=>(∀P∈L.take d,pr P.x=false)/\ai w e) (λd e=>(∀P∈L.take d,pr P.x=false)/\(∀P,L[d]? =some P->pr P.x=true)/\ai w e) ⟨sM,ak.refl _⟩ (λd e h1=>(p m rfl).ah h1.2) ?_) ?_)
 ·rintro d P e h ⟨i,y⟩
  refine(J P e (ai.af y)).mono ?_;rintro _ w2 ⟨r,rfl,rfl,K⟩;refine Ok.mk ?_
  cases M:pr P.x
  ·refine .inr ⟨rfl,λN g=>?_,y.then K⟩
   rw[Qw,h]at g;rcases Q6.1 g with g|g
   ·exact i N g
   ·simp at g;subst g;exact M
  ·exact .inl ⟨rfl,i,λN g=>by rw[h]at g;cases g;exact M,y.then K⟩
 rintro _ w4 (⟨k,b8,rfl,i,a0,q⟩|⟨rfl,i,q⟩)
 rotate_left
 ·refine⟨_,rfl,al.tt sM (Ok.mk ⟨n,rfl,?_,ai.af q⟩)⟩
  rw[Qz oM]at i;rw[List.filter_eq_self.2 λP h=>by rw[i P h];rfl];exact m.ah q
 have O:L[k]? =some L[k]:=Qq oM;have a8:(L.take (k+1)).filter (λP=>!pr P.x)=L.take k:=by
  rw[Qw,O,List.filter_append,List.filter_eq_self.2 λP h=>by rw[i P h];rfl];simp[a0 _ O]
 refine⟨_,rfl,al.ff sM ⟨λo l d w'=>∃(A j:Nat) (f:List (Bx aj)),l=A/\d=j/\A<j/\j<=n/\o=n-j/\aM mU.jC 63 (λP=>aD a=some P) w' a n c f/\f.length=L.length/\f.take A=(L.take j).filter (λP=>!pr P.x)/\f.drop j=L.drop j/\ak (λP=>aD a=some P) w w',
  ⟨_,k,k+1,L,rfl,aq oM,oM,oM,rfl,m.ah q,rfl,a8.symm,rfl,ai.af q⟩,?_⟩⟩
 rintro o _ _ _ Q ⟨l,d,f,rfl,rfl,b9,c1,rfl,s,B,t,R,u⟩;refine al.dec (λc2=>?_) (λc3=>?_)
 ·have v:L[d]? =some L[d]:=Qq oM
  have S:f[d]? =some L[d]:=by
   have:=Zj (·[0]?) R;simp only[List.getElem?_drop,Nat.add_zero]at this;rw[this,v]
  have T:f.drop (d+1)=L.drop (d+1):=by
   have:=Zj (List.drop 1) R
   rwa [List.drop_drop,List.drop_drop]at this
  generalize L[d]=b at v S;obtain⟨P,U,es,C,c4,c5,a9,rfl,-⟩:=(p s B).el d b S;refine⟨P,U,C,oM,oM,bA (es:=aE b.x b.a b.n b.c) (k:=10) (aW _ _ _ _) rfl (λa1 ht=>by rw[Qx];exact a9 a1 ht) (PA.mk λc6 b0 c7 b1=>az (aW b.x b.a b.n b.c) b1 rfl λV b2 c8 W=>ar (aW b.x b.a b.n b.c) W ⟨_,_,_,rfl,I,?_⟩)⟩;have X:ai Q V:=b0.new b2 λP h=>.inr (by have h:P=Q.heap.size:=h;omega);refine PC.ok (J b V (u.ah X)) ?_;rintro _ c9 ⟨rfl,Y⟩;have x:=X.then Y;refine⟨_,rfl,al.not (al.mk (λE=>⟨_,?_,l,d+1,f,rfl,aq oM,oM,oM,rfl,s.ah x,B,?_,T,u.ah x⟩) (λE=>?_))⟩
  ·omega
  ·rw[t,Qw,v,List.filter_append]
   simp[E]
  ·refine ar (aW b.x b.a b.n b.c) (Y.get W id) ⟨P,U,C,oM,oM,?_⟩
   rw[Qx];refine aM.RM (x:=b) (k:=10) (s.ah x) oM dC trivial C (aW b.x b.a b.n b.c) λd0 a7 b3 d1=>⟨_,?_,l+1,d+1,f.set l b,aq oM,aq oM,oM,oM,rfl,a7,by simpa using B,?_,?_,(u.ah x).then b3⟩
   ·omega
   ·rw[Qw (l:=L),v,List.filter_append,<-t,Qw,List.getElem?_set_self oM,List.take_set_of_le (Q4 _)]
    simp[E]
   ·rw[List.drop_set_of_lt oM,T]
 ·obtain rfl:d=n:=oM
  rw[Qz (l:=L) oM]at t;refine⟨oM,oM,?_⟩;rw[Qx];refine Ad te kR s oM λvV b4 b5 d2=>⟨oM,oM,Ok.mk ⟨l,rfl,?_,u.then b5⟩⟩
  rw[<-t];exact b4
def Na{P a:Nat}(j:ck w P f F)(k:w.heap[a]? =some (.cells #[ZL P] 102 (0,0))){l m:Nat}:
  YX 300 #[jQ o d l m,ZL a] w (Ok λp w'=>p= .bool (F.get (aY o)).isSome/\ai w w'):=by
 refine mV (PA.mk λv n x b=>⟨_,ae (n.get k id) rfl,_,_,ae b rfl,ae b rfl,PC.ok (RN (j.ah n) (aY o)) ?_⟩);rintro _ q ⟨c,e,g,G,rfl,y,z,h⟩;exact bT (rL _ c e g) ⟨_,rfl,PA.mk λA r B s=>az (aW _ c e g) s rfl λC t E H=>Ok.mk ⟨rfl,((n.then h).then r).new t λu i=>.inr (by have i:u=q.heap.size:=i;have:=n.size;have:=h.size;omega)⟩⟩
def Nb{c g:Nat}(k:ck w c f F)(l:w.heap[g]? =some (.cells #[ZL c] 102 (0,0))){e h:Nat}(m:Row aI 8 w Y d e o.aQ)(i:∀n,Y n->n<w.heap.size/\¬f n)(p:o.Ok)(t:F.l.length<=20000000):
  YX 303 #[jQ o d e h,ZL g] w (Ok λq w'=>q= .bool (decide ((F.add o).1=0))/\∃a,ck w' c a (F.add o).2/\bB f w a w'):=by
 refine mW (PA.mk λu P v r=>⟨_,ae (P.get l id) rfl,ar (aW o d e h) r (PC.ok (uh (k.ah P) (m.ah P) (λn b=>⟨by have:=(i n b).1;omega,(i n b).2⟩) p oM) ?_)⟩);rintro _ x ⟨rfl,a,s,j⟩;have:=P.size;exact⟨_,rfl,Ok.mk ⟨by congr 1,a,s,(ai.af P).then j.af,λn b=>(j.new n b).imp id oM⟩⟩
end
end
section
open Go.au
variable{g2:List (Bx aj)}{f:ZN}{d:YQ}{b:World}{F:aw}
section
variable {w w':World} {p:Nat} {M D E:ZN} {most:Nat} {l:List aj} {a:YQ} {n c:Nat} {L:List (Bx aj)}
structure RF (w:World) (p:Nat) (M:ZN) (most:Nat) (a:YQ) (c s tb:Nat) (T:aw) (nc:Nat) (Lc:List (Bx aj)) (oa:YQ) (on oc:Nat) (Lo:List (Bx aj)) (w1:World):Prop where
 set:∃F1,ck w1 s F1 T/\(∀b,F1 b->w.heap.size<=b/\b≠tb)/\∀b,aD oa=some b->w.heap.size<=b/\¬F1 b/\b≠tb
 ptr:w1.heap[tb]? =some (.cells #[ZL s] 102 (0,0))
 buf:w1.heap[p]? =some (.cells #[ZH (most:Int),.slice a nc c] 147 (0,0))
 mQ:aM mU.jC 63 (λb=>aD a=some b) w1 a nc c Lc
 out:aM mU.jC 63 (λb=>aD oa=some b) w1 oa on oc Lo
 af:ak M w w1
def xE(h:Pa w p M D most l a n c L){q j:Nat}{i:Nat}{r s:Nat}{t:List (Bx aj)}(H:RF w p M most a c q j F i g2 d r s t b)(N:∀P∈g2,P∈L)(O:F.l.length<=20000000)(a6:g2.length<=20000000):
  YX 304 #[.slice a i c,.func (.func 303) #[] #[ZL j]] b (Ok λz w'=>
   (z= ZH (-1)/\(∀P∈g2,(F.add P.x).1≠0)/\RF w p M most a c q j F i g2 d r s t w')\/
   (∃g P,g<i/\z= ZH (g:Int)/\g2[g]? =some P/\(∀v∈g2.take g,(F.add v.x).1≠0)/\(F.add P.x).1=0/\RF w p M most a c q j (F.add P.x).2 i g2 d r s t w')):=by
 have R:=h.dM p h.mp;have a7:=H.mQ.len dC;have S:∀P,aD a=some P->P<w.heap.size:=λP e=>h.dM P (h.ma P e).1;refine(Ak (E:=λP=>aD a=some P) (L:=g2) kR (λg k=>(∀P∈g2.take g,(F.add P.x).1≠0)/\RF w p M most a c q j F i g2 d r s t k) (λg k=>∃P,g2[g]? =some P/\(∀v∈g2.take g,(F.add v.x).1≠0)/\(F.add P.x).1=0/\RF w p M most a c q j (F.add P.x).2 i g2 d r s t k) ⟨sM,H⟩
  (λg k f=>f.2.mQ.row dC ba) ?_).mono ?_
 ·rintro g P k e ⟨I,f⟩
  obtain⟨T,U,x,A⟩:=f.set;have J:=(h.MZ P (N P (QZ e))).af f.af λP e=>(h.dD P e).2;have z2:=f.af.size;refine(Nb U f.ptr J.1 (λP e=>⟨by have:=(h.dD P e).1;omega,λm=>by have:=(h.dD P e).1;have:=(x P m).1;omega⟩) J.2 O).mono ?_;rintro _ V ⟨z,rfl,rfl,W,X,o⟩;have K:∀P,P<w.heap.size->¬T P:=λP e m=>by have:=(x P m).1;omega
  have Y:=ax f.ptr;have C:∀P,aD d=some P->P<k.heap.size:=λP e=>f.out.aC P e;have E:RF w p M most a c q j (F.add P.x).2 i g2 d r s t V:=⟨⟨W,X,λP e=>(o.new P e).elim (x P) λy=>⟨oM,oM⟩,λP e=>⟨(A P e).1,λm=>(o.new P m).elim (A P e).2.1 λy=>by have:=C P e;omega,(A P e).2.2⟩⟩,
   o.af.get f.ptr λm=>(x _ m).2 rfl,o.af.get f.buf (K p R),f.mQ.af o.af λP e=>K P (S P e),f.out.af o.af λP e=>(A P e).2.1,f.af.new o.af λP e=>.inr (x P e).1⟩
  refine Ok.mk ?_
  by_cases u:(F.add P.x).1=0
  ·exact .inl ⟨by rw[Zy u],P,e,I,u,E⟩
  ·refine .inr ⟨by rw[Xv u],λv Q=>?_,?_⟩
   ·rw[Qw,e]at Q
    rcases Q6.1 Q with Q|Q
    ·exact I v Q
    ·simp at Q;subst Q;exact u
   ·rcases F.iY P.x with⟨-,y⟩|⟨y,-⟩
    ·rw[y]at E;exact E
    ·rw[y]at u;exact Zz rfl u
 ·rintro _ k ⟨z,rfl,Z⟩
  rcases Z with⟨g,hj,rfl,P,B,f,h3,h4⟩|⟨rfl,B,f⟩
  ·exact Ok.mk (.inr ⟨g,P,hj,rfl,B,f,h3,h4⟩)
  ·rw[Qz oM]at B
   exact Ok.mk (.inl ⟨rfl,B,f⟩)
def Fe(d7:gK w p M D most l){b3:Nat}(hs:ck w b3 f F)(g3:F.Cl)(k2:F.l.length<=19000000):
  YX 247 #[ZL p,ZL b3] w (Ok λd8 w'=>∃q z C k,d8= .slice q z C/\aM mU.jC 63 (λP=>aD q=some P) w' q z C k/\k.map (·.x)=(bC F l).1/\(∀P∈k,mU.In w' D P)/\(∀P,aD q=some P->w.heap.size<=P)/\
   gK w' p M D most (bC F l).2/\ak M w w'):=by
 obtain⟨W,a,n,c,L,g⟩:=d7;have g4:=g.dM p g.mp;have X:∀P,aD a=some P->P<w.heap.size:=λP b=>g.dM P (g.ma P b).1;have k3:L.length=l.length:=by rw[<-g.map,Q8]
 have h1:l.length<=256:=Xx W.2.le W.1;have hN:=hs.1.n;refine o_ (PC.ok (lI hs) ?_);rintro _ w4 ⟨va,vn,vc,Fv,rfl,g6,k4,k5⟩;have d2:=g6.len dC;rw[F.bM]at d2;subst d2;refine⟨_,_,_,rfl,PC.ok (Fh hN) ?_⟩;rintro _ A ⟨E,F2,rfl,d3,d4,k7⟩;have z4:=k4.size;have z7:=k7.size;refine⟨_,rfl,PA.mk λw9 k9 s9 g9=>PS.mk g9 sM λg7 g8 k6 h4=>?_⟩;have a1:ai A g7:=k9.new g8 λP b=>.inr (by have b:P=A.heap.size:=b;omega);have b4:=(k4.then k7).then a1;have Y:=d3.aC;refine PC.ok (rm (hs.ah b4) oM) ?_;rintro _ Z ⟨ea,en,ec,G,rfl,b9,a6,hG⟩;have k8:=b9.len dC;have l0:=a1.size;have l3:=a6.size;have e0:Row jB 96 Z G ea en F.l:=b9.row dC ba;have h6:Z.heap[A.heap.size]? =some (.cells #[ZL E] 102 (0,0)):=a6.get h4 id;have d6:=b9.aC;refine⟨_,_,_,rfl,λR a2 w'=>∃(e:Nat) (S:ZN),a2=e/\e<=en/\R=en-e/\ck w' E S ((⟨F.n,[]⟩:aw).fM (F.l.take e))/\(∀P,S P->F2 P\/Z.heap.size<=P)/\ak F2 Z w',⟨_,0,F2,rfl,Qj _,rfl,d3.ah (a1.then a6),λP b=>.inl b,ak.refl _⟩,?_⟩;rintro R _ _ a7 ⟨e,S,rfl,hj,rfl,a8,a9,T⟩;have l4:=T.size;have c1:=T.get h6 λH=>by have:=Y _ H;omega
 refine al.dec (λl5=>?_) (λl6=>?_)
 ·have K:F.l[e]? =some F.l[e]:=Qq oM
  generalize F.l[e]=N at K;have e7:=e0.af T λP b H=>by have:=Y _ H;have:=hG P b;omega
  obtain⟨P,e8,es,ha,l7,l8,c2,xa,xn,xc,rfl,h7,f0⟩:=e7.el e N K;refine⟨P,e8,ha,oM,oM,bA (es:=aE N xa xn xc) (k:=10) (aW _ _ _ _) rfl (λa2 ht=>by rw[Qx];exact c2 a2 ht) (PA.mk λl9 h8 m1 h9=>az (aW N xa xn xc) h9 rfl λi1 i3 m2 i4=>?_)⟩;have O:ai a7 i1:=h8.new i3 λP b=>.inr (by have b:P=a7.heap.size:=b;omega);have c3:=aw.mX (F.l.take e) ⟨F.n,[]⟩;rw[Qy]at c3;simp only[ZQ]at c3;refine⟨_,ae (O.get c1 id) rfl,ar (aW N xa xn xc) i4 (PC.ok (uh (a8.ah O) (h7.ah O) (λP b=>⟨by have:=d6 P b;have:=O.size;omega,λH=>?_⟩) f0 oM) ?_)⟩
  ·rcases a9 P H with j|j
   ·have:=Y _ j;have:=hG P b;omega
   ·have:=d6 P b;omega
  rintro _ i5 ⟨rfl,F3,i6,d9⟩;refine⟨_,rfl,_,oM,e+1,F3,aq oM,oM,rfl,?_,λP b=>?_,?_⟩
  ·rw[Qw,K]
   show ck i5 E F3 (aw.fM _ (F.l.take e++[N]));rw[aw.rp];exact i6
  ·rcases d9.new P b with j|j
   ·exact a9 P j
   ·have:=O.size;exact .inr oM
  ·exact(T.ah O).new d9.af λP b=>a9 P b
 rw[Qz oM,g3.Va]at a8;have b5:ai w a7:=(b4.then a6).new T λP b=>.inr (by have:=d4 P b;omega);have c4:=g.af b5 (λ_ _ g=>g) λ_ _ g=>g;have s:∀P,S P->w.heap.size<=P/\P≠A.heap.size:=λP b=>by
  rcases a9 P b with j|j
  ·have:=d4 P j;have:=Y P j;omega
  ·omega
 refine⟨p,0,rfl,_,_,_,ae c4.at' rfl,PC.ok (M_ (pr:=λd=>(F.get (aY d)).isSome) kR c4.mQ oM λP w1 hk=>?_) ?_⟩
 ·refine Na (a8.af hk λP b d=>?_) (hk.get c1 λd=>?_)
  ·have:=X P d;have:=(s P b).1;omega
  ·have:=X _ d;omega
 rintro _ m3 ⟨m0,rfl,f1,e1⟩;have b0:¬aD a=some p:=λd=>(g.ma p d).2 rfl;refine⟨_,_,_,rfl,p,0,rfl,PS.mk (e1.get c4.at' b0) sM λe2 e3 m4 e4=>⟨p,0,rfl,_,_,_,ae e4 rfl,?_⟩⟩;obtain⟨t,y⟩:∃t,t=L.filter λP=>!(F.get (aY P.x)).isSome:=⟨_,rfl⟩
 have a3:ak (λP=>aD a=some P\/P=p) a7 e2:=(e1.mono λP _ b=>.inl b).then (e3.mono λP _ b=>.inr b);have Wn:∀P,aD a=some P\/P=p->P<w.heap.size:=λP b=>b.elim (X P) λd=>d▸g4;have e5:RF w p M most a c E A.heap.size F m0 t none 0 0 [] e2:=by
  refine⟨⟨S,a8.af a3 λP b d=>by have:=Wn P d;have:=(s P b).1;omega,s,λP b=>by cases b⟩,a3.get c1 λd=>by have:=Wn _ d;omega,e4,?_,(aM.nil _).mono (λP b=>b.elim) λP b=>(by cases b),?_⟩
  ·rw[y];exact f1.af e3 λP b d=>b0 (by have d:P=p:=d;rw[<-d];exact b)
  ·exact(ai.af b5).then (a3.mono λP _ b=>b.elim (λd=>(g.ma P d).1) λd=>d▸g.mp)
 have b6:∀P∈t,P∈L:=λP b=>by rw[y]at b;exact(List.mem_filter.1 b).1
 have a4:t.map (·.x)=l.filter λd=>(F.get (aY d)).isNone:=by
  rw[y,<-g.map,List.filter_map]
  congr 1
  refine List.filter_congr λP b=>?_;show(!(F.get (aY P.x)).isSome)=(F.get (aY P.x)).isNone
  cases F.get (aY P.x)<;>rfl
 have b7:t.length<=L.length:=by rw[y];exact List.length_filter_le ..
 refine PC.ok (xE g e5 b6 oM oM) ?_;rintro i7 m5 b8;obtain⟨i0,i8⟩:∃u:Int,i7= ZH u:=by
  rcases b8 with⟨m,-⟩|⟨e,P,-,m,-⟩
  ·exact⟨_,m⟩
  ·exact⟨_,m⟩
 subst i8;refine⟨_,rfl,λR q z C u w'=>∃(r:aw) (h k:List (Bx aj)) (B U:Nat),R=h.length/\(∀P∈h,P∈L)/\(∀P∈k,P∈L)/\(h.map (·.x)).Sublist l/\h.length<=U/\r.l.length+h.length<=F.l.length+L.length/\h.length<=L.length/\k.length+h.length<=L.length/\B=h.length/\
   ej (U+1) r (h.map (·.x)) (k.map (·.x))=bC F l/\
   ((u= -1/\(∀P∈h,(r.add P.x).1≠0)/\RF w p M most a c E A.heap.size r B h q z C k w')\/
    (∃e P,e<B/\u=(e:Int)/\h[e]? =some P/\(∀v∈h.take e,(r.add v.x).1≠0)/\(r.add P.x).1=0/\RF w p M most a c E A.heap.size (r.add P.x).2 B h q z C k w')),?_,?_⟩
 ·have i9:=e5.mQ.len dC
  refine⟨_,F,t,[],m0,t.length,rfl,b6,sM,by rw[a4];exact List.filter_sublist,Q4 _,oM,b7,by simpa using b7,i9,?_,?_⟩
  ·rw[a4]
   show ej (t.length+1) F _ []=_;unfold bC;rw[<-a4];show _=ej ((t.map (·.x)).length+1) F _ [];rw[Q8]
  ·rcases b8 with⟨m,I,J⟩|⟨e,P,m,I,J⟩
   ·exact .inl ⟨by simpa using m,I,J⟩
   ·exact .inr ⟨e,P,m,by simpa using I,J⟩
 rintro R q z C u _ j0 ⟨r,h,k,B,U,rfl,a5,c0,e6,hk,m6,k0,k1,m7,c6,j1⟩;rcases j1 with⟨rfl,c5,i⟩|⟨e,P,hj,rfl,b,c5,f6,i⟩
 ·refine al.ff sM (Ok.mk ⟨q,z,C,k,rfl,i.out,?_,λP b=>(g.MZ P (c0 P b)).af i.af λP b=>(g.dD P b).2,λP b=>by obtain⟨F1,-,-,j⟩:=i.set;exact(j P b).1,⟨⟨W.1,?_⟩,a,B,c,h,i.buf,i.mQ,?_,λP b=>(g.MZ P (a5 P b)).af i.af λP b=>(g.dD P b).2,λP b=>⟨by have:=(g.dD P b).1;have:=i.af.size;omega,(g.dD P b).2⟩,g.mp,g.ma,λP b=>by have:=g.dM P b;have:=i.af.size;omega⟩,i.af⟩)
  all_goals
   have f7:bC F l=(k.map (·.x),h.map (·.x)):=by
    rw[<-c6];unfold ej;rw[sw λd he=>by obtain⟨P,b,rfl⟩:=Xk.1 he;exact c5 P b]
   rw[f7]
  exact W.2.sub e6
 ·have j2:e<h.length:=oM
  have m8:=i;obtain⟨F1,e9,f2,b1⟩:=i.set;have m9:=i.af.size;have c3:=r.zM P.x;obtain⟨gb,go,es,ha,n0,n1,c2,rfl,-⟩:=(i.mQ.row (bytes:=96) dC ba).el e P b;have d:=λu (hi:u<10)=>c2 u hi;refine al.dec (λ_=>⟨p,0,rfl,_,_,_,ae i.buf rfl,gb,go,ha,oM,oM,_,_,_,_,_,_,_,_,_,_,_,_,d 0 dC,d 1 dC,d 2 dC,d 3 dC,d 4 dC,d 5 dC,d 6 dC,d 7 dC,d 8 dC,d 9 dC,PA.mk λj3 f3 n2 j4=>?_⟩) (λhn=>oM);have n3:=i.out.len dC;refine eH (c:=mU.jC) (x:=P) (D:=λ_=>False) (i.out.ah f3) te j4 ⟨rfl,trivial⟩ (λP b=>b.elim) ba (by unfold maxLen;omega) λV b2 f4 Fo c7 j5 j6=>⟨_,_,_,rfl,p,0,rfl,?_⟩
  have f8:=c7.alone;have d0:∀P,aD V=some P->aD q=some P\/j3.heap.size<=P:=λP b=>(j6 P (c7.self P b)).imp id λg=>g.resolve_left id;have o:∀P,aD q=some P->w.heap.size<=P:=λP b=>(b1 P b).1;have Q:ak (λP=>aD q=some P) j0 f4:=(ai.af f3).then j5;have f5:=Q.get i.buf λd=>by have:=o _ d;omega
  have f9:=i.mQ.af Q λP b d=>by have:=o _ d;have:=X P b;omega
  have n4:=Q.size;refine⟨_,_,_,ae f5 rfl,PC.ok (TR f9 hj oM) ?_⟩;rintro _ n8 ⟨rfl,g5,c8⟩;have n9:=c8.size;refine⟨_,_,_,rfl,p,0,rfl,PS.mk (c8.get f5 b0) sM λg0 g1 o0 g2=>⟨p,0,rfl,_,_,_,ae g2 rfl,?_⟩⟩;have o1:(h.eraseIdx e).length=h.length-1:=List.length_eraseIdx_of_lt j2;have a0:ak (λP=>aD a=some P\/P=p) f4 g0:=(c8.mono λP _ b=>.inl b).then (g1.mono λP _ b=>.inr b);have c9:∀P,w.heap.size<=P->¬(aD a=some P\/P=p):=λP b d=>by have:=Wn P d;omega
  have j7:RF w p M most a c E A.heap.size (r.add P.x).2 (B-1) (h.eraseIdx e) V (z+1) b2 (k++[P]) g0:=by
   refine⟨⟨F1,(e9.af Q λP b d=>(b1 P d).2.1 b).af a0 λP b=>c9 P (f2 P b).1,f2,λP b=>?_⟩,a0.get (Q.get i.ptr λd=>(b1 _ d).2.2 rfl) (c9 _ oM),g2,g5.af g1 λP b d=>b0 (by have d:P=p:=d;rw[<-d];exact b),f8.af a0 λP b=>c9 P ?_,?_⟩
   ·rcases d0 P b with j|j
    ·exact b1 P j
    ·have hd:=e9.aC
     have o2:=ax i.ptr;exact⟨oM,λH=>by have:=hd P H;omega,oM⟩
   ·rcases d0 P b with j|j
    ·exact o P j
    ·omega
   ·exact(i.af.new Q λP b=>.inr (o P b)).then (a0.mono λP _ b=>b.elim (λd=>(g.ma P d).1) λd=>d▸g.mp)
  have d1:∀v∈h.eraseIdx e,v∈L:=λv x=>a5 v ((List.eraseIdx_sublist ..).subset x);refine PC.ok (xE g j7 d1 oM oM) ?_;rintro j8 o3 d5;obtain⟨i2,j9⟩:∃u:Int,j8= ZH u:=by
   rcases d5 with⟨m,-⟩|⟨e,P,-,m,-⟩
   ·exact⟨_,m⟩
   ·exact⟨_,m⟩
  subst j9;have h0:∃k',U=k'+1:=⟨U-1,oM⟩
  obtain⟨k',rfl⟩:=h0;refine⟨_,rfl,(h.eraseIdx e).length,oM,(r.add P.x).2,h.eraseIdx e,k++[P],B-1,k',rfl,d1,?_,?_,oM,oM,oM,by simp;omega,oM,?_,?_⟩
  ·intro v x
   rcases Q6.1 x with x|x
   ·exact c0 v x
   ·simp at x;subst x;exact a5 v (QZ b)
  ·exact((List.eraseIdx_sublist ..).map _).trans e6
  ·rw[<-c6]
   conv=>rhs;unfold ej
   rw[sx (i:=e) (e:=P.x) (λN K=>by rw[<-List.map_take]at K;obtain⟨v,x,rfl⟩:=Xk.1 K;exact c5 v x) (by rw[Q9,b];rfl) f6];show _=ej (k'+1) (r.add P.x).2 ((h.map (·.x)).eraseIdx e) (k.map (·.x)++[P.x]);rw[map_eraseIdx,Q3];rfl
  ·rcases d5 with⟨m,I,J⟩|⟨e,P,m,I,J⟩
   ·exact .inl ⟨by simpa using m,I,J⟩
   ·exact .inr ⟨e,P,m,by simpa using I,J⟩
end
def tP:jW:=⟨[(3,[(6,.slice none 0 0),(16,ZH 0)])],[],[5,12],[],[(5,⟨[0,1,2,4,0,16,40,64,128,128,511,2047],[4095,4094,4093,4091,4095,4079,4055,4031,3967,3967,3839,3583],[0,0,0,1,0,2,2,0,0,0,0,0]⟩),(12,⟨[0,0,2,4,8,0,32,0,208,257,1023],[2047,2047,2045,2043,2039,2047,2015,2047,1839,2046,1791],[0,0,0,0,1,0,2,0,2,0,0]⟩)]⟩
variable{A:ZT}{e:Int}{t:List Int}{x:List UInt8}{J:List aj}{a c i:Nat}{Y:ZN}{u:YQ}{m:ZR}{k:World}{y:ZU}{o:aj}{b3:eJ}
def tQ(N:PA b (.cells #[.slice u a c] 211) λv=>(rS v (ab_ b 0) λO w c3=>(∃o:Nat->YQ->Nat->Nat->Int->ZU,(∃P,o P none 0 0 0 v)/\∀(P:Nat) (e:YQ) (f:Nat) (g:Nat) (n:Int) (c4:Nat->Value) (h:World),o P e f g n h->al (decide (n<(w:Int))) ((ix_ O n w λQ R=>(rI h (ad Q (R+Int.toNat n)) λi=>(∀j,br h j->∃p:ZN,(dr d λx S=>(¬p x/\(rP j (ad x S) λT=>PC_ 146 #[.ii i] j (λU q=>∃y,U= .string y/\(ak p j q/\PC_ 162 #[.pointer T,.string y] q (λV k=>∃W z X B,V= .tuple #[.slice W z X,.ii B]/\(ak p q k/\al (B !=0) (rt A ((.tuple #[.slice e f g,.ii 0])) k) ((dr d λY Z=>(rP k (ad Y Z) λa1=>PC_ 168 #[.pointer a1,.ii i] k (λa2 a3=>∃D C E l,a2= .tuple #[.slice D C E,.ii l]/\PR_ (ap_ 59 (.slice e f g) (.slice D C E)) a3 (kS_ λG F H r=>(dr d λa4 a5=>(rS r (ad a4 (a5+2)) λa6 a7 a8=>PA r (.cells #[.ii i] 3) λa9=>PR_ (ap_ 42 (.slice a6 a7 a8) (.slice (some (ab_ r 0)) 1 1)) a9 (kS_ λb0 b1 b2 b3=>(dr d λb4 b5=>PS b3 (ad b4 (b5+2)) (.slice b0 b1 b2) λb6=>(dr d λb7 b8=>PS b6 (ad b7 (b8+3)) (.ii l) λI=>al (decide (l<(z:Int))) ((∀m,br I m->∃s:ZN,(dr d λJ b9=>(¬s J/\(rP m (ad J b9) λc0=>PC_ 146 #[.ii i] m (λc1 t=>∃K,c1= .string K/\(ak s m t/\PC_ 169 #[.pointer c0,.string K,.ii l] t (kI_ λc2 L=>(ak s t L/\rt A ((.tuple #[.slice G F H,.ii c2])) L)) (pZ A))) (pZ A)))))) ((∃M,M<P/\o M G F H (ZG .i64 (n+1)) I))))) (pV A)))) (pV A)) (pE A)))))) (pZ A))) (pZ A)))))))) (rt A ((.tuple #[.slice e f g,.ii 0])) h)))):YX 110 #[.pointer d,.agg #[.slice u a c]] b A:=DC tP Tryz.func110 rfl N
def qT(n:eJ)(D:an):Int×eJ×an:=
 let b:=cB (aB n.next)
 let P:=D.sync b
 if P.1≠0 then(P.1,n,(P.2.delete b).2)else
 let a:=cf P.2 (n.bQ++[n.next])
 if a.1≠0 then(a.1,n,(a.2.delete b).2)else
 (0,⟨n.size,n.bQ++[n.next],0,ZG .i64 (n.next+1)⟩,a.2)
def mK(P:eJ)(D:an):Int×eJ×an:=
 let n:=D.create (cB (aB P.next))
 if n.1≠0 then(n.1,P,n.2)else qT P n.2
def a_(n:eJ)(D:an):Int×eJ×an:=
 if n.bQ=[]then mK n D else
 let P:=D.sync n.last
 if P.1≠0 then(P.1,n,P.2)else mK n P.2
def Ev(b c:World)(d e:Nat)(P:ZN)(n:Int×eJ×an)(f:Value)(a:World):Prop:=f= ZH n.1/\cd b a d e n.2.1 n.2.2 P/\ak (dy P) c a
def QH(n:Int):aJ (ZG .i64 n):=by
 unfold aJ ZG;simp[IntKind.signed,IntKind.bits];omega
def GF{D:an}{P:List Int}(n:(cf D P).1=0):P.length<=64:=by
 unfold cf at n;split at n
 ·cases n
 ·omega
def Ew{D:an}(hL:Laid b)(h:cd b k a c b3 D f):
  YX 111 #[ZL c] k (Ok (Ev b k a c f (a_ b3 D))):=by
 have b2:=h.aC;obtain⟨p4,j5,e7⟩:=h.Xe;have p5:=h.gr.size;have e9:=h.Bj;have j6:=h.many;refine tu (PA.mk λB k1 s1 g1=>PA.mk λw2 k2 s2 g2=>?_);have d8:ai k w2:=k1.then k2
 let b6:ZN:=λn=>f n\/(n=k.heap.size\/n=B.heap.size)
 have hY:cd b w2 a c b3 D b6:=h.add d8 λn P=>by omega
 have b7:=k2.get g1 id;refine⟨λd=>∃C,cd b d a c b3 C b6/\ak (dy f) k d/\w2.heap.size<=d.heap.size/\d.heap[k.heap.size]? =some (.cells #[ZL c] 101 (0,0))/\d.heap[B.heap.size]? =some (.cells #[ZH 0] 34 (0,0))/\a_ b3 D=mK b3 C,?_,?_⟩
 ·obtain⟨G,hD,hl,hG⟩:=id hY
  obtain⟨t,E,I,l,S,hr,hE,u⟩:=hl.row;refine⟨_,ae b7 rfl,c,0,rfl,_,_,_,ae S rfl,al.dec (λo7=>?_) (λy=>?_)⟩
  ·have v:b3.bQ≠[]:=λg=>by rw[g]at u;simp at u;omega
   refine⟨_,ae b7 rfl,PC.ok (IL hL hY v) ?_⟩;rintro _ w3 ⟨rfl,Y,k3⟩;have kX:ak (dy f) k w3:=(ai.af d8).then (k3.mono λn _ P i=>P (.inl i));have b8:=k3.get b7 λu=>u (.inr (.inl rfl));have b9:=k3.get g2 λu=>u (.inr (.inr rfl));have hB:a_ b3 D=if(D.sync b3.last).1≠0 then((D.sync b3.last).1,b3,(D.sync b3.last).2)else mK b3 (D.sync b3.last).2:=by unfold a_;rw[Zq v]
   refine⟨_,rfl,al.dQ (λf5=>?_) (λF=>⟨_,Y,kX,k3.size,b8,b9,by rw[hB,Zq (by simpa using F)]⟩)⟩;refine PS.mk b9 sM λJ L s4 g4=>⟨_,ae g4 rfl,Ok.mk ?_⟩
   rw[hB,Zx f5];exact⟨rfl,(Y.other L λn P=>⟨P▸.inr (.inr rfl),oM⟩).mono λn P=>.inl P,kX.then (L.mono λn _ P i=>by have:=b2 n i;omega)⟩
  ·have he:b3.bQ=[]:=QW oM
   exact⟨D,hY,ai.af d8,Q4 _,b7,g2,by unfold a_;rw[Zx he]⟩
 rintro _ w3 ⟨C,Y,a1,o8,b8,b9,hB⟩;rw[hB];obtain⟨G3,p6,j7,p7⟩:=id Y;obtain⟨f7,n3,f9,E3,j8,-,-,-⟩:=j7.row;refine⟨_,ae b8 rfl,c,0,rfl,_,ae j8 rfl,PC.ok (jt (hL.ah Y.gr) e9) ?_⟩;rintro _ J ⟨rfl,L⟩;refine⟨_,rfl,PA.mk λw5 k5 s5 g5=>PS.mk g5 sM λw6 k6 s6 g6=>?_⟩
 let p:ZN:=λn=>b6 n\/n=J.heap.size
 have f8:=Y.ah L;have p8:=f8.gr.size;have p9:=L.size;have j9:cd b w6 a c b3 C p:=(f8.add (Y:=(·=J.heap.size)) k5 λn P=>oM).other k6 λn P=>⟨.inr P,oM⟩
 have k0:ak (dy f) k w6:=((a1.ah L).ah k5).then (k6.mono λn _ P i=>by have:=b2 n i;have:=a1.size;omega);have e0:∀{n},f n->p n:=λi=>.inl (.inl i);intro M e4;have k7:ai w6 M:=e4.af;have g0:=j9.ah k7;have gn:w6.heap[J.heap.size]? =some (.cells #[.string (cB (aB b3.next))] 9 (0,0)):=g6;have l0:=k6.get (k5.get (L.get b8 id) id) oM;have g3:=k6.get (k5.get (L.get b9 id) id) oM
 let q:World->Int->Prop:=λd g=>d.heap[k.heap.size]? =some (.cells #[ZL c] 101 (0,0))/\d.heap[B.heap.size]? =some (.cells #[ZH g] 34 (0,0))/\d.heap[J.heap.size]? =some (.cells #[.string (cB (aB b3.next))] 9 (0,0))
 have C6:q w6 0:=⟨l0,g3,gn⟩
 have e:∀{d w:World} {g:Int} {d0:ZN},q d g->ak d0 d w->(∀n,d0 n->¬(n=k.heap.size\/n=B.heap.size\/n=J.heap.size))->q w g:=λN o hS=>
  ⟨o.get N.1 λO=>hS _ O (.inl rfl),o.get N.2.1 λO=>hS _ O (.inr (.inl rfl)),o.get N.2.2 λO=>hS _ O (.inr (.inr rfl))⟩
 have j:∀{d w:World} {g:Int},q d g->ak (dy p) d w->q w g:=λN o=>e N o λn P hc=>P (by
  rcases hc with rfl|rfl|rfl
  ·exact .inl (.inr (.inl rfl))
  ·exact .inl (.inr (.inr rfl))
  ·exact .inr rfl)
 have c1:∀{d w:World},ak (dy f) k d->ak (dy p) d w->ak (dy f) k w:=λt n=>t.then (n.mono λn _ P i=>P (e0 i));have C7:q M 0:=e C6 k7 λn P=>P.elim;obtain⟨G7,q0,l3,q1⟩:=id g0;obtain⟨h0,n7,k4,E7,l4,-,-,-⟩:=l3.row;refine⟨_,ae C7.1 rfl,c,0,rfl,_,ae l4 rfl,_,ae C7.2.2 rfl,PC.ok (g0.on (λp hZ T=>T.create)) ?_⟩;rintro _ w8 ⟨rfl,c2,k8⟩;have C8:=j C7 k8;have g7:=c1 (k0.ah k7) k8;have l5:mK b3 C=if(C.create (cB (aB b3.next))).1≠0 then((C.create (cB (aB b3.next))).1,b3,(C.create (cB (aB b3.next))).2)else qT b3 (C.create (cB (aB b3.next))).2:=rfl
 rw[l5];generalize q2:C.create (cB (aB b3.next))=cr at c2⊢;obtain⟨l1,K⟩:=cr;simp only at c2⊢;have q3:B.heap.size<w2.heap.size:=oM
 have g8:∀{d:World} {z:Int×eJ×an} {g:Int} {w:World},cd b d a c z.2.1 z.2.2 p->ak (dy f) k d->ak (·=B.heap.size) d w->g=z.1->Ev b k a c f z (ZH g) w:=by
  intro d z g w u o O he;exact⟨by rw[he],(u.other O λn P=>⟨P▸.inl (.inr (.inr rfl)),oM⟩).mono λn P=>e0 P,o.then (O.mono λn _ P i=>by have:=b2 n i;omega)⟩
 refine⟨_,rfl,al.dQ (λv=>?_) (λF=>?_)⟩
 ·refine PS.mk C8.2.1 sM λw9 k9 s9 g9=>⟨_,ae g9 rfl,Ok.mk ?_⟩
  rw[Zx v];exact g8 c2 g7 k9 rfl
 rw[Zq (by simpa using F)];have A:∀{z:Int×eJ×an} (g:Int) (l:an) (d:World),cd b d a c b3 l p->ak (dy f) k d->q d g->g≠0->z=(g,b3,(l.delete (cB (aB b3.next))).2)->
   Lv ZP (λh2=>∃h3:Int,h2.cell? ⟨B.heap.size,0,none⟩=some (ZH h3)/\Ok (Ev b k a c f z) (.returned (ZH h3)) h2) (λch d=>Ok (Ev b k a c f z) (.panicked ch) d)
    ([{target:=.fn (.func 171) #[ZL B.heap.size,ZL k.heap.size,ZL J.heap.size],args:= #[]}]:List Deferred) .returning d:=by
  intro z g l d u o N v hr;refine Lv.one sM kR (CallsD.mono (iP (R:=λe' M=>e'= .returned (.tuple #[])/\∃h4:Int,M.cell? ⟨B.heap.size,0,none⟩=some (ZH h4)/\Ok (Ev b k a c f z) (.returned (ZH h4)) M) ⟨_,ae N.2.1 rfl,al.dQ (λ_=>?_) (λF=>Zz F v)⟩) ?_)
  ·intro wa da
   have ka:ai d wa:=da.af;have h5:=u.ah ka;have e1:q wa g:=e N ka λn P=>P.elim;obtain⟨Ga,q4,l6,q5⟩:=id h5;obtain⟨aa,na,ca,Ea,c0,-,-,-⟩:=l6.row;refine⟨_,ae e1.1 rfl,c,0,rfl,_,ae c0 rfl,_,ae e1.2.2 rfl,PC.ok (h5.on (λp hZ T=>T.delete)) ?_⟩;rintro _ U ⟨rfl,l7,kb⟩;have l8:=j e1 kb;refine⟨_,rfl,rfl,_,ae l8.2.1 rfl,Ok.mk ?_⟩;rw[hr];exact⟨rfl,l7.mono λn P=>e0 P,c1 (o.ah ka) kb⟩
  ·rintro e' u' M ⟨rfl,rfl,hX⟩
   exact Lv.ret rfl hX
 intro w9 e5;have k9:ai w8 w9:=e5.af;have h6:=c2.ah k9;have C9:q w9 0:=e C8 k9 λn P=>P.elim;obtain⟨G9,q6,l9,q7⟩:=id h6;obtain⟨l2,n9,n5,E9,m0,-,-,-⟩:=l9.row;refine⟨_,ae C9.1 rfl,c,0,rfl,_,ae m0 rfl,_,ae C9.2.2 rfl,PC.ok (h6.on (λp hZ T=>T.sync)) ?_⟩;rintro _ Z ⟨rfl,V,h7⟩;have b0:=j C9 h7;have d1:=c1 (g7.ah k9) h7;have m1:qT b3 K=if(K.sync (cB (aB b3.next))).1≠0 then((K.sync (cB (aB b3.next))).1,b3,((K.sync (cB (aB b3.next))).2.delete (cB (aB b3.next))).2)else
   if(cf (K.sync (cB (aB b3.next))).2 (b3.bQ++[b3.next])).1≠0 then((cf (K.sync (cB (aB b3.next))).2 (b3.bQ++[b3.next])).1,b3,((cf (K.sync (cB (aB b3.next))).2 (b3.bQ++[b3.next])).2.delete (cB (aB b3.next))).2)else
   (0,⟨b3.size,b3.bQ++[b3.next],0,ZG .i64 (b3.next+1)⟩,(cf (K.sync (cB (aB b3.next))).2 (b3.bQ++[b3.next])).2):=rfl
 rw[m1];generalize q8:K.sync (cB (aB b3.next))=sy at V⊢;obtain⟨q9,c4⟩:=sy;dsimp only at V;refine⟨_,rfl,al.dQ (λv=>?_) (λF=>?_)⟩
 ·refine PS.mk b0.2.1 sM λr s r0 m2=>?_
  rw[Zx v];exact A _ c4 r (V.other s λn P=>⟨P▸.inl (.inr (.inr rfl)),oM⟩) (d1.then (s.mono λn _ P i=>by have:=b2 n i;omega)) ⟨s.get b0.1 oM,m2,s.get b0.2.2 (by have:=a1.size;omega)⟩ v rfl
 rw[Zq (by simpa using F)];have o9:J.heap.size<Z.heap.size:=ax b0.2.2;refine⟨λt E I d=>∃l,aM aI 3 l d t E I (b3.bQ++[b3.next])/\(∀n,l n->Z.heap.size<=n)/\ai Z d,?_,?_⟩
 ·intro r m3
  have s:ai Z r:=m3.af;have a5:=V.ah s;have b1:q r 0:=e b0 s λn P=>P.elim;obtain⟨m4,h8,W,h9⟩:=id a5;obtain⟨m5,m6,m7,m8,a6,d2,d3,p0⟩:=W.row;have p1:=W.aC c W.self;have a2:∀{wa U wc:World} {S:Nat} {t E I:_} {a3:ZN},aM aI 3 a3 U t E I b3.bQ->(∀n,a3 n->r.heap.size<=n/\n≠S)->U.heap[S]? =some (.cells #[ZH b3.next] 3 (0,0))->ai r U->
    ∀κ ε,(∀X n' c' d,(∃l,aM aI 3 l d X n' c' (b3.bQ++[b3.next])/\(∀n,l n->Z.heap.size<=n)/\ai Z d)->ak (λn=>r.heap.size<=n) U d->κ (.slice X n' c') d)->
    aG ZP (Builtin.append_ #[42,42] 42 #[.slice t E I,.slice (ZM S) 1 1]) U κ ε:=by
   intro wa U wc S t E I a3 Q hF hg o κ ε c3;refine kK Q uk (D:=(·=S)) (Row.lit hg [b3.next] rfl (λd4 i=>by simp at i;subst i;exact e9) (by unfold aK;simp)) (λn g=>⟨g▸ax hg,λe8=>(hF n (Q.self n e8)).2 g⟩) (by unfold aK;simp;omega) (by unfold maxLen;simp;omega) λX c' d F' c7 a4 _ c9=>?_;refine c3 X _ c' d ⟨λn=>aD X=some n,c7.alone,λn P=>?_,?_⟩ (a4.mono λn _ P=>(hF n (Q.self n P)).1)
   ·have:=s.size;have:=o.size
    rcases c9 n P with h|h
    ·have:=(hF n h).1;omega
    ·omega
   ·exact(s.then o).new a4 λn P=>.inr (by have:=(hF n (Q.self n P)).1;have:=s.size;omega)
  have r3:k.heap.size<r.heap.size:=ax b1.1;refine⟨λn=>r.heap.size<=n,oM,_,ae b1.1 rfl,c,0,rfl,oM,_,_,_,ae a6 rfl,oM,_,ae b1.1 rfl,c,0,rfl,oM,_,ae a6 rfl,?_,?_⟩
  ·refine PC.ok (bH d2 λn P=>W.aC n (d3 n P).1) ?_
   rintro _ b4 ⟨r4,r5,r6,r7,rfl,a7,H,i0⟩;refine⟨_,_,_,rfl,H.af,PA.mk λx m m9 e3=>⟨m.af,a2 (wa:=x) (wc:=x) (a7.ah m) (λn P=>⟨i0 n P,by have:=a7.aC n P;omega⟩) e3 (H.then m) _ _ λX n' c' d hJ o=>⟨_,_,_,rfl,o,trivial,hJ⟩⟩⟩
  ·refine PA.mk λb4 H r8 n0=>⟨H.af,PC.ok (bH (d2.ah H) λn P=>by have:=W.aC n (d3 n P).1;have:=H.size;omega) ?_⟩
   rintro _ x ⟨n1,n2,n4,r9,rfl,a8,m,d5⟩;exact⟨_,_,_,rfl,m.af,a2 (wa:=x) (wc:=x) a8 (λn P=>⟨by have:=d5 n P;omega,by have:=d5 n P;omega⟩) (m.get n0 id) (H.then m) _ _ λX n' c' d hJ o=>⟨_,_,_,rfl,o,trivial,hJ⟩⟩
 rintro t E I _ r ⟨l,Q,hE,s⟩;have p2:(b3.bQ++[b3.next]).length<=65:=by simp;omega
 have a5:cd b r a c b3 c4 (λn=>p n\/l n):=V.add s λn P=>⟨hE n P,Q.aC n P⟩
 have b1:q r 0:=e b0 s λn P=>P.elim;have d6:Row aI 8 r l t E (b3.bQ++[b3.next]):=Q.row dC ba;have f0:∀d4∈b3.bQ++[b3.next],aJ d4:=MB d6;obtain⟨m4,h8,W,h9⟩:=id a5;obtain⟨m5,m6,m7,m8,a6,-,-,-⟩:=W.row;refine⟨_,ae b1.1 rfl,c,0,rfl,_,ae a6 rfl,PC.ok (a5.on λZ' n8 T=>T.cf hL.nU d6 f0 λn P=>.inr (n8 n (.inr P))) ?_⟩;rintro _ b4 ⟨rfl,a9,H⟩;have R:ak (dy p) r b4:=H.mono λn _ P y=>P (.inl y);have c5:=j b1 R;have d7:=c1 (d1.ah s) R;have a7:=Q.af H λn P u=>u (.inr P);have b5:= @GF c4 (b3.bQ++[b3.next]);have i1:True:=trivial;generalize s3:cf c4 (b3.bQ++[b3.next])=mw at a9 b5 i1⊢;obtain⟨s7,c6⟩:=mw;dsimp only at a9 b5 i1⊢;refine⟨_,rfl,al.dQ (λv=>?_) (λF=>?_)⟩
 ·refine PS.mk c5.2.1 sM λx m m9 e3=>?_
  rw[Zx v];have f1:cd b b4 a c b3 c6 p:=a9.mono λn P=>.inl P;exact A _ c6 x (f1.other m λn P=>⟨P▸.inl (.inr (.inr rfl)),oM⟩) (d7.then (m.mono λn _ P i=>by have:=b2 n i;omega)) ⟨m.get c5.1 oM,e3,m.get c5.2.2 (by have:=a1.size;omega)⟩ v rfl
 rw[Zq (by simpa using F)];have b5:=b5 F;intro x o0;have m:ai b4 x:=o0.af;have i2:=a9.ah m;have e6:q x 0:=e c5 m λn P=>P.elim;have a8:=a7.ah m;obtain⟨s8,i3,d9,p3⟩:=id i2;obtain⟨n1,n2,n4,t0,i4,-,-,-⟩:=d9.row;have i5:∀n,l n->n≠c:=λn P g=>by have:=hE n P;omega
 have o1:c≠k.heap.size/\c≠B.heap.size/\c≠J.heap.size:=by have:=a1.size;omega
 refine⟨(·=c),_,ae e6.1 rfl,λg=>o1.1 g.symm,_,ae e6.1 rfl,c,0,rfl,PS.mk i4 sM λt1 i6 t2 o2=>⟨i6,c,0,rfl,PS.mk o2 sM λo3 i7 t3 i8=>⟨i7,?_⟩⟩⟩;have e2:=i6.then i7;have i9:q o3 0:=e e6 e2 λn P hc=>by subst P;omega
 refine⟨_,ae i9.1 rfl,c,0,rfl,_,ae i8 rfl,c,0,rfl,PS.mk i8 sM λc8 j0 t4 j1=>?_⟩;have o4:q c8 0:=e i9 j0 λn P hc=>by subst P;omega
 have a0:ak (·=c) x c8:=e2.then j0;refine PS.mk o4.2.1 sM λo5 o6 t5 j2=>Lv.one sM kR (CallsD.mono (iP (R:=λe' M=>e'= .returned (.tuple #[])/\M=o5) ⟨_,ae j2 rfl,al.dQ (λhc=>Zz rfl hc) (λ_=>⟨rfl,rfl⟩)⟩) ?_);rintro e' u' _ ⟨rfl,rfl,rfl⟩;refine Lv.ret rfl ⟨_,ae j2 rfl,Ok.mk ?_⟩;have j3:c8.heap[c]? =some (.cells #[ZL a,ZH b3.size,.slice t E I,ZH 0,ZH (ZG .i64 (b3.next+1))] 209 (0,0)):=j1;have j4:cd b c8 a c ⟨b3.size,b3.bQ++[b3.next],0,ZG .i64 (b3.next+1)⟩ c6 p:=by
  refine⟨λn=>n=c\/l n,?_,⟨⟨t,E,I,l,j3,a8.af a0 λn P g=>i5 n P g,λn P=>⟨.inr P,i5 n P⟩⟩,.inl rfl,?_,b5,?_⟩,?_⟩
  ·have h1:aT b x a c6 (λn=>p n\/(n=c\/l n)):=i3.mono λn P=>by
    rcases P with P|P|P
    ·exact .inl (.inl P)
    ·exact .inr (P▸d9.self)
    ·exact .inl (.inr P)
   obtain⟨a3,f2,f4,f3,f6⟩:=h1;exact⟨a3,f2.af a0 λn P g=>(f3 n P).2 (.inr (.inl g)),f4.new a0 λn P=>.inr oM,f3,λn P=>Qk (f6 n P) a0.size⟩
  ·rintro n (rfl|P)
   ·exact ax j1
   ·exact Qk (a8.aC n P) a0.size
  ·show aJ (ZG .i64 (b3.next+1))
   exact QH _
  ·rintro n (rfl|P)
   ·exact⟨j5,λy=>by
     rcases y with(y|y|y)|y
     ·exact e7 y
     ·omega
     ·omega
     ·omega⟩
   ·have:=hE n P
    exact⟨by have:=V.gr.size;omega,λy=>by have:=V.aC n y;omega⟩
 exact g8 j4 ((d7.ah m).then (a0.mono λn _ P i=>e7 (P▸i))) o6 rfl
def gO(no:Int):ByteArray:=cB (aB no)
structure qx where
 no:Int
 out:List aj
 V:eJ
 D:an
def jO:List Int->List aj->eJ->an->qx
 |[],n,P,D=>⟨0,n,P,D⟩
 |no::a,n,P,D=>
  if(D.read (gO no)).2≠0 then⟨0,n,P,D⟩else
  if(bV (D.read (gO no)).1).2<(D.read (gO no)).1.length then
   ⟨(D.Io (gO no) (bV (D.read (gO no)).1).2).1,n++(bV (D.read (gO no)).1).1,⟨P.size,P.bQ++[no],(bV (D.read (gO no)).1).2,P.next⟩,(D.Io (gO no) (bV (D.read (gO no)).1).2).2⟩
  else jO a (n++(bV (D.read (gO no)).1).1) ⟨P.size,P.bQ++[no],(bV (D.read (gO no)).1).2,P.next⟩ D
section
variable {w0 w w1 w':World} {p q:Nat} {D D':an} {V V':eJ} {X Y Z G S:ZN}
def aT.dU(b:aT w0 w p D X)(c:ak Y w w')(d:∀n,Y n->X n/\w0.heap.size<=n)(e:∀n,Z n->(X n\/w.heap.size<=n)/\n<w'.heap.size):aT w0 w' p D Z:=by
 obtain⟨g,f,h,a,k⟩:=b;exact⟨g,f.af c λn P i=>(a n P).2 (d n i).1,h.new c λn P=>.inr (d n P).2,λn P=>⟨(a n P).1,λj=>(e n j).1.elim (a n P).2 λb=>by have:=f.aC n P;omega⟩,λn P=>(e n P).2⟩
def cd.dU(f:cd w0 w p q V D X)(a:ak Y w w')(b:∀n,Y n->X n/\w0.heap.size<=n)(c:∀n,Z n->(X n\/w.heap.size<=n)/\n<w'.heap.size):cd w0 w' p q V D Z:=by
 obtain⟨G,g,d,e⟩:=f;refine⟨G,g.dU a (λn P=>⟨.inl (b n P).1,(b n P).2⟩) λn P=>?_,d.af a λn P h=>(e n P).2 (b n h).1,λn P=>⟨(e n P).1,λi=>(c n i).1.elim (e n P).2 λf=>by have:=d.aC n P;omega⟩⟩;rcases P with P|P
 ·exact⟨(c n P).1.imp .inl id,(c n P).2⟩
 ·exact⟨.inl (.inr P),Qk (d.aC n P) a.size⟩
def QI{no B:Int}(h:cd w0 w p q V D X)(O:aJ no)(Q:V.bQ.length+1<=64)(s:∀w',cd w0 w' p q ⟨V.size,V.bQ++[no],B,V.next⟩ D X->ak (dy X) w w'->y w'):
  ∃C E,(ZM q:YQ)=some ⟨C,E,none⟩/\∃(g:YQ) (t u:Nat),w.cell? ⟨C,E+2,none⟩=some (.slice g t u)/\
   PA w (.cells #[ZH no] 3) λR=>aG ZP (Builtin.append_ #[42,42] 42 #[.slice g t u,.slice (ZM w.heap.size) 1 1]) R (λS T=>
    ∃(c:YQ) (F i:Nat),S= .slice c F i/\∃H I,(ZM q:YQ)=some ⟨H,I,none⟩/\PS T ⟨H,I+2,none⟩ (.slice c F i) λU=>
     ∃J K,(ZM q:YQ)=some ⟨J,K,none⟩/\PS U ⟨J,K+3,none⟩ (ZH B) y) m:=by
 obtain⟨G,W,b,d⟩:=id h;obtain⟨g,t,u,a0,L,e,f⟩:=b.body;have a8:=b.aC q b.self;refine⟨q,0,rfl,_,_,_,ae L rfl,PA.mk λw1 j s1 Y=>?_⟩;refine kK (e.ah j) uk (D:=(·=w.heap.size)) (Row.lit Y [no] rfl (λa1 k=>by simp at k;subst k;exact O) (by unfold aK;simp)) (λn a=>⟨oM,λZ=>by have:=e.aC n (e.self n Z);omega⟩) (by unfold aK;simp;omega) (by unfold maxLen;simp;omega) λc i w2 F' l o _ v=>?_
 replace l:=l.alone
 have a6:¬aD g=some q:=λa=>(f q (e.self q a)).2 rfl;have g2:=o.get (j.get L id) a6;have z2:=o.size;have x:¬aD c=some q:=λa=>by
  rcases v q a with h|h
  ·exact(f q h).2 rfl
  ·omega
 refine⟨_,_,_,rfl,q,0,rfl,PS.mk g2 sM λw3 z s3 g3=>⟨q,0,rfl,PS.mk g3 sM λr A s4 g4=>s r ?_ ?_⟩⟩
 ·have a7:ak (λn=>aD g=some n\/n=q) w1 r:=((o.mono λn _ P=>.inl P).then (z.mono λn _ P=>.inr P)).then (A.mono λn _ P=>.inr P)
  have kG:ak G w r:=(ai.af j).then (a7.mono λn _ P=>P.elim (λh=>(f n (e.self n h)).1) λh=>h▸b.self);have M:∀n,aD c=some n->n<r.heap.size:=λn P=>by have:=l.aC n P;omega
  refine⟨λn=>n=q\/aD c=some n,W.dU kG (λn P=>⟨.inr P,(d n P).1⟩) λn P=>?_,⟨⟨c,_,i,(λn=>aD c=some n),g4,?_,λn P=>⟨.inr P,λa=>x (a▸P)⟩⟩,.inl rfl,?_,by simpa using Q,b.Bj⟩,?_⟩
  ·rcases P with P|rfl|P
   ·exact⟨.inl (.inl P),by have:=h.aC n P;omega⟩
   ·exact⟨.inl (.inr b.self),oM⟩
   ·refine⟨?_,M n P⟩
    rcases v n P with h|h
    ·exact .inl (.inr (f n h).1)
    ·exact .inr oM
  ·exact(l.af z λn P a=>x (a▸P)).af A λn P a=>x (a▸P)
  ·rintro n (rfl|P)
   ·omega
   ·exact M n P
  ·rintro n (rfl|P)
   ·exact d _ b.self
   ·rcases v n P with N|N
    ·exact d n (f n N).1
    ·exact⟨by have:=h.gr.size;omega,λk=>by have:=h.aC n k;omega⟩
 ·refine(((ai.af j).then (o.mono λn _ P=>?_)).then (z.mono λn _ P=>?_)).then (A.mono λn _ P=>?_)
  ·exact(d n (f n (e.self n P)).1).2
  ·exact(d n (P▸b.self)).2
  ·exact(d n (P▸b.self)).2
def Uw{j n:Nat}(P:j<=64)(a:n<=j*262144):n<=16777216:=oM
def SF(w0 w:World)(p q:Nat)(X:ZN)(n:qx)(d:Value)(w':World):Prop:=
 ∃a b c G,d= .tuple #[.slice a b c,ZH n.no]/\aM vi 63 G w' a b c n.out/\cd w0 w' p q n.V n.D (λP=>X P\/G P)/\ak (dy X) w w'/\(∀P,G P->w.heap.size<=P)/\n.out.length<=16777216
def QL(C:Laid w0)(h:cd w0 w p q V D X)(Q:Row aI 8 w f d a t)(c4:∀n,f n->X n)(f4:V.bQ.length+t.length<=64):
  YX 110 #[ZL q,.agg #[.slice d a c]] w (Ok (SF w0 w p q X (jO t [] V D))):=by
 have k:=Q.len;have R:=h.aC;have g0:=h.gr.size;refine tQ (PA.mk λw1 S s1 g1=>⟨_,_,_,ae g1 rfl,λT U W Y Z w'=>∃(e:Nat) (g:eJ) (b:List aj) (G:ZN),Z=e/\e<=t.length/\T=t.length-e/\jO t [] V D=jO (t.drop e) b g D/\g.bQ.length=V.bQ.length+e/\b.length<=e*262144/\
  aM vi 63 G w' U W Y b/\cd w0 w' p q g D (λn=>X n\/G n)/\ak (dy X) w w'/\∀n,G n->w.heap.size<=n,
  ⟨_,0,V,[],λ_=>False,rfl,Qj _,rfl,rfl,rfl,Qj _,aM.nil w1,(h.ah S).mono λn P=>P.elim id λh=>h.elim,ai.af S,λ_ h=>h.elim⟩,?_⟩)
 rintro T U W Y Z _ w2 ⟨e,g,b,G,rfl,hj,rfl,a4,g2,a0,l,hN,r,u⟩;rw[a4];refine al.dec (λg3=>?_) (λg4=>?_)
 rotate_left
 ·obtain rfl:e=t.length:=oM
  rw[List.drop_of_length_le (Q4 _)];exact Ok.mk ⟨_,_,_,G,rfl,l,hN,r,u,Uw oM a0⟩
 obtain⟨n,E,no,rfl,m,i,F⟩:=(Q.af r λn P k=>k (c4 n P)).mP (i:=e) oM;have a2:t.drop e=no::t.drop (e+1):=by
  obtain⟨c8,rfl⟩:=Qv.1 m;exact X4 c8
 rw[a2]at a4⊢;refine⟨n,E,rfl,oM,oM,no,F,λw3 d3=>?_⟩;have k3:ai w2 w3:=d3.af;have H:=hN.ah k3;obtain⟨G3,d0,d1,g5⟩:=id H;obtain⟨a3,n3,c3,E3,d2,-,-,-⟩:=d1.row;refine⟨λ_=>False,q,0,rfl,id,_,ae d2 rfl,PC.ok (jt (C.ah H.gr) i) ?_⟩;rintro _ w4 ⟨rfl,z⟩;have d4:=H.ah z;refine⟨_,rfl,z,PC.ok ((d0.ah z).read (k:=gO no)) ?_⟩;rintro _ w5 ⟨a5,n5,c5,F5,rfl,d5,g6,-,I⟩;have v:=d4.ah I;have x:ai w2 w5:=(k3.then z).then I;have g7:=d5.len dC;have g8:=IB v.ok (gO no);refine⟨_,_,_,_,rfl,I,al.dQ (λd6=>?_) (λhe=>?_)⟩
 ·rw[show jO (no::t.drop (e+1)) b g D=⟨0,b,g,D⟩ by unfold jO;rw[Zx d6]]
  exact Ok.mk ⟨_,_,_,G,rfl,l.ah x,v,r.ah x,u,Uw oM a0⟩
 obtain⟨G5,d7,d8,g9⟩:=id v;obtain⟨h0,h2,h3,E5,e0,-,-,-⟩:=d8.row;obtain⟨a7,e1,-,-,-⟩:=id d7;refine⟨q,0,rfl,_,ae e0 rfl,PC.ok (QM (C.ah v.gr) e1 i) ?_⟩;rintro _ w6 ⟨a6,n6,c6,F6,rfl,s,J,K,a8⟩;have e2:cd w0 w6 p q g D (λn=>(X n\/G n)\/F6 n):=v.add J λn P=>⟨K n P,s.aC n P⟩
 have b0:=x.then J;have e3:=l.aC;generalize e4:bV (D.read (cB (aB no))).1=sl at s a8;obtain⟨j,o⟩:=sl;dsimp only at s a8;have a1:bV (D.read (gO no)).1=(j,o):=e4;have b1:Row vi 96 w6 F6 a6 n6 j:=s.row dC ba;refine⟨_,_,_,_,rfl,zO (l.ah b0) JM b1 (λL=>s.Ns L) (λn P=>⟨s.aC n P,λF=>by have:=e3 n (l.self n F);have:=K n P;have:=x.size;omega⟩) ba (by unfold maxLen;omega) λa9 c7 w7 A b2 M b3 _=>?_⟩;have h4:=x.size;have z6:=J.size;have b4:=b2.aC;have e5:cd w0 w7 p q g D (λn=>X n\/A n):=e2.dU M (λn P=>⟨.inl (.inr (l.self n P)),by have:=u n (l.self n P);omega⟩) λn P=>by
  rcases P with P|P
  ·exact⟨.inl (.inl (.inl P)),by have:=R n P;have:=r.size;have:=M.size;omega⟩
  ·refine⟨?_,b4 n P⟩
   rcases b3 n P with h|h|h
   ·exact .inl (.inl (.inr h))
   ·exact .inl (.inr h)
   ·exact .inr h
 have e6:ak (dy X) w w7:=(r.ah b0).then (M.mono λn _ P m=>by have:=u n (l.self n P);have:=R n m;omega);have b5:∀n,A n->w.heap.size<=n:=λn P=>by
  have:=r.size;rcases b3 n P with h|h|h
  ·exact u n h
  ·have:=K n h;omega
  ·omega
 refine⟨_,_,_,rfl,QI e5 i oM λw8 b6 k8=>?_⟩;have b7:ak (dy X) w w8:=e6.then (k8.mono λn _ P m=>P (.inl m));have b8:=b2.af k8 λn P k=>k (.inr P);refine al.dec (λf5=>?_) (λf8=>?_)
 ·rw[show jO (no::t.drop (e+1)) b g D=⟨(D.Io (gO no) o).1,b++j,⟨g.size,g.bQ++[no],o,g.next⟩,(D.Io (gO no) o).2⟩ by
   unfold jO;rw[a1,Zq (by simpa using he),Zx (by show o<_;omega)]]
  intro w9 d9;have N:ai w8 w9:=d9.af;have b9:=b6.ah N;obtain⟨G9,e7,O,e8⟩:=id b9;obtain⟨c0,n9,c9,E9,e9,-,-,-⟩:=O.row;refine⟨λn=>n≠q,q,0,rfl,λhs=>hs rfl,_,ae e9 rfl,PC.ok (jt (C.ah b9.gr) i) ?_⟩;rintro _ f2 ⟨rfl,y⟩;refine⟨_,rfl,y.af,PC.ok ((e7.ah y).Io (k:=gO no)) ?_⟩;rintro _ f3 ⟨rfl,c1,B⟩;have c2:ak (dy X) f2 f3:=B.mono λn _ P m=>P (.inl (.inl m));refine⟨_,rfl,B.mono λn _ P L=>P (.inr (L▸O.self)),Ok.mk ⟨_,_,_,A,rfl,?_,⟨G9,c1,(O.ah y).af B λn P k=>k (.inr P),e8⟩,((b7.ah N).ah y).then c2,b5,?_⟩⟩
  ·exact((b8.ah N).ah y).af B λn P k=>k (.inl (.inr P))
  ·exact Uw (j:=e+1) oM be
 ·refine⟨_,?_,e+1,⟨g.size,g.bQ++[no],o,g.next⟩,b++j,A,aq oM,oM,rfl,?_,by simp;omega,by simp;omega,b8,b6,b7,b5⟩
  ·omega
  ·conv=>lhs;unfold jO
   rw[a1,Zq (by simpa using he),Zq (by show¬o<_;omega)]
end
def vD(D:an)(n:Int):eJ:=⟨n,[],0,BJ D⟩
def told(D:an):List Int:=(fr D).getD []
def oI(P:Nat)(n:qx):qx:=
 if n.no≠0 then n else
 if n.V.bQ=[]then⟨(a_ n.V n.D).1,n.out,(a_ n.V n.D).2.1,(a_ n.V n.D).2.2⟩else
 if n.V.bQ.length<P then⟨(cf n.D n.V.bQ).1,n.out,n.V,(cf n.D n.V.bQ).2⟩else n
def eK(D:an)(n:Int):qx:=oI (told D).length (jO (told D) [] (vD D n) D)
def SG(e b:World)(f:Nat)(c:ZN)(n:qx)(g:Value)(P:World):Prop:=
 (n.no≠0/\g= .tuple #[.pointer none,.slice none 0 0,ZH n.no]/\aT e P f n.D c/\ak (dy c) b P)\/
 (n.no=0/\∃d h i j G,g= .tuple #[ZL d,.slice h i j,ZH 0]/\aM vi 63 G P h i j n.out/\cd e P f d n.V n.D (λa=>c a\/G a)/\ak (dy c) b P/\(∀a,G a->b.heap.size<=a)/\b.heap.size<=d/\n.out.length<=16777216)
def Ih{D:an}{size:Int}(s:Laid b)(h:aT b k a D f):
  YX 73 #[ZL a,ZH size] k (Ok (SG b k a f (eK D size))):=by
 have S:∀n,f n->n<k.heap.size:=by obtain⟨a0,h1,h2,h3,h4⟩:=h;exact h4
 have d1:=h.gr.size;obtain⟨a0,hF,-,-,-⟩:=id h;refine CQ (PC.ok (IJ (s.ah h.gr) hF) ?_);rintro _ d ⟨rfl,F⟩;have T:=h.ah F;have d2:=Eu D.list;refine⟨_,rfl,PA.mk λw2 U s2 g2=>PC.ok ((T.ah U).jJ s.nU) ?_⟩;rintro _ t ⟨x,y,V,z,rfl,W,X,-,H⟩;have z1:=F.size;have z3:=H.size
 change aM aI 3 z t x y V (told D)at W
 have d3:(told D).length<=64:=DW;have b4:ai d t:=U.then H;refine⟨_,_,_,_,rfl,PA.mk λw4 k4 s4 g4=>PS.mk g4 sM λj k5 s5 Y=>⟨_,_,_,ae Y rfl,?_⟩⟩;have b5:j.heap[t.heap.size]? =some (.cells #[.slice x y V] 211 (0,0)):=Y;have I:ai t j:=k4.new k5 λn P=>.inr oM;have Z:ai d j:=b4.then I;have a8:ai k j:=F.then Z;have b6:=I.get (H.get g2 id) id;have a9:=W.ah I
 let J:ZN:=λn=>f n\/(z n\/n=t.heap.size)
 have b7:cd b j a d.heap.size (vD D size) D J:=by
  refine⟨(·=d.heap.size),T.dU Z (Y:=λ_=>False) (λn P=>P.elim) λn P=>?_,⟨⟨none,0,0,λ_=>False,b6,aM.nil j,λ_ h=>h.elim⟩,rfl,λn P=>oM,Qj _,?_⟩,λn P=>⟨oM,λE=>?_⟩⟩
  ·rcases P with(P|P|P)|P
   ·exact⟨.inl P,by have:=S n P;omega⟩
   ·exact⟨.inr (by have:=X n P;omega),a9.aC n P⟩
   ·exact⟨.inr oM,oM⟩
   ·exact⟨.inr oM,oM⟩
  ·show aJ (yl D.list);unfold aJ;omega
  ·subst P
   rcases E with E|E|E
   ·have:=S _ E;omega
   ·have:=X _ E;omega
   ·omega
 have K:Row aI 8 j z x y (told D):=a9.row dC ba;refine PC.ok (QL s b7 K (λn P=>.inr (.inl P)) (by show 0+_<=_;omega)) ?_;rintro _ L ⟨a6,n6,c6,l,rfl,A,u,M,b8,b0⟩;have z5:=a8.size;have hq:k.heap.size<=d.heap.size:=z1;have N:ak (dy f) k L:=(ai.af a8).then (M.mono λn _ P E=>P (.inl E));have g6:=M.get b5 λi=>i (.inr (.inr rfl));have b9:Row aI 8 L z x y (told D):=K.af M λn P i=>i (.inr (.inl P));have d4:=K.len;show _;unfold eK;generalize jO (told D) [] (vD D size) D=e at A u b0;have b1:∀n,l n->k.heap.size<=n:=λn P=>by have:=b8 n P;omega
 refine⟨_,_,_,_,rfl,λno m=>∃o p,oI (told D).length e=⟨no,e.out,o,p⟩/\aM vi 63 l m a6 n6 c6 e.out/\cd b m a d.heap.size o p (λn=>f n\/l n)/\ak (dy f) k m,?_,?_⟩
 ·have c:∀{m o p},cd b m a d.heap.size o p (λn=>J n\/l n)->cd b m a d.heap.size o p (λn=>f n\/l n):=λh=>h.mono λn P=>P.imp .inl id
  refine al.dQ (λq=>⟨e.V,e.D,by unfold oI;rw[Zx q],A,c u,N⟩) (λv=>?_);obtain⟨GL,c1,b2,c2⟩:=id u;obtain⟨aL,nL,cL,EL,O,b3,c4,c5⟩:=b2.row;refine⟨_,_,rfl,_,_,_,ae O rfl,al.cW (λhz=>?_) (λc7=>?_)⟩
  ·have Q:e.V.bQ=[]:=QW oM
   refine PC.ok (Ew s u) ?_;rintro _ B ⟨rfl,r,g⟩;exact⟨_,rfl,_,_,by unfold oI;rw[Zq (by simpa using v),Zx Q],A.af g λn P i=>i (.inr P),c r,N.then (g.mono λn _ P E=>P (.inl (.inl E)))⟩
  ·have q:¬e.V.bQ=[]:=λa1=>c7 (by rw[c5,a1];rfl)
   refine⟨_,_,rfl,_,_,_,ae O rfl,_,_,_,ae g6 rfl,λB d7=>?_⟩;have g:ai L B:=d7.af;have r:=u.ah g;have C:=A.ah g;have w:ak (dy f) k B:=N.ah g;refine al.dec (λd5=>?_) (λd6=>⟨_,_,by unfold oI;rw[Zq (by simpa using v),Zq q,Zq oM],C,c r,w⟩);have c8:=g.get O id;refine⟨_,_,rfl,_,_,_,ae c8 rfl,PC.ok ((c1.ah g).cf s.nU (b3.ah g) (MB b3) λn P=>.inr (.inr (c4 n P).1)) ?_⟩;rintro _ w8 ⟨rfl,c9,R⟩;have d0:cd b w8 a d.heap.size e.V (cf e.D e.V.bQ).2 (λn=>J n\/l n):=⟨GL,c9,(b2.ah g).af R λn P i=>i (.inr P),c2⟩
   exact⟨_,rfl,_,_,by unfold oI;rw[Zq (by simpa using v),Zq q,Zx oM],C.af R λn P i=>i (.inl (.inr P)),c d0,w.then (R.mono λn _ P E=>P (.inl (.inl (.inl E))))⟩
 ·rintro no _ B ⟨o,p,Q,C,r,w⟩
  rw[Q];refine al.dQ (λq=>Ok.mk (.inl ⟨q,rfl,r.vq.mono λn P=>.inl P,w⟩)) (λv=>Ok.mk (.inr ⟨v,d.heap.size,a6,n6,c6,l,by rfl,C,r,w,b1,hq,b0⟩))
def gy(n:aj):Bool:=decide (64<n.aQ.length)
def bu(P:eJ)(D:an)(a:List aj):Int×eJ×an:=
 if a.any gy then(3,P,D)else if a=[]then(0,P,D)else
 let n:=if P.size<=P.bytes then a_ P D else(0,P,D)
 if n.1≠0 then n else
 let b:=n.2.2.append n.2.1.last (eu a)
 if b.1≠0 then(b.1,n.2.1,b.2)else(0,⟨n.2.1.size,n.2.1.bQ,ZG .i64 (n.2.1.bytes+((eu a).length:Nat)),n.2.1.next⟩,b.2)
def sP{D:an}(n:(a_ b3 D).1=0):(a_ b3 D).2.1.bQ≠[]:=by
 have c:∀P:an,(qT b3 P).1=0->(qT b3 P).2.1.bQ≠[]:=by
  intro P;unfold qT;dsimp only;split
  ·rename_i a;intro n;exact Zz n a
  ·split
   ·rename_i a;intro n;exact Zz n a
   ·intro _;simp
 have b:∀P:an,(mK b3 P).1=0->(mK b3 P).2.1.bQ≠[]:=by
  intro P;unfold mK;dsimp only;split
  ·rename_i a;intro n;exact Zz n a
  ·exact c _
 revert n
 unfold a_;dsimp only;split
 ·exact b D
 ·split
  ·rename_i a;intro n;exact Zz n a
  ·exact b _
def Mh(n:o.Ok)(P:o.aQ.length<=64):(w_ o).length<=675:=by
 have:=MA n P;have a:=qv n P;unfold w_ at*;rw[k_];omega
def ox(n:List aj)(P:aj):eu (n++[P])=eu n++w_ P:=by simp[eu]
def Lf{D:an}{t De:ZN}{v b5:Nat}(V:Laid b)(u:cd b k a c b3 D t)(d1:b3.bQ≠[])(hr:Row jB 96 k De d v J)(d4:∀n,De n->n<k.heap.size)(hl:J.length<=20000000):
  YX 134 #[ZL c,.slice d v b5] k (Ok (Ev b k a c t (bu b3 D J))):=by
 have z:=hr.len;have e8:=u.aC;refine rW ⟨λa4 K L W a5 w=>∃(f:Nat) (x:ZN),a5=f/\f<=v/\a4=v-f/\(∀e∈J.take f,e.Ok/\e.aQ.length<=64)/\(eu (J.take f)).length<=675*f/\aM fN 5 x w K L W (eu (J.take f))/\ai k w/\∀n,x n->k.heap.size<=n,
  ⟨_,0,λ_=>False,rfl,Qj _,rfl,sM,by simp[eu],aM.nil k,ak.refl _,λ_ u=>u.elim⟩,?_⟩
 rintro a4 K L W a5 _ X ⟨f,x,rfl,hj,rfl,Z,d5,o,j,hF⟩;have a6:=o.len dC;refine al.dec (λd6=>?_) (λd7=>?_)
 ·obtain⟨n,a0,e,es,rfl,_,_,p,g,b6,n1,c1,rfl,hd,M⟩:=(hr.ah j).vW (i:=f) oM
  have l:=λi (hi:i<10)=>g i hi;refine⟨n,a0,rfl,oM,oM,_,_,_,_,_,_,_,_,_,_,_,_,l 0 dC,l 1 dC,l 2 dC,l 3 dC,l 4 dC,l 5 dC,l 6 dC,l 7 dC,l 8 dC,l 9 dC,PA.mk λA B s2 g2=>?_⟩;refine storeAll (aE e b6 n1 c1) g2 rfl λC q s3 m=>?_;have y:ai X C:=B.new q λn P=>.inr oM;refine⟨_,_,_,_,_,_,_,_,_,_,_,_,ae m rfl,ae m rfl,ae m rfl,ae m rfl,ae m rfl,ae m rfl,ae m rfl,ae m rfl,ae m rfl,ae m rfl,?_⟩;refine PC.ok (DX (V.ah ((u.gr.then j).then y)) (hd.ah y) M λn P=>by have:=d4 n P;have:=(j.then y).size;omega) ?_;rintro _ w4 ⟨c0,n4,e9,F4,rfl,r,s,b4⟩
  by_cases N:e.aQ.length<=64
  ·have a8:=qv M N
   rw[a8]at r⊢;have f0:=Mh M N;refine⟨_,_,_,_,rfl,al.dQ (λg=>Zz rfl g) (λ_=>?_)⟩;have a9:=y.then s;have c2:Row fN 1 w4 F4 c0 n4 (w_ e):=r.row (bytes:=1) dC (by unfold aK;dsimp only;omega);have f2:=a9.size;have f3:=y.size;refine zO (o.ah a9) tg c2 (λe=>r.Ns e) (λn P=>⟨r.aC n P,λg=>by have:=o.aC n (o.self n g);have:=b4 n P;omega⟩) ba (by unfold maxLen;omega) λa7 c5 w5 F5 b0 d8 d9 _=>?_;have b1:J.take (f+1)=J.take f++[e]:=by rw[Qw,p];rfl
   refine⟨_,_,_,rfl,v-(f+1),oM,f+1,F5,aq oM,oM,rfl,?_,?_,?_,(j.then a9).new d8 λn P=>.inr (by have:=hF n (o.self n P);omega),?_⟩
   ·rw[b1]
    intro c3 a1;rcases Q6.1 a1 with Y|Y
    ·exact Z c3 Y
    ·simp at Y;subst Y;exact⟨M,N⟩
   ·rw[b1,ox];simp;omega
   ·rw[b1,ox];exact b0
   ·intro n P
    have:=j.size;rcases d9 n P with Y|Y|Y
    ·exact hF n Y
    ·have:=b4 n Y;omega
    ·omega
  ·have a8:=xP N
   rw[a8]at r⊢;refine⟨_,_,_,_,rfl,al.dQ (λ_=>?_) (λg=>Zz g dC)⟩;have c4:J.any gy=true:=List.any_eq_true.2 ⟨e,QZ p,by unfold gy;simp;omega⟩;refine Ok.mk ?_;rw[show bu b3 D J=(3,b3,D) by unfold bu;rw[Zx c4]];have b7:=(j.then y).then s;exact⟨rfl,u.ah b7,ai.af b7⟩
 ·obtain rfl:f=v:=oM
  rw[Qz oM]at Z d5 o a6;have b8:J.any gy=false:=by
   rw[<-Bool.not_eq_true];intro g;obtain⟨e,he,h2⟩:=List.any_eq_true.1 g;have:=(Z e he).2;unfold gy at h2;simp at h2;omega
  refine al.cW (λhz=>?_) (λe0=>?_)
  ·have he:J=[]:=QW oM
   refine Ok.mk ?_;rw[show bu b3 D J=(0,b3,D) by unfold bu;rw[Zq (by simp[b8]),Zx he]];exact⟨rfl,u.ah j,ai.af j⟩
  have e2:J≠[]:=λe=>e0 (by rw[z,e];rfl)
  let E:ZN:=λn=>t n\/x n
  have b9:cd b X a c b3 D E:=u.add j λn P=>⟨hF n P,o.aC n P⟩
  have c7:bu b3 D J=if(if b3.size<=b3.bytes then a_ b3 D else(0,b3,D)).1≠0 then(if b3.size<=b3.bytes then a_ b3 D else(0,b3,D))else
    if((if b3.size<=b3.bytes then a_ b3 D else(0,b3,D)).2.2.append (if b3.size<=b3.bytes then a_ b3 D else(0,b3,D)).2.1.last (eu J)).1≠0 then(((if b3.size<=b3.bytes then a_ b3 D else(0,b3,D)).2.2.append (if b3.size<=b3.bytes then a_ b3 D else(0,b3,D)).2.1.last (eu J)).1,(if b3.size<=b3.bytes then a_ b3 D else(0,b3,D)).2.1,((if b3.size<=b3.bytes then a_ b3 D else(0,b3,D)).2.2.append (if b3.size<=b3.bytes then a_ b3 D else(0,b3,D)).2.1.last (eu J)).2)
    else(0,⟨(if b3.size<=b3.bytes then a_ b3 D else(0,b3,D)).2.1.size,(if b3.size<=b3.bytes then a_ b3 D else(0,b3,D)).2.1.bQ,ZG .i64 ((if b3.size<=b3.bytes then a_ b3 D else(0,b3,D)).2.1.bytes+((eu J).length:Nat)),(if b3.size<=b3.bytes then a_ b3 D else(0,b3,D)).2.1.next⟩,((if b3.size<=b3.bytes then a_ b3 D else(0,b3,D)).2.2.append (if b3.size<=b3.bytes then a_ b3 D else(0,b3,D)).2.1.last (eu J)).2):=by
   unfold bu;rw[Zq (by simp[b8]),Zq e2]
  obtain⟨GL,f4,e3,f5⟩:=id b9;obtain⟨aL,nL,cL,EL,gL,f8,g0,g1⟩:=e3.row;rw[c7];refine⟨λw=>∃F O,(if b3.size<=b3.bytes then a_ b3 D else(0,b3,D))=(0,F,O)/\F.bQ≠[]/\cd b w a c F O E/\ak (dy t) k w/\aM fN 5 x w K L W (eu J),?_,?_⟩
  ·refine⟨c,0,rfl,_,ae gL rfl,c,0,rfl,_,ae gL rfl,λA d2=>?_⟩
   have B:ai X A:=d2.af;have Q:=b9.ah B;have R:=o.ah B;have S:ak (dy t) k A:=ai.af (j.then B);refine al.dec (λd7=>?_) (λd6=>⟨b3,D,by rw[Zq oM],d1,Q,S,R⟩);refine PC.ok (Ew V Q) ?_;rintro _ C ⟨rfl,H,q⟩;have c6:ak (dy t) k C:=S.then (q.mono λn _ P p=>P (.inl p));have a2:(if b3.size<=b3.bytes then a_ b3 D else(0,b3,D))=a_ b3 D:=Zx oM;rw[a2];refine⟨_,rfl,al.dQ (λa3=>?_) (λT=>⟨_,_,by rw[<-T],sP T,H,c6,R.af q λn P z=>z (.inr P)⟩)⟩;rw[Zx a3];exact Ok.mk ⟨rfl,H.mono λn P=>.inl P,c6⟩
  ·rintro _ A ⟨F,O,a2,d3,Q,S,R⟩ C e1
   rw[a2];have q:ai A C:=e1.af;have H:=Q.ah q;have e4:=R.ah q;obtain⟨G3,e5,U,I⟩:=id H;obtain⟨f1,n3,f6,E3,e6,-,-,-⟩:=U.row;refine⟨λn=>n≠c,c,0,rfl,λhs=>hs rfl,_,ae e6 rfl,PC.ok (IK (V.ah H.gr) U d3) ?_⟩;rintro _ w4 ⟨rfl,s⟩;have r:=e4.ah s;have e7:Row fN 1 w4 x K L (eu J):=r.row (bytes:=1) dC ba;refine⟨_,rfl,s.af,PC.ok ((e5.ah s).append e7 (λe=>r.Ns e) λn P=>.inr (.inl (.inr P))) ?_⟩;rintro _ w5 ⟨rfl,b2,k5⟩;have h:=(U.ah s).af k5 λn P z=>z (.inr P);have c8:ak (dy t) k w5:=((S.ah q).ah s).then (k5.mono λn _ P p=>P (.inl (.inl p)));refine⟨_,rfl,k5.mono λn _ P e=>P (.inr (e▸U.self)),?_⟩;rw[Zq (λg:((0,F,O):Int×eJ×an).1≠0=>g rfl)];refine al.dQ (λa3=>?_) (λT=>?_)
   ·rw[Zx a3]
    exact Ok.mk ⟨rfl,cd.mono (X:=E) ⟨G3,b2,h,I⟩ λn P=>.inl P,c8⟩
   ·rw[Zq (by simpa using T)]
    obtain⟨a7,n5,c5,E5,c9,b0,d0⟩:=h.body;refine⟨c,0,rfl,_,ae c9 rfl,c,0,rfl,PS.mk c9 sM λw6 k6 s6 g6=>Ok.mk ⟨rfl,?_,c8.then (k6.mono λn _ P p=>(I n (P▸h.self)).2 (.inl p))⟩⟩;rw[a6]at g6;refine cd.mono (X:=E) ⟨G3,b2.dU k6 (λn P=>⟨.inr (P▸h.self),(I n (P▸h.self)).1⟩) (λn P=>⟨.inl P,by have:=(P.elim (cd.aC (X:=E) ⟨G3,b2,h,I⟩ n) (h.aC n):n<w5.heap.size);omega⟩),⟨⟨a7,n5,c5,E5,g6,b0.af k6 λn P e=>(d0 n P).2 e,d0⟩,h.self,λn P=>by have:=h.aC n P;omega,h.many,h.Bj⟩,I⟩ λn P=>.inl P
def bS(n:List aj):List UInt8×Int:=if n.any gy then([],3)else(eu n,0)
def KA(V:Laid b)(C:Row jB 96 b f d a J)(W:∀n,f n->n<b.heap.size)(hl:J.length<=20000000):
  YX 142 #[.slice d a c] b (Ok λX q=>∃E F H l,X= .tuple #[.slice E F H,ZH (bS J).2]/\aM fN 5 l q E F H (bS J).1/\ai b q/\∀n,l n->b.heap.size<=n):=by
 have hn:=C.len;refine wM ⟨λI K L N O q=>∃(P:Nat) (l:ZN),O=P/\P<=a/\I=a-P/\(∀e∈J.take P,e.Ok/\e.aQ.length<=64)/\(eu (J.take P)).length<=675*P/\aM fN 5 l q K L N (eu (J.take P))/\ai b q/\∀n,l n->b.heap.size<=n,
  ⟨_,0,λ_=>False,rfl,Qj _,rfl,sM,by simp[eu],aM.nil b,ak.refl _,λ_ u=>u.elim⟩,?_⟩
 rintro I K L N O _ Y ⟨P,l,rfl,hj,rfl,v,Z,o,m,w⟩;refine al.dec (λa9=>?_) (λb0=>?_)
 ·obtain⟨n,x,e,es,rfl,_,_,Q,j,a1,n1,c1,rfl,hd,s⟩:=(C.ah m).vW (i:=P) oM
  have g:=λi (hi:i<10)=>j i hi;refine⟨n,x,rfl,oM,oM,_,_,_,_,_,_,_,_,_,_,_,_,g 0 dC,g 1 dC,g 2 dC,g 3 dC,g 4 dC,g 5 dC,g 6 dC,g 7 dC,g 8 dC,g 9 dC,PA.mk λw2 k2 s2 g2=>?_⟩;refine storeAll (aE e a1 n1 c1) g2 rfl λw3 k3 s3 h=>?_;have p:ai Y w3:=k2.new k3 λn k=>.inr oM;refine⟨_,_,_,_,_,_,_,_,_,_,_,_,ae h rfl,ae h rfl,ae h rfl,ae h rfl,ae h rfl,ae h rfl,ae h rfl,ae h rfl,ae h rfl,ae h rfl,?_⟩;refine PC.ok (DX (V.ah (m.then p)) (hd.ah p) s λn k=>by have:=W n k;have:=(m.then p).size;omega) ?_;rintro _ R ⟨a4,n4,c4,F4,rfl,r,S,T⟩
  by_cases t:e.aQ.length<=64
  ·have y:=qv s t
   rw[y]at r⊢;have b1:=Mh s t;refine⟨_,_,_,_,rfl,al.dQ (λj=>Zz rfl j) (λ_=>?_)⟩;have z:=p.then S;have a0:Row fN 1 R F4 a4 n4 (w_ e):=r.row (bytes:=1) dC (by unfold aK;dsimp only;omega);have b2:=z.size;have b3:=p.size;refine zO (o.ah z) tg a0 (λe=>r.Ns e) (λn k=>⟨r.aC n k,λj=>by have:=o.aC n (o.self n j);have:=T n k;omega⟩) ba (by unfold maxLen;omega) λb4 c5 w5 F5 a3 a6 a7 _=>?_;have A:J.take (P+1)=J.take P++[e]:=by rw[Qw,Q];rfl
   refine⟨_,_,_,rfl,a-(P+1),oM,P+1,F5,aq oM,oM,rfl,?_,?_,?_,(m.then z).new a6 λn k=>.inr (by have:=w n (o.self n k);omega),?_⟩
   ·rw[A]
    intro a2 B;rcases Q6.1 B with M|M
    ·exact v a2 M
    ·simp at M;subst M;exact⟨s,t⟩
   ·rw[A,ox];simp;omega
   ·rw[A,ox];exact a3
   ·intro n k
    have:=m.size;rcases a7 n k with M|M|M
    ·exact w n M
    ·have:=T n M;omega
    ·omega
  ·have y:=xP t
   rw[y]at r⊢;refine⟨_,_,_,_,rfl,al.dQ (λ_=>?_) (λj=>Zz j dC)⟩;have a5:J.any gy=true:=List.any_eq_true.2 ⟨e,QZ Q,by unfold gy;simp;omega⟩;rw[show bS J=([],3) by unfold bS;rw[Zx a5]];exact Ok.mk ⟨none,0,0,λ_=>False,rfl,aM.nil R,(m.then p).then S,λ_ u=>u.elim⟩
 ·obtain rfl:P=a:=oM
  rw[Qz oM]at v Z o;have a8:J.any gy=false:=by
   rw[<-Bool.not_eq_true];intro j;obtain⟨e,he,U⟩:=List.any_eq_true.1 j;have:=(v e he).2;unfold gy at U;simp at U;omega
  rw[show bS J=(eu J,0) by unfold bS;rw[Zq (by simp[a8])]];exact Ok.mk ⟨_,_,_,l,rfl,o,m,w⟩
def eY(no:Int)(d:List UInt8)(D:an):Int×an:=
 let n:=cB (aB no)
 let P:=D.create n
 if P.1≠0 then(P.1,P.2)else
 let a:=P.2.append n d
 if a.1≠0 then(a.1,(a.2.delete n).2)else
 let b:=a.2.sync n
 if b.1≠0 then(b.1,(b.2.delete n).2)else
 let c:=cf b.2 [no]
 (c.1,if c.1≠0 then(c.2.delete n).2 else c.2)
def Nt{D:an}{no:Int}(hL:Laid b)(L:aT b k a D f)(R:aJ no)(e:Row fN 1 k Y d c x)(c0:d=none->c=0/\i=0)(b2:∀n,Y n->f n):
  YX 143 #[ZL a,ZH no,.slice d c i] k (Ok (nw b k a f (eY no x D))):=by
 have e2:=L.gr.size;have S:∀n,f n->n<k.heap.size:=by obtain⟨a3,f1,f2,T,U⟩:=L;exact U
 refine yN (PA.mk λw k1 s1 g1=>PA.mk λw2 V s2 g2=>PC.ok (jt (hL.ah ((L.gr.then k1).then V)) R) ?_);rintro _ W ⟨rfl,M⟩;have z3:=M.size;refine⟨_,rfl,PA.mk λw4 X s4 g4=>PS.mk g4 sM λZ k5 s5 g5=>?_⟩
 let s:ZN:=λn=>f n\/(n=k.heap.size\/n=w.heap.size\/n=W.heap.size)
 have b3:ai k Z:=((((k1.then V).then M).then X)).new k5 λn e=>.inr oM;have d0:aT b Z a D s:=L.add b3 λn e=>by omega
 let y:World->Int->Prop:=λh l=>h.heap[k.heap.size]? =some (.cells #[ZL a] 93 (0,0))/\h.heap[w.heap.size]? =some (.cells #[ZH l] 34 (0,0))/\h.heap[W.heap.size]? =some (.cells #[.string (cB (aB no))] 9 (0,0))
 have C5:y Z 0:=⟨k5.get (X.get (M.get (V.get g1 id) id) id) oM,k5.get (X.get (M.get g2 id) id) oM,g5⟩
 have g:∀{h o:World} {l:Int},y h l->ak (dy s) h o->y o l:=λm t=>
  ⟨t.get m.1 λp=>p (.inr (.inl rfl)),t.get m.2.1 λp=>p (.inr (.inr (.inl rfl))),t.get m.2.2 λp=>p (.inr (.inr (.inr rfl)))⟩
 have H:∀{h o:World},ak (dy f) k h->ak (dy s) h o->ak (dy f) k o:=λd n=>d.then (n.mono λn _ e q=>e (.inl q));have P:∀{h:World} {l B:Int} {u:an} {κ:ZU},y h l->aT b h a u s->ak (dy f) k h->(∀o,y o B->aT b o a u s->ak (dy f) k o->ak (·=w.heap.size) h o->κ o)->PS h ⟨w.heap.size,0,none⟩ (ZH B) κ:=by
  intro h l B u κ m hN t a0;have h1:=ax m.2.1;refine PS.mk m.2.1 sM λo z e3 d1=>a0 o ⟨z.get m.1 oM,d1,z.get m.2.2 oM⟩ ?_ (t.then (z.mono λn _ e q=>by have:=S n q;omega)) z;obtain⟨a3,f1,f2,T,U⟩:=hN;exact⟨a3,f1.af z λn e l=>(T n e).2 (.inr (.inr (.inl l))),f2.new z λn e=>.inr oM,T,λn e=>Qk (U n e) z.size⟩
 have j:∀{I:Int×an} (l:Int) (u:an) (h:World),aT b h a u s->ak (dy f) k h->y h l->I=(l,if l≠0 then(u.delete (cB (aB no))).2 else u)->
   Lv ZP (λb4=>∃b5:Int,b4.cell? ⟨w.heap.size,0,none⟩=some (ZH b5)/\Ok (nw b k a f I) (.returned (ZH b5)) b4) (λch h=>Ok (nw b k a f I) (.panicked ch) h)
    ([{target:=.fn (.func 212) #[ZL w.heap.size,ZL k.heap.size,ZL W.heap.size],args:= #[]}]:List Deferred) .returning h:=by
  intro I l u h p t m hr;refine Lv.one sM kR (CallsD.mono (tw (R:=λB J=>B= .returned (.tuple #[])/\∃b6:Int,J.cell? ⟨w.heap.size,0,none⟩=some (ZH b6)/\Ok (nw b k a f I) (.returned (ZH b6)) J) ⟨_,ae m.2.1 rfl,al.dQ (λr=>⟨_,ae m.1 rfl,_,ae m.2.2 rfl,PC.ok p.delete ?_⟩) (λA=>⟨rfl,_,ae m.2.1 rfl,Ok.mk ?_⟩)⟩) ?_)
  ·rintro _ wb ⟨rfl,d2,kb⟩
   have d3:=g m kb;refine⟨_,rfl,rfl,_,ae d3.2.1 rfl,Ok.mk ?_⟩;rw[hr,Zx r];exact⟨rfl,d2.mono λn e=>.inl e,H t kb⟩
  ·rw[hr,Zq (by simpa using A)]
   exact⟨rfl,p.mono λn e=>.inl e,t⟩
  ·rintro B u' J ⟨rfl,rfl,S⟩
   exact Lv.ret rfl S
 refine⟨_,ae C5.1 rfl,_,ae C5.2.2 rfl,PC.ok d0.create ?_⟩;rintro _ w6 ⟨rfl,b7,k6⟩;have C6:=g C5 k6;have d4:=H (ai.af b3) k6;have hW:eY no x D=if(D.create (cB (aB no))).1≠0 then((D.create (cB (aB no))).1,(D.create (cB (aB no))).2)else
   if((D.create (cB (aB no))).2.append (cB (aB no)) x).1≠0 then(((D.create (cB (aB no))).2.append (cB (aB no)) x).1,(((D.create (cB (aB no))).2.append (cB (aB no)) x).2.delete (cB (aB no))).2)else
   if((((D.create (cB (aB no))).2.append (cB (aB no)) x).2).sync (cB (aB no))).1≠0 then(((((D.create (cB (aB no))).2.append (cB (aB no)) x).2).sync (cB (aB no))).1,(((((D.create (cB (aB no))).2.append (cB (aB no)) x).2).sync (cB (aB no))).2.delete (cB (aB no))).2)else
   ((cf ((((D.create (cB (aB no))).2.append (cB (aB no)) x).2).sync (cB (aB no))).2 [no]).1,if(cf ((((D.create (cB (aB no))).2.append (cB (aB no)) x).2).sync (cB (aB no))).2 [no]).1≠0 then((cf ((((D.create (cB (aB no))).2.append (cB (aB no)) x).2).sync (cB (aB no))).2 [no]).2.delete (cB (aB no))).2 else(cf ((((D.create (cB (aB no))).2.append (cB (aB no)) x).2).sync (cB (aB no))).2 [no]).2):=rfl
 rw[hW];generalize D.create (cB (aB no))=cr at b7⊢;refine⟨_,rfl,P C6 b7 d4 λJ C b8 a5 k7=>⟨_,ae C.2.1 rfl,al.dQ (λr=>?_) (λA=>?_)⟩⟩
 ·refine⟨_,ae C.2.1 rfl,P C b8 a5 λw8 C8 N a6 k8=>⟨_,ae C8.2.1 rfl,Ok.mk ?_⟩⟩
  rw[Zx r];exact⟨rfl,N.mono λn e=>.inl e,a6⟩
 rw[Zq (by simpa using A)];have d5:Row fN 1 J Y d c x:=e.af a5 λn e p=>p (b2 n e);refine⟨_,ae C.1 rfl,_,ae C.2.2 rfl,PC.ok (b8.append d5 c0 λn e=>.inr (.inl (b2 n e))) ?_⟩;rintro _ w8 ⟨rfl,N,k8⟩;have C8:=g C k8;have a6:=H a5 k8;generalize cr.2.append (cB (aB no)) x=ap at N⊢;refine⟨_,rfl,P C8 N a6 λw9 E b9 c1 k9=>⟨_,ae E.2.1 rfl,al.dQ (λr=>?_) (λA=>?_)⟩⟩
 ·refine⟨_,ae E.2.1 rfl,P E b9 c1 λc2 a7 O a1 a8=>?_⟩
  rw[Zx r];exact j _ _ c2 O a1 a7 (by rw[Zx r])
 rw[Zq (by simpa using A)];refine⟨_,ae E.1 rfl,_,ae E.2.2 rfl,PC.ok b9.sync ?_⟩;rintro _ c2 ⟨rfl,O,a8⟩;have a7:=g E a8;have a1:=H c1 a8;generalize ap.2.sync (cB (aB no))=sy at O⊢;refine⟨_,rfl,P a7 O a1 λa9 K a4 b1 e4=>⟨_,ae K.2.1 rfl,al.dQ (λr=>?_) (λA=>?_)⟩⟩
 ·refine⟨_,ae K.2.1 rfl,P K a4 b1 λF b0 a2 c3 Q=>?_⟩
  rw[Zx r];exact j _ _ F a2 c3 b0 (by rw[Zx r])
 rw[Zq (by simpa using A)];refine⟨_,ae K.1 rfl,PA.mk λF Q e5 c4=>?_⟩;have a2:aT b F a sy.2 (λn=>s n\/n=a9.heap.size):=a4.add Q λn e=>by subst e;exact⟨Q4 _,ax c4⟩
 have c5:Row aI 8 F (·=a9.heap.size) (ZM a9.heap.size) 1 [no]:=Row.lit c4 [no] rfl (λc6 q=>by simp at q;subst q;exact R) (by unfold aK;simp);refine PC.ok (a2.cf hL.nU c5 (λc6 q=>by simp at q;subst q;exact R) λn e=>.inr (.inr e)) ?_;rintro _ d6 ⟨rfl,c7,d7⟩;have v:ak (dy s) F d6:=d7.mono λn _ e hy=>e (.inl hy);have b0:y F sy.1:=g K (ai.af Q);have d8:=g b0 v;have c8:=H (b1.ah Q) v;exact⟨_,rfl,P d8 (c7.mono λn e=>.inl e) c8 λd9 e0 c9 e1 e6=>j _ _ d9 c9 e1 e0 rfl⟩
def qw:List Int->an->an
 |[],D=>D
 |no::n,D=>if(D.delete (gO no)).1≠0 then(D.delete (gO no)).2 else qw n (D.delete (gO no)).2
def cx(n:eJ)(D:an)(P:List aj)(a:Int):qx:=
 if(bS P).2≠0 then⟨(bS P).2,[],n,D⟩else
 if(eY n.next (bS P).1 D).1≠0 then⟨(eY n.next (bS P).1 D).1,[],n,(eY n.next (bS P).1 D).2⟩else
 eK (qw n.bQ (eY n.next (bS P).1 D).2) a
def KB(c g:World)(d h:Nat)(i:eJ)(a:ZN)(P:qx)(e:Value)(b:World):Prop:=
 ∃G,iQ b d h G i/\(∀n,G n->c.heap.size<=n/\¬a n)/\ak (dy a) g b/\
  ((P.no≠0/\e= .tuple #[.pointer none,ZH P.no]/\aT c b d P.D (λn=>a n\/G n))\/
   (P.no=0/\∃f,e= .tuple #[ZL f,ZH 0]/\cd c b d f P.V P.D (λn=>a n\/G n)))
def Ig{D:an}{U a2:Nat}(z:Laid b)(V:cd b k a c b3 D f)(W:Row jB 96 k Y d U J)(a4:∀n,Y n->n<k.heap.size)(hl:J.length<=20000000):
  YX 87 #[ZL a,ZL c,.slice d U a2,ZH e] k (Ok (KB b k a c b3 f (cx b3 D J e))):=by
 obtain⟨G,H,u,A⟩:=id V;have c0:=u.many;refine uA (PC.ok (KA (z.ah V.gr) W a4 hl) ?_);rintro _ w1 ⟨a5,n1,c1,F1,rfl,I,p,b5⟩;have hz:∀n,(f n\/G n)->n<k.heap.size:=by obtain⟨c4,f1,f2,f3,f4⟩:=H;exact f4
 refine⟨_,_,_,_,rfl,al.dQ (λh=>Ok.mk ?_) (λq=>PC.ok (PI (u.ah p)) ?_)⟩
 ·rw[show cx b3 D J e=⟨(bS J).2,[],b3,D⟩ by unfold cx;rw[Zx h]]
  exact⟨G,u.ah p,A,ai.af p,.inl ⟨h,rfl,H.ah p⟩⟩
 rintro _ _ ⟨rfl,rfl⟩;have b6:aT b w1 a D (λn=>(f n\/G n)\/F1 n):=H.add p λn P=>⟨b5 n P,I.aC n P⟩
 have d1:(bS J).1.length<=13500000000:=by
  unfold bS;split
  ·simp
  ·rename_i b8
   have:∀m∈J,m.Ok/\m.aQ.length<=64:=λm X=>by
    obtain⟨i,hi⟩:=List.mem_iff_getElem?.1 X;obtain⟨n,v,es,-,-,-,-,a5,n1,c1,-,-,b9⟩:=W.el i m hi;refine⟨b9,?_⟩;have:¬gy m=true:=λK=>b8 (List.any_eq_true.2 ⟨m,X,K⟩);unfold gy at this;simp at this;omega
   have:=PJ this;show(eu J).length<=_;omega
 refine⟨_,rfl,PC.ok (Nt z b6 u.Bj (I.row (bytes:=1) dC ba) (λm=>I.Ns m) λn P=>.inr P) ?_⟩;rintro _ Z ⟨rfl,c2,k2⟩;have L:aT b Z a (eY b3.next (bS J).1 D).2 (λn=>f n\/G n):=c2.mono λn P=>.inl P;have M:=(u.ah p).af k2 λn P j=>j (.inl (.inr P));have a6:ak (dy f) k Z:=(ai.af p).then (k2.mono λn _ P l=>P (.inl (.inl l)));have hC:cx b3 D J e=if(eY b3.next (bS J).1 D).1≠0 then⟨(eY b3.next (bS J).1 D).1,[],b3,(eY b3.next (bS J).1 D).2⟩else eK (qw b3.bQ (eY b3.next (bS J).1 D).2) e:=by
  unfold cx;rw[Zq (by simpa using q)]
 rw[hC];generalize eY b3.next (bS J).1 D=w at L⊢;refine⟨_,rfl,al.dQ (λh=>Ok.mk ?_) (λq=>?_)⟩
 ·rw[Zx h]
  exact⟨G,M,A,a6,.inl ⟨h,rfl,L⟩⟩
 rw[Zq (by simpa using q)];refine⟨λo=>aT b o a (qw b3.bQ w.2) (λn=>f n\/G n)/\iQ o a c G b3/\ak (dy f) k o,PC.ok (Gb M) ?_,?_⟩
 ·rintro _ w3 ⟨a3,s,c3,B,rfl,N,O,c5⟩
  have d2:=N.len dC;have Q:aT b w3 a w.2 (λn=>(f n\/G n)\/B n):=L.add O λn P=>⟨c5 n P,N.aC n P⟩
  refine⟨_,_,_,rfl,λa0 a1 o=>∃(g:Nat) (r:an),a1=g/\g<=s/\a0=s-g/\qw b3.bQ w.2=qw (b3.bQ.drop g) r/\aT b o a r (λn=>(f n\/G n)\/B n)/\aM aI 3 B o a3 s c3 b3.bQ/\iQ o a c G b3/\ak (dy f) k o,
   ⟨_,0,w.2,rfl,Qj _,rfl,rfl,Q,N,M.ah O,a6.ah O⟩,?_⟩
  rintro a0 a1 _ w4 ⟨g,r,rfl,hj,rfl,C,x,R,a7,a8⟩;refine al.dec (λd3=>?_) (λd4=>?_)
  ·have c6:Row aI 8 w4 B a3 s b3.bQ:=R.row dC ba
   obtain⟨n,v,t,rfl,l,c7,K⟩:=c6.mP (i:=g) oM;refine⟨n,v,rfl,oM,oM,t,K,PC.ok (jt (z.ah x.gr) c7) ?_⟩;rintro _ w5 ⟨rfl,E⟩;refine⟨_,rfl,PC.ok (x.ah E).delete ?_⟩;rintro _ w6 ⟨rfl,S,T⟩;have b4:b3.bQ.drop g=t::b3.bQ.drop (g+1):=by
    obtain⟨c8,rfl⟩:=Qv.1 l;exact X4 c8
   rw[b4]at C;have F:qw b3.bQ w.2=if(r.delete (cB (aB t))).1≠0 then(r.delete (cB (aB t))).2 else qw (b3.bQ.drop (g+1)) (r.delete (cB (aB t))).2:=C
   have a9:=(a7.ah E).af T λn P j=>j (.inl (.inr P));have b0:ak (dy f) k w6:=(a8.ah E).then (T.mono λn _ P l=>P (.inl (.inl l)));have c9:=(R.ah E).af T λn P j=>j (.inr P);generalize r.delete (cB (aB t))=b7 at F S⊢;refine⟨_,rfl,al.dQ (λh=>?_) (λq=>?_)⟩
   ·rw[F,Zx h]
    exact⟨S.mono λn P=>.inl P,a9,b0⟩
   ·rw[Zq (by simpa using q)]at F
    exact⟨s-(g+1),oM,g+1,b7.2,aq oM,oM,rfl,F,S,c9,a9,b0⟩
  ·obtain rfl:g=s:=oM
   rw[List.drop_of_length_le oM]at C;rw[C];exact⟨x.mono λn P=>.inl P,a7,a8⟩
 ·rintro _ w3 ⟨Q,b1,b2⟩
  refine PC.ok (Ih (size:=e) z Q) ?_;rintro _ w4 (⟨h,rfl,x,y⟩|⟨q,q2,d5,n4,d6,G4,rfl,R,d0,y,-,-,-⟩)
  ·exact⟨_,_,_,_,_,rfl,Ok.mk ⟨G,b1.af y λn P j=>j (.inr P),A,b2.then (y.mono λn _ P l=>P (.inl l)),.inl ⟨h,rfl,x⟩⟩⟩
  ·exact⟨_,_,_,_,_,rfl,Ok.mk ⟨G,b1.af y λn P j=>j (.inr P),A,b2.then (y.mono λn _ P l=>P (.inl l)),.inr ⟨q,q2,rfl,d0.mono λn P=>.inl P⟩⟩⟩
def jH(D:an)(n:ByteArray):Bool:=decide (n=lL)||((mi n).2&& !decide ((mi n).1∈(fr D).getD []))
def Kn(D:an):List ByteArray:=D.list.filter (jH D)
def Vo(D:an)(n:List ByteArray):an:=n.foldl (λD P=>(D.delete P).2) D
def AO(D:an):an:=Vo D (Kn D)
def AP(n:List ByteArray):List (List Value):=n.map λP=>[.string P]
def PF(D:an)(n:List (List Value)):an:=n.foldl (λD P=>match P with
 |[.string a]=>(D.delete a).2
 |_=>D) D
def DU:∀(n:List ByteArray) (D:an),PF D (AP n)=Vo D n
 |[],D=>rfl
 |s::n,D=>DU n (D.delete s).2
def Nk(D:an)(n:List (List Value))(P:ByteArray):PF D (n++[[.string P]])=((PF D n).delete P).2:=by
 unfold PF;rw[List.foldl_append];rfl
def DV(n:List ByteArray)(P:ByteArray):AP (n++[P])=AP n++[[.string P]]:=by unfold AP;simp
def CL{D:ZN}(P:Row aI 8 b D d a t):
  YX 265 #[.slice d a c,ZH e] b (Ok λp f=>(∃l:Int,p= ZH l/\(0<=l↔e∈t))/\b=f):=by
 have w:=P.len;have q:=P.ef;unfold aK at q;refine nZ ⟨λm i f=>∃n:Nat,i=n/\n<=a/\m=a-n/\e∉t.take n/\b=f,⟨_,0,rfl,Qj _,rfl,sM,rfl⟩,?_⟩;rintro m i _ _ ⟨n,rfl,x,rfl,g,rfl⟩;refine al.dec (λr=>?_) (λr=>?_)
 ·obtain⟨s,j,y,rfl,o,_,u⟩:=P.mP (i:=n) oM
  refine⟨s,j,rfl,oM,oM,_,u,al.cW (λk=>?_) (λk=>?_)⟩
  ·exact Ok.mk ⟨⟨_,rfl,λ_=>k▸QZ o,λ_=>oM⟩,rfl⟩
  ·refine⟨_,oM,n+1,aq oM,oM,rfl,?_,rfl⟩
   rw[Qw,o];intro v;rcases Q6.1 v with h|h
   ·exact g h
   ·simp at h;exact k h
 ·rw[Qz oM]at g
  exact Ok.mk ⟨⟨_,rfl,λh=>oM,λh=>Zz h g⟩,rfl⟩
def wx{D:ZN}(n:Row aI 8 b D d a t):
  YX 209 #[.slice d a c,ZH e] b (Ok λP f=>P= .bool (decide (e∈t))/\b=f):=by
 refine ly (PC.ok (CL n) ?_);rintro _ _ ⟨⟨h,rfl,g⟩,rfl⟩;exact⟨_,rfl,Ok.mk ⟨by rw[decide_eq_decide.2 g],rfl⟩⟩
section
variable {w0 w w1 w':World} {p:Nat} {D D':an} {X Y:ZN}
def aT.lt(P:aT w0 w p D X):∀n,X n->n<w.heap.size:=by obtain⟨b,c,d,e,a⟩:=P;exact a
def Nl(h:aT w0 w p D X)(s:qg w0):YX 140 #[ZL p] w (Ok λt w'=>∃i j c d e,∃Y G:ZN,t= .func (.func 208) #[] #[ZL i,ZL j]/\
  (∃f k,w'.heap[i]? =some (.cells #[ZL p] f k))/\(∃f k,w'.heap[j]? =some (.cells #[.slice c d e] f k))/\aM aI 3 G w' c d e ((fr D).getD [])/\Y i/\Y j/\(∀P,G P->Y P)/\aT w0 w' p D (λP=>X P\/Y P)/\ai w w'):=by
 have A:=h.gr.size;refine yK (PA.mk λw1 m B o=>⟨_,ae o rfl,PC.ok ((h.add m (Y:=(·=w.heap.size)) λP n=>⟨oM,oM⟩).jJ s) ?_⟩);rintro _ a ⟨c,d,e,G,rfl,q,C,u,l⟩;refine⟨_,_,_,_,rfl,PA.mk λE g F v=>PS.mk v sM λH b I x=>Ok.mk ⟨w.heap.size,a.heap.size,c,d,e,λP=>(P=w.heap.size\/G P)\/P=a.heap.size,G,rfl,?_⟩⟩;have J:=l.size;have y:w.heap.size≠a.heap.size:=oM
 have r:∀P,G P->P<a.heap.size:=q.aC;have z:=u.add g (Y:=(·=a.heap.size)) λP n=>⟨oM,oM⟩
 refine⟨⟨_,_,b.get (g.get (l.get o id) id) y⟩,⟨_,_,x⟩,(q.ah g).af b (λP n f=>by have:=r P n;omega),.inl (.inl rfl),.inr rfl,λP n=>.inl (.inr n),?_,?_⟩
 ·refine z.dU b (λP n=>⟨.inr n,oM⟩) λP n=>⟨.inl ?_,?_⟩
  ·rcases n with n|(n|n)|n
   ·exact .inl (.inl (.inl n))
   ·exact .inl (.inl (.inr n))
   ·exact .inl (.inr n)
   ·exact .inr n
  ·have:=b.size
   rcases n with n|(n|n)|n
   ·have:=h.lt P n;omega
   ·omega
   ·have:=r P n;omega
   ·omega
 ·exact ak.new ((m.then l).then g) b λP n=>.inr oM
def CJ(w0 P:World)(p:Nat)(D:an)(d:ZN)(a:World×(ZN))(b:List (List Value))(c:World):Prop:=
 aT w0 c p (PF D b) (λn=>(d n\/(P.heap.size<=n/\n<P.heap.size+2))\/a.2 n)/\ak (dy d) P c/\ak (dy a.2) a.1 c/\∀n,a.2 n->P.heap.size+2<=n
variable {w5:World} {X5:ZN} {s:World×(ZN)} {pre:List (List Value)} {A B:World}
def CJ.ah(n:CJ w0 w5 p D X5 s pre A)(P:ai A B):CJ w0 w5 p D X5 s pre B:=⟨n.1.ah P,n.2.1.ah P,n.2.2.1.ah P,n.2.2.2⟩
def CJ.dU(d:ai w0 w5)(e:CJ w0 w5 p D X5 s pre A)(f:qh (w5.heap.size+1) A B):CJ w0 w5 p D X5 s pre B:=by
 obtain⟨b,g,h,c⟩:=e;obtain⟨a,i⟩:=f;have:=d.size;refine⟨b.dU a (λn P=>⟨.inl (.inr ⟨oM,oM⟩),oM⟩) λn P=>⟨.inl P,by rw[i];exact b.lt n P⟩,g.new a λn P=>.inr oM,h.new a λn P=>.inl λj=>?_,c⟩;have:=c n j;omega
def HU{z C:Nat}{G:ZN}{R:ZU}(X:Laid w0)(a5:∀n,X5 n->n<w5.heap.size)(o:∃q r,w5.heap[a]? =some (.cells #[ZL p] q r))(Y:X5 a)(t:∃q r,w5.heap[c]? =some (.cells #[.slice d z C] q r))(Z:X5 c)(hl:aM aI 3 G w5 d z C ((fr D).getD []))(hG:∀n,G n->X5 n)(E:∀A B,R A->ak (n_ w5) A B->R B)(F:∀s pre u A,CJ w0 w5 p D X5 s pre A->R A->tm [.string ⟨#[]⟩] u->jK ZP (w5.heap.size+1) u A λn k=>n=true/\CJ w0 w5 p D X5 s (pre++[u]) k/\R k)(v:CJ w0 w5 p D X5 (w5,no) [] w1)(a0:R w1)(a1:w5.heap.size+2<=w1.heap.size):
  YX 208 #[.func (.yield (w5.heap.size+1)) #[] #[],ZL a,ZL c] w1 (Ok λa4 w'=>R w'/\∃s,CJ w0 w5 p D X5 s (AP (Kn D)) w'):=by
 obtain⟨e2,f2,o⟩:=o;obtain⟨e4,f4,t⟩:=t;have H:aT w0 w1 p D _:=v.1;refine tq ⟨_,ae (v.2.1.get o λb=>b Y) rfl,PC.ok H.list ?_⟩;rintro _ w ⟨a8,I,c8,J,rfl,K,a2,h8,L⟩;have a6:D.list.length<=64:=by rw[ob];exact H.ok.many
 have a7:=K.len dC;have a3:CJ w0 w5 p D X5 (w,J) [] w:=⟨h8.mono λn e=>e.elim (λf=>.inl (.inl f)) .inr,v.2.1.ah L,ak.refl _,λn e=>Xx a1 (a2 n e)⟩
 refine⟨_,_,_,rfl,λM N w'=>∃P:Nat,N=P/\P<=I/\M=I-P/\CJ w0 w5 p D X5 (w,J) (AP ((D.list.take P).filter (jH D))) w'/\R w',⟨_,0,rfl,Qj _,rfl,a3,E _ _ a0 (ai.af L)⟩,?_⟩;rintro M N _ a9 ⟨P,rfl,hj,rfl,i,O⟩;refine al.dec (λb0=>?_) (λb1=>?_)
 ·obtain⟨n,x,s,rfl,Q,_,j⟩:=((K.af i.2.2.1 λn e b=>b e).row (bytes:=16) dC ba).mP (i:=P) oM
  refine⟨n,x,rfl,oM,oM,_,j,PC.ok (AQ (X.ah i.1.gr)) ?_⟩;rintro _ b2 ⟨rfl,S⟩;have h:=i.ah S;have l:=E _ _ O (ai.af S);have T:tm [.string ⟨#[]⟩] [.string s]:=λφ f=>f s;have U:jH D s=true->(D.list.take (P+1)).filter (jH D)=(D.list.take P).filter (jH D)++[s]:=λf=>by
   rw[Qw,Q,List.filter_append];simp[f]
  have V:jH D s=false->(D.list.take (P+1)).filter (jH D)=(D.list.take P).filter (jH D):=λf=>by
   rw[Qw,Q,List.filter_append];simp[f]
  refine⟨_,_,rfl,al.WS (λhe=>?_) (λW=>al.mk (λm=>?_) (λm=>?_))⟩
  ·refine⟨_,rfl,(F _ _ _ _ h l T).mono ?_⟩
   rintro _ k ⟨rfl,g,y⟩;refine al.ff rfl ⟨_,?_,P+1,aq oM,oM,rfl,?_,y⟩
   ·omega
   ·rw[U (by unfold jH;rw[show s=lL from he];simp),DV];exact g
  ·refine⟨_,_,_,ae (h.2.1.get t λb=>b Z) rfl,PC.ok (wx ((hl.af h.2.1 λn e b=>b (hG n e)).row (bytes:=8) dC (by have:=DW (D:=D);unfold aK;omega))) ?_⟩
   rintro _ _ ⟨rfl,rfl⟩;refine⟨_,rfl,al.mk (λj=>?_) (λj=>?_)⟩
   ·refine⟨_,rfl,(F _ _ _ _ h l T).mono ?_⟩
    rintro _ k ⟨rfl,g,y⟩;refine al.ff rfl ⟨_,?_,P+1,aq oM,oM,rfl,?_,y⟩
    ·omega
    ·rw[U (by unfold jH;rw[m,j];simp),DV];exact g
   ·refine⟨_,?_,P+1,aq oM,oM,rfl,?_,l⟩
    ·omega
    ·rw[V (by unfold jH;rw[m,j,Xv (show¬s=lL from W)];rfl)];exact h
  ·refine⟨_,?_,P+1,aq oM,oM,rfl,?_,l⟩
   ·omega
   ·rw[V (by unfold jH;rw[m,Xv (show¬s=lL from W)];rfl)];exact h
 ·rw[Qz oM]at i
  exact Ok.mk ⟨O,_,i⟩
def Nn(r:Laid w0)(b:aT w0 w p D X):YX 86 #[ZL p] w (Ok λh w'=>h= .tuple #[]/\aT w0 w' p (AO D) X/\ak (dy X) w w'):=by
 have a6:=b.gr.size;refine yL (PA.mk λw1 t s1 u=>⟨_,ae u rfl,PC.ok (Nl (b.add t (Y:=(·=w.heap.size)) λn P=>⟨oM,oM⟩) r.nU) ?_⟩);rintro _ w5 ⟨b2,b4,a0,a1,a2,Y,G,rfl,C,E,F,H,I,J,i,j⟩;have K:=j.get u id;have k:=i.gr;have z5:=j.size;refine⟨_,rfl,208,_,rfl,kR,World×(ZN),(w5,no),CJ w0 w5 p D λn=>(X n\/n=w.heap.size)\/Y n,λ_ _ _=>False,λ_ _=>True,λl=>l=AP (Kn D),?_,λs pre A B c d=>c.dU k d,λ_ _ _ _ b _=>b,?_,?_,?_,trivial⟩
 ·intro L m s6
  exact⟨(i.add m (Y:=λn=>w5.heap.size<=n/\n<w5.heap.size+2) λn P=>⟨P.1,oM⟩).mono λn P=>P.elim id False.elim,ai.af m,ai.af m,λn P=>P.elim⟩
 ·intro s pre A c a7 a8 _
  refine⟨ak.refl _,λa9 d=>?_⟩;obtain⟨e,g,v,x⟩:=c.dU k d;refine⟨_,ae (g.get K λa=>a (.inl (.inr rfl))) rfl,PC.ok e.delete ?_⟩;rintro _ b0 ⟨rfl,M,o⟩;refine⟨_,rfl,o.mono λn _ a=>⟨λN=>a (.inl (.inr ⟨oM,oM⟩)),λN=>a (.inl (.inr ⟨oM,oM⟩))⟩,?_⟩;show CJ _ _ _ _ _ _ _ _;refine⟨by rw[Nk];exact M,g.new o λn a=>.inl λf=>a (.inl (.inl f)),v.new o λn a=>.inl λf=>a (.inr f),x⟩
 ·intro O Rx Q _ R S L T y
  refine Calls.mono (HU (R:=O) r i.lt C (.inr H) E (.inr I) F (λn P=>.inr (J n P)) Q (λs pre U A c V d=>(S s pre U A c V d trivial).mono ?_) T y (R _ y)) ?_
  ·rintro n W (b|⟨-,a3,b,-⟩)
   ·exact b
   ·exact b.elim
  ·rintro _ W ⟨h,rfl,Z,s,q⟩
   exact⟨⟨h,rfl⟩,.inl ⟨Z,s,_,q,rfl⟩⟩
 ·rintro s _ A ⟨e,g,v,x⟩ rfl hm
  refine⟨hm,λb1 ⟨z,a5⟩=>Ok.mk ⟨rfl,?_,?_⟩⟩
  ·rw[DU]at e
   exact(e.dU z (λn P=>⟨.inl (.inr ⟨oM,oM⟩),by have:=k.size;omega⟩) λn P=>⟨.inl P,by rw[a5];exact e.lt n P⟩).mono λn P=>.inl (.inl (.inl (.inl P)))
  ·exact ak.new (ak.new (ai.af (t.then j)) g λn a=>.inl λf=>a (.inl (.inl f))) z λn P=>.inr oM

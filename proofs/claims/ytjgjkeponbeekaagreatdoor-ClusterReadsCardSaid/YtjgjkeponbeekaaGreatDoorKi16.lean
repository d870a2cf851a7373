import Derived.Test.YtjgjkeponbeekaaGreatDoorKi15
set_option maxHeartbeats 4000000
set_option linter.all false
set_option maxRecDepth 100000
open Go.IntKind renaming wrap→XG
namespace Go.Proofs.YtjgjkeponbeekaaGreatDoor
open Go.au
variable{z:FuncId}{N b9 e r:Int}{d4:Int×Int}{J e0:List aj}{a c:Nat}{C:Nat×Nat}{T X:Operand}{d u:ZH}{h:Program}{g q:TypeId}{b:World}{O o:aj}{F:aw}
def VE(n:IQ h g q):(do eqGuard .eql g T X (.agg #[XH e,XH r]) (.agg #[XH N,XH b9]);binOp .eql g (.agg #[XH e,XH r]) (.agg #[XH N,XH b9]):Sem Value).run h b= .ok (.bool (e==N&&r==b9)) b:=by
 rw[Sem.run_bind,run_eqGuard_agg b .eql _ T X _ _ n.hm,Result.andThen_ok,run_eql_struct];have:=n.equalIn 9998 (e,r) (N,b9) b;unfold oF at this;rw[this];rfl
section
variable {w w':World} {p:Nat} {F T D:XN} {d:aM} {every:Nat} {l l2:List aj}
def Gq(U:cO w p F d every l)(V:eD b)(J:ai b w)(K:∀P,F P->b.heap.size<=P){L:ZH}(M:Row jo 96 w D L a l2)(e2:a<=c)(z:∀P,D P->P<w.heap.size/\¬F P)(e3:l2.length<=20000000)(b2:∀(W:Nat) (g j:aj),l[W]? =some g->l2[W]? =some j->aW g=aW j->g=j):
  ZG 75 #[XL p,.slice L a c] w (Ok λb3 w'=>∃A:Int,b3= XH A/\∃h,cO w' p h d every l2/\bL F w h w'):=by
 have hn:=M.len;have X:=U;obtain⟨⟨h1,h2,h3,h4⟩,e0,b6,e4,B⟩:=U;have e5:=aO.len (B.at' 2) dC;have e6:=B.aB;refine pq ⟨λi w'=>∃n:Nat,i=n/\n<=l.length/\n<=l2.length/\l.take n=l2.take n/\ai w w',?_,?_⟩
 ·refine⟨λe i w'=>∃n:Nat,i=n/\n<=l.length/\n<=l2.length/\e=l.length-n/\l.take n=l2.take n/\ai w w',⟨_,0,rfl,Qj _,Qj _,rfl,rfl,ak.refl _⟩,?_⟩
  rintro e _ _ w9 ⟨n,rfl,Y,Z,rfl,m,t⟩;have h9:=dB.ah B t;have a4:=h9.bg;refine⟨p,0,rfl,_,_,_,ae a4 rfl,an.dec (λN=>?_) (λa5 c1 C=>⟨n,rfl,Y,Z,m,t.then C.af⟩)⟩;have a6:n<l.length/\n<l2.length:=by split at N<;>omega
  have k:l[n]? =some l[n]:=Qq a6.1;have E:l2[n]? =some l2[n]:=Qq a6.2;generalize l[n]=g at k;generalize l2[n]=j at E;obtain⟨P,o,es,O,c2,c3,H,ya,yn,yc,rfl,e7,e1⟩:=(M.ah t).el n j E;obtain⟨b7,o2,e8,c4,e9,f0,a0,u,v,x,rfl,a7,a1⟩:=(aO.row (bytes:=96) (h9.at' 2) dC ba).el n g k;have y0:=H 0 dC;have y1:=H 1 dC;have x0:=a0 0 dC;have x1:=a0 1 dC;refine⟨P,o,O,oM,oM,_,_,y0,y1,p,0,rfl,_,_,_,ae a4 rfl,b7,o2,c4,oM,oM,_,_,x0,x1,(j.origin==g.origin&&j.seq==g.seq),λe=>VE KY,λc1 C=>an.mk (λQ=>⟨_,?_,n+1,aq oM,oM,oM,rfl,?_,t.then C.af⟩) (λ_=>⟨n,rfl,Y,Z,m,t.then C.af⟩)⟩
  ·omega
  ·simp only[QK,beq_iff_eq]at Q
   have c5:=b2 n g j k E (by simp[aW,Q.1,Q.2]);rw[Qw,Qw,m,k,E,c5]
 rintro _ _ f1 ⟨i,rfl,c6,c7,m,q⟩;have c8:=dB.ah B q;have b9:=c8.bg;have f2:=q.size;refine⟨λw'=>∃e h,e<=l2.length/\cO w' p h d every (l2.take e)/\bL F w h w',⟨p,0,rfl,_,_,_,ae b9 rfl,an.dec (λN=>?_) (λa5=>?_)⟩,?_⟩
 ·refine PC.ok (Me (X.ah q) V (J.then q) K c6) ?_
  rintro _ f3 ⟨rfl,h,R,a9⟩;have b0:i/every*every<=i:=Nat.div_mul_le_self ..;refine⟨rfl,_,h,Xx b0 c7,?_,(ai.af q).then a9.af,λP f=>(a9.new P f).imp id oM⟩;have:l.take (i/every*every)=l2.take (i/every*every):=by
   have:=Zj (List.take (i/every*every)) m
   rwa [List.take_take,List.take_take,X2 b0]at this
  rw[<-this];exact R
 ·have c9:i=l.length:=oM
  refine⟨l.length,F,oM,?_,ai.af q,λP f=>.inl f⟩;rw[c9,List.take_length]at m;rw[<-m];exact X.ah q
 rintro _ f5 ⟨e,F1,hm,b1,a2⟩;have c0:=b1;obtain⟨-,q1,f4,f6,b4⟩:=b1;have a3:=aO.len (b4.at' 2) dC;rw[Qy,X2 hm]at a3;have f7:=a2.af.size;refine⟨p,0,rfl,_,_,_,ae b4.bg rfl,oM,oM,?_⟩;rw[Qx,a3];refine⟨λA s w'=>∃(n:Nat) (h:XN),s=n/\n<=a-e/\A=a-e-n/\cO w' p h d every (l2.take (e+n))/\bL F w h w',⟨_,0,F1,rfl,Qj _,rfl,c0,a2⟩,?_⟩;rintro A _ _ b5 ⟨n,S,rfl,hj,rfl,T,r⟩;refine an.dec (λN=>?_) (λa5=>?_)
 ·have d0:e+n<l2.length:=oM
  have k:l2[e+n]? =some l2[e+n]:=Qq d0;generalize l2[e+n]=g at k;have d1:=M.af r.af λP f=>(z P f).2;obtain⟨P,o,es,O,c2,c3,H,u,v,x,rfl,a7,a1⟩:=d1.el (e+n) g k;have d2:cH L e c 10=some ⟨P,o+e*10,none⟩:=by rw[O];exact fv oM
  have f8:=r.af.size;refine⟨P,o+e*10,d2,oM,oM,bw (es:=aC g u v x) (k:=10) (aV g u v x) rfl (λs ht=>by rw[Qx];have:=H s ht;rw[show o+e*10+n*10+s=o+(e+n)*jo.k+s by show _=o+(e+n)*10+s;omega];exact this) (PA.mk λg1 d3 g2 d4=>az (aV g u v x) d4 rfl λb8 d5 g3 d6=>ar (aV g u v x) d6 ?_)⟩;have I:ai b5 b8:=d3.new d5 λP f=>.inr (by have f:P=b5.heap.size:=f;omega);have a8:bL F w S b8:=⟨r.af.ah I,r.new⟩
  have d7:∀P,D P->¬S P:=λP f hf=>by
   rcases r.new P hf with y|y
   ·exact(z P f).2 y
   ·have:=(z P f).1;omega
  refine PC.ok (Oe (T.ah I) V (J.new a8.af λP f=>.inr (K P f)) (λP f=>?_) (by rw[Qy];omega) (a7.ah I) (λP f=>⟨by have:=(z P f).1;have:=I.size;omega,d7 P f⟩) a1) ?_
  ·rcases r.new P f with y|y
   ·exact K P y
   ·have:=J.size;omega
  rintro _ g4 ⟨rfl,F3,d8,d9⟩;refine⟨rfl,_,?_,n+1,F3,aq oM,oM,rfl,?_,a8.trans d9⟩
  ·omega
  ·rw[show e+(n+1)=e+n+1 by omega,Qw,k];exact d8
 ·rw[Qz oM]at T
  exact Ok.mk ⟨_,rfl,S,T,r⟩
end
section
variable {w w':World} {p:Nat} {F T D:XN} {d:aM} {every:Nat} {l l2:List aj}
def Og{d:aM}{ta pa:ZH}{tn tc pn pc:Nat}{ev:Int}(m:cN d=0)(g9:aH ev)(hT:eD w)(o:bb w D d ta tn pa pn)(hD:∀n,D n->n<w.heap.size):
  ZG 72 #[.agg #[.slice ta tn tc,.slice pa pn pc],XH ev] w (Ok λe3 w'=>∃p F,e3= XL p/\cO w' p F d (max 1 ev).toNat []/\(∀n,F n->w.heap.size<=n)/\ai w w'):=by
 have h0:=o.aS.len;have X:=o.aS.dP;have h3:=o.Ed.len;have h4:=o.Ed.dP;have e6:d.projs.length<=8:=(zi (my m).1).2.2.1;obtain⟨every,e7⟩:∃every:Nat,every=(max 1 ev).toNat:=⟨_,rfl⟩
 have e8:(if ev>1 then ev else 1)=(every:Int):=by split<;>omega
 have c0:0<every/\every<9223372036854775808:=by unfold aH at g9;omega
 rw[<-e7];refine Ef ?_;refine PA.mk λw1 k1 s1 g1=>⟨_,_,_,ae g1 rfl,PC.ok (pt (o.Ed.ah k1) λn B=>by have:=hD n B;omega) ?_⟩
 rintro _ P ⟨h,f,v,x,rfl,Y,k8,h5⟩;have z8:=k8.size;refine⟨_,_,_,rfl,PA.mk λc1 Z k9 d8=>?_⟩;rw[e8]at d8;have e9:ai w c1:=(k1.then k8).then Z;have ga:=Z.get (k8.get g1 id) id;have l0:=Z.size;refine⟨_,_,_,ae ga rfl,λq I w'=>∃a:Nat,I=a/\a<=tn/\q=tn-a/\ak (·=P.heap.size) c1 w'/\∃r s J j,w'.heap[P.heap.size]? =some (.cells #[.slice r s J,.slice h f v,XH (every:Int),.slice none 0 0,.pointer none,.slice none 0 0,.slice none 0 0] 202 (0,0))/\aO mB 118 j w' r s J (d.types.take a)/\∀n,j n->c1.heap.size<=n,
  ⟨_,0,rfl,Qj _,rfl,ak.refl _,none,0,0,λ_=>False,d8,aO.nil _,λ_ o=>o.elim⟩,?_⟩
 rintro q _ _ y ⟨a,rfl,hj,rfl,kk,r,s,J,j,K,t,L⟩;have a7:ai w y:=e9.new kk λn B=>.inr oM;have zk:=kk.size;refine an.dec (λl4=>?_) (λl5=>?_)
 ·have e0:a<d.types.length:=oM
  obtain⟨n,a4,es,ha,B,h6,f0,fa,fn,fc,rfl,a8⟩:=(o.aS.ah a7).el a d.types[a] (by simp[e0]);have e1:d.types[a]? =some d.types[a]:=Qq e0;generalize d.types[a]=a0 at a8 e1;have c2:=f0 0 dC;have h7:mB.k=1:=rfl;rw[h7,Nat.mul_one]at c2;refine⟨n,a4,ha,oM,oM,fa,fn,fc,by rw[Qx];exact c2,PA.mk λl6 h8 l7 h9=>PS.mk h9 sM λe2 i0 l8 i1=>⟨_,_,_,ae i1 rfl,?_⟩⟩;have a1:ai y e2:=h8.new i0 λn B=>.inr oM;have f1:=a7.then a1;obtain⟨C,l1,l2,l3⟩:=eh.boxes (N:=IS) a8;have c4:=a8.dP;refine PC.ok (pw (l2.ah a1) λn B=>by have:=hD n B;have:=f1.size;omega) ?_;rintro _ e4 ⟨a9,M,f2,F9,rfl,b0,e5,i2⟩;have l9:=a1.size;have m0:=e5.size;have a2:∀n,aF a9=some n->e2.heap.size<=n:=λn B=>i2 n (b0.self n B);have f4:∀n,aF a9=some n->n<e4.heap.size:=λn B=>b0.aB n (b0.self n B);refine⟨_,_,_,rfl,λq I w'=>∃a:Nat,I=a/\a<=M/\q=M-a/\dq IS 121 e4 a9 M f2 C a w',⟨_,0,rfl,Qj _,rfl,dq.start b0.alone⟩,?_⟩;rintro q _ _ i3 ⟨c,rfl,g,rfl,z⟩;have m1:=z.len;have m2:C.length=a0.length:=by rw[<-l1];simp
  have i4:=a8.len;have N:ai y i3:=(a1.then e5).new z.af λn B=>.inr (by have:=a2 n B;omega);have m3:=z.af.size;refine an.dec (λf6=>?_) (λf7=>?_)
  ·obtain⟨a3,rfl⟩:=z.some oM
   have f9:=f4 a3 rfl;have a5:C[c]? =some C[c]:=Qq oM;have O:=l3 C[c] (XY oM);generalize C[c]=bx at a5 O;refine⟨a3,0,rfl,oM,oM,_,_,_,z.cell rfl a5 (by show M*4<=aK;unfold aK at c4⊢;omega) 3 _ rfl,PC.ok (sC (O.1.ah N) λn B=>by have:=hD n B;have:=(a7.then N).size;omega) ?_⟩;rintro _ m4 ⟨m5,m6,m7,G,rfl,c3,i5,i⟩;refine⟨_,_,_,rfl,a3,0,rfl,oM,oM,?_⟩;refine(z.ah i5).step (g:=a3) rfl a5 (c3.row (bytes:=32) dC ?_) O.2 (λu E=>⟨by have:=i u E;omega,c3.aB u E⟩) f9 λm8 g3 m9 n0=>⟨_,?_,c+1,aq (by unfold aK at c4;omega),oM,rfl,g3⟩
   ·have e:=O.1.dP
    have l:=O.1.len;show bx.x.bl.length*32<=aK;have n1:bx.n=bx.x.bl.length:=l;have n2:bx.n*32<=aK:=e;omega
   ·omega
  ·obtain rfl:c=M:=oM
   obtain⟨Fd,m,c6⟩:=z.done;rw[l1,Gr]at m;have c5:=N.get K id;refine⟨P.heap.size,0,rfl,_,_,_,ae c5 rfl,Mg (c:=mB) (x:=a0) (t.ah N) Oh (D:=Fd) ⟨_,_,_,rfl,m.row dC (by rw[<-i4];exact c4)⟩ (λn B=>⟨m.aB n B,λb=>?_⟩) ?_ ?_ λa' Q n3 F' g6 c7 f3 n4=>⟨_,_,_,rfl,P.heap.size,0,rfl,?_⟩⟩
   ·have e:=t.aB n (t.self n b)
    rcases c6 n B with l|l
    ·have:=a2 n l;omega
    ·omega
   ·have:=List.length_take_le a d.types;unfold aK at X⊢;omega
   ·have:=List.length_take_le a d.types;unfold aK at X;unfold maxLen;omega
   ·have i6:¬aF r=some P.heap.size:=λb=>by have:=L _ (t.self _ b);omega
    have i7:=c7.get c5 i6;have n5:=c7.size;refine PS.mk i7 sM λn6 f5 n7 i8=>⟨_,?_,a+1,aq (by unfold aK at X;omega),oM,rfl,?_,a',s+1,Q,F',i8,?_,?_⟩
    ·omega
    ·exact((kk.ah N).new c7 λn B=>.inr (L _ (t.self n B))).then f5
    ·rw[Qw,e1]
     refine g6.af f5 λn B b=>?_;rcases f3 n B with e|e|e
     ·have:=L n e;omega
     ·rcases c6 n e with l|l
      ·have:=a2 n l;omega
      ·omega
     ·omega
    ·intro n B
     rcases f3 n B with e|e|e
     ·exact L n e
     ·rcases c6 n e with l|l
      ·have:=a2 n l;omega
      ·omega
     ·omega
 ·obtain rfl:a=tn:=oM
  rw[Qz oM]at t;have h1:=(Y.ah Z).af kk λn B b=>by have:=Y.aB n B;omega
  have n8:P.heap.size<y.heap.size:=ax K;have f8:bb y (λn=>j n\/x n) d r s h f:=⟨(t.row (bytes:=24) dC (by rw[<-h0];exact X)).mono λn B=>.inl B,(h1.row (bytes:=40) dC (by rw[<-h3];exact h4)).mono λn B=>.inr B⟩
  have A:∀n,j n\/x n->w.heap.size<=n/\n<y.heap.size/\n≠P.heap.size:=λn B=>by
   rcases B with B|B
   ·have:=L n B;have:=t.aB n B;omega
   ·have:=h5 n B;have:=Y.aB n B;omega
  refine⟨P.heap.size,0,rfl,_,_,_,_,_,_,ae K rfl,ae K rfl,PC.ok (Gs m f8 λn B=>(A n B).2.1) ?_⟩;rintro _ i9 ⟨vp,R,rfl,hv,b1,b2⟩;have o0:=b2.size;have g0:=hv.aB;refine⟨_,rfl,P.heap.size,0,rfl,PS.mk (b2.get K id) sM λS c8 o1 g2=>⟨P.heap.size,0,rfl,_,_,_,ae g2 rfl,?_⟩⟩;have n9:=Y.len dC;have c9:bb S (λn=>j n\/x n) d r s h f:=(f8.ah b2).af c8 λn B b=>(A n B).2.2 b;have h2:b_ S vp R (aU.new d):=hv.af c8 λn B b=>by have b:n=P.heap.size:=b;have:=b1 n B;omega
  refine⟨λq I w'=>∃(a:Nat) (ra:ZH) (T rc:Nat) (G:XN),I=a/\a<=f/\q=f-a/\ak (·=P.heap.size) S w'/\w'.heap[P.heap.size]? =some (.cells #[.slice r s J,.slice h f v,XH (every:Int),.slice none 0 0,XL vp,.slice ra T rc,.slice none 0 0] 202 (0,0))/\
   cd w' G ra T rc ((d.projs.take a).map λp=>(⟨p,[]⟩:dd))/\∀n,G n->S.heap.size<=n/\n<w'.heap.size,⟨_,0,none,0,0,λ_=>False,rfl,Qj _,rfl,ak.refl _,g2,cd.nil _,λn B=>B.elim⟩,?_⟩
  rintro q _ _ b3 ⟨c,ra,T,rc,G,rfl,g,rfl,H,d0,b4,i⟩;have o2:=H.size;refine an.dec (λf6=>?_) (λf7=>?_)
  ·have j0:c<d.projs.length:=oM
   have E:d.projs[c]? =some d.projs[c]:=Qq j0;generalize d.projs[c]=u at E;obtain⟨n,a4,es,a6,d5,h6,b5,rfl,d6⟩:=(c9.af H λn B b=>(A n B).2.2 b).Ed.el c u E;refine⟨n,a4,a6,oM,oM,bw (es:=nw u) (k:=5) (ph u) rfl (λa0 ht=>by rw[Qx];exact b5 a0 ht) (PA.mk λo3 j1 o4 j2=>az (ph u) j2 rfl λo5 j3 o6 j4=>λj5 g4=>⟨λ_=>False,P.heap.size,0,rfl,id,?_⟩)⟩;have d1:ai b3 j5:=(j1.new j3 λn B=>.inr (by have B:n=b3.heap.size:=B;omega)).then g4.af;refine⟨_,_,_,ae (d1.get d0 id) rfl,ar (ph u) ((g4.af (S:=λ_=>False)).get j4 id) (PC.ok Oi ?_)⟩;rintro _ o7 ⟨p',r',rfl,d2,o8,o9,p0,p1,d3⟩;have j6:p'≠r':=λb=>by
    obtain⟨es,cl,hm,-⟩:=d2.map.at';have:=d2.at';rw[b,hm]at this;cases this
   have p2:=d3.size;have p3:=d1.size;refine⟨_,rfl,d3,PA.mk λp4 d4 p5 j7=>⟨d4,?_⟩⟩;have b6:=(d1.then d3).then d4;have j8:=b4.len;rw[Q8,Qy,X2 oM]at j8;refine(b4.ah b6).push (λn B=>by have:=(i n B).2;omega) (d2.ah d4) (λB=>by have:=(i _ B).2;omega) (λB=>by have:=(i _ B).2;omega) j6 Oa j7 (by rw[Q8,Qy];omega) λj9 k0 p6 G3 k2 g5 k3 k4=>⟨_,_,_,rfl,P.heap.size,0,rfl,?_⟩
   have k5:=g5.get (b6.get d0 id) λB=>by have:=(i _ B).1;omega
   have d7:∀n,G3 n->S.heap.size<=n:=λn B=>by
    rcases k3 n B with e|e|e|e
    ·exact(i n e).1
    ·omega
    ·omega
    ·omega
   refine PS.mk k5 sM λp7 g7 p8 k6=>⟨_,?_,c+1,j9,T+1,k0,G3,aq oM,oM,rfl,((H.ah b6).new g5 λn B=>.inr (i n B).1).then g7,k6,?_,λn B=>⟨d7 n B,by have:=k4 n B;omega⟩⟩
   ·omega
   ·rw[Qw,E,Q3]
    exact k2.af g7 λn B b=>by have b:n=P.heap.size:=b;have:=d7 n B;omega
  ·rw[Qz oM]at b4
   have k7:∃U,dB b3 (λn=>∃k,(match k with|0=>n=P.heap.size|1=>j n\/x n|3=>R n|4=>G n|_=>False:Prop)) U P.heap.size ⟨r,s,J,h,f,v,every,none,0,0,vp,ra,T,rc,none,0,0⟩ d (cm d []) (dG d []).rows [] []:=by
    refine aT.join (G:=λk n=>match k with|0=>n=P.heap.size|1=>j n\/x n|3=>R n|4=>G n|_=>False) (λk=>?_) (λc a n g hj=>?_) λk n B=>?_
    ·match k with
     |0=>exact⟨rfl,d0⟩
     |1=>exact c9.af H λn B b=>(A n B).2.2 b
     |2=>exact aO.nil _
     |3=>exact h2.af H λn B b=>by have b:n=P.heap.size:=b;have:=b1 n B;omega
     |4=>exact b4
     |5=>exact aO.nil _
     |k+6=>trivial
    ·have V:∀c:Nat,(match c with|0=>n=P.heap.size|1=>j n\/x n|3=>R n|4=>G n|_=>False:Prop)->c=(if n=P.heap.size then 0 else if n<y.heap.size then 1 else if n<i9.heap.size then 3 else 4):=λc g=>by
      rcases c with _|_|_|_|_|c
      ·have g:n=P.heap.size:=g
       rw[Zx g]
      ·have:=A n g;rw[Zq oM,Zx oM]
      ·exact g.elim
      ·have:=b1 n g;have:=g0 n g;rw[Zq oM,Zq oM,Zx oM]
      ·have:=i n g;rw[Zq oM,Zq oM,Zq oM]
      ·exact g.elim
     rw[V c g,<-V a hj]
    ·rcases k with _|_|_|_|_|k
     ·have B:n=P.heap.size:=B
      omega
     ·have:=A n B;omega
     ·exact B.elim
     ·have:=g0 n B;omega
     ·have:=i n B;omega
     ·exact B.elim
   obtain⟨U,hq⟩:=k7;have b7:ai w b3:=(((a7.then b2).new c8 λn B=>.inr (by have B:n=P.heap.size:=B;omega)).new H λn B=>.inr (by have B:n=P.heap.size:=B;omega))
   have g8:∀n,(∃k,(match k with|0=>n=P.heap.size|1=>j n\/x n|3=>R n|4=>G n|_=>False:Prop))->w.heap.size<=n:=λn ⟨k,B⟩=>by
    rcases k with _|_|_|_|_|k
    ·have B:n=P.heap.size:=B
     omega
    ·exact(A n B).1
    ·exact B.elim
    ·have:=b1 n B;omega
    ·have:=i n B;omega
    ·exact B.elim
   refine PC.ok (CH hq m (hT.ah b7) sM (by rw[pk];exact e6) sM sM) ?_;rintro _ p9 ⟨rfl,q',F',W,b8,b9,d9⟩;refine⟨rfl,Ok.mk ⟨P.heap.size,F',rfl,⟨⟨m,c0.1,c0.2,sM⟩,q',W,b9,?_⟩,λn B=>?_,b7.new d9.af λn B=>.inr (g8 n B)⟩⟩
   ·rw[Oj];simpa using b8
   ·rcases d9.new n B with e|e
    ·exact g8 n e
    ·have:=b7.size;omega
end
def KZ(e:aM)(P:List aj):∀n∈(dG e P).rows,n.rows.length<=P.length:=by
 have:∀(P:List aj) (a:jE) (b:Nat),(∀n∈a.rows,n.rows.length<=b)->∀n∈(P.foldl jE.add a).rows,n.rows.length<=b+P.length:=by
  intro P
  induction P with
  |nil=>intro a b f n c;exact f n c
  |cons d P k=>
   intro a b f n c;have:=k (a.add d) (b+1) (λg h=>?_) n c
   ·simp only[Xq];omega
   ·obtain⟨i,j,rfl⟩:=Xk.1 (show g∈a.rows.map λn=>n.add (a.view.add d).1 (rU ((a.view.add d).2.state d.aS d.agg) n.p)from h)
    have m:=f i j;unfold dd.add;dsimp only;split
    ·omega
    ·split
     ·omega
     ·exact Xx (wW ..) oM
 intro n c;have:=this P (jE.new e) 0 (λg h=>by
  obtain⟨i,j,rfl⟩:=Xk.1 (show g∈e.projs.map λl=>(⟨l,[]⟩:dd)from h);exact Q4 0) n c
 omega
def iw(P:aM)(a:List aj)(n:Int):List dh:=if n<0 then []else match(dG P a).rows[n.toNat]? with
 |none=>[]
 |some b=>b.list
section
variable {w w':World} {p:Nat} {F T D:XN} {d:aM} {every:Nat} {l:List aj}
def IT(q:cO w p F d every l):
  ZG 402 #[XL p,XH e,XH r] w (Ok λs w'=>∃a b c G,s= .tuple #[.agg #[XH (((cm d l).state e r).getD Gf).version,.slice a b c],.bool ((cm d l).state e r).isSome]/\aO et 78 G w' a b c (((cm d l).state e r).getD Gf).cells/\(∀n,G n->w.heap.size<=n)/\ai w w'):=by
 obtain⟨y,z,t,rfl,h⟩:=q;refine rf (PA.mk λA f B u=>⟨p,0,rfl,_,ae (dB.ah h f).bg rfl,PC.ok (nu ((dB.ah h f).at' 3)) ?_⟩);rintro _ C ⟨a,b,c,G,rfl,v,i,g⟩;have E:=g.size;refine⟨_,_,_,_,_,rfl,PS.mk (g.get u id) sM λH j I x=>PS.mk x sM λJ k K m=>⟨_,_,_,_,ae m rfl,ae m rfl,Ok.mk ⟨a,b,c,G,rfl,?_,λn P=>?_,?_⟩⟩⟩
 ·exact v.af (j.then k) λn P o=>by have o:n=w.heap.size:=o;have:=i n P;omega
 ·have:=i n P;omega
 ·exact(f.then g).new (j.then k) λn P=>.inr (by have P:n=w.heap.size:=P;omega)
def Eg(P:cO w p F d every l):ZG 400 #[XL p] w (Ok (px vB 133 w (cm d l).entries)):=by
 obtain⟨a,h,b,rfl,n⟩:=P;refine oG ⟨p,0,rfl,_,ae n.bg rfl,PC.ok (Eh (n.at' 3) (vA d l a.2.2.2).1) ?_⟩;rintro _ i ⟨c,e,f,G,rfl,g⟩;exact⟨_,_,_,rfl,Ok.mk ⟨c,e,f,G,rfl,g⟩⟩
def Mh(i:cO w p F d every l):ZG 401 #[XL p,XH e] w (Ok λj w'=>px Gh 135 w (iw d l e) j w'/\tJ (iw d l e)):=by
 obtain⟨k,B,m,rfl,P⟩:=i;have C:=cd.len (P.at' 4);refine sD (an.dec (λf=>Ok.mk ⟨⟨none,0,0,λ_=>False,rfl,?_,ak.refl _,λo a=>a.elim⟩,?_⟩) (λb=>⟨p,0,rfl,_,_,_,ae P.bg rfl,an.dec (λq=>Ok.mk ⟨⟨none,0,0,λ_=>False,rfl,?_,ak.refl _,λo a=>a.elim⟩,?_⟩) (λq=>?_)⟩))
 ·unfold iw;rw[Zx f];exact aO.nil _
 ·unfold iw;rw[Zx f];exact List.Pairwise.nil
 ·unfold iw;rw[Zq b,Q7 oM];exact aO.nil _
 ·unfold iw;rw[Zq b,Q7 oM];exact List.Pairwise.nil
 ·obtain⟨n,rfl⟩:∃n:Nat,e=n:=⟨e.toNat,oM⟩
  have c:(dG d l).rows[n]? =some (dG d l).rows[n]:=Qq oM;have g:(dG d l).rows[n]∈(dG d l).rows:=XY oM;have r:iw d l (n:Int)=(dG d l).rows[n].list:=by unfold iw;rw[Zq b,Qx,c]
  rw[r];generalize(dG d l).rows[n]=s at c g;obtain⟨t,E,H,u,v,h,-⟩:=cd.elem (P.at' 4) c;refine⟨p,0,rfl,_,_,_,ae P.bg rfl,t,0,u,oM,oM,_,by rw[Qx];exact v,PC.ok (Mi h (Xx (KZ d l s g) k.2.2.2)) ?_⟩;rintro _ I ⟨x,y,z,G,rfl,A⟩;exact⟨_,_,_,rfl,Ok.mk ⟨⟨x,y,z,G,rfl,A⟩,h.Us⟩⟩
end
structure aw.Cl (S:aw):Prop where
 ok:S.OK
 lI:∀e∈S.l,∀o,o<S.n->S.lI e o=true
 le:∀e∈S.l,e.seq<=(S.Es e.origin.toNat:Int)
 has:∀(o:Nat) (s:Int),o<S.n->1<=s->s<=(S.Es o:Int)->∃e∈S.l,aW e=((o:Int),s)
def zJ:F.lI o a=true↔o.aP.getD a 0=0\/∃n,F.get ((a:Int),o.aP.getD a 0)=some n/\n.ay<o.ay/\∀P,P<n.aP.length->n.aP.getD P 0<=o.aP.getD P 0:=by
 unfold aw.lI;generalize o.aP.getD a 0=b;dsimp only
 cases c:F.get ((a:Int),b)with
 |none=>simp
 |some n=>simp
def aw.Cl.new(n:a<=64):aw.Cl ⟨a,[]⟩:=⟨aw.sE n,sM,sM,λb c _ d P=>by simp[aw.Es]at P;omega⟩
def aw.Rl(n:aw.OK ⟨F.n,c_ o F.l⟩)(P:F.get d4=some O):aw.get ⟨F.n,c_ o F.l⟩ d4=some O:=by
 obtain⟨a,rfl⟩:=aw.get_some P;exact n.get ((cU o F.l).mem_iff.2 (QJ _ a))
def aw.iI(n:aw)(P:aj):((n.add P).1≠0/\(n.add P).2=n)\/(n.add P=(0,⟨n.n,c_ P n.l⟩)/\cK P n.n=0/\n.get (aW P)=none/\P.seq=n.vec.getD P.origin.toNat 0+1/\∀a,a<n.n->n.lI P a=true):=by
 rw[aw.add_def];split
 ·rename_i b;exact .inl ⟨b,rfl⟩
 rename_i c;split
 ·exact .inl ⟨sM,rfl⟩
 rename_i d;split
 ·exact .inl ⟨sM,rfl⟩
 rename_i e;split
 ·exact .inl ⟨sM,rfl⟩
 rename_i f;refine .inr ⟨rfl,by simpa using c,by simpa using d,by simpa using e,?_⟩;simpa[List.any_eq_false]using f
def aw.Rm{S:aw}(P:cK o S.n=0)(a:S.get (aW o)=none)(b:o.seq=S.vec.getD o.origin.toNat 0+1)(c:∀n,n<S.n->S.lI o n=true):S.add o=(0,⟨S.n,c_ o S.l⟩):=by
 rw[aw.add_def,Zq (by simpa using P),Zq (by simp[a]),Zq (by simpa using b),Zq];simpa[List.any_eq_false]using c
def aw.Cl.add{b:aw}(g:b.Cl){a:aj}(q:a.Ok):(b.add a).2.Cl:=by
 have k:=(aw.zo g.ok q).1;rcases b.iI a with⟨-,f⟩|⟨h,r,y,s,t⟩
 ·rw[f];exact g
 rw[h]at k⊢;simp only at k⊢;obtain⟨z,A,B,-⟩:=qR r;obtain⟨i,l⟩:∃i:Nat,a.origin=i:=⟨a.origin.toNat,oM⟩
 have u:i<b.n:=oM
 rw[l,Qx,b.tP u]at s;have c:∀n,n∈c_ a b.l↔n=a\/n∈b.l:=λn=>by rw[(cU a b.l).mem_iff,Q2]
 have d:∀n e,b.lI n e=true->aw.lI ⟨b.n,c_ a b.l⟩ n e=true:=λn e P=>by
  rw[zJ]at P⊢;rcases P with P|⟨v,h,f⟩
  ·exact .inl P
  ·exact .inr ⟨v,aw.Rl k h,f⟩
 refine⟨k,λn P e j=>?_,λn P=>?_,λe m j h f=>?_⟩
 ·rcases(c n).1 P with rfl|P
  ·exact d _ _ (t e j)
  ·exact d _ _ (g.lI n P e j)
 ·rw[aw.Et]
  rcases(c n).1 P with rfl|P
  ·rw[l,Qx,Zx rfl];omega
  ·have:=g.le n P
   split<;>omega
 ·rw[aw.Et]at f
  by_cases p:a.origin=(e:Int)
  ·rw[Zx p]at f
   have w:i=e:=oM
   subst w
   by_cases x:m=a.seq
   ·exact⟨a,(c a).2 (.inl rfl),by simp[aW,l,x]⟩
   ·obtain⟨n,P,o⟩:=g.has i m j h oM
    exact⟨n,(c n).2 (.inr P),o⟩
  ·rw[Zq p]at f
   obtain⟨n,P,o⟩:=g.has e m j h oM;exact⟨n,(c n).2 (.inr P),o⟩
def aw.Sz(n:aw)(P:aj):(n.add P).2.n=n.n:=by
 rcases n.iI P with⟨-,a⟩|⟨b,-⟩
 ·rw[a]
 ·rw[b]
def aw.yO(n:aw)(P:aj):(n.add P).2.l.length<=n.l.length+1:=by
 rcases n.iI P with⟨-,a⟩|⟨b,-⟩
 ·rw[a];omega
 ·rw[b];show(c_ P n.l).length<=_;rw[(cU P n.l).length_eq];simp
def aw.qQ(n:aw)(P:List aj)(a:aj):n.fw (P++[a])=((n.fw P).add a).2:=by unfold aw.fw;rw[List.foldl_append];rfl
def aw.OB(n:aw)(P a:List aj):n.fw (P++a)=(n.fw P).fw a:=by unfold aw.fw;rw[List.foldl_append]
def aw.Cl.fw:∀{l:List aj} {S:aw},S.Cl->(∀e∈l,e.Ok)->(S.fw l).Cl
 |[],S,n,_=>n
 |e::l,S,n,P=>aw.Cl.fw (l:=l) (S:=(S.add e).2) (n.add (P e (QV ..))) λa b=>P a (QJ _ b)
def aw.OC:∀(P:List aj) (n:aw),(n.fw P).n=n.n
 |[],n=>rfl
 |e::P,n=>(aw.OC P _).trans (n.Sz e)
def aw.mG:∀(P:List aj) (n:aw),(n.fw P).l.length<=n.l.length+P.length
 |[],n=>by simp[aw.fw]
 |e::P,n=>by
  have a:=aw.mG P (n.add e).2;have b:=n.yO e;show((n.add e).2.fw P).l.length<=_;simp only[Xq];omega
def sK{P:aj}:∀{n:List aj},(∀x∈n,dS P x=false)->c_ P n=n++[P]
 |[],_=>rfl
 |x::n,a=>by
  unfold c_;rw[Zq (by rw[a x (QV ..)];simp),sK λb c=>a b (QJ _ c)];rfl
def aw.Cl.take{n:aw}(g:n.Cl):∀{k:Nat},k<=n.l.length->(⟨n.n,[]⟩:aw).fw (n.l.take k)=⟨n.n,n.l.take k⟩/\aw.Cl ⟨n.n,n.l.take k⟩
 |0,_=>⟨rfl,by simpa using aw.Cl.new g.ok.n⟩
 |k+1,U=>by
  obtain⟨I,l⟩:=aw.Cl.take g (k:=k) oM;have f:n.l[k]? =some n.l[k]:=Qq oM;have m:n.l[k]∈n.l:=XY oM;generalize n.l[k]=P at f m;have w:n.l=n.l.take k++P::n.l.drop (k+1):=by
   conv=>lhs;rw[<-ZX k n.l]
   congr 1
   rw[X4 oM]
   congr 1
   have:=Qq (l:=n.l) (i:=k) oM;rw[f]at this;exact(XJ this).symm
  have q:=g.ok.Oo;have h:=g.ok.ids;rw[w]at q h;have e:∀a∈n.l,dS a P=true->a∈n.l.take k:=λa c o=>by
   rw[w]at c;rcases Q6.1 c with c|c
   ·exact c
   rcases Q2.1 c with rfl|c
   ·rw[iX]at o;omega
   ·have J:=(List.pairwise_append.1 q).2.1
    have r:=(List.pairwise_cons.1 J).1 a c;rw[mI r]at o;cases o
  have b:∀a∈n.l.take k,dS a P=true:=λa c=>(List.pairwise_append.1 q).2.2 a c P (QV ..);have x:aw.get ⟨n.n,n.l.take k⟩ (aW P)=none:=by
   cases K:aw.get ⟨n.n,n.l.take k⟩ (aW P)with
   |none=>rfl
   |some a=>
    obtain⟨i,j⟩:=aw.get_some K;rw[Q3,QY,List.nodup_append]at h;exact Zz j (h.2.2 (aW a) (Xk.2 ⟨a,i,rfl⟩) (aW P) (QV ..))
  have y:=g.ok.VK P m;obtain⟨V,W,L,X,-,-,Y,-,z,-⟩:=qR y;obtain⟨d,s⟩:∃d:Nat,P.origin=d:=⟨P.origin.toNat,oM⟩
  have t:d<n.n:=oM
  have A:∀p,p<n.n->aw.lI ⟨n.n,n.l.take k⟩ P p=true:=λp M=>by
   have:=g.lI P m p M;rw[zJ]at this⊢;rcases this with B|⟨a,u,C,N⟩
   ·exact .inl B
   ·obtain⟨i,j⟩:=aw.get_some u
    refine .inr ⟨a,?_,C,N⟩;rw[<-j];exact l.ok.get (e a i (by rw[iX];exact .inl C))
  have E:=g.ok.ok P m;have Q:P.seq=(aw.vec ⟨n.n,n.l.take k⟩).getD P.origin.toNat 0+1:=by
   rw[s,Qx,aw.tP (S:=⟨n.n,n.l.take k⟩) t];have Z:(aw.Es ⟨n.n,n.l.take k⟩ d:Int)+1<=P.seq:=by
    rcases Int.lt_or_le (aw.Es ⟨n.n,n.l.take k⟩ d:Int) P.seq with o|O
    ·omega
    ·obtain⟨a,R,S⟩:=l.has d P.seq t L O
     have:=aw.get_none x a R;exact Zz (S.trans (by simp[aW,s])) this
   have O:P.seq<=(aw.Es ⟨n.n,n.l.take k⟩ d:Int)+1:=by
    have T:oK (P.seq-1)=P.seq-1:=by
     have:=E.seq;exact wrap_i64 (by unfold aH at*;omega)
    rw[T,s,Qx]at z;have:=A d t;rw[zJ,z]at this;rcases this with B|⟨a,u,-⟩
    ·omega
    ·obtain⟨i,j⟩:=aw.get_some u
     have r:=l.le a i;have F:a.origin=d/\a.seq=P.seq-1:=by
      have:=j;simp only[aW,Prod.mk.injEq]at this;exact this
     rw[F.1,F.2,Qx]at r;omega
   show P.seq=(aw.Es ⟨n.n,n.l.take k⟩ d:Int)+1;omega
  have H:=aw.Rm (S:=⟨n.n,n.l.take k⟩) y x Q A;have a0:c_ P (n.l.take k)=n.l.take (k+1):=by
   rw[sK λa f=>mI (b a f),Qw,f];rfl
  rw[show n.l.take (k+1)=n.l.take k++[P] by rw[Qw,f];rfl,aw.qQ,I,H];have v:=l.add E;rw[H]at v;rw[show c_ P (n.l.take k)=n.l.take k++[P]from sK λa f=>mI (b a f)]at v⊢;exact⟨rfl,v⟩
def aw.Cl.Uu(n:F.Cl):(⟨F.n,[]⟩:aw).fw F.l=F:=by
 have:=(n.take (Q4 _)).1;rw[List.take_length]at this;exact this
def CM{n:aj}:∀{l:List aj},(∀x∈l,aW x≠aW n)->c_ n l=l.take (posOf (λx=>dS x n) l)++n::l.drop (posOf (λx=>dS x n) l)
 |[],_=>rfl
 |x::l,a=>by
  have b:=a x (QV ..);unfold c_ posOf;rw[List.takeWhile_cons]
  by_cases P:dS x n=true
  ·rw[Zx P,Zq (by rw[mI P];simp)]
   have:=CM (l:=l) λc d=>a c (QJ _ d);rw[this];simp[posOf]
  ·rw[Zq P,Zx ((Em b).resolve_left P)]
   rfl
structure pB (most:Nat) (l:List aj):Prop where
 Oo:Ti l
 ids:(l.map aW).Nodup
 ok:∀e∈l,e.Ok
 le:l.length<=most
def pB.nil(n:Nat):pB n []:=⟨List.Pairwise.nil,sM,sM,Qj _⟩
def pB.add(b:pB a J)(f:o.Ok):pB a (eS a J o).2:=by
 unfold eS;split
 ·exact b
 rename_i d;rw[not_or]at d;have e:∀n∈J,aW n≠aW o:=by
  have:=d.2;simp only[List.any_eq_true,beq_iff_eq,not_exists,not_and]at this;exact this
 have c:=cU o J;refine⟨vE b.Oo e,?_,λn P=>?_,by rw[c.length_eq,Xq];omega⟩
 ·refine(c.map aW).nodup_iff.2 ?_
  rw[QY,List.nodup_cons];exact⟨λg=>by obtain⟨n,P,h⟩:=Xk.1 g;exact e n P h,b.ids⟩
 ·rcases Q2.1 (c.mem_iff.1 P)with rfl|P
  ·exact f
  ·exact b.ok n P
def pB.sub(n:pB a J)(P:e0.Sublist J):pB a e0:=
 ⟨n.Oo.sublist P,n.ids.sublist (P.map aW),λb c=>n.ok b (P.subset c),Xx P.length_le n.le⟩
def rW{P:aw}:∀{n:List aj},(∀e∈n,(P.add e).1≠0)->eF P n=none
 |[],_=>rfl
 |e::n,a=>by
  unfold eF;rw[Zq (a e (QV ..)),rW λb c=>a b (QJ _ c)];rfl
def rX{a:aw}:∀{n:List aj} {i:Nat} {e:aj},(∀x∈n.take i,(a.add x).1≠0)->n[i]? =some e->(a.add e).1=0->eF a n=some (e,(a.add e).2,n.eraseIdx i)
 |[],i,e,_,P,_=>by simp at P
 |x::n,0,e,b,P,c=>by
  simp at P;subst P;unfold eF;rw[Zx c];rfl
 |x::n,i+1,e,b,P,c=>by
  unfold eF;rw[Zq (b x sM),rX (i:=i) (e:=e) (λd f=>b d (by simp[f])) (by simpa using P) c]
  rfl
def dw(n:bS)(P:ZH)(a b:Nat)(c:ZH)(d e:Nat):List Value:=[XH n.kind,XH n.bt,XH n.ns,.slice P a b,.slice c d e]
abbrev gQ(n:bS)(P:ZH)(a b:Nat)(c:ZH)(d e:Nat):Value:=.agg (dw n P a b c d e).toArray
def dV(n:bS)(P:ZH)(a b:Nat)(c:ZH)(d e:Nat):gM XP 127 (dw n P a b c d e)=true:=kR
def CQ(n:bS)(P:ZH)(a b:Nat)(c:ZH)(d e:Nat):RP (dv XP 127) (gQ n P a b c d e)=true:=kR
section
variable {w w':World} {D E F:XN} {m:bS} {va ea:ZH} {vn vc en ec N:Nat} {chunk:Int} {p:Nat} {S:aw}
def Ks(b:Row aJ 8 w D va vn m.vec)(i:Row jo 96 w E ea en m.events):ZG 189 #[gQ m va vn vc ea en ec,XH (N:Int)] w (Ok λj w'=>j= XH (gw m N)/\ai w w'):=by
 have u:=b.len;have v:=i.len;have k:=b.dP;refine EI (PA.mk λx c y d=>⟨_,_,_,ae d rfl,an.dec (λl=>Ok.mk ⟨?_,c⟩) (λl=>⟨_,_,_,ae d rfl,an.dF (λo=>Ok.mk ⟨?_,c⟩) (λo=>⟨_,_,_,ae d rfl,λf p w'=>∃n:Nat,p=n/\n<=vn/\f=vn-n/\((m.vec.take n).any λP=>decide (P<0))=false/\ai w w',⟨_,0,rfl,Qj _,rfl,sM,c⟩,?_⟩)⟩)⟩)
 ·unfold gw;rw[Zx oM]
 ·unfold gw;rw[Zq oM,Zx oM]
 rintro f _ _ z ⟨n,rfl,A,rfl,e,a⟩;refine an.dec (λB=>?_) (λC=>Ok.mk ⟨?_,a⟩)
 ·obtain⟨q,r,P,s,g,-,t⟩:=(b.ah a).mr (i:=n) oM
  refine⟨q,r,s,oM,oM,P,t,an.dec (λh=>Ok.mk ⟨?_,a⟩) (λh=>⟨_,oM,n+1,aq (by unfold aK at k;omega),oM,rfl,?_,a⟩)⟩
  ·unfold gw;rw[Zq oM,Zq oM,Zx (List.any_eq_true.2 ⟨P,QZ g,by simpa using h⟩)]
  ·rw[Qw,g,List.any_append,e];simp;omega
 ·rw[Qz oM]at e
  unfold gw;rw[Zq oM,Zq oM,Zq (by rw[e];simp)]
def xA{c:Type}{n:c->Int}:∀{P:List c} {d:Nat} {a:c},(∀y∈P.take d,n y=0)->P[d]? =some a->n a≠0->cj n P=n a
 |y::P,0,a,_,b,e=>by
  simp at b;subst b;unfold cj;rw[Zx (by simpa using e)]
 |y::P,d+1,a,f,b,e=>by
  have g:n y=0:=f y sM;unfold cj
  rw[g];simp only[bne_self_eq_false,Bool.false_eq_true,if_false];exact xA (λh i=>f h (QJ _ i)) (by simpa using b) e
def Bk{P:Type}{a:P->Int}:∀{n:List P},(∀y∈n,a y=0)->cj a n=0
 |[],_=>rfl
 |y::n,b=>by
  unfold cj
  rw[b y (QV ..)];simpa using Bk λc d=>b c (QJ _ d)
def Kt(t:Row aJ 8 w D va vn m.vec)(h:Row jo 96 w E ea en m.events)(u:N<4611686018427387904):ZG 188 #[gQ m va vn vc ea en ec,XH (N:Int),XH chunk] w (Ok λv w'=>v= XH (eR m N chunk)/\ai w w'):=by
 have W:=t.len;have X:=h.len;have x:=h.dP;refine EH (PA.mk λY a Z b=>⟨_,_,_,ae b rfl,an.dec (λy=>Ok.mk ⟨?_,a⟩) (λy=>⟨_,_,_,ae b rfl,an.dec (λz=>Ok.mk ⟨?_,a⟩) (λz=>⟨_,_,_,ae b rfl,an.dec (λA=>Ok.mk ⟨?_,a⟩) (λA=>⟨_,_,_,ae b rfl,λl i w'=>∃n:Nat,i=n/\n<=en/\l=en-n/\(∀P∈m.events.take n,cK P N=0)/\ai w w',⟨_,0,rfl,Qj _,rfl,sM,a⟩,?_⟩)⟩)⟩)⟩)
 ·unfold eR;rw[Zx oM]
 ·unfold eR;rw[Zq oM,Zx (.inl oM)]
 ·unfold eR;rw[Zq oM,Zx (.inr oM)]
 rintro l _ _ B ⟨n,rfl,hj,rfl,c,d⟩;have o:eR m N chunk=cj (λC=>cK C N) m.events:=by unfold eR;rw[Zq oM,Zq oM]
 refine an.dec (λa4=>?_) (λa5=>Ok.mk ⟨?_,d⟩)
 ·obtain⟨p,F,es,I,J,a6,q,e,f,g,rfl,r,K⟩:=(h.ah d).el n m.events[n] (Qq oM)
  have j:m.events[n]? =some m.events[n]:=Qq oM;generalize m.events[n]=P at q r K j;refine⟨p,F,I,oM,oM,bw (es:=aC P e f g) (k:=10) (aV P e f g) rfl (λi L=>q i L) (PA.mk λw3 M s3 O=>az (aV P e f g) O rfl λQ R s4 S=>ar (aV P e f g) S ?_)⟩;have k:ai B Q:=M.new R λp J=>.inr oM;refine PC.ok (xr (r.ah k) u) ?_;rintro _ w5 ⟨rfl,s⟩;refine⟨_,rfl,an.dF (λT=>Ok.mk ⟨by rw[o,xA c j T],(d.then k).then s⟩) (λU=>⟨_,oM,n+1,aq (by unfold aK at x;omega),oM,rfl,λV H=>?_,(d.then k).then s⟩)⟩;rw[Qw,j]at H;rcases Q6.1 H with H|H
  ·exact c V H
  ·simp at H;subst H;exact U
 ·rw[Qz oM]at c
  rw[o,Bk c]
def xB(h:cf w p F S):ZG 78 #[XL p,XH e,XH r] w (Ok λi w'=>∃va vn vc G,i=gQ (jQ S e r) va vn vc none 0 0/\aO aJ 3 G w' va vn vc S.vec/\(∀r,G r->w.heap.size<=r)/\ai w w'):=by
 refine Cb (PA.mk λm d o j=>PC.ok (nx (h.ah d)) ?_);rintro _ q ⟨P,a,b,G,rfl,k,c,f⟩;have s:=c.size;refine⟨_,_,_,rfl,az (dV (jQ S e r) P a b none 0 0) (c.get j id) rfl λt g u l=>ar (dV (jQ S e r) P a b none 0 0) l (Ok.mk ⟨P,a,b,G,rfl,k.af g λr n v=>?_,λr n=>?_,(d.then c).new g λr n=>.inr oM⟩)⟩
 ·have:=f r n;omega
 ·have:=f r n;omega
def HM(h:cf w p F S):ZG 191 #[XL p,XH e,XH r] w (Ok λi w'=>∃va vn vc G,i=gQ (yJ S e r) va vn vc none 0 0/\aO aJ 3 G w' va vn vc S.vec/\(∀r,G r->w.heap.size<=r)/\ai w w'):=by
 refine JM (PA.mk λm d o j=>PC.ok (nx (h.ah d)) ?_);rintro _ q ⟨P,a,b,G,rfl,k,c,f⟩;have s:=c.size;refine⟨_,_,_,rfl,az (dV (yJ S e r) P a b none 0 0) (c.get j id) rfl λt g u l=>ar (dV (yJ S e r) P a b none 0 0) l (Ok.mk ⟨P,a,b,G,rfl,k.af g λr n v=>?_,λr n=>?_,(d.then c).new g λr n=>.inr oM⟩)⟩
 ·have:=f r n;omega
 ·have:=f r n;omega
def DH{cs:Array Value}(P:w.heap[a]? =some (.cells cs g C))(b:cs[0]? =some (XH (N:Int))):ZG 187 #[XH e,XL a] w (Ok λc w'=>c= .bool (decide (0<=e)&&decide (e<N))/\w=w'):=by
 refine Cf (an.dec (λn=>⟨_,ae P b,Ok.mk ⟨?_,rfl⟩⟩) (λn=>Ok.mk ⟨?_,rfl⟩))
 ·rw[Zy (show 0<=e from n)];rfl
 ·rw[Xv (show¬0<=e from n)];rfl
def Nq(o:Row aJ 8 w D va vn m.vec)(p:Row jo 96 w E ea en m.events)(v:N<4611686018427387904):ZG 118 #[gQ m va vn vc ea en ec,XH (N:Int),XH chunk] w (Ok λf w'=>f= XH (fr m N chunk)/\ai w w'):=by
 refine Hc (PA.mk λx y J z=>PA.mk λg q K i=>?_);have b:=q.get z id;have n:=y.then q;refine⟨λA w'=>A=(!(decide (0<=m.bt)&&decide (m.bt<N))|| !(decide (0<=m.ns)&&decide (m.ns<N))||m.bt==m.ns)/\g=w',?_,?_⟩
 ·refine⟨_,ae b rfl,_,_,_,rfl,kR,PC.ok (DH (N:=N) i rfl) ?_⟩
  rintro _ _ ⟨rfl,rfl⟩;refine⟨_,rfl,an.not (an.mk (λP=>⟨_,ae b rfl,_,_,_,rfl,kR,PC.ok (DH (N:=N) i rfl) ?_⟩) (λP=>⟨by rw[P];rfl,rfl⟩))⟩;rintro _ _ ⟨rfl,rfl⟩;refine⟨_,rfl,an.not (an.mk (λa=>⟨_,ae b rfl,_,ae b rfl,by rw[P,a];rfl,rfl⟩) (λa=>⟨by rw[P,a];rfl,rfl⟩))⟩
 rintro j _ _ ⟨B,rfl⟩;have e:fr m N chunk=if m.kind=3 then(if j then 1 else eR m N chunk)else if m.kind=1\/m.kind=2\/m.kind=4 then(if j then 1 else gw m N)else 2:=by rw[B];rfl
 have c:∀{r:List PanicEntry->XU},(if j then 1 else gw m N)=fr m N chunk->an j (Ok (λf w'=>f= XH (fr m N chunk)/\ai w w') (.returned (XH 1)) g) (iK XP 127 (XL w.heap.size) g λC=>(∃(s:Int),g.cell? ⟨x.heap.size,0,none⟩=some (XH s)/\PC XP 189 #[C,XH s] g (λF H=>∃(t:Int),F= XH t/\Ok (λf w'=>f= XH (fr m N chunk)/\ai w w') (.returned (XH t)) H) r)):=λ{r} u=>by
  refine an.mk (λh=>Ok.mk ⟨by rw[<-u,h];rfl,n⟩) (λh=>ar (dV m va vn vc ea en ec) b ⟨_,ae i rfl,PC.ok (Ks (o.ah n) (p.ah n)) ?_⟩);rintro _ I ⟨rfl,k⟩;exact⟨_,rfl,Ok.mk ⟨by rw[<-u,h];rfl,n.then k⟩⟩
 refine⟨_,ae b rfl,an.dE (λd=>an.not (an.mk (λh=>?_) (λh=>ar (dV m va vn vc ea en ec) b ⟨_,ae i rfl,PC.ok (Kt (o.ah n) (p.ah n) v) ?_⟩))) (λd=>an.dE (λP=>an.tt (by simpa using P) (c ?_)) (λP=>an.dE (λa=>an.tt (by simpa using a) (c ?_)) (λa=>an.dE (λl=>c ?_) (λl=>Ok.mk ⟨?_,n⟩))))⟩
 ·exact an.tt h (Ok.mk ⟨by rw[e,Zx d,h];rfl,n⟩)
 ·rintro _ I ⟨rfl,k⟩
  exact⟨_,rfl,Ok.mk ⟨by rw[e,Zx d,h];rfl,n.then k⟩⟩
 ·rw[e,Zq d,Zx (show m.kind=1\/m.kind=2\/m.kind=4 from .inl P)]
 ·rw[e,Zq d,Zx (show m.kind=1\/m.kind=2\/m.kind=4 from .inr (.inl a))]
 ·rw[e,Zq d,Zx (show m.kind=1\/m.kind=2\/m.kind=4 from .inr (.inr l))]
 ·rw[e,Zq d,Zq (by rintro(h|h|h);exact P h;exact a h;exact l h)]
end
structure Om (w:World) (p:Nat) (M D:XN) (most:Nat) (l:List aj) (a:ZH) (n c:Nat) (L:List (Bx aj)):Prop where
 at':w.heap[p]? =some (.cells #[XH (most:Int),.slice a n c] 147 (0,0))
 mu:aO mC.jq 63 (λb=>aF a=some b) w a n c L
 map:L.map (·.x)=l
 Mk:∀b∈L,mC.In w D b
 dD:∀b,D b->b<w.heap.size/\¬M b
 mp:M p
 ma:∀b,aF a=some b->M b/\b≠p
 dM:∀b,M b->b<w.heap.size
def gi(a:World)(b:Nat)(c D:XN)(n:Nat)(P:List aj):Prop:=(n<=256/\pB n P)/\∃d e f g,Om a b c D n P d e f g
section
variable {w w':World} {p:Nat} {M D T E:XN} {most:Nat} {l:List aj} {a:ZH} {n c:Nat} {L:List (Bx aj)}
def Om.af(b:Om w p M D most l a n c L)(e:ak T w w')(f:∀P,M P->¬T P)(g:∀P,D P->¬T P):Om w' p M D most l a n c L:=
 ⟨e.get b.at' (f _ b.mp),b.mu.af e λP d=>f P (b.ma P d).1,b.map,λP d=>(b.Mk P d).af e g,λP d=>⟨Qk (b.dD P d).1 e.size,(b.dD P d).2⟩,b.mp,b.ma,λP d=>Qk (b.dM P d) e.size⟩
def gi.af(b:gi w p M D most l)(d:ak T w w')(e:∀P,M P->¬T P)(f:∀P,D P->¬T P):gi w' p M D most l:=by
 obtain⟨g,a,n,c,L,b⟩:=b;exact⟨g,a,n,c,L,b.af d e f⟩
def gi.ah(n:gi w p M D most l)(P:ai w w'):gi w' p M D most l:=n.af P (λ_ _ n=>n) λ_ _ n=>n
def sH:jF XP 59 63 mC.jq.k 96:=IL
def IU(f:0<=e/\e<=256):ZG 44 #[XH e] w (Ok λb w'=>∃p,b= XL p/\gi w' p (·=p) (λ_=>False) e.toNat []/\w.heap.size<=p/\p<w'.heap.size/\ai w w'):=by
 refine Ei (PA.mk λc d g a=>Ok.mk ⟨w.heap.size,rfl,⟨⟨oM,pB.nil _⟩,none,0,0,[],?_,(aO.nil c).mono (λP n=>n.elim) (λP n=>by cases n),rfl,sM,λP n=>n.elim,rfl,λP n=>(by cases n),λP n=>by have n:P=w.heap.size:=n;omega⟩,Q4 _,oM,d⟩);have:(if(if 256<e then 256 else e)>0 then(if 256<e then 256 else e)else 0)=((e.toNat:Nat):Int):=by split<;>split<;>omega
 rw[this]at a;exact a
def tL(d:gi w p M D most l):ZG 84 #[XL p] w (Ok λf w'=>f= .tuple #[]/\gi w' p M (λ_=>False) most []/\ak M w w'):=by
 obtain⟨g,a,n,c,L,d⟩:=d;refine oH ⟨p,0,rfl,PS.mk d.at' sM λh i j k=>Ok.mk ⟨rfl,⟨⟨g.1,pB.nil _⟩,none,0,0,[],k,(aO.nil h).mono (λb P=>P.elim) (λb P=>by cases P),rfl,sM,λb P=>P.elim,d.mp,λb P=>(by cases P),λb P=>by rw[j];exact d.dM b P⟩,i.mono λb _ e=>by have e:b=p:=e;exact e▸d.mp⟩⟩
def zy{m o:Array Value}(s:enters XP z=true)(b:Nat->XU)(p:Nat->XU)(h:b 0 w)(i:∀P f,b P f->Row mC.jq 96 f E a n L)(t:∀P d f,L[P]? =some d->b P f->ZG z (m++ #[jD d.x d.a d.n d.c]++o) f (Ok λg w'=>(g= .bool true/\p P w')\/(g= .bool false/\b (P+1) w'))):
  ZG 304 #[.slice a n c,.func (.func z) m o] w (Ok λg w'=>(∃P,P<n/\g= XH (P:Int)/\p P w')\/(g= XH (-1)/\b n w')):=by
 have H:=(i 0 w h).len;have u:=(i 0 w h).dP;unfold aK at u;refine fj ⟨λq j w'=>∃P:Nat,j=P/\P<=n/\q=n-P/\b P w',⟨_,0,rfl,Qj _,rfl,h⟩,?_⟩;rintro q _ _ r ⟨P,rfl,I,rfl,k⟩;refine an.dec (λJ=>?_) (λK=>?_)
 ·have v:P<L.length:=oM
  have l:L[P]? =some L[P]:=Qq v;generalize L[P]=e at l;obtain⟨d,x,M,y,N,O,A,rfl,-⟩:=(i P r k).el P e l;refine⟨d,x,y,oM,oM,bw (es:=aC e.x e.a e.n e.c) (k:=10) (aV _ _ _ _) rfl (λj B=>by rw[Qx];exact A j B) ⟨_,_,_,rfl,s,PC.ok (t P e r l k) ?_⟩⟩;rintro _ Q (⟨rfl,C⟩|⟨rfl,F⟩)
  ·exact⟨_,rfl,an.tt rfl (Ok.mk (.inl ⟨P,oM,rfl,C⟩))⟩
  ·exact⟨_,rfl,an.ff rfl ⟨_,oM,P+1,aq oM,oM,rfl,F⟩⟩
 ·obtain rfl:P=n:=oM
  exact Ok.mk (.inr ⟨rfl,k⟩)
def Gz{c e:Nat}{P:Nat}{f g:Nat}(a:w.heap[P]? =some (.cells (aC O u f g).toArray 63 C)):
  ZG 296 #[jD o d c e,XL P] w (Ok λh w'=>h= .bool (aW o==aW O)/\ai w w'):=by
 refine oI (PA.mk λi n j b=>⟨_,_,ae b rfl,ae b rfl,_,_,ae (n.get a id) rfl,ae (n.get a id) rfl,KY.eql ⟨_,rfl,Ok.mk ⟨rfl,n⟩⟩⟩)
def IV(k:Row mC.jq 96 w E a n L)(v:∀P,E P->P<w.heap.size){l:Nat}{q r:Nat}(s:w.heap[l]? =some (.cells (aC o d q r).toArray 63 C)):
  ZG 295 #[.slice a n c,.func (.func 296) #[] #[XL l]] w (Ok λm w'=>m= .bool (L.any λP=>aW P.x==aW o)/\ai w w'):=by
 have x:=k.len;refine eE (PC.ok (zy (E:=E) kR (λf g=>(∀P∈L.take f,(aW P.x==aW o)=false)/\ai w g) (λf g=>(L.any λP=>aW P.x==aW o)=true/\ai w g) ⟨sM,ak.refl _⟩ (λf g h=>k.ah h.2) ?_) ?_)
 ·rintro f P g i ⟨j,b⟩
  refine(Gz (b.get s id)).mono ?_;rintro _ y ⟨m,rfl,rfl,p⟩;refine Ok.mk ?_
  cases h:aW P.x==aW o
  ·refine .inr ⟨rfl,λt e=>?_,b.then p⟩
   rw[Qw,i]at e;rcases Q6.1 e with e|e
   ·exact j t e
   ·simp at e;subst e;exact h
  ·exact .inl ⟨rfl,List.any_eq_true.2 ⟨P,QZ i,h⟩,b.then p⟩
 ·rintro _ z (⟨f,A,rfl,u,b⟩|⟨rfl,j,b⟩)
  ·exact⟨_,rfl,Ok.mk ⟨by rw[u,Zy oM],b⟩⟩
  ·refine⟨_,rfl,Ok.mk ⟨?_,b⟩⟩
   rw[Qz oM]at j;rw[List.any_eq_false.2 λP i=>by rw[j P i];simp]
   rfl
end
section
variable {w w':World} {p:Nat} {M D T E:XN} {most:Nat} {l:List aj} {a:ZH} {n c:Nat} {L:List (Bx aj)}
def pC{a g:ZH}{n c h i:Nat}{w:World}:ZG 298 #[jD o a n c,jD O g h i] w (Ok λj w'=>j= XH (rV o O)/\ai w w'):=by
 refine vD (PA.mk λt k u l=>PA.mk λm e v p=>λq r=>⟨λ_=>False,?_⟩);have P:ai m q:=r.af;have b:=P.get (e.get l id) id;have d:=P.get p id;refine⟨_,ae b rfl,_,ae d rfl,id,_,ae b rfl,id,_,ae d rfl,id,_,ae b rfl,id,_,ae d rfl,PC.ok gj ?_⟩;rintro _ _ ⟨rfl,rfl⟩;refine⟨_,rfl,ak.refl _,PC.ok gj ?_⟩;rintro _ _ ⟨rfl,rfl⟩;refine⟨_,rfl,ak.refl _,PC.ok gj ?_⟩;rintro _ _ ⟨rfl,rfl⟩;refine⟨_,rfl,ak.refl _,PA.mk λx f y s=>⟨f,PC.ok (On s) ?_⟩⟩;rintro _ _ ⟨rfl,rfl⟩;exact⟨_,rfl,ak.refl _,Ok.mk ⟨by rw[GA],((k.then e).then P).then f⟩⟩
def CL:rV o O<0↔dS o O=true:=by
 unfold rV
 cases dS o O
 ·cases dS O o<;>simp
 ·simp
def BO(x:Row mC.jq 96 w E a n L)(U:Ti (L.map (·.x))){C F:Nat}:
  ZG 297 #[.slice a n c,jD o d C F,.func (.func 298) #[] #[]] w (Ok λV w'=>∃P,V= .tuple #[XH ((posOf (λm=>dS m.x o) L:Nat):Int),.bool P]/\ai w w'):=by
 have hl:=x.len;have W:=x.dP;unfold aK at W;have N:∀{i j:Nat} {b k:Bx aj},L[i]? =some b->L[j]? =some k->i<=j->b=k\/dS b.x k.x=true:=λ{i j b k} l q b4=>by
  rcases Nat.lt_or_ge i j with h|h
  ·right
   have y:(L.map (·.x))[i]? =some b.x:=by rw[Q9,l];rfl
   have z:(L.map (·.x))[j]? =some k.x:=by rw[Q9,q];rfl
   obtain⟨X,Y⟩:=Qv.1 y;obtain⟨Z,e2⟩:=Qv.1 z;have:=List.pairwise_iff_getElem.1 U i j X Z h;rw[Y,e2]at this;exact this
  ·obtain rfl:i=j:=oM
   rw[l]at q;exact .inl (XJ q)
 refine cQ (PA.mk λa4 O b5 Q=>⟨λR i j w'=>∃p e:Nat,i=p/\j=e/\R=e-p/\p<=e/\e<=n/\(∀P b,P<p->L[P]? =some b->dS b.x o=true)/\(∀P b,e<=P->L[P]? =some b->dS b.x o=false)/\ai a4 w',
  ⟨_,0,n,rfl,rfl,rfl,oM,oM,λP b g=>oM,λP b g l=>by have:=(Qv.1 l).1;omega,ak.refl _⟩,?_⟩)
 rintro R _ _ _ S ⟨p,e,rfl,rfl,rfl,b6,a5,y,z,s⟩;have t:enters XP 298=true:=kR
 refine an.dec (λb7 a6 a7=>?_) (λb8 a8 a9=>?_)
 ·have A:ai S a6:=a7.af
  have u:=(O.then s).then A;rw[Tg oM];have r:L[(p+e)/2]? =some L[(p+e)/2]:=Qq oM;generalize L[(p+e)/2]=f at r;obtain⟨m,H,es,I,b0,b1,J,rfl,-⟩:=(x.ah u).el _ f r;refine⟨m,H,I,oM,oM,bw (es:=aC f.x f.a f.n f.c) (k:=10) (aV _ _ _ _) rfl (λP g=>by rw[Qx];exact J P g) (ar (aV o d C F) ((s.then A).get Q id) ⟨_,_,_,rfl,t,PC.ok pC ?_⟩)⟩;rintro _ b2 ⟨rfl,B⟩;refine⟨_,rfl,an.dec (λK=>⟨_,?_,(p+e)/2+1,e,aq oM,rfl,rfl,oM,a5,λP k g q=>?_,z,(s.then A).then B⟩) (λK=>⟨_,?_,p,(p+e)/2,rfl,rfl,rfl,oM,oM,y,λP k g q=>?_,(s.then A).then B⟩)⟩
  ·omega
  ·have v:=CL.1 K
   rcases N q r oM with rfl|M
   ·exact v
   ·exact sI M v
  ·omega
  ·have v:¬dS f.x o=true:=λh=>K (CL.2 h)
   rcases N r q g with rfl|M
   ·simpa using v
   ·cases h4:dS k.x o
    ·rfl
    ·exact Zz (sI M h4) v
 ·obtain rfl:p=e:=oM
  have T:ai S a8:=a9.af;have u:=(O.then s).then T;have a3:posOf (λm=>dS m.x o) L=p:=zu oM (λP b g l=>y P b g l) (λb l=>z p b (Q4 _) l);rw[a3];refine an.dec (λb3=>?_) (λb3=>Ok.mk ⟨false,rfl,u⟩);have r:L[p]? =some L[p]:=Qq oM;generalize L[p]=f at r;obtain⟨m,H,es,I,b0,b1,J,rfl,-⟩:=(x.ah u).el _ f r;refine⟨m,H,I,oM,oM,bw (es:=aC f.x f.a f.n f.c) (k:=10) (aV _ _ _ _) rfl (λP g=>by rw[Qx];exact J P g) (ar (aV o d C F) ((s.then T).get Q id) ⟨_,_,_,rfl,t,PC.ok pC ?_⟩)⟩;rintro _ b2 ⟨rfl,B⟩;exact⟨_,rfl,Ok.mk ⟨_,rfl,u.then B⟩⟩
def Tj{f h:Nat}{x:Bx aj}(j:aO mC.jq 63 (λP=>aF a=some P) w a n c L)(k:f<=n)(l:w.heap[h]? =some (.cells (aC x.x x.a x.n x.c).toArray 63 (0,0)))(m:aF a≠some h)(r:L.length<=20000000):
  ZG 299 #[.slice a n c,XH (f:Int),.slice (XM h) 1 1] w (Ok λo w'=>∃d g,o= .slice d (n+1) g/\aO mC.jq 63 (λP=>aF d=some P) w' d (n+1) g (L.take f++x::L.drop f)/\ak (λP=>aF a=some P) w w'/\∀P,aF d=some P->aF a=some P\/w.heap.size<=P):=by
 refine fG (GB.one (c:=mC.jq) (tb:=4) (x:=x) (D:=λ_=>False) sH kR ?_ j k l ⟨rfl,trivial⟩ (λP b=>b.elim) m ba (by unfold maxLen;omega) λd g w' s e p q=>Ok.mk ⟨d,g,rfl,aO.alone e,p,λP b=>?_⟩)
 ·intro i w
  rw[run_callFunc_extern Tryz.func329 kR kR kR (e:=Extern.SlicesOverlaps.overlaps #[59,59] #[4]) kR]
 ·rcases q P (e.self P b)with b|b|b
  ·exact .inl b
  ·exact b.elim
  ·exact .inr b
def Tk{b:Nat}(e:aO mC.jq 63 (λP=>aF a=some P) w a n c L)(f:b<n)(i:n<=20000000):
  ZG 305 #[.slice a n c,XH (b:Int),XH (XG .i64 ((b:Int)+1))] w (Ok λg w'=>g= .slice a (n-1) c/\aO mC.jq 63 (λP=>aF a=some P) w' a (n-1) c (L.eraseIdx b)/\ak (λP=>aF a=some P) w w'):=
 fH (Ej.one (c:=mC.jq) (tz:=0) sH kR e f (by unfold maxLen;omega) λw' d h=>Ok.mk ⟨rfl,d,h⟩)
def IW(f:gi w p M D most l){e:aj}{en ec:Nat}(O:Row aJ 8 w E d en e.aP)(hE:∀P,E P->P<w.heap.size)(he:e.Ok):
  ZG 246 #[XL p,jD e d en ec] w (Ok λQ w'=>Q= .bool (eS most l e).1/\∃o q,gi w' p o q most (eS most l e).2/\ak M w w'/\(∀P,o P->M P\/w.heap.size<=P)/\∀P,q P->D P\/w.heap.size<=P):=by
 have b3:=f;obtain⟨B,a,n,c,L,f⟩:=f;have d8:L.length=l.length:=by rw[<-f.map,Q8]
 have hn:n=L.length:=f.mu.len dC;have d9:=f.dM p f.mp;have e0:=B.2.le;have j:(L.any λP=>aW P.x==aW e)=l.any (λi=>aW i==aW e):=by rw[<-f.map,List.any_map];rfl
 refine ri (PA.mk λc6 b4 e1 b5=>λR c7=>⟨λ_=>False,?_⟩);have S:ai c6 R:=c7.af;have m:ai w R:=b4.then S;have T:=m.get f.at' id;have no:(eS most l e)=(false,l)->∀U,ai w U->Ok (λQ w'=>Q= .bool (eS most l e).1/\∃o q,gi w' p o q most (eS most l e).2/\ak M w w'/\(∀P,o P->M P\/w.heap.size<=P)/\∀P,q P->D P\/w.heap.size<=P) (.returned (.bool false)) U:=λhq U k1=>
  Ok.mk ⟨by rw[hq],M,D,by rw[hq];exact b3.ah k1,ai.af k1,λP b=>.inl b,λP b=>.inl b⟩
 refine⟨p,0,rfl,_,_,_,ae T rfl,p,0,rfl,_,ae T rfl,an.dec (λe2=>no (by unfold eS;rw[Zx (.inl oM)]) R m) (λe3=>⟨p,0,rfl,id,_,_,_,ae T rfl,ak.refl _,PC.ok (IV (E:=λP=>aF a=some P) (((f.mu.ah m).row (bytes:=96) dC ba)) (λP b=>by have:=(f.mu.aB P b);have:=m.size;omega) (S.get b5 id)) ?_⟩)⟩;rintro _ b6 ⟨rfl,C⟩;refine⟨_,rfl,C,an.mk (λr=>no (by unfold eS;rw[Zx (.inr (j▸r))]) b6 (m.then C)) (λr=>?_)⟩;have F:=m.then C;have b7:eS most l e=(true,c_ e l):=by unfold eS;rw[Zq (by rw[<-j];rintro(g|g);omega;rw[r]at g;cases g)]
 have c8:∀i∈l,aW i≠aW e:=by
  rw[j]at r;simpa[List.any_eq_false]using r
 have V:=(S.then C).get b5 id;refine⟨_,_,_,ae V rfl,PC.ok (bA (O.ah F) λP b=>by have:=hE P b;have:=F.size;omega) ?_⟩;rintro _ b8 ⟨H,I,J,G,rfl,W,X,Y⟩;have e4:=F.size;have e5:=X.size;refine⟨_,_,_,rfl,PS.mk (X.get V id) (by simp[aC]) λZ a9 e6 c9=>λK b9=>?_⟩;have s:ai Z K:=b9.af;have e7:K.heap.size=Z.heap.size:=by rw[b9.heap]
 have a0:Z.heap[w.heap.size]? =some (.cells (aC e H I J).toArray 63 (0,0)):=c9;have a1:ai w K:=((F.then X).new a9 λP b=>.inr (by have b:P=w.heap.size:=b;omega)).then s;have b0:=f.af a1 (λ_ _ f=>f) λ_ _ f=>f;have c1:Ti (L.map (·.x)):=by rw[f.map];exact B.2.Oo
 refine⟨p,0,rfl,_,_,_,ae b0.at' rfl,ar (aV e H I J) (s.get a0 id) (PC.ok (BO (b0.mu.row (bytes:=96) dC ba) c1) ?_)⟩;rintro _ e8 ⟨a4,rfl,d0⟩;refine⟨_,_,rfl,λd1 d2=>⟨λ_=>False,?_⟩⟩;have t:ai K d1:=d0.then d2.af;have a2:=a1.then t;have c3:=b0.af t (λ_ _ f=>f) λ_ _ f=>f;have h:=t.get (s.get a0 id) id;have d7:=zt (λP:Bx aj=>dS P.x e) L;refine⟨p,0,rfl,id,_,_,_,ae c3.at' rfl,_,_,_,_,_,_,_,_,_,_,_,_,ae h rfl,ae h rfl,ae h rfl,ae h rfl,ae h rfl,ae h rfl,ae h rfl,ae h rfl,ae h rfl,ae h rfl,PA.mk λd3 u e9 d4=>⟨u,?_⟩⟩;have c4:=c3.af u (λ_ _ f=>f) λ_ _ f=>f;have f2:=a2.size;refine PC.ok (Tj (x:=⟨e,H,I,J⟩) c4.mu oM d4 (λe=>by have:=f.mu.aB _ e;omega) oM) ?_;rintro _ f3 ⟨a',c',rfl,a3,v,x⟩;have b1:¬aF a=some p:=λe=>(f.ma p e).2 rfl;have f5:=v.size;refine⟨_,_,_,rfl,p,0,rfl,PS.mk (v.get c4.at' b1) sM λd5 N f6 d6=>?_⟩;have y:ak M w d5:=((ai.af (a2.then u)).then (v.mono λP _ b=>(f.ma P b).1)).then (N.mono λP _ e=>by have e:P=p:=e;exact e▸f.mp);refine Ok.mk ⟨by rw[b7],λP=>M P\/aF a'=some P,λP=>D P\/G P,⟨⟨B.1,B.2.add he⟩,a',n+1,c',L.take (posOf (λP=>dS P.x e) L)++⟨e,H,I,J⟩::L.drop (posOf (λP=>dS P.x e) L),d6,?_,?_,?_,?_,.inl f.mp,?_,?_⟩,?_,?_,?_⟩
 ·refine a3.af N λP b e=>?_
  have e:P=p:=e;rcases x P b with g|g
  ·exact b1 (e▸g)
  ·omega
 ·rw[b7]
  have c5:posOf (λi=>dS i e) l=posOf (λP:Bx aj=>dS P.x e) L:=by
   unfold posOf;rw[<-f.map,List.takeWhile_map,Q8];rfl
  show _=c_ e l;rw[CM c8,c5,Q3,QY,List.map_take,List.map_drop,f.map]
 ·have b2:∀P,G P->b6.heap.size<=P/\P<b8.heap.size:=λP b=>⟨Y P b,W.aB P b⟩
  intro i k;rcases Q6.1 k with k|k
  ·exact((f.Mk i (List.mem_of_mem_take k)).af y λP b=>(f.dD P b).2).mono λP b=>.inl b
  rcases Q2.1 k with rfl|k
  ·refine⟨(((((W.af a9 λP b e=>?_).ah s).ah (t.then u)).af v λP b e=>?_).af N λP b e=>?_).row (bytes:=8) dC (by rw[<-O.len];exact O.dP)|>.mono λP b=>.inr b,he⟩
   ·have e:P=w.heap.size:=e;have:=b2 P b;have:=ax V;omega
   ·have:=f.mu.aB P e;have:=b2 P b;omega
   ·have e:P=p:=e;have:=b2 P b;omega
  ·exact((f.Mk i (List.mem_of_mem_drop k)).af y λP b=>(f.dD P b).2).mono λP b=>.inl b
 ·intro P b
  have hz:b8.heap.size<=d3.heap.size:=by have:=a9.size;have:=s.size;have:=t.size;have:=u.size;omega
  rcases b with b|b
  ·have g:=f.dD P b
   refine⟨by have:=y.size;omega,λz=>z.elim g.2 λe=>?_⟩;rcases x P e with A|A
   ·exact g.2 (f.ma P A).1
   ·omega
  ·have g:=W.aB P b;have h3:=Y P b
   have f8:=b4.size;refine⟨by have:=v.size;have:=N.size;omega,λz=>?_⟩;rcases z with z|e
   ·have:=f.dM P z;omega
   rcases x P e with A|A
   ·have:=f.mu.aB P A;omega
   ·omega
 ·intro P b
  refine⟨.inr b,λe=>?_⟩;rcases x P b with g|g
  ·exact b1 (e▸g)
  ·omega
 ·intro P b
  rcases b with b|b
  ·have:=f.dM P b;have:=y.size;omega
  ·have:=a3.aB P b;omega
 ·exact y
 ·intro P b
  rcases b with b|b
  ·exact .inl b
  rcases x P b with g|g
  ·exact .inl (f.ma P g).1
  ·exact .inr oM
 ·intro P b
  rcases b with b|b
  ·exact .inl b
  ·exact .inr (by have:=Y P b;omega)
end
end Go.Proofs.YtjgjkeponbeekaaGreatDoor
namespace Go.au
open Go
variable{E a c i p:Nat}{f:XN}{d:ZH}{h:Program}{j:Type}{g q:TypeId}{b:World}{y:XU}
def aO.Rb{k:Nat}{n:j->List Value}{m:j->Prop}{hl h1}{P:List j}{x:j}(e:aO (flat k n m hl h1) q f b d a c P)(z:E<P.length)(A:0<k)(B:m x)(C:d=some ⟨i,p,none⟩)(F:gM h g (n x)=true)(o:∀l,aO (flat k n m hl h1) q f l d a c (P.set E x)->ak (λi=>aF d=some i) b l->l.heap.size=b.heap.size->y l):nq h g (.pointer (some ⟨i,p+E*k,none⟩)) (.agg (n x).toArray) b y:=by
 have L:=e.len A;obtain⟨cs,D,s,H,t⟩:=e.body;have M:cs.length=a*k:=s.length;have N:(E+1)*k<=a*k:=Q0 _ oM;have I:(E+1)*k=E*k+k:=by rw[X7,Nat.one_mul]
 refine s.store (m:=E*k) C F (by rw[hl];omega) λJ K u v=>o J ⟨⟨_,D,K,?_,t⟩,e.self,λi r=>by rw[v];exact e.aB i r⟩ u v;have w:=H.af u λi r=>(t i r).2;rw[hl,<-I,show P.set E x=P.take E++[x]++P.drop (E+1) by rw[XQ,List.singleton_append];exact List.set_eq_take_append_cons_drop .. |>.trans (Zx z)];exact bD.append (bD.append (w.take E) (bD.one ⟨rfl,B⟩)) (w.drop (E+1))
end Go.au
namespace Go.Proofs.YtjgjkeponbeekaaGreatDoor
section
open Go.au
variable{z:FuncId}{Y f:XN}{d:ZH}{o:aj}{F:aw}
section
variable {w w':World} {p:Nat} {M D T E:XN} {most:Nat} {l:List aj} {a:ZH} {n c:Nat} {L:List (Bx aj)}
def Ml{F H:Array Value}{pr:aj->Bool}(I:enters XP z=true)(m:aO mC.jq 63 (λP=>aF a=some P) w a n c L)(hl:L.length<=20000000)(J:∀(P:Bx aj) e,ak (λP=>aF a=some P) w e->ZG z (F++ #[jD P.x P.a P.n P.c]++H) e (Ok λr w'=>r= .bool (pr P.x)/\ai e w')):
  ZG 302 #[.slice a n c,.func (.func z) F H] w (Ok λr w'=>∃o,r= .slice a o c/\aO mC.jq 63 (λP=>aF a=some P) w' a o c (L.filter λP=>!pr P.x)/\ak (λP=>aF a=some P) w w'):=by
 have hn:=m.len dC;have b6:=m.jX;have p:∀{e:World} {f:List (Bx aj)},aO mC.jq 63 (λP=>aF a=some P) e a n c f->f.length=L.length->Row mC.jq 96 e (λP=>aF a=some P) a n f:=λ{e f} Z b7=>Z.row dC ba;refine fe (PC.ok (zy (E:=λP=>aF a=some P) (L:=L) I (λd e=>(∀P∈L.take d,pr P.x=false)/\ai w e) (λd e=>(∀P∈L.take d,pr P.x=false)/\(∀P,L[d]? =some P->pr P.x=true)/\ai w e) ⟨sM,ak.refl _⟩ (λd e h1=>(p m rfl).ah h1.2) ?_) ?_)
 ·rintro d P e h ⟨i,y⟩
  refine(J P e (ai.af y)).mono ?_;rintro _ w2 ⟨r,rfl,rfl,K⟩;refine Ok.mk ?_
  cases M:pr P.x
  ·refine .inr ⟨rfl,λN g=>?_,y.then K⟩
   rw[Qw,h]at g;rcases Q6.1 g with g|g
   ·exact i N g
   ·simp at g;subst g;exact M
  ·exact .inl ⟨rfl,i,λN g=>by rw[h]at g;cases g;exact M,y.then K⟩
 rintro _ w4 (⟨k,b8,rfl,i,a0,q⟩|⟨rfl,i,q⟩)
 rotate_left
 ·refine⟨_,rfl,an.tt sM (Ok.mk ⟨n,rfl,?_,ai.af q⟩)⟩
  rw[Qz oM]at i;rw[List.filter_eq_self.2 λP h=>by rw[i P h];rfl];exact m.ah q
 have O:L[k]? =some L[k]:=Qq oM;have a8:(L.take (k+1)).filter (λP=>!pr P.x)=L.take k:=by
  rw[Qw,O,List.filter_append,List.filter_eq_self.2 λP h=>by rw[i P h];rfl];simp[a0 _ O]
 refine⟨_,rfl,an.ff sM ⟨λo l d w'=>∃(A j:Nat) (f:List (Bx aj)),l=A/\d=j/\A<j/\j<=n/\o=n-j/\aO mC.jq 63 (λP=>aF a=some P) w' a n c f/\f.length=L.length/\f.take A=(L.take j).filter (λP=>!pr P.x)/\f.drop j=L.drop j/\ak (λP=>aF a=some P) w w',
  ⟨_,k,k+1,L,rfl,aq oM,oM,oM,rfl,m.ah q,rfl,a8.symm,rfl,ai.af q⟩,?_⟩⟩
 rintro o _ _ _ Q ⟨l,d,f,rfl,rfl,b9,c1,rfl,s,B,t,R,u⟩;refine an.dec (λc2=>?_) (λc3=>?_)
 ·have v:L[d]? =some L[d]:=Qq oM
  have S:f[d]? =some L[d]:=by
   have:=Zj (·[0]?) R;simp only[List.getElem?_drop,Nat.add_zero]at this;rw[this,v]
  have T:f.drop (d+1)=L.drop (d+1):=by
   have:=Zj (List.drop 1) R
   rwa [List.drop_drop,List.drop_drop]at this
  generalize L[d]=b at v S;obtain⟨P,U,es,C,c4,c5,a9,rfl,-⟩:=(p s B).el d b S;refine⟨P,U,C,oM,oM,bw (es:=aC b.x b.a b.n b.c) (k:=10) (aV _ _ _ _) rfl (λa1 ht=>by rw[Qx];exact a9 a1 ht) (PA.mk λc6 b0 c7 b1=>az (aV b.x b.a b.n b.c) b1 rfl λV b2 c8 W=>ar (aV b.x b.a b.n b.c) W ⟨_,_,_,rfl,I,?_⟩)⟩;have X:ai Q V:=b0.new b2 λP h=>.inr (by have h:P=Q.heap.size:=h;omega);refine PC.ok (J b V (u.ah X)) ?_;rintro _ c9 ⟨rfl,Y⟩;have x:=X.then Y;refine⟨_,rfl,an.not (an.mk (λE=>⟨_,?_,l,d+1,f,rfl,aq oM,oM,oM,rfl,s.ah x,B,?_,T,u.ah x⟩) (λE=>?_))⟩
  ·omega
  ·rw[t,Qw,v,List.filter_append]
   simp[E]
  ·refine ar (aV b.x b.a b.n b.c) (Y.get W id) ⟨P,U,C,oM,oM,?_⟩
   rw[Qx];refine aO.Rb (x:=b) (k:=10) (s.ah x) oM dC trivial C (aV b.x b.a b.n b.c) λd0 a7 b3 d1=>⟨_,?_,l+1,d+1,f.set l b,aq oM,aq oM,oM,oM,rfl,a7,by simpa using B,?_,?_,(u.ah x).then b3⟩
   ·omega
   ·rw[Qw (l:=L),v,List.filter_append,<-t,Qw,List.getElem?_set_self oM,List.take_set_of_le (Q4 _)]
    simp[E]
   ·rw[List.drop_set_of_lt oM,T]
 ·obtain rfl:d=n:=oM
  rw[Qz (l:=L) oM]at t;refine⟨oM,oM,?_⟩;rw[Qx];refine zl sH kR s oM λvy b4 b5 d2=>⟨oM,oM,Ok.mk ⟨l,rfl,?_,u.then b5⟩⟩
  rw[<-t];exact b4
def Mm{P a:Nat}(j:cf w P f F)(k:w.heap[a]? =some (.cells #[XL P] 102 (0,0))){l m:Nat}:
  ZG 300 #[jD o d l m,XL a] w (Ok λp w'=>p= .bool (F.get (aW o)).isSome/\ai w w'):=by
 refine mD (PA.mk λv n x b=>⟨_,ae (n.get k id) rfl,_,_,ae b rfl,ae b rfl,PC.ok (Re (j.ah n) (aW o)) ?_⟩);rintro _ q ⟨c,e,g,G,rfl,y,z,h⟩;exact bO (rk _ c e g) ⟨_,rfl,PA.mk λA r B s=>az (aV _ c e g) s rfl λC t E H=>Ok.mk ⟨rfl,((n.then h).then r).new t λu i=>.inr (by have i:u=q.heap.size:=i;have:=n.size;have:=h.size;omega)⟩⟩
def Mn{c g:Nat}(k:cf w c f F)(l:w.heap[g]? =some (.cells #[XL c] 102 (0,0))){e h:Nat}(m:Row aJ 8 w Y d e o.aP)(i:∀n,Y n->n<w.heap.size/\¬f n)(p:o.Ok)(t:F.l.length<=20000000):
  ZG 303 #[jD o d e h,XL g] w (Ok λq w'=>q= .bool (decide ((F.add o).1=0))/\∃a,cf w' c a (F.add o).2/\bL f w a w'):=by
 refine mE (PA.mk λu P v r=>⟨_,ae (P.get l id) rfl,ar (aV o d e h) r (PC.ok (tM (k.ah P) (m.ah P) (λn b=>⟨by have:=(i n b).1;omega,(i n b).2⟩) p oM) ?_)⟩);rintro _ x ⟨rfl,a,s,j⟩;have:=P.size;exact⟨_,rfl,Ok.mk ⟨by congr 1,a,s,(ai.af P).then j.af,λn b=>(j.new n b).imp id oM⟩⟩
end
end
section
open Go.au
variable{g1:List (Bx aj)}{f:XN}{d:ZH}{b:World}{F:aw}
section
variable {w w':World} {p:Nat} {M D E:XN} {most:Nat} {l:List aj} {a:ZH} {n c:Nat} {L:List (Bx aj)}
structure QR (w:World) (p:Nat) (M:XN) (most:Nat) (a:ZH) (c s tb:Nat) (T:aw) (nc:Nat) (Lc:List (Bx aj)) (oa:ZH) (on oc:Nat) (Lo:List (Bx aj)) (w1:World):Prop where
 set:∃F1,cf w1 s F1 T/\(∀b,F1 b->w.heap.size<=b/\b≠tb)/\∀b,aF oa=some b->w.heap.size<=b/\¬F1 b/\b≠tb
 ptr:w1.heap[tb]? =some (.cells #[XL s] 102 (0,0))
 buf:w1.heap[p]? =some (.cells #[XH (most:Int),.slice a nc c] 147 (0,0))
 mu:aO mC.jq 63 (λb=>aF a=some b) w1 a nc c Lc
 out:aO mC.jq 63 (λb=>aF oa=some b) w1 oa on oc Lo
 af:ak M w w1
def wY(h:Om w p M D most l a n c L){q j:Nat}{i:Nat}{r s:Nat}{t:List (Bx aj)}(H:QR w p M most a c q j F i g1 d r s t b)(N:∀P∈g1,P∈L)(O:F.l.length<=20000000)(a6:g1.length<=20000000):
  ZG 304 #[.slice a i c,.func (.func 303) #[] #[XL j]] b (Ok λz w'=>
   (z= XH (-1)/\(∀P∈g1,(F.add P.x).1≠0)/\QR w p M most a c q j F i g1 d r s t w')\/
   (∃g P,g<i/\z= XH (g:Int)/\g1[g]? =some P/\(∀v∈g1.take g,(F.add v.x).1≠0)/\(F.add P.x).1=0/\QR w p M most a c q j (F.add P.x).2 i g1 d r s t w')):=by
 have R:=h.dM p h.mp;have a7:=H.mu.len dC;have S:∀P,aF a=some P->P<w.heap.size:=λP e=>h.dM P (h.ma P e).1;refine(zy (E:=λP=>aF a=some P) (L:=g1) kR (λg k=>(∀P∈g1.take g,(F.add P.x).1≠0)/\QR w p M most a c q j F i g1 d r s t k) (λg k=>∃P,g1[g]? =some P/\(∀v∈g1.take g,(F.add v.x).1≠0)/\(F.add P.x).1=0/\QR w p M most a c q j (F.add P.x).2 i g1 d r s t k) ⟨sM,H⟩
  (λg k f=>f.2.mu.row dC ba) ?_).mono ?_
 ·rintro g P k e ⟨I,f⟩
  obtain⟨T,U,x,A⟩:=f.set;have J:=(h.Mk P (N P (QZ e))).af f.af λP e=>(h.dD P e).2;have z2:=f.af.size;refine(Mn U f.ptr J.1 (λP e=>⟨by have:=(h.dD P e).1;omega,λm=>by have:=(h.dD P e).1;have:=(x P m).1;omega⟩) J.2 O).mono ?_;rintro _ V ⟨z,rfl,rfl,W,X,o⟩;have K:∀P,P<w.heap.size->¬T P:=λP e m=>by have:=(x P m).1;omega
  have Y:=ax f.ptr;have C:∀P,aF d=some P->P<k.heap.size:=λP e=>f.out.aB P e;have E:QR w p M most a c q j (F.add P.x).2 i g1 d r s t V:=⟨⟨W,X,λP e=>(o.new P e).elim (x P) λy=>⟨oM,oM⟩,λP e=>⟨(A P e).1,λm=>(o.new P m).elim (A P e).2.1 λy=>by have:=C P e;omega,(A P e).2.2⟩⟩,
   o.af.get f.ptr λm=>(x _ m).2 rfl,o.af.get f.buf (K p R),f.mu.af o.af λP e=>K P (S P e),f.out.af o.af λP e=>(A P e).2.1,f.af.new o.af λP e=>.inr (x P e).1⟩
  refine Ok.mk ?_
  by_cases u:(F.add P.x).1=0
  ·exact .inl ⟨by rw[Zy u],P,e,I,u,E⟩
  ·refine .inr ⟨by rw[Xv u],λv Q=>?_,?_⟩
   ·rw[Qw,e]at Q
    rcases Q6.1 Q with Q|Q
    ·exact I v Q
    ·simp at Q;subst Q;exact u
   ·rcases F.iI P.x with⟨-,y⟩|⟨y,-⟩
    ·rw[y]at E;exact E
    ·rw[y]at u;exact Zz rfl u
 ·rintro _ k ⟨z,rfl,Z⟩
  rcases Z with⟨g,hj,rfl,P,B,f,h3,h4⟩|⟨rfl,B,f⟩
  ·exact Ok.mk (.inr ⟨g,P,hj,rfl,B,f,h3,h4⟩)
  ·rw[Qz oM]at B
   exact Ok.mk (.inl ⟨rfl,B,f⟩)
def Ek(d7:gi w p M D most l){b3:Nat}(hs:cf w b3 f F)(g3:F.Cl)(k2:F.l.length<=19000000):
  ZG 247 #[XL p,XL b3] w (Ok λd8 w'=>∃q z C k,d8= .slice q z C/\aO mC.jq 63 (λP=>aF q=some P) w' q z C k/\k.map (·.x)=(br F l).1/\(∀P∈k,mC.In w' D P)/\(∀P,aF q=some P->w.heap.size<=P)/\
   gi w' p M D most (br F l).2/\ak M w w'):=by
 obtain⟨W,a,n,c,L,g⟩:=d7;have g4:=g.dM p g.mp;have X:∀P,aF a=some P->P<w.heap.size:=λP b=>g.dM P (g.ma P b).1;have k3:L.length=l.length:=by rw[<-g.map,Q8]
 have h1:l.length<=256:=Xx W.2.le W.1;have hN:=hs.1.n;refine oJ (PC.ok (nx hs) ?_);rintro _ w4 ⟨va,vn,vc,Fv,rfl,g6,k4,k5⟩;have d2:=g6.len dC;rw[F.bM]at d2;subst d2;refine⟨_,_,_,rfl,PC.ok (El hN) ?_⟩;rintro _ A ⟨E,F2,rfl,d3,d4,k7⟩;have z4:=k4.size;have z7:=k7.size;refine⟨_,rfl,PA.mk λw9 k9 s9 g9=>PS.mk g9 sM λg7 g8 k6 h4=>?_⟩;have a1:ai A g7:=k9.new g8 λP b=>.inr (by have b:P=A.heap.size:=b;omega);have b4:=(k4.then k7).then a1;have Y:=d3.aB;refine PC.ok (qP (hs.ah b4) oM) ?_;rintro _ Z ⟨ea,en,ec,G,rfl,b9,a6,hG⟩;have k8:=b9.len dC;have l0:=a1.size;have l3:=a6.size;have e0:Row jo 96 Z G ea en F.l:=b9.row dC ba;have h6:Z.heap[A.heap.size]? =some (.cells #[XL E] 102 (0,0)):=a6.get h4 id;have d6:=b9.aB;refine⟨_,_,_,rfl,λR a2 w'=>∃(e:Nat) (S:XN),a2=e/\e<=en/\R=en-e/\cf w' E S ((⟨F.n,[]⟩:aw).fw (F.l.take e))/\(∀P,S P->F2 P\/Z.heap.size<=P)/\ak F2 Z w',⟨_,0,F2,rfl,Qj _,rfl,d3.ah (a1.then a6),λP b=>.inl b,ak.refl _⟩,?_⟩;rintro R _ _ a7 ⟨e,S,rfl,hj,rfl,a8,a9,T⟩;have l4:=T.size;have c1:=T.get h6 λH=>by have:=Y _ H;omega
 refine an.dec (λl5=>?_) (λl6=>?_)
 ·have K:F.l[e]? =some F.l[e]:=Qq oM
  generalize F.l[e]=N at K;have e7:=e0.af T λP b H=>by have:=Y _ H;have:=hG P b;omega
  obtain⟨P,e8,es,ha,l7,l8,c2,xa,xn,xc,rfl,h7,f0⟩:=e7.el e N K;refine⟨P,e8,ha,oM,oM,bw (es:=aC N xa xn xc) (k:=10) (aV _ _ _ _) rfl (λa2 ht=>by rw[Qx];exact c2 a2 ht) (PA.mk λl9 h8 m1 h9=>az (aV N xa xn xc) h9 rfl λi1 i3 m2 i4=>?_)⟩;have O:ai a7 i1:=h8.new i3 λP b=>.inr (by have b:P=a7.heap.size:=b;omega);have c3:=aw.mG (F.l.take e) ⟨F.n,[]⟩;rw[Qy]at c3;simp only[ZQ]at c3;refine⟨_,ae (O.get c1 id) rfl,ar (aV N xa xn xc) i4 (PC.ok (tM (a8.ah O) (h7.ah O) (λP b=>⟨by have:=d6 P b;have:=O.size;omega,λH=>?_⟩) f0 oM) ?_)⟩
  ·rcases a9 P H with j|j
   ·have:=Y _ j;have:=hG P b;omega
   ·have:=d6 P b;omega
  rintro _ i5 ⟨rfl,F3,i6,d9⟩;refine⟨_,rfl,_,oM,e+1,F3,aq oM,oM,rfl,?_,λP b=>?_,?_⟩
  ·rw[Qw,K]
   show cf i5 E F3 (aw.fw _ (F.l.take e++[N]));rw[aw.qQ];exact i6
  ·rcases d9.new P b with j|j
   ·exact a9 P j
   ·have:=O.size;exact .inr oM
  ·exact(T.ah O).new d9.af λP b=>a9 P b
 rw[Qz oM,g3.Uu]at a8;have b5:ai w a7:=(b4.then a6).new T λP b=>.inr (by have:=d4 P b;omega);have c4:=g.af b5 (λ_ _ g=>g) λ_ _ g=>g;have s:∀P,S P->w.heap.size<=P/\P≠A.heap.size:=λP b=>by
  rcases a9 P b with j|j
  ·have:=d4 P j;have:=Y P j;omega
  ·omega
 refine⟨p,0,rfl,_,_,_,ae c4.at' rfl,PC.ok (Ml (pr:=λd=>(F.get (aW d)).isSome) kR c4.mu oM λP w1 hk=>?_) ?_⟩
 ·refine Mm (a8.af hk λP b d=>?_) (hk.get c1 λd=>?_)
  ·have:=X P d;have:=(s P b).1;omega
  ·have:=X _ d;omega
 rintro _ m3 ⟨m0,rfl,f1,e1⟩;have b0:¬aF a=some p:=λd=>(g.ma p d).2 rfl;refine⟨_,_,_,rfl,p,0,rfl,PS.mk (e1.get c4.at' b0) sM λe2 e3 m4 e4=>⟨p,0,rfl,_,_,_,ae e4 rfl,?_⟩⟩;obtain⟨t,y⟩:∃t,t=L.filter λP=>!(F.get (aW P.x)).isSome:=⟨_,rfl⟩
 have a3:ak (λP=>aF a=some P\/P=p) a7 e2:=(e1.mono λP _ b=>.inl b).then (e3.mono λP _ b=>.inr b);have VF:∀P,aF a=some P\/P=p->P<w.heap.size:=λP b=>b.elim (X P) λd=>d▸g4;have e5:QR w p M most a c E A.heap.size F m0 t none 0 0 [] e2:=by
  refine⟨⟨S,a8.af a3 λP b d=>by have:=VF P d;have:=(s P b).1;omega,s,λP b=>by cases b⟩,a3.get c1 λd=>by have:=VF _ d;omega,e4,?_,(aO.nil _).mono (λP b=>b.elim) λP b=>(by cases b),?_⟩
  ·rw[y];exact f1.af e3 λP b d=>b0 (by have d:P=p:=d;rw[<-d];exact b)
  ·exact(ai.af b5).then (a3.mono λP _ b=>b.elim (λd=>(g.ma P d).1) λd=>d▸g.mp)
 have b6:∀P∈t,P∈L:=λP b=>by rw[y]at b;exact(List.mem_filter.1 b).1
 have a4:t.map (·.x)=l.filter λd=>(F.get (aW d)).isNone:=by
  rw[y,<-g.map,List.filter_map]
  congr 1
  refine List.filter_congr λP b=>?_;show(!(F.get (aW P.x)).isSome)=(F.get (aW P.x)).isNone
  cases F.get (aW P.x)<;>rfl
 have b7:t.length<=L.length:=by rw[y];exact List.length_filter_le ..
 refine PC.ok (wY g e5 b6 oM oM) ?_;rintro i7 m5 b8;obtain⟨i0,i8⟩:∃u:Int,i7= XH u:=by
  rcases b8 with⟨m,-⟩|⟨e,P,-,m,-⟩
  ·exact⟨_,m⟩
  ·exact⟨_,m⟩
 subst i8;refine⟨_,rfl,λR q z C u w'=>∃(r:aw) (h k:List (Bx aj)) (B U:Nat),R=h.length/\(∀P∈h,P∈L)/\(∀P∈k,P∈L)/\(h.map (·.x)).Sublist l/\h.length<=U/\r.l.length+h.length<=F.l.length+L.length/\h.length<=L.length/\k.length+h.length<=L.length/\B=h.length/\
   dT (U+1) r (h.map (·.x)) (k.map (·.x))=br F l/\
   ((u= -1/\(∀P∈h,(r.add P.x).1≠0)/\QR w p M most a c E A.heap.size r B h q z C k w')\/
    (∃e P,e<B/\u=(e:Int)/\h[e]? =some P/\(∀v∈h.take e,(r.add v.x).1≠0)/\(r.add P.x).1=0/\QR w p M most a c E A.heap.size (r.add P.x).2 B h q z C k w')),?_,?_⟩
 ·have i9:=e5.mu.len dC
  refine⟨_,F,t,[],m0,t.length,rfl,b6,sM,by rw[a4];exact List.filter_sublist,Q4 _,oM,b7,by simpa using b7,i9,?_,?_⟩
  ·rw[a4]
   show dT (t.length+1) F _ []=_;unfold br;rw[<-a4];show _=dT ((t.map (·.x)).length+1) F _ [];rw[Q8]
  ·rcases b8 with⟨m,I,J⟩|⟨e,P,m,I,J⟩
   ·exact .inl ⟨by simpa using m,I,J⟩
   ·exact .inr ⟨e,P,m,by simpa using I,J⟩
 rintro R q z C u _ j0 ⟨r,h,k,B,U,rfl,a5,c0,e6,hk,m6,k0,k1,m7,c6,j1⟩;rcases j1 with⟨rfl,c5,i⟩|⟨e,P,hj,rfl,b,c5,f4,i⟩
 ·refine an.ff sM (Ok.mk ⟨q,z,C,k,rfl,i.out,?_,λP b=>(g.Mk P (c0 P b)).af i.af λP b=>(g.dD P b).2,λP b=>by obtain⟨F1,-,-,j⟩:=i.set;exact(j P b).1,⟨⟨W.1,?_⟩,a,B,c,h,i.buf,i.mu,?_,λP b=>(g.Mk P (a5 P b)).af i.af λP b=>(g.dD P b).2,λP b=>⟨by have:=(g.dD P b).1;have:=i.af.size;omega,(g.dD P b).2⟩,g.mp,g.ma,λP b=>by have:=g.dM P b;have:=i.af.size;omega⟩,i.af⟩)
  all_goals
   have f7:br F l=(k.map (·.x),h.map (·.x)):=by
    rw[<-c6];unfold dT;rw[rW λd he=>by obtain⟨P,b,rfl⟩:=Xk.1 he;exact c5 P b]
   rw[f7]
  exact W.2.sub e6
 ·have j2:e<h.length:=oM
  have m8:=i;obtain⟨F1,e9,f2,b1⟩:=i.set;have m9:=i.af.size;have c3:=r.yO P.x;obtain⟨gb,go,es,ha,n0,n1,c2,rfl,-⟩:=(i.mu.row (bytes:=96) dC ba).el e P b;have d:=λu (hi:u<10)=>c2 u hi;refine an.dec (λ_=>⟨p,0,rfl,_,_,_,ae i.buf rfl,gb,go,ha,oM,oM,_,_,_,_,_,_,_,_,_,_,_,_,d 0 dC,d 1 dC,d 2 dC,d 3 dC,d 4 dC,d 5 dC,d 6 dC,d 7 dC,d 8 dC,d 9 dC,PA.mk λj3 f3 n2 j4=>?_⟩) (λhn=>oM);have n3:=i.out.len dC;refine eY (c:=mC.jq) (x:=P) (D:=λ_=>False) (i.out.ah f3) sH j4 ⟨rfl,trivial⟩ (λP b=>b.elim) ba (by unfold maxLen;omega) λV b2 f5 Fo c7 j5 j6=>⟨_,_,_,rfl,p,0,rfl,?_⟩
  have f8:=c7.alone;have d0:∀P,aF V=some P->aF q=some P\/j3.heap.size<=P:=λP b=>(j6 P (c7.self P b)).imp id λg=>g.resolve_left id;have o:∀P,aF q=some P->w.heap.size<=P:=λP b=>(b1 P b).1;have Q:ak (λP=>aF q=some P) j0 f5:=(ai.af f3).then j5;have f6:=Q.get i.buf λd=>by have:=o _ d;omega
  have f9:=i.mu.af Q λP b d=>by have:=o _ d;have:=X P b;omega
  have n4:=Q.size;refine⟨_,_,_,ae f6 rfl,PC.ok (Tk f9 hj oM) ?_⟩;rintro _ n8 ⟨rfl,g5,c8⟩;have n9:=c8.size;refine⟨_,_,_,rfl,p,0,rfl,PS.mk (c8.get f6 b0) sM λg0 g1 o0 g2=>⟨p,0,rfl,_,_,_,ae g2 rfl,?_⟩⟩;have o1:(h.eraseIdx e).length=h.length-1:=List.length_eraseIdx_of_lt j2;have a0:ak (λP=>aF a=some P\/P=p) f5 g0:=(c8.mono λP _ b=>.inl b).then (g1.mono λP _ b=>.inr b);have c9:∀P,w.heap.size<=P->¬(aF a=some P\/P=p):=λP b d=>by have:=VF P d;omega
  have j7:QR w p M most a c E A.heap.size (r.add P.x).2 (B-1) (h.eraseIdx e) V (z+1) b2 (k++[P]) g0:=by
   refine⟨⟨F1,(e9.af Q λP b d=>(b1 P d).2.1 b).af a0 λP b=>c9 P (f2 P b).1,f2,λP b=>?_⟩,a0.get (Q.get i.ptr λd=>(b1 _ d).2.2 rfl) (c9 _ oM),g2,g5.af g1 λP b d=>b0 (by have d:P=p:=d;rw[<-d];exact b),f8.af a0 λP b=>c9 P ?_,?_⟩
   ·rcases d0 P b with j|j
    ·exact b1 P j
    ·have hd:=e9.aB
     have o2:=ax i.ptr;exact⟨oM,λH=>by have:=hd P H;omega,oM⟩
   ·rcases d0 P b with j|j
    ·exact o P j
    ·omega
   ·exact(i.af.new Q λP b=>.inr (o P b)).then (a0.mono λP _ b=>b.elim (λd=>(g.ma P d).1) λd=>d▸g.mp)
  have d1:∀v∈h.eraseIdx e,v∈L:=λv x=>a5 v ((List.eraseIdx_sublist ..).subset x);refine PC.ok (wY g j7 d1 oM oM) ?_;rintro j8 o3 d5;obtain⟨i2,j9⟩:∃u:Int,j8= XH u:=by
   rcases d5 with⟨m,-⟩|⟨e,P,-,m,-⟩
   ·exact⟨_,m⟩
   ·exact⟨_,m⟩
  subst j9;have h0:∃k',U=k'+1:=⟨U-1,oM⟩
  obtain⟨k',rfl⟩:=h0;refine⟨_,rfl,(h.eraseIdx e).length,oM,(r.add P.x).2,h.eraseIdx e,k++[P],B-1,k',rfl,d1,?_,?_,oM,oM,oM,by simp;omega,oM,?_,?_⟩
  ·intro v x
   rcases Q6.1 x with x|x
   ·exact c0 v x
   ·simp at x;subst x;exact a5 v (QZ b)
  ·exact((List.eraseIdx_sublist ..).map _).trans e6
  ·rw[<-c6]
   conv=>rhs;unfold dT
   rw[rX (i:=e) (e:=P.x) (λN K=>by rw[<-List.map_take]at K;obtain⟨v,x,rfl⟩:=Xk.1 K;exact c5 v x) (by rw[Q9,b];rfl) f4];show _=dT (k'+1) (r.add P.x).2 ((h.map (·.x)).eraseIdx e) (k.map (·.x)++[P.x]);rw[map_eraseIdx,Q3];rfl
  ·rcases d5 with⟨m,I,J⟩|⟨e,P,m,I,J⟩
   ·exact .inl ⟨by simpa using m,I,J⟩
   ·exact .inr ⟨e,P,m,by simpa using I,J⟩
end
def tr:jN:=⟨[(3,[(6,.slice none 0 0),(16,XH 0)])],[],[5,12],[],[(5,⟨[0,1,2,4,0,16,40,64,128,128,511,2047],[4095,4094,4093,4091,4095,4079,4055,4031,3967,3967,3839,3583],[0,0,0,1,0,2,2,0,0,0,0,0]⟩),(12,⟨[0,0,2,4,8,0,32,0,208,257,1023],[2047,2047,2045,2043,2039,2047,2015,2047,1839,2046,1791],[0,0,0,0,1,0,2,0,2,0,0]⟩)]⟩
variable{A:XT}{e:Int}{t:List Int}{x:List UInt8}{J:List aj}{a c i:Nat}{Y:XN}{u:ZH}{m:XR}{k:World}{y:XU}{o:aj}{b2:eu}
def tu(N:PA b (.cells #[.slice u a c] 211) λv=>(rS v (ab_ b 0) λO w c3=>(∃o:Nat->ZH->Nat->Nat->Int->XU,(∃P,o P none 0 0 0 v)/\∀(P:Nat) (e:ZH) (f:Nat) (g:Nat) (n:Int) (c4:Nat->Value) (h:World),o P e f g n h->an (decide (n<(w:Int))) ((ix_ O n w λQ R=>(rI h (ad Q (R+Int.toNat n)) λi=>(∀j,bF h j->∃p:XN,(dr d λx S=>(¬p x/\(rP j (ad x S) λT=>PC_ 146 #[.ii i] j (λU q=>∃y,U= .string y/\(ak p j q/\PC_ 162 #[.pointer T,.string y] q (λV k=>∃W z X B,V= .tuple #[.slice W z X,.ii B]/\(ak p q k/\an (B !=0) (rt A ((.tuple #[.slice e f g,.ii 0])) k) ((dr d λY Z=>(rP k (ad Y Z) λa1=>PC_ 168 #[.pointer a1,.ii i] k (λa2 a3=>∃D C E l,a2= .tuple #[.slice D C E,.ii l]/\PR_ (ap_ 59 (.slice e f g) (.slice D C E)) a3 (kS_ λG F H r=>(dr d λa4 a5=>(rS r (ad a4 (a5+2)) λa6 a7 a8=>PA r (.cells #[.ii i] 3) λa9=>PR_ (ap_ 42 (.slice a6 a7 a8) (.slice (some (ab_ r 0)) 1 1)) a9 (kS_ λb0 b1 b2 b3=>(dr d λb4 b5=>PS b3 (ad b4 (b5+2)) (.slice b0 b1 b2) λb6=>(dr d λb7 b8=>PS b6 (ad b7 (b8+3)) (.ii l) λI=>an (decide (l<(z:Int))) ((∀m,bF I m->∃s:XN,(dr d λJ b9=>(¬s J/\(rP m (ad J b9) λc0=>PC_ 146 #[.ii i] m (λc1 t=>∃K,c1= .string K/\(ak s m t/\PC_ 169 #[.pointer c0,.string K,.ii l] t (kI_ λc2 L=>(ak s t L/\rt A ((.tuple #[.slice G F H,.ii c2])) L)) (pZ A))) (pZ A)))))) ((∃M,M<P/\o M G F H (XG .i64 (n+1)) I))))) (pV A)))) (pV A)) (pE A)))))) (pZ A))) (pZ A)))))))) (rt A ((.tuple #[.slice e f g,.ii 0])) h)))):ZG 110 #[.pointer d,.agg #[.slice u a c]] b A:=DC tr Tryz.func110 rfl N
def qC(n:eu)(D:al):Int×eu×al:=
 let b:=cy (aA n.next)
 let P:=D.sync b
 if P.1≠0 then(P.1,n,(P.2.delete b).2)else
 let a:=bZ P.2 (n.bI++[n.next])
 if a.1≠0 then(a.1,n,(a.2.delete b).2)else
 (0,⟨n.size,n.bI++[n.next],0,XG .i64 (n.next+1)⟩,a.2)
def mi(P:eu)(D:al):Int×eu×al:=
 let n:=D.create (cy (aA P.next))
 if n.1≠0 then(n.1,P,n.2)else qC P n.2
def aZ(n:eu)(D:al):Int×eu×al:=
 if n.bI=[]then mi n D else
 let P:=D.sync n.last
 if P.1≠0 then(P.1,n,P.2)else mi n P.2
def DB(b c:World)(d e:Nat)(P:XN)(n:Int×eu×al)(f:Value)(a:World):Prop:=f= XH n.1/\bX b a d e n.2.1 n.2.2 P/\ak (di P) c a
def PQ(n:Int):aH (XG .i64 n):=by
 unfold aH XG;simp[IntKind.signed,IntKind.bits];omega
def FD{D:al}{P:List Int}(n:(bZ D P).1=0):P.length<=64:=by
 unfold bZ at n;split at n
 ·cases n
 ·omega
def DD{D:al}(hL:Laid b)(h:bX b k a c b2 D f):
  ZG 111 #[XL c] k (Ok (DB b k a c f (aZ b2 D))):=by
 have a1:=h.aB;obtain⟨p3,j4,e7⟩:=h.Ww;have p4:=h.gr.size;have e9:=h.Aw;have j5:=h.many;refine sT (PA.mk λB k1 s1 g1=>PA.mk λw2 k2 s2 g2=>?_);have d8:ai k w2:=k1.then k2
 let b6:XN:=λn=>f n\/(n=k.heap.size\/n=B.heap.size)
 have hY:bX b w2 a c b2 D b6:=h.add d8 λn P=>by omega
 have b7:=k2.get g1 id;refine⟨λd=>∃C,bX b d a c b2 C b6/\ak (di f) k d/\w2.heap.size<=d.heap.size/\d.heap[k.heap.size]? =some (.cells #[XL c] 101 (0,0))/\d.heap[B.heap.size]? =some (.cells #[XH 0] 34 (0,0))/\aZ b2 D=mi b2 C,?_,?_⟩
 ·obtain⟨G,hD,hl,hG⟩:=id hY
  obtain⟨t,E,I,l,S,hr,hE,u⟩:=hl.row;refine⟨_,ae b7 rfl,c,0,rfl,_,_,_,ae S rfl,an.dec (λo6=>?_) (λy=>?_)⟩
  ·have v:b2.bI≠[]:=λg=>by rw[g]at u;simp at u;omega
   refine⟨_,ae b7 rfl,PC.ok (HJ hL hY v) ?_⟩;rintro _ w3 ⟨rfl,Y,k3⟩;have kX:ak (di f) k w3:=(ai.af d8).then (k3.mono λn _ P i=>P (.inl i));have b8:=k3.get b7 λu=>u (.inr (.inl rfl));have b9:=k3.get g2 λu=>u (.inr (.inr rfl));have hB:aZ b2 D=if(D.sync b2.last).1≠0 then((D.sync b2.last).1,b2,(D.sync b2.last).2)else mi b2 (D.sync b2.last).2:=by unfold aZ;rw[Zq v]
   refine⟨_,rfl,an.dF (λf5=>?_) (λF=>⟨_,Y,kX,k3.size,b8,b9,by rw[hB,Zq (by simpa using F)]⟩)⟩;refine PS.mk b9 sM λJ L s4 g4=>⟨_,ae g4 rfl,Ok.mk ?_⟩
   rw[hB,Zx f5];exact⟨rfl,(Y.other L λn P=>⟨P▸.inr (.inr rfl),oM⟩).mono λn P=>.inl P,kX.then (L.mono λn _ P i=>by have:=a1 n i;omega)⟩
  ·have he:b2.bI=[]:=QW oM
   exact⟨D,hY,ai.af d8,Q4 _,b7,g2,by unfold aZ;rw[Zx he]⟩
 rintro _ w3 ⟨C,Y,b3,o7,b8,b9,hB⟩;rw[hB];obtain⟨G3,p5,j6,p6⟩:=id Y;obtain⟨f9,n3,h0,E3,j7,-,-,-⟩:=j6.row;refine⟨_,ae b8 rfl,c,0,rfl,_,ae j7 rfl,PC.ok (je (hL.ah Y.gr) e9) ?_⟩;rintro _ J ⟨rfl,L⟩;refine⟨_,rfl,PA.mk λw5 k5 s5 g5=>PS.mk g5 sM λw6 k6 s6 g6=>?_⟩
 let p:XN:=λn=>b6 n\/n=J.heap.size
 have f6:=Y.ah L;have p7:=f6.gr.size;have p8:=L.size;have j8:bX b w6 a c b2 C p:=(f6.add (Y:=(·=J.heap.size)) k5 λn P=>oM).other k6 λn P=>⟨.inr P,oM⟩
 have j9:ak (di f) k w6:=((b3.ah L).ah k5).then (k6.mono λn _ P i=>by have:=a1 n i;have:=b3.size;omega);have e0:∀{n},f n->p n:=λi=>.inl (.inl i);intro M e4;have k7:ai w6 M:=e4.af;have f8:=j8.ah k7;have gn:w6.heap[J.heap.size]? =some (.cells #[.string (cy (aA b2.next))] 9 (0,0)):=g6;have k0:=k6.get (k5.get (L.get b8 id) id) oM;have g0:=k6.get (k5.get (L.get b9 id) id) oM
 let q:World->Int->Prop:=λd g=>d.heap[k.heap.size]? =some (.cells #[XL c] 101 (0,0))/\d.heap[B.heap.size]? =some (.cells #[XH g] 34 (0,0))/\d.heap[J.heap.size]? =some (.cells #[.string (cy (aA b2.next))] 9 (0,0))
 have C6:q w6 0:=⟨k0,g0,gn⟩
 have e:∀{d w:World} {g:Int} {d0:XN},q d g->ak d0 d w->(∀n,d0 n->¬(n=k.heap.size\/n=B.heap.size\/n=J.heap.size))->q w g:=λN o hS=>
  ⟨o.get N.1 λO=>hS _ O (.inl rfl),o.get N.2.1 λO=>hS _ O (.inr (.inl rfl)),o.get N.2.2 λO=>hS _ O (.inr (.inr rfl))⟩
 have j:∀{d w:World} {g:Int},q d g->ak (di p) d w->q w g:=λN o=>e N o λn P hc=>P (by
  rcases hc with rfl|rfl|rfl
  ·exact .inl (.inr (.inl rfl))
  ·exact .inl (.inr (.inr rfl))
  ·exact .inr rfl)
 have c1:∀{d w:World},ak (di f) k d->ak (di p) d w->ak (di f) k w:=λt n=>t.then (n.mono λn _ P i=>P (e0 i));have C7:q M 0:=e C6 k7 λn P=>P.elim;obtain⟨G7,p9,l0,q0⟩:=id f8;obtain⟨k4,n7,l1,E7,l3,-,-,-⟩:=l0.row;refine⟨_,ae C7.1 rfl,c,0,rfl,_,ae l3 rfl,_,ae C7.2.2 rfl,PC.ok (f8.on (λp hZ T=>T.create)) ?_⟩;rintro _ w8 ⟨rfl,c2,k8⟩;have C8:=j C7 k8;have g3:=c1 (j9.ah k7) k8;have l4:mi b2 C=if(C.create (cy (aA b2.next))).1≠0 then((C.create (cy (aA b2.next))).1,b2,(C.create (cy (aA b2.next))).2)else qC b2 (C.create (cy (aA b2.next))).2:=rfl
 rw[l4];generalize q1:C.create (cy (aA b2.next))=cr at c2⊢;obtain⟨l2,K⟩:=cr;simp only at c2⊢;have q2:B.heap.size<w2.heap.size:=oM
 have g7:∀{d:World} {z:Int×eu×al} {g:Int} {w:World},bX b d a c z.2.1 z.2.2 p->ak (di f) k d->ak (·=B.heap.size) d w->g=z.1->DB b k a c f z (XH g) w:=by
  intro d z g w u o O he;exact⟨by rw[he],(u.other O λn P=>⟨P▸.inl (.inr (.inr rfl)),oM⟩).mono λn P=>e0 P,o.then (O.mono λn _ P i=>by have:=a1 n i;omega)⟩
 refine⟨_,rfl,an.dF (λv=>?_) (λF=>?_)⟩
 ·refine PS.mk C8.2.1 sM λw9 k9 s9 g9=>⟨_,ae g9 rfl,Ok.mk ?_⟩
  rw[Zx v];exact g7 c2 g3 k9 rfl
 rw[Zq (by simpa using F)];have A:∀{z:Int×eu×al} (g:Int) (l:al) (d:World),bX b d a c b2 l p->ak (di f) k d->q d g->g≠0->z=(g,b2,(l.delete (cy (aA b2.next))).2)->
   Lv XP (λg8=>∃h2:Int,g8.cell? ⟨B.heap.size,0,none⟩=some (XH h2)/\Ok (DB b k a c f z) (.returned (XH h2)) g8) (λch d=>Ok (DB b k a c f z) (.panicked ch) d)
    ([{target:=.fn (.func 171) #[XL B.heap.size,XL k.heap.size,XL J.heap.size],args:= #[]}]:List Deferred) .returning d:=by
  intro z g l d u o N v hr;refine Lv.one sM kR (CallsD.mono (iz (R:=λe' M=>e'= .returned (.tuple #[])/\∃h3:Int,M.cell? ⟨B.heap.size,0,none⟩=some (XH h3)/\Ok (DB b k a c f z) (.returned (XH h3)) M) ⟨_,ae N.2.1 rfl,an.dF (λ_=>?_) (λF=>Zz F v)⟩) ?_)
  ·intro wa da
   have ka:ai d wa:=da.af;have h4:=u.ah ka;have e1:q wa g:=e N ka λn P=>P.elim;obtain⟨Ga,q3,l5,q4⟩:=id h4;obtain⟨aa,na,ca,Ea,c0,-,-,-⟩:=l5.row;refine⟨_,ae e1.1 rfl,c,0,rfl,_,ae c0 rfl,_,ae e1.2.2 rfl,PC.ok (h4.on (λp hZ T=>T.delete)) ?_⟩;rintro _ U ⟨rfl,l6,kb⟩;have l7:=j e1 kb;refine⟨_,rfl,rfl,_,ae l7.2.1 rfl,Ok.mk ?_⟩;rw[hr];exact⟨rfl,l6.mono λn P=>e0 P,c1 (o.ah ka) kb⟩
  ·rintro e' u' M ⟨rfl,rfl,hX⟩
   exact Lv.ret rfl hX
 intro w9 e5;have k9:ai w8 w9:=e5.af;have h5:=c2.ah k9;have C9:q w9 0:=e C8 k9 λn P=>P.elim;obtain⟨G9,q5,l8,q6⟩:=id h5;obtain⟨n5,n9,n6,E9,l9,-,-,-⟩:=l8.row;refine⟨_,ae C9.1 rfl,c,0,rfl,_,ae l9 rfl,_,ae C9.2.2 rfl,PC.ok (h5.on (λp hZ T=>T.sync)) ?_⟩;rintro _ Z ⟨rfl,V,h6⟩;have b0:=j C9 h6;have d1:=c1 (g3.ah k9) h6;have m0:qC b2 K=if(K.sync (cy (aA b2.next))).1≠0 then((K.sync (cy (aA b2.next))).1,b2,((K.sync (cy (aA b2.next))).2.delete (cy (aA b2.next))).2)else
   if(bZ (K.sync (cy (aA b2.next))).2 (b2.bI++[b2.next])).1≠0 then((bZ (K.sync (cy (aA b2.next))).2 (b2.bI++[b2.next])).1,b2,((bZ (K.sync (cy (aA b2.next))).2 (b2.bI++[b2.next])).2.delete (cy (aA b2.next))).2)else
   (0,⟨b2.size,b2.bI++[b2.next],0,XG .i64 (b2.next+1)⟩,(bZ (K.sync (cy (aA b2.next))).2 (b2.bI++[b2.next])).2):=rfl
 rw[m0];generalize q7:K.sync (cy (aA b2.next))=sy at V⊢;obtain⟨q8,c4⟩:=sy;dsimp only at V;refine⟨_,rfl,an.dF (λv=>?_) (λF=>?_)⟩
 ·refine PS.mk b0.2.1 sM λr s q9 m1=>?_
  rw[Zx v];exact A _ c4 r (V.other s λn P=>⟨P▸.inl (.inr (.inr rfl)),oM⟩) (d1.then (s.mono λn _ P i=>by have:=a1 n i;omega)) ⟨s.get b0.1 oM,m1,s.get b0.2.2 (by have:=b3.size;omega)⟩ v rfl
 rw[Zq (by simpa using F)];have o8:J.heap.size<Z.heap.size:=ax b0.2.2;refine⟨λt E I d=>∃l,aO aJ 3 l d t E I (b2.bI++[b2.next])/\(∀n,l n->Z.heap.size<=n)/\ai Z d,?_,?_⟩
 ·intro r m2
  have s:ai Z r:=m2.af;have a5:=V.ah s;have b1:q r 0:=e b0 s λn P=>P.elim;obtain⟨m3,h7,W,h8⟩:=id a5;obtain⟨m4,m5,m6,m7,a6,d2,d3,o9⟩:=W.row;have p0:=W.aB c W.self;have a2:∀{wa U wc:World} {S:Nat} {t E I:_} {a3:XN},aO aJ 3 a3 U t E I b2.bI->(∀n,a3 n->r.heap.size<=n/\n≠S)->U.heap[S]? =some (.cells #[XH b2.next] 3 (0,0))->ai r U->
    ∀κ ε,(∀X n' c' d,(∃l,aO aJ 3 l d X n' c' (b2.bI++[b2.next])/\(∀n,l n->Z.heap.size<=n)/\ai Z d)->ak (λn=>r.heap.size<=n) U d->κ (.slice X n' c') d)->
    aG XP (Builtin.append_ #[42,42] 42 #[.slice t E I,.slice (XM S) 1 1]) U κ ε:=by
   intro wa U wc S t E I a3 Q hF hg o κ ε c3;refine ko Q tO (D:=(·=S)) (Row.lit hg [b2.next] rfl (λd4 i=>by simp at i;subst i;exact e9) (by unfold aK;simp)) (λn g=>⟨g▸ax hg,λe8=>(hF n (Q.self n e8)).2 g⟩) (by unfold aK;simp;omega) (by unfold maxLen;simp;omega) λX c' d F' c7 a4 _ c9=>?_;refine c3 X _ c' d ⟨λn=>aF X=some n,c7.alone,λn P=>?_,?_⟩ (a4.mono λn _ P=>(hF n (Q.self n P)).1)
   ·have:=s.size;have:=o.size
    rcases c9 n P with h|h
    ·have:=(hF n h).1;omega
    ·omega
   ·exact(s.then o).new a4 λn P=>.inr (by have:=(hF n (Q.self n P)).1;have:=s.size;omega)
  have r0:k.heap.size<r.heap.size:=ax b1.1;refine⟨λn=>r.heap.size<=n,oM,_,ae b1.1 rfl,c,0,rfl,oM,_,_,_,ae a6 rfl,oM,_,ae b1.1 rfl,c,0,rfl,oM,_,ae a6 rfl,?_,?_⟩
  ·refine PC.ok (bA d2 λn P=>W.aB n (d3 n P).1) ?_
   rintro _ b4 ⟨r3,r4,r5,r6,rfl,a7,H,h9⟩;refine⟨_,_,_,rfl,H.af,PA.mk λx m m8 e3=>⟨m.af,a2 (wa:=x) (wc:=x) (a7.ah m) (λn P=>⟨h9 n P,by have:=a7.aB n P;omega⟩) e3 (H.then m) _ _ λX n' c' d hJ o=>⟨_,_,_,rfl,o,trivial,hJ⟩⟩⟩
  ·refine PA.mk λb4 H r7 m9=>⟨H.af,PC.ok (bA (d2.ah H) λn P=>by have:=W.aB n (d3 n P).1;have:=H.size;omega) ?_⟩
   rintro _ x ⟨n0,n1,n2,r8,rfl,a8,m,d5⟩;exact⟨_,_,_,rfl,m.af,a2 (wa:=x) (wc:=x) a8 (λn P=>⟨by have:=d5 n P;omega,by have:=d5 n P;omega⟩) (m.get m9 id) (H.then m) _ _ λX n' c' d hJ o=>⟨_,_,_,rfl,o,trivial,hJ⟩⟩
 rintro t E I _ r ⟨l,Q,hE,s⟩;have p1:(b2.bI++[b2.next]).length<=65:=by simp;omega
 have a5:bX b r a c b2 c4 (λn=>p n\/l n):=V.add s λn P=>⟨hE n P,Q.aB n P⟩
 have b1:q r 0:=e b0 s λn P=>P.elim;have d6:Row aJ 8 r l t E (b2.bI++[b2.next]):=Q.row dC ba;have f0:∀d4∈b2.bI++[b2.next],aH d4:=LK d6;obtain⟨m3,h7,W,h8⟩:=id a5;obtain⟨m4,m5,m6,m7,a6,-,-,-⟩:=W.row;refine⟨_,ae b1.1 rfl,c,0,rfl,_,ae a6 rfl,PC.ok (a5.on λZ' n4 T=>T.bZ hL.oL d6 f0 λn P=>.inr (n4 n (.inr P))) ?_⟩;rintro _ b4 ⟨rfl,a9,H⟩;have R:ak (di p) r b4:=H.mono λn _ P y=>P (.inl y);have c5:=j b1 R;have d7:=c1 (d1.ah s) R;have a7:=Q.af H λn P u=>u (.inr P);have b5:= @FD c4 (b2.bI++[b2.next]);have i0:True:=trivial;generalize r9:bZ c4 (b2.bI++[b2.next])=mw at a9 b5 i0⊢;obtain⟨s0,c6⟩:=mw;dsimp only at a9 b5 i0⊢;refine⟨_,rfl,an.dF (λv=>?_) (λF=>?_)⟩
 ·refine PS.mk c5.2.1 sM λx m m8 e3=>?_
  rw[Zx v];have f1:bX b b4 a c b2 c6 p:=a9.mono λn P=>.inl P;exact A _ c6 x (f1.other m λn P=>⟨P▸.inl (.inr (.inr rfl)),oM⟩) (d7.then (m.mono λn _ P i=>by have:=a1 n i;omega)) ⟨m.get c5.1 oM,e3,m.get c5.2.2 (by have:=b3.size;omega)⟩ v rfl
 rw[Zq (by simpa using F)];have b5:=b5 F;intro x n8;have m:ai b4 x:=n8.af;have i1:=a9.ah m;have e6:q x 0:=e c5 m λn P=>P.elim;have a8:=a7.ah m;obtain⟨s3,i2,d9,p2⟩:=id i1;obtain⟨n0,n1,n2,s7,i3,-,-,-⟩:=d9.row;have i4:∀n,l n->n≠c:=λn P g=>by have:=hE n P;omega
 have o0:c≠k.heap.size/\c≠B.heap.size/\c≠J.heap.size:=by have:=b3.size;omega
 refine⟨(·=c),_,ae e6.1 rfl,λg=>o0.1 g.symm,_,ae e6.1 rfl,c,0,rfl,PS.mk i3 sM λs8 i5 t0 o1=>⟨i5,c,0,rfl,PS.mk o1 sM λo2 i6 t1 i7=>⟨i6,?_⟩⟩⟩;have e2:=i5.then i6;have i8:q o2 0:=e e6 e2 λn P hc=>by subst P;omega
 refine⟨_,ae i8.1 rfl,c,0,rfl,_,ae i7 rfl,c,0,rfl,PS.mk i7 sM λc8 i9 t2 j0=>?_⟩;have o3:q c8 0:=e i8 i9 λn P hc=>by subst P;omega
 have a0:ak (·=c) x c8:=e2.then i9;refine PS.mk o3.2.1 sM λo4 o5 t3 j1=>Lv.one sM kR (CallsD.mono (iz (R:=λe' M=>e'= .returned (.tuple #[])/\M=o4) ⟨_,ae j1 rfl,an.dF (λhc=>Zz rfl hc) (λ_=>⟨rfl,rfl⟩)⟩) ?_);rintro e' u' _ ⟨rfl,rfl,rfl⟩;refine Lv.ret rfl ⟨_,ae j1 rfl,Ok.mk ?_⟩;have j2:c8.heap[c]? =some (.cells #[XL a,XH b2.size,.slice t E I,XH 0,XH (XG .i64 (b2.next+1))] 209 (0,0)):=j0;have j3:bX b c8 a c ⟨b2.size,b2.bI++[b2.next],0,XG .i64 (b2.next+1)⟩ c6 p:=by
  refine⟨λn=>n=c\/l n,?_,⟨⟨t,E,I,l,j2,a8.af a0 λn P g=>i4 n P g,λn P=>⟨.inr P,i4 n P⟩⟩,.inl rfl,?_,b5,?_⟩,?_⟩
  ·have h1:aR b x a c6 (λn=>p n\/(n=c\/l n)):=i2.mono λn P=>by
    rcases P with P|P|P
    ·exact .inl (.inl P)
    ·exact .inr (P▸d9.self)
    ·exact .inl (.inr P)
   obtain⟨a3,f2,f4,f3,f7⟩:=h1;exact⟨a3,f2.af a0 λn P g=>(f3 n P).2 (.inr (.inl g)),f4.new a0 λn P=>.inr oM,f3,λn P=>Qk (f7 n P) a0.size⟩
  ·rintro n (rfl|P)
   ·exact ax j0
   ·exact Qk (a8.aB n P) a0.size
  ·show aH (XG .i64 (b2.next+1))
   exact PQ _
  ·rintro n (rfl|P)
   ·exact⟨j4,λy=>by
     rcases y with(y|y|y)|y
     ·exact e7 y
     ·omega
     ·omega
     ·omega⟩
   ·have:=hE n P
    exact⟨by have:=V.gr.size;omega,λy=>by have:=V.aB n y;omega⟩
 exact g7 j3 ((d7.ah m).then (a0.mono λn _ P i=>e7 (P▸i))) o5 rfl
def gq(no:Int):ByteArray:=cy (aA no)
structure qe where
 no:Int
 out:List aj
 V:eu
 D:al
def jB:List Int->List aj->eu->al->qe
 |[],n,P,D=>⟨0,n,P,D⟩
 |no::a,n,P,D=>
  if(D.read (gq no)).2≠0 then⟨0,n,P,D⟩else
  if(bR (D.read (gq no)).1).2<(D.read (gq no)).1.length then
   ⟨(D.Hs (gq no) (bR (D.read (gq no)).1).2).1,n++(bR (D.read (gq no)).1).1,⟨P.size,P.bI++[no],(bR (D.read (gq no)).1).2,P.next⟩,(D.Hs (gq no) (bR (D.read (gq no)).1).2).2⟩
  else jB a (n++(bR (D.read (gq no)).1).1) ⟨P.size,P.bI++[no],(bR (D.read (gq no)).1).2,P.next⟩ D
section
variable {w0 w w1 w':World} {p q:Nat} {D D':al} {V V':eu} {X Y Z G S:XN}
def aR.eg(b:aR w0 w p D X)(c:ak Y w w')(d:∀n,Y n->X n/\w0.heap.size<=n)(e:∀n,Z n->(X n\/w.heap.size<=n)/\n<w'.heap.size):aR w0 w' p D Z:=by
 obtain⟨g,f,h,a,k⟩:=b;exact⟨g,f.af c λn P i=>(a n P).2 (d n i).1,h.new c λn P=>.inr (d n P).2,λn P=>⟨(a n P).1,λj=>(e n j).1.elim (a n P).2 λb=>by have:=f.aB n P;omega⟩,λn P=>(e n P).2⟩
def bX.eg(f:bX w0 w p q V D X)(a:ak Y w w')(b:∀n,Y n->X n/\w0.heap.size<=n)(c:∀n,Z n->(X n\/w.heap.size<=n)/\n<w'.heap.size):bX w0 w' p q V D Z:=by
 obtain⟨G,g,d,e⟩:=f;refine⟨G,g.eg a (λn P=>⟨.inl (b n P).1,(b n P).2⟩) λn P=>?_,d.af a λn P h=>(e n P).2 (b n h).1,λn P=>⟨(e n P).1,λi=>(c n i).1.elim (e n P).2 λf=>by have:=d.aB n P;omega⟩⟩;rcases P with P|P
 ·exact⟨(c n P).1.imp .inl id,(c n P).2⟩
 ·exact⟨.inl (.inr P),Qk (d.aB n P) a.size⟩
def PR{no B:Int}(h:bX w0 w p q V D X)(O:aH no)(Q:V.bI.length+1<=64)(s:∀w',bX w0 w' p q ⟨V.size,V.bI++[no],B,V.next⟩ D X->ak (di X) w w'->y w'):
  ∃C E,(XM q:ZH)=some ⟨C,E,none⟩/\∃(g:ZH) (t u:Nat),w.cell? ⟨C,E+2,none⟩=some (.slice g t u)/\
   PA w (.cells #[XH no] 3) λR=>aG XP (Builtin.append_ #[42,42] 42 #[.slice g t u,.slice (XM w.heap.size) 1 1]) R (λS T=>
    ∃(c:ZH) (F i:Nat),S= .slice c F i/\∃H I,(XM q:ZH)=some ⟨H,I,none⟩/\PS T ⟨H,I+2,none⟩ (.slice c F i) λU=>
     ∃J K,(XM q:ZH)=some ⟨J,K,none⟩/\PS U ⟨J,K+3,none⟩ (XH B) y) m:=by
 obtain⟨G,W,b,d⟩:=id h;obtain⟨g,t,u,a0,L,e,f⟩:=b.body;have a8:=b.aB q b.self;refine⟨q,0,rfl,_,_,_,ae L rfl,PA.mk λw1 j s1 Y=>?_⟩;refine ko (e.ah j) tO (D:=(·=w.heap.size)) (Row.lit Y [no] rfl (λa1 k=>by simp at k;subst k;exact O) (by unfold aK;simp)) (λn a=>⟨oM,λZ=>by have:=e.aB n (e.self n Z);omega⟩) (by unfold aK;simp;omega) (by unfold maxLen;simp;omega) λc i w2 F' l o _ v=>?_
 replace l:=l.alone
 have a6:¬aF g=some q:=λa=>(f q (e.self q a)).2 rfl;have g2:=o.get (j.get L id) a6;have z2:=o.size;have x:¬aF c=some q:=λa=>by
  rcases v q a with h|h
  ·exact(f q h).2 rfl
  ·omega
 refine⟨_,_,_,rfl,q,0,rfl,PS.mk g2 sM λw3 z s3 g3=>⟨q,0,rfl,PS.mk g3 sM λr A s4 g4=>s r ?_ ?_⟩⟩
 ·have a7:ak (λn=>aF g=some n\/n=q) w1 r:=((o.mono λn _ P=>.inl P).then (z.mono λn _ P=>.inr P)).then (A.mono λn _ P=>.inr P)
  have kG:ak G w r:=(ai.af j).then (a7.mono λn _ P=>P.elim (λh=>(f n (e.self n h)).1) λh=>h▸b.self);have M:∀n,aF c=some n->n<r.heap.size:=λn P=>by have:=l.aB n P;omega
  refine⟨λn=>n=q\/aF c=some n,W.eg kG (λn P=>⟨.inr P,(d n P).1⟩) λn P=>?_,⟨⟨c,_,i,(λn=>aF c=some n),g4,?_,λn P=>⟨.inr P,λa=>x (a▸P)⟩⟩,.inl rfl,?_,by simpa using Q,b.Aw⟩,?_⟩
  ·rcases P with P|rfl|P
   ·exact⟨.inl (.inl P),by have:=h.aB n P;omega⟩
   ·exact⟨.inl (.inr b.self),oM⟩
   ·refine⟨?_,M n P⟩
    rcases v n P with h|h
    ·exact .inl (.inr (f n h).1)
    ·exact .inr oM
  ·exact(l.af z λn P a=>x (a▸P)).af A λn P a=>x (a▸P)
  ·rintro n (rfl|P)
   ·omega
   ·exact M n P
  ·rintro n (rfl|P)
   ·exact d _ b.self
   ·rcases v n P with N|N
    ·exact d n (f n N).1
    ·exact⟨by have:=h.gr.size;omega,λk=>by have:=h.aB n k;omega⟩
 ·refine(((ai.af j).then (o.mono λn _ P=>?_)).then (z.mono λn _ P=>?_)).then (A.mono λn _ P=>?_)
  ·exact(d n (f n (e.self n P)).1).2
  ·exact(d n (P▸b.self)).2
  ·exact(d n (P▸b.self)).2
def TR{j n:Nat}(P:j<=64)(a:n<=j*262144):n<=16777216:=oM
def RY(w0 w:World)(p q:Nat)(X:XN)(n:qe)(d:Value)(w':World):Prop:=
 ∃a b c G,d= .tuple #[.slice a b c,XH n.no]/\aO uE 63 G w' a b c n.out/\bX w0 w' p q n.V n.D (λP=>X P\/G P)/\ak (di X) w w'/\(∀P,G P->w.heap.size<=P)/\n.out.length<=16777216
def PT(C:Laid w0)(h:bX w0 w p q V D X)(Q:Row aJ 8 w f d a t)(c4:∀n,f n->X n)(f5:V.bI.length+t.length<=64):
  ZG 110 #[XL q,.agg #[.slice d a c]] w (Ok (RY w0 w p q X (jB t [] V D))):=by
 have k:=Q.len;have R:=h.aB;have g0:=h.gr.size;refine tu (PA.mk λw1 S s1 g1=>⟨_,_,_,ae g1 rfl,λT U W Y Z w'=>∃(e:Nat) (g:eu) (b:List aj) (G:XN),Z=e/\e<=t.length/\T=t.length-e/\jB t [] V D=jB (t.drop e) b g D/\g.bI.length=V.bI.length+e/\b.length<=e*262144/\
  aO uE 63 G w' U W Y b/\bX w0 w' p q g D (λn=>X n\/G n)/\ak (di X) w w'/\∀n,G n->w.heap.size<=n,
  ⟨_,0,V,[],λ_=>False,rfl,Qj _,rfl,rfl,rfl,Qj _,aO.nil w1,(h.ah S).mono λn P=>P.elim id λh=>h.elim,ai.af S,λ_ h=>h.elim⟩,?_⟩)
 rintro T U W Y Z _ w2 ⟨e,g,b,G,rfl,hj,rfl,a4,g2,a0,l,hN,r,u⟩;rw[a4];refine an.dec (λg3=>?_) (λg4=>?_)
 rotate_left
 ·obtain rfl:e=t.length:=oM
  rw[List.drop_of_length_le (Q4 _)];exact Ok.mk ⟨_,_,_,G,rfl,l,hN,r,u,TR oM a0⟩
 obtain⟨n,E,no,rfl,m,i,F⟩:=(Q.af r λn P k=>k (c4 n P)).mr (i:=e) oM;have a2:t.drop e=no::t.drop (e+1):=by
  obtain⟨c8,rfl⟩:=Qv.1 m;exact X4 c8
 rw[a2]at a4⊢;refine⟨n,E,rfl,oM,oM,no,F,λw3 d3=>?_⟩;have k3:ai w2 w3:=d3.af;have H:=hN.ah k3;obtain⟨G3,d0,d1,g5⟩:=id H;obtain⟨a3,n3,c3,E3,d2,-,-,-⟩:=d1.row;refine⟨λ_=>False,q,0,rfl,id,_,ae d2 rfl,PC.ok (je (C.ah H.gr) i) ?_⟩;rintro _ w4 ⟨rfl,z⟩;have d4:=H.ah z;refine⟨_,rfl,z,PC.ok ((d0.ah z).read (k:=gq no)) ?_⟩;rintro _ w5 ⟨a5,n5,c5,F5,rfl,d5,g6,-,I⟩;have v:=d4.ah I;have x:ai w2 w5:=(k3.then z).then I;have g7:=d5.len dC;have g8:=Hz v.ok (gq no);refine⟨_,_,_,_,rfl,I,an.dF (λd6=>?_) (λhe=>?_)⟩
 ·rw[show jB (no::t.drop (e+1)) b g D=⟨0,b,g,D⟩ by unfold jB;rw[Zx d6]]
  exact Ok.mk ⟨_,_,_,G,rfl,l.ah x,v,r.ah x,u,TR oM a0⟩
 obtain⟨G5,d7,d8,g9⟩:=id v;obtain⟨h0,h2,h3,E5,e0,-,-,-⟩:=d8.row;obtain⟨a7,e1,-,-,-⟩:=id d7;refine⟨q,0,rfl,_,ae e0 rfl,PC.ok (PU (C.ah v.gr) e1 i) ?_⟩;rintro _ w6 ⟨a6,n6,c6,F6,rfl,s,J,K,a8⟩;have e2:bX w0 w6 p q g D (λn=>(X n\/G n)\/F6 n):=v.add J λn P=>⟨K n P,s.aB n P⟩
 have b0:=x.then J;have e3:=l.aB;generalize e4:bR (D.read (cy (aA no))).1=sl at s a8;obtain⟨j,o⟩:=sl;dsimp only at s a8;have a1:bR (D.read (gq no)).1=(j,o):=e4;have b1:Row uE 96 w6 F6 a6 n6 j:=s.row dC ba;refine⟨_,_,_,_,rfl,yR (l.ah b0) IL b1 (λL=>s.MG L) (λn P=>⟨s.aB n P,λF=>by have:=e3 n (l.self n F);have:=K n P;have:=x.size;omega⟩) ba (by unfold maxLen;omega) λa9 c7 w7 A b2 M b3 _=>?_⟩;have h4:=x.size;have z6:=J.size;have b4:=b2.aB;have e5:bX w0 w7 p q g D (λn=>X n\/A n):=e2.eg M (λn P=>⟨.inl (.inr (l.self n P)),by have:=u n (l.self n P);omega⟩) λn P=>by
  rcases P with P|P
  ·exact⟨.inl (.inl (.inl P)),by have:=R n P;have:=r.size;have:=M.size;omega⟩
  ·refine⟨?_,b4 n P⟩
   rcases b3 n P with h|h|h
   ·exact .inl (.inl (.inr h))
   ·exact .inl (.inr h)
   ·exact .inr h
 have e6:ak (di X) w w7:=(r.ah b0).then (M.mono λn _ P m=>by have:=u n (l.self n P);have:=R n m;omega);have b5:∀n,A n->w.heap.size<=n:=λn P=>by
  have:=r.size;rcases b3 n P with h|h|h
  ·exact u n h
  ·have:=K n h;omega
  ·omega
 refine⟨_,_,_,rfl,PR e5 i oM λw8 b6 k8=>?_⟩;have b7:ak (di X) w w8:=e6.then (k8.mono λn _ P m=>P (.inl m));have b8:=b2.af k8 λn P k=>k (.inr P);refine an.dec (λf6=>?_) (λf8=>?_)
 ·rw[show jB (no::t.drop (e+1)) b g D=⟨(D.Hs (gq no) o).1,b++j,⟨g.size,g.bI++[no],o,g.next⟩,(D.Hs (gq no) o).2⟩ by
   unfold jB;rw[a1,Zq (by simpa using he),Zx (by show o<_;omega)]]
  intro w9 d9;have N:ai w8 w9:=d9.af;have b9:=b6.ah N;obtain⟨G9,e7,O,e8⟩:=id b9;obtain⟨c0,n9,c9,E9,e9,-,-,-⟩:=O.row;refine⟨λn=>n≠q,q,0,rfl,λhs=>hs rfl,_,ae e9 rfl,PC.ok (je (C.ah b9.gr) i) ?_⟩;rintro _ f2 ⟨rfl,y⟩;refine⟨_,rfl,y.af,PC.ok ((e7.ah y).Hs (k:=gq no)) ?_⟩;rintro _ f3 ⟨rfl,c1,B⟩;have c2:ak (di X) f2 f3:=B.mono λn _ P m=>P (.inl (.inl m));refine⟨_,rfl,B.mono λn _ P L=>P (.inr (L▸O.self)),Ok.mk ⟨_,_,_,A,rfl,?_,⟨G9,c1,(O.ah y).af B λn P k=>k (.inr P),e8⟩,((b7.ah N).ah y).then c2,b5,?_⟩⟩
  ·exact((b8.ah N).ah y).af B λn P k=>k (.inl (.inr P))
  ·exact TR (j:=e+1) oM be
 ·refine⟨_,?_,e+1,⟨g.size,g.bI++[no],o,g.next⟩,b++j,A,aq oM,oM,rfl,?_,by simp;omega,by simp;omega,b8,b6,b7,b5⟩
  ·omega
  ·conv=>lhs;unfold jB
   rw[a1,Zq (by simpa using he),Zq (by show¬o<_;omega)]
end
def uW(D:al)(n:Int):eu:=⟨n,[],0,AU D⟩
def told(D:al):List Int:=(eU D).getD []
def oq(P:Nat)(n:qe):qe:=
 if n.no≠0 then n else
 if n.V.bI=[]then⟨(aZ n.V n.D).1,n.out,(aZ n.V n.D).2.1,(aZ n.V n.D).2.2⟩else
 if n.V.bI.length<P then⟨(bZ n.D n.V.bI).1,n.out,n.V,(bZ n.D n.V.bI).2⟩else n
def ey(D:al)(n:Int):qe:=oq (told D).length (jB (told D) [] (uW D n) D)
def RZ(e b:World)(f:Nat)(c:XN)(n:qe)(g:Value)(P:World):Prop:=
 (n.no≠0/\g= .tuple #[.pointer none,.slice none 0 0,XH n.no]/\aR e P f n.D c/\ak (di c) b P)\/
 (n.no=0/\∃d h i j G,g= .tuple #[XL d,.slice h i j,XH 0]/\aO uE 63 G P h i j n.out/\bX e P f d n.V n.D (λa=>c a\/G a)/\ak (di c) b P/\(∀a,G a->b.heap.size<=a)/\b.heap.size<=d/\n.out.length<=16777216)
def Hm{D:al}{size:Int}(s:Laid b)(h:aR b k a D f):
  ZG 73 #[XL a,XH size] k (Ok (RZ b k a f (ey D size))):=by
 have S:∀n,f n->n<k.heap.size:=by obtain⟨a0,h1,h2,h3,h4⟩:=h;exact h4
 have d1:=h.gr.size;obtain⟨a0,hF,-,-,-⟩:=id h;refine Ca (PC.ok (HH (s.ah h.gr) hF) ?_);rintro _ d ⟨rfl,F⟩;have T:=h.ah F;have d2:=DA D.list;refine⟨_,rfl,PA.mk λw2 U s2 g2=>PC.ok ((T.ah U).jw s.oL) ?_⟩;rintro _ t ⟨x,y,V,z,rfl,W,X,-,H⟩;have z1:=F.size;have z3:=H.size
 change aO aJ 3 z t x y V (told D)at W
 have d3:(told D).length<=64:=CU;have b4:ai d t:=U.then H;refine⟨_,_,_,_,rfl,PA.mk λw4 k4 s4 g4=>PS.mk g4 sM λj k5 s5 Y=>⟨_,_,_,ae Y rfl,?_⟩⟩;have b5:j.heap[t.heap.size]? =some (.cells #[.slice x y V] 211 (0,0)):=Y;have I:ai t j:=k4.new k5 λn P=>.inr oM;have Z:ai d j:=b4.then I;have a8:ai k j:=F.then Z;have b6:=I.get (H.get g2 id) id;have a9:=W.ah I
 let J:XN:=λn=>f n\/(z n\/n=t.heap.size)
 have b7:bX b j a d.heap.size (uW D size) D J:=by
  refine⟨(·=d.heap.size),T.eg Z (Y:=λ_=>False) (λn P=>P.elim) λn P=>?_,⟨⟨none,0,0,λ_=>False,b6,aO.nil j,λ_ h=>h.elim⟩,rfl,λn P=>oM,Qj _,?_⟩,λn P=>⟨oM,λE=>?_⟩⟩
  ·rcases P with(P|P|P)|P
   ·exact⟨.inl P,by have:=S n P;omega⟩
   ·exact⟨.inr (by have:=X n P;omega),a9.aB n P⟩
   ·exact⟨.inr oM,oM⟩
   ·exact⟨.inr oM,oM⟩
  ·show aH (xz D.list);unfold aH;omega
  ·subst P
   rcases E with E|E|E
   ·have:=S _ E;omega
   ·have:=X _ E;omega
   ·omega
 have K:Row aJ 8 j z x y (told D):=a9.row dC ba;refine PC.ok (PT s b7 K (λn P=>.inr (.inl P)) (by show 0+_<=_;omega)) ?_;rintro _ L ⟨a6,n6,c6,l,rfl,A,u,M,b8,b0⟩;have z5:=a8.size;have hq:k.heap.size<=d.heap.size:=z1;have N:ak (di f) k L:=(ai.af a8).then (M.mono λn _ P E=>P (.inl E));have g6:=M.get b5 λi=>i (.inr (.inr rfl));have b9:Row aJ 8 L z x y (told D):=K.af M λn P i=>i (.inr (.inl P));have d4:=K.len;show _;unfold ey;generalize jB (told D) [] (uW D size) D=e at A u b0;have b1:∀n,l n->k.heap.size<=n:=λn P=>by have:=b8 n P;omega
 refine⟨_,_,_,_,rfl,λno m=>∃o p,oq (told D).length e=⟨no,e.out,o,p⟩/\aO uE 63 l m a6 n6 c6 e.out/\bX b m a d.heap.size o p (λn=>f n\/l n)/\ak (di f) k m,?_,?_⟩
 ·have c:∀{m o p},bX b m a d.heap.size o p (λn=>J n\/l n)->bX b m a d.heap.size o p (λn=>f n\/l n):=λh=>h.mono λn P=>P.imp .inl id
  refine an.dF (λq=>⟨e.V,e.D,by unfold oq;rw[Zx q],A,c u,N⟩) (λv=>?_);obtain⟨GL,c1,b2,c2⟩:=id u;obtain⟨aL,nL,cL,EL,O,b3,c4,c5⟩:=b2.row;refine⟨_,_,rfl,_,_,_,ae O rfl,an.dE (λhz=>?_) (λc7=>?_)⟩
  ·have Q:e.V.bI=[]:=QW oM
   refine PC.ok (DD s u) ?_;rintro _ B ⟨rfl,r,g⟩;exact⟨_,rfl,_,_,by unfold oq;rw[Zq (by simpa using v),Zx Q],A.af g λn P i=>i (.inr P),c r,N.then (g.mono λn _ P E=>P (.inl (.inl E)))⟩
  ·have q:¬e.V.bI=[]:=λa1=>c7 (by rw[c5,a1];rfl)
   refine⟨_,_,rfl,_,_,_,ae O rfl,_,_,_,ae g6 rfl,λB d7=>?_⟩;have g:ai L B:=d7.af;have r:=u.ah g;have C:=A.ah g;have w:ak (di f) k B:=N.ah g;refine an.dec (λd5=>?_) (λd6=>⟨_,_,by unfold oq;rw[Zq (by simpa using v),Zq q,Zq oM],C,c r,w⟩);have c8:=g.get O id;refine⟨_,_,rfl,_,_,_,ae c8 rfl,PC.ok ((c1.ah g).bZ s.oL (b3.ah g) (LK b3) λn P=>.inr (.inr (c4 n P).1)) ?_⟩;rintro _ w8 ⟨rfl,c9,R⟩;have d0:bX b w8 a d.heap.size e.V (bZ e.D e.V.bI).2 (λn=>J n\/l n):=⟨GL,c9,(b2.ah g).af R λn P i=>i (.inr P),c2⟩
   exact⟨_,rfl,_,_,by unfold oq;rw[Zq (by simpa using v),Zq q,Zx oM],C.af R λn P i=>i (.inl (.inr P)),c d0,w.then (R.mono λn _ P E=>P (.inl (.inl (.inl E))))⟩
 ·rintro no _ B ⟨o,p,Q,C,r,w⟩
  rw[Q];refine an.dF (λq=>Ok.mk (.inl ⟨q,rfl,r.uL.mono λn P=>.inl P,w⟩)) (λv=>Ok.mk (.inr ⟨v,d.heap.size,a6,n6,c6,l,by rfl,C,r,w,b1,hq,b0⟩))
def fT(n:aj):Bool:=decide (64<n.aP.length)
def bk(P:eu)(D:al)(a:List aj):Int×eu×al:=
 if a.any fT then(3,P,D)else if a=[]then(0,P,D)else
 let n:=if P.size<=P.bytes then aZ P D else(0,P,D)
 if n.1≠0 then n else
 let b:=n.2.2.append n.2.1.last (dX a)
 if b.1≠0 then(b.1,n.2.1,b.2)else(0,⟨n.2.1.size,n.2.1.bI,XG .i64 (n.2.1.bytes+((dX a).length:Nat)),n.2.1.next⟩,b.2)
def sr{D:al}(n:(aZ b2 D).1=0):(aZ b2 D).2.1.bI≠[]:=by
 have c:∀P:al,(qC b2 P).1=0->(qC b2 P).2.1.bI≠[]:=by
  intro P;unfold qC;dsimp only;split
  ·rename_i a;intro n;exact Zz n a
  ·split
   ·rename_i a;intro n;exact Zz n a
   ·intro _;simp
 have b:∀P:al,(mi b2 P).1=0->(mi b2 P).2.1.bI≠[]:=by
  intro P;unfold mi;dsimp only;split
  ·rename_i a;intro n;exact Zz n a
  ·exact c _
 revert n
 unfold aZ;dsimp only;split
 ·exact b D
 ·split
  ·rename_i a;intro n;exact Zz n a
  ·exact b _
def Ln(n:o.Ok)(P:o.aP.length<=64):(wy o).length<=675:=by
 have:=LJ n P;have a:=qb n P;unfold wy at*;rw[kJ];omega
def nX(n:List aj)(P:aj):dX (n++[P])=dX n++wy P:=by simp[dX]
def Kr{D:al}{t De:XN}{v b5:Nat}(V:Laid b)(u:bX b k a c b2 D t)(d1:b2.bI≠[])(hr:Row jo 96 k De d v J)(d4:∀n,De n->n<k.heap.size)(hl:J.length<=20000000):
  ZG 134 #[XL c,.slice d v b5] k (Ok (DB b k a c t (bk b2 D J))):=by
 have z:=hr.len;have e8:=u.aB;refine ry ⟨λa5 K L W a6 w=>∃(f:Nat) (x:XN),a6=f/\f<=v/\a5=v-f/\(∀e∈J.take f,e.Ok/\e.aP.length<=64)/\(dX (J.take f)).length<=675*f/\aO fx 5 x w K L W (dX (J.take f))/\ai k w/\∀n,x n->k.heap.size<=n,
  ⟨_,0,λ_=>False,rfl,Qj _,rfl,sM,by simp[dX],aO.nil k,ak.refl _,λ_ u=>u.elim⟩,?_⟩
 rintro a5 K L W a6 _ X ⟨f,x,rfl,hj,rfl,Z,d5,o,j,hF⟩;have b3:=o.len dC;refine an.dec (λd6=>?_) (λd7=>?_)
 ·obtain⟨n,a0,e,es,rfl,_,_,p,g,b6,n1,c1,rfl,hd,M⟩:=(hr.ah j).yP (i:=f) oM
  have l:=λi (hi:i<10)=>g i hi;refine⟨n,a0,rfl,oM,oM,_,_,_,_,_,_,_,_,_,_,_,_,l 0 dC,l 1 dC,l 2 dC,l 3 dC,l 4 dC,l 5 dC,l 6 dC,l 7 dC,l 8 dC,l 9 dC,PA.mk λA B s2 g2=>?_⟩;refine storeAll (aC e b6 n1 c1) g2 rfl λC q s3 m=>?_;have y:ai X C:=B.new q λn P=>.inr oM;refine⟨_,_,_,_,_,_,_,_,_,_,_,_,ae m rfl,ae m rfl,ae m rfl,ae m rfl,ae m rfl,ae m rfl,ae m rfl,ae m rfl,ae m rfl,ae m rfl,?_⟩;refine PC.ok (CV (V.ah ((u.gr.then j).then y)) (hd.ah y) M λn P=>by have:=d4 n P;have:=(j.then y).size;omega) ?_;rintro _ w4 ⟨c0,n4,e9,F4,rfl,r,s,b4⟩
  by_cases N:e.aP.length<=64
  ·have a8:=qb M N
   rw[a8]at r⊢;have f0:=Ln M N;refine⟨_,_,_,_,rfl,an.dF (λg=>Zz rfl g) (λ_=>?_)⟩;have a9:=y.then s;have c2:Row fx 1 w4 F4 c0 n4 (wy e):=r.row (bytes:=1) dC (by unfold aK;dsimp only;omega);have f2:=a9.size;have f3:=y.size;refine yR (o.ah a9) sJ c2 (λe=>r.MG e) (λn P=>⟨r.aB n P,λg=>by have:=o.aB n (o.self n g);have:=b4 n P;omega⟩) ba (by unfold maxLen;omega) λa7 c5 w5 F5 b0 d8 d9 _=>?_;have b1:J.take (f+1)=J.take f++[e]:=by rw[Qw,p];rfl
   refine⟨_,_,_,rfl,v-(f+1),oM,f+1,F5,aq oM,oM,rfl,?_,?_,?_,(j.then a9).new d8 λn P=>.inr (by have:=hF n (o.self n P);omega),?_⟩
   ·rw[b1]
    intro c3 a1;rcases Q6.1 a1 with Y|Y
    ·exact Z c3 Y
    ·simp at Y;subst Y;exact⟨M,N⟩
   ·rw[b1,nX];simp;omega
   ·rw[b1,nX];exact b0
   ·intro n P
    have:=j.size;rcases d9 n P with Y|Y|Y
    ·exact hF n Y
    ·have:=b4 n Y;omega
    ·omega
  ·have a8:=xh N
   rw[a8]at r⊢;refine⟨_,_,_,_,rfl,an.dF (λ_=>?_) (λg=>Zz g dC)⟩;have c4:J.any fT=true:=List.any_eq_true.2 ⟨e,QZ p,by unfold fT;simp;omega⟩;refine Ok.mk ?_;rw[show bk b2 D J=(3,b2,D) by unfold bk;rw[Zx c4]];have b7:=(j.then y).then s;exact⟨rfl,u.ah b7,ai.af b7⟩
 ·obtain rfl:f=v:=oM
  rw[Qz oM]at Z d5 o b3;have b8:J.any fT=false:=by
   rw[<-Bool.not_eq_true];intro g;obtain⟨e,he,h2⟩:=List.any_eq_true.1 g;have:=(Z e he).2;unfold fT at h2;simp at h2;omega
  refine an.dE (λhz=>?_) (λe0=>?_)
  ·have he:J=[]:=QW oM
   refine Ok.mk ?_;rw[show bk b2 D J=(0,b2,D) by unfold bk;rw[Zq (by simp[b8]),Zx he]];exact⟨rfl,u.ah j,ai.af j⟩
  have e2:J≠[]:=λe=>e0 (by rw[z,e];rfl)
  let E:XN:=λn=>t n\/x n
  have b9:bX b X a c b2 D E:=u.add j λn P=>⟨hF n P,o.aB n P⟩
  have c7:bk b2 D J=if(if b2.size<=b2.bytes then aZ b2 D else(0,b2,D)).1≠0 then(if b2.size<=b2.bytes then aZ b2 D else(0,b2,D))else
    if((if b2.size<=b2.bytes then aZ b2 D else(0,b2,D)).2.2.append (if b2.size<=b2.bytes then aZ b2 D else(0,b2,D)).2.1.last (dX J)).1≠0 then(((if b2.size<=b2.bytes then aZ b2 D else(0,b2,D)).2.2.append (if b2.size<=b2.bytes then aZ b2 D else(0,b2,D)).2.1.last (dX J)).1,(if b2.size<=b2.bytes then aZ b2 D else(0,b2,D)).2.1,((if b2.size<=b2.bytes then aZ b2 D else(0,b2,D)).2.2.append (if b2.size<=b2.bytes then aZ b2 D else(0,b2,D)).2.1.last (dX J)).2)
    else(0,⟨(if b2.size<=b2.bytes then aZ b2 D else(0,b2,D)).2.1.size,(if b2.size<=b2.bytes then aZ b2 D else(0,b2,D)).2.1.bI,XG .i64 ((if b2.size<=b2.bytes then aZ b2 D else(0,b2,D)).2.1.bytes+((dX J).length:Nat)),(if b2.size<=b2.bytes then aZ b2 D else(0,b2,D)).2.1.next⟩,((if b2.size<=b2.bytes then aZ b2 D else(0,b2,D)).2.2.append (if b2.size<=b2.bytes then aZ b2 D else(0,b2,D)).2.1.last (dX J)).2):=by
   unfold bk;rw[Zq (by simp[b8]),Zq e2]
  obtain⟨GL,f5,e3,f6⟩:=id b9;obtain⟨aL,nL,cL,EL,gL,f8,g0,g1⟩:=e3.row;rw[c7];refine⟨λw=>∃F O,(if b2.size<=b2.bytes then aZ b2 D else(0,b2,D))=(0,F,O)/\F.bI≠[]/\bX b w a c F O E/\ak (di t) k w/\aO fx 5 x w K L W (dX J),?_,?_⟩
  ·refine⟨c,0,rfl,_,ae gL rfl,c,0,rfl,_,ae gL rfl,λA d2=>?_⟩
   have B:ai X A:=d2.af;have Q:=b9.ah B;have R:=o.ah B;have S:ak (di t) k A:=ai.af (j.then B);refine an.dec (λd7=>?_) (λd6=>⟨b2,D,by rw[Zq oM],d1,Q,S,R⟩);refine PC.ok (DD V Q) ?_;rintro _ C ⟨rfl,H,q⟩;have c6:ak (di t) k C:=S.then (q.mono λn _ P p=>P (.inl p));have a2:(if b2.size<=b2.bytes then aZ b2 D else(0,b2,D))=aZ b2 D:=Zx oM;rw[a2];refine⟨_,rfl,an.dF (λa3=>?_) (λT=>⟨_,_,by rw[<-T],sr T,H,c6,R.af q λn P z=>z (.inr P)⟩)⟩;rw[Zx a3];exact Ok.mk ⟨rfl,H.mono λn P=>.inl P,c6⟩
  ·rintro _ A ⟨F,O,a2,d3,Q,S,R⟩ C e1
   rw[a2];have q:ai A C:=e1.af;have H:=Q.ah q;have e4:=R.ah q;obtain⟨G3,e5,U,I⟩:=id H;obtain⟨f1,n3,f4,E3,e6,-,-,-⟩:=U.row;refine⟨λn=>n≠c,c,0,rfl,λhs=>hs rfl,_,ae e6 rfl,PC.ok (HI (V.ah H.gr) U d3) ?_⟩;rintro _ w4 ⟨rfl,s⟩;have r:=e4.ah s;have e7:Row fx 1 w4 x K L (dX J):=r.row (bytes:=1) dC ba;refine⟨_,rfl,s.af,PC.ok ((e5.ah s).append e7 (λe=>r.MG e) λn P=>.inr (.inl (.inr P))) ?_⟩;rintro _ w5 ⟨rfl,a4,k5⟩;have h:=(U.ah s).af k5 λn P z=>z (.inr P);have c8:ak (di t) k w5:=((S.ah q).ah s).then (k5.mono λn _ P p=>P (.inl (.inl p)));refine⟨_,rfl,k5.mono λn _ P e=>P (.inr (e▸U.self)),?_⟩;rw[Zq (λg:((0,F,O):Int×eu×al).1≠0=>g rfl)];refine an.dF (λa3=>?_) (λT=>?_)
   ·rw[Zx a3]
    exact Ok.mk ⟨rfl,bX.mono (X:=E) ⟨G3,a4,h,I⟩ λn P=>.inl P,c8⟩
   ·rw[Zq (by simpa using T)]
    obtain⟨a7,n5,c5,E5,c9,b0,d0⟩:=h.body;refine⟨c,0,rfl,_,ae c9 rfl,c,0,rfl,PS.mk c9 sM λw6 k6 s6 g6=>Ok.mk ⟨rfl,?_,c8.then (k6.mono λn _ P p=>(I n (P▸h.self)).2 (.inl p))⟩⟩;rw[b3]at g6;refine bX.mono (X:=E) ⟨G3,a4.eg k6 (λn P=>⟨.inr (P▸h.self),(I n (P▸h.self)).1⟩) (λn P=>⟨.inl P,by have:=(P.elim (bX.aB (X:=E) ⟨G3,a4,h,I⟩ n) (h.aB n):n<w5.heap.size);omega⟩),⟨⟨a7,n5,c5,E5,g6,b0.af k6 λn P e=>(d0 n P).2 e,d0⟩,h.self,λn P=>by have:=h.aB n P;omega,h.many,h.Aw⟩,I⟩ λn P=>.inl P
def bK(n:List aj):List UInt8×Int:=if n.any fT then([],3)else(dX n,0)
def JQ(V:Laid b)(C:Row jo 96 b f d a J)(W:∀n,f n->n<b.heap.size)(hl:J.length<=20000000):
  ZG 142 #[.slice d a c] b (Ok λX q=>∃E F H l,X= .tuple #[.slice E F H,XH (bK J).2]/\aO fx 5 l q E F H (bK J).1/\ai b q/\∀n,l n->b.heap.size<=n):=by
 have hn:=C.len;refine vY ⟨λI K L N O q=>∃(P:Nat) (l:XN),O=P/\P<=a/\I=a-P/\(∀e∈J.take P,e.Ok/\e.aP.length<=64)/\(dX (J.take P)).length<=675*P/\aO fx 5 l q K L N (dX (J.take P))/\ai b q/\∀n,l n->b.heap.size<=n,
  ⟨_,0,λ_=>False,rfl,Qj _,rfl,sM,by simp[dX],aO.nil b,ak.refl _,λ_ u=>u.elim⟩,?_⟩
 rintro I K L N O _ Y ⟨P,l,rfl,hj,rfl,v,Z,o,m,w⟩;refine an.dec (λa9=>?_) (λb0=>?_)
 ·obtain⟨n,x,e,es,rfl,_,_,Q,j,a1,n1,c1,rfl,hd,s⟩:=(C.ah m).yP (i:=P) oM
  have g:=λi (hi:i<10)=>j i hi;refine⟨n,x,rfl,oM,oM,_,_,_,_,_,_,_,_,_,_,_,_,g 0 dC,g 1 dC,g 2 dC,g 3 dC,g 4 dC,g 5 dC,g 6 dC,g 7 dC,g 8 dC,g 9 dC,PA.mk λw2 k2 s2 g2=>?_⟩;refine storeAll (aC e a1 n1 c1) g2 rfl λw3 k3 s3 h=>?_;have p:ai Y w3:=k2.new k3 λn k=>.inr oM;refine⟨_,_,_,_,_,_,_,_,_,_,_,_,ae h rfl,ae h rfl,ae h rfl,ae h rfl,ae h rfl,ae h rfl,ae h rfl,ae h rfl,ae h rfl,ae h rfl,?_⟩;refine PC.ok (CV (V.ah (m.then p)) (hd.ah p) s λn k=>by have:=W n k;have:=(m.then p).size;omega) ?_;rintro _ R ⟨a4,n4,c4,F4,rfl,r,S,T⟩
  by_cases t:e.aP.length<=64
  ·have y:=qb s t
   rw[y]at r⊢;have b1:=Ln s t;refine⟨_,_,_,_,rfl,an.dF (λj=>Zz rfl j) (λ_=>?_)⟩;have z:=p.then S;have a0:Row fx 1 R F4 a4 n4 (wy e):=r.row (bytes:=1) dC (by unfold aK;dsimp only;omega);have b2:=z.size;have b3:=p.size;refine yR (o.ah z) sJ a0 (λe=>r.MG e) (λn k=>⟨r.aB n k,λj=>by have:=o.aB n (o.self n j);have:=T n k;omega⟩) ba (by unfold maxLen;omega) λb4 c5 w5 F5 a3 a6 a7 _=>?_;have A:J.take (P+1)=J.take P++[e]:=by rw[Qw,Q];rfl
   refine⟨_,_,_,rfl,a-(P+1),oM,P+1,F5,aq oM,oM,rfl,?_,?_,?_,(m.then z).new a6 λn k=>.inr (by have:=w n (o.self n k);omega),?_⟩
   ·rw[A]
    intro a2 B;rcases Q6.1 B with M|M
    ·exact v a2 M
    ·simp at M;subst M;exact⟨s,t⟩
   ·rw[A,nX];simp;omega
   ·rw[A,nX];exact a3
   ·intro n k
    have:=m.size;rcases a7 n k with M|M|M
    ·exact w n M
    ·have:=T n M;omega
    ·omega
  ·have y:=xh t
   rw[y]at r⊢;refine⟨_,_,_,_,rfl,an.dF (λ_=>?_) (λj=>Zz j dC)⟩;have a5:J.any fT=true:=List.any_eq_true.2 ⟨e,QZ Q,by unfold fT;simp;omega⟩;rw[show bK J=([],3) by unfold bK;rw[Zx a5]];exact Ok.mk ⟨none,0,0,λ_=>False,rfl,aO.nil R,(m.then p).then S,λ_ u=>u.elim⟩
 ·obtain rfl:P=a:=oM
  rw[Qz oM]at v Z o;have a8:J.any fT=false:=by
   rw[<-Bool.not_eq_true];intro j;obtain⟨e,he,U⟩:=List.any_eq_true.1 j;have:=(v e he).2;unfold fT at U;simp at U;omega
  rw[show bK J=(dX J,0) by unfold bK;rw[Zq (by simp[a8])]];exact Ok.mk ⟨_,_,_,l,rfl,o,m,w⟩
def eK(no:Int)(d:List UInt8)(D:al):Int×al:=
 let n:=cy (aA no)
 let P:=D.create n
 if P.1≠0 then(P.1,P.2)else
 let a:=P.2.append n d
 if a.1≠0 then(a.1,(a.2.delete n).2)else
 let b:=a.2.sync n
 if b.1≠0 then(b.1,(b.2.delete n).2)else
 let c:=bZ b.2 [no]
 (c.1,if c.1≠0 then(c.2.delete n).2 else c.2)
def MH{D:al}{no:Int}(hL:Laid b)(L:aR b k a D f)(R:aH no)(e:Row fx 1 k Y d c x)(c0:d=none->c=0/\i=0)(b2:∀n,Y n->f n):
  ZG 143 #[XL a,XH no,.slice d c i] k (Ok (mX b k a f (eK no x D))):=by
 have e2:=L.gr.size;have S:∀n,f n->n<k.heap.size:=by obtain⟨a3,f1,f2,T,U⟩:=L;exact U
 refine xY (PA.mk λw k1 s1 g1=>PA.mk λw2 V s2 g2=>PC.ok (je (hL.ah ((L.gr.then k1).then V)) R) ?_);rintro _ W ⟨rfl,M⟩;have z3:=M.size;refine⟨_,rfl,PA.mk λw4 X s4 g4=>PS.mk g4 sM λZ k5 s5 g5=>?_⟩
 let s:XN:=λn=>f n\/(n=k.heap.size\/n=w.heap.size\/n=W.heap.size)
 have b3:ai k Z:=((((k1.then V).then M).then X)).new k5 λn e=>.inr oM;have d0:aR b Z a D s:=L.add b3 λn e=>by omega
 let y:World->Int->Prop:=λh l=>h.heap[k.heap.size]? =some (.cells #[XL a] 93 (0,0))/\h.heap[w.heap.size]? =some (.cells #[XH l] 34 (0,0))/\h.heap[W.heap.size]? =some (.cells #[.string (cy (aA no))] 9 (0,0))
 have C5:y Z 0:=⟨k5.get (X.get (M.get (V.get g1 id) id) id) oM,k5.get (X.get (M.get g2 id) id) oM,g5⟩
 have g:∀{h o:World} {l:Int},y h l->ak (di s) h o->y o l:=λm t=>
  ⟨t.get m.1 λp=>p (.inr (.inl rfl)),t.get m.2.1 λp=>p (.inr (.inr (.inl rfl))),t.get m.2.2 λp=>p (.inr (.inr (.inr rfl)))⟩
 have H:∀{h o:World},ak (di f) k h->ak (di s) h o->ak (di f) k o:=λd n=>d.then (n.mono λn _ e q=>e (.inl q));have P:∀{h:World} {l B:Int} {u:al} {κ:XU},y h l->aR b h a u s->ak (di f) k h->(∀o,y o B->aR b o a u s->ak (di f) k o->ak (·=w.heap.size) h o->κ o)->PS h ⟨w.heap.size,0,none⟩ (XH B) κ:=by
  intro h l B u κ m hN t a0;have h1:=ax m.2.1;refine PS.mk m.2.1 sM λo z e3 d1=>a0 o ⟨z.get m.1 oM,d1,z.get m.2.2 oM⟩ ?_ (t.then (z.mono λn _ e q=>by have:=S n q;omega)) z;obtain⟨a3,f1,f2,T,U⟩:=hN;exact⟨a3,f1.af z λn e l=>(T n e).2 (.inr (.inr (.inl l))),f2.new z λn e=>.inr oM,T,λn e=>Qk (U n e) z.size⟩
 have j:∀{I:Int×al} (l:Int) (u:al) (h:World),aR b h a u s->ak (di f) k h->y h l->I=(l,if l≠0 then(u.delete (cy (aA no))).2 else u)->
   Lv XP (λb4=>∃b5:Int,b4.cell? ⟨w.heap.size,0,none⟩=some (XH b5)/\Ok (mX b k a f I) (.returned (XH b5)) b4) (λch h=>Ok (mX b k a f I) (.panicked ch) h)
    ([{target:=.fn (.func 212) #[XL w.heap.size,XL k.heap.size,XL W.heap.size],args:= #[]}]:List Deferred) .returning h:=by
  intro I l u h p t m hr;refine Lv.one sM kR (CallsD.mono (sV (R:=λB J=>B= .returned (.tuple #[])/\∃b6:Int,J.cell? ⟨w.heap.size,0,none⟩=some (XH b6)/\Ok (mX b k a f I) (.returned (XH b6)) J) ⟨_,ae m.2.1 rfl,an.dF (λr=>⟨_,ae m.1 rfl,_,ae m.2.2 rfl,PC.ok p.delete ?_⟩) (λA=>⟨rfl,_,ae m.2.1 rfl,Ok.mk ?_⟩)⟩) ?_)
  ·rintro _ wb ⟨rfl,d2,kb⟩
   have d3:=g m kb;refine⟨_,rfl,rfl,_,ae d3.2.1 rfl,Ok.mk ?_⟩;rw[hr,Zx r];exact⟨rfl,d2.mono λn e=>.inl e,H t kb⟩
  ·rw[hr,Zq (by simpa using A)]
   exact⟨rfl,p.mono λn e=>.inl e,t⟩
  ·rintro B u' J ⟨rfl,rfl,S⟩
   exact Lv.ret rfl S
 refine⟨_,ae C5.1 rfl,_,ae C5.2.2 rfl,PC.ok d0.create ?_⟩;rintro _ w6 ⟨rfl,b7,k6⟩;have C6:=g C5 k6;have d4:=H (ai.af b3) k6;have hW:eK no x D=if(D.create (cy (aA no))).1≠0 then((D.create (cy (aA no))).1,(D.create (cy (aA no))).2)else
   if((D.create (cy (aA no))).2.append (cy (aA no)) x).1≠0 then(((D.create (cy (aA no))).2.append (cy (aA no)) x).1,(((D.create (cy (aA no))).2.append (cy (aA no)) x).2.delete (cy (aA no))).2)else
   if((((D.create (cy (aA no))).2.append (cy (aA no)) x).2).sync (cy (aA no))).1≠0 then(((((D.create (cy (aA no))).2.append (cy (aA no)) x).2).sync (cy (aA no))).1,(((((D.create (cy (aA no))).2.append (cy (aA no)) x).2).sync (cy (aA no))).2.delete (cy (aA no))).2)else
   ((bZ ((((D.create (cy (aA no))).2.append (cy (aA no)) x).2).sync (cy (aA no))).2 [no]).1,if(bZ ((((D.create (cy (aA no))).2.append (cy (aA no)) x).2).sync (cy (aA no))).2 [no]).1≠0 then((bZ ((((D.create (cy (aA no))).2.append (cy (aA no)) x).2).sync (cy (aA no))).2 [no]).2.delete (cy (aA no))).2 else(bZ ((((D.create (cy (aA no))).2.append (cy (aA no)) x).2).sync (cy (aA no))).2 [no]).2):=rfl
 rw[hW];generalize D.create (cy (aA no))=cr at b7⊢;refine⟨_,rfl,P C6 b7 d4 λJ C b8 a5 k7=>⟨_,ae C.2.1 rfl,an.dF (λr=>?_) (λA=>?_)⟩⟩
 ·refine⟨_,ae C.2.1 rfl,P C b8 a5 λw8 C8 N a6 k8=>⟨_,ae C8.2.1 rfl,Ok.mk ?_⟩⟩
  rw[Zx r];exact⟨rfl,N.mono λn e=>.inl e,a6⟩
 rw[Zq (by simpa using A)];have d5:Row fx 1 J Y d c x:=e.af a5 λn e p=>p (b2 n e);refine⟨_,ae C.1 rfl,_,ae C.2.2 rfl,PC.ok (b8.append d5 c0 λn e=>.inr (.inl (b2 n e))) ?_⟩;rintro _ w8 ⟨rfl,N,k8⟩;have C8:=g C k8;have a6:=H a5 k8;generalize cr.2.append (cy (aA no)) x=ap at N⊢;refine⟨_,rfl,P C8 N a6 λw9 E b9 c1 k9=>⟨_,ae E.2.1 rfl,an.dF (λr=>?_) (λA=>?_)⟩⟩
 ·refine⟨_,ae E.2.1 rfl,P E b9 c1 λc2 a7 O a1 a8=>?_⟩
  rw[Zx r];exact j _ _ c2 O a1 a7 (by rw[Zx r])
 rw[Zq (by simpa using A)];refine⟨_,ae E.1 rfl,_,ae E.2.2 rfl,PC.ok b9.sync ?_⟩;rintro _ c2 ⟨rfl,O,a8⟩;have a7:=g E a8;have a1:=H c1 a8;generalize ap.2.sync (cy (aA no))=sy at O⊢;refine⟨_,rfl,P a7 O a1 λa9 K a4 b1 e4=>⟨_,ae K.2.1 rfl,an.dF (λr=>?_) (λA=>?_)⟩⟩
 ·refine⟨_,ae K.2.1 rfl,P K a4 b1 λF b0 a2 c3 Q=>?_⟩
  rw[Zx r];exact j _ _ F a2 c3 b0 (by rw[Zx r])
 rw[Zq (by simpa using A)];refine⟨_,ae K.1 rfl,PA.mk λF Q e5 c4=>?_⟩;have a2:aR b F a sy.2 (λn=>s n\/n=a9.heap.size):=a4.add Q λn e=>by subst e;exact⟨Q4 _,ax c4⟩
 have c5:Row aJ 8 F (·=a9.heap.size) (XM a9.heap.size) 1 [no]:=Row.lit c4 [no] rfl (λc6 q=>by simp at q;subst q;exact R) (by unfold aK;simp);refine PC.ok (a2.bZ hL.oL c5 (λc6 q=>by simp at q;subst q;exact R) λn e=>.inr (.inr e)) ?_;rintro _ d6 ⟨rfl,c7,d7⟩;have v:ak (di s) F d6:=d7.mono λn _ e hy=>e (.inl hy);have b0:y F sy.1:=g K (ai.af Q);have d8:=g b0 v;have c8:=H (b1.ah Q) v;exact⟨_,rfl,P d8 (c7.mono λn e=>.inl e) c8 λd9 e0 c9 e1 e6=>j _ _ d9 c9 e1 e0 rfl⟩
def qd:List Int->al->al
 |[],D=>D
 |no::n,D=>if(D.delete (gq no)).1≠0 then(D.delete (gq no)).2 else qd n (D.delete (gq no)).2
def ck(n:eu)(D:al)(P:List aj)(a:Int):qe:=
 if(bK P).2≠0 then⟨(bK P).2,[],n,D⟩else
 if(eK n.next (bK P).1 D).1≠0 then⟨(eK n.next (bK P).1 D).1,[],n,(eK n.next (bK P).1 D).2⟩else
 ey (qd n.bI (eK n.next (bK P).1 D).2) a
def JR(c g:World)(d h:Nat)(i:eu)(a:XN)(P:qe)(e:Value)(b:World):Prop:=
 ∃G,iA b d h G i/\(∀n,G n->c.heap.size<=n/\¬a n)/\ak (di a) g b/\
  ((P.no≠0/\e= .tuple #[.pointer none,XH P.no]/\aR c b d P.D (λn=>a n\/G n))\/
   (P.no=0/\∃f,e= .tuple #[XL f,XH 0]/\bX c b d f P.V P.D (λn=>a n\/G n)))
def Hl{D:al}{U a4:Nat}(z:Laid b)(V:bX b k a c b2 D f)(W:Row jo 96 k Y d U J)(b3:∀n,Y n->n<k.heap.size)(hl:J.length<=20000000):
  ZG 87 #[XL a,XL c,.slice d U a4,XH e] k (Ok (JR b k a c b2 f (ck b2 D J e))):=by
 obtain⟨G,H,u,A⟩:=id V;have c0:=u.many;refine tY (PC.ok (JQ (z.ah V.gr) W b3 hl) ?_);rintro _ w1 ⟨a5,n1,c1,F1,rfl,I,p,b5⟩;have hz:∀n,(f n\/G n)->n<k.heap.size:=by obtain⟨c4,f1,f2,f3,f4⟩:=H;exact f4
 refine⟨_,_,_,_,rfl,an.dF (λh=>Ok.mk ?_) (λq=>PC.ok (O_ (u.ah p)) ?_)⟩
 ·rw[show ck b2 D J e=⟨(bK J).2,[],b2,D⟩ by unfold ck;rw[Zx h]]
  exact⟨G,u.ah p,A,ai.af p,.inl ⟨h,rfl,H.ah p⟩⟩
 rintro _ _ ⟨rfl,rfl⟩;have b6:aR b w1 a D (λn=>(f n\/G n)\/F1 n):=H.add p λn P=>⟨b5 n P,I.aB n P⟩
 have d1:(bK J).1.length<=13500000000:=by
  unfold bK;split
  ·simp
  ·rename_i b8
   have:∀m∈J,m.Ok/\m.aP.length<=64:=λm X=>by
    obtain⟨i,hi⟩:=List.mem_iff_getElem?.1 X;obtain⟨n,v,es,-,-,-,-,a5,n1,c1,-,-,b9⟩:=W.el i m hi;refine⟨b9,?_⟩;have:¬fT m=true:=λK=>b8 (List.any_eq_true.2 ⟨m,X,K⟩);unfold fT at this;simp at this;omega
   have:=Pa this;show(dX J).length<=_;omega
 refine⟨_,rfl,PC.ok (MH z b6 u.Aw (I.row (bytes:=1) dC ba) (λm=>I.MG m) λn P=>.inr P) ?_⟩;rintro _ Z ⟨rfl,c2,k2⟩;have L:aR b Z a (eK b2.next (bK J).1 D).2 (λn=>f n\/G n):=c2.mono λn P=>.inl P;have M:=(u.ah p).af k2 λn P j=>j (.inl (.inr P));have a6:ak (di f) k Z:=(ai.af p).then (k2.mono λn _ P l=>P (.inl (.inl l)));have hC:ck b2 D J e=if(eK b2.next (bK J).1 D).1≠0 then⟨(eK b2.next (bK J).1 D).1,[],b2,(eK b2.next (bK J).1 D).2⟩else ey (qd b2.bI (eK b2.next (bK J).1 D).2) e:=by
  unfold ck;rw[Zq (by simpa using q)]
 rw[hC];generalize eK b2.next (bK J).1 D=w at L⊢;refine⟨_,rfl,an.dF (λh=>Ok.mk ?_) (λq=>?_)⟩
 ·rw[Zx h]
  exact⟨G,M,A,a6,.inl ⟨h,rfl,L⟩⟩
 rw[Zq (by simpa using q)];refine⟨λo=>aR b o a (qd b2.bI w.2) (λn=>f n\/G n)/\iA o a c G b2/\ak (di f) k o,PC.ok (EP M) ?_,?_⟩
 ·rintro _ w3 ⟨a3,s,c3,B,rfl,N,O,c5⟩
  have d2:=N.len dC;have Q:aR b w3 a w.2 (λn=>(f n\/G n)\/B n):=L.add O λn P=>⟨c5 n P,N.aB n P⟩
  refine⟨_,_,_,rfl,λa0 a1 o=>∃(g:Nat) (r:al),a1=g/\g<=s/\a0=s-g/\qd b2.bI w.2=qd (b2.bI.drop g) r/\aR b o a r (λn=>(f n\/G n)\/B n)/\aO aJ 3 B o a3 s c3 b2.bI/\iA o a c G b2/\ak (di f) k o,
   ⟨_,0,w.2,rfl,Qj _,rfl,rfl,Q,N,M.ah O,a6.ah O⟩,?_⟩
  rintro a0 a1 _ w4 ⟨g,r,rfl,hj,rfl,C,x,R,a7,a8⟩;refine an.dec (λd3=>?_) (λd4=>?_)
  ·have c6:Row aJ 8 w4 B a3 s b2.bI:=R.row dC ba
   obtain⟨n,v,t,rfl,l,c7,K⟩:=c6.mr (i:=g) oM;refine⟨n,v,rfl,oM,oM,t,K,PC.ok (je (z.ah x.gr) c7) ?_⟩;rintro _ w5 ⟨rfl,E⟩;refine⟨_,rfl,PC.ok (x.ah E).delete ?_⟩;rintro _ w6 ⟨rfl,S,T⟩;have b4:b2.bI.drop g=t::b2.bI.drop (g+1):=by
    obtain⟨c8,rfl⟩:=Qv.1 l;exact X4 c8
   rw[b4]at C;have F:qd b2.bI w.2=if(r.delete (cy (aA t))).1≠0 then(r.delete (cy (aA t))).2 else qd (b2.bI.drop (g+1)) (r.delete (cy (aA t))).2:=C
   have a9:=(a7.ah E).af T λn P j=>j (.inl (.inr P));have b0:ak (di f) k w6:=(a8.ah E).then (T.mono λn _ P l=>P (.inl (.inl l)));have c9:=(R.ah E).af T λn P j=>j (.inr P);generalize r.delete (cy (aA t))=b7 at F S⊢;refine⟨_,rfl,an.dF (λh=>?_) (λq=>?_)⟩
   ·rw[F,Zx h]
    exact⟨S.mono λn P=>.inl P,a9,b0⟩
   ·rw[Zq (by simpa using q)]at F
    exact⟨s-(g+1),oM,g+1,b7.2,aq oM,oM,rfl,F,S,c9,a9,b0⟩
  ·obtain rfl:g=s:=oM
   rw[List.drop_of_length_le oM]at C;rw[C];exact⟨x.mono λn P=>.inl P,a7,a8⟩
 ·rintro _ w3 ⟨Q,b1,a2⟩
  refine PC.ok (Hm (size:=e) z Q) ?_;rintro _ w4 (⟨h,rfl,x,y⟩|⟨q,q2,d5,n4,d6,G4,rfl,R,d0,y,-,-,-⟩)
  ·exact⟨_,_,_,_,_,rfl,Ok.mk ⟨G,b1.af y λn P j=>j (.inr P),A,a2.then (y.mono λn _ P l=>P (.inl l)),.inl ⟨h,rfl,x⟩⟩⟩
  ·exact⟨_,_,_,_,_,rfl,Ok.mk ⟨G,b1.af y λn P j=>j (.inr P),A,a2.then (y.mono λn _ P l=>P (.inl l)),.inr ⟨q,q2,rfl,d0.mono λn P=>.inl P⟩⟩⟩
def jv(D:al)(n:ByteArray):Bool:=decide (n=lv)||((lP n).2&& !decide ((lP n).1∈(eU D).getD []))
def JC(D:al):List ByteArray:=D.list.filter (jv D)
def UF(D:al)(n:List ByteArray):al:=n.foldl (λD P=>(D.delete P).2) D
def zZ(D:al):al:=UF D (JC D)
def z_(n:List ByteArray):List (List Value):=n.map λP=>[.string P]
def OX(D:al)(n:List (List Value)):al:=n.foldl (λD P=>match P with
 |[.string a]=>(D.delete a).2
 |_=>D) D
def CS:∀(n:List ByteArray) (D:al),OX D (z_ n)=UF D n
 |[],D=>rfl
 |s::n,D=>CS n (D.delete s).2
def Mz(D:al)(n:List (List Value))(P:ByteArray):OX D (n++[[.string P]])=((OX D n).delete P).2:=by
 unfold OX;rw[List.foldl_append];rfl
def CT(n:List ByteArray)(P:ByteArray):z_ (n++[P])=z_ n++[[.string P]]:=by unfold z_;simp
def BW{D:XN}(P:Row aJ 8 b D d a t):
  ZG 265 #[.slice d a c,XH e] b (Ok λp f=>(∃l:Int,p= XH l/\(0<=l↔e∈t))/\b=f):=by
 have w:=P.len;have q:=P.dP;unfold aK at q;refine nH ⟨λm i f=>∃n:Nat,i=n/\n<=a/\m=a-n/\e∉t.take n/\b=f,⟨_,0,rfl,Qj _,rfl,sM,rfl⟩,?_⟩;rintro m i _ _ ⟨n,rfl,x,rfl,g,rfl⟩;refine an.dec (λr=>?_) (λr=>?_)
 ·obtain⟨s,j,y,rfl,o,_,u⟩:=P.mr (i:=n) oM
  refine⟨s,j,rfl,oM,oM,_,u,an.dE (λk=>?_) (λk=>?_)⟩
  ·exact Ok.mk ⟨⟨_,rfl,λ_=>k▸QZ o,λ_=>oM⟩,rfl⟩
  ·refine⟨_,oM,n+1,aq oM,oM,rfl,?_,rfl⟩
   rw[Qw,o];intro v;rcases Q6.1 v with h|h
   ·exact g h
   ·simp at h;exact k h
 ·rw[Qz oM]at g
  exact Ok.mk ⟨⟨_,rfl,λh=>oM,λh=>Zz h g⟩,rfl⟩
def vL{D:XN}(n:Row aJ 8 b D d a t):
  ZG 209 #[.slice d a c,XH e] b (Ok λP f=>P= .bool (decide (e∈t))/\b=f):=by
 refine kY (PC.ok (BW n) ?_);rintro _ _ ⟨⟨h,rfl,g⟩,rfl⟩;exact⟨_,rfl,Ok.mk ⟨by rw[decide_eq_decide.2 g],rfl⟩⟩
section
variable {w0 w w1 w':World} {p:Nat} {D D':al} {X Y:XN}
def aR.lt(P:aR w0 w p D X):∀n,X n->n<w.heap.size:=by obtain⟨b,c,d,e,a⟩:=P;exact a
def MA(h:aR w0 w p D X)(s:pL w0):ZG 140 #[XL p] w (Ok λt w'=>∃i j c d e,∃Y G:XN,t= .func (.func 208) #[] #[XL i,XL j]/\
  (∃f k,w'.heap[i]? =some (.cells #[XL p] f k))/\(∃f k,w'.heap[j]? =some (.cells #[.slice c d e] f k))/\aO aJ 3 G w' c d e ((eU D).getD [])/\Y i/\Y j/\(∀P,G P->Y P)/\aR w0 w' p D (λP=>X P\/Y P)/\ai w w'):=by
 have A:=h.gr.size;refine xV (PA.mk λw1 m B o=>⟨_,ae o rfl,PC.ok ((h.add m (Y:=(·=w.heap.size)) λP n=>⟨oM,oM⟩).jw s) ?_⟩);rintro _ a ⟨c,d,e,G,rfl,q,C,u,l⟩;refine⟨_,_,_,_,rfl,PA.mk λE g F v=>PS.mk v sM λH b I x=>Ok.mk ⟨w.heap.size,a.heap.size,c,d,e,λP=>(P=w.heap.size\/G P)\/P=a.heap.size,G,rfl,?_⟩⟩;have J:=l.size;have y:w.heap.size≠a.heap.size:=oM
 have r:∀P,G P->P<a.heap.size:=q.aB;have z:=u.add g (Y:=(·=a.heap.size)) λP n=>⟨oM,oM⟩
 refine⟨⟨_,_,b.get (g.get (l.get o id) id) y⟩,⟨_,_,x⟩,(q.ah g).af b (λP n f=>by have:=r P n;omega),.inl (.inl rfl),.inr rfl,λP n=>.inl (.inr n),?_,?_⟩
 ·refine z.eg b (λP n=>⟨.inr n,oM⟩) λP n=>⟨.inl ?_,?_⟩
  ·rcases n with n|(n|n)|n
   ·exact .inl (.inl (.inl n))
   ·exact .inl (.inl (.inr n))
   ·exact .inl (.inr n)
   ·exact .inr n
  ·have:=b.size
   rcases n with n|(n|n)|n
   ·have:=h.lt P n;omega
   ·omega
   ·have:=r P n;omega
   ·omega
 ·exact ak.new ((m.then l).then g) b λP n=>.inr oM
def CJ(w0 P:World)(p:Nat)(D:al)(d:XN)(a:World×(XN))(b:List (List Value))(c:World):Prop:=
 aR w0 c p (OX D b) (λn=>(d n\/(P.heap.size<=n/\n<P.heap.size+2))\/a.2 n)/\ak (di d) P c/\ak (di a.2) a.1 c/\∀n,a.2 n->P.heap.size+2<=n
variable {w5:World} {X5:XN} {s:World×(XN)} {pre:List (List Value)} {A B:World}
def CJ.ah(n:CJ w0 w5 p D X5 s pre A)(P:ai A B):CJ w0 w5 p D X5 s pre B:=⟨n.1.ah P,n.2.1.ah P,n.2.2.1.ah P,n.2.2.2⟩
def CJ.eg(d:ai w0 w5)(e:CJ w0 w5 p D X5 s pre A)(f:pM (w5.heap.size+1) A B):CJ w0 w5 p D X5 s pre B:=by
 obtain⟨b,g,h,c⟩:=e;obtain⟨a,i⟩:=f;have:=d.size;refine⟨b.eg a (λn P=>⟨.inl (.inr ⟨oM,oM⟩),oM⟩) λn P=>⟨.inl P,by rw[i];exact b.lt n P⟩,g.new a λn P=>.inr oM,h.new a λn P=>.inl λj=>?_,c⟩;have:=c n j;omega
def Ha{z C:Nat}{G:XN}{R:XU}(X:Laid w0)(a5:∀n,X5 n->n<w5.heap.size)(o:∃q r,w5.heap[a]? =some (.cells #[XL p] q r))(Y:X5 a)(t:∃q r,w5.heap[c]? =some (.cells #[.slice d z C] q r))(Z:X5 c)(hl:aO aJ 3 G w5 d z C ((eU D).getD []))(hG:∀n,G n->X5 n)(E:∀A B,R A->ak (nI w5) A B->R B)(F:∀s pre u A,CJ w0 w5 p D X5 s pre A->R A->sQ [.string ⟨#[]⟩] u->jx XP (w5.heap.size+1) u A λn k=>n=true/\CJ w0 w5 p D X5 s (pre++[u]) k/\R k)(v:CJ w0 w5 p D X5 (w5,no) [] w1)(a0:R w1)(a1:w5.heap.size+2<=w1.heap.size):
  ZG 208 #[.func (.yield (w5.heap.size+1)) #[] #[],XL a,XL c] w1 (Ok λa4 w'=>R w'/\∃s,CJ w0 w5 p D X5 s (z_ (JC D)) w'):=by
 obtain⟨e2,f2,o⟩:=o;obtain⟨e4,f4,t⟩:=t;have H:aR w0 w1 p D _:=v.1;refine sR ⟨_,ae (v.2.1.get o λb=>b Y) rfl,PC.ok H.list ?_⟩;rintro _ w ⟨a8,I,c8,J,rfl,K,a2,h8,L⟩;have a6:D.list.length<=64:=by rw[nJ];exact H.ok.many
 have a7:=K.len dC;have a3:CJ w0 w5 p D X5 (w,J) [] w:=⟨h8.mono λn e=>e.elim (λf=>.inl (.inl f)) .inr,v.2.1.ah L,ak.refl _,λn e=>Xx a1 (a2 n e)⟩
 refine⟨_,_,_,rfl,λM N w'=>∃P:Nat,N=P/\P<=I/\M=I-P/\CJ w0 w5 p D X5 (w,J) (z_ ((D.list.take P).filter (jv D))) w'/\R w',⟨_,0,rfl,Qj _,rfl,a3,E _ _ a0 (ai.af L)⟩,?_⟩;rintro M N _ a9 ⟨P,rfl,hj,rfl,i,O⟩;refine an.dec (λb0=>?_) (λb1=>?_)
 ·obtain⟨n,x,s,rfl,Q,_,j⟩:=((K.af i.2.2.1 λn e b=>b e).row (bytes:=16) dC ba).mr (i:=P) oM
  refine⟨n,x,rfl,oM,oM,_,j,PC.ok (Aa (X.ah i.1.gr)) ?_⟩;rintro _ b2 ⟨rfl,S⟩;have h:=i.ah S;have l:=E _ _ O (ai.af S);have T:sQ [.string ⟨#[]⟩] [.string s]:=λφ f=>f s;have U:jv D s=true->(D.list.take (P+1)).filter (jv D)=(D.list.take P).filter (jv D)++[s]:=λf=>by
   rw[Qw,Q,List.filter_append];simp[f]
  have V:jv D s=false->(D.list.take (P+1)).filter (jv D)=(D.list.take P).filter (jv D):=λf=>by
   rw[Qw,Q,List.filter_append];simp[f]
  refine⟨_,_,rfl,an.Wi (λhe=>?_) (λW=>an.mk (λm=>?_) (λm=>?_))⟩
  ·refine⟨_,rfl,(F _ _ _ _ h l T).mono ?_⟩
   rintro _ k ⟨rfl,g,y⟩;refine an.ff rfl ⟨_,?_,P+1,aq oM,oM,rfl,?_,y⟩
   ·omega
   ·rw[U (by unfold jv;rw[show s=lv from he];simp),CT];exact g
  ·refine⟨_,_,_,ae (h.2.1.get t λb=>b Z) rfl,PC.ok (vL ((hl.af h.2.1 λn e b=>b (hG n e)).row (bytes:=8) dC (by have:=CU (D:=D);unfold aK;omega))) ?_⟩
   rintro _ _ ⟨rfl,rfl⟩;refine⟨_,rfl,an.mk (λj=>?_) (λj=>?_)⟩
   ·refine⟨_,rfl,(F _ _ _ _ h l T).mono ?_⟩
    rintro _ k ⟨rfl,g,y⟩;refine an.ff rfl ⟨_,?_,P+1,aq oM,oM,rfl,?_,y⟩
    ·omega
    ·rw[U (by unfold jv;rw[m,j];simp),CT];exact g
   ·refine⟨_,?_,P+1,aq oM,oM,rfl,?_,l⟩
    ·omega
    ·rw[V (by unfold jv;rw[m,j,Xv (show¬s=lv from W)];rfl)];exact h
  ·refine⟨_,?_,P+1,aq oM,oM,rfl,?_,l⟩
   ·omega
   ·rw[V (by unfold jv;rw[m,Xv (show¬s=lv from W)];rfl)];exact h
 ·rw[Qz oM]at i
  exact Ok.mk ⟨O,_,i⟩
def MB(r:Laid w0)(b:aR w0 w p D X):ZG 86 #[XL p] w (Ok λh w'=>h= .tuple #[]/\aR w0 w' p (zZ D) X/\ak (di X) w w'):=by
 have a6:=b.gr.size;refine xW (PA.mk λw1 t s1 u=>⟨_,ae u rfl,PC.ok (MA (b.add t (Y:=(·=w.heap.size)) λn P=>⟨oM,oM⟩) r.oL) ?_⟩);rintro _ w5 ⟨b2,b4,a0,a1,a2,Y,G,rfl,C,E,F,H,I,J,i,j⟩;have K:=j.get u id;have k:=i.gr;have z5:=j.size;refine⟨_,rfl,208,_,rfl,kR,World×(XN),(w5,no),CJ w0 w5 p D λn=>(X n\/n=w.heap.size)\/Y n,λ_ _ _=>False,λ_ _=>True,λl=>l=z_ (JC D),?_,λs pre A B c d=>c.eg k d,λ_ _ _ _ b _=>b,?_,?_,?_,trivial⟩
 ·intro L m s6
  exact⟨(i.add m (Y:=λn=>w5.heap.size<=n/\n<w5.heap.size+2) λn P=>⟨P.1,oM⟩).mono λn P=>P.elim id False.elim,ai.af m,ai.af m,λn P=>P.elim⟩
 ·intro s pre A c a7 a8 _
  refine⟨ak.refl _,λa9 d=>?_⟩;obtain⟨e,g,v,x⟩:=c.eg k d;refine⟨_,ae (g.get K λa=>a (.inl (.inr rfl))) rfl,PC.ok e.delete ?_⟩;rintro _ b0 ⟨rfl,M,o⟩;refine⟨_,rfl,o.mono λn _ a=>⟨λN=>a (.inl (.inr ⟨oM,oM⟩)),λN=>a (.inl (.inr ⟨oM,oM⟩))⟩,?_⟩;show CJ _ _ _ _ _ _ _ _;refine⟨by rw[Mz];exact M,g.new o λn a=>.inl λf=>a (.inl (.inl f)),v.new o λn a=>.inl λf=>a (.inr f),x⟩
 ·intro O Rx Q _ R S L T y
  refine Calls.mono (Ha (R:=O) r i.lt C (.inr H) E (.inr I) F (λn P=>.inr (J n P)) Q (λs pre U A c V d=>(S s pre U A c V d trivial).mono ?_) T y (R _ y)) ?_
  ·rintro n W (b|⟨-,a3,b,-⟩)
   ·exact b
   ·exact b.elim
  ·rintro _ W ⟨h,rfl,Z,s,q⟩
   exact⟨⟨h,rfl⟩,.inl ⟨Z,s,_,q,rfl⟩⟩
 ·rintro s _ A ⟨e,g,v,x⟩ rfl hm
  refine⟨hm,λb1 ⟨z,a5⟩=>Ok.mk ⟨rfl,?_,?_⟩⟩
  ·rw[CS]at e
   exact(e.eg z (λn P=>⟨.inl (.inr ⟨oM,oM⟩),by have:=k.size;omega⟩) λn P=>⟨.inl P,by rw[a5];exact e.lt n P⟩).mono λn P=>.inl (.inl (.inl (.inl P)))
  ·exact ak.new (ak.new (ai.af (t.then j)) g λn a=>.inl λf=>a (.inl (.inl f))) z λn P=>.inr oM

import Derived.Test.YtblabbpipmodgaaGreatDoorKq15
set_option maxHeartbeats 4000000
set_option linter.all false
set_option maxRecDepth 100000
open Go.IntKind renaming wrap→XG
namespace Go.Proofs.YtblabbpipmodgaaGreatDoor
open Go.aw
variable{y:FuncId}{S b9 e q:Int}{d4:Int×Int}{F d9:List aj}{a c:Nat}{C:Nat×Nat}{Q W:Operand}{d r:ZH}{h:Program}{g o:TypeId}{b:World}{M l:aj}{B:au}
def Ua(P:HT h g o):(do eqGuard .eql g Q W (.agg #[XH e,XH q]) (.agg #[XH S,XH b9]);binOp .eql g (.agg #[XH e,XH q]) (.agg #[XH S,XH b9]):Sem Value).run h b= .ok (.bool (e==S&&q==b9)) b:=by
 rw[Sem.run_bind,run_eqGuard_agg b .eql _ Q W _ _ P.hm,Result.andThen_ok,run_eql_struct];have:=P.equalIn 9998 (e,q) (S,b9) b;unfold nC at this;rw[this];rfl
section
variable {w w':World} {p:Nat} {F T D:XN} {d:aM} {every:Nat} {l l2:List aj}
def Fq(U:cJ w p F d every l)(V:et b)(J:ai b w)(K:∀e,F e->b.heap.size<=e){L:ZH}(M:Row fY 96 w D L a l2)(e1:a<=c)(z:∀e,D e->e<w.heap.size/\¬F e)(e2:l2.length<=20000000)(b2:∀(W:Nat) (h k:aj),l[W]? =some h->l2[W]? =some k->aR h=aR k->h=k):
  ZG 76 #[XL p,.slice L a c] w (Ok λb3 w'=>∃A:Int,b3= XH A/\∃i,cJ w' p i d every l2/\cz F w i w'):=by
 have hn:=M.len;have X:=U;obtain⟨⟨h1,h2,h3,h4⟩,e0,b6,e3,B⟩:=U;have e4:=aO.len (B.at' 2) dC;have e5:=B.aC;refine ot ⟨λj w'=>∃P:Nat,j=P/\P<=l.length/\P<=l2.length/\l.take P=l2.take P/\ai w w',?_,?_⟩
 ·refine⟨λf j w'=>∃P:Nat,j=P/\P<=l.length/\P<=l2.length/\f=l.length-P/\l.take P=l2.take P/\ai w w',⟨_,0,rfl,Qj _,Qj _,rfl,rfl,ak.refl _⟩,?_⟩
  rintro f _ _ w9 ⟨P,rfl,Y,Z,rfl,n,t⟩;have h9:=dB.ah B t;have a4:=h9.bf;refine⟨p,0,rfl,_,_,_,ae a4 rfl,an.dec (λN=>?_) (λa5 c0 C=>⟨P,rfl,Y,Z,n,t.then C.af⟩)⟩;have a6:P<l.length/\P<l2.length:=by split at N<;>omega
  have m:l[P]? =some l[P]:=Qq a6.1;have E:l2[P]? =some l2[P]:=Qq a6.2;generalize l[P]=h at m;generalize l2[P]=k at E;obtain⟨e,o,es,O,c1,c2,H,ya,yn,yc,rfl,e6,e7⟩:=(M.ah t).el P k E;obtain⟨b7,o2,e8,c3,e9,f0,a0,u,v,x,rfl,a7,a1⟩:=(aO.row (bytes:=96) (h9.at' 2) dC ba).el P h m;have y0:=H 0 dC;have y1:=H 1 dC;have x0:=a0 0 dC;have x1:=a0 1 dC;refine⟨e,o,O,oM,oM,_,_,y0,y1,p,0,rfl,_,_,_,ae a4 rfl,b7,o2,c3,oM,oM,_,_,x0,x1,(k.origin==h.origin&&k.seq==h.seq),λf=>Ua JX,λc0 C=>an.mk (λQ=>⟨_,?_,P+1,aq oM,oM,oM,rfl,?_,t.then C.af⟩) (λ_=>⟨P,rfl,Y,Z,n,t.then C.af⟩)⟩
  ·omega
  ·simp only[QK,beq_iff_eq]at Q
   have c4:=b2 P h k m E (by simp[aR,Q.1,Q.2]);rw[Qw,Qw,n,m,E,c4]
 rintro _ _ f1 ⟨j,rfl,c5,c6,n,q⟩;have c7:=dB.ah B q;have b9:=c7.bf;have f2:=q.size;refine⟨λw'=>∃f i,f<=l2.length/\cJ w' p i d every (l2.take f)/\cz F w i w',⟨p,0,rfl,_,_,_,ae b9 rfl,an.dec (λN=>?_) (λa5=>?_)⟩,?_⟩
 ·refine PC.ok (KW (X.ah q) V (J.then q) K c5) ?_
  rintro _ f3 ⟨rfl,i,R,a9⟩;have b0:j/every*every<=j:=Nat.div_mul_le_self ..;refine⟨rfl,_,i,Xx b0 c6,?_,(ai.af q).then a9.af,λe g=>(a9.new e g).imp id oM⟩;have:l.take (j/every*every)=l2.take (j/every*every):=by
   have:=Zj (List.take (j/every*every)) n
   rwa [List.take_take,List.take_take,X2 b0]at this
  rw[<-this];exact R
 ·have c8:j=l.length:=oM
  refine⟨l.length,F,oM,?_,ai.af q,λe g=>.inl g⟩;rw[c8,List.take_length]at n;rw[<-n];exact X.ah q
 rintro _ f4 ⟨f,F1,hm,b1,a2⟩;have c9:=b1;obtain⟨-,q1,f5,f6,b4⟩:=b1;have a3:=aO.len (b4.at' 2) dC;rw[Qy,X2 hm]at a3;have f7:=a2.af.size;refine⟨p,0,rfl,_,_,_,ae b4.bf rfl,oM,oM,?_⟩;rw[Qx,a3];refine⟨λA s w'=>∃(P:Nat) (i:XN),s=P/\P<=a-f/\A=a-f-P/\cJ w' p i d every (l2.take (f+P))/\cz F w i w',⟨_,0,F1,rfl,Qj _,rfl,c9,a2⟩,?_⟩;rintro A _ _ b5 ⟨P,S,rfl,hj,rfl,T,r⟩;refine an.dec (λN=>?_) (λa5=>?_)
 ·have d0:f+P<l2.length:=oM
  have m:l2[f+P]? =some l2[f+P]:=Qq d0;generalize l2[f+P]=h at m;have d1:=M.af r.af λe g=>(z e g).2;obtain⟨e,o,es,O,c1,c2,H,u,v,x,rfl,a7,a1⟩:=d1.el (f+P) h m;have d2:cg L f c 10=some ⟨e,o+f*10,none⟩:=by rw[O];exact eZ oM
  have f8:=r.af.size;refine⟨e,o+f*10,d2,oM,oM,bl (es:=aB h u v x) (k:=10) (aV h u v x) rfl (λs ht=>by rw[Qx];have:=H s ht;rw[show o+f*10+P*10+s=o+(f+P)*fY.k+s by show _=o+(f+P)*10+s;omega];exact this) (PA.mk λf9 d3 g1 d4=>az (aV h u v x) d4 rfl λb8 d5 g2 d6=>ar (aV h u v x) d6 ?_)⟩;have I:ai b5 b8:=d3.new d5 λe g=>.inr (by have g:e=b5.heap.size:=g;omega);have a8:cz F w S b8:=⟨r.af.ah I,r.new⟩
  have d7:∀e,D e->¬S e:=λe g hf=>by
   rcases r.new e hf with y|y
   ·exact(z e g).2 y
   ·have:=(z e g).1;omega
  refine PC.ok (MR (T.ah I) V (J.new a8.af λe g=>.inr (K e g)) (λe g=>?_) (by rw[Qy];omega) (a7.ah I) (λe g=>⟨by have:=(z e g).1;have:=I.size;omega,d7 e g⟩) a1) ?_
  ·rcases r.new e g with y|y
   ·exact K e y
   ·have:=J.size;omega
  rintro _ g3 ⟨rfl,F3,d8,d9⟩;refine⟨rfl,_,?_,P+1,F3,aq oM,oM,rfl,?_,a8.trans d9⟩
  ·omega
  ·rw[show f+(P+1)=f+P+1 by omega,Qw,m];exact d8
 ·rw[Qz oM]at T
  exact Ok.mk ⟨_,rfl,S,T,r⟩
end
section
variable {w w':World} {p:Nat} {F T D:XN} {d:aM} {every:Nat} {l l2:List aj}
def MT{d:aM}{ta pa:ZH}{tn tc pn pc:Nat}{ev:Int}(n:cO d=0)(g9:aK ev)(hT:et w)(o:aW w D d ta tn pa pn)(hD:∀P,D P->P<w.heap.size):
  ZG 73 #[.agg #[.slice ta tn tc,.slice pa pn pc],XH ev] w (Ok λe3 w'=>∃p F,e3= XL p/\cJ w' p F d (max 1 ev).toNat []/\(∀P,F P->w.heap.size<=P)/\ai w w'):=by
 have h0:=o.aT.len;have X:=o.aT.dq;have h3:=o.yp.len;have h4:=o.yp.dq;have e6:d.projs.length<=8:=(uM (jA n).1).2.2.1;obtain⟨every,e7⟩:∃every:Nat,every=(max 1 ev).toNat:=⟨_,rfl⟩
 have e8:(if ev>1 then ev else 1)=(every:Int):=by split<;>omega
 have c0:0<every/\every<9223372036854775808:=by unfold aK at g9;omega
 rw[<-e7];refine Dp ?_;refine PA.mk λw1 k1 s1 g1=>⟨_,_,_,ae g1 rfl,PC.ok (ou (o.yp.ah k1) λP B=>by have:=hD P B;omega) ?_⟩
 rintro _ a ⟨i,g,v,x,rfl,Y,k8,h5⟩;have z8:=k8.size;refine⟨_,_,_,rfl,PA.mk λc1 Z k9 d8=>?_⟩;rw[e8]at d8;have e9:ai w c1:=(k1.then k8).then Z;have ga:=Z.get (k8.get g1 id) id;have l0:=Z.size;refine⟨_,_,_,ae ga rfl,λq I w'=>∃b:Nat,I=b/\b<=tn/\q=tn-b/\ak (·=a.heap.size) c1 w'/\∃r s J l,w'.heap[a.heap.size]? =some (.cells #[.slice r s J,.slice i g v,XH (every:Int),.slice none 0 0,.pointer none,.slice none 0 0,.slice none 0 0] 222 (0,0))/\aO jC 130 l w' r s J (d.types.take b)/\∀P,l P->c1.heap.size<=P,
  ⟨_,0,rfl,Qj _,rfl,ak.refl _,none,0,0,λ_=>False,d8,aO.nil _,λ_ o=>o.elim⟩,?_⟩
 rintro q _ _ y ⟨b,rfl,hj,rfl,kk,r,s,J,l,K,t,L⟩;have a7:ai w y:=e9.new kk λP B=>.inr oM;have zk:=kk.size;refine an.dec (λl4=>?_) (λl5=>?_)
 ·have e0:b<d.types.length:=oM
  obtain⟨P,a4,es,ha,B,h6,f0,fa,fn,fc,rfl,a8⟩:=(o.aT.ah a7).el b d.types[b] (by simp[e0]);have e1:d.types[b]? =some d.types[b]:=Qq e0;generalize d.types[b]=a0 at a8 e1;have c2:=f0 0 dC;have h7:jC.k=1:=rfl;rw[h7,Nat.mul_one]at c2;refine⟨P,a4,ha,oM,oM,fa,fn,fc,by rw[Qx];exact c2,PA.mk λl6 h8 l7 h9=>PS.mk h9 sM λe2 i0 l8 i1=>⟨_,_,_,ae i1 rfl,?_⟩⟩;have a1:ai y e2:=h8.new i0 λP B=>.inr oM;have f1:=a7.then a1;obtain⟨C,l1,l2,l3⟩:=d_.boxes (N:=HU) a8;have c4:=a8.dq;refine PC.ok (ow (l2.ah a1) λP B=>by have:=hD P B;have:=f1.size;omega) ?_;rintro _ e4 ⟨a9,M,f2,F9,rfl,b0,e5,i2⟩;have l9:=a1.size;have m0:=e5.size;have a2:∀P,aF a9=some P->e2.heap.size<=P:=λP B=>i2 P (b0.self P B);have f5:∀P,aF a9=some P->P<e4.heap.size:=λP B=>b0.aC P (b0.self P B);refine⟨_,_,_,rfl,λq I w'=>∃b:Nat,I=b/\b<=M/\q=M-b/\dF HU 123 e4 a9 M f2 C b w',⟨_,0,rfl,Qj _,rfl,dF.start b0.alone⟩,?_⟩;rintro q _ _ i3 ⟨e,rfl,h,rfl,z⟩;have m1:=z.len;have m2:C.length=a0.length:=by rw[<-l1];simp
  have i4:=a8.len;have N:ai y i3:=(a1.then e5).new z.af λP B=>.inr (by have:=a2 P B;omega);have m3:=z.af.size;refine an.dec (λf6=>?_) (λf8=>?_)
  ·obtain⟨a3,rfl⟩:=z.some oM
   have f9:=f5 a3 rfl;have a5:C[e]? =some C[e]:=Qq oM;have O:=l3 C[e] (XY oM);generalize C[e]=bx at a5 O;refine⟨a3,0,rfl,oM,oM,_,_,_,z.cell rfl a5 (by show M*4<=aI;unfold aI at c4⊢;omega) 3 _ rfl,PC.ok (rC (O.1.ah N) λP B=>by have:=hD P B;have:=(a7.then N).size;omega) ?_⟩;rintro _ m4 ⟨m5,m6,m7,G,rfl,c3,i5,j⟩;refine⟨_,_,_,rfl,a3,0,rfl,oM,oM,?_⟩;refine(z.ah i5).step (g:=a3) rfl a5 (c3.row (bytes:=32) dC ?_) O.2 (λu E=>⟨by have:=j u E;omega,c3.aC u E⟩) f9 λm8 g3 m9 n0=>⟨_,?_,e+1,aq (by unfold aI at c4;omega),oM,rfl,g3⟩
   ·have f:=O.1.dq
    have m:=O.1.len;show bx.x.bg.length*32<=aI;have n1:bx.n=bx.x.bg.length:=m;have n2:bx.n*32<=aI:=f;omega
   ·omega
  ·obtain rfl:e=M:=oM
   obtain⟨Fd,n,c6⟩:=z.done;rw[l1,Fu]at n;have c5:=N.get K id;refine⟨a.heap.size,0,rfl,_,_,_,ae c5 rfl,Fw (c:=jC) (x:=a0) (t.ah N) JY (D:=Fd) ⟨_,_,_,rfl,n.row dC (by rw[<-i4];exact c4)⟩ (λP B=>⟨n.aC P B,λc=>?_⟩) ?_ ?_ λa' Q n3 F' g6 c7 f3 n4=>⟨_,_,_,rfl,a.heap.size,0,rfl,?_⟩⟩
   ·have f:=t.aC P (t.self P c)
    rcases c6 P B with m|m
    ·have:=a2 P m;omega
    ·omega
   ·have:=List.length_take_le b d.types;unfold aI at X⊢;omega
   ·have:=List.length_take_le b d.types;unfold aI at X;unfold maxLen;omega
   ·have i6:¬aF r=some a.heap.size:=λc=>by have:=L _ (t.self _ c);omega
    have i7:=c7.get c5 i6;have n5:=c7.size;refine PS.mk i7 sM λn6 f4 n7 i8=>⟨_,?_,b+1,aq (by unfold aI at X;omega),oM,rfl,?_,a',s+1,Q,F',i8,?_,?_⟩
    ·omega
    ·exact((kk.ah N).new c7 λP B=>.inr (L _ (t.self P B))).then f4
    ·rw[Qw,e1]
     refine g6.af f4 λP B c=>?_;rcases f3 P B with f|f|f
     ·have:=L P f;omega
     ·rcases c6 P f with m|m
      ·have:=a2 P m;omega
      ·omega
     ·omega
    ·intro P B
     rcases f3 P B with f|f|f
     ·exact L P f
     ·rcases c6 P f with m|m
      ·have:=a2 P m;omega
      ·omega
     ·omega
 ·obtain rfl:b=tn:=oM
  rw[Qz oM]at t;have h1:=(Y.ah Z).af kk λP B c=>by have:=Y.aC P B;omega
  have n8:a.heap.size<y.heap.size:=ay K;have f7:aW y (λP=>l P\/x P) d r s i g:=⟨(t.row (bytes:=24) dC (by rw[<-h0];exact X)).mono λP B=>.inl B,(h1.row (bytes:=40) dC (by rw[<-h3];exact h4)).mono λP B=>.inr B⟩
  have A:∀P,l P\/x P->w.heap.size<=P/\P<y.heap.size/\P≠a.heap.size:=λP B=>by
   rcases B with B|B
   ·have:=L P B;have:=t.aC P B;omega
   ·have:=h5 P B;have:=Y.aC P B;omega
  refine⟨a.heap.size,0,rfl,_,_,_,_,_,_,ae K rfl,ae K rfl,PC.ok (Fy n f7 λP B=>(A P B).2.1) ?_⟩;rintro _ i9 ⟨vp,R,rfl,hv,b1,b2⟩;have o0:=b2.size;have g0:=hv.aC;refine⟨_,rfl,a.heap.size,0,rfl,PS.mk (b2.get K id) sM λS c8 o1 g2=>⟨a.heap.size,0,rfl,_,_,_,ae g2 rfl,?_⟩⟩;have n9:=Y.len dC;have c9:aW S (λP=>l P\/x P) d r s i g:=(f7.ah b2).af c8 λP B c=>(A P B).2.2 c;have h2:b_ S vp R (aU.new d):=hv.af c8 λP B c=>by have c:P=a.heap.size:=c;have:=b1 P B;omega
  refine⟨λq I w'=>∃(b:Nat) (ra:ZH) (T rc:Nat) (G:XN),I=b/\b<=g/\q=g-b/\ak (·=a.heap.size) S w'/\w'.heap[a.heap.size]? =some (.cells #[.slice r s J,.slice i g v,XH (every:Int),.slice none 0 0,XL vp,.slice ra T rc,.slice none 0 0] 222 (0,0))/\
   cd w' G ra T rc ((d.projs.take b).map λp=>(⟨p,[]⟩:dh))/\∀P,G P->S.heap.size<=P/\P<w'.heap.size,⟨_,0,none,0,0,λ_=>False,rfl,Qj _,rfl,ak.refl _,g2,cd.nil _,λP B=>B.elim⟩,?_⟩
  rintro q _ _ b3 ⟨e,ra,T,rc,G,rfl,h,rfl,H,d0,b4,j⟩;have o2:=H.size;refine an.dec (λf6=>?_) (λf8=>?_)
  ·have j0:e<d.projs.length:=oM
   have E:d.projs[e]? =some d.projs[e]:=Qq j0;generalize d.projs[e]=u at E;obtain⟨P,a4,es,a6,d5,h6,b5,rfl,d6⟩:=(c9.af H λP B c=>(A P B).2.2 c).yp.el e u E;refine⟨P,a4,a6,oM,oM,bl (es:=mu u) (k:=5) (om u) rfl (λa0 ht=>by rw[Qx];exact b5 a0 ht) (PA.mk λo3 j1 o4 j2=>az (om u) j2 rfl λo5 j3 o6 j4=>λj5 g4=>⟨λ_=>False,a.heap.size,0,rfl,id,?_⟩)⟩;have d1:ai b3 j5:=(j1.new j3 λP B=>.inr (by have B:P=b3.heap.size:=B;omega)).then g4.af;refine⟨_,_,_,ae (d1.get d0 id) rfl,ar (om u) ((g4.af (S:=λ_=>False)).get j4 id) (PC.ok MU ?_)⟩;rintro _ o7 ⟨p',r',rfl,d2,o8,o9,p0,p1,d3⟩;have j6:p'≠r':=λc=>by
    obtain⟨es,cl,hm,-⟩:=d2.map.at';have:=d2.at';rw[c,hm]at this;cases this
   have p2:=d3.size;have p3:=d1.size;refine⟨_,rfl,d3,PA.mk λp4 d4 p5 j7=>⟨d4,?_⟩⟩;have b6:=(d1.then d3).then d4;have j8:=b4.len;rw[Q8,Qy,X2 oM]at j8;refine(b4.ah b6).push (λP B=>by have:=(j P B).2;omega) (d2.ah d4) (λB=>by have:=(j _ B).2;omega) (λB=>by have:=(j _ B).2;omega) j6 MN j7 (by rw[Q8,Qy];omega) λj9 k0 p6 G3 k2 g5 k3 k4=>⟨_,_,_,rfl,a.heap.size,0,rfl,?_⟩
   have k5:=g5.get (b6.get d0 id) λB=>by have:=(j _ B).1;omega
   have d7:∀P,G3 P->S.heap.size<=P:=λP B=>by
    rcases k3 P B with f|f|f|f
    ·exact(j P f).1
    ·omega
    ·omega
    ·omega
   refine PS.mk k5 sM λp7 g7 p8 k6=>⟨_,?_,e+1,j9,T+1,k0,G3,aq oM,oM,rfl,((H.ah b6).new g5 λP B=>.inr (j P B).1).then g7,k6,?_,λP B=>⟨d7 P B,by have:=k4 P B;omega⟩⟩
   ·omega
   ·rw[Qw,E,Q3]
    exact k2.af g7 λP B c=>by have c:P=a.heap.size:=c;have:=d7 P B;omega
  ·rw[Qz oM]at b4
   have k7:∃U,dB b3 (λP=>∃k,(match k with|0=>P=a.heap.size|1=>l P\/x P|3=>R P|4=>G P|_=>False:Prop)) U a.heap.size ⟨r,s,J,i,g,v,every,none,0,0,vp,ra,T,rc,none,0,0⟩ d (cf d []) (dE d []).rows [] []:=by
    refine br.join (G:=λk P=>match k with|0=>P=a.heap.size|1=>l P\/x P|3=>R P|4=>G P|_=>False) (λk=>?_) (λe b P h hj=>?_) λk P B=>?_
    ·match k with
     |0=>exact⟨rfl,d0⟩
     |1=>exact c9.af H λP B c=>(A P B).2.2 c
     |2=>exact aO.nil _
     |3=>exact h2.af H λP B c=>by have c:P=a.heap.size:=c;have:=b1 P B;omega
     |4=>exact b4
     |5=>exact aO.nil _
     |k+6=>trivial
    ·have V:∀e:Nat,(match e with|0=>P=a.heap.size|1=>l P\/x P|3=>R P|4=>G P|_=>False:Prop)->e=(if P=a.heap.size then 0 else if P<y.heap.size then 1 else if P<i9.heap.size then 3 else 4):=λe h=>by
      rcases e with _|_|_|_|_|e
      ·have h:P=a.heap.size:=h
       rw[Zx h]
      ·have:=A P h;rw[Zq oM,Zx oM]
      ·exact h.elim
      ·have:=b1 P h;have:=g0 P h;rw[Zq oM,Zq oM,Zx oM]
      ·have:=j P h;rw[Zq oM,Zq oM,Zq oM]
      ·exact h.elim
     rw[V e h,<-V b hj]
    ·rcases k with _|_|_|_|_|k
     ·have B:P=a.heap.size:=B
      omega
     ·have:=A P B;omega
     ·exact B.elim
     ·have:=g0 P B;omega
     ·have:=j P B;omega
     ·exact B.elim
   obtain⟨U,hq⟩:=k7;have b7:ai w b3:=(((a7.then b2).new c8 λP B=>.inr (by have B:P=a.heap.size:=B;omega)).new H λP B=>.inr (by have B:P=a.heap.size:=B;omega))
   have g8:∀P,(∃k,(match k with|0=>P=a.heap.size|1=>l P\/x P|3=>R P|4=>G P|_=>False:Prop))->w.heap.size<=P:=λP ⟨k,B⟩=>by
    rcases k with _|_|_|_|_|k
    ·have B:P=a.heap.size:=B
     omega
    ·exact(A P B).1
    ·exact B.elim
    ·have:=b1 P B;omega
    ·have:=j P B;omega
    ·exact B.elim
   refine PC.ok (Ca hq n (hT.ah b7) sM (by rw[oq];exact e6) sM sM) ?_;rintro _ p9 ⟨rfl,q',F',W,b8,b9,d9⟩;refine⟨rfl,Ok.mk ⟨a.heap.size,F',rfl,⟨⟨n,c0.1,c0.2,sM⟩,q',W,b9,?_⟩,λP B=>?_,b7.new d9.af λP B=>.inr (g8 P B)⟩⟩
   ·rw[MV];simpa using b8
   ·rcases d9.new P B with f|f
    ·exact g8 P f
    ·have:=b7.size;omega
end
def JZ(f:aM)(a:List aj):∀P∈(dE f a).rows,P.rows.length<=a.length:=by
 have:∀(a:List aj) (b:jg) (c:Nat),(∀P∈b.rows,P.rows.length<=c)->∀P∈(a.foldl jg.add b).rows,P.rows.length<=c+a.length:=by
  intro a
  induction a with
  |nil=>intro b c g P d;exact g P d
  |cons e a l=>
   intro b c g P d;have:=l (b.add e) (c+1) (λh i=>?_) P d
   ·simp only[Xq];omega
   ·obtain⟨j,k,rfl⟩:=Xk.1 (show h∈b.rows.map λP=>P.add (b.view.add e).1 (qQ ((b.view.add e).2.state e.aT e.agg) P.p)from i)
    have n:=g j k;unfold dh.add;dsimp only;split
    ·omega
    ·split
     ·omega
     ·exact Xx (vU ..) oM
 intro P d;have:=this a (jg.new f) 0 (λh i=>by
  obtain⟨j,k,rfl⟩:=Xk.1 (show h∈f.projs.map λm=>(⟨m,[]⟩:dh)from i);exact Q4 0) P d
 omega
def gT(a:aM)(b:List aj)(P:Int):List dt:=if P<0 then []else match(dE a b).rows[P.toNat]? with
 |none=>[]
 |some c=>c.list
section
variable {w w':World} {p:Nat} {F T D:XN} {d:aM} {every:Nat} {l:List aj}
def HV(r:cJ w p F d every l):
  ZG 391 #[XL p,XH e,XH q] w (Ok λs w'=>∃b c f G,s= .tuple #[.agg #[XH (((cf d l).state e q).getD EZ).version,.slice b c f],.bool ((cf d l).state e q).isSome]/\aO eO 84 G w' b c f (((cf d l).state e q).getD EZ).cells/\(∀P,G P->w.heap.size<=P)/\ai w w'):=by
 obtain⟨y,z,t,rfl,i⟩:=r;refine qq (PA.mk λA g B u=>⟨p,0,rfl,_,ae (dB.ah i g).bf rfl,PC.ok (mr ((dB.ah i g).at' 3)) ?_⟩);rintro _ C ⟨b,c,f,G,rfl,v,j,h⟩;have E:=h.size;refine⟨_,_,_,_,_,rfl,PS.mk (h.get u id) sM λH k I x=>PS.mk x sM λJ m K n=>⟨_,_,_,_,ae n rfl,ae n rfl,Ok.mk ⟨b,c,f,G,rfl,?_,λP a=>?_,?_⟩⟩⟩
 ·exact v.af (k.then m) λP a o=>by have o:P=w.heap.size:=o;have:=j P a;omega
 ·have:=j P a;omega
 ·exact(g.then h).new (k.then m) λP a=>.inr (by have a:P=w.heap.size:=a;omega)
def Dq(a:cJ w p F d every l):ZG 389 #[XL p] w (Ok (od wZ 160 w (cf d l).entries)):=by
 obtain⟨b,i,c,rfl,P⟩:=a;refine nE ⟨p,0,rfl,_,ae P.bf rfl,PC.ok (Dr (P.at' 3) (uN d l b.2.2.2).1) ?_⟩;rintro _ j ⟨e,f,g,G,rfl,h⟩;exact⟨_,_,_,rfl,Ok.mk ⟨e,f,g,G,rfl,h⟩⟩
def KY(j:cJ w p F d every l):ZG 390 #[XL p,XH e] w (Ok λk w'=>od Fz 269 w (gT d l e) k w'/\sO (gT d l e)):=by
 obtain⟨m,B,n,rfl,a⟩:=j;have C:=cd.len (a.at' 4);refine rD (an.dec (λg=>Ok.mk ⟨⟨none,0,0,λ_=>False,rfl,?_,ak.refl _,λo b=>b.elim⟩,?_⟩) (λc=>⟨p,0,rfl,_,_,_,ae a.bf rfl,an.dec (λq=>Ok.mk ⟨⟨none,0,0,λ_=>False,rfl,?_,ak.refl _,λo b=>b.elim⟩,?_⟩) (λq=>?_)⟩))
 ·unfold gT;rw[Zx g];exact aO.nil _
 ·unfold gT;rw[Zx g];exact List.Pairwise.nil
 ·unfold gT;rw[Zq c,Q7 oM];exact aO.nil _
 ·unfold gT;rw[Zq c,Q7 oM];exact List.Pairwise.nil
 ·obtain⟨P,rfl⟩:∃P:Nat,e=P:=⟨e.toNat,oM⟩
  have f:(dE d l).rows[P]? =some (dE d l).rows[P]:=Qq oM;have h:(dE d l).rows[P]∈(dE d l).rows:=XY oM;have r:gT d l (P:Int)=(dE d l).rows[P].list:=by unfold gT;rw[Zq c,Qx,f]
  rw[r];generalize(dE d l).rows[P]=s at f h;obtain⟨t,E,H,u,v,i,-⟩:=cd.elem (a.at' 4) f;refine⟨p,0,rfl,_,_,_,ae a.bf rfl,t,0,u,oM,oM,_,by rw[Qx];exact v,PC.ok (KZ i (Xx (JZ d l s h) m.2.2.2)) ?_⟩;rintro _ I ⟨x,y,z,G,rfl,A⟩;exact⟨_,_,_,rfl,Ok.mk ⟨⟨x,y,z,G,rfl,A⟩,i.SN⟩⟩
end
structure au.Cl (S:au):Prop where
 ok:S.OK
 iw:∀e∈S.l,∀o,o<S.n->S.iw e o=true
 le:∀e∈S.l,e.seq<=(S.sK e.origin.toNat:Int)
 has:∀(o:Nat) (s:Int),o<S.n->1<=s->s<=(S.sK o:Int)->∃e∈S.l,aR e=((o:Int),s)
def oE:B.iw l a=true↔l.aN.getD a 0=0\/∃P,B.get ((a:Int),l.aN.getD a 0)=some P/\P.ax<l.ax/\∀b,b<P.aN.length->P.aN.getD b 0<=l.aN.getD b 0:=by
 unfold au.iw;generalize l.aN.getD a 0=c;dsimp only
 cases d:B.get ((a:Int),c)with
 |none=>simp
 |some P=>simp
def au.Cl.new(P:a<=64):au.Cl ⟨a,[]⟩:=⟨au.rE P,sM,sM,λc d _ e b=>by simp[au.sK]at b;omega⟩
def au.Pq(P:au.OK ⟨B.n,de l B.l⟩)(a:B.get d4=some M):au.get ⟨B.n,de l B.l⟩ d4=some M:=by
 obtain⟨b,rfl⟩:=au.get_some a;exact P.get ((cW l B.l).mem_iff.2 (QJ _ b))
def au.ic(P:au)(a:aj):((P.add a).1≠0/\(P.add a).2=P)\/(P.add a=(0,⟨P.n,de a P.l⟩)/\cD a P.n=0/\P.get (aR a)=none/\a.seq=P.vec.getD a.origin.toNat 0+1/\∀b,b<P.n->P.iw a b=true):=by
 rw[au.add_def];split
 ·rename_i c;exact .inl ⟨c,rfl⟩
 rename_i d;split
 ·exact .inl ⟨sM,rfl⟩
 rename_i e;split
 ·exact .inl ⟨sM,rfl⟩
 rename_i f;split
 ·exact .inl ⟨sM,rfl⟩
 rename_i g;refine .inr ⟨rfl,by simpa using d,by simpa using e,by simpa using f,?_⟩;simpa[List.any_eq_false]using g
def au.Ke{S:au}(a:cD l S.n=0)(b:S.get (aR l)=none)(c:l.seq=S.vec.getD l.origin.toNat 0+1)(d:∀P,P<S.n->S.iw l P=true):S.add l=(0,⟨S.n,de l S.l⟩):=by
 rw[au.add_def,Zq (by simpa using a),Zq (by simp[b]),Zq (by simpa using c),Zq];simpa[List.any_eq_false]using d
def au.Cl.add{c:au}(h:c.Cl){b:aj}(q:b.Ok):(c.add b).2.Cl:=by
 have l:=(au.yt h.ok q).1;rcases c.ic b with⟨-,g⟩|⟨i,r,y,s,t⟩
 ·rw[g];exact h
 rw[i]at l⊢;simp only at l⊢;obtain⟨z,A,B,-⟩:=lL r;obtain⟨j,m⟩:∃j:Nat,b.origin=j:=⟨b.origin.toNat,oM⟩
 have u:j<c.n:=oM
 rw[m,Qx,c.ix u]at s;have d:∀P,P∈de b c.l↔P=b\/P∈c.l:=λP=>by rw[(cW b c.l).mem_iff,Q2]
 have e:∀P f,c.iw P f=true->au.iw ⟨c.n,de b c.l⟩ P f=true:=λP f a=>by
  rw[oE]at a⊢;rcases a with a|⟨v,i,g⟩
  ·exact .inl a
  ·exact .inr ⟨v,au.Pq l i,g⟩
 refine⟨l,λP a f k=>?_,λP a=>?_,λf n k i g=>?_⟩
 ·rcases(d P).1 a with rfl|a
  ·exact e _ _ (t f k)
  ·exact e _ _ (h.iw P a f k)
 ·rw[au.DE]
  rcases(d P).1 a with rfl|a
  ·rw[m,Qx,Zx rfl];omega
  ·have:=h.le P a
   split<;>omega
 ·rw[au.DE]at g
  by_cases p:b.origin=(f:Int)
  ·rw[Zx p]at g
   have w:j=f:=oM
   subst w
   by_cases x:n=b.seq
   ·exact⟨b,(d b).2 (.inl rfl),by simp[aR,m,x]⟩
   ·obtain⟨P,a,o⟩:=h.has j n k i oM
    exact⟨P,(d P).2 (.inr a),o⟩
  ·rw[Zq p]at g
   obtain⟨P,a,o⟩:=h.has f n k i oM;exact⟨P,(d P).2 (.inr a),o⟩
def au.QP(P:au)(a:aj):(P.add a).2.n=P.n:=by
 rcases P.ic a with⟨-,b⟩|⟨c,-⟩
 ·rw[b]
 ·rw[c]
def au.xX(P:au)(a:aj):(P.add a).2.l.length<=P.l.length+1:=by
 rcases P.ic a with⟨-,b⟩|⟨c,-⟩
 ·rw[b];omega
 ·rw[c];show(de a P.l).length<=_;rw[(cW a P.l).length_eq];simp
def au.qb(P:au)(a:List aj)(b:aj):P.e_ (a++[b])=((P.e_ a).add b).2:=by unfold au.e_;rw[List.foldl_append];rfl
def au.Nj(P:au)(a b:List aj):P.e_ (a++b)=(P.e_ a).e_ b:=by unfold au.e_;rw[List.foldl_append]
def au.Cl.e_:∀{l:List aj} {S:au},S.Cl->(∀e∈l,e.Ok)->(S.e_ l).Cl
 |[],S,P,_=>P
 |e::l,S,P,a=>au.Cl.e_ (l:=l) (S:=(S.add e).2) (P.add (a e (QV ..))) λb c=>a b (QJ _ c)
def au.Nk:∀(a:List aj) (P:au),(P.e_ a).n=P.n
 |[],P=>rfl
 |e::a,P=>(au.Nk a _).trans (P.QP e)
def au.lF:∀(a:List aj) (P:au),(P.e_ a).l.length<=P.l.length+a.length
 |[],P=>by simp[au.e_]
 |e::a,P=>by
  have b:=au.lF a (P.add e).2;have c:=P.xX e;show((P.add e).2.e_ a).l.length<=_;simp only[Xq];omega
def mz{a:aj}:∀{P:List aj},(∀x∈P,dO a x=false)->de a P=P++[a]
 |[],_=>rfl
 |x::P,b=>by
  unfold de;rw[Zq (by rw[b x (QV ..)];simp),mz λc d=>b c (QJ _ d)];rfl
def au.Cl.take{P:au}(h:P.Cl):∀{k:Nat},k<=P.l.length->(⟨P.n,[]⟩:au).e_ (P.l.take k)=⟨P.n,P.l.take k⟩/\au.Cl ⟨P.n,P.l.take k⟩
 |0,_=>⟨rfl,by simpa using au.Cl.new h.ok.n⟩
 |k+1,U=>by
  obtain⟨I,m⟩:=au.Cl.take h (k:=k) oM;have g:P.l[k]? =some P.l[k]:=Qq oM;have n:P.l[k]∈P.l:=XY oM;generalize P.l[k]=a at g n;have w:P.l=P.l.take k++a::P.l.drop (k+1):=by
   conv=>lhs;rw[<-ZX k P.l]
   congr 1
   rw[X4 oM]
   congr 1
   have:=Qq (l:=P.l) (i:=k) oM;rw[g]at this;exact(XJ this).symm
  have q:=h.ok.MZ;have i:=h.ok.ids;rw[w]at q i;have f:∀b∈P.l,dO b a=true->b∈P.l.take k:=λb d o=>by
   rw[w]at d;rcases Q6.1 d with d|d
   ·exact d
   rcases Q2.1 d with rfl|d
   ·rw[iy]at o;omega
   ·have J:=(List.pairwise_append.1 q).2.1
    have r:=(List.pairwise_cons.1 J).1 b d;rw[lG r]at o;cases o
  have c:∀b∈P.l.take k,dO b a=true:=λb d=>(List.pairwise_append.1 q).2.2 b d a (QV ..);have x:au.get ⟨P.n,P.l.take k⟩ (aR a)=none:=by
   cases K:au.get ⟨P.n,P.l.take k⟩ (aR a)with
   |none=>rfl
   |some b=>
    obtain⟨j,l⟩:=au.get_some K;rw[Q3,QY,List.nodup_append]at i;exact Zz l (i.2.2 (aR b) (Xk.2 ⟨b,j,rfl⟩) (aR a) (QV ..))
  have y:=h.ok.TQ a n;obtain⟨V,W,L,X,-,-,Y,-,z,-⟩:=lL y;obtain⟨e,s⟩:∃e:Nat,a.origin=e:=⟨a.origin.toNat,oM⟩
  have t:e<P.n:=oM
  have A:∀p,p<P.n->au.iw ⟨P.n,P.l.take k⟩ a p=true:=λp M=>by
   have:=h.iw a n p M;rw[oE]at this⊢;rcases this with B|⟨b,u,C,N⟩
   ·exact .inl B
   ·obtain⟨j,l⟩:=au.get_some u
    refine .inr ⟨b,?_,C,N⟩;rw[<-l];exact m.ok.get (f b j (by rw[iy];exact .inl C))
  have E:=h.ok.ok a n;have Q:a.seq=(au.vec ⟨P.n,P.l.take k⟩).getD a.origin.toNat 0+1:=by
   rw[s,Qx,au.ix (S:=⟨P.n,P.l.take k⟩) t];have Z:(au.sK ⟨P.n,P.l.take k⟩ e:Int)+1<=a.seq:=by
    rcases Int.lt_or_le (au.sK ⟨P.n,P.l.take k⟩ e:Int) a.seq with o|O
    ·omega
    ·obtain⟨b,R,S⟩:=m.has e a.seq t L O
     have:=au.get_none x b R;exact Zz (S.trans (by simp[aR,s])) this
   have O:a.seq<=(au.sK ⟨P.n,P.l.take k⟩ e:Int)+1:=by
    have T:ny (a.seq-1)=a.seq-1:=by
     have:=E.seq;exact wrap_i64 (by unfold aK at*;omega)
    rw[T,s,Qx]at z;have:=A e t;rw[oE,z]at this;rcases this with B|⟨b,u,-⟩
    ·omega
    ·obtain⟨j,l⟩:=au.get_some u
     have r:=m.le b j;have F:b.origin=e/\b.seq=a.seq-1:=by
      have:=l;simp only[aR,Prod.mk.injEq]at this;exact this
     rw[F.1,F.2,Qx]at r;omega
   show a.seq=(au.sK ⟨P.n,P.l.take k⟩ e:Int)+1;omega
  have H:=au.Ke (S:=⟨P.n,P.l.take k⟩) y x Q A;have a0:de a (P.l.take k)=P.l.take (k+1):=by
   rw[mz λb g=>lG (c b g),Qw,g];rfl
  rw[show P.l.take (k+1)=P.l.take k++[a] by rw[Qw,g];rfl,au.qb,I,H];have v:=m.add E;rw[H]at v;rw[show de a (P.l.take k)=P.l.take k++[a]from mz λb g=>lG (c b g)]at v⊢;exact⟨rfl,v⟩
def au.Cl.SP(P:B.Cl):(⟨B.n,[]⟩:au).e_ B.l=B:=by
 have:=(P.take (Q4 _)).1;rw[List.take_length]at this;exact this
def Ce{P:aj}:∀{l:List aj},(∀x∈l,aR x≠aR P)->de P l=l.take (posOf (λx=>dO x P) l)++P::l.drop (posOf (λx=>dO x P) l)
 |[],_=>rfl
 |x::l,b=>by
  have c:=b x (QV ..);unfold de posOf;rw[List.takeWhile_cons]
  by_cases a:dO x P=true
  ·rw[Zx a,Zq (by rw[lG a];simp)]
   have:=Ce (l:=l) λd e=>b d (QJ _ e);rw[this];simp[posOf]
  ·rw[Zq a,Zx ((Dx c).resolve_left a)]
   rfl
structure oz (most:Nat) (l:List aj):Prop where
 MZ:RC l
 ids:(l.map aR).Nodup
 ok:∀e∈l,e.Ok
 le:l.length<=most
def oz.nil(P:Nat):oz P []:=⟨List.Pairwise.nil,sM,sM,Qj _⟩
def oz.add(c:oz a F)(g:l.Ok):oz a (eH a F l).2:=by
 unfold eH;split
 ·exact c
 rename_i e;rw[not_or]at e;have f:∀P∈F,aR P≠aR l:=by
  have:=e.2;simp only[List.any_eq_true,beq_iff_eq,not_exists,not_and]at this;exact this
 have d:=cW l F;refine⟨uR c.MZ f,?_,λP b=>?_,by rw[d.length_eq,Xq];omega⟩
 ·refine(d.map aR).nodup_iff.2 ?_
  rw[QY,List.nodup_cons];exact⟨λh=>by obtain⟨P,b,i⟩:=Xk.1 h;exact f P b i,c.ids⟩
 ·rcases Q2.1 (d.mem_iff.1 b)with rfl|b
  ·exact g
  ·exact c.ok P b
def oz.sub(P:oz a F)(b:d9.Sublist F):oz a d9:=
 ⟨P.MZ.sublist b,P.ids.sublist (b.map aR),λc d=>P.ok c (b.subset d),Xx b.length_le P.le⟩
def qS{a:au}:∀{P:List aj},(∀e∈P,(a.add e).1≠0)->ey a P=none
 |[],_=>rfl
 |e::P,b=>by
  unfold ey;rw[Zq (b e (QV ..)),qS λc d=>b c (QJ _ d)];rfl
def qT{b:au}:∀{P:List aj} {i:Nat} {e:aj},(∀x∈P.take i,(b.add x).1≠0)->P[i]? =some e->(b.add e).1=0->ey b P=some (e,(b.add e).2,P.eraseIdx i)
 |[],i,e,_,a,_=>by simp at a
 |x::P,0,e,c,a,d=>by
  simp at a;subst a;unfold ey;rw[Zx d];rfl
 |x::P,i+1,e,c,a,d=>by
  unfold ey;rw[Zq (c x sM),qT (i:=i) (e:=e) (λf g=>c f (by simp[g])) (by simpa using a) d]
  rfl
def bH(P:cN)(a:ZH)(b c:Nat)(d:ZH)(e f:Nat):List Value:=[XH P.kind,XH P.bB,XH P.og,.slice a b c,.slice d e f]
abbrev iY(P:cN)(a:ZH)(b c:Nat)(d:ZH)(e f:Nat):Value:=.agg (bH P a b c d e f).toArray
def iF(P:cN)(a:ZH)(b c:Nat)(d:ZH)(e f:Nat):gN XP 60 (bH P a b c d e f)=true:=kR
def Tl(P:cN)(a:ZH)(b c:Nat)(d:ZH)(e f:Nat):Pd (fp XP 60) (iY P a b c d e f)=true:=kR
section
variable {w w':World} {D E F:XN} {m:cN} {va ea:ZH} {vn vc en ec N:Nat} {chunk:Int} {p:Nat} {S:au}
def Jo(c:Row aG 8 w D va vn m.vec)(j:Row fY 96 w E ea en m.events):ZG 97 #[iY m va vn vc ea en ec,XH (N:Int)] w (Ok λk w'=>k= XH (fP m N)/\ai w w'):=by
 have u:=c.len;have v:=j.len;have l:=c.dq;refine DT (PA.mk λx d y e=>⟨_,_,_,ae e rfl,an.dec (λn=>Ok.mk ⟨?_,d⟩) (λn=>⟨_,_,_,ae e rfl,an.df (λo=>Ok.mk ⟨?_,d⟩) (λo=>⟨_,_,_,ae e rfl,λg p w'=>∃P:Nat,p=P/\P<=vn/\g=vn-P/\((m.vec.take P).any λa=>decide (a<0))=false/\ai w w',⟨_,0,rfl,Qj _,rfl,sM,d⟩,?_⟩)⟩)⟩)
 ·unfold fP;rw[Zx oM]
 ·unfold fP;rw[Zq oM,Zx oM]
 rintro g _ _ z ⟨P,rfl,A,rfl,f,b⟩;refine an.dec (λB=>?_) (λC=>Ok.mk ⟨?_,b⟩)
 ·obtain⟨q,r,a,s,h,-,t⟩:=(c.ah b).ko (i:=P) oM
  refine⟨q,r,s,oM,oM,a,t,an.dec (λi=>Ok.mk ⟨?_,b⟩) (λi=>⟨_,oM,P+1,aq (by unfold aI at l;omega),oM,rfl,?_,b⟩)⟩
  ·unfold fP;rw[Zq oM,Zq oM,Zx (List.any_eq_true.2 ⟨a,QZ h,by simpa using i⟩)]
  ·rw[Qw,h,List.any_append,f];simp;omega
 ·rw[Qz oM]at f
  unfold fP;rw[Zq oM,Zq oM,Zq (by rw[f];simp)]
def wI{d:Type}{P:d->Int}:∀{a:List d} {e:Nat} {b:d},(∀y∈a.take e,P y=0)->a[e]? =some b->P b≠0->ck P a=P b
 |y::a,0,b,_,c,f=>by
  simp at c;subst c;unfold ck;rw[Zx (by simpa using f)]
 |y::a,e+1,b,g,c,f=>by
  have h:P y=0:=g y sM;unfold ck
  rw[h];simp only[bne_self_eq_false,Bool.false_eq_true,if_false];exact wI (λi j=>g i (QJ _ j)) (by simpa using c) f
def Av{a:Type}{b:a->Int}:∀{P:List a},(∀y∈P,b y=0)->ck b P=0
 |[],_=>rfl
 |y::P,c=>by
  unfold ck
  rw[c y (QV ..)];simpa using Av λd e=>c d (QJ _ e)
def Jp(t:Row aG 8 w D va vn m.vec)(i:Row fY 96 w E ea en m.events)(u:N<4611686018427387904):ZG 96 #[iY m va vn vc ea en ec,XH (N:Int),XH chunk] w (Ok λv w'=>v= XH (eG m N chunk)/\ai w w'):=by
 have W:=t.len;have X:=i.len;have x:=i.dq;refine DS (PA.mk λY b Z c=>⟨_,_,_,ae c rfl,an.dec (λy=>Ok.mk ⟨?_,b⟩) (λy=>⟨_,_,_,ae c rfl,an.dec (λz=>Ok.mk ⟨?_,b⟩) (λz=>⟨_,_,_,ae c rfl,an.dec (λA=>Ok.mk ⟨?_,b⟩) (λA=>⟨_,_,_,ae c rfl,λn j w'=>∃P:Nat,j=P/\P<=en/\n=en-P/\(∀a∈m.events.take P,cD a N=0)/\ai w w',⟨_,0,rfl,Qj _,rfl,sM,b⟩,?_⟩)⟩)⟩)⟩)
 ·unfold eG;rw[Zx oM]
 ·unfold eG;rw[Zq oM,Zx (.inl oM)]
 ·unfold eG;rw[Zq oM,Zx (.inr oM)]
 rintro n _ _ B ⟨P,rfl,hj,rfl,d,e⟩;have o:eG m N chunk=ck (λC=>cD C N) m.events:=by unfold eG;rw[Zq oM,Zq oM]
 refine an.dec (λa4=>?_) (λa5=>Ok.mk ⟨?_,e⟩)
 ·obtain⟨p,F,es,I,J,a6,q,f,g,h,rfl,r,K⟩:=(i.ah e).el P m.events[P] (Qq oM)
  have k:m.events[P]? =some m.events[P]:=Qq oM;generalize m.events[P]=a at q r K k;refine⟨p,F,I,oM,oM,bl (es:=aB a f g h) (k:=10) (aV a f g h) rfl (λj L=>q j L) (PA.mk λw3 M s3 O=>az (aV a f g h) O rfl λQ R s4 S=>ar (aV a f g h) S ?_)⟩;have l:ai B Q:=M.new R λp J=>.inr oM;refine PC.ok (wv (r.ah l) u) ?_;rintro _ w5 ⟨rfl,s⟩;refine⟨_,rfl,an.df (λT=>Ok.mk ⟨by rw[o,wI d k T],(e.then l).then s⟩) (λU=>⟨_,oM,P+1,aq (by unfold aI at x;omega),oM,rfl,λV H=>?_,(e.then l).then s⟩)⟩;rw[Qw,k]at H;rcases Q6.1 H with H|H
  ·exact d V H
  ·simp at H;subst H;exact U
 ·rw[Qz oM]at d
  rw[o,Av d]
def wJ(i:cj w p F S):ZG 112 #[XL p,XH e,XH q] w (Ok λj w'=>∃va vn vc G,j=iY (jv S e q) va vn vc none 0 0/\aO aG 3 G w' va vn vc S.vec/\(∀q,G q->w.heap.size<=q)/\ai w w'):=by
 refine Bo (PA.mk λn f o k=>PC.ok (kp (i.ah f)) ?_);rintro _ r ⟨a,b,c,G,rfl,l,d,g⟩;have s:=d.size;refine⟨_,_,_,rfl,az (iF (jv S e q) a b c none 0 0) (d.get k id) rfl λt h u m=>ar (iF (jv S e q) a b c none 0 0) m (Ok.mk ⟨a,b,c,G,rfl,l.af h λq P v=>?_,λq P=>?_,(f.then d).new h λq P=>.inr oM⟩)⟩
 ·have:=g q P;omega
 ·have:=g q P;omega
def GV(i:cj w p F S):ZG 99 #[XL p,XH e,XH q] w (Ok λj w'=>∃va vn vc G,j=iY (xR S e q) va vn vc none 0 0/\aO aG 3 G w' va vn vc S.vec/\(∀q,G q->w.heap.size<=q)/\ai w w'):=by
 refine Is (PA.mk λn f o k=>PC.ok (kp (i.ah f)) ?_);rintro _ r ⟨a,b,c,G,rfl,l,d,g⟩;have s:=d.size;refine⟨_,_,_,rfl,az (iF (xR S e q) a b c none 0 0) (d.get k id) rfl λt h u m=>ar (iF (xR S e q) a b c none 0 0) m (Ok.mk ⟨a,b,c,G,rfl,l.af h λq P v=>?_,λq P=>?_,(f.then d).new h λq P=>.inr oM⟩)⟩
 ·have:=g q P;omega
 ·have:=g q P;omega
def CN{cs:Array Value}(b:w.heap[a]? =some (.cells cs g C))(c:cs[0]? =some (XH (N:Int))):ZG 95 #[XH e,XL a] w (Ok λd w'=>d= .bool (decide (0<=e)&&decide (e<N))/\w=w'):=by
 refine Bs (an.dec (λP=>⟨_,ae b c,Ok.mk ⟨?_,rfl⟩⟩) (λP=>Ok.mk ⟨?_,rfl⟩))
 ·rw[Zy (show 0<=e from P)];rfl
 ·rw[Xv (show¬0<=e from P)];rfl
def Me(o:Row aG 8 w D va vn m.vec)(p:Row fY 96 w E ea en m.events)(v:N<4611686018427387904):ZG 45 #[iY m va vn vc ea en ec,XH (N:Int),XH chunk] w (Ok λg w'=>g= XH (eW m N chunk)/\ai w w'):=by
 refine FU (PA.mk λx y J z=>PA.mk λi q K j=>?_);have c:=q.get z id;have P:=y.then q;refine⟨λA w'=>A=(!(decide (0<=m.bB)&&decide (m.bB<N))|| !(decide (0<=m.og)&&decide (m.og<N))||m.bB==m.og)/\i=w',?_,?_⟩
 ·refine⟨_,ae c rfl,_,_,_,rfl,kR,PC.ok (CN (N:=N) j rfl) ?_⟩
  rintro _ _ ⟨rfl,rfl⟩;refine⟨_,rfl,an.not (an.mk (λa=>⟨_,ae c rfl,_,_,_,rfl,kR,PC.ok (CN (N:=N) j rfl) ?_⟩) (λa=>⟨by rw[a];rfl,rfl⟩))⟩;rintro _ _ ⟨rfl,rfl⟩;refine⟨_,rfl,an.not (an.mk (λb=>⟨_,ae c rfl,_,ae c rfl,by rw[a,b];rfl,rfl⟩) (λb=>⟨by rw[a,b];rfl,rfl⟩))⟩
 rintro k _ _ ⟨B,rfl⟩;have f:eW m N chunk=if m.kind=3 then(if k then 1 else eG m N chunk)else if m.kind=1\/m.kind=2\/m.kind=4 then(if k then 1 else fP m N)else 2:=by rw[B];rfl
 have d:∀{r:List PanicEntry->XU},(if k then 1 else fP m N)=eW m N chunk->an k (Ok (λg w'=>g= XH (eW m N chunk)/\ai w w') (.returned (XH 1)) i) (nK XP 60 (XL w.heap.size) i λC=>(∃(s:Int),i.cell? ⟨x.heap.size,0,none⟩=some (XH s)/\PC XP 97 #[C,XH s] i (λF H=>∃(t:Int),F= XH t/\Ok (λg w'=>g= XH (eW m N chunk)/\ai w w') (.returned (XH t)) H) r)):=λ{r} u=>by
  refine an.mk (λh=>Ok.mk ⟨by rw[<-u,h];rfl,P⟩) (λh=>ar (iF m va vn vc ea en ec) c ⟨_,ae j rfl,PC.ok (Jo (o.ah P) (p.ah P)) ?_⟩);rintro _ I ⟨rfl,l⟩;exact⟨_,rfl,Ok.mk ⟨by rw[<-u,h];rfl,P.then l⟩⟩
 refine⟨_,ae c rfl,an.dJ (λe=>an.not (an.mk (λh=>?_) (λh=>ar (iF m va vn vc ea en ec) c ⟨_,ae j rfl,PC.ok (Jp (o.ah P) (p.ah P) v) ?_⟩))) (λe=>an.dJ (λa=>an.tt (by simpa using a) (d ?_)) (λa=>an.dJ (λb=>an.tt (by simpa using b) (d ?_)) (λb=>an.dJ (λn=>d ?_) (λn=>Ok.mk ⟨?_,P⟩))))⟩
 ·exact an.tt h (Ok.mk ⟨by rw[f,Zx e,h];rfl,P⟩)
 ·rintro _ I ⟨rfl,l⟩
  exact⟨_,rfl,Ok.mk ⟨by rw[f,Zx e,h];rfl,P.then l⟩⟩
 ·rw[f,Zq e,Zx (show m.kind=1\/m.kind=2\/m.kind=4 from .inl a)]
 ·rw[f,Zq e,Zx (show m.kind=1\/m.kind=2\/m.kind=4 from .inr (.inl b))]
 ·rw[f,Zq e,Zx (show m.kind=1\/m.kind=2\/m.kind=4 from .inr (.inr n))]
 ·rw[f,Zq e,Zq (by rintro(h|h|h);exact a h;exact b h;exact n h)]
end
structure MX (w:World) (p:Nat) (M D:XN) (most:Nat) (l:List aj) (a:ZH) (n c:Nat) (L:List (Bx aj)):Prop where
 at':w.heap[p]? =some (.cells #[XH (most:Int),.slice a n c] 146 (0,0))
 nx:aO oe.jq 55 (λb=>aF a=some b) w a n c L
 map:L.map (·.x)=l
 La:∀b∈L,oe.In w D b
 dD:∀b,D b->b<w.heap.size/\¬M b
 mp:M p
 ma:∀b,aF a=some b->M b/\b≠p
 dM:∀b,M b->b<w.heap.size
def fK(b:World)(c:Nat)(d D:XN)(P:Nat)(a:List aj):Prop:=(P<=256/\oz P a)/\∃e f g h,MX b c d D P a e f g h
section
variable {w w':World} {p:Nat} {M D T E:XN} {most:Nat} {l:List aj} {a:ZH} {n c:Nat} {L:List (Bx aj)}
def MX.af(b:MX w p M D most l a n c L)(e:ak T w w')(f:∀P,M P->¬T P)(g:∀P,D P->¬T P):MX w' p M D most l a n c L:=
 ⟨e.get b.at' (f _ b.mp),b.nx.af e λP d=>f P (b.ma P d).1,b.map,λP d=>(b.La P d).af e g,λP d=>⟨Qk (b.dD P d).1 e.size,(b.dD P d).2⟩,b.mp,b.ma,λP d=>Qk (b.dM P d) e.size⟩
def fK.af(b:fK w p M D most l)(d:ak T w w')(e:∀P,M P->¬T P)(f:∀P,D P->¬T P):fK w' p M D most l:=by
 obtain⟨g,a,n,c,L,b⟩:=b;exact⟨g,a,n,c,L,b.af d e f⟩
def fK.ah(P:fK w p M D most l)(a:ai w w'):fK w' p M D most l:=P.af a (λ_ _ P=>P) λ_ _ P=>P
def uP:iu XP 50 55 oe.jq.k 96:=Fg
def HW(g:0<=e/\e<=256):ZG 36 #[XH e] w (Ok λc w'=>∃p,c= XL p/\fK w' p (·=p) (λ_=>False) e.toNat []/\w.heap.size<=p/\p<w'.heap.size/\ai w w'):=by
 refine Dt (PA.mk λd f h b=>Ok.mk ⟨w.heap.size,rfl,⟨⟨oM,oz.nil _⟩,none,0,0,[],?_,(aO.nil d).mono (λa P=>P.elim) (λa P=>by cases P),rfl,sM,λa P=>P.elim,rfl,λa P=>(by cases P),λa P=>by have P:a=w.heap.size:=P;omega⟩,Q4 _,oM,f⟩);have:(if(if 256<e then 256 else e)>0 then(if 256<e then 256 else e)else 0)=((e.toNat:Nat):Int):=by split<;>split<;>omega
 rw[this]at b;exact b
def sQ(d:fK w p M D most l):ZG 62 #[XL p] w (Ok λf w'=>f= .tuple #[]/\fK w' p M (λ_=>False) most []/\ak M w w'):=by
 obtain⟨g,a,n,c,L,d⟩:=d;refine nG ⟨p,0,rfl,PS.mk d.at' sM λh i j k=>Ok.mk ⟨rfl,⟨⟨g.1,oz.nil _⟩,none,0,0,[],k,(aO.nil h).mono (λb P=>P.elim) (λb P=>by cases P),rfl,sM,λb P=>P.elim,d.mp,λb P=>(by cases P),λb P=>by rw[j];exact d.dM b P⟩,i.mono λb _ e=>by have e:b=p:=e;exact e▸d.mp⟩⟩
def yz{m o:Array Value}(s:enters XP y=true)(b:Nat->XU)(p:Nat->XU)(h:b 0 w)(i:∀P f,b P f->Row oe.jq 96 f E a n L)(t:∀P d f,L[P]? =some d->b P f->ZG y (m++ #[jf d.x d.a d.n d.c]++o) f (Ok λg w'=>(g= .bool true/\p P w')\/(g= .bool false/\b (P+1) w'))):
  ZG 235 #[.slice a n c,.func (.func y) m o] w (Ok λg w'=>(∃P,P<n/\g= XH (P:Int)/\p P w')\/(g= XH (-1)/\b n w')):=by
 have H:=(i 0 w h).len;have u:=(i 0 w h).dq;unfold aI at u;refine eT ⟨λq j w'=>∃P:Nat,j=P/\P<=n/\q=n-P/\b P w',⟨_,0,rfl,Qj _,rfl,h⟩,?_⟩;rintro q _ _ r ⟨P,rfl,I,rfl,k⟩;refine an.dec (λJ=>?_) (λK=>?_)
 ·have v:P<L.length:=oM
  have l:L[P]? =some L[P]:=Qq v;generalize L[P]=e at l;obtain⟨d,x,M,z,N,O,A,rfl,-⟩:=(i P r k).el P e l;refine⟨d,x,z,oM,oM,bl (es:=aB e.x e.a e.n e.c) (k:=10) (aV _ _ _ _) rfl (λj B=>by rw[Qx];exact A j B) ⟨_,_,_,rfl,s,PC.ok (t P e r l k) ?_⟩⟩;rintro _ Q (⟨rfl,C⟩|⟨rfl,F⟩)
  ·exact⟨_,rfl,an.tt rfl (Ok.mk (.inl ⟨P,oM,rfl,C⟩))⟩
  ·exact⟨_,rfl,an.ff rfl ⟨_,oM,P+1,aq oM,oM,rfl,F⟩⟩
 ·obtain rfl:P=n:=oM
  exact Ok.mk (.inr ⟨rfl,k⟩)
def FH{a:aj}{g h:Nat}{b:Nat}{c:aj}{i j:Nat}(e:w.heap[b]? =some (.cells (aB c r i j).toArray 55 C)):
  ZG 227 #[jf a d g h,XL b] w (Ok λk w'=>k= .bool (aR a==aR c)/\ai w w'):=by
 refine nH (PA.mk λl P m f=>⟨_,_,ae f rfl,ae f rfl,_,_,ae (P.get e id) rfl,ae (P.get e id) rfl,JX.eql ⟨_,rfl,Ok.mk ⟨rfl,P⟩⟩⟩)
def HX(l:Row oe.jq 96 w E a n L)(v:∀P,E P->P<w.heap.size){m:Nat}{f:aj}{q r:Nat}(s:w.heap[m]? =some (.cells (aB f d q r).toArray 55 C)):
  ZG 226 #[.slice a n c,.func (.func 227) #[] #[XL m]] w (Ok λo w'=>o= .bool (L.any λP=>aR P.x==aR f)/\ai w w'):=by
 have x:=l.len;refine eu (PC.ok (yz (E:=E) kR (λg h=>(∀P∈L.take g,(aR P.x==aR f)=false)/\ai w h) (λg h=>(L.any λP=>aR P.x==aR f)=true/\ai w h) ⟨sM,ak.refl _⟩ (λg h i=>l.ah i.2) ?_) ?_)
 ·rintro g P h j ⟨k,b⟩
  refine(FH (b.get s id)).mono ?_;rintro _ y ⟨o,rfl,rfl,p⟩;refine Ok.mk ?_
  cases i:aR P.x==aR f
  ·refine .inr ⟨rfl,λt e=>?_,b.then p⟩
   rw[Qw,j]at e;rcases Q6.1 e with e|e
   ·exact k t e
   ·simp at e;subst e;exact i
  ·exact .inl ⟨rfl,List.any_eq_true.2 ⟨P,QZ j,i⟩,b.then p⟩
 ·rintro _ z (⟨g,A,rfl,u,b⟩|⟨rfl,k,b⟩)
  ·exact⟨_,rfl,Ok.mk ⟨by rw[u,Zy oM],b⟩⟩
  ·refine⟨_,rfl,Ok.mk ⟨?_,b⟩⟩
   rw[Qz oM]at k;rw[List.any_eq_false.2 λP j=>by rw[k P j];simp]
   rfl
end
section
variable {w w':World} {p:Nat} {M D T E:XN} {most:Nat} {l:List aj} {a:ZH} {n c:Nat} {L:List (Bx aj)}
def oA{e f:aj}{a i:ZH}{n c j k:Nat}{w:World}:ZG 229 #[jf e a n c,jf f i j k] w (Ok λl w'=>l= XH (qR e f)/\ai w w'):=by
 refine uQ (PA.mk λu m v o=>PA.mk λp g x q=>λr s=>⟨λ_=>False,?_⟩);have P:ai p r:=s.af;have b:=P.get (g.get o id) id;have d:=P.get q id;refine⟨_,ae b rfl,_,ae d rfl,id,_,ae b rfl,id,_,ae d rfl,id,_,ae b rfl,id,_,ae d rfl,PC.ok fL ?_⟩;rintro _ _ ⟨rfl,rfl⟩;refine⟨_,rfl,ak.refl _,PC.ok fL ?_⟩;rintro _ _ ⟨rfl,rfl⟩;refine⟨_,rfl,ak.refl _,PC.ok fL ?_⟩;rintro _ _ ⟨rfl,rfl⟩;refine⟨_,rfl,ak.refl _,PA.mk λy h z t=>⟨h,PC.ok (MY t) ?_⟩⟩;rintro _ _ ⟨rfl,rfl⟩;exact⟨_,rfl,ak.refl _,Ok.mk ⟨by rw[FI],((m.then g).then P).then h⟩⟩
def Cd{P a:aj}:qR P a<0↔dO P a=true:=by
 unfold qR
 cases dO P a
 ·cases dO a P<;>simp
 ·simp
def Bb(x:Row oe.jq 96 w E a n L)(U:RC (L.map (·.x))){i:aj}{C F:Nat}:
  ZG 228 #[.slice a n c,jf i d C F,.func (.func 229) #[] #[]] w (Ok λV w'=>∃P,V= .tuple #[XH ((posOf (λo=>dO o.x i) L:Nat):Int),.bool P]/\ai w w'):=by
 have hl:=x.len;have W:=x.dq;unfold aI at W;have N:∀{j k:Nat} {b l:Bx aj},L[j]? =some b->L[k]? =some l->j<=k->b=l\/dO b.x l.x=true:=λ{j k b l} m q b4=>by
  rcases Nat.lt_or_ge j k with h|h
  ·right
   have y:(L.map (·.x))[j]? =some b.x:=by rw[Q9,m];rfl
   have z:(L.map (·.x))[k]? =some l.x:=by rw[Q9,q];rfl
   obtain⟨X,Y⟩:=Qv.1 y;obtain⟨Z,e2⟩:=Qv.1 z;have:=List.pairwise_iff_getElem.1 U j k X Z h;rw[Y,e2]at this;exact this
  ·obtain rfl:j=k:=oM
   rw[m]at q;exact .inl (XJ q)
 refine cU (PA.mk λa4 O b5 Q=>⟨λR j k w'=>∃p e:Nat,j=p/\k=e/\R=e-p/\p<=e/\e<=n/\(∀P b,P<p->L[P]? =some b->dO b.x i=true)/\(∀P b,e<=P->L[P]? =some b->dO b.x i=false)/\ai a4 w',
  ⟨_,0,n,rfl,rfl,rfl,oM,oM,λP b g=>oM,λP b g m=>by have:=(Qv.1 m).1;omega,ak.refl _⟩,?_⟩)
 rintro R _ _ _ S ⟨p,e,rfl,rfl,rfl,b6,a5,y,z,s⟩;have t:enters XP 229=true:=kR
 refine an.dec (λb7 a6 a7=>?_) (λb8 a8 a9=>?_)
 ·have A:ai S a6:=a7.af
  have u:=(O.then s).then A;rw[RA oM];have r:L[(p+e)/2]? =some L[(p+e)/2]:=Qq oM;generalize L[(p+e)/2]=f at r;obtain⟨o,H,es,I,b0,b1,J,rfl,-⟩:=(x.ah u).el _ f r;refine⟨o,H,I,oM,oM,bl (es:=aB f.x f.a f.n f.c) (k:=10) (aV _ _ _ _) rfl (λP g=>by rw[Qx];exact J P g) (ar (aV i d C F) ((s.then A).get Q id) ⟨_,_,_,rfl,t,PC.ok oA ?_⟩)⟩;rintro _ b2 ⟨rfl,B⟩;refine⟨_,rfl,an.dec (λK=>⟨_,?_,(p+e)/2+1,e,aq oM,rfl,rfl,oM,a5,λP l g q=>?_,z,(s.then A).then B⟩) (λK=>⟨_,?_,p,(p+e)/2,rfl,rfl,rfl,oM,oM,y,λP l g q=>?_,(s.then A).then B⟩)⟩
  ·omega
  ·have v:=Cd.1 K
   rcases N q r oM with rfl|M
   ·exact v
   ·exact rH M v
  ·omega
  ·have v:¬dO f.x i=true:=λh=>K (Cd.2 h)
   rcases N r q g with rfl|M
   ·simpa using v
   ·cases h4:dO l.x i
    ·rfl
    ·exact Zz (rH M h4) v
 ·obtain rfl:p=e:=oM
  have T:ai S a8:=a9.af;have u:=(O.then s).then T;have a3:posOf (λo=>dO o.x i) L=p:=yx oM (λP b g m=>y P b g m) (λb m=>z p b (Q4 _) m);rw[a3];refine an.dec (λb3=>?_) (λb3=>Ok.mk ⟨false,rfl,u⟩);have r:L[p]? =some L[p]:=Qq oM;generalize L[p]=f at r;obtain⟨o,H,es,I,b0,b1,J,rfl,-⟩:=(x.ah u).el _ f r;refine⟨o,H,I,oM,oM,bl (es:=aB f.x f.a f.n f.c) (k:=10) (aV _ _ _ _) rfl (λP g=>by rw[Qx];exact J P g) (ar (aV i d C F) ((s.then T).get Q id) ⟨_,_,_,rfl,t,PC.ok oA ?_⟩)⟩;rintro _ b2 ⟨rfl,B⟩;exact⟨_,rfl,Ok.mk ⟨_,rfl,u.then B⟩⟩
def RD{f h:Nat}{x:Bx aj}(j:aO oe.jq 55 (λP=>aF a=some P) w a n c L)(k:f<=n)(l:w.heap[h]? =some (.cells (aB x.x x.a x.n x.c).toArray 55 (0,0)))(m:aF a≠some h)(r:L.length<=20000000):
  ZG 230 #[.slice a n c,XH (f:Int),.slice (XM h) 1 1] w (Ok λo w'=>∃d g,o= .slice d (n+1) g/\aO oe.jq 55 (λP=>aF d=some P) w' d (n+1) g (L.take f++x::L.drop f)/\ak (λP=>aF a=some P) w w'/\∀P,aF d=some P->aF a=some P\/w.heap.size<=P):=by
 refine ft (FJ.one (c:=oe.jq) (tb:=4) (x:=x) (D:=λ_=>False) uP kR ?_ j k l ⟨rfl,trivial⟩ (λP b=>b.elim) m ba (by unfold maxLen;omega) λd g w' s e p q=>Ok.mk ⟨d,g,rfl,aO.alone e,p,λP b=>?_⟩)
 ·intro i w
  rw[run_callFunc_extern Tryz.func285 kR kR kR (e:=Extern.SlicesOverlaps.overlaps #[50,50] #[4]) kR]
 ·rcases q P (e.self P b)with b|b|b
  ·exact .inl b
  ·exact b.elim
  ·exact .inr b
def RE{b:Nat}(e:aO oe.jq 55 (λP=>aF a=some P) w a n c L)(f:b<n)(i:n<=20000000):
  ZG 236 #[.slice a n c,XH (b:Int),XH (XG .i64 ((b:Int)+1))] w (Ok λg w'=>g= .slice a (n-1) c/\aO oe.jq 55 (λP=>aF a=some P) w' a (n-1) c (L.eraseIdx b)/\ak (λP=>aF a=some P) w w'):=
 fu (FK.one (c:=oe.jq) (tz:=0) uP kR e f (by unfold maxLen;omega) λw' d h=>Ok.mk ⟨rfl,d,h⟩)
def HY(f:fK w p M D most l){e:aj}{en ec:Nat}(O:Row aG 8 w E d en e.aN)(hE:∀P,E P->P<w.heap.size)(he:e.Ok):
  ZG 159 #[XL p,jf e d en ec] w (Ok λQ w'=>Q= .bool (eH most l e).1/\∃o q,fK w' p o q most (eH most l e).2/\ak M w w'/\(∀P,o P->M P\/w.heap.size<=P)/\∀P,q P->D P\/w.heap.size<=P):=by
 have b3:=f;obtain⟨B,a,n,c,L,f⟩:=f;have d7:L.length=l.length:=by rw[<-f.map,Q8]
 have hn:n=L.length:=f.nx.len dC;have d8:=f.dM p f.mp;have d9:=B.2.le;have j:(L.any λP=>aR P.x==aR e)=l.any (λi=>aR i==aR e):=by rw[<-f.map,List.any_map];rfl
 refine qs (PA.mk λc5 b4 e0 b5=>λR c6=>⟨λ_=>False,?_⟩);have S:ai c5 R:=c6.af;have m:ai w R:=b4.then S;have T:=m.get f.at' id;have no:(eH most l e)=(false,l)->∀U,ai w U->Ok (λQ w'=>Q= .bool (eH most l e).1/\∃o q,fK w' p o q most (eH most l e).2/\ak M w w'/\(∀P,o P->M P\/w.heap.size<=P)/\∀P,q P->D P\/w.heap.size<=P) (.returned (.bool false)) U:=λhq U k1=>
  Ok.mk ⟨by rw[hq],M,D,by rw[hq];exact b3.ah k1,ai.af k1,λP b=>.inl b,λP b=>.inl b⟩
 refine⟨p,0,rfl,_,_,_,ae T rfl,p,0,rfl,_,ae T rfl,an.dec (λe1=>no (by unfold eH;rw[Zx (.inl oM)]) R m) (λe2=>⟨p,0,rfl,id,_,_,_,ae T rfl,ak.refl _,PC.ok (HX (E:=λP=>aF a=some P) (((f.nx.ah m).row (bytes:=96) dC ba)) (λP b=>by have:=(f.nx.aC P b);have:=m.size;omega) (S.get b5 id)) ?_⟩)⟩;rintro _ b6 ⟨rfl,C⟩;refine⟨_,rfl,C,an.mk (λr=>no (by unfold eH;rw[Zx (.inr (j▸r))]) b6 (m.then C)) (λr=>?_)⟩;have F:=m.then C;have b7:eH most l e=(true,de e l):=by unfold eH;rw[Zq (by rw[<-j];rintro(g|g);omega;rw[r]at g;cases g)]
 have c7:∀i∈l,aR i≠aR e:=by
  rw[j]at r;simpa[List.any_eq_false]using r
 have V:=(S.then C).get b5 id;refine⟨_,_,_,ae V rfl,PC.ok (bP (O.ah F) λP b=>by have:=hE P b;have:=F.size;omega) ?_⟩;rintro _ b8 ⟨H,I,J,G,rfl,W,X,Y⟩;have e3:=F.size;have e4:=X.size;refine⟨_,_,_,rfl,PS.mk (X.get V id) (by simp[aB]) λZ a9 e5 c8=>λK b9=>?_⟩;have s:ai Z K:=b9.af;have e6:K.heap.size=Z.heap.size:=by rw[b9.heap]
 have a0:Z.heap[w.heap.size]? =some (.cells (aB e H I J).toArray 55 (0,0)):=c8;have a1:ai w K:=((F.then X).new a9 λP b=>.inr (by have b:P=w.heap.size:=b;omega)).then s;have b0:=f.af a1 (λ_ _ f=>f) λ_ _ f=>f;have c0:RC (L.map (·.x)):=by rw[f.map];exact B.2.MZ
 refine⟨p,0,rfl,_,_,_,ae b0.at' rfl,ar (aV e H I J) (s.get a0 id) (PC.ok (Bb (b0.nx.row (bytes:=96) dC ba) c0) ?_)⟩;rintro _ e7 ⟨a4,rfl,c9⟩;refine⟨_,_,rfl,λd0 d1=>⟨λ_=>False,?_⟩⟩;have t:ai K d0:=c9.then d1.af;have a2:=a1.then t;have c1:=b0.af t (λ_ _ f=>f) λ_ _ f=>f;have h:=t.get (s.get a0 id) id;have d6:=yw (λP:Bx aj=>dO P.x e) L;refine⟨p,0,rfl,id,_,_,_,ae c1.at' rfl,_,_,_,_,_,_,_,_,_,_,_,_,ae h rfl,ae h rfl,ae h rfl,ae h rfl,ae h rfl,ae h rfl,ae h rfl,ae h rfl,ae h rfl,ae h rfl,PA.mk λd2 u e8 d3=>⟨u,?_⟩⟩;have c3:=c1.af u (λ_ _ f=>f) λ_ _ f=>f;have e9:=a2.size;refine PC.ok (RD (x:=⟨e,H,I,J⟩) c3.nx oM d3 (λe=>by have:=f.nx.aC _ e;omega) oM) ?_;rintro _ f2 ⟨a',c',rfl,a3,v,x⟩;have b1:¬aF a=some p:=λe=>(f.ma p e).2 rfl;have f3:=v.size;refine⟨_,_,_,rfl,p,0,rfl,PS.mk (v.get c3.at' b1) sM λd4 N f4 d5=>?_⟩;have y:ak M w d4:=((ai.af (a2.then u)).then (v.mono λP _ b=>(f.ma P b).1)).then (N.mono λP _ e=>by have e:P=p:=e;exact e▸f.mp);refine Ok.mk ⟨by rw[b7],λP=>M P\/aF a'=some P,λP=>D P\/G P,⟨⟨B.1,B.2.add he⟩,a',n+1,c',L.take (posOf (λP=>dO P.x e) L)++⟨e,H,I,J⟩::L.drop (posOf (λP=>dO P.x e) L),d5,?_,?_,?_,?_,.inl f.mp,?_,?_⟩,?_,?_,?_⟩
 ·refine a3.af N λP b e=>?_
  have e:P=p:=e;rcases x P b with g|g
  ·exact b1 (e▸g)
  ·omega
 ·rw[b7]
  have c4:posOf (λi=>dO i e) l=posOf (λP:Bx aj=>dO P.x e) L:=by
   unfold posOf;rw[<-f.map,List.takeWhile_map,Q8];rfl
  show _=de e l;rw[Ce c7,c4,Q3,QY,List.map_take,List.map_drop,f.map]
 ·have b2:∀P,G P->b6.heap.size<=P/\P<b8.heap.size:=λP b=>⟨Y P b,W.aC P b⟩
  intro i k;rcases Q6.1 k with k|k
  ·exact((f.La i (List.mem_of_mem_take k)).af y λP b=>(f.dD P b).2).mono λP b=>.inl b
  rcases Q2.1 k with rfl|k
  ·refine⟨(((((W.af a9 λP b e=>?_).ah s).ah (t.then u)).af v λP b e=>?_).af N λP b e=>?_).row (bytes:=8) dC (by rw[<-O.len];exact O.dq)|>.mono λP b=>.inr b,he⟩
   ·have e:P=w.heap.size:=e;have:=b2 P b;have:=ay V;omega
   ·have:=f.nx.aC P e;have:=b2 P b;omega
   ·have e:P=p:=e;have:=b2 P b;omega
  ·exact((f.La i (List.mem_of_mem_drop k)).af y λP b=>(f.dD P b).2).mono λP b=>.inl b
 ·intro P b
  have hz:b8.heap.size<=d2.heap.size:=by have:=a9.size;have:=s.size;have:=t.size;have:=u.size;omega
  rcases b with b|b
  ·have g:=f.dD P b
   refine⟨by have:=y.size;omega,λz=>z.elim g.2 λe=>?_⟩;rcases x P e with A|A
   ·exact g.2 (f.ma P A).1
   ·omega
  ·have g:=W.aC P b;have h3:=Y P b
   have f5:=b4.size;refine⟨by have:=v.size;have:=N.size;omega,λz=>?_⟩;rcases z with z|e
   ·have:=f.dM P z;omega
   rcases x P e with A|A
   ·have:=f.nx.aC P A;omega
   ·omega
 ·intro P b
  refine⟨.inr b,λe=>?_⟩;rcases x P b with g|g
  ·exact b1 (e▸g)
  ·omega
 ·intro P b
  rcases b with b|b
  ·have:=f.dM P b;have:=y.size;omega
  ·have:=a3.aC P b;omega
 ·exact y
 ·intro P b
  rcases b with b|b
  ·exact .inl b
  rcases x P b with g|g
  ·exact .inl (f.ma P g).1
  ·exact .inr oM
 ·intro P b
  rcases b with b|b
  ·exact .inl b
  ·exact .inr (by have:=Y P b;omega)
end
end Go.Proofs.YtblabbpipmodgaaGreatDoor
namespace Go.aw
open Go
variable{E a c i n:Nat}{f:XN}{d:ZH}{h:Program}{j:Type}{g o:TypeId}{b:World}
def aO.Ph{k:Nat}{P:j->List Value}{p:j->Prop}{hl h1}{e:List j}{x:j}{s:XU}(l:aO (flat k P p hl h1) o f b d a c e)(z:E<e.length)(A:0<k)(B:p x)(C:d=some ⟨i,n,none⟩)(F:gN h g (P x)=true)(q:∀m,aO (flat k P p hl h1) o f m d a c (e.set E x)->ak (λi=>aF d=some i) b m->m.heap.size=b.heap.size->s m):w_ h g (.pointer (some ⟨i,n+E*k,none⟩)) (.agg (P x).toArray) b s:=by
 have L:=l.len A;obtain⟨cs,D,t,H,u⟩:=l.body;have M:cs.length=a*k:=t.length;have N:(E+1)*k<=a*k:=Q0 _ oM;have I:(E+1)*k=E*k+k:=by rw[X7,Nat.one_mul]
 refine t.store (m:=E*k) C F (by rw[hl];omega) λJ K v w=>q J ⟨⟨_,D,K,?_,u⟩,l.self,λi r=>by rw[w];exact l.aC i r⟩ v w;have y:=H.af v λi r=>(u i r).2;rw[hl,<-I,show e.set E x=e.take E++[x]++e.drop (E+1) by rw[XQ,List.singleton_append];exact List.set_eq_take_append_cons_drop .. |>.trans (Zx z)];exact bz.append (bz.append (y.take E) (bz.one ⟨rfl,B⟩)) (y.drop (E+1))
end Go.aw
namespace Go.Proofs.YtblabbpipmodgaaGreatDoor
section
open Go.aw
variable{y:FuncId}{a2 f:XN}{d:ZH}{B:au}
section
variable {w w':World} {p:Nat} {M D T E:XN} {most:Nat} {l:List aj} {a:ZH} {n c:Nat} {L:List (Bx aj)}
def Lb{F H:Array Value}{pr:aj->Bool}(I:enters XP y=true)(m:aO oe.jq 55 (λP=>aF a=some P) w a n c L)(hl:L.length<=20000000)(J:∀(P:Bx aj) e,ak (λP=>aF a=some P) w e->ZG y (F++ #[jf P.x P.a P.n P.c]++H) e (Ok λr w'=>r= .bool (pr P.x)/\ai e w')):
  ZG 233 #[.slice a n c,.func (.func y) F H] w (Ok λr w'=>∃o,r= .slice a o c/\aO oe.jq 55 (λP=>aF a=some P) w' a o c (L.filter λP=>!pr P.x)/\ak (λP=>aF a=some P) w w'):=by
 have hn:=m.len dC;have b6:=m.jB;have p:∀{e:World} {f:List (Bx aj)},aO oe.jq 55 (λP=>aF a=some P) e a n c f->f.length=L.length->Row oe.jq 96 e (λP=>aF a=some P) a n f:=λ{e f} Z b7=>Z.row dC ba;refine eR (PC.ok (yz (E:=λP=>aF a=some P) (L:=L) I (λd e=>(∀P∈L.take d,pr P.x=false)/\ai w e) (λd e=>(∀P∈L.take d,pr P.x=false)/\(∀P,L[d]? =some P->pr P.x=true)/\ai w e) ⟨sM,ak.refl _⟩ (λd e h1=>(p m rfl).ah h1.2) ?_) ?_)
 ·rintro d P e h ⟨i,z⟩
  refine(J P e (ai.af z)).mono ?_;rintro _ w2 ⟨r,rfl,rfl,K⟩;refine Ok.mk ?_
  cases M:pr P.x
  ·refine .inr ⟨rfl,λN g=>?_,z.then K⟩
   rw[Qw,h]at g;rcases Q6.1 g with g|g
   ·exact i N g
   ·simp at g;subst g;exact M
  ·exact .inl ⟨rfl,i,λN g=>by rw[h]at g;cases g;exact M,z.then K⟩
 rintro _ w4 (⟨k,b8,rfl,i,a0,q⟩|⟨rfl,i,q⟩)
 rotate_left
 ·refine⟨_,rfl,an.tt sM (Ok.mk ⟨n,rfl,?_,ai.af q⟩)⟩
  rw[Qz oM]at i;rw[List.filter_eq_self.2 λP h=>by rw[i P h];rfl];exact m.ah q
 have O:L[k]? =some L[k]:=Qq oM;have a8:(L.take (k+1)).filter (λP=>!pr P.x)=L.take k:=by
  rw[Qw,O,List.filter_append,List.filter_eq_self.2 λP h=>by rw[i P h];rfl];simp[a0 _ O]
 refine⟨_,rfl,an.ff sM ⟨λo l d w'=>∃(A j:Nat) (f:List (Bx aj)),l=A/\d=j/\A<j/\j<=n/\o=n-j/\aO oe.jq 55 (λP=>aF a=some P) w' a n c f/\f.length=L.length/\f.take A=(L.take j).filter (λP=>!pr P.x)/\f.drop j=L.drop j/\ak (λP=>aF a=some P) w w',
  ⟨_,k,k+1,L,rfl,aq oM,oM,oM,rfl,m.ah q,rfl,a8.symm,rfl,ai.af q⟩,?_⟩⟩
 rintro o _ _ _ Q ⟨l,d,f,rfl,rfl,b9,c0,rfl,s,B,t,R,u⟩;refine an.dec (λc1=>?_) (λc2=>?_)
 ·have v:L[d]? =some L[d]:=Qq oM
  have S:f[d]? =some L[d]:=by
   have:=Zj (·[0]?) R;simp only[List.getElem?_drop,Nat.add_zero]at this;rw[this,v]
  have T:f.drop (d+1)=L.drop (d+1):=by
   have:=Zj (List.drop 1) R
   rwa [List.drop_drop,List.drop_drop]at this
  generalize L[d]=b at v S;obtain⟨P,U,es,C,c3,c4,a9,rfl,-⟩:=(p s B).el d b S;refine⟨P,U,C,oM,oM,bl (es:=aB b.x b.a b.n b.c) (k:=10) (aV _ _ _ _) rfl (λa1 ht=>by rw[Qx];exact a9 a1 ht) (PA.mk λc5 b0 c6 b1=>az (aV b.x b.a b.n b.c) b1 rfl λV b2 c7 W=>ar (aV b.x b.a b.n b.c) W ⟨_,_,_,rfl,I,?_⟩)⟩;have X:ai Q V:=b0.new b2 λP h=>.inr (by have h:P=Q.heap.size:=h;omega);refine PC.ok (J b V (u.ah X)) ?_;rintro _ c8 ⟨rfl,Y⟩;have x:=X.then Y;refine⟨_,rfl,an.not (an.mk (λE=>⟨_,?_,l,d+1,f,rfl,aq oM,oM,oM,rfl,s.ah x,B,?_,T,u.ah x⟩) (λE=>?_))⟩
  ·omega
  ·rw[t,Qw,v,List.filter_append]
   simp[E]
  ·refine ar (aV b.x b.a b.n b.c) (Y.get W id) ⟨P,U,C,oM,oM,?_⟩
   rw[Qx];refine aO.Ph (x:=b) (k:=10) (s.ah x) oM dC trivial C (aV b.x b.a b.n b.c) λc9 a7 b3 d0=>⟨_,?_,l+1,d+1,f.set l b,aq oM,aq oM,oM,oM,rfl,a7,by simpa using B,?_,?_,(u.ah x).then b3⟩
   ·omega
   ·rw[Qw (l:=L),v,List.filter_append,<-t,Qw,List.getElem?_set_self oM,List.take_set_of_le (Q4 _)]
    simp[E]
   ·rw[List.drop_set_of_lt oM,T]
 ·obtain rfl:d=n:=oM
  rw[Qz (l:=L) oM]at t;refine⟨oM,oM,?_⟩;rw[Qx];refine yr uP kR s oM λd1 b4 b5 d2=>⟨oM,oM,Ok.mk ⟨l,rfl,?_,u.then b5⟩⟩
  rw[<-t];exact b4
def Le{b c:Nat}(l:cj w b f B)(m:w.heap[c]? =some (.cells #[XL b] 96 (0,0))){a:aj}{n o:Nat}:
  ZG 231 #[jf a d n o,XL c] w (Ok λp w'=>p= .bool (B.get (aR a)).isSome/\ai w w'):=by
 refine lD (PA.mk λv P x e=>⟨_,ae (P.get m id) rfl,_,_,ae e rfl,ae e rfl,PC.ok (Pj (l.ah P) (aR a)) ?_⟩);rintro _ q ⟨g,h,i,G,rfl,y,z,j⟩;exact bE (qt _ g h i) ⟨_,rfl,PA.mk λA r C s=>az (aV _ g h i) s rfl λE t F H=>Ok.mk ⟨rfl,((P.then j).then r).new t λu k=>.inr (by have k:u=q.heap.size:=k;have:=P.size;have:=j.size;omega)⟩⟩
def Lf{g i:Nat}(m:cj w g f B)(n:w.heap[i]? =some (.cells #[XL g] 96 (0,0))){a:aj}{h j:Nat}(o:Row aG 8 w a2 d h a.aN)(k:∀P,a2 P->P<w.heap.size/\¬f P)(p:a.Ok)(t:B.l.length<=20000000):
  ZG 234 #[jf a d h j,XL i] w (Ok λq w'=>q= .bool (decide ((B.add a).1=0))/\∃c,cj w' g c (B.add a).2/\cz f w c w'):=by
 refine lE (PA.mk λu b v r=>⟨_,ae (b.get n id) rfl,ar (aV a d h j) r (PC.ok (sR (m.ah b) (o.ah b) (λP e=>⟨by have:=(k P e).1;omega,(k P e).2⟩) p oM) ?_)⟩);rintro _ x ⟨rfl,c,s,l⟩;have:=b.size;exact⟨_,rfl,Ok.mk ⟨by congr 1,c,s,(ai.af b).then l.af,λP e=>(l.new P e).imp id oM⟩⟩
end
end
section
open Go.aw
variable{f:XN}{d:ZH}{b:World}{B:au}
section
variable {w w':World} {p:Nat} {M D E:XN} {most:Nat} {l:List aj} {a:ZH} {n c:Nat} {L:List (Bx aj)}
structure Pa (w:World) (p:Nat) (M:XN) (most:Nat) (a:ZH) (c s tb:Nat) (T:au) (nc:Nat) (Lc:List (Bx aj)) (oa:ZH) (on oc:Nat) (Lo:List (Bx aj)) (w1:World):Prop where
 set:∃F1,cj w1 s F1 T/\(∀b,F1 b->w.heap.size<=b/\b≠tb)/\∀b,aF oa=some b->w.heap.size<=b/\¬F1 b/\b≠tb
 ptr:w1.heap[tb]? =some (.cells #[XL s] 96 (0,0))
 buf:w1.heap[p]? =some (.cells #[XH (most:Int),.slice a nc c] 146 (0,0))
 nx:aO oe.jq 55 (λb=>aF a=some b) w1 a nc c Lc
 out:aO oe.jq 55 (λb=>aF oa=some b) w1 oa on oc Lo
 af:ak M w w1
def vW(i:MX w p M D most l a n c L){r k:Nat}{j:Nat}{g:List (Bx aj)}{s t:Nat}{u:List (Bx aj)}(I:Pa w p M most a c r k B j g d s t u b)(O:∀P∈g,P∈L)(R:B.l.length<=20000000)(a6:g.length<=20000000):
  ZG 235 #[.slice a j c,.func (.func 234) #[] #[XL k]] b (Ok λA w'=>
   (A= XH (-1)/\(∀P∈g,(B.add P.x).1≠0)/\Pa w p M most a c r k B j g d s t u w')\/
   (∃h P,h<j/\A= XH (h:Int)/\g[h]? =some P/\(∀x∈g.take h,(B.add x.x).1≠0)/\(B.add P.x).1=0/\Pa w p M most a c r k (B.add P.x).2 j g d s t u w')):=by
 have S:=i.dM p i.mp;have a7:=I.nx.len dC;have T:∀P,aF a=some P->P<w.heap.size:=λP e=>i.dM P (i.ma P e).1;refine(yz (E:=λP=>aF a=some P) (L:=g) kR (λh m=>(∀P∈g.take h,(B.add P.x).1≠0)/\Pa w p M most a c r k B j g d s t u m) (λh m=>∃P,g[h]? =some P/\(∀x∈g.take h,(B.add x.x).1≠0)/\(B.add P.x).1=0/\Pa w p M most a c r k (B.add P.x).2 j g d s t u m) ⟨sM,I⟩
  (λh m f=>f.2.nx.row dC ba) ?_).mono ?_
 ·rintro h P m e ⟨J,f⟩
  obtain⟨U,V,y,C⟩:=f.set;have K:=(i.La P (O P (QZ e))).af f.af λP e=>(i.dD P e).2;have z2:=f.af.size;refine(Lf V f.ptr K.1 (λP e=>⟨by have:=(i.dD P e).1;omega,λo=>by have:=(i.dD P e).1;have:=(y P o).1;omega⟩) K.2 R).mono ?_;rintro _ W ⟨A,rfl,rfl,X,Y,q⟩;have N:∀P,P<w.heap.size->¬U P:=λP e o=>by have:=(y P o).1;omega
  have Z:=ay f.ptr;have F:∀P,aF d=some P->P<m.heap.size:=λP e=>f.out.aC P e;have H:Pa w p M most a c r k (B.add P.x).2 j g d s t u W:=⟨⟨X,Y,λP e=>(q.new P e).elim (y P) λz=>⟨oM,oM⟩,λP e=>⟨(C P e).1,λo=>(q.new P o).elim (C P e).2.1 λz=>by have:=F P e;omega,(C P e).2.2⟩⟩,
   q.af.get f.ptr λo=>(y _ o).2 rfl,q.af.get f.buf (N p S),f.nx.af q.af λP e=>N P (T P e),f.out.af q.af λP e=>(C P e).2.1,f.af.new q.af λP e=>.inr (y P e).1⟩
  refine Ok.mk ?_
  by_cases v:(B.add P.x).1=0
  ·exact .inl ⟨by rw[Zy v],P,e,J,v,H⟩
  ·refine .inr ⟨by rw[Xv v],λx Q=>?_,?_⟩
   ·rw[Qw,e]at Q
    rcases Q6.1 Q with Q|Q
    ·exact J x Q
    ·simp at Q;subst Q;exact v
   ·rcases B.ic P.x with⟨-,z⟩|⟨z,-⟩
    ·rw[z]at H;exact H
    ·rw[z]at v;exact Zz rfl v
 ·rintro _ m ⟨A,rfl,hv⟩
  rcases hv with⟨h,hj,rfl,P,E,f,h3,h4⟩|⟨rfl,E,f⟩
  ·exact Ok.mk (.inr ⟨h,P,hj,rfl,E,f,h3,h4⟩)
  ·rw[Qz oM]at E
   exact Ok.mk (.inl ⟨rfl,E,f⟩)
def Du(d7:fK w p M D most l){b3:Nat}(hs:cj w b3 f B)(g2:B.Cl)(k1:B.l.length<=19000000):
  ZG 160 #[XL p,XL b3] w (Ok λd9 w'=>∃q z E k,d9= .slice q z E/\aO oe.jq 55 (λP=>aF q=some P) w' q z E k/\k.map (·.x)=(bt B l).1/\(∀P∈k,oe.In w' D P)/\(∀P,aF q=some P->w.heap.size<=P)/\
   fK w' p M D most (bt B l).2/\ak M w w'):=by
 obtain⟨W,a,n,c,L,g⟩:=d7;have g3:=g.dM p g.mp;have X:∀P,aF a=some P->P<w.heap.size:=λP b=>g.dM P (g.ma P b).1;have k2:L.length=l.length:=by rw[<-g.map,Q8]
 have h2:l.length<=256:=Xx W.2.le W.1;have hN:=hs.1.n;refine nI (PC.ok (kp hs) ?_);rintro _ w4 ⟨va,vn,vc,Fv,rfl,g5,k4,k3⟩;have d1:=g5.len dC;rw[B.bq]at d1;subst d1;refine⟨_,_,_,rfl,PC.ok (Dw hN) ?_⟩;rintro _ A ⟨F,F2,rfl,d2,d3,k7⟩;have z4:=k4.size;have z7:=k7.size;refine⟨_,rfl,PA.mk λw9 k9 s9 g9=>PS.mk g9 sM λg6 g7 k5 g8=>?_⟩;have a1:ai A g6:=k9.new g7 λP b=>.inr (by have b:P=A.heap.size:=b;omega);have b4:=(k4.then k7).then a1;have Y:=d2.aC;refine PC.ok (p_ (hs.ah b4) oM) ?_;rintro _ Z ⟨ea,en,ec,G,rfl,b9,a6,hG⟩;have k6:=b9.len dC;have k8:=a1.size;have l0:=a6.size;have e6:Row fY 96 Z G ea en B.l:=b9.row dC ba;have h4:Z.heap[A.heap.size]? =some (.cells #[XL F] 96 (0,0)):=a6.get g8 id;have d5:=b9.aC;refine⟨_,_,_,rfl,λR a2 w'=>∃(e:Nat) (S:XN),a2=e/\e<=en/\R=en-e/\cj w' F S ((⟨B.n,[]⟩:au).e_ (B.l.take e))/\(∀P,S P->F2 P\/Z.heap.size<=P)/\ak F2 Z w',⟨_,0,F2,rfl,Qj _,rfl,d2.ah (a1.then a6),λP b=>.inl b,ak.refl _⟩,?_⟩;rintro R _ _ a7 ⟨e,S,rfl,hj,rfl,a8,a9,T⟩;have l3:=T.size;have c0:=T.get h4 λH=>by have:=Y _ H;omega
 refine an.dec (λl4=>?_) (λl5=>?_)
 ·have K:B.l[e]? =some B.l[e]:=Qq oM
  generalize B.l[e]=N at K;have e7:=e6.af T λP b H=>by have:=Y _ H;have:=hG P b;omega
  obtain⟨P,f0,es,ha,l6,l7,c1,xa,xn,xc,rfl,h6,f1⟩:=e7.el e N K;refine⟨P,f0,ha,oM,oM,bl (es:=aB N xa xn xc) (k:=10) (aV _ _ _ _) rfl (λa2 ht=>by rw[Qx];exact c1 a2 ht) (PA.mk λl8 h7 l9 h8=>az (aV N xa xn xc) h8 rfl λh9 i1 m1 i3=>?_)⟩;have O:ai a7 h9:=h7.new i1 λP b=>.inr (by have b:P=a7.heap.size:=b;omega);have c2:=au.lF (B.l.take e) ⟨B.n,[]⟩;rw[Qy]at c2;simp only[ZQ]at c2;refine⟨_,ae (O.get c0 id) rfl,ar (aV N xa xn xc) i3 (PC.ok (sR (a8.ah O) (h6.ah O) (λP b=>⟨by have:=d5 P b;have:=O.size;omega,λH=>?_⟩) f1 oM) ?_)⟩
  ·rcases a9 P H with j|j
   ·have:=Y _ j;have:=hG P b;omega
   ·have:=d5 P b;omega
  rintro _ i4 ⟨rfl,F3,i5,d8⟩;refine⟨_,rfl,_,oM,e+1,F3,aq oM,oM,rfl,?_,λP b=>?_,?_⟩
  ·rw[Qw,K]
   show cj i4 F F3 (au.e_ _ (B.l.take e++[N]));rw[au.qb];exact i5
  ·rcases d8.new P b with j|j
   ·exact a9 P j
   ·have:=O.size;exact .inr oM
  ·exact(T.ah O).new d8.af λP b=>a9 P b
 rw[Qz oM,g2.SP]at a8;have b5:ai w a7:=(b4.then a6).new T λP b=>.inr (by have:=d3 P b;omega);have c3:=g.af b5 (λ_ _ g=>g) λ_ _ g=>g;have s:∀P,S P->w.heap.size<=P/\P≠A.heap.size:=λP b=>by
  rcases a9 P b with j|j
  ·have:=d3 P j;have:=Y P j;omega
  ·omega
 refine⟨p,0,rfl,_,_,_,ae c3.at' rfl,PC.ok (Lb (pr:=λd=>(B.get (aR d)).isSome) kR c3.nx oM λP w1 hk=>?_) ?_⟩
 ·refine Le (a8.af hk λP b d=>?_) (hk.get c0 λd=>?_)
  ·have:=X P d;have:=(s P b).1;omega
  ·have:=X _ d;omega
 rintro _ m2 ⟨m0,rfl,f5,e0⟩;have b0:¬aF a=some p:=λd=>(g.ma p d).2 rfl;refine⟨_,_,_,rfl,p,0,rfl,PS.mk (e0.get c3.at' b0) sM λe1 e2 m3 e3=>⟨p,0,rfl,_,_,_,ae e3 rfl,?_⟩⟩;obtain⟨t,y⟩:∃t,t=L.filter λP=>!(B.get (aR P.x)).isSome:=⟨_,rfl⟩
 have a3:ak (λP=>aF a=some P\/P=p) a7 e1:=(e0.mono λP _ b=>.inl b).then (e2.mono λP _ b=>.inr b);have TO:∀P,aF a=some P\/P=p->P<w.heap.size:=λP b=>b.elim (X P) λd=>d▸g3;have e4:Pa w p M most a c F A.heap.size B m0 t none 0 0 [] e1:=by
  refine⟨⟨S,a8.af a3 λP b d=>by have:=TO P d;have:=(s P b).1;omega,s,λP b=>by cases b⟩,a3.get c0 λd=>by have:=TO _ d;omega,e3,?_,(aO.nil _).mono (λP b=>b.elim) λP b=>(by cases b),?_⟩
  ·rw[y];exact f5.af e2 λP b d=>b0 (by have d:P=p:=d;rw[<-d];exact b)
  ·exact(ai.af b5).then (a3.mono λP _ b=>b.elim (λd=>(g.ma P d).1) λd=>d▸g.mp)
 have b6:∀P∈t,P∈L:=λP b=>by rw[y]at b;exact(List.mem_filter.1 b).1
 have a4:t.map (·.x)=l.filter λd=>(B.get (aR d)).isNone:=by
  rw[y,<-g.map,List.filter_map]
  congr 1
  refine List.filter_congr λP b=>?_;show(!(B.get (aR P.x)).isSome)=(B.get (aR P.x)).isNone
  cases B.get (aR P.x)<;>rfl
 have b7:t.length<=L.length:=by rw[y];exact List.length_filter_le ..
 refine PC.ok (vW g e4 b6 oM oM) ?_;rintro i6 m4 b8;obtain⟨i0,i7⟩:∃u:Int,i6= XH u:=by
  rcases b8 with⟨m,-⟩|⟨e,P,-,m,-⟩
  ·exact⟨_,m⟩
  ·exact⟨_,m⟩
 subst i7;refine⟨_,rfl,λR q z E u w'=>∃(r:au) (h k:List (Bx aj)) (C U:Nat),R=h.length/\(∀P∈h,P∈L)/\(∀P∈k,P∈L)/\(h.map (·.x)).Sublist l/\h.length<=U/\r.l.length+h.length<=B.l.length+L.length/\h.length<=L.length/\k.length+h.length<=L.length/\C=h.length/\
   dR (U+1) r (h.map (·.x)) (k.map (·.x))=bt B l/\
   ((u= -1/\(∀P∈h,(r.add P.x).1≠0)/\Pa w p M most a c F A.heap.size r C h q z E k w')\/
    (∃e P,e<C/\u=(e:Int)/\h[e]? =some P/\(∀v∈h.take e,(r.add v.x).1≠0)/\(r.add P.x).1=0/\Pa w p M most a c F A.heap.size (r.add P.x).2 C h q z E k w')),?_,?_⟩
 ·have i8:=e4.nx.len dC
  refine⟨_,B,t,[],m0,t.length,rfl,b6,sM,by rw[a4];exact List.filter_sublist,Q4 _,oM,b7,by simpa using b7,i8,?_,?_⟩
  ·rw[a4]
   show dR (t.length+1) B _ []=_;unfold bt;rw[<-a4];show _=dR ((t.map (·.x)).length+1) B _ [];rw[Q8]
  ·rcases b8 with⟨m,I,J⟩|⟨e,P,m,I,J⟩
   ·exact .inl ⟨by simpa using m,I,J⟩
   ·exact .inr ⟨e,P,m,by simpa using I,J⟩
 rintro R q z E u _ i9 ⟨r,h,k,C,U,rfl,a5,c5,e5,hk,m5,j9,k0,m6,c6,j0⟩;rcases j0 with⟨rfl,c4,i⟩|⟨e,P,hj,rfl,b,c4,f6,i⟩
 ·refine an.ff sM (Ok.mk ⟨q,z,E,k,rfl,i.out,?_,λP b=>(g.La P (c5 P b)).af i.af λP b=>(g.dD P b).2,λP b=>by obtain⟨F1,-,-,j⟩:=i.set;exact(j P b).1,⟨⟨W.1,?_⟩,a,C,c,h,i.buf,i.nx,?_,λP b=>(g.La P (a5 P b)).af i.af λP b=>(g.dD P b).2,λP b=>⟨by have:=(g.dD P b).1;have:=i.af.size;omega,(g.dD P b).2⟩,g.mp,g.ma,λP b=>by have:=g.dM P b;have:=i.af.size;omega⟩,i.af⟩)
  all_goals
   have f8:bt B l=(k.map (·.x),h.map (·.x)):=by
    rw[<-c6];unfold dR;rw[qS λd he=>by obtain⟨P,b,rfl⟩:=Xk.1 he;exact c4 P b]
   rw[f8]
  exact W.2.sub e5
 ·have j1:e<h.length:=oM
  have m7:=i;obtain⟨F1,e8,e9,b1⟩:=i.set;have m8:=i.af.size;have c2:=r.xX P.x;obtain⟨gb,go,es,ha,m9,n0,c1,rfl,-⟩:=(i.nx.row (bytes:=96) dC ba).el e P b;have d:=λu (hi:u<10)=>c1 u hi;refine an.dec (λ_=>⟨p,0,rfl,_,_,_,ae i.buf rfl,gb,go,ha,oM,oM,_,_,_,_,_,_,_,_,_,_,_,_,d 0 dC,d 1 dC,d 2 dC,d 3 dC,d 4 dC,d 5 dC,d 6 dC,d 7 dC,d 8 dC,d 9 dC,PA.mk λj2 f2 n1 j3=>?_⟩) (λhn=>oM);have n2:=i.out.len dC;refine dP (c:=oe.jq) (x:=P) (D:=λ_=>False) (i.out.ah f2) uP j3 ⟨rfl,trivial⟩ (λP b=>b.elim) ba (by unfold maxLen;omega) λV b2 f3 Fo c9 j4 j5=>⟨_,_,_,rfl,p,0,rfl,?_⟩
  have f9:=c9.alone;have d0:∀P,aF V=some P->aF q=some P\/j2.heap.size<=P:=λP b=>(j5 P (c9.self P b)).imp id λg=>g.resolve_left id;have o:∀P,aF q=some P->w.heap.size<=P:=λP b=>(b1 P b).1;have Q:ak (λP=>aF q=some P) i9 f3:=(ai.af f2).then j4;have f4:=Q.get i.buf λd=>by have:=o _ d;omega
  have g4:=i.nx.af Q λP b d=>by have:=o _ d;have:=X P b;omega
  have n3:=Q.size;refine⟨_,_,_,ae f4 rfl,PC.ok (RE g4 hj oM) ?_⟩;rintro _ n4 ⟨rfl,h0,c7⟩;have n8:=c7.size;refine⟨_,_,_,rfl,p,0,rfl,PS.mk (c7.get f4 b0) sM λf7 g0 n9 g1=>⟨p,0,rfl,_,_,_,ae g1 rfl,?_⟩⟩;have o0:(h.eraseIdx e).length=h.length-1:=List.length_eraseIdx_of_lt j1;have a0:ak (λP=>aF a=some P\/P=p) f3 f7:=(c7.mono λP _ b=>.inl b).then (g0.mono λP _ b=>.inr b);have c8:∀P,w.heap.size<=P->¬(aF a=some P\/P=p):=λP b d=>by have:=TO P d;omega
  have j6:Pa w p M most a c F A.heap.size (r.add P.x).2 (C-1) (h.eraseIdx e) V (z+1) b2 (k++[P]) f7:=by
   refine⟨⟨F1,(e8.af Q λP b d=>(b1 P d).2.1 b).af a0 λP b=>c8 P (e9 P b).1,e9,λP b=>?_⟩,a0.get (Q.get i.ptr λd=>(b1 _ d).2.2 rfl) (c8 _ oM),g1,h0.af g0 λP b d=>b0 (by have d:P=p:=d;rw[<-d];exact b),f9.af a0 λP b=>c8 P ?_,?_⟩
   ·rcases d0 P b with j|j
    ·exact b1 P j
    ·have hd:=e8.aC
     have o1:=ay i.ptr;exact⟨oM,λH=>by have:=hd P H;omega,oM⟩
   ·rcases d0 P b with j|j
    ·exact o P j
    ·omega
   ·exact(i.af.new Q λP b=>.inr (o P b)).then (a0.mono λP _ b=>b.elim (λd=>(g.ma P d).1) λd=>d▸g.mp)
  have d4:∀v∈h.eraseIdx e,v∈L:=λv x=>a5 v ((List.eraseIdx_sublist ..).subset x);refine PC.ok (vW g j6 d4 oM oM) ?_;rintro j7 o2 d6;obtain⟨i2,j8⟩:∃u:Int,j7= XH u:=by
   rcases d6 with⟨m,-⟩|⟨e,P,-,m,-⟩
   ·exact⟨_,m⟩
   ·exact⟨_,m⟩
  subst j8;have h1:∃k',U=k'+1:=⟨U-1,oM⟩
  obtain⟨k',rfl⟩:=h1;refine⟨_,rfl,(h.eraseIdx e).length,oM,(r.add P.x).2,h.eraseIdx e,k++[P],C-1,k',rfl,d4,?_,?_,oM,oM,oM,by simp;omega,oM,?_,?_⟩
  ·intro v x
   rcases Q6.1 x with x|x
   ·exact c5 v x
   ·simp at x;subst x;exact a5 v (QZ b)
  ·exact((List.eraseIdx_sublist ..).map _).trans e5
  ·rw[<-c6]
   conv=>rhs;unfold dR
   rw[qT (i:=e) (e:=P.x) (λN K=>by rw[<-List.map_take]at K;obtain⟨v,x,rfl⟩:=Xk.1 K;exact c4 v x) (by rw[Q9,b];rfl) f6];show _=dR (k'+1) (r.add P.x).2 ((h.map (·.x)).eraseIdx e) (k.map (·.x)++[P.x]);rw[map_eraseIdx,Q3];rfl
  ·rcases d6 with⟨m,I,J⟩|⟨e,P,m,I,J⟩
   ·exact .inl ⟨by simpa using m,I,J⟩
   ·exact .inr ⟨e,P,m,by simpa using I,J⟩
end
def fv(P:iQ):List Value:=[XH P.aT,XH P.agg,XH P.field,XH P.op,XH P.arg,XH P.expect,XH P.key]
abbrev oF(P:iQ):Value:=.agg (fv P).toArray
def vX(P:iQ):gN XP 49 (fv P)=true:=kR
variable{e q:Int}{u:List Int}{a c:Nat}{r:ZH}{I:aM}{d1:iQ}
section
variable {w w':World} {D:XN}
def Bf{tn n l o:Nat}(p:et w)(h:aW w D I d tn r l)(q:∀b,D b->b<w.heap.size):
  ZG 82 #[.agg #[.slice d tn n,.slice r l o],oF d1] w (Ok λf w'=>f= XH (ez I d1)/\ai w w'):=by
 refine xf (PA.mk λv s x c=>PA.mk λt m y P=>?_);have c:=m.get c id;have e:=s.then m;have a:(d1.agg<0\/d1.key<0\/d1.expect< -1)->Ok (λf w'=>f= XH (ez I d1)/\ai w w') (.returned (XH 1)) t:=λg=>Ok.mk ⟨by unfold ez;rw[Zx g],e⟩;refine⟨_,ae P rfl,an.dec (λi=>a (.inl i)) (λi=>⟨_,ae P rfl,an.dec (λj=>a (.inr (.inl j))) (λj=>⟨_,ae P rfl,an.dec (λk=>a (.inr (.inr k))) (λk=>⟨_,_,_,_,_,_,ae c rfl,ae c rfl,_,ae P rfl,_,ae P rfl,_,ae P rfl,_,ae P rfl,PC.ok (vY (p.ah e) (h.ah e) λb g=>by have:=q b g;omega) ?_⟩)⟩)⟩)⟩;rintro _ z ⟨rfl,u⟩;exact⟨_,rfl,Ok.mk ⟨by unfold ez;rw[Zq (by rintro(h|h|h);exact i h;exact j h;exact k h)],e.then u⟩⟩
def DF(b:∀c∈u,aK c)(P:Int):0<=eI u P/\eI u P<=9223372036854775807:=by
 unfold eI;split
 ·omega
 ·by_cases a:P.toNat<u.length
  ·have:=b _ (XY a)
   unfold aK at this;simp only[QQ,Qq a,Option.getD_some];omega
  ·simp only[QQ,Q7 (Nat.le_of_not_lt a),Option.getD_none]
   omega
def Li(P a:List Int):(gU P a).length=max P.length a.length:=by unfold gU;rw[qW]
def Ps(a b:List Int)(e:∀P∈a,aK P)(f:∀P∈b,aK P):∀P∈gU a b,aK P:=by
 intro P c;unfold gU mB at c;obtain⟨d,-,rfl⟩:=Xk.1 c;have g:=DF e d;have h:=DF f d;unfold aK;omega
def iq(Q:Row aG 8 w D d a u)(hl:q<=9223372036854775807)(hn:u.length<=20000000):
  ZG 89 #[oF d1,XH e,.slice d a c,XH q] w (Ok λv w'=>∃d a k G,v= .tuple #[jf (aQ d1 e u q).2 d a k,XH (aQ d1 e u q).1]/\Row aG 8 w' G d a (aQ d1 e u q).2.aN/\(∀P,G P->w.heap.size<=P/\P<w'.heap.size)/\ai w w'):=by
 have a9:=Q.len;have A:=Q.rK;refine xg (PA.mk λB k1 s1 K=>PA.mk λL R s2 S=>?_);have K:=R.get K id;have k:=k1.then R;have l:∀{n:World} {no:Int},ai L n->aQ d1 e u q=(no,qu)->w_ XP 55 (XL B.heap.size) (jf qu none 0 0) n λw4=>nK XP 55 (XL B.heap.size) w4 λv=>Ok (λv w'=>∃d a k G,v= .tuple #[jf (aQ d1 e u q).2 d a k,XH (aQ d1 e u q).1]/\Row aG 8 w' G d a (aQ d1 e u q).2.aN/\(∀P,G P->w.heap.size<=P/\P<w'.heap.size)/\ai w w') (.returned (.tuple #[v,XH no])) w4:=λ{n no} C T=>
  az (aV qu none 0 0) (C.get S id) rfl λw4 m s4 M=>ar (aV qu none 0 0) M (Ok.mk ⟨none,0,0,λ_=>False,by rw[T],by rw[T];exact Row.nil _ _,λP b=>b.elim,(k.then C).new m λP b=>.inr oM⟩)
 refine an.dec (λU=>l (ak.refl _) ?_) (λU=>an.dec (λh2=>l (ak.refl _) ?_) (λh2=>an.dec (λC=>l (ak.refl _) ?_) (λC=>PC.ok (mC (A.ah k)) ?_)))
 ·unfold aQ;rw[Zx (.inl U)]
 ·unfold aQ;rw[Zx (.inr (.inl oM))]
 ·unfold aQ;rw[Zx (.inr (.inr C))]
 rintro _ _ ⟨rfl,rfl⟩;have N:¬(e<0\/(u.length:Int)<=e\/q<0):=by rintro(h|h|h)<;>omega
 refine⟨_,rfl,an.dJ (λJ=>l (ak.refl _) ?_) (λJ=>an.dJ (λE=>l (ak.refl _) ?_) (λE=>λn V=>?_))⟩
 ·unfold aQ;rw[Zq N,Zx (.inl J)]
 ·unfold aQ;rw[Zq N,Zx (.inr E)]
 have hg:=DF A.Ry e;have wl:XG .i64 (q+1)=q+1:=wrap_i64 bb;have ws:XG .i64 (eI u e+1)=eI u e+1:=wrap_i64 (by unfold aK;have:eI u e≠9223372036854775807:=J;omega);have W:aQ d1 e u q=(0,⟨e,XG .i64 (eI u e+1),XG .i64 (q+1),gU u [],d1.aT,d1.agg,d1.field,d1.op,d1.arg,d1.key⟩):=by
  unfold aQ;rw[Zq N,Zq (by rintro(h|h);exact J h;exact E h),wl,ws]
 have F:ai L n:=V.af;have s3:n.heap.size=L.heap.size:=by rw[V.heap]
 have X:=k.then F;have y:=F.get K id;have Y:=F.get S id;have jl:(gU u []).length<=20000000:=by rw[Li];simp;omega
 have jI:∀a0∈gU u [],aK a0:=Ps u [] A.Ry sM;have z:¬(n.heap.size<=w.heap.size):=oM
 have H:∀{w4 r:World} {f:ZH} {i j x:Nat},ai w r->Own r 3 1 f i j (ints (gU u []))->(∀P,aF f=some P->n.heap.size<=P/\P≠x)->r.heap[B.heap.size]? =some (.cells (aB qu none 0 0).toArray 55 (0,0))->r.heap[x]? =some (.cells #[XH 0,XH 0,XH (XG .i64 (q+1)),.slice f i j,XH d1.aT,XH d1.agg,XH d1.field,XH d1.op,XH d1.arg,XH d1.key] 55 (0,0))->n.heap.size<=x->
   PS r ⟨x,0,none⟩ (XH e) λa4=>PS a4 ⟨x,0+1,none⟩ (XH (XG .i64 (eI u e+1))) λZ=>nK XP 55 (XL x) Z λa5=>w_ XP 55 (XL B.heap.size) a5 Z λa2=>nK XP 55 (XL B.heap.size) a2 λa6=>Ok (λv w'=>∃d a k G,v= .tuple #[jf (aQ d1 e u q).2 d a k,XH (aQ d1 e u q).1]/\Row aG 8 w' G d a (aQ d1 e u q).2.aN/\(∀P,G P->w.heap.size<=P/\P<w'.heap.size)/\ai w w') (.returned (.tuple #[a6,XH 0])) a2:=λ{w4 r f i j x} E s o hz a7 b0=>by
  refine PS.mk a7 sM λw6 g s6 I=>PS.mk I sM λw7 O s7 g7=>?_;have a8:=O.get (g.get hz oM) oM;refine ar (cs:=aB ⟨e,XG .i64 (eI u e+1),XG .i64 (q+1),gU u [],d1.aT,d1.agg,d1.field,d1.op,d1.arg,d1.key⟩ f i j) (aV _ _ _ _) g7 (az (aV _ _ _ _) a8 rfl λw8 k8 s8 g8=>ar (aV _ _ _ _) g8 (Ok.mk ⟨f,i,j,λP=>aF f=some P,by rw[W],?_,λP b=>⟨by have:=o P b;omega,?_⟩,?_⟩))
  ·rw[W]
   have a3:=(((s.af g (cV.2 λP b t=>(o P b).2 t)).af O (cV.2 λP b t=>(o P b).2 t)).af k8 (cV.2 λP b t=>by have:=o P b;omega))
   exact(⟨⟨_,λ_=>False,a3,jy.2 ⟨rfl,jI⟩,λ_ h=>h.elim⟩,λP b=>b,λP b=>a3.lt b⟩:aO aG 3 (λP=>aF f=some P) w8 f i j (gU u [])).row dC ba
  ·have:=s.lt b;omega
  ·exact((E.new g λP b=>.inr oM).new O λP b=>.inr oM).new k8 λP b=>.inr oM
 refine⟨λP=>n.heap.size<=P,z,_,ae y rfl,z,_,ae y rfl,z,_,ae y rfl,z,_,ae y rfl,z,_,ae y rfl,z,_,ae y rfl,PC.ok (yI ((A.ah k).ah F) (Ints.nil _)) ?_,PA.mk λw4 m s4 M=>⟨ai.af m,PC.ok (yI (((A.ah k).ah F).ah m) (Ints.nil _)) ?_⟩⟩
 ·rintro _ w4 ⟨f,i,j,rfl,s,m,o⟩
  have z4:=m.size;refine⟨_,_,_,rfl,ai.af m,PA.mk λr p s5 g5=>⟨ai.af p,az (cs:=[XH 0,XH 0,XH (XG .i64 (q+1)),.slice f i j,XH d1.aT,XH d1.agg,XH d1.field,XH d1.op,XH d1.arg,XH d1.key]) (aV ⟨0,0,XG .i64 (q+1),[],d1.aT,d1.agg,d1.field,d1.op,d1.arg,d1.key⟩ f i j) g5 rfl λw6 g s6 I=>⟨g.mono λP _ t=>oM,H (w4:=w4) (((X.then m).then p).new g λP b=>.inr oM) ((s.ah p).af g (cV.2 λP b t=>by have:=s.lt b;omega)) (λP b=>⟨o P b,by have:=s.lt b;omega⟩) (g.get (p.get (m.get Y id) id) oM) I oM⟩⟩⟩
 ·rintro _ r ⟨f,i,j,rfl,s,p,o⟩
  have z5:=p.size;refine⟨_,_,_,rfl,ai.af p,az (cs:=[XH 0,XH 0,XH (XG .i64 (q+1)),.slice f i j,XH d1.aT,XH d1.agg,XH d1.field,XH d1.op,XH d1.arg,XH d1.key]) (aV ⟨0,0,XG .i64 (q+1),[],d1.aT,d1.agg,d1.field,d1.op,d1.arg,d1.key⟩ f i j) (p.get M id) rfl λw6 g s6 I=>⟨g.mono λP _ t=>oM,H (w4:=w4) (((X.then m).then p).new g λP b=>.inr oM) (s.af g (cV.2 λP b t=>by have:=o P b;omega)) (λP b=>⟨by have:=o P b;omega,by have:=o P b;omega⟩) (g.get (p.get (m.get Y id) id) oM) I oM⟩⟩
end
def sr:jr:=⟨[(3,[(6,.slice none 0 0),(16,XH 0)])],[],[5,12],[],[(5,⟨[0,1,2,4,0,16,40,64,128,128,511,2047],[4095,4094,4093,4091,4095,4079,4055,4031,3967,3967,3839,3583],[0,0,0,1,0,2,2,0,0,0,0,0]⟩),(12,⟨[0,0,2,4,8,0,32,0,208,257,1023],[2047,2047,2045,2043,2039,2047,2015,2047,1839,2046,1791],[0,0,0,0,1,0,2,0,2,0,0]⟩)]⟩
variable{z:XT}{F:List aj}{i n:Nat}{a2:XN}{m:XR}{k:World}{x:XU}{l:aj}{a9:ef}
def ss(N:PA b (.cells #[.slice r a c] 230) λv=>(rS v (ab_ b 0) λO w c3=>(∃o:Nat->ZH->Nat->Nat->Int->XU,(∃e,o e none 0 0 0 v)/\∀(e:Nat) (f:ZH) (g:Nat) (h:Nat) (P:Int) (c4:Nat->Value) (i:World),o e f g h P i->an (decide (P<(w:Int))) ((ix_ O P w λQ R=>(rI i (ad Q (R+Int.toNat P)) λj=>(∀k,bC i k->∃p:XN,(dr d λx S=>(¬p x/\(rP k (ad x S) λT=>PC_ 120 #[.ii j] k (λU q=>∃y,U= .string y/\(ak p k q/\PC_ 181 #[.pointer T,.string y] q (λV l=>∃W A X B,V= .tuple #[.slice W A X,.ii B]/\(ak p q l/\an (B !=0) (rt z ((.tuple #[.slice f g h,.ii 0])) l) ((dr d λY Z=>(rP l (ad Y Z) λa1=>PC_ 187 #[.pointer a1,.ii j] l (λa2 a3=>∃D C E m,a2= .tuple #[.slice D C E,.ii m]/\PR_ (ap_ 50 (.slice f g h) (.slice D C E)) a3 (kS_ λG F H s=>(dr d λa4 a5=>(rS s (ad a4 (a5+2)) λa6 a7 a8=>PA s (.cells #[.ii j] 3) λa9=>PR_ (ap_ 27 (.slice a6 a7 a8) (.slice (some (ab_ s 0)) 1 1)) a9 (kS_ λb0 b1 b2 b3=>(dr d λb4 b5=>PS b3 (ad b4 (b5+2)) (.slice b0 b1 b2) λb6=>(dr d λb7 b8=>PS b6 (ad b7 (b8+3)) (.ii m) λI=>an (decide (m<(A:Int))) ((∀n,bC I n->∃t:XN,(dr d λJ b9=>(¬t J/\(rP n (ad J b9) λc0=>PC_ 120 #[.ii j] n (λc1 u=>∃K,c1= .string K/\(ak t n u/\PC_ 188 #[.pointer c0,.string K,.ii m] u (kI_ λc2 L=>(ak t u L/\rt z ((.tuple #[.slice G F H,.ii c2])) L)) (pZ z))) (pZ z)))))) ((∃M,M<e/\o M G F H (XG .i64 (P+1)) I))))) (pV z)))) (pV z)) (pE z)))))) (pZ z))) (pZ z)))))))) (rt z ((.tuple #[.slice f g h,.ii 0])) i)))):ZG 137 #[.pointer d,.agg #[.slice r a c]] b z:=DC sr Tryz.func137 rfl N
def pK(P:ef)(D:al):Int×ef×al:=
 let c:=cx (aA P.next)
 let a:=D.sync c
 if a.1≠0 then(a.1,P,(a.2.delete c).2)else
 let b:=bZ a.2 (P.bG++[P.next])
 if b.1≠0 then(b.1,P,(b.2.delete c).2)else
 (0,⟨P.size,P.bG++[P.next],0,XG .i64 (P.next+1)⟩,b.2)
def lx(a:ef)(D:al):Int×ef×al:=
 let P:=D.create (cx (aA a.next))
 if P.1≠0 then(P.1,a,P.2)else pK a P.2
def aY(P:ef)(D:al):Int×ef×al:=
 if P.bG=[]then lx P D else
 let a:=D.sync P.last
 if a.1≠0 then(a.1,P,a.2)else lx P a.2
def CH(c d:World)(e f:Nat)(a:XN)(P:Int×ef×al)(g:Value)(b:World):Prop:=g= XH P.1/\bY c b e f P.2.1 P.2.2 a/\ak (du a) d b
def Oi(P:Int):aK (XG .i64 P):=by
 unfold aK XG;simp[IntKind.signed,IntKind.bits];omega
def Ez{D:al}{a:List Int}(P:(bZ D a).1=0):a.length<=64:=by
 unfold bZ at P;split at P
 ·cases P
 ·omega
def CI{D:al}(hL:Laid b)(h:bY b k a c a9 D f):
  ZG 138 #[XL c] k (Ok (CH b k a c f (aY a9 D))):=by
 have b2:=h.aC;obtain⟨p3,j4,e6⟩:=h.Uw;have p4:=h.gr.size;have e7:=h.zl;have j5:=h.many;refine rQ (PA.mk λB k1 s1 g1=>PA.mk λw2 k2 s2 g2=>?_);have d6:ai k w2:=k1.then k2
 let b6:XN:=λP=>f P\/(P=k.heap.size\/P=B.heap.size)
 have hY:bY b w2 a c a9 D b6:=h.add d6 λP d=>by omega
 have b7:=k2.get g1 id;refine⟨λe=>∃C,bY b e a c a9 C b6/\ak (du f) k e/\w2.heap.size<=e.heap.size/\e.heap[k.heap.size]? =some (.cells #[XL c] 95 (0,0))/\e.heap[B.heap.size]? =some (.cells #[XH 0] 34 (0,0))/\aY a9 D=lx a9 C,?_,?_⟩
 ·obtain⟨G,hD,hl,hG⟩:=id hY
  obtain⟨t,E,I,m,S,hr,hE,u⟩:=hl.row;refine⟨_,ae b7 rfl,c,0,rfl,_,_,_,ae S rfl,an.dec (λo6=>?_) (λy=>?_)⟩
  ·have v:a9.bG≠[]:=λi=>by rw[i]at u;simp at u;omega
   refine⟨_,ae b7 rfl,PC.ok (GQ hL hY v) ?_⟩;rintro _ w3 ⟨rfl,Y,k3⟩;have kX:ak (du f) k w3:=(ai.af d6).then (k3.mono λP _ d j=>d (.inl j));have b8:=k3.get b7 λu=>u (.inr (.inl rfl));have b9:=k3.get g2 λu=>u (.inr (.inr rfl));have hB:aY a9 D=if(D.sync a9.last).1≠0 then((D.sync a9.last).1,a9,(D.sync a9.last).2)else lx a9 (D.sync a9.last).2:=by unfold aY;rw[Zq v]
   refine⟨_,rfl,an.df (λe9=>?_) (λF=>⟨_,Y,kX,k3.size,b8,b9,by rw[hB,Zq (by simpa using F)]⟩)⟩;refine PS.mk b9 sM λJ L s4 g4=>⟨_,ae g4 rfl,Ok.mk ?_⟩
   rw[hB,Zx e9];exact⟨rfl,(Y.other L λP d=>⟨d▸.inr (.inr rfl),oM⟩).mono λP d=>.inl d,kX.then (L.mono λP _ d j=>by have:=b2 P j;omega)⟩
  ·have he:a9.bG=[]:=QW oM
   exact⟨D,hY,ai.af d6,Q4 _,b7,g2,by unfold aY;rw[Zx he]⟩
 rintro _ w3 ⟨C,Y,b3,o7,b8,b9,hB⟩;rw[hB];obtain⟨G3,p5,j6,p6⟩:=id Y;obtain⟨f9,n3,h0,E3,j7,-,-,-⟩:=j6.row;refine⟨_,ae b8 rfl,c,0,rfl,_,ae j7 rfl,PC.ok (iA (hL.ah Y.gr) e7) ?_⟩;rintro _ J ⟨rfl,L⟩;refine⟨_,rfl,PA.mk λw5 k5 s5 g5=>PS.mk g5 sM λw6 k6 s6 g6=>?_⟩
 let p:XN:=λP=>b6 P\/P=J.heap.size
 have f5:=Y.ah L;have p7:=f5.gr.size;have p8:=L.size;have j8:bY b w6 a c a9 C p:=(f5.add (Y:=(·=J.heap.size)) k5 λP d=>oM).other k6 λP d=>⟨.inr d,oM⟩
 have j9:ak (du f) k w6:=((b3.ah L).ah k5).then (k6.mono λP _ d j=>by have:=b2 P j;have:=b3.size;omega);have d8:∀{P},f P->p P:=λj=>.inl (.inl j);intro M e4;have k7:ai w6 M:=e4.af;have f7:=j8.ah k7;have gn:w6.heap[J.heap.size]? =some (.cells #[.string (cx (aA a9.next))] 9 (0,0)):=g6;have k0:=k6.get (k5.get (L.get b8 id) id) oM;have g0:=k6.get (k5.get (L.get b9 id) id) oM
 let q:World->Int->Prop:=λe i=>e.heap[k.heap.size]? =some (.cells #[XL c] 95 (0,0))/\e.heap[B.heap.size]? =some (.cells #[XH i] 34 (0,0))/\e.heap[J.heap.size]? =some (.cells #[.string (cx (aA a9.next))] 9 (0,0))
 have C6:q w6 0:=⟨k0,g0,gn⟩
 have g:∀{e w:World} {i:Int} {d0:XN},q e i->ak d0 e w->(∀P,d0 P->¬(P=k.heap.size\/P=B.heap.size\/P=J.heap.size))->q w i:=λN o hS=>
  ⟨o.get N.1 λO=>hS _ O (.inl rfl),o.get N.2.1 λO=>hS _ O (.inr (.inl rfl)),o.get N.2.2 λO=>hS _ O (.inr (.inr rfl))⟩
 have l:∀{e w:World} {i:Int},q e i->ak (du p) e w->q w i:=λN o=>g N o λP d hc=>d (by
  rcases hc with rfl|rfl|rfl
  ·exact .inl (.inr (.inl rfl))
  ·exact .inl (.inr (.inr rfl))
  ·exact .inr rfl)
 have c0:∀{e w:World},ak (du f) k e->ak (du p) e w->ak (du f) k w:=λt P=>t.then (P.mono λP _ d j=>d (d8 j));have C7:q M 0:=g C6 k7 λP d=>d.elim;obtain⟨G7,p9,l0,q0⟩:=id f7;obtain⟨k4,n7,l1,E7,l3,-,-,-⟩:=l0.row;refine⟨_,ae C7.1 rfl,c,0,rfl,_,ae l3 rfl,_,ae C7.2.2 rfl,PC.ok (f7.on (λp hZ T=>T.create)) ?_⟩;rintro _ w8 ⟨rfl,c1,k8⟩;have C8:=l C7 k8;have g3:=c0 (j9.ah k7) k8;have l4:lx a9 C=if(C.create (cx (aA a9.next))).1≠0 then((C.create (cx (aA a9.next))).1,a9,(C.create (cx (aA a9.next))).2)else pK a9 (C.create (cx (aA a9.next))).2:=rfl
 rw[l4];generalize q1:C.create (cx (aA a9.next))=cr at c1⊢;obtain⟨l2,K⟩:=cr;simp only at c1⊢;have q2:B.heap.size<w2.heap.size:=oM
 have g7:∀{e:World} {z:Int×ef×al} {i:Int} {w:World},bY b e a c z.2.1 z.2.2 p->ak (du f) k e->ak (·=B.heap.size) e w->i=z.1->CH b k a c f z (XH i) w:=by
  intro e z i w u o O he;exact⟨by rw[he],(u.other O λP d=>⟨d▸.inl (.inr (.inr rfl)),oM⟩).mono λP d=>d8 d,o.then (O.mono λP _ d j=>by have:=b2 P j;omega)⟩
 refine⟨_,rfl,an.df (λv=>?_) (λF=>?_)⟩
 ·refine PS.mk C8.2.1 sM λw9 k9 s9 g9=>⟨_,ae g9 rfl,Ok.mk ?_⟩
  rw[Zx v];exact g7 c1 g3 k9 rfl
 rw[Zq (by simpa using F)];have A:∀{z:Int×ef×al} (i:Int) (m:al) (e:World),bY b e a c a9 m p->ak (du f) k e->q e i->i≠0->z=(i,a9,(m.delete (cx (aA a9.next))).2)->
   Lv XP (λg8=>∃h2:Int,g8.cell? ⟨B.heap.size,0,none⟩=some (XH h2)/\Ok (CH b k a c f z) (.returned (XH h2)) g8) (λch e=>Ok (CH b k a c f z) (.panicked ch) e)
    ([{target:=.fn (.func 189) #[XL B.heap.size,XL k.heap.size,XL J.heap.size],args:= #[]}]:List Deferred) .returning e:=by
  intro z i m e u o N v hr;refine Lv.one sM kR (CallsD.mono (gV (R:=λe' M=>e'= .returned (.tuple #[])/\∃h3:Int,M.cell? ⟨B.heap.size,0,none⟩=some (XH h3)/\Ok (CH b k a c f z) (.returned (XH h3)) M) ⟨_,ae N.2.1 rfl,an.df (λ_=>?_) (λF=>Zz F v)⟩) ?_)
  ·intro wa da
   have ka:ai e wa:=da.af;have h4:=u.ah ka;have e0:q wa i:=g N ka λP d=>d.elim;obtain⟨Ga,q3,l5,q4⟩:=id h4;obtain⟨aa,na,ca,Ea,c3,-,-,-⟩:=l5.row;refine⟨_,ae e0.1 rfl,c,0,rfl,_,ae c3 rfl,_,ae e0.2.2 rfl,PC.ok (h4.on (λp hZ T=>T.delete)) ?_⟩;rintro _ U ⟨rfl,l6,kb⟩;have l7:=l e0 kb;refine⟨_,rfl,rfl,_,ae l7.2.1 rfl,Ok.mk ?_⟩;rw[hr];exact⟨rfl,l6.mono λP d=>d8 d,c0 (o.ah ka) kb⟩
  ·rintro e' u' M ⟨rfl,rfl,hX⟩
   exact Lv.ret rfl hX
 intro w9 e8;have k9:ai w8 w9:=e8.af;have h5:=c1.ah k9;have C9:q w9 0:=g C8 k9 λP d=>d.elim;obtain⟨G9,q5,l8,q6⟩:=id h5;obtain⟨n5,n9,n6,E9,l9,-,-,-⟩:=l8.row;refine⟨_,ae C9.1 rfl,c,0,rfl,_,ae l9 rfl,_,ae C9.2.2 rfl,PC.ok (h5.on (λp hZ T=>T.sync)) ?_⟩;rintro _ Z ⟨rfl,V,h6⟩;have b0:=l C9 h6;have d1:=c0 (g3.ah k9) h6;have m0:pK a9 K=if(K.sync (cx (aA a9.next))).1≠0 then((K.sync (cx (aA a9.next))).1,a9,((K.sync (cx (aA a9.next))).2.delete (cx (aA a9.next))).2)else
   if(bZ (K.sync (cx (aA a9.next))).2 (a9.bG++[a9.next])).1≠0 then((bZ (K.sync (cx (aA a9.next))).2 (a9.bG++[a9.next])).1,a9,((bZ (K.sync (cx (aA a9.next))).2 (a9.bG++[a9.next])).2.delete (cx (aA a9.next))).2)else
   (0,⟨a9.size,a9.bG++[a9.next],0,XG .i64 (a9.next+1)⟩,(bZ (K.sync (cx (aA a9.next))).2 (a9.bG++[a9.next])).2):=rfl
 rw[m0];generalize q7:K.sync (cx (aA a9.next))=sy at V⊢;obtain⟨q8,c2⟩:=sy;dsimp only at V;refine⟨_,rfl,an.df (λv=>?_) (λF=>?_)⟩
 ·refine PS.mk b0.2.1 sM λr s q9 m1=>?_
  rw[Zx v];exact A _ c2 r (V.other s λP d=>⟨d▸.inl (.inr (.inr rfl)),oM⟩) (d1.then (s.mono λP _ d j=>by have:=b2 P j;omega)) ⟨s.get b0.1 oM,m1,s.get b0.2.2 (by have:=b3.size;omega)⟩ v rfl
 rw[Zq (by simpa using F)];have o8:J.heap.size<Z.heap.size:=ay b0.2.2;refine⟨λt E I e=>∃m,aO aG 3 m e t E I (a9.bG++[a9.next])/\(∀P,m P->Z.heap.size<=P)/\ai Z e,?_,?_⟩
 ·intro r m2
  have s:ai Z r:=m2.af;have a4:=V.ah s;have b1:q r 0:=g b0 s λP d=>d.elim;obtain⟨m3,h7,W,h8⟩:=id a4;obtain⟨m4,m5,m6,m7,a5,d2,d3,o9⟩:=W.row;have p0:=W.aC c W.self;have a1:∀{wa U wc:World} {S:Nat} {t E I:_} {a2:XN},aO aG 3 a2 U t E I a9.bG->(∀P,a2 P->r.heap.size<=P/\P≠S)->U.heap[S]? =some (.cells #[XH a9.next] 3 (0,0))->ai r U->
    ∀κ ε,(∀X n' c' e,(∃m,aO aG 3 m e X n' c' (a9.bG++[a9.next])/\(∀P,m P->Z.heap.size<=P)/\ai Z e)->ak (λP=>r.heap.size<=P) U e->κ (.slice X n' c') e)->
    aE XP (Builtin.append_ #[27,27] 27 #[.slice t E I,.slice (XM S) 1 1]) U κ ε:=by
   intro wa U wc S t E I a2 Q hF hg o κ ε c7;refine jK Q qV (D:=(·=S)) (Row.lit hg [a9.next] rfl (λd4 j=>by simp at j;subst j;exact e7) (by unfold aI;simp)) (λP i=>⟨i▸ay hg,λf0=>(hF P (Q.self P f0)).2 i⟩) (by unfold aI;simp;omega) (by unfold maxLen;simp;omega) λX c' e F' c8 a3 _ c9=>?_;refine c7 X _ c' e ⟨λP=>aF X=some P,c8.alone,λP d=>?_,?_⟩ (a3.mono λP _ d=>(hF P (Q.self P d)).1)
   ·have:=s.size;have:=o.size
    rcases c9 P d with h|h
    ·have:=(hF P h).1;omega
    ·omega
   ·exact(s.then o).new a3 λP d=>.inr (by have:=(hF P (Q.self P d)).1;have:=s.size;omega)
  have r0:k.heap.size<r.heap.size:=ay b1.1;refine⟨λP=>r.heap.size<=P,oM,_,ae b1.1 rfl,c,0,rfl,oM,_,_,_,ae a5 rfl,oM,_,ae b1.1 rfl,c,0,rfl,oM,_,ae a5 rfl,?_,?_⟩
  ·refine PC.ok (bP d2 λP d=>W.aC P (d3 P d).1) ?_
   rintro _ b4 ⟨r3,r4,r5,r6,rfl,a6,H,h9⟩;refine⟨_,_,_,rfl,H.af,PA.mk λx n m8 e1=>⟨n.af,a1 (wa:=x) (wc:=x) (a6.ah n) (λP d=>⟨h9 P d,by have:=a6.aC P d;omega⟩) e1 (H.then n) _ _ λX n' c' e hJ o=>⟨_,_,_,rfl,o,trivial,hJ⟩⟩⟩
  ·refine PA.mk λb4 H r7 m9=>⟨H.af,PC.ok (bP (d2.ah H) λP d=>by have:=W.aC P (d3 P d).1;have:=H.size;omega) ?_⟩
   rintro _ x ⟨n0,n1,n2,r8,rfl,a7,n,d5⟩;exact⟨_,_,_,rfl,n.af,a1 (wa:=x) (wc:=x) a7 (λP d=>⟨by have:=d5 P d;omega,by have:=d5 P d;omega⟩) (n.get m9 id) (H.then n) _ _ λX n' c' e hJ o=>⟨_,_,_,rfl,o,trivial,hJ⟩⟩
 rintro t E I _ r ⟨m,Q,hE,s⟩;have p1:(a9.bG++[a9.next]).length<=65:=by simp;omega
 have a4:bY b r a c a9 c2 (λP=>p P\/m P):=V.add s λP d=>⟨hE P d,Q.aC P d⟩
 have b1:q r 0:=g b0 s λP d=>d.elim;have d7:Row aG 8 r m t E (a9.bG++[a9.next]):=Q.row dC ba;have f1:∀d4∈a9.bG++[a9.next],aK d4:=KB d7;obtain⟨m3,h7,W,h8⟩:=id a4;obtain⟨m4,m5,m6,m7,a5,-,-,-⟩:=W.row;refine⟨_,ae b1.1 rfl,c,0,rfl,_,ae a5 rfl,PC.ok (a4.on λZ' n4 T=>T.bZ hL.mI d7 f1 λP d=>.inr (n4 P (.inr d))) ?_⟩;rintro _ b4 ⟨rfl,a8,H⟩;have R:ak (du p) r b4:=H.mono λP _ d y=>d (.inl y);have c4:=l b1 R;have d9:=c0 (d1.ah s) R;have a6:=Q.af H λP d u=>u (.inr d);have b5:= @Ez c2 (a9.bG++[a9.next]);have i0:True:=trivial;generalize r9:bZ c2 (a9.bG++[a9.next])=mw at a8 b5 i0⊢;obtain⟨s0,c5⟩:=mw;dsimp only at a8 b5 i0⊢;refine⟨_,rfl,an.df (λv=>?_) (λF=>?_)⟩
 ·refine PS.mk c4.2.1 sM λx n m8 e1=>?_
  rw[Zx v];have f2:bY b b4 a c a9 c5 p:=a8.mono λP d=>.inl d;exact A _ c5 x (f2.other n λP d=>⟨d▸.inl (.inr (.inr rfl)),oM⟩) (d9.then (n.mono λP _ d j=>by have:=b2 P j;omega)) ⟨n.get c4.1 oM,e1,n.get c4.2.2 (by have:=b3.size;omega)⟩ v rfl
 rw[Zq (by simpa using F)];have b5:=b5 F;intro x n8;have n:ai b4 x:=n8.af;have i1:=a8.ah n;have e5:q x 0:=g c4 n λP d=>d.elim;have a7:=a6.ah n;obtain⟨s3,i2,e2,p2⟩:=id i1;obtain⟨n0,n1,n2,s7,i3,-,-,-⟩:=e2.row;have i4:∀P,m P->P≠c:=λP d i=>by have:=hE P d;omega
 have o0:c≠k.heap.size/\c≠B.heap.size/\c≠J.heap.size:=by have:=b3.size;omega
 refine⟨(·=c),_,ae e5.1 rfl,λi=>o0.1 i.symm,_,ae e5.1 rfl,c,0,rfl,PS.mk i3 sM λs8 i5 t0 o1=>⟨i5,c,0,rfl,PS.mk o1 sM λo2 i6 t1 i7=>⟨i6,?_⟩⟩⟩;have e3:=i5.then i6;have i8:q o2 0:=g e5 e3 λP d hc=>by subst d;omega
 refine⟨_,ae i8.1 rfl,c,0,rfl,_,ae i7 rfl,c,0,rfl,PS.mk i7 sM λc6 i9 t2 j0=>?_⟩;have o3:q c6 0:=g i8 i9 λP d hc=>by subst d;omega
 have a0:ak (·=c) x c6:=e3.then i9;refine PS.mk o3.2.1 sM λo4 o5 t3 j1=>Lv.one sM kR (CallsD.mono (gV (R:=λe' M=>e'= .returned (.tuple #[])/\M=o4) ⟨_,ae j1 rfl,an.df (λhc=>Zz rfl hc) (λ_=>⟨rfl,rfl⟩)⟩) ?_);rintro e' u' _ ⟨rfl,rfl,rfl⟩;refine Lv.ret rfl ⟨_,ae j1 rfl,Ok.mk ?_⟩;have j2:c6.heap[c]? =some (.cells #[XL a,XH a9.size,.slice t E I,XH 0,XH (XG .i64 (a9.next+1))] 228 (0,0)):=j0;have j3:bY b c6 a c ⟨a9.size,a9.bG++[a9.next],0,XG .i64 (a9.next+1)⟩ c5 p:=by
  refine⟨λP=>P=c\/m P,?_,⟨⟨t,E,I,m,j2,a7.af a0 λP d i=>i4 P d i,λP d=>⟨.inr d,i4 P d⟩⟩,.inl rfl,?_,b5,?_⟩,?_⟩
  ·have h1:aS b x a c5 (λP=>p P\/(P=c\/m P)):=i2.mono λP d=>by
    rcases d with d|d|d
    ·exact .inl (.inl d)
    ·exact .inr (d▸e2.self)
    ·exact .inl (.inr d)
   obtain⟨a2,f4,f6,f3,f8⟩:=h1;exact⟨a2,f4.af a0 λP d i=>(f3 P d).2 (.inr (.inl i)),f6.new a0 λP d=>.inr oM,f3,λP d=>Qk (f8 P d) a0.size⟩
  ·rintro P (rfl|d)
   ·exact ay j0
   ·exact Qk (a7.aC P d) a0.size
  ·show aK (XG .i64 (a9.next+1))
   exact Oi _
  ·rintro P (rfl|d)
   ·exact⟨j4,λy=>by
     rcases y with(y|y|y)|y
     ·exact e6 y
     ·omega
     ·omega
     ·omega⟩
   ·have:=hE P d
    exact⟨by have:=V.gr.size;omega,λy=>by have:=V.aC P y;omega⟩
 exact g7 j3 ((d9.ah n).then (a0.mono λP _ d j=>e6 (d▸j))) o5 rfl
def fM(no:Int):ByteArray:=cx (aA no)
structure oT where
 no:Int
 out:List aj
 V:ef
 D:al
def i_:List Int->List aj->ef->al->oT
 |[],P,a,D=>⟨0,P,a,D⟩
 |no::b,P,a,D=>
  if(D.read (fM no)).2≠0 then⟨0,P,a,D⟩else
  if(bO (D.read (fM no)).1).2<(D.read (fM no)).1.length then
   ⟨(D.Gn (fM no) (bO (D.read (fM no)).1).2).1,P++(bO (D.read (fM no)).1).1,⟨a.size,a.bG++[no],(bO (D.read (fM no)).1).2,a.next⟩,(D.Gn (fM no) (bO (D.read (fM no)).1).2).2⟩
  else i_ b (P++(bO (D.read (fM no)).1).1) ⟨a.size,a.bG++[no],(bO (D.read (fM no)).1).2,a.next⟩ D
section
variable {w0 w w1 w':World} {p q:Nat} {D D':al} {V V':ef} {X Y Z G S:XN}
def aS.dX(c:aS w0 w p D X)(d:ak Y w w')(e:∀P,Y P->X P/\w0.heap.size<=P)(f:∀P,Z P->(X P\/w.heap.size<=P)/\P<w'.heap.size):aS w0 w' p D Z:=by
 obtain⟨h,g,i,b,l⟩:=c;exact⟨h,g.af d λP a j=>(b P a).2 (e P j).1,i.new d λP a=>.inr (e P a).2,λP a=>⟨(b P a).1,λk=>(f P k).1.elim (b P a).2 λc=>by have:=g.aC P a;omega⟩,λP a=>(f P a).2⟩
def bY.dX(g:bY w0 w p q V D X)(b:ak Y w w')(c:∀P,Y P->X P/\w0.heap.size<=P)(d:∀P,Z P->(X P\/w.heap.size<=P)/\P<w'.heap.size):bY w0 w' p q V D Z:=by
 obtain⟨G,h,e,f⟩:=g;refine⟨G,h.dX b (λP a=>⟨.inl (c P a).1,(c P a).2⟩) λP a=>?_,e.af b λP a i=>(f P a).2 (c P i).1,λP a=>⟨(f P a).1,λj=>(d P j).1.elim (f P a).2 λg=>by have:=e.aC P a;omega⟩⟩;rcases a with a|a
 ·exact⟨(d P a).1.imp .inl id,(d P a).2⟩
 ·exact⟨.inl (.inr a),Qk (e.aC P a) b.size⟩
def Oj{no B:Int}(h:bY w0 w p q V D X)(O:aK no)(Q:V.bG.length+1<=64)(s:∀w',bY w0 w' p q ⟨V.size,V.bG++[no],B,V.next⟩ D X->ak (du X) w w'->x w'):
  ∃C E,(XM q:ZH)=some ⟨C,E,none⟩/\∃(i:ZH) (t u:Nat),w.cell? ⟨C,E+2,none⟩=some (.slice i t u)/\
   PA w (.cells #[XH no] 3) λR=>aE XP (Builtin.append_ #[27,27] 27 #[.slice i t u,.slice (XM w.heap.size) 1 1]) R (λS T=>
    ∃(d:ZH) (F j:Nat),S= .slice d F j/\∃H I,(XM q:ZH)=some ⟨H,I,none⟩/\PS T ⟨H,I+2,none⟩ (.slice d F j) λU=>
     ∃J K,(XM q:ZH)=some ⟨J,K,none⟩/\PS U ⟨J,K+3,none⟩ (XH B) x) m:=by
 obtain⟨G,W,c,e⟩:=id h;obtain⟨i,t,u,a0,L,f,g⟩:=c.body;have a8:=c.aC q c.self;refine⟨q,0,rfl,_,_,_,ae L rfl,PA.mk λw1 k s1 Y=>?_⟩;refine jK (f.ah k) qV (D:=(·=w.heap.size)) (Row.lit Y [no] rfl (λa1 l=>by simp at l;subst l;exact O) (by unfold aI;simp)) (λP b=>⟨oM,λZ=>by have:=f.aC P (f.self P Z);omega⟩) (by unfold aI;simp;omega) (by unfold maxLen;simp;omega) λd j w2 F' n o _ v=>?_
 replace n:=n.alone
 have a6:¬aF i=some q:=λb=>(g q (f.self q b)).2 rfl;have g2:=o.get (k.get L id) a6;have z2:=o.size;have y:¬aF d=some q:=λb=>by
  rcases v q b with h|h
  ·exact(g q h).2 rfl
  ·omega
 refine⟨_,_,_,rfl,q,0,rfl,PS.mk g2 sM λw3 z s3 g3=>⟨q,0,rfl,PS.mk g3 sM λr A s4 g4=>s r ?_ ?_⟩⟩
 ·have a7:ak (λP=>aF i=some P\/P=q) w1 r:=((o.mono λP _ a=>.inl a).then (z.mono λP _ a=>.inr a)).then (A.mono λP _ a=>.inr a)
  have kG:ak G w r:=(ai.af k).then (a7.mono λP _ a=>a.elim (λh=>(g P (f.self P h)).1) λh=>h▸c.self);have M:∀P,aF d=some P->P<r.heap.size:=λP a=>by have:=n.aC P a;omega
  refine⟨λP=>P=q\/aF d=some P,W.dX kG (λP a=>⟨.inr a,(e P a).1⟩) λP a=>?_,⟨⟨d,_,j,(λP=>aF d=some P),g4,?_,λP a=>⟨.inr a,λb=>y (b▸a)⟩⟩,.inl rfl,?_,by simpa using Q,c.zl⟩,?_⟩
  ·rcases a with a|rfl|a
   ·exact⟨.inl (.inl a),by have:=h.aC P a;omega⟩
   ·exact⟨.inl (.inr c.self),oM⟩
   ·refine⟨?_,M P a⟩
    rcases v P a with h|h
    ·exact .inl (.inr (g P h).1)
    ·exact .inr oM
  ·exact(n.af z λP a b=>y (b▸a)).af A λP a b=>y (b▸a)
  ·rintro P (rfl|a)
   ·omega
   ·exact M P a
  ·rintro P (rfl|a)
   ·exact e _ c.self
   ·rcases v P a with N|N
    ·exact e P (g P N).1
    ·exact⟨by have:=h.gr.size;omega,λl=>by have:=h.aC P l;omega⟩
 ·refine(((ai.af k).then (o.mono λP _ a=>?_)).then (z.mono λP _ a=>?_)).then (A.mono λP _ a=>?_)
  ·exact(e P (g P (f.self P a)).1).2
  ·exact(e P (a▸c.self)).2
  ·exact(e P (a▸c.self)).2
def Si{j P:Nat}(a:j<=64)(b:P<=j*262144):P<=16777216:=oM
def Qd(w0 w:World)(p q:Nat)(X:XN)(P:oT)(e:Value)(w':World):Prop:=
 ∃b c d G,e= .tuple #[.slice b c d,XH P.no]/\aO oZ 55 G w' b c d P.out/\bY w0 w' p q P.V P.D (λa=>X a\/G a)/\ak (du X) w w'/\(∀a,G a->w.heap.size<=a)/\P.out.length<=16777216
def Ol(C:Laid w0)(h:bY w0 w p q V D X)(Q:Row aG 8 w f d a u)(c2:∀P,f P->X P)(f3:V.bG.length+u.length<=64):
  ZG 137 #[XL q,.agg #[.slice d a c]] w (Ok (Qd w0 w p q X (i_ u [] V D))):=by
 have l:=Q.len;have R:=h.aC;have f7:=h.gr.size;refine ss (PA.mk λw1 S s1 g1=>⟨_,_,_,ae g1 rfl,λT U W Y Z w'=>∃(g:Nat) (i:ef) (e:List aj) (G:XN),Z=g/\g<=u.length/\T=u.length-g/\i_ u [] V D=i_ (u.drop g) e i D/\i.bG.length=V.bG.length+g/\e.length<=g*262144/\
  aO oZ 55 G w' U W Y e/\bY w0 w' p q i D (λP=>X P\/G P)/\ak (du X) w w'/\∀P,G P->w.heap.size<=P,
  ⟨_,0,V,[],λ_=>False,rfl,Qj _,rfl,rfl,rfl,Qj _,aO.nil w1,(h.ah S).mono λP b=>b.elim id λh=>h.elim,ai.af S,λ_ h=>h.elim⟩,?_⟩)
 rintro T U W Y Z _ w2 ⟨g,i,e,G,rfl,hj,rfl,a4,g0,a0,m,hN,r,t⟩;rw[a4];refine an.dec (λg2=>?_) (λg3=>?_)
 rotate_left
 ·obtain rfl:g=u.length:=oM
  rw[List.drop_of_length_le (Q4 _)];exact Ok.mk ⟨_,_,_,G,rfl,m,hN,r,t,Si oM a0⟩
 obtain⟨P,E,no,rfl,n,j,F⟩:=(Q.af r λP b l=>l (c2 P b)).ko (i:=g) oM;have a2:u.drop g=no::u.drop (g+1):=by
  obtain⟨c4,rfl⟩:=Qv.1 n;exact X4 c4
 rw[a2]at a4⊢;refine⟨P,E,rfl,oM,oM,no,F,λw3 d3=>?_⟩;have k3:ai w2 w3:=d3.af;have H:=hN.ah k3;obtain⟨G3,c8,d0,g4⟩:=id H;obtain⟨a3,n3,c3,E3,d1,-,-,-⟩:=d0.row;refine⟨λ_=>False,q,0,rfl,id,_,ae d1 rfl,PC.ok (iA (C.ah H.gr) j) ?_⟩;rintro _ w4 ⟨rfl,z⟩;have d2:=H.ah z;refine⟨_,rfl,z,PC.ok ((c8.ah z).read (k:=fM no)) ?_⟩;rintro _ w5 ⟨a5,n5,c5,F5,rfl,d4,g5,-,I⟩;have v:=d2.ah I;have x:ai w2 w5:=(k3.then z).then I;have g6:=d4.len dC;have g7:=GD v.ok (fM no);refine⟨_,_,_,_,rfl,I,an.df (λd5=>?_) (λhe=>?_)⟩
 ·rw[show i_ (no::u.drop (g+1)) e i D=⟨0,e,i,D⟩ by unfold i_;rw[Zx d5]]
  exact Ok.mk ⟨_,_,_,G,rfl,m.ah x,v,r.ah x,t,Si oM a0⟩
 obtain⟨G5,d6,d7,g8⟩:=id v;obtain⟨g9,h0,h2,E5,d8,-,-,-⟩:=d7.row;obtain⟨a7,e0,-,-,-⟩:=id d6;refine⟨q,0,rfl,_,ae d8 rfl,PC.ok (Om (C.ah v.gr) e0 j) ?_⟩;rintro _ w6 ⟨a6,n6,c6,F6,rfl,s,J,K,a8⟩;have e1:bY w0 w6 p q i D (λP=>(X P\/G P)\/F6 P):=v.add J λP b=>⟨K P b,s.aC P b⟩
 have b0:=x.then J;have e2:=m.aC;generalize e3:bO (D.read (cx (aA no))).1=sl at s a8;obtain⟨k,o⟩:=sl;dsimp only at s a8;have a1:bO (D.read (fM no)).1=(k,o):=e3;have b1:Row oZ 96 w6 F6 a6 n6 k:=s.row dC ba;refine⟨_,_,_,_,rfl,xY (m.ah b0) Fg b1 (λL=>s.Lr L) (λP b=>⟨s.aC P b,λF=>by have:=e2 P (m.self P F);have:=K P b;have:=x.size;omega⟩) ba (by unfold maxLen;omega) λa9 c7 w7 A b2 M b3 _=>?_⟩;have h3:=x.size;have z6:=J.size;have b4:=b2.aC;have e4:bY w0 w7 p q i D (λP=>X P\/A P):=e1.dX M (λP b=>⟨.inl (.inr (m.self P b)),by have:=t P (m.self P b);omega⟩) λP b=>by
  rcases b with b|b
  ·exact⟨.inl (.inl (.inl b)),by have:=R P b;have:=r.size;have:=M.size;omega⟩
  ·refine⟨?_,b4 P b⟩
   rcases b3 P b with h|h|h
   ·exact .inl (.inl (.inr h))
   ·exact .inl (.inr h)
   ·exact .inr h
 have e5:ak (du X) w w7:=(r.ah b0).then (M.mono λP _ b n=>by have:=t P (m.self P b);have:=R P n;omega);have b5:∀P,A P->w.heap.size<=P:=λP b=>by
  have:=r.size;rcases b3 P b with h|h|h
  ·exact t P h
  ·have:=K P h;omega
  ·omega
 refine⟨_,_,_,rfl,Oj e4 j oM λw8 b6 k8=>?_⟩;have b7:ak (du X) w w8:=e5.then (k8.mono λP _ b n=>b (.inl n));have b8:=b2.af k8 λP b l=>l (.inr b);refine an.dec (λf4=>?_) (λf5=>?_)
 ·rw[show i_ (no::u.drop (g+1)) e i D=⟨(D.Gn (fM no) o).1,e++k,⟨i.size,i.bG++[no],o,i.next⟩,(D.Gn (fM no) o).2⟩ by
   unfold i_;rw[a1,Zq (by simpa using he),Zx (by show o<_;omega)]]
  intro w9 d9;have N:ai w8 w9:=d9.af;have b9:=b6.ah N;obtain⟨G9,e6,O,e7⟩:=id b9;obtain⟨c9,n9,f0,E9,e8,-,-,-⟩:=O.row;refine⟨λP=>P≠q,q,0,rfl,λhs=>hs rfl,_,ae e8 rfl,PC.ok (iA (C.ah b9.gr) j) ?_⟩;rintro _ e9 ⟨rfl,y⟩;refine⟨_,rfl,y.af,PC.ok ((e6.ah y).Gn (k:=fM no)) ?_⟩;rintro _ f2 ⟨rfl,c0,B⟩;have c1:ak (du X) e9 f2:=B.mono λP _ b n=>b (.inl (.inl n));refine⟨_,rfl,B.mono λP _ b L=>b (.inr (L▸O.self)),Ok.mk ⟨_,_,_,A,rfl,?_,⟨G9,c0,(O.ah y).af B λP b l=>l (.inr b),e7⟩,((b7.ah N).ah y).then c1,b5,?_⟩⟩
  ·exact((b8.ah N).ah y).af B λP b l=>l (.inl (.inr b))
  ·exact Si (j:=g+1) oM bc
 ·refine⟨_,?_,g+1,⟨i.size,i.bG++[no],o,i.next⟩,e++k,A,aq oM,oM,rfl,?_,by simp;omega,by simp;omega,b8,b6,b7,b5⟩
  ·omega
  ·conv=>lhs;unfold i_
   rw[a1,Zq (by simpa using he),Zq (by show¬o<_;omega)]
end
def iR(D:al)(P:ByteArray):Bool:=decide (P=kq)||((kO P).2&& !decide ((kO P).1∈(eJ D).getD []))
def Ig(D:al):List ByteArray:=D.list.filter (iR D)
def SY(D:al)(P:List ByteArray):al:=P.foldl (λD a=>(D.delete a).2) D
def yJ(D:al):al:=SY D (Ig D)
def yK(P:List ByteArray):List (List Value):=P.map λa=>[.string a]
def Nl(D:al)(P:List (List Value)):al:=P.foldl (λD a=>match a with
 |[.string b]=>(D.delete b).2
 |_=>D) D
def Cf:∀(P:List ByteArray) (D:al),Nl D (yK P)=SY D P
 |[],D=>rfl
 |s::P,D=>Cf P (D.delete s).2
def Lj(D:al)(P:List (List Value))(a:ByteArray):Nl D (P++[[.string a]])=((Nl D P).delete a).2:=by
 unfold Nl;rw[List.foldl_append];rfl
def Cg(P:List ByteArray)(a:ByteArray):yK (P++[a])=yK P++[[.string a]]:=by unfold yK;simp
def Bg{D:XN}(f:Row aG 8 b D d a u):
  ZG 249 #[.slice d a c,XH e] b (Ok λp g=>(∃m:Int,p= XH m/\(0<=m↔e∈u))/\b=g):=by
 have w:=f.len;have q:=f.dq;unfold aI at q;refine mD ⟨λn i g=>∃P:Nat,i=P/\P<=a/\n=a-P/\e∉u.take P/\b=g,⟨_,0,rfl,Qj _,rfl,sM,rfl⟩,?_⟩;rintro n i _ _ ⟨P,rfl,x,rfl,j,rfl⟩;refine an.dec (λr=>?_) (λr=>?_)
 ·obtain⟨s,k,y,rfl,o,_,t⟩:=f.ko (i:=P) oM
  refine⟨s,k,rfl,oM,oM,_,t,an.dJ (λl=>?_) (λl=>?_)⟩
  ·exact Ok.mk ⟨⟨_,rfl,λ_=>l▸QZ o,λ_=>oM⟩,rfl⟩
  ·refine⟨_,oM,P+1,aq oM,oM,rfl,?_,rfl⟩
   rw[Qw,o];intro v;rcases Q6.1 v with h|h
   ·exact j h
   ·simp at h;exact l h
 ·rw[Qz oM]at j
  exact Ok.mk ⟨⟨_,rfl,λh=>oM,λh=>Zz h j⟩,rfl⟩
def uT{D:XN}(P:Row aG 8 b D d a u):
  ZG 178 #[.slice d a c,XH e] b (Ok λf g=>f= .bool (decide (e∈u))/\b=g):=by
 refine jZ (PC.ok (Bg P) ?_);rintro _ _ ⟨⟨i,rfl,h⟩,rfl⟩;exact⟨_,rfl,Ok.mk ⟨by rw[decide_eq_decide.2 h],rfl⟩⟩
section
variable {w0 w w1 w':World} {p:Nat} {D D':al} {X Y:XN}
def aS.lt(a:aS w0 w p D X):∀P,X P->P<w.heap.size:=by obtain⟨c,d,e,f,b⟩:=a;exact b
def Lk(i:aS w0 w p D X)(s:oG w0):ZG 124 #[XL p] w (Ok λt w'=>∃j k d e f,∃Y G:XN,t= .func (.func 175) #[] #[XL j,XL k]/\
  (∃g l,w'.heap[j]? =some (.cells #[XL p] g l))/\(∃g l,w'.heap[k]? =some (.cells #[.slice d e f] g l))/\aO aG 3 G w' d e f ((eJ D).getD [])/\Y j/\Y k/\(∀a,G a->Y a)/\aS w0 w' p D (λa=>X a\/Y a)/\ai w w'):=by
 have A:=i.gr.size;refine xh (PA.mk λw1 n B o=>⟨_,ae o rfl,PC.ok ((i.add n (Y:=(·=w.heap.size)) λa P=>⟨oM,oM⟩).iS s) ?_⟩);rintro _ b ⟨d,e,f,G,rfl,q,C,u,m⟩;refine⟨_,_,_,_,rfl,PA.mk λE h F v=>PS.mk v sM λH c I x=>Ok.mk ⟨w.heap.size,b.heap.size,d,e,f,λa=>(a=w.heap.size\/G a)\/a=b.heap.size,G,rfl,?_⟩⟩;have J:=m.size;have y:w.heap.size≠b.heap.size:=oM
 have r:∀a,G a->a<b.heap.size:=q.aC;have z:=u.add h (Y:=(·=b.heap.size)) λa P=>⟨oM,oM⟩
 refine⟨⟨_,_,c.get (h.get (m.get o id) id) y⟩,⟨_,_,x⟩,(q.ah h).af c (λa P g=>by have:=r a P;omega),.inl (.inl rfl),.inr rfl,λa P=>.inl (.inr P),?_,?_⟩
 ·refine z.dX c (λa P=>⟨.inr P,oM⟩) λa P=>⟨.inl ?_,?_⟩
  ·rcases P with P|(P|P)|P
   ·exact .inl (.inl (.inl P))
   ·exact .inl (.inl (.inr P))
   ·exact .inl (.inr P)
   ·exact .inr P
  ·have:=c.size
   rcases P with P|(P|P)|P
   ·have:=i.lt a P;omega
   ·omega
   ·have:=r a P;omega
   ·omega
 ·exact ak.new ((n.then m).then h) c λa P=>.inr oM
def CJ(w0 a:World)(p:Nat)(D:al)(e:XN)(b:World×(XN))(c:List (List Value))(d:World):Prop:=
 aS w0 d p (Nl D c) (λP=>(e P\/(a.heap.size<=P/\P<a.heap.size+2))\/b.2 P)/\ak (du e) a d/\ak (du b.2) b.1 d/\∀P,b.2 P->a.heap.size+2<=P
variable {w5:World} {X5:XN} {s:World×(XN)} {pre:List (List Value)} {A B:World}
def CJ.ah(P:CJ w0 w5 p D X5 s pre A)(a:ai A B):CJ w0 w5 p D X5 s pre B:=⟨P.1.ah a,P.2.1.ah a,P.2.2.1.ah a,P.2.2.2⟩
def CJ.dX(e:ai w0 w5)(f:CJ w0 w5 p D X5 s pre A)(g:oH (w5.heap.size+1) A B):CJ w0 w5 p D X5 s pre B:=by
 obtain⟨c,h,i,d⟩:=f;obtain⟨b,j⟩:=g;have:=e.size;refine⟨c.dX b (λP a=>⟨.inl (.inr ⟨oM,oM⟩),oM⟩) λP a=>⟨.inl a,by rw[j];exact c.lt P a⟩,h.new b λP a=>.inr oM,i.new b λP a=>.inl λk=>?_,d⟩;have:=d P k;omega
def FQ{G:XN}{R:XU}(X:Laid w0)(a5:∀P,X5 P->P<w5.heap.size)(r:∃t u,w5.heap[a]? =some (.cells #[XL p] t u))(Y:X5 a)(v:∃t u,w5.heap[c]? =some (.cells #[.slice d i n] t u))(Z:X5 c)(hl:aO aG 3 G w5 d i n ((eJ D).getD []))(hG:∀P,G P->X5 P)(E:∀A B,R A->ak (mE w5) A B->R B)(F:∀s pre w A,CJ w0 w5 p D X5 s pre A->R A->rL [.string ⟨#[]⟩] w->iU XP (w5.heap.size+1) w A λP m=>P=true/\CJ w0 w5 p D X5 s (pre++[w]) m/\R m)(x:CJ w0 w5 p D X5 (w5,no) [] w1)(a0:R w1)(a1:w5.heap.size+2<=w1.heap.size):
  ZG 175 #[.func (.yield (w5.heap.size+1)) #[] #[],XL a,XL c] w1 (Ok λa4 w'=>R w'/\∃s,CJ w0 w5 p D X5 s (yK (Ig D)) w'):=by
 obtain⟨e2,f2,r⟩:=r;obtain⟨e4,f4,v⟩:=v;have H:aS w0 w1 p D _:=x.1;refine rN ⟨_,ae (x.2.1.get r λe=>e Y) rfl,PC.ok H.list ?_⟩;rintro _ y ⟨a8,I,c8,J,rfl,K,a2,h8,L⟩;have a6:D.list.length<=64:=by rw[mG];exact H.ok.many
 have a7:=K.len dC;have a3:CJ w0 w5 p D X5 (y,J) [] y:=⟨h8.mono λP f=>f.elim (λg=>.inl (.inl g)) .inr,x.2.1.ah L,ak.refl _,λP f=>Xx a1 (a2 P f)⟩
 refine⟨_,_,_,rfl,λM N w'=>∃b:Nat,N=b/\b<=I/\M=I-b/\CJ w0 w5 p D X5 (y,J) (yK ((D.list.take b).filter (iR D))) w'/\R w',⟨_,0,rfl,Qj _,rfl,a3,E _ _ a0 (ai.af L)⟩,?_⟩;rintro M N _ a9 ⟨b,rfl,hj,rfl,k,O⟩;refine an.dec (λb0=>?_) (λb1=>?_)
 ·obtain⟨P,z,s,rfl,Q,_,l⟩:=((K.af k.2.2.1 λP f e=>e f).row (bytes:=16) dC ba).ko (i:=b) oM
  refine⟨P,z,rfl,oM,oM,_,l,PC.ok (yL (X.ah k.1.gr)) ?_⟩;rintro _ b2 ⟨rfl,S⟩;have j:=k.ah S;have o:=E _ _ O (ai.af S);have T:rL [.string ⟨#[]⟩] [.string s]:=λφ g=>g s;have U:iR D s=true->(D.list.take (b+1)).filter (iR D)=(D.list.take b).filter (iR D)++[s]:=λg=>by
   rw[Qw,Q,List.filter_append];simp[g]
  have V:iR D s=false->(D.list.take (b+1)).filter (iR D)=(D.list.take b).filter (iR D):=λg=>by
   rw[Qw,Q,List.filter_append];simp[g]
  refine⟨_,_,rfl,an.Uf (λhe=>?_) (λW=>an.mk (λq=>?_) (λq=>?_))⟩
  ·refine⟨_,rfl,(F _ _ _ _ j o T).mono ?_⟩
   rintro _ m ⟨rfl,h,C⟩;refine an.ff rfl ⟨_,?_,b+1,aq oM,oM,rfl,?_,C⟩
   ·omega
   ·rw[U (by unfold iR;rw[show s=kq from he];simp),Cg];exact h
  ·refine⟨_,_,_,ae (j.2.1.get v λe=>e Z) rfl,PC.ok (uT ((hl.af j.2.1 λP f e=>e (hG P f)).row (bytes:=8) dC (by have:=Ch (D:=D);unfold aI;omega))) ?_⟩
   rintro _ _ ⟨rfl,rfl⟩;refine⟨_,rfl,an.mk (λl=>?_) (λl=>?_)⟩
   ·refine⟨_,rfl,(F _ _ _ _ j o T).mono ?_⟩
    rintro _ m ⟨rfl,h,C⟩;refine an.ff rfl ⟨_,?_,b+1,aq oM,oM,rfl,?_,C⟩
    ·omega
    ·rw[U (by unfold iR;rw[q,l];simp),Cg];exact h
   ·refine⟨_,?_,b+1,aq oM,oM,rfl,?_,o⟩
    ·omega
    ·rw[V (by unfold iR;rw[q,l,Xv (show¬s=kq from W)];rfl)];exact j
  ·refine⟨_,?_,b+1,aq oM,oM,rfl,?_,o⟩
   ·omega
   ·rw[V (by unfold iR;rw[q,Xv (show¬s=kq from W)];rfl)];exact j
 ·rw[Qz oM]at k
  exact Ok.mk ⟨O,_,k⟩
def Ll(r:Laid w0)(c:aS w0 w p D X):ZG 64 #[XL p] w (Ok λi w'=>i= .tuple #[]/\aS w0 w' p (yJ D) X/\ak (du X) w w'):=by
 have a6:=c.gr.size;refine xi (PA.mk λw1 t s1 u=>⟨_,ae u rfl,PC.ok (Lk (c.add t (Y:=(·=w.heap.size)) λP a=>⟨oM,oM⟩) r.mI) ?_⟩);rintro _ w5 ⟨b2,b4,a0,a1,a2,Y,G,rfl,C,E,F,H,I,J,j,k⟩;have K:=k.get u id;have l:=j.gr;have z5:=k.size;refine⟨_,rfl,175,_,rfl,kR,World×(XN),(w5,no),CJ w0 w5 p D λP=>(X P\/P=w.heap.size)\/Y P,λ_ _ _=>False,λ_ _=>True,λm=>m=yK (Ig D),?_,λs pre A B d e=>d.dX l e,λ_ _ _ _ c _=>c,?_,?_,?_,trivial⟩
 ·intro L n s6
  exact⟨(j.add n (Y:=λP=>w5.heap.size<=P/\P<w5.heap.size+2) λP a=>⟨a.1,oM⟩).mono λP a=>a.elim id False.elim,ai.af n,ai.af n,λP a=>a.elim⟩
 ·intro s pre A d a7 a8 _
  refine⟨ak.refl _,λa9 e=>?_⟩;obtain⟨f,h,v,x⟩:=d.dX l e;refine⟨_,ae (h.get K λb=>b (.inl (.inr rfl))) rfl,PC.ok f.delete ?_⟩;rintro _ b0 ⟨rfl,M,o⟩;refine⟨_,rfl,o.mono λP _ b=>⟨λN=>b (.inl (.inr ⟨oM,oM⟩)),λN=>b (.inl (.inr ⟨oM,oM⟩))⟩,?_⟩;show CJ _ _ _ _ _ _ _ _;refine⟨by rw[Lj];exact M,h.new o λP b=>.inl λg=>b (.inl (.inl g)),v.new o λP b=>.inl λg=>b (.inr g),x⟩
 ·intro O Rx Q _ R S L T y
  refine Calls.mono (FQ (R:=O) r j.lt C (.inr H) E (.inr I) F (λP a=>.inr (J P a)) Q (λs pre U A d V e=>(S s pre U A d V e trivial).mono ?_) T y (R _ y)) ?_
  ·rintro P W (c|⟨-,a3,c,-⟩)
   ·exact c
   ·exact c.elim
  ·rintro _ W ⟨i,rfl,Z,s,q⟩
   exact⟨⟨i,rfl⟩,.inl ⟨Z,s,_,q,rfl⟩⟩
 ·rintro s _ A ⟨f,h,v,x⟩ rfl hm
  refine⟨hm,λb1 ⟨z,a5⟩=>Ok.mk ⟨rfl,?_,?_⟩⟩
  ·rw[Cf]at f
   exact(f.dX z (λP a=>⟨.inl (.inr ⟨oM,oM⟩),by have:=l.size;omega⟩) λP a=>⟨.inl a,by rw[a5];exact f.lt P a⟩).mono λP a=>.inl (.inl (.inl (.inl a)))
  ·exact ak.new (ak.new (ai.af (t.then k)) h λP b=>.inl λg=>b (.inl (.inl g))) z λP a=>.inr oM
end
def Iu:jr:=⟨[(2,[(10,XH 0)])],[],[],[],[]⟩
def Iv(j:(∃g:Nat->Int->XU,(∃f,g f 0 b)/\∀(f:Nat) (P:Int) (r:Nat->Value) (h:World),g f P h->an (decide (P<(a:Int))) ((ix_ d P a λk l=>PS h (ad k (l+Int.toNat P*5+1)) (.ii e) λm=>(ix_ d P a λn o=>PS m (ad n (o+Int.toNat P*5+2)) (.ii q) λp=>(∃i,i<f/\g i (XG .i64 (P+1)) p)))) (rt z ((.slice d a c)) h))):ZG 103 #[.ii e,.ii q,.slice d a c] b z:=DC Iu Tryz.func103 rfl j
def zf:jr:=⟨[(2,[(7,XH 0)]),(5,[(8,XH 0)]),(10,[(9,XH 0)])],[],[],[],[]⟩
def zh{f g s t:ZH}(C:PA b (.cells #[.slice s a c,.slice t i n] 25) λD=>(∃o:Nat->Int->XU,(∃h,o h (-1) D)/\∀(h:Nat) (d:Int) (a3:Nat->Value) (j:World),o h d j->(rS j (ab_ b 0) λa4 E a5=>an (decide (d<=(E:Int))) ((∃p:Nat->Int->XU,(∃k,p k 0 j)/\∀(k:Nat) (P:Int) (a6:Nat->Value) (q:World),p k P q->an (decide (P<4)) (PC_ 30 #[.pointer f,.ii d,.ii P] q (kX_ 46 λF G=>PC_ 30 #[.pointer g,.ii d,.ii P] G (kX_ 46 λH I=>PC_ 52 #[F,H] I (kB λJ u=>an (!J) (rt z ((.bool false)) u) (PC_ 53 #[.pointer f,.ii d,.ii P,.ii P] u (kX_ 46 λK L=>PC_ 53 #[.pointer g,.ii d,.ii P,.ii P] L (kX_ 46 λM N=>PC_ 52 #[K,M] N (kB λO v=>an (!O) (rt z ((.bool false)) v) ((∃w,w<k/\p w (XG .i64 (P+1)) v))) (pE z)) (pE z)) (pE z))) (pE z)) (pE z)) (pE z)) ((∃x,x<h/\o x (XG .i64 (d+1)) q)))) ((∃r:Nat->Int->XU,(∃l,r l (-1) j)/\∀(l:Nat) (e:Int) (a7:Nat->Value) (m:World),r l e m->(rS m (ab_ b (0+1)) λa8 Q a9=>an (decide (e<=(Q:Int))) (PC_ 54 #[.pointer f,.ii e,.ii (-9223372036854775808)] m (kX_ 46 λR S=>PC_ 54 #[.pointer g,.ii e,.ii (-9223372036854775808)] S (kX_ 46 λT U=>PC_ 52 #[R,T] U (kB λV y=>an (!V) (rt z ((.bool false)) y) (PC_ 54 #[.pointer f,.ii e,.ii 2] y (kX_ 46 λW X=>PC_ 54 #[.pointer g,.ii e,.ii 2] X (kX_ 46 λY Z=>PC_ 52 #[W,Y] Z (kB λa2 A=>an (!a2) (rt z ((.bool false)) A) ((∃B,B<l/\r B (XG .i64 (e+1)) A))) (pE z)) (pE z)) (pE z))) (pE z)) (pE z)) (pE z)) (rt z ((.bool true)) m))))))):ZG 19 #[.pointer f,.pointer g,.agg #[.slice s a c,.slice t i n]] b z:=DC zf Tryz.func19 rfl C
def uk(D:al)(P:Int):ef:=⟨P,[],0,Ac D⟩
def told(D:al):List Int:=(eJ D).getD []
def nh(a:Nat)(P:oT):oT:=
 if P.no≠0 then P else
 if P.V.bG=[]then⟨(aY P.V P.D).1,P.out,(aY P.V P.D).2.1,(aY P.V P.D).2.2⟩else
 if P.V.bG.length<a then⟨(bZ P.D P.V.bG).1,P.out,P.V,(bZ P.D P.V.bG).2⟩else P
def eg(D:al)(P:Int):oT:=nh (told D).length (i_ (told D) [] (uk D P) D)
def Qe(f c:World)(g:Nat)(d:XN)(P:oT)(h:Value)(a:World):Prop:=
 (P.no≠0/\h= .tuple #[.pointer none,.slice none 0 0,XH P.no]/\aS f a g P.D d/\ak (du d) c a)\/
 (P.no=0/\∃e i j k G,h= .tuple #[XL e,.slice i j k,XH 0]/\aO oZ 55 G a i j k P.out/\bY f a g e P.V P.D (λb=>d b\/G b)/\ak (du d) c a/\(∀b,G b->c.heap.size<=b)/\c.heap.size<=e/\P.out.length<=16777216)
def Gg{D:al}{size:Int}(s:Laid b)(i:aS b k a D f):
  ZG 74 #[XL a,XH size] k (Ok (Qe b k a f (eg D size))):=by
 have S:∀P,f P->P<k.heap.size:=by obtain⟨a0,h1,h2,h3,h4⟩:=i;exact h4
 have c9:=i.gr.size;obtain⟨a0,hF,-,-,-⟩:=id i;refine Bn (PC.ok (GO (s.ah i.gr) hF) ?_);rintro _ e ⟨rfl,F⟩;have T:=i.ah F;have d0:=CG D.list;refine⟨_,rfl,PA.mk λw2 U s2 g2=>PC.ok ((T.ah U).iS s.mI) ?_⟩;rintro _ t ⟨x,y,V,z,rfl,W,X,-,H⟩;have z1:=F.size;have z3:=H.size
 change aO aG 3 z t x y V (told D)at W
 have d1:(told D).length<=64:=Ch;have b3:ai e t:=U.then H;refine⟨_,_,_,_,rfl,PA.mk λw4 k4 s4 g4=>PS.mk g4 sM λl k5 s5 Y=>⟨_,_,_,ae Y rfl,?_⟩⟩;have b4:l.heap[t.heap.size]? =some (.cells #[.slice x y V] 230 (0,0)):=Y;have I:ai t l:=k4.new k5 λP c=>.inr oM;have Z:ai e l:=b3.then I;have a7:ai k l:=F.then Z;have b5:=I.get (H.get g2 id) id;have a8:=W.ah I
 let J:XN:=λP=>f P\/(z P\/P=t.heap.size)
 have b6:bY b l a e.heap.size (uk D size) D J:=by
  refine⟨(·=e.heap.size),T.dX Z (Y:=λ_=>False) (λP c=>c.elim) λP c=>?_,⟨⟨none,0,0,λ_=>False,b5,aO.nil l,λ_ i=>i.elim⟩,rfl,λP c=>oM,Qj _,?_⟩,λP c=>⟨oM,λE=>?_⟩⟩
  ·rcases c with(c|c|c)|c
   ·exact⟨.inl c,by have:=S P c;omega⟩
   ·exact⟨.inr (by have:=X P c;omega),a8.aC P c⟩
   ·exact⟨.inr oM,oM⟩
   ·exact⟨.inr oM,oM⟩
  ·show aK (wF D.list);unfold aK;omega
  ·subst c
   rcases E with E|E|E
   ·have:=S _ E;omega
   ·have:=X _ E;omega
   ·omega
 have K:Row aG 8 l z x y (told D):=a8.row dC ba;refine PC.ok (Ol s b6 K (λP c=>.inr (.inl c)) (by show 0+_<=_;omega)) ?_;rintro _ L ⟨a6,n6,c6,m,rfl,A,u,M,b7,a9⟩;have z5:=a7.size;have hq:k.heap.size<=e.heap.size:=z1;have N:ak (du f) k L:=(ai.af a7).then (M.mono λP _ c E=>c (.inl E));have g6:=M.get b4 λj=>j (.inr (.inr rfl));have b8:Row aG 8 L z x y (told D):=K.af M λP c j=>j (.inr (.inl c));have d2:=K.len;show _;unfold eg;generalize i_ (told D) [] (uk D size) D=g at A u a9;have b0:∀P,m P->k.heap.size<=P:=λP c=>by have:=b7 P c;omega
 refine⟨_,_,_,_,rfl,λno n=>∃o p,nh (told D).length g=⟨no,g.out,o,p⟩/\aO oZ 55 m n a6 n6 c6 g.out/\bY b n a e.heap.size o p (λP=>f P\/m P)/\ak (du f) k n,?_,?_⟩
 ·have d:∀{n o p},bY b n a e.heap.size o p (λP=>J P\/m P)->bY b n a e.heap.size o p (λP=>f P\/m P):=λi=>i.mono λP c=>c.imp .inl id
  refine an.df (λq=>⟨g.V,g.D,by unfold nh;rw[Zx q],A,d u,N⟩) (λv=>?_);obtain⟨GL,b9,b1,c0⟩:=id u;obtain⟨aL,nL,cL,EL,O,b2,c1,c2⟩:=b1.row;refine⟨_,_,rfl,_,_,_,ae O rfl,an.dJ (λhz=>?_) (λc4=>?_)⟩
  ·have Q:g.V.bG=[]:=QW oM
   refine PC.ok (CI s u) ?_;rintro _ B ⟨rfl,r,h⟩;exact⟨_,rfl,_,_,by unfold nh;rw[Zq (by simpa using v),Zx Q],A.af h λP c j=>j (.inr c),d r,N.then (h.mono λP _ c E=>c (.inl (.inl E)))⟩
  ·have q:¬g.V.bG=[]:=λa1=>c4 (by rw[c2,a1];rfl)
   refine⟨_,_,rfl,_,_,_,ae O rfl,_,_,_,ae g6 rfl,λB d7=>?_⟩;have h:ai L B:=d7.af;have r:=u.ah h;have C:=A.ah h;have w:ak (du f) k B:=N.ah h;refine an.dec (λd3=>?_) (λd4=>⟨_,_,by unfold nh;rw[Zq (by simpa using v),Zq q,Zq oM],C,d r,w⟩);have c5:=h.get O id;refine⟨_,_,rfl,_,_,_,ae c5 rfl,PC.ok ((b9.ah h).bZ s.mI (b2.ah h) (KB b2) λP c=>.inr (.inr (c1 P c).1)) ?_⟩;rintro _ w8 ⟨rfl,c7,R⟩;have c8:bY b w8 a e.heap.size g.V (bZ g.D g.V.bG).2 (λP=>J P\/m P):=⟨GL,c7,(b1.ah h).af R λP c j=>j (.inr c),c0⟩
   exact⟨_,rfl,_,_,by unfold nh;rw[Zq (by simpa using v),Zq q,Zx oM],C.af R λP c j=>j (.inl (.inr c)),d c8,w.then (R.mono λP _ c E=>c (.inl (.inl (.inl E))))⟩
 ·rintro no _ B ⟨o,p,Q,C,r,w⟩
  rw[Q];refine an.df (λq=>Ok.mk (.inl ⟨q,rfl,r.tR.mono λP c=>.inl c,w⟩)) (λv=>Ok.mk (.inr ⟨v,e.heap.size,a6,n6,c6,m,by rfl,C,r,w,b0,hq,a9⟩))
def fB(P:aj):Bool:=decide (64<P.aN.length)
def bk(a:ef)(D:al)(b:List aj):Int×ef×al:=
 if b.any fB then(3,a,D)else if b=[]then(0,a,D)else
 let P:=if a.size<=a.bytes then aY a D else(0,a,D)
 if P.1≠0 then P else
 let c:=P.2.2.append P.2.1.last (dS b)
 if c.1≠0 then(c.1,P.2.1,c.2)else(0,⟨P.2.1.size,P.2.1.bG,XG .i64 (P.2.1.bytes+((dS b).length:Nat)),P.2.1.next⟩,c.2)
def rl{D:al}(P:(aY a9 D).1=0):(aY a9 D).2.1.bG≠[]:=by
 have d:∀a:al,(pK a9 a).1=0->(pK a9 a).2.1.bG≠[]:=by
  intro a;unfold pK;dsimp only;split
  ·rename_i b;intro P;exact Zz P b
  ·split
   ·rename_i b;intro P;exact Zz P b
   ·intro _;simp
 have c:∀a:al,(lx a9 a).1=0->(lx a9 a).2.1.bG≠[]:=by
  intro a;unfold lx;dsimp only;split
  ·rename_i b;intro P;exact Zz P b
  ·exact d _
 revert P
 unfold aY;dsimp only;split
 ·exact c D
 ·split
  ·rename_i b;intro P;exact Zz P b
  ·exact c _
def Kf(P:l.Ok)(a:l.aN.length<=64):(vz l).length<=675:=by
 have:=KA P a;have b:=oR P a;unfold vz at*;rw[jR];omega
def mS(P:List aj)(a:aj):dS (P++[a])=dS P++vz a:=by simp[dS]
def Jk{D:al}{v b6:Nat}(V:Laid b)(u:bY b k a c a9 D f)(d0:a9.bG≠[])(hr:Row fY 96 k a2 d v F)(d1:∀P,a2 P->P<k.heap.size)(hl:F.length<=20000000):
  ZG 91 #[XL c,.slice d v b6] k (Ok (CH b k a c f (bk a9 D F))):=by
 have z:=hr.len;have e9:=u.aC;refine qB ⟨λa6 K L W a7 w=>∃(h:Nat) (x:XN),a7=h/\h<=v/\a6=v-h/\(∀g∈F.take h,g.Ok/\g.aN.length<=64)/\(dS (F.take h)).length<=675*h/\aO fe 5 x w K L W (dS (F.take h))/\ai k w/\∀P,x P->k.heap.size<=P,
  ⟨_,0,λ_=>False,rfl,Qj _,rfl,sM,by simp[dS],aO.nil k,ak.refl _,λ_ u=>u.elim⟩,?_⟩
 rintro a6 K L W a7 _ X ⟨h,x,rfl,hj,rfl,Z,d4,p,m,hF⟩;have b3:=p.len dC;refine an.dec (λd5=>?_) (λd6=>?_)
 ·obtain⟨P,a0,g,es,rfl,_,_,q,j,c0,n1,c1,rfl,hd,M⟩:=(hr.ah m).vy (i:=h) oM
  have n:=λi (hi:i<10)=>j i hi;refine⟨P,a0,rfl,oM,oM,_,_,_,_,_,_,_,_,_,_,_,_,n 0 dC,n 1 dC,n 2 dC,n 3 dC,n 4 dC,n 5 dC,n 6 dC,n 7 dC,n 8 dC,n 9 dC,PA.mk λA B s2 g2=>?_⟩;refine storeAll (aB g c0 n1 c1) g2 rfl λC r s3 o=>?_;have y:ai X C:=B.new r λP e=>.inr oM;refine⟨_,_,_,_,_,_,_,_,_,_,_,_,ae o rfl,ae o rfl,ae o rfl,ae o rfl,ae o rfl,ae o rfl,ae o rfl,ae o rfl,ae o rfl,ae o rfl,?_⟩;refine PC.ok (Cj (V.ah ((u.gr.then m).then y)) (hd.ah y) M λP e=>by have:=d1 P e;have:=(m.then y).size;omega) ?_;rintro _ w4 ⟨c3,n4,f0,F4,rfl,s,t,b4⟩
  by_cases N:g.aN.length<=64
  ·have a8:=oR M N
   rw[a8]at s⊢;have f1:=Kf M N;refine⟨_,_,_,_,rfl,an.df (λj=>Zz rfl j) (λ_=>?_)⟩;have a1:=y.then t;have c4:Row fe 1 w4 F4 c3 n4 (vz g):=s.row (bytes:=1) dC (by unfold aI;dsimp only;omega);have f2:=a1.size;have f3:=y.size;refine xY (p.ah a1) rJ c4 (λg=>s.Lr g) (λP e=>⟨s.aC P e,λj=>by have:=p.aC P (p.self P j);have:=b4 P e;omega⟩) ba (by unfold maxLen;omega) λb5 c5 w5 F5 b0 d7 d8 _=>?_;have b1:F.take (h+1)=F.take h++[g]:=by rw[Qw,q];rfl
   refine⟨_,_,_,rfl,v-(h+1),oM,h+1,F5,aq oM,oM,rfl,?_,?_,?_,(m.then a1).new d7 λP e=>.inr (by have:=hF P (p.self P e);omega),?_⟩
   ·rw[b1]
    intro c6 a3;rcases Q6.1 a3 with Y|Y
    ·exact Z c6 Y
    ·simp at Y;subst Y;exact⟨M,N⟩
   ·rw[b1,mS];simp;omega
   ·rw[b1,mS];exact b0
   ·intro P e
    have:=m.size;rcases d8 P e with Y|Y|Y
    ·exact hF P Y
    ·have:=b4 P Y;omega
    ·omega
  ·have a8:=v_ N
   rw[a8]at s⊢;refine⟨_,_,_,_,rfl,an.df (λ_=>?_) (λj=>Zz j dC)⟩;have d2:F.any fB=true:=List.any_eq_true.2 ⟨g,QZ q,by unfold fB;simp;omega⟩;refine Ok.mk ?_;rw[show bk a9 D F=(3,a9,D) by unfold bk;rw[Zx d2]];have b7:=(m.then y).then t;exact⟨rfl,u.ah b7,ai.af b7⟩
 ·obtain rfl:h=v:=oM
  rw[Qz oM]at Z d4 p b3;have b8:F.any fB=false:=by
   rw[<-Bool.not_eq_true];intro j;obtain⟨g,he,h2⟩:=List.any_eq_true.1 j;have:=(Z g he).2;unfold fB at h2;simp at h2;omega
  refine an.dJ (λhz=>?_) (λd9=>?_)
  ·have he:F=[]:=QW oM
   refine Ok.mk ?_;rw[show bk a9 D F=(0,a9,D) by unfold bk;rw[Zq (by simp[b8]),Zx he]];exact⟨rfl,u.ah m,ai.af m⟩
  have e0:F≠[]:=λg=>d9 (by rw[z,g];rfl)
  let E:XN:=λP=>f P\/x P
  have b9:bY b X a c a9 D E:=u.add m λP e=>⟨hF P e,p.aC P e⟩
  have d3:bk a9 D F=if(if a9.size<=a9.bytes then aY a9 D else(0,a9,D)).1≠0 then(if a9.size<=a9.bytes then aY a9 D else(0,a9,D))else
    if((if a9.size<=a9.bytes then aY a9 D else(0,a9,D)).2.2.append (if a9.size<=a9.bytes then aY a9 D else(0,a9,D)).2.1.last (dS F)).1≠0 then(((if a9.size<=a9.bytes then aY a9 D else(0,a9,D)).2.2.append (if a9.size<=a9.bytes then aY a9 D else(0,a9,D)).2.1.last (dS F)).1,(if a9.size<=a9.bytes then aY a9 D else(0,a9,D)).2.1,((if a9.size<=a9.bytes then aY a9 D else(0,a9,D)).2.2.append (if a9.size<=a9.bytes then aY a9 D else(0,a9,D)).2.1.last (dS F)).2)
    else(0,⟨(if a9.size<=a9.bytes then aY a9 D else(0,a9,D)).2.1.size,(if a9.size<=a9.bytes then aY a9 D else(0,a9,D)).2.1.bG,XG .i64 ((if a9.size<=a9.bytes then aY a9 D else(0,a9,D)).2.1.bytes+((dS F).length:Nat)),(if a9.size<=a9.bytes then aY a9 D else(0,a9,D)).2.1.next⟩,((if a9.size<=a9.bytes then aY a9 D else(0,a9,D)).2.2.append (if a9.size<=a9.bytes then aY a9 D else(0,a9,D)).2.1.last (dS F)).2):=by
   unfold bk;rw[Zq (by simp[b8]),Zq e0]
  obtain⟨GL,f4,e2,f5⟩:=id b9;obtain⟨aL,nL,cL,EL,gL,f6,f7,g0⟩:=e2.row;rw[d3];refine⟨λw=>∃H O,(if a9.size<=a9.bytes then aY a9 D else(0,a9,D))=(0,H,O)/\H.bG≠[]/\bY b w a c H O E/\ak (du f) k w/\aO fe 5 x w K L W (dS F),?_,?_⟩
  ·refine⟨c,0,rfl,_,ae gL rfl,c,0,rfl,_,ae gL rfl,λA e1=>?_⟩
   have B:ai X A:=e1.af;have Q:=b9.ah B;have R:=p.ah B;have S:ak (du f) k A:=ai.af (m.then B);refine an.dec (λd6=>?_) (λd5=>⟨a9,D,by rw[Zq oM],d0,Q,S,R⟩);refine PC.ok (CI V Q) ?_;rintro _ C ⟨rfl,I,r⟩;have c2:ak (du f) k C:=S.then (r.mono λP _ e q=>e (.inl q));have a4:(if a9.size<=a9.bytes then aY a9 D else(0,a9,D))=aY a9 D:=Zx oM;rw[a4];refine⟨_,rfl,an.df (λa5=>?_) (λT=>⟨_,_,by rw[<-T],rl T,I,c2,R.af r λP e z=>z (.inr e)⟩)⟩;rw[Zx a5];exact Ok.mk ⟨rfl,I.mono λP e=>.inl e,c2⟩
  ·rintro _ A ⟨H,O,a4,e3,Q,S,R⟩ C e4
   rw[a4];have r:ai A C:=e4.af;have I:=Q.ah r;have e5:=R.ah r;obtain⟨G3,e6,U,J⟩:=id I;obtain⟨f8,n3,f9,E3,e7,-,-,-⟩:=U.row;refine⟨λP=>P≠c,c,0,rfl,λhs=>hs rfl,_,ae e7 rfl,PC.ok (GP (V.ah I.gr) U e3) ?_⟩;rintro _ w4 ⟨rfl,t⟩;have s:=e5.ah t;have e8:Row fe 1 w4 x K L (dS F):=s.row (bytes:=1) dC ba;refine⟨_,rfl,t.af,PC.ok ((e6.ah t).append e8 (λg=>s.Lr g) λP e=>.inr (.inl (.inr e))) ?_⟩;rintro _ w5 ⟨rfl,b2,k5⟩;have l:=(U.ah t).af k5 λP e z=>z (.inr e);have c7:ak (du f) k w5:=((S.ah r).ah t).then (k5.mono λP _ e q=>e (.inl (.inl q)));refine⟨_,rfl,k5.mono λP _ e g=>e (.inr (g▸U.self)),?_⟩;rw[Zq (λj:((0,H,O):Int×ef×al).1≠0=>j rfl)];refine an.df (λa5=>?_) (λT=>?_)
   ·rw[Zx a5]
    exact Ok.mk ⟨rfl,bY.mono (X:=E) ⟨G3,b2,l,J⟩ λP e=>.inl e,c7⟩
   ·rw[Zq (by simpa using T)]
    obtain⟨b5,n5,c5,E5,c8,b0,c9⟩:=l.body;refine⟨c,0,rfl,_,ae c8 rfl,c,0,rfl,PS.mk c8 sM λw6 k6 s6 g6=>Ok.mk ⟨rfl,?_,c7.then (k6.mono λP _ e q=>(J P (e▸l.self)).2 (.inl q))⟩⟩;rw[b3]at g6;refine bY.mono (X:=E) ⟨G3,b2.dX k6 (λP e=>⟨.inr (e▸l.self),(J P (e▸l.self)).1⟩) (λP e=>⟨.inl e,by have:=(e.elim (bY.aC (X:=E) ⟨G3,b2,l,J⟩ P) (l.aC P):P<w5.heap.size);omega⟩),⟨⟨b5,n5,c5,E5,g6,b0.af k6 λP e g=>(c9 P e).2 g,c9⟩,l.self,λP e=>by have:=l.aC P e;omega,l.many,l.zl⟩,J⟩ λP e=>.inl e

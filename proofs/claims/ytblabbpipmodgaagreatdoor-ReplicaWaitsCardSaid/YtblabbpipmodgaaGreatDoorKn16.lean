import Derived.Test.YtblabbpipmodgaaGreatDoorKn15
set_option maxHeartbeats 4000000
set_option linter.all false
set_option maxRecDepth 100000
open Go.IntKind renaming wrap→XG
namespace Go.Proofs.YtblabbpipmodgaaGreatDoor
open Go.aw
variable{y:FuncId}{R b7 e o:Int}{d2:Int×Int}{K e0:List aj}{a c:Nat}{H:Nat×Nat}{Q X:Operand}{d r:ZH}{h:Program}{g p:TypeId}{b:World}{M l:aj}{A:ar}
def SP(P:GJ h g p):(do eqGuard .eql g Q X (.agg #[XH e,XH o]) (.agg #[XH R,XH b7]);binOp .eql g (.agg #[XH e,XH o]) (.agg #[XH R,XH b7]):Sem Value).run h b= .ok (.bool (e==R&&o==b7)) b:=by
 rw[Sem.run_bind,run_eqGuard_agg b .eql _ Q X _ _ P.hm,Result.andThen_ok,run_eql_struct];have:=P.equalIn 9998 (e,o) (R,b7) b;unfold ng at this;rw[this];rfl
section
variable {w w':World} {p:Nat} {F T D:XN} {d:aH} {every:Nat} {l l2:List aj}
def DO(U:cU w p F d every l)(V:eh b)(J:ai b w)(K:∀e,F e->b.heap.size<=e){L:ZH}(M:Row gO 96 w D L a l2)(e1:a<=c)(z:∀e,D e->e<w.heap.size/\¬F e)(e2:l2.length<=20000000)(b2:∀(W:Nat) (h k:aj),l[W]? =some h->l2[W]? =some k->aI h=aI k->h=k):
  ZG 76 #[XL p,.slice L a c] w (Ok λb3 w'=>∃A:Int,b3= XH A/\∃i,cU w' p i d every l2/\du F w i w'):=by
 have hn:=M.len;have X:=U;obtain⟨⟨h1,h2,h3,h4⟩,e0,b6,e3,B⟩:=U;have e4:=aO.len (B.at' 2) dC;have e5:=B.aC;refine nU ⟨λj w'=>∃P:Nat,j=P/\P<=l.length/\P<=l2.length/\l.take P=l2.take P/\ai w w',?_,?_⟩
 ·refine⟨λf j w'=>∃P:Nat,j=P/\P<=l.length/\P<=l2.length/\f=l.length-P/\l.take P=l2.take P/\ai w w',⟨_,0,rfl,Qj _,Qj _,rfl,rfl,ak.refl _⟩,?_⟩
  rintro f _ _ w9 ⟨P,rfl,Y,Z,rfl,n,t⟩;have h9:=dG.ah B t;have a4:=h9.bu;refine⟨p,0,rfl,_,_,_,ae a4 rfl,an.dec (λN=>?_) (λa5 c0 C=>⟨P,rfl,Y,Z,n,t.then C.af⟩)⟩;have a6:P<l.length/\P<l2.length:=by split at N<;>omega
  have m:l[P]? =some l[P]:=Qq a6.1;have E:l2[P]? =some l2[P]:=Qq a6.2;generalize l[P]=h at m;generalize l2[P]=k at E;obtain⟨e,o,es,O,c1,c2,H,ya,yn,yc,rfl,e6,e7⟩:=(M.ah t).el P k E;obtain⟨b7,o2,e8,c3,e9,f0,a0,u,v,x,rfl,a7,a1⟩:=(aO.row (bytes:=96) (h9.at' 2) dC ba).el P h m;have y0:=H 0 dC;have y1:=H 1 dC;have x0:=a0 0 dC;have x1:=a0 1 dC;refine⟨e,o,O,oM,oM,_,_,y0,y1,p,0,rfl,_,_,_,ae a4 rfl,b7,o2,c3,oM,oM,_,_,x0,x1,(k.origin==h.origin&&k.seq==h.seq),λf=>SP IP,λc0 C=>an.mk (λQ=>⟨_,?_,P+1,aq oM,oM,oM,rfl,?_,t.then C.af⟩) (λ_=>⟨P,rfl,Y,Z,n,t.then C.af⟩)⟩
  ·omega
  ·simp only[QK,beq_iff_eq]at Q
   have c4:=b2 P h k m E (by simp[aI,Q.1,Q.2]);rw[Qw,Qw,n,m,E,c4]
 rintro _ _ f1 ⟨j,rfl,c5,c6,n,q⟩;have c7:=dG.ah B q;have b9:=c7.bu;have f2:=q.size;refine⟨λw'=>∃f i,f<=l2.length/\cU w' p i d every (l2.take f)/\du F w i w',⟨p,0,rfl,_,_,_,ae b9 rfl,an.dec (λN=>?_) (λa5=>?_)⟩,?_⟩
 ·refine PC.ok (JN (X.ah q) V (J.then q) K c5) ?_
  rintro _ f3 ⟨rfl,i,R,a9⟩;have b0:j/every*every<=j:=Nat.div_mul_le_self ..;refine⟨rfl,_,i,Xx b0 c6,?_,(ai.af q).then a9.af,λe g=>(a9.new e g).imp id oM⟩;have:l.take (j/every*every)=l2.take (j/every*every):=by
   have:=Zj (List.take (j/every*every)) n
   rwa [List.take_take,List.take_take,X2 b0]at this
  rw[<-this];exact R
 ·have c8:j=l.length:=oM
  refine⟨l.length,F,oM,?_,ai.af q,λe g=>.inl g⟩;rw[c8,List.take_length]at n;rw[<-n];exact X.ah q
 rintro _ f4 ⟨f,F1,hm,b1,a2⟩;have c9:=b1;obtain⟨-,q1,f5,f6,b4⟩:=b1;have a3:=aO.len (b4.at' 2) dC;rw[Qy,X2 hm]at a3;have f7:=a2.af.size;refine⟨p,0,rfl,_,_,_,ae b4.bu rfl,oM,oM,?_⟩;rw[Qx,a3];refine⟨λA s w'=>∃(P:Nat) (i:XN),s=P/\P<=a-f/\A=a-f-P/\cU w' p i d every (l2.take (f+P))/\du F w i w',⟨_,0,F1,rfl,Qj _,rfl,c9,a2⟩,?_⟩;rintro A _ _ b5 ⟨P,S,rfl,hj,rfl,T,r⟩;refine an.dec (λN=>?_) (λa5=>?_)
 ·have d0:f+P<l2.length:=oM
  have m:l2[f+P]? =some l2[f+P]:=Qq d0;generalize l2[f+P]=h at m;have d1:=M.af r.af λe g=>(z e g).2;obtain⟨e,o,es,O,c1,c2,H,u,v,x,rfl,a7,a1⟩:=d1.el (f+P) h m;have d2:bY L f c 10=some ⟨e,o+f*10,none⟩:=by rw[O];exact fe oM
  have f8:=r.af.size;refine⟨e,o+f*10,d2,oM,oM,bq (es:=aB h u v x) (k:=10) (aU h u v x) rfl (λs ht=>by rw[Qx];have:=H s ht;rw[show o+f*10+P*10+s=o+(f+P)*gO.k+s by show _=o+(f+P)*10+s;omega];exact this) (PA.mk λf9 d3 g1 d4=>aA (aU h u v x) d4 rfl λb8 d5 g2 d6=>au (aU h u v x) d6 ?_)⟩;have I:ai b5 b8:=d3.new d5 λe g=>.inr (by have g:e=b5.heap.size:=g;omega);have a8:du F w S b8:=⟨r.af.ah I,r.new⟩
  have d7:∀e,D e->¬S e:=λe g hf=>by
   rcases r.new e hf with y|y
   ·exact(z e g).2 y
   ·have:=(z e g).1;omega
  refine PC.ok (LA (T.ah I) V (J.new a8.af λe g=>.inr (K e g)) (λe g=>?_) (by rw[Qy];omega) (a7.ah I) (λe g=>⟨by have:=(z e g).1;have:=I.size;omega,d7 e g⟩) a1) ?_
  ·rcases r.new e g with y|y
   ·exact K e y
   ·have:=J.size;omega
  rintro _ g3 ⟨rfl,F3,d8,d9⟩;refine⟨rfl,_,?_,P+1,F3,aq oM,oM,rfl,?_,a8.trans d9⟩
  ·omega
  ·rw[show f+(P+1)=f+P+1 by omega,Qw,m];exact d8
 ·rw[Qz oM]at T
  exact Ok.mk ⟨_,rfl,S,T,r⟩
end
section
variable {w w':World} {p:Nat} {F T D:XN} {d:aH} {every:Nat} {l l2:List aj}
def LC{d:aH}{ta pa:ZH}{tn tc pn pc:Nat}{ev:Int}(n:cy d=0)(g9:aP ev)(hT:eh w)(o:aW w D d ta tn pa pn)(hD:∀P,D P->P<w.heap.size):
  ZG 73 #[.agg #[.slice ta tn tc,.slice pa pn pc],XH ev] w (Ok λe3 w'=>∃p F,e3= XL p/\cU w' p F d (max 1 ev).toNat []/\(∀P,F P->w.heap.size<=P)/\ai w w'):=by
 have h0:=o.aT.len;have X:=o.aT.dE;have h3:=o.xm.len;have h4:=o.xm.dE;have e6:d.projs.length<=8:=(tZ (jj n).1).2.2.1;obtain⟨every,e7⟩:∃every:Nat,every=(max 1 ev).toNat:=⟨_,rfl⟩
 have e8:(if ev>1 then ev else 1)=(every:Int):=by split<;>omega
 have c0:0<every/\every<9223372036854775808:=by unfold aP at g9;omega
 rw[<-e7];refine BV ?_;refine PA.mk λw1 k1 s1 g1=>⟨_,_,_,ae g1 rfl,PC.ok (nV (o.xm.ah k1) λP B=>by have:=hD P B;omega) ?_⟩
 rintro _ a ⟨i,g,v,x,rfl,Y,k8,h5⟩;have z8:=k8.size;refine⟨_,_,_,rfl,PA.mk λc1 Z k9 d8=>?_⟩;rw[e8]at d8;have e9:ai w c1:=(k1.then k8).then Z;have ga:=Z.get (k8.get g1 id) id;have l0:=Z.size;refine⟨_,_,_,ae ga rfl,λq I w'=>∃b:Nat,I=b/\b<=tn/\q=tn-b/\ak (·=a.heap.size) c1 w'/\∃r s J l,w'.heap[a.heap.size]? =some (.cells #[.slice r s J,.slice i g v,XH (every:Int),.slice none 0 0,.pointer none,.slice none 0 0,.slice none 0 0] 222 (0,0))/\aO jk 130 l w' r s J (d.types.take b)/\∀P,l P->c1.heap.size<=P,
  ⟨_,0,rfl,Qj _,rfl,ak.refl _,none,0,0,λ_=>False,d8,aO.nil _,λ_ o=>o.elim⟩,?_⟩
 rintro q _ _ y ⟨b,rfl,hj,rfl,kk,r,s,J,l,K,t,L⟩;have a7:ai w y:=e9.new kk λP B=>.inr oM;have zk:=kk.size;refine an.dec (λl4=>?_) (λl5=>?_)
 ·have e0:b<d.types.length:=oM
  obtain⟨P,a4,es,ha,B,h6,f0,fa,fn,fc,rfl,a8⟩:=(o.aT.ah a7).el b d.types[b] (by simp[e0]);have e1:d.types[b]? =some d.types[b]:=Qq e0;generalize d.types[b]=a0 at a8 e1;have c2:=f0 0 dC;have h7:jk.k=1:=rfl;rw[h7,Nat.mul_one]at c2;refine⟨P,a4,ha,oM,oM,fa,fn,fc,by rw[Qx];exact c2,PA.mk λl6 h8 l7 h9=>PS.mk h9 sM λe2 i0 l8 i1=>⟨_,_,_,ae i1 rfl,?_⟩⟩;have a1:ai y e2:=h8.new i0 λP B=>.inr oM;have f1:=a7.then a1;obtain⟨C,l1,l2,l3⟩:=ej.boxes (N:=GK) a8;have c4:=a8.dE;refine PC.ok (nW (l2.ah a1) λP B=>by have:=hD P B;have:=f1.size;omega) ?_;rintro _ e4 ⟨a9,M,f2,F9,rfl,b0,e5,i2⟩;have l9:=a1.size;have m0:=e5.size;have a2:∀P,aE a9=some P->e2.heap.size<=P:=λP B=>i2 P (b0.self P B);have f3:∀P,aE a9=some P->P<e4.heap.size:=λP B=>b0.aC P (b0.self P B);refine⟨_,_,_,rfl,λq I w'=>∃b:Nat,I=b/\b<=M/\q=M-b/\dJ GK 123 e4 a9 M f2 C b w',⟨_,0,rfl,Qj _,rfl,dJ.start b0.alone⟩,?_⟩;rintro q _ _ i3 ⟨e,rfl,h,rfl,z⟩;have m1:=z.len;have m2:C.length=a0.length:=by rw[<-l1];simp
  have i4:=a8.len;have N:ai y i3:=(a1.then e5).new z.af λP B=>.inr (by have:=a2 P B;omega);have m3:=z.af.size;refine an.dec (λf6=>?_) (λf8=>?_)
  ·obtain⟨a3,rfl⟩:=z.some oM
   have f9:=f3 a3 rfl;have a5:C[e]? =some C[e]:=Qq oM;have O:=l3 C[e] (XY oM);generalize C[e]=bx at a5 O;refine⟨a3,0,rfl,oM,oM,_,_,_,z.cell rfl a5 (by show M*4<=aN;unfold aN at c4⊢;omega) 3 _ rfl,PC.ok (qS (O.1.ah N) λP B=>by have:=hD P B;have:=(a7.then N).size;omega) ?_⟩;rintro _ m4 ⟨m5,m6,m7,G,rfl,c3,i5,j⟩;refine⟨_,_,_,rfl,a3,0,rfl,oM,oM,?_⟩;refine(z.ah i5).step (g:=a3) rfl a5 (c3.row (bytes:=32) dC ?_) O.2 (λu E=>⟨by have:=j u E;omega,c3.aC u E⟩) f9 λm8 g3 m9 n0=>⟨_,?_,e+1,aq (by unfold aN at c4;omega),oM,rfl,g3⟩
   ·have f:=O.1.dE
    have m:=O.1.len;show bx.x.bg.length*32<=aN;have n1:bx.n=bx.x.bg.length:=m;have n2:bx.n*32<=aN:=f;omega
   ·omega
  ·obtain rfl:e=M:=oM
   obtain⟨Fd,n,c6⟩:=z.done;rw[l1,DP]at n;have c5:=N.get K id;refine⟨a.heap.size,0,rfl,_,_,_,ae c5 rfl,DQ (c:=jk) (x:=a0) (t.ah N) IQ (D:=Fd) ⟨_,_,_,rfl,n.row dC (by rw[<-i4];exact c4)⟩ (λP B=>⟨n.aC P B,λc=>?_⟩) ?_ ?_ λa' Q n3 F' g6 c7 f4 n4=>⟨_,_,_,rfl,a.heap.size,0,rfl,?_⟩⟩
   ·have f:=t.aC P (t.self P c)
    rcases c6 P B with m|m
    ·have:=a2 P m;omega
    ·omega
   ·have:=List.length_take_le b d.types;unfold aN at X⊢;omega
   ·have:=List.length_take_le b d.types;unfold aN at X;unfold maxLen;omega
   ·have i6:¬aE r=some a.heap.size:=λc=>by have:=L _ (t.self _ c);omega
    have i7:=c7.get c5 i6;have n5:=c7.size;refine PS.mk i7 sM λn6 f5 n7 i8=>⟨_,?_,b+1,aq (by unfold aN at X;omega),oM,rfl,?_,a',s+1,Q,F',i8,?_,?_⟩
    ·omega
    ·exact((kk.ah N).new c7 λP B=>.inr (L _ (t.self P B))).then f5
    ·rw[Qw,e1]
     refine g6.af f5 λP B c=>?_;rcases f4 P B with f|f|f
     ·have:=L P f;omega
     ·rcases c6 P f with m|m
      ·have:=a2 P m;omega
      ·omega
     ·omega
    ·intro P B
     rcases f4 P B with f|f|f
     ·exact L P f
     ·rcases c6 P f with m|m
      ·have:=a2 P m;omega
      ·omega
     ·omega
 ·obtain rfl:b=tn:=oM
  rw[Qz oM]at t;have h1:=(Y.ah Z).af kk λP B c=>by have:=Y.aC P B;omega
  have n8:a.heap.size<y.heap.size:=ay K;have f7:aW y (λP=>l P\/x P) d r s i g:=⟨(t.row (bytes:=24) dC (by rw[<-h0];exact X)).mono λP B=>.inl B,(h1.row (bytes:=40) dC (by rw[<-h3];exact h4)).mono λP B=>.inr B⟩
  have A:∀P,l P\/x P->w.heap.size<=P/\P<y.heap.size/\P≠a.heap.size:=λP B=>by
   rcases B with B|B
   ·have:=L P B;have:=t.aC P B;omega
   ·have:=h5 P B;have:=Y.aC P B;omega
  refine⟨a.heap.size,0,rfl,_,_,_,_,_,_,ae K rfl,ae K rfl,PC.ok (DS n f7 λP B=>(A P B).2.1) ?_⟩;rintro _ i9 ⟨vp,R,rfl,hv,b1,b2⟩;have o0:=b2.size;have g0:=hv.aC;refine⟨_,rfl,a.heap.size,0,rfl,PS.mk (b2.get K id) sM λS c8 o1 g2=>⟨a.heap.size,0,rfl,_,_,_,ae g2 rfl,?_⟩⟩;have n9:=Y.len dC;have c9:aW S (λP=>l P\/x P) d r s i g:=(f7.ah b2).af c8 λP B c=>(A P B).2.2 c;have h2:cg S vp R (aV.new d):=hv.af c8 λP B c=>by have c:P=a.heap.size:=c;have:=b1 P B;omega
  refine⟨λq I w'=>∃(b:Nat) (ra:ZH) (T rc:Nat) (G:XN),I=b/\b<=g/\q=g-b/\ak (·=a.heap.size) S w'/\w'.heap[a.heap.size]? =some (.cells #[.slice r s J,.slice i g v,XH (every:Int),.slice none 0 0,XL vp,.slice ra T rc,.slice none 0 0] 222 (0,0))/\
   cj w' G ra T rc ((d.projs.take b).map λp=>(⟨p,[]⟩:dj))/\∀P,G P->S.heap.size<=P/\P<w'.heap.size,⟨_,0,none,0,0,λ_=>False,rfl,Qj _,rfl,ak.refl _,g2,cj.nil _,λP B=>B.elim⟩,?_⟩
  rintro q _ _ b3 ⟨e,ra,T,rc,G,rfl,h,rfl,H,d0,b4,j⟩;have o2:=H.size;refine an.dec (λf6=>?_) (λf8=>?_)
  ·have j0:e<d.projs.length:=oM
   have E:d.projs[e]? =some d.projs[e]:=Qq j0;generalize d.projs[e]=u at E;obtain⟨P,a4,es,a6,d5,h6,b5,rfl,d6⟩:=(c9.af H λP B c=>(A P B).2.2 c).xm.el e u E;refine⟨P,a4,a6,oM,oM,bq (es:=lV u) (k:=5) (nR u) rfl (λa0 ht=>by rw[Qx];exact b5 a0 ht) (PA.mk λo3 j1 o4 j2=>aA (nR u) j2 rfl λo5 j3 o6 j4=>λj5 g4=>⟨λ_=>False,a.heap.size,0,rfl,id,?_⟩)⟩;have d1:ai b3 j5:=(j1.new j3 λP B=>.inr (by have B:P=b3.heap.size:=B;omega)).then g4.af;refine⟨_,_,_,ae (d1.get d0 id) rfl,au (nR u) ((g4.af (S:=λ_=>False)).get j4 id) (PC.ok LD ?_)⟩;rintro _ o7 ⟨p',r',rfl,d2,o8,o9,p0,p1,d3⟩;have j6:p'≠r':=λc=>by
    obtain⟨es,cl,hm,-⟩:=d2.map.at';have:=d2.at';rw[c,hm]at this;cases this
   have p2:=d3.size;have p3:=d1.size;refine⟨_,rfl,d3,PA.mk λp4 d4 p5 j7=>⟨d4,?_⟩⟩;have b6:=(d1.then d3).then d4;have j8:=b4.len;rw[Q8,Qy,X2 oM]at j8;refine(b4.ah b6).push (λP B=>by have:=(j P B).2;omega) (d2.ah d4) (λB=>by have:=(j _ B).2;omega) (λB=>by have:=(j _ B).2;omega) j6 Lw j7 (by rw[Q8,Qy];omega) λj9 k0 p6 G3 k2 g5 k3 k4=>⟨_,_,_,rfl,a.heap.size,0,rfl,?_⟩
   have k5:=g5.get (b6.get d0 id) λB=>by have:=(j _ B).1;omega
   have d7:∀P,G3 P->S.heap.size<=P:=λP B=>by
    rcases k3 P B with f|f|f|f
    ·exact(j P f).1
    ·omega
    ·omega
    ·omega
   refine PS.mk k5 sM λp7 g7 p8 k6=>⟨_,?_,e+1,j9,T+1,k0,G3,aq oM,oM,rfl,((H.ah b6).new g5 λP B=>.inr (j P B).1).then g7,k6,?_,λP B=>⟨d7 P B,by have:=k4 P B;omega⟩⟩
   ·omega
   ·rw[Qw,E,Q3]
    exact k2.af g7 λP B c=>by have c:P=a.heap.size:=c;have:=d7 P B;omega
  ·rw[Qz oM]at b4
   have k7:∃U,dG b3 (λP=>∃k,(match k with|0=>P=a.heap.size|1=>l P\/x P|3=>R P|4=>G P|_=>False:Prop)) U a.heap.size ⟨r,s,J,i,g,v,every,none,0,0,vp,ra,T,rc,none,0,0⟩ d (ck d []) (dI d []).rows [] []:=by
    refine bB.join (G:=λk P=>match k with|0=>P=a.heap.size|1=>l P\/x P|3=>R P|4=>G P|_=>False) (λk=>?_) (λe b P h hj=>?_) λk P B=>?_
    ·match k with
     |0=>exact⟨rfl,d0⟩
     |1=>exact c9.af H λP B c=>(A P B).2.2 c
     |2=>exact aO.nil _
     |3=>exact h2.af H λP B c=>by have c:P=a.heap.size:=c;have:=b1 P B;omega
     |4=>exact b4
     |5=>exact aO.nil _
     |k+6=>trivial
    ·have V:∀e:Nat,(match e with|0=>P=a.heap.size|1=>l P\/x P|3=>R P|4=>G P|_=>False:Prop)->e=(if P=a.heap.size then 0 else if P<y.heap.size then 1 else if P<i9.heap.size then 3 else 4):=λe h=>by
      rcases e with _|_|_|_|_|e
      ·have h:P=a.heap.size:=h
       rw[Zx h]
      ·have:=A P h;rw[Zq oM,Zx oM]
      ·exact h.elim
      ·have:=b1 P h;have:=g0 P h;rw[Zq oM,Zq oM,Zx oM]
      ·have:=j P h;rw[Zq oM,Zq oM,Zq oM]
      ·exact h.elim
     rw[V e h,<-V b hj]
    ·rcases k with _|_|_|_|_|k
     ·have B:P=a.heap.size:=B
      omega
     ·have:=A P B;omega
     ·exact B.elim
     ·have:=g0 P B;omega
     ·have:=j P B;omega
     ·exact B.elim
   obtain⟨U,hq⟩:=k7;have b7:ai w b3:=(((a7.then b2).new c8 λP B=>.inr (by have B:P=a.heap.size:=B;omega)).new H λP B=>.inr (by have B:P=a.heap.size:=B;omega))
   have g8:∀P,(∃k,(match k with|0=>P=a.heap.size|1=>l P\/x P|3=>R P|4=>G P|_=>False:Prop))->w.heap.size<=P:=λP ⟨k,B⟩=>by
    rcases k with _|_|_|_|_|k
    ·have B:P=a.heap.size:=B
     omega
    ·exact(A P B).1
    ·exact B.elim
    ·have:=b1 P B;omega
    ·have:=j P B;omega
    ·exact B.elim
   refine PC.ok (AU hq n (hT.ah b7) sM (by rw[nT];exact e6) sM sM) ?_;rintro _ p9 ⟨rfl,q',F',W,b8,b9,d9⟩;refine⟨rfl,Ok.mk ⟨a.heap.size,F',rfl,⟨⟨n,c0.1,c0.2,sM⟩,q',W,b9,?_⟩,λP B=>?_,b7.new d9.af λP B=>.inr (g8 P B)⟩⟩
   ·rw[LF];simpa using b8
   ·rcases d9.new P B with f|f
    ·exact g8 P f
    ·have:=b7.size;omega
end
def IS(f:aH)(a:List aj):∀P∈(dI f a).rows,P.rows.length<=a.length:=by
 have:∀(a:List aj) (b:iQ) (c:Nat),(∀P∈b.rows,P.rows.length<=c)->∀P∈(a.foldl iQ.add b).rows,P.rows.length<=c+a.length:=by
  intro a
  induction a with
  |nil=>intro b c g P d;exact g P d
  |cons e a l=>
   intro b c g P d;have:=l (b.add e) (c+1) (λh i=>?_) P d
   ·simp only[Xq];omega
   ·obtain⟨j,k,rfl⟩:=Xk.1 (show h∈b.rows.map λP=>P.add (b.view.add e).1 (qv ((b.view.add e).2.state e.aT e.agg) P.p)from i)
    have n:=g j k;unfold dj.add;dsimp only;split
    ·omega
    ·split
     ·omega
     ·exact Xx (vk ..) oM
 intro P d;have:=this a (iQ.new f) 0 (λh i=>by
  obtain⟨j,k,rfl⟩:=Xk.1 (show h∈f.projs.map λm=>(⟨m,[]⟩:dj)from i);exact Q4 0) P d
 omega
def gP(a:aH)(b:List aj)(P:Int):List dv:=if P<0 then []else match(dI a b).rows[P.toNat]? with
 |none=>[]
 |some c=>c.list
section
variable {w w':World} {p:Nat} {F T D:XN} {d:aH} {every:Nat} {l:List aj}
def GM(r:cU w p F d every l):
  ZG 391 #[XL p,XH e,XH o] w (Ok λs w'=>∃b c f G,s= .tuple #[.agg #[XH (((ck d l).state e o).getD DF).version,.slice b c f],.bool ((ck d l).state e o).isSome]/\aO eN 84 G w' b c f (((ck d l).state e o).getD DF).cells/\(∀P,G P->w.heap.size<=P)/\ai w w'):=by
 obtain⟨y,z,t,rfl,i⟩:=r;refine pR (PA.mk λA g B u=>⟨p,0,rfl,_,ae (dG.ah i g).bu rfl,PC.ok (lU ((dG.ah i g).at' 3)) ?_⟩);rintro _ C ⟨b,c,f,G,rfl,v,j,h⟩;have E:=h.size;refine⟨_,_,_,_,_,rfl,PS.mk (h.get u id) sM λH k I x=>PS.mk x sM λJ m K n=>⟨_,_,_,_,ae n rfl,ae n rfl,Ok.mk ⟨b,c,f,G,rfl,?_,λP a=>?_,?_⟩⟩⟩
 ·exact v.af (k.then m) λP a q=>by have q:P=w.heap.size:=q;have:=j P a;omega
 ·have:=j P a;omega
 ·exact(g.then h).new (k.then m) λP a=>.inr (by have a:P=w.heap.size:=a;omega)
def BW(a:cU w p F d every l):ZG 389 #[XL p] w (Ok (nX vY 160 w (ck d l).entries)):=by
 obtain⟨b,i,c,rfl,P⟩:=a;refine nh ⟨p,0,rfl,_,ae P.bu rfl,PC.ok (BX (P.at' 3) (t_ d l b.2.2.2).1) ?_⟩;rintro _ j ⟨e,f,g,G,rfl,h⟩;exact⟨_,_,_,rfl,Ok.mk ⟨e,f,g,G,rfl,h⟩⟩
def JP(j:cU w p F d every l):ZG 390 #[XL p,XH e] w (Ok λk w'=>nX DT 269 w (gP d l e) k w'/\sg (gP d l e)):=by
 obtain⟨m,B,n,rfl,a⟩:=j;have C:=cj.len (a.at' 4);refine qT (an.dec (λg=>Ok.mk ⟨⟨none,0,0,λ_=>False,rfl,?_,ak.refl _,λo b=>b.elim⟩,?_⟩) (λc=>⟨p,0,rfl,_,_,_,ae a.bu rfl,an.dec (λq=>Ok.mk ⟨⟨none,0,0,λ_=>False,rfl,?_,ak.refl _,λo b=>b.elim⟩,?_⟩) (λq=>?_)⟩))
 ·unfold gP;rw[Zx g];exact aO.nil _
 ·unfold gP;rw[Zx g];exact List.Pairwise.nil
 ·unfold gP;rw[Zq c,Q7 oM];exact aO.nil _
 ·unfold gP;rw[Zq c,Q7 oM];exact List.Pairwise.nil
 ·obtain⟨P,rfl⟩:∃P:Nat,e=P:=⟨e.toNat,oM⟩
  have f:(dI d l).rows[P]? =some (dI d l).rows[P]:=Qq oM;have h:(dI d l).rows[P]∈(dI d l).rows:=XY oM;have r:gP d l (P:Int)=(dI d l).rows[P].list:=by unfold gP;rw[Zq c,Qx,f]
  rw[r];generalize(dI d l).rows[P]=s at f h;obtain⟨t,E,H,u,v,i,-⟩:=cj.elem (a.at' 4) f;refine⟨p,0,rfl,_,_,_,ae a.bu rfl,t,0,u,oM,oM,_,by rw[Qx];exact v,PC.ok (JQ i (Xx (IS d l s h) m.2.2.2)) ?_⟩;rintro _ I ⟨x,y,z,G,rfl,A⟩;exact⟨_,_,_,rfl,Ok.mk ⟨⟨x,y,z,G,rfl,A⟩,i.JR⟩⟩
end
structure ar.Cl (S:ar):Prop where
 ok:S.OK
 jo:∀e∈S.l,∀o,o<S.n->S.jo e o=true
 le:∀e∈S.l,e.seq<=(S.pU e.origin.toNat:Int)
 has:∀(o:Nat) (s:Int),o<S.n->1<=s->s<=(S.pU o:Int)->∃e∈S.l,aI e=((o:Int),s)
def om:A.jo l a=true↔l.aK.getD a 0=0\/∃P,A.get ((a:Int),l.aK.getD a 0)=some P/\P.ax<l.ax/\∀b,b<P.aK.length->P.aK.getD b 0<=l.aK.getD b 0:=by
 unfold ar.jo;generalize l.aK.getD a 0=c;dsimp only
 cases d:A.get ((a:Int),c)with
 |none=>simp
 |some P=>simp
def ar.Cl.new(P:a<=64):ar.Cl ⟨a,[]⟩:=⟨ar.qU P,sM,sM,λc d _ e b=>by simp[ar.pU]at b;omega⟩
def ar.NZ(P:ar.OK ⟨A.n,cZ l A.l⟩)(a:A.get d2=some M):ar.get ⟨A.n,cZ l A.l⟩ d2=some M:=by
 obtain⟨b,rfl⟩:=ar.get_some a;exact P.get ((cO l A.l).mem_iff.2 (QJ _ b))
def ar.fQ(P:ar)(a:aj):((P.add a).1≠0/\(P.add a).2=P)\/(P.add a=(0,⟨P.n,cZ a P.l⟩)/\cC a P.n=0/\P.get (aI a)=none/\a.seq=P.vec.getD a.origin.toNat 0+1/\∀b,b<P.n->P.jo a b=true):=by
 rw[ar.add_def];split
 ·rename_i c;exact .inl ⟨c,rfl⟩
 rename_i d;split
 ·exact .inl ⟨sM,rfl⟩
 rename_i e;split
 ·exact .inl ⟨sM,rfl⟩
 rename_i f;split
 ·exact .inl ⟨sM,rfl⟩
 rename_i g;refine .inr ⟨rfl,by simpa using d,by simpa using e,by simpa using f,?_⟩;simpa[List.any_eq_false]using g
def ar.IX{S:ar}(a:cC l S.n=0)(b:S.get (aI l)=none)(c:l.seq=S.vec.getD l.origin.toNat 0+1)(d:∀P,P<S.n->S.jo l P=true):S.add l=(0,⟨S.n,cZ l S.l⟩):=by
 rw[ar.add_def,Zq (by simpa using a),Zq (by simp[b]),Zq (by simpa using c),Zq];simpa[List.any_eq_false]using d
def ar.Cl.add{c:ar}(h:c.Cl){b:aj}(q:b.Ok):(c.add b).2.Cl:=by
 have l:=(ar.xq h.ok q).1;rcases c.fQ b with⟨-,g⟩|⟨i,r,y,s,t⟩
 ·rw[g];exact h
 rw[i]at l⊢;simp only at l⊢;obtain⟨z,A,B,-⟩:=gZ r;obtain⟨j,m⟩:∃j:Nat,b.origin=j:=⟨b.origin.toNat,oM⟩
 have u:j<c.n:=oM
 rw[m,Qx,c.gi u]at s;have d:∀P,P∈cZ b c.l↔P=b\/P∈c.l:=λP=>by rw[(cO b c.l).mem_iff,Q2]
 have e:∀P f,c.jo P f=true->ar.jo ⟨c.n,cZ b c.l⟩ P f=true:=λP f a=>by
  rw[om]at a⊢;rcases a with a|⟨v,i,g⟩
  ·exact .inl a
  ·exact .inr ⟨v,ar.NZ l i,g⟩
 refine⟨l,λP a f k=>?_,λP a=>?_,λf n k i g=>?_⟩
 ·rcases(d P).1 a with rfl|a
  ·exact e _ _ (t f k)
  ·exact e _ _ (h.jo P a f k)
 ·rw[ar.Ci]
  rcases(d P).1 a with rfl|a
  ·rw[m,Qx,Zx rfl];omega
  ·have:=h.le P a
   split<;>omega
 ·rw[ar.Ci]at g
  by_cases p:b.origin=(f:Int)
  ·rw[Zx p]at g
   have w:j=f:=oM
   subst w
   by_cases x:n=b.seq
   ·exact⟨b,(d b).2 (.inl rfl),by simp[aI,m,x]⟩
   ·obtain⟨P,a,o⟩:=h.has j n k i oM
    exact⟨P,(d P).2 (.inr a),o⟩
  ·rw[Zq p]at g
   obtain⟨P,a,o⟩:=h.has f n k i oM;exact⟨P,(d P).2 (.inr a),o⟩
def ar.Pv(P:ar)(a:aj):(P.add a).2.n=P.n:=by
 rcases P.fQ a with⟨-,b⟩|⟨c,-⟩
 ·rw[b]
 ·rw[c]
def ar.wW(P:ar)(a:aj):(P.add a).2.l.length<=P.l.length+1:=by
 rcases P.fQ a with⟨-,b⟩|⟨c,-⟩
 ·rw[b];omega
 ·rw[c];show(cZ a P.l).length<=_;rw[(cO a P.l).length_eq];simp
def ar.lk(P:ar)(a:List aj)(b:aj):P.eV (a++[b])=((P.eV a).add b).2:=by unfold ar.eV;rw[List.foldl_append];rfl
def ar.LW(P:ar)(a b:List aj):P.eV (a++b)=(P.eV a).eV b:=by unfold ar.eV;rw[List.foldl_append]
def ar.Cl.eV:∀{l:List aj} {S:ar},S.Cl->(∀e∈l,e.Ok)->(S.eV l).Cl
 |[],S,P,_=>P
 |e::l,S,P,a=>ar.Cl.eV (l:=l) (S:=(S.add e).2) (P.add (a e (QV ..))) λb c=>a b (QJ _ c)
def ar.LX:∀(a:List aj) (P:ar),(P.eV a).n=P.n
 |[],P=>rfl
 |e::a,P=>(ar.LX a _).trans (P.Pv e)
def ar.lj:∀(a:List aj) (P:ar),(P.eV a).l.length<=P.l.length+a.length
 |[],P=>by simp[ar.eV]
 |e::a,P=>by
  have b:=ar.lj a (P.add e).2;have c:=P.wW e;show((P.add e).2.eV a).l.length<=_;simp only[Xq];omega
def lX{a:aj}:∀{P:List aj},(∀x∈P,dT a x=false)->cZ a P=P++[a]
 |[],_=>rfl
 |x::P,b=>by
  unfold cZ;rw[Zq (by rw[b x (QV ..)];simp),lX λc d=>b c (QJ _ d)];rfl
def ar.Cl.take{P:ar}(h:P.Cl):∀{k:Nat},k<=P.l.length->(⟨P.n,[]⟩:ar).eV (P.l.take k)=⟨P.n,P.l.take k⟩/\ar.Cl ⟨P.n,P.l.take k⟩
 |0,_=>⟨rfl,by simpa using ar.Cl.new h.ok.n⟩
 |k+1,T=>by
  obtain⟨I,n⟩:=ar.Cl.take h (k:=k) oM;have g:P.l[k]? =some P.l[k]:=Qq oM;have j:P.l[k]∈P.l:=XY oM;generalize P.l[k]=a at g j;have w:P.l=P.l.take k++a::P.l.drop (k+1):=by
   conv=>lhs;rw[<-ZX k P.l]
   congr 1
   rw[X4 oM]
   congr 1
   have:=Qq (l:=P.l) (i:=k) oM;rw[g]at this;exact(XJ this).symm
  have q:=h.ok.LL;have i:=h.ok.ids;rw[w]at q i;have f:∀b∈P.l,dT b a=true->b∈P.l.take k:=λb d o=>by
   rw[w]at d;rcases Q6.1 d with d|d
   ·exact d
   rcases Q2.1 d with rfl|d
   ·rw[iq]at o;omega
   ·have J:=(List.pairwise_append.1 q).2.1
    have r:=(List.pairwise_cons.1 J).1 b d;rw[ll r]at o;cases o
  have c:∀b∈P.l.take k,dT b a=true:=λb d=>(List.pairwise_append.1 q).2.2 b d a (QV ..);have x:ar.get ⟨P.n,P.l.take k⟩ (aI a)=none:=by
   cases K:ar.get ⟨P.n,P.l.take k⟩ (aI a)with
   |none=>rfl
   |some b=>
    obtain⟨l,m⟩:=ar.get_some K;rw[Q3,QY,List.nodup_append]at i;exact Zz m (i.2.2 (aI b) (Xk.2 ⟨b,l,rfl⟩) (aI a) (QV ..))
  have y:=h.ok.Pw a j;obtain⟨U,V,L,W,-,-,X,-,z,-⟩:=gZ y;obtain⟨e,s⟩:∃e:Nat,a.origin=e:=⟨a.origin.toNat,oM⟩
  have t:e<P.n:=oM
  have A:∀p,p<P.n->ar.jo ⟨P.n,P.l.take k⟩ a p=true:=λp M=>by
   have:=h.jo a j p M;rw[om]at this⊢;rcases this with B|⟨b,u,C,N⟩
   ·exact .inl B
   ·obtain⟨l,m⟩:=ar.get_some u
    refine .inr ⟨b,?_,C,N⟩;rw[<-m];exact n.ok.get (f b l (by rw[iq];exact .inl C))
  have E:=h.ok.ok a j;have Q:a.seq=(ar.vec ⟨P.n,P.l.take k⟩).getD a.origin.toNat 0+1:=by
   rw[s,Qx,ar.gi (S:=⟨P.n,P.l.take k⟩) t];have Z:(ar.pU ⟨P.n,P.l.take k⟩ e:Int)+1<=a.seq:=by
    rcases Int.lt_or_le (ar.pU ⟨P.n,P.l.take k⟩ e:Int) a.seq with o|O
    ·omega
    ·obtain⟨b,R,Y⟩:=n.has e a.seq t L O
     have:=ar.get_none x b R;exact Zz (Y.trans (by simp[aI,s])) this
   have O:a.seq<=(ar.pU ⟨P.n,P.l.take k⟩ e:Int)+1:=by
    have S:lq (a.seq-1)=a.seq-1:=by
     have:=E.seq;exact wrap_i64 (by unfold aP at*;omega)
    rw[S,s,Qx]at z;have:=A e t;rw[om,z]at this;rcases this with B|⟨b,u,-⟩
    ·omega
    ·obtain⟨l,m⟩:=ar.get_some u
     have r:=n.le b l;have F:b.origin=e/\b.seq=a.seq-1:=by
      have:=m;simp only[aI,Prod.mk.injEq]at this;exact this
     rw[F.1,F.2,Qx]at r;omega
   show a.seq=(ar.pU ⟨P.n,P.l.take k⟩ e:Int)+1;omega
  have H:=ar.IX (S:=⟨P.n,P.l.take k⟩) y x Q A;have a0:cZ a (P.l.take k)=P.l.take (k+1):=by
   rw[lX λb g=>ll (c b g),Qw,g];rfl
  rw[show P.l.take (k+1)=P.l.take k++[a] by rw[Qw,g];rfl,ar.lk,I,H];have v:=n.add E;rw[H]at v;rw[show cZ a (P.l.take k)=P.l.take k++[a]from lX λb g=>ll (c b g)]at v⊢;exact⟨rfl,v⟩
def ar.Cl.RA(P:A.Cl):(⟨A.n,[]⟩:ar).eV A.l=A:=by
 have:=(P.take (Q4 _)).1;rw[List.take_length]at this;exact this
def AY{P:aj}:∀{l:List aj},(∀x∈l,aI x≠aI P)->cZ P l=l.take (posOf (λx=>dT x P) l)++P::l.drop (posOf (λx=>dT x P) l)
 |[],_=>rfl
 |x::l,b=>by
  have c:=b x (QV ..);unfold cZ posOf;rw[List.takeWhile_cons]
  by_cases a:dT x P=true
  ·rw[Zx a,Zq (by rw[ll a];simp)]
   have:=AY (l:=l) λd e=>b d (QJ _ e);rw[this];simp[posOf]
  ·rw[Zq a,Zx ((Cc c).resolve_left a)]
   rfl
structure ob (most:Nat) (l:List aj):Prop where
 LL:Qc l
 ids:(l.map aI).Nodup
 ok:∀e∈l,e.Ok
 le:l.length<=most
def ob.nil(P:Nat):ob P []:=⟨List.Pairwise.nil,sM,sM,Qj _⟩
def ob.add(c:ob a K)(g:l.Ok):ob a (dy a K l).2:=by
 unfold dy;split
 ·exact c
 rename_i e;rw[not_or]at e;have f:∀P∈K,aI P≠aI l:=by
  have:=e.2;simp only[List.any_eq_true,beq_iff_eq,not_exists,not_and]at this;exact this
 have d:=cO l K;refine⟨ug c.LL f,?_,λP b=>?_,by rw[d.length_eq,Xq];omega⟩
 ·refine(d.map aI).nodup_iff.2 ?_
  rw[QY,List.nodup_cons];exact⟨λh=>by obtain⟨P,b,i⟩:=Xk.1 h;exact f P b i,c.ids⟩
 ·rcases Q2.1 (d.mem_iff.1 b)with rfl|b
  ·exact g
  ·exact c.ok P b
def ob.sub(P:ob a K)(b:e0.Sublist K):ob a e0:=
 ⟨P.LL.sublist b,P.ids.sublist (b.map aI),λc d=>P.ok c (b.subset d),Xx b.length_le P.le⟩
def qx{a:ar}:∀{P:List aj},(∀e∈P,(a.add e).1≠0)->cV a P=none
 |[],_=>rfl
 |e::P,b=>by
  unfold cV;rw[Zq (b e (QV ..)),qx λc d=>b c (QJ _ d)];rfl
def qy{b:ar}:∀{P:List aj} {i:Nat} {e:aj},(∀x∈P.take i,(b.add x).1≠0)->P[i]? =some e->(b.add e).1=0->cV b P=some (e,(b.add e).2,P.eraseIdx i)
 |[],i,e,_,a,_=>by simp at a
 |x::P,0,e,c,a,d=>by
  simp at a;subst a;unfold cV;rw[Zx d];rfl
 |x::P,i+1,e,c,a,d=>by
  unfold cV;rw[Zq (c x sM),qy (i:=i) (e:=e) (λf g=>c f (by simp[g])) (by simpa using a) d]
  rfl
def cM(P:di)(a:ZH)(b c:Nat)(d:ZH)(e f:Nat):List Value:=[XH P.kind,XH P.bF,XH P.nP,.slice a b c,.slice d e f]
abbrev mC(P:di)(a:ZH)(b c:Nat)(d:ZH)(e f:Nat):Value:=.agg (cM P a b c d e f).toArray
def lI(P:di)(a:ZH)(b c:Nat)(d:ZH)(e f:Nat):im XP 60 (cM P a b c d e f)=true:=kR
section
variable {w w':World} {D E F:XN} {m:di} {va ea:ZH} {vn vc en ec N:Nat} {chunk:Int} {p:Nat} {S:ar}
def Ie(c:Row aJ 8 w D va vn m.vec)(j:Row gO 96 w E ea en m.events):ZG 97 #[mC m va vn vc ea en ec,XH (N:Int)] w (Ok λk w'=>k= XH (fR m N)/\ai w w'):=by
 have u:=c.len;have v:=j.len;have l:=c.dE;refine Cv (PA.mk λx d y e=>⟨_,_,_,ae e rfl,an.dec (λn=>Ok.mk ⟨?_,d⟩) (λn=>⟨_,_,_,ae e rfl,an.dR (λo=>Ok.mk ⟨?_,d⟩) (λo=>⟨_,_,_,ae e rfl,λg p w'=>∃P:Nat,p=P/\P<=vn/\g=vn-P/\((m.vec.take P).any λa=>decide (a<0))=false/\ai w w',⟨_,0,rfl,Qj _,rfl,sM,d⟩,?_⟩)⟩)⟩)
 ·unfold fR;rw[Zx oM]
 ·unfold fR;rw[Zq oM,Zx oM]
 rintro g _ _ z ⟨P,rfl,A,rfl,f,b⟩;refine an.dec (λB=>?_) (λC=>Ok.mk ⟨?_,b⟩)
 ·obtain⟨q,r,a,s,h,-,t⟩:=(c.ah b).lb (i:=P) oM
  refine⟨q,r,s,oM,oM,a,t,an.dec (λi=>Ok.mk ⟨?_,b⟩) (λi=>⟨_,oM,P+1,aq (by unfold aN at l;omega),oM,rfl,?_,b⟩)⟩
  ·unfold fR;rw[Zq oM,Zq oM,Zx (List.any_eq_true.2 ⟨a,QZ h,by simpa using i⟩)]
  ·rw[Qw,h,List.any_append,f];simp;omega
 ·rw[Qz oM]at f
  unfold fR;rw[Zq oM,Zq oM,Zq (by rw[f];simp)]
def vK{d:Type}{P:d->Int}:∀{a:List d} {e:Nat} {b:d},(∀y∈a.take e,P y=0)->a[e]? =some b->P b≠0->bW P a=P b
 |y::a,0,b,_,c,f=>by
  simp at c;subst c;unfold bW;rw[Zx (by simpa using f)]
 |y::a,e+1,b,g,c,f=>by
  have h:P y=0:=g y sM;unfold bW
  rw[h];simp only[bne_self_eq_false,Bool.false_eq_true,if_false];exact vK (λi j=>g i (QJ _ j)) (by simpa using c) f
def yX{a:Type}{b:a->Int}:∀{P:List a},(∀y∈P,b y=0)->bW b P=0
 |[],_=>rfl
 |y::P,c=>by
  unfold bW
  rw[c y (QV ..)];simpa using yX λd e=>c d (QJ _ e)
def Ig(t:Row aJ 8 w D va vn m.vec)(i:Row gO 96 w E ea en m.events)(u:N<4611686018427387904):ZG 96 #[mC m va vn vc ea en ec,XH (N:Int),XH chunk] w (Ok λv w'=>v= XH (dY m N chunk)/\ai w w'):=by
 have W:=t.len;have X:=i.len;have x:=i.dE;refine Cu (PA.mk λY b Z c=>⟨_,_,_,ae c rfl,an.dec (λy=>Ok.mk ⟨?_,b⟩) (λy=>⟨_,_,_,ae c rfl,an.dec (λz=>Ok.mk ⟨?_,b⟩) (λz=>⟨_,_,_,ae c rfl,an.dec (λA=>Ok.mk ⟨?_,b⟩) (λA=>⟨_,_,_,ae c rfl,λn j w'=>∃P:Nat,j=P/\P<=en/\n=en-P/\(∀a∈m.events.take P,cC a N=0)/\ai w w',⟨_,0,rfl,Qj _,rfl,sM,b⟩,?_⟩)⟩)⟩)⟩)
 ·unfold dY;rw[Zx oM]
 ·unfold dY;rw[Zq oM,Zx (.inl oM)]
 ·unfold dY;rw[Zq oM,Zx (.inr oM)]
 rintro n _ _ B ⟨P,rfl,hj,rfl,d,e⟩;have o:dY m N chunk=bW (λC=>cC C N) m.events:=by unfold dY;rw[Zq oM,Zq oM]
 refine an.dec (λa4=>?_) (λa5=>Ok.mk ⟨?_,e⟩)
 ·obtain⟨p,F,es,I,J,a6,q,f,g,h,rfl,r,K⟩:=(i.ah e).el P m.events[P] (Qq oM)
  have k:m.events[P]? =some m.events[P]:=Qq oM;generalize m.events[P]=a at q r K k;refine⟨p,F,I,oM,oM,bq (es:=aB a f g h) (k:=10) (aU a f g h) rfl (λj L=>q j L) (PA.mk λw3 M s3 O=>aA (aU a f g h) O rfl λQ R s4 S=>au (aU a f g h) S ?_)⟩;have l:ai B Q:=M.new R λp J=>.inr oM;refine PC.ok (vA (r.ah l) u) ?_;rintro _ w5 ⟨rfl,s⟩;refine⟨_,rfl,an.dR (λT=>Ok.mk ⟨by rw[o,vK d k T],(e.then l).then s⟩) (λU=>⟨_,oM,P+1,aq (by unfold aN at x;omega),oM,rfl,λV H=>?_,(e.then l).then s⟩)⟩;rw[Qw,k]at H;rcases Q6.1 H with H|H
  ·exact d V H
  ·simp at H;subst H;exact U
 ·rw[Qz oM]at d
  rw[o,yX d]
def Fu(i:cu w p F S):ZG 112 #[XL p,XH e,XH o] w (Ok λj w'=>∃va vn vc G,j=mC (pL S e o) va vn vc none 0 0/\aO aJ 3 G w' va vn vc S.vec/\(∀o,G o->w.heap.size<=o)/\ai w w'):=by
 refine Af (PA.mk λn f q k=>PC.ok (jV (i.ah f)) ?_);rintro _ r ⟨a,b,c,G,rfl,l,d,g⟩;have s:=d.size;refine⟨_,_,_,rfl,aA (lI (pL S e o) a b c none 0 0) (d.get k id) rfl λt h u m=>au (lI (pL S e o) a b c none 0 0) m (Ok.mk ⟨a,b,c,G,rfl,l.af h λo P v=>?_,λo P=>?_,(f.then d).new h λo P=>.inr oM⟩)⟩
 ·have:=g o P;omega
 ·have:=g o P;omega
def Fw(i:cu w p F S):ZG 99 #[XL p,XH e,XH o] w (Ok λj w'=>∃va vn vc G,j=mC (wS S e o) va vn vc none 0 0/\aO aJ 3 G w' va vn vc S.vec/\(∀o,G o->w.heap.size<=o)/\ai w w'):=by
 refine Hf (PA.mk λn f q k=>PC.ok (jV (i.ah f)) ?_);rintro _ r ⟨a,b,c,G,rfl,l,d,g⟩;have s:=d.size;refine⟨_,_,_,rfl,aA (lI (wS S e o) a b c none 0 0) (d.get k id) rfl λt h u m=>au (lI (wS S e o) a b c none 0 0) m (Ok.mk ⟨a,b,c,G,rfl,l.af h λo P v=>?_,λo P=>?_,(f.then d).new h λo P=>.inr oM⟩)⟩
 ·have:=g o P;omega
 ·have:=g o P;omega
def BD{cs:Array Value}(b:w.heap[a]? =some (.cells cs g H))(c:cs[0]? =some (XH (N:Int))):ZG 95 #[XH e,XL a] w (Ok λd w'=>d= .bool (decide (0<=e)&&decide (e<N))/\w=w'):=by
 refine Aj (an.dec (λP=>⟨_,ae b c,Ok.mk ⟨?_,rfl⟩⟩) (λP=>Ok.mk ⟨?_,rfl⟩))
 ·rw[Zy (show 0<=e from P)];rfl
 ·rw[Xv (show¬0<=e from P)];rfl
def KM(o:Row aJ 8 w D va vn m.vec)(p:Row gO 96 w E ea en m.events)(v:N<4611686018427387904):ZG 45 #[mC m va vn vc ea en ec,XH (N:Int),XH chunk] w (Ok λg w'=>g= XH (dZ m N chunk)/\ai w w'):=by
 refine El (PA.mk λx y J z=>PA.mk λi q K j=>?_);have c:=q.get z id;have P:=y.then q;refine⟨λA w'=>A=(!(decide (0<=m.bF)&&decide (m.bF<N))|| !(decide (0<=m.nP)&&decide (m.nP<N))||m.bF==m.nP)/\i=w',?_,?_⟩
 ·refine⟨_,ae c rfl,_,_,_,rfl,kR,PC.ok (BD (N:=N) j rfl) ?_⟩
  rintro _ _ ⟨rfl,rfl⟩;refine⟨_,rfl,an.not (an.mk (λa=>⟨_,ae c rfl,_,_,_,rfl,kR,PC.ok (BD (N:=N) j rfl) ?_⟩) (λa=>⟨by rw[a];rfl,rfl⟩))⟩;rintro _ _ ⟨rfl,rfl⟩;refine⟨_,rfl,an.not (an.mk (λb=>⟨_,ae c rfl,_,ae c rfl,by rw[a,b];rfl,rfl⟩) (λb=>⟨by rw[a,b];rfl,rfl⟩))⟩
 rintro k _ _ ⟨B,rfl⟩;have f:dZ m N chunk=if m.kind=3 then(if k then 1 else dY m N chunk)else if m.kind=1\/m.kind=2\/m.kind=4 then(if k then 1 else fR m N)else 2:=by rw[B];rfl
 have d:∀{r:List PanicEntry->XU},(if k then 1 else fR m N)=dZ m N chunk->an k (Ok (λg w'=>g= XH (dZ m N chunk)/\ai w w') (.returned (XH 1)) i) (mW XP 60 (XL w.heap.size) i λC=>(∃(s:Int),i.cell? ⟨x.heap.size,0,none⟩=some (XH s)/\PC XP 97 #[C,XH s] i (λF H=>∃(t:Int),F= XH t/\Ok (λg w'=>g= XH (dZ m N chunk)/\ai w w') (.returned (XH t)) H) r)):=λ{r} u=>by
  refine an.mk (λh=>Ok.mk ⟨by rw[<-u,h];rfl,P⟩) (λh=>au (lI m va vn vc ea en ec) c ⟨_,ae j rfl,PC.ok (Ie (o.ah P) (p.ah P)) ?_⟩);rintro _ I ⟨rfl,l⟩;exact⟨_,rfl,Ok.mk ⟨by rw[<-u,h];rfl,P.then l⟩⟩
 refine⟨_,ae c rfl,an.eB (λe=>an.not (an.mk (λh=>?_) (λh=>au (lI m va vn vc ea en ec) c ⟨_,ae j rfl,PC.ok (Ig (o.ah P) (p.ah P) v) ?_⟩))) (λe=>an.eB (λa=>an.tt (by simpa using a) (d ?_)) (λa=>an.eB (λb=>an.tt (by simpa using b) (d ?_)) (λb=>an.eB (λn=>d ?_) (λn=>Ok.mk ⟨?_,P⟩))))⟩
 ·exact an.tt h (Ok.mk ⟨by rw[f,Zx e,h];rfl,P⟩)
 ·rintro _ I ⟨rfl,l⟩
  exact⟨_,rfl,Ok.mk ⟨by rw[f,Zx e,h];rfl,P.then l⟩⟩
 ·rw[f,Zq e,Zx (show m.kind=1\/m.kind=2\/m.kind=4 from .inl a)]
 ·rw[f,Zq e,Zx (show m.kind=1\/m.kind=2\/m.kind=4 from .inr (.inl b))]
 ·rw[f,Zq e,Zx (show m.kind=1\/m.kind=2\/m.kind=4 from .inr (.inr n))]
 ·rw[f,Zq e,Zq (by rintro(h|h|h);exact a h;exact b h;exact n h)]
end
structure LJ (w:World) (p:Nat) (M D:XN) (most:Nat) (l:List aj) (a:ZH) (n c:Nat) (L:List (Bx aj)):Prop where
 at':w.heap[p]? =some (.cells #[XH (most:Int),.slice a n c] 146 (0,0))
 mV:aO nN.iX 55 (λb=>aE a=some b) w a n c L
 map:L.map (·.x)=l
 JT:∀b∈L,nN.In w D b
 dD:∀b,D b->b<w.heap.size/\¬M b
 mp:M p
 ma:∀b,aE a=some b->M b/\b≠p
 dM:∀b,M b->b<w.heap.size
def fO(b:World)(c:Nat)(d D:XN)(P:Nat)(a:List aj):Prop:=(P<=256/\ob P a)/\∃e f g h,LJ b c d D P a e f g h
section
variable {w w':World} {p:Nat} {M D T E:XN} {most:Nat} {l:List aj} {a:ZH} {n c:Nat} {L:List (Bx aj)}
def LJ.af(b:LJ w p M D most l a n c L)(e:ak T w w')(f:∀P,M P->¬T P)(g:∀P,D P->¬T P):LJ w' p M D most l a n c L:=
 ⟨e.get b.at' (f _ b.mp),b.mV.af e λP d=>f P (b.ma P d).1,b.map,λP d=>(b.JT P d).af e g,λP d=>⟨Qk (b.dD P d).1 e.size,(b.dD P d).2⟩,b.mp,b.ma,λP d=>Qk (b.dM P d) e.size⟩
def fO.af(b:fO w p M D most l)(d:ak T w w')(e:∀P,M P->¬T P)(f:∀P,D P->¬T P):fO w' p M D most l:=by
 obtain⟨g,a,n,c,L,b⟩:=b;exact⟨g,a,n,c,L,b.af d e f⟩
def fO.ah(P:fO w p M D most l)(a:ai w w'):fO w' p M D most l:=P.af a (λ_ _ P=>P) λ_ _ P=>P
def ue:il XP 50 55 nN.iX.k 96:=zQ
def GN(g:0<=e/\e<=256):ZG 36 #[XH e] w (Ok λc w'=>∃p,c= XL p/\fO w' p (·=p) (λ_=>False) e.toNat []/\w.heap.size<=p/\p<w'.heap.size/\ai w w'):=by
 refine BZ (PA.mk λd f h b=>Ok.mk ⟨w.heap.size,rfl,⟨⟨oM,ob.nil _⟩,none,0,0,[],?_,(aO.nil d).mono (λa P=>P.elim) (λa P=>by cases P),rfl,sM,λa P=>P.elim,rfl,λa P=>(by cases P),λa P=>by have P:a=w.heap.size:=P;omega⟩,Q4 _,oM,f⟩);have:(if(if 256<e then 256 else e)>0 then(if 256<e then 256 else e)else 0)=((e.toNat:Nat):Int):=by split<;>split<;>omega
 rw[this]at b;exact b
def B_(d:fO w p M D most l):ZG 62 #[XL p] w (Ok λf w'=>f= .tuple #[]/\fO w' p M (λ_=>False) most []/\ak M w w'):=by
 obtain⟨g,a,n,c,L,d⟩:=d;refine ni ⟨p,0,rfl,PS.mk d.at' sM λh i j k=>Ok.mk ⟨rfl,⟨⟨g.1,ob.nil _⟩,none,0,0,[],k,(aO.nil h).mono (λb P=>P.elim) (λb P=>by cases P),rfl,sM,λb P=>P.elim,d.mp,λb P=>(by cases P),λb P=>by rw[j];exact d.dM b P⟩,i.mono λb _ e=>by have e:b=p:=e;exact e▸d.mp⟩⟩
def xy{m o:Array Value}(s:enters XP y=true)(b:Nat->XU)(p:Nat->XU)(h:b 0 w)(i:∀P f,b P f->Row nN.iX 96 f E a n L)(t:∀P d f,L[P]? =some d->b P f->ZG y (m++ #[iP d.x d.a d.n d.c]++o) f (Ok λg w'=>(g= .bool true/\p P w')\/(g= .bool false/\b (P+1) w'))):
  ZG 235 #[.slice a n c,.func (.func y) m o] w (Ok λg w'=>(∃P,P<n/\g= XH (P:Int)/\p P w')\/(g= XH (-1)/\b n w')):=by
 have H:=(i 0 w h).len;have u:=(i 0 w h).dE;unfold aN at u;refine eU ⟨λq j w'=>∃P:Nat,j=P/\P<=n/\q=n-P/\b P w',⟨_,0,rfl,Qj _,rfl,h⟩,?_⟩;rintro q _ _ r ⟨P,rfl,I,rfl,k⟩;refine an.dec (λJ=>?_) (λK=>?_)
 ·have v:P<L.length:=oM
  have l:L[P]? =some L[P]:=Qq v;generalize L[P]=e at l;obtain⟨d,x,M,z,N,O,A,rfl,-⟩:=(i P r k).el P e l;refine⟨d,x,z,oM,oM,bq (es:=aB e.x e.a e.n e.c) (k:=10) (aU _ _ _ _) rfl (λj B=>by rw[Qx];exact A j B) ⟨_,_,_,rfl,s,PC.ok (t P e r l k) ?_⟩⟩;rintro _ Q (⟨rfl,C⟩|⟨rfl,F⟩)
  ·exact⟨_,rfl,an.tt rfl (Ok.mk (.inl ⟨P,oM,rfl,C⟩))⟩
  ·exact⟨_,rfl,an.ff rfl ⟨_,oM,P+1,aq oM,oM,rfl,F⟩⟩
 ·obtain rfl:P=n:=oM
  exact Ok.mk (.inr ⟨rfl,k⟩)
def DZ{a:aj}{g h:Nat}{b:Nat}{c:aj}{i j:Nat}(e:w.heap[b]? =some (.cells (aB c r i j).toArray 55 H)):
  ZG 227 #[iP a d g h,XL b] w (Ok λk w'=>k= .bool (aI a==aI c)/\ai w w'):=by
 refine nj (PA.mk λl P m f=>⟨_,_,ae f rfl,ae f rfl,_,_,ae (P.get e id) rfl,ae (P.get e id) rfl,IP.eql ⟨_,rfl,Ok.mk ⟨rfl,P⟩⟩⟩)
def GO(l:Row nN.iX 96 w E a n L)(v:∀P,E P->P<w.heap.size){m:Nat}{f:aj}{q r:Nat}(s:w.heap[m]? =some (.cells (aB f d q r).toArray 55 H)):
  ZG 226 #[.slice a n c,.func (.func 227) #[] #[XL m]] w (Ok λo w'=>o= .bool (L.any λP=>aI P.x==aI f)/\ai w w'):=by
 have x:=l.len;refine eC (PC.ok (xy (E:=E) kR (λg h=>(∀P∈L.take g,(aI P.x==aI f)=false)/\ai w h) (λg h=>(L.any λP=>aI P.x==aI f)=true/\ai w h) ⟨sM,ak.refl _⟩ (λg h i=>l.ah i.2) ?_) ?_)
 ·rintro g P h j ⟨k,b⟩
  refine(DZ (b.get s id)).mono ?_;rintro _ y ⟨o,rfl,rfl,p⟩;refine Ok.mk ?_
  cases i:aI P.x==aI f
  ·refine .inr ⟨rfl,λt e=>?_,b.then p⟩
   rw[Qw,j]at e;rcases Q6.1 e with e|e
   ·exact k t e
   ·simp at e;subst e;exact i
  ·exact .inl ⟨rfl,List.any_eq_true.2 ⟨P,QZ j,i⟩,b.then p⟩
 ·rintro _ z (⟨g,A,rfl,u,b⟩|⟨rfl,k,b⟩)
  ·exact⟨_,rfl,Ok.mk ⟨by rw[u,Zy oM],b⟩⟩
  ·refine⟨_,rfl,Ok.mk ⟨?_,b⟩⟩
   rw[Qz oM]at k;rw[List.any_eq_false.2 λP j=>by rw[k P j];simp]
   rfl
end
section
variable {w w':World} {p:Nat} {M D T E:XN} {most:Nat} {l:List aj} {a:ZH} {n c:Nat} {L:List (Bx aj)}
def od{e f:aj}{a i:ZH}{n c j k:Nat}{w:World}:ZG 229 #[iP e a n c,iP f i j k] w (Ok λl w'=>l= XH (qw e f)/\ai w w'):=by
 refine uf (PA.mk λu m v o=>PA.mk λp g x q=>λr s=>⟨λ_=>False,?_⟩);have P:ai p r:=s.af;have b:=P.get (g.get o id) id;have d:=P.get q id;refine⟨_,ae b rfl,_,ae d rfl,id,_,ae b rfl,id,_,ae d rfl,id,_,ae b rfl,id,_,ae d rfl,PC.ok fP ?_⟩;rintro _ _ ⟨rfl,rfl⟩;refine⟨_,rfl,ak.refl _,PC.ok fP ?_⟩;rintro _ _ ⟨rfl,rfl⟩;refine⟨_,rfl,ak.refl _,PC.ok fP ?_⟩;rintro _ _ ⟨rfl,rfl⟩;refine⟨_,rfl,ak.refl _,PA.mk λy h z t=>⟨h,PC.ok (LK t) ?_⟩⟩;rintro _ _ ⟨rfl,rfl⟩;exact⟨_,rfl,ak.refl _,Ok.mk ⟨by rw[D_],((m.then g).then P).then h⟩⟩
def AX{P a:aj}:qw P a<0↔dT P a=true:=by
 unfold qw
 cases dT P a
 ·cases dT a P<;>simp
 ·simp
def zS(x:Row nN.iX 96 w E a n L)(U:Qc (L.map (·.x))){i:aj}{C F:Nat}:
  ZG 228 #[.slice a n c,iP i d C F,.func (.func 229) #[] #[]] w (Ok λV w'=>∃P,V= .tuple #[XH ((posOf (λo=>dT o.x i) L:Nat):Int),.bool P]/\ai w w'):=by
 have hl:=x.len;have W:=x.dE;unfold aN at W;have N:∀{j k:Nat} {b l:Bx aj},L[j]? =some b->L[k]? =some l->j<=k->b=l\/dT b.x l.x=true:=λ{j k b l} m q b4=>by
  rcases Nat.lt_or_ge j k with h|h
  ·right
   have y:(L.map (·.x))[j]? =some b.x:=by rw[Q9,m];rfl
   have z:(L.map (·.x))[k]? =some l.x:=by rw[Q9,q];rfl
   obtain⟨X,Y⟩:=Qv.1 y;obtain⟨Z,e2⟩:=Qv.1 z;have:=List.pairwise_iff_getElem.1 U j k X Z h;rw[Y,e2]at this;exact this
  ·obtain rfl:j=k:=oM
   rw[m]at q;exact .inl (XJ q)
 refine cY (PA.mk λa4 O b5 Q=>⟨λR j k w'=>∃p e:Nat,j=p/\k=e/\R=e-p/\p<=e/\e<=n/\(∀P b,P<p->L[P]? =some b->dT b.x i=true)/\(∀P b,e<=P->L[P]? =some b->dT b.x i=false)/\ai a4 w',
  ⟨_,0,n,rfl,rfl,rfl,oM,oM,λP b g=>oM,λP b g m=>by have:=(Qv.1 m).1;omega,ak.refl _⟩,?_⟩)
 rintro R _ _ _ S ⟨p,e,rfl,rfl,rfl,b6,a5,y,z,s⟩;have t:enters XP 229=true:=kR
 refine an.dec (λb7 a6 a7=>?_) (λb8 a8 a9=>?_)
 ·have A:ai S a6:=a7.af
  have u:=(O.then s).then A;rw[Qa oM];have r:L[(p+e)/2]? =some L[(p+e)/2]:=Qq oM;generalize L[(p+e)/2]=f at r;obtain⟨o,H,es,I,b0,b1,J,rfl,-⟩:=(x.ah u).el _ f r;refine⟨o,H,I,oM,oM,bq (es:=aB f.x f.a f.n f.c) (k:=10) (aU _ _ _ _) rfl (λP g=>by rw[Qx];exact J P g) (au (aU i d C F) ((s.then A).get Q id) ⟨_,_,_,rfl,t,PC.ok od ?_⟩)⟩;rintro _ b2 ⟨rfl,B⟩;refine⟨_,rfl,an.dec (λK=>⟨_,?_,(p+e)/2+1,e,aq oM,rfl,rfl,oM,a5,λP l g q=>?_,z,(s.then A).then B⟩) (λK=>⟨_,?_,p,(p+e)/2,rfl,rfl,rfl,oM,oM,y,λP l g q=>?_,(s.then A).then B⟩)⟩
  ·omega
  ·have v:=AX.1 K
   rcases N q r oM with rfl|M
   ·exact v
   ·exact qX M v
  ·omega
  ·have v:¬dT f.x i=true:=λh=>K (AX.2 h)
   rcases N r q g with rfl|M
   ·simpa using v
   ·cases h4:dT l.x i
    ·rfl
    ·exact Zz (qX M h4) v
 ·obtain rfl:p=e:=oM
  have T:ai S a8:=a9.af;have u:=(O.then s).then T;have a3:posOf (λo=>dT o.x i) L=p:=xv oM (λP b g m=>y P b g m) (λb m=>z p b (Q4 _) m);rw[a3];refine an.dec (λb3=>?_) (λb3=>Ok.mk ⟨false,rfl,u⟩);have r:L[p]? =some L[p]:=Qq oM;generalize L[p]=f at r;obtain⟨o,H,es,I,b0,b1,J,rfl,-⟩:=(x.ah u).el _ f r;refine⟨o,H,I,oM,oM,bq (es:=aB f.x f.a f.n f.c) (k:=10) (aU _ _ _ _) rfl (λP g=>by rw[Qx];exact J P g) (au (aU i d C F) ((s.then T).get Q id) ⟨_,_,_,rfl,t,PC.ok od ?_⟩)⟩;rintro _ b2 ⟨rfl,B⟩;exact⟨_,rfl,Ok.mk ⟨_,rfl,u.then B⟩⟩
def Qd{f h:Nat}{x:Bx aj}(j:aO nN.iX 55 (λP=>aE a=some P) w a n c L)(k:f<=n)(l:w.heap[h]? =some (.cells (aB x.x x.a x.n x.c).toArray 55 (0,0)))(m:aE a≠some h)(r:L.length<=20000000):
  ZG 230 #[.slice a n c,XH (f:Int),.slice (XM h) 1 1] w (Ok λo w'=>∃d g,o= .slice d (n+1) g/\aO nN.iX 55 (λP=>aE d=some P) w' d (n+1) g (L.take f++x::L.drop f)/\ak (λP=>aE a=some P) w w'/\∀P,aE d=some P->aE a=some P\/w.heap.size<=P):=by
 refine fu (Eb.one (c:=nN.iX) (tb:=4) (x:=x) (D:=λ_=>False) ue kR ?_ j k l ⟨rfl,trivial⟩ (λP b=>b.elim) m ba (by unfold maxLen;omega) λd g w' s e p q=>Ok.mk ⟨d,g,rfl,aO.alone e,p,λP b=>?_⟩)
 ·intro i w
  rw[run_callFunc_extern Tryz.func285 kR kR kR (e:=Extern.SlicesOverlaps.overlaps #[50,50] #[4]) kR]
 ·rcases q P (e.self P b)with b|b|b
  ·exact .inl b
  ·exact b.elim
  ·exact .inr b
def Qe{b:Nat}(e:aO nN.iX 55 (λP=>aE a=some P) w a n c L)(f:b<n)(i:n<=20000000):
  ZG 236 #[.slice a n c,XH (b:Int),XH (XG .i64 ((b:Int)+1))] w (Ok λg w'=>g= .slice a (n-1) c/\aO nN.iX 55 (λP=>aE a=some P) w' a (n-1) c (L.eraseIdx b)/\ak (λP=>aE a=some P) w w'):=
 fv (Ec.one (c:=nN.iX) (tz:=0) ue kR e f (by unfold maxLen;omega) λw' d h=>Ok.mk ⟨rfl,d,h⟩)
def GP(f:fO w p M D most l){e:aj}{en ec:Nat}(O:Row aJ 8 w E d en e.aK)(hE:∀P,E P->P<w.heap.size)(he:e.Ok):
  ZG 159 #[XL p,iP e d en ec] w (Ok λQ w'=>Q= .bool (dy most l e).1/\∃o q,fO w' p o q most (dy most l e).2/\ak M w w'/\(∀P,o P->M P\/w.heap.size<=P)/\∀P,q P->D P\/w.heap.size<=P):=by
 have b3:=f;obtain⟨B,a,n,c,L,f⟩:=f;have d7:L.length=l.length:=by rw[<-f.map,Q8]
 have hn:n=L.length:=f.mV.len dC;have d8:=f.dM p f.mp;have d9:=B.2.le;have j:(L.any λP=>aI P.x==aI e)=l.any (λi=>aI i==aI e):=by rw[<-f.map,List.any_map];rfl
 refine pS (PA.mk λc5 b4 e0 b5=>λR c6=>⟨λ_=>False,?_⟩);have S:ai c5 R:=c6.af;have m:ai w R:=b4.then S;have T:=m.get f.at' id;have no:(dy most l e)=(false,l)->∀U,ai w U->Ok (λQ w'=>Q= .bool (dy most l e).1/\∃o q,fO w' p o q most (dy most l e).2/\ak M w w'/\(∀P,o P->M P\/w.heap.size<=P)/\∀P,q P->D P\/w.heap.size<=P) (.returned (.bool false)) U:=λhq U k1=>
  Ok.mk ⟨by rw[hq],M,D,by rw[hq];exact b3.ah k1,ai.af k1,λP b=>.inl b,λP b=>.inl b⟩
 refine⟨p,0,rfl,_,_,_,ae T rfl,p,0,rfl,_,ae T rfl,an.dec (λe1=>no (by unfold dy;rw[Zx (.inl oM)]) R m) (λe2=>⟨p,0,rfl,id,_,_,_,ae T rfl,ak.refl _,PC.ok (GO (E:=λP=>aE a=some P) (((f.mV.ah m).row (bytes:=96) dC ba)) (λP b=>by have:=(f.mV.aC P b);have:=m.size;omega) (S.get b5 id)) ?_⟩)⟩;rintro _ b6 ⟨rfl,C⟩;refine⟨_,rfl,C,an.mk (λr=>no (by unfold dy;rw[Zx (.inr (j▸r))]) b6 (m.then C)) (λr=>?_)⟩;have F:=m.then C;have b7:dy most l e=(true,cZ e l):=by unfold dy;rw[Zq (by rw[<-j];rintro(g|g);omega;rw[r]at g;cases g)]
 have c7:∀i∈l,aI i≠aI e:=by
  rw[j]at r;simpa[List.any_eq_false]using r
 have V:=(S.then C).get b5 id;refine⟨_,_,_,ae V rfl,PC.ok (cm (O.ah F) λP b=>by have:=hE P b;have:=F.size;omega) ?_⟩;rintro _ b8 ⟨H,I,J,G,rfl,W,X,Y⟩;have e3:=F.size;have e4:=X.size;refine⟨_,_,_,rfl,PS.mk (X.get V id) (by simp[aB]) λZ a9 e5 c8=>λK b9=>?_⟩;have s:ai Z K:=b9.af;have e6:K.heap.size=Z.heap.size:=by rw[b9.heap]
 have a0:Z.heap[w.heap.size]? =some (.cells (aB e H I J).toArray 55 (0,0)):=c8;have a1:ai w K:=((F.then X).new a9 λP b=>.inr (by have b:P=w.heap.size:=b;omega)).then s;have b0:=f.af a1 (λ_ _ f=>f) λ_ _ f=>f;have c0:Qc (L.map (·.x)):=by rw[f.map];exact B.2.LL
 refine⟨p,0,rfl,_,_,_,ae b0.at' rfl,au (aU e H I J) (s.get a0 id) (PC.ok (zS (b0.mV.row (bytes:=96) dC ba) c0) ?_)⟩;rintro _ e7 ⟨a4,rfl,c9⟩;refine⟨_,_,rfl,λd0 d1=>⟨λ_=>False,?_⟩⟩;have t:ai K d0:=c9.then d1.af;have a2:=a1.then t;have c1:=b0.af t (λ_ _ f=>f) λ_ _ f=>f;have h:=t.get (s.get a0 id) id;have d6:=xu (λP:Bx aj=>dT P.x e) L;refine⟨p,0,rfl,id,_,_,_,ae c1.at' rfl,_,_,_,_,_,_,_,_,_,_,_,_,ae h rfl,ae h rfl,ae h rfl,ae h rfl,ae h rfl,ae h rfl,ae h rfl,ae h rfl,ae h rfl,ae h rfl,PA.mk λd2 u e8 d3=>⟨u,?_⟩⟩;have c3:=c1.af u (λ_ _ f=>f) λ_ _ f=>f;have e9:=a2.size;refine PC.ok (Qd (x:=⟨e,H,I,J⟩) c3.mV oM d3 (λe=>by have:=f.mV.aC _ e;omega) oM) ?_;rintro _ f2 ⟨a',c',rfl,a3,v,x⟩;have b1:¬aE a=some p:=λe=>(f.ma p e).2 rfl;have f4:=v.size;refine⟨_,_,_,rfl,p,0,rfl,PS.mk (v.get c3.at' b1) sM λd4 N f5 d5=>?_⟩;have y:ak M w d4:=((ai.af (a2.then u)).then (v.mono λP _ b=>(f.ma P b).1)).then (N.mono λP _ e=>by have e:P=p:=e;exact e▸f.mp);refine Ok.mk ⟨by rw[b7],λP=>M P\/aE a'=some P,λP=>D P\/G P,⟨⟨B.1,B.2.add he⟩,a',n+1,c',L.take (posOf (λP=>dT P.x e) L)++⟨e,H,I,J⟩::L.drop (posOf (λP=>dT P.x e) L),d5,?_,?_,?_,?_,.inl f.mp,?_,?_⟩,?_,?_,?_⟩
 ·refine a3.af N λP b e=>?_
  have e:P=p:=e;rcases x P b with g|g
  ·exact b1 (e▸g)
  ·omega
 ·rw[b7]
  have c4:posOf (λi=>dT i e) l=posOf (λP:Bx aj=>dT P.x e) L:=by
   unfold posOf;rw[<-f.map,List.takeWhile_map,Q8];rfl
  show _=cZ e l;rw[AY c7,c4,Q3,QY,List.map_take,List.map_drop,f.map]
 ·have b2:∀P,G P->b6.heap.size<=P/\P<b8.heap.size:=λP b=>⟨Y P b,W.aC P b⟩
  intro i k;rcases Q6.1 k with k|k
  ·exact((f.JT i (List.mem_of_mem_take k)).af y λP b=>(f.dD P b).2).mono λP b=>.inl b
  rcases Q2.1 k with rfl|k
  ·refine⟨(((((W.af a9 λP b e=>?_).ah s).ah (t.then u)).af v λP b e=>?_).af N λP b e=>?_).row (bytes:=8) dC (by rw[<-O.len];exact O.dE)|>.mono λP b=>.inr b,he⟩
   ·have e:P=w.heap.size:=e;have:=b2 P b;have:=ay V;omega
   ·have:=f.mV.aC P e;have:=b2 P b;omega
   ·have e:P=p:=e;have:=b2 P b;omega
  ·exact((f.JT i (List.mem_of_mem_drop k)).af y λP b=>(f.dD P b).2).mono λP b=>.inl b
 ·intro P b
  have hz:b8.heap.size<=d2.heap.size:=by have:=a9.size;have:=s.size;have:=t.size;have:=u.size;omega
  rcases b with b|b
  ·have g:=f.dD P b
   refine⟨by have:=y.size;omega,λz=>z.elim g.2 λe=>?_⟩;rcases x P e with A|A
   ·exact g.2 (f.ma P A).1
   ·omega
  ·have g:=W.aC P b;have h3:=Y P b
   have f6:=b4.size;refine⟨by have:=v.size;have:=N.size;omega,λz=>?_⟩;rcases z with z|e
   ·have:=f.dM P z;omega
   rcases x P e with A|A
   ·have:=f.mV.aC P A;omega
   ·omega
 ·intro P b
  refine⟨.inr b,λe=>?_⟩;rcases x P b with g|g
  ·exact b1 (e▸g)
  ·omega
 ·intro P b
  rcases b with b|b
  ·have:=f.dM P b;have:=y.size;omega
  ·have:=a3.aC P b;omega
 ·exact y
 ·intro P b
  rcases b with b|b
  ·exact .inl b
  rcases x P b with g|g
  ·exact .inl (f.ma P g).1
  ·exact .inr oM
 ·intro P b
  rcases b with b|b
  ·exact .inl b
  ·exact .inr (by have:=Y P b;omega)
end
end Go.Proofs.YtblabbpipmodgaaGreatDoor
namespace Go.aw
open Go
variable{J a c i q:Nat}{f:XN}{d:ZH}{h:Program}{j:Type}{g p:TypeId}{b:World}
def aO.NR{k:Nat}{P:j->List Value}{n:j->Prop}{hl h1}{e:List j}{x:j}{s:XU}(l:aO (flat k P n hl h1) p f b d a c e)(z:J<e.length)(A:0<k)(B:n x)(C:d=some ⟨i,q,none⟩)(E:im h g (P x)=true)(o:∀m,aO (flat k P n hl h1) p f m d a c (e.set J x)->ak (λi=>aE d=some i) b m->m.heap.size=b.heap.size->s m):vm h g (.pointer (some ⟨i,q+J*k,none⟩)) (.agg (P x).toArray) b s:=by
 have L:=l.len A;obtain⟨cs,D,t,F,u⟩:=l.body;have M:cs.length=a*k:=t.length;have N:(J+1)*k<=a*k:=Q0 _ oM;have H:(J+1)*k=J*k+k:=by rw[X7,Nat.one_mul]
 refine t.store (m:=J*k) C E (by rw[hl];omega) λI K v w=>o I ⟨⟨_,D,K,?_,u⟩,l.self,λi r=>by rw[w];exact l.aC i r⟩ v w;have y:=F.af v λi r=>(u i r).2;rw[hl,<-H,show e.set J x=e.take J++[x]++e.drop (J+1) by rw[XQ,List.singleton_append];exact List.set_eq_take_append_cons_drop .. |>.trans (Zx z)];exact bA.append (bA.append (y.take J) (bA.one ⟨rfl,B⟩)) (y.drop (J+1))
end Go.aw
namespace Go.Proofs.YtblabbpipmodgaaGreatDoor
section
open Go.aw
variable{y:FuncId}{a6 f:XN}{d:ZH}{A:ar}
section
variable {w w':World} {p:Nat} {M D T E:XN} {most:Nat} {l:List aj} {a:ZH} {n c:Nat} {L:List (Bx aj)}
def JU{F H:Array Value}{pr:aj->Bool}(I:enters XP y=true)(m:aO nN.iX 55 (λP=>aE a=some P) w a n c L)(hl:L.length<=20000000)(J:∀(P:Bx aj) e,ak (λP=>aE a=some P) w e->ZG y (F++ #[iP P.x P.a P.n P.c]++H) e (Ok λr w'=>r= .bool (pr P.x)/\ai e w')):
  ZG 233 #[.slice a n c,.func (.func y) F H] w (Ok λr w'=>∃o,r= .slice a o c/\aO nN.iX 55 (λP=>aE a=some P) w' a o c (L.filter λP=>!pr P.x)/\ak (λP=>aE a=some P) w w'):=by
 have hn:=m.len dC;have b6:=m.iG;have p:∀{e:World} {f:List (Bx aj)},aO nN.iX 55 (λP=>aE a=some P) e a n c f->f.length=L.length->Row nN.iX 96 e (λP=>aE a=some P) a n f:=λ{e f} Z b7=>Z.row dC ba;refine eR (PC.ok (xy (E:=λP=>aE a=some P) (L:=L) I (λd e=>(∀P∈L.take d,pr P.x=false)/\ai w e) (λd e=>(∀P∈L.take d,pr P.x=false)/\(∀P,L[d]? =some P->pr P.x=true)/\ai w e) ⟨sM,ak.refl _⟩ (λd e h1=>(p m rfl).ah h1.2) ?_) ?_)
 ·rintro d P e h ⟨i,z⟩
  refine(J P e (ai.af z)).mono ?_;rintro _ w2 ⟨r,rfl,rfl,K⟩;refine Ok.mk ?_
  cases M:pr P.x
  ·refine .inr ⟨rfl,λN g=>?_,z.then K⟩
   rw[Qw,h]at g;rcases Q6.1 g with g|g
   ·exact i N g
   ·simp at g;subst g;exact M
  ·exact .inl ⟨rfl,i,λN g=>by rw[h]at g;cases g;exact M,z.then K⟩
 rintro _ w4 (⟨k,b8,rfl,i,a0,q⟩|⟨rfl,i,q⟩)
 rotate_left
 ·refine⟨_,rfl,an.tt sM (Ok.mk ⟨n,rfl,?_,ai.af q⟩)⟩
  rw[Qz oM]at i;rw[List.filter_eq_self.2 λP h=>by rw[i P h];rfl];exact m.ah q
 have O:L[k]? =some L[k]:=Qq oM;have a8:(L.take (k+1)).filter (λP=>!pr P.x)=L.take k:=by
  rw[Qw,O,List.filter_append,List.filter_eq_self.2 λP h=>by rw[i P h];rfl];simp[a0 _ O]
 refine⟨_,rfl,an.ff sM ⟨λo l d w'=>∃(A j:Nat) (f:List (Bx aj)),l=A/\d=j/\A<j/\j<=n/\o=n-j/\aO nN.iX 55 (λP=>aE a=some P) w' a n c f/\f.length=L.length/\f.take A=(L.take j).filter (λP=>!pr P.x)/\f.drop j=L.drop j/\ak (λP=>aE a=some P) w w',
  ⟨_,k,k+1,L,rfl,aq oM,oM,oM,rfl,m.ah q,rfl,a8.symm,rfl,ai.af q⟩,?_⟩⟩
 rintro o _ _ _ Q ⟨l,d,f,rfl,rfl,b9,c0,rfl,s,B,t,R,u⟩;refine an.dec (λc1=>?_) (λc2=>?_)
 ·have v:L[d]? =some L[d]:=Qq oM
  have S:f[d]? =some L[d]:=by
   have:=Zj (·[0]?) R;simp only[List.getElem?_drop,Nat.add_zero]at this;rw[this,v]
  have T:f.drop (d+1)=L.drop (d+1):=by
   have:=Zj (List.drop 1) R
   rwa [List.drop_drop,List.drop_drop]at this
  generalize L[d]=b at v S;obtain⟨P,U,es,C,c3,c4,a9,rfl,-⟩:=(p s B).el d b S;refine⟨P,U,C,oM,oM,bq (es:=aB b.x b.a b.n b.c) (k:=10) (aU _ _ _ _) rfl (λa1 ht=>by rw[Qx];exact a9 a1 ht) (PA.mk λc5 b0 c6 b1=>aA (aU b.x b.a b.n b.c) b1 rfl λV b2 c7 W=>au (aU b.x b.a b.n b.c) W ⟨_,_,_,rfl,I,?_⟩)⟩;have X:ai Q V:=b0.new b2 λP h=>.inr (by have h:P=Q.heap.size:=h;omega);refine PC.ok (J b V (u.ah X)) ?_;rintro _ c8 ⟨rfl,Y⟩;have x:=X.then Y;refine⟨_,rfl,an.not (an.mk (λE=>⟨_,?_,l,d+1,f,rfl,aq oM,oM,oM,rfl,s.ah x,B,?_,T,u.ah x⟩) (λE=>?_))⟩
  ·omega
  ·rw[t,Qw,v,List.filter_append]
   simp[E]
  ·refine au (aU b.x b.a b.n b.c) (Y.get W id) ⟨P,U,C,oM,oM,?_⟩
   rw[Qx];refine aO.NR (x:=b) (k:=10) (s.ah x) oM dC trivial C (aU b.x b.a b.n b.c) λc9 a7 b3 d0=>⟨_,?_,l+1,d+1,f.set l b,aq oM,aq oM,oM,oM,rfl,a7,by simpa using B,?_,?_,(u.ah x).then b3⟩
   ·omega
   ·rw[Qw (l:=L),v,List.filter_append,<-t,Qw,List.getElem?_set_self oM,List.take_set_of_le (Q4 _)]
    simp[E]
   ·rw[List.drop_set_of_lt oM,T]
 ·obtain rfl:d=n:=oM
  rw[Qz (l:=L) oM]at t;refine⟨oM,oM,?_⟩;rw[Qx];refine xp ue kR s oM λd1 b4 b5 d2=>⟨oM,oM,Ok.mk ⟨l,rfl,?_,u.then b5⟩⟩
  rw[<-t];exact b4
def JV{b c:Nat}(l:cu w b f A)(m:w.heap[c]? =some (.cells #[XL b] 96 (0,0))){a:aj}{n o:Nat}:
  ZG 231 #[iP a d n o,XL c] w (Ok λp w'=>p= .bool (A.get (aI a)).isSome/\ai w w'):=by
 refine lf (PA.mk λv P x e=>⟨_,ae (P.get m id) rfl,_,_,ae e rfl,ae e rfl,PC.ok (NS (l.ah P) (aI a)) ?_⟩);rintro _ q ⟨g,h,i,G,rfl,y,z,j⟩;exact bN (pT _ g h i) ⟨_,rfl,PA.mk λB r C s=>aA (aU _ g h i) s rfl λE t F H=>Ok.mk ⟨rfl,((P.then j).then r).new t λu k=>.inr (by have k:u=q.heap.size:=k;have:=P.size;have:=j.size;omega)⟩⟩
def JW{g i:Nat}(m:cu w g f A)(n:w.heap[i]? =some (.cells #[XL g] 96 (0,0))){a:aj}{h j:Nat}(o:Row aJ 8 w a6 d h a.aK)(k:∀P,a6 P->P<w.heap.size/\¬f P)(p:a.Ok)(t:A.l.length<=20000000):
  ZG 234 #[iP a d h j,XL i] w (Ok λq w'=>q= .bool (decide ((A.add a).1=0))/\∃c,cu w' g c (A.add a).2/\du f w c w'):=by
 refine lg (PA.mk λu b v r=>⟨_,ae (b.get n id) rfl,au (aU a d h j) r (PC.ok (si (m.ah b) (o.ah b) (λP e=>⟨by have:=(k P e).1;omega,(k P e).2⟩) p oM) ?_)⟩);rintro _ x ⟨rfl,c,s,l⟩;have:=b.size;exact⟨_,rfl,Ok.mk ⟨by congr 1,c,s,(ai.af b).then l.af,λP e=>(l.new P e).imp id oM⟩⟩
end
end
section
open Go.aw
variable{f:XN}{d:ZH}{b:World}{A:ar}
section
variable {w w':World} {p:Nat} {M D E:XN} {most:Nat} {l:List aj} {a:ZH} {n c:Nat} {L:List (Bx aj)}
structure NL (w:World) (p:Nat) (M:XN) (most:Nat) (a:ZH) (c s tb:Nat) (T:ar) (nc:Nat) (Lc:List (Bx aj)) (oa:ZH) (on oc:Nat) (Lo:List (Bx aj)) (w1:World):Prop where
 set:∃F1,cu w1 s F1 T/\(∀b,F1 b->w.heap.size<=b/\b≠tb)/\∀b,aE oa=some b->w.heap.size<=b/\¬F1 b/\b≠tb
 ptr:w1.heap[tb]? =some (.cells #[XL s] 96 (0,0))
 buf:w1.heap[p]? =some (.cells #[XH (most:Int),.slice a nc c] 146 (0,0))
 mV:aO nN.iX 55 (λb=>aE a=some b) w1 a nc c Lc
 out:aO nN.iX 55 (λb=>aE oa=some b) w1 oa on oc Lo
 af:ak M w w1
def vo(i:LJ w p M D most l a n c L){r k:Nat}{j:Nat}{g:List (Bx aj)}{s t:Nat}{u:List (Bx aj)}(I:NL w p M most a c r k A j g d s t u b)(O:∀P∈g,P∈L)(R:A.l.length<=20000000)(a6:g.length<=20000000):
  ZG 235 #[.slice a j c,.func (.func 234) #[] #[XL k]] b (Ok λB w'=>
   (B= XH (-1)/\(∀P∈g,(A.add P.x).1≠0)/\NL w p M most a c r k A j g d s t u w')\/
   (∃h P,h<j/\B= XH (h:Int)/\g[h]? =some P/\(∀x∈g.take h,(A.add x.x).1≠0)/\(A.add P.x).1=0/\NL w p M most a c r k (A.add P.x).2 j g d s t u w')):=by
 have S:=i.dM p i.mp;have a7:=I.mV.len dC;have T:∀P,aE a=some P->P<w.heap.size:=λP e=>i.dM P (i.ma P e).1;refine(xy (E:=λP=>aE a=some P) (L:=g) kR (λh m=>(∀P∈g.take h,(A.add P.x).1≠0)/\NL w p M most a c r k A j g d s t u m) (λh m=>∃P,g[h]? =some P/\(∀x∈g.take h,(A.add x.x).1≠0)/\(A.add P.x).1=0/\NL w p M most a c r k (A.add P.x).2 j g d s t u m) ⟨sM,I⟩
  (λh m f=>f.2.mV.row dC ba) ?_).mono ?_
 ·rintro h P m e ⟨J,f⟩
  obtain⟨U,V,y,C⟩:=f.set;have K:=(i.JT P (O P (QZ e))).af f.af λP e=>(i.dD P e).2;have z2:=f.af.size;refine(JW V f.ptr K.1 (λP e=>⟨by have:=(i.dD P e).1;omega,λo=>by have:=(i.dD P e).1;have:=(y P o).1;omega⟩) K.2 R).mono ?_;rintro _ W ⟨B,rfl,rfl,X,Y,q⟩;have N:∀P,P<w.heap.size->¬U P:=λP e o=>by have:=(y P o).1;omega
  have Z:=ay f.ptr;have F:∀P,aE d=some P->P<m.heap.size:=λP e=>f.out.aC P e;have H:NL w p M most a c r k (A.add P.x).2 j g d s t u W:=⟨⟨X,Y,λP e=>(q.new P e).elim (y P) λz=>⟨oM,oM⟩,λP e=>⟨(C P e).1,λo=>(q.new P o).elim (C P e).2.1 λz=>by have:=F P e;omega,(C P e).2.2⟩⟩,
   q.af.get f.ptr λo=>(y _ o).2 rfl,q.af.get f.buf (N p S),f.mV.af q.af λP e=>N P (T P e),f.out.af q.af λP e=>(C P e).2.1,f.af.new q.af λP e=>.inr (y P e).1⟩
  refine Ok.mk ?_
  by_cases v:(A.add P.x).1=0
  ·exact .inl ⟨by rw[Zy v],P,e,J,v,H⟩
  ·refine .inr ⟨by rw[Xv v],λx Q=>?_,?_⟩
   ·rw[Qw,e]at Q
    rcases Q6.1 Q with Q|Q
    ·exact J x Q
    ·simp at Q;subst Q;exact v
   ·rcases A.fQ P.x with⟨-,z⟩|⟨z,-⟩
    ·rw[z]at H;exact H
    ·rw[z]at v;exact Zz rfl v
 ·rintro _ m ⟨B,rfl,hv⟩
  rcases hv with⟨h,hj,rfl,P,E,f,h3,h4⟩|⟨rfl,E,f⟩
  ·exact Ok.mk (.inr ⟨h,P,hj,rfl,E,f,h3,h4⟩)
  ·rw[Qz oM]at E
   exact Ok.mk (.inl ⟨rfl,E,f⟩)
def Ca(d7:fO w p M D most l){b3:Nat}(hs:cu w b3 f A)(g2:A.Cl)(k1:A.l.length<=19000000):
  ZG 160 #[XL p,XL b3] w (Ok λd9 w'=>∃q z E k,d9= .slice q z E/\aO nN.iX 55 (λP=>aE q=some P) w' q z E k/\k.map (·.x)=(bl A l).1/\(∀P∈k,nN.In w' D P)/\(∀P,aE q=some P->w.heap.size<=P)/\
   fO w' p M D most (bl A l).2/\ak M w w'):=by
 obtain⟨W,a,n,c,L,g⟩:=d7;have g3:=g.dM p g.mp;have X:∀P,aE a=some P->P<w.heap.size:=λP b=>g.dM P (g.ma P b).1;have k2:L.length=l.length:=by rw[<-g.map,Q8]
 have h2:l.length<=256:=Xx W.2.le W.1;have hN:=hs.1.n;refine nk (PC.ok (jV hs) ?_);rintro _ w4 ⟨va,vn,vc,Fv,rfl,g5,k4,k3⟩;have d1:=g5.len dC;rw[A.bJ]at d1;subst d1;refine⟨_,_,_,rfl,PC.ok (Cb hN) ?_⟩;rintro _ B ⟨F,F2,rfl,d2,d3,k7⟩;have z4:=k4.size;have z7:=k7.size;refine⟨_,rfl,PA.mk λw9 k9 s9 g9=>PS.mk g9 sM λg6 g7 k5 g8=>?_⟩;have a1:ai B g6:=k9.new g7 λP b=>.inr (by have b:P=B.heap.size:=b;omega);have b4:=(k4.then k7).then a1;have Y:=d2.aC;refine PC.ok (sj (hs.ah b4) oM) ?_;rintro _ Z ⟨ea,en,ec,G,rfl,b9,a6,hG⟩;have k6:=b9.len dC;have k8:=a1.size;have l0:=a6.size;have e6:Row gO 96 Z G ea en A.l:=b9.row dC ba;have h4:Z.heap[B.heap.size]? =some (.cells #[XL F] 96 (0,0)):=a6.get g8 id;have d5:=b9.aC;refine⟨_,_,_,rfl,λR a2 w'=>∃(e:Nat) (S:XN),a2=e/\e<=en/\R=en-e/\cu w' F S ((⟨A.n,[]⟩:ar).eV (A.l.take e))/\(∀P,S P->F2 P\/Z.heap.size<=P)/\ak F2 Z w',⟨_,0,F2,rfl,Qj _,rfl,d2.ah (a1.then a6),λP b=>.inl b,ak.refl _⟩,?_⟩;rintro R _ _ a7 ⟨e,S,rfl,hj,rfl,a8,a9,T⟩;have l3:=T.size;have c0:=T.get h4 λH=>by have:=Y _ H;omega
 refine an.dec (λl4=>?_) (λl5=>?_)
 ·have K:A.l[e]? =some A.l[e]:=Qq oM
  generalize A.l[e]=N at K;have e7:=e6.af T λP b H=>by have:=Y _ H;have:=hG P b;omega
  obtain⟨P,f0,es,ha,l6,l7,c1,xa,xn,xc,rfl,h6,f1⟩:=e7.el e N K;refine⟨P,f0,ha,oM,oM,bq (es:=aB N xa xn xc) (k:=10) (aU _ _ _ _) rfl (λa2 ht=>by rw[Qx];exact c1 a2 ht) (PA.mk λl8 h7 l9 h8=>aA (aU N xa xn xc) h8 rfl λh9 i1 m1 i3=>?_)⟩;have O:ai a7 h9:=h7.new i1 λP b=>.inr (by have b:P=a7.heap.size:=b;omega);have c2:=ar.lj (A.l.take e) ⟨A.n,[]⟩;rw[Qy]at c2;simp only[ZQ]at c2;refine⟨_,ae (O.get c0 id) rfl,au (aU N xa xn xc) i3 (PC.ok (si (a8.ah O) (h6.ah O) (λP b=>⟨by have:=d5 P b;have:=O.size;omega,λH=>?_⟩) f1 oM) ?_)⟩
  ·rcases a9 P H with j|j
   ·have:=Y _ j;have:=hG P b;omega
   ·have:=d5 P b;omega
  rintro _ i4 ⟨rfl,F3,i5,d8⟩;refine⟨_,rfl,_,oM,e+1,F3,aq oM,oM,rfl,?_,λP b=>?_,?_⟩
  ·rw[Qw,K]
   show cu i4 F F3 (ar.eV _ (A.l.take e++[N]));rw[ar.lk];exact i5
  ·rcases d8.new P b with j|j
   ·exact a9 P j
   ·have:=O.size;exact .inr oM
  ·exact(T.ah O).new d8.af λP b=>a9 P b
 rw[Qz oM,g2.RA]at a8;have b5:ai w a7:=(b4.then a6).new T λP b=>.inr (by have:=d3 P b;omega);have c3:=g.af b5 (λ_ _ g=>g) λ_ _ g=>g;have s:∀P,S P->w.heap.size<=P/\P≠B.heap.size:=λP b=>by
  rcases a9 P b with j|j
  ·have:=d3 P j;have:=Y P j;omega
  ·omega
 refine⟨p,0,rfl,_,_,_,ae c3.at' rfl,PC.ok (JU (pr:=λd=>(A.get (aI d)).isSome) kR c3.mV oM λP w1 hk=>?_) ?_⟩
 ·refine JV (a8.af hk λP b d=>?_) (hk.get c0 λd=>?_)
  ·have:=X P d;have:=(s P b).1;omega
  ·have:=X _ d;omega
 rintro _ m2 ⟨m0,rfl,f3,e0⟩;have b0:¬aE a=some p:=λd=>(g.ma p d).2 rfl;refine⟨_,_,_,rfl,p,0,rfl,PS.mk (e0.get c3.at' b0) sM λe1 e2 m3 e3=>⟨p,0,rfl,_,_,_,ae e3 rfl,?_⟩⟩;obtain⟨t,y⟩:∃t,t=L.filter λP=>!(A.get (aI P.x)).isSome:=⟨_,rfl⟩
 have a3:ak (λP=>aE a=some P\/P=p) a7 e1:=(e0.mono λP _ b=>.inl b).then (e2.mono λP _ b=>.inr b);have SC:∀P,aE a=some P\/P=p->P<w.heap.size:=λP b=>b.elim (X P) λd=>d▸g3;have e4:NL w p M most a c F B.heap.size A m0 t none 0 0 [] e1:=by
  refine⟨⟨S,a8.af a3 λP b d=>by have:=SC P d;have:=(s P b).1;omega,s,λP b=>by cases b⟩,a3.get c0 λd=>by have:=SC _ d;omega,e3,?_,(aO.nil _).mono (λP b=>b.elim) λP b=>(by cases b),?_⟩
  ·rw[y];exact f3.af e2 λP b d=>b0 (by have d:P=p:=d;rw[<-d];exact b)
  ·exact(ai.af b5).then (a3.mono λP _ b=>b.elim (λd=>(g.ma P d).1) λd=>d▸g.mp)
 have b6:∀P∈t,P∈L:=λP b=>by rw[y]at b;exact(List.mem_filter.1 b).1
 have a4:t.map (·.x)=l.filter λd=>(A.get (aI d)).isNone:=by
  rw[y,<-g.map,List.filter_map]
  congr 1
  refine List.filter_congr λP b=>?_;show(!(A.get (aI P.x)).isSome)=(A.get (aI P.x)).isNone
  cases A.get (aI P.x)<;>rfl
 have b7:t.length<=L.length:=by rw[y];exact List.length_filter_le ..
 refine PC.ok (vo g e4 b6 oM oM) ?_;rintro i6 m4 b8;obtain⟨i0,i7⟩:∃u:Int,i6= XH u:=by
  rcases b8 with⟨m,-⟩|⟨e,P,-,m,-⟩
  ·exact⟨_,m⟩
  ·exact⟨_,m⟩
 subst i7;refine⟨_,rfl,λR q z E u w'=>∃(r:ar) (h k:List (Bx aj)) (C U:Nat),R=h.length/\(∀P∈h,P∈L)/\(∀P∈k,P∈L)/\(h.map (·.x)).Sublist l/\h.length<=U/\r.l.length+h.length<=A.l.length+L.length/\h.length<=L.length/\k.length+h.length<=L.length/\C=h.length/\
   dh (U+1) r (h.map (·.x)) (k.map (·.x))=bl A l/\
   ((u= -1/\(∀P∈h,(r.add P.x).1≠0)/\NL w p M most a c F B.heap.size r C h q z E k w')\/
    (∃e P,e<C/\u=(e:Int)/\h[e]? =some P/\(∀v∈h.take e,(r.add v.x).1≠0)/\(r.add P.x).1=0/\NL w p M most a c F B.heap.size (r.add P.x).2 C h q z E k w')),?_,?_⟩
 ·have i8:=e4.mV.len dC
  refine⟨_,A,t,[],m0,t.length,rfl,b6,sM,by rw[a4];exact List.filter_sublist,Q4 _,oM,b7,by simpa using b7,i8,?_,?_⟩
  ·rw[a4]
   show dh (t.length+1) A _ []=_;unfold bl;rw[<-a4];show _=dh ((t.map (·.x)).length+1) A _ [];rw[Q8]
  ·rcases b8 with⟨m,I,J⟩|⟨e,P,m,I,J⟩
   ·exact .inl ⟨by simpa using m,I,J⟩
   ·exact .inr ⟨e,P,m,by simpa using I,J⟩
 rintro R q z E u _ i9 ⟨r,h,k,C,U,rfl,a5,c5,e5,hk,m5,j9,k0,m6,c6,j0⟩;rcases j0 with⟨rfl,c4,i⟩|⟨e,P,hj,rfl,b,c4,f6,i⟩
 ·refine an.ff sM (Ok.mk ⟨q,z,E,k,rfl,i.out,?_,λP b=>(g.JT P (c5 P b)).af i.af λP b=>(g.dD P b).2,λP b=>by obtain⟨F1,-,-,j⟩:=i.set;exact(j P b).1,⟨⟨W.1,?_⟩,a,C,c,h,i.buf,i.mV,?_,λP b=>(g.JT P (a5 P b)).af i.af λP b=>(g.dD P b).2,λP b=>⟨by have:=(g.dD P b).1;have:=i.af.size;omega,(g.dD P b).2⟩,g.mp,g.ma,λP b=>by have:=g.dM P b;have:=i.af.size;omega⟩,i.af⟩)
  all_goals
   have f8:bl A l=(k.map (·.x),h.map (·.x)):=by
    rw[<-c6];unfold dh;rw[qx λd he=>by obtain⟨P,b,rfl⟩:=Xk.1 he;exact c4 P b]
   rw[f8]
  exact W.2.sub e5
 ·have j1:e<h.length:=oM
  have m7:=i;obtain⟨F1,e8,e9,b1⟩:=i.set;have m8:=i.af.size;have c2:=r.wW P.x;obtain⟨gb,go,es,ha,m9,n0,c1,rfl,-⟩:=(i.mV.row (bytes:=96) dC ba).el e P b;have d:=λu (hi:u<10)=>c1 u hi;refine an.dec (λ_=>⟨p,0,rfl,_,_,_,ae i.buf rfl,gb,go,ha,oM,oM,_,_,_,_,_,_,_,_,_,_,_,_,d 0 dC,d 1 dC,d 2 dC,d 3 dC,d 4 dC,d 5 dC,d 6 dC,d 7 dC,d 8 dC,d 9 dC,PA.mk λj2 f2 n1 j3=>?_⟩) (λhn=>oM);have n2:=i.out.len dC;refine dU (c:=nN.iX) (x:=P) (D:=λ_=>False) (i.out.ah f2) ue j3 ⟨rfl,trivial⟩ (λP b=>b.elim) ba (by unfold maxLen;omega) λV b2 f4 Fo c9 j4 j5=>⟨_,_,_,rfl,p,0,rfl,?_⟩
  have f9:=c9.alone;have d0:∀P,aE V=some P->aE q=some P\/j2.heap.size<=P:=λP b=>(j5 P (c9.self P b)).imp id λg=>g.resolve_left id;have o:∀P,aE q=some P->w.heap.size<=P:=λP b=>(b1 P b).1;have Q:ak (λP=>aE q=some P) i9 f4:=(ai.af f2).then j4;have f5:=Q.get i.buf λd=>by have:=o _ d;omega
  have g4:=i.mV.af Q λP b d=>by have:=o _ d;have:=X P b;omega
  have n3:=Q.size;refine⟨_,_,_,ae f5 rfl,PC.ok (Qe g4 hj oM) ?_⟩;rintro _ n4 ⟨rfl,h0,c7⟩;have n8:=c7.size;refine⟨_,_,_,rfl,p,0,rfl,PS.mk (c7.get f5 b0) sM λf7 g0 n9 g1=>⟨p,0,rfl,_,_,_,ae g1 rfl,?_⟩⟩;have o0:(h.eraseIdx e).length=h.length-1:=List.length_eraseIdx_of_lt j1;have a0:ak (λP=>aE a=some P\/P=p) f4 f7:=(c7.mono λP _ b=>.inl b).then (g0.mono λP _ b=>.inr b);have c8:∀P,w.heap.size<=P->¬(aE a=some P\/P=p):=λP b d=>by have:=SC P d;omega
  have j6:NL w p M most a c F B.heap.size (r.add P.x).2 (C-1) (h.eraseIdx e) V (z+1) b2 (k++[P]) f7:=by
   refine⟨⟨F1,(e8.af Q λP b d=>(b1 P d).2.1 b).af a0 λP b=>c8 P (e9 P b).1,e9,λP b=>?_⟩,a0.get (Q.get i.ptr λd=>(b1 _ d).2.2 rfl) (c8 _ oM),g1,h0.af g0 λP b d=>b0 (by have d:P=p:=d;rw[<-d];exact b),f9.af a0 λP b=>c8 P ?_,?_⟩
   ·rcases d0 P b with j|j
    ·exact b1 P j
    ·have hd:=e8.aC
     have o1:=ay i.ptr;exact⟨oM,λH=>by have:=hd P H;omega,oM⟩
   ·rcases d0 P b with j|j
    ·exact o P j
    ·omega
   ·exact(i.af.new Q λP b=>.inr (o P b)).then (a0.mono λP _ b=>b.elim (λd=>(g.ma P d).1) λd=>d▸g.mp)
  have d4:∀v∈h.eraseIdx e,v∈L:=λv x=>a5 v ((List.eraseIdx_sublist ..).subset x);refine PC.ok (vo g j6 d4 oM oM) ?_;rintro j7 o2 d6;obtain⟨i2,j8⟩:∃u:Int,j7= XH u:=by
   rcases d6 with⟨m,-⟩|⟨e,P,-,m,-⟩
   ·exact⟨_,m⟩
   ·exact⟨_,m⟩
  subst j8;have h1:∃k',U=k'+1:=⟨U-1,oM⟩
  obtain⟨k',rfl⟩:=h1;refine⟨_,rfl,(h.eraseIdx e).length,oM,(r.add P.x).2,h.eraseIdx e,k++[P],C-1,k',rfl,d4,?_,?_,oM,oM,oM,by simp;omega,oM,?_,?_⟩
  ·intro v x
   rcases Q6.1 x with x|x
   ·exact c5 v x
   ·simp at x;subst x;exact a5 v (QZ b)
  ·exact((List.eraseIdx_sublist ..).map _).trans e5
  ·rw[<-c6]
   conv=>rhs;unfold dh
   rw[qy (i:=e) (e:=P.x) (λN K=>by rw[<-List.map_take]at K;obtain⟨v,x,rfl⟩:=Xk.1 K;exact c4 v x) (by rw[Q9,b];rfl) f6];show _=dh (k'+1) (r.add P.x).2 ((h.map (·.x)).eraseIdx e) (k.map (·.x)++[P.x]);rw[map_eraseIdx,Q3];rfl
  ·rcases d6 with⟨m,I,J⟩|⟨e,P,m,I,J⟩
   ·exact .inl ⟨by simpa using m,I,J⟩
   ·exact .inr ⟨e,P,m,by simpa using I,J⟩
end
def jq(P:ir):List Value:=[XH P.aT,XH P.agg,XH P.field,XH P.op,XH P.arg,XH P.expect,XH P.key]
abbrev qY(P:ir):Value:=.agg (jq P).toArray
def AZ(P:ir):im XP 49 (jq P)=true:=kR
variable{e o:Int}{t:List Int}{a c:Nat}{r:ZH}{B:aH}{c9:ir}
section
variable {w w':World} {D:XN}
def zY{tn n l o:Nat}(p:eh w)(h:aW w D B d tn r l)(q:∀b,D b->b<w.heap.size):
  ZG 82 #[.agg #[.slice d tn n,.slice r l o],qY c9] w (Ok λf w'=>f= XH (eD B c9)/\ai w w'):=by
 refine v_ (PA.mk λv s x c=>PA.mk λt m y P=>?_);have c:=m.get c id;have e:=s.then m;have a:(c9.agg<0\/c9.key<0\/c9.expect< -1)->Ok (λf w'=>f= XH (eD B c9)/\ai w w') (.returned (XH 1)) t:=λg=>Ok.mk ⟨by unfold eD;rw[Zx g],e⟩;refine⟨_,ae P rfl,an.dec (λi=>a (.inl i)) (λi=>⟨_,ae P rfl,an.dec (λj=>a (.inr (.inl j))) (λj=>⟨_,ae P rfl,an.dec (λk=>a (.inr (.inr k))) (λk=>⟨_,_,_,_,_,_,ae c rfl,ae c rfl,_,ae P rfl,_,ae P rfl,_,ae P rfl,_,ae P rfl,PC.ok (vq (p.ah e) (h.ah e) λb g=>by have:=q b g;omega) ?_⟩)⟩)⟩)⟩;rintro _ z ⟨rfl,u⟩;exact⟨_,rfl,Ok.mk ⟨by unfold eD;rw[Zq (by rintro(h|h|h);exact i h;exact j h;exact k h)],e.then u⟩⟩
def Cj(b:∀c∈t,aP c)(P:Int):0<=eI t P/\eI t P<=9223372036854775807:=by
 unfold eI;split
 ·omega
 ·by_cases a:P.toNat<t.length
  ·have:=b _ (XY a)
   unfold aP at this;simp only[QQ,Qq a,Option.getD_some];omega
  ·simp only[QQ,Q7 (Nat.le_of_not_lt a),Option.getD_none]
   omega
def JZ(P a:List Int):(gQ P a).length=max P.length a.length:=by unfold gQ;rw[qB]
def N_(a b:List Int)(e:∀P∈a,aP P)(f:∀P∈b,aP P):∀P∈gQ a b,aP P:=by
 intro P c;unfold gQ lY at c;obtain⟨d,-,rfl⟩:=Xk.1 c;have g:=Cj e d;have h:=Cj f d;unfold aP;omega
def ig(Q:Row aJ 8 w D d a t)(hl:o<=9223372036854775807)(hn:t.length<=20000000):
  ZG 89 #[qY c9,XH e,.slice d a c,XH o] w (Ok λv w'=>∃d a k G,v= .tuple #[iP (aQ c9 e t o).2 d a k,XH (aQ c9 e t o).1]/\Row aJ 8 w' G d a (aQ c9 e t o).2.aK/\(∀P,G P->w.heap.size<=P/\P<w'.heap.size)/\ai w w'):=by
 have a9:=Q.len;have A:=Q.qZ;refine wg (PA.mk λB k1 s1 K=>PA.mk λL R s2 S=>?_);have K:=R.get K id;have k:=k1.then R;have l:∀{n:World} {no:Int},ai L n->aQ c9 e t o=(no,pW)->vm XP 55 (XL B.heap.size) (iP pW none 0 0) n λw4=>mW XP 55 (XL B.heap.size) w4 λv=>Ok (λv w'=>∃d a k G,v= .tuple #[iP (aQ c9 e t o).2 d a k,XH (aQ c9 e t o).1]/\Row aJ 8 w' G d a (aQ c9 e t o).2.aK/\(∀P,G P->w.heap.size<=P/\P<w'.heap.size)/\ai w w') (.returned (.tuple #[v,XH no])) w4:=λ{n no} C T=>
  aA (aU pW none 0 0) (C.get S id) rfl λw4 m s4 M=>au (aU pW none 0 0) M (Ok.mk ⟨none,0,0,λ_=>False,by rw[T],by rw[T];exact Row.nil _ _,λP b=>b.elim,(k.then C).new m λP b=>.inr oM⟩)
 refine an.dec (λU=>l (ak.refl _) ?_) (λU=>an.dec (λh2=>l (ak.refl _) ?_) (λh2=>an.dec (λC=>l (ak.refl _) ?_) (λC=>PC.ok (lZ (A.ah k)) ?_)))
 ·unfold aQ;rw[Zx (.inl U)]
 ·unfold aQ;rw[Zx (.inr (.inl oM))]
 ·unfold aQ;rw[Zx (.inr (.inr C))]
 rintro _ _ ⟨rfl,rfl⟩;have N:¬(e<0\/(t.length:Int)<=e\/o<0):=by rintro(h|h|h)<;>omega
 refine⟨_,rfl,an.eB (λJ=>l (ak.refl _) ?_) (λJ=>an.eB (λE=>l (ak.refl _) ?_) (λE=>λn V=>?_))⟩
 ·unfold aQ;rw[Zq N,Zx (.inl J)]
 ·unfold aQ;rw[Zq N,Zx (.inr E)]
 have hg:=Cj A.LH e;have wl:XG .i64 (o+1)=o+1:=wrap_i64 bb;have ws:XG .i64 (eI t e+1)=eI t e+1:=wrap_i64 (by unfold aP;have:eI t e≠9223372036854775807:=J;omega);have W:aQ c9 e t o=(0,⟨e,XG .i64 (eI t e+1),XG .i64 (o+1),gQ t [],c9.aT,c9.agg,c9.field,c9.op,c9.arg,c9.key⟩):=by
  unfold aQ;rw[Zq N,Zq (by rintro(h|h);exact J h;exact E h),wl,ws]
 have F:ai L n:=V.af;have s3:n.heap.size=L.heap.size:=by rw[V.heap]
 have X:=k.then F;have y:=F.get K id;have Y:=F.get S id;have jl:(gQ t []).length<=20000000:=by rw[JZ];simp;omega
 have jI:∀a0∈gQ t [],aP a0:=N_ t [] A.LH sM;have z:¬(n.heap.size<=w.heap.size):=oM
 have H:∀{w4 r:World} {f:ZH} {i j x:Nat},ai w r->Own r 3 1 f i j (ints (gQ t []))->(∀P,aE f=some P->n.heap.size<=P/\P≠x)->r.heap[B.heap.size]? =some (.cells (aB pW none 0 0).toArray 55 (0,0))->r.heap[x]? =some (.cells #[XH 0,XH 0,XH (XG .i64 (o+1)),.slice f i j,XH c9.aT,XH c9.agg,XH c9.field,XH c9.op,XH c9.arg,XH c9.key] 55 (0,0))->n.heap.size<=x->
   PS r ⟨x,0,none⟩ (XH e) λa4=>PS a4 ⟨x,0+1,none⟩ (XH (XG .i64 (eI t e+1))) λZ=>mW XP 55 (XL x) Z λa5=>vm XP 55 (XL B.heap.size) a5 Z λa2=>mW XP 55 (XL B.heap.size) a2 λa6=>Ok (λv w'=>∃d a k G,v= .tuple #[iP (aQ c9 e t o).2 d a k,XH (aQ c9 e t o).1]/\Row aJ 8 w' G d a (aQ c9 e t o).2.aK/\(∀P,G P->w.heap.size<=P/\P<w'.heap.size)/\ai w w') (.returned (.tuple #[a6,XH 0])) a2:=λ{w4 r f i j x} E s p hz a7 b0=>by
  refine PS.mk a7 sM λw6 g s6 I=>PS.mk I sM λw7 O s7 g7=>?_;have a8:=O.get (g.get hz oM) oM;refine au (cs:=aB ⟨e,XG .i64 (eI t e+1),XG .i64 (o+1),gQ t [],c9.aT,c9.agg,c9.field,c9.op,c9.arg,c9.key⟩ f i j) (aU _ _ _ _) g7 (aA (aU _ _ _ _) a8 rfl λw8 k8 s8 g8=>au (aU _ _ _ _) g8 (Ok.mk ⟨f,i,j,λP=>aE f=some P,by rw[W],?_,λP b=>⟨by have:=p P b;omega,?_⟩,?_⟩))
  ·rw[W]
   have a3:=(((s.af g (fg.2 λP b u=>(p P b).2 u)).af O (fg.2 λP b u=>(p P b).2 u)).af k8 (fg.2 λP b u=>by have:=p P b;omega))
   exact(⟨⟨_,λ_=>False,a3,jg.2 ⟨rfl,jI⟩,λ_ h=>h.elim⟩,λP b=>b,λP b=>a3.lt b⟩:aO aJ 3 (λP=>aE f=some P) w8 f i j (gQ t [])).row dC ba
  ·have:=s.lt b;omega
  ·exact((E.new g λP b=>.inr oM).new O λP b=>.inr oM).new k8 λP b=>.inr oM
 refine⟨λP=>n.heap.size<=P,z,_,ae y rfl,z,_,ae y rfl,z,_,ae y rfl,z,_,ae y rfl,z,_,ae y rfl,z,_,ae y rfl,PC.ok (xH ((A.ah k).ah F) (Ints.nil _)) ?_,PA.mk λw4 m s4 M=>⟨ai.af m,PC.ok (xH (((A.ah k).ah F).ah m) (Ints.nil _)) ?_⟩⟩
 ·rintro _ w4 ⟨f,i,j,rfl,s,m,p⟩
  have z4:=m.size;refine⟨_,_,_,rfl,ai.af m,PA.mk λr q s5 g5=>⟨ai.af q,aA (cs:=[XH 0,XH 0,XH (XG .i64 (o+1)),.slice f i j,XH c9.aT,XH c9.agg,XH c9.field,XH c9.op,XH c9.arg,XH c9.key]) (aU ⟨0,0,XG .i64 (o+1),[],c9.aT,c9.agg,c9.field,c9.op,c9.arg,c9.key⟩ f i j) g5 rfl λw6 g s6 I=>⟨g.mono λP _ u=>oM,H (w4:=w4) (((X.then m).then q).new g λP b=>.inr oM) ((s.ah q).af g (fg.2 λP b u=>by have:=s.lt b;omega)) (λP b=>⟨p P b,by have:=s.lt b;omega⟩) (g.get (q.get (m.get Y id) id) oM) I oM⟩⟩⟩
 ·rintro _ r ⟨f,i,j,rfl,s,q,p⟩
  have z5:=q.size;refine⟨_,_,_,rfl,ai.af q,aA (cs:=[XH 0,XH 0,XH (XG .i64 (o+1)),.slice f i j,XH c9.aT,XH c9.agg,XH c9.field,XH c9.op,XH c9.arg,XH c9.key]) (aU ⟨0,0,XG .i64 (o+1),[],c9.aT,c9.agg,c9.field,c9.op,c9.arg,c9.key⟩ f i j) (q.get M id) rfl λw6 g s6 I=>⟨g.mono λP _ u=>oM,H (w4:=w4) (((X.then m).then q).new g λP b=>.inr oM) (s.af g (fg.2 λP b u=>by have:=p P b;omega)) (λP b=>⟨by have:=p P b;omega,by have:=p P b;omega⟩) (g.get (q.get (m.get Y id) id) oM) I oM⟩⟩
end
def rF:jW:=⟨[(3,[(6,.slice none 0 0),(16,XH 0)])],[],[5,12],[],[(5,⟨[0,1,2,4,0,16,40,64,128,128,511,2047],[4095,4094,4093,4091,4095,4079,4055,4031,3967,3967,3839,3583],[0,0,0,1,0,2,2,0,0,0,0,0]⟩),(12,⟨[0,0,2,4,8,0,32,0,208,257,1023],[2047,2047,2045,2043,2039,2047,2015,2047,1839,2046,1791],[0,0,0,0,1,0,2,0,2,0,0]⟩)]⟩
variable{z:XT}{K:List aj}{i q:Nat}{a6:XN}{c6 g2:ZH}{m:XR}{k:World}{x:XU}{l:aj}{W:cD}{b3:dS}
def rG(N:PA b (.cells #[.slice r a c] 230) λv=>(rS v (ab_ b 0) λO w c3=>(∃o:Nat->ZH->Nat->Nat->Int->XU,(∃e,o e none 0 0 0 v)/\∀(e:Nat) (f:ZH) (g:Nat) (h:Nat) (P:Int) (c4:Nat->Value) (i:World),o e f g h P i->an (decide (P<(w:Int))) ((ix_ O P w λQ R=>(rI i (ad Q (R+Int.toNat P)) λj=>(∀k,bG i k->∃p:XN,(dr d λx S=>(¬p x/\(rP k (ad x S) λT=>PC_ 120 #[.ii j] k (λU q=>∃y,U= .string y/\(ak p k q/\PC_ 181 #[.pointer T,.string y] q (λV l=>∃W A X B,V= .tuple #[.slice W A X,.ii B]/\(ak p q l/\an (B !=0) (rt z ((.tuple #[.slice f g h,.ii 0])) l) ((dr d λY Z=>(rP l (ad Y Z) λa1=>PC_ 187 #[.pointer a1,.ii j] l (λa2 a3=>∃D C E m,a2= .tuple #[.slice D C E,.ii m]/\PR_ (ap_ 50 (.slice f g h) (.slice D C E)) a3 (kS_ λG F H s=>(dr d λa4 a5=>(rS s (ad a4 (a5+2)) λa6 a7 a8=>PA s (.cells #[.ii j] 3) λa9=>PR_ (ap_ 27 (.slice a6 a7 a8) (.slice (some (ab_ s 0)) 1 1)) a9 (kS_ λb0 b1 b2 b3=>(dr d λb4 b5=>PS b3 (ad b4 (b5+2)) (.slice b0 b1 b2) λb6=>(dr d λb7 b8=>PS b6 (ad b7 (b8+3)) (.ii m) λI=>an (decide (m<(A:Int))) ((∀n,bG I n->∃t:XN,(dr d λJ b9=>(¬t J/\(rP n (ad J b9) λc0=>PC_ 120 #[.ii j] n (λc1 u=>∃K,c1= .string K/\(ak t n u/\PC_ 188 #[.pointer c0,.string K,.ii m] u (kI_ λc2 L=>(ak t u L/\rt z ((.tuple #[.slice G F H,.ii c2])) L)) (pZ z))) (pZ z)))))) ((∃M,M<e/\o M G F H (XG .i64 (P+1)) I))))) (pV z)))) (pV z)) (pE z)))))) (pZ z))) (pZ z)))))))) (rt z ((.tuple #[.slice f g h,.ii 0])) i)))):ZG 137 #[.pointer d,.agg #[.slice r a c]] b z:=DC rF Tryz.func137 rfl N
def kV(P:dS)(D:al):Int×dS×al:=
 let c:=dV (aM P.next)
 let a:=D.sync c
 if a.1≠0 then(a.1,P,(a.2.delete c).2)else
 let b:=bH a.2 (P.bD++[P.next])
 if b.1≠0 then(b.1,P,(b.2.delete c).2)else
 (0,⟨P.size,P.bD++[P.next],0,XG .i64 (P.next+1)⟩,b.2)
def bZ(a:dS)(D:al):Int×dS×al:=
 let P:=D.create (dV (aM a.next))
 if P.1≠0 then(P.1,a,P.2)else kV a P.2
def aX(P:dS)(D:al):Int×dS×al:=
 if P.bD=[]then bZ P D else
 let a:=D.sync P.last
 if a.1≠0 then(a.1,P,a.2)else bZ P a.2
def Bw(c d:World)(e f:Nat)(a:XN)(P:Int×dS×al)(g:Value)(b:World):Prop:=g= XH P.1/\cw c b e f P.2.1 P.2.2 a/\ak (fA a) d b
def MP(P:Int):aP (XG .i64 P):=by
 unfold aP XG;simp[IntKind.signed,IntKind.bits];omega
def CY{D:al}{a:List Int}(P:(bH D a).1=0):a.length<=64:=by
 unfold bH at P;split at P
 ·cases P
 ·omega
def By{D:al}(hL:Laid b)(h:cw b k a c b3 D f):
  ZG 138 #[XL c] k (Ok (Bw b k a c f (aX b3 D))):=by
 have b2:=h.aC;obtain⟨p2,j3,e6⟩:=h.Ti;have p3:=h.gr.size;have e7:=h.Bv;have j4:=h.many;refine rb (PA.mk λB k1 s1 g1=>PA.mk λw2 k2 s2 g2=>?_);have d6:ai k w2:=k1.then k2
 let b6:XN:=λP=>f P\/(P=k.heap.size\/P=B.heap.size)
 have hY:cw b w2 a c b3 D b6:=h.add d6 λP d=>by omega
 have b7:=k2.get g1 id;refine⟨λe=>∃C,cw b e a c b3 C b6/\ak (fA f) k e/\w2.heap.size<=e.heap.size/\e.heap[k.heap.size]? =some (.cells #[XL c] 95 (0,0))/\e.heap[B.heap.size]? =some (.cells #[XH 0] 34 (0,0))/\aX b3 D=bZ b3 C,?_,?_⟩
 ·obtain⟨G,hD,hl,hG⟩:=id hY
  obtain⟨t,E,I,m,S,hr,hE,u⟩:=hl.row;refine⟨_,ae b7 rfl,c,0,rfl,_,_,_,ae S rfl,an.dec (λo5=>?_) (λy=>?_)⟩
  ·have v:b3.bD≠[]:=λi=>by rw[i]at u;simp at u;omega
   refine⟨_,ae b7 rfl,PC.ok (Fc hL hY v) ?_⟩;rintro _ w3 ⟨rfl,Y,k3⟩;have kX:ak (fA f) k w3:=(ai.af d6).then (k3.mono λP _ d j=>d (.inl j));have b8:=k3.get b7 λu=>u (.inr (.inl rfl));have b9:=k3.get g2 λu=>u (.inr (.inr rfl));have hB:aX b3 D=if(D.sync b3.last).1≠0 then((D.sync b3.last).1,b3,(D.sync b3.last).2)else bZ b3 (D.sync b3.last).2:=by unfold aX;rw[Zq v]
   refine⟨_,rfl,an.dR (λe9=>?_) (λF=>⟨_,Y,kX,k3.size,b8,b9,by rw[hB,Zq (by simpa using F)]⟩)⟩;refine PS.mk b9 sM λJ L s4 g4=>⟨_,ae g4 rfl,Ok.mk ?_⟩
   rw[hB,Zx e9];exact⟨rfl,(Y.other L λP d=>⟨d▸.inr (.inr rfl),oM⟩).mono λP d=>.inl d,kX.then (L.mono λP _ d j=>by have:=b2 P j;omega)⟩
  ·have he:b3.bD=[]:=QW oM
   exact⟨D,hY,ai.af d6,Q4 _,b7,g2,by unfold aX;rw[Zx he]⟩
 rintro _ w3 ⟨C,Y,a1,o6,b8,b9,hB⟩;rw[hB];obtain⟨G3,p4,j5,p5⟩:=id Y;obtain⟨h0,n3,k4,E3,j6,-,-,-⟩:=j5.row;refine⟨_,ae b8 rfl,c,0,rfl,_,ae j6 rfl,PC.ok (lL (hL.ah Y.gr) e7) ?_⟩;rintro _ J ⟨rfl,L⟩;refine⟨_,rfl,PA.mk λw5 k5 s5 g5=>PS.mk g5 sM λw6 k6 s6 g6=>?_⟩
 let p:XN:=λP=>b6 P\/P=J.heap.size
 have f5:=Y.ah L;have p6:=f5.gr.size;have p7:=L.size;have j7:cw b w6 a c b3 C p:=(f5.add (Y:=(·=J.heap.size)) k5 λP d=>oM).other k6 λP d=>⟨.inr d,oM⟩
 have j8:ak (fA f) k w6:=((a1.ah L).ah k5).then (k6.mono λP _ d j=>by have:=b2 P j;have:=a1.size;omega);have d8:∀{P},f P->p P:=λj=>.inl (.inl j);intro M e4;have k7:ai w6 M:=e4.af;have f6:=j7.ah k7;have gn:w6.heap[J.heap.size]? =some (.cells #[.string (dV (aM b3.next))] 9 (0,0)):=g6;have j9:=k6.get (k5.get (L.get b8 id) id) oM;have f7:=k6.get (k5.get (L.get b9 id) id) oM
 let q:World->Int->Prop:=λe i=>e.heap[k.heap.size]? =some (.cells #[XL c] 95 (0,0))/\e.heap[B.heap.size]? =some (.cells #[XH i] 34 (0,0))/\e.heap[J.heap.size]? =some (.cells #[.string (dV (aM b3.next))] 9 (0,0))
 have C6:q w6 0:=⟨j9,f7,gn⟩
 have g:∀{e w:World} {i:Int} {d0:XN},q e i->ak d0 e w->(∀P,d0 P->¬(P=k.heap.size\/P=B.heap.size\/P=J.heap.size))->q w i:=λN o hS=>
  ⟨o.get N.1 λO=>hS _ O (.inl rfl),o.get N.2.1 λO=>hS _ O (.inr (.inl rfl)),o.get N.2.2 λO=>hS _ O (.inr (.inr rfl))⟩
 have l:∀{e w:World} {i:Int},q e i->ak (fA p) e w->q w i:=λN o=>g N o λP d hc=>d (by
  rcases hc with rfl|rfl|rfl
  ·exact .inl (.inr (.inl rfl))
  ·exact .inl (.inr (.inr rfl))
  ·exact .inr rfl)
 have c0:∀{e w:World},ak (fA f) k e->ak (fA p) e w->ak (fA f) k w:=λt P=>t.then (P.mono λP _ d j=>d (d8 j));have C7:q M 0:=g C6 k7 λP d=>d.elim;obtain⟨G7,p8,k0,p9⟩:=id f6;obtain⟨l1,n7,l2,E7,l0,-,-,-⟩:=k0.row;refine⟨_,ae C7.1 rfl,c,0,rfl,_,ae l0 rfl,_,ae C7.2.2 rfl,PC.ok (f6.on (λp hZ T=>T.create)) ?_⟩;rintro _ w8 ⟨rfl,c1,k8⟩;have C8:=l C7 k8;have g0:=c0 (j8.ah k7) k8;have l3:bZ b3 C=if(C.create (dV (aM b3.next))).1≠0 then((C.create (dV (aM b3.next))).1,b3,(C.create (dV (aM b3.next))).2)else kV b3 (C.create (dV (aM b3.next))).2:=rfl
 rw[l3];generalize q0:C.create (dV (aM b3.next))=cr at c1⊢;obtain⟨n5,K⟩:=cr;simp only at c1⊢;have q1:B.heap.size<w2.heap.size:=oM
 have g3:∀{e:World} {z:Int×dS×al} {i:Int} {w:World},cw b e a c z.2.1 z.2.2 p->ak (fA f) k e->ak (·=B.heap.size) e w->i=z.1->Bw b k a c f z (XH i) w:=by
  intro e z i w u o O he;exact⟨by rw[he],(u.other O λP d=>⟨d▸.inl (.inr (.inr rfl)),oM⟩).mono λP d=>d8 d,o.then (O.mono λP _ d j=>by have:=b2 P j;omega)⟩
 refine⟨_,rfl,an.dR (λv=>?_) (λF=>?_)⟩
 ·refine PS.mk C8.2.1 sM λw9 k9 s9 g9=>⟨_,ae g9 rfl,Ok.mk ?_⟩
  rw[Zx v];exact g3 c1 g0 k9 rfl
 rw[Zq (by simpa using F)];have A:∀{z:Int×dS×al} (i:Int) (m:al) (e:World),cw b e a c b3 m p->ak (fA f) k e->q e i->i≠0->z=(i,b3,(m.delete (dV (aM b3.next))).2)->
   Lv XP (λg7=>∃g8:Int,g7.cell? ⟨B.heap.size,0,none⟩=some (XH g8)/\Ok (Bw b k a c f z) (.returned (XH g8)) g7) (λch e=>Ok (Bw b k a c f z) (.panicked ch) e)
    ([{target:=.fn (.func 189) #[XL B.heap.size,XL k.heap.size,XL J.heap.size],args:= #[]}]:List Deferred) .returning e:=by
  intro z i m e u o N v hr;refine Lv.one sM kR (CallsD.mono (gS (R:=λe' M=>e'= .returned (.tuple #[])/\∃h2:Int,M.cell? ⟨B.heap.size,0,none⟩=some (XH h2)/\Ok (Bw b k a c f z) (.returned (XH h2)) M) ⟨_,ae N.2.1 rfl,an.dR (λ_=>?_) (λF=>Zz F v)⟩) ?_)
  ·intro wa da
   have ka:ai e wa:=da.af;have h3:=u.ah ka;have e0:q wa i:=g N ka λP d=>d.elim;obtain⟨Ga,q2,l4,q3⟩:=id h3;obtain⟨aa,na,ca,Ea,c3,-,-,-⟩:=l4.row;refine⟨_,ae e0.1 rfl,c,0,rfl,_,ae c3 rfl,_,ae e0.2.2 rfl,PC.ok (h3.on (λp hZ T=>T.delete)) ?_⟩;rintro _ U ⟨rfl,l5,kb⟩;have l6:=l e0 kb;refine⟨_,rfl,rfl,_,ae l6.2.1 rfl,Ok.mk ?_⟩;rw[hr];exact⟨rfl,l5.mono λP d=>d8 d,c0 (o.ah ka) kb⟩
  ·rintro e' u' M ⟨rfl,rfl,hX⟩
   exact Lv.ret rfl hX
 intro w9 e8;have k9:ai w8 w9:=e8.af;have h4:=c1.ah k9;have C9:q w9 0:=g C8 k9 λP d=>d.elim;obtain⟨G9,q4,l7,q5⟩:=id h4;obtain⟨n6,n9,o7,E9,l8,-,-,-⟩:=l7.row;refine⟨_,ae C9.1 rfl,c,0,rfl,_,ae l8 rfl,_,ae C9.2.2 rfl,PC.ok (h4.on (λp hZ T=>T.sync)) ?_⟩;rintro _ Z ⟨rfl,V,h5⟩;have b0:=l C9 h5;have d1:=c0 (g0.ah k9) h5;have l9:kV b3 K=if(K.sync (dV (aM b3.next))).1≠0 then((K.sync (dV (aM b3.next))).1,b3,((K.sync (dV (aM b3.next))).2.delete (dV (aM b3.next))).2)else
   if(bH (K.sync (dV (aM b3.next))).2 (b3.bD++[b3.next])).1≠0 then((bH (K.sync (dV (aM b3.next))).2 (b3.bD++[b3.next])).1,b3,((bH (K.sync (dV (aM b3.next))).2 (b3.bD++[b3.next])).2.delete (dV (aM b3.next))).2)else
   (0,⟨b3.size,b3.bD++[b3.next],0,XG .i64 (b3.next+1)⟩,(bH (K.sync (dV (aM b3.next))).2 (b3.bD++[b3.next])).2):=rfl
 rw[l9];generalize q6:K.sync (dV (aM b3.next))=sy at V⊢;obtain⟨q7,c2⟩:=sy;dsimp only at V;refine⟨_,rfl,an.dR (λv=>?_) (λF=>?_)⟩
 ·refine PS.mk b0.2.1 sM λr s q8 m0=>?_
  rw[Zx v];exact A _ c2 r (V.other s λP d=>⟨d▸.inl (.inr (.inr rfl)),oM⟩) (d1.then (s.mono λP _ d j=>by have:=b2 P j;omega)) ⟨s.get b0.1 oM,m0,s.get b0.2.2 (by have:=a1.size;omega)⟩ v rfl
 rw[Zq (by simpa using F)];have o8:J.heap.size<Z.heap.size:=ay b0.2.2;refine⟨λt E I e=>∃m,aO aJ 3 m e t E I (b3.bD++[b3.next])/\(∀P,m P->Z.heap.size<=P)/\ai Z e,?_,?_⟩
 ·intro r m1
  have s:ai Z r:=m1.af;have a5:=V.ah s;have b1:q r 0:=g b0 s λP d=>d.elim;obtain⟨m2,h6,W,h7⟩:=id a5;obtain⟨m3,m4,m5,m6,a6,d2,d3,o9⟩:=W.row;have p0:=W.aC c W.self;have a2:∀{wa U wc:World} {S:Nat} {t E I:_} {a3:XN},aO aJ 3 a3 U t E I b3.bD->(∀P,a3 P->r.heap.size<=P/\P≠S)->U.heap[S]? =some (.cells #[XH b3.next] 3 (0,0))->ai r U->
    ∀κ ε,(∀X n' c' e,(∃m,aO aJ 3 m e X n' c' (b3.bD++[b3.next])/\(∀P,m P->Z.heap.size<=P)/\ai Z e)->ak (λP=>r.heap.size<=P) U e->κ (.slice X n' c') e)->
    aD XP (Builtin.append_ #[27,27] 27 #[.slice t E I,.slice (XM S) 1 1]) U κ ε:=by
   intro wa U wc S t E I a3 Q hF hg o κ ε c7;refine jx Q qA (D:=(·=S)) (Row.lit hg [b3.next] rfl (λd4 j=>by simp at j;subst j;exact e7) (by unfold aN;simp)) (λP i=>⟨i▸ay hg,λf0=>(hF P (Q.self P f0)).2 i⟩) (by unfold aN;simp;omega) (by unfold maxLen;simp;omega) λX c' e F' c8 a4 _ c9=>?_;refine c7 X _ c' e ⟨λP=>aE X=some P,c8.alone,λP d=>?_,?_⟩ (a4.mono λP _ d=>(hF P (Q.self P d)).1)
   ·have:=s.size;have:=o.size
    rcases c9 P d with h|h
    ·have:=(hF P h).1;omega
    ·omega
   ·exact(s.then o).new a4 λP d=>.inr (by have:=(hF P (Q.self P d)).1;have:=s.size;omega)
  have q9:k.heap.size<r.heap.size:=ay b1.1;refine⟨λP=>r.heap.size<=P,oM,_,ae b1.1 rfl,c,0,rfl,oM,_,_,_,ae a6 rfl,oM,_,ae b1.1 rfl,c,0,rfl,oM,_,ae a6 rfl,?_,?_⟩
  ·refine PC.ok (cm d2 λP d=>W.aC P (d3 P d).1) ?_
   rintro _ b4 ⟨r0,r3,r4,r5,rfl,a7,H,h8⟩;refine⟨_,_,_,rfl,H.af,PA.mk λx n m7 e1=>⟨n.af,a2 (wa:=x) (wc:=x) (a7.ah n) (λP d=>⟨h8 P d,by have:=a7.aC P d;omega⟩) e1 (H.then n) _ _ λX n' c' e hJ o=>⟨_,_,_,rfl,o,trivial,hJ⟩⟩⟩
  ·refine PA.mk λb4 H r6 m8=>⟨H.af,PC.ok (cm (d2.ah H) λP d=>by have:=W.aC P (d3 P d).1;have:=H.size;omega) ?_⟩
   rintro _ x ⟨m9,n0,n1,r7,rfl,a8,n,d5⟩;exact⟨_,_,_,rfl,n.af,a2 (wa:=x) (wc:=x) a8 (λP d=>⟨by have:=d5 P d;omega,by have:=d5 P d;omega⟩) (n.get m8 id) (H.then n) _ _ λX n' c' e hJ o=>⟨_,_,_,rfl,o,trivial,hJ⟩⟩
 rintro t E I _ r ⟨m,Q,hE,s⟩;have p1:(b3.bD++[b3.next]).length<=65:=by simp;omega
 have a5:cw b r a c b3 c2 (λP=>p P\/m P):=V.add s λP d=>⟨hE P d,Q.aC P d⟩
 have b1:q r 0:=g b0 s λP d=>d.elim;have d7:Row aJ 8 r m t E (b3.bD++[b3.next]):=Q.row dC ba;have f1:∀d4∈b3.bD++[b3.next],aP d4:=Jp d7;obtain⟨m2,h6,W,h7⟩:=id a5;obtain⟨m3,m4,m5,m6,a6,-,-,-⟩:=W.row;refine⟨_,ae b1.1 rfl,c,0,rfl,_,ae a6 rfl,PC.ok (a5.on λZ' n2 T=>T.bH hL.oX d7 f1 λP d=>.inr (n2 P (.inr d))) ?_⟩;rintro _ b4 ⟨rfl,a9,H⟩;have R:ak (fA p) r b4:=H.mono λP _ d y=>d (.inl y);have c4:=l b1 R;have d9:=c0 (d1.ah s) R;have a7:=Q.af H λP d u=>u (.inr d);have b5:= @CY c2 (b3.bD++[b3.next]);have h9:True:=trivial;generalize r8:bH c2 (b3.bD++[b3.next])=mw at a9 b5 h9⊢;obtain⟨r9,c5⟩:=mw;dsimp only at a9 b5 h9⊢;refine⟨_,rfl,an.dR (λv=>?_) (λF=>?_)⟩
 ·refine PS.mk c4.2.1 sM λx n m7 e1=>?_
  rw[Zx v];have f2:cw b b4 a c b3 c5 p:=a9.mono λP d=>.inl d;exact A _ c5 x (f2.other n λP d=>⟨d▸.inl (.inr (.inr rfl)),oM⟩) (d9.then (n.mono λP _ d j=>by have:=b2 P j;omega)) ⟨n.get c4.1 oM,e1,n.get c4.2.2 (by have:=a1.size;omega)⟩ v rfl
 rw[Zq (by simpa using F)];have b5:=b5 F;intro x n4;have n:ai b4 x:=n4.af;have i0:=a9.ah n;have e5:q x 0:=g c4 n λP d=>d.elim;have a8:=a7.ah n;obtain⟨s0,i1,e2,r1⟩:=id i0;obtain⟨m9,n0,n1,s3,i2,-,-,-⟩:=e2.row;have i3:∀P,m P->P≠c:=λP d i=>by have:=hE P d;omega
 have n8:c≠k.heap.size/\c≠B.heap.size/\c≠J.heap.size:=by have:=a1.size;omega
 refine⟨(·=c),_,ae e5.1 rfl,λi=>n8.1 i.symm,_,ae e5.1 rfl,c,0,rfl,PS.mk i2 sM λs7 i4 s8 o0=>⟨i4,c,0,rfl,PS.mk o0 sM λo1 i5 t0 i6=>⟨i5,?_⟩⟩⟩;have e3:=i4.then i5;have i7:q o1 0:=g e5 e3 λP d hc=>by subst d;omega
 refine⟨_,ae i7.1 rfl,c,0,rfl,_,ae i6 rfl,c,0,rfl,PS.mk i6 sM λc6 i8 t1 i9=>?_⟩;have o2:q c6 0:=g i7 i8 λP d hc=>by subst d;omega
 have a0:ak (·=c) x c6:=e3.then i8;refine PS.mk o2.2.1 sM λo3 o4 t2 j0=>Lv.one sM kR (CallsD.mono (gS (R:=λe' M=>e'= .returned (.tuple #[])/\M=o3) ⟨_,ae j0 rfl,an.dR (λhc=>Zz rfl hc) (λ_=>⟨rfl,rfl⟩)⟩) ?_);rintro e' u' _ ⟨rfl,rfl,rfl⟩;refine Lv.ret rfl ⟨_,ae j0 rfl,Ok.mk ?_⟩;have j1:c6.heap[c]? =some (.cells #[XL a,XH b3.size,.slice t E I,XH 0,XH (XG .i64 (b3.next+1))] 228 (0,0)):=i9;have j2:cw b c6 a c ⟨b3.size,b3.bD++[b3.next],0,XG .i64 (b3.next+1)⟩ c5 p:=by
  refine⟨λP=>P=c\/m P,?_,⟨⟨t,E,I,m,j1,a8.af a0 λP d i=>i3 P d i,λP d=>⟨.inr d,i3 P d⟩⟩,.inl rfl,?_,b5,?_⟩,?_⟩
  ·have h1:bC b x a c5 (λP=>p P\/(P=c\/m P)):=i1.mono λP d=>by
    rcases d with d|d|d
    ·exact .inl (.inl d)
    ·exact .inr (d▸e2.self)
    ·exact .inl (.inr d)
   obtain⟨a3,f4,f8,f3,f9⟩:=h1;exact⟨a3,f4.af a0 λP d i=>(f3 P d).2 (.inr (.inl i)),f8.new a0 λP d=>.inr oM,f3,λP d=>Qk (f9 P d) a0.size⟩
  ·rintro P (rfl|d)
   ·exact ay i9
   ·exact Qk (a8.aC P d) a0.size
  ·show aP (XG .i64 (b3.next+1))
   exact MP _
  ·rintro P (rfl|d)
   ·exact⟨j3,λy=>by
     rcases y with(y|y|y)|y
     ·exact e6 y
     ·omega
     ·omega
     ·omega⟩
   ·have:=hE P d
    exact⟨by have:=V.gr.size;omega,λy=>by have:=V.aC P y;omega⟩
 exact g3 j2 ((d9.ah n).then (a0.mono λP _ d j=>e6 (d▸j))) o4 rfl
def aF(no:Int):ByteArray:=dV (aM no)
structure vb where
 no:Int
 out:List aj
 V:dS
 D:al
def ie:List Int->List aj->dS->al->vb
 |[],P,a,D=>⟨0,P,a,D⟩
 |no::b,P,a,D=>
  if(D.read (aF no)).2≠0 then⟨0,P,a,D⟩else
  if(bQ (D.read (aF no)).1).2<(D.read (aF no)).1.length then
   ⟨(D.EG (aF no) (bQ (D.read (aF no)).1).2).1,P++(bQ (D.read (aF no)).1).1,⟨a.size,a.bD++[no],(bQ (D.read (aF no)).1).2,a.next⟩,(D.EG (aF no) (bQ (D.read (aF no)).1).2).2⟩
  else ie b (P++(bQ (D.read (aF no)).1).1) ⟨a.size,a.bD++[no],(bQ (D.read (aF no)).1).2,a.next⟩ D
section
variable {w0 w w1 w':World} {p q:Nat} {D D':al} {V V':dS} {X Y Z G S:XN}
def bC.ft(c:bC w0 w p D X)(d:ak Y w w')(e:∀P,Y P->X P/\w0.heap.size<=P)(f:∀P,Z P->(X P\/w.heap.size<=P)/\P<w'.heap.size):bC w0 w' p D Z:=by
 obtain⟨h,g,i,b,l⟩:=c;exact⟨h,g.af d λP a j=>(b P a).2 (e P j).1,i.new d λP a=>.inr (e P a).2,λP a=>⟨(b P a).1,λk=>(f P k).1.elim (b P a).2 λc=>by have:=g.aC P a;omega⟩,λP a=>(f P a).2⟩
def cw.ft(g:cw w0 w p q V D X)(b:ak Y w w')(c:∀P,Y P->X P/\w0.heap.size<=P)(d:∀P,Z P->(X P\/w.heap.size<=P)/\P<w'.heap.size):cw w0 w' p q V D Z:=by
 obtain⟨G,h,e,f⟩:=g;refine⟨G,h.ft b (λP a=>⟨.inl (c P a).1,(c P a).2⟩) λP a=>?_,e.af b λP a i=>(f P a).2 (c P i).1,λP a=>⟨(f P a).1,λj=>(d P j).1.elim (f P a).2 λg=>by have:=e.aC P a;omega⟩⟩;rcases a with a|a
 ·exact⟨(d P a).1.imp .inl id,(d P a).2⟩
 ·exact⟨.inl (.inr a),Qk (e.aC P a) b.size⟩
def MQ{no B:Int}(h:cw w0 w p q V D X)(O:aP no)(Q:V.bD.length+1<=64)(s:∀w',cw w0 w' p q ⟨V.size,V.bD++[no],B,V.next⟩ D X->ak (fA X) w w'->x w'):
  ∃C E,(XM q:ZH)=some ⟨C,E,none⟩/\∃(i:ZH) (t u:Nat),w.cell? ⟨C,E+2,none⟩=some (.slice i t u)/\
   PA w (.cells #[XH no] 3) λR=>aD XP (Builtin.append_ #[27,27] 27 #[.slice i t u,.slice (XM w.heap.size) 1 1]) R (λS T=>
    ∃(d:ZH) (F j:Nat),S= .slice d F j/\∃H I,(XM q:ZH)=some ⟨H,I,none⟩/\PS T ⟨H,I+2,none⟩ (.slice d F j) λU=>
     ∃J K,(XM q:ZH)=some ⟨J,K,none⟩/\PS U ⟨J,K+3,none⟩ (XH B) x) m:=by
 obtain⟨G,W,c,e⟩:=id h;obtain⟨i,t,u,a0,L,f,g⟩:=c.body;have a8:=c.aC q c.self;refine⟨q,0,rfl,_,_,_,ae L rfl,PA.mk λw1 k s1 Y=>?_⟩;refine jx (f.ah k) qA (D:=(·=w.heap.size)) (Row.lit Y [no] rfl (λa1 l=>by simp at l;subst l;exact O) (by unfold aN;simp)) (λP b=>⟨oM,λZ=>by have:=f.aC P (f.self P Z);omega⟩) (by unfold aN;simp;omega) (by unfold maxLen;simp;omega) λd j w2 F' n o _ v=>?_
 replace n:=n.alone
 have a6:¬aE i=some q:=λb=>(g q (f.self q b)).2 rfl;have g2:=o.get (k.get L id) a6;have z2:=o.size;have y:¬aE d=some q:=λb=>by
  rcases v q b with h|h
  ·exact(g q h).2 rfl
  ·omega
 refine⟨_,_,_,rfl,q,0,rfl,PS.mk g2 sM λw3 z s3 g3=>⟨q,0,rfl,PS.mk g3 sM λr A s4 g4=>s r ?_ ?_⟩⟩
 ·have a7:ak (λP=>aE i=some P\/P=q) w1 r:=((o.mono λP _ a=>.inl a).then (z.mono λP _ a=>.inr a)).then (A.mono λP _ a=>.inr a)
  have kG:ak G w r:=(ai.af k).then (a7.mono λP _ a=>a.elim (λh=>(g P (f.self P h)).1) λh=>h▸c.self);have M:∀P,aE d=some P->P<r.heap.size:=λP a=>by have:=n.aC P a;omega
  refine⟨λP=>P=q\/aE d=some P,W.ft kG (λP a=>⟨.inr a,(e P a).1⟩) λP a=>?_,⟨⟨d,_,j,(λP=>aE d=some P),g4,?_,λP a=>⟨.inr a,λb=>y (b▸a)⟩⟩,.inl rfl,?_,by simpa using Q,c.Bv⟩,?_⟩
  ·rcases a with a|rfl|a
   ·exact⟨.inl (.inl a),by have:=h.aC P a;omega⟩
   ·exact⟨.inl (.inr c.self),oM⟩
   ·refine⟨?_,M P a⟩
    rcases v P a with h|h
    ·exact .inl (.inr (g P h).1)
    ·exact .inr oM
  ·exact(n.af z λP a b=>y (b▸a)).af A λP a b=>y (b▸a)
  ·rintro P (rfl|a)
   ·omega
   ·exact M P a
  ·rintro P (rfl|a)
   ·exact e _ c.self
   ·rcases v P a with N|N
    ·exact e P (g P N).1
    ·exact⟨by have:=h.gr.size;omega,λl=>by have:=h.aC P l;omega⟩
 ·refine(((ai.af k).then (o.mono λP _ a=>?_)).then (z.mono λP _ a=>?_)).then (A.mono λP _ a=>?_)
  ·exact(e P (g P (f.self P a)).1).2
  ·exact(e P (a▸c.self)).2
  ·exact(e P (a▸c.self)).2
def QO{j P:Nat}(a:j<=64)(b:P<=j*262144):P<=16777216:=oM
def OR(w0 w:World)(p q:Nat)(X:XN)(P:vb)(e:Value)(w':World):Prop:=
 ∃b c d G,e= .tuple #[.slice b c d,XH P.no]/\aO oA 55 G w' b c d P.out/\cw w0 w' p q P.V P.D (λa=>X a\/G a)/\ak (fA X) w w'/\(∀a,G a->w.heap.size<=a)/\P.out.length<=16777216
def MR(C:Laid w0)(h:cw w0 w p q V D X)(Q:Row aJ 8 w f d a t)(c2:∀P,f P->X P)(f4:V.bD.length+t.length<=64):
  ZG 137 #[XL q,.agg #[.slice d a c]] w (Ok (OR w0 w p q X (ie t [] V D))):=by
 have l:=Q.len;have R:=h.aC;have f7:=h.gr.size;refine rG (PA.mk λw1 S s1 g1=>⟨_,_,_,ae g1 rfl,λT U W Y Z w'=>∃(g:Nat) (i:dS) (e:List aj) (G:XN),Z=g/\g<=t.length/\T=t.length-g/\ie t [] V D=ie (t.drop g) e i D/\i.bD.length=V.bD.length+g/\e.length<=g*262144/\
  aO oA 55 G w' U W Y e/\cw w0 w' p q i D (λP=>X P\/G P)/\ak (fA X) w w'/\∀P,G P->w.heap.size<=P,
  ⟨_,0,V,[],λ_=>False,rfl,Qj _,rfl,rfl,rfl,Qj _,aO.nil w1,(h.ah S).mono λP b=>b.elim id λh=>h.elim,ai.af S,λ_ h=>h.elim⟩,?_⟩)
 rintro T U W Y Z _ w2 ⟨g,i,e,G,rfl,hj,rfl,a4,g0,a0,m,hN,r,u⟩;rw[a4];refine an.dec (λg2=>?_) (λg3=>?_)
 rotate_left
 ·obtain rfl:g=t.length:=oM
  rw[List.drop_of_length_le (Q4 _)];exact Ok.mk ⟨_,_,_,G,rfl,m,hN,r,u,QO oM a0⟩
 obtain⟨P,E,no,rfl,n,j,F⟩:=(Q.af r λP b l=>l (c2 P b)).lb (i:=g) oM;have a2:t.drop g=no::t.drop (g+1):=by
  obtain⟨c4,rfl⟩:=Qv.1 n;exact X4 c4
 rw[a2]at a4⊢;refine⟨P,E,rfl,oM,oM,no,F,λw3 d3=>?_⟩;have k3:ai w2 w3:=d3.af;have H:=hN.ah k3;obtain⟨G3,c8,d0,g4⟩:=id H;obtain⟨a3,n3,c3,E3,d1,-,-,-⟩:=d0.row;refine⟨λ_=>False,q,0,rfl,id,_,ae d1 rfl,PC.ok (lL (C.ah H.gr) j) ?_⟩;rintro _ w4 ⟨rfl,z⟩;have d2:=H.ah z;refine⟨_,rfl,z,PC.ok ((c8.ah z).read (k:=aF no)) ?_⟩;rintro _ w5 ⟨a5,n5,c5,F5,rfl,d4,g5,-,I⟩;have v:=d2.ah I;have x:ai w2 w5:=(k3.then z).then I;have g6:=d4.len dC;have g7:=ER v.ok (aF no);refine⟨_,_,_,_,rfl,I,an.dR (λd5=>?_) (λhe=>?_)⟩
 ·rw[show ie (no::t.drop (g+1)) e i D=⟨0,e,i,D⟩ by unfold ie;rw[Zx d5]]
  exact Ok.mk ⟨_,_,_,G,rfl,m.ah x,v,r.ah x,u,QO oM a0⟩
 obtain⟨G5,d6,d7,g8⟩:=id v;obtain⟨g9,h0,h2,E5,d8,-,-,-⟩:=d7.row;obtain⟨a7,e0,-,-,-⟩:=id d6;refine⟨q,0,rfl,_,ae d8 rfl,PC.ok (MS (C.ah v.gr) e0 j) ?_⟩;rintro _ w6 ⟨a6,n6,c6,F6,rfl,s,J,K,a8⟩;have e1:cw w0 w6 p q i D (λP=>(X P\/G P)\/F6 P):=v.add J λP b=>⟨K P b,s.aC P b⟩
 have b0:=x.then J;have e2:=m.aC;generalize e3:bQ (D.read (dV (aM no))).1=sl at s a8;obtain⟨k,o⟩:=sl;dsimp only at s a8;have a1:bQ (D.read (aF no)).1=(k,o):=e3;have b1:Row oA 96 w6 F6 a6 n6 k:=s.row dC ba;refine⟨_,_,_,_,rfl,tf (m.ah b0) zQ b1 (λL=>s.OQ L) (λP b=>⟨s.aC P b,λF=>by have:=e2 P (m.self P F);have:=K P b;have:=x.size;omega⟩) ba (by unfold maxLen;omega) λa9 c7 w7 A b2 M b3 _=>?_⟩;have h3:=x.size;have z6:=J.size;have b4:=b2.aC;have e4:cw w0 w7 p q i D (λP=>X P\/A P):=e1.ft M (λP b=>⟨.inl (.inr (m.self P b)),by have:=u P (m.self P b);omega⟩) λP b=>by
  rcases b with b|b
  ·exact⟨.inl (.inl (.inl b)),by have:=R P b;have:=r.size;have:=M.size;omega⟩
  ·refine⟨?_,b4 P b⟩
   rcases b3 P b with h|h|h
   ·exact .inl (.inl (.inr h))
   ·exact .inl (.inr h)
   ·exact .inr h
 have e5:ak (fA X) w w7:=(r.ah b0).then (M.mono λP _ b n=>by have:=u P (m.self P b);have:=R P n;omega);have b5:∀P,A P->w.heap.size<=P:=λP b=>by
  have:=r.size;rcases b3 P b with h|h|h
  ·exact u P h
  ·have:=K P h;omega
  ·omega
 refine⟨_,_,_,rfl,MQ e4 j oM λw8 b6 k8=>?_⟩;have b7:ak (fA X) w w8:=e5.then (k8.mono λP _ b n=>b (.inl n));have b8:=b2.af k8 λP b l=>l (.inr b);refine an.dec (λf5=>?_) (λf6=>?_)
 ·rw[show ie (no::t.drop (g+1)) e i D=⟨(D.EG (aF no) o).1,e++k,⟨i.size,i.bD++[no],o,i.next⟩,(D.EG (aF no) o).2⟩ by
   unfold ie;rw[a1,Zq (by simpa using he),Zx (by show o<_;omega)]]
  intro w9 d9;have N:ai w8 w9:=d9.af;have b9:=b6.ah N;obtain⟨G9,e6,O,e7⟩:=id b9;obtain⟨c9,n9,f0,E9,e8,-,-,-⟩:=O.row;refine⟨λP=>P≠q,q,0,rfl,λhs=>hs rfl,_,ae e8 rfl,PC.ok (lL (C.ah b9.gr) j) ?_⟩;rintro _ e9 ⟨rfl,y⟩;refine⟨_,rfl,y.af,PC.ok ((e6.ah y).EG (k:=aF no)) ?_⟩;rintro _ f2 ⟨rfl,c0,B⟩;have c1:ak (fA X) e9 f2:=B.mono λP _ b n=>b (.inl (.inl n));refine⟨_,rfl,B.mono λP _ b L=>b (.inr (L▸O.self)),Ok.mk ⟨_,_,_,A,rfl,?_,⟨G9,c0,(O.ah y).af B λP b l=>l (.inr b),e7⟩,((b7.ah N).ah y).then c1,b5,?_⟩⟩
  ·exact((b8.ah N).ah y).af B λP b l=>l (.inl (.inr b))
  ·exact QO (j:=g+1) oM bc
 ·refine⟨_,?_,g+1,⟨i.size,i.bD++[no],o,i.next⟩,e++k,A,aq oM,oM,rfl,?_,by simp;omega,by simp;omega,b8,b6,b7,b5⟩
  ·omega
  ·conv=>lhs;unfold ie
   rw[a1,Zq (by simpa using he),Zq (by show¬o<_;omega)]
end
def Hh:jW:=⟨[(2,[(10,XH 0)])],[],[],[],[]⟩
def Hi(j:(∃g:Nat->Int->XU,(∃f,g f 0 b)/\∀(f:Nat) (P:Int) (r:Nat->Value) (h:World),g f P h->an (decide (P<(a:Int))) ((ix_ d P a λk l=>PS h (ad k (l+Int.toNat P*5+1)) (.ii e) λm=>(ix_ d P a λn p=>PS m (ad n (p+Int.toNat P*5+2)) (.ii o) λq=>(∃i,i<f/\g i (XG .i64 (P+1)) q)))) (rt z ((.slice d a c)) h))):ZG 103 #[.ii e,.ii o,.slice d a c] b z:=DC Hh Tryz.func103 rfl j
def x_:jW:=⟨[(2,[(7,XH 0)]),(5,[(8,XH 0)]),(10,[(9,XH 0)])],[],[],[],[]⟩
def yb(A:PA b (.cells #[.slice c6 a c,.slice g2 i q] 25) λD=>(∃m:Nat->Int->XU,(∃g,m g (-1) D)/\∀(g:Nat) (e:Int) (Z:Nat->Value) (h:World),m g e h->(rS h (ab_ b 0) λa4 B a5=>an (decide (e<=(B:Int))) ((∃n:Nat->Int->XU,(∃j,n j 0 h)/\∀(j:Nat) (P:Int) (a6:Nat->Value) (o:World),n j P o->an (decide (P<4)) (PC_ 30 #[.pointer d,.ii e,.ii P] o (kX_ 46 λC G=>PC_ 30 #[.pointer r,.ii e,.ii P] G (kX_ 46 λE F=>PC_ 52 #[C,E] F (kB λH s=>an (!H) (rt z ((.bool false)) s) (PC_ 53 #[.pointer d,.ii e,.ii P,.ii P] s (kX_ 46 λI J=>PC_ 53 #[.pointer r,.ii e,.ii P,.ii P] J (kX_ 46 λK L=>PC_ 52 #[I,K] L (kB λM t=>an (!M) (rt z ((.bool false)) t) ((∃u,u<j/\n u (XG .i64 (P+1)) t))) (pE z)) (pE z)) (pE z))) (pE z)) (pE z)) (pE z)) ((∃v,v<g/\m v (XG .i64 (e+1)) o)))) ((∃p:Nat->Int->XU,(∃k,p k (-1) h)/\∀(k:Nat) (f:Int) (a7:Nat->Value) (l:World),p k f l->(rS l (ab_ b (0+1)) λa8 N a9=>an (decide (f<=(N:Int))) (PC_ 54 #[.pointer d,.ii f,.ii (-9223372036854775808)] l (kX_ 46 λO Q=>PC_ 54 #[.pointer r,.ii f,.ii (-9223372036854775808)] Q (kX_ 46 λR S=>PC_ 52 #[O,R] S (kB λT w=>an (!T) (rt z ((.bool false)) w) (PC_ 54 #[.pointer d,.ii f,.ii 2] w (kX_ 46 λU V=>PC_ 54 #[.pointer r,.ii f,.ii 2] V (kX_ 46 λW X=>PC_ 52 #[U,W] X (kB λY x=>an (!Y) (rt z ((.bool false)) x) ((∃y,y<k/\p y (XG .i64 (f+1)) x))) (pE z)) (pE z)) (pE z))) (pE z)) (pE z)) (pE z)) (rt z ((.bool true)) l))))))):ZG 19 #[.pointer d,.pointer r,.agg #[.slice c6 a c,.slice g2 i q]] b z:=DC x_ Tryz.func19 rfl A
def nJ:jW:=⟨[(12,[(12,XH 0)]),(18,[(14,.slice none 0 0),(15,XH 0)]),(25,[(18,XH 0)])],[(23,[(16,XH 0)])],[],[],[(30,⟨[0,0,0,6,9,0,0,64,160,272,1023],[2047,2047,2047,2041,2038,2047,2047,1983,1887,1775,1501],[2,0,0,0,2,0,0,0,0,2,0]⟩)]⟩
def nK{G F H I:ZH}{J K L M k c7 f c8:Nat}(a0:PA b (.cells #[.slice G J K,.slice F L M] 25) λc9=>PC_ 8 #[.ii 2] c9 (kX_ 29 λd0 d=>PA d (.cells #[.ii 0,.ii 0,.ii 0,.ii 0,.ii 0,.ii 0,.ii 0,.ii 0,.slice none 0 0,.slice none 0 0] 29) λd1=>St 29 (ab_ d 0) d0 d1 λw=>(∃N O Q R S T,w.cell? (ab_ b 0)=some (.slice N O Q)/\w.cell? (ab_ b (0+1))=some (.slice R S T)/\PS w (ab_ d (0+8)) (.slice N O Q) λd2=>PS d2 (ab_ d (0+8+1)) (.slice R S T) λd3=>PS d3 (ab_ d (0+1)) (.ii 262144) λd4=>PS d4 (ab_ d (0+2)) (.ii 65536) λU=>(Ld 29 (ab_ d 0) U λd5=>PC_ 9 #[d5,.slice none 0 0] U (kB λd6 g=>an d6 (PC_ 10 #[] g (kB λd7 d8=>rt z ((.bool d7)) d8) (pE z)) (an (decide ((k:Int)>20)) (PC_ 10 #[] g (kB λd9 e0=>rt z ((.bool d9)) e0) (pE z)) (an (decide ((f:Int)>100)) (PC_ 10 #[] g (kB λe1 e2=>rt z ((.bool e1)) e2) (pE z)) ((Ld 29 (ab_ d 0) g λe3=>PC_ 12 #[e3] g (kX_ 29 λe4 e5=>PC_ 11 #[e4,.ii 0] e5 (λe6 V=>∃l m,e6= .tuple #[.pointer l,.ii m]/\(Ld 29 (ab_ d 0) V λe7=>PC_ 12 #[e7] V (kX_ 29 λe8 e9=>PC_ 11 #[e8,.ii 1] e9 (λf0 h=>∃n o,f0= .tuple #[.pointer n,.ii o]/\an (m !=0) (an (m==o) (PC_ 10 #[] h (kB λf1 f2=>rt z ((.bool f1)) f2) (pE z)) (rt z ((.bool false)) h)) (an (o !=0) (an (m==o) (PC_ 10 #[] h (kB λf3 f4=>rt z ((.bool f3)) f4) (pE z)) (rt z ((.bool false)) h)) ((∃x:Nat->Int->XU,(∃p,x p 0 h)/\∀(p:Nat) (i:Int) (j6:Nat->Value) (q:World),x p i q->an (decide (i<(k:Int))) ((ix_ H i k λf5 f6=>(Ld 49 (ad f5 (f6+Int.toNat i*7)) q λf7=>PC_ 13 #[.pointer l,f7] q (kX_ 46 λj7 f8=>(∃W,W<p/\x W (XG .i64 (i+1)) f8)) (pE z)))) (PC_ 14 #[.pointer l] q (kS_ λX Y Z f9=>PC_ 15 #[.slice X Y Z] f9 (kS_ λg0 g1 g2 g3=>(∃y:Nat->ZH->Nat->Nat->Int->XU,(∃r,y r g0 g1 g2 0 g3)/\∀(r:Nat) (s:ZH) (e:Nat) (j:Nat) (A:Int) (j8:Nat->Value) (t:World),y r s e j A t->an (decide ((e:Int)>0)) ((∃B:Int->XU,(an (decide ((f:Int)>0)) (PR_ (eq_ .rem 3 (.tmp 88) (.tmp 90) (.ii A) (.ii (f:Int))) t (kI_ λa2 a3=>(ix_ I a2 f λg4 g5=>(rI a3 (ad g4 (g5+Int.toNat a2)) λg6=>PC_ 16 #[.ii g6,.ii (e:Int)] a3 (kI_ λg7 g8=>B g7 g8) (pE z)))) (pV z)) (B 0 t))/\∀(c:Int) (j9:Nat->Value) (P:World),B c P->(ix_ s c e λg9 h0=>(Ld 55 (ad g9 (h0+Int.toNat c*10)) P λh1=>PA P (.cells #[.ii 0,.ii 0,.ii 0,.slice none 0 0,.ii 0,.ii 0,.ii 0,.ii 0,.ii 0,.ii 0] 55) λh2=>St 55 (ab_ P 0) h1 h2 λh3=>(∃D:Nat->Int->XU,(∃u,D u 0 h3)/\∀(u:Nat) (C:Int) (k1:Nat->Value) (a:World),D u C a->an (decide (C<2)) ((∃a4 a5 a6 a7 a8 a9 b0 b1 b2 b3 b4 b5,a.cell? (ab_ P 0)=some (.ii a4)/\a.cell? (ab_ P (0+1))=some (.ii a5)/\a.cell? (ab_ P (0+2))=some (.ii a6)/\a.cell? (ab_ P (0+3))=some (.slice a7 a8 a9)/\a.cell? (ab_ P (0+4))=some (.ii b0)/\a.cell? (ab_ P (0+5))=some (.ii b1)/\a.cell? (ab_ P (0+6))=some (.ii b2)/\a.cell? (ab_ P (0+7))=some (.ii b3)/\a.cell? (ab_ P (0+8))=some (.ii b4)/\a.cell? (ab_ P (0+9))=some (.ii b5)/\PA a (.cells #[.ii a4,.ii a5,.ii a6,.slice a7 a8 a9,.ii b0,.ii b1,.ii b2,.ii b3,.ii b4,.ii b5] 55) λh4=>PC_ 17 #[.pointer n,.agg #[.ii 3,.ii 0,.ii 1,.slice none 0 0,.slice (some (ab_ a 0)) 1 1]] h4 (λh5 b6=>∃h6 h7 h8 b7,h5= .tuple #[.slice h6 h7 h8,.ii b7]/\an (b7 !=0) (rt z ((.bool false)) b6) ((∃b8,b8<u/\D b8 (XG .i64 (C+1)) b6))) (pE z))) ((∀E,bG a E->((0:Int)<=c/\(c:Int)<=(j:Int)/\((0:Int)<=(XG .i64 (c+1))/\((XG .i64 (c+1)):Int)<=(e:Int)/\PA E (.cells #[] 55) λh9=>PR_ (ap_ 50 (.slice (some (ab_ E 0)) 0 0) (.slice s (Int.toNat c) j)) h9 (kS_ λi0 i1 i2 i3=>PR_ (ap_ 50 (.slice i0 i1 i2) (.slice (bY s (Int.toNat (XG .i64 (c+1))) j 10) (e-Int.toNat (XG .i64 (c+1))) (j-Int.toNat (XG .i64 (c+1))))) i3 (kS_ λi4 i5 i6 i7=>(∃b9,b9<r/\y b9 i4 i5 i6 (XG .i64 (A+1)) i7)) (pY z)) (pY z)))))))))) (PC_ 14 #[.pointer n] t (kS_ λi8 i9 j0 j1=>PC_ 18 #[.slice i8 i9 j0,.slice X Y Z] j1 (kB λj2 v=>an j2 ((∃c0 c1 c2 c3 c4 c5,v.cell? (ab_ b 0)=some (.slice c0 c1 c2)/\v.cell? (ab_ b (0+1))=some (.slice c3 c4 c5)/\PC_ 19 #[.pointer l,.pointer n,.agg #[.slice c0 c1 c2,.slice c3 c4 c5]] v (kB λj3 c6=>an j3 (PC_ 10 #[] c6 (kB λj4 j5=>rt z ((.bool j4)) j5) (pE z)) (rt z ((.bool false)) c6)) (pE z))) (rt z ((.bool false)) v)) (pE z)) (pE z)))) (pE z)) (pE z)))))) (pE z)) (pE z))) (pE z)) (pE z)))))) (pE z)))) (pE z)):ZG 3 #[.agg #[.slice G J K,.slice F L M],.slice H k c7,.slice I f c8] b z:=DC nJ Tryz.func3 rfl a0
def lM(D:al)(P:Int):dS:=⟨P,[],0,tA D⟩
def told(D:al):List Int:=(fr D).getD []
def ki(a:Nat)(P:vb):vb:=
 if P.no≠0 then P else
 if P.V.bD=[]then⟨(aX P.V P.D).1,P.out,(aX P.V P.D).2.1,(aX P.V P.D).2.2⟩else
 if P.V.bD.length<a then⟨(bH P.D P.V.bD).1,P.out,P.V,(bH P.D P.V.bD).2⟩else P
def br(D:al)(P:Int):vb:=ki (told D).length (ie (told D) [] (lM D P) D)
def OS(f c:World)(g:Nat)(d:XN)(P:vb)(h:Value)(a:World):Prop:=
 (P.no≠0/\h= .tuple #[.pointer none,.slice none 0 0,XH P.no]/\bC f a g P.D d/\ak (fA d) c a)\/
 (P.no=0/\∃e i j k G,h= .tuple #[XL e,.slice i j k,XH 0]/\aO oA 55 G a i j k P.out/\cw f a g e P.V P.D (λb=>d b\/G b)/\ak (fA d) c a/\(∀b,G b->c.heap.size<=b)/\c.heap.size<=e/\P.out.length<=16777216)
def MT{D:al}(t:Laid b)(j:bC b k a D f):
  ZG 74 #[XL a,XH e] k (Ok (OS b k a f (br D e))):=by
 have T:∀P,f P->P<k.heap.size:=by obtain⟨a0,h1,h2,h3,h4⟩:=j;exact h4
 have d0:=j.gr.size;obtain⟨a0,hF,-,-,-⟩:=id j;refine Ae (PC.ok (EZ (t.ah j.gr) hF) ?_);rintro _ g ⟨rfl,H⟩;have U:=j.ah H;have d1:=Bu D.list;refine⟨_,rfl,PA.mk λw2 V s2 g2=>PC.ok ((U.ah V).jF t.oX) ?_⟩;rintro _ u ⟨y,z,W,A,rfl,X,Y,-,I⟩;have z1:=H.size;have z3:=I.size
 change aO aJ 3 A u y z W (told D)at X
 have d2:(told D).length<=64:=KH;have b4:ai g u:=V.then I;refine⟨_,_,_,_,rfl,PA.mk λw4 k4 s4 g4=>PS.mk g4 sM λm k5 s5 Z=>⟨_,_,_,ae Z rfl,?_⟩⟩;have b5:m.heap[u.heap.size]? =some (.cells #[.slice y z W] 230 (0,0)):=Z;have J:ai u m:=k4.new k5 λP c=>.inr oM;have a7:ai g m:=b4.then J;have a8:ai k m:=H.then a7;have b6:=J.get (I.get g2 id) id;have a9:=X.ah J
 let K:XN:=λP=>f P\/(A P\/P=u.heap.size)
 have b7:cw b m a g.heap.size (lM D e) D K:=by
  refine⟨(·=g.heap.size),U.ft a7 (Y:=λ_=>False) (λP c=>c.elim) λP c=>?_,⟨⟨none,0,0,λ_=>False,b6,aO.nil m,λ_ j=>j.elim⟩,rfl,λP c=>oM,Qj _,?_⟩,λP c=>⟨oM,λE=>?_⟩⟩
  ·rcases c with(c|c|c)|c
   ·exact⟨.inl c,by have:=T P c;omega⟩
   ·exact⟨.inr (by have:=Y P c;omega),a9.aC P c⟩
   ·exact⟨.inr oM,oM⟩
   ·exact⟨.inr oM,oM⟩
  ·show aP (tL D.list);unfold aP;omega
  ·subst c
   rcases E with E|E|E
   ·have:=T _ E;omega
   ·have:=Y _ E;omega
   ·omega
 have L:Row aJ 8 m A y z (told D):=a9.row dC ba;refine PC.ok (MR t b7 L (λP c=>.inr (.inl c)) (by show 0+_<=_;omega)) ?_;rintro _ M ⟨a6,n6,c6,n,rfl,B,v,N,b8,b0⟩;have z5:=a8.size;have hq:k.heap.size<=g.heap.size:=z1;have O:ak (fA f) k M:=(ai.af a8).then (N.mono λP _ c E=>c (.inl E));have g6:=N.get b5 λl=>l (.inr (.inr rfl));have b9:Row aJ 8 M A y z (told D):=L.af N λP c l=>l (.inr (.inl c));have d3:=L.len;show _;unfold br;generalize ie (told D) [] (lM D e) D=h at B v b0;have b1:∀P,n P->k.heap.size<=P:=λP c=>by have:=b8 P c;omega
 refine⟨_,_,_,_,rfl,λno o=>∃p q,ki (told D).length h=⟨no,h.out,p,q⟩/\aO oA 55 n o a6 n6 c6 h.out/\cw b o a g.heap.size p q (λP=>f P\/n P)/\ak (fA f) k o,?_,?_⟩
 ·have d:∀{o p q},cw b o a g.heap.size p q (λP=>K P\/n P)->cw b o a g.heap.size p q (λP=>f P\/n P):=λj=>j.mono λP c=>c.imp .inl id
  refine an.dR (λr=>⟨h.V,h.D,by unfold ki;rw[Zx r],B,d v,O⟩) (λw=>?_);obtain⟨GL,c0,b2,c1⟩:=id v;obtain⟨aL,nL,cL,EL,Q,b3,c2,c4⟩:=b2.row;refine⟨_,_,rfl,_,_,_,ae Q rfl,an.eB (λhz=>?_) (λc5=>?_)⟩
  ·have R:h.V.bD=[]:=QW oM
   refine PC.ok (By t v) ?_;rintro _ C ⟨rfl,s,i⟩;exact⟨_,rfl,_,_,by unfold ki;rw[Zq (by simpa using w),Zx R],B.af i λP c l=>l (.inr c),d s,O.then (i.mono λP _ c E=>c (.inl (.inl E)))⟩
  ·have r:¬h.V.bD=[]:=λa1=>c5 (by rw[c4,a1];rfl)
   refine⟨_,_,rfl,_,_,_,ae Q rfl,_,_,_,ae g6 rfl,λC d7=>?_⟩;have i:ai M C:=d7.af;have s:=v.ah i;have F:=B.ah i;have x:ak (fA f) k C:=O.ah i;refine an.dec (λd4=>?_) (λd5=>⟨_,_,by unfold ki;rw[Zq (by simpa using w),Zq r,Zq oM],F,d s,x⟩);have c7:=i.get Q id;refine⟨_,_,rfl,_,_,_,ae c7 rfl,PC.ok ((c0.ah i).bH t.oX (b3.ah i) (Jp b3) λP c=>.inr (.inr (c2 P c).1)) ?_⟩;rintro _ w8 ⟨rfl,c8,S⟩;have c9:cw b w8 a g.heap.size h.V (bH h.D h.V.bD).2 (λP=>K P\/n P):=⟨GL,c8,(b2.ah i).af S λP c l=>l (.inr c),c1⟩
   exact⟨_,rfl,_,_,by unfold ki;rw[Zq (by simpa using w),Zq r,Zx oM],F.af S λP c l=>l (.inl (.inr c)),d c9,x.then (S.mono λP _ c E=>c (.inl (.inl (.inl E))))⟩
 ·rintro no _ C ⟨p,q,R,F,s,x⟩
  rw[R];refine an.dR (λr=>Ok.mk (.inl ⟨r,rfl,s.u_.mono λP c=>.inl c,x⟩)) (λw=>Ok.mk (.inr ⟨w,g.heap.size,a6,n6,c6,n,by rfl,F,s,x,b1,hq,b0⟩))
def mL(P:aj):Bool:=decide (64<P.aK.length)
def bd(a:dS)(D:al)(b:List aj):Int×dS×al:=
 if b.any mL then(3,a,D)else if b=[]then(0,a,D)else
 let P:=if a.size<=a.bytes then aX a D else(0,a,D)
 if P.1≠0 then P else
 let c:=P.2.2.append P.2.1.last (bk b)
 if c.1≠0 then(c.1,P.2.1,c.2)else(0,⟨P.2.1.size,P.2.1.bD,XG .i64 (P.2.1.bytes+((bk b).length:Nat)),P.2.1.next⟩,c.2)
def qJ{D:al}(P:(aX b3 D).1=0):(aX b3 D).2.1.bD≠[]:=by
 have d:∀a:al,(kV b3 a).1=0->(kV b3 a).2.1.bD≠[]:=by
  intro a;unfold kV;dsimp only;split
  ·rename_i b;intro P;exact Zz P b
  ·split
   ·rename_i b;intro P;exact Zz P b
   ·intro _;simp
 have c:∀a:al,(bZ b3 a).1=0->(bZ b3 a).2.1.bD≠[]:=by
  intro a;unfold bZ;dsimp only;split
  ·rename_i b;intro P;exact Zz P b
  ·exact d _
 revert P
 unfold aX;dsimp only;split
 ·exact c D
 ·split
  ·rename_i b;intro P;exact Zz P b
  ·exact c _
def OP(P:l.Ok)(a:l.aK.length<=64):(wQ l).length<=675:=by
 have:=Jo P a;have b:=vH P a;unfold wQ at*;rw[jE];omega
def yQ(P:List aj)(a:aj):bk (P++[a])=bk P++wQ a:=by simp[bk]
def HV{D:al}{v b6:Nat}(V:Laid b)(u:cw b k a c b3 D f)(d0:b3.bD≠[])(hr:Row gO 96 k a6 d v K)(d1:∀P,a6 P->P<k.heap.size)(hl:K.length<=20000000):
  ZG 91 #[XL c,.slice d v b6] k (Ok (Bw b k a c f (bd b3 D K))):=by
 have z:=hr.len;have e9:=u.aC;refine qd ⟨λa4 J L W a5 w=>∃(h:Nat) (x:XN),a5=h/\h<=v/\a4=v-h/\(∀g∈K.take h,g.Ok/\g.aK.length<=64)/\(bk (K.take h)).length<=675*h/\aO fF 5 x w J L W (bk (K.take h))/\ai k w/\∀P,x P->k.heap.size<=P,
  ⟨_,0,λ_=>False,rfl,Qj _,rfl,sM,by simp[bk],aO.nil k,ak.refl _,λ_ u=>u.elim⟩,?_⟩
 rintro a4 J L W a5 _ X ⟨h,x,rfl,hj,rfl,Z,d4,p,m,hF⟩;have a7:=p.len dC;refine an.dec (λd5=>?_) (λd6=>?_)
 ·obtain⟨P,a0,g,es,rfl,_,_,q,j,c0,n1,c1,rfl,hd,M⟩:=(hr.ah m).vB (i:=h) oM
  have n:=λi (hi:i<10)=>j i hi;refine⟨P,a0,rfl,oM,oM,_,_,_,_,_,_,_,_,_,_,_,_,n 0 dC,n 1 dC,n 2 dC,n 3 dC,n 4 dC,n 5 dC,n 6 dC,n 7 dC,n 8 dC,n 9 dC,PA.mk λA B s2 g2=>?_⟩;refine storeAll (aB g c0 n1 c1) g2 rfl λC r s3 o=>?_;have y:ai X C:=B.new r λP e=>.inr oM;refine⟨_,_,_,_,_,_,_,_,_,_,_,_,ae o rfl,ae o rfl,ae o rfl,ae o rfl,ae o rfl,ae o rfl,ae o rfl,ae o rfl,ae o rfl,ae o rfl,?_⟩;refine PC.ok (KG (V.ah ((u.gr.then m).then y)) (hd.ah y) M λP e=>by have:=d1 P e;have:=(m.then y).size;omega) ?_;rintro _ w4 ⟨c3,n4,f0,F4,rfl,s,t,b4⟩
  by_cases N:g.aK.length<=64
  ·have a8:=vH M N
   rw[a8]at s⊢;have f1:=OP M N;refine⟨_,_,_,_,rfl,an.dR (λj=>Zz rfl j) (λ_=>?_)⟩;have a9:=y.then t;have c4:Row fF 1 w4 F4 c3 n4 (wQ g):=s.row (bytes:=1) dC (by unfold aN;dsimp only;omega);have f2:=a9.size;have f3:=y.size;refine tf (p.ah a9) sk c4 (λg=>s.OQ g) (λP e=>⟨s.aC P e,λj=>by have:=p.aC P (p.self P j);have:=b4 P e;omega⟩) ba (by unfold maxLen;omega) λb5 c5 w5 F5 b0 d7 d8 _=>?_;have b1:K.take (h+1)=K.take h++[g]:=by rw[Qw,q];rfl
   refine⟨_,_,_,rfl,v-(h+1),oM,h+1,F5,aq oM,oM,rfl,?_,?_,?_,(m.then a9).new d7 λP e=>.inr (by have:=hF P (p.self P e);omega),?_⟩
   ·rw[b1]
    intro c6 a1;rcases Q6.1 a1 with Y|Y
    ·exact Z c6 Y
    ·simp at Y;subst Y;exact⟨M,N⟩
   ·rw[b1,yQ];simp;omega
   ·rw[b1,yQ];exact b0
   ·intro P e
    have:=m.size;rcases d8 P e with Y|Y|Y
    ·exact hF P Y
    ·have:=b4 P Y;omega
    ·omega
  ·have a8:=Fe N
   rw[a8]at s⊢;refine⟨_,_,_,_,rfl,an.dR (λ_=>?_) (λj=>Zz j dC)⟩;have d2:K.any mL=true:=List.any_eq_true.2 ⟨g,QZ q,by unfold mL;simp;omega⟩;refine Ok.mk ?_;rw[show bd b3 D K=(3,b3,D) by unfold bd;rw[Zx d2]];have b7:=(m.then y).then t;exact⟨rfl,u.ah b7,ai.af b7⟩
 ·obtain rfl:h=v:=oM
  rw[Qz oM]at Z d4 p a7;have b8:K.any mL=false:=by
   rw[<-Bool.not_eq_true];intro j;obtain⟨g,he,h2⟩:=List.any_eq_true.1 j;have:=(Z g he).2;unfold mL at h2;simp at h2;omega
  refine an.eB (λhz=>?_) (λd9=>?_)
  ·have he:K=[]:=QW oM
   refine Ok.mk ?_;rw[show bd b3 D K=(0,b3,D) by unfold bd;rw[Zq (by simp[b8]),Zx he]];exact⟨rfl,u.ah m,ai.af m⟩
  have e0:K≠[]:=λg=>d9 (by rw[z,g];rfl)
  let E:XN:=λP=>f P\/x P
  have b9:cw b X a c b3 D E:=u.add m λP e=>⟨hF P e,p.aC P e⟩
  have d3:bd b3 D K=if(if b3.size<=b3.bytes then aX b3 D else(0,b3,D)).1≠0 then(if b3.size<=b3.bytes then aX b3 D else(0,b3,D))else
    if((if b3.size<=b3.bytes then aX b3 D else(0,b3,D)).2.2.append (if b3.size<=b3.bytes then aX b3 D else(0,b3,D)).2.1.last (bk K)).1≠0 then(((if b3.size<=b3.bytes then aX b3 D else(0,b3,D)).2.2.append (if b3.size<=b3.bytes then aX b3 D else(0,b3,D)).2.1.last (bk K)).1,(if b3.size<=b3.bytes then aX b3 D else(0,b3,D)).2.1,((if b3.size<=b3.bytes then aX b3 D else(0,b3,D)).2.2.append (if b3.size<=b3.bytes then aX b3 D else(0,b3,D)).2.1.last (bk K)).2)
    else(0,⟨(if b3.size<=b3.bytes then aX b3 D else(0,b3,D)).2.1.size,(if b3.size<=b3.bytes then aX b3 D else(0,b3,D)).2.1.bD,XG .i64 ((if b3.size<=b3.bytes then aX b3 D else(0,b3,D)).2.1.bytes+((bk K).length:Nat)),(if b3.size<=b3.bytes then aX b3 D else(0,b3,D)).2.1.next⟩,((if b3.size<=b3.bytes then aX b3 D else(0,b3,D)).2.2.append (if b3.size<=b3.bytes then aX b3 D else(0,b3,D)).2.1.last (bk K)).2):=by
   unfold bd;rw[Zq (by simp[b8]),Zq e0]
  obtain⟨GL,f4,e2,f5⟩:=id b9;obtain⟨aL,nL,cL,EL,gL,f6,f7,g0⟩:=e2.row;rw[d3];refine⟨λw=>∃F O,(if b3.size<=b3.bytes then aX b3 D else(0,b3,D))=(0,F,O)/\F.bD≠[]/\cw b w a c F O E/\ak (fA f) k w/\aO fF 5 x w J L W (bk K),?_,?_⟩
  ·refine⟨c,0,rfl,_,ae gL rfl,c,0,rfl,_,ae gL rfl,λA e1=>?_⟩
   have B:ai X A:=e1.af;have Q:=b9.ah B;have R:=p.ah B;have S:ak (fA f) k A:=ai.af (m.then B);refine an.dec (λd6=>?_) (λd5=>⟨b3,D,by rw[Zq oM],d0,Q,S,R⟩);refine PC.ok (By V Q) ?_;rintro _ C ⟨rfl,H,r⟩;have c2:ak (fA f) k C:=S.then (r.mono λP _ e q=>e (.inl q));have a2:(if b3.size<=b3.bytes then aX b3 D else(0,b3,D))=aX b3 D:=Zx oM;rw[a2];refine⟨_,rfl,an.dR (λa3=>?_) (λT=>⟨_,_,by rw[<-T],qJ T,H,c2,R.af r λP e z=>z (.inr e)⟩)⟩;rw[Zx a3];exact Ok.mk ⟨rfl,H.mono λP e=>.inl e,c2⟩
  ·rintro _ A ⟨F,O,a2,e3,Q,S,R⟩ C e4
   rw[a2];have r:ai A C:=e4.af;have H:=Q.ah r;have e5:=R.ah r;obtain⟨G3,e6,U,I⟩:=id H;obtain⟨f8,n3,f9,E3,e7,-,-,-⟩:=U.row;refine⟨λP=>P≠c,c,0,rfl,λhs=>hs rfl,_,ae e7 rfl,PC.ok (E_ (V.ah H.gr) U e3) ?_⟩;rintro _ w4 ⟨rfl,t⟩;have s:=e5.ah t;have e8:Row fF 1 w4 x J L (bk K):=s.row (bytes:=1) dC ba;refine⟨_,rfl,t.af,PC.ok ((e6.ah t).append e8 (λg=>s.OQ g) λP e=>.inr (.inl (.inr e))) ?_⟩;rintro _ w5 ⟨rfl,b2,k5⟩;have l:=(U.ah t).af k5 λP e z=>z (.inr e);have c7:ak (fA f) k w5:=((S.ah r).ah t).then (k5.mono λP _ e q=>e (.inl (.inl q)));refine⟨_,rfl,k5.mono λP _ e g=>e (.inr (g▸U.self)),?_⟩;rw[Zq (λj:((0,F,O):Int×dS×al).1≠0=>j rfl)];refine an.dR (λa3=>?_) (λT=>?_)
   ·rw[Zx a3]
    exact Ok.mk ⟨rfl,cw.mono (X:=E) ⟨G3,b2,l,I⟩ λP e=>.inl e,c7⟩
   ·rw[Zq (by simpa using T)]
    obtain⟨b5,n5,c5,E5,c8,b0,c9⟩:=l.body;refine⟨c,0,rfl,_,ae c8 rfl,c,0,rfl,PS.mk c8 sM λw6 k6 s6 g6=>Ok.mk ⟨rfl,?_,c7.then (k6.mono λP _ e q=>(I P (e▸l.self)).2 (.inl q))⟩⟩;rw[a7]at g6;refine cw.mono (X:=E) ⟨G3,b2.ft k6 (λP e=>⟨.inr (e▸l.self),(I P (e▸l.self)).1⟩) (λP e=>⟨.inl e,by have:=(e.elim (cw.aC (X:=E) ⟨G3,b2,l,I⟩ P) (l.aC P):P<w5.heap.size);omega⟩),⟨⟨b5,n5,c5,E5,g6,b0.af k6 λP e g=>(c9 P e).2 g,c9⟩,l.self,λP e=>by have:=l.aC P e;omega,l.many,l.Bv⟩,I⟩ λP e=>.inl e
def iw(P:List UInt8):cD:=⟨P,P.length,true⟩
structure cG (D:al):Prop where
 dead:D.dead=false
 lE:D.lE=false
section
variable {D E:al} {k:ByteArray} {l:List Int}
def Ex(D:al)(P:al->Int×al):D.op P=(15,D.gone)\/D.op P=P D.cE:=by
 unfold al.op;split
 ·exact .inl rfl
 ·exact .inr rfl
def cG.op(a:cG D)(P:al->Int×al):D.op P=P D:=by
 unfold al.op al.dies al.cE;rw[a.dead,a.lE]
 rfl
def cG.same(P:cG D)(a:E.dead=D.dead)(b:E.lE=D.lE):cG E:=⟨a.trans P.dead,b.trans P.lE⟩
def Ey(P:cD):P.cut P.bytes.length=iw P.bytes:=by
 have a:jv (P.bytes.length:Int) P.bytes.length=P.bytes.length:=by unfold jv;omega
 simp[cD.cut,a,iw]
def mr(D:al)(k:ByteArray):((D.create k).1≠0/\(D.create k).2.files=D.files)\/((D.create k).1=0/\cJ k=true/\az D.files k=none/\(D.create k).2.files=aG D.files k ⟨[],0,false⟩):=by
 unfold al.create;rcases Ex D λD=>if cJ k then(if(az D.files k).isSome then(16,D)else if 64<=D.files.length then(12,D)else(0,D.ef k ⟨[],0,false⟩))else(1,D)with h|h
 ·rw[h];exact .inl ⟨sM,rfl⟩
 ·rw[h]
  have P:=ei D;split
  ·rename_i a
   split
   ·exact .inl ⟨sM,P⟩
   ·split
    ·exact .inl ⟨sM,P⟩
    ·rename_i b _
     refine .inr ⟨rfl,a,?_,?_⟩
     ·rw[<-P];simpa using b
     ·show aG D.cE.files k _=_;rw[P]
  ·exact .inl ⟨sM,P⟩
def cG.create(P:cG D)(k:ByteArray):cG (D.create k).2/\(cJ k=true->az D.files k=none->(D.create k).1=0\/(D.create k).1=12):=by
 unfold al.create;rw[P.op];split
 ·split
  ·rename_i d b;exact⟨P,λ_ a=>by rw[a]at b;cases b⟩
  ·split
   ·exact⟨P,λ_ _=>.inr rfl⟩
   ·exact⟨P.same rfl rfl,λ_ _=>.inl rfl⟩
 ·rename_i a;exact⟨P,λc=>Zz c a⟩
def sW(D:al)(k:ByteArray)(P:al->cD->Int×al):((D.op (al.As k P)).1≠0/\(D.op (al.As k P)).2.files=D.files)\/∃a,az D.files k=some a/\D.op (al.As k P)=P D.cE a:=by
 rcases Ex D (al.As k P)with h|h
 ·rw[h];exact .inl ⟨sM,rfl⟩
 ·rw[h]
  unfold al.As;rw[ei];split
  ·exact .inl ⟨sM,ei D⟩
  ·rename_i a b;exact .inr ⟨a,b,rfl⟩
def cG.on(a:cG D)(b:az D.files k=some W)(P:al->cD->Int×al):D.op (al.As k P)=P D W:=by
 rw[a.op];unfold al.As;rw[b]
def cG.SV(a:cG D){P:al->cD->Int×al}(b:∀c,cG (P D c).2):cG (D.op (al.As k P)).2:=by
 rw[a.op];unfold al.As;split
 ·exact a
 ·exact b _
def yk(D:al)(k:ByteArray)(a:List UInt8):((D.append k a).1≠0/\(D.append k a).2.files=D.files)\/((D.append k a).1=0/\∃P,az D.files k=some P/\(D.append k a).2.files=aG D.files k {P with bytes:=P.bytes++a}):=by
 unfold al.append;rcases sW D k λD P=>if(a.length:Int)>D.room then(12,D)else(0,D.ef k {P with bytes:=P.bytes++a})with b|⟨P,c,b⟩
 ·exact .inl b
 ·rw[b]
  split
  ·exact .inl ⟨sM,ei D⟩
  ·exact .inr ⟨rfl,P,c,by show aG D.cE.files k _=_;rw[ei]⟩
def cG.append(P:cG D)(k:ByteArray)(a:List UInt8):cG (D.append k a).2/\∀b,az D.files k=some b->(D.append k a).1=0\/(D.append k a).1=12:=by
 refine⟨?_,λb c=>?_⟩
 ·unfold al.append
  refine P.SV λb=>?_;split
  ·exact P
  ·exact P.same rfl rfl
 ·unfold al.append
  rw[P.on c];split
  ·exact .inr rfl
  ·exact .inl rfl
def oy(D:al)(k:ByteArray):((D.sync k).1≠0/\(D.sync k).2.files=D.files)\/((D.sync k).1=0/\∃P,az D.files k=some P/\(D.sync k).2.files=aG D.files k (iw P.bytes)):=by
 unfold al.sync;rcases sW D k λD P=>(0,D.ef k (P.cut P.bytes.length))with a|⟨P,b,a⟩
 ·exact .inl a
 ·rw[a,Ey];exact .inr ⟨rfl,P,b,by show aG D.cE.files k _=_;rw[ei]⟩
def cG.sync(P:cG D)(k:ByteArray):cG (D.sync k).2/\∀a,az D.files k=some a->(D.sync k).1=0:=by
 refine⟨?_,λa b=>?_⟩
 ·unfold al.sync;exact P.SV λa=>P.same rfl rfl
 ·unfold al.sync;rw[P.on b]
def yl(D:al)(k:ByteArray):(D.delete k).2.files=D.files\/(D.delete k).2.files=bO D.files k:=by
 unfold al.delete;rcases sW D k λD a=>(0,D.sX k)with P|⟨a,b,P⟩
 ·exact .inl P.2
 ·rw[P];exact .inr (by show bO D.cE.files k=_;rw[ei])
def cG.delete(P:cG D)(k:ByteArray):cG (D.delete k).2/\((D.delete k).2.files=bO D.files k\/(az D.files k=none/\(D.delete k).2.files=D.files)):=by
 unfold al.delete;refine⟨P.SV λb=>P.same rfl rfl,?_⟩;rw[P.op];unfold al.As;split
 ·rename_i a;exact .inr ⟨a,rfl⟩
 ·exact .inl rfl
def uP(k:ByteArray)(D E:al):Prop:=Tidy E.files/\∀P,P≠k->az E.files P=az D.files P
def uP.refl(P:Tidy D.files):uP k D D:=⟨P,λ_ _=>rfl⟩
def uP.of(P:uP k D E){a:al}(b:a.files=E.files):uP k D a:=⟨by rw[b];exact P.1,λc d=>by rw[b];exact P.2 c d⟩
def uP.put(P:uP k D E){a:al}(b:a.files=aG E.files k W):uP k D a:=⟨by rw[b];exact P.1.aG _ _,λd c=>by rw[b,b_,Zq (by simpa using c)];exact P.2 d c⟩
def uP.del(P:uP k D E){F:al}(a:F.files=bO E.files k):uP k D F:=⟨by rw[a];exact P.1.bO _,λc b=>by rw[a,jh P.1,Zq (by simpa using b)];exact P.2 c b⟩
def uP.clean(P:uP aR D E):uP aR D (dH E).2:=by
 unfold dH;split
 ·rcases yl E aR with e|e
  ·exact P.of e
  ·exact P.del e
 ·exact P
def Oc(D:al)(l:List Int)(P:Int×al):Prop:=(P.1≠0/\uP aR D P.2)\/
  (P.1=0/\l.length<=64/\Tidy P.2.files/\az P.2.files cQ=some (iw (cR l))/\∀a,a≠aR->a≠cQ->az P.2.files a=az D.files a)
def Oc.step{a k:Nat}{r:Int×al}(g:mY l a E=r)(b:r.1≠0->uP aR D r.2)(c:r.1=0->Oc D l (mu l (a+1) k r.2)):Oc D l (mu l a (k+1) E):=by
 rw[mu,g];split
 ·rename_i P;exact .inl ⟨P,(b P).clean⟩
 ·rename_i P;exact c (by simpa using P)
def Mc(o:Tidy D.files)(l:List Int):Oc D l (bH D l):=by
 unfold bH;split
 ·exact .inl ⟨sM,uP.refl o⟩
 rename_i z;have i:uP aR D (dH D).2:=(uP.refl o).clean;refine Oc.step (r:=dH D) rfl (λ_=>i) λ_=>?_;generalize(dH D).2=e at i;have B:=mr e aR;refine Oc.step (r:=e.create aR) rfl (λd=>?_) λu=>?_
 ·rcases B with B|B
  ·exact i.of B.2
  ·exact Zz B.1 d
 rcases B with B|⟨_,_,_,B⟩
 ·exact Zz u B.1
 have k:uP aR D (e.create aR).2:=i.put B;have p:az (e.create aR).2.files aR=some ⟨[],0,false⟩:=by rw[B,b_];simp
 generalize(e.create aR).2=f at k p;have b:=yk f aR (cR l);refine Oc.step (r:=f.append aR (cR l)) rfl (λd=>?_) λv=>?_
 ·rcases b with b|b
  ·exact k.of b.2
  ·exact Zz b.1 d
 rcases b with b|⟨_,j,c,b⟩
 ·exact Zz v b.1
 rw[p]at c;cases c
 have m:uP aR D (f.append aR (cR l)).2:=k.put b;have q:az (f.append aR (cR l)).2.files aR=some ⟨cR l,0,false⟩:=by rw[b,b_];simp
 generalize(f.append aR (cR l)).2=g at m q;have F:=oy g aR;refine Oc.step (r:=g.sync aR) rfl (λd=>?_) λw=>?_
 ·rcases F with F|F
  ·exact m.of F.2
  ·exact Zz F.1 d
 rcases F with F|⟨_,j,c,F⟩
 ·exact Zz w F.1
 rw[q]at c;cases c
 have h:uP aR D (g.sync aR).2:=m.put F;have r:az (g.sync aR).2.files aR=some (iw (cR l)):=by rw[F,b_];simp
 generalize(g.sync aR).2=P at h r;have a:((P.rename aR cQ).1≠0/\(P.rename aR cQ).2.files=P.files)\/((P.rename aR cQ).1=0/\(P.rename aR cQ).2.files=aG (bO P.files aR) cQ (iw (cR l))):=by
  unfold al.rename;rcases sW P aR λD j=>if cJ cQ then(0,(D.sX aR).ef cQ {j with Au:=true})else(1,D)with n|⟨j,c,n⟩
  ·exact .inl n
  ·rw[n,Zx Ez]
   rw[r]at c;cases c
   exact .inr ⟨rfl,by show aG (bO P.cE.files aR) cQ _=_;rw[ei];rfl⟩
 refine Oc.step (r:=P.rename aR cQ) rfl (λd=>?_) λx=>?_
 ·rcases a with a|a
  ·exact h.of a.2
  ·exact Zz a.1 d
 rcases a with a|⟨_,a⟩
 ·exact Zz x a.1
 refine .inr ⟨rfl,oM,?_,?_,λs t y=>?_⟩
 ·show Tidy (P.rename aR cQ).2.files;rw[a];exact(h.1.bO _).aG _ _
 ·show az (P.rename aR cQ).2.files cQ=_;rw[a,b_];simp
 ·show az (P.rename aR cQ).2.files s=_
  rw[a,b_,Zq (by simpa using y),jh h.1,Zq (by simpa using t)];exact h.2 s t
def Od(P:Int×al):Prop:=cG P.2/\(P.1=0\/P.1=3\/P.1=12)
def cG.clean(P:cG D):cG (dH D).2:=by
 unfold dH;split
 ·exact(P.delete _).1
 ·exact P
def Ho(b:cG D)(P:Tidy D.files):(dH D).1=0/\az (dH D).2.files aR=none/\Tidy (dH D).2.files:=by
 unfold dH;split
 ·rename_i a
  obtain⟨e,c⟩:=Option.isSome_iff_exists.1 a;have d:D.delete aR=(0,D.sX aR):=by unfold al.delete;rw[b.on c]
  rw[d];exact⟨rfl,by show az (bO _ _) _=_;rw[jh P];simp,P.bO _⟩
 ·rename_i a;exact⟨rfl,by simpa using a,P⟩
def Od.step{P k:Nat}{r:Int×al}(g:mY l P E=r)(a:cG r.2)(b:r.1=0\/r.1=3\/r.1=12)(c:r.1=0->Od (mu l (P+1) k r.2)):Od (mu l P (k+1) E):=by
 rw[mu,g];split
 ·exact⟨a.clean,b⟩
 ·rename_i d;exact c (by simpa using d)
def cG.bH(i:cG D)(s:Tidy D.files)(l:List Int):Od (bH D l):=by
 unfold Go.Proofs.YtblabbpipmodgaaGreatDoor.bH;split
 ·exact⟨i,.inr (.inl rfl)⟩
 obtain⟨z1,p,t⟩:=Ho i s;have j:=i.clean;refine Od.step (r:=dH D) rfl j (.inl z1) λ_=>?_;generalize(dH D).2=e at j p t;have P:=mr e aR;obtain⟨k,u⟩:=j.create aR;refine Od.step (r:=e.create aR) rfl k ((u Oe p).imp id .inr) λv=>?_;rcases P with P|⟨_,_,_,P⟩
 ·exact Zz v P.1
 have q:az (e.create aR).2.files aR=some ⟨[],0,false⟩:=by rw[P,b_];simp
 generalize(e.create aR).2=f at k q;have a:=yk f aR (cR l);obtain⟨m,w⟩:=k.append aR (cR l);refine Od.step (r:=f.append aR (cR l)) rfl m ((w _ q).imp id .inr) λx=>?_;rcases a with a|⟨_,b,A,a⟩
 ·exact Zz x a.1
 have g:∃b,az (f.append aR (cR l)).2.files aR=some b:=by rw[a,b_];simp
 generalize(f.append aR (cR l)).2=h at m g;obtain⟨B,g⟩:=g;have c:=oy h aR;obtain⟨d,y⟩:=m.sync aR;refine Od.step (r:=h.sync aR) rfl d (.inl (y _ g)) λz=>?_;rcases c with c|⟨_,b,C,c⟩
 ·exact Zz z c.1
 have r:az (h.sync aR).2.files aR=some (iw b.bytes):=by rw[c,b_];simp
 generalize(h.sync aR).2=n at d r;have o:n.rename aR cQ=(0,(n.sX aR).ef cQ {iw b.bytes with Au:=true}):=by
  unfold al.rename;rw[d.on r,Zx Ez]
 refine Od.step (r:=n.rename aR cQ) rfl (by rw[o];exact d.same rfl rfl) (.inl (by rw[o])) λE=>?_;rw[o];exact⟨d.same rfl rfl,.inl rfl⟩

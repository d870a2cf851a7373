import Derived.Test.YtjgjkeponbeekaaGreatDoorKd15
set_option linter.all false
set_option maxHeartbeats 4000000
set_option maxRecDepth 100000
open Go.IntKind renaming wrap→ZG
namespace Go.Proofs.YtjgjkeponbeekaaGreatDoor
open Go.ar
variable{X o:Array Value}{t:ZT}{A:FuncId}{B T e m:Int}{d9:Int×Int}{L e5:List aj}{a c:Nat}{F:Nat×Nat}{U Y:Operand}{d s:YQ}{h:Program}{g r:TypeId}{b:World}{O q:aj}{H:aw}
def WE(n:Ki h g r):(do eqGuard .eql g U Y (.agg #[ZH e,ZH m]) (.agg #[ZH B,ZH T]);binOp .eql g (.agg #[ZH e,ZH m]) (.agg #[ZH B,ZH T]):Sem Value).run h b= .ok (.bool (e==B&&m==T)) b:=by
 rw[Sem.run_bind,run_eqGuard_agg b .eql _ U Y _ _ n.hm,Result.andThen_ok,run_eql_struct];have:=n.equalIn 9998 (e,m) (B,T) b;unfold oY at this;rw[this];rfl
section
variable {w w':World} {p:Nat} {F T D:ZN} {d:aN} {every:Nat} {l l2:List aj}
def HG(U:cV w p F d every l)(V:eP b)(J:ai b w)(K:∀P,F P->b.heap.size<=P){L:YQ}(M:Row jF 96 w D L a l2)(e2:a<=c)(z:∀P,D P->P<w.heap.size/\¬F P)(e3:l2.length<=20000000)(b2:∀(W:Nat) (g j:aj),l[W]? =some g->l2[W]? =some j->aZ g=aZ j->g=j):
  YX 75 #[ZL p,.slice L a c] w (Ok λb3 w'=>∃A:Int,b3= ZH A/\∃h,cV w' p h d every l2/\bB F w h w'):=by
 have hn:=M.len;have X:=U;obtain⟨⟨h1,h2,h3,h4⟩,e0,b6,e4,B⟩:=U;have e5:=aM.len (B.at' 2) dC;have e6:=B.aC;refine pX ⟨λi w'=>∃n:Nat,i=n/\n<=l.length/\n<=l2.length/\l.take n=l2.take n/\ai w w',?_,?_⟩
 ·refine⟨λe i w'=>∃n:Nat,i=n/\n<=l.length/\n<=l2.length/\e=l.length-n/\l.take n=l2.take n/\ai w w',⟨_,0,rfl,Qj _,Qj _,rfl,rfl,ak.refl _⟩,?_⟩
  rintro e _ _ w9 ⟨n,rfl,Y,Z,rfl,m,t⟩;have h9:=dN.ah B t;have a4:=h9.bk;refine⟨p,0,rfl,_,_,_,ae a4 rfl,al.dec (λN=>?_) (λa5 c1 C=>⟨n,rfl,Y,Z,m,t.then C.af⟩)⟩;have a6:n<l.length/\n<l2.length:=by split at N<;>omega
  have k:l[n]? =some l[n]:=Qq a6.1;have E:l2[n]? =some l2[n]:=Qq a6.2;generalize l[n]=g at k;generalize l2[n]=j at E;obtain⟨P,o,es,O,c2,c3,H,ya,yn,yc,rfl,e7,e1⟩:=(M.ah t).el n j E;obtain⟨b7,o2,e8,c4,e9,f0,a0,u,v,x,rfl,a7,a1⟩:=(aM.row (bytes:=96) (h9.at' 2) dC (by unfold aK;omega)).el n g k;have y0:=H 0 dC;have y1:=H 1 dC;have x0:=a0 0 dC;have x1:=a0 1 dC;refine⟨P,o,O,oM,oM,_,_,y0,y1,p,0,rfl,_,_,_,ae a4 rfl,b7,o2,c4,oM,oM,_,_,x0,x1,(j.origin==g.origin&&j.seq==g.seq),λe=>WE Mj,λc1 C=>al.mk (λQ=>⟨_,?_,n+1,aq oM,oM,oM,rfl,?_,t.then C.af⟩) (λ_=>⟨n,rfl,Y,Z,m,t.then C.af⟩)⟩
  ·omega
  ·simp only[QK,beq_iff_eq]at Q
   have c5:=b2 n g j k E (by simp[aZ,Q.1,Q.2]);rw[Qw,Qw,m,k,E,c5]
 rintro _ _ f1 ⟨i,rfl,c6,c7,m,q⟩;have c8:=dN.ah B q;have b9:=c8.bk;have f2:=q.size;refine⟨λw'=>∃e h,e<=l2.length/\cV w' p h d every (l2.take e)/\bB F w h w',⟨p,0,rfl,_,_,_,ae b9 rfl,al.dec (λN=>?_) (λa5=>?_)⟩,?_⟩
 ·refine PC.ok (Nl (X.ah q) V (J.then q) K c6) ?_
  rintro _ f3 ⟨rfl,h,R,a9⟩;have b0:i/every*every<=i:=Nat.div_mul_le_self ..;refine⟨rfl,_,h,Xx b0 c7,?_,(ai.af q).then a9.af,λP f=>(a9.new P f).imp id oM⟩;have:l.take (i/every*every)=l2.take (i/every*every):=by
   have:=Zj (List.take (i/every*every)) m
   rwa [List.take_take,List.take_take,X2 b0]at this
  rw[<-this];exact R
 ·have c9:i=l.length:=oM
  refine⟨l.length,F,oM,?_,ai.af q,λP f=>.inl f⟩;rw[c9,List.take_length]at m;rw[<-m];exact X.ah q
 rintro _ f4 ⟨e,F1,hm,b1,a2⟩;have c0:=b1;obtain⟨-,q1,f5,f6,b4⟩:=b1;have a3:=aM.len (b4.at' 2) dC;rw[Qy,X2 hm]at a3;have f7:=a2.af.size;refine⟨p,0,rfl,_,_,_,ae b4.bk rfl,oM,oM,?_⟩;rw[Qx,a3];refine⟨λA s w'=>∃(n:Nat) (h:ZN),s=n/\n<=a-e/\A=a-e-n/\cV w' p h d every (l2.take (e+n))/\bB F w h w',⟨_,0,F1,rfl,Qj _,rfl,c0,a2⟩,?_⟩;rintro A _ _ b5 ⟨n,S,rfl,hj,rfl,T,r⟩;refine al.dec (λN=>?_) (λa5=>?_)
 ·have d0:e+n<l2.length:=oM
  have k:l2[e+n]? =some l2[e+n]:=Qq d0;generalize l2[e+n]=g at k;have d1:=M.af r.af λP f=>(z P f).2;obtain⟨P,o,es,O,c2,c3,H,u,v,x,rfl,a7,a1⟩:=d1.el (e+n) g k;have d2:cI L e c 10=some ⟨P,o+e*10,none⟩:=by rw[O];exact fM oM
  have f8:=r.af.size;refine⟨P,o+e*10,d2,oM,oM,bA (es:=aE g u v x) (k:=10) (aX g u v x) rfl (λs ht=>by rw[Qx];have:=H s ht;rw[show o+e*10+n*10+s=o+(e+n)*jF.k+s by show _=o+(e+n)*10+s;omega];exact this) (PA.mk λg1 d3 g2 d4=>az (aX g u v x) d4 rfl λb8 d5 g3 d6=>au (aX g u v x) d6 ?_)⟩;have I:ai b5 b8:=d3.new d5 λP f=>.inr (by have f:P=b5.heap.size:=f;omega);have a8:bB F w S b8:=⟨r.af.ah I,r.new⟩
  have d7:∀P,D P->¬S P:=λP f hf=>by
   rcases r.new P hf with y|y
   ·exact(z P f).2 y
   ·have:=(z P f).1;omega
  refine PC.ok (Pm (T.ah I) V (J.new a8.af λP f=>.inr (K P f)) (λP f=>?_) (by rw[Qy];omega) (a7.ah I) (λP f=>⟨by have:=(z P f).1;have:=I.size;omega,d7 P f⟩) a1) ?_
  ·rcases r.new P f with y|y
   ·exact K P y
   ·have:=J.size;omega
  rintro _ g4 ⟨rfl,F3,d8,d9⟩;refine⟨rfl,_,?_,n+1,F3,aq oM,oM,rfl,?_,a8.trans d9⟩
  ·omega
  ·rw[show e+(n+1)=e+n+1 by omega,Qw,k];exact d8
 ·rw[Qz oM]at T
  exact Ok.mk ⟨_,rfl,S,T,r⟩
end
def DD:fL:=⟨[(3,[(23,ZH 0)]),(7,[(32,ZH 0)]),(15,[(75,ZH 0)])],[],[17],[17],[(17,⟨[0,0,2,4,8,16,0,64,128,416,1023,2047,3071,5119],[16383,16383,16381,16379,16375,16367,16383,16319,16255,16095,16382,15359,14335,11775],[0,0,0,0,0,1,1,2,2,2,0,0,0,2]⟩)]⟩
def CX{z A B D:Nat}(a0:PA b (.cells #[.slice d z A,.slice s B D] 25) λC=>(rS C (ab_ b (0+1)) λa7 a8 a9=>PC_ 103 #[.slice a7 a8 a9] C (kS_ λb0 b1 b2 n=>PA n (.cells #[.slice none 0 0,.slice b0 b1 b2,.ii (if e>1 then e else 1),.slice none 0 0,.pointer none,.slice none 0 0,.slice none 0 0] 202) λE=>(rS E (ab_ b 0) λb3 G g5=>(∃p:Nat->Int->ZU,(∃j,p j 0 E)/\∀(j:Nat) (g:Int) (g6:Nat->Value) (P:World),p j g P->al (decide (g<(G:Int))) ((ix_ b3 g G λb4 b5=>(rS P (ad b4 (b5+Int.toNat g)) λb6 b7 b8=>PA P (.cells #[.slice none 0 0] 118) λb9=>PS b9 (ab_ P 0) (.slice b6 b7 b8) λF=>(rS F (ab_ P 0) λc0 c1 c2=>PC_ 104 #[.slice c0 c1 c2] F (kS_ λq k c3 c4=>(∃r:Nat->Int->ZU,(∃l,r l 0 c4)/\∀(l:Nat) (a:Int) (g7:Nat->Value) (c:World),r l a c->al (decide (a<(k:Int))) ((ix_ q a k λc5 c6=>(rS c (ad c5 (c6+Int.toNat a*4+3)) λc7 c8 c9=>PC_ 102 #[.slice c7 c8 c9] c (kS_ λd0 d1 d2 d3=>(ix_ q a k λd4 d5=>PS d3 (ad d4 (d5+Int.toNat a*4+3)) (.slice d0 d1 d2) λd6=>(∃H,H<l/\r H (ZG .i64 (a+1)) d6))) (pE t)))) ((∃I J,((some (ab_ n 0)):YQ)=some ⟨I,J,none⟩/\(rS c (ad I J) λd7 d8 d9=>PA c (.cells #[.slice q k c3] 118) λe0=>PR_ (ap_ 22 (.slice d7 d8 d9) (.slice (some (ab_ c 0)) 1 1)) e0 (kS_ λe1 e2 e3 e4=>(∃K L,((some (ab_ n 0)):YQ)=some ⟨K,L,none⟩/\PS e4 (ad K L) (.slice e1 e2 e3) λe5=>(∃M,M<j/\p M (ZG .i64 (g+1)) e5))) (pV t)))))) (pE t))))) ((∃u v,((some (ab_ n 0)):YQ)=some ⟨u,v,none⟩/\(∃N O Q R S T,P.cell? (ad u v)=some (.slice N O Q)/\P.cell? (ad u (v+1))=some (.slice R S T)/\PC_ 105 #[.agg #[.slice N O Q,.slice R S T]] P (kP λe6 e7=>(∃U V,((some (ab_ n 0)):YQ)=some ⟨U,V,none⟩/\PS e7 (ad U (V+4)) (.pointer e6) λW=>(∃X Y,((some (ab_ n 0)):YQ)=some ⟨X,Y,none⟩/\(rS W (ad X (Y+1)) λe8 Z g8=>(∃w:Nat->Int->ZU,(∃m,w m 0 W)/\∀(m:Nat) (h:Int) (g9:Nat->Value) (f:World),w m h f->al (decide (h<(Z:Int))) ((ix_ e8 h Z λe9 f0=>(Ld 138 (ad e9 (f0+Int.toNat h*5)) f λf1=>PA f (.cells #[.ii 0,.ii 0,.ii 0,.ii 0,.ii 0] 138) λf2=>St 138 (ab_ f 0) f1 f2 λf3=>(∀i,aV f3 i->∃x:ZN,(∃y a2,((some (ab_ n 0)):YQ)=some ⟨y,a2,none⟩/\(¬x y/\(rS i (ad y (a2+4+1)) λf4 f5 f6=>(Ld 138 (ab_ f 0) i λf7=>PC_ 106 #[f7] i (kP λf8 o=>(ak x i o/\PA o (.cells #[.pointer f8] 205) λa3=>(ak x o a3/\PR_ (ap_ 197 (.slice f4 f5 f6) (.slice (some (ab_ o 0)) 1 1)) a3 (kS_ λf9 g0 g1 g2=>(∃a4 a5,((some (ab_ n 0)):YQ)=some ⟨a4,a5,none⟩/\PS g2 (ad a4 (a5+4+1)) (.slice f9 g0 g1) λg3=>(∃a6,a6<m/\w a6 (ZG .i64 (h+1)) g3))) (pY t)))) (pZ t))))))))) (PC_ 107 #[.pointer (some (ab_ n 0))] f (k0_ λg4=>rt t ((.pointer (some (ab_ n 0)))) g4) (pE t))))))) (pE t))))))) (pE t))):YX 72 #[.agg #[.slice d z A,.slice s B D],.ii e] b t:=DC DD Tryz.func72 rfl a0
section
variable {w w':World} {p:Nat} {F T D:ZN} {d:aN} {every:Nat} {l l2:List aj}
def Po{d:aN}{ta pa:YQ}{tn tc pn pc:Nat}{ev:Int}(m:cU d=0)(g8:aJ ev)(hT:eP w)(o:bg w D d ta tn pa pn)(hD:∀n,D n->n<w.heap.size):
  YX 72 #[.agg #[.slice ta tn tc,.slice pa pn pc],ZH ev] w (Ok λe2 w'=>∃p F,e2= ZL p/\cV w' p F d (max 1 ev).toNat []/\(∀n,F n->w.heap.size<=n)/\ai w w'):=by
 have g9:=o.aU.len;have X:=o.aU.ef;have h0:=o.FE.len;have h3:=o.FE.ef;have e5:d.projs.length<=8:=(Ar (mT m).1).2.2.1;obtain⟨every,e6⟩:∃every:Nat,every=(max 1 ev).toNat:=⟨_,rfl⟩
 have e7:(if ev>1 then ev else 1)=(every:Int):=by split<;>omega
 have c0:0<every/\every<9223372036854775808:=by unfold aJ at g8;omega
 rw[<-e6];refine CX ?_;rw[e7];refine PA.mk λw1 k1 s1 g1=>⟨_,_,_,ae g1 rfl,PC.ok (p_ (o.FE.ah k1) λn B=>by have:=hD n B;omega) ?_⟩
 rintro _ P ⟨h,f,v,x,rfl,Y,k8,h4⟩;have z8:=k8.size;refine⟨_,_,_,rfl,PA.mk λc1 Z k9 h5=>?_⟩;have e8:ai w c1:=(k1.then k8).then Z;have ga:=Z.get (k8.get g1 id) id;have l0:=Z.size;refine⟨_,_,_,ae ga rfl,λq I w'=>∃a:Nat,I=a/\a<=tn/\q=tn-a/\ak (·=P.heap.size) c1 w'/\∃r s J j,w'.heap[P.heap.size]? =some (.cells #[.slice r s J,.slice h f v,ZH (every:Int),.slice none 0 0,.pointer none,.slice none 0 0,.slice none 0 0] 202 (0,0))/\aM mV 118 j w' r s J (d.types.take a)/\∀n,j n->c1.heap.size<=n,
  ⟨_,0,rfl,Qj _,rfl,ak.refl _,none,0,0,λ_=>False,h5,aM.nil _,λ_ o=>o.elim⟩,?_⟩
 rintro q _ _ y ⟨a,rfl,hj,rfl,kk,r,s,J,j,K,t,L⟩;have a7:ai w y:=e8.new kk λn B=>.inr oM;have zk:=kk.size;refine al.dec (λl4=>?_) (λl5=>?_)
 ·have d9:a<d.types.length:=oM
  obtain⟨n,a4,es,ha,B,h6,e9,fa,fn,fc,rfl,a8⟩:=(o.aU.ah a7).el a d.types[a] (by simp[d9]);have e0:d.types[a]? =some d.types[a]:=Qq d9;generalize d.types[a]=a0 at a8 e0;have c2:=e9 0 dC;have h7:mV.k=1:=rfl;rw[h7,Nat.mul_one]at c2;refine⟨n,a4,ha,oM,oM,fa,fn,fc,by rw[Qx];exact c2,PA.mk λl6 h8 l7 h9=>PS.mk h9 sM λe1 i0 l8 i1=>⟨_,_,_,ae i1 rfl,?_⟩⟩;have a1:ai y e1:=h8.new i0 λn B=>.inr oM;have f0:=a7.then a1;obtain⟨C,l1,l2,l3⟩:=eC.boxes (N:=Kj) a8;have c4:=a8.ef;refine PC.ok (qb (l2.ah a1) λn B=>by have:=hD n B;have:=f0.size;omega) ?_;rintro _ e3 ⟨a9,M,f1,F9,rfl,b0,e4,i2⟩;have l9:=a1.size;have m0:=e4.size;have a2:∀n,aD a9=some n->e1.heap.size<=n:=λn B=>i2 n (b0.self n B);have f4:∀n,aD a9=some n->n<e3.heap.size:=λn B=>b0.aC n (b0.self n B);refine⟨_,_,_,rfl,λq I w'=>∃a:Nat,I=a/\a<=M/\q=M-a/\dE Kj 121 e3 a9 M f1 C a w',⟨_,0,rfl,Qj _,rfl,dE.start b0.alone⟩,?_⟩;rintro q _ _ i3 ⟨c,rfl,g,rfl,z⟩;have m1:=z.len;have m2:C.length=a0.length:=by rw[<-l1];simp
  have i4:=a8.len;have N:ai y i3:=(a1.then e4).new z.af λn B=>.inr (by have:=a2 n B;omega);have m3:=z.af.size;refine al.dec (λf6=>?_) (λf7=>?_)
  ·obtain⟨a3,rfl⟩:=z.some oM
   have f9:=f4 a3 rfl;have a5:C[c]? =some C[c]:=Qq oM;have O:=l3 C[c] (XY oM);generalize C[c]=bx at a5 O;refine⟨a3,0,rfl,oM,oM,_,_,_,z.cell rfl a5 (by show M*4<=aK;unfold aK at c4⊢;omega) 3 _ rfl,PC.ok (tm (O.1.ah N) λn B=>by have:=hD n B;have:=(a7.then N).size;omega) ?_⟩;rintro _ m4 ⟨m5,m6,m7,G,rfl,c3,i5,i⟩;refine⟨_,_,_,rfl,a3,0,rfl,oM,oM,?_⟩;refine(z.ah i5).step (g:=a3) rfl a5 (c3.row (bytes:=32) dC ?_) O.2 (λu E=>⟨by have:=i u E;omega,c3.aC u E⟩) f9 λm8 g2 m9 n0=>⟨_,?_,c+1,aq (by unfold aK at c4;omega),oM,rfl,g2⟩
   ·have e:=O.1.ef
    have l:=O.1.len;show bx.x.bw.length*32<=aK;have n1:bx.n=bx.x.bw.length:=l;have n2:bx.n*32<=aK:=e;omega
   ·omega
  ·obtain rfl:c=M:=oM
   obtain⟨Fd,m,c6⟩:=z.done;rw[l1,HH]at m;have c5:=N.get K id;refine⟨P.heap.size,0,rfl,_,_,_,ae c5 rfl,HI (c:=mV) (x:=a0) (t.ah N) Pp (D:=Fd) ⟨_,_,_,rfl,m.row dC (by rw[<-i4];exact c4)⟩ (λn B=>⟨m.aC n B,λb=>?_⟩) ?_ ?_ λa' Q n3 F' g5 c7 f2 n4=>⟨_,_,_,rfl,P.heap.size,0,rfl,?_⟩⟩
   ·have e:=t.aC n (t.self n b)
    rcases c6 n B with l|l
    ·have:=a2 n l;omega
    ·omega
   ·have:=List.length_take_le a d.types;unfold aK at X⊢;omega
   ·have:=List.length_take_le a d.types;unfold aK at X;unfold maxLen;omega
   ·have i6:¬aD r=some P.heap.size:=λb=>by have:=L _ (t.self _ b);omega
    have i7:=c7.get c5 i6;have n5:=c7.size;refine PS.mk i7 sM λn6 f3 n7 i8=>⟨_,?_,a+1,aq (by unfold aK at X;omega),oM,rfl,?_,a',s+1,Q,F',i8,?_,?_⟩
    ·omega
    ·exact((kk.ah N).new c7 λn B=>.inr (L _ (t.self n B))).then f3
    ·rw[Qw,e0]
     refine g5.af f3 λn B b=>?_;rcases f2 n B with e|e|e
     ·have:=L n e;omega
     ·rcases c6 n e with l|l
      ·have:=a2 n l;omega
      ·omega
     ·omega
    ·intro n B
     rcases f2 n B with e|e|e
     ·exact L n e
     ·rcases c6 n e with l|l
      ·have:=a2 n l;omega
      ·omega
     ·omega
 ·obtain rfl:a=tn:=oM
  rw[Qz oM]at t;have h1:=(Y.ah Z).af kk λn B b=>by have:=Y.aC n B;omega
  have n8:P.heap.size<y.heap.size:=ax K;have f5:bg y (λn=>j n\/x n) d r s h f:=⟨(t.row (bytes:=24) dC (by rw[<-g9];exact X)).mono λn B=>.inl B,(h1.row (bytes:=40) dC (by rw[<-h0];exact h3)).mono λn B=>.inr B⟩
  have A:∀n,j n\/x n->w.heap.size<=n/\n<y.heap.size/\n≠P.heap.size:=λn B=>by
   rcases B with B|B
   ·have:=L n B;have:=t.aC n B;omega
   ·have:=h4 n B;have:=Y.aC n B;omega
  refine⟨P.heap.size,0,rfl,_,_,_,_,_,_,ae K rfl,ae K rfl,PC.ok (HJ m f5 λn B=>(A n B).2.1) ?_⟩;rintro _ i9 ⟨vp,R,rfl,hv,b1,b2⟩;have o0:=b2.size;have f8:=hv.aC;refine⟨_,rfl,P.heap.size,0,rfl,PS.mk (b2.get K id) sM λS c8 o1 g0=>⟨P.heap.size,0,rfl,_,_,_,ae g0 rfl,?_⟩⟩;have n9:=Y.len dC;have c9:bg S (λn=>j n\/x n) d r s h f:=(f5.ah b2).af c8 λn B b=>(A n B).2.2 b;have h2:cg S vp R (aW.new d):=hv.af c8 λn B b=>by have b:n=P.heap.size:=b;have:=b1 n B;omega
  refine⟨λq I w'=>∃(a:Nat) (ra:YQ) (T rc:Nat) (G:ZN),I=a/\a<=f/\q=f-a/\ak (·=P.heap.size) S w'/\w'.heap[P.heap.size]? =some (.cells #[.slice r s J,.slice h f v,ZH (every:Int),.slice none 0 0,ZL vp,.slice ra T rc,.slice none 0 0] 202 (0,0))/\
   cj w' G ra T rc ((d.projs.take a).map λp=>(⟨p,[]⟩:dq))/\∀n,G n->S.heap.size<=n/\n<w'.heap.size,⟨_,0,none,0,0,λ_=>False,rfl,Qj _,rfl,ak.refl _,g0,cj.nil _,λn B=>B.elim⟩,?_⟩
  rintro q _ _ b3 ⟨c,ra,T,rc,G,rfl,g,rfl,H,d0,b4,i⟩;have o2:=H.size;refine al.dec (λf6=>?_) (λf7=>?_)
  ·have j0:c<d.projs.length:=oM
   have E:d.projs[c]? =some d.projs[c]:=Qq j0;generalize d.projs[c]=u at E;obtain⟨n,a4,es,a6,d5,h6,b5,rfl,d6⟩:=(c9.af H λn B b=>(A n B).2.2 b).FE.el c u E;refine⟨n,a4,a6,oM,oM,bA (es:=nW u) (k:=5) (pU u) rfl (λa0 ht=>by rw[Qx];exact b5 a0 ht) (PA.mk λo3 j1 o4 j2=>az (pU u) j2 rfl λo5 j3 o6 j4=>λj5 g3=>⟨λ_=>False,P.heap.size,0,rfl,id,?_⟩)⟩;have d1:ai b3 j5:=(j1.new j3 λn B=>.inr (by have B:n=b3.heap.size:=B;omega)).then g3.af;refine⟨_,_,_,ae (d1.get d0 id) rfl,au (pU u) ((g3.af (S:=λ_=>False)).get j4 id) (PC.ok Pq ?_)⟩;rintro _ o7 ⟨p',r',rfl,d2,o8,o9,p0,p1,d3⟩;have j6:p'≠r':=λb=>by
    obtain⟨es,cl,hm,-⟩:=d2.map.at';have:=d2.at';rw[b,hm]at this;cases this
   have p2:=d3.size;have p3:=d1.size;refine⟨_,rfl,d3,PA.mk λp4 d4 p5 j7=>⟨d4,?_⟩⟩;have b6:=(d1.then d3).then d4;have j8:=b4.len;rw[Q8,Qy,X2 oM]at j8;refine(b4.ah b6).push (λn B=>by have:=(i n B).2;omega) (d2.ah d4) (λB=>by have:=(i _ B).2;omega) (λB=>by have:=(i _ B).2;omega) j6 Ph j7 (by rw[Q8,Qy];omega) λj9 k0 p6 G3 k2 g4 k3 k4=>⟨_,_,_,rfl,P.heap.size,0,rfl,?_⟩
   have k5:=g4.get (b6.get d0 id) λB=>by have:=(i _ B).1;omega
   have d7:∀n,G3 n->S.heap.size<=n:=λn B=>by
    rcases k3 n B with e|e|e|e
    ·exact(i n e).1
    ·omega
    ·omega
    ·omega
   refine PS.mk k5 sM λp7 g6 p8 k6=>⟨_,?_,c+1,j9,T+1,k0,G3,aq oM,oM,rfl,((H.ah b6).new g4 λn B=>.inr (i n B).1).then g6,k6,?_,λn B=>⟨d7 n B,by have:=k4 n B;omega⟩⟩
   ·omega
   ·rw[Qw,E,Q3]
    exact k2.af g6 λn B b=>by have b:n=P.heap.size:=b;have:=d7 n B;omega
  ·rw[Qz oM]at b4
   have k7:∃U,dN b3 (λn=>∃k,(match k with|0=>n=P.heap.size|1=>j n\/x n|3=>R n|4=>G n|_=>False:Prop)) U P.heap.size ⟨r,s,J,h,f,v,every,none,0,0,vp,ra,T,rc,none,0,0⟩ d (cz d []) (dQ d []).rows [] []:=by
    refine aP.join (G:=λk n=>match k with|0=>n=P.heap.size|1=>j n\/x n|3=>R n|4=>G n|_=>False) (λk=>?_) (λc a n g hj=>?_) λk n B=>?_
    ·match k with
     |0=>exact⟨rfl,d0⟩
     |1=>exact c9.af H λn B b=>(A n B).2.2 b
     |2=>exact aM.nil _
     |3=>exact h2.af H λn B b=>by have b:n=P.heap.size:=b;have:=b1 n B;omega
     |4=>exact b4
     |5=>exact aM.nil _
     |k+6=>trivial
    ·have V:∀c:Nat,(match c with|0=>n=P.heap.size|1=>j n\/x n|3=>R n|4=>G n|_=>False:Prop)->c=(if n=P.heap.size then 0 else if n<y.heap.size then 1 else if n<i9.heap.size then 3 else 4):=λc g=>by
      rcases c with _|_|_|_|_|c
      ·have g:n=P.heap.size:=g
       rw[Zx g]
      ·have:=A n g;rw[Zq oM,Zx oM]
      ·exact g.elim
      ·have:=b1 n g;have:=f8 n g;rw[Zq oM,Zq oM,Zx oM]
      ·have:=i n g;rw[Zq oM,Zq oM,Zq oM]
      ·exact g.elim
     rw[V c g,<-V a hj]
    ·rcases k with _|_|_|_|_|k
     ·have B:n=P.heap.size:=B
      omega
     ·have:=A n B;omega
     ·exact B.elim
     ·have:=f8 n B;omega
     ·have:=i n B;omega
     ·exact B.elim
   obtain⟨U,hq⟩:=k7;have b7:ai w b3:=(((a7.then b2).new c8 λn B=>.inr (by have B:n=P.heap.size:=B;omega)).new H λn B=>.inr (by have B:n=P.heap.size:=B;omega))
   have g7:∀n,(∃k,(match k with|0=>n=P.heap.size|1=>j n\/x n|3=>R n|4=>G n|_=>False:Prop))->w.heap.size<=n:=λn ⟨k,B⟩=>by
    rcases k with _|_|_|_|_|k
    ·have B:n=P.heap.size:=B
     omega
    ·exact(A n B).1
    ·exact B.elim
    ·have:=b1 n B;omega
    ·have:=i n B;omega
    ·exact B.elim
   refine PC.ok (Eb hq m (hT.ah b7) sM (by rw[pW];exact e5) sM sM) ?_;rintro _ p9 ⟨rfl,q',F',W,b8,b9,d8⟩;refine⟨rfl,Ok.mk ⟨P.heap.size,F',rfl,⟨⟨m,c0.1,c0.2,sM⟩,q',W,b9,?_⟩,λn B=>?_,b7.new d8.af λn B=>.inr (g7 n B)⟩⟩
   ·rw[Ps];simpa using b8
   ·rcases d8.new n B with e|e
    ·exact g7 n e
    ·have:=b7.size;omega
end
def Mk(e:aN)(P:List aj):∀n∈(dQ e P).rows,n.rows.length<=P.length:=by
 have:∀(P:List aj) (a:jU) (b:Nat),(∀n∈a.rows,n.rows.length<=b)->∀n∈(P.foldl jU.add a).rows,n.rows.length<=b+P.length:=by
  intro P
  induction P with
  |nil=>intro a b f n c;exact f n c
  |cons d P k=>
   intro a b f n c;have:=k (a.add d) (b+1) (λg h=>?_) n c
   ·simp only[Xq];omega
   ·obtain⟨i,j,rfl⟩:=Xk.1 (show g∈a.rows.map λn=>n.add (a.view.add d).1 (sI ((a.view.add d).2.state d.aU d.agg) n.p)from h)
    have m:=f i j;unfold dq.add;dsimp only;split
    ·omega
    ·split
     ·omega
     ·exact Xx (xU ..) oM
 intro n c;have:=this P (jU.new e) 0 (λg h=>by
  obtain⟨i,j,rfl⟩:=Xk.1 (show g∈e.projs.map λl=>(⟨l,[]⟩:dq)from h);exact Q4 0) n c
 omega
def iP(P:aN)(a:List aj)(n:Int):List dy:=if n<0 then []else match(dQ P a).rows[n.toNat]? with
 |none=>[]
 |some b=>b.list
section
variable {w w':World} {p:Nat} {F T D:ZN} {d:aN} {every:Nat} {l:List aj}
def Kk(r:cV w p F d every l):
  YX 402 #[ZL p,ZH e,ZH m] w (Ok λs w'=>∃a b c G,s= .tuple #[.agg #[ZH (((cz d l).state e m).getD Hz).version,.slice a b c],.bool ((cz d l).state e m).isSome]/\aM eG 78 G w' a b c (((cz d l).state e m).getD Hz).cells/\(∀n,G n->w.heap.size<=n)/\ai w w'):=by
 obtain⟨y,z,t,rfl,h⟩:=r;refine rW (PA.mk λA f B u=>⟨p,0,rfl,_,ae (dN.ah h f).bk rfl,PC.ok (nV ((dN.ah h f).at' 3)) ?_⟩);rintro _ C ⟨a,b,c,G,rfl,v,i,g⟩;have E:=g.size;refine⟨_,_,_,_,_,rfl,PS.mk (g.get u id) sM λH j I x=>PS.mk x sM λJ k K o=>⟨_,_,_,_,ae o rfl,ae o rfl,Ok.mk ⟨a,b,c,G,rfl,?_,λn P=>?_,?_⟩⟩⟩
 ·exact v.af (j.then k) λn P q=>by have q:n=w.heap.size:=q;have:=i n P;omega
 ·have:=i n P;omega
 ·exact(f.then g).new (j.then k) λn P=>.inr (by have P:n=w.heap.size:=P;omega)
def FG(P:cV w p F d every l):YX 400 #[ZL p] w (Ok (oZ wA 133 w (cz d l).entries)):=by
 obtain⟨a,h,b,rfl,n⟩:=P;refine o_ ⟨p,0,rfl,_,ae n.bk rfl,PC.ok (FH (n.at' 3) (wy d l a.2.2.2).1) ?_⟩;rintro _ i ⟨c,e,f,G,rfl,g⟩;exact⟨_,_,_,rfl,Ok.mk ⟨c,e,f,G,rfl,g⟩⟩
def No(i:cV w p F d every l):YX 401 #[ZL p,ZH e] w (Ok λj w'=>oZ HA 135 w (iP d l e) j w'/\ux (iP d l e)):=by
 obtain⟨k,B,m,rfl,P⟩:=i;have C:=cj.len (P.at' 4);refine tq (al.dec (λf=>Ok.mk ⟨⟨none,0,0,λ_=>False,rfl,?_,ak.refl _,λo a=>a.elim⟩,?_⟩) (λb=>⟨p,0,rfl,_,_,_,ae P.bk rfl,al.dec (λq=>Ok.mk ⟨⟨none,0,0,λ_=>False,rfl,?_,ak.refl _,λo a=>a.elim⟩,?_⟩) (λq=>?_)⟩))
 ·unfold iP;rw[Zx f];exact aM.nil _
 ·unfold iP;rw[Zx f];exact List.Pairwise.nil
 ·unfold iP;rw[Zq b,Q7 oM];exact aM.nil _
 ·unfold iP;rw[Zq b,Q7 oM];exact List.Pairwise.nil
 ·obtain⟨n,rfl⟩:∃n:Nat,e=n:=⟨e.toNat,oM⟩
  have c:(dQ d l).rows[n]? =some (dQ d l).rows[n]:=Qq oM;have g:(dQ d l).rows[n]∈(dQ d l).rows:=XY oM;have r:iP d l (n:Int)=(dQ d l).rows[n].list:=by unfold iP;rw[Zq b,Qx,c]
  rw[r];generalize(dQ d l).rows[n]=s at c g;obtain⟨t,E,H,u,v,h,-⟩:=cj.elem (P.at' 4) c;refine⟨p,0,rfl,_,_,_,ae P.bk rfl,t,0,u,oM,oM,_,by rw[Qx];exact v,PC.ok (Np h (Xx (Mk d l s g) k.2.2.2)) ?_⟩;rintro _ I ⟨x,y,z,G,rfl,A⟩;exact⟨_,_,_,rfl,Ok.mk ⟨⟨x,y,z,G,rfl,A⟩,h.Vq⟩⟩
end
structure aw.Cl (S:aw):Prop where
 ok:S.OK
 l_:∀e∈S.l,∀o,o<S.n->S.l_ e o=true
 le:∀e∈S.l,e.seq<=(S.FR e.origin.toNat:Int)
 has:∀(o:Nat) (s:Int),o<S.n->1<=s->s<=(S.FR o:Int)->∃e∈S.l,aZ e=((o:Int),s)
def AK:H.l_ q a=true↔q.aQ.getD a 0=0\/∃n,H.get ((a:Int),q.aQ.getD a 0)=some n/\n.aA<q.aA/\∀P,P<n.aQ.length->n.aQ.getD P 0<=q.aQ.getD P 0:=by
 unfold aw.l_;generalize q.aQ.getD a 0=b;dsimp only
 cases c:H.get ((a:Int),b)with
 |none=>simp
 |some n=>simp
def aw.Cl.new(n:a<=64):aw.Cl ⟨a,[]⟩:=⟨aw.tr n,sM,sM,λb c _ d P=>by simp[aw.FR]at P;omega⟩
def aw.Sk(n:aw.OK ⟨H.n,dm q H.l⟩)(P:H.get d9=some O):aw.get ⟨H.n,dm q H.l⟩ d9=some O:=by
 obtain⟨a,rfl⟩:=aw.get_some P;exact n.get ((dd q H.l).mem_iff.2 (QJ _ a))
def aw.jb(n:aw)(P:aj):((n.add P).1≠0/\(n.add P).2=n)\/(n.add P=(0,⟨n.n,dm P n.l⟩)/\cR P n.n=0/\n.get (aZ P)=none/\P.seq=n.vec.getD P.origin.toNat 0+1/\∀a,a<n.n->n.l_ P a=true):=by
 rw[aw.add_def];split
 ·rename_i b;exact .inl ⟨b,rfl⟩
 rename_i c;split
 ·exact .inl ⟨sM,rfl⟩
 rename_i d;split
 ·exact .inl ⟨sM,rfl⟩
 rename_i e;split
 ·exact .inl ⟨sM,rfl⟩
 rename_i f;refine .inr ⟨rfl,by simpa using c,by simpa using d,by simpa using e,?_⟩;simpa[List.any_eq_false]using f
def aw.Sl{S:aw}(P:cR q S.n=0)(a:S.get (aZ q)=none)(b:q.seq=S.vec.getD q.origin.toNat 0+1)(c:∀n,n<S.n->S.l_ q n=true):S.add q=(0,⟨S.n,dm q S.l⟩):=by
 rw[aw.add_def,Zq (by simpa using P),Zq (by simp[a]),Zq (by simpa using b),Zq];simpa[List.any_eq_false]using c
def aw.Cl.add{b:aw}(g:b.Cl){a:aj}(q:a.Ok):(b.add a).2.Cl:=by
 have k:=(aw.Av g.ok q).1;rcases b.jb a with⟨-,f⟩|⟨h,r,y,s,t⟩
 ·rw[f];exact g
 rw[h]at k⊢;simp only at k⊢;obtain⟨z,A,B,-⟩:=rG r;obtain⟨i,l⟩:∃i:Nat,a.origin=i:=⟨a.origin.toNat,oM⟩
 have u:i<b.n:=oM
 rw[l,Qx,b.uE u]at s;have c:∀n,n∈dm a b.l↔n=a\/n∈b.l:=λn=>by rw[(dd a b.l).mem_iff,Q2]
 have d:∀n e,b.l_ n e=true->aw.l_ ⟨b.n,dm a b.l⟩ n e=true:=λn e P=>by
  rw[AK]at P⊢;rcases P with P|⟨v,h,f⟩
  ·exact .inl P
  ·exact .inr ⟨v,aw.Sk k h,f⟩
 refine⟨k,λn P e j=>?_,λn P=>?_,λe m j h f=>?_⟩
 ·rcases(c n).1 P with rfl|P
  ·exact d _ _ (t e j)
  ·exact d _ _ (g.l_ n P e j)
 ·rw[aw.FT]
  rcases(c n).1 P with rfl|P
  ·rw[l,Qx,Zx rfl];omega
  ·have:=g.le n P
   split<;>omega
 ·rw[aw.FT]at f
  by_cases p:a.origin=(e:Int)
  ·rw[Zx p]at f
   have w:i=e:=oM
   subst w
   by_cases x:m=a.seq
   ·exact⟨a,(c a).2 (.inl rfl),by simp[aZ,l,x]⟩
   ·obtain⟨n,P,o⟩:=g.has i m j h oM
    exact⟨n,(c n).2 (.inr P),o⟩
  ·rw[Zq p]at f
   obtain⟨n,P,o⟩:=g.has e m j h oM;exact⟨n,(c n).2 (.inr P),o⟩
def aw.TA(n:aw)(P:aj):(n.add P).2.n=n.n:=by
 rcases n.jb P with⟨-,a⟩|⟨b,-⟩
 ·rw[a]
 ·rw[b]
def aw.Ac(n:aw)(P:aj):(n.add P).2.l.length<=n.l.length+1:=by
 rcases n.jb P with⟨-,a⟩|⟨b,-⟩
 ·rw[a];omega
 ·rw[b];show(dm P n.l).length<=_;rw[(dd P n.l).length_eq];simp
def aw.rF(n:aw)(P:List aj)(a:aj):n.fN (P++[a])=((n.fN P).add a).2:=by unfold aw.fN;rw[List.foldl_append];rfl
def aw.PI(n:aw)(P a:List aj):n.fN (P++a)=(n.fN P).fN a:=by unfold aw.fN;rw[List.foldl_append]
def aw.Cl.fN:∀{l:List aj} {S:aw},S.Cl->(∀e∈l,e.Ok)->(S.fN l).Cl
 |[],S,n,_=>n
 |e::l,S,n,P=>aw.Cl.fN (l:=l) (S:=(S.add e).2) (n.add (P e (QV ..))) λa b=>P a (QJ _ b)
def aw.PJ:∀(P:List aj) (n:aw),(n.fN P).n=n.n
 |[],n=>rfl
 |e::P,n=>(aw.PJ P _).trans (n.TA e)
def aw.mZ:∀(P:List aj) (n:aw),(n.fN P).l.length<=n.l.length+P.length
 |[],n=>by simp[aw.fN]
 |e::P,n=>by
  have a:=aw.mZ P (n.add e).2;have b:=n.Ac e;show((n.add e).2.fN P).l.length<=_;simp only[Xq];omega
def tB{P:aj}:∀{n:List aj},(∀x∈n,ei P x=false)->dm P n=n++[P]
 |[],_=>rfl
 |x::n,a=>by
  unfold dm;rw[Zq (by rw[a x (QV ..)];simp),tB λb c=>a b (QJ _ c)];rfl
def aw.Cl.take{n:aw}(g:n.Cl):∀{k:Nat},k<=n.l.length->(⟨n.n,[]⟩:aw).fN (n.l.take k)=⟨n.n,n.l.take k⟩/\aw.Cl ⟨n.n,n.l.take k⟩
 |0,_=>⟨rfl,by simpa using aw.Cl.new g.ok.n⟩
 |k+1,U=>by
  obtain⟨I,l⟩:=aw.Cl.take g (k:=k) oM;have f:n.l[k]? =some n.l[k]:=Qq oM;have m:n.l[k]∈n.l:=XY oM;generalize n.l[k]=P at f m;have w:n.l=n.l.take k++P::n.l.drop (k+1):=by
   conv=>lhs;rw[<-ZX k n.l]
   congr 1
   rw[X4 oM]
   congr 1
   have:=Qq (l:=n.l) (i:=k) oM;rw[f]at this;exact(XJ this).symm
  have q:=g.ok.Pw;have h:=g.ok.ids;rw[w]at q h;have e:∀a∈n.l,ei a P=true->a∈n.l.take k:=λa c o=>by
   rw[w]at c;rcases Q6.1 c with c|c
   ·exact c
   rcases Q2.1 c with rfl|c
   ·rw[jt]at o;omega
   ·have J:=(List.pairwise_append.1 q).2.1
    have r:=(List.pairwise_cons.1 J).1 a c;rw[m_ r]at o;cases o
  have b:∀a∈n.l.take k,ei a P=true:=λa c=>(List.pairwise_append.1 q).2.2 a c P (QV ..);have x:aw.get ⟨n.n,n.l.take k⟩ (aZ P)=none:=by
   cases K:aw.get ⟨n.n,n.l.take k⟩ (aZ P)with
   |none=>rfl
   |some a=>
    obtain⟨i,j⟩:=aw.get_some K;rw[Q3,QY,List.nodup_append]at h;exact Zz j (h.2.2 (aZ a) (Xk.2 ⟨a,i,rfl⟩) (aZ P) (QV ..))
  have y:=g.ok.WL P m;obtain⟨V,W,L,X,-,-,Y,-,z,-⟩:=rG y;obtain⟨d,s⟩:∃d:Nat,P.origin=d:=⟨P.origin.toNat,oM⟩
  have t:d<n.n:=oM
  have A:∀p,p<n.n->aw.l_ ⟨n.n,n.l.take k⟩ P p=true:=λp M=>by
   have:=g.l_ P m p M;rw[AK]at this⊢;rcases this with B|⟨a,u,C,N⟩
   ·exact .inl B
   ·obtain⟨i,j⟩:=aw.get_some u
    refine .inr ⟨a,?_,C,N⟩;rw[<-j];exact l.ok.get (e a i (by rw[jt];exact .inl C))
  have E:=g.ok.ok P m;have Q:P.seq=(aw.vec ⟨n.n,n.l.take k⟩).getD P.origin.toNat 0+1:=by
   rw[s,Qx,aw.uE (S:=⟨n.n,n.l.take k⟩) t];have Z:(aw.FR ⟨n.n,n.l.take k⟩ d:Int)+1<=P.seq:=by
    rcases Int.lt_or_le (aw.FR ⟨n.n,n.l.take k⟩ d:Int) P.seq with o|O
    ·omega
    ·obtain⟨a,R,S⟩:=l.has d P.seq t L O
     have:=aw.get_none x a R;exact Zz (S.trans (by simp[aZ,s])) this
   have O:P.seq<=(aw.FR ⟨n.n,n.l.take k⟩ d:Int)+1:=by
    have T:ph (P.seq-1)=P.seq-1:=by
     have:=E.seq;exact wrap_i64 (by unfold aJ at*;omega)
    rw[T,s,Qx]at z;have:=A d t;rw[AK,z]at this;rcases this with B|⟨a,u,-⟩
    ·omega
    ·obtain⟨i,j⟩:=aw.get_some u
     have r:=l.le a i;have F:a.origin=d/\a.seq=P.seq-1:=by
      have:=j;simp only[aZ,Prod.mk.injEq]at this;exact this
     rw[F.1,F.2,Qx]at r;omega
   show P.seq=(aw.FR ⟨n.n,n.l.take k⟩ d:Int)+1;omega
  have H:=aw.Sl (S:=⟨n.n,n.l.take k⟩) y x Q A;have a0:dm P (n.l.take k)=n.l.take (k+1):=by
   rw[tB λa f=>m_ (b a f),Qw,f];rfl
  rw[show n.l.take (k+1)=n.l.take k++[P] by rw[Qw,f];rfl,aw.rF,I,H];have v:=l.add E;rw[H]at v;rw[show dm P (n.l.take k)=n.l.take k++[P]from tB λa f=>m_ (b a f)]at v⊢;exact⟨rfl,v⟩
def aw.Cl.Vs(n:H.Cl):(⟨H.n,[]⟩:aw).fN H.l=H:=by
 have:=(n.take (Q4 _)).1;rw[List.take_length]at this;exact this
def Eg{n:aj}:∀{l:List aj},(∀x∈l,aZ x≠aZ n)->dm n l=l.take (posOf (λx=>ei x n) l)++n::l.drop (posOf (λx=>ei x n) l)
 |[],_=>rfl
 |x::l,a=>by
  have b:=a x (QV ..);unfold dm posOf;rw[List.takeWhile_cons]
  by_cases P:ei x n=true
  ·rw[Zx P,Zq (by rw[m_ P];simp)]
   have:=Eg (l:=l) λc d=>a c (QJ _ d);rw[this];simp[posOf]
  ·rw[Zq P,Zx ((FM b).resolve_left P)]
   rfl
structure qf (most:Nat) (l:List aj):Prop where
 Pw:Ug l
 ids:(l.map aZ).Nodup
 ok:∀e∈l,e.Ok
 le:l.length<=most
def qf.nil(n:Nat):qf n []:=⟨List.Pairwise.nil,sM,sM,Qj _⟩
def qf.add(b:qf a L)(f:q.Ok):qf a (fl a L q).2:=by
 unfold fl;split
 ·exact b
 rename_i d;rw[not_or]at d;have e:∀n∈L,aZ n≠aZ q:=by
  have:=d.2;simp only[List.any_eq_true,beq_iff_eq,not_exists,not_and]at this;exact this
 have c:=dd q L;refine⟨wD b.Pw e,?_,λn P=>?_,by rw[c.length_eq,Xq];omega⟩
 ·refine(c.map aZ).nodup_iff.2 ?_
  rw[QY,List.nodup_cons];exact⟨λg=>by obtain⟨n,P,h⟩:=Xk.1 g;exact e n P h,b.ids⟩
 ·rcases Q2.1 (c.mem_iff.1 P)with rfl|P
  ·exact f
  ·exact b.ok n P
def qf.sub(n:qf a L)(P:e5.Sublist L):qf a e5:=
 ⟨n.Pw.sublist P,n.ids.sublist (P.map aZ),λb c=>n.ok b (P.subset c),Xx P.length_le n.le⟩
def sK{P:aw}:∀{n:List aj},(∀e∈n,(P.add e).1≠0)->eR P n=none
 |[],_=>rfl
 |e::n,a=>by
  unfold eR;rw[Zq (a e (QV ..)),sK λb c=>a b (QJ _ c)];rfl
def sL{a:aw}:∀{n:List aj} {i:Nat} {e:aj},(∀x∈n.take i,(a.add x).1≠0)->n[i]? =some e->(a.add e).1=0->eR a n=some (e,(a.add e).2,n.eraseIdx i)
 |[],i,e,_,P,_=>by simp at P
 |x::n,0,e,b,P,c=>by
  simp at P;subst P;unfold eR;rw[Zx c];rfl
 |x::n,i+1,e,b,P,c=>by
  unfold eR;rw[Zq (b x sM),sL (i:=i) (e:=e) (λd f=>b d (by simp[f])) (by simpa using P) c]
  rfl
def cW(n:bt)(P:YQ)(a b:Nat)(c:YQ)(d e:Nat):List Value:=[ZH n.kind,ZH n.bq,ZH n.lZ,.slice P a b,.slice c d e]
abbrev iq(n:bt)(P:YQ)(a b:Nat)(c:YQ)(d e:Nat):Value:=.agg (cW n P a b c d e).toArray
def dK(n:bt)(P:YQ)(a b:Nat)(c:YQ)(d e:Nat):ij ZP 127 (cW n P a b c d e)=true:=kR
def Ej(n:bt)(P:YQ)(a b:Nat)(c:YQ)(d e:Nat):SO (cN ZP 127) (iq n P a b c d e)=true:=kR
section
variable {w w':World} {D E F:ZN} {m:bt} {va ea:YQ} {vn vc en ec N:Nat} {chunk:Int} {p:Nat} {S:aw}
def LA(b:Row aI 8 w D va vn m.vec)(i:Row jF 96 w E ea en m.events):YX 189 #[iq m va vn vc ea en ec,ZH (N:Int)] w (Ok λj w'=>j= ZH (gU m N)/\ai w w'):=by
 have u:=b.len;have v:=i.len;have k:=b.ef;refine Gr (PA.mk λx c y d=>⟨_,_,_,ae d rfl,al.dec (λl=>Ok.mk ⟨?_,c⟩) (λl=>⟨_,_,_,ae d rfl,al.dP (λo=>Ok.mk ⟨?_,c⟩) (λo=>⟨_,_,_,ae d rfl,λf p w'=>∃n:Nat,p=n/\n<=vn/\f=vn-n/\((m.vec.take n).any λP=>decide (P<0))=false/\ai w w',⟨_,0,rfl,Qj _,rfl,sM,c⟩,?_⟩)⟩)⟩)
 ·unfold gU;rw[Zx oM]
 ·unfold gU;rw[Zq oM,Zx oM]
 rintro f _ _ z ⟨n,rfl,A,rfl,e,a⟩;refine al.dec (λB=>?_) (λC=>Ok.mk ⟨?_,a⟩)
 ·obtain⟨q,r,P,s,g,-,t⟩:=(b.ah a).mR (i:=n) oM
  refine⟨q,r,s,oM,oM,P,t,al.dec (λh=>Ok.mk ⟨?_,a⟩) (λh=>⟨_,oM,n+1,aq (by unfold aK at k;omega),oM,rfl,?_,a⟩)⟩
  ·unfold gU;rw[Zq oM,Zq oM,Zx (List.any_eq_true.2 ⟨P,QZ g,by simpa using h⟩)]
  ·rw[Qw,g,List.any_append,e];simp;omega
 ·rw[Qz oM]at e
  unfold gU;rw[Zq oM,Zq oM,Zq (by rw[e];simp)]
def yF{c:Type}{n:c->Int}:∀{P:List c} {d:Nat} {a:c},(∀y∈P.take d,n y=0)->P[d]? =some a->n a≠0->cm n P=n a
 |y::P,0,a,_,b,e=>by
  simp at b;subst b;unfold cm;rw[Zx (by simpa using e)]
 |y::P,d+1,a,f,b,e=>by
  have g:n y=0:=f y sM;unfold cm
  rw[g];simp only[bne_self_eq_false,Bool.false_eq_true,if_false];exact yF (λh i=>f h (QJ _ i)) (by simpa using b) e
def Ct{P:Type}{a:P->Int}:∀{n:List P},(∀y∈n,a y=0)->cm a n=0
 |[],_=>rfl
 |y::n,b=>by
  unfold cm
  rw[b y (QV ..)];simpa using Ct λc d=>b c (QJ _ d)
def LB(t:Row aI 8 w D va vn m.vec)(h:Row jF 96 w E ea en m.events)(u:N<4611686018427387904):YX 188 #[iq m va vn vc ea en ec,ZH (N:Int),ZH chunk] w (Ok λv w'=>v= ZH (fk m N chunk)/\ai w w'):=by
 have W:=t.len;have X:=h.len;have x:=h.ef;refine Gq (PA.mk λY a Z b=>⟨_,_,_,ae b rfl,al.dec (λy=>Ok.mk ⟨?_,a⟩) (λy=>⟨_,_,_,ae b rfl,al.dec (λz=>Ok.mk ⟨?_,a⟩) (λz=>⟨_,_,_,ae b rfl,al.dec (λA=>Ok.mk ⟨?_,a⟩) (λA=>⟨_,_,_,ae b rfl,λl i w'=>∃n:Nat,i=n/\n<=en/\l=en-n/\(∀P∈m.events.take n,cR P N=0)/\ai w w',⟨_,0,rfl,Qj _,rfl,sM,a⟩,?_⟩)⟩)⟩)⟩)
 ·unfold fk;rw[Zx oM]
 ·unfold fk;rw[Zq oM,Zx (.inl oM)]
 ·unfold fk;rw[Zq oM,Zx (.inr oM)]
 rintro l _ _ B ⟨n,rfl,hj,rfl,c,d⟩;have o:fk m N chunk=cm (λC=>cR C N) m.events:=by unfold fk;rw[Zq oM,Zq oM]
 refine al.dec (λa4=>?_) (λa5=>Ok.mk ⟨?_,d⟩)
 ·obtain⟨p,F,es,I,J,a6,q,e,f,g,rfl,r,K⟩:=(h.ah d).el n m.events[n] (Qq oM)
  have j:m.events[n]? =some m.events[n]:=Qq oM;generalize m.events[n]=P at q r K j;refine⟨p,F,I,oM,oM,bA (es:=aE P e f g) (k:=10) (aX P e f g) rfl (λi L=>q i L) (PA.mk λw3 M s3 O=>az (aX P e f g) O rfl λQ R s4 S=>au (aX P e f g) S ?_)⟩;have k:ai B Q:=M.new R λp J=>.inr oM;refine PC.ok (yx (r.ah k) u) ?_;rintro _ w5 ⟨rfl,s⟩;refine⟨_,rfl,al.dP (λT=>Ok.mk ⟨by rw[o,yF c j T],(d.then k).then s⟩) (λU=>⟨_,oM,n+1,aq (by unfold aK at x;omega),oM,rfl,λV H=>?_,(d.then k).then s⟩)⟩;rw[Qw,j]at H;rcases Q6.1 H with H|H
  ·exact c V H
  ·simp at H;subst H;exact U
 ·rw[Qz oM]at c
  rw[o,Ct c]
def yG(i:ck w p F S){P n:Int}:YX 78 #[ZL p,ZH P,ZH n] w (Ok λj w'=>∃va vn vc G,j=iq (kj S P n) va vn vc none 0 0/\aM aI 3 G w' va vn vc S.vec/\(∀n,G n->w.heap.size<=n)/\ai w w'):=by
 refine Dt (PA.mk λo f q k=>PC.ok (lJ (i.ah f)) ?_);rintro _ r ⟨b,c,d,G,rfl,l,e,g⟩;have s:=e.size;refine⟨_,_,_,rfl,az (dK (kj S P n) b c d none 0 0) (e.get k id) rfl λt h u m=>au (dK (kj S P n) b c d none 0 0) m (Ok.mk ⟨b,c,d,G,rfl,l.af h λn a v=>?_,λn a=>?_,(f.then e).new h λn a=>.inr oM⟩)⟩
 ·have:=g n a;omega
 ·have:=g n a;omega
def Jj(i:ck w p F S){P n:Int}:YX 191 #[ZL p,ZH P,ZH n] w (Ok λj w'=>∃va vn vc G,j=iq (zZ S P n) va vn vc none 0 0/\aM aI 3 G w' va vn vc S.vec/\(∀n,G n->w.heap.size<=n)/\ai w w'):=by
 refine KP (PA.mk λo f q k=>PC.ok (lJ (i.ah f)) ?_);rintro _ r ⟨b,c,d,G,rfl,l,e,g⟩;have s:=e.size;refine⟨_,_,_,rfl,az (dK (zZ S P n) b c d none 0 0) (e.get k id) rfl λt h u m=>au (dK (zZ S P n) b c d none 0 0) m (Ok.mk ⟨b,c,d,G,rfl,l.af h λn a v=>?_,λn a=>?_,(f.then e).new h λn a=>.inr oM⟩)⟩
 ·have:=g n a;omega
 ·have:=g n a;omega
def EV{cs:Array Value}{P:Nat×Nat}(b:w.heap[a]? =some (.cells cs g P))(c:cs[0]? =some (ZH (N:Int))):YX 187 #[ZH e,ZL a] w (Ok λd w'=>d= .bool (decide (0<=e)&&decide (e<N))/\w=w'):=by
 refine Dw (al.dec (λn=>⟨_,ae b c,Ok.mk ⟨?_,rfl⟩⟩) (λn=>Ok.mk ⟨?_,rfl⟩))
 ·rw[Zy (show 0<=e from n)];rfl
 ·rw[Xv (show¬0<=e from n)];rfl
def Ov(o:Row aI 8 w D va vn m.vec)(p:Row jF 96 w E ea en m.events)(v:N<4611686018427387904):YX 118 #[iq m va vn vc ea en ec,ZH (N:Int),ZH chunk] w (Ok λf w'=>f= ZH (fH m N chunk)/\ai w w'):=by
 refine It (PA.mk λx y J z=>PA.mk λg q K i=>?_);have b:=q.get z id;have n:=y.then q;refine⟨λA w'=>A=(!(decide (0<=m.bq)&&decide (m.bq<N))|| !(decide (0<=m.lZ)&&decide (m.lZ<N))||m.bq==m.lZ)/\g=w',?_,?_⟩
 ·refine⟨_,ae b rfl,_,_,_,rfl,kR,PC.ok (EV (N:=N) i rfl) ?_⟩
  rintro _ _ ⟨rfl,rfl⟩;refine⟨_,rfl,al.not (al.mk (λP=>⟨_,ae b rfl,_,_,_,rfl,kR,PC.ok (EV (N:=N) i rfl) ?_⟩) (λP=>⟨by rw[P];rfl,rfl⟩))⟩;rintro _ _ ⟨rfl,rfl⟩;refine⟨_,rfl,al.not (al.mk (λa=>⟨_,ae b rfl,_,ae b rfl,by rw[P,a];rfl,rfl⟩) (λa=>⟨by rw[P,a];rfl,rfl⟩))⟩
 rintro j _ _ ⟨B,rfl⟩;have e:fH m N chunk=if m.kind=3 then(if j then 1 else fk m N chunk)else if m.kind=1\/m.kind=2\/m.kind=4 then(if j then 1 else gU m N)else 2:=by rw[B];rfl
 have c:∀{r:List PanicEntry->ZU},(if j then 1 else gU m N)=fH m N chunk->al j (Ok (λf w'=>f= ZH (fH m N chunk)/\ai w w') (.returned (ZH 1)) g) (gP ZP 127 (ZL w.heap.size) g λC=>(∃(s:Int),g.cell? ⟨x.heap.size,0,none⟩=some (ZH s)/\PC ZP 189 #[C,ZH s] g (λF H=>∃(t:Int),F= ZH t/\Ok (λf w'=>f= ZH (fH m N chunk)/\ai w w') (.returned (ZH t)) H) r)):=λ{r} u=>by
  refine al.mk (λh=>Ok.mk ⟨by rw[<-u,h];rfl,n⟩) (λh=>au (dK m va vn vc ea en ec) b ⟨_,ae i rfl,PC.ok (LA (o.ah n) (p.ah n)) ?_⟩);rintro _ I ⟨rfl,k⟩;exact⟨_,rfl,Ok.mk ⟨by rw[<-u,h];rfl,n.then k⟩⟩
 refine⟨_,ae b rfl,al.cX (λd=>al.not (al.mk (λh=>?_) (λh=>au (dK m va vn vc ea en ec) b ⟨_,ae i rfl,PC.ok (LB (o.ah n) (p.ah n) v) ?_⟩))) (λd=>al.cX (λP=>al.tt (by simpa using P) (c ?_)) (λP=>al.cX (λa=>al.tt (by simpa using a) (c ?_)) (λa=>al.cX (λl=>c ?_) (λl=>Ok.mk ⟨?_,n⟩))))⟩
 ·exact al.tt h (Ok.mk ⟨by rw[e,Zx d,h];rfl,n⟩)
 ·rintro _ I ⟨rfl,k⟩
  exact⟨_,rfl,Ok.mk ⟨by rw[e,Zx d,h];rfl,n.then k⟩⟩
 ·rw[e,Zq d,Zx (show m.kind=1\/m.kind=2\/m.kind=4 from .inl P)]
 ·rw[e,Zq d,Zx (show m.kind=1\/m.kind=2\/m.kind=4 from .inr (.inl a))]
 ·rw[e,Zq d,Zx (show m.kind=1\/m.kind=2\/m.kind=4 from .inr (.inr l))]
 ·rw[e,Zq d,Zq (by rintro(h|h|h);exact P h;exact a h;exact l h)]
end
structure Pu (w:World) (p:Nat) (M D:ZN) (most:Nat) (l:List aj) (a:YQ) (n c:Nat) (L:List (Bx aj)):Prop where
 at':w.heap[p]? =some (.cells #[ZH (most:Int),.slice a n c] 147 (0,0))
 mS:aM mW.jG 63 (λb=>aD a=some b) w a n c L
 map:L.map (·.x)=l
 Nr:∀b∈L,mW.In w D b
 dD:∀b,D b->b<w.heap.size/\¬M b
 mp:M p
 ma:∀b,aD a=some b->M b/\b≠p
 dM:∀b,M b->b<w.heap.size
def gN(a:World)(b:Nat)(c D:ZN)(n:Nat)(P:List aj):Prop:=(n<=256/\qf n P)/\∃d e f g,Pu a b c D n P d e f g
section
variable {w w':World} {p:Nat} {M D T E:ZN} {most:Nat} {l:List aj} {a:YQ} {n c:Nat} {L:List (Bx aj)}
def Pu.af(b:Pu w p M D most l a n c L)(e:ak T w w')(f:∀P,M P->¬T P)(g:∀P,D P->¬T P):Pu w' p M D most l a n c L:=
 ⟨e.get b.at' (f _ b.mp),b.mS.af e λP d=>f P (b.ma P d).1,b.map,λP d=>(b.Nr P d).af e g,λP d=>⟨Qk (b.dD P d).1 e.size,(b.dD P d).2⟩,b.mp,b.ma,λP d=>Qk (b.dM P d) e.size⟩
def gN.af(b:gN w p M D most l)(d:ak T w w')(e:∀P,M P->¬T P)(f:∀P,D P->¬T P):gN w' p M D most l:=by
 obtain⟨g,a,n,c,L,b⟩:=b;exact⟨g,a,n,c,L,b.af d e f⟩
def gN.ah(n:gN w p M D most l)(P:ai w w'):gN w' p M D most l:=n.af P (λ_ _ n=>n) λ_ _ n=>n
def tw:jV ZP 59 63 mW.jG.k 96:=Ke
def Kl(f:0<=e/\e<=256):YX 44 #[ZH e] w (Ok λb w'=>∃p,b= ZL p/\gN w' p (·=p) (λ_=>False) e.toNat []/\w.heap.size<=p/\p<w'.heap.size/\ai w w'):=by
 refine FI (PA.mk λc d g a=>Ok.mk ⟨w.heap.size,rfl,⟨⟨oM,qf.nil _⟩,none,0,0,[],?_,(aM.nil c).mono (λP n=>n.elim) (λP n=>by cases n),rfl,sM,λP n=>n.elim,rfl,λP n=>(by cases n),λP n=>by have n:P=w.heap.size:=n;omega⟩,Q4 _,oM,d⟩);have:(if(if 256<e then 256 else e)>0 then(if 256<e then 256 else e)else 0)=((e.toNat:Nat):Int):=by split<;>split<;>omega
 rw[this]at a;exact a
def uz(d:gN w p M D most l):YX 84 #[ZL p] w (Ok λf w'=>f= .tuple #[]/\gN w' p M (λ_=>False) most []/\ak M w w'):=by
 obtain⟨g,a,n,c,L,d⟩:=d;refine pd ⟨p,0,rfl,PS.mk d.at' sM λh i j k=>Ok.mk ⟨rfl,⟨⟨g.1,qf.nil _⟩,none,0,0,[],k,(aM.nil h).mono (λb P=>P.elim) (λb P=>by cases P),rfl,sM,λb P=>P.elim,d.mp,λb P=>(by cases P),λb P=>by rw[j];exact d.dM b P⟩,i.mono λb _ e=>by have e:b=p:=e;exact e▸d.mp⟩⟩
def AB(r:enters ZP A=true)(b:Nat->ZU)(m:Nat->ZU)(h:b 0 w)(i:∀P f,b P f->Row mW.jG 96 f E a n L)(s:∀P d f,L[P]? =some d->b P f->YX A (o++ #[jT d.x d.a d.n d.c]++X) f (Ok λg w'=>(g= .bool true/\m P w')\/(g= .bool false/\b (P+1) w'))):
  YX 304 #[.slice a n c,.func (.func A) o X] w (Ok λg w'=>(∃P,P<n/\g= ZH (P:Int)/\m P w')\/(g= ZH (-1)/\b n w')):=by
 have F:=(i 0 w h).len;have t:=(i 0 w h).ef;unfold aK at t;refine fA ⟨λp j w'=>∃P:Nat,j=P/\P<=n/\p=n-P/\b P w',⟨_,0,rfl,Qj _,rfl,h⟩,?_⟩;rintro p _ _ q ⟨P,rfl,H,rfl,k⟩;refine al.dec (λI=>?_) (λJ=>?_)
 ·have u:P<L.length:=oM
  have l:L[P]? =some L[P]:=Qq u;generalize L[P]=e at l;obtain⟨d,v,K,x,M,N,y,rfl,-⟩:=(i P q k).el P e l;refine⟨d,v,x,oM,oM,bA (es:=aE e.x e.a e.n e.c) (k:=10) (aX _ _ _ _) rfl (λj z=>by rw[Qx];exact y j z) ⟨_,_,_,rfl,r,PC.ok (s P e q l k) ?_⟩⟩;rintro _ O (⟨rfl,B⟩|⟨rfl,C⟩)
  ·exact⟨_,rfl,al.tt rfl (Ok.mk (.inl ⟨P,oM,rfl,B⟩))⟩
  ·exact⟨_,rfl,al.ff rfl ⟨_,oM,P+1,aq oM,oM,rfl,C⟩⟩
 ·obtain rfl:P=n:=oM
  exact Ok.mk (.inr ⟨rfl,k⟩)
def HQ{c e:Nat}{P:Nat}{f g:Nat}(a:w.heap[P]? =some (.cells (aE O s f g).toArray 63 F)):
  YX 296 #[jT q d c e,ZL P] w (Ok λh w'=>h= .bool (aZ q==aZ O)/\ai w w'):=by
 refine pf (PA.mk λi n j b=>⟨_,_,ae b rfl,ae b rfl,_,_,ae (n.get a id) rfl,ae (n.get a id) rfl,Mj.eql ⟨_,rfl,Ok.mk ⟨rfl,n⟩⟩⟩)
def Km(k:Row mW.jG 96 w E a n L)(v:∀P,E P->P<w.heap.size){l:Nat}{p r:Nat}(s:w.heap[l]? =some (.cells (aE q d p r).toArray 63 F)):
  YX 295 #[.slice a n c,.func (.func 296) #[] #[ZL l]] w (Ok λm w'=>m= .bool (L.any λP=>aZ P.x==aZ q)/\ai w w'):=by
 have x:=k.len;refine eQ (PC.ok (AB (E:=E) kR (λf g=>(∀P∈L.take f,(aZ P.x==aZ q)=false)/\ai w g) (λf g=>(L.any λP=>aZ P.x==aZ q)=true/\ai w g) ⟨sM,ak.refl _⟩ (λf g h=>k.ah h.2) ?_) ?_)
 ·rintro f P g i ⟨j,b⟩
  refine(HQ (b.get s id)).mono ?_;rintro _ y ⟨m,rfl,rfl,o⟩;refine Ok.mk ?_
  cases h:aZ P.x==aZ q
  ·refine .inr ⟨rfl,λt e=>?_,b.then o⟩
   rw[Qw,i]at e;rcases Q6.1 e with e|e
   ·exact j t e
   ·simp at e;subst e;exact h
  ·exact .inl ⟨rfl,List.any_eq_true.2 ⟨P,QZ i,h⟩,b.then o⟩
 ·rintro _ z (⟨f,A,rfl,u,b⟩|⟨rfl,j,b⟩)
  ·exact⟨_,rfl,Ok.mk ⟨by rw[u,Zy oM],b⟩⟩
  ·refine⟨_,rfl,Ok.mk ⟨?_,b⟩⟩
   rw[Qz oM]at j;rw[List.any_eq_false.2 λP i=>by rw[j P i];simp]
   rfl
end
section
variable {w w':World} {p:Nat} {M D T E:ZN} {most:Nat} {l:List aj} {a:YQ} {n c:Nat} {L:List (Bx aj)}
def qg{a g:YQ}{n c h i:Nat}{w:World}:YX 298 #[jT q a n c,jT O g h i] w (Ok λj w'=>j= ZH (sJ q O)/\ai w w'):=by
 refine wC (PA.mk λt k u l=>PA.mk λm e v o=>λp r=>⟨λ_=>False,?_⟩);have P:ai m p:=r.af;have b:=P.get (e.get l id) id;have d:=P.get o id;refine⟨_,ae b rfl,_,ae d rfl,id,_,ae b rfl,id,_,ae d rfl,id,_,ae b rfl,id,_,ae d rfl,PC.ok gO ?_⟩;rintro _ _ ⟨rfl,rfl⟩;refine⟨_,rfl,ak.refl _,PC.ok gO ?_⟩;rintro _ _ ⟨rfl,rfl⟩;refine⟨_,rfl,ak.refl _,PC.ok gO ?_⟩;rintro _ _ ⟨rfl,rfl⟩;refine⟨_,rfl,ak.refl _,PA.mk λx f y s=>⟨f,PC.ok (Pv s) ?_⟩⟩;rintro _ _ ⟨rfl,rfl⟩;exact⟨_,rfl,ak.refl _,Ok.mk ⟨by rw[HR],((k.then e).then P).then f⟩⟩
def Ef:sJ q O<0↔ei q O=true:=by
 unfold sJ
 cases ei q O
 ·cases ei O q<;>simp
 ·simp
def CZ(x:Row mW.jG 96 w E a n L)(U:Ug (L.map (·.x))){C F:Nat}:
  YX 297 #[.slice a n c,jT q d C F,.func (.func 298) #[] #[]] w (Ok λV w'=>∃P,V= .tuple #[ZH ((posOf (λm=>ei m.x q) L:Nat):Int),.bool P]/\ai w w'):=by
 have hl:=x.len;have W:=x.ef;unfold aK at W;have N:∀{i j:Nat} {b k:Bx aj},L[i]? =some b->L[j]? =some k->i<=j->b=k\/ei b.x k.x=true:=λ{i j b k} l o b4=>by
  rcases Nat.lt_or_ge i j with h|h
  ·right
   have y:(L.map (·.x))[i]? =some b.x:=by rw[Q9,l];rfl
   have z:(L.map (·.x))[j]? =some k.x:=by rw[Q9,o];rfl
   obtain⟨X,Y⟩:=Qv.1 y;obtain⟨Z,e2⟩:=Qv.1 z;have:=List.pairwise_iff_getElem.1 U i j X Z h;rw[Y,e2]at this;exact this
  ·obtain rfl:i=j:=oM
   rw[l]at o;exact .inl (XJ o)
 refine cY (PA.mk λa4 O b5 Q=>⟨λR i j w'=>∃p e:Nat,i=p/\j=e/\R=e-p/\p<=e/\e<=n/\(∀P b,P<p->L[P]? =some b->ei b.x q=true)/\(∀P b,e<=P->L[P]? =some b->ei b.x q=false)/\ai a4 w',
  ⟨_,0,n,rfl,rfl,rfl,oM,oM,λP b g=>oM,λP b g l=>by have:=(Qv.1 l).1;omega,ak.refl _⟩,?_⟩)
 rintro R _ _ _ S ⟨p,e,rfl,rfl,rfl,b6,a5,y,z,s⟩;have t:enters ZP 298=true:=kR
 refine al.dec (λb7 a6 a7=>?_) (λb8 a8 a9=>?_)
 ·have A:ai S a6:=a7.af
  have u:=(O.then s).then A;rw[Ue oM];have r:L[(p+e)/2]? =some L[(p+e)/2]:=Qq oM;generalize L[(p+e)/2]=f at r;obtain⟨m,H,es,I,b0,b1,J,rfl,-⟩:=(x.ah u).el _ f r;refine⟨m,H,I,oM,oM,bA (es:=aE f.x f.a f.n f.c) (k:=10) (aX _ _ _ _) rfl (λP g=>by rw[Qx];exact J P g) (au (aX q d C F) ((s.then A).get Q id) ⟨_,_,_,rfl,t,PC.ok qg ?_⟩)⟩;rintro _ b2 ⟨rfl,B⟩;refine⟨_,rfl,al.dec (λK=>⟨_,?_,(p+e)/2+1,e,aq oM,rfl,rfl,oM,a5,λP k g o=>?_,z,(s.then A).then B⟩) (λK=>⟨_,?_,p,(p+e)/2,rfl,rfl,rfl,oM,oM,y,λP k g o=>?_,(s.then A).then B⟩)⟩
  ·omega
  ·have v:=Ef.1 K
   rcases N o r oM with rfl|M
   ·exact v
   ·exact tx M v
  ·omega
  ·have v:¬ei f.x q=true:=λh=>K (Ef.2 h)
   rcases N r o g with rfl|M
   ·simpa using v
   ·cases h4:ei k.x q
    ·rfl
    ·exact Zz (tx M h4) v
 ·obtain rfl:p=e:=oM
  have T:ai S a8:=a9.af;have u:=(O.then s).then T;have a3:posOf (λm=>ei m.x q) L=p:=Az oM (λP b g l=>y P b g l) (λb l=>z p b (Q4 _) l);rw[a3];refine al.dec (λb3=>?_) (λb3=>Ok.mk ⟨false,rfl,u⟩);have r:L[p]? =some L[p]:=Qq oM;generalize L[p]=f at r;obtain⟨m,H,es,I,b0,b1,J,rfl,-⟩:=(x.ah u).el _ f r;refine⟨m,H,I,oM,oM,bA (es:=aE f.x f.a f.n f.c) (k:=10) (aX _ _ _ _) rfl (λP g=>by rw[Qx];exact J P g) (au (aX q d C F) ((s.then T).get Q id) ⟨_,_,_,rfl,t,PC.ok qg ?_⟩)⟩;rintro _ b2 ⟨rfl,B⟩;exact⟨_,rfl,Ok.mk ⟨_,rfl,u.then B⟩⟩
def Uh{f h:Nat}{x:Bx aj}(j:aM mW.jG 63 (λP=>aD a=some P) w a n c L)(k:f<=n)(l:w.heap[h]? =some (.cells (aE x.x x.a x.n x.c).toArray 63 (0,0)))(m:aD a≠some h)(r:L.length<=20000000):
  YX 299 #[.slice a n c,ZH (f:Int),.slice (ZM h) 1 1] w (Ok λo w'=>∃d g,o= .slice d (n+1) g/\aM mW.jG 63 (λP=>aD d=some P) w' d (n+1) g (L.take f++x::L.drop f)/\ak (λP=>aD a=some P) w w'/\∀P,aD d=some P->aD a=some P\/w.heap.size<=P):=by
 refine fZ (HS.one (c:=mW.jG) (tb:=4) (x:=x) (D:=λ_=>False) tw kR ?_ j k l ⟨rfl,trivial⟩ (λP b=>b.elim) m (by unfold aK;omega) (by unfold maxLen;omega) λd g w' s e p q=>Ok.mk ⟨d,g,rfl,aM.alone e,p,λP b=>?_⟩)
 ·intro i w
  rw[run_callFunc_extern Tryz.func329 kR kR kR (e:=Extern.SlicesOverlaps.overlaps #[59,59] #[4]) kR]
 ·rcases q P (e.self P b)with b|b|b
  ·exact .inl b
  ·exact b.elim
  ·exact .inr b
def Ui{b:Nat}(e:aM mW.jG 63 (λP=>aD a=some P) w a n c L)(f:b<n)(i:n<=20000000):
  YX 305 #[.slice a n c,ZH (b:Int),ZH (ZG .i64 ((b:Int)+1))] w (Ok λg w'=>g= .slice a (n-1) c/\aM mW.jG 63 (λP=>aD a=some P) w' a (n-1) c (L.eraseIdx b)/\ak (λP=>aD a=some P) w w'):=
 f_ (FJ.one (c:=mW.jG) (tz:=0) tw kR e f (by unfold maxLen;omega) λw' d h=>Ok.mk ⟨rfl,d,h⟩)
def Kn(f:gN w p M D most l){e:aj}{en ec:Nat}(O:Row aI 8 w E d en e.aQ)(hE:∀P,E P->P<w.heap.size)(he:e.Ok):
  YX 246 #[ZL p,jT e d en ec] w (Ok λQ w'=>Q= .bool (fl most l e).1/\∃o q,gN w' p o q most (fl most l e).2/\ak M w w'/\(∀P,o P->M P\/w.heap.size<=P)/\∀P,q P->D P\/w.heap.size<=P):=by
 have b3:=f;obtain⟨B,a,n,c,L,f⟩:=f;have d8:L.length=l.length:=by rw[<-f.map,Q8]
 have hn:n=L.length:=f.mS.len dC;have d9:=f.dM p f.mp;have e0:=B.2.le;have j:(L.any λP=>aZ P.x==aZ e)=l.any (λi=>aZ i==aZ e):=by rw[<-f.map,List.any_map];rfl
 refine rX (PA.mk λc6 b4 e1 b5=>λR c7=>⟨λ_=>False,?_⟩);have S:ai c6 R:=c7.af;have m:ai w R:=b4.then S;have T:=m.get f.at' id;have no:(fl most l e)=(false,l)->∀U,ai w U->Ok (λQ w'=>Q= .bool (fl most l e).1/\∃o q,gN w' p o q most (fl most l e).2/\ak M w w'/\(∀P,o P->M P\/w.heap.size<=P)/\∀P,q P->D P\/w.heap.size<=P) (.returned (.bool false)) U:=λhq U k1=>
  Ok.mk ⟨by rw[hq],M,D,by rw[hq];exact b3.ah k1,ai.af k1,λP b=>.inl b,λP b=>.inl b⟩
 refine⟨p,0,rfl,_,_,_,ae T rfl,p,0,rfl,_,ae T rfl,al.dec (λe2=>no (by unfold fl;rw[Zx (.inl oM)]) R m) (λe3=>⟨p,0,rfl,id,_,_,_,ae T rfl,ak.refl _,PC.ok (Km (E:=λP=>aD a=some P) (((f.mS.ah m).row (bytes:=96) dC (by unfold aK;omega))) (λP b=>by have:=(f.mS.aC P b);have:=m.size;omega) (S.get b5 id)) ?_⟩)⟩;rintro _ b6 ⟨rfl,C⟩;refine⟨_,rfl,C,al.mk (λr=>no (by unfold fl;rw[Zx (.inr (j▸r))]) b6 (m.then C)) (λr=>?_)⟩;have F:=m.then C;have b7:fl most l e=(true,dm e l):=by unfold fl;rw[Zq (by rw[<-j];rintro(g|g);omega;rw[r]at g;cases g)]
 have c8:∀i∈l,aZ i≠aZ e:=by
  rw[j]at r;simpa[List.any_eq_false]using r
 have V:=(S.then C).get b5 id;refine⟨_,_,_,ae V rfl,PC.ok (bI (O.ah F) λP b=>by have:=hE P b;have:=F.size;omega) ?_⟩;rintro _ b8 ⟨H,I,J,G,rfl,W,X,Y⟩;have e4:=F.size;have e5:=X.size;refine⟨_,_,_,rfl,PS.mk (X.get V id) (by simp[aE]) λZ a9 e6 c9=>λK b9=>?_⟩;have s:ai Z K:=b9.af;have e7:K.heap.size=Z.heap.size:=by rw[b9.heap]
 have a0:Z.heap[w.heap.size]? =some (.cells (aE e H I J).toArray 63 (0,0)):=c9;have a1:ai w K:=((F.then X).new a9 λP b=>.inr (by have b:P=w.heap.size:=b;omega)).then s;have b0:=f.af a1 (λ_ _ f=>f) λ_ _ f=>f;have c1:Ug (L.map (·.x)):=by rw[f.map];exact B.2.Pw
 refine⟨p,0,rfl,_,_,_,ae b0.at' rfl,au (aX e H I J) (s.get a0 id) (PC.ok (CZ (b0.mS.row (bytes:=96) dC (by unfold aK;omega)) c1) ?_)⟩;rintro _ e8 ⟨a4,rfl,d0⟩;refine⟨_,_,rfl,λd1 d2=>⟨λ_=>False,?_⟩⟩;have t:ai K d1:=d0.then d2.af;have a2:=a1.then t;have c3:=b0.af t (λ_ _ f=>f) λ_ _ f=>f;have h:=t.get (s.get a0 id) id;have d7:=Ay (λP:Bx aj=>ei P.x e) L;refine⟨p,0,rfl,id,_,_,_,ae c3.at' rfl,_,_,_,_,_,_,_,_,_,_,_,_,ae h rfl,ae h rfl,ae h rfl,ae h rfl,ae h rfl,ae h rfl,ae h rfl,ae h rfl,ae h rfl,ae h rfl,PA.mk λd3 u e9 d4=>⟨u,?_⟩⟩;have c4:=c3.af u (λ_ _ f=>f) λ_ _ f=>f;have f2:=a2.size;refine PC.ok (Uh (x:=⟨e,H,I,J⟩) c4.mS oM d4 (λe=>by have:=f.mS.aC _ e;omega) oM) ?_;rintro _ f3 ⟨a',c',rfl,a3,v,x⟩;have b1:¬aD a=some p:=λe=>(f.ma p e).2 rfl;have f4:=v.size;refine⟨_,_,_,rfl,p,0,rfl,PS.mk (v.get c4.at' b1) sM λd5 N f5 d6=>?_⟩;have y:ak M w d5:=((ai.af (a2.then u)).then (v.mono λP _ b=>(f.ma P b).1)).then (N.mono λP _ e=>by have e:P=p:=e;exact e▸f.mp);refine Ok.mk ⟨by rw[b7],λP=>M P\/aD a'=some P,λP=>D P\/G P,⟨⟨B.1,B.2.add he⟩,a',n+1,c',L.take (posOf (λP=>ei P.x e) L)++⟨e,H,I,J⟩::L.drop (posOf (λP=>ei P.x e) L),d6,?_,?_,?_,?_,.inl f.mp,?_,?_⟩,?_,?_,?_⟩
 ·refine a3.af N λP b e=>?_
  have e:P=p:=e;rcases x P b with g|g
  ·exact b1 (e▸g)
  ·omega
 ·rw[b7]
  have c5:posOf (λi=>ei i e) l=posOf (λP:Bx aj=>ei P.x e) L:=by
   unfold posOf;rw[<-f.map,List.takeWhile_map,Q8];rfl
  show _=dm e l;rw[Eg c8,c5,Q3,QY,List.map_take,List.map_drop,f.map]
 ·have b2:∀P,G P->b6.heap.size<=P/\P<b8.heap.size:=λP b=>⟨Y P b,W.aC P b⟩
  intro i k;rcases Q6.1 k with k|k
  ·exact((f.Nr i (List.mem_of_mem_take k)).af y λP b=>(f.dD P b).2).mono λP b=>.inl b
  rcases Q2.1 k with rfl|k
  ·refine⟨(((((W.af a9 λP b e=>?_).ah s).ah (t.then u)).af v λP b e=>?_).af N λP b e=>?_).row (bytes:=8) dC (by rw[<-O.len];exact O.ef)|>.mono λP b=>.inr b,he⟩
   ·have e:P=w.heap.size:=e;have:=b2 P b;have:=ax V;omega
   ·have:=f.mS.aC P e;have:=b2 P b;omega
   ·have e:P=p:=e;have:=b2 P b;omega
  ·exact((f.Nr i (List.mem_of_mem_drop k)).af y λP b=>(f.dD P b).2).mono λP b=>.inl b
 ·intro P b
  have hz:b8.heap.size<=d3.heap.size:=by have:=a9.size;have:=s.size;have:=t.size;have:=u.size;omega
  rcases b with b|b
  ·have g:=f.dD P b
   refine⟨by have:=y.size;omega,λz=>z.elim g.2 λe=>?_⟩;rcases x P e with A|A
   ·exact g.2 (f.ma P A).1
   ·omega
  ·have g:=W.aC P b;have h3:=Y P b
   have f8:=b4.size;refine⟨by have:=v.size;have:=N.size;omega,λz=>?_⟩;rcases z with z|e
   ·have:=f.dM P z;omega
   rcases x P e with A|A
   ·have:=f.mS.aC P A;omega
   ·omega
 ·intro P b
  refine⟨.inr b,λe=>?_⟩;rcases x P b with g|g
  ·exact b1 (e▸g)
  ·omega
 ·intro P b
  rcases b with b|b
  ·have:=f.dM P b;have:=y.size;omega
  ·have:=a3.aC P b;omega
 ·exact y
 ·intro P b
  rcases b with b|b
  ·exact .inl b
  rcases x P b with g|g
  ·exact .inl (f.ma P g).1
  ·exact .inr oM
 ·intro P b
  rcases b with b|b
  ·exact .inl b
  ·exact .inr (by have:=Y P b;omega)
end
end Go.Proofs.YtjgjkeponbeekaaGreatDoor
namespace Go.ar
open Go
variable{E a c i l:Nat}{f:ZN}{d:YQ}{h:Program}{j:Type}{g r:TypeId}{b:World}{z:ZU}
def aM.Sc{k:Nat}{n:j->List Value}{o:j->Prop}{hl h1}{P:List j}{x:j}(e:aM (flat k n o hl h1) r f b d a c P)(y:E<P.length)(A:0<k)(B:o x)(C:d=some ⟨i,l,none⟩)(F:ij h g (n x)=true)(p:∀m,aM (flat k n o hl h1) r f m d a c (P.set E x)->ak (λi=>aD d=some i) b m->m.heap.size=b.heap.size->z m):kv h g (.pointer (some ⟨i,l+E*k,none⟩)) (.agg (n x).toArray) b z:=by
 have L:=e.len A;obtain⟨cs,D,s,H,t⟩:=e.body;have M:cs.length=a*k:=s.length;have N:(E+1)*k<=a*k:=Q0 _ oM;have I:(E+1)*k=E*k+k:=by rw[X7,Nat.one_mul]
 refine s.store (m:=E*k) C F (by rw[hl];omega) λJ K u v=>p J ⟨⟨_,D,K,?_,t⟩,e.self,λi q=>by rw[v];exact e.aC i q⟩ u v;have w:=H.af u λi q=>(t i q).2;rw[hl,<-I,show P.set E x=P.take E++[x]++P.drop (E+1) by rw[XQ,List.singleton_append];exact List.set_eq_take_append_cons_drop .. |>.trans (Zx y)];exact bF.append (bF.append (w.take E) (bF.one ⟨rfl,B⟩)) (w.drop (E+1))
end Go.ar
namespace Go.Proofs.YtjgjkeponbeekaaGreatDoor
section
open Go.ar
variable{X o:Array Value}{A:FuncId}{a5 f:ZN}{d:YQ}{q:aj}{H:aw}
section
variable {w w':World} {p:Nat} {M D T E:ZN} {most:Nat} {l:List aj} {a:YQ} {n c:Nat} {L:List (Bx aj)}
def Ns{pr:aj->Bool}(H:enters ZP A=true)(m:aM mW.jG 63 (λP=>aD a=some P) w a n c L)(hl:L.length<=20000000)(I:∀(P:Bx aj) e,ak (λP=>aD a=some P) w e->YX A (o++ #[jT P.x P.a P.n P.c]++X) e (Ok λs w'=>s= .bool (pr P.x)/\ai e w')):
  YX 302 #[.slice a n c,.func (.func A) o X] w (Ok λs w'=>∃p,s= .slice a p c/\aM mW.jG 63 (λP=>aD a=some P) w' a p c (L.filter λP=>!pr P.x)/\ak (λP=>aD a=some P) w w'):=by
 have hn:=m.len dC;have b6:=m.jH;have q:∀{e:World} {f:List (Bx aj)},aM mW.jG 63 (λP=>aD a=some P) e a n c f->f.length=L.length->Row mW.jG 96 e (λP=>aD a=some P) a n f:=λ{e f} Z b7=>Z.row dC (by unfold aK;omega);refine fx (PC.ok (AB (E:=λP=>aD a=some P) (L:=L) H (λd e=>(∀P∈L.take d,pr P.x=false)/\ai w e) (λd e=>(∀P∈L.take d,pr P.x=false)/\(∀P,L[d]? =some P->pr P.x=true)/\ai w e) ⟨sM,ak.refl _⟩ (λd e h1=>(q m rfl).ah h1.2) ?_) ?_)
 ·rintro d P e h ⟨i,z⟩
  refine(I P e (ai.af z)).mono ?_;rintro _ w2 ⟨s,rfl,rfl,J⟩;refine Ok.mk ?_
  cases K:pr P.x
  ·refine .inr ⟨rfl,λM g=>?_,z.then J⟩
   rw[Qw,h]at g;rcases Q6.1 g with g|g
   ·exact i M g
   ·simp at g;subst g;exact K
  ·exact .inl ⟨rfl,i,λM g=>by rw[h]at g;cases g;exact K,z.then J⟩
 rintro _ w4 (⟨k,b8,rfl,i,a0,r⟩|⟨rfl,i,r⟩)
 rotate_left
 ·refine⟨_,rfl,al.tt sM (Ok.mk ⟨n,rfl,?_,ai.af r⟩)⟩
  rw[Qz oM]at i;rw[List.filter_eq_self.2 λP h=>by rw[i P h];rfl];exact m.ah r
 have N:L[k]? =some L[k]:=Qq oM;have a8:(L.take (k+1)).filter (λP=>!pr P.x)=L.take k:=by
  rw[Qw,N,List.filter_append,List.filter_eq_self.2 λP h=>by rw[i P h];rfl];simp[a0 _ N]
 refine⟨_,rfl,al.ff sM ⟨λp l d w'=>∃(B j:Nat) (f:List (Bx aj)),l=B/\d=j/\B<j/\j<=n/\p=n-j/\aM mW.jG 63 (λP=>aD a=some P) w' a n c f/\f.length=L.length/\f.take B=(L.take j).filter (λP=>!pr P.x)/\f.drop j=L.drop j/\ak (λP=>aD a=some P) w w',
  ⟨_,k,k+1,L,rfl,aq oM,oM,oM,rfl,m.ah r,rfl,a8.symm,rfl,ai.af r⟩,?_⟩⟩
 rintro p _ _ _ O ⟨l,d,f,rfl,rfl,b9,c1,rfl,t,C,u,Q,v⟩;refine al.dec (λc2=>?_) (λc3=>?_)
 ·have x:L[d]? =some L[d]:=Qq oM
  have R:f[d]? =some L[d]:=by
   have:=Zj (·[0]?) Q;simp only[List.getElem?_drop,Nat.add_zero]at this;rw[this,x]
  have S:f.drop (d+1)=L.drop (d+1):=by
   have:=Zj (List.drop 1) Q
   rwa [List.drop_drop,List.drop_drop]at this
  generalize L[d]=b at x R;obtain⟨P,T,es,E,c4,c5,a9,rfl,-⟩:=(q t C).el d b R;refine⟨P,T,E,oM,oM,bA (es:=aE b.x b.a b.n b.c) (k:=10) (aX _ _ _ _) rfl (λa1 ht=>by rw[Qx];exact a9 a1 ht) (PA.mk λc6 b0 c7 b1=>az (aX b.x b.a b.n b.c) b1 rfl λU b2 c8 V=>au (aX b.x b.a b.n b.c) V ⟨_,_,_,rfl,H,?_⟩)⟩;have W:ai O U:=b0.new b2 λP h=>.inr (by have h:P=O.heap.size:=h;omega);refine PC.ok (I b U (v.ah W)) ?_;rintro _ c9 ⟨rfl,Y⟩;have y:=W.then Y;refine⟨_,rfl,al.not (al.mk (λF=>⟨_,?_,l,d+1,f,rfl,aq oM,oM,oM,rfl,t.ah y,C,?_,S,v.ah y⟩) (λF=>?_))⟩
  ·omega
  ·rw[u,Qw,x,List.filter_append]
   simp[F]
  ·refine au (aX b.x b.a b.n b.c) (Y.get V id) ⟨P,T,E,oM,oM,?_⟩
   rw[Qx];refine aM.Sc (x:=b) (k:=10) (t.ah y) oM dC trivial E (aX b.x b.a b.n b.c) λd0 a7 b3 d1=>⟨_,?_,l+1,d+1,f.set l b,aq oM,aq oM,oM,oM,rfl,a7,by simpa using C,?_,?_,(v.ah y).then b3⟩
   ·omega
   ·rw[Qw (l:=L),x,List.filter_append,<-u,Qw,List.getElem?_set_self oM,List.take_set_of_le (Q4 _)]
    simp[F]
   ·rw[List.drop_set_of_lt oM,S]
 ·obtain rfl:d=n:=oM
  rw[Qz (l:=L) oM]at u;refine⟨oM,oM,?_⟩;rw[Qx];refine Au tw kR t oM λwu b4 b5 d2=>⟨oM,oM,Ok.mk ⟨l,rfl,?_,v.then b5⟩⟩
  rw[<-u];exact b4
def Nt{P a:Nat}(j:ck w P f H)(k:w.heap[a]? =some (.cells #[ZL P] 102 (0,0))){l m:Nat}:
  YX 300 #[jT q d l m,ZL a] w (Ok λo w'=>o= .bool (H.get (aZ q)).isSome/\ai w w'):=by
 refine mX (PA.mk λv n x b=>⟨_,ae (n.get k id) rfl,_,_,ae b rfl,ae b rfl,PC.ok (Sd (j.ah n) (aZ q)) ?_⟩);rintro _ p ⟨c,e,g,G,rfl,y,z,h⟩;exact bT (rY _ c e g) ⟨_,rfl,PA.mk λA r B s=>az (aX _ c e g) s rfl λC t E F=>Ok.mk ⟨rfl,((n.then h).then r).new t λu i=>.inr (by have i:u=p.heap.size:=i;have:=n.size;have:=h.size;omega)⟩⟩
def Nu{c g:Nat}(k:ck w c f H)(l:w.heap[g]? =some (.cells #[ZL c] 102 (0,0))){e h:Nat}(m:Row aI 8 w a5 d e q.aQ)(i:∀n,a5 n->n<w.heap.size/\¬f n)(o:q.Ok)(t:H.l.length<=20000000):
  YX 303 #[jT q d e h,ZL g] w (Ok λp w'=>p= .bool (decide ((H.add q).1=0))/\∃a,ck w' c a (H.add q).2/\bB f w a w'):=by
 refine mY (PA.mk λu P v r=>⟨_,ae (P.get l id) rfl,au (aX q d e h) r (PC.ok (uA (k.ah P) (m.ah P) (λn b=>⟨by have:=(i n b).1;omega,(i n b).2⟩) o oM) ?_)⟩);rintro _ x ⟨rfl,a,s,j⟩;have:=P.size;exact⟨_,rfl,Ok.mk ⟨by congr 1,a,s,(ai.af P).then j.af,λn b=>(j.new n b).imp id oM⟩⟩
end
end
section
open Go.ar
variable{g7:List (Bx aj)}{f:ZN}{d:YQ}{b:World}{H:aw}
section
variable {w w':World} {p:Nat} {M D E:ZN} {most:Nat} {l:List aj} {a:YQ} {n c:Nat} {L:List (Bx aj)}
structure RX (w:World) (p:Nat) (M:ZN) (most:Nat) (a:YQ) (c s tb:Nat) (T:aw) (nc:Nat) (Lc:List (Bx aj)) (oa:YQ) (on oc:Nat) (Lo:List (Bx aj)) (w1:World):Prop where
 set:∃F1,ck w1 s F1 T/\(∀b,F1 b->w.heap.size<=b/\b≠tb)/\∀b,aD oa=some b->w.heap.size<=b/\¬F1 b/\b≠tb
 ptr:w1.heap[tb]? =some (.cells #[ZL s] 102 (0,0))
 buf:w1.heap[p]? =some (.cells #[ZH (most:Int),.slice a nc c] 147 (0,0))
 mS:aM mW.jG 63 (λb=>aD a=some b) w1 a nc c Lc
 out:aM mW.jG 63 (λb=>aD oa=some b) w1 oa on oc Lo
 af:ak M w w1
def xW(h:Pu w p M D most l a n c L){q j:Nat}{i:Nat}{r s:Nat}{t:List (Bx aj)}(F:RX w p M most a c q j H i g7 d r s t b)(N:∀P∈g7,P∈L)(O:H.l.length<=20000000)(a6:g7.length<=20000000):
  YX 304 #[.slice a i c,.func (.func 303) #[] #[ZL j]] b (Ok λz w'=>
   (z= ZH (-1)/\(∀P∈g7,(H.add P.x).1≠0)/\RX w p M most a c q j H i g7 d r s t w')\/
   (∃g P,g<i/\z= ZH (g:Int)/\g7[g]? =some P/\(∀v∈g7.take g,(H.add v.x).1≠0)/\(H.add P.x).1=0/\RX w p M most a c q j (H.add P.x).2 i g7 d r s t w')):=by
 have R:=h.dM p h.mp;have a7:=F.mS.len dC;have S:∀P,aD a=some P->P<w.heap.size:=λP e=>h.dM P (h.ma P e).1;refine(AB (E:=λP=>aD a=some P) (L:=g7) kR (λg k=>(∀P∈g7.take g,(H.add P.x).1≠0)/\RX w p M most a c q j H i g7 d r s t k) (λg k=>∃P,g7[g]? =some P/\(∀v∈g7.take g,(H.add v.x).1≠0)/\(H.add P.x).1=0/\RX w p M most a c q j (H.add P.x).2 i g7 d r s t k) ⟨sM,F⟩
  (λg k f=>f.2.mS.row dC (by unfold aK;omega)) ?_).mono ?_
 ·rintro g P k e ⟨I,f⟩
  obtain⟨T,U,x,A⟩:=f.set;have J:=(h.Nr P (N P (QZ e))).af f.af λP e=>(h.dD P e).2;have z2:=f.af.size;refine(Nu U f.ptr J.1 (λP e=>⟨by have:=(h.dD P e).1;omega,λm=>by have:=(h.dD P e).1;have:=(x P m).1;omega⟩) J.2 O).mono ?_;rintro _ V ⟨z,rfl,rfl,W,X,o⟩;have K:∀P,P<w.heap.size->¬T P:=λP e m=>by have:=(x P m).1;omega
  have Y:=ax f.ptr;have C:∀P,aD d=some P->P<k.heap.size:=λP e=>f.out.aC P e;have E:RX w p M most a c q j (H.add P.x).2 i g7 d r s t V:=⟨⟨W,X,λP e=>(o.new P e).elim (x P) λy=>⟨oM,oM⟩,λP e=>⟨(A P e).1,λm=>(o.new P m).elim (A P e).2.1 λy=>by have:=C P e;omega,(A P e).2.2⟩⟩,
   o.af.get f.ptr λm=>(x _ m).2 rfl,o.af.get f.buf (K p R),f.mS.af o.af λP e=>K P (S P e),f.out.af o.af λP e=>(A P e).2.1,f.af.new o.af λP e=>.inr (x P e).1⟩
  refine Ok.mk ?_
  by_cases u:(H.add P.x).1=0
  ·exact .inl ⟨by rw[Zy u],P,e,I,u,E⟩
  ·refine .inr ⟨by rw[Xv u],λv Q=>?_,?_⟩
   ·rw[Qw,e]at Q
    rcases Q6.1 Q with Q|Q
    ·exact I v Q
    ·simp at Q;subst Q;exact u
   ·rcases H.jb P.x with⟨-,y⟩|⟨y,-⟩
    ·rw[y]at E;exact E
    ·rw[y]at u;exact Zz rfl u
 ·rintro _ k ⟨z,rfl,Z⟩
  rcases Z with⟨g,hj,rfl,P,B,f,h3,h4⟩|⟨rfl,B,f⟩
  ·exact Ok.mk (.inr ⟨g,P,hj,rfl,B,f,h3,h4⟩)
  ·rw[Qz oM]at B
   exact Ok.mk (.inl ⟨rfl,B,f⟩)
def FK(d7:gN w p M D most l){b3:Nat}(hs:ck w b3 f H)(g3:H.Cl)(k2:H.l.length<=19000000):
  YX 247 #[ZL p,ZL b3] w (Ok λd8 w'=>∃q z C k,d8= .slice q z C/\aM mW.jG 63 (λP=>aD q=some P) w' q z C k/\k.map (·.x)=(bC H l).1/\(∀P∈k,mW.In w' D P)/\(∀P,aD q=some P->w.heap.size<=P)/\
   gN w' p M D most (bC H l).2/\ak M w w'):=by
 obtain⟨W,a,n,c,L,g⟩:=d7;have g4:=g.dM p g.mp;have X:∀P,aD a=some P->P<w.heap.size:=λP b=>g.dM P (g.ma P b).1;have k3:L.length=l.length:=by rw[<-g.map,Q8]
 have h1:l.length<=256:=Xx W.2.le W.1;have hN:=hs.1.n;refine pg (PC.ok (lJ hs) ?_);rintro _ w4 ⟨va,vn,vc,Fv,rfl,g6,k4,k5⟩;have d2:=g6.len dC;rw[H.bN]at d2;subst d2;refine⟨_,_,_,rfl,PC.ok (FL hN) ?_⟩;rintro _ A ⟨E,F2,rfl,d3,d4,k7⟩;have z4:=k4.size;have z7:=k7.size;refine⟨_,rfl,PA.mk λw9 k9 s9 g9=>PS.mk g9 sM λg7 g8 k6 h4=>?_⟩;have a1:ai A g7:=k9.new g8 λP b=>.inr (by have b:P=A.heap.size:=b;omega);have b4:=(k4.then k7).then a1;have Y:=d3.aC;refine PC.ok (rE (hs.ah b4) oM) ?_;rintro _ Z ⟨ea,en,ec,G,rfl,b9,a6,hG⟩;have k8:=b9.len dC;have l0:=a1.size;have l3:=a6.size;have e0:Row jF 96 Z G ea en H.l:=b9.row dC (by unfold aK;omega);have h6:Z.heap[A.heap.size]? =some (.cells #[ZL E] 102 (0,0)):=a6.get h4 id;have d6:=b9.aC;refine⟨_,_,_,rfl,λR a2 w'=>∃(e:Nat) (S:ZN),a2=e/\e<=en/\R=en-e/\ck w' E S ((⟨H.n,[]⟩:aw).fN (H.l.take e))/\(∀P,S P->F2 P\/Z.heap.size<=P)/\ak F2 Z w',⟨_,0,F2,rfl,Qj _,rfl,d3.ah (a1.then a6),λP b=>.inl b,ak.refl _⟩,?_⟩;rintro R _ _ a7 ⟨e,S,rfl,hj,rfl,a8,a9,T⟩;have l4:=T.size;have c1:=T.get h6 λF=>by have:=Y _ F;omega
 refine al.dec (λl5=>?_) (λl6=>?_)
 ·have K:H.l[e]? =some H.l[e]:=Qq oM
  generalize H.l[e]=N at K;have e7:=e0.af T λP b F=>by have:=Y _ F;have:=hG P b;omega
  obtain⟨P,e8,es,ha,l7,l8,c2,xa,xn,xc,rfl,h7,f0⟩:=e7.el e N K;refine⟨P,e8,ha,oM,oM,bA (es:=aE N xa xn xc) (k:=10) (aX _ _ _ _) rfl (λa2 ht=>by rw[Qx];exact c2 a2 ht) (PA.mk λl9 h8 m1 h9=>az (aX N xa xn xc) h9 rfl λi1 i3 m2 i4=>?_)⟩;have O:ai a7 i1:=h8.new i3 λP b=>.inr (by have b:P=a7.heap.size:=b;omega);have c3:=aw.mZ (H.l.take e) ⟨H.n,[]⟩;rw[Qy]at c3;simp only[ZQ]at c3;refine⟨_,ae (O.get c1 id) rfl,au (aX N xa xn xc) i4 (PC.ok (uA (a8.ah O) (h7.ah O) (λP b=>⟨by have:=d6 P b;have:=O.size;omega,λF=>?_⟩) f0 oM) ?_)⟩
  ·rcases a9 P F with j|j
   ·have:=Y _ j;have:=hG P b;omega
   ·have:=d6 P b;omega
  rintro _ i5 ⟨rfl,F3,i6,d9⟩;refine⟨_,rfl,_,oM,e+1,F3,aq oM,oM,rfl,?_,λP b=>?_,?_⟩
  ·rw[Qw,K]
   show ck i5 E F3 (aw.fN _ (H.l.take e++[N]));rw[aw.rF];exact i6
  ·rcases d9.new P b with j|j
   ·exact a9 P j
   ·have:=O.size;exact .inr oM
  ·exact(T.ah O).new d9.af λP b=>a9 P b
 rw[Qz oM,g3.Vs]at a8;have b5:ai w a7:=(b4.then a6).new T λP b=>.inr (by have:=d4 P b;omega);have c4:=g.af b5 (λ_ _ g=>g) λ_ _ g=>g;have s:∀P,S P->w.heap.size<=P/\P≠A.heap.size:=λP b=>by
  rcases a9 P b with j|j
  ·have:=d4 P j;have:=Y P j;omega
  ·omega
 refine⟨p,0,rfl,_,_,_,ae c4.at' rfl,PC.ok (Ns (pr:=λd=>(H.get (aZ d)).isSome) kR c4.mS oM λP w1 hk=>?_) ?_⟩
 ·refine Nt (a8.af hk λP b d=>?_) (hk.get c1 λd=>?_)
  ·have:=X P d;have:=(s P b).1;omega
  ·have:=X _ d;omega
 rintro _ m3 ⟨m0,rfl,f1,e1⟩;have b0:¬aD a=some p:=λd=>(g.ma p d).2 rfl;refine⟨_,_,_,rfl,p,0,rfl,PS.mk (e1.get c4.at' b0) sM λe2 e3 m4 e4=>⟨p,0,rfl,_,_,_,ae e4 rfl,?_⟩⟩;obtain⟨t,y⟩:∃t,t=L.filter λP=>!(H.get (aZ P.x)).isSome:=⟨_,rfl⟩
 have a3:ak (λP=>aD a=some P\/P=p) a7 e2:=(e1.mono λP _ b=>.inl b).then (e3.mono λP _ b=>.inr b);have WG:∀P,aD a=some P\/P=p->P<w.heap.size:=λP b=>b.elim (X P) λd=>d▸g4;have e5:RX w p M most a c E A.heap.size H m0 t none 0 0 [] e2:=by
  refine⟨⟨S,a8.af a3 λP b d=>by have:=WG P d;have:=(s P b).1;omega,s,λP b=>by cases b⟩,a3.get c1 λd=>by have:=WG _ d;omega,e4,?_,(aM.nil _).mono (λP b=>b.elim) λP b=>(by cases b),?_⟩
  ·rw[y];exact f1.af e3 λP b d=>b0 (by have d:P=p:=d;rw[<-d];exact b)
  ·exact(ai.af b5).then (a3.mono λP _ b=>b.elim (λd=>(g.ma P d).1) λd=>d▸g.mp)
 have b6:∀P∈t,P∈L:=λP b=>by rw[y]at b;exact(List.mem_filter.1 b).1
 have a4:t.map (·.x)=l.filter λd=>(H.get (aZ d)).isNone:=by
  rw[y,<-g.map,List.filter_map]
  congr 1
  refine List.filter_congr λP b=>?_;show(!(H.get (aZ P.x)).isSome)=(H.get (aZ P.x)).isNone
  cases H.get (aZ P.x)<;>rfl
 have b7:t.length<=L.length:=by rw[y];exact List.length_filter_le ..
 refine PC.ok (xW g e5 b6 oM oM) ?_;rintro i7 m5 b8;obtain⟨i0,i8⟩:∃u:Int,i7= ZH u:=by
  rcases b8 with⟨m,-⟩|⟨e,P,-,m,-⟩
  ·exact⟨_,m⟩
  ·exact⟨_,m⟩
 subst i8;refine⟨_,rfl,λR q z C u w'=>∃(r:aw) (h k:List (Bx aj)) (B U:Nat),R=h.length/\(∀P∈h,P∈L)/\(∀P∈k,P∈L)/\(h.map (·.x)).Sublist l/\h.length<=U/\r.l.length+h.length<=H.l.length+L.length/\h.length<=L.length/\k.length+h.length<=L.length/\B=h.length/\
   ej (U+1) r (h.map (·.x)) (k.map (·.x))=bC H l/\
   ((u= -1/\(∀P∈h,(r.add P.x).1≠0)/\RX w p M most a c E A.heap.size r B h q z C k w')\/
    (∃e P,e<B/\u=(e:Int)/\h[e]? =some P/\(∀v∈h.take e,(r.add v.x).1≠0)/\(r.add P.x).1=0/\RX w p M most a c E A.heap.size (r.add P.x).2 B h q z C k w')),?_,?_⟩
 ·have i9:=e5.mS.len dC
  refine⟨_,H,t,[],m0,t.length,rfl,b6,sM,by rw[a4];exact List.filter_sublist,Q4 _,oM,b7,by simpa using b7,i9,?_,?_⟩
  ·rw[a4]
   show ej (t.length+1) H _ []=_;unfold bC;rw[<-a4];show _=ej ((t.map (·.x)).length+1) H _ [];rw[Q8]
  ·rcases b8 with⟨m,I,J⟩|⟨e,P,m,I,J⟩
   ·exact .inl ⟨by simpa using m,I,J⟩
   ·exact .inr ⟨e,P,m,by simpa using I,J⟩
 rintro R q z C u _ j0 ⟨r,h,k,B,U,rfl,a5,c0,e6,hk,m6,k0,k1,m7,c6,j1⟩;rcases j1 with⟨rfl,c5,i⟩|⟨e,P,hj,rfl,b,c5,f6,i⟩
 ·refine al.ff sM (Ok.mk ⟨q,z,C,k,rfl,i.out,?_,λP b=>(g.Nr P (c0 P b)).af i.af λP b=>(g.dD P b).2,λP b=>by obtain⟨F1,-,-,j⟩:=i.set;exact(j P b).1,⟨⟨W.1,?_⟩,a,B,c,h,i.buf,i.mS,?_,λP b=>(g.Nr P (a5 P b)).af i.af λP b=>(g.dD P b).2,λP b=>⟨by have:=(g.dD P b).1;have:=i.af.size;omega,(g.dD P b).2⟩,g.mp,g.ma,λP b=>by have:=g.dM P b;have:=i.af.size;omega⟩,i.af⟩)
  all_goals
   have f7:bC H l=(k.map (·.x),h.map (·.x)):=by
    rw[<-c6];unfold ej;rw[sK λd he=>by obtain⟨P,b,rfl⟩:=Xk.1 he;exact c5 P b]
   rw[f7]
  exact W.2.sub e6
 ·have j2:e<h.length:=oM
  have m8:=i;obtain⟨F1,e9,f2,b1⟩:=i.set;have m9:=i.af.size;have c3:=r.Ac P.x;obtain⟨gb,go,es,ha,n0,n1,c2,rfl,-⟩:=(i.mS.row (bytes:=96) dC (by unfold aK;omega)).el e P b;have d:=λu (hi:u<10)=>c2 u hi;refine al.dec (λ_=>⟨p,0,rfl,_,_,_,ae i.buf rfl,gb,go,ha,oM,oM,_,_,_,_,_,_,_,_,_,_,_,_,d 0 dC,d 1 dC,d 2 dC,d 3 dC,d 4 dC,d 5 dC,d 6 dC,d 7 dC,d 8 dC,d 9 dC,PA.mk λj3 f3 n2 j4=>?_⟩) (λhn=>oM);have n3:=i.out.len dC;refine eH (c:=mW.jG) (x:=P) (D:=λ_=>False) (i.out.ah f3) tw j4 ⟨rfl,trivial⟩ (λP b=>b.elim) (by unfold aK;omega) (by unfold maxLen;omega) λV b2 f4 Fo c7 j5 j6=>⟨_,_,_,rfl,p,0,rfl,?_⟩
  have f8:=c7.alone;have d0:∀P,aD V=some P->aD q=some P\/j3.heap.size<=P:=λP b=>(j6 P (c7.self P b)).imp id λg=>g.resolve_left id;have o:∀P,aD q=some P->w.heap.size<=P:=λP b=>(b1 P b).1;have Q:ak (λP=>aD q=some P) j0 f4:=(ai.af f3).then j5;have f5:=Q.get i.buf λd=>by have:=o _ d;omega
  have f9:=i.mS.af Q λP b d=>by have:=o _ d;have:=X P b;omega
  have n4:=Q.size;refine⟨_,_,_,ae f5 rfl,PC.ok (Ui f9 hj oM) ?_⟩;rintro _ n8 ⟨rfl,g5,c8⟩;have n9:=c8.size;refine⟨_,_,_,rfl,p,0,rfl,PS.mk (c8.get f5 b0) sM λg0 g1 o0 g2=>⟨p,0,rfl,_,_,_,ae g2 rfl,?_⟩⟩;have o1:(h.eraseIdx e).length=h.length-1:=List.length_eraseIdx_of_lt j2;have a0:ak (λP=>aD a=some P\/P=p) f4 g0:=(c8.mono λP _ b=>.inl b).then (g1.mono λP _ b=>.inr b);have c9:∀P,w.heap.size<=P->¬(aD a=some P\/P=p):=λP b d=>by have:=WG P d;omega
  have j7:RX w p M most a c E A.heap.size (r.add P.x).2 (B-1) (h.eraseIdx e) V (z+1) b2 (k++[P]) g0:=by
   refine⟨⟨F1,(e9.af Q λP b d=>(b1 P d).2.1 b).af a0 λP b=>c9 P (f2 P b).1,f2,λP b=>?_⟩,a0.get (Q.get i.ptr λd=>(b1 _ d).2.2 rfl) (c9 _ oM),g2,g5.af g1 λP b d=>b0 (by have d:P=p:=d;rw[<-d];exact b),f8.af a0 λP b=>c9 P ?_,?_⟩
   ·rcases d0 P b with j|j
    ·exact b1 P j
    ·have hd:=e9.aC
     have o2:=ax i.ptr;exact⟨oM,λF=>by have:=hd P F;omega,oM⟩
   ·rcases d0 P b with j|j
    ·exact o P j
    ·omega
   ·exact(i.af.new Q λP b=>.inr (o P b)).then (a0.mono λP _ b=>b.elim (λd=>(g.ma P d).1) λd=>d▸g.mp)
  have d1:∀v∈h.eraseIdx e,v∈L:=λv x=>a5 v ((List.eraseIdx_sublist ..).subset x);refine PC.ok (xW g j7 d1 oM oM) ?_;rintro j8 o3 d5;obtain⟨i2,j9⟩:∃u:Int,j8= ZH u:=by
   rcases d5 with⟨m,-⟩|⟨e,P,-,m,-⟩
   ·exact⟨_,m⟩
   ·exact⟨_,m⟩
  subst j9;have h0:∃k',U=k'+1:=⟨U-1,oM⟩
  obtain⟨k',rfl⟩:=h0;refine⟨_,rfl,(h.eraseIdx e).length,oM,(r.add P.x).2,h.eraseIdx e,k++[P],B-1,k',rfl,d1,?_,?_,oM,oM,oM,by simp;omega,oM,?_,?_⟩
  ·intro v x
   rcases Q6.1 x with x|x
   ·exact c0 v x
   ·simp at x;subst x;exact a5 v (QZ b)
  ·exact((List.eraseIdx_sublist ..).map _).trans e6
  ·rw[<-c6]
   conv=>rhs;unfold ej
   rw[sL (i:=e) (e:=P.x) (λN K=>by rw[<-List.map_take]at K;obtain⟨v,x,rfl⟩:=Xk.1 K;exact c5 v x) (by rw[Q9,b];rfl) f6];show _=ej (k'+1) (r.add P.x).2 ((h.map (·.x)).eraseIdx e) (k.map (·.x)++[P.x]);rw[map_eraseIdx,Q3];rfl
  ·rcases d5 with⟨m,I,J⟩|⟨e,P,m,I,J⟩
   ·exact .inl ⟨by simpa using m,I,J⟩
   ·exact .inr ⟨e,P,m,by simpa using I,J⟩
end
def pR:fL:=⟨[(3,[(21,ZH 0)])],[],[5],[5],[(5,⟨[0,0,2,4,8,0,32,64,208,511,1023,1535],[4095,4095,4093,4091,4087,4095,4063,4031,3951,4094,3583,2815],[0,0,0,0,1,1,2,2,2,0,0,2]⟩)]⟩
variable{t:ZT}{e:Int}{v:List Int}{y:List UInt8}{L:List aj}{a c i:Nat}{a5:ZN}{s:YQ}{k:World}{z:ZU}{q:aj}{b4:eJ}
def pS(z:(dr d λA B=>(rS b (ad A B) λV n W=>((0:Int)<=(if(ZG .i64 (1024-(n:Int)))<(a:Int)then(ZG .i64 (1024-(n:Int)))else(a:Int))/\((if(ZG .i64 (1024-(n:Int)))<(a:Int)then(ZG .i64 (1024-(n:Int)))else(a:Int)):Int)<=(c:Int)/\(∃i:Nat->Int->ZU,(∃g,i g 0 b)/\∀(g:Nat) (P:Int) (X:Nat->Value) (e:World),i g P e->al (decide (P<((Int.toNat (if(ZG .i64 (1024-(n:Int)))<(a:Int)then(ZG .i64 (1024-(n:Int)))else(a:Int)):Nat):Int))) ((dr s λC D=>(0:Int)<=P/\P<((Int.toNat (if(ZG .i64 (1024-(n:Int)))<(a:Int)then(ZG .i64 (1024-(n:Int)))else(a:Int)):Nat):Int)/\(Ld 127 (ad C (D+Int.toNat P*5)) e λE=>PA e (.cells #[.ii 0,.ii 0,.ii 0,.slice none 0 0,.slice none 0 0] 127) λF=>St 127 (ab_ e 0) E F λG=>(∀f,aV G f->∃j:ZN,(dr d λk H=>(¬j k/\(rS f (ad k H) λI J K=>(Ld 127 (ab_ e 0) f λL=>PC_ 96 #[L] f (λM h=>∃l m o p q r u v w,M= .agg #[.ii l,.ii m,.ii o,.slice p q r,.slice u v w]/\(ak j f h/\PA h (.cells #[.ii l,.ii m,.ii o,.slice p q r,.slice u v w] 127) λx=>(ak j h x/\PR_ (ap_ 69 (.slice I J K) (.slice (some (ab_ h 0)) 1 1)) x (kS_ λN O Q R=>(dr d λS T=>PS R (ad S T) (.slice N O Q) λU=>(∃y,y<g/\i y (ZG .i64 (P+1)) U))) (pY t)))) (pZ t))))))))) (rt t ((.ii (ZG .i64 ((a:Int)-(if(ZG .i64 (1024-(n:Int)))<(a:Int)then(ZG .i64 (1024-(n:Int)))else(a:Int)))))) e)))))):YX 64 #[.pointer d,.slice s a c] b t:=DC pR Tryz.func64 rfl z
def tZ:fL:=⟨[(3,[(6,.slice none 0 0),(16,ZH 0)])],[],[5,12],[],[(5,⟨[0,1,2,4,0,16,40,64,128,128,511,2047],[4095,4094,4093,4091,4095,4079,4055,4031,3967,3967,3839,3583],[0,0,0,1,0,2,2,0,0,0,0,0]⟩),(12,⟨[0,0,2,4,8,0,32,0,208,257,1023],[2047,2047,2045,2043,2039,2047,2015,2047,1839,2046,1791],[0,0,0,0,1,0,2,0,2,0,0]⟩)]⟩
def t_(N:PA b (.cells #[.slice s a c] 211) λw=>(rS w (ab_ b 0) λO x c3=>(∃o:Nat->YQ->Nat->Nat->Int->ZU,(∃P,o P none 0 0 0 w)/\∀(P:Nat) (e:YQ) (f:Nat) (g:Nat) (n:Int) (c4:Nat->Value) (h:World),o P e f g n h->al (decide (n<(x:Int))) ((ix_ O n x λQ R=>(rI h (ad Q (R+Int.toNat n)) λi=>(∀j,aV h j->∃p:ZN,(dr d λy S=>(¬p y/\(rP j (ad y S) λT=>PC_ 146 #[.ii i] j (λU q=>∃z,U= .string z/\(ak p j q/\PC_ 162 #[.pointer T,.string z] q (λV k=>∃W A X B,V= .tuple #[.slice W A X,.ii B]/\(ak p q k/\al (B !=0) (rt t ((.tuple #[.slice e f g,.ii 0])) k) ((dr d λY Z=>(rP k (ad Y Z) λa1=>PC_ 168 #[.pointer a1,.ii i] k (λa2 a3=>∃D C E l,a2= .tuple #[.slice D C E,.ii l]/\PR_ (ap_ 59 (.slice e f g) (.slice D C E)) a3 (kS_ λG F H r=>(dr d λa4 a5=>(rS r (ad a4 (a5+2)) λa6 a7 a8=>PA r (.cells #[.ii i] 3) λa9=>PR_ (ap_ 42 (.slice a6 a7 a8) (.slice (some (ab_ r 0)) 1 1)) a9 (kS_ λb0 b1 b2 b3=>(dr d λb4 b5=>PS b3 (ad b4 (b5+2)) (.slice b0 b1 b2) λb6=>(dr d λb7 b8=>PS b6 (ad b7 (b8+3)) (.ii l) λI=>al (decide (l<(A:Int))) ((∀m,aV I m->∃u:ZN,(dr d λJ b9=>(¬u J/\(rP m (ad J b9) λc0=>PC_ 146 #[.ii i] m (λc1 v=>∃K,c1= .string K/\(ak u m v/\PC_ 169 #[.pointer c0,.string K,.ii l] v (kI_ λc2 L=>(ak u v L/\rt t ((.tuple #[.slice G F H,.ii c2])) L)) (pZ t))) (pZ t)))))) ((∃M,M<P/\o M G F H (ZG .i64 (n+1)) I))))) (pV t)))) (pV t)) (pE t)))))) (pZ t))) (pZ t)))))))) (rt t ((.tuple #[.slice e f g,.ii 0])) h)))):YX 110 #[.pointer d,.agg #[.slice s a c]] b t:=DC tZ Tryz.func110 rfl N
def ri(n:eJ)(D:an):Int×eJ×an:=
 let b:=cB (aB n.next)
 let P:=D.sync b
 if P.1≠0 then(P.1,n,(P.2.delete b).2)else
 let a:=cf P.2 (n.bQ++[n.next])
 if a.1≠0 then(a.1,n,(a.2.delete b).2)else
 (0,⟨n.size,n.bQ++[n.next],0,ZG .i64 (n.next+1)⟩,a.2)
def mM(P:eJ)(D:an):Int×eJ×an:=
 let n:=D.create (cB (aB P.next))
 if n.1≠0 then(n.1,P,n.2)else ri P n.2
def bb(n:eJ)(D:an):Int×eJ×an:=
 if n.bQ=[]then mM n D else
 let P:=D.sync n.last
 if P.1≠0 then(P.1,n,P.2)else mM n P.2
def EP(b c:World)(d e:Nat)(P:ZN)(n:Int×eJ×an)(f:Value)(a:World):Prop:=f= ZH n.1/\cd b a d e n.2.1 n.2.2 P/\ak (dz P) c a
def Rh(n:Int):aJ (ZG .i64 n):=by
 unfold aJ ZG;simp[IntKind.signed,IntKind.bits];omega
def Hb{D:an}{P:List Int}(n:(cf D P).1=0):P.length<=64:=by
 unfold cf at n;split at n
 ·cases n
 ·omega
def ER{D:an}(hL:Laid b)(h:cd b k a c b4 D f):
  YX 111 #[ZL c] k (Ok (EP b k a c f (bb b4 D))):=by
 have b2:=h.aC;obtain⟨p4,j5,e7⟩:=h.XE;have p5:=h.gr.size;have e9:=h.BD;have j6:=h.many;refine tI (PA.mk λB k1 s1 g1=>PA.mk λw2 k2 s2 g2=>?_);have d8:ai k w2:=k1.then k2
 let b6:ZN:=λn=>f n\/(n=k.heap.size\/n=B.heap.size)
 have hY:cd b w2 a c b4 D b6:=h.add d8 λn P=>by omega
 have b7:=k2.get g1 id;refine⟨λd=>∃C,cd b d a c b4 C b6/\ak (dz f) k d/\w2.heap.size<=d.heap.size/\d.heap[k.heap.size]? =some (.cells #[ZL c] 101 (0,0))/\d.heap[B.heap.size]? =some (.cells #[ZH 0] 34 (0,0))/\bb b4 D=mM b4 C,?_,?_⟩
 ·obtain⟨G,hD,hl,hG⟩:=id hY
  obtain⟨t,E,I,l,S,hr,hE,u⟩:=hl.row;refine⟨_,ae b7 rfl,c,0,rfl,_,_,_,ae S rfl,al.dec (λo7=>?_) (λy=>?_)⟩
  ·have v:b4.bQ≠[]:=λg=>by rw[g]at u;simp at u;omega
   refine⟨_,ae b7 rfl,PC.ok (Jg hL hY v) ?_⟩;rintro _ w3 ⟨rfl,Y,k3⟩;have kX:ak (dz f) k w3:=(ai.af d8).then (k3.mono λn _ P i=>P (.inl i));have b8:=k3.get b7 λu=>u (.inr (.inl rfl));have b9:=k3.get g2 λu=>u (.inr (.inr rfl));have hB:bb b4 D=if(D.sync b4.last).1≠0 then((D.sync b4.last).1,b4,(D.sync b4.last).2)else mM b4 (D.sync b4.last).2:=by unfold bb;rw[Zq v]
   refine⟨_,rfl,al.dP (λf5=>?_) (λF=>⟨_,Y,kX,k3.size,b8,b9,by rw[hB,Zq (by simpa using F)]⟩)⟩;refine PS.mk b9 sM λJ L s4 g4=>⟨_,ae g4 rfl,Ok.mk ?_⟩
   rw[hB,Zx f5];exact⟨rfl,(Y.other L λn P=>⟨P▸.inr (.inr rfl),oM⟩).mono λn P=>.inl P,kX.then (L.mono λn _ P i=>by have:=b2 n i;omega)⟩
  ·have he:b4.bQ=[]:=QW oM
   exact⟨D,hY,ai.af d8,Q4 _,b7,g2,by unfold bb;rw[Zx he]⟩
 rintro _ w3 ⟨C,Y,b3,o8,b8,b9,hB⟩;rw[hB];obtain⟨G3,p6,j7,p7⟩:=id Y;obtain⟨f7,n3,f9,E3,j8,-,-,-⟩:=j7.row;refine⟨_,ae b8 rfl,c,0,rfl,_,ae j8 rfl,PC.ok (jx (hL.ah Y.gr) e9) ?_⟩;rintro _ J ⟨rfl,L⟩;refine⟨_,rfl,PA.mk λw5 k5 s5 g5=>PS.mk g5 sM λw6 k6 s6 g6=>?_⟩
 let p:ZN:=λn=>b6 n\/n=J.heap.size
 have f8:=Y.ah L;have p8:=f8.gr.size;have p9:=L.size;have j9:cd b w6 a c b4 C p:=(f8.add (Y:=(·=J.heap.size)) k5 λn P=>oM).other k6 λn P=>⟨.inr P,oM⟩
 have k0:ak (dz f) k w6:=((b3.ah L).ah k5).then (k6.mono λn _ P i=>by have:=b2 n i;have:=b3.size;omega);have e0:∀{n},f n->p n:=λi=>.inl (.inl i);intro M e4;have k7:ai w6 M:=e4.af;have g0:=j9.ah k7;have gn:w6.heap[J.heap.size]? =some (.cells #[.string (cB (aB b4.next))] 9 (0,0)):=g6;have l0:=k6.get (k5.get (L.get b8 id) id) oM;have g3:=k6.get (k5.get (L.get b9 id) id) oM
 let q:World->Int->Prop:=λd g=>d.heap[k.heap.size]? =some (.cells #[ZL c] 101 (0,0))/\d.heap[B.heap.size]? =some (.cells #[ZH g] 34 (0,0))/\d.heap[J.heap.size]? =some (.cells #[.string (cB (aB b4.next))] 9 (0,0))
 have C6:q w6 0:=⟨l0,g3,gn⟩
 have e:∀{d w:World} {g:Int} {d0:ZN},q d g->ak d0 d w->(∀n,d0 n->¬(n=k.heap.size\/n=B.heap.size\/n=J.heap.size))->q w g:=λN o hS=>
  ⟨o.get N.1 λO=>hS _ O (.inl rfl),o.get N.2.1 λO=>hS _ O (.inr (.inl rfl)),o.get N.2.2 λO=>hS _ O (.inr (.inr rfl))⟩
 have j:∀{d w:World} {g:Int},q d g->ak (dz p) d w->q w g:=λN o=>e N o λn P hc=>P (by
  rcases hc with rfl|rfl|rfl
  ·exact .inl (.inr (.inl rfl))
  ·exact .inl (.inr (.inr rfl))
  ·exact .inr rfl)
 have c1:∀{d w:World},ak (dz f) k d->ak (dz p) d w->ak (dz f) k w:=λt n=>t.then (n.mono λn _ P i=>P (e0 i));have C7:q M 0:=e C6 k7 λn P=>P.elim;obtain⟨G7,q0,l3,q1⟩:=id g0;obtain⟨h0,n7,k4,E7,l4,-,-,-⟩:=l3.row;refine⟨_,ae C7.1 rfl,c,0,rfl,_,ae l4 rfl,_,ae C7.2.2 rfl,PC.ok (g0.on (λp hZ T=>T.create)) ?_⟩;rintro _ w8 ⟨rfl,c2,k8⟩;have C8:=j C7 k8;have g7:=c1 (k0.ah k7) k8;have l5:mM b4 C=if(C.create (cB (aB b4.next))).1≠0 then((C.create (cB (aB b4.next))).1,b4,(C.create (cB (aB b4.next))).2)else ri b4 (C.create (cB (aB b4.next))).2:=rfl
 rw[l5];generalize q2:C.create (cB (aB b4.next))=cr at c2⊢;obtain⟨l1,K⟩:=cr;simp only at c2⊢;have q3:B.heap.size<w2.heap.size:=oM
 have g8:∀{d:World} {z:Int×eJ×an} {g:Int} {w:World},cd b d a c z.2.1 z.2.2 p->ak (dz f) k d->ak (·=B.heap.size) d w->g=z.1->EP b k a c f z (ZH g) w:=by
  intro d z g w u o O he;exact⟨by rw[he],(u.other O λn P=>⟨P▸.inl (.inr (.inr rfl)),oM⟩).mono λn P=>e0 P,o.then (O.mono λn _ P i=>by have:=b2 n i;omega)⟩
 refine⟨_,rfl,al.dP (λv=>?_) (λF=>?_)⟩
 ·refine PS.mk C8.2.1 sM λw9 k9 s9 g9=>⟨_,ae g9 rfl,Ok.mk ?_⟩
  rw[Zx v];exact g8 c2 g7 k9 rfl
 rw[Zq (by simpa using F)];have A:∀{z:Int×eJ×an} (g:Int) (l:an) (d:World),cd b d a c b4 l p->ak (dz f) k d->q d g->g≠0->z=(g,b4,(l.delete (cB (aB b4.next))).2)->
   Lv ZP (λh2=>∃h3:Int,h2.cell? ⟨B.heap.size,0,none⟩=some (ZH h3)/\Ok (EP b k a c f z) (.returned (ZH h3)) h2) (λch d=>Ok (EP b k a c f z) (.panicked ch) d)
    ([{target:=.fn (.func 171) #[ZL B.heap.size,ZL k.heap.size,ZL J.heap.size],args:= #[]}]:List Deferred) .returning d:=by
  intro z g l d u o N v hr;refine Lv.one sM kR (CallsD.mono (iS (R:=λe' M=>e'= .returned (.tuple #[])/\∃h4:Int,M.cell? ⟨B.heap.size,0,none⟩=some (ZH h4)/\Ok (EP b k a c f z) (.returned (ZH h4)) M) ⟨_,ae N.2.1 rfl,al.dP (λ_=>?_) (λF=>Zz F v)⟩) ?_)
  ·intro wa da
   have ka:ai d wa:=da.af;have h5:=u.ah ka;have e1:q wa g:=e N ka λn P=>P.elim;obtain⟨Ga,q4,l6,q5⟩:=id h5;obtain⟨aa,na,ca,Ea,c0,-,-,-⟩:=l6.row;refine⟨_,ae e1.1 rfl,c,0,rfl,_,ae c0 rfl,_,ae e1.2.2 rfl,PC.ok (h5.on (λp hZ T=>T.delete)) ?_⟩;rintro _ U ⟨rfl,l7,kb⟩;have l8:=j e1 kb;refine⟨_,rfl,rfl,_,ae l8.2.1 rfl,Ok.mk ?_⟩;rw[hr];exact⟨rfl,l7.mono λn P=>e0 P,c1 (o.ah ka) kb⟩
  ·rintro e' u' M ⟨rfl,rfl,hX⟩
   exact Lv.ret rfl hX
 intro w9 e5;have k9:ai w8 w9:=e5.af;have h6:=c2.ah k9;have C9:q w9 0:=e C8 k9 λn P=>P.elim;obtain⟨G9,q6,l9,q7⟩:=id h6;obtain⟨l2,n9,n5,E9,m0,-,-,-⟩:=l9.row;refine⟨_,ae C9.1 rfl,c,0,rfl,_,ae m0 rfl,_,ae C9.2.2 rfl,PC.ok (h6.on (λp hZ T=>T.sync)) ?_⟩;rintro _ Z ⟨rfl,V,h7⟩;have b0:=j C9 h7;have d1:=c1 (g7.ah k9) h7;have m1:ri b4 K=if(K.sync (cB (aB b4.next))).1≠0 then((K.sync (cB (aB b4.next))).1,b4,((K.sync (cB (aB b4.next))).2.delete (cB (aB b4.next))).2)else
   if(cf (K.sync (cB (aB b4.next))).2 (b4.bQ++[b4.next])).1≠0 then((cf (K.sync (cB (aB b4.next))).2 (b4.bQ++[b4.next])).1,b4,((cf (K.sync (cB (aB b4.next))).2 (b4.bQ++[b4.next])).2.delete (cB (aB b4.next))).2)else
   (0,⟨b4.size,b4.bQ++[b4.next],0,ZG .i64 (b4.next+1)⟩,(cf (K.sync (cB (aB b4.next))).2 (b4.bQ++[b4.next])).2):=rfl
 rw[m1];generalize q8:K.sync (cB (aB b4.next))=sy at V⊢;obtain⟨q9,c4⟩:=sy;dsimp only at V;refine⟨_,rfl,al.dP (λv=>?_) (λF=>?_)⟩
 ·refine PS.mk b0.2.1 sM λr s r0 m2=>?_
  rw[Zx v];exact A _ c4 r (V.other s λn P=>⟨P▸.inl (.inr (.inr rfl)),oM⟩) (d1.then (s.mono λn _ P i=>by have:=b2 n i;omega)) ⟨s.get b0.1 oM,m2,s.get b0.2.2 (by have:=b3.size;omega)⟩ v rfl
 rw[Zq (by simpa using F)];have o9:J.heap.size<Z.heap.size:=ax b0.2.2;refine⟨λt E I d=>∃l,aM aI 3 l d t E I (b4.bQ++[b4.next])/\(∀n,l n->Z.heap.size<=n)/\ai Z d,?_,?_⟩
 ·intro r m3
  have s:ai Z r:=m3.af;have a5:=V.ah s;have b1:q r 0:=e b0 s λn P=>P.elim;obtain⟨m4,h8,W,h9⟩:=id a5;obtain⟨m5,m6,m7,m8,a6,d2,d3,p0⟩:=W.row;have p1:=W.aC c W.self;have a1:∀{wa U wc:World} {S:Nat} {t E I:_} {a2:ZN},aM aI 3 a2 U t E I b4.bQ->(∀n,a2 n->r.heap.size<=n/\n≠S)->U.heap[S]? =some (.cells #[ZH b4.next] 3 (0,0))->ai r U->
    ∀κ ε,(∀X n' c' d,(∃l,aM aI 3 l d X n' c' (b4.bQ++[b4.next])/\(∀n,l n->Z.heap.size<=n)/\ai Z d)->ak (λn=>r.heap.size<=n) U d->κ (.slice X n' c') d)->
    aG ZP (Builtin.append_ #[42,42] 42 #[.slice t E I,.slice (ZM S) 1 1]) U κ ε:=by
   intro wa U wc S t E I a2 Q hF hg o κ ε c3;refine kN Q uC (D:=(·=S)) (Row.lit hg [b4.next] rfl (λd4 i=>by simp at i;subst i;exact e9) (by unfold aK;simp)) (λn g=>⟨g▸ax hg,λe8=>(hF n (Q.self n e8)).2 g⟩) (by unfold aK;simp;omega) (by unfold maxLen;simp;omega) λX c' d F' c7 a3 _ c9=>?_;refine c3 X _ c' d ⟨λn=>aD X=some n,c7.alone,λn P=>?_,?_⟩ (a3.mono λn _ P=>(hF n (Q.self n P)).1)
   ·have:=s.size;have:=o.size
    rcases c9 n P with h|h
    ·have:=(hF n h).1;omega
    ·omega
   ·exact(s.then o).new a3 λn P=>.inr (by have:=(hF n (Q.self n P)).1;have:=s.size;omega)
  have r3:k.heap.size<r.heap.size:=ax b1.1;refine⟨λn=>r.heap.size<=n,oM,_,ae b1.1 rfl,c,0,rfl,oM,_,_,_,ae a6 rfl,oM,_,ae b1.1 rfl,c,0,rfl,oM,_,ae a6 rfl,?_,?_⟩
  ·refine PC.ok (bI d2 λn P=>W.aC n (d3 n P).1) ?_
   rintro _ a4 ⟨r4,r5,r6,r7,rfl,a7,H,i0⟩;refine⟨_,_,_,rfl,H.af,PA.mk λx m m9 e3=>⟨m.af,a1 (wa:=x) (wc:=x) (a7.ah m) (λn P=>⟨i0 n P,by have:=a7.aC n P;omega⟩) e3 (H.then m) _ _ λX n' c' d hJ o=>⟨_,_,_,rfl,o,trivial,hJ⟩⟩⟩
  ·refine PA.mk λa4 H r8 n0=>⟨H.af,PC.ok (bI (d2.ah H) λn P=>by have:=W.aC n (d3 n P).1;have:=H.size;omega) ?_⟩
   rintro _ x ⟨n1,n2,n4,r9,rfl,a8,m,d5⟩;exact⟨_,_,_,rfl,m.af,a1 (wa:=x) (wc:=x) a8 (λn P=>⟨by have:=d5 n P;omega,by have:=d5 n P;omega⟩) (m.get n0 id) (H.then m) _ _ λX n' c' d hJ o=>⟨_,_,_,rfl,o,trivial,hJ⟩⟩
 rintro t E I _ r ⟨l,Q,hE,s⟩;have p2:(b4.bQ++[b4.next]).length<=65:=by simp;omega
 have a5:cd b r a c b4 c4 (λn=>p n\/l n):=V.add s λn P=>⟨hE n P,Q.aC n P⟩
 have b1:q r 0:=e b0 s λn P=>P.elim;have d6:Row aI 8 r l t E (b4.bQ++[b4.next]):=Q.row dC (by unfold aK;omega);have f0:∀d4∈b4.bQ++[b4.next],aJ d4:=MS d6;obtain⟨m4,h8,W,h9⟩:=id a5;obtain⟨m5,m6,m7,m8,a6,-,-,-⟩:=W.row;refine⟨_,ae b1.1 rfl,c,0,rfl,_,ae a6 rfl,PC.ok (a5.on λZ' n8 T=>T.cf hL.nY d6 f0 λn P=>.inr (n8 n (.inr P))) ?_⟩;rintro _ a4 ⟨rfl,a9,H⟩;have R:ak (dz p) r a4:=H.mono λn _ P y=>P (.inl y);have c5:=j b1 R;have d7:=c1 (d1.ah s) R;have a7:=Q.af H λn P u=>u (.inr P);have b5:= @Hb c4 (b4.bQ++[b4.next]);have i1:True:=trivial;generalize s3:cf c4 (b4.bQ++[b4.next])=mw at a9 b5 i1⊢;obtain⟨s7,c6⟩:=mw;dsimp only at a9 b5 i1⊢;refine⟨_,rfl,al.dP (λv=>?_) (λF=>?_)⟩
 ·refine PS.mk c5.2.1 sM λx m m9 e3=>?_
  rw[Zx v];have f1:cd b a4 a c b4 c6 p:=a9.mono λn P=>.inl P;exact A _ c6 x (f1.other m λn P=>⟨P▸.inl (.inr (.inr rfl)),oM⟩) (d7.then (m.mono λn _ P i=>by have:=b2 n i;omega)) ⟨m.get c5.1 oM,e3,m.get c5.2.2 (by have:=b3.size;omega)⟩ v rfl
 rw[Zq (by simpa using F)];have b5:=b5 F;intro x o0;have m:ai a4 x:=o0.af;have i2:=a9.ah m;have e6:q x 0:=e c5 m λn P=>P.elim;have a8:=a7.ah m;obtain⟨s8,i3,d9,p3⟩:=id i2;obtain⟨n1,n2,n4,t0,i4,-,-,-⟩:=d9.row;have i5:∀n,l n->n≠c:=λn P g=>by have:=hE n P;omega
 have o1:c≠k.heap.size/\c≠B.heap.size/\c≠J.heap.size:=by have:=b3.size;omega
 refine⟨(·=c),_,ae e6.1 rfl,λg=>o1.1 g.symm,_,ae e6.1 rfl,c,0,rfl,PS.mk i4 sM λt1 i6 t2 o2=>⟨i6,c,0,rfl,PS.mk o2 sM λo3 i7 t3 i8=>⟨i7,?_⟩⟩⟩;have e2:=i6.then i7;have i9:q o3 0:=e e6 e2 λn P hc=>by subst P;omega
 refine⟨_,ae i9.1 rfl,c,0,rfl,_,ae i8 rfl,c,0,rfl,PS.mk i8 sM λc8 j0 t4 j1=>?_⟩;have o4:q c8 0:=e i9 j0 λn P hc=>by subst P;omega
 have a0:ak (·=c) x c8:=e2.then j0;refine PS.mk o4.2.1 sM λo5 o6 t5 j2=>Lv.one sM kR (CallsD.mono (iS (R:=λe' M=>e'= .returned (.tuple #[])/\M=o5) ⟨_,ae j2 rfl,al.dP (λhc=>Zz rfl hc) (λ_=>⟨rfl,rfl⟩)⟩) ?_);rintro e' u' _ ⟨rfl,rfl,rfl⟩;refine Lv.ret rfl ⟨_,ae j2 rfl,Ok.mk ?_⟩;have j3:c8.heap[c]? =some (.cells #[ZL a,ZH b4.size,.slice t E I,ZH 0,ZH (ZG .i64 (b4.next+1))] 209 (0,0)):=j1;have j4:cd b c8 a c ⟨b4.size,b4.bQ++[b4.next],0,ZG .i64 (b4.next+1)⟩ c6 p:=by
  refine⟨λn=>n=c\/l n,?_,⟨⟨t,E,I,l,j3,a8.af a0 λn P g=>i5 n P g,λn P=>⟨.inr P,i5 n P⟩⟩,.inl rfl,?_,b5,?_⟩,?_⟩
  ·have h1:aT b x a c6 (λn=>p n\/(n=c\/l n)):=i3.mono λn P=>by
    rcases P with P|P|P
    ·exact .inl (.inl P)
    ·exact .inr (P▸d9.self)
    ·exact .inl (.inr P)
   obtain⟨a2,f2,f4,f3,f6⟩:=h1;exact⟨a2,f2.af a0 λn P g=>(f3 n P).2 (.inr (.inl g)),f4.new a0 λn P=>.inr oM,f3,λn P=>Qk (f6 n P) a0.size⟩
  ·rintro n (rfl|P)
   ·exact ax j1
   ·exact Qk (a8.aC n P) a0.size
  ·show aJ (ZG .i64 (b4.next+1))
   exact Rh _
  ·rintro n (rfl|P)
   ·exact⟨j5,λy=>by
     rcases y with(y|y|y)|y
     ·exact e7 y
     ·omega
     ·omega
     ·omega⟩
   ·have:=hE n P
    exact⟨by have:=V.gr.size;omega,λy=>by have:=V.aC n y;omega⟩
 exact g8 j4 ((d7.ah m).then (a0.mono λn _ P i=>e7 (P▸i))) o6 rfl
def gR(no:Int):ByteArray:=cB (aB no)
structure qH where
 no:Int
 out:List aj
 V:eJ
 D:an
def jR:List Int->List aj->eJ->an->qH
 |[],n,P,D=>⟨0,n,P,D⟩
 |no::a,n,P,D=>
  if(D.read (gR no)).2≠0 then⟨0,n,P,D⟩else
  if(bV (D.read (gR no)).1).2<(D.read (gR no)).1.length then
   ⟨(D.II (gR no) (bV (D.read (gR no)).1).2).1,n++(bV (D.read (gR no)).1).1,⟨P.size,P.bQ++[no],(bV (D.read (gR no)).1).2,P.next⟩,(D.II (gR no) (bV (D.read (gR no)).1).2).2⟩
  else jR a (n++(bV (D.read (gR no)).1).1) ⟨P.size,P.bQ++[no],(bV (D.read (gR no)).1).2,P.next⟩ D
section
variable {w0 w w1 w':World} {p q:Nat} {D D':an} {V V':eJ} {X Y Z G S:ZN}
def aT.dT(b:aT w0 w p D X)(c:ak Y w w')(d:∀n,Y n->X n/\w0.heap.size<=n)(e:∀n,Z n->(X n\/w.heap.size<=n)/\n<w'.heap.size):aT w0 w' p D Z:=by
 obtain⟨g,f,h,a,k⟩:=b;exact⟨g,f.af c λn P i=>(a n P).2 (d n i).1,h.new c λn P=>.inr (d n P).2,λn P=>⟨(a n P).1,λj=>(e n j).1.elim (a n P).2 λb=>by have:=f.aC n P;omega⟩,λn P=>(e n P).2⟩
def cd.dT(f:cd w0 w p q V D X)(a:ak Y w w')(b:∀n,Y n->X n/\w0.heap.size<=n)(c:∀n,Z n->(X n\/w.heap.size<=n)/\n<w'.heap.size):cd w0 w' p q V D Z:=by
 obtain⟨G,g,d,e⟩:=f;refine⟨G,g.dT a (λn P=>⟨.inl (b n P).1,(b n P).2⟩) λn P=>?_,d.af a λn P h=>(e n P).2 (b n h).1,λn P=>⟨(e n P).1,λi=>(c n i).1.elim (e n P).2 λf=>by have:=d.aC n P;omega⟩⟩;rcases P with P|P
 ·exact⟨(c n P).1.imp .inl id,(c n P).2⟩
 ·exact⟨.inl (.inr P),Qk (d.aC n P) a.size⟩
def Ri{no A:Int}(h:cd w0 w p q V D X)(N:aJ no)(O:V.bQ.length+1<=64){Q:ZR}(r:∀w',cd w0 w' p q ⟨V.size,V.bQ++[no],A,V.next⟩ D X->ak (dz X) w w'->z w'):
  ∃B C,(ZM q:YQ)=some ⟨B,C,none⟩/\∃(g:YQ) (s t:Nat),w.cell? ⟨B,C+2,none⟩=some (.slice g s t)/\
   PA w (.cells #[ZH no] 3) λR=>aG ZP (Builtin.append_ #[42,42] 42 #[.slice g s t,.slice (ZM w.heap.size) 1 1]) R (λS T=>
    ∃(c:YQ) (E i:Nat),S= .slice c E i/\∃F H,(ZM q:YQ)=some ⟨F,H,none⟩/\PS T ⟨F,H+2,none⟩ (.slice c E i) λU=>
     ∃I J,(ZM q:YQ)=some ⟨I,J,none⟩/\PS U ⟨I,J+3,none⟩ (ZH A) z) Q:=by
 obtain⟨G,W,b,d⟩:=id h;obtain⟨g,s,t,a0,K,e,f⟩:=b.body;have a8:=b.aC q b.self;refine⟨q,0,rfl,_,_,_,ae K rfl,PA.mk λw1 j s1 Y=>?_⟩;refine kN (e.ah j) uC (D:=(·=w.heap.size)) (Row.lit Y [no] rfl (λa1 k=>by simp at k;subst k;exact N) (by unfold aK;simp)) (λn a=>⟨oM,λZ=>by have:=e.aC n (e.self n Z);omega⟩) (by unfold aK;simp;omega) (by unfold maxLen;simp;omega) λc i w2 F' l m _ u=>?_
 replace l:=l.alone
 have a6:¬aD g=some q:=λa=>(f q (e.self q a)).2 rfl;have g2:=m.get (j.get K id) a6;have z2:=m.size;have v:¬aD c=some q:=λa=>by
  rcases u q a with h|h
  ·exact(f q h).2 rfl
  ·omega
 refine⟨_,_,_,rfl,q,0,rfl,PS.mk g2 sM λw3 x s3 g3=>⟨q,0,rfl,PS.mk g3 sM λo y s4 g4=>r o ?_ ?_⟩⟩
 ·have a7:ak (λn=>aD g=some n\/n=q) w1 o:=((m.mono λn _ P=>.inl P).then (x.mono λn _ P=>.inr P)).then (y.mono λn _ P=>.inr P)
  have kG:ak G w o:=(ai.af j).then (a7.mono λn _ P=>P.elim (λh=>(f n (e.self n h)).1) λh=>h▸b.self);have L:∀n,aD c=some n->n<o.heap.size:=λn P=>by have:=l.aC n P;omega
  refine⟨λn=>n=q\/aD c=some n,W.dT kG (λn P=>⟨.inr P,(d n P).1⟩) λn P=>?_,⟨⟨c,_,i,(λn=>aD c=some n),g4,?_,λn P=>⟨.inr P,λa=>v (a▸P)⟩⟩,.inl rfl,?_,by simpa using O,b.BD⟩,?_⟩
  ·rcases P with P|rfl|P
   ·exact⟨.inl (.inl P),by have:=h.aC n P;omega⟩
   ·exact⟨.inl (.inr b.self),oM⟩
   ·refine⟨?_,L n P⟩
    rcases u n P with h|h
    ·exact .inl (.inr (f n h).1)
    ·exact .inr oM
  ·exact(l.af x λn P a=>v (a▸P)).af y λn P a=>v (a▸P)
  ·rintro n (rfl|P)
   ·omega
   ·exact L n P
  ·rintro n (rfl|P)
   ·exact d _ b.self
   ·rcases u n P with M|M
    ·exact d n (f n M).1
    ·exact⟨by have:=h.gr.size;omega,λk=>by have:=h.aC n k;omega⟩
 ·refine(((ai.af j).then (m.mono λn _ P=>?_)).then (x.mono λn _ P=>?_)).then (y.mono λn _ P=>?_)
  ·exact(d n (f n (e.self n P)).1).2
  ·exact(d n (P▸b.self)).2
  ·exact(d n (P▸b.self)).2
def UN{j n:Nat}(P:j<=64)(a:n<=j*262144):n<=16777216:=oM
def SZ(w0 w:World)(p q:Nat)(X:ZN)(n:qH)(d:Value)(w':World):Prop:=
 ∃a b c G,d= .tuple #[.slice a b c,ZH n.no]/\aM vz 63 G w' a b c n.out/\cd w0 w' p q n.V n.D (λP=>X P\/G P)/\ak (dz X) w w'/\(∀P,G P->w.heap.size<=P)/\n.out.length<=16777216
def Rj(B:Laid w0)(h:cd w0 w p q V D X)(O:Row aI 8 w f d a v)(c4:∀n,f n->X n)(f4:V.bQ.length+v.length<=64):
  YX 110 #[ZL q,.agg #[.slice d a c]] w (Ok (SZ w0 w p q X (jR v [] V D))):=by
 have j:=O.len;have Q:=h.aC;have g0:=h.gr.size;refine t_ (PA.mk λw1 R s1 g1=>⟨_,_,_,ae g1 rfl,λS T U W Y w'=>∃(e:Nat) (g:eJ) (b:List aj) (G:ZN),Y=e/\e<=v.length/\S=v.length-e/\jR v [] V D=jR (v.drop e) b g D/\g.bQ.length=V.bQ.length+e/\b.length<=e*262144/\
  aM vz 63 G w' T U W b/\cd w0 w' p q g D (λn=>X n\/G n)/\ak (dz X) w w'/\∀n,G n->w.heap.size<=n,
  ⟨_,0,V,[],λ_=>False,rfl,Qj _,rfl,rfl,rfl,Qj _,aM.nil w1,(h.ah R).mono λn P=>P.elim id λh=>h.elim,ai.af R,λ_ h=>h.elim⟩,?_⟩)
 rintro S T U W Y _ Z ⟨e,g,b,G,rfl,hj,rfl,a4,g2,a0,k,hN,o,s⟩;rw[a4];refine al.dec (λg3=>?_) (λg4=>?_)
 rotate_left
 ·obtain rfl:e=v.length:=oM
  rw[List.drop_of_length_le (Q4 _)];exact Ok.mk ⟨_,_,_,G,rfl,k,hN,o,s,UN oM a0⟩
 obtain⟨n,C,no,rfl,l,i,E⟩:=(O.af o λn P j=>j (c4 n P)).mR (i:=e) oM;have a2:v.drop e=no::v.drop (e+1):=by
  obtain⟨c8,rfl⟩:=Qv.1 l;exact X4 c8
 rw[a2]at a4⊢;refine⟨n,C,rfl,oM,oM,no,E,λw3 d3=>?_⟩;have k3:ai Z w3:=d3.af;have F:=hN.ah k3;obtain⟨G3,d0,d1,g5⟩:=id F;obtain⟨a3,n3,c3,E3,d2,-,-,-⟩:=d1.row;refine⟨λ_=>False,q,0,rfl,id,_,ae d2 rfl,PC.ok (jx (B.ah F.gr) i) ?_⟩;rintro _ w4 ⟨rfl,y⟩;have d4:=F.ah y;refine⟨_,rfl,y,PC.ok ((d0.ah y).read (k:=gR no)) ?_⟩;rintro _ w5 ⟨a5,n5,c5,F5,rfl,d5,g6,-,H⟩;have t:=d4.ah H;have u:ai Z w5:=(k3.then y).then H;have g7:=d5.len dC;have g8:=IX t.ok (gR no);refine⟨_,_,_,_,rfl,H,al.dP (λd6=>?_) (λhe=>?_)⟩
 ·rw[show jR (no::v.drop (e+1)) b g D=⟨0,b,g,D⟩ by unfold jR;rw[Zx d6]]
  exact Ok.mk ⟨_,_,_,G,rfl,k.ah u,t,o.ah u,s,UN oM a0⟩
 obtain⟨G5,d7,d8,g9⟩:=id t;obtain⟨h0,h2,h3,E5,e0,-,-,-⟩:=d8.row;obtain⟨a7,e1,-,-,-⟩:=id d7;refine⟨q,0,rfl,_,ae e0 rfl,PC.ok (Rk (B.ah t.gr) e1 i) ?_⟩;rintro _ w6 ⟨a6,n6,c6,F6,rfl,r,I,J,a8⟩;have e2:cd w0 w6 p q g D (λn=>(X n\/G n)\/F6 n):=t.add I λn P=>⟨J n P,r.aC n P⟩
 have b0:=u.then I;have e3:=k.aC;generalize e4:bV (D.read (cB (aB no))).1=sl at r a8;obtain⟨evs,m⟩:=sl;dsimp only at r a8;have a1:bV (D.read (gR no)).1=(evs,m):=e4;have b1:Row vz 96 w6 F6 a6 n6 evs:=r.row dC (by unfold aK;omega);refine⟨_,_,_,_,rfl,Ae (k.ah b0) Ke b1 (λK=>r.NK K) (λn P=>⟨r.aC n P,λE=>by have:=e3 n (k.self n E);have:=J n P;have:=u.size;omega⟩) (by unfold aK;omega) (by unfold maxLen;omega) λa9 c7 w7 z b2 L b3 _=>?_⟩;have h4:=u.size;have z6:=I.size;have b4:=b2.aC;have e5:cd w0 w7 p q g D (λn=>X n\/z n):=e2.dT L (λn P=>⟨.inl (.inr (k.self n P)),by have:=s n (k.self n P);omega⟩) λn P=>by
  rcases P with P|P
  ·exact⟨.inl (.inl (.inl P)),by have:=Q n P;have:=o.size;have:=L.size;omega⟩
  ·refine⟨?_,b4 n P⟩
   rcases b3 n P with h|h|h
   ·exact .inl (.inl (.inr h))
   ·exact .inl (.inr h)
   ·exact .inr h
 have e6:ak (dz X) w w7:=(o.ah b0).then (L.mono λn _ P l=>by have:=s n (k.self n P);have:=Q n l;omega);have b5:∀n,z n->w.heap.size<=n:=λn P=>by
  have:=o.size;rcases b3 n P with h|h|h
  ·exact s n h
  ·have:=J n h;omega
  ·omega
 refine⟨_,_,_,rfl,Ri e5 i oM λw8 b6 k8=>?_⟩;have b7:ak (dz X) w w8:=e6.then (k8.mono λn _ P l=>P (.inl l));have b8:=b2.af k8 λn P j=>j (.inr P);refine al.dec (λf5=>?_) (λf8=>?_)
 ·rw[show jR (no::v.drop (e+1)) b g D=⟨(D.II (gR no) m).1,b++evs,⟨g.size,g.bQ++[no],m,g.next⟩,(D.II (gR no) m).2⟩ by
   unfold jR;rw[a1,Zq (by simpa using he),Zx (by show m<_;omega)]]
  intro w9 d9;have M:ai w8 w9:=d9.af;have b9:=b6.ah M;obtain⟨G9,e7,N,e8⟩:=id b9;obtain⟨c0,n9,c9,E9,e9,-,-,-⟩:=N.row;refine⟨λn=>n≠q,q,0,rfl,λhs=>hs rfl,_,ae e9 rfl,PC.ok (jx (B.ah b9.gr) i) ?_⟩;rintro _ f2 ⟨rfl,x⟩;refine⟨_,rfl,x.af,PC.ok ((e7.ah x).II (k:=gR no)) ?_⟩;rintro _ f3 ⟨rfl,c1,A⟩;have c2:ak (dz X) f2 f3:=A.mono λn _ P l=>P (.inl (.inl l));refine⟨_,rfl,A.mono λn _ P K=>P (.inr (K▸N.self)),Ok.mk ⟨_,_,_,z,rfl,?_,⟨G9,c1,(N.ah x).af A λn P j=>j (.inr P),e8⟩,((b7.ah M).ah x).then c2,b5,?_⟩⟩
  ·exact((b8.ah M).ah x).af A λn P j=>j (.inl (.inr P))
  ·exact UN (j:=e+1) oM (by simp;omega)
 ·refine⟨_,?_,e+1,⟨g.size,g.bQ++[no],m,g.next⟩,b++evs,z,aq oM,oM,rfl,?_,by simp;omega,by simp;omega,b8,b6,b7,b5⟩
  ·omega
  ·conv=>lhs;unfold jR
   rw[a1,Zq (by simpa using he),Zq (by show¬m<_;omega)]
end
def vP(D:an)(n:Int):eJ:=⟨n,[],0,Cb D⟩
def told(D:an):List Int:=(fr D).getD []
def oL(P:Nat)(n:qH):qH:=
 if n.no≠0 then n else
 if n.V.bQ=[]then⟨(bb n.V n.D).1,n.out,(bb n.V n.D).2.1,(bb n.V n.D).2.2⟩else
 if n.V.bQ.length<P then⟨(cf n.D n.V.bQ).1,n.out,n.V,(cf n.D n.V.bQ).2⟩else n
def eK(D:an)(n:Int):qH:=oL (told D).length (jR (told D) [] (vP D n) D)
def S_(e b:World)(f:Nat)(c:ZN)(n:qH)(g:Value)(P:World):Prop:=
 (n.no≠0/\g= .tuple #[.pointer none,.slice none 0 0,ZH n.no]/\aT e P f n.D c/\ak (dz c) b P)\/
 (n.no=0/\∃d h i j G,g= .tuple #[ZL d,.slice h i j,ZH 0]/\aM vz 63 G P h i j n.out/\cd e P f d n.V n.D (λa=>c a\/G a)/\ak (dz c) b P/\(∀a,G a->b.heap.size<=a)/\b.heap.size<=d/\n.out.length<=16777216)
def IC{D:an}{size:Int}(s:Laid b)(h:aT b k a D f):
  YX 73 #[ZL a,ZH size] k (Ok (S_ b k a f (eK D size))):=by
 have S:∀n,f n->n<k.heap.size:=by obtain⟨a0,h1,h2,h3,h4⟩:=h;exact h4
 have d1:=h.gr.size;obtain⟨a0,hF,-,-,-⟩:=id h;refine Ds (PC.ok (Je (s.ah h.gr) hF) ?_);rintro _ d ⟨rfl,F⟩;have T:=h.ah F;have d2:=EO D.list;refine⟨_,rfl,PA.mk λw2 U s2 g2=>PC.ok ((T.ah U).jM s.nY) ?_⟩;rintro _ t ⟨x,y,V,z,rfl,W,X,-,H⟩;have z1:=F.size;have z3:=H.size
 change aM aI 3 z t x y V (told D)at W
 have d3:(told D).length<=64:=Ep;have b4:ai d t:=U.then H;refine⟨_,_,_,_,rfl,PA.mk λw4 k4 s4 g4=>PS.mk g4 sM λj k5 s5 Y=>⟨_,_,_,ae Y rfl,?_⟩⟩;have b5:j.heap[t.heap.size]? =some (.cells #[.slice x y V] 211 (0,0)):=Y;have I:ai t j:=k4.new k5 λn P=>.inr oM;have Z:ai d j:=b4.then I;have a8:ai k j:=F.then Z;have b6:=I.get (H.get g2 id) id;have a9:=W.ah I
 let J:ZN:=λn=>f n\/(z n\/n=t.heap.size)
 have b7:cd b j a d.heap.size (vP D size) D J:=by
  refine⟨(·=d.heap.size),T.dT Z (Y:=λ_=>False) (λn P=>P.elim) λn P=>?_,⟨⟨none,0,0,λ_=>False,b6,aM.nil j,λ_ h=>h.elim⟩,rfl,λn P=>oM,Qj _,?_⟩,λn P=>⟨oM,λE=>?_⟩⟩
  ·rcases P with(P|P|P)|P
   ·exact⟨.inl P,by have:=S n P;omega⟩
   ·exact⟨.inr (by have:=X n P;omega),a9.aC n P⟩
   ·exact⟨.inr oM,oM⟩
   ·exact⟨.inr oM,oM⟩
  ·show aJ (yE D.list);unfold aJ;omega
  ·subst P
   rcases E with E|E|E
   ·have:=S _ E;omega
   ·have:=X _ E;omega
   ·omega
 have K:Row aI 8 j z x y (told D):=a9.row dC (by unfold aK;omega);refine PC.ok (Rj s b7 K (λn P=>.inr (.inl P)) (by show 0+_<=_;omega)) ?_;rintro _ L ⟨a6,n6,c6,l,rfl,A,u,M,b8,b0⟩;have z5:=a8.size;have hq:k.heap.size<=d.heap.size:=z1;have N:ak (dz f) k L:=(ai.af a8).then (M.mono λn _ P E=>P (.inl E));have g6:=M.get b5 λi=>i (.inr (.inr rfl));have b9:Row aI 8 L z x y (told D):=K.af M λn P i=>i (.inr (.inl P));have d4:=K.len;show _;unfold eK;generalize jR (told D) [] (vP D size) D=e at A u b0;have b1:∀n,l n->k.heap.size<=n:=λn P=>by have:=b8 n P;omega
 refine⟨_,_,_,_,rfl,λno m=>∃o p,oL (told D).length e=⟨no,e.out,o,p⟩/\aM vz 63 l m a6 n6 c6 e.out/\cd b m a d.heap.size o p (λn=>f n\/l n)/\ak (dz f) k m,?_,?_⟩
 ·have c:∀{m o p},cd b m a d.heap.size o p (λn=>J n\/l n)->cd b m a d.heap.size o p (λn=>f n\/l n):=λh=>h.mono λn P=>P.imp .inl id
  refine al.dP (λq=>⟨e.V,e.D,by unfold oL;rw[Zx q],A,c u,N⟩) (λv=>?_);obtain⟨GL,c1,b2,c2⟩:=id u;obtain⟨aL,nL,cL,EL,O,b3,c4,c5⟩:=b2.row;refine⟨_,_,rfl,_,_,_,ae O rfl,al.cX (λhz=>?_) (λc7=>?_)⟩
  ·have Q:e.V.bQ=[]:=QW oM
   refine PC.ok (ER s u) ?_;rintro _ B ⟨rfl,r,g⟩;exact⟨_,rfl,_,_,by unfold oL;rw[Zq (by simpa using v),Zx Q],A.af g λn P i=>i (.inr P),c r,N.then (g.mono λn _ P E=>P (.inl (.inl E)))⟩
  ·have q:¬e.V.bQ=[]:=λa1=>c7 (by rw[c5,a1];rfl)
   refine⟨_,_,rfl,_,_,_,ae O rfl,_,_,_,ae g6 rfl,λB d7=>?_⟩;have g:ai L B:=d7.af;have r:=u.ah g;have C:=A.ah g;have w:ak (dz f) k B:=N.ah g;refine al.dec (λd5=>?_) (λd6=>⟨_,_,by unfold oL;rw[Zq (by simpa using v),Zq q,Zq oM],C,c r,w⟩);have c8:=g.get O id;refine⟨_,_,rfl,_,_,_,ae c8 rfl,PC.ok ((c1.ah g).cf s.nY (b3.ah g) (MS b3) λn P=>.inr (.inr (c4 n P).1)) ?_⟩;rintro _ w8 ⟨rfl,c9,R⟩;have d0:cd b w8 a d.heap.size e.V (cf e.D e.V.bQ).2 (λn=>J n\/l n):=⟨GL,c9,(b2.ah g).af R λn P i=>i (.inr P),c2⟩
   exact⟨_,rfl,_,_,by unfold oL;rw[Zq (by simpa using v),Zq q,Zx oM],C.af R λn P i=>i (.inl (.inr P)),c d0,w.then (R.mono λn _ P E=>P (.inl (.inl (.inl E))))⟩
 ·rintro no _ B ⟨o,p,Q,C,r,w⟩
  rw[Q];refine al.dP (λq=>Ok.mk (.inl ⟨q,rfl,r.vE.mono λn P=>.inl P,w⟩)) (λv=>Ok.mk (.inr ⟨v,d.heap.size,a6,n6,c6,l,by rfl,C,r,w,b1,hq,b0⟩))
def gB(n:aj):Bool:=decide (64<n.aQ.length)
def bu(P:eJ)(D:an)(a:List aj):Int×eJ×an:=
 if a.any gB then(3,P,D)else if a=[]then(0,P,D)else
 let n:=if P.size<=P.bytes then bb P D else(0,P,D)
 if n.1≠0 then n else
 let b:=n.2.2.append n.2.1.last (eu a)
 if b.1≠0 then(b.1,n.2.1,b.2)else(0,⟨n.2.1.size,n.2.1.bQ,ZG .i64 (n.2.1.bytes+((eu a).length:Nat)),n.2.1.next⟩,b.2)
def td{D:an}(n:(bb b4 D).1=0):(bb b4 D).2.1.bQ≠[]:=by
 have c:∀P:an,(ri b4 P).1=0->(ri b4 P).2.1.bQ≠[]:=by
  intro P;unfold ri;dsimp only;split
  ·rename_i a;intro n;exact Zz n a
  ·split
   ·rename_i a;intro n;exact Zz n a
   ·intro _;simp
 have b:∀P:an,(mM b4 P).1=0->(mM b4 P).2.1.bQ≠[]:=by
  intro P;unfold mM;dsimp only;split
  ·rename_i a;intro n;exact Zz n a
  ·exact c _
 revert n
 unfold bb;dsimp only;split
 ·exact b D
 ·split
  ·rename_i a;intro n;exact Zz n a
  ·exact b _
def My(n:q.Ok)(P:q.aQ.length<=64):(xx q).length<=675:=by
 have:=MR n P;have a:=qF n P;unfold xx at*;rw[lf];omega
def oA(n:List aj)(P:aj):eu (n++[P])=eu n++xx P:=by simp[eu]
def Lz{D:an}{v b6:Nat}(V:Laid b)(u:cd b k a c b4 D f)(d1:b4.bQ≠[])(hr:Row jF 96 k a5 d v L)(d4:∀n,a5 n->n<k.heap.size)(hl:L.length<=20000000):
  YX 134 #[ZL c,.slice d v b6] k (Ok (EP b k a c f (bu b4 D L))):=by
 have z:=hr.len;have e9:=u.aC;refine sh ⟨λa4 J K W a6 w=>∃(g:Nat) (x:ZN),a6=g/\g<=v/\a4=v-g/\(∀e∈L.take g,e.Ok/\e.aQ.length<=64)/\(eu (L.take g)).length<=675*g/\aM fP 5 x w J K W (eu (L.take g))/\ai k w/\∀n,x n->k.heap.size<=n,
  ⟨_,0,λ_=>False,rfl,Qj _,rfl,sM,by simp[eu],aM.nil k,ak.refl _,λ_ u=>u.elim⟩,?_⟩
 rintro a4 J K W a6 _ X ⟨g,x,rfl,hj,rfl,Z,d5,p,l,hF⟩;have b3:=p.len dC;refine al.dec (λd6=>?_) (λd7=>?_)
 ·obtain⟨n,a0,e,es,rfl,_,_,q,h,c0,n1,c1,rfl,hd,M⟩:=(hr.ah l).wv (i:=g) oM
  have m:=λi (hi:i<10)=>h i hi;refine⟨n,a0,rfl,oM,oM,_,_,_,_,_,_,_,_,_,_,_,_,m 0 dC,m 1 dC,m 2 dC,m 3 dC,m 4 dC,m 5 dC,m 6 dC,m 7 dC,m 8 dC,m 9 dC,PA.mk λA B s2 g2=>?_⟩;refine storeAll (aE e c0 n1 c1) g2 rfl λC r s3 o=>?_;have y:ai X C:=B.new r λn P=>.inr oM;refine⟨_,_,_,_,_,_,_,_,_,_,_,_,ae o rfl,ae o rfl,ae o rfl,ae o rfl,ae o rfl,ae o rfl,ae o rfl,ae o rfl,ae o rfl,ae o rfl,?_⟩;refine PC.ok (Er (V.ah ((u.gr.then l).then y)) (hd.ah y) M λn P=>by have:=d4 n P;have:=(l.then y).size;omega) ?_;rintro _ w4 ⟨c2,n4,f0,F4,rfl,s,t,a7⟩
  by_cases N:e.aQ.length<=64
  ·have a8:=qF M N
   rw[a8]at s⊢;have f1:=My M N;refine⟨_,_,_,_,rfl,al.dP (λh=>Zz rfl h) (λ_=>?_)⟩;have a9:=y.then t;have c3:Row fP 1 w4 F4 c2 n4 (xx e):=s.row (bytes:=1) dC (by unfold aK;dsimp only;omega);have f2:=a9.size;have f3:=y.size;refine Ae (p.ah a9) tA c3 (λe=>s.NK e) (λn P=>⟨s.aC n P,λh=>by have:=p.aC n (p.self n h);have:=a7 n P;omega⟩) (by unfold aK;omega) (by unfold maxLen;omega) λb5 c5 w5 F5 b0 d8 d9 _=>?_;have b1:L.take (g+1)=L.take g++[e]:=by rw[Qw,q];rfl
   refine⟨_,_,_,rfl,v-(g+1),oM,g+1,F5,aq oM,oM,rfl,?_,?_,?_,(l.then a9).new d8 λn P=>.inr (by have:=hF n (p.self n P);omega),?_⟩
   ·rw[b1]
    intro c4 a1;rcases Q6.1 a1 with Y|Y
    ·exact Z c4 Y
    ·simp at Y;subst Y;exact⟨M,N⟩
   ·rw[b1,oA];simp;omega
   ·rw[b1,oA];exact b0
   ·intro n P
    have:=l.size;rcases d9 n P with Y|Y|Y
    ·exact hF n Y
    ·have:=a7 n Y;omega
    ·omega
  ·have a8:=ym N
   rw[a8]at s⊢;refine⟨_,_,_,_,rfl,al.dP (λ_=>?_) (λh=>Zz h dC)⟩;have c7:L.any gB=true:=List.any_eq_true.2 ⟨e,QZ q,by unfold gB;simp;omega⟩;refine Ok.mk ?_;rw[show bu b4 D L=(3,b4,D) by unfold bu;rw[Zx c7]];have b7:=(l.then y).then t;exact⟨rfl,u.ah b7,ai.af b7⟩
 ·obtain rfl:g=v:=oM
  rw[Qz oM]at Z d5 p b3;have b8:L.any gB=false:=by
   rw[<-Bool.not_eq_true];intro h;obtain⟨e,he,h2⟩:=List.any_eq_true.1 h;have:=(Z e he).2;unfold gB at h2;simp at h2;omega
  refine al.cX (λhz=>?_) (λe0=>?_)
  ·have he:L=[]:=QW oM
   refine Ok.mk ?_;rw[show bu b4 D L=(0,b4,D) by unfold bu;rw[Zq (by simp[b8]),Zx he]];exact⟨rfl,u.ah l,ai.af l⟩
  have e2:L≠[]:=λe=>e0 (by rw[z,e];rfl)
  let E:ZN:=λn=>f n\/x n
  have b9:cd b X a c b4 D E:=u.add l λn P=>⟨hF n P,p.aC n P⟩
  have d2:bu b4 D L=if(if b4.size<=b4.bytes then bb b4 D else(0,b4,D)).1≠0 then(if b4.size<=b4.bytes then bb b4 D else(0,b4,D))else
    if((if b4.size<=b4.bytes then bb b4 D else(0,b4,D)).2.2.append (if b4.size<=b4.bytes then bb b4 D else(0,b4,D)).2.1.last (eu L)).1≠0 then(((if b4.size<=b4.bytes then bb b4 D else(0,b4,D)).2.2.append (if b4.size<=b4.bytes then bb b4 D else(0,b4,D)).2.1.last (eu L)).1,(if b4.size<=b4.bytes then bb b4 D else(0,b4,D)).2.1,((if b4.size<=b4.bytes then bb b4 D else(0,b4,D)).2.2.append (if b4.size<=b4.bytes then bb b4 D else(0,b4,D)).2.1.last (eu L)).2)
    else(0,⟨(if b4.size<=b4.bytes then bb b4 D else(0,b4,D)).2.1.size,(if b4.size<=b4.bytes then bb b4 D else(0,b4,D)).2.1.bQ,ZG .i64 ((if b4.size<=b4.bytes then bb b4 D else(0,b4,D)).2.1.bytes+((eu L).length:Nat)),(if b4.size<=b4.bytes then bb b4 D else(0,b4,D)).2.1.next⟩,((if b4.size<=b4.bytes then bb b4 D else(0,b4,D)).2.2.append (if b4.size<=b4.bytes then bb b4 D else(0,b4,D)).2.1.last (eu L)).2):=by
   unfold bu;rw[Zq (by simp[b8]),Zq e2]
  obtain⟨GL,f4,e3,f5⟩:=id b9;obtain⟨aL,nL,cL,EL,gL,f8,g0,g1⟩:=e3.row;rw[d2];refine⟨λw=>∃F O,(if b4.size<=b4.bytes then bb b4 D else(0,b4,D))=(0,F,O)/\F.bQ≠[]/\cd b w a c F O E/\ak (dz f) k w/\aM fP 5 x w J K W (eu L),?_,?_⟩
  ·refine⟨c,0,rfl,_,ae gL rfl,c,0,rfl,_,ae gL rfl,λA d3=>?_⟩
   have B:ai X A:=d3.af;have Q:=b9.ah B;have R:=p.ah B;have S:ak (dz f) k A:=ai.af (l.then B);refine al.dec (λd7=>?_) (λd6=>⟨b4,D,by rw[Zq oM],d1,Q,S,R⟩);refine PC.ok (ER V Q) ?_;rintro _ C ⟨rfl,H,r⟩;have c6:ak (dz f) k C:=S.then (r.mono λn _ P q=>P (.inl q));have a2:(if b4.size<=b4.bytes then bb b4 D else(0,b4,D))=bb b4 D:=Zx oM;rw[a2];refine⟨_,rfl,al.dP (λa3=>?_) (λT=>⟨_,_,by rw[<-T],td T,H,c6,R.af r λn P z=>z (.inr P)⟩)⟩;rw[Zx a3];exact Ok.mk ⟨rfl,H.mono λn P=>.inl P,c6⟩
  ·rintro _ A ⟨F,O,a2,e1,Q,S,R⟩ C e4
   rw[a2];have r:ai A C:=e4.af;have H:=Q.ah r;have e5:=R.ah r;obtain⟨G3,e6,U,I⟩:=id H;obtain⟨f6,n3,f7,E3,e7,-,-,-⟩:=U.row;refine⟨λn=>n≠c,c,0,rfl,λhs=>hs rfl,_,ae e7 rfl,PC.ok (Jf (V.ah H.gr) U e1) ?_⟩;rintro _ w4 ⟨rfl,t⟩;have s:=e5.ah t;have e8:Row fP 1 w4 x J K (eu L):=s.row (bytes:=1) dC (by unfold aK;omega);refine⟨_,rfl,t.af,PC.ok ((e6.ah t).append e8 (λe=>s.NK e) λn P=>.inr (.inl (.inr P))) ?_⟩;rintro _ w5 ⟨rfl,b2,k5⟩;have j:=(U.ah t).af k5 λn P z=>z (.inr P);have c8:ak (dz f) k w5:=((S.ah r).ah t).then (k5.mono λn _ P q=>P (.inl (.inl q)));refine⟨_,rfl,k5.mono λn _ P e=>P (.inr (e▸U.self)),?_⟩;rw[Zq (λh:((0,F,O):Int×eJ×an).1≠0=>h rfl)];refine al.dP (λa3=>?_) (λT=>?_)
   ·rw[Zx a3]
    exact Ok.mk ⟨rfl,cd.mono (X:=E) ⟨G3,b2,j,I⟩ λn P=>.inl P,c8⟩
   ·rw[Zq (by simpa using T)]
    obtain⟨b5,n5,c5,E5,c9,b0,d0⟩:=j.body;refine⟨c,0,rfl,_,ae c9 rfl,c,0,rfl,PS.mk c9 sM λw6 k6 s6 g6=>Ok.mk ⟨rfl,?_,c8.then (k6.mono λn _ P q=>(I n (P▸j.self)).2 (.inl q))⟩⟩;rw[b3]at g6;refine cd.mono (X:=E) ⟨G3,b2.dT k6 (λn P=>⟨.inr (P▸j.self),(I n (P▸j.self)).1⟩) (λn P=>⟨.inl P,by have:=(P.elim (cd.aC (X:=E) ⟨G3,b2,j,I⟩ n) (j.aC n):n<w5.heap.size);omega⟩),⟨⟨b5,n5,c5,E5,g6,b0.af k6 λn P e=>(d0 n P).2 e,d0⟩,j.self,λn P=>by have:=j.aC n P;omega,j.many,j.BD⟩,I⟩ λn P=>.inl P
def bS(n:List aj):List UInt8×Int:=if n.any gB then([],3)else(eu n,0)
def KT(V:Laid b)(C:Row jF 96 b f d a L)(W:∀n,f n->n<b.heap.size)(hl:L.length<=20000000):
  YX 142 #[.slice d a c] b (Ok λX q=>∃E F H l,X= .tuple #[.slice E F H,ZH (bS L).2]/\aM fP 5 l q E F H (bS L).1/\ai b q/\∀n,l n->b.heap.size<=n):=by
 have hn:=C.len;refine wY ⟨λI J K N O q=>∃(P:Nat) (l:ZN),O=P/\P<=a/\I=a-P/\(∀e∈L.take P,e.Ok/\e.aQ.length<=64)/\(eu (L.take P)).length<=675*P/\aM fP 5 l q J K N (eu (L.take P))/\ai b q/\∀n,l n->b.heap.size<=n,
  ⟨_,0,λ_=>False,rfl,Qj _,rfl,sM,by simp[eu],aM.nil b,ak.refl _,λ_ u=>u.elim⟩,?_⟩
 rintro I J K N O _ Y ⟨P,l,rfl,hj,rfl,v,Z,o,m,w⟩;refine al.dec (λa9=>?_) (λb0=>?_)
 ·obtain⟨n,x,e,es,rfl,_,_,Q,j,a1,n1,c1,rfl,hd,s⟩:=(C.ah m).wv (i:=P) oM
  have g:=λi (hi:i<10)=>j i hi;refine⟨n,x,rfl,oM,oM,_,_,_,_,_,_,_,_,_,_,_,_,g 0 dC,g 1 dC,g 2 dC,g 3 dC,g 4 dC,g 5 dC,g 6 dC,g 7 dC,g 8 dC,g 9 dC,PA.mk λw2 k2 s2 g2=>?_⟩;refine storeAll (aE e a1 n1 c1) g2 rfl λw3 k3 s3 h=>?_;have p:ai Y w3:=k2.new k3 λn k=>.inr oM;refine⟨_,_,_,_,_,_,_,_,_,_,_,_,ae h rfl,ae h rfl,ae h rfl,ae h rfl,ae h rfl,ae h rfl,ae h rfl,ae h rfl,ae h rfl,ae h rfl,?_⟩;refine PC.ok (Er (V.ah (m.then p)) (hd.ah p) s λn k=>by have:=W n k;have:=(m.then p).size;omega) ?_;rintro _ R ⟨a4,n4,c4,F4,rfl,r,S,T⟩
  by_cases t:e.aQ.length<=64
  ·have y:=qF s t
   rw[y]at r⊢;have b1:=My s t;refine⟨_,_,_,_,rfl,al.dP (λj=>Zz rfl j) (λ_=>?_)⟩;have z:=p.then S;have a0:Row fP 1 R F4 a4 n4 (xx e):=r.row (bytes:=1) dC (by unfold aK;dsimp only;omega);have b2:=z.size;have b3:=p.size;refine Ae (o.ah z) tA a0 (λe=>r.NK e) (λn k=>⟨r.aC n k,λj=>by have:=o.aC n (o.self n j);have:=T n k;omega⟩) (by unfold aK;omega) (by unfold maxLen;omega) λb4 c5 w5 F5 a3 a6 a7 _=>?_;have A:L.take (P+1)=L.take P++[e]:=by rw[Qw,Q];rfl
   refine⟨_,_,_,rfl,a-(P+1),oM,P+1,F5,aq oM,oM,rfl,?_,?_,?_,(m.then z).new a6 λn k=>.inr (by have:=w n (o.self n k);omega),?_⟩
   ·rw[A]
    intro a2 B;rcases Q6.1 B with M|M
    ·exact v a2 M
    ·simp at M;subst M;exact⟨s,t⟩
   ·rw[A,oA];simp;omega
   ·rw[A,oA];exact a3
   ·intro n k
    have:=m.size;rcases a7 n k with M|M|M
    ·exact w n M
    ·have:=T n M;omega
    ·omega
  ·have y:=ym t
   rw[y]at r⊢;refine⟨_,_,_,_,rfl,al.dP (λ_=>?_) (λj=>Zz j dC)⟩;have a5:L.any gB=true:=List.any_eq_true.2 ⟨e,QZ Q,by unfold gB;simp;omega⟩;rw[show bS L=([],3) by unfold bS;rw[Zx a5]];exact Ok.mk ⟨none,0,0,λ_=>False,rfl,aM.nil R,(m.then p).then S,λ_ u=>u.elim⟩
 ·obtain rfl:P=a:=oM
  rw[Qz oM]at v Z o;have a8:L.any gB=false:=by
   rw[<-Bool.not_eq_true];intro j;obtain⟨e,he,U⟩:=List.any_eq_true.1 j;have:=(v e he).2;unfold gB at U;simp at U;omega
  rw[show bS L=(eu L,0) by unfold bS;rw[Zq (by simp[a8])]];exact Ok.mk ⟨_,_,_,l,rfl,o,m,w⟩
def eY(no:Int)(d:List UInt8)(D:an):Int×an:=
 let n:=cB (aB no)
 let P:=D.create n
 if P.1≠0 then(P.1,P.2)else
 let a:=P.2.append n d
 if a.1≠0 then(a.1,(a.2.delete n).2)else
 let b:=a.2.sync n
 if b.1≠0 then(b.1,(b.2.delete n).2)else
 let c:=cf b.2 [no]
 (c.1,if c.1≠0 then(c.2.delete n).2 else c.2)
def NL{D:an}{no:Int}(hL:Laid b)(L:aT b k a D f)(R:aJ no)(e:Row fP 1 k a5 d c y)(c3:d=none->c=0/\i=0)(b2:∀n,a5 n->f n):
  YX 143 #[ZL a,ZH no,.slice d c i] k (Ok (nB b k a f (eY no y D))):=by
 have e3:=L.gr.size;have S:∀n,f n->n<k.heap.size:=by obtain⟨a4,f1,f2,T,U⟩:=L;exact U
 refine zh (PA.mk λw k1 s1 g1=>PA.mk λw2 V s2 g2=>PC.ok (jx (hL.ah ((L.gr.then k1).then V)) R) ?_);rintro _ W ⟨rfl,M⟩;have z3:=M.size;refine⟨_,rfl,PA.mk λw4 X s4 g4=>PS.mk g4 sM λY Z s5 g5=>?_⟩
 let s:ZN:=λn=>f n\/(n=k.heap.size\/n=w.heap.size\/n=W.heap.size)
 have b3:ai k Y:=((((k1.then V).then M).then X)).new Z λn e=>.inr oM;have d0:aT b Y a D s:=L.add b3 λn e=>by omega
 let x:World->Int->Prop:=λh l=>h.heap[k.heap.size]? =some (.cells #[ZL a] 93 (0,0))/\h.heap[w.heap.size]? =some (.cells #[ZH l] 34 (0,0))/\h.heap[W.heap.size]? =some (.cells #[.string (cB (aB no))] 9 (0,0))
 have C5:x Y 0:=⟨Z.get (X.get (M.get (V.get g1 id) id) id) oM,Z.get (X.get (M.get g2 id) id) oM,g5⟩
 have g:∀{h o:World} {l:Int},x h l->ak (dz s) h o->x o l:=λm t=>
  ⟨t.get m.1 λp=>p (.inr (.inl rfl)),t.get m.2.1 λp=>p (.inr (.inr (.inl rfl))),t.get m.2.2 λp=>p (.inr (.inr (.inr rfl)))⟩
 have H:∀{h o:World},ak (dz f) k h->ak (dz s) h o->ak (dz f) k o:=λd n=>d.then (n.mono λn _ e q=>e (.inl q));have P:∀{h:World} {l B:Int} {u:an} {κ:ZU},x h l->aT b h a u s->ak (dz f) k h->(∀o,x o B->aT b o a u s->ak (dz f) k o->ak (·=w.heap.size) h o->κ o)->PS h ⟨w.heap.size,0,none⟩ (ZH B) κ:=by
  intro h l B u κ m hN t a0;have h1:=ax m.2.1;refine PS.mk m.2.1 sM λo z e4 d1=>a0 o ⟨z.get m.1 oM,d1,z.get m.2.2 oM⟩ ?_ (t.then (z.mono λn _ e q=>by have:=S n q;omega)) z;obtain⟨a4,f1,f2,T,U⟩:=hN;exact⟨a4,f1.af z λn e l=>(T n e).2 (.inr (.inr (.inl l))),f2.new z λn e=>.inr oM,T,λn e=>Qk (U n e) z.size⟩
 have j:∀{I:Int×an} (l:Int) (u:an) (h:World),aT b h a u s->ak (dz f) k h->x h l->I=(l,if l≠0 then(u.delete (cB (aB no))).2 else u)->
   Lv ZP (λb4=>∃b5:Int,b4.cell? ⟨w.heap.size,0,none⟩=some (ZH b5)/\Ok (nB b k a f I) (.returned (ZH b5)) b4) (λch h=>Ok (nB b k a f I) (.panicked ch) h)
    ([{target:=.fn (.func 212) #[ZL w.heap.size,ZL k.heap.size,ZL W.heap.size],args:= #[]}]:List Deferred) .returning h:=by
  intro I l u h p t m hr;refine Lv.one sM kR (CallsD.mono (tK (R:=λB J=>B= .returned (.tuple #[])/\∃b6:Int,J.cell? ⟨w.heap.size,0,none⟩=some (ZH b6)/\Ok (nB b k a f I) (.returned (ZH b6)) J) ⟨_,ae m.2.1 rfl,al.dP (λr=>⟨_,ae m.1 rfl,_,ae m.2.2 rfl,PC.ok p.delete ?_⟩) (λA=>⟨rfl,_,ae m.2.1 rfl,Ok.mk ?_⟩)⟩) ?_)
  ·rintro _ wb ⟨rfl,d2,kb⟩
   have d3:=g m kb;refine⟨_,rfl,rfl,_,ae d3.2.1 rfl,Ok.mk ?_⟩;rw[hr,Zx r];exact⟨rfl,d2.mono λn e=>.inl e,H t kb⟩
  ·rw[hr,Zq (by simpa using A)]
   exact⟨rfl,p.mono λn e=>.inl e,t⟩
  ·rintro B u' J ⟨rfl,rfl,S⟩
   exact Lv.ret rfl S
 refine⟨_,ae C5.1 rfl,_,ae C5.2.2 rfl,PC.ok d0.create ?_⟩;rintro _ w6 ⟨rfl,b7,k6⟩;have C6:=g C5 k6;have d4:=H (ai.af b3) k6;have hW:eY no y D=if(D.create (cB (aB no))).1≠0 then((D.create (cB (aB no))).1,(D.create (cB (aB no))).2)else
   if((D.create (cB (aB no))).2.append (cB (aB no)) y).1≠0 then(((D.create (cB (aB no))).2.append (cB (aB no)) y).1,(((D.create (cB (aB no))).2.append (cB (aB no)) y).2.delete (cB (aB no))).2)else
   if((((D.create (cB (aB no))).2.append (cB (aB no)) y).2).sync (cB (aB no))).1≠0 then(((((D.create (cB (aB no))).2.append (cB (aB no)) y).2).sync (cB (aB no))).1,(((((D.create (cB (aB no))).2.append (cB (aB no)) y).2).sync (cB (aB no))).2.delete (cB (aB no))).2)else
   ((cf ((((D.create (cB (aB no))).2.append (cB (aB no)) y).2).sync (cB (aB no))).2 [no]).1,if(cf ((((D.create (cB (aB no))).2.append (cB (aB no)) y).2).sync (cB (aB no))).2 [no]).1≠0 then((cf ((((D.create (cB (aB no))).2.append (cB (aB no)) y).2).sync (cB (aB no))).2 [no]).2.delete (cB (aB no))).2 else(cf ((((D.create (cB (aB no))).2.append (cB (aB no)) y).2).sync (cB (aB no))).2 [no]).2):=rfl
 rw[hW];generalize D.create (cB (aB no))=cr at b7⊢;refine⟨_,rfl,P C6 b7 d4 λJ C b8 a1 k7=>⟨_,ae C.2.1 rfl,al.dP (λr=>?_) (λA=>?_)⟩⟩
 ·refine⟨_,ae C.2.1 rfl,P C b8 a1 λw8 C8 N a6 k8=>⟨_,ae C8.2.1 rfl,Ok.mk ?_⟩⟩
  rw[Zx r];exact⟨rfl,N.mono λn e=>.inl e,a6⟩
 rw[Zq (by simpa using A)];have d5:Row fP 1 J a5 d c y:=e.af a1 λn e p=>p (b2 n e);refine⟨_,ae C.1 rfl,_,ae C.2.2 rfl,PC.ok (b8.append d5 c3 λn e=>.inr (.inl (b2 n e))) ?_⟩;rintro _ w8 ⟨rfl,N,k8⟩;have C8:=g C k8;have a6:=H a1 k8;generalize cr.2.append (cB (aB no)) y=ap at N⊢;refine⟨_,rfl,P C8 N a6 λw9 E b9 c1 k9=>⟨_,ae E.2.1 rfl,al.dP (λr=>?_) (λA=>?_)⟩⟩
 ·refine⟨_,ae E.2.1 rfl,P E b9 c1 λc2 a7 O a2 a8=>?_⟩
  rw[Zx r];exact j _ _ c2 O a2 a7 (by rw[Zx r])
 rw[Zq (by simpa using A)];refine⟨_,ae E.1 rfl,_,ae E.2.2 rfl,PC.ok b9.sync ?_⟩;rintro _ c2 ⟨rfl,O,a8⟩;have a7:=g E a8;have a2:=H c1 a8;generalize ap.2.sync (cB (aB no))=sy at O⊢;refine⟨_,rfl,P a7 O a2 λa9 K b1 c0 e5=>⟨_,ae K.2.1 rfl,al.dP (λr=>?_) (λA=>?_)⟩⟩
 ·refine⟨_,ae K.2.1 rfl,P K b1 c0 λF b0 a3 c5 Q=>?_⟩
  rw[Zx r];exact j _ _ F a3 c5 b0 (by rw[Zx r])
 rw[Zq (by simpa using A)];refine⟨_,ae K.1 rfl,PA.mk λF Q e6 c4=>?_⟩;have a3:aT b F a sy.2 (λn=>s n\/n=a9.heap.size):=b1.add Q λn e=>by subst e;exact⟨Q4 _,ax c4⟩
 have c6:Row aI 8 F (·=a9.heap.size) (ZM a9.heap.size) 1 [no]:=Row.lit c4 [no] rfl (λc7 q=>by simp at q;subst q;exact R) (by unfold aK;simp);refine PC.ok (a3.cf hL.nY c6 (λc7 q=>by simp at q;subst q;exact R) λn e=>.inr (.inr e)) ?_;rintro _ d6 ⟨rfl,c8,d7⟩;have v:ak (dz s) F d6:=d7.mono λn _ e hy=>e (.inl hy);have b0:x F sy.1:=g K (ai.af Q);have d8:=g b0 v;have c9:=H (c0.ah Q) v;exact⟨_,rfl,P d8 (c8.mono λn e=>.inl e) c9 λd9 e0 e1 e2 e7=>j _ _ d9 e1 e2 e0 rfl⟩
def qG:List Int->an->an
 |[],D=>D
 |no::n,D=>if(D.delete (gR no)).1≠0 then(D.delete (gR no)).2 else qG n (D.delete (gR no)).2
def cx(n:eJ)(D:an)(P:List aj)(a:Int):qH:=
 if(bS P).2≠0 then⟨(bS P).2,[],n,D⟩else
 if(eY n.next (bS P).1 D).1≠0 then⟨(eY n.next (bS P).1 D).1,[],n,(eY n.next (bS P).1 D).2⟩else
 eK (qG n.bQ (eY n.next (bS P).1 D).2) a
def KU(c g:World)(d h:Nat)(i:eJ)(a:ZN)(P:qH)(e:Value)(b:World):Prop:=
 ∃G,iU b d h G i/\(∀n,G n->c.heap.size<=n/\¬a n)/\ak (dz a) g b/\
  ((P.no≠0/\e= .tuple #[.pointer none,ZH P.no]/\aT c b d P.D (λn=>a n\/G n))\/
   (P.no=0/\∃f,e= .tuple #[ZL f,ZH 0]/\cd c b d f P.V P.D (λn=>a n\/G n)))
def IB{D:an}{U a2:Nat}(z:Laid b)(V:cd b k a c b4 D f)(W:Row jF 96 k a5 d U L)(b3:∀n,a5 n->n<k.heap.size)(hl:L.length<=20000000):
  YX 87 #[ZL a,ZL c,.slice d U a2,ZH e] k (Ok (KU b k a c b4 f (cx b4 D L e))):=by
 obtain⟨G,H,u,A⟩:=id V;have c4:=u.many;refine uP (PC.ok (KT (z.ah V.gr) W b3 hl) ?_);rintro _ w1 ⟨a4,n1,c1,F1,rfl,I,p,b5⟩;have hz:∀n,(f n\/G n)->n<k.heap.size:=by obtain⟨d1,f1,f2,f3,f4⟩:=H;exact f4
 refine⟨_,_,_,_,rfl,al.dP (λh=>Ok.mk ?_) (λq=>PC.ok (Qa (u.ah p)) ?_)⟩
 ·rw[show cx b4 D L e=⟨(bS L).2,[],b4,D⟩ by unfold cx;rw[Zx h]]
  exact⟨G,u.ah p,A,ai.af p,.inl ⟨h,rfl,H.ah p⟩⟩
 rintro _ _ ⟨rfl,rfl⟩;have b6:aT b w1 a D (λn=>(f n\/G n)\/F1 n):=H.add p λn P=>⟨b5 n P,I.aC n P⟩
 have d2:(bS L).1.length<=13500000000:=by
  unfold bS;split
  ·simp
  ·rename_i b8
   have:∀m∈L,m.Ok/\m.aQ.length<=64:=λm X=>by
    obtain⟨i,hi⟩:=List.mem_iff_getElem?.1 X;obtain⟨n,v,es,-,-,-,-,a4,n1,c1,-,-,b9⟩:=W.el i m hi;refine⟨b9,?_⟩;have:¬gB m=true:=λJ=>b8 (List.any_eq_true.2 ⟨m,X,J⟩);unfold gB at this;simp at this;omega
   have:=Qb this;show(eu L).length<=_;omega
 refine⟨_,rfl,PC.ok (NL z b6 u.BD (I.row (bytes:=1) dC (by unfold aK;omega)) (λm=>I.NK m) λn P=>.inr P) ?_⟩;rintro _ Y ⟨rfl,c2,Z⟩;have K:aT b Y a (eY b4.next (bS L).1 D).2 (λn=>f n\/G n):=c2.mono λn P=>.inl P;have M:=(u.ah p).af Z λn P j=>j (.inl (.inr P));have a6:ak (dz f) k Y:=(ai.af p).then (Z.mono λn _ P l=>P (.inl (.inl l)));have hC:cx b4 D L e=if(eY b4.next (bS L).1 D).1≠0 then⟨(eY b4.next (bS L).1 D).1,[],b4,(eY b4.next (bS L).1 D).2⟩else eK (qG b4.bQ (eY b4.next (bS L).1 D).2) e:=by
  unfold cx;rw[Zq (by simpa using q)]
 rw[hC];generalize eY b4.next (bS L).1 D=w at K⊢;refine⟨_,rfl,al.dP (λh=>Ok.mk ?_) (λq=>?_)⟩
 ·rw[Zx h]
  exact⟨G,M,A,a6,.inl ⟨h,rfl,K⟩⟩
 rw[Zq (by simpa using q)];refine⟨λo=>aT b o a (qG b4.bQ w.2) (λn=>f n\/G n)/\iU o a c G b4/\ak (dz f) k o,PC.ok (GB M) ?_,?_⟩
 ·rintro _ w3 ⟨a3,s,c3,B,rfl,N,O,c5⟩
  have d3:=N.len dC;have Q:aT b w3 a w.2 (λn=>(f n\/G n)\/B n):=K.add O λn P=>⟨c5 n P,N.aC n P⟩
  refine⟨_,_,_,rfl,λa0 a1 o=>∃(g:Nat) (r:an),a1=g/\g<=s/\a0=s-g/\qG b4.bQ w.2=qG (b4.bQ.drop g) r/\aT b o a r (λn=>(f n\/G n)\/B n)/\aM aI 3 B o a3 s c3 b4.bQ/\iU o a c G b4/\ak (dz f) k o,
   ⟨_,0,w.2,rfl,Qj _,rfl,rfl,Q,N,M.ah O,a6.ah O⟩,?_⟩
  rintro a0 a1 _ w4 ⟨g,r,rfl,hj,rfl,C,x,R,a7,a8⟩;refine al.dec (λd4=>?_) (λd5=>?_)
  ·have c6:Row aI 8 w4 B a3 s b4.bQ:=R.row dC (by unfold aK;omega)
   obtain⟨n,v,t,rfl,l,c7,J⟩:=c6.mR (i:=g) oM;refine⟨n,v,rfl,oM,oM,t,J,PC.ok (jx (z.ah x.gr) c7) ?_⟩;rintro _ w5 ⟨rfl,E⟩;refine⟨_,rfl,PC.ok (x.ah E).delete ?_⟩;rintro _ w6 ⟨rfl,S,T⟩;have b7:b4.bQ.drop g=t::b4.bQ.drop (g+1):=by
    obtain⟨c8,rfl⟩:=Qv.1 l;exact X4 c8
   rw[b7]at C;have F:qG b4.bQ w.2=if(r.delete (cB (aB t))).1≠0 then(r.delete (cB (aB t))).2 else qG (b4.bQ.drop (g+1)) (r.delete (cB (aB t))).2:=C
   have a9:=(a7.ah E).af T λn P j=>j (.inl (.inr P));have b0:ak (dz f) k w6:=(a8.ah E).then (T.mono λn _ P l=>P (.inl (.inl l)));have c9:=(R.ah E).af T λn P j=>j (.inr P);generalize r.delete (cB (aB t))=c0 at F S⊢;refine⟨_,rfl,al.dP (λh=>?_) (λq=>?_)⟩
   ·rw[F,Zx h]
    exact⟨S.mono λn P=>.inl P,a9,b0⟩
   ·rw[Zq (by simpa using q)]at F
    exact⟨s-(g+1),oM,g+1,c0.2,aq oM,oM,rfl,F,S,c9,a9,b0⟩
  ·obtain rfl:g=s:=oM
   rw[List.drop_of_length_le oM]at C;rw[C];exact⟨x.mono λn P=>.inl P,a7,a8⟩
 ·rintro _ w3 ⟨Q,b1,b2⟩
  refine PC.ok (IC (size:=e) z Q) ?_;rintro _ w4 (⟨h,rfl,x,y⟩|⟨q,q2,d6,n4,d7,G4,rfl,R,d0,y,-,-,-⟩)
  ·exact⟨_,_,_,_,_,rfl,Ok.mk ⟨G,b1.af y λn P j=>j (.inr P),A,b2.then (y.mono λn _ P l=>P (.inl l)),.inl ⟨h,rfl,x⟩⟩⟩
  ·exact⟨_,_,_,_,_,rfl,Ok.mk ⟨G,b1.af y λn P j=>j (.inr P),A,b2.then (y.mono λn _ P l=>P (.inl l)),.inr ⟨q,q2,rfl,d0.mono λn P=>.inl P⟩⟩⟩

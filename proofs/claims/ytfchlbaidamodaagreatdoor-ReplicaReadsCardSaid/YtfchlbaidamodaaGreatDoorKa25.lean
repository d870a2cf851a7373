import Derived.Test.YtfchlbaidamodaaGreatDoorKa24
set_option linter.all false
set_option maxRecDepth 100000
namespace Go.Proofs.YtfchlbaidamodaaGreatDoor
open Go.ax
def dF (f:World) (g:Nat) (h:Nat->Prop) (b:aR) (a:Nat) (c:List ah):Prop:=
 (dd b=0/\0<a/\a<9223372036854775808/\c.length<=20000000)/\∃e d,e.every=a/\eH f h d g e b (cG b c) (eN b c).rows c (kY b a c)
variable{U r:Array Value}{s:Ending->World->Prop}{z:FuncId}{F V e m:Int}{d8:Int×Int}{C e6:List ah}{a c:Nat}{H:Nat×Nat}{Q W:Operand}{d p:Option Addr}{h:Program}{g q:TypeId}{b:World}{N n:ah}{A:aq}
theorem TH {d:aR} (b:0<a) (c:a<9223372036854775808) (e:C.length<=20000000):(kY d a C).length*a<9223372036854775808/\(kY d a C).length<=20000001:=by
 rw [Bl];have f:=Nat.div_le_self C.length a;refine⟨?_,oM⟩;rcases Nat.lt_or_ge C.length a with h|h
 ·rw [Nat.div_eq_of_lt h];omega
 ·have:=Nat.div_mul_le_self C.length a
  rw [X7,Nat.one_mul];omega
section
variable {w w':World} {p:Nat} {F T D:Nat->Prop} {d:aR} {every:Nat} {l:List ah}
theorem dF.keep (c:dF w p F d every l) (e:aj T w w') (f:∀b,F b->¬T b):dF w' p F d every l:=by
 obtain⟨g,h,a,i,j⟩:=c;exact⟨g,h,a,i,bS.keep j ej e f⟩
theorem dF.af (a:dF w p F d every l) (b:ai w w'):dF w' p F d every l:=a.keep b λ_ _ a=>a
theorem dF.aF (b:dF w p F d every l):∀a,F a->a<w.heap.size:=by obtain⟨f,g,c,h,e⟩:=b;exact e.aF
theorem xE (d:aR) (l:List ah) (e:l.length<=20000000):(cG d l).entries.length<=20000000/\∀a,((ay (cG d l).done a).getD []).length<=20000000:=by
 have b:=λa=>GQ d l (bk.new d) a;refine⟨?_,λa=>?_⟩
 ·have c:(cG d l).entries.length=0+l.length:=(b (0,0,0)).2
  omega
 ·have c:((ay (cG d l).done a).getD []).length<=0+l.length:=(b a).1
  omega
theorem IG (d:aR) (l:List ah) (a:ah):qG (cG d l) a (eN d l).rows=(eN d (l++[a])).rows:=by
 rw [Lf];unfold qG kL.add;rw [Lg]
theorem Rp (t:dF w p F d every l) (u:eM b) (v:ai b w) (x:∀e,F e->b.heap.size<=e) (k:l.length+1<=20000000) {m:Option Addr} 
  (y:Row aP 8 w D m a n.aK) (z:∀e,D e->e<w.heap.size/\¬F e) (A:n.Ok):
  Calls ZQ 144 #[.pointer (some ⟨p,0,none⟩),kK n m a c] w (Ok λo w'=>o= .tuple #[]/\∃g,dF w' p g d every (l++[n])/\de F w g w'):=by
 obtain⟨⟨q,h,r,s⟩,M,B,rfl,C⟩:=t;obtain⟨E,H⟩:=xE d l s;obtain⟨I,J⟩:=TH (d:=d) h r s;refine(Rm C q u v x k E (IH d l) I J (H _) y z A).mono ?_;rintro _ w' ⟨o,rfl,rfl,K,g,f,i,j,L⟩;refine Ok.mk ⟨rfl,g,⟨⟨q,h,r,by simpa using k⟩,K,f,j,?_⟩,L⟩;rw [Lh,OU h,<-IG,<-Bl (d:=d)];exact i
theorem Zp:OV ZQ 219=true:=kR
theorem OW (a0:dF w p F d every l) (hT:eM b) (g0:ai b w) (c6:∀e,F e->b.heap.size<=e) (hn:a<=l.length):
  Calls ZQ 143 #[.pointer (some ⟨p,0,none⟩),QH (a:Int)] w (Ok λa1 w'=>a1= .tuple #[]/\∃I,dF w' p I d every (l.take (a/every*every))/\de F w I w'):=by
 obtain⟨⟨r,v,h3,h4⟩,c,j,rfl,i⟩:=a0;have c7:=i.bG;have e2:=i.aF;have c8:=aV.len (i.at' 5) dC;have J:=aV.len (i.at' 2) dC;rw [Bl]at c8;obtain⟨k,x⟩:∃k,k=a/c.every:=⟨_,rfl⟩
 have t:k<=l.length/c.every:=by rw [x];exact Nat.div_le_div_right hn
 have K:k*c.every<=l.length:=Xx (Q0 _ t) (Nat.div_mul_le_self ..);have e3:k<=l.length:=Xx t (Nat.div_le_self ..);rw [<-x];have y:IntKind.wrap .i64 ((k:Int)*(c.every:Int))=((k*c.every:Nat):Int):=by
  rw [show((k:Int)*(c.every:Int))=((k*c.every:Nat):Int) by push_cast;rfl,wrap_i64 (by unfold aN;omega)]
 have c9:IntKind.wrap .i64 ((k:Int)+1)=((k+1:Nat):Int):=an oM;have ec:=aV.jx (i.at' 2);have qc:=aV.jx (i.at' 5);refine sT ⟨p,0,rfl,_,ae c7 rfl,aH.mk (TI v oM) ⟨_,rfl,λL d0=>?_⟩⟩;rw [<-x,c9];simp only [Qx];have M:ai w L:=d0.keep;have z:=eH.af i M;have A:=z.bG;have a2:bS L F j (Bj p c.cells {c with en:=k*c.every} d (cG d l) (eN d l).rows (l.take (k*c.every)) (kY d c.every l)):=z.same ej (k:=2) (aj.refl _) (aV.take (z.at' 2) (show k*c.every<=c.en from J▸K)) λm G n o=>by
  rcases m with _|_|_|_|_|_|m<;>first|exact o|exact absurd rfl n
 refine⟨p,0,rfl,_,_,_,ae A rfl,p,0,rfl,_,ae A rfl,by rw [y];exact Int.natCast_nonneg _,by rw [y];exact Int.ofNat_le.2 (Xx K (J▸ec)),p,0,rfl,?_⟩;rw [y,Qx];refine PS.mk A sM λd1 N e4 O=>?_;have P:eH d1 F j p {c with en:=k*c.every} d (cG d l) (eN d l).rows (l.take (k*c.every)) (kY d c.every l):=eH.store a2 N O;refine⟨p,0,rfl,_,_,_,ae O rfl,oM,by show _<=((c.qn:Nat):Int);omega,?_⟩;have g:∀e,aI c.qa=some e->F e/\j e=5:=λe f=>aV.self (i.at' 5) e f;have a3:¬aI c.qa=some p:=λh=>by have r:=(g p h).2;rw [i.self.2]at r;cases r
 refine Bm Xa Zp (P.at' 5) (by show k+1<=c.qn;omega) λd2 a5 Q e5=>?_;have R:bS d2 F j (Bj p ({c with en:=k*c.every}:xC).cells {c with en:=k*c.every,qn:=k+1} d (cG d l) (eN d l).rows (l.take (k*c.every)) ((kY d c.every l).take (k+1))):=P.same ej (k:=5) (Q.mono λe _ f=>g e f) a5 λm G n o=>by
  rcases m with _|_|_|_|_|_|m<;>first|exact o|exact absurd rfl n
 have S:=(R.at' 0).2;refine⟨p,0,rfl,_,_,_,ae S rfl,oM,by show _<=((c.qc:Nat):Int);omega,p,0,rfl,PS.mk S sM λT U e6 V=>?_⟩;have s:eH T F j p {c with en:=k*c.every,qn:=k+1} d (cG d l) (eN d l).rows (l.take (k*c.every)) ((kY d c.every l).take (k+1)):=eH.store R U V;have B:aj F w T:=(((ai.keep M).then (N.mono λe _ h=>by have h:e=p:=h;rw [h];exact i.self.1)).then (Q.mono λe _ f=>(g e f).1)).then (U.mono λe _ h=>by have h:e=p:=h;rw [h];exact i.self.1);have d3:((kY d c.every l).take (k+1))[k]? =some (eN d (l.take (k*c.every))).rows:=by
  rw [Xw,if_pos oM];exact Rq t
 obtain⟨pb,po,es,d4,e7,e8,W,e9,ra,rn,rc,rfl,d5⟩:=(aV.row (bytes:=32) (s.at' 5) dC (by rw [Qy];unfold aQ;omega)).el k _ d3;have c0:=W 0 dC;have c1:=W 1 dC;refine⟨p,0,rfl,_,_,_,ae V rfl,pb,po,d4,oM,by show(k:Int)<((k+1:Nat):Int);omega,_,_,_,_,c0,c1,PC.ok (Fj s r (hT.af (g0.new B λe f=>.inr (c6 e f))) (by rw [Qy];omega) d5 (λe f=>s.aF e f.1) (by rw [qI];exact(xD (lu r).1).2.2.1)) ?_⟩;rintro _ X ⟨C,Y,Z,c2,Fv,G,rfl,hv,b4,b5,u,b6⟩;have f2:=B.size;obtain⟨F1,e1,d6,f3,b7,-⟩:=s.II ej (k:=3) (w':=X) (G':=Fv) (C2:=Bj p ({c with en:=k*c.every,qn:=k+1}:xC).cells {c with en:=k*c.every,qn:=k+1,vp:=C} d (cG d (l.take (k*c.every))) (eN d l).rows (l.take (k*c.every)) ((kY d c.every l).take (k+1)))
  (ai.keep b6) (λe f E=>by have:=b5 e f;have:=s.aF e E;omega) hv.aF hv λm G n o=>by
   rcases m with _|_|_|_|_|_|m<;>first|exact o|exact absurd rfl n
 obtain⟨F2,b8,b9,f4,d7,-⟩:=d6.II ej (k:=4) (w':=X) (G':=G) (C2:=Bj p ({c with en:=k*c.every,qn:=k+1}:xC).cells {c with en:=k*c.every,qn:=k+1,vp:=C,ra:=Y,rn:=Z,rc:=c2} d (cG d (l.take (k*c.every))) (eN d (l.take (k*c.every))).rows (l.take (k*c.every)) ((kY d c.every l).take (k+1)))
  (aj.refl _) (λe f E=>by
   rcases b7 e E with q|q
   ·have:=(u e f).1;have:=s.aF e q.1;omega
   ·exact absurd q (u e f).2.2) (λe f=>(u e f).2.1) b4 λm G n o=>by
   rcases m with _|_|_|_|_|_|m<;>first|exact o|exact absurd rfl n
 have c3:∀e,F2 e->F e\/w.heap.size<=e:=λe f=>by
  rcases d7 e f with q|q
  ·rcases b7 e q.1 with H|H
   ·exact .inl H.1
   ·exact .inr (by have:=b5 e H;omega)
  ·exact .inr (by have:=(u e q).1;omega)
 have d8:=(b9.at' 0).2;refine⟨_,_,_,_,rfl,p,0,rfl,PS.mk d8 sM λf5 c4 f7 d9=>PS.mk d9 sM λg1 c5 g2 e0=>Ok.mk ⟨rfl,F2,⟨⟨r,v,h3,by rw [Qy];omega⟩,{c with en:=k*c.every,qn:=k+1,vp:=C,ra:=Y,rn:=Z,rc:=c2},b8,rfl,?_⟩,?_,c3⟩⟩
 ·rw [<-OX v t]
  exact eH.store b9 (c4.then c5) e0
 ·exact(B.af b6).then ((c4.then c5).mono λe _ h=>by have h:e=p:=h;rw [h];exact i.self.1)
end
theorem YE (a:Le h g q) :(do eqGuard .eql g Q W (.agg #[QH e,QH m]) (.agg #[QH F,QH V]);binOp .eql g (.agg #[QH e,QH m]) (.agg #[QH F,QH V]):Sem Value).run h b= .ok (.bool (e==F&&m==V)) b:=by
 rw [Sem.run_bind,run_eqGuard_agg b .eql _ Q W _ _ a.hm,Result.andThen_ok,run_eql_struct];have:=a.equalIn 9998 (e,m) (F,V) b;unfold pO at this;rw [this];rfl
section
variable {w w':World} {p:Nat} {F T D:Nat->Prop} {d:aR} {every:Nat} {l l2:List ah}
theorem IJ (U:dF w p F d every l) (V:eM b) (K:ai b w) (L:∀f,F f->b.heap.size<=f) {M:Option Addr} (N:Row fZ 96 w D M a l2) (e1:a<=c) (A:∀f,D f->f<w.heap.size/\¬F f) (e2:l2.length<=20000000)
  (b2:∀(W:Nat) (i m:ah),l[W]? =some i->l2[W]? =some m->aO i=aO m->i=m):
  Calls ZQ 76 #[.pointer (some ⟨p,0,none⟩),.slice M a c] w (Ok λb3 w'=>∃B:Int,b3= QH B/\∃j,dF w' p j d every l2/\de F w j w'):=by
 have hn:=N.len;have X:=U;obtain⟨⟨h1,h2,h3,h4⟩,e0,b6,e3,C⟩:=U;have e4:=aV.len (C.at' 2) dC;have e5:=C.aF;refine qJ ⟨λk w'=>∃e:Nat,k=e/\e<=l.length/\e<=l2.length/\l.take e=l2.take e/\ai w w',?_,?_⟩
 ·refine⟨λg k w'=>∃e:Nat,k=e/\e<=l.length/\e<=l2.length/\g=l.length-e/\l.take e=l2.take e/\ai w w',⟨_,0,rfl,Qj _,Qj _,rfl,rfl,aj.refl _⟩,?_⟩
  rintro g _ _ w9 ⟨e,rfl,Y,Z,rfl,o,u⟩;have h9:=eH.af C u;have a4:=h9.bG;refine⟨p,0,rfl,_,_,_,ae a4 rfl,al.dec (λO=>?_) (λa5 c0 E=>⟨e,rfl,Y,Z,o,u.then E.keep⟩)⟩;have a6:e<l.length/\e<l2.length:=by split at O<;>omega
  have n:l[e]? =some l[e]:=Qq a6.1;have H:l2[e]? =some l2[e]:=Qq a6.2;generalize l[e]=i at n;generalize l2[e]=m at H;obtain⟨f,q,es,P,c1,c2,I,ya,yn,yc,rfl,e6,e7⟩:=(N.af u).el e m H;obtain⟨b7,o2,e8,c3,e9,f0,a0,v,x,y,rfl,a7,a1⟩:=(aV.row (bytes:=96) (h9.at' 2) dC (by unfold aQ;omega)).el e i n;have y0:=I 0 dC;have y1:=I 1 dC;have x0:=a0 0 dC;have x1:=a0 1 dC;refine⟨f,q,P,oM,oM,_,_,y0,y1,p,0,rfl,_,_,_,ae a4 rfl,b7,o2,c3,oM,oM,_,_,x0,x1,(m.origin==i.origin&&m.seq==i.seq),λg=>YE NN,λc0 E=>al.mk (λQ=>⟨_,?_,e+1,an oM,oM,oM,rfl,?_,u.then E.keep⟩) (λ_=>⟨e,rfl,Y,Z,o,u.then E.keep⟩)⟩
  ·omega
  ·simp only [QK,beq_iff_eq]at Q
   have c4:=b2 e i m n H (by simp [aO,Q.1,Q.2]);rw [Qw,Qw,o,n,H,c4]
 rintro _ _ f1 ⟨k,rfl,c5,c6,o,r⟩;have c7:=eH.af C r;have b9:=c7.bG;have f2:=r.size;refine⟨λw'=>∃g j,g<=l2.length/\dF w' p j d every (l2.take g)/\de F w j w',⟨p,0,rfl,_,_,_,ae b9 rfl,al.dec (λO=>?_) (λa5=>?_)⟩,?_⟩
 ·refine PC.ok (OW (X.af r) V (K.then r) L c5) ?_
  rintro _ f3 ⟨rfl,j,R,a9⟩;have b0:k/every*every<=k:=Nat.div_mul_le_self ..;refine⟨rfl,_,j,Xx b0 c6,?_,(ai.keep r).then a9.keep,λf h=>(a9.new f h).imp id oM⟩;have:l.take (k/every*every)=l2.take (k/every*every):=by
   have:=congrArg (List.take (k/every*every)) o
   rwa [List.take_take,List.take_take,X2 b0]at this
  rw [<-this];exact R
 ·have c8:k=l.length:=oM
  refine⟨l.length,F,oM,?_,ai.keep r,λf h=>.inl h⟩;rw [c8,List.take_length]at o;rw [<-o];exact X.af r
 rintro _ f4 ⟨g,F1,hm,b1,a2⟩;have c9:=b1;obtain⟨-,q1,f5,f6,b4⟩:=b1;have a3:=aV.len (b4.at' 2) dC;rw [Qy,X2 hm]at a3;have f7:=a2.keep.size;refine⟨p,0,rfl,_,_,_,ae b4.bG rfl,oM,oM,?_⟩;rw [Qx,a3];refine⟨λB t w'=>∃(e:Nat) (j:Nat->Prop),t=e/\e<=a-g/\B=a-g-e/\dF w' p j d every (l2.take (g+e))/\de F w j w',⟨_,0,F1,rfl,Qj _,rfl,c9,a2⟩,?_⟩;rintro B _ _ b5 ⟨e,S,rfl,hj,rfl,T,s⟩;refine al.dec (λO=>?_) (λa5=>?_)
 ·have d0:g+e<l2.length:=oM
  have n:l2[g+e]? =some l2[g+e]:=Qq d0;generalize l2[g+e]=i at n;have d1:=N.keep s.keep λf h=>(A f h).2;obtain⟨f,q,es,P,c1,c2,I,v,x,y,rfl,a7,a1⟩:=d1.el (g+e) i n;have d2:cM M g c 10=some ⟨f,q+g*10,none⟩:=by rw [P];exact f_ oM
  have f8:=s.keep.size;refine⟨f,q+g*10,d2,oM,oM,br (es:=aE i v x y) (k:=10) (bg i v x y) rfl (λt ht=>by rw [Qx];have:=I t ht;rw [show q+g*10+e*10+t=q+(g+e)*fZ.k+t by show _=q+(g+e)*10+t;omega];exact this) (PA.mk λf9 d3 g1 d4=>aD (bg i v x y) d4 rfl λb8 d5 g2 d6=>aw (bg i v x y) d6 ?_)⟩;have J:ai b5 b8:=d3.new d5 λf h=>.inr (by have h:f=b5.heap.size:=h;omega);have a8:de F w S b8:=⟨s.keep.af J,s.new⟩
  have d7:∀f,D f->¬S f:=λf h hf=>by
   rcases s.new f hf with z|z
   ·exact(A f h).2 z
   ·have:=(A f h).1;omega
  refine PC.ok (Rp (T.af J) V (K.new a8.keep λf h=>.inr (L f h)) (λf h=>?_) (by rw [Qy];omega) (a7.af J) (λf h=>⟨by have:=(A f h).1;have:=J.size;omega,d7 f h⟩) a1) ?_
  ·rcases s.new f h with z|z
   ·exact L f z
   ·have:=K.size;omega
  rintro _ g3 ⟨rfl,F3,d8,d9⟩;refine⟨rfl,_,?_,e+1,F3,an oM,oM,rfl,?_,a8.trans d9⟩
  ·omega
  ·rw [show g+(e+1)=g+e+1 by omega,Qw,n];exact d8
 ·rw [Qz oM]at T
  exact Ok.mk ⟨_,rfl,S,T,s⟩
end
def EF:fS:=⟨[(3,[(23,QH 0)]),(7,[(32,QH 0)]),(15,[(75,QH 0)])],[],[17],[17],[(17,⟨[0,0,2,4,8,16,0,64,128,416,1023,2047,3071,5119],[16383,16383,16381,16379,16375,16367,16383,16319,16255,16095,16382,15359,14335,11775],[0,0,0,0,0,1,1,2,2,2,0,0,0,2]⟩)]⟩
theorem Eh {A B C D:Nat} (a0:PA b (.cells #[.slice d A B,.slice p C D] 25) λE=>(rS E (ab_ b (0+1)) λa7 a8 a9=>PC_ 131 #[.slice a7 a8 a9] E (kS_ λb0 b1 b2 a=>PA a (.cells #[.slice none 0 0,.slice b0 b1 b2,.ii (if e>1 then e else 1),.slice none 0 0,.pointer none,.slice none 0 0,.slice none 0 0] 222) λF=>(rS F (ab_ b 0) λb3 G g5=>(∃r:Nat->Int->World->Prop,(∃l,r l 0 F)/\∀(l:Nat) (i:Int) (g6:Nat->Value) (c:World),r l i c->al (decide (i<(G:Int))) ((ix_ b3 i G λb4 b5=>(rS c (ad b4 (b5+Int.toNat i)) λb6 b7 b8=>PA c (.cells #[.slice none 0 0] 130) λb9=>PS b9 (ab_ c 0) (.slice b6 b7 b8) λH=>(rS H (ab_ c 0) λc0 c1 c2=>PC_ 132 #[.slice c0 c1 c2] H (kS_ λt m c3 c4=>(∃u:Nat->Int->World->Prop,(∃n,u n 0 c4)/\∀(n:Nat) (f:Int) (g7:Nat->Value) (g:World),u n f g->al (decide (f<(m:Int))) ((ix_ t f m λc5 c6=>(rS g (ad c5 (c6+Int.toNat f*4+3)) λc7 c8 c9=>PC_ 130 #[.slice c7 c8 c9] g (kS_ λd0 d1 d2 d3=>(ix_ t f m λd4 d5=>PS d3 (ad d4 (d5+Int.toNat f*4+3)) (.slice d0 d1 d2) λd6=>(∃I,I<n/\u I (IntKind.wrap .i64 (f+1)) d6))) (pE s)))) ((∃J K,((some (ab_ a 0)):Option Addr)=some ⟨J,K,none⟩/\(rS g (ad J K) λd7 d8 d9=>PA g (.cells #[.slice t m c3] 130) λe0=>PR_ (ap_ 22 (.slice d7 d8 d9) (.slice (some (ab_ g 0)) 1 1)) e0 (kS_ λe1 e2 e3 e4=>(∃L M,((some (ab_ a 0)):Option Addr)=some ⟨L,M,none⟩/\PS e4 (ad L M) (.slice e1 e2 e3) λe5=>(∃N,N<l/\r N (IntKind.wrap .i64 (i+1)) e5))) (pV s)))))) (pE s))))) ((∃v w,((some (ab_ a 0)):Option Addr)=some ⟨v,w,none⟩/\(∃O P Q R S T,c.cell? (ad v w)=some (.slice O P Q)/\c.cell? (ad v (w+1))=some (.slice R S T)/\PC_ 78 #[.agg #[.slice O P Q,.slice R S T]] c (kP λe6 e7=>(∃U V,((some (ab_ a 0)):Option Addr)=some ⟨U,V,none⟩/\PS e7 (ad U (V+4)) (.pointer e6) λW=>(∃X Y,((some (ab_ a 0)):Option Addr)=some ⟨X,Y,none⟩/\(rS W (ad X (Y+1)) λe8 Z g8=>(∃x:Nat->Int->World->Prop,(∃o,x o 0 W)/\∀(o:Nat) (j:Int) (g9:Nat->Value) (h:World),x o j h->al (decide (j<(Z:Int))) ((ix_ e8 j Z λe9 f0=>(Ld 128 (ad e9 (f0+Int.toNat j*5)) h λf1=>PA h (.cells #[.ii 0,.ii 0,.ii 0,.ii 0,.ii 0] 128) λf2=>St 128 (ab_ h 0) f1 f2 λf3=>(∀k,bE f3 k->∃y:Nat->Prop,(∃z a2,((some (ab_ a 0)):Option Addr)=some ⟨z,a2,none⟩/\(¬y z/\(rS k (ad z (a2+4+1)) λf4 f5 f6=>(Ld 128 (ab_ h 0) k λf7=>PC_ 133 #[f7] k (kP λf8 q=>(aj y k q/\PA q (.cells #[.pointer f8] 224) λa3=>(aj y q a3/\PR_ (ap_ 217 (.slice f4 f5 f6) (.slice (some (ab_ q 0)) 1 1)) a3 (kS_ λf9 g0 g1 g2=>(∃a4 a5,((some (ab_ a 0)):Option Addr)=some ⟨a4,a5,none⟩/\PS g2 (ad a4 (a5+4+1)) (.slice f9 g0 g1) λg3=>(∃a6,a6<o/\x a6 (IntKind.wrap .i64 (j+1)) g3))) (pY s)))) (pZ s))))))))) (PC_ 134 #[.pointer (some (ab_ a 0))] h (k0_ λg4=>rt s ((.pointer (some (ab_ a 0)))) g4) (pE s))))))) (pE s))))))) (pE s))):Calls ZQ 73 #[.agg #[.slice d A B,.slice p C D],.ii e] b s:=DC EF Tryz.func73 rfl a0
section
variable {w w':World} {p:Nat} {F T D:Nat->Prop} {d:aR} {every:Nat} {l l2:List ah}
theorem Rr {d:aR} {ta pa:Option Addr} {tn tc pn pc:Nat} {ev:Int} (o:dd d=0) (g8:aN ev) (hT:eM w) (q:bh w D d ta tn pa pn) (hD:∀a,D a->a<w.heap.size):
  Calls ZQ 73 #[.agg #[.slice ta tn tc,.slice pa pn pc],QH ev] w (Ok λe2 w'=>∃p F,e2= .pointer (some ⟨p,0,none⟩)/\dF w' p F d (max 1 ev).toNat []/\(∀a,F a->w.heap.size<=a)/\ai w w'):=by
 have g9:=q.bd.len;have X:=q.bd.d_;have h0:=q.Bk.len;have h3:=q.Bk.d_;have e5:d.projs.length<=8:=(xD (lu o).1).2.2.1;obtain⟨every,e6⟩:∃every:Nat,every=(max 1 ev).toNat:=⟨_,rfl⟩
 have e7:(if ev>1 then ev else 1)=(every:Int):=by split<;>omega
 have c0:0<every/\every<9223372036854775808:=by unfold aN at g8;omega
 rw [<-e6];refine Eh ?_;rw [e7];refine PA.mk λw1 k1 s1 g1=>⟨_,_,_,ae g1 rfl,PC.ok (qK (q.Bk.af k1) λa B=>by have:=hD a B;omega) ?_⟩
 rintro _ b ⟨j,h,x,y,rfl,Y,k8,h4⟩;have z8:=k8.size;refine⟨_,_,_,rfl,PA.mk λc1 Z k9 h5=>?_⟩;have e8:ai w c1:=(k1.then k8).then Z;have ga:=Z.get (k8.get g1 id) id;have l0:=Z.size;refine⟨_,_,_,ae ga rfl,λr J w'=>∃c:Nat,J=c/\c<=tn/\r=tn-c/\aj (·=b.heap.size) c1 w'/\∃s t K m,w'.heap[b.heap.size]? =some (.cells #[.slice s t K,.slice j h x,QH (every:Int),.slice none 0 0,.pointer none,.slice none 0 0,.slice none 0 0] 222 (0,0))/\aV lv 130 m w' s t K (d.types.take c)/\∀a,m a->c1.heap.size<=a,
  ⟨_,0,rfl,Qj _,rfl,aj.refl _,none,0,0,λ_=>False,h5,aV.nil _,λ_ q=>q.elim⟩,?_⟩
 rintro r _ _ z ⟨c,rfl,hj,rfl,kk,s,t,K,m,L,u,M⟩;have a7:ai w z:=e8.new kk λa B=>.inr oM;have zk:=kk.size;refine al.dec (λl4=>?_) (λl5=>?_)
 ·have d9:c<d.types.length:=oM
  obtain⟨a,a4,es,ha,B,h6,e9,fa,fn,fc,rfl,a8⟩:=(q.bd.af a7).el c d.types[c] (by simp [d9]);have e0:d.types[c]? =some d.types[c]:=Qq d9;generalize d.types[c]=a0 at a8 e0;have c2:=e9 0 dC;have h7:lv.k=1:=rfl;rw [h7,Nat.mul_one]at c2;refine⟨a,a4,ha,oM,oM,fa,fn,fc,by rw [Qx];exact c2,PA.mk λl6 h8 l7 h9=>PS.mk h9 sM λe1 i0 l8 i1=>⟨_,_,_,ae i1 rfl,?_⟩⟩;have a1:ai z e1:=h8.new i0 λa B=>.inr oM;have f0:=a7.then a1;obtain⟨E,l1,l2,l3⟩:=fv.boxes (N:=Li) a8;have c4:=a8.d_;refine PC.ok (qL (l2.af a1) λa B=>by have:=hD a B;have:=f0.size;omega) ?_;rintro _ e3 ⟨a9,N,f1,F9,rfl,b0,e4,i2⟩;have l9:=a1.size;have m0:=e4.size;have a2:∀a,aI a9=some a->e1.heap.size<=a:=λa B=>i2 a (b0.self a B);have f4:∀a,aI a9=some a->a<e3.heap.size:=λa B=>b0.aF a (b0.self a B);refine⟨_,_,_,rfl,λr J w'=>∃c:Nat,J=c/\c<=N/\r=N-c/\eO Li 123 e3 a9 N f1 E c w',⟨_,0,rfl,Qj _,rfl,eO.start b0.alone⟩,?_⟩;rintro r _ _ i3 ⟨f,rfl,i,rfl,A⟩;have m1:=A.len;have m2:E.length=a0.length:=by rw [<-l1];simp
  have i4:=a8.len;have O:ai z i3:=(a1.then e4).new A.keep λa B=>.inr (by have:=a2 a B;omega);have m3:=A.keep.size;refine al.dec (λf6=>?_) (λf8=>?_)
  ·obtain⟨a3,rfl⟩:=A.some oM
   have f9:=f4 a3 rfl;have a5:E[f]? =some E[f]:=Qq oM;have P:=l3 E[f] (XY oM);generalize E[f]=bx at a5 P;refine⟨a3,0,rfl,oM,oM,_,_,_,A.cell rfl a5 (by show N*4<=aQ;unfold aQ at c4⊢;omega) 3 _ rfl,PC.ok (uh (P.1.af O) λa B=>by have:=hD a B;have:=(a7.then O).size;omega) ?_⟩;rintro _ m4 ⟨m5,m6,m7,G,rfl,c3,i5,l⟩;refine⟨_,_,_,rfl,a3,0,rfl,oM,oM,?_⟩;refine(A.af i5).step (g:=a3) rfl a5 (c3.row (bytes:=32) dC ?_) P.2 (λv H=>⟨by have:=l v H;omega,c3.aF v H⟩) f9 λm8 g2 m9 n0=>⟨_,?_,f+1,an (by unfold aQ at c4;omega),oM,rfl,g2⟩
   ·have g:=P.1.d_
    have n:=P.1.len;show bx.x.bH.length*32<=aQ;have n1:bx.n=bx.x.bH.length:=n;have n2:bx.n*32<=aQ:=g;omega
   ·omega
  ·obtain rfl:f=N:=oM
   obtain⟨Fd,o,c6⟩:=A.done;rw [l1,IK]at o;have c5:=O.get L id;refine⟨b.heap.size,0,rfl,_,_,_,ae c5 rfl,IL (c:=lv) (x:=a0) (u.af O) NO (D:=Fd) ⟨_,_,_,rfl,o.row dC (by rw [<-i4];exact c4)⟩ (λa B=>⟨o.aF a B,λe=>?_⟩) ?_ ?_ λa' Q n3 F' g5 c7 f2 n4=>⟨_,_,_,rfl,b.heap.size,0,rfl,?_⟩⟩
   ·have g:=u.aF a (u.self a e)
    rcases c6 a B with n|n
    ·have:=a2 a n;omega
    ·omega
   ·have:=List.length_take_le c d.types;unfold aQ at X⊢;omega
   ·have:=List.length_take_le c d.types;unfold aQ at X;unfold maxLen;omega
   ·have i6:¬aI s=some b.heap.size:=λe=>by have:=M _ (u.self _ e);omega
    have i7:=c7.get c5 i6;have n5:=c7.size;refine PS.mk i7 sM λn6 f3 n7 i8=>⟨_,?_,c+1,an (by unfold aQ at X;omega),oM,rfl,?_,a',t+1,Q,F',i8,?_,?_⟩
    ·omega
    ·exact((kk.af O).new c7 λa B=>.inr (M _ (u.self a B))).then f3
    ·rw [Qw,e0]
     refine g5.keep f3 λa B e=>?_;rcases f2 a B with g|g|g
     ·have:=M a g;omega
     ·rcases c6 a g with n|n
      ·have:=a2 a n;omega
      ·omega
     ·omega
    ·intro a B
     rcases f2 a B with g|g|g
     ·exact M a g
     ·rcases c6 a g with n|n
      ·have:=a2 a n;omega
      ·omega
     ·omega
 ·obtain rfl:c=tn:=oM
  rw [Qz oM]at u;have h1:=(Y.af Z).keep kk λa B e=>by have:=Y.aF a B;omega
  have n8:b.heap.size<z.heap.size:=aC L;have f5:bh z (λa=>m a\/y a) d s t j h:=⟨(u.row (bytes:=24) dC (by rw [<-g9];exact X)).mono λa B=>.inl B,(h1.row (bytes:=40) dC (by rw [<-h0];exact h3)).mono λa B=>.inr B⟩
  have C:∀a,m a\/y a->w.heap.size<=a/\a<z.heap.size/\a≠b.heap.size:=λa B=>by
   rcases B with B|B
   ·have:=M a B;have:=u.aF a B;omega
   ·have:=h4 a B;have:=Y.aF a B;omega
  refine⟨b.heap.size,0,rfl,_,_,_,_,_,_,ae L rfl,ae L rfl,PC.ok (IM o f5 λa B=>(C a B).2.1) ?_⟩;rintro _ i9 ⟨vp,R,rfl,hv,b1,b2⟩;have o0:=b2.size;have f7:=hv.aF;refine⟨_,rfl,b.heap.size,0,rfl,PS.mk (b2.get L id) sM λS c8 o1 g0=>⟨b.heap.size,0,rfl,_,_,_,ae g0 rfl,?_⟩⟩;have n9:=Y.len dC;have c9:bh S (λa=>m a\/y a) d s t j h:=(f5.af b2).keep c8 λa B e=>(C a B).2.2 e;have h2:cT S vp R (bk.new d):=hv.keep c8 λa B e=>by have e:a=b.heap.size:=e;have:=b1 a B;omega
  refine⟨λr J w'=>∃(c:Nat) (ra:Option Addr) (T rc:Nat) (G:Nat->Prop),J=c/\c<=h/\r=h-c/\aj (·=b.heap.size) S w'/\w'.heap[b.heap.size]? =some (.cells #[.slice s t K,.slice j h x,QH (every:Int),.slice none 0 0,.pointer (some ⟨vp,0,none⟩),.slice ra T rc,.slice none 0 0] 222 (0,0))/\
   cU w' G ra T rc ((d.projs.take c).map λp=>(⟨p,[]⟩:ef))/\∀a,G a->S.heap.size<=a/\a<w'.heap.size,⟨_,0,none,0,0,λ_=>False,rfl,Qj _,rfl,aj.refl _,g0,cU.nil _,λa B=>B.elim⟩,?_⟩
  rintro r _ _ b3 ⟨f,ra,T,rc,G,rfl,i,rfl,I,d0,b4,l⟩;have o2:=I.size;refine al.dec (λf6=>?_) (λf8=>?_)
  ·have j0:f<d.projs.length:=oM
   have H:d.projs[f]? =some d.projs[f]:=Qq j0;generalize d.projs[f]=v at H;obtain⟨a,a4,es,a6,d5,h6,b5,rfl,d6⟩:=(c9.keep I λa B e=>(C a B).2.2 e).Bk.el f v H;refine⟨a,a4,a6,oM,oM,br (es:=oy v) (k:=5) (qH v) rfl (λa0 ht=>by rw [Qx];exact b5 a0 ht) (PA.mk λo3 j1 o4 j2=>aD (qH v) j2 rfl λo5 j3 o6 j4=>λj5 g3=>⟨λ_=>False,b.heap.size,0,rfl,id,?_⟩)⟩;have d1:ai b3 j5:=(j1.new j3 λa B=>.inr (by have B:a=b3.heap.size:=B;omega)).then g3.keep;refine⟨_,_,_,ae (d1.get d0 id) rfl,aw (qH v) ((g3.keep (S:=λ_=>False)).get j4 id) (PC.ok Rt ?_)⟩;rintro _ o7 ⟨p',r',rfl,d2,o8,o9,p0,p1,d3⟩;have j6:p'≠r':=λe=>by
    obtain⟨es,cl,hm,-⟩:=d2.map.at';have:=d2.at';rw [e,hm]at this;cases this
   have p2:=d3.size;have p3:=d1.size;refine⟨_,rfl,d3,PA.mk λp4 d4 p5 j7=>⟨d4,?_⟩⟩;have b6:=(d1.then d3).then d4;have j8:=b4.len;rw [Q8,Qy,X2 oM]at j8;refine(b4.af b6).push (λa B=>by have:=(l a B).2;omega) (d2.af d4) (λB=>by have:=(l _ B).2;omega) (λB=>by have:=(l _ B).2;omega) j6 Rl j7 (by rw [Q8,Qy];omega) λj9 k0 p6 G3 k2 g4 k3 k4=>⟨_,_,_,rfl,b.heap.size,0,rfl,?_⟩
   have k5:=g4.get (b6.get d0 id) λB=>by have:=(l _ B).1;omega
   have d7:∀a,G3 a->S.heap.size<=a:=λa B=>by
    rcases k3 a B with g|g|g|g
    ·exact(l a g).1
    ·omega
    ·omega
    ·omega
   refine PS.mk k5 sM λp7 g6 p8 k6=>⟨_,?_,f+1,j9,T+1,k0,G3,an oM,oM,rfl,((I.af b6).new g4 λa B=>.inr (l a B).1).then g6,k6,?_,λa B=>⟨d7 a B,by have:=k4 a B;omega⟩⟩
   ·omega
   ·rw [Qw,H,Q3]
    exact k2.keep g6 λa B e=>by have e:a=b.heap.size:=e;have:=d7 a B;omega
  ·rw [Qz oM]at b4
   have k7:∃U,eH b3 (λa=>∃k,(match k with|0=>a=b.heap.size|1=>m a\/y a|3=>R a|4=>G a|_=>False:Prop)) U b.heap.size ⟨s,t,K,j,h,x,every,none,0,0,vp,ra,T,rc,none,0,0⟩ d (cG d []) (eN d []).rows [] []:=by
    refine bS.join (G:=λk a=>match k with|0=>a=b.heap.size|1=>m a\/y a|3=>R a|4=>G a|_=>False) (λk=>?_) (λf c a i hj=>?_) λk a B=>?_
    ·match k with
     |0=>exact⟨rfl,d0⟩
     |1=>exact c9.keep I λa B e=>(C a B).2.2 e
     |2=>exact aV.nil _
     |3=>exact h2.keep I λa B e=>by have e:a=b.heap.size:=e;have:=b1 a B;omega
     |4=>exact b4
     |5=>exact aV.nil _
     |k+6=>trivial
    ·have V:∀f:Nat,(match f with|0=>a=b.heap.size|1=>m a\/y a|3=>R a|4=>G a|_=>False:Prop)->f=(if a=b.heap.size then 0 else if a<z.heap.size then 1 else if a<i9.heap.size then 3 else 4):=λf i=>by
      rcases f with _|_|_|_|_|f
      ·have i:a=b.heap.size:=i
       rw [if_pos i]
      ·have:=C a i;rw [if_neg oM,if_pos oM]
      ·exact i.elim
      ·have:=b1 a i;have:=f7 a i;rw [if_neg oM,if_neg oM,if_pos oM]
      ·have:=l a i;rw [if_neg oM,if_neg oM,if_neg oM]
      ·exact i.elim
     rw [V f i,<-V c hj]
    ·rcases k with _|_|_|_|_|k
     ·have B:a=b.heap.size:=B
      omega
     ·have:=C a B;omega
     ·exact B.elim
     ·have:=f7 a B;omega
     ·have:=l a B;omega
     ·exact B.elim
   obtain⟨U,hq⟩:=k7;have b7:ai w b3:=(((a7.then b2).new c8 λa B=>.inr (by have B:a=b.heap.size:=B;omega)).new I λa B=>.inr (by have B:a=b.heap.size:=B;omega))
   have g7:∀a,(∃k,(match k with|0=>a=b.heap.size|1=>m a\/y a|3=>R a|4=>G a|_=>False:Prop))->w.heap.size<=a:=λa ⟨k,B⟩=>by
    rcases k with _|_|_|_|_|k
    ·have B:a=b.heap.size:=B
     omega
    ·exact(C a B).1
    ·exact B.elim
    ·have:=b1 a B;omega
    ·have:=l a B;omega
    ·exact B.elim
   refine PC.ok (Fk hq o (hT.af b7) sM (by rw [qI];exact e5) sM sM) ?_;rintro _ p9 ⟨rfl,q',F',W,b8,b9,d8⟩;refine⟨rfl,Ok.mk ⟨b.heap.size,F',rfl,⟨⟨o,c0.1,c0.2,sM⟩,q',W,b9,?_⟩,λa B=>?_,b7.new d8.keep λa B=>.inr (g7 a B)⟩⟩
   ·rw [Ru];simpa using b8
   ·rcases d8.new a B with g|g
    ·exact g7 a g
    ·have:=b7.size;omega
end
theorem NP (g:aR) (b:List ah):∀a∈(eN g b).rows,a.rows.length<=b.length:=by
 have:∀(b:List ah) (c:kL) (d:Nat),(∀a∈c.rows,a.rows.length<=d)->∀a∈(b.foldl kL.add c).rows,a.rows.length<=d+b.length:=by
  intro b
  induction b with
  |nil=>intro c d h a e;exact h a e
  |cons f b m=>
   intro c d h a e;have:=m (c.add f) (d+1) (λi j=>?_) a e
   ·simp only [Xq];omega
   ·obtain⟨k,l,rfl⟩:=Xk.1 (show i∈c.rows.map λa=>a.add (c.view.add f).1 (tI ((c.view.add f).2.state f.bd f.agg) a.p)from j)
    have o:=h k l;unfold ef.add;dsimp only;split
    ·omega
    ·split
     ·omega
     ·exact Xx (yU ..) oM
 intro a e;have:=this b (kL.new g) 0 (λi j=>by
  obtain⟨k,l,rfl⟩:=Xk.1 (show i∈g.projs.map λn=>(⟨n,[]⟩:ef)from j);exact Q4 0) a e
 omega
def jm (b:aR) (c:List ah) (a:Int):List ep:=if a<0 then []else match(eN b c).rows[a.toNat]? with
 |none=>[]
 |some d=>d.list
section
variable {w w':World} {p:Nat} {F T D:Nat->Prop} {d:aR} {every:Nat} {l:List ah}
theorem Lj (s:dF w p F d every l) :
  Calls ZQ 391 #[.pointer (some ⟨p,0,none⟩),QH e,QH m] w (Ok λt w'=>∃c f g G,t= .tuple #[.agg #[QH (((cG d l).state e m).getD IB).version,.slice c f g],.bool ((cG d l).state e m).isSome]/\aV fL 84 G w' c f g (((cG d l).state e m).getD IB).cells/\(∀a,G a->w.heap.size<=a)/\ai w w'):=by
 obtain⟨z,A,u,rfl,j⟩:=s;refine sU (PA.mk λB h C v=>⟨p,0,rfl,_,ae (eH.af j h).bG rfl,PC.ok (ox ((eH.af j h).at' 3)) ?_⟩);rintro _ E ⟨c,f,g,G,rfl,x,k,i⟩;have H:=i.size;refine⟨_,_,_,_,_,rfl,PS.mk (i.get v id) sM λI n J y=>PS.mk y sM λK o L q=>⟨_,_,_,_,ae q rfl,ae q rfl,Ok.mk ⟨c,f,g,G,rfl,?_,λa b=>?_,?_⟩⟩⟩
 ·exact x.keep (n.then o) λa b r=>by have r:a=w.heap.size:=r;have:=k a b;omega
 ·have:=k a b;omega
 ·exact(h.then i).new (n.then o) λa b=>.inr (by have b:a=w.heap.size:=b;omega)
theorem GR (b:dF w p F d every l):Calls ZQ 389 #[.pointer (some ⟨p,0,none⟩)] w (Ok (qD Ab 160 w (cG d l).entries)):=by
 obtain⟨c,j,e,rfl,a⟩:=b;refine pP ⟨p,0,rfl,_,ae a.bG rfl,PC.ok (GS (a.at' 3) (xE d l c.2.2.2).1) ?_⟩;rintro _ k ⟨f,g,h,G,rfl,i⟩;exact⟨_,_,_,rfl,Ok.mk ⟨f,g,h,G,rfl,i⟩⟩
theorem OY (k:dF w p F d every l) :Calls ZQ 390 #[.pointer (some ⟨p,0,none⟩),QH e] w (Ok λm w'=>qD IN 268 w (jm d l e) m w'/\vE (jm d l e)):=by
 obtain⟨n,C,o,rfl,b⟩:=k;have E:=cU.len (b.at' 4);refine uj (al.dec (λh=>Ok.mk ⟨⟨none,0,0,λ_=>False,rfl,?_,aj.refl _,λq c=>c.elim⟩,?_⟩) (λf=>⟨p,0,rfl,_,_,_,ae b.bG rfl,al.dec (λr=>Ok.mk ⟨⟨none,0,0,λ_=>False,rfl,?_,aj.refl _,λq c=>c.elim⟩,?_⟩) (λr=>?_)⟩))
 ·unfold jm;rw [if_pos h];exact aV.nil _
 ·unfold jm;rw [if_pos h];exact List.Pairwise.nil
 ·unfold jm;rw [if_neg f,Q7 oM];exact aV.nil _
 ·unfold jm;rw [if_neg f,Q7 oM];exact List.Pairwise.nil
 ·obtain⟨a,rfl⟩:∃a:Nat,e=a:=⟨e.toNat,oM⟩
  have g:(eN d l).rows[a]? =some (eN d l).rows[a]:=Qq oM;have i:(eN d l).rows[a]∈(eN d l).rows:=XY oM;have s:jm d l (a:Int)=(eN d l).rows[a].list:=by unfold jm;rw [if_neg f,Qx,g]
  rw [s];generalize(eN d l).rows[a]=t at g i;obtain⟨u,H,I,v,x,j,-⟩:=cU.elem (b.at' 4) g;refine⟨p,0,rfl,_,_,_,ae b.bG rfl,u,0,v,oM,oM,_,by rw [Qx];exact x,PC.ok (OZ j (Xx (NP d l t i) n.2.2.2)) ?_⟩;rintro _ J ⟨y,z,A,G,rfl,B⟩;exact⟨_,_,_,rfl,Ok.mk ⟨⟨y,z,A,G,rfl,B⟩,j.Ac⟩⟩
end
structure aq.Cl (S:aq):Prop where
 ok:S.OK
 ly:∀e∈S.l,∀o,o<S.n->S.ly e o=true
 le:∀e∈S.l,e.seq<=(S.sX e.origin.toNat:Int)
 has:∀(o:Nat) (s:Int),o<S.n->1<=s->s<=(S.sX o:Int)->∃e∈S.l,aO e=((o:Int),s)
theorem qT :A.ly n a=true↔n.aK.getD a 0=0\/∃b,A.get ((a:Int),n.aK.getD a 0)=some b/\b.aA<n.aA/\∀c,c<b.aK.length->b.aK.getD c 0<=n.aK.getD c 0:=by
 unfold aq.ly;generalize n.aK.getD a 0=d;dsimp only
 cases e:A.get ((a:Int),d)with
 |none=>simp
 |some b=>simp
theorem aq.Cl.new (b:a<=64):aq.Cl ⟨a,[]⟩:=⟨aq.uk b,sM,sM,λd e _ f c=>by simp [aq.sX]at c;omega⟩
theorem aq.TR (a:aq.OK ⟨A.n,dO n A.l⟩) (b:A.get d8=some N):aq.get ⟨A.n,dO n A.l⟩ d8=some N:=by
 obtain⟨c,rfl⟩:=aq.get_some b;exact a.get ((cX n A.l).mem_iff.2 (QJ _ c))
theorem aq.gg (a:aq) (b:ah):((a.add b).1≠0/\(a.add b).2=a)\/(a.add b=(0,⟨a.n,dO b a.l⟩)/\dh b a.n=0/\a.get (aO b)=none/\b.seq=a.vec.getD b.origin.toNat 0+1/\∀c,c<a.n->a.ly b c=true):=by
 rw [aq.add_def];split
 ·rename_i d;exact .inl ⟨d,rfl⟩
 rename_i e;split
 ·exact .inl ⟨sM,rfl⟩
 rename_i f;split
 ·exact .inl ⟨sM,rfl⟩
 rename_i g;split
 ·exact .inl ⟨sM,rfl⟩
 rename_i h;refine .inr ⟨rfl,by simpa using e,by simpa using f,by simpa using g,?_⟩;simpa [List.any_eq_false]using h
theorem aq.NV {S:aq} (b:dh n S.n=0) (c:S.get (aO n)=none) (d:n.seq=S.vec.getD n.origin.toNat 0+1) (e:∀a,a<S.n->S.ly n a=true):S.add n=(0,⟨S.n,dO n S.l⟩):=by
 rw [aq.add_def,if_neg (by simpa using b),if_neg (by simp [c]),if_neg (by simpa using d),if_neg];simpa [List.any_eq_false]using e
theorem aq.Cl.add {d:aq} (i:d.Cl) {c:ah} (r:c.Ok):(d.add c).2.Cl:=by
 have m:=(aq.Bn i.ok r).1;rcases d.gg c with⟨-,h⟩|⟨j,s,z,t,u⟩
 ·rw [h];exact i
 rw [j]at m⊢;simp only at m⊢;obtain⟨A,B,C,-⟩:=im s;obtain⟨k,n⟩:∃k:Nat,c.origin=k:=⟨c.origin.toNat,oM⟩
 have v:k<d.n:=oM
 rw [n,Qx,d.iJ v]at t;have e:∀a,a∈dO c d.l↔a=c\/a∈d.l:=λa=>by rw [(cX c d.l).mem_iff,Q2]
 have f:∀a g,d.ly a g=true->aq.ly ⟨d.n,dO c d.l⟩ a g=true:=λa g b=>by
  rw [qT]at b⊢;rcases b with b|⟨w,j,h⟩
  ·exact .inl b
  ·exact .inr ⟨w,aq.TR m j,h⟩
 refine⟨m,λa b g l=>?_,λa b=>?_,λg o l j h=>?_⟩
 ·rcases(e a).1 b with rfl|b
  ·exact f _ _ (u g l)
  ·exact f _ _ (i.ly a b g l)
 ·rw [aq.Hd]
  rcases(e a).1 b with rfl|b
  ·rw [n,Qx,if_pos rfl];omega
  ·have:=i.le a b
   split<;>omega
 ·rw [aq.Hd]at h
  by_cases q:c.origin=(g:Int)
  ·rw [if_pos q]at h
   have x:k=g:=oM
   subst x
   by_cases y:o=c.seq
   ·exact⟨c,(e c).2 (.inl rfl),by simp [aO,n,y]⟩
   ·obtain⟨a,b,p⟩:=i.has k o l j oM
    exact⟨a,(e a).2 (.inr b),p⟩
  ·rw [if_neg q]at h
   obtain⟨a,b,p⟩:=i.has g o l j oM;exact⟨a,(e a).2 (.inr b),p⟩
theorem aq.Vd (a:aq) (b:ah):(a.add b).2.n=a.n:=by
 rcases a.gg b with⟨-,c⟩|⟨d,-⟩
 ·rw [c]
 ·rw [d]
theorem aq.AU (a:aq) (b:ah):(a.add b).2.l.length<=a.l.length+1:=by
 rcases a.gg b with⟨-,c⟩|⟨d,-⟩
 ·rw [c];omega
 ·rw [d];show(dO b a.l).length<=_;rw [(cX b a.l).length_eq];simp
theorem aq.nq (a:aq) (b:List ah) (c:ah):a.eI (b++[c])=((a.eI b).add c).2:=by unfold aq.eI;rw [List.foldl_append];rfl
theorem aq.BE (a:aq) (b c:List ah):a.eI (b++c)=(a.eI b).eI c:=by unfold aq.eI;rw [List.foldl_append]
theorem aq.Cl.eI:∀{l:List ah} {S:aq},S.Cl->(∀e∈l,e.Ok)->(S.eI l).Cl
 |[],S,a,_=>a
 |e::l,S,a,b=>aq.Cl.eI (l:=l) (S:=(S.add e).2) (a.add (b e (QV ..))) λc d=>b c (QJ _ d)
theorem aq.RJ:∀(b:List ah) (a:aq),(a.eI b).n=a.n
 |[],a=>rfl
 |e::b,a=>(aq.RJ b _).trans (a.Vd e)
theorem aq.np:∀(b:List ah) (a:aq),(a.eI b).l.length<=a.l.length+b.length
 |[],a=>by simp [aq.eI]
 |e::b,a=>by
  have c:=aq.np b (a.add e).2;have d:=a.AU e;show((a.add e).2.eI b).l.length<=_;simp only [Xq];omega
theorem oB {b:ah}:∀{a:List ah},(∀x∈a,fg b x=false)->dO b a=a++[b]
 |[],_=>rfl
 |x::a,c=>by
  unfold dO;rw [if_neg (by rw [c x (QV ..)];simp),oB λd e=>c d (QJ _ e)];rfl
theorem aq.Cl.take {a:aq} (i:a.Cl):∀{k:Nat},k<=a.l.length->(⟨a.n,[]⟩:aq).eI (a.l.take k)=⟨a.n,a.l.take k⟩/\aq.Cl ⟨a.n,a.l.take k⟩
 |0,_=>⟨rfl,by simpa using aq.Cl.new i.ok.n⟩
 |k+1,U=>by
  obtain⟨J,n⟩:=aq.Cl.take i (k:=k) oM;have h:a.l[k]? =some a.l[k]:=Qq oM;have o:a.l[k]∈a.l:=XY oM;generalize a.l[k]=b at h o;have x:a.l=a.l.take k++b::a.l.drop (k+1):=by
   conv=>lhs;rw [<-List.take_append_drop k a.l]
   congr 1
   rw [X4 oM]
   congr 1
   have:=Qq (l:=a.l) (i:=k) oM;rw [h]at this;exact(XJ this).symm
  have r:=i.ok.Rz;have j:=i.ok.ids;rw [x]at r j;have g:∀c∈a.l,fg c b=true->c∈a.l.take k:=λc e p=>by
   rw [x]at e;rcases Q6.1 e with e|e
   ·exact e
   rcases Q2.1 e with rfl|e
   ·rw [jR]at p;omega
   ·have K:=(List.pairwise_append.1 r).2.1
    have s:=(List.pairwise_cons.1 K).1 c e;rw [ns s]at p;cases p
  have d:∀c∈a.l.take k,fg c b=true:=λc e=>(List.pairwise_append.1 r).2.2 c e b (QV ..);have y:aq.get ⟨a.n,a.l.take k⟩ (aO b)=none:=by
   cases L:aq.get ⟨a.n,a.l.take k⟩ (aO b)with
   |none=>rfl
   |some c=>
    obtain⟨l,m⟩:=aq.get_some L;rw [Q3,QY,List.nodup_append]at j;exact absurd m (j.2.2 (aO c) (Xk.2 ⟨c,l,rfl⟩) (aO b) (QV ..))
  have z:=i.ok.TC b o;obtain⟨V,W,M,X,-,-,Y,-,A,-⟩:=im z;obtain⟨f,t⟩:∃f:Nat,b.origin=f:=⟨b.origin.toNat,oM⟩
  have u:f<a.n:=oM
  have B:∀q,q<a.n->aq.ly ⟨a.n,a.l.take k⟩ b q=true:=λq N=>by
   have:=i.ly b o q N;rw [qT]at this⊢;rcases this with C|⟨c,v,E,P⟩
   ·exact .inl C
   ·obtain⟨l,m⟩:=aq.get_some v
    refine .inr ⟨c,?_,E,P⟩;rw [<-m];exact n.ok.get (g c l (by rw [jR];exact .inl E))
  have F:=i.ok.ok b o;have Q:b.seq=(aq.vec ⟨a.n,a.l.take k⟩).getD b.origin.toNat 0+1:=by
   rw [t,Qx,aq.iJ (S:=⟨a.n,a.l.take k⟩) u];have Z:(aq.sX ⟨a.n,a.l.take k⟩ f:Int)+1<=b.seq:=by
    rcases Int.lt_or_le (aq.sX ⟨a.n,a.l.take k⟩ f:Int) b.seq with p|O
    ·omega
    ·obtain⟨c,R,S⟩:=n.has f b.seq u M O
     have:=aq.get_none y c R;exact absurd (S.trans (by simp [aO,t])) this
   have O:b.seq<=(aq.sX ⟨a.n,a.l.take k⟩ f:Int)+1:=by
    have T:pH (b.seq-1)=b.seq-1:=by
     have:=F.seq;exact wrap_i64 (by unfold aN at*;omega)
    rw [T,t,Qx]at A;have:=B f u;rw [qT,A]at this;rcases this with C|⟨c,v,-⟩
    ·omega
    ·obtain⟨l,m⟩:=aq.get_some v
     have s:=n.le c l;have H:c.origin=f/\c.seq=b.seq-1:=by
      have:=m;simp only [aO,Prod.mk.injEq]at this;exact this
     rw [H.1,H.2,Qx]at s;omega
   show b.seq=(aq.sX ⟨a.n,a.l.take k⟩ f:Int)+1;omega
  have I:=aq.NV (S:=⟨a.n,a.l.take k⟩) z y Q B;have a0:dO b (a.l.take k)=a.l.take (k+1):=by
   rw [oB λc h=>ns (d c h),Qw,h];rfl
  rw [show a.l.take (k+1)=a.l.take k++[b] by rw [Qw,h];rfl,aq.nq,J,I];have w:=n.add F;rw [I]at w;rw [show dO b (a.l.take k)=a.l.take k++[b]from oB λc h=>ns (d c h)]at w⊢;exact⟨rfl,w⟩
theorem aq.Cl.VI (a:A.Cl):(⟨A.n,[]⟩:aq).eI A.l=A:=by
 have:=(a.take (Q4 _)).1;rw [List.take_length]at this;exact this
theorem Fy {a:ah}:∀{l:List ah},(∀x∈l,aO x≠aO a)->dO a l=l.take (posOf (λx=>fg x a) l)++a::l.drop (posOf (λx=>fg x a) l)
 |[],_=>rfl
 |x::l,c=>by
  have d:=c x (QV ..);unfold dO posOf;rw [List.takeWhile_cons]
  by_cases b:fg x a=true
  ·rw [if_pos b,if_neg (by rw [ns b];simp)]
   have:=Fy (l:=l) λe f=>c e (QJ _ f);rw [this];simp [posOf]
  ·rw [if_neg b,if_pos ((GY d).resolve_left b)]
   rfl
structure qO (most:Nat) (l:List ah):Prop where
 Rz:VF l
 ids:(l.map aO).Nodup
 ok:∀e∈l,e.Ok
 le:l.length<=most
theorem qO.nil (a:Nat):qO a []:=⟨List.Pairwise.nil,sM,sM,Qj _⟩
theorem qO.add (d:qO a C) (h:n.Ok):qO a (dQ a C n).2:=by
 unfold dQ;split
 ·exact d
 rename_i f;rw [not_or]at f;have g:∀b∈C,aO b≠aO n:=by
  have:=f.2;simp only [List.any_eq_true,beq_iff_eq,not_exists,not_and]at this;exact this
 have e:=cX n C;refine⟨xK d.Rz g,?_,λb c=>?_,by rw [e.length_eq,Xq];omega⟩
 ·refine(e.map aO).nodup_iff.2 ?_
  rw [QY,List.nodup_cons];exact⟨λi=>by obtain⟨b,c,j⟩:=Xk.1 i;exact g b c j,d.ids⟩
 ·rcases Q2.1 (e.mem_iff.1 c)with rfl|c
  ·exact h
  ·exact d.ok b c
theorem qO.sub (b:qO a C) (c:e6.Sublist C):qO a e6:=
 ⟨b.Rz.sublist c,b.ids.sublist (c.map aO),λd e=>b.ok d (c.subset e),Xx c.length_le b.le⟩
theorem tK {b:aq}:∀{a:List ah},(∀e∈a,(b.add e).1≠0)->cP b a=none
 |[],_=>rfl
 |e::a,c=>by
  unfold cP;rw [if_neg (c e (QV ..)),tK λd f=>c d (QJ _ f)];rfl
theorem tL {c:aq}:∀{a:List ah} {i:Nat} {e:ah},(∀x∈a.take i,(c.add x).1≠0)->a[i]? =some e->(c.add e).1=0->cP c a=some (e,(c.add e).2,a.eraseIdx i)
 |[],i,e,_,b,_=>by simp at b
 |x::a,0,e,d,b,f=>by
  simp at b;subst b;unfold cP;rw [if_pos f];rfl
 |x::a,i+1,e,d,b,f=>by
  unfold cP;rw [if_neg (d x sM),tL (i:=i) (e:=e) (λg h=>d g (by simp [h])) (by simpa using b) f]
  rfl
def cD (a:dz) (b:Option Addr) (c d:Nat) (e:Option Addr) (f g:Nat):List Value:=[QH a.kind,QH a.ck,QH a.qF,.slice b c d,.slice e f g]
abbrev kD (a:dz) (b:Option Addr) (c d:Nat) (e:Option Addr) (f g:Nat):Value:=.agg (cD a b c d e f g).toArray
theorem j_ (a:dz) (b:Option Addr) (c d:Nat) (e:Option Addr) (f g:Nat):jg ZQ 67 (cD a b c d e f g)=true:=kR
theorem XG (a:dz) (b:Option Addr) (c d:Nat) (e:Option Addr) (f g:Nat):TF (fe ZQ 67) (kD a b c d e f g)=true:=kR
section
variable {w w':World} {D E F:Nat->Prop} {m:dz} {va ea:Option Addr} {vn vc en ec N:Nat} {chunk:Int} {p:Nat} {S:aq}
theorem MK (d:Row aP 8 w D va vn m.vec) (k:Row fZ 96 w E ea en m.events):Calls ZQ 105 #[kD m va vn vc ea en ec,QH (N:Int)] w (Ok λl w'=>l= QH (iu m N)/\ai w w'):=by
 have v:=d.len;have x:=k.len;have n:=d.d_;refine Hr (PA.mk λy e z f=>⟨_,_,_,ae f rfl,al.dec (λo=>Ok.mk ⟨?_,e⟩) (λo=>⟨_,_,_,ae f rfl,al.dw (λp=>Ok.mk ⟨?_,e⟩) (λp=>⟨_,_,_,ae f rfl,λh q w'=>∃a:Nat,q=a/\a<=vn/\h=vn-a/\((m.vec.take a).any λb=>decide (b<0))=false/\ai w w',⟨_,0,rfl,Qj _,rfl,sM,e⟩,?_⟩)⟩)⟩)
 ·unfold iu;rw [if_pos oM]
 ·unfold iu;rw [if_neg oM,if_pos oM]
 rintro h _ _ A ⟨a,rfl,B,rfl,g,c⟩;refine al.dec (λC=>?_) (λF=>Ok.mk ⟨?_,c⟩)
 ·obtain⟨r,s,b,t,i,-,u⟩:=(d.af c).mh (i:=a) oM
  refine⟨r,s,t,oM,oM,b,u,al.dec (λj=>Ok.mk ⟨?_,c⟩) (λj=>⟨_,oM,a+1,an (by unfold aQ at n;omega),oM,rfl,?_,c⟩)⟩
  ·unfold iu;rw [if_neg oM,if_neg oM,if_pos (List.any_eq_true.2 ⟨b,QZ i,by simpa using j⟩)]
  ·rw [Qw,i,List.any_append,g];simp;omega
 ·rw [Qz oM]at g
  unfold iu;rw [if_neg oM,if_neg oM,if_neg (by rw [g];simp)]
theorem zG {e:Type} {a:e->Int}:∀{b:List e} {f:Nat} {c:e},(∀y∈b.take f,a y=0)->b[f]? =some c->a c≠0->cO a b=a c
 |y::b,0,c,_,d,g=>by
  simp at d;subst d;unfold cO;rw [if_pos (by simpa using g)]
 |y::b,f+1,c,h,d,g=>by
  have i:a y=0:=h y sM;unfold cO
  rw [i];simp only [bne_self_eq_false,Bool.false_eq_true,if_false];exact zG (λj k=>h j (QJ _ k)) (by simpa using d) g
theorem Dw {b:Type} {c:b->Int}:∀{a:List b},(∀y∈a,c y=0)->cO c a=0
 |[],_=>rfl
 |y::a,d=>by
  unfold cO
  rw [d y (QV ..)];simpa using Dw λe f=>d e (QJ _ f)
theorem ML (u:Row aP 8 w D va vn m.vec) (j:Row fZ 96 w E ea en m.events) (v:N<4611686018427387904):Calls ZQ 104 #[kD m va vn vc ea en ec,QH (N:Int),QH chunk] w (Ok λx w'=>x= QH (ez m N chunk)/\ai w w'):=by
 have W:=u.len;have X:=j.len;have y:=j.d_;refine Hq (PA.mk λY c Z d=>⟨_,_,_,ae d rfl,al.dec (λz=>Ok.mk ⟨?_,c⟩) (λz=>⟨_,_,_,ae d rfl,al.dec (λA=>Ok.mk ⟨?_,c⟩) (λA=>⟨_,_,_,ae d rfl,al.dec (λB=>Ok.mk ⟨?_,c⟩) (λB=>⟨_,_,_,ae d rfl,λo k w'=>∃a:Nat,k=a/\a<=en/\o=en-a/\(∀b∈m.events.take a,dh b N=0)/\ai w w',⟨_,0,rfl,Qj _,rfl,sM,c⟩,?_⟩)⟩)⟩)⟩)
 ·unfold ez;rw [if_pos oM]
 ·unfold ez;rw [if_neg oM,if_pos (.inl oM)]
 ·unfold ez;rw [if_neg oM,if_pos (.inr oM)]
 rintro o _ _ C ⟨a,rfl,hj,rfl,e,f⟩;have p:ez m N chunk=cO (λF=>dh F N) m.events:=by unfold ez;rw [if_neg oM,if_neg oM]
 refine al.dec (λa4=>?_) (λa5=>Ok.mk ⟨?_,f⟩)
 ·obtain⟨q,I,es,J,K,a6,r,g,h,i,rfl,s,L⟩:=(j.af f).el a m.events[a] (Qq oM)
  have l:m.events[a]? =some m.events[a]:=Qq oM;generalize m.events[a]=b at r s L l;refine⟨q,I,J,oM,oM,br (es:=aE b g h i) (k:=10) (bg b g h i) rfl (λk M=>r k M) (PA.mk λw3 O s3 P=>aD (bg b g h i) P rfl λQ R s4 S=>aw (bg b g h i) S ?_)⟩;have n:ai C Q:=O.new R λq K=>.inr oM;refine PC.ok (zj (s.af n) v) ?_;rintro _ w5 ⟨rfl,t⟩;refine⟨_,rfl,al.dw (λT=>Ok.mk ⟨by rw [p,zG e l T],(f.then n).then t⟩) (λU=>⟨_,oM,a+1,an (by unfold aQ at y;omega),oM,rfl,λV H=>?_,(f.then n).then t⟩)⟩;rw [Qw,l]at H;rcases Q6.1 H with H|H
  ·exact e V H
  ·simp at H;subst H;exact U
 ·rw [Qz oM]at e
  rw [p,Dw e]
theorem zH (k:cV w p F S) {b a:Int}:Calls ZQ 95 #[.pointer (some ⟨p,0,none⟩),QH b,QH a] w (Ok λl w'=>∃va vn vc G,l=kD (lj S b a) va vn vc none 0 0/\aV aP 3 G w' va vn vc S.vec/\(∀a,G a->w.heap.size<=a)/\ai w w'):=by
 refine Ex (PA.mk λq h r m=>PC.ok (mi (k.af h)) ?_);rintro _ s ⟨d,e,f,G,rfl,n,g,i⟩;have t:=g.size;refine⟨_,_,_,rfl,aD (j_ (lj S b a) d e f none 0 0) (g.get m id) rfl λu j v o=>aw (j_ (lj S b a) d e f none 0 0) o (Ok.mk ⟨d,e,f,G,rfl,n.keep j λa c x=>?_,λa c=>?_,(h.then g).new j λa c=>.inr oM⟩)⟩
 ·have:=i a c;omega
 ·have:=i a c;omega
theorem Ki (k:cV w p F S) {b a:Int}:Calls ZQ 107 #[.pointer (some ⟨p,0,none⟩),QH b,QH a] w (Ok λl w'=>∃va vn vc G,l=kD (yN S b a) va vn vc none 0 0/\aV aP 3 G w' va vn vc S.vec/\(∀a,G a->w.heap.size<=a)/\ai w w'):=by
 refine LK (PA.mk λq h r m=>PC.ok (mi (k.af h)) ?_);rintro _ s ⟨d,e,f,G,rfl,n,g,i⟩;have t:=g.size;refine⟨_,_,_,rfl,aD (j_ (yN S b a) d e f none 0 0) (g.get m id) rfl λu j v o=>aw (j_ (yN S b a) d e f none 0 0) o (Ok.mk ⟨d,e,f,G,rfl,n.keep j λa c x=>?_,λa c=>?_,(h.then g).new j λa c=>.inr oM⟩)⟩
 ·have:=i a c;omega
 ·have:=i a c;omega
theorem Gq {cs:Array Value} (c:w.heap[a]? =some (.cells cs g H)) (d:cs[0]? =some (QH (N:Int))):Calls ZQ 103 #[QH e,.pointer (some ⟨a,0,none⟩)] w (Ok λf w'=>f= .bool (decide (0<=e)&&decide (e<N))/\w=w'):=by
 refine Ez (al.dec (λb=>⟨_,ae c d,Ok.mk ⟨?_,rfl⟩⟩) (λb=>Ok.mk ⟨?_,rfl⟩))
 ·rw [decide_eq_true (show 0<=e from b)];rfl
 ·rw [Xv (show¬0<=e from b)];rfl
theorem Qd (p:Row aP 8 w D va vn m.vec) (q:Row fZ 96 w E ea en m.events) (x:N<4611686018427387904):Calls ZQ 51 #[kD m va vn vc ea en ec,QH (N:Int),QH chunk] w (Ok λi w'=>i= QH (dJ m N chunk)/\ai w w'):=by
 refine Jh (PA.mk λy z K A=>PA.mk λj r L k=>?_);have d:=r.get A id;have a:=z.then r;refine⟨λB w'=>B=(!(decide (0<=m.ck)&&decide (m.ck<N))|| !(decide (0<=m.qF)&&decide (m.qF<N))||m.ck==m.qF)/\j=w',?_,?_⟩
 ·refine⟨_,ae d rfl,_,_,_,rfl,kR,PC.ok (Gq (N:=N) k rfl) ?_⟩
  rintro _ _ ⟨rfl,rfl⟩;refine⟨_,rfl,al.not (al.mk (λb=>⟨_,ae d rfl,_,_,_,rfl,kR,PC.ok (Gq (N:=N) k rfl) ?_⟩) (λb=>⟨by rw [b];rfl,rfl⟩))⟩;rintro _ _ ⟨rfl,rfl⟩;refine⟨_,rfl,al.not (al.mk (λc=>⟨_,ae d rfl,_,ae d rfl,by rw [b,c];rfl,rfl⟩) (λc=>⟨by rw [b,c];rfl,rfl⟩))⟩
 rintro l _ _ ⟨C,rfl⟩;have g:dJ m N chunk=if m.kind=3 then(if l then 1 else ez m N chunk)else if m.kind=1\/m.kind=2\/m.kind=4 then(if l then 1 else iu m N)else 2:=by rw [C];rfl
 have e:∀{s:List PanicEntry->World->Prop},(if l then 1 else iu m N)=dJ m N chunk->al l (Ok (λi w'=>i= QH (dJ m N chunk)/\ai w w') (.returned (QH 1)) j) (ow ZQ 67 (.pointer (some ⟨w.heap.size,0,none⟩)) j λF=>(∃(t:Int),j.cell? ⟨y.heap.size,0,none⟩=some (QH t)/\PC ZQ 105 #[F,QH t] j (λH I=>∃(u:Int),H= QH u/\Ok (λi w'=>i= QH (dJ m N chunk)/\ai w w') (.returned (QH u)) I) s)):=λ{s} v=>by
  refine al.mk (λh=>Ok.mk ⟨by rw [<-v,h];rfl,a⟩) (λh=>aw (j_ m va vn vc ea en ec) d ⟨_,ae k rfl,PC.ok (MK (p.af a) (q.af a)) ?_⟩);rintro _ J ⟨rfl,n⟩;exact⟨_,rfl,Ok.mk ⟨by rw [<-v,h];rfl,a.then n⟩⟩
 refine⟨_,ae d rfl,al.dX (λf=>al.not (al.mk (λh=>?_) (λh=>aw (j_ m va vn vc ea en ec) d ⟨_,ae k rfl,PC.ok (ML (p.af a) (q.af a) x) ?_⟩))) (λf=>al.dX (λb=>al.tt (by simpa using b) (e ?_)) (λb=>al.dX (λc=>al.tt (by simpa using c) (e ?_)) (λc=>al.dX (λo=>e ?_) (λo=>Ok.mk ⟨?_,a⟩))))⟩
 ·exact al.tt h (Ok.mk ⟨by rw [g,if_pos f,h];rfl,a⟩)
 ·rintro _ J ⟨rfl,n⟩
  exact⟨_,rfl,Ok.mk ⟨by rw [g,if_pos f,h];rfl,a.then n⟩⟩
 ·rw [g,if_neg f,if_pos (show m.kind=1\/m.kind=2\/m.kind=4 from .inl b)]
 ·rw [g,if_neg f,if_pos (show m.kind=1\/m.kind=2\/m.kind=4 from .inr (.inl c))]
 ·rw [g,if_neg f,if_pos (show m.kind=1\/m.kind=2\/m.kind=4 from .inr (.inr o))]
 ·rw [g,if_neg f,if_neg (by rintro(h|h|h);exact b h;exact c h;exact o h)]
end
structure Rw (w:World) (p:Nat) (M D:Nat->Prop) (most:Nat) (l:List ah) (a:Option Addr) (n c:Nat) (L:List (Bx ah)):Prop where
 at':w.heap[p]? =some (.cells #[QH (most:Int),.slice a n c] 146 (0,0))
 pG:aV qE.k_ 59 (λb=>aI a=some b) w a n c L
 map:L.map (·.x)=l
 Pa:∀b∈L,qE.In w D b
 dD:∀b,D b->b<w.heap.size/\¬M b
 mp:M p
 ma:∀b,aI a=some b->M b/\b≠p
 dM:∀b,M b->b<w.heap.size
def ij (c:World) (d:Nat) (e D:Nat->Prop) (a:Nat) (b:List ah):Prop:=(a<=256/\qO a b)/\∃f g h i,Rw c d e D a b f g h i
section
variable {w w':World} {p:Nat} {M D T E:Nat->Prop} {most:Nat} {l:List ah} {a:Option Addr} {n c:Nat} {L:List (Bx ah)}
theorem Rw.keep (d:Rw w p M D most l a n c L) (f:aj T w w') (g:∀b,M b->¬T b) (h:∀b,D b->¬T b):Rw w' p M D most l a n c L:=
 ⟨f.get d.at' (g _ d.mp),d.pG.keep f λb e=>g b (d.ma b e).1,d.map,λb e=>(d.Pa b e).keep f h,λb e=>⟨Qk (d.dD b e).1 f.size,(d.dD b e).2⟩,d.mp,d.ma,λb e=>Qk (d.dM b e) f.size⟩
theorem ij.keep (d:ij w p M D most l) (e:aj T w w') (f:∀b,M b->¬T b) (g:∀b,D b->¬T b):ij w' p M D most l:=by
 obtain⟨h,a,n,c,L,d⟩:=d;exact⟨h,a,n,c,L,d.keep e f g⟩
theorem ij.af (a:ij w p M D most l) (b:ai w w'):ij w' p M D most l:=a.keep b (λ_ _ a=>a) λ_ _ a=>a
theorem xH:jP ZQ 50 59 qE.k_.k 96:=Eg
theorem Lk (h:0<=e/\e<=256):Calls ZQ 36 #[QH e] w (Ok λd w'=>∃p,d= .pointer (some ⟨p,0,none⟩)/\ij w' p (·=p) (λ_=>False) e.toNat []/\w.heap.size<=p/\p<w'.heap.size/\ai w w'):=by
 refine GV (PA.mk λf g i c=>Ok.mk ⟨w.heap.size,rfl,⟨⟨oM,qO.nil _⟩,none,0,0,[],?_,(aV.nil f).mono (λb a=>a.elim) (λb a=>by cases a),rfl,sM,λb a=>a.elim,rfl,λb a=>(by cases a),λb a=>by have a:b=w.heap.size:=a;omega⟩,Q4 _,oM,g⟩);have:(if(if 256<e then 256 else e)>0 then(if 256<e then 256 else e)else 0)=((e.toNat:Nat):Int):=by split<;>split<;>omega
 rw [this]at c;exact c
theorem vG (e:ij w p M D most l):Calls ZQ 62 #[.pointer (some ⟨p,0,none⟩)] w (Ok λg w'=>g= .tuple #[]/\ij w' p M (λ_=>False) most []/\aj M w w'):=by
 obtain⟨h,a,n,c,L,e⟩:=e;refine pQ ⟨p,0,rfl,PS.mk e.at' sM λi j k m=>Ok.mk ⟨rfl,⟨⟨h.1,qO.nil _⟩,none,0,0,[],m,(aV.nil i).mono (λd b=>b.elim) (λd b=>by cases b),rfl,sM,λd b=>b.elim,e.mp,λd b=>(by cases b),λd b=>by rw [k];exact e.dM d b⟩,j.mono λd _ f=>by have f:d=p:=f;exact f▸e.mp⟩⟩
theorem Bs (s:enters ZQ z=true) (d:Nat->World->Prop) (o:Nat->World->Prop) (i:d 0 w)
  (j:∀b g,d b g->Row qE.k_ 96 g E a n L)
  (t:∀b e g,L[b]? =some e->d b g->Calls ZQ z (r++ #[kK e.x e.a e.n e.c]++U) g (Ok λh w'=>(h= .bool true/\o b w')\/(h= .bool false/\d (b+1) w'))):
  Calls ZQ 237 #[.slice a n c,.func (.func z) r U] w (Ok λh w'=>(∃b,b<n/\h= QH (b:Int)/\o b w')\/(h= QH (-1)/\d n w')):=by
 have H:=(j 0 w i).len;have u:=(j 0 w i).d_;unfold aQ at u;refine fR ⟨λp k w'=>∃b:Nat,k=b/\b<=n/\p=n-b/\d b w',⟨_,0,rfl,Qj _,rfl,i⟩,?_⟩;rintro p _ _ q ⟨b,rfl,I,rfl,l⟩;refine al.dec (λJ=>?_) (λK=>?_)
 ·have v:b<L.length:=oM
  have m:L[b]? =some L[b]:=Qq v;generalize L[b]=f at m;obtain⟨e,x,M,y,N,O,A,rfl,-⟩:=(j b q l).el b f m;refine⟨e,x,y,oM,oM,br (es:=aE f.x f.a f.n f.c) (k:=10) (bg _ _ _ _) rfl (λk B=>by rw [Qx];exact A k B) ⟨_,_,_,rfl,s,PC.ok (t b f q m l) ?_⟩⟩;rintro _ P (⟨rfl,C⟩|⟨rfl,F⟩)
  ·exact⟨_,rfl,al.tt rfl (Ok.mk (.inl ⟨b,oM,rfl,C⟩))⟩
  ·exact⟨_,rfl,al.ff rfl ⟨_,oM,b+1,an oM,oM,rfl,F⟩⟩
 ·obtain rfl:b=n:=oM
  exact Ok.mk (.inr ⟨rfl,l⟩)
theorem IW {b:ah} {h i:Nat} {c:Nat} {e:ah} {j:Option Addr} {k l:Nat} (f:w.heap[c]? =some (.cells (aE e j k l).toArray 59 H)):
  Calls ZQ 229 #[kK b d h i,.pointer (some ⟨c,0,none⟩)] w (Ok λm w'=>m= .bool (aO b==aO e)/\ai w w'):=by
 refine pR (PA.mk λn a o g=>⟨_,_,ae g rfl,ae g rfl,_,_,ae (a.get f id) rfl,ae (a.get f id) rfl,NN.eql ⟨_,rfl,Ok.mk ⟨rfl,a⟩⟩⟩)
theorem Ll (m:Row qE.k_ 96 w E a n L) (x:∀b,E b->b<w.heap.size) {o:Nat} {g:ah} {r s:Nat} (t:w.heap[o]? =some (.cells (aE g d r s).toArray 59 H)):
  Calls ZQ 228 #[.slice a n c,.func (.func 229) #[] #[.pointer (some ⟨o,0,none⟩)]] w (Ok λp w'=>p= .bool (L.any λb=>aO b.x==aO g)/\ai w w'):=by
 have y:=m.len;refine fA (PC.ok (Bs (E:=E) kR (λh i=>(∀b∈L.take h,(aO b.x==aO g)=false)/\ai w i) (λh i=>(L.any λb=>aO b.x==aO g)=true/\ai w i) ⟨sM,aj.refl _⟩ (λh i j=>m.af j.2) ?_) ?_)
 ·rintro h b i k ⟨l,e⟩
  refine(IW (e.get t id)).mono ?_;rintro _ z ⟨p,rfl,rfl,q⟩;refine Ok.mk ?_
  cases j:aO b.x==aO g
  ·refine .inr ⟨rfl,λu f=>?_,e.then q⟩
   rw [Qw,k]at f;rcases Q6.1 f with f|f
   ·exact l u f
   ·simp at f;subst f;exact j
  ·exact .inl ⟨rfl,List.any_eq_true.2 ⟨b,QZ k,j⟩,e.then q⟩
 ·rintro _ A (⟨h,B,rfl,v,e⟩|⟨rfl,l,e⟩)
  ·exact⟨_,rfl,Ok.mk ⟨by rw [v,decide_eq_true oM],e⟩⟩
  ·refine⟨_,rfl,Ok.mk ⟨?_,e⟩⟩
   rw [Qz oM]at l;rw [List.any_eq_false.2 λb k=>by rw [l b k];simp]
   rfl
end
end Go.Proofs.YtfchlbaidamodaaGreatDoor

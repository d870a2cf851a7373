import Derived.Test.YtfchlbaidamodaaGreatDoorKa22
set_option linter.all false
set_option maxRecDepth 20000
namespace Go.Proofs.YtfchlbaidamodaaGreatDoor
open Go.ax
theorem Vb (a:Int×Int×Int):jg ZQ 306 [QH a.1,QH a.2.1,QH a.2.2]=true:=kR
theorem KY {a d:Type} [BEq a] [LawfulBEq a] {b:a} {g e:d}:∀c:List (a×d),aJ (aJ c b g) b e=aJ c b e
 |[]=>by simp [aJ]
 |(h,i)::c=>by
  by_cases f:b==h
  ·simp [f,aJ]
  ·simp [f,aJ,KY c]
variable{J:Bool}{d8:Int×Int}{a c:Nat}{d:Option Addr}{b:World}{n:ah}
section
variable {w w':World} {p:Nat} {F T D:Nat->Prop} {V:bk} {q:GJ}
def IA (w:World) (p:Nat) (F D:Nat->Prop) (V:bk) (a:ah) (d:Value) (w':World):Prop:=
 d= .tuple #[.bool (V.try a).1,.agg #[QH (V.try a).2.1.1,QH (V.try a).2.1.2]]/\∃c,cT w' p c (V.try a).2.2/\aj F w w'/\∀b,c b->F b\/D b\/w.heap.size<=b
theorem Tq (c:cT w p F V) (a:ai w w') (b:V.try n=(J,d8,V)):Ok (IA w p F D V n) (.returned (.tuple #[.bool J,.agg #[QH d8.1,QH d8.2]])) w':=by
 refine Ok.mk ⟨by rw [b],F,?_,ai.keep a,λJ d=>.inl d⟩;rw [b];exact c.af a
theorem GK (j:zY b p F V q) (a:Int×Int×Int):∃c d e f,(ay q.l2 a).getD (.slice none 0 0)= .slice c d e/\(ay V.done a).getD []=f/\(aV fZ 59 (q.P F (.done a)) b c d e f):=by
 rcases j.YC.ay a with⟨g,h⟩|⟨m,f,g,h,c,d,e,rfl,l⟩
 ·exact⟨none,0,0,[],by rw [g];rfl,by rw [h];rfl,(aV.nil b).mono (λk i=>i.elim) λk i=>j.aF k i.1⟩
 ·exact⟨c,d,e,f,by rw [g];rfl,by rw [h];rfl,l⟩
theorem Ts (f:cT w p F V) (hT:eM w) (hr:Row aP 8 w D d a n.aK) (E:∀b,D b->b<w.heap.size/\¬F b) (he:n.Ok) (e:((ay V.done (n.bd,n.agg,n.field)).getD []).length<=20000000):
  Calls ZQ 146 #[.pointer (some ⟨p,0,none⟩),kK n d a c] w (Ok (IA w p F D V n)):=by
 have j9:=f;obtain⟨hV,q,f⟩:=f;have h:=f.aF;have B9:=h _ f.lp.1;refine yq (PA.mk λH t7 C0 t8=>PA.mk λo3 o4 C1 t9=>λl0 o5=>?_);have l3:ai o3 l0:=o5.keep;have C2:l0.heap.size=o3.heap.size:=by rw [o5.heap]
 have k0:ai w l0:=(t7.then o4).then l3;have ge:=l3.get (o4.get t8 id) id;have gb:=l3.get t9 id;have P:=f.af k0;refine⟨p,0,rfl,_,_,_,_,_,_,ae P.at' rfl,ae P.at' rfl,_,ae ge rfl,_,ae ge rfl,_,ae ge rfl,_,ae ge rfl,PC.ok (yX (hT.af k0) P.Tp λb e=>P.aF b e.1) ?_⟩;rintro _ Q ⟨rfl,R⟩;have k1:=k0.then R;have C3:=R.size;have c0:=R.get gb id;have c1:=R.get ge id;have l:∀{w1:World} {i:Int×Int} {b:Bool},ai Q w1->V.try n=(b,i,V)->∀w2,bE w1 w2->∀(x S:Int),x=i.1->S=i.2->PS w2 ⟨H.heap.size,0,none⟩ (QH x) λw3=>PS w3 ⟨H.heap.size,0+1,none⟩ (QH S) λw4=>∃(o6 o7:Int),w4.cell? ⟨H.heap.size,0,none⟩=some (QH o6)/\w4.cell? ⟨H.heap.size,0+1,none⟩=some (QH o7)/\Ok (IA w p F D V n) (.returned (.tuple #[.bool b,.agg #[QH o6,QH o7]])) w4:=λ{w1 i b} hk I w2 f9 x S hx m=>by
  have k2:ai w1 w2:=f9.keep;have kk:=(k1.then hk).then k2;have g2:=k2.get (hk.get c0 id) id;subst hx m;refine PS.mk g2 sM λw3 k3 s3 g3=>PS.mk g3 sM λw4 J s4 g4=>⟨_,_,ae g4 rfl,ae g4 rfl,Tq j9 ((kk.new k3 λb e=>.inr oM).new J λb e=>.inr oM) I⟩
 refine⟨_,rfl,al.dw (λd5=>λu0 o8=>?_) (λg6=>?_)⟩
 ·have o9:=(o8.keep (S:=λ_=>False)).get c0 id
  exact⟨_,_,ae o9 rfl,ae o9 rfl,l (i:=(0,0)) (aj.refl _) (by rw [bk.sR,if_pos d5]) u0 o8 _ _ rfl rfl⟩
 obtain⟨c3,t0,t1,C4⟩:=HN hV.decl g6 (hV.len n);obtain⟨y,p0⟩:∃y:Nat,n.bd=y:=⟨n.bd.toNat,oM⟩
 have l4:=c3.f0;have l5:=c3.f1;obtain⟨fi,p1⟩:∃fi:Nat,n.field=fi:=⟨n.field.toNat,oM⟩
 have u1:V.decl.at n.bd=V.decl.types.getD y []:=by
  unfold aR.at;rw [if_pos (bO.2 ⟨t0,oM⟩),p0,Qx]
 obtain⟨tb,qF,es,u2,u3,p2,u4,fa,fn,fc,rfl,z⟩:=(P.af R).Tp.bd.el y V.decl.types[y] sM;have z:Row pT 48 Q (q.P F .Tp) fa fn (V.decl.at n.bd):=by
  rw [u1];have:V.decl.types.getD y []=V.decl.types[y]:=by simp [QQ,show y<V.decl.types.length by omega]
  rw [this];exact z
 have C5:=(P.af R).Tp.bd.len;have g7:=u4 0 dC;have u5:lv.k=1:=rfl;rw [u5,Nat.mul_one]at g7;have u6:=h tb p2.1;refine⟨λT u7 ab ao w'=>u7=0/\ao=0/\ai Q w'/\w'.heap[T]? =some (.cells #[.slice fa fn fc] 130 (0,0))/\w'.heap[ab]? =some (.cells #[QH n.bd,QH n.agg,QH n.field] 306 (0,0))/\Q.heap.size<=T/\Q.heap.size<=ab,?_,?_⟩
 ·intro K p3
  have d6:ai Q K:=p3.keep;have C6:K.heap.size=Q.heap.size:=by rw [p3.heap]
  have p4:=(P.af R).af d6;have c4:=d6.get c1 id;refine⟨λb=>K.heap.size<=b,p,0,rfl,oM,_,_,_,ae p4.at' rfl,by show¬K.heap.size<=w.heap.size;omega,_,ae c4 rfl,tb,qF,u2,t0,by omega,by show¬K.heap.size<=tb;omega,fa,fn,fc,?_,by show¬K.heap.size<=w.heap.size;omega,_,ae c4 rfl,by show¬K.heap.size<=w.heap.size;omega,_,ae c4 rfl,by show¬K.heap.size<=w.heap.size;omega,_,ae c4 rfl,?_,?_⟩
  ·rw [p0,Qx]
   exact(d6.cell (a:=⟨tb,qF+y,none⟩) u3 id).trans g7
  ·refine PA.mk λu9 d7 v0 l6=>⟨ai.keep d7,PA.mk λv1 U v2 l7=>⟨ai.keep U,PS.mk (U.get l6 id) sM λv3 W v4 l8=>⟨W.mono λb _ n=>oM,aD (Vb (n.bd,n.agg,n.field)) (W.get l7 oM) rfl λv5 X v6 l9=>⟨X.mono λb _ n=>oM,rfl,rfl,?_,X.get l8 oM,l9,oM,oM⟩⟩⟩⟩
   exact(((d6.then d7).then U).new W λb e=>.inr oM).new X λb e=>.inr oM
  ·refine PA.mk λu9 d7 v0 l6=>⟨ai.keep d7,PA.mk λv1 U v2 l7=>⟨ai.keep U,PS.mk l7 sM λv3 W v4 l8=>⟨W.mono λb _ n=>oM,aD (Vb (n.bd,n.agg,n.field)) (W.get (U.get l6 id) oM) rfl λv5 X v6 l9=>⟨X.mono λb _ n=>oM,rfl,rfl,?_,X.get l8 oM,l9,oM,oM⟩⟩⟩⟩
   exact(((d6.then d7).then U).new W λb e=>.inr oM).new X λb e=>.inr oM
 rintro T _ ab _ _ p5 ⟨rfl,rfl,p6,p7,g8,y6,C7⟩;have k2:=k1.then p6;have d8:=f.af k2;obtain⟨da,dn,dc,k,v7,m0,p8⟩:=GK d8 (n.bd,n.agg,n.field);rw [m0]at e;refine⟨p,0,rfl,_,ae d8.at' rfl,aw (cs:=[QH n.bd,QH n.agg,QH n.field]) (Vb (n.bd,n.agg,n.field)) g8 ⟨da,dn,dc,λb1=>?_,λp9 v8=>?_⟩⟩
 ·have:=eY Zo Zf (d8.dn.af (aj.drewN p5 b1)) (n.bd,n.agg,n.field) false
  rw [v7]at this;exact this
 have f7:ai p5 p9:=v8.keep;have C8:=p8.len dC;have m1:=(p8.af f7).row (bytes:=96) dC (by unfold aQ;omega);refine⟨λb1 a5 w'=>∃j:Nat,a5=j/\j<=dn/\b1=dn-j/\(∀x∈k.take j,mU ((V.decl.at n.bd).getD n.field.toNat ⟨0,0,false,[]⟩) x n=false)/\ai p9 w',⟨_,0,rfl,Qj _,rfl,sM,aj.refl _⟩,?_⟩;rintro b1 _ _ m2 ⟨j,rfl,hj,rfl,g0,d9⟩;have k3:=(p6.then f7).then d9;have g9:=d9.get (f7.get p7 id) id;have q0:=d9.get (f7.get g8 id) id;have h0:=k3.get c1 id;have c5:∀{r:Bool×(Int×Int)×bk},(match k.find? λx=>mU ((V.decl.at n.bd).getD n.field.toNat ⟨0,0,false,[]⟩) x n with
  |some x=>(true,aO x,V)
  |none=>if xL (V.decl.at n.bd) (V.cellsOf n) n.field n.op n.arg≠0 then(true,(0,0),V)else
   (false,(0,0),{V with fj:=aJ V.fj (n.bd,n.agg) ⟨pH (((ay V.fj (n.bd,n.agg)).getD ⟨0,[]⟩).version+1),TO (V.decl.at n.bd) (V.cellsOf n) n.field n.op n.arg⟩,done:=aJ V.done (n.bd,n.agg,n.field) (k++[n])}))=r->V.try n=r:=λ{r} hr=>by
  rw [bk.sR,if_neg (by simpa using g6),m0];exact hr
 refine al.dec (λC9=>?_) (λD0=>?_)
 ·have g1:j<k.length:=oM
  obtain⟨db,b5,es,v9,D1,D2,q1,xa,xn,xc,rfl,q2,q3⟩:=(m1.af d9).el j k[j] (Qq g1);have g5:k[j]? =some k[j]:=Qq g1;generalize k[j]=x at q1 q2 q3 g5;refine⟨db,b5,v9,oM,oM,br (es:=aE x xa xn xc) (k:=10) (bg x xa xn xc) rfl (λa5 I=>q1 a5 I) (PA.mk λD3 x0 D4 x1=>aD (bg x xa xn xc) x1 rfl λq4 x2 D5 x3=>λx4 x5=>?_)⟩;have m3:ai m2 q4:=x0.new x2 λb e=>.inr oM;have q5:ai q4 x4:=x5.keep;have J:=m3.then q5;have e0:=k3.then J;obtain⟨fb,fo,b6,b7,b8,x6,D6,D7,h1,h2,h3,h4,D8⟩:=Hc (z.af e0) (i:=fi) (by rw [z.len];omega);have h6:=q5.get x3 id;refine⟨_,_,_,ae (J.get g9 id) rfl,_,ae (J.get h0 id) rfl,fb,fo,x6,l4,by rw [z.len];exact l5,?_⟩;rw [p1,Qx];refine br (es:=eg ((V.decl.at n.bd).getD fi ⟨0,0,false,[]⟩) b6 b7 b8) (k:=4) (fD _ _ _ _) rfl (λa5 I=>?_) (aw (bg x xa xn xc) h6 (aw (bg n d a c) (J.get h0 id) (PC.ok (Cm (q2.af J) ((hr.af k1).af e0)) ?_)))
  ·match a5,I with
   |0,_=>exact h1
   |1,_=>exact h2
   |2,_=>exact h3
   |3,_=>exact h4
  rintro _ D9 ⟨rfl,m4⟩;have x7:(V.decl.at n.bd).getD fi ⟨0,0,false,[]⟩=(V.decl.at n.bd).getD n.field.toNat ⟨0,0,false,[]⟩:=by rw [p1,Qx]
  rw [x7];refine⟨_,rfl,al.mk (λhv=>λx8 q6=>?_) (λhv=>⟨_,?_,j+1,an oM,oM,rfl,λS m=>?_,(d9.then J).then m4⟩)⟩
  ·have q7:=(q6.keep (S:=λ_=>False)).get (m4.get h6 id) id
   refine⟨_,_,ae q7 rfl,ae q7 rfl,l (e0.then m4) (i:=aO x) (c5 ?_) x8 q6 _ _ rfl rfl⟩;have hf:k.find? (λx=>mU ((V.decl.at n.bd).getD n.field.toNat ⟨0,0,false,[]⟩) x n)=some x:=by
    rw [List.find?_eq_some_iff_append];refine⟨hv,k.take j,k.drop (j+1),?_,λS m=>by rw [g0 S m];rfl⟩;rw [<-List.take_append_drop j k]
    congr 1
    ·rw [List.take_append_drop]
    ·rw [List.take_append_drop,X4 g1]
     congr 1
     rw [Qq g1]at g5;exact XJ g5
   rw [hf]
  ·omega
  ·rw [Qw,g5]at m
   rcases Q6.1 m with m|m
   ·exact g0 S m
   ·simp at m;subst m;exact hv
 ·have E0:j=dn:=oM
  rw [Qz oM]at g0;have m5:k.find? (λx=>mU ((V.decl.at n.bd).getD n.field.toNat ⟨0,0,false,[]⟩) x n)=none:=List.find?_eq_none.2 λx hx=>by rw [g0 x hx];simp
  rw [m5]at c5;intro Y h7;have c7:ai m2 Y:=h7.keep;have y7:Y.heap.size=m2.heap.size:=by rw [h7.heap]
  have k5:=k3.then c7;have e8:=k1.then k5;have z5:=k5.size;have z3:=k3.size;have b9:=f.af e8;have b2:=c7.get q0 id;have c2:=c7.get g9 id;have m6:=k5.get c1 id;have E1:=c7.size;have y8:=aC b2;have y9:=aC c2;obtain⟨t,b,o,s,A,g,Z,h5,k4,d3⟩:∃(t:mV) (b:Bool) (o:Option Addr) (s A:Nat),(ay q.l1 (n.bd,n.agg)).getD (.agg #[QH 0,.slice none 0 0])= .agg #[QH t.version,.slice o s A]/\(ay q.l1 (n.bd,n.agg)).isSome=b/\(ay V.fj (n.bd,n.agg)).getD IB=t/\(b=true->V.cellsOf n=t.cells)/\Row fL 32 Y (q.P F .Yj) o s t.cells/\(b=false->V.cellsOf n=dG (V.decl.at n.bd)):=by
   unfold bk.cellsOf;rcases b9.Yk.ay (n.bd,n.agg)with⟨g,Z⟩|⟨f0,t,g,Z,o,s,A,rfl,hr⟩
   ·exact⟨IB,false,none,0,0,by rw [g];rfl,by rw [g];rfl,by rw [Z];rfl,λf=>(by cases f),Row.nil _ _,λ_=>by rw [Z]⟩
   ·exact⟨t,true,o,s,A,by rw [g];rfl,by rw [g];rfl,by rw [Z];rfl,λ_=>by rw [Z],hr,λf=>(by cases f)⟩
  obtain⟨d3,l1⟩:=d3;refine⟨λb=>b=Y.heap.size,p,0,rfl,oM,_,ae b9.at' rfl,oM,_,_,ae b2 rfl,ae b2 rfl,t.version,o,s,A,b,λw' hk=>?_,PA.mk λz0 h8 z2 q8=>⟨ai.keep h8,PS.mk q8 sM λz4 h9 z7 q9=>PS.mk q9 sM λr0 i0 z8 i1=>⟨h9.then i0,?_⟩⟩⟩
  ·have:=eY Zg WT (b9.st.keep hk (by have:=h _ f.l1.1;omega)) (n.bd,n.agg) true
   rw [g,Z]at this;exact this
  have k6:ai Y r0:=(h8.new h9 λb e=>.inr oM).new i0 λb e=>.inr oM;refine⟨λw'=>ai Y w'/\∃o s A Dc,w'.heap[Y.heap.size]? =some (.cells #[QH t.version,.slice o s A] 42 (0,0))/\Row fL 32 w' Dc o s (V.cellsOf n)/\∀b,Dc b->b<w'.heap.size,?_,?_⟩
  ·refine al.not (al.mk (λx9=>⟨k6,o,s,A,_,i1,by rw [k4 x9];exact d3.af k6,λb e=>by have:=h b e.1;have:=k6.size;have:=e8.size;omega⟩) (λy0=>⟨_,_,_,ae (k6.get c2 id) rfl,PC.ok (Jd (t:=V.decl.at n.bd) rfl (z.len) (by rw [z.len];omega)) ?_⟩))
   rintro _ z9 ⟨l2,n6,m7,G6,rfl,r3,k7,y1⟩;have z6:=k6.size;refine⟨_,_,_,rfl,PS.mk (k7.get i1 id) sM λA0 i2 A1 r4=>⟨(k6.then k7).new i2 λb e=>.inr oM,l2,n6,m7,G6,r4,?_,λb e=>by have:=r3.aF b e;omega⟩⟩;rw [l1 y0];exact(r3.keep i2 λb e n=>by have:=y1 b e;omega).row dC (by unfold aQ dG;simp;omega)
  rintro _ A2 ⟨a3,o,s,A,Dc,f1,d3,y2⟩;have A3:=a3.size;have f2:=k5.then a3;have f3:=a3.get c2 id;have m8:=a3.get b2 id;have c6:=a3.get m6 id;refine⟨_,_,_,ae f3 rfl,_,_,_,ae f1 rfl,_,ae c6 rfl,_,ae c6 rfl,_,ae c6 rfl,PC.ok (Jc c3 (z.af f2) d3) ?_⟩;rintro _ r5 ⟨rfl,a0⟩;have k8:=f2.then a0;refine⟨_,rfl,al.dw (λd5=>λr6 i3=>?_) (λy3=>λc8 r7=>?_)⟩
  ·have i4:=(i3.keep (S:=λ_=>False)).get (k8.get c0 id) id
   refine⟨_,_,ae i4 rfl,ae i4 rfl,l (i:=(0,0)) k8 (c5 ?_) r6 i3 _ _ rfl rfl⟩;simp only;rw [if_pos d5]
  have f4:xL (V.decl.at n.bd) (V.cellsOf n) n.field n.op n.arg=0:=y3;have a1:ai r5 c8:=r7.keep;have k9:=k8.then a1;have m9:=(a3.then a0).then a1;have d2:=k1.then k9;have n0:=f.af d2;have b3:=k9.get c1 id;have e1:=(a0.then a1).get m8 id;have n1:=(a0.then a1).get f3 id;have f6:=(a0.then a1).get f1 id;have E2:=h _ f.l1.1;have E3:=h _ f.l2.1;have A4:=m9.size;have y4:=d2.size;have e7:¬p=q.r1:=λn=>by have g:=f.lp.2;rw [n,f.l1.2]at g;cases g
  have i5:¬p=q.r2:=λn=>by have g:=f.lp.2;rw [n,f.l2.2]at g;cases g
  have i6:¬q.r1=q.r2:=λn=>by have g:=f.l1.2;rw [n,f.l2.2]at g;cases g
  refine⟨λb=>b=q.r1,p,0,rfl,e7,_,ae n0.at' rfl,oM,_,_,ae e1 rfl,ae e1 rfl,oM,_,ae f6 rfl,_,_,_,ae n1 rfl,_,_,_,ae f6 rfl,_,ae b3 rfl,_,ae b3 rfl,_,ae b3 rfl,PC.ok (TQ c3 f4 he.arg oM (z.af k9) (λb e=>by have:=h b e.1;omega) (d3.af (a0.then a1)) λb e=>by have:=y2 b e;have:=(a0.then a1).size;omega) ?_⟩;rintro _ a6 ⟨r8,r9,s0,G,rfl,i7,a4,hG⟩;have e2:=d2.then a4;have u:=f.af e2;have A5:=a4.size;refine⟨_,_,_,rfl,ai.keep a4,jz (enc:=pO) (k:=(n.bd,n.agg)) Zg WT u.st λi8 s1 i9 A6=>⟨i9,λc9 j0=>?_⟩⟩;have j1:ai i8 c9:=j0.keep;have A7:c9.heap.size=i8.heap.size:=by rw [j0.heap]
  have C:aj (·=q.r1) a6 c9:=i9.af j1;have key:∀b,F b/\q.cls b= .done (n.bd,n.agg,n.field)->b≠p/\b≠q.r1/\b≠q.r2:=λb e=>
   ⟨λn=>(by have g:=f.lp.2;rw [<-n,e.2]at g;cases g),λn=>(by have g:=f.l1.2;rw [<-n,e.2]at g;cases g),λn=>(by have g:=f.l2.2;rw [<-n,e.2]at g;cases g)⟩
  have n3:=C.get u.at' e7;have n4:=C.get (a4.get e1 id) oM;have v:=C.get (a4.get b3 id) oM;have n5:=u.dn.keep C (λn=>i6 n.symm);have n8:=C.get (a4.get (k9.get c0 id) id) oM;obtain⟨a2,a7,e3,n7,s2,j2,j3⟩:=GK u (n.bd,n.agg,n.field);rw [m0]at j2;subst j2;have n9:=j3.keep C λb e n=>(key b e).2.1 n;have A8:=C.size;refine⟨λb=>b=q.r2\/(F b/\q.cls b= .done (n.bd,n.agg,n.field)),p,0,rfl,λB=>B.elim i5 λB=>(key p B).1 rfl,_,ae n3 rfl,λB=>B.elim (λn=>oM) λB=>by have:=h _ B.1;omega,
   aw (cs:=[QH n.bd,QH n.agg,QH n.field]) (Vb (n.bd,n.agg,n.field)) n4 ⟨_,_,_,_,_,_,_,_,_,_,_,_,ae v rfl,ae v rfl,ae v rfl,ae v rfl,ae v rfl,ae v rfl,ae v rfl,ae v rfl,ae v rfl,ae v rfl,
   PA.mk λA9 a8 B0 s5=>⟨ai.keep a8,Ia (enc:=D_) (k:=(n.bd,n.agg,n.field)) Zo Zf (n5.af a8) λB1 x s6 o0 a9 B2=>⟨a2,a7,e3,x,by rw [s2],a9.mono λb _ n=>.inl n,?_⟩⟩⟩⟩
  have o1:=(n9.af a8).keep a9 λb e n=>(key b e).2.2 n;have s7:=a9.get s5 oM;have b4:∀b,aI a2=some b->F b/\q.cls b= .done (n.bd,n.agg,n.field):=λb e=>j3.self b e;have y5:=(((hr.af e2).keep C λb e n=>(E b e).2 (n▸f.l1.1)).af a8).keep a9 λb e n=>(E b e).2 (n▸f.l2.1);refine fh (c:=fZ) o1 Eg s7 (D:=D) (x:=n) ⟨d,a,c,rfl,y5,he⟩ (λb e=>⟨by have:=(E b e).1;omega,λee=>(E b e).2 (b4 b ee).1⟩) (by unfold aQ;omega) (by unfold maxLen;omega) λa' L s8 F2 f8 b0 o2=>⟨_,_,_,rfl,b0.mono λb _ e=>.inr (b4 b e),?_⟩
  have s9:¬aI a2=some q.r2:=λee=>(key _ (b4 _ ee)).2.2 rfl;refine Dq Zf (s6.keep b0 s9) (o0.keep b0 s9) λj4 t2 e9 B3=>⟨e9.mono λb _ n=>.inl n,λd0 j5=>?_⟩
  have f5:ai j4 d0:=j5.keep;have B4:d0.heap.size=j4.heap.size:=by rw [j5.heap]
  have B5:=b0.size;have kb:aj (λb=>b=q.r2\/(F b/\q.cls b= .done (n.bd,n.agg,n.field))) c9 d0:=((((ai.keep a8).then (a9.mono λb _ n=>.inl n)).then (b0.mono λb _ e=>.inr (b4 b e))).then (e9.mono λb _ n=>.inl n)).then (ai.keep f5);have e4:=kb.get n8 (λB=>B.elim (λn=>oM) λB=>by have:=h _ B.1;omega);refine⟨_,_,ae e4 rfl,ae e4 rfl,PS.mk e4 sM λB6 j6 B7 t3=>PS.mk t3 sM λd1 j7 B8 j8=>⟨_,_,ae j8 rfl,ae j8 rfl,?_⟩⟩;have M:aj (λb=>b=q.r1\/b=q.r2\/(F b/\q.cls b= .done (n.bd,n.agg,n.field))\/b=H.heap.size) a6 d1:=
   ((C.mono λb _ n=>.inl n).then (kb.mono λb _ e=>e.elim (λn=>.inr (.inl n)) λe=>.inr (.inr (.inl e)))).then ((j6.mono λb _ n=>.inr (.inr (.inr n))).then (j7.mono λb _ n=>.inr (.inr (.inr n))))
  have kc:aj (·=H.heap.size) d0 d1:=j6.then j7;have zT:=M.size;have I:=c5 (r:=(false,(0,0),{V with fj:=aJ V.fj (n.bd,n.agg) ⟨pH (((ay V.fj (n.bd,n.agg)).getD ⟨0,[]⟩).version+1),TO (V.decl.at n.bd) (V.cellsOf n) n.field n.op n.arg⟩,done:=aJ V.done (n.bd,n.agg,n.field) (k++[n])})) (by simp only;rw [if_neg (by simpa using f4)]);have t4:=(bk.Tt hV n).1;refine Ok.mk ⟨by rw [I],λb=>b<d1.heap.size/\(F b\/D b\/w.heap.size<=b),?_,?_,λb e=>e.2⟩
  rotate_left
  ·exact(ai.keep e2).trans M (λ_ _ f=>f) λb e hT=>by
    rcases hT with rfl|rfl|hT|rfl
    ·exact f.l1.1
    ·exact f.l2.1
    ·exact hT.1
    ·omega
  rw [I]at t4⊢;have t5:∀b,G b->c8.heap.size<=b/\b<a6.heap.size:=λb e=>⟨hG b e,i7.aF b e⟩
  have N:∀b,F b->b<d1.heap.size:=λb e=>by have:=h b e;omega
  classical
  have O:∀b,F b->(if F b then q.cls b else if c8.heap.size<=b/\b<a6.heap.size then KX.Yj else KX.done (n.bd,n.agg,n.field))=q.cls b:=λb e=>if_pos e;refine⟨t4,⟨q.ta,q.tn,q.tc,q.pa,q.pn,q.pc,q.ea,q.en,q.ec,q.r1,q.r2,aJ q.l1 (n.bd,n.agg) (.agg #[QH (pH (t.version+1)),.slice r8 r9 s0]),aJ q.l2 (n.bd,n.agg,n.field) (.slice a' (a7+1) L),λb=>if F b then q.cls b else if c8.heap.size<=b/\b<a6.heap.size then KX.Yj else KX.done (n.bd,n.agg,n.field)⟩,?_,?_,?_,?_,?_,?_,?_,λb e=>e.1,⟨⟨N _ f.lp.1,.inl f.lp.1⟩,(O _ f.lp.1).trans f.lp.2⟩,⟨⟨N _ f.l1.1,.inl f.l1.1⟩,(O _ f.l1.1).trans f.l1.2⟩,⟨⟨N _ f.l2.1,.inl f.l2.1⟩,(O _ f.l2.1).trans f.l2.2⟩⟩
  ·exact M.get u.at' λB=>by
    rcases B with B|B|B|B
    ·exact e7 B
    ·exact i5 B
    ·exact(key _ B).1 rfl
    ·omega
  ·refine(u.Tp.keep M λb e B=>?_).mono λb e=>⟨⟨N b e.1,.inl e.1⟩,(O b e.1).trans e.2⟩
   have d4:=h b e.1;rcases B with rfl|rfl|B|B
   ·have:=f.l1.2;rw [e.2]at this;cases this
   ·have:=f.l2.2;rw [e.2]at this;cases this
   ·have:=B.2;rw [e.2]at this;cases this
   ·omega
  ·refine(u.QU.keep M λb e B=>?_).mono (λb e=>⟨⟨N b e.1,.inl e.1⟩,(O b e.1).trans e.2⟩) λb e=>e.1.1
   have d4:=h b e.1;rcases B with rfl|rfl|B|B
   ·have:=f.l1.2;rw [e.2]at this;cases this
   ·have:=f.l2.2;rw [e.2]at this;cases this
   ·have:=B.2;rw [e.2]at this;cases this
   ·omega
  ·exact((s1.af j1).keep kb λB=>B.elim i6 λB=>(key _ B).2.1 rfl).keep kc oM
  ·refine fJ.aJ ?_ ?_
   ·refine⟨r8,r9,s0,by rw [h5],?_⟩
    refine((i7.row (bytes:=32) dC ?_).keep M λb e B=>?_).mono λb e=>?_
    ·rw [OS,hV.len];unfold aQ;omega
    ·have d4:=t5 b e
     rcases B with rfl|rfl|B|B
     ·omega
     ·omega
     ·have:=h b B.1;omega
     ·omega
    ·have d4:=t5 b e
     refine⟨⟨oM,.inr (.inr oM)⟩,?_⟩;show(if F b then _ else _)=_;rw [if_neg (λhf=>by have:=h b hf;omega),if_pos d4]
   ·refine u.Yk.mono λf0 r1 hu=>?_
    obtain⟨e5,n2,e6,rfl,hu⟩:=hu;refine⟨e5,n2,e6,rfl,(hu.keep M λb e B=>?_).mono λb e=>⟨⟨N b e.1,.inl e.1⟩,(O b e.1).trans e.2⟩⟩;have d4:=h b e.1;rcases B with rfl|rfl|B|B
    ·have:=f.l1.2;rw [e.2]at this;cases this
    ·have:=f.l2.2;rw [e.2]at this;cases this
    ·have:=B.2;rw [e.2]at this;cases this
    ·omega
  ·have:=(t2.af f5).keep kc (by show¬q.r2=H.heap.size;omega)
   rw [KY]at this;exact this
  ·refine pt.aJ ?_ u.YC ?_ u.dn.tidy
   ·refine⟨a',_,L,rfl,?_⟩
    have t6:∀b,F2 b->b<s8.heap.size/\b≠H.heap.size:=λb e=>by
     refine⟨f8.aF b e,λn=>?_⟩;rcases o2 b e with g|g|g
     ·have:=h b g.1;omega
     ·have:=(E b g).1;omega
     ·omega
    refine((f8.keep e9 λb e n=>?_).af f5|>.keep kc λb e n=>(t6 b e).2 n).mono (λb e=>?_) λb e=>e.1.1
    ·rcases o2 b e with g|g|g
     ·exact(key b g).2.2 n
     ·exact(E b g).2 (n▸f.l2.1)
     ·omega
    ·have:=(t6 b e).1
     have hz:=kc.size;rcases o2 b e with g|g|g
     ·exact⟨⟨N b g.1,.inl g.1⟩,(O b g.1).trans g.2⟩
     ·refine⟨⟨oM,.inr (.inl g)⟩,?_⟩
      show(if F b then _ else _)=_;rw [if_neg (E b g).2,if_neg (by have:=(E b g).1;omega)]
     ·refine⟨⟨oM,.inr (.inr oM)⟩,?_⟩
      show(if F b then _ else _)=_;rw [if_neg (λhf=>by have:=h b hf;omega),if_neg oM]
   ·intro r2 f0 r1 d5 hu
    obtain⟨e5,n2,e6,rfl,hu⟩:=hu;refine⟨e5,n2,e6,rfl,(hu.keep M λb e B=>?_).mono (λb e=>⟨⟨N b e.1,.inl e.1⟩,(O b e.1).trans e.2⟩) λb e=>e.1.1⟩;have d4:=h b e.1;rcases B with rfl|rfl|B|B
    ·have:=f.l1.2;rw [e.2]at this;cases this
    ·have:=f.l2.2;rw [e.2]at this;cases this
    ·have:=B.2;rw [e.2]at this
     simp only [KX.done.injEq]at this;exact d5 this
    ·omega
end
variable{C:List ah}{f:Nat->Prop}{L:aR}
section
variable {w w':World} {p:Nat} {F T D:Nat->Prop} {V:bk} {q:GJ}
abbrev GP (a:df) (b:Option Addr) (c d:Nat):Value:=.agg (iG a b c d).toArray
theorem IE (M:cT w p F V) (hT:eM w) (hr:Row aP 8 w D d a n.aK) (r:∀b,D b->b<w.heap.size/\¬F b) (he:n.Ok) (e:((ay V.done (n.bd,n.agg,n.field)).getD []).length<=20000000) (N:V.entries.length<=20000000):
  Calls ZQ 79 #[.pointer (some ⟨p,0,none⟩),kK n d a c] w (Ok λW w'=>∃d a c G,W=GP (V.add n).1 d a c/\Row aP 8 w' G d a n.aK/\∃X,cT w' p X (V.add n).2/\de F w X w'/\∀b,G b->w.heap.size<=b/\b<w'.heap.size/\¬X b):=by
 have Y:=M.aF;have g9:=Y _ M.self;refine Am (PA.mk λu e5 h3 d0=>PA.mk λh4 Z h5 e6=>?_);have k0:=e5.then Z;refine aw (bg n d a c) (Z.get d0 id) (PC.ok (oV (hr.af k0) λb e=>by have:=(r b e).1;omega) ?_);rintro _ h6 ⟨a6,n1,c1,G1,rfl,e7,v,O⟩;have a0:=k0.then O;refine cu (sW n a6 n1 c1) ⟨rfl,PC.ok (Ts (M.af a0) (hT.af a0) e7 (λb e=>⟨(v b e).2,λk=>by have:=Y b k;have:=v b e;omega⟩) he e) ?_⟩;rintro _ x ⟨rfl,g,b8,P,Q⟩;have h7:=O.size;have h8:=P.size;have b0:∀b,g b->F b\/w.heap.size<=b:=λb e=>by
  rcases Q b e with f|f|f
  ·exact .inl f
  ·have:=v b f;exact .inr oM
  ·exact .inr oM
 have b1:aj F w x:=(ai.keep a0).then P;have R:∀{b:Nat},w.heap.size<=b->¬F b:=λ{b} e k=>by have:=Y b k;omega
 have d1:=P.get (O.get (Z.get d0 id) id) (R (Q4 _));have d2:=P.get (O.get e6 id) (R oM);refine⟨_,_,_,rfl,PA.mk λh9 e8 i0 e9=>PS.mk e9 sM λi1 f2 i2 f3=>PS.mk f3 sM λi3 f4 i4 f5=>λy b9=>?_⟩;have B:ai x y:=((e8.new f2 λb e=>.inr oM).new f4 λb e=>.inr oM).then b9.keep;have i5:y.heap.size=x.heap.size+1:=by rw [b9.heap];omega
 have a1:y.heap[x.heap.size]? =some (.cells #[QH (V.try n).2.1.1,QH (V.try n).2.1.2] 39 (0,0)):=(b9.keep (S:=λ_=>False)).get f5 id;have b2:=B.get d1 id;obtain⟨g8,q,h⟩:=b8.af B;have c0:=b8.self;have z:=b8.aF;have b3:=((hr.keep b1 λb e=>(r b e).2).af B)
 have a4:(V.try n).2.2.entries=V.entries:=by
  rw [bk.sR];split;rfl;split;rfl;split<;>rfl
 have i6:=h.QU.len dC;have C:∀b,aI q.ea=some b->g b/\q.cls b= .QU:=λb e=>h.QU.self b e;have E:¬aI q.ea=some p:=λl=>by have f:=(C p l).2;rw [h.lp.2]at f;cases f
 refine⟨λb=>aI q.ea=some b,p,0,rfl,E,_,_,_,ae h.at' rfl,aw (bg n d a c) b2 ⟨λl=>by have:=z _ (C _ l).1;omega,_,_,ae a1 rfl,ae a1 rfl,PC.ok (oV b3 λb e=>by have:=(r b e).1;omega) ?_⟩⟩;rintro _ i7 ⟨a7,n2,c2,G2,rfl,f7,A,c4⟩;have i8:=c4.size;refine⟨_,_,_,_,_,_,_,_,_,_,_,_,rfl,ai.keep c4,PA.mk λd3 c5 i9 g0=>⟨ai.keep c5,?_⟩⟩;have a2:=c4.then c5;refine fh (c:=Ab) (x:=⟨n,(V.try n).1,(V.try n).2.1⟩) (h.QU.af a2) Tm g0 (D:=G2) ⟨a7,n2,c2,rfl,f7.af c5,he⟩ (λb e=>⟨by have:=A b e;omega,λl=>by have:=z _ (C _ l).1;have:=A b e;omega⟩) (by rw [a4];unfold aQ;omega) (by rw [a4];unfold maxLen;omega) λa' H d4 F2 b4 c6 c7=>⟨_,_,_,rfl,p,0,rfl,?_⟩
 have j0:=c6.size;have d5:=c6.get ((h.af a2).at') E;refine PS.mk d5 sM λI g1 j1 g2=>λs d6=>?_;have d7:ai I s:=d6.keep;have j2:s.heap.size=I.heap.size:=by rw [d6.heap]
 have a5:aj (·=p) d4 s:=g1.af d7;have k5:aj (λb=>aI q.ea=some b\/b=p) y s:=((ai.keep a2).then (c6.mono λb _ e=>.inl e)).then (a5.mono λb _ e=>.inr e);have J:aj g y s:=k5.mono λb _ e=>e.elim (λf=>(C b f).1) λf=>f▸c0;have c8:∀{b:Nat},x.heap.size<=b->¬g b:=λ{b} e k=>by have:=z b k;omega
 have g3:¬g w.heap.size:=λk=>by
  rcases Q _ k with f|f|f
  ·exact R (Q4 _) f
  ·have:=v _ f;omega
  ·omega
 have c9:¬g u.heap.size:=λk=>by
  rcases Q _ k with f|f|f
  ·exact R oM f
  ·have:=v _ f;omega
  ·omega
 have d8:=J.get b2 g3;have d9:=J.get (B.get d2 id) c9;have b5:=J.get a1 (c8 (Q4 _));have e0:∀b,D b->¬g b:=λb e k=>by
  rcases Q _ k with f|f|f
  ·exact(r b e).2 f
  ·have:=v _ f;have:=(r b e).1;omega
  ·have:=(r b e).1;omega
 have e1:=b3.keep J e0;have j3:=k5.size;refine⟨λb=>b=u.heap.size,aw (bg n d a c) d8 ⟨oM,_,_,ae b5 rfl,ae b5 rfl,PC.ok (oV e1 λb e=>by have:=(r b e).1;omega) ?_⟩⟩;rintro _ j4 ⟨a3,n3,c3,G3,rfl,g4,e2,K⟩;have j5:=K.size;refine⟨_,_,_,_,_,_,_,_,_,_,_,_,rfl,ai.keep K,aD (mg ⟨n,(V.try n).1,(V.try n).2.1⟩ a3 n3 c3) (K.get d9 id) rfl λe3 S j6 g5=>⟨S,aw (mg ⟨n,(V.try n).1,(V.try n).2.1⟩ a3 n3 c3) g5 (Ok.mk ⟨a3,n3,c3,G3,rfl,g4.keep S λb e l=>by have:=e2 b e;omega,λb=>b<I.heap.size/\(g b\/G2 b\/d3.heap.size<=b),?_,⟨?_,?_⟩,?_⟩)⟩⟩
 ·have g6:=(bk.Bn (by
   have:V.OK:=M.1;exact this) n).1
  have T:aj (λb=>b=u.heap.size) s e3:=(ai.keep K).then S;have zc:=T.size;have g7:∀b,g b->b<I.heap.size:=λb e=>by have:=z b e;omega
  classical
  have e4:∀b,g b->(if g b then q.cls b else KX.QU)=q.cls b:=λb e=>if_pos e;have L:aj (λb=>(aI q.ea=some b\/b=p)\/b=u.heap.size) y e3:=(k5.mono λb _ e=>.inl e).then (T.mono λb _ e=>.inr e);have i:∀(o:KX) b,o≠.QU->o≠.self->g b/\q.cls b=o->¬((aI q.ea=some b\/b=p)\/b=u.heap.size):=λo b f U e m=>by
   rcases m with(m|m)|m
   ·exact f (e.2.symm.trans (C b m).2)
   ·subst m;exact U (e.2.symm.trans h.lp.2)
   ·subst m;exact c9 e.1
  have j:∀(o:KX) b,g b/\q.cls b=o->((b<I.heap.size/\(g b\/G2 b\/d3.heap.size<=b))/\(if g b then q.cls b else KX.QU)=o):=λo b e=>⟨⟨g7 b e.1,.inl e.1⟩,(e4 b e.1).trans e.2⟩
  refine⟨g6,⟨q.ta,q.tn,q.tc,q.pa,q.pn,q.pc,a',q.en+1,H,q.r1,q.r2,q.l1,q.l2,λb=>if g b then q.cls b else KX.QU⟩,?_,?_,?_,?_,?_,?_,?_,λb e=>by have:=e.1;omega,j _ _ h.lp,j _ _ h.l1,j _ _ h.l2⟩
  ·exact T.get (d7.get g2 id) oM
  ·exact(h.Tp.keep L λb e=>i _ b sM sM e).mono (j _)
  ·have N:∀b,F2 b->b<d4.heap.size/\b≠u.heap.size/\b≠p:=λb e=>by
    refine⟨b4.aF b e,λl=>?_,λl=>?_⟩
    ·rcases c7 b e with f|f|f
     ·exact c9 (l▸f.1)
     ·have:=A b f;omega
     ·omega
    ·rcases c7 b e with f|f|f
     ·have U:=f.2;rw [l,h.lp.2]at U;cases U
     ·have:=A b f;have:=z p c0;omega
     ·have:=z p c0;omega
   have:(V.add n).2.entries=(V.try n).2.2.entries++[⟨n,(V.try n).1,(V.try n).2.1⟩]:=rfl;rw [this];refine((b4.keep a5 λb e=>(N b e).2.2).keep T λb e=>(N b e).2.1).mono (λb e=>?_) λb e=>by have:=e.1.1;omega
   have h0:=(N b e).1;rcases c7 b e with f|f|f
   ·exact j _ b f
   ·have:=A b f
    refine⟨⟨oM,.inr (.inl f)⟩,?_⟩;show(if g b then _ else _)=_;rw [if_neg (c8 oM)]
   ·refine⟨⟨oM,.inr (.inr f)⟩,?_⟩
    show(if g b then _ else _)=_;rw [if_neg (c8 oM)]
  ·exact h.st.keep L (i _ _ sM sM h.l1)
  ·refine h.Yk.mono λW a8 t=>?_
   obtain⟨x1,x2,x3,rfl,t⟩:=t;exact⟨x1,x2,x3,rfl,(t.keep L λb e=>i _ b sM sM e).mono (j _)⟩
  ·exact h.dn.keep L (i _ _ sM sM h.l2)
  ·refine h.YC.mono λa9 W a8 t=>?_
   obtain⟨x1,x2,x3,rfl,t⟩:=t;exact⟨x1,x2,x3,rfl,(t.keep L λb e=>i _ b sM sM e).mono (j _) λb e=>by have:=e.1.1;omega⟩
 ·have k1:aj g x s:=(ai.keep B).then J
  exact((b1.new k1 b0).af K).new S λb e=>.inr oM
 ·intro b e
  rcases e.2 with f|f|f
  ·exact b0 b f
  ·have:=A b f;exact .inr oM
  ·exact .inr oM
 ·intro b e
  have:=e2 b e;refine⟨oM,oM,λm=>by have:=m.1;omega⟩
theorem GQ (f:aR):∀(c:List ah) (a:bk) (b:Int×Int×Int),(((ay (c.foldl (λa e=>(a.add e).2) a).done b).getD []).length<=((ay a.done b).getD []).length+c.length)/\(c.foldl (λa e=>(a.add e).2) a).entries.length=a.entries.length+c.length
 |[],a,b=>by simp
 |e::c,a,b=>by
  rw [List.foldl_cons];obtain⟨g,h⟩:=GQ f c (a.add e).2 b;have k:((ay (a.add e).2.done b).getD []).length<=((ay a.done b).getD []).length+1:=by
   show((ay (a.try e).2.2.done b).getD []).length<=_;rw [bk.sR];split
   ·simp
   split
   ·simp
   split
   ·simp
   ·simp only
    rw [bu];split
    ·rename_i i
     have d:b=(e.bd,e.agg,e.field):=by simpa using i
     rw [d];simp
    ·simp
  have j:(a.add e).2.entries.length=a.entries.length+1:=by
   show((a.try e).2.2.entries++[_]).length=_;have:(a.try e).2.2.entries=a.entries:=by rw [bk.sR];split;rfl;split;rfl;split<;>rfl
   rw [this];simp
  refine⟨?_,by rw [h,j];simp;omega⟩;simp only [Xq]at g⊢;omega
theorem ID {q r s:Option Addr} {tn O t P j Q:Nat} (R:dd L=0) (S:eM w) (T:bh w D L q tn r t) (U:∀a,D a->a<w.heap.size) (u:Row fZ 96 w f s j C) (v:∀a,f a->a<w.heap.size) (c:C.length<=20000000):
  Calls ZQ 40 #[.agg #[.slice q tn O,.slice r t P],.slice s j Q] w (Ok λV w'=>∃p F,V= .pointer (some ⟨p,0,none⟩)/\cT w' p F (cG L C)/\(∀a,F a->w.heap.size<=a)/\ai w w'):=by
 refine LG (PA.mk λw1 x s1 y=>⟨_,_,_,_,_,_,ae y rfl,ae y rfl,PC.ok (IM R (T.af x) λa c=>by have:=U a c;omega) ?_⟩);rintro _ w9 ⟨p,W,rfl,e,X,z⟩;have a9:=u.len;have Y:=x.then z;have z9:=z.size;refine⟨_,rfl,λA o w'=>∃b:Nat,o=b/\b<=j/\A=j-b/\∃F,cT w' p F (cG L (C.take b))/\(∀a,F a->w.heap.size<=a)/\ai w w',⟨_,0,rfl,Qj _,rfl,W,e,λa c=>by have:=X a c;omega,Y⟩,?_⟩;rintro A _ _ Z ⟨b,rfl,hj,rfl,F,e,k,g⟩;refine al.dec (λb0=>?_) (λb1=>?_)
 ·have B:b<C.length:=oM
  obtain⟨a,a0,es,ha,a1,b2,E,l,m,n,rfl,H,I⟩:=(u.af g).el b C[b] (Qq B);have J:C[b]? =some C[b]:=Qq B;generalize C[b]=d at E H I J;refine⟨a,a0,ha,oM,oM,br (es:=aE d l m n) (k:=10) (bg d l m n) rfl (λo ht=>E o ht) (PA.mk λb3 a3 b4 a5=>aD (bg d l m n) a5 rfl λa6 a7 b5 a8=>aw (bg d l m n) a8 ?_)⟩;have h:ai Z a6:=a3.new a7 λa c=>.inr oM;have K:=GQ L (C.take b) (bk.new L) (d.bd,d.agg,d.field);have b6:=List.length_take_le b C;have b7:((ay (cG L (C.take b)).done (d.bd,d.agg,d.field)).getD []).length<=0+(C.take b).length:=K.1;have b8:(cG L (C.take b)).entries.length=0+(C.take b).length:=K.2;have b9:=g.size;have c0:=h.size;refine PC.ok (IE (e.af h) (S.af (g.then h)) (H.af h) (λa c=>⟨by have:=v a c;omega,λhf=>by have:=k a hf;have:=v a c;omega⟩) I oM oM) ?_;rintro _ c1 ⟨a4,n4,c4,G,rfl,-,F',i,M,-⟩;refine cu (Rn _ a4 n4 c4) ⟨rfl,_,?_,b+1,an oM,oM,rfl,F',?_,λa c=>?_,(g.then h).new M.1 λa c=>.inr (k a c)⟩
  ·omega
  ·rw [Qw,J]
   unfold cG at i⊢;rw [List.foldl_append];exact i
  ·rcases M.2 a c with N|N
   ·exact k a N
   ·omega
 ·rw [Qz oM]at e
  exact Ok.mk ⟨p,F,rfl,e,k,g⟩
end
end Go.Proofs.YtfchlbaidamodaaGreatDoor
namespace Go.ax
open Go
variable{a3:List Value}{E a b5 c i l:Nat}{f:Nat->Prop}{d p:Option Addr}{h:Program}{K j:Type}{g q:TypeId}{b:World}{y:World->Prop}
theorem QS {cs:List j} {p m:Nat} {v:j} {vs:List j} (a:p<cs.length):(cs.set p v).take (p+1)++vs++(cs.set p v).drop (p+1+m)=cs.take p++(v::vs)++cs.drop (p+(m+1)):=by
 have b:(cs.set p v).take (p+1)=cs.take p++[v]:=by
  rw [Qw,Xj,if_pos rfl,if_pos a,List.take_set_of_le (Q4 _)];rfl
 have c:(cs.set p v).drop (p+1+m)=cs.drop (p+(m+1)):=by
  rw [List.drop_set_of_lt oM,show p+1+m=p+(m+1) by omega]
 rw [b,c];simp
theorem DY {m:TypeId} {n:Nat} {h:Option Addr} {o e b i f:Nat} {p:World->Prop} (q:h=some ⟨i,f,none⟩):∀(c:List Value) (a:Nat) {d:World} {cs:List Value},Own d m n h o e cs->b+a+c.length<=cs.length->
  (∀g,Own g m n h o e (cs.take (b+a)++c++cs.drop (b+a+c.length))->aj (λi=>aI h=some i) d g->g.heap.size=d.heap.size->p g)->jG ⟨i,f+b,none⟩ a c d p
 |[],a,d,cs,j,r,k=>k d (by simpa using j) (aj.refl _) rfl
 |v::c,a,d,cs,j,r,k=>by
  unfold jG;rw [Xq]at r;rw [Addr.add_lit,Nat.add_assoc];refine j.set (m:=b+a) oM q λg s t u=>DY q c (a+1) s (by simp;omega) λw l x y=>k w ?_ (t.then x) (y.trans u);have:=QS (cs:=cs) (p:=b+a) (m:=c.length) (v:=v) (vs:=c) oM;rw [show b+(a+1)=b+a+1 from rfl]at l;rw [this]at l;exact l
theorem Own.store {l e m i f:Nat} {c cs:List Value} (o:Own b q a d l e cs) (p:d=some ⟨i,f,none⟩) (n:jg h g c=true) (r:m+c.length<=cs.length)
  (k:∀j,Own j q a d l e (cs.take m++c++cs.drop (m+c.length))->aj (λi=>aI d=some i) b j->j.heap.size=b.heap.size->y j):xJ h g (.pointer (some ⟨i,f+m,none⟩)) (.agg c.toArray) b y:=by
 simp only [jg,QK]at n;obtain⟨⟨⟨s,x⟩,t⟩,u⟩:=n;unfold xJ;have v:Nat.beq c.toArray.size (mB h g)=true:=by simpa using t
 have w:c.toArray.toList.all Value.oneCell'=true:=by simpa using u
 simp only [s,v,w];exact DY p c 0 o (by simpa using r) k
theorem fv.store {e:fv j K} {r:List (Bx j)} (x:aV e.k_ q f b d a c r) {k:Bx j} (z:r[i]? =some k) {C u:Nat} (N:d=some ⟨C,u,none⟩)
  (F:a3=(e.hd k.x p l E).take b5) (a1:e.o<b5) (a2:b5<=e.k) (O:jg h g a3=true)
  (A:∀t,aV e.k_ q f t d a c (r.set i ⟨k.x,p,l,E⟩)->aj (λm=>aI d=some m) b t->t.heap.size=b.heap.size->y t):xJ h g (.pointer (some ⟨C,u+i*e.k,none⟩)) (.agg a3.toArray) b y:=by
 obtain⟨cs,D,P,H,Q⟩:=x.body;have I:=bT.om.1 H;have R:i<r.length:=(Qv.1 z).1;have J:cs.length=r.length*e.k:=by rw [I];exact lN (λm:Bx j=>e.hl m.x m.a m.n m.c) r
 have v:a3.length=b5:=by rw [F,Qy,e.hl];omega
 have S:(i+1)*e.k<=r.length*e.k:=Q0 _ R;rw [X7,Nat.one_mul]at S;refine P.store (m:=i*e.k) N O (by rw [J,v];omega) λt T U L=>A t ⟨⟨_,D,T,bT.om.2 ?_,Q⟩,x.self,λm V=>by rw [L];exact x.aF m V⟩ U L;have W:=sh (enc:=λm:Bx j=>e.hd m.x m.a m.n m.c) (k:=e.k) (λm=>e.hl m.x m.a m.n m.c) (x':=⟨k.x,p,l,E⟩) (v:=.slice p l E) e.ho r i k z (e.fz ..).symm;rw [<-W,<-I,v];have X:∀n,n<e.k->cs[i*e.k+n]? =(e.hd k.x k.a k.n k.c)[n]? :=λn Y=>by
  obtain⟨Z,B,M⟩:=H.at z;have a0:Z=e.hd k.x k.a k.n k.c:=M.1;rw [<-a0];exact B n Y
 apply X3;intro n;have s:∀o,o<b5->a3[o]? =(e.hd k.x p l E)[o]? :=λo hu=>by rw [F,Xw,if_pos hu]
 by_cases B:n<i*e.k
 ·rw [XQ,XW (by rw [Qy];omega),Xw,if_pos B,Xj,if_neg oM]
 ·by_cases M:n<i*e.k+b5
  ·rw [XQ,X8 (by rw [Qy];omega),XW (by rw [Qy,v];omega),Qy,s _ oM]
   obtain⟨o,rfl⟩:∃o,n=i*e.k+o:=⟨n-i*e.k,oM⟩
   rw [X2 oM,Nat.add_sub_cancel_left,Xj];have w:=e.fz k.x k.a k.n k.c p l E;split
   ·rename_i q
    have:o=e.o:=oM
    subst this;rw [if_pos (by rw [J];have:=e.ho;omega),<-w,Xj,if_pos rfl,if_pos (by rw [e.hl];exact e.ho)]
   ·rename_i q
    rw [X o oM,<-w,Xj,if_neg oM]
  ·rw [X8 (by rw [QX,Qy,v];omega),QX,Qy,v,List.getElem?_drop,Xj,if_neg (by have:=e.ho;omega)]
   congr 1
   omega
end Go.ax
namespace Go.ax
open Go
variable{h:Program}{y:World->Prop}
section
variable {α β:Type} {N:fv α β} {w9 w w':World} {a:Option Addr} {n c j:Nat} {L0:List (Bx α)} {e:TypeId}
theorem eO.step2 {i:TypeId} (z:eO N e w9 a n c L0 j w) {g:Nat} (p:a=Option.some ⟨g,0,none⟩) {d:Bx α} (k:L0[j]? =Option.some d) {a':Option Addr} {n' c':Nat} {G:Nat->Prop} (A:Row N.ci N.ib w G a' n' (N.inner d.x)) (C:N.ok d.x)
  (l:∀b,G b->w9.heap.size<=b/\b<w.heap.size) (U:g<w9.heap.size) {hd:List Value} {r:Nat} (E:hd=(N.hd d.x a' n' c').take r) (F:N.o<r) (H:r<=N.k) (I:jg h i hd=true) 
  (m:∀w',eO N e w9 a n c L0 (j+1) w'->aj (λd=>aI a=Option.some d) w w'->w'.heap.size=w.heap.size->y w'):xJ h i (.pointer (Option.some ⟨g,0+j*N.k,none⟩)) (.agg hd.toArray) w y:=by
 obtain⟨J,K,L,M,O,q,P,s⟩:=z;have t:J[j]? =Option.some d:=by rw [q j (Q4 _)];exact k
 have Q:=(Qv.1 t).1;have u:∀b,G b->¬aI a=Option.some b:=λb B e=>by
  have:=(l b B).1;rw [p]at e;simp only [aI,Q1]at e;omega
 refine fv.store L t p E F H I λR S f o=>m R ⟨_,λb=>K b\/G b,S,?_,?_,?_,P.then f,?_⟩ f o
 ·rw [List.map_set,M]
  apply X3;intro i;rw [Xj];split
  ·rename_i e;subst e
   rw [if_pos (by simpa using(Qv.1 k).1),Q9,k];rfl
  ·rfl
 ·intro v b V B
  rw [Xj]at B
  by_cases x:j=v
  ·subst x
   rw [if_pos rfl,if_pos Q]at B
   cases B
   exact⟨(A.keep f λb B=>u b B).mono λb B=>.inr B,C⟩
  ·rw [if_neg x]at B
   exact((O v b oM B).keep f λb B=>(s b B).2.2).mono λb B=>.inl B
 ·intro T W
  rw [Xj,if_neg oM,q T oM]
 ·rintro b (B|B)
  ·rw [o];exact s b B
  ·rw [o];exact⟨(l b B).1,(l b B).2,u b B⟩
end
end Go.ax
namespace Go.Proofs.YtfchlbaidamodaaGreatDoor
open Go.ax
variable{a c:Nat}{d:Option Addr}
section
variable {w w':World} {p:Nat} {F D:Nat->Prop} {V:bk}
theorem AR {b:List (Bx df)} (f:Row NJ.k_ 120 w D d a b) (g:∀e,D e->e<w.heap.size):Calls ZQ 394 #[.slice d a c] w (Ok (qD NJ.k_ 160 w b)):=
 gX (By Tm dC f g λi w' h=>Ok.mk h)
theorem GS (e:cT w p F V) (c:V.entries.length<=20000000):Calls ZQ 392 #[.pointer (some ⟨p,0,none⟩)] w (Ok (qD Ab 160 w V.entries)):=by
 obtain⟨X,Y,e⟩:=e;have l:=e.QU.row (bytes:=120) dC (by unfold aQ;omega);have I:=l.d_;have Z:=l.len;obtain⟨g,x,J,K⟩:=fv.boxes l;have a8:g.length=V.entries.length:=by rw [<-x];simp
 refine tA ⟨p,0,rfl,_,_,_,ae e.at' rfl,PC.ok (AR J λa c=>e.aF a c.1) ?_⟩;rintro _ y ⟨j,h,z,F9,rfl,k,A,L⟩;have m:∀a,aI j=some a->w.heap.size<=a:=λa c=>L a (k.self a c);have M:∀a,aI j=some a->a<y.heap.size:=λa c=>k.aF a (k.self a c);refine⟨_,_,_,rfl,λB N w'=>∃d:Nat,N=d/\d<=h/\B=h-d/\eO NJ 160 y j h z g d w',⟨_,0,rfl,Qj _,rfl,eO.start k.alone⟩,?_⟩;rintro B _ _ O ⟨d,rfl,hj,rfl,f⟩;have b0:=f.len;have n:ai w O:=A.new f.keep λa c=>.inr (m a c);have zk:=f.keep.size;refine al.dec (λb1=>?_) (λb2=>?_)
 ·obtain⟨i,rfl⟩:=f.some oM
  have b3:=m i rfl;have P:=M i rfl;have o:g[d]? =some g[d]:=Qq oM;have q:=K g[d] (XY oM);generalize g[d]=b at o q;refine⟨i,0,rfl,oM,oM,br (es:=aE b.x.ev b.a b.n b.c) (k:=10) (bg _ _ _ _) rfl (λr Q=>?_) (PC.ok (oV (e:=b.x.ev) (q.1.af n) λa c=>by have:=e.aF a c.1;have:=n.size;omega) ?_)⟩
  ·have R:=f.cell rfl o (by show h*13<=aQ;unfold aQ at I⊢;omega) r
   rw [Qx];have s:r<(aE b.x.ev b.a b.n b.c).length:=Q;rw [Qq s];refine R _ ?_;show(aE b.x.ev b.a b.n b.c++_)[r]? =_;rw [XW s,Qq s]
  rintro _ b4 ⟨t,u,v,G,rfl,S,C,T⟩;refine cu (sW b.x.ev t u v) ⟨rfl,i,0,rfl,oM,oM,?_⟩;rw [Qx];refine(f.af T).step2 (g:=i) rfl o (a':=t) (n':=u) (c':=v) (G:=G) S q.2 (λE H=>⟨by have:=C E H;omega,(C E H).2⟩) P (hd:=aE b.x.ev t u v) (r:=10) rfl dC dC (bg _ _ _ _) λb5 U b6 b7=>⟨_,?_,d+1,an oM,oM,rfl,U⟩
  omega
 ·obtain rfl:d=h:=oM
  obtain⟨Fd,hd,W⟩:=f.done;rw [x]at hd;have z9:=A.size;exact Ok.mk ⟨j,_,z,Fd,rfl,hd,n,λa c=>(W a c).elim (m a) λe=>oM⟩
end
end Go.Proofs.YtfchlbaidamodaaGreatDoor
namespace Go.Proofs.YtfchlbaidamodaaGreatDoor
open Go.ax
def bz (a:ep):List Value:=[QH a.group,QH a.value,QH a.count]
def ep.Ok (a:ep):Prop:=aN a.group/\aN a.value/\aN a.count
def IN:kM ep:=flat 3 bz ep.Ok (λ_=>rfl) (λb c a=>by simp [bz]at a;rcases a with rfl|rfl|rfl<;>rfl)
theorem XR:jP ZQ 44 268 3 24:=⟨kR,kR,dC⟩
variable{U r:Array Value}{z:FuncId}{e m:Int}{e1:ep}
section
variable {w w':World} {D:Nat->Prop} {a:Option Addr} {n c:Nat} {l:List ep}
theorem Dy (d:Row IN 24 w D a n l) (e:∀b,D b->b<w.heap.size):Calls ZQ 227 #[.slice a n c] w (Ok (qD IN 268 w l)):=
 jD (By XR dC d e λg w' f=>Ok.mk f)
theorem MN {most:Int} (d:Row IN 24 w D a n l) (h:∀e,D e->e<w.heap.size) (v:n<=c):
  Calls ZQ 165 #[.slice a n c,QH most] w (Ok λi w'=>∃f,i= .tuple #[f,.bool (decide ((max most 0).toNat<l.length))]/\qD IN 268 w (l.take (max most 0).toNat) f w'):=by
 have x:=d.len;have j:(if 0>most then 0 else most)=max most 0:=by split<;>omega
 refine EE ?_;rw [j];obtain⟨b,g⟩:∃b:Nat,(if(n:Int)<max most 0 then(n:Int)else max most 0)=b:=⟨(if(n:Int)<max most 0 then(n:Int)else max most 0).toNat,by split<;>omega⟩
 rw [g];have k:b=min n (max most 0).toNat:=by split at g<;>omega
 rw [Qx];refine⟨oM,oM,oM,PC.ok (Dy (d.take (m:=b) oM) h) ?_⟩;rintro _ y ⟨m,o,p,q,rfl,r,s,t⟩;refine⟨_,_,_,rfl,Ok.mk ⟨_,?_,m,o,p,q,rfl,?_,s,t⟩⟩
 ·have:decide ((b:Int)<(n:Int))=decide ((max most 0).toNat<l.length):=by rw [decide_eq_decide];omega
  rw [this]
 ·have:l.take (max most 0).toNat=l.take b:=by
   rw [k]
   by_cases u:(max most 0).toNat<=n
   ·rw [Nat.min_eq_right u]
   ·rw [X2 oM,Qz oM,Qz oM]
  rw [this];exact r
theorem Kj {c k:Nat} (u:c<=20000000) (l:k<=c) (m:enters ZQ z=true)
  (n:∀(d:Nat) f,d<c->ai w f->Calls ZQ z (r++ #[QH (d:Int)]++U) f (Ok λg w'=>g= .bool (decide (k<=d))/\ai f w')):
  Calls ZQ 163 #[QH (c:Int),.func (.func z) r U] w (Ok λg w'=>g= QH (k:Int)/\ai w w'):=by
 refine Cc ⟨λh d o w'=>∃a b:Nat,d=a/\o=b/\h=b-a/\a<=b/\b<=c/\a<=k/\k<=b/\ai w w',⟨_,0,c,rfl,rfl,rfl,oM,oM,oM,l,aj.refl _⟩,?_⟩;rintro h _ _ _ p ⟨a,b,rfl,rfl,rfl,v,q,s,t,e⟩;refine al.dec (λx=>?_) (λy=>?_)
 ·rw [VD oM]
  refine⟨_,_,_,rfl,m,PC.ok (n _ p oM e) ?_⟩;rintro _ A ⟨rfl,i⟩;refine⟨_,rfl,al.not (al.dec (λj=>⟨_,?_,a,(a+b)/2,rfl,rfl,rfl,oM,oM,s,j,e.then i⟩) (λj=>⟨_,?_,(a+b)/2+1,b,an oM,rfl,rfl,oM,q,oM,t,e.then i⟩))⟩
  ·omega
  ·omega
 ·obtain rfl:a=k:=oM
  exact Ok.mk ⟨rfl,e⟩
theorem ud {b:Type} (a:b->Bool):∀l:List b,l.dropWhile a=l.drop (posOf a l)
 |[]=>rfl
 |x::l=>by
  unfold posOf;rw [List.dropWhile_cons,List.takeWhile_cons]
  cases c:a x
  ·simp
  ·simpa [posOf]using ud a l
abbrev vE (l:List ep):Prop:=l.Pairwise λa b=>a.group<b.group
theorem UI {l:List ep} (d:vE l) {a:Nat} (b:l[a]? =some e1):decide (posOf (λe1=>decide (e1.group<=e)) l<=a)=decide (e1.group>e):=by
 rw [decide_eq_decide]
 induction l generalizing a with
 |nil=>simp at b
 |cons f l g=>
  obtain⟨h,i⟩:=List.pairwise_cons.1 d;unfold posOf;rw [List.takeWhile_cons]
  by_cases c:f.group<=e
  ·rw [decide_eq_true c]
   cases a with
   |zero=>
    simp at b;subst b;simp;omega
   |succ a=>
    have:=g i (by simpa using b);unfold posOf at this;simp only [if_true,Xq];omega
  ·rw [Xv c]
   simp only [Bool.false_eq_true,if_false,List.length_nil,Qj,true_iff]
   cases a with
   |zero=>simp at b;subst b;omega
   |succ a=>
    have:=h e1 (QZ (by simpa using b));omega
theorem MO (k:Row IN 24 w D a n l) (v:∀d,D d->d<w.heap.size) (x:n<=c) (y:vE l) (z:n<=20000000):
  Calls ZQ 101 #[.slice a n c,QH e,QH m] w (Ok λA w'=>∃b,A= .tuple #[b,.bool (ot l e (max m 0).toNat).2]/\qD IN 268 w (ot l e (max m 0).toNat).1 b w'):=by
 have Q:=k.len;have R:=Bp (λb:ep=>decide (b.group<=e)) l;refine Hp (PA.mk λS q T o=>PA.mk λU h V B=>⟨_,_,_,ae (h.get o id) rfl,PC.ok (Kj (k:=posOf (λb=>decide (b.group<=e)) l) z oM kR λi C W f=>?_) ?_⟩)
 ·have g:=(q.then h).then f
  obtain⟨d,E,X,F,j,-,H,rfl,-⟩:=(k.af g).el i l[i] (Qq oM);have I:l[i]? =some l[i]:=Qq oM;refine BW ⟨_,_,_,ae (f.get (h.get o id) id) rfl,d,E,F,oM,oM,_,by rw [Qx];exact H 0 dC,_,ae (f.get B id) rfl,λJ K=>Ok.mk ⟨?_,K.keep⟩⟩;rw [UI y I]
 ·rintro _ C ⟨rfl,f⟩
  have g:=(q.then h).then f;have p:=(k.af g).part (lo:=posOf (λb=>decide (b.group<=e)) l) (hi:=n) (cap:=c) oM (Q4 _) x;rw [Qz oM]at p;have L:IN.k=3:=rfl;rw [L]at p;refine⟨_,rfl,_,_,_,ae (f.get (h.get o id) id) rfl,oM,oM,?_⟩;rw [Qx];refine PC.ok (MN (most:=m) p (λd j=>by have:=v d j;have:=g.size;omega) oM) ?_;rintro _ J ⟨_,rfl,r,s,t,M,rfl,N,O,P⟩;have u:l.dropWhile (λb=>decide (b.group<=e))=l.drop (posOf (λb=>decide (b.group<=e)) l):=ud _ l;refine⟨_,_,_,_,rfl,Ok.mk ⟨.slice r s t,?_,r,s,t,M,rfl,?_,g.then O,λd j=>by have:=P d j;have:=g.size;omega⟩⟩
  ·unfold ot;rw [u]
  ·unfold ot;rw [u];exact N
end
def ub (a:ep):Value:=.agg (bz a).toArray
theorem PM (a:ep):jg ZQ 268 (bz a)=true:=kR
theorem Za (a:ep):TF (fe ZQ 268) (.agg (bz a).toArray)=true:=kR
structure lO (w:World) (p r:Nat) (R:ef):Prop where
 at':w.heap[p]? =some (.cells #[QH R.p.bd,QH R.p.field,QH R.p.group,QH R.p.GO,QH R.p.make,.map (some r)] 288 (0,0))
 map:cx w r (Value.int .i64) (R.rows.map λx=>(x.1,ub x.2))
 ok:∀x∈R.rows,ep.Ok x.2/\x.2.group=x.1
variable{a c:Nat}{d:Option Addr}{n:ah}{e0:jO}
section
variable {w w':World} {p r:Nat} {R:ef} {T:Nat->Prop}
theorem lO.keep (a:lO w p r R) (b:aj T w w') (c:¬T p) (d:¬T r):lO w' p r R:=⟨b.get a.at' c,a.map.keep b d,a.ok⟩
theorem lO.af (a:lO w p r R) (b:ai w w'):lO w' p r R:=a.keep b id id
theorem Rt :Calls ZQ 133 #[.agg (oy e0).toArray] w (Ok λc w'=>∃p r,c= .pointer (some ⟨p,0,none⟩)/\lO w' p r ⟨e0,[]⟩/\w.heap.size<=p/\w.heap.size<=r/\p<w'.heap.size/\r<w'.heap.size/\ai w w'):=by
 refine LJ (PA.mk λd e k a=>⟨_,_,_,_,_,ae a rfl,ae a rfl,ae a rfl,ae a rfl,ae a rfl,PA.mk λf g l h=>PA.mk λm b n i=>Ok.mk ⟨f.heap.size,d.heap.size,rfl,⟨i,cx.new (b.get h id),λe0 j=>by cases j⟩,oM,oM,oM,oM,(e.then g).then b⟩⟩)
def Ie (a:jO) (c:ah) (b:Int):Option Int:=if a.group=1 then some c.agg else if a.group=2 then some c.arg else if a.group=3 then some b else none
theorem MP (j:lO w p r R) :Calls ZQ 263 #[.pointer (some ⟨p,0,none⟩),kK n d a c,QH e] w (Ok λk w'=>k= .tuple #[QH ((Ie R.p n e).getD 0),.bool (Ie R.p n e).isSome]/\ai w w'):=by
 refine wg (PA.mk λl b m i=>⟨p,0,rfl,_,ae (j.af b).at' rfl,al.dX (λf=>⟨_,ae i rfl,Ok.mk ⟨?_,b⟩⟩) (λf=>al.dX (λg=>⟨_,ae i rfl,Ok.mk ⟨?_,b⟩⟩) (λg=>al.dX (λh=>Ok.mk ⟨?_,b⟩) (λh=>Ok.mk ⟨?_,b⟩)))⟩)
 ·unfold Ie;rw [if_pos f];rfl
 ·unfold Ie;rw [if_neg f,if_pos g];rfl
 ·unfold Ie;rw [if_neg f,if_neg g,if_pos h];rfl
 ·unfold Ie;rw [if_neg f,if_neg g,if_neg h];rfl
theorem Qh (h:lO w p r R) {arg:Int}:Calls ZQ 264 #[.pointer (some ⟨p,0,none⟩),.agg (bz e1).toArray,QH arg] w (Ok λm w'=>m= QH (mG R.p e1 arg)/\ai w w'):=by
 refine yk (PA.mk λn c q g=>?_);have d:=(h.af c).at';refine⟨_,ae g rfl,p,0,rfl,_,ae d rfl,al.dX (λe=>⟨_,ae g rfl,Ok.mk ⟨?_,c⟩⟩) (λe=>⟨p,0,rfl,_,ae d rfl,al.dX (λf=>⟨_,ae g rfl,Ok.mk ⟨?_,c⟩⟩) (λf=>⟨λl w'=>l=decide (R.p.make=5\/e1.count=1/\(R.p.make=3\/R.p.make=4))/\n=w',?_,?_⟩)⟩)⟩
 ·unfold mG;rw [if_pos e]
 ·unfold mG;rw [if_neg e,if_pos f]
 ·refine⟨p,0,rfl,_,ae d rfl,al.dX (λi=>⟨?_,rfl⟩) (λi=>al.dX (λk=>⟨p,0,rfl,_,ae d rfl,al.dX (λa=>⟨?_,rfl⟩) (λa=>⟨p,0,rfl,_,ae d rfl,?_,rfl⟩)⟩) (λk=>⟨?_,rfl⟩))⟩
  ·rw [decide_eq_true (.inl i)];simpa using i
  ·rw [decide_eq_true (.inr ⟨k,.inl a⟩)]
  ·by_cases b:R.p.make=4
   ·rw [decide_eq_true (.inr ⟨k,.inr b⟩)];simpa using b
   ·rw [Xv (by rintro(h|⟨-,h|h⟩);exact i h;exact a h;exact b h)];simpa using b
  ·rw [Xv (by rintro(h|⟨h,-⟩);exact i h;exact k h)]
 ·rintro l _ _ ⟨o,rfl⟩
  subst o;refine al.dec (λj=>Ok.mk ⟨?_,c⟩) (λj=>⟨p,0,rfl,_,ae d rfl,al.dX (λa=>⟨_,ae g rfl,Ok.mk ⟨?_,c⟩⟩) (λa=>⟨p,0,rfl,_,ae d rfl,al.dX (λb=>⟨_,ae g rfl,Ok.mk ⟨?_,c⟩⟩) (λb=>Ok.mk ⟨?_,c⟩)⟩)⟩)
  ·unfold mG;rw [if_neg e,if_neg f,if_pos j]
  ·have:(if arg<e1.value then arg else e1.value)=min e1.value arg:=by split<;>omega
   unfold mG;rw [if_neg e,if_neg f,if_neg j,if_pos a,<-this]
  ·have:(if arg>e1.value then arg else e1.value)=max e1.value arg:=by split<;>omega
   unfold mG;rw [if_neg e,if_neg f,if_neg j,if_neg a,if_pos b,<-this]
  ·unfold mG;rw [if_neg e,if_neg f,if_neg j,if_neg a,if_neg b]
end
theorem SN:nu ZQ 286 3 268 (ub ⟨0,0,0⟩):=⟨kR,kR⟩
theorem OD {b f g:Type} [BEq b] (c:f->g) (d:b):∀a:List (b×f),ay (a.map λe=>(e.1,c e.2)) d=(ay a d).map c
 |[]=>rfl
 |(e,h)::a=>by
  simp only [QY];unfold ay;split
  ·rfl
  ·exact OD c d a
theorem OE {d e h:Type} [BEq d] (b:e->h) (f:d) (g:e):∀c:List (d×e),aJ (c.map λa=>(a.1,b a.2)) f (b g)=(aJ c f g).map λa=>(a.1,b a.2)
 |[]=>rfl
 |(a,i)::c=>by
  simp only [QY];unfold aJ;split
  ·simp
  ·simp [OE b f g c]
section
variable {w w':World} {p r:Nat} {R:ef}
theorem ef.add_def (r:ef) (e:df) (b:Int):r.add e b=match Ie r.p e.ev b with
  |none=>r
  |some a=>if e.void||e.ev.bd !=r.p.bd||e.ev.field !=r.p.field then r else
   {r with rows:=aJ r.rows a ⟨a,mG r.p ⟨a,((ay r.rows a).getD ⟨0,0,0⟩).value,pH (((ay r.rows a).getD ⟨0,0,0⟩).count+1)⟩ e.ev.arg,pH (((ay r.rows a).getD ⟨0,0,0⟩).count+1)⟩}:=rfl
theorem IF:aN 0:=by unfold aN;omega
theorem Wq {arg:Int} (a:ep.Ok e1) (b:aN arg):aN (mG e0 e1 arg):=by
 obtain⟨d,e,c⟩:=a;unfold mG;split;exact c;split;exact NU _;split;exact b;split
 ·unfold aN at*;omega
 split
 ·unfold aN at*;omega
 ·exact IF
theorem Ro (j:lO w p r R) (a1:p≠r) {x:df} (y:x.ev.Ok) (a2:aN e):Calls ZQ 201 #[.pointer (some ⟨p,0,none⟩),GP x d a c,QH e] w (Ok λm w'=>m= .tuple #[]/\lO w' p r (R.add x e)/\aj (·=r) w w'):=by
 have b1:=aC j.at';have b2:=j.map.lt;refine AA (PA.mk λw1 M s1 N=>Wr (cs:=aE x.ev d a c) (bg _ _ _ _) N (λa3 m O=>?_) (PC.ok (MP (j.af M)) ?_))
 ·rw [Xz]
  have a4:=(Qv.1 O).1;show(aE x.ev d a c++_).toArray[a3]? =_;simp only [List.getElem?_toArray];rw [XW a4];exact O
 rintro _ P ⟨rfl,Q⟩;have n:=M.then Q;have o:=Q.get N id;have s:=j.af n;have g:R.add x e=R->∀i,bE P i->Ok (λm w'=>m= .tuple #[]/\lO w' p r (R.add x e)/\aj (·=r) w w') (.returned (.tuple #[])) i:=λhe i k=>Ok.mk ⟨rfl,by rw [he];exact s.af k.keep,ai.keep (n.then k.keep)⟩;refine⟨_,_,rfl,al.not (al.mk (λz=>?_) (λz=>g ?_))⟩
 rotate_left
 ·rw [ef.add_def,show Ie R.p x.ev e=none by simpa using z]
 obtain⟨f,h⟩:=Option.isSome_iff_exists.1 z;rw [h,Option.getD_some];have t:∀{q:ef},(if x.void||x.ev.bd !=R.p.bd||x.ev.field !=R.p.field then R else
   {R with rows:=aJ R.rows f ⟨f,mG R.p ⟨f,((ay R.rows f).getD ⟨0,0,0⟩).value,pH (((ay R.rows f).getD ⟨0,0,0⟩).count+1)⟩ x.ev.arg,pH (((ay R.rows f).getD ⟨0,0,0⟩).count+1)⟩})=q->R.add x e=q:=λ{q} A=>by
  rw [ef.add_def,h];exact A
 refine⟨_,ae o rfl,al.mk (λl=>g (t (by rw [l];rfl))) (λl=>⟨_,ae o rfl,p,0,rfl,_,ae s.at' rfl,al.dw (λB=>g (t ?_)) (λB=>⟨_,ae o rfl,p,0,rfl,_,ae s.at' rfl,λi k=>?_⟩)⟩)⟩
 ·rw [l,show(x.ev.bd !=R.p.bd)=true by simpa using B];rfl
 have S:(x.ev.bd !=R.p.bd)=false:=by simpa using B
 have u:ai P i:=k.keep;have v:=s.af u;refine al.dw (λC=>g (t (by rw [l,S,show(x.ev.field !=R.p.field)=true by simpa using C];rfl)) i k) (λC=>?_);have a5:(x.ev.field !=R.p.field)=false:=by simpa using C
 have T:aN f:=by
  unfold Ie at h;split at h
  ·cases h;exact y.agg
  split at h
  ·cases h;exact y.arg
  split at h
  ·cases h;exact a2
  ·cases h
 obtain⟨b,E⟩:∃b,b=(ay R.rows f).getD ⟨0,0,0⟩:=⟨_,rfl⟩
 have a6:ep.Ok b:=by
  rw [E]
  cases A:ay R.rows f with
  |none=>exact⟨IF,IF,IF⟩
  |some U=>exact(j.ok _ (cF A)).1
 have a7:(ay (R.rows.map λx=>(x.1,ub x.2)) f).getD (ub ⟨0,0,0⟩)=ub b:=by
  rw [OD,E];cases ay R.rows f<;>rfl
 refine⟨p,0,rfl,_,ae v.at' rfl,AY SN GZ v.map ?_⟩;rw [a7];refine cu (Za b) ⟨rfl,PA.mk λw4 k4 s4 g4=>aD (PM b) g4 rfl λw5 k5 s5 g5=>PS.mk g5 (by simp [bz]) λw6 k6 s6 V=>⟨_,ae V rfl,PS.mk V (by simp [bz]) λw7 k7 s7 W=>?_⟩⟩;have F:ai i w7:=((k4.new k5 λH I=>.inr oM).new k6 λH I=>.inr oM).new k7 λH I=>.inr oM;have a8:=F.get (u.get o id) id;refine aw (cs:=bz ⟨f,b.value,pH (b.count+1)⟩) (PM _) W ⟨_,ae a8 rfl,PC.ok (Qh (v.af F)) ?_⟩;rintro _ w8 ⟨rfl,J⟩;have z8:=J.size;refine⟨_,rfl,PS.mk (J.get W id) (by simp [bz]) λw9 k9 s9 g9=>λX a9=>?_⟩;have Y:ai w9 X:=a9.keep;have Z:ai i X:=((F.then J).new k9 λH I=>.inr oM).then Y;have K:=v.af Z;have z3:=(n.then u).size;refine⟨p,0,rfl,_,ae K.at' rfl,aw (cs:=bz ⟨f,mG R.p ⟨f,b.value,pH (b.count+1)⟩ x.ev.arg,pH (b.count+1)⟩) (PM _) (Y.get g9 id) (jz SN GZ K.map λb3 b0 a0 b4=>Ok.mk ⟨rfl,?_,?_⟩)⟩
 ·rw [t (q:={R with rows:=aJ R.rows f ⟨f,mG R.p ⟨f,b.value,pH (b.count+1)⟩ x.ev.arg,pH (b.count+1)⟩}) (by rw [l,S,a5,E];rfl)]
  refine⟨a0.get K.at' a1,?_,λU L=>?_⟩
  ·rw [<-OE];exact b0
  ·rcases fG L with rfl|L
   ·exact⟨⟨T,Wq ⟨T,a6.2.1,NU _⟩ y.arg,NU _⟩,rfl⟩
   ·exact j.ok U L
 ·exact(ai.keep ((n.then u).then Z)).then a0
end
section
variable {w w':World} {p r:Nat} {R:ef}
theorem OT (g:lO w p r R):Calls ZQ 250 #[.pointer (some ⟨p,0,none⟩)] w (Ok λh w'=>∃d f,h= .pointer (some ⟨d,0,none⟩)/\lO w' d f R/\d≠f/\w.heap.size<=d/\w.heap.size<=f/\d<w'.heap.size/\f<w'.heap.size/\ai w w'):=by
 refine yj λb j=>?_;have k:ai w b:=j.keep;have u:b.heap.size=w.heap.size:=by rw [j.heap]
 have c:=g.af k;obtain⟨e,a,m,n,o,q⟩:=c.map.at';refine⟨no,p,0,rfl,id,_,_,_,_,_,ae c.at' rfl,ae c.at' rfl,ae c.at' rfl,ae c.at' rfl,ae c.at' rfl,p,0,rfl,_,ae c.at' rfl,PC.ok (φ:=λh w'=>h= .map (some b.heap.size)/\w'=b.alloc (.map e a)) ((AnyW.maps_Clone Tryz.Ws r e a b m).mono ?_) ?_⟩
 ·rintro v w' ⟨rfl,s⟩
  exact Ok.mk ⟨rfl,s⟩
 ·rintro _ x ⟨rfl,rfl⟩
  have l:ai b (b.alloc (.map e a)):=aj.alloc _ _;have y:(b.alloc (.map e a)).heap.size=b.heap.size+1:=sM
  refine⟨_,rfl,ai.keep l,PA.mk λz i A t=>⟨ai.keep i,Ok.mk ⟨_,b.heap.size,rfl,⟨t,⟨⟨e,a,i.get (heap_alloc_new b _) id,n,o,q⟩,g.map.tidy⟩,g.ok⟩,?_⟩⟩⟩;refine⟨oM,oM,oM,oM,oM,(k.then l).then i⟩
end
end Go.Proofs.YtfchlbaidamodaaGreatDoor

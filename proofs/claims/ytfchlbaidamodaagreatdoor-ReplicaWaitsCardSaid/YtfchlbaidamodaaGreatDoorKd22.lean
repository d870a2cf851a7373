import Derived.Test.YtfchlbaidamodaaGreatDoorKd21
set_option linter.all false
set_option maxRecDepth 20000
namespace Go.Proofs.YtfchlbaidamodaaGreatDoor
open Go.ax
theorem Vb (a:Int×Int×Int):jg ZX 306 [XG a.1,XG a.2.1,XG a.2.2]=true:=kR
theorem KY {a d:Type} [BEq a] [LawfulBEq a] {b:a} {g e:d}:∀c:List (a×d),aJ (aJ c b g) b e=aJ c b e
 |[]=>by simp [aJ]
 |(h,i)::c=>by
  by_cases f:b==h
  ·simp [f,aJ]
  ·simp [f,aJ,KY c]
variable{L:Bool}{d6:Int×Int}{a c:Nat}{d:Option Addr}{b:World}{k:ah}
section
variable {w w':World} {p:Nat} {F T D:Nat->Prop} {V:bk} {q:GJ}
def IA (w:World) (p:Nat) (F D:Nat->Prop) (V:bk) (a:ah) (d:Value) (w':World):Prop:=
 d= .tuple #[.bool (V.try a).1,.agg #[XG (V.try a).2.1.1,XG (V.try a).2.1.2]]/\∃c,cT w' p c (V.try a).2.2/\aj F w w'/\∀b,c b->F b\/D b\/w.heap.size<=b
theorem Tq (c:cT w p F V) (a:ai w w') (b:V.try k=(L,d6,V)):Ok (IA w p F D V k) (.returned (.tuple #[.bool L,.agg #[XG d6.1,XG d6.2]])) w':=by
 refine Ok.mk ⟨by rw [b],F,?_,ai.keep a,λL d=>.inl d⟩;rw [b];exact c.af a
theorem GK (j:zY b p F V q) (a:Int×Int×Int):∃c d e f,(ay q.l2 a).getD (.slice none 0 0)= .slice c d e/\(ay V.done a).getD []=f/\(aV fZ 59 (q.P F (.done a)) b c d e f):=by
 rcases j.YC.ay a with⟨g,h⟩|⟨m,f,g,h,c,d,e,rfl,l⟩
 ·exact⟨none,0,0,[],by rw [g];rfl,by rw [h];rfl,(aV.nil b).mono (λk i=>i.elim) λk i=>j.aF k i.1⟩
 ·exact⟨c,d,e,f,by rw [g];rfl,by rw [h];rfl,l⟩
theorem Ts (f:cT w p F V) (hT:eM w) (hr:Row aP 8 w D d a k.aK) (E:∀b,D b->b<w.heap.size/\¬F b) (he:k.Ok) (e:((ay V.done (k.bd,k.agg,k.field)).getD []).length<=20000000):
  Calls ZX 146 #[.pointer (some ⟨p,0,none⟩),kK k d a c] w (Ok (IA w p F D V k)):=by
 have j8:=f;obtain⟨hV,q,f⟩:=f;have h:=f.aF;have B8:=h _ f.lp.1;refine yq (PA.mk λH t6 B9 t7=>PA.mk λo2 o3 C0 t8=>λj9 o4=>?_);have l0:ai o2 j9:=o4.keep;have C1:j9.heap.size=o2.heap.size:=by rw [o4.heap]
 have k0:ai w j9:=(t6.then o3).then l0;have ge:=l0.get (o3.get t7 id) id;have gb:=l0.get t8 id;have P:=f.af k0;refine⟨p,0,rfl,_,_,_,_,_,_,ae P.at' rfl,ae P.at' rfl,_,ae ge rfl,_,ae ge rfl,_,ae ge rfl,_,ae ge rfl,PC.ok (yX (hT.af k0) P.Tp λb e=>P.aF b e.1) ?_⟩;rintro _ Q ⟨rfl,R⟩;have k1:=k0.then R;have C2:=R.size;have c0:=R.get gb id;have c1:=R.get ge id;have m:∀{w1:World} {i:Int×Int} {b:Bool},ai Q w1->V.try k=(b,i,V)->∀w2,bE w1 w2->∀(x S:Int),x=i.1->S=i.2->PS w2 ⟨H.heap.size,0,none⟩ (XG x) λw3=>PS w3 ⟨H.heap.size,0+1,none⟩ (XG S) λw4=>∃(o5 o6:Int),w4.cell? ⟨H.heap.size,0,none⟩=some (XG o5)/\w4.cell? ⟨H.heap.size,0+1,none⟩=some (XG o6)/\Ok (IA w p F D V k) (.returned (.tuple #[.bool b,.agg #[XG o5,XG o6]])) w4:=λ{w1 i b} hk I w2 g2 x S hx n=>by
  have k2:ai w1 w2:=g2.keep;have kk:=(k1.then hk).then k2;have g3:=k2.get (hk.get c0 id) id;subst hx n;refine PS.mk g3 sM λw3 k3 s3 h1=>PS.mk h1 sM λw4 J s4 g4=>⟨_,_,ae g4 rfl,ae g4 rfl,Tq j8 ((kk.new k3 λb e=>.inr oM).new J λb e=>.inr oM) I⟩
 refine⟨_,rfl,al.dw (λd5=>λt9 o7=>?_) (λg5=>?_)⟩
 ·have o8:=(o7.keep (S:=λ_=>False)).get c0 id
  exact⟨_,_,ae o8 rfl,ae o8 rfl,m (i:=(0,0)) (aj.refl _) (by rw [bk.sR,if_pos d5]) t9 o7 _ _ rfl rfl⟩
 obtain⟨c3,t0,t1,C3⟩:=HN hV.decl g5 (hV.len k);obtain⟨y,o9⟩:∃y:Nat,k.bd=y:=⟨k.bd.toNat,oM⟩
 have l3:=c3.f0;have l4:=c3.f1;obtain⟨fi,p0⟩:∃fi:Nat,k.field=fi:=⟨k.field.toNat,oM⟩
 have u0:V.decl.at k.bd=V.decl.types.getD y []:=by
  unfold aR.at;rw [if_pos (bO.2 ⟨t0,oM⟩),o9,Qx]
 obtain⟨tb,qF,es,u1,u2,p1,u3,fa,fn,fc,rfl,z⟩:=(P.af R).Tp.bd.el y V.decl.types[y] sM;have z:Row pT 48 Q (q.P F .Tp) fa fn (V.decl.at k.bd):=by
  rw [u0];have:V.decl.types.getD y []=V.decl.types[y]:=by simp [QQ,show y<V.decl.types.length by omega]
  rw [this];exact z
 have C4:=(P.af R).Tp.bd.len;have g6:=u3 0 dC;have u4:lv.k=1:=rfl;rw [u4,Nat.mul_one]at g6;have u5:=h tb p1.1;refine⟨λT u6 ab ao w'=>u6=0/\ao=0/\ai Q w'/\w'.heap[T]? =some (.cells #[.slice fa fn fc] 130 (0,0))/\w'.heap[ab]? =some (.cells #[XG k.bd,XG k.agg,XG k.field] 306 (0,0))/\Q.heap.size<=T/\Q.heap.size<=ab,?_,?_⟩
 ·intro K p2
  have d6:ai Q K:=p2.keep;have C5:K.heap.size=Q.heap.size:=by rw [p2.heap]
  have p3:=(P.af R).af d6;have c4:=d6.get c1 id;refine⟨λb=>K.heap.size<=b,p,0,rfl,oM,_,_,_,ae p3.at' rfl,by show¬K.heap.size<=w.heap.size;omega,_,ae c4 rfl,tb,qF,u1,t0,by omega,by show¬K.heap.size<=tb;omega,fa,fn,fc,?_,by show¬K.heap.size<=w.heap.size;omega,_,ae c4 rfl,by show¬K.heap.size<=w.heap.size;omega,_,ae c4 rfl,by show¬K.heap.size<=w.heap.size;omega,_,ae c4 rfl,?_,?_⟩
  ·rw [o9,Qx]
   exact(d6.cell (a:=⟨tb,qF+y,none⟩) u2 id).trans g6
  ·refine PA.mk λu7 d7 u9 l5=>⟨ai.keep d7,PA.mk λv0 U v1 l6=>⟨ai.keep U,PS.mk (U.get l5 id) sM λv2 W v3 l7=>⟨W.mono λb _ k=>oM,aD (Vb (k.bd,k.agg,k.field)) (W.get l6 oM) rfl λv4 X v5 l8=>⟨X.mono λb _ k=>oM,rfl,rfl,?_,X.get l7 oM,l8,oM,oM⟩⟩⟩⟩
   exact(((d6.then d7).then U).new W λb e=>.inr oM).new X λb e=>.inr oM
  ·refine PA.mk λu7 d7 u9 l5=>⟨ai.keep d7,PA.mk λv0 U v1 l6=>⟨ai.keep U,PS.mk l6 sM λv2 W v3 l7=>⟨W.mono λb _ k=>oM,aD (Vb (k.bd,k.agg,k.field)) (W.get (U.get l5 id) oM) rfl λv4 X v5 l8=>⟨X.mono λb _ k=>oM,rfl,rfl,?_,X.get l7 oM,l8,oM,oM⟩⟩⟩⟩
   exact(((d6.then d7).then U).new W λb e=>.inr oM).new X λb e=>.inr oM
 rintro T _ ab _ _ p4 ⟨rfl,rfl,p5,p6,g7,y5,C6⟩;have k2:=k1.then p5;have d8:=f.af k2;obtain⟨da,dn,dc,l,v6,l9,p7⟩:=GK d8 (k.bd,k.agg,k.field);rw [l9]at e;refine⟨p,0,rfl,_,ae d8.at' rfl,aw (cs:=[XG k.bd,XG k.agg,XG k.field]) (Vb (k.bd,k.agg,k.field)) g7 ⟨da,dn,dc,λb1=>?_,λp8 v7=>?_⟩⟩
 ·have:=eY Zo Zf (d8.dn.af (aj.drewN p4 b1)) (k.bd,k.agg,k.field) false
  rw [v6]at this;exact this
 have f6:ai p4 p8:=v7.keep;have C7:=p7.len dC;have m0:=(p7.af f6).row (bytes:=96) dC (by unfold aQ;omega);refine⟨λb1 a5 w'=>∃j:Nat,a5=j/\j<=dn/\b1=dn-j/\(∀x∈l.take j,mU ((V.decl.at k.bd).getD k.field.toNat ⟨0,0,false,[]⟩) x k=false)/\ai p8 w',⟨_,0,rfl,Qj _,rfl,sM,aj.refl _⟩,?_⟩;rintro b1 _ _ m1 ⟨j,rfl,hj,rfl,f7,d9⟩;have k3:=(p5.then f6).then d9;have g8:=d9.get (f6.get p6 id) id;have p9:=d9.get (f6.get g7 id) id;have g9:=k3.get c1 id;have c5:∀{r:Bool×(Int×Int)×bk},(match l.find? λx=>mU ((V.decl.at k.bd).getD k.field.toNat ⟨0,0,false,[]⟩) x k with
  |some x=>(true,aO x,V)
  |none=>if xL (V.decl.at k.bd) (V.cellsOf k) k.field k.op k.arg≠0 then(true,(0,0),V)else
   (false,(0,0),{V with fj:=aJ V.fj (k.bd,k.agg) ⟨pH (((ay V.fj (k.bd,k.agg)).getD ⟨0,[]⟩).version+1),TO (V.decl.at k.bd) (V.cellsOf k) k.field k.op k.arg⟩,done:=aJ V.done (k.bd,k.agg,k.field) (l++[k])}))=r->V.try k=r:=λ{r} hr=>by
  rw [bk.sR,if_neg (by simpa using g5),l9];exact hr
 refine al.dec (λC8=>?_) (λC9=>?_)
 ·have g0:j<l.length:=oM
  obtain⟨db,b5,es,v8,D0,D1,q0,xa,xn,xc,rfl,q1,q2⟩:=(m0.af d9).el j l[j] (Qq g0);have g1:l[j]? =some l[j]:=Qq g0;generalize l[j]=x at q0 q1 q2 g1;refine⟨db,b5,v8,oM,oM,br (es:=aE x xa xn xc) (k:=10) (bg x xa xn xc) rfl (λa5 I=>q0 a5 I) (PA.mk λD2 v9 D3 x0=>aD (bg x xa xn xc) x0 rfl λq3 x1 D4 x2=>λx3 x4=>?_)⟩;have m2:ai m1 q3:=v9.new x1 λb e=>.inr oM;have q4:ai q3 x3:=x4.keep;have J:=m2.then q4;have e0:=k3.then J;obtain⟨fb,fo,b6,b7,b8,x5,D5,D6,h2,h3,h4,h5,D7⟩:=Hc (z.af e0) (i:=fi) (by rw [z.len];omega);have h0:=q4.get x2 id;refine⟨_,_,_,ae (J.get g8 id) rfl,_,ae (J.get g9 id) rfl,fb,fo,x5,l3,by rw [z.len];exact l4,?_⟩;rw [p0,Qx];refine br (es:=eg ((V.decl.at k.bd).getD fi ⟨0,0,false,[]⟩) b6 b7 b8) (k:=4) (fD _ _ _ _) rfl (λa5 I=>?_) (aw (bg x xa xn xc) h0 (aw (bg k d a c) (J.get g9 id) (PC.ok (Cm (q1.af J) ((hr.af k1).af e0)) ?_)))
  ·match a5,I with
   |0,_=>exact h2
   |1,_=>exact h3
   |2,_=>exact h4
   |3,_=>exact h5
  rintro _ D8 ⟨rfl,m3⟩;have x6:(V.decl.at k.bd).getD fi ⟨0,0,false,[]⟩=(V.decl.at k.bd).getD k.field.toNat ⟨0,0,false,[]⟩:=by rw [p0,Qx]
  rw [x6];refine⟨_,rfl,al.mk (λhv=>λx7 q5=>?_) (λhv=>⟨_,?_,j+1,an oM,oM,rfl,λS n=>?_,(d9.then J).then m3⟩)⟩
  ·have q6:=(q5.keep (S:=λ_=>False)).get (m3.get h0 id) id
   refine⟨_,_,ae q6 rfl,ae q6 rfl,m (e0.then m3) (i:=aO x) (c5 ?_) x7 q5 _ _ rfl rfl⟩;have hf:l.find? (λx=>mU ((V.decl.at k.bd).getD k.field.toNat ⟨0,0,false,[]⟩) x k)=some x:=by
    rw [List.find?_eq_some_iff_append];refine⟨hv,l.take j,l.drop (j+1),?_,λS n=>by rw [f7 S n];rfl⟩;rw [<-List.take_append_drop j l]
    congr 1
    ·rw [List.take_append_drop]
    ·rw [List.take_append_drop,X4 g0]
     congr 1
     rw [Qq g0]at g1;exact XJ g1
   rw [hf]
  ·omega
  ·rw [Qw,g1]at n
   rcases Q6.1 n with n|n
   ·exact f7 S n
   ·simp at n;subst n;exact hv
 ·have D9:j=dn:=oM
  rw [Qz oM]at f7;have m4:l.find? (λx=>mU ((V.decl.at k.bd).getD k.field.toNat ⟨0,0,false,[]⟩) x k)=none:=List.find?_eq_none.2 λx hx=>by rw [f7 x hx];simp
  rw [m4]at c5;intro Y h6;have c7:ai m1 Y:=h6.keep;have y6:Y.heap.size=m1.heap.size:=by rw [h6.heap]
  have k5:=k3.then c7;have e8:=k1.then k5;have z5:=k5.size;have z3:=k3.size;have b9:=f.af e8;have b2:=c7.get p9 id;have c2:=c7.get g8 id;have m5:=k5.get c1 id;have E0:=c7.size;have y7:=aC b2;have y8:=aC c2;obtain⟨t,b,o,s,A,g,Z,k4,l1,d3⟩:∃(t:mV) (b:Bool) (o:Option Addr) (s A:Nat),(ay q.l1 (k.bd,k.agg)).getD (.agg #[XG 0,.slice none 0 0])= .agg #[XG t.version,.slice o s A]/\(ay q.l1 (k.bd,k.agg)).isSome=b/\(ay V.fj (k.bd,k.agg)).getD IB=t/\(b=true->V.cellsOf k=t.cells)/\Row fL 32 Y (q.P F .Yj) o s t.cells/\(b=false->V.cellsOf k=dG (V.decl.at k.bd)):=by
   unfold bk.cellsOf;rcases b9.Yk.ay (k.bd,k.agg)with⟨g,Z⟩|⟨f0,t,g,Z,o,s,A,rfl,hr⟩
   ·exact⟨IB,false,none,0,0,by rw [g];rfl,by rw [g];rfl,by rw [Z];rfl,λf=>(by cases f),Row.nil _ _,λ_=>by rw [Z]⟩
   ·exact⟨t,true,o,s,A,by rw [g];rfl,by rw [g];rfl,by rw [Z];rfl,λ_=>by rw [Z],hr,λf=>(by cases f)⟩
  obtain⟨d3,l2⟩:=d3;refine⟨λb=>b=Y.heap.size,p,0,rfl,oM,_,ae b9.at' rfl,oM,_,_,ae b2 rfl,ae b2 rfl,t.version,o,s,A,b,λw' hk=>?_,PA.mk λy9 h7 z0 q7=>⟨ai.keep h7,PS.mk q7 sM λz2 h8 z4 q8=>PS.mk q8 sM λq9 h9 z7 i0=>⟨h8.then h9,?_⟩⟩⟩
  ·have:=eY Zg WT (b9.st.keep hk (by have:=h _ f.l1.1;omega)) (k.bd,k.agg) true
   rw [g,Z]at this;exact this
  have k6:ai Y q9:=(h7.new h8 λb e=>.inr oM).new h9 λb e=>.inr oM;refine⟨λw'=>ai Y w'/\∃o s A Dc,w'.heap[Y.heap.size]? =some (.cells #[XG t.version,.slice o s A] 42 (0,0))/\Row fL 32 w' Dc o s (V.cellsOf k)/\∀b,Dc b->b<w'.heap.size,?_,?_⟩
  ·refine al.not (al.mk (λx8=>⟨k6,o,s,A,_,i0,by rw [l1 x8];exact d3.af k6,λb e=>by have:=h b e.1;have:=k6.size;have:=e8.size;omega⟩) (λx9=>⟨_,_,_,ae (k6.get c2 id) rfl,PC.ok (Jd (t:=V.decl.at k.bd) rfl (z.len) (by rw [z.len];omega)) ?_⟩))
   rintro _ z8 ⟨m6,n6,m7,G6,rfl,r0,k7,y0⟩;have z6:=k6.size;refine⟨_,_,_,rfl,PS.mk (k7.get i0 id) sM λz9 i1 A0 r3=>⟨(k6.then k7).new i1 λb e=>.inr oM,m6,n6,m7,G6,r3,?_,λb e=>by have:=r0.aF b e;omega⟩⟩;rw [l2 x9];exact(r0.keep i1 λb e k=>by have:=y0 b e;omega).row dC (by unfold aQ dG;simp;omega)
  rintro _ A1 ⟨a3,o,s,A,Dc,f1,d3,y1⟩;have A2:=a3.size;have f2:=k5.then a3;have f3:=a3.get c2 id;have m8:=a3.get b2 id;have c6:=a3.get m5 id;refine⟨_,_,_,ae f3 rfl,_,_,_,ae f1 rfl,_,ae c6 rfl,_,ae c6 rfl,_,ae c6 rfl,PC.ok (Jc c3 (z.af f2) d3) ?_⟩;rintro _ r4 ⟨rfl,a0⟩;have k8:=f2.then a0;refine⟨_,rfl,al.dw (λd5=>λr5 i2=>?_) (λy2=>λc8 r6=>?_)⟩
  ·have i3:=(i2.keep (S:=λ_=>False)).get (k8.get c0 id) id
   refine⟨_,_,ae i3 rfl,ae i3 rfl,m (i:=(0,0)) k8 (c5 ?_) r5 i2 _ _ rfl rfl⟩;simp only;rw [if_pos d5]
  have f4:xL (V.decl.at k.bd) (V.cellsOf k) k.field k.op k.arg=0:=y2;have a1:ai r4 c8:=r6.keep;have k9:=k8.then a1;have m9:=(a3.then a0).then a1;have d2:=k1.then k9;have n0:=f.af d2;have b3:=k9.get c1 id;have e1:=(a0.then a1).get m8 id;have n1:=(a0.then a1).get f3 id;have f8:=(a0.then a1).get f1 id;have E1:=h _ f.l1.1;have E2:=h _ f.l2.1;have A3:=m9.size;have y3:=d2.size;have e7:¬p=q.r1:=λk=>by have g:=f.lp.2;rw [k,f.l1.2]at g;cases g
  have i4:¬p=q.r2:=λk=>by have g:=f.lp.2;rw [k,f.l2.2]at g;cases g
  have i5:¬q.r1=q.r2:=λk=>by have g:=f.l1.2;rw [k,f.l2.2]at g;cases g
  refine⟨λb=>b=q.r1,p,0,rfl,e7,_,ae n0.at' rfl,oM,_,_,ae e1 rfl,ae e1 rfl,oM,_,ae f8 rfl,_,_,_,ae n1 rfl,_,_,_,ae f8 rfl,_,ae b3 rfl,_,ae b3 rfl,_,ae b3 rfl,PC.ok (TQ c3 f4 he.arg oM (z.af k9) (λb e=>by have:=h b e.1;omega) (d3.af (a0.then a1)) λb e=>by have:=y1 b e;have:=(a0.then a1).size;omega) ?_⟩;rintro _ a6 ⟨r7,r8,r9,G,rfl,i6,a4,hG⟩;have e2:=d2.then a4;have u:=f.af e2;have A4:=a4.size;refine⟨_,_,_,rfl,ai.keep a4,jz (enc:=pO) (k:=(k.bd,k.agg)) Zg WT u.st λi7 s0 i8 A5=>⟨i8,λc9 i9=>?_⟩⟩;have j0:ai i7 c9:=i9.keep;have A6:c9.heap.size=i7.heap.size:=by rw [i9.heap]
  have C:aj (·=q.r1) a6 c9:=i8.af j0;have key:∀b,F b/\q.cls b= .done (k.bd,k.agg,k.field)->b≠p/\b≠q.r1/\b≠q.r2:=λb e=>
   ⟨λk=>(by have g:=f.lp.2;rw [<-k,e.2]at g;cases g),λk=>(by have g:=f.l1.2;rw [<-k,e.2]at g;cases g),λk=>(by have g:=f.l2.2;rw [<-k,e.2]at g;cases g)⟩
  have n3:=C.get u.at' e7;have n4:=C.get (a4.get e1 id) oM;have v:=C.get (a4.get b3 id) oM;have n5:=u.dn.keep C (λk=>i5 k.symm);have n7:=C.get (a4.get (k9.get c0 id) id) oM;obtain⟨a2,a7,e3,n8,s1,j1,j2⟩:=GK u (k.bd,k.agg,k.field);rw [l9]at j1;subst j1;have n9:=j2.keep C λb e k=>(key b e).2.1 k;have A7:=C.size;refine⟨λb=>b=q.r2\/(F b/\q.cls b= .done (k.bd,k.agg,k.field)),p,0,rfl,λB=>B.elim i4 λB=>(key p B).1 rfl,_,ae n3 rfl,λB=>B.elim (λk=>oM) λB=>by have:=h _ B.1;omega,
   aw (cs:=[XG k.bd,XG k.agg,XG k.field]) (Vb (k.bd,k.agg,k.field)) n4 ⟨_,_,_,_,_,_,_,_,_,_,_,_,ae v rfl,ae v rfl,ae v rfl,ae v rfl,ae v rfl,ae v rfl,ae v rfl,ae v rfl,ae v rfl,ae v rfl,
   PA.mk λA8 a8 A9 s2=>⟨ai.keep a8,Ia (enc:=D_) (k:=(k.bd,k.agg,k.field)) Zo Zf (n5.af a8) λB0 x s5 o0 a9 B1=>⟨a2,a7,e3,x,by rw [s1],a9.mono λb _ k=>.inl k,?_⟩⟩⟩⟩
  have r1:=(n9.af a8).keep a9 λb e k=>(key b e).2.2 k;have s6:=a9.get s2 oM;have b4:∀b,aI a2=some b->F b/\q.cls b= .done (k.bd,k.agg,k.field):=λb e=>j2.self b e;have y4:=(((hr.af e2).keep C λb e k=>(E b e).2 (k▸f.l1.1)).af a8).keep a9 λb e k=>(E b e).2 (k▸f.l2.1);refine fh (c:=fZ) r1 Eg s6 (D:=D) (x:=k) ⟨d,a,c,rfl,y4,he⟩ (λb e=>⟨by have:=(E b e).1;omega,λee=>(E b e).2 (b4 b ee).1⟩) (by unfold aQ;omega) (by unfold maxLen;omega) λa' L s7 F2 f9 b0 o1=>⟨_,_,_,rfl,b0.mono λb _ e=>.inr (b4 b e),?_⟩
  have s8:¬aI a2=some q.r2:=λee=>(key _ (b4 _ ee)).2.2 rfl;refine Dq Zf (s5.keep b0 s8) (o0.keep b0 s8) λj3 s9 e9 B2=>⟨e9.mono λb _ k=>.inl k,λd0 j4=>?_⟩
  have f5:ai j3 d0:=j4.keep;have B3:d0.heap.size=j3.heap.size:=by rw [j4.heap]
  have B4:=b0.size;have kb:aj (λb=>b=q.r2\/(F b/\q.cls b= .done (k.bd,k.agg,k.field))) c9 d0:=((((ai.keep a8).then (a9.mono λb _ k=>.inl k)).then (b0.mono λb _ e=>.inr (b4 b e))).then (e9.mono λb _ k=>.inl k)).then (ai.keep f5);have e4:=kb.get n7 (λB=>B.elim (λk=>oM) λB=>by have:=h _ B.1;omega);refine⟨_,_,ae e4 rfl,ae e4 rfl,PS.mk e4 sM λB5 j5 B6 t2=>PS.mk t2 sM λd1 j6 B7 j7=>⟨_,_,ae j7 rfl,ae j7 rfl,?_⟩⟩;have M:aj (λb=>b=q.r1\/b=q.r2\/(F b/\q.cls b= .done (k.bd,k.agg,k.field))\/b=H.heap.size) a6 d1:=
   ((C.mono λb _ k=>.inl k).then (kb.mono λb _ e=>e.elim (λk=>.inr (.inl k)) λe=>.inr (.inr (.inl e)))).then ((j5.mono λb _ k=>.inr (.inr (.inr k))).then (j6.mono λb _ k=>.inr (.inr (.inr k))))
  have kc:aj (·=H.heap.size) d0 d1:=j5.then j6;have zT:=M.size;have I:=c5 (r:=(false,(0,0),{V with fj:=aJ V.fj (k.bd,k.agg) ⟨pH (((ay V.fj (k.bd,k.agg)).getD ⟨0,[]⟩).version+1),TO (V.decl.at k.bd) (V.cellsOf k) k.field k.op k.arg⟩,done:=aJ V.done (k.bd,k.agg,k.field) (l++[k])})) (by simp only;rw [if_neg (by simpa using f4)]);have t3:=(bk.Tt hV k).1;refine Ok.mk ⟨by rw [I],λb=>b<d1.heap.size/\(F b\/D b\/w.heap.size<=b),?_,?_,λb e=>e.2⟩
  rotate_left
  ·exact(ai.keep e2).trans M (λ_ _ f=>f) λb e hT=>by
    rcases hT with rfl|rfl|hT|rfl
    ·exact f.l1.1
    ·exact f.l2.1
    ·exact hT.1
    ·omega
  rw [I]at t3⊢;have t4:∀b,G b->c8.heap.size<=b/\b<a6.heap.size:=λb e=>⟨hG b e,i6.aF b e⟩
  have N:∀b,F b->b<d1.heap.size:=λb e=>by have:=h b e;omega
  classical
  have O:∀b,F b->(if F b then q.cls b else if c8.heap.size<=b/\b<a6.heap.size then KX.Yj else KX.done (k.bd,k.agg,k.field))=q.cls b:=λb e=>if_pos e;refine⟨t3,⟨q.ta,q.tn,q.tc,q.pa,q.pn,q.pc,q.ea,q.en,q.ec,q.r1,q.r2,aJ q.l1 (k.bd,k.agg) (.agg #[XG (pH (t.version+1)),.slice r7 r8 r9]),aJ q.l2 (k.bd,k.agg,k.field) (.slice a' (a7+1) L),λb=>if F b then q.cls b else if c8.heap.size<=b/\b<a6.heap.size then KX.Yj else KX.done (k.bd,k.agg,k.field)⟩,?_,?_,?_,?_,?_,?_,?_,λb e=>e.1,⟨⟨N _ f.lp.1,.inl f.lp.1⟩,(O _ f.lp.1).trans f.lp.2⟩,⟨⟨N _ f.l1.1,.inl f.l1.1⟩,(O _ f.l1.1).trans f.l1.2⟩,⟨⟨N _ f.l2.1,.inl f.l2.1⟩,(O _ f.l2.1).trans f.l2.2⟩⟩
  ·exact M.get u.at' λB=>by
    rcases B with B|B|B|B
    ·exact e7 B
    ·exact i4 B
    ·exact(key _ B).1 rfl
    ·omega
  ·refine(u.Tp.keep M λb e B=>?_).mono λb e=>⟨⟨N b e.1,.inl e.1⟩,(O b e.1).trans e.2⟩
   have d4:=h b e.1;rcases B with rfl|rfl|B|B
   ·have:=f.l1.2;rw [e.2]at this;cases this
   ·have:=f.l2.2;rw [e.2]at this;cases this
   ·have:=B.2;rw [e.2]at this;cases this
   ·omega
  ·refine(u.QU.keep M λb e B=>?_).mono (λb e=>⟨⟨N b e.1,.inl e.1⟩,(O b e.1).trans e.2⟩) λb e=>e.1.1
   have d4:=h b e.1;rcases B with rfl|rfl|B|B
   ·have:=f.l1.2;rw [e.2]at this;cases this
   ·have:=f.l2.2;rw [e.2]at this;cases this
   ·have:=B.2;rw [e.2]at this;cases this
   ·omega
  ·exact((s0.af j0).keep kb λB=>B.elim i5 λB=>(key _ B).2.1 rfl).keep kc oM
  ·refine fJ.aJ ?_ ?_
   ·refine⟨r7,r8,r9,by rw [k4],?_⟩
    refine((i6.row (bytes:=32) dC ?_).keep M λb e B=>?_).mono λb e=>?_
    ·rw [OS,hV.len];unfold aQ;omega
    ·have d4:=t4 b e
     rcases B with rfl|rfl|B|B
     ·omega
     ·omega
     ·have:=h b B.1;omega
     ·omega
    ·have d4:=t4 b e
     refine⟨⟨oM,.inr (.inr oM)⟩,?_⟩;show(if F b then _ else _)=_;rw [if_neg (λhf=>by have:=h b hf;omega),if_pos d4]
   ·refine u.Yk.mono λf0 r2 hu=>?_
    obtain⟨e5,n2,e6,rfl,hu⟩:=hu;refine⟨e5,n2,e6,rfl,(hu.keep M λb e B=>?_).mono λb e=>⟨⟨N b e.1,.inl e.1⟩,(O b e.1).trans e.2⟩⟩;have d4:=h b e.1;rcases B with rfl|rfl|B|B
    ·have:=f.l1.2;rw [e.2]at this;cases this
    ·have:=f.l2.2;rw [e.2]at this;cases this
    ·have:=B.2;rw [e.2]at this;cases this
    ·omega
  ·have:=(s9.af f5).keep kc (by show¬q.r2=H.heap.size;omega)
   rw [KY]at this;exact this
  ·refine pt.aJ ?_ u.YC ?_ u.dn.tidy
   ·refine⟨a',_,L,rfl,?_⟩
    have t5:∀b,F2 b->b<s7.heap.size/\b≠H.heap.size:=λb e=>by
     refine⟨f9.aF b e,λk=>?_⟩;rcases o1 b e with g|g|g
     ·have:=h b g.1;omega
     ·have:=(E b g).1;omega
     ·omega
    refine((f9.keep e9 λb e k=>?_).af f5|>.keep kc λb e k=>(t5 b e).2 k).mono (λb e=>?_) λb e=>e.1.1
    ·rcases o1 b e with g|g|g
     ·exact(key b g).2.2 k
     ·exact(E b g).2 (k▸f.l2.1)
     ·omega
    ·have:=(t5 b e).1
     have hz:=kc.size;rcases o1 b e with g|g|g
     ·exact⟨⟨N b g.1,.inl g.1⟩,(O b g.1).trans g.2⟩
     ·refine⟨⟨oM,.inr (.inl g)⟩,?_⟩
      show(if F b then _ else _)=_;rw [if_neg (E b g).2,if_neg (by have:=(E b g).1;omega)]
     ·refine⟨⟨oM,.inr (.inr oM)⟩,?_⟩
      show(if F b then _ else _)=_;rw [if_neg (λhf=>by have:=h b hf;omega),if_neg oM]
   ·intro u8 f0 r2 d5 hu
    obtain⟨e5,n2,e6,rfl,hu⟩:=hu;refine⟨e5,n2,e6,rfl,(hu.keep M λb e B=>?_).mono (λb e=>⟨⟨N b e.1,.inl e.1⟩,(O b e.1).trans e.2⟩) λb e=>e.1.1⟩;have d4:=h b e.1;rcases B with rfl|rfl|B|B
    ·have:=f.l1.2;rw [e.2]at this;cases this
    ·have:=f.l2.2;rw [e.2]at this;cases this
    ·have:=B.2;rw [e.2]at this
     simp only [KX.done.injEq]at this;exact d5 this
    ·omega
end
variable{M:List ah}{f:Nat->Prop}{C:aR}
section
variable {w w':World} {p:Nat} {F T D:Nat->Prop} {V:bk} {q:GJ}
abbrev GP (a:df) (b:Option Addr) (c d:Nat):Value:=.agg (iG a b c d).toArray
theorem IE (M:cT w p F V) (hT:eM w) (hr:Row aP 8 w D d a k.aK) (r:∀b,D b->b<w.heap.size/\¬F b) (he:k.Ok) (e:((ay V.done (k.bd,k.agg,k.field)).getD []).length<=20000000) (N:V.entries.length<=20000000):
  Calls ZX 79 #[.pointer (some ⟨p,0,none⟩),kK k d a c] w (Ok λW w'=>∃d a c G,W=GP (V.add k).1 d a c/\Row aP 8 w' G d a k.aK/\∃X,cT w' p X (V.add k).2/\de F w X w'/\∀b,G b->w.heap.size<=b/\b<w'.heap.size/\¬X b):=by
 have Y:=M.aF;have g9:=Y _ M.self;refine Am (PA.mk λu e5 h3 d0=>PA.mk λh4 Z h5 e6=>?_);have k0:=e5.then Z;refine aw (bg k d a c) (Z.get d0 id) (PC.ok (oV (hr.af k0) λb e=>by have:=(r b e).1;omega) ?_);rintro _ h6 ⟨a6,n1,c1,G1,rfl,e7,v,O⟩;have a0:=k0.then O;refine cu (sW k a6 n1 c1) ⟨rfl,PC.ok (Ts (M.af a0) (hT.af a0) e7 (λb e=>⟨(v b e).2,λl=>by have:=Y b l;have:=v b e;omega⟩) he e) ?_⟩;rintro _ x ⟨rfl,g,b8,P,Q⟩;have h7:=O.size;have h8:=P.size;have b0:∀b,g b->F b\/w.heap.size<=b:=λb e=>by
  rcases Q b e with f|f|f
  ·exact .inl f
  ·have:=v b f;exact .inr oM
  ·exact .inr oM
 have b1:aj F w x:=(ai.keep a0).then P;have R:∀{b:Nat},w.heap.size<=b->¬F b:=λ{b} e l=>by have:=Y b l;omega
 have d1:=P.get (O.get (Z.get d0 id) id) (R (Q4 _));have d2:=P.get (O.get e6 id) (R oM);refine⟨_,_,_,rfl,PA.mk λh9 e8 i0 e9=>PS.mk e9 sM λi1 f2 i2 f3=>PS.mk f3 sM λi3 f5 i4 f6=>λy b9=>?_⟩;have B:ai x y:=((e8.new f2 λb e=>.inr oM).new f5 λb e=>.inr oM).then b9.keep;have i5:y.heap.size=x.heap.size+1:=by rw [b9.heap];omega
 have a1:y.heap[x.heap.size]? =some (.cells #[XG (V.try k).2.1.1,XG (V.try k).2.1.2] 39 (0,0)):=(b9.keep (S:=λ_=>False)).get f6 id;have b2:=B.get d1 id;obtain⟨g8,q,h⟩:=b8.af B;have c0:=b8.self;have z:=b8.aF;have b3:=((hr.keep b1 λb e=>(r b e).2).af B)
 have a4:(V.try k).2.2.entries=V.entries:=by
  rw [bk.sR];split;rfl;split;rfl;split<;>rfl
 have i6:=h.QU.len dC;have C:∀b,aI q.ea=some b->g b/\q.cls b= .QU:=λb e=>h.QU.self b e;have E:¬aI q.ea=some p:=λm=>by have f:=(C p m).2;rw [h.lp.2]at f;cases f
 refine⟨λb=>aI q.ea=some b,p,0,rfl,E,_,_,_,ae h.at' rfl,aw (bg k d a c) b2 ⟨λm=>by have:=z _ (C _ m).1;omega,_,_,ae a1 rfl,ae a1 rfl,PC.ok (oV b3 λb e=>by have:=(r b e).1;omega) ?_⟩⟩;rintro _ i7 ⟨a7,n2,c2,G2,rfl,f7,A,c4⟩;have i8:=c4.size;refine⟨_,_,_,_,_,_,_,_,_,_,_,_,rfl,ai.keep c4,PA.mk λd3 c5 i9 g0=>⟨ai.keep c5,?_⟩⟩;have a2:=c4.then c5;refine fh (c:=Ab) (x:=⟨k,(V.try k).1,(V.try k).2.1⟩) (h.QU.af a2) Tm g0 (D:=G2) ⟨a7,n2,c2,rfl,f7.af c5,he⟩ (λb e=>⟨by have:=A b e;omega,λm=>by have:=z _ (C _ m).1;have:=A b e;omega⟩) (by rw [a4];unfold aQ;omega) (by rw [a4];unfold maxLen;omega) λa' H d4 F2 b4 c6 c7=>⟨_,_,_,rfl,p,0,rfl,?_⟩
 have j0:=c6.size;have d5:=c6.get ((h.af a2).at') E;refine PS.mk d5 sM λI g1 j1 g2=>λs d6=>?_;have d7:ai I s:=d6.keep;have j2:s.heap.size=I.heap.size:=by rw [d6.heap]
 have a5:aj (·=p) d4 s:=g1.af d7;have k5:aj (λb=>aI q.ea=some b\/b=p) y s:=((ai.keep a2).then (c6.mono λb _ e=>.inl e)).then (a5.mono λb _ e=>.inr e);have J:aj g y s:=k5.mono λb _ e=>e.elim (λf=>(C b f).1) λf=>f▸c0;have c8:∀{b:Nat},x.heap.size<=b->¬g b:=λ{b} e l=>by have:=z b l;omega
 have g3:¬g w.heap.size:=λl=>by
  rcases Q _ l with f|f|f
  ·exact R (Q4 _) f
  ·have:=v _ f;omega
  ·omega
 have c9:¬g u.heap.size:=λl=>by
  rcases Q _ l with f|f|f
  ·exact R oM f
  ·have:=v _ f;omega
  ·omega
 have d8:=J.get b2 g3;have d9:=J.get (B.get d2 id) c9;have b5:=J.get a1 (c8 (Q4 _));have e0:∀b,D b->¬g b:=λb e l=>by
  rcases Q _ l with f|f|f
  ·exact(r b e).2 f
  ·have:=v _ f;have:=(r b e).1;omega
  ·have:=(r b e).1;omega
 have e1:=b3.keep J e0;have j3:=k5.size;refine⟨λb=>b=u.heap.size,aw (bg k d a c) d8 ⟨oM,_,_,ae b5 rfl,ae b5 rfl,PC.ok (oV e1 λb e=>by have:=(r b e).1;omega) ?_⟩⟩;rintro _ j4 ⟨a3,n3,c3,G3,rfl,g4,e2,K⟩;have j5:=K.size;refine⟨_,_,_,_,_,_,_,_,_,_,_,_,rfl,ai.keep K,aD (mg ⟨k,(V.try k).1,(V.try k).2.1⟩ a3 n3 c3) (K.get d9 id) rfl λe3 S j6 g5=>⟨S,aw (mg ⟨k,(V.try k).1,(V.try k).2.1⟩ a3 n3 c3) g5 (Ok.mk ⟨a3,n3,c3,G3,rfl,g4.keep S λb e m=>by have:=e2 b e;omega,λb=>b<I.heap.size/\(g b\/G2 b\/d3.heap.size<=b),?_,⟨?_,?_⟩,?_⟩)⟩⟩
 ·have g6:=(bk.Bn (by
   have:V.OK:=M.1;exact this) k).1
  have T:aj (λb=>b=u.heap.size) s e3:=(ai.keep K).then S;have zc:=T.size;have g7:∀b,g b->b<I.heap.size:=λb e=>by have:=z b e;omega
  classical
  have e4:∀b,g b->(if g b then q.cls b else KX.QU)=q.cls b:=λb e=>if_pos e;have L:aj (λb=>(aI q.ea=some b\/b=p)\/b=u.heap.size) y e3:=(k5.mono λb _ e=>.inl e).then (T.mono λb _ e=>.inr e);have i:∀(o:KX) b,o≠.QU->o≠.self->g b/\q.cls b=o->¬((aI q.ea=some b\/b=p)\/b=u.heap.size):=λo b f U e n=>by
   rcases n with(n|n)|n
   ·exact f (e.2.symm.trans (C b n).2)
   ·subst n;exact U (e.2.symm.trans h.lp.2)
   ·subst n;exact c9 e.1
  have j:∀(o:KX) b,g b/\q.cls b=o->((b<I.heap.size/\(g b\/G2 b\/d3.heap.size<=b))/\(if g b then q.cls b else KX.QU)=o):=λo b e=>⟨⟨g7 b e.1,.inl e.1⟩,(e4 b e.1).trans e.2⟩
  refine⟨g6,⟨q.ta,q.tn,q.tc,q.pa,q.pn,q.pc,a',q.en+1,H,q.r1,q.r2,q.l1,q.l2,λb=>if g b then q.cls b else KX.QU⟩,?_,?_,?_,?_,?_,?_,?_,λb e=>by have:=e.1;omega,j _ _ h.lp,j _ _ h.l1,j _ _ h.l2⟩
  ·exact T.get (d7.get g2 id) oM
  ·exact(h.Tp.keep L λb e=>i _ b sM sM e).mono (j _)
  ·have N:∀b,F2 b->b<d4.heap.size/\b≠u.heap.size/\b≠p:=λb e=>by
    refine⟨b4.aF b e,λm=>?_,λm=>?_⟩
    ·rcases c7 b e with f|f|f
     ·exact c9 (m▸f.1)
     ·have:=A b f;omega
     ·omega
    ·rcases c7 b e with f|f|f
     ·have U:=f.2;rw [m,h.lp.2]at U;cases U
     ·have:=A b f;have:=z p c0;omega
     ·have:=z p c0;omega
   have:(V.add k).2.entries=(V.try k).2.2.entries++[⟨k,(V.try k).1,(V.try k).2.1⟩]:=rfl;rw [this];refine((b4.keep a5 λb e=>(N b e).2.2).keep T λb e=>(N b e).2.1).mono (λb e=>?_) λb e=>by have:=e.1.1;omega
   have h0:=(N b e).1;rcases c7 b e with f|f|f
   ·exact j _ b f
   ·have:=A b f
    refine⟨⟨oM,.inr (.inl f)⟩,?_⟩;show(if g b then _ else _)=_;rw [if_neg (c8 oM)]
   ·refine⟨⟨oM,.inr (.inr f)⟩,?_⟩
    show(if g b then _ else _)=_;rw [if_neg (c8 oM)]
  ·exact h.st.keep L (i _ _ sM sM h.l1)
  ·refine h.Yk.mono λW a8 t=>?_
   obtain⟨x1,x2,x3,rfl,t⟩:=t;exact⟨x1,x2,x3,rfl,(t.keep L λb e=>i _ b sM sM e).mono (j _)⟩
  ·exact h.dn.keep L (i _ _ sM sM h.l2)
  ·refine h.YC.mono λa9 W a8 t=>?_
   obtain⟨x1,x2,x3,rfl,t⟩:=t;exact⟨x1,x2,x3,rfl,(t.keep L λb e=>i _ b sM sM e).mono (j _) λb e=>by have:=e.1.1;omega⟩
 ·have k1:aj g x s:=(ai.keep B).then J
  exact((b1.new k1 b0).af K).new S λb e=>.inr oM
 ·intro b e
  rcases e.2 with f|f|f
  ·exact b0 b f
  ·have:=A b f;exact .inr oM
  ·exact .inr oM
 ·intro b e
  have:=e2 b e;refine⟨oM,oM,λn=>by have:=n.1;omega⟩
theorem GQ (f:aR):∀(c:List ah) (a:bk) (b:Int×Int×Int),(((ay (c.foldl (λa e=>(a.add e).2) a).done b).getD []).length<=((ay a.done b).getD []).length+c.length)/\(c.foldl (λa e=>(a.add e).2) a).entries.length=a.entries.length+c.length
 |[],a,b=>by simp
 |e::c,a,b=>by
  rw [List.foldl_cons];obtain⟨g,h⟩:=GQ f c (a.add e).2 b;have k:((ay (a.add e).2.done b).getD []).length<=((ay a.done b).getD []).length+1:=by
   show((ay (a.try e).2.2.done b).getD []).length<=_;rw [bk.sR];split
   ·simp
   split
   ·simp
   split
   ·simp
   ·simp only
    rw [bu];split
    ·rename_i i
     have d:b=(e.bd,e.agg,e.field):=by simpa using i
     rw [d];simp
    ·simp
  have j:(a.add e).2.entries.length=a.entries.length+1:=by
   show((a.try e).2.2.entries++[_]).length=_;have:(a.try e).2.2.entries=a.entries:=by rw [bk.sR];split;rfl;split;rfl;split<;>rfl
   rw [this];simp
  refine⟨?_,by rw [h,j];simp;omega⟩;simp only [Xq]at g⊢;omega
theorem ID {q r s:Option Addr} {tn O t P j Q:Nat} (R:dd C=0) (S:eM w) (T:bh w D C q tn r t) (U:∀a,D a->a<w.heap.size) (u:Row fZ 96 w f s j M) (v:∀a,f a->a<w.heap.size) (c:M.length<=20000000):
  Calls ZX 40 #[.agg #[.slice q tn O,.slice r t P],.slice s j Q] w (Ok λV w'=>∃p F,V= .pointer (some ⟨p,0,none⟩)/\cT w' p F (cG C M)/\(∀a,F a->w.heap.size<=a)/\ai w w'):=by
 refine LG (PA.mk λw1 x s1 y=>⟨_,_,_,_,_,_,ae y rfl,ae y rfl,PC.ok (IM R (T.af x) λa c=>by have:=U a c;omega) ?_⟩);rintro _ w9 ⟨p,W,rfl,e,X,z⟩;have a9:=u.len;have Y:=x.then z;have z9:=z.size;refine⟨_,rfl,λA o w'=>∃b:Nat,o=b/\b<=j/\A=j-b/\∃F,cT w' p F (cG C (M.take b))/\(∀a,F a->w.heap.size<=a)/\ai w w',⟨_,0,rfl,Qj _,rfl,W,e,λa c=>by have:=X a c;omega,Y⟩,?_⟩;rintro A _ _ Z ⟨b,rfl,hj,rfl,F,e,k,g⟩;refine al.dec (λb0=>?_) (λb1=>?_)
 ·have B:b<M.length:=oM
  obtain⟨a,a0,es,ha,a1,b2,E,l,m,n,rfl,H,I⟩:=(u.af g).el b M[b] (Qq B);have J:M[b]? =some M[b]:=Qq B;generalize M[b]=d at E H I J;refine⟨a,a0,ha,oM,oM,br (es:=aE d l m n) (k:=10) (bg d l m n) rfl (λo ht=>E o ht) (PA.mk λb3 a3 b4 a5=>aD (bg d l m n) a5 rfl λa6 a7 b5 a8=>aw (bg d l m n) a8 ?_)⟩;have h:ai Z a6:=a3.new a7 λa c=>.inr oM;have K:=GQ C (M.take b) (bk.new C) (d.bd,d.agg,d.field);have b6:=List.length_take_le b M;have b7:((ay (cG C (M.take b)).done (d.bd,d.agg,d.field)).getD []).length<=0+(M.take b).length:=K.1;have b8:(cG C (M.take b)).entries.length=0+(M.take b).length:=K.2;have b9:=g.size;have c0:=h.size;refine PC.ok (IE (e.af h) (S.af (g.then h)) (H.af h) (λa c=>⟨by have:=v a c;omega,λhf=>by have:=k a hf;have:=v a c;omega⟩) I oM oM) ?_;rintro _ c1 ⟨a4,n4,c4,G,rfl,-,F',i,L,-⟩;refine cu (Rn _ a4 n4 c4) ⟨rfl,_,?_,b+1,an oM,oM,rfl,F',?_,λa c=>?_,(g.then h).new L.1 λa c=>.inr (k a c)⟩
  ·omega
  ·rw [Qw,J]
   unfold cG at i⊢;rw [List.foldl_append];exact i
  ·rcases L.2 a c with N|N
   ·exact k a N
   ·omega
 ·rw [Qz oM]at e
  exact Ok.mk ⟨p,F,rfl,e,k,g⟩
end
end Go.Proofs.YtfchlbaidamodaaGreatDoor
namespace Go.ax
open Go
variable{a2:List Value}{H a c c4 f0 i n:Nat}{f:Nat->Prop}{d p:Option Addr}{h:Program}{I j:Type}{g r:TypeId}{b:World}{y:World->Prop}
theorem QS {cs:List j} {p m:Nat} {v:j} {vs:List j} (a:p<cs.length):(cs.set p v).take (p+1)++vs++(cs.set p v).drop (p+1+m)=cs.take p++(v::vs)++cs.drop (p+(m+1)):=by
 have b:(cs.set p v).take (p+1)=cs.take p++[v]:=by
  rw [Qw,Xj,if_pos rfl,if_pos a,List.take_set_of_le (Q4 _)];rfl
 have c:(cs.set p v).drop (p+1+m)=cs.drop (p+(m+1)):=by
  rw [List.drop_set_of_lt oM,show p+1+m=p+(m+1) by omega]
 rw [b,c];simp
theorem DY {m:TypeId} {n:Nat} {h:Option Addr} {o e b i f:Nat} {p:World->Prop} (q:h=some ⟨i,f,none⟩):∀(c:List Value) (a:Nat) {d:World} {cs:List Value},Own d m n h o e cs->b+a+c.length<=cs.length->
  (∀g,Own g m n h o e (cs.take (b+a)++c++cs.drop (b+a+c.length))->aj (λi=>aI h=some i) d g->g.heap.size=d.heap.size->p g)->jG ⟨i,f+b,none⟩ a c d p
 |[],a,d,cs,j,r,k=>k d (by simpa using j) (aj.refl _) rfl
 |v::c,a,d,cs,j,r,k=>by
  unfold jG;rw [Xq]at r;rw [Addr.add_lit,Nat.add_assoc];refine j.set (m:=b+a) oM q λg s t u=>DY q c (a+1) s (by simp;omega) λw l x y=>k w ?_ (t.then x) (y.trans u);have:=QS (cs:=cs) (p:=b+a) (m:=c.length) (v:=v) (vs:=c) oM;rw [show b+(a+1)=b+a+1 from rfl]at l;rw [this]at l;exact l
theorem Own.store {l e m i f:Nat} {c cs:List Value} (o:Own b r a d l e cs) (p:d=some ⟨i,f,none⟩) (n:jg h g c=true) (q:m+c.length<=cs.length)
  (k:∀j,Own j r a d l e (cs.take m++c++cs.drop (m+c.length))->aj (λi=>aI d=some i) b j->j.heap.size=b.heap.size->y j):xJ h g (.pointer (some ⟨i,f+m,none⟩)) (.agg c.toArray) b y:=by
 simp only [jg,QK]at n;obtain⟨⟨⟨s,x⟩,t⟩,u⟩:=n;unfold xJ;have v:Nat.beq c.toArray.size (mB h g)=true:=by simpa using t
 have w:c.toArray.toList.all Value.oneCell'=true:=by simpa using u
 simp only [s,v,w];exact DY p c 0 o (by simpa using q) k
theorem fv.store {e:fv j I} {q:List (Bx j)} (x:aV e.k_ r f b d a c q) {k:Bx j} (z:q[i]? =some k) (M:d=some ⟨c4,f0,none⟩)
  {t:Nat} (C:a2=(e.hd k.x p n H).take t) (a0:e.o<t) (a1:t<=e.k) (N:jg h g a2=true)
  (A:∀u,aV e.k_ r f u d a c (q.set i ⟨k.x,p,n,H⟩)->aj (λl=>aI d=some l) b u->u.heap.size=b.heap.size->y u):xJ h g (.pointer (some ⟨c4,f0+i*e.k,none⟩)) (.agg a2.toArray) b y:=by
 obtain⟨cs,D,O,E,P⟩:=x.body;have F:=bT.om.1 E;have Q:i<q.length:=(Qv.1 z).1;have J:cs.length=q.length*e.k:=by rw [F];exact lN (λl:Bx j=>e.hl l.x l.a l.n l.c) q
 have v:a2.length=t:=by rw [C,Qy,e.hl];omega
 have R:(i+1)*e.k<=q.length*e.k:=Q0 _ Q;rw [X7,Nat.one_mul]at R;refine O.store (m:=i*e.k) M N (by rw [J,v];omega) λu S T K=>A u ⟨⟨_,D,S,bT.om.2 ?_,P⟩,x.self,λl U=>by rw [K];exact x.aF l U⟩ T K;have V:=sh (enc:=λl:Bx j=>e.hd l.x l.a l.n l.c) (k:=e.k) (λl=>e.hl l.x l.a l.n l.c) (x':=⟨k.x,p,n,H⟩) (v:=.slice p n H) e.ho q i k z (e.fz ..).symm;rw [<-V,<-F,v];have W:∀m,m<e.k->cs[i*e.k+m]? =(e.hd k.x k.a k.n k.c)[m]? :=λm X=>by
  obtain⟨Y,B,L⟩:=E.at z;have Z:Y=e.hd k.x k.a k.n k.c:=L.1;rw [<-Z];exact B m X
 apply X3;intro m;have s:∀o,o<t->a2[o]? =(e.hd k.x p n H)[o]? :=λo hu=>by rw [C,Xw,if_pos hu]
 by_cases B:m<i*e.k
 ·rw [XQ,XW (by rw [Qy];omega),Xw,if_pos B,Xj,if_neg oM]
 ·by_cases L:m<i*e.k+t
  ·rw [XQ,X8 (by rw [Qy];omega),XW (by rw [Qy,v];omega),Qy,s _ oM]
   obtain⟨o,rfl⟩:∃o,m=i*e.k+o:=⟨m-i*e.k,oM⟩
   rw [X2 oM,Nat.add_sub_cancel_left,Xj];have w:=e.fz k.x k.a k.n k.c p n H;split
   ·rename_i r
    have:o=e.o:=oM
    subst this;rw [if_pos (by rw [J];have:=e.ho;omega),<-w,Xj,if_pos rfl,if_pos (by rw [e.hl];exact e.ho)]
   ·rename_i r
    rw [W o oM,<-w,Xj,if_neg oM]
  ·rw [X8 (by rw [QX,Qy,v];omega),QX,Qy,v,List.getElem?_drop,Xj,if_neg (by have:=e.ho;omega)]
   congr 1
   omega
end Go.ax
namespace Go.ax
open Go
variable{h:Program}{y:World->Prop}
section
variable {α β:Type} {N:fv α β} {w9 w w':World} {a:Option Addr} {n c j:Nat} {L0:List (Bx α)} {e:TypeId}
theorem eO.step2 {i:TypeId} (z:eO N e w9 a n c L0 j w) {g:Nat} (p:a=Option.some ⟨g,0,none⟩) {d:Bx α} (k:L0[j]? =Option.some d) {a':Option Addr} {n' c':Nat} {G:Nat->Prop} (A:Row N.ci N.ib w G a' n' (N.inner d.x)) (C:N.ok d.x)
  (l:∀b,G b->w9.heap.size<=b/\b<w.heap.size) (U:g<w9.heap.size) {hd:List Value} {r:Nat} (E:hd=(N.hd d.x a' n' c').take r) (F:N.o<r) (H:r<=N.k) (I:jg h i hd=true) 
  (m:∀w',eO N e w9 a n c L0 (j+1) w'->aj (λd=>aI a=Option.some d) w w'->w'.heap.size=w.heap.size->y w'):xJ h i (.pointer (Option.some ⟨g,0+j*N.k,none⟩)) (.agg hd.toArray) w y:=by
 obtain⟨J,K,L,M,O,q,P,s⟩:=z;have t:J[j]? =Option.some d:=by rw [q j (Q4 _)];exact k
 have Q:=(Qv.1 t).1;have u:∀b,G b->¬aI a=Option.some b:=λb B e=>by
  have:=(l b B).1;rw [p]at e;simp only [aI,Q1]at e;omega
 refine fv.store L t p E F H I λR S f o=>m R ⟨_,λb=>K b\/G b,S,?_,?_,?_,P.then f,?_⟩ f o
 ·rw [List.map_set,M]
  apply X3;intro i;rw [Xj];split
  ·rename_i e;subst e
   rw [if_pos (by simpa using(Qv.1 k).1),Q9,k];rfl
  ·rfl
 ·intro v b V B
  rw [Xj]at B
  by_cases x:j=v
  ·subst x
   rw [if_pos rfl,if_pos Q]at B
   cases B
   exact⟨(A.keep f λb B=>u b B).mono λb B=>.inr B,C⟩
  ·rw [if_neg x]at B
   exact((O v b oM B).keep f λb B=>(s b B).2.2).mono λb B=>.inl B
 ·intro T W
  rw [Xj,if_neg oM,q T oM]
 ·rintro b (B|B)
  ·rw [o];exact s b B
  ·rw [o];exact⟨(l b B).1,(l b B).2,u b B⟩
end
end Go.ax
namespace Go.Proofs.YtfchlbaidamodaaGreatDoor
open Go.ax
variable{a c:Nat}{d:Option Addr}
section
variable {w w':World} {p:Nat} {F D:Nat->Prop} {V:bk}
theorem AR {b:List (Bx df)} (f:Row NJ.k_ 120 w D d a b) (g:∀e,D e->e<w.heap.size):Calls ZX 394 #[.slice d a c] w (Ok (qD NJ.k_ 160 w b)):=
 gX (By Tm dC f g λi w' h=>Ok.mk h)
theorem GS (e:cT w p F V) (c:V.entries.length<=20000000):Calls ZX 392 #[.pointer (some ⟨p,0,none⟩)] w (Ok (qD Ab 160 w V.entries)):=by
 obtain⟨X,Y,e⟩:=e;have l:=e.QU.row (bytes:=120) dC (by unfold aQ;omega);have I:=l.d_;have Z:=l.len;obtain⟨g,x,J,K⟩:=fv.boxes l;have a8:g.length=V.entries.length:=by rw [<-x];simp
 refine tA ⟨p,0,rfl,_,_,_,ae e.at' rfl,PC.ok (AR J λa c=>e.aF a c.1) ?_⟩;rintro _ y ⟨j,h,z,F9,rfl,k,A,L⟩;have m:∀a,aI j=some a->w.heap.size<=a:=λa c=>L a (k.self a c);have M:∀a,aI j=some a->a<y.heap.size:=λa c=>k.aF a (k.self a c);refine⟨_,_,_,rfl,λB N w'=>∃d:Nat,N=d/\d<=h/\B=h-d/\eO NJ 160 y j h z g d w',⟨_,0,rfl,Qj _,rfl,eO.start k.alone⟩,?_⟩;rintro B _ _ O ⟨d,rfl,hj,rfl,f⟩;have b0:=f.len;have n:ai w O:=A.new f.keep λa c=>.inr (m a c);have zk:=f.keep.size;refine al.dec (λb1=>?_) (λb2=>?_)
 ·obtain⟨i,rfl⟩:=f.some oM
  have b3:=m i rfl;have P:=M i rfl;have o:g[d]? =some g[d]:=Qq oM;have q:=K g[d] (XY oM);generalize g[d]=b at o q;refine⟨i,0,rfl,oM,oM,br (es:=aE b.x.ev b.a b.n b.c) (k:=10) (bg _ _ _ _) rfl (λr Q=>?_) (PC.ok (oV (e:=b.x.ev) (q.1.af n) λa c=>by have:=e.aF a c.1;have:=n.size;omega) ?_)⟩
  ·have R:=f.cell rfl o (by show h*13<=aQ;unfold aQ at I⊢;omega) r
   rw [Qx];have s:r<(aE b.x.ev b.a b.n b.c).length:=Q;rw [Qq s];refine R _ ?_;show(aE b.x.ev b.a b.n b.c++_)[r]? =_;rw [XW s,Qq s]
  rintro _ b4 ⟨t,u,v,G,rfl,S,C,T⟩;refine cu (sW b.x.ev t u v) ⟨rfl,i,0,rfl,oM,oM,?_⟩;rw [Qx];refine(f.af T).step2 (g:=i) rfl o (a':=t) (n':=u) (c':=v) (G:=G) S q.2 (λE H=>⟨by have:=C E H;omega,(C E H).2⟩) P (hd:=aE b.x.ev t u v) (r:=10) rfl dC dC (bg _ _ _ _) λb5 U b6 b7=>⟨_,?_,d+1,an oM,oM,rfl,U⟩
  omega
 ·obtain rfl:d=h:=oM
  obtain⟨Fd,hd,W⟩:=f.done;rw [x]at hd;have z9:=A.size;exact Ok.mk ⟨j,_,z,Fd,rfl,hd,n,λa c=>(W a c).elim (m a) λe=>oM⟩
end
end Go.Proofs.YtfchlbaidamodaaGreatDoor
namespace Go.Proofs.YtfchlbaidamodaaGreatDoor
open Go.ax
def bz (a:ep):List Value:=[XG a.group,XG a.value,XG a.count]
def ep.Ok (a:ep):Prop:=aN a.group/\aN a.value/\aN a.count
def IN:kM ep:=flat 3 bz ep.Ok (λ_=>rfl) (λb c a=>by simp [bz]at a;rcases a with rfl|rfl|rfl<;>rfl)
theorem XR:jP ZX 44 268 3 24:=⟨kR,kR,dC⟩
variable{T q:Array Value}{z:FuncId}{e m:Int}{d9:ep}
section
variable {w w':World} {D:Nat->Prop} {a:Option Addr} {n c:Nat} {l:List ep}
theorem Dy (d:Row IN 24 w D a n l) (e:∀b,D b->b<w.heap.size):Calls ZX 227 #[.slice a n c] w (Ok (qD IN 268 w l)):=
 jD (By XR dC d e λg w' f=>Ok.mk f)
theorem MN {most:Int} (d:Row IN 24 w D a n l) (h:∀e,D e->e<w.heap.size) (v:n<=c):
  Calls ZX 165 #[.slice a n c,XG most] w (Ok λi w'=>∃f,i= .tuple #[f,.bool (decide ((max most 0).toNat<l.length))]/\qD IN 268 w (l.take (max most 0).toNat) f w'):=by
 have x:=d.len;have j:(if 0>most then 0 else most)=max most 0:=by split<;>omega
 refine EE ?_;rw [j];obtain⟨b,g⟩:∃b:Nat,(if(n:Int)<max most 0 then(n:Int)else max most 0)=b:=⟨(if(n:Int)<max most 0 then(n:Int)else max most 0).toNat,by split<;>omega⟩
 rw [g];have k:b=min n (max most 0).toNat:=by split at g<;>omega
 rw [Qx];refine⟨oM,oM,oM,PC.ok (Dy (d.take (m:=b) oM) h) ?_⟩;rintro _ y ⟨m,o,p,q,rfl,r,s,t⟩;refine⟨_,_,_,rfl,Ok.mk ⟨_,?_,m,o,p,q,rfl,?_,s,t⟩⟩
 ·have:decide ((b:Int)<(n:Int))=decide ((max most 0).toNat<l.length):=by rw [decide_eq_decide];omega
  rw [this]
 ·have:l.take (max most 0).toNat=l.take b:=by
   rw [k]
   by_cases u:(max most 0).toNat<=n
   ·rw [Nat.min_eq_right u]
   ·rw [X2 oM,Qz oM,Qz oM]
  rw [this];exact r
theorem Kj {c k:Nat} (u:c<=20000000) (l:k<=c) (m:enters ZX z=true)
  (n:∀(d:Nat) f,d<c->ai w f->Calls ZX z (q++ #[XG (d:Int)]++T) f (Ok λg w'=>g= .bool (decide (k<=d))/\ai f w')):
  Calls ZX 163 #[XG (c:Int),.func (.func z) q T] w (Ok λg w'=>g= XG (k:Int)/\ai w w'):=by
 refine Cc ⟨λh d o w'=>∃a b:Nat,d=a/\o=b/\h=b-a/\a<=b/\b<=c/\a<=k/\k<=b/\ai w w',⟨_,0,c,rfl,rfl,rfl,oM,oM,oM,l,aj.refl _⟩,?_⟩;rintro h _ _ _ p ⟨a,b,rfl,rfl,rfl,v,r,s,t,e⟩;refine al.dec (λx=>?_) (λy=>?_)
 ·rw [VD oM]
  refine⟨_,_,_,rfl,m,PC.ok (n _ p oM e) ?_⟩;rintro _ A ⟨rfl,i⟩;refine⟨_,rfl,al.not (al.dec (λj=>⟨_,?_,a,(a+b)/2,rfl,rfl,rfl,oM,oM,s,j,e.then i⟩) (λj=>⟨_,?_,(a+b)/2+1,b,an oM,rfl,rfl,oM,r,oM,t,e.then i⟩))⟩
  ·omega
  ·omega
 ·obtain rfl:a=k:=oM
  exact Ok.mk ⟨rfl,e⟩
theorem ud {b:Type} (a:b->Bool):∀l:List b,l.dropWhile a=l.drop (posOf a l)
 |[]=>rfl
 |x::l=>by
  unfold posOf;rw [List.dropWhile_cons,List.takeWhile_cons]
  cases c:a x
  ·simp
  ·simpa [posOf]using ud a l
abbrev vE (l:List ep):Prop:=l.Pairwise λa b=>a.group<b.group
theorem UI {l:List ep} (d:vE l) {a:Nat} (b:l[a]? =some d9):decide (posOf (λd9=>decide (d9.group<=e)) l<=a)=decide (d9.group>e):=by
 rw [decide_eq_decide]
 induction l generalizing a with
 |nil=>simp at b
 |cons f l g=>
  obtain⟨h,i⟩:=List.pairwise_cons.1 d;unfold posOf;rw [List.takeWhile_cons]
  by_cases c:f.group<=e
  ·rw [decide_eq_true c]
   cases a with
   |zero=>
    simp at b;subst b;simp;omega
   |succ a=>
    have:=g i (by simpa using b);unfold posOf at this;simp only [if_true,Xq];omega
  ·rw [Xv c]
   simp only [Bool.false_eq_true,if_false,List.length_nil,Qj,true_iff]
   cases a with
   |zero=>simp at b;subst b;omega
   |succ a=>
    have:=h d9 (QZ (by simpa using b));omega
theorem MO (k:Row IN 24 w D a n l) (v:∀d,D d->d<w.heap.size) (x:n<=c) (y:vE l) (z:n<=20000000):
  Calls ZX 101 #[.slice a n c,XG e,XG m] w (Ok λA w'=>∃b,A= .tuple #[b,.bool (ot l e (max m 0).toNat).2]/\qD IN 268 w (ot l e (max m 0).toNat).1 b w'):=by
 have Q:=k.len;have R:=Bp (λb:ep=>decide (b.group<=e)) l;refine Hp (PA.mk λS q T o=>PA.mk λU h V B=>⟨_,_,_,ae (h.get o id) rfl,PC.ok (Kj (k:=posOf (λb=>decide (b.group<=e)) l) z oM kR λi C W f=>?_) ?_⟩)
 ·have g:=(q.then h).then f
  obtain⟨d,E,X,F,j,-,H,rfl,-⟩:=(k.af g).el i l[i] (Qq oM);have I:l[i]? =some l[i]:=Qq oM;refine BW ⟨_,_,_,ae (f.get (h.get o id) id) rfl,d,E,F,oM,oM,_,by rw [Qx];exact H 0 dC,_,ae (f.get B id) rfl,λJ K=>Ok.mk ⟨?_,K.keep⟩⟩;rw [UI y I]
 ·rintro _ C ⟨rfl,f⟩
  have g:=(q.then h).then f;have p:=(k.af g).part (lo:=posOf (λb=>decide (b.group<=e)) l) (hi:=n) (cap:=c) oM (Q4 _) x;rw [Qz oM]at p;have L:IN.k=3:=rfl;rw [L]at p;refine⟨_,rfl,_,_,_,ae (f.get (h.get o id) id) rfl,oM,oM,?_⟩;rw [Qx];refine PC.ok (MN (most:=m) p (λd j=>by have:=v d j;have:=g.size;omega) oM) ?_;rintro _ J ⟨_,rfl,r,s,t,M,rfl,N,O,P⟩;have u:l.dropWhile (λb=>decide (b.group<=e))=l.drop (posOf (λb=>decide (b.group<=e)) l):=ud _ l;refine⟨_,_,_,_,rfl,Ok.mk ⟨.slice r s t,?_,r,s,t,M,rfl,?_,g.then O,λd j=>by have:=P d j;have:=g.size;omega⟩⟩
  ·unfold ot;rw [u]
  ·unfold ot;rw [u];exact N
end
def ub (a:ep):Value:=.agg (bz a).toArray
theorem PM (a:ep):jg ZX 268 (bz a)=true:=kR
theorem Za (a:ep):TF (fe ZX 268) (.agg (bz a).toArray)=true:=kR
structure lO (w:World) (p r:Nat) (R:ef):Prop where
 at':w.heap[p]? =some (.cells #[XG R.p.bd,XG R.p.field,XG R.p.group,XG R.p.GO,XG R.p.make,.map (some r)] 288 (0,0))
 map:cx w r (Value.int .i64) (R.rows.map λx=>(x.1,ub x.2))
 ok:∀x∈R.rows,ep.Ok x.2/\x.2.group=x.1
variable{a c:Nat}{d:Option Addr}{k:ah}{d8:jO}
section
variable {w w':World} {p r:Nat} {R:ef} {T:Nat->Prop}
theorem lO.keep (a:lO w p r R) (b:aj T w w') (c:¬T p) (d:¬T r):lO w' p r R:=⟨b.get a.at' c,a.map.keep b d,a.ok⟩
theorem lO.af (a:lO w p r R) (b:ai w w'):lO w' p r R:=a.keep b id id
theorem Rt :Calls ZX 133 #[.agg (oy d8).toArray] w (Ok λc w'=>∃p r,c= .pointer (some ⟨p,0,none⟩)/\lO w' p r ⟨d8,[]⟩/\w.heap.size<=p/\w.heap.size<=r/\p<w'.heap.size/\r<w'.heap.size/\ai w w'):=by
 refine LJ (PA.mk λd e k a=>⟨_,_,_,_,_,ae a rfl,ae a rfl,ae a rfl,ae a rfl,ae a rfl,PA.mk λf g l h=>PA.mk λm b n i=>Ok.mk ⟨f.heap.size,d.heap.size,rfl,⟨i,cx.new (b.get h id),λd8 j=>by cases j⟩,oM,oM,oM,oM,(e.then g).then b⟩⟩)
def Ie (a:jO) (c:ah) (b:Int):Option Int:=if a.group=1 then some c.agg else if a.group=2 then some c.arg else if a.group=3 then some b else none
theorem MP (j:lO w p r R) :Calls ZX 263 #[.pointer (some ⟨p,0,none⟩),kK k d a c,XG e] w (Ok λl w'=>l= .tuple #[XG ((Ie R.p k e).getD 0),.bool (Ie R.p k e).isSome]/\ai w w'):=by
 refine wg (PA.mk λm b n i=>⟨p,0,rfl,_,ae (j.af b).at' rfl,al.dX (λf=>⟨_,ae i rfl,Ok.mk ⟨?_,b⟩⟩) (λf=>al.dX (λg=>⟨_,ae i rfl,Ok.mk ⟨?_,b⟩⟩) (λg=>al.dX (λh=>Ok.mk ⟨?_,b⟩) (λh=>Ok.mk ⟨?_,b⟩)))⟩)
 ·unfold Ie;rw [if_pos f];rfl
 ·unfold Ie;rw [if_neg f,if_pos g];rfl
 ·unfold Ie;rw [if_neg f,if_neg g,if_pos h];rfl
 ·unfold Ie;rw [if_neg f,if_neg g,if_neg h];rfl
theorem Qh (h:lO w p r R) {arg:Int}:Calls ZX 264 #[.pointer (some ⟨p,0,none⟩),.agg (bz d9).toArray,XG arg] w (Ok λm w'=>m= XG (mG R.p d9 arg)/\ai w w'):=by
 refine yk (PA.mk λn c q g=>?_);have d:=(h.af c).at';refine⟨_,ae g rfl,p,0,rfl,_,ae d rfl,al.dX (λe=>⟨_,ae g rfl,Ok.mk ⟨?_,c⟩⟩) (λe=>⟨p,0,rfl,_,ae d rfl,al.dX (λf=>⟨_,ae g rfl,Ok.mk ⟨?_,c⟩⟩) (λf=>⟨λl w'=>l=decide (R.p.make=5\/d9.count=1/\(R.p.make=3\/R.p.make=4))/\n=w',?_,?_⟩)⟩)⟩
 ·unfold mG;rw [if_pos e]
 ·unfold mG;rw [if_neg e,if_pos f]
 ·refine⟨p,0,rfl,_,ae d rfl,al.dX (λi=>⟨?_,rfl⟩) (λi=>al.dX (λk=>⟨p,0,rfl,_,ae d rfl,al.dX (λa=>⟨?_,rfl⟩) (λa=>⟨p,0,rfl,_,ae d rfl,?_,rfl⟩)⟩) (λk=>⟨?_,rfl⟩))⟩
  ·rw [decide_eq_true (.inl i)];simpa using i
  ·rw [decide_eq_true (.inr ⟨k,.inl a⟩)]
  ·by_cases b:R.p.make=4
   ·rw [decide_eq_true (.inr ⟨k,.inr b⟩)];simpa using b
   ·rw [Xv (by rintro(h|⟨-,h|h⟩);exact i h;exact a h;exact b h)];simpa using b
  ·rw [Xv (by rintro(h|⟨h,-⟩);exact i h;exact k h)]
 ·rintro l _ _ ⟨o,rfl⟩
  subst o;refine al.dec (λj=>Ok.mk ⟨?_,c⟩) (λj=>⟨p,0,rfl,_,ae d rfl,al.dX (λa=>⟨_,ae g rfl,Ok.mk ⟨?_,c⟩⟩) (λa=>⟨p,0,rfl,_,ae d rfl,al.dX (λb=>⟨_,ae g rfl,Ok.mk ⟨?_,c⟩⟩) (λb=>Ok.mk ⟨?_,c⟩)⟩)⟩)
  ·unfold mG;rw [if_neg e,if_neg f,if_pos j]
  ·have:(if arg<d9.value then arg else d9.value)=min d9.value arg:=by split<;>omega
   unfold mG;rw [if_neg e,if_neg f,if_neg j,if_pos a,<-this]
  ·have:(if arg>d9.value then arg else d9.value)=max d9.value arg:=by split<;>omega
   unfold mG;rw [if_neg e,if_neg f,if_neg j,if_neg a,if_pos b,<-this]
  ·unfold mG;rw [if_neg e,if_neg f,if_neg j,if_neg a,if_neg b]
end
theorem SN:nu ZX 286 3 268 (ub ⟨0,0,0⟩):=⟨kR,kR⟩
theorem OD {b f g:Type} [BEq b] (c:f->g) (d:b):∀a:List (b×f),ay (a.map λe=>(e.1,c e.2)) d=(ay a d).map c
 |[]=>rfl
 |(e,h)::a=>by
  simp only [QY];unfold ay;split
  ·rfl
  ·exact OD c d a
theorem OE {d e h:Type} [BEq d] (b:e->h) (f:d) (g:e):∀c:List (d×e),aJ (c.map λa=>(a.1,b a.2)) f (b g)=(aJ c f g).map λa=>(a.1,b a.2)
 |[]=>rfl
 |(a,i)::c=>by
  simp only [QY];unfold aJ;split
  ·simp
  ·simp [OE b f g c]
section
variable {w w':World} {p r:Nat} {R:ef}
theorem ef.add_def (r:ef) (e:df) (b:Int):r.add e b=match Ie r.p e.ev b with
  |none=>r
  |some a=>if e.void||e.ev.bd !=r.p.bd||e.ev.field !=r.p.field then r else
   {r with rows:=aJ r.rows a ⟨a,mG r.p ⟨a,((ay r.rows a).getD ⟨0,0,0⟩).value,pH (((ay r.rows a).getD ⟨0,0,0⟩).count+1)⟩ e.ev.arg,pH (((ay r.rows a).getD ⟨0,0,0⟩).count+1)⟩}:=rfl
theorem IF:aN 0:=by unfold aN;omega
theorem Wq {arg:Int} (a:ep.Ok d9) (b:aN arg):aN (mG d8 d9 arg):=by
 obtain⟨d,e,c⟩:=a;unfold mG;split;exact c;split;exact NU _;split;exact b;split
 ·unfold aN at*;omega
 split
 ·unfold aN at*;omega
 ·exact IF
theorem Ro (j:lO w p r R) (a1:p≠r) {x:df} (y:x.ev.Ok) (a2:aN e):Calls ZX 201 #[.pointer (some ⟨p,0,none⟩),GP x d a c,XG e] w (Ok λm w'=>m= .tuple #[]/\lO w' p r (R.add x e)/\aj (·=r) w w'):=by
 have b1:=aC j.at';have b2:=j.map.lt;refine AA (PA.mk λw1 M s1 N=>Wr (cs:=aE x.ev d a c) (bg _ _ _ _) N (λa3 m O=>?_) (PC.ok (MP (j.af M)) ?_))
 ·rw [Xz]
  have a4:=(Qv.1 O).1;show(aE x.ev d a c++_).toArray[a3]? =_;simp only [List.getElem?_toArray];rw [XW a4];exact O
 rintro _ P ⟨rfl,Q⟩;have n:=M.then Q;have o:=Q.get N id;have s:=j.af n;have g:R.add x e=R->∀i,bE P i->Ok (λm w'=>m= .tuple #[]/\lO w' p r (R.add x e)/\aj (·=r) w w') (.returned (.tuple #[])) i:=λhe i k=>Ok.mk ⟨rfl,by rw [he];exact s.af k.keep,ai.keep (n.then k.keep)⟩;refine⟨_,_,rfl,al.not (al.mk (λz=>?_) (λz=>g ?_))⟩
 rotate_left
 ·rw [ef.add_def,show Ie R.p x.ev e=none by simpa using z]
 obtain⟨f,h⟩:=Option.isSome_iff_exists.1 z;rw [h,Option.getD_some];have t:∀{q:ef},(if x.void||x.ev.bd !=R.p.bd||x.ev.field !=R.p.field then R else
   {R with rows:=aJ R.rows f ⟨f,mG R.p ⟨f,((ay R.rows f).getD ⟨0,0,0⟩).value,pH (((ay R.rows f).getD ⟨0,0,0⟩).count+1)⟩ x.ev.arg,pH (((ay R.rows f).getD ⟨0,0,0⟩).count+1)⟩})=q->R.add x e=q:=λ{q} A=>by
  rw [ef.add_def,h];exact A
 refine⟨_,ae o rfl,al.mk (λl=>g (t (by rw [l];rfl))) (λl=>⟨_,ae o rfl,p,0,rfl,_,ae s.at' rfl,al.dw (λB=>g (t ?_)) (λB=>⟨_,ae o rfl,p,0,rfl,_,ae s.at' rfl,λi k=>?_⟩)⟩)⟩
 ·rw [l,show(x.ev.bd !=R.p.bd)=true by simpa using B];rfl
 have S:(x.ev.bd !=R.p.bd)=false:=by simpa using B
 have u:ai P i:=k.keep;have v:=s.af u;refine al.dw (λC=>g (t (by rw [l,S,show(x.ev.field !=R.p.field)=true by simpa using C];rfl)) i k) (λC=>?_);have a5:(x.ev.field !=R.p.field)=false:=by simpa using C
 have T:aN f:=by
  unfold Ie at h;split at h
  ·cases h;exact y.agg
  split at h
  ·cases h;exact y.arg
  split at h
  ·cases h;exact a2
  ·cases h
 obtain⟨b,E⟩:∃b,b=(ay R.rows f).getD ⟨0,0,0⟩:=⟨_,rfl⟩
 have a6:ep.Ok b:=by
  rw [E]
  cases A:ay R.rows f with
  |none=>exact⟨IF,IF,IF⟩
  |some U=>exact(j.ok _ (cF A)).1
 have a7:(ay (R.rows.map λx=>(x.1,ub x.2)) f).getD (ub ⟨0,0,0⟩)=ub b:=by
  rw [OD,E];cases ay R.rows f<;>rfl
 refine⟨p,0,rfl,_,ae v.at' rfl,AY SN GZ v.map ?_⟩;rw [a7];refine cu (Za b) ⟨rfl,PA.mk λw4 k4 s4 g4=>aD (PM b) g4 rfl λw5 k5 s5 g5=>PS.mk g5 (by simp [bz]) λw6 k6 s6 V=>⟨_,ae V rfl,PS.mk V (by simp [bz]) λw7 k7 s7 W=>?_⟩⟩;have F:ai i w7:=((k4.new k5 λH I=>.inr oM).new k6 λH I=>.inr oM).new k7 λH I=>.inr oM;have a8:=F.get (u.get o id) id;refine aw (cs:=bz ⟨f,b.value,pH (b.count+1)⟩) (PM _) W ⟨_,ae a8 rfl,PC.ok (Qh (v.af F)) ?_⟩;rintro _ w8 ⟨rfl,J⟩;have z8:=J.size;refine⟨_,rfl,PS.mk (J.get W id) (by simp [bz]) λw9 k9 s9 g9=>λX a9=>?_⟩;have Y:ai w9 X:=a9.keep;have Z:ai i X:=((F.then J).new k9 λH I=>.inr oM).then Y;have K:=v.af Z;have z3:=(n.then u).size;refine⟨p,0,rfl,_,ae K.at' rfl,aw (cs:=bz ⟨f,mG R.p ⟨f,b.value,pH (b.count+1)⟩ x.ev.arg,pH (b.count+1)⟩) (PM _) (Y.get g9 id) (jz SN GZ K.map λb3 b0 a0 b4=>Ok.mk ⟨rfl,?_,?_⟩)⟩
 ·rw [t (q:={R with rows:=aJ R.rows f ⟨f,mG R.p ⟨f,b.value,pH (b.count+1)⟩ x.ev.arg,pH (b.count+1)⟩}) (by rw [l,S,a5,E];rfl)]
  refine⟨a0.get K.at' a1,?_,λU L=>?_⟩
  ·rw [<-OE];exact b0
  ·rcases fG L with rfl|L
   ·exact⟨⟨T,Wq ⟨T,a6.2.1,NU _⟩ y.arg,NU _⟩,rfl⟩
   ·exact j.ok U L
 ·exact(ai.keep ((n.then u).then Z)).then a0
end
section
variable {w w':World} {p r:Nat} {R:ef}
theorem OT (g:lO w p r R):Calls ZX 250 #[.pointer (some ⟨p,0,none⟩)] w (Ok λh w'=>∃d f,h= .pointer (some ⟨d,0,none⟩)/\lO w' d f R/\d≠f/\w.heap.size<=d/\w.heap.size<=f/\d<w'.heap.size/\f<w'.heap.size/\ai w w'):=by
 refine yj λb j=>?_;have k:ai w b:=j.keep;have u:b.heap.size=w.heap.size:=by rw [j.heap]
 have c:=g.af k;obtain⟨e,a,m,n,o,q⟩:=c.map.at';refine⟨no,p,0,rfl,id,_,_,_,_,_,ae c.at' rfl,ae c.at' rfl,ae c.at' rfl,ae c.at' rfl,ae c.at' rfl,p,0,rfl,_,ae c.at' rfl,PC.ok (φ:=λh w'=>h= .map (some b.heap.size)/\w'=b.alloc (.map e a)) ((AnyW.maps_Clone Tryz.Ws r e a b m).mono ?_) ?_⟩
 ·rintro v w' ⟨rfl,s⟩
  exact Ok.mk ⟨rfl,s⟩
 ·rintro _ x ⟨rfl,rfl⟩
  have l:ai b (b.alloc (.map e a)):=aj.alloc _ _;have y:(b.alloc (.map e a)).heap.size=b.heap.size+1:=sM
  refine⟨_,rfl,ai.keep l,PA.mk λz i A t=>⟨ai.keep i,Ok.mk ⟨_,b.heap.size,rfl,⟨t,⟨⟨e,a,i.get (heap_alloc_new b _) id,n,o,q⟩,g.map.tidy⟩,g.ok⟩,?_⟩⟩⟩;refine⟨oM,oM,oM,oM,oM,(k.then l).then i⟩
end
end Go.Proofs.YtfchlbaidamodaaGreatDoor

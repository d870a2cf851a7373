import Derived.Test.YtfchlbaidamodaaGreatDoorKb26
set_option linter.all false
set_option maxRecDepth 20000
namespace Go.Proofs.YtfchlbaidamodaaGreatDoor
open Go.ax
variable{a c:Nat}{b:World}{k:ah}{d9:jO}
section
variable {w w':World} {p:Nat} {F T D:Nat->Prop} {cls:Nat->Nat} {q:xC} {d:aR} {V:bk} {Rs:List ef} {l:List ah} {pts:List (List ef)}
def qG (V:bk) (a:ah) (Rs:List ef):List ef:=Rs.map λb=>b.add (V.add a).1 (tI ((V.add a).2.state a.bd a.agg) b.p)
theorem TG {d:aR} (e:dd d=0) (f:d9∈d.projs):0<=d9.GO:=by
 have b:=(lu e).2.2 d9 f;unfold mK at b;split at b
 ·cases b
 split at b
 ·cases b
 rename_i a
 by_cases c:d9.group=3
 ·rw [c]at a
  simp only [BEq.rfl,Bool.true_and,bne_self_eq_false,Bool.false_and,Bool.or_false,Bool.not_eq_true,Bool.not_eq_false']at a;unfold Tz within at a;simp only [QK,decide_eq_true_eq]at a;exact a.1.1
 ·have g:(d9.group==3)=false:=by simpa using c
  have h:(d9.group !=3)=true:=by simpa using c
  rw [g,h]at a;simp at a;omega
theorem Fq {V:bk} (b:V.OK) (a:ah):((V.state a.bd a.agg).getD IB).cells.length<=8:=by
 have c:=b.len a;have d:=(xD (lu b.decl).1).2.2.2;have i:(V.decl.at a.bd).length<=8:=by
  unfold aR.at;split
  ·rw [QQ]
   cases e:V.decl.types[a.bd.toNat]? with
   |none=>simp
   |some f=>exact(d f (QZ e)).2
  ·simp
 unfold bk.cellsOf at c;unfold bk.state
 cases g:ay V.fj (a.bd,a.agg)with
 |none=>simp
 |some h=>simp only [g]at c;show h.cells.length<=8;omega
def YD (w a:World) (p:Nat) (F:Nat->Prop) (q:xC) (d:aR) (V:bk) (Rs:List ef) (l:List ah) (pts:List (List ef)) (f:ah) (b g:Nat) (w':World):Prop:=
 g=0/\∃h i j c k,w'.heap[b]? =some (.cells (iG (V.add f).1 h i j).toArray 160 (0,0))/\eH w' c k p q d (V.add f).2 Rs l pts/\(∀e,c e->F e\/a.heap.size<=e)/\aj F a w'/\a.heap.size<=b/\¬c b
theorem Rm (v:eH w F cls p q d V Rs l pts) (hd:dd d=0) (hT:eM b) (g0:ai b w) (g3:∀e,F e->b.heap.size<=e) (hl:l.length+1<=20000000) (k4:V.entries.length<=20000000) (g4:Rs.map (·.p)=d.projs)
  (k5:pts.length*q.every<9223372036854775808) (k6:pts.length<=20000001) {J:Option Addr} (k7:((ay V.done (k.bd,k.agg,k.field)).getD []).length<=20000000)
  (hr:Row aP 8 w D J a k.aK) (R:∀e,D e->e<w.heap.size/\¬F e) (he:k.Ok):
  Calls ZQ 144 #[.pointer (some ⟨p,0,none⟩),kK k J a c] w (Ok λa5 w'=>a5= .tuple #[]/\∃q' S a0,eH w' S a0 p q' d (V.add k).2 (qG V k Rs) (l++[k]) (if l.length+1=pts.length*q.every then pts++[qG V k Rs]else pts)/\q'.every=q.every/\de F w S w'):=by
 have T:=v.aF;have q7:=T p v.self.1;have q8:Rs.length=d.projs.length:=by rw [<-g4,Q8]
 have q9:d.projs.length<=8:=(xD (lu hd).1).2.2.1;refine vD (PA.mk λe0 b8 r0 g5=>?_);have k8:=eH.af v b8;refine⟨YD w e0 p F q d V Rs l pts k,?_,?_⟩
 ·intro s g6
  have a6:ai e0 s:=g6.keep;have r3:s.heap.size=e0.heap.size:=by rw [g6.heap]
  have e1:=eH.af k8 a6;have a7:=b8.then a6;have g7:=e1.bG;have a1:∀{r:World},ai s r->Calls ZQ 79 #[.pointer (some ⟨q.vp,0,none⟩),kK k J a c] r (Ok λa5 w'=>∃J a c G,a5=GP (V.add k).1 J a c/\Row aP 8 w' G J a k.aK/\∃S,cT w' q.vp S (V.add k).2/\de (λe=>F e/\cls e=3) r S w'/\∀e,G e->r.heap.size<=e/\e<w'.heap.size/\¬S e):=λ{r} U=>
   IE (show cT r q.vp (λe=>F e/\cls e=3) V from(eH.af e1 U).at' 3) (hT.af (g0.then (a7.then U))) (hr.af (a7.then U)) (λe f=>⟨by have:=(R e f).1;have:=(a7.then U).size;omega,λi=>(R e f).2 i.1⟩) he k7 k4
  have fr:∀{r w2:World} {t:Nat->Prop},ai s r->cT w2 q.vp t (V.add k).2->de (λe=>F e/\cls e=3) r t w2->∃j n,eH w2 j n p q d (V.add k).2 Rs l pts/\(∀e,j e->F e\/t e)/\(∀e,j e->F e\/r.heap.size<=e)/\aj F r w2:=λ{r w2 t} U W y=>by
   obtain⟨j,n,X,K,o,-⟩:=(eH.af e1 U).Ec ej (k:=3) (G':=t) (C2:=Bj p q.cells q d (V.add k).2 Rs l pts) y W.aF W λg G Y hc=>by
    rcases g with _|_|_|_|_|_|g<;>first|exact hc|exact absurd rfl Y
   exact⟨j,n,X,λe f=>(o e f).imp (·.1) id,K.new,K.keep⟩
  have nS:¬((F p/\cls p=3)\/s.heap.size<=p):=by
   rintro(⟨-,h⟩|h)
   ·rw [v.self.2]at h;cases h
   ·omega
  have b9:¬((F w.heap.size/\cls w.heap.size=3)\/s.heap.size<=w.heap.size):=by
   rintro(⟨h,-⟩|h)
   ·have:=T _ h;omega
   ·omega
  refine⟨λe=>(F e/\cls e=3)\/s.heap.size<=e,p,0,rfl,nS,_,ae g7 rfl,b9,aw (bg k J a c) (a6.get g5 id) ⟨PC.ok (a1 (aj.refl _)) ?_,PA.mk λr4 c0 r5 k9=>⟨ai.keep c0,PC.ok (a1 c0) ?_⟩⟩⟩
  ·rintro _ e2 ⟨z,A,B,G1,rfl,-,t,W,y,-⟩
   obtain⟨j,n,X,g8,o,kF⟩:=fr (aj.refl _) W y;have r6:=y.keep.size;have g9:=X.aF;refine cu (Rn _ z A B) ⟨rfl,y.keep.mono λe _ f=>.inl f,PA.mk λr7 e3 r8 l0=>⟨ai.keep e3,aD (mg _ z A B) l0 rfl λr9 e4 s0 l3=>⟨e4.mono λe _ k=>.inr (by have k:e=e2.heap.size:=k;omega),rfl,z,A,B,j,n,l3,?_,λe f=>?_,?_,oM,λi=>by have:=g9 _ i;omega⟩⟩⟩
   ·exact bS.keep (eH.af X e3) ej e4 λe f k=>by have k:e=e2.heap.size:=k;have:=g9 e f;omega
   ·rcases o e f with h|h
    ·exact .inl h
    ·exact .inr oM
   ·exact(((ai.keep a6).then kF).af e3).new e4 λe f=>.inr (by have f:e=e2.heap.size:=f;omega)
  ·rintro _ s1 ⟨z,A,B,G1,rfl,-,t,W,y,-⟩
   obtain⟨j,n,X,g8,o,kF⟩:=fr c0 W y;have s2:=y.keep.size;have nf:¬j s.heap.size:=λi=>by
    rcases o _ i with h|h
    ·have:=T _ h;omega
    ·omega
   have l4:=kF.get k9 λi=>by have:=T _ i;omega
   refine cu (Rn _ z A B) ⟨rfl,y.keep.mono λe _ f=>.inl f,aD (mg _ z A B) l4 rfl λs3 e5 s4 l5=>⟨e5.mono λe _ k=>.inr (by have k:e=s.heap.size:=k;omega),rfl,z,A,B,j,n,l5,?_,λe f=>?_,?_,oM,nf⟩⟩
   ·exact bS.keep X ej e5 λe f k=>by have k:e=s.heap.size:=k;exact nf (k▸f)
   ·rcases o e f with h|h
    ·exact .inl h
    ·exact .inr oM
   ·exact(((ai.keep a6).then (ai.keep c0)).then kF).new e5 λe f=>.inr (by have f:e=s.heap.size:=f;omega)
 rintro xb _ _ L ⟨rfl,xa,xn,xc,j,n,gx,Z,o,c2,s5,l6⟩;have h0:=c2.get g5 λi=>by have:=T _ i;omega
 have h2:=(hr.af b8).keep c2 λe f=>(R e f).2;have a8:=Z.aF;have s6:=c2.size;have xw:=aC gx;have a9:aj F w L:=(ai.keep b8).then c2;have p8:ai b L:=g0.new a9 λe f=>.inr (g3 e f);obtain⟨m,hS⟩:∃m,m=(V.add k).2.state k.bd k.agg:=⟨_,rfl⟩
 have s7:(m.getD IB).cells.length<=8:=by rw [hS];exact Fq (show(V.add k).2.OK from(show cT L q.vp (λe=>j e/\n e=3) (V.add k).2 from Z.at' 3).1) k
 refine⟨λsb so w'=>so=0/\∃sa sn sc G2,w'.heap[sb]? =some (.cells #[QH (m.getD IB).version,.slice sa sn sc] 42 (0,0))/\Row fL 32 w' G2 sa sn (m.getD IB).cells/\(∀e,G2 e->L.heap.size<=e/\e<w'.heap.size)/\L.heap.size<=sb/\ai L w',?_,?_⟩
 ·intro C h3
  have c3:ai L C:=h3.keep;have s8:C.heap.size=L.heap.size:=by rw [h3.heap]
  have e6:=eH.af Z c3;have h4:=e6.bG;have d4:=c3.get h0 id;have nS:¬C.heap.size<=p:=by have:=a8 p Z.self.1;omega
  have b9:¬C.heap.size<=w.heap.size:=oM
  refine⟨λe=>C.heap.size<=e,p,0,rfl,nS,_,ae h4 rfl,b9,_,ae d4 rfl,b9,_,ae d4 rfl,PC.ok (ox (e6.at' 3)) ?_,PA.mk λs9 e7 t0 l7=>⟨ai.keep e7,PC.ok (ox ((eH.af e6 e7).at' 3)) ?_⟩⟩
  ·rintro _ c4 ⟨ca,cn,cc,G,rfl,O,M,e8⟩
   have t1:=e8.size;have c5:=O.aF;rw [<-hS]at O⊢;refine⟨_,_,_,_,_,rfl,ai.keep e8,PA.mk λl8 e9 t2 l9=>⟨ai.keep e9,PS.mk l9 sM λt3 m0 t4 m1=>PS.mk m1 sM λm2 m3 t5 m4=>?_⟩⟩;have P:aj (λe=>e=c4.heap.size) l8 m2:=m0.then m3;refine⟨P.mono λe _ k=>by have k:e=c4.heap.size:=k;omega,rfl,ca,cn,cc,G,m4,((O.af e9).keep P λe f k=>by have k:e=c4.heap.size:=k;have:=c5 e f;omega).row dC (by unfold aQ;omega),λe f=>⟨by have:=M e f;omega,by have:=c5 e f;omega⟩,oM,((c3.then e8).then e9).new P λe f=>.inr (by have f:e=c4.heap.size:=f;omega)⟩
  ·rintro _ m5 ⟨ca,cn,cc,G,rfl,O,M,c6⟩
   have t6:=c6.size;have c5:=O.aF;have m6:=c6.get l7 id;rw [<-hS]at O⊢;refine⟨_,_,_,_,_,rfl,ai.keep c6,PS.mk m6 sM λt7 m7 t8 m8=>PS.mk m8 sM λm9 n0 t9 n2=>?_⟩;have P:aj (λe=>e=C.heap.size) m5 m9:=m7.then n0;refine⟨P.mono λe _ k=>by have k:e=C.heap.size:=k;omega,rfl,ca,cn,cc,G,n2,(O.keep P λe f k=>by have k:e=C.heap.size:=k;have:=M e f;omega).row dC (by unfold aQ;omega),λe f=>⟨by have:=M e f;omega,by have:=c5 e f;omega⟩,oM,((c3.then e7).then c6).new P λe f=>.inr (by have f:e=C.heap.size:=f;omega)⟩
 rintro sb _ _ h5 ⟨rfl,sa,sn,sc,G2,gs,n3,n4,u0,Q⟩;have c7:=eH.af Z Q;have h6:=c7.bG;have u1:=Q.size;have h7:bh h5 (λe=>j e/\n e=1) d q.ta q.tn q.pa q.pn:=c7.at' 1;have p9:=h7.Bk.len;have q0:=c7.aF;have h8:=Q.get gx id;obtain⟨E,i⟩:∃E:ef->ef,E=λx=>x.add (V.add k).1 (tI ((V.add k).2.state k.bd k.agg) x.p):=⟨_,rfl⟩
 have g2:=aC gs;refine⟨p,0,rfl,_,_,_,ae h6 rfl,λd5 b0 w'=>∃g:Nat,b0=g/\g<=q.pn/\d5=q.pn-g/\eH w' j n p q d (V.add k).2 ((Rs.take g).map E++Rs.drop g) l pts/\aj j h5 w',⟨_,0,rfl,Qj _,rfl,by simpa using c7,aj.refl _⟩,?_⟩;rintro d5 _ _ H ⟨g,rfl,Y,rfl,u,I⟩;have u2:=I.size;have d6:=I.get gs λi=>by have:=a8 _ i;omega
 have h1:=n3.keep I λe f i=>by have:=a8 _ i;have:=(n4 e f).1;omega
 have h9:=I.get h8 l6;have q1:=u.bG;refine al.dec (λu3=>?_) (λu4=>?_)
 ·have i0:g<d.projs.length:=oM
  have hx:d.projs[g]? =some d.projs[g]:=Qq i0;have i1:d.projs[g]∈d.projs:=XY i0;generalize d.projs[g]=x at hx i1;obtain⟨e,i8,es,b1,j0,j1,b2,rfl,d7⟩:=(show bh H (λe=>j e/\n e=1) d q.ta q.tn q.pa q.pn from u.at' 1).Bk.el g x hx;have n8:=TG hd i1;refine⟨e,i8,b1,oM,oM,br (es:=oy x) (k:=5) (qH x) rfl (λb0 ht=>by rw [Qx];exact b2 b0 ht) (PA.mk λu5 i2 u6 n9=>aD (qH x) n9 rfl λi3 i4 u7 i5=>⟨λj3 w'=>j3=tI m x/\aN (tI m x)/\i3=w',?_,?_⟩)⟩
  ·have b3:ai H i3:=i2.new i4 λe f=>.inr (by have f:e=H.heap.size:=f;omega)
   have d8:=h1.af b3;have u9:=d8.len;have a4:tI m x=(((m.getD IB).cells[x.GO.toNat]?).map (·.n)).getD 0:=by
    cases m<;>rfl
   refine⟨_,ae i5 rfl,_,_,_,ae (b3.get d6 id) rfl,al.dec (λi6=>?_) (λi6=>⟨?_,?_,rfl⟩)⟩
   ·obtain⟨bi,f3⟩:∃bi:Nat,x.GO=bi:=⟨x.GO.toNat,oM⟩
    obtain⟨cb,co,v0,v1,v2,o0,v3,v4,o1,-,-,i7,-⟩:=ni d8 (i:=bi) oM;refine⟨_,_,_,ae (b3.get d6 id) rfl,_,ae i5 rfl,cb,co,o0,n8,i6,_,by rw [f3,Qx];exact o1,?_,?_,rfl⟩
    ·rw [a4,f3,Qx,QQ,Qq (show bi<(m.getD IB).cells.length by omega)];rfl
    ·rw [a4,f3,Qx,Qq (show bi<(m.getD IB).cells.length by omega)]
     rw [QQ,Qq (show bi<(m.getD IB).cells.length by omega)]at i7;exact i7
   ·rw [a4,Q7 oM];rfl
   ·rw [a4,Q7 oM];exact IF
  ·rintro _ _ _ ⟨rfl,j4,rfl⟩ o2 o3
   have b4:ai H o2:=(i2.new i4 λe f=>.inr (by have f:e=H.heap.size:=f;omega)).then o3.keep;have c8:=eH.af u b4;have o4:((Rs.take g).map E++Rs.drop g)[g]? =Rs[g]? :=by
    rw [X8 (by simp;omega)];simp [Qy,X2 (show g<=Rs.length by omega)]
   have c9:Rs[g]? =some Rs[g]:=Qq oM;have d9:Rs[g].p=x:=by
    have:=congrArg (·[g]?) g4;simp only [Q9,c9,hx,Option.map_some,Q1]at this;exact this
   generalize Rs[g]=b5 at c9 d9;obtain⟨rg,pj,rj,o5,o6,hR,j5,v5,i9,-,b6⟩:=cU.elem (c8.at' 4) (o4.trans c9);have o7:=cU.len (c8.at' 4);rw [QX,Q8,Qy,XZ]at o7;have j6:=c8.bG;refine⟨p,0,rfl,_,_,_,ae j6 rfl,rg,0,o5,oM,oM,_,by rw [Qx];exact o6,aw (mg _ xa xn xc) (b4.get h9 id) (PC.ok (Ro hR j5 (x:=(V.add k).1) he j4) ?_)⟩;rintro _ o8 ⟨rfl,o9,f6⟩;have fz:((Rs.take g).map E++Rs.drop g).set g (b5.add (V.add k).1 (tI m x))=(Rs.take (g+1)).map E++Rs.drop (g+1):=by
    have j7:((Rs.take g).map E).length=g:=by simp;omega
    rw [Qw,c9,Q3,XQ,List.set_append,if_neg oM,j7,Nat.sub_self,X4 (show g<Rs.length by omega)];have p0:E b5=b5.add (V.add k).1 (tI m x):=by rw [i,hS,<-d9]
    rw [<-p0];rfl
   have j2:=b6 o8 _ f6 o9;rw [fz]at j2;refine⟨rfl,_,oM,g+1,an oM,oM,rfl,?_,I.then ((ai.keep b4).then (f6.mono λe _ k=>?_))⟩
   ·refine bS.same c8 ej (k:=4) (f6.mono λe _ k=>by have k:e=rj:=k;rw [k];exact i9) j2 λg G Y hc=>by
     rcases g with _|_|_|_|_|_|g<;>first|exact hc|exact absurd rfl Y
   ·have k:e=rj:=k;rw [k];exact i9.1
 have j9:(Rs.take g).map E++Rs.drop g=qG V k Rs:=by
  rw [Qz oM,List.drop_eq_nil_of_le oM,List.append_nil,i];rfl
 rw [j9]at u;intro b7 f0;have a2:ai H b7:=f0.keep;have q2:b7.heap.size=H.heap.size:=by rw [f0.heap]
 have k0:=eH.af u a2;have k1:=k0.bG;have p1:¬j w.heap.size:=λi=>by
  rcases o _ i with h|h
  ·have:=T _ h;omega
  ·omega
 have k2:=a2.get (I.get (Q.get h0 id) p1) id;have nD:∀e,D e->¬j e:=λe f i=>by
  rcases o _ i with h|h
  ·exact(R e f).2 h
  ·have:=(R e f).1;omega
 have k3:=((h2.af Q).keep I nD).af a2;have v6:=aV.len (u.at' 2) dC;have v7:aj F w b7:=((a9.af Q).new I λe f=>(o e f).imp id oM).af a2;refine⟨λ_=>False,p,0,rfl,id,_,_,_,ae k1 rfl,aw (bg k J a c) k2 (PC.ok (Ef k3 λe f=>by have:=(R e f).1;omega) ?_)⟩;rintro _ q3 ⟨z,A,B,G,rfl,p2,M,c1⟩;refine⟨_,_,_,_,_,_,_,_,_,_,_,_,rfl,c1,PA.mk λq4 d0 q5 l1=>⟨d0,?_⟩⟩;have f1:=(a2.then c1).then d0;have l2:=eH.af u f1;have q6:=c1.size;have n1:=u.aF;have f2:∀e,aI q.ea=some e->j e/\n e=2:=λe f=>aV.self (u.at' 2) e f;refine fh (c:=fZ) (x:=k) (l2.at' 2) Eg l1 (D:=G) ⟨z,A,B,rfl,p2.af d0,he⟩ (λe f=>⟨by have:=(M e f).2;omega,λee=>by have:=n1 e (f2 e ee).1;have:=(M e f).1;omega⟩) (by unfold aQ;omega) (by unfold maxLen;omega) λa' N r1 F2 f4 f5 p3=>⟨_,_,_,rfl,p,0,rfl,?_⟩
 have r2:=f5.size;obtain⟨t,a3,j8,f7,n5,-⟩:=u.fr ej (k:=2) (G':=F2) (C2:=Bj p q.cells {q with ea:=a',en:=q.en+1,ec:=N} d (V.add k).2 (qG V k Rs) (l++[k]) pts) ((ai.keep f1).then (f5.mono λe _ f=>f2 e f))
  (λe f=>(p3 e f).imp id λv=>v.elim (λv=>by have:=(M e v).1;omega) λv=>oM) f4.aF f4 λg G Y hc=>by
   rcases g with _|_|_|_|_|_|g<;>first|exact hc|exact absurd rfl Y
 refine PS.mk (j8.at' 0).2 sM λd1 f8 u8 n6=>?_;have n7:eH d1 t a3 p {q with ea:=a',en:=q.en+1,ec:=N} d (V.add k).2 (qG V k Rs) (l++[k]) pts:=eH.store j8 f8 n6;have f9:∀e,t e->F e\/w.heap.size<=e:=λe f=>by
  rcases f7.new e f with h|h
  ·exact(o e h).imp id oM
  ·exact .inr oM
 have p4:aj j H d1:=f7.keep.then (f8.mono λe _ ee=>by have ee:e=p:=ee;rw [ee];exact Z.self.1);have p5:aj F w H:=(a9.af Q).new I λe f=>(o e f).imp id oM;have d2:aj F w d1:=p5.new p4 λe f=>(o e f).imp id oM;refine PC.ok (Fk n7 hd (hT.af (g0.new d2 λe f=>.inr (g3 e f))) (by simp;omega) (by unfold qG;rw [Q8];omega) k5 k6) ?_;rintro _ v8 ⟨rfl,q',F4,p6,p7,d3,g1⟩;refine⟨rfl,Ok.mk ⟨rfl,q',F4,p6,?_,d3,d2.new g1.keep f9,λe f=>?_⟩⟩
 ·simpa using p7
 ·rcases g1.new e f with h|h
  ·exact f9 e h
  ·have:=d2.size;exact .inr oM
end
end Go.Proofs.YtfchlbaidamodaaGreatDoor
namespace Go.ax
open Go
variable{a c i:Nat}{f:Nat->Prop}{V Y:Operand}{d:Option Addr}{h:Program}{j:Type}{A g p:TypeId}{m t:Value->World->Prop}{b:World}
theorem Bm {bytes:Nat} {e:kM j} (w:jP h g p e.k bytes) (E:OV h p=true) {x:List j} (n:aV e p f b d a c x) (S:i<=a) 
  (o:∀l,aV e p f l d i c (x.take i)->aj (λk=>aI d=some k) b l->l.heap.size=b.heap.size->m (.tuple #[]) l):
  aH h (Builtin.clear_ #[g] A #[.slice (cM d i c e.k) (a-i) (c-i)]) b m t:=by
 rcases Nat.lt_or_ge i a with T|U
 rotate_left
 ·obtain rfl:i=a:=oM
  rw [Nat.sub_self];exact aH.mk (w':=b) (v:=.tuple #[]) (by cases cM d i c e.k<;>simp [Builtin.clear_,run_underlying w.under]) (o b (n.take (Q4 _)) (aj.refl _) rfl)
 obtain⟨cs,D,r,F,y⟩:=n.body;have H:=r.length;rcases r.cases with⟨_,V,_,_⟩|⟨z,I,rfl,J,K,B,L⟩
 ·omega
 have s:c<=maxLen:=by
  obtain⟨_,W,_,C,_,_,_,s,_⟩:=r.row.2.resolve_left (by rintro⟨n,_⟩;cases n);simp only [XX]at C;rw [C.2.2];exact s
 have M:i*e.k<=a*e.k:=Q0 _ oM;have X:a*e.k<=c*e.k:=Q0 _ K;rw [f_ (show c≠i by omega),Xz];refine Sl w E J (by rw [B,Nat.sub_mul];omega) λl q N O P Q R=>?_;have u:aj (λk=>aI (some (⟨z,0,none⟩:Addr))=some k) b l:=Q.mono λk _ p=>by rw [p];rfl
 refine o l ⟨⟨cs.take (i*e.k),D,⟨⟨by rw [Qy,H];omega,.inr ⟨z,c,q,rfl,Qj _,N,oM,s,by rw [O,B],?_⟩⟩⟩,(F.keep u λk v=>(y k v).2).take i,y⟩,n.self,λk v=>Qk (n.aF k v) u.size⟩ u R;rw [P,<-L,List.take_take,X2 M]
theorem TI (k:0<c) (l:a<9223372036854775808):(do eqGuard .quo g V Y (QH (a:Int)) (QH (c:Int));binOp .quo g (QH (a:Int)) (QH (c:Int)):Sem Value).run h b= .ok (QH ((a/c:Nat):Int)) b:=by
 have f:c≠0:=oM
 have d:(a:Int).tdiv (c:Int)=((a/c:Nat):Int):=by rw [Int.tdiv_eq_ediv_of_nonneg oM];rfl
 have i:=Nat.div_le_self a c;generalize a/c=e at d i;have j:IntKind.wrap .i64 (e:Int)=(e:Int):=wrap_i64 (by unfold aN;omega);simp [eqGuard,binOp,Op.intDiv,f,d,j]
end Go.ax
namespace Go.Proofs.YtfchlbaidamodaaGreatDoor
open Go.ax
def dF (f:World) (g:Nat) (h:Nat->Prop) (b:aR) (a:Nat) (c:List ah):Prop:=
 (dd b=0/\0<a/\a<9223372036854775808/\c.length<=20000000)/\∃e d,e.every=a/\eH f h d g e b (cG b c) (eN b c).rows c (kY b a c)
variable{a1 r:Array Value}{z:FuncId}{J W e o:Int}{B f6:List ah}{a c:Nat}{I:Nat×Nat}{V Y:Operand}{d q:Option Addr}{h:Program}{g p:TypeId}{b:World}{k:ah}
theorem TH {d:aR} (b:0<a) (c:a<9223372036854775808) (e:B.length<=20000000):(kY d a B).length*a<9223372036854775808/\(kY d a B).length<=20000001:=by
 rw [Bl];have f:=Nat.div_le_self B.length a;refine⟨?_,oM⟩;rcases Nat.lt_or_ge B.length a with h|h
 ·rw [Nat.div_eq_of_lt h];omega
 ·have:=Nat.div_mul_le_self B.length a
  rw [X7,Nat.one_mul];omega
section
variable {w w':World} {p:Nat} {F T D:Nat->Prop} {d:aR} {every:Nat} {l:List ah}
theorem dF.keep (c:dF w p F d every l) (e:aj T w w') (f:∀b,F b->¬T b):dF w' p F d every l:=by
 obtain⟨g,h,a,i,j⟩:=c;exact⟨g,h,a,i,bS.keep j ej e f⟩
theorem dF.af (a:dF w p F d every l) (b:ai w w'):dF w' p F d every l:=a.keep b λ_ _ a=>a
theorem dF.aF (b:dF w p F d every l):∀a,F a->a<w.heap.size:=by obtain⟨f,g,c,h,e⟩:=b;exact e.aF
theorem xE (d:aR) (l:List ah) (e:l.length<=20000000):(cG d l).entries.length<=20000000/\∀a,((ay (cG d l).done a).getD []).length<=20000000:=by
 have b:=λa=>GQ d l (bk.new d) a;refine⟨?_,λa=>?_⟩
 ·have c:(cG d l).entries.length=0+l.length:=(b (0,0,0)).2
  omega
 ·have c:((ay (cG d l).done a).getD []).length<=0+l.length:=(b a).1
  omega
theorem IG (d:aR) (l:List ah) (a:ah):qG (cG d l) a (eN d l).rows=(eN d (l++[a])).rows:=by
 rw [Lf];unfold qG kL.add;rw [Lg]
theorem Rp (t:dF w p F d every l) (u:eM b) (v:ai b w) (x:∀e,F e->b.heap.size<=e) (m:l.length+1<=20000000) {n:Option Addr} 
  (y:Row aP 8 w D n a k.aK) (z:∀e,D e->e<w.heap.size/\¬F e) (A:k.Ok):
  Calls ZQ 144 #[.pointer (some ⟨p,0,none⟩),kK k n a c] w (Ok λo w'=>o= .tuple #[]/\∃g,dF w' p g d every (l++[k])/\de F w g w'):=by
 obtain⟨⟨q,h,r,s⟩,M,B,rfl,C⟩:=t;obtain⟨E,H⟩:=xE d l s;obtain⟨I,J⟩:=TH (d:=d) h r s;refine(Rm C q u v x m E (IH d l) I J (H _) y z A).mono ?_;rintro _ w' ⟨o,rfl,rfl,K,g,f,i,j,L⟩;refine Ok.mk ⟨rfl,g,⟨⟨q,h,r,by simpa using m⟩,K,f,j,?_⟩,L⟩;rw [Lh,OU h,<-IG,<-Bl (d:=d)];exact i
theorem Zp:OV ZQ 219=true:=kR
theorem OW (a0:dF w p F d every l) (hT:eM b) (g0:ai b w) (c6:∀e,F e->b.heap.size<=e) (hn:a<=l.length):
  Calls ZQ 143 #[.pointer (some ⟨p,0,none⟩),QH (a:Int)] w (Ok λa1 w'=>a1= .tuple #[]/\∃I,dF w' p I d every (l.take (a/every*every))/\de F w I w'):=by
 obtain⟨⟨r,v,h3,h4⟩,c,j,rfl,i⟩:=a0;have c7:=i.bG;have e2:=i.aF;have c8:=aV.len (i.at' 5) dC;have J:=aV.len (i.at' 2) dC;rw [Bl]at c8;obtain⟨k,x⟩:∃k,k=a/c.every:=⟨_,rfl⟩
 have t:k<=l.length/c.every:=by rw [x];exact Nat.div_le_div_right hn
 have K:k*c.every<=l.length:=Xx (Q0 _ t) (Nat.div_mul_le_self ..);have e3:k<=l.length:=Xx t (Nat.div_le_self ..);rw [<-x];have y:IntKind.wrap .i64 ((k:Int)*(c.every:Int))=((k*c.every:Nat):Int):=by
  rw [show((k:Int)*(c.every:Int))=((k*c.every:Nat):Int) by push_cast;rfl,wrap_i64 (by unfold aN;omega)]
 have c9:IntKind.wrap .i64 ((k:Int)+1)=((k+1:Nat):Int):=an oM;have ec:=aV.jx (i.at' 2);have qc:=aV.jx (i.at' 5);refine sT ⟨p,0,rfl,_,ae c7 rfl,aH.mk (TI v oM) ⟨_,rfl,λL d0=>?_⟩⟩;rw [<-x,c9];simp only [Qx];have M:ai w L:=d0.keep;have z:=eH.af i M;have A:=z.bG;have a2:bS L F j (Bj p c.cells {c with en:=k*c.every} d (cG d l) (eN d l).rows (l.take (k*c.every)) (kY d c.every l)):=z.same ej (k:=2) (aj.refl _) (aV.take (z.at' 2) (show k*c.every<=c.en from J▸K)) λm G n o=>by
  rcases m with _|_|_|_|_|_|m<;>first|exact o|exact absurd rfl n
 refine⟨p,0,rfl,_,_,_,ae A rfl,p,0,rfl,_,ae A rfl,by rw [y];exact Int.natCast_nonneg _,by rw [y];exact Int.ofNat_le.2 (Xx K (J▸ec)),p,0,rfl,?_⟩;rw [y,Qx];refine PS.mk A sM λd1 N e4 O=>?_;have P:eH d1 F j p {c with en:=k*c.every} d (cG d l) (eN d l).rows (l.take (k*c.every)) (kY d c.every l):=eH.store a2 N O;refine⟨p,0,rfl,_,_,_,ae O rfl,oM,by show _<=((c.qn:Nat):Int);omega,?_⟩;have g:∀e,aI c.qa=some e->F e/\j e=5:=λe f=>aV.self (i.at' 5) e f;have a3:¬aI c.qa=some p:=λh=>by have r:=(g p h).2;rw [i.self.2]at r;cases r
 refine Bm Xa Zp (P.at' 5) (by show k+1<=c.qn;omega) λd2 a5 Q e5=>?_;have R:bS d2 F j (Bj p ({c with en:=k*c.every}:xC).cells {c with en:=k*c.every,qn:=k+1} d (cG d l) (eN d l).rows (l.take (k*c.every)) ((kY d c.every l).take (k+1))):=P.same ej (k:=5) (Q.mono λe _ f=>g e f) a5 λm G n o=>by
  rcases m with _|_|_|_|_|_|m<;>first|exact o|exact absurd rfl n
 have S:=(R.at' 0).2;refine⟨p,0,rfl,_,_,_,ae S rfl,oM,by show _<=((c.qc:Nat):Int);omega,p,0,rfl,PS.mk S sM λT U e6 V=>?_⟩;have s:eH T F j p {c with en:=k*c.every,qn:=k+1} d (cG d l) (eN d l).rows (l.take (k*c.every)) ((kY d c.every l).take (k+1)):=eH.store R U V;have B:aj F w T:=(((ai.keep M).then (N.mono λe _ h=>by have h:e=p:=h;rw [h];exact i.self.1)).then (Q.mono λe _ f=>(g e f).1)).then (U.mono λe _ h=>by have h:e=p:=h;rw [h];exact i.self.1);have d3:((kY d c.every l).take (k+1))[k]? =some (eN d (l.take (k*c.every))).rows:=by
  rw [Xw,if_pos oM];exact Rq t
 obtain⟨pb,po,es,d4,e7,e8,W,e9,ra,rn,rc,rfl,d5⟩:=(aV.row (bytes:=32) (s.at' 5) dC (by rw [Qy];unfold aQ;omega)).el k _ d3;have c0:=W 0 dC;have c1:=W 1 dC;refine⟨p,0,rfl,_,_,_,ae V rfl,pb,po,d4,oM,by show(k:Int)<((k+1:Nat):Int);omega,_,_,_,_,c0,c1,PC.ok (Fj s r (hT.af (g0.new B λe f=>.inr (c6 e f))) (by rw [Qy];omega) d5 (λe f=>s.aF e f.1) (by rw [qI];exact(xD (lu r).1).2.2.1)) ?_⟩;rintro _ X ⟨C,Y,Z,c2,Fv,G,rfl,hv,b4,b5,u,b6⟩;have f2:=B.size;obtain⟨F1,e1,d6,f3,b7,-⟩:=s.II ej (k:=3) (w':=X) (G':=Fv) (C2:=Bj p ({c with en:=k*c.every,qn:=k+1}:xC).cells {c with en:=k*c.every,qn:=k+1,vp:=C} d (cG d (l.take (k*c.every))) (eN d l).rows (l.take (k*c.every)) ((kY d c.every l).take (k+1)))
  (ai.keep b6) (λe f E=>by have:=b5 e f;have:=s.aF e E;omega) hv.aF hv λm G n o=>by
   rcases m with _|_|_|_|_|_|m<;>first|exact o|exact absurd rfl n
 obtain⟨F2,b8,b9,f4,d7,-⟩:=d6.II ej (k:=4) (w':=X) (G':=G) (C2:=Bj p ({c with en:=k*c.every,qn:=k+1}:xC).cells {c with en:=k*c.every,qn:=k+1,vp:=C,ra:=Y,rn:=Z,rc:=c2} d (cG d (l.take (k*c.every))) (eN d (l.take (k*c.every))).rows (l.take (k*c.every)) ((kY d c.every l).take (k+1)))
  (aj.refl _) (λe f E=>by
   rcases b7 e E with q|q
   ·have:=(u e f).1;have:=s.aF e q.1;omega
   ·exact absurd q (u e f).2.2) (λe f=>(u e f).2.1) b4 λm G n o=>by
   rcases m with _|_|_|_|_|_|m<;>first|exact o|exact absurd rfl n
 have c3:∀e,F2 e->F e\/w.heap.size<=e:=λe f=>by
  rcases d7 e f with q|q
  ·rcases b7 e q.1 with H|H
   ·exact .inl H.1
   ·exact .inr (by have:=b5 e H;omega)
  ·exact .inr (by have:=(u e q).1;omega)
 have d8:=(b9.at' 0).2;refine⟨_,_,_,_,rfl,p,0,rfl,PS.mk d8 sM λf6 c4 f7 d9=>PS.mk d9 sM λg1 c5 g2 e0=>Ok.mk ⟨rfl,F2,⟨⟨r,v,h3,by rw [Qy];omega⟩,{c with en:=k*c.every,qn:=k+1,vp:=C,ra:=Y,rn:=Z,rc:=c2},b8,rfl,?_⟩,?_,c3⟩⟩
 ·rw [<-OX v t]
  exact eH.store b9 (c4.then c5) e0
 ·exact(B.af b6).then ((c4.then c5).mono λe _ h=>by have h:e=p:=h;rw [h];exact i.self.1)
end
theorem YE (a:Le h g p) :(do eqGuard .eql g V Y (.agg #[QH e,QH o]) (.agg #[QH J,QH W]);binOp .eql g (.agg #[QH e,QH o]) (.agg #[QH J,QH W]):Sem Value).run h b= .ok (.bool (e==J&&o==W)) b:=by
 rw [Sem.run_bind,run_eqGuard_agg b .eql _ V Y _ _ a.hm,Result.andThen_ok,run_eql_struct];have:=a.equalIn 9998 (e,o) (J,W) b;unfold pO at this;rw [this];rfl
section
variable {w w':World} {p:Nat} {F T D:Nat->Prop} {d:aR} {every:Nat} {l l2:List ah}
theorem IJ (U:dF w p F d every l) (V:eM b) (K:ai b w) (L:∀f,F f->b.heap.size<=f) {M:Option Addr} (N:Row fZ 96 w D M a l2) (e1:a<=c) (A:∀f,D f->f<w.heap.size/\¬F f) (e2:l2.length<=20000000)
  (b2:∀(W:Nat) (i m:ah),l[W]? =some i->l2[W]? =some m->aO i=aO m->i=m):
  Calls ZQ 76 #[.pointer (some ⟨p,0,none⟩),.slice M a c] w (Ok λb3 w'=>∃B:Int,b3= QH B/\∃j,dF w' p j d every l2/\de F w j w'):=by
 have hn:=N.len;have X:=U;obtain⟨⟨h1,h2,h3,h4⟩,e0,b6,e3,C⟩:=U;have e4:=aV.len (C.at' 2) dC;have e5:=C.aF;refine qJ ⟨λk w'=>∃e:Nat,k=e/\e<=l.length/\e<=l2.length/\l.take e=l2.take e/\ai w w',?_,?_⟩
 ·refine⟨λg k w'=>∃e:Nat,k=e/\e<=l.length/\e<=l2.length/\g=l.length-e/\l.take e=l2.take e/\ai w w',⟨_,0,rfl,Qj _,Qj _,rfl,rfl,aj.refl _⟩,?_⟩
  rintro g _ _ w9 ⟨e,rfl,Y,Z,rfl,o,u⟩;have h9:=eH.af C u;have a4:=h9.bG;refine⟨p,0,rfl,_,_,_,ae a4 rfl,al.dec (λO=>?_) (λa5 c0 E=>⟨e,rfl,Y,Z,o,u.then E.keep⟩)⟩;have a6:e<l.length/\e<l2.length:=by split at O<;>omega
  have n:l[e]? =some l[e]:=Qq a6.1;have H:l2[e]? =some l2[e]:=Qq a6.2;generalize l[e]=i at n;generalize l2[e]=m at H;obtain⟨f,q,es,P,c1,c2,I,ya,yn,yc,rfl,e6,e7⟩:=(N.af u).el e m H;obtain⟨b7,o2,e8,c3,e9,f0,a0,v,x,y,rfl,a7,a1⟩:=(aV.row (bytes:=96) (h9.at' 2) dC (by unfold aQ;omega)).el e i n;have y0:=I 0 dC;have y1:=I 1 dC;have x0:=a0 0 dC;have x1:=a0 1 dC;refine⟨f,q,P,oM,oM,_,_,y0,y1,p,0,rfl,_,_,_,ae a4 rfl,b7,o2,c3,oM,oM,_,_,x0,x1,(m.origin==i.origin&&m.seq==i.seq),λg=>YE NN,λc0 E=>al.mk (λQ=>⟨_,?_,e+1,an oM,oM,oM,rfl,?_,u.then E.keep⟩) (λ_=>⟨e,rfl,Y,Z,o,u.then E.keep⟩)⟩
  ·omega
  ·simp only [QK,beq_iff_eq]at Q
   have c4:=b2 e i m n H (by simp [aO,Q.1,Q.2]);rw [Qw,Qw,o,n,H,c4]
 rintro _ _ f1 ⟨k,rfl,c5,c6,o,r⟩;have c7:=eH.af C r;have b9:=c7.bG;have f2:=r.size;refine⟨λw'=>∃g j,g<=l2.length/\dF w' p j d every (l2.take g)/\de F w j w',⟨p,0,rfl,_,_,_,ae b9 rfl,al.dec (λO=>?_) (λa5=>?_)⟩,?_⟩
 ·refine PC.ok (OW (X.af r) V (K.then r) L c5) ?_
  rintro _ f3 ⟨rfl,j,R,a9⟩;have b0:k/every*every<=k:=Nat.div_mul_le_self ..;refine⟨rfl,_,j,Xx b0 c6,?_,(ai.keep r).then a9.keep,λf h=>(a9.new f h).imp id oM⟩;have:l.take (k/every*every)=l2.take (k/every*every):=by
   have:=congrArg (List.take (k/every*every)) o
   rwa [List.take_take,List.take_take,X2 b0]at this
  rw [<-this];exact R
 ·have c8:k=l.length:=oM
  refine⟨l.length,F,oM,?_,ai.keep r,λf h=>.inl h⟩;rw [c8,List.take_length]at o;rw [<-o];exact X.af r
 rintro _ f4 ⟨g,F1,hm,b1,a2⟩;have c9:=b1;obtain⟨-,q1,f5,f6,b4⟩:=b1;have a3:=aV.len (b4.at' 2) dC;rw [Qy,X2 hm]at a3;have f7:=a2.keep.size;refine⟨p,0,rfl,_,_,_,ae b4.bG rfl,oM,oM,?_⟩;rw [Qx,a3];refine⟨λB t w'=>∃(e:Nat) (j:Nat->Prop),t=e/\e<=a-g/\B=a-g-e/\dF w' p j d every (l2.take (g+e))/\de F w j w',⟨_,0,F1,rfl,Qj _,rfl,c9,a2⟩,?_⟩;rintro B _ _ b5 ⟨e,S,rfl,hj,rfl,T,s⟩;refine al.dec (λO=>?_) (λa5=>?_)
 ·have d0:g+e<l2.length:=oM
  have n:l2[g+e]? =some l2[g+e]:=Qq d0;generalize l2[g+e]=i at n;have d1:=N.keep s.keep λf h=>(A f h).2;obtain⟨f,q,es,P,c1,c2,I,v,x,y,rfl,a7,a1⟩:=d1.el (g+e) i n;have d2:cM M g c 10=some ⟨f,q+g*10,none⟩:=by rw [P];exact f_ oM
  have f8:=s.keep.size;refine⟨f,q+g*10,d2,oM,oM,br (es:=aE i v x y) (k:=10) (bg i v x y) rfl (λt ht=>by rw [Qx];have:=I t ht;rw [show q+g*10+e*10+t=q+(g+e)*fZ.k+t by show _=q+(g+e)*10+t;omega];exact this) (PA.mk λf9 d3 g1 d4=>aD (bg i v x y) d4 rfl λb8 d5 g2 d6=>aw (bg i v x y) d6 ?_)⟩;have J:ai b5 b8:=d3.new d5 λf h=>.inr (by have h:f=b5.heap.size:=h;omega);have a8:de F w S b8:=⟨s.keep.af J,s.new⟩
  have d7:∀f,D f->¬S f:=λf h hf=>by
   rcases s.new f hf with z|z
   ·exact(A f h).2 z
   ·have:=(A f h).1;omega
  refine PC.ok (Rp (T.af J) V (K.new a8.keep λf h=>.inr (L f h)) (λf h=>?_) (by rw [Qy];omega) (a7.af J) (λf h=>⟨by have:=(A f h).1;have:=J.size;omega,d7 f h⟩) a1) ?_
  ·rcases s.new f h with z|z
   ·exact L f z
   ·have:=K.size;omega
  rintro _ g3 ⟨rfl,F3,d8,d9⟩;refine⟨rfl,_,?_,e+1,F3,an oM,oM,rfl,?_,a8.trans d9⟩
  ·omega
  ·rw [show g+(e+1)=g+e+1 by omega,Qw,n];exact d8
 ·rw [Qz oM]at T
  exact Ok.mk ⟨_,rfl,S,T,s⟩
end
section
variable {w w':World} {p:Nat} {F T D:Nat->Prop} {d:aR} {every:Nat} {l l2:List ah}
theorem Rr {d:aR} {ta pa:Option Addr} {tn tc pn pc:Nat} {ev:Int} (o:dd d=0) (g8:aN ev) (hT:eM w) (q:bh w D d ta tn pa pn) (hD:∀a,D a->a<w.heap.size):
  Calls ZQ 73 #[.agg #[.slice ta tn tc,.slice pa pn pc],QH ev] w (Ok λe2 w'=>∃p F,e2= .pointer (some ⟨p,0,none⟩)/\dF w' p F d (max 1 ev).toNat []/\(∀a,F a->w.heap.size<=a)/\ai w w'):=by
 have g9:=q.bd.len;have X:=q.bd.d_;have h0:=q.Bk.len;have h3:=q.Bk.d_;have e5:d.projs.length<=8:=(xD (lu o).1).2.2.1;obtain⟨every,e6⟩:∃every:Nat,every=(max 1 ev).toNat:=⟨_,rfl⟩
 have e7:(if ev>1 then ev else 1)=(every:Int):=by split<;>omega
 have c0:0<every/\every<9223372036854775808:=by unfold aN at g8;omega
 rw [<-e6];refine Eh ?_;rw [e7];refine PA.mk λw1 k1 s1 g1=>⟨_,_,_,ae g1 rfl,PC.ok (qK (q.Bk.af k1) λa B=>by have:=hD a B;omega) ?_⟩
 rintro _ b ⟨j,h,x,y,rfl,Y,k8,h4⟩;have z8:=k8.size;refine⟨_,_,_,rfl,PA.mk λc1 Z k9 h5=>?_⟩;have e8:ai w c1:=(k1.then k8).then Z;have ga:=Z.get (k8.get g1 id) id;have l0:=Z.size;refine⟨_,_,_,ae ga rfl,λr J w'=>∃c:Nat,J=c/\c<=tn/\r=tn-c/\aj (·=b.heap.size) c1 w'/\∃s t K m,w'.heap[b.heap.size]? =some (.cells #[.slice s t K,.slice j h x,QH (every:Int),.slice none 0 0,.pointer none,.slice none 0 0,.slice none 0 0] 222 (0,0))/\aV lv 130 m w' s t K (d.types.take c)/\∀a,m a->c1.heap.size<=a,
  ⟨_,0,rfl,Qj _,rfl,aj.refl _,none,0,0,λ_=>False,h5,aV.nil _,λ_ q=>q.elim⟩,?_⟩
 rintro r _ _ z ⟨c,rfl,hj,rfl,kk,s,t,K,m,L,u,M⟩;have a7:ai w z:=e8.new kk λa B=>.inr oM;have zk:=kk.size;refine al.dec (λl4=>?_) (λl5=>?_)
 ·have d9:c<d.types.length:=oM
  obtain⟨a,a4,es,ha,B,h6,e9,fa,fn,fc,rfl,a8⟩:=(q.bd.af a7).el c d.types[c] (by simp [d9]);have e0:d.types[c]? =some d.types[c]:=Qq d9;generalize d.types[c]=a0 at a8 e0;have c2:=e9 0 dC;have h7:lv.k=1:=rfl;rw [h7,Nat.mul_one]at c2;refine⟨a,a4,ha,oM,oM,fa,fn,fc,by rw [Qx];exact c2,PA.mk λl6 h8 l7 h9=>PS.mk h9 sM λe1 i0 l8 i1=>⟨_,_,_,ae i1 rfl,?_⟩⟩;have a1:ai z e1:=h8.new i0 λa B=>.inr oM;have f0:=a7.then a1;obtain⟨E,l1,l2,l3⟩:=fv.boxes (N:=Li) a8;have c4:=a8.d_;refine PC.ok (qL (l2.af a1) λa B=>by have:=hD a B;have:=f0.size;omega) ?_;rintro _ e3 ⟨a9,N,f1,F9,rfl,b0,e4,i2⟩;have l9:=a1.size;have m0:=e4.size;have a2:∀a,aI a9=some a->e1.heap.size<=a:=λa B=>i2 a (b0.self a B);have f4:∀a,aI a9=some a->a<e3.heap.size:=λa B=>b0.aF a (b0.self a B);refine⟨_,_,_,rfl,λr J w'=>∃c:Nat,J=c/\c<=N/\r=N-c/\eO Li 123 e3 a9 N f1 E c w',⟨_,0,rfl,Qj _,rfl,eO.start b0.alone⟩,?_⟩;rintro r _ _ i3 ⟨f,rfl,i,rfl,A⟩;have m1:=A.len;have m2:E.length=a0.length:=by rw [<-l1];simp
  have i4:=a8.len;have O:ai z i3:=(a1.then e4).new A.keep λa B=>.inr (by have:=a2 a B;omega);have m3:=A.keep.size;refine al.dec (λf5=>?_) (λf8=>?_)
  ·obtain⟨a3,rfl⟩:=A.some oM
   have f9:=f4 a3 rfl;have a5:E[f]? =some E[f]:=Qq oM;have P:=l3 E[f] (XY oM);generalize E[f]=bx at a5 P;refine⟨a3,0,rfl,oM,oM,_,_,_,A.cell rfl a5 (by show N*4<=aQ;unfold aQ at c4⊢;omega) 3 _ rfl,PC.ok (uh (P.1.af O) λa B=>by have:=hD a B;have:=(a7.then O).size;omega) ?_⟩;rintro _ m4 ⟨m5,m6,m7,G,rfl,c3,i5,l⟩;refine⟨_,_,_,rfl,a3,0,rfl,oM,oM,?_⟩;refine(A.af i5).step (g:=a3) rfl a5 (c3.row (bytes:=32) dC ?_) P.2 (λv H=>⟨by have:=l v H;omega,c3.aF v H⟩) f9 λm8 g2 m9 n0=>⟨_,?_,f+1,an (by unfold aQ at c4;omega),oM,rfl,g2⟩
   ·have g:=P.1.d_
    have n:=P.1.len;show bx.x.bH.length*32<=aQ;have n1:bx.n=bx.x.bH.length:=n;have n2:bx.n*32<=aQ:=g;omega
   ·omega
  ·obtain rfl:f=N:=oM
   obtain⟨Fd,o,c6⟩:=A.done;rw [l1,IK]at o;have c5:=O.get L id;refine⟨b.heap.size,0,rfl,_,_,_,ae c5 rfl,IL (c:=lv) (x:=a0) (u.af O) NO (D:=Fd) ⟨_,_,_,rfl,o.row dC (by rw [<-i4];exact c4)⟩ (λa B=>⟨o.aF a B,λe=>?_⟩) ?_ ?_ λa' Q n3 F' g5 c7 f2 n4=>⟨_,_,_,rfl,b.heap.size,0,rfl,?_⟩⟩
   ·have g:=u.aF a (u.self a e)
    rcases c6 a B with n|n
    ·have:=a2 a n;omega
    ·omega
   ·have:=List.length_take_le c d.types;unfold aQ at X⊢;omega
   ·have:=List.length_take_le c d.types;unfold aQ at X;unfold maxLen;omega
   ·have i6:¬aI s=some b.heap.size:=λe=>by have:=M _ (u.self _ e);omega
    have i7:=c7.get c5 i6;have n5:=c7.size;refine PS.mk i7 sM λn6 f3 n7 i8=>⟨_,?_,c+1,an (by unfold aQ at X;omega),oM,rfl,?_,a',t+1,Q,F',i8,?_,?_⟩
    ·omega
    ·exact((kk.af O).new c7 λa B=>.inr (M _ (u.self a B))).then f3
    ·rw [Qw,e0]
     refine g5.keep f3 λa B e=>?_;rcases f2 a B with g|g|g
     ·have:=M a g;omega
     ·rcases c6 a g with n|n
      ·have:=a2 a n;omega
      ·omega
     ·omega
    ·intro a B
     rcases f2 a B with g|g|g
     ·exact M a g
     ·rcases c6 a g with n|n
      ·have:=a2 a n;omega
      ·omega
     ·omega
 ·obtain rfl:c=tn:=oM
  rw [Qz oM]at u;have h1:=(Y.af Z).keep kk λa B e=>by have:=Y.aF a B;omega
  have n8:b.heap.size<z.heap.size:=aC L;have f6:bh z (λa=>m a\/y a) d s t j h:=⟨(u.row (bytes:=24) dC (by rw [<-g9];exact X)).mono λa B=>.inl B,(h1.row (bytes:=40) dC (by rw [<-h0];exact h3)).mono λa B=>.inr B⟩
  have C:∀a,m a\/y a->w.heap.size<=a/\a<z.heap.size/\a≠b.heap.size:=λa B=>by
   rcases B with B|B
   ·have:=M a B;have:=u.aF a B;omega
   ·have:=h4 a B;have:=Y.aF a B;omega
  refine⟨b.heap.size,0,rfl,_,_,_,_,_,_,ae L rfl,ae L rfl,PC.ok (IM o f6 λa B=>(C a B).2.1) ?_⟩;rintro _ i9 ⟨vp,R,rfl,hv,b1,b2⟩;have o0:=b2.size;have f7:=hv.aF;refine⟨_,rfl,b.heap.size,0,rfl,PS.mk (b2.get L id) sM λS c8 o1 g0=>⟨b.heap.size,0,rfl,_,_,_,ae g0 rfl,?_⟩⟩;have n9:=Y.len dC;have c9:bh S (λa=>m a\/y a) d s t j h:=(f6.af b2).keep c8 λa B e=>(C a B).2.2 e;have h2:cT S vp R (bk.new d):=hv.keep c8 λa B e=>by have e:a=b.heap.size:=e;have:=b1 a B;omega
  refine⟨λr J w'=>∃(c:Nat) (ra:Option Addr) (T rc:Nat) (G:Nat->Prop),J=c/\c<=h/\r=h-c/\aj (·=b.heap.size) S w'/\w'.heap[b.heap.size]? =some (.cells #[.slice s t K,.slice j h x,QH (every:Int),.slice none 0 0,.pointer (some ⟨vp,0,none⟩),.slice ra T rc,.slice none 0 0] 222 (0,0))/\
   cU w' G ra T rc ((d.projs.take c).map λp=>(⟨p,[]⟩:ef))/\∀a,G a->S.heap.size<=a/\a<w'.heap.size,⟨_,0,none,0,0,λ_=>False,rfl,Qj _,rfl,aj.refl _,g0,cU.nil _,λa B=>B.elim⟩,?_⟩
  rintro r _ _ b3 ⟨f,ra,T,rc,G,rfl,i,rfl,I,d0,b4,l⟩;have o2:=I.size;refine al.dec (λf5=>?_) (λf8=>?_)
  ·have j0:f<d.projs.length:=oM
   have H:d.projs[f]? =some d.projs[f]:=Qq j0;generalize d.projs[f]=v at H;obtain⟨a,a4,es,a6,d5,h6,b5,rfl,d6⟩:=(c9.keep I λa B e=>(C a B).2.2 e).Bk.el f v H;refine⟨a,a4,a6,oM,oM,br (es:=oy v) (k:=5) (qH v) rfl (λa0 ht=>by rw [Qx];exact b5 a0 ht) (PA.mk λo3 j1 o4 j2=>aD (qH v) j2 rfl λo5 j3 o6 j4=>λj5 g3=>⟨λ_=>False,b.heap.size,0,rfl,id,?_⟩)⟩;have d1:ai b3 j5:=(j1.new j3 λa B=>.inr (by have B:a=b3.heap.size:=B;omega)).then g3.keep;refine⟨_,_,_,ae (d1.get d0 id) rfl,aw (qH v) ((g3.keep (S:=λ_=>False)).get j4 id) (PC.ok Rt ?_)⟩;rintro _ o7 ⟨p',r',rfl,d2,o8,o9,p0,p1,d3⟩;have j6:p'≠r':=λe=>by
    obtain⟨es,cl,hm,-⟩:=d2.map.at';have:=d2.at';rw [e,hm]at this;cases this
   have p2:=d3.size;have p3:=d1.size;refine⟨_,rfl,d3,PA.mk λp4 d4 p5 j7=>⟨d4,?_⟩⟩;have b6:=(d1.then d3).then d4;have j8:=b4.len;rw [Q8,Qy,X2 oM]at j8;refine(b4.af b6).push (λa B=>by have:=(l a B).2;omega) (d2.af d4) (λB=>by have:=(l _ B).2;omega) (λB=>by have:=(l _ B).2;omega) j6 Rl j7 (by rw [Q8,Qy];omega) λj9 k0 p6 G3 k2 g4 k3 k4=>⟨_,_,_,rfl,b.heap.size,0,rfl,?_⟩
   have k5:=g4.get (b6.get d0 id) λB=>by have:=(l _ B).1;omega
   have d7:∀a,G3 a->S.heap.size<=a:=λa B=>by
    rcases k3 a B with g|g|g|g
    ·exact(l a g).1
    ·omega
    ·omega
    ·omega
   refine PS.mk k5 sM λp7 g6 p8 k6=>⟨_,?_,f+1,j9,T+1,k0,G3,an oM,oM,rfl,((I.af b6).new g4 λa B=>.inr (l a B).1).then g6,k6,?_,λa B=>⟨d7 a B,by have:=k4 a B;omega⟩⟩
   ·omega
   ·rw [Qw,H,Q3]
    exact k2.keep g6 λa B e=>by have e:a=b.heap.size:=e;have:=d7 a B;omega
  ·rw [Qz oM]at b4
   have k7:∃U,eH b3 (λa=>∃k,(match k with|0=>a=b.heap.size|1=>m a\/y a|3=>R a|4=>G a|_=>False:Prop)) U b.heap.size ⟨s,t,K,j,h,x,every,none,0,0,vp,ra,T,rc,none,0,0⟩ d (cG d []) (eN d []).rows [] []:=by
    refine bS.join (G:=λk a=>match k with|0=>a=b.heap.size|1=>m a\/y a|3=>R a|4=>G a|_=>False) (λk=>?_) (λf c a i hj=>?_) λk a B=>?_
    ·match k with
     |0=>exact⟨rfl,d0⟩
     |1=>exact c9.keep I λa B e=>(C a B).2.2 e
     |2=>exact aV.nil _
     |3=>exact h2.keep I λa B e=>by have e:a=b.heap.size:=e;have:=b1 a B;omega
     |4=>exact b4
     |5=>exact aV.nil _
     |k+6=>trivial
    ·have V:∀f:Nat,(match f with|0=>a=b.heap.size|1=>m a\/y a|3=>R a|4=>G a|_=>False:Prop)->f=(if a=b.heap.size then 0 else if a<z.heap.size then 1 else if a<i9.heap.size then 3 else 4):=λf i=>by
      rcases f with _|_|_|_|_|f
      ·have i:a=b.heap.size:=i
       rw [if_pos i]
      ·have:=C a i;rw [if_neg oM,if_pos oM]
      ·exact i.elim
      ·have:=b1 a i;have:=f7 a i;rw [if_neg oM,if_neg oM,if_pos oM]
      ·have:=l a i;rw [if_neg oM,if_neg oM,if_neg oM]
      ·exact i.elim
     rw [V f i,<-V c hj]
    ·rcases k with _|_|_|_|_|k
     ·have B:a=b.heap.size:=B
      omega
     ·have:=C a B;omega
     ·exact B.elim
     ·have:=f7 a B;omega
     ·have:=l a B;omega
     ·exact B.elim
   obtain⟨U,hq⟩:=k7;have b7:ai w b3:=(((a7.then b2).new c8 λa B=>.inr (by have B:a=b.heap.size:=B;omega)).new I λa B=>.inr (by have B:a=b.heap.size:=B;omega))
   have g7:∀a,(∃k,(match k with|0=>a=b.heap.size|1=>m a\/y a|3=>R a|4=>G a|_=>False:Prop))->w.heap.size<=a:=λa ⟨k,B⟩=>by
    rcases k with _|_|_|_|_|k
    ·have B:a=b.heap.size:=B
     omega
    ·exact(C a B).1
    ·exact B.elim
    ·have:=b1 a B;omega
    ·have:=l a B;omega
    ·exact B.elim
   refine PC.ok (Fk hq o (hT.af b7) sM (by rw [qI];exact e5) sM sM) ?_;rintro _ p9 ⟨rfl,q',F',W,b8,b9,d8⟩;refine⟨rfl,Ok.mk ⟨b.heap.size,F',rfl,⟨⟨o,c0.1,c0.2,sM⟩,q',W,b9,?_⟩,λa B=>?_,b7.new d8.keep λa B=>.inr (g7 a B)⟩⟩
   ·rw [Ru];simpa using b8
   ·rcases d8.new a B with g|g
    ·exact g7 a g
    ·have:=b7.size;omega
end
section
variable {w w':World} {p:Nat} {F T D:Nat->Prop} {d:aR} {every:Nat} {l:List ah}
theorem Lj (s:dF w p F d every l) :
  Calls ZQ 391 #[.pointer (some ⟨p,0,none⟩),QH e,QH o] w (Ok λt w'=>∃c f g G,t= .tuple #[.agg #[QH (((cG d l).state e o).getD IB).version,.slice c f g],.bool ((cG d l).state e o).isSome]/\aV fL 84 G w' c f g (((cG d l).state e o).getD IB).cells/\(∀a,G a->w.heap.size<=a)/\ai w w'):=by
 obtain⟨z,A,u,rfl,j⟩:=s;refine sU (PA.mk λB h C v=>⟨p,0,rfl,_,ae (eH.af j h).bG rfl,PC.ok (ox ((eH.af j h).at' 3)) ?_⟩);rintro _ E ⟨c,f,g,G,rfl,x,k,i⟩;have H:=i.size;refine⟨_,_,_,_,_,rfl,PS.mk (i.get v id) sM λI m J y=>PS.mk y sM λK n L q=>⟨_,_,_,_,ae q rfl,ae q rfl,Ok.mk ⟨c,f,g,G,rfl,?_,λa b=>?_,?_⟩⟩⟩
 ·exact x.keep (m.then n) λa b r=>by have r:a=w.heap.size:=r;have:=k a b;omega
 ·have:=k a b;omega
 ·exact(h.then i).new (m.then n) λa b=>.inr (by have b:a=w.heap.size:=b;omega)
end
theorem Fy {a:ah}:∀{l:List ah},(∀x∈l,aO x≠aO a)->dO a l=l.take (posOf (λx=>fg x a) l)++a::l.drop (posOf (λx=>fg x a) l)
 |[],_=>rfl
 |x::l,c=>by
  have d:=c x (QV ..);unfold dO posOf;rw [List.takeWhile_cons]
  by_cases b:fg x a=true
  ·rw [if_pos b,if_neg (by rw [ns b];simp)]
   have:=Fy (l:=l) λe f=>c e (QJ _ f);rw [this];simp [posOf]
  ·rw [if_neg b,if_pos ((GY d).resolve_left b)]
   rfl
structure qO (most:Nat) (l:List ah):Prop where
 Rz:VF l
 ids:(l.map aO).Nodup
 ok:∀e∈l,e.Ok
 le:l.length<=most
theorem qO.nil (a:Nat):qO a []:=⟨List.Pairwise.nil,sM,sM,Qj _⟩
theorem qO.add (d:qO a B) (h:k.Ok):qO a (dQ a B k).2:=by
 unfold dQ;split
 ·exact d
 rename_i f;rw [not_or]at f;have g:∀b∈B,aO b≠aO k:=by
  have:=f.2;simp only [List.any_eq_true,beq_iff_eq,not_exists,not_and]at this;exact this
 have e:=cX k B;refine⟨xK d.Rz g,?_,λb c=>?_,by rw [e.length_eq,Xq];omega⟩
 ·refine(e.map aO).nodup_iff.2 ?_
  rw [QY,List.nodup_cons];exact⟨λi=>by obtain⟨b,c,j⟩:=Xk.1 i;exact g b c j,d.ids⟩
 ·rcases Q2.1 (e.mem_iff.1 c)with rfl|c
  ·exact h
  ·exact d.ok b c
theorem qO.sub (b:qO a B) (c:f6.Sublist B):qO a f6:=
 ⟨b.Rz.sublist c,b.ids.sublist (c.map aO),λd e=>b.ok d (c.subset e),Xx c.length_le b.le⟩
theorem tK {b:aq}:∀{a:List ah},(∀e∈a,(b.add e).1≠0)->cP b a=none
 |[],_=>rfl
 |e::a,c=>by
  unfold cP;rw [if_neg (c e (QV ..)),tK λd f=>c d (QJ _ f)];rfl
theorem tL {c:aq}:∀{a:List ah} {i:Nat} {e:ah},(∀x∈a.take i,(c.add x).1≠0)->a[i]? =some e->(c.add e).1=0->cP c a=some (e,(c.add e).2,a.eraseIdx i)
 |[],i,e,_,b,_=>by simp at b
 |x::a,0,e,d,b,f=>by
  simp at b;subst b;unfold cP;rw [if_pos f];rfl
 |x::a,i+1,e,d,b,f=>by
  unfold cP;rw [if_neg (d x sM),tL (i:=i) (e:=e) (λg h=>d g (by simp [h])) (by simpa using b) f]
  rfl
def cD (a:dz) (b:Option Addr) (c d:Nat) (e:Option Addr) (f g:Nat):List Value:=[QH a.kind,QH a.ck,QH a.qF,.slice b c d,.slice e f g]
abbrev kD (a:dz) (b:Option Addr) (c d:Nat) (e:Option Addr) (f g:Nat):Value:=.agg (cD a b c d e f g).toArray
theorem j_ (a:dz) (b:Option Addr) (c d:Nat) (e:Option Addr) (f g:Nat):jg ZQ 67 (cD a b c d e f g)=true:=kR
theorem XG (a:dz) (b:Option Addr) (c d:Nat) (e:Option Addr) (f g:Nat):TF (fe ZQ 67) (kD a b c d e f g)=true:=kR
section
variable {w w':World} {D E F:Nat->Prop} {m:dz} {va ea:Option Addr} {vn vc en ec N:Nat} {chunk:Int} {p:Nat} {S:aq}
theorem MK (d:Row aP 8 w D va vn m.vec) (k:Row fZ 96 w E ea en m.events):Calls ZQ 105 #[kD m va vn vc ea en ec,QH (N:Int)] w (Ok λl w'=>l= QH (iu m N)/\ai w w'):=by
 have v:=d.len;have x:=k.len;have n:=d.d_;refine Hr (PA.mk λy e z f=>⟨_,_,_,ae f rfl,al.dec (λo=>Ok.mk ⟨?_,e⟩) (λo=>⟨_,_,_,ae f rfl,al.dw (λp=>Ok.mk ⟨?_,e⟩) (λp=>⟨_,_,_,ae f rfl,λh q w'=>∃a:Nat,q=a/\a<=vn/\h=vn-a/\((m.vec.take a).any λb=>decide (b<0))=false/\ai w w',⟨_,0,rfl,Qj _,rfl,sM,e⟩,?_⟩)⟩)⟩)
 ·unfold iu;rw [if_pos oM]
 ·unfold iu;rw [if_neg oM,if_pos oM]
 rintro h _ _ A ⟨a,rfl,B,rfl,g,c⟩;refine al.dec (λC=>?_) (λF=>Ok.mk ⟨?_,c⟩)
 ·obtain⟨r,s,b,t,i,-,u⟩:=(d.af c).mh (i:=a) oM
  refine⟨r,s,t,oM,oM,b,u,al.dec (λj=>Ok.mk ⟨?_,c⟩) (λj=>⟨_,oM,a+1,an (by unfold aQ at n;omega),oM,rfl,?_,c⟩)⟩
  ·unfold iu;rw [if_neg oM,if_neg oM,if_pos (List.any_eq_true.2 ⟨b,QZ i,by simpa using j⟩)]
  ·rw [Qw,i,List.any_append,g];simp;omega
 ·rw [Qz oM]at g
  unfold iu;rw [if_neg oM,if_neg oM,if_neg (by rw [g];simp)]
theorem zG {e:Type} {a:e->Int}:∀{b:List e} {f:Nat} {c:e},(∀y∈b.take f,a y=0)->b[f]? =some c->a c≠0->cO a b=a c
 |y::b,0,c,_,d,g=>by
  simp at d;subst d;unfold cO;rw [if_pos (by simpa using g)]
 |y::b,f+1,c,h,d,g=>by
  have i:a y=0:=h y sM;unfold cO
  rw [i];simp only [bne_self_eq_false,Bool.false_eq_true,if_false];exact zG (λj k=>h j (QJ _ k)) (by simpa using d) g
theorem Dw {b:Type} {c:b->Int}:∀{a:List b},(∀y∈a,c y=0)->cO c a=0
 |[],_=>rfl
 |y::a,d=>by
  unfold cO
  rw [d y (QV ..)];simpa using Dw λe f=>d e (QJ _ f)
theorem ML (u:Row aP 8 w D va vn m.vec) (j:Row fZ 96 w E ea en m.events) (v:N<4611686018427387904):Calls ZQ 104 #[kD m va vn vc ea en ec,QH (N:Int),QH chunk] w (Ok λx w'=>x= QH (ez m N chunk)/\ai w w'):=by
 have W:=u.len;have X:=j.len;have y:=j.d_;refine Hq (PA.mk λY c Z d=>⟨_,_,_,ae d rfl,al.dec (λz=>Ok.mk ⟨?_,c⟩) (λz=>⟨_,_,_,ae d rfl,al.dec (λA=>Ok.mk ⟨?_,c⟩) (λA=>⟨_,_,_,ae d rfl,al.dec (λB=>Ok.mk ⟨?_,c⟩) (λB=>⟨_,_,_,ae d rfl,λo k w'=>∃a:Nat,k=a/\a<=en/\o=en-a/\(∀b∈m.events.take a,dh b N=0)/\ai w w',⟨_,0,rfl,Qj _,rfl,sM,c⟩,?_⟩)⟩)⟩)⟩)
 ·unfold ez;rw [if_pos oM]
 ·unfold ez;rw [if_neg oM,if_pos (.inl oM)]
 ·unfold ez;rw [if_neg oM,if_pos (.inr oM)]
 rintro o _ _ C ⟨a,rfl,hj,rfl,e,f⟩;have p:ez m N chunk=cO (λF=>dh F N) m.events:=by unfold ez;rw [if_neg oM,if_neg oM]
 refine al.dec (λa4=>?_) (λa5=>Ok.mk ⟨?_,f⟩)
 ·obtain⟨q,I,es,J,K,a6,r,g,h,i,rfl,s,L⟩:=(j.af f).el a m.events[a] (Qq oM)
  have l:m.events[a]? =some m.events[a]:=Qq oM;generalize m.events[a]=b at r s L l;refine⟨q,I,J,oM,oM,br (es:=aE b g h i) (k:=10) (bg b g h i) rfl (λk M=>r k M) (PA.mk λw3 O s3 P=>aD (bg b g h i) P rfl λQ R s4 S=>aw (bg b g h i) S ?_)⟩;have n:ai C Q:=O.new R λq K=>.inr oM;refine PC.ok (zj (s.af n) v) ?_;rintro _ w5 ⟨rfl,t⟩;refine⟨_,rfl,al.dw (λT=>Ok.mk ⟨by rw [p,zG e l T],(f.then n).then t⟩) (λU=>⟨_,oM,a+1,an (by unfold aQ at y;omega),oM,rfl,λV H=>?_,(f.then n).then t⟩)⟩;rw [Qw,l]at H;rcases Q6.1 H with H|H
  ·exact e V H
  ·simp at H;subst H;exact U
 ·rw [Qz oM]at e
  rw [p,Dw e]
theorem zH (j:cV w p F S) :Calls ZQ 95 #[.pointer (some ⟨p,0,none⟩),QH e,QH o] w (Ok λk w'=>∃va vn vc G,k=kD (lj S e o) va vn vc none 0 0/\aV aP 3 G w' va vn vc S.vec/\(∀o,G o->w.heap.size<=o)/\ai w w'):=by
 refine Ex (PA.mk λq g r l=>PC.ok (mi (j.af g)) ?_);rintro _ s ⟨b,c,d,G,rfl,m,f,h⟩;have t:=f.size;refine⟨_,_,_,rfl,aD (j_ (lj S e o) b c d none 0 0) (f.get l id) rfl λu i v n=>aw (j_ (lj S e o) b c d none 0 0) n (Ok.mk ⟨b,c,d,G,rfl,m.keep i λo a x=>?_,λo a=>?_,(g.then f).new i λo a=>.inr oM⟩)⟩
 ·have:=h o a;omega
 ·have:=h o a;omega
theorem Ki (j:cV w p F S) :Calls ZQ 107 #[.pointer (some ⟨p,0,none⟩),QH e,QH o] w (Ok λk w'=>∃va vn vc G,k=kD (yN S e o) va vn vc none 0 0/\aV aP 3 G w' va vn vc S.vec/\(∀o,G o->w.heap.size<=o)/\ai w w'):=by
 refine LK (PA.mk λq g r l=>PC.ok (mi (j.af g)) ?_);rintro _ s ⟨b,c,d,G,rfl,m,f,h⟩;have t:=f.size;refine⟨_,_,_,rfl,aD (j_ (yN S e o) b c d none 0 0) (f.get l id) rfl λu i v n=>aw (j_ (yN S e o) b c d none 0 0) n (Ok.mk ⟨b,c,d,G,rfl,m.keep i λo a x=>?_,λo a=>?_,(g.then f).new i λo a=>.inr oM⟩)⟩
 ·have:=h o a;omega
 ·have:=h o a;omega
theorem Gq {cs:Array Value} (c:w.heap[a]? =some (.cells cs g I)) (d:cs[0]? =some (QH (N:Int))):Calls ZQ 103 #[QH e,.pointer (some ⟨a,0,none⟩)] w (Ok λf w'=>f= .bool (decide (0<=e)&&decide (e<N))/\w=w'):=by
 refine Ez (al.dec (λb=>⟨_,ae c d,Ok.mk ⟨?_,rfl⟩⟩) (λb=>Ok.mk ⟨?_,rfl⟩))
 ·rw [decide_eq_true (show 0<=e from b)];rfl
 ·rw [Xv (show¬0<=e from b)];rfl
theorem Qd (p:Row aP 8 w D va vn m.vec) (q:Row fZ 96 w E ea en m.events) (x:N<4611686018427387904):Calls ZQ 51 #[kD m va vn vc ea en ec,QH (N:Int),QH chunk] w (Ok λi w'=>i= QH (dJ m N chunk)/\ai w w'):=by
 refine Jh (PA.mk λy z K A=>PA.mk λj r L k=>?_);have d:=r.get A id;have a:=z.then r;refine⟨λB w'=>B=(!(decide (0<=m.ck)&&decide (m.ck<N))|| !(decide (0<=m.qF)&&decide (m.qF<N))||m.ck==m.qF)/\j=w',?_,?_⟩
 ·refine⟨_,ae d rfl,_,_,_,rfl,kR,PC.ok (Gq (N:=N) k rfl) ?_⟩
  rintro _ _ ⟨rfl,rfl⟩;refine⟨_,rfl,al.not (al.mk (λb=>⟨_,ae d rfl,_,_,_,rfl,kR,PC.ok (Gq (N:=N) k rfl) ?_⟩) (λb=>⟨by rw [b];rfl,rfl⟩))⟩;rintro _ _ ⟨rfl,rfl⟩;refine⟨_,rfl,al.not (al.mk (λc=>⟨_,ae d rfl,_,ae d rfl,by rw [b,c];rfl,rfl⟩) (λc=>⟨by rw [b,c];rfl,rfl⟩))⟩
 rintro l _ _ ⟨C,rfl⟩;have g:dJ m N chunk=if m.kind=3 then(if l then 1 else ez m N chunk)else if m.kind=1\/m.kind=2\/m.kind=4 then(if l then 1 else iu m N)else 2:=by rw [C];rfl
 have e:∀{s:List PanicEntry->World->Prop},(if l then 1 else iu m N)=dJ m N chunk->al l (Ok (λi w'=>i= QH (dJ m N chunk)/\ai w w') (.returned (QH 1)) j) (ow ZQ 67 (.pointer (some ⟨w.heap.size,0,none⟩)) j λF=>(∃(t:Int),j.cell? ⟨y.heap.size,0,none⟩=some (QH t)/\PC ZQ 105 #[F,QH t] j (λH I=>∃(u:Int),H= QH u/\Ok (λi w'=>i= QH (dJ m N chunk)/\ai w w') (.returned (QH u)) I) s)):=λ{s} v=>by
  refine al.mk (λh=>Ok.mk ⟨by rw [<-v,h];rfl,a⟩) (λh=>aw (j_ m va vn vc ea en ec) d ⟨_,ae k rfl,PC.ok (MK (p.af a) (q.af a)) ?_⟩);rintro _ J ⟨rfl,n⟩;exact⟨_,rfl,Ok.mk ⟨by rw [<-v,h];rfl,a.then n⟩⟩
 refine⟨_,ae d rfl,al.dX (λf=>al.not (al.mk (λh=>?_) (λh=>aw (j_ m va vn vc ea en ec) d ⟨_,ae k rfl,PC.ok (ML (p.af a) (q.af a) x) ?_⟩))) (λf=>al.dX (λb=>al.tt (by simpa using b) (e ?_)) (λb=>al.dX (λc=>al.tt (by simpa using c) (e ?_)) (λc=>al.dX (λo=>e ?_) (λo=>Ok.mk ⟨?_,a⟩))))⟩
 ·exact al.tt h (Ok.mk ⟨by rw [g,if_pos f,h];rfl,a⟩)
 ·rintro _ J ⟨rfl,n⟩
  exact⟨_,rfl,Ok.mk ⟨by rw [g,if_pos f,h];rfl,a.then n⟩⟩
 ·rw [g,if_neg f,if_pos (show m.kind=1\/m.kind=2\/m.kind=4 from .inl b)]
 ·rw [g,if_neg f,if_pos (show m.kind=1\/m.kind=2\/m.kind=4 from .inr (.inl c))]
 ·rw [g,if_neg f,if_pos (show m.kind=1\/m.kind=2\/m.kind=4 from .inr (.inr o))]
 ·rw [g,if_neg f,if_neg (by rintro(h|h|h);exact b h;exact c h;exact o h)]
end
structure Rw (w:World) (p:Nat) (M D:Nat->Prop) (most:Nat) (l:List ah) (a:Option Addr) (n c:Nat) (L:List (Bx ah)):Prop where
 at':w.heap[p]? =some (.cells #[QH (most:Int),.slice a n c] 146 (0,0))
 pG:aV qE.k_ 59 (λb=>aI a=some b) w a n c L
 map:L.map (·.x)=l
 Pa:∀b∈L,qE.In w D b
 dD:∀b,D b->b<w.heap.size/\¬M b
 mp:M p
 ma:∀b,aI a=some b->M b/\b≠p
 dM:∀b,M b->b<w.heap.size
def ij (c:World) (d:Nat) (e D:Nat->Prop) (a:Nat) (b:List ah):Prop:=(a<=256/\qO a b)/\∃f g h i,Rw c d e D a b f g h i
section
variable {w w':World} {p:Nat} {M D T E:Nat->Prop} {most:Nat} {l:List ah} {a:Option Addr} {n c:Nat} {L:List (Bx ah)}
theorem Rw.keep (d:Rw w p M D most l a n c L) (f:aj T w w') (g:∀b,M b->¬T b) (h:∀b,D b->¬T b):Rw w' p M D most l a n c L:=
 ⟨f.get d.at' (g _ d.mp),d.pG.keep f λb e=>g b (d.ma b e).1,d.map,λb e=>(d.Pa b e).keep f h,λb e=>⟨Qk (d.dD b e).1 f.size,(d.dD b e).2⟩,d.mp,d.ma,λb e=>Qk (d.dM b e) f.size⟩
theorem ij.keep (d:ij w p M D most l) (e:aj T w w') (f:∀b,M b->¬T b) (g:∀b,D b->¬T b):ij w' p M D most l:=by
 obtain⟨h,a,n,c,L,d⟩:=d;exact⟨h,a,n,c,L,d.keep e f g⟩
theorem ij.af (a:ij w p M D most l) (b:ai w w'):ij w' p M D most l:=a.keep b (λ_ _ a=>a) λ_ _ a=>a
theorem xH:jP ZQ 50 59 qE.k_.k 96:=Eg
theorem Lk (h:0<=e/\e<=256):Calls ZQ 36 #[QH e] w (Ok λd w'=>∃p,d= .pointer (some ⟨p,0,none⟩)/\ij w' p (·=p) (λ_=>False) e.toNat []/\w.heap.size<=p/\p<w'.heap.size/\ai w w'):=by
 refine GV (PA.mk λf g i c=>Ok.mk ⟨w.heap.size,rfl,⟨⟨oM,qO.nil _⟩,none,0,0,[],?_,(aV.nil f).mono (λb a=>a.elim) (λb a=>by cases a),rfl,sM,λb a=>a.elim,rfl,λb a=>(by cases a),λb a=>by have a:b=w.heap.size:=a;omega⟩,Q4 _,oM,g⟩);have:(if(if 256<e then 256 else e)>0 then(if 256<e then 256 else e)else 0)=((e.toNat:Nat):Int):=by split<;>split<;>omega
 rw [this]at c;exact c
theorem vG (e:ij w p M D most l):Calls ZQ 62 #[.pointer (some ⟨p,0,none⟩)] w (Ok λg w'=>g= .tuple #[]/\ij w' p M (λ_=>False) most []/\aj M w w'):=by
 obtain⟨h,a,n,c,L,e⟩:=e;refine pQ ⟨p,0,rfl,PS.mk e.at' sM λi j k m=>Ok.mk ⟨rfl,⟨⟨h.1,qO.nil _⟩,none,0,0,[],m,(aV.nil i).mono (λd b=>b.elim) (λd b=>by cases b),rfl,sM,λd b=>b.elim,e.mp,λd b=>(by cases b),λd b=>by rw [k];exact e.dM d b⟩,j.mono λd _ f=>by have f:d=p:=f;exact f▸e.mp⟩⟩
theorem Bs (s:enters ZQ z=true) (d:Nat->World->Prop) (o:Nat->World->Prop) (i:d 0 w)
  (j:∀b g,d b g->Row qE.k_ 96 g E a n L)
  (t:∀b e g,L[b]? =some e->d b g->Calls ZQ z (r++ #[kK e.x e.a e.n e.c]++a1) g (Ok λh w'=>(h= .bool true/\o b w')\/(h= .bool false/\d (b+1) w'))):
  Calls ZQ 237 #[.slice a n c,.func (.func z) r a1] w (Ok λh w'=>(∃b,b<n/\h= QH (b:Int)/\o b w')\/(h= QH (-1)/\d n w')):=by
 have H:=(j 0 w i).len;have u:=(j 0 w i).d_;unfold aQ at u;refine fR ⟨λp k w'=>∃b:Nat,k=b/\b<=n/\p=n-b/\d b w',⟨_,0,rfl,Qj _,rfl,i⟩,?_⟩;rintro p _ _ q ⟨b,rfl,I,rfl,l⟩;refine al.dec (λJ=>?_) (λK=>?_)
 ·have v:b<L.length:=oM
  have m:L[b]? =some L[b]:=Qq v;generalize L[b]=f at m;obtain⟨e,x,M,y,N,O,A,rfl,-⟩:=(j b q l).el b f m;refine⟨e,x,y,oM,oM,br (es:=aE f.x f.a f.n f.c) (k:=10) (bg _ _ _ _) rfl (λk B=>by rw [Qx];exact A k B) ⟨_,_,_,rfl,s,PC.ok (t b f q m l) ?_⟩⟩;rintro _ P (⟨rfl,C⟩|⟨rfl,F⟩)
  ·exact⟨_,rfl,al.tt rfl (Ok.mk (.inl ⟨b,oM,rfl,C⟩))⟩
  ·exact⟨_,rfl,al.ff rfl ⟨_,oM,b+1,an oM,oM,rfl,F⟩⟩
 ·obtain rfl:b=n:=oM
  exact Ok.mk (.inr ⟨rfl,l⟩)
theorem IW {g h:Nat} {b:Nat} {c:ah} {i j:Nat} (e:w.heap[b]? =some (.cells (aE c q i j).toArray 59 I)):
  Calls ZQ 229 #[kK k d g h,.pointer (some ⟨b,0,none⟩)] w (Ok λl w'=>l= .bool (aO k==aO c)/\ai w w'):=by
 refine pR (PA.mk λm a n f=>⟨_,_,ae f rfl,ae f rfl,_,_,ae (a.get e id) rfl,ae (a.get e id) rfl,NN.eql ⟨_,rfl,Ok.mk ⟨rfl,a⟩⟩⟩)
theorem Ll (m:Row qE.k_ 96 w E a n L) (x:∀b,E b->b<w.heap.size) {o:Nat} {r s:Nat} (t:w.heap[o]? =some (.cells (aE k d r s).toArray 59 I)):
  Calls ZQ 228 #[.slice a n c,.func (.func 229) #[] #[.pointer (some ⟨o,0,none⟩)]] w (Ok λp w'=>p= .bool (L.any λb=>aO b.x==aO k)/\ai w w'):=by
 have y:=m.len;refine fA (PC.ok (Bs (E:=E) kR (λg h=>(∀b∈L.take g,(aO b.x==aO k)=false)/\ai w h) (λg h=>(L.any λb=>aO b.x==aO k)=true/\ai w h) ⟨sM,aj.refl _⟩ (λg h i=>m.af i.2) ?_) ?_)
 ·rintro g b h j ⟨l,e⟩
  refine(IW (e.get t id)).mono ?_;rintro _ z ⟨p,rfl,rfl,q⟩;refine Ok.mk ?_
  cases i:aO b.x==aO k
  ·refine .inr ⟨rfl,λu f=>?_,e.then q⟩
   rw [Qw,j]at f;rcases Q6.1 f with f|f
   ·exact l u f
   ·simp at f;subst f;exact i
  ·exact .inl ⟨rfl,List.any_eq_true.2 ⟨b,QZ j,i⟩,e.then q⟩
 ·rintro _ A (⟨g,B,rfl,v,e⟩|⟨rfl,l,e⟩)
  ·exact⟨_,rfl,Ok.mk ⟨by rw [v,decide_eq_true oM],e⟩⟩
  ·refine⟨_,rfl,Ok.mk ⟨?_,e⟩⟩
   rw [Qz oM]at l;rw [List.any_eq_false.2 λb j=>by rw [l b j];simp]
   rfl
end
end Go.Proofs.YtfchlbaidamodaaGreatDoor

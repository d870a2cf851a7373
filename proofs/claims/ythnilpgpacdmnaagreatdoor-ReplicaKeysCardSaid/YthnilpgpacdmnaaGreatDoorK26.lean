import Derived.Test.YthnilpgpacdmnaaGreatDoorK25
namespace Go.Proofs.YthnilpgpacdmnaaGreatDoor
open Go.au
set_option linter.unusedVariables false
set_option maxRecDepth 20000
variable{f:Nat->Prop}{d:Option Addr}{b:World}{B:aw}
section
variable {w w':World} {p:Nat} {M D E:Nat->Prop} {most:Nat} {l:List aj} {a:Option Addr} {n c:Nat} {L:List (Bx aj)}
structure Pt (w:World) (p:Nat) (M:Nat->Prop) (most:Nat) (a:Option Addr) (c s tb:Nat) (T:aw) (nc:Nat) (Lc:List (Bx aj)) (oa:Option Addr) (on oc:Nat) (Lo:List (Bx aj)) (w1:World):Prop where
 set:∃F1,cj w1 s F1 T/\(∀b,F1 b->w.heap.size<=b/\b≠tb)/\∀b,aF oa=some b->w.heap.size<=b/\¬F1 b/\b≠tb
 ptr:w1.heap[tb]? =some (.cells #[.pointer (some ⟨s,0,none⟩)] 82 (0,0))
 buf:w1.heap[p]? =some (.cells #[.int .i64 (most:Int),.slice a nc c] 128 (0,0))
 nC:aO oz.jt 60 (λb=>aF a=some b) w1 a nc c Lc
 out:aO oz.jt 60 (λb=>aF oa=some b) w1 oa on oc Lo
 af:ak M w w1
theorem wA (j:Nq w p M D most l a n c L) {s m:Nat} {k:Nat} {h:List (Bx aj)} {t u:Nat} {v:List (Bx aj)} (J:Pt w p M most a c s m B k h d t u v b) (P:∀e∈h,e∈L) (R:B.l.length<=20000000) (a6:h.length<=20000000):
  Calls Tryz.prog 255 #[.slice a k c,.func (.func 254) #[] #[.pointer (some ⟨m,0,none⟩)]] b (Ok λC w'=>
   (C= .int .i64 (-1)/\(∀e∈h,(B.add e.x).1≠0)/\Pt w p M most a c s m B k h d t u v w')\/
   (∃i e,i<k/\C= .int .i64 (i:Int)/\h[i]? =some e/\(∀y∈h.take i,(B.add y.x).1≠0)/\(B.add e.x).1=0/\Pt w p M most a c s m (B.add e.x).2 k h d t u v w')):=by
 have S:=j.dM p j.mp;have a7:=J.nC.len dC;have T:∀e,aF a=some e->e<w.heap.size:=λe f=>j.dM e (j.ma e f).1;refine(yO (E:=λe=>aF a=some e) (L:=h) kR (λi o=>(∀e∈h.take i,(B.add e.x).1≠0)/\Pt w p M most a c s m B k h d t u v o) (λi o=>∃e,h[i]? =some e/\(∀y∈h.take i,(B.add y.x).1≠0)/\(B.add e.x).1=0/\Pt w p M most a c s m (B.add e.x).2 k h d t u v o) ⟨sM,J⟩
  (λi o g=>g.2.nC.row dC (by unfold aI;omega)) ?_).mono ?_
 ·rintro i e o f ⟨K,g⟩
  obtain⟨U,V,z,E⟩:=g.set;have N:=(j.Lu e (P e (QZ f))).af g.af λe f=>(j.dD e f).2;have z2:=g.af.size;refine(Ly V g.ptr N.1 (λe f=>⟨by have:=(j.dD e f).1;omega,λq=>by have:=(j.dD e f).1;have:=(z e q).1;omega⟩) N.2 R).mono ?_;rintro _ W ⟨C,rfl,rfl,X,Y,r⟩;have O:∀e,e<w.heap.size->¬U e:=λe f q=>by have:=(z e q).1;omega
  have Z:=ay g.ptr;have H:∀e,aF d=some e->e<o.heap.size:=λe f=>g.out.aC e f;have I:Pt w p M most a c s m (B.add e.x).2 k h d t u v W:=⟨⟨X,Y,λe f=>(r.new e f).elim (z e) λA=>⟨oM,oM⟩,λe f=>⟨(E e f).1,λq=>(r.new e q).elim (E e f).2.1 λA=>by have:=H e f;omega,(E e f).2.2⟩⟩,
   r.af.get g.ptr λq=>(z _ q).2 rfl,r.af.get g.buf (O p S),g.nC.af r.af λe f=>O e (T e f),g.out.af r.af λe f=>(E e f).2.1,g.af.new r.af λe f=>.inr (z e f).1⟩
  refine Ok.mk ?_
  by_cases x:(B.add e.x).1=0
  ·exact .inl ⟨by rw [decide_eq_true x],e,f,K,x,I⟩
  ·refine .inr ⟨by rw [Xv x],λy Q=>?_,?_⟩
   ·rw [Qw,f]at Q
    rcases Q6.1 Q with Q|Q
    ·exact K y Q
    ·simp at Q;subst Q;exact x
   ·rcases B.ig e.x with⟨-,A⟩|⟨A,-⟩
    ·rw [A]at I;exact I
    ·rw [A]at x;exact absurd rfl x
 ·rintro _ o ⟨C,rfl,hv⟩
  rcases hv with⟨i,hj,rfl,e,F,g,h3,h4⟩|⟨rfl,F,g⟩
  ·exact Ok.mk (.inr ⟨i,e,hj,rfl,F,g,h3,h4⟩)
  ·rw [Qz oM]at F
   exact Ok.mk (.inl ⟨rfl,F,g⟩)
theorem DO (d7:fM w p M D most l) {b3:Nat} (hs:cj w b3 f B) (g6:B.Cl) (k6:B.l.length<=19000000):
  Calls Tryz.prog 190 #[.pointer (some ⟨p,0,none⟩),.pointer (some ⟨b3,0,none⟩)] w (Ok λd9 w'=>∃r A F m,d9= .slice r A F/\aO oz.jt 60 (λb=>aF r=some b) w' r A F m/\m.map (·.x)=(bw B l).1/\(∀b∈m,oz.In w' D b)/\(∀b,aF r=some b->w.heap.size<=b)/\
   fM w' p M D most (bw B l).2/\ak M w w'):=by
 obtain⟨W,a,n,c,L,h⟩:=d7;have g7:=h.dM p h.mp;have X:∀b,aF a=some b->b<w.heap.size:=λb d=>h.dM b (h.ma b d).1;have k8:L.length=l.length:=by rw [<-h.map,Q8]
 have g8:l.length<=256:=Xx W.2.le W.1;have hN:=hs.1.n;refine nP (PC.ok (kq hs) ?_);rintro _ w4 ⟨va,vn,vc,Fv,rfl,h4,k4,l0⟩;have d1:=h4.len dC;rw [B.br]at d1;subst d1;refine⟨_,_,_,rfl,PC.ok (DP hN) ?_⟩;rintro _ C ⟨H,F2,rfl,d2,d3,k7⟩;have z4:=k4.size;have z7:=k7.size;refine⟨_,rfl,PA.mk λw9 k9 s9 g9=>PS.mk g9 sM λh6 h7 l3 h8=>?_⟩;have a1:ai C h6:=k9.new h7 λb d=>.inr (by have d:b=C.heap.size:=d;omega);have b4:=(k4.then k7).then a1;have Y:=d2.aC;refine PC.ok (qj (hs.ah b4) oM) ?_;rintro _ Z ⟨ea,en,ec,G,rfl,b9,a6,hG⟩;have l4:=b9.len dC;have l5:=a1.size;have l6:=a6.size;have e6:Row f_ 96 Z G ea en B.l:=b9.row dC (by unfold aI;omega);have h9:Z.heap[C.heap.size]? =some (.cells #[.pointer (some ⟨H,0,none⟩)] 82 (0,0)):=a6.get h8 id;have d5:=b9.aC;refine⟨_,_,_,rfl,λR a2 w'=>∃(g:Nat) (S:Nat->Prop),a2=g/\g<=en/\R=en-g/\cj w' H S ((⟨B.n,[]⟩:aw).fe (B.l.take g))/\(∀b,S b->F2 b\/Z.heap.size<=b)/\ak F2 Z w',⟨_,0,F2,rfl,Qj _,rfl,d2.ah (a1.then a6),λb d=>.inl d,ak.refl _⟩,?_⟩;rintro R _ _ a7 ⟨g,S,rfl,hj,rfl,a8,a9,T⟩;have l7:=T.size;have c0:=T.get h9 λI=>by have:=Y _ I;omega
 refine al.dec (λl8=>?_) (λl9=>?_)
 ·have N:B.l[g]? =some B.l[g]:=Qq oM
  generalize B.l[g]=O at N;have e7:=e6.af T λb d I=>by have:=Y _ I;have:=hG b d;omega
  obtain⟨b,f0,es,ha,m1,m2,c1,xa,xn,xc,rfl,i1,f1⟩:=e7.el g O N;refine⟨b,f0,ha,oM,oM,bq (es:=aB O xa xn xc) (k:=10) (aV _ _ _ _) rfl (λa2 ht=>by rw [Qx];exact c1 a2 ht) (PA.mk λm3 i3 m4 i4=>az (aV O xa xn xc) i4 rfl λi5 i6 m5 i7=>?_)⟩;have P:ai a7 i5:=i3.new i6 λb d=>.inr (by have d:b=a7.heap.size:=d;omega);have c2:=aw.lH (B.l.take g) ⟨B.n,[]⟩;rw [Qy]at c2;simp only [List.length_nil]at c2;refine⟨_,ae (P.get c0 id) rfl,ar (aV O xa xn xc) i7 (PC.ok (tk (a8.ah P) (i1.ah P) (λb d=>⟨by have:=d5 b d;have:=P.size;omega,λI=>?_⟩) f1 oM) ?_)⟩
  ·rcases a9 b I with k|k
   ·have:=Y _ k;have:=hG b d;omega
   ·have:=d5 b d;omega
  rintro _ i8 ⟨rfl,F3,i9,d8⟩;refine⟨_,rfl,_,oM,g+1,F3,aq oM,oM,rfl,?_,λb d=>?_,?_⟩
  ·rw [Qw,N]
   show cj i8 H F3 (aw.fe _ (B.l.take g++[O]));rw [aw.qk];exact i9
  ·rcases d8.new b d with k|k
   ·exact a9 b k
   ·have:=P.size;exact .inr oM
  ·exact(T.ah P).new d8.af λb d=>a9 b d
 rw [Qz oM,g6.Tj]at a8;have b5:ai w a7:=(b4.then a6).new T λb d=>.inr (by have:=d3 b d;omega);have c3:=h.af b5 (λ_ _ h=>h) λ_ _ h=>h;have t:∀b,S b->w.heap.size<=b/\b≠C.heap.size:=λb d=>by
  rcases a9 b d with k|k
  ·have:=d3 b k;have:=Y b k;omega
  ·omega
 refine⟨p,0,rfl,_,_,_,ae c3.at' rfl,PC.ok (Lw (pr:=λe=>(B.get (aR e)).isSome) kR c3.nC oM λb w1 hk=>?_) ?_⟩
 ·refine Lx (a8.af hk λb d e=>?_) (hk.get c0 λe=>?_)
  ·have:=X b e;have:=(t b d).1;omega
  ·have:=X _ e;omega
 rintro _ m6 ⟨m0,rfl,f3,e0⟩;have b0:¬aF a=some p:=λe=>(h.ma p e).2 rfl;refine⟨_,_,_,rfl,p,0,rfl,PS.mk (e0.get c3.at' b0) sM λe1 e2 m7 e3=>⟨p,0,rfl,_,_,_,ae e3 rfl,?_⟩⟩;obtain⟨u,z⟩:∃u,u=L.filter λb=>!(B.get (aR b.x)).isSome:=⟨_,rfl⟩
 have a3:ak (λb=>aF a=some b\/b=p) a7 e1:=(e0.mono λb _ d=>.inl d).then (e2.mono λb _ d=>.inr d);have Uj:∀b,aF a=some b\/b=p->b<w.heap.size:=λb d=>d.elim (X b) λe=>e▸g7;have e4:Pt w p M most a c H C.heap.size B m0 u none 0 0 [] e1:=by
  refine⟨⟨S,a8.af a3 λb d e=>by have:=Uj b e;have:=(t b d).1;omega,t,λb d=>by cases d⟩,a3.get c0 λe=>by have:=Uj _ e;omega,e3,?_,(aO.nil _).mono (λb d=>d.elim) λb d=>(by cases d),?_⟩
  ·rw [z];exact f3.af e2 λb d e=>b0 (by have e:b=p:=e;rw [<-e];exact d)
  ·exact(ai.af b5).then (a3.mono λb _ d=>d.elim (λe=>(h.ma b e).1) λe=>e▸h.mp)
 have b6:∀b∈u,b∈L:=λb d=>by rw [z]at d;exact(List.mem_filter.1 d).1
 have a4:u.map (·.x)=l.filter λe=>(B.get (aR e)).isNone:=by
  rw [z,<-h.map,List.filter_map]
  congr 1
  refine List.filter_congr λb d=>?_;show(!(B.get (aR b.x)).isSome)=(B.get (aR b.x)).isNone
  cases B.get (aR b.x)<;>rfl
 have b7:u.length<=L.length:=by rw [z];exact List.length_filter_le ..
 refine PC.ok (wA h e4 b6 oM oM) ?_;rintro j0 m8 b8;obtain⟨i0,j1⟩:∃v:Int,j0= .int .i64 v:=by
  rcases b8 with⟨o,-⟩|⟨g,b,-,o,-⟩
  ·exact⟨_,o⟩
  ·exact⟨_,o⟩
 subst j1;refine⟨_,rfl,λR r A F v w'=>∃(s:aw) (i m:List (Bx aj)) (E U:Nat),R=i.length/\(∀b∈i,b∈L)/\(∀b∈m,b∈L)/\(i.map (·.x)).Sublist l/\i.length<=U/\s.l.length+i.length<=B.l.length+L.length/\i.length<=L.length/\m.length+i.length<=L.length/\E=i.length/\
   dS (U+1) s (i.map (·.x)) (m.map (·.x))=bw B l/\
   ((v= -1/\(∀b∈i,(s.add b.x).1≠0)/\Pt w p M most a c H C.heap.size s E i r A F m w')\/
    (∃g b,g<E/\v=(g:Int)/\i[g]? =some b/\(∀x∈i.take g,(s.add x.x).1≠0)/\(s.add b.x).1=0/\Pt w p M most a c H C.heap.size (s.add b.x).2 E i r A F m w')),?_,?_⟩
 ·have j2:=e4.nC.len dC
  refine⟨_,B,u,[],m0,u.length,rfl,b6,sM,by rw [a4];exact List.filter_sublist,Q4 _,oM,b7,by simpa using b7,j2,?_,?_⟩
  ·rw [a4]
   show dS (u.length+1) B _ []=_;unfold bw;rw [<-a4];show _=dS ((u.map (·.x)).length+1) B _ [];rw [Q8]
  ·rcases b8 with⟨o,J,K⟩|⟨g,b,o,J,K⟩
   ·exact .inl ⟨by simpa using o,J,K⟩
   ·exact .inr ⟨g,b,o,by simpa using J,K⟩
 rintro R r A F v _ j3 ⟨s,i,m,E,U,rfl,a5,c5,e5,hk,m9,k3,k5,n0,c6,j4⟩;rcases j4 with⟨rfl,c4,j⟩|⟨g,b,hj,rfl,d,c4,f4,j⟩
 ·refine al.ff sM (Ok.mk ⟨r,A,F,m,rfl,j.out,?_,λb d=>(h.Lu b (c5 b d)).af j.af λb d=>(h.dD b d).2,λb d=>by obtain⟨F1,-,-,k⟩:=j.set;exact(k b d).1,⟨⟨W.1,?_⟩,a,E,c,i,j.buf,j.nC,?_,λb d=>(h.Lu b (a5 b d)).af j.af λb d=>(h.dD b d).2,λb d=>⟨by have:=(h.dD b d).1;have:=j.af.size;omega,(h.dD b d).2⟩,h.mp,h.ma,λb d=>by have:=h.dM b d;have:=j.af.size;omega⟩,j.af⟩)
  all_goals
   have f5:bw B l=(m.map (·.x),i.map (·.x)):=by
    rw [<-c6];unfold dS;rw [ri λe he=>by obtain⟨b,d,rfl⟩:=Xk.1 he;exact c4 b d]
   rw [f5]
  exact W.2.sub e5
 ·have j5:g<i.length:=oM
  have n1:=j;obtain⟨F1,e8,e9,b1⟩:=j.set;have n2:=j.af.size;have c2:=s.yo b.x;obtain⟨gb,go,es,ha,n3,n4,c1,rfl,-⟩:=(j.nC.row (bytes:=96) dC (by unfold aI;omega)).el g b d;have e:=λv (hi:v<10)=>c1 v hi;refine al.dec (λ_=>⟨p,0,rfl,_,_,_,ae j.buf rfl,gb,go,ha,oM,oM,_,_,_,_,_,_,_,_,_,_,_,_,e 0 dC,e 1 dC,e 2 dC,e 3 dC,e 4 dC,e 5 dC,e 6 dC,e 7 dC,e 8 dC,e 9 dC,PA.mk λj6 f2 n8 j7=>?_⟩) (λhn=>oM);have n9:=j.out.len dC;refine dQ (c:=oz.jt) (x:=b) (D:=λ_=>False) (j.out.ah f2) u_ j7 ⟨rfl,trivial⟩ (λb d=>d.elim) (by unfold aI;omega) (by unfold maxLen;omega) λV b2 g0 Fo c9 j8 j9=>⟨_,_,_,rfl,p,0,rfl,?_⟩
  have f6:=c9.alone;have d0:∀b,aF V=some b->aF r=some b\/j6.heap.size<=b:=λb d=>(j9 b (c9.self b d)).imp id λh=>h.resolve_left id;have q:∀b,aF r=some b->w.heap.size<=b:=λb d=>(b1 b d).1;have Q:ak (λb=>aF r=some b) j3 g0:=(ai.af f2).then j8;have g1:=Q.get j.buf λe=>by have:=q _ e;omega
  have f7:=j.nC.af Q λb d e=>by have:=q _ e;have:=X b d;omega
  have o0:=Q.size;refine⟨_,_,_,ae g1 rfl,PC.ok (RX f7 hj oM) ?_⟩;rintro _ o1 ⟨rfl,g2,c7⟩;have o2:=c7.size;refine⟨_,_,_,rfl,p,0,rfl,PS.mk (c7.get g1 b0) sM λg3 g4 o3 g5=>⟨p,0,rfl,_,_,_,ae g5 rfl,?_⟩⟩;have o4:(i.eraseIdx g).length=i.length-1:=List.length_eraseIdx_of_lt j5;have a0:ak (λb=>aF a=some b\/b=p) g0 g3:=(c7.mono λb _ d=>.inl d).then (g4.mono λb _ d=>.inr d);have c8:∀b,w.heap.size<=b->¬(aF a=some b\/b=p):=λb d e=>by have:=Uj b e;omega
  have k0:Pt w p M most a c H C.heap.size (s.add b.x).2 (E-1) (i.eraseIdx g) V (A+1) b2 (m++[b]) g3:=by
   refine⟨⟨F1,(e8.af Q λb d e=>(b1 b e).2.1 d).af a0 λb d=>c8 b (e9 b d).1,e9,λb d=>?_⟩,a0.get (Q.get j.ptr λe=>(b1 _ e).2.2 rfl) (c8 _ oM),g5,g2.af g4 λb d e=>b0 (by have e:b=p:=e;rw [<-e];exact d),f6.af a0 λb d=>c8 b ?_,?_⟩
   ·rcases d0 b d with k|k
    ·exact b1 b k
    ·have hd:=e8.aC
     have o5:=ay j.ptr;exact⟨oM,λI=>by have:=hd b I;omega,oM⟩
   ·rcases d0 b d with k|k
    ·exact q b k
    ·omega
   ·exact(j.af.new Q λb d=>.inr (q b d)).then (a0.mono λb _ d=>d.elim (λe=>(h.ma b e).1) λe=>e▸h.mp)
  have d4:∀x∈i.eraseIdx g,x∈L:=λx y=>a5 x ((List.eraseIdx_sublist ..).subset y);refine PC.ok (wA h k0 d4 oM oM) ?_;rintro k1 o6 d6;obtain⟨i2,k2⟩:∃v:Int,k1= .int .i64 v:=by
   rcases d6 with⟨o,-⟩|⟨g,b,-,o,-⟩
   ·exact⟨_,o⟩
   ·exact⟨_,o⟩
  subst k2;have f8:∃k',U=k'+1:=⟨U-1,oM⟩
  obtain⟨k',rfl⟩:=f8;refine⟨_,rfl,(i.eraseIdx g).length,oM,(s.add b.x).2,i.eraseIdx g,m++[b],E-1,k',rfl,d4,?_,?_,oM,oM,oM,by simp;omega,oM,?_,?_⟩
  ·intro x y
   rcases Q6.1 y with y|y
   ·exact c5 x y
   ·simp at y;subst y;exact a5 x (QZ d)
  ·exact((List.eraseIdx_sublist ..).map _).trans e5
  ·rw [<-c6]
   conv=>rhs;unfold dS
   rw [rk (i:=g) (e:=b.x) (λO N=>by rw [<-List.map_take]at N;obtain⟨x,y,rfl⟩:=Xk.1 N;exact c4 x y) (by rw [Q9,d];rfl) f4];show _=dS (k'+1) (s.add b.x).2 ((i.map (·.x)).eraseIdx g) (m.map (·.x)++[b.x]);rw [map_eraseIdx,Q3];rfl
  ·rcases d6 with⟨o,J,K⟩|⟨g,b,o,J,K⟩
   ·exact .inl ⟨by simpa using o,J,K⟩
   ·exact .inr ⟨g,b,o,by simpa using J,K⟩
end
set_option maxRecDepth 100000
def vN:fq:=⟨[],[],[6],[],[(6,⟨[0,1,0,4,0,16,0,64,0,256,0,1024,0,4096,0,16384,43690,0,262143],[524287,524286,524287,524283,524287,524271,524287,524223,524287,524031,524287,523263,524287,520191,524287,507903,480597,524287,327679],[0,0,0,2,0,1,0,1,0,1,0,1,0,1,0,1,0,2,2]⟩)]⟩
variable{t:Ending->World->Prop}{e n:Int}{u:List Int}{a c i l:Nat}{p:Option Addr}{o:Value->World->Prop}{k:World}{y:World->Prop}{J:aM}{b0:dU}{d4:iU}
theorem vf {q r s u v w x i j:Int} (P:PA b (.cells #[.ii q,.ii r,.ii s,.ii u,.ii v,.ii w,.ii x] 30) λe=>PA e (.cells #[.ii 0,.ii 0,.ii 0,.slice none 0 0,.ii 0,.ii 0,.ii 0,.ii 0,.ii 0,.ii 0] 60) λk=>al (decide (i<0)) (St 60 (ab_ e 0) (.agg #[.ii 0,.ii 0,.ii 0,.slice none 0 0,.ii 0,.ii 0,.ii 0,.ii 0,.ii 0,.ii 0]) k λy=>(Ld 60 (ab_ e 0) y λQ=>rt t ((.tuple #[Q,.ii 1])) y)) (al (decide (i>=(a:Int))) (St 60 (ab_ e 0) (.agg #[.ii 0,.ii 0,.ii 0,.slice none 0 0,.ii 0,.ii 0,.ii 0,.ii 0,.ii 0,.ii 0]) k λz=>(Ld 60 (ab_ e 0) z λR=>rt t ((.tuple #[R,.ii 1])) z)) (al (decide (j<0)) (St 60 (ab_ e 0) (.agg #[.ii 0,.ii 0,.ii 0,.slice none 0 0,.ii 0,.ii 0,.ii 0,.ii 0,.ii 0,.ii 0]) k λA=>(Ld 60 (ab_ e 0) A λS=>rt t ((.tuple #[S,.ii 1])) A)) (PC_ 128 #[.slice d a c,.ii i] k (kI_ λl m=>al (l==9223372036854775807) (St 60 (ab_ e 0) (.agg #[.ii 0,.ii 0,.ii 0,.slice none 0 0,.ii 0,.ii 0,.ii 0,.ii 0,.ii 0,.ii 0]) m λB=>(Ld 60 (ab_ e 0) B λT=>rt t ((.tuple #[T,.ii 13])) B)) (al (j==9223372036854775807) (St 60 (ab_ e 0) (.agg #[.ii 0,.ii 0,.ii 0,.slice none 0 0,.ii 0,.ii 0,.ii 0,.ii 0,.ii 0,.ii 0]) m λC=>(Ld 60 (ab_ e 0) C λU=>rt t ((.tuple #[U,.ii 13])) C)) ((∀f,bd m f->∃g:Nat->Prop,(¬g b.heap.size/\(rI f (ab_ b 0) λD=>(¬g b.heap.size/\(rI f (ab_ b (0+1)) λE=>(¬g b.heap.size/\(rI f (ab_ b (0+2)) λF=>(¬g b.heap.size/\(rI f (ab_ b (0+3)) λG=>(¬g b.heap.size/\(rI f (ab_ b (0+4)) λH=>(¬g b.heap.size/\(rI f (ab_ b (0+6)) λI=>((PC_ 124 #[.slice d a c,.slice none 0 0] f (kS_ λV W X h=>(ak g f h/\PA h (.cells #[.ii 0,.ii 0,.ii 0,.slice none 0 0,.ii 0,.ii 0,.ii 0,.ii 0,.ii 0,.ii 0] 60) λn=>(ak g h n/\St 60 (ab_ h 0) (.agg #[.ii 0,.ii 0,.ii (IntKind.wrap .i64 (j+1)),.slice V W X,.ii D,.ii E,.ii F,.ii G,.ii H,.ii I]) n λJ=>(ak g n J/\PS J (ab_ h 0) (.ii i) λY=>PS Y (ab_ h (0+1)) (.ii (IntKind.wrap .i64 (l+1))) λK=>(Ld 60 (ab_ h 0) K λZ=>St 60 (ab_ e 0) Z K λL=>(Ld 60 (ab_ e 0) L λa1=>rt t ((.tuple #[a1,.ii 0])) L)))))) (pZ t))/\(PA f (.cells #[.ii 0,.ii 0,.ii 0,.slice none 0 0,.ii 0,.ii 0,.ii 0,.ii 0,.ii 0,.ii 0] 60) λo=>(ak g f o/\PC_ 124 #[.slice d a c,.slice none 0 0] o (kS_ λa2 a3 a4 p=>(ak g o p/\St 60 (ab_ f 0) (.agg #[.ii 0,.ii 0,.ii (IntKind.wrap .i64 (j+1)),.slice a2 a3 a4,.ii D,.ii E,.ii F,.ii G,.ii H,.ii I]) p λM=>(ak g p M/\PS M (ab_ f 0) (.ii i) λa5=>PS a5 (ab_ f (0+1)) (.ii (IntKind.wrap .i64 (l+1))) λN=>(Ld 60 (ab_ f 0) N λa6=>St 60 (ab_ e 0) a6 N λO=>(Ld 60 (ab_ e 0) O λa7=>rt t ((.tuple #[a7,.ii 0])) O))))) (pZ t)))))))))))))))))))) (pE t))))):Calls Tryz.prog 89 #[.agg #[.ii q,.ii r,.ii s,.ii u,.ii v,.ii w,.ii x],.ii i,.slice d a c,.ii j] b t:=DC vN Tryz.func89 rfl P
set_option maxRecDepth 20000
def fx (a:iU):List Value:=[.int .i64 a.aT,.int .i64 a.agg,.int .i64 a.field,.int .i64 a.op,.int .i64 a.arg,.int .i64 a.expect,.int .i64 a.key]
abbrev oQ (a:iU):Value:=.agg (fx a).toArray
theorem wB (a:iU):gP Tryz.prog 30 (fx a)=true:=kR
section
variable {w w':World} {D:Nat->Prop}
theorem BA {tn o m q:Nat} (r:eu w) (h:aW w D J d tn p m) (s:∀c,D c->c<w.heap.size):
  Calls Tryz.prog 82 #[.agg #[.slice d tn o,.slice p m q],oQ d4] w (Ok λg w'=>g= .int .i64 (eA J d4)/\ai w w'):=by
 refine xx (PA.mk λx t y e=>PA.mk λu n z a=>?_);have e:=n.get e id;have f:=t.then n;have b:(d4.agg<0\/d4.key<0\/d4.expect< -1)->Ok (λg w'=>g= .int .i64 (eA J d4)/\ai w w') (.returned (.int .i64 1)) u:=λi=>Ok.mk ⟨by unfold eA;rw [if_pos i],f⟩;refine⟨_,ae a rfl,al.dec (λj=>b (.inl j)) (λj=>⟨_,ae a rfl,al.dec (λk=>b (.inr (.inl k))) (λk=>⟨_,ae a rfl,al.dec (λl=>b (.inr (.inr l))) (λl=>⟨_,_,_,_,_,_,ae e rfl,ae e rfl,_,ae a rfl,_,ae a rfl,_,ae a rfl,_,ae a rfl,PC.ok (wC (r.ah f) (h.ah f) λc i=>by have:=s c i;omega) ?_⟩)⟩)⟩)⟩;rintro _ A ⟨rfl,v⟩;exact⟨_,rfl,Ok.mk ⟨by unfold eA;rw [if_neg (by rintro(h|h|h);exact j h;exact k h;exact l h)],f.then v⟩⟩
theorem DY (c:∀d∈u,aK d) (a:Int):0<=eJ u a/\eJ u a<=9223372036854775807:=by
 unfold eJ;split
 ·omega
 ·by_cases b:a.toNat<u.length
  ·have:=c _ (XY b)
   unfold aK at this;simp only [QQ,Qq b,Option.getD_some];omega
  ·simp only [QQ,Q7 (Nat.le_of_not_lt b),Option.getD_none]
   omega
theorem LB (a b:List Int):(gW a b).length=max a.length b.length:=by unfold gW;rw [rp]
theorem PL (b c:List Int) (f:∀a∈b,aK a) (g:∀a∈c,aK a):∀a∈gW b c,aK a:=by
 intro a d;unfold gW mI at d;obtain⟨e,-,rfl⟩:=Xk.1 d;have h:=DY f e;have i:=DY g e;unfold aK;omega
theorem iv (Q:Row aG 8 w D d a u) (hl:n<=9223372036854775807) (hn:u.length<=20000000):
  Calls Tryz.prog 89 #[oQ d4,.int .i64 e,.slice d a c,.int .i64 n] w (Ok λx w'=>∃d a l G,x= .tuple #[ji (aQ d4 e u n).2 d a l,.int .i64 (aQ d4 e u n).1]/\Row aG 8 w' G d a (aQ d4 e u n).2.aN/\(∀b,G b->w.heap.size<=b/\b<w'.heap.size)/\ai w w'):=by
 have a9:=Q.len;have B:=Q.r_;refine vf (PA.mk λC k1 s1 L=>PA.mk λM R s2 S=>?_);have L:=R.get L id;have l:=k1.then R;have m:∀{p:World} {no:Int},ai M p->aQ d4 e u n=(no,qC)->xu Tryz.prog 60 (.pointer (some ⟨C.heap.size,0,none⟩)) (ji qC none 0 0) p λw4=>nR Tryz.prog 60 (.pointer (some ⟨C.heap.size,0,none⟩)) w4 λx=>Ok (λx w'=>∃d a l G,x= .tuple #[ji (aQ d4 e u n).2 d a l,.int .i64 (aQ d4 e u n).1]/\Row aG 8 w' G d a (aQ d4 e u n).2.aN/\(∀b,G b->w.heap.size<=b/\b<w'.heap.size)/\ai w w') (.returned (.tuple #[x,.int .i64 no])) w4:=λ{p no} E T=>
  az (aV qC none 0 0) (E.get S id) rfl λw4 o s4 N=>ar (aV qC none 0 0) N (Ok.mk ⟨none,0,0,λ_=>False,by rw [T],by rw [T];exact Row.nil _ _,λb f=>f.elim,(l.then E).new o λb f=>.inr oM⟩)
 refine al.dec (λU=>m (ak.refl _) ?_) (λU=>al.dec (λh2=>m (ak.refl _) ?_) (λh2=>al.dec (λE=>m (ak.refl _) ?_) (λE=>PC.ok (mJ (B.ah l)) ?_)))
 ·unfold aQ;rw [if_pos (.inl U)]
 ·unfold aQ;rw [if_pos (.inr (.inl oM))]
 ·unfold aQ;rw [if_pos (.inr (.inr E))]
 rintro _ _ ⟨rfl,rfl⟩;have O:¬(e<0\/(u.length:Int)<=e\/n<0):=by rintro(h|h|h)<;>omega
 refine⟨_,rfl,al.dJ (λK=>m (ak.refl _) ?_) (λK=>al.dJ (λF=>m (ak.refl _) ?_) (λF=>λp V=>?_))⟩
 ·unfold aQ;rw [if_neg O,if_pos (.inl K)]
 ·unfold aQ;rw [if_neg O,if_pos (.inr F)]
 have W:aQ d4 e u n=(0,⟨e,eJ u e+1,n+1,gW u [],d4.aT,d4.agg,d4.field,d4.op,d4.arg,d4.key⟩):=by
  unfold aQ;rw [if_neg O,if_neg (by rintro(h|h);exact K h;exact F h)]
 have hg:=DY B.Rn e;have wl:IntKind.wrap .i64 (n+1)=n+1:=wrap_i64 (by unfold aK;omega);have ws:IntKind.wrap .i64 (eJ u e+1)=eJ u e+1:=wrap_i64 (by unfold aK;have:eJ u e≠9223372036854775807:=K;omega);rw [wl,ws];have H:ai M p:=V.af;have s3:p.heap.size=M.heap.size:=by rw [V.heap]
 have X:=l.then H;have z:=H.get L id;have Y:=H.get S id;have jl:(gW u []).length<=20000000:=by rw [LB];simp;omega
 have jI:∀a0∈gW u [],aK a0:=PL u [] B.Rn sM;have A:¬(p.heap.size<=w.heap.size):=oM
 have I:∀{w4 s:World} {g:Option Addr} {j k y:Nat},ai w s->Own s 3 1 g j k (ints (gW u []))->(∀b,aF g=some b->p.heap.size<=b/\b≠y)->s.heap[C.heap.size]? =some (.cells (aB qC none 0 0).toArray 60 (0,0))->s.heap[y]? =some (.cells #[.int .i64 0,.int .i64 0,.int .i64 (n+1),.slice g j k,.int .i64 d4.aT,.int .i64 d4.agg,.int .i64 d4.field,.int .i64 d4.op,.int .i64 d4.arg,.int .i64 d4.key] 60 (0,0))->p.heap.size<=y->
   PS s ⟨y,0,none⟩ (.int .i64 e) λa4=>PS a4 ⟨y,0+1,none⟩ (.int .i64 (eJ u e+1)) λZ=>nR Tryz.prog 60 (.pointer (some ⟨y,0,none⟩)) Z λa5=>xu Tryz.prog 60 (.pointer (some ⟨C.heap.size,0,none⟩)) a5 Z λa2=>nR Tryz.prog 60 (.pointer (some ⟨C.heap.size,0,none⟩)) a2 λa6=>Ok (λx w'=>∃d a l G,x= .tuple #[ji (aQ d4 e u n).2 d a l,.int .i64 (aQ d4 e u n).1]/\Row aG 8 w' G d a (aQ d4 e u n).2.aN/\(∀b,G b->w.heap.size<=b/\b<w'.heap.size)/\ai w w') (.returned (.tuple #[a6,.int .i64 0])) a2:=λ{w4 s g j k y} F t q hz a7 b0=>by
  refine PS.mk a7 sM λw6 i s6 J=>PS.mk J sM λw7 P s7 g7=>?_;have a8:=P.get (i.get hz oM) oM;refine ar (cs:=aB ⟨e,eJ u e+1,n+1,gW u [],d4.aT,d4.agg,d4.field,d4.op,d4.arg,d4.key⟩ g j k) (aV _ _ _ _) g7 (az (aV _ _ _ _) a8 rfl λw8 k8 s8 g8=>ar (aV _ _ _ _) g8 (Ok.mk ⟨g,j,k,λb=>aF g=some b,by rw [W],?_,λb f=>⟨by have:=q b f;omega,?_⟩,?_⟩))
  ·rw [W]
   have a3:=(((t.af i (cV.2 λb f v=>(q b f).2 v)).af P (cV.2 λb f v=>(q b f).2 v)).af k8 (cV.2 λb f v=>by have:=q b f;omega))
   exact(⟨⟨_,λ_=>False,a3,jA.2 ⟨rfl,jI⟩,λ_ h=>h.elim⟩,λb f=>f,λb f=>a3.lt f⟩:aO aG 3 (λb=>aF g=some b) w8 g j k (gW u [])).row dC (by unfold aI;omega)
  ·have:=t.lt f;omega
  ·exact((F.new i λb f=>.inr oM).new P λb f=>.inr oM).new k8 λb f=>.inr oM
 refine⟨λb=>p.heap.size<=b,A,_,ae z rfl,A,_,ae z rfl,A,_,ae z rfl,A,_,ae z rfl,A,_,ae z rfl,A,_,ae z rfl,PC.ok (yX ((B.ah l).ah H) (Ints.nil _)) ?_,PA.mk λw4 o s4 N=>⟨ai.af o,PC.ok (yX (((B.ah l).ah H).ah o) (Ints.nil _)) ?_⟩⟩
 ·rintro _ w4 ⟨g,j,k,rfl,t,o,q⟩
  have z4:=o.size;refine⟨_,_,_,rfl,ai.af o,PA.mk λs r s5 g5=>⟨ai.af r,az (cs:=[.int .i64 0,.int .i64 0,.int .i64 (n+1),.slice g j k,.int .i64 d4.aT,.int .i64 d4.agg,.int .i64 d4.field,.int .i64 d4.op,.int .i64 d4.arg,.int .i64 d4.key]) (aV ⟨0,0,n+1,[],d4.aT,d4.agg,d4.field,d4.op,d4.arg,d4.key⟩ g j k) g5 rfl λw6 i s6 J=>⟨i.mono λb _ v=>oM,I (w4:=w4) (((X.then o).then r).new i λb f=>.inr oM) ((t.ah r).af i (cV.2 λb f v=>by have:=t.lt f;omega)) (λb f=>⟨q b f,by have:=t.lt f;omega⟩) (i.get (r.get (o.get Y id) id) oM) J oM⟩⟩⟩
 ·rintro _ s ⟨g,j,k,rfl,t,r,q⟩
  have z5:=r.size;refine⟨_,_,_,rfl,ai.af r,az (cs:=[.int .i64 0,.int .i64 0,.int .i64 (n+1),.slice g j k,.int .i64 d4.aT,.int .i64 d4.agg,.int .i64 d4.field,.int .i64 d4.op,.int .i64 d4.arg,.int .i64 d4.key]) (aV ⟨0,0,n+1,[],d4.aT,d4.agg,d4.field,d4.op,d4.arg,d4.key⟩ g j k) (r.get N id) rfl λw6 i s6 J=>⟨i.mono λb _ v=>oM,I (w4:=w4) (((X.then o).then r).new i λb f=>.inr oM) (t.af i (cV.2 λb f v=>by have:=q b f;omega)) (λb f=>⟨by have:=q b f;omega,by have:=q b f;omega⟩) (i.get (r.get (o.get Y id) id) oM) J oM⟩⟩
end
set_option maxRecDepth 100000
def sG:fq:=⟨[(3,[(6,.slice none 0 0),(16,.int .i64 0)])],[],[5,12],[],[(5,⟨[0,1,2,4,0,16,40,64,128,128,511,2047],[4095,4094,4093,4091,4095,4079,4055,4031,3967,3967,3839,3583],[0,0,0,1,0,2,2,0,0,0,0,0]⟩),(12,⟨[0,0,2,4,8,0,32,0,208,257,1023],[2047,2047,2045,2043,2039,2047,2015,2047,1839,2046,1791],[0,0,0,0,1,0,2,0,2,0,0]⟩)]⟩
theorem sH (O:PA b (.cells #[.slice p a c] 202) λx=>(rS x (ab_ b 0) λP y c3=>(∃q:Nat->Option Addr->Nat->Nat->Int->World->Prop,(∃f,q f none 0 0 0 x)/\∀(f:Nat) (g:Option Addr) (h:Nat) (i:Nat) (e:Int) (c4:Nat->Value) (j:World),q f g h i e j->al (decide (e<(y:Int))) ((ix_ P e y λQ R=>(rI j (ad Q (R+Int.toNat e)) λk=>(∀l,bd j l->∃r:Nat->Prop,(dr d λz S=>(¬r z/\(rP l (ad z S) λT=>PC_ 140 #[.ii k] l (λU s=>∃A,U= .string A/\(ak r l s/\PC_ 166 #[.pointer T,.string A] s (λV m=>∃W B X C,V= .tuple #[.slice W B X,.ii C]/\(ak r s m/\al (C !=0) (rt t ((.tuple #[.slice g h i,.ii 0])) m) ((dr d λY Z=>(rP m (ad Y Z) λa1=>PC_ 172 #[.pointer a1,.ii k] m (λa2 a3=>∃D E F n,a2= .tuple #[.slice D E F,.ii n]/\PR_ (ap_ 40 (.slice g h i) (.slice D E F)) a3 (kS_ λG H I u=>(dr d λa4 a5=>(rS u (ad a4 (a5+2)) λa6 a7 a8=>PA u (.cells #[.ii k] 3) λa9=>PR_ (ap_ 39 (.slice a6 a7 a8) (.slice (some (ab_ u 0)) 1 1)) a9 (kS_ λb0 b1 b2 b3=>(dr d λb4 b5=>PS b3 (ad b4 (b5+2)) (.slice b0 b1 b2) λb6=>(dr d λb7 b8=>PS b6 (ad b7 (b8+3)) (.ii n) λJ=>al (decide (n<(B:Int))) ((∀o,bd J o->∃v:Nat->Prop,(dr d λK b9=>(¬v K/\(rP o (ad K b9) λc0=>PC_ 140 #[.ii k] o (λc1 w=>∃L,c1= .string L/\(ak v o w/\PC_ 173 #[.pointer c0,.string L,.ii n] w (kI_ λc2 M=>(ak v w M/\rt t ((.tuple #[.slice G H I,.ii c2])) M)) (pZ t))) (pZ t)))))) ((∃N,N<f/\q N G H I (IntKind.wrap .i64 (e+1)) J))))) (pV t)))) (pV t)) (pE t)))))) (pZ t))) (pZ t)))))))) (rt t ((.tuple #[.slice g h i,.ii 0])) j)))):Calls Tryz.prog 111 #[.pointer d,.agg #[.slice p a c]] b t:=DC sG Tryz.func111 rfl O
set_option maxRecDepth 20000
def pS (a:dU) (D:an):Int×dU×an:=
 let d:=cx (aA a.next)
 let b:=D.sync d
 if b.1≠0 then(b.1,a,(b.2.delete d).2)else
 let c:=bZ b.2 (a.bC++[a.next])
 if c.1≠0 then(c.1,a,(c.2.delete d).2)else
 (0,⟨a.size,a.bC++[a.next],0,IntKind.wrap .i64 (a.next+1)⟩,c.2)
def lz (b:dU) (D:an):Int×dU×an:=
 let a:=D.create (cx (aA b.next))
 if a.1≠0 then(a.1,b,a.2)else pS b a.2
def aY (a:dU) (D:an):Int×dU×an:=
 if a.bC=[]then lz a D else
 let b:=D.sync a.last
 if b.1≠0 then(b.1,a,b.2)else lz a b.2
def C_ (d e:World) (f g:Nat) (b:Nat->Prop) (a:Int×dU×an) (h:Value) (c:World):Prop:=h= .int .i64 a.1/\bY d c f g a.2.1 a.2.2 b/\ak (dv b) e c
theorem OD (a:Int):aK (IntKind.wrap .i64 a):=by
 unfold aK IntKind.wrap;simp [IntKind.signed,IntKind.bits];omega
theorem EV {D:an} {b:List Int} (a:(bZ D b).1=0):b.length<=64:=by
 unfold bZ at a;split at a
 ·cases a
 ·omega
theorem Da {D:an} (hL:Laid b) (h:bY b k a c b0 D f):
  Calls Tryz.prog 112 #[.pointer (some ⟨c,0,none⟩)] k (Ok (C_ b k a c f (aY b0 D))):=by
 have b2:=h.aC;obtain⟨p5,j6,e6⟩:=h.UR;have p6:=h.gr.size;have e7:=h.zN;have j7:=h.many;refine sg (PA.mk λC k1 s1 g1=>PA.mk λw2 k2 s2 g2=>?_);have d6:ai k w2:=k1.then k2
 let b6:Nat->Prop:=λd=>f d\/(d=k.heap.size\/d=C.heap.size)
 have hY:bY b w2 a c b0 D b6:=h.add d6 λd e=>by omega
 have b7:=k2.get g1 id;refine⟨λg=>∃E,bY b g a c b0 E b6/\ak (dv f) k g/\w2.heap.size<=g.heap.size/\g.heap[k.heap.size]? =some (.cells #[.pointer (some ⟨c,0,none⟩)] 81 (0,0))/\g.heap[C.heap.size]? =some (.cells #[.int .i64 0] 34 (0,0))/\aY b0 D=lz b0 E,?_,?_⟩
 ·obtain⟨G,hD,hl,hG⟩:=id hY
  obtain⟨u,F,J,n,S,hr,hE,v⟩:=hl.row;refine⟨_,ae b7 rfl,c,0,rfl,_,_,_,ae S rfl,al.dec (λo8=>?_) (λz=>?_)⟩
  ·have w:b0.bC≠[]:=λj=>by rw [j]at v;simp at v;omega
   refine⟨_,ae b7 rfl,PC.ok (Hj hL hY w) ?_⟩;rintro _ w3 ⟨rfl,Y,k3⟩;have kX:ak (dv f) k w3:=(ai.af d6).then (k3.mono λd _ e l=>e (.inl l));have b8:=k3.get b7 λv=>v (.inr (.inl rfl));have b9:=k3.get g2 λv=>v (.inr (.inr rfl));have hB:aY b0 D=if(D.sync b0.last).1≠0 then((D.sync b0.last).1,b0,(D.sync b0.last).2)else lz b0 (D.sync b0.last).2:=by unfold aY;rw [if_neg w]
   refine⟨_,rfl,al.df (λe9=>?_) (λH=>⟨_,Y,kX,k3.size,b8,b9,by rw [hB,if_neg (by simpa using H)]⟩)⟩;refine PS.mk b9 sM λK M s4 g4=>⟨_,ae g4 rfl,Ok.mk ?_⟩
   rw [hB,if_pos e9];exact⟨rfl,(Y.other M λd e=>⟨e▸.inr (.inr rfl),oM⟩).mono λd e=>.inl e,kX.then (M.mono λd _ e l=>by have:=b2 d l;omega)⟩
  ·have he:b0.bC=[]:=QW oM
   exact⟨D,hY,ai.af d6,Q4 _,b7,g2,by unfold aY;rw [if_pos he]⟩
 rintro _ w3 ⟨E,Y,b3,o9,b8,b9,hB⟩;rw [hB];obtain⟨G3,p7,j8,p8⟩:=id Y;obtain⟨f7,n3,f8,E3,j9,-,-,-⟩:=j8.row;refine⟨_,ae b8 rfl,c,0,rfl,_,ae j9 rfl,PC.ok (iE (hL.ah Y.gr) e7) ?_⟩;rintro _ K ⟨rfl,M⟩;refine⟨_,rfl,PA.mk λw5 k5 s5 g5=>PS.mk g5 sM λw6 k6 s6 g6=>?_⟩
 let q:Nat->Prop:=λd=>b6 d\/d=K.heap.size
 have g0:=Y.ah M;have p9:=g0.gr.size;have q0:=M.size;have k0:bY b w6 a c b0 E q:=(g0.add (Y:=(·=K.heap.size)) k5 λd e=>oM).other k6 λd e=>⟨.inr e,oM⟩
 have l0:ak (dv f) k w6:=((b3.ah M).ah k5).then (k6.mono λd _ e l=>by have:=b2 d l;have:=b3.size;omega);have d8:∀{d},f d->q d:=λl=>.inl (.inl l);intro N e4;have k7:ai w6 N:=e4.af;have g3:=k0.ah k7;have gn:w6.heap[K.heap.size]? =some (.cells #[.string (cx (aA b0.next))] 9 (0,0)):=g6;have l3:=k6.get (k5.get (M.get b8 id) id) oM;have g7:=k6.get (k5.get (M.get b9 id) id) oM
 let r:World->Int->Prop:=λg j=>g.heap[k.heap.size]? =some (.cells #[.pointer (some ⟨c,0,none⟩)] 81 (0,0))/\g.heap[C.heap.size]? =some (.cells #[.int .i64 j] 34 (0,0))/\g.heap[K.heap.size]? =some (.cells #[.string (cx (aA b0.next))] 9 (0,0))
 have C6:r w6 0:=⟨l3,g7,gn⟩
 have i:∀{g x:World} {j:Int} {d0:Nat->Prop},r g j->ak d0 g x->(∀d,d0 d->¬(d=k.heap.size\/d=C.heap.size\/d=K.heap.size))->r x j:=λO p hS=>
  ⟨p.get O.1 λP=>hS _ P (.inl rfl),p.get O.2.1 λP=>hS _ P (.inr (.inl rfl)),p.get O.2.2 λP=>hS _ P (.inr (.inr rfl))⟩
 have m:∀{g x:World} {j:Int},r g j->ak (dv q) g x->r x j:=λO p=>i O p λd e hc=>e (by
  rcases hc with rfl|rfl|rfl
  ·exact .inl (.inr (.inl rfl))
  ·exact .inl (.inr (.inr rfl))
  ·exact .inr rfl)
 have c0:∀{g x:World},ak (dv f) k g->ak (dv q) g x->ak (dv f) k x:=λu d=>u.then (d.mono λd _ e l=>e (d8 l));have C7:r N 0:=i C6 k7 λd e=>e.elim;obtain⟨G7,q1,l4,q2⟩:=id g3;obtain⟨f9,n7,h0,E7,l5,-,-,-⟩:=l4.row;refine⟨_,ae C7.1 rfl,c,0,rfl,_,ae l5 rfl,_,ae C7.2.2 rfl,PC.ok (g3.on (λq hZ T=>T.create)) ?_⟩;rintro _ w8 ⟨rfl,c1,k8⟩;have C8:=m C7 k8;have g8:=c0 (l0.ah k7) k8;have l6:lz b0 E=if(E.create (cx (aA b0.next))).1≠0 then((E.create (cx (aA b0.next))).1,b0,(E.create (cx (aA b0.next))).2)else pS b0 (E.create (cx (aA b0.next))).2:=rfl
 rw [l6];generalize q3:E.create (cx (aA b0.next))=cr at c1⊢;obtain⟨k4,L⟩:=cr;simp only at c1⊢;have q4:C.heap.size<w2.heap.size:=oM
 have h2:∀{g:World} {A:Int×dU×an} {j:Int} {x:World},bY b g a c A.2.1 A.2.2 q->ak (dv f) k g->ak (·=C.heap.size) g x->j=A.1->C_ b k a c f A (.int .i64 j) x:=by
  intro g A j x v p P he;exact⟨by rw [he],(v.other P λd e=>⟨e▸.inl (.inr (.inr rfl)),oM⟩).mono λd e=>d8 e,p.then (P.mono λd _ e l=>by have:=b2 d l;omega)⟩
 refine⟨_,rfl,al.df (λw=>?_) (λH=>?_)⟩
 ·refine PS.mk C8.2.1 sM λw9 k9 s9 g9=>⟨_,ae g9 rfl,Ok.mk ?_⟩
  rw [if_pos w];exact h2 c1 g8 k9 rfl
 rw [if_neg (by simpa using H)];have B:∀{A:Int×dU×an} (j:Int) (n:an) (g:World),bY b g a c b0 n q->ak (dv f) k g->r g j->j≠0->A=(j,b0,(n.delete (cx (aA b0.next))).2)->
   Lv Tryz.prog (λh3=>∃h4:Int,h3.cell? ⟨C.heap.size,0,none⟩=some (.int .i64 h4)/\Ok (C_ b k a c f A) (.returned (.int .i64 h4)) h3) (λch g=>Ok (C_ b k a c f A) (.panicked ch) g)
    ([{target:=.fn (.func 175) #[.pointer (some ⟨C.heap.size,0,none⟩),.pointer (some ⟨k.heap.size,0,none⟩),.pointer (some ⟨K.heap.size,0,none⟩)],args:= #[]}]:List Deferred) .returning g:=by
  intro A j n g v p O w hr;refine Lv.one sM kR (CallsD.mono (gX (R:=λe' N=>e'= .returned (.tuple #[])/\∃h5:Int,N.cell? ⟨C.heap.size,0,none⟩=some (.int .i64 h5)/\Ok (C_ b k a c f A) (.returned (.int .i64 h5)) N) ⟨_,ae O.2.1 rfl,al.df (λ_=>?_) (λH=>absurd H w)⟩) ?_)
  ·intro wa da
   have ka:ai g wa:=da.af;have h6:=v.ah ka;have e0:r wa j:=i O ka λd e=>e.elim;obtain⟨Ga,q5,l7,q6⟩:=id h6;obtain⟨aa,na,ca,Ea,c3,-,-,-⟩:=l7.row;refine⟨_,ae e0.1 rfl,c,0,rfl,_,ae c3 rfl,_,ae e0.2.2 rfl,PC.ok (h6.on (λq hZ T=>T.delete)) ?_⟩;rintro _ U ⟨rfl,l8,kb⟩;have l9:=m e0 kb;refine⟨_,rfl,rfl,_,ae l9.2.1 rfl,Ok.mk ?_⟩;rw [hr];exact⟨rfl,l8.mono λd e=>d8 e,c0 (p.ah ka) kb⟩
  ·rintro e' u' N ⟨rfl,rfl,hX⟩
   exact Lv.ret rfl hX
 intro w9 e8;have k9:ai w8 w9:=e8.af;have h7:=c1.ah k9;have C9:r w9 0:=i C8 k9 λd e=>e.elim;obtain⟨G9,q7,m0,q8⟩:=id h7;obtain⟨l1,n9,l2,E9,m1,-,-,-⟩:=m0.row;refine⟨_,ae C9.1 rfl,c,0,rfl,_,ae m1 rfl,_,ae C9.2.2 rfl,PC.ok (h7.on (λq hZ T=>T.sync)) ?_⟩;rintro _ Z ⟨rfl,V,h8⟩;have a0:=m C9 h8;have d1:=c0 (g8.ah k9) h8;have m2:pS b0 L=if(L.sync (cx (aA b0.next))).1≠0 then((L.sync (cx (aA b0.next))).1,b0,((L.sync (cx (aA b0.next))).2.delete (cx (aA b0.next))).2)else
   if(bZ (L.sync (cx (aA b0.next))).2 (b0.bC++[b0.next])).1≠0 then((bZ (L.sync (cx (aA b0.next))).2 (b0.bC++[b0.next])).1,b0,((bZ (L.sync (cx (aA b0.next))).2 (b0.bC++[b0.next])).2.delete (cx (aA b0.next))).2)else
   (0,⟨b0.size,b0.bC++[b0.next],0,IntKind.wrap .i64 (b0.next+1)⟩,(bZ (L.sync (cx (aA b0.next))).2 (b0.bC++[b0.next])).2):=rfl
 rw [m2];generalize q9:L.sync (cx (aA b0.next))=sy at V⊢;obtain⟨r0,c2⟩:=sy;dsimp only at V;refine⟨_,rfl,al.df (λw=>?_) (λH=>?_)⟩
 ·refine PS.mk a0.2.1 sM λs t r3 m3=>?_
  rw [if_pos w];exact B _ c2 s (V.other t λd e=>⟨e▸.inl (.inr (.inr rfl)),oM⟩) (d1.then (t.mono λd _ e l=>by have:=b2 d l;omega)) ⟨t.get a0.1 oM,m3,t.get a0.2.2 (by have:=b3.size;omega)⟩ w rfl
 rw [if_neg (by simpa using H)];have p0:K.heap.size<Z.heap.size:=ay a0.2.2;refine⟨λu F J g=>∃n,aO aG 3 n g u F J (b0.bC++[b0.next])/\(∀d,n d->Z.heap.size<=d)/\ai Z g,?_,?_⟩
 ·intro s m4
  have t:ai Z s:=m4.af;have a5:=V.ah t;have b1:r s 0:=i a0 t λd e=>e.elim;obtain⟨m5,h9,W,i0⟩:=id a5;obtain⟨m6,m7,m8,m9,a6,d2,d3,p1⟩:=W.row;have p2:=W.aC c W.self;have a2:∀{wa U wc:World} {S:Nat} {u F J:_} {a3:Nat->Prop},aO aG 3 a3 U u F J b0.bC->(∀d,a3 d->s.heap.size<=d/\d≠S)->U.heap[S]? =some (.cells #[.int .i64 b0.next] 3 (0,0))->ai s U->
    ∀κ ε,(∀X n' c' g,(∃n,aO aG 3 n g X n' c' (b0.bC++[b0.next])/\(∀d,n d->Z.heap.size<=d)/\ai Z g)->ak (λd=>s.heap.size<=d) U g->κ (.slice X n' c') g)->
    aE Tryz.prog (Builtin.append_ #[39,39] 39 #[.slice u F J,.slice (some ⟨S,0,none⟩) 1 1]) U κ ε:=by
   intro wa U wc S u F J a3 Q hF hg p κ ε c7;refine jM Q rm (D:=(·=S)) (Row.lit hg [b0.next] rfl (λd4 l=>by simp at l;subst l;exact e7) (by unfold aI;simp)) (λd j=>⟨j▸ay hg,λf0=>(hF d (Q.self d f0)).2 j⟩) (by unfold aI;simp;omega) (by unfold maxLen;simp;omega) λX c' g F' c8 a4 _ c9=>?_;refine c7 X _ c' g ⟨λd=>aF X=some d,c8.alone,λd e=>?_,?_⟩ (a4.mono λd _ e=>(hF d (Q.self d e)).1)
   ·have:=t.size;have:=p.size
    rcases c9 d e with h|h
    ·have:=(hF d h).1;omega
    ·omega
   ·exact(t.then p).new a4 λd e=>.inr (by have:=(hF d (Q.self d e)).1;have:=t.size;omega)
  have r4:k.heap.size<s.heap.size:=ay b1.1;refine⟨λd=>s.heap.size<=d,oM,_,ae b1.1 rfl,c,0,rfl,oM,_,_,_,ae a6 rfl,oM,_,ae b1.1 rfl,c,0,rfl,oM,_,ae a6 rfl,?_,?_⟩
  ·refine PC.ok (bP d2 λd e=>W.aC d (d3 d e).1) ?_
   rintro _ b4 ⟨r5,r6,r7,r8,rfl,a7,I,i1⟩;refine⟨_,_,_,rfl,I.af,PA.mk λy o n0 e1=>⟨o.af,a2 (wa:=y) (wc:=y) (a7.ah o) (λd e=>⟨i1 d e,by have:=a7.aC d e;omega⟩) e1 (I.then o) _ _ λX n' c' g hJ p=>⟨_,_,_,rfl,p,trivial,hJ⟩⟩⟩
  ·refine PA.mk λb4 I r9 n1=>⟨I.af,PC.ok (bP (d2.ah I) λd e=>by have:=W.aC d (d3 d e).1;have:=I.size;omega) ?_⟩
   rintro _ y ⟨n2,n4,n8,s0,rfl,a8,o,d5⟩;exact⟨_,_,_,rfl,o.af,a2 (wa:=y) (wc:=y) a8 (λd e=>⟨by have:=d5 d e;omega,by have:=d5 d e;omega⟩) (o.get n1 id) (I.then o) _ _ λX n' c' g hJ p=>⟨_,_,_,rfl,p,trivial,hJ⟩⟩
 rintro u F J _ s ⟨n,Q,hE,t⟩;have p3:(b0.bC++[b0.next]).length<=65:=by simp;omega
 have a5:bY b s a c b0 c2 (λd=>q d\/n d):=V.add t λd e=>⟨hE d e,Q.aC d e⟩
 have b1:r s 0:=i a0 t λd e=>e.elim;have d7:Row aG 8 s n u F (b0.bC++[b0.next]):=Q.row dC (by unfold aI;omega);have f1:∀d4∈b0.bC++[b0.next],aK d4:=KS d7;obtain⟨m5,h9,W,i0⟩:=id a5;obtain⟨m6,m7,m8,m9,a6,-,-,-⟩:=W.row;refine⟨_,ae b1.1 rfl,c,0,rfl,_,ae a6 rfl,PC.ok (a5.on λZ' o0 T=>T.bZ hL.mN d7 f1 λd e=>.inr (o0 d (.inr e))) ?_⟩;rintro _ b4 ⟨rfl,a9,I⟩;have R:ak (dv q) s b4:=I.mono λd _ e z=>e (.inl z);have c4:=m b1 R;have d9:=c0 (d1.ah t) R;have a7:=Q.af I λd e v=>v (.inr e);have b5:= @EV c2 (b0.bC++[b0.next]);have i2:True:=trivial;generalize s3:bZ c2 (b0.bC++[b0.next])=mw at a9 b5 i2⊢;obtain⟨s7,c5⟩:=mw;dsimp only at a9 b5 i2⊢;refine⟨_,rfl,al.df (λw=>?_) (λH=>?_)⟩
 ·refine PS.mk c4.2.1 sM λy o n0 e1=>?_
  rw [if_pos w];have f2:bY b b4 a c b0 c5 q:=a9.mono λd e=>.inl e;exact B _ c5 y (f2.other o λd e=>⟨e▸.inl (.inr (.inr rfl)),oM⟩) (d9.then (o.mono λd _ e l=>by have:=b2 d l;omega)) ⟨o.get c4.1 oM,e1,o.get c4.2.2 (by have:=b3.size;omega)⟩ w rfl
 rw [if_neg (by simpa using H)];have b5:=b5 H;intro y o1;have o:ai b4 y:=o1.af;have i3:=a9.ah o;have e5:r y 0:=i c4 o λd e=>e.elim;have a8:=a7.ah o;obtain⟨s8,i4,e2,p4⟩:=id i3;obtain⟨n2,n4,n8,t0,i5,-,-,-⟩:=e2.row;have i6:∀d,n d->d≠c:=λd e j=>by have:=hE d e;omega
 have o2:c≠k.heap.size/\c≠C.heap.size/\c≠K.heap.size:=by have:=b3.size;omega
 refine⟨(·=c),_,ae e5.1 rfl,λj=>o2.1 j.symm,_,ae e5.1 rfl,c,0,rfl,PS.mk i5 sM λt1 i7 t2 o3=>⟨i7,c,0,rfl,PS.mk o3 sM λo4 i8 t3 i9=>⟨i8,?_⟩⟩⟩;have e3:=i7.then i8;have j0:r o4 0:=i e5 e3 λd e hc=>by subst e;omega
 refine⟨_,ae j0.1 rfl,c,0,rfl,_,ae i9 rfl,c,0,rfl,PS.mk i9 sM λc6 j1 t4 j2=>?_⟩;have o5:r c6 0:=i j0 j1 λd e hc=>by subst e;omega
 have a1:ak (·=c) y c6:=e3.then j1;refine PS.mk o5.2.1 sM λo6 o7 t5 j3=>Lv.one sM kR (CallsD.mono (gX (R:=λe' N=>e'= .returned (.tuple #[])/\N=o6) ⟨_,ae j3 rfl,al.df (λhc=>absurd rfl hc) (λ_=>⟨rfl,rfl⟩)⟩) ?_);rintro e' u' _ ⟨rfl,rfl,rfl⟩;refine Lv.ret rfl ⟨_,ae j3 rfl,Ok.mk ?_⟩;have j4:c6.heap[c]? =some (.cells #[.pointer (some ⟨a,0,none⟩),.int .i64 b0.size,.slice u F J,.int .i64 0,.int .i64 (IntKind.wrap .i64 (b0.next+1))] 200 (0,0)):=j2;have j5:bY b c6 a c ⟨b0.size,b0.bC++[b0.next],0,IntKind.wrap .i64 (b0.next+1)⟩ c5 q:=by
  refine⟨λd=>d=c\/n d,?_,⟨⟨u,F,J,n,j4,a8.af a1 λd e j=>i6 d e j,λd e=>⟨.inr e,i6 d e⟩⟩,.inl rfl,?_,b5,?_⟩,?_⟩
  ·have h1:aS b y a c5 (λd=>q d\/(d=c\/n d)):=i4.mono λd e=>by
    rcases e with e|e|e
    ·exact .inl (.inl e)
    ·exact .inr (e▸e2.self)
    ·exact .inl (.inr e)
   obtain⟨a3,f4,f5,f3,f6⟩:=h1;exact⟨a3,f4.af a1 λd e j=>(f3 d e).2 (.inr (.inl j)),f5.new a1 λd e=>.inr oM,f3,λd e=>Qk (f6 d e) a1.size⟩
  ·rintro d (rfl|e)
   ·exact ay j2
   ·exact Qk (a8.aC d e) a1.size
  ·show aK (IntKind.wrap .i64 (b0.next+1))
   exact OD _
  ·rintro d (rfl|e)
   ·exact⟨j6,λz=>by
     rcases z with(z|z|z)|z
     ·exact e6 z
     ·omega
     ·omega
     ·omega⟩
   ·have:=hE d e
    exact⟨by have:=V.gr.size;omega,λz=>by have:=V.aC d z;omega⟩
 exact h2 j5 ((d9.ah o).then (a1.mono λd _ e l=>e6 (e▸l))) o7 rfl
def fr (no:Int):ByteArray:=cx (aA no)
structure pg where
 no:Int
 out:List aj
 V:dU
 D:an
def jf:List Int->List aj->dU->an->pg
 |[],a,b,D=>⟨0,a,b,D⟩
 |no::c,a,b,D=>
  if(D.read (fr no)).2≠0 then⟨0,a,b,D⟩else
  if(bO (D.read (fr no)).1).2<(D.read (fr no)).1.length then
   ⟨(D.GJ (fr no) (bO (D.read (fr no)).1).2).1,a++(bO (D.read (fr no)).1).1,⟨b.size,b.bC++[no],(bO (D.read (fr no)).1).2,b.next⟩,(D.GJ (fr no) (bO (D.read (fr no)).1).2).2⟩
  else jf c (a++(bO (D.read (fr no)).1).1) ⟨b.size,b.bC++[no],(bO (D.read (fr no)).1).2,b.next⟩ D
section
variable {w0 w w1 w':World} {p q:Nat} {D D':an} {V V':dU} {X Y Z G S:Nat->Prop}
theorem aS.dZ (d:aS w0 w p D X) (e:ak Y w w') (f:∀a,Y a->X a/\w0.heap.size<=a) (g:∀a,Z a->(X a\/w.heap.size<=a)/\a<w'.heap.size):aS w0 w' p D Z:=by
 obtain⟨i,h,j,c,m⟩:=d;exact⟨i,h.af e λa b k=>(c a b).2 (f a k).1,j.new e λa b=>.inr (f a b).2,λa b=>⟨(c a b).1,λl=>(g a l).1.elim (c a b).2 λd=>by have:=h.aC a b;omega⟩,λa b=>(g a b).2⟩
theorem bY.dZ (h:bY w0 w p q V D X) (c:ak Y w w') (d:∀a,Y a->X a/\w0.heap.size<=a) (e:∀a,Z a->(X a\/w.heap.size<=a)/\a<w'.heap.size):bY w0 w' p q V D Z:=by
 obtain⟨G,i,f,g⟩:=h;refine⟨G,i.dZ c (λa b=>⟨.inl (d a b).1,(d a b).2⟩) λa b=>?_,f.af c λa b j=>(g a b).2 (d a j).1,λa b=>⟨(g a b).1,λk=>(e a k).1.elim (g a b).2 λh=>by have:=f.aC a b;omega⟩⟩;rcases b with b|b
 ·exact⟨(e a b).1.imp .inl id,(e a b).2⟩
 ·exact⟨.inl (.inr b),Qk (f.aC a b) c.size⟩
theorem OE {no C:Int} (h:bY w0 w p q V D X) (P:aK no) (Q:V.bC.length+1<=64) 
  (t:∀w',bY w0 w' p q ⟨V.size,V.bC++[no],C,V.next⟩ D X->ak (dv X) w w'->y w'):
  ∃E F,(some ⟨q,0,none⟩:Option Addr)=some ⟨E,F,none⟩/\∃(j:Option Addr) (u v:Nat),w.cell? ⟨E,F+2,none⟩=some (.slice j u v)/\
   PA w (.cells #[.int .i64 no] 3) λR=>aE Tryz.prog (Builtin.append_ #[39,39] 39 #[.slice j u v,.slice (some ⟨w.heap.size,0,none⟩) 1 1]) R (λS T=>
    ∃(e:Option Addr) (H k:Nat),S= .slice e H k/\∃I J,(some ⟨q,0,none⟩:Option Addr)=some ⟨I,J,none⟩/\PS T ⟨I,J+2,none⟩ (.slice e H k) λU=>
     ∃K L,(some ⟨q,0,none⟩:Option Addr)=some ⟨K,L,none⟩/\PS U ⟨K,L+3,none⟩ (.int .i64 C) y) o:=by
 obtain⟨G,W,d,f⟩:=id h;obtain⟨j,u,v,a0,M,g,i⟩:=d.body;have a8:=d.aC q d.self;refine⟨q,0,rfl,_,_,_,ae M rfl,PA.mk λw1 l s1 Y=>?_⟩;refine jM (g.ah l) rm (D:=(·=w.heap.size)) (Row.lit Y [no] rfl (λa1 m=>by simp at m;subst m;exact P) (by unfold aI;simp)) (λa c=>⟨oM,λZ=>by have:=g.aC a (g.self a Z);omega⟩) (by unfold aI;simp;omega) (by unfold maxLen;simp;omega) λe k w2 F' n r _ x=>?_
 replace n:=n.alone
 have a6:¬aF j=some q:=λc=>(i q (g.self q c)).2 rfl;have g2:=r.get (l.get M id) a6;have z2:=r.size;have z:¬aF e=some q:=λc=>by
  rcases x q c with h|h
  ·exact(i q h).2 rfl
  ·omega
 refine⟨_,_,_,rfl,q,0,rfl,PS.mk g2 sM λw3 A s3 g3=>⟨q,0,rfl,PS.mk g3 sM λs B s4 g4=>t s ?_ ?_⟩⟩
 ·have a7:ak (λa=>aF j=some a\/a=q) w1 s:=((r.mono λa _ b=>.inl b).then (A.mono λa _ b=>.inr b)).then (B.mono λa _ b=>.inr b)
  have kG:ak G w s:=(ai.af l).then (a7.mono λa _ b=>b.elim (λh=>(i a (g.self a h)).1) λh=>h▸d.self);have N:∀a,aF e=some a->a<s.heap.size:=λa b=>by have:=n.aC a b;omega
  refine⟨λa=>a=q\/aF e=some a,W.dZ kG (λa b=>⟨.inr b,(f a b).1⟩) λa b=>?_,⟨⟨e,_,k,(λa=>aF e=some a),g4,?_,λa b=>⟨.inr b,λc=>z (c▸b)⟩⟩,.inl rfl,?_,by simpa using Q,d.zN⟩,?_⟩
  ·rcases b with b|rfl|b
   ·exact⟨.inl (.inl b),by have:=h.aC a b;omega⟩
   ·exact⟨.inl (.inr d.self),oM⟩
   ·refine⟨?_,N a b⟩
    rcases x a b with h|h
    ·exact .inl (.inr (i a h).1)
    ·exact .inr oM
  ·exact(n.af A λa b c=>z (c▸b)).af B λa b c=>z (c▸b)
  ·rintro a (rfl|b)
   ·omega
   ·exact N a b
  ·rintro a (rfl|b)
   ·exact f _ d.self
   ·rcases x a b with O|O
    ·exact f a (i a O).1
    ·exact⟨by have:=h.gr.size;omega,λm=>by have:=h.aC a m;omega⟩
 ·refine(((ai.af l).then (r.mono λa _ b=>?_)).then (A.mono λa _ b=>?_)).then (B.mono λa _ b=>?_)
  ·exact(f a (i a (g.self a b)).1).2
  ·exact(f a (b▸d.self)).2
  ·exact(f a (b▸d.self)).2
theorem SC {j a:Nat} (b:j<=64) (c:a<=j*262144):a<=16777216:=oM
def QC (w0 w:World) (p q:Nat) (X:Nat->Prop) (a:pg) (f:Value) (w':World):Prop:=
 ∃c d e G,f= .tuple #[.slice c d e,.int .i64 a.no]/\aO pw 60 G w' c d e a.out/\bY w0 w' p q a.V a.D (λb=>X b\/G b)/\ak (dv X) w w'/\(∀b,G b->w.heap.size<=b)/\a.out.length<=16777216
theorem OF (C:Laid w0) (h:bY w0 w p q V D X) (P:Row aG 8 w f d a u) (c2:∀b,f b->X b) (g0:V.bC.length+u.length<=64):
  Calls Tryz.prog 111 #[.pointer (some ⟨q,0,none⟩),.agg #[.slice d a c]] w (Ok (QC w0 w p q X (jf u [] V D))):=by
 have l:=P.len;have Q:=h.aC;have g4:=h.gr.size;refine sH (PA.mk λw1 R s1 g1=>⟨_,_,_,ae g1 rfl,λS T U W Y w'=>∃(i:Nat) (j:dU) (g:List aj) (G:Nat->Prop),Y=i/\i<=u.length/\S=u.length-i/\jf u [] V D=jf (u.drop i) g j D/\j.bC.length=V.bC.length+i/\g.length<=i*262144/\
  aO pw 60 G w' T U W g/\bY w0 w' p q j D (λb=>X b\/G b)/\ak (dv X) w w'/\∀b,G b->w.heap.size<=b,
  ⟨_,0,V,[],λ_=>False,rfl,Qj _,rfl,rfl,rfl,Qj _,aO.nil w1,(h.ah R).mono λb e=>e.elim id λh=>h.elim,ai.af R,λ_ h=>h.elim⟩,?_⟩)
 rintro S T U W Y _ Z ⟨i,j,g,G,rfl,hj,rfl,a4,g5,a0,m,hN,r,t⟩;rw [a4];refine al.dec (λg6=>?_) (λg7=>?_)
 rotate_left
 ·obtain rfl:i=u.length:=oM
  rw [List.drop_of_length_le (Q4 _)];exact Ok.mk ⟨_,_,_,G,rfl,m,hN,r,t,SC oM a0⟩
 obtain⟨b,E,no,rfl,n,k,F⟩:=(P.af r λb e l=>l (c2 b e)).kp (i:=i) oM;have a2:u.drop i=no::u.drop (i+1):=by
  obtain⟨c4,rfl⟩:=Qv.1 n;exact X4 c4
 rw [a2]at a4⊢;refine⟨b,E,rfl,oM,oM,no,F,λw3 d3=>?_⟩;have k3:ai Z w3:=d3.af;have H:=hN.ah k3;obtain⟨G3,c8,d0,g8⟩:=id H;obtain⟨a3,n3,c3,E3,d1,-,-,-⟩:=d0.row;refine⟨λ_=>False,q,0,rfl,id,_,ae d1 rfl,PC.ok (iE (C.ah H.gr) k) ?_⟩;rintro _ w4 ⟨rfl,z⟩;have d2:=H.ah z;refine⟨_,rfl,z,PC.ok ((c8.ah z).read (k:=fr no)) ?_⟩;rintro _ w5 ⟨a5,n5,c5,F5,rfl,d4,g9,-,I⟩;have v:=d2.ah I;have x:ai Z w5:=(k3.then z).then I;have h0:=d4.len dC;have h2:=G_ v.ok (fr no);refine⟨_,_,_,_,rfl,I,al.df (λd5=>?_) (λhe=>?_)⟩
 ·rw [show jf (no::u.drop (i+1)) g j D=⟨0,g,j,D⟩ by unfold jf;rw [if_pos d5]]
  exact Ok.mk ⟨_,_,_,G,rfl,m.ah x,v,r.ah x,t,SC oM a0⟩
 obtain⟨G5,d6,d7,h3⟩:=id v;obtain⟨h4,h5,h6,E5,d8,-,-,-⟩:=d7.row;obtain⟨a7,e0,-,-,-⟩:=id d6;refine⟨q,0,rfl,_,ae d8 rfl,PC.ok (OG (C.ah v.gr) e0 k) ?_⟩;rintro _ w6 ⟨a6,n6,c6,F6,rfl,s,J,K,a8⟩;have e1:bY w0 w6 p q j D (λb=>(X b\/G b)\/F6 b):=v.add J λb e=>⟨K b e,s.aC b e⟩
 have b0:=x.then J;have e2:=m.aC;generalize e3:bO (D.read (cx (aA no))).1=sl at s a8;obtain⟨evs,o⟩:=sl;dsimp only at s a8;have a1:bO (D.read (fr no)).1=(evs,o):=e3;have b1:Row pw 96 w6 F6 a6 n6 evs:=s.row dC (by unfold aI;omega);refine⟨_,_,_,_,rfl,yp (m.ah b0) FM b1 (λL=>s.LK L) (λb e=>⟨s.aC b e,λF=>by have:=e2 b (m.self b F);have:=K b e;have:=x.size;omega⟩) (by unfold aI;omega) (by unfold maxLen;omega) λa9 c7 w7 A b2 M b3 _=>?_⟩;have h7:=x.size;have z6:=J.size;have b4:=b2.aC;have e4:bY w0 w7 p q j D (λb=>X b\/A b):=e1.dZ M (λb e=>⟨.inl (.inr (m.self b e)),by have:=t b (m.self b e);omega⟩) λb e=>by
  rcases e with e|e
  ·exact⟨.inl (.inl (.inl e)),by have:=Q b e;have:=r.size;have:=M.size;omega⟩
  ·refine⟨?_,b4 b e⟩
   rcases b3 b e with h|h|h
   ·exact .inl (.inl (.inr h))
   ·exact .inl (.inr h)
   ·exact .inr h
 have e5:ak (dv X) w w7:=(r.ah b0).then (M.mono λb _ e n=>by have:=t b (m.self b e);have:=Q b n;omega);have b5:∀b,A b->w.heap.size<=b:=λb e=>by
  have:=r.size;rcases b3 b e with h|h|h
  ·exact t b h
  ·have:=K b h;omega
  ·omega
 refine⟨_,_,_,rfl,OE e4 k oM λw8 b6 k8=>?_⟩;have b7:ak (dv X) w w8:=e5.then (k8.mono λb _ e n=>e (.inl n));have b8:=b2.af k8 λb e l=>l (.inr e);refine al.dec (λg2=>?_) (λg3=>?_)
 ·rw [show jf (no::u.drop (i+1)) g j D=⟨(D.GJ (fr no) o).1,g++evs,⟨j.size,j.bC++[no],o,j.next⟩,(D.GJ (fr no) o).2⟩ by
   unfold jf;rw [a1,if_neg (by simpa using he),if_pos (by show o<_;omega)]]
  intro w9 d9;have N:ai w8 w9:=d9.af;have b9:=b6.ah N;obtain⟨G9,e6,O,e7⟩:=id b9;obtain⟨c9,n9,f0,E9,e8,-,-,-⟩:=O.row;refine⟨λb=>b≠q,q,0,rfl,λhs=>hs rfl,_,ae e8 rfl,PC.ok (iE (C.ah b9.gr) k) ?_⟩;rintro _ e9 ⟨rfl,y⟩;refine⟨_,rfl,y.af,PC.ok ((e6.ah y).GJ (k:=fr no)) ?_⟩;rintro _ f2 ⟨rfl,c0,B⟩;have c1:ak (dv X) e9 f2:=B.mono λb _ e n=>e (.inl (.inl n));refine⟨_,rfl,B.mono λb _ e L=>e (.inr (L▸O.self)),Ok.mk ⟨_,_,_,A,rfl,?_,⟨G9,c0,(O.ah y).af B λb e l=>l (.inr e),e7⟩,((b7.ah N).ah y).then c1,b5,?_⟩⟩
  ·exact((b8.ah N).ah y).af B λb e l=>l (.inl (.inr e))
  ·exact SC (j:=i+1) oM (by simp;omega)
 ·refine⟨_,?_,i+1,⟨j.size,j.bC++[no],o,j.next⟩,g++evs,A,aq oM,oM,rfl,?_,by simp;omega,by simp;omega,b8,b6,b7,b5⟩
  ·omega
  ·conv=>lhs;unfold jf
   rw [a1,if_neg (by simpa using he),if_neg (by show¬o<_;omega)]
end
def iV (D:an) (a:ByteArray):Bool:=decide (a=kr)||((kV a).2&& !decide ((kV a).1∈(eK D).getD []))
def Iz (D:an):List ByteArray:=D.list.filter (iV D)
def Tq (D:an) (a:List ByteArray):an:=a.foldl (λD b=>(D.delete b).2) D
def yY (D:an):an:=Tq D (Iz D)
def yZ (a:List ByteArray):List (List Value):=a.map λb=>[.string b]
def NF (D:an) (a:List (List Value)):an:=a.foldl (λD b=>match b with
 |[.string c]=>(D.delete c).2
 |_=>D) D
theorem Cz:∀(a:List ByteArray) (D:an),NF D (yZ a)=Tq D a
 |[],D=>rfl
 |s::a,D=>Cz a (D.delete s).2
theorem LC (D:an) (a:List (List Value)) (b:ByteArray):NF D (a++[[.string b]])=((NF D a).delete b).2:=by
 unfold NF;rw [List.foldl_append];rfl
theorem CA (a:List ByteArray) (b:ByteArray):yZ (a++[b])=yZ a++[[.string b]]:=by unfold yZ;simp
theorem BB {D:Nat->Prop} (g:Row aG 8 b D d a u):
  Calls Tryz.prog 260 #[.slice d a c,.int .i64 e] b (Ok λq j=>(∃n:Int,q= .int .i64 n/\(0<=n↔e∈u))/\b=j):=by
 have x:=g.len;have r:=g.dt;unfold aI at r;refine mK ⟨λo i j=>∃f:Nat,i=f/\f<=a/\o=a-f/\e∉u.take f/\b=j,⟨_,0,rfl,Qj _,rfl,sM,rfl⟩,?_⟩;rintro o i _ _ ⟨f,rfl,y,rfl,k,rfl⟩;refine al.dec (λs=>?_) (λs=>?_)
 ·obtain⟨t,l,z,rfl,p,_,v⟩:=g.kp (i:=f) oM
  refine⟨t,l,rfl,oM,oM,_,v,al.dJ (λm=>?_) (λm=>?_)⟩
  ·exact Ok.mk ⟨⟨_,rfl,λ_=>m▸QZ p,λ_=>oM⟩,rfl⟩
  ·refine⟨_,oM,f+1,aq oM,oM,rfl,?_,rfl⟩
   rw [Qw,p];intro w;rcases Q6.1 w with h|h
   ·exact k h
   ·simp at h;exact m h
 ·rw [Qz oM]at k
  exact Ok.mk ⟨⟨_,rfl,λh=>oM,λh=>absurd h k⟩,rfl⟩
theorem vg {D:Nat->Prop} (f:Row aG 8 b D d a u):
  Calls Tryz.prog 195 #[.slice d a c,.int .i64 e] b (Ok λg h=>g= .bool (decide (e∈u))/\b=h):=by
 refine jZ (PC.ok (BB f) ?_);rintro _ _ ⟨⟨j,rfl,i⟩,rfl⟩;exact⟨_,rfl,Ok.mk ⟨by rw [decide_eq_decide.2 i],rfl⟩⟩
section
variable {w0 w w1 w':World} {p:Nat} {D D':an} {X Y:Nat->Prop}
theorem aS.lt (b:aS w0 w p D X):∀a,X a->a<w.heap.size:=by obtain⟨d,e,f,g,c⟩:=b;exact c
theorem LD (j:aS w0 w p D X) (t:oR w0):Calls Tryz.prog 134 #[.pointer (some ⟨p,0,none⟩)] w (Ok λu w'=>∃k l e f g,∃Y G:Nat->Prop,u= .func (.func 194) #[] #[.pointer (some ⟨k,0,none⟩),.pointer (some ⟨l,0,none⟩)]/\
  (∃h m,w'.heap[k]? =some (.cells #[.pointer (some ⟨p,0,none⟩)] h m))/\(∃h m,w'.heap[l]? =some (.cells #[.slice e f g] h m))/\aO aG 3 G w' e f g ((eK D).getD [])/\Y k/\Y l/\(∀b,G b->Y b)/\aS w0 w' p D (λb=>X b\/Y b)/\ai w w'):=by
 have B:=j.gr.size;refine xy (PA.mk λw1 o C q=>⟨_,ae q rfl,PC.ok ((j.add o (Y:=(·=w.heap.size)) λb a=>⟨oM,oM⟩).iW t) ?_⟩);rintro _ c ⟨e,f,g,G,rfl,r,E,v,n⟩;refine⟨_,_,_,_,rfl,PA.mk λF i H x=>PS.mk x sM λI d J y=>Ok.mk ⟨w.heap.size,c.heap.size,e,f,g,λb=>(b=w.heap.size\/G b)\/b=c.heap.size,G,rfl,?_⟩⟩;have K:=n.size;have z:w.heap.size≠c.heap.size:=oM
 have s:∀b,G b->b<c.heap.size:=r.aC;have A:=v.add i (Y:=(·=c.heap.size)) λb a=>⟨oM,oM⟩
 refine⟨⟨_,_,d.get (i.get (n.get q id) id) z⟩,⟨_,_,y⟩,(r.ah i).af d (λb a h=>by have:=s b a;omega),.inl (.inl rfl),.inr rfl,λb a=>.inl (.inr a),?_,?_⟩
 ·refine A.dZ d (λb a=>⟨.inr a,oM⟩) λb a=>⟨.inl ?_,?_⟩
  ·rcases a with a|(a|a)|a
   ·exact .inl (.inl (.inl a))
   ·exact .inl (.inl (.inr a))
   ·exact .inl (.inr a)
   ·exact .inr a
  ·have:=d.size
   rcases a with a|(a|a)|a
   ·have:=j.lt b a;omega
   ·omega
   ·have:=s b a;omega
   ·omega
 ·exact ak.new ((o.then n).then i) d λb a=>.inr oM
def CJ (w0 b:World) (p:Nat) (D:an) (f:Nat->Prop) (c:World×(Nat->Prop)) (d:List (List Value)) (e:World):Prop:=
 aS w0 e p (NF D d) (λa=>(f a\/(b.heap.size<=a/\a<b.heap.size+2))\/c.2 a)/\ak (dv f) b e/\ak (dv c.2) c.1 e/\∀a,c.2 a->b.heap.size+2<=a
variable {w5:World} {X5:Nat->Prop} {s:World×(Nat->Prop)} {pre:List (List Value)} {A B:World}
theorem CJ.ah (a:CJ w0 w5 p D X5 s pre A) (b:ai A B):CJ w0 w5 p D X5 s pre B:=⟨a.1.ah b,a.2.1.ah b,a.2.2.1.ah b,a.2.2.2⟩
theorem CJ.dZ (f:ai w0 w5) (g:CJ w0 w5 p D X5 s pre A) (h:oS (w5.heap.size+1) A B):CJ w0 w5 p D X5 s pre B:=by
 obtain⟨d,i,j,e⟩:=g;obtain⟨c,k⟩:=h;have:=f.size;refine⟨d.dZ c (λa b=>⟨.inl (.inr ⟨oM,oM⟩),oM⟩) λa b=>⟨.inl b,by rw [k];exact d.lt a b⟩,i.new c λa b=>.inr oM,j.new c λa b=>.inl λl=>?_,e⟩;have:=e a l;omega
theorem Gq {G:Nat->Prop} {R:World->Prop} (X:Laid w0) (a5:∀b,X5 b->b<w5.heap.size)
  (t:∃u v,w5.heap[a]? =some (.cells #[.pointer (some ⟨p,0,none⟩)] u v)) (Y:X5 a) (w:∃u v,w5.heap[c]? =some (.cells #[.slice d i l] u v)) (Z:X5 c) (hl:aO aG 3 G w5 d i l ((eK D).getD [])) (hG:∀b,G b->X5 b)
  (F:∀A B,R A->ak (mL w5) A B->R B)
  (H:∀s pre x A,CJ w0 w5 p D X5 s pre A->R A->sd [.string ⟨#[]⟩] x->iX Tryz.prog (w5.heap.size+1) x A λb o=>b=true/\CJ w0 w5 p D X5 s (pre++[x]) o/\R o)
  (y:CJ w0 w5 p D X5 (w5,no) [] w1) (a0:R w1) (a1:w5.heap.size+2<=w1.heap.size):
  Calls Tryz.prog 194 #[.func (.yield (w5.heap.size+1)) #[] #[],.pointer (some ⟨a,0,none⟩),.pointer (some ⟨c,0,none⟩)] w1 (Ok λa4 w'=>R w'/\∃s,CJ w0 w5 p D X5 s (yZ (Iz D)) w'):=by
 obtain⟨e2,f2,t⟩:=t;obtain⟨e4,f4,w⟩:=w;have I:aS w0 w1 p D _:=y.1;refine se ⟨_,ae (y.2.1.get t λf=>f Y) rfl,PC.ok I.list ?_⟩;rintro _ z ⟨a8,J,c8,K,rfl,L,a2,h8,M⟩;have a6:D.list.length<=64:=by rw [mM];exact I.ok.many
 have a7:=L.len dC;have a3:CJ w0 w5 p D X5 (z,K) [] z:=⟨h8.mono λb g=>g.elim (λh=>.inl (.inl h)) .inr,y.2.1.ah M,ak.refl _,λb g=>Xx a1 (a2 b g)⟩
 refine⟨_,_,_,rfl,λN O w'=>∃e:Nat,O=e/\e<=J/\N=J-e/\CJ w0 w5 p D X5 (z,K) (yZ ((D.list.take e).filter (iV D))) w'/\R w',⟨_,0,rfl,Qj _,rfl,a3,F _ _ a0 (ai.af M)⟩,?_⟩;rintro N O _ a9 ⟨e,rfl,hj,rfl,m,P⟩;refine al.dec (λb0=>?_) (λb1=>?_)
 ·obtain⟨b,C,s,rfl,Q,_,n⟩:=((L.af m.2.2.1 λb g f=>f g).row (bytes:=16) dC (by unfold aI;omega)).kp (i:=e) oM
  refine⟨b,C,rfl,oM,oM,_,n,PC.ok (y_ (X.ah m.1.gr)) ?_⟩;rintro _ b2 ⟨rfl,S⟩;have k:=m.ah S;have q:=F _ _ P (ai.af S);have T:sd [.string ⟨#[]⟩] [.string s]:=λφ h=>h s;have U:iV D s=true->(D.list.take (e+1)).filter (iV D)=(D.list.take e).filter (iV D)++[s]:=λh=>by
   rw [Qw,Q,List.filter_append];simp [h]
  have V:iV D s=false->(D.list.take (e+1)).filter (iV D)=(D.list.take e).filter (iV D):=λh=>by
   rw [Qw,Q,List.filter_append];simp [h]
  refine⟨_,_,rfl,al.UA (λhe=>?_) (λW=>al.mk (λr=>?_) (λr=>?_))⟩
  ·refine⟨_,rfl,(H _ _ _ _ k q T).mono ?_⟩
   rintro _ o ⟨rfl,j,E⟩;refine al.ff rfl ⟨_,?_,e+1,aq oM,oM,rfl,?_,E⟩
   ·omega
   ·rw [U (by unfold iV;rw [show s=kr from he];simp),CA];exact j
  ·refine⟨_,_,_,ae (k.2.1.get w λf=>f Z) rfl,PC.ok (vg ((hl.af k.2.1 λb g f=>f (hG b g)).row (bytes:=8) dC (by have:=CB (D:=D);unfold aI;omega))) ?_⟩
   rintro _ _ ⟨rfl,rfl⟩;refine⟨_,rfl,al.mk (λn=>?_) (λn=>?_)⟩
   ·refine⟨_,rfl,(H _ _ _ _ k q T).mono ?_⟩
    rintro _ o ⟨rfl,j,E⟩;refine al.ff rfl ⟨_,?_,e+1,aq oM,oM,rfl,?_,E⟩
    ·omega
    ·rw [U (by unfold iV;rw [r,n];simp),CA];exact j
   ·refine⟨_,?_,e+1,aq oM,oM,rfl,?_,q⟩
    ·omega
    ·rw [V (by unfold iV;rw [r,n,Xv (show¬s=kr from W)];rfl)];exact k
  ·refine⟨_,?_,e+1,aq oM,oM,rfl,?_,q⟩
   ·omega
   ·rw [V (by unfold iV;rw [r,Xv (show¬s=kr from W)];rfl)];exact k
 ·rw [Qz oM]at m
  exact Ok.mk ⟨P,_,m⟩
theorem LF (t:Laid w0) (d:aS w0 w p D X):Calls Tryz.prog 74 #[.pointer (some ⟨p,0,none⟩)] w (Ok λj w'=>j= .tuple #[]/\aS w0 w' p (yY D) X/\ak (dv X) w w'):=by
 have a6:=d.gr.size;refine xz (PA.mk λw1 u s1 v=>⟨_,ae v rfl,PC.ok (LD (d.add u (Y:=(·=w.heap.size)) λa b=>⟨oM,oM⟩) t.mN) ?_⟩);rintro _ w5 ⟨b2,b4,a0,a1,a2,Y,G,rfl,E,F,H,I,J,K,k,l⟩;have L:=l.get v id;have m:=k.gr;have z5:=l.size;refine⟨_,rfl,194,_,rfl,kR,World×(Nat->Prop),(w5,no),CJ w0 w5 p D λa=>(X a\/a=w.heap.size)\/Y a,λ_ _ _=>False,λ_ _=>True,λn=>n=yZ (Iz D),?_,λs pre A B e f=>e.dZ m f,λ_ _ _ _ d _=>d,?_,?_,?_,trivial⟩
 ·intro M o s6
  exact⟨(k.add o (Y:=λa=>w5.heap.size<=a/\a<w5.heap.size+2) λa b=>⟨b.1,oM⟩).mono λa b=>b.elim id False.elim,ai.af o,ai.af o,λa b=>b.elim⟩
 ·intro s pre A e a7 a8 _
  refine⟨ak.refl _,λa9 f=>?_⟩;obtain⟨g,i,x,y⟩:=e.dZ m f;refine⟨_,ae (i.get L λc=>c (.inl (.inr rfl))) rfl,PC.ok g.delete ?_⟩;rintro _ b0 ⟨rfl,N,q⟩;refine⟨_,rfl,q.mono λa _ c=>⟨λO=>c (.inl (.inr ⟨oM,oM⟩)),λO=>c (.inl (.inr ⟨oM,oM⟩))⟩,?_⟩;show CJ _ _ _ _ _ _ _ _;refine⟨by rw [LC];exact N,i.new q λa c=>.inl λh=>c (.inl (.inl h)),x.new q λa c=>.inl λh=>c (.inr h),y⟩
 ·intro P Rx Q _ R S M T z
  refine Calls.mono (Gq (R:=P) t k.lt E (.inr I) F (.inr J) H (λa b=>.inr (K a b)) Q (λs pre U A e V f=>(S s pre U A e V f trivial).mono ?_) T z (R _ z)) ?_
  ·rintro a W (d|⟨-,a3,d,-⟩)
   ·exact d
   ·exact d.elim
  ·rintro _ W ⟨j,rfl,Z,s,r⟩
   exact⟨⟨j,rfl⟩,.inl ⟨Z,s,_,r,rfl⟩⟩
 ·rintro s _ A ⟨g,i,x,y⟩ rfl hm
  refine⟨hm,λb1 ⟨C,a5⟩=>Ok.mk ⟨rfl,?_,?_⟩⟩
  ·rw [Cz]at g
   exact(g.dZ C (λa b=>⟨.inl (.inr ⟨oM,oM⟩),by have:=m.size;omega⟩) λa b=>⟨.inl b,by rw [a5];exact g.lt a b⟩).mono λa b=>.inl (.inl (.inl (.inl b)))
  ·exact ak.new (ak.new (ai.af (u.then l)) i λa c=>.inl λh=>c (.inl (.inl h))) C λa b=>.inr oM
end
end Go.Proofs.YthnilpgpacdmnaaGreatDoor

import Derived.Test.YtjgjkeponbeekaaGreatDoorKa25
set_option linter.all false
set_option maxHeartbeats 4000000
set_option maxRecDepth 100000
namespace Go.Proofs.YtjgjkeponbeekaaGreatDoor
open Go.ar
variable{g3:List (Bx aj)}{f:Nat->Prop}{d:Option Addr}{b:World}{F:aw}
section
variable {w w':World} {p:Nat} {M D E:Nat->Prop} {most:Nat} {l:List aj} {a:Option Addr} {n c:Nat} {L:List (Bx aj)}
structure Rg (w:World) (p:Nat) (M:Nat->Prop) (most:Nat) (a:Option Addr) (c s tb:Nat) (T:aw) (nc:Nat) (Lc:List (Bx aj)) (oa:Option Addr) (on oc:Nat) (Lo:List (Bx aj)) (w1:World):Prop where
 set:∃F1,cf w1 s F1 T/\(∀b,F1 b->w.heap.size<=b/\b≠tb)/\∀b,aF oa=some b->w.heap.size<=b/\¬F1 b/\b≠tb
 ptr:w1.heap[tb]? =some (.cells #[ZQ s] 102 (0,0))
 buf:w1.heap[p]? =some (.cells #[XH (most:Int),.slice a nc c] 147 (0,0))
 mf:aO ml.jk 63 (λb=>aF a=some b) w1 a nc c Lc
 out:aO ml.jk 63 (λb=>aF oa=some b) w1 oa on oc Lo
 af:ak M w w1
def xj(i:Ox w p M D most l a n c L){r k:Nat}{j:Nat}{s t:Nat}{u:List (Bx aj)}(I:Rg w p M most a c r k F j g3 d s t u b)(O:∀e∈g3,e∈L)(P:F.l.length<=20000000)(a6:g3.length<=20000000):
  Calls XP 304 #[.slice a j c,.func (.func 303) #[] #[ZQ k]] b (Ok λA w'=>
   (A= XH (-1)/\(∀e∈g3,(F.add e.x).1≠0)/\Rg w p M most a c r k F j g3 d s t u w')\/
   (∃h e,h<j/\A= XH (h:Int)/\g3[h]? =some e/\(∀x∈g3.take h,(F.add x.x).1≠0)/\(F.add e.x).1=0/\Rg w p M most a c r k (F.add e.x).2 j g3 d s t u w')):=by
 have R:=i.dM p i.mp;have a7:=I.mf.len dC;have S:∀e,aF a=some e->e<w.heap.size:=λe f=>i.dM e (i.ma e f).1;refine(zH (E:=λe=>aF a=some e) (L:=g3) kR (λh m=>(∀e∈g3.take h,(F.add e.x).1≠0)/\Rg w p M most a c r k F j g3 d s t u m) (λh m=>∃e,g3[h]? =some e/\(∀x∈g3.take h,(F.add x.x).1≠0)/\(F.add e.x).1=0/\Rg w p M most a c r k (F.add e.x).2 j g3 d s t u m) ⟨sM,I⟩
  (λh m g=>g.2.mf.row dC (by unfold aK;omega)) ?_).mono ?_
 ·rintro h e m f ⟨J,g⟩
  obtain⟨T,U,y,B⟩:=g.set;have K:=(i.Ms e (O e (QZ f))).af g.af λe f=>(i.dD e f).2;have z2:=g.af.size;refine(Mv U g.ptr K.1 (λe f=>⟨by have:=(i.dD e f).1;omega,λo=>by have:=(i.dD e f).1;have:=(y e o).1;omega⟩) K.2 P).mono ?_;rintro _ V ⟨A,rfl,rfl,W,X,q⟩;have N:∀e,e<w.heap.size->¬T e:=λe f o=>by have:=(y e o).1;omega
  have Y:=ax g.ptr;have E:∀e,aF d=some e->e<m.heap.size:=λe f=>g.out.aB e f;have H:Rg w p M most a c r k (F.add e.x).2 j g3 d s t u V:=⟨⟨W,X,λe f=>(q.new e f).elim (y e) λz=>⟨oM,oM⟩,λe f=>⟨(B e f).1,λo=>(q.new e o).elim (B e f).2.1 λz=>by have:=E e f;omega,(B e f).2.2⟩⟩,
   q.af.get g.ptr λo=>(y _ o).2 rfl,q.af.get g.buf (N p R),g.mf.af q.af λe f=>N e (S e f),g.out.af q.af λe f=>(B e f).2.1,g.af.new q.af λe f=>.inr (y e f).1⟩
  refine Ok.mk ?_
  by_cases v:(F.add e.x).1=0
  ·exact .inl ⟨by rw[decide_eq_true v],e,f,J,v,H⟩
  ·refine .inr ⟨by rw[Xv v],λx Q=>?_,?_⟩
   ·rw[Qw,f]at Q
    rcases Q6.1 Q with Q|Q
    ·exact J x Q
    ·simp at Q;subst Q;exact v
   ·rcases F.iG e.x with⟨-,z⟩|⟨z,-⟩
    ·rw[z]at H;exact H
    ·rw[z]at v;exact absurd rfl v
 ·rintro _ m ⟨A,rfl,Z⟩
  rcases Z with⟨h,hj,rfl,e,C,g,h3,h4⟩|⟨rfl,C,g⟩
  ·exact Ok.mk (.inr ⟨h,e,hj,rfl,C,g,h3,h4⟩)
  ·rw[Qz oM]at C
   exact Ok.mk (.inl ⟨rfl,C,g⟩)
def Et(d7:fZ w p M D most l){b3:Nat}(hs:cf w b3 f F)(g3:F.Cl)(k2:F.l.length<=19000000):
  Calls XP 247 #[ZQ p,ZQ b3] w (Ok λd8 w'=>∃r A E m,d8= .slice r A E/\aO ml.jk 63 (λb=>aF r=some b) w' r A E m/\m.map (·.x)=(bt F l).1/\(∀b∈m,ml.In w' D b)/\(∀b,aF r=some b->w.heap.size<=b)/\
   fZ w' p M D most (bt F l).2/\ak M w w'):=by
 obtain⟨W,a,n,c,L,h⟩:=d7;have g4:=h.dM p h.mp;have X:∀b,aF a=some b->b<w.heap.size:=λb d=>h.dM b (h.ma b d).1;have k3:L.length=l.length:=by rw[<-h.map,Q8]
 have h1:l.length<=256:=Xx W.2.le W.1;have hN:=hs.1.n;refine oC (PC.ok (nj hs) ?_);rintro _ w4 ⟨va,vn,vc,Fv,rfl,g6,k4,k5⟩;have d2:=g6.len dC;rw[F.bL]at d2;subst d2;refine⟨_,_,_,rfl,PC.ok (Eu hN) ?_⟩;rintro _ B ⟨H,F2,rfl,d3,d4,k7⟩;have z4:=k4.size;have z7:=k7.size;refine⟨_,rfl,PA.mk λw9 k9 s9 g9=>PS.mk g9 sM λg7 g8 k6 h4=>?_⟩;have a1:ai B g7:=k9.new g8 λb d=>.inr (by have d:b=B.heap.size:=d;omega);have b4:=(k4.then k7).then a1;have Y:=d3.aB;refine PC.ok (qO (hs.ah b4) oM) ?_;rintro _ Z ⟨ea,en,ec,G,rfl,b9,a6,hG⟩;have k8:=b9.len dC;have l0:=a1.size;have l3:=a6.size;have e0:Row jj 96 Z G ea en F.l:=b9.row dC (by unfold aK;omega);have h6:Z.heap[B.heap.size]? =some (.cells #[ZQ H] 102 (0,0)):=a6.get h4 id;have d6:=b9.aB;refine⟨_,_,_,rfl,λR a2 w'=>∃(g:Nat) (S:Nat->Prop),a2=g/\g<=en/\R=en-g/\cf w' H S ((⟨F.n,[]⟩:aw).fr (F.l.take g))/\(∀b,S b->F2 b\/Z.heap.size<=b)/\ak F2 Z w',⟨_,0,F2,rfl,Qj _,rfl,d3.ah (a1.then a6),λb d=>.inl d,ak.refl _⟩,?_⟩;rintro R _ _ a7 ⟨g,S,rfl,hj,rfl,a8,a9,T⟩;have l4:=T.size;have c1:=T.get h6 λI=>by have:=Y _ I;omega
 refine al.dec (λl5=>?_) (λl6=>?_)
 ·have N:F.l[g]? =some F.l[g]:=Qq oM
  generalize F.l[g]=O at N;have e7:=e0.af T λb d I=>by have:=Y _ I;have:=hG b d;omega
  obtain⟨b,e8,es,ha,l7,l8,c2,xa,xn,xc,rfl,h7,f0⟩:=e7.el g O N;refine⟨b,e8,ha,oM,oM,bA (es:=aC O xa xn xc) (k:=10) (aV _ _ _ _) rfl (λa2 ht=>by rw[Qx];exact c2 a2 ht) (PA.mk λl9 h8 m1 h9=>az (aV O xa xn xc) h9 rfl λi1 i3 m2 i4=>?_)⟩;have P:ai a7 i1:=h8.new i3 λb d=>.inr (by have d:b=a7.heap.size:=d;omega);have c3:=aw.mu (F.l.take g) ⟨F.n,[]⟩;rw[Qy]at c3;simp only[List.length_nil]at c3;refine⟨_,ae (P.get c1 id) rfl,au (aV O xa xn xc) i4 (PC.ok (tO (a8.ah P) (h7.ah P) (λb d=>⟨by have:=d6 b d;have:=P.size;omega,λI=>?_⟩) f0 oM) ?_)⟩
  ·rcases a9 b I with k|k
   ·have:=Y _ k;have:=hG b d;omega
   ·have:=d6 b d;omega
  rintro _ i5 ⟨rfl,F3,i6,d9⟩;refine⟨_,rfl,_,oM,g+1,F3,aq oM,oM,rfl,?_,λb d=>?_,?_⟩
  ·rw[Qw,N]
   show cf i5 H F3 (aw.fr _ (F.l.take g++[O]));rw[aw.qP];exact i6
  ·rcases d9.new b d with k|k
   ·exact a9 b k
   ·have:=P.size;exact .inr oM
  ·exact(T.ah P).new d9.af λb d=>a9 b d
 rw[Qz oM,g3.UE]at a8;have b5:ai w a7:=(b4.then a6).new T λb d=>.inr (by have:=d4 b d;omega);have c4:=h.af b5 (λ_ _ h=>h) λ_ _ h=>h;have t:∀b,S b->w.heap.size<=b/\b≠B.heap.size:=λb d=>by
  rcases a9 b d with k|k
  ·have:=d4 b k;have:=Y b k;omega
  ·omega
 refine⟨p,0,rfl,_,_,_,ae c4.at' rfl,PC.ok (Mt (pr:=λe=>(F.get (aW e)).isSome) kR c4.mf oM λb w1 hk=>?_) ?_⟩
 ·refine Mu (a8.af hk λb d e=>?_) (hk.get c1 λe=>?_)
  ·have:=X b e;have:=(t b d).1;omega
  ·have:=X _ e;omega
 rintro _ m3 ⟨m0,rfl,f1,e1⟩;have b0:¬aF a=some p:=λe=>(h.ma p e).2 rfl;refine⟨_,_,_,rfl,p,0,rfl,PS.mk (e1.get c4.at' b0) sM λe2 e3 m4 e4=>⟨p,0,rfl,_,_,_,ae e4 rfl,?_⟩⟩;obtain⟨u,z⟩:∃u,u=L.filter λb=>!(F.get (aW b.x)).isSome:=⟨_,rfl⟩
 have a3:ak (λb=>aF a=some b\/b=p) a7 e2:=(e1.mono λb _ d=>.inl d).then (e3.mono λb _ d=>.inr d);have VR:∀b,aF a=some b\/b=p->b<w.heap.size:=λb d=>d.elim (X b) λe=>e▸g4;have e5:Rg w p M most a c H B.heap.size F m0 u none 0 0 [] e2:=by
  refine⟨⟨S,a8.af a3 λb d e=>by have:=VR b e;have:=(t b d).1;omega,t,λb d=>by cases d⟩,a3.get c1 λe=>by have:=VR _ e;omega,e4,?_,(aO.nil _).mono (λb d=>d.elim) λb d=>(by cases d),?_⟩
  ·rw[z];exact f1.af e3 λb d e=>b0 (by have e:b=p:=e;rw[<-e];exact d)
  ·exact(ai.af b5).then (a3.mono λb _ d=>d.elim (λe=>(h.ma b e).1) λe=>e▸h.mp)
 have b6:∀b∈u,b∈L:=λb d=>by rw[z]at d;exact(List.mem_filter.1 d).1
 have a4:u.map (·.x)=l.filter λe=>(F.get (aW e)).isNone:=by
  rw[z,<-h.map,List.filter_map]
  congr 1
  refine List.filter_congr λb d=>?_;show(!(F.get (aW b.x)).isSome)=(F.get (aW b.x)).isNone
  cases F.get (aW b.x)<;>rfl
 have b7:u.length<=L.length:=by rw[z];exact List.length_filter_le ..
 refine PC.ok (xj h e5 b6 oM oM) ?_;rintro i7 m5 b8;obtain⟨i0,i8⟩:∃v:Int,i7= XH v:=by
  rcases b8 with⟨o,-⟩|⟨g,b,-,o,-⟩
  ·exact⟨_,o⟩
  ·exact⟨_,o⟩
 subst i8;refine⟨_,rfl,λR r A E v w'=>∃(s:aw) (i m:List (Bx aj)) (C U:Nat),R=i.length/\(∀b∈i,b∈L)/\(∀b∈m,b∈L)/\(i.map (·.x)).Sublist l/\i.length<=U/\s.l.length+i.length<=F.l.length+L.length/\i.length<=L.length/\m.length+i.length<=L.length/\C=i.length/\
   dR (U+1) s (i.map (·.x)) (m.map (·.x))=bt F l/\
   ((v= -1/\(∀b∈i,(s.add b.x).1≠0)/\Rg w p M most a c H B.heap.size s C i r A E m w')\/
    (∃g b,g<C/\v=(g:Int)/\i[g]? =some b/\(∀x∈i.take g,(s.add x.x).1≠0)/\(s.add b.x).1=0/\Rg w p M most a c H B.heap.size (s.add b.x).2 C i r A E m w')),?_,?_⟩
 ·have i9:=e5.mf.len dC
  refine⟨_,F,u,[],m0,u.length,rfl,b6,sM,by rw[a4];exact List.filter_sublist,Q4 _,oM,b7,by simpa using b7,i9,?_,?_⟩
  ·rw[a4]
   show dR (u.length+1) F _ []=_;unfold bt;rw[<-a4];show _=dR ((u.map (·.x)).length+1) F _ [];rw[Q8]
  ·rcases b8 with⟨o,J,K⟩|⟨g,b,o,J,K⟩
   ·exact .inl ⟨by simpa using o,J,K⟩
   ·exact .inr ⟨g,b,o,by simpa using J,K⟩
 rintro R r A E v _ j0 ⟨s,i,m,C,U,rfl,a5,c0,e6,hk,m6,k0,k1,m7,c6,j1⟩;rcases j1 with⟨rfl,c5,j⟩|⟨g,b,hj,rfl,d,c5,f4,j⟩
 ·refine al.ff sM (Ok.mk ⟨r,A,E,m,rfl,j.out,?_,λb d=>(h.Ms b (c0 b d)).af j.af λb d=>(h.dD b d).2,λb d=>by obtain⟨F1,-,-,k⟩:=j.set;exact(k b d).1,⟨⟨W.1,?_⟩,a,C,c,i,j.buf,j.mf,?_,λb d=>(h.Ms b (a5 b d)).af j.af λb d=>(h.dD b d).2,λb d=>⟨by have:=(h.dD b d).1;have:=j.af.size;omega,(h.dD b d).2⟩,h.mp,h.ma,λb d=>by have:=h.dM b d;have:=j.af.size;omega⟩,j.af⟩)
  all_goals
   have f7:bt F l=(m.map (·.x),i.map (·.x)):=by
    rw[<-c6];unfold dR;rw[rY λe he=>by obtain⟨b,d,rfl⟩:=Xk.1 he;exact c5 b d]
   rw[f7]
  exact W.2.sub e6
 ·have j2:g<i.length:=oM
  have m8:=j;obtain⟨F1,e9,f2,b1⟩:=j.set;have m9:=j.af.size;have c3:=s.yU b.x;obtain⟨gb,go,es,ha,n0,n1,c2,rfl,-⟩:=(j.mf.row (bytes:=96) dC (by unfold aK;omega)).el g b d;have e:=λv (hi:v<10)=>c2 v hi;refine al.dec (λ_=>⟨p,0,rfl,_,_,_,ae j.buf rfl,gb,go,ha,oM,oM,_,_,_,_,_,_,_,_,_,_,_,_,e 0 dC,e 1 dC,e 2 dC,e 3 dC,e 4 dC,e 5 dC,e 6 dC,e 7 dC,e 8 dC,e 9 dC,PA.mk λj3 f3 n2 j4=>?_⟩) (λhn=>oM);have n3:=j.out.len dC;refine eV (c:=ml.jk) (x:=b) (D:=λ_=>False) (j.out.ah f3) sI j4 ⟨rfl,trivial⟩ (λb d=>d.elim) (by unfold aK;omega) (by unfold maxLen;omega) λV b2 f5 Fo c7 j5 j6=>⟨_,_,_,rfl,p,0,rfl,?_⟩
  have f8:=c7.alone;have d0:∀b,aF V=some b->aF r=some b\/j3.heap.size<=b:=λb d=>(j6 b (c7.self b d)).imp id λh=>h.resolve_left id;have q:∀b,aF r=some b->w.heap.size<=b:=λb d=>(b1 b d).1;have Q:ak (λb=>aF r=some b) j0 f5:=(ai.af f3).then j5;have f6:=Q.get j.buf λe=>by have:=q _ e;omega
  have f9:=j.mf.af Q λb d e=>by have:=q _ e;have:=X b d;omega
  have n4:=Q.size;refine⟨_,_,_,ae f6 rfl,PC.ok (Tv f9 hj oM) ?_⟩;rintro _ n8 ⟨rfl,g5,c8⟩;have n9:=c8.size;refine⟨_,_,_,rfl,p,0,rfl,PS.mk (c8.get f6 b0) sM λg0 g1 o0 g2=>⟨p,0,rfl,_,_,_,ae g2 rfl,?_⟩⟩;have o1:(i.eraseIdx g).length=i.length-1:=List.length_eraseIdx_of_lt j2;have a0:ak (λb=>aF a=some b\/b=p) f5 g0:=(c8.mono λb _ d=>.inl d).then (g1.mono λb _ d=>.inr d);have c9:∀b,w.heap.size<=b->¬(aF a=some b\/b=p):=λb d e=>by have:=VR b e;omega
  have j7:Rg w p M most a c H B.heap.size (s.add b.x).2 (C-1) (i.eraseIdx g) V (A+1) b2 (m++[b]) g0:=by
   refine⟨⟨F1,(e9.af Q λb d e=>(b1 b e).2.1 d).af a0 λb d=>c9 b (f2 b d).1,f2,λb d=>?_⟩,a0.get (Q.get j.ptr λe=>(b1 _ e).2.2 rfl) (c9 _ oM),g2,g5.af g1 λb d e=>b0 (by have e:b=p:=e;rw[<-e];exact d),f8.af a0 λb d=>c9 b ?_,?_⟩
   ·rcases d0 b d with k|k
    ·exact b1 b k
    ·have hd:=e9.aB
     have o2:=ax j.ptr;exact⟨oM,λI=>by have:=hd b I;omega,oM⟩
   ·rcases d0 b d with k|k
    ·exact q b k
    ·omega
   ·exact(j.af.new Q λb d=>.inr (q b d)).then (a0.mono λb _ d=>d.elim (λe=>(h.ma b e).1) λe=>e▸h.mp)
  have d1:∀x∈i.eraseIdx g,x∈L:=λx y=>a5 x ((List.eraseIdx_sublist ..).subset y);refine PC.ok (xj h j7 d1 oM oM) ?_;rintro j8 o3 d5;obtain⟨i2,j9⟩:∃v:Int,j8= XH v:=by
   rcases d5 with⟨o,-⟩|⟨g,b,-,o,-⟩
   ·exact⟨_,o⟩
   ·exact⟨_,o⟩
  subst j9;have h0:∃k',U=k'+1:=⟨U-1,oM⟩
  obtain⟨k',rfl⟩:=h0;refine⟨_,rfl,(i.eraseIdx g).length,oM,(s.add b.x).2,i.eraseIdx g,m++[b],C-1,k',rfl,d1,?_,?_,oM,oM,oM,by simp;omega,oM,?_,?_⟩
  ·intro x y
   rcases Q6.1 y with y|y
   ·exact c0 x y
   ·simp at y;subst y;exact a5 x (QZ d)
  ·exact((List.eraseIdx_sublist ..).map _).trans e6
  ·rw[<-c6]
   conv=>rhs;unfold dR
   rw[rZ (i:=g) (e:=b.x) (λO N=>by rw[<-List.map_take]at N;obtain⟨x,y,rfl⟩:=Xk.1 N;exact c5 x y) (by rw[Q9,d];rfl) f4];show _=dR (k'+1) (s.add b.x).2 ((i.map (·.x)).eraseIdx g) (m.map (·.x)++[b.x]);rw[map_eraseIdx,Q3];rfl
  ·rcases d5 with⟨o,J,K⟩|⟨g,b,o,J,K⟩
   ·exact .inl ⟨by simpa using o,J,K⟩
   ·exact .inr ⟨g,b,o,by simpa using J,K⟩
end
def pf:ft:=⟨[(3,[(21,XH 0)])],[],[5],[5],[(5,⟨[0,0,2,4,8,0,32,64,208,511,1023,1535],[4095,4095,4093,4091,4087,4095,4063,4031,3951,4094,3583,2815],[0,0,0,0,1,1,2,2,2,0,0,2]⟩)]⟩
variable{s:Ending->World->Prop}{t:List Int}{K:List aj}{a c:Nat}{a3:Nat->Prop}{r:Option Addr}{l:World}{y:World->Prop}{o:aj}{b0:ej}
def pg(A:(dr d λB C=>(rS b (ad B C) λV e W=>((0:Int)<=(if(IntKind.wrap .i64 (1024-(e:Int)))<(a:Int)then(IntKind.wrap .i64 (1024-(e:Int)))else(a:Int))/\((if(IntKind.wrap .i64 (1024-(e:Int)))<(a:Int)then(IntKind.wrap .i64 (1024-(e:Int)))else(a:Int)):Int)<=(c:Int)/\(∃k:Nat->Int->World->Prop,(∃i,k i 0 b)/\∀(i:Nat) (f:Int) (X:Nat->Value) (g:World),k i f g->al (decide (f<((Int.toNat (if(IntKind.wrap .i64 (1024-(e:Int)))<(a:Int)then(IntKind.wrap .i64 (1024-(e:Int)))else(a:Int)):Nat):Int))) ((dr r λE D=>(0:Int)<=f/\f<((Int.toNat (if(IntKind.wrap .i64 (1024-(e:Int)))<(a:Int)then(IntKind.wrap .i64 (1024-(e:Int)))else(a:Int)):Nat):Int)/\(Ld 127 (ad E (D+Int.toNat f*5)) g λF=>PA g (.cells #[.ii 0,.ii 0,.ii 0,.slice none 0 0,.slice none 0 0] 127) λH=>St 127 (ab_ g 0) F H λG=>(∀h,bd G h->∃l:Nat->Prop,(dr d λm I=>(¬l m/\(rS h (ad m I) λJ K L=>(Ld 127 (ab_ g 0) h λM=>PC_ 96 #[M] h (λN j=>∃n o p q t u v w x,N= .agg #[.ii n,.ii o,.ii p,.slice q t u,.slice v w x]/\(ak l h j/\PA j (.cells #[.ii n,.ii o,.ii p,.slice q t u,.slice v w x] 127) λy=>(ak l j y/\PR_ (ap_ 69 (.slice J K L) (.slice (some (ab_ j 0)) 1 1)) y (kS_ λO P Q R=>(dr d λS T=>PS R (ad S T) (.slice O P Q) λU=>(∃z,z<i/\k z (IntKind.wrap .i64 (f+1)) U))) (pY s)))) (pZ s))))))))) (rt s ((.ii (IntKind.wrap .i64 ((a:Int)-(if(IntKind.wrap .i64 (1024-(e:Int)))<(a:Int)then(IntKind.wrap .i64 (1024-(e:Int)))else(a:Int)))))) g)))))):Calls XP 64 #[.pointer d,.slice r a c] b s:=DC pf Tryz.func64 rfl A
def tq:ft:=⟨[(3,[(6,.slice none 0 0),(16,XH 0)])],[],[5,12],[],[(5,⟨[0,1,2,4,0,16,40,64,128,128,511,2047],[4095,4094,4093,4091,4095,4079,4055,4031,3967,3967,3839,3583],[0,0,0,1,0,2,2,0,0,0,0,0]⟩),(12,⟨[0,0,2,4,8,0,32,0,208,257,1023],[2047,2047,2045,2043,2039,2047,2015,2047,1839,2046,1791],[0,0,0,0,1,0,2,0,2,0,0]⟩)]⟩
def tr(O:PA b (.cells #[.slice r a c] 211) λx=>(rS x (ab_ b 0) λP y c3=>(∃p:Nat->Option Addr->Nat->Nat->Int->World->Prop,(∃f,p f none 0 0 0 x)/\∀(f:Nat) (g:Option Addr) (h:Nat) (i:Nat) (e:Int) (c4:Nat->Value) (j:World),p f g h i e j->al (decide (e<(y:Int))) ((ix_ P e y λQ R=>(rI j (ad Q (R+Int.toNat e)) λk=>(∀l,bd j l->∃q:Nat->Prop,(dr d λz S=>(¬q z/\(rP l (ad z S) λT=>PC_ 146 #[.ii k] l (λU t=>∃A,U= .string A/\(ak q l t/\PC_ 162 #[.pointer T,.string A] t (λV m=>∃W B X C,V= .tuple #[.slice W B X,.ii C]/\(ak q t m/\al (C !=0) (rt s ((.tuple #[.slice g h i,.ii 0])) m) ((dr d λY Z=>(rP m (ad Y Z) λa1=>PC_ 168 #[.pointer a1,.ii k] m (λa2 a3=>∃D E F n,a2= .tuple #[.slice D E F,.ii n]/\PR_ (ap_ 59 (.slice g h i) (.slice D E F)) a3 (kS_ λG H I u=>(dr d λa4 a5=>(rS u (ad a4 (a5+2)) λa6 a7 a8=>PA u (.cells #[.ii k] 3) λa9=>PR_ (ap_ 42 (.slice a6 a7 a8) (.slice (some (ab_ u 0)) 1 1)) a9 (kS_ λb0 b1 b2 b3=>(dr d λb4 b5=>PS b3 (ad b4 (b5+2)) (.slice b0 b1 b2) λb6=>(dr d λb7 b8=>PS b6 (ad b7 (b8+3)) (.ii n) λJ=>al (decide (n<(B:Int))) ((∀o,bd J o->∃v:Nat->Prop,(dr d λK b9=>(¬v K/\(rP o (ad K b9) λc0=>PC_ 146 #[.ii k] o (λc1 w=>∃L,c1= .string L/\(ak v o w/\PC_ 169 #[.pointer c0,.string L,.ii n] w (kI_ λc2 M=>(ak v w M/\rt s ((.tuple #[.slice G H I,.ii c2])) M)) (pZ s))) (pZ s)))))) ((∃N,N<f/\p N G H I (IntKind.wrap .i64 (e+1)) J))))) (pV s)))) (pV s)) (pE s)))))) (pZ s))) (pZ s)))))))) (rt s ((.tuple #[.slice g h i,.ii 0])) j)))):Calls XP 110 #[.pointer d,.agg #[.slice r a c]] b s:=DC tq Tryz.func110 rfl O
def qB(a:ej)(D:an):Int×ej×an:=
 let d:=cx (aA a.next)
 let b:=D.sync d
 if b.1≠0 then(b.1,a,(b.2.delete d).2)else
 let c:=bZ b.2 (a.bH++[a.next])
 if c.1≠0 then(c.1,a,(c.2.delete d).2)else
 (0,⟨a.size,a.bH++[a.next],0,IntKind.wrap .i64 (a.next+1)⟩,c.2)
def lW(b:ej)(D:an):Int×ej×an:=
 let a:=D.create (cx (aA b.next))
 if a.1≠0 then(a.1,b,a.2)else qB b a.2
def aZ(a:ej)(D:an):Int×ej×an:=
 if a.bH=[]then lW a D else
 let b:=D.sync a.last
 if b.1≠0 then(b.1,a,b.2)else lW a b.2
def DM(d e:World)(f g:Nat)(b:Nat->Prop)(a:Int×ej×an)(h:Value)(c:World):Prop:=h= XH a.1/\bX d c f g a.2.1 a.2.2 b/\ak (dj b) e c
def P_(a:Int):aH (IntKind.wrap .i64 a):=by
 unfold aH IntKind.wrap;simp[IntKind.signed,IntKind.bits];omega
def FN{D:an}{b:List Int}(a:(bZ D b).1=0):b.length<=64:=by
 unfold bZ at a;split at a
 ·cases a
 ·omega
def DN{D:an}(hL:Laid b)(h:bX b l a c b0 D f):
  Calls XP 111 #[ZQ c] l (Ok (DM b l a c f (aZ b0 D))):=by
 have b2:=h.aB;obtain⟨p3,j4,e7⟩:=h.WK;have p4:=h.gr.size;have e9:=h.AH;have j5:=h.many;refine sU (PA.mk λC k1 s1 g1=>PA.mk λw2 k2 s2 g2=>?_);have d8:ai l w2:=k1.then k2
 let b6:Nat->Prop:=λd=>f d\/(d=l.heap.size\/d=C.heap.size)
 have hY:bX b w2 a c b0 D b6:=h.add d8 λd e=>by omega
 have b7:=k2.get g1 id;refine⟨λg=>∃E,bX b g a c b0 E b6/\ak (dj f) l g/\w2.heap.size<=g.heap.size/\g.heap[l.heap.size]? =some (.cells #[ZQ c] 101 (0,0))/\g.heap[C.heap.size]? =some (.cells #[XH 0] 34 (0,0))/\aZ b0 D=lW b0 E,?_,?_⟩
 ·obtain⟨G,hD,hl,hG⟩:=id hY
  obtain⟨u,F,J,n,S,hr,hE,v⟩:=hl.row;refine⟨_,ae b7 rfl,c,0,rfl,_,_,_,ae S rfl,al.dec (λo6=>?_) (λz=>?_)⟩
  ·have w:b0.bH≠[]:=λj=>by rw[j]at v;simp at v;omega
   refine⟨_,ae b7 rfl,PC.ok (HS hL hY w) ?_⟩;rintro _ w3 ⟨rfl,Y,k3⟩;have kX:ak (dj f) l w3:=(ai.af d8).then (k3.mono λd _ e k=>e (.inl k));have b8:=k3.get b7 λv=>v (.inr (.inl rfl));have b9:=k3.get g2 λv=>v (.inr (.inr rfl));have hB:aZ b0 D=if(D.sync b0.last).1≠0 then((D.sync b0.last).1,b0,(D.sync b0.last).2)else lW b0 (D.sync b0.last).2:=by unfold aZ;rw[if_neg w]
   refine⟨_,rfl,al.dB (λf5=>?_) (λH=>⟨_,Y,kX,k3.size,b8,b9,by rw[hB,if_neg (by simpa using H)]⟩)⟩;refine PS.mk b9 sM λK M s4 g4=>⟨_,ae g4 rfl,Ok.mk ?_⟩
   rw[hB,if_pos f5];exact⟨rfl,(Y.other M λd e=>⟨e▸.inr (.inr rfl),oM⟩).mono λd e=>.inl e,kX.then (M.mono λd _ e k=>by have:=b2 d k;omega)⟩
  ·have he:b0.bH=[]:=QW oM
   exact⟨D,hY,ai.af d8,Q4 _,b7,g2,by unfold aZ;rw[if_pos he]⟩
 rintro _ w3 ⟨E,Y,b3,o7,b8,b9,hB⟩;rw[hB];obtain⟨G3,p5,j6,p6⟩:=id Y;obtain⟨f9,n3,h0,E3,j7,-,-,-⟩:=j6.row;refine⟨_,ae b8 rfl,c,0,rfl,_,ae j7 rfl,PC.ok (iY (hL.ah Y.gr) e9) ?_⟩;rintro _ K ⟨rfl,M⟩;refine⟨_,rfl,PA.mk λw5 k5 s5 g5=>PS.mk g5 sM λw6 k6 s6 g6=>?_⟩
 let q:Nat->Prop:=λd=>b6 d\/d=K.heap.size
 have f6:=Y.ah M;have p7:=f6.gr.size;have p8:=M.size;have j8:bX b w6 a c b0 E q:=(f6.add (Y:=(·=K.heap.size)) k5 λd e=>oM).other k6 λd e=>⟨.inr e,oM⟩
 have j9:ak (dj f) l w6:=((b3.ah M).ah k5).then (k6.mono λd _ e k=>by have:=b2 d k;have:=b3.size;omega);have e0:∀{d},f d->q d:=λk=>.inl (.inl k);intro N e4;have k7:ai w6 N:=e4.af;have f8:=j8.ah k7;have gn:w6.heap[K.heap.size]? =some (.cells #[.string (cx (aA b0.next))] 9 (0,0)):=g6;have k0:=k6.get (k5.get (M.get b8 id) id) oM;have g0:=k6.get (k5.get (M.get b9 id) id) oM
 let r:World->Int->Prop:=λg j=>g.heap[l.heap.size]? =some (.cells #[ZQ c] 101 (0,0))/\g.heap[C.heap.size]? =some (.cells #[XH j] 34 (0,0))/\g.heap[K.heap.size]? =some (.cells #[.string (cx (aA b0.next))] 9 (0,0))
 have C6:r w6 0:=⟨k0,g0,gn⟩
 have i:∀{g x:World} {j:Int} {d0:Nat->Prop},r g j->ak d0 g x->(∀d,d0 d->¬(d=l.heap.size\/d=C.heap.size\/d=K.heap.size))->r x j:=λO p hS=>
  ⟨p.get O.1 λP=>hS _ P (.inl rfl),p.get O.2.1 λP=>hS _ P (.inr (.inl rfl)),p.get O.2.2 λP=>hS _ P (.inr (.inr rfl))⟩
 have m:∀{g x:World} {j:Int},r g j->ak (dj q) g x->r x j:=λO p=>i O p λd e hc=>e (by
  rcases hc with rfl|rfl|rfl
  ·exact .inl (.inr (.inl rfl))
  ·exact .inl (.inr (.inr rfl))
  ·exact .inr rfl)
 have c1:∀{g x:World},ak (dj f) l g->ak (dj q) g x->ak (dj f) l x:=λu d=>u.then (d.mono λd _ e k=>e (e0 k));have C7:r N 0:=i C6 k7 λd e=>e.elim;obtain⟨G7,p9,l0,q0⟩:=id f8;obtain⟨k4,n7,l1,E7,l3,-,-,-⟩:=l0.row;refine⟨_,ae C7.1 rfl,c,0,rfl,_,ae l3 rfl,_,ae C7.2.2 rfl,PC.ok (f8.on (λq hZ T=>T.create)) ?_⟩;rintro _ w8 ⟨rfl,c2,k8⟩;have C8:=m C7 k8;have g3:=c1 (j9.ah k7) k8;have l4:lW b0 E=if(E.create (cx (aA b0.next))).1≠0 then((E.create (cx (aA b0.next))).1,b0,(E.create (cx (aA b0.next))).2)else qB b0 (E.create (cx (aA b0.next))).2:=rfl
 rw[l4];generalize q1:E.create (cx (aA b0.next))=cr at c2⊢;obtain⟨l2,L⟩:=cr;simp only at c2⊢;have q2:C.heap.size<w2.heap.size:=oM
 have g7:∀{g:World} {A:Int×ej×an} {j:Int} {x:World},bX b g a c A.2.1 A.2.2 q->ak (dj f) l g->ak (·=C.heap.size) g x->j=A.1->DM b l a c f A (XH j) x:=by
  intro g A j x v p P he;exact⟨by rw[he],(v.other P λd e=>⟨e▸.inl (.inr (.inr rfl)),oM⟩).mono λd e=>e0 e,p.then (P.mono λd _ e k=>by have:=b2 d k;omega)⟩
 refine⟨_,rfl,al.dB (λw=>?_) (λH=>?_)⟩
 ·refine PS.mk C8.2.1 sM λw9 k9 s9 g9=>⟨_,ae g9 rfl,Ok.mk ?_⟩
  rw[if_pos w];exact g7 c2 g3 k9 rfl
 rw[if_neg (by simpa using H)];have B:∀{A:Int×ej×an} (j:Int) (n:an) (g:World),bX b g a c b0 n q->ak (dj f) l g->r g j->j≠0->A=(j,b0,(n.delete (cx (aA b0.next))).2)->
   Lv XP (λg8=>∃h2:Int,g8.cell? ⟨C.heap.size,0,none⟩=some (XH h2)/\Ok (DM b l a c f A) (.returned (XH h2)) g8) (λch g=>Ok (DM b l a c f A) (.panicked ch) g)
    ([{target:=.fn (.func 171) #[ZQ C.heap.size,ZQ l.heap.size,ZQ K.heap.size],args:= #[]}]:List Deferred) .returning g:=by
  intro A j n g v p O w hr;refine Lv.one sM kR (CallsD.mono (iz (R:=λe' N=>e'= .returned (.tuple #[])/\∃h3:Int,N.cell? ⟨C.heap.size,0,none⟩=some (XH h3)/\Ok (DM b l a c f A) (.returned (XH h3)) N) ⟨_,ae O.2.1 rfl,al.dB (λ_=>?_) (λH=>absurd H w)⟩) ?_)
  ·intro wa da
   have ka:ai g wa:=da.af;have h4:=v.ah ka;have e1:r wa j:=i O ka λd e=>e.elim;obtain⟨Ga,q3,l5,q4⟩:=id h4;obtain⟨aa,na,ca,Ea,c0,-,-,-⟩:=l5.row;refine⟨_,ae e1.1 rfl,c,0,rfl,_,ae c0 rfl,_,ae e1.2.2 rfl,PC.ok (h4.on (λq hZ T=>T.delete)) ?_⟩;rintro _ U ⟨rfl,l6,kb⟩;have l7:=m e1 kb;refine⟨_,rfl,rfl,_,ae l7.2.1 rfl,Ok.mk ?_⟩;rw[hr];exact⟨rfl,l6.mono λd e=>e0 e,c1 (p.ah ka) kb⟩
  ·rintro e' u' N ⟨rfl,rfl,hX⟩
   exact Lv.ret rfl hX
 intro w9 e5;have k9:ai w8 w9:=e5.af;have h5:=c2.ah k9;have C9:r w9 0:=i C8 k9 λd e=>e.elim;obtain⟨G9,q5,l8,q6⟩:=id h5;obtain⟨n5,n9,n6,E9,l9,-,-,-⟩:=l8.row;refine⟨_,ae C9.1 rfl,c,0,rfl,_,ae l9 rfl,_,ae C9.2.2 rfl,PC.ok (h5.on (λq hZ T=>T.sync)) ?_⟩;rintro _ Z ⟨rfl,V,h6⟩;have a0:=m C9 h6;have d1:=c1 (g3.ah k9) h6;have m0:qB b0 L=if(L.sync (cx (aA b0.next))).1≠0 then((L.sync (cx (aA b0.next))).1,b0,((L.sync (cx (aA b0.next))).2.delete (cx (aA b0.next))).2)else
   if(bZ (L.sync (cx (aA b0.next))).2 (b0.bH++[b0.next])).1≠0 then((bZ (L.sync (cx (aA b0.next))).2 (b0.bH++[b0.next])).1,b0,((bZ (L.sync (cx (aA b0.next))).2 (b0.bH++[b0.next])).2.delete (cx (aA b0.next))).2)else
   (0,⟨b0.size,b0.bH++[b0.next],0,IntKind.wrap .i64 (b0.next+1)⟩,(bZ (L.sync (cx (aA b0.next))).2 (b0.bH++[b0.next])).2):=rfl
 rw[m0];generalize q7:L.sync (cx (aA b0.next))=sy at V⊢;obtain⟨q8,c4⟩:=sy;dsimp only at V;refine⟨_,rfl,al.dB (λw=>?_) (λH=>?_)⟩
 ·refine PS.mk a0.2.1 sM λs t q9 m1=>?_
  rw[if_pos w];exact B _ c4 s (V.other t λd e=>⟨e▸.inl (.inr (.inr rfl)),oM⟩) (d1.then (t.mono λd _ e k=>by have:=b2 d k;omega)) ⟨t.get a0.1 oM,m1,t.get a0.2.2 (by have:=b3.size;omega)⟩ w rfl
 rw[if_neg (by simpa using H)];have o8:K.heap.size<Z.heap.size:=ax a0.2.2;refine⟨λu F J g=>∃n,aO aJ 3 n g u F J (b0.bH++[b0.next])/\(∀d,n d->Z.heap.size<=d)/\ai Z g,?_,?_⟩
 ·intro s m2
  have t:ai Z s:=m2.af;have a5:=V.ah t;have b1:r s 0:=i a0 t λd e=>e.elim;obtain⟨m3,h7,W,h8⟩:=id a5;obtain⟨m4,m5,m6,m7,a6,d2,d3,o9⟩:=W.row;have p0:=W.aB c W.self;have a2:∀{wa U wc:World} {S:Nat} {u F J:_} {a3:Nat->Prop},aO aJ 3 a3 U u F J b0.bH->(∀d,a3 d->s.heap.size<=d/\d≠S)->U.heap[S]? =some (.cells #[XH b0.next] 3 (0,0))->ai s U->
    ∀κ ε,(∀X n' c' g,(∃n,aO aJ 3 n g X n' c' (b0.bH++[b0.next])/\(∀d,n d->Z.heap.size<=d)/\ai Z g)->ak (λd=>s.heap.size<=d) U g->κ (.slice X n' c') g)->
    aG XP (Builtin.append_ #[42,42] 42 #[.slice u F J,.slice (ZX S) 1 1]) U κ ε:=by
   intro wa U wc S u F J a3 Q hF hg p κ ε c3;refine kh Q tQ (D:=(·=S)) (Row.lit hg [b0.next] rfl (λd4 k=>by simp at k;subst k;exact e9) (by unfold aK;simp)) (λd j=>⟨j▸ax hg,λe8=>(hF d (Q.self d e8)).2 j⟩) (by unfold aK;simp;omega) (by unfold maxLen;simp;omega) λX c' g F' c7 a4 _ c9=>?_;refine c3 X _ c' g ⟨λd=>aF X=some d,c7.alone,λd e=>?_,?_⟩ (a4.mono λd _ e=>(hF d (Q.self d e)).1)
   ·have:=t.size;have:=p.size
    rcases c9 d e with h|h
    ·have:=(hF d h).1;omega
    ·omega
   ·exact(t.then p).new a4 λd e=>.inr (by have:=(hF d (Q.self d e)).1;have:=t.size;omega)
  have r0:l.heap.size<s.heap.size:=ax b1.1;refine⟨λd=>s.heap.size<=d,oM,_,ae b1.1 rfl,c,0,rfl,oM,_,_,_,ae a6 rfl,oM,_,ae b1.1 rfl,c,0,rfl,oM,_,ae a6 rfl,?_,?_⟩
  ·refine PC.ok (bC d2 λd e=>W.aB d (d3 d e).1) ?_
   rintro _ b4 ⟨r3,r4,r5,r6,rfl,a7,I,h9⟩;refine⟨_,_,_,rfl,I.af,PA.mk λy o m8 e3=>⟨o.af,a2 (wa:=y) (wc:=y) (a7.ah o) (λd e=>⟨h9 d e,by have:=a7.aB d e;omega⟩) e3 (I.then o) _ _ λX n' c' g hJ p=>⟨_,_,_,rfl,p,trivial,hJ⟩⟩⟩
  ·refine PA.mk λb4 I r7 m9=>⟨I.af,PC.ok (bC (d2.ah I) λd e=>by have:=W.aB d (d3 d e).1;have:=I.size;omega) ?_⟩
   rintro _ y ⟨n0,n1,n2,r8,rfl,a8,o,d5⟩;exact⟨_,_,_,rfl,o.af,a2 (wa:=y) (wc:=y) a8 (λd e=>⟨by have:=d5 d e;omega,by have:=d5 d e;omega⟩) (o.get m9 id) (I.then o) _ _ λX n' c' g hJ p=>⟨_,_,_,rfl,p,trivial,hJ⟩⟩
 rintro u F J _ s ⟨n,Q,hE,t⟩;have p1:(b0.bH++[b0.next]).length<=65:=by simp;omega
 have a5:bX b s a c b0 c4 (λd=>q d\/n d):=V.add t λd e=>⟨hE d e,Q.aB d e⟩
 have b1:r s 0:=i a0 t λd e=>e.elim;have d6:Row aJ 8 s n u F (b0.bH++[b0.next]):=Q.row dC (by unfold aK;omega);have f0:∀d4∈b0.bH++[b0.next],aH d4:=LU d6;obtain⟨m3,h7,W,h8⟩:=id a5;obtain⟨m4,m5,m6,m7,a6,-,-,-⟩:=W.row;refine⟨_,ae b1.1 rfl,c,0,rfl,_,ae a6 rfl,PC.ok (a5.on λZ' n4 T=>T.bZ hL.oE d6 f0 λd e=>.inr (n4 d (.inr e))) ?_⟩;rintro _ b4 ⟨rfl,a9,I⟩;have R:ak (dj q) s b4:=I.mono λd _ e z=>e (.inl z);have c5:=m b1 R;have d7:=c1 (d1.ah t) R;have a7:=Q.af I λd e v=>v (.inr e);have b5:= @FN c4 (b0.bH++[b0.next]);have i0:True:=trivial;generalize r9:bZ c4 (b0.bH++[b0.next])=mw at a9 b5 i0⊢;obtain⟨s0,c6⟩:=mw;dsimp only at a9 b5 i0⊢;refine⟨_,rfl,al.dB (λw=>?_) (λH=>?_)⟩
 ·refine PS.mk c5.2.1 sM λy o m8 e3=>?_
  rw[if_pos w];have f1:bX b b4 a c b0 c6 q:=a9.mono λd e=>.inl e;exact B _ c6 y (f1.other o λd e=>⟨e▸.inl (.inr (.inr rfl)),oM⟩) (d7.then (o.mono λd _ e k=>by have:=b2 d k;omega)) ⟨o.get c5.1 oM,e3,o.get c5.2.2 (by have:=b3.size;omega)⟩ w rfl
 rw[if_neg (by simpa using H)];have b5:=b5 H;intro y n8;have o:ai b4 y:=n8.af;have i1:=a9.ah o;have e6:r y 0:=i c5 o λd e=>e.elim;have a8:=a7.ah o;obtain⟨s3,i2,d9,p2⟩:=id i1;obtain⟨n0,n1,n2,s7,i3,-,-,-⟩:=d9.row;have i4:∀d,n d->d≠c:=λd e j=>by have:=hE d e;omega
 have o0:c≠l.heap.size/\c≠C.heap.size/\c≠K.heap.size:=by have:=b3.size;omega
 refine⟨(·=c),_,ae e6.1 rfl,λj=>o0.1 j.symm,_,ae e6.1 rfl,c,0,rfl,PS.mk i3 sM λs8 i5 t0 o1=>⟨i5,c,0,rfl,PS.mk o1 sM λo2 i6 t1 i7=>⟨i6,?_⟩⟩⟩;have e2:=i5.then i6;have i8:r o2 0:=i e6 e2 λd e hc=>by subst e;omega
 refine⟨_,ae i8.1 rfl,c,0,rfl,_,ae i7 rfl,c,0,rfl,PS.mk i7 sM λc8 i9 t2 j0=>?_⟩;have o3:r c8 0:=i i8 i9 λd e hc=>by subst e;omega
 have a1:ak (·=c) y c8:=e2.then i9;refine PS.mk o3.2.1 sM λo4 o5 t3 j1=>Lv.one sM kR (CallsD.mono (iz (R:=λe' N=>e'= .returned (.tuple #[])/\N=o4) ⟨_,ae j1 rfl,al.dB (λhc=>absurd rfl hc) (λ_=>⟨rfl,rfl⟩)⟩) ?_);rintro e' u' _ ⟨rfl,rfl,rfl⟩;refine Lv.ret rfl ⟨_,ae j1 rfl,Ok.mk ?_⟩;have j2:c8.heap[c]? =some (.cells #[ZQ a,XH b0.size,.slice u F J,XH 0,XH (IntKind.wrap .i64 (b0.next+1))] 209 (0,0)):=j0;have j3:bX b c8 a c ⟨b0.size,b0.bH++[b0.next],0,IntKind.wrap .i64 (b0.next+1)⟩ c6 q:=by
  refine⟨λd=>d=c\/n d,?_,⟨⟨u,F,J,n,j2,a8.af a1 λd e j=>i4 d e j,λd e=>⟨.inr e,i4 d e⟩⟩,.inl rfl,?_,b5,?_⟩,?_⟩
  ·have h1:aR b y a c6 (λd=>q d\/(d=c\/n d)):=i2.mono λd e=>by
    rcases e with e|e|e
    ·exact .inl (.inl e)
    ·exact .inr (e▸d9.self)
    ·exact .inl (.inr e)
   obtain⟨a3,f2,f4,f3,f7⟩:=h1;exact⟨a3,f2.af a1 λd e j=>(f3 d e).2 (.inr (.inl j)),f4.new a1 λd e=>.inr oM,f3,λd e=>Qk (f7 d e) a1.size⟩
  ·rintro d (rfl|e)
   ·exact ax j0
   ·exact Qk (a8.aB d e) a1.size
  ·show aH (IntKind.wrap .i64 (b0.next+1))
   exact P_ _
  ·rintro d (rfl|e)
   ·exact⟨j4,λz=>by
     rcases z with(z|z|z)|z
     ·exact e7 z
     ·omega
     ·omega
     ·omega⟩
   ·have:=hE d e
    exact⟨by have:=V.gr.size;omega,λz=>by have:=V.aB d z;omega⟩
 exact g7 j3 ((d7.ah o).then (a1.mono λd _ e k=>e7 (e▸k))) o5 rfl
def gh(no:Int):ByteArray:=cx (aA no)
structure qe where
 no:Int
 out:List aj
 V:ej
 D:an
def jy:List Int->List aj->ej->an->qe
 |[],a,b,D=>⟨0,a,b,D⟩
 |no::c,a,b,D=>
  if(D.read (gh no)).2≠0 then⟨0,a,b,D⟩else
  if(bQ (D.read (gh no)).1).2<(D.read (gh no)).1.length then
   ⟨(D.HB (gh no) (bQ (D.read (gh no)).1).2).1,a++(bQ (D.read (gh no)).1).1,⟨b.size,b.bH++[no],(bQ (D.read (gh no)).1).2,b.next⟩,(D.HB (gh no) (bQ (D.read (gh no)).1).2).2⟩
  else jy c (a++(bQ (D.read (gh no)).1).1) ⟨b.size,b.bH++[no],(bQ (D.read (gh no)).1).2,b.next⟩ D
section
variable {w0 w w1 w':World} {p q:Nat} {D D':an} {V V':ej} {X Y Z G S:Nat->Prop}
def aR.d_(d:aR w0 w p D X)(e:ak Y w w')(f:∀a,Y a->X a/\w0.heap.size<=a)(g:∀a,Z a->(X a\/w.heap.size<=a)/\a<w'.heap.size):aR w0 w' p D Z:=by
 obtain⟨i,h,j,c,m⟩:=d;exact⟨i,h.af e λa b k=>(c a b).2 (f a k).1,j.new e λa b=>.inr (f a b).2,λa b=>⟨(c a b).1,λl=>(g a l).1.elim (c a b).2 λd=>by have:=h.aB a b;omega⟩,λa b=>(g a b).2⟩
def bX.d_(h:bX w0 w p q V D X)(c:ak Y w w')(d:∀a,Y a->X a/\w0.heap.size<=a)(e:∀a,Z a->(X a\/w.heap.size<=a)/\a<w'.heap.size):bX w0 w' p q V D Z:=by
 obtain⟨G,i,f,g⟩:=h;refine⟨G,i.d_ c (λa b=>⟨.inl (d a b).1,(d a b).2⟩) λa b=>?_,f.af c λa b j=>(g a b).2 (d a j).1,λa b=>⟨(g a b).1,λk=>(e a k).1.elim (g a b).2 λh=>by have:=f.aB a b;omega⟩⟩;rcases b with b|b
 ·exact⟨(e a b).1.imp .inl id,(e a b).2⟩
 ·exact⟨.inl (.inr b),Qk (f.aB a b) c.size⟩
def Qa{no B:Int}(h:bX w0 w p q V D X)(O:aH no)(P:V.bH.length+1<=64){Q:Value->World->Prop}(s:∀w',bX w0 w' p q ⟨V.size,V.bH++[no],B,V.next⟩ D X->ak (dj X) w w'->y w'):
  ∃C E,(ZX q:Option Addr)=some ⟨C,E,none⟩/\∃(j:Option Addr) (t u:Nat),w.cell? ⟨C,E+2,none⟩=some (.slice j t u)/\
   PA w (.cells #[XH no] 3) λR=>aG XP (Builtin.append_ #[42,42] 42 #[.slice j t u,.slice (ZX w.heap.size) 1 1]) R (λS T=>
    ∃(e:Option Addr) (F k:Nat),S= .slice e F k/\∃H I,(ZX q:Option Addr)=some ⟨H,I,none⟩/\PS T ⟨H,I+2,none⟩ (.slice e F k) λU=>
     ∃J K,(ZX q:Option Addr)=some ⟨J,K,none⟩/\PS U ⟨J,K+3,none⟩ (XH B) y) Q:=by
 obtain⟨G,W,d,f⟩:=id h;obtain⟨j,t,u,a0,L,g,i⟩:=d.body;have a8:=d.aB q d.self;refine⟨q,0,rfl,_,_,_,ae L rfl,PA.mk λw1 l s1 Y=>?_⟩;refine kh (g.ah l) tQ (D:=(·=w.heap.size)) (Row.lit Y [no] rfl (λa1 m=>by simp at m;subst m;exact O) (by unfold aK;simp)) (λa c=>⟨oM,λZ=>by have:=g.aB a (g.self a Z);omega⟩) (by unfold aK;simp;omega) (by unfold maxLen;simp;omega) λe k w2 F' n o _ v=>?_
 replace n:=n.alone
 have a6:¬aF j=some q:=λc=>(i q (g.self q c)).2 rfl;have g2:=o.get (l.get L id) a6;have z2:=o.size;have x:¬aF e=some q:=λc=>by
  rcases v q c with h|h
  ·exact(i q h).2 rfl
  ·omega
 refine⟨_,_,_,rfl,q,0,rfl,PS.mk g2 sM λw3 z s3 g3=>⟨q,0,rfl,PS.mk g3 sM λr A s4 g4=>s r ?_ ?_⟩⟩
 ·have a7:ak (λa=>aF j=some a\/a=q) w1 r:=((o.mono λa _ b=>.inl b).then (z.mono λa _ b=>.inr b)).then (A.mono λa _ b=>.inr b)
  have kG:ak G w r:=(ai.af l).then (a7.mono λa _ b=>b.elim (λh=>(i a (g.self a h)).1) λh=>h▸d.self);have M:∀a,aF e=some a->a<r.heap.size:=λa b=>by have:=n.aB a b;omega
  refine⟨λa=>a=q\/aF e=some a,W.d_ kG (λa b=>⟨.inr b,(f a b).1⟩) λa b=>?_,⟨⟨e,_,k,(λa=>aF e=some a),g4,?_,λa b=>⟨.inr b,λc=>x (c▸b)⟩⟩,.inl rfl,?_,by simpa using P,d.AH⟩,?_⟩
  ·rcases b with b|rfl|b
   ·exact⟨.inl (.inl b),by have:=h.aB a b;omega⟩
   ·exact⟨.inl (.inr d.self),oM⟩
   ·refine⟨?_,M a b⟩
    rcases v a b with h|h
    ·exact .inl (.inr (i a h).1)
    ·exact .inr oM
  ·exact(n.af z λa b c=>x (c▸b)).af A λa b c=>x (c▸b)
  ·rintro a (rfl|b)
   ·omega
   ·exact M a b
  ·rintro a (rfl|b)
   ·exact f _ d.self
   ·rcases v a b with N|N
    ·exact f a (i a N).1
    ·exact⟨by have:=h.gr.size;omega,λm=>by have:=h.aB a m;omega⟩
 ·refine(((ai.af l).then (o.mono λa _ b=>?_)).then (z.mono λa _ b=>?_)).then (A.mono λa _ b=>?_)
  ·exact(f a (i a (g.self a b)).1).2
  ·exact(f a (b▸d.self)).2
  ·exact(f a (b▸d.self)).2
def Ub{j a:Nat}(b:j<=64)(c:a<=j*262144):a<=16777216:=oM
def Sj(w0 w:World)(p q:Nat)(X:Nat->Prop)(a:qe)(f:Value)(w':World):Prop:=
 ∃c d e G,f= .tuple #[.slice c d e,XH a.no]/\aO uH 63 G w' c d e a.out/\bX w0 w' p q a.V a.D (λb=>X b\/G b)/\ak (dj X) w w'/\(∀b,G b->w.heap.size<=b)/\a.out.length<=16777216
def Qb(C:Laid w0)(h:bX w0 w p q V D X)(P:Row aJ 8 w f d a t)(c4:∀b,f b->X b)(f5:V.bH.length+t.length<=64):
  Calls XP 110 #[ZQ q,.agg #[.slice d a c]] w (Ok (Sj w0 w p q X (jy t [] V D))):=by
 have l:=P.len;have Q:=h.aB;have g0:=h.gr.size;refine tr (PA.mk λw1 R s1 g1=>⟨_,_,_,ae g1 rfl,λS T U W Y w'=>∃(i:Nat) (j:ej) (g:List aj) (G:Nat->Prop),Y=i/\i<=t.length/\S=t.length-i/\jy t [] V D=jy (t.drop i) g j D/\j.bH.length=V.bH.length+i/\g.length<=i*262144/\
  aO uH 63 G w' T U W g/\bX w0 w' p q j D (λb=>X b\/G b)/\ak (dj X) w w'/\∀b,G b->w.heap.size<=b,
  ⟨_,0,V,[],λ_=>False,rfl,Qj _,rfl,rfl,rfl,Qj _,aO.nil w1,(h.ah R).mono λb e=>e.elim id λh=>h.elim,ai.af R,λ_ h=>h.elim⟩,?_⟩)
 rintro S T U W Y _ Z ⟨i,j,g,G,rfl,hj,rfl,a4,g2,a0,m,hN,r,u⟩;rw[a4];refine al.dec (λg3=>?_) (λg4=>?_)
 rotate_left
 ·obtain rfl:i=t.length:=oM
  rw[List.drop_of_length_le (Q4 _)];exact Ok.mk ⟨_,_,_,G,rfl,m,hN,r,u,Ub oM a0⟩
 obtain⟨b,E,no,rfl,n,k,F⟩:=(P.af r λb e l=>l (c4 b e)).l_ (i:=i) oM;have a2:t.drop i=no::t.drop (i+1):=by
  obtain⟨c8,rfl⟩:=Qv.1 n;exact X4 c8
 rw[a2]at a4⊢;refine⟨b,E,rfl,oM,oM,no,F,λw3 d3=>?_⟩;have k3:ai Z w3:=d3.af;have H:=hN.ah k3;obtain⟨G3,d0,d1,g5⟩:=id H;obtain⟨a3,n3,c3,E3,d2,-,-,-⟩:=d1.row;refine⟨λ_=>False,q,0,rfl,id,_,ae d2 rfl,PC.ok (iY (C.ah H.gr) k) ?_⟩;rintro _ w4 ⟨rfl,z⟩;have d4:=H.ah z;refine⟨_,rfl,z,PC.ok ((d0.ah z).read (k:=gh no)) ?_⟩;rintro _ w5 ⟨a5,n5,c5,F5,rfl,d5,g6,-,I⟩;have v:=d4.ah I;have x:ai Z w5:=(k3.then z).then I;have g7:=d5.len dC;have g8:=HI v.ok (gh no);refine⟨_,_,_,_,rfl,I,al.dB (λd6=>?_) (λhe=>?_)⟩
 ·rw[show jy (no::t.drop (i+1)) g j D=⟨0,g,j,D⟩ by unfold jy;rw[if_pos d6]]
  exact Ok.mk ⟨_,_,_,G,rfl,m.ah x,v,r.ah x,u,Ub oM a0⟩
 obtain⟨G5,d7,d8,g9⟩:=id v;obtain⟨h0,h2,h3,E5,e0,-,-,-⟩:=d8.row;obtain⟨a7,e1,-,-,-⟩:=id d7;refine⟨q,0,rfl,_,ae e0 rfl,PC.ok (Qc (C.ah v.gr) e1 k) ?_⟩;rintro _ w6 ⟨a6,n6,c6,F6,rfl,s,J,K,a8⟩;have e2:bX w0 w6 p q j D (λb=>(X b\/G b)\/F6 b):=v.add J λb e=>⟨K b e,s.aB b e⟩
 have b0:=x.then J;have e3:=m.aB;generalize e4:bQ (D.read (cx (aA no))).1=sl at s a8;obtain⟨evs,o⟩:=sl;dsimp only at s a8;have a1:bQ (D.read (gh no)).1=(evs,o):=e4;have b1:Row uH 96 w6 F6 a6 n6 evs:=s.row dC (by unfold aK;omega);refine⟨_,_,_,_,rfl,yX (m.ah b0) IV b1 (λL=>s.MO L) (λb e=>⟨s.aB b e,λF=>by have:=e3 b (m.self b F);have:=K b e;have:=x.size;omega⟩) (by unfold aK;omega) (by unfold maxLen;omega) λa9 c7 w7 A b2 M b3 _=>?_⟩;have h4:=x.size;have z6:=J.size;have b4:=b2.aB;have e5:bX w0 w7 p q j D (λb=>X b\/A b):=e2.d_ M (λb e=>⟨.inl (.inr (m.self b e)),by have:=u b (m.self b e);omega⟩) λb e=>by
  rcases e with e|e
  ·exact⟨.inl (.inl (.inl e)),by have:=Q b e;have:=r.size;have:=M.size;omega⟩
  ·refine⟨?_,b4 b e⟩
   rcases b3 b e with h|h|h
   ·exact .inl (.inl (.inr h))
   ·exact .inl (.inr h)
   ·exact .inr h
 have e6:ak (dj X) w w7:=(r.ah b0).then (M.mono λb _ e n=>by have:=u b (m.self b e);have:=Q b n;omega);have b5:∀b,A b->w.heap.size<=b:=λb e=>by
  have:=r.size;rcases b3 b e with h|h|h
  ·exact u b h
  ·have:=K b h;omega
  ·omega
 refine⟨_,_,_,rfl,Qa e5 k oM λw8 b6 k8=>?_⟩;have b7:ak (dj X) w w8:=e6.then (k8.mono λb _ e n=>e (.inl n));have b8:=b2.af k8 λb e l=>l (.inr e);refine al.dec (λf6=>?_) (λf8=>?_)
 ·rw[show jy (no::t.drop (i+1)) g j D=⟨(D.HB (gh no) o).1,g++evs,⟨j.size,j.bH++[no],o,j.next⟩,(D.HB (gh no) o).2⟩ by
   unfold jy;rw[a1,if_neg (by simpa using he),if_pos (by show o<_;omega)]]
  intro w9 d9;have N:ai w8 w9:=d9.af;have b9:=b6.ah N;obtain⟨G9,e7,O,e8⟩:=id b9;obtain⟨c0,n9,c9,E9,e9,-,-,-⟩:=O.row;refine⟨λb=>b≠q,q,0,rfl,λhs=>hs rfl,_,ae e9 rfl,PC.ok (iY (C.ah b9.gr) k) ?_⟩;rintro _ f2 ⟨rfl,y⟩;refine⟨_,rfl,y.af,PC.ok ((e7.ah y).HB (k:=gh no)) ?_⟩;rintro _ f3 ⟨rfl,c1,B⟩;have c2:ak (dj X) f2 f3:=B.mono λb _ e n=>e (.inl (.inl n));refine⟨_,rfl,B.mono λb _ e L=>e (.inr (L▸O.self)),Ok.mk ⟨_,_,_,A,rfl,?_,⟨G9,c1,(O.ah y).af B λb e l=>l (.inr e),e8⟩,((b7.ah N).ah y).then c2,b5,?_⟩⟩
  ·exact((b8.ah N).ah y).af B λb e l=>l (.inl (.inr e))
  ·exact Ub (j:=i+1) oM (by simp;omega)
 ·refine⟨_,?_,i+1,⟨j.size,j.bH++[no],o,j.next⟩,g++evs,A,aq oM,oM,rfl,?_,by simp;omega,by simp;omega,b8,b6,b7,b5⟩
  ·omega
  ·conv=>lhs;unfold jy
   rw[a1,if_neg (by simpa using he),if_neg (by show¬o<_;omega)]
end
def u_(D:an)(a:Int):ej:=⟨a,[],0,Bd D⟩
def told(D:an):List Int:=(eQ D).getD []
def nZ(b:Nat)(a:qe):qe:=
 if a.no≠0 then a else
 if a.V.bH=[]then⟨(aZ a.V a.D).1,a.out,(aZ a.V a.D).2.1,(aZ a.V a.D).2.2⟩else
 if a.V.bH.length<b then⟨(bZ a.D a.V.bH).1,a.out,a.V,(bZ a.D a.V.bH).2⟩else a
def ep(D:an)(a:Int):qe:=nZ (told D).length (jy (told D) [] (u_ D a) D)
def Sk(g d:World)(h:Nat)(e:Nat->Prop)(a:qe)(i:Value)(b:World):Prop:=
 (a.no≠0/\i= .tuple #[.pointer none,.slice none 0 0,XH a.no]/\aR g b h a.D e/\ak (dj e) d b)\/
 (a.no=0/\∃f j k l G,i= .tuple #[ZQ f,.slice j k l,XH 0]/\aO uH 63 G b j k l a.out/\bX g b h f a.V a.D (λc=>e c\/G c)/\ak (dj e) d b/\(∀c,G c->d.heap.size<=c)/\d.heap.size<=f/\a.out.length<=16777216)
def Hv{D:an}{size:Int}(t:Laid b)(j:aR b l a D f):
  Calls XP 73 #[ZQ a,XH size] l (Ok (Sk b l a f (ep D size))):=by
 have S:∀c,f c->c<l.heap.size:=by obtain⟨a0,h1,h2,h3,h4⟩:=j;exact h4
 have d1:=j.gr.size;obtain⟨a0,hF,-,-,-⟩:=id j;refine Cj (PC.ok (HQ (t.ah j.gr) hF) ?_);rintro _ g ⟨rfl,H⟩;have T:=j.ah H;have d2:=DK D.list;refine⟨_,rfl,PA.mk λw2 U s2 g2=>PC.ok ((T.ah U).js t.oE) ?_⟩;rintro _ u ⟨y,z,V,A,rfl,W,X,-,I⟩;have z1:=H.size;have z3:=I.size
 change aO aJ 3 A u y z V (told D)at W
 have d3:(told D).length<=64:=Dg;have b4:ai g u:=U.then I;refine⟨_,_,_,_,rfl,PA.mk λw4 k4 s4 g4=>PS.mk g4 sM λm k5 s5 Y=>⟨_,_,_,ae Y rfl,?_⟩⟩;have b5:m.heap[u.heap.size]? =some (.cells #[.slice y z V] 211 (0,0)):=Y;have J:ai u m:=k4.new k5 λc d=>.inr oM;have Z:ai g m:=b4.then J;have a8:ai l m:=H.then Z;have b6:=J.get (I.get g2 id) id;have a9:=W.ah J
 let K:Nat->Prop:=λc=>f c\/(A c\/c=u.heap.size)
 have b7:bX b m a g.heap.size (u_ D size) D K:=by
  refine⟨(·=g.heap.size),T.d_ Z (Y:=λ_=>False) (λc d=>d.elim) λc d=>?_,⟨⟨none,0,0,λ_=>False,b6,aO.nil m,λ_ j=>j.elim⟩,rfl,λc d=>oM,Qj _,?_⟩,λc d=>⟨oM,λE=>?_⟩⟩
  ·rcases d with(d|d|d)|d
   ·exact⟨.inl d,by have:=S c d;omega⟩
   ·exact⟨.inr (by have:=X c d;omega),a9.aB c d⟩
   ·exact⟨.inr oM,oM⟩
   ·exact⟨.inr oM,oM⟩
  ·show aH (xH D.list);unfold aH;omega
  ·subst d
   rcases E with E|E|E
   ·have:=S _ E;omega
   ·have:=X _ E;omega
   ·omega
 have L:Row aJ 8 m A y z (told D):=a9.row dC (by unfold aK;omega);refine PC.ok (Qb t b7 L (λc d=>.inr (.inl d)) (by show 0+_<=_;omega)) ?_;rintro _ M ⟨a6,n6,c6,n,rfl,B,v,N,b8,b0⟩;have z5:=a8.size;have hq:l.heap.size<=g.heap.size:=z1;have O:ak (dj f) l M:=(ai.af a8).then (N.mono λc _ d E=>d (.inl E));have g6:=N.get b5 λk=>k (.inr (.inr rfl));have b9:Row aJ 8 M A y z (told D):=L.af N λc d k=>k (.inr (.inl d));have d4:=L.len;show _;unfold ep;generalize jy (told D) [] (u_ D size) D=h at B v b0;have b1:∀c,n c->l.heap.size<=c:=λc d=>by have:=b8 c d;omega
 refine⟨_,_,_,_,rfl,λno o=>∃p q,nZ (told D).length h=⟨no,h.out,p,q⟩/\aO uH 63 n o a6 n6 c6 h.out/\bX b o a g.heap.size p q (λc=>f c\/n c)/\ak (dj f) l o,?_,?_⟩
 ·have e:∀{o p q},bX b o a g.heap.size p q (λc=>K c\/n c)->bX b o a g.heap.size p q (λc=>f c\/n c):=λj=>j.mono λc d=>d.imp .inl id
  refine al.dB (λr=>⟨h.V,h.D,by unfold nZ;rw[if_pos r],B,e v,O⟩) (λw=>?_);obtain⟨GL,c1,b2,c2⟩:=id v;obtain⟨aL,nL,cL,EL,P,b3,c4,c5⟩:=b2.row;refine⟨_,_,rfl,_,_,_,ae P rfl,al.dA (λhz=>?_) (λc7=>?_)⟩
  ·have Q:h.V.bH=[]:=QW oM
   refine PC.ok (DN t v) ?_;rintro _ C ⟨rfl,s,i⟩;exact⟨_,rfl,_,_,by unfold nZ;rw[if_neg (by simpa using w),if_pos Q],B.af i λc d k=>k (.inr d),e s,O.then (i.mono λc _ d E=>d (.inl (.inl E)))⟩
  ·have r:¬h.V.bH=[]:=λa1=>c7 (by rw[c5,a1];rfl)
   refine⟨_,_,rfl,_,_,_,ae P rfl,_,_,_,ae g6 rfl,λC d7=>?_⟩;have i:ai M C:=d7.af;have s:=v.ah i;have F:=B.ah i;have x:ak (dj f) l C:=O.ah i;refine al.dec (λd5=>?_) (λd6=>⟨_,_,by unfold nZ;rw[if_neg (by simpa using w),if_neg r,if_neg oM],F,e s,x⟩);have c8:=i.get P id;refine⟨_,_,rfl,_,_,_,ae c8 rfl,PC.ok ((c1.ah i).bZ t.oE (b3.ah i) (LU b3) λc d=>.inr (.inr (c4 c d).1)) ?_⟩;rintro _ w8 ⟨rfl,c9,R⟩;have d0:bX b w8 a g.heap.size h.V (bZ h.D h.V.bH).2 (λc=>K c\/n c):=⟨GL,c9,(b2.ah i).af R λc d k=>k (.inr d),c2⟩
   exact⟨_,rfl,_,_,by unfold nZ;rw[if_neg (by simpa using w),if_neg r,if_pos oM],F.af R λc d k=>k (.inl (.inr d)),e d0,x.then (R.mono λc _ d E=>d (.inl (.inl (.inl E))))⟩
 ·rintro no _ C ⟨p,q,Q,F,s,x⟩
  rw[Q];refine al.dB (λr=>Ok.mk (.inl ⟨r,rfl,s.uM.mono λc d=>.inl d,x⟩)) (λw=>Ok.mk (.inr ⟨w,g.heap.size,a6,n6,c6,n,by rfl,F,s,x,b1,hq,b0⟩))
def fQ(a:aj):Bool:=decide (64<a.aP.length)
def bl(b:ej)(D:an)(c:List aj):Int×ej×an:=
 if c.any fQ then(3,b,D)else if c=[]then(0,b,D)else
 let a:=if b.size<=b.bytes then aZ b D else(0,b,D)
 if a.1≠0 then a else
 let d:=a.2.2.append a.2.1.last (dV c)
 if d.1≠0 then(d.1,a.2.1,d.2)else(0,⟨a.2.1.size,a.2.1.bH,IntKind.wrap .i64 (a.2.1.bytes+((dV c).length:Nat)),a.2.1.next⟩,d.2)
def ss{D:an}(a:(aZ b0 D).1=0):(aZ b0 D).2.1.bH≠[]:=by
 have e:∀b:an,(qB b0 b).1=0->(qB b0 b).2.1.bH≠[]:=by
  intro b;unfold qB;dsimp only;split
  ·rename_i c;intro a;exact absurd a c
  ·split
   ·rename_i c;intro a;exact absurd a c
   ·intro _;simp
 have d:∀b:an,(lW b0 b).1=0->(lW b0 b).2.1.bH≠[]:=by
  intro b;unfold lW;dsimp only;split
  ·rename_i c;intro a;exact absurd a c
  ·exact e _
 revert a
 unfold aZ;dsimp only;split
 ·exact d D
 ·split
  ·rename_i c;intro a;exact absurd a c
  ·exact d _
def Lz(a:o.Ok)(b:o.aP.length<=64):(wJ o).length<=675:=by
 have:=LS a b;have c:=qb a b;unfold wJ at*;rw[kp];omega
def nK(a:List aj)(b:aj):dV (a++[b])=dV a++wJ b:=by simp[dV]
def KB{D:an}{w b6:Nat}(V:Laid b)(v:bX b l a c b0 D f)(d1:b0.bH≠[])(hr:Row jj 96 l a3 d w K)(d4:∀e,a3 e->e<l.heap.size)(hl:K.length<=20000000):
  Calls XP 134 #[ZQ c,.slice d w b6] l (Ok (DM b l a c f (bl b0 D K))):=by
 have A:=hr.len;have e9:=v.aB;refine ru ⟨λa6 L M W a7 x=>∃(j:Nat) (y:Nat->Prop),a7=j/\j<=w/\a6=w-j/\(∀h∈K.take j,h.Ok/\h.aP.length<=64)/\(dV (K.take j)).length<=675*j/\aO fv 5 y x L M W (dV (K.take j))/\ai l x/\∀e,y e->l.heap.size<=e,
  ⟨_,0,λ_=>False,rfl,Qj _,rfl,sM,by simp[dV],aO.nil l,ak.refl _,λ_ v=>v.elim⟩,?_⟩
 rintro a6 L M W a7 _ X ⟨j,y,rfl,hj,rfl,Z,d5,q,n,hF⟩;have b3:=q.len dC;refine al.dec (λd6=>?_) (λd7=>?_)
 ·obtain⟨e,a0,h,es,rfl,_,_,r,k,c0,n1,c1,rfl,hd,N⟩:=(hr.ah n).yV (i:=j) oM
  have o:=λi (hi:i<10)=>k i hi;refine⟨e,a0,rfl,oM,oM,_,_,_,_,_,_,_,_,_,_,_,_,o 0 dC,o 1 dC,o 2 dC,o 3 dC,o 4 dC,o 5 dC,o 6 dC,o 7 dC,o 8 dC,o 9 dC,PA.mk λB C s2 g2=>?_⟩;refine storeAll (aC h c0 n1 c1) g2 rfl λE s s3 p=>?_;have z:ai X E:=C.new s λe g=>.inr oM;refine⟨_,_,_,_,_,_,_,_,_,_,_,_,ae p rfl,ae p rfl,ae p rfl,ae p rfl,ae p rfl,ae p rfl,ae p rfl,ae p rfl,ae p rfl,ae p rfl,?_⟩;refine PC.ok (Dh (V.ah ((v.gr.then n).then z)) (hd.ah z) N λe g=>by have:=d4 e g;have:=(n.then z).size;omega) ?_;rintro _ w4 ⟨c2,n4,f0,F4,rfl,t,u,b4⟩
  by_cases O:h.aP.length<=64
  ·have a8:=qb N O
   rw[a8]at t⊢;have f1:=Lz N O;refine⟨_,_,_,_,rfl,al.dB (λk=>absurd rfl k) (λ_=>?_)⟩;have a9:=z.then u;have c3:Row fv 1 w4 F4 c2 n4 (wJ h):=t.row (bytes:=1) dC (by unfold aK;dsimp only;omega);have f2:=a9.size;have f3:=z.size;refine yX (q.ah a9) sK c3 (λh=>t.MO h) (λe g=>⟨t.aB e g,λk=>by have:=q.aB e (q.self e k);have:=b4 e g;omega⟩) (by unfold aK;omega) (by unfold maxLen;omega) λb5 c5 w5 F5 a1 d8 d9 _=>?_;have b1:K.take (j+1)=K.take j++[h]:=by rw[Qw,r];rfl
   refine⟨_,_,_,rfl,w-(j+1),oM,j+1,F5,aq oM,oM,rfl,?_,?_,?_,(n.then a9).new d8 λe g=>.inr (by have:=hF e (q.self e g);omega),?_⟩
   ·rw[b1]
    intro c4 a2;rcases Q6.1 a2 with Y|Y
    ·exact Z c4 Y
    ·simp at Y;subst Y;exact⟨N,O⟩
   ·rw[b1,nK];simp;omega
   ·rw[b1,nK];exact a1
   ·intro e g
    have:=n.size;rcases d9 e g with Y|Y|Y
    ·exact hF e Y
    ·have:=b4 e Y;omega
    ·omega
  ·have a8:=xq O
   rw[a8]at t⊢;refine⟨_,_,_,_,rfl,al.dB (λ_=>?_) (λk=>absurd k dC)⟩;have c7:K.any fQ=true:=List.any_eq_true.2 ⟨h,QZ r,by unfold fQ;simp;omega⟩;refine Ok.mk ?_;rw[show bl b0 D K=(3,b0,D) by unfold bl;rw[if_pos c7]];have b7:=(n.then z).then u;exact⟨rfl,v.ah b7,ai.af b7⟩
 ·obtain rfl:j=w:=oM
  rw[Qz oM]at Z d5 q b3;have b8:K.any fQ=false:=by
   rw[<-Bool.not_eq_true];intro k;obtain⟨h,he,h2⟩:=List.any_eq_true.1 k;have:=(Z h he).2;unfold fQ at h2;simp at h2;omega
  refine al.dA (λhz=>?_) (λe0=>?_)
  ·have he:K=[]:=QW oM
   refine Ok.mk ?_;rw[show bl b0 D K=(0,b0,D) by unfold bl;rw[if_neg (by simp[b8]),if_pos he]];exact⟨rfl,v.ah n,ai.af n⟩
  have e2:K≠[]:=λh=>e0 (by rw[A,h];rfl)
  let F:Nat->Prop:=λe=>f e\/y e
  have b9:bX b X a c b0 D F:=v.add n λe g=>⟨hF e g,q.aB e g⟩
  have d2:bl b0 D K=if(if b0.size<=b0.bytes then aZ b0 D else(0,b0,D)).1≠0 then(if b0.size<=b0.bytes then aZ b0 D else(0,b0,D))else
    if((if b0.size<=b0.bytes then aZ b0 D else(0,b0,D)).2.2.append (if b0.size<=b0.bytes then aZ b0 D else(0,b0,D)).2.1.last (dV K)).1≠0 then(((if b0.size<=b0.bytes then aZ b0 D else(0,b0,D)).2.2.append (if b0.size<=b0.bytes then aZ b0 D else(0,b0,D)).2.1.last (dV K)).1,(if b0.size<=b0.bytes then aZ b0 D else(0,b0,D)).2.1,((if b0.size<=b0.bytes then aZ b0 D else(0,b0,D)).2.2.append (if b0.size<=b0.bytes then aZ b0 D else(0,b0,D)).2.1.last (dV K)).2)
    else(0,⟨(if b0.size<=b0.bytes then aZ b0 D else(0,b0,D)).2.1.size,(if b0.size<=b0.bytes then aZ b0 D else(0,b0,D)).2.1.bH,IntKind.wrap .i64 ((if b0.size<=b0.bytes then aZ b0 D else(0,b0,D)).2.1.bytes+((dV K).length:Nat)),(if b0.size<=b0.bytes then aZ b0 D else(0,b0,D)).2.1.next⟩,((if b0.size<=b0.bytes then aZ b0 D else(0,b0,D)).2.2.append (if b0.size<=b0.bytes then aZ b0 D else(0,b0,D)).2.1.last (dV K)).2):=by
   unfold bl;rw[if_neg (by simp[b8]),if_neg e2]
  obtain⟨GL,f5,e3,f6⟩:=id b9;obtain⟨aL,nL,cL,EL,gL,f8,g0,g1⟩:=e3.row;rw[d2];refine⟨λx=>∃H P,(if b0.size<=b0.bytes then aZ b0 D else(0,b0,D))=(0,H,P)/\H.bH≠[]/\bX b x a c H P F/\ak (dj f) l x/\aO fv 5 y x L M W (dV K),?_,?_⟩
  ·refine⟨c,0,rfl,_,ae gL rfl,c,0,rfl,_,ae gL rfl,λB d3=>?_⟩
   have C:ai X B:=d3.af;have Q:=b9.ah C;have R:=q.ah C;have S:ak (dj f) l B:=ai.af (n.then C);refine al.dec (λd7=>?_) (λd6=>⟨b0,D,by rw[if_neg oM],d1,Q,S,R⟩);refine PC.ok (DN V Q) ?_;rintro _ E ⟨rfl,I,s⟩;have c6:ak (dj f) l E:=S.then (s.mono λe _ g r=>g (.inl r));have a4:(if b0.size<=b0.bytes then aZ b0 D else(0,b0,D))=aZ b0 D:=if_pos oM;rw[a4];refine⟨_,rfl,al.dB (λa5=>?_) (λT=>⟨_,_,by rw[<-T],ss T,I,c6,R.af s λe g A=>A (.inr g)⟩)⟩;rw[if_pos a5];exact Ok.mk ⟨rfl,I.mono λe g=>.inl g,c6⟩
  ·rintro _ B ⟨H,P,a4,e1,Q,S,R⟩ E e4
   rw[a4];have s:ai B E:=e4.af;have I:=Q.ah s;have e5:=R.ah s;obtain⟨G3,e6,U,J⟩:=id I;obtain⟨f4,n3,f7,E3,e7,-,-,-⟩:=U.row;refine⟨λe=>e≠c,c,0,rfl,λhs=>hs rfl,_,ae e7 rfl,PC.ok (HR (V.ah I.gr) U e1) ?_⟩;rintro _ w4 ⟨rfl,u⟩;have t:=e5.ah u;have e8:Row fv 1 w4 y L M (dV K):=t.row (bytes:=1) dC (by unfold aK;omega);refine⟨_,rfl,u.af,PC.ok ((e6.ah u).append e8 (λh=>t.MO h) λe g=>.inr (.inl (.inr g))) ?_⟩;rintro _ w5 ⟨rfl,b2,k5⟩;have m:=(U.ah u).af k5 λe g A=>A (.inr g);have c8:ak (dj f) l w5:=((S.ah s).ah u).then (k5.mono λe _ g r=>g (.inl (.inl r)));refine⟨_,rfl,k5.mono λe _ g h=>g (.inr (h▸U.self)),?_⟩;rw[if_neg (λk:((0,H,P):Int×ej×an).1≠0=>k rfl)];refine al.dB (λa5=>?_) (λT=>?_)
   ·rw[if_pos a5]
    exact Ok.mk ⟨rfl,bX.mono (X:=F) ⟨G3,b2,m,J⟩ λe g=>.inl g,c8⟩
   ·rw[if_neg (by simpa using T)]
    obtain⟨b5,n5,c5,E5,c9,a1,d0⟩:=m.body;refine⟨c,0,rfl,_,ae c9 rfl,c,0,rfl,PS.mk c9 sM λw6 k6 s6 g6=>Ok.mk ⟨rfl,?_,c8.then (k6.mono λe _ g r=>(J e (g▸m.self)).2 (.inl r))⟩⟩;rw[b3]at g6;refine bX.mono (X:=F) ⟨G3,b2.d_ k6 (λe g=>⟨.inr (g▸m.self),(J e (g▸m.self)).1⟩) (λe g=>⟨.inl g,by have:=(g.elim (bX.aB (X:=F) ⟨G3,b2,m,J⟩ e) (m.aB e):e<w5.heap.size);omega⟩),⟨⟨b5,n5,c5,E5,g6,a1.af k6 λe g h=>(d0 e g).2 h,d0⟩,m.self,λe g=>by have:=m.aB e g;omega,m.many,m.AH⟩,J⟩ λe g=>.inl g
end Go.Proofs.YtjgjkeponbeekaaGreatDoor

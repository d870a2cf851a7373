import Derived.Test.YthnilpgpacdmnaaGreatDoorK27
namespace Go.Proofs.YthnilpgpacdmnaaGreatDoor
open Go.au
set_option linter.unusedVariables false
set_option maxRecDepth 20000
structure iS where
 cQ:Int
 asked:List (Int×Int)
 heard:List (Int×List Int)
 deriving DecidableEq
def Vq (a:Value) (b:Int):Prop:=a= .int .i64 b
def MO (f:World) (g:Nat->Prop) (h:Value) (c:List Int):Prop:=
 ∃a b d,h= .slice a b d/\Own f 3 1 a b d (ints c)/\b*8<=aI/\(∀i∈c,aK i)/\∀e,aF a=some e->g e
theorem MO.af {S d F':Nat->Prop} {c g:World} {h:Value} {i:List Int} (e:MO c d h i) (n:ak S c g) (o:∀a,d a->a<c.heap.size->(∃j,c.heap[a]? =some j/\∀k l,j≠.map k l)->¬S a) (p:∀a,d a->F' a):MO g F' h i:=by
 obtain⟨q,r,s,rfl,f,b,t,m⟩:=e;refine⟨q,r,s,rfl,f.af n (cV.2 λa b=>?_),b,t,λa b=>p a (m a b)⟩;refine o a (m a b) (f.lt b) ?_;rcases f.cases with⟨rfl,_⟩|⟨w,u,rfl,v,_⟩
 ·cases b
 ·simp only [aF,Q1]at b
  subst b;exact⟨_,v,λk l e=>by cases e⟩
structure dA (w:World) (p:Nat) (F:Nat->Prop) (T:iS):Prop where
 body:∃ra rh la lh,w.heap[p]? =some (.cells #[.int .i64 T.cQ,.map (some ra),.map (some rh)] 132 (0,0))/\bG w ra (Value.int .i64) la/\bG w rh (Value.int .i64) lh/\
  eN Vq la T.asked/\eN (MO w F) lh T.heard/\F ra/\F rh/\ra≠rh
 self:F p
 aC:∀b,F b->b<w.heap.size
 HW:Tidy T.asked
 rq:∀q∈T.asked,aK q.1
variable{U r:Array Value}{e n:Int}{h9:List (Int×List Int)}{g7:List (Int×Value)}{b2 u:List Int}{H:List aj}{c8:List cN}{C a c i l:Nat}{f:Nat->Prop}{d p:Option Addr}{h:Program}{j:Type}{g q:TypeId}{v:Value}{o s:Value->World->Prop}{b k:World}{B:aw}{b0:dU}{b7:iS}
theorem dA.af {S g:Nat->Prop} (c:dA b a g b7) (e:ak S b k) (f:∀d,g d->¬S d):dA k a g b7:=by
 obtain⟨l,m,n,o,p,q,r,s,t,i,j,u⟩:=c.body;exact⟨⟨l,m,n,o,e.get p (f _ c.self),q.af e (f _ i),r.af e (f _ j),s,t.mono λw x v=>v.af e (λd h _ _=>f d h) (λ_ c=>c),i,j,u⟩,
  c.self,λd h=>Qk (c.aC d h) e.size,c.HW,c.rq⟩
theorem dA.ah (c:dA b a f b7) (d:ai b k):dA k a f b7:=c.af d λ_ _ c=>c
theorem kI:gQ Tryz.prog 3 (Value.int .i64):=Tk Tryz.underlying3
theorem mA:lJ Tryz.prog 129 3 3 (.int .i64 0):=⟨kR,kR⟩
theorem mH:lJ Tryz.prog 130 3 39 (.slice none 0 0):=⟨kR,kR⟩
theorem HA :Calls Tryz.prog 26 #[.int .i64 e] b
  (Ok λj f=>∃g h,j= .pointer (some ⟨g,0,none⟩)/\dA f g h ⟨e,[],[]⟩/\ai b f/\∀a,h a->b.heap.size<=a):=by
 refine BF (PA.mk λk l r m=>PA.mk λn i s o=>PA.mk λp c t q=>Ok.mk ⟨n.heap.size,λa=>b.heap.size<=a/\a<p.heap.size,rfl,
  ⟨⟨b.heap.size,k.heap.size,[],[],q,bG.new (c.get (i.get m id) id),bG.new (c.get o id),trivial,trivial,oM,oM,oM⟩,oM,λa d=>d.2,by simp [Tidy],sM⟩,
  (l.ah i).ah c,λa d=>d.1⟩)
theorem HG (c:dA b a f b7) (u:aK e):
  Calls Tryz.prog 60 #[.pointer (some ⟨a,0,none⟩),.int .i64 e,.int .i64 n] b
   (Ok λq k=>q= .tuple #[]/\dA k a f {b7 with asked:=aH b7.asked e n}/\ak f b k):=by
 obtain⟨d,v,L,w,l,r,x,y,z,s,A,t⟩:=c.body;have B:∃g h,b.heap[d]? =some (.map g h):=by obtain⟨g,h,c,_⟩:=r.at';exact⟨g,h,c⟩
 obtain⟨g,h,m⟩:=B;have C:a≠d:=by rintro rfl;rw [l]at m;cases m
 refine nX ⟨a,0,rfl,some d,ae l rfl,ij mA kI r λk E i F=>Ok.mk ⟨rfl,⟨⟨d,v,_,w,i.get l C,E,x.af i (Ne.symm t),eN.aH (R:=Vq) rfl y,?_,s,A,t⟩,c.self,?_,c.HW.aH _ _,?_⟩,i.mono ?_⟩⟩
 ·refine z.mono λq M H=>H.af i (λo _ _ j=>?_) (λ_ c=>c)
  rintro rfl;obtain⟨N,j,I⟩:=j;rw [m]at j;cases j;exact I _ _ rfl
 ·intro o J;rw [F];exact c.aC o J
 ·intro K p
  rcases eG p with rfl|p
  ·exact u
  ·exact c.rq K p
 ·rintro o _ rfl;exact s
def iS.all (b:iS) (a:Int) (c:List Int):List Int:=gW ((aD b.heard a).getD []) c
def Fz (b a:List Int):Bool:=p_ b a==0||p_ b a==2
def iS.ends (c:iS) (a:Int) (d b:List Int):Bool:=(aD c.asked a).isSome&&Fz (c.all a d) b
def iS.yj (b:iS) (a:Int) (d c:List Int):iS:=
 {b with heard:=aH b.heard a (b.all a d),asked:=if b.ends a d c then bV b.asked a else b.asked}
theorem AZ (c:∀d∈u,aK d) (a:Int):aK (eJ u a):=by
 unfold eJ;split
 ·unfold aK;omega
 ·by_cases b:a.toNat<u.length
  ·have:=c u[a.toNat] (XY b)
   simp only [List.getD,Qq b,Option.getD_some];unfold aK at*;omega
  ·have:u[a.toNat]? =none:=by simp;omega
   simp only [List.getD,this,Option.getD_none];unfold aK;omega
theorem Dq (c:∀a∈u,aK a) (d:∀a∈b2,aK a):∀a∈gW u b2,aK a:=by
 intro a e;obtain⟨b,_,rfl⟩:=Xk.1 e;have f:=AZ c b;have g:=AZ d b;unfold aK at*;omega
theorem FA (a b:List Int):(gW a b).length=max a.length b.length:=rp _ _ _
theorem dA.Q_ (k:eN (MO b f) g7 h9) (a:Int):
  ∃c d e,(aD g7 a).getD (.slice none 0 0)= .slice c d e/\Ints b c d ((aD h9 a).getD [])/\d*8<=aI/\∀i,aF c=some i->f i:=by
 rcases k.aD a with⟨g,h⟩|⟨o,p,g,h,c,d,e,rfl,l,j,m,n⟩
 ·rw [g,h];exact⟨none,0,0,rfl,Ints.nil b,by simp [aI],by simp [aF]⟩
 ·rw [g,h];exact⟨c,d,e,rfl,l.ints j m,j,n⟩
theorem Hw (g:dA b a f b7) (M:Ints b d c u) (hy:Ints b p i b2) (W:b2≠[]->nB f p):
  Calls Tryz.prog 65 #[.pointer (some ⟨a,0,none⟩),.int .i64 e,.slice d c l,.slice p i C] b
   (Ok λt s=>∃F',t= .bool (b7.ends e u b2)/\dA s a F' (b7.yj e u b2)/\cz f b F' s):=by
 obtain⟨r,w,H,lh,I,z,X,N,h5,Y,O,P⟩:=g.body;obtain⟨n,o,Q⟩:∃n o,b.heap[w]? =some (.map n o):=by obtain⟨n,o,g,_⟩:=X.at';exact⟨n,o,g⟩
 obtain⟨c9,d0,a6⟩:∃n o,b.heap[r]? =some (.map n o):=by obtain⟨n,o,g,_⟩:=z.at';exact⟨n,o,g⟩
 have b6:a≠w:=by rintro rfl;rw [I]at Q;cases Q
 have b8:a≠r:=by rintro rfl;rw [I]at a6;cases a6
 obtain⟨ha,hn,hc,hg,R,hB,hF⟩:=dA.Q_ h5 e;refine nY ⟨a,0,rfl,some w,ae I rfl,yr mH kI X ⟨ha,hn,hc,hg,PC.ok (yX R M) ?_⟩⟩;rintro _ w1 ⟨x,A,S,rfl,Z,v,a7⟩;have b9:A=(b7.all e u).length:=by have:=Z.length;rw [iy,Nat.mul_one]at this;exact this.symm
 have a8:A*8<=aI:=by
  rw [b9];unfold iS.all;rw [FA];have:=R.len;have:=R.dt;have:=M.len;have:=M.dt;unfold aI at*;omega
 have a9:∀c0∈b7.all e u,aK c0:=Dq R.Rn M.Rn;refine⟨x,A,S,rfl,a,0,rfl,some w,ae (v.get I id) rfl,ij mH kI (X.af v id) λk b0 B c1=>?_⟩;have J:aF x≠some w:=λm=>by have:=a7 _ m;have:=ay Q;omega
 have b1:Own k 3 1 x A S (ints (b7.all e u)):=Z.af B (cV.2 λp W=>by rintro rfl;exact J W);have c2:Ints k p i b2:=(hy.ah v).FZ B λc3 a0 hq=>by rintro rfl;exact W c3 a0 hq O
 refine PC.ok (Lh (b1.ints a8 a9) c2) ?_;rintro _ _ ⟨rfl,rfl⟩;have T:k.heap[a]? =some (.cells #[.int .i64 b7.cQ,.map (some r),.map (some w)] 132 (0,0)):=B.get (v.get I id) b6;have U:bG k r (Value.int .i64) H:=(z.af v id).af B P;refine⟨_,rfl,?_⟩
 let F':Nat->Prop:=λh=>f h\/(b.heap.size<=h/\h<w1.heap.size)
 have a1:cz f b F' k:=⟨(v.af (S:=f)).trans B (λ_ _ g=>g) (by rintro h _ rfl;exact O),λh q=>q.imp id (·.1)⟩
 have b3:eN (MO k F') (aH lh e (.slice x A S)) (aH b7.heard e (b7.all e u)):=by
  refine eN.aH ⟨x,A,S,rfl,b1,a8,a9,λh q=>.inr ⟨a7 h q,Z.lt q⟩⟩ (h5.mono λt ys K=>?_);refine(K.af v (F':=f) (λ_ _ _ _ g=>g) (λ_ g=>g)).af B (λh _ _ j=>?_) (λ_ g=>.inl g);rintro rfl;obtain⟨c4,j,J⟩:=j;rw [v.get Q id]at j;cases j;exact J _ _ rfl
 have b4:∀h,F' h->h<k.heap.size:=λh q=>by
  rw [c1];rcases q with q|q
  ·exact Qk (g.aC h q) v.size
  ·exact q.2
 have c5:dA k a F' {b7 with heard:=aH b7.heard e (b7.all e u)}:=
  ⟨⟨r,w,H,_,T,U,b0,N,b3,.inl Y,.inl O,P⟩,.inl g.self,b4,g.HW,g.rq⟩
 have a2:(aD H e).isSome=(aD b7.asked e).isSome:=by
  rcases N.aD e with⟨E,V⟩|⟨t,b5,E,V,_⟩<;>rw [E,V]<;>rfl
 have c6:∃h:Int,(aD H e).getD (.int .i64 0)= .int .i64 h:=by
  rcases N.aD e with⟨E,V⟩|⟨t,b5,E,V,K⟩
  ·rw [E];exact⟨0,rfl⟩
  ·rw [E];exact⟨b5,K⟩
 obtain⟨k0,c7⟩:=c6;have no:b7.ends e u b2=false->Ok (λt s=>∃F',t= .bool (b7.ends e u b2)/\dA s a F' (b7.yj e u b2)/\cz f b F' s) (.returned (.bool false)) k:=λm=>
  Ok.mk ⟨F',by rw [m],by unfold iS.yj;rw [m];exact c5,a1⟩
 have a3:∀y,b7.ends e u b2=true->bG y r (Value.int .i64) (bV H e)->ak (·=r) k y->y.heap.size=k.heap.size->
   Ok (λt s=>∃F',t= .bool (b7.ends e u b2)/\dA s a F' (b7.yj e u b2)/\cz f b F' s) (.returned (.bool true)) y:=λy m hm F a5=>by
  obtain⟨d1,d2,c8⟩:∃n o,k.heap[r]? =some (.map n o):=by obtain⟨n,o,g,_⟩:=U.at';exact⟨n,o,g⟩
  refine Ok.mk ⟨F',by rw [m],?_,a1.af.trans F (λ_ _ g=>g) (by rintro h _ rfl;exact Y),a1.new⟩;unfold iS.yj;rw [m];refine⟨⟨r,w,_,_,F.get T b8,hm,b0.af F (Ne.symm P),N.bV,?_,.inl Y,.inl O,P⟩,.inl g.self,λh q=>by rw [a5];exact b4 h q,g.HW.bV e,λa0 hq=>g.rq a0 (fA hq)⟩;refine b3.mono λt ys K=>K.af F (λh _ _ j=>?_) (λ_ g=>g);rintro rfl;obtain⟨c4,j,J⟩:=j;rw [c8]at j;cases j;exact J _ _ rfl
 refine⟨λs=>k=s/\b7.ends e u b2=true,⟨a,0,rfl,some r,ae T rfl,lK mA kI U ?_⟩,?_⟩
 rotate_left
 ·rintro _ _ ⟨rfl,m⟩
  exact⟨a,0,rfl,some r,ae T rfl,IZ mA kI U λy hm F a5=>a3 y m hm F a5⟩
 rw [c7];refine⟨k0,_,rfl,al.mk (λj=>?_) (λj=>al.mk (λh0=>al.mk (λz=>?_) (λz=>?_)) (λh0=>?_))⟩
 ·refine no ?_
  have:(aD b7.asked e).isSome=false:=by rw [<-a2];simpa using j
  simp [iS.ends,this]
 ·refine no ?_
  have x:(p_ (b7.all e u) b2==0)=false:=by simpa [bne]using h0
  have L:(p_ (b7.all e u) b2==2)=false:=by simpa [bne]using z
  simp [iS.ends,Fz,x,L]
 ·have m:b7.ends e u b2=true:=by
   have a4:(aD b7.asked e).isSome=true:=by rw [<-a2];simpa using j
   have L:(p_ (b7.all e u) b2==2)=true:=by simpa [bne]using z
   simp [iS.ends,Fz,a4,L]
  exact⟨rfl,m⟩
 ·have m:b7.ends e u b2=true:=by
   have a4:(aD b7.asked e).isSome=true:=by rw [<-a2];simpa using j
   have L:(p_ (b7.all e u) b2==0)=true:=by simpa [bne]using h0
   simp [iS.ends,Fz,a4,L]
  exact⟨rfl,m⟩
def iS.open (a:iS):List Int:=uH (a.asked.map (·.1))
theorem Kd (k:dA b a f b7) (e:b7.asked.length*8<=aI):
  Calls Tryz.prog 130 #[.pointer (some ⟨a,0,none⟩)] b (Ok (FB b 3 b7.open)):=by
 obtain⟨l,E,q,F,r,s,H,g,I,J,K,L⟩:=k.body;refine oV ⟨a,0,rfl,some l,ae r rfl,PC.ok (φ:=λt h=>t= .func (.func 259) #[] #[.pointer (some ⟨b.heap.size,0,none⟩)]/\ai b h/\h.heap.size=b.heap.size+1/\
  h.heap[b.heap.size]? =some (.cells #[.map (some l)] 129 (0,0))) (gS (PA.mk λu c m i=>Ok.mk ⟨rfl,c,m,i⟩)) ?_⟩
 rintro _ u ⟨rfl,c,m,i⟩;have v:∀d∈q,aK d.1:=by
  intro d w;have:d.1∈b7.asked.map (·.1):=by rw [<-g.keys];exact Xk.2 ⟨d,w,rfl⟩
  obtain⟨x,j,y⟩:=Xk.1 this;rw [<-y];exact k.rq x j
 refine⟨_,rfl,PC.ok (yk (s.ah c) v (by rw [g.length];exact e) i) ?_⟩;rintro _ M ⟨n,o,p,rfl,z,A,B⟩;refine⟨n,o,p,rfl,Ok.mk ⟨n,o,p,rfl,?_,c.ah A,λC e=>by have:=B C e;omega⟩⟩;unfold iS.open;rw [<-g.keys];exact z
theorem Hy (e:dA b a f b7):
  Calls Tryz.prog 73 #[.pointer (some ⟨a,0,none⟩)] b (Ok λu m=>u= .tuple #[]/\dA m a f ⟨b7.cQ,[],[]⟩/\ak f b m):=by
 obtain⟨h,i,E,F,g,n,o,H,I,p,q,k⟩:=e.body;obtain⟨c,d,r⟩:∃c d,b.heap[i]? =some (.map c d):=by obtain⟨c,d,e,_⟩:=o.at';exact⟨c,d,e⟩
 obtain⟨J,K,s⟩:∃c d,b.heap[h]? =some (.map c d):=by obtain⟨c,d,e,_⟩:=n.at';exact⟨c,d,e⟩
 have v:a≠i:=by rintro rfl;rw [g]at r;cases r
 have t:a≠h:=by rintro rfl;rw [g]at s;cases s
 refine nZ ⟨a,0,rfl,some h,ae g rfl,Hk mA n λL w j x=>⟨a,0,rfl,some i,ae (j.get g t) rfl,Hk mH (o.af j (Ne.symm k)) λM y l z=>Ok.mk ⟨rfl,
  ⟨⟨h,i,[],[],l.get (j.get g t) v,w.af l k,y,trivial,trivial,p,q,k⟩,e.self,λA B=>by rw [z,x];exact e.aC A B,by simp [Tidy],sM⟩,?_⟩⟩⟩
 exact j.trans l (by rintro C _ rfl;exact p) (by rintro C _ rfl;exact q)
def fl (d b:Int) (c:List Int×List (Int×Int)) (a:Int):List Int×List (Int×Int):=
 if IntKind.wrap .i64 (b-(aD c.2 a).getD 0)>=d then(c.1++[a],aH c.2 a b)else c
def iS.h_ (a:iS) (b:Int) (c:Nat):List Int×List (Int×Int):=(a.open.take c).foldl (fl a.cQ b) ([],a.asked)
def iS.due (b:iS) (a:Int):List Int:=(b.h_ a b.open.length).1
def iS.OS (a:iS) (b:Int):iS:={a with asked:=(a.h_ b a.open.length).2}
theorem iS.Ke (c:iS) (b:Int) (d:c.open[a]? =some e):c.h_ b (a+1)=fl c.cQ b (c.h_ b a) e:=by
 unfold iS.h_;rw [Qw,d];simp
theorem MI (j:dA b a f b7) (d:b7.asked.length*8<=aI):
  Calls Tryz.prog 70 #[.pointer (some ⟨a,0,none⟩),.int .i64 e] b
   (Ok λL M=>∃N a4 a5,L= .slice N a4 a5/\Own M 3 1 N a4 a5 (ints (b7.due e))/\dA M a f (b7.OS e)/\ak f b M/\∀c,aF N=some c->b.heap.size<=c):=by
 refine qI (PC.ok (Kd j d) ?_);rintro _ O ⟨B,m,lc,rfl,n,t,hn⟩;have b2:∀h∈b7.open,aK h:=by
  intro h C;have:h∈b7.asked.map (·.1):=(List.mergeSort_perm _ _).mem_iff.1 C;obtain⟨u,v,rfl⟩:=Xk.1 this;exact j.rq u v
 have P:m=b7.open.length:=by have:=n.length;rw [iy,Nat.mul_one]at this;exact this.symm
 have b3:b7.open.length=b7.asked.length:=by simp [iS.open,uH]
 have b4:m*8<=aI:=by rw [P,b3];exact d
 have hL:Ints O B m b7.open:=n.ints b4 b2;have b5:nB f B:=cV.2 λc d Q=>by have:=hn c d;have:=j.aC c Q;omega
 unfold aI at d;have d2:nB f none:=nB.none;refine⟨B,m,lc,rfl,λa6 w x R i o=>∃g:Nat,i=g/\g<=m/\a6=m-g/\Own o 3 1 w x R (ints (b7.h_ e g).1)/\x<=g/\dA o a f {b7 with asked:=(b7.h_ e g).2}/\ak f b o/\Ints o B m b7.open/\O.heap.size<=o.heap.size/\
   (∀c,aF w=some c->O.heap.size<=c),⟨_,0,rfl,Qj _,rfl,Own.nil _ _ _,Qj _,j.ah t,t.af,hL,Q4 _,by simp [aF]⟩,?_⟩
 rintro a6 w x R i _ o ⟨g,rfl,d3,rfl,S,d4,E,T,U,b6,q⟩;refine al.mk (λy=>?_) (λy=>?_)
 ·have y:=XV y
  obtain⟨c,V,h,rfl,d5,C,b8,hc⟩:=U.at (i:=(g:Int)) oM oM;rw [Qx]at C;have a7:=b7.Ke e C;obtain⟨ra,rh,W,lh,t1,t2,t3,t4,t5,t6,t7,t8⟩:=E.body;refine⟨c,V,rfl,oM,oM,h,hc,a,0,rfl,some ra,ae t1 rfl,?_⟩;have b9:(aD W h).getD (.int .i64 0)= .int .i64 ((aD (b7.h_ e g).2 h).getD 0):=by
   rcases t4.aD h with⟨X,Y⟩|⟨L,d6,X,Y,Z⟩
   ·rw [X,Y];rfl
   ·rw [X,Y];exact Z
  refine⟨(aD (b7.h_ e g).2 h).getD 0,λc0=>?_,a,0,rfl,b7.cQ,ae t1 rfl,λw3 hd=>?_⟩
  ·have:=dN mA kI (t2.af (ak.drewN (S:=λ_=>False) o c0) id) h false
   simpa [b9]using this
  have k:ai o w3:=hd.af;refine al.mk (λp=>?_) (λp=>?_)
  ·have p:=XV p
   refine PA.mk λw4 r s4 g4=>?_;refine Kq RN ((S.ah k).ah r) g4 (by unfold aI at*;omega) λa' c' w5 a8 F K=>?_;refine⟨a',x+1,c',rfl,a,0,rfl,?_⟩;have c1:∀c,f c->¬(some c=aF w):=λc Q he=>by have:=q c he.symm;have:=j.aC c Q;have:=t.size;omega
   have z:dA w5 a f {b7 with asked:=(b7.h_ e g).2}:=((E.ah k).ah r).af F c1;obtain⟨l,a0,a9,a1,a2,b0,c2,c3,c4,a3,c5,b1⟩:=z.body;refine⟨some l,ae a2 rfl,ij mA kI b0 λw6 c6 s c7=>?_⟩;obtain⟨H,I,J⟩:∃H I,w5.heap[l]? =some (.map H I):=by obtain⟨H,I,j,_⟩:=b0.at';exact⟨H,I,j⟩
   have c8:a≠l:=by rintro rfl;rw [a2]at J;cases J
   have c9:dA w6 a f {b7 with asked:=aH (b7.h_ e g).2 h e}:=by
    refine⟨⟨l,a0,_,a1,s.get a2 c8,c6,c2.af s (Ne.symm b1),eN.aH (R:=Vq) rfl c3,?_,a3,c5,b1⟩,z.self,λc d=>by rw [c7];exact z.aC c d,z.HW.aH _ _,?_⟩
    ·refine c4.mono λL ys Z=>Z.af s (λu _ _ n=>?_) (λ_ j=>j)
     rintro rfl;obtain⟨d7,n,d0⟩:=n;rw [J]at n;cases n;exact d0 _ _ rfl
    ·intro u v
     rcases eG v with rfl|v
     ·exact b8
     ·exact z.rq u v
   have A:b7.h_ e (g+1)=((b7.h_ e g).1++[h],aH (b7.h_ e g).2 h e):=by rw [a7];unfold fl;rw [if_pos p]
   have d1:∀c,aF a'=some c->c≠l:=λc d=>by
    rintro rfl;exact a8.RS J d
   refine⟨_,?_,g+1,?_,oM,rfl,?_,oM,by rw [A];exact c9,?_,?_,?_,?_⟩
   ·omega
   ·rw [wrap_i64 (by unfold aK;omega)];simp
   ·rw [A];exact a8.af s (cV.2 d1)
   ·refine(((T.ah k).ah r).new F ?_).trans s (λ_ _ j=>j) (by rintro u _ rfl;exact a3)
    intro c d;right;have:=q c d.symm;have:=t.size;omega
   ·refine(((U.ah k).ah r).af F (cV.2 λc d he=>?_)).af s (cV.2 λc d=>?_)
    ·have:=q c he.symm;have:=n.lt d;omega
    ·rintro rfl;exact cV.1 b5 c d a3
   ·have:=k.size;have:=r.size;have:=F.size;omega
   ·intro c d
    rcases K with K|K
    ·exact q c (K▸d)
    ·rw [K]at d;cases d;have:=k.size;have:=r.size;omega
  ·have p:=Xy p
   have A:b7.h_ e (g+1)=b7.h_ e g:=by rw [a7];unfold fl;rw [if_neg p]
   refine⟨_,?_,g+1,?_,oM,rfl,by rw [A];exact S.ah k,oM,by rw [A];exact E.ah k,T.ah k,U.ah k,Xx b6 k.size,q⟩
   ·omega
   ·rw [wrap_i64 (by unfold aK;omega)];simp
 ·have y:=Xy y
  obtain rfl:g=m:=oM
  refine Ok.mk ⟨w,x,R,rfl,?_,?_,T,λc d=>Xx t.size (q c d)⟩
  ·unfold iS.due;rw [<-P];exact S
  ·unfold iS.OS;rw [<-P];exact E
structure cy where
 bR:Int
 ug:Int
 bN:Int
 chunk:Int
 buffer:Int
 cQ:Int
 every:Int
 start:Int
 decl:aM
structure bE where
 S:aw
 D:an
 log:Option dU
 waits:List aj
 fu:iS
def jh (a:cy) (b:Int):Bool:=
 within a.bR 1 64&&within b 0 (a.bR-1)&&within a.ug 64 262144&&decide (a.bN>=1)&&decide (a.every>=1)&&within a.chunk 1 32&&within a.buffer 1 256&&within a.cQ 1 1048576&&decide (a.start>=0)
section
variable (c:cy) (self:Int)
def gK (b:bE):Int×bE:=
 let a:=eh b.D c.bN
 if a.no≠0 then(a.no,{b with D:=a.D,log:=none,S:=⟨c.bR.toNat,[]⟩})
 else(0,{b with D:=a.D,log:=some a.V,S:=(⟨c.bR.toNat,[]⟩:aw).fe a.out})
def Fe:Int×bE:=gK c ⟨⟨c.bR.toNat,[]⟩,Sw c.ug.toNat,none,[],⟨c.cQ,[],[]⟩⟩
def ef (a:aw) (b:List aj):aw:=(⟨c.bR.toNat,[]⟩:aw).fe (a.l++b)
def cR (b:bE) (e:List aj):Int×bE:=match b.log with
 |none=>(15,b)
 |some f=>
  let a:=bl f b.D e
  if a.1≠0 then(a.1,{b with log:=some a.2.1,D:=a.2.2})else
  let d:=a.2.2.sync a.2.1.last
  if d.1≠0 then(d.1,{b with log:=some a.2.1,D:=d.2})else
  (0,{b with log:=some a.2.1,D:=d.2,S:=ef c b.S e})
def bI (a:bE) (e:iU):Int×(Int×Int)×bE:=match a.log with
 |none=>(15,(0,0),a)
 |some _=>
  let b:=mg c.decl a.S (cg c.decl a.S.l) self c.start e
  if b.2.2≠0 then(b.2.2,(0,0),a)else
  if b.2.1 then(let d:=cR c a [b.1];if d.1≠0 then(d.1,(0,0),d.2)else(0,aR b.1,d.2))
  else(0,aR b.1,a)
def fP (b:bE) (a d:Int):List cN×bE:=
 if a<0\/a>=c.bR\/a=self then([],b)else([jx b.S self a],{b with fu:={b.fu with asked:=aH b.fu.asked a d}})
def HH (c:bE) (a:Int):List cN×bE:=((c.fu.due a).map λb=>jx c.S self b,{c with fu:=c.fu.OS a})
def ia (a:Nat):List aj->aw->List aj->List aj->aw×List aj×List aj
 |[],c,b,d=>(c,b,d)
 |e::f,c,b,d=>
  if(c.add e).1=0 then ia a f (c.add e).2 (b++[e]) d
  else if(c.add e).1=16 then ia a f c b d
  else ia a f c b (eI a d e).2
def ep:List aj->aw->List aj->aw×List aj
 |[],b,a=>(b,a)
 |e::c,b,a=>if(b.add e).1=0 then ep c (b.add e).2 (a++[e])else ep c (b.add e).2 a
def uL:Nat->aw->List aj->List aj->List aj×List aj
 |0,c,a,d=>(a,d)
 |k+1,c,a,d=>
  let b:=bw c d
  if b.1=[]then(a,b.2)else
  let e:=ep b.1 c a
  uL k e.1 e.2 b.2
def jV (b:bE) (d:List aj):List aj×List aj:=
 let a:=ia c.buffer.toNat d (ef c b.S []) [] b.waits
 uL (a.2.2.length+1) a.1 a.2.1 a.2.2
def np (a:bE) (d:cN):List cN×Int×bE:=
 let e:=jV c a d.events
 let a:={a with waits:=e.2}
 if e.1=[]then([yi a.S self d.bD],0,a)else
 let b:=cR c a e.1
 if b.1≠0 then([],b.1,{b.2 with waits:=[]})else([yi b.2.S self d.bD],0,b.2)
def bT (a:bE) (b:cN):List cN×Int×bE:=match a.log with
 |none=>([],15,a)
 |some _=>
  let no:=eX b c.bR.toNat c.chunk
  if no≠0 then([],no,a)else
  if b.oA≠self then([],1,a)else
  if b.kind=3 then np c self a b else
  let a:={a with fu:=a.fu.yj b.bD b.vec a.S.vec}
  if b.kind≠4 then(kN a.S self b c.chunk,0,a)else
  let d:=a.S.missing b.vec c.chunk
  if d=[]then([],0,a)else([⟨3,self,b.bD,[],d⟩],0,a)
def Av (a:bE) (b:Int):Int×bE:=gK c {a with D:=yY (a.D.z_ b),waits:=[],fu:=⟨a.fu.cQ,[],[]⟩}
def gJ (a:bE):Int×bE:=match a.log with
 |none=>(15,a)
 |some d=>
  let b:=cm d a.D a.S.l c.bN
  if b.no≠0 then(b.no,{a with D:=b.D})else(0,{a with D:=b.D,log:=some b.V})
end
structure FI where
 m:cN
 va:Option Addr
 vn:Nat
 vc:Nat
 ea:Option Addr
 en:Nat
 ec:Nat
def QE:jk FI:=flat 5 (λa=>bH a.m a.va a.vn a.vc a.ea a.en a.ec) (λ_=>True) (λ_=>rfl) (λc d b=>by
 simp only [bH,Q2,List.not_mem_nil,or_false]at b;rcases b with rfl|rfl|rfl|rfl|rfl<;>rfl)
def FI.In (b:World) (D:Nat->Prop) (a:FI):Prop:=Row aG 8 b D a.va a.vn a.m.vec/\Row f_ 96 b D a.ea a.en a.m.events
theorem La:ix Tryz.prog 87 42 QE.k 72:=⟨kR,kR,dC⟩
def aZ (d:World) (h:List cN) (i:Value) (c:World):Prop:=
 ∃(b:Option Addr) (f g:Nat) (e:List FI) (D:Nat->Prop),i= .slice b f g/\aO QE 42 (λa=>aF b=some a) c b f g e/\e.map (·.m)=h/\(∀a∈e,a.In c D)/\(∀a,D a->d.heap.size<=a/\a<c.heap.size/\aF b≠some a)/\(∀a,aF b=some a->d.heap.size<=a)/\ai d c
section
variable {w w':World} {p:Nat} {F D:Nat->Prop} {S:aw} {a:Option Addr} {n c:Nat}
theorem FI.In.af {a:FI} (b:a.In w D) (c:ak f w w') (d:∀a,D a->¬f a):a.In w' D:=⟨b.1.af c d,b.2.af c d⟩
theorem FI.In.mono {a:FI} (b:a.In w D) (c:∀a,D a->f a):a.In w f:=⟨b.1.mono c,b.2.mono c⟩
theorem dy {a:jk j} {bytes:Nat} (w:World) (D:Nat->Prop):Row a bytes w D none 0 []:=⟨rfl,sM,λc d b=>by simp at b⟩
theorem aZ.nil (w:World):aZ w [] (.slice none 0 0) w:=⟨none,0,0,[],λ_=>False,rfl,(aO.nil w).mono (λb a=>a.elim) (λb a=>(by cases a)),rfl,sM,λb a=>a.elim,λb a=>(by cases a),ak.refl _⟩
theorem aZ.ah (g:aZ b c8 v w) (f:ai w w'):aZ b c8 v w':=by
 obtain⟨a,n,c,i,D,j,k,l,m,h,o,p⟩:=g;exact⟨a,n,c,i,D,j,k.ah f,l,λd e=>(m d e).af f λ_ _ g=>g,λd e=>⟨(h d e).1,by have:=f.size;have:=(h d e).2.1;omega,(h d e).2.2⟩,o,p.then f⟩
theorem aZ.push (x:aZ b c8 (.slice a n c) w) (M:ix h g 42 QE.k 72) {m:cN} {j k:Option Addr} {l p r t A:Nat} {N:Nat×Nat} {E:Nat->Prop} (O:(⟨m,j,l,p,k,r,t⟩:FI).In w E) (B:∀d,E d->b.heap.size<=d/\d<w.heap.size/\aF a≠some d)
  (P:w.heap[A]? =some (.cells (bH m j l p k r t).toArray 42 N)) (V:c8.length<=1000) (y:∀f i w',aZ b (c8++[m]) (.slice f (n+1) i) w'->ak (λd=>aF a=some d) w w'->o (.slice f (n+1) i) w'):
  aE h (Builtin.append_ #[g,g] q #[.slice a n c,.slice (some ⟨A,0,none⟩) 1 1]) w o s:=by
 obtain⟨W,X,Y,z,D,Q,R,C,S,F,H,I⟩:=x
 cases Q
 have Z:z.length=c8.length:=by rw [<-C,Q8]
 refine dQ (c:=QE) (x:=⟨m,j,l,p,k,r,t⟩) (D:=λ_=>False) R M P ⟨rfl,trivial⟩ (λd e=>e.elim) (by unfold aI;omega) (by unfold maxLen;omega) λf i w' F' u v T=>?_;have J:∀d,aF f=some d->aF a=some d\/w.heap.size<=d:=λd e=>(T d (u.self d e)).imp id λx=>x.resolve_left id;have a0:=v.size;have z7:=I.size;refine y f i w' ⟨f,n+1,i,z++[⟨m,j,l,p,k,r,t⟩],λd=>D d\/E d,rfl,(show aO QE 42 (λd=>aF f=some d) w' f (n+1) i (z++[⟨m,j,l,p,k,r,t⟩])from u.alone),by rw [Q3,C];rfl,λd e=>?_,λd e=>?_,λd e=>?_,I.new v λd e=>.inr (H d e)⟩ v
 ·rcases Q6.1 e with e|e
  ·exact((S d e).af v λd e=>(F d e).2.2).mono λd e=>.inl e
  ·simp at e;subst e
   exact(O.af v λd e=>(B d e).2.2).mono λd e=>.inr e
 ·have K:b.heap.size<=d/\d<w.heap.size/\aF a≠some d:=e.elim (F d) (B d)
  exact⟨K.1,oM,λU=>(J d U).elim K.2.2 oM⟩
 ·rcases J d e with L|L
  ·exact H d L
  ·omega
theorem Lj {m s:Int} (A:aZ b c8 (.slice a n c) w) (P:c8.length<=1000):
  Calls Tryz.prog 126 #[.int .i64 m,.int .i64 s,.slice a n c] w (Ok λB w'=>aZ b (c8.map λo=>{o with bD:=m,oA:=s}) B w'):=by
 obtain⟨Q,R,S,e,D,C,t,y,E,p,z,F⟩:=A
 cases C
 have T:e.length=c8.length:=by rw [<-y,Q8]
 have U:=t.len dC;obtain⟨g,j⟩:∃g:FI->FI,g=λf=>{f with m:={f.m with bD:=m,oA:=s}}:=⟨_,rfl⟩
 refine IN ⟨λo h w'=>∃d:Nat,h=d/\d<=n/\o=n-d/\aO QE 42 (λf=>aF a=some f) w' a n c ((e.take d).map g++e.drop d)/\ak (λf=>aF a=some f) w w',⟨_,0,rfl,Qj _,rfl,by simpa using t,ak.refl _⟩,?_⟩;rintro o _ _ V ⟨d,rfl,W,rfl,u,q⟩;refine al.dec (λX=>?_) (λY=>?_)
 ·have r:e[d]? =some e[d]:=Qq oM
  have k:∃l,a=some ⟨l,0,none⟩:=by
   obtain⟨cs,D,H,-⟩:=t.body;rcases H.cases with⟨_,Z,_,_⟩|⟨l,I,rfl,_⟩
   ·omega
   ·exact⟨l,rfl⟩
  obtain⟨l,k⟩:=k;have v:((e.take d).map g++e.drop d)[d]? =some e[d]:=by
   rw [X8 (by simp;omega)];simp [Qy,X2 (show d<=e.length by omega)]
  generalize e[d]=h at r v;have J:d<((e.take d).map g++e.drop d).length:=(Qv.1 v).1;refine⟨l,0,k,oM,oM,?_⟩;rw [Qx];refine aO.set (x':={h with m:={h.m with bD:=m}}) (j:=1) u v dC rfl k λa3 K L a4=>⟨l,0,k,oM,oM,?_⟩
  refine aO.set (x:={h with m:={h.m with bD:=m}}) (x':=g h) (j:=2) K (by rw [List.getElem?_set_self J]) dC (by rw [j];rfl) k λa5 x M a6=>⟨_,?_,d+1,aq oM,oM,rfl,?_,(q.then L).then M⟩
  ·omega
  ·rw [List.set_set]at x
   have N:((e.take d).map g++e.drop d).set d (g h)=(e.take (d+1)).map g++e.drop (d+1):=by
    have O:((e.take d).map g).length=d:=by simp;omega
    rw [Qw,r,Q3,XQ,List.set_append,if_neg oM,O,Nat.sub_self,X4 (show d<e.length by omega)];rfl
   rw [N]at x;exact x
 ·obtain rfl:d=n:=oM
  rw [Qz oM,List.drop_eq_nil_of_le oM,List.append_nil]at u;refine Ok.mk ⟨a,d,c,e.map g,D,rfl,u,?_,λf i=>?_,λf i=>⟨(p f i).1,by have:=q.size;have:=(p f i).2.1;omega,(p f i).2.2⟩,z,F.new q λf i=>.inr (z f i)⟩
  ·rw [<-y,List.map_map,List.map_map,j];rfl
  ·obtain⟨h,r,rfl⟩:=Xk.1 i
   have:=(E h r).af q λf i=>(p f i).2.2;rw [j];exact this
end
section
variable {w w':World} {p:Nat} {F D E:Nat->Prop} {S:aw} {m:cN} {va ea:Option Addr} {vn vc en ec:Nat}
theorem aZ.FZ (f:aZ b c8 v w) (d:ai w' b):aZ w' c8 v w:=by
 obtain⟨g,h,i,j,D,k,l,m,n,e,o,p⟩:=f;have:=d.size;exact⟨g,h,i,j,D,k,l,m,n,λa c=>⟨by have:=(e a c).1;omega,(e a c).2⟩,λa c=>by have:=o a c;omega,d.then p⟩
theorem aZ.len (e:aZ b c8 (.slice d a c) w):a=c8.length:=by
 obtain⟨i,j,k,l,D,f,g,h,-⟩:=e
 cases f
 rw [g.len dC,<-h,Q8]
theorem aZ.sl (a:aZ b c8 v w):∃c d e,v= .slice c d e:=by
 obtain⟨g,h,i,j,D,f,-⟩:=a;exact⟨_,_,_,f⟩
theorem Hx (h:cj w p F S) (hl:S.l.length<=20000000) (Z:Row aG 8 w D va vn m.vec) :
  Calls Tryz.prog 66 #[.pointer (some ⟨p,0,none⟩),.int .i64 e,jb m va vn vc ea en ec,.int .i64 n] w (Ok (aZ w (kN S e m n))):=by
 have hS:=h.1;have hN:=hS.n;refine zM (PA.mk λc q g3 y=>⟨λw'=>c=w'/\(m.kind=1\/m.kind=2),⟨_,ae y rfl,al.df (λr=>⟨_,ae y rfl,al.df (λf=>Ok.mk ?_) (λf=>⟨rfl,.inr f⟩)⟩) (λr=>⟨rfl,.inl r⟩)⟩,?_⟩)
 ·unfold kN;rw [if_pos ⟨r,f⟩];exact(aZ.nil c).FZ q
 rintro _ _ ⟨rfl,hk⟩;have b9:¬(m.kind≠1/\m.kind≠2):=oM
 obtain⟨t,L⟩:∃t,t=S.missing m.vec (max 1 (min n 32)):=⟨_,rfl⟩
 have b4:(if(if 32<n then 32 else n)>1 then(if 32<n then 32 else n)else 1)=max 1 (min n 32):=by split<;>split<;>omega
 obtain⟨g,H⟩:∃g:List cN,g=if 0<t.length then [⟨3,0,0,[],t⟩]else []:=⟨_,rfl⟩
 have g4:g.length<=1:=by rw [H];split<;>simp
 refine⟨λj k l w'=>aZ c g (.slice j k l) w'/\ai c w',⟨_,_,_,ae y rfl,?_⟩,?_⟩
 ·rw [b4]
  refine PC.ok (xg (h.ah q) hl (Z.ah q)) ?_;rw [<-L];rintro _ g5 ⟨b7,n2,z,G,rfl,M,I,hG⟩;have g6:=M.len dC;have e0:=M.aC;refine⟨_,_,_,rfl,al.dec (λg1=>PA.mk λg7 N g8 e1=>?_) (λhz=>⟨?_,I⟩)⟩
  rotate_left
  ·rw [H,if_neg oM]
   exact(aZ.nil c).ah I
  have g9:t.length<=20000000:=by
   rw [L];unfold aw.missing;rw [Qy];have:=List.length_filter_le (λi:aj=>decide (max 0 (eJ m.vec i.origin)<i.seq)) S.l;omega
  refine aZ.push (m:=⟨3,0,0,[],t⟩) (E:=G) ((aZ.nil c).ah (I.then N)) La ⟨dy _ _,(M.ah N).row dC (by unfold aI;omega)⟩ (λa b=>⟨by have:=hG a b;omega,by have:=e0 a b;omega,λi=>by cases i⟩) e1 sM λa' c' h8 c0 e2=>⟨_,_,_,rfl,?_,?_⟩
  ·rw [H,if_pos oM];exact c0
  ·exact(I.then N).new e2 λa b=>(by cases b)
 rintro J on oc _ e3 ⟨O,P⟩;have a0:=q.then P;have e4:=P.size;refine PC.ok (kq (h.ah a0)) ?_;rintro _ v ⟨a3,n3,c3,G3,rfl,c4,c6,c7⟩;have h9:=a0.size;have c8:=c4.aC;have c9:Row aG 8 v G3 a3 n3 S.vec:=c4.row dC (by rw [S.br];unfold aI;omega);obtain⟨d,x⟩:∃d:List cN,d=if m.kind=1/\(p_ m.vec S.vec=2\/p_ m.vec S.vec=3)then [⟨2,0,0,S.vec,[]⟩]else []:=⟨_,rfl⟩
 have i0:d.length<=1:=by rw [x];split<;>simp
 have A:=P.then c6;have Q:∀a,aF J=some a->a<e3.heap.size:=λa b=>by
  obtain⟨a1,n1,u,a2,D,o,f,-⟩:=O
  cases o
  exact f.aC a b
 refine⟨_,_,_,rfl,λj k l w'=>aZ c (g++d) (.slice j k l) w'/\w'.heap[w.heap.size]? =some (.cells (bH m va vn vc ea en ec).toArray 42 (0,0))/\ai c w',⟨_,_,_,ae (A.get y id) rfl,PC.ok (Lh ((Z.ah (q.then A)).r_) c9.r_) ?_⟩,?_⟩
 ·rintro _ _ ⟨rfl,rfl⟩
  have R:=A.get y id;have a4:=O.ah c6;have s:∀a,aF J=some a->c.heap.size<=a:=λa b=>by
   obtain⟨a1,n1,u,a2,D,o,f,B,h4,h5,T,h7⟩:=O
   cases o
   exact T a b
  have no:d=[]->aZ c (g++d) (.slice J on oc) v/\v.heap[w.heap.size]? =some (.cells (bH m va vn vc ea en ec).toArray 42 (0,0))/\ai c v:=λb=>⟨by rw [b,List.append_nil];exact a4,R,A⟩
  have C:∀{ε:Value->World->Prop} {U:Option Addr->Nat->Nat->World->Prop},d=[⟨2,0,0,S.vec,[]⟩]->(∀j k l w',aZ c (g++d) (.slice j k l) w'/\w'.heap[w.heap.size]? =some (.cells (bH m va vn vc ea en ec).toArray 42 (0,0))/\ai c w'->U j k l w')->
    PA v (.cells #[.int .i64 2,.int .i64 0,.int .i64 0,.slice a3 n3 c3,.slice none 0 0] 42) λd0=>aE Tryz.prog (Builtin.append_ #[87,87] 87 #[.slice J on oc,.slice (some ⟨v.heap.size,0,none⟩) 1 1]) d0 (λe5 d1=>∃(a5:Option Addr) (a6:Nat) (a7:Nat),e5= .slice a5 a6 a7/\U a5 a6 a7 d1) ε:=λ{ε U} b V=>by
   refine PA.mk λd0 K i1 e6=>aZ.push (m:=⟨2,0,0,S.vec,[]⟩) (E:=G3) (a4.ah K) La ⟨c9.ah K,dy _ _⟩ (λa b=>⟨by have:=c7 a b;omega,by have:=c8 a b;omega,λi=>by have:=Q a i;have:=c7 a b;omega⟩) e6 oM λa' c' d1 d2 d3=>⟨_,_,_,rfl,V _ _ _ _ ⟨by rw [b];exact d2,d3.get (K.get R id) λi=>?_,?_⟩⟩
   ·have:=s _ i;omega
   ·exact(A.then K).new d3 λa b=>.inr (s a b)
  refine⟨_,rfl,_,ae R rfl,al.dJ (λr=>al.dJ (λf=>C (by rw [x,if_pos ⟨r,.inl f⟩]) λj k l w' h=>h) (λf=>al.dJ (λB=>C (by rw [x,if_pos ⟨r,.inr B⟩]) λj k l w' h=>h) (λB=>no (by rw [x,if_neg];rintro⟨-,h|h⟩;exact f h;exact B h)))) (λr=>no (by rw [x,if_neg λh=>r h.1]))⟩
 rintro e7 i2 i3 _ e8 ⟨E,W,a8⟩;have d4:=q.then a8;have e9:=a8.size;have a9:=E.len;have g2:(g++d).length<=2:=by rw [QX];omega
 have b0:∀{X:List cN},(if(g++d).isEmpty then [yi S e m.bD]else(g++d).map λb5=>{b5 with bD:=e,oA:=m.bD})=X->kN S e m n=X:=λ{X} hq=>by
  rw [<-hq];unfold kN;rw [if_neg b9,<-L];rw [H,x];have p1:(decide (p_ m.vec S.vec=2\/p_ m.vec S.vec=3))=decide (p_ m.vec S.vec=2\/p_ m.vec S.vec=3):=rfl
  by_cases u:0<t.length<;>by_cases z:m.kind=1/\(p_ m.vec S.vec=2\/p_ m.vec S.vec=3)
  ·simp [u,z]
  ·simp [u,z]
  ·simp [u,z]
  ·simp [u,z]
 refine al.dJ (λh0=>⟨_,ae W rfl,PC.ok (Hn (h.ah d4)) ?_⟩) (λh0=>⟨_,ae W rfl,PC.ok (Lj E oM) ?_⟩)
 ·have o:g++d=[]:=QW oM
  rintro _ i4 ⟨b8,n5,c5,G5,rfl,d5,d6,d7⟩;have d8:=d5.aC;rw [o]at E;refine⟨_,_,_,_,_,_,_,_,_,rfl,PA.mk λi5 Y i6 f2=>?_⟩;have b1:∀a,aF e7=some a->c.heap.size<=a/\a<e8.heap.size:=λa b=>by
   obtain⟨a1,n1,u,a2,D,o,f,B,h4,h5,T,h7⟩:=E
   cases o
   exact⟨T a b,f.aC a b⟩
  refine aZ.push (m:=yi S e m.bD) (E:=G5) (E.ah (d7.then Y)) La ⟨(d5.ah Y).row dC (by show S.vec.length*8<=aI;rw [S.br];unfold aI;omega),dy _ _⟩ (λa b=>⟨by have:=d6 a b;have:=d4.size;omega,by have:=d8 a b;omega,λi=>by have:=(b1 a i).2;have:=d6 a b;omega⟩) f2 sM λa' c' i7 d9 g0=>⟨_,_,_,rfl,_,ae (g0.get ((d7.then Y).get W id) λi=>by have:=(b1 _ i).1;omega) rfl,?_⟩
  refine PC.ok (Lj d9 sM) ?_;rintro b6 i8 b2;obtain⟨j,k,l,rfl⟩:=b2.sl;refine⟨_,_,_,rfl,Ok.mk ?_⟩;rw [b0 (if_pos (by rw [o];rfl))];exact b2.FZ q
 ·rintro b6 i9 b3
  obtain⟨j,k,l,rfl⟩:=b3.sl;refine⟨_,_,_,rfl,Ok.mk ?_⟩;rw [b0 (if_neg (by
   intro o;have:g++d=[]:=by simpa using o
   rw [this]at a9;simp at a9;omega))]
  exact b3.FZ q
end
section
variable {w w':World} {D Fs Fv:Nat->Prop} {s v:Nat} {S:aw} {V:aU} {d:aM} {c:iU} {origin start:Int}
def uG (w:World) (a:aj×Bool×Int) (e:Value) (w':World):Prop:=∃c d f G,e= .tuple #[ji a.1 c d f,.bool a.2.1,.int .i64 a.2.2]/\Row aG 8 w' G c d a.1.aN/\(∀b,G b->w.heap.size<=b/\b<w'.heap.size)/\ai w w'
theorem mh (d:aM) (s:aw) (v:aU) (origin start:Int) (c:iU):mg d s v origin start c=if eA d c≠0 then(qC,false,eA d c)else
  match s.keyed c.key with
  |some a=>(a,false,0)
  |none=>if¬(c.expect= -1\/c.expect=((v.state c.aT c.agg).getD ⟨0,[]⟩).version)then(qC,false,11)else
   if ve (d.at c.aT) (match v.state c.aT c.agg with|some b=>b.cells|none=>cP (d.at c.aT)) c.field c.op c.arg≠0 then(qC,false,10)else
   ((aQ c origin s.vec (max s.top start)).2,decide ((aQ c origin s.vec (max s.top start)).1=0),(aQ c origin s.vec (max s.top start)).1):=rfl
theorem Cm {ta pa:Option Addr} {tn tc pn pc:Nat} (hT:eu w) (hd:aW w D d ta tn pa pn) (hD:∀a,D a->a<w.heap.size) (j4:cO d=0) (hs:cj w s Fs S) (j5:S.l.length<=20000000) (hv:cd w v Fv V) (j6:V.decl=d)
  (o8:start<=9223372036854775807) (o5:S.top<=9223372036854775807):
  Calls Tryz.prog 40 #[.agg #[.slice ta tn tc,.slice pa pn pc],.pointer (some ⟨s,0,none⟩),.pointer (some ⟨v,0,none⟩),.int .i64 origin,.int .i64 start,oQ c] w (Ok (uG w (mg d S V origin start c))):=by
 refine vM (PA.mk λw1 k1 s1 g1=>PA.mk λw2 k2 s2 g2=>PA.mk λw3 k3 s3 g3=>?_);have t:=(k1.then k2).then k3;have gd:=k3.get (k2.get g1 id) id;have gc:=k3.get g2 id;have z:∀{A:World} {no:Int},ai w3 A->mg d S V origin start c=(qC,false,no)->xu Tryz.prog 60 (.pointer (some ⟨w2.heap.size,0,none⟩)) (ji qC none 0 0) A λu=>nR Tryz.prog 60 (.pointer (some ⟨w2.heap.size,0,none⟩)) u λr=>Ok (uG w (mg d S V origin start c)) (.returned (.tuple #[r,.bool false,.int .i64 no])) u:=λ{A no} h4 R=>
  az (aV qC none 0 0) (h4.get g3 id) rfl λu k5 s5 g5=>ar (aV qC none 0 0) g5 (Ok.mk ⟨none,0,0,λ_=>False,by rw [R],by rw [R];exact Row.nil _ _,λa b=>b.elim,(t.then h4).new k5 λa b=>.inr oM⟩)
 refine⟨_,_,_,_,_,_,ae gd rfl,ae gd rfl,ar (wB c) gc (PC.ok (BA (hT.ah t) (hd.ah t) λa b=>by have:=hD a b;omega) ?_)⟩;rintro _ A ⟨rfl,T⟩;refine⟨_,rfl,al.df (λU=>z T (by rw [mh,if_pos U])) (λe5=>⟨_,ae (T.get gc id) rfl,PC.ok (MP (hs.ah (t.then T)) j5) ?_⟩)⟩;rintro _ u ⟨W,X,Y,G5,rfl,e6,e7,k5⟩;have b6:=T.then k5;have o9:=b6.size;have B:∀{r:aj×Bool×Int},(match S.keyed c.key with
  |some m=>(m,false,0)
  |none=>if¬(c.expect= -1\/c.expect=((V.state c.aT c.agg).getD ⟨0,[]⟩).version)then(qC,false,11)else
   if ve (d.at c.aT) (match V.state c.aT c.agg with|some C=>C.cells|none=>cP (d.at c.aT)) c.field c.op c.arg≠0 then(qC,false,10)else
   ((aQ c origin S.vec (max S.top start)).2,decide ((aQ c origin S.vec (max S.top start)).1=0),(aQ c origin S.vec (max S.top start)).1))=r->mg d S V origin start c=r:=λ{r} hr=>by
  rw [mh,if_neg (by simpa using e5)];exact hr
 refine bF (qB _ W X Y) ⟨_,rfl,PA.mk λw6 k6 s6 g6=>az (aV _ W X Y) g6 rfl λn k7 s7 g7=>al.mk (λhk=>?_) (λhk=>?_)⟩
 ·obtain⟨m,R⟩:=Option.isSome_iff_exists.1 hk
  rw [R]at e6 g7 B;have b2:ai u n:=k6.new k7 λa b=>.inr oM;refine ar (aV _ W X Y) g7 (az (aV _ W X Y) (b2.get (b6.get g3 id) id) rfl λw8 k8 s8 g8=>ar (aV _ W X Y) g8 (Ok.mk ⟨W,X,Y,G5,?_,?_,λa b=>?_,?_⟩))
  ·rw [B rfl];rfl
  ·rw [B rfl]
   exact(e6.ah b2).af k8 λa b m=>by have:=e7 a b;have:=t.size;have:=T.size;omega
  ·have:=e7 a b;have:=t.size;have:=T.size;omega
  ·exact((t.then b6).then b2).new k8 λa b=>.inr oM
 have d2:S.keyed c.key=none:=by simpa using hk
 rw [d2]at B;have b2:ai u n:=k6.new k7 λa b=>.inr oM;have M:=b6.then b2;have p0:=M.size;have b7:=t.then M;have e8:iI d c.aT c.field c.op c.arg=0:=by
  have:=e5;unfold eA at this;split at this
  ·simp at this
  ·exact this
 have j7:V.decl.at c.aT=d.at c.aT:=by rw [j6]
 obtain⟨hV,b0,hq⟩:=hv;have a6:(match V.state c.aT c.agg with|some C=>C.cells|none=>cP (d.at c.aT)).length=(d.at c.aT).length:=by
  unfold aU.state
  cases hs:aD V.dR (c.aT,c.agg)with
  |none=>simp [cP]
  |some s=>rw [<-j7];exact hV.st _ (bQ hs)
 obtain⟨c4,t0,t1,p1⟩:=EH j4 e8 a6;obtain⟨E,e9⟩:∃E:Nat,c.aT=E:=⟨c.aT.toNat,oM⟩
 have j8:d.at c.aT=d.types.getD E []:=by
  unfold aM.at;rw [if_pos (bj.2 ⟨t0,oM⟩),e9,Qx]
 obtain⟨tb,oA,es,j9,p2,o6,k0,fa,fn,fc,rfl,b3⟩:=(hd.ah b7).aT.el E d.types[E] sM;have b3:Row nQ 48 n D fa fn (d.at c.aT):=by
  rw [j8];have:d.types.getD E []=d.types[E]:=by simp [QQ,show E<d.types.length by omega]
  rw [this];exact b3
 have p3:=(hd.ah b7).aT.len;have c7:=k0 0 dC;have f2:jE.k=1:=rfl;rw [f2,Nat.mul_one]at c7;have l0:=M.get gd id;have g0:=M.get gc id;refine⟨_,_,_,ae l0 rfl,_,ae g0 rfl,tb,oA,j9,t0,oM,fa,fn,fc,by rw [e9,Qx];exact c7,PA.mk λw8 k8 s8 g8=>PS.mk g8 sM λw9 k9 s9 g9=>?_⟩;have Z:ai n w9:=k8.new k9 λa b=>.inr oM;have d3:=Z.get g0 id;have d4:cd w v Fv V:=⟨hV,b0,hq⟩
 refine⟨_,ae d3 rfl,_,ae d3 rfl,PC.ok (mC (d4.ah (b7.then Z))) ?_⟩;rintro _ d5 ⟨ca,cn,cc,l3,rfl,g4,o7,N⟩;have b4:=Z.then N;have h3:=b7.then b4;have p4:=b4.size;obtain⟨F,hX⟩:∃F,F=(match V.state c.aT c.agg with|some C=>C.cells|none=>cP (d.at c.aT)):=⟨_,rfl⟩
 rw [<-hX]at c4 a6 B;refine⟨_,_,_,_,_,rfl,PA.mk λp5 l4 p6 l5=>PS.mk l5 sM λp7 l6 p8 l7=>PS.mk l7 sM λh5 l8 p9 h8=>?_⟩;have a5:ai d5 h5:=(l4.new l6 λa b=>.inr oM).new l8 λa b=>.inr oM;have l9:h5.heap[n.heap.size]? =some (.cells #[.slice fa fn fc] 107 (0,0)):=a5.get (N.get g9 id) id;have c8:=g4.ah a5;refine⟨λw'=>ai d5 w'/\∃ca cn cc G,w'.heap[d5.heap.size]? =some (.cells #[.int .i64 ((V.state c.aT c.agg).getD FH).version,.slice ca cn cc] 51 (0,0))/\Row eP 32 w' G ca cn F,?_,?_⟩
 ·refine al.not (al.mk (λm0=>⟨a5,ca,cn,cc,l3,h8,?_⟩) (λm1=>⟨_,_,_,ae l9 rfl,PC.ok (Gp (t:=d.at c.aT) rfl b3.len (by rw [b3.len];omega)) ?_⟩))
  ·obtain⟨C,hx⟩:=Option.isSome_iff_exists.1 m0
   rw [hx]at c8 hX;have b8:F=C.cells:=hX;rw [b8];exact c8.row dC (by show C.cells.length*32<=aI;rw [<-b8,a6];unfold aI;omega)
  ·rintro _ q0 ⟨b1,n6,c6,G6,rfl,m2,d6,m3⟩
   have q1:=d6.size;refine⟨_,_,_,rfl,PS.mk (d6.get h8 id) sM λq2 h9 q3 m4=>⟨(a5.then d6).new h9 λa b=>.inr oM,b1,n6,c6,G6,m4,?_⟩⟩;have hn:V.state c.aT c.agg=none:=by simpa using m1
   rw [hn]at hX;have b8:F=cP (d.at c.aT):=hX;rw [b8];exact(m2.af h9 λa b m=>by have:=m3 a b;omega).row dC (by unfold aI cP;simp;omega)
 rintro _ m5 ⟨m6,q4,q5,q6,G2,i0,i1⟩;refine PA.mk λi2 d7 q7 m7=>?_;have H:=m6.then d7;have m8:=H.size;have c9:=h3.then H;have i3:=d7.get i0 id;have i4:=H.get (N.get d3 id) id;have i5:=H.get (N.get g9 id) id;have i6:=(((M.then Z).then N).then H).get g3 id;have o:∀{A:World} {no:Int},ai i2 A->mg d S V origin start c=(qC,false,no)->xu Tryz.prog 60 (.pointer (some ⟨w2.heap.size,0,none⟩)) (ji qC none 0 0) A λu=>nR Tryz.prog 60 (.pointer (some ⟨w2.heap.size,0,none⟩)) u λr=>Ok (uG w (mg d S V origin start c)) (.returned (.tuple #[r,.bool false,.int .i64 no])) u:=λ{A no} h4 R=>z (((M.then Z).then N).then (H.then h4)) R;refine⟨λa9 c5 w'=>∃I:Nat,c5=I/\I<=2/\a9=2-I/\ai i2 w'/\(1<=I->c.expect= -1\/c.expect=((V.state c.aT c.agg).getD ⟨0,[]⟩).version)/\(2<=I->ve (d.at c.aT) F c.field c.op c.arg=0),⟨_,0,rfl,oM,rfl,ak.refl _,λh=>oM,λh=>oM⟩,?_⟩;rintro a9 _ _ J ⟨I,rfl,hj,rfl,k,d8,m9⟩;have d0:=k.get i3 id;have a0:=k.get i4 id;have i7:=k.get i5 id;have d1:=k.get m7 id;refine al.dec (λq8=>⟨m5.heap.size,0,rfl,oM,oM,?_⟩) (λq9=>?_)
 ·have n0:I=0\/I=1:=oM
  rcases n0 with rfl|rfl
  ·refine⟨_,ae d1 rfl,_,_,_,rfl,kR,PC.ok (φ:=λv w'=>v= .int .i64 (if c.expect= -1\/c.expect=((V.state c.aT c.agg).getD ⟨0,[]⟩).version then 0 else 11)/\J=w') (sJ ⟨_,ae a0 rfl,al.dJ (λh1=>Ok.mk ⟨by rw [if_pos (.inl h1)],rfl⟩) (λh1=>⟨_,ae a0 rfl,_,ae d0 rfl,al.dJ (λh2=>Ok.mk ⟨by rw [if_pos (.inr h2)],rfl⟩) (λh2=>Ok.mk ⟨by rw [if_neg (by rintro(h|h);exact h1 h;exact h2 h)],rfl⟩)⟩)⟩) ?_⟩
   rintro _ _ ⟨rfl,rfl⟩
   by_cases hx:c.expect= -1\/c.expect=((V.state c.aT c.agg).getD ⟨0,[]⟩).version
   ·rw [if_pos hx]
    exact⟨_,rfl,al.ff rfl ⟨_,oM,1,rfl,oM,rfl,k,λ_=>hx,λh=>oM⟩⟩
   ·rw [if_neg hx]
    exact⟨_,rfl,al.tt rfl (o k (B (by rw [if_pos hx])))⟩
  ·refine⟨_,ae d1 rfl,_,_,_,rfl,kR,PC.ok (φ:=λv w'=>v= .int .i64 (ve (d.at c.aT) F c.field c.op c.arg)/\ai J w') (sL ⟨_,_,_,ae i7 rfl,_,_,_,ae d0 rfl,_,ae a0 rfl,_,ae a0 rfl,_,ae a0 rfl,PC.ok (Gn c4 ((b3.ah (b4.then H)).ah k) ((i1.ah d7).ah k)) ?_⟩) ?_⟩
   ·rintro _ n1 ⟨rfl,b9⟩
    exact⟨_,rfl,Ok.mk ⟨rfl,b9⟩⟩
   ·rintro _ n1 ⟨rfl,b9⟩
    refine⟨_,rfl,al.df (λU=>o (k.then b9) (B ?_)) (λh0=>⟨_,oM,2,rfl,oM,rfl,k.then b9,λ_=>d8 oM,λ_=>h0⟩)⟩;have n2:ve (d.at c.aT) F c.field c.op c.arg=10:=by
     rw [DU]at U⊢;split at U
     ·simp at U
     ·rename_i hq;rw [if_neg hq]
    rw [if_neg (λh=>h (d8 oM)),if_pos U,n2]
 have i8:=B (r:=((aQ c origin S.vec (max S.top start)).2,decide ((aQ c origin S.vec (max S.top start)).1=0),(aQ c origin S.vec (max S.top start)).1)) (by rw [if_neg (λh=>h (d8 oM)),if_neg (by rw [m9 oM];simp)]);have K:(if start>S.top then start else S.top)=max S.top start:=by split<;>omega
 have c0:(if start>S.top then start else S.top)<=9223372036854775807:=by split<;>omega
 refine⟨λeb eo no w'=>eo=0/\no=(aQ c origin S.vec (max S.top start)).1/\ai J w'/\∃a2 a3 a7 G,w'.heap[eb]? =some (.cells (aB (aQ c origin S.vec (max S.top start)).2 a2 a3 a7).toArray 60 (0,0))/\Row aG 8 w' G a2 a3 (aQ c origin S.vec (max S.top start)).2.aN/\∀a,G a->J.heap.size<=a/\a<w'.heap.size,?_,?_⟩
 rotate_left
 ·rintro eb _ no _ r0 ⟨rfl,rfl,d9,e,f,g,q,ge,x,i⟩
  have i9:=d9.get (k.get i6 id) id;have zk:=k.size;have r3:=d9.size;have zw:=t.size;refine ar (aV _ e f g) ge (az (aV _ e f g) i9 rfl λr4 j0 r5 n3=>ar (aV _ e f g) n3 (Ok.mk ⟨e,f,g,q,?_,?_,λa b=>?_,?_⟩))
  ·rw [i8];rfl
  ·rw [i8];exact x.af j0 λa b m=>by have:=i a b;omega
  ·have:=i a b;omega
  ·exact(((c9.then k).then d9)).new j0 λa b=>.inr oM
 ·intro O j1
  have e0:ai J O:=j1.af;have r6:O.heap.size=J.heap.size:=by rw [j1.heap]
  have j2:=e0.get a0 id;have a4:=hs.ah ((c9.then k).then e0);have zk:=k.size;have hn:=hs.1.n;have c1:S.vec.length<=20000000:=by rw [S.br];omega
  have c2:S.vec.length*8<=aI:=by unfold aI;omega
  have y:∀{wE w6 n:World} {a1:Nat} {e:Option Addr} {f g:Nat} {q:Nat->Prop},ai O wE->Row aG 8 wE q e f (aQ c origin S.vec (max S.top start)).2.aN->(∀a,q a->O.heap.size<=a/\a<wE.heap.size/\a≠a1)->ai wE w6->O.heap.size<=a1->ak (λa=>a=a1) w6 n->n.heap.size=w6.heap.size->n.heap[a1]? =some (.cells (aB (aQ c origin S.vec (max S.top start)).2 e f g).toArray 60 (0,0))->
    (λ(eb eo:Nat) (no:Int) (w':World)=>eo=0/\no=(aQ c origin S.vec (max S.top start)).1/\ai J w'/\∃a2 a3 a7 G,w'.heap[eb]? =some (.cells (aB (aQ c origin S.vec (max S.top start)).2 a2 a3 a7).toArray 60 (0,0))/\Row aG 8 w' G a2 a3 (aQ c origin S.vec (max S.top start)).2.aN/\∀a,G a->J.heap.size<=a/\a<w'.heap.size) a1 0 (aQ c origin S.vec (max S.top start)).1 n:=λ{wE w6 n a1 e f g q} hE hr hG h6 hg h7 r7 n4=>by
   have z6:=h6.size;exact⟨rfl,rfl,((e0.then hE).then h6).new h7 λa b=>.inr oM,e,f,g,q,n4,(hr.ah h6).af h7 λa b m=>(hG a b).2.2 m,λa b=>by have:=hG a b;omega⟩
  have zc:¬(O.heap.size<=w1.heap.size):=by
   have h1:=((((k3.then M).then Z).then N).then H).size;omega
  refine⟨λa=>O.heap.size<=a,zc,ar (wB c) j2 ⟨PC.ok (kq a4) ?_,PA.mk λr8 c3 r9 n8=>⟨ai.af c3,PC.ok (kq (a4.ah c3)) ?_⟩⟩⟩
  ·rintro _ n9 ⟨av,nv,cv,a8,rfl,b5,l,o0⟩
   have o1:=l.size;refine⟨_,_,_,rfl,ai.af l,PC.ok (FC (a4.ah l)) ?_,PA.mk λo2 L o3 e1=>⟨ai.af L,PC.ok (FC ((a4.ah l).ah L)) ?_⟩⟩
   ·rintro _ _ ⟨rfl,rfl⟩
    refine⟨_,rfl,ak.refl _,?_,?_⟩
    ·rw [K]
     refine PC.ok (iv (b5.row dC c2) (by rw [<-K];exact c0) c1) ?_;rintro _ e2 ⟨e,f,g,q,rfl,x,i,j⟩;have e3:=j.size;exact bF (qB _ e f g) ⟨_,rfl,ai.af j,PA.mk λs0 j3 s4 o4=>⟨ai.af j3,az (aV _ e f g) o4 rfl λe4 p P Q=>⟨p.mono λa _ m=>oM,y (l.then j) x (λa b=>⟨by have:=i a b;omega,(i a b).2,by have:=i a b;omega⟩) j3 oM p P Q⟩⟩⟩
    ·refine PA.mk λo2 L o3 e1=>⟨ai.af L,?_⟩
     rw [K];refine PC.ok (iv ((b5.ah L).row dC c2) (by rw [<-K];exact c0) c1) ?_;rintro _ e2 ⟨e,f,g,q,rfl,x,i,j⟩;have e3:=j.size;exact bF (qB _ e f g) ⟨_,rfl,ai.af j,az (aV _ e f g) (j.get e1 id) rfl λe4 p P Q=>⟨p.mono λa _ m=>oM,y ((l.then L).then j) x (λa b=>⟨by have:=i a b;omega,(i a b).2,by have:=i a b;omega⟩) (ak.refl _) oM p P Q⟩⟩
   ·rintro _ _ ⟨rfl,rfl⟩
    refine⟨_,rfl,ak.refl _,?_⟩;rw [K];refine PC.ok (iv ((b5.ah L).row dC c2) (by rw [<-K];exact c0) c1) ?_;rintro _ e2 ⟨e,f,g,q,rfl,x,i,j⟩;have e3:=j.size;exact bF (qB _ e f g) ⟨_,rfl,ai.af j,az (aV _ e f g) (j.get e1 id) rfl λe4 p P Q=>⟨p.mono λa _ m=>oM,y ((l.then L).then j) x (λa b=>⟨by have:=i a b;omega,(i a b).2,by have:=i a b;omega⟩) (ak.refl _) oM p P Q⟩⟩
  ·rintro _ n9 ⟨av,nv,cv,a8,rfl,b5,l,o0⟩
   have o1:=l.size;refine⟨_,_,_,rfl,ai.af l,PC.ok (FC ((a4.ah c3).ah l)) ?_⟩;rintro _ _ ⟨rfl,rfl⟩;refine⟨_,rfl,ak.refl _,?_⟩;rw [K];refine PC.ok (iv (b5.row dC c2) (by rw [<-K];exact c0) c1) ?_;rintro _ e2 ⟨e,f,g,q,rfl,x,i,j⟩;have e3:=j.size;exact bF (qB _ e f g) ⟨_,rfl,ai.af j,az (aV _ e f g) ((l.then j).get n8 id) rfl λe4 p P Q=>⟨p.mono λa _ m=>oM,y ((c3.then l).then j) x (λa b=>⟨by have:=i a b;omega,(i a b).2,by have:=i a b;omega⟩) (ak.refl _) oM p P Q⟩⟩
end
structure iP where
 ta:Option Addr
 tn:Nat
 tc:Nat
 pa:Option Addr
 pn:Nat
 pc:Nat
 dp:Nat
 lp:Option Addr
 sp:Nat
 bp:Nat
 wp:Nat
 tp:Nat
abbrev iP.cells (a:iP) (b:cy) (c:Int):Array Value:= #[.int .i64 b.bR,.int .i64 b.ug,.int .i64 b.bN,.int .i64 b.chunk,.int .i64 b.buffer,.int .i64 b.cQ,.int .i64 b.every,.int .i64 b.start,.slice a.ta a.tn a.tc,.slice a.pa a.pn a.pc,.int .i64 c,
 .pointer (some ⟨a.dp,0,none⟩),.pointer a.lp,.pointer (some ⟨a.sp,0,none⟩),.pointer (some ⟨a.bp,0,none⟩),.pointer (some ⟨a.wp,0,none⟩),.pointer (some ⟨a.tp,0,none⟩)]
def DL (d:World) (G:Nat->Prop) (e:Nat) (f:Option Addr) (D:an) (b:Option dU):Prop:=
 ∃c,aP d e c D/\(∀a,c a->G a)/\match b with
  |none=>f=none
  |some g=>g.bC≠[]/\∃h i,f=some ⟨h,0,none⟩/\gY d e h i g/\∀a,i a->G a/\¬c a
def Mh (d:World) (G:Nat->Prop) (e:Nat) (a:Nat) (f:List aj):Prop:=∃c D,fM d e c D a f/\(∀b,c b->G b)/\∀b,D b->G b
def km (e:Nat) (f:Array Value) (b:iP) (d:cy) (c:bE) (g:List aj):Nat->World->(Nat->Prop)->Prop
 |0=>λa G=>G e/\a.heap[e]? =some (.cells f 85 (0,0))
 |1=>λa G=>aW a G d.decl b.ta b.tn b.pa b.pn
 |2=>λa G=>DL a G b.dp b.lp c.D c.log
 |3=>λa G=>cj a b.sp G c.S/\c.S.Cl/\c.S.n=d.bR.toNat
 |4=>λa G=>cJ a b.bp G d.decl d.every.toNat g
 |5=>λa G=>Mh a G b.wp d.buffer.toNat c.waits
 |6=>λa G=>dA a b.tp G c.fu
 |_=>λ_ _=>True
section
variable {w w' w0:World} {p:Nat} {F G T:Nat->Prop} {cls:Nat->Nat} {h:iP} {c:cy} {self:Int} {X:bE} {dp:Nat} {lp:Option Addr} {D:an} {log:Option dU}
theorem DL.af (h:DL w G dp lp D log) (c:ak T w w') (d:∀a,G a->¬T a):DL w' G dp lp D log:=by
 obtain⟨i,j,e,f⟩:=h;refine⟨i,j.af c λa b=>d a (e a b),e,?_⟩
 cases log with
 |none=>exact f
 |some p=>
  obtain⟨k,l,m,n,o,g⟩:=f;exact⟨k,l,m,n,o.af c λa b=>d a (g a b).1,g⟩
theorem bB :te (km p r h c X H):=by
 intro k w w' G T a d b
 match k,a with
 |0,a=>exact⟨a.1,d.get a.2 (b p a.1)⟩
 |1,a=>exact aW.af a d b
 |2,a=>exact DL.af a d b
 |3,a=>exact⟨cj.af a.1 d b,a.2⟩
 |4,a=>exact cJ.af a d b
 |5,a=>obtain⟨j,D,l,g,i⟩:=a;exact⟨j,D,l.af d (λe f=>b e (g e f)) λe f=>b e (i e f),g,i⟩
 |6,a=>exact dA.af a d b
 |k+7,a=>trivial
structure kH (c:cy) (me:Int):Prop where
 right:jh c me=true
 decl:cO c.decl=0
 VZ:aK c.bN
 every:aK c.every
 start:aK c.start
structure Env (w0 w:World) (F:Nat->Prop):Prop where
 mN:eu w0
 laid:Laid w0
 gr:ai w0 w
 aC:∀b,F b->w0.heap.size<=b
theorem Env.Bq (h:Env w0 w F) (c:cz F w f w'):Env w0 w' f:=⟨h.mN,h.laid,h.gr.new c.af λa b=>.inr (h.aC a b),λa b=>(c.new a b).elim (h.aC a) λd=>by have:=h.gr.size;omega⟩
theorem Env.ah (h:Env w0 w F) (a:ai w w'):Env w0 w' F:=⟨h.mN,h.laid,h.gr.then a,h.aC⟩
abbrev cu (w:World) (F:Nat->Prop) (cls:Nat->Nat) (p:Nat) (h:iP) (c:cy) (self:Int) (X:bE):Prop:=bt w F cls (km p (h.cells c self) h c X X.S.l)
def bz (w:World) (p:Nat) (F:Nat->Prop) (c:cy) (self:Int) (X:bE):Prop:=kH c self/\∃h cls,cu w F cls p h c self X
theorem cu.ah (a:cu w F cls p h c self X) (b:ai w w'):cu w' F cls p h c self X:=bt.ah a bB b
theorem cu.bg (a:cu w F cls p h c self X):w.heap[p]? =some (.cells (h.cells c self) 85 (0,0)):=(a.at' 0).2
theorem cu.Hu (a:cu w F cls p h c self X):F p/\cls p=0:=(a.at' 0).1
theorem bz.af (b:bz w p F c self X) (d:ak T w w') (e:∀a,F a->¬T a):bz w' p F c self X:=by
 obtain⟨f,h,cls,g⟩:=b;exact⟨f,h,cls,bt.af g bB d e⟩
theorem bz.ah (a:bz w p F c self X) (b:ai w w'):bz w' p F c self X:=a.af b λ_ _ h=>h
theorem bz.aC (b:bz w p F c self X):∀a,F a->a<w.heap.size:=by obtain⟨e,h,cls,d⟩:=b;exact d.aC
theorem cu.store {d:iP} (a:bt w F cls (km p r d c X H)) (f:ak (·=p) w w') (g:w'.heap[p]? =some (.cells U 85 (0,0))):bt w' F cls (km p U d c X H):=by
 refine bt.same a bB (k:=0) (f.mono λh _ b=>by have b:h=p:=b;exact b▸(a.at' 0).1) ⟨(a.at' 0).1,g⟩ λe G i j=>?_;rcases e with _|_|_|_|_|_|_|e<;>first|exact j|exact absurd rfl i
theorem DL.MB (i:DL w G dp lp D (some b0)) (e:Env w0 w G) (n:∀a,G a->a<w.heap.size):∃d,lp=some ⟨d,0,none⟩/\b0.bC≠[]/\bY w0 w dp d b0 D (λa=>a<w.heap.size/\¬G a):=by
 obtain⟨j,k,g,l,d,m,rfl,h,f⟩:=i;refine⟨d,rfl,l,m,⟨j,k,e.gr,λa b=>⟨e.aC a (g a b),λc=>?_⟩,λa b=>?_⟩,h,λa b=>⟨e.aC a (f a b).1,λc=>c.2 (f a b).1⟩⟩
 ·rcases c with c|c
  ·exact c.2 (g a b)
  ·exact(f a c).2 b
 ·rcases b with b|b
  ·exact b.1
  ·exact h.aC a b
theorem DL.ug (e:DL w G dp lp D log) (c:Env w0 w G):aS w0 w dp D (λa=>a<w.heap.size/\¬G a):=by
 obtain⟨f,g,d,-⟩:=e;exact⟨f,g,c.gr,λa b=>⟨c.aC a (d a b),λh=>h.2 (d a b)⟩,λa b=>b.1⟩
theorem DL.Fc {Y:Nat->Prop} (n:bY w0 w' dp a b0 D (λb=>(b<w.heap.size/\¬G b)\/Y b)) (o:ak (dv λb=>b<w.heap.size/\¬G b) w w') (p:b0.bC≠[]):∃e,DL w' e dp (some ⟨a,0,none⟩) D (some b0)/\cz G w e w'/\(∀b,e b->b<w'.heap.size)/\∀b,e b->¬Y b:=by
 obtain⟨h,⟨i,j,s,f,t⟩,k,l⟩:=n;have g:∀b,¬(b<w.heap.size/\¬G b)->G b\/w.heap.size<=b:=λb c=>by
  rcases Nat.lt_or_ge b w.heap.size with d|d
  ·exact .inl (Classical.byContradiction λq=>c ⟨d,q⟩)
  ·exact .inr d
 refine⟨λb=>i b\/h b,⟨i,j,λb c=>.inl c,p,a,h,rfl,k,λb c=>⟨.inr c,λr=>(f b r).2 (.inr c)⟩⟩,⟨o.mono λb u c=>(g b c).resolve_right oM,λb c=>?_⟩,λb c=>?_,λb c m=>?_⟩
 ·rcases c with c|c
  ·exact g b λd=>(f b c).2 (.inl (.inl d))
  ·exact g b λd=>(l b c).2 (.inl d)
 ·exact c.elim (j.aC b) (k.aC b)
 ·rcases c with c|c
  ·exact(f b c).2 (.inl (.inr m))
  ·exact(l b c).2 (.inr m)
theorem DL.KZ {Y:Nat->Prop} (i:aS w0 w' dp D (λa=>(a<w.heap.size/\¬G a)\/Y a)) (j:ak (dv λa=>a<w.heap.size/\¬G a) w w'):∃d,DL w' d dp none D none/\cz G w d w'/\(∀a,d a->a<w'.heap.size)/\∀a,d a->¬Y a:=by
 obtain⟨e,f,m,g,n⟩:=i;have h:∀a,¬(a<w.heap.size/\¬G a)->G a\/w.heap.size<=a:=λa b=>by
  rcases Nat.lt_or_ge a w.heap.size with c|c
  ·exact .inl (Classical.byContradiction λk=>b ⟨c,k⟩)
  ·exact .inr c
 exact⟨e,⟨e,f,λa b=>b,rfl⟩,⟨j.mono λa o b=>(h a b).resolve_right oM,λa b=>h a λc=>(g a b).2 (.inl c)⟩,λa b=>f.aC a b,λa b l=>(g a b).2 (.inr l)⟩
end
theorem HC {D:an} (b:b0.bC≠[]):(aY b0 D).2.1.bC≠[]:=by
 have d:∀a:an,(pS b0 a).2.1.bC≠[]:=by
  intro a;unfold pS;dsimp only;split
  ·exact b
  ·split
   ·exact b
   ·simp
 have c:∀a:an,(lz b0 a).2.1.bC≠[]:=by
  intro a;unfold lz;dsimp only;split
  ·exact b
  ·exact d _
 unfold aY;dsimp only;split
 ·exact c D
 ·split
  ·exact b
  ·exact c _
theorem Fh {D:an} {l:List aj} (a:b0.bC≠[]):(bl b0 D l).2.1.bC≠[]:=by
 unfold bl;dsimp only;have b:(if b0.size<=b0.bytes then aY b0 D else(0,b0,D)).2.1.bC≠[]:=by
  split
  ·exact HC a
  ·exact a
 generalize(if b0.size<=b0.bytes then aY b0 D else(0,b0,D))=c at b⊢;split
 ·exact a
 split
 ·exact a
 split
 ·exact b
 split
 ·exact b
 ·exact b
theorem OP (g:Row f_ 96 b f d a H):∀c∈H,c.Ok:=λc h=>by
 obtain⟨e,i,rfl⟩:=List.getElem_of_mem h;obtain⟨k,l,m,-,-,-,-,n,o,p,-,-,j⟩:=g.el e H[e] (Qq i);exact j
theorem aw.HD:∀{l:List aj} {S:aw} {a:aj},a∈S.l->a∈(S.fe l).l
 |[],S,a,b=>b
 |e::l,S,a,b=>aw.HD (l:=l) (S:=(S.add e).2) (by
  rcases S.ig e with⟨-,c⟩|⟨d,-⟩
  ·rw [c];exact b
  ·rw [d];exact(cW e S.l).mem_iff.2 (QJ _ b))
variable{f0:cy}
theorem Am (b:B.Cl) (c:B.n=f0.bR.toNat) (a:List aj):ef f0 B a=B.fe a:=by
 unfold ef;rw [aw.NC,<-c,b.Tj]
section
variable {w w' w0:World} {p:Nat} {F E T:Nat->Prop} {cls:Nat->Nat} {h:iP} {c:cy} {self:Int} {X:bE} {evs:List aj} {ea:Option Addr} {en ec:Nat}
theorem kH.bR (a:kH c self):c.bR=(c.bR.toNat:Int)/\c.bR.toNat<=64/\1<=c.bR.toNat:=by
 have:=a.right;unfold jh within at this;simp only [QK,decide_eq_true_eq]at this;omega
theorem HE (t:cu w F cls p h c self X) (b0:kH c self) (hr:Row f_ 96 w E ea en evs) (u:∀a,E a->a<w.heap.size) (hl:X.S.l.length+evs.length<=20000000):
  Calls Tryz.prog 93 #[.pointer (some ⟨p,0,none⟩),.slice ea en ec] w (Ok λa0 w'=>∃M e,a0= .pointer (some ⟨M,0,none⟩)/\cj w' M e (ef c X.S evs)/\(∀a,e a->w.heap.size<=a)/\ai w w'):=by
 obtain⟨b1,b2,c5⟩:=b0.bR;have eR:=(t.at' 3).1;refine mT ⟨p,0,rfl,_,ae t.bg rfl,?_⟩;rw [b1];refine PC.ok (DP b2) ?_;rintro _ w7 ⟨v,l,rfl,N,x,m⟩;have i:=cu.ah t m;refine⟨_,rfl,p,0,rfl,_,ae i.bg rfl,PC.ok (qj (eR.ah m) oM) ?_⟩;rintro _ c6 ⟨a2,y,c1,G,rfl,j,z,n⟩;have O:=N.aC;have c7:=j.aC;have z7:=m.size;have c8:=z.size;have P:=m.then z;refine⟨_,_,_,rfl,yt j FM (hr.ah P) (λa b=>⟨by have:=u a b;omega,λA=>by have:=u a b;have:=n a (j.self a A);omega⟩) (by unfold aI;omega) (by unfold maxLen;omega) λa' c' o Q B C b3 _=>⟨_,_,_,rfl,?_⟩⟩;have b4:=B.len dC;have c9:=C.size;rw [QX]at b4;have a3:Row f_ 96 o Q a' (y+en) (X.S.l++evs):=B.row dC (by rw [QX];unfold aI;omega);have R:=B.aC;have S:∀a,Q a->¬l a:=λa b q=>by
  have f:=x a q;have h6:=O a q;rcases b3 a b with i|i|i
  ·have:=n a i;omega
  ·have:=u a i;omega
  ·omega
 have a4:ai w o:=P.new C λa b=>.inr (by have:=n a (j.self a b);omega);have a5:=(N.ah z).af C λa b A=>by have:=O a b;have:=n a (j.self a A);omega
 refine⟨λT H w'=>∃(d:Nat) (e:Nat->Prop),H=d/\d<=y+en/\T=y+en-d/\cj w' v e ((⟨c.bR.toNat,[]⟩:aw).fe ((X.S.l++evs).take d))/\(∀a,e a->l a\/o.heap.size<=a)/\ak l o w',⟨_,0,l,rfl,Qj _,rfl,a5,λa b=>.inl b,ak.refl _⟩,?_⟩;rintro T _ _ U ⟨d,e,rfl,hj,rfl,I,r,s⟩;have d0:=s.size;refine al.dec (λd1=>?_) (λd2=>?_)
 ·obtain⟨g,V⟩:∃g,(X.S.l++evs)[d]? =some g:=⟨_,Qq (by rw [QX];omega)⟩
  obtain⟨a,a1,es,ha,d3,d4,b5,J,K,L,rfl,b6,a7⟩:=(a3.af s S).el d g V;refine⟨a,a1,ha,oM,oM,bq (es:=aB g J K L) (k:=10) (aV _ _ _ _) rfl (λH ht=>by rw [Qx];exact b5 H ht) (PA.mk λd5 b7 d6 b8=>az (aV g J K L) b8 rfl λb9 c0 d7 c2=>ar (aV g J K L) c2 ?_)⟩;have k:ai U b9:=b7.new c0 λa b=>.inr (by have b:a=U.heap.size:=b;omega);have W:=aw.lH ((X.S.l++evs).take d) ⟨c.bR.toNat,[]⟩;rw [Qy,QX]at W;simp only [List.length_nil]at W;refine PC.ok (tk (I.ah k) (b6.ah k) (λa b=>⟨by have:=R a b;have:=k.size;omega,λq=>?_⟩) a7 oM) ?_
  ·rcases r a q with f|f
   ·exact S a b f
   ·have:=R a b;omega
  rintro _ c3 ⟨rfl,Y,c4,Z⟩;refine⟨_,rfl,_,oM,d+1,Y,aq oM,oM,rfl,?_,λa b=>?_,(s.ah k).new Z.af λa b=>r a b⟩
  ·rw [Qw,V]
   show cj c3 v Y (aw.fe _ ((X.S.l++evs).take d++[g]));rw [aw.qk];exact c4
  ·rcases Z.new a b with f|f
   ·exact r a f
   ·have:=k.size;exact .inr oM
 ·rw [Qz (by rw [QX];omega)]at I
  exact Ok.mk ⟨v,e,rfl,I,λa b=>(r a b).elim (x a) λf=>oM,a4.new s λa b=>.inr (x a b)⟩
end
end Go.Proofs.YthnilpgpacdmnaaGreatDoor

import Derived.Test.YtkpomgifkloklabGreatDoorKf21
set_option maxHeartbeats 4000000
set_option linter.all false
set_option maxRecDepth 20000
namespace Go.Proofs.YtkpomgifkloklabGreatDoor
open Go.aw
structure BL (c:bK) (X:dw) (B:List ah):Prop where
 lc:LC (λ_ e=>e∈B) c X
 dZ:∀m∈X.dZ,∀e∈m.events,e∈B
section
variable {c:bK} {X Y Z:dw} {k j:Nat} {i:Int} {R R':bh} {s:ei} {B:List ah} {e:ah}
def BL.sub(n:BL c X B)(P:X.aD[j]? =some R):∀e∈R.S.l,e∈B:=by
 obtain⟨⟨a,b⟩,-⟩:=n.lc j R P;exact b.sub
def BL.step(b:BL c X B)(l:yr c X)(m:s.Ok):∃n,n.length<=B.length+1/\BL c (cA c X s).2 n:=by
 have key:∃n:List ah,n.length<=B.length+1/\(∀e∈B,e∈n)/\∀(i:Nat) R,s.n=i->X.aD[i]? =some R->(fP c.decl R.S (bR c.decl R.S.l) i c.start s.cmd).1∈n:=by
  cases P:X.aD[s.n.toNat]? with
  |none=>exact⟨B,oM,λe g=>g,λi R a f=>by rw[a,Qx,f]at P;cases P⟩
  |some R=>
   refine⟨(fP c.decl R.S (bR c.decl R.S.l) s.n c.start s.cmd).1::B,sM,λe g=>QJ _ g,λi R' a f=>?_⟩;rw[a,Qx,f]at P
   injection P with P;subst P
   rw[a];exact QV ..
 obtain⟨n,o,d,p⟩:=key;refine⟨n,o,OO (b.lc.Wt λi e g=>d e g) l m (λ_ h j i a e g=>d e (b.dZ h (xj j) e g)) (λi R a P _=>p i R a P),λh j e g=>?_⟩;rcases Ml j with k|k
 ·exact d e (b.dZ h k e g)
 ·obtain⟨i,R,q,r⟩:=k e g
  exact d e (b.sub q e r)
def Fk{a d:Type}{f:a->d}:∀{n B:List a},(n.map f).Nodup->(∀x∈n,x∈B)->n.length<=B.length
 |[],B,_,_=>Qj _
 |x::n,B,h,b=>by
  obtain⟨g,i,rfl⟩:=List.append_of_mem (b x (QV ..));rw[QY,List.nodup_cons]at h;have:=Fk (B:=g++i) h.2 λP c=>by
   have j:P≠x:=λe=>h.1 (Xk.2 ⟨P,c,by rw[e]⟩);have:=b P (QJ _ c);simp only[Q6,Q2]at this⊢;rcases this with h|h|h
   ·exact .inl h
   ·exact Zz h j
   ·exact .inr h
  simp only[QX,Xq]at this⊢;omega
def BL.len(P:BL c X B)(a:yr c X)(n:X.aD[j]? =some R):R.S.l.length<=B.length:=
 Fk (a.cl R (QZ n)).1.ok.ids (P.sub n)
end
def SQ(a:List ah):∀n:aY,((a.foldl (λn P=>(n.add P).2) n).entries.map (·.ev))=n.entries.map (·.ev)++a:=by
 induction a with
 |nil=>intro n;simp
 |cons P a b=>
  intro n;rw[List.foldl_cons,b];have:(n.add P).2.entries.map (·.ev)=n.entries.map (·.ev)++[P]:=by
   show((n.try P).2.2.entries++[_]).map _=_;have:(n.try P).2.2.entries=n.entries:=by rw[aY.py];split;rfl;split;rfl;split<;>rfl
   rw[this];simp
  rw[this,XQ];rfl
def QI(P a:Int)(n:ah):Bool:=n.aX==P&&n.agg==a
def Ht(n:aR)(P:List ah)(a b:Int):List cN:=(bR n P).entries.filter λc=>QI a b c.ev
def JV(a:aR)(b:List ah)(n P:Int):(Ht a b n P).map (·.ev)=b.filter (QI n P):=by
 unfold Ht;have c:=SQ b (aY.new a);rw[show(aY.new a).entries.map (·.ev)=[]from rfl,List.nil_append]at c;rw[show(λd:cN=>QI n P d.ev)=QI n P∘(·.ev)from rfl,<-List.filter_map]
 congr 1
def JS(P:aR)(n:List ah)(a b:Int):(Ht P n a b).length<=n.length:=by
 have:=Zj List.length (JV P n a b);rw[Q8]at this;rw[this];exact List.length_filter_le ..
def JT(P:aR)(a:List ah)(b c:Int)(n:Nat):(lb P a b c n).code=0/\(lb P a b c n).Gm=((Ht P a b c).drop n).take 32/\(lb P a b c n).more=decide (32<((Ht P a b c).drop n).length):=by
 unfold lb jR Ht QI;dsimp only;rw[show(max (n:Int) 0).toNat=n by omega];exact⟨rfl,rfl,rfl⟩
variable{o:Array Value}{e:Int}{a6:List PanicEntry->ba}{a:Nat}{f:UL}{d:bc}{h:Program}{j:Type}{C g q:TypeId}{m t:ac}{b:World}{z:ba}{g9:World->ba}{M l:ah}{B:aq}{c7:bh}{c6:kv}
def SO(n:B.Cl)(P:B.l[a]? =some l)(b:B.l[a+1]? =some M):eB l M=true:=by
 obtain⟨c,rfl⟩:=Qv.1 P;obtain⟨d,rfl⟩:=Qv.1 b;exact List.pairwise_iff_getElem.1 n.ok.QE a (a+1) c d oM
def Yg{c:kq j}{p k:Nat}{r:List j}{bytes:Nat}{x:j}(i:aT c g f b d p k r)(I:jU h q g c.k bytes){D:UL}(y:c.rep b D x o.toList)(s:∀n,D n->n<b.heap.size/\aH d≠some n)(P:(r.length+1)*bytes<=aP)(N:r.length+1<=maxLen)(z:∀l e A u,aT c g u A l (p+1) e (r++[x])->aj (λE=>aH d=some E) b A->(∀n,u n->f n\/D n\/b.heap.size<=n)->(∀n,aH l=some n->aH d=some n\/b.heap.size<=n)->m (.slice l (p+1) e) A):
  PA b (.cells o g) λF=>aJ h (Builtin.append_ #[q,q] C #[.slice d p k,.slice (UV b.heap.size) 1 1]) F m t:=by
 have J:=i.len I.pos;obtain⟨cs,O,Q,R,v⟩:=i.body;refine PA.mk λF K W S=>?_;have X:=c.len y;have T:=Q.af K;refine uU I (news:=o.toList) T S (by rw[Qz oM]) oM (c.one y) (by rw[J];exact P) (by rw[J];exact N) λl U w L M B=>?_;have H:aj (λE=>aH d=some E) b w:=(ai.keep K).then (M.mono λ_ _ i=>i.symm)
 let u:UL:=λn=>f n\/D n\/(b.heap.size<=n/\n<w.heap.size)
 have Y:F.heap.size<=w.heap.size:=M.size;refine z l U w u ⟨⟨_,λn=>O n\/D n,L,cd.append ((R.keep H λn P=>(v n P).2).mono λn P=>.inl P) (cd.one (c.mono (c.keep y H λn P=>(s n P).2) λn P=>.inr P)),?_⟩,?_,?_⟩ H ?_ ?_
 ·intro n P
  have Z:n<b.heap.size:=P.elim (λa=>i.aE n (v n a).1) λa=>(s n a).1;refine⟨P.elim (λa=>.inl (v n a).1) λa=>.inr (.inl a),?_⟩;rcases B with B|B
  ·rw[B];exact P.elim (λa=>(v n a).2) λa=>(s n a).2
  ·rw[B];intro V;cases V;omega
 ·intro n P
  rcases B with B|B
  ·exact .inl (i.self n (B▸P))
  ·have:=L.lt P
   rw[B]at P;cases P;exact .inr (.inr ⟨oM,this⟩)
 ·rintro n (P|P|P)
  ·have:=i.aE n P;omega
  ·have:=(s n P).1;omega
  ·exact P.2
 ·rintro n (P|P|P)
  ·exact .inl P
  ·exact .inr (.inl P)
  ·exact .inr (.inr P.1)
 ·intro n P
  rcases B with B|B
  ·exact .inl (B▸P)
  ·rw[B]at P;cases P;exact .inr oM
def NV(n P a:Int):List Value:=[WP n,WP P,WP a]
abbrev NW(n P a:Int):Value:=.agg (NV n P a).toArray
def stOp(n P a:Int):iA LL 106 (NV n P a)=true:=kR
def Yf(n P a:Int):TF (dL LL 106) (NW n P a)=true:=kR
section
variable {w w' w0 w1 w2 wb:World} {p q i k g:Nat} {F F1 F' G G' T D E S:UL} {c:bK} {X Y:dw} {s:ei} {x:gF} {v:Value} {ta pa la:bc} {tn tc pn pc ln lc:Nat} {l:List ei}
def JO{x:ah}{b c:Nat}:be 43 #[.agg (aF x d b c).toArray] w (Ok λv w'=>v=NW x.az x.origin x.seq/\ai w w'):=by
 refine IQ (PA.mk λw1 e k f=>PA.mk λw2 P l g=>?_);have n:=P.get f id;refine⟨_,ae n rfl,_,ae n rfl,_,ae n rfl,aC (stOp x.az x.origin x.seq) g rfl λm h o i=>ar (stOp x.az x.origin x.seq) i (Ok.mk ⟨rfl,(e.then P).new h λj a=>.inr (by have a:j=w1.heap.size:=a;omega)⟩)⟩
def sY{b c d e f g:Int}:be 44 #[NW b c d,NW e f g] w (Ok λv w'=>v= WP (Fj [uO b e,uO c f,uO d g])/\ai w w'):=by
 refine oW (PA.mk λw1 j q k=>PA.mk λw2 h r l=>λm o=>?_);have n:ai w2 m:=o.keep;have P:=n.get (h.get k id) id;have a:=n.get l id;refine⟨λ_=>False,_,_,rfl,dC,dC,_,ae P rfl,_,_,rfl,dC,dC,_,ae a rfl,_,_,rfl,dC,dC,id,_,ae P rfl,_,_,rfl,dC,dC,id,_,ae a rfl,_,_,rfl,dC,dC,id,_,ae P rfl,_,_,rfl,dC,dC,id,_,ae a rfl,PC.ok eA ?_⟩;rintro _ _ ⟨rfl,rfl⟩;refine⟨_,rfl,aj.refl _,PC.ok eA ?_⟩;rintro _ _ ⟨rfl,rfl⟩;refine⟨_,rfl,aj.refl _,PC.ok eA ?_⟩;rintro _ _ ⟨rfl,rfl⟩;refine⟨_,rfl,aj.refl _,PA.mk λs i t p=>⟨ai.keep i,PC.ok (KP p) ?_⟩⟩;rintro _ _ ⟨rfl,rfl⟩;exact⟨_,rfl,aj.refl _,Ok.mk ⟨rfl,((j.then h).then n).then i⟩⟩
def SM{x n:ah}(P:eB x n=true):Fj [uO x.az n.az,uO x.origin n.origin,uO x.seq n.seq]<0:=by
 rw[iJ]at P;unfold Fj Fj Fj Fj uO
 repeat' split
 all_goals omega
def MF{x n:ah}{a b:bc}{d c e f:Nat}(k:eB x n=true):be 24 #[.agg (aF x a d c).toArray,.agg (aF n b e f).toArray] w (Ok λv w'=>v= .bool true/\ai w w'):=by
 refine DJ (PA.mk λw1 l t m=>PA.mk λw2 g u o=>λp q=>?_);have P:ai w2 p:=q.keep;have r:=P.get (g.get m id) id;have s:=P.get o id;refine⟨λ_=>False,ar (bb x a d c) r ⟨id,ar (bb n b e f) s (PC.ok JO ?_)⟩⟩;rintro _ y ⟨rfl,h⟩;refine cu (Yf _ _ _) ⟨rfl,ai.keep h,PC.ok JO ?_⟩;rintro _ z ⟨rfl,i⟩;refine cu (Yf _ _ _) ⟨rfl,ai.keep i,PC.ok sY ?_⟩;rintro _ A ⟨rfl,j⟩;exact⟨_,rfl,ai.keep j,Ok.mk ⟨by rw[Zy (SM k)],((((l.then g).then P).then h).then i).then j⟩⟩
def UP{P n:TypeId}{bytes:Nat}(d:jU h P n 1 bytes){z:Value}(a:(h.info? n).bind (·.zero)=some z)(g:z.cells= #[z]){l:Nat}(j:l*bytes<=aP)(k:l<=aP){w:World}(o:∀w',ai w w'->w'.heap.size=w.heap.size+1->w'.heap[w.heap.size]? =some (.cells (List.replicate l z).toArray n (0,0))->m (.slice (UV w.heap.size) l l) w'):
  aJ h (Instr.makeSlice P (WP (l:Int)) (WP (l:Int))) w m t:=by
 unfold aP at j k;obtain⟨i,b,e,f,p,q,u⟩:=jU.info d;have r:b=z:=by
  rw[e]at a;simp only[Option.bind_some,f]at a;exact XJ a
 subst r;have c:=run_make (P:=h) w P n i _ d.under e f .i64 .i64 l l oM oM (by rw[q,Int.mul_comm,<-Int.natCast_mul];omega) oM;simp only[Qx,p,Nat.mul_one]at c;have s:madeCells b.cells l=(List.replicate l b).toArray:=by
  apply Array.ext';unfold madeCells;rw[Array.toList_map,g];apply List.ext_getElem
  ·simp
  ·intro v x y
   simp[Nat.mod_one]
 rw[s]at c;exact aJ.mk c (o _ (aj.alloc w _) sM (heap_alloc_new w _))
def UQ(n:aq)(P:Nat):n.sA P<=n.l.length:=List.countP_le_length
set_option maxHeartbeats 2000000 in
def yO(g:B.Cl){n:Nat}(Z:B.n=n)(s:Row jh 96 w E d ln B.l):
  be 7 #[.slice d ln lc,WP (n:Int)] w (Ok λv w'=>v= .bool true/\ai w w'):=by
 have c2:=g.ok.n;have c3:=s.len;have a4:=s.eR;unfold aP at a4;subst Z;refine By (UP SN (z:=WP 0) kR rfl ce ce λw1 k1 s1 g1=>⟨_,_,_,rfl,?_⟩);have a5:(aq.vec ⟨B.n,B.l.take 0⟩).map (λx=>Value.int .i64 x)=List.replicate B.n (WP 0):=by
  rw[List.take_zero,List.eq_replicate_iff];refine⟨by rw[Q8,aq.bI],λa b=>?_⟩;obtain⟨x,h,rfl⟩:=Xk.1 b;unfold aq.vec at h;obtain⟨m,-,rfl⟩:=Xk.1 h;simp[aq.sA]
 refine⟨λi c w'=>∃k:Nat,c=k/\k<=ln/\i=ln-k/\ai w w'/\w'.heap[w.heap.size]? =some (.cells ((aq.vec ⟨B.n,B.l.take k⟩).map λx=>Value.int .i64 x).toArray 3 (0,0)),
  ⟨_,0,rfl,Qj _,rfl,k1,by rw[a5];exact g1⟩,?_⟩
 rintro i _ _ w2 ⟨k,rfl,hk,rfl,o,I⟩;refine al.dec (λc4=>?_) (λ_=>Ok.mk ⟨rfl,o⟩);have J:=s.af o;obtain⟨a,m,x,es,rfl,b,-,h,hc,t,u,y,rfl,K,b5⟩:=J.AV (i:=k) oM;obtain⟨⟨z,j,A,a0⟩,c5,a6,L⟩:=g.Ww h;have c6:=K.len;refine⟨a,m,rfl,oM,oM,bT (es:=aF x t u y) (k:=10) (bb _ _ _ _) rfl (λc C=>by rw[Qx];exact hc c C) (PA.mk λw3 k3 s3 g3=>aC (bb x t u y) g3 rfl λp k4 s4 M=>?_)⟩;have l:ai w2 p:=k3.new k4 λa b=>.inr (by have b:a=w2.heap.size:=b;omega);have z2:=o.size;have c7:=l.size;have a7:∀P,aq.sA ⟨B.n,B.l.take k⟩ P<=ln:=λP=>Xx (UQ _ _) (by show(B.l.take k).length<=_;rw[Qy];omega);have N:∀{P:Nat},P<B.n->((aq.vec ⟨B.n,B.l.take k⟩).map λx=>Value.int .i64 x).toArray[0+P]? =some (WP (aq.sA ⟨B.n,B.l.take k⟩ P:Int)):=λ{P} O=>by
  rw[Xz];simp[aq.lg ⟨B.n,B.l.take k⟩ O]
 refine⟨λw'=>ai p w',λQ d5=>?_,?_⟩
 ·have e:ai p Q:=d5.keep
  have q:=e.get M id;refine⟨_,ae q rfl,al.dec (λb6=>by exfalso;omega) (λ_=>⟨_,ae q rfl,al.dec (λb8=>by exfalso;omega) (λ_=>⟨_,_,_,ae q rfl,al.eP (λa8=>Zz oM a8) (λ_=>al.dec (λc8=>?_) (λ_=>e))⟩)⟩)⟩;have hw:IntKind.wrap .i64 ((k:Int)-1)=((k-1:Nat):Int):=by rw[wrap_i64 cw];omega
  rw[hw];obtain⟨b2,o2,a1,fs,a9,c9,-,hy,b0,r1,r2,r3,rfl,hr,-⟩:=((J.af l).af e).AV (i:=k-1) oM;obtain⟨rfl,rfl⟩:a=b2/\m=o2:=by simpa using a9
  have a2:=SO g hy (show B.l[k-1+1]? =some x by rw[show k-1+1=k by omega];exact h);refine⟨a,m,rfl,oM,oM,bT (es:=aF a1 r1 r2 r3) (k:=10) (bb _ _ _ _) rfl (λc C=>by rw[Qx];exact b0 c C) (ar (bb x t u y) q (PC.ok (MF a2) ?_))⟩;rintro _ R ⟨rfl,k6⟩;exact⟨_,rfl,al.ff rfl (e.then k6)⟩
 rintro _ Q e;refine⟨λi c w'=>∃P:Nat,c=P/\P<=B.n/\i=B.n-P/\ai p w',⟨_,0,rfl,Qj _,rfl,e⟩,?_⟩;rintro i _ _ R ⟨P,rfl,O,rfl,f⟩;have S:=f.get M id;have T:=(l.then f).get I id;refine al.dec (λb9=>?_) (λ_=>λw7 d7=>?_)
 ·obtain⟨b7,o7,c0,b1,d0,hz,d1,b3⟩:=((K.af (l.then f)).qJ).at (i:=(P:Int)) oM oM
  have h1:=a6 P;rw[Jl,Zx (show P<(⟨B.n,B.l.take k⟩:aq).n by show P<B.n;omega),Hd oM hz]at h1;exact⟨_,_,_,ae S rfl,b7,o7,b1,oM,oM,_,b3,w.heap.size,0,rfl,oM,oM,_,by rw[Qx];exact ae T (N oM),λF d8=>al.dec (λd2=>by exfalso;omega) (λ_=>⟨_,oM,P+1,an oM,oM,rfl,f.then d8.keep⟩)⟩
 have r:ai R w7:=d7.keep;have H:=r.get S id;have U:=r.get T id;have d3:=a7 z;have b4:IntKind.wrap .i64 ((aq.sA ⟨B.n,B.l.take k⟩ z:Int)+1)=x.seq:=by rw[wrap_i64 cw];exact a0.symm
 have d4:=(f.then r).size;refine⟨_,ae H rfl,_,ae H rfl,w.heap.size,0,rfl,oM,oM,_,by rw[j,Qx];exact ae U (N A),w.heap.size,0,rfl,oM,oM,?_⟩;rw[j,Qx,b4];refine PS.mk U (by simp[aq.bI];exact A) λF V s8 g8=>?_;have c1:=aA I;have W:=V.get H (show¬w2.heap.size=w.heap.size by omega);have X:F.heap[w.heap.size]? =some (.cells ((aq.vec ⟨B.n,B.l.take (k+1)⟩).map λx=>Value.int .i64 x).toArray 3 (0,0)):=by
  rw[g8,L,j,Qx,Xz];simp[List.map_set]
 have a3:((aq.vec ⟨B.n,B.l.take (k+1)⟩).map λx=>Value.int .i64 x).toArray[0+z]? =some (WP x.seq):=by
  rw[L,j,Qx,Xz];simp[aq.bI,A]
 refine⟨_,ae W rfl,_,ae W rfl,w.heap.size,0,rfl,oM,oM,_,by rw[j,Qx];exact ae X a3,λw9 Y=>al.eP (λg=>Zz rfl g) (λ_=>⟨_,oM,k+1,an oM,oM,rfl,?_,(show ai F w9 from Y.keep).get X id⟩)⟩;exact((((o.then l).then f).then r).new V λa b=>.inr (by have b:a=w.heap.size:=b;omega)).then Y.keep
end
section
variable {w w' w0 w1 w2 wb:World} {p q i k g:Nat} {F F1 F' G G' T D E S:UL} {c:bK} {X Y:dw} {s:ei} {x:gF} {v:Value} {ta pa la:bc} {tn tc pn pc ln lc:Nat} {l:List ei}
def JP:be 13 #[] w (Ok λv w'=>∃ta tn tc pa pn pc G,v=xi sX ta tn tc pa pn pc/\bt w' G sX.decl ta tn pa pn/\(∀n,G n->w.heap.size<=n/\n<w'.heap.size)/\ai w w'):=by
 refine Bt (PA.mk λw1 f p g=>PA.mk λw2 d q h=>PA.mk λr b s i=>aC (Iy sX (UV w2.heap.size) 1 1 none 0 0) (b.get (d.get g id) id) rfl λe c t j=>ar (Iy sX (UV w2.heap.size) 1 1 none 0 0) j (Ok.mk ?_));have k:=c.get (b.get h id) (λa=>by have a:w1.heap.size=w.heap.size:=a;omega);have l:=c.get i (λa=>by have a:w2.heap.size=w.heap.size:=a;omega);have m:Row tR 48 e (λn=>n=w1.heap.size\/False) (UV w1.heap.size) 1 [⟨1,1,true,[]⟩]:=
  Row.NX (c:=tR) (xs:=[⟨1,1,true,[]⟩]) (D:=λ_=>False) k ⟨_,_,rfl,⟨none,0,0,rfl,di _ _,i10 rfl,i10 rfl⟩,rfl⟩ dC dC
 have o:Row ns 24 e (λn=>n=w2.heap.size\/n=w1.heap.size\/False) (UV w2.heap.size) 1 sX.decl.types:=
  Row.NX (c:=ns) (xs:=[[⟨1,1,true,[]⟩]]) (D:=λn=>n=w1.heap.size\/False) l ⟨_,_,rfl,⟨_,_,_,rfl,m⟩,rfl⟩ dC dC
 refine⟨_,_,_,_,_,_,λn=>n=w2.heap.size\/n=w1.heap.size\/False,rfl,⟨o,di _ _⟩,λn P=>?_,((f.then d).then b).new c λn P=>.inr (by have P:n=w.heap.size:=P;omega)⟩;rcases P with rfl|rfl|P
 ·omega
 ·omega
 ·exact P.elim
def yd(e:bY w0 w p F c X)(f:fI k X)(g:k<=999)(h:s.Ok)(n:∀P F',bY w0 P p F' c (cA c X s).2->fI (k+1) (cA c X s).2->cm F w F' P->z P):
  PC LL 6 #[RK p,iL s] w (λv a=>tT (dL LL 44) λx=>v=x/\z a) a6:=by
 refine PC.ok (Gv e f g h) ?_;rintro _ a ⟨F',i,b,d,j⟩;exact Vr i.at' (n a F' b d j)
set_option maxHeartbeats 2000000 in
def SP(U:fy w0)(V:Laid w0)(W:ai w0 w):be 5 #[] w (Ok λv w'=>v= .bool true/\ai w w'):=by
 obtain⟨X,a0,c,a1,a2,a4,x,Y,Z,e2,e3,e4,e5,e6,q1,q2,q3,q4,q5,q6,q7,h⟩:=Mk;refine IT (PC.ok JP ?_);rintro _ w2 ⟨ta,tn,tc,pa,pn,pc,G2,rfl,a5,a6,j⟩;refine cu (XR sX ta tn tc pa pn pc) ⟨rfl,PC.ok (Nv (c:=sX) U V (W.then j) a5 (λc e=>(a6 c e).2) (i10 rfl) (i10 rfl) (i10 rfl)) ?_⟩;rintro v5 w5 k;unfold RA at k;rw[Y]at k;obtain⟨k5,⟨a7,-⟩|⟨-,p,F,rfl,t,hF,u⟩⟩:=k
 ·exact Zz rfl a7
 dsimp only at t u;generalize sX=c2 at*;have a8:=j.then k5;have a9:∀c,F c->w.heap.size<=c:=λc e=>by have:=hF c e;have:=j.size;omega
 refine⟨_,_,rfl,al.eP (λn=>Zz rfl n) (λ_=>jy Tryz.underlying31 ⟨_,rfl,al.ff rfl ?_⟩)⟩;refine MG (k:=0) (s:=⟨1,0,0,⟨0,0,0,1,3,-1,4⟩⟩) t u oM ⟨i10 rfl,i10 rfl,i10 rfl,i10 rfl,i10 rfl,i10 rfl,i10 rfl,i10 rfl,i10 rfl⟩ λwa w8 Fa za y z a P=>?_;rw[Z]at y z P;refine MG (s:=⟨1,0,0,⟨0,0,0,1,-4,-1,0⟩⟩) y z oM ⟨i10 rfl,i10 rfl,i10 rfl,i10 rfl,i10 rfl,i10 rfl,i10 rfl,i10 rfl,i10 rfl⟩ λwb w9 Fb zb A B C b=>?_;rw[e2]at A B b;have P:=P.nh C;have a:=a.trans C;refine yd (s:=⟨2,1,0,xR⟩) A B oM (wJ rfl) λc4 Fd E H l=>?_;rw[e3]at E H;have P:=P.nh l;have b:=b.nh l;have a:=a.trans l;refine yd (s:=⟨3,0,0,xR⟩) E H oM (wJ rfl) λc5 Fe I J m=>?_;rw[e4]at I J;have P:=P.nh m;have b:=b.nh m;have a:=a.trans m;refine yd (s:=⟨3,0,0,xR⟩) I J oM (wJ rfl) λc6 Ff K L o=>?_;rw[e5]at K L;have P:=P.nh o;have b:=b.nh o;have a:=a.trans o;refine MG (s:=⟨10,1,0,xR⟩) K L oM (wJ rfl) λwx b0 Fx zx M b1 q N=>?_;rw[e6]at M b1 N;have P:=P.nh q;have b:=b.nh q;have a:=a.trans q;obtain⟨ya,d,b2,b3,b4⟩:=P.get;obtain⟨yb,r,b5,-⟩:=b.get;obtain⟨c7,c8,c9,d0,en2,d1,d2,d3,d4,Gg,s,O,-,-⟩:=N;have d5:=O.len;obtain⟨b9,o9,d6,d7,d8,rfl,d9,-,a3,-⟩:=nq (i:=0) O oM;have f:ai w b0:=a8.new a.keep λc e=>.inr (a9 c e);have i:∃g,x.2.aD[1]? =some g/\g.S.vec=[1,0]:=by
  cases Q:x.2.aD[1]? with
  |none=>rw[Q]at h;cases h
  |some g=>rw[Q]at h;exact⟨g,rfl,by simpa using h⟩
 obtain⟨R1,i,b6⟩:=i;refine⟨_,ae d b2,al.ey (λ_=>⟨_,_,ae d b3,ae d b4,aJ.mk Sm ⟨_,rfl,al.tt (by rw[q2,q3];rfl) ⟨_,ae r b5,al.ey (λ_=>⟨_,ae s rfl,al.ey (λ_=>⟨_,_,_,ae s rfl,al.ey (λ_=>⟨_,_,_,ae s rfl,b9,o9,rfl,oM,oM,_,a3,al.ey (λ_=>PC.ok (TX M) ?_) (λn=>Zz q7 n)⟩) (λn=>by exfalso;omega)⟩) (λn=>Zz q5 n)⟩) (λn=>Zz q4 n)⟩⟩⟩) (λn=>Zz q1 n)⟩;rintro _ e7 (⟨n,-⟩|⟨g,n,e8,e9,f2,f4,rfl,R,b7,c3⟩)
 ·rw[show(1:Int)=((1:Nat):Int)from rfl,iq,i]at n;cases n
 rw[show(1:Int)=((1:Nat):Int)from rfl,iq,i]at n;injection n with n;subst n;rw[b6]at R;refine⟨_,_,_,rfl,PA.mk λf5 S f7 b8=>PC.ok (tr ((R.af S).row dC (by unfold aP;simp)) (Row.lit b8 [1,0] rfl (λc0 T=>by simp at T;rcases T with rfl|rfl<;>(unfold aK;omega)) (by unfold aP;simp))) ?_⟩;rintro _ f9 ⟨rfl,c1⟩;exact⟨_,rfl,Ok.mk ⟨rfl,((f.then b7).then S).then c1.keep⟩⟩
def PO(r:fy w0)(s:Laid w0)(t:ai w0 w)(g:bt w D c.decl ta tn pa pn)(u:∀n,D n->n<w.heap.size)(x:Row Et 80 w E la ln l)(Q:∀n,E n->n<w.heap.size)(y:aK c.bj)(z:aK c.every)(A:aK c.start):
  be 4 #[Gw c ta tn tc pa pn pc la ln lc] w (Ok λv w'=>ai w w'/\((∃p,v= .tuple #[.pointer p,.bool false])\/∃p F,v= .tuple #[RK p,.bool true]/\bY w0 w' p F c (tU c).2/\(∀n,F n->w.heap.size<=n)/\fI 0 (tU c).2/\(tU c).1=0/\l.length<=300)):=by
 refine GO (PA.mk λw1 b R h=>ar (RB c ta tn tc pa pn pc la ln lc) h (PC.ok (Lq (g.af b) (x.af b)) ?_));rintro _ S ⟨⟨T,rfl,B⟩,i⟩;have P:=b.then i;have j:=i.get h id;refine⟨_,rfl,al.mk (λ_=>Ok.mk ⟨P,.inl ⟨_,rfl⟩⟩) (λC=>?_)⟩;refine T_ j (PC.ok (Nv r s (t.then P) (g.af P) (λn d=>by have:=u n d;have:=P.size;omega) y z A) ?_);rintro U H ⟨e,⟨I,rfl⟩|⟨J,p,F,rfl,k,K,L⟩⟩
 ·exact⟨_,_,rfl,al.ey (λa=>Zz a I) (λ_=>λm f=>Ok.mk ⟨(P.then e).then f.keep,.inl ⟨_,rfl⟩⟩)⟩
 have o:=e.get j id;have M:=P.then e;have V:=P.size;obtain⟨-,N,O,-⟩:=k.len;refine⟨_,_,rfl,al.ey (λ_=>⟨_,λW=>lz Tryz.underlying31 _ _ _ _,al.mk (λ_=>⟨_,ae o rfl,al.dec (λ_=>⟨_,ae o rfl,λm f=>?_⟩) (λa=>Zz N a)⟩) (λa=>by cases a)⟩) (λa=>Zz rfl a)⟩;have q:ai H m:=f.keep;exact Ok.mk ⟨M.then q,.inr ⟨p,F,by rw[Zy (by exact O)],k.af q,λn d=>by have:=K n d;omega,L,J,B C⟩⟩
def UR(q:bY w0 w p F c X)(C:fI k X)(E:k<=999)(H:s.Ok)(l:∀(P b:World) (F' G:UL) (i:Array Value) (e:bc) (f g:Nat),w.heap.size<=P.heap.size->bY w0 b p F' c (cA c X s).2->cm F w F' b->b.heap[P.heap.size]? =some (.cells i 44 (0,0))->i[0]? =some (WP (cA c X s).1.code)->i[5]? =some (.slice e f g)->i[7]? =some (.bool (cA c X s).1.more)->Row tJ 120 b G e f (cA c X s).1.Gm->(∀n,G n->w.heap.size<=n/\n<b.heap.size/\¬F' n)->g9 P b):
  PC LL 6 #[RK p,iL s] w (λv P=>tT (dL LL 44) λx=>v=x/\PA P (.cells #[WP 0,WP 0,WP 0,WP 0,.slice none 0 0,.slice none 0 0,.slice none 0 0,.bool false] 44) λw2=>nw LL 44 (RK P.heap.size) x w2 λb=>g9 P b) a6:=by
 refine PC.ok (Gv q C E H) ?_;rintro _ P ⟨F',⟨r,t,u,e,f,g,y,z,A,G,rfl,O,I,Q,j⟩,h,J,B⟩;have K:=h.aE;have L:=B.keep.size;refine cu (Ns _ r t u e f g y z A) ⟨rfl,PA.mk λw2 m R M=>aC (il _ r t u e f g y z A) M rfl λb o S N=>l P b F' G _ e f g L ?_ ?_ N rfl rfl rfl ?_ ?_⟩
 ·exact(h.af m).keep o (λn d a=>by have a:n=P.heap.size:=a;have:=K n d;omega) λn a=>by have a:n=P.heap.size:=a;have:=q.env.gr.size;omega
 ·exact(B.af m).last o λn a=>by have a:n=P.heap.size:=a;omega
 ·exact(I.af m).keep o λn d a=>by have a:n=P.heap.size:=a;have:=(j n d).2.1;omega
 ·exact λn d=>⟨(j n d).1,by have:=(j n d).2.1;omega,(j n d).2.2⟩
def JQ(n:X.aD[a]? =some c7):(cA c X ⟨9,a,e,c6⟩).1=lb c.decl c7.S.l c6.aX c6.agg e:=by
 unfold cA;dsimp only;rw[Zq oM,Zq oM,Zq oM,Zq oM,Zq oM,iq,n];dsimp only;rw[Zq oM];unfold iB;dsimp only;rw[Zq oM,Zq oM,Zq oM,Zx rfl]
set_option maxHeartbeats 2000000 in
def JR{e f:Int}(L:bY w0 w p F c X)(W:fI k X)(Y:k<=999)(Z:X.aD[a]? =some c7)(hl:c7.S.l.length<=3000)(hr:a<=1000)(ht:aK e)(ha:aK f):
  be 9 #[RK p,WP (a:Int),WP e,WP f] w (Ok λv w'=>∃(q:bc) (g r:Nat) (G F':UL),v= .tuple #[.slice q g r,.bool true]/\aT tJ 60 G w' q g r (Ht c.decl c7.S.l e f)/\bY w0 w' p F' c X/\cm F w F' w'/\∀n,G n->w.heap.size<=n/\¬F' n):=by
 have a3:=Xx (JS c.decl c7.S.l e f) hl;have x:aK 0:=by unfold aK;omega
 have M:=λk:Nat=>JT c.decl c7.S.l e f k;generalize Ht c.decl c7.S.l e f=own at a3 M⊢;refine BA ⟨λN q g r i w'=>∃(b:Nat) (G F':UL),i=b/\b<=100/\N=100-b/\aT tJ 60 G w' q g r (own.take (32*b))/\bY w0 w' p F' c X/\cm F w F' w'/\(∀n,G n->w.heap.size<=n/\¬F' n)/\32*b<=own.length,
  ⟨_,0,λ_=>False,F,rfl,oM,rfl,by simpa using aT.nil w,L,cm.refl _ _,λn d=>d.elim,oM⟩,?_⟩
 rintro N q g r _ _ w1 ⟨b,G1,F1,rfl,hj,rfl,y,O,H,j,b1⟩;have hn:=y.len dC;rw[Qy]at hn;have a4:g=32*b:=oM
 subst a4;refine al.dec (λb2=>?_) (λb3=>by exfalso;omega);obtain⟨p1,p2,p3⟩:=M (32*b);have a5:kv.Ok ⟨e,f,0,0,0,0,0⟩:=⟨ht,ha,x,x,x,x⟩
 refine UR (s:=⟨9,a,(32*b:Nat),⟨e,f,0,0,0,0,0⟩⟩) O W Y ⟨by show aK (9:Int);unfold aK;omega,by show aK (a:Int);unfold aK;omega,by show aK ((32*b:Nat):Int);unfold aK;omega,a5⟩ λwa w3 s G3 ca ea en ec b4 I l m z Q t u A=>?_;rw[Lu (.inl rfl)]at I;rw[JQ Z]at z t u;dsimp only at z t u;rw[p1]at z;rw[p2]at u;rw[p3]at t;have a6:=u.len;rw[Qy]at a6;have b5:=H.keep.size;have b0:=O.aE;refine⟨λw'=>w3=w',⟨_,ae m z,al.eP (λh=>Zz rfl h) (λ_=>⟨_,ae m t,al.dec (λB=>⟨_,_,_,ae m Q,al.ey (λhe=>by exfalso;omega) (λ_=>rfl)⟩) (λ_=>rfl)⟩)⟩,?_⟩;rintro _ _ rfl;have a7:=y.keep l.keep λn d P=>(j n d).2 P;have o:=y.self;have C:=y.aE;refine⟨_,_,_,ae m Q,vW (c:=tJ) a7 NY u (λn d=>⟨(A n d).2.1,λP=>by have:=C n (o n P);have:=(A n d).1;omega⟩) (by rw[Qy,Qy];unfold aP;omega) (by rw[Qy,Qy];unfold maxLen;omega) λo' R S J E K a8 b6=>?_⟩;have b7:=aA m;have g4:=K.get m λP=>by have P:=C _ (o _ P);omega
 have T:bY w0 S p s c X:=I.keep K (λn d P=>(j n (o n P)).2 ((l.new n d).elim id λh=>by have:=C n (o n P);omega)) λn P=>by have:=(j n (o n P)).1;have:=L.env.gr.size;omega
 have U:cm F w s S:=⟨((H.trans l).keep.trans K (λ_ _ h=>h) λn d P=>by have:=(j n (o n P)).1;omega),(H.trans l).new⟩
 have a1:own.take (32*b)++(own.drop (32*b)).take 32=own.take (32*(b+1)):=by rw[Nat.mul_add,Nat.mul_one,List.take_add]
 rw[a1]at E;have V:∀n,J n->w.heap.size<=n/\¬s n:=λn d=>by
  have a9:=I.aE;rcases a8 n d with h|h|h
  ·exact⟨(j n h).1,λP=>(l.new n P).elim (j n h).2 λh2=>by have:=C n h;omega⟩
  ·exact⟨by have:=(A n h).1;omega,(A n h).2.2⟩
  ·exact⟨by have:=l.keep.size;omega,λP=>by have:=a9 n P;omega⟩
 refine⟨_,_,_,rfl,_,ae g4 t,al.not (al.dec (λB=>?_) (λB=>?_))⟩
 ·rw[XZ]at B
  exact⟨_,oM,b+1,J,s,an oM,oM,rfl,E,T,U,V,oM⟩
 ·rw[XZ]at B
  rw[Qz (show own.length<=32*(b+1) by omega)]at E;exact Ok.mk ⟨_,_,_,J,s,rfl,E,T,U,V⟩
end
section
variable {w w' w0 w1 w2 wb:World} {p q i k g:Nat} {F F1 F' G G' T D E S:UL} {c:bK} {X Y:dw} {s:ei} {x:gF} {v:Value} {ta pa la:bc} {tn tc pn pc ln lc:Nat} {l:List ei}
def WD{x:cN}{P c n:Nat}(a:n<10):(jT x d P c)[n]? =(aF x.ev d P c)[n]? :=by
 rcases n with _|_|_|_|_|_|_|_|_|_|n<;>first|rfl|omega
def JU{n:ah->Bool}{l:List ah}{P:ah}(b:l[a]? =some P):(l.take (a+1)).filter n=(l.take a).filter n++(if n P then [P]else []):=by
 rw[Qw,b,List.filter_append]
 congr 1
 simp[List.filter_cons]
def US{n x:ah}(P:n.aX=x.aX)(a:n.agg=x.agg):QI x.aX x.agg n=true:=by unfold QI;simp[P,a]
def WE{n x:ah}(a:¬(n.aX=x.aX/\n.agg=x.agg)):QI x.aX x.agg n=false:=by
 unfold QI;simp only[Bool.and_eq_false_iff,beq_eq_false_iff_ne]
 by_cases P:n.aX=x.aX
 ·exact .inr λb=>a ⟨P,b⟩
 ·exact .inl P
set_option maxHeartbeats 4000000 in
def wK(hT:fy w)(hL:Laid w)(hd:bt w D c.decl ta tn pa pn)(hD:∀n,D n->n<w.heap.size)(hl:Row Et 80 w E la ln l)(hE:∀n,E n->n<w.heap.size)(hs:aK c.bj)(h6:aK c.every)(c1:aK c.start):
  be 3 #[Gw c ta tn tc pa pn pc la ln lc] w (Ok λv w'=>v= .bool true/\ai w w'):=by
 have m7:=hl.len;have U:∀{w2:World} {ε:List PanicEntry->ba},ai w w2->PC LL 5 #[] w2 (λv w3=>∃d:Bool,v= .bool d/\Ok (λv w'=>v= .bool true/\ai w w') (.returned (.bool d)) w3) ε:=λ{w2 ε} k=>by
  refine PC.ok (SP hT hL k) ?_;rintro _ w' ⟨rfl,k'⟩;exact⟨_,rfl,Ok.mk ⟨rfl,k.then k'⟩⟩
 refine qY (PA.mk λw1 N s1 g1=>ar (RB c ta tn tc pa pn pc la ln lc) g1 (PC.ok (PO (w:=w1) hT hL N (hd.af N) (λn P=>by have:=hD n P;omega) (hl.af N) (λn P=>by have:=hE n P;omega) hs h6 c1) ?_));rintro v3 w3 ⟨k3,⟨p',rfl⟩|⟨p,F,rfl,hA,hF,d9,hz,h7⟩⟩
 ·exact⟨_,_,rfl,al.mk (λ_=>U (N.then k3)) (λh=>by cases h)⟩
 have z1:w.heap.size<w1.heap.size:=oM
 obtain⟨-,m8,m9,-⟩:=hA.len;obtain⟨r,hr⟩:∃r:Nat,c.aD=r:=⟨c.aD.toNat,oM⟩
 have b6:BL c (tU c).2 []:=⟨Ua hz,λa hm=>by cases hm⟩
 generalize(tU c).2=X0 at hA d9 b6;refine⟨_,_,rfl,al.mk (λh=>by cases h) (λ_=>?_)⟩;refine⟨λa d w'=>∃(j:Nat) (X:dw) (F:UL) (O:List ah),d=j/\j<=ln/\a=ln-j/\bY w w' p F c X/\fI j X/\BL c X O/\O.length<=j/\(∀n,F n->w1.heap.size<=n)/\aj (λn=>w1.heap.size<=n) w1 w',
  ⟨_,0,X0,F,[],rfl,Qj _,rfl,hA,d9,b6,Q4 _,hF,ai.keep k3⟩,?_⟩
 rintro a _ _ w5 ⟨j,X,F5,O,rfl,hj,rfl,c2,c3,e0,n0,c4,V⟩;have e2:=V.get g1 oM;have kE:aj (λn=>w1.heap.size<=n) w w5:=(ai.keep N).then V;have z5:=V.size;have a3:=c2.facts c1;refine⟨_,_,_,ae e2 rfl,al.dec (λn1=>?_) (λn2=>?_)⟩
 ·obtain⟨n,d7,s,a2,d8,a5,e1,b7,a6⟩:=RC (hl.keep kE λn P h=>by have:=hE n P;omega) (j:=j) oM
  have l5:=hE n a5;refine⟨_,_,_,ae e2 rfl,n,d7,a2,oM,oM,?_⟩;rw[Qx];refine a6 _ (PC.ok (Gv c2 c3 oM b7) ?_);rintro va w6 ⟨Q,e3,A,c5,v6⟩;obtain⟨B',n3,b8⟩:=e0.step a3 b7;have e4:=A.facts c1;have J:aj (λn=>w1.heap.size<=n) w1 w6:=V.then (v6.keep.mono λn _ P=>c4 n P);have b0:∀n,Q n->w1.heap.size<=n:=λn P=>(v6.new n P).elim (c4 n) λh=>by omega
  refine Vr e3.at' ?_;generalize(cA c X s).2=Y at A c5 b8 e4
  clear e3
  have next:∀{w':World},ai w6 w'->∃a,a<ln-j/\∃(W:Nat) (X:dw) (F:UL) (O:List ah),IntKind.wrap .i64 ((j:Int)+1)=W/\W<=ln/\a=ln-W/\bY w w' p F c X/\fI W X/\BL c X O/\O.length<=W/\(∀n,F n->w1.heap.size<=n)/\aj (λn=>w1.heap.size<=n) w1 w':=λ{w'} Z=>
   ⟨_,oM,j+1,Y,Q,B',an oM,oM,rfl,A.af Z,c5,b8,oM,b0,J.then (ai.keep Z)⟩
  refine⟨λa d w'=>∃b:Nat,d=b/\b<=r/\a=r-b/\ai w6 w',⟨_,0,rfl,Qj _,rfl,aj.refl _⟩,?_⟩;rintro a _ _ w7 ⟨b,rfl,he,rfl,a4⟩;have b1:=(J.then (ai.keep a4)).get g1 oM;have e5:=A.af a4;refine⟨_,ae b1 rfl,al.dec (λe6=>al.mk (λ_=>λw8 f0=>?_) (λ_=>next a4)) (λ_=>next a4)⟩;have B:ai w7 w8:=f0.keep;have h8:=B.get b1 id;obtain⟨n4,-⟩:=e5.len;have g:Y.aD[b]? =some Y.aD[b]:=Qq oM;generalize Y.aD[b]=m at g;obtain⟨c6,c8,-,h9,-⟩:=e4.cl m (QZ g);refine⟨λ_=>False,id,_,ae h8 rfl,PC.ok (AX (e5.af B) λm g=>by have:=(c5.aD m g).evs;omega) ?_⟩;rintro _ R (⟨h,-⟩|⟨R1,e,h1,n9,k1,F9,rfl,i0,k9,e7⟩)
  ·rw[iq,g]at h;cases h
  rw[iq,g]at e;injection e with e;subst e;refine⟨_,_,_,rfl,ai.keep k9,?_⟩;rw[hr];refine PC.ok (yO c6 (n:=r) (by rw[c8];omega) (i0.row dC ce)) ?_;rintro _ e8 ⟨rfl,K⟩;exact⟨_,rfl,ai.keep K,al.ff rfl ⟨_,oM,b+1,an oM,oM,rfl,((a4.then B).then k9).then K⟩⟩
 refine⟨λa d w'=>∃(b:Nat) (F:UL),d=b/\b<=r/\a=r-b/\bY w w' p F c X/\(∀n,F n->w1.heap.size<=n)/\aj (λn=>w1.heap.size<=n) w1 w',⟨_,0,F5,rfl,Qj _,rfl,c2,c4,V⟩,?_⟩;rintro a _ _ w6 ⟨b,Q,rfl,he,rfl,A,b0,J⟩;have e9:=J.get g1 oM;have z6:=J.size;refine⟨_,ae e9 rfl,al.dec (λe6=>?_) (λ_=>U (N.new J λn P=>.inr (by have P:w1.heap.size<=n:=P;omega)))⟩;obtain⟨n8,-⟩:=A.len;have g:X.aD[b]? =some X.aD[b]:=Qq oM;generalize X.aD[b]=m at g;obtain⟨c6,c8,-,h9,-⟩:=a3.cl m (QZ g);have o0:=e0.len a3 g;refine PC.ok (AX A λm g=>by have:=(c3.aD m g).evs;omega) ?_;rintro _ w7 (⟨h,-⟩|⟨R1,e,b9,t,k5,C,rfl,d0,k7,i1⟩)
 ·rw[iq,g]at h;cases h
 rw[iq,g]at e;injection e with e;subst e;have b1:=k7.get e9 id;have o1:=d0.len dC;have d1:=d0.aE;have f2:=A.aE;have c0:Row jh 96 w7 C b9 t m.S.l:=d0.row dC ce;refine⟨_,_,_,rfl,_,ae b1 rfl,?_⟩;rw[hr];refine PC.ok (yO c6 (n:=r) (by rw[c8];omega) c0) ?_;rintro _ w8 ⟨rfl,B⟩;refine⟨_,rfl,al.ff rfl ?_⟩;have z7:=k7.size;have z8:=B.size;refine⟨λa d w'=>∃(q:Nat) (F':UL),d=q/\q<=t/\a=t-q/\bY w w' p F' c X/\cm Q w8 F' w',⟨_,0,Q,rfl,Qj _,rfl,(A.af k7).af B,cm.refl _ _⟩,?_⟩;rintro a _ _ R ⟨q,F9,rfl,hq,rfl,f4,S⟩;have z9:=S.keep.size;have e7:∀n,F9 n->w1.heap.size<=n:=λn P=>(S.new n P).elim (b0 n) λh=>by omega
 have c7:∀n,C n->¬Q n:=λn P b=>by have:=i1 n P;have:=f2 n b;omega
 have f5:∀n,C n->¬F9 n:=λn P b=>(S.new n b).elim (c7 n P) λh=>by have:=d1 n P;omega
 have f1:Row jh 96 R C b9 t m.S.l:=(c0.af B).keep S.keep c7;have k9:aj (λn=>w1.heap.size<=n) w1 R:=(J.then (ai.keep (k7.then B))).then (S.keep.mono λn _ P=>b0 n P);have tj:∃a,a<r-b/\∃(e':Nat) (F:UL),IntKind.wrap .i64 ((b:Int)+1)=e'/\e'<=r/\a=r-e'/\bY w R p F c X/\(∀n,F n->w1.heap.size<=n)/\aj (λn=>w1.heap.size<=n) w1 R:=
  ⟨_,oM,b+1,F9,an oM,oM,rfl,f4,e7,k9⟩
 refine al.dec (λl6=>al.dec (λ_=>λe8 i2=>?_) (λ_=>tj)) (λ_=>tj);have K:ai R e8:=i2.keep;have c9:=f1.af K;obtain⟨u,y,x,es,rfl,l7,l8,hx,f7,x1,x2,x3,rfl,o2,d2⟩:=c9.AV (i:=q) oM;refine⟨u,y,rfl,oM,oM,_,f7 4 dC,u,y,rfl,oM,oM,_,f7 5 dC,PC.ok (JR (f4.af K) c3 oM g oM oM d2.aX d2.agg) ?_⟩;rintro _ L ⟨oa,on,oc,o3,i3,rfl,a7,f9,d3,l9⟩;have f3:∀n,C n->¬F9 n:=f5;have d4:=c9.keep d3.keep f3;have o4:=K.size;have o5:=d3.keep.size;have g0:=a7.len dC;have a9:=JV c.decl m.S.l x.aX x.agg;have g2:=JS c.decl m.S.l x.aX x.agg;generalize Ht c.decl m.S.l x.aX x.agg=own at a7 a9 g0 g2;refine⟨_,_,_,_,rfl,?_⟩;refine⟨λa ua un uc d w'=>∃(f:Nat) (M:UL),d=f/\f<=t/\a=t-f/\aT jh 57 M w' ua un uc ((m.S.l.take f).filter (QI x.aX x.agg))/\ai L w'/\(∀n,M n->L.heap.size<=n\/C n)/\∀n,aH ua=some n->L.heap.size<=n,⟨_,0,λ_=>False,rfl,Qj _,rfl,by simpa using aT.nil L,aj.refl _,λn P=>P.elim,λn P=>by cases P⟩,?_⟩;rintro a ua un uc _ _ d5 ⟨f,M,rfl,hy,rfl,a0,H,hH,b2⟩;have i4:((m.S.l.take f).filter (QI x.aX x.agg)).length<=300:=Xx (List.length_filter_le ..) (by rw[Qy];omega);have o6:=H.size;refine al.dec (λm0=>?_) (λm1=>?_)
 ·obtain⟨i5,i6,b5,fs,i7,g3,m2,g4,d6,y1,T,y3,rfl,i8,g5⟩:=(d4.af H).AV (i:=f) oM
  obtain⟨i9,j0,x',f6,j1,m3,-,a1,g6,u1,u2,u3,rfl,-,-⟩:=(d4.af H).AV (i:=q) oM;obtain⟨rfl,rfl⟩:u=i5/\y=i6:=by simpa using i7
  obtain⟨rfl,rfl⟩:u=i9/\y=j0:=by simpa using j1
  obtain rfl:x=x':=by rw[hx]at a1;injection a1
  have I:∀{w':World},ai d5 w'->¬(b5.aX=x.aX/\b5.agg=x.agg)->∃a,a<t-f/\∃(y':Nat) (M:UL),IntKind.wrap .i64 ((f:Int)+1)=y'/\y'<=t/\a=t-y'/\aT jh 57 M w' ua un uc ((m.S.l.take y').filter (QI x.aX x.agg))/\ai L w'/\(∀n,M n->L.heap.size<=n\/C n)/\∀n,aH ua=some n->L.heap.size<=n:=λ{w'} Z j2=>
   ⟨_,oM,f+1,M,an oM,oM,rfl,by rw[JU g4,WE j2];simpa using a0.af Z,H.then Z,hH,b2⟩
  refine⟨u,y,rfl,oM,oM,_,d6 4 dC,u,y,rfl,oM,oM,_,g6 4 dC,al.ey (λe=>⟨u,y,rfl,oM,oM,_,d6 5 dC,u,y,rfl,oM,oM,_,g6 5 dC,λb3 b4=>al.ey (λh2=>?_) (λh2=>I b4.keep λh=>h2 h.2)⟩) (λe=>λb3 b4=>I b4.keep λh=>e h.1)⟩;have o:ai d5 b3:=b4.keep;have z:=λi (hi:i<10)=>(o.cell (a:=⟨u,y+f*jh.k+i,none⟩) g3 id).trans (d6 i hi);refine⟨u,y,rfl,oM,oM,_,_,_,_,_,_,_,_,_,_,_,_,z 0 dC,z 1 dC,z 2 dC,z 3 dC,z 4 dC,z 5 dC,z 6 dC,z 7 dC,z 8 dC,z 9 dC,Yg (c:=jh) (x:=b5) (D:=C) (a0.af o) HR ⟨y1,T,y3,rfl,i8.af o,g5⟩ (λn P=>⟨by have:=d1 n P;have:=o.size;omega,λb=>by have:=b2 n b;have:=d1 n P;omega⟩) ce (by unfold maxLen;omega) λa' c' g7 H4 g8 a8 j3 j4=>⟨_,_,_,rfl,_,oM,f+1,H4,an oM,oM,rfl,by rw[JU g4,US e h2];exact g8,(H.then o).new a8 λn P=>.inr (b2 n P),λn P=>?_,λn P=>(j4 n P).elim (b2 n) λh=>by have:=o.size;omega⟩⟩;rcases j3 n P with h|h|h
  ·exact hH n h
  ·exact .inr h
  ·exact .inl (by have:=o.size;omega)
 ·have j5:f=t:=oM
  rw[j5,Qz oM]at a0 i4;have j6:=a0.len dC;have g9:on=un:=by rw[g0,j6,<-a9,Q8]
  refine al.ff rfl (al.eP (λh=>Zz (by rw[g9]) h) (λ_=>?_));refine⟨λa d w'=>∃f:Nat,d=f/\f<=on/\a=on-f/\ai d5 w',⟨_,0,rfl,Qj _,rfl,aj.refl _⟩,?_⟩;rintro a _ _ b3 ⟨T,rfl,o7,rfl,o⟩;refine al.dec (λm4=>λg7 j7=>?_) (λ_=>⟨_,oM,q+1,i3,an oM,oM,rfl,(f9.af H).af o,(((S.af K).trans d3).af H).af o⟩);have a8:ai b3 g7:=j7.keep;have f8:=(H.then o).then a8;obtain⟨j8,j9,en,fs,rfl,m5,-,k0,h0,u1,u2,u3,rfl,k2,-⟩:=((a7.af f8).row (bytes:=120) dC ce).AV (i:=T) oM;obtain⟨k4,l0,ev,gs,rfl,m6,-,h3,h4,t1,t2,t3,rfl,h5,-⟩:=((a0.af (o.then a8)).row (bytes:=96) dC ce).AV (i:=T) oM;have l3:en.ev=ev:=by
   have e:(own.map (·.ev))[T]? =some en.ev:=by rw[Q9,k0];rfl
   rw[a9,h3]at e
   injection e with e;exact e.symm
  refine⟨j8,j9,rfl,oM,oM,bT (es:=aF en.ev u1 u2 u3) (k:=10) (bb _ _ _ _) rfl (λd ht=>by rw[Qx,<-WD ht];exact h0 d (by show d<13;omega)) ⟨k4,l0,rfl,oM,oM,bT (es:=aF ev t1 t2 t3) (k:=10) (bb _ _ _ _) rfl (λd ht=>by rw[Qx];exact h4 d ht) (PC.ok (DT k2 h5) ?_)⟩⟩;rintro _ o8 ⟨rfl,l4⟩;exact⟨_,rfl,al.not (al.dec (λ_=>⟨_,oM,T+1,an oM,oM,rfl,(o.then a8).then l4⟩) (λh=>Zz l3 h))⟩

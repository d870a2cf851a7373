import Derived.Test.YtfchlbaidamodaaGreatDoorKb30
set_option linter.all false
set_option maxRecDepth 20000
namespace Go.Proofs.YtfchlbaidamodaaGreatDoor
open Go.ax
variable{J e o:Int}{c6:List bD}{d q:Option Addr}{O:aR}
section
variable {w w' w0 w1 w2:World} {p:Nat} {F E D:Nat->Prop} {c:cz} {self:Int}
def cC (c:cz) (a:Option Addr) (tn b:Nat) (d:Option Addr) (e f:Nat):List Value:=[QH c.bl,QH c.nY,QH c.aZ,QH c.chunk,QH c.buffer,QH c.dx,QH c.every,QH c.start,.slice a tn b,.slice d e f]
abbrev lK (c:cz) (a:Option Addr) (tn b:Nat) (d:Option Addr) (e f:Nat):Value:=.agg (cC c a tn b d e f).toArray
theorem gD (c:cz) (a:Option Addr) (tn b:Nat) (d:Option Addr) (e f:Nat):jg ZQ 28 (cC c a tn b d e f)=true:=kR
theorem pw :Calls ZQ 70 #[QH e,QH o,QH J] w (Ok λa w'=>a= .bool (within e o J)/\w=w'):=by
 refine vO (al.dec (λb=>Ok.mk ⟨?_,rfl⟩) (λb=>Ok.mk ⟨?_,rfl⟩))
 ·simp [within];omega
 ·simp [within];omega
theorem Qt {tn A B C:Nat}:Calls ZQ 33 #[lK c d tn A q B C,QH self] w (Ok λl w'=>l= .bool (gG c self)/\ai w w'):=by
 refine Aj (PA.mk λw1 u J b=>?_);have K:∀{m n o:Int} {p:Bool->Prop} {v:List PanicEntry->World->Prop},p (within m n o)->∃r x y,(Value.func (.func 70) #[] #[])= .func (.func r) x y/\enters ZQ r=true/\PC ZQ r (x++ #[QH m,QH n,QH o]++y) w1 (λE F=>∃(z:Bool),E= .bool z/\F=w1/\p z) v:=λ{m n o p v} s=>by
  refine⟨_,_,_,rfl,kR,PC.ok pw ?_⟩;rintro _ _ ⟨rfl,rfl⟩;exact⟨_,rfl,rfl,s⟩
 have no:gG c self=false->Ok (λl w'=>l= .bool (gG c self)/\ai w w') (.returned (.bool false)) w1:=λH=>Ok.mk ⟨by rw [H],u⟩;have e:gG c self=(within c.bl 1 64&&(within self 0 (c.bl-1)&&(within c.nY 64 262144&&(decide (c.aZ>=1)&&(decide (c.every>=1)&&(within c.chunk 1 32&&(within c.buffer 1 256&&(within c.dx 1 1048576&&decide (c.start>=0))))))))):=by
  unfold gG;simp only [Bool.and_assoc]
 refine⟨_,ae b rfl,_,_,_,rfl,kR,PC.ok pw ?_⟩;rintro _ _ ⟨rfl,rfl⟩;refine⟨_,rfl,al.mk (λa=>⟨_,ae b rfl,_,_,_,rfl,kR,PC.ok pw ?_⟩) (λa=>no (by rw [e,a];rfl))⟩;have I:IntKind.wrap .i64 (c.bl-1)=c.bl-1:=wrap_i64 (by have:=bO.1 a;unfold aN;omega);rw [I];rintro _ _ ⟨rfl,rfl⟩;refine⟨_,rfl,al.mk (λf=>⟨_,ae b rfl,_,_,_,rfl,kR,PC.ok pw ?_⟩) (λf=>no (by rw [e,a,f];rfl))⟩;rintro _ _ ⟨rfl,rfl⟩;refine⟨_,rfl,al.mk (λg=>⟨_,ae b rfl,al.mk (λh=>⟨_,ae b rfl,al.mk (λi=>⟨_,ae b rfl,_,_,_,rfl,kR,PC.ok pw ?_⟩) (λi=>no (by rw [e,a,f,g,h,i];rfl))⟩) (λh=>no (by rw [e,a,f,g,h];rfl))⟩) (λg=>no (by rw [e,a,f,g];rfl))⟩;rintro _ _ ⟨rfl,rfl⟩;refine⟨_,rfl,al.mk (λj=>⟨_,ae b rfl,_,_,_,rfl,kR,PC.ok pw ?_⟩) (λj=>no (by rw [e,a,f,g,h,i,j];rfl))⟩;rintro _ _ ⟨rfl,rfl⟩;refine⟨_,rfl,al.mk (λk=>⟨_,ae b rfl,_,_,_,rfl,kR,PC.ok pw ?_⟩) (λk=>no (by rw [e,a,f,g,h,i,j,k];rfl))⟩;rintro _ _ ⟨rfl,rfl⟩;refine⟨_,rfl,al.mk (λt=>⟨_,ae b rfl,Ok.mk ⟨by rw [e,a,f,g,h,i,j,k,t];rfl,u⟩⟩) (λt=>no (by rw [e,a,f,g,h,i,j,k,t];rfl))⟩
theorem SR {a b:Nat} (c:O.types[a]? =some c6) (e:b<c6.length):O.Ed (a:Int) (b:Int)=c6[b]? :=by
 have f:=(Qv.1 c).1;have d:O.at (a:Int)=c6:=by
  unfold aR.at;rw [if_pos (bO.2 ⟨oM,oM⟩),Qx,QQ,c];rfl
 unfold aR.Ed;rw [d,if_pos (by simp only [QK,bO];exact⟨⟨oM,oM⟩,oM,oM⟩),Qx]
end
section
variable {w w' w0 w1 w2:World} {p:Nat} {F E D:Nat->Prop} {c:cz} {self:Int}
theorem MT {tn tc M pc:Nat} (i:bh w D O d tn q M) (hD:∀a,D a->a<w.heap.size):
  Calls ZQ 35 #[.agg #[.slice d tn tc,.slice q M pc]] w (Ok λc4 w'=>∃v AW a2 f x l G,c4= .agg #[.slice v AW a2,.slice f x l]/\bh w' G O v AW f x/\(∀a,G a->w.heap.size<=a/\a<w'.heap.size)/\ai w w'):=by
 have f4:=i.bd.len;have b8:=i.bd.d_;have f6:=i.Bk.len;have f7:=i.Bk.d_;refine xR (PA.mk λN k4 s4 g4=>PA.mk λw5 k5 s5 g5=>⟨_,_,_,ae (k5.get g4 id) rfl,?_⟩);have y:=k4.then k5;refine AZ (aV.nil (c:=wH) (e:=128) w5) Mh (i.Bk.af y) (λa b=>⟨by have:=hD a b;omega,λc=>by cases c⟩) (by rw [List.length_nil];unfold aQ at*;omega) (by rw [List.length_nil];unfold aQ at*;unfold maxLen;omega) λf l g Fp d1 k8 j6 d2=>⟨_,_,_,rfl,PA.mk λj7 g0 j8 g1=>PS.mk g1 sM λj9 g2 k0 g3=>PS.mk g3 sM λt g6 k1 g7=>?_⟩
 rw [List.nil_append,Xz]at d1;have a9:=d1.alone;have b9:∀a,aI f=some a->w5.heap.size<=a/\a<g.heap.size:=λa b=>⟨(d2 a b).elim False.elim id,a9.aF a b⟩
 have z8:=k8.size;have z:ai w5 g:=k8.mono λa _ c=>by cases c
 have A:ai g t:=(g0.new g2 λa b=>.inr (by have b:a=g.heap.size:=b;omega)).new g6 λa b=>.inr (by have b:a=g.heap.size:=b;omega);have b0:ai w t:=(y.then z).then A;have gp:=A.get (z.get (k5.get g4 id) id) id;have gr:=A.get (z.get g5 id) id;have b1:t.heap[g.heap.size]? =some (.cells #[.slice none 0 0,.slice f (0+M) l] 25 (0,0)):=g7;rw [Xz]at b1;have k2:=A.size;refine⟨_,_,_,ae gp rfl,λB a3 w'=>∃j:Nat,a3=j/\j<=tn/\B=tn-j/\aj (·=g.heap.size) t w'/\∃P Q oc R,w'.heap[g.heap.size]? =some (.cells #[.slice P Q oc,.slice f M l] 25 (0,0))/\aV lv 130 R w' P Q oc (O.types.take j)/\∀a,R a->t.heap.size<=a,
  ⟨_,0,rfl,Qj _,rfl,aj.refl _,none,0,0,λ_=>False,b1,aV.nil _,λ_ i=>i.elim⟩,?_⟩
 rintro B _ _ S ⟨j,rfl,hj,rfl,u,P,Q,oc,R,T,n,C⟩;have U:ai w S:=b0.new u λa b=>.inr (by have b:a=g.heap.size:=b;have:=y.size;have:=z.size;omega);have zk:=u.size;have b2:=u.get gp λc=>by have c:w.heap.size=g.heap.size:=c;have:=k4.size;omega
 refine al.dec (λk3=>?_) (λk6=>?_)
 ·have g8:j<O.types.length:=oM
  have V:O.types[j]? =some O.types[j]:=Qq g8;generalize O.types[j]=o at V;obtain⟨a,d5,es,ha,b,k7,d6,fa,fn,fc,rfl,W⟩:=(i.bd.af U).el j o V;have c0:=d6 0 dC;have g9:lv.k=1:=rfl;rw [g9,Nat.mul_one]at c0;have h0:=W.len;have c2:=W.d_;refine⟨a,d5,ha,oM,oM,fa,fn,fc,by rw [Qx];exact c0,PA.mk λk9 h3 l0 h4=>PS.mk h4 sM λk h6 l3 h7=>PA.mk λl4 d3 l5 h8=>PS.mk h8 sM λE d4 l6 h9=>?_⟩;have r:ai S E:=((h3.new h6 λa b=>.inr (by have b:a=S.heap.size:=b;omega)).then d3).new d4 λa b=>.inr (by have b:a=k.heap.size:=b;omega);have d7:=d4.get (d3.get h7 id) oM;have e3:=r.get b2 id;have l7:=r.size;have e4:=U.then r;refine⟨_,_,_,ae d7 rfl,λB a3 w'=>∃h:Nat,a3=h/\h<=fn/\B=fn-h/\aj (·=k.heap.size) E w'/\∃F H X Y,w'.heap[k.heap.size]? =some (.cells #[.slice F H X] 130 (0,0))/\aV pT 123 Y w' F H X (o.take h)/\∀a,Y a->E.heap.size<=a,
   ⟨_,0,rfl,Qj _,rfl,aj.refl _,none,0,0,λ_=>False,h9,aV.nil _,λ_ i=>i.elim⟩,?_⟩
  rintro B _ _ d8 ⟨h,rfl,hk,rfl,s,F,H,X,Y,gx,p,I⟩;have zx:=s.size;have b3:ai w d8:=e4.new s λa b=>.inr (by have b:a=k.heap.size:=b;have:=U.size;omega);have b4:=s.get e3 λc=>by have c:w.heap.size=k.heap.size:=c;have:=aC b2;omega
  refine al.dec (λj4=>?_) (λj5=>?_)
  ·have d9:h<o.length:=oM
   have J:o[h]? =some o[h]:=Qq d9;have a4:=SR V d9;rw [J]at a4;obtain⟨fb,fo,e6,-,-,-,-,ya,yn,yc,rfl,-,b5⟩:=(W.af r).el h o[h] J;generalize o[h]=K at J a4 b5;refine⟨_,_,_,_,_,_,ae b4 rfl,ae b4 rfl,PC.ok (px (i.af b3) λa b=>by have:=hD a b;have:=b3.size;omega) ?_⟩;rw [a4];rintro _ e0 ⟨e1,Z,a0,cc,Fm,rfl,c3,e2⟩;have e8:=c3.aF;have l8:=e1.size;refine cu (Ku K Z a0 cc) ⟨_,rfl,PA.mk λl9 i0 m0 i1=>aD (fD K Z a0 cc) i1 rfl λi2 i3 m1 a7=>?_⟩;have a5:ai e0 i2:=i0.new i3 λa b=>.inr (by have b:a=e0.heap.size:=b;omega);have b6:=e1.then a5;have e9:=b6.get gx id;refine⟨_,_,_,ae e9 rfl,_,_,_,_,_,_,ae a7 rfl,ae a7 rfl,ae a7 rfl,ae a7 rfl,PA.mk λi4 e5 m2 i5=>?_⟩;have a1:=b6.then e5;have f0:=(c3.af a5).af e5;have m3:=c3.len dC;have a8:Row gC 32 i4 Fm Z a0 K.bH:=f0.row dC (by
    obtain⟨_,_,_,_,_,_,_,_,_,_,hq,a8,_⟩:=(W.af r).el h K J;have h1:=a8.d_;have h2:=a8.len;rw [<-h2];exact h1)
   refine fh (c:=pT) (x:=K) (p.af a1) RX i5 (D:=Fm) ⟨Z,a0,cc,rfl,a8,b5⟩ (λa b=>⟨by have:=e8 a b;have:=a5.size;omega,λc=>by have:=p.aF a (p.self a c);have:=e2 a b;omega⟩) (by rw [Qy];unfold aQ at*;omega) (by rw [Qy];unfold aQ at c2;unfold maxLen;omega) λa' c' m4 L f1 c5 c6=>⟨_,_,_,rfl,?_⟩
   have i6:¬aI F=some k.heap.size:=λc=>by have:=I _ (p.self _ c);omega
   have m5:=a1.size;have m6:=c5.size;have e:∀a,L a->E.heap.size<=a:=λa b=>by
    rcases c6 a b with m|m|m
    ·exact I a m
    ·have:=e2 a m;omega
    ·omega
   refine PS.mk (c5.get (a1.get gx id) i6) sM λm7 e7 m8 i7=>⟨_,oM,h+1,an (by unfold aQ at c2;omega),oM,rfl,((s.af a1).new c5 λa b=>.inr (I a (p.self a b))).then e7,a',H+1,c',L,i7,?_,e⟩
   rw [Qw,J];exact f1.keep e7 λa b c=>by have c:a=k.heap.size:=c;have:=e a b;omega
  ·rw [Qz oM]at p
   have i8:aj (·=k.heap.size) E d8:=s;have b7:=s.get (r.get T id) λc=>by have c:g.heap.size=k.heap.size:=c;have:=aC T;omega
   refine⟨_,_,_,ae b7 rfl,_,_,_,ae gx rfl,PA.mk λi9 c7 m9 j0=>?_⟩;have a6:ai S i9:=(r.new s λa b=>.inr (by have b:a=k.heap.size:=b;omega)).then c7;refine fh (c:=lv) (x:=o) (n.af a6) NO j0 (D:=Y) ⟨F,H,X,rfl,(p.af c7).row dC (by rw [<-h0];exact c2)⟩ (λa b=>⟨by have:=p.aF a b;omega,λc=>by have:=n.aF a (n.self a c);have:=I a b;omega⟩) (by rw [Qy];unfold aQ at*;omega) (by rw [Qy];unfold aQ at b8;unfold maxLen;omega) λa' c' n0 L f2 c8 c6=>⟨_,_,_,rfl,?_⟩
   have j1:¬aI P=some g.heap.size:=λc=>by have:=C _ (n.self _ c);omega
   have n1:=a6.size;have n2:=c8.size;have e:∀a,L a->t.heap.size<=a:=λa b=>by
    rcases c6 a b with m|m|m
    ·exact C a m
    ·have:=I a m;omega
    ·omega
   refine PS.mk (c8.get (c7.get b7 id) j1) sM λn3 c1 n4 j2=>⟨_,oM,j+1,an (by unfold aQ at b8;omega),oM,rfl,((u.af a6).new c8 λa b=>.inr (C a (n.self a b))).then c1,a',Q+1,c',L,j2,?_,e⟩
   rw [Qw,V];exact f2.keep c1 λa b c=>by have c:a=g.heap.size:=c;have:=e a b;omega
 ·rw [Qz oM]at n
  have z5:=z.size;have f5:=u.get gr λc=>by have c:N.heap.size=g.heap.size:=c;omega
  have f8:=((a9.af A).keep u λa b c=>by have c:a=g.heap.size:=c;have:=b9 a b;omega)
  refine⟨_,_,_,_,_,_,ae T rfl,ae T rfl,PS.mk f5 sM λn8 c9 n9 j3=>PS.mk j3 sM λo0 d0 o1 f3=>⟨_,_,_,_,_,_,ae f3 rfl,ae f3 rfl,Ok.mk ⟨_,_,_,_,_,_,λa=>R a\/aI f=some a,rfl,⟨?_,?_⟩,?_,?_⟩⟩⟩
  ·exact(((n.row (bytes:=24) dC (by rw [<-f4];exact b8)).keep (c9.then d0) λa b c=>by have c:a=N.heap.size:=c;have:=C a b;omega)).mono λa b=>.inl b
  ·exact(((f8.row (bytes:=40) dC (by rw [<-f6];exact f7)).keep (c9.then d0) λa b c=>by have c:a=N.heap.size:=c;have:=b9 a b;omega)).mono λa b=>.inr b
  ·rintro a (b|b)
   ·have:=C a b;have:=n.aF a b;have:=y.size;have:=b0.size;omega
   ·have:=b9 a b;have:=y.size;omega
  ·exact U.new (c9.then d0) λa b=>.inr (by have b:a=N.heap.size:=b;have:=k4.size;omega)
end
variable{a:Nat}{j:Type}
section
variable {w w':World} {D D' S:Nat->Prop} {d:aR} {ta pa:Option Addr} {tn tc pn pc:Nat}
def ue (a:bD):Bool:=if a.kind==4 then !within a.bH.length 1 16 else decide (0<a.bH.length)
def DK (a:List bD):Bool:=!within a.length 1 8||a.any ue
theorem KM {b:j->Bool} {c:List j} {d:j} (e:c[a]? =some d) (f:(c.take a).any b=false) (g:b d=false):(c.take (a+1)).any b=false:=by
 rw [Qw,e,List.any_append,f];simp [g]
theorem Nz {c:j->Bool} {d:List j} {b:j} (e:d[a]? =some b) (f:c b=true):d.any c=true:=List.any_eq_true.2 ⟨b,QZ e,f⟩
theorem fX {g:Type} {h:g->Int}:∀{b:List g} {c:Nat} {d:g},b[c]? =some d->cO h (b.take c)=0->cO h (b.take (c+1))=h d
 |[],c,d,a,_=>by simp at a
 |y::b,0,d,a,_=>by simp at a;subst a;simp [cO];intro a;exact a.symm
 |y::b,c+1,d,a,e=>by
  simp only [List.take_succ_cons,cO]at e⊢;split at e
  ·rename_i f;simp at f;exact absurd e f
  ·rename_i f;rw [if_neg f];exact fX (by simpa using a) e
theorem pB {c:Type} {b:c->Int}:∀{l:List c} {j:Nat},cO b (l.take j)≠0->cO b l=cO b (l.take j)
 |[],j,a=>by simp at a⊢
 |y::l,0,a=>by simp [cO]at a
 |y::l,j+1,a=>by
  simp only [List.take_succ_cons,cO]at a⊢;split
  ·rfl
  ·rename_i d;rw [if_neg d]at a;exact pB a
theorem KN (e:bh w D d ta tn pa pn):Calls ZQ 67 #[.agg #[.slice ta tn tc,.slice pa pn pc]] w (Ok λf w'=>f= .bool (sj d)/\ai w w'):=by
 have s:=e.bd.len;have t:=e.bd.d_;have hp:=e.Bk.len;unfold aQ at t;refine Ev (PA.mk λY u s1 v=>⟨_,_,_,ae v rfl,PC.ok cK ?_⟩);rintro _ _ ⟨rfl,rfl⟩;refine⟨_,rfl,al.not (al.mk (λj=>⟨_,_,_,ae v rfl,al.dec (λZ=>Ok.mk ⟨?_,u⟩) (λZ=>⟨_,_,_,ae v rfl,λk l w'=>∃b:Nat,l=b/\b<=tn/\k=tn-b/\(d.types.take b).any DK=false/\ai Y w',⟨_,0,rfl,Qj _,rfl,sM,aj.refl _⟩,?_⟩)⟩) (λj=>Ok.mk ⟨?_,u⟩))⟩
 ·unfold sj;rw [<-s,j,if_pos (by simp;omega)]
 rotate_left
 ·unfold sj;rw [<-s,j];rfl
 have x:sj d=d.types.any DK:=by unfold sj DK ue;rw [<-s,j,if_neg (by simp;omega)]
 rintro k l _ w2 ⟨b,rfl,hj,rfl,y,L⟩;have m:=u.then L;refine al.dec (λa8=>?_) (λa9=>?_)
 rotate_left
 ·rw [Qz oM]at y
  exact Ok.mk ⟨by rw [x,y],m⟩
 obtain⟨z,A,B,es,rfl,_,_,C,g,a2,h,c1,rfl,E⟩:=((e.af m).bd).sS (i:=b) oM;have M:=E.len;have a0:=E.d_;unfold aQ at a0;have N:=g 0 dC;simp only [lv,Nat.mul_one,Nat.add_zero]at N;refine⟨z,A,rfl,oM,oM,_,_,_,N,PA.mk λw3 k3 s3 g3=>PS.mk g3 sM λn k4 s4 O=>⟨_,_,_,ae O rfl,PC.ok cK ?_⟩⟩;rintro _ _ ⟨rfl,rfl⟩;have o:ai w2 n:=k3.new k4 λz t=>.inr oM;have F:DK B=true->Ok (λf w'=>f= .bool (sj d)/\ai w w') (.returned (.bool true)) n:=λa=>Ok.mk ⟨by rw [x,Nz C a],m.then o⟩;refine⟨_,rfl,al.not (al.mk (λH=>⟨_,_,_,ae O rfl,λk l w'=>∃i:Nat,l=i/\i<=h/\k=h-i/\(B.take i).any ue=false/\ai n w',⟨_,0,rfl,Qj _,rfl,sM,aj.refl _⟩,?_⟩) (λH=>F (by unfold DK;rw [<-M,H];rfl)))⟩;rintro m' t' _ w5 ⟨i,rfl,hi,rfl,I,p⟩;have a3:=(m.then o).then p;refine al.dec (λa6=>?_) (λa7=>?_)
 rotate_left
 ·rw [Qz oM]at I
  exact⟨_,oM,b+1,an oM,oM,rfl,KM C y (by unfold DK;rw [<-M,H,I];rfl),(L.then o).then p⟩
 obtain⟨b2,a1,q,b0,rfl,_,_,P,a4,Q,R,S,rfl,T,b1,b3⟩:=((E.af o).af p).sS (i:=i) oM;have U:=T.len;have a5:=T.d_;unfold aQ at a5;refine⟨b2,a1,rfl,oM,oM,br (fD q Q R S) rfl a4 (PA.mk λw6 k6 s6 g6=>aD (fD q Q R S) g6 rfl λJ k7 s7 K=>⟨_,ae K rfl,?_⟩)⟩;have V:ai w5 J:=k6.new k7 λz t=>.inr oM;have W:ue q=true->Ok (λf w'=>f= .bool (sj d)/\ai w w') (.returned (.bool true)) J:=λa=>Ok.mk ⟨by rw [x,Nz C (by unfold DK;rw [Nz P a];simp)],a3.then V⟩;have next:ue q=false->∃X,X<h-i/\∃r:Nat,IntKind.wrap .i64 ((i:Int)+1)=r/\r<=h/\X=h-r/\(B.take r).any ue=false/\ai n J:=λa=>
  ⟨_,oM,i+1,an oM,oM,rfl,KM P I a,p.then V⟩
 refine al.dX (λc=>⟨_,_,_,ae K rfl,PC.ok cK ?_⟩) (λc=>al.not (al.dX (λg=>absurd g c) (λ_=>⟨_,_,_,ae K rfl,al.dec (λe=>W ?_) (λe=>next ?_)⟩)))
 ·rintro _ _ ⟨rfl,rfl⟩
  refine⟨_,rfl,al.not (al.mk (λa=>al.not (al.dX (λ_=>next ?_) (λg=>absurd c g))) (λa=>W ?_))⟩
  ·unfold ue;rw [c,<-U,a];rfl
  ·unfold ue;rw [c,<-U,a];rfl
 ·unfold ue;rw [if_neg (by simpa using c)];simp only [decide_eq_true_eq];omega
 ·unfold ue;rw [if_neg (by simpa using c)];simp only [decide_eq_false_iff_not];omega
theorem Ij (hT:eM w) (h:bh w D d ta tn pa pn) (hD:∀b,D b->b<w.heap.size):
  Calls ZQ 32 #[.agg #[.slice ta tn tc,.slice pa pn pc]] w (Ok λC w'=>C= QH (dd d)/\ai w w'):=by
 have hl:=h.bd.len;have g:=h.bd.d_;have b1:=h.Bk.len;have a6:=h.Bk.d_;unfold aQ at g a6;refine BO (PA.mk λw1 U s1 E=>⟨_,_,_,_,_,_,ae E rfl,ae E rfl,PC.ok (KN (h.af U)) ?_⟩);rintro _ w2 ⟨rfl,V⟩;have W:=U.then V;have X:=V.get E id;refine⟨_,rfl,al.mk (λu=>Ok.mk ⟨by unfold dd;rw [u];rfl,W⟩) (λu=>⟨_,_,_,ae X rfl,λl c w'=>∃a:Nat,c=a/\a<=tn/\l=tn-a/\cO (λc=>cO (fK c) c) (d.types.take a)=0/\ai w2 w',⟨_,0,rfl,Qj _,rfl,rfl,aj.refl _⟩,?_⟩)⟩;rintro l c _ Y ⟨a,rfl,hj,rfl,v,F⟩;have x:=W.then F;have Z:=F.get X id;have H:∀{w':World},ai w w'->∀a e,d.types[a]? =some e->cO (λc=>cO (fK c) c) (d.types.take a)=0->∀y:Int,cO (fK e) e=y->y≠0->Ok (λC w'=>C= QH (dd d)/\ai w w') (.returned (QH y)) w':=by
  intro w' a2 a e z h0 y hr k;have m:=fX z h0;rw [hr]at m;have h2:=pB (l:=d.types) (j:=a+1) (by rw [m];exact k);refine Ok.mk ⟨?_,a2⟩;unfold dd;rw [u,h2,m];simp [k]
 refine al.dec (λb2=>?_) (λb3=>⟨_,_,_,ae Z rfl,λl c w'=>∃i:Nat,c=i/\i<=pn/\l=pn-i/\cO (mK d) (d.projs.take i)=0/\ai Y w',⟨_,0,rfl,Qj _,rfl,rfl,aj.refl _⟩,?_⟩)
 ·obtain⟨b,I,J,es,rfl,_,_,z,hc,b4,n1,c1,rfl,A⟩:=((h.af x).bd).sS (i:=a) oM
  have b5:=A.len;have a7:=A.d_;unfold aQ at a7;have a0:=hc 0 dC;simp only [lv,Nat.mul_one,Nat.add_zero]at a0;refine⟨b,I,rfl,oM,oM,_,_,_,a0,PA.mk λw4 p s4 g4=>PS.mk g4 sM λK L s5 B=>⟨_,_,_,ae B rfl,λl c w'=>∃i:Nat,c=i/\i<=n1/\l=n1-i/\cO (fK J) (J.take i)=0/\ai K w',⟨_,0,rfl,Qj _,rfl,rfl,aj.refl _⟩,?_⟩⟩;have a8:ai Y K:=p.new L λb g=>.inr oM;rintro m' t' _ M ⟨i,rfl,hi,rfl,f,n⟩;have q:=a8.then n;refine al.dec (λa3=>?_) (λa9=>?_)
  ·obtain⟨N,O,e,b0,rfl,_,_,o,P,Q,R,S,rfl,hM,b6,b7⟩:=(A.af q).sS (i:=i) oM
   refine⟨N,O,rfl,oM,oM,br (fD e Q R S) rfl P (PA.mk λw7 j s7 g7=>aD (fD e Q R S) g7 rfl λw8 r s8 g8=>⟨_,_,_,ae (r.get (j.get (n.get B id) id) (by have:=n.size;omega)) rfl,aw (fD e Q R S) g8 (PC.ok (Is (hT.af ?_) (A.af ?_) (hM.af ?_)) ?_)⟩)⟩
   ·exact(x.then q).then (j.new r λb g=>.inr oM)
   ·exact q.then (j.new r λb g=>.inr oM)
   ·exact j.new r λb g=>.inr oM
   ·rintro _ w9 ⟨rfl,k9⟩
    have a4:ai M w9:=aj.then (j.new r λb g=>.inr oM) k9;refine⟨_,rfl,al.dw (λk=>?_) (λT=>⟨_,oM,i+1,an oM,oM,rfl,by rw [fX o f];exact T,n.then a4⟩)⟩;have m:=fX o f;exact H ((x.then q).then a4) a J z v _ (by rw [pB (j:=i+1) (by rw [m];exact k),m]) k
  ·rw [Qz oM]at f
   refine⟨_,oM,a+1,an oM,oM,rfl,by rw [fX z v];exact f,F.then q⟩
 ·rw [Qz oM]at v
  rintro m' t' _ w4 ⟨i,rfl,hi,rfl,f,p⟩;have s:=x.then p;have a1:dd d=cO (mK d) d.projs:=by unfold dd;rw [u,v];simp
  refine al.dec (λa3=>?_) (λa9=>?_)
  ·obtain⟨N,O,e,b0,rfl,_,_,o,P,rfl,_⟩:=((h.af s).Bk).sS (i:=i) oM
   refine⟨N,O,rfl,oM,oM,br (qH e) rfl P (PA.mk λK L s5 B=>aD (qH e) B rfl λM n s6 g6=>?_)⟩;have t:ai w4 M:=L.new n λb g=>.inr oM;have a5:=t.get (p.get Z id) id;refine⟨_,_,_,_,_,_,ae a5 rfl,ae a5 rfl,aw (qH e) g6 (PC.ok (It (h.af (s.then t)) λb g=>by have:=hD b g;have:=(s.then t).size;omega) ?_)⟩;rintro _ w7 ⟨rfl,j⟩;refine⟨_,rfl,al.dw (λk=>Ok.mk ⟨?_,(s.then t).then j⟩) (λT=>⟨_,oM,i+1,an oM,oM,rfl,by rw [fX o f];exact T,(p.then t).then j⟩)⟩;rw [a1,pB (j:=i+1) (by rw [fX o f];exact k),fX o f]
  ·rw [Qz oM]at f
   exact Ok.mk ⟨by rw [a1,f],s⟩
end
def bj (a:cz) (b:Int):Int×bw:=
 if dd a.decl≠0 then(dd a.decl,(qA a).2)else if gG a b=false then(1,(qA a).2)else qA a
def MU (c:World) (b:cz) (a:Int) (d:Value) (e:World):Prop:=ai c e/\
 (((bj b a).1≠0/\d= .tuple #[.pointer none,QH (bj b a).1])\/
  ((bj b a).1=0/\∃f g,d= .tuple #[.pointer (some ⟨f,0,none⟩),QH 0]/\bP e f g b a (bj b a).2/\(∀h,g h->c.heap.size<=h)/\(bj b a).2.S.l.length<=16777216))
section
variable {w w' w0 w1 w2:World} {p:Nat} {F E D:Nat->Prop} {c:cz} {self:Int}
theorem Be (hT:eM w0) (hL:Laid w0) (B:ai w0 w) {tn Q C R:Nat} (hd:bh w D c.decl d tn q C) (hD:∀a,D a->a<w.heap.size) (hs:aN c.aZ) (d3:aN c.every) (d4:aN c.start):
  Calls ZQ 12 #[lK c d tn Q q C R,QH self] w (Ok (MU w c self)):=by
 refine Er (PA.mk λf3 E f4 F=>⟨_,_,_,_,_,_,ae F rfl,ae F rfl,PC.ok (Ij (hT.af (B.then E)) (hd.af E) λa b=>by have:=hD a b;omega) ?_⟩);rintro _ d5 ⟨rfl,b8⟩;have a3:=E.then b8;have b9:d5.heap[w.heap.size]? =some (.cells (cC c d tn Q q C R).toArray 28 (0,0)):=b8.get F id;refine⟨_,rfl,al.dw (λm=>Ok.mk ⟨a3,.inl ?_⟩) (λS=>aw (gD c d tn Q q C R) b9 (PC.ok Qt ?_))⟩
 ·have:bj c self=(dd c.decl,(qA c).2):=by unfold bj;rw [if_pos m]
  rw [this];exact⟨m,rfl⟩
 rintro _ T ⟨rfl,c0⟩;have H:=a3.then c0;have U:=c0.get b9 id;refine⟨_,rfl,al.not (al.mk (λn=>?_) (λn=>Ok.mk ⟨H,.inl ?_⟩))⟩
 rotate_left
 ·have:bj c self=(1,(qA c).2):=by unfold bj;rw [if_neg (by simpa using S),if_pos n]
  rw [this];exact⟨show(1:Int)≠0 by decide,rfl⟩
 have a4:bj c self=qA c:=by unfold bj;rw [if_neg (by simpa using S),if_neg (by rw [n];simp)]
 have c1:kU c self:=⟨n,S,hs,d3,d4⟩
 have c2:=n;unfold gG within at c2;simp only [QK,decide_eq_true_eq]at c2;refine⟨_,ae U rfl,PC.ok (uk (B.then H) oM oM) ?_⟩;rintro _ c3 ⟨dp,rfl,d6,V⟩;obtain⟨Fd,c4,-,d7,-⟩:=d6;have I:∀a,Fd a->T.heap.size<=a/\a<c3.heap.size:=λa b=>⟨Nat.le_of_not_lt (d7 a b).2,c4.aF a b⟩
 have W:=H.then V;have X:=V.get U id;refine⟨_,_,rfl,al.dw (λm=>absurd rfl m) (λ_=>⟨_,_,_,_,_,_,ae X rfl,ae X rfl,PC.ok (MT (hd.af W) λa b=>by have:=hD a b;have:=W.size;omega) ?_⟩)⟩;rintro _ c5 ⟨o,AW,p,r,s,t,J,rfl,d8,K,L⟩;have c6:=W.then L;have d9:=L.get X id;have f6:=E.size;have f7:=H.size;have g1:=V.size;have g2:=L.size;have g3:=aC F;have e8:w.heap.size<T.heap.size:=aC U;refine⟨_,_,_,_,_,_,rfl,PS.mk d9 (by simp [cC]) λg4 e0 g5 e1=>PS.mk e1 (by simp [cC]) λY e2 g6 e3=>λu c7=>?_⟩;have Z:aj (λa=>a=w.heap.size) c5 Y:=e0.then e2;have M:ai Y u:=c7.keep;have g7:u.heap.size=Y.heap.size:=by rw [c7.heap]
 have f:u.heap[w.heap.size]? =some (.cells (cC c o AW p r s t).toArray 28 (0,0)):=M.get e3 id;have c8:ai w u:=(c6.new Z λa b=>.inr (by have b:a=w.heap.size:=b;omega)).then M;have i:∀{a:Nat},T.heap.size<=a->a≠w.heap.size:=λ{a} b=>by omega
 refine⟨λ_=>False,id,_,_,_,_,_,_,_,_,_,_,_,_,_,_,ae f rfl,ae f rfl,ae f rfl,ae f rfl,ae f rfl,ae f rfl,ae f rfl,ae f rfl,ae f rfl,ae f rfl,_,ae f rfl,id,_,ae f rfl,PC.ok (Lk oM) ?_⟩;rintro _ e4 ⟨j,rfl,c9,e9,f2,b4⟩;refine⟨_,rfl,b4,PC.ok Kv ?_⟩;rintro _ h ⟨tp,N,rfl,a5,O,d0⟩;have g8:=b4.size;have g9:=O.size;have d1:=a5.aF;refine⟨_,rfl,O,PA.mk λb5 P h2 e5=>⟨P,?_⟩⟩
 let g:ko:=⟨o,AW,p,r,s,t,dp,none,0,0,j,tp⟩
 let a2:bw:=⟨⟨c.bl.toNat,[]⟩,eS c.nY.toNat,none,[],⟨c.dx,[],[]⟩⟩
 have d2:b5.heap[h.heap.size]? =some (.cells (yQ g c self none none none) 99 (0,0)):=e5;have a0:ai u b5:=(b4.then O).then P;have a1:=c8.then a0;have b6:∃v,bS b5 (λa=>∃k,(match k with|0=>a=h.heap.size|1=>J a|2=>Fd a|5=>a=j|6=>N a|_=>False:Prop)) v (recC h.heap.size (yQ g c self none none none) g c a2 false):=by
  refine bS.join (G:=λk a=>match k with|0=>a=h.heap.size|1=>J a|2=>Fd a|5=>a=j|6=>N a|_=>False) (λk=>?_) (λl a9 a e hj=>?_) λk a b=>?_
  ·match k with
   |0=>exact⟨rfl,d2⟩
   |1=>exact(((d8.keep Z λa b x=>i (by have:=K a b;omega) x).af M).af a0)
   |2=>exact⟨Fd,((((c4.keep L λ_ _ g=>g).keep Z λa b x=>i (I a b).1 x).keep M λ_ _ g=>g).keep a0 λ_ _ g=>g),λa b=>b,rfl⟩
   |3=>intro x;cases x
   |4=>trivial
   |5=>exact⟨_,_,c9.af (O.then P),λ_ g=>g,λa b=>b.elim⟩
   |6=>exact a5.af P
   |k+7=>trivial
  ·have y:∀l:Nat,(match l with|0=>a=h.heap.size|1=>J a|2=>Fd a|5=>a=j|6=>N a|_=>False:Prop)->l=(if a<c3.heap.size then 2 else if a<c5.heap.size then 1 else if a<e4.heap.size then 5 else if a<h.heap.size then 6 else 0):=λl e=>by
    rcases l with _|_|_|_|_|_|_|l
    ·have e:a=h.heap.size:=e
     rw [if_neg oM,if_neg oM,if_neg oM,if_neg oM]
    ·have:=K a e;rw [if_neg oM,if_pos oM]
    ·have:=I a e;rw [if_pos oM]
    ·exact e.elim
    ·exact e.elim
    ·have e:a=j:=e
     rw [if_neg oM,if_neg oM,if_pos oM]
    ·have h5:=d0 a e;have h6:=d1 a e;rw [if_neg oM,if_neg oM,if_neg oM,if_pos oM]
    ·exact e.elim
   rw [y l e,<-y a9 hj]
  ·rcases k with _|_|_|_|_|_|_|k
   ·have b:a=h.heap.size:=b
    omega
   ·have:=K a b;omega
   ·have:=I a b;omega
   ·exact b.elim
   ·exact b.elim
   ·have b:a=j:=b
    omega
   ·have:=d1 a b;omega
   ·exact b.elim
 obtain⟨v,hp⟩:=b6;have b7:∀a,(∃k,(match k with|0=>a=h.heap.size|1=>J a|2=>Fd a|5=>a=j|6=>N a|_=>False:Prop))->w.heap.size<=a:=λa ⟨k,b⟩=>by
  rcases k with _|_|_|_|_|_|_|k
  ·have b:a=h.heap.size:=b
   omega
  ·have:=K a b;omega
  ·have:=I a b;omega
  ·exact b.elim
  ·exact b.elim
  ·have b:a=j:=b
   omega
  ·have:=d0 a b;omega
  ·exact b.elim
 refine PC.ok (zO (h:=g) (z1:=none) (z2:=none) (z3:=none) hp c1 ⟨hT,hL,B.then a1,λa b=>by have:=b7 a b;have:=B.size;omega⟩) ?_;rintro _ e6 ⟨rfl,a6,h',F',z,A,a7⟩;have e7:eR c a2=qA c:=rfl;rw [e7]at A a6⊢;have a8:ai w e6:=a1.new a7.keep λa b=>.inr (b7 a b);refine⟨_,rfl,al.dw (λm=>Ok.mk ⟨a8,.inl ?_⟩) (λhz=>Ok.mk ⟨a8,.inr ?_⟩)⟩
 ·rw [a4];exact⟨m,rfl⟩
 ·rw [a4]
  exact⟨hz,_,F',rfl,⟨c1,h',z,A⟩,λa b=>(a7.new a b).elim (b7 a) λh5=>by have:=a1.size;omega,a6⟩
end
theorem MV (b:World):(callMethod (.iface 97 (.pointer (some ⟨a,0,none⟩))) "State" #[QH e,QH o]).run ZQ b= .ok (.enter 391 #[.pointer (some ⟨a,0,none⟩),QH e,QH o]) b:=kR
def ET (a:aR) (b:List ah) (c d:Int):ve:=match(cG a b).state c d with
 |none=>pN 14
 |some e=>⟨0,(0,0),e,[],[],false⟩
section
variable {w w' w0 w1 w2:World} {p:Nat} {F E D:Nat->Prop} {cls:Nat->Nat} {h:ko} {c:cz} {self:Int} {X:bw}
theorem DE (a:c_ w F cls p h c self X):Calls ZQ 66 #[.pointer (some ⟨p,0,none⟩)] w (Ok λb w'=>b= .iface 97 (.pointer (some ⟨h.bp,0,none⟩))/\w=w'):=
 oN ⟨p,0,rfl,_,ae a.bG rfl,Ok.mk ⟨rfl,rfl⟩⟩
theorem A_ (y:bP w p F c self X) :Calls ZQ 31 #[.pointer (some ⟨p,0,none⟩),QH e,QH o] w (Ok λz w'=>ju w (ET c.decl X.S.l e o) z w'/\ai w w'):=by
 obtain⟨A,h,cls,q⟩:=y;refine p_ (PA.mk λB f S C=>PC.ok (DE (c_.af q f)) ?_);rintro _ _ ⟨rfl,rfl⟩;have E:=c_.af q f;have a:dF B h.bp (λb=>F b/\cls b=4) c.decl c.every.toNat X.S.l:=E.at' 4;refine⟨_,rfl,_,_,MV,PC.ok (Lj a) ?_⟩;rintro _ r ⟨j,k,l,G,rfl,m,s,g⟩;have H:=m.aF;have T:=g.size;refine⟨_,_,_,_,_,rfl,PA.mk λU I V J=>PS.mk J sM λW K Y L=>PS.mk L sM λM N Z n=>?_⟩;have d:ai r M:=I.new (K.then N) λb a=>.inr (by have a:b=r.heap.size:=a;omega);have t:=d.get (g.get C id) id;have b0:=d.size;have u:(((cG c.decl X.S.l).state e o).getD IB).cells.length<=8:=Fq (IP A.decl X.S.l).1 ⟨0,0,0,[],e,o,0,0,0,0⟩;unfold ET
 cases O:(cG c.decl X.S.l).state e o with
 |none=>
  refine al.tt rfl (aD (lR (pN 14) none 0 0 none 0 0 none 0 0) t rfl λb1 P b2 Q=>aw (lR (pN 14) none 0 0 none 0 0 none 0 0) Q (Ok.mk ⟨ju.plain rfl rfl rfl,?_⟩));exact((f.then g).then d).new P λb a=>.inr (by have a:b=w.heap.size:=a;omega)
 |some i=>
  rw [O]at m u n;refine al.ff rfl ⟨_,_,_,_,ae n rfl,ae n rfl,aD (lR ⟨0,(0,0),i,[],[],false⟩ j k l none 0 0 none 0 0) t rfl λb3 v b4 R=>aw (lR ⟨0,(0,0),i,[],[],false⟩ j k l none 0 0 none 0 0) R (Ok.mk ⟨?_,?_⟩)⟩
  ·refine⟨j,k,l,none,0,0,none,0,0,G,rfl,((m.af d).keep v λb a x=>by have x:b=w.heap.size:=x;have:=s b a;omega).row dC (by have:i.cells.length<=8:=u;show i.cells.length*32<=aQ;unfold aQ;omega),eE _ _,eE _ _,λb a=>⟨by have:=s b a;omega,by have:=H b a;omega⟩⟩
  ·exact((f.then g).then d).new v λb a=>.inr (by have a:b=w.heap.size:=a;omega)
end
variable{r:Array Value}{W:Int}{c:Nat}{f:Nat->Prop}{I:Nat×Nat}{V Y:Operand}{b6:Option Addr}{h:Program}{g p:TypeId}{R:Value->Prop}{b:World}{b5:bD}{e0:dz}
theorem Sn :(do eqGuard .neq 39 V Y (.agg #[QH e,QH o]) (.agg #[QH J,QH W]);binOp .neq 39 (.agg #[QH e,QH o]) (.agg #[QH J,QH W]):Sem Value).run ZQ b= .ok (.bool (!(e==J&&o==W))) b:=by
 have a:=GN (x:=V) (y:=Y) (a:=e) (b:=o) (c:=J) (d:=W) (w:=b);rw [Sem.run_bind,run_eqGuard_agg b .eql _ V Y _ _ kR,Result.andThen_ok,run_eql_struct]at a;rw [Sem.run_bind,run_eqGuard_agg b .neq _ V Y _ _ kR,Result.andThen_ok,run_neq_struct];generalize(Op.equalIn 10000 39 (.agg #[QH e,QH o]) (.agg #[QH J,QH W])).run ZQ b=c at a⊢
 cases c with
 |ok d f=>simp only [Result.andThen_ok,Result.ok.injEq,Value.bool.injEq]at a⊢;obtain⟨rfl,rfl⟩:=a;exact⟨rfl,rfl⟩
 |_=>simp [Result.andThen]at a
section
variable {w w':World} {D E:Nat->Prop} {a b:Option Addr} {n m c:Nat}
theorem ER (h:Row gC 32 w D a n b5.bH):Calls ZQ 77 #[.agg (eg b5 a n c).toArray] w (Ok λI w'=>∃q y r f,I= .agg (eg b5 q y r).toArray/\aV gC 125 f w' q y r b5.bH/\ai w w'/\∀b,f b->w.heap.size<=b):=by
 have Y:=h.len;have d:=h.d_;unfold aQ at d;refine Al (PA.mk λz J Z K=>PA.mk λs A s7 L=>?_);have M:=A.get K id;have B:=J.then A;refine⟨λC l e m i w'=>i=(e:Int)/\e<=n/\C=n-e/\∃f,aV gC 125 f w' l e m (b5.bH.take e)/\ai s w'/\∀b,f b->s.heap.size<=b,
  ⟨_,rfl,Qj _,rfl,λ_=>False,by simpa using aV.nil s,aj.refl _,λ_ h=>h.elim⟩,?_⟩
 rintro C l e m i _ w1 ⟨rfl,hj,rfl,f,o,g,j⟩;have t:=g.get M id;have E:=B.then g;have F:(b5.bH.take e).length=e:=by simp;omega
 refine⟨_,_,_,ae t rfl,al.dec (λN=>?_) (λN=>?_)⟩
 ·obtain⟨b,u,x,es,rfl,_,_,O,p,rfl,P⟩:=(h.af E).sS (i:=e) oM
  refine⟨_,_,_,ae t rfl,b,u,rfl,oM,oM,_,_,_,_,p 0 dC,p 1 dC,p 2 dC,p 3 dC,IL o Ms (x:=x) (D:=λ_=>False) ⟨rfl,P⟩ (λ_ h=>h.elim) (by rw [F];unfold aQ;omega) (by rw [F];unfold maxLen;omega) λq r Q R S T U _=>?_⟩;refine⟨_,_,_,rfl,n-(e+1),oM,an oM,oM,rfl,R,?_,g.new T λb d=>.inr (j b (o.self b d)),?_⟩
  ·rw [Qw,O];exact S
  ·intro b d
   have:=g.size;rcases U b d with h|h|h
   ·exact j b h
   ·exact h.elim
   ·omega
 ·obtain rfl:e=n:=oM
  rw [Qz oM]at o;have V:=g.get L id;refine PS.mk t sM λw2 v s2 W=>aw (cs:=eg b5 l e m) (fD _ _ _ _) W (aD (fD _ _ _ _) (v.get V oM) rfl λQ H s3 X=>aw (fD _ _ _ _) X (Ok.mk ⟨l,e,m,f,rfl,?_,?_,λb d=>by have:=j b d;have:=B.size;omega⟩))
  ·exact(o.keep v λb d k=>by have k:b=w.heap.size:=k;have:=j b d;omega).keep H λb d k=>by have k:b=z.heap.size:=k;have:=j b d;omega
  ·exact(E.new v λb d=>.inr (by have d:b=w.heap.size:=d;omega)).new H λb d=>.inr (by have d:b=z.heap.size:=d;omega)
theorem HP {tn tc W pc:Nat} (p:bh w D O d tn q W):
  Calls ZQ 39 #[.agg #[.slice d tn tc,.slice q W pc]] w (Ok λe0 w'=>∃I AW a3 J K a7 G,e0= .agg #[.slice I AW a3,.slice J K a7]/\bh w' G O I AW J K/\(∀b,G b->w.heap.size<=b/\b<w'.heap.size)/\ai w w'):=by
 have g8:=p.bd.len;have b3:=p.bd.d_;have g9:=p.Bk.len;have b4:=p.Bk.d_;refine BP (PA.mk λL k4 s4 g4=>PA.mk λi k5 s5 g5=>PA.mk λw6 k6 s6 g6=>?_);have b5:=k4.then k5;have d7:=b5.then k6;have gp:=k6.get (k5.get g4 id) id;have gr:=k6.get g5 id;have z6:=d7.size;refine⟨λm M w'=>∃g:Nat,M=g/\g<=tn/\m=tn-g/\aj (·=i.heap.size) w6 w'/\∃N P X Z,w'.heap[i.heap.size]? =some (.cells #[.slice N P X,.slice none 0 0] 25 (0,0))/\aV lv 130 Z w' N P X (O.types.take g)/\∀b,Z b->w6.heap.size<=b,
  ⟨_,0,rfl,Qj _,rfl,aj.refl _,none,0,0,λ_=>False,g6,aV.nil _,λ_ p=>p.elim⟩,?_⟩
 rintro m _ _ h ⟨g,rfl,hj,rfl,Q,N,P,X,Z,go,x,F⟩;have a4:ai w h:=d7.new Q λb c=>.inr (by have c:b=i.heap.size:=c;have:=b5.size;omega);have zk:=Q.size;have a0:=Q.get gp λe=>by have e:w.heap.size=i.heap.size:=e;omega
 refine⟨_,_,_,ae a0 rfl,al.dec (λj7=>?_) (λj8=>?_)⟩
 ·have h0:g<O.types.length:=oM
  have b6:O.types[g]? =some O.types[g]:=Qq h0;generalize O.types[g]=r at b6;obtain⟨b,B,es,ha,c,j9,e1,fa,fn,fc,rfl,b8⟩:=(p.bd.af a4).el g r b6;have c0:=e1 0 dC;have h2:lv.k=1:=rfl;rw [h2,Nat.mul_one]at c0;have h3:=b8.len;have b9:=b8.d_;refine PA.mk λk0 h4 k1 h6=>PS.mk h6 sM λa5 h7 k2 h8=>?_;have C:ai h a5:=h4.new h7 λb c=>.inr (by have c:b=h.heap.size:=c;omega);have e2:=C.get a0 id;have d9:=C.size;have e3:=a4.then C;refine⟨λm M w'=>∃l:Nat,M=l/\l<=fn/\m=fn-l/\aj (·=h.heap.size) a5 w'/\∃t u y v,w'.heap[h.heap.size]? =some (.cells #[.slice t u y] 130 (0,0))/\aV pT 123 v w' t u y (r.take l)/\∀b,v b->a5.heap.size<=b,
   ⟨_,0,rfl,Qj _,rfl,aj.refl _,none,0,0,λ_=>False,h8,aV.nil _,λ_ p=>p.elim⟩,?_⟩
  rintro m _ _ a6 ⟨l,rfl,hk,rfl,j,t,u,y,v,z,k,s⟩;have zx:=j.size;have e4:ai w a6:=e3.new j λb c=>.inr (by have c:b=h.heap.size:=c;have:=a4.size;omega);have b2:=j.get e2 λe=>by have e:w.heap.size=h.heap.size:=e;have:=aC a0;omega
  have b7:a6.cell? ⟨b,B+Int.toNat (g:Int),none⟩=some (.slice fa fn fc):=by
   rw [Qx];refine(j.cell (a:=⟨b,B+g,none⟩) (Qk c d9) λe=>by have e:b=h.heap.size:=e;omega).trans ((C.cell (a:=⟨b,B+g,none⟩) c id).trans ?_);exact c0
  refine⟨_,_,_,ae b2 rfl,b,B,ha,oM,oM,_,_,_,b7,al.dec (λe5=>?_) (λe6=>?_)⟩
  ·intro c1 h9
   have o:ai a6 c1:=h9.keep;have j6:=e4.then o;have e7:=o.get z id;have e8:=o.get b2 id;have f0:c1.cell? ⟨b,B+Int.toNat (g:Int),none⟩=some (.slice fa fn fc):=(o.cell (a:=⟨b,B+Int.toNat (g:Int),none⟩) (Qk (Qk c d9) zx) id).trans b7;have i0:l<r.length:=oM
   have c2:r[l]? =some r[l]:=Qq i0;generalize r[l]=H at c2;have f1:ai h c1:=(C.new j λb c=>.inr (by have c:b=h.heap.size:=c;omega)).then o;obtain⟨fb,fo,a8,rfl,-,-,c4,ya,yn,yc,rfl,c5,a9⟩:=(b8.af f1).el l H c2;have f3:=c5.len;have f5:=c5.d_;refine⟨λ_=>False,id,_,_,_,ae e7 rfl,_,_,_,ae e8 rfl,b,B,ha,oM,oM,_,_,_,f0,fb,fo,rfl,oM,oM,br (es:=eg H ya yn yc) (k:=4) (fD _ _ _ _) rfl (λr ht=>by rw [Qx];exact c4 r ht) (PC.ok (ER c5) ?_)⟩;rintro _ k3 ⟨a,n,cc,Fm,rfl,c6,e9,f2⟩;have f6:=c6.aF;refine⟨_,_,_,_,_,_,rfl,e9,PA.mk λf4 c7 k7 i1=>⟨c7,?_⟩⟩;have a1:ai a6 f4:=(o.then e9).then c7;have k8:=c6.len dC;have f7:Row gC 32 f4 Fm a n H.bH:=(c6.af c7).row dC (by rw [<-f3];exact f5);refine fh (c:=pT) (x:=H) (k.af a1) RX i1 (D:=Fm) ⟨a,n,cc,rfl,f7,a9⟩ (λb c=>⟨by have:=f6 b c;omega,λe=>by have:=k.aF b (k.self b e);have:=f2 b c;have:=o.size;omega⟩) (by rw [Qy];unfold aQ at*;omega) (by rw [Qy];unfold aQ at b9;unfold maxLen;omega) λR S i2 A b0 E T=>⟨_,_,_,rfl,?_⟩
   have c9:¬aI t=some h.heap.size:=λe=>by have:=s _ (k.self _ e);omega
   have k9:=a1.size;have i3:=E.size;have zd:=o.size;have f:∀b,A b->a5.heap.size<=b:=λb c=>by
    rcases T b c with Y|Y|Y
    ·exact s b Y
    ·have:=f2 b Y;omega
    ·omega
   refine PS.mk (E.get (a1.get z id) c9) sM λi4 U i5 d0=>⟨_,oM,l+1,an (by unfold aQ at b9;omega),oM,rfl,((j.af a1).new E λb c=>.inr (s b (k.self b c))).then U,R,u+1,S,A,d0,?_,f⟩
   rw [Qw,c2];exact b0.keep U λb c e=>by have e:b=h.heap.size:=e;have:=f b c;omega
  ·rw [Qz oM]at k
   have c3:=j.get (C.get go id) λe=>by have e:i.heap.size=h.heap.size:=e;have:=aC go;omega
   refine⟨_,_,_,ae c3 rfl,_,_,_,ae z rfl,PA.mk λi6 d1 l0 i7=>?_⟩;have b1:ai h i6:=(C.new j λb c=>.inr (by have c:b=h.heap.size:=c;omega)).then d1;refine fh (c:=lv) (x:=r) (x.af b1) NO i7 (D:=v) ⟨t,u,y,rfl,(k.af d1).row dC (by rw [<-h3];exact b9)⟩ (λb c=>⟨by have:=k.aF b c;omega,λe=>by have:=x.aF b (x.self b e);have:=s b c;omega⟩) (by rw [Qy];unfold aQ at*;omega) (by rw [Qy];unfold aQ at b3;unfold maxLen;omega) λR S l3 A f8 d2 T=>⟨_,_,_,rfl,?_⟩
   have i8:¬aI N=some i.heap.size:=λe=>by have:=F _ (x.self _ e);omega
   have l4:=b1.size;have l5:=d2.size;have f:∀b,A b->w6.heap.size<=b:=λb c=>by
    rcases T b c with Y|Y|Y
    ·exact F b Y
    ·have:=s b Y;omega
    ·omega
   refine PS.mk (d2.get (d1.get c3 id) i8) sM λl6 c8 l7 i9=>⟨_,oM,g+1,an (by unfold aQ at b3;omega),oM,rfl,((Q.af b1).new d2 λb c=>.inr (F b (x.self b c))).then c8,R,P+1,S,A,i9,?_,f⟩
   rw [Qw,b6];exact f8.keep c8 λb c e=>by have e:b=i.heap.size:=e;have:=f b c;omega
 ·rw [Qz oM]at x
  have f9:=x.aF;refine⟨λm M w'=>∃g:Nat,M=g/\g<=W/\m=W-g/\aj (·=i.heap.size) h w'/\∃t u y v,w'.heap[i.heap.size]? =some (.cells #[.slice N P X,.slice t u y] 25 (0,0))/\aV wH 128 v w' t u y (O.projs.take g)/\∀b,v b->h.heap.size<=b,
   ⟨_,0,rfl,Qj _,rfl,aj.refl _,none,0,0,λ_=>False,go,aV.nil _,λ_ p=>p.elim⟩,?_⟩
  rintro m _ _ d3 ⟨l,rfl,hk,rfl,j,t,u,y,v,z,k,s⟩;have zx:=j.size;have d4:ai w d3:=a4.new j λb c=>.inr (by have c:b=i.heap.size:=c;have:=b5.size;omega);have d8:=j.get a0 λe=>by have e:w.heap.size=i.heap.size:=e;omega
  refine⟨_,_,_,ae d8 rfl,al.dec (λe5=>?_) (λe6=>?_)⟩
  ·intro j0 j1
   have o:ai d3 j0:=j1.keep;have g0:=o.get z id;obtain⟨fb,fo,H,a8,rfl,-,-,j2,c4,rfl,a9⟩:=(p.Bk.af (d4.then o)).sS (i:=l) oM;have V:=λr (ht:r<5)=>c4 r ht;refine⟨λ_=>False,id,_,_,_,ae g0 rfl,_,_,_,ae (o.get d8 id) rfl,fb,fo,rfl,oM,oM,_,_,_,_,_,V 0 dC,V 1 dC,V 2 dC,V 3 dC,V 4 dC,PA.mk λj3 g1 l8 j4=>⟨g1,?_⟩⟩;have a2:ai d3 j3:=o.then g1;refine fh (c:=wH) (x:=H) (k.af a2) Mh j4 (D:=λ_=>False) ⟨rfl,a9⟩ (λb c=>c.elim) (by rw [Qy];unfold aQ at*;omega) (by rw [Qy];unfold aQ at b4;unfold maxLen;omega) λR S i2 A b0 E T=>⟨_,_,_,rfl,?_⟩
   have c9:¬aI t=some i.heap.size:=λe=>by have:=s _ (k.self _ e);omega
   have l9:=a2.size;have i3:=E.size;have zd:=o.size;have f:∀b,A b->h.heap.size<=b:=λb c=>by
    rcases T b c with Y|Y|Y
    ·exact s b Y
    ·exact Y.elim
    ·omega
   refine PS.mk (E.get (a2.get z id) c9) sM λi4 U i5 d0=>⟨_,oM,l+1,an (by unfold aQ at b4;omega),oM,rfl,((j.af a2).new E λb c=>.inr (s b (k.self b c))).then U,R,u+1,S,A,d0,?_,f⟩
   rw [Qw,j2];exact b0.keep U λb c e=>by have e:b=i.heap.size:=e;have:=f b c;omega
  ·rw [Qz oM]at k
   have g2:=k.aF;have g3:=j.get (Q.get gr λe=>by have e:L.heap.size=i.heap.size:=e;omega) λe=>by have e:L.heap.size=i.heap.size:=e;omega
   have h1:=x.keep j λb c e=>by have e:b=i.heap.size:=e;have:=F b c;omega
   refine⟨_,_,_,_,_,_,ae z rfl,ae z rfl,PS.mk g3 sM λm0 d5 m1 j5=>PS.mk j5 sM λm2 d6 m3 g7=>⟨_,_,_,_,_,_,ae g7 rfl,ae g7 rfl,Ok.mk ⟨_,_,_,_,_,_,λb=>Z b\/v b,rfl,⟨?_,?_⟩,?_,?_⟩⟩⟩
   ·exact(((h1.row (bytes:=24) dC (by rw [<-g8];exact b3)).keep (d5.then d6) λb c e=>by have e:b=L.heap.size:=e;have:=F b c;omega)).mono λb c=>.inl c
   ·exact(((k.row (bytes:=40) dC (by rw [<-g9];exact b4)).keep (d5.then d6) λb c e=>by have e:b=L.heap.size:=e;have:=s b c;omega)).mono λb c=>.inr c
   ·have z4:=k4.size
    rintro b (c|c)
    ·have:=F b c;have:=f9 b c;omega
    ·have:=s b c;have:=g2 b c;omega
   ·exact d4.new (d5.then d6) λb c=>.inr (by have c:b=L.heap.size:=c;have:=k4.size;omega)
theorem wN {c:cz} {tn u r v:Nat} (x:bh w D c.decl d tn q r):
  Calls ZQ 13 #[lK c d tn u q r v] w (Ok λy w'=>∃a AW g e f h G,y=lK c a AW g e f h/\bh w' G c.decl a AW e f/\(∀b,G b->w.heap.size<=b/\b<w'.heap.size)/\ai w w'):=by
 refine BM (PA.mk λl s J z=>PA.mk λK m L A=>?_);have n:=m.get z id;refine⟨_,_,_,_,_,_,ae n rfl,ae n rfl,PC.ok (HP (x.af (s.then m))) ?_⟩;rintro _ M ⟨a,AW,g,e,f,h,G,rfl,B,o,k⟩;have N:=k.size;refine⟨_,_,_,_,_,_,rfl,PS.mk (k.get n id) sM λO C P E=>PS.mk E sM λQ F R H=>?_⟩;have p:=C.then F;refine aw (gD c a AW g e f h) H (aD (gD c a AW g e f h) (p.get (k.get A id) λj=>by have j:l.heap.size=w.heap.size:=j;omega) rfl λS t T I=>aw (gD c a AW g e f h) I (Ok.mk ⟨_,_,_,_,_,_,G,rfl,?_,λb i=>?_,?_⟩))
 ·exact(B.keep p λb i j=>by have j:b=w.heap.size:=j;have:=o b i;omega).keep t λb i j=>by have j:b=l.heap.size:=j;have:=o b i;omega
 ·have:=o b i;omega
 ·exact(((s.then m).then k).new p λb i=>.inr (by have i:b=w.heap.size:=i;omega)).new t λb i=>.inr (by have i:b=l.heap.size:=i;omega)
end
structure yE where
 kind:Int
 n:Int
 now:Int
 cmd:jS
 m:dz
section
variable (c:cz) (self:Int)
def CO (b:bw) (a:yE):Int×bw:=
 if a.kind=0 then((cm c self b a.cmd).1,(cm c self b a.cmd).2.2)else
 if a.kind=1 then(0,(gP c self b a.n (pick a.now 4611686018427387904)).2)else
 if a.kind=2 then(bA c self b a.m).2 else
 if a.kind=3 then(0,(KC self b (pick a.now 4611686018427387904)).2)else
 if a.kind=4 then iS c b a.n else
 if a.kind=5 then(0,{b with D:=b.D.Ma a.n})else
 if a.kind=6 then eC c b else(0,b)
end
structure ke (X Y:bw):Prop where
 evs:Y.S.l.length<=X.S.l.length+300\/Y.S.l.length<=16777216
 asked:Y.fP.asked.length<=X.fP.asked.length+1
theorem ke.refl (a:bw):ke a a:=⟨.inl oM,oM⟩
theorem KE {a b:Type} [BEq a] [LawfulBEq a] (c:a) (d:b):∀(e:List (a×b)),(aJ e c d).length<=e.length+1
 |[]=>by simp [aJ]
 |(g,h)::f=>by
  unfold aJ;split
  ·simp
  ·have:=KE c d f
   simp;omega
theorem Gx {b e:Type} [BEq b] [LawfulBEq b] (a:b) (f:e):∀(d:List (b×e)),a∈d.map (·.1)->(aJ d a f).map (·.1)=d.map (·.1)
 |[],h=>by simp at h
 |(i,k)::g,h=>by
  unfold aJ
  by_cases c:(a==i)=true
  ·rw [if_pos c]
   have:=eq_of_beq c;subst this;rfl
  ·rw [if_neg c]
   have j:a∈g.map (·.1):=by
    rcases Q2.1 h with h|h
    ·exact absurd (by rw [h];simp) c
    ·exact h
   simp [Gx a f g j]
theorem KF {a d:Type} [BEq a] [LawfulBEq a] (b:a):∀(c:List (a×d)),(bV c b).length<=c.length
 |[]=>by simp [bV]
 |(f,g)::e=>by
  unfold bV;split
  ·simp
  ·have:=KF b e
   simp;omega
theorem Iq (d a:Int) (b:List Int×List (Int×Int)) (c:Int) (e:c∈b.2.map (·.1)):(gA d a b c).2.map (·.1)=b.2.map (·.1):=by
 unfold gA;split
 ·exact Gx _ _ _ e
 ·rfl
theorem xv (d a:Int):∀(c:List Int) (b:List Int×List (Int×Int)),(∀x∈c,x∈b.2.map (·.1))->(c.foldl (gA d a) b).2.map (·.1)=b.2.map (·.1)
 |[],b,_=>rfl
 |x::c,b,e=>by
  have f:=Iq d a b x (e x (QV ..));rw [List.foldl_cons,xv d a c _ λg h=>by rw [f];exact e g (QJ _ h),f]
theorem kr.SX (a:kr) (b:Int):(a.SV b).asked.length=a.asked.length:=by
 have d:=xv a.dx b (a.open.take a.open.length) ([],a.asked) λe c=>by
  have c:=List.mem_of_mem_take c;unfold kr.open at c;exact(List.mergeSort_perm _ _).mem_iff.1 c
 have:=congrArg List.length d;rw [Q8,Q8]at this;exact this
theorem sQ (a:Nat):∀(d:List ah) (f:aq) (b c:List ah),(dI a d f b c).2.1.length+(dI a d f b c).2.2.length<=b.length+c.length+d.length
 |[],f,b,c=>by simp [dI]
 |e::d,f,b,c=>by
  unfold dI;split
  ·have:=sQ a d (f.add e).2 (b++[e]) c
   simp at this⊢;omega
  split
  ·have:=sQ a d f b c
   simp;omega
  ·have:=sQ a d f b (dQ a c e).2
   have:=DI a c e;simp;omega
theorem sq:∀(b:List ah) (c:aq) (a:List ah),(dP b c a).2.length<=a.length+b.length
 |[],c,a=>by simp [dP]
 |e::b,c,a=>by
  unfold dP;split
  ·have:=sq b (c.add e).2 (a++[e])
   simp at this⊢;omega
  ·have:=sq b (c.add e).2 a
   simp;omega
theorem Gy:∀(k:Nat) (b:aq) (a c:List ah),(kW k b a c).1.length<=a.length+c.length
 |0,b,a,c=>by simp [kW]
 |k+1,b,a,c=>by
  unfold kW;have d:=xu b c;dsimp only;split
  ·simp
  ·have e:=sq (bI b c).1 b a
   have f:=Gy k (dP (bI b c).1 b a).1 (dP (bI b c).1 b a).2 (bI b c).2;omega
theorem CV (b:cz) (a:bw) (c:List ah):(fm b a c).1.length<=a.waits.length+c.length:=by
 have d:=sQ b.buffer.toNat c (dZ b a.S []) [] a.waits;have e:=Gy ((dI b.buffer.toNat c (dZ b a.S []) [] a.waits).2.2.length+1) (dI b.buffer.toNat c (dZ b a.S []) [] a.waits).1 (dI b.buffer.toNat c (dZ b a.S []) [] a.waits).2.1 (dI b.buffer.toNat c (dZ b a.S []) [] a.waits).2.2;simp at d;unfold fm;dsimp only;omega
theorem QC (c:cz) (a:aq) (b:List ah):(dZ c a b).l.length<=a.l.length+b.length:=by
 have:=aq.np (a.l++b) ⟨c.bl.toNat,[]⟩;unfold dZ;simp at this⊢;omega
theorem Gz (c:cz) (a:bw) (b:List ah):(bU c a b).2.S.l.length<=a.S.l.length+b.length/\(bU c a b).2.fP=a.fP:=by
 unfold bU
 cases a.log with
 |none=>exact⟨by dsimp only;omega,rfl⟩
 |some d=>
  dsimp only;split
  ·exact⟨by dsimp only;omega,rfl⟩
  split
  ·exact⟨by dsimp only;omega,rfl⟩
  ·exact⟨QC c a.S b,rfl⟩
theorem CP (c:cz) (b:Int) (a:bw) (d:jS):ke a (cm c b a d).2.2:=by
 unfold cm
 cases a.log with
 |none=>exact ke.refl a
 |some e=>
  dsimp only;split
  ·exact ke.refl a
  split
  ·have:=Gz c a [(kV c.decl a.S (cG c.decl a.S.l) b c.start d).1]
   simp at this;split
   ·exact⟨.inl (by dsimp only;omega),by dsimp only;rw [this.2];omega⟩
   ·exact⟨.inl (by dsimp only;omega),by dsimp only;rw [this.2];omega⟩
  ·exact ke.refl a
theorem mW (d:cz) (e:Int) (a:bw) (b:dz) (k:a.waits.length<=256) (l:d.chunk<=32):ke a (bA d e a b).2.2:=by
 unfold bA
 cases a.log with
 |none=>exact ke.refl a
 |some m=>
  dsimp only;split
  ·exact ke.refl a
  rename_i i;split
  ·exact ke.refl a
  split
  ·rename_i j
   have n:b.events.length<=32:=by
    rcases Nat.lt_or_ge 32 b.events.length with h|h
    ·exfalso
     apply i;unfold dJ;rw [if_pos j];intro c;split at c
     ·cases c
     ·unfold ez at c
      split at c
      ·cases c
      ·rw [if_pos (.inr oM)]at c;cases c
    ·exact h
   unfold ia;have o:=CV d a b.events;dsimp only;split
   ·exact⟨.inl (by dsimp only;omega),by dsimp only;omega⟩
   ·have f:=Gz d {a with waits:=(fm d a b.events).2} (fm d a b.events).1
    dsimp only at f;split
    ·exact⟨.inl (by dsimp only;omega),by dsimp only;rw [f.2];omega⟩
    ·exact⟨.inl (by dsimp only;omega),by dsimp only;rw [f.2];omega⟩
  ·have g:(a.fP.AP b.ck b.vec a.S.vec).asked.length<=a.fP.asked.length+1:=by
    unfold kr.AP;dsimp only;split
    ·have:=KF b.ck a.fP.asked;omega
    ·omega
   split
   ·exact⟨.inl (by dsimp only;omega),g⟩
   split
   ·exact⟨.inl (by dsimp only;omega),g⟩
   ·exact⟨.inl (by dsimp only;omega),g⟩
theorem CQ (e:cz) (a:Int) (c:bw) (b d:Int):ke c (gP e a c b d).2:=by
 unfold gP;split
 ·exact ke.refl c
 ·exact⟨.inl (by dsimp only;omega),KE _ _ _⟩
theorem Mx (a:Int) (c:bw) (b:Int):ke c (KC a c b).2:=by
 unfold KC;exact⟨.inl (by dsimp only;omega),by dsimp only;rw [kr.SX];omega⟩
theorem zl (b:cz) (a:bw):(eR b a).2.fP=a.fP:=by
 unfold eR;dsimp only;split<;>rfl
theorem ES (b:cz) (a:bw):ke a (eC b a).2:=by
 unfold eC
 cases a.log with
 |none=>exact ke.refl a
 |some c=>
  dsimp only;split
  ·exact⟨.inl (by dsimp only;omega),by dsimp only;omega⟩
  ·exact⟨.inl (by dsimp only;omega),by dsimp only;omega⟩
structure yE.Ok (x:yE):Prop where
 kind:aN x.kind
 n:aN x.n
 now:aN x.now
 cmd:x.cmd.Ok
def jZ (a:yE) (b:Option Addr) (c d:Nat) (e:Option Addr) (f g:Nat):List Value:=[QH a.kind,QH a.n,QH a.now]++gJ a.cmd++cD a.m b c d e f g
abbrev Wc (a:yE) (b:Option Addr) (c d:Nat) (e:Option Addr) (f g:Nat):Value:=.agg (jZ a b c d e f g).toArray
theorem Of (a:yE) (b:Option Addr) (c d:Nat) (e:Option Addr) (f g:Nat):jg ZQ 72 (jZ a b c d e f g)=true:=kR
theorem FT (a:ve) (b:Option Addr) (c d:Nat) (e:Option Addr) (f g:Nat) (h:Option Addr) (i j:Nat):TF (fe ZQ 46) (.agg (n_ a b c d e f g h i j).toArray)=true:=kR
theorem JH (a:cz) (b:Option Addr) (tn c:Nat) (d:Option Addr) (e f:Nat):TF (fe ZQ 28) (lK a b tn c d e f)=true:=kR
def PJ:kM yE where
 k:=15
 rep:=λn D i cs=>∃a b e c d f,cs=jZ i a b e c d f/\Row aP 8 n D a b i.m.vec/\Row fZ 96 n D c d i.m.events/\i.Ok
 keep:=λ⟨a,b,e,c,d,f,g,j,k,l⟩ o h=>⟨a,b,e,c,d,f,g,j.keep o h,k.keep o h,l⟩
 mono:=λ⟨a,b,e,c,d,f,g,j,k,l⟩ h=>⟨a,b,e,c,d,f,g,j.mono h,k.mono h,l⟩
 len:=λ⟨a,b,e,c,d,f,g,_⟩=>by rw [g];rfl
 one:=λ⟨a,b,e,c,d,f,g,_⟩ p m=>by
  rw [g]at m;simp only [jZ,gJ,cD,List.cons_append,List.nil_append,Q2,List.not_mem_nil,or_false]at m;rcases m with rfl|rfl|rfl|rfl|rfl|rfl|rfl|rfl|rfl|rfl|rfl|rfl|rfl|rfl|rfl<;>rfl
theorem Og {es:List Value} (i:jg h g es=true) (j:b.heap[a]? =some (.cells r p I)) (k:∀d,d<es.length->r[c+d]? =es[d]?) (l:R (.agg es.toArray)):ow h g (.pointer (some ⟨a,c,none⟩)) b R:=
 br i rfl (λd e=>by
  have f:=k d e;rw [Qq e]at f⊢;exact ae j f) l
variable{g3:List yE}
section
variable {w w' w0 w1 w2:World} {p:Nat} {F E D Dv:Nat->Prop} {c:cz} {self:Int} {X:bw} {va ea:Option Addr} {vn vc en ec:Nat}
theorem JI :Calls ZQ 56 #[QH e] w (Ok λa w'=>a= QH (pick e 4611686018427387904)/\w=w'):=by
 refine LF (PC.ok (CN (by unfold aN;omega)) ?_);rintro _ _ ⟨rfl,rfl⟩;exact⟨_,rfl,Ok.mk ⟨rfl,rfl⟩⟩
theorem Mt (j:Row aP 8 w D va vn e0.vec) (f:Row fZ 96 w E ea en e0.events):
  Calls ZQ 28 #[kD e0 va vn vc ea en ec] w (Ok λg w'=>(∃d:Bool,g= .bool d/\(d=false->∀a∈e0.events,a.aK.length<=100))/\ai w w'):=by
 refine Hj (PA.mk λw1 b k e=>⟨_,_,_,ae e rfl,al.dec (λ_=>Ok.mk ⟨⟨_,rfl,sM⟩,b⟩) (λ_=>⟨_,_,_,ae e rfl,PC.ok (Mu (f.af b)) ?_⟩)⟩);rintro _ _ ⟨rfl,rfl⟩;refine⟨_,rfl,Ok.mk ⟨⟨_,rfl,λc a h=>?_⟩,b⟩⟩;have c:=Xy c;exact Nat.le_of_not_lt λi=>c (.inl ⟨a,h,i⟩)
theorem Mv {tn o l p:Nat} (i:bh w D O d tn q l):Calls ZQ 29 #[.agg #[.slice d tn o,.slice q l p]] w (Ok λr w'=>(∃f:Bool,r= .bool f)/\ai w w'):=by
 have B:=i.bd.len;have s:=i.bd.d_;unfold aQ at s;refine Hk (PA.mk λw1 a C b=>⟨_,_,_,ae b rfl,al.dec (λ_=>Ok.mk ⟨⟨_,rfl⟩,a⟩) (λ_=>⟨_,_,_,ae b rfl,al.dec (λ_=>Ok.mk ⟨⟨_,rfl⟩,a⟩) (λ_=>?_)⟩)⟩);refine⟨λg j w'=>∃c:Nat,j=c/\c<=tn/\g=tn-c/\w1=w',⟨_,0,rfl,Qj _,rfl,rfl⟩,?_⟩;rintro g _ _ _ ⟨c,rfl,E,rfl,rfl⟩;refine⟨_,_,_,ae b rfl,al.dec (λF=>?_) (λ_=>Ok.mk ⟨⟨_,rfl⟩,a⟩)⟩;obtain⟨f,k,H,I,rfl,J,-,K,t,L,m,M,rfl,n⟩:=(i.bd.af a).sS (i:=c) oM;have h:=t 0 dC;have u:lv.k=1:=rfl;rw [u,Nat.mul_one]at h;have v:=n.d_;unfold aQ at v;refine⟨_,_,_,ae b rfl,f,k,rfl,oM,oM,_,_,_,h,al.dec (λ_=>Ok.mk ⟨⟨_,rfl⟩,a⟩) (λ_=>?_)⟩;refine⟨λg j w'=>∃e:Nat,j=e/\e<=m/\g=m-e/\w1=w',⟨_,0,rfl,Qj _,rfl,rfl⟩,?_⟩;rintro g _ _ _ ⟨e,rfl,N,rfl,rfl⟩;refine⟨_,_,_,ae b rfl,f,k,rfl,oM,oM,_,_,_,h,al.dec (λP=>?_) (λ_=>⟨_,oM,c+1,an oM,oM,rfl,rfl⟩)⟩;obtain⟨x,y,Q,z,rfl,-,-,R,A,S,T,U,rfl,-,-⟩:=n.sS (i:=e) oM;exact⟨_,_,_,ae b rfl,f,k,rfl,oM,oM,_,_,_,h,x,y,rfl,oM,oM,_,_,_,A 3 dC,al.dec (λ_=>Ok.mk ⟨⟨_,rfl⟩,a⟩) (λ_=>⟨_,oM,e+1,an oM,oM,rfl,rfl⟩)⟩
theorem oX {tn x s y m z:Nat} (A:bh w D c.decl d tn q s) (o:Row PJ 152 w E b6 m g3):
  Calls ZQ 10 #[lK c d tn x q s y,.slice b6 m z] w (Ok λB w'=>(∃g:Bool,B= .bool g/\(g=false->g3.length<=100/\∀e∈g3,∀i∈e.m.events,i.aK.length<=100))/\ai w w'):=by
 have T:=o.len;have C:=o.d_;unfold aQ at C;refine Hh (PA.mk λw1 n U F=>?_);refine⟨λp w'=>ai w1 w'/\(g3.length<=100->∀e∈g3,∀i∈e.m.events,i.aK.length<=100),⟨λt p b w'=>∃a:Nat,b=a/\a<=m/\t=m-a/\ai w1 w'/\∀e∈g3.take a,∀i∈e.m.events,i.aK.length<=100,⟨_,0,rfl,Qj _,rfl,aj.refl _,sM⟩,?_⟩,?_⟩
 ·rintro t p _ _ w2 ⟨a,rfl,V,rfl,j,k⟩
  refine al.dec (λW=>al.dec (λH=>?_) (λH=>⟨j,λI=>oM⟩)) (λX=>⟨j,λ_=>by rw [Qz oM]at k;exact k⟩);obtain⟨g,l,J,Y,rfl,K,-,L,u,va,vn,vc,ea,en,ec,rfl,M,N,-⟩:=(o.af (n.then j)).sS (i:=a) oM;refine⟨g,l,rfl,oM,oM,br (es:=cD J.m va vn vc ea en ec) (k:=5) (j_ _ _ _ _ _ _ _) rfl (λb Z=>by
   rw [Qx];have:=u (10+b) (show 10+b<15 by omega);rw [show l+a*15+10+b=l+a*PJ.k+(10+b) by show _=l+a*15+_;omega,this];rcases b with _|_|_|_|_|b<;>first|rfl|omega) (PC.ok (Mt M N) ?_)⟩
  rintro _ O ⟨⟨P,rfl,Q⟩,f⟩;refine⟨_,rfl,al.mk (λ_=>Ok.mk ⟨⟨_,rfl,sM⟩,(n.then j).then f⟩) (λR=>?_)⟩;refine⟨g,l,rfl,oM,oM,_,_,_,(f.cell (a:=⟨g,_,none⟩) K id).trans (by rw [Qx];exact u 14 dC),_,oM,a+1,an oM,oM,rfl,j.then f,?_⟩;rw [Qw,L];intro e h;rcases Q6.1 h with h|h
  ·exact k e h
  ·simp at h;subst h;exact Q R
 ·rintro p _ O ⟨f,k⟩
  have v:=f.get F id;refine⟨_,_,_,_,_,_,ae v rfl,ae v rfl,PC.ok (Mv (A.af (n.then f))) ?_⟩;rintro _ w4 ⟨⟨P,rfl⟩,S⟩;have r:=(n.then f).then S;refine⟨_,rfl,al.mk (λ_=>Ok.mk ⟨⟨_,rfl,sM⟩,r⟩) (λ_=>al.dec (λ_=>Ok.mk ⟨⟨_,rfl,sM⟩,r⟩) (λI=>Ok.mk ⟨⟨_,rfl,λ_=>⟨oM,k oM⟩⟩,r⟩))⟩
theorem JJ (r:Row aP 8 w D va vn e0.vec) (s:Row fZ 96 w E ea en e0.events) (J:∀c∈e0.events,c.aK.length<=100):
  Calls ZQ 57 #[kD e0 va vn vc ea en ec] w (Ok λK w'=>∃d e t f g u G,K=kD e0 d e t f g u/\Row aP 8 w' G d e e0.vec/\Row fZ 96 w' G f g e0.events/\(∀a,G a->w.heap.size<=a/\a<w'.heap.size)/\ai w w'):=by
 have L:=r.len;have M:=r.d_;have N:=s.len;have O:=s.d_;refine Eu (PA.mk λw1 P Z Q=>PA.mk λw2 z s2 R=>?_);have A:=P.then z;have B:=z.get Q id;refine⟨_,_,_,ae B rfl,PC.ok (tS (r.af A)) ?_⟩;rintro _ w3 ⟨i,j,k,S,rfl,C,l,m⟩;have z3:=l.size;have T:=C.aF;refine⟨_,_,_,rfl,PS.mk (l.get B id) (by simp [cD]) λU v s4 F=>⟨_,_,_,ae F rfl,?_⟩⟩;have H:ai w U:=(A.then l).new v λa b=>.inr (by have b:a=w.heap.size:=b;omega);refine PC.ok (rK (s.af H) J) ?_;rintro _ w5 ⟨n,o,p,V,rfl,I,h,x⟩;have z5:=h.size;have W:=I.aF;refine⟨_,_,_,rfl,PS.mk (h.get F id) (by simp [cD]) λw6 q s6 X=>aw (j_ e0 i j k n o p) X (aD (j_ e0 i j k n o p) (q.get (h.get (v.get (l.get R id) oM) id) oM) rfl λw7 y s7 Y=>aw (j_ e0 i j k n o p) Y (Ok.mk ⟨i,j,k,n,o,p,λa=>S a\/V a,rfl,?_,?_,?_,?_⟩))⟩
 ·refine Row.mono ?_ λa b=>Or.inl b
  exact((((C.keep v λa b c=>by have c:a=w.heap.size:=c;have:=m a b;omega).af h).keep q λa b c=>by have c:a=w.heap.size:=c;have:=m a b;omega).keep y λa b c=>by have c:a=w1.heap.size:=c;have:=m a b;omega).row dC (by rw [<-L];exact M)
 ·refine Row.mono ?_ λa b=>Or.inr b
  exact qz.row (((I.keep q λa b c=>by have c:a=w.heap.size:=c;have:=x a b;omega).keep y λa b c=>by have c:a=w1.heap.size:=c;have:=x a b;omega).row dC (by rw [<-N];exact O))
 ·rintro a (b|b)
  ·have:=m a b;have:=T a b;omega
  ·have:=x a b;have:=W a b;omega
 ·exact(((H.then h).new q λa b=>.inr (by have b:a=w.heap.size:=b;omega)).new y λa b=>.inr (by have b:a=w1.heap.size:=b;omega))
theorem bP.waits (e:bP w p F c self X):X.waits.length<=256:=by
 obtain⟨h,f,a,g⟩:=e;obtain⟨i,D,b,-,-⟩:=(show Mw w (λd=>F d/\a d=5) f.wp c.buffer.toNat X.waits from g.at' 5)
 exact Xx b.1.2.le b.1.1
theorem bP.ok (a:bP w p F c self X):kU c self:=a.1
theorem de.after (a:ai w w1) (b:de F w1 f w2):de F w f w2:=⟨(ai.keep a).then b.keep,λc d=>(b.new c d).imp id λe=>by have:=a.size;omega⟩
theorem oY (n:bP w p F c self X) (Q:Env w0 w F) {b:yE} (o:b.Ok) (R:Row aP 8 w Dv va vn b.m.vec) (S:Row fZ 96 w E ea en b.m.events) (T:∀U∈b.m.events,U.aK.length<=100) (C:X.S.l.length<=18000000) (V:X.fP.asked.length<=1000):
  Calls ZQ 24 #[.pointer (some ⟨p,0,none⟩),Wc b va vn vc ea en ec] w (Ok λW w'=>∃a,W= QH (CO c self X b).1/\bP w' p a c self (CO c self X b).2/\de F w a w'/\ke X (CO c self X b).2):=by
 have H:=n.aF;have Y:=n.waits;have Z:=n.ok.vf;refine Hi (PA.mk λw1 d s1 i=>⟨_,ae i rfl,?_⟩);have g:=n.af d;have q:=Q.af d;unfold CO;refine al.dX (λs=>?_) (λs=>?_)
 ·rw [if_pos s]
  refine Og (es:=gJ b.cmd) (BF b.cmd) i (λk t=>by rcases k with _|_|_|_|_|_|_|k<;>first|rfl|exact absurd t (by simp [gJ])) (PC.ok (rL g q o.cmd oM) ?_);rintro _ w2 ⟨a,⟨sa,sn,sc,xa,xn,xc,ra,rn,rc,G,rfl,-,-,-,-⟩,a2,a0⟩;refine⟨_,_,_,_,_,_,_,_,_,_,_,_,_,_,rfl,Ok.mk ⟨a,?_,a2,de.after d a0,CP c self X b.cmd⟩⟩
  by_cases l:(cm c self X b.cmd).1≠0
  ·rw [if_pos l]
  ·rw [if_neg l];have l:(cm c self X b.cmd).1=0:=Classical.not_not.1 l;rw [l]
 rw [if_neg s];refine al.dX (λu=>?_) (λu=>?_)
 ·rw [if_pos u]
  intro w2 d2;have j:ai w1 w2:=d2.keep;have I:=j.get i id;refine⟨F,λv=>by have:=H _ v;omega,_,ae I rfl,_,ae I rfl,PC.ok JI ?_⟩;rintro _ _ ⟨rfl,rfl⟩;refine⟨_,rfl,aj.refl _,PC.ok (wO (g.af j) o.n) ?_⟩;rintro _ m ⟨a,⟨J,K,L,M,N,rfl,-⟩,f,e⟩;exact⟨_,_,_,rfl,e.keep,Ok.mk ⟨a,rfl,f,de.after (d.then j) e,CQ c self X _ _⟩⟩
 rw [if_neg u];refine al.dX (λx=>?_) (λx=>?_)
 ·rw [if_pos x]
  refine Og (es:=cD b.m va vn vc ea en ec) (j_ _ _ _ _ _ _ _) i (λk t=>by rcases k with _|_|_|_|_|k<;>first|rfl|exact absurd t (by simp [cD])) (PC.ok (JJ (R.af d) (S.af d) T) ?_);rintro _ w2 ⟨a1,a3,a4,a5,a6,a7,G,rfl,a8,a9,O,j⟩;have z1:=d.size;have P:∀h,G h->h<w2.heap.size/\¬F h:=λh r=>⟨(O h r).2,λv=>by have:=H h v;have:=O h r;omega⟩
  refine cu (XG _ _ _ _ _ _ _) ⟨rfl,PC.ok (kf (g.af j) (q.af j) a8 P a9 P C) ?_⟩;rintro _ m ⟨v1,a,rfl,⟨J,K,L,M,N,rfl,-⟩,f,e⟩;exact⟨_,_,_,_,rfl,Ok.mk ⟨a,rfl,f,de.after (d.then j) e,mW c self X b.m Y Z.2⟩⟩
 rw [if_neg x];refine al.dX (λy=>?_) (λy=>?_)
 ·rw [if_pos y]
  refine⟨_,ae i rfl,PC.ok JI ?_⟩;rintro _ _ ⟨rfl,rfl⟩;refine⟨_,rfl,PC.ok (Sp g V) ?_⟩;rintro _ m ⟨a,⟨J,K,L,M,N,rfl,-⟩,f,e⟩;exact⟨_,_,_,rfl,Ok.mk ⟨a,rfl,f,de.after d e,Mx self X _⟩⟩
 rw [if_neg y];refine al.dX (λz=>?_) (λz=>?_)
 ·rw [if_pos z]
  refine⟨_,ae i rfl,PC.ok (FU g q o.n) ?_⟩;rintro _ m ⟨a,rfl,f,e,b0⟩;refine⟨_,rfl,Ok.mk ⟨a,rfl,f,de.after d e,.inr b0,?_⟩⟩;unfold iS;rw [zl];exact Qj _
 rw [if_neg z];refine al.dX (λA=>?_) (λA=>?_)
 ·rw [if_pos A]
  refine⟨_,ae i rfl,PC.ok (Sq g o.n) ?_⟩;rintro _ m ⟨a,rfl,f,e⟩;exact⟨rfl,Ok.mk ⟨a,rfl,f,de.after d e,⟨.inl (by dsimp only;omega),by dsimp only;omega⟩⟩⟩
 rw [if_neg A];refine al.dX (λB=>?_) (λB=>?_)
 ·rw [if_pos B]
  refine PC.ok (zn g q C) ?_;rintro _ m ⟨a,rfl,f,e⟩;exact⟨_,rfl,Ok.mk ⟨a,rfl,f,de.after d e,ES c X⟩⟩
 ·rw [if_neg B]
  exact Ok.mk ⟨F,rfl,g,⟨ai.keep d,λh r=>.inl r⟩,ke.refl X⟩
end
end Go.Proofs.YtfchlbaidamodaaGreatDoor

import Derived.Test.YtfchlbaidamodaaGreatDoorKa30
set_option linter.all false
set_option maxRecDepth 20000
namespace Go.Proofs.YtfchlbaidamodaaGreatDoor
open Go.ax
variable{c7:List bD}{L:aR}
section
variable {w w' w0 w1 w2:World} {p:Nat} {F E D:Nat->Prop} {c:cz} {self:Int}
def cC (c:cz) (a:Option Addr) (tn b:Nat) (d:Option Addr) (e f:Nat):List Value:=[QH c.bl,QH c.nY,QH c.aZ,QH c.chunk,QH c.buffer,QH c.dx,QH c.every,QH c.start,.slice a tn b,.slice d e f]
abbrev lK (c:cz) (a:Option Addr) (tn b:Nat) (d:Option Addr) (e f:Nat):Value:=.agg (cC c a tn b d e f).toArray
theorem gD (c:cz) (a:Option Addr) (tn b:Nat) (d:Option Addr) (e f:Nat):jg ZQ 28 (cC c a tn b d e f)=true:=kR
theorem pw {a b c:Int}:Calls ZQ 70 #[QH a,QH b,QH c] w (Ok λd w'=>d= .bool (within a b c)/\w=w'):=by
 refine vO (al.dec (λe=>Ok.mk ⟨?_,rfl⟩) (λe=>Ok.mk ⟨?_,rfl⟩))
 ·simp [within];omega
 ·simp [within];omega
theorem Qt {y z:Option Addr} {tn A B C:Nat}:Calls ZQ 33 #[lK c y tn A z B C,QH self] w (Ok λk w'=>k= .bool (gG c self)/\ai w w'):=by
 refine Aj (PA.mk λw1 s J b=>?_);have K:∀{l m n:Int} {o:Bool->Prop} {t:List PanicEntry->World->Prop},o (within l m n)->∃p u v,(Value.func (.func 70) #[] #[])= .func (.func p) u v/\enters ZQ p=true/\PC ZQ p (u++ #[QH l,QH m,QH n]++v) w1 (λE F=>∃(x:Bool),E= .bool x/\F=w1/\o x) t:=λ{l m n o t} q=>by
  refine⟨_,_,_,rfl,kR,PC.ok pw ?_⟩;rintro _ _ ⟨rfl,rfl⟩;exact⟨_,rfl,rfl,q⟩
 have no:gG c self=false->Ok (λk w'=>k= .bool (gG c self)/\ai w w') (.returned (.bool false)) w1:=λH=>Ok.mk ⟨by rw [H],s⟩;have d:gG c self=(within c.bl 1 64&&(within self 0 (c.bl-1)&&(within c.nY 64 262144&&(decide (c.aZ>=1)&&(decide (c.every>=1)&&(within c.chunk 1 32&&(within c.buffer 1 256&&(within c.dx 1 1048576&&decide (c.start>=0))))))))):=by
  unfold gG;simp only [Bool.and_assoc]
 refine⟨_,ae b rfl,_,_,_,rfl,kR,PC.ok pw ?_⟩;rintro _ _ ⟨rfl,rfl⟩;refine⟨_,rfl,al.mk (λa=>⟨_,ae b rfl,_,_,_,rfl,kR,PC.ok pw ?_⟩) (λa=>no (by rw [d,a];rfl))⟩;have I:IntKind.wrap .i64 (c.bl-1)=c.bl-1:=wrap_i64 (by have:=bO.1 a;unfold aN;omega);rw [I];rintro _ _ ⟨rfl,rfl⟩;refine⟨_,rfl,al.mk (λe=>⟨_,ae b rfl,_,_,_,rfl,kR,PC.ok pw ?_⟩) (λe=>no (by rw [d,a,e];rfl))⟩;rintro _ _ ⟨rfl,rfl⟩;refine⟨_,rfl,al.mk (λf=>⟨_,ae b rfl,al.mk (λg=>⟨_,ae b rfl,al.mk (λh=>⟨_,ae b rfl,_,_,_,rfl,kR,PC.ok pw ?_⟩) (λh=>no (by rw [d,a,e,f,g,h];rfl))⟩) (λg=>no (by rw [d,a,e,f,g];rfl))⟩) (λf=>no (by rw [d,a,e,f];rfl))⟩;rintro _ _ ⟨rfl,rfl⟩;refine⟨_,rfl,al.mk (λi=>⟨_,ae b rfl,_,_,_,rfl,kR,PC.ok pw ?_⟩) (λi=>no (by rw [d,a,e,f,g,h,i];rfl))⟩;rintro _ _ ⟨rfl,rfl⟩;refine⟨_,rfl,al.mk (λj=>⟨_,ae b rfl,_,_,_,rfl,kR,PC.ok pw ?_⟩) (λj=>no (by rw [d,a,e,f,g,h,i,j];rfl))⟩;rintro _ _ ⟨rfl,rfl⟩;refine⟨_,rfl,al.mk (λr=>⟨_,ae b rfl,Ok.mk ⟨by rw [d,a,e,f,g,h,i,j,r];rfl,s⟩⟩) (λr=>no (by rw [d,a,e,f,g,h,i,j,r];rfl))⟩
theorem SR {a b:Nat} (c:L.types[a]? =some c7) (e:b<c7.length):L.Ed (a:Int) (b:Int)=c7[b]? :=by
 have f:=(Qv.1 c).1;have d:L.at (a:Int)=c7:=by
  unfold aR.at;rw [if_pos (bO.2 ⟨oM,oM⟩),Qx,QQ,c];rfl
 unfold aR.Ed;rw [d,if_pos (by simp only [QK,bO];exact⟨⟨oM,oM⟩,oM,oM⟩),Qx]
end
section
variable {w w' w0 w1 w2:World} {p:Nat} {F E D:Nat->Prop} {c:cz} {self:Int}
theorem MT {ta pa:Option Addr} {tn tc K pc:Nat} (h:bh w D L ta tn pa K) (hD:∀a,D a->a<w.heap.size):
  Calls ZQ 35 #[.agg #[.slice ta tn tc,.slice pa K pc]] w (Ok λa7 w'=>∃t AW a1 e u k G,a7= .agg #[.slice t AW a1,.slice e u k]/\bh w' G L t AW e u/\(∀a,G a->w.heap.size<=a/\a<w'.heap.size)/\ai w w'):=by
 have f4:=h.bd.len;have b8:=h.bd.d_;have f5:=h.Bk.len;have f7:=h.Bk.d_;refine xR (PA.mk λM k4 s4 g4=>PA.mk λw5 k5 s5 g5=>⟨_,_,_,ae (k5.get g4 id) rfl,?_⟩);have v:=k4.then k5;refine AZ (aV.nil (c:=wH) (e:=128) w5) Mh (h.Bk.af v) (λa b=>⟨by have:=hD a b;omega,λc=>by cases c⟩) (by rw [List.length_nil];unfold aQ at*;omega) (by rw [List.length_nil];unfold aQ at*;unfold maxLen;omega) λe k f Fp d1 k8 j6 d2=>⟨_,_,_,rfl,PA.mk λj7 g0 j8 g1=>PS.mk g1 sM λj9 g2 k0 g3=>PS.mk g3 sM λr g6 k1 g7=>?_⟩
 rw [List.nil_append,Xz]at d1;have a9:=d1.alone;have b9:∀a,aI e=some a->w5.heap.size<=a/\a<f.heap.size:=λa b=>⟨(d2 a b).elim False.elim id,a9.aF a b⟩
 have z8:=k8.size;have x:ai w5 f:=k8.mono λa _ c=>by cases c
 have y:ai f r:=(g0.new g2 λa b=>.inr (by have b:a=f.heap.size:=b;omega)).new g6 λa b=>.inr (by have b:a=f.heap.size:=b;omega);have b0:ai w r:=(v.then x).then y;have gp:=y.get (x.get (k5.get g4 id) id) id;have gr:=y.get (x.get g5 id) id;have b1:r.heap[f.heap.size]? =some (.cells #[.slice none 0 0,.slice e (0+K) k] 25 (0,0)):=g7;rw [Xz]at b1;have k2:=y.size;refine⟨_,_,_,ae gp rfl,λz a2 w'=>∃i:Nat,a2=i/\i<=tn/\z=tn-i/\aj (·=f.heap.size) r w'/\∃N O oc P,w'.heap[f.heap.size]? =some (.cells #[.slice N O oc,.slice e K k] 25 (0,0))/\aV lv 130 P w' N O oc (L.types.take i)/\∀a,P a->r.heap.size<=a,
  ⟨_,0,rfl,Qj _,rfl,aj.refl _,none,0,0,λ_=>False,b1,aV.nil _,λ_ h=>h.elim⟩,?_⟩
 rintro z _ _ Q ⟨i,rfl,hj,rfl,s,N,O,oc,P,R,m,A⟩;have S:ai w Q:=b0.new s λa b=>.inr (by have b:a=f.heap.size:=b;have:=v.size;have:=x.size;omega);have zk:=s.size;have b2:=s.get gp λc=>by have c:w.heap.size=f.heap.size:=c;have:=k4.size;omega
 refine al.dec (λk3=>?_) (λk6=>?_)
 ·have g8:i<L.types.length:=oM
  have T:L.types[i]? =some L.types[i]:=Qq g8;generalize L.types[i]=n at T;obtain⟨a,c1,es,ha,b,k7,c4,fa,fn,fc,rfl,U⟩:=(h.bd.af S).el i n T;have c0:=c4 0 dC;have g9:lv.k=1:=rfl;rw [g9,Nat.mul_one]at c0;have h0:=U.len;have c2:=U.d_;refine⟨a,c1,ha,oM,oM,fa,fn,fc,by rw [Qx];exact c0,PA.mk λk9 h3 l0 h4=>PS.mk h4 sM λj h6 l3 h7=>PA.mk λl4 d3 l5 h8=>PS.mk h8 sM λB d4 l6 h9=>?_⟩;have p:ai Q B:=((h3.new h6 λa b=>.inr (by have b:a=Q.heap.size:=b;omega)).then d3).new d4 λa b=>.inr (by have b:a=j.heap.size:=b;omega);have d5:=d4.get (d3.get h7 id) oM;have d6:=p.get b2 id;have l7:=p.size;have d7:=S.then p;refine⟨_,_,_,ae d5 rfl,λz a2 w'=>∃g:Nat,a2=g/\g<=fn/\z=fn-g/\aj (·=j.heap.size) B w'/\∃C E V W,w'.heap[j.heap.size]? =some (.cells #[.slice C E V] 130 (0,0))/\aV pT 123 W w' C E V (n.take g)/\∀a,W a->B.heap.size<=a,
   ⟨_,0,rfl,Qj _,rfl,aj.refl _,none,0,0,λ_=>False,h9,aV.nil _,λ_ h=>h.elim⟩,?_⟩
  rintro z _ _ d8 ⟨g,rfl,hk,rfl,q,C,E,V,W,gx,o,F⟩;have zx:=q.size;have b3:ai w d8:=d7.new q λa b=>.inr (by have b:a=j.heap.size:=b;have:=S.size;omega);have b4:=q.get d6 λc=>by have c:w.heap.size=j.heap.size:=c;have:=aC b2;omega
  refine al.dec (λj4=>?_) (λj5=>?_)
  ·have d9:g<n.length:=oM
   have H:n[g]? =some n[g]:=Qq d9;have a3:=SR T d9;rw [H]at a3;obtain⟨fb,fo,e3,-,-,-,-,ya,yn,yc,rfl,-,b5⟩:=(U.af p).el g n[g] H;generalize n[g]=I at H a3 b5;refine⟨_,_,_,_,_,_,ae b4 rfl,ae b4 rfl,PC.ok (px (h.af b3) λa b=>by have:=hD a b;have:=b3.size;omega) ?_⟩;rw [a3];rintro _ e0 ⟨e1,X,Y,cc,Fm,rfl,c3,e2⟩;have e4:=c3.aF;have l8:=e1.size;refine cu (Ku I X Y cc) ⟨_,rfl,PA.mk λl9 i0 m0 i1=>aD (fD I X Y cc) i1 rfl λi2 i3 m1 Z=>?_⟩;have a4:ai e0 i2:=i0.new i3 λa b=>.inr (by have b:a=e0.heap.size:=b;omega);have a6:=e1.then a4;have e6:=a6.get gx id;refine⟨_,_,_,ae e6 rfl,_,_,_,_,_,_,ae Z rfl,ae Z rfl,ae Z rfl,ae Z rfl,PA.mk λi4 e5 m2 i5=>?_⟩;have a0:=a6.then e5;have e8:=(c3.af a4).af e5;have m3:=c3.len dC;have a8:Row gC 32 i4 Fm X Y I.bH:=e8.row dC (by
    obtain⟨_,_,_,_,_,_,_,_,_,_,hq,a8,_⟩:=(U.af p).el g I H;have h1:=a8.d_;have h2:=a8.len;rw [<-h2];exact h1)
   refine fh (c:=pT) (x:=I) (o.af a0) RX i5 (D:=Fm) ⟨X,Y,cc,rfl,a8,b5⟩ (λa b=>⟨by have:=e4 a b;have:=a4.size;omega,λc=>by have:=o.aF a (o.self a c);have:=e2 a b;omega⟩) (by rw [Qy];unfold aQ at*;omega) (by rw [Qy];unfold aQ at c2;unfold maxLen;omega) λa' c' m4 J e9 c5 c6=>⟨_,_,_,rfl,?_⟩
   have i6:¬aI C=some j.heap.size:=λc=>by have:=F _ (o.self _ c);omega
   have m5:=a0.size;have m6:=c5.size;have d:∀a,J a->B.heap.size<=a:=λa b=>by
    rcases c6 a b with l|l|l
    ·exact F a l
    ·have:=e2 a l;omega
    ·omega
   refine PS.mk (c5.get (a0.get gx id) i6) sM λm7 e7 m8 i7=>⟨_,oM,g+1,an (by unfold aQ at c2;omega),oM,rfl,((q.af a0).new c5 λa b=>.inr (F a (o.self a b))).then e7,a',E+1,c',J,i7,?_,d⟩
   rw [Qw,H];exact e9.keep e7 λa b c=>by have c:a=j.heap.size:=c;have:=d a b;omega
  ·rw [Qz oM]at o
   have i8:aj (·=j.heap.size) B d8:=q;have b6:=q.get (p.get R id) λc=>by have c:f.heap.size=j.heap.size:=c;have:=aC R;omega
   refine⟨_,_,_,ae b6 rfl,_,_,_,ae gx rfl,PA.mk λi9 c7 m9 j0=>?_⟩;have a5:ai Q i9:=(p.new q λa b=>.inr (by have b:a=j.heap.size:=b;omega)).then c7;refine fh (c:=lv) (x:=n) (m.af a5) NO j0 (D:=W) ⟨C,E,V,rfl,(o.af c7).row dC (by rw [<-h0];exact c2)⟩ (λa b=>⟨by have:=o.aF a b;omega,λc=>by have:=m.aF a (m.self a c);have:=F a b;omega⟩) (by rw [Qy];unfold aQ at*;omega) (by rw [Qy];unfold aQ at b8;unfold maxLen;omega) λa' c' n0 J f0 c8 c6=>⟨_,_,_,rfl,?_⟩
   have j1:¬aI N=some f.heap.size:=λc=>by have:=A _ (m.self _ c);omega
   have n1:=a5.size;have n2:=c8.size;have d:∀a,J a->r.heap.size<=a:=λa b=>by
    rcases c6 a b with l|l|l
    ·exact A a l
    ·have:=F a l;omega
    ·omega
   refine PS.mk (c8.get (c7.get b6 id) j1) sM λn3 b7 n4 j2=>⟨_,oM,i+1,an (by unfold aQ at b8;omega),oM,rfl,((s.af a5).new c8 λa b=>.inr (A a (m.self a b))).then b7,a',O+1,c',J,j2,?_,d⟩
   rw [Qw,T];exact f0.keep b7 λa b c=>by have c:a=f.heap.size:=c;have:=d a b;omega
 ·rw [Qz oM]at m
  have z5:=x.size;have f1:=s.get gr λc=>by have c:M.heap.size=f.heap.size:=c;omega
  have f2:=((a9.af y).keep s λa b c=>by have c:a=f.heap.size:=c;have:=b9 a b;omega)
  refine⟨_,_,_,_,_,_,ae R rfl,ae R rfl,PS.mk f1 sM λn8 c9 n9 j3=>PS.mk j3 sM λo0 d0 o1 f3=>⟨_,_,_,_,_,_,ae f3 rfl,ae f3 rfl,Ok.mk ⟨_,_,_,_,_,_,λa=>P a\/aI e=some a,rfl,⟨?_,?_⟩,?_,?_⟩⟩⟩
  ·exact(((m.row (bytes:=24) dC (by rw [<-f4];exact b8)).keep (c9.then d0) λa b c=>by have c:a=M.heap.size:=c;have:=A a b;omega)).mono λa b=>.inl b
  ·exact(((f2.row (bytes:=40) dC (by rw [<-f5];exact f7)).keep (c9.then d0) λa b c=>by have c:a=M.heap.size:=c;have:=b9 a b;omega)).mono λa b=>.inr b
  ·rintro a (b|b)
   ·have:=A a b;have:=m.aF a b;have:=v.size;have:=b0.size;omega
   ·have:=b9 a b;have:=v.size;omega
  ·exact S.new (c9.then d0) λa b=>.inr (by have b:a=M.heap.size:=b;have:=k4.size;omega)
end
variable{a:Nat}{j:Type}
section
variable {w w':World} {D D' S:Nat->Prop} {d:aR} {ta pa:Option Addr} {tn tc pn pc:Nat}
def ue (a:bD):Bool:=if a.kind==4 then !within a.bH.length 1 16 else decide (0<a.bH.length)
def DK (a:List bD):Bool:=!within a.length 1 8||a.any ue
theorem KM {b:j->Bool} {c:List j} {d:j} (e:c[a]? =some d) (f:(c.take a).any b=false) (g:b d=false):(c.take (a+1)).any b=false:=by
 rw [Qw,e,List.any_append,f];simp [g]
theorem Nz {c:j->Bool} {d:List j} {b:j} (e:d[a]? =some b) (f:c b=true):d.any c=true:=List.any_eq_true.2 ⟨b,QZ e,f⟩
theorem fX {g:Type} {h:g->Int}:∀{b:List g} {c:Nat} {d:g},b[c]? =some d->cO h (b.take c)=0->cO h (b.take (c+1))=h d
 |[],c,d,a,_=>by simp at a
 |y::b,0,d,a,_=>by simp at a;subst a;simp [cO];intro a;exact a.symm
 |y::b,c+1,d,a,e=>by
  simp only [List.take_succ_cons,cO]at e⊢;split at e
  ·rename_i f;simp at f;exact absurd e f
  ·rename_i f;rw [if_neg f];exact fX (by simpa using a) e
theorem pB {c:Type} {b:c->Int}:∀{l:List c} {j:Nat},cO b (l.take j)≠0->cO b l=cO b (l.take j)
 |[],j,a=>by simp at a⊢
 |y::l,0,a=>by simp [cO]at a
 |y::l,j+1,a=>by
  simp only [List.take_succ_cons,cO]at a⊢;split
  ·rfl
  ·rename_i d;rw [if_neg d]at a;exact pB a
theorem KN (e:bh w D d ta tn pa pn):Calls ZQ 67 #[.agg #[.slice ta tn tc,.slice pa pn pc]] w (Ok λf w'=>f= .bool (sj d)/\ai w w'):=by
 have s:=e.bd.len;have t:=e.bd.d_;have hp:=e.Bk.len;unfold aQ at t;refine Ev (PA.mk λY u s1 v=>⟨_,_,_,ae v rfl,PC.ok cK ?_⟩);rintro _ _ ⟨rfl,rfl⟩;refine⟨_,rfl,al.not (al.mk (λj=>⟨_,_,_,ae v rfl,al.dec (λZ=>Ok.mk ⟨?_,u⟩) (λZ=>⟨_,_,_,ae v rfl,λk l w'=>∃b:Nat,l=b/\b<=tn/\k=tn-b/\(d.types.take b).any DK=false/\ai Y w',⟨_,0,rfl,Qj _,rfl,sM,aj.refl _⟩,?_⟩)⟩) (λj=>Ok.mk ⟨?_,u⟩))⟩
 ·unfold sj;rw [<-s,j,if_pos (by simp;omega)]
 rotate_left
 ·unfold sj;rw [<-s,j];rfl
 have x:sj d=d.types.any DK:=by unfold sj DK ue;rw [<-s,j,if_neg (by simp;omega)]
 rintro k l _ w2 ⟨b,rfl,hj,rfl,y,L⟩;have m:=u.then L;refine al.dec (λa8=>?_) (λa9=>?_)
 rotate_left
 ·rw [Qz oM]at y
  exact Ok.mk ⟨by rw [x,y],m⟩
 obtain⟨z,A,B,es,rfl,_,_,C,g,a2,h,c1,rfl,E⟩:=((e.af m).bd).sS (i:=b) oM;have M:=E.len;have a0:=E.d_;unfold aQ at a0;have N:=g 0 dC;simp only [lv,Nat.mul_one,Nat.add_zero]at N;refine⟨z,A,rfl,oM,oM,_,_,_,N,PA.mk λw3 k3 s3 g3=>PS.mk g3 sM λn k4 s4 O=>⟨_,_,_,ae O rfl,PC.ok cK ?_⟩⟩;rintro _ _ ⟨rfl,rfl⟩;have o:ai w2 n:=k3.new k4 λz t=>.inr oM;have F:DK B=true->Ok (λf w'=>f= .bool (sj d)/\ai w w') (.returned (.bool true)) n:=λa=>Ok.mk ⟨by rw [x,Nz C a],m.then o⟩;refine⟨_,rfl,al.not (al.mk (λH=>⟨_,_,_,ae O rfl,λk l w'=>∃i:Nat,l=i/\i<=h/\k=h-i/\(B.take i).any ue=false/\ai n w',⟨_,0,rfl,Qj _,rfl,sM,aj.refl _⟩,?_⟩) (λH=>F (by unfold DK;rw [<-M,H];rfl)))⟩;rintro m' t' _ w5 ⟨i,rfl,hi,rfl,I,p⟩;have a3:=(m.then o).then p;refine al.dec (λa6=>?_) (λa7=>?_)
 rotate_left
 ·rw [Qz oM]at I
  exact⟨_,oM,b+1,an oM,oM,rfl,KM C y (by unfold DK;rw [<-M,H,I];rfl),(L.then o).then p⟩
 obtain⟨b2,a1,q,b0,rfl,_,_,P,a4,Q,R,S,rfl,T,b1,b3⟩:=((E.af o).af p).sS (i:=i) oM;have U:=T.len;have a5:=T.d_;unfold aQ at a5;refine⟨b2,a1,rfl,oM,oM,br (fD q Q R S) rfl a4 (PA.mk λw6 k6 s6 g6=>aD (fD q Q R S) g6 rfl λJ k7 s7 K=>⟨_,ae K rfl,?_⟩)⟩;have V:ai w5 J:=k6.new k7 λz t=>.inr oM;have W:ue q=true->Ok (λf w'=>f= .bool (sj d)/\ai w w') (.returned (.bool true)) J:=λa=>Ok.mk ⟨by rw [x,Nz C (by unfold DK;rw [Nz P a];simp)],a3.then V⟩;have next:ue q=false->∃X,X<h-i/\∃r:Nat,IntKind.wrap .i64 ((i:Int)+1)=r/\r<=h/\X=h-r/\(B.take r).any ue=false/\ai n J:=λa=>
  ⟨_,oM,i+1,an oM,oM,rfl,KM P I a,p.then V⟩
 refine al.dX (λc=>⟨_,_,_,ae K rfl,PC.ok cK ?_⟩) (λc=>al.not (al.dX (λg=>absurd g c) (λ_=>⟨_,_,_,ae K rfl,al.dec (λe=>W ?_) (λe=>next ?_)⟩)))
 ·rintro _ _ ⟨rfl,rfl⟩
  refine⟨_,rfl,al.not (al.mk (λa=>al.not (al.dX (λ_=>next ?_) (λg=>absurd c g))) (λa=>W ?_))⟩
  ·unfold ue;rw [c,<-U,a];rfl
  ·unfold ue;rw [c,<-U,a];rfl
 ·unfold ue;rw [if_neg (by simpa using c)];simp only [decide_eq_true_eq];omega
 ·unfold ue;rw [if_neg (by simpa using c)];simp only [decide_eq_false_iff_not];omega
theorem Ij (hT:eM w) (h:bh w D d ta tn pa pn) (hD:∀b,D b->b<w.heap.size):
  Calls ZQ 32 #[.agg #[.slice ta tn tc,.slice pa pn pc]] w (Ok λC w'=>C= QH (dd d)/\ai w w'):=by
 have hl:=h.bd.len;have g:=h.bd.d_;have b1:=h.Bk.len;have a6:=h.Bk.d_;unfold aQ at g a6;refine BO (PA.mk λw1 U s1 E=>⟨_,_,_,_,_,_,ae E rfl,ae E rfl,PC.ok (KN (h.af U)) ?_⟩);rintro _ w2 ⟨rfl,V⟩;have W:=U.then V;have X:=V.get E id;refine⟨_,rfl,al.mk (λu=>Ok.mk ⟨by unfold dd;rw [u];rfl,W⟩) (λu=>⟨_,_,_,ae X rfl,λl c w'=>∃a:Nat,c=a/\a<=tn/\l=tn-a/\cO (λc=>cO (fK c) c) (d.types.take a)=0/\ai w2 w',⟨_,0,rfl,Qj _,rfl,rfl,aj.refl _⟩,?_⟩)⟩;rintro l c _ Y ⟨a,rfl,hj,rfl,v,F⟩;have x:=W.then F;have Z:=F.get X id;have H:∀{w':World},ai w w'->∀a e,d.types[a]? =some e->cO (λc=>cO (fK c) c) (d.types.take a)=0->∀y:Int,cO (fK e) e=y->y≠0->Ok (λC w'=>C= QH (dd d)/\ai w w') (.returned (QH y)) w':=by
  intro w' a2 a e z h0 y hr k;have m:=fX z h0;rw [hr]at m;have h2:=pB (l:=d.types) (j:=a+1) (by rw [m];exact k);refine Ok.mk ⟨?_,a2⟩;unfold dd;rw [u,h2,m];simp [k]
 refine al.dec (λb2=>?_) (λb3=>⟨_,_,_,ae Z rfl,λl c w'=>∃i:Nat,c=i/\i<=pn/\l=pn-i/\cO (mK d) (d.projs.take i)=0/\ai Y w',⟨_,0,rfl,Qj _,rfl,rfl,aj.refl _⟩,?_⟩)
 ·obtain⟨b,I,J,es,rfl,_,_,z,hc,b4,n1,c1,rfl,A⟩:=((h.af x).bd).sS (i:=a) oM
  have b5:=A.len;have a7:=A.d_;unfold aQ at a7;have a0:=hc 0 dC;simp only [lv,Nat.mul_one,Nat.add_zero]at a0;refine⟨b,I,rfl,oM,oM,_,_,_,a0,PA.mk λw4 p s4 g4=>PS.mk g4 sM λK L s5 B=>⟨_,_,_,ae B rfl,λl c w'=>∃i:Nat,c=i/\i<=n1/\l=n1-i/\cO (fK J) (J.take i)=0/\ai K w',⟨_,0,rfl,Qj _,rfl,rfl,aj.refl _⟩,?_⟩⟩;have a8:ai Y K:=p.new L λb g=>.inr oM;rintro m' t' _ M ⟨i,rfl,hi,rfl,f,n⟩;have q:=a8.then n;refine al.dec (λa3=>?_) (λa9=>?_)
  ·obtain⟨N,O,e,b0,rfl,_,_,o,P,Q,R,S,rfl,hM,b6,b7⟩:=(A.af q).sS (i:=i) oM
   refine⟨N,O,rfl,oM,oM,br (fD e Q R S) rfl P (PA.mk λw7 j s7 g7=>aD (fD e Q R S) g7 rfl λw8 r s8 g8=>⟨_,_,_,ae (r.get (j.get (n.get B id) id) (by have:=n.size;omega)) rfl,aw (fD e Q R S) g8 (PC.ok (Is (hT.af ?_) (A.af ?_) (hM.af ?_)) ?_)⟩)⟩
   ·exact(x.then q).then (j.new r λb g=>.inr oM)
   ·exact q.then (j.new r λb g=>.inr oM)
   ·exact j.new r λb g=>.inr oM
   ·rintro _ w9 ⟨rfl,k9⟩
    have a4:ai M w9:=aj.then (j.new r λb g=>.inr oM) k9;refine⟨_,rfl,al.dw (λk=>?_) (λT=>⟨_,oM,i+1,an oM,oM,rfl,by rw [fX o f];exact T,n.then a4⟩)⟩;have m:=fX o f;exact H ((x.then q).then a4) a J z v _ (by rw [pB (j:=i+1) (by rw [m];exact k),m]) k
  ·rw [Qz oM]at f
   refine⟨_,oM,a+1,an oM,oM,rfl,by rw [fX z v];exact f,F.then q⟩
 ·rw [Qz oM]at v
  rintro m' t' _ w4 ⟨i,rfl,hi,rfl,f,p⟩;have s:=x.then p;have a1:dd d=cO (mK d) d.projs:=by unfold dd;rw [u,v];simp
  refine al.dec (λa3=>?_) (λa9=>?_)
  ·obtain⟨N,O,e,b0,rfl,_,_,o,P,rfl,_⟩:=((h.af s).Bk).sS (i:=i) oM
   refine⟨N,O,rfl,oM,oM,br (qH e) rfl P (PA.mk λK L s5 B=>aD (qH e) B rfl λM n s6 g6=>?_)⟩;have t:ai w4 M:=L.new n λb g=>.inr oM;have a5:=t.get (p.get Z id) id;refine⟨_,_,_,_,_,_,ae a5 rfl,ae a5 rfl,aw (qH e) g6 (PC.ok (It (h.af (s.then t)) λb g=>by have:=hD b g;have:=(s.then t).size;omega) ?_)⟩;rintro _ w7 ⟨rfl,j⟩;refine⟨_,rfl,al.dw (λk=>Ok.mk ⟨?_,(s.then t).then j⟩) (λT=>⟨_,oM,i+1,an oM,oM,rfl,by rw [fX o f];exact T,(p.then t).then j⟩)⟩;rw [a1,pB (j:=i+1) (by rw [fX o f];exact k),fX o f]
  ·rw [Qz oM]at f
   exact Ok.mk ⟨by rw [a1,f],s⟩
end
def bj (a:cz) (b:Int):Int×bw:=
 if dd a.decl≠0 then(dd a.decl,(qA a).2)else if gG a b=false then(1,(qA a).2)else qA a
def MU (c:World) (b:cz) (a:Int) (d:Value) (e:World):Prop:=ai c e/\
 (((bj b a).1≠0/\d= .tuple #[.pointer none,QH (bj b a).1])\/
  ((bj b a).1=0/\∃f g,d= .tuple #[.pointer (some ⟨f,0,none⟩),QH 0]/\bP e f g b a (bj b a).2/\(∀h,g h->c.heap.size<=h)/\(bj b a).2.S.l.length<=16777216))
section
variable {w w' w0 w1 w2:World} {p:Nat} {F E D:Nat->Prop} {c:cz} {self:Int}
theorem Be (hT:eM w0) (hL:Laid w0) (z:ai w0 w) {A B:Option Addr} {tn Q C R:Nat} (hd:bh w D c.decl A tn B C) (hD:∀a,D a->a<w.heap.size) (hs:aN c.aZ) (d3:aN c.every) (d4:aN c.start):
  Calls ZQ 12 #[lK c A tn Q B C R,QH self] w (Ok (MU w c self)):=by
 refine Er (PA.mk λf3 E f4 F=>⟨_,_,_,_,_,_,ae F rfl,ae F rfl,PC.ok (Ij (hT.af (z.then E)) (hd.af E) λa b=>by have:=hD a b;omega) ?_⟩);rintro _ d5 ⟨rfl,b8⟩;have a3:=E.then b8;have b9:d5.heap[w.heap.size]? =some (.cells (cC c A tn Q B C R).toArray 28 (0,0)):=b8.get F id;refine⟨_,rfl,al.dw (λl=>Ok.mk ⟨a3,.inl ?_⟩) (λS=>aw (gD c A tn Q B C R) b9 (PC.ok Qt ?_))⟩
 ·have:bj c self=(dd c.decl,(qA c).2):=by unfold bj;rw [if_pos l]
  rw [this];exact⟨l,rfl⟩
 rintro _ T ⟨rfl,c0⟩;have H:=a3.then c0;have U:=c0.get b9 id;refine⟨_,rfl,al.not (al.mk (λm=>?_) (λm=>Ok.mk ⟨H,.inl ?_⟩))⟩
 rotate_left
 ·have:bj c self=(1,(qA c).2):=by unfold bj;rw [if_neg (by simpa using S),if_pos m]
  rw [this];exact⟨show(1:Int)≠0 by decide,rfl⟩
 have a4:bj c self=qA c:=by unfold bj;rw [if_neg (by simpa using S),if_neg (by rw [m];simp)]
 have c1:kU c self:=⟨m,S,hs,d3,d4⟩
 have c2:=m;unfold gG within at c2;simp only [QK,decide_eq_true_eq]at c2;refine⟨_,ae U rfl,PC.ok (uk (z.then H) oM oM) ?_⟩;rintro _ c3 ⟨dp,rfl,d6,V⟩;obtain⟨Fd,c4,-,d7,-⟩:=d6;have I:∀a,Fd a->T.heap.size<=a/\a<c3.heap.size:=λa b=>⟨Nat.le_of_not_lt (d7 a b).2,c4.aF a b⟩
 have W:=H.then V;have X:=V.get U id;refine⟨_,_,rfl,al.dw (λl=>absurd rfl l) (λ_=>⟨_,_,_,_,_,_,ae X rfl,ae X rfl,PC.ok (MT (hd.af W) λa b=>by have:=hD a b;have:=W.size;omega) ?_⟩)⟩;rintro _ c5 ⟨n,AW,o,p,q,r,J,rfl,d8,K,L⟩;have c6:=W.then L;have d9:=L.get X id;have f5:=E.size;have f7:=H.size;have g1:=V.size;have g2:=L.size;have g3:=aC F;have e8:w.heap.size<T.heap.size:=aC U;refine⟨_,_,_,_,_,_,rfl,PS.mk d9 (by simp [cC]) λg4 e0 g5 e1=>PS.mk e1 (by simp [cC]) λY e2 g6 e3=>λs c7=>?_⟩;have Z:aj (λa=>a=w.heap.size) c5 Y:=e0.then e2;have M:ai Y s:=c7.keep;have g7:s.heap.size=Y.heap.size:=by rw [c7.heap]
 have e:s.heap[w.heap.size]? =some (.cells (cC c n AW o p q r).toArray 28 (0,0)):=M.get e3 id;have c8:ai w s:=(c6.new Z λa b=>.inr (by have b:a=w.heap.size:=b;omega)).then M;have h:∀{a:Nat},T.heap.size<=a->a≠w.heap.size:=λ{a} b=>by omega
 refine⟨λ_=>False,id,_,_,_,_,_,_,_,_,_,_,_,_,_,_,ae e rfl,ae e rfl,ae e rfl,ae e rfl,ae e rfl,ae e rfl,ae e rfl,ae e rfl,ae e rfl,ae e rfl,_,ae e rfl,id,_,ae e rfl,PC.ok (Lk oM) ?_⟩;rintro _ e4 ⟨i,rfl,c9,e9,f2,b4⟩;refine⟨_,rfl,b4,PC.ok Kv ?_⟩;rintro _ g ⟨tp,N,rfl,a5,O,d0⟩;have g8:=b4.size;have g9:=O.size;have d1:=a5.aF;refine⟨_,rfl,O,PA.mk λb5 P h2 e5=>⟨P,?_⟩⟩
 let f:ko:=⟨n,AW,o,p,q,r,dp,none,0,0,i,tp⟩
 let a2:bw:=⟨⟨c.bl.toNat,[]⟩,eS c.nY.toNat,none,[],⟨c.dx,[],[]⟩⟩
 have d2:b5.heap[g.heap.size]? =some (.cells (yQ f c self none none none) 99 (0,0)):=e5;have a0:ai s b5:=(b4.then O).then P;have a1:=c8.then a0;have b6:∃t,bS b5 (λa=>∃k,(match k with|0=>a=g.heap.size|1=>J a|2=>Fd a|5=>a=i|6=>N a|_=>False:Prop)) t (recC g.heap.size (yQ f c self none none none) f c a2 false):=by
  refine bS.join (G:=λk a=>match k with|0=>a=g.heap.size|1=>J a|2=>Fd a|5=>a=i|6=>N a|_=>False) (λk=>?_) (λj a9 a d hj=>?_) λk a b=>?_
  ·match k with
   |0=>exact⟨rfl,d2⟩
   |1=>exact(((d8.keep Z λa b u=>h (by have:=K a b;omega) u).af M).af a0)
   |2=>exact⟨Fd,((((c4.keep L λ_ _ f=>f).keep Z λa b u=>h (I a b).1 u).keep M λ_ _ f=>f).keep a0 λ_ _ f=>f),λa b=>b,rfl⟩
   |3=>intro u;cases u
   |4=>trivial
   |5=>exact⟨_,_,c9.af (O.then P),λ_ f=>f,λa b=>b.elim⟩
   |6=>exact a5.af P
   |k+7=>trivial
  ·have v:∀j:Nat,(match j with|0=>a=g.heap.size|1=>J a|2=>Fd a|5=>a=i|6=>N a|_=>False:Prop)->j=(if a<c3.heap.size then 2 else if a<c5.heap.size then 1 else if a<e4.heap.size then 5 else if a<g.heap.size then 6 else 0):=λj d=>by
    rcases j with _|_|_|_|_|_|_|j
    ·have d:a=g.heap.size:=d
     rw [if_neg oM,if_neg oM,if_neg oM,if_neg oM]
    ·have:=K a d;rw [if_neg oM,if_pos oM]
    ·have:=I a d;rw [if_pos oM]
    ·exact d.elim
    ·exact d.elim
    ·have d:a=i:=d
     rw [if_neg oM,if_neg oM,if_pos oM]
    ·have h5:=d0 a d;have h6:=d1 a d;rw [if_neg oM,if_neg oM,if_neg oM,if_pos oM]
    ·exact d.elim
   rw [v j d,<-v a9 hj]
  ·rcases k with _|_|_|_|_|_|_|k
   ·have b:a=g.heap.size:=b
    omega
   ·have:=K a b;omega
   ·have:=I a b;omega
   ·exact b.elim
   ·exact b.elim
   ·have b:a=i:=b
    omega
   ·have:=d1 a b;omega
   ·exact b.elim
 obtain⟨t,hp⟩:=b6;have b7:∀a,(∃k,(match k with|0=>a=g.heap.size|1=>J a|2=>Fd a|5=>a=i|6=>N a|_=>False:Prop))->w.heap.size<=a:=λa ⟨k,b⟩=>by
  rcases k with _|_|_|_|_|_|_|k
  ·have b:a=g.heap.size:=b
   omega
  ·have:=K a b;omega
  ·have:=I a b;omega
  ·exact b.elim
  ·exact b.elim
  ·have b:a=i:=b
   omega
  ·have:=d0 a b;omega
  ·exact b.elim
 refine PC.ok (zO (h:=f) (z1:=none) (z2:=none) (z3:=none) hp c1 ⟨hT,hL,z.then a1,λa b=>by have:=b7 a b;have:=z.size;omega⟩) ?_;rintro _ e6 ⟨rfl,a6,h',F',x,y,a7⟩;have e7:eR c a2=qA c:=rfl;rw [e7]at y a6⊢;have a8:ai w e6:=a1.new a7.keep λa b=>.inr (b7 a b);refine⟨_,rfl,al.dw (λl=>Ok.mk ⟨a8,.inl ?_⟩) (λhz=>Ok.mk ⟨a8,.inr ?_⟩)⟩
 ·rw [a4];exact⟨l,rfl⟩
 ·rw [a4]
  exact⟨hz,_,F',rfl,⟨c1,h',x,y⟩,λa b=>(a7.new a b).elim (b7 a) λh5=>by have:=a1.size;omega,a6⟩
end
variable{F V e m:Int}{b0:List du}{g5:List ep}{H g9:Nat×Nat}{Q W:Operand}{g q:TypeId}{c0 v:Value}{b:World}{f2:ve}
theorem MV (b:World):(callMethod (.iface 97 (.pointer (some ⟨a,0,none⟩))) "State" #[QH e,QH m]).run ZQ b= .ok (.enter 391 #[.pointer (some ⟨a,0,none⟩),QH e,QH m]) b:=kR
theorem Ik (b:World):(callMethod (.iface 97 (.pointer (some ⟨a,0,none⟩))) "Entries" #[]).run ZQ b= .ok (.enter 389 #[.pointer (some ⟨a,0,none⟩)]) b:=kR
theorem Qu (b:World):(callMethod (.iface 97 (.pointer (some ⟨a,0,none⟩))) "Rows" #[QH e]).run ZQ b= .ok (.enter 390 #[.pointer (some ⟨a,0,none⟩),QH e]) b:=kR
def ET (a:aR) (b:List ah) (c d:Int):ve:=match(cG a b).state c d with
 |none=>pN 14
 |some e=>⟨0,(0,0),e,[],[],false⟩
def yF (c:aR) (d:List ah) (b a:Int):ve:=if b<0\/b>=(c.projs.length:Int)then pN 1 else⟨0,(0,0),⟨0,[]⟩,[],(ot (jm c d b) a 32).1,(ot (jm c d b) a 32).2⟩
section
variable {w w' w0 w1 w2:World} {p:Nat} {F E D:Nat->Prop} {cls:Nat->Nat} {h:ko} {c:cz} {self:Int} {X:bw}
theorem DE (a:c_ w F cls p h c self X):Calls ZQ 66 #[.pointer (some ⟨p,0,none⟩)] w (Ok λb w'=>b= .iface 97 (.pointer (some ⟨h.bp,0,none⟩))/\w=w'):=
 oN ⟨p,0,rfl,_,ae a.bG rfl,Ok.mk ⟨rfl,rfl⟩⟩
theorem A_ (y:bP w p F c self X) :Calls ZQ 31 #[.pointer (some ⟨p,0,none⟩),QH e,QH m] w (Ok λz w'=>ju w (ET c.decl X.S.l e m) z w'/\ai w w'):=by
 obtain⟨A,h,cls,q⟩:=y;refine p_ (PA.mk λB f S C=>PC.ok (DE (c_.af q f)) ?_);rintro _ _ ⟨rfl,rfl⟩;have E:=c_.af q f;have a:dF B h.bp (λb=>F b/\cls b=4) c.decl c.every.toNat X.S.l:=E.at' 4;refine⟨_,rfl,_,_,MV,PC.ok (Lj a) ?_⟩;rintro _ r ⟨j,k,l,G,rfl,n,s,g⟩;have H:=n.aF;have T:=g.size;refine⟨_,_,_,_,_,rfl,PA.mk λU I V J=>PS.mk J sM λW K Y L=>PS.mk L sM λM N Z o=>?_⟩;have d:ai r M:=I.new (K.then N) λb a=>.inr (by have a:b=r.heap.size:=a;omega);have t:=d.get (g.get C id) id;have b0:=d.size;have u:(((cG c.decl X.S.l).state e m).getD IB).cells.length<=8:=Fq (IP A.decl X.S.l).1 ⟨0,0,0,[],e,m,0,0,0,0⟩;unfold ET
 cases O:(cG c.decl X.S.l).state e m with
 |none=>
  refine al.tt rfl (aD (lR (pN 14) none 0 0 none 0 0 none 0 0) t rfl λb1 P b2 Q=>aw (lR (pN 14) none 0 0 none 0 0 none 0 0) Q (Ok.mk ⟨ju.plain rfl rfl rfl,?_⟩));exact((f.then g).then d).new P λb a=>.inr (by have a:b=w.heap.size:=a;omega)
 |some i=>
  rw [O]at n u o;refine al.ff rfl ⟨_,_,_,_,ae o rfl,ae o rfl,aD (lR ⟨0,(0,0),i,[],[],false⟩ j k l none 0 0 none 0 0) t rfl λb3 v b4 R=>aw (lR ⟨0,(0,0),i,[],[],false⟩ j k l none 0 0 none 0 0) R (Ok.mk ⟨?_,?_⟩)⟩
  ·refine⟨j,k,l,none,0,0,none,0,0,G,rfl,((n.af d).keep v λb a x=>by have x:b=w.heap.size:=x;have:=s b a;omega).row dC (by have:i.cells.length<=8:=u;show i.cells.length*32<=aQ;unfold aQ;omega),eE _ _,eE _ _,λb a=>⟨by have:=s b a;omega,by have:=H b a;omega⟩⟩
  ·exact((f.then g).then d).new v λb a=>.inr (by have a:b=w.heap.size:=a;omega)
theorem QA (c:aR) (a:List ah) (d:Int):(jm c a d).length<=a.length:=by
 unfold jm;split
 ·simp
 split
 ·simp
 ·rename_i b e
  have g:=NP c a b (QZ e);have f:=(yP (b.rows.map (·.2))).length_eq;rw [Q8]at f;show(b.rows.map (·.2)|>.foldr ng []).length<=_;omega
theorem sH (B:bP w p F c self X) :Calls ZQ 49 #[.pointer (some ⟨p,0,none⟩),QH e,QH m] w (Ok λg w'=>ju w (yF c.decl X.S.l e m) g w'/\ai w w'):=by
 obtain⟨R,h,cls,C⟩:=B;refine nG (PA.mk λi j S s=>?_);have d:=c_.af C j;have no:(e<0\/e>=(c.decl.projs.length:Int))->xJ ZQ 46 (.pointer (some ⟨w.heap.size,0,none⟩)) (.agg (n_ (pN 1) none 0 0 none 0 0 none 0 0).toArray) i λt=>ow ZQ 46 (.pointer (some ⟨w.heap.size,0,none⟩)) t λE=>Ok (λg w'=>ju w (yF c.decl X.S.l e m) g w'/\ai w w') (.returned E) t:=λH=>by
  refine aD (lR (pN 1) none 0 0 none 0 0 none 0 0) s rfl λT I U J=>aw (lR (pN 1) none 0 0 none 0 0 none 0 0) J (Ok.mk ⟨?_,j.new I λa b=>.inr (by have b:a=w.heap.size:=b;omega)⟩);unfold yF;rw [if_pos H];exact ju.plain rfl rfl rfl
 have V:=(show bh i (λa=>F a/\cls a=1) c.decl h.ta h.tn h.pa h.pn from d.at' 1).Bk.len;refine al.dec (λk=>no (.inl k)) (λk=>⟨p,0,rfl,_,_,_,ae d.bG rfl,al.dec (λu=>no (.inr oM)) (λu=>PC.ok (DE d) ?_)⟩);rintro _ _ ⟨rfl,rfl⟩;have b:dF i h.bp (λa=>F a/\cls a=4) c.decl c.every.toNat X.S.l:=d.at' 4;have W:X.S.l.length<=20000000:=b.1.2.2.2;have Y:=QA c.decl X.S.l e;refine⟨_,rfl,_,_,Qu,PC.ok (OY b) ?_⟩;rintro _ Z ⟨⟨a0,a1,cc,G,rfl,f,l,hG⟩,K⟩;have hn:=f.len dC;have L:=f.jx;refine⟨_,_,_,rfl,PC.ok (MO (f.row dC (by unfold aQ;omega)) f.aF L K oM) ?_⟩;rintro _ M ⟨a2,rfl,n,o,q,N,rfl,v,r,x⟩;have O:=v.aF;have a9:=l.size;have b0:=r.size;have b1:(ot (jm c.decl X.S.l e) m 32).1.length<=32:=by unfold ot;rw [Qy];omega
 have P:ai w M:=(j.then l).then r;refine⟨_,_,_,_,rfl,aD (lR ⟨0,(0,0),⟨0,[]⟩,[],(ot (jm c.decl X.S.l e) m 32).1,(ot (jm c.decl X.S.l e) m 32).2⟩ none 0 0 none 0 0 n o q) (r.get (l.get s id) id) rfl λb2 y b3 Q=>aw (lR ⟨0,(0,0),⟨0,[]⟩,[],(ot (jm c.decl X.S.l e) m 32).1,(ot (jm c.decl X.S.l e) m 32).2⟩ none 0 0 none 0 0 n o q) Q (Ok.mk ⟨?_,P.new y λa b=>.inr (by have b:a=w.heap.size:=b;omega)⟩)⟩;unfold yF;rw [if_neg (by rintro(z|z);exact k z;exact u oM)];refine⟨none,0,0,none,0,0,n,o,q,N,rfl,eE _ _,eE _ _,(v.keep y λa b A=>by have A:a=w.heap.size:=A;have:=x a b;omega).row dC (by show(ot (jm c.decl X.S.l e) m 32).1.length*24<=aQ;unfold aQ;omega),λa b=>⟨by have:=x a b;omega,by have:=O a b;omega⟩⟩
end
theorem DZ {c:Type} {d:c->Bool}:∀{L:List c} {j:Nat} {a:c},L[j]? =some a->d a=true->(L.filter d)[((L.take j).filter d).length]? =some a
 |[],j,a,b,_=>by simp at b
 |x::L,0,a,b,e=>by simp at b;subst b;simp [e]
 |x::L,j+1,a,b,e=>by
  have f:=DZ (L:=L) (j:=j) (by simpa using b) e;rw [List.take_succ_cons,List.filter_cons,List.filter_cons];split
  ·simpa using f
  ·exact f
section
variable {w w' wz A B w1:World} {D:Nat->Prop} {a:Option Addr} {n c:Nat} {l:List df} {O R1 R2 f most:Nat} {own L:List (Bx df)} {pre:List (List Value)}
def VB (c a:Int) (b:df):Bool:=b.ev.bd==c&&b.ev.agg==a
theorem Fh {f:df} {a:Option Addr} {n c:Nat} (j:Row aP 8 w D a n f.ev.aK) (u:∀b,D b->b<w.heap.size):
  Calls ZQ 162 #[GP f a n c] w (Ok λv w'=>∃a n c G,v=GP f a n c/\Row aP 8 w' G a n f.ev.aK/\(∀b,G b->w.heap.size<=b/\b<w'.heap.size)/\ai w w'):=by
 have x:=j.d_;have y:=j.len;refine Ay (PA.mk λw1 o B g=>PA.mk λC h E k=>⟨_,_,_,ae (h.get g id) rfl,PC.ok (cH (j.af (o.then h)) λb d=>by have:=u b d;omega) ?_⟩);rintro _ F ⟨p,q,r,G,rfl,s,i,l⟩;have g:=i.get (h.get g id) id;have k:=i.get k id;have H:=i.size;refine⟨_,_,_,rfl,PS.mk g sM λI m J z=>?_⟩;refine aw (cs:=iG f p q r) (mg _ _ _ _) z (aD (mg _ _ _ _) (m.get k (λe=>by have e:w1.heap.size=w.heap.size:=e;omega)) rfl λK t L A=>aw (mg _ _ _ _) A (Ok.mk ⟨p,q,r,G,rfl,?_,?_,?_⟩))
 ·refine(((s.keep m λb d e=>?_).keep t λb d e=>?_).row (bytes:=8) dC (by rw [<-y];exact x))
  ·have e:b=w.heap.size:=e;have:=l b d;omega
  ·have e:b=w1.heap.size:=e;have:=l b d;omega
 ·intro b d
  have:=l b d;have:=s.aF b d;omega
 ·exact((((o.then h).then i).new m λb d=>.inr (by have d:b=w.heap.size:=d;omega)).new t λb d=>.inr (by have d:b=w1.heap.size:=d;omega))
theorem QT {f:df} {h i:Nat} (k:w.heap[h]? =some (.cells #[QH e] g H)) (l:w.heap[i]? =some (.cells #[QH m] q g9)):
  Calls ZQ 161 #[GP f a n c,.pointer (some ⟨h,0,none⟩),.pointer (some ⟨i,0,none⟩)] w (Ok λo w'=>o= .bool (VB e m f)/\ai w w'):=by
 refine Ax (PA.mk λw1 b p j=>⟨_,ae j rfl,_,ae (b.get k id) rfl,al.mk (λd=>⟨_,ae j rfl,_,ae (b.get l id) rfl,Ok.mk ⟨?_,b⟩⟩) (λd=>Ok.mk ⟨?_,b⟩)⟩)
 ·unfold VB;rw [d];rfl
 ·unfold VB;rw [d];rfl
structure Rk (wz:World) (O:Nat) (own:List (Bx df)) (f most:Nat) (pre:List (List Value)) (A:World):Prop where
 keep:aj (·=O) wz A
 d_:wz.heap.size+2<=A.heap.size
 pG:∃a n c G,A.heap[O]? =some (.cells #[.slice a n c] 43 (0,0))/\aV Ab 160 G A a n c (((own.take pre.length).drop f).map (·.x))/\(∀b,G b->wz.heap.size+2<=b)/\n<=most
structure W_ (wz:World) (O R1 R2:Nat) (own:List (Bx df)) (f most:Nat) (A:World):Prop where
 keep:aj (λb=>b=O\/b=R1\/b=R2) wz A
 r2:A.heap[R2]? =some (.cells #[.bool true] 4 (0,0))
 more:most<(own.drop f).length
 pG:∃a n c G,A.heap[R1]? =some (.cells #[.slice a n c] 43 (0,0))/\aV Ab 160 G A a n c (((own.drop f).take most).map (·.x))/\(∀b,G b->wz.heap.size+2<=b)
theorem Rk.af (d:Rk wz O own f most pre A) (b:ai A B):Rk wz O own f most pre B:=by
 obtain⟨e,g,a,n,c,G,h,i,j⟩:=d;exact⟨e.af b,Xx g b.size,a,n,c,G,b.get h id,i.af b,j⟩
theorem Rk.fr (p:O<wz.heap.size) (i:Rk wz O own f most pre A) (j:qV (wz.heap.size+1) A B):Rk wz O own f most pre B:=by
 obtain⟨k,q,a,n,c,G,l,m,h,o⟩:=i;obtain⟨g,r⟩:=j;exact⟨k.new g λd e=>.inr (by have e:d=wz.heap.size+1:=e;omega),oM,a,n,c,G,g.get l (λb=>by have b:O=wz.heap.size+1:=b;omega),m.keep g λd e b=>by have b:d=wz.heap.size+1:=b;have:=h d e;omega,h,o⟩
theorem W_.fr (r:O<wz.heap.size/\R1<wz.heap.size/\R2<wz.heap.size) (i:W_ wz O R1 R2 own f most A) {k:Nat} (s:wz.heap.size<=k/\k<=wz.heap.size+1) (j:qV k A B):W_ wz O R1 R2 own f most B:=by
 obtain⟨l,m,o,a,n,c,G,p,q,h⟩:=i;obtain⟨d,t⟩:=j;exact⟨l.new d λe g=>.inr (by have g:e=k:=g;omega),d.get m (λb=>by have b:R2=k:=b;omega),o,a,n,c,G,d.get p (λb=>by have b:R1=k:=b;omega),q.keep d λe g b=>by have b:e=k:=b;have:=h e g;omega,h⟩
theorem UZ {s t u v:Nat} {R:World->Prop} {Rx:World->Prop} (hO:O<wz.heap.size) (Y:wz.heap[s]? =some (.cells #[QH e] g H)) (Z:wz.heap[t]? =some (.cells #[QH m] q g9)) (h1:s≠O) (h2:t≠O)
  (w:∃k f,wz.heap[u]? =some (.cells #[.slice a n c] k f)) (h3:u≠O) (x:∃k f,wz.heap[v]? =some (.cells #[.func (.func 161) #[] #[.pointer (some ⟨s,0,none⟩),.pointer (some ⟨t,0,none⟩)]] k f)) (h4:v≠O)
  (J:Row NJ.k_ 120 wz D a n L) (hD:∀b,D b->b<wz.heap.size/\b≠O) (K:own=L.filter λb=>VB e m b.x) (b6:L.length<=20000000)
  (hR:∀A B,R A->aj (oF wz) A B->R B)
  (hy:∀pre o A,Rk wz O own f most pre A->R A->uw [QH 0,GP ⟨sY,false,(0,0)⟩ none 0 0] o->(∃b,own[pre.length]? =some b/\o=[QH (pre.length:Int),GP b.x b.a b.n b.c])->ks ZQ (wz.heap.size+1) o A λb h=>(b=true/\Rk wz O own f most (pre++[o]) h/\R h)\/(b=false/\W_ wz O R1 R2 own f most h/\Rx h))
  (M:Rk wz O own f most [] w1) (a4:R w1):
  Calls ZQ 226 #[.func (.yield (wz.heap.size+1)) #[] #[],.pointer (some ⟨u,0,none⟩),.pointer (some ⟨v,0,none⟩)] w1 (λk h=>(∃a0,k= .returned a0)/\((R h/\∃l:List (List Value),Rk wz O own f most l h/\l.length=own.length)\/(W_ wz O R1 R2 own f most h/\Rx h))):=by
 obtain⟨e3,f3,w⟩:=w;obtain⟨e4,f4,x⟩:=x;have hn:=J.len;refine wu ⟨_,_,_,ae (M.keep.get w h3) rfl,λN a1 y w'=>∃(d:Nat) (pre:List (List Value)),y=d/\d<=n/\N=n-d/\a1=(pre.length:Int)/\pre.length=((L.take d).filter λb=>VB e m b.x).length/\Rk wz O own f most pre w'/\R w',⟨_,0,[],rfl,Qj _,rfl,rfl,rfl,M,a4⟩,?_⟩;rintro N _ _ _ P ⟨d,pre,rfl,hj,rfl,rfl,j,p,Q⟩;refine al.dec (λb7=>?_) (λb8=>?_)
 ·obtain⟨b,i⟩:∃b,L[d]? =some b:=⟨_,Qq oM⟩
  obtain⟨a2,a3,es,ha,a5,a6,z,rfl,-⟩:=(J.keep p.keep λb i=>(hD b i).2).el d b i;have b3:pre.length<=20000000:=by
   rw [j];have h5:=List.length_filter_le (λb:Bx df=>VB e m b.x) (L.take d);have h6:=List.length_take_le d L;omega
  refine⟨a2,a3,ha,oM,oM,br (es:=iG b.x b.a b.n b.c) (k:=13) (mg _ _ _ _) rfl (λy ht=>by rw [Qx];exact z y ht) (PA.mk λb9 a7 c0 a8=>aD (mg b.x b.a b.n b.c) a8 rfl λa9 b0 c1 S=>?_)⟩;have T:ai P a9:=a7.new b0 λb i=>.inr (by have i:b=P.heap.size:=i;omega);have C:=p.af T;refine⟨_,ae (C.keep.get x h4) rfl,aw (mg b.x b.a b.n b.c) S ⟨_,_,_,rfl,kR,PC.ok (QT (C.keep.get Y h1) (C.keep.get Z h2)) ?_⟩⟩;rintro _ b1 ⟨rfl,U⟩;have V:=T.then U;have W:=p.af V;have X:=hR _ _ Q (ai.keep V);refine⟨_,rfl,al.not (al.mk (λr=>?_) (λr=>⟨_,oM,d+1,pre,an oM,oM,rfl,rfl,?_,W,X⟩))⟩
  rotate_left
  ·rw [Qw,i,List.filter_append,j];simp [r]
  refine aw (mg b.x b.a b.n b.c) (U.get S id) ⟨_,rfl,(hy pre _ b1 W X ?_ ⟨b,?_,rfl⟩).mono ?_⟩
  ·exact λφ E=>E pre.length b.x.ev.origin b.x.ev.seq b.x.ev.aA b.a b.n b.c b.x.ev.bd b.x.ev.agg b.x.ev.field b.x.ev.op b.x.ev.arg b.x.ev.key b.x.void b.x.GO.1 b.x.GO.2
  ·rw [K,j];exact DZ i r
  ·rintro b' h (⟨rfl,F,b5⟩|⟨rfl,I,b2⟩)
   ·refine al.ff rfl ⟨_,oM,d+1,pre++[_],an oM,oM,rfl,?_,?_,F,b5⟩
    ·rw [an oM];simp
    ·rw [Qw,i,List.filter_append,QX,QX,<-j];simp [r]
   ·exact al.tt rfl ⟨⟨_,rfl⟩,.inr ⟨I,b2⟩⟩
 ·rw [Qz oM]at j
  exact⟨⟨_,rfl⟩,.inl ⟨Q,pre,p,by rw [K];exact j⟩⟩
end
section
variable {w w' wz A B w1:World} {D:Nat->Prop} {a:Option Addr} {n c:Nat} {l:List df}
theorem Kw {most:Nat} (K:Row Ab 120 w D a n l) (hD:∀b,D b->b<w.heap.size) (hm:most<=1000) (hl:l.length<=20000000) (k1:aN F):
  Calls ZQ 100 #[.slice a n c,QH e,QH m,QH F,QH (most:Int)] w (Ok λa6 w'=>∃P,a6= .tuple #[P,.bool (ll l e m F most).2]/\qD Ab 160 w (ll l e m F most).1 P w'):=by
 obtain⟨V,c1,hL,e8⟩:=fv.boxes (N:=NJ) K;have k5:V.length=l.length:=by rw [<-c1,Q8]
 obtain⟨own,r⟩:∃own,own=V.filter λb=>VB e m b.x:=⟨_,rfl⟩
 obtain⟨j,hf⟩:∃j:Nat,j=(max F 0).toNat:=⟨_,rfl⟩
 have c7:own.map (·.x)=l.filter λd=>d.ev.bd==e&&d.ev.agg==m:=by rw [r,<-c1,List.filter_map];rfl
 have e9:ll l e m F most=(((own.drop j).take most).map (·.x),decide (most<(own.drop j).length)):=by
  unfold ll;rw [<-c7,<-hf];simp only [List.map_take,List.map_drop,XZ,Q8]
 rw [e9];have h4:own.length<=20000000:=by rw [r];have:=List.length_filter_le (λb:Bx df=>VB e m b.x) V;omega
 refine EH (PA.mk λw6 k6 s6 g6=>PA.mk λx k7 s7 g7=>PA.mk λw8 k8 s8 g8=>PA.mk λk k9 s9 g9=>PA.mk λo a0 l0 f3=>PA.mk λp W l3 f4=>PA.mk λf5 Q l4 f7=>?_);have a7:=(((k8.then k9).then a0).then W).then Q;have c8:=a7.get (show x.heap[w6.heap.size]? =_ from g7) id;have k2:(if 0>(if False then(0:Int)else F)then 0 else F)=(j:Int):=by simp;split<;>omega
 refine⟨_,ae ((((k9.then a0).then W).then Q).get g8 id) rfl,?_⟩;have g0:(if 0>F then(0:Int)else F)=(j:Int):=by rw [hf];split<;>omega
 rw [g0];refine PS.mk ((((k9.then a0).then W).then Q).get g8 id) sM λH L l5 g1=>?_;have c9:H.heap[x.heap.size]? =some (.cells #[QH (j:Int)] 3 (0,0)):=g1;have d0:ai w f5:=((k6.then k7).then a7)
 have d1:ai w H:=d0.new L λb f=>.inr (by have f:b=x.heap.size:=f;omega);have d2:=L.get ((k7.then a7).get g6 id) (λd=>by have d:w.heap.size=x.heap.size:=d;omega);have d5:=L.get c8 (λd=>by have d:w6.heap.size=x.heap.size:=d;omega);have d6:=L.get (((a0.then W).then Q).get g9 id) (λd=>by have d:w8.heap.size=x.heap.size:=d;omega);have d8:=L.get ((W.then Q).get f3 id) (λd=>by have d:k.heap.size=x.heap.size:=d;omega);have e1:=L.get (Q.get f4 id) (λd=>by have d:o.heap.size=x.heap.size:=d;omega);have e2:=L.get f7 (λd=>by have d:p.heap.size=x.heap.size:=d;omega);refine PC.ok (φ:=λa6 w'=>a6= .func (.func 226) #[] #[.pointer (some ⟨H.heap.size,0,none⟩),.pointer (some ⟨H.heap.size+1,0,none⟩)]/\w'.heap[H.heap.size]? =some (.cells #[.slice a n c] 43 (0,0))/\(∃d ff,w'.heap[H.heap.size+1]? =some (.cells #[.func (.func 161) #[] #[.pointer (some ⟨w.heap.size,0,none⟩),.pointer (some ⟨w6.heap.size,0,none⟩)]] d ff))/\ai H w'/\w'.heap.size=H.heap.size+2)
  (BV (PA.mk λw3 k3 s3 g3=>PA.mk λw4 k4 s4 g4=>Ok.mk ⟨by rw [s3],k4.get g3 id,⟨_,_,by rw [<-s3];exact g4⟩,k3.then k4,oM⟩)) ?_
 rintro _ wz ⟨rfl,g2,g5,z,sz⟩;have i:=d1.then z;have a8:=z.get d2 id;have a9:=z.get d5 id;have b0:=z.get d6 id;have b1:=z.get c9 id;have M:=z.get d8 id;have N:=z.get e1 id;have X:=z.get e2 id;have Y:p.heap.size<wz.heap.size:=aC X;have d3:k.heap.size<wz.heap.size:=aC M;have d4:o.heap.size<wz.heap.size:=aC N;have b2:∀b,D b->b<wz.heap.size/\b≠p.heap.size:=λb f=>⟨by have:=hD b f;have:=i.size;omega,λd=>by have:=hD b f;omega⟩
 have e3:∀b∈V,NJ.In wz D b:=λb f=>(e8 b f).keep i λ_ _ K=>K;have e5:∀{c0:Nat} {b:Bx df},own[c0]? =some b->b∈V:=λ{c0 b} f=>by
  have:=QZ f;rw [r]at this;exact(List.mem_filter.1 this).1
 refine⟨_,rfl,226,_,rfl,kR,Unit,(),λ_=>Rk wz p.heap.size own j most,λP _ A=>P= .ret/\W_ wz p.heap.size k.heap.size o.heap.size own j most A,
  λg R=>∃b,own[g.length]? =some b/\R=[QH (g.length:Int),GP b.x b.a b.n b.c],λC=>C.length=own.length,?_,λ_ g A B O u=>O.fr Y u,λP g A B hx u=>⟨hx.1,hx.2.fr ⟨Y,d3,d4⟩ ⟨oM,oM⟩ u⟩,?_,?_,?_,?_,trivial⟩
 ·intro w1 hk hs
  refine⟨ai.keep hk,oM,none,0,0,λ_=>False,hk.get X id,?_,λb f=>f.elim,Qj _⟩;simpa using aV.nil w1
 ·rintro _ g A O l6 l7 l8 l9 m0 ta tn tc m1 m2 m3 m4 m5 m6 m7 m8 m9 ⟨b,f,he⟩
  simp only [iG,aE,List.cons_append,List.nil_append,List.cons.injEq,Value.agg.injEq,Array.mk.injEq,Value.int.injEq,XX,Value.bool.injEq,and_true,true_and]at he;obtain⟨rfl,rfl,rfl,rfl,⟨rfl,rfl,rfl⟩,rfl,rfl,rfl,rfl,rfl,rfl,rfl,rfl,rfl⟩:=he;have n0:g.length<own.length:=(Qv.1 f).1;refine PA.mk λn1 h0 n3 h8=>aD (mg b.x b.a b.n b.c) h8 rfl λh9 i0 n4 i1=>?_;have c2:ai A h9:=h0.new i0 λb f=>.inr (by have f:b=A.heap.size:=f;omega);refine⟨ai.keep c2,λb3 u=>?_⟩;have c3:=(O.af c2).fr Y u;have i2:=u.1.get i1 (λd=>by have d:A.heap.size=wz.heap.size+1:=d;omega);have n8:=u.2;have Z:=c3.keep;have c4:∀R:List Value,(((own.take (g++[R]).length).drop j)=if g.length<j then []else((own.take g.length).drop j)++[b]):=λR=>by
   rw [QX,List.length_singleton,Qw,f];have i3:(own.take g.length).length=g.length:=by rw [Qy];omega
   split
   ·rename_i s
    exact List.drop_eq_nil_of_le (by rw [QX,i3];simp;omega)
   ·rename_i s
    rw [List.drop_append_of_le_length oM];rfl
  obtain⟨q,y,E,I,S,G,v,t,s,h6⟩:=c3;have a1:=t.len dC;rw [Q8,XZ,Qy,X2 oM]at a1;refine⟨_,ae (Z.get b1 (λd=>by have d:x.heap.size=p.heap.size:=d;omega)) rfl,al.dec (λn9=>⟨aj.refl _,?_⟩) (λo0=>⟨_,_,_,ae v rfl,_,ae (Z.get b0 (λd=>by have d:w8.heap.size=p.heap.size:=d;omega)) rfl,al.dec (λi4=>?_) (λi5=>λd7 i6=>?_)⟩)⟩
  ·refine⟨q,y,E,I,S,G,v,?_,s,h6⟩
   rw [c4,if_pos oM];rw [List.drop_eq_nil_of_le (by rw [Qy];omega)]at t;exact t
  ·have e6:I=most:=oM
   have b4:=Z.get M (λd=>by have d:k.heap.size=p.heap.size:=d;omega);have b5:=Z.get N (λd=>by have d:o.heap.size=p.heap.size:=d;omega);refine⟨_,_,_,ae v rfl,PS.mk b4 sM λo1 d9 o2 i7=>PS.mk (d9.get b5 (λd=>by have d:o.heap.size=k.heap.size:=d;omega)) sM λi8 e0 o3 i9=>?_⟩;have T:aj (λb=>b=k.heap.size\/b=o.heap.size) b3 i8:=(d9.mono λb _ d=>.inl d).then (e0.mono λb _ d=>.inr d);have j0:(own.drop j).take most=(own.take g.length).drop j:=by
    rw [<-e6,a1,List.drop_take]
   refine⟨T.mono λb _ f=>⟨by rcases f with rfl|rfl<;>omega,by rcases f with rfl|rfl<;>omega⟩,.inl rfl,rfl,(q.mono λb _ d=>.inl d).then (T.mono λb _ d=>.inr d),i9,by rw [XZ];omega,E,I,S,G,e0.get i7 (λd=>by have d:k.heap.size=o.heap.size:=d;omega),?_,s⟩;rw [j0];exact t.keep T λb f d=>by have:=s b f;rcases d with rfl|rfl<;>omega
  ·have U:ai b3 d7:=i6.keep
   have c5:=(e3 b (e5 f)).keep Z λb f d=>(b2 b f).2 d;have e7:Row aP 8 d7 D b.a b.n b.x.ev.aK:=c5.1.af U;have f0:b.x.ev.Ok:=c5.2;refine⟨λ_=>False,id,_,_,_,ae (U.get v id) rfl,aw (mg b.x b.a b.n b.c) (U.get i2 id) (PC.ok (Fh e7 λb f=>by have:=(b2 b f).1;have:=U.size;omega) ?_)⟩;rintro _ o4 ⟨f1,n2,f2,G2,rfl,j1,b6,b7⟩;have o5:=U.size;have o6:=b7.size;refine⟨_,_,_,_,_,_,_,_,_,_,_,_,_,_,_,rfl,b7,PA.mk λo7 b8 o8 j2=>⟨b8,?_⟩⟩;have a2:=(U.then b7).then b8;refine fh (c:=Ab) (x:=b.x) (t.af a2) Tm j2 (D:=G2) ⟨f1,n2,f2,rfl,j1.af b8,f0⟩ (λb f=>⟨by have:=b6 b f;omega,λd=>by have:=t.aF b (t.self b d);have:=b6 b f;omega⟩) (by rw [Q8,XZ,Qy];unfold aQ;omega) (by rw [Q8,XZ,Qy];unfold maxLen;omega) λa' c' o9 F' f6 b9 j3=>⟨_,_,_,rfl,?_⟩
   have h:∀b,aI E=some b->wz.heap.size+2<=b:=λb f=>s b (t.self b f);have j4:¬aI E=some p.heap.size:=λd=>by have:=h _ d;omega
   have p0:=b9.size;have p1:=a2.size;have J:∀b,F' b->wz.heap.size+2<=b:=λb f=>by
    rcases j3 b f with h7|h7|h7
    ·exact s b h7
    ·have:=b6 b h7;omega
    ·omega
   refine PS.mk (b9.get (a2.get v id) j4) sM λj5 e4 p2 j6=>?_;have T:aj (λb=>aI E=some b\/b=p.heap.size) b3 j5:=((ai.keep a2).then (b9.mono λb _ d=>.inl d)).then (e4.mono λb _ d=>.inr d);refine⟨T.mono λb _ f=>⟨?_,?_⟩,⟨(q.new (T.mono λb _ d=>d) λb f=>f.elim (λd=>.inr (by have:=h b d;omega)) .inl),oM,a',I+1,c',F',j6,?_,J,oM⟩⟩
   ·rcases f with f|rfl
    ·have:=h b f;omega
    ·omega
   ·rcases f with f|rfl
    ·have:=h b f;omega
    ·omega
   ·rw [c4,if_neg oM,Q3]
    exact f6.keep e4 λb f d=>by have d:b=p.heap.size:=d;have:=J b f;omega
 ·intro f8 Rx hR _ p3 hy w1 j7 f9
  refine Calls.mono (UZ (own:=own) (f:=j) (most:=most) (R:=f8) (Rx:=Rx .ret) (R1:=k.heap.size) (R2:=o.heap.size) Y a8 a9 oM oM ⟨_,_,z.size|>λ_=>g2⟩ oM g5 oM (hL.af i) b2 r oM hR (λg R A O j8 u hN=>(hy () g R A O j8 u hN).mono ?_) j7 f9) ?_
  ·rintro b A' (K|⟨q,P,⟨rfl,y⟩,v⟩)
   ·exact .inl K
   ·exact .inr ⟨q,y,v⟩
  ·rintro d A' ⟨hv,K⟩
   refine⟨hv,?_⟩;rcases K with⟨q,C,y,v⟩|⟨q,y⟩
   ·exact .inl ⟨q,(),C,y,v⟩
   ·exact .inr ⟨.ret,[],⟨rfl,q⟩,y⟩
 ·rintro _ C A O c6 hm
  obtain⟨q,y,E,I,S,G,v,t,s,h6⟩:=O;have a1:=t.len dC;rw [c6,List.take_length]at t;rw [c6,List.take_length,Q8,XZ]at a1;have b4:=q.get M (λd=>by have d:k.heap.size=p.heap.size:=d;omega);have b5:=q.get N (λd=>by have d:o.heap.size=p.heap.size:=d;omega);refine⟨_,_,_,ae v rfl,PS.mk b4 sM λp4 a3 p5 j9=>PS.mk (a3.get b5 (λd=>by have d:o.heap.size=k.heap.size:=d;omega)) sM λp6 a4 p7 k0=>?_⟩;refine⟨a4.get (a3.get hm (λd=>by have d:wz.heap.size=k.heap.size:=d;omega)) (λd=>by have d:wz.heap.size=o.heap.size:=d;omega),λp8 u=>?_⟩;have a5:=u.1;have h1:=a5.get (a4.get j9 (λd=>by have d:k.heap.size=o.heap.size:=d;omega)) (λd=>by have d:k.heap.size=wz.heap.size:=d;omega);have h2:=a5.get k0 (λd=>by have d:o.heap.size=wz.heap.size:=d;omega);refine⟨_,_,_,ae h1 rfl,_,ae h2 rfl,Ok.mk ⟨_,?_,E,I,S,G,rfl,?_,?_,λb f=>by have:=s b f;have:=i.size;omega⟩⟩
  ·rw [Xv (by rw [XZ];omega)]
  ·rw [Qz (by rw [XZ];omega)]
   exact((t.keep a3 λb f d=>by have d:b=k.heap.size:=d;have:=s b f;omega).keep a4 λb f d=>by have d:b=o.heap.size:=d;have:=s b f;omega).keep a5 λb f d=>by have d:b=wz.heap.size:=d;have:=s b f;omega
  ·refine(((i.new q λb f=>.inr (by have f:b=p.heap.size:=f;omega)).new a3 λb f=>.inr (by have f:b=k.heap.size:=f;omega)).new a4 λb f=>.inr (by have f:b=o.heap.size:=f;omega)).new a5 λb f=>.inr (by have f:b=wz.heap.size:=f;have:=i.size;omega)
 ·rintro g A ⟨-,hx⟩ hm
  refine⟨hm,λp9 u=>?_⟩;obtain⟨q,y,h3,E,I,S,G,v,t,s⟩:=hx.fr ⟨Y,d3,d4⟩ ⟨oM,oM⟩ u;refine⟨_,_,_,ae v rfl,_,ae y rfl,Ok.mk ⟨_,by rw [decide_eq_true h3],E,I,S,G,rfl,t,?_,λb f=>by have:=s b f;have:=i.size;omega⟩⟩;exact i.new q λb f=>.inr (by rcases f with f|f|f<;>omega)
end
def Ba (b:aR) (c:List ah) (d e a:Int):ve:=⟨0,(0,0),⟨0,[]⟩,(ll (cG b c).entries d e a 32).1,[],(ll (cG b c).entries d e a 32).2⟩
section
variable {w w' w0 w1 w2:World} {p:Nat} {F E D:Nat->Prop} {cls:Nat->Nat} {h:ko} {c:cz} {self:Int} {X:bw}
theorem CR (u:bP w p F c self X) {e f a:Int} (v:aN a):Calls ZQ 48 #[.pointer (some ⟨p,0,none⟩),QH e,QH f,QH a] w (Ok λx w'=>ju w (Ba c.decl X.S.l e f a) x w'/\ai w w'):=by
 obtain⟨K,h,cls,n⟩:=u;refine mN (PA.mk λy g L z=>PC.ok (DE (c_.af n g)) ?_);rintro _ _ ⟨rfl,rfl⟩;have A:=c_.af n g;have b:dF y h.bp (λd=>F d/\cls d=4) c.decl c.every.toNat X.S.l:=A.at' 4;have B:=(xE c.decl X.S.l b.1.2.2.2).1;refine⟨_,rfl,_,_,Ik,PC.ok (GR b) ?_⟩;rintro _ M ⟨N,O,P,G,rfl,o,i,Q⟩;refine⟨_,_,_,rfl,PC.ok (Kw (most:=32) (o.row dC (by unfold aQ;omega)) o.aF oM B v) ?_⟩;rintro _ C ⟨R,rfl,j,k,l,E,rfl,q,m,r⟩;have H:=q.aF;have S:=i.size;have T:=m.size;have U:(ll (cG c.decl X.S.l).entries e f a 32).1.length<=32:=by unfold ll;rw [Qy];omega
 have I:ai w C:=(g.then i).then m;refine⟨_,_,_,_,rfl,aD (lR (Ba c.decl X.S.l e f a) none 0 0 j k l none 0 0) (m.get (i.get z id) id) rfl λV s W J=>aw (lR (Ba c.decl X.S.l e f a) none 0 0 j k l none 0 0) J (Ok.mk ⟨?_,I.new s λd b=>.inr (by have b:d=w.heap.size:=b;omega)⟩)⟩;refine⟨none,0,0,j,k,l,none,0,0,E,rfl,eE _ _,(q.keep s λd b t=>by have t:d=w.heap.size:=t;have:=r d b;omega).row dC (by show(ll (cG c.decl X.S.l).entries e f a 32).1.length*120<=aQ;unfold aQ;omega),eE _ _,λd b=>⟨by have:=r d b;omega,by have:=H d b;omega⟩⟩
end
theorem Sn :(do eqGuard .neq 39 Q W (.agg #[QH e,QH m]) (.agg #[QH F,QH V]);binOp .neq 39 (.agg #[QH e,QH m]) (.agg #[QH F,QH V]):Sem Value).run ZQ b= .ok (.bool (!(e==F&&m==V))) b:=by
 have a:=GN (x:=Q) (y:=W) (a:=e) (b:=m) (c:=F) (d:=V) (w:=b);rw [Sem.run_bind,run_eqGuard_agg b .eql _ Q W _ _ kR,Result.andThen_ok,run_eql_struct]at a;rw [Sem.run_bind,run_eqGuard_agg b .neq _ Q W _ _ kR,Result.andThen_ok,run_neq_struct];generalize(Op.equalIn 10000 39 (.agg #[QH e,QH m]) (.agg #[QH F,QH V])).run ZQ b=c at a⊢
 cases c with
 |ok d f=>simp only [Result.andThen_ok,Result.ok.injEq,Value.bool.injEq]at a⊢;obtain⟨rfl,rfl⟩:=a;exact⟨rfl,rfl⟩
 |_=>simp [Result.andThen]at a
theorem Wb (b:ep) (c:World):(do eqGuard .neq 268 Q W (.agg (bz b).toArray) (.agg (bz b).toArray);binOp .neq 268 (.agg (bz b).toArray) (.agg (bz b).toArray):Sem Value).run ZQ c= .ok (.bool false) c:=by
 have f:Tryz.prog.underlying 268=some (.struct (Tryz.prog.fieldsOf 268)):=kR
 have d:Tryz.prog.underlying 3=some (.int .i64):=kR
 have a:(Tryz.prog.fieldsOf 268).toList.map (λe=>(e.name,e.type,e.offset))=[("Group",3,0),("Value",3,1),("Count",3,2)]:=kR
 rw [Sem.run_bind,run_eqGuard_agg c .neq _ Q W _ _ kR,Result.andThen_ok,run_neq_struct,run_equalIn_struct c 9999 _ _ _ f kR];generalize(Tryz.prog.fieldsOf 268).toList=g at a
 match g,a with
 |[e,u,v],a=>
  simp only [QY,List.map_nil,List.cons.injEq,Prod.mk.injEq,and_true]at a;obtain⟨⟨h,i,j⟩,⟨k,l,m⟩,n,o,p⟩:=a;have q:(isAgg 3).run ZQ c= .ok false c:=dA _ _ _ kR ⟨_,d⟩ c;have r:=run_equalIn_int (P:=ZQ) c 9998 3 .i64 .i64 b.group b.group d;have s:=run_equalIn_int (P:=ZQ) c 9998 3 .i64 .i64 b.value b.value d;have t:=run_equalIn_int (P:=ZQ) c 9998 3 .i64 .i64 b.count b.count d;unfold Op.eqFields Op.eqFields Op.eqFields Op.eqFields;rw [h,i,j,k,l,m,n,o,p];simp [part,q,r,s,t,bz]
 |[],a=>simp at a
 |[_],a=>simp at a
 |[_,_],a=>simp at a
 |_::_::_::_::_,a=>simp at a
section
variable {w w':World} {D E:Nat->Prop} {a b:Option Addr} {n m c d:Nat}
theorem EO (g:Row fL 32 w D a n b0) (j:Row fL 32 w E b m b0):Calls ZQ 159 #[.slice a n c,.slice b m d] w (Ok λv w'=>v= .bool true/\ai w w'):=by
 have H:=g.len;have I:=j.len;have x:=g.d_;unfold aQ at x;refine Aw (al.dw (λf=>absurd oM f) (λ_=>?_));refine⟨λk i w'=>∃e:Nat,i=e/\e<=n/\k=n-e/\ai w w',⟨_,0,rfl,Qj _,rfl,aj.refl w⟩,?_⟩;rintro k i _ J ⟨e,rfl,K,rfl,l⟩;refine al.dec (λL y z=>?_) (λ_=>Ok.mk ⟨rfl,l⟩);have h:ai w y:=l.then z.keep;obtain⟨o,p,M,N,rfl,_,_,A,q,O,P,Q,rfl,B,_⟩:=(g.af h).sS (i:=e) oM;obtain⟨r,s,R,S,rfl,_,_,t,u,T,U,V,rfl,C,_⟩:=(j.af h).sS (i:=e) oM;rw [A]at t;cases t
 refine⟨o,p,rfl,oM,oM,_,q 0 dC,r,s,rfl,oM,oM,_,u 0 dC,al.dw (λf=>absurd rfl f) (λ_=>?_)⟩;refine⟨o,p,rfl,oM,oM,_,_,_,q 1 dC,r,s,rfl,oM,oM,_,_,_,u 1 dC,PC.ok (jM B C) ?_⟩;rintro _ W ⟨rfl,F⟩;exact⟨_,rfl,al.not (al.dec (λ_=>⟨_,oM,e+1,an oM,oM,rfl,h.then F.keep⟩) (λf=>absurd rfl f))⟩
theorem EP {s:mV} (i:Row fL 32 w D a n s.cells) (j:Row fL 32 w E b m s.cells):Calls ZQ 97 #[.agg #[QH s.version,.slice a n c],.agg #[QH s.version,.slice b m d]] w (Ok λk w'=>k= .bool true/\ai w w'):=by
 refine Ao (PA.mk λq f r l=>PA.mk λt e u g=>?_);have h:=e.get l id;refine⟨_,ae h rfl,_,ae g rfl,al.dX (λ_=>?_) (λo=>absurd rfl o)⟩;refine⟨_,_,_,ae h rfl,_,_,_,ae g rfl,PC.ok (EO (i.af (f.then e)) (j.af (f.then e))) ?_⟩;rintro _ v ⟨rfl,p⟩;exact⟨_,rfl,Ok.mk ⟨rfl,(f.then e).then p⟩⟩
theorem AM {F:List df} (q:Row Ab 120 w D a n F) (H:Row Ab 120 w E b m F):Calls ZQ 98 #[.slice a n c,.slice b m d] w (Ok λO w'=>O= .bool true/\ai w w'):=by
 have Y:=q.len;have Z:=H.len;have P:=q.d_;unfold aQ at P;refine vM (al.dw (λh=>absurd oM h) (λ_=>?_));refine⟨λI i w'=>∃f:Nat,i=f/\f<=n/\I=n-f/\ai w w',⟨_,0,rfl,Qj _,rfl,aj.refl w⟩,?_⟩;rintro I i _ w1 ⟨f,rfl,hj,rfl,J⟩;refine al.dec (λh1 r Q=>?_) (λ_=>Ok.mk ⟨rfl,J⟩);have s:ai w r:=J.then Q.keep;obtain⟨j,k,l,es,rfl,R,_,S,K,t,u,v,rfl,T,_⟩:=(q.af s).sS (i:=f) oM;obtain⟨o,p,a0,fs,rfl,U,_,L,M,x,y,z,rfl,V,_⟩:=(H.af s).sS (i:=f) oM;rw [S]at L;cases L
 have W:∀e,e<10->r.cell? ⟨j,k+f*13+e,none⟩=(aE l.ev t u v)[e]? :=λe g=>(K e (show e<13 by omega)).trans (XW (show e<10 from g));have X:∀e,e<10->r.cell? ⟨o,p+f*13+e,none⟩=(aE l.ev x y z)[e]? :=λe g=>(M e (show e<13 by omega)).trans (XW (show e<10 from g));refine⟨j,k,rfl,oM,oM,br (es:=aE l.ev t u v) (k:=10) (bg _ _ _ _) rfl (λe g=>by rw [Qx];exact W e g) ⟨o,p,rfl,oM,oM,br (es:=aE l.ev x y z) (k:=10) (bg _ _ _ _) rfl (λe g=>by rw [Qx];exact X e g) (PC.ok (mJ T V) ?_)⟩⟩;rintro _ N ⟨rfl,A⟩;have B:∀e,e<13->N.cell? ⟨j,k+f*13+e,none⟩=(iG l t u v)[e]? :=λe g=>(A.cell (a:=⟨j,k+f*13+e,none⟩) R id).trans (K e g);have C:∀e,e<13->N.cell? ⟨o,p+f*13+e,none⟩=(iG l x y z)[e]? :=λe g=>(A.cell (a:=⟨o,p+f*13+e,none⟩) U id).trans (M e g);refine⟨_,rfl,al.not (al.dec (λ_=>?_) (λh=>absurd rfl h))⟩;refine⟨j,k,rfl,oM,oM,_,B 10 dC,o,p,rfl,oM,oM,_,C 10 dC,al.not (al.mk (λ_=>?_) (λh=>by simp at h))⟩;refine⟨j,k,rfl,oM,oM,_,_,B 11 dC,B 12 dC,o,p,rfl,oM,oM,_,_,C 11 dC,C 12 dC,_,λw'=>Sn,al.mk (λh=>by simp at h) (λ_=>?_)⟩;exact⟨_,oM,f+1,an oM,oM,rfl,s.then A⟩
theorem HO (h:Row IN 24 w D a n g5) (o:Row IN 24 w E b m g5):Calls ZQ 99 #[.slice a n c,.slice b m d] w (Ok λr w'=>r= .bool true/\ai w w'):=by
 have C:=h.len;have F:=o.len;have s:=h.d_;unfold aQ at s;refine BT (al.dw (λj=>absurd oM j) (λ_=>?_));refine⟨λp i w'=>∃e:Nat,i=e/\e<=n/\p=n-e/\ai w w',⟨_,0,rfl,Qj _,rfl,aj.refl w⟩,?_⟩;rintro p i _ H ⟨e,rfl,I,rfl,g⟩;refine al.dec (λJ=>?_) (λ_=>Ok.mk ⟨rfl,g⟩);obtain⟨t,u,f,K,rfl,L,_,v,x,rfl,_⟩:=(h.af g).sS (i:=e) oM;obtain⟨y,z,M,N,rfl,O,_,q,A,rfl,_⟩:=(o.af g).sS (i:=e) oM;rw [v]at q;cases q
 refine⟨t,u,rfl,oM,oM,br (es:=bz f) (k:=3) (PM f) rfl (λk l=>by rw [Qx];exact x k l) ⟨y,z,rfl,oM,oM,br (es:=bz f) (k:=3) (PM f) rfl (λk l=>by rw [Qx];exact A k l) ⟨false,λm=>Wb f _,λP B=>al.mk (λj=>by cases j) λ_=>?_⟩⟩⟩;exact⟨_,oM,e+1,an oM,oM,rfl,g.then B.keep⟩
theorem CM {m n:World} (o:ju m f2 v w) (p:ju n f2 c0 w):Calls ZQ 47 #[v,c0] w (Ok λc0 w'=>c0= .bool true/\ai w w'):=by
 obtain⟨B,C,E,F,H,I,J,K,L,G,rfl,q,r,s,M⟩:=o;obtain⟨N,tn,O,P,Q,R,S,T,U,V,rfl,t,u,x,W⟩:=p;refine xV (PA.mk λX y Y z=>PA.mk λA h Z c=>?_);have d:=h.get z id;have a:ai w A:=y.then h;refine⟨_,ae d rfl,_,ae c rfl,al.dX (λ_=>?_) (λf=>absurd rfl f)⟩;refine⟨_,_,ae d rfl,ae d rfl,_,_,ae c rfl,ae c rfl,aH.mk GN ⟨_,rfl,al.mk (λ_=>?_) (λf=>by simp at f)⟩⟩;refine⟨_,_,_,_,ae d rfl,ae d rfl,_,_,_,_,ae c rfl,ae c rfl,PC.ok (EP (s:=f2.st) (q.af a) (t.af a)) ?_⟩;rintro _ w5 ⟨rfl,b⟩;have i:=b.get d id;have j:=b.get c id;refine⟨_,rfl,al.tt rfl ⟨_,_,_,ae i rfl,_,_,_,ae j rfl,PC.ok (AM (r.af (a.then b)) (u.af (a.then b))) ?_⟩⟩;rintro _ w6 ⟨rfl,e⟩;have k:=e.get i id;have l:=e.get j id;refine⟨_,rfl,al.tt rfl ⟨_,_,_,ae k rfl,_,_,_,ae l rfl,PC.ok (HO (s.af ((a.then b).then e)) (x.af ((a.then b).then e))) ?_⟩⟩;rintro _ w7 ⟨rfl,g⟩;exact⟨_,rfl,al.tt rfl ⟨_,ae (g.get k id) rfl,_,ae (g.get l id) rfl,Ok.mk ⟨sM,((a.then b).then e).then g⟩⟩⟩
end
end Go.Proofs.YtfchlbaidamodaaGreatDoor

import Derived.Test.YtfchlbaidamodaaGreatDoorKb27
set_option linter.all false
set_option maxRecDepth 100000
namespace Go.Proofs.YtfchlbaidamodaaGreatDoor
open Go.ax
variable{d:Option Addr}{k:ah}
section
variable {w w':World} {p:Nat} {M D T E:Nat->Prop} {most:Nat} {l:List ah} {a:Option Addr} {n c:Nat} {L:List (Bx ah)}
theorem qP {f g:ah} {a j:Option Addr} {n c k l:Nat} {w:World}:Calls ZQ 231 #[kK f a n c,kK g j k l] w (Ok λm w'=>m= QH (tJ f g)/\ai w w'):=by
 refine xI (PA.mk λv o x p=>PA.mk λq h y r=>λs t=>⟨λ_=>False,?_⟩);have b:ai q s:=t.keep;have d:=b.get (h.get p id) id;have e:=b.get r id;refine⟨_,ae d rfl,_,ae e rfl,id,_,ae d rfl,id,_,ae e rfl,id,_,ae d rfl,id,_,ae e rfl,PC.ok il ?_⟩;rintro _ _ ⟨rfl,rfl⟩;refine⟨_,rfl,aj.refl _,PC.ok il ?_⟩;rintro _ _ ⟨rfl,rfl⟩;refine⟨_,rfl,aj.refl _,PC.ok il ?_⟩;rintro _ _ ⟨rfl,rfl⟩;refine⟨_,rfl,aj.refl _,PA.mk λz i A u=>⟨i,PC.ok (Ry u) ?_⟩⟩;rintro _ _ ⟨rfl,rfl⟩;exact⟨_,rfl,aj.refl _,Ok.mk ⟨by rw [IX],((o.then h).then b).then i⟩⟩
theorem Fw {a b:ah}:tJ a b<0↔fg a b=true:=by
 unfold tJ
 cases fg a b
 ·cases fg b a<;>simp
 ·simp
theorem Ej (y:Row qE.k_ 96 w E a n L) (U:VF (L.map (·.x))) {F H:Nat}:
  Calls ZQ 230 #[.slice a n c,kK k d F H,.func (.func 231) #[] #[]] w (Ok λV w'=>∃b,V= .tuple #[QH ((posOf (λq=>fg q.x k) L:Nat):Int),.bool b]/\ai w w'):=by
 have hl:=y.len;have W:=y.d_;unfold aQ at W;have O:∀{j l:Nat} {e m:Bx ah},L[j]? =some e->L[l]? =some m->j<=l->e=m\/fg e.x m.x=true:=λ{j l e m} o r b4=>by
  rcases Nat.lt_or_ge j l with h|h
  ·right
   have z:(L.map (·.x))[j]? =some e.x:=by rw [Q9,o];rfl
   have A:(L.map (·.x))[l]? =some m.x:=by rw [Q9,r];rfl
   obtain⟨X,Y⟩:=Qv.1 z;obtain⟨Z,e2⟩:=Qv.1 A;have:=List.pairwise_iff_getElem.1 U j l X Z h;rw [Y,e2]at this;exact this
  ·obtain rfl:j=l:=oM
   rw [o]at r;exact .inl (XJ r)
 refine dL (PA.mk λa4 P b5 Q=>⟨λR j l w'=>∃p f:Nat,j=p/\l=f/\R=f-p/\p<=f/\f<=n/\(∀b e,b<p->L[b]? =some e->fg e.x k=true)/\(∀b e,f<=b->L[b]? =some e->fg e.x k=false)/\ai a4 w',
  ⟨_,0,n,rfl,rfl,rfl,oM,oM,λb e i=>oM,λb e i o=>by have:=(Qv.1 o).1;omega,aj.refl _⟩,?_⟩)
 rintro R _ _ _ S ⟨p,f,rfl,rfl,rfl,b6,a5,z,A,t⟩;have u:enters ZQ 231=true:=kR
 refine al.dec (λb7 a6 a7=>?_) (λb8 a8 a9=>?_)
 ·have B:ai S a6:=a7.keep
  have v:=(P.then t).then B;rw [VD oM];have s:L[(p+f)/2]? =some L[(p+f)/2]:=Qq oM;generalize L[(p+f)/2]=g at s;obtain⟨q,I,es,J,b0,b1,K,rfl,-⟩:=(y.af v).el _ g s;refine⟨q,I,J,oM,oM,br (es:=aE g.x g.a g.n g.c) (k:=10) (bg _ _ _ _) rfl (λb i=>by rw [Qx];exact K b i) (aw (bg k d F H) ((t.then B).get Q id) ⟨_,_,_,rfl,u,PC.ok qP ?_⟩)⟩;rintro _ b2 ⟨rfl,C⟩;refine⟨_,rfl,al.dec (λM=>⟨_,?_,(p+f)/2+1,f,an oM,rfl,rfl,oM,a5,λb m i r=>?_,A,(t.then B).then C⟩) (λM=>⟨_,?_,p,(p+f)/2,rfl,rfl,rfl,oM,oM,z,λb m i r=>?_,(t.then B).then C⟩)⟩
  ·omega
  ·have x:=Fw.1 M
   rcases O r s oM with rfl|N
   ·exact x
   ·exact uq N x
  ·omega
  ·have x:¬fg g.x k=true:=λh=>M (Fw.2 h)
   rcases O s r i with rfl|N
   ·simpa using x
   ·cases h4:fg m.x k
    ·rfl
    ·exact absurd (uq N h4) x
 ·obtain rfl:p=f:=oM
  have T:ai S a8:=a9.keep;have v:=(P.then t).then T;have a3:posOf (λq=>fg q.x k) L=p:=Bq oM (λb e i o=>z b e i o) (λe o=>A p e (Q4 _) o);rw [a3];refine al.dec (λb3=>?_) (λb3=>Ok.mk ⟨false,rfl,v⟩);have s:L[p]? =some L[p]:=Qq oM;generalize L[p]=g at s;obtain⟨q,I,es,J,b0,b1,K,rfl,-⟩:=(y.af v).el _ g s;refine⟨q,I,J,oM,oM,br (es:=aE g.x g.a g.n g.c) (k:=10) (bg _ _ _ _) rfl (λb i=>by rw [Qx];exact K b i) (aw (bg k d F H) ((t.then T).get Q id) ⟨_,_,_,rfl,u,PC.ok qP ?_⟩)⟩;rintro _ b2 ⟨rfl,C⟩;exact⟨_,rfl,Ok.mk ⟨_,rfl,v.then C⟩⟩
theorem VG {g i:Nat} {x:Bx ah} (k:aV qE.k_ 59 (λb=>aI a=some b) w a n c L) (l:g<=n) (m:w.heap[i]? =some (.cells (aE x.x x.a x.n x.c).toArray 59 (0,0))) (o:aI a≠some i) (s:L.length<=20000000):
  Calls ZQ 232 #[.slice a n c,QH (g:Int),.slice (some ⟨i,0,none⟩) 1 1] w (Ok λp w'=>∃e h,p= .slice e (n+1) h/\aV qE.k_ 59 (λb=>aI e=some b) w' e (n+1) h (L.take g++x::L.drop g)/\aj (λb=>aI a=some b) w w'/\∀b,aI e=some b->aI a=some b\/w.heap.size<=b):=by
 refine gH (IY.one (c:=qE.k_) (tb:=4) (x:=x) (D:=λ_=>False) xH kR ?_ k l m ⟨rfl,trivial⟩ (λb d=>d.elim) o (by unfold aQ;omega) (by unfold maxLen;omega) λe h w' t f q r=>Ok.mk ⟨e,h,rfl,aV.alone f,q,λb d=>?_⟩)
 ·intro j w
  rw [run_callFunc_extern Tryz.func285 kR kR kR (e:=Extern.SlicesOverlaps.overlaps #[50,50] #[4]) kR]
 ·rcases r b (f.self b d)with d|d|d
  ·exact .inl d
  ·exact d.elim
  ·exact .inr d
theorem VH {d:Nat} (f:aV qE.k_ 59 (λb=>aI a=some b) w a n c L) (g:d<n) (j:n<=20000000):
  Calls ZQ 238 #[.slice a n c,QH (d:Int),QH (IntKind.wrap .i64 ((d:Int)+1))] w (Ok λh w'=>h= .slice a (n-1) c/\aV qE.k_ 59 (λb=>aI a=some b) w' a (n-1) c (L.eraseIdx d)/\aj (λb=>aI a=some b) w w'):=
 gI (IZ.one (c:=qE.k_) (tz:=0) xH kR f g (by unfold maxLen;omega) λw' e i=>Ok.mk ⟨rfl,e,i⟩)
theorem Lm (g:ij w p M D most l) {e:ah} {en ec:Nat} (P:Row aP 8 w E d en e.aK) (hE:∀b,E b->b<w.heap.size) (he:e.Ok):
  Calls ZQ 166 #[.pointer (some ⟨p,0,none⟩),kK e d en ec] w (Ok λQ w'=>Q= .bool (dQ most l e).1/\∃q r,ij w' p q r most (dQ most l e).2/\aj M w w'/\(∀b,q b->M b\/w.heap.size<=b)/\∀b,r b->D b\/w.heap.size<=b):=by
 have b3:=g;obtain⟨C,a,n,c,L,g⟩:=g;have d7:L.length=l.length:=by rw [<-g.map,Q8]
 have hn:n=L.length:=g.pG.len dC;have d8:=g.dM p g.mp;have d9:=C.2.le;have k:(L.any λb=>aO b.x==aO e)=l.any (λj=>aO j==aO e):=by rw [<-g.map,List.any_map];rfl
 refine sV (PA.mk λc5 b4 e0 b5=>λR c6=>⟨λ_=>False,?_⟩);have S:ai c5 R:=c6.keep;have o:ai w R:=b4.then S;have T:=o.get g.at' id;have no:(dQ most l e)=(false,l)->∀U,ai w U->Ok (λQ w'=>Q= .bool (dQ most l e).1/\∃q r,ij w' p q r most (dQ most l e).2/\aj M w w'/\(∀b,q b->M b\/w.heap.size<=b)/\∀b,r b->D b\/w.heap.size<=b) (.returned (.bool false)) U:=λhq U k1=>
  Ok.mk ⟨by rw [hq],M,D,by rw [hq];exact b3.af k1,ai.keep k1,λb f=>.inl f,λb f=>.inl f⟩
 refine⟨p,0,rfl,_,_,_,ae T rfl,p,0,rfl,_,ae T rfl,al.dec (λe1=>no (by unfold dQ;rw [if_pos (.inl oM)]) R o) (λe2=>⟨p,0,rfl,id,_,_,_,ae T rfl,aj.refl _,PC.ok (Ll (E:=λb=>aI a=some b) (((g.pG.af o).row (bytes:=96) dC (by unfold aQ;omega))) (λb f=>by have:=(g.pG.aF b f);have:=o.size;omega) (S.get b5 id)) ?_⟩)⟩;rintro _ b6 ⟨rfl,F⟩;refine⟨_,rfl,F,al.mk (λs=>no (by unfold dQ;rw [if_pos (.inr (k▸s))]) b6 (o.then F)) (λs=>?_)⟩;have H:=o.then F;have b7:dQ most l e=(true,dO e l):=by unfold dQ;rw [if_neg (by rw [<-k];rintro(h|h);omega;rw [s]at h;cases h)]
 have c7:∀j∈l,aO j≠aO e:=by
  rw [k]at s;simpa [List.any_eq_false]using s
 have V:=(S.then F).get b5 id;refine⟨_,_,_,ae V rfl,PC.ok (cH (P.af H) λb f=>by have:=hE b f;have:=H.size;omega) ?_⟩;rintro _ b8 ⟨I,J,K,G,rfl,W,X,Y⟩;have e3:=H.size;have e4:=X.size;refine⟨_,_,_,rfl,PS.mk (X.get V id) (by simp [aE]) λZ a9 e5 c8=>λN b9=>?_⟩;have t:ai Z N:=b9.keep;have e6:N.heap.size=Z.heap.size:=by rw [b9.heap]
 have a0:Z.heap[w.heap.size]? =some (.cells (aE e I J K).toArray 59 (0,0)):=c8;have a1:ai w N:=((H.then X).new a9 λb f=>.inr (by have f:b=w.heap.size:=f;omega)).then t;have b0:=g.keep a1 (λ_ _ g=>g) λ_ _ g=>g;have c0:VF (L.map (·.x)):=by rw [g.map];exact C.2.Rz
 refine⟨p,0,rfl,_,_,_,ae b0.at' rfl,aw (bg e I J K) (t.get a0 id) (PC.ok (Ej (b0.pG.row (bytes:=96) dC (by unfold aQ;omega)) c0) ?_)⟩;rintro _ e7 ⟨a4,rfl,c9⟩;refine⟨_,_,rfl,λd0 d1=>⟨λ_=>False,?_⟩⟩;have u:ai N d0:=c9.then d1.keep;have a2:=a1.then u;have c1:=b0.keep u (λ_ _ g=>g) λ_ _ g=>g;have i:=u.get (t.get a0 id) id;have d6:=Bp (λb:Bx ah=>fg b.x e) L;refine⟨p,0,rfl,id,_,_,_,ae c1.at' rfl,_,_,_,_,_,_,_,_,_,_,_,_,ae i rfl,ae i rfl,ae i rfl,ae i rfl,ae i rfl,ae i rfl,ae i rfl,ae i rfl,ae i rfl,ae i rfl,PA.mk λd2 v e8 d3=>⟨v,?_⟩⟩;have c3:=c1.keep v (λ_ _ g=>g) λ_ _ g=>g;have e9:=a2.size;refine PC.ok (VG (x:=⟨e,I,J,K⟩) c3.pG oM d3 (λe=>by have:=g.pG.aF _ e;omega) oM) ?_;rintro _ f2 ⟨a',c',rfl,a3,x,y⟩;have b1:¬aI a=some p:=λe=>(g.ma p e).2 rfl;have f3:=x.size;refine⟨_,_,_,rfl,p,0,rfl,PS.mk (x.get c3.at' b1) sM λd4 O f4 d5=>?_⟩;have z:aj M w d4:=((ai.keep (a2.then v)).then (x.mono λb _ f=>(g.ma b f).1)).then (O.mono λb _ e=>by have e:b=p:=e;exact e▸g.mp);refine Ok.mk ⟨by rw [b7],λb=>M b\/aI a'=some b,λb=>D b\/G b,⟨⟨C.1,C.2.add he⟩,a',n+1,c',L.take (posOf (λb=>fg b.x e) L)++⟨e,I,J,K⟩::L.drop (posOf (λb=>fg b.x e) L),d5,?_,?_,?_,?_,.inl g.mp,?_,?_⟩,?_,?_,?_⟩
 ·refine a3.keep O λb f e=>?_
  have e:b=p:=e;rcases y b f with h|h
  ·exact b1 (e▸h)
  ·omega
 ·rw [b7]
  have c4:posOf (λj=>fg j e) l=posOf (λb:Bx ah=>fg b.x e) L:=by
   unfold posOf;rw [<-g.map,List.takeWhile_map,Q8];rfl
  show _=dO e l;rw [Fy c7,c4,Q3,QY,List.map_take,List.map_drop,g.map]
 ·have b2:∀b,G b->b6.heap.size<=b/\b<b8.heap.size:=λb f=>⟨Y b f,W.aF b f⟩
  intro j m;rcases Q6.1 m with m|m
  ·exact((g.Pa j (List.mem_of_mem_take m)).keep z λb f=>(g.dD b f).2).mono λb f=>.inl f
  rcases Q2.1 m with rfl|m
  ·refine⟨(((((W.keep a9 λb f e=>?_).af t).af (u.then v)).keep x λb f e=>?_).keep O λb f e=>?_).row (bytes:=8) dC (by rw [<-P.len];exact P.d_)|>.mono λb f=>.inr f,he⟩
   ·have e:b=w.heap.size:=e;have:=b2 b f;have:=aC V;omega
   ·have:=g.pG.aF b e;have:=b2 b f;omega
   ·have e:b=p:=e;have:=b2 b f;omega
  ·exact((g.Pa j (List.mem_of_mem_drop m)).keep z λb f=>(g.dD b f).2).mono λb f=>.inl f
 ·intro b f
  have hz:b8.heap.size<=d2.heap.size:=by have:=a9.size;have:=t.size;have:=u.size;have:=v.size;omega
  rcases f with f|f
  ·have h:=g.dD b f
   refine⟨by have:=z.size;omega,λA=>A.elim h.2 λe=>?_⟩;rcases y b e with B|B
   ·exact h.2 (g.ma b B).1
   ·omega
  ·have h:=W.aF b f;have h3:=Y b f
   have f6:=b4.size;refine⟨by have:=x.size;have:=O.size;omega,λA=>?_⟩;rcases A with A|e
   ·have:=g.dM b A;omega
   rcases y b e with B|B
   ·have:=g.pG.aF b B;omega
   ·omega
 ·intro b f
  refine⟨.inr f,λe=>?_⟩;rcases y b f with h|h
  ·exact b1 (e▸h)
  ·omega
 ·intro b f
  rcases f with f|f
  ·have:=g.dM b f;have:=z.size;omega
  ·have:=a3.aF b f;omega
 ·exact z
 ·intro b f
  rcases f with f|f
  ·exact .inl f
  rcases y b f with h|h
  ·exact .inl (g.ma b h).1
  ·exact .inr oM
 ·intro b f
  rcases f with f|f
  ·exact .inl f
  ·exact .inr (by have:=Y b f;omega)
end
end Go.Proofs.YtfchlbaidamodaaGreatDoor
namespace Go.ax
open Go
variable{E a c i n:Nat}{f:Nat->Prop}{d:Option Addr}{h:Program}{j:Type}{g p:TypeId}{b:World}{y:World->Prop}
theorem aV.TJ {k:Nat} {e:j->List Value} {q:j->Prop} {hl h1} {l:List j} {x:j} 
  (m:aV (flat k e q hl h1) p f b d a c l) (A:E<l.length) (B:0<k) (C:q x) (F:d=some ⟨i,n,none⟩) (H:jg h g (e x)=true)
  (r:∀o,aV (flat k e q hl h1) p f o d a c (l.set E x)->aj (λi=>aI d=some i) b o->o.heap.size=b.heap.size->y o):xJ h g (.pointer (some ⟨i,n+E*k,none⟩)) (.agg (e x).toArray) b y:=by
 have M:=m.len B;obtain⟨cs,D,t,I,u⟩:=m.body;have N:cs.length=a*k:=t.length;have O:(E+1)*k<=a*k:=Q0 _ oM;have J:(E+1)*k=E*k+k:=by rw [X7,Nat.one_mul]
 refine t.store (m:=E*k) F H (by rw [hl];omega) λK L v w=>r K ⟨⟨_,D,L,?_,u⟩,m.self,λi s=>by rw [w];exact m.aF i s⟩ v w;have z:=I.keep v λi s=>(u i s).2;rw [hl,<-J,show l.set E x=l.take E++[x]++l.drop (E+1) by rw [XQ,List.singleton_append];exact List.set_eq_take_append_cons_drop .. |>.trans (if_pos A)];exact bT.append (bT.append (z.take E) (bT.one ⟨rfl,C⟩)) (z.drop (E+1))
end Go.ax
namespace Go.Proofs.YtfchlbaidamodaaGreatDoor
open Go.ax
variable{a1 r:Array Value}{z:FuncId}{a2 f:Nat->Prop}{d:Option Addr}{k:ah}{C:aq}
section
variable {w w':World} {p:Nat} {M D T E:Nat->Prop} {most:Nat} {l:List ah} {a:Option Addr} {n c:Nat} {L:List (Bx ah)}
theorem Pb {pr:ah->Bool} (I:enters ZQ z=true) (o:aV qE.k_ 59 (λb=>aI a=some b) w a n c L) (hl:L.length<=20000000)
  (J:∀(b:Bx ah) f,aj (λb=>aI a=some b) w f->Calls ZQ z (r++ #[kK b.x b.a b.n b.c]++a1) f (Ok λt w'=>t= .bool (pr b.x)/\ai f w')):
  Calls ZQ 235 #[.slice a n c,.func (.func z) r a1] w (Ok λt w'=>∃p,t= .slice a p c/\aV qE.k_ 59 (λb=>aI a=some b) w' a p c (L.filter λb=>!pr b.x)/\aj (λb=>aI a=some b) w w'):=by
 have hn:=o.len dC;have b6:=o.jx;have q:∀{f:World} {g:List (Bx ah)},aV qE.k_ 59 (λb=>aI a=some b) f a n c g->g.length=L.length->Row qE.k_ 96 f (λb=>aI a=some b) a n g:=λ{f g} Y b7=>Y.row dC (by unfold aQ;omega);refine fN (PC.ok (Bs (E:=λb=>aI a=some b) (L:=L) I (λe f=>(∀b∈L.take e,pr b.x=false)/\ai w f) (λe f=>(∀b∈L.take e,pr b.x=false)/\(∀b,L[e]? =some b->pr b.x=true)/\ai w f) ⟨sM,aj.refl _⟩ (λe f Z=>(q o rfl).af Z.2) ?_) ?_)
 ·rintro e b f i ⟨j,B⟩
  refine(J b f (ai.keep B)).mono ?_;rintro _ w2 ⟨t,rfl,rfl,K⟩;refine Ok.mk ?_
  cases M:pr b.x
  ·refine .inr ⟨rfl,λN h=>?_,B.then K⟩
   rw [Qw,i]at h;rcases Q6.1 h with h|h
   ·exact j N h
   ·simp at h;subst h;exact M
  ·exact .inl ⟨rfl,j,λN h=>by rw [i]at h;cases h;exact M,B.then K⟩
 rintro _ w4 (⟨l,b8,rfl,j,a0,s⟩|⟨rfl,j,s⟩)
 rotate_left
 ·refine⟨_,rfl,al.tt sM (Ok.mk ⟨n,rfl,?_,ai.keep s⟩)⟩
  rw [Qz oM]at j;rw [List.filter_eq_self.2 λb i=>by rw [j b i];rfl];exact o.af s
 have O:L[l]? =some L[l]:=Qq oM;have a8:(L.take (l+1)).filter (λb=>!pr b.x)=L.take l:=by
  rw [Qw,O,List.filter_append,List.filter_eq_self.2 λb i=>by rw [j b i];rfl];simp [a0 _ O]
 refine⟨_,rfl,al.ff sM ⟨λp m e w'=>∃(C k:Nat) (g:List (Bx ah)),m=C/\e=k/\C<k/\k<=n/\p=n-k/\aV qE.k_ 59 (λb=>aI a=some b) w' a n c g/\g.length=L.length/\g.take C=(L.take k).filter (λb=>!pr b.x)/\g.drop k=L.drop k/\aj (λb=>aI a=some b) w w',
  ⟨_,l,l+1,L,rfl,an oM,oM,oM,rfl,o.af s,rfl,a8.symm,rfl,ai.keep s⟩,?_⟩⟩
 rintro p _ _ _ P ⟨m,e,g,rfl,rfl,b9,c0,rfl,u,E,v,Q,x⟩;refine al.dec (λc1=>?_) (λc2=>?_)
 ·have y:L[e]? =some L[e]:=Qq oM
  have R:g[e]? =some L[e]:=by
   have:=congrArg (·[0]?) Q;simp only [List.getElem?_drop,Nat.add_zero]at this;rw [this,y]
  have S:g.drop (e+1)=L.drop (e+1):=by
   have:=congrArg (List.drop 1) Q
   rwa [List.drop_drop,List.drop_drop]at this
  generalize L[e]=d at y R;obtain⟨b,T,es,F,c3,c4,a9,rfl,-⟩:=(q u E).el e d R;refine⟨b,T,F,oM,oM,br (es:=aE d.x d.a d.n d.c) (k:=10) (bg _ _ _ _) rfl (λa2 ht=>by rw [Qx];exact a9 a2 ht) (PA.mk λc5 b0 c6 b1=>aD (bg d.x d.a d.n d.c) b1 rfl λU b2 c7 V=>aw (bg d.x d.a d.n d.c) V ⟨_,_,_,rfl,I,?_⟩)⟩;have W:ai P U:=b0.new b2 λb i=>.inr (by have i:b=P.heap.size:=i;omega);refine PC.ok (J d U (x.af W)) ?_;rintro _ c8 ⟨rfl,X⟩;have A:=W.then X;refine⟨_,rfl,al.not (al.mk (λH=>⟨_,?_,m,e+1,g,rfl,an oM,oM,oM,rfl,u.af A,E,?_,S,x.af A⟩) (λH=>?_))⟩
  ·omega
  ·rw [v,Qw,y,List.filter_append]
   simp [H]
  ·refine aw (bg d.x d.a d.n d.c) (X.get V id) ⟨b,T,F,oM,oM,?_⟩
   rw [Qx];refine aV.TJ (x:=d) (k:=10) (u.af A) oM dC trivial F (bg d.x d.a d.n d.c) λc9 a7 b3 d0=>⟨_,?_,m+1,e+1,g.set m d,an oM,an oM,oM,oM,rfl,a7,by simpa using E,?_,?_,(x.af A).then b3⟩
   ·omega
   ·rw [Qw (l:=L),y,List.filter_append,<-v,Qw,List.getElem?_set_self oM,List.take_set_of_le (Q4 _)]
    simp [H]
   ·rw [List.drop_set_of_lt oM,S]
 ·obtain rfl:e=n:=oM
  rw [Qz (l:=L) oM]at v;refine⟨oM,oM,?_⟩;rw [Qx];refine Bm xH kR u oM λd1 b4 b5 d2=>⟨oM,oM,Ok.mk ⟨m,rfl,?_,x.then b5⟩⟩
  rw [<-v];exact b4
theorem Pc {b c:Nat} (m:cV w b f C) (n:w.heap[c]? =some (.cells #[.pointer (some ⟨b,0,none⟩)] 96 (0,0))) {o p:Nat}:
  Calls ZQ 233 #[kK k d o p,.pointer (some ⟨c,0,none⟩)] w (Ok λq w'=>q= .bool (C.get (aO k)).isSome/\ai w w'):=by
 refine nj (PA.mk λx a y e=>⟨_,ae (a.get n id) rfl,_,_,ae e rfl,ae e rfl,PC.ok (TK (m.af a) (aO k)) ?_⟩);rintro _ r ⟨g,h,i,G,rfl,z,A,j⟩;exact cu (sW _ g h i) ⟨_,rfl,PA.mk λB s E t=>aD (bg _ g h i) t rfl λF u H I=>Ok.mk ⟨rfl,((a.then j).then s).new u λv l=>.inr (by have l:v=r.heap.size:=l;have:=a.size;have:=j.size;omega)⟩⟩
theorem Pd {g i:Nat} (n:cV w g f C) (o:w.heap[i]? =some (.cells #[.pointer (some ⟨g,0,none⟩)] 96 (0,0))) {h j:Nat}
  (p:Row aP 8 w a2 d h k.aK) (l:∀a,a2 a->a<w.heap.size/\¬f a) (q:k.Ok) (u:C.l.length<=20000000):
  Calls ZQ 236 #[kK k d h j,.pointer (some ⟨i,0,none⟩)] w (Ok λr w'=>r= .bool (decide ((C.add k).1=0))/\∃c,cV w' g c (C.add k).2/\de f w c w'):=by
 refine nk (PA.mk λv b x s=>⟨_,ae (b.get o id) rfl,aw (bg k d h j) s (PC.ok (vH (n.af b) (p.af b) (λa e=>⟨by have:=(l a e).1;omega,(l a e).2⟩) q oM) ?_)⟩);rintro _ y ⟨rfl,c,t,m⟩;have:=b.size;exact⟨_,rfl,Ok.mk ⟨by congr 1,c,t,(ai.keep b).then m.keep,λa e=>(m.new a e).imp id oM⟩⟩
end
end Go.Proofs.YtfchlbaidamodaaGreatDoor

namespace Go.Proofs.YtfchlbaidamodaaGreatDoor
open Go.ax
variable{f:Nat->Prop}{d:Option Addr}{b:World}{C:aq}
section
variable {w w':World} {p:Nat} {M D E:Nat->Prop} {most:Nat} {l:List ah} {a:Option Addr} {n c:Nat} {L:List (Bx ah)}
structure TA (w:World) (p:Nat) (M:Nat->Prop) (most:Nat) (a:Option Addr) (c s tb:Nat) (T:aq) (nc:Nat) (Lc:List (Bx ah)) (oa:Option Addr) (on oc:Nat) (Lo:List (Bx ah)) (w1:World):Prop where
 set:∃F1,cV w1 s F1 T/\(∀b,F1 b->w.heap.size<=b/\b≠tb)/\∀b,aI oa=some b->w.heap.size<=b/\¬F1 b/\b≠tb
 ptr:w1.heap[tb]? =some (.cells #[.pointer (some ⟨s,0,none⟩)] 96 (0,0))
 buf:w1.heap[p]? =some (.cells #[QH (most:Int),.slice a nc c] 146 (0,0))
 pG:aV qE.k_ 59 (λb=>aI a=some b) w1 a nc c Lc
 out:aV qE.k_ 59 (λb=>aI oa=some b) w1 oa on oc Lo
 keep:aj M w w1
theorem yW (j:Rw w p M D most l a n c L) {s m:Nat} {k:Nat} {h:List (Bx ah)} {t u:Nat} {v:List (Bx ah)} (J:TA w p M most a c s m C k h d t u v b) (P:∀e∈h,e∈L) (R:C.l.length<=20000000) (a6:h.length<=20000000):
  Calls ZQ 237 #[.slice a k c,.func (.func 236) #[] #[.pointer (some ⟨m,0,none⟩)]] b (Ok λB w'=>
   (B= QH (-1)/\(∀e∈h,(C.add e.x).1≠0)/\TA w p M most a c s m C k h d t u v w')\/
   (∃i e,i<k/\B= QH (i:Int)/\h[i]? =some e/\(∀y∈h.take i,(C.add y.x).1≠0)/\(C.add e.x).1=0/\TA w p M most a c s m (C.add e.x).2 k h d t u v w')):=by
 have S:=j.dM p j.mp;have a7:=J.pG.len dC;have T:∀e,aI a=some e->e<w.heap.size:=λe f=>j.dM e (j.ma e f).1;refine(Bs (E:=λe=>aI a=some e) (L:=h) kR (λi o=>(∀e∈h.take i,(C.add e.x).1≠0)/\TA w p M most a c s m C k h d t u v o) (λi o=>∃e,h[i]? =some e/\(∀y∈h.take i,(C.add y.x).1≠0)/\(C.add e.x).1=0/\TA w p M most a c s m (C.add e.x).2 k h d t u v o) ⟨sM,J⟩
  (λi o g=>g.2.pG.row dC (by unfold aQ;omega)) ?_).mono ?_
 ·rintro i e o f ⟨K,g⟩
  obtain⟨U,V,z,E⟩:=g.set;have N:=(j.Pa e (P e (QZ f))).keep g.keep λe f=>(j.dD e f).2;have z2:=g.keep.size;refine(Pd V g.ptr N.1 (λe f=>⟨by have:=(j.dD e f).1;omega,λq=>by have:=(j.dD e f).1;have:=(z e q).1;omega⟩) N.2 R).mono ?_;rintro _ W ⟨B,rfl,rfl,X,Y,r⟩;have O:∀e,e<w.heap.size->¬U e:=λe f q=>by have:=(z e q).1;omega
  have Z:=aC g.ptr;have H:∀e,aI d=some e->e<o.heap.size:=λe f=>g.out.aF e f;have I:TA w p M most a c s m (C.add e.x).2 k h d t u v W:=⟨⟨X,Y,λe f=>(r.new e f).elim (z e) λA=>⟨oM,oM⟩,λe f=>⟨(E e f).1,λq=>(r.new e q).elim (E e f).2.1 λA=>by have:=H e f;omega,(E e f).2.2⟩⟩,
   r.keep.get g.ptr λq=>(z _ q).2 rfl,r.keep.get g.buf (O p S),g.pG.keep r.keep λe f=>O e (T e f),g.out.keep r.keep λe f=>(E e f).2.1,g.keep.new r.keep λe f=>.inr (z e f).1⟩
  refine Ok.mk ?_
  by_cases x:(C.add e.x).1=0
  ·exact .inl ⟨by rw [decide_eq_true x],e,f,K,x,I⟩
  ·refine .inr ⟨by rw [Xv x],λy Q=>?_,?_⟩
   ·rw [Qw,f]at Q
    rcases Q6.1 Q with Q|Q
    ·exact K y Q
    ·simp at Q;subst Q;exact x
   ·rcases C.gg e.x with⟨-,A⟩|⟨A,-⟩
    ·rw [A]at I;exact I
    ·rw [A]at x;exact absurd rfl x
 ·rintro _ o ⟨B,rfl,hv⟩
  rcases hv with⟨i,hj,rfl,e,F,g,h3,h4⟩|⟨rfl,F,g⟩
  ·exact Ok.mk (.inr ⟨i,e,hj,rfl,F,g,h3,h4⟩)
  ·rw [Qz oM]at F
   exact Ok.mk (.inl ⟨rfl,F,g⟩)
theorem GW (d7:ij w p M D most l) {b3:Nat} (hs:cV w b3 f C) (g2:C.Cl) (k1:C.l.length<=19000000):
  Calls ZQ 167 #[.pointer (some ⟨p,0,none⟩),.pointer (some ⟨b3,0,none⟩)] w (Ok λd9 w'=>∃r A F m,d9= .slice r A F/\aV qE.k_ 59 (λb=>aI r=some b) w' r A F m/\m.map (·.x)=(bI C l).1/\(∀b∈m,qE.In w' D b)/\(∀b,aI r=some b->w.heap.size<=b)/\
   ij w' p M D most (bI C l).2/\aj M w w'):=by
 obtain⟨W,a,n,c,L,h⟩:=d7;have g3:=h.dM p h.mp;have X:∀b,aI a=some b->b<w.heap.size:=λb d=>h.dM b (h.ma b d).1;have k2:L.length=l.length:=by rw [<-h.map,Q8]
 have h2:l.length<=256:=Xx W.2.le W.1;have hN:=hs.1.n;refine pS (PC.ok (mi hs) ?_);rintro _ w4 ⟨va,vn,vc,Fv,rfl,g5,k4,k3⟩;have d1:=g5.len dC;rw [C.b_]at d1;subst d1;refine⟨_,_,_,rfl,PC.ok (GX hN) ?_⟩;rintro _ B ⟨H,F2,rfl,d2,d3,k7⟩;have z4:=k4.size;have z7:=k7.size;refine⟨_,rfl,PA.mk λw9 k9 s9 g9=>PS.mk g9 sM λg6 g7 k5 g8=>?_⟩;have a1:ai B g6:=k9.new g7 λb d=>.inr (by have d:b=B.heap.size:=d;omega);have b4:=(k4.then k7).then a1;have Y:=d2.aF;refine PC.ok (sD (hs.af b4) oM) ?_;rintro _ Z ⟨ea,en,ec,G,rfl,b9,a6,hG⟩;have k6:=b9.len dC;have k8:=a1.size;have l0:=a6.size;have e6:Row fZ 96 Z G ea en C.l:=b9.row dC (by unfold aQ;omega);have h4:Z.heap[B.heap.size]? =some (.cells #[.pointer (some ⟨H,0,none⟩)] 96 (0,0)):=a6.get g8 id;have d5:=b9.aF;refine⟨_,_,_,rfl,λR a2 w'=>∃(g:Nat) (S:Nat->Prop),a2=g/\g<=en/\R=en-g/\cV w' H S ((⟨C.n,[]⟩:aq).eI (C.l.take g))/\(∀b,S b->F2 b\/Z.heap.size<=b)/\aj F2 Z w',⟨_,0,F2,rfl,Qj _,rfl,d2.af (a1.then a6),λb d=>.inl d,aj.refl _⟩,?_⟩;rintro R _ _ a7 ⟨g,S,rfl,hj,rfl,a8,a9,T⟩;have l3:=T.size;have c0:=T.get h4 λI=>by have:=Y _ I;omega
 refine al.dec (λl4=>?_) (λl5=>?_)
 ·have N:C.l[g]? =some C.l[g]:=Qq oM
  generalize C.l[g]=O at N;have e7:=e6.keep T λb d I=>by have:=Y _ I;have:=hG b d;omega
  obtain⟨b,f0,es,ha,l6,l7,c1,xa,xn,xc,rfl,h6,f1⟩:=e7.el g O N;refine⟨b,f0,ha,oM,oM,br (es:=aE O xa xn xc) (k:=10) (bg _ _ _ _) rfl (λa2 ht=>by rw [Qx];exact c1 a2 ht) (PA.mk λl8 h7 l9 h8=>aD (bg O xa xn xc) h8 rfl λh9 i1 m1 i3=>?_)⟩;have P:ai a7 h9:=h7.new i1 λb d=>.inr (by have d:b=a7.heap.size:=d;omega);have c2:=aq.np (C.l.take g) ⟨C.n,[]⟩;rw [Qy]at c2;simp only [List.length_nil]at c2;refine⟨_,ae (P.get c0 id) rfl,aw (bg O xa xn xc) i3 (PC.ok (vH (a8.af P) (h6.af P) (λb d=>⟨by have:=d5 b d;have:=P.size;omega,λI=>?_⟩) f1 oM) ?_)⟩
  ·rcases a9 b I with k|k
   ·have:=Y _ k;have:=hG b d;omega
   ·have:=d5 b d;omega
  rintro _ i4 ⟨rfl,F3,i5,d8⟩;refine⟨_,rfl,_,oM,g+1,F3,an oM,oM,rfl,?_,λb d=>?_,?_⟩
  ·rw [Qw,N]
   show cV i4 H F3 (aq.eI _ (C.l.take g++[O]));rw [aq.nq];exact i5
  ·rcases d8.new b d with k|k
   ·exact a9 b k
   ·have:=P.size;exact .inr oM
  ·exact(T.af P).new d8.keep λb d=>a9 b d
 rw [Qz oM,g2.VI]at a8;have b5:ai w a7:=(b4.then a6).new T λb d=>.inr (by have:=d3 b d;omega);have c3:=h.keep b5 (λ_ _ h=>h) λ_ _ h=>h;have t:∀b,S b->w.heap.size<=b/\b≠B.heap.size:=λb d=>by
  rcases a9 b d with k|k
  ·have:=d3 b k;have:=Y b k;omega
  ·omega
 refine⟨p,0,rfl,_,_,_,ae c3.at' rfl,PC.ok (Pb (pr:=λe=>(C.get (aO e)).isSome) kR c3.pG oM λb w1 hk=>?_) ?_⟩
 ·refine Pc (a8.keep hk λb d e=>?_) (hk.get c0 λe=>?_)
  ·have:=X b e;have:=(t b d).1;omega
  ·have:=X _ e;omega
 rintro _ m2 ⟨m0,rfl,f5,e0⟩;have b0:¬aI a=some p:=λe=>(h.ma p e).2 rfl;refine⟨_,_,_,rfl,p,0,rfl,PS.mk (e0.get c3.at' b0) sM λe1 e2 m3 e3=>⟨p,0,rfl,_,_,_,ae e3 rfl,?_⟩⟩;obtain⟨u,z⟩:∃u,u=L.filter λb=>!(C.get (aO b.x)).isSome:=⟨_,rfl⟩
 have a3:aj (λb=>aI a=some b\/b=p) a7 e1:=(e0.mono λb _ d=>.inl d).then (e2.mono λb _ d=>.inr d);have VJ:∀b,aI a=some b\/b=p->b<w.heap.size:=λb d=>d.elim (X b) λe=>e▸g3;have e4:TA w p M most a c H B.heap.size C m0 u none 0 0 [] e1:=by
  refine⟨⟨S,a8.keep a3 λb d e=>by have:=VJ b e;have:=(t b d).1;omega,t,λb d=>by cases d⟩,a3.get c0 λe=>by have:=VJ _ e;omega,e3,?_,(aV.nil _).mono (λb d=>d.elim) λb d=>(by cases d),?_⟩
  ·rw [z];exact f5.keep e2 λb d e=>b0 (by have e:b=p:=e;rw [<-e];exact d)
  ·exact(ai.keep b5).then (a3.mono λb _ d=>d.elim (λe=>(h.ma b e).1) λe=>e▸h.mp)
 have b6:∀b∈u,b∈L:=λb d=>by rw [z]at d;exact(List.mem_filter.1 d).1
 have a4:u.map (·.x)=l.filter λe=>(C.get (aO e)).isNone:=by
  rw [z,<-h.map,List.filter_map]
  congr 1
  refine List.filter_congr λb d=>?_;show(!(C.get (aO b.x)).isSome)=(C.get (aO b.x)).isNone
  cases C.get (aO b.x)<;>rfl
 have b7:u.length<=L.length:=by rw [z];exact List.length_filter_le ..
 refine PC.ok (yW h e4 b6 oM oM) ?_;rintro i6 m4 b8;obtain⟨i0,i7⟩:∃v:Int,i6= QH v:=by
  rcases b8 with⟨o,-⟩|⟨g,b,-,o,-⟩
  ·exact⟨_,o⟩
  ·exact⟨_,o⟩
 subst i7;refine⟨_,rfl,λR r A F v w'=>∃(s:aq) (i m:List (Bx ah)) (E U:Nat),R=i.length/\(∀b∈i,b∈L)/\(∀b∈m,b∈L)/\(i.map (·.x)).Sublist l/\i.length<=U/\s.l.length+i.length<=C.l.length+L.length/\i.length<=L.length/\m.length+i.length<=L.length/\E=i.length/\
   cW (U+1) s (i.map (·.x)) (m.map (·.x))=bI C l/\
   ((v= -1/\(∀b∈i,(s.add b.x).1≠0)/\TA w p M most a c H B.heap.size s E i r A F m w')\/
    (∃g b,g<E/\v=(g:Int)/\i[g]? =some b/\(∀x∈i.take g,(s.add x.x).1≠0)/\(s.add b.x).1=0/\TA w p M most a c H B.heap.size (s.add b.x).2 E i r A F m w')),?_,?_⟩
 ·have i8:=e4.pG.len dC
  refine⟨_,C,u,[],m0,u.length,rfl,b6,sM,by rw [a4];exact List.filter_sublist,Q4 _,oM,b7,by simpa using b7,i8,?_,?_⟩
  ·rw [a4]
   show cW (u.length+1) C _ []=_;unfold bI;rw [<-a4];show _=cW ((u.map (·.x)).length+1) C _ [];rw [Q8]
  ·rcases b8 with⟨o,J,K⟩|⟨g,b,o,J,K⟩
   ·exact .inl ⟨by simpa using o,J,K⟩
   ·exact .inr ⟨g,b,o,by simpa using J,K⟩
 rintro R r A F v _ i9 ⟨s,i,m,E,U,rfl,a5,c5,e5,hk,m5,j9,k0,m6,c6,j0⟩;rcases j0 with⟨rfl,c4,j⟩|⟨g,b,hj,rfl,d,c4,f6,j⟩
 ·refine al.ff sM (Ok.mk ⟨r,A,F,m,rfl,j.out,?_,λb d=>(h.Pa b (c5 b d)).keep j.keep λb d=>(h.dD b d).2,λb d=>by obtain⟨F1,-,-,k⟩:=j.set;exact(k b d).1,⟨⟨W.1,?_⟩,a,E,c,i,j.buf,j.pG,?_,λb d=>(h.Pa b (a5 b d)).keep j.keep λb d=>(h.dD b d).2,λb d=>⟨by have:=(h.dD b d).1;have:=j.keep.size;omega,(h.dD b d).2⟩,h.mp,h.ma,λb d=>by have:=h.dM b d;have:=j.keep.size;omega⟩,j.keep⟩)
  all_goals
   have f8:bI C l=(m.map (·.x),i.map (·.x)):=by
    rw [<-c6];unfold cW;rw [tK λe he=>by obtain⟨b,d,rfl⟩:=Xk.1 he;exact c4 b d]
   rw [f8]
  exact W.2.sub e5
 ·have j1:g<i.length:=oM
  have m7:=j;obtain⟨F1,e8,e9,b1⟩:=j.set;have m8:=j.keep.size;have c2:=s.AU b.x;obtain⟨gb,go,es,ha,m9,n0,c1,rfl,-⟩:=(j.pG.row (bytes:=96) dC (by unfold aQ;omega)).el g b d;have e:=λv (hi:v<10)=>c1 v hi;refine al.dec (λ_=>⟨p,0,rfl,_,_,_,ae j.buf rfl,gb,go,ha,oM,oM,_,_,_,_,_,_,_,_,_,_,_,_,e 0 dC,e 1 dC,e 2 dC,e 3 dC,e 4 dC,e 5 dC,e 6 dC,e 7 dC,e 8 dC,e 9 dC,PA.mk λj2 f2 n1 j3=>?_⟩) (λhn=>oM);have n2:=j.out.len dC;refine fh (c:=qE.k_) (x:=b) (D:=λ_=>False) (j.out.af f2) xH j3 ⟨rfl,trivial⟩ (λb d=>d.elim) (by unfold aQ;omega) (by unfold maxLen;omega) λV b2 f3 Fo c9 j4 j5=>⟨_,_,_,rfl,p,0,rfl,?_⟩
  have f9:=c9.alone;have d0:∀b,aI V=some b->aI r=some b\/j2.heap.size<=b:=λb d=>(j5 b (c9.self b d)).imp id λh=>h.resolve_left id;have q:∀b,aI r=some b->w.heap.size<=b:=λb d=>(b1 b d).1;have Q:aj (λb=>aI r=some b) i9 f3:=(ai.keep f2).then j4;have f4:=Q.get j.buf λe=>by have:=q _ e;omega
  have g4:=j.pG.keep Q λb d e=>by have:=q _ e;have:=X b d;omega
  have n3:=Q.size;refine⟨_,_,_,ae f4 rfl,PC.ok (VH g4 hj oM) ?_⟩;rintro _ n4 ⟨rfl,h0,c7⟩;have n8:=c7.size;refine⟨_,_,_,rfl,p,0,rfl,PS.mk (c7.get f4 b0) sM λf7 g0 n9 g1=>⟨p,0,rfl,_,_,_,ae g1 rfl,?_⟩⟩;have o0:(i.eraseIdx g).length=i.length-1:=List.length_eraseIdx_of_lt j1;have a0:aj (λb=>aI a=some b\/b=p) f3 f7:=(c7.mono λb _ d=>.inl d).then (g0.mono λb _ d=>.inr d);have c8:∀b,w.heap.size<=b->¬(aI a=some b\/b=p):=λb d e=>by have:=VJ b e;omega
  have j6:TA w p M most a c H B.heap.size (s.add b.x).2 (E-1) (i.eraseIdx g) V (A+1) b2 (m++[b]) f7:=by
   refine⟨⟨F1,(e8.keep Q λb d e=>(b1 b e).2.1 d).keep a0 λb d=>c8 b (e9 b d).1,e9,λb d=>?_⟩,a0.get (Q.get j.ptr λe=>(b1 _ e).2.2 rfl) (c8 _ oM),g1,h0.keep g0 λb d e=>b0 (by have e:b=p:=e;rw [<-e];exact d),f9.keep a0 λb d=>c8 b ?_,?_⟩
   ·rcases d0 b d with k|k
    ·exact b1 b k
    ·have hd:=e8.aF
     have o1:=aC j.ptr;exact⟨oM,λI=>by have:=hd b I;omega,oM⟩
   ·rcases d0 b d with k|k
    ·exact q b k
    ·omega
   ·exact(j.keep.new Q λb d=>.inr (q b d)).then (a0.mono λb _ d=>d.elim (λe=>(h.ma b e).1) λe=>e▸h.mp)
  have d4:∀x∈i.eraseIdx g,x∈L:=λx y=>a5 x ((List.eraseIdx_sublist ..).subset y);refine PC.ok (yW h j6 d4 oM oM) ?_;rintro j7 o2 d6;obtain⟨i2,j8⟩:∃v:Int,j7= QH v:=by
   rcases d6 with⟨o,-⟩|⟨g,b,-,o,-⟩
   ·exact⟨_,o⟩
   ·exact⟨_,o⟩
  subst j8;have h1:∃k',U=k'+1:=⟨U-1,oM⟩
  obtain⟨k',rfl⟩:=h1;refine⟨_,rfl,(i.eraseIdx g).length,oM,(s.add b.x).2,i.eraseIdx g,m++[b],E-1,k',rfl,d4,?_,?_,oM,oM,oM,by simp;omega,oM,?_,?_⟩
  ·intro x y
   rcases Q6.1 y with y|y
   ·exact c5 x y
   ·simp at y;subst y;exact a5 x (QZ d)
  ·exact((List.eraseIdx_sublist ..).map _).trans e5
  ·rw [<-c6]
   conv=>rhs;unfold cW
   rw [tL (i:=g) (e:=b.x) (λO N=>by rw [<-List.map_take]at N;obtain⟨x,y,rfl⟩:=Xk.1 N;exact c4 x y) (by rw [Q9,d];rfl) f6];show _=cW (k'+1) (s.add b.x).2 ((i.map (·.x)).eraseIdx g) (m.map (·.x)++[b.x]);rw [map_eraseIdx,Q3];rfl
  ·rcases d6 with⟨o,J,K⟩|⟨g,b,o,J,K⟩
   ·exact .inl ⟨by simpa using o,J,K⟩
   ·exact .inr ⟨g,b,o,by simpa using J,K⟩
end
def Ch:fS:=⟨[],[(3,[]),(7,[(9,.slice none 0 0)]),(11,[(9,.slice none 0 0)])],[],[],[]⟩
variable{v:Ending->World->Prop}{J W b4 e o:Int}{c7:List dz}{E a c c5 i n:Nat}{I:Nat×Nat}{b6 q:Option Addr}{h:Program}{j:Type}
theorem Ci {x y D z:Nat} (R:PA b (.cells #[.ii o,.ii J,.ii W,.slice q x y,.slice b6 D z] 67) λc=>(∃l:World->Prop,((rI c (ab_ b 0) λS=>al (S !=1) ((rI c (ab_ b 0) λT=>al (T !=2) (rt v ((.slice none 0 0)) c) (l c))) (l c)))/\∀(d8:Nat->Value) (m:World),l m->(∃n:Option Addr->Nat->Nat->World->Prop,((rS m (ab_ b (0+3)) λU V X=>PC_ 55 #[.pointer d,.slice U V X,.ii (if(if 32<b4 then 32 else b4)>1 then(if 32<b4 then 32 else b4)else 1)] m (kS_ λY A Z p=>al (decide ((A:Int)>0)) (PA p (.cells #[.ii 3,.ii 0,.ii 0,.slice none 0 0,.slice Y A Z] 67) λa3=>PR_ (ap_ 63 (.slice none 0 0) (.slice (some (ab_ p 0)) 1 1)) a3 (kS_ λa4 a5 a6 a7=>n a4 a5 a6 a7) (pV v)) (n none 0 0 p)) (pE v)))/\∀(f:Option Addr) (g:Nat) (h:Nat) (d9:Nat->Value) (G:World),n f g h G->PC_ 46 #[.pointer d] G (kS_ λr s t B=>(∃i:Option Addr->Nat->Nat->World->Prop,((rS B (ab_ b (0+3)) λa8 a9 b0=>PC_ 109 #[.slice a8 a9 b0,.slice r s t] B (kI_ λC a=>(rI a (ab_ b 0) λb1=>al (b1==1) (al (C==2) (PA a (.cells #[.ii 2,.ii 0,.ii 0,.slice r s t,.slice none 0 0] 67) λb2=>PR_ (ap_ 63 (.slice f g h) (.slice (some (ab_ a 0)) 1 1)) b2 (kS_ λb3 a0 b5 a1=>i b3 a0 b5 a1) (pV v)) (al (C==3) (PA a (.cells #[.ii 2,.ii 0,.ii 0,.slice r s t,.slice none 0 0] 67) λb7=>PR_ (ap_ 63 (.slice f g h) (.slice (some (ab_ a 0)) 1 1)) b7 (kS_ λb8 b9 c0 c1=>i b8 b9 c0 c1) (pV v)) (i f g h a))) (i f g h a))) (pE v)))/\∀(u:Option Addr) (k:Nat) (w:Nat) (e0:Nat->Value) (j:World),i u k w j->al ((k:Int)==0) ((rI j (ab_ b (0+1)) λc2=>PC_ 107 #[.pointer d,.ii e,.ii c2] j (λc3 E=>∃F H I K L M N O P,c3= .agg #[.ii F,.ii H,.ii I,.slice K L M,.slice N O P]/\PA E (.cells #[.ii F,.ii H,.ii I,.slice K L M,.slice N O P] 67) λc4=>PR_ (ap_ 63 (.slice u k w) (.slice (some (ab_ E 0)) 1 1)) c4 (kS_ λc5 c6 c7 Q=>(rI Q (ab_ b (0+1)) λc8=>PC_ 110 #[.ii e,.ii c8,.slice c5 c6 c7] Q (kS_ λc9 d0 d1 d2=>rt v ((.slice c9 d0 d1)) d2) (pE v))) (pV v)) (pE v))) ((rI j (ab_ b (0+1)) λd3=>PC_ 110 #[.ii e,.ii d3,.slice u k w] j (kS_ λd4 d5 d6 d7=>rt v ((.slice d4 d5 d6)) d7) (pE v))))) (pE v)))):Calls ZQ 54 #[.pointer d,.ii e,.agg #[.ii o,.ii J,.ii W,.slice q x y,.slice b6 D z],.ii b4] b v:=DC Ch Tryz.func54 rfl R
def LN:fS:=⟨[(2,[(10,QH 0)])],[],[],[],[]⟩
theorem LO (k:(∃h:Nat->Int->World->Prop,(∃g,h g 0 b)/\∀(g:Nat) (f:Int) (s:Nat->Value) (i:World),h g f i->al (decide (f<(a:Int))) ((ix_ d f a λl m=>PS i (ad l (m+Int.toNat f*5+1)) (.ii e) λn=>(ix_ d f a λp q=>PS n (ad p (q+Int.toNat f*5+2)) (.ii o) λr=>(∃j,j<g/\h j (IntKind.wrap .i64 (f+1)) r)))) (rt v ((.slice d a c)) i))):Calls ZQ 110 #[.ii e,.ii o,.slice d a c] b v:=DC LN Tryz.func110 rfl k
structure IC where
 m:dz
 va:Option Addr
 vn:Nat
 vc:Nat
 ea:Option Addr
 en:Nat
 ec:Nat
def UG:kM IC:=flat 5 (λa=>cD a.m a.va a.vn a.vc a.ea a.en a.ec) (λ_=>True) (λ_=>rfl) (λc d b=>by
 simp only [cD,Q2,List.not_mem_nil,or_false]at b;rcases b with rfl|rfl|rfl|rfl|rfl<;>rfl)
def IC.In (b:World) (D:Nat->Prop) (a:IC):Prop:=Row aP 8 b D a.va a.vn a.m.vec/\Row fZ 96 b D a.ea a.en a.m.events
theorem OJ:jP ZQ 63 67 UG.k 72:=⟨kR,kR,dC⟩
def bB (d:World) (h:List dz) (i:Value) (c:World):Prop:=
 ∃(b:Option Addr) (f g:Nat) (e:List IC) (D:Nat->Prop),i= .slice b f g/\aV UG 67 (λa=>aI b=some a) c b f g e/\e.map (·.m)=h/\(∀a∈e,a.In c D)/\(∀a,D a->d.heap.size<=a/\a<c.heap.size/\aI b≠some a)/\(∀a,aI b=some a->d.heap.size<=a)/\ai d c
section
variable {w w':World} {p:Nat} {F D:Nat->Prop} {S:aq} {a:Option Addr} {n c:Nat}
theorem IC.In.keep {a:IC} (b:a.In w D) (c:aj f w w') (d:∀a,D a->¬f a):a.In w' D:=⟨b.1.keep c d,b.2.keep c d⟩
theorem IC.In.mono {a:IC} (b:a.In w D) (c:∀a,D a->f a):a.In w f:=⟨b.1.mono c,b.2.mono c⟩
theorem eE {a:kM j} {bytes:Nat} (w:World) (D:Nat->Prop):Row a bytes w D none 0 []:=⟨rfl,sM,λc d b=>by simp at b⟩
theorem bB.nil (w:World):bB w [] (.slice none 0 0) w:=⟨none,0,0,[],λ_=>False,rfl,(aV.nil w).mono (λb a=>a.elim) (λb a=>(by cases a)),rfl,sM,λb a=>a.elim,λb a=>(by cases a),aj.refl _⟩
theorem bB.af {i:Value} (g:bB b c7 i w) (f:ai w w'):bB b c7 i w':=by
 obtain⟨a,n,c,j,D,k,l,m,o,h,p,q⟩:=g;exact⟨a,n,c,j,D,k,l.af f,m,λd e=>(o d e).keep f λ_ _ g=>g,λd e=>⟨(h d e).1,by have:=f.size;have:=(h d e).2.1;omega,(h d e).2.2⟩,p,q.then f⟩
theorem bB.push {s K:TypeId} (t:bB b c7 (.slice a n c) w) (L:jP h s 67 UG.k 72) {m:dz} {j k l o x:Nat} {E:Nat->Prop} (M:(⟨m,d,j,k,q,l,o⟩:IC).In w E) (y:∀e,E e->b.heap.size<=e/\e<w.heap.size/\aI a≠some e)
  (N:w.heap[x]? =some (.cells (cD m d j k q l o).toArray 67 I)) (U:c7.length<=1000) {z O:Value->World->Prop} (u:∀g i w',bB b (c7++[m]) (.slice g (n+1) i) w'->aj (λe=>aI a=some e) w w'->z (.slice g (n+1) i) w'):
  aH h (Builtin.append_ #[s,s] K #[.slice a n c,.slice (some ⟨x,0,none⟩) 1 1]) w z O:=by
 obtain⟨V,W,X,v,D,P,Q,A,R,B,C,F⟩:=t
 cases P
 have Z:v.length=c7.length:=by rw [<-A,Q8]
 refine fh (c:=UG) (x:=⟨m,d,j,k,q,l,o⟩) (D:=λ_=>False) Q L N ⟨rfl,trivial⟩ (λe f=>f.elim) (by unfold aQ;omega) (by unfold maxLen;omega) λg i w' F' p r S=>?_;have H:∀e,aI g=some e->aI a=some e\/w.heap.size<=e:=λe f=>(S e (p.self e f)).imp id λt=>t.resolve_left id;have a0:=r.size;have z7:=F.size;refine u g i w' ⟨g,n+1,i,v++[⟨m,d,j,k,q,l,o⟩],λe=>D e\/E e,rfl,(show aV UG 67 (λe=>aI g=some e) w' g (n+1) i (v++[⟨m,d,j,k,q,l,o⟩])from p.alone),by rw [Q3,A];rfl,λe f=>?_,λe f=>?_,λe f=>?_,F.new r λe f=>.inr (C e f)⟩ r
 ·rcases Q6.1 f with f|f
  ·exact((R e f).keep r λe f=>(B e f).2.2).mono λe f=>.inl f
  ·simp at f;subst f
   exact(M.keep r λe f=>(y e f).2.2).mono λe f=>.inr f
 ·have J:b.heap.size<=e/\e<w.heap.size/\aI a≠some e:=f.elim (B e) (y e)
  exact⟨J.1,oM,λT=>(H e T).elim J.2.2 oM⟩
 ·rcases H e f with Y|Y
  ·exact C e Y
  ·omega
theorem OR (A:bB b c7 (.slice a n c) w) (P:c7.length<=1000):
  Calls ZQ 110 #[QH e,QH o,.slice a n c] w (Ok λB w'=>bB b (c7.map λp=>{p with ck:=e,qF:=o}) B w'):=by
 obtain⟨Q,R,S,f,D,C,t,y,E,q,z,F⟩:=A
 cases C
 have T:f.length=c7.length:=by rw [<-y,Q8]
 have U:=t.len dC;obtain⟨h,k⟩:∃h:IC->IC,h=λg=>{g with m:={g.m with ck:=e,qF:=o}}:=⟨_,rfl⟩
 refine LO ⟨λp i w'=>∃d:Nat,i=d/\d<=n/\p=n-d/\aV UG 67 (λg=>aI a=some g) w' a n c ((f.take d).map h++f.drop d)/\aj (λg=>aI a=some g) w w',⟨_,0,rfl,Qj _,rfl,by simpa using t,aj.refl _⟩,?_⟩;rintro p _ _ V ⟨d,rfl,W,rfl,u,r⟩;refine al.dec (λX=>?_) (λY=>?_)
 ·have s:f[d]? =some f[d]:=Qq oM
  have l:∃m,a=some ⟨m,0,none⟩:=by
   obtain⟨cs,D,H,-⟩:=t.body;rcases H.cases with⟨_,Z,_,_⟩|⟨m,I,rfl,_⟩
   ·omega
   ·exact⟨m,rfl⟩
  obtain⟨m,l⟩:=l;have v:((f.take d).map h++f.drop d)[d]? =some f[d]:=by
   rw [X8 (by simp;omega)];simp [Qy,X2 (show d<=f.length by omega)]
  generalize f[d]=i at s v;have J:d<((f.take d).map h++f.drop d).length:=(Qv.1 v).1;refine⟨m,0,l,oM,oM,?_⟩;rw [Qx];refine aV.set (x':={i with m:={i.m with ck:=e}}) (j:=1) u v dC rfl l λa3 K L a4=>⟨m,0,l,oM,oM,?_⟩
  refine aV.set (x:={i with m:={i.m with ck:=e}}) (x':=h i) (j:=2) K (by rw [List.getElem?_set_self J]) dC (by rw [k];rfl) l λa5 x M a6=>⟨_,?_,d+1,an oM,oM,rfl,?_,(r.then L).then M⟩
  ·omega
  ·rw [List.set_set]at x
   have N:((f.take d).map h++f.drop d).set d (h i)=(f.take (d+1)).map h++f.drop (d+1):=by
    have O:((f.take d).map h).length=d:=by simp;omega
    rw [Qw,s,Q3,XQ,List.set_append,if_neg oM,O,Nat.sub_self,X4 (show d<f.length by omega)];rfl
   rw [N]at x;exact x
 ·obtain rfl:d=n:=oM
  rw [Qz oM,List.drop_eq_nil_of_le oM,List.append_nil]at u;refine Ok.mk ⟨a,d,c,f.map h,D,rfl,u,?_,λg j=>?_,λg j=>⟨(q g j).1,by have:=r.size;have:=(q g j).2.1;omega,(q g j).2.2⟩,z,F.new r λg j=>.inr (z g j)⟩
  ·rw [<-y,List.map_map,List.map_map,k];rfl
  ·obtain⟨i,s,rfl⟩:=Xk.1 j
   have:=(E i s).keep r λg j=>(q g j).2.2;rw [k];exact this
end
section
variable {w w':World} {p:Nat} {F D E:Nat->Prop} {S:aq} {m:dz} {va ea:Option Addr} {vn vc en ec:Nat}
theorem bB.IS {d:Value} (g:bB b c7 d w) (e:ai w' b):bB w' c7 d w:=by
 obtain⟨h,i,j,k,D,l,m,n,o,f,p,q⟩:=g;have:=e.size;exact⟨h,i,j,k,D,l,m,n,o,λa c=>⟨by have:=(f a c).1;omega,(f a c).2⟩,λa c=>by have:=p a c;omega,e.then q⟩
theorem bB.len (e:bB b c7 (.slice d a c) w):a=c7.length:=by
 obtain⟨i,j,k,l,D,f,g,h,-⟩:=e
 cases f
 rw [g.len dC,<-h,Q8]
theorem bB.sl {a:Value} (c:bB b c7 a w):∃d e f,a= .slice d e f:=by
 obtain⟨h,i,j,k,D,g,-⟩:=c;exact⟨_,_,_,g⟩
theorem Ks (h:cV w p F S) (hl:S.l.length<=20000000) (Z:Row aP 8 w D va vn m.vec) :
  Calls ZQ 54 #[.pointer (some ⟨p,0,none⟩),QH e,kD m va vn vc ea en ec,QH o] w (Ok (bB w (mE S e m o))):=by
 have hS:=h.1;have hN:=hS.n;refine Ci (PA.mk λc q f7 y=>⟨λw'=>c=w'/\(m.kind=1\/m.kind=2),⟨_,ae y rfl,al.dw (λr=>⟨_,ae y rfl,al.dw (λf=>Ok.mk ?_) (λf=>⟨rfl,.inr f⟩)⟩) (λr=>⟨rfl,.inl r⟩)⟩,?_⟩)
 ·unfold mE;rw [if_pos ⟨r,f⟩];exact(bB.nil c).IS q
 rintro _ _ ⟨rfl,hk⟩;have b9:¬(m.kind≠1/\m.kind≠2):=oM
 obtain⟨t,L⟩:∃t,t=S.missing m.vec (max 1 (min o 32)):=⟨_,rfl⟩
 have b4:(if(if 32<o then 32 else o)>1 then(if 32<o then 32 else o)else 1)=max 1 (min o 32):=by split<;>split<;>omega
 obtain⟨g,H⟩:∃g:List dz,g=if 0<t.length then [⟨3,0,0,[],t⟩]else []:=⟨_,rfl⟩
 have g0:g.length<=1:=by rw [H];split<;>simp
 refine⟨λj k l w'=>bB c g (.slice j k l) w'/\ai c w',⟨_,_,_,ae y rfl,?_⟩,?_⟩
 ·rw [b4]
  refine PC.ok (zN (h.af q) hl (Z.af q)) ?_;rw [<-L];rintro _ g1 ⟨b7,n2,z,G,rfl,M,I,hG⟩;have g2:=M.len dC;have e0:=M.aF;refine⟨_,_,_,rfl,al.dec (λf4=>PA.mk λg3 N g4 e1=>?_) (λhz=>⟨?_,I⟩)⟩
  rotate_left
  ·rw [H,if_neg oM]
   exact(bB.nil c).af I
  have g5:t.length<=20000000:=by
   rw [L];unfold aq.missing;rw [Qy];have:=List.length_filter_le (λi:ah=>decide (max 0 (fH m.vec i.origin)<i.seq)) S.l;omega
  refine bB.push (m:=⟨3,0,0,[],t⟩) (E:=G) ((bB.nil c).af (I.then N)) OJ ⟨eE _ _,(M.af N).row dC (by unfold aQ;omega)⟩ (λa b=>⟨by have:=hG a b;omega,by have:=e0 a b;omega,λi=>by cases i⟩) e1 sM λa' c' g6 c0 e2=>⟨_,_,_,rfl,?_,?_⟩
  ·rw [H,if_pos oM];exact c0
  ·exact(I.then N).new e2 λa b=>(by cases b)
 rintro J on oc _ e3 ⟨O,P⟩;have a0:=q.then P;have e4:=P.size;refine PC.ok (mi (h.af a0)) ?_;rintro _ v ⟨a3,n3,c3,G3,rfl,c4,c6,c7⟩;have g7:=a0.size;have c8:=c4.aF;have c9:Row aP 8 v G3 a3 n3 S.vec:=c4.row dC (by rw [S.b_];unfold aQ;omega);obtain⟨d,x⟩:∃d:List dz,d=if m.kind=1/\(sk m.vec S.vec=2\/sk m.vec S.vec=3)then [⟨2,0,0,S.vec,[]⟩]else []:=⟨_,rfl⟩
 have g8:d.length<=1:=by rw [x];split<;>simp
 have A:=P.then c6;have Q:∀a,aI J=some a->a<e3.heap.size:=λa b=>by
  obtain⟨a1,n1,u,a2,D,n,f,-⟩:=O
  cases n
  exact f.aF a b
 refine⟨_,_,_,rfl,λj k l w'=>bB c (g++d) (.slice j k l) w'/\w'.heap[w.heap.size]? =some (.cells (cD m va vn vc ea en ec).toArray 67 (0,0))/\ai c w',⟨_,_,_,ae (A.get y id) rfl,PC.ok (OP ((Z.af (q.then A)).uv) c9.uv) ?_⟩,?_⟩
 ·rintro _ _ ⟨rfl,rfl⟩
  have R:=A.get y id;have a4:=O.af c6;have s:∀a,aI J=some a->c.heap.size<=a:=λa b=>by
   obtain⟨a1,n1,u,a2,D,n,f,B,h4,h5,T,h7⟩:=O
   cases n
   exact T a b
  have no:d=[]->bB c (g++d) (.slice J on oc) v/\v.heap[w.heap.size]? =some (.cells (cD m va vn vc ea en ec).toArray 67 (0,0))/\ai c v:=λb=>⟨by rw [b,List.append_nil];exact a4,R,A⟩
  have C:∀{ε:Value->World->Prop} {U:Option Addr->Nat->Nat->World->Prop},d=[⟨2,0,0,S.vec,[]⟩]->(∀j k l w',bB c (g++d) (.slice j k l) w'/\w'.heap[w.heap.size]? =some (.cells (cD m va vn vc ea en ec).toArray 67 (0,0))/\ai c w'->U j k l w')->
    PA v (.cells #[QH 2,QH 0,QH 0,.slice a3 n3 c3,.slice none 0 0] 67) λd0=>aH ZQ (Builtin.append_ #[63,63] 63 #[.slice J on oc,.slice (some ⟨v.heap.size,0,none⟩) 1 1]) d0 (λe5 d1=>∃(a5:Option Addr) (a6:Nat) (a7:Nat),e5= .slice a5 a6 a7/\U a5 a6 a7 d1) ε:=λ{ε U} b V=>by
   refine PA.mk λd0 K g9 e6=>bB.push (m:=⟨2,0,0,S.vec,[]⟩) (E:=G3) (a4.af K) OJ ⟨c9.af K,eE _ _⟩ (λa b=>⟨by have:=c7 a b;omega,by have:=c8 a b;omega,λi=>by have:=Q a i;have:=c7 a b;omega⟩) e6 oM λa' c' d1 d2 d3=>⟨_,_,_,rfl,V _ _ _ _ ⟨by rw [b];exact d2,d3.get (K.get R id) λi=>?_,?_⟩⟩
   ·have:=s _ i;omega
   ·exact(A.then K).new d3 λa b=>.inr (s a b)
  refine⟨_,rfl,_,ae R rfl,al.dX (λr=>al.dX (λf=>C (by rw [x,if_pos ⟨r,.inl f⟩]) λj k l w' h=>h) (λf=>al.dX (λB=>C (by rw [x,if_pos ⟨r,.inr B⟩]) λj k l w' h=>h) (λB=>no (by rw [x,if_neg];rintro⟨-,h|h⟩;exact f h;exact B h)))) (λr=>no (by rw [x,if_neg λh=>r h.1]))⟩
 rintro e7 h8 h9 _ e8 ⟨E,W,a8⟩;have d4:=q.then a8;have e9:=a8.size;have a9:=E.len;have f6:(g++d).length<=2:=by rw [QX];omega
 have b0:∀{X:List dz},(if(g++d).isEmpty then [yN S e m.ck]else(g++d).map λb5=>{b5 with ck:=e,qF:=m.ck})=X->mE S e m o=X:=λ{X} hq=>by
  rw [<-hq];unfold mE;rw [if_neg b9,<-L];rw [H,x];have p1:(decide (sk m.vec S.vec=2\/sk m.vec S.vec=3))=decide (sk m.vec S.vec=2\/sk m.vec S.vec=3):=rfl
  by_cases u:0<t.length<;>by_cases z:m.kind=1/\(sk m.vec S.vec=2\/sk m.vec S.vec=3)
  ·simp [u,z]
  ·simp [u,z]
  ·simp [u,z]
  ·simp [u,z]
 refine al.dX (λh0=>⟨_,ae W rfl,PC.ok (Ki (h.af d4)) ?_⟩) (λh0=>⟨_,ae W rfl,PC.ok (OR E oM) ?_⟩)
 ·have n:g++d=[]:=QW oM
  rintro _ i0 ⟨b8,n5,c5,G5,rfl,d5,d6,d7⟩;have d8:=d5.aF;rw [n]at E;refine⟨_,_,_,_,_,_,_,_,_,rfl,PA.mk λi1 Y i2 f2=>?_⟩;have b1:∀a,aI e7=some a->c.heap.size<=a/\a<e8.heap.size:=λa b=>by
   obtain⟨a1,n1,u,a2,D,n,f,B,h4,h5,T,h7⟩:=E
   cases n
   exact⟨T a b,f.aF a b⟩
  refine bB.push (m:=yN S e m.ck) (E:=G5) (E.af (d7.then Y)) OJ ⟨(d5.af Y).row dC (by show S.vec.length*8<=aQ;rw [S.b_];unfold aQ;omega),eE _ _⟩ (λa b=>⟨by have:=d6 a b;have:=d4.size;omega,by have:=d8 a b;omega,λi=>by have:=(b1 a i).2;have:=d6 a b;omega⟩) f2 sM λa' c' i3 d9 f3=>⟨_,_,_,rfl,_,ae (f3.get ((d7.then Y).get W id) λi=>by have:=(b1 _ i).1;omega) rfl,?_⟩
  refine PC.ok (OR d9 sM) ?_;rintro b6 i4 b2;obtain⟨j,k,l,rfl⟩:=b2.sl;refine⟨_,_,_,rfl,Ok.mk ?_⟩;rw [b0 (if_pos (by rw [n];rfl))];exact b2.IS q
 ·rintro b6 i5 b3
  obtain⟨j,k,l,rfl⟩:=b3.sl;refine⟨_,_,_,rfl,Ok.mk ?_⟩;rw [b0 (if_neg (by
   intro n;have:g++d=[]:=by simpa using n
   rw [this]at a9;simp at a9;omega))]
  exact b3.IS q
end
def uY:fS:=⟨[],[],[],[],[]⟩
theorem uZ (d:(rS b (ad a c) λe f g=>(rS b (ad i (n+1)) λh j k=>(rI b (ad E (c5+2)) λl=>(rI b (ad E (c5+3)) λm=>(rI b (ad E (c5+4)) λo=>PC_ 88 #[.agg #[.slice e f g],.slice h j k,.ii l,.ii m,.ii o] b (kI_ λp q=>rt v ((.ii p)) q) (pE v))))))):Calls ZQ 87 #[.pointer (some ⟨a,c,none⟩),.pointer (some ⟨i,n,none⟩),.pointer (some ⟨E,c5,none⟩)] b v:=DC uY Tryz.func87 rfl d
def yr:fS:=⟨[(13,[(68,QH 0)])],[(11,[]),(20,[(25,.pointer (some ⟨0,0,none⟩)),(26,QH 0)])],[19],[],[(19,⟨[0,0,0,4,0,24,0,96,171,256,512,512,0,6143,16383],[32767,32767,32767,32763,32767,32751,32767,32671,32628,32511,32255,32255,32767,27647,30719],[1,0,0,2,0,2,0,0,2,0,0,0,2,2,0]⟩)]⟩
theorem yt {W X k Y:Option Addr} {q f Z a2 a3 a4 a5 a6 a7:Int} (a0:PA b (.cells #[.slice W a c,.slice X i n] 25) λe=>PA e (.cells #[.ii Z,.ii a2,.ii a3,.ii a4,.ii a5,.ii a6,.ii a7] 49) λg=>PA g (.cells #[.ii 0,.ii 0,.ii 0,.slice none 0 0,.ii 0,.ii 0,.ii 0,.ii 0,.ii 0,.ii 0] 59) λt=>(∃a8 a9 b0 b1 b2 b3,t.cell? (ab_ b 0)=some (.slice a8 a9 b0)/\t.cell? (ab_ b (0+1))=some (.slice b1 b2 b3)/\(Ld 49 (ab_ e 0) t λf2=>PC_ 82 #[.agg #[.slice a8 a9 b0,.slice b1 b2 b3],f2] t (kI_ λb4 z=>al (b4 !=0) (St 59 (ab_ g 0) (.agg #[.ii 0,.ii 0,.ii 0,.slice none 0 0,.ii 0,.ii 0,.ii 0,.ii 0,.ii 0,.ii 0]) z λb5=>(Ld 59 (ab_ g 0) b5 λf3=>rt v ((.tuple #[f3,.bool false,.ii b4])) b5)) ((rI z (ab_ e (0+6)) λf4=>PC_ 83 #[.pointer k,.ii f4] z (λf5 A=>yY (fe ZQ 59) λb6=>∃b7,f5= .tuple #[b6,.bool b7]/\PA A (.cells #[.ii 0,.ii 0,.ii 0,.slice none 0 0,.ii 0,.ii 0,.ii 0,.ii 0,.ii 0,.ii 0] 59) λf6=>St 59 (ab_ A 0) b6 f6 λh=>al b7 ((Ld 59 (ab_ A 0) h λf7=>St 59 (ab_ g 0) f7 h λb8=>(Ld 59 (ab_ g 0) b8 λf8=>rt v ((.tuple #[f8,.bool false,.ii 0])) b8))) ((rS h (ab_ b 0) λf9 g0 j1=>(rI h (ab_ e 0) λb9=>(ix_ f9 b9 g0 λg1 g2=>(rS h (ad g1 (g2+Int.toNat b9)) λg3 g4 g5=>PA h (.cells #[.slice none 0 0] 130) λg6=>PS g6 (ab_ h 0) (.slice g3 g4 g5) λB=>(rI B (ab_ e 0) λg7=>(rI B (ab_ e (0+1)) λg8=>PC_ 84 #[.pointer Y,.ii g7,.ii g8] B (λg9 o=>∃c0 c1 c2 c3 c4,g9= .tuple #[.agg #[.ii c0,.slice c1 c2 c3],.bool c4]/\PA o (.cells #[.ii 0,.slice none 0 0] 42) λh0=>PS h0 (ab_ o 0) (.ii c0) λh1=>PS h1 (ab_ o (0+1)) (.slice c1 c2 c3) λC=>(∃E:World->Prop,(al (!c4) ((rS C (ab_ h 0) λh2 h3 h4=>PC_ 85 #[.agg #[.slice h2 h3 h4]] C (kS_ λh5 h6 h7 h8=>PS h8 (ab_ o (0+1)) (.slice h5 h6 h7) λh9=>E h9) (pE v))) (E C))/\∀(j2:Nat->Value) (F:World),E F->PA F (.cells #[.func (.func 86) #[] #[.pointer (some (ab_ e 0)),.pointer (some (ab_ o 0))],.func (.func 87) #[] #[.pointer (some (ab_ h 0)),.pointer (some (ab_ o 0)),.pointer (some (ab_ e 0))]] 75) λi0=>(∃H:Nat->Int->World->Prop,(∃u,H u 0 i0)/\∀(u:Nat) (p:Int) (j3:Nat->Value) (w:World),H u p w->al (decide (p<(2:Int))) ((∃c5 c6,((some (ab_ F 0)):Option Addr)=some ⟨c5,c6,none⟩/\(0:Int)<=p/\p<(2:Int)/\(∃(c7:Value),w.cell? (ad c5 (c6+Int.toNat p))=some c7/\(∃I c8 d0,(c7:Value)= .func (.func I) c8 d0/\enters ZQ I=true/\PC_ I (c8++ #[]++d0) w (kI_ λd1 d2=>al (d1 !=0) (St 59 (ab_ g 0) (.agg #[.ii 0,.ii 0,.ii 0,.slice none 0 0,.ii 0,.ii 0,.ii 0,.ii 0,.ii 0,.ii 0]) d2 λd3=>(Ld 59 (ab_ g 0) d3 λi1=>rt v ((.tuple #[i1,.bool false,.ii d1])) d3)) ((∃d4,d4<u/\H d4 (IntKind.wrap .i64 (p+1)) d2))) (pE v))))) ((∃r:Nat->Nat->Int->World->Prop,((∀j,bE w j->∃d:Nat->Prop,(¬d e.heap.size/\(Ld 49 (ab_ e 0) j λx=>((PC_ 46 #[.pointer k] j (kS_ λD J K l=>(aj d j l/\((PC_ 90 #[.pointer k] l (kI_ λy m=>(aj d l m/\((PC_ 89 #[x,.ii q,.slice D J K,.ii (if f>y then f else y)] m (λi2 s=>yY (fe ZQ 59) λd5=>∃d6,i2= .tuple #[d5,.ii d6]/\(aj d m s/\PA s (.cells #[.ii 0,.ii 0,.ii 0,.slice none 0 0,.ii 0,.ii 0,.ii 0,.ii 0,.ii 0,.ii 0] 59) λG=>(aj d s G/\St 59 (ab_ s 0) d5 G λd7=>(aj d G d7/\r s.heap.size 0 d6 d7)))) (pZ v))/\(PA m (.cells #[.ii 0,.ii 0,.ii 0,.slice none 0 0,.ii 0,.ii 0,.ii 0,.ii 0,.ii 0,.ii 0] 59) λL=>(aj d m L/\PC_ 89 #[x,.ii q,.slice D J K,.ii (if f>y then f else y)] L (λi3 M=>yY (fe ZQ 59) λd8=>∃d9,i3= .tuple #[d8,.ii d9]/\(aj d L M/\St 59 (ab_ m 0) d8 M λe0=>(aj d M e0/\r m.heap.size 0 d9 e0))) (pZ v)))))) (pZ v))/\(PA l (.cells #[.ii 0,.ii 0,.ii 0,.slice none 0 0,.ii 0,.ii 0,.ii 0,.ii 0,.ii 0,.ii 0] 59) λN=>(aj d l N/\PC_ 90 #[.pointer k] N (kI_ λe1 O=>(aj d N O/\PC_ 89 #[x,.ii q,.slice D J K,.ii (if f>e1 then f else e1)] O (λi4 P=>yY (fe ZQ 59) λe2=>∃e3,i4= .tuple #[e2,.ii e3]/\(aj d O P/\St 59 (ab_ l 0) e2 P λe4=>(aj d P e4/\r l.heap.size 0 e3 e4))) (pZ v))) (pZ v)))))) (pZ v))/\(PA j (.cells #[.ii 0,.ii 0,.ii 0,.slice none 0 0,.ii 0,.ii 0,.ii 0,.ii 0,.ii 0,.ii 0] 59) λQ=>(aj d j Q/\PC_ 46 #[.pointer k] Q (kS_ λi5 i6 i7 R=>(aj d Q R/\PC_ 90 #[.pointer k] R (kI_ λe5 S=>(aj d R S/\PC_ 89 #[x,.ii q,.slice i5 i6 i7,.ii (if f>e5 then f else e5)] S (λi8 T=>yY (fe ZQ 59) λe6=>∃e7,i8= .tuple #[e6,.ii e7]/\(aj d S T/\St 59 (ab_ j 0) e6 T λe8=>(aj d T e8/\r j.heap.size 0 e7 e8))) (pZ v))) (pZ v))) (pZ v))))))))/\∀(e9:Nat) (f0:Nat) (U:Int) (j4:Nat->Value) (V:World),r e9 f0 U V->(Ld 59 (ad e9 f0) V λi9=>St 59 (ab_ g 0) i9 V λf1=>(Ld 59 (ab_ g 0) f1 λj0=>rt v ((.tuple #[j0,.bool (U==0),.ii U])) f1))))))) (pE v))))))))) (pE v)))) (pE v)))):Calls ZQ 42 #[.agg #[.slice W a c,.slice X i n],.pointer k,.pointer Y,.ii q,.ii f,.agg #[.ii Z,.ii a2,.ii a3,.ii a4,.ii a5,.ii a6,.ii a7]] b v:=DC yr Tryz.func42 rfl a0
def uW:fS:=⟨[],[],[],[],[]⟩
theorem uX (d:(rI b (ad a (c+5)) λe=>al (e==(-1)) (rt v ((.ii 0)) b) ((rI b (ad a (c+5)) λf=>(rI b (ad i n) λg=>al (f==g) (rt v ((.ii 0)) b) (rt v ((.ii 11)) b)))))):Calls ZQ 86 #[.pointer (some ⟨a,c,none⟩),.pointer (some ⟨i,n,none⟩)] b v:=DC uW Tryz.func86 rfl d
def yu:fS:=⟨[],[],[6],[],[(6,⟨[0,1,0,4,0,16,0,64,0,256,0,1024,0,4096,0,16384,43690,0,262143],[524287,524286,524287,524283,524287,524271,524287,524223,524287,524031,524287,523263,524287,520191,524287,507903,480597,524287,327679],[0,0,0,2,0,1,0,1,0,1,0,1,0,1,0,1,0,2,2]⟩)]⟩
theorem xM {q r s t u w x i j:Int} (P:PA b (.cells #[.ii q,.ii r,.ii s,.ii t,.ii u,.ii w,.ii x] 49) λe=>PA e (.cells #[.ii 0,.ii 0,.ii 0,.slice none 0 0,.ii 0,.ii 0,.ii 0,.ii 0,.ii 0,.ii 0] 59) λk=>al (decide (i<0)) (St 59 (ab_ e 0) (.agg #[.ii 0,.ii 0,.ii 0,.slice none 0 0,.ii 0,.ii 0,.ii 0,.ii 0,.ii 0,.ii 0]) k λy=>(Ld 59 (ab_ e 0) y λQ=>rt v ((.tuple #[Q,.ii 1])) y)) (al (decide (i>=(a:Int))) (St 59 (ab_ e 0) (.agg #[.ii 0,.ii 0,.ii 0,.slice none 0 0,.ii 0,.ii 0,.ii 0,.ii 0,.ii 0,.ii 0]) k λz=>(Ld 59 (ab_ e 0) z λR=>rt v ((.tuple #[R,.ii 1])) z)) (al (decide (j<0)) (St 59 (ab_ e 0) (.agg #[.ii 0,.ii 0,.ii 0,.slice none 0 0,.ii 0,.ii 0,.ii 0,.ii 0,.ii 0,.ii 0]) k λA=>(Ld 59 (ab_ e 0) A λS=>rt v ((.tuple #[S,.ii 1])) A)) (PC_ 112 #[.slice d a c,.ii i] k (kI_ λl m=>al (l==9223372036854775807) (St 59 (ab_ e 0) (.agg #[.ii 0,.ii 0,.ii 0,.slice none 0 0,.ii 0,.ii 0,.ii 0,.ii 0,.ii 0,.ii 0]) m λB=>(Ld 59 (ab_ e 0) B λT=>rt v ((.tuple #[T,.ii 13])) B)) (al (j==9223372036854775807) (St 59 (ab_ e 0) (.agg #[.ii 0,.ii 0,.ii 0,.slice none 0 0,.ii 0,.ii 0,.ii 0,.ii 0,.ii 0,.ii 0]) m λC=>(Ld 59 (ab_ e 0) C λU=>rt v ((.tuple #[U,.ii 13])) C)) ((∀f,bE m f->∃g:Nat->Prop,(¬g b.heap.size/\(rI f (ab_ b 0) λD=>(¬g b.heap.size/\(rI f (ab_ b (0+1)) λE=>(¬g b.heap.size/\(rI f (ab_ b (0+2)) λF=>(¬g b.heap.size/\(rI f (ab_ b (0+3)) λG=>(¬g b.heap.size/\(rI f (ab_ b (0+4)) λH=>(¬g b.heap.size/\(rI f (ab_ b (0+6)) λI=>((PC_ 108 #[.slice d a c,.slice none 0 0] f (kS_ λV W X h=>(aj g f h/\PA h (.cells #[.ii 0,.ii 0,.ii 0,.slice none 0 0,.ii 0,.ii 0,.ii 0,.ii 0,.ii 0,.ii 0] 59) λn=>(aj g h n/\St 59 (ab_ h 0) (.agg #[.ii 0,.ii 0,.ii (IntKind.wrap .i64 (j+1)),.slice V W X,.ii D,.ii E,.ii F,.ii G,.ii H,.ii I]) n λJ=>(aj g n J/\PS J (ab_ h 0) (.ii i) λY=>PS Y (ab_ h (0+1)) (.ii (IntKind.wrap .i64 (l+1))) λK=>(Ld 59 (ab_ h 0) K λZ=>St 59 (ab_ e 0) Z K λL=>(Ld 59 (ab_ e 0) L λa1=>rt v ((.tuple #[a1,.ii 0])) L)))))) (pZ v))/\(PA f (.cells #[.ii 0,.ii 0,.ii 0,.slice none 0 0,.ii 0,.ii 0,.ii 0,.ii 0,.ii 0,.ii 0] 59) λo=>(aj g f o/\PC_ 108 #[.slice d a c,.slice none 0 0] o (kS_ λa2 a3 a4 p=>(aj g o p/\St 59 (ab_ f 0) (.agg #[.ii 0,.ii 0,.ii (IntKind.wrap .i64 (j+1)),.slice a2 a3 a4,.ii D,.ii E,.ii F,.ii G,.ii H,.ii I]) p λM=>(aj g p M/\PS M (ab_ f 0) (.ii i) λa5=>PS a5 (ab_ f (0+1)) (.ii (IntKind.wrap .i64 (l+1))) λN=>(Ld 59 (ab_ f 0) N λa6=>St 59 (ab_ e 0) a6 N λO=>(Ld 59 (ab_ e 0) O λa7=>rt v ((.tuple #[a7,.ii 0])) O))))) (pZ v)))))))))))))))))))) (pE v))))):Calls ZQ 89 #[.agg #[.ii q,.ii r,.ii s,.ii t,.ii u,.ii w,.ii x],.ii i,.slice d a c,.ii j] b v:=DC yu Tryz.func89 rfl P
end Go.Proofs.YtfchlbaidamodaaGreatDoor

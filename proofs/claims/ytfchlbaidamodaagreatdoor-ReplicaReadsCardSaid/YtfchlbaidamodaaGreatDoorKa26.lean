import Derived.Test.YtfchlbaidamodaaGreatDoorKa25
set_option linter.all false
set_option maxRecDepth 100000
namespace Go.Proofs.YtfchlbaidamodaaGreatDoor
open Go.ax
variable{d:Option Addr}
section
variable {w w':World} {p:Nat} {M D T E:Nat->Prop} {most:Nat} {l:List ah} {a:Option Addr} {n c:Nat} {L:List (Bx ah)}
theorem qP {f g:ah} {a j:Option Addr} {n c k l:Nat} {w:World}:Calls ZQ 231 #[kK f a n c,kK g j k l] w (Ok λm w'=>m= QH (tJ f g)/\ai w w'):=by
 refine xI (PA.mk λv o x p=>PA.mk λq h y r=>λs t=>⟨λ_=>False,?_⟩);have b:ai q s:=t.keep;have d:=b.get (h.get p id) id;have e:=b.get r id;refine⟨_,ae d rfl,_,ae e rfl,id,_,ae d rfl,id,_,ae e rfl,id,_,ae d rfl,id,_,ae e rfl,PC.ok il ?_⟩;rintro _ _ ⟨rfl,rfl⟩;refine⟨_,rfl,aj.refl _,PC.ok il ?_⟩;rintro _ _ ⟨rfl,rfl⟩;refine⟨_,rfl,aj.refl _,PC.ok il ?_⟩;rintro _ _ ⟨rfl,rfl⟩;refine⟨_,rfl,aj.refl _,PA.mk λz i A u=>⟨i,PC.ok (Ry u) ?_⟩⟩;rintro _ _ ⟨rfl,rfl⟩;exact⟨_,rfl,aj.refl _,Ok.mk ⟨by rw [IX],((o.then h).then b).then i⟩⟩
theorem Fw {a b:ah}:tJ a b<0↔fg a b=true:=by
 unfold tJ
 cases fg a b
 ·cases fg b a<;>simp
 ·simp
theorem Ej (y:Row qE.k_ 96 w E a n L) (U:VF (L.map (·.x))) {j:ah} {F H:Nat}:
  Calls ZQ 230 #[.slice a n c,kK j d F H,.func (.func 231) #[] #[]] w (Ok λV w'=>∃b,V= .tuple #[QH ((posOf (λq=>fg q.x j) L:Nat):Int),.bool b]/\ai w w'):=by
 have hl:=y.len;have W:=y.d_;unfold aQ at W;have O:∀{k l:Nat} {e m:Bx ah},L[k]? =some e->L[l]? =some m->k<=l->e=m\/fg e.x m.x=true:=λ{k l e m} o r b4=>by
  rcases Nat.lt_or_ge k l with h|h
  ·right
   have z:(L.map (·.x))[k]? =some e.x:=by rw [Q9,o];rfl
   have A:(L.map (·.x))[l]? =some m.x:=by rw [Q9,r];rfl
   obtain⟨X,Y⟩:=Qv.1 z;obtain⟨Z,e2⟩:=Qv.1 A;have:=List.pairwise_iff_getElem.1 U k l X Z h;rw [Y,e2]at this;exact this
  ·obtain rfl:k=l:=oM
   rw [o]at r;exact .inl (XJ r)
 refine dL (PA.mk λa4 P b5 Q=>⟨λR k l w'=>∃p f:Nat,k=p/\l=f/\R=f-p/\p<=f/\f<=n/\(∀b e,b<p->L[b]? =some e->fg e.x j=true)/\(∀b e,f<=b->L[b]? =some e->fg e.x j=false)/\ai a4 w',
  ⟨_,0,n,rfl,rfl,rfl,oM,oM,λb e i=>oM,λb e i o=>by have:=(Qv.1 o).1;omega,aj.refl _⟩,?_⟩)
 rintro R _ _ _ S ⟨p,f,rfl,rfl,rfl,b6,a5,z,A,t⟩;have u:enters ZQ 231=true:=kR
 refine al.dec (λb7 a6 a7=>?_) (λb8 a8 a9=>?_)
 ·have B:ai S a6:=a7.keep
  have v:=(P.then t).then B;rw [VD oM];have s:L[(p+f)/2]? =some L[(p+f)/2]:=Qq oM;generalize L[(p+f)/2]=g at s;obtain⟨q,I,es,J,b0,b1,K,rfl,-⟩:=(y.af v).el _ g s;refine⟨q,I,J,oM,oM,br (es:=aE g.x g.a g.n g.c) (k:=10) (bg _ _ _ _) rfl (λb i=>by rw [Qx];exact K b i) (aw (bg j d F H) ((t.then B).get Q id) ⟨_,_,_,rfl,u,PC.ok qP ?_⟩)⟩;rintro _ b2 ⟨rfl,C⟩;refine⟨_,rfl,al.dec (λM=>⟨_,?_,(p+f)/2+1,f,an oM,rfl,rfl,oM,a5,λb m i r=>?_,A,(t.then B).then C⟩) (λM=>⟨_,?_,p,(p+f)/2,rfl,rfl,rfl,oM,oM,z,λb m i r=>?_,(t.then B).then C⟩)⟩
  ·omega
  ·have x:=Fw.1 M
   rcases O r s oM with rfl|N
   ·exact x
   ·exact uq N x
  ·omega
  ·have x:¬fg g.x j=true:=λh=>M (Fw.2 h)
   rcases O s r i with rfl|N
   ·simpa using x
   ·cases h4:fg m.x j
    ·rfl
    ·exact absurd (uq N h4) x
 ·obtain rfl:p=f:=oM
  have T:ai S a8:=a9.keep;have v:=(P.then t).then T;have a3:posOf (λq=>fg q.x j) L=p:=Bq oM (λb e i o=>z b e i o) (λe o=>A p e (Q4 _) o);rw [a3];refine al.dec (λb3=>?_) (λb3=>Ok.mk ⟨false,rfl,v⟩);have s:L[p]? =some L[p]:=Qq oM;generalize L[p]=g at s;obtain⟨q,I,es,J,b0,b1,K,rfl,-⟩:=(y.af v).el _ g s;refine⟨q,I,J,oM,oM,br (es:=aE g.x g.a g.n g.c) (k:=10) (bg _ _ _ _) rfl (λb i=>by rw [Qx];exact K b i) (aw (bg j d F H) ((t.then T).get Q id) ⟨_,_,_,rfl,u,PC.ok qP ?_⟩)⟩;rintro _ b2 ⟨rfl,C⟩;exact⟨_,rfl,Ok.mk ⟨_,rfl,v.then C⟩⟩
theorem VG {g i:Nat} {x:Bx ah} (k:aV qE.k_ 59 (λb=>aI a=some b) w a n c L) (l:g<=n) (m:w.heap[i]? =some (.cells (aE x.x x.a x.n x.c).toArray 59 (0,0))) (o:aI a≠some i) (s:L.length<=20000000):
  Calls ZQ 232 #[.slice a n c,QH (g:Int),.slice (some ⟨i,0,none⟩) 1 1] w (Ok λp w'=>∃e h,p= .slice e (n+1) h/\aV qE.k_ 59 (λb=>aI e=some b) w' e (n+1) h (L.take g++x::L.drop g)/\aj (λb=>aI a=some b) w w'/\∀b,aI e=some b->aI a=some b\/w.heap.size<=b):=by
 refine gH (IY.one (c:=qE.k_) (tb:=4) (x:=x) (D:=λ_=>False) xH kR ?_ k l m ⟨rfl,trivial⟩ (λb d=>d.elim) o (by unfold aQ;omega) (by unfold maxLen;omega) λe h w' t f q r=>Ok.mk ⟨e,h,rfl,aV.alone f,q,λb d=>?_⟩)
 ·intro j w
  rw [run_callFunc_extern Tryz.func285 kR kR kR (e:=Extern.SlicesOverlaps.overlaps #[50,50] #[4]) kR]
 ·rcases r b (f.self b d)with d|d|d
  ·exact .inl d
  ·exact d.elim
  ·exact .inr d
theorem VH {d:Nat} (f:aV qE.k_ 59 (λb=>aI a=some b) w a n c L) (g:d<n) (j:n<=20000000):
  Calls ZQ 238 #[.slice a n c,QH (d:Int),QH (IntKind.wrap .i64 ((d:Int)+1))] w (Ok λh w'=>h= .slice a (n-1) c/\aV qE.k_ 59 (λb=>aI a=some b) w' a (n-1) c (L.eraseIdx d)/\aj (λb=>aI a=some b) w w'):=
 gI (IZ.one (c:=qE.k_) (tz:=0) xH kR f g (by unfold maxLen;omega) λw' e i=>Ok.mk ⟨rfl,e,i⟩)
theorem Lm (g:ij w p M D most l) {e:ah} {en ec:Nat} (P:Row aP 8 w E d en e.aK) (hE:∀b,E b->b<w.heap.size) (he:e.Ok):
  Calls ZQ 166 #[.pointer (some ⟨p,0,none⟩),kK e d en ec] w (Ok λQ w'=>Q= .bool (dQ most l e).1/\∃q r,ij w' p q r most (dQ most l e).2/\aj M w w'/\(∀b,q b->M b\/w.heap.size<=b)/\∀b,r b->D b\/w.heap.size<=b):=by
 have b3:=g;obtain⟨C,a,n,c,L,g⟩:=g;have d7:L.length=l.length:=by rw [<-g.map,Q8]
 have hn:n=L.length:=g.pG.len dC;have d8:=g.dM p g.mp;have d9:=C.2.le;have k:(L.any λb=>aO b.x==aO e)=l.any (λj=>aO j==aO e):=by rw [<-g.map,List.any_map];rfl
 refine sV (PA.mk λc5 b4 e0 b5=>λR c6=>⟨λ_=>False,?_⟩);have S:ai c5 R:=c6.keep;have o:ai w R:=b4.then S;have T:=o.get g.at' id;have no:(dQ most l e)=(false,l)->∀U,ai w U->Ok (λQ w'=>Q= .bool (dQ most l e).1/\∃q r,ij w' p q r most (dQ most l e).2/\aj M w w'/\(∀b,q b->M b\/w.heap.size<=b)/\∀b,r b->D b\/w.heap.size<=b) (.returned (.bool false)) U:=λhq U k1=>
  Ok.mk ⟨by rw [hq],M,D,by rw [hq];exact b3.af k1,ai.keep k1,λb f=>.inl f,λb f=>.inl f⟩
 refine⟨p,0,rfl,_,_,_,ae T rfl,p,0,rfl,_,ae T rfl,al.dec (λe1=>no (by unfold dQ;rw [if_pos (.inl oM)]) R o) (λe2=>⟨p,0,rfl,id,_,_,_,ae T rfl,aj.refl _,PC.ok (Ll (E:=λb=>aI a=some b) (((g.pG.af o).row (bytes:=96) dC (by unfold aQ;omega))) (λb f=>by have:=(g.pG.aF b f);have:=o.size;omega) (S.get b5 id)) ?_⟩)⟩;rintro _ b6 ⟨rfl,F⟩;refine⟨_,rfl,F,al.mk (λs=>no (by unfold dQ;rw [if_pos (.inr (k▸s))]) b6 (o.then F)) (λs=>?_)⟩;have H:=o.then F;have b7:dQ most l e=(true,dO e l):=by unfold dQ;rw [if_neg (by rw [<-k];rintro(h|h);omega;rw [s]at h;cases h)]
 have c7:∀j∈l,aO j≠aO e:=by
  rw [k]at s;simpa [List.any_eq_false]using s
 have V:=(S.then F).get b5 id;refine⟨_,_,_,ae V rfl,PC.ok (cH (P.af H) λb f=>by have:=hE b f;have:=H.size;omega) ?_⟩;rintro _ b8 ⟨I,J,K,G,rfl,W,X,Y⟩;have e3:=H.size;have e4:=X.size;refine⟨_,_,_,rfl,PS.mk (X.get V id) (by simp [aE]) λZ a9 e5 c8=>λN b9=>?_⟩;have t:ai Z N:=b9.keep;have e6:N.heap.size=Z.heap.size:=by rw [b9.heap]
 have a0:Z.heap[w.heap.size]? =some (.cells (aE e I J K).toArray 59 (0,0)):=c8;have a1:ai w N:=((H.then X).new a9 λb f=>.inr (by have f:b=w.heap.size:=f;omega)).then t;have b0:=g.keep a1 (λ_ _ g=>g) λ_ _ g=>g;have c0:VF (L.map (·.x)):=by rw [g.map];exact C.2.Rz
 refine⟨p,0,rfl,_,_,_,ae b0.at' rfl,aw (bg e I J K) (t.get a0 id) (PC.ok (Ej (b0.pG.row (bytes:=96) dC (by unfold aQ;omega)) c0) ?_)⟩;rintro _ e7 ⟨a4,rfl,c9⟩;refine⟨_,_,rfl,λd0 d1=>⟨λ_=>False,?_⟩⟩;have u:ai N d0:=c9.then d1.keep;have a2:=a1.then u;have c1:=b0.keep u (λ_ _ g=>g) λ_ _ g=>g;have i:=u.get (t.get a0 id) id;have d6:=Bp (λb:Bx ah=>fg b.x e) L;refine⟨p,0,rfl,id,_,_,_,ae c1.at' rfl,_,_,_,_,_,_,_,_,_,_,_,_,ae i rfl,ae i rfl,ae i rfl,ae i rfl,ae i rfl,ae i rfl,ae i rfl,ae i rfl,ae i rfl,ae i rfl,PA.mk λd2 v e8 d3=>⟨v,?_⟩⟩;have c3:=c1.keep v (λ_ _ g=>g) λ_ _ g=>g;have e9:=a2.size;refine PC.ok (VG (x:=⟨e,I,J,K⟩) c3.pG oM d3 (λe=>by have:=g.pG.aF _ e;omega) oM) ?_;rintro _ f2 ⟨a',c',rfl,a3,x,y⟩;have b1:¬aI a=some p:=λe=>(g.ma p e).2 rfl;have f3:=x.size;refine⟨_,_,_,rfl,p,0,rfl,PS.mk (x.get c3.at' b1) sM λd4 O f4 d5=>?_⟩;have z:aj M w d4:=((ai.keep (a2.then v)).then (x.mono λb _ f=>(g.ma b f).1)).then (O.mono λb _ e=>by have e:b=p:=e;exact e▸g.mp);refine Ok.mk ⟨by rw [b7],λb=>M b\/aI a'=some b,λb=>D b\/G b,⟨⟨C.1,C.2.add he⟩,a',n+1,c',L.take (posOf (λb=>fg b.x e) L)++⟨e,I,J,K⟩::L.drop (posOf (λb=>fg b.x e) L),d5,?_,?_,?_,?_,.inl g.mp,?_,?_⟩,?_,?_,?_⟩
 ·refine a3.keep O λb f e=>?_
  have e:b=p:=e;rcases y b f with h|h
  ·exact b1 (e▸h)
  ·omega
 ·rw [b7]
  have c4:posOf (λj=>fg j e) l=posOf (λb:Bx ah=>fg b.x e) L:=by
   unfold posOf;rw [<-g.map,List.takeWhile_map,Q8];rfl
  show _=dO e l;rw [Fy c7,c4,Q3,QY,List.map_take,List.map_drop,g.map]
 ·have b2:∀b,G b->b6.heap.size<=b/\b<b8.heap.size:=λb f=>⟨Y b f,W.aF b f⟩
  intro j m;rcases Q6.1 m with m|m
  ·exact((g.Pa j (List.mem_of_mem_take m)).keep z λb f=>(g.dD b f).2).mono λb f=>.inl f
  rcases Q2.1 m with rfl|m
  ·refine⟨(((((W.keep a9 λb f e=>?_).af t).af (u.then v)).keep x λb f e=>?_).keep O λb f e=>?_).row (bytes:=8) dC (by rw [<-P.len];exact P.d_)|>.mono λb f=>.inr f,he⟩
   ·have e:b=w.heap.size:=e;have:=b2 b f;have:=aC V;omega
   ·have:=g.pG.aF b e;have:=b2 b f;omega
   ·have e:b=p:=e;have:=b2 b f;omega
  ·exact((g.Pa j (List.mem_of_mem_drop m)).keep z λb f=>(g.dD b f).2).mono λb f=>.inl f
 ·intro b f
  have hz:b8.heap.size<=d2.heap.size:=by have:=a9.size;have:=t.size;have:=u.size;have:=v.size;omega
  rcases f with f|f
  ·have h:=g.dD b f
   refine⟨by have:=z.size;omega,λA=>A.elim h.2 λe=>?_⟩;rcases y b e with B|B
   ·exact h.2 (g.ma b B).1
   ·omega
  ·have h:=W.aF b f;have h3:=Y b f
   have f5:=b4.size;refine⟨by have:=x.size;have:=O.size;omega,λA=>?_⟩;rcases A with A|e
   ·have:=g.dM b A;omega
   rcases y b e with B|B
   ·have:=g.pG.aF b B;omega
   ·omega
 ·intro b f
  refine⟨.inr f,λe=>?_⟩;rcases y b f with h|h
  ·exact b1 (e▸h)
  ·omega
 ·intro b f
  rcases f with f|f
  ·have:=g.dM b f;have:=z.size;omega
  ·have:=a3.aF b f;omega
 ·exact z
 ·intro b f
  rcases f with f|f
  ·exact .inl f
  rcases y b f with h|h
  ·exact .inl (g.ma b h).1
  ·exact .inr oM
 ·intro b f
  rcases f with f|f
  ·exact .inl f
  ·exact .inr (by have:=Y b f;omega)
end
end Go.Proofs.YtfchlbaidamodaaGreatDoor
namespace Go.ax
open Go
variable{E a c i l:Nat}{f:Nat->Prop}{d:Option Addr}{h:Program}{j:Type}{g q:TypeId}{b:World}{y:World->Prop}
theorem aV.TJ {k:Nat} {e:j->List Value} {p:j->Prop} {hl h1} {m:List j} {x:j} 
  (n:aV (flat k e p hl h1) q f b d a c m) (A:E<m.length) (B:0<k) (C:p x) (F:d=some ⟨i,l,none⟩) (H:jg h g (e x)=true)
  (r:∀o,aV (flat k e p hl h1) q f o d a c (m.set E x)->aj (λi=>aI d=some i) b o->o.heap.size=b.heap.size->y o):xJ h g (.pointer (some ⟨i,l+E*k,none⟩)) (.agg (e x).toArray) b y:=by
 have M:=n.len B;obtain⟨cs,D,t,I,u⟩:=n.body;have N:cs.length=a*k:=t.length;have O:(E+1)*k<=a*k:=Q0 _ oM;have J:(E+1)*k=E*k+k:=by rw [X7,Nat.one_mul]
 refine t.store (m:=E*k) F H (by rw [hl];omega) λK L v w=>r K ⟨⟨_,D,L,?_,u⟩,n.self,λi s=>by rw [w];exact n.aF i s⟩ v w;have z:=I.keep v λi s=>(u i s).2;rw [hl,<-J,show m.set E x=m.take E++[x]++m.drop (E+1) by rw [XQ,List.singleton_append];exact List.set_eq_take_append_cons_drop .. |>.trans (if_pos A)];exact bT.append (bT.append (z.take E) (bT.one ⟨rfl,C⟩)) (z.drop (E+1))
end Go.ax
namespace Go.Proofs.YtfchlbaidamodaaGreatDoor
open Go.ax
variable{U r:Array Value}{z:FuncId}{a4 f:Nat->Prop}{d:Option Addr}{A:aq}
section
variable {w w':World} {p:Nat} {M D T E:Nat->Prop} {most:Nat} {l:List ah} {a:Option Addr} {n c:Nat} {L:List (Bx ah)}
theorem Pb {pr:ah->Bool} (I:enters ZQ z=true) (o:aV qE.k_ 59 (λb=>aI a=some b) w a n c L) (hl:L.length<=20000000)
  (J:∀(b:Bx ah) f,aj (λb=>aI a=some b) w f->Calls ZQ z (r++ #[kK b.x b.a b.n b.c]++U) f (Ok λt w'=>t= .bool (pr b.x)/\ai f w')):
  Calls ZQ 235 #[.slice a n c,.func (.func z) r U] w (Ok λt w'=>∃p,t= .slice a p c/\aV qE.k_ 59 (λb=>aI a=some b) w' a p c (L.filter λb=>!pr b.x)/\aj (λb=>aI a=some b) w w'):=by
 have hn:=o.len dC;have b6:=o.jx;have q:∀{f:World} {g:List (Bx ah)},aV qE.k_ 59 (λb=>aI a=some b) f a n c g->g.length=L.length->Row qE.k_ 96 f (λb=>aI a=some b) a n g:=λ{f g} Z b7=>Z.row dC (by unfold aQ;omega);refine fN (PC.ok (Bs (E:=λb=>aI a=some b) (L:=L) I (λe f=>(∀b∈L.take e,pr b.x=false)/\ai w f) (λe f=>(∀b∈L.take e,pr b.x=false)/\(∀b,L[e]? =some b->pr b.x=true)/\ai w f) ⟨sM,aj.refl _⟩ (λe f h1=>(q o rfl).af h1.2) ?_) ?_)
 ·rintro e b f i ⟨j,B⟩
  refine(J b f (ai.keep B)).mono ?_;rintro _ w2 ⟨t,rfl,rfl,K⟩;refine Ok.mk ?_
  cases M:pr b.x
  ·refine .inr ⟨rfl,λN h=>?_,B.then K⟩
   rw [Qw,i]at h;rcases Q6.1 h with h|h
   ·exact j N h
   ·simp at h;subst h;exact M
  ·exact .inl ⟨rfl,j,λN h=>by rw [i]at h;cases h;exact M,B.then K⟩
 rintro _ w4 (⟨l,b8,rfl,j,a0,s⟩|⟨rfl,j,s⟩)
 rotate_left
 ·refine⟨_,rfl,al.tt sM (Ok.mk ⟨n,rfl,?_,ai.keep s⟩)⟩
  rw [Qz oM]at j;rw [List.filter_eq_self.2 λb i=>by rw [j b i];rfl];exact o.af s
 have O:L[l]? =some L[l]:=Qq oM;have a8:(L.take (l+1)).filter (λb=>!pr b.x)=L.take l:=by
  rw [Qw,O,List.filter_append,List.filter_eq_self.2 λb i=>by rw [j b i];rfl];simp [a0 _ O]
 refine⟨_,rfl,al.ff sM ⟨λp m e w'=>∃(C k:Nat) (g:List (Bx ah)),m=C/\e=k/\C<k/\k<=n/\p=n-k/\aV qE.k_ 59 (λb=>aI a=some b) w' a n c g/\g.length=L.length/\g.take C=(L.take k).filter (λb=>!pr b.x)/\g.drop k=L.drop k/\aj (λb=>aI a=some b) w w',
  ⟨_,l,l+1,L,rfl,an oM,oM,oM,rfl,o.af s,rfl,a8.symm,rfl,ai.keep s⟩,?_⟩⟩
 rintro p _ _ _ P ⟨m,e,g,rfl,rfl,b9,c0,rfl,u,E,v,Q,x⟩;refine al.dec (λc1=>?_) (λc2=>?_)
 ·have y:L[e]? =some L[e]:=Qq oM
  have R:g[e]? =some L[e]:=by
   have:=congrArg (·[0]?) Q;simp only [List.getElem?_drop,Nat.add_zero]at this;rw [this,y]
  have S:g.drop (e+1)=L.drop (e+1):=by
   have:=congrArg (List.drop 1) Q
   rwa [List.drop_drop,List.drop_drop]at this
  generalize L[e]=d at y R;obtain⟨b,T,es,F,c3,c4,a9,rfl,-⟩:=(q u E).el e d R;refine⟨b,T,F,oM,oM,br (es:=aE d.x d.a d.n d.c) (k:=10) (bg _ _ _ _) rfl (λa1 ht=>by rw [Qx];exact a9 a1 ht) (PA.mk λc5 b0 c6 b1=>aD (bg d.x d.a d.n d.c) b1 rfl λV b2 c7 W=>aw (bg d.x d.a d.n d.c) W ⟨_,_,_,rfl,I,?_⟩)⟩;have X:ai P V:=b0.new b2 λb i=>.inr (by have i:b=P.heap.size:=i;omega);refine PC.ok (J d V (x.af X)) ?_;rintro _ c8 ⟨rfl,Y⟩;have A:=X.then Y;refine⟨_,rfl,al.not (al.mk (λH=>⟨_,?_,m,e+1,g,rfl,an oM,oM,oM,rfl,u.af A,E,?_,S,x.af A⟩) (λH=>?_))⟩
  ·omega
  ·rw [v,Qw,y,List.filter_append]
   simp [H]
  ·refine aw (bg d.x d.a d.n d.c) (Y.get W id) ⟨b,T,F,oM,oM,?_⟩
   rw [Qx];refine aV.TJ (x:=d) (k:=10) (u.af A) oM dC trivial F (bg d.x d.a d.n d.c) λc9 a7 b3 d0=>⟨_,?_,m+1,e+1,g.set m d,an oM,an oM,oM,oM,rfl,a7,by simpa using E,?_,?_,(x.af A).then b3⟩
   ·omega
   ·rw [Qw (l:=L),y,List.filter_append,<-v,Qw,List.getElem?_set_self oM,List.take_set_of_le (Q4 _)]
    simp [H]
   ·rw [List.drop_set_of_lt oM,S]
 ·obtain rfl:e=n:=oM
  rw [Qz (l:=L) oM]at v;refine⟨oM,oM,?_⟩;rw [Qx];refine Bm xH kR u oM λd1 b4 b5 d2=>⟨oM,oM,Ok.mk ⟨m,rfl,?_,x.then b5⟩⟩
  rw [<-v];exact b4
theorem Pc {c e:Nat} (m:cV w c f A) (n:w.heap[e]? =some (.cells #[.pointer (some ⟨c,0,none⟩)] 96 (0,0))) {b:ah} {o p:Nat}:
  Calls ZQ 233 #[kK b d o p,.pointer (some ⟨e,0,none⟩)] w (Ok λq w'=>q= .bool (A.get (aO b)).isSome/\ai w w'):=by
 refine nj (PA.mk λx a y g=>⟨_,ae (a.get n id) rfl,_,_,ae g rfl,ae g rfl,PC.ok (TK (m.af a) (aO b)) ?_⟩);rintro _ r ⟨h,i,j,G,rfl,z,B,k⟩;exact cu (sW _ h i j) ⟨_,rfl,PA.mk λC s E t=>aD (bg _ h i j) t rfl λF u H I=>Ok.mk ⟨rfl,((a.then k).then s).new u λv l=>.inr (by have l:v=r.heap.size:=l;have:=a.size;have:=k.size;omega)⟩⟩
theorem Pd {h j:Nat} (n:cV w h f A) (o:w.heap[j]? =some (.cells #[.pointer (some ⟨h,0,none⟩)] 96 (0,0))) {b:ah} {i k:Nat}
  (p:Row aP 8 w a4 d i b.aK) (l:∀a,a4 a->a<w.heap.size/\¬f a) (q:b.Ok) (u:A.l.length<=20000000):
  Calls ZQ 236 #[kK b d i k,.pointer (some ⟨j,0,none⟩)] w (Ok λr w'=>r= .bool (decide ((A.add b).1=0))/\∃e,cV w' h e (A.add b).2/\de f w e w'):=by
 refine nk (PA.mk λv c x s=>⟨_,ae (c.get o id) rfl,aw (bg b d i k) s (PC.ok (vH (n.af c) (p.af c) (λa g=>⟨by have:=(l a g).1;omega,(l a g).2⟩) q oM) ?_)⟩);rintro _ y ⟨rfl,e,t,m⟩;have:=c.size;exact⟨_,rfl,Ok.mk ⟨by congr 1,e,t,(ai.keep c).then m.keep,λa g=>(m.new a g).imp id oM⟩⟩
end
end Go.Proofs.YtfchlbaidamodaaGreatDoor

namespace Go.Proofs.YtfchlbaidamodaaGreatDoor
open Go.ax
variable{f:Nat->Prop}{d:Option Addr}{b:World}{A:aq}
section
variable {w w':World} {p:Nat} {M D E:Nat->Prop} {most:Nat} {l:List ah} {a:Option Addr} {n c:Nat} {L:List (Bx ah)}
structure TA (w:World) (p:Nat) (M:Nat->Prop) (most:Nat) (a:Option Addr) (c s tb:Nat) (T:aq) (nc:Nat) (Lc:List (Bx ah)) (oa:Option Addr) (on oc:Nat) (Lo:List (Bx ah)) (w1:World):Prop where
 set:∃F1,cV w1 s F1 T/\(∀b,F1 b->w.heap.size<=b/\b≠tb)/\∀b,aI oa=some b->w.heap.size<=b/\¬F1 b/\b≠tb
 ptr:w1.heap[tb]? =some (.cells #[.pointer (some ⟨s,0,none⟩)] 96 (0,0))
 buf:w1.heap[p]? =some (.cells #[QH (most:Int),.slice a nc c] 146 (0,0))
 pG:aV qE.k_ 59 (λb=>aI a=some b) w1 a nc c Lc
 out:aV qE.k_ 59 (λb=>aI oa=some b) w1 oa on oc Lo
 keep:aj M w w1
theorem yW (j:Rw w p M D most l a n c L) {s m:Nat} {k:Nat} {h:List (Bx ah)} {t u:Nat} {v:List (Bx ah)} (J:TA w p M most a c s m A k h d t u v b) (P:∀e∈h,e∈L) (R:A.l.length<=20000000) (a6:h.length<=20000000):
  Calls ZQ 237 #[.slice a k c,.func (.func 236) #[] #[.pointer (some ⟨m,0,none⟩)]] b (Ok λC w'=>
   (C= QH (-1)/\(∀e∈h,(A.add e.x).1≠0)/\TA w p M most a c s m A k h d t u v w')\/
   (∃i e,i<k/\C= QH (i:Int)/\h[i]? =some e/\(∀y∈h.take i,(A.add y.x).1≠0)/\(A.add e.x).1=0/\TA w p M most a c s m (A.add e.x).2 k h d t u v w')):=by
 have S:=j.dM p j.mp;have a7:=J.pG.len dC;have T:∀e,aI a=some e->e<w.heap.size:=λe f=>j.dM e (j.ma e f).1;refine(Bs (E:=λe=>aI a=some e) (L:=h) kR (λi o=>(∀e∈h.take i,(A.add e.x).1≠0)/\TA w p M most a c s m A k h d t u v o) (λi o=>∃e,h[i]? =some e/\(∀y∈h.take i,(A.add y.x).1≠0)/\(A.add e.x).1=0/\TA w p M most a c s m (A.add e.x).2 k h d t u v o) ⟨sM,J⟩
  (λi o g=>g.2.pG.row dC (by unfold aQ;omega)) ?_).mono ?_
 ·rintro i e o f ⟨K,g⟩
  obtain⟨U,V,z,E⟩:=g.set;have N:=(j.Pa e (P e (QZ f))).keep g.keep λe f=>(j.dD e f).2;have z2:=g.keep.size;refine(Pd V g.ptr N.1 (λe f=>⟨by have:=(j.dD e f).1;omega,λq=>by have:=(j.dD e f).1;have:=(z e q).1;omega⟩) N.2 R).mono ?_;rintro _ W ⟨C,rfl,rfl,X,Y,r⟩;have O:∀e,e<w.heap.size->¬U e:=λe f q=>by have:=(z e q).1;omega
  have Z:=aC g.ptr;have H:∀e,aI d=some e->e<o.heap.size:=λe f=>g.out.aF e f;have I:TA w p M most a c s m (A.add e.x).2 k h d t u v W:=⟨⟨X,Y,λe f=>(r.new e f).elim (z e) λB=>⟨oM,oM⟩,λe f=>⟨(E e f).1,λq=>(r.new e q).elim (E e f).2.1 λB=>by have:=H e f;omega,(E e f).2.2⟩⟩,
   r.keep.get g.ptr λq=>(z _ q).2 rfl,r.keep.get g.buf (O p S),g.pG.keep r.keep λe f=>O e (T e f),g.out.keep r.keep λe f=>(E e f).2.1,g.keep.new r.keep λe f=>.inr (z e f).1⟩
  refine Ok.mk ?_
  by_cases x:(A.add e.x).1=0
  ·exact .inl ⟨by rw [decide_eq_true x],e,f,K,x,I⟩
  ·refine .inr ⟨by rw [Xv x],λy Q=>?_,?_⟩
   ·rw [Qw,f]at Q
    rcases Q6.1 Q with Q|Q
    ·exact K y Q
    ·simp at Q;subst Q;exact x
   ·rcases A.gg e.x with⟨-,B⟩|⟨B,-⟩
    ·rw [B]at I;exact I
    ·rw [B]at x;exact absurd rfl x
 ·rintro _ o ⟨C,rfl,hv⟩
  rcases hv with⟨i,hj,rfl,e,F,g,h3,h4⟩|⟨rfl,F,g⟩
  ·exact Ok.mk (.inr ⟨i,e,hj,rfl,F,g,h3,h4⟩)
  ·rw [Qz oM]at F
   exact Ok.mk (.inl ⟨rfl,F,g⟩)
theorem GW (d7:ij w p M D most l) {b3:Nat} (hs:cV w b3 f A) (g2:A.Cl) (k1:A.l.length<=19000000):
  Calls ZQ 167 #[.pointer (some ⟨p,0,none⟩),.pointer (some ⟨b3,0,none⟩)] w (Ok λd9 w'=>∃r B F m,d9= .slice r B F/\aV qE.k_ 59 (λb=>aI r=some b) w' r B F m/\m.map (·.x)=(bI A l).1/\(∀b∈m,qE.In w' D b)/\(∀b,aI r=some b->w.heap.size<=b)/\
   ij w' p M D most (bI A l).2/\aj M w w'):=by
 obtain⟨W,a,n,c,L,h⟩:=d7;have g3:=h.dM p h.mp;have X:∀b,aI a=some b->b<w.heap.size:=λb d=>h.dM b (h.ma b d).1;have k2:L.length=l.length:=by rw [<-h.map,Q8]
 have h2:l.length<=256:=Xx W.2.le W.1;have hN:=hs.1.n;refine pS (PC.ok (mi hs) ?_);rintro _ w4 ⟨va,vn,vc,Fv,rfl,g5,k4,k3⟩;have d1:=g5.len dC;rw [A.b_]at d1;subst d1;refine⟨_,_,_,rfl,PC.ok (GX hN) ?_⟩;rintro _ C ⟨H,F2,rfl,d2,d3,k7⟩;have z4:=k4.size;have z7:=k7.size;refine⟨_,rfl,PA.mk λw9 k9 s9 g9=>PS.mk g9 sM λg6 g7 k5 g8=>?_⟩;have a1:ai C g6:=k9.new g7 λb d=>.inr (by have d:b=C.heap.size:=d;omega);have b4:=(k4.then k7).then a1;have Y:=d2.aF;refine PC.ok (sD (hs.af b4) oM) ?_;rintro _ Z ⟨ea,en,ec,G,rfl,b9,a6,hG⟩;have k6:=b9.len dC;have k8:=a1.size;have l0:=a6.size;have e6:Row fZ 96 Z G ea en A.l:=b9.row dC (by unfold aQ;omega);have h4:Z.heap[C.heap.size]? =some (.cells #[.pointer (some ⟨H,0,none⟩)] 96 (0,0)):=a6.get g8 id;have d5:=b9.aF;refine⟨_,_,_,rfl,λR a2 w'=>∃(g:Nat) (S:Nat->Prop),a2=g/\g<=en/\R=en-g/\cV w' H S ((⟨A.n,[]⟩:aq).eI (A.l.take g))/\(∀b,S b->F2 b\/Z.heap.size<=b)/\aj F2 Z w',⟨_,0,F2,rfl,Qj _,rfl,d2.af (a1.then a6),λb d=>.inl d,aj.refl _⟩,?_⟩;rintro R _ _ a7 ⟨g,S,rfl,hj,rfl,a8,a9,T⟩;have l3:=T.size;have c0:=T.get h4 λI=>by have:=Y _ I;omega
 refine al.dec (λl4=>?_) (λl5=>?_)
 ·have N:A.l[g]? =some A.l[g]:=Qq oM
  generalize A.l[g]=O at N;have e7:=e6.keep T λb d I=>by have:=Y _ I;have:=hG b d;omega
  obtain⟨b,f0,es,ha,l6,l7,c1,xa,xn,xc,rfl,h6,f1⟩:=e7.el g O N;refine⟨b,f0,ha,oM,oM,br (es:=aE O xa xn xc) (k:=10) (bg _ _ _ _) rfl (λa2 ht=>by rw [Qx];exact c1 a2 ht) (PA.mk λl8 h7 l9 h8=>aD (bg O xa xn xc) h8 rfl λh9 i1 m1 i3=>?_)⟩;have P:ai a7 h9:=h7.new i1 λb d=>.inr (by have d:b=a7.heap.size:=d;omega);have c2:=aq.np (A.l.take g) ⟨A.n,[]⟩;rw [Qy]at c2;simp only [List.length_nil]at c2;refine⟨_,ae (P.get c0 id) rfl,aw (bg O xa xn xc) i3 (PC.ok (vH (a8.af P) (h6.af P) (λb d=>⟨by have:=d5 b d;have:=P.size;omega,λI=>?_⟩) f1 oM) ?_)⟩
  ·rcases a9 b I with k|k
   ·have:=Y _ k;have:=hG b d;omega
   ·have:=d5 b d;omega
  rintro _ i4 ⟨rfl,F3,i5,d8⟩;refine⟨_,rfl,_,oM,g+1,F3,an oM,oM,rfl,?_,λb d=>?_,?_⟩
  ·rw [Qw,N]
   show cV i4 H F3 (aq.eI _ (A.l.take g++[O]));rw [aq.nq];exact i5
  ·rcases d8.new b d with k|k
   ·exact a9 b k
   ·have:=P.size;exact .inr oM
  ·exact(T.af P).new d8.keep λb d=>a9 b d
 rw [Qz oM,g2.VI]at a8;have b5:ai w a7:=(b4.then a6).new T λb d=>.inr (by have:=d3 b d;omega);have c3:=h.keep b5 (λ_ _ h=>h) λ_ _ h=>h;have t:∀b,S b->w.heap.size<=b/\b≠C.heap.size:=λb d=>by
  rcases a9 b d with k|k
  ·have:=d3 b k;have:=Y b k;omega
  ·omega
 refine⟨p,0,rfl,_,_,_,ae c3.at' rfl,PC.ok (Pb (pr:=λe=>(A.get (aO e)).isSome) kR c3.pG oM λb w1 hk=>?_) ?_⟩
 ·refine Pc (a8.keep hk λb d e=>?_) (hk.get c0 λe=>?_)
  ·have:=X b e;have:=(t b d).1;omega
  ·have:=X _ e;omega
 rintro _ m2 ⟨m0,rfl,f5,e0⟩;have b0:¬aI a=some p:=λe=>(h.ma p e).2 rfl;refine⟨_,_,_,rfl,p,0,rfl,PS.mk (e0.get c3.at' b0) sM λe1 e2 m3 e3=>⟨p,0,rfl,_,_,_,ae e3 rfl,?_⟩⟩;obtain⟨u,z⟩:∃u,u=L.filter λb=>!(A.get (aO b.x)).isSome:=⟨_,rfl⟩
 have a3:aj (λb=>aI a=some b\/b=p) a7 e1:=(e0.mono λb _ d=>.inl d).then (e2.mono λb _ d=>.inr d);have VJ:∀b,aI a=some b\/b=p->b<w.heap.size:=λb d=>d.elim (X b) λe=>e▸g3;have e4:TA w p M most a c H C.heap.size A m0 u none 0 0 [] e1:=by
  refine⟨⟨S,a8.keep a3 λb d e=>by have:=VJ b e;have:=(t b d).1;omega,t,λb d=>by cases d⟩,a3.get c0 λe=>by have:=VJ _ e;omega,e3,?_,(aV.nil _).mono (λb d=>d.elim) λb d=>(by cases d),?_⟩
  ·rw [z];exact f5.keep e2 λb d e=>b0 (by have e:b=p:=e;rw [<-e];exact d)
  ·exact(ai.keep b5).then (a3.mono λb _ d=>d.elim (λe=>(h.ma b e).1) λe=>e▸h.mp)
 have b6:∀b∈u,b∈L:=λb d=>by rw [z]at d;exact(List.mem_filter.1 d).1
 have a4:u.map (·.x)=l.filter λe=>(A.get (aO e)).isNone:=by
  rw [z,<-h.map,List.filter_map]
  congr 1
  refine List.filter_congr λb d=>?_;show(!(A.get (aO b.x)).isSome)=(A.get (aO b.x)).isNone
  cases A.get (aO b.x)<;>rfl
 have b7:u.length<=L.length:=by rw [z];exact List.length_filter_le ..
 refine PC.ok (yW h e4 b6 oM oM) ?_;rintro i6 m4 b8;obtain⟨i0,i7⟩:∃v:Int,i6= QH v:=by
  rcases b8 with⟨o,-⟩|⟨g,b,-,o,-⟩
  ·exact⟨_,o⟩
  ·exact⟨_,o⟩
 subst i7;refine⟨_,rfl,λR r B F v w'=>∃(s:aq) (i m:List (Bx ah)) (E U:Nat),R=i.length/\(∀b∈i,b∈L)/\(∀b∈m,b∈L)/\(i.map (·.x)).Sublist l/\i.length<=U/\s.l.length+i.length<=A.l.length+L.length/\i.length<=L.length/\m.length+i.length<=L.length/\E=i.length/\
   cW (U+1) s (i.map (·.x)) (m.map (·.x))=bI A l/\
   ((v= -1/\(∀b∈i,(s.add b.x).1≠0)/\TA w p M most a c H C.heap.size s E i r B F m w')\/
    (∃g b,g<E/\v=(g:Int)/\i[g]? =some b/\(∀x∈i.take g,(s.add x.x).1≠0)/\(s.add b.x).1=0/\TA w p M most a c H C.heap.size (s.add b.x).2 E i r B F m w')),?_,?_⟩
 ·have i8:=e4.pG.len dC
  refine⟨_,A,u,[],m0,u.length,rfl,b6,sM,by rw [a4];exact List.filter_sublist,Q4 _,oM,b7,by simpa using b7,i8,?_,?_⟩
  ·rw [a4]
   show cW (u.length+1) A _ []=_;unfold bI;rw [<-a4];show _=cW ((u.map (·.x)).length+1) A _ [];rw [Q8]
  ·rcases b8 with⟨o,J,K⟩|⟨g,b,o,J,K⟩
   ·exact .inl ⟨by simpa using o,J,K⟩
   ·exact .inr ⟨g,b,o,by simpa using J,K⟩
 rintro R r B F v _ i9 ⟨s,i,m,E,U,rfl,a5,c5,e5,hk,m5,j9,k0,m6,c6,j0⟩;rcases j0 with⟨rfl,c4,j⟩|⟨g,b,hj,rfl,d,c4,f6,j⟩
 ·refine al.ff sM (Ok.mk ⟨r,B,F,m,rfl,j.out,?_,λb d=>(h.Pa b (c5 b d)).keep j.keep λb d=>(h.dD b d).2,λb d=>by obtain⟨F1,-,-,k⟩:=j.set;exact(k b d).1,⟨⟨W.1,?_⟩,a,E,c,i,j.buf,j.pG,?_,λb d=>(h.Pa b (a5 b d)).keep j.keep λb d=>(h.dD b d).2,λb d=>⟨by have:=(h.dD b d).1;have:=j.keep.size;omega,(h.dD b d).2⟩,h.mp,h.ma,λb d=>by have:=h.dM b d;have:=j.keep.size;omega⟩,j.keep⟩)
  all_goals
   have f8:bI A l=(m.map (·.x),i.map (·.x)):=by
    rw [<-c6];unfold cW;rw [tK λe he=>by obtain⟨b,d,rfl⟩:=Xk.1 he;exact c4 b d]
   rw [f8]
  exact W.2.sub e5
 ·have j1:g<i.length:=oM
  have m7:=j;obtain⟨F1,e8,e9,b1⟩:=j.set;have m8:=j.keep.size;have c2:=s.AU b.x;obtain⟨gb,go,es,ha,m9,n0,c1,rfl,-⟩:=(j.pG.row (bytes:=96) dC (by unfold aQ;omega)).el g b d;have e:=λv (hi:v<10)=>c1 v hi;refine al.dec (λ_=>⟨p,0,rfl,_,_,_,ae j.buf rfl,gb,go,ha,oM,oM,_,_,_,_,_,_,_,_,_,_,_,_,e 0 dC,e 1 dC,e 2 dC,e 3 dC,e 4 dC,e 5 dC,e 6 dC,e 7 dC,e 8 dC,e 9 dC,PA.mk λj2 f2 n1 j3=>?_⟩) (λhn=>oM);have n2:=j.out.len dC;refine fh (c:=qE.k_) (x:=b) (D:=λ_=>False) (j.out.af f2) xH j3 ⟨rfl,trivial⟩ (λb d=>d.elim) (by unfold aQ;omega) (by unfold maxLen;omega) λV b2 f3 Fo c9 j4 j5=>⟨_,_,_,rfl,p,0,rfl,?_⟩
  have f9:=c9.alone;have d0:∀b,aI V=some b->aI r=some b\/j2.heap.size<=b:=λb d=>(j5 b (c9.self b d)).imp id λh=>h.resolve_left id;have q:∀b,aI r=some b->w.heap.size<=b:=λb d=>(b1 b d).1;have Q:aj (λb=>aI r=some b) i9 f3:=(ai.keep f2).then j4;have f4:=Q.get j.buf λe=>by have:=q _ e;omega
  have g4:=j.pG.keep Q λb d e=>by have:=q _ e;have:=X b d;omega
  have n3:=Q.size;refine⟨_,_,_,ae f4 rfl,PC.ok (VH g4 hj oM) ?_⟩;rintro _ n4 ⟨rfl,h0,c7⟩;have n8:=c7.size;refine⟨_,_,_,rfl,p,0,rfl,PS.mk (c7.get f4 b0) sM λf7 g0 n9 g1=>⟨p,0,rfl,_,_,_,ae g1 rfl,?_⟩⟩;have o0:(i.eraseIdx g).length=i.length-1:=List.length_eraseIdx_of_lt j1;have a0:aj (λb=>aI a=some b\/b=p) f3 f7:=(c7.mono λb _ d=>.inl d).then (g0.mono λb _ d=>.inr d);have c8:∀b,w.heap.size<=b->¬(aI a=some b\/b=p):=λb d e=>by have:=VJ b e;omega
  have j6:TA w p M most a c H C.heap.size (s.add b.x).2 (E-1) (i.eraseIdx g) V (B+1) b2 (m++[b]) f7:=by
   refine⟨⟨F1,(e8.keep Q λb d e=>(b1 b e).2.1 d).keep a0 λb d=>c8 b (e9 b d).1,e9,λb d=>?_⟩,a0.get (Q.get j.ptr λe=>(b1 _ e).2.2 rfl) (c8 _ oM),g1,h0.keep g0 λb d e=>b0 (by have e:b=p:=e;rw [<-e];exact d),f9.keep a0 λb d=>c8 b ?_,?_⟩
   ·rcases d0 b d with k|k
    ·exact b1 b k
    ·have hd:=e8.aF
     have o1:=aC j.ptr;exact⟨oM,λI=>by have:=hd b I;omega,oM⟩
   ·rcases d0 b d with k|k
    ·exact q b k
    ·omega
   ·exact(j.keep.new Q λb d=>.inr (q b d)).then (a0.mono λb _ d=>d.elim (λe=>(h.ma b e).1) λe=>e▸h.mp)
  have d4:∀x∈i.eraseIdx g,x∈L:=λx y=>a5 x ((List.eraseIdx_sublist ..).subset y);refine PC.ok (yW h j6 d4 oM oM) ?_;rintro j7 o2 d6;obtain⟨i2,j8⟩:∃v:Int,j7= QH v:=by
   rcases d6 with⟨o,-⟩|⟨g,b,-,o,-⟩
   ·exact⟨_,o⟩
   ·exact⟨_,o⟩
  subst j8;have h1:∃k',U=k'+1:=⟨U-1,oM⟩
  obtain⟨k',rfl⟩:=h1;refine⟨_,rfl,(i.eraseIdx g).length,oM,(s.add b.x).2,i.eraseIdx g,m++[b],E-1,k',rfl,d4,?_,?_,oM,oM,oM,by simp;omega,oM,?_,?_⟩
  ·intro x y
   rcases Q6.1 y with y|y
   ·exact c5 x y
   ·simp at y;subst y;exact a5 x (QZ d)
  ·exact((List.eraseIdx_sublist ..).map _).trans e5
  ·rw [<-c6]
   conv=>rhs;unfold cW
   rw [tL (i:=g) (e:=b.x) (λO N=>by rw [<-List.map_take]at N;obtain⟨x,y,rfl⟩:=Xk.1 N;exact c4 x y) (by rw [Q9,d];rfl) f6];show _=cW (k'+1) (s.add b.x).2 ((i.map (·.x)).eraseIdx g) (m.map (·.x)++[b.x]);rw [map_eraseIdx,Q3];rfl
  ·rcases d6 with⟨o,J,K⟩|⟨g,b,o,J,K⟩
   ·exact .inl ⟨by simpa using o,J,K⟩
   ·exact .inr ⟨g,b,o,by simpa using J,K⟩
end
def yu:fS:=⟨[],[],[6],[],[(6,⟨[0,1,0,4,0,16,0,64,0,256,0,1024,0,4096,0,16384,43690,0,262143],[524287,524286,524287,524283,524287,524271,524287,524223,524287,524031,524287,523263,524287,520191,524287,507903,480597,524287,327679],[0,0,0,2,0,1,0,1,0,1,0,1,0,1,0,1,0,2,2]⟩)]⟩
variable{s:Ending->World->Prop}{e m:Int}{u:List Int}{a c:Nat}{p:Option Addr}{k:World}{L:aR}{b1:cY}{d5:jS}
theorem xM {q r t u v w x i j:Int} (P:PA b (.cells #[.ii q,.ii r,.ii t,.ii u,.ii v,.ii w,.ii x] 49) λe=>PA e (.cells #[.ii 0,.ii 0,.ii 0,.slice none 0 0,.ii 0,.ii 0,.ii 0,.ii 0,.ii 0,.ii 0] 59) λk=>al (decide (i<0)) (St 59 (ab_ e 0) (.agg #[.ii 0,.ii 0,.ii 0,.slice none 0 0,.ii 0,.ii 0,.ii 0,.ii 0,.ii 0,.ii 0]) k λy=>(Ld 59 (ab_ e 0) y λQ=>rt s ((.tuple #[Q,.ii 1])) y)) (al (decide (i>=(a:Int))) (St 59 (ab_ e 0) (.agg #[.ii 0,.ii 0,.ii 0,.slice none 0 0,.ii 0,.ii 0,.ii 0,.ii 0,.ii 0,.ii 0]) k λz=>(Ld 59 (ab_ e 0) z λR=>rt s ((.tuple #[R,.ii 1])) z)) (al (decide (j<0)) (St 59 (ab_ e 0) (.agg #[.ii 0,.ii 0,.ii 0,.slice none 0 0,.ii 0,.ii 0,.ii 0,.ii 0,.ii 0,.ii 0]) k λA=>(Ld 59 (ab_ e 0) A λS=>rt s ((.tuple #[S,.ii 1])) A)) (PC_ 112 #[.slice d a c,.ii i] k (kI_ λl m=>al (l==9223372036854775807) (St 59 (ab_ e 0) (.agg #[.ii 0,.ii 0,.ii 0,.slice none 0 0,.ii 0,.ii 0,.ii 0,.ii 0,.ii 0,.ii 0]) m λB=>(Ld 59 (ab_ e 0) B λT=>rt s ((.tuple #[T,.ii 13])) B)) (al (j==9223372036854775807) (St 59 (ab_ e 0) (.agg #[.ii 0,.ii 0,.ii 0,.slice none 0 0,.ii 0,.ii 0,.ii 0,.ii 0,.ii 0,.ii 0]) m λC=>(Ld 59 (ab_ e 0) C λU=>rt s ((.tuple #[U,.ii 13])) C)) ((∀f,bE m f->∃g:Nat->Prop,(¬g b.heap.size/\(rI f (ab_ b 0) λD=>(¬g b.heap.size/\(rI f (ab_ b (0+1)) λE=>(¬g b.heap.size/\(rI f (ab_ b (0+2)) λF=>(¬g b.heap.size/\(rI f (ab_ b (0+3)) λG=>(¬g b.heap.size/\(rI f (ab_ b (0+4)) λH=>(¬g b.heap.size/\(rI f (ab_ b (0+6)) λI=>((PC_ 108 #[.slice d a c,.slice none 0 0] f (kS_ λV W X h=>(aj g f h/\PA h (.cells #[.ii 0,.ii 0,.ii 0,.slice none 0 0,.ii 0,.ii 0,.ii 0,.ii 0,.ii 0,.ii 0] 59) λn=>(aj g h n/\St 59 (ab_ h 0) (.agg #[.ii 0,.ii 0,.ii (IntKind.wrap .i64 (j+1)),.slice V W X,.ii D,.ii E,.ii F,.ii G,.ii H,.ii I]) n λJ=>(aj g n J/\PS J (ab_ h 0) (.ii i) λY=>PS Y (ab_ h (0+1)) (.ii (IntKind.wrap .i64 (l+1))) λK=>(Ld 59 (ab_ h 0) K λZ=>St 59 (ab_ e 0) Z K λL=>(Ld 59 (ab_ e 0) L λa1=>rt s ((.tuple #[a1,.ii 0])) L)))))) (pZ s))/\(PA f (.cells #[.ii 0,.ii 0,.ii 0,.slice none 0 0,.ii 0,.ii 0,.ii 0,.ii 0,.ii 0,.ii 0] 59) λo=>(aj g f o/\PC_ 108 #[.slice d a c,.slice none 0 0] o (kS_ λa2 a3 a4 p=>(aj g o p/\St 59 (ab_ f 0) (.agg #[.ii 0,.ii 0,.ii (IntKind.wrap .i64 (j+1)),.slice a2 a3 a4,.ii D,.ii E,.ii F,.ii G,.ii H,.ii I]) p λM=>(aj g p M/\PS M (ab_ f 0) (.ii i) λa5=>PS a5 (ab_ f (0+1)) (.ii (IntKind.wrap .i64 (l+1))) λN=>(Ld 59 (ab_ f 0) N λa6=>St 59 (ab_ e 0) a6 N λO=>(Ld 59 (ab_ e 0) O λa7=>rt s ((.tuple #[a7,.ii 0])) O))))) (pZ s)))))))))))))))))))) (pE s))))):Calls ZQ 89 #[.agg #[.ii q,.ii r,.ii t,.ii u,.ii v,.ii w,.ii x],.ii i,.slice d a c,.ii j] b s:=DC yu Tryz.func89 rfl P
def gJ (a:jS):List Value:=[QH a.bd,QH a.agg,QH a.field,QH a.op,QH a.arg,QH a.expect,QH a.key]
abbrev uu (a:jS):Value:=.agg (gJ a).toArray
theorem BF (a:jS):jg ZQ 49 (gJ a)=true:=kR
section
variable {w w':World} {D:Nat->Prop}
theorem En {tn o m q:Nat} (r:eM w) (h:bh w D L d tn p m) (s:∀c,D c->c<w.heap.size):
  Calls ZQ 82 #[.agg #[.slice d tn o,.slice p m q],uu d5] w (Ok λg w'=>g= QH (fB L d5)/\ai w w'):=by
 refine Ae (PA.mk λx t y e=>PA.mk λu n z a=>?_);have e:=n.get e id;have f:=t.then n;have b:(d5.agg<0\/d5.key<0\/d5.expect< -1)->Ok (λg w'=>g= QH (fB L d5)/\ai w w') (.returned (QH 1)) u:=λi=>Ok.mk ⟨by unfold fB;rw [if_pos i],f⟩;refine⟨_,ae a rfl,al.dec (λj=>b (.inl j)) (λj=>⟨_,ae a rfl,al.dec (λk=>b (.inr (.inl k))) (λk=>⟨_,ae a rfl,al.dec (λl=>b (.inr (.inr l))) (λl=>⟨_,_,_,_,_,_,ae e rfl,ae e rfl,_,ae a rfl,_,ae a rfl,_,ae a rfl,_,ae a rfl,PC.ok (yX (r.af f) (h.af f) λc i=>by have:=s c i;omega) ?_⟩)⟩)⟩)⟩;rintro _ A ⟨rfl,v⟩;exact⟨_,rfl,Ok.mk ⟨by unfold fB;rw [if_neg (by rintro(h|h|h);exact j h;exact k h;exact l h)],f.then v⟩⟩
theorem He (c:∀d∈u,aN d) (a:Int):0<=fH u a/\fH u a<=9223372036854775807:=by
 unfold fH;split
 ·omega
 ·by_cases b:a.toNat<u.length
  ·have:=c _ (XY b)
   unfold aN at this;simp only [QQ,Qq b,Option.getD_some];omega
  ·simp only [QQ,Q7 (Nat.le_of_not_lt b),Option.getD_none]
   omega
theorem Pg (a b:List Int):(jo a b).length=max a.length b.length:=by unfold jo;rw [tO]
theorem TS (b c:List Int) (f:∀a∈b,aN a) (g:∀a∈c,aN a):∀a∈jo b c,aN a:=by
 intro a d;unfold jo oC at d;obtain⟨e,-,rfl⟩:=Xk.1 d;have h:=He f e;have i:=He g e;unfold aN;omega
theorem jL (Q:Row aP 8 w D d a u) (hl:m<=9223372036854775807) (hn:u.length<=20000000):
  Calls ZQ 89 #[uu d5,QH e,.slice d a c,QH m] w (Ok λx w'=>∃d a l G,x= .tuple #[kK (a_ d5 e u m).2 d a l,QH (a_ d5 e u m).1]/\Row aP 8 w' G d a (a_ d5 e u m).2.aK/\(∀b,G b->w.heap.size<=b/\b<w'.heap.size)/\ai w w'):=by
 have a9:=Q.len;have B:=Q.uv;refine xM (PA.mk λC k1 s1 L=>PA.mk λM R s2 S=>?_);have L:=R.get L id;have l:=k1.then R;have n:∀{p:World} {no:Int},ai M p->a_ d5 e u m=(no,sY)->xJ ZQ 59 (.pointer (some ⟨C.heap.size,0,none⟩)) (kK sY none 0 0) p λw4=>ow ZQ 59 (.pointer (some ⟨C.heap.size,0,none⟩)) w4 λx=>Ok (λx w'=>∃d a l G,x= .tuple #[kK (a_ d5 e u m).2 d a l,QH (a_ d5 e u m).1]/\Row aP 8 w' G d a (a_ d5 e u m).2.aK/\(∀b,G b->w.heap.size<=b/\b<w'.heap.size)/\ai w w') (.returned (.tuple #[x,QH no])) w4:=λ{p no} E T=>
  aD (bg sY none 0 0) (E.get S id) rfl λw4 o s4 N=>aw (bg sY none 0 0) N (Ok.mk ⟨none,0,0,λ_=>False,by rw [T],by rw [T];exact Row.nil _ _,λb f=>f.elim,(l.then E).new o λb f=>.inr oM⟩)
 refine al.dec (λU=>n (aj.refl _) ?_) (λU=>al.dec (λh2=>n (aj.refl _) ?_) (λh2=>al.dec (λE=>n (aj.refl _) ?_) (λE=>PC.ok (oD (B.af l)) ?_)))
 ·unfold a_;rw [if_pos (.inl U)]
 ·unfold a_;rw [if_pos (.inr (.inl oM))]
 ·unfold a_;rw [if_pos (.inr (.inr E))]
 rintro _ _ ⟨rfl,rfl⟩;have O:¬(e<0\/(u.length:Int)<=e\/m<0):=by rintro(h|h|h)<;>omega
 refine⟨_,rfl,al.dX (λK=>n (aj.refl _) ?_) (λK=>al.dX (λF=>n (aj.refl _) ?_) (λF=>λp V=>?_))⟩
 ·unfold a_;rw [if_neg O,if_pos (.inl K)]
 ·unfold a_;rw [if_neg O,if_pos (.inr F)]
 have W:a_ d5 e u m=(0,⟨e,fH u e+1,m+1,jo u [],d5.bd,d5.agg,d5.field,d5.op,d5.arg,d5.key⟩):=by
  unfold a_;rw [if_neg O,if_neg (by rintro(h|h);exact K h;exact F h)]
 have hg:=He B.AS e;have wl:IntKind.wrap .i64 (m+1)=m+1:=wrap_i64 (by unfold aN;omega);have ws:IntKind.wrap .i64 (fH u e+1)=fH u e+1:=wrap_i64 (by unfold aN;have:fH u e≠9223372036854775807:=K;omega);rw [wl,ws];have H:ai M p:=V.keep;have s3:p.heap.size=M.heap.size:=by rw [V.heap]
 have X:=l.then H;have z:=H.get L id;have Y:=H.get S id;have jl:(jo u []).length<=20000000:=by rw [Pg];simp;omega
 have jI:∀a0∈jo u [],aN a0:=TS u [] B.AS sM;have A:¬(p.heap.size<=w.heap.size):=oM
 have I:∀{w4 s:World} {g:Option Addr} {j k y:Nat},ai w s->Own s 3 1 g j k (ints (jo u []))->(∀b,aI g=some b->p.heap.size<=b/\b≠y)->s.heap[C.heap.size]? =some (.cells (aE sY none 0 0).toArray 59 (0,0))->s.heap[y]? =some (.cells #[QH 0,QH 0,QH (m+1),.slice g j k,QH d5.bd,QH d5.agg,QH d5.field,QH d5.op,QH d5.arg,QH d5.key] 59 (0,0))->p.heap.size<=y->
   PS s ⟨y,0,none⟩ (QH e) λa4=>PS a4 ⟨y,0+1,none⟩ (QH (fH u e+1)) λZ=>ow ZQ 59 (.pointer (some ⟨y,0,none⟩)) Z λa5=>xJ ZQ 59 (.pointer (some ⟨C.heap.size,0,none⟩)) a5 Z λa2=>ow ZQ 59 (.pointer (some ⟨C.heap.size,0,none⟩)) a2 λa6=>Ok (λx w'=>∃d a l G,x= .tuple #[kK (a_ d5 e u m).2 d a l,QH (a_ d5 e u m).1]/\Row aP 8 w' G d a (a_ d5 e u m).2.aK/\(∀b,G b->w.heap.size<=b/\b<w'.heap.size)/\ai w w') (.returned (.tuple #[a6,QH 0])) a2:=λ{w4 s g j k y} F t q hz a7 b0=>by
  refine PS.mk a7 sM λw6 i s6 J=>PS.mk J sM λw7 P s7 g7=>?_;have a8:=P.get (i.get hz oM) oM;refine aw (cs:=aE ⟨e,fH u e+1,m+1,jo u [],d5.bd,d5.agg,d5.field,d5.op,d5.arg,d5.key⟩ g j k) (bg _ _ _ _) g7 (aD (bg _ _ _ _) a8 rfl λw8 k8 s8 g8=>aw (bg _ _ _ _) g8 (Ok.mk ⟨g,j,k,λb=>aI g=some b,by rw [W],?_,λb f=>⟨by have:=q b f;omega,?_⟩,?_⟩))
  ·rw [W]
   have a3:=(((t.keep i (dN.2 λb f v=>(q b f).2 v)).keep P (dN.2 λb f v=>(q b f).2 v)).keep k8 (dN.2 λb f v=>by have:=q b f;omega))
   exact(⟨⟨_,λ_=>False,a3,lq.2 ⟨rfl,jI⟩,λ_ h=>h.elim⟩,λb f=>f,λb f=>a3.lt f⟩:aV aP 3 (λb=>aI g=some b) w8 g j k (jo u [])).row dC (by unfold aQ;omega)
  ·have:=t.lt f;omega
  ·exact((F.new i λb f=>.inr oM).new P λb f=>.inr oM).new k8 λb f=>.inr oM
 refine⟨λb=>p.heap.size<=b,A,_,ae z rfl,A,_,ae z rfl,A,_,ae z rfl,A,_,ae z rfl,A,_,ae z rfl,A,_,ae z rfl,PC.ok (BG ((B.af l).af H) (Ints.nil _)) ?_,PA.mk λw4 o s4 N=>⟨ai.keep o,PC.ok (BG (((B.af l).af H).af o) (Ints.nil _)) ?_⟩⟩
 ·rintro _ w4 ⟨g,j,k,rfl,t,o,q⟩
  have z4:=o.size;refine⟨_,_,_,rfl,ai.keep o,PA.mk λs r s5 g5=>⟨ai.keep r,aD (cs:=[QH 0,QH 0,QH (m+1),.slice g j k,QH d5.bd,QH d5.agg,QH d5.field,QH d5.op,QH d5.arg,QH d5.key]) (bg ⟨0,0,m+1,[],d5.bd,d5.agg,d5.field,d5.op,d5.arg,d5.key⟩ g j k) g5 rfl λw6 i s6 J=>⟨i.mono λb _ v=>oM,I (w4:=w4) (((X.then o).then r).new i λb f=>.inr oM) ((t.af r).keep i (dN.2 λb f v=>by have:=t.lt f;omega)) (λb f=>⟨q b f,by have:=t.lt f;omega⟩) (i.get (r.get (o.get Y id) id) oM) J oM⟩⟩⟩
 ·rintro _ s ⟨g,j,k,rfl,t,r,q⟩
  have z5:=r.size;refine⟨_,_,_,rfl,ai.keep r,aD (cs:=[QH 0,QH 0,QH (m+1),.slice g j k,QH d5.bd,QH d5.agg,QH d5.field,QH d5.op,QH d5.arg,QH d5.key]) (bg ⟨0,0,m+1,[],d5.bd,d5.agg,d5.field,d5.op,d5.arg,d5.key⟩ g j k) (r.get N id) rfl λw6 i s6 J=>⟨i.mono λb _ v=>oM,I (w4:=w4) (((X.then o).then r).new i λb f=>.inr oM) (t.keep i (dN.2 λb f v=>by have:=q b f;omega)) (λb f=>⟨by have:=q b f;omega,by have:=q b f;omega⟩) (i.get (r.get (o.get Y id) id) oM) J oM⟩⟩
end
def uU:fS:=⟨[(3,[(6,.slice none 0 0),(16,QH 0)])],[],[5,12],[],[(5,⟨[0,1,2,4,0,16,40,64,128,128,511,2047],[4095,4094,4093,4091,4095,4079,4055,4031,3967,3967,3839,3583],[0,0,0,1,0,2,2,0,0,0,0,0]⟩),(12,⟨[0,0,2,4,8,0,32,0,208,257,1023],[2047,2047,2045,2043,2039,2047,2015,2047,1839,2046,1791],[0,0,0,0,1,0,2,0,2,0,0]⟩)]⟩
theorem uV (O:PA b (.cells #[.slice p a c] 230) λx=>(rS x (ab_ b 0) λP y c3=>(∃q:Nat->Option Addr->Nat->Nat->Int->World->Prop,(∃f,q f none 0 0 0 x)/\∀(f:Nat) (g:Option Addr) (h:Nat) (i:Nat) (e:Int) (c4:Nat->Value) (j:World),q f g h i e j->al (decide (e<(y:Int))) ((ix_ P e y λQ R=>(rI j (ad Q (R+Int.toNat e)) λk=>(∀l,bE j l->∃r:Nat->Prop,(dr d λz S=>(¬r z/\(rP l (ad z S) λT=>PC_ 120 #[.ii k] l (λU t=>∃A,U= .string A/\(aj r l t/\PC_ 181 #[.pointer T,.string A] t (λV m=>∃W B X C,V= .tuple #[.slice W B X,.ii C]/\(aj r t m/\al (C !=0) (rt s ((.tuple #[.slice g h i,.ii 0])) m) ((dr d λY Z=>(rP m (ad Y Z) λa1=>PC_ 187 #[.pointer a1,.ii k] m (λa2 a3=>∃D E F n,a2= .tuple #[.slice D E F,.ii n]/\PR_ (ap_ 50 (.slice g h i) (.slice D E F)) a3 (kS_ λG H I u=>(dr d λa4 a5=>(rS u (ad a4 (a5+2)) λa6 a7 a8=>PA u (.cells #[.ii k] 3) λa9=>PR_ (ap_ 55 (.slice a6 a7 a8) (.slice (some (ab_ u 0)) 1 1)) a9 (kS_ λb0 b1 b2 b3=>(dr d λb4 b5=>PS b3 (ad b4 (b5+2)) (.slice b0 b1 b2) λb6=>(dr d λb7 b8=>PS b6 (ad b7 (b8+3)) (.ii n) λJ=>al (decide (n<(B:Int))) ((∀o,bE J o->∃v:Nat->Prop,(dr d λK b9=>(¬v K/\(rP o (ad K b9) λc0=>PC_ 120 #[.ii k] o (λc1 w=>∃L,c1= .string L/\(aj v o w/\PC_ 188 #[.pointer c0,.string L,.ii n] w (kI_ λc2 M=>(aj v w M/\rt s ((.tuple #[.slice G H I,.ii c2])) M)) (pZ s))) (pZ s)))))) ((∃N,N<f/\q N G H I (IntKind.wrap .i64 (e+1)) J))))) (pV s)))) (pV s)) (pE s)))))) (pZ s))) (pZ s)))))))) (rt s ((.tuple #[.slice g h i,.ii 0])) j)))):Calls ZQ 137 #[.pointer d,.agg #[.slice p a c]] b s:=DC uU Tryz.func137 rfl O
def m_ (a:cY) (D:ak):Int×cY×ak:=
 let d:=cR (aB a.next)
 let b:=D.sync d
 if b.1≠0 then(b.1,a,(b.2.delete d).2)else
 let c:=bJ b.2 (a.aX++[a.next])
 if c.1≠0 then(c.1,a,(c.2.delete d).2)else
 (0,⟨a.size,a.aX++[a.next],0,IntKind.wrap .i64 (a.next+1)⟩,c.2)
def bF (b:cY) (D:ak):Int×cY×ak:=
 let a:=D.create (cR (aB b.next))
 if a.1≠0 then(a.1,b,a.2)else m_ b a.2
def aG (a:cY) (D:ak):Int×cY×ak:=
 if a.aX=[]then bF a D else
 let b:=D.sync a.last
 if b.1≠0 then(b.1,a,b.2)else bF a b.2
def Gh (d e:World) (f g:Nat) (b:Nat->Prop) (a:Int×cY×ak) (h:Value) (c:World):Prop:=h= QH a.1/\cQ d c f g a.2.1 a.2.2 b/\aj (et b) e c
theorem SF (a:Int):aN (IntKind.wrap .i64 a):=by
 unfold aN IntKind.wrap;simp [IntKind.signed,IntKind.bits];omega
theorem HZ {D:ak} {b:List Int} (a:(bJ D b).1=0):b.length<=64:=by
 unfold bJ at a;split at a
 ·cases a
 ·omega
theorem Gi {D:ak} (hL:Laid b) (h:cQ b k a c b1 D f):
  Calls ZQ 138 #[.pointer (some ⟨c,0,none⟩)] k (Ok (Gh b k a c f (aG b1 D))):=by
 have b2:=h.aF;obtain⟨p3,j4,e6⟩:=h.Y_;have p4:=h.gr.size;have e7:=h.Cj;have j5:=h.many;refine uC (PA.mk λC k1 s1 g1=>PA.mk λw2 k2 s2 g2=>?_);have d6:ai k w2:=k1.then k2
 let b6:Nat->Prop:=λd=>f d\/(d=k.heap.size\/d=C.heap.size)
 have hY:cQ b w2 a c b1 D b6:=h.add d6 λd e=>by omega
 have b7:=k2.get g1 id;refine⟨λg=>∃E,cQ b g a c b1 E b6/\aj (et f) k g/\w2.heap.size<=g.heap.size/\g.heap[k.heap.size]? =some (.cells #[.pointer (some ⟨c,0,none⟩)] 95 (0,0))/\g.heap[C.heap.size]? =some (.cells #[QH 0] 34 (0,0))/\aG b1 D=bF b1 E,?_,?_⟩
 ·obtain⟨G,hD,hl,hG⟩:=id hY
  obtain⟨u,F,J,n,S,hr,hE,v⟩:=hl.row;refine⟨_,ae b7 rfl,c,0,rfl,_,_,_,ae S rfl,al.dec (λo6=>?_) (λz=>?_)⟩
  ·have w:b1.aX≠[]:=λj=>by rw [j]at v;simp at v;omega
   refine⟨_,ae b7 rfl,PC.ok (J_ hL hY w) ?_⟩;rintro _ w3 ⟨rfl,Y,k3⟩;have kX:aj (et f) k w3:=(ai.keep d6).then (k3.mono λd _ e l=>e (.inl l));have b8:=k3.get b7 λv=>v (.inr (.inl rfl));have b9:=k3.get g2 λv=>v (.inr (.inr rfl));have hB:aG b1 D=if(D.sync b1.last).1≠0 then((D.sync b1.last).1,b1,(D.sync b1.last).2)else bF b1 (D.sync b1.last).2:=by unfold aG;rw [if_neg w]
   refine⟨_,rfl,al.dw (λe9=>?_) (λH=>⟨_,Y,kX,k3.size,b8,b9,by rw [hB,if_neg (by simpa using H)]⟩)⟩;refine PS.mk b9 sM λK M s4 g4=>⟨_,ae g4 rfl,Ok.mk ?_⟩
   rw [hB,if_pos e9];exact⟨rfl,(Y.other M λd e=>⟨e▸.inr (.inr rfl),oM⟩).mono λd e=>.inl e,kX.then (M.mono λd _ e l=>by have:=b2 d l;omega)⟩
  ·have he:b1.aX=[]:=QW oM
   exact⟨D,hY,ai.keep d6,Q4 _,b7,g2,by unfold aG;rw [if_pos he]⟩
 rintro _ w3 ⟨E,Y,b3,o7,b8,b9,hB⟩;rw [hB];obtain⟨G3,p5,j6,p6⟩:=id Y;obtain⟨f9,n3,h0,E3,j7,-,-,-⟩:=j6.row;refine⟨_,ae b8 rfl,c,0,rfl,_,ae j7 rfl,PC.ok (jV (hL.af Y.gr) e7) ?_⟩;rintro _ K ⟨rfl,M⟩;refine⟨_,rfl,PA.mk λw5 k5 s5 g5=>PS.mk g5 sM λw6 k6 s6 g6=>?_⟩
 let q:Nat->Prop:=λd=>b6 d\/d=K.heap.size
 have f5:=Y.af M;have p7:=f5.gr.size;have p8:=M.size;have j8:cQ b w6 a c b1 E q:=(f5.add (Y:=(·=K.heap.size)) k5 λd e=>oM).other k6 λd e=>⟨.inr e,oM⟩
 have j9:aj (et f) k w6:=((b3.af M).af k5).then (k6.mono λd _ e l=>by have:=b2 d l;have:=b3.size;omega);have d8:∀{d},f d->q d:=λl=>.inl (.inl l);intro N e4;have k7:ai w6 N:=e4.keep;have f7:=j8.af k7;have gn:w6.heap[K.heap.size]? =some (.cells #[.string (cR (aB b1.next))] 9 (0,0)):=g6;have k0:=k6.get (k5.get (M.get b8 id) id) oM;have g0:=k6.get (k5.get (M.get b9 id) id) oM
 let r:World->Int->Prop:=λg j=>g.heap[k.heap.size]? =some (.cells #[.pointer (some ⟨c,0,none⟩)] 95 (0,0))/\g.heap[C.heap.size]? =some (.cells #[QH j] 34 (0,0))/\g.heap[K.heap.size]? =some (.cells #[.string (cR (aB b1.next))] 9 (0,0))
 have C6:r w6 0:=⟨k0,g0,gn⟩
 have i:∀{g x:World} {j:Int} {d0:Nat->Prop},r g j->aj d0 g x->(∀d,d0 d->¬(d=k.heap.size\/d=C.heap.size\/d=K.heap.size))->r x j:=λO p hS=>
  ⟨p.get O.1 λP=>hS _ P (.inl rfl),p.get O.2.1 λP=>hS _ P (.inr (.inl rfl)),p.get O.2.2 λP=>hS _ P (.inr (.inr rfl))⟩
 have m:∀{g x:World} {j:Int},r g j->aj (et q) g x->r x j:=λO p=>i O p λd e hc=>e (by
  rcases hc with rfl|rfl|rfl
  ·exact .inl (.inr (.inl rfl))
  ·exact .inl (.inr (.inr rfl))
  ·exact .inr rfl)
 have c0:∀{g x:World},aj (et f) k g->aj (et q) g x->aj (et f) k x:=λu d=>u.then (d.mono λd _ e l=>e (d8 l));have C7:r N 0:=i C6 k7 λd e=>e.elim;obtain⟨G7,p9,l0,q0⟩:=id f7;obtain⟨k4,n7,l1,E7,l3,-,-,-⟩:=l0.row;refine⟨_,ae C7.1 rfl,c,0,rfl,_,ae l3 rfl,_,ae C7.2.2 rfl,PC.ok (f7.on (λq hZ T=>T.create)) ?_⟩;rintro _ w8 ⟨rfl,c1,k8⟩;have C8:=m C7 k8;have g3:=c0 (j9.af k7) k8;have l4:bF b1 E=if(E.create (cR (aB b1.next))).1≠0 then((E.create (cR (aB b1.next))).1,b1,(E.create (cR (aB b1.next))).2)else m_ b1 (E.create (cR (aB b1.next))).2:=rfl
 rw [l4];generalize q1:E.create (cR (aB b1.next))=cr at c1⊢;obtain⟨l2,L⟩:=cr;simp only at c1⊢;have q2:C.heap.size<w2.heap.size:=oM
 have g7:∀{g:World} {A:Int×cY×ak} {j:Int} {x:World},cQ b g a c A.2.1 A.2.2 q->aj (et f) k g->aj (·=C.heap.size) g x->j=A.1->Gh b k a c f A (QH j) x:=by
  intro g A j x v p P he;exact⟨by rw [he],(v.other P λd e=>⟨e▸.inl (.inr (.inr rfl)),oM⟩).mono λd e=>d8 e,p.then (P.mono λd _ e l=>by have:=b2 d l;omega)⟩
 refine⟨_,rfl,al.dw (λw=>?_) (λH=>?_)⟩
 ·refine PS.mk C8.2.1 sM λw9 k9 s9 g9=>⟨_,ae g9 rfl,Ok.mk ?_⟩
  rw [if_pos w];exact g7 c1 g3 k9 rfl
 rw [if_neg (by simpa using H)];have B:∀{A:Int×cY×ak} (j:Int) (n:ak) (g:World),cQ b g a c b1 n q->aj (et f) k g->r g j->j≠0->A=(j,b1,(n.delete (cR (aB b1.next))).2)->
   Lv ZQ (λg8=>∃h2:Int,g8.cell? ⟨C.heap.size,0,none⟩=some (QH h2)/\Ok (Gh b k a c f A) (.returned (QH h2)) g8) (λch g=>Ok (Gh b k a c f A) (.panicked ch) g)
    ([{target:=.fn (.func 189) #[.pointer (some ⟨C.heap.size,0,none⟩),.pointer (some ⟨k.heap.size,0,none⟩),.pointer (some ⟨K.heap.size,0,none⟩)],args:= #[]}]:List Deferred) .returning g:=by
  intro A j n g v p O w hr;refine Lv.one sM kR (CallsD.mono (jq (R:=λe' N=>e'= .returned (.tuple #[])/\∃h3:Int,N.cell? ⟨C.heap.size,0,none⟩=some (QH h3)/\Ok (Gh b k a c f A) (.returned (QH h3)) N) ⟨_,ae O.2.1 rfl,al.dw (λ_=>?_) (λH=>absurd H w)⟩) ?_)
  ·intro wa da
   have ka:ai g wa:=da.keep;have h4:=v.af ka;have e0:r wa j:=i O ka λd e=>e.elim;obtain⟨Ga,q3,l5,q4⟩:=id h4;obtain⟨aa,na,ca,Ea,c3,-,-,-⟩:=l5.row;refine⟨_,ae e0.1 rfl,c,0,rfl,_,ae c3 rfl,_,ae e0.2.2 rfl,PC.ok (h4.on (λq hZ T=>T.delete)) ?_⟩;rintro _ U ⟨rfl,l6,kb⟩;have l7:=m e0 kb;refine⟨_,rfl,rfl,_,ae l7.2.1 rfl,Ok.mk ?_⟩;rw [hr];exact⟨rfl,l6.mono λd e=>d8 e,c0 (p.af ka) kb⟩
  ·rintro e' u' N ⟨rfl,rfl,hX⟩
   exact Lv.ret rfl hX
 intro w9 e8;have k9:ai w8 w9:=e8.keep;have h5:=c1.af k9;have C9:r w9 0:=i C8 k9 λd e=>e.elim;obtain⟨G9,q5,l8,q6⟩:=id h5;obtain⟨n5,n9,n6,E9,l9,-,-,-⟩:=l8.row;refine⟨_,ae C9.1 rfl,c,0,rfl,_,ae l9 rfl,_,ae C9.2.2 rfl,PC.ok (h5.on (λq hZ T=>T.sync)) ?_⟩;rintro _ Z ⟨rfl,V,h6⟩;have b0:=m C9 h6;have d1:=c0 (g3.af k9) h6;have m0:m_ b1 L=if(L.sync (cR (aB b1.next))).1≠0 then((L.sync (cR (aB b1.next))).1,b1,((L.sync (cR (aB b1.next))).2.delete (cR (aB b1.next))).2)else
   if(bJ (L.sync (cR (aB b1.next))).2 (b1.aX++[b1.next])).1≠0 then((bJ (L.sync (cR (aB b1.next))).2 (b1.aX++[b1.next])).1,b1,((bJ (L.sync (cR (aB b1.next))).2 (b1.aX++[b1.next])).2.delete (cR (aB b1.next))).2)else
   (0,⟨b1.size,b1.aX++[b1.next],0,IntKind.wrap .i64 (b1.next+1)⟩,(bJ (L.sync (cR (aB b1.next))).2 (b1.aX++[b1.next])).2):=rfl
 rw [m0];generalize q7:L.sync (cR (aB b1.next))=sy at V⊢;obtain⟨q8,c2⟩:=sy;dsimp only at V;refine⟨_,rfl,al.dw (λw=>?_) (λH=>?_)⟩
 ·refine PS.mk b0.2.1 sM λs t q9 m1=>?_
  rw [if_pos w];exact B _ c2 s (V.other t λd e=>⟨e▸.inl (.inr (.inr rfl)),oM⟩) (d1.then (t.mono λd _ e l=>by have:=b2 d l;omega)) ⟨t.get b0.1 oM,m1,t.get b0.2.2 (by have:=b3.size;omega)⟩ w rfl
 rw [if_neg (by simpa using H)];have o8:K.heap.size<Z.heap.size:=aC b0.2.2;refine⟨λu F J g=>∃n,aV aP 3 n g u F J (b1.aX++[b1.next])/\(∀d,n d->Z.heap.size<=d)/\ai Z g,?_,?_⟩
 ·intro s m2
  have t:ai Z s:=m2.keep;have a5:=V.af t;have a0:r s 0:=i b0 t λd e=>e.elim;obtain⟨m3,h7,W,h8⟩:=id a5;obtain⟨m4,m5,m6,m7,a6,d2,d3,o9⟩:=W.row;have p0:=W.aF c W.self;have a2:∀{wa U wc:World} {S:Nat} {u F J:_} {a3:Nat->Prop},aV aP 3 a3 U u F J b1.aX->(∀d,a3 d->s.heap.size<=d/\d≠S)->U.heap[S]? =some (.cells #[QH b1.next] 3 (0,0))->ai s U->
    ∀κ ε,(∀X n' c' g,(∃n,aV aP 3 n g X n' c' (b1.aX++[b1.next])/\(∀d,n d->Z.heap.size<=d)/\ai Z g)->aj (λd=>s.heap.size<=d) U g->κ (.slice X n' c') g)->
    aH ZQ (Builtin.append_ #[55,55] 55 #[.slice u F J,.slice (some ⟨S,0,none⟩) 1 1]) U κ ε:=by
   intro wa U wc S u F J a3 Q hF hg p κ ε c7;refine lH Q tN (D:=(·=S)) (Row.lit hg [b1.next] rfl (λd4 l=>by simp at l;subst l;exact e7) (by unfold aQ;simp)) (λd j=>⟨j▸aC hg,λf0=>(hF d (Q.self d f0)).2 j⟩) (by unfold aQ;simp;omega) (by unfold maxLen;simp;omega) λX c' g F' c8 a4 _ c9=>?_;refine c7 X _ c' g ⟨λd=>aI X=some d,c8.alone,λd e=>?_,?_⟩ (a4.mono λd _ e=>(hF d (Q.self d e)).1)
   ·have:=t.size;have:=p.size
    rcases c9 d e with h|h
    ·have:=(hF d h).1;omega
    ·omega
   ·exact(t.then p).new a4 λd e=>.inr (by have:=(hF d (Q.self d e)).1;have:=t.size;omega)
  have r0:k.heap.size<s.heap.size:=aC a0.1;refine⟨λd=>s.heap.size<=d,oM,_,ae a0.1 rfl,c,0,rfl,oM,_,_,_,ae a6 rfl,oM,_,ae a0.1 rfl,c,0,rfl,oM,_,ae a6 rfl,?_,?_⟩
  ·refine PC.ok (cH d2 λd e=>W.aF d (d3 d e).1) ?_
   rintro _ b4 ⟨r3,r4,r5,r6,rfl,a7,I,h9⟩;refine⟨_,_,_,rfl,I.keep,PA.mk λy o m8 e1=>⟨o.keep,a2 (wa:=y) (wc:=y) (a7.af o) (λd e=>⟨h9 d e,by have:=a7.aF d e;omega⟩) e1 (I.then o) _ _ λX n' c' g hJ p=>⟨_,_,_,rfl,p,trivial,hJ⟩⟩⟩
  ·refine PA.mk λb4 I r7 m9=>⟨I.keep,PC.ok (cH (d2.af I) λd e=>by have:=W.aF d (d3 d e).1;have:=I.size;omega) ?_⟩
   rintro _ y ⟨n0,n1,n2,r8,rfl,a8,o,d5⟩;exact⟨_,_,_,rfl,o.keep,a2 (wa:=y) (wc:=y) a8 (λd e=>⟨by have:=d5 d e;omega,by have:=d5 d e;omega⟩) (o.get m9 id) (I.then o) _ _ λX n' c' g hJ p=>⟨_,_,_,rfl,p,trivial,hJ⟩⟩
 rintro u F J _ s ⟨n,Q,hE,t⟩;have p1:(b1.aX++[b1.next]).length<=65:=by simp;omega
 have a5:cQ b s a c b1 c2 (λd=>q d\/n d):=V.add t λd e=>⟨hE d e,Q.aF d e⟩
 have a0:r s 0:=i b0 t λd e=>e.elim;have d7:Row aP 8 s n u F (b1.aX++[b1.next]):=Q.row dC (by unfold aQ;omega);have f1:∀d4∈b1.aX++[b1.next],aN d4:=Ow d7;obtain⟨m3,h7,W,h8⟩:=id a5;obtain⟨m4,m5,m6,m7,a6,-,-,-⟩:=W.row;refine⟨_,ae a0.1 rfl,c,0,rfl,_,ae a6 rfl,PC.ok (a5.on λZ' n4 T=>T.bJ hL.oH d7 f1 λd e=>.inr (n4 d (.inr e))) ?_⟩;rintro _ b4 ⟨rfl,a9,I⟩;have R:aj (et q) s b4:=I.mono λd _ e z=>e (.inl z);have c4:=m a0 R;have d9:=c0 (d1.af t) R;have a7:=Q.keep I λd e v=>v (.inr e);have b5:= @HZ c2 (b1.aX++[b1.next]);have i0:True:=trivial;generalize r9:bJ c2 (b1.aX++[b1.next])=mw at a9 b5 i0⊢;obtain⟨s0,c5⟩:=mw;dsimp only at a9 b5 i0⊢;refine⟨_,rfl,al.dw (λw=>?_) (λH=>?_)⟩
 ·refine PS.mk c4.2.1 sM λy o m8 e1=>?_
  rw [if_pos w];have f2:cQ b b4 a c b1 c5 q:=a9.mono λd e=>.inl e;exact B _ c5 y (f2.other o λd e=>⟨e▸.inl (.inr (.inr rfl)),oM⟩) (d9.then (o.mono λd _ e l=>by have:=b2 d l;omega)) ⟨o.get c4.1 oM,e1,o.get c4.2.2 (by have:=b3.size;omega)⟩ w rfl
 rw [if_neg (by simpa using H)];have b5:=b5 H;intro y n8;have o:ai b4 y:=n8.keep;have i1:=a9.af o;have e5:r y 0:=i c4 o λd e=>e.elim;have a8:=a7.af o;obtain⟨s3,i2,e2,p2⟩:=id i1;obtain⟨n0,n1,n2,s7,i3,-,-,-⟩:=e2.row;have i4:∀d,n d->d≠c:=λd e j=>by have:=hE d e;omega
 have o0:c≠k.heap.size/\c≠C.heap.size/\c≠K.heap.size:=by have:=b3.size;omega
 refine⟨(·=c),_,ae e5.1 rfl,λj=>o0.1 j.symm,_,ae e5.1 rfl,c,0,rfl,PS.mk i3 sM λs8 i5 t0 o1=>⟨i5,c,0,rfl,PS.mk o1 sM λo2 i6 t1 i7=>⟨i6,?_⟩⟩⟩;have e3:=i5.then i6;have i8:r o2 0:=i e5 e3 λd e hc=>by subst e;omega
 refine⟨_,ae i8.1 rfl,c,0,rfl,_,ae i7 rfl,c,0,rfl,PS.mk i7 sM λc6 i9 t2 j0=>?_⟩;have o3:r c6 0:=i i8 i9 λd e hc=>by subst e;omega
 have a1:aj (·=c) y c6:=e3.then i9;refine PS.mk o3.2.1 sM λo4 o5 t3 j1=>Lv.one sM kR (CallsD.mono (jq (R:=λe' N=>e'= .returned (.tuple #[])/\N=o4) ⟨_,ae j1 rfl,al.dw (λhc=>absurd rfl hc) (λ_=>⟨rfl,rfl⟩)⟩) ?_);rintro e' u' _ ⟨rfl,rfl,rfl⟩;refine Lv.ret rfl ⟨_,ae j1 rfl,Ok.mk ?_⟩;have j2:c6.heap[c]? =some (.cells #[.pointer (some ⟨a,0,none⟩),QH b1.size,.slice u F J,QH 0,QH (IntKind.wrap .i64 (b1.next+1))] 228 (0,0)):=j0;have j3:cQ b c6 a c ⟨b1.size,b1.aX++[b1.next],0,IntKind.wrap .i64 (b1.next+1)⟩ c5 q:=by
  refine⟨λd=>d=c\/n d,?_,⟨⟨u,F,J,n,j2,a8.keep a1 λd e j=>i4 d e j,λd e=>⟨.inr e,i4 d e⟩⟩,.inl rfl,?_,b5,?_⟩,?_⟩
  ·have h1:bf b y a c5 (λd=>q d\/(d=c\/n d)):=i2.mono λd e=>by
    rcases e with e|e|e
    ·exact .inl (.inl e)
    ·exact .inr (e▸e2.self)
    ·exact .inl (.inr e)
   obtain⟨a3,f4,f6,f3,f8⟩:=h1;exact⟨a3,f4.keep a1 λd e j=>(f3 d e).2 (.inr (.inl j)),f6.new a1 λd e=>.inr oM,f3,λd e=>Qk (f8 d e) a1.size⟩
  ·rintro d (rfl|e)
   ·exact aC j0
   ·exact Qk (a8.aF d e) a1.size
  ·show aN (IntKind.wrap .i64 (b1.next+1))
   exact SF _
  ·rintro d (rfl|e)
   ·exact⟨j4,λz=>by
     rcases z with(z|z|z)|z
     ·exact e6 z
     ·omega
     ·omega
     ·omega⟩
   ·have:=hE d e
    exact⟨by have:=V.gr.size;omega,λz=>by have:=V.aF d z;omega⟩
 exact g7 j3 ((d9.af o).then (a1.mono λd _ e l=>e6 (e▸l))) o5 rfl
end Go.Proofs.YtfchlbaidamodaaGreatDoor

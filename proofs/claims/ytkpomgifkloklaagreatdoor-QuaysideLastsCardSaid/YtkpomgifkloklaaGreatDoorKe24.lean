import Derived.Test.YtkpomgifkloklaaGreatDoorKe21
set_option maxHeartbeats 4000000
set_option linter.all false
set_option maxRecDepth 20000
namespace Go.Proofs.YtkpomgifkloklaaGreatDoor
open Go.aw
variable{o:Array Value}{e r:Int}{s:List Int}{a6 g7 h9:List PanicEntry->bc}{a c:Nat}{f:ac}{d:be}{h:Program}{j:Type}{C g q:TypeId}{m t:am}{b:World}{z:bc}{y:aq}{c7 e7:bh}{b8:jT}
def YJ{c:kq j}{p k:Nat}{r:List j}{bytes:Nat}{x:j}(i:aS c g f b d p k r)(I:ki h q g c.k bytes){D:ac}(y:c.rep b D x o.toList)(s:∀n,D n->n<b.heap.size/\aI d≠some n)(P:(r.length+1)*bytes<=aP)(N:r.length+1<=maxLen)(z:∀l e A u,aS c g u A l (p+1) e (r++[x])->aj (λE=>aI d=some E) b A->(∀n,u n->f n\/D n\/b.heap.size<=n)->(∀n,aI l=some n->aI d=some n\/b.heap.size<=n)->m (.slice l (p+1) e) A):
  PA b (.cells o g) λF=>aK h (Builtin.append_ #[q,q] C #[.slice d p k,.slice (UV b.heap.size) 1 1]) F m t:=by
 have J:=i.len I.pos;obtain⟨cs,O,Q,R,v⟩:=i.body;refine PA.mk λF K W S=>?_;have X:=c.len y;have T:=Q.af K;refine vk I (news:=o.toList) T S (by rw[Qz oM]) oM (c.one y) (by rw[J];exact P) (by rw[J];exact N) λl U w L M B=>?_;have H:aj (λE=>aI d=some E) b w:=(ai.keep K).then (M.mono λ_ _ i=>i.symm)
 let u:ac:=λn=>f n\/D n\/(b.heap.size<=n/\n<w.heap.size)
 have Y:F.heap.size<=w.heap.size:=M.size;refine z l U w u ⟨⟨_,λn=>O n\/D n,L,cf.append ((R.keep H λn P=>(v n P).2).mono λn P=>.inl P) (cf.one (c.mono (c.keep y H λn P=>(s n P).2) λn P=>.inr P)),?_⟩,?_,?_⟩ H ?_ ?_
 ·intro n P
  have Z:n<b.heap.size:=P.elim (λa=>i.aE n (v n a).1) λa=>(s n a).1;refine⟨P.elim (λa=>.inl (v n a).1) λa=>.inr (.inl a),?_⟩;rcases B with B|B
  ·rw[B];exact P.elim (λa=>(v n a).2) λa=>(s n a).2
  ·rw[B];intro V;cases V;omega
 ·intro n P
  rcases B with B|B
  ·exact .inl (i.self n (B▸P))
  ·have:=L.lt P
   rw[B]at P;cases P;exact .inr (.inr ⟨oM,this⟩)
 ·rintro n (P|P|P)
  ·have:=i.aE n P;omega
  ·have:=(s n P).1;omega
  ·exact P.2
 ·rintro n (P|P|P)
  ·exact .inl P
  ·exact .inr (.inl P)
  ·exact .inr (.inr P.1)
 ·intro n P
  rcases B with B|B
  ·exact .inl (B▸P)
  ·rw[B]at P;cases P;exact .inr oM
def Vv(P:Ints b d a s)(p:lu s s.length<9223372036854775808):
  bn 10 #[.slice d a c] b (Ok λj e=>j= .tuple #[WP (lu s s.length),.bool true]/\b=e):=by
 have k:=P.len;have l:=P.eO;unfold aP at l;refine Po ⟨λf g h e=>∃n:Nat,h=n/\n<=a/\f=a-n/\g=lu s n/\b=e,⟨_,0,rfl,oM,rfl,rfl,rfl⟩,?_⟩;rintro f g h _ q ⟨n,rfl,r,rfl,rfl,rfl⟩;refine al.dec (λm=>?_) (λm=>?_)
 ·refine PC.ok (mM P) ?_
  rintro _ _ ⟨rfl,rfl⟩;have t:=PH s (n+1);have u:=uU (xs:=s) (k:=n+1) (n:=s.length) oM;have i:IntKind.wrap .i64 (lu s n+dH s n)=lu s (n+1):=wrap_i64 (by show aH (lu s (n+1));unfold aH;omega);refine⟨_,rfl,al.dec (λo=>?_) (λ_=>⟨_,oM,n+1,an oM,oM,rfl,i,rfl⟩)⟩;rw[i]at o;omega
 ·have:n=a:=oM
  subst this;exact Ok.mk ⟨by rw[k],rfl⟩
section
variable {w w' w0 w1 w2 wb:World} {p q i k g:Nat} {F F1 F' G G' T D E S:ac} {c:bF} {X Y:cH} {s:ei} {x:gO} {v:Value} {ta pa la:be} {tn tc pn pc ln lc:Nat} {l:List ei}
def xo{k n P:Int}:bn 37 #[WP k,WP n,WP P] w (Ok λv w'=>v=gA ⟨k,n,P,AO⟩/\ai w w'):=
 Ma (PA.mk λw1 b g c=>aD (jQ ⟨k,n,P,AO⟩) c rfl λw2 d h e=>ar (jQ ⟨k,n,P,AO⟩) e (Ok.mk ⟨rfl,b.new d λf a=>.inr (by have a:f=w.heap.size:=a;omega)⟩))
def Qo(r:fE w0)(s:Laid w0)(t:ai w0 w)(g:bt w D c.decl ta tn pa pn)(u:∀n,D n->n<w.heap.size)(x:Row EK 80 w E la ln l)(Q:∀n,E n->n<w.heap.size)(y:aH c.bk)(z:aH c.every)(A:aH c.start):
  bn 4 #[GK c ta tn tc pa pn pc la ln lc] w (Ok λv w'=>ai w w'/\((∃p,v= .tuple #[.pointer p,.bool false])\/∃p F,v= .tuple #[RK p,.bool true]/\bB w0 w' p F c (sJ c).2/\(∀n,F n->w.heap.size<=n)/\eD 0 (sJ c).2/\(sJ c).1=0/\l.length<=300)):=by
 refine Jg (PA.mk λw1 b R h=>ar (RY c ta tn tc pa pn pc la ln lc) h (PC.ok (LJ (g.af b) (x.af b)) ?_));rintro _ S ⟨⟨T,rfl,B⟩,i⟩;have P:=b.then i;have j:=i.get h id;refine⟨_,rfl,al.mk (λ_=>Ok.mk ⟨P,.inl ⟨_,rfl⟩⟩) (λC=>?_)⟩;refine Uy j (PC.ok (NM r s (t.then P) (g.af P) (λn d=>by have:=u n d;have:=P.size;omega) y z A) ?_);rintro U H ⟨e,⟨I,rfl⟩|⟨J,p,F,rfl,k,K,L⟩⟩
 ·exact⟨_,_,rfl,al.eT (λa=>Zz a I) (λ_=>λm f=>Ok.mk ⟨(P.then e).then f.keep,.inl ⟨_,rfl⟩⟩)⟩
 have o:=e.get j id;have M:=P.then e;have V:=P.size;obtain⟨-,N,O,-⟩:=k.len;refine⟨_,_,rfl,al.eT (λ_=>⟨_,λW=>lM Tryz.underlying31 _ _ _ _,al.mk (λ_=>⟨_,ae o rfl,al.dec (λ_=>⟨_,ae o rfl,λm f=>?_⟩) (λa=>Zz N a)⟩) (λa=>by cases a)⟩) (λa=>Zz rfl a)⟩;have q:ai H m:=f.keep;exact Ok.mk ⟨M.then q,.inr ⟨p,F,by rw[Zy (by exact O)],k.af q,λn d=>by have:=K n d;omega,L,J,B C⟩⟩
def Ou{P n:TypeId}{bytes:Nat}(d:ki h P n 1 bytes){z:Value}(a:(h.info? n).bind (·.zero)=some z)(g:z.cells= #[z]){l:Nat}(j:l*bytes<=aP)(k:l<=aP){w:World}(o:∀w',ai w w'->w'.heap.size=w.heap.size+1->w'.heap[w.heap.size]? =some (.cells (List.replicate l z).toArray n (0,0))->m (.slice (UV w.heap.size) l l) w'):
  aK h (Instr.makeSlice P (WP (l:Int)) (WP (l:Int))) w m t:=by
 unfold aP at j k;obtain⟨i,b,e,f,p,q,u⟩:=ki.info d;have r:b=z:=by
  rw[e]at a;simp only[Option.bind_some,f]at a;exact XJ a
 subst r;have c:=run_make (P:=h) w P n i _ d.under e f .i64 .i64 l l oM oM (by rw[q,Int.mul_comm,<-Int.natCast_mul];omega) oM;simp only[Qx,p,Nat.mul_one]at c;have s:madeCells b.cells l=(List.replicate l b).toArray:=by
  apply Array.ext';unfold madeCells;rw[Array.toList_map,g];apply List.ext_getElem
  ·simp
  ·intro v x y
   simp[Nat.mod_one]
 rw[s]at c;exact aK.mk c (o _ (aj.alloc w _) sM (heap_alloc_new w _))
def Dt(n:List Int):∀k,iF n n k=0
 |0=>rfl
 |k+1=>by
  unfold iF;rw[Zq oM,Zq oM];exact Dt n k
def TQ{V:aq}{P:List Int}(a:P.length=V.n)(b:∀n:Nat,dH P n<=dH V.vec n):jC P V.vec=V.vec:=by
 unfold jC oX;rw[a,aq.aY,Nat.max_self];refine Eq.trans (List.map_congr_left (g:=λn=>(V.qG n:Int)) λn c=>?_) rfl;have d:=b n;rw[kD,Zx (List.mem_range.1 c)]at d⊢;omega
def OE(n:aq)(P:Nat):n.qG P<=n.l.length:=List.countP_le_length
set_option maxHeartbeats 1000000 in
def M_(s:y.Cl){n:Nat}(L:y.n=n)(i:Row iz 96 w E d ln y.l):
  bn 12 #[.slice d ln lc,WP (n:Int)] w (Ok λv w'=>v= .bool true/\ai w w'):=by
 have b2:=s.ok.n;have b3:=i.len;have M:=i.eO;unfold aP at M;subst L;refine DZ (Ou TF (z:=WP 0) kR rfl cw cw λw1 N s1 O=>⟨_,_,_,rfl,?_⟩);have Q:(aq.vec ⟨y.n,y.l.take 0⟩).map (λx=>Value.int .i64 x)=List.replicate y.n (WP 0):=by
  rw[List.take_zero,List.eq_replicate_iff];refine⟨by rw[Q8,aq.aY],λa P=>?_⟩;obtain⟨x,e,rfl⟩:=Xk.1 P;unfold aq.vec at e;obtain⟨t,-,rfl⟩:=Xk.1 e;simp[aq.qG]
 refine⟨λu j w'=>∃k:Nat,j=k/\k<=ln/\u=ln-k/\ai w w'/\w'.heap[w.heap.size]? =some (.cells ((aq.vec ⟨y.n,y.l.take k⟩).map λx=>Value.int .i64 x).toArray 3 (0,0)),
  ⟨_,0,rfl,Qj _,rfl,N,by rw[Q];exact O⟩,?_⟩
 rintro u _ _ w2 ⟨k,rfl,hk,rfl,f,R⟩;refine al.dec (λb4=>?_) (λ_=>Ok.mk ⟨rfl,f⟩);obtain⟨a,t,x,es,rfl,P,-,e,S,z,A,B,rfl,T,a9⟩:=(i.af f).vv (i:=k) oM;obtain⟨⟨l,m,C,U⟩,V,W,X⟩:=s.W_ e;refine⟨a,t,rfl,oM,oM,bJ (es:=aF x z A B) (k:=10) (bg _ _ _ _) rfl (λj Y=>by rw[Qx];exact S j Y) (PA.mk λw3 Z s3 g3=>aD (bg x z A B) g3 rfl λw4 k4 s4 g4=>λo d5=>?_)⟩;have F:ai w4 o:=d5.keep;have g:ai w2 o:=(Z.new k4 λa P=>.inr (by have P:a=w2.heap.size:=P;omega)).then F;have b:=F.get g4 id;have p:=g.get R id;have z2:=f.size;have b5:=g.size;have b6:aq.qG ⟨y.n,y.l.take k⟩ l<=ln:=Xx (OE _ _) (by show(y.l.take k).length<=_;rw[Qy];omega);have a5:((aq.vec ⟨y.n,y.l.take k⟩).map λx=>Value.int .i64 x).toArray[0+l]? =some (WP (aq.qG ⟨y.n,y.l.take k⟩ l:Int)):=by
  rw[Xz];simp[aq.lC ⟨y.n,y.l.take k⟩ C]
 have H:Row aO 8 o (·=w.heap.size) (UV w.heap.size) _ (aq.vec ⟨y.n,y.l.take k⟩):=Row.lit p (aq.vec ⟨y.n,y.l.take k⟩) rfl (λa0 I=>by
  unfold aq.vec at I;obtain⟨J,-,rfl⟩:=Xk.1 I;have:=OE ⟨y.n,y.l.take k⟩ J;have h3:(y.l.take k).length<=ln:=by rw[Qy];omega
  show aH _;unfold aH;have h4:aq.qG ⟨y.n,y.l.take k⟩ J<=(y.l.take k).length:=this;omega) (by rw[aq.aY];unfold aP;dsimp only;omega)
 rw[aq.aY]at H;have q:=H.jU;refine⟨_,ae b rfl,al.dec (λb0=>by exfalso;omega) (λ_=>⟨_,ae b rfl,al.dec (λb1=>by exfalso;omega) (λ_=>⟨_,ae b rfl,_,ae b rfl,w.heap.size,0,rfl,oM,oM,_,by rw[m,Qx];exact ae p a5,al.eu (λh=>?_) (λb7=>?_)⟩)⟩)⟩
 ·exfalso
  rw[wrap_i64 cS]at h;exact h U
 refine⟨_,_,_,ae b rfl,PC.ok (vz ((T.af g).jU) q) ?_⟩;rintro _ w6 ⟨a6,n6,c6,rfl,r,c,b8⟩;rw[TQ (V:=⟨y.n,y.l.take k⟩) V W]at r;have a7:Ints w6 a6 n6 (aq.vec ⟨y.n,y.l.take k⟩):=r.ints (by have:=r.length;rw[show(ints (aq.vec ⟨y.n,y.l.take k⟩)).length=y.n by simp[ints,aq.aY]]at this;unfold aP;omega) q.zF;refine⟨_,_,_,rfl,PC.ok (sG a7 (q.af c)) ?_⟩;rintro _ _ ⟨rfl,rfl⟩;have K:=c.get b id;have a8:=c.get p id;have z6:=c.size;refine⟨_,rfl,al.eu (λh=>Zz (Dt _ _) h) (λ_=>⟨_,ae K rfl,_,ae K rfl,w.heap.size,0,rfl,oM,oM,?_⟩)⟩;rw[m,Qx];refine PS.mk a8 (by simp[aq.aY];exact C) λw7 k7 s7 g7=>⟨_,oM,k+1,an oM,oM,rfl,((f.then g).then c).new k7 λa P=>.inr (by have P:a=w.heap.size:=P;omega),?_⟩
 rw[g7,X,m,Qx,Xz];simp[List.map_set]
set_option maxHeartbeats 1000000 in
def Vw{Q:ah->Prop}{seen y:List ah}{W X:Nat}(Y:aS iz 82 S w d W X seen)(Z:Row iz 96 w E la ln y)(z:∀n,E n->n<w.heap.size/\¬S n)(hQ:∀b∈seen,Q b)(hR:∀b∈y,Q b)(hu:∀f n,Q f->Q n->aZ f=aZ n->f=n)(a9:seen.length+y.length<=1000000000000):
  bn 11 #[.slice d W X,.slice la ln lc] w (Ok λv w'=>∃(f:be) (k c:Nat) (p:ac) (P:List ah),v= .tuple #[.slice f k c,.bool true]/\aS iz 82 p w' f k c P/\(∀b∈P,Q b)/\P.length<=seen.length+y.length/\aj S w w'/\∀n,p n->S n\/E n\/w.heap.size<=n):=by
 have b1:=Z.len;refine Pp ⟨λo f k c l w'=>∃(j:Nat) (p:ac) (P:List ah),l=j/\j<=ln/\o=ln-j/\aS iz 82 p w' f k c P/\(∀b∈P,Q b)/\P.length<=seen.length+j/\aj S w w'/\(∀n,p n->S n\/E n\/w.heap.size<=n)/\∀n,aI f=some n->S n\/w.heap.size<=n,
  ⟨_,0,S,seen,rfl,Qj _,rfl,Y,hQ,oM,aj.refl _,λn a=>.inl a,λn a=>.inl (Y.self n a)⟩,?_⟩
 rintro o f k c _ _ w1 ⟨j,S1,P,rfl,hj,rfl,r,A,b0,H,I,B⟩;have b4:=r.len dC;have a0:=Z.keep H λn a=>(z n a).2;refine al.dec (λb5=>?_) (λb6=>Ok.mk ⟨_,_,_,S1,P,rfl,r,A,oM,H,I⟩);refine⟨λJ w'=>ai w1 w',⟨λo J l w'=>∃q:Nat,l=q/\q<=k/\o=k-q/\ai w1 w',⟨_,0,rfl,Qj _,rfl,aj.refl _⟩,?_⟩,?_⟩
 ·rintro o J _ _ w2 ⟨q,rfl,b7,rfl,e⟩
  refine al.dec (λb2=>al.mk (λhf=>?_) (λ_=>e)) (λ_=>e);have a2:=(r.af e).row (bytes:=96) dC cw;obtain⟨K,o2,C,fs,rfl,a3,-,hy,L,r1,r2,r3,rfl,hr,-⟩:=a2.vv (i:=q) oM;obtain⟨s,F,x,es,rfl,a1,-,M,t,N,O,R,rfl,T,-⟩:=(a0.af e).vv (i:=j) oM;refine⟨K,o2,rfl,oM,oM,_,_,by rw[Qx];exact L 0 dC,by rw[Qx];exact L 1 dC,s,F,rfl,oM,oM,_,_,by rw[Qx];exact t 0 dC,by rw[Qx];exact t 1 dC,_,λo=>Hr,λw3 d3=>al.mk (λh=>?_) (λh=>⟨_,oM,q+1,an oM,oM,rfl,e.then d3.keep⟩)⟩;have a4:C=x:=hu C x (A C (QZ hy)) (hR x (QZ M)) (by simp at h;unfold aZ;rw[h.1,h.2]);intro w4 d4;have m:ai w2 w4:=(show ai w2 w3 from d3.keep).then d4.keep;refine⟨K,o2,rfl,oM,oM,bJ (es:=aF C r1 r2 r3) (k:=10) (bg _ _ _ _) rfl (λl U=>by rw[Qx];exact(m.cell (a:=⟨K,_,none⟩) a3 id).trans (L l U)) ⟨s,F,rfl,oM,oM,bJ (es:=aF x N O R) (k:=10) (bg _ _ _ _) rfl (λl U=>by rw[Qx];exact(m.cell (a:=⟨s,_,none⟩) a1 id).trans (t l U)) (PC.ok (nz (hr.af m) (T.af m)) ?_)⟩⟩;rintro _ w5 ⟨rfl,k5⟩;exact⟨_,rfl,al.not (al.dec (λ_=>⟨_,oM,q+1,an oM,oM,rfl,(e.then m).then k5⟩) (λh=>Zz a4 h))⟩
 ·rintro J _ w2 e
  have V:=H.af e;have z2:=V.size;refine al.mk (λ_=>?_) (λ_=>⟨_,oM,j+1,S1,P,an oM,oM,rfl,r.af e,A,oM,V,I,B⟩);obtain⟨s,F,x,es,rfl,a1,-,M,t,N,O,R,rfl,T,a5⟩:=(a0.af e).vv (i:=j) oM;have g:=λi (hi:i<10)=>t i hi;refine⟨s,F,rfl,oM,oM,_,_,_,_,_,_,_,_,_,_,_,_,g 0 dC,g 1 dC,g 2 dC,g 3 dC,g 4 dC,g 5 dC,g 6 dC,g 7 dC,g 8 dC,g 9 dC,YJ (c:=iz) (x:=x) (D:=E) (r.af e) Ik ⟨N,O,R,rfl,T,a5⟩ (λn a=>⟨by have:=(z n a).1;omega,λb=>(B n b).elim (z n a).2 λh=>by have:=(z n a).1;omega⟩) cw (by unfold maxLen;omega) λa' c' w4 S4 a6 m a7 a8=>⟨_,_,_,rfl,_,oM,j+1,S4,P++[x],an oM,oM,rfl,a6,λb u=>?_,by rw[QX];show _+1<=_;omega,V.new m λn a=>B n a,λn a=>?_,λn a=>(a8 n a).elim (B n) λh=>oM⟩⟩
  ·rcases Q6.1 u with u|u
   ·exact A b u
   ·rw[List.mem_singleton.1 u];exact hR x (QZ M)
  ·rcases a7 n a with h|h|h
   ·exact I n h
   ·exact .inr (.inl h)
   ·exact .inr (.inr oM)
end
def HZ(n:ei):Uf (dv LL 51) (gA n)=true:=kR
section
variable {w w' w0 w1 w2 wb:World} {p q i k g:Nat} {F F1 F' G G' T D E S:ac} {c:bF} {X Y Z:cH} {s o:ei} {x:gO} {v:Value} {ta pa la:be} {tn tc pn pc ln lc:Nat} {l:List ei}
def Gg{n P:Nat}(b:e=9\/e=10\/e=11)(d:X.aA[n]? =some c7)(f:X.aA[P]? =some e7)(g:c7.S.l=e7.S.l):(cB c X ⟨e,n,r,b8⟩).1=(cB c X ⟨e,P,r,b8⟩).1:=by
 have one:∀(i:Nat) (a:bh),X.aA[i]? =some a->a.S.l=c7.S.l->(cB c X ⟨e,i,r,b8⟩).1=(if e=9 then vy c.decl c7.S.l b8.a_ b8.agg r else if e=10 then UB c.decl c7.S.l b8.a_ b8.agg else xC c.decl c7.S.l b8.field r):=λi a j k=>by
  unfold cB;dsimp only;rw[Zq oM,Zq oM,Zq oM,Zq oM,Zq oM,ck,j];dsimp only;rw[Zq oM];unfold gQ;dsimp only;rw[Zq oM,Zq oM,Zq oM,k];rcases b with h|h|h
  ·rw[Zx h,Zx h]
  ·rw[Zq oM,Zx h,Zq oM,Zx h]
  ·rw[Zq oM,Zq oM,Zx h,Zq oM,Zq oM]
 rw[one n c7 d rfl,one P e7 f g.symm]
def iU.kept{Z:ac}(d:iU w0 Z x v w)(P:aj Z w w'):fz w0 x v w':=by
 obtain⟨e,f,g,h,i,j,k,l,m,G,o,p,q,r,b⟩:=d;have c:∀n,G n->¬Z n:=λn a=>(b n a).2.2;exact⟨e,f,g,h,i,j,k,l,m,G,o,p.keep P c,q.keep P c,r.keep P c,λn a=>⟨(b n a).1,Qk (b n a).2.1 P.size⟩⟩
def XH(A:bB w0 w p F c X)(j:eD k X)(l:k<=999)(B:s.Ok)(C:o.Ok)(E:s.kind=9\/s.kind=10\/s.kind=11)(H:o.kind=9\/o.kind=10\/o.kind=11)(I:(cB c X s).1=(cB c X o).1)(m:∀n,F n\/w.heap.size<=n->f n){J:bc}(P:∀w' F',bB w0 w' p F' c X->cd F w F' w'->z w'):
  PC LL 6 #[RK p,gA s] w (λv a=>sQ (dv LL 46) λq=>v=q/\(aj f w a/\PC LL 6 #[RK p,gA o] a (λv wb=>sQ (dv LL 46) λr=>v=r/\(aj f a wb/\PC LL 40 #[q,r] wb (λv b=>∃t:Bool,v= .bool t/\(aj f wb b/\al (!t) (J b) (z b))) h9)) g7)) a6:=by
 refine PC.ok (ug A j l B) ?_;rintro K L ⟨M,u,x,N,d⟩;rw[Bo E]at x;refine EM u.at' ⟨d.keep.mono λn _ e=>m n (.inl e),PC.ok (ug x j l C) ?_⟩;rintro O Q ⟨R,g,y,S,h⟩;rw[Bo H]at y;rw[<-I]at g;refine EM g.at' ⟨h.keep.mono λn _ e=>m n ((d.new n e).imp id id),PC.ok (Co (u.kept h.keep) g.at') ?_⟩;rintro _ T ⟨rfl,i⟩;exact⟨_,rfl,ai.keep i,al.ff rfl (P _ _ (y.af i) ((d.trans h).af i))⟩
set_option maxHeartbeats 4000000 in
def Tp{f:bF}{a b:Nat}(E:bB w0 w p F c X)(hf:eD k X)(hk:k<=999)(e8:tn<=1000)(e9:pn<=1000)(z:X.aA[a]? =some c7)(A:X.aA[b]? =some e7)(T:c7.S.l=e7.S.l)(R:∀c7∈X.aA,c7.S.l.length<=20000000):
  bn 18 #[RK p,uh f ta tn tc pa pn pc,WP (a:Int),WP (b:Int)] w (Ok λv w'=>v= .bool true/\∃F',bB w0 w' p F' c X/\cd F w F' w'):=by
 have f2:=(Qv.1 z).1;have g0:=(Qv.1 A).1;obtain⟨g2,g3,g4,-⟩:=E.len;have c1:=E.aE;refine Jl (PA.mk λw1 S s1 g1=>PC.ok (jR (E.af S) R) ?_);rintro _ w2 (⟨m,-⟩|⟨R1,j,c3,n2,e6,F2,rfl,c4,k2,g5⟩)
 ·rw[ck,z]at m;cases m
 rw[ck,z]at j;injection j with j;subst j;refine⟨_,_,_,rfl,PC.ok (jR ((E.af S).af k2) R) ?_⟩;rintro _ w3 (⟨m,-⟩|⟨U1,j,f0,n3,f1,F3,rfl,c5,k3,g6⟩)
 ·rw[ck,A]at m;cases m
 rw[ck,A]at j;injection j with j;subst j;have g7:=R c7 (QZ z);have g8:=R e7 (QZ A);refine⟨_,_,_,rfl,PC.ok (Cp ((c4.af k3).row dC cw) (c5.row dC cw)) ?_⟩;rintro _ U ⟨rfl,k4⟩;have b5:ai w1 U:=(k2.then k3).then k4;refine⟨_,rfl,al.not (al.dec (λ_=>?_) (λm=>Zz T m))⟩;have c6:∃F',bB w0 U p F' c X/\cd F w1 F' U:=⟨F,(E.af S).af b5,(cd.refl F w1).af b5⟩
 have b6:∀w',(∃F',bB w0 w' p F' c X/\cd F w1 F' w')->w'.heap[w.heap.size]? =some (.cells (eI f ta tn tc pa pn pc).toArray 27 (0,0)):=λw' ⟨F',j,V⟩=>V.keep.get g1 λW=>by have:=c1 _ W;omega
 have q:aH 0:=by unfold aH;omega
 have u:∀{r d:World} {Y H:Nat} (s o:ei) {Z:bc} {a3:bc} {I J K:List PanicEntry->bc},(∃F',bB w0 r p F' c X/\cd F w1 F' r)->ai r d->d.heap[Y]? =some (.cells (dh s).toArray 51 (0,0))->d.heap[H]? =some (.cells (dh o).toArray 51 (0,0))->r.heap.size<=H->s.Ok->o.Ok->(s.kind=9\/s.kind=10\/s.kind=11)->(o.kind=9\/o.kind=10\/o.kind=11)->(cB c X s).1=(cB c X o).1->
   (∀w',(∃F',bB w0 w' p F' c X/\cd F w1 F' w')->Z w')->
   ∃e7:ac,jB LL 51 (RK Y) d λc0=>(¬e7 H/\jB LL 51 (RK H) d λc8=>PC LL 6 #[RK p,c0] d (λv wa=>sQ (dv LL 46) λa4=>v=a4/\(aj e7 d wa/\PC LL 6 #[RK p,c8] wa (λv wb=>sQ (dv LL 46) λa5=>v=a5/\(aj e7 wa wb/\PC LL 40 #[a4,a5] wb (λv wc=>∃l:Bool,v= .bool l/\(aj e7 wb wc/\al (!l) (a3 wc) (Z wc))) K)) J)) I):=by
  intro r d Y H s o Z a3 I J K ⟨F7,b7,c9⟩ b8 d0 b9 h3 d1 d2 d3 d4 he a0;have d5:=b7.aE;have h4:=az b9;exact⟨λb=>F7 b\/d.heap.size<=b,ar (jQ s) d0 ⟨λW=>W.elim (λm=>by have:=d5 _ m;omega) λm=>oM,ar (jQ o) b9 (XH (b7.af b8) hf hk d1 d2 d3 d4 he (λb n=>n) λw' F' j V=>a0 w' ⟨F',j,(c9.af b8).trans V⟩)⟩⟩
 refine⟨λh l w'=>∃e:Nat,l=(e:Int)-1/\e<=tn+2/\h=tn+2-e/\∃F',bB w0 w' p F' c X/\cd F w1 F' w',⟨_,0,sM,Qj _,rfl,c6⟩,?_⟩;rintro h _ _ w5 ⟨e,rfl,hj,rfl,a6⟩;refine⟨_,_,_,ae (b6 _ a6) rfl,al.dec (λh5=>?_) (λh6=>?_)⟩
 ·refine⟨λh l w'=>∃g:Nat,l=g/\g<=4/\h=4-g/\∃F',bB w0 w' p F' c X/\cd F w1 F' w',⟨_,0,rfl,oM,rfl,a6⟩,?_⟩
  rintro h _ _ w6 ⟨g,rfl,hg,rfl,B⟩;refine al.dec (λh7=>?_) (λ_=>⟨_,oM,e+1,by rw[wrap_i64 cS];omega,oM,rfl,B⟩);refine⟨λh l w'=>∃P:Nat,l=(P:Int)+9/\P<=2/\h=2-P/\∃F',bB w0 w' p F' c X/\cd F w1 F' w',⟨_,0,sM,oM,rfl,B⟩,?_⟩;rintro h _ _ r ⟨P,rfl,hu,rfl,L⟩;refine al.dec (λc2=>?_) (λ_=>⟨_,oM,g+1,an oM,oM,rfl,L⟩);have hw:IntKind.wrap .i64 ((g:Int)-1)=(g:Int)-1:=wrap_i64 cS;rw[hw];refine PC.ok xo ?_;rintro _ x ⟨rfl,M⟩;refine cg (HZ _) ⟨rfl,PA.mk λw9 k9 s9 g9=>aD (jQ ⟨(P:Int)+9,a,(g:Int)-1,AO⟩) g9 rfl λd6 a7 d7 a8=>TO (o:=0+3) (Bn ⟨(e:Int)-1,g,0,0,0,0,0⟩) a8 (by simp[dh,fh]) λi a9 d8 t=>?_⟩;have t:i.heap[x.heap.size]? =some (.cells (dh ⟨(P:Int)+9,a,(g:Int)-1,⟨(e:Int)-1,g,0,0,0,0,0⟩⟩).toArray 51 (0,0)):=t;refine ar (jQ _) t (PA.mk λd9 b0 e0 b1=>aD (jQ ⟨(P:Int)+9,a,(g:Int)-1,⟨(e:Int)-1,g,0,0,0,0,0⟩⟩) b1 rfl λe1 b2 e2 b3=>PS.mk b3 (by simp[dh,fh]) λN a1 e3 y=>λd b4=>?_);have y:N.heap[i.heap.size]? =some (.cells (dh ⟨(P:Int)+9,b,(g:Int)-1,⟨(e:Int)-1,g,0,0,0,0,0⟩⟩).toArray 51 (0,0)):=y;have kd:ai N d:=b4.keep;have O:ai i d:=((b0.new b2 λb n=>.inr (by have n:b=i.heap.size:=n;omega)).new a1 λb n=>.inr (by have n:b=i.heap.size:=n;omega)).then kd;have z8:=M.size;have a2:ai r i:=((M.then k9).new a7 λb n=>.inr (by have n:b=x.heap.size:=n;omega)).new a9 λb n=>.inr (by have n:b=x.heap.size:=n;omega);have Q:jT.Ok ⟨(e:Int)-1,(g:Int),0,0,0,0,0⟩:=⟨by show aH ((e:Int)-1);unfold aH;omega,by show aH (g:Int);unfold aH;omega,q,q,q,q⟩
  exact u _ _ L (a2.then O) (O.get t id) (kd.get y id) oM ⟨by show aH ((P:Int)+9);unfold aH;omega,by show aH (a:Int);unfold aH;omega,by show aH ((g:Int)-1);unfold aH;omega,Q⟩ ⟨by show aH ((P:Int)+9);unfold aH;omega,by show aH (b:Int);unfold aH;omega,by show aH ((g:Int)-1);unfold aH;omega,Q⟩ ek ek (Gg oM z A T) λw' hq=>⟨_,oM,P+1,by rw[wrap_i64 cS];omega,oM,rfl,hq⟩
 ·refine⟨λh l w'=>∃e:Nat,l=(e:Int)-1/\e<=pn+2/\h=pn+2-e/\∃F',bB w0 w' p F' c X/\cd F w1 F' w',⟨_,0,sM,Qj _,rfl,a6⟩,?_⟩
  rintro h _ _ w6 ⟨C,rfl,h8,rfl,B⟩;refine⟨_,_,_,ae (b6 _ B) rfl,al.dec (λf3=>?_) (λf4=>?_)⟩
  ·refine⟨λh l w'=>∃P:Nat,l=2*(P:Int)-2/\P<=3/\h=3-P/\∃F',bB w0 w' p F' c X/\cd F w1 F' w',⟨_,0,sM,oM,rfl,B⟩,?_⟩
   rintro h _ _ r ⟨P,rfl,hu,rfl,L⟩;refine al.dec (λc2=>?_) (λ_=>⟨_,oM,C+1,by rw[wrap_i64 cS];omega,oM,rfl,L⟩);refine PC.ok xo ?_;rintro _ x ⟨rfl,M⟩;refine cg (HZ _) ⟨rfl,PA.mk λw9 k9 s9 g9=>aD (jQ ⟨11,a,2*(P:Int)-2,AO⟩) g9 rfl λd6 a7 d7 a8=>PS.mk a8 (by simp[dh,fh]) λi a9 d8 t=>?_⟩;have t:i.heap[x.heap.size]? =some (.cells (dh ⟨11,a,2*(P:Int)-2,⟨0,0,(C:Int)-1,0,0,0,0⟩⟩).toArray 51 (0,0)):=t;refine ar (jQ _) t (PA.mk λd9 b0 e0 b1=>aD (jQ ⟨11,a,2*(P:Int)-2,⟨0,0,(C:Int)-1,0,0,0,0⟩⟩) b1 rfl λe1 b2 e2 b3=>PS.mk b3 (by simp[dh,fh]) λN a1 e3 y=>λd b4=>?_);have y:N.heap[i.heap.size]? =some (.cells (dh ⟨11,b,2*(P:Int)-2,⟨0,0,(C:Int)-1,0,0,0,0⟩⟩).toArray 51 (0,0)):=y;have kd:ai N d:=b4.keep;have O:ai i d:=((b0.new b2 λb n=>.inr (by have n:b=i.heap.size:=n;omega)).new a1 λb n=>.inr (by have n:b=i.heap.size:=n;omega)).then kd;have z8:=M.size;have a2:ai r i:=((M.then k9).new a7 λb n=>.inr (by have n:b=x.heap.size:=n;omega)).new a9 λb n=>.inr (by have n:b=x.heap.size:=n;omega);have Q:jT.Ok ⟨0,0,(C:Int)-1,0,0,0,0⟩:=⟨q,q,by show aH ((C:Int)-1);unfold aH;omega,q,q,q⟩
   exact u _ _ L (a2.then O) (O.get t id) (kd.get y id) oM ⟨by show aH (11:Int);unfold aH;omega,by show aH (a:Int);unfold aH;omega,by show aH (2*(P:Int)-2);unfold aH;omega,Q⟩ ⟨by show aH (11:Int);unfold aH;omega,by show aH (b:Int);unfold aH;omega,by show aH (2*(P:Int)-2);unfold aH;omega,Q⟩ (.inr (.inr rfl)) (.inr (.inr rfl)) (Gg (.inr (.inr rfl)) z A T) λw' hq=>⟨_,oM,P+1,by rw[wrap_i64 cS];omega,oM,rfl,hq⟩
  ·obtain⟨F6,e4,e5⟩:=B
   exact Ok.mk ⟨rfl,F6,e4,cd.after S e5⟩
def eD.upto{P a:Nat}(n:eD P X)(d:P<=a):eD a X:=⟨λb c=>⟨by have:=(n.aA b c).evs;omega,by have:=(n.aA b c).asked;omega⟩,n.Lu,by have:=n.now;omega⟩
def VM{k n:Int}(P:n≠0)(a:IntKind.wrap .i64 (k.tdiv n)=k.tdiv n)(x b:Operand):(do eqGuard .quo 3 x b (WP k) (WP n);binOp .quo 3 (WP k) (WP n):Sem Value).run LL w= .ok (WP (k.tdiv n)) w:=by
 simp[eqGuard,binOp,Op.intDiv,P,a]
set_option maxHeartbeats 4000000 in
def top_meet(hc:bB w0 w p F c X)(hf:eD k X)(hk:k<=300)(hm:meets c 4 0 X=some Z)(y:yC Z 0=yC Z 1)(g:tA Z 1=some i):
  bn 16 #[RK p,WP 2,.slice none 0 0] w (Ok λv w'=>v= .tuple #[.bool true,.bool true]/\∃F',bB w0 w' p F' c Z/\eD 600 Z/\cd F w F' w'):=by
 have a6:IntKind.wrap .i64 ((2:Int)*2)=4:=dC
 refine Jj ⟨λa b w'=>∃(n:Nat) (Y:cH) (F':ac),b=n/\n<=4/\a=4-n/\bB w0 w' p F' c Y/\eD (k+52*n) Y/\cd F w F' w'/\meets c (4-n) n Y=some Z,⟨_,0,X,F,rfl,oM,rfl,hc,hf,cd.refl _ _,hm⟩,?_⟩;rintro a _ _ w1 ⟨n,Y,F1,rfl,O,rfl,j,z,A,d⟩;rw[a6];refine al.dec (λa7=>?_) (λc2=>?_)
 ·obtain⟨B,hu⟩:∃B,4-n=B+1:=⟨4-n-1,oM⟩
  rw[hu]at d;unfold meets at d;split at d
  ·cases d
  rename_i Z1 Q;have R:∀{w':World} (x m:Operand),(do eqGuard .quo 3 x m (WP (n:Int)) (WP 2);binOp .quo 3 (WP (n:Int)) (WP 2):Sem Value).run LL w'= .ok (WP ((n:Int).tdiv 2)) w':=λx m=>VM dC (wrap_i64 (by rw[Int.tdiv_eq_ediv_of_nonneg oM];unfold aH;omega)) x m;refine⟨λb w'=>b=n/\w1=w',al.dec (λh=>by simp at h) (λ_=>⟨rfl,rfl⟩),?_⟩;rintro _ _ _ ⟨rfl,rfl⟩;refine⟨λw'=>∃F',bB w0 w' p F' c (Ie c n Y)/\eD (k+52*n+1) (Ie c n Y)/\cd F w F' w',⟨_,λa=>R _ _,_,λa=>OB dC _ _,λw2 C=>al.eu (λT=>λw3 d3=>⟨_,λw'=>R _ _,_,λw'=>OB dC _ _,PC.ok xo ?_⟩) (λc5=>?_)⟩,?_⟩
  ·rintro _ U ⟨rfl,o⟩
   have V:ai w1 U:=((show ai w1 w2 from C.keep).then d3.keep).then o;have e1:(n:Int).tdiv 2=(n:Int)/2:=Int.tdiv_eq_ediv_of_nonneg oM;have e2:(n:Int).tmod 2=(n:Int) % 2:=Int.tmod_eq_emod_of_nonneg oM;refine cg (HZ _) ⟨rfl,PC.ok (ug (j.af V) z oM (s:=⟨2,(n:Int).tdiv 2,(n:Int).tmod 2,AO⟩) ⟨by show aH (2:Int);unfold aH;omega,by show aH ((n:Int).tdiv 2);rw[e1];unfold aH;omega,by show aH ((n:Int).tmod 2);rw[e2];unfold aH;omega,lz⟩) ?_⟩;rintro va w5 ⟨E,a8,r,s,H⟩;refine EM a8.at' ⟨E,?_,?_,(A.af V).trans H⟩
   ·unfold Ie;rw[Zx T];exact r
   ·unfold Ie;rw[Zx T];exact s
  ·have W:Ie c n Y=Y:=by unfold Ie;rw[Zq oM]
   rw[W];exact⟨F1,j.af C.keep,z.mono,A.af C.keep⟩
  ·rintro _ w5 ⟨E,r,s,H⟩
   generalize Ie c n Y=Y1 at r s Q;refine⟨λa b w'=>∃(q:Nat) (t:cH) (F2:ac),b=q/\q<=50/\a=50-q/\bB w0 w' p F2 c t/\eD (k+52*n+1+q) t/\cd F w F2 w'/\flush c (50-q) t=some Z1,⟨_,0,Y1,E,rfl,oM,rfl,r,s,H,Q⟩,?_⟩;rintro a _ _ w6 ⟨q,t,F6,rfl,hq,rfl,I,a2,v6,P⟩;have c6:q<50:=by
    rcases Nat.lt_or_ge q 50 with h|h
    ·exact h
    ·rw[show 50-q=0 by omega]at P;cases P
   obtain⟨J,a9⟩:∃J,50-q=J+1:=⟨50-q-1,oM⟩
   rw[a9]at P;unfold flush at P;refine PC.ok (LD I) ?_;rintro _ _ ⟨rfl,rfl⟩;refine⟨_,rfl,al.dec (λb9=>?_) (λb0=>?_)⟩
   ·rw[Zq oM]at P
    refine⟨λb w'=>b=0/\w6=w',al.dec (λh=>by simp at h) (λ_=>⟨rfl,rfl⟩),?_⟩;rintro _ _ _ ⟨rfl,rfl⟩;refine PC.ok xo ?_;rintro _ w7 ⟨rfl,k7⟩;refine cg (HZ _) ⟨rfl,XI (s:=⟨3,0,0,AO⟩) (I.af k7) a2 oM (TR rfl) λwa w8 F8 c7 b1 b2 v8 ia=>?_⟩;obtain⟨ya,yg,b3,-⟩:=ia.get;split at P
    ·rename_i a0
     refine⟨_,ae yg b3,al.eu (λh=>Zz a0 h) (λ_=>al.dec (λh=>by exfalso;omega) (λ_=>⟨_,oM,q+1,_,F8,an oM,oM,rfl,b1,b2,(v6.af k7).trans v8,?_⟩))⟩;rw[show 50-(q+1)=J by omega];exact P
    ·cases P
   ·rw[Zx oM]at P
    injection P with P;subst P
    refine⟨_,oM,n+1,_,F6,an oM,oM,rfl,I,?_,v6,?_⟩
    ·exact a2.upto oM
    ·rw[show 4-(n+1)=B by omega];exact d
 ·have b4:n=4:=oM
  subst b4
  injection d with d;subst d
  have a5:eD 600 Y:=z.upto oM;refine⟨λa b w'=>∃q:Nat,b=(q:Int)+1/\q<=1/\a=1-q/\ai w1 w',⟨_,0,sM,oM,rfl,aj.refl _⟩,?_⟩;rintro a _ _ w2 ⟨q,rfl,hq,rfl,u⟩;refine al.dec (λa7=>?_) (λ_=>Ok.mk ⟨rfl,F1,j.af u,a5,A.af u⟩);have b5:q=0:=oM
  subst b5;have K:=j.af u;obtain⟨c1,c8,c9,-⟩:=j.len;unfold tA at g;unfold yC at y
  cases e:Y.aA[1]? with
  |none=>rw[e]at g;cases g
  |some R1=>
  have d0:=(Qv.1 e).1;have l:Y.aA[0]? =some Y.aA[0]:=Qq oM;generalize Y.aA[0]=R0 at l;rw[l,e]at y;have b6:R0.S.vec=R1.S.vec:=by injection y
  have hn:∀{w':World} {L:be} {M cc:Nat} {F:ac} {S:aq} (f:bh),f∈Y.aA->f.S=S->aS aO 3 F w' L M cc S.vec->Ints w' L M S.vec:=λ{w' L M cc F S} f N hS g=>by
   have d1:=a5.aA f N;have W:S.vec.length<=64:=by
    rw[aq.aY,<-hS];obtain⟨h,a1,rs,hp,d4,hX,-⟩:=id K;rw[hX]at N;obtain⟨m,hy,rfl⟩:=Xk.1 N;obtain⟨n,O⟩:=List.mem_iff_getElem?.1 hy;exact(cT.rep hp O).cl.1.ok.n
   exact(g.row (bytes:=8) dC cw).jU
  refine PC.ok (AB K) ?_;rintro _ w3 (⟨h,-⟩|⟨f,h,a3,n3,c3,F3,rfl,b7,k3,d5⟩)
  ·rw[show(0:Int)=((0:Nat):Int)from rfl,ck,l]at h;cases h
  rw[show(0:Int)=((0:Nat):Int)from rfl,ck,l]at h;injection h with h;subst h;refine⟨_,_,_,rfl,PC.ok (AB (K.af k3)) ?_⟩;rintro _ U (⟨h,-⟩|⟨f,h,a4,n4,c4,F4,rfl,b8,o,d6⟩)
  ·rw[show((0:Nat):Int)+1=((1:Nat):Int)from rfl,ck,e]at h;cases h
  rw[show((0:Nat):Int)+1=((1:Nat):Int)from rfl,ck,e]at h;injection h with h;subst h;refine⟨_,_,_,rfl,PC.ok (sG ((hn R0 (QZ l) rfl b7).af o) (hn R1 (QZ e) rfl b8)) ?_⟩;rintro _ _ ⟨rfl,rfl⟩;refine⟨_,rfl,al.eu (λh=>Zz (by rw[b6];exact Dt _ _) h) (λ_=>⟨_,oM,1,dC,oM,rfl,(u.then k3).then o⟩)⟩
end
section
variable {w w' w0 w1 w2 wb:World} {p q i k g n1:Nat} {F F1 F' G G' T D E S H H2 S':ac} {c:bF} {X Y Z:cH} {s o:ei} {x:gO} {v:Value} {ta pa la sa:be} {tn tc pn pc ln lc sn sc:Nat} {l:List ei} {hs:List XP} {seen out:List ah}
def vd(n:tA X i=some a):∃P,X.aA[i]? =some P/\P.S.l.length=a:=by
 unfold tA at n
 cases b:X.aA[i]? with
 |none=>rw[b]at n;cases n
 |some P=>rw[b]at n;exact⟨P,rfl,by simpa using n⟩
def eD.lim(P:eD k X)(b:k<=999):∀n∈X.aA,n.S.l.length<=20000000:=λn a=>by have:=(P.aA n a).evs;omega
set_option maxHeartbeats 2000000 in
def Qn(O:fE w0)(Q:Laid w0)(R:ai w0 w):bn 5 #[] w (Ok λv w'=>v= .bool true/\ai w w'):=by
 obtain⟨X,a1,P,Z,S,q,r,s,T,U,a,V,t,u⟩:=Ig;refine Jh (PC.ok zi ?_);rintro _ w2 ⟨ta,tn,tc,pa,pn,pc,G2,rfl,W,Y,k⟩;refine cg (Wf (jK 2) ta tn tc pa pn pc) ⟨rfl,PC.ok (NM (c:=jK 2) O Q (R.then k) W (λP c=>(Y P c).2) (i10 rfl) (i10 rfl) (i10 rfl)) ?_⟩;rintro v5 w5 l;unfold RX at l;rw[S]at l;obtain⟨k5,⟨b2,-⟩|⟨-,p,F,rfl,m,hF,x⟩⟩:=l
 ·exact Zz rfl b2
 dsimp only at m x;generalize jK 2=c2 at m q r s;have b3:=k.then k5;have b4:∀P,F P->w.heap.size<=P:=λP c=>by have:=hF P c;have:=k.size;omega
 refine⟨_,_,rfl,al.eu (λn=>Zz rfl n) (λ_=>jL Tryz.underlying31 ⟨_,rfl,al.ff rfl (PC.ok (ug (s:=⟨1,0,0,⟨0,0,0,1,3,-1,0⟩⟩) m x oM ⟨i10 rfl,i10 rfl,i10 rfl,i10 rfl,i10 rfl,i10 rfl,i10 rfl,i10 rfl,i10 rfl⟩) ?_)⟩)⟩;rintro va w6 ⟨F6,b5,y,z,v6⟩;rw[q]at y z;refine EM b5.at' (PC.ok (ug (s:=⟨1,1,0,⟨0,0,0,1,4,-1,0⟩⟩) y z oM ⟨i10 rfl,i10 rfl,i10 rfl,i10 rfl,i10 rfl,i10 rfl,i10 rfl,i10 rfl,i10 rfl⟩) ?_);rintro vb w7 ⟨F7,b6,f,g,v7⟩;rw[r]at f g;obtain⟨R0,A,f2⟩:=vd T;obtain⟨R1,B,g0⟩:=vd U;refine EM b6.at' ⟨λP w'=>P=true/\ai w7 w',PC.ok (jR f (g.lim oM)) ?_,?_⟩
 ·rintro _ w8 (⟨n,-⟩|⟨d,n,a8,n8,c8,F8,rfl,b7,C,g1⟩)
  ·rw[show(0:Int)=((0:Nat):Int)from rfl,ck,A]at n;cases n
  rw[show(0:Int)=((0:Nat):Int)from rfl,ck,A]at n;injection n with n;subst n;have g2:=b7.len dC;refine⟨_,_,_,rfl,al.eT (λ_=>PC.ok (jR (f.af C) (g.lim oM)) ?_) (λn=>by exfalso;omega)⟩;rintro _ w9 (⟨n,-⟩|⟨d,n,a9,n9,c9,F9,rfl,b8,h,g3⟩)
  ·rw[show(1:Int)=((1:Nat):Int)from rfl,ck,B]at n;cases n
  rw[show(1:Int)=((1:Nat):Int)from rfl,ck,B]at n;injection n with n;subst n;have g4:=b8.len dC;exact⟨_,_,_,rfl,by rw[show n9=1 by omega];rfl,C.then h⟩
 rintro _ _ w9 ⟨rfl,h⟩;refine PC.ok (top_meet (f.af h) g oM s (by rw[a,V]) t) ?_;rintro _ g5 ⟨rfl,g6,E,o,b9⟩;obtain⟨T1,i,g7⟩:=vd t;have b:∃j,Z.aA[0]? =some j/\j.S.vec=[1,1]:=by
  unfold yC at a
  cases H:Z.aA[0]? with
  |none=>rw[H]at a;cases a
  |some d=>rw[H]at a;exact⟨d,rfl,by simpa using a⟩
 obtain⟨j,b,c1⟩:=b;have c3:j.S.l=T1.S.l:=by rw[b,i]at u;simpa using u
 refine⟨_,_,rfl,al.tt rfl (al.tt rfl (al.tt rfl (PC.ok (AB E) ?_)))⟩;rintro _ g8 (⟨n,-⟩|⟨d,n,g9,h2,h3,h4,rfl,I,c4,e6⟩)
 ·rw[show(0:Int)=((0:Nat):Int)from rfl,ck,b]at n;cases n
 rw[show(0:Int)=((0:Nat):Int)from rfl,ck,b]at n;injection n with n;subst n;rw[c1]at I;refine⟨_,_,_,rfl,PA.mk λc5 J h5 c6=>PC.ok (nx ((I.af J).row dC (by unfold aP;simp)) (Row.lit c6 [1,1] rfl (λa2 K=>by simp at K;subst K;unfold aH;omega) (by unfold aP;simp))) ?_⟩;rintro _ c7 ⟨rfl,d0⟩;have d1:ai c5 c7:=d0.keep;have a0:=(c4.then J).then d1;refine⟨_,rfl,al.dec (λ_=>PC.ok zi ?_) (λn=>Zz rfl n)⟩;rintro _ h6 ⟨d2,L,d3,d4,d5,d6,h7,rfl,M,e7,d7⟩;have h8:L=1:=M.a_.len;have d8:=M.EB.len;have N:=a0.then d7;refine cg (Wf (jK 2) d2 L d3 d4 d5 d6) ⟨rfl,PC.ok (Tp (f:=jK 2) (a:=0) (b:=1) (E.af N) o oM oM (by rw[d8];decide) b i c3 (o.lim oM)) ?_⟩;rintro _ h9 ⟨rfl,i0,a6,d9⟩;refine⟨_,rfl,al.tt rfl (PC.ok (jR a6 (o.lim oM)) ?_)⟩;rintro _ i1 (⟨n,-⟩|⟨d,n,i2,e4,i3,i4,rfl,a7,e5,e8⟩)
 ·rw[show(1:Int)=((1:Nat):Int)from rfl,ck,i]at n;cases n
 rw[show(1:Int)=((1:Nat):Int)from rfl,ck,i]at n;injection n with n;subst n;have e9:=a7.len dC;have e:=((((v6.trans v7).af h).trans b9).af N).trans d9;refine⟨_,_,_,rfl,Ok.mk ⟨by rw[show e4=2 by omega];rfl,(b3.new e.keep λP c=>.inr (b4 P c)).then e5⟩⟩
def mW(n P:Nat):Nat:=(n*64+P)*20000000
def wY(n P:Nat):mW n (P+1)=mW n P+20000000:=by unfold mW;rw[<-Nat.add_assoc,X7,Nat.one_mul]
def HI{n P:Nat}(a:P<=64):mW n P<=mW (n+1) 0:=Q0 _ oM
def MZ{j e:Nat}(n:j<=300)(P:e<=64):mW j e<=400000000000:=Xx (Q0 _ (show j*64+e<=20000 by omega)) dC
def Was(X:cH)(o:Nat)(n:List Int):Prop:=n=[]\/∃P,X.aA[o]? =some P/\n=P.S.vec
structure ve (w0 w:World) (n1 p g:Nat) (c:bF) (X:cH) (hs:List XP) (sa:be) (sn sc:Nat) (seen:List ah) (F H S:ac):Prop where
 KU:bB w0 w p F c X
 CP:w.heap[g]? =some (.cells (hs.map λb=>Value.slice b.a b.n b.c).toArray 52 (0,0))
 row:∀b∈hs,Row aO 8 w H b.a b.n b.vs
 sn:aS iz 82 S w sa sn sc seen
 fF:∀b,F b->n1<=b/\b≠g/\¬H b/\¬S b
 fH:∀b,H b->n1<=b/\b<w.heap.size/\b≠g/\¬S b
 fS:∀b,S b->n1<=b/\b≠g
 hg:n1<=g
 h0:w0.heap.size<=n1
def ve.af(n:ve w0 w n1 p g c X hs sa sn sc seen F H S)(k:ai w w'):ve w0 w' n1 p g c X hs sa sn sc seen F H S where
 KU:=n.KU.af k
 CP:=k.get n.CP id
 row:=λP a=>(n.row P a).af k
 sn:=n.sn.af k
 fF:=n.fF
 fH:=λP a=>⟨(n.fH P a).1,Qk (n.fH P a).2.1 k.size,(n.fH P a).2.2⟩
 fS:=n.fS
 hg:=n.hg
 h0:=n.h0
def ve.aab(n:ve w0 w n1 p g c X hs sa sn sc seen F H S)(f:bB w0 w' p F' c Y)(v:cd F w F' w'):ve w0 w' n1 p g c Y hs sa sn sc seen F' H S where
 KU:=f
 CP:=v.keep.get n.CP λb=>(n.fF _ b).2.1 rfl
 row:=λP a=>(n.row P a).keep v.keep λx d e=>(n.fF x e).2.2.1 d
 sn:=n.sn.keep v.keep λx d e=>(n.fF x e).2.2.2 d
 fF:=λP a=>(v.new P a).elim (n.fF P) λh=>by
  have i:=az n.CP;have:=n.hg;exact⟨oM,oM,λb=>by have:=(n.fH P b).2.1;omega,λb=>by have:=n.sn.aE P b;omega⟩
 fH:=λP a=>⟨(n.fH P a).1,Qk (n.fH P a).2.1 v.keep.size,(n.fH P a).2.2⟩
 fS:=n.fS
 hg:=n.hg
 h0:=n.h0
def ve.put(n:ve w0 w n1 p g c X hs sa sn sc seen F H S){b:XP}{e:Nat}(h:Row aO 8 w H2 b.a b.n b.vs)(d:∀x,H2 x->n1<=x/\x<w.heap.size/\x≠g/\¬S x/\¬F x)(k:aj (·=g) w w')(i:w'.heap[g]? =some (.cells ((hs.set e b).map λb=>Value.slice b.a b.n b.c).toArray 52 (0,0))):
  ve w0 w' n1 p g c X (hs.set e b) sa sn sc seen F (λx=>H x\/H2 x) S where
 KU:=n.KU.keep k (λx a e=>(n.fF x a).2.1 e) λx e=>by have e:x=g:=e;have:=n.hg;have:=n.h0;omega
 CP:=i
 row:=λj f=>by
  rcases List.mem_or_eq_of_mem_set f with f|rfl
  ·exact((n.row j f).keep k λx a e=>(n.fH x a).2.2.1 e).mono λx a=>.inl a
  ·exact(h.keep k λx a e=>(d x a).2.2.1 e).mono λx a=>.inr a
 sn:=n.sn.keep k λx a e=>(n.fS x a).2 e
 fF:=λb P=>⟨(n.fF b P).1,(n.fF b P).2.1,λe=>e.elim (n.fF b P).2.2.1 λe=>(d b e).2.2.2.2 P,(n.fF b P).2.2.2⟩
 fH:=λb P=>by
  have l:=k.size;rcases P with P|P
  ·exact⟨(n.fH b P).1,by have:=(n.fH b P).2.1;omega,(n.fH b P).2.2⟩
  ·exact⟨(d b P).1,by have:=(d b P).2.1;omega,(d b P).2.2.1,(d b P).2.2.2.1⟩
 fS:=n.fS
 hg:=n.hg
 h0:=n.h0
def ve.laid{h i:Nat}(P:ve w0 w n1 p g c X hs sa sn sc seen F H S)(k:aj S w w')(j:aS iz 82 S' w' d h i out)(f:∀n,S' n->S n\/E n\/w.heap.size<=n)(b:∀n,E n->n1<=n/\n≠g/\¬F n/\¬H n):ve w0 w' n1 p g c X hs d h i out F H S':=by
 have q:=az P.CP;have l:=P.hg;have m:=P.h0;exact{
  KU:=P.KU.keep k (λn a e=>(P.fF n a).2.2.2 e) λn a=>by have:=(P.fS n a).1;omega
  CP:=k.get P.CP λe=>(P.fS g e).2 rfl
  row:=λn a=>(P.row n a).keep k λx o e=>(P.fH x o).2.2.2 e
  sn:=j
  fF:=λn a=>⟨(P.fF n a).1,(P.fF n a).2.1,(P.fF n a).2.2.1,λe=>by
   rcases f n e with e|e|e
   ·exact(P.fF n a).2.2.2 e
   ·exact(b n e).2.2.1 a
   ·have:=P.KU.aE n a;omega⟩
  fH:=λn a=>⟨(P.fH n a).1,by have:=(P.fH n a).2.1;have:=k.size;omega,(P.fH n a).2.2.1,λe=>by
   rcases f n e with e|e|e
   ·exact(P.fH n a).2.2.2 e
   ·exact(b n e).2.2.2 a
   ·have:=(P.fH n a).2.1;omega⟩
  fS:=λn e=>by
   rcases f n e with e|e|e
   ·exact P.fS n e
   ·exact⟨(b n e).1,(b n e).2.1⟩
   ·exact⟨oM,oM⟩
  hg:=l
  h0:=m}
set_option maxHeartbeats 4000000 in
def wZ(hT:fE w)(hL:Laid w)(hd:bt w D c.decl ta tn pa pn)(hD:∀n,D n->n<w.heap.size)(Q:Row EK 80 w E la ln l)(R:∀n,E n->n<w.heap.size)(hs:aH c.bk)(h9:aH c.every)(c2:aH c.start):
  bn 3 #[GK c ta tn tc pa pn pc la ln lc] w (Ok λv w'=>v= .bool true/\ai w w'):=by
 have l6:=Q.len;have J:∀{w2:World} {ε:List PanicEntry->bc},ai w w2->PC LL 5 #[] w2 (λv w3=>∃y:Bool,v= .bool y/\Ok (λv w'=>v= .bool true/\ai w w') (.returned (.bool y)) w3) ε:=λ{w2 ε} k=>by
  refine PC.ok (Qn hT hL k) ?_;rintro _ w' ⟨rfl,k'⟩;exact⟨_,rfl,Ok.mk ⟨rfl,k.then k'⟩⟩
 refine tr (PA.mk λw1 q s1 K=>ar (RY c ta tn tc pa pn pc la ln lc) K (PC.ok (Qo (w:=w1) hT hL q (hd.af q) (λn b=>by have:=hD n b;omega) (Q.af q) (λn b=>by have:=R n b;omega) hs h9 c2) ?_));rintro v3 w3 ⟨T,⟨p',rfl⟩|⟨p,F,rfl,hA,hF,d2,hz,i0⟩⟩
 ·exact⟨_,_,rfl,al.mk (λ_=>J (q.then T)) (λa=>by cases a)⟩
 have i1:=T.get K id;have z1:w.heap.size<w1.heap.size:=oM
 have z3:=T.size;obtain⟨-,l7,l8,-⟩:=hA.len;obtain⟨h,hr⟩:∃h:Nat,c.aA=h:=⟨c.aA.toNat,oM⟩
 refine⟨_,_,rfl,al.mk (λa=>by cases a) (λ_=>⟨_,ae i1 rfl,?_⟩)⟩;rw[hr];refine Ou ZA (z:=.slice none 0 0) kR rfl cw cw λw4 k4 s4 g4=>⟨_,_,_,rfl,?_⟩
 generalize l9:w3.heap.size=g at g4 s4;have b5:GL c (sJ c).2:=⟨Uz hz,λz hm=>by cases hm⟩
 have i2:=hA.aE;have d3:ve w w4 w1.heap.size p g c (sJ c).2 (List.replicate h ⟨none,0,0,[]⟩) none 0 0 [] F (λ_=>False) (λ_=>False):={
  KU:=hA.af k4
  CP:=by rw[List.map_replicate];exact g4
  row:=λn b=>by
   rw[(List.mem_replicate.1 b).2];exact⟨rfl,by unfold aP;simp,λi x a=>by simp at a⟩
  sn:=aS.nil w4
  fF:=λn b=>⟨hF n b,λP=>by have:=i2 n b;omega,id,id⟩
  fH:=λn b=>b.elim
  fS:=λn b=>b.elim
  hg:=oM
  h0:=by omega}
 generalize(sJ c).2=X0 at d3 b5 d2;refine⟨λz sa sn sc y w'=>∃(j:Nat) (X:cH) (hs:List XP) (seen:List ah) (F H S:ac),y=j/\j<=ln/\z=ln-j/\ve w w' w1.heap.size p g c X hs sa sn sc seen F H S/\eD j X/\GL c X/\hs.length=h/\(∀o n,hs[o]? =some n->Was X o n.vs)/\(∀P∈seen,Cf X P)/\seen.length<=mW j 0/\aj (λn=>w1.heap.size<=n) w1 w',
  ⟨_,0,X0,_,[],F,_,_,rfl,Qj _,rfl,d3,d2,b5,sM,λo n a=>.inl (by rw[(List.mem_replicate.1 (QZ a)).2]),sM,sM,ai.keep (T.then k4)⟩,?_⟩
 rintro z sa sn sc _ _ w5 ⟨j,X,i3,seen,F5,H5,S5,rfl,hj,rfl,U,hf,i4,i5,d4,c3,i6,V⟩;have d5:=V.get K oM;have kE:aj (λn=>w1.heap.size<=n) w w5:=(ai.keep q).then V;refine⟨_,_,_,ae d5 rfl,al.dec (λm0=>?_) (λ_=>J (q.new V λn b=>.inr (by have b:w1.heap.size<=n:=b;omega)))⟩;obtain⟨n,o,s,a0,d8,a1,e5,b6,a2⟩:=RZ (Q.keep kE λn b a=>by have:=R n b;omega) (j:=j) oM;have k0:=R n a1;refine⟨_,_,_,ae d5 rfl,n,o,a0,oM,oM,?_⟩;refine a2 _ (PC.ok (ug U.KU hf oM b6) ?_);rintro va w6 ⟨F6,d6,c4,c5,v6⟩;have a3:=U.KU.facts c2;obtain⟨a4,c6⟩:=i4.step a3 b6;have d7:=U.aab c4 v6;have c7:=c4.facts c2;have i7:∀n,F5 n->w1.heap.size<=n:=λn b=>(U.fF n b).1;have k6:aj (λn=>w1.heap.size<=n) w1 w6:=V.then (v6.keep.mono λn _ b=>i7 n b);refine EM d6.at' ?_;generalize(cB c X s).2=Y at c4 c5 a4 c6 d7 c7
 clear d6
 refine⟨λz sa sn sc y w'=>∃(P:Nat) (hs:List XP) (seen:List ah) (F H S:ac),y=P/\P<=h/\z=h-P/\ve w w' w1.heap.size p g c Y hs sa sn sc seen F H S/\hs.length=h/\(∀o n,hs[o]? =some n->(o<P->Was Y o n.vs)/\(P<=o->Was X o n.vs))/\(∀P∈seen,Cf Y P)/\seen.length<=mW j P/\aj (λn=>w1.heap.size<=n) w1 w',
  ⟨_,0,i3,seen,F6,H5,S5,rfl,Qj _,rfl,d7,i5,λo n a=>⟨λa=>oM,λ_=>d4 o n a⟩,λP W=>(c3 P W).gr c6,i6,k6⟩,?_⟩
 rintro z m1 m2 m3 _ _ w7 ⟨P,L,b7,Z,H7,S7,rfl,W,rfl,m,a5,A,a6,e6,B⟩;have d9:=B.get K oM;refine⟨_,ae d9 rfl,al.dec (λk2=>?_) (λl0=>⟨_,oM,j+1,Y,L,b7,Z,H7,S7,an oM,oM,rfl,m,c5,a4,a5,λo n a=>(A o n a).1 (by have:=(Qv.1 a).1;omega),a6,Xx e6 (HI oM),B⟩)⟩;obtain⟨m4,-⟩:=m.KU.len;have f:Y.aA[P]? =some Y.aA[P]:=Qq oM;generalize Y.aA[P]=d at f;have i8:=QZ f;obtain⟨a7,c9,-,i9,-⟩:=c7.cl d i8;have m5:d.S.n<=64:=a7.ok.n;refine PC.ok (AB m.KU) ?_;rintro _ w8 (⟨a,-⟩|⟨R1,e,a8,n8,c8,F8,rfl,e0,C,M⟩)
 ·rw[ck,f]at a;cases a
 rw[ck,f]at e;injection e with e;subst e;have I:=m.af C;have d0:Row aO 8 w8 F8 a8 n8 d.S.vec:=e0.row dC (by rw[aq.aY];unfold aP;omega);have e1:=d0.jU;obtain⟨r,a9⟩:∃n,L[P]? =some n:=⟨_,Qq oM⟩
 have b8:((L.map λn=>Value.slice n.a n.n n.c).toArray)[0+P]? =some (.slice r.a r.n r.c):=by rw[Xz];simp[a9]
 have e2:=(I.row r (QZ a9)).jU;have e3:=(A P r a9).2 (Q4 _);have j0:=C.get d9 id;have j1:aj (λn=>w1.heap.size<=n) w w8:=((ai.keep q).then B).then (ai.keep C);have m6:=B.size;have m7:=C.size;refine⟨_,_,_,rfl,λw'=>w8=w',al.dec (λm8=>?_) (λ_=>rfl),?_⟩
 ·refine⟨g,0,rfl,oM,oM,_,_,_,by rw[Qx];exact ae I.CP b8,PC.ok (sG e1 e2) ?_⟩
  rintro _ _ ⟨rfl,rfl⟩;refine⟨_,rfl,al.eT (λe4=>?_) (λ_=>rfl)⟩;obtain⟨e7,o9,s9,e9,N,f0,-,f1,O,rfl,-⟩:=(Q.keep j1 λn b a=>by have:=R n b;omega).vv (i:=j) oM;refine⟨_,_,_,ae j0 rfl,e7,o9,N,oM,oM,_,O 0 dC,al.eu (λ_=>?_) (λ_=>rfl)⟩;refine⟨_,oM,P+1,L,b7,Z,H7,S7,an oM,oM,rfl,I,a5,λo n a=>⟨λho=>?_,λho=>(A o n a).2 oM⟩,a6,by rw[wY];omega,B.then (ai.keep C)⟩
  by_cases b0:o=P
  ·subst b0
   rw[a9]at a;injection a with a;subst a;rcases e3 with a|⟨R0,h3,h4⟩
   ·exact .inl a
   ·refine .inr ⟨d,f,?_⟩
    rw[h4]at e4⊢;exact(WY (by rw[(a3.cl R0 (QZ h3)).2.1,c9]) e4).symm
  ·exact(A o n a).1 oM
 rintro _ _ rfl;refine⟨g,0,rfl,oM,oM,_,_,_,by rw[Qx];exact ae I.CP b8,PC.ok (sG e2 e1) ?_⟩;rintro _ _ ⟨rfl,rfl⟩;have f2:ic r.vs d.S.vec=0\/ic r.vs d.S.vec=1:=by
  rcases e3 with a|⟨R0,h3,h4⟩
  ·rw[a];exact nil_le d.S
  ·rw[h4]
   obtain⟨R',h5,h6⟩:=c6 P R0 h3;rw[f]at h5;injection h5 with h5;subst h5;obtain⟨f3,f4,-⟩:=a3.cl R0 (QZ h3);exact WX f3 a7 (by rw[c9,f4]) h6
 refine⟨_,rfl,λw'=>w8=w',al.eu (λh0=>al.eu (λe=>Zz (f2.resolve_left h0) e) (λ_=>rfl)) (λ_=>rfl),?_⟩;rintro _ _ rfl;refine⟨g,0,rfl,oM,oM,?_⟩;rw[Qx];refine PS.mk I.CP dg λw9 k9 s9 g9=>?_;have f5:=m.KU.aE;have f6:=m.sn.aE;have l3:=az m.CP;have m9:=m.hg;have j2:=e0.aE;have t:=I.put (b:=⟨a8,n8,c8,d.S.vec⟩) (e:=P) d0 (λx u=>⟨by have:=M x u;omega,j2 x u,by have:=M x u;omega,λP=>by have:=f6 x P;have:=M x u;omega,λP=>by have:=f5 x P;have:=M x u;omega⟩) k9 (by rw[g9,Xz];simp[List.map_set]);have n0:=k9.size;have j3:=d0.keep k9 λx u P=>by have P:x=g:=P;have:=M x u;omega
 have j4:aj (λn=>w1.heap.size<=n) w1 w9:=(B.then (ai.keep C)).then (k9.mono λn _ P=>by have P:n=g:=P;omega);refine PC.ok (jR t.KU (c5.lim oM)) ?_;rintro _ j5 (⟨a,-⟩|⟨R1,e,j6,j7,n2,e8,rfl,b1,b3,b2⟩)
 ·rw[ck,f]at a;cases a
 rw[ck,f]at e;injection e with e;subst e;have b4:=t.af b3;have f7:=b1.aE;have f8:=b1.len dC;have n3:d.S.l.length<=20000000:=i9;have b9:lu d.S.vec d.S.vec.length=(d.S.l.length:Int):=by rw[aq.aY];exact U_ a7
 refine⟨_,_,_,rfl,PC.ok (Vv ((j3.af b3).jU) (by rw[b9];omega)) ?_⟩;rintro _ _ ⟨rfl,rfl⟩;have c0:Row iz 96 j5 e8 j6 j7 d.S.l:=b1.row dC cw;refine⟨_,_,rfl,PC.ok (Vw (Q:=Cf Y) b4.sn c0 (λn b=>⟨f7 n b,λP=>by have:=t.sn.aE n P;have:=b2 n b;omega⟩) a6 (λP W=>a4.born f W) (λf9 n ha b a=>UZ c7 ha b a) (by have:=MZ (j:=j) (e:=P) oM oM;omega)) ?_⟩;rintro _ j8 ⟨n4,n9,o0,j9,out,rfl,g0,g2,h8,d1,g3⟩;have l4:=b3.size;have l5:=az t.CP;have g5:=t.KU.aE;have g6:∀n,e8 n->w1.heap.size<=n/\n≠g/\¬Z n/\¬(H7 n\/F8 n):=λn b=>by
  have e:=b2 n b;exact⟨oM,oM,λP=>by have:=g5 n P;omega,λP=>by have:=(t.fH n P).2.1;omega⟩
 have g7:=b4.laid d1 g0 g3 g6;have c1:aj (λn=>w1.heap.size<=n) w1 j8:=(j4.then (ai.keep b3)).then (d1.mono λn _ b=>(b4.fS n b).1);have g8:=c1.get K oM;have h2:=c0.keep d1 λn b P=>by have:=t.sn.aE n P;have:=b2 n b;omega
 refine⟨_,_,_,_,rfl,al.ff rfl (al.eu (λa=>Zz (by rw[b9,f8]) a) (λ_=>⟨_,ae g8 rfl,?_⟩))⟩;rw[hr];refine PC.ok (M_ a7 (n:=h) (by rw[c9];omega) h2) ?_;rintro _ o1 ⟨rfl,h7⟩;refine⟨_,rfl,al.ff rfl ⟨_,oM,P+1,L.set P ⟨a8,n8,c8,d.S.vec⟩,out,Z,_,j9,an oM,oM,rfl,g7.af h7,by rw[List.length_set];exact a5,λo n a=>?_,g2,by rw[wY];omega,c1.then (ai.keep h7)⟩⟩
 by_cases b0:o=P
 ·subst b0
  rw[List.getElem?_set_self oM]at a
  injection a with a;subst a
  exact⟨λ_=>.inr ⟨d,f,rfl⟩,λa=>oM⟩
 ·rw[List.getElem?_set_ne (Ne.symm b0)]at a
  exact⟨λho=>(A o n a).1 oM,λho=>(A o n a).2 oM⟩

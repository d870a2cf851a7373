import Derived.Test.YtkpomgifkloklaaGreatDoorKe16
set_option maxHeartbeats 4000000
set_option linter.all false
set_option maxRecDepth 20000
open Go.IntKind renaming wrap→PP
namespace Go.Proofs.YtkpomgifkloklaaGreatDoor
open Go.aw
structure KT where
 m:bG
 va:be
 vn:Nat
 vc:Nat
 ea:be
 en:Nat
 ec:Nat
def PF:kq KT:=flat 5 (λn=>et n.m n.va n.vn n.vc n.ea n.en n.ec) (λ_=>True) (λ_=>rfl) (λa b P=>by
 simp only[et,Q2,List.not_mem_nil,or_false]at P;rcases P with rfl|rfl|rfl|rfl|rfl<;>rfl)
def KT.In(P:World)(D:ac)(n:KT):Prop:=Row aO 8 P D n.va n.vn n.m.vec/\Row iz 96 P D n.ea n.en n.m.events
def Fe:ki LL 101 97 PF.k 72:=⟨kR,kR,dC⟩
def br(b:World)(f:List bG)(g:Value)(a:World):Prop:=
 ∃(P:be) (d e:Nat) (c:List KT) (D:ac),g= .slice P d e/\aS PF 97 (λn=>aI P=some n) a P d e c/\c.map (·.m)=f/\(∀n∈c,n.In a D)/\(∀n,D n->b.heap.size<=n/\n<a.heap.size/\aI P≠some n)/\(∀n,aI P=some n->b.heap.size<=n)/\ai b a
variable{e r:Int}{a5:List bG}{f:ac}{d v:be}{h:Program}{j:Type}{g q:TypeId}{b:World}
section
variable {w w':World} {p:Nat} {F D:ac} {S:aq} {a:be} {n c:Nat}
def KT.In.keep{n:KT}(P:n.In w D)(a:aj f w w')(b:∀n,D n->¬f n):n.In w' D:=⟨P.1.keep a b,P.2.keep a b⟩
def KT.In.mono{n:KT}(P:n.In w D)(a:∀n,D n->f n):n.In w f:=⟨P.1.mono a,P.2.mono a⟩
def dF{n:kq j}{bytes:Nat}(w:World)(D:ac):Row n bytes w D none 0 []:=⟨rfl,sM,λa b P=>by simp at P⟩
def br.nil(w:World):br w [] (.slice none 0 0) w:=⟨none,0,0,[],λ_=>False,rfl,(aS.nil w).mono (λP n=>n.elim) (λP n=>(by cases n)),rfl,sM,λP n=>n.elim,λP n=>(by cases n),aj.refl _⟩
def br.af{h:Value}(f:br b a5 h w)(e:ai w w'):br b a5 h w':=by
 obtain⟨a,n,c,i,D,j,k,l,m,g,o,p⟩:=f;exact⟨a,n,c,i,D,j,k.af e,l,λP d=>(m P d).keep e λ_ _ f=>f,λP d=>⟨(g P d).1,by have:=e.size;have:=(g P d).2.1;omega,(g P d).2.2⟩,o,p.then e⟩
def br.push(s:br b a5 (.slice a n c) w)(K:ki h g 97 PF.k 72){m:bG}{j k l o x:Nat}{L:Nat×Nat}{E:ac}(M:(⟨m,d,j,k,v,l,o⟩:KT).In w E)(y:∀P,E P->b.heap.size<=P/\P<w.heap.size/\aI a≠some P)(N:w.heap[x]? =some (.cells (et m d j k v l o).toArray 97 L))(V:a5.length<=1000){z O:am}(t:∀f i w',br b (a5++[m]) (.slice f (n+1) i) w'->aj (λP=>aI a=some P) w w'->z (.slice f (n+1) i) w'):
  aK h (Builtin.append_ #[g,g] q #[.slice a n c,.slice (UV x) 1 1]) w z O:=by
 obtain⟨W,X,Y,u,D,Q,R,A,S,B,C,F⟩:=s
 cases Q
 have Z:u.length=a5.length:=by rw[<-A,Q8]
 refine fV (c:=PF) (x:=⟨m,d,j,k,v,l,o⟩) (D:=λ_=>False) R K N ⟨rfl,trivial⟩ (λP e=>e.elim) cw (by unfold maxLen;omega) λf i w' F' p r T=>?_;have H:∀P,aI f=some P->aI a=some P\/w.heap.size<=P:=λP e=>(T P (p.self P e)).imp id λs=>s.resolve_left id;have a0:=r.size;have z7:=F.size;refine t f i w' ⟨f,n+1,i,u++[⟨m,d,j,k,v,l,o⟩],λP=>D P\/E P,rfl,(show aS PF 97 (λP=>aI f=some P) w' f (n+1) i (u++[⟨m,d,j,k,v,l,o⟩])from p.alone),by rw[Q3,A];rfl,λP e=>?_,λP e=>?_,λP e=>?_,F.new r λP e=>.inr (C P e)⟩ r
 ·rcases Q6.1 e with e|e
  ·exact((S P e).keep r λP e=>(B P e).2.2).mono λP e=>.inl e
  ·simp at e;subst e
   exact(M.keep r λP e=>(y P e).2.2).mono λP e=>.inr e
 ·have I:b.heap.size<=P/\P<w.heap.size/\aI a≠some P:=e.elim (B P) (y P)
  exact⟨I.1,oM,λU=>(H P U).elim I.2.2 oM⟩
 ·rcases H P e with J|J
  ·exact C P J
  ·omega
def OD(z:br b a5 (.slice a n c) w)(O:a5.length<=1000):
  bn 164 #[WP e,WP r,.slice a n c] w (Ok λA w'=>br b (a5.map λm=>{m with bO:=e,m_:=r}) A w'):=by
 obtain⟨Q,R,S,d,D,B,s,x,C,o,y,E⟩:=z
 cases B
 have T:d.length=a5.length:=by rw[<-x,Q8]
 have U:=s.len dC;obtain⟨g,j⟩:∃g:KT->KT,g=λf=>{f with m:={f.m with bO:=e,m_:=r}}:=⟨_,rfl⟩
 refine Mc ⟨λm h w'=>∃P:Nat,h=P/\P<=n/\m=n-P/\aS PF 97 (λf=>aI a=some f) w' a n c ((d.take P).map g++d.drop P)/\aj (λf=>aI a=some f) w w',⟨_,0,rfl,Qj _,rfl,by simpa using s,aj.refl _⟩,?_⟩;rintro m _ _ V ⟨P,rfl,W,rfl,t,p⟩;refine al.dec (λX=>?_) (λY=>?_)
 ·have q:d[P]? =some d[P]:=Qq oM
  have k:∃l,a=UV l:=by
   obtain⟨cs,D,F,-⟩:=s.body;rcases F.cases with⟨_,Z,_,_⟩|⟨l,H,rfl,_⟩
   ·omega
   ·exact⟨l,rfl⟩
  obtain⟨l,k⟩:=k;have u:((d.take P).map g++d.drop P)[P]? =some d[P]:=by
   rw[X8 dg];simp[Qy,X2 (show P<=d.length by omega)]
  generalize d[P]=h at q u;have I:P<((d.take P).map g++d.drop P).length:=(Qv.1 u).1;refine⟨l,0,k,oM,oM,?_⟩;rw[Qx];refine aS.set (x':={h with m:={h.m with bO:=e}}) (j:=1) t u dC rfl k λa3 J K a4=>⟨l,0,k,oM,oM,?_⟩
  refine aS.set (x:={h with m:={h.m with bO:=e}}) (x':=g h) (j:=2) J (by rw[List.getElem?_set_self I]) dC (by rw[j];rfl) k λa0 v L a6=>⟨_,?_,P+1,an oM,oM,rfl,?_,(p.then K).then L⟩
  ·omega
  ·rw[List.set_set]at v
   have M:((d.take P).map g++d.drop P).set P (g h)=(d.take (P+1)).map g++d.drop (P+1):=by
    have N:((d.take P).map g).length=P:=by simp;omega
    rw[Qw,q,Q3,XQ,List.set_append,Zq oM,N,Nat.sub_self,X4 (show P<d.length by omega)];rfl
   rw[M]at v;exact v
 ·obtain rfl:P=n:=oM
  rw[Qz oM,List.drop_eq_nil_of_le oM,List.append_nil]at t;refine Ok.mk ⟨a,P,c,d.map g,D,rfl,t,?_,λf i=>?_,λf i=>⟨(o f i).1,by have:=p.size;have:=(o f i).2.1;omega,(o f i).2.2⟩,y,E.new p λf i=>.inr (y f i)⟩
  ·rw[<-x,List.map_map,List.map_map,j];rfl
  ·obtain⟨h,q,rfl⟩:=Xk.1 i
   have:=(C h q).keep p λf i=>(o f i).2.2;rw[j];exact this
end
variable{a c:Nat}
section
variable {w w':World} {p:Nat} {F D E:ac} {S:aq} {m:bG} {va ea:be} {vn vc en ec:Nat}
def br.Iu{a:Value}(e:br b a5 a w)(c:ai w' b):br w' a5 a w:=by
 obtain⟨f,g,h,i,D,j,k,l,m,d,o,p⟩:=e;have:=c.size;exact⟨f,g,h,i,D,j,k,l,m,λn P=>⟨by have:=(d n P).1;omega,(d n P).2⟩,λn P=>by have:=o n P;omega,c.then p⟩
def br.len(n:br b a5 (.slice d a c) w):a=a5.length:=by
 obtain⟨g,h,i,j,D,P,e,f,-⟩:=n
 cases P
 rw[e.len dC,<-f,Q8]
def br.sl{n:Value}(P:br b a5 n w):∃a c d,n= .slice a c d:=by
 obtain⟨f,g,h,i,D,e,-⟩:=P;exact⟨_,_,_,e⟩
def Kn(h:cM w p F S)(hl:S.l.length<=20000000)(Z:Row aO 8 w D va vn m.vec):
  bn 102 #[RK p,WP e,iW m va vn vc ea en ec,WP r] w (Ok (br w (ly S e m r))):=by
 have hS:=h.1;have hN:=hS.n;refine DQ (PA.mk λa l g4 x=>⟨λw'=>a=w'/\(m.kind=1\/m.kind=2),⟨_,ae x rfl,al.eu (λo=>⟨_,ae x rfl,al.eu (λc=>Ok.mk ?_) (λc=>⟨rfl,.inr c⟩)⟩) (λo=>⟨rfl,.inl o⟩)⟩,?_⟩)
 ·unfold ly;rw[Zx ⟨o,c⟩];exact(br.nil a).Iu l
 rintro _ _ ⟨rfl,hk⟩;have b9:¬(m.kind≠1/\m.kind≠2):=oM
 obtain⟨s,K⟩:∃s,s=S.missing m.vec (max 1 (min r 32)):=⟨_,rfl⟩
 have b4:(if(if 32<r then 32 else r)>1 then(if 32<r then 32 else r)else 1)=max 1 (min r 32):=by split<;>split<;>omega
 obtain⟨d,E⟩:∃d:List bG,d=if 0<s.length then [⟨3,0,0,[],s⟩]else []:=⟨_,rfl⟩
 have g5:d.length<=1:=by rw[E];split<;>simp
 refine⟨λg i j w'=>br a d (.slice g i j) w'/\ai a w',⟨_,_,_,ae x rfl,?_⟩,?_⟩
 ·refine PC.ok (by rw[b4];exact zj (h.af l) hl (Z.af l)) ?_
  rw[<-K];rintro _ g6 ⟨b7,n2,y,G,rfl,L,H,hG⟩;have g7:=L.len dC;have e1:=L.aE;refine⟨_,_,_,rfl,al.dec (λg2=>PA.mk λg8 M g9 e2=>?_) (λhz=>⟨?_,H⟩)⟩
  rotate_left
  ·rw[E,Zq oM]
   exact(br.nil a).af H
  have h8:s.length<=20000000:=by
   rw[K];unfold aq.missing;rw[Qy];have:=List.length_filter_le (λf:ah=>decide (max 0 (dH m.vec f.origin)<f.seq)) S.l;omega
  refine br.push (m:=⟨3,0,0,[],s⟩) (E:=G) ((br.nil a).af (H.then M)) Fe ⟨dF _ _,(L.af M).row dC cw⟩ (λn P=>⟨by have:=hG n P;omega,by have:=e1 n P;omega,λf=>by cases f⟩) e2 sM λa' c' h9 c4 e3=>⟨_,_,_,rfl,?_,?_⟩
  ·rw[E,Zx oM];exact c4
  ·exact(H.then M).new e3 λn P=>(by cases P)
 rintro I on oc _ e4 ⟨N,O⟩;have a0:=l.then O;have e5:=O.size;refine PC.ok (mK (h.af a0)) ?_;rintro _ u ⟨a3,n3,c3,G3,rfl,c6,c7,c8⟩;have i0:=a0.size;have c9:=c6.aE;have d0:Row aO 8 u G3 a3 n3 S.vec:=c6.row dC (by rw[S.aY];unfold aP;omega);obtain⟨b,v⟩:∃b:List bG,b=if m.kind=1/\(ic m.vec S.vec=2\/ic m.vec S.vec=3)then [⟨2,0,0,S.vec,[]⟩]else []:=⟨_,rfl⟩
 have i1:b.length<=1:=by rw[v];split<;>simp
 have z:=O.then c7;have Q:∀n,aI I=some n->n<e4.heap.size:=λn P=>by
  obtain⟨a1,n1,t,a2,D,k,c,-⟩:=N
  cases k
  exact c.aE n P
 refine⟨_,_,_,rfl,λg i j w'=>br a (d++b) (.slice g i j) w'/\w'.heap[w.heap.size]? =some (.cells (et m va vn vc ea en ec).toArray 97 (0,0))/\ai a w',⟨_,_,_,ae (z.get x id) rfl,PC.ok (sG ((Z.af (l.then z)).jU) d0.jU) ?_⟩,?_⟩
 ·rintro _ _ ⟨rfl,rfl⟩
  have R:=z.get x id;have a4:=N.af c7;have q:∀n,aI I=some n->a.heap.size<=n:=λn P=>by
   obtain⟨a1,n1,t,a2,D,k,c,A,h4,h5,T,h7⟩:=N
   cases k
   exact T n P
  have no:b=[]->br a (d++b) (.slice I on oc) u/\u.heap[w.heap.size]? =some (.cells (et m va vn vc ea en ec).toArray 97 (0,0))/\ai a u:=λP=>⟨by rw[P,List.append_nil];exact a4,R,z⟩
  have B:∀{ε:am} {U:be->Nat->Nat->bc},b=[⟨2,0,0,S.vec,[]⟩]->(∀g i j w',br a (d++b) (.slice g i j) w'/\w'.heap[w.heap.size]? =some (.cells (et m va vn vc ea en ec).toArray 97 (0,0))/\ai a w'->U g i j w')->
    PA u (.cells #[WP 2,WP 0,WP 0,.slice a3 n3 c3,.slice none 0 0] 97) λd1=>aK LL (Builtin.append_ #[101,101] 101 #[.slice I on oc,.slice (UV u.heap.size) 1 1]) d1 (λe6 d2=>∃(a5:be) (a6:Nat) (a7:Nat),e6= .slice a5 a6 a7/\U a5 a6 a7 d2) ε:=λ{ε U} P V=>by
   refine PA.mk λd1 J i2 e7=>br.push (m:=⟨2,0,0,S.vec,[]⟩) (E:=G3) (a4.af J) Fe ⟨d0.af J,dF _ _⟩ (λn P=>⟨by have:=c8 n P;omega,by have:=c9 n P;omega,λf=>by have:=Q n f;have:=c8 n P;omega⟩) e7 oM λa' c' d2 d3 d4=>⟨_,_,_,rfl,V _ _ _ _ ⟨by rw[P];exact d3,d4.get (J.get R id) λf=>?_,?_⟩⟩
   ·have:=q _ f;omega
   ·exact(z.then J).new d4 λn P=>.inr (q n P)
  refine⟨_,rfl,_,ae R rfl,al.eT (λo=>al.eT (λc=>B (by rw[v,Zx ⟨o,.inl c⟩]) λg i j w' h=>h) (λc=>al.eT (λA=>B (by rw[v,Zx ⟨o,.inr A⟩]) λg i j w' h=>h) (λA=>no (by rw[v,Zq];rintro⟨-,h|h⟩;exact c h;exact A h)))) (λo=>no (by rw[v,Zq λh=>o h.1]))⟩
 rintro e8 i3 i4 _ e9 ⟨C,W,a8⟩;have d5:=l.then a8;have f2:=a8.size;have a9:=C.len;have g3:(d++b).length<=2:=by rw[QX];omega
 have b0:∀{X:List bG},(if(d++b).isEmpty then [Av S e m.bO]else(d++b).map λb5=>{b5 with bO:=e,m_:=m.bO})=X->ly S e m r=X:=λ{X} hq=>by
  rw[<-hq];unfold ly;rw[Zq b9,<-K];rw[E,v];have p1:(decide (ic m.vec S.vec=2\/ic m.vec S.vec=3))=decide (ic m.vec S.vec=2\/ic m.vec S.vec=3):=rfl
  by_cases t:0<s.length<;>by_cases y:m.kind=1/\(ic m.vec S.vec=2\/ic m.vec S.vec=3)
  ·simp[t,y]
  ·simp[t,y]
  ·simp[t,y]
  ·simp[t,y]
 refine al.eT (λh0=>⟨_,ae W rfl,PC.ok (Kf (h.af d5)) ?_⟩) (λh0=>⟨_,ae W rfl,PC.ok (OD C oM) ?_⟩)
 ·have k:d++b=[]:=QW oM
  rintro _ i5 ⟨b8,n5,c5,G5,rfl,d6,d7,d8⟩;have d9:=d6.aE;rw[k]at C;refine⟨_,_,_,_,_,_,_,_,_,rfl,PA.mk λi6 Y i7 g0=>?_⟩;have b1:∀n,aI e8=some n->a.heap.size<=n/\n<e9.heap.size:=λn P=>by
   obtain⟨a1,n1,t,a2,D,k,c,A,h4,h5,T,h7⟩:=C
   cases k
   exact⟨T n P,c.aE n P⟩
  refine br.push (m:=Av S e m.bO) (E:=G5) (C.af (d8.then Y)) Fe ⟨(d6.af Y).row dC (by show S.vec.length*8<=aP;rw[S.aY];unfold aP;omega),dF _ _⟩ (λn P=>⟨by have:=d7 n P;have:=d5.size;omega,by have:=d9 n P;omega,λf=>by have:=(b1 n f).2;have:=d7 n P;omega⟩) g0 sM λa' c' i8 e0 g1=>⟨_,_,_,rfl,_,ae (g1.get ((d8.then Y).get W id) λf=>by have:=(b1 _ f).1;omega) rfl,?_⟩
  refine PC.ok (OD e0 sM) ?_;rintro b6 i9 b2;obtain⟨g,i,j,rfl⟩:=b2.sl;refine⟨_,_,_,rfl,Ok.mk ?_⟩;rw[b0 (Zx (by rw[k];rfl))];exact b2.Iu l
 ·rintro b6 j0 b3
  obtain⟨g,i,j,rfl⟩:=b3.sl;refine⟨_,_,_,rfl,Ok.mk ?_⟩;rw[b0 (Zq (by
   intro k;have:d++b=[]:=by simpa using k
   rw[this]at a9;simp at a9;omega))]
  exact b3.Iu l
end
def fh(n:jT):List Value:=[WP n.a_,WP n.agg,WP n.field,WP n.op,WP n.arg,WP n.expect,WP n.key]
abbrev Bp(n:jT):Value:=.agg (fh n).toArray
def Bn(n:jT):iQ LL 49 (fh n)=true:=kR
variable{s:List Int}{R:aU}{b8:jT}
section
variable {w w':World} {D:ac}
def DH{tn m k o:Nat}(p:fE w)(h:bt w D R d tn v k)(q:∀a,D a->a<w.heap.size):
  bn 108 #[.agg #[.slice d tn m,.slice v k o],Bp b8] w (Ok λe w'=>e= WP (iX R b8)/\ai w w'):=by
 refine zI (PA.mk λu r x b=>PA.mk λs l y n=>?_);have b:=l.get b id;have c:=r.then l;have P:(b8.agg<0\/b8.key<0\/b8.expect< -1)->Ok (λe w'=>e= WP (iX R b8)/\ai w w') (.returned (WP 1)) s:=λf=>Ok.mk ⟨by unfold iX;rw[Zx f],c⟩;refine⟨_,ae n rfl,al.dec (λg=>P (.inl g)) (λg=>⟨_,ae n rfl,al.dec (λi=>P (.inr (.inl i))) (λi=>⟨_,ae n rfl,al.dec (λj=>P (.inr (.inr j))) (λj=>⟨_,_,_,_,_,_,ae b rfl,ae b rfl,_,ae n rfl,_,ae n rfl,_,ae n rfl,_,ae n rfl,PC.ok (yI (p.af c) (h.af c) λa f=>by have:=q a f;omega) ?_⟩)⟩)⟩)⟩;rintro _ z ⟨rfl,t⟩;exact⟨_,rfl,Ok.mk ⟨by unfold iX;rw[Zq (by rintro(h|h|h);exact g h;exact i h;exact j h)],c.then t⟩⟩
def GN(a:∀b∈s,aH b)(n:Int):0<=dH s n/\dH s n<=9223372036854775807:=by
 unfold dH;split
 ·omega
 ·by_cases P:n.toNat<s.length
  ·have:=a _ (XY P)
   unfold aH at this;simp only[QQ,Qq P,Option.getD_some];omega
  ·simp only[QQ,Q7 (Nat.le_of_not_lt P),Option.getD_none]
   omega
def Pe(n P:List Int):(jC n P).length=max n.length P.length:=by unfold jC;rw[tH]
def UC(P a:List Int)(d:∀n∈P,aH n)(e:∀n∈a,aH n):∀n∈jC P a,aH n:=by
 intro n b;unfold jC oX at b;obtain⟨c,-,rfl⟩:=Xk.1 b;have f:=GN d c;have g:=GN e c;unfold aH;omega
def kj(Q:Row aO 8 w D d a s)(hl:r<=9223372036854775807)(hn:s.length<=20000000):
  bn 115 #[Bp b8,WP e,.slice d a c,WP r] w (Ok λv w'=>∃d a j G,v= .tuple #[lg (aX b8 e s r).2 d a j,WP (aX b8 e s r).1]/\Row aO 8 w' G d a (aX b8 e s r).2.aM/\(∀n,G n->w.heap.size<=n/\n<w'.heap.size)/\ai w w'):=by
 have a9:=Q.len;have A:=Q.jU;refine zJ (PA.mk λB k1 s1 K=>PA.mk λL R s2 S=>?_);have K:=R.get K id;have j:=k1.then R;have k:∀{m:World} {no:Int},ai L m->aX b8 e s r=(no,sS)->oQ LL 82 (RK B.heap.size) (lg sS none 0 0) m λw4=>jB LL 82 (RK B.heap.size) w4 λv=>Ok (λv w'=>∃d a j G,v= .tuple #[lg (aX b8 e s r).2 d a j,WP (aX b8 e s r).1]/\Row aO 8 w' G d a (aX b8 e s r).2.aM/\(∀n,G n->w.heap.size<=n/\n<w'.heap.size)/\ai w w') (.returned (.tuple #[v,WP no])) w4:=λ{m no} C T=>
  aD (bg sS none 0 0) (C.get S id) rfl λw4 l s4 M=>ar (bg sS none 0 0) M (Ok.mk ⟨none,0,0,λ_=>False,by rw[T],by rw[T];exact Row.nil _ _,λn P=>P.elim,(j.then C).new l λn P=>.inr oM⟩)
 refine al.dec (λU=>k (aj.refl _) ?_) (λU=>al.dec (λh2=>k (aj.refl _) ?_) (λh2=>al.dec (λC=>k (aj.refl _) ?_) (λC=>PC.ok (mM (A.af j)) ?_)))
 ·unfold aX;rw[Zx (.inl U)]
 ·unfold aX;rw[Zx (.inr (.inl oM))]
 ·unfold aX;rw[Zx (.inr (.inr C))]
 rintro _ _ ⟨rfl,rfl⟩;have N:¬(e<0\/(s.length:Int)<=e\/r<0):=by rintro(h|h|h)<;>omega
 refine⟨_,rfl,al.eT (λJ=>k (aj.refl _) ?_) (λJ=>al.eT (λE=>k (aj.refl _) ?_) (λE=>λm V=>?_))⟩
 ·unfold aX;rw[Zq N,Zx (.inl J)]
 ·unfold aX;rw[Zq N,Zx (.inr E)]
 have hg:=GN A.zF e;have wl:PP .i64 (r+1)=r+1:=wrap_i64 cS;have ws:PP .i64 (dH s e+1)=dH s e+1:=wrap_i64 (by unfold aH;have:dH s e≠9223372036854775807:=J;omega);have W:aX b8 e s r=(0,⟨e,PP .i64 (dH s e+1),PP .i64 (r+1),jC s [],b8.a_,b8.agg,b8.field,b8.op,b8.arg,b8.key⟩):=by
  unfold aX;rw[Zq N,Zq (by rintro(h|h);exact J h;exact E h),wl,ws]
 have F:ai L m:=V.keep;have s3:m.heap.size=L.heap.size:=by rw[V.heap]
 have X:=j.then F;have y:=F.get K id;have Y:=F.get S id;have jl:(jC s []).length<=20000000:=by rw[Pe];simp;omega
 have jI:∀a0∈jC s [],aH a0:=UC s [] A.zF sM;have z:¬(m.heap.size<=w.heap.size):=oM
 have H:∀{w4 q:World} {b:be} {g i x:Nat},ai w q->Own q 3 1 b g i (ints (jC s []))->(∀n,aI b=some n->m.heap.size<=n/\n≠x)->q.heap[B.heap.size]? =some (.cells (aF sS none 0 0).toArray 82 (0,0))->q.heap[x]? =some (.cells #[WP 0,WP 0,WP (PP .i64 (r+1)),.slice b g i,WP b8.a_,WP b8.agg,WP b8.field,WP b8.op,WP b8.arg,WP b8.key] 82 (0,0))->m.heap.size<=x->
   PS q ⟨x,0,none⟩ (WP e) λa4=>PS a4 ⟨x,0+1,none⟩ (WP (PP .i64 (dH s e+1))) λZ=>jB LL 82 (RK x) Z λa5=>oQ LL 82 (RK B.heap.size) a5 Z λa2=>jB LL 82 (RK B.heap.size) a2 λa6=>Ok (λv w'=>∃d a j G,v= .tuple #[lg (aX b8 e s r).2 d a j,WP (aX b8 e s r).1]/\Row aO 8 w' G d a (aX b8 e s r).2.aM/\(∀n,G n->w.heap.size<=n/\n<w'.heap.size)/\ai w w') (.returned (.tuple #[a6,WP 0])) a2:=λ{w4 q b g i x} E t o hz a7 b0=>by
  refine PS.mk a7 sM λw6 f s6 I=>PS.mk I sM λw7 O s7 g7=>?_;have a8:=O.get (f.get hz oM) oM;refine ar (cs:=aF ⟨e,PP .i64 (dH s e+1),PP .i64 (r+1),jC s [],b8.a_,b8.agg,b8.field,b8.op,b8.arg,b8.key⟩ b g i) (bg _ _ _ _) g7 (aD (bg _ _ _ _) a8 rfl λw8 k8 s8 g8=>ar (bg _ _ _ _) g8 (Ok.mk ⟨b,g,i,λn=>aI b=some n,by rw[W],?_,λn P=>⟨by have:=o n P;omega,?_⟩,?_⟩))
  ·rw[W]
   have a3:=(((t.keep f (dB.2 λn P u=>(o n P).2 u)).keep O (dB.2 λn P u=>(o n P).2 u)).keep k8 (dB.2 λn P u=>by have:=o n P;omega))
   exact(⟨⟨_,λ_=>False,a3,lJ.2 ⟨rfl,jI⟩,λ_ h=>h.elim⟩,λn P=>P,λn P=>a3.lt P⟩:aS aO 3 (λn=>aI b=some n) w8 b g i (jC s [])).row dC cw
  ·have:=t.lt P;omega
  ·exact((E.new f λn P=>.inr oM).new O λn P=>.inr oM).new k8 λn P=>.inr oM
 refine⟨λn=>m.heap.size<=n,z,_,ae y rfl,z,_,ae y rfl,z,_,ae y rfl,z,_,ae y rfl,z,_,ae y rfl,z,_,ae y rfl,PC.ok (vz ((A.af j).af F) (Ints.nil _)) ?_,PA.mk λw4 l s4 M=>⟨ai.keep l,PC.ok (vz (((A.af j).af F).af l) (Ints.nil _)) ?_⟩⟩
 ·rintro _ w4 ⟨b,g,i,rfl,t,l,o⟩
  have z4:=l.size;refine⟨_,_,_,rfl,ai.keep l,PA.mk λq p s5 g5=>⟨ai.keep p,aD (cs:=[WP 0,WP 0,WP (PP .i64 (r+1)),.slice b g i,WP b8.a_,WP b8.agg,WP b8.field,WP b8.op,WP b8.arg,WP b8.key]) (bg ⟨0,0,PP .i64 (r+1),[],b8.a_,b8.agg,b8.field,b8.op,b8.arg,b8.key⟩ b g i) g5 rfl λw6 f s6 I=>⟨f.mono λn _ u=>oM,H (w4:=w4) (((X.then l).then p).new f λn P=>.inr oM) ((t.af p).keep f (dB.2 λn P u=>by have:=t.lt P;omega)) (λn P=>⟨o n P,by have:=t.lt P;omega⟩) (f.get (p.get (l.get Y id) id) oM) I oM⟩⟩⟩
 ·rintro _ q ⟨b,g,i,rfl,t,p,o⟩
  have z5:=p.size;refine⟨_,_,_,rfl,ai.keep p,aD (cs:=[WP 0,WP 0,WP (PP .i64 (r+1)),.slice b g i,WP b8.a_,WP b8.agg,WP b8.field,WP b8.op,WP b8.arg,WP b8.key]) (bg ⟨0,0,PP .i64 (r+1),[],b8.a_,b8.agg,b8.field,b8.op,b8.arg,b8.key⟩ b g i) (p.get M id) rfl λw6 f s6 I=>⟨f.mono λn _ u=>oM,H (w4:=w4) (((X.then l).then p).new f λn P=>.inr oM) (t.keep f (dB.2 λn P u=>by have:=o n P;omega)) (λn P=>⟨by have:=o n P;omega,by have:=o n P;omega⟩) (f.get (p.get (l.get Y id) id) oM) I oM⟩⟩
end
section
variable {w w':World} {D Fs Fv:ac} {s v:Nat} {S:aq} {V:bj} {d:aU} {c:jT} {origin start:Int}
def w_(w:World)(n:ah×Bool×Int)(c:Value)(w':World):Prop:=∃a b d G,c= .tuple #[lg n.1 a b d,.bool n.2.1,WP n.2.2]/\Row aO 8 w' G a b n.1.aM/\(∀P,G P->w.heap.size<=P/\P<w'.heap.size)/\ai w w'
def yz(d:aU)(s:aq)(v:bj)(origin start:Int)(c:jT):fk d s v origin start c=if iX d c≠0 then(sS,false,iX d c)else
  match s.keyed c.key with
  |some n=>(n,false,0)
  |none=>if¬(c.expect= -1\/c.expect=((v.state c.a_ c.agg).getD ⟨0,[]⟩).version)then(sS,false,11)else
   if xz (d.at c.a_) (match v.state c.a_ c.agg with|some P=>P.cells|none=>eh (d.at c.a_)) c.field c.op c.arg≠0 then(sS,false,10)else
   ((aX c origin s.vec (max s.top start)).2,decide ((aX c origin s.vec (max s.top start)).1=0),(aX c origin s.vec (max s.top start)).1):=rfl
def Es{ta pa:be}{tn tc pn pc:Nat}(hT:fE w)(hd:bt w D d ta tn pa pn)(hD:∀n,D n->n<w.heap.size)(j5:dt d=0)(hs:cM w s Fs S)(j6:S.l.length<=20000000)(hv:cJ w v Fv V)(j7:V.decl=d)(o9:start<=9223372036854775807)(o6:S.top<=9223372036854775807):
  bn 74 #[.agg #[.slice ta tn tc,.slice pa pn pc],RK s,RK v,WP origin,WP start,Bp c] w (Ok (w_ w (fk d S V origin start c))):=by
 refine zQ (PA.mk λw1 k1 s1 g1=>PA.mk λw2 k2 s2 g2=>PA.mk λw3 k3 s3 g3=>?_);have q:=(k1.then k2).then k3;have gd:=k3.get (k2.get g1 id) id;have gc:=k3.get g2 id;have y:∀{z:World} {no:Int},ai w3 z->fk d S V origin start c=(sS,false,no)->oQ LL 82 (RK w2.heap.size) (lg sS none 0 0) z λt=>jB LL 82 (RK w2.heap.size) t λr=>Ok (w_ w (fk d S V origin start c)) (.returned (.tuple #[r,.bool false,WP no])) t:=λ{z no} h4 R=>
  aD (bg sS none 0 0) (h4.get g3 id) rfl λt k5 s5 g5=>ar (bg sS none 0 0) g5 (Ok.mk ⟨none,0,0,λ_=>False,by rw[R],by rw[R];exact Row.nil _ _,λn P=>P.elim,(q.then h4).new k5 λn P=>.inr oM⟩)
 refine⟨_,_,_,_,_,_,ae gd rfl,ae gd rfl,ar (Bn c) gc (PC.ok (DH (hT.af q) (hd.af q) λn P=>by have:=hD n P;omega) ?_)⟩;rintro _ z ⟨rfl,T⟩;refine⟨_,rfl,al.eu (λU=>y T (by rw[yz,Zx U])) (λe6=>⟨_,ae (T.get gc id) rfl,PC.ok (QN (hs.af (q.then T)) j6) ?_⟩)⟩;rintro _ t ⟨W,X,Y,G5,rfl,e7,e8,k5⟩;have b6:=T.then k5;have p0:=b6.size;have A:∀{r:ah×Bool×Int},(match S.keyed c.key with
  |some k=>(k,false,0)
  |none=>if¬(c.expect= -1\/c.expect=((V.state c.a_ c.agg).getD ⟨0,[]⟩).version)then(sS,false,11)else
   if xz (d.at c.a_) (match V.state c.a_ c.agg with|some B=>B.cells|none=>eh (d.at c.a_)) c.field c.op c.arg≠0 then(sS,false,10)else
   ((aX c origin S.vec (max S.top start)).2,decide ((aX c origin S.vec (max S.top start)).1=0),(aX c origin S.vec (max S.top start)).1))=r->fk d S V origin start c=r:=λ{r} hr=>by
  rw[yz,Zq (by simpa using e6)];exact hr
 refine cg (sO _ W X Y) ⟨_,rfl,PA.mk λw6 k6 s6 g6=>aD (bg _ W X Y) g6 rfl λl k7 s7 g7=>al.mk (λhk=>?_) (λhk=>?_)⟩
 ·obtain⟨k,R⟩:=Option.isSome_iff_exists.1 hk
  rw[R]at e7 g7 A;have b2:ai t l:=k6.new k7 λn P=>.inr oM;refine ar (bg _ W X Y) g7 (aD (bg _ W X Y) (b2.get (b6.get g3 id) id) rfl λw8 k8 s8 g8=>ar (bg _ W X Y) g8 (Ok.mk ⟨W,X,Y,G5,?_,?_,λn P=>?_,?_⟩))
  ·rw[A rfl];rfl
  ·rw[A rfl]
   exact(e7.af b2).keep k8 λn P k=>by have:=e8 n P;have:=q.size;have:=T.size;omega
  ·have:=e8 n P;have:=q.size;have:=T.size;omega
  ·exact((q.then b6).then b2).new k8 λn P=>.inr oM
 have d3:S.keyed c.key=none:=by simpa using hk
 rw[d3]at A;have b2:ai t l:=k6.new k7 λn P=>.inr oM;have L:=b6.then b2;have p1:=L.size;have b7:=q.then L;have e9:mh d c.a_ c.field c.op c.arg=0:=by
  have:=e6;unfold iX at this;split at this
  ·simp at this
  ·exact this
 have j8:V.decl.at c.a_=d.at c.a_:=by rw[j7]
 obtain⟨hV,b0,hq⟩:=hv;have a6:(match V.state c.a_ c.agg with|some B=>B.cells|none=>eh (d.at c.a_)).length=(d.at c.a_).length:=by
  unfold bj.state
  cases hs:au V.eW (c.a_,c.agg)with
  |none=>simp[eh]
  |some s=>rw[<-j8];exact hV.st _ (cA hs)
 obtain⟨c7,t0,t1,p2⟩:=OF j5 e9 a6;obtain⟨C,f2⟩:∃C:Nat,c.a_=C:=⟨c.a_.toNat,oM⟩
 have j9:d.at c.a_=d.types.getD C []:=by
  unfold aU.at;rw[Zx (bP.2 ⟨t0,oM⟩),f2,Qx]
 obtain⟨tb,m_,es,k0,p3,o7,l0,fa,fn,fc,rfl,b3⟩:=(hd.af b7).a_.el C d.types[C] sM;have b3:Row sP 48 l D fa fn (d.at c.a_):=by
  rw[j9];have:d.types.getD C []=d.types[C]:=by simp[QQ,show C<d.types.length by omega]
  rw[this];exact b3
 have p4:=(hd.af b7).a_.len;have c8:=l0 0 dC;have g0:nQ.k=1:=rfl;rw[g0,Nat.mul_one]at c8;have l3:=L.get gd id;have g4:=L.get gc id;refine⟨_,_,_,ae l3 rfl,_,ae g4 rfl,tb,m_,k0,t0,oM,fa,fn,fc,by rw[f2,Qx];exact c8,PA.mk λw8 k8 s8 g8=>PS.mk g8 sM λw9 k9 s9 g9=>?_⟩;have Z:ai l w9:=k8.new k9 λn P=>.inr oM;have d4:=Z.get g4 id;have d5:cJ w v Fv V:=⟨hV,b0,hq⟩
 refine⟨_,ae d4 rfl,_,ae d4 rfl,PC.ok (oR (d5.af (b7.then Z))) ?_⟩;rintro _ d6 ⟨ca,cn,cc,l4,rfl,h3,o8,M⟩;have b4:=Z.then M;have h5:=b7.then b4;have p5:=b4.size;obtain⟨E,hX⟩:∃E,E=(match V.state c.a_ c.agg with|some B=>B.cells|none=>eh (d.at c.a_)):=⟨_,rfl⟩
 rw[<-hX]at c7 a6 A;refine⟨_,_,_,_,_,rfl,PA.mk λp6 l5 p7 l6=>PS.mk l6 sM λp8 l7 p9 l8=>PS.mk l8 sM λh8 l9 q0 h9=>?_⟩;have a5:ai d6 h8:=(l5.new l7 λn P=>.inr oM).new l9 λn P=>.inr oM;have m0:h8.heap[l.heap.size]? =some (.cells #[.slice fa fn fc] 120 (0,0)):=a5.get (M.get g9 id) id;have c9:=h3.af a5;refine⟨λw'=>ai d6 w'/\∃ca cn cc G,w'.heap[d6.heap.size]? =some (.cells #[WP ((V.state c.a_ c.agg).getD Ia).version,.slice ca cn cc] 42 (0,0))/\Row fy 32 w' G ca cn E,?_,?_⟩
 ·refine al.not (al.mk (λm1=>⟨a5,ca,cn,cc,l4,h9,?_⟩) (λm2=>⟨_,_,_,ae m0 rfl,PC.ok (IF (t:=d.at c.a_) rfl b3.len (by rw[b3.len];omega)) ?_⟩))
  ·obtain⟨B,hx⟩:=Option.isSome_iff_exists.1 m1
   rw[hx]at c9 hX;have b8:E=B.cells:=hX;rw[b8];exact c9.row dC (by show B.cells.length*32<=aP;rw[<-b8,a6];unfold aP;omega)
  ·rintro _ q1 ⟨b1,n6,c6,G6,rfl,m3,d7,m4⟩
   have q2:=d7.size;refine⟨_,_,_,rfl,PS.mk (d7.get h9 id) sM λq3 i0 q4 m5=>⟨(a5.then d7).new i0 λn P=>.inr oM,b1,n6,c6,G6,m5,?_⟩⟩;have hn:V.state c.a_ c.agg=none:=by simpa using m2
   rw[hn]at hX;have b8:E=eh (d.at c.a_):=hX;rw[b8];exact(m3.keep i0 λn P k=>by have:=m4 n P;omega).row dC (by unfold aP eh;simp;omega)
 rintro _ m6 ⟨m7,q5,q6,q7,G2,i1,i2⟩;refine PA.mk λi3 d8 q8 m8=>?_;have F:=m7.then d8;have m9:=F.size;have d0:=h5.then F;have i4:=d8.get i1 id;have i5:=F.get (M.get d4 id) id;have i6:=F.get (M.get g9 id) id;have i7:=(((L.then Z).then M).then F).get g3 id;have m:∀{z:World} {no:Int},ai i3 z->fk d S V origin start c=(sS,false,no)->oQ LL 82 (RK w2.heap.size) (lg sS none 0 0) z λt=>jB LL 82 (RK w2.heap.size) t λr=>Ok (w_ w (fk d S V origin start c)) (.returned (.tuple #[r,.bool false,WP no])) t:=λ{z no} h4 R=>y (((L.then Z).then M).then (F.then h4)) R;refine⟨λa9 c0 w'=>∃H:Nat,c0=H/\H<=2/\a9=2-H/\ai i3 w'/\(1<=H->c.expect= -1\/c.expect=((V.state c.a_ c.agg).getD ⟨0,[]⟩).version)/\(2<=H->xz (d.at c.a_) E c.field c.op c.arg=0),⟨_,0,rfl,oM,rfl,aj.refl _,λh=>oM,λh=>oM⟩,?_⟩;rintro a9 _ _ I ⟨H,rfl,hj,rfl,i,d9,n0⟩;have d1:=i.get i4 id;have a0:=i.get i5 id;have i8:=i.get i6 id;have d2:=i.get m8 id;refine al.dec (λq9=>⟨m6.heap.size,0,rfl,oM,oM,?_⟩) (λr0=>?_)
 ·have n1:H=0\/H=1:=oM
  rcases n1 with rfl|rfl
  ·refine⟨_,ae d2 rfl,_,_,_,rfl,kR,PC.ok (φ:=λv w'=>v= WP (if c.expect= -1\/c.expect=((V.state c.a_ c.agg).getD ⟨0,[]⟩).version then 0 else 11)/\I=w') (vJ ⟨_,ae a0 rfl,al.eT (λh1=>Ok.mk ⟨by rw[Zx (.inl h1)],rfl⟩) (λh1=>⟨_,ae a0 rfl,_,ae d1 rfl,al.eT (λh2=>Ok.mk ⟨by rw[Zx (.inr h2)],rfl⟩) (λh2=>Ok.mk ⟨by rw[Zq (by rintro(h|h);exact h1 h;exact h2 h)],rfl⟩)⟩)⟩) ?_⟩
   rintro _ _ ⟨rfl,rfl⟩
   by_cases hx:c.expect= -1\/c.expect=((V.state c.a_ c.agg).getD ⟨0,[]⟩).version
   ·rw[Zx hx]
    exact⟨_,rfl,al.ff rfl ⟨_,oM,1,rfl,oM,rfl,i,λ_=>hx,λh=>oM⟩⟩
   ·rw[Zq hx]
    exact⟨_,rfl,al.tt rfl (m i (A (by rw[Zx hx])))⟩
  ·refine⟨_,ae d2 rfl,_,_,_,rfl,kR,PC.ok (φ:=λv w'=>v= WP (xz (d.at c.a_) E c.field c.op c.arg)/\ai I w') (vK ⟨_,_,_,ae i8 rfl,_,_,_,ae d1 rfl,_,ae a0 rfl,_,ae a0 rfl,_,ae a0 rfl,PC.ok (IE c7 ((b3.af (b4.then F)).af i) ((i2.af d8).af i)) ?_⟩) ?_⟩
   ·rintro _ n2 ⟨rfl,b9⟩
    exact⟨_,rfl,Ok.mk ⟨rfl,b9⟩⟩
   ·rintro _ n2 ⟨rfl,b9⟩
    refine⟨_,rfl,al.eu (λU=>m (i.then b9) (A ?_)) (λh0=>⟨_,oM,2,rfl,oM,rfl,i.then b9,λ_=>d9 oM,λ_=>h0⟩)⟩;have n3:xz (d.at c.a_) E c.field c.op c.arg=10:=by
     rw[Gy]at U⊢;split at U
     ·simp at U
     ·rename_i hq;rw[Zq hq]
    rw[Zq (λh=>h (d9 oM)),Zx U,n3]
 have i9:=A (r:=((aX c origin S.vec (max S.top start)).2,decide ((aX c origin S.vec (max S.top start)).1=0),(aX c origin S.vec (max S.top start)).1)) (by rw[Zq (λh=>h (d9 oM)),Zq (by rw[n0 oM];simp)]);have J:(if start>S.top then start else S.top)=max S.top start:=by split<;>omega
 have c1:(if start>S.top then start else S.top)<=9223372036854775807:=by split<;>omega
 refine⟨λeb eo no w'=>eo=0/\no=(aX c origin S.vec (max S.top start)).1/\ai I w'/\∃a2 a3 a7 G,w'.heap[eb]? =some (.cells (aF (aX c origin S.vec (max S.top start)).2 a2 a3 a7).toArray 82 (0,0))/\Row aO 8 w' G a2 a3 (aX c origin S.vec (max S.top start)).2.aM/\∀n,G n->I.heap.size<=n/\n<w'.heap.size,?_,?_⟩
 rotate_left
 ·rintro eb _ no _ r3 ⟨rfl,rfl,e0,a,b,e,p,ge,u,f⟩
  have j0:=e0.get (i.get i7 id) id;have zk:=i.size;have r4:=e0.size;have zw:=q.size;refine ar (bg _ a b e) ge (aD (bg _ a b e) j0 rfl λr5 j1 r6 n4=>ar (bg _ a b e) n4 (Ok.mk ⟨a,b,e,p,?_,?_,λn P=>?_,?_⟩))
  ·rw[i9];rfl
  ·rw[i9];exact u.keep j1 λn P k=>by have:=f n P;omega
  ·have:=f n P;omega
  ·exact(((d0.then i).then e0)).new j1 λn P=>.inr oM
 ·intro N j2
  have e1:ai I N:=j2.keep;have r7:N.heap.size=I.heap.size:=by rw[j2.heap]
  have j3:=e1.get a0 id;have a4:=hs.af ((d0.then i).then e1);have zk:=i.size;have hn:=hs.1.n;have c2:S.vec.length<=20000000:=by rw[S.aY];omega
  have c3:S.vec.length*8<=aP:=by unfold aP;omega
  have x:∀{wE w6 l:World} {a1:Nat} {a:be} {b e:Nat} {p:ac},ai N wE->Row aO 8 wE p a b (aX c origin S.vec (max S.top start)).2.aM->(∀n,p n->N.heap.size<=n/\n<wE.heap.size/\n≠a1)->ai wE w6->N.heap.size<=a1->aj (λn=>n=a1) w6 l->l.heap.size=w6.heap.size->l.heap[a1]? =some (.cells (aF (aX c origin S.vec (max S.top start)).2 a b e).toArray 82 (0,0))->
    (λ(eb eo:Nat) (no:Int) (w':World)=>eo=0/\no=(aX c origin S.vec (max S.top start)).1/\ai I w'/\∃a2 a3 a7 G,w'.heap[eb]? =some (.cells (aF (aX c origin S.vec (max S.top start)).2 a2 a3 a7).toArray 82 (0,0))/\Row aO 8 w' G a2 a3 (aX c origin S.vec (max S.top start)).2.aM/\∀n,G n->I.heap.size<=n/\n<w'.heap.size) a1 0 (aX c origin S.vec (max S.top start)).1 l:=λ{wE w6 l a1 a b e p} hE hr hG h6 hg h7 r8 n8=>by
   have z6:=h6.size;exact⟨rfl,rfl,((e1.then hE).then h6).new h7 λn P=>.inr oM,a,b,e,p,n8,(hr.af h6).keep h7 λn P k=>(hG n P).2.2 k,λn P=>by have:=hG n P;omega⟩
  have zc:¬(N.heap.size<=w1.heap.size):=by
   have h1:=((((k3.then L).then Z).then M).then F).size;omega
  refine⟨λn=>N.heap.size<=n,zc,ar (Bn c) j3 ⟨PC.ok (mK a4) ?_,PA.mk λr9 c4 s0 n9=>⟨ai.keep c4,PC.ok (mK (a4.af c4)) ?_⟩⟩⟩
  ·rintro _ o0 ⟨av,nv,cv,a8,rfl,b5,j,o1⟩
   have o2:=j.size;refine⟨_,_,_,rfl,ai.keep j,PC.ok (HX (a4.af j)) ?_,PA.mk λo3 K o4 e2=>⟨ai.keep K,PC.ok (HX ((a4.af j).af K)) ?_⟩⟩
   ·rintro _ _ ⟨rfl,rfl⟩
    refine⟨_,rfl,aj.refl _,?_,?_⟩
    ·rw[J]
     refine PC.ok (kj (b5.row dC c3) (by rw[<-J];exact c1) c2) ?_;rintro _ e3 ⟨a,b,e,p,rfl,u,f,g⟩;have e4:=g.size;exact cg (sO _ a b e) ⟨_,rfl,ai.keep g,PA.mk λs4 j4 t2 o5=>⟨ai.keep j4,aD (bg _ a b e) o5 rfl λe5 o O Q=>⟨o.mono λn _ k=>oM,x (j.then g) u (λn P=>⟨by have:=f n P;omega,(f n P).2,by have:=f n P;omega⟩) j4 oM o O Q⟩⟩⟩
    ·refine PA.mk λo3 K o4 e2=>⟨ai.keep K,?_⟩
     rw[J];refine PC.ok (kj ((b5.af K).row dC c3) (by rw[<-J];exact c1) c2) ?_;rintro _ e3 ⟨a,b,e,p,rfl,u,f,g⟩;have e4:=g.size;exact cg (sO _ a b e) ⟨_,rfl,ai.keep g,aD (bg _ a b e) (g.get e2 id) rfl λe5 o O Q=>⟨o.mono λn _ k=>oM,x ((j.then K).then g) u (λn P=>⟨by have:=f n P;omega,(f n P).2,by have:=f n P;omega⟩) (aj.refl _) oM o O Q⟩⟩
   ·rintro _ _ ⟨rfl,rfl⟩
    refine⟨_,rfl,aj.refl _,?_⟩;refine PC.ok (by rw[J];exact kj ((b5.af K).row dC c3) (by rw[<-J];exact c1) c2) ?_;rintro _ e3 ⟨a,b,e,p,rfl,u,f,g⟩;have e4:=g.size;exact cg (sO _ a b e) ⟨_,rfl,ai.keep g,aD (bg _ a b e) (g.get e2 id) rfl λe5 o O Q=>⟨o.mono λn _ k=>oM,x ((j.then K).then g) u (λn P=>⟨by have:=f n P;omega,(f n P).2,by have:=f n P;omega⟩) (aj.refl _) oM o O Q⟩⟩
  ·rintro _ o0 ⟨av,nv,cv,a8,rfl,b5,j,o1⟩
   have o2:=j.size;refine⟨_,_,_,rfl,ai.keep j,PC.ok (HX ((a4.af c4).af j)) ?_⟩;rintro _ _ ⟨rfl,rfl⟩;refine⟨_,rfl,aj.refl _,?_⟩;refine PC.ok (by rw[J];exact kj (b5.row dC c3) (by rw[<-J];exact c1) c2) ?_;rintro _ e3 ⟨a,b,e,p,rfl,u,f,g⟩;have e4:=g.size;exact cg (sO _ a b e) ⟨_,rfl,ai.keep g,aD (bg _ a b e) ((j.then g).get n9 id) rfl λe5 o O Q=>⟨o.mono λn _ k=>oM,x ((c4.then j).then g) u (λn P=>⟨by have:=f n P;omega,(f n P).2,by have:=f n P;omega⟩) (aj.refl _) oM o O Q⟩⟩
end
structure kM where
 ta:be
 tn:Nat
 tc:Nat
 pa:be
 pn:Nat
 pc:Nat
 dp:Nat
 lp:be
 sp:Nat
 bp:Nat
 wp:Nat
 tp:Nat
abbrev kM.cells(n:kM)(P:bF)(a:Int):Array Value:= #[WP P.aA,WP P.uV,WP P.bk,WP P.chunk,WP P.buffer,WP P.dj,WP P.every,WP P.start,.slice n.ta n.tn n.tc,.slice n.pa n.pn n.pc,WP a,
 RK n.dp,.pointer n.lp,RK n.sp,RK n.bp,RK n.wp,RK n.tp]
def DL(b:World)(G:ac)(c:Nat)(d:be)(D:ak)(P:Option dA):Prop:=
 ∃a,aV b c a D/\(∀n,a n->G n)/\match P with
  |none=>d=none
  |some e=>e.bd≠[]/\∃f g,d=some ⟨f,0,none⟩/\jE b c f g e/\∀n,g n->G n/\¬a n
def PQ(b:World)(G:ac)(c:Nat)(n:Nat)(d:List ah):Prop:=∃a D,iA b c a D n d/\(∀P,a P->G P)/\∀P,D P->G P
def mG(c:Nat)(d:Array Value)(P:kM)(b:bF)(a:bh)(e:List ah):Nat->World->(ac)->Prop
 |0=>λn G=>G c/\n.heap[c]? =some (.cells d 117 (0,0))
 |1=>λn G=>bt n G b.decl P.ta P.tn P.pa P.pn
 |2=>λn G=>DL n G P.dp P.lp a.D a.log
 |3=>λn G=>cM n P.sp G a.S/\a.S.Cl/\a.S.n=b.aA.toNat
 |4=>λn G=>de n P.bp G b.decl b.every.toNat e
 |5=>λn G=>PQ n G P.wp b.buffer.toNat a.waits
 |6=>λn G=>eB n P.tp G a.gJ
 |_=>λ_ _=>True
variable{Y o:Array Value}{E:List ah}{b3:dA}
section
variable {w w' w0:World} {p:Nat} {F G T:ac} {cls:Nat->Nat} {h:kM} {c:bF} {self:Int} {X:bh} {dp:Nat} {lp:be} {D:ak} {log:Option dA}
def DL.keep(h:DL w G dp lp D log)(a:aj T w w')(b:∀n,G n->¬T n):DL w' G dp lp D log:=by
 obtain⟨f,g,c,d⟩:=h;refine⟨f,g.keep a λn P=>b n (c n P),c,?_⟩
 cases log with
 |none=>exact d
 |some o=>
  obtain⟨i,j,k,l,m,e⟩:=d;exact⟨i,j,k,l,m.keep a λn P=>b n (e n P).1,e⟩
def cm:mI (mG p o h c X E):=by
 intro k w w' G T n a P
 match k,n with
 |0,n=>exact⟨n.1,a.get n.2 (P p n.1)⟩
 |1,n=>exact bt.keep n a P
 |2,n=>exact DL.keep n a P
 |3,n=>exact⟨cM.keep n.1 a P,n.2⟩
 |4,n=>exact de.keep n a P
 |5,n=>obtain⟨g,D,i,e,f⟩:=n;exact⟨g,D,i.keep a (λb d=>P b (e b d)) λb d=>P b (f b d),e,f⟩
 |6,n=>exact eB.keep n a P
 |k+7,n=>trivial
structure ks (c:bF) (me:Int):Prop where
 right:fQ c me=true
 decl:dt c.decl=0
 seg:aH c.bk
 every:aH c.every
 start:aH c.start
structure Env (w0 w:World) (F:ac):Prop where
 qp:fE w0
 laid:Laid w0
 gr:ai w0 w
 aE:∀b,F b->w0.heap.size<=b
def Env.tC(h:Env w0 w F)(a:cd F w f w'):Env w0 w' f:=⟨h.qp,h.laid,h.gr.new a.keep λn P=>.inr (h.aE n P),λn P=>(a.new n P).elim (h.aE n) λb=>by have:=h.gr.size;omega⟩
def Env.af(h:Env w0 w F)(n:ai w w'):Env w0 w' F:=⟨h.qp,h.laid,h.gr.then n,h.aE⟩
abbrev cR(w:World)(F:ac)(cls:Nat->Nat)(p:Nat)(h:kM)(c:bF)(self:Int)(X:bh):Prop:=bf w F cls (mG p (h.cells c self) h c X X.S.l)
def bY(w:World)(p:Nat)(F:ac)(c:bF)(self:Int)(X:bh):Prop:=ks c self/\∃h cls,cR w F cls p h c self X
def cR.af(n:cR w F cls p h c self X)(P:ai w w'):cR w' F cls p h c self X:=bf.af n cm P
def cR.bA(n:cR w F cls p h c self X):w.heap[p]? =some (.cells (h.cells c self) 117 (0,0)):=(n.at' 0).2
def cR.Kk(n:cR w F cls p h c self X):F p/\cls p=0:=(n.at' 0).1
def bY.keep(P:bY w p F c self X)(a:aj T w w')(b:∀n,F n->¬T n):bY w' p F c self X:=by
 obtain⟨d,h,cls,e⟩:=P;exact⟨d,h,cls,bf.keep e cm a b⟩
def bY.af(n:bY w p F c self X)(P:ai w w'):bY w' p F c self X:=n.keep P λ_ _ h=>h
def bY.aE(P:bY w p F c self X):∀n,F n->n<w.heap.size:=by obtain⟨b,h,cls,a⟩:=P;exact a.aE
def cR.store{a:kM}(n:bf w F cls (mG p o a c X E))(d:aj (·=p) w w')(e:w'.heap[p]? =some (.cells Y 117 (0,0))):bf w' F cls (mG p Y a c X E):=by
 refine bf.same n cm (k:=0) (d.mono λf _ P=>by have P:f=p:=P;exact P▸(n.at' 0).1) ⟨(n.at' 0).1,e⟩ λb G g h=>?_;rcases b with _|_|_|_|_|_|_|b<;>first|exact h|exact Zz rfl g
def DL.Qs(g:DL w G dp lp D (some b3))(c:Env w0 w G)(l:∀n,G n->n<w.heap.size):∃b,lp=UV b/\b3.bd≠[]/\cG w0 w dp b b3 D (λn=>n<w.heap.size/\¬G n):=by
 obtain⟨h,i,e,j,b,k,rfl,f,d⟩:=g;refine⟨b,rfl,j,k,⟨h,i,c.gr,λn P=>⟨c.aE n (e n P),λa=>?_⟩,λn P=>?_⟩,f,λn P=>⟨c.aE n (d n P).1,λa=>a.2 (d n P).1⟩⟩
 ·rcases a with a|a
  ·exact a.2 (e n P)
  ·exact(d n a).2 P
 ·rcases P with P|P
  ·exact P.1
  ·exact f.aE n P
def DL.uV(c:DL w G dp lp D log)(a:Env w0 w G):bb w0 w dp D (λn=>n<w.heap.size/\¬G n):=by
 obtain⟨d,e,b,-⟩:=c;exact⟨d,e,a.gr,λn P=>⟨a.aE n (b n P),λf=>f.2 (b n P)⟩,λn P=>P.1⟩
def DL.HK{Y:ac}(l:cG w0 w' dp a b3 D (λn=>(n<w.heap.size/\¬G n)\/Y n))(m:aj (dY λn=>n<w.heap.size/\¬G n) w w')(o:b3.bd≠[]):∃c,DL w' c dp (UV a) D (some b3)/\cd G w c w'/\(∀n,c n->n<w'.heap.size)/\∀n,c n->¬Y n:=by
 obtain⟨f,⟨g,h,r,d,s⟩,i,j⟩:=l;have e:∀n,¬(n<w.heap.size/\¬G n)->G n\/w.heap.size<=n:=λn P=>by
  rcases Nat.lt_or_ge n w.heap.size with b|b
  ·exact .inl (Classical.byContradiction λp=>P ⟨b,p⟩)
  ·exact .inr b
 refine⟨λn=>g n\/f n,⟨g,h,λn P=>.inl P,o,a,f,rfl,i,λn P=>⟨.inr P,λq=>(d n q).2 (.inr P)⟩⟩,⟨m.mono λn t P=>(e n P).resolve_right oM,λn P=>?_⟩,λn P=>?_,λn P k=>?_⟩
 ·rcases P with P|P
  ·exact e n λb=>(d n P).2 (.inl (.inl b))
  ·exact e n λb=>(j n P).2 (.inl b)
 ·exact P.elim (h.aE n) (i.aE n)
 ·rcases P with P|P
  ·exact(d n P).2 (.inl (.inr k))
  ·exact(j n P).2 (.inr k)
def DL.Ow{Y:ac}(g:bb w0 w' dp D (λn=>(n<w.heap.size/\¬G n)\/Y n))(h:aj (dY λn=>n<w.heap.size/\¬G n) w w'):∃b,DL w' b dp none D none/\cd G w b w'/\(∀n,b n->n<w'.heap.size)/\∀n,b n->¬Y n:=by
 obtain⟨c,d,k,e,l⟩:=g;have f:∀n,¬(n<w.heap.size/\¬G n)->G n\/w.heap.size<=n:=λn P=>by
  rcases Nat.lt_or_ge n w.heap.size with a|a
  ·exact .inl (Classical.byContradiction λi=>P ⟨a,i⟩)
  ·exact .inr a
 exact⟨c,⟨c,d,λn P=>P,rfl⟩,⟨h.mono λn m P=>(f n P).resolve_right oM,λn P=>f n λa=>(e n P).2 (.inl a)⟩,λn P=>d.aE n P,λn P j=>(e n P).2 (.inr j)⟩
end
def Ks{D:ak}(P:b3.bd≠[]):(aN b3 D).2.1.bd≠[]:=by
 have b:∀n:ak,(nG b3 n).2.1.bd≠[]:=by
  intro n;unfold nG;dsimp only;split
  ·exact P
  ·split
   ·exact P
   ·simp
 have a:∀n:ak,(bC b3 n).2.1.bd≠[]:=by
  intro n;unfold bC;dsimp only;split
  ·exact P
  ·exact b _
 unfold aN;dsimp only;split
 ·exact a D
 ·split
  ·exact P
  ·exact a _
def HN{D:ak}{l:List ah}(n:b3.bd≠[]):(aG b3 D l).2.1.bd≠[]:=by
 unfold aG;dsimp only;have P:(if b3.size<=b3.bytes then aN b3 D else(0,b3,D)).2.1.bd≠[]:=by
  split
  ·exact Ks n
  ·exact n
 generalize(if b3.size<=b3.bytes then aN b3 D else(0,b3,D))=a at P⊢;split
 ·exact n
 split
 ·exact n
 split
 ·exact P
 split
 ·exact P
 ·exact P
def Tt(c:Row iz 96 b f d a E):∀n∈E,n.Ok:=λn e=>by
 obtain⟨P,g,rfl⟩:=List.getElem_of_mem e;obtain⟨i,j,k,-,-,-,-,l,m,o,-,-,h⟩:=c.el P E[P] (Qq g);exact h
def aq.Kt:∀{l:List ah} {S:aq} {n:ah},n∈S.l->n∈(S.eG l).l
 |[],S,n,P=>P
 |e::l,S,n,P=>aq.Kt (l:=l) (S:=(S.add e).2) (by
  rcases S.eZ e with⟨-,a⟩|⟨b,-⟩
  ·rw[a];exact P
  ·rw[b];exact(cP e S.l).mem_iff.2 (QJ _ P))
variable{H:Bool}{O:Int}{a6 g7:List PanicEntry->bc}{c6:List bz}{M:Prop}{m t:am}{L l:ah}{y:aq}
def wG{n:bF}(a:y.Cl)(b:y.n=n.aA.toNat)(P:List ah):fp n y P=y.eG P:=by
 unfold fp;rw[aq.Bi,<-b,a.Wz]
section
variable {w w' w0:World} {p:Nat} {F E T:ac} {cls:Nat->Nat} {h:kM} {c:bF} {self:Int} {X:bh} {evs:List ah} {ea:be} {en ec:Nat}
def ks.aA(n:ks c self):c.aA=(c.aA.toNat:Int)/\c.aA.toNat<=64/\1<=c.aA.toNat:=by
 have:=n.right;unfold fQ within at this;simp only[QK,Zk]at this;omega
def Ku(s:cR w F cls p h c self X)(b0:ks c self)(hr:Row iz 96 w E ea en evs)(t:∀n,E n->n<w.heap.size)(hl:X.S.l.length+evs.length<=20000000):
  bn 119 #[RK p,.slice ea en ec] w (Ok λa0 w'=>∃L b,a0= RK L/\cM w' L b (fp c X.S evs)/\(∀n,b n->w.heap.size<=n)/\ai w w'):=by
 obtain⟨b1,b2,c6⟩:=b0.aA;have fY:=(s.at' 3).1;refine pw ⟨p,0,rfl,_,ae s.bA rfl,?_⟩;rw[b1];refine PC.ok (Gv b2) ?_;rintro _ w7 ⟨u,j,rfl,M,v,k⟩;have f:=cR.af s k;refine⟨_,rfl,p,0,rfl,_,ae f.bA rfl,PC.ok (su (fY.af k) oM) ?_⟩;rintro _ c7 ⟨a2,x,c1,G,rfl,g,y,l⟩;have N:=M.aE;have c8:=g.aE;have z7:=k.size;have c9:=y.size;have O:=k.then y;refine⟨_,_,_,rfl,AG g Ik (hr.af O) (λn P=>⟨by have:=t n P;omega,λz=>by have:=t n P;have:=l n (g.self n z);omega⟩) cw (by unfold maxLen;omega) λa' c' m Q A B b3 _=>⟨_,_,_,rfl,?_⟩⟩;have b4:=A.len dC;have d0:=B.size;rw[QX]at b4;have a3:Row iz 96 m Q a' (x+en) (X.S.l++evs):=A.row dC (by rw[QX];unfold aP;omega);have R:=A.aE;have S:∀n,Q n->¬j n:=λn P o=>by
  have d:=v n o;have h6:=N n o;rcases b3 n P with f|f|f
  ·have:=l n f;omega
  ·have:=t n f;omega
  ·omega
 have a4:ai w m:=O.new B λn P=>.inr (by have:=l n (g.self n P);omega);have a5:=(M.af y).keep B λn P z=>by have:=N n P;have:=l n (g.self n z);omega
 refine⟨λT C w'=>∃(a:Nat) (b:ac),C=a/\a<=x+en/\T=x+en-a/\cM w' u b ((⟨c.aA.toNat,[]⟩:aq).eG ((X.S.l++evs).take a))/\(∀n,b n->j n\/m.heap.size<=n)/\aj j m w',⟨_,0,j,rfl,Qj _,rfl,a5,λn P=>.inl P,aj.refl _⟩,?_⟩;rintro T _ _ U ⟨a,b,rfl,hj,rfl,H,q,r⟩;have d1:=r.size;refine al.dec (λd2=>?_) (λd3=>?_)
 ·obtain⟨e,V⟩:∃e,(X.S.l++evs)[a]? =some e:=⟨_,Qq (by rw[QX];omega)⟩
  obtain⟨n,a1,es,ha,d4,d5,b5,I,J,K,rfl,b6,a7⟩:=(a3.keep r S).el a e V;refine⟨n,a1,ha,oM,oM,bJ (es:=aF e I J K) (k:=10) (bg _ _ _ _) rfl (λC ht=>by rw[Qx];exact b5 C ht) (PA.mk λd6 b7 d7 b8=>aD (bg e I J K) b8 rfl λb9 c2 d8 c3=>ar (bg e I J K) c3 ?_)⟩;have i:ai U b9:=b7.new c2 λn P=>.inr (by have P:n=U.heap.size:=P;omega);have W:=aq.nV ((X.S.l++evs).take a) ⟨c.aA.toNat,[]⟩;rw[Qy,QX]at W;simp only[ZQ]at W;refine PC.ok (vo (H.af i) (b6.af i) (λn P=>⟨by have:=R n P;have:=i.size;omega,λo=>?_⟩) a7 oM) ?_
  ·rcases q n o with d|d
   ·exact S n P d
   ·have:=R n P;omega
  rintro _ c4 ⟨rfl,Y,c5,Z⟩;refine⟨_,rfl,_,oM,a+1,Y,an oM,oM,rfl,?_,λn P=>?_,(r.af i).new Z.keep λn P=>q n P⟩
  ·rw[Qw,V]
   show cM c4 u Y (aq.eG _ ((X.S.l++evs).take a++[e]));rw[aq.nW];exact c5
  ·rcases Z.new n P with d|d
   ·exact q n d
   ·have:=i.size;exact .inr oM
 ·rw[Qz (by rw[QX];omega)]at H
  exact Ok.mk ⟨u,b,rfl,H,λn P=>(q n P).elim (v n) λd=>oM,a4.new r λn P=>.inr (v n P)⟩
end
section
variable {w w' w0:World} {p:Nat} {F E T:ac} {cls:Nat->Nat} {h:kM} {c:bF} {self:Int} {X:bh} {evs lB:List ah} {ea:be} {en ec:Nat}
def Env.sub(P:Env w0 w F)(a:∀n,f n->F n):Env w0 w f:=⟨P.qp,P.laid,P.gr,λn b=>P.aE n (a n b)⟩
def Tu(n:y.OK)(a:l∈y.l)(b:L∈y.l)(c:aZ l=aZ L):l=L:=by
 have P:=n.get a;have d:=n.get b;rw[c,d]at P;exact(XJ P).symm
def CU(v:bf w F cls (mG p (h.cells c self) h c X lB))(j:Env w0 w F)(R:∀(x:Nat) (l m:ah),lB[x]? =some l->X.S.l[x]? =some m->aZ l=aZ m->l=m)(y:X.S.l.length<=20000000){κ:am}(o:∀w' f P,cR w' f P p h c self X->cd F w f w'->κ (WP 0) w'):
  ∀qm,bW w qm->∃q:ac,(∃r z,(UV p:be)=some ⟨r,z,none⟩/\(¬q r/\(∃(A:be),qm.cell? ⟨r,z+14,none⟩=some (.pointer A)/\(∃B C,(UV p:be)=some ⟨B,C,none⟩/\(∃(E:be),qm.cell? ⟨B,C+13,none⟩=some (.pointer E)/\
   PC LL 55 #[.pointer E] qm (λS b=>∃(H:be) (I:Nat) (J:Nat),S= .slice H I J/\(aj q qm b/\PC LL 97 #[.pointer A,.slice H I J] b (λT g=>∃(U:Int),T= WP U/\(aj q b g/\κ (WP 0) g)) a6)) g7))))):=by
 intro qm V;have s:ai w qm:=V.keep;have i:=bf.af v cm s;have K:=(i.at' 0).2;refine⟨λn=>F n/\cls n=4,p,0,rfl,λW=>?_,_,ae K rfl,p,0,rfl,_,ae K rfl,PC.ok (su (show cM qm h.sp (λn=>F n/\cls n=3) X.S from(i.at' 3).1) y) ?_⟩
 ·have:=W.2
  have Y:=(show(F p/\cls p=0)/\_ from v.at' 0).1.2;rw[Y]at this;cases this
 rintro _ b ⟨a2,a3,cc,G,rfl,t,e,Z⟩;have b5:=e.size;have a0:=i.aE;have L:=bf.af i cm e;have a8:=t.lL;have a1:de b h.bp (λn=>F n/\cls n=4) c.decl c.every.toNat lB:=L.at' 4;refine⟨_,_,_,rfl,ai.keep e,PC.ok (Ip a1 j.qp ((j.gr.then s).then e) (λn d=>j.aE n d.1) (t.row dC cw) a8 (λn d=>⟨t.aE n d,λhf=>by have:=a0 n hf.1;have:=Z n d;omega⟩) y R) ?_⟩;rintro _ g ⟨k,rfl,G4,M,N⟩;obtain⟨f,P,u,a,-,-⟩:=L.tC cm (k:=4) (G':=G4) (C2:=mG p (h.cells c self) h c X X.S.l) N M.aE M λO G hj hc=>by
  rcases O with _|_|_|_|_|_|_|O<;>first|exact hc|exact Zz rfl hj
 have Q:ai w b:=s.then e;exact⟨_,rfl,N.keep,o g f P u ⟨(ai.keep Q).then a.keep,λn d=>(a.new n d).imp id λh1=>by have:=Q.size;omega⟩⟩
def Kl(x:cR w F cls p h c self X)(c1:ks c self)(y:Env w0 w F){V:dA}(b3:X.log=some V)(Y:Row iz 96 w E ea en evs)(Z:∀P,E P->P<w.heap.size/\¬(F P/\cls P=2))(hl:X.S.l.length+evs.length<=20000000):
  bn 75 #[RK p,.slice ea en ec] w (Ok λz w'=>z= WP (dx c X evs).1/\∃A r d,cR w' r d p A c self (dx c X evs).2/\cd F w r w'/\A.wp=h.wp):=by
 obtain⟨b,D,c2,n,i⟩:=X;simp only at b3 hl;subst b3;obtain⟨hS,B,hn⟩:=(show cM w h.sp (λP=>F P/\cls P=3) b/\b.Cl/\b.n=c.aA.toNat from x.at' 3)
 have c3:=x.aE;obtain⟨e1,C,H,a0⟩:=DL.Qs (show DL w (λP=>F P/\cls P=2) h.dp h.lp D (some V)from x.at' 2) (y.sub λP a=>a.1) λP a=>c3 P a.1;have c4:=Tt Y;have a2:∀P,E P->P<w.heap.size:=λP a=>(Z P a).1;refine pk ⟨p,0,rfl,_,ae x.bA rfl,?_⟩;rw[C];refine PC.ok (MS y.laid a0 H Y a2 oM) ?_;rintro _ w7 ⟨rfl,a1,k7⟩;have I:=HN (D:=D) (l:=evs) H;have s:∀{a3},(if(aG V D evs).1≠0 then((aG V D evs).1,({S:=b,D:=(aG V D evs).2.2,log:=some (aG V D evs).2.1,waits:=n,gJ:=i}:bh))else
   if((aG V D evs).2.2.sync (aG V D evs).2.1.last).1≠0 then(((aG V D evs).2.2.sync (aG V D evs).2.1.last).1,{S:=b,D:=((aG V D evs).2.2.sync (aG V D evs).2.1.last).2,log:=some (aG V D evs).2.1,waits:=n,gJ:=i})else
   (0,{S:=fp c b evs,D:=((aG V D evs).2.2.sync (aG V D evs).2.1.last).2,log:=some (aG V D evs).2.1,waits:=n,gJ:=i}))=a3->dx c ⟨b,D,some V,n,i⟩ evs=a3:=λ{a3} hq=>hq
 generalize e2:aG V D evs=ap at a1 I s;obtain⟨e3,t,D7⟩:=ap;simp only at a1 I s;obtain⟨G7,J,a4,a5,-⟩:=DL.HK (Y:=λ_=>False) (a1.mono λP a=>a.elim id False.elim) k7 I;obtain⟨F7,k,K,e,-,-,c5⟩:=x.tC cm (k:=2) (G':=G7) (C2:=mG p (h.cells c self) h c ⟨b,D7,some t,n,i⟩ b.l) a4 a5 (by rw[<-C]at J;exact J) λl G L M=>by
  rcases l with _|_|_|_|_|_|_|l<;>first|exact M|exact Zz rfl L
 refine⟨_,rfl,al.eu (λa6=>Ok.mk ?_) (λh0=>?_)⟩
 ·rw[s (Zx a6)]
  exact⟨rfl,h,F7,k,K,e,rfl⟩
 simp only at h0;have c6:=y.tC e;obtain⟨q2,m,-,u⟩:=DL.Qs (show DL w7 (λP=>F7 P/\k P=2) h.dp h.lp D7 (some t)from K.at' 2) (c6.sub λP a=>a.1) λP a=>K.aE P a.1;refine⟨p,0,rfl,_,ae (K.at' 0).2 rfl,?_⟩;rw[m];refine PC.ok (JZ y.laid u I) ?_;rintro _ b4 ⟨rfl,a7,c7⟩;generalize e4:D7.sync t.last=sy at a7 s;obtain⟨s1,S⟩:=sy;simp only at a7 s;obtain⟨a8,o,g,N,-⟩:=DL.HK (Y:=λ_=>False) (a7.mono λP a=>a.elim id False.elim) c7 I;obtain⟨O,v,f,j,-,a9,T⟩:=K.tC cm (k:=2) (G':=a8) (C2:=mG p (h.cells c self) h c ⟨b,S,some t,n,i⟩ b.l) g N (by rw[<-m]at o;exact o) λl G L M=>by
  rcases l with _|_|_|_|_|_|_|l<;>first|exact M|exact Zz rfl L
 have b0:=e.trans j;refine⟨_,rfl,al.eu (λa6=>Ok.mk ?_) (λh1=>?_)⟩
 ·rw[s ((Zq (by simpa using h0)).trans (Zx a6))]
  exact⟨rfl,h,O,v,f,b0,rfl⟩
 simp only at h1;have c8:=s ((Zq (by simpa using h0)).trans (Zq (by simpa using h1)));rw[c8];have c9:Row iz 96 b4 E ea en evs:=by
  refine(Y.keep a4.keep λP a=>(Z P a).2).keep g.keep λP a hf=>?_;rcases a4.new P (c5▸hf)with h5|h5
  ·exact(Z P a).2 h5
  ·have:=a2 P a;omega
 refine PC.ok (Ku f c1 c9 (λP a=>by have:=a2 P a;have:=b0.keep.size;omega) hl) ?_;rintro _ d0 ⟨U,F2,rfl,b5,d1,d2⟩;have d3:(fp c b evs).n=c.aA.toNat:=aq.RM _ _;have b1:=wG B hn evs;have b6:(fp c b evs).Cl:=by rw[b1];exact aq.Cl.eG B c4
 obtain⟨F3,Q,b7,q,d4,-⟩:=f.fv cm (k:=3) (w':=d0) (G':=F2) (C2:=mG p (h.cells c self) {h with sp:=U} c ⟨fp c b evs,S,some t,n,i⟩ b.l) (ai.keep d2) (λP a=>.inr (d1 P a)) b5.aE ⟨b5,b6,d3⟩ λl G L M=>by
  rcases l with _|_|_|_|_|_|_|l<;>first|exact M|exact Zz rfl L
 refine⟨_,rfl,p,0,rfl,PS.mk (b7.at' 0).2 sM λb8 b9 e5 d5=>?_⟩;have d6:bf b8 F3 Q (mG p (({h with sp:=U}:kM).cells c self) {h with sp:=U} c ⟨fp c b evs,S,some t,n,i⟩ b.l):=cR.store b7 b9 d5;have d7:cd O b4 F3 b8:=⟨q.keep.then (b9.mono λP _ R=>by have R:P=p:=R;rw[R];exact(f.at' 0).1.1),q.new⟩
 have c0:=b0.trans d7;have d8:∀W∈b.l,W∈(fp c b evs).l:=λW hx=>by rw[b1];exact aq.Kt hx
 have d9:(fp c b evs).l.length<=20000000:=by rw[b1];exact Xx (aq.nV _ _) hl
 exact CU d6 (y.tC c0) (λe6 W e7 hx hy R=>Tu b6.ok (d8 W (QZ hx)) (QZ hy) R) d9 (κ:=λz w'=>Ok (λz w'=>z= WP 0/\∃A r d,cR w' r d p A c self ⟨fp c b evs,S,some t,n,i⟩/\cd F w r w'/\A.wp=h.wp) (.returned z) w')
  λw' r d b2 e0=>Ok.mk ⟨rfl,{h with sp:=U},r,d,b2,c0.trans e0,rfl⟩
end
def CS{D:ak}{size:Int}(n:(aT D size).no=0):(aT D size).V.bd≠[]:=by
 revert n
 unfold aT;generalize cQ (told D) [] (dS D size) D=b;unfold gB;split
 ·rename_i a;intro n;exact Zz n a
 split
 ·intro n;exact tR n
 rename_i P;split
 ·intro _;exact P
 ·intro _;exact P
abbrev yy(n:kM)(P:bF)(a:Int)(b c d:be):Array Value:= #[WP P.aA,WP P.uV,WP P.bk,WP P.chunk,WP P.buffer,WP P.dj,WP P.every,WP P.start,.slice n.ta n.tn n.tc,.slice n.pa n.pn n.pc,WP a,
 RK n.dp,.pointer b,.pointer c,.pointer d,RK n.wp,RK n.tp]
def recC(c:Nat)(d:Array Value)(P:kM)(b:bF)(a:bh)(e:Bool):Nat->World->(ac)->Prop
 |0=>λn G=>G c/\n.heap[c]? =some (.cells d 117 (0,0))
 |1=>λn G=>bt n G b.decl P.ta P.tn P.pa P.pn
 |2=>λn G=>DL n G P.dp P.lp a.D a.log
 |3=>λn G=>e=true->cM n P.sp G a.S/\a.S.Cl/\a.S.n=b.aA.toNat
 |5=>λn G=>PQ n G P.wp b.buffer.toNat a.waits
 |6=>λn G=>eB n P.tp G a.gJ
 |_=>λ_ _=>True
section
variable {w w' w0:World} {p:Nat} {F E T:ac} {cls:Nat->Nat} {h:kM} {c:bF} {self:Int} {X:bh} {evs lB:List ah} {ea:be} {en ec:Nat}
def iH:mI (recC p o h c X H):=by
 intro k w w' G T n a P
 match k,n with
 |0,n=>exact⟨n.1,a.get n.2 (P p n.1)⟩
 |1,n=>exact bt.keep n a P
 |2,n=>exact DL.keep n a P
 |3,n=>exact λe=>⟨cM.keep (n e).1 a P,(n e).2⟩
 |4,n=>trivial
 |5,n=>obtain⟨i,D,j,f,g⟩:=n;exact⟨i,D,j.keep a (λb d=>P b (f b d)) λb d=>P b (g b d),f,g⟩
 |6,n=>exact eB.keep n a P
 |k+7,n=>trivial
def zl{z1 z2 z3:be}(T:bf w F cls (recC p (yy h c self z1 z2 z3) h c X false))(L:ks c self)(A:Env w0 w F):
  bn 62 #[RK p] w (Ok λB w'=>B= WP (fM c X).1/\(fM c X).2.S.l.length<=16777216/\∃U q d,cR w' q d p U c self (fM c X).2/\cd F w q w'):=by
 obtain⟨g5,d2,j9⟩:=L.aA;have g6:=T.aE;have V:F p/\cls p=0:=(T.at' 0).1;have j4:1<=c.every:=by
  have:=L.right;unfold fQ at this;simp only[QK,Zk]at this;omega
 refine mB λw3 d3=>?_;have W:ai w w3:=d3.keep;have M:=bf.af T iH W;have N:=(M.at' 0).2;refine⟨λ_=>False,p,0,rfl,_,ae N rfl,p,0,rfl,id,_,_,_,_,_,_,ae N rfl,ae N rfl,p,0,rfl,id,_,ae N rfl,?_⟩;rw[g5];refine PC.ok (Gv d2) ?_;rintro _ d4 ⟨e,F2,rfl,Y,d5,C⟩;have a9:=W.then C;have d6:=bf.af M iH C;refine⟨_,rfl,C,PC.ok (Rr L.decl L.every ((A.qp.af A.gr).af a9) (show bt d4 (λn=>F n/\cls n=1) c.decl h.ta h.tn h.pa h.pn from d6.at' 1) λn P=>d6.aE n P.1) ?_⟩;rintro _ g7 ⟨g,F4,rfl,Z,d7,b7⟩;have y3:=W.size;have k0:=C.size;have k1:=b7.size;rw[show(max 1 c.every).toNat=c.every.toNat by congr 1;omega]at Z;have j5:=Y.aE;obtain⟨Fa,d1,E,b0,g8,-⟩:=M.Io iH (k:=3) (w':=d4) (G':=F2) (C2:=recC p (yy h c self z1 z2 z3) {h with sp:=e} c {X with S:=⟨c.aA.toNat,[]⟩} true) (ai.keep C) (λn P l=>by have:=d5 n P;have:=g6 n l;omega) Y.aE (λ_=>⟨Y,aq.Cl.new d2,rfl⟩) λa G i j=>by
  rcases a with _|_|_|_|_|_|_|a<;>first|exact j|exact Zz rfl i
 obtain⟨u,r,b8,b1,g9,-⟩:=E.Io iH (k:=4) (w':=g7) (G':=F4) (C2:=mG p (yy h c self z1 z2 z3) {h with sp:=e,bp:=g} c {X with S:=⟨c.aA.toNat,[]⟩} []) (ai.keep b7) (λn P l=>by have:=d7 n P;have:=E.aE n l;omega) Z.aE Z λa G i j=>by
  rcases a with _|_|_|_|_|_|_|a<;>first|exact j|exact j rfl|exact Zz rfl i
 have d8:∀n,u n->F n\/w.heap.size<=n:=λn P=>by
  rcases g9 n P with k|k
  ·rcases g8 n k.1 with h6|h6
   ·exact .inl h6.1
   ·exact .inr (by have:=d5 n h6;omega)
  ·exact .inr (by have:=d7 n k;omega)
 refine⟨_,rfl,p,0,rfl,PS.mk (b8.at' 0).2 sM λk2 d9 k4 h4=>⟨p,0,rfl,PS.mk h4 sM λb9 e0 k5 h7=>λc1 h8=>?_⟩⟩;have j6:u p/\r p=0:=(b8.at' 0).1;have e1:ai b9 c1:=h8.keep;have h9:bf b9 u r (mG p (yy h c self z1 (UV e) (UV g)) {h with sp:=e,bp:=g} c {X with S:=⟨c.aA.toNat,[]⟩} []):=cR.store b8 (d9.then e0) h7;have b2:cd F w u b9:=⟨((ai.keep a9).af b7).then ((d9.then e0).mono λn _ f=>by have f:n=p:=f;rw[f];exact V.1),d8⟩
 have H:=bf.af h9 cm e1;have O:cd F w u c1:=⟨b2.keep.af e1,b2.new⟩
 have e2:=A.tC O;have e3:=(H.at' 0).2;have i0:=DL.uV (show DL c1 (λn=>u n/\r n=2) h.dp h.lp X.D X.log from H.at' 2) (e2.sub λn P=>P.1);refine⟨p,0,rfl,_,ae e3 rfl,p,0,rfl,_,ae e3 rfl,PC.ok (Jo A.laid i0) ?_⟩;have a0:∀{b},(if(aT X.D c.bk).no≠0 then((aT X.D c.bk).no,{X with D:=(aT X.D c.bk).D,log:=none,S:=⟨c.aA.toNat,[]⟩})
   else(0,{X with D:=(aT X.D c.bk).D,log:=some (aT X.D c.bk).V,S:=(⟨c.aA.toNat,[]⟩:aq).eG (aT X.D c.bk).out}))=b->fM c X=b:=λ{b} hq=>hq
 have b3:=CS (D:=X.D) (size:=c.bk);generalize aT X.D c.bk=b at a0 b3;rintro _ i1 (⟨I,rfl,e5,c3⟩|⟨I,s,e9,a1,cc,G,rfl,c4,i2,c3,hG,hq,j7⟩)
 ·obtain⟨G2,c5,a2,c6,-⟩:=DL.Ow (Y:=λ_=>False) (e5.mono λn P=>P.elim id False.elim) c3
  obtain⟨t,Q,v,a3,-,-⟩:=H.tC cm (k:=2) (G':=G2) (C2:=mG p (yy h c self z1 (UV e) (UV g)) {h with sp:=e,bp:=g,lp:=none} c {X with S:=⟨c.aA.toNat,[]⟩,D:=b.D,log:=none} []) a2 c6 (by
    obtain⟨Fd,h1,h2,M⟩:=c5;exact⟨Fd,h1,h2,rfl⟩) λa G i j=>by
   rcases a with _|_|_|_|_|_|_|a<;>first|exact j|exact Zz rfl i
  refine⟨_,_,_,_,_,rfl,p,0,rfl,PS.mk (v.at' 0).2 sM λx y e4 c7=>al.eu (λ_=>Ok.mk ?_) (λh0=>Zz h0 I)⟩;rw[a0 (Zx I)];refine⟨rfl,Qj _,{h with sp:=e,bp:=g,lp:=none},t,Q,cR.store v y c7,?_⟩;have J:=O.trans a3;exact⟨J.keep.then (y.mono λn _ f=>by have f:n=p:=f;rw[f];exact V.1),J.new⟩
 ·obtain⟨G2,c5,a2,c6,hY⟩:=DL.HK i2 c3 (b3 I)
  obtain⟨t,Q,v,a3,i3,-⟩:=H.tC cm (k:=2) (G':=G2) (C2:=mG p (yy h c self z1 (UV e) (UV g)) {h with sp:=e,bp:=g,lp:=UV s} c {X with S:=⟨c.aA.toNat,[]⟩,D:=b.D,log:=some b.V} []) a2 c6 c5 λa G i j=>by
   rcases a with _|_|_|_|_|_|_|a<;>first|exact j|exact Zz rfl i
  refine⟨_,_,_,_,_,rfl,p,0,rfl,PS.mk (v.at' 0).2 sM λx y e4 c7=>al.eu (λh0=>Zz rfl h0) (λ_=>?_)⟩;have f0:bf x t Q (mG p (({h with sp:=e,bp:=g,lp:=UV s}:kM).cells c self) {h with sp:=e,bp:=g,lp:=UV s} c {X with S:=⟨c.aA.toNat,[]⟩,D:=b.D,log:=some b.V} []):=cR.store v y c7;have J:=O.trans a3;have b4:cd F w t x:=⟨J.keep.then (y.mono λn _ f=>by have f:n=p:=f;rw[f];exact V.1),J.new⟩
  have j8:=O.keep.size;have c8:∀n,G n->¬t n:=λn P l=>by
   rcases i3 n l with k|k
   ·have:=H.aE n k.1;have:=hG n P;omega
   ·exact hY n k P
  have i4:∀n,G n->n≠p:=λn P f=>c8 n P (f▸(v.at' 0).1.1);have b5:=c4.aE;have k6:=c4.len dC;have b6:Row iz 96 x G e9 a1 b.out:=wu.row (((c4.keep y λn P f=>i4 n P f)).row dC cw);have k7:x.heap.size=i1.heap.size:=e4;rw[a0 (Zq (by simpa using I))];have g4:=Tt b6;refine⟨λc0 a4 w'=>∃(a:Nat) (R:ac) (e6:Nat->Nat),a4=a/\a<=a1/\c0=a1-a/\bf w' R e6 (mG p (({h with sp:=e,bp:=g,lp:=UV s}:kM).cells c self) {h with sp:=e,bp:=g,lp:=UV s} c {X with S:=(⟨c.aA.toNat,[]⟩:aq).eG (b.out.take a),D:=b.D,log:=some b.V} [])/\cd t x R w',
   ⟨_,0,t,Q,rfl,Qj _,rfl,f0,cd.refl _ _⟩,?_⟩
  rintro c0 _ _ e7 ⟨a,R,e6,rfl,i,rfl,c9,z⟩;have i5:∀n,G n->¬R n:=λn P l=>by
   rcases z.new n l with k|k
   ·exact c8 n P k
   ·have:=b5 n P;omega
  have d0:=aq.nV (b.out.take a) ⟨c.aA.toNat,[]⟩;rw[Qy]at d0;simp only[ZQ]at d0;refine al.dec (λk8=>?_) (λk9=>?_)
  ·obtain⟨m,S⟩:∃m,b.out[a]? =some m:=⟨_,Qq oM⟩
   obtain⟨n,f1,es,ha,l0,l3,i6,xa,xn,xc,rfl,i7,c2⟩:=(b6.keep z.keep c8).el a m S;refine⟨n,f1,ha,oM,oM,bJ (es:=aF m xa xn xc) (k:=10) (bg _ _ _ _) rfl (λa4 ht=>by rw[Qx];exact i6 a4 ht) (PA.mk λl4 i8 l5 i9=>aD (bg m xa xn xc) i9 rfl λl6 j0 l7 j1=>λj2 e8=>?_)⟩;have K:ai e7 j2:=(i8.new j0 λn P=>.inr (by have P:n=e7.heap.size:=P;omega)).then e8.keep;have a5:=bf.af c9 cm K;have l8:=z.keep.size;obtain⟨f2,f3,f4⟩:=a5.at' 3;refine⟨p,0,rfl,_,ae (a5.at' 0).2 rfl,ar (bg m xa xn xc) ((e8.keep (S:=λ_=>False)).get j1 id) (PC.ok (vo f2 (i7.af K) (λn P=>⟨by have:=b5 n P;have:=K.size;omega,λl=>i5 n P l.1⟩) c2 (by show((⟨c.aA.toNat,[]⟩:aq).eG (b.out.take a)).l.length<_;omega)) ?_)⟩;rintro _ l9 ⟨rfl,F8,g0,g1⟩;have j3:((⟨c.aA.toNat,[]⟩:aq).eG (b.out.take (a+1)))=(((⟨c.aA.toNat,[]⟩:aq).eG (b.out.take a)).add m).2:=by
    rw[Qw,S];exact aq.nW ..
   obtain⟨F9,a6,a7,o,-⟩:=a5.tC cm (k:=3) (G':=F8) (C2:=mG p (({h with sp:=e,bp:=g,lp:=UV s}:kM).cells c self) {h with sp:=e,bp:=g,lp:=UV s} c {X with S:=(⟨c.aA.toNat,[]⟩:aq).eG (b.out.take (a+1)),D:=b.D,log:=some b.V} []) g1 g0.aE (by rw[j3];exact⟨g0,f3.add c2,(aq.VR _ _).trans f4⟩) λa G i j=>by
    rcases a with _|_|_|_|_|_|_|a<;>first|exact j|exact Zz rfl i
   exact⟨_,rfl,_,oM,a+1,F9,a6,an oM,oM,rfl,a7,z.trans ⟨(ai.keep K).then o.keep,λn P=>(o.new n P).imp id λh1=>by have:=K.size;omega⟩⟩
  ·rw[Qz oM]at c9 d0
   exact CU c9 (A.tC (b4.trans z)) (λf5 m f6 S=>by simp at S) (by show((⟨c.aA.toNat,[]⟩:aq).eG b.out).l.length<=_;omega) (κ:=λB w'=>Ok (λB w'=>B= WP 0/\((⟨c.aA.toNat,[]⟩:aq).eG b.out).l.length<=16777216/\∃U q d,cR w' q d p U c self {X with S:=(⟨c.aA.toNat,[]⟩:aq).eG b.out,D:=b.D,log:=some b.V}/\cd F w q w') (.returned B) w')
    λw' q d a8 g2=>Ok.mk ⟨rfl,oM,_,q,d,a8,(b4.trans z).trans g2⟩
end
structure gO where
 code:Int
 id:Int×Int
 st:ny
 Lr:List cU
 rows:List dX
 more:Bool
def gh(n:gO)(P:be)(a b:Nat)(c:be)(d e:Nat)(f:be)(g h:Nat):List Value:=
 [WP n.code,WP n.id.1,WP n.id.2,WP n.st.version,.slice P a b,.slice c d e,.slice f g h,.bool n.more]
def iV(n:gO)(P:be)(a b:Nat)(c:be)(d e:Nat)(f:be)(g h:Nat):iQ LL 46 (gh n P a b c d e f g h)=true:=kR
def fz(h:World)(n:gO)(i:Value)(P:World):Prop:=∃(b:be) (c j:Nat) (d:be) (e k:Nat) (f:be) (g l:Nat) (G:ac),i= .agg (gh n b c j d e k f g l).toArray/\
 Row fy 32 P G b c n.st.cells/\Row xu 120 P G d e n.Lr/\Row Ib 24 P G f g n.rows/\∀a,G a->h.heap.size<=a/\a<P.heap.size
abbrev bS(n:Int):gO:=⟨n,(0,0),⟨0,[]⟩,[],[],false⟩
abbrev IW(id:Int×Int):gO:=⟨0,id,⟨0,[]⟩,[],[],false⟩
structure jT.Ok (x:jT):Prop where
 a_:aH x.a_
 agg:aH x.agg
 field:aH x.field
 op:aH x.op
 arg:aH x.arg
 key:aH x.key
section
variable {w w' w0:World} {p:Nat} {F E T:ac} {cls:Nat->Nat} {h:kM} {c:bF} {self:Int} {X:bh} {evs lB:List ah} {ea:be} {en ec:Nat}
def fz.plain{n:gO}(P:n.st.cells=[])(a:n.Lr=[])(b:n.rows=[]):fz w n (.agg (gh n none 0 0 none 0 0 none 0 0).toArray) w':=
 ⟨none,0,0,none,0,0,none,0,0,λ_=>False,rfl,by rw[P];exact dF _ _,by rw[a];exact dF _ _,by rw[b];exact dF _ _,λd c=>c.elim⟩
def row_one{n:kq j}{bytes P:Nat}{w:World}{m:Nat×Nat}{d:j}{D:ac}(e:w.heap[P]? =some (.cells o g m))(f:n.rep w D d o.toList)(h:bytes<=1000):Row n bytes w (λa=>a=P\/D a) (UV P) 1 [d]:=by
 have p:=n.len f;refine⟨rfl,by unfold aP;omega,λb q c=>?_⟩;obtain rfl:b=0:=by
  rcases b with _|b
  ·rfl
  ·simp at c
 simp at c;subst c;refine⟨P,0,o.toList,rfl,az e,.inl rfl,λi k=>?_,n.mono f λa h=>.inr h⟩;have l:i<o.size:=by rw[<-p]at k;simpa using k
 rw[ae e (v:=o[i]) (by simp[l])];simp[l]
def Xt(i:y.OK){M:Int}(d:0<=M)(e:∀n∈y.l,n.aC<=M):y.top<=M:=by
 have:∀(a:List ah) (P:Int),P<=M->(∀n∈a,n.aC<=M)->a.foldl (λP n=>max P n.aC) P<=M:=by
  intro a
  induction a with
  |nil=>intro P b _;exact b
  |cons n a f=>
   intro P b c;refine f _ ?_ λg h=>c g (QJ _ h);have:=c n (QV ..);show max P n.aC<=M;omega
 exact this y.l 0 d e
def Ng[Decidable M]{n P:ah×Bool×Int}(a:n.1.Ok)(b:P.1.Ok):(if M then n else P).1.Ok:=by
 split
 ·exact a
 ·exact b
def Kv(n:b8.Ok)(c:aH e)(f:aH r)(P:∀d∈s,aH d):(aX b8 e s r).2.Ok:=by
 have g:=CV P e;unfold aX;dsimp only
 by_cases a:e<0\/(s.length:Int)<=e\/r<0
 ·rw[Zx a];exact CW
 rw[Zq a]
 by_cases b:dH s e=9223372036854775807\/r=9223372036854775807
 ·rw[Zx b];exact CW
 rw[Zq b];refine⟨c,?_,?_,FR P sM,n.a_,n.agg,n.field,n.op,n.arg,n.key⟩
 ·show aH (dH s e+1);unfold aH at*;omega
 ·show aH (r+1);unfold aH at*;omega
def Vy(d:y.l.length<=20000000):∀P∈y.vec,aH P:=λP b=>by
 obtain⟨c,n,rfl⟩:=List.getElem_of_mem b;rw[y.aY]at n;have a:=y.lC n;rw[Qq (by rw[y.aY];exact n)]at a;rw[XJ a];have:=y.Hp c;unfold aH;omega
def Ox(n:y.OK):aH y.top:=by
 have b:=Xt n (M:=9223372036854775807) oM λP a=>by have:=(n.ok P a).aC;unfold aH at this;omega
 have c:=y.Nh;unfold aH;omega
def Ob{d:aU}{V:bj}(P:b8.Ok)(n:y.OK)(a:aH e)(h:aH r)(b:y.l.length<=20000000):(fk d y V e r b8).1.Ok:=by
 have c:aH (max y.top r):=by
  have i:=Ox n;unfold aH at*;omega
 rw[yz];refine Ng CW ?_
 cases f:y.keyed b8.key with
 |some g=>exact n.ok g (List.mem_of_find?_eq_some f)
 |none=>exact Ng CW (Ng CW (Kv P a c (Vy b)))
end
section
variable {w w' w0:World} {p:Nat} {F E T:ac} {cls:Nat->Nat} {h:kM} {c:bF} {self:Int} {X:bh}
def ks.YK(n:ks c self):0<=self/\self<c.aA:=by
 have:=n.right;unfold fQ within at this;simp only[QK,Zk]at this;omega
def IN(hr:bY w p F c self X)(J:Env w0 w F)(hx:b8.Ok)(hl:X.S.l.length+1<=20000000):
  bn 47 #[RK p,Bp b8] w (Ok λa3 w'=>∃d,fz w (if(eU c self X b8).1≠0 then bS (eU c self X b8).1 else IW (eU c self X b8).2.1) a3 w'/\bY w' p d c self (eU c self X b8).2.2/\cd F w d w'):=by
 have a8:=hr;obtain⟨q,h,cls,l⟩:=hr;have u:=l.aE;have e3:=(l.Kk)
 have h4:=u p e3.1;have c0:aH self:=by have:=q.YK;have:=q.aA;unfold aH;omega
 refine mz (PA.mk λC e4 h6 e5=>PA.mk λb2 c2 h7 d6=>?_);have a1:=e4.then c2;have e6:=cR.af l a1;have E:∀{f:World} {d:ac} {k:bh} {y:gO},y.st.cells=[]->y.Lr=[]->y.rows=[]->(∃r,f.heap[C.heap.size]? =some (.cells r 46 (0,0))/\r.size=8)->bY f p d c self k->(∀n,d n->F n\/b2.heap.size<=n)->cd F w d f->(eU c self X b8).2.2=k->(if(eU c self X b8).1≠0 then bS (eU c self X b8).1 else IW (eU c self X b8).2.1)=y->
   oQ LL 46 (RK C.heap.size) (.agg (gh y none 0 0 none 0 0 none 0 0).toArray) f λc3=>jB LL 46 (RK C.heap.size) c3 λa=>Ok (λa3 w'=>∃d,fz w (if(eU c self X b8).1≠0 then bS (eU c self X b8).1 else IW (eU c self X b8).2.1) a3 w'/\bY w' p d c self (eU c self X b8).2.2/\cd F w d w') (.returned a) c3:=λ{f d k y} y1 y2 y3 hz b3 b4 Q hX hy=>by
  obtain⟨r,hg,e7⟩:=hz;refine aD (iV y none 0 0 none 0 0 none 0 0) hg (by rw[e7];rfl) λc3 d7 h8 e8=>ar (iV y none 0 0 none 0 0 none 0 0) e8 (Ok.mk ⟨d,by rw[hy];exact fz.plain y1 y2 y3,?_,Q.keep.new d7 λn P=>.inr (by have P:n=C.heap.size:=P;omega),Q.new⟩);rw[hX];refine b3.keep d7 λn P e=>?_;have e:n=C.heap.size:=e;rcases b4 n P with h1|h1
  ·have:=u n h1;omega
  ·omega
 refine⟨p,0,rfl,_,ae e6.bA rfl,jL Tryz.underlying111 ⟨_,rfl,?_⟩⟩;have d8:DL w (λn=>F n/\cls n=2) h.dp h.lp X.D X.log:=l.at' 2;obtain⟨hS,R,hn⟩:=(show cM w h.sp (λn=>F n/\cls n=3) X.S/\X.S.Cl/\X.S.n=c.aA.toNat from l.at' 3)
 cases S:X.log with
 |none=>
  obtain⟨Fd,-,-,h3⟩:=d8;rw[S]at h3;have h3:h.lp=none:=h3;rw[h3];refine al.tt rfl ?_;have m:eU c self X b8=(15,(0,0),X):=by unfold eU;rw[S]
  exact E (y:=bS 15) rfl rfl rfl ⟨_,d6,rfl⟩ (a8.af a1) (λn P=>.inl P) ⟨ai.keep a1,λn P=>.inl P⟩ (by rw[m]) (by rw[m];rfl)
 |some f1=>
 obtain⟨f3,a4,c4,-⟩:=DL.Qs (S▸d8) (J.sub λn P=>P.1) λn P=>u n P.1;rw[a4];refine al.ff rfl λe9 f2=>⟨λ_=>False,?_⟩
 have b5:ai b2 e9:=f2.keep;have a2:=a1.then b5;have c5:=cR.af l a2;refine⟨p,0,rfl,id,_,_,_,_,_,_,ae c5.bA rfl,ae c5.bA rfl,p,0,rfl,_,ae c5.bA rfl,PC.ok (su (hS.af a2) oM) ?_⟩;rintro _ h9 ⟨la,ln,lc,G,rfl,c6,K,hG⟩;have i0:=c6.len dC;have g0:=c6.aE;have T:=a2.then K;have i1:=cR.af l T;have b9:∀{f:World},ai w f->bt f (λn=>F n/\cls n=1) c.decl h.ta h.tn h.pa h.pn:=λ{f} H=>(cR.af l H).at' 1;refine⟨_,_,_,rfl,K,PC.ok (Ih q.decl (J.qp.af (J.gr.then T)) (b9 T) (λn P=>by have:=u n P.1;have:=T.size;omega) (c6.row dC cw) (λn P=>g0 n P) oM) ?_⟩;rintro _ I ⟨vp,Fv,rfl,hv,i2,L⟩;have M:=T.then L;have c1:=((c2.then b5).then K).then L;obtain⟨g9,g1⟩:=Is q.decl X.S.l;obtain⟨a,c7⟩:∃a,a=fk c.decl X.S (bU c.decl X.S.l) self c.start b8:=⟨_,rfl⟩
 have i3:=a2.size;have i4:=K.size;have i5:=L.size;have v:∀{f:World},ai I f->bn 74 #[.agg #[.slice h.ta h.tn h.tc,.slice h.pa h.pn h.pc],RK h.sp,RK vp,WP self,WP c.start,Bp b8] f (Ok (w_ f a)):=λ{f} H=>by
  rw[c7];exact Es (J.qp.af ((J.gr.then M).then H)) (b9 (M.then H)) (λn P=>by have:=u n P.1;have:=(M.then H).size;omega) q.decl (hS.af (M.then H)) oM (hv.af H) g1
   (by have:=q.start;unfold aH at this;omega) (by have:=Ox R.ok;unfold aH at this;omega)
 refine⟨_,rfl,L,λU eo o no w'=>eo=0/\∃g i j G,w'.heap[U]? =some (.cells (aF a.1 g i j).toArray 82 (0,0))/\Row aO 8 w' G g i a.1.aM/\(∀n,G n->I.heap.size<=n/\n<w'.heap.size)/\I.heap.size<=U/\o=a.2.1/\no=a.2.2/\ai I w',?_,?_⟩
 ·intro x d9
  have N:ai I x:=d9.keep;have i6:x.heap.size=I.heap.size:=by rw[d9.heap]
  have e0:=M.then N;have V:=cR.af l e0;have e1:=N.get (c1.get e5 id) id;have nS:¬x.heap.size<=p:=oM
  have g2:¬x.heap.size<=w.heap.size:=by have:=b5.size;have:=K.size;have:=L.size;omega
  refine⟨λn=>x.heap.size<=n,p,0,rfl,nS,_,_,_,_,_,_,ae V.bA rfl,ae V.bA rfl,p,0,rfl,nS,_,ae V.bA rfl,p,0,rfl,nS,_,ae V.bA rfl,p,0,rfl,nS,_,ae V.bA rfl,g2,ar (Bn b8) e1 ⟨PC.ok (v N) ?_,PA.mk λi7 c8 i8 g3=>⟨ai.keep c8,PC.ok (v (N.then c8)) ?_⟩⟩⟩
  ·rintro _ c9 ⟨g,i,j,G,rfl,W,s,d0⟩
   have i9:=d0.size;refine cg (sO a.1 g i j) ⟨_,_,rfl,ai.keep d0,PA.mk λj0 d1 j1 g4=>⟨ai.keep d1,aD (bg a.1 g i j) g4 rfl λj2 d2 j3 g5=>⟨d2.mono λn _ e=>by have e:n=c9.heap.size:=e;omega,rfl,g,i,j,G,g5,?_,λn P=>⟨by have:=s n P;omega,by have:=s n P;omega⟩,oM,rfl,rfl,?_⟩⟩⟩
   ·exact(W.af d1).keep d2 λn P e=>by have e:n=c9.heap.size:=e;have:=(s n P).2;omega
   ·exact((N.then d0).then d1).new d2 λn P=>.inr (by have P:n=c9.heap.size:=P;omega)
  ·rintro _ j4 ⟨g,i,j,G,rfl,W,s,b6⟩
   have j5:=b6.size;refine cg (sO a.1 g i j) ⟨_,_,rfl,ai.keep b6,aD (bg a.1 g i j) (b6.get g3 id) rfl λj6 d3 j7 g6=>⟨d3.mono λn _ e=>by have e:n=x.heap.size:=e;omega,rfl,g,i,j,G,g6,?_,λn P=>⟨by have:=s n P;omega,by have:=s n P;omega⟩,oM,rfl,rfl,?_⟩⟩
   ·exact W.keep d3 λn P e=>by have e:n=x.heap.size:=e;have:=(s n P).1;omega
   ·exact((N.then c8).then b6).new d3 λn P=>.inr (by have P:n=x.heap.size:=P;omega)
 rintro U _ o no _ O ⟨rfl,g,i,j,G2,b,W,s,j8,rfl,rfl,d4⟩;have Y:=M.then d4;have j9:=cR.af l Y;have h2:=c1.then d4;have b0:=d4.get (L.get (K.get (b5.get d6 id) id) id) id;have a5:a.1.Ok:=by rw[c7];exact Ob hx R.ok c0 q.start oM
 have a6:∀{z:Int×(Int×Int)×bh},(if a.2.2≠0 then(a.2.2,(0,0),X)else if a.2.1 then(if(dx c X [a.1]).1≠0 then((dx c X [a.1]).1,(0,0),(dx c X [a.1]).2)else(0,aZ a.1,(dx c X [a.1]).2))else(0,aZ a.1,X))=z->eU c self X b8=z:=λ{z} ht=>by
  rw[<-ht,c7];unfold eU;rw[S]
 have k0:=Y.size;have d5:=az b;refine⟨λz w'=>∃d k,bY w' p d c self k/\cd F w d w'/\(∀n,d n->F n\/b2.heap.size<=n)/\w'.heap[U]? =some (.cells (aF a.1 g i j).toArray 82 (0,0))/\(∃r,w'.heap[C.heap.size]? =some (.cells r 46 (0,0))/\r.size=8)/\eU c self X b8=(if z≠0 then(z,(0,0),k)else(0,aZ a.1,k)),?_,?_⟩
 ·have A:eU c self X b8=(if a.2.2≠0 then(a.2.2,(0,0),X)else(0,aZ a.1,X))->∃d k,bY O p d c self k/\cd F w d O/\(∀n,d n->F n\/b2.heap.size<=n)/\O.heap[U]? =some (.cells (aF a.1 g i j).toArray 82 (0,0))/\(∃r,O.heap[C.heap.size]? =some (.cells r 46 (0,0))/\r.size=8)/\eU c self X b8=(if a.2.2≠0 then(a.2.2,(0,0),k)else(0,aZ a.1,k)):=λm=>
   ⟨F,X,a8.af Y,⟨ai.keep Y,λn P=>.inl P⟩,λn P=>.inl P,b,⟨_,b0,rfl⟩,m⟩
  refine al.eT (λB=>al.mk (λt=>?_) (λt=>A (a6 (by rw[Zq (by simpa using B),Zq (by simpa using t),Zq (by simpa using B)])))) (λB=>A (a6 (by rw[Zx B,Zx B])));refine⟨_,_,_,_,_,_,_,_,_,_,_,_,ae b rfl,ae b rfl,ae b rfl,ae b rfl,ae b rfl,ae b rfl,ae b rfl,ae b rfl,ae b rfl,ae b rfl,PA.mk λe2 b7 k1 g7=>?_⟩;have a9:=Y.then b7;have f0:Row iz 96 e2 (λn=>n=O.heap.size\/G2 n) (UV O.heap.size) 1 [a.1]:=row_one g7 ⟨g,i,j,rfl,W.af b7,a5⟩ dC;refine PC.ok (Kl (cR.af l a9) q (J.af a9) S f0 (λn P=>?_) (by simpa using hl)) ?_
  ·have g8:I.heap.size<=n/\n<e2.heap.size:=P.elim (λe=>⟨oM,oM⟩) λh5=>by have:=s n h5;omega
   exact⟨g8.2,λt=>by have:=u n t.1;omega⟩
  rintro _ k2 ⟨rfl,h',d,Z,a7,a0,-⟩;refine⟨_,rfl,d,(dx c X [a.1]).2,⟨q,h',Z,a7⟩,⟨(ai.keep a9).then a0.keep,λn P=>(a0.new n P).imp id λh1=>oM⟩,λn P=>(a0.new n P).imp id λh1=>by have:=c2.size;omega,a0.keep.get (b7.get b id) λt=>by have:=u _ t;omega,⟨_,a0.keep.get (b7.get b0 id) λt=>by have:=u _ t;omega,rfl⟩,?_⟩;exact a6 (by rw[Zq (by simpa using B),Zx t])
 ·rintro z _ k3 ⟨d,k,b3,Q,b4,b1,hz,m⟩
  refine al.eu (λc4=>?_) (λB=>⟨_,_,ae b1 rfl,ae b1 rfl,?_⟩)
  ·rw[Zx c4]at m
   exact E (y:=bS z) rfl rfl rfl hz b3 b4 Q (by rw[m]) (by rw[m];exact Zx c4)
  ·rw[Zq (by simpa using B)]at m
   exact E (y:=IW (aZ a.1)) rfl rfl rfl hz b3 b4 Q (by rw[m]) (by rw[m];rfl)
end
def fW(c:World)(d:ac)(g:List bG)(h:Value)(a:World):Prop:=
 ∃(P:be) (e f:Nat) (b:List KT) (D:ac),h= .slice P e f/\aS PF 97 (λn=>aI P=some n) a P e f b/\b.map (·.m)=g/\(∀n∈b,n.In a D)/\(∀n,D n->c.heap.size<=n/\n<a.heap.size/\aI P≠some n/\¬d n)/\∀n,aI P=some n->c.heap.size<=n/\¬d n
section
variable {w w' w0 w1:World} {p:Nat} {F E T Z:ac} {cls:Nat->Nat} {h:kM} {c:bF} {self:Int} {X:bh} {ms:List bG} {v:Value}
def br.out(e:br w1 ms v w')(c:∀n,Z n->n<w1.heap.size)(o:w.heap.size<=w1.heap.size):fW w Z ms v w':=by
 obtain⟨f,g,h,i,D,j,k,l,m,a,d,p⟩:=e;exact⟨f,g,h,i,D,j,k,l,m,λn P=>⟨by have:=(a n P).1;omega,(a n P).2.1,(a n P).2.2,λb=>by have:=c n b;have:=(a n P).1;omega⟩,λn P=>⟨by have:=d n P;omega,λb=>by have:=c n b;have:=d n P;omega⟩⟩
def fW.nil(w0 w:World)(Z:ac):fW w0 Z [] (.slice none 0 0) w:=⟨none,0,0,[],λ_=>False,rfl,(aS.nil w).mono (λP n=>n.elim) (λP n=>(by cases n)),rfl,sM,λP n=>n.elim,λP n=>(by cases n)⟩
def br.one{m:bG}{va b:be}{vn vc c d a:Nat}{D:ac}(f:w.heap[a]? =some (.cells (et m va vn vc b c d).toArray 97 (0,0)))(h:(⟨m,va,vn,vc,b,c,d⟩:KT).In w D)(e:∀P,D P->w0.heap.size<=P/\P<w.heap.size/\P≠a)(j:w0.heap.size<=a)(i:ai w0 w):
  br w0 [m] (.slice (UV a) 1 1) w:=by
 have k:=az f;refine⟨UV a,1,1,[⟨m,va,vn,vc,b,c,d⟩],D,rfl,⟨⟨et m va vn vc b c d,λ_=>False,Own.AU f rfl (by unfold maxLen;omega),cf.one ⟨rfl,trivial⟩,λP n=>n.elim⟩,λP n=>n,λP n=>?_⟩,rfl,λP n=>?_,λP n=>⟨(e P n).1,(e P n).2.1,λg=>?_⟩,λP n=>?_,i⟩
 ·simp only[aI,Q1]at n;omega
 ·simp at n;subst n;exact h
 ·simp only[aI,Q1]at g;exact(e P n).2.2 g.symm
 ·simp only[aI,Q1]at n;omega
def GH(o:bY w p F c self X)(A:aH e):
  bn 46 #[RK p,WP e,WP r] w (Ok λv w'=>∃n,fW w n (fg c self X e r).1 v w'/\bY w' p n c self (fg c self X e r).2/\cd F w n w'):=by
 have B:=o;obtain⟨C,h,cls,b⟩:=o;have no:(e<0\/e>=c.aA\/e=self)->Ok (λv w'=>∃n,fW w n (fg c self X e r).1 v w'/\bY w' p n c self (fg c self X e r).2/\cd F w n w') (.returned (.slice none 0 0)) w:=λi=>by
  have:fg c self X e r=([],X):=by unfold fg;rw[Zx i]
  rw[this];exact Ok.mk ⟨F,fW.nil _ _ _,B,cd.refl _ _⟩
 refine lR (al.dec (λj=>no (.inl j)) (λj=>⟨p,0,rfl,_,ae b.bA rfl,al.dec (λk=>no (.inr (.inl k))) (λk=>⟨p,0,rfl,_,ae b.bA rfl,al.eT (λl=>no (.inr (.inr l))) (λl=>⟨p,0,rfl,_,ae b.bA rfl,?_⟩)⟩)⟩));have E:fg c self X e r=([lF X.S self e],{X with gJ:={X.gJ with asked:=aJ X.gJ.asked e r}}):=by unfold fg;rw[Zq (by rintro(h|h|h);exact j h;exact k h;exact l h)]
 refine PC.ok (Kw (b.at' 6) A) ?_;rintro _ q ⟨rfl,H,s⟩;have I:cR q F cls p h c self {X with gJ:={X.gJ with asked:=aJ X.gJ.asked e r}}:=bf.same b cm (k:=6) s H λt G J i=>by
  rcases t with _|_|_|_|_|_|_|t<;>first|exact i|exact Zz rfl J
 refine⟨rfl,λm K=>?_⟩;have u:ai q m:=K.keep;have a:=cR.af I u;refine⟨p,0,rfl,_,ae a.bA rfl,p,0,rfl,_,ae a.bA rfl,PC.ok (zb (a.at' 3).1) ?_⟩;rintro _ L ⟨S,T,U,G,rfl,x,M,f⟩;have y:=x.aE;have N:=f.size;refine⟨_,_,_,_,_,_,_,_,_,rfl,PA.mk λO g V Q=>?_⟩;rw[E];have R:br m [lF X.S self e] (.slice (UV L.heap.size) 1 1) O:=br.one (D:=G) Q ⟨(x.af g).row dC (by show X.S.vec.length*8<=aP;rw[X.S.aY];have:=(a.at' 3).1.1.n;have:X.S.n<=64:=this;unfold aP;omega),dF _ _⟩ (λd P=>⟨M d P,by have:=y d P;omega,by have:=y d P;omega⟩) N (f.then g);have z:aj F w m:=(s.mono λd _ P=>P.1).af u;exact Ok.mk ⟨F,R.out a.aE z.size,⟨C,h,cls,cR.af a (f.then g)⟩,(z.af f).af g,λd P=>.inl P⟩
def Vz(T:kQ)(b:Int):∀n∈T.due b,n∈T.open:=by
 have:∀(c:List Int) (d:List Int×List (Int×Int)),∀n∈(c.foldl (gH T.dj b) d).1,n∈d.1\/n∈c:=by
  intro c
  induction c with
  |nil=>intro d n P;exact .inl P
  |cons g c f=>
   intro d n P;rcases f _ n P with a|a
   ·unfold gH at a
    split at a
    ·rcases Q6.1 a with e|e
     ·exact .inl e
     ·simp at e;subst e;exact .inr (QV ..)
    ·exact .inl a
   ·exact .inr (QJ _ a)
 intro n P;unfold kQ.due kQ.jH at P;rw[List.take_length]at P;exact(this T.open ([],T.asked) n P).resolve_left sM
def Tv{T:kQ}(a:∀n∈T.asked,aH n.1):∀P∈T.open,aH P:=λP b=>by
 have:P∈T.asked.map (·.1):=(List.mergeSort_perm _ _).mem_iff.1 b;obtain⟨n,c,rfl⟩:=Xk.1 this;exact a n c
def NL(T:kQ)(n:Int):(T.due n).length<=T.asked.length:=by
 have:∀(a:List Int) (P:List Int×List (Int×Int)),(a.foldl (gH T.dj n) P).1.length<=P.1.length+a.length:=by
  intro a
  induction a with
  |nil=>intro P;simp
  |cons b a d=>
   intro P;have c:=d (gH T.dj n P b);have e:(gH T.dj n P b).1.length<=P.1.length+1:=by
    unfold gH;split
    ·simp
    ·omega
   simp only[List.foldl_cons,Xq];omega
 have c:=this T.open ([],T.asked);unfold kQ.due kQ.jH;rw[List.take_length];have e:T.open.length=T.asked.length:=by simp[kQ.open,xd]
 simp only[ZQ]at c;omega
def RV(M:bY w p F c self X)(a:X.gJ.asked.length<=1000):
  bn 45 #[RK p,WP e] w (Ok λv w'=>∃l,fW w l (pX self X e).1 v w'/\bY w' p l c self (pX self X e).2/\cd F w l w'):=by
 obtain⟨N,h,cls,m⟩:=M;have u:eB w h.tp (λn=>F n/\cls n=6) X.gJ:=m.at' 6;have O:∀b∈X.gJ.due e,aH b:=λb f=>Tv u.tJ b (Vz _ _ b f);have b0:=NL X.gJ e;refine pg ⟨p,0,rfl,_,ae m.bA rfl,PC.ok (QE u cw) ?_⟩;rintro _ g ⟨Q,o,cc,rfl,x,R,q,hn⟩;have y:cR g F cls p h c self {X with gJ:=X.gJ.Tw e}:=bf.same m cm (k:=6) q R λP G z S=>by
  rcases P with _|_|_|_|_|_|_|P<;>first|exact S|exact Zz rfl z
 have T:=x.length;rw[kp,Nat.mul_one]at T;have U:Ints g Q o (X.gJ.due e):=x.ints cw O;have V:=y.aE;have W:=q.size;refine⟨_,_,_,rfl,λA B C E Y w'=>∃P:Nat,Y=P/\P<=o/\A=o-P/\br g (((X.gJ.due e).take P).map λd=>lF X.S self d) (.slice B C E) w',⟨_,0,rfl,Qj _,rfl,br.nil g⟩,?_⟩;rintro A B C E _ _ Z ⟨P,rfl,z,rfl,i⟩;have r:=i;obtain⟨a3,n1,c1,a4,D,he,g2,g3,g4,g5,g6,j⟩:=r
 cases he
 have H:=cR.af y j;have b1:=j.size;refine al.dec (λb2=>?_) (λb3=>?_)
 ·obtain⟨n,s,b,rfl,b4,f,b5,a0⟩:=(U.af j).at (i:=(P:Int)) oM oM
  rw[Qx]at f;refine⟨n,s,rfl,oM,oM,b,a0,λa6 a7=>?_⟩;have t:ai Z a6:=a7.keep;have k:=cR.af H t;refine⟨p,0,rfl,_,ae k.bA rfl,p,0,rfl,_,ae k.bA rfl,PC.ok (zb (k.at' 3).1) ?_⟩;rintro _ b6 ⟨va,vn,vc,G,rfl,I,J,K⟩;have a8:=I.aE;have b7:=t.size;have b8:=K.size;refine⟨_,_,_,_,_,_,_,_,_,rfl,PA.mk λb9 L c2 a9=>?_⟩;refine br.push (m:=lF X.S self b) (E:=G) (i.af ((t.then K).then L)) Fe ⟨(I.af L).row dC (by show X.S.vec.length*8<=aP;rw[X.S.aY];have:X.S.n<=64:=(k.at' 3).1.1.n;unfold aP;omega),dF _ _⟩ (λn a=>⟨by have:=J n a;omega,by have:=a8 n a;omega,λa1=>by have:=g2.aE n a1;have:=J n a;omega⟩) a9 (by rw[Q8,Qy];omega) λa' c' c3 a2 c4=>⟨_,_,_,rfl,_,?_,P+1,an oM,oM,rfl,?_⟩
  ·omega
  ·rw[Qw,f,Q3];exact a2
 ·rw[Qz oM]at i
  exact Ok.mk ⟨F,i.out V W,⟨N,h,cls,H⟩,(q.mono λn _ a=>a.1).af j,λn a=>.inl a⟩
def Uw(P:bY w p F c self X):bn 27 #[RK p] w (Ok (qh aO 3 w X.S.vec)):=by
 obtain⟨f,h,cls,n⟩:=P;refine qv ⟨p,0,rfl,_,ae n.bA rfl,PC.ok (mK (n.at' 3).1) ?_⟩;rintro _ g ⟨a,b,d,G,rfl,e⟩;exact⟨_,_,_,rfl,Ok.mk ⟨a,b,d,G,rfl,e⟩⟩
def LB(a:bY w p F c self X)(n:X.S.l.length<=20000000):bn 29 #[RK p] w (Ok (qh iz 82 w X.S.l)):=by
 obtain⟨f,h,cls,P⟩:=a;refine nj ⟨p,0,rfl,_,ae P.bA rfl,PC.ok (su (P.at' 3).1 n) ?_⟩;rintro _ g ⟨b,d,e,G,rfl,n⟩;exact⟨_,_,_,rfl,Ok.mk ⟨b,d,e,G,rfl,n⟩⟩
end
def xf{c:aq}:∀{P:List ah} {e:ah} {S':aq} {l':List ah},dQ c P=some (e,S',l')->l'.length+1=P.length
 |[],e,S',l',n=>by simp[dQ]at n
 |x::P,e,S',l',n=>by
  unfold dQ at n;split at n
  ·simp only[Q1,Prod.mk.injEq]at n
   obtain⟨-,-,rfl⟩:=n;rfl
  ·cases a:dQ c P with
   |none=>rw[a]at n;cases n
   |some b=>
    rw[a]at n;simp only[Option.map_some,Q1,Prod.mk.injEq]at n;obtain⟨rfl,rfl,rfl⟩:=n;have:=xf (e:=b.1) (S':=b.2.1) (l':=b.2.2) a;simp only[Xq];omega
def xg:∀(k:Nat) (a:aq) (P n:List ah),(du k a P n).1.length+(du k a P n).2.length=n.length+P.length
 |0,a,P,n=>rfl
 |k+1,a,P,n=>by
  unfold du
  cases e:dQ a P with
  |none=>rfl
  |some f=>
   obtain⟨b,c,d⟩:=f;have h:=xf e;have g:=xg k c d (n++[b]);show(du k c d (n++[b])).1.length+(du k c d (n++[b])).2.length=_;rw[g,QX,List.length_singleton];omega
def xh(P:aq)(n:List ah):(bM P n).1.length+(bM P n).2.length<=n.length:=by
 unfold bM;dsimp only;rw[xg];have:=List.length_filter_le (λa=>(P.get (aZ a)).isNone) n;simp only[ZQ];omega
structure HO (w:World) (wp most:Nat) (M0 D0 E:ac) (s:Nat) (S:aq) (b:List ah) (oa:be) (on oc:Nat) (Lo:List (Bx ah)) (w1:World) (M Db Fs Do:ac):Prop where
 buf:iA w1 wp M Db most b
 set:cM w1 s Fs S
 OR:∀x∈Lo,nR.In w1 Do x
 out:aS nR.kO 82 (λb=>aI oa=some b) w1 oa on oc Lo
 nM:∀b,M b->(M0 b\/w.heap.size<=b)/\¬Fs b
 nD:∀b,Db b->(D0 b\/w.heap.size<=b)/\¬Fs b
 nF:∀b,Fs b->w.heap.size<=b
 nO:∀b,Do b->(E b\/D0 b\/w.heap.size<=b)/\b<w1.heap.size/\¬M b/\¬Fs b
 nA:∀b,aI oa=some b->w.heap.size<=b/\¬M b/\¬Fs b/\¬Do b/\¬Db b
 keep:aj M0 w w1
 cl:S.Cl
section
variable {w w' w0 w1 w2:World} {p wp most s on oc:Nat} {F E T Z M0 D0 M Db Fs Do:ac} {cls:Nat->Nat} {h:kM} {c:bF} {self:Int} {X:bh} {S:aq} {b:List ah} {oa:be} {Lo:List (Bx ah)}
def iA.QA(n:iA w p M Db most b):∀b,M b->b<w.heap.size:=by obtain⟨-,a,d,c,e,P⟩:=n;exact P.dM
def iA.Kx(n:iA w p M Db most b):∀b,Db b->b<w.heap.size/\¬M b:=by obtain⟨-,a,d,c,e,P⟩:=n;exact P.dD
def HO.af(n:HO w wp most M0 D0 E s S b oa on oc Lo w1 M Db Fs Do)(P:ai w1 w2):HO w wp most M0 D0 E s S b oa on oc Lo w2 M Db Fs Do:=
 ⟨n.buf.af P,n.set.af P,λc d=>(n.OR c d).keep P λ_ _ h=>h,n.out.af P,n.nM,n.nD,n.nF,λb a=>⟨(n.nO b a).1,by have:=(n.nO b a).2.1;have:=P.size;omega,(n.nO b a).2.2⟩,n.nA,n.keep.af P,n.cl⟩
def HO.add(P:HO w wp most M0 D0 E s S b oa on oc Lo w1 M Db Fs Do){h m:Nat}(o:Row aO 8 w1 f d h l.aM)(p:∀b,f b->b<w1.heap.size/\¬Fs b)(i:l.Ok)(y:S.l.length<=20000000):
  bn 96 #[RK s,lg l d h m] w1 (Ok λj w'=>j= WP (S.add l).1/\∃e,HO w wp most M0 D0 E s (S.add l).2 b oa on oc Lo w' M Db e Do/\aj Fs w1 w'/\∀b,e b->Fs b\/w1.heap.size<=b):=by
 refine(vo P.set o p i oM).mono ?_;rintro _ w2 ⟨j,rfl,rfl,k,q,a⟩;have r:=P.buf.QA;have t:=P.buf.Kx;have z:=P.keep.size;have c:∀b,b<w1.heap.size->¬Fs b->¬k b:=λb A u g=>(a.new b g).elim u oM;refine Ok.mk ⟨rfl,k,⟨P.buf.keep a.keep (λb n=>(P.nM b n).2) λb n=>(P.nD b n).2,q,λv x=>(P.OR v x).keep a.keep λb n=>(P.nO b n).2.2.2,P.out.keep a.keep λb n=>(P.nA b n).2.2.1,λb n=>⟨(P.nM b n).1,c b (r b n) (P.nM b n).2⟩,λb n=>⟨(P.nD b n).1,c b (t b n).1 (P.nD b n).2⟩,
  λb n=>(a.new b n).elim (P.nF b) λY=>oM,λb n=>⟨(P.nO b n).1,by have:=(P.nO b n).2.1;have:=a.keep.size;omega,(P.nO b n).2.2.1,c b (P.nO b n).2.1 (P.nO b n).2.2.2⟩,λb n=>⟨(P.nA b n).1,(P.nA b n).2.1,c b (P.out.aE b n) (P.nA b n).2.2.1,(P.nA b n).2.2.2⟩,P.keep.new a.keep λb n=>.inr (P.nF b n),P.cl.add i⟩,a.keep,a.new⟩
def HO.push{v:Program}(P:HO w wp most M0 D0 E s S b oa on oc Lo w1 M Db Fs Do)(z:ki v g 82 nR.kO.k 96){c:Bx ah}(A:nR.In w1 f c)(d:∀b,f b->(E b\/D0 b\/w.heap.size<=b)/\b<w1.heap.size/\¬M b/\¬Fs b/\aI oa≠some b){B:Nat×Nat}(C:w1.heap[a]? =some (.cells (aF c.x c.a c.n c.c).toArray 82 B))(Q:Lo.length<=1000000)(r:∀k p w' u,HO w wp most M0 D0 E s S b k (on+1) p (Lo++[c]) w' M Db Fs u->aj (λb=>aI oa=some b) w1 w'->(∀b,aI k=some b->aI oa=some b\/w1.heap.size<=b)->m (.slice k (on+1) p) w'):
  aK v (Builtin.append_ #[g,g] q #[.slice oa on oc,.slice (UV a) 1 1]) w1 m t:=by
 refine fV (c:=nR.kO) (x:=c) (D:=λ_=>False) P.out z C ⟨rfl,trivial⟩ (λb n=>n.elim) cw (by unfold maxLen;omega) λk p w2 R x e F=>?_;have I:=x.alone;have y:∀b,aI k=some b->aI oa=some b\/w1.heap.size<=b:=λb n=>(F b (x.self b n)).imp id λh=>h.resolve_left id;have T:=e.size;have z1:=P.keep.size;have J:=P.buf.QA;have K:=P.buf.Kx;have L:=P.set.aE;have nA:=P.nA;refine r k p w2 (λb=>Do b\/f b) ⟨P.buf.keep e (λb n i=>(nA b i).2.1 n) λb n i=>(nA b i).2.2.2.2 n,P.set.keep e λb n i=>(nA b i).2.2.1 n,λN l=>?_,I,P.nM,P.nD,P.nF,λb n=>?_,λb n=>?_,P.keep.new e λb n=>.inr (nA b n).1,P.cl⟩ e y
 ·rcases Q6.1 l with l|l
  ·exact((P.OR N l).keep e λb n i=>(nA b i).2.2.2.1 n).mono λb n=>.inl n
  ·simp at l;subst l
   exact(A.keep e λb n=>(d b n).2.2.2.2).mono λb n=>.inr n
 ·rcases n with n|n
  ·exact⟨(P.nO b n).1,by have:=(P.nO b n).2.1;omega,(P.nO b n).2.2⟩
  ·exact⟨(d b n).1,by have:=(d b n).2.1;omega,(d b n).2.2.1,(d b n).2.2.2.1⟩
 ·rcases y b n with H|H
  ·exact⟨(nA b H).1,(nA b H).2.1,(nA b H).2.2.1,λo=>o.elim (nA b H).2.2.2.1 λO=>(d b O).2.2.2.2 H,(nA b H).2.2.2.2⟩
  ·exact⟨oM,λj=>by have:=J b j;omega,λj=>by have:=L b j;omega,λj=>j.elim (λo=>by have:=(P.nO b o).2.1;omega) λo=>by have:=(d b o).2.1;omega,λj=>by have:=(K b j).1;omega⟩
def HO.wait(n:HO w wp most M0 D0 E s S b oa on oc Lo w1 M Db Fs Do){j p:Nat}(q:Row aO 8 w1 f d j l.aM)(r:∀b,f b->b<w1.heap.size)(t:l.Ok):
  bn 220 #[RK wp,lg l d j p] w1 (Ok λk w'=>∃u,k= .bool u/\∃g h,HO w wp most M0 D0 E s S (eY most b l).2 oa on oc Lo w' g h Fs Do/\aj M w1 w'):=by
 refine(Le n.buf q r t).mono ?_;rintro _ w2 ⟨k,rfl,rfl,g,v,x,e,i,m⟩;have o:=n.set.aE;have A:=n.keep.size;have B:=e.size;refine Ok.mk ⟨_,rfl,g,v,⟨x,n.set.keep e λb P c=>(n.nM b c).2 P,λy z=>(n.OR y z).keep e λb P=>(n.nO b P).2.2.1,n.out.keep e λb P=>(n.nA b P).2.1,λb P=>?_,λb P=>?_,n.nF,λb P=>⟨(n.nO b P).1,by have:=(n.nO b P).2.1;omega,λc=>?_,(n.nO b P).2.2.2⟩,λb P=>⟨(n.nA b P).1,λc=>?_,(n.nA b P).2.2.1,(n.nA b P).2.2.2.1,λc=>?_⟩,?_,n.cl⟩,e⟩
 ·rcases i b P with a|a
  ·exact n.nM b a
  ·exact⟨.inr oM,λc=>by have:=o b c;omega⟩
 ·rcases m b P with a|a
  ·exact n.nD b a
  ·exact⟨.inr oM,λc=>by have:=o b c;omega⟩
 ·rcases i b c with a|a
  ·exact(n.nO b P).2.2.1 a
  ·have:=(n.nO b P).2.1;omega
 ·rcases i b c with a|a
  ·exact(n.nA b P).2.1 a
  ·have:=n.out.aE b P;omega
 ·rcases m b c with a|a
  ·exact(n.nA b P).2.2.2.2 a
  ·have:=n.out.aE b P;omega
 ·exact n.keep.new e λb P=>(n.nM b P).1
def HO.ready(n:HO w wp most M0 D0 E s S b oa on oc Lo w1 M Db Fs Do)(i:S.l.length<=19000000):
  bn 221 #[RK wp,RK s] w1 (Ok λh w'=>∃a e f d,h= .slice a e f/\aS nR.kO 82 (λb=>aI a=some b) w' a e f d/\d.map (·.x)=(bM S b).1/\(∀g∈d,nR.In w' Db g)/\(∀b,aI a=some b->w1.heap.size<=b)/\
   HO w wp most M0 D0 E s S (bM S b).2 oa on oc Lo w' M Db Fs Do/\aj M w1 w'):=by
 refine(Gu n.buf n.set n.cl i).mono ?_;rintro _ w2 ⟨h,rfl,a,e,f,d,rfl,j,k,l,m,o,c⟩;have r:=c.size;exact Ok.mk ⟨a,e,f,d,rfl,j,k,l,m,⟨o,n.set.keep c λb P p=>(n.nM b p).2 P,λg q=>(n.OR g q).keep c λb P=>(n.nO b P).2.2.1,n.out.keep c λb P=>(n.nA b P).2.1,n.nM,n.nD,n.nF,λb P=>⟨(n.nO b P).1,by have:=(n.nO b P).2.1;omega,(n.nO b P).2.2⟩,n.nA,n.keep.new c λb P=>(n.nM b P).1,n.cl⟩,c⟩
end
section
variable {w w' w0 w1 w2:World} {p wp most s on oc:Nat} {F E T Z M0 D0 M Db Fs Do:ac} {cls:Nat->Nat} {h:kM} {c:bF} {self:Int} {X:bh} {S:aq} {b:List ah} {oa:be} {Lo:List (Bx ah)} {evs:List ah} {ea:be} {en ec:Nat}
def CX(most:Nat)(n:List ah)(P:ah):(eY most n P).2.length<=n.length+1:=by
 unfold eY;split
 ·show n.length<=_;omega
 ·show(dE P n).length<=_
  rw[(cP P n).length_eq];simp
def Qu(L:cR w F cls p h c self X)(e4:ks c self)(hr:Row iz 96 w E ea en evs)(A:∀b,E b->b<w.heap.size/\¬F b)(m7:evs.length<=1000)(hl:X.S.l.length<=18000000):
  bn 162 #[RK p,.slice ea en ec] w (Ok λf1 w'=>∃oa on oc Lo U o Do,f1= .slice oa on oc/\aS nR.kO 82 (λb=>aI oa=some b) w' oa on oc Lo/\Lo.map (·.x)=(jg c X evs).1/\(∀n∈Lo,nR.In w' Do n)/\
   cR w' U o p h c self {X with waits:=(jg c X evs).2}/\cd F w U w'/\(∀b,Do b->b<w'.heap.size/\aI oa≠some b/\¬(U b/\o b=2))/\(∀b,aI oa=some b->w.heap.size<=b/\¬U b)/\(jg c X evs).1.length<=evs.length+256):=by
 obtain⟨n3,n4,n8⟩:=e4.aA;have e5:=L.aE;have j0:=L.Kk;obtain⟨hS,a0,hn⟩:=(show cM w h.sp (λb=>F b/\cls b=3) X.S/\X.S.Cl/\X.S.n=c.aA.toNat from L.at' 3)
 obtain⟨M0,D0,t,c1,a1⟩:=(show PQ w (λb=>F b/\cls b=5) h.wp c.buffer.toNat X.waits from L.at' 5)
 have f3:X.waits.length<=256:=Xx t.1.2.le t.1.1;have n9:=hr.len;refine oy (PC.ok (Ku (evs:=[]) L e4 (dF w (λ_=>False)) (λb a=>a.elim) dg) ?_);rintro _ w4 ⟨s,j1,rfl,j2,b0,k4⟩;have e6:fp c X.S []=X.S:=(wG a0 hn []).trans rfl;have z4:=k4.size;have j3:(fp c X.S []).Cl:=by rw[e6];exact a0
 have j4:(fp c X.S []).l.length=X.S.l.length:=by rw[e6]
 have j5:HO w h.wp c.buffer.toNat M0 D0 E s (fp c X.S []) X.waits none 0 0 [] w4 M0 D0 j1 (λ_=>False):=by
  have j6:=t.QA;have e7:=t.Kx;refine⟨t.af k4,j2,sM,(aS.nil w4).mono (λb a=>a.elim) (λb a=>(by cases a)),λb a=>⟨.inl a,λi=>by have:=j6 b a;have:=b0 b i;omega⟩,λb a=>⟨.inl a,λi=>by have:=(e7 b a).1;have:=b0 b i;omega⟩,b0,λb a=>a.elim,λb a=>(by cases a),ai.keep k4,j3⟩
 have B:∀{w1:World},aj M0 w w1->w1.heap[p]? =some (.cells (h.cells c self) 117 (0,0)):=λ{w1} hk=>hk.get L.bA λj=>by
  have:=(c1 p j).2;rw[j0.2]at this;cases this
 have e8:∀b,E b->¬M0 b:=λb a j=>(A b a).2 (c1 b j).1;obtain⟨C,e9⟩:∃C,C=gW c.buffer.toNat evs (fp c X.S []) [] X.waits:=⟨_,rfl⟩
 have r:jg c X evs=qd (C.2.2.length+1) C.1 C.2.1 C.2.2:=by rw[e9];rfl
 refine⟨_,rfl,λH oa on oc I w'=>∃(d:Nat) (S:aq) (b:List ah) (Lo:List (Bx ah)) (M Db Fs Do:ac),I=d/\d<=en/\H=en-d/\HO w h.wp c.buffer.toNat M0 D0 E s S b oa on oc Lo w' M Db Fs Do/\gW c.buffer.toNat (evs.drop d) S (Lo.map (·.x)) b=C/\S.l.length<=X.S.l.length+Lo.length/\Lo.length<=d/\b.length<=256/\Lo.length+b.length<=X.waits.length+d,
  ⟨_,0,_,_,_,_,_,_,_,rfl,Qj _,rfl,j5,e9.symm,by simp[j4],sM,f3,sM⟩,?_⟩
 rintro H oa on oc _ _ f2 ⟨d,S,b,Lo,M,Db,Fs,Do,rfl,hj,rfl,i,u,V,g0,b1,g1⟩;have j7:=i.keep.size;have j8:=i.out.len dC;refine al.dec (λj9=>?_) (λk0=>?_)
 ·obtain⟨n,g⟩:∃n,evs[d]? =some n:=⟨_,Qq oM⟩
  have a8:evs.drop d=n::evs.drop (d+1):=by
   rw[X4 oM]
   congr 1
   exact(Qv.1 g).2
  rw[a8]at u;obtain⟨gb,go,es,ha,k1,o0,d2,xa,xn,xc,rfl,d3,b3⟩:=(hr.keep i.keep e8).el d n g;refine⟨gb,go,ha,oM,oM,bJ (es:=aF n xa xn xc) (k:=10) (bg _ _ _ _) rfl (λI ht=>by rw[Qx];exact d2 I ht) (PA.mk λo1 k2 o2 k3=>aD (bg n xa xn xc) k3 rfl λk5 k6 o3 g2=>ar (bg n xa xn xc) g2 ?_)⟩;have a2:ai f2 k5:=k2.new k6 λb a=>.inr (by have a:b=f2.heap.size:=a;omega);have o4:=a2.size;have d4:∀b,E b->¬Fs b:=λb a j=>by have:=i.nF b j;have:=(A b a).1;omega
  refine PC.ok ((i.af a2).add (d3.af a2) (λb a=>⟨by have:=(A b a).1;omega,d4 b a⟩) b3 oM) ?_;rintro _ k7 ⟨rfl,N,J,a5,m8⟩;have o5:=a5.size;have b4:=i.set.aE;have v:=a5.get g2 λj=>by have:=b4 _ j;omega
  have g3:=S.Az n;have f4:gW c.buffer.toNat (n::evs.drop (d+1)) S (Lo.map (·.x)) b=if(S.add n).1=0 then gW c.buffer.toNat (evs.drop (d+1)) (S.add n).2 (Lo.map (·.x)++[n]) b else if(S.add n).1=16 then gW c.buffer.toNat (evs.drop (d+1)) S (Lo.map (·.x)) b else gW c.buffer.toNat (evs.drop (d+1)) S (Lo.map (·.x)) (eY c.buffer.toNat b n).2:=rfl
  rw[f4]at u;have b5:(S.add n).1≠0->(S.add n).2=S:=λW=>by
   rcases S.eZ n with⟨-,e⟩|⟨e,-⟩
   ·exact e
   ·rw[e]at W;exact Zz rfl W
  refine⟨_,rfl,al.eT (λq=>?_) (λq=>al.eT (λd5=>?_) (λd5=>λk8 k9=>?_))⟩
  ·rw[Zx q]at u
   have c4:(S.add n).2.l.length<=S.l.length+1:=g3;refine⟨_,_,_,_,_,_,_,_,_,_,_,_,ae v rfl,ae v rfl,ae v rfl,ae v rfl,ae v rfl,ae v rfl,ae v rfl,ae v rfl,ae v rfl,ae v rfl,PA.mk λl0 d6 o6 l3=>?_⟩;have g4:nR.In l0 E ⟨n,xa,xn,xc⟩:=⟨((d3.af a2).keep a5 λb a=>d4 b a).af d6,b3⟩
   have g5:=J.af d6;refine g5.push uc g4 (λb a=>⟨.inl a,by have:=(A b a).1;have:=d6.size;omega,λj=>?_,λj=>by have:=J.nF b j;have:=(A b a).1;omega,λm=>by have:=(J.nA b m).1;have:=(A b a).1;omega⟩) l3 oM λa' c' o7 O g6 m9 _=>⟨_,_,_,rfl,_,oM,d+1,_,_,_,M,Db,N,O,an oM,oM,rfl,g6,?_,?_,?_,b1,?_⟩
   ·rcases(J.nM b j).1 with e|e
    ·exact e8 b a e
    ·have:=(A b a).1;omega
   ·rw[Q3];exact u
   ·rw[QX,List.length_singleton];omega
   ·rw[QX,List.length_singleton];omega
   ·rw[QX,List.length_singleton];omega
  ·rw[Zq q,Zx d5]at u
   rw[b5 q]at J;exact⟨_,oM,d+1,S,b,Lo,M,Db,N,Do,an oM,oM,rfl,J,u,V,oM,b1,oM⟩
  ·rw[Zq q,Zq d5]at u
   rw[b5 q]at J;have c5:ai k7 k8:=k9.keep;have c9:=J.af c5;refine⟨p,0,rfl,_,ae (B c9.keep) rfl,ar (bg n xa xn xc) (c5.get v id) (PC.ok (c9.wait (((d3.af a2).keep a5 λb a=>d4 b a).af c5) (λb a=>by have:=(A b a).1;have:=c5.size;omega) b3) ?_)⟩;rintro _ o8 ⟨I,rfl,M',b6,b7,n0⟩;have d7:=CX c.buffer.toNat b n;have g7:(eY c.buffer.toNat b n).2.length<=256:=Xx b7.buf.1.2.le b7.buf.1.1;exact⟨_,rfl,_,oM,d+1,S,_,Lo,M',b6,N,Do,an oM,oM,rfl,b7,u,V,oM,g7,oM⟩
 have o9:d=evs.length:=oM
 rw[List.drop_eq_nil_of_le oM]at u;have d0:C=(S,Lo.map (·.x),b):=u.symm;rw[d0]at r;have b8:Lo.length+b.length<=evs.length+256:=oM
 refine⟨λH oa on oc w'=>∃(S:aq) (b:List ah) (Lo:List (Bx ah)) (M Db Fs Do:ac) (k:Nat),H=b.length/\HO w h.wp c.buffer.toNat M0 D0 E s S b oa on oc Lo w' M Db Fs Do/\b.length<=k/\qd (k+1) S (Lo.map (·.x)) b=jg c X evs/\S.l.length<=X.S.l.length+Lo.length/\Lo.length+b.length<=evs.length+256,
  ⟨_,S,b,Lo,M,Db,Fs,Do,b.length,rfl,i,Q4 _,r.symm,V,b8⟩,?_⟩
 clear i u V g0 b1 g1 b8 j8 j7 d0 r
 rintro H oa on oc _ p0 ⟨S,b,Lo,M,Db,Fs,Do,k,rfl,i,hk,r,V,g1⟩;have p1:=i.keep.size;refine⟨p,0,rfl,_,ae (B i.keep) rfl,PC.ok (i.ready oM) ?_⟩;rintro _ p2 ⟨Y,n2,f5,Z,rfl,g8,d8,l4,g9,l,h2⟩;have p3:=g8.len dC;have d7:=xh S b;have h3:Z.length=(bM S b).1.length:=by rw[<-d8,Q8]
 have l5:qd (k+1) S (Lo.map (·.x)) b=if(bM S b).1=[]then(Lo.map (·.x),(bM S b).2)else qd k (eL (bM S b).1 S (Lo.map (·.x))).1 (eL (bM S b).1 S (Lo.map (·.x))).2 (bM S b).2:=rfl
 rw[l5]at r;have p4:=h2.size;refine⟨_,_,_,rfl,al.eT (λq=>?_) (λq=>?_)⟩
 ·have h4:(bM S b).1=[]:=QW oM
  rw[Zx h4]at r;rw[<-r];have hM:=l.buf.QA;have l6:=l.buf.Kx;obtain⟨U,o,c0,a3,l7,c2,-⟩:=L.fv cm (k:=5) (G':=λb=>M b\/Db b) (C2:=mG p (h.cells c self) h c {X with waits:=(bM S b).2} X.S.l) (l.keep.mono λb _ a=>c1 b a)
   (λn g=>g.elim (λe=>(l.nM n e).1.imp (c1 n) id) λe=>(l.nD n e).1.imp (a1 n) id) (λn g=>g.elim (hM n) λe=>(l6 n e).1) ⟨M,Db,l.buf,λ_ h=>.inl h,λ_ h=>.inr h⟩ λd G hj hc=>by
    rcases d with _|_|_|_|_|_|_|d<;>first|exact hc|exact Zz rfl hj
  refine Ok.mk ⟨oa,on,oc,Lo,U,o,Do,rfl,l.out,rfl,l.OR,c0,a3,λn g=>⟨(l.nO n g).2.1,λm=>(l.nA n m).2.2.2.1 g,λQ=>?_⟩,λn g=>⟨(l.nA n g).1,λQ=>?_⟩,by rw[Q8];omega⟩
  ·have d9:F n/\cls n=2:=by
    have:=congrFun (c2 2 dC) n;exact this▸Q
   rcases(l.nO n g).1 with e|e|e
   ·exact(A n e).2 d9.1
   ·have:=(a1 n e).2;rw[d9.2]at this;cases this
   ·have:=e5 n d9.1;omega
  ·rcases l7 n Q with e|e
   ·have:=e5 n e.1;have:=(l.nA n g).1;omega
   ·exact e.elim (l.nA n g).2.1 (l.nA n g).2.2.2.2
 ·have W:(bM S b).1≠[]:=λm=>by rw[m,ZQ]at h3;omega
  rw[Zq W]at r;obtain⟨k',rfl⟩:∃k',k=k'+1:=⟨k-1,by
   have:0<b.length:=by
    have:=List.length_pos_iff.2 W;omega
   omega⟩
  obtain⟨av,e0⟩:∃av,av=eL (bM S b).1 S (Lo.map (·.x)):=⟨_,rfl⟩
  rw[<-e0]at r;have h7:Lo.length+Z.length+(bM S b).2.length<=evs.length+256:=oM
  obtain⟨b2,b1⟩:∃b2,b2=(bM S b).2:=⟨_,rfl⟩
  rw[<-b1]at r l h7 d7;have e7:=l.buf.Kx;obtain⟨x,hR⟩:∃x,x=(bM S b).1:=⟨_,rfl⟩
  rw[<-hR]at d8 h3 d7 e0;have f6:∀P,aI Y=some P->¬Fs P/\aI oa≠some P:=λP f=>by
   have e:=g9 P f;exact⟨λj=>by have:=i.set.aE P j;omega,λm=>by have:=i.out.aE P m;omega⟩
  have p5:∀P,aI Y=some P->¬Db P:=λP f j=>by
   have e:=g9 P f;have h6:=(i.buf.Kx P j).1;omega
  refine⟨λH oa on oc I w'=>∃(d:Nat) (S:aq) (Lo:List (Bx ah)) (Fs Do:ac),I=d/\d<=n2/\H=n2-d/\HO w h.wp c.buffer.toNat M0 D0 E s S b2 oa on oc Lo w' M Db Fs Do/\eL (x.drop d) S (Lo.map (·.x))=av/\S.l.length<=X.S.l.length+Lo.length/\Lo.length+(n2-d)+b2.length<=evs.length+256/\aS nR.kO 82 (λb=>aI Y=some b) w' Y n2 f5 Z/\(∀n∈Z,nR.In w' Db n)/\∀P,aI Y=some P->¬Fs P/\aI oa≠some P,
   ⟨_,0,S,Lo,Fs,Do,rfl,Qj _,rfl,l,e0.symm,V,oM,g8,l4,f6⟩,?_⟩
  rintro H c3 f7 f8 _ _ h8 ⟨d,y,a9,l8,h9,rfl,hj,rfl,K,R,l9,b8,c4,i0,e2⟩;have p6:=K.keep.size;have n1:=K.out.len dC;refine al.dec (λj9=>?_) (λk0=>?_)
  ·obtain⟨n,g⟩:∃n,Z[d]? =some n:=⟨_,Qq oM⟩
   have i1:x[d]? =some n.x:=by rw[<-d8,Q9,g];rfl
   have a8:x.drop d=n.x::x.drop (d+1):=by
    rw[X4 (Qv.1 i1).1]
    congr 1
    exact(Qv.1 i1).2
   have i2:eL (n.x::x.drop (d+1)) y (a9.map (·.x))=if(y.add n.x).1=0 then eL (x.drop (d+1)) (y.add n.x).2 (a9.map (·.x)++[n.x])else eL (x.drop (d+1)) (y.add n.x).2 (a9.map (·.x)):=rfl
   rw[a8,i2]at R;have d1:=i0 n (QZ g);obtain⟨gb,go,es,ha,k1,p7,d2,rfl,-⟩:=(c4.row (bytes:=96) dC cw).el d n g;refine⟨gb,go,ha,oM,oM,bJ (es:=aF n.x n.a n.n n.c) (k:=10) (bg _ _ _ _) rfl (λI ht=>by rw[Qx];exact d2 I ht) (PA.mk λp8 m0 p9 m1=>aD (bg n.x n.a n.n n.c) m1 rfl λm2 m3 q0 i3=>ar (bg n.x n.a n.n n.c) i3 ?_)⟩;have a4:ai h8 m2:=m0.new m3 λb a=>.inr (by have a:b=h8.heap.size:=a;omega);have q1:=a4.size;have m4:=K.buf.Kx;have i4:=c4.aE;refine PC.ok ((K.af a4).add (d1.keep a4 λ_ _ h=>h).1 (λP f=>⟨by have:=(m4 P f).1;omega,(K.nD P f).2⟩) d1.2 oM) ?_;rintro _ m5 ⟨rfl,e3,T,a6,i5⟩;have q2:=a6.size;have b4:=K.set.aE;have z:=a6.get i3 λj=>by have:=b4 _ j;omega
   have g3:=y.Az n.x;have c6:=(c4.af a4).keep a6 λP f=>(e2 P f).1;have c7:∀P∈Z,nR.In m5 Db P:=λP f=>((i0 P f).keep a4 λ_ _ h=>h).keep a6 λc8 Q=>(K.nD c8 Q).2;have a7:∀P,aI Y=some P->¬e3 P/\aI c3≠some P:=λP f=>⟨λj=>(i5 P j).elim (e2 P f).1 λe=>by have:=i4 P f;omega,(e2 P f).2⟩
   refine⟨_,rfl,al.eT (λq=>?_) (λq=>?_)⟩
   ·rw[Zx q]at R
    refine⟨_,_,_,_,_,_,_,_,_,_,_,_,ae z rfl,ae z rfl,ae z rfl,ae z rfl,ae z rfl,ae z rfl,ae z rfl,ae z rfl,ae z rfl,ae z rfl,PA.mk λq3 b9 q4 m6=>?_⟩;have i6:=T.af b9;have e1:=T.buf.Kx;have q5:=b9.size;refine i6.push uc ((c7 n (QZ g)).keep b9 λ_ _ h=>h) (λP f=>⟨.inr (T.nD P f).1,by have:=(e1 P f).1;omega,(e1 P f).2,(T.nD P f).2,λm=>(T.nA P m).2.2.2.2 f⟩) m6 oM λa' c' q6 O i7 f0 i8=>⟨_,_,_,rfl,_,oM,d+1,_,_,e3,O,an oM,oM,rfl,i7,?_,?_,?_,(c6.af b9).keep f0 λP f m=>(a7 P f).2 m,λP f=>((c7 P f).keep b9 λ_ _ h=>h).keep f0 λc8 Q m=>(T.nA c8 m).2.2.2.2 Q,λP f=>⟨(a7 P f).1,λm=>?_⟩⟩
    ·rw[Q3];exact R
    ·rw[QX,List.length_singleton];omega
    ·rw[QX,List.length_singleton];omega
    ·rcases i8 P m with e|e
     ·exact(a7 P f).2 e
     ·have:=c6.aE P f;omega
   ·rw[Zq q]at R
    have b5:(y.add n.x).2.l.length<=y.l.length:=by
     rcases y.eZ n.x with⟨-,e⟩|⟨e,-⟩
     ·rw[e];exact Q4 _
     ·rw[e]at q;exact Zz rfl q
    exact⟨_,oM,d+1,_,a9,e3,h9,an oM,oM,rfl,T,R,oM,oM,c6,c7,a7⟩
  ·rw[List.drop_eq_nil_of_le oM]at R
   have i9:av=(y,a9.map (·.x)):=R.symm;rw[i9]at r;have q7:0<x.length:=by have:=List.length_pos_iff.2 W;rw[<-hR]at this;exact this
   exact⟨b2.length,oM,y,b2,a9,M,Db,l8,h9,k',rfl,K,oM,r,l9,oM⟩
end
structure Sa where
 kind:Int
 n:Int
 now:Int
 cmd:jT
 m:bG
section
variable (c:bF) (self:Int)
def NN(P:bh)(n:Sa):Int×bh:=
 if n.kind=0 then((eU c self P n.cmd).1,(eU c self P n.cmd).2.2)else
 if n.kind=1 then(0,(fg c self P n.n (pick n.now 4611686018427387904)).2)else
 if n.kind=2 then(cy c self P n.m).2 else
 if n.kind=3 then(0,(pX self P (pick n.now 4611686018427387904)).2)else
 if n.kind=4 then ie c P n.n else
 if n.kind=5 then(0,{P with D:=P.D.GJ n.n})else
 if n.kind=6 then dR c P else(0,P)
end
structure ku (X Y:bh):Prop where
 evs:Y.S.l.length<=X.S.l.length+300\/Y.S.l.length<=16777216
 asked:Y.gJ.asked.length<=X.gJ.asked.length+1
def ku.refl(n:bh):ku n n:=⟨.inl oM,oM⟩
def Ky{n P:Type}[BEq n][LawfulBEq n](a:n)(b:P):∀(c:List (n×P)),(aJ c a b).length<=c.length+1
 |[]=>by simp[aJ]
 |(e,f)::d=>by
  unfold aJ;split
  ·simp
  ·have:=Ky a b d
   simp;omega
def FT{P c:Type}[BEq P][LawfulBEq P](n:P)(d:c):∀(b:List (P×c)),n∈b.map (·.1)->(aJ b n d).map (·.1)=b.map (·.1)
 |[],h=>by simp at h
 |(f,i)::e,h=>by
  unfold aJ
  by_cases a:(n==f)=true
  ·rw[Zx a]
   have:=eq_of_beq a;subst this;rfl
  ·rw[Zq a]
   have g:n∈e.map (·.1):=by
    rcases Q2.1 h with h|h
    ·exact Zz (by rw[h];simp) a
    ·exact h
   simp[FT n d e g]
def Kz{n b:Type}[BEq n][LawfulBEq n](P:n):∀(a:List (n×b)),(bR a P).length<=a.length
 |[]=>by simp[bR]
 |(d,e)::c=>by
  unfold bR;split
  ·simp
  ·have:=Kz P c
   simp;omega
def HP(b n:Int)(P:List Int×List (Int×Int))(a:Int)(c:a∈P.2.map (·.1)):(gH b n P a).2.map (·.1)=P.2.map (·.1):=by
 unfold gH;split
 ·exact FT _ _ _ c
 ·rfl
def xi(b n:Int):∀(a:List Int) (P:List Int×List (Int×Int)),(∀x∈a,x∈P.2.map (·.1))->(a.foldl (gH b n) P).2.map (·.1)=P.2.map (·.1)
 |[],P,_=>rfl
 |x::a,P,c=>by
  have d:=HP b n P x (c x (QV ..));rw[List.foldl_cons,xi b n a _ λe f=>by rw[d];exact c e (QJ _ f),d]
def kQ.Sc(n:kQ)(P:Int):(n.Tw P).asked.length=n.asked.length:=by
 have b:=xi n.dj P (n.open.take n.open.length) ([],n.asked) λc a=>by
  have a:=List.mem_of_mem_take a;unfold kQ.open at a;exact(List.mergeSort_perm _ _).mem_iff.1 a
 have:=Zj List.length b;rw[Q8,Q8]at this;exact this
def sH(n:Nat):∀(b:List ah) (c:aq) (P a:List ah),(gW n b c P a).2.1.length+(gW n b c P a).2.2.length<=P.length+a.length+b.length
 |[],c,P,a=>by simp[gW]
 |e::b,c,P,a=>by
  unfold gW;split
  ·have:=sH n b (c.add e).2 (P++[e]) a
   simp at this⊢;omega
  split
  ·have:=sH n b c P a
   simp;omega
  ·have:=sH n b c P (eY n a e).2
   have:=CX n a e;simp;omega
def si:∀(P:List ah) (a:aq) (n:List ah),(eL P a n).2.length<=n.length+P.length
 |[],a,n=>by simp[eL]
 |e::P,a,n=>by
  unfold eL;split
  ·have:=si P (a.add e).2 (n++[e])
   simp at this⊢;omega
  ·have:=si P (a.add e).2 n
   simp;omega
def FU:∀(k:Nat) (P:aq) (n a:List ah),(qd k P n a).1.length<=n.length+a.length
 |0,P,n,a=>by simp[qd]
 |k+1,P,n,a=>by
  unfold qd;have b:=xh P a;dsimp only;split
  ·simp
  ·have c:=si (bM P a).1 P n
   have d:=FU k (eL (bM P a).1 P n).1 (eL (bM P a).1 P n).2 (bM P a).2;omega
def Ct(P:bF)(n:bh)(a:List ah):(jg P n a).1.length<=n.waits.length+a.length:=by
 have b:=sH P.buffer.toNat a (fp P n.S []) [] n.waits;have c:=FU ((gW P.buffer.toNat a (fp P n.S []) [] n.waits).2.2.length+1) (gW P.buffer.toNat a (fp P n.S []) [] n.waits).1 (gW P.buffer.toNat a (fp P n.S []) [] n.waits).2.1 (gW P.buffer.toNat a (fp P n.S []) [] n.waits).2.2;simp at b;unfold jg;dsimp only;omega
def QF(a:bF)(n:aq)(P:List ah):(fp a n P).l.length<=n.l.length+P.length:=by
 have:=aq.nV (n.l++P) ⟨a.aA.toNat,[]⟩;unfold fp;simp at this⊢;omega
def FV(a:bF)(n:bh)(P:List ah):(dx a n P).2.S.l.length<=n.S.l.length+P.length/\(dx a n P).2.gJ=n.gJ:=by
 unfold dx
 cases n.log with
 |none=>exact⟨by dsimp only;omega,rfl⟩
 |some b=>
  dsimp only;split
  ·exact⟨by dsimp only;omega,rfl⟩
  split
  ·exact⟨by dsimp only;omega,rfl⟩
  ·exact⟨QF a n.S P,rfl⟩
def Lz(a:bF)(P:Int)(n:bh)(b:jT):ku n (eU a P n b).2.2:=by
 unfold eU
 cases n.log with
 |none=>exact ku.refl n
 |some c=>
  dsimp only;split
  ·exact ku.refl n
  split
  ·have:=FV a n [(fk a.decl n.S (bU a.decl n.S.l) P a.start b).1]
   simp at this;split
   ·exact⟨.inl ek,by dsimp only;rw[this.2];omega⟩
   ·exact⟨.inl ek,by dsimp only;rw[this.2];omega⟩
  ·exact ku.refl n
def DE(b:bF)(c:Int)(n:bh)(P:bG)(i:n.waits.length<=256)(j:b.chunk<=32):ku n (cy b c n P).2.2:=by
 unfold cy
 cases n.log with
 |none=>exact ku.refl n
 |some k=>
  dsimp only;split
  ·exact ku.refl n
  rename_i g;split
  ·exact ku.refl n
  split
  ·rename_i h
   have l:P.events.length<=32:=by
    rcases Nat.lt_or_ge 32 P.events.length with f|f
    ·exfalso
     apply g;unfold fq;rw[Zx h];intro a;split at a
     ·cases a
     ·unfold fr at a
      split at a
      ·cases a
      ·rw[Zx (.inr oM)]at a;cases a
    ·exact f
   unfold lP;have m:=Ct b n P.events;dsimp only;split
   ·exact⟨.inl ek,by dsimp only;omega⟩
   ·have d:=FV b {n with waits:=(jg b n P.events).2} (jg b n P.events).1
    dsimp only at d;split
    ·exact⟨.inl ek,by dsimp only;rw[d.2];omega⟩
    ·exact⟨.inl ek,by dsimp only;rw[d.2];omega⟩
  ·have e:(n.gJ.Aw P.bO P.vec n.S.vec).asked.length<=n.gJ.asked.length+1:=by
    unfold kQ.Aw;dsimp only;split
    ·have:=Kz P.bO n.gJ.asked;omega
    ·omega
   split
   ·exact⟨.inl ek,e⟩
   split
   ·exact⟨.inl ek,e⟩
   ·exact⟨.inl ek,e⟩
def Ly(c:bF)(n:Int)(a:bh)(P b:Int):ku a (fg c n a P b).2:=by
 unfold fg;split
 ·exact ku.refl a
 ·exact⟨.inl ek,Ky _ _ _⟩
def yH(P:bF)(n:bh):(fM P n).2.gJ=n.gJ:=by
 unfold fM;dsimp only;split<;>rfl
def DF(P:bF)(n:bh):ku n (dR P n).2:=by
 unfold dR
 cases n.log with
 |none=>exact ku.refl n
 |some a=>
  dsimp only;split
  ·exact⟨.inl ek,by dsimp only;omega⟩
  ·exact⟨.inl ek,by dsimp only;omega⟩
section
variable {w w' w0 w1 w2:World} {p:Nat} {F E Dv:ac} {cls:Nat->Nat} {h:kM} {c:bF} {self:Int} {X:bh} {m:bG} {va ea:be} {vn vc en ec:Nat}
def Qt(hr:bY w p F c self X)(he:Env w0 w F){V:dA}(a6:X.log=some V)(c4:Row iz 96 w E ea en m.events)(N:∀n,E n->n<w.heap.size/\¬F n)(a7:m.events.length<=1000)(hl:X.S.l.length<=18000000):
  bn 100 #[RK p,iW m va vn vc ea en ec] w (Ok λa5 w'=>∃O d,a5= .tuple #[O,WP (lP c self X m).2.1]/\fW w d (lP c self X m).1 O w'/\bY w' p d c self (lP c self X m).2.2/\cd F w d w'):=by
 obtain⟨f,h,cls,Q⟩:=hr;have R:=Q.aE;refine ox (PA.mk λS q s8 T=>?_);obtain⟨P,U⟩:∃P,P=jg c X m.events:=⟨_,rfl⟩
 have y:∀{z},(if P.1=[]then([Av X.S self m.bO],0,{X with waits:=P.2})else
   if(dx c {X with waits:=P.2} P.1).1≠0 then([],(dx c {X with waits:=P.2} P.1).1,{(dx c {X with waits:=P.2} P.1).2 with waits:=[]})else([Av (dx c {X with waits:=P.2} P.1).2.S self m.bO],0,(dx c {X with waits:=P.2} P.1).2))=z->lP c self X m=z:=λ{z} b=>by rw[<-b,U];rfl
 refine⟨λw'=>∃d e,bY w' p d c self e/\cd F w d w'/\(∀n,d n->F n\/S.heap.size<=n)/\w'.heap[w.heap.size]? =some (.cells (et m va vn vc ea en ec).toArray 97 (0,0))/\lP c self X m=([Av e.S self m.bO],0,e),?_,?_⟩
 ·refine⟨_,_,_,ae T rfl,PC.ok (Qu (cR.af Q q) f (c4.af q) (λn a=>⟨by have:=(N n a).1;omega,(N n a).2⟩) a7 hl) ?_⟩
  rw[<-U];rintro _ W ⟨Y,on,oc,Lo,A,b0,Do,rfl,B,Z,c5,b2,g,r,c6,e1⟩;have hn:=B.len dC;have c7:Lo.length=P.1.length:=by rw[<-Z,Q8]
  have b3:=fw.unbox B c5 λn a=>⟨(r n a).1,(r n a).2.1⟩
  rw[UN,Z]at b3;have b4:Row iz 96 W (λn=>aI Y=some n\/Do n) Y on P.1:=b3.row dC cw;have C:cd F w A W:=⟨(ai.keep q).then g.keep,λn a=>(g.new n a).imp id λh1=>oM⟩
  have H:∀n,A n->F n\/S.heap.size<=n:=g.new;have b5:=g.keep.get T λb=>by have:=R _ b;omega
  have c8:=(he.af q).tC g;refine⟨_,_,_,rfl,al.dec (λe0=>?_) (λhz=>?_)⟩
  rotate_left
  ·have b6:P.1=[]:=QW oM
   exact⟨A,{X with waits:=P.2},⟨f,h,b0,b2⟩,C,H,b5,y (Zx b6)⟩
  have b7:P.1≠[]:=λs=>by rw[s,ZQ]at c7;omega
  refine PC.ok (Kl b2 f c8 (V:=V) a6 b4 (λn a=>a.elim (λs=>⟨B.aE n s,λb=>(c6 n s).2 b.1⟩) λb=>⟨(r n b).1,(r n b).2.2⟩) (by show X.S.l.length+_<=_;omega)) ?_;rintro _ c9 ⟨rfl,j,F2,a1,t,I,-⟩;have a0:=C.trans I;have e2:=C.keep.size;refine⟨_,rfl,al.eu (λb8=>?_) (λh0=>?_)⟩
  ·obtain⟨a2,Db,a,hM,hD⟩:=(show PQ c9 (λn=>F2 n/\a1 n=5) j.wp c.buffer.toNat (dx c {X with waits:=P.2} P.1).2.waits from t.at' 5)
   refine⟨p,0,rfl,_,ae (t.at' 0).2 rfl,PC.ok (vm a) ?_⟩;rintro _ e3 ⟨rfl,a3,d0⟩;obtain⟨F3,k,J,l,-⟩:=t.tC cm (k:=5) (G':=a2) (C2:=mG p (j.cells c self) j c {(dx c {X with waits:=P.2} P.1).2 with waits:=[]} (dx c {X with waits:=P.2} P.1).2.S.l) ⟨d0.mono λn _ a=>hM n a,λn a=>.inl (hM n a)⟩ a3.QA ⟨a2,_,a3,λ_ h=>h,λn a=>a.elim⟩ λa4 G hj hc=>by
    rcases a4 with _|_|_|_|_|_|_|a4<;>first|exact hc|exact Zz rfl hj
   refine⟨rfl,Ok.mk ?_⟩;rw[y ((Zq b7).trans (Zx b8))];exact⟨_,F3,rfl,fW.nil _ _ _,⟨f,j,k,J⟩,a0.trans l⟩
  ·refine⟨F2,(dx c {X with waits:=P.2} P.1).2,⟨f,j,a1,t⟩,a0,λn a=>(I.new n a).elim (H n) λK=>.inr (by have:=g.keep.size;omega),I.keep.get b5 λb=>?_,y ((Zq b7).trans (Zq (by simpa using h0)))⟩
   rcases H _ b with K|K
   ·have:=R _ K;omega
   ·omega
 ·rintro _ d1 ⟨d,e,d2,L,e4,d3,d4⟩ b9 d5
  obtain⟨-,h',o,M⟩:=d2;have u:ai d1 b9:=d5.keep;have i:=cR.af M u;refine⟨p,0,rfl,_,ae i.bA rfl,p,0,rfl,_,ae i.bA rfl,_,ae (u.get d3 id) rfl,PC.ok (Kf (i.at' 3).1) ?_⟩;rintro _ d6 ⟨a8,n2,c2,G,rfl,c1,hG,v⟩;have c3:=c1.aE;have e5:=L.keep.size;have z2:=u.size;have d7:=v.size;refine⟨_,_,_,_,_,_,_,_,_,rfl,PA.mk λd8 x e6 d9=>?_⟩;have hm:br b9 [Av e.S self m.bO] (.slice (UV d6.heap.size) 1 1) d8:=br.one (D:=G) d9 ⟨(c1.af x).row dC (by show e.S.vec.length*8<=aP;rw[e.S.aY];have:e.S.n<=64:=(i.at' 3).1.1.n;unfold aP;omega),dF _ _⟩ (λn a=>⟨hG n a,by have:=c3 n a;omega,by have:=c3 n a;omega⟩) d7 (v.then x);rw[d4];exact Ok.mk ⟨_,d,rfl,hm.out i.aE oM,⟨f,h',o,cR.af i (v.then x)⟩,((L.keep.af u).af v).af x,L.new⟩
end
section
variable {w w' w0 w1 w2:World} {p:Nat} {F E Dv:ac} {cls:Nat->Nat} {h:kM} {c:bF} {self:Int} {X:bh} {m:bG} {va ea:be} {vn vc en ec:Nat}
def ks.Lw(n:ks c self):1<=c.chunk/\c.chunk<=32:=by
 have:=n.right;unfold fQ within at this;simp only[QK,Zk]at this;omega
def IJ(hr:bY w p F c self X)(he:Env w0 w F)(V:Row aO 8 w Dv va vn m.vec)(g0:∀n,Dv n->n<w.heap.size/\¬F n)(c8:Row iz 96 w E ea en m.events)(hE:∀n,E n->n<w.heap.size/\¬F n)(hl:X.S.l.length<=18000000):
  bn 67 #[RK p,iW m va vn vc ea en ec] w (Ok λW w'=>∃q e,W= .tuple #[q,WP (cy c self X m).2.1]/\fW w e (cy c self X m).1 q w'/\bY w' p e c self (cy c self X m).2.2/\cd F w e w'):=by
 have b0:=hr;obtain⟨x,h,cls,f⟩:=hr;have I:=f.aE;obtain⟨g1,i4,i5⟩:=x.aA;have i6:=x.Lw;refine mC (PA.mk λw8 Y s8 g8=>?_);have h8:=cR.af f Y;have no:∀{w1:World} {g:Int},ai w w1->cy c self X m=([],g,X)->Ok (λW w'=>∃q e,W= .tuple #[q,WP (cy c self X m).2.1]/\fW w e (cy c self X m).1 q w'/\bY w' p e c self (cy c self X m).2.2/\cd F w e w') (.returned (.tuple #[.slice none 0 0,WP g])) w1:=λ{w1 g} J Z=>by
  rw[Z];exact Ok.mk ⟨_,F,rfl,fW.nil _ _ _,b0.af J,ai.keep J,λn P=>.inl P⟩
 refine⟨p,0,rfl,_,ae h8.bA rfl,jL Tryz.underlying111 ⟨_,rfl,?_⟩⟩;have c9:DL w (λn=>F n/\cls n=2) h.dp h.lp X.D X.log:=f.at' 2
 cases y:X.log with
 |none=>
  obtain⟨Fd,-,-,i⟩:=c9;rw[y]at i;have i:h.lp=none:=i;rw[i];exact al.tt rfl (no Y (by unfold cy;rw[y]))
 |some a8=>
 obtain⟨a9,a0,a6,-⟩:=DL.Qs (y▸c9) (he.sub λn P=>P.1) λn P=>I n P.1;have K:∀{r},(if fq m c.aA.toNat c.chunk≠0 then([],fq m c.aA.toNat c.chunk,X)else if m.m_≠self then([],1,X)else if m.kind=3 then lP c self X m else
   if m.kind≠4 then(ly X.S self m c.chunk,0,{X with gJ:=X.gJ.Aw m.bO m.vec X.S.vec})else
   if X.S.missing m.vec c.chunk=[]then([],0,{X with gJ:=X.gJ.Aw m.bO m.vec X.S.vec})else([⟨3,self,m.bO,[],X.S.missing m.vec c.chunk⟩],0,{X with gJ:=X.gJ.Aw m.bO m.vec X.S.vec}))=r->cy c self X m=r:=λ{r} k=>by rw[<-k];unfold cy;rw[y]
 rw[a0];refine al.ff rfl λg2 d0=>?_;have L:ai w g2:=Y.then d0.keep;have d1:=cR.af f L;have d2:=(d0.keep (S:=λ_=>False)).get g8 id;refine ar (fe m va vn vc ea en ec) d2 ⟨p,0,rfl,_,ae d1.bA rfl,p,0,rfl,_,ae d1.bA rfl,?_⟩;rw[g1];refine PC.ok (Qg (V.af L) (c8.af L) oM) ?_;rintro _ i7 ⟨rfl,d3⟩;have a1:=L.then d3;have g3:=cR.af f a1;have d4:=d3.get d2 id;refine⟨_,rfl,al.eu (λs=>no a1 (K (Zx s))) (λs=>⟨_,ae d4 rfl,p,0,rfl,_,ae g3.bA rfl,λg4 d5=>?_⟩)⟩;have j:ai w g4:=a1.then d5.keep;have i8:=cR.af f j;have b8:=(d5.keep (S:=λ_=>False)).get d4 id;have b9:¬fq m c.aA.toNat c.chunk≠0:=by simpa using s
 refine al.eu (λM=>no j (K ((Zq b9).trans (Zx M)))) (λM=>⟨_,ae b8 rfl,al.eT (λi=>?_) (λi=>λd6 d7=>?_)⟩)
 ·have Z:=K (((Zq b9).trans (Zq (by simpa using M))).trans (Zx i))
  have d8:m.events.length<=1000:=by
   have b:=s;unfold fq at b;simp only at b;rw[Zx i]at b;split at b
   ·cases b
   ·unfold fr at b
    split at b
    ·cases b
    split at b
    ·cases b
    ·omega
  refine ar (fe m va vn vc ea en ec) b8 (PC.ok (Qt (b0.af j) (he.af j) y (c8.af j) (λn P=>⟨by have:=(hE n P).1;have:=j.size;omega,(hE n P).2⟩) d8 hl) ?_);rintro _ i9 ⟨q,e,rfl,b1,g5,b2⟩;have g6:=b1;obtain⟨a2,n2,c2,a7,D,rfl,o2,o3,o4,o5,o6⟩:=b1;refine⟨_,_,_,_,rfl,Ok.mk ?_⟩;have c0:=j.size;rw[Z];exact⟨_,e,rfl,⟨a2,n2,c2,a7,D,rfl,o2,o3,o4,λn P=>⟨by have:=(o5 n P).1;omega,(o5 n P).2⟩,λn P=>⟨by have:=(o6 n P).1;omega,(o6 n P).2⟩⟩,g5,(ai.keep j).then b2.keep,λn P=>(b2.new n P).imp id λb=>oM⟩
 ·have c1:ai w d6:=j.then d7.keep
  have N:=cR.af f c1;have c4:=(d7.keep (S:=λ_=>False)).get b8 id;have d9:eB d6 h.tp (λn=>F n/\cls n=6) X.gJ:=N.at' 6;have fY:=(N.at' 3).1;have nS:¬(F p/\cls p=6):=λg=>by have:=g.2;rw[f.Kk.2]at this;cases this
  have e0:¬(F w.heap.size/\cls w.heap.size=6):=λg=>by have:=I _ g.1;omega
  refine⟨λn=>F n/\cls n=6,p,0,rfl,nS,_,ae N.bA rfl,e0,_,ae c4 rfl,e0,_,_,_,ae c4 rfl,p,0,rfl,_,ae N.bA rfl,PC.ok (mK fY) ?_⟩;rintro _ g7 ⟨a2,n2,c2,G,rfl,e1,z,hG⟩;have hN:X.S.n<=64:=fY.1.n;have g9:Row aO 8 g7 G a2 n2 X.S.vec:=e1.row dC (by rw[X.S.aY];unfold aP;omega);have j0:=c1.size;have j1:=z.size;have A:=c1.then z;refine⟨_,_,_,rfl,ai.keep z,PC.ok (Km (d9.af z) ((V.af A).jU) g9.jU λ_=>dB.2 λn P k=>?_) ?_⟩
  ·have:=hG n (e1.self n P);have:=I n k.1;omega
  rintro _ c5 ⟨G6,rfl,a3,b3⟩;obtain⟨O,d,B,a,-⟩:=(cR.af f A).tC cm (k:=6) (G':=G6) (C2:=mG p (h.cells c self) h c {X with gJ:=X.gJ.Aw m.bO m.vec X.S.vec} X.S.l) b3 a3.aE a3 λa4 G hj s=>by
   rcases a4 with _|_|_|_|_|_|_|a4<;>first|exact s|exact Zz rfl hj
  have l:cd F w O c5:=⟨(ai.keep A).then a.keep,λn P=>(a.new n P).imp id λb=>by have:=A.size;omega⟩
  have Q:=a.keep.get (z.get c4 id) λk=>by have:=I _ k;omega
  have b4:=(V.af A).keep a.keep λn P=>(g0 n P).2;have j2:=l.keep.size;have c6:=λ{r} k=>K (r:=r) (((Zq b9).trans (Zq (by simpa using M))).trans ((Zq i).trans k));refine⟨_,rfl,b3.keep,_,ae Q rfl,al.eu (λR=>λe2 h2=>?_) (λR=>λe3 h6=>?_)⟩
  ·have C:ai c5 e2:=h2.keep
   have t:=cR.af B C;have j3:=C.size;refine⟨p,0,rfl,_,ae t.bA rfl,p,0,rfl,_,ae t.bA rfl,ar (fe m va vn vc ea en ec) (C.get Q id) ⟨p,0,rfl,_,ae t.bA rfl,PC.ok (Kn (t.at' 3).1 (show X.S.l.length<=20000000 by omega) (b4.af C)) ?_⟩⟩;rintro _ h7 c7;obtain⟨a5,S,c3,rfl⟩:=c7.sl;have b5:ai e2 h7:=by obtain⟨_,_,_,_,_,_,_,_,_,_,_,J⟩:=c7;exact J
   refine⟨_,_,_,rfl,Ok.mk ?_⟩;rw[c6 (Zx R)];exact⟨_,O,rfl,c7.out t.aE oM,⟨x,h,d,cR.af t b5⟩,(l.keep.af C).af b5,l.new⟩
  ·have o:ai c5 e3:=h6.keep
   have H:=cR.af B o;have j4:=o.size;refine⟨p,0,rfl,_,ae H.bA rfl,_,_,_,ae (o.get Q id) rfl,p,0,rfl,_,ae H.bA rfl,PC.ok (zj (H.at' 3).1 (by show X.S.l.length<=_;omega) (b4.af o)) ?_⟩;rintro _ e4 ⟨a5,S,c3,G3,rfl,T,u,h9⟩;have e5:=T.len dC;have b6:=T.aE;have e6:=cR.af H u;have j5:=u.size;have d8:(X.S.missing m.vec c.chunk).length<=32:=by
    unfold aq.missing;rw[Qy];omega
   change aS iz 82 G3 e4 a5 S c3 (X.S.missing m.vec c.chunk)at T
   refine⟨_,_,_,rfl,al.dec (λi3=>λe7 i0=>?_) (λhz=>Ok.mk ?_)⟩
   ·have e8:X.S.missing m.vec c.chunk≠[]:=λg=>by
     have b7:S=(X.S.missing m.vec c.chunk).length:=e5;rw[g,ZQ]at b7;omega
    have v:ai e4 e7:=i0.keep;have e9:=cR.af e6 v;have j6:=v.size;refine⟨p,0,rfl,_,ae e9.bA rfl,_,ae (v.get (u.get (o.get Q id) id) id) rfl,PA.mk λi1 U j7 i2=>Ok.mk ?_⟩;have hm:br e3 [⟨3,self,m.bO,[],X.S.missing m.vec c.chunk⟩] (.slice (UV e7.heap.size) 1 1) i1:=br.one (m:=⟨3,self,m.bO,[],X.S.missing m.vec c.chunk⟩) (va:=none) (vn:=0) (vc:=0) (D:=G3) i2 ⟨dF _ _,((T.af v).af U).row dC cw⟩ (λn P=>⟨h9 n P,by have:=b6 n P;omega,by have:=b6 n P;omega⟩) oM ((u.then v).then U);rw[c6 ((Zq (by simpa using R)).trans (Zq e8))];exact⟨_,O,rfl,hm.out H.aE oM,⟨x,h,d,cR.af e9 U⟩,(((l.keep.af o).af u).af v).af U,l.new⟩
   ·have f2:X.S.missing m.vec c.chunk=[]:=QW (by
     have b7:S=(X.S.missing m.vec c.chunk).length:=e5;omega)
    rw[c6 ((Zq (by simpa using R)).trans (Zx f2))];exact⟨_,O,rfl,fW.nil _ _ _,⟨x,h,d,e6⟩,(l.keep.af o).af u,l.new⟩
end
section
variable {w w' w0 w1 w2:World} {p:Nat} {F E Dv:ac} {cls:Nat->Nat} {h:kM} {c:bF} {self:Int} {X:bh}
def OZ(O:bY w p F c self X)(t:Env w0 w F)(Q:aH e):
  bn 48 #[RK p,WP e] w (Ok λR w'=>∃r,R= WP (ie c X e).1/\bY w' p r c self (ie c X e).2/\cd F w r w'/\(ie c X e).2.S.l.length<=16777216):=by
 obtain⟨B,h,cls,s⟩:=O;have b8:=s.aE;have b9:=s.Kk;have u:bf w F cls (recC p (yy h c self h.lp (UV h.sp) (UV h.bp)) {h with lp:=none} c {X with log:=none} false):=
  ⟨λk=>by
   have d:=s.at' k;rcases k with _|_|_|_|_|_|_|k<;>first|exact d|trivial|(intro S;cases S)|(obtain⟨Fd,g,v,T⟩:=d;exact⟨Fd,g,v,rfl⟩),s.aE⟩
 obtain⟨Fd,U,m,-⟩:=(show DL w (λn=>F n/\cls n=2) h.dp none X.D none from u.at' 2)
 refine ou ⟨p,0,rfl,_,ae (u.at' 0).2 rfl,PC.ok (Mq U Q) ?_⟩;rintro _ V ⟨C,rfl,E,H⟩;obtain⟨W,Y,x,o,-⟩:=u.tC iH (k:=2) (G':=C) (C2:=recC p (yy h c self h.lp (UV h.sp) (UV h.bp)) {h with lp:=none} c {X with log:=none,D:=X.D.eA e} false) ⟨H.keep.mono λn _ P=>m n P,λn P=>(H.new n P).imp (m n) id⟩ (λn P=>E.aE n P) ⟨C,E,λn P=>P,rfl⟩ λa G i d=>by
  rcases a with _|_|_|_|_|_|_|a<;>first|exact d|exact Zz rfl i
 obtain⟨I,Db,P,J,hD⟩:=(show PQ V (λn=>W n/\Y n=5) h.wp c.buffer.toNat X.waits from x.at' 5)
 refine⟨rfl,p,0,rfl,_,ae (x.at' 0).2 rfl,PC.ok (vm P) ?_⟩;rintro _ c1 ⟨rfl,K,Z⟩;obtain⟨j,f,b,l,-⟩:=x.tC iH (k:=5) (G':=I) (C2:=recC p (yy h c self h.lp (UV h.sp) (UV h.bp)) {h with lp:=none} c {X with log:=none,D:=X.D.eA e,waits:=[]} false) ⟨Z.mono λn _ P=>J n P,λn P=>.inl (J n P)⟩ K.QA ⟨I,_,K,λ_ h=>h,λn P=>P.elim⟩ λa G i d=>by
  rcases a with _|_|_|_|_|_|_|a<;>first|exact d|exact Zz rfl i
 refine⟨rfl,p,0,rfl,_,ae (b.at' 0).2 rfl,PC.ok (Ko (b.at' 6)) ?_⟩;rintro _ y ⟨rfl,a3,L⟩;have z:bf y j f (recC p (yy h c self h.lp (UV h.sp) (UV h.bp)) {h with lp:=none} c {X with log:=none,D:=X.D.eA e,waits:=[],gJ:=⟨X.gJ.dj,[],[]⟩} false):=b.same iH (k:=6) L a3 λa G i d=>by
  rcases a with _|_|_|_|_|_|_|a<;>first|exact d|exact Zz rfl i
 have M:cd F w j y:=by
  have g:=o.trans l;exact⟨g.keep.new (L.mono λn _ P=>P.1) λn P=>g.new n P,g.new⟩
 have a5:=t.tC M;have b3:=DL.uV (show DL y (λn=>j n/\f n=2) h.dp none (X.D.eA e) none from z.at' 2) (a5.sub λn P=>P.1);refine⟨rfl,p,0,rfl,_,ae (z.at' 0).2 rfl,PC.ok (Ph t.laid b3) ?_⟩;rintro _ c2 ⟨rfl,a0,b4⟩;obtain⟨G2,b5,a6,b6,-⟩:=DL.Ow (Y:=λ_=>False) (a0.mono λn P=>P.elim id False.elim) b4;obtain⟨c3,b7,a7,a1,-⟩:=z.tC iH (k:=2) (G':=G2) (C2:=recC p (yy h c self h.lp (UV h.sp) (UV h.bp)) {h with lp:=none} c {X with log:=none,D:=dw (X.D.eA e),waits:=[],gJ:=⟨X.gJ.dj,[],[]⟩} false) a6 b6 (by
   obtain⟨Fd,g,v,T⟩:=b5;exact⟨Fd,g,v,rfl⟩) λa G i d=>by
  rcases a with _|_|_|_|_|_|_|a<;>first|exact d|exact Zz rfl i
 have N:=M.trans a1;refine⟨rfl,PC.ok (zl (h:={h with lp:=none}) (z1:=h.lp) (z2:=UV h.sp) (z3:=UV h.bp) a7 B (t.tC N)) ?_⟩;rintro _ c4 ⟨rfl,a8,h',r,q,A,a9⟩;exact⟨_,rfl,Ok.mk ⟨r,rfl,⟨B,h',q,A⟩,N.trans a9,a8⟩⟩
def RT(r:bY w p F c self X)(s:aH e):
  bn 53 #[RK p,WP e] w (Ok λt w'=>∃k,t= .tuple #[]/\bY w' p k c self {X with D:=X.D.GJ e}/\cd F w k w'):=by
 obtain⟨u,h,cls,f⟩:=r;obtain⟨Fd,v,g,a⟩:=(show DL w (λn=>F n/\cls n=2) h.dp h.lp X.D X.log from f.at' 2)
 refine ph ⟨p,0,rfl,_,ae f.bA rfl,PC.ok (Pz s v) ?_⟩;rintro _ l ⟨rfl,x,i⟩;have y:cR l F cls p h c self {X with D:=X.D.GJ e}:=bf.same f cm (k:=2) (i.keep.mono λn _ P=>g n P) (by
  refine⟨Fd,x,g,?_⟩;show match X.log with
   |none=>h.lp=none
   |some j=>j.bd≠[]/\∃b d,h.lp=some ⟨b,0,none⟩/\jE l h.dp b d j/\∀n,d n->(F n/\cls n=2)/\¬Fd n
  cases m:X.log with
  |none=>rw[m]at a;exact a
  |some j=>
   rw[m]at a;obtain⟨z,b,d,A,B,o⟩:=a;exact⟨z,b,d,A,B.keep i.keep λn P=>(o n P).2,o⟩) λq G C E=>by
  rcases q with _|_|_|_|_|_|_|q<;>first|exact E|exact Zz rfl C
 exact⟨rfl,Ok.mk ⟨F,rfl,⟨u,h,cls,y⟩,i.keep.mono λn _ P=>(g n P).1,λn P=>.inl P⟩⟩
def Er{V:dA}{D:ak}{l:List ah}{size:Int}(P:(aR V D l size).no=0):(aR V D l size).V.bd≠[]:=by
 revert P
 unfold aR;split
 ·rename_i n;intro h;exact Zz h n
 split
 ·rename_i n;intro h;exact Zz h n
 ·exact CS
def IP(R:bY w p F c self X)(A:Env w0 w F)(hl:X.S.l.length<=18000000):
  bn 49 #[RK p] w (Ok λa2 w'=>∃S,a2= WP (dR c X).1/\bY w' p S c self (dR c X).2/\cd F w S w'):=by
 have a6:=R;obtain⟨T,h,cls,m⟩:=R;have a8:=m.aE;refine mD ⟨p,0,rfl,_,ae m.bA rfl,jL Tryz.underlying111 ⟨_,rfl,?_⟩⟩;have U:DL w (λn=>F n/\cls n=2) h.dp h.lp X.D X.log:=m.at' 2
 cases k:X.log with
 |none=>
  obtain⟨Fd,-,-,g⟩:=U;rw[k]at g;have g:h.lp=none:=g;rw[g];have o:dR c X=(15,X):=by unfold dR;rw[k]
  rw[o];exact al.tt rfl (Ok.mk ⟨F,rfl,a6,cd.refl _ _⟩)
 |some a=>
 obtain⟨y,d,B,-⟩:=DL.Qs (k▸U) (A.sub λn P=>P.1) λn P=>a8 n P.1;have C:∀{i},(if(aR a X.D X.S.l c.bk).no≠0 then((aR a X.D X.S.l c.bk).no,{X with D:=(aR a X.D X.S.l c.bk).D})else(0,{X with D:=(aR a X.D X.S.l c.bk).D,log:=some (aR a X.D X.S.l c.bk).V}))=i->dR c X=i:=λ{i} E=>by rw[<-E];unfold dR;rw[k]
 rw[d];refine al.ff rfl λw9 d9=>?_;have V:ai w w9:=d9.keep;have l:=cR.af m V;have W:=m.Kk;have H:¬(F p/\cls p=2):=λq=>by have:=q.2;rw[W.2]at this;cases this
 refine⟨λn=>F n/\cls n=2,p,0,rfl,H,_,ae l.bA rfl,p,0,rfl,H,_,ae l.bA rfl,p,0,rfl,_,ae l.bA rfl,p,0,rfl,H,_,ae l.bA rfl,PC.ok (su (l.at' 3).1 oM) ?_⟩;rintro _ r ⟨b6,b7,cc,G,rfl,Y,I,hG⟩;have z:=cR.af l I;have s:=V.then I;have a9:=Y.aE;obtain⟨Z,f,-,J⟩:=DL.Qs (show DL r (λn=>F n/\cls n=2) h.dp h.lp X.D (some a)from k▸z.at' 2) ((A.af s).sub λn P=>P.1) λn P=>z.aE n P.1;have E:Z=y:=by rw[d]at f;cases f;rfl
 subst E;refine⟨_,_,_,rfl,ai.keep I,?_⟩;rw[d];refine PC.ok (Jm A.laid J (Y.row dC cw) a9 oM) ?_;have a0:=Er (V:=a) (D:=X.D) (l:=X.S.l) (size:=c.bk);generalize aR a X.D X.S.l c.bk=i at C a0;rintro _ a3 ⟨K,a4,b0,a5,⟨t,rfl,b1⟩|⟨t,q3,rfl,b2⟩⟩
 ·obtain⟨Fd,h1,h2,g,h4⟩:=b1
  have L:∀n,¬(n<r.heap.size/\¬(F n/\cls n=2))->(F n/\cls n=2)\/r.heap.size<=n:=λn P=>by
   rcases Nat.lt_or_ge n r.heap.size with M|M
   ·exact .inl (Classical.byContradiction λh8=>P ⟨M,h8⟩)
   ·exact .inr M
  have a1:aj (λn=>F n/\cls n=2) r a3:=a5.mono λn b8 P=>(L n P).resolve_right oM;obtain⟨N,j,e,u,-⟩:=z.fv cm (k:=2) (G':=λn=>Fd n\/K n) (C2:=mG p (h.cells c self) h c {X with D:=i.D} X.S.l) a1 (λn P=>P.elim (λv=>L n λh6=>(g n v).2 (.inl h6)) λv=>L n (b0 n v).2) (λn P=>P.elim (h1.aE n) (a4.aE n)) (by
    refine⟨Fd,h1,λn P=>.inl P,?_⟩;show match X.log with
     |none=>h.lp=none
     |some a=>a.bd≠[]/\∃y Fl,h.lp=some ⟨y,0,none⟩/\jE a3 h.dp y Fl a/\∀n,Fl n->(Fd n\/K n)/\¬Fd n
    rw[k];exact⟨B,Z,K,d,a4,λn P=>⟨.inr P,λhd=>(g n hd).2 (.inr P)⟩⟩) λx G O o=>by
   rcases x with _|_|_|_|_|_|_|x<;>first|exact o|exact Zz rfl O
  refine⟨_,_,rfl,a1,al.eT (λQ=>Zz Q t) (λ_=>Ok.mk ?_)⟩;rw[C (Zx t)];exact⟨N,rfl,⟨T,h,j,e⟩,(ai.keep s).then u.keep,λn P=>(u.new n P).imp id λv=>by have:=s.size;omega⟩
 ·obtain⟨G2,b3,u,b4,hY⟩:=DL.HK b2 a5 (a0 t)
  obtain⟨N,j,e,b,-⟩:=z.tC cm (k:=2) (G':=G2) (C2:=mG p (h.cells c self) {h with lp:=UV q3} c {X with D:=i.D,log:=some i.V} X.S.l) u b4 b3 λx G O o=>by
   rcases x with _|_|_|_|_|_|_|x<;>first|exact o|exact Zz rfl O
  refine⟨_,_,rfl,u.keep,al.eT (λ_=>⟨p,0,rfl,PS.mk (e.at' 0).2 sM λb9 a7 c0 b5=>Ok.mk ?_⟩) (λQ=>Zz rfl Q)⟩;rw[C (Zq (by simpa using t))];exact⟨N,rfl,⟨T,{h with lp:=UV q3},j,cR.store e a7 b5⟩,((ai.keep s).then b.keep).then (a7.mono λn _ q=>by have q:n=p:=q;rw[q];exact W.1),λn P=>(b.new n P).imp id λv=>by have:=s.size;omega⟩
end
section
variable {w w' w0 w1 w2:World} {p:Nat} {F E D:ac} {c:bF} {self:Int}
def eI(c:bF)(n:be)(tn P:Nat)(a:be)(b d:Nat):List Value:=[WP c.aA,WP c.uV,WP c.bk,WP c.chunk,WP c.buffer,WP c.dj,WP c.every,WP c.start,.slice n tn P,.slice a b d]
abbrev uh(c:bF)(n:be)(tn P:Nat)(a:be)(b d:Nat):Value:=.agg (eI c n tn P a b d).toArray
def IS(c:bF)(n:be)(tn P:Nat)(a:be)(b d:Nat):iQ LL 27 (eI c n tn P a b d)=true:=kR
def pP:bn 91 #[WP e,WP r,WP O] w (Ok λn w'=>n= .bool (within e r O)/\w=w'):=by
 refine vF (al.dec (λP=>Ok.mk ⟨?_,rfl⟩) (λP=>Ok.mk ⟨?_,rfl⟩))
 ·simp[within];omega
 ·simp[within];omega
def QB{tn z A B:Nat}:bn 57 #[uh c d tn z v A B,WP self] w (Ok λj w'=>j= .bool (fQ c self)/\ai w w'):=by
 refine zP (PA.mk λw1 s I P=>?_);have J:∀{k l m:Int} {o:Bool->Prop} {t:List PanicEntry->bc},o (within k l m)->∃p u x,(Value.func (.func 91) #[] #[])= .func (.func p) u x/\enters LL p=true/\PC LL p (u++ #[WP k,WP l,WP m]++x) w1 (λC E=>∃(y:Bool),C= .bool y/\E=w1/\o y) t:=λ{k l m o t} q=>by
  refine⟨_,_,_,rfl,kR,PC.ok pP ?_⟩;rintro _ _ ⟨rfl,rfl⟩;exact⟨_,rfl,rfl,q⟩
 have no:fQ c self=false->Ok (λj w'=>j= .bool (fQ c self)/\ai w w') (.returned (.bool false)) w1:=λF=>Ok.mk ⟨by rw[F],s⟩;have a:fQ c self=(within c.aA 1 64&&(within self 0 (c.aA-1)&&(within c.uV 64 262144&&(decide (c.bk>=1)&&(decide (c.every>=1)&&(within c.chunk 1 32&&(within c.buffer 1 256&&(within c.dj 1 1048576&&decide (c.start>=0))))))))):=by
  unfold fQ;simp only[Bool.and_assoc]
 refine⟨_,ae P rfl,_,_,_,rfl,kR,PC.ok pP ?_⟩;rintro _ _ ⟨rfl,rfl⟩;refine⟨_,rfl,al.mk (λn=>⟨_,ae P rfl,_,_,_,rfl,kR,PC.ok pP ?_⟩) (λn=>no (by rw[a,n];rfl))⟩;have H:PP .i64 (c.aA-1)=c.aA-1:=wrap_i64 (by have:=bP.1 n;unfold aH;omega);rw[H];rintro _ _ ⟨rfl,rfl⟩;refine⟨_,rfl,al.mk (λb=>⟨_,ae P rfl,_,_,_,rfl,kR,PC.ok pP ?_⟩) (λb=>no (by rw[a,n,b];rfl))⟩;rintro _ _ ⟨rfl,rfl⟩;refine⟨_,rfl,al.mk (λe=>⟨_,ae P rfl,al.mk (λf=>⟨_,ae P rfl,al.mk (λg=>⟨_,ae P rfl,_,_,_,rfl,kR,PC.ok pP ?_⟩) (λg=>no (by rw[a,n,b,e,f,g];rfl))⟩) (λf=>no (by rw[a,n,b,e,f];rfl))⟩) (λe=>no (by rw[a,n,b,e];rfl))⟩;rintro _ _ ⟨rfl,rfl⟩;refine⟨_,rfl,al.mk (λh=>⟨_,ae P rfl,_,_,_,rfl,kR,PC.ok pP ?_⟩) (λh=>no (by rw[a,n,b,e,f,g,h];rfl))⟩;rintro _ _ ⟨rfl,rfl⟩;refine⟨_,rfl,al.mk (λi=>⟨_,ae P rfl,_,_,_,rfl,kR,PC.ok pP ?_⟩) (λi=>no (by rw[a,n,b,e,f,g,h,i];rfl))⟩;rintro _ _ ⟨rfl,rfl⟩;refine⟨_,rfl,al.mk (λr=>⟨_,ae P rfl,Ok.mk ⟨by rw[a,n,b,e,f,g,h,i,r];rfl,s⟩⟩) (λr=>no (by rw[a,n,b,e,f,g,h,i,r];rfl))⟩
def Ts{n P:Nat}(a:R.types[n]? =some c6)(c:P<c6.length):R.Ep (n:Int) (P:Int)=c6[P]? :=by
 have d:=(Qv.1 a).1;have b:R.at (n:Int)=c6:=by
  unfold aU.at;rw[Zx (bP.2 ⟨oM,oM⟩),Qx,QQ,a];rfl
 unfold aU.Ep;rw[b,Zx (by simp only[QK,bP];exact⟨⟨oM,oM⟩,oM,oM⟩),Qx]

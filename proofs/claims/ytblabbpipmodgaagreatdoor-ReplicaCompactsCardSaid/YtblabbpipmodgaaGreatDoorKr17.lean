import Derived.Test.YtblabbpipmodgaaGreatDoorKr16
set_option maxHeartbeats 4000000
set_option linter.all false
set_option maxRecDepth 20000
open Go.IntKind renaming wrap→ZG
namespace Go.Proofs.YtblabbpipmodgaaGreatDoor
open Go.aw
structure GV where
 m:dd
 va:YQ
 vn:Nat
 vc:Nat
 ea:YQ
 en:Nat
 ec:Nat
def SK:jU GV:=flat 5 (λP=>bZ P.m P.va P.vn P.vc P.ea P.en P.ec) (λ_=>True) (λ_=>rfl) (λb c a=>by
 simp only[bZ,Q2,List.not_mem_nil,or_false]at a;rcases a with rfl|rfl|rfl|rfl|rfl<;>rfl)
def GV.In(a:World)(D:ZN)(P:GV):Prop:=Row aM 8 a D P.va P.vn P.m.vec/\Row ia 96 a D P.ea P.en P.m.events
def MF:jq ZP 56 60 SK.k 72:=⟨kR,kR,dC⟩
def br(c:World)(g:List dd)(h:Value)(b:World):Prop:=
 ∃(a:YQ) (e f:Nat) (d:List GV) (D:ZN),h= .slice a e f/\aU SK 60 (λP=>aH a=some P) b a e f d/\d.map (·.m)=g/\(∀P∈d,P.In b D)/\(∀P,D P->c.heap.size<=P/\P<b.heap.size/\aH a≠some P)/\(∀P,aH a=some P->c.heap.size<=P)/\ai c b
variable{e q:Int}{c3:List dd}{f:ZN}{C:Nat×Nat}{d r:YQ}{h:Program}{j:Type}{u:Value}{b:World}
section
variable {w w':World} {p:Nat} {F D:ZN} {S:au} {a:YQ} {n c:Nat}
def GV.In.keep{P:GV}(a:P.In w D)(b:aj f w w')(c:∀P,D P->¬f P):P.In w' D:=⟨a.1.keep b c,a.2.keep b c⟩
def GV.In.mono{P:GV}(a:P.In w D)(b:∀P,D P->f P):P.In w f:=⟨a.1.mono b,a.2.mono b⟩
def ef{P:jU j}{bytes:Nat}(w:World)(D:ZN):Row P bytes w D none 0 []:=⟨rfl,sM,λb c a=>by simp at a⟩
def br.nil(w:World):br w [] (.slice none 0 0) w:=⟨none,0,0,[],λ_=>False,rfl,(aU.nil w).mono (λa P=>P.elim) (λa P=>(by cases P)),rfl,sM,λa P=>P.elim,λa P=>(by cases P),aj.refl _⟩
def br.af(f:br b c3 u w)(e:ai w w'):br b c3 u w':=by
 obtain⟨a,n,c,h,D,i,j,k,l,g,m,o⟩:=f;exact⟨a,n,c,h,D,i,j.af e,k,λP d=>(l P d).keep e λ_ _ f=>f,λP d=>⟨(g P d).1,by have:=e.size;have:=(g P d).2.1;omega,(g P d).2.2⟩,m,o.then e⟩
def br.push{q K:TypeId}(s:br b c3 (.slice a n c) w)(L:jq h q 60 SK.k 72){m:dd}{i j k l v:Nat}{E:ZN}(M:(⟨m,d,i,j,r,k,l⟩:GV).In w E)(x:∀P,E P->b.heap.size<=P/\P<w.heap.size/\aH a≠some P)(N:w.heap[v]? =some (.cells (bZ m d i j r k l).toArray 60 C))(V:c3.length<=1000){y O:ZR}(t:∀f g w',br b (c3++[m]) (.slice f (n+1) g) w'->aj (λP=>aH a=some P) w w'->y (.slice f (n+1) g) w'):
  aG h (Builtin.append_ #[q,q] K #[.slice a n c,.slice (ZM v) 1 1]) w y O:=by
 obtain⟨W,X,Y,u,D,Q,R,z,S,A,B,F⟩:=s
 cases Q
 have Z:u.length=c3.length:=by rw[<-z,Q8]
 refine eJ (c:=SK) (x:=⟨m,d,i,j,r,k,l⟩) (D:=λ_=>False) R L N ⟨rfl,trivial⟩ (λP e=>e.elim) ba (by unfold maxLen;omega) λf g w' F' o p T=>?_;have H:∀P,aH f=some P->aH a=some P\/w.heap.size<=P:=λP e=>(T P (o.self P e)).imp id λs=>s.resolve_left id;have a0:=p.size;have z7:=F.size;refine t f g w' ⟨f,n+1,g,u++[⟨m,d,i,j,r,k,l⟩],λP=>D P\/E P,rfl,(show aU SK 60 (λP=>aH f=some P) w' f (n+1) g (u++[⟨m,d,i,j,r,k,l⟩])from o.alone),by rw[Q3,z];rfl,λP e=>?_,λP e=>?_,λP e=>?_,F.new p λP e=>.inr (B P e)⟩ p
 ·rcases Q6.1 e with e|e
  ·exact((S P e).keep p λP e=>(A P e).2.2).mono λP e=>.inl e
  ·simp at e;subst e
   exact(M.keep p λP e=>(x P e).2.2).mono λP e=>.inr e
 ·have I:b.heap.size<=P/\P<w.heap.size/\aH a≠some P:=e.elim (A P) (x P)
  exact⟨I.1,oM,λU=>(H P U).elim I.2.2 oM⟩
 ·rcases H P e with J|J
  ·exact B P J
  ·omega
def ML(z:br b c3 (.slice a n c) w)(O:c3.length<=1000):
  YX 103 #[ZH e,ZH q,.slice a n c] w (Ok λA w'=>br b (c3.map λm=>{m with bU:=e,pF:=q}) A w'):=by
 obtain⟨Q,R,S,d,D,B,s,x,C,o,y,E⟩:=z
 cases B
 have T:d.length=c3.length:=by rw[<-x,Q8]
 have U:=s.len dC;obtain⟨g,j⟩:∃g:GV->GV,g=λf=>{f with m:={f.m with bU:=e,pF:=q}}:=⟨_,rfl⟩
 refine Ke ⟨λm h w'=>∃P:Nat,h=P/\P<=n/\m=n-P/\aU SK 60 (λf=>aH a=some f) w' a n c ((d.take P).map g++d.drop P)/\aj (λf=>aH a=some f) w w',⟨_,0,rfl,Qj _,rfl,by simpa using s,aj.refl _⟩,?_⟩;rintro m _ _ V ⟨P,rfl,W,rfl,t,p⟩;refine al.dec (λX=>?_) (λY=>?_)
 ·have r:d[P]? =some d[P]:=Qq oM
  have k:∃l,a=ZM l:=by
   obtain⟨cs,D,F,-⟩:=s.body;rcases F.cases with⟨_,Z,_,_⟩|⟨l,H,rfl,_⟩
   ·omega
   ·exact⟨l,rfl⟩
  obtain⟨l,k⟩:=k;have u:((d.take P).map g++d.drop P)[P]? =some d[P]:=by
   rw[X8 bc];simp[Qy,X2 (show P<=d.length by omega)]
  generalize d[P]=h at r u;have I:P<((d.take P).map g++d.drop P).length:=(Qv.1 u).1;refine⟨l,0,k,oM,oM,?_⟩;rw[Qx];refine aU.set (x':={h with m:={h.m with bU:=e}}) (j:=1) t u dC rfl k λa3 J K a4=>⟨l,0,k,oM,oM,?_⟩
  refine aU.set (x:={h with m:={h.m with bU:=e}}) (x':=g h) (j:=2) J (by rw[List.getElem?_set_self I]) dC (by rw[j];rfl) k λa5 v L a6=>⟨_,?_,P+1,an oM,oM,rfl,?_,(p.then K).then L⟩
  ·omega
  ·rw[List.set_set]at v
   have M:((d.take P).map g++d.drop P).set P (g h)=(d.take (P+1)).map g++d.drop (P+1):=by
    have N:((d.take P).map g).length=P:=by simp;omega
    rw[Qw,r,Q3,XQ,List.set_append,Zq oM,N,Nat.sub_self,X4 (show P<d.length by omega)];rfl
   rw[M]at v;exact v
 ·obtain rfl:P=n:=oM
  rw[Qz oM,List.drop_eq_nil_of_le oM,List.append_nil]at t;refine Ok.mk ⟨a,P,c,d.map g,D,rfl,t,?_,λf i=>?_,λf i=>⟨(o f i).1,by have:=p.size;have:=(o f i).2.1;omega,(o f i).2.2⟩,y,E.new p λf i=>.inr (y f i)⟩
  ·rw[<-x,List.map_map,List.map_map,j];rfl
  ·obtain⟨h,r,rfl⟩:=Xk.1 i
   have:=(C h r).keep p λf i=>(o f i).2.2;rw[j];exact this
end
variable{a c:Nat}
section
variable {w w':World} {p:Nat} {F D E:ZN} {S:au} {m:dd} {va ea:YQ} {vn vc en ec:Nat}
def br.Hk(e:br b c3 u w)(c:ai w' b):br w' c3 u w:=by
 obtain⟨f,g,h,i,D,j,k,l,m,d,n,o⟩:=e;have:=c.size;exact⟨f,g,h,i,D,j,k,l,m,λP a=>⟨by have:=(d P a).1;omega,(d P a).2⟩,λP a=>by have:=n P a;omega,c.then o⟩
def br.len(P:br b c3 (.slice d a c) w):a=c3.length:=by
 obtain⟨h,i,j,k,D,e,f,g,-⟩:=P
 cases e
 rw[f.len dC,<-g,Q8]
def br.sl(P:br b c3 u w):∃a c d,u= .slice a c d:=by
 obtain⟨f,g,h,i,D,e,-⟩:=P;exact⟨_,_,_,e⟩
def IQ(h:cJ w p F S)(hl:S.l.length<=20000000)(Z:Row aM 8 w D va vn m.vec):
  YX 49 #[ZL p,ZH e,jO m va vn vc ea en ec,ZH q] w (Ok (br w (lH S e m q))):=by
 have hS:=h.1;have hN:=hS.n;refine CG (PA.mk λb n f6 x=>⟨λw'=>b=w'/\(m.kind=1\/m.kind=2),⟨_,ae x rfl,al.dV (λo=>⟨_,ae x rfl,al.dV (λd=>Ok.mk ?_) (λd=>⟨rfl,.inr d⟩)⟩) (λo=>⟨rfl,.inl o⟩)⟩,?_⟩)
 ·unfold lH;rw[Zx ⟨o,d⟩];exact(br.nil b).Hk n
 rintro _ _ ⟨rfl,hk⟩;have b9:¬(m.kind≠1/\m.kind≠2):=oM
 obtain⟨s,K⟩:∃s,s=S.missing m.vec (max 1 (min q 32)):=⟨_,rfl⟩
 have b4:(if(if 32<q then 32 else q)>1 then(if 32<q then 32 else q)else 1)=max 1 (min q 32):=by split<;>split<;>omega
 obtain⟨f,E⟩:∃f:List dd,f=if 0<s.length then [⟨3,0,0,[],s⟩]else []:=⟨_,rfl⟩
 have g0:f.length<=1:=by rw[E];split<;>simp
 refine⟨λi j k w'=>br b f (.slice i j k) w'/\ai b w',⟨_,_,_,ae x rfl,?_⟩,?_⟩
 ·refine PC.ok (by rw[b4];exact xV (h.af n) hl (Z.af n)) ?_
  rw[<-K];rintro _ g1 ⟨b7,n2,y,G,rfl,L,H,hG⟩;have g2:=L.len dC;have e0:=L.aE;refine⟨_,_,_,rfl,al.dec (λf4=>PA.mk λg3 M g4 e1=>?_) (λhz=>⟨?_,H⟩)⟩
  rotate_left
  ·rw[E,Zq oM]
   exact(br.nil b).af H
  have g5:s.length<=20000000:=by
   rw[K];unfold au.missing;rw[Qy];have:=List.length_filter_le (λg:ah=>decide (max 0 (fC m.vec g.origin)<g.seq)) S.l;omega
  refine br.push (m:=⟨3,0,0,[],s⟩) (E:=G) ((br.nil b).af (H.then M)) MF ⟨ef _ _,(L.af M).row dC ba⟩ (λP a=>⟨by have:=hG P a;omega,by have:=e0 P a;omega,λg=>by cases g⟩) e1 sM λa' c' g6 c0 e2=>⟨_,_,_,rfl,?_,?_⟩
  ·rw[E,Zx oM];exact c0
  ·exact(H.then M).new e2 λP a=>(by cases a)
 rintro I on oc _ e3 ⟨N,O⟩;have a0:=n.then O;have e4:=O.size;refine PC.ok (lx (h.af a0)) ?_;rintro _ u ⟨a3,n3,c3,G3,rfl,c4,c6,c7⟩;have g7:=a0.size;have c8:=c4.aE;have c9:Row aM 8 u G3 a3 n3 S.vec:=c4.row dC (by rw[S.b_];unfold aO;omega);obtain⟨c,v⟩:∃c:List dd,c=if m.kind=1/\(qP m.vec S.vec=2\/qP m.vec S.vec=3)then [⟨2,0,0,S.vec,[]⟩]else []:=⟨_,rfl⟩
 have g8:c.length<=1:=by rw[v];split<;>simp
 have z:=O.then c6;have Q:∀P,aH I=some P->P<e3.heap.size:=λP a=>by
  obtain⟨a1,n1,t,a2,D,l,d,-⟩:=N
  cases l
  exact d.aE P a
 refine⟨_,_,_,rfl,λi j k w'=>br b (f++c) (.slice i j k) w'/\w'.heap[w.heap.size]? =some (.cells (bZ m va vn vc ea en ec).toArray 60 (0,0))/\ai b w',⟨_,_,_,ae (z.get x id) rfl,PC.ok (MJ ((Z.af (n.then z)).sX) c9.sX) ?_⟩,?_⟩
 ·rintro _ _ ⟨rfl,rfl⟩
  have R:=z.get x id;have a4:=N.af c6;have r:∀P,aH I=some P->b.heap.size<=P:=λP a=>by
   obtain⟨a1,n1,t,a2,D,l,d,A,h4,h5,T,h7⟩:=N
   cases l
   exact T P a
  have no:c=[]->br b (f++c) (.slice I on oc) u/\u.heap[w.heap.size]? =some (.cells (bZ m va vn vc ea en ec).toArray 60 (0,0))/\ai b u:=λa=>⟨by rw[a,List.append_nil];exact a4,R,z⟩
  have B:∀{ε:ZR} {U:YQ->Nat->Nat->ZU},c=[⟨2,0,0,S.vec,[]⟩]->(∀i j k w',br b (f++c) (.slice i j k) w'/\w'.heap[w.heap.size]? =some (.cells (bZ m va vn vc ea en ec).toArray 60 (0,0))/\ai b w'->U i j k w')->
    PA u (.cells #[ZH 2,ZH 0,ZH 0,.slice a3 n3 c3,.slice none 0 0] 60) λd0=>aG ZP (Builtin.append_ #[56,56] 56 #[.slice I on oc,.slice (ZM u.heap.size) 1 1]) d0 (λe5 d1=>∃(a5:YQ) (a6:Nat) (a7:Nat),e5= .slice a5 a6 a7/\U a5 a6 a7 d1) ε:=λ{ε U} a V=>by
   refine PA.mk λd0 J g9 e6=>br.push (m:=⟨2,0,0,S.vec,[]⟩) (E:=G3) (a4.af J) MF ⟨c9.af J,ef _ _⟩ (λP a=>⟨by have:=c7 P a;omega,by have:=c8 P a;omega,λg=>by have:=Q P g;have:=c7 P a;omega⟩) e6 oM λa' c' d1 d2 d3=>⟨_,_,_,rfl,V _ _ _ _ ⟨by rw[a];exact d2,d3.get (J.get R id) λg=>?_,?_⟩⟩
   ·have:=r _ g;omega
   ·exact(z.then J).new d3 λP a=>.inr (r P a)
  refine⟨_,rfl,_,ae R rfl,al.eD (λo=>al.eD (λd=>B (by rw[v,Zx ⟨o,.inl d⟩]) λi j k w' h=>h) (λd=>al.eD (λA=>B (by rw[v,Zx ⟨o,.inr A⟩]) λi j k w' h=>h) (λA=>no (by rw[v,Zq];rintro⟨-,h|h⟩;exact d h;exact A h)))) (λo=>no (by rw[v,Zq λh=>o h.1]))⟩
 rintro e7 h8 h9 _ e8 ⟨C,W,a8⟩;have d4:=n.then a8;have e9:=a8.size;have a9:=C.len;have f5:(f++c).length<=2:=by rw[QX];omega
 have b0:∀{X:List dd},(if(f++c).isEmpty then [y_ S e m.bU]else(f++c).map λb5=>{b5 with bU:=e,pF:=m.bU})=X->lH S e m q=X:=λ{X} hq=>by
  rw[<-hq];unfold lH;rw[Zq b9,<-K];rw[E,v];have p1:(decide (qP m.vec S.vec=2\/qP m.vec S.vec=3))=decide (qP m.vec S.vec=2\/qP m.vec S.vec=3):=rfl
  by_cases t:0<s.length<;>by_cases y:m.kind=1/\(qP m.vec S.vec=2\/qP m.vec S.vec=3)
  ·simp[t,y]
  ·simp[t,y]
  ·simp[t,y]
  ·simp[t,y]
 refine al.eD (λh0=>⟨_,ae W rfl,PC.ok (IH (h.af d4)) ?_⟩) (λh0=>⟨_,ae W rfl,PC.ok (ML C oM) ?_⟩)
 ·have l:f++c=[]:=QW oM
  rintro _ i0 ⟨b8,n5,c5,G5,rfl,d5,d6,d7⟩;have d8:=d5.aE;rw[l]at C;refine⟨_,_,_,_,_,_,_,_,_,rfl,PA.mk λi1 Y i2 f2=>?_⟩;have b1:∀P,aH e7=some P->b.heap.size<=P/\P<e8.heap.size:=λP a=>by
   obtain⟨a1,n1,t,a2,D,l,d,A,h4,h5,T,h7⟩:=C
   cases l
   exact⟨T P a,d.aE P a⟩
  refine br.push (m:=y_ S e m.bU) (E:=G5) (C.af (d7.then Y)) MF ⟨(d5.af Y).row dC (by show S.vec.length*8<=aO;rw[S.b_];unfold aO;omega),ef _ _⟩ (λP a=>⟨by have:=d6 P a;have:=d4.size;omega,by have:=d8 P a;omega,λg=>by have:=(b1 P g).2;have:=d6 P a;omega⟩) f2 sM λa' c' i3 d9 f3=>⟨_,_,_,rfl,_,ae (f3.get ((d7.then Y).get W id) λg=>by have:=(b1 _ g).1;omega) rfl,?_⟩
  refine PC.ok (ML d9 sM) ?_;rintro b6 i4 b2;obtain⟨i,j,k,rfl⟩:=b2.sl;refine⟨_,_,_,rfl,Ok.mk ?_⟩;rw[b0 (Zx (by rw[l];rfl))];exact b2.Hk n
 ·rintro b6 i5 b3
  obtain⟨i,j,k,rfl⟩:=b3.sl;refine⟨_,_,_,rfl,Ok.mk ?_⟩;rw[b0 (Zq (by
   intro l;have:f++c=[]:=by simpa using l
   rw[this]at a9;simp at a9;omega))]
  exact b3.Hk n
end
def ij(P:lf):List Value:=[ZH P.aY,ZH P.agg,ZH P.field,ZH P.op,ZH P.arg,ZH P.expect,ZH P.key]
abbrev sW(P:lf):Value:=.agg (ij P).toArray
def DF(P:lf):iI ZP 49 (ij P)=true:=kR
variable{s:List Int}{L:aS}{c9:lf}
section
variable {w w':World} {D:ZN}
def Cv{tn n l o:Nat}(p:eX w)(h:bj w D L d tn r l)(q:∀b,D b->b<w.heap.size):
  YX 82 #[.agg #[.slice d tn n,.slice r l o],sW c9] w (Ok λf w'=>f= ZH (jt L c9)/\ai w w'):=by
 refine yq (PA.mk λv s x c=>PA.mk λt m y P=>?_);have c:=m.get c id;have e:=s.then m;have a:(c9.agg<0\/c9.key<0\/c9.expect< -1)->Ok (λf w'=>f= ZH (jt L c9)/\ai w w') (.returned (ZH 1)) t:=λg=>Ok.mk ⟨by unfold jt;rw[Zx g],e⟩;refine⟨_,ae P rfl,al.dec (λi=>a (.inl i)) (λi=>⟨_,ae P rfl,al.dec (λj=>a (.inr (.inl j))) (λj=>⟨_,ae P rfl,al.dec (λk=>a (.inr (.inr k))) (λk=>⟨_,_,_,_,_,_,ae c rfl,ae c rfl,_,ae P rfl,_,ae P rfl,_,ae P rfl,_,ae P rfl,PC.ok (xp (p.af e) (h.af e) λb g=>by have:=q b g;omega) ?_⟩)⟩)⟩)⟩;rintro _ z ⟨rfl,u⟩;exact⟨_,rfl,Ok.mk ⟨by unfold jt;rw[Zq (by rintro(h|h|h);exact i h;exact j h;exact k h)],e.then u⟩⟩
def Fj(b:∀c∈s,aN c)(P:Int):0<=fC s P/\fC s P<=9223372036854775807:=by
 unfold fC;split
 ·omega
 ·by_cases a:P.toNat<s.length
  ·have:=b _ (XY a)
   unfold aN at this;simp only[QQ,Qq a,Option.getD_some];omega
  ·simp only[QQ,Q7 (Nat.le_of_not_lt a),Option.getD_none]
   omega
def Nb(P a:List Int):(jX P a).length=max P.length a.length:=by unfold jX;rw[sk]
def RV(a b:List Int)(e:∀P∈a,aN P)(f:∀P∈b,aN P):∀P∈jX a b,aN P:=by
 intro P c;unfold jX pT at c;obtain⟨d,-,rfl⟩:=Xk.1 c;have g:=Fj e d;have h:=Fj f d;unfold aN;omega
def jk(Q:Row aM 8 w D d a s)(hl:q<=9223372036854775807)(hn:s.length<=20000000):
  YX 89 #[sW c9,ZH e,.slice d a c,ZH q] w (Ok λv w'=>∃d a k G,v= .tuple #[jS (aZ c9 e s q).2 d a k,ZH (aZ c9 e s q).1]/\Row aM 8 w' G d a (aZ c9 e s q).2.aJ/\(∀P,G P->w.heap.size<=P/\P<w'.heap.size)/\ai w w'):=by
 have a9:=Q.len;have A:=Q.sX;refine yr (PA.mk λB k1 s1 K=>PA.mk λL R s2 S=>?_);have K:=R.get K id;have k:=k1.then R;have l:∀{n:World} {no:Int},ai L n->aZ c9 e s q=(no,rC)->yo ZP 55 (ZL B.heap.size) (jS rC none 0 0) n λw4=>oW ZP 55 (ZL B.heap.size) w4 λv=>Ok (λv w'=>∃d a k G,v= .tuple #[jS (aZ c9 e s q).2 d a k,ZH (aZ c9 e s q).1]/\Row aM 8 w' G d a (aZ c9 e s q).2.aJ/\(∀P,G P->w.heap.size<=P/\P<w'.heap.size)/\ai w w') (.returned (.tuple #[v,ZH no])) w4:=λ{n no} C T=>
  aC (bf rC none 0 0) (C.get S id) rfl λw4 m s4 M=>ar (bf rC none 0 0) M (Ok.mk ⟨none,0,0,λ_=>False,by rw[T],by rw[T];exact Row.nil _ _,λP b=>b.elim,(k.then C).new m λP b=>.inr oM⟩)
 refine al.dec (λU=>l (aj.refl _) ?_) (λU=>al.dec (λh2=>l (aj.refl _) ?_) (λh2=>al.dec (λC=>l (aj.refl _) ?_) (λC=>PC.ok (nB (A.af k)) ?_)))
 ·unfold aZ;rw[Zx (.inl U)]
 ·unfold aZ;rw[Zx (.inr (.inl oM))]
 ·unfold aZ;rw[Zx (.inr (.inr C))]
 rintro _ _ ⟨rfl,rfl⟩;have N:¬(e<0\/(s.length:Int)<=e\/q<0):=by rintro(h|h|h)<;>omega
 refine⟨_,rfl,al.eD (λJ=>l (aj.refl _) ?_) (λJ=>al.eD (λE=>l (aj.refl _) ?_) (λE=>λn V=>?_))⟩
 ·unfold aZ;rw[Zq N,Zx (.inl J)]
 ·unfold aZ;rw[Zq N,Zx (.inr E)]
 have hg:=Fj A.zf e;have wl:ZG .i64 (q+1)=q+1:=wrap_i64 bb;have ws:ZG .i64 (fC s e+1)=fC s e+1:=wrap_i64 (by unfold aN;have:fC s e≠9223372036854775807:=J;omega);have W:aZ c9 e s q=(0,⟨e,ZG .i64 (fC s e+1),ZG .i64 (q+1),jX s [],c9.aY,c9.agg,c9.field,c9.op,c9.arg,c9.key⟩):=by
  unfold aZ;rw[Zq N,Zq (by rintro(h|h);exact J h;exact E h),wl,ws]
 have F:ai L n:=V.keep;have s3:n.heap.size=L.heap.size:=by rw[V.heap]
 have X:=k.then F;have y:=F.get K id;have Y:=F.get S id;have jl:(jX s []).length<=20000000:=by rw[Nb];simp;omega
 have jI:∀a0∈jX s [],aN a0:=RV s [] A.zf sM;have z:¬(n.heap.size<=w.heap.size):=oM
 have H:∀{w4 r:World} {f:YQ} {i j x:Nat},ai w r->Own r 3 1 f i j (ints (jX s []))->(∀P,aH f=some P->n.heap.size<=P/\P≠x)->r.heap[B.heap.size]? =some (.cells (aD rC none 0 0).toArray 55 (0,0))->r.heap[x]? =some (.cells #[ZH 0,ZH 0,ZH (ZG .i64 (q+1)),.slice f i j,ZH c9.aY,ZH c9.agg,ZH c9.field,ZH c9.op,ZH c9.arg,ZH c9.key] 55 (0,0))->n.heap.size<=x->
   PS r ⟨x,0,none⟩ (ZH e) λa4=>PS a4 ⟨x,0+1,none⟩ (ZH (ZG .i64 (fC s e+1))) λZ=>oW ZP 55 (ZL x) Z λa5=>yo ZP 55 (ZL B.heap.size) a5 Z λa2=>oW ZP 55 (ZL B.heap.size) a2 λa6=>Ok (λv w'=>∃d a k G,v= .tuple #[jS (aZ c9 e s q).2 d a k,ZH (aZ c9 e s q).1]/\Row aM 8 w' G d a (aZ c9 e s q).2.aJ/\(∀P,G P->w.heap.size<=P/\P<w'.heap.size)/\ai w w') (.returned (.tuple #[a6,ZH 0])) a2:=λ{w4 r f i j x} E t o hz a7 b0=>by
  refine PS.mk a7 sM λw6 g s6 I=>PS.mk I sM λw7 O s7 g7=>?_;have a8:=O.get (g.get hz oM) oM;refine ar (cs:=aD ⟨e,ZG .i64 (fC s e+1),ZG .i64 (q+1),jX s [],c9.aY,c9.agg,c9.field,c9.op,c9.arg,c9.key⟩ f i j) (bf _ _ _ _) g7 (aC (bf _ _ _ _) a8 rfl λw8 k8 s8 g8=>ar (bf _ _ _ _) g8 (Ok.mk ⟨f,i,j,λP=>aH f=some P,by rw[W],?_,λP b=>⟨by have:=o P b;omega,?_⟩,?_⟩))
  ·rw[W]
   have a3:=(((t.keep g (dx.2 λP b u=>(o P b).2 u)).keep O (dx.2 λP b u=>(o P b).2 u)).keep k8 (dx.2 λP b u=>by have:=o P b;omega))
   exact(⟨⟨_,λ_=>False,a3,kq.2 ⟨rfl,jI⟩,λ_ h=>h.elim⟩,λP b=>b,λP b=>a3.lt b⟩:aU aM 3 (λP=>aH f=some P) w8 f i j (jX s [])).row dC ba
  ·have:=t.lt b;omega
  ·exact((E.new g λP b=>.inr oM).new O λP b=>.inr oM).new k8 λP b=>.inr oM
 refine⟨λP=>n.heap.size<=P,z,_,ae y rfl,z,_,ae y rfl,z,_,ae y rfl,z,_,ae y rfl,z,_,ae y rfl,z,_,ae y rfl,PC.ok (Ah ((A.af k).af F) (Ints.nil _)) ?_,PA.mk λw4 m s4 M=>⟨ai.keep m,PC.ok (Ah (((A.af k).af F).af m) (Ints.nil _)) ?_⟩⟩
 ·rintro _ w4 ⟨f,i,j,rfl,t,m,o⟩
  have z4:=m.size;refine⟨_,_,_,rfl,ai.keep m,PA.mk λr p s5 g5=>⟨ai.keep p,aC (cs:=[ZH 0,ZH 0,ZH (ZG .i64 (q+1)),.slice f i j,ZH c9.aY,ZH c9.agg,ZH c9.field,ZH c9.op,ZH c9.arg,ZH c9.key]) (bf ⟨0,0,ZG .i64 (q+1),[],c9.aY,c9.agg,c9.field,c9.op,c9.arg,c9.key⟩ f i j) g5 rfl λw6 g s6 I=>⟨g.mono λP _ u=>oM,H (w4:=w4) (((X.then m).then p).new g λP b=>.inr oM) ((t.af p).keep g (dx.2 λP b u=>by have:=t.lt b;omega)) (λP b=>⟨o P b,by have:=t.lt b;omega⟩) (g.get (p.get (m.get Y id) id) oM) I oM⟩⟩⟩
 ·rintro _ r ⟨f,i,j,rfl,t,p,o⟩
  have z5:=p.size;refine⟨_,_,_,rfl,ai.keep p,aC (cs:=[ZH 0,ZH 0,ZH (ZG .i64 (q+1)),.slice f i j,ZH c9.aY,ZH c9.agg,ZH c9.field,ZH c9.op,ZH c9.arg,ZH c9.key]) (bf ⟨0,0,ZG .i64 (q+1),[],c9.aY,c9.agg,c9.field,c9.op,c9.arg,c9.key⟩ f i j) (p.get M id) rfl λw6 g s6 I=>⟨g.mono λP _ u=>oM,H (w4:=w4) (((X.then m).then p).new g λP b=>.inr oM) (t.keep g (dx.2 λP b u=>by have:=o P b;omega)) (λP b=>⟨by have:=o P b;omega,by have:=o P b;omega⟩) (g.get (p.get (m.get Y id) id) oM) I oM⟩⟩
end
section
variable {w w':World} {D Fs Fv:ZN} {s v:Nat} {S:au} {V:bg} {d:aS} {c:lf} {origin start:Int}
def vE(w:World)(P:ah×Bool×Int)(d:Value)(w':World):Prop:=∃b c e G,d= .tuple #[jS P.1 b c e,.bool P.2.1,ZH P.2.2]/\Row aM 8 w' G b c P.1.aJ/\(∀a,G a->w.heap.size<=a/\a<w'.heap.size)/\ai w w'
def xi(d:aS)(s:au)(v:bg)(origin start:Int)(c:lf):lD d s v origin start c=if jt d c≠0 then(rC,false,jt d c)else
  match s.keyed c.key with
  |some P=>(P,false,0)
  |none=>if¬(c.expect= -1\/c.expect=((v.state c.aY c.agg).getD ⟨0,[]⟩).version)then(rC,false,11)else
   if vX (d.at c.aY) (match v.state c.aY c.agg with|some a=>a.cells|none=>dX (d.at c.aY)) c.field c.op c.arg≠0 then(rC,false,10)else
   ((aZ c origin s.vec (max s.top start)).2,decide ((aZ c origin s.vec (max s.top start)).1=0),(aZ c origin s.vec (max s.top start)).1):=rfl
def Dq{ta pa:YQ}{tn tc pn pc:Nat}(hT:eX w)(hd:bj w D d ta tn pa pn)(hD:∀P,D P->P<w.heap.size)(j0:dy d=0)(hs:cJ w s Fs S)(j1:S.l.length<=20000000)(hv:cG w v Fv V)(j2:V.decl=d)(o4:start<=9223372036854775807)(o1:S.top<=9223372036854775807):
  YX 42 #[.agg #[.slice ta tn tc,.slice pa pn pc],ZL s,ZL v,ZH origin,ZH start,sW c] w (Ok (vE w (lD d S V origin start c))):=by
 refine yy (PA.mk λw1 k1 s1 g1=>PA.mk λw2 k2 s2 g2=>PA.mk λw3 k3 s3 g3=>?_);have q:=(k1.then k2).then k3;have gd:=k3.get (k2.get g1 id) id;have gc:=k3.get g2 id;have y:∀{z:World} {no:Int},ai w3 z->lD d S V origin start c=(rC,false,no)->yo ZP 55 (ZL w2.heap.size) (jS rC none 0 0) z λt=>oW ZP 55 (ZL w2.heap.size) t λr=>Ok (vE w (lD d S V origin start c)) (.returned (.tuple #[r,.bool false,ZH no])) t:=λ{z no} h4 R=>
  aC (bf rC none 0 0) (h4.get g3 id) rfl λt k5 s5 g5=>ar (bf rC none 0 0) g5 (Ok.mk ⟨none,0,0,λ_=>False,by rw[R],by rw[R];exact Row.nil _ _,λP a=>a.elim,(q.then h4).new k5 λP a=>.inr oM⟩)
 refine⟨_,_,_,_,_,_,ae gd rfl,ae gd rfl,ar (DF c) gc (PC.ok (Cv (hT.af q) (hd.af q) λP a=>by have:=hD P a;omega) ?_)⟩;rintro _ z ⟨rfl,T⟩;refine⟨_,rfl,al.dV (λU=>y T (by rw[xi,Zx U])) (λe5=>⟨_,ae (T.get gc id) rfl,PC.ok (Ox (hs.af (q.then T)) j1) ?_⟩)⟩;rintro _ t ⟨W,X,Y,G5,rfl,e6,e7,k5⟩;have b6:=T.then k5;have o5:=b6.size;have A:∀{r:ah×Bool×Int},(match S.keyed c.key with
  |some l=>(l,false,0)
  |none=>if¬(c.expect= -1\/c.expect=((V.state c.aY c.agg).getD ⟨0,[]⟩).version)then(rC,false,11)else
   if vX (d.at c.aY) (match V.state c.aY c.agg with|some B=>B.cells|none=>dX (d.at c.aY)) c.field c.op c.arg≠0 then(rC,false,10)else
   ((aZ c origin S.vec (max S.top start)).2,decide ((aZ c origin S.vec (max S.top start)).1=0),(aZ c origin S.vec (max S.top start)).1))=r->lD d S V origin start c=r:=λ{r} hr=>by
  rw[xi,Zq (by simpa using e5)];exact hr
 refine cm (rA _ W X Y) ⟨_,rfl,PA.mk λw6 k6 s6 g6=>aC (bf _ W X Y) g6 rfl λm k7 s7 g7=>al.mk (λhk=>?_) (λhk=>?_)⟩
 ·obtain⟨l,R⟩:=Option.isSome_iff_exists.1 hk
  rw[R]at e6 g7 A;have b2:ai t m:=k6.new k7 λP a=>.inr oM;refine ar (bf _ W X Y) g7 (aC (bf _ W X Y) (b2.get (b6.get g3 id) id) rfl λw8 k8 s8 g8=>ar (bf _ W X Y) g8 (Ok.mk ⟨W,X,Y,G5,?_,?_,λP a=>?_,?_⟩))
  ·rw[A rfl];rfl
  ·rw[A rfl]
   exact(e6.af b2).keep k8 λP a l=>by have:=e7 P a;have:=q.size;have:=T.size;omega
  ·have:=e7 P a;have:=q.size;have:=T.size;omega
  ·exact((q.then b6).then b2).new k8 λP a=>.inr oM
 have d2:S.keyed c.key=none:=by simpa using hk
 rw[d2]at A;have b2:ai t m:=k6.new k7 λP a=>.inr oM;have L:=b6.then b2;have o6:=L.size;have b7:=q.then L;have e8:kV d c.aY c.field c.op c.arg=0:=by
  have:=e5;unfold jt at this;split at this
  ·simp at this
  ·exact this
 have j3:V.decl.at c.aY=d.at c.aY:=by rw[j2]
 obtain⟨hV,b0,hq⟩:=hv;have a6:(match V.state c.aY c.agg with|some B=>B.cells|none=>dX (d.at c.aY)).length=(d.at c.aY).length:=by
  unfold bg.state
  cases hs:aq V.eL (c.aY,c.agg)with
  |none=>simp[dX]
  |some s=>rw[<-j3];exact hV.st _ (cf hs)
 obtain⟨c4,t0,t1,o7⟩:=MM j0 e8 a6;obtain⟨C,e9⟩:∃C:Nat,c.aY=C:=⟨c.aY.toNat,oM⟩
 have j4:d.at c.aY=d.types.getD C []:=by
  unfold aS.at;rw[Zx (bI.2 ⟨t0,oM⟩),e9,Qx]
 obtain⟨tb,pF,es,j5,o8,o2,j6,fa,fn,fc,rfl,b3⟩:=(hd.af b7).aY.el C d.types[C] sM;have b3:Row oU 48 m D fa fn (d.at c.aY):=by
  rw[j4];have:d.types.getD C []=d.types[C]:=by simp[QQ,show C<d.types.length by omega]
  rw[this];exact b3
 have o9:=(hd.af b7).aY.len;have c7:=j6 0 dC;have f2:ks.k=1:=rfl;rw[f2,Nat.mul_one]at c7;have j7:=L.get gd id;have f3:=L.get gc id;refine⟨_,_,_,ae j7 rfl,_,ae f3 rfl,tb,pF,j5,t0,oM,fa,fn,fc,by rw[e9,Qx];exact c7,PA.mk λw8 k8 s8 g8=>PS.mk g8 sM λw9 k9 s9 g9=>?_⟩;have Z:ai m w9:=k8.new k9 λP a=>.inr oM;have d3:=Z.get f3 id;have d4:cG w v Fv V:=⟨hV,b0,hq⟩
 refine⟨_,ae d3 rfl,_,ae d3 rfl,PC.ok (nx (d4.af (b7.then Z))) ?_⟩;rintro _ d5 ⟨ca,cn,cc,j8,rfl,f4,o3,M⟩;have b4:=Z.then M;have f5:=b7.then b4;have p0:=b4.size;obtain⟨E,hX⟩:∃E,E=(match V.state c.aY c.agg with|some B=>B.cells|none=>dX (d.at c.aY)):=⟨_,rfl⟩
 rw[<-hX]at c4 a6 A;refine⟨_,_,_,_,_,rfl,PA.mk λp1 j9 p2 k0=>PS.mk k0 sM λp3 l0 p4 l3=>PS.mk l3 sM λf6 l4 p5 g0=>?_⟩;have a5:ai d5 f6:=(j9.new l0 λP a=>.inr oM).new l4 λP a=>.inr oM;have l5:f6.heap[m.heap.size]? =some (.cells #[.slice fa fn fc] 130 (0,0)):=a5.get (M.get g9 id) id;have c8:=f4.af a5;refine⟨λw'=>ai d5 w'/\∃ca cn cc G,w'.heap[d5.heap.size]? =some (.cells #[ZH ((V.state c.aY c.agg).getD GS).version,.slice ca cn cc] 42 (0,0))/\Row fw 32 w' G ca cn E,?_,?_⟩
 ·refine al.not (al.mk (λl6=>⟨a5,ca,cn,cc,j8,g0,?_⟩) (λl7=>⟨_,_,_,ae l5 rfl,PC.ok (Hw (t:=d.at c.aY) rfl b3.len (by rw[b3.len];omega)) ?_⟩))
  ·obtain⟨B,hx⟩:=Option.isSome_iff_exists.1 l6
   rw[hx]at c8 hX;have b8:E=B.cells:=hX;rw[b8];exact c8.row dC (by show B.cells.length*32<=aO;rw[<-b8,a6];unfold aO;omega)
  ·rintro _ p6 ⟨b1,n6,c6,G6,rfl,l8,d6,l9⟩
   have p7:=d6.size;refine⟨_,_,_,rfl,PS.mk (d6.get g0 id) sM λp8 g4 p9 m0=>⟨(a5.then d6).new g4 λP a=>.inr oM,b1,n6,c6,G6,m0,?_⟩⟩;have hn:V.state c.aY c.agg=none:=by simpa using l7
   rw[hn]at hX;have b8:E=dX (d.at c.aY):=hX;rw[b8];exact(l8.keep g4 λP a l=>by have:=l9 P a;omega).row dC (by unfold aO dX;simp;omega)
 rintro _ m1 ⟨m2,q0,q1,q2,G2,h3,h5⟩;refine PA.mk λh8 d7 q3 m3=>?_;have F:=m2.then d7;have m4:=F.size;have c9:=f5.then F;have h9:=d7.get h3 id;have i0:=F.get (M.get d3 id) id;have i1:=F.get (M.get g9 id) id;have i2:=(((L.then Z).then M).then F).get g3 id;have n:∀{z:World} {no:Int},ai h8 z->lD d S V origin start c=(rC,false,no)->yo ZP 55 (ZL w2.heap.size) (jS rC none 0 0) z λt=>oW ZP 55 (ZL w2.heap.size) t λr=>Ok (vE w (lD d S V origin start c)) (.returned (.tuple #[r,.bool false,ZH no])) t:=λ{z no} h4 R=>y (((L.then Z).then M).then (F.then h4)) R;refine⟨λa9 c5 w'=>∃H:Nat,c5=H/\H<=2/\a9=2-H/\ai h8 w'/\(1<=H->c.expect= -1\/c.expect=((V.state c.aY c.agg).getD ⟨0,[]⟩).version)/\(2<=H->vX (d.at c.aY) E c.field c.op c.arg=0),⟨_,0,rfl,oM,rfl,aj.refl _,λh=>oM,λh=>oM⟩,?_⟩;rintro a9 _ _ I ⟨H,rfl,hj,rfl,j,d8,m5⟩;have d0:=j.get h9 id;have a0:=j.get i0 id;have i3:=j.get i1 id;have d1:=j.get m3 id;refine al.dec (λq4=>⟨m1.heap.size,0,rfl,oM,oM,?_⟩) (λq5=>?_)
 ·have m6:H=0\/H=1:=oM
  rcases m6 with rfl|rfl
  ·refine⟨_,ae d1 rfl,_,_,_,rfl,kR,PC.ok (φ:=λv w'=>v= ZH (if c.expect= -1\/c.expect=((V.state c.aY c.agg).getD ⟨0,[]⟩).version then 0 else 11)/\I=w') (ux ⟨_,ae a0 rfl,al.eD (λh1=>Ok.mk ⟨by rw[Zx (.inl h1)],rfl⟩) (λh1=>⟨_,ae a0 rfl,_,ae d0 rfl,al.eD (λh2=>Ok.mk ⟨by rw[Zx (.inr h2)],rfl⟩) (λh2=>Ok.mk ⟨by rw[Zq (by rintro(h|h);exact h1 h;exact h2 h)],rfl⟩)⟩)⟩) ?_⟩
   rintro _ _ ⟨rfl,rfl⟩
   by_cases hx:c.expect= -1\/c.expect=((V.state c.aY c.agg).getD ⟨0,[]⟩).version
   ·rw[Zx hx]
    exact⟨_,rfl,al.ff rfl ⟨_,oM,1,rfl,oM,rfl,j,λ_=>hx,λh=>oM⟩⟩
   ·rw[Zq hx]
    exact⟨_,rfl,al.tt rfl (n j (A (by rw[Zx hx])))⟩
  ·refine⟨_,ae d1 rfl,_,_,_,rfl,kR,PC.ok (φ:=λv w'=>v= ZH (vX (d.at c.aY) E c.field c.op c.arg)/\ai I w') (uy ⟨_,_,_,ae i3 rfl,_,_,_,ae d0 rfl,_,ae a0 rfl,_,ae a0 rfl,_,ae a0 rfl,PC.ok (Hv c4 ((b3.af (b4.then F)).af j) ((h5.af d7).af j)) ?_⟩) ?_⟩
   ·rintro _ m7 ⟨rfl,b9⟩
    exact⟨_,rfl,Ok.mk ⟨rfl,b9⟩⟩
   ·rintro _ m7 ⟨rfl,b9⟩
    refine⟨_,rfl,al.dV (λU=>n (j.then b9) (A ?_)) (λh0=>⟨_,oM,2,rfl,oM,rfl,j.then b9,λ_=>d8 oM,λ_=>h0⟩)⟩;have m8:vX (d.at c.aY) E c.field c.op c.arg=10:=by
     rw[Fc]at U⊢;split at U
     ·simp at U
     ·rename_i hq;rw[Zq hq]
    rw[Zq (λh=>h (d8 oM)),Zx U,m8]
 have i4:=A (r:=((aZ c origin S.vec (max S.top start)).2,decide ((aZ c origin S.vec (max S.top start)).1=0),(aZ c origin S.vec (max S.top start)).1)) (by rw[Zq (λh=>h (d8 oM)),Zq (by rw[m5 oM];simp)]);have J:(if start>S.top then start else S.top)=max S.top start:=by split<;>omega
 have c0:(if start>S.top then start else S.top)<=9223372036854775807:=by split<;>omega
 refine⟨λeb eo no w'=>eo=0/\no=(aZ c origin S.vec (max S.top start)).1/\ai I w'/\∃a2 a3 a7 G,w'.heap[eb]? =some (.cells (aD (aZ c origin S.vec (max S.top start)).2 a2 a3 a7).toArray 55 (0,0))/\Row aM 8 w' G a2 a3 (aZ c origin S.vec (max S.top start)).2.aJ/\∀P,G P->I.heap.size<=P/\P<w'.heap.size,?_,?_⟩
 rotate_left
 ·rintro eb _ no _ q6 ⟨rfl,rfl,d9,b,e,f,p,ge,u,g⟩
  have i5:=d9.get (j.get i2 id) id;have zk:=j.size;have q7:=d9.size;have zw:=q.size;refine ar (bf _ b e f) ge (aC (bf _ b e f) i5 rfl λq8 i6 q9 m9=>ar (bf _ b e f) m9 (Ok.mk ⟨b,e,f,p,?_,?_,λP a=>?_,?_⟩))
  ·rw[i4];rfl
  ·rw[i4];exact u.keep i6 λP a l=>by have:=g P a;omega
  ·have:=g P a;omega
  ·exact(((c9.then j).then d9)).new i6 λP a=>.inr oM
 ·intro N i7
  have e0:ai I N:=i7.keep;have r0:N.heap.size=I.heap.size:=by rw[i7.heap]
  have i8:=e0.get a0 id;have a4:=hs.af ((c9.then j).then e0);have zk:=j.size;have hn:=hs.1.n;have c1:S.vec.length<=20000000:=by rw[S.b_];omega
  have c2:S.vec.length*8<=aO:=by unfold aO;omega
  have x:∀{wE w6 m:World} {a1:Nat} {b:YQ} {e f:Nat} {p:ZN},ai N wE->Row aM 8 wE p b e (aZ c origin S.vec (max S.top start)).2.aJ->(∀P,p P->N.heap.size<=P/\P<wE.heap.size/\P≠a1)->ai wE w6->N.heap.size<=a1->aj (λP=>P=a1) w6 m->m.heap.size=w6.heap.size->m.heap[a1]? =some (.cells (aD (aZ c origin S.vec (max S.top start)).2 b e f).toArray 55 (0,0))->
    (λ(eb eo:Nat) (no:Int) (w':World)=>eo=0/\no=(aZ c origin S.vec (max S.top start)).1/\ai I w'/\∃a2 a3 a7 G,w'.heap[eb]? =some (.cells (aD (aZ c origin S.vec (max S.top start)).2 a2 a3 a7).toArray 55 (0,0))/\Row aM 8 w' G a2 a3 (aZ c origin S.vec (max S.top start)).2.aJ/\∀P,G P->I.heap.size<=P/\P<w'.heap.size) a1 0 (aZ c origin S.vec (max S.top start)).1 m:=λ{wE w6 m a1 b e f p} hE hr hG h6 hg h7 r3 n0=>by
   have z6:=h6.size;exact⟨rfl,rfl,((e0.then hE).then h6).new h7 λP a=>.inr oM,b,e,f,p,n0,(hr.af h6).keep h7 λP a l=>(hG P a).2.2 l,λP a=>by have:=hG P a;omega⟩
  have zc:¬(N.heap.size<=w1.heap.size):=by
   have h1:=((((k3.then L).then Z).then M).then F).size;omega
  refine⟨λP=>N.heap.size<=P,zc,ar (DF c) i8 ⟨PC.ok (lx a4) ?_,PA.mk λr4 c3 r5 n1=>⟨ai.keep c3,PC.ok (lx (a4.af c3)) ?_⟩⟩⟩
  ·rintro _ n2 ⟨av,nv,cv,a8,rfl,b5,k,n3⟩
   have n4:=k.size;refine⟨_,_,_,rfl,ai.keep k,PC.ok (GP (a4.af k)) ?_,PA.mk λn8 K n9 e1=>⟨ai.keep K,PC.ok (GP ((a4.af k).af K)) ?_⟩⟩
   ·rintro _ _ ⟨rfl,rfl⟩
    refine⟨_,rfl,aj.refl _,?_,?_⟩
    ·rw[J]
     refine PC.ok (jk (b5.row dC c2) (by rw[<-J];exact c0) c1) ?_;rintro _ e2 ⟨b,e,f,p,rfl,u,g,i⟩;have e3:=i.size;exact cm (rA _ b e f) ⟨_,rfl,ai.keep i,PA.mk λr6 i9 r7 o0=>⟨ai.keep i9,aC (bf _ b e f) o0 rfl λe4 o O Q=>⟨o.mono λP _ l=>oM,x (k.then i) u (λP a=>⟨by have:=g P a;omega,(g P a).2,by have:=g P a;omega⟩) i9 oM o O Q⟩⟩⟩
    ·refine PA.mk λn8 K n9 e1=>⟨ai.keep K,?_⟩
     rw[J];refine PC.ok (jk ((b5.af K).row dC c2) (by rw[<-J];exact c0) c1) ?_;rintro _ e2 ⟨b,e,f,p,rfl,u,g,i⟩;have e3:=i.size;exact cm (rA _ b e f) ⟨_,rfl,ai.keep i,aC (bf _ b e f) (i.get e1 id) rfl λe4 o O Q=>⟨o.mono λP _ l=>oM,x ((k.then K).then i) u (λP a=>⟨by have:=g P a;omega,(g P a).2,by have:=g P a;omega⟩) (aj.refl _) oM o O Q⟩⟩
   ·rintro _ _ ⟨rfl,rfl⟩
    refine⟨_,rfl,aj.refl _,?_⟩;refine PC.ok (by rw[J];exact jk ((b5.af K).row dC c2) (by rw[<-J];exact c0) c1) ?_;rintro _ e2 ⟨b,e,f,p,rfl,u,g,i⟩;have e3:=i.size;exact cm (rA _ b e f) ⟨_,rfl,ai.keep i,aC (bf _ b e f) (i.get e1 id) rfl λe4 o O Q=>⟨o.mono λP _ l=>oM,x ((k.then K).then i) u (λP a=>⟨by have:=g P a;omega,(g P a).2,by have:=g P a;omega⟩) (aj.refl _) oM o O Q⟩⟩
  ·rintro _ n2 ⟨av,nv,cv,a8,rfl,b5,k,n3⟩
   have n4:=k.size;refine⟨_,_,_,rfl,ai.keep k,PC.ok (GP ((a4.af c3).af k)) ?_⟩;rintro _ _ ⟨rfl,rfl⟩;refine⟨_,rfl,aj.refl _,?_⟩;refine PC.ok (by rw[J];exact jk (b5.row dC c2) (by rw[<-J];exact c0) c1) ?_;rintro _ e2 ⟨b,e,f,p,rfl,u,g,i⟩;have e3:=i.size;exact cm (rA _ b e f) ⟨_,rfl,ai.keep i,aC (bf _ b e f) ((k.then i).get n1 id) rfl λe4 o O Q=>⟨o.mono λP _ l=>oM,x ((c3.then k).then i) u (λP a=>⟨by have:=g P a;omega,(g P a).2,by have:=g P a;omega⟩) (aj.refl _) oM o O Q⟩⟩
end
structure jE where
 ta:YQ
 tn:Nat
 tc:Nat
 pa:YQ
 pn:Nat
 pc:Nat
 dp:Nat
 lp:YQ
 sp:Nat
 bp:Nat
 wp:Nat
 tp:Nat
abbrev jE.cells(P:jE)(a:cN)(b:Int):Array Value:= #[ZH a.bW,ZH a.tO,ZH a.bl,ZH a.chunk,ZH a.buffer,ZH a.df,ZH a.every,ZH a.start,.slice P.ta P.tn P.tc,.slice P.pa P.pn P.pc,ZH b,
 ZL P.dp,.pointer P.lp,ZL P.sp,ZL P.bp,ZL P.wp,ZL P.tp]
def DL(c:World)(G:ZN)(d:Nat)(e:YQ)(D:ak)(a:Option dw):Prop:=
 ∃b,aV c d b D/\(∀P,b P->G P)/\match a with
  |none=>e=none
  |some f=>f.bd≠[]/\∃g h,e=some ⟨g,0,none⟩/\iP c d g h f/\∀P,h P->G P/\¬b P
def NI(c:World)(G:ZN)(d:Nat)(P:Nat)(e:List ah):Prop:=∃b D,gN c d b D P e/\(∀a,b a->G a)/\∀a,D a->G a
def lu(d:Nat)(e:Array Value)(a:jE)(c:cN)(b:bM)(f:List ah):Nat->World->(ZN)->Prop
 |0=>λP G=>G d/\P.heap[d]? =some (.cells e 99 (0,0))
 |1=>λP G=>bj P G c.decl a.ta a.tn a.pa a.pn
 |2=>λP G=>DL P G a.dp a.lp b.D b.log
 |3=>λP G=>cJ P a.sp G b.S/\b.S.Cl/\b.S.n=c.bW.toNat
 |4=>λP G=>dj P a.bp G c.decl c.every.toNat f
 |5=>λP G=>NI P G a.wp c.buffer.toNat b.waits
 |6=>λP G=>ei P a.tp G b.fV
 |_=>λ_ _=>True
variable{B:List ah}{b0:dw}
section
variable {w w' w0:World} {p:Nat} {F G T:ZN} {cls:Nat->Nat} {h:jE} {c:cN} {self:Int} {X:bM} {dp:Nat} {lp:YQ} {D:ak} {log:Option dw}
def DL.keep(h:DL w G dp lp D log)(b:aj T w w')(c:∀P,G P->¬T P):DL w' G dp lp D log:=by
 obtain⟨g,i,d,e⟩:=h;refine⟨g,i.keep b λP a=>c P (d P a),d,?_⟩
 cases log with
 |none=>exact e
 |some o=>
  obtain⟨j,k,l,m,n,f⟩:=e;exact⟨j,k,l,m,n.keep b λP a=>c P (f P a).1,f⟩
def bT{i:Array Value}:tZ (lu p i h c X B):=by
 intro k w w' G T P b a
 match k,P with
 |0,P=>exact⟨P.1,b.get P.2 (a p P.1)⟩
 |1,P=>exact bj.keep P b a
 |2,P=>exact DL.keep P b a
 |3,P=>exact⟨cJ.keep P.1 b a,P.2⟩
 |4,P=>exact dj.keep P b a
 |5,P=>obtain⟨j,D,l,f,g⟩:=P;exact⟨j,D,l.keep b (λd e=>a d (f d e)) λd e=>a d (g d e),f,g⟩
 |6,P=>exact ei.keep P b a
 |k+7,P=>trivial
structure nh (c:cN) (me:Int):Prop where
 right:jR c me=true
 decl:dy c.decl=0
 Yb:aN c.bl
 every:aN c.every
 start:aN c.start
structure Env (w0 w:World) (F:ZN):Prop where
 nH:eX w0
 laid:Laid w0
 gr:ai w0 w
 aE:∀b,F b->w0.heap.size<=b
def Env.Cn(h:Env w0 w F)(b:cQ F w f w'):Env w0 w' f:=⟨h.nH,h.laid,h.gr.new b.keep λP a=>.inr (h.aE P a),λP a=>(b.new P a).elim (h.aE P) λc=>by have:=h.gr.size;omega⟩
def Env.af(h:Env w0 w F)(P:ai w w'):Env w0 w' F:=⟨h.nH,h.laid,h.gr.then P,h.aE⟩
abbrev cP(w:World)(F:ZN)(cls:Nat->Nat)(p:Nat)(h:jE)(c:cN)(self:Int)(X:bM):Prop:=bK w F cls (lu p (h.cells c self) h c X X.S.l)
def bN(w:World)(p:Nat)(F:ZN)(c:cN)(self:Int)(X:bM):Prop:=nh c self/\∃h cls,cP w F cls p h c self X
def cP.af(P:cP w F cls p h c self X)(a:ai w w'):cP w' F cls p h c self X:=bK.af P bT a
def cP.bw(P:cP w F cls p h c self X):w.heap[p]? =some (.cells (h.cells c self) 99 (0,0)):=(P.at' 0).2
def cP.IM(P:cP w F cls p h c self X):F p/\cls p=0:=(P.at' 0).1
def bN.keep(a:bN w p F c self X)(b:aj T w w')(d:∀P,F P->¬T P):bN w' p F c self X:=by
 obtain⟨e,h,cls,f⟩:=a;exact⟨e,h,cls,bK.keep f bT b d⟩
def bN.af(P:bN w p F c self X)(a:ai w w'):bN w' p F c self X:=P.keep a λ_ _ h=>h
def bN.aE(a:bN w p F c self X):∀P,F P->P<w.heap.size:=by obtain⟨d,h,cls,b⟩:=a;exact b.aE
def cP.store{f b:Array Value}{d:jE}(P:bK w F cls (lu p f d c X B))(g:aj (·=p) w w')(h:w'.heap[p]? =some (.cells b 99 (0,0))):bK w' F cls (lu p b d c X B):=by
 refine bK.same P bT (k:=0) (g.mono λi _ a=>by have a:i=p:=a;exact a▸(P.at' 0).1) ⟨(P.at' 0).1,h⟩ λe G j k=>?_;rcases e with _|_|_|_|_|_|_|e<;>first|exact k|exact Zz rfl j
def DL.Of(h:DL w G dp lp D (some b0))(d:Env w0 w G)(m:∀P,G P->P<w.heap.size):∃c,lp=ZM c/\b0.bd≠[]/\cE w0 w dp c b0 D (λP=>P<w.heap.size/\¬G P):=by
 obtain⟨i,j,f,k,c,l,rfl,g,e⟩:=h;refine⟨c,rfl,k,l,⟨i,j,d.gr,λP a=>⟨d.aE P (f P a),λb=>?_⟩,λP a=>?_⟩,g,λP a=>⟨d.aE P (e P a).1,λb=>b.2 (e P a).1⟩⟩
 ·rcases b with b|b
  ·exact b.2 (f P a)
  ·exact(e P b).2 a
 ·rcases a with a|a
  ·exact a.1
  ·exact g.aE P a
def DL.tO(d:DL w G dp lp D log)(b:Env w0 w G):a_ w0 w dp D (λP=>P<w.heap.size/\¬G P):=by
 obtain⟨e,f,c,-⟩:=d;exact⟨e,f,b.gr,λP a=>⟨b.aE P (c P a),λg=>g.2 (c P a)⟩,λP a=>a.1⟩
def DL.Gy{Y:ZN}(m:cE w0 w' dp a b0 D (λP=>(P<w.heap.size/\¬G P)\/Y P))(n:aj (dS λP=>P<w.heap.size/\¬G P) w w')(o:b0.bd≠[]):∃d,DL w' d dp (ZM a) D (some b0)/\cQ G w d w'/\(∀P,d P->P<w'.heap.size)/\∀P,d P->¬Y P:=by
 obtain⟨g,⟨h,i,r,e,s⟩,j,k⟩:=m;have f:∀P,¬(P<w.heap.size/\¬G P)->G P\/w.heap.size<=P:=λP b=>by
  rcases Nat.lt_or_ge P w.heap.size with c|c
  ·exact .inl (Classical.byContradiction λp=>b ⟨c,p⟩)
  ·exact .inr c
 refine⟨λP=>h P\/g P,⟨h,i,λP b=>.inl b,o,a,g,rfl,j,λP b=>⟨.inr b,λq=>(e P q).2 (.inr b)⟩⟩,⟨n.mono λP t b=>(f P b).resolve_right oM,λP b=>?_⟩,λP b=>?_,λP b l=>?_⟩
 ·rcases b with b|b
  ·exact f P λc=>(e P b).2 (.inl (.inl c))
  ·exact f P λc=>(k P b).2 (.inl c)
 ·exact b.elim (i.aE P) (j.aE P)
 ·rcases b with b|b
  ·exact(e P b).2 (.inl (.inr l))
  ·exact(k P b).2 (.inr l)
def DL.MC{Y:ZN}(h:a_ w0 w' dp D (λP=>(P<w.heap.size/\¬G P)\/Y P))(i:aj (dS λP=>P<w.heap.size/\¬G P) w w'):∃c,DL w' c dp none D none/\cQ G w c w'/\(∀P,c P->P<w'.heap.size)/\∀P,c P->¬Y P:=by
 obtain⟨d,e,l,f,m⟩:=h;have g:∀P,¬(P<w.heap.size/\¬G P)->G P\/w.heap.size<=P:=λP a=>by
  rcases Nat.lt_or_ge P w.heap.size with b|b
  ·exact .inl (Classical.byContradiction λj=>a ⟨b,j⟩)
  ·exact .inr b
 exact⟨d,⟨d,e,λP a=>a,rfl⟩,⟨i.mono λP n a=>(g P a).resolve_right oM,λP a=>g P λb=>(f P a).2 (.inl b)⟩,λP a=>e.aE P a,λP a k=>(f P a).2 (.inr k)⟩
end
def IW{D:ak}(a:b0.bd≠[]):(aK b0 D).2.1.bd≠[]:=by
 have c:∀P:ak,(mj b0 P).2.1.bd≠[]:=by
  intro P;unfold mj;dsimp only;split
  ·exact a
  ·split
   ·exact a
   ·simp
 have b:∀P:ak,(bA b0 P).2.1.bd≠[]:=by
  intro P;unfold bA;dsimp only;split
  ·exact a
  ·exact c _
 unfold aK;dsimp only;split
 ·exact b D
 ·split
  ·exact a
  ·exact b _
def GC{D:ak}{l:List ah}(P:b0.bd≠[]):(aF b0 D l).2.1.bd≠[]:=by
 unfold aF;dsimp only;have a:(if b0.size<=b0.bytes then aK b0 D else(0,b0,D)).2.1.bd≠[]:=by
  split
  ·exact IW P
  ·exact P
 generalize(if b0.size<=b0.bytes then aK b0 D else(0,b0,D))=b at a⊢;split
 ·exact P
 split
 ·exact P
 split
 ·exact a
 split
 ·exact a
 ·exact a
def Lq(e:Row ia 96 b f d a B):∀P∈B,P.Ok:=λP g=>by
 obtain⟨c,h,rfl⟩:=List.getElem_of_mem g;obtain⟨j,k,l,-,-,-,-,m,n,o,-,-,i⟩:=e.el c B[c] (Qq h);exact i
def au.IX:∀{l:List ah} {S:au} {P:ah},P∈S.l->P∈(S.eE l).l
 |[],S,P,a=>a
 |e::l,S,P,a=>au.IX (l:=l) (S:=(S.add e).2) (by
  rcases S.gP e with⟨-,b⟩|⟨c,-⟩
  ·rw[b];exact a
  ·rw[c];exact(cT e S.l).mem_iff.2 (QJ _ a))
variable{J:Bool}{O:Int}{a3 e5:List PanicEntry->ZU}{c2:List bu}{M:Prop}{g n:TypeId}{m t:ZR}{K l:ah}{E:au}
def vi{P:cN}(b:E.Cl)(c:E.n=P.bW.toNat)(a:List ah):eQ P E a=E.eE a:=by
 unfold eQ;rw[au.Ag,<-c,b.TX]
section
variable {w w' w0:World} {p:Nat} {F E T:ZN} {cls:Nat->Nat} {h:jE} {c:cN} {self:Int} {X:bM} {evs:List ah} {ea:YQ} {en ec:Nat}
def nh.bW(P:nh c self):c.bW=(c.bW.toNat:Int)/\c.bW.toNat<=64/\1<=c.bW.toNat:=by
 have:=P.right;unfold jR within at this;simp only[QK,Zk]at this;omega
def IY(s:cP w F cls p h c self X)(b0:nh c self)(hr:Row ia 96 w E ea en evs)(t:∀P,E P->P<w.heap.size)(hl:X.S.l.length+evs.length<=20000000):
  YX 93 #[ZL p,.slice ea en ec] w (Ok λa0 w'=>∃L d,a0= ZL L/\cJ w' L d (eQ c X.S evs)/\(∀P,d P->w.heap.size<=P)/\ai w w'):=by
 obtain⟨b1,b2,c5⟩:=b0.bW;have fy:=(s.at' 3).1;refine nT ⟨p,0,rfl,_,ae s.bw rfl,?_⟩;rw[b1];refine PC.ok (EX b2) ?_;rintro _ w7 ⟨u,k,rfl,M,v,l⟩;have g:=cP.af s l;refine⟨_,rfl,p,0,rfl,_,ae g.bw rfl,PC.ok (qW (fy.af l) oM) ?_⟩;rintro _ c6 ⟨a2,x,c1,G,rfl,i,y,m⟩;have N:=M.aE;have c7:=i.aE;have z7:=l.size;have c8:=y.size;have O:=l.then y;refine⟨_,_,_,rfl,zr i G_ (hr.af O) (λP a=>⟨by have:=t P a;omega,λz=>by have:=t P a;have:=m P (i.self P z);omega⟩) ba (by unfold maxLen;omega) λa' c' n Q A B b3 _=>⟨_,_,_,rfl,?_⟩⟩;have b4:=A.len dC;have c9:=B.size;rw[QX]at b4;have a3:Row ia 96 n Q a' (x+en) (X.S.l++evs):=A.row dC (by rw[QX];unfold aO;omega);have R:=A.aE;have S:∀P,Q P->¬k P:=λP a o=>by
  have e:=v P o;have h6:=N P o;rcases b3 P a with g|g|g
  ·have:=m P g;omega
  ·have:=t P g;omega
  ·omega
 have a4:ai w n:=O.new B λP a=>.inr (by have:=m P (i.self P a);omega);have a5:=(M.af y).keep B λP a z=>by have:=N P a;have:=m P (i.self P z);omega
 refine⟨λT C w'=>∃(b:Nat) (d:ZN),C=b/\b<=x+en/\T=x+en-b/\cJ w' u d ((⟨c.bW.toNat,[]⟩:au).eE ((X.S.l++evs).take b))/\(∀P,d P->k P\/n.heap.size<=P)/\aj k n w',⟨_,0,k,rfl,Qj _,rfl,a5,λP a=>.inl a,aj.refl _⟩,?_⟩;rintro T _ _ U ⟨b,d,rfl,hj,rfl,H,q,r⟩;have d0:=r.size;refine al.dec (λd1=>?_) (λd2=>?_)
 ·obtain⟨f,V⟩:∃f,(X.S.l++evs)[b]? =some f:=⟨_,Qq (by rw[QX];omega)⟩
  obtain⟨P,a1,es,ha,d3,d4,b5,I,J,K,rfl,b6,a7⟩:=(a3.keep r S).el b f V;refine⟨P,a1,ha,oM,oM,bB (es:=aD f I J K) (k:=10) (bf _ _ _ _) rfl (λC ht=>by rw[Qx];exact b5 C ht) (PA.mk λd5 b7 d6 b8=>aC (bf f I J K) b8 rfl λb9 c0 d7 c2=>ar (bf f I J K) c2 ?_)⟩;have j:ai U b9:=b7.new c0 λP a=>.inr (by have a:P=U.heap.size:=a;omega);have W:=au.mC ((X.S.l++evs).take b) ⟨c.bW.toNat,[]⟩;rw[Qy,QX]at W;simp only[ZQ]at W;refine PC.ok (uf (H.af j) (b6.af j) (λP a=>⟨by have:=R P a;have:=j.size;omega,λo=>?_⟩) a7 oM) ?_
  ·rcases q P o with e|e
   ·exact S P a e
   ·have:=R P a;omega
  rintro _ c3 ⟨rfl,Y,c4,Z⟩;refine⟨_,rfl,_,oM,b+1,Y,an oM,oM,rfl,?_,λP a=>?_,(r.af j).new Z.keep λP a=>q P a⟩
  ·rw[Qw,V]
   show cJ c3 u Y (au.eE _ ((X.S.l++evs).take b++[f]));rw[au.qX];exact c4
  ·rcases Z.new P a with e|e
   ·exact q P e
   ·have:=j.size;exact .inr oM
 ·rw[Qz (by rw[QX];omega)]at H
  exact Ok.mk ⟨u,d,rfl,H,λP a=>(q P a).elim (v P) λe=>oM,a4.new r λP a=>.inr (v P a)⟩
end
section
variable {w w' w0:World} {p:Nat} {F E T:ZN} {cls:Nat->Nat} {h:jE} {c:cN} {self:Int} {X:bM} {evs lB:List ah} {ea:YQ} {en ec:Nat}
def Env.sub(a:Env w0 w F)(b:∀P,f P->F P):Env w0 w f:=⟨a.nH,a.laid,a.gr,λP c=>a.aE P (b P c)⟩
def QO{P:au}(a:P.OK)(c:l∈P.l)(d:K∈P.l)(e:aX l=aX K):l=K:=by
 have b:=a.get c;have f:=a.get d;rw[e,f]at b;exact(XJ b).symm
def BT(v:bK w F cls (lu p (h.cells c self) h c X lB))(l:Env w0 w F)(R:∀(x:Nat) (m n:ah),lB[x]? =some m->X.S.l[x]? =some n->aX m=aX n->m=n)(y:X.S.l.length<=20000000){κ:ZR}(o:∀w' g a,cP w' g a p h c self X->cQ F w g w'->κ (ZH 0) w'):
  ∀oT,bX w oT->∃q:ZN,(∃r z,(ZM p:YQ)=some ⟨r,z,none⟩/\(¬q r/\(∃(A:YQ),oT.cell? ⟨r,z+14,none⟩=some (.pointer A)/\(∃B C,(ZM p:YQ)=some ⟨B,C,none⟩/\(∃(E:YQ),oT.cell? ⟨B,C+13,none⟩=some (.pointer E)/\
   PC ZP 41 #[.pointer E] oT (λS d=>∃(H:YQ) (I:Nat) (J:Nat),S= .slice H I J/\(aj q oT d/\PC ZP 76 #[.pointer A,.slice H I J] d (λT i=>∃(U:Int),T= ZH U/\(aj q d i/\κ (ZH 0) i)) a3)) e5))))):=by
 intro oT V;have s:ai w oT:=V.keep;have j:=bK.af v bT s;have K:=(j.at' 0).2;refine⟨λP=>F P/\cls P=4,p,0,rfl,λW=>?_,_,ae K rfl,p,0,rfl,_,ae K rfl,PC.ok (qW (show cJ oT h.sp (λP=>F P/\cls P=3) X.S from(j.at' 3).1) y) ?_⟩
 ·have:=W.2
  have Y:=(show(F p/\cls p=0)/\_ from v.at' 0).1.2;rw[Y]at this;cases this
 rintro _ d ⟨a1,a2,cc,G,rfl,t,f,Z⟩;have b5:=f.size;have a6:=j.aE;have L:=bK.af j bT f;have a8:=t.lM;have a0:dj d h.bp (λP=>F P/\cls P=4) c.decl c.every.toNat lB:=L.at' 4;refine⟨_,_,_,rfl,ai.keep f,PC.ok (Hd a0 l.nH ((l.gr.then s).then f) (λP e=>l.aE P e.1) (t.row dC ba) a8 (λP e=>⟨t.aE P e,λhf=>by have:=a6 P hf.1;have:=Z P e;omega⟩) y R) ?_⟩;rintro _ i ⟨k,rfl,G4,M,N⟩;obtain⟨g,a,u,b,-,-⟩:=L.Cn bT (k:=4) (G':=G4) (C2:=lu p (h.cells c self) h c X X.S.l) N M.aE M λO G hj hc=>by
  rcases O with _|_|_|_|_|_|_|O<;>first|exact hc|exact Zz rfl hj
 have Q:ai w d:=s.then f;exact⟨_,rfl,N.keep,o i g a u ⟨(ai.keep Q).then b.keep,λP e=>(b.new P e).imp id λh1=>by have:=Q.size;omega⟩⟩
def IN(x:cP w F cls p h c self X)(c1:nh c self)(y:Env w0 w F){V:dw}(b3:X.log=some V)(Y:Row ia 96 w E ea en evs)(Z:∀a,E a->a<w.heap.size/\¬(F a/\cls a=2))(hl:X.S.l.length+evs.length<=20000000):
  YX 43 #[ZL p,.slice ea en ec] w (Ok λz w'=>z= ZH (dt c X evs).1/\∃A r e,cP w' r e p A c self (dt c X evs).2/\cQ F w r w'/\A.wp=h.wp):=by
 obtain⟨d,D,c2,P,j⟩:=X;simp only at b3 hl;subst b3;obtain⟨hS,B,hn⟩:=(show cJ w h.sp (λa=>F a/\cls a=3) d/\d.Cl/\d.n=c.bW.toNat from x.at' 3)
 have c3:=x.aE;obtain⟨e1,C,H,a0⟩:=DL.Of (show DL w (λa=>F a/\cls a=2) h.dp h.lp D (some V)from x.at' 2) (y.sub λa b=>b.1) λa b=>c3 a b.1;have c4:=Lq Y;have a2:∀a,E a->a<w.heap.size:=λa b=>(Z a b).1;refine nP ⟨p,0,rfl,_,ae x.bw rfl,?_⟩;rw[C];refine PC.ok (KX y.laid a0 H Y a2 oM) ?_;rintro _ w7 ⟨rfl,a1,k7⟩;have I:=GC (D:=D) (l:=evs) H;have s:∀{a3},(if(aF V D evs).1≠0 then((aF V D evs).1,({S:=d,D:=(aF V D evs).2.2,log:=some (aF V D evs).2.1,waits:=P,fV:=j}:bM))else
   if((aF V D evs).2.2.sync (aF V D evs).2.1.last).1≠0 then(((aF V D evs).2.2.sync (aF V D evs).2.1.last).1,{S:=d,D:=((aF V D evs).2.2.sync (aF V D evs).2.1.last).2,log:=some (aF V D evs).2.1,waits:=P,fV:=j})else
   (0,{S:=eQ c d evs,D:=((aF V D evs).2.2.sync (aF V D evs).2.1.last).2,log:=some (aF V D evs).2.1,waits:=P,fV:=j}))=a3->dt c ⟨d,D,some V,P,j⟩ evs=a3:=λ{a3} hq=>hq
 generalize e2:aF V D evs=ap at a1 I s;obtain⟨e3,t,D7⟩:=ap;simp only at a1 I s;obtain⟨G7,J,a4,a5,-⟩:=DL.Gy (Y:=λ_=>False) (a1.mono λa b=>b.elim id False.elim) k7 I;obtain⟨F7,l,K,f,-,-,c5⟩:=x.Cn bT (k:=2) (G':=G7) (C2:=lu p (h.cells c self) h c ⟨d,D7,some t,P,j⟩ d.l) a4 a5 (by rw[<-C]at J;exact J) λm G L M=>by
  rcases m with _|_|_|_|_|_|_|m<;>first|exact M|exact Zz rfl L
 refine⟨_,rfl,al.dV (λa6=>Ok.mk ?_) (λh0=>?_)⟩
 ·rw[s (Zx a6)]
  exact⟨rfl,h,F7,l,K,f,rfl⟩
 simp only at h0;have c6:=y.Cn f;obtain⟨q2,n,-,u⟩:=DL.Of (show DL w7 (λa=>F7 a/\l a=2) h.dp h.lp D7 (some t)from K.at' 2) (c6.sub λa b=>b.1) λa b=>K.aE a b.1;refine⟨p,0,rfl,_,ae (K.at' 0).2 rfl,?_⟩;rw[n];refine PC.ok (Iz y.laid u I) ?_;rintro _ b4 ⟨rfl,a7,c7⟩;generalize e4:D7.sync t.last=sy at a7 s;obtain⟨s1,S⟩:=sy;simp only at a7 s;obtain⟨a8,o,i,N,-⟩:=DL.Gy (Y:=λ_=>False) (a7.mono λa b=>b.elim id False.elim) c7 I;obtain⟨O,v,g,k,-,a9,T⟩:=K.Cn bT (k:=2) (G':=a8) (C2:=lu p (h.cells c self) h c ⟨d,S,some t,P,j⟩ d.l) i N (by rw[<-n]at o;exact o) λm G L M=>by
  rcases m with _|_|_|_|_|_|_|m<;>first|exact M|exact Zz rfl L
 have b0:=f.trans k;refine⟨_,rfl,al.dV (λa6=>Ok.mk ?_) (λh1=>?_)⟩
 ·rw[s ((Zq (by simpa using h0)).trans (Zx a6))]
  exact⟨rfl,h,O,v,g,b0,rfl⟩
 simp only at h1;have c8:=s ((Zq (by simpa using h0)).trans (Zq (by simpa using h1)));rw[c8];have c9:Row ia 96 b4 E ea en evs:=by
  refine(Y.keep a4.keep λa b=>(Z a b).2).keep i.keep λa b hf=>?_;rcases a4.new a (c5▸hf)with h5|h5
  ·exact(Z a b).2 h5
  ·have:=a2 a b;omega
 refine PC.ok (IY g c1 c9 (λa b=>by have:=a2 a b;have:=b0.keep.size;omega) hl) ?_;rintro _ d0 ⟨U,F2,rfl,b5,d1,d2⟩;have d3:(eQ c d evs).n=c.bW.toNat:=au.Pl _ _;have b1:=vi B hn evs;have b6:(eQ c d evs).Cl:=by rw[b1];exact au.Cl.eE B c4
 obtain⟨F3,Q,b7,q,d4,-⟩:=g.eV bT (k:=3) (w':=d0) (G':=F2) (C2:=lu p (h.cells c self) {h with sp:=U} c ⟨eQ c d evs,S,some t,P,j⟩ d.l) (ai.keep d2) (λa b=>.inr (d1 a b)) b5.aE ⟨b5,b6,d3⟩ λm G L M=>by
  rcases m with _|_|_|_|_|_|_|m<;>first|exact M|exact Zz rfl L
 refine⟨_,rfl,p,0,rfl,PS.mk (b7.at' 0).2 sM λb8 b9 e5 d5=>?_⟩;have d6:bK b8 F3 Q (lu p (({h with sp:=U}:jE).cells c self) {h with sp:=U} c ⟨eQ c d evs,S,some t,P,j⟩ d.l):=cP.store b7 b9 d5;have d7:cQ O b4 F3 b8:=⟨q.keep.then (b9.mono λa _ R=>by have R:a=p:=R;rw[R];exact(g.at' 0).1.1),q.new⟩
 have c0:=b0.trans d7;have d8:∀W∈d.l,W∈(eQ c d evs).l:=λW hx=>by rw[b1];exact au.IX hx
 have d9:(eQ c d evs).l.length<=20000000:=by rw[b1];exact Xx (au.mC _ _) hl
 exact BT d6 (y.Cn c0) (λe6 W e7 hx hy R=>QO b6.ok (d8 W (QZ hx)) (QZ hy) R) d9 (κ:=λz w'=>Ok (λz w'=>z= ZH 0/\∃A r e,cP w' r e p A c self ⟨eQ c d evs,S,some t,P,j⟩/\cQ F w r w'/\A.wp=h.wp) (.returned z) w')
  λw' r e b2 e0=>Ok.mk ⟨rfl,{h with sp:=U},r,e,b2,c0.trans e0,rfl⟩
end
def BR{D:ak}{size:Int}(P:(aT D size).no=0):(aT D size).V.bd≠[]:=by
 revert P
 unfold aT;generalize cO (told D) [] (dJ D size) D=c;unfold fM;split
 ·rename_i b;intro P;exact Zz P b
 split
 ·intro P;exact sF P
 rename_i a;split
 ·intro _;exact a
 ·intro _;exact a
abbrev xh(P:jE)(a:cN)(b:Int)(c d e:YQ):Array Value:= #[ZH a.bW,ZH a.tO,ZH a.bl,ZH a.chunk,ZH a.buffer,ZH a.df,ZH a.every,ZH a.start,.slice P.ta P.tn P.tc,.slice P.pa P.pn P.pc,ZH b,
 ZL P.dp,.pointer c,.pointer d,.pointer e,ZL P.wp,ZL P.tp]
def recC(d:Nat)(e:Array Value)(a:jE)(c:cN)(b:bM)(f:Bool):Nat->World->(ZN)->Prop
 |0=>λP G=>G d/\P.heap[d]? =some (.cells e 99 (0,0))
 |1=>λP G=>bj P G c.decl a.ta a.tn a.pa a.pn
 |2=>λP G=>DL P G a.dp a.lp b.D b.log
 |3=>λP G=>f=true->cJ P a.sp G b.S/\b.S.Cl/\b.S.n=c.bW.toNat
 |5=>λP G=>NI P G a.wp c.buffer.toNat b.waits
 |6=>λP G=>ei P a.tp G b.fV
 |_=>λ_ _=>True
section
variable {w w' w0:World} {p:Nat} {F E T:ZN} {cls:Nat->Nat} {h:jE} {c:cN} {self:Int} {X:bM} {evs lB:List ah} {ea:YQ} {en ec:Nat}
def gU{j:Array Value}:tZ (recC p j h c X J):=by
 intro k w w' G T P b a
 match k,P with
 |0,P=>exact⟨P.1,b.get P.2 (a p P.1)⟩
 |1,P=>exact bj.keep P b a
 |2,P=>exact DL.keep P b a
 |3,P=>exact λf=>⟨cJ.keep (P f).1 b a,(P f).2⟩
 |4,P=>trivial
 |5,P=>obtain⟨l,D,m,g,i⟩:=P;exact⟨l,D,m.keep b (λd e=>a d (g d e)) λd e=>a d (i d e),g,i⟩
 |6,P=>exact ei.keep P b a
 |k+7,P=>trivial
def xW{z1 z2 z3:YQ}(T:bK w F cls (recC p (xh h c self z1 z2 z3) h c X false))(L:nh c self)(A:Env w0 w F):
  YX 38 #[ZL p] w (Ok λB w'=>B= ZH (fq c X).1/\(fq c X).2.S.l.length<=16777216/\∃U q e,cP w' q e p U c self (fq c X).2/\cQ F w q w'):=by
 obtain⟨f6,d1,j4⟩:=L.bW;have g0:=T.aE;have V:F p/\cls p=0:=(T.at' 0).1;have i9:1<=c.every:=by
  have:=L.right;unfold jR at this;simp only[QK,Zk]at this;omega
 refine lk λw3 d3=>?_;have W:ai w w3:=d3.keep;have M:=bK.af T gU W;have N:=(M.at' 0).2;refine⟨λ_=>False,p,0,rfl,_,ae N rfl,p,0,rfl,id,_,_,_,_,_,_,ae N rfl,ae N rfl,p,0,rfl,id,_,ae N rfl,?_⟩;rw[f6];refine PC.ok (EX d1) ?_;rintro _ d2 ⟨f,F2,rfl,Y,d4,C⟩;have a9:=W.then C;have d5:=bK.af M gU C;refine⟨_,rfl,C,PC.ok (OV L.decl L.every ((A.nH.af A.gr).af a9) (show bj d2 (λP=>F P/\cls P=1) c.decl h.ta h.tn h.pa h.pn from d5.at' 1) λP a=>d5.aE P a.1) ?_⟩;rintro _ g1 ⟨i,F4,rfl,Z,d6,b7⟩;have y3:=W.size;have j5:=C.size;have j6:=b7.size;rw[show(max 1 c.every).toNat=c.every.toNat by congr 1;omega]at Z;have j0:=Y.aE;obtain⟨Fa,d7,E,b0,g2,-⟩:=M.Hc gU (k:=3) (w':=d2) (G':=F2) (C2:=recC p (xh h c self z1 z2 z3) {h with sp:=f} c {X with S:=⟨c.bW.toNat,[]⟩} true) (ai.keep C) (λP a m=>by have:=d4 P a;have:=g0 P m;omega) Y.aE (λ_=>⟨Y,au.Cl.new d1,rfl⟩) λb G j k=>by
  rcases b with _|_|_|_|_|_|_|b<;>first|exact k|exact Zz rfl j
 obtain⟨u,r,b8,b1,g4,-⟩:=E.Hc gU (k:=4) (w':=g1) (G':=F4) (C2:=lu p (xh h c self z1 z2 z3) {h with sp:=f,bp:=i} c {X with S:=⟨c.bW.toNat,[]⟩} []) (ai.keep b7) (λP a m=>by have:=d6 P a;have:=E.aE P m;omega) Z.aE Z λb G j k=>by
  rcases b with _|_|_|_|_|_|_|b<;>first|exact k|exact k rfl|exact Zz rfl j
 have e1:∀P,u P->F P\/w.heap.size<=P:=λP a=>by
  rcases g4 P a with l|l
  ·rcases g2 P l.1 with h6|h6
   ·exact .inl h6.1
   ·exact .inr (by have:=d4 P h6;omega)
  ·exact .inr (by have:=d6 P l;omega)
 refine⟨_,rfl,p,0,rfl,PS.mk (b8.at' 0).2 sM λj7 d8 j8 g5=>⟨p,0,rfl,PS.mk g5 sM λb9 d9 j9 g6=>λc0 g7=>?_⟩⟩;have j1:u p/\r p=0:=(b8.at' 0).1;have e0:ai b9 c0:=g7.keep;have g8:bK b9 u r (lu p (xh h c self z1 (ZM f) (ZM i)) {h with sp:=f,bp:=i} c {X with S:=⟨c.bW.toNat,[]⟩} []):=cP.store b8 (d8.then d9) g6;have b2:cQ F w u b9:=⟨((ai.keep a9).af b7).then ((d8.then d9).mono λP _ g=>by have g:P=p:=g;rw[g];exact V.1),e1⟩
 have H:=bK.af g8 bT e0;have O:cQ F w u c0:=⟨b2.keep.af e0,b2.new⟩
 have e4:=A.Cn O;have e2:=(H.at' 0).2;have g9:=DL.tO (show DL c0 (λP=>u P/\r P=2) h.dp h.lp X.D X.log from H.at' 2) (e4.sub λP a=>a.1);refine⟨p,0,rfl,_,ae e2 rfl,p,0,rfl,_,ae e2 rfl,PC.ok (HK A.laid g9) ?_⟩;have a0:∀{d},(if(aT X.D c.bl).no≠0 then((aT X.D c.bl).no,{X with D:=(aT X.D c.bl).D,log:=none,S:=⟨c.bW.toNat,[]⟩})
   else(0,{X with D:=(aT X.D c.bl).D,log:=some (aT X.D c.bl).V,S:=(⟨c.bW.toNat,[]⟩:au).eE (aT X.D c.bl).out}))=d->fq c X=d:=λ{d} hq=>hq
 have b3:=BR (D:=X.D) (size:=c.bl);generalize aT X.D c.bl=d at a0 b3;rintro _ h4 (⟨I,rfl,e8,c2⟩|⟨I,s,e9,a1,cc,G,rfl,c3,h7,c2,hG,hq,j2⟩)
 ·obtain⟨G2,c4,a2,c5,-⟩:=DL.MC (Y:=λ_=>False) (e8.mono λP a=>a.elim id False.elim) c2
  obtain⟨t,Q,v,a3,-,-⟩:=H.Cn bT (k:=2) (G':=G2) (C2:=lu p (xh h c self z1 (ZM f) (ZM i)) {h with sp:=f,bp:=i,lp:=none} c {X with S:=⟨c.bW.toNat,[]⟩,D:=d.D,log:=none} []) a2 c5 (by
    obtain⟨Fd,h1,h2,M⟩:=c4;exact⟨Fd,h1,h2,rfl⟩) λb G j k=>by
   rcases b with _|_|_|_|_|_|_|b<;>first|exact k|exact Zz rfl j
  refine⟨_,_,_,_,_,rfl,p,0,rfl,PS.mk (v.at' 0).2 sM λx y e3 c6=>al.dV (λ_=>Ok.mk ?_) (λh0=>Zz h0 I)⟩;rw[a0 (Zx I)];refine⟨rfl,Qj _,{h with sp:=f,bp:=i,lp:=none},t,Q,cP.store v y c6,?_⟩;have J:=O.trans a3;exact⟨J.keep.then (y.mono λP _ g=>by have g:P=p:=g;rw[g];exact V.1),J.new⟩
 ·obtain⟨G2,c4,a2,c5,hY⟩:=DL.Gy h7 c2 (b3 I)
  obtain⟨t,Q,v,a3,h8,-⟩:=H.Cn bT (k:=2) (G':=G2) (C2:=lu p (xh h c self z1 (ZM f) (ZM i)) {h with sp:=f,bp:=i,lp:=ZM s} c {X with S:=⟨c.bW.toNat,[]⟩,D:=d.D,log:=some d.V} []) a2 c5 c4 λb G j k=>by
   rcases b with _|_|_|_|_|_|_|b<;>first|exact k|exact Zz rfl j
  refine⟨_,_,_,_,_,rfl,p,0,rfl,PS.mk (v.at' 0).2 sM λx y e3 c6=>al.dV (λh0=>Zz rfl h0) (λ_=>?_)⟩;have f0:bK x t Q (lu p (({h with sp:=f,bp:=i,lp:=ZM s}:jE).cells c self) {h with sp:=f,bp:=i,lp:=ZM s} c {X with S:=⟨c.bW.toNat,[]⟩,D:=d.D,log:=some d.V} []):=cP.store v y c6;have J:=O.trans a3;have b4:cQ F w t x:=⟨J.keep.then (y.mono λP _ g=>by have g:P=p:=g;rw[g];exact V.1),J.new⟩
  have j3:=O.keep.size;have c7:∀P,G P->¬t P:=λP a m=>by
   rcases h8 P m with l|l
   ·have:=H.aE P l.1;have:=hG P a;omega
   ·exact hY P l a
  have h9:∀P,G P->P≠p:=λP a g=>c7 P a (g▸(v.at' 0).1.1);have b5:=c3.aE;have k0:=c3.len dC;have b6:Row ia 96 x G e9 a1 d.out:=qq.row (((c3.keep y λP a g=>h9 P a g)).row dC ba);have k1:x.heap.size=h4.heap.size:=e3;rw[a0 (Zq (by simpa using I))];have f9:=Lq b6;refine⟨λc1 a4 w'=>∃(b:Nat) (R:ZN) (e5:Nat->Nat),a4=b/\b<=a1/\c1=a1-b/\bK w' R e5 (lu p (({h with sp:=f,bp:=i,lp:=ZM s}:jE).cells c self) {h with sp:=f,bp:=i,lp:=ZM s} c {X with S:=(⟨c.bW.toNat,[]⟩:au).eE (d.out.take b),D:=d.D,log:=some d.V} [])/\cQ t x R w',
   ⟨_,0,t,Q,rfl,Qj _,rfl,f0,cQ.refl _ _⟩,?_⟩
  rintro c1 _ _ e6 ⟨b,R,e5,rfl,j,rfl,c8,z⟩;have i0:∀P,G P->¬R P:=λP a m=>by
   rcases z.new P m with l|l
   ·exact c7 P a l
   ·have:=b5 P a;omega
  have c9:=au.mC (d.out.take b) ⟨c.bW.toNat,[]⟩;rw[Qy]at c9;simp only[ZQ]at c9;refine al.dec (λk2=>?_) (λk4=>?_)
  ·obtain⟨n,S⟩:∃n,d.out[b]? =some n:=⟨_,Qq oM⟩
   obtain⟨P,f1,es,ha,k5,k6,i1,xa,xn,xc,rfl,i2,d0⟩:=(b6.keep z.keep c7).el b n S;refine⟨P,f1,ha,oM,oM,bB (es:=aD n xa xn xc) (k:=10) (bf _ _ _ _) rfl (λa4 ht=>by rw[Qx];exact i1 a4 ht) (PA.mk λk7 i3 k8 i4=>aC (bf n xa xn xc) i4 rfl λk9 i5 l0 i6=>λi7 e7=>?_)⟩;have K:ai e6 i7:=(i3.new i5 λP a=>.inr (by have a:P=e6.heap.size:=a;omega)).then e7.keep;have a5:=bK.af c8 bT K;have l3:=z.keep.size;obtain⟨f3,f4,f5⟩:=a5.at' 3;refine⟨p,0,rfl,_,ae (a5.at' 0).2 rfl,ar (bf n xa xn xc) ((e7.keep (S:=λ_=>False)).get i6 id) (PC.ok (uf f3 (i2.af K) (λP a=>⟨by have:=b5 P a;have:=K.size;omega,λm=>i0 P a m.1⟩) d0 (by show((⟨c.bW.toNat,[]⟩:au).eE (d.out.take b)).l.length<_;omega)) ?_)⟩;rintro _ l4 ⟨rfl,F8,f2,f7⟩;have i8:((⟨c.bW.toNat,[]⟩:au).eE (d.out.take (b+1)))=(((⟨c.bW.toNat,[]⟩:au).eE (d.out.take b)).add n).2:=by
    rw[Qw,S];exact au.qX ..
   obtain⟨F9,a6,a7,o,-⟩:=a5.Cn bT (k:=3) (G':=F8) (C2:=lu p (({h with sp:=f,bp:=i,lp:=ZM s}:jE).cells c self) {h with sp:=f,bp:=i,lp:=ZM s} c {X with S:=(⟨c.bW.toNat,[]⟩:au).eE (d.out.take (b+1)),D:=d.D,log:=some d.V} []) f7 f2.aE (by rw[i8];exact⟨f2,f4.add d0,(au.Tl _ _).trans f5⟩) λb G j k=>by
    rcases b with _|_|_|_|_|_|_|b<;>first|exact k|exact Zz rfl j
   exact⟨_,rfl,_,oM,b+1,F9,a6,an oM,oM,rfl,a7,z.trans ⟨(ai.keep K).then o.keep,λP a=>(o.new P a).imp id λh1=>by have:=K.size;omega⟩⟩
  ·rw[Qz oM]at c8 c9
   exact BT c8 (A.Cn (b4.trans z)) (λg3 n h3 S=>by simp at S) (by show((⟨c.bW.toNat,[]⟩:au).eE d.out).l.length<=_;omega) (κ:=λB w'=>Ok (λB w'=>B= ZH 0/\((⟨c.bW.toNat,[]⟩:au).eE d.out).l.length<=16777216/\∃U q e,cP w' q e p U c self {X with S:=(⟨c.bW.toNat,[]⟩:au).eE d.out,D:=d.D,log:=some d.V}/\cQ F w q w') (.returned B) w')
    λw' q e a8 f8=>Ok.mk ⟨rfl,oM,_,q,e,a8,(b4.trans z).trans f8⟩
end
structure tP where
 code:Int
 id:Int×Int
 st:lZ
 UG:List cR
 rows:List dR
 more:Bool
def ng(P:tP)(a:YQ)(b c:Nat)(d:YQ)(e f:Nat)(g:YQ)(h i:Nat):List Value:=
 [ZH P.code,ZH P.id.1,ZH P.id.2,ZH P.st.version,.slice a b c,.slice d e f,.slice g h i,.bool P.more]
def kY(P:tP)(a:YQ)(b c:Nat)(d:YQ)(e f:Nat)(g:YQ)(h i:Nat):iI ZP 46 (ng P a b c d e f g h i)=true:=kR
def iS(i:World)(P:tP)(j:Value)(a:World):Prop:=∃(c:YQ) (d k:Nat) (e:YQ) (f l:Nat) (g:YQ) (h m:Nat) (G:ZN),j= .agg (ng P c d k e f l g h m).toArray/\
 Row fw 32 a G c d P.st.cells/\Row yl 120 a G e f P.UG/\Row Hh 24 a G g h P.rows/\∀b,G b->i.heap.size<=b/\b<a.heap.size
abbrev oN(P:Int):tP:=⟨P,(0,0),⟨0,[]⟩,[],[],false⟩
abbrev MD(id:Int×Int):tP:=⟨0,id,⟨0,[]⟩,[],[],false⟩
structure lf.Ok (x:lf):Prop where
 aY:aN x.aY
 agg:aN x.agg
 field:aN x.field
 op:aN x.op
 arg:aN x.arg
 key:aN x.key
variable{e6:tP}
section
variable {w w' w0:World} {p:Nat} {F E T:ZN} {cls:Nat->Nat} {h:jE} {c:cN} {self:Int} {X:bM} {evs lB:List ah} {ea:YQ} {en ec:Nat}
def iS.plain(P:e6.st.cells=[])(a:e6.UG=[])(b:e6.rows=[]):iS w e6 (.agg (ng e6 none 0 0 none 0 0 none 0 0).toArray) w':=
 ⟨none,0,0,none,0,0,none,0,0,λ_=>False,rfl,by rw[P];exact ef _ _,by rw[a];exact ef _ _,by rw[b];exact ef _ _,λd c=>c.elim⟩
def row_one{a:jU j}{bytes b:Nat}{w:World}{P:Array Value}{f:j}{D:ZN}(h:w.heap[b]? =some (.cells P g C))(i:a.rep w D f P.toList)(k:bytes<=1000):Row a bytes w (λc=>c=b\/D c) (ZM b) 1 [f]:=by
 have o:=a.len i;refine⟨rfl,by unfold aO;omega,λd p e=>?_⟩;obtain rfl:d=0:=by
  rcases d with _|d
  ·rfl
  ·simp at e
 simp at e;subst e;refine⟨b,0,P.toList,rfl,aA h,.inl rfl,λl m=>?_,a.mono i λc k=>.inr k⟩;have n:l<P.size:=by rw[<-o]at m;simpa using m
 rw[ae h (v:=P[l]) (by simp[n])];simp[n]
def UH{c:au}(k:c.OK){M:Int}(f:0<=M)(g:∀P∈c.l,P.aB<=M):c.top<=M:=by
 have:∀(b:List ah) (a:Int),a<=M->(∀P∈b,P.aB<=M)->b.foldl (λa P=>max a P.aB) a<=M:=by
  intro b
  induction b with
  |nil=>intro a d _;exact d
  |cons P b h=>
   intro a d e;refine h _ ?_ λi j=>e i (QJ _ j);have:=e P (QV ..);show max a P.aB<=M;omega
 exact this c.l 0 f g
def Lr[Decidable M]{P a:ah×Bool×Int}(b:P.1.Ok)(c:a.1.Ok):(if M then P else a).1.Ok:=by
 split
 ·exact b
 ·exact c
def IZ(P:c9.Ok)(d:aN e)(g:aN q)(a:∀f∈s,aN f):(aZ c9 e s q).2.Ok:=by
 have h:=BU a e;unfold aZ;dsimp only
 by_cases b:e<0\/(s.length:Int)<=e\/q<0
 ·rw[Zx b];exact BV
 rw[Zq b]
 by_cases c:fC s e=9223372036854775807\/q=9223372036854775807
 ·rw[Zx c];exact BV
 rw[Zq c];refine⟨d,?_,?_,Ey a sM,P.aY,P.agg,P.field,P.op,P.arg,P.key⟩
 ·show aN (fC s e+1);unfold aN at*;omega
 ·show aN (q+1);unfold aN at*;omega
def SN{P:au}(f:P.l.length<=20000000):∀b∈P.vec,aN b:=λb d=>by
 obtain⟨e,a,rfl⟩:=List.getElem_of_mem d;rw[P.b_]at a;have c:=P.oz a;rw[Qq (by rw[P.b_];exact a)]at c;rw[XJ c];have:=P.QP e;unfold aN;omega
def ME{P:au}(a:P.OK):aN P.top:=by
 have d:=UH a (M:=9223372036854775807) oM λb c=>by have:=(a.ok b c).aB;unfold aN at this;omega
 have e:=P.Ls;unfold aN;omega
def Ml{d:aS}{P:au}{V:bg}(b:c9.Ok)(a:P.OK)(c:aN e)(j:aN q)(f:P.l.length<=20000000):(lD d P V e q c9).1.Ok:=by
 have g:aN (max P.top q):=by
  have k:=ME a;unfold aN at*;omega
 rw[xi];refine Lr BV ?_
 cases h:P.keyed c9.key with
 |some i=>exact a.ok i (List.mem_of_find?_eq_some h)
 |none=>exact Lr BV (Lr BV (IZ b c g (SN f)))
end
section
variable {w w' w0:World} {p:Nat} {F E T:ZN} {cls:Nat->Nat} {h:jE} {c:cN} {self:Int} {X:bM}
def nh.TK(P:nh c self):0<=self/\self<c.bW:=by
 have:=P.right;unfold jR within at this;simp only[QK,Zk]at this;omega
def xC(hr:bN w p F c self X)(J:Env w0 w F)(hx:c9.Ok)(hl:X.S.l.length+1<=20000000):
  YX 13 #[ZL p,sW c9] w (Ok λa3 w'=>∃e,iS w (if(eh c self X c9).1≠0 then oN (eh c self X c9).1 else MD (eh c self X c9).2.1) a3 w'/\bN w' p e c self (eh c self X c9).2.2/\cQ F w e w'):=by
 have b8:=hr;obtain⟨q,h,cls,m⟩:=hr;have u:=m.aE;have e2:=(m.IM)
 have g6:=u p e2.1;have d4:aN self:=by have:=q.TK;have:=q.bW;unfold aN;omega
 refine lj (PA.mk λC e3 g7 e4=>PA.mk λb2 c1 g8 d5=>?_);have a1:=e3.then c1;have e5:=cP.af m a1;have E:∀{g:World} {e:ZN} {l:bM} {y:tP},y.st.cells=[]->y.UG=[]->y.rows=[]->(∃r,g.heap[C.heap.size]? =some (.cells r 46 (0,0))/\r.size=8)->bN g p e c self l->(∀P,e P->F P\/b2.heap.size<=P)->cQ F w e g->(eh c self X c9).2.2=l->(if(eh c self X c9).1≠0 then oN (eh c self X c9).1 else MD (eh c self X c9).2.1)=y->
   yo ZP 46 (ZL C.heap.size) (.agg (ng y none 0 0 none 0 0 none 0 0).toArray) g λc2=>oW ZP 46 (ZL C.heap.size) c2 λb=>Ok (λa3 w'=>∃e,iS w (if(eh c self X c9).1≠0 then oN (eh c self X c9).1 else MD (eh c self X c9).2.1) a3 w'/\bN w' p e c self (eh c self X c9).2.2/\cQ F w e w') (.returned b) c2:=λ{g e l y} y1 y2 y3 hz b3 b4 Q hX hy=>by
  obtain⟨r,hg,e6⟩:=hz;refine aC (kY y none 0 0 none 0 0 none 0 0) hg (by rw[e6];rfl) λc2 d6 g9 e7=>ar (kY y none 0 0 none 0 0 none 0 0) e7 (Ok.mk ⟨e,by rw[hy];exact iS.plain y1 y2 y3,?_,Q.keep.new d6 λP a=>.inr (by have a:P=C.heap.size:=a;omega),Q.new⟩);rw[hX];refine b3.keep d6 λP a f=>?_;have f:P=C.heap.size:=f;rcases b4 P a with h1|h1
  ·have:=u P h1;omega
  ·omega
 refine⟨p,0,rfl,_,ae e5.bw rfl,gA Tryz.underlying95 ⟨_,rfl,?_⟩⟩;have d7:DL w (λP=>F P/\cls P=2) h.dp h.lp X.D X.log:=m.at' 2;obtain⟨hS,R,hn⟩:=(show cJ w h.sp (λP=>F P/\cls P=3) X.S/\X.S.Cl/\X.S.n=c.bW.toNat from m.at' 3)
 cases S:X.log with
 |none=>
  obtain⟨Fd,-,-,h3⟩:=d7;rw[S]at h3;have h3:h.lp=none:=h3;rw[h3];refine al.tt rfl ?_;have n:eh c self X c9=(15,(0,0),X):=by unfold eh;rw[S]
  exact E (y:=oN 15) rfl rfl rfl ⟨_,d5,rfl⟩ (b8.af a1) (λP a=>.inl a) ⟨ai.keep a1,λP a=>.inl a⟩ (by rw[n]) (by rw[n];rfl)
 |some f7=>
 obtain⟨f8,a4,c3,-⟩:=DL.Of (S▸d7) (J.sub λP a=>a.1) λP a=>u P a.1;rw[a4];refine al.ff rfl λe8 e9=>⟨λ_=>False,?_⟩
 have b5:ai b2 e8:=e9.keep;have a2:=a1.then b5;have c4:=cP.af m a2;refine⟨p,0,rfl,id,_,_,_,_,_,_,ae c4.bw rfl,ae c4.bw rfl,p,0,rfl,_,ae c4.bw rfl,PC.ok (qW (hS.af a2) oM) ?_⟩;rintro _ h2 ⟨la,ln,lc,G,rfl,c5,K,hG⟩;have h4:=c5.len dC;have f2:=c5.aE;have T:=a2.then K;have h6:=cP.af m T;have b9:∀{g:World},ai w g->bj g (λP=>F P/\cls P=1) c.decl h.ta h.tn h.pa h.pn:=λ{g} H=>(cP.af m H).at' 1;refine⟨_,_,_,rfl,K,PC.ok (GX q.decl (J.nH.af (J.gr.then T)) (b9 T) (λP a=>by have:=u P a.1;have:=T.size;omega) (c5.row dC ba) (λP a=>f2 P a) oM) ?_⟩;rintro _ I ⟨vp,Fv,rfl,hv,h7,L⟩;have M:=T.then L;have c0:=((c1.then b5).then K).then L;obtain⟨g4,f3⟩:=Hi q.decl X.S.l;obtain⟨b,c6⟩:∃b,b=lD c.decl X.S (cD c.decl X.S.l) self c.start c9:=⟨_,rfl⟩
 have h8:=a2.size;have h9:=K.size;have i0:=L.size;have v:∀{g:World},ai I g->YX 42 #[.agg #[.slice h.ta h.tn h.tc,.slice h.pa h.pn h.pc],ZL h.sp,ZL vp,ZH self,ZH c.start,sW c9] g (Ok (vE g b)):=λ{g} H=>by
  rw[c6];exact Dq (J.nH.af ((J.gr.then M).then H)) (b9 (M.then H)) (λP a=>by have:=u P a.1;have:=(M.then H).size;omega) q.decl (hS.af (M.then H)) oM (hv.af H) f3
   (by have:=q.start;unfold aN at this;omega) (by have:=ME R.ok;unfold aN at this;omega)
 refine⟨_,rfl,L,λU eo o no w'=>eo=0/\∃i j k G,w'.heap[U]? =some (.cells (aD b.1 i j k).toArray 55 (0,0))/\Row aM 8 w' G i j b.1.aJ/\(∀P,G P->I.heap.size<=P/\P<w'.heap.size)/\I.heap.size<=U/\o=b.2.1/\no=b.2.2/\ai I w',?_,?_⟩
 ·intro x d8
  have N:ai I x:=d8.keep;have i1:x.heap.size=I.heap.size:=by rw[d8.heap]
  have d9:=M.then N;have V:=cP.af m d9;have e0:=N.get (c0.get e4 id) id;have nS:¬x.heap.size<=p:=oM
  have f4:¬x.heap.size<=w.heap.size:=by have:=b5.size;have:=K.size;have:=L.size;omega
  refine⟨λP=>x.heap.size<=P,p,0,rfl,nS,_,_,_,_,_,_,ae V.bw rfl,ae V.bw rfl,p,0,rfl,nS,_,ae V.bw rfl,p,0,rfl,nS,_,ae V.bw rfl,p,0,rfl,nS,_,ae V.bw rfl,f4,ar (DF c9) e0 ⟨PC.ok (v N) ?_,PA.mk λi2 c7 i3 f5=>⟨ai.keep c7,PC.ok (v (N.then c7)) ?_⟩⟩⟩
  ·rintro _ c8 ⟨i,j,k,G,rfl,W,s,a5⟩
   have i4:=a5.size;refine cm (rA b.1 i j k) ⟨_,_,rfl,ai.keep a5,PA.mk λi5 d0 i6 f6=>⟨ai.keep d0,aC (bf b.1 i j k) f6 rfl λi7 d1 i8 g0=>⟨d1.mono λP _ f=>by have f:P=c8.heap.size:=f;omega,rfl,i,j,k,G,g0,?_,λP a=>⟨by have:=s P a;omega,by have:=s P a;omega⟩,oM,rfl,rfl,?_⟩⟩⟩
   ·exact(W.af d0).keep d1 λP a f=>by have f:P=c8.heap.size:=f;have:=(s P a).2;omega
   ·exact((N.then a5).then d0).new d1 λP a=>.inr (by have a:P=c8.heap.size:=a;omega)
  ·rintro _ i9 ⟨i,j,k,G,rfl,W,s,b6⟩
   have j0:=b6.size;refine cm (rA b.1 i j k) ⟨_,_,rfl,ai.keep b6,aC (bf b.1 i j k) (b6.get f5 id) rfl λj1 d2 j2 g1=>⟨d2.mono λP _ f=>by have f:P=x.heap.size:=f;omega,rfl,i,j,k,G,g1,?_,λP a=>⟨by have:=s P a;omega,by have:=s P a;omega⟩,oM,rfl,rfl,?_⟩⟩
   ·exact W.keep d2 λP a f=>by have f:P=x.heap.size:=f;have:=(s P a).1;omega
   ·exact((N.then c7).then b6).new d2 λP a=>.inr (by have a:P=x.heap.size:=a;omega)
 rintro U _ o no _ O ⟨rfl,i,j,k,G2,d,W,s,j3,rfl,rfl,d3⟩;have Y:=M.then d3;have j4:=cP.af m Y;have g5:=c0.then d3;have b0:=d3.get (L.get (K.get (b5.get d5 id) id) id) id;have a6:b.1.Ok:=by rw[c6];exact Ml hx R.ok d4 q.start oM
 have a7:∀{z:Int×(Int×Int)×bM},(if b.2.2≠0 then(b.2.2,(0,0),X)else if b.2.1 then(if(dt c X [b.1]).1≠0 then((dt c X [b.1]).1,(0,0),(dt c X [b.1]).2)else(0,aX b.1,(dt c X [b.1]).2))else(0,aX b.1,X))=z->eh c self X c9=z:=λ{z} ht=>by
  rw[<-ht,c6];unfold eh;rw[S]
 have j5:=Y.size;have f0:=aA d;refine⟨λz w'=>∃e l,bN w' p e c self l/\cQ F w e w'/\(∀P,e P->F P\/b2.heap.size<=P)/\w'.heap[U]? =some (.cells (aD b.1 i j k).toArray 55 (0,0))/\(∃r,w'.heap[C.heap.size]? =some (.cells r 46 (0,0))/\r.size=8)/\eh c self X c9=(if z≠0 then(z,(0,0),l)else(0,aX b.1,l)),?_,?_⟩
 ·have A:eh c self X c9=(if b.2.2≠0 then(b.2.2,(0,0),X)else(0,aX b.1,X))->∃e l,bN O p e c self l/\cQ F w e O/\(∀P,e P->F P\/b2.heap.size<=P)/\O.heap[U]? =some (.cells (aD b.1 i j k).toArray 55 (0,0))/\(∃r,O.heap[C.heap.size]? =some (.cells r 46 (0,0))/\r.size=8)/\eh c self X c9=(if b.2.2≠0 then(b.2.2,(0,0),l)else(0,aX b.1,l)):=λn=>
   ⟨F,X,b8.af Y,⟨ai.keep Y,λP a=>.inl a⟩,λP a=>.inl a,d,⟨_,b0,rfl⟩,n⟩
  refine al.eD (λB=>al.mk (λt=>?_) (λt=>A (a7 (by rw[Zq (by simpa using B),Zq (by simpa using t),Zq (by simpa using B)])))) (λB=>A (a7 (by rw[Zx B,Zx B])));refine⟨_,_,_,_,_,_,_,_,_,_,_,_,ae d rfl,ae d rfl,ae d rfl,ae d rfl,ae d rfl,ae d rfl,ae d rfl,ae d rfl,ae d rfl,ae d rfl,PA.mk λe1 b7 j6 g2=>?_⟩;have a9:=Y.then b7;have f1:Row ia 96 e1 (λP=>P=O.heap.size\/G2 P) (ZM O.heap.size) 1 [b.1]:=row_one g2 ⟨i,j,k,rfl,W.af b7,a6⟩ dC;refine PC.ok (IN (cP.af m a9) q (J.af a9) S f1 (λP a=>?_) (by simpa using hl)) ?_
  ·have g3:I.heap.size<=P/\P<e1.heap.size:=a.elim (λf=>⟨oM,oM⟩) λh5=>by have:=s P h5;omega
   exact⟨g3.2,λt=>by have:=u P t.1;omega⟩
  rintro _ j7 ⟨rfl,h',e,Z,a8,a0,-⟩;refine⟨_,rfl,e,(dt c X [b.1]).2,⟨q,h',Z,a8⟩,⟨(ai.keep a9).then a0.keep,λP a=>(a0.new P a).imp id λh1=>oM⟩,λP a=>(a0.new P a).imp id λh1=>by have:=c1.size;omega,a0.keep.get (b7.get d id) λt=>by have:=u _ t;omega,⟨_,a0.keep.get (b7.get b0 id) λt=>by have:=u _ t;omega,rfl⟩,?_⟩;exact a7 (by rw[Zq (by simpa using B),Zx t])
 ·rintro z _ j8 ⟨e,l,b3,Q,b4,b1,hz,n⟩
  refine al.dV (λc3=>?_) (λB=>⟨_,_,ae b1 rfl,ae b1 rfl,?_⟩)
  ·rw[Zx c3]at n
   exact E (y:=oN z) rfl rfl rfl hz b3 b4 Q (by rw[n]) (by rw[n];exact Zx c3)
  ·rw[Zq (by simpa using B)]at n
   exact E (y:=MD (aX b.1)) rfl rfl rfl hz b3 b4 Q (by rw[n]) (by rw[n];rfl)
end
def fe(d:World)(e:ZN)(h:List dd)(i:Value)(b:World):Prop:=
 ∃(a:YQ) (f g:Nat) (c:List GV) (D:ZN),i= .slice a f g/\aU SK 60 (λP=>aH a=some P) b a f g c/\c.map (·.m)=h/\(∀P∈c,P.In b D)/\(∀P,D P->d.heap.size<=P/\P<b.heap.size/\aH a≠some P/\¬e P)/\∀P,aH a=some P->d.heap.size<=P/\¬e P
section
variable {w w' w0 w1:World} {p:Nat} {F E T Z:ZN} {cls:Nat->Nat} {h:jE} {c:cN} {self:Int} {X:bM} {ms:List dd} {v:Value}
def br.out(f:br w1 ms v w')(d:∀P,Z P->P<w1.heap.size)(o:w.heap.size<=w1.heap.size):fe w Z ms v w':=by
 obtain⟨g,h,i,j,D,k,l,m,n,b,e,p⟩:=f;exact⟨g,h,i,j,D,k,l,m,n,λP a=>⟨by have:=(b P a).1;omega,(b P a).2.1,(b P a).2.2,λc=>by have:=d P c;have:=(b P a).1;omega⟩,λP a=>⟨by have:=e P a;omega,λc=>by have:=d P c;have:=e P a;omega⟩⟩
def fe.nil(w0 w:World)(Z:ZN):fe w0 Z [] (.slice none 0 0) w:=⟨none,0,0,[],λ_=>False,rfl,(aU.nil w).mono (λa P=>P.elim) (λa P=>(by cases P)),rfl,sM,λa P=>P.elim,λa P=>(by cases P)⟩
def br.one{m:dd}{va c:YQ}{vn vc d e b:Nat}{D:ZN}(g:w.heap[b]? =some (.cells (bZ m va vn vc c d e).toArray 60 (0,0)))(i:(⟨m,va,vn,vc,c,d,e⟩:GV).In w D)(f:∀a,D a->w0.heap.size<=a/\a<w.heap.size/\a≠b)(k:w0.heap.size<=b)(j:ai w0 w):
  br w0 [m] (.slice (ZM b) 1 1) w:=by
 have l:=aA g;refine⟨ZM b,1,1,[⟨m,va,vn,vc,c,d,e⟩],D,rfl,⟨⟨bZ m va vn vc c d e,λ_=>False,Own.zO g rfl (by unfold maxLen;omega),bR.one ⟨rfl,trivial⟩,λa P=>P.elim⟩,λa P=>P,λa P=>?_⟩,rfl,λa P=>?_,λa P=>⟨(f a P).1,(f a P).2.1,λh=>?_⟩,λa P=>?_,j⟩
 ·simp only[aH,Q1]at P;omega
 ·simp at P;subst P;exact i
 ·simp only[aH,Q1]at h;exact(f a P).2.2 h.symm
 ·simp only[aH,Q1]at P;omega
def vf(o:bN w p F c self X)(A:aN e):
  YX 55 #[ZL p,ZH e,ZH q] w (Ok λv w'=>∃P,fe w P (gl c self X e q).1 v w'/\bN w' p P c self (gl c self X e q).2/\cQ F w P w'):=by
 have B:=o;obtain⟨C,h,cls,d⟩:=o;have no:(e<0\/e>=c.bW\/e=self)->Ok (λv w'=>∃P,fe w P (gl c self X e q).1 v w'/\bN w' p P c self (gl c self X e q).2/\cQ F w P w') (.returned (.slice none 0 0)) w:=λj=>by
  have:gl c self X e q=([],X):=by unfold gl;rw[Zx j]
  rw[this];exact Ok.mk ⟨F,fe.nil _ _ _,B,cQ.refl _ _⟩
 refine ky (al.dec (λk=>no (.inl k)) (λk=>⟨p,0,rfl,_,ae d.bw rfl,al.dec (λl=>no (.inr (.inl l))) (λl=>⟨p,0,rfl,_,ae d.bw rfl,al.eD (λm=>no (.inr (.inr m))) (λm=>⟨p,0,rfl,_,ae d.bw rfl,?_⟩)⟩)⟩));have E:gl c self X e q=([km X.S self e],{X with fV:={X.fV with asked:=aI X.fV.asked e q}}):=by unfold gl;rw[Zq (by rintro(h|h|h);exact k h;exact l h;exact m h)]
 refine PC.ok (I_ (d.at' 6) A) ?_;rintro _ r ⟨rfl,H,s⟩;have I:cP r F cls p h c self {X with fV:={X.fV with asked:=aI X.fV.asked e q}}:=bK.same d bT (k:=6) s H λt G J j=>by
  rcases t with _|_|_|_|_|_|_|t<;>first|exact j|exact Zz rfl J
 refine⟨rfl,λn K=>?_⟩;have u:ai r n:=K.keep;have b:=cP.af I u;refine⟨p,0,rfl,_,ae b.bw rfl,p,0,rfl,_,ae b.bw rfl,PC.ok (xP (b.at' 3).1) ?_⟩;rintro _ L ⟨S,T,U,G,rfl,x,M,g⟩;have y:=x.aE;have N:=g.size;refine⟨_,_,_,_,_,_,_,_,_,rfl,PA.mk λO i V Q=>?_⟩;rw[E];have R:br n [km X.S self e] (.slice (ZM L.heap.size) 1 1) O:=br.one (D:=G) Q ⟨(x.af i).row dC (by show X.S.vec.length*8<=aO;rw[X.S.b_];have:=(b.at' 3).1.1.n;have:X.S.n<=64:=this;unfold aO;omega),ef _ _⟩ (λf a=>⟨M f a,by have:=y f a;omega,by have:=y f a;omega⟩) N (g.then i);have z:aj F w n:=(s.mono λf _ a=>a.1).af u;exact Ok.mk ⟨F,R.out b.aE z.size,⟨C,h,cls,cP.af b (g.then i)⟩,(z.af g).af i,λf a=>.inl a⟩
def SO(T:jG)(c:Int):∀P∈T.due c,P∈T.open:=by
 have:∀(d:List Int) (e:List Int×List (Int×Int)),∀P∈(d.foldl (fS T.df c) e).1,P∈e.1\/P∈d:=by
  intro d
  induction d with
  |nil=>intro e P a;exact .inl a
  |cons h d g=>
   intro e P a;rcases g _ P a with b|b
   ·unfold fS at b
    split at b
    ·rcases Q6.1 b with f|f
     ·exact .inl f
     ·simp at f;subst f;exact .inr (QV ..)
    ·exact .inl b
   ·exact .inr (QJ _ b)
 intro P a;unfold jG.due jG.iU at a;rw[List.take_length]at a;exact(this T.open ([],T.asked) P a).resolve_left sM
def QR{T:jG}(b:∀P∈T.asked,aN P.1):∀a∈T.open,aN a:=λa c=>by
 have:a∈T.asked.map (·.1):=(List.mergeSort_perm _ _).mem_iff.1 c;obtain⟨P,d,rfl⟩:=Xk.1 this;exact b P d
def SP(T:jG)(P:Int):(T.due P).length<=T.asked.length:=by
 have:∀(b:List Int) (a:List Int×List (Int×Int)),(b.foldl (fS T.df P) a).1.length<=a.1.length+b.length:=by
  intro b
  induction b with
  |nil=>intro a;simp
  |cons c b e=>
   intro a;have d:=e (fS T.df P a c);have f:(fS T.df P a c).1.length<=a.1.length+1:=by
    unfold fS;split
    ·simp
    ·omega
   simp only[List.foldl_cons,Xq];omega
 have d:=this T.open ([],T.asked);unfold jG.due jG.iU;rw[List.take_length];have f:T.open.length=T.asked.length:=by simp[jG.open,vF]
 simp only[ZQ]at d;omega
def Qa(M:bN w p F c self X)(b:X.fV.asked.length<=1000):
  YX 58 #[ZL p,ZH e] w (Ok λv w'=>∃m,fe w m (Ja self X e).1 v w'/\bN w' p m c self (Ja self X e).2/\cQ F w m w'):=by
 obtain⟨N,h,cls,n⟩:=M;have u:ei w h.tp (λP=>F P/\cls P=6) X.fV:=n.at' 6;have O:∀d∈X.fV.due e,aN d:=λd g=>QR u.sr d (SO _ _ d g);have b0:=SP X.fV e;refine nK ⟨p,0,rfl,_,ae n.bw rfl,PC.ok (On u ba) ?_⟩;rintro _ i ⟨Q,o,cc,rfl,x,R,q,hn⟩;have y:cP i F cls p h c self {X with fV:=X.fV.QS e}:=bK.same n bT (k:=6) q R λa G z S=>by
  rcases a with _|_|_|_|_|_|_|a<;>first|exact S|exact Zz rfl z
 have T:=x.length;rw[jr,Nat.mul_one]at T;have U:Ints i Q o (X.fV.due e):=x.ints ba O;have V:=y.aE;have W:=q.size;refine⟨_,_,_,rfl,λA B C E Y w'=>∃a:Nat,Y=a/\a<=o/\A=o-a/\br i (((X.fV.due e).take a).map λf=>km X.S self f) (.slice B C E) w',⟨_,0,rfl,Qj _,rfl,br.nil i⟩,?_⟩;rintro A B C E _ _ Z ⟨a,rfl,z,rfl,j⟩;have r:=j;obtain⟨a3,n1,c1,a4,D,he,g2,g3,g4,g5,g6,k⟩:=r
 cases he
 have H:=cP.af y k;have b1:=k.size;refine al.dec (λb2=>?_) (λb3=>?_)
 ·obtain⟨P,s,d,rfl,b4,g,b5,a0⟩:=(U.af k).at (i:=(a:Int)) oM oM
  rw[Qx]at g;refine⟨P,s,rfl,oM,oM,d,a0,λa6 a7=>?_⟩;have t:ai Z a6:=a7.keep;have l:=cP.af H t;refine⟨p,0,rfl,_,ae l.bw rfl,p,0,rfl,_,ae l.bw rfl,PC.ok (xP (l.at' 3).1) ?_⟩;rintro _ b6 ⟨va,vn,vc,G,rfl,I,J,K⟩;have a8:=I.aE;have b7:=t.size;have b8:=K.size;refine⟨_,_,_,_,_,_,_,_,_,rfl,PA.mk λb9 L c0 a9=>?_⟩;refine br.push (m:=km X.S self d) (E:=G) (j.af ((t.then K).then L)) MF ⟨(I.af L).row dC (by show X.S.vec.length*8<=aO;rw[X.S.b_];have:X.S.n<=64:=(l.at' 3).1.1.n;unfold aO;omega),ef _ _⟩ (λP b=>⟨by have:=J P b;omega,by have:=a8 P b;omega,λa1=>by have:=g2.aE P a1;have:=J P b;omega⟩) a9 (by rw[Q8,Qy];omega) λa' c' c2 a2 c3=>⟨_,_,_,rfl,_,?_,a+1,an oM,oM,rfl,?_⟩
  ·omega
  ·rw[Qw,g,Q3];exact a2
 ·rw[Qz oM]at j
  exact Ok.mk ⟨F,j.out V W,⟨N,h,cls,H⟩,(q.mono λP _ b=>b.1).af k,λP b=>.inl b⟩
def SQ(a:bN w p F c self X):YX 23 #[ZL p] w (Ok (pC aM 3 w X.S.vec)):=by
 obtain⟨g,h,cls,P⟩:=a;refine oZ ⟨p,0,rfl,_,ae P.bw rfl,PC.ok (lx (P.at' 3).1) ?_⟩;rintro _ i ⟨b,d,e,G,rfl,f⟩;exact⟨_,_,_,rfl,Ok.mk ⟨b,d,e,G,rfl,f⟩⟩
def oA(b:bN w p F c self X)(P:X.S.l.length<=20000000):YX 14 #[ZL p] w (Ok (pC ia 55 w X.S.l)):=by
 obtain⟨g,h,cls,a⟩:=b;refine lP ⟨p,0,rfl,_,ae a.bw rfl,PC.ok (qW (a.at' 3).1 P) ?_⟩;rintro _ i ⟨d,e,f,G,rfl,P⟩;exact⟨_,_,_,rfl,Ok.mk ⟨d,e,f,G,rfl,P⟩⟩
end
def vG{d:au}:∀{a:List ah} {e:ah} {S':au} {l':List ah},dI d a=some (e,S',l')->l'.length+1=a.length
 |[],e,S',l',P=>by simp[dI]at P
 |x::a,e,S',l',P=>by
  unfold dI at P;split at P
  ·simp only[Q1,Prod.mk.injEq]at P
   obtain⟨-,-,rfl⟩:=P;rfl
  ·cases b:dI d a with
   |none=>rw[b]at P;cases P
   |some c=>
    rw[b]at P;simp only[Option.map_some,Q1,Prod.mk.injEq]at P;obtain⟨rfl,rfl,rfl⟩:=P;have:=vG (e:=c.1) (S':=c.2.1) (l':=c.2.2) b;simp only[Xq];omega
def vH:∀(k:Nat) (b:au) (a P:List ah),(dm k b a P).1.length+(dm k b a P).2.length=P.length+a.length
 |0,b,a,P=>rfl
 |k+1,b,a,P=>by
  unfold dm
  cases f:dI b a with
  |none=>rfl
  |some g=>
   obtain⟨c,d,e⟩:=g;have i:=vG f;have h:=vH k d e (P++[c]);show(dm k d e (P++[c])).1.length+(dm k d e (P++[c])).2.length=_;rw[h,QX,List.length_singleton];omega
def vI(a:au)(P:List ah):(bH a P).1.length+(bH a P).2.length<=P.length:=by
 unfold bH;dsimp only;rw[vH];have:=List.length_filter_le (λb=>(a.get (aX b)).isNone) P;simp only[ZQ];omega
structure GD (w:World) (wp most:Nat) (M0 D0 E:ZN) (s:Nat) (S:au) (b:List ah) (oa:YQ) (on oc:Nat) (Lo:List (Bx ah)) (w1:World) (M Db Fs Do:ZN):Prop where
 buf:gN w1 wp M Db most b
 set:cJ w1 s Fs S
 MW:∀x∈Lo,pD.In w1 Do x
 out:aU pD.ke 55 (λb=>aH oa=some b) w1 oa on oc Lo
 nM:∀b,M b->(M0 b\/w.heap.size<=b)/\¬Fs b
 nD:∀b,Db b->(D0 b\/w.heap.size<=b)/\¬Fs b
 nF:∀b,Fs b->w.heap.size<=b
 nO:∀b,Do b->(E b\/D0 b\/w.heap.size<=b)/\b<w1.heap.size/\¬M b/\¬Fs b
 nA:∀b,aH oa=some b->w.heap.size<=b/\¬M b/\¬Fs b/\¬Do b/\¬Db b
 keep:aj M0 w w1
 cl:S.Cl
section
variable {w w' w0 w1 w2:World} {p wp most s on oc:Nat} {F E T Z M0 D0 M Db Fs Do:ZN} {cls:Nat->Nat} {h:jE} {c:cN} {self:Int} {X:bM} {S:au} {b:List ah} {oa:YQ} {Lo:List (Bx ah)}
def gN.Oi(P:gN w p M Db most b):∀b,M b->b<w.heap.size:=by obtain⟨-,d,e,c,f,a⟩:=P;exact a.dM
def gN.Jb(P:gN w p M Db most b):∀b,Db b->b<w.heap.size/\¬M b:=by obtain⟨-,d,e,c,f,a⟩:=P;exact a.dD
def GD.af(P:GD w wp most M0 D0 E s S b oa on oc Lo w1 M Db Fs Do)(a:ai w1 w2):GD w wp most M0 D0 E s S b oa on oc Lo w2 M Db Fs Do:=
 ⟨P.buf.af a,P.set.af a,λd e=>(P.MW d e).keep a λ_ _ h=>h,P.out.af a,P.nM,P.nD,P.nF,λb c=>⟨(P.nO b c).1,by have:=(P.nO b c).2.1;have:=a.size;omega,(P.nO b c).2.2⟩,P.nA,P.keep.af a,P.cl⟩
def GD.add(a:GD w wp most M0 D0 E s S b oa on oc Lo w1 M Db Fs Do){i n:Nat}(o:Row aM 8 w1 f d i l.aJ)(p:∀b,f b->b<w1.heap.size/\¬Fs b)(j:l.Ok)(y:S.l.length<=20000000):
  YX 75 #[ZL s,jS l d i n] w1 (Ok λk w'=>k= ZH (S.add l).1/\∃g,GD w wp most M0 D0 E s (S.add l).2 b oa on oc Lo w' M Db g Do/\aj Fs w1 w'/\∀b,g b->Fs b\/w1.heap.size<=b):=by
 refine(uf a.set o p j oM).mono ?_;rintro _ w2 ⟨k,rfl,rfl,m,q,c⟩;have r:=a.buf.Oi;have t:=a.buf.Jb;have z:=a.keep.size;have e:∀b,b<w1.heap.size->¬Fs b->¬m b:=λb A u h=>(c.new b h).elim u oM;refine Ok.mk ⟨rfl,m,⟨a.buf.keep c.keep (λb P=>(a.nM b P).2) λb P=>(a.nD b P).2,q,λv x=>(a.MW v x).keep c.keep λb P=>(a.nO b P).2.2.2,a.out.keep c.keep λb P=>(a.nA b P).2.2.1,λb P=>⟨(a.nM b P).1,e b (r b P) (a.nM b P).2⟩,λb P=>⟨(a.nD b P).1,e b (t b P).1 (a.nD b P).2⟩,
  λb P=>(c.new b P).elim (a.nF b) λY=>oM,λb P=>⟨(a.nO b P).1,by have:=(a.nO b P).2.1;have:=c.keep.size;omega,(a.nO b P).2.2.1,e b (a.nO b P).2.1 (a.nO b P).2.2.2⟩,λb P=>⟨(a.nA b P).1,(a.nA b P).2.1,e b (a.out.aE b P) (a.nA b P).2.2.1,(a.nA b P).2.2.2⟩,a.keep.new c.keep λb P=>.inr (a.nF b P),a.cl.add j⟩,c.keep,c.new⟩
def GD.push{v:Program}(c:GD w wp most M0 D0 E s S b oa on oc Lo w1 M Db Fs Do)(z:jq v g 55 pD.ke.k 96){d:Bx ah}(A:pD.In w1 f d)(e:∀b,f b->(E b\/D0 b\/w.heap.size<=b)/\b<w1.heap.size/\¬M b/\¬Fs b/\aH oa≠some b)(B:w1.heap[a]? =some (.cells (aD d.x d.a d.n d.c).toArray 55 C))(Q:Lo.length<=1000000)(r:∀l q w' u,GD w wp most M0 D0 E s S b l (on+1) q (Lo++[d]) w' M Db Fs u->aj (λb=>aH oa=some b) w1 w'->(∀b,aH l=some b->aH oa=some b\/w1.heap.size<=b)->m (.slice l (on+1) q) w'):
  aG v (Builtin.append_ #[g,g] n #[.slice oa on oc,.slice (ZM a) 1 1]) w1 m t:=by
 refine eJ (c:=pD.ke) (x:=d) (D:=λ_=>False) c.out z B ⟨rfl,trivial⟩ (λb P=>P.elim) ba (by unfold maxLen;omega) λl q w2 R x i F=>?_;have I:=x.alone;have y:∀b,aH l=some b->aH oa=some b\/w1.heap.size<=b:=λb P=>(F b (x.self b P)).imp id λh=>h.resolve_left id;have T:=i.size;have z1:=c.keep.size;have J:=c.buf.Oi;have K:=c.buf.Jb;have L:=c.set.aE;have nA:=c.nA;refine r l q w2 (λb=>Do b\/f b) ⟨c.buf.keep i (λb P j=>(nA b j).2.1 P) λb P j=>(nA b j).2.2.2.2 P,c.set.keep i λb P j=>(nA b j).2.2.1 P,λN o=>?_,I,c.nM,c.nD,c.nF,λb P=>?_,λb P=>?_,c.keep.new i λb P=>.inr (nA b P).1,c.cl⟩ i y
 ·rcases Q6.1 o with o|o
  ·exact((c.MW N o).keep i λb P j=>(nA b j).2.2.2.1 P).mono λb P=>.inl P
  ·simp at o;subst o
   exact(A.keep i λb P=>(e b P).2.2.2.2).mono λb P=>.inr P
 ·rcases P with P|P
  ·exact⟨(c.nO b P).1,by have:=(c.nO b P).2.1;omega,(c.nO b P).2.2⟩
  ·exact⟨(e b P).1,by have:=(e b P).2.1;omega,(e b P).2.2.1,(e b P).2.2.2.1⟩
 ·rcases y b P with H|H
  ·exact⟨(nA b H).1,(nA b H).2.1,(nA b H).2.2.1,λp=>p.elim (nA b H).2.2.2.1 λO=>(e b O).2.2.2.2 H,(nA b H).2.2.2.2⟩
  ·exact⟨oM,λk=>by have:=J b k;omega,λk=>by have:=L b k;omega,λk=>k.elim (λp=>by have:=(c.nO b p).2.1;omega) λp=>by have:=(e b p).2.1;omega,λk=>by have:=(K b k).1;omega⟩
def GD.wait(P:GD w wp most M0 D0 E s S b oa on oc Lo w1 M Db Fs Do){k p:Nat}(q:Row aM 8 w1 f d k l.aJ)(r:∀b,f b->b<w1.heap.size)(t:l.Ok):
  YX 159 #[ZL wp,jS l d k p] w1 (Ok λm w'=>∃u,m= .bool u/\∃h i,GD w wp most M0 D0 E s S (eN most b l).2 oa on oc Lo w' h i Fs Do/\aj M w1 w'):=by
 refine(JH P.buf q r t).mono ?_;rintro _ w2 ⟨m,rfl,rfl,h,v,x,g,j,n⟩;have o:=P.set.aE;have A:=P.keep.size;have B:=g.size;refine Ok.mk ⟨_,rfl,h,v,⟨x,P.set.keep g λb a e=>(P.nM b e).2 a,λy z=>(P.MW y z).keep g λb a=>(P.nO b a).2.2.1,P.out.keep g λb a=>(P.nA b a).2.1,λb a=>?_,λb a=>?_,P.nF,λb a=>⟨(P.nO b a).1,by have:=(P.nO b a).2.1;omega,λe=>?_,(P.nO b a).2.2.2⟩,λb a=>⟨(P.nA b a).1,λe=>?_,(P.nA b a).2.2.1,(P.nA b a).2.2.2.1,λe=>?_⟩,?_,P.cl⟩,g⟩
 ·rcases j b a with c|c
  ·exact P.nM b c
  ·exact⟨.inr oM,λe=>by have:=o b e;omega⟩
 ·rcases n b a with c|c
  ·exact P.nD b c
  ·exact⟨.inr oM,λe=>by have:=o b e;omega⟩
 ·rcases j b e with c|c
  ·exact(P.nO b a).2.2.1 c
  ·have:=(P.nO b a).2.1;omega
 ·rcases j b e with c|c
  ·exact(P.nA b a).2.1 c
  ·have:=P.out.aE b a;omega
 ·rcases n b e with c|c
  ·exact(P.nA b a).2.2.2.2 c
  ·have:=P.out.aE b a;omega
 ·exact P.keep.new g λb a=>(P.nM b a).1
def GD.ready(P:GD w wp most M0 D0 E s S b oa on oc Lo w1 M Db Fs Do)(j:S.l.length<=19000000):
  YX 160 #[ZL wp,ZL s] w1 (Ok λi w'=>∃c f g e,i= .slice c f g/\aU pD.ke 55 (λb=>aH c=some b) w' c f g e/\e.map (·.x)=(bH S b).1/\(∀h∈e,pD.In w' Db h)/\(∀b,aH c=some b->w1.heap.size<=b)/\
   GD w wp most M0 D0 E s S (bH S b).2 oa on oc Lo w' M Db Fs Do/\aj M w1 w'):=by
 refine(EW P.buf P.set P.cl j).mono ?_;rintro _ w2 ⟨i,rfl,c,f,g,e,rfl,k,l,m,n,o,d⟩;have r:=d.size;exact Ok.mk ⟨c,f,g,e,rfl,k,l,m,n,⟨o,P.set.keep d λb a p=>(P.nM b p).2 a,λh q=>(P.MW h q).keep d λb a=>(P.nO b a).2.2.1,P.out.keep d λb a=>(P.nA b a).2.1,P.nM,P.nD,P.nF,λb a=>⟨(P.nO b a).1,by have:=(P.nO b a).2.1;omega,(P.nO b a).2.2⟩,P.nA,P.keep.new d λb a=>(P.nM b a).1,P.cl⟩,d⟩
end
section
variable {w w' w0 w1 w2:World} {p wp most s on oc:Nat} {F E T Z M0 D0 M Db Fs Do:ZN} {cls:Nat->Nat} {h:jE} {c:cN} {self:Int} {X:bM} {S:au} {b:List ah} {oa:YQ} {Lo:List (Bx ah)} {evs:List ah} {ea:YQ} {en ec:Nat}
def BW(most:Nat)(P:List ah)(a:ah):(eN most P a).2.length<=P.length+1:=by
 unfold eN;split
 ·show P.length<=_;omega
 ·show(dH a P).length<=_
  rw[(cT a P).length_eq];simp
def Oh(L:cP w F cls p h c self X)(e4:nh c self)(hr:Row ia 96 w E ea en evs)(A:∀b,E b->b<w.heap.size/\¬F b)(m3:evs.length<=1000)(hl:X.S.l.length<=18000000):
  YX 98 #[ZL p,.slice ea en ec] w (Ok λf1 w'=>∃oa on oc Lo U o Do,f1= .slice oa on oc/\aU pD.ke 55 (λb=>aH oa=some b) w' oa on oc Lo/\Lo.map (·.x)=(iy c X evs).1/\(∀P∈Lo,pD.In w' Do P)/\
   cP w' U o p h c self {X with waits:=(iy c X evs).2}/\cQ F w U w'/\(∀b,Do b->b<w'.heap.size/\aH oa≠some b/\¬(U b/\o b=2))/\(∀b,aH oa=some b->w.heap.size<=b/\¬U b)/\(iy c X evs).1.length<=evs.length+256):=by
 obtain⟨m8,m9,n0⟩:=e4.bW;have e5:=L.aE;have i6:=L.IM;obtain⟨hS,a0,hn⟩:=(show cJ w h.sp (λb=>F b/\cls b=3) X.S/\X.S.Cl/\X.S.n=c.bW.toNat from L.at' 3)
 obtain⟨M0,D0,t,c1,a1⟩:=(show NI w (λb=>F b/\cls b=5) h.wp c.buffer.toNat X.waits from L.at' 5)
 have f3:X.waits.length<=256:=Xx t.1.2.le t.1.1;have n1:=hr.len;refine mR (PC.ok (IY (evs:=[]) L e4 (ef w (λ_=>False)) (λb d=>d.elim) bc) ?_);rintro _ w4 ⟨s,i7,rfl,i8,b1,k4⟩;have e6:eQ c X.S []=X.S:=(vi a0 hn []).trans rfl;have z4:=k4.size;have i9:(eQ c X.S []).Cl:=by rw[e6];exact a0
 have j0:(eQ c X.S []).l.length=X.S.l.length:=by rw[e6]
 have j1:GD w h.wp c.buffer.toNat M0 D0 E s (eQ c X.S []) X.waits none 0 0 [] w4 M0 D0 i7 (λ_=>False):=by
  have j2:=t.Oi;have e7:=t.Jb;refine⟨t.af k4,i8,sM,(aU.nil w4).mono (λb d=>d.elim) (λb d=>(by cases d)),λb d=>⟨.inl d,λj=>by have:=j2 b d;have:=b1 b j;omega⟩,λb d=>⟨.inl d,λj=>by have:=(e7 b d).1;have:=b1 b j;omega⟩,b1,λb d=>d.elim,λb d=>(by cases d),ai.keep k4,i9⟩
 have B:∀{w1:World},aj M0 w w1->w1.heap[p]? =some (.cells (h.cells c self) 99 (0,0)):=λ{w1} hk=>hk.get L.bw λl=>by
  have:=(c1 p l).2;rw[i6.2]at this;cases this
 have e8:∀b,E b->¬M0 b:=λb d l=>(A b d).2 (c1 b l).1;obtain⟨C,e9⟩:∃C,C=gj c.buffer.toNat evs (eQ c X.S []) [] X.waits:=⟨_,rfl⟩
 have r:iy c X evs=oJ (C.2.2.length+1) C.1 C.2.1 C.2.2:=by rw[e9];rfl
 refine⟨_,rfl,λH oa on oc I w'=>∃(e:Nat) (S:au) (b:List ah) (Lo:List (Bx ah)) (M Db Fs Do:ZN),I=e/\e<=en/\H=en-e/\GD w h.wp c.buffer.toNat M0 D0 E s S b oa on oc Lo w' M Db Fs Do/\gj c.buffer.toNat (evs.drop e) S (Lo.map (·.x)) b=C/\S.l.length<=X.S.l.length+Lo.length/\Lo.length<=e/\b.length<=256/\Lo.length+b.length<=X.waits.length+e,
  ⟨_,0,_,_,_,_,_,_,_,rfl,Qj _,rfl,j1,e9.symm,by simp[j0],sM,f3,sM⟩,?_⟩
 rintro H oa on oc _ _ f2 ⟨e,S,b,Lo,M,Db,Fs,Do,rfl,hj,rfl,j,u,V,f7,b3,f4⟩;have j3:=j.keep.size;have j4:=j.out.len dC;refine al.dec (λj5=>?_) (λj6=>?_)
 ·obtain⟨P,i⟩:∃P,evs[e]? =some P:=⟨_,Qq oM⟩
  have a8:evs.drop e=P::evs.drop (e+1):=by
   rw[X4 oM]
   congr 1
   exact(Qv.1 i).2
  rw[a8]at u;obtain⟨gb,go,es,ha,j7,n3,d2,xa,xn,xc,rfl,d3,b4⟩:=(hr.keep j.keep e8).el e P i;refine⟨gb,go,ha,oM,oM,bB (es:=aD P xa xn xc) (k:=10) (bf _ _ _ _) rfl (λI ht=>by rw[Qx];exact d2 I ht) (PA.mk λn4 j8 n8 j9=>aC (bf P xa xn xc) j9 rfl λk0 k1 n9 f5=>ar (bf P xa xn xc) f5 ?_)⟩;have a2:ai f2 k0:=j8.new k1 λb d=>.inr (by have d:b=f2.heap.size:=d;omega);have o0:=a2.size;have d4:∀b,E b->¬Fs b:=λb d l=>by have:=j.nF b l;have:=(A b d).1;omega
  refine PC.ok ((j.af a2).add (d3.af a2) (λb d=>⟨by have:=(A b d).1;omega,d4 b d⟩) b4 oM) ?_;rintro _ k2 ⟨rfl,N,J,a5,m4⟩;have o1:=a5.size;have b5:=j.set.aE;have v:=a5.get f5 λl=>by have:=b5 _ l;omega
  have f6:=S.zi P;have f8:gj c.buffer.toNat (P::evs.drop (e+1)) S (Lo.map (·.x)) b=if(S.add P).1=0 then gj c.buffer.toNat (evs.drop (e+1)) (S.add P).2 (Lo.map (·.x)++[P]) b else if(S.add P).1=16 then gj c.buffer.toNat (evs.drop (e+1)) S (Lo.map (·.x)) b else gj c.buffer.toNat (evs.drop (e+1)) S (Lo.map (·.x)) (eN c.buffer.toNat b P).2:=rfl
  rw[f8]at u;have a9:(S.add P).1≠0->(S.add P).2=S:=λW=>by
   rcases S.gP P with⟨-,f⟩|⟨f,-⟩
   ·exact f
   ·rw[f]at W;exact Zz rfl W
  refine⟨_,rfl,al.eD (λq=>?_) (λq=>al.eD (λd5=>?_) (λd5=>λk3 k5=>?_))⟩
  ·rw[Zx q]at u
   have c4:(S.add P).2.l.length<=S.l.length+1:=f6;refine⟨_,_,_,_,_,_,_,_,_,_,_,_,ae v rfl,ae v rfl,ae v rfl,ae v rfl,ae v rfl,ae v rfl,ae v rfl,ae v rfl,ae v rfl,ae v rfl,PA.mk λk6 d6 o2 k7=>?_⟩;have g0:pD.In k6 E ⟨P,xa,xn,xc⟩:=⟨((d3.af a2).keep a5 λb d=>d4 b d).af d6,b4⟩
   have g1:=J.af d6;refine g1.push vU g0 (λb d=>⟨.inl d,by have:=(A b d).1;have:=d6.size;omega,λl=>?_,λl=>by have:=J.nF b l;have:=(A b d).1;omega,λn=>by have:=(J.nA b n).1;have:=(A b d).1;omega⟩) k7 oM λa' c' o3 O g2 m5 _=>⟨_,_,_,rfl,_,oM,e+1,_,_,_,M,Db,N,O,an oM,oM,rfl,g2,?_,?_,?_,b3,?_⟩
   ·rcases(J.nM b l).1 with f|f
    ·exact e8 b d f
    ·have:=(A b d).1;omega
   ·rw[Q3];exact u
   ·rw[QX,List.length_singleton];omega
   ·rw[QX,List.length_singleton];omega
   ·rw[QX,List.length_singleton];omega
  ·rw[Zq q,Zx d5]at u
   rw[a9 q]at J;exact⟨_,oM,e+1,S,b,Lo,M,Db,N,Do,an oM,oM,rfl,J,u,V,oM,b3,oM⟩
  ·rw[Zq q,Zq d5]at u
   rw[a9 q]at J;have c5:ai k2 k3:=k5.keep;have c9:=J.af c5;refine⟨p,0,rfl,_,ae (B c9.keep) rfl,ar (bf P xa xn xc) (c5.get v id) (PC.ok (c9.wait (((d3.af a2).keep a5 λb d=>d4 b d).af c5) (λb d=>by have:=(A b d).1;have:=c5.size;omega) b4) ?_)⟩;rintro _ o4 ⟨I,rfl,M',b6,b7,m6⟩;have d7:=BW c.buffer.toNat b P;have g3:(eN c.buffer.toNat b P).2.length<=256:=Xx b7.buf.1.2.le b7.buf.1.1;exact⟨_,rfl,_,oM,e+1,S,_,Lo,M',b6,N,Do,an oM,oM,rfl,b7,u,V,oM,g3,oM⟩
 have o5:e=evs.length:=oM
 rw[List.drop_eq_nil_of_le oM]at u;have d0:C=(S,Lo.map (·.x),b):=u.symm;rw[d0]at r;have b8:Lo.length+b.length<=evs.length+256:=oM
 refine⟨λH oa on oc w'=>∃(S:au) (b:List ah) (Lo:List (Bx ah)) (M Db Fs Do:ZN) (k:Nat),H=b.length/\GD w h.wp c.buffer.toNat M0 D0 E s S b oa on oc Lo w' M Db Fs Do/\b.length<=k/\oJ (k+1) S (Lo.map (·.x)) b=iy c X evs/\S.l.length<=X.S.l.length+Lo.length/\Lo.length+b.length<=evs.length+256,
  ⟨_,S,b,Lo,M,Db,Fs,Do,b.length,rfl,j,Q4 _,r.symm,V,b8⟩,?_⟩
 clear j u V f7 b3 f4 b8 j4 j3 d0 r
 rintro H oa on oc _ o6 ⟨S,b,Lo,M,Db,Fs,Do,k,rfl,j,hk,r,V,f4⟩;have o7:=j.keep.size;refine⟨p,0,rfl,_,ae (B j.keep) rfl,PC.ok (j.ready oM) ?_⟩;rintro _ o8 ⟨Y,n2,f9,Z,rfl,g4,d8,k8,g5,m,g6⟩;have o9:=g4.len dC;have d7:=vI S b;have g7:Z.length=(bH S b).1.length:=by rw[<-d8,Q8]
 have k9:oJ (k+1) S (Lo.map (·.x)) b=if(bH S b).1=[]then(Lo.map (·.x),(bH S b).2)else oJ k (eA (bH S b).1 S (Lo.map (·.x))).1 (eA (bH S b).1 S (Lo.map (·.x))).2 (bH S b).2:=rfl
 rw[k9]at r;have p0:=g6.size;refine⟨_,_,_,rfl,al.eD (λq=>?_) (λq=>?_)⟩
 ·have g8:(bH S b).1=[]:=QW oM
  rw[Zx g8]at r;rw[<-r];have hM:=m.buf.Oi;have l0:=m.buf.Jb;obtain⟨U,o,b9,a3,l3,c2,-⟩:=L.eV bT (k:=5) (G':=λb=>M b\/Db b) (C2:=lu p (h.cells c self) h c {X with waits:=(bH S b).2} X.S.l) (m.keep.mono λb _ d=>c1 b d)
   (λP i=>i.elim (λf=>(m.nM P f).1.imp (c1 P) id) λf=>(m.nD P f).1.imp (a1 P) id) (λP i=>i.elim (hM P) λf=>(l0 P f).1) ⟨M,Db,m.buf,λ_ h=>.inl h,λ_ h=>.inr h⟩ λe G hj hc=>by
    rcases e with _|_|_|_|_|_|_|e<;>first|exact hc|exact Zz rfl hj
  refine Ok.mk ⟨oa,on,oc,Lo,U,o,Do,rfl,m.out,rfl,m.MW,b9,a3,λP i=>⟨(m.nO P i).2.1,λn=>(m.nA P n).2.2.2.1 i,λQ=>?_⟩,λP i=>⟨(m.nA P i).1,λQ=>?_⟩,by rw[Q8];omega⟩
  ·have d9:F P/\cls P=2:=by
    have:=congrFun (c2 2 dC) P;exact this▸Q
   rcases(m.nO P i).1 with f|f|f
   ·exact(A P f).2 d9.1
   ·have:=(a1 P f).2;rw[d9.2]at this;cases this
   ·have:=e5 P d9.1;omega
  ·rcases l3 P Q with f|f
   ·have:=e5 P f.1;have:=(m.nA P i).1;omega
   ·exact f.elim (m.nA P i).2.1 (m.nA P i).2.2.2.2
 ·have W:(bH S b).1≠[]:=λn=>by rw[n,ZQ]at g7;omega
  rw[Zq W]at r;obtain⟨k',rfl⟩:∃k',k=k'+1:=⟨k-1,by
   have:0<b.length:=by
    have:=List.length_pos_iff.2 W;omega
   omega⟩
  obtain⟨av,e0⟩:∃av,av=eA (bH S b).1 S (Lo.map (·.x)):=⟨_,rfl⟩
  rw[<-e0]at r;have g9:Lo.length+Z.length+(bH S b).2.length<=evs.length+256:=oM
  obtain⟨b2,b3⟩:∃b2,b2=(bH S b).2:=⟨_,rfl⟩
  rw[<-b3]at r m g9 d7;have e7:=m.buf.Jb;obtain⟨x,hR⟩:∃x,x=(bH S b).1:=⟨_,rfl⟩
  rw[<-hR]at d8 g7 d7 e0;have h0:∀a,aH Y=some a->¬Fs a/\aH oa≠some a:=λa g=>by
   have f:=g5 a g;exact⟨λl=>by have:=j.set.aE a l;omega,λn=>by have:=j.out.aE a n;omega⟩
  have p1:∀a,aH Y=some a->¬Db a:=λa g l=>by
   have f:=g5 a g;have h6:=(j.buf.Jb a l).1;omega
  refine⟨λH oa on oc I w'=>∃(e:Nat) (S:au) (Lo:List (Bx ah)) (Fs Do:ZN),I=e/\e<=n2/\H=n2-e/\GD w h.wp c.buffer.toNat M0 D0 E s S b2 oa on oc Lo w' M Db Fs Do/\eA (x.drop e) S (Lo.map (·.x))=av/\S.l.length<=X.S.l.length+Lo.length/\Lo.length+(n2-e)+b2.length<=evs.length+256/\aU pD.ke 55 (λb=>aH Y=some b) w' Y n2 f9 Z/\(∀P∈Z,pD.In w' Db P)/\∀a,aH Y=some a->¬Fs a/\aH oa≠some a,
   ⟨_,0,S,Lo,Fs,Do,rfl,Qj _,rfl,m,e0.symm,V,oM,g4,k8,h0⟩,?_⟩
  rintro H c3 h1 h5 _ _ h2 ⟨e,y,b0,l4,h3,rfl,hj,rfl,K,R,l5,b8,c4,h4,e2⟩;have p2:=K.keep.size;have m7:=K.out.len dC;refine al.dec (λj5=>?_) (λj6=>?_)
  ·obtain⟨P,i⟩:∃P,Z[e]? =some P:=⟨_,Qq oM⟩
   have h7:x[e]? =some P.x:=by rw[<-d8,Q9,i];rfl
   have a8:x.drop e=P.x::x.drop (e+1):=by
    rw[X4 (Qv.1 h7).1]
    congr 1
    exact(Qv.1 h7).2
   have h8:eA (P.x::x.drop (e+1)) y (b0.map (·.x))=if(y.add P.x).1=0 then eA (x.drop (e+1)) (y.add P.x).2 (b0.map (·.x)++[P.x])else eA (x.drop (e+1)) (y.add P.x).2 (b0.map (·.x)):=rfl
   rw[a8,h8]at R;have d1:=h4 P (QZ i);obtain⟨gb,go,es,ha,j7,p3,d2,rfl,-⟩:=(c4.row (bytes:=96) dC ba).el e P i;refine⟨gb,go,ha,oM,oM,bB (es:=aD P.x P.a P.n P.c) (k:=10) (bf _ _ _ _) rfl (λI ht=>by rw[Qx];exact d2 I ht) (PA.mk λp4 l6 p5 l7=>aC (bf P.x P.a P.n P.c) l7 rfl λl8 l9 p6 h9=>ar (bf P.x P.a P.n P.c) h9 ?_)⟩;have a4:ai h2 l8:=l6.new l9 λb d=>.inr (by have d:b=h2.heap.size:=d;omega);have p7:=a4.size;have m0:=K.buf.Jb;have i0:=c4.aE;refine PC.ok ((K.af a4).add (d1.keep a4 λ_ _ h=>h).1 (λa g=>⟨by have:=(m0 a g).1;omega,(K.nD a g).2⟩) d1.2 oM) ?_;rintro _ m1 ⟨rfl,e3,T,a6,i1⟩;have p8:=a6.size;have b5:=K.set.aE;have z:=a6.get h9 λl=>by have:=b5 _ l;omega
   have f6:=y.zi P.x;have c6:=(c4.af a4).keep a6 λa g=>(e2 a g).1;have c7:∀a∈Z,pD.In m1 Db a:=λa g=>((h4 a g).keep a4 λ_ _ h=>h).keep a6 λc8 Q=>(K.nD c8 Q).2;have a7:∀a,aH Y=some a->¬e3 a/\aH c3≠some a:=λa g=>⟨λl=>(i1 a l).elim (e2 a g).1 λf=>by have:=i0 a g;omega,(e2 a g).2⟩
   refine⟨_,rfl,al.eD (λq=>?_) (λq=>?_)⟩
   ·rw[Zx q]at R
    refine⟨_,_,_,_,_,_,_,_,_,_,_,_,ae z rfl,ae z rfl,ae z rfl,ae z rfl,ae z rfl,ae z rfl,ae z rfl,ae z rfl,ae z rfl,ae z rfl,PA.mk λp9 c0 q0 m2=>?_⟩;have i2:=T.af c0;have e1:=T.buf.Jb;have q1:=c0.size;refine i2.push vU ((c7 P (QZ i)).keep c0 λ_ _ h=>h) (λa g=>⟨.inr (T.nD a g).1,by have:=(e1 a g).1;omega,(e1 a g).2,(T.nD a g).2,λn=>(T.nA a n).2.2.2.2 g⟩) m2 oM λa' c' q2 O i3 f0 i4=>⟨_,_,_,rfl,_,oM,e+1,_,_,e3,O,an oM,oM,rfl,i3,?_,?_,?_,(c6.af c0).keep f0 λa g n=>(a7 a g).2 n,λa g=>((c7 a g).keep c0 λ_ _ h=>h).keep f0 λc8 Q n=>(T.nA c8 n).2.2.2.2 Q,λa g=>⟨(a7 a g).1,λn=>?_⟩⟩
    ·rw[Q3];exact R
    ·rw[QX,List.length_singleton];omega
    ·rw[QX,List.length_singleton];omega
    ·rcases i4 a n with f|f
     ·exact(a7 a g).2 f
     ·have:=c6.aE a g;omega
   ·rw[Zq q]at R
    have a9:(y.add P.x).2.l.length<=y.l.length:=by
     rcases y.gP P.x with⟨-,f⟩|⟨f,-⟩
     ·rw[f];exact Q4 _
     ·rw[f]at q;exact Zz rfl q
    exact⟨_,oM,e+1,_,b0,e3,h3,an oM,oM,rfl,T,R,oM,oM,c6,c7,a7⟩
  ·rw[List.drop_eq_nil_of_le oM]at R
   have i5:av=(y,b0.map (·.x)):=R.symm;rw[i5]at r;have q3:0<x.length:=by have:=List.length_pos_iff.2 W;rw[<-hR]at this;exact this
   exact⟨b2.length,oM,y,b2,b0,M,Db,l4,h3,k',rfl,K,oM,r,l5,oM⟩
end
section
variable {w w' w0 w1 w2:World} {p:Nat} {F E Dv:ZN} {cls:Nat->Nat} {h:jE} {c:cN} {self:Int} {X:bM} {m:dd} {va ea:YQ} {vn vc en ec:Nat}
def Og(hr:bN w p F c self X)(he:Env w0 w F){V:dw}(a6:X.log=some V)(c3:Row ia 96 w E ea en m.events)(N:∀P,E P->P<w.heap.size/\¬F P)(a7:m.events.length<=1000)(hl:X.S.l.length<=18000000):
  YX 46 #[ZL p,jO m va vn vc ea en ec] w (Ok λa5 w'=>∃O e,a5= .tuple #[O,ZH (mf c self X m).2.1]/\fe w e (mf c self X m).1 O w'/\bN w' p e c self (mf c self X m).2.2/\cQ F w e w'):=by
 obtain⟨g,h,cls,Q⟩:=hr;have R:=Q.aE;refine mQ (PA.mk λS q s8 T=>?_);obtain⟨a,U⟩:∃a,a=iy c X m.events:=⟨_,rfl⟩
 have y:∀{z},(if a.1=[]then([y_ X.S self m.bU],0,{X with waits:=a.2})else
   if(dt c {X with waits:=a.2} a.1).1≠0 then([],(dt c {X with waits:=a.2} a.1).1,{(dt c {X with waits:=a.2} a.1).2 with waits:=[]})else([y_ (dt c {X with waits:=a.2} a.1).2.S self m.bU],0,(dt c {X with waits:=a.2} a.1).2))=z->mf c self X m=z:=λ{z} d=>by rw[<-d,U];rfl
 refine⟨λw'=>∃e f,bN w' p e c self f/\cQ F w e w'/\(∀P,e P->F P\/S.heap.size<=P)/\w'.heap[w.heap.size]? =some (.cells (bZ m va vn vc ea en ec).toArray 60 (0,0))/\mf c self X m=([y_ f.S self m.bU],0,f),?_,?_⟩
 ·refine⟨_,_,_,ae T rfl,PC.ok (Oh (cP.af Q q) g (c3.af q) (λP b=>⟨by have:=(N P b).1;omega,(N P b).2⟩) a7 hl) ?_⟩
  rw[<-U];rintro _ W ⟨Y,on,oc,Lo,A,b0,Do,rfl,B,Z,c4,b2,i,r,c5,e0⟩;have hn:=B.len dC;have c6:Lo.length=a.1.length:=by rw[<-Z,Q8]
  have b3:=eZ.unbox B c4 λP b=>⟨(r P b).1,(r P b).2.1⟩
  rw[Sf,Z]at b3;have b4:Row ia 96 W (λP=>aH Y=some P\/Do P) Y on a.1:=b3.row dC ba;have C:cQ F w A W:=⟨(ai.keep q).then i.keep,λP b=>(i.new P b).imp id λh1=>oM⟩
  have H:∀P,A P->F P\/S.heap.size<=P:=i.new;have b5:=i.keep.get T λd=>by have:=R _ d;omega
  have c7:=(he.af q).Cn i;refine⟨_,_,_,rfl,al.dec (λd9=>?_) (λhz=>?_)⟩
  rotate_left
  ·have b6:a.1=[]:=QW oM
   exact⟨A,{X with waits:=a.2},⟨g,h,b0,b2⟩,C,H,b5,y (Zx b6)⟩
  have b7:a.1≠[]:=λs=>by rw[s,ZQ]at c6;omega
  refine PC.ok (IN b2 g c7 (V:=V) a6 b4 (λP b=>b.elim (λs=>⟨B.aE P s,λd=>(c5 P s).2 d.1⟩) λd=>⟨(r P d).1,(r P d).2.2⟩) (by show X.S.l.length+_<=_;omega)) ?_;rintro _ c8 ⟨rfl,k,F2,a1,t,I,-⟩;have a0:=C.trans I;have e1:=C.keep.size;refine⟨_,rfl,al.dV (λb8=>?_) (λh0=>?_)⟩
  ·obtain⟨a2,Db,b,hM,hD⟩:=(show NI c8 (λP=>F2 P/\a1 P=5) k.wp c.buffer.toNat (dt c {X with waits:=a.2} a.1).2.waits from t.at' 5)
   refine⟨p,0,rfl,_,ae (t.at' 0).2 rfl,PC.ok (ue b) ?_⟩;rintro _ e2 ⟨rfl,a3,c9⟩;obtain⟨F3,l,J,n,-⟩:=t.Cn bT (k:=5) (G':=a2) (C2:=lu p (k.cells c self) k c {(dt c {X with waits:=a.2} a.1).2 with waits:=[]} (dt c {X with waits:=a.2} a.1).2.S.l) ⟨c9.mono λP _ b=>hM P b,λP b=>.inl (hM P b)⟩ a3.Oi ⟨a2,_,a3,λ_ h=>h,λP b=>b.elim⟩ λa4 G hj hc=>by
    rcases a4 with _|_|_|_|_|_|_|a4<;>first|exact hc|exact Zz rfl hj
   refine⟨rfl,Ok.mk ?_⟩;rw[y ((Zq b7).trans (Zx b8))];exact⟨_,F3,rfl,fe.nil _ _ _,⟨g,k,l,J⟩,a0.trans n⟩
  ·refine⟨F2,(dt c {X with waits:=a.2} a.1).2,⟨g,k,a1,t⟩,a0,λP b=>(I.new P b).elim (H P) λK=>.inr (by have:=i.keep.size;omega),I.keep.get b5 λd=>?_,y ((Zq b7).trans (Zq (by simpa using h0)))⟩
   rcases H _ d with K|K
   ·have:=R _ K;omega
   ·omega
 ·rintro _ d0 ⟨e,f,d1,L,e3,d2,d3⟩ b9 d4
  obtain⟨-,h',o,M⟩:=d1;have u:ai d0 b9:=d4.keep;have j:=cP.af M u;refine⟨p,0,rfl,_,ae j.bw rfl,p,0,rfl,_,ae j.bw rfl,_,ae (u.get d2 id) rfl,PC.ok (IH (j.at' 3).1) ?_⟩;rintro _ d5 ⟨a8,n2,c2,G,rfl,c0,hG,v⟩;have c1:=c0.aE;have e4:=L.keep.size;have z2:=u.size;have d6:=v.size;refine⟨_,_,_,_,_,_,_,_,_,rfl,PA.mk λd7 x e5 d8=>?_⟩;have hm:br b9 [y_ f.S self m.bU] (.slice (ZM d5.heap.size) 1 1) d7:=br.one (D:=G) d8 ⟨(c0.af x).row dC (by show f.S.vec.length*8<=aO;rw[f.S.b_];have:f.S.n<=64:=(j.at' 3).1.1.n;unfold aO;omega),ef _ _⟩ (λP b=>⟨hG P b,by have:=c1 P b;omega,by have:=c1 P b;omega⟩) d6 (v.then x);rw[d3];exact Ok.mk ⟨_,e,rfl,hm.out j.aE oM,⟨g,h',o,cP.af j (v.then x)⟩,((L.keep.af u).af v).af x,L.new⟩
end
section
variable {w w' w0 w1 w2:World} {p:Nat} {F E Dv:ZN} {cls:Nat->Nat} {h:jE} {c:cN} {self:Int} {X:bM} {m:dd} {va ea:YQ} {vn vc en ec:Nat}
def nh.Bk(P:nh c self):1<=c.chunk/\c.chunk<=32:=by
 have:=P.right;unfold jR within at this;simp only[QK,Zk]at this;omega
def qz(hr:bN w p F c self X)(he:Env w0 w F)(V:Row aM 8 w Dv va vn m.vec)(f2:∀P,Dv P->P<w.heap.size/\¬F P)(c7:Row ia 96 w E ea en m.events)(hE:∀P,E P->P<w.heap.size/\¬F P)(hl:X.S.l.length<=18000000):
  YX 17 #[ZL p,jO m va vn vc ea en ec] w (Ok λW w'=>∃q f,W= .tuple #[q,ZH (cg c self X m).2.1]/\fe w f (cg c self X m).1 q w'/\bN w' p f c self (cg c self X m).2.2/\cQ F w f w'):=by
 have b0:=hr;obtain⟨x,h,cls,g⟩:=hr;have I:=g.aE;obtain⟨f3,h7,h9⟩:=x.bW;have i0:=x.Bk;refine ll (PA.mk λw8 Y s8 g8=>?_);have h8:=cP.af g Y;have no:∀{w1:World} {i:Int},ai w w1->cg c self X m=([],i,X)->Ok (λW w'=>∃q f,W= .tuple #[q,ZH (cg c self X m).2.1]/\fe w f (cg c self X m).1 q w'/\bN w' p f c self (cg c self X m).2.2/\cQ F w f w') (.returned (.tuple #[.slice none 0 0,ZH i])) w1:=λ{w1 i} J Z=>by
  rw[Z];exact Ok.mk ⟨_,F,rfl,fe.nil _ _ _,b0.af J,ai.keep J,λP a=>.inl a⟩
 refine⟨p,0,rfl,_,ae h8.bw rfl,gA Tryz.underlying95 ⟨_,rfl,?_⟩⟩;have c8:DL w (λP=>F P/\cls P=2) h.dp h.lp X.D X.log:=g.at' 2
 cases y:X.log with
 |none=>
  obtain⟨Fd,-,-,j⟩:=c8;rw[y]at j;have j:h.lp=none:=j;rw[j];exact al.tt rfl (no Y (by unfold cg;rw[y]))
 |some a8=>
 obtain⟨a9,a0,a6,-⟩:=DL.Of (y▸c8) (he.sub λP a=>a.1) λP a=>I P a.1;have K:∀{r},(if eR m c.bW.toNat c.chunk≠0 then([],eR m c.bW.toNat c.chunk,X)else if m.pF≠self then([],1,X)else if m.kind=3 then mf c self X m else
   if m.kind≠4 then(lH X.S self m c.chunk,0,{X with fV:=X.fV.za m.bU m.vec X.S.vec})else
   if X.S.missing m.vec c.chunk=[]then([],0,{X with fV:=X.fV.za m.bU m.vec X.S.vec})else([⟨3,self,m.bU,[],X.S.missing m.vec c.chunk⟩],0,{X with fV:=X.fV.za m.bU m.vec X.S.vec}))=r->cg c self X m=r:=λ{r} l=>by rw[<-l];unfold cg;rw[y]
 rw[a0];refine al.ff rfl λf4 c9=>?_;have L:ai w f4:=Y.then c9.keep;have d0:=cP.af g L;have d1:=(c9.keep (S:=λ_=>False)).get g8 id;refine ar (jy m va vn vc ea en ec) d1 ⟨p,0,rfl,_,ae d0.bw rfl,p,0,rfl,_,ae d0.bw rfl,?_⟩;rw[f3];refine PC.ok (NZ (V.af L) (c7.af L) oM) ?_;rintro _ i1 ⟨rfl,d2⟩;have a1:=L.then d2;have f5:=cP.af g a1;have d3:=d2.get d1 id;refine⟨_,rfl,al.dV (λs=>no a1 (K (Zx s))) (λs=>⟨_,ae d3 rfl,p,0,rfl,_,ae f5.bw rfl,λf6 d4=>?_⟩)⟩;have k:ai w f6:=a1.then d4.keep;have i2:=cP.af g k;have b8:=(d4.keep (S:=λ_=>False)).get d3 id;have b9:¬eR m c.bW.toNat c.chunk≠0:=by simpa using s
 refine al.dV (λM=>no k (K ((Zq b9).trans (Zx M)))) (λM=>⟨_,ae b8 rfl,al.eD (λj=>?_) (λj=>λd5 d6=>?_)⟩)
 ·have Z:=K (((Zq b9).trans (Zq (by simpa using M))).trans (Zx j))
  have d7:m.events.length<=1000:=by
   have d:=s;unfold eR at d;simp only at d;rw[Zx j]at d;split at d
   ·cases d
   ·unfold eS at d
    split at d
    ·cases d
    split at d
    ·cases d
    ·omega
  refine ar (jy m va vn vc ea en ec) b8 (PC.ok (Og (b0.af k) (he.af k) y (c7.af k) (λP a=>⟨by have:=(hE P a).1;have:=k.size;omega,(hE P a).2⟩) d7 hl) ?_);rintro _ i3 ⟨q,f,rfl,b1,g0,b2⟩;have g1:=b1;obtain⟨a2,n2,c2,a7,D,rfl,o2,o3,o4,o5,o6⟩:=b1;refine⟨_,_,_,_,rfl,Ok.mk ?_⟩;have f0:=k.size;rw[Z];exact⟨_,f,rfl,⟨a2,n2,c2,a7,D,rfl,o2,o3,o4,λP a=>⟨by have:=(o5 P a).1;omega,(o5 P a).2⟩,λP a=>⟨by have:=(o6 P a).1;omega,(o6 P a).2⟩⟩,g0,(ai.keep k).then b2.keep,λP a=>(b2.new P a).imp id λd=>oM⟩
 ·have c0:ai w d5:=k.then d6.keep
  have N:=cP.af g c0;have c1:=(d6.keep (S:=λ_=>False)).get b8 id;have d8:ei d5 h.tp (λP=>F P/\cls P=6) X.fV:=N.at' 6;have fy:=(N.at' 3).1;have nS:¬(F p/\cls p=6):=λi=>by have:=i.2;rw[g.IM.2]at this;cases this
  have d9:¬(F w.heap.size/\cls w.heap.size=6):=λi=>by have:=I _ i.1;omega
  refine⟨λP=>F P/\cls P=6,p,0,rfl,nS,_,ae N.bw rfl,d9,_,ae c1 rfl,d9,_,_,_,ae c1 rfl,p,0,rfl,_,ae N.bw rfl,PC.ok (lx fy) ?_⟩;rintro _ g2 ⟨a2,n2,c2,G,rfl,e0,z,hG⟩;have hN:X.S.n<=64:=fy.1.n;have g3:Row aM 8 g2 G a2 n2 X.S.vec:=e0.row dC (by rw[X.S.b_];unfold aO;omega);have i4:=c0.size;have i5:=z.size;have A:=c0.then z;refine⟨_,_,_,rfl,ai.keep z,PC.ok (IP (d8.af z) ((V.af A).sX) g3.sX λ_=>dx.2 λP a l=>?_) ?_⟩
  ·have:=hG P (e0.self P a);have:=I P l.1;omega
  rintro _ c4 ⟨G6,rfl,a3,b3⟩;obtain⟨O,e,B,b,-⟩:=(cP.af g A).Cn bT (k:=6) (G':=G6) (C2:=lu p (h.cells c self) h c {X with fV:=X.fV.za m.bU m.vec X.S.vec} X.S.l) b3 a3.aE a3 λa4 G hj s=>by
   rcases a4 with _|_|_|_|_|_|_|a4<;>first|exact s|exact Zz rfl hj
  have n:cQ F w O c4:=⟨(ai.keep A).then b.keep,λP a=>(b.new P a).imp id λd=>by have:=A.size;omega⟩
  have Q:=b.keep.get (z.get c1 id) λl=>by have:=I _ l;omega
  have b4:=(V.af A).keep b.keep λP a=>(f2 P a).2;have i6:=n.keep.size;have c5:=λ{r} l=>K (r:=r) (((Zq b9).trans (Zq (by simpa using M))).trans ((Zq j).trans l));refine⟨_,rfl,b3.keep,_,ae Q rfl,al.dV (λR=>λe1 g4=>?_) (λR=>λe2 g5=>?_)⟩
  ·have C:ai c4 e1:=g4.keep
   have t:=cP.af B C;have i7:=C.size;refine⟨p,0,rfl,_,ae t.bw rfl,p,0,rfl,_,ae t.bw rfl,ar (jy m va vn vc ea en ec) (C.get Q id) ⟨p,0,rfl,_,ae t.bw rfl,PC.ok (IQ (t.at' 3).1 (show X.S.l.length<=20000000 by omega) (b4.af C)) ?_⟩⟩;rintro _ g6 c6;obtain⟨a5,S,c3,rfl⟩:=c6.sl;have b5:ai e1 g6:=by obtain⟨_,_,_,_,_,_,_,_,_,_,_,J⟩:=c6;exact J
   refine⟨_,_,_,rfl,Ok.mk ?_⟩;rw[c5 (Zx R)];exact⟨_,O,rfl,c6.out t.aE oM,⟨x,h,e,cP.af t b5⟩,(n.keep.af C).af b5,n.new⟩
  ·have o:ai c4 e2:=g5.keep
   have H:=cP.af B o;have i8:=o.size;refine⟨p,0,rfl,_,ae H.bw rfl,_,_,_,ae (o.get Q id) rfl,p,0,rfl,_,ae H.bw rfl,PC.ok (xV (H.at' 3).1 (by show X.S.l.length<=_;omega) (b4.af o)) ?_⟩;rintro _ e3 ⟨a5,S,c3,G3,rfl,T,u,g7⟩;have e4:=T.len dC;have b6:=T.aE;have e5:=cP.af H u;have i9:=u.size;have d7:(X.S.missing m.vec c.chunk).length<=32:=by
    unfold au.missing;rw[Qy];omega
   change aU ia 55 G3 e3 a5 S c3 (X.S.missing m.vec c.chunk)at T
   refine⟨_,_,_,rfl,al.dec (λh6=>λe6 g9=>?_) (λhz=>Ok.mk ?_)⟩
   ·have e7:X.S.missing m.vec c.chunk≠[]:=λi=>by
     have b7:S=(X.S.missing m.vec c.chunk).length:=e4;rw[i,ZQ]at b7;omega
    have v:ai e3 e6:=g9.keep;have e8:=cP.af e5 v;have j0:=v.size;refine⟨p,0,rfl,_,ae e8.bw rfl,_,ae (v.get (u.get (o.get Q id) id) id) rfl,PA.mk λh0 U j1 h2=>Ok.mk ?_⟩;have hm:br e2 [⟨3,self,m.bU,[],X.S.missing m.vec c.chunk⟩] (.slice (ZM e6.heap.size) 1 1) h0:=br.one (m:=⟨3,self,m.bU,[],X.S.missing m.vec c.chunk⟩) (va:=none) (vn:=0) (vc:=0) (D:=G3) h2 ⟨ef _ _,((T.af v).af U).row dC ba⟩ (λP a=>⟨g7 P a,by have:=b6 P a;omega,by have:=b6 P a;omega⟩) oM ((u.then v).then U);rw[c5 ((Zq (by simpa using R)).trans (Zq e7))];exact⟨_,O,rfl,hm.out H.aE oM,⟨x,h,e,cP.af e8 U⟩,(((n.keep.af o).af u).af v).af U,n.new⟩
   ·have e9:X.S.missing m.vec c.chunk=[]:=QW (by
     have b7:S=(X.S.missing m.vec c.chunk).length:=e4;omega)
    rw[c5 ((Zq (by simpa using R)).trans (Zx e9))];exact⟨_,O,rfl,fe.nil _ _ _,⟨x,h,e,e5⟩,(n.keep.af o).af u,n.new⟩
end
section
variable {w w' w0 w1 w2:World} {p:Nat} {F E Dv:ZN} {cls:Nat->Nat} {h:jE} {c:cN} {self:Int} {X:bM}
def Eb(O:bN w p F c self X)(t:Env w0 w F)(Q:aN e):
  YX 25 #[ZL p,ZH e] w (Ok λR w'=>∃r,R= ZH (ix c X e).1/\bN w' p r c self (ix c X e).2/\cQ F w r w'/\(ix c X e).2.S.l.length<=16777216):=by
 obtain⟨B,h,cls,s⟩:=O;have b8:=s.aE;have b9:=s.IM;have u:bK w F cls (recC p (xh h c self h.lp (ZM h.sp) (ZM h.bp)) {h with lp:=none} c {X with log:=none} false):=
  ⟨λk=>by
   have f:=s.at' k;rcases k with _|_|_|_|_|_|_|k<;>first|exact f|trivial|(intro S;cases S)|(obtain⟨Fd,i,v,T⟩:=f;exact⟨Fd,i,v,rfl⟩),s.aE⟩
 obtain⟨Fd,U,n,-⟩:=(show DL w (λP=>F P/\cls P=2) h.dp none X.D none from u.at' 2)
 refine mO ⟨p,0,rfl,_,ae (u.at' 0).2 rfl,PC.ok (Kt U Q) ?_⟩;rintro _ V ⟨C,rfl,E,H⟩;obtain⟨W,Y,x,o,-⟩:=u.Cn gU (k:=2) (G':=C) (C2:=recC p (xh h c self h.lp (ZM h.sp) (ZM h.bp)) {h with lp:=none} c {X with log:=none,D:=X.D.dY e} false) ⟨H.keep.mono λP _ a=>n P a,λP a=>(H.new P a).imp (n P) id⟩ (λP a=>E.aE P a) ⟨C,E,λP a=>a,rfl⟩ λb G j f=>by
  rcases b with _|_|_|_|_|_|_|b<;>first|exact f|exact Zz rfl j
 obtain⟨I,Db,a,J,hD⟩:=(show NI V (λP=>W P/\Y P=5) h.wp c.buffer.toNat X.waits from x.at' 5)
 refine⟨rfl,p,0,rfl,_,ae (x.at' 0).2 rfl,PC.ok (ue a) ?_⟩;rintro _ c0 ⟨rfl,K,Z⟩;obtain⟨l,g,d,m,-⟩:=x.Cn gU (k:=5) (G':=I) (C2:=recC p (xh h c self h.lp (ZM h.sp) (ZM h.bp)) {h with lp:=none} c {X with log:=none,D:=X.D.dY e,waits:=[]} false) ⟨Z.mono λP _ a=>J P a,λP a=>.inl (J P a)⟩ K.Oi ⟨I,_,K,λ_ h=>h,λP a=>a.elim⟩ λb G j f=>by
  rcases b with _|_|_|_|_|_|_|b<;>first|exact f|exact Zz rfl j
 refine⟨rfl,p,0,rfl,_,ae (d.at' 0).2 rfl,PC.ok (IS (d.at' 6)) ?_⟩;rintro _ y ⟨rfl,a3,L⟩;have z:bK y l g (recC p (xh h c self h.lp (ZM h.sp) (ZM h.bp)) {h with lp:=none} c {X with log:=none,D:=X.D.dY e,waits:=[],fV:=⟨X.fV.df,[],[]⟩} false):=d.same gU (k:=6) L a3 λb G j f=>by
  rcases b with _|_|_|_|_|_|_|b<;>first|exact f|exact Zz rfl j
 have M:cQ F w l y:=by
  have i:=o.trans m;exact⟨i.keep.new (L.mono λP _ a=>a.1) λP a=>i.new P a,i.new⟩
 have a5:=t.Cn M;have b3:=DL.tO (show DL y (λP=>l P/\g P=2) h.dp none (X.D.dY e) none from z.at' 2) (a5.sub λP a=>a.1);refine⟨rfl,p,0,rfl,_,ae (z.at' 0).2 rfl,PC.ok (Nf t.laid b3) ?_⟩;rintro _ c1 ⟨rfl,a0,b4⟩;obtain⟨G2,b5,a6,b6,-⟩:=DL.MC (Y:=λ_=>False) (a0.mono λP a=>a.elim id False.elim) b4;obtain⟨c2,b7,a7,a1,-⟩:=z.Cn gU (k:=2) (G':=G2) (C2:=recC p (xh h c self h.lp (ZM h.sp) (ZM h.bp)) {h with lp:=none} c {X with log:=none,D:=dq (X.D.dY e),waits:=[],fV:=⟨X.fV.df,[],[]⟩} false) a6 b6 (by
   obtain⟨Fd,i,v,T⟩:=b5;exact⟨Fd,i,v,rfl⟩) λb G j f=>by
  rcases b with _|_|_|_|_|_|_|b<;>first|exact f|exact Zz rfl j
 have N:=M.trans a1;refine⟨rfl,PC.ok (xW (h:={h with lp:=none}) (z1:=h.lp) (z2:=ZM h.sp) (z3:=ZM h.bp) a7 B (t.Cn N)) ?_⟩;rintro _ c3 ⟨rfl,a8,h',r,q,A,a9⟩;exact⟨_,rfl,Ok.mk ⟨r,rfl,⟨B,h',q,A⟩,N.trans a9,a8⟩⟩
def Qb(r:bN w p F c self X)(s:aN e):
  YX 59 #[ZL p,ZH e] w (Ok λt w'=>∃l,t= .tuple #[]/\bN w' p l c self {X with D:=X.D.Kq e}/\cQ F w l w'):=by
 obtain⟨u,h,cls,g⟩:=r;obtain⟨Fd,v,i,b⟩:=(show DL w (λP=>F P/\cls P=2) h.dp h.lp X.D X.log from g.at' 2)
 refine nN ⟨p,0,rfl,_,ae g.bw rfl,PC.ok (Nu s v) ?_⟩;rintro _ m ⟨rfl,x,j⟩;have y:cP m F cls p h c self {X with D:=X.D.Kq e}:=bK.same g bT (k:=2) (j.keep.mono λP _ a=>i P a) (by
  refine⟨Fd,x,i,?_⟩;show match X.log with
   |none=>h.lp=none
   |some k=>k.bd≠[]/\∃d f,h.lp=some ⟨d,0,none⟩/\iP m h.dp d f k/\∀P,f P->(F P/\cls P=2)/\¬Fd P
  cases n:X.log with
  |none=>rw[n]at b;exact b
  |some k=>
   rw[n]at b;obtain⟨z,d,f,A,B,o⟩:=b;exact⟨z,d,f,A,B.keep j.keep λP a=>(o P a).2,o⟩) λq G C E=>by
  rcases q with _|_|_|_|_|_|_|q<;>first|exact E|exact Zz rfl C
 exact⟨rfl,Ok.mk ⟨F,rfl,⟨u,h,cls,y⟩,j.keep.mono λP _ a=>(i P a).1,λP a=>.inl a⟩⟩
def Dp{V:dw}{D:ak}{l:List ah}{size:Int}(a:(aR V D l size).no=0):(aR V D l size).V.bd≠[]:=by
 revert a
 unfold aR;split
 ·rename_i P;intro h;exact Zz h P
 split
 ·rename_i P;intro h;exact Zz h P
 ·exact BR
def xE(R:bN w p F c self X)(A:Env w0 w F)(hl:X.S.l.length<=18000000):
  YX 24 #[ZL p] w (Ok λa2 w'=>∃S,a2= ZH (d_ c X).1/\bN w' p S c self (d_ c X).2/\cQ F w S w'):=by
 have a6:=R;obtain⟨T,h,cls,n⟩:=R;have a8:=n.aE;refine lq ⟨p,0,rfl,_,ae n.bw rfl,gA Tryz.underlying95 ⟨_,rfl,?_⟩⟩;have U:DL w (λP=>F P/\cls P=2) h.dp h.lp X.D X.log:=n.at' 2
 cases l:X.log with
 |none=>
  obtain⟨Fd,-,-,i⟩:=U;rw[l]at i;have i:h.lp=none:=i;rw[i];have o:d_ c X=(15,X):=by unfold d_;rw[l]
  rw[o];exact al.tt rfl (Ok.mk ⟨F,rfl,a6,cQ.refl _ _⟩)
 |some b=>
 obtain⟨y,e,B,-⟩:=DL.Of (l▸U) (A.sub λP a=>a.1) λP a=>a8 P a.1;have C:∀{j},(if(aR b X.D X.S.l c.bl).no≠0 then((aR b X.D X.S.l c.bl).no,{X with D:=(aR b X.D X.S.l c.bl).D})else(0,{X with D:=(aR b X.D X.S.l c.bl).D,log:=some (aR b X.D X.S.l c.bl).V}))=j->d_ c X=j:=λ{j} E=>by rw[<-E];unfold d_;rw[l]
 rw[e];refine al.ff rfl λw9 d9=>?_;have V:ai w w9:=d9.keep;have m:=cP.af n V;have W:=n.IM;have H:¬(F p/\cls p=2):=λq=>by have:=q.2;rw[W.2]at this;cases this
 refine⟨λP=>F P/\cls P=2,p,0,rfl,H,_,ae m.bw rfl,p,0,rfl,H,_,ae m.bw rfl,p,0,rfl,_,ae m.bw rfl,p,0,rfl,H,_,ae m.bw rfl,PC.ok (qW (m.at' 3).1 oM) ?_⟩;rintro _ r ⟨b6,b7,cc,G,rfl,Y,I,hG⟩;have z:=cP.af m I;have s:=V.then I;have a9:=Y.aE;obtain⟨Z,g,-,J⟩:=DL.Of (show DL r (λP=>F P/\cls P=2) h.dp h.lp X.D (some b)from l▸z.at' 2) ((A.af s).sub λP a=>a.1) λP a=>z.aE P a.1;have E:Z=y:=by rw[e]at g;cases g;rfl
 subst E;refine⟨_,_,_,rfl,ai.keep I,?_⟩;rw[e];refine PC.ok (HI A.laid J (Y.row dC ba) a9 oM) ?_;have a0:=Dp (V:=b) (D:=X.D) (l:=X.S.l) (size:=c.bl);generalize aR b X.D X.S.l c.bl=j at C a0;rintro _ a3 ⟨K,a4,b0,a5,⟨t,rfl,b1⟩|⟨t,q3,rfl,b2⟩⟩
 ·obtain⟨Fd,h1,h2,i,h4⟩:=b1
  have L:∀P,¬(P<r.heap.size/\¬(F P/\cls P=2))->(F P/\cls P=2)\/r.heap.size<=P:=λP a=>by
   rcases Nat.lt_or_ge P r.heap.size with M|M
   ·exact .inl (Classical.byContradiction λh8=>a ⟨M,h8⟩)
   ·exact .inr M
  have a1:aj (λP=>F P/\cls P=2) r a3:=a5.mono λP b8 a=>(L P a).resolve_right oM;obtain⟨N,k,f,u,-⟩:=z.eV bT (k:=2) (G':=λP=>Fd P\/K P) (C2:=lu p (h.cells c self) h c {X with D:=j.D} X.S.l) a1 (λP a=>a.elim (λv=>L P λh6=>(i P v).2 (.inl h6)) λv=>L P (b0 P v).2) (λP a=>a.elim (h1.aE P) (a4.aE P)) (by
    refine⟨Fd,h1,λP a=>.inl a,?_⟩;show match X.log with
     |none=>h.lp=none
     |some b=>b.bd≠[]/\∃y Fl,h.lp=some ⟨y,0,none⟩/\iP a3 h.dp y Fl b/\∀P,Fl P->(Fd P\/K P)/\¬Fd P
    rw[l];exact⟨B,Z,K,e,a4,λP a=>⟨.inr a,λhd=>(i P hd).2 (.inr a)⟩⟩) λx G O o=>by
   rcases x with _|_|_|_|_|_|_|x<;>first|exact o|exact Zz rfl O
  refine⟨_,_,rfl,a1,al.eD (λQ=>Zz Q t) (λ_=>Ok.mk ?_)⟩;rw[C (Zx t)];exact⟨N,rfl,⟨T,h,k,f⟩,(ai.keep s).then u.keep,λP a=>(u.new P a).imp id λv=>by have:=s.size;omega⟩
 ·obtain⟨G2,b3,u,b4,hY⟩:=DL.Gy b2 a5 (a0 t)
  obtain⟨N,k,f,d,-⟩:=z.Cn bT (k:=2) (G':=G2) (C2:=lu p (h.cells c self) {h with lp:=ZM q3} c {X with D:=j.D,log:=some j.V} X.S.l) u b4 b3 λx G O o=>by
   rcases x with _|_|_|_|_|_|_|x<;>first|exact o|exact Zz rfl O
  refine⟨_,_,rfl,u.keep,al.eD (λ_=>⟨p,0,rfl,PS.mk (f.at' 0).2 sM λb9 a7 c0 b5=>Ok.mk ?_⟩) (λQ=>Zz rfl Q)⟩;rw[C (Zq (by simpa using t))];exact⟨N,rfl,⟨T,{h with lp:=ZM q3},k,cP.store f a7 b5⟩,((ai.keep s).then d.keep).then (a7.mono λP _ q=>by have q:P=p:=q;rw[q];exact W.1),λP a=>(d.new P a).imp id λv=>by have:=s.size;omega⟩
end
section
variable {w w' w0 w1 w2:World} {p:Nat} {F E D:ZN} {c:cN} {self:Int}
def iw(c:cN)(P:YQ)(tn a:Nat)(b:YQ)(d e:Nat):List Value:=[ZH c.bW,ZH c.tO,ZH c.bl,ZH c.chunk,ZH c.buffer,ZH c.df,ZH c.every,ZH c.start,.slice P tn a,.slice b d e]
abbrev od(c:cN)(P:YQ)(tn a:Nat)(b:YQ)(d e:Nat):Value:=.agg (iw c P tn a b d e).toArray
def su(c:cN)(P:YQ)(tn a:Nat)(b:YQ)(d e:Nat):iI ZP 29 (iw c P tn a b d e)=true:=kR
def ox:YX 70 #[ZH e,ZH q,ZH O] w (Ok λP w'=>P= .bool (within e q O)/\w=w'):=by
 refine ur (al.dec (λa=>Ok.mk ⟨?_,rfl⟩) (λa=>Ok.mk ⟨?_,rfl⟩))
 ·simp[within];omega
 ·simp[within];omega
def Oj{tn z A B:Nat}:YX 33 #[od c d tn z r A B,ZH self] w (Ok λk w'=>k= .bool (jR c self)/\ai w w'):=by
 refine yx (PA.mk λw1 t I a=>?_);have J:∀{l m n:Int} {o:Bool->Prop} {u:List PanicEntry->ZU},o (within l m n)->∃p v x,(Value.func (.func 70) #[] #[])= .func (.func p) v x/\enters ZP p=true/\PC ZP p (v++ #[ZH l,ZH m,ZH n]++x) w1 (λC E=>∃(y:Bool),C= .bool y/\E=w1/\o y) u:=λ{l m n o u} q=>by
  refine⟨_,_,_,rfl,kR,PC.ok ox ?_⟩;rintro _ _ ⟨rfl,rfl⟩;exact⟨_,rfl,rfl,q⟩
 have no:jR c self=false->Ok (λk w'=>k= .bool (jR c self)/\ai w w') (.returned (.bool false)) w1:=λF=>Ok.mk ⟨by rw[F],t⟩;have b:jR c self=(within c.bW 1 64&&(within self 0 (c.bW-1)&&(within c.tO 64 262144&&(decide (c.bl>=1)&&(decide (c.every>=1)&&(within c.chunk 1 32&&(within c.buffer 1 256&&(within c.df 1 1048576&&decide (c.start>=0))))))))):=by
  unfold jR;simp only[Bool.and_assoc]
 refine⟨_,ae a rfl,_,_,_,rfl,kR,PC.ok ox ?_⟩;rintro _ _ ⟨rfl,rfl⟩;refine⟨_,rfl,al.mk (λP=>⟨_,ae a rfl,_,_,_,rfl,kR,PC.ok ox ?_⟩) (λP=>no (by rw[b,P];rfl))⟩;have H:ZG .i64 (c.bW-1)=c.bW-1:=wrap_i64 (by have:=bI.1 P;unfold aN;omega);rw[H];rintro _ _ ⟨rfl,rfl⟩;refine⟨_,rfl,al.mk (λe=>⟨_,ae a rfl,_,_,_,rfl,kR,PC.ok ox ?_⟩) (λe=>no (by rw[b,P,e];rfl))⟩;rintro _ _ ⟨rfl,rfl⟩;refine⟨_,rfl,al.mk (λf=>⟨_,ae a rfl,al.mk (λg=>⟨_,ae a rfl,al.mk (λh=>⟨_,ae a rfl,_,_,_,rfl,kR,PC.ok ox ?_⟩) (λh=>no (by rw[b,P,e,f,g,h];rfl))⟩) (λg=>no (by rw[b,P,e,f,g];rfl))⟩) (λf=>no (by rw[b,P,e,f];rfl))⟩;rintro _ _ ⟨rfl,rfl⟩;refine⟨_,rfl,al.mk (λi=>⟨_,ae a rfl,_,_,_,rfl,kR,PC.ok ox ?_⟩) (λi=>no (by rw[b,P,e,f,g,h,i];rfl))⟩;rintro _ _ ⟨rfl,rfl⟩;refine⟨_,rfl,al.mk (λj=>⟨_,ae a rfl,_,_,_,rfl,kR,PC.ok ox ?_⟩) (λj=>no (by rw[b,P,e,f,g,h,i,j];rfl))⟩;rintro _ _ ⟨rfl,rfl⟩;refine⟨_,rfl,al.mk (λs=>⟨_,ae a rfl,Ok.mk ⟨by rw[b,P,e,f,g,h,i,j,s];rfl,t⟩⟩) (λs=>no (by rw[b,P,e,f,g,h,i,j,s];rfl))⟩
def QN{P a:Nat}(b:L.types[P]? =some c2)(d:a<c2.length):L.Dk (P:Int) (a:Int)=c2[a]? :=by
 have e:=(Qv.1 b).1;have c:L.at (P:Int)=c2:=by
  unfold aS.at;rw[Zx (bI.2 ⟨oM,oM⟩),Qx,QQ,b];rfl
 unfold aS.Dk;rw[c,Zx (by simp only[QK,bI];exact⟨⟨oM,oM⟩,oM,oM⟩),Qx]
end
section
variable {w w' w0 w1 w2:World} {p:Nat} {F E D:ZN} {c:cN} {self:Int}
def Lm{tn tc M pc:Nat}(h:bj w D L d tn r M)(hD:∀P,D P->P<w.heap.size):
  YX 35 #[.agg #[.slice d tn tc,.slice r M pc]] w (Ok λc4 w'=>∃u zl a2 e v k G,c4= .agg #[.slice u zl a2,.slice e v k]/\bj w' G L u zl e v/\(∀P,G P->w.heap.size<=P/\P<w'.heap.size)/\ai w w'):=by
 have f4:=h.aY.len;have b8:=h.aY.dO;have f5:=h.zJ.len;have f6:=h.zJ.dO;refine wh (PA.mk λN k4 s4 g4=>PA.mk λw5 k5 s5 g5=>⟨_,_,_,ae (k5.get g4 id) rfl,?_⟩);have x:=k4.then k5;refine zr (aU.nil (c:=uY) (e:=128) w5) Kx (h.zJ.af x) (λP a=>⟨by have:=hD P a;omega,λb=>by cases b⟩) (by rw[ZQ];unfold aO at*;omega) (by rw[ZQ];unfold aO at*;unfold maxLen;omega) λe k f Fp d1 k8 j6 d2=>⟨_,_,_,rfl,PA.mk λj7 g0 j8 g1=>PS.mk g1 sM λj9 g2 k0 g3=>PS.mk g3 sM λs g6 k1 g7=>?_⟩
 rw[List.nil_append,Xz]at d1;have a9:=d1.alone;have b9:∀P,aH e=some P->w5.heap.size<=P/\P<f.heap.size:=λP a=>⟨(d2 P a).elim False.elim id,a9.aE P a⟩
 have z8:=k8.size;have y:ai w5 f:=k8.mono λP _ b=>by cases b
 have z:ai f s:=(g0.new g2 λP a=>.inr (by have a:P=f.heap.size:=a;omega)).new g6 λP a=>.inr (by have a:P=f.heap.size:=a;omega);have b0:ai w s:=(x.then y).then z;have gp:=z.get (y.get (k5.get g4 id) id) id;have gr:=z.get (y.get g5 id) id;have b1:s.heap[f.heap.size]? =some (.cells #[.slice none 0 0,.slice e (0+M) k] 25 (0,0)):=g7;rw[Xz]at b1;have k2:=z.size;refine⟨_,_,_,ae gp rfl,λA a3 w'=>∃i:Nat,a3=i/\i<=tn/\A=tn-i/\aj (·=f.heap.size) s w'/\∃O Q oc R,w'.heap[f.heap.size]? =some (.cells #[.slice O Q oc,.slice e M k] 25 (0,0))/\aU ks 130 R w' O Q oc (L.types.take i)/\∀P,R P->s.heap.size<=P,
  ⟨_,0,rfl,Qj _,rfl,aj.refl _,none,0,0,λ_=>False,b1,aU.nil _,λ_ h=>h.elim⟩,?_⟩
 rintro A _ _ S ⟨i,rfl,hj,rfl,t,O,Q,oc,R,T,m,B⟩;have U:ai w S:=b0.new t λP a=>.inr (by have a:P=f.heap.size:=a;have:=x.size;have:=y.size;omega);have zk:=t.size;have b2:=t.get gp λb=>by have b:w.heap.size=f.heap.size:=b;have:=k4.size;omega
 refine al.dec (λk3=>?_) (λk6=>?_)
 ·have g8:i<L.types.length:=oM
  have V:L.types[i]? =some L.types[i]:=Qq g8;generalize L.types[i]=n at V;obtain⟨P,d5,es,ha,a,k7,d6,fa,fn,fc,rfl,W⟩:=(h.aY.af U).el i n V;have c0:=d6 0 dC;have g9:ks.k=1:=rfl;rw[g9,Nat.mul_one]at c0;have h0:=W.len;have c2:=W.dO;refine⟨P,d5,ha,oM,oM,fa,fn,fc,by rw[Qx];exact c0,PA.mk λk9 h3 l0 h4=>PS.mk h4 sM λj h6 l3 h7=>PA.mk λl4 d3 l5 h8=>PS.mk h8 sM λC d4 l6 h9=>?_⟩;have p:ai S C:=((h3.new h6 λP a=>.inr (by have a:P=S.heap.size:=a;omega)).then d3).new d4 λP a=>.inr (by have a:P=j.heap.size:=a;omega);have d7:=d4.get (d3.get h7 id) oM;have e3:=p.get b2 id;have l7:=p.size;have e4:=U.then p;refine⟨_,_,_,ae d7 rfl,λA a3 w'=>∃g:Nat,a3=g/\g<=fn/\A=fn-g/\aj (·=j.heap.size) C w'/\∃E F X Y,w'.heap[j.heap.size]? =some (.cells #[.slice E F X] 130 (0,0))/\aU oU 123 Y w' E F X (n.take g)/\∀P,Y P->C.heap.size<=P,
   ⟨_,0,rfl,Qj _,rfl,aj.refl _,none,0,0,λ_=>False,h9,aU.nil _,λ_ h=>h.elim⟩,?_⟩
  rintro A _ _ d8 ⟨g,rfl,hk,rfl,q,E,F,X,Y,gx,o,H⟩;have zx:=q.size;have b3:ai w d8:=e4.new q λP a=>.inr (by have a:P=j.heap.size:=a;have:=U.size;omega);have b4:=q.get e3 λb=>by have b:w.heap.size=j.heap.size:=b;have:=aA b2;omega
  refine al.dec (λj4=>?_) (λj5=>?_)
  ·have d9:g<n.length:=oM
   have I:n[g]? =some n[g]:=Qq d9;have a4:=QN V d9;rw[I]at a4;obtain⟨fb,fo,e6,-,-,-,-,ya,yn,yc,rfl,-,b5⟩:=(W.af p).el g n[g] I;generalize n[g]=J at I a4 b5;refine⟨_,_,_,_,_,_,ae b4 rfl,ae b4 rfl,PC.ok (oy (h.af b3) λP a=>by have:=hD P a;have:=b3.size;omega) ?_⟩;rw[a4];rintro _ e0 ⟨e1,Z,a0,cc,Fm,rfl,c3,e2⟩;have e8:=c3.aE;have l8:=e1.size;refine cm (IT J Z a0 cc) ⟨_,rfl,PA.mk λl9 i0 m0 i1=>aC (fl J Z a0 cc) i1 rfl λi2 i3 m1 a7=>?_⟩;have a5:ai e0 i2:=i0.new i3 λP a=>.inr (by have a:P=e0.heap.size:=a;omega);have b6:=e1.then a5;have e9:=b6.get gx id;refine⟨_,_,_,ae e9 rfl,_,_,_,_,_,_,ae a7 rfl,ae a7 rfl,ae a7 rfl,ae a7 rfl,PA.mk λi4 e5 m2 i5=>?_⟩;have a1:=b6.then e5;have f0:=(c3.af a5).af e5;have m3:=c3.len dC;have a8:Row fU 32 i4 Fm Z a0 J.bz:=f0.row dC (by
    obtain⟨_,_,_,_,_,_,_,_,_,_,hq,a8,_⟩:=(W.af p).el g J I;have h1:=a8.dO;have h2:=a8.len;rw[<-h2];exact h1)
   refine eJ (c:=oU) (x:=J) (o.af a1) PD i5 (D:=Fm) ⟨Z,a0,cc,rfl,a8,b5⟩ (λP a=>⟨by have:=e8 P a;have:=a5.size;omega,λb=>by have:=o.aE P (o.self P b);have:=e2 P a;omega⟩) (by rw[Qy];unfold aO at*;omega) (by rw[Qy];unfold aO at c2;unfold maxLen;omega) λa' c' m4 K f1 c5 c6=>⟨_,_,_,rfl,?_⟩
   have i6:¬aH E=some j.heap.size:=λb=>by have:=H _ (o.self _ b);omega
   have m5:=a1.size;have m6:=c5.size;have c:∀P,K P->C.heap.size<=P:=λP a=>by
    rcases c6 P a with l|l|l
    ·exact H P l
    ·have:=e2 P l;omega
    ·omega
   refine PS.mk (c5.get (a1.get gx id) i6) sM λm7 e7 m8 i7=>⟨_,oM,g+1,an (by unfold aO at c2;omega),oM,rfl,((q.af a1).new c5 λP a=>.inr (H P (o.self P a))).then e7,a',F+1,c',K,i7,?_,c⟩
   rw[Qw,I];exact f1.keep e7 λP a b=>by have b:P=j.heap.size:=b;have:=c P a;omega
  ·rw[Qz oM]at o
   have i8:aj (·=j.heap.size) C d8:=q;have b7:=q.get (p.get T id) λb=>by have b:f.heap.size=j.heap.size:=b;have:=aA T;omega
   refine⟨_,_,_,ae b7 rfl,_,_,_,ae gx rfl,PA.mk λi9 c7 m9 j0=>?_⟩;have a6:ai S i9:=(p.new q λP a=>.inr (by have a:P=j.heap.size:=a;omega)).then c7;refine eJ (c:=ks) (x:=n) (m.af a6) LR j0 (D:=Y) ⟨E,F,X,rfl,(o.af c7).row dC (by rw[<-h0];exact c2)⟩ (λP a=>⟨by have:=o.aE P a;omega,λb=>by have:=m.aE P (m.self P b);have:=H P a;omega⟩) (by rw[Qy];unfold aO at*;omega) (by rw[Qy];unfold aO at b8;unfold maxLen;omega) λa' c' n0 K f2 c8 c6=>⟨_,_,_,rfl,?_⟩
   have j1:¬aH O=some f.heap.size:=λb=>by have:=B _ (m.self _ b);omega
   have n1:=a6.size;have n2:=c8.size;have c:∀P,K P->s.heap.size<=P:=λP a=>by
    rcases c6 P a with l|l|l
    ·exact B P l
    ·have:=H P l;omega
    ·omega
   refine PS.mk (c8.get (c7.get b7 id) j1) sM λn3 c1 n4 j2=>⟨_,oM,i+1,an (by unfold aO at b8;omega),oM,rfl,((t.af a6).new c8 λP a=>.inr (B P (m.self P a))).then c1,a',Q+1,c',K,j2,?_,c⟩
   rw[Qw,V];exact f2.keep c1 λP a b=>by have b:P=f.heap.size:=b;have:=c P a;omega
 ·rw[Qz oM]at m
  have z5:=y.size;have f7:=t.get gr λb=>by have b:N.heap.size=f.heap.size:=b;omega
  have f8:=((a9.af z).keep t λP a b=>by have b:P=f.heap.size:=b;have:=b9 P a;omega)
  refine⟨_,_,_,_,_,_,ae T rfl,ae T rfl,PS.mk f7 sM λn8 c9 n9 j3=>PS.mk j3 sM λo0 d0 o1 f3=>⟨_,_,_,_,_,_,ae f3 rfl,ae f3 rfl,Ok.mk ⟨_,_,_,_,_,_,λP=>R P\/aH e=some P,rfl,⟨?_,?_⟩,?_,?_⟩⟩⟩
  ·exact(((m.row (bytes:=24) dC (by rw[<-f4];exact b8)).keep (c9.then d0) λP a b=>by have b:P=N.heap.size:=b;have:=B P a;omega)).mono λP a=>.inl a
  ·exact(((f8.row (bytes:=40) dC (by rw[<-f5];exact f6)).keep (c9.then d0) λP a b=>by have b:P=N.heap.size:=b;have:=b9 P a;omega)).mono λP a=>.inr a
  ·rintro P (a|a)
   ·have:=B P a;have:=m.aE P a;have:=x.size;have:=b0.size;omega
   ·have:=b9 P a;have:=x.size;omega
  ·exact U.new (c9.then d0) λP a=>.inr (by have a:P=N.heap.size:=a;have:=k4.size;omega)

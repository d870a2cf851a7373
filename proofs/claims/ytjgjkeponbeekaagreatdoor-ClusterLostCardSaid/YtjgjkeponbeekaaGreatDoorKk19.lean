import Derived.Test.YtjgjkeponbeekaaGreatDoorKk18
set_option maxHeartbeats 4000000
set_option linter.all false
set_option maxRecDepth 20000
namespace Go.Proofs.YtjgjkeponbeekaaGreatDoor
open Go.aw
variable{e:Int}{g1:List (Bx ah)}{a5:List bY}{f:ZN}{d:WP}
section
variable {w w' w0 w1:World} {p q:Nat} {F D E T:ZN} {m:bY} {M:List bY} {va ea a:WP} {vn vc en ec n c:Nat}
def zW(b:Row nC.kr 96 w D a n g1)(d:∀P,D P->P<w.heap.size):PP 156 #[.slice a n c] w (Ok (qC nC.kr 63 w g1)):=
 ia (wW tQ dC b d λf w' e=>Ok.mk e)
def tu(H:Row aP 8 w D va vn m.vec)(hD:∀n,D n->n<w.heap.size)(I:Row ku 96 w E ea en m.events)(T:∀n,E n->n<w.heap.size):
  PP 96 #[iP m va vn vc ea en ec] w (Ok λa2 w'=>∃p q J r s K G,a2=iP m p q J r s K/\Row aP 8 w' G p q m.vec/\Row ku 96 w' G r s m.events/\(∀n,G n->w.heap.size<=n/\n<w'.heap.size)/\ai w w'):=by
 obtain⟨f,U,l2,l3⟩:=fl.boxes (N:=nC) I;have b1:=H.fj;have b2:=H.len;have b3:=I.fj;have d0:=I.len;have d1:f.length=m.events.length:=by rw[<-U];simp
 refine zO (PA.mk λw1 V s1 W=>PA.mk λw2 x s2 g2=>⟨_,_,_,ae (x.get W id) rfl,PC.ok (bP (H.af (V.then x)) λn B=>by have:=hD n B;omega) ?_⟩);rintro _ w3 ⟨j,k,l,L,rfl,X,y,z⟩;have a3:=X.aE;have z3:=y.size;refine⟨_,_,_,rfl,PS.mk (y.get (x.get W id) id) (by simp[dZ]) λY M s4 Z=>⟨_,_,_,ae Z rfl,?_⟩⟩;have A:ai w Y:=((V.then x).then y).new M λn B=>.inr oM;refine PC.ok (zW (l2.af A) λn B=>by have:=T n B;have:=A.size;omega) ?_;rintro _ w5 ⟨b,o,g,F5,rfl,C,t,b4⟩;have z5:=t.size;have i:∀n,aG b=some n->Y.heap.size<=n:=λn B=>b4 n (C.self n B);have a4:∀n,aG b=some n->n<w5.heap.size:=λn B=>C.aE n (C.self n B);refine⟨_,_,_,rfl,PS.mk (t.get Z id) (by simp[dZ]) λu F s6 g6=>⟨_,_,_,ae g6 rfl,?_⟩⟩;have b5:ai w u:=(A.then t).new F λn B=>.inr oM;have b6:=F.get (t.get (M.get (y.get g2 id) oM) id) (show¬w1.heap.size=w.heap.size by omega);have b7:aV nC.kr 63 (λn=>aG b=some n) u b o g f:=C.alone.keep F λn B P=>by have:=i n B;omega
 have a5:aV aP 3 L u j k l m.vec:=((X.keep M λn B P=>by have:=z n B;omega).af t).keep F λn B P=>by have:=z n B;omega
 refine⟨λmm a8 w'=>∃a:Nat,a8=a/\a<=o/\mm=o-a/\dV nC 63 u b o g f a w',⟨_,0,rfl,Qj _,rfl,dV.start b7⟩,?_⟩;rintro mm _ _ N ⟨a,rfl,hj,rfl,c⟩;have d2:=c.len;have O:ai w N:=b5.new c.keep λn B=>.inr (by have:=i n B;have:=A.size;omega);have b8:¬aG b=some w.heap.size:=λP=>by have:=i _ P;omega
 have b9:¬aG b=some w1.heap.size:=λP=>by have:=i _ P;omega
 have g7:=c.keep.get g6 b8;have c1:=c.keep.get b6 b9;unfold aT at b3;refine al.dec (λd3=>λQ d8=>?_) (λd4=>?_)
 ·have d:ai N Q:=d8.keep
  have a6:=c.af d;obtain⟨e,rfl⟩:=c.some oM;have d5:=i e rfl;have c2:e<u.heap.size:=by have:=a4 e rfl;omega
  have R:f[a]? =some f[a]:=Qq oM;have v:=l3 f[a] (XY oM);generalize f[a]=bx at R v;have gx:=d.get g7 id;refine⟨λn=>n=e,by show w.heap.size≠e;omega,_,_,_,ae gx rfl,_,_,_,ae gx rfl,e,0,rfl,by omega,by omega,_,_,_,a6.cell rfl R (by show o*10<=aT;unfold aT;omega) 3 _ rfl,PC.ok (bP ((v.1.af O).af d) λn B=>by have:=T n B;have:=(O.then d).size;omega) ?_⟩;rintro _ w9 ⟨c0,n9,c9,G,rfl,a7,k9,hG⟩;refine⟨_,_,_,rfl,ai.keep k9,e,0,rfl,oM,oM,?_⟩;have z7:=c.keep.size;have z8:=d.size;refine(a6.af k9).step (g:=e) rfl R (a7.row (bytes:=8) dC ?_) v.2 (λa0 hx=>⟨by have:=hG a0 hx;omega,a7.aE a0 hx⟩) c2 λd6 a9 c4 d7=>⟨c4.mono λn _ P=>(by simpa[aG]using P.symm),_,?_,a+1,an oM,oM,rfl,a9⟩
  ·have:=v.1.fj;have h2:=v.1.len;rw[h2]at this;exact this
  ·omega
 ·obtain rfl:a=o:=oM
  obtain⟨Fd,S,c6⟩:=c.done;rw[U]at S;have z6:=c.keep.size;have a1:aV aP 3 L N j k l m.vec:=a5.keep c.keep λn B P=>by have:=i n P;have:=a3 n B;omega
  have b0:∀n,Fd n->w2.heap.size<=n:=λn B=>by
   rcases c6 n B with h|h
   ·have:=i n h;omega
   ·omega
  have c7:=S.aE;have c8:=a1.aE;refine ar (eU m j k l b a g) g7 (aC (eU m j k l b a g) c1 rfl λQ d s8 g8=>ar (eU m j k l b a g) g8 (Ok.mk ⟨j,k,l,b,a,g,λn=>L n\/Fd n,rfl,?_,?_,?_,?_⟩))
  ·exact(((a1.keep d λn B P=>by have P:n=w1.heap.size:=P;have:=z n B;omega).row dC (by rw[<-b2];exact b1)).mono λn B=>.inl B)
  ·exact(((show aV ku 63 Fd Q b a g m.events from S.keep d λn B P=>by have P:n=w1.heap.size:=P;have:=b0 n B;omega).row dC ba).mono λn B=>.inr B)
  ·rintro n (B|B)
   ·have:=z n B;have:=c8 n B;omega
   ·have:=b0 n B;have:=c7 n B;omega
  ·exact O.new d λn B=>.inr (by have B:n=w1.heap.size:=B;omega)
def ei(w:World)(q:Nat)(F:ZN)(M:List bY):Prop:=
 ∃(a:WP) (n c:Nat) (b:List Kg) (D:ZN),w.heap[q]? =some (.cells #[.slice a n c] 124 (0,0))/\aV OF 127 (λP=>aG a=some P) w a n c b/\b.map (·.m)=M/\(∀P∈b,P.In w D)/\(∀P,D P->F P/\aG a≠some P/\P≠q)/\(∀P,aG a=some P->F P/\P≠q)/\F q/\(∀P,F P->P<w.heap.size)/\M.length<=1024
def ei.keep(i:ei w q F M)(d:aj T w w')(e:∀P,F P->¬T P):ei w' q F M:=by
 obtain⟨a,n,c,j,D,k,l,m,o,f,g,h,p,r⟩:=i;exact⟨a,n,c,j,D,d.get k (e q h),l.keep d λP b=>e P (g P b).1,m,λP b=>(o P b).keep d λP b=>e P (f P b).1,f,g,h,λP b=>Qk (p P b) d.size,r⟩
def ei.af(n:ei w q F M)(P:ai w w'):ei w' q F M:=n.keep P λ_ _ n=>n
def ei.aE(b:ei w q F M):∀P,F P->P<w.heap.size:=by obtain⟨a,n,c,e,D,f,g,h,i,j,k,l,d,m⟩:=b;exact d
def ei.len(P:ei w q F M):M.length<=1024:=by obtain⟨a,n,c,d,D,e,f,g,h,i,j,k,l,b⟩:=P;exact b
def KP:PP 26 #[] w (Ok λa w'=>∃q F,a= ZL q/\ei w' q F []/\(∀n,F n->w.heap.size<=n)/\ai w w'):=
 Gw (PA.mk λw1 b d c=>Ok.mk ⟨_,λn=>n=w.heap.size,rfl,⟨none,0,0,[],λ_=>False,c,(aV.nil w1).mono (λn P=>P.elim) (λn P=>(by cases P)),rfl,sM,λn P=>P.elim,λn P=>(by cases P),rfl,λn P=>oM,sM⟩,λn P=>oM,b⟩)
def KN(P:ei w q F M):PP 28 #[ZL q] w (Ok λb w'=>b= ZH (M.length:Int)/\w=w'):=by
 obtain⟨a,n,c,h,D,d,e,f,i,j,k,l,m,o⟩:=P;have g:=e.len dC;exact s_ ⟨q,0,rfl,_,_,_,ae d rfl,Ok.mk ⟨by rw[g,<-f,Q8],rfl⟩⟩
def AX(w0:World)(n:Option bY)(a:Value)(w:World):Prop:=
 ∃va vn vc ea en ec G,a= .tuple #[iP (n.getD uY) va vn vc ea en ec,.bool n.isSome]/\Row aP 8 w G va vn (n.getD uY).vec/\Row ku 96 w G ea en (n.getD uY).events/\(∀P,G P->w0.heap.size<=P/\P<w.heap.size)
def yj(J:ei w q F M):PP 63 #[ZL q,ZH e] w (Ok λi w'=>AX w (dK M e) i w'/\ai w w'):=by
 obtain⟨a,n,c,K,D,u,v,x,L,y,h6,h7,z,h9⟩:=J;have hn:=v.len dC;have a0:K.length=M.length:=by rw[<-x,Q8]
 refine q_ (PA.mk λw1 g s1 A=>?_);have d:(e<0\/(M.length:Int)<=e)->oG ZP 127 (ZL w.heap.size) (iP uY none 0 0 none 0 0) w1 λj=>jZ ZP 127 (ZL w.heap.size) j λN=>Ok (λi w'=>AX w (dK M e) i w'/\ai w w') (.returned (.tuple #[N,.bool false])) j:=λO=>
  aC (eU uY none 0 0 none 0 0) A rfl λj Q s4 R=>ar (eU uY none 0 0 none 0 0) R (Ok.mk ⟨by rw[KV O];exact⟨none,0,0,none,0,0,λ_=>False,rfl,dx _ _,dx _ _,λP b=>b.elim⟩,g.new Q λP b=>.inr (by have b:P=w.heap.size:=b;omega)⟩)
 refine al.dec (λB=>d (.inl B)) (λa1=>⟨q,0,rfl,_,_,_,ae (g.get u id) rfl,al.dec (λa2=>d (.inr oM)) (λB=>⟨q,0,rfl,_,_,_,ae (g.get u id) rfl,?_⟩)⟩);obtain⟨h,rfl⟩:∃h:Nat,e=h:=⟨e.toNat,oM⟩
 obtain⟨P,S,f,es,rfl,b,-,C,T,rfl,-⟩:=((v.af g).row (bytes:=72) dC ba).HU (i:=h) oM;have E:=L f (QZ C);have U:dK M (h:Int)=some f.m:=by
  unfold dK;rw[Zx oM,Qx,<-x,Q9,C];rfl
 refine⟨P,S,rfl,oM,oM,ck (es:=dZ f.m f.va f.vn f.vc f.ea f.en f.ec) (k:=5) (eU _ _ _ _ _ _ _) rfl (λV W=>by rw[Qx];exact T V W) (PC.ok (tu (E.1.af g) (λP b=>by have:=z P (y P b).1;omega) (E.2.af g) λP b=>by have:=z P (y P b).1;omega) ?_)⟩;rintro _ w2 ⟨k,l,m,o,p,r,G,rfl,X,Y,s,H⟩;refine cx (Ei _ _ _ _ _ _ _) ⟨rfl,aC (eU _ _ _ _ _ _ _) (H.get A id) rfl λw3 t s3 Z=>ar (eU _ _ _ _ _ _ _) Z (Ok.mk ⟨?_,(g.then H).new t λP b=>.inr (by have b:P=w.heap.size:=b;omega)⟩)⟩;have I:∀P,G P->¬P=w.heap.size:=λP b=>by have:=s P b;omega
 rw[U];exact⟨k,l,m,o,p,r,G,rfl,X.keep t I,Y.keep t I,λP b=>⟨by have:=s P b;omega,by have:=s P b;omega⟩⟩
def HZ(z:ei w q F M)(hi:aM e):PP 62 #[ZL q,ZH e] w (Ok λr w'=>AX w (dK M e) r w'/\ei w' q F (gC M e)/\aj F w w'):=by
 have m:=z.aE;refine qZ (PA.mk λw1 A s1 U=>PC.ok (yj (z.af A)) ?_);rintro _ i ⟨⟨va,vn,vc,ea,en,ec,G,rfl,K,L,j⟩,v⟩;have z2:=v.size;have V:=(z.af A).af v;obtain⟨x,f⟩:∃x,dK M e=x:=⟨_,rfl⟩
 rw[f]at K L⊢;refine cx (Ei _ _ _ _ _ _ _) ⟨_,rfl,PA.mk λw3 o s3 W=>aC (eU _ _ _ _ _ _ _) W rfl λs t s4 X=>?_⟩;have Y:ai w s:=((A.then v).then o).new t λP b=>.inr (by have b:P=i.heap.size:=b;omega);have N:ei s q F M:=(V.af o).keep t λP b d=>by have d:P=i.heap.size:=d;have:=m P b;omega
 have Z:=t.get (o.get (v.get U id) id) (show¬w.heap.size=i.heap.size by omega);have a8:∀P,G P->w1.heap.size<=P/\P<i.heap.size:=j;have a1:=(K.af o).keep t λP b d=>by have d:P=i.heap.size:=d;have:=j P b;omega
 have a2:=(L.af o).keep t λP b d=>by have d:P=i.heap.size:=d;have:=j P b;omega
 have k:∀{p:World} {B:List bY},aj (λP=>F P) s p->ei p q F B->gC M e=B->jZ ZP 127 (ZL i.heap.size) p λa0=>oG ZP 127 (ZL w.heap.size) a0 p λu=>jZ ZP 127 (ZL w.heap.size) u λa3=>Ok (λr w'=>AX w x r w'/\ei w' q F (gC M e)/\aj F w w') (.returned (.tuple #[a3,.bool x.isSome])) u:=λ{p B} g hf hM=>by
  have n1:¬F i.heap.size:=λd=>by have:=m _ d;omega
  have n2:¬F w.heap.size:=λd=>by have:=m _ d;omega
  refine ar (eU _ _ _ _ _ _ _) (g.get X n1) (aC (eU _ _ _ _ _ _ _) (g.get Z n2) rfl λu l s6 C=>ar (eU _ _ _ _ _ _ _) C (Ok.mk ⟨?_,?_,?_⟩))
  ·have z5:=g.size;have z3:=o.size
   exact⟨va,vn,vc,ea,en,ec,G,rfl,(a1.keep g λP b d=>by have:=j P b;have:=m P d;omega).keep l λP b d=>by have d:P=w.heap.size:=d;have:=j P b;omega,(a2.keep g λP b d=>by have:=j P b;have:=m P d;omega).keep l λP b d=>by have d:P=w.heap.size:=d;have:=j P b;omega,λP b=>by have:=j P b;constructor<;>omega⟩
  ·rw[hM]
   exact hf.keep l λP b d=>by have d:P=w.heap.size:=d;have:=m P b;omega
  ·exact((ai.keep Y).then g).new l λP b=>.inr (by have b:P=w.heap.size:=b;omega)
 refine al.mk (λE=>?_) (λE=>k (aj.refl _) N (by unfold gC;rw[f,E];rfl));obtain⟨m0,rfl⟩:=Option.isSome_iff_exists.1 E;have a4:0<=e:=by
  unfold dK at f;split at f
  ·assumption
  ·cases f
 unfold dK at f;rw[Zx a4]at f;obtain⟨h,rfl⟩:∃h:Nat,e=h:=⟨e.toNat,oM⟩
 rw[Qx]at f;obtain⟨a9,b0⟩:=Qv.1 f;have a5:dK M (h:Int)=some m0:=by unfold dK;rw[Zx oM,Qx];exact f
 have a6:gC M (h:Int)=M.eraseIdx h:=by unfold gC;rw[a5];rfl
 obtain⟨a,n,c,H,D,O,Q,R,f4,I,y,S,f8,f9⟩:=N;have hn:=Q.len dC;have b1:H.length=M.length:=by rw[<-R,Q8]
 refine⟨q,0,rfl,_,_,_,ae O rfl,PC.ok (jo (FM.one (c:=OF) (tz:=0) Ey kR Q (show h<n by omega) (by unfold maxLen;omega) (R:=Ok λr w'=>r= .slice a (n-1) c/\aV OF 127 (λP=>aG a=some P) w' a (n-1) c (H.eraseIdx h)/\aj (λP=>aG a=some P) s w') λw' J hk=>Ok.mk ⟨rfl,J,hk⟩)) ?_⟩;rintro _ p ⟨rfl,a7,g⟩;refine⟨_,_,_,rfl,q,0,rfl,PS.mk (g.get O λd=>(y q d).2 rfl) sM λu l s6 C=>?_⟩;have T:aj (λP=>F P) s u:=(g.mono λP _ b=>(y P b).1).then (l.mono λP _ b=>by have b:P=q:=b;rw[b];exact S);refine k T ⟨a,n-1,c,H.eraseIdx h,D,C,a7.keep l λP b d=>(y P b).2 d,?_,λP b=>((f4 P ((List.eraseIdx_sublist ..).subset b)).keep g λP b=>(I P b).2.1).keep l λP b d=>(I P b).2.2 d,I,y,S,λP b=>by have:=f8 P b;have:=T.size;omega,?_⟩ a6
 ·rw[<-R,map_eraseIdx]
 ·have:=List.length_eraseIdx_le (l:=M) (i:=h);omega
def HT(e:ei w q F M){j lc:Nat}{R:List Kg}(S:aV OF 127 (λP=>aG d=some P) w d j lc R)(a0:R.map (·.m)=a5)(a8:∀P∈R,P.In w f)(T:∀P,f P->P<w.heap.size/\¬F P)(a9:∀P,aG d=some P->¬F P)(c9:j<=1000000):
  PP 64 #[ZL q,.slice d j lc] w (Ok λa2 w'=>∃(a3:Int) (F':ZN),a2= ZH a3/\ei w' q F' (HS M a5)/\cu F w F' w'):=by
 have hM:=e.len;have d0:=e.aE;have b0:=S.len dC;have d1:=S.lA;have d2:a5.length=j:=by rw[b0,<-a0,Q8]
 obtain⟨d3,s,d5,L0,D0,f1,f2,f3,f4,f5,f6,f7,f8,f9⟩:=id e;have b1:=f2.len dC;have b2:s=M.length:=by rw[b1,<-f3,Q8]
 have b3:IntKind.wrap .i64 (1024-((s:Nat):Int))=((1024-s:Nat):Int):=by rw[wrap_i64 bc];omega
 have a7:(if(IntKind.wrap .i64 (1024-((s:Nat):Int)))<((j:Nat):Int)then(IntKind.wrap .i64 (1024-((s:Nat):Int)))else((j:Nat):Int))=((min (1024-s) j:Nat):Int):=by rw[b3];split<;>omega
 obtain⟨x,hr⟩:∃x,min (1024-s) j=x:=⟨_,rfl⟩
 have b4:M++a5.take x=HS M a5:=by
  unfold HS;rw[<-hr,<-b2];rcases Nat.le_total (1024-s) j with u|u
  ·rw[X2 u]
  ·rw[Nat.min_eq_right u,Qz oM,Qz oM]
 rw[hr]at a7;refine rb ⟨q,0,rfl,_,_,_,ae f1 rfl,?_⟩;refine⟨oM,oM,λmm U w'=>∃(i:Nat) (t:ZN),U=i/\i<=x/\mm=x-i/\ei w' q t (M++a5.take i)/\cu F w t w',⟨_,0,F,rfl,Qj _,rfl,by simpa using e,cu.refl _ _⟩,?_⟩;rintro mm _ _ w1 ⟨i,t,rfl,hj,rfl,u,y⟩;have d6:=u.aE;have z1:=y.keep.size;have d7:∀P,P<w.heap.size->¬F P->¬t P:=λP b hf b5=>(y.new P b5).elim hf λe=>by omega
 refine al.dec (λd8=>?_) (λd9=>Ok.mk ⟨_,t,rfl,by rw[<-b4,show x=i by omega];exact u,y⟩);have b6:=S.keep y.keep λP b=>a9 P b;obtain⟨P,b7,h,es,rfl,b,-,hx,hc,rfl,-⟩:=(b6.row (bytes:=72) dC ba).HU (i:=i) oM;have b8:=(a8 h (QZ hx)).keep y.keep λP b=>(T P b).2;refine⟨P,b7,rfl,oM,oM,ck (es:=dZ h.m h.va h.vn h.vc h.ea h.en h.ec) (k:=5) (eU _ _ _ _ _ _ _) rfl (λU ht=>by rw[Qx];exact hc U ht) (PA.mk λw2 k2 s2 g2=>aC (eU _ _ _ _ _ _ _) g2 rfl λw3 k3 s3 g3=>?_)⟩;have I:ai w1 w3:=k2.new k3 λP b=>.inr (by have b:P=w1.heap.size:=b;omega);have h3:=u.af I;intro J d4;have C:ai w3 J:=d4.keep;have h4:=h3.af C;obtain⟨a,n,c,V,D,e1,e2,e3,e4,z,A,K,B,e9⟩:=h4;have hn:=e2.len dC;have e0:V.length=M.length+i:=by
  have:=Zj List.length e3;rw[Q8,QX,Qy]at this;omega
 have z4:=(I.then C).size;have a4:h.In J f:=(b8.keep I λ_ _ e=>e).keep C λ_ _ e=>e;refine⟨λ_=>False,q,0,rfl,id,_,_,_,ae e1 rfl,ar (eU _ _ _ _ _ _ _) (C.get g3 id) (PC.ok (tu a4.1 (λP b=>by have:=(T P b).1;omega) a4.2 λP b=>by have:=(T P b).1;omega) ?_)⟩;rintro _ w5 ⟨k,l,m,o,p,r,G,rfl,b9,c0,E,W⟩;refine⟨_,_,_,_,_,_,_,_,_,rfl,ai.keep W,PA.mk λX Y s6 g6=>⟨ai.keep Y,?_⟩⟩;have L:ai J X:=W.then Y;have z5:=W.size;refine fK (c:=OF) (x:=⟨h.m,k,l,m,o,p,r⟩) (D:=λ_=>False) (e2.af L) Ey g6 ⟨rfl,trivial⟩ (λP b=>b.elim) ba (by unfold maxLen;omega) λv c7 w7 F7 N H c1=>⟨_,_,_,rfl,q,0,rfl,PS.mk (H.get (L.get e1 id) λg=>(A q g).2 rfl) sM λZ O s8 g8=>?_⟩
 have Q:∀P,aG v=some P->aG a=some P\/X.heap.size<=P:=λP b=>(c1 P (N.self P b)).imp id λe=>e.resolve_left id;have z7:=H.size;have c2:aj t w1 Z:=(((ai.keep ((I.then C).then L):aj t w1 X)).then (H.mono λP _ b=>(A P b).1)).then (O.mono λP _ b=>by have b:P=q:=b;rw[b];exact K);have a1:aG v≠some q:=λg=>(Q q g).elim (λe=>(A q e).2 rfl) λe=>by have:=B q K;omega
 have c3:∀P,D P->aG v≠some P:=λP b g=>(Q P g).elim (z P b).2.1 λe=>by have:=B P (z P b).1;omega
 have c4:∀P,G P->aG v≠some P:=λP b g=>(Q P g).elim (λe=>by have:=B P (A P e).1;have:=E P b;omega) λe=>by have:=E P b;omega
 have a6:∀P,G P->P≠q:=λP b g=>by have:=E P b;have:=B q K;omega
 have c5:∀P,G P->aG a≠some P:=λP b g=>by have:=B P (A P g).1;have:=E P b;omega
 have c6:aV OF 127 (λP=>aG v=some P) Z v (n+1) c7 (V++[⟨h.m,k,l,m,o,p,r⟩]):=N.alone.keep O λP b g=>by have g:P=q:=g;exact a1 (g▸b)
 refine⟨_,oM,i+1,λP=>t P\/(J.heap.size<=P/\P<Z.heap.size),an oM,oM,rfl,⟨v,n+1,c7,V++[⟨h.m,k,l,m,o,p,r⟩],λP=>D P\/G P,g8,c6,?_,?_,?_,?_,.inl K,?_,?_⟩,y.trans ⟨c2,λP b=>b.imp id λe=>oM⟩⟩
 ·have c8:a5[i]? =some h.m:=by rw[<-a0,Q9,hx];rfl
  rw[Q3,e3,Qw,c8,XQ];rfl
 ·intro P b
  rcases Q6.1 b with b|b
  ·exact((((e4 P b).keep L λ_ _ e=>e).keep H λP b=>(z P b).2.1).keep O λP b g=>(z P b).2.2 g).mono λP b=>.inl b
  ·simp at b;subst b
   exact((((show Kg.In w5 G ⟨h.m,k,l,m,o,p,r⟩from⟨b9,c0⟩).keep Y λ_ _ e=>e).keep H λP b=>c5 P b).keep O λP b g=>a6 P b g).mono λP b=>.inr b
 ·rintro P (b|b)
  ·exact⟨.inl (z P b).1,c3 P b,(z P b).2.2⟩
  ·exact⟨.inr (by have:=E P b;omega),c4 P b,a6 P b⟩
 ·intro P b
  refine⟨(Q P b).elim (λe=>.inl (A P e).1) λe=>.inr ⟨oM,by have:=N.aE P (N.self P b);omega⟩,λg=>a1 (g▸b)⟩
 ·rintro P (b|b)
  ·have:=B P b;omega
  ·exact b.2
 ·rw[QX,Qy];omega
end
def XF:ky Nat:=flat 1 (λP=>[Value.pointer (ZM P)]) (λ_=>True) (λ_=>rfl) (λa b n=>by simp at n;subst n;rfl)
def Yb:kQ ZP 68 64 XF.k 8:=⟨kR,kR,dC⟩
def Ky(n:fS):iL ZP 40 (nQ n)=true:=kR
structure Kz where
 q:Nat
 a:WP
 n:Nat
 cc:Nat
 ps:List Nat
def js(P a:World->(ZN)->Prop)(b:bR)(c:List (Nat×bk)):Nat->World->(ZN)->Prop
 |0=>P
 |1=>a
 |k+2=>λd G=>∀n,c[k]? =some n->bU d n.1 G b k n.2
def Kept(n:World->(ZN)->Prop):Prop:=∀P a G b,n P G->aj b P a->(∀c,G c->¬b c)->n a G
def FX(a:Nat)(n:Kz)(b:Int)(c:World)(G:ZN):Prop:=G a/\c.heap[a]? =some (.cells #[.slice n.a n.n n.cc,ZL n.q,ZH b] 82 (0,0))/\aV XF 64 (λP=>aG n.a=some P) c n.a n.n n.cc n.ps/\∀P,aG n.a=some P->G P/\P≠a
abbrev cV(n:World)(c:ZN)(P:Nat->Nat)(d:Nat)(b:Kz)(a:Int)(e:bR)(f:List (Nat×bk))(g:List bY):Prop:=bb n c P (js (FX d b a) (λn G=>ei n b.q G g) e f)
variable{a:Nat}
section
variable {w w' w0 w1 w2:World} {p i:Nat} {F G G' T:ZN} {cls:Nat->Nat} {h:Kz} {c:bR} {X:ey} {now:Int} {rs:List (Nat×bk)} {ef fly' ms:List bY} {x:Nat×bk} {R':bk} {v:Value} {C0 C1 D0 D1:World->(ZN)->Prop}
def KA(b:Kept C0)(d:Kept C1):mr (js C0 C1 c rs):=by
 intro k w w' G T n P a
 match k,n with
 |0,n=>exact b _ _ _ _ n P a
 |1,n=>exact d _ _ _ _ n P a
 |k+2,n=>exact λx e=>(n x e).keep P a
def NW:Kept (FX p h now):=λw w' G T n P a=>⟨n.1,P.get n.2.1 (a p n.1),n.2.2.1.keep P λb c=>a b (n.2.2.2 b c).1,n.2.2.2⟩
def fE:mr (js (FX p h now) (λw G=>ei w h.q G ef) c rs):=KA NW λw w' G T n P a=>ei.keep n P a
def Ef(j:bb w F cls (js C0 C1 c rs))(l:mr (js C0 C1 c rs))(m:rs[i]? =some x)(e:bU w' x.1 G' c i R')(o:cu (λn=>F n/\cls n=i+2) w G' w'):
  ∃a P,bb w' a P (js C0 C1 c (rs.set i (x.1,R')))/\cu F w a w'/\(λn=>a n/\P n=1)=(λn=>F n/\cls n=1)/\(λn=>a n/\P n=0)=(λn=>F n/\cls n=0)/\∀n,a n->(F n/\cls n≠i+2)\/G' n:=by
 obtain⟨a,P,p,q,r,f,-⟩:=bb.iE j l o e.aE (C2:=js C0 C1 c (rs.set i (x.1,R'))) (λg b=>by
  rw[List.getElem?_set_self (Qv.1 m).1]at b
  injection b with b;subst b;exact e) λs G h d=>by
  match s,h,d with
  |0,_,d=>exact d
  |1,_,d=>exact d
  |k+2,h,d=>exact λg b=>d g (by rw[List.getElem?_set_ne oM]at b;exact b)
 exact⟨a,P,p,q,f 1 oM,f 0 oM,r⟩
def NX(d:bb w F cls (js C0 C1 c rs))(e:mr (js C0 C1 c rs))(f:D1 w' G')(g:∀P,G' P->P<w'.heap.size)(h:cu (λP=>F P/\cls P=1) w G' w'):
  ∃a n,bb w' a n (js C0 D1 c rs)/\cu F w a w'/\(λP=>a P/\n P=0)=(λP=>F P/\cls P=0)/\(λP=>a P/\n P=1)=G':=by
 obtain⟨a,n,i,j,-,l,m⟩:=bb.iE d e h g (C2:=js C0 D1 c rs) f λo G p b=>by
  match o,p,b with
  |0,_,b=>exact b
  |k+2,_,b=>exact b
 exact⟨a,n,i,j,l 0 oM,m⟩
def KB(b:bb w F cls (js C0 C1 c rs))(d:mr (js C0 C1 c rs))(a:aj (λn=>F n/\cls n=0) w w')(e:D0 w' λn=>F n/\cls n=0):bb w' F cls (js D0 C1 c rs)/\cu F w F w':=by
 refine⟨bb.same b d a e λf G g P=>?_,a.mono λn _ h=>h.1,λn i=>.inl i⟩
 match f,g,P with
 |1,_,P=>exact P
 |k+2,_,P=>exact P
def cV.af(n:cV w F cls p h now c rs ef)(P:ai w w'):cV w' F cls p h now c rs ef:=bb.af n fE P
def cV.c0(P:cV w F cls p h now c rs ef):FX p h now w (λn=>F n/\cls n=0):=P.at' 0
def cV.cell(n:cV w F cls p h now c rs ef):w.heap[p]? =some (.cells #[.slice h.a h.n h.cc,ZL h.q,ZH now] 82 (0,0)):=n.c0.2.1
def cV.nx(n:cV w F cls p h now c rs ef):aV XF 64 (λP=>aG h.a=some P) w h.a h.n h.cc h.ps:=n.c0.2.2.1
def cV.Wl(P:cV w F cls p h now c rs ef):ei w h.q (λn=>F n/\cls n=1) ef:=P.at' 1
def cV.rep(P:bb w F cls (js C0 C1 c rs))(a:rs[i]? =some x):bU w x.1 (λn=>F n/\cls n=i+2) c i x.2:=P.at' (i+2) x a
def cV.fG(d:cV w F cls p h now c rs ef)(a:ei w' h.q G' fly')(e:cu (λb=>F b/\cls b=1) w G' w'):∃P n,cV w' P n p h now c rs fly'/\cu F w P w':=by
 obtain⟨P,n,f,g,-⟩:=NX (D1:=λw G=>ei w h.q G fly') d fE a a.aE e;exact⟨P,n,f,g⟩
def cV.Yc(b:cV w F cls p h now c rs ef){now':Int}(d:aj (·=p) w w')(e:w'.heap[p]? =some (.cells #[.slice h.a h.n h.cc,ZL h.q,ZH now'] 82 (0,0))):cV w' F cls p h now' c rs ef/\cu F w F w':=by
 have n:=b.c0;exact KB (D0:=FX p h now') b fE (d.mono λP _ a=>by have a:P=p:=a;rw[a];exact n.1) ⟨n.1,e,n.2.2.1.keep d λP f=>(n.2.2.2 P f).2,n.2.2.2⟩
def cD(w0 w:World)(p:Nat)(F:ZN)(c:bR)(X:ey):Prop:=
 ∃h cls rs,cV w F cls p h X.now c rs X.ef/\h.ps=rs.map (·.1)/\X.aD=rs.map (·.2)/\rs.length=c.aD.toNat/\jY c 0/\Env w0 w F
def cD.af(P:cD w0 w p F c X)(n:ai w w'):cD w0 w' p F c X:=by
 obtain⟨h,cls,rs,a,b,d,e,f,g⟩:=P;exact⟨h,cls,rs,a.af n,b,d,e,f,g.af n⟩
def cD.keep(b:cD w0 w p F c X)(a:aj T w w')(d:∀n,F n->¬T n)(e:∀n,T n->w0.heap.size<=n):cD w0 w' p F c X:=by
 obtain⟨h,cls,rs,f,g,i,j,k,P⟩:=b;exact⟨h,cls,rs,bb.keep f fE a d,g,i,j,k,⟨P.qf,P.laid,P.gr.new a λn l=>.inr (e n l),P.aE⟩⟩
def cD.aE(P:cD w0 w p F c X):∀n,F n->n<w.heap.size:=by
 obtain⟨h,cls,rs,a,-⟩:=P;exact a.aE
def cD.env(n:cD w0 w p F c X):Env w0 w F:=by
 obtain⟨h,cls,rs,a,b,d,e,f,P⟩:=n;exact P
def cD.len(n:cD w0 w p F c X):X.aD.length=c.aD.toNat/\1<=c.aD/\c.aD<=64/\X.ef.length<=1024:=by
 obtain⟨h,cls,rs,P,e,a,b,d,f⟩:=n;obtain⟨g,i,j⟩:=d.aD;exact⟨by rw[a,Q8];exact b,oM,oM,P.Wl.len⟩
def kC(w0:World)(f:ZN)(x:iF)(v:Value)(w:World):Prop:=∃(P:WP) (a g:Nat) (b:WP) (c h:Nat) (d:WP) (e i:Nat) (G:ZN),v= .agg (fT x P a g b c h d e i).toArray/\
 Row gB 32 w G P a x.st.cells/\Row AA 120 w G b c x.KC/\Row Kf 24 w G d e x.rows/\∀n,G n->w0.heap.size<=n/\n<w.heap.size/\¬f n
def ML(a:World->(ZN)->ey->Prop)(w:World)(F:ZN)(b:Nat)(n:iF×ey)(v:Value)(w':World):Prop:=∃P,kC w P n.1 v w'/\a w' P n.2/\gD b n.2/\cu F w P w'
abbrev jj(w0 w:World)(p:Nat)(F:ZN)(c:bR)(n:Nat)(P:iF×ey)(v:Value)(w':World):Prop:=ML (λw F X=>cD w0 w p F c X) w F n P v w'
def QB(P:World->(ZN)->ey->Prop)(a:Nat):Prop:=∀w w' F T X,P w F X->aj T w w'->(∀n,F n->¬T n)->(∀n,T n->a<=n)->P w' F X
def Eg:QB (λw F X=>cD w0 w p F c X) w0.heap.size:=λ_ _ _ _ _ h n P a=>h.keep n P a
def Env.part(n:Env w0 w F):Env w0 w (λP=>F P/\cls P=a):=⟨n.qf,n.laid,n.gr,λP b=>n.aE P b.1⟩
def AU(f:cV w F cls p h now c rs ef)(t:rs[i]? =some x)(u:bU w1 x.1 G' c i R')(y:cu (λn=>F n/\cls n=i+2) w G' w1)(z:fL w G' ms v w1)(L:ms.length<=10000):
  PP 64 #[ZL h.q,v] w1 (Ok λv w'=>∃(e:Int) (d:ZN) (P:Nat->Nat),v= ZH e/\cV w' d P p h now c (rs.set i (x.1,R')) (HS ef ms)/\cu F w d w'/\aj (λn=>F n/\cls n=1) w1 w'):=by
 obtain⟨g,j,k,A,l,-⟩:=Ef f fE t u y;obtain⟨M,N,O,B,D,rfl,m,o,C,q,E⟩:=z;have b:=cV.Wl k;have H:=f.aE;have r:∀n,(g n/\j n=1)->n<w.heap.size:=λn a=>by
  have a:(λn=>g n/\j n=1) n:=a;rw[l]at a;exact H n a.1
 have Q:=m.len dC;have R:B.length=ms.length:=by rw[<-o,Q8]
 refine Calls.ok (HT b m o C (λn a=>⟨(q n a).2.1,λb=>by have:=r n b;have:=(q n a).1;omega⟩) (λn a b=>by have:=r n b;have:=(E n a).1;omega) oM) ?_;rintro _ w2 ⟨e,S,rfl,I,s⟩;obtain⟨d,P,J,K⟩:=cV.fG k I s;exact⟨e,d,P,rfl,J,A.trans K,by rw[<-l];exact s.keep⟩
end
def MM(n:iF)(P:WP)(a b:Nat)(c:WP)(d e:Nat)(f:WP)(g h:Nat):TU (ej ZP 53) (.agg (fT n P a b c d e f g h).toArray)=true:=kR
def WV(n:bR)(P:WP)(tn a:Nat)(b:WP)(c d:Nat):TU (ej ZP 27) (wZ n P tn a b c d)=true:=kR
variable{m:Array Value}{c:Nat}{E:Nat×Nat}{x:WP}{h:Program}{g p:TypeId}{M:Value->Prop}{b:World}{Q:aS}
def MN{es:List Value}(e:iL h g es=true)(f:b.heap[a]? =some (.cells m p E))(i:∀n,n<es.length->m[c+n]? =es[n]?)(j:M (.agg es.toArray)):jZ h g (.pointer (some ⟨a,c,none⟩)) b M:=
 ck e rfl (λn P=>by
  have d:=i n P;rw[Qq P]at d⊢;exact ae f d) j
section
variable {w w' w0 w1 w2:World} {p:Nat} {F E D Dv:ZN} {c:bR} {self:Int} {X:bk} {va ea:WP} {vn vc en ec:Nat}
def KS{tn m j o:Nat}(g:bt w D Q d tn x j):PP 23 #[.agg #[.slice d tn m,.slice x j o]] w (Ok λp w'=>(∃c:Bool,p= .bool c)/\ai w w'):=by
 have A:=g.aZ.len;have q:=g.aZ.fj;unfold aT at q;refine Gm (PA.mk λw1 n B P=>⟨_,_,_,ae P rfl,al.dec (λ_=>Ok.mk ⟨⟨_,rfl⟩,n⟩) (λ_=>⟨_,_,_,ae P rfl,al.dec (λ_=>Ok.mk ⟨⟨_,rfl⟩,n⟩) (λ_=>?_)⟩)⟩);refine⟨λe h w'=>∃a:Nat,h=a/\a<=tn/\e=tn-a/\w1=w',⟨_,0,rfl,Qj _,rfl,rfl⟩,?_⟩;rintro e _ _ _ ⟨a,rfl,C,rfl,rfl⟩;refine⟨_,_,_,ae P rfl,al.dec (λE=>?_) (λ_=>Ok.mk ⟨⟨_,rfl⟩,n⟩)⟩;obtain⟨c,i,F,H,rfl,I,-,J,r,K,k,L,rfl,l⟩:=(g.aZ.af n).HU (i:=a) oM;have f:=r 0 dC;have s:nB.k=1:=rfl;rw[s,Nat.mul_one]at f;have t:=l.fj;unfold aT at t;refine⟨_,_,_,ae P rfl,c,i,rfl,oM,oM,_,_,_,f,al.dec (λ_=>Ok.mk ⟨⟨_,rfl⟩,n⟩) (λ_=>?_)⟩;refine⟨λe h w'=>∃b:Nat,h=b/\b<=k/\e=k-b/\w1=w',⟨_,0,rfl,Qj _,rfl,rfl⟩,?_⟩;rintro e _ _ _ ⟨b,rfl,M,rfl,rfl⟩;refine⟨_,_,_,ae P rfl,c,i,rfl,oM,oM,_,_,_,f,al.dec (λN=>?_) (λ_=>⟨_,oM,a+1,an oM,oM,rfl,rfl⟩)⟩;obtain⟨u,v,O,y,rfl,-,-,R,z,S,T,U,rfl,-,-⟩:=l.HU (i:=b) oM;exact⟨_,_,_,ae P rfl,c,i,rfl,oM,oM,_,_,_,f,u,v,rfl,oM,oM,_,_,_,z 3 dC,al.dec (λ_=>Ok.mk ⟨⟨_,rfl⟩,n⟩) (λ_=>⟨_,oM,b+1,an oM,oM,rfl,rfl⟩)⟩
def bU.waits(b:bU w p F c self X):X.waits.length<=256:=by
 obtain⟨f,d,n,e⟩:=b;obtain⟨g,D,P,-,-⟩:=(show ON w (λa=>F a/\n a=5) d.wp c.buffer.toNat X.waits from e.at' 5)
 exact Xx P.1.2.le P.1.1
def bU.ok(n:bU w p F c self X):jY c self:=n.1
def cu.after(n:ai w w1)(P:cu F w1 f w2):cu F w f w2:=⟨(ai.keep n).then P.keep,λa b=>(P.new a b).imp id λc=>by have:=n.size;omega⟩

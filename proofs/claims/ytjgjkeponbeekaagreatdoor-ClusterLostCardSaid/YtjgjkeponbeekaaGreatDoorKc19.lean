import Derived.Test.YtjgjkeponbeekaaGreatDoorKc18
set_option linter.all false
set_option maxRecDepth 20000
namespace Go.Proofs.YtjgjkeponbeekaaGreatDoor
open Go.aq
structure fP where
 kind:Int
 n:Int
 m:Int
 cmd:kY
structure fP.Ok (s:fP):Prop where
 kind:aM s.kind
 n:aM s.n
 m:aM s.m
 cmd:s.cmd.Ok
def nG(n:fP):List Value:=[ZT n.kind,ZT n.n,ZT n.m]++iM n.cmd
abbrev mf(n:fP):Value:=.agg (nG n).toArray
structure et where
 aD:List bk
 ef:List bZ
 now:Int
def u_:bZ:=⟨0,0,0,[],[]⟩
def dQ(P:List bZ)(n:Int):Option bZ:=if 0<=n then P[n.toNat]? else none
def gy(n:List bZ)(P:Int):List bZ:=if(dQ n P).isSome then n.eraseIdx P.toNat else n
def Ib(n P:List bZ):List bZ:=n++P.take (1024-n.length)
def fJ(P:List bk)(n:Int):Option bk:=if 0<=n then P[n.toNat]? else none
def jD(a:bS)(b:Int)(P:bk)(n:fP):iB×bk:=
 if n.kind=1 then(if(eK a b P n.cmd).1≠0 then bL (eK a b P n.cmd).1 else Ix (eK a b P n.cmd).2.1,(eK a b P n.cmd).2.2)else
 if n.kind=7 then(bL (gV a P n.m).1,(gV a P n.m).2)else
 if n.kind=8 then(bL (dL a P).1,(dL a P).2)else
 if n.kind=9 then(Ap a.decl P.S.l n.cmd.aZ n.cmd.agg n.m,P)else
 if n.kind=10 then(VE a.decl P.S.l n.cmd.aZ n.cmd.agg,P)else
 if n.kind=11 then(Bg a.decl P.S.l n.cmd.field n.m,P)else
 (bL 0,{P with D:=P.D.Gn n.m})
def et.put(n:et)(P:Int)(a:bk)(b:List bZ):et:=⟨n.aD.set P.toNat a,Ib n.ef b,n.now⟩
def jC(a:bS)(P:et):Option bZ->iB×et
 |none=>(bL 14,P)
 |some n=>match fJ P.aD n.nj with
  |none=>(bL 1,P)
  |some b=>(bL (cy a n.nj b n).2.1,P.put n.nj (cy a n.nj b n).2.2 (cy a n.nj b n).1)
def mg(n:et)(P:Nat):et:=match n.aD[P]? with
 |none=>n
 |some a=>n.put P (pH P a n.now).2 (pH P a n.now).1
def Ip(n:et):et:=(List.range n.aD.length).foldl mg ⟨n.aD,n.ef,n.now+1⟩
def cM(a:bS)(P:et)(n:fP):iB×et:=
 if n.kind=3 then jC a ⟨P.aD,gy P.ef n.n,P.now⟩ (dQ P.ef n.n)else
 if n.kind=5 then jC a P (dQ P.ef n.n)else
 if n.kind=4 then(bL (if(dQ P.ef n.n).isSome then 0 else 14),⟨P.aD,gy P.ef n.n,P.now⟩)else
 if n.kind=6 then(bL 0,Ip P)else
 if n.kind<1\/12<n.kind then(bL 2,P)else
 match fJ P.aD n.n with
 |none=>(bL 1,P)
 |some b=>
  if n.kind=2 then(if(fJ P.aD n.m).isNone\/n.m=n.n then(bL 1,P)else(bL 0,P.put n.n (fk a n.n b n.m P.now).2 (fk a n.n b n.m P.now).1))
  else((jD a n.n b n).1,⟨P.aD.set n.n.toNat (jD a n.n b n).2,P.ef,P.now⟩)
def Be(n:bS):Int×et:=((cz n 0).1,⟨List.replicate n.aD.toNat (cz n 0).2,[],0⟩)
structure Fit (k:Nat) (R:bk):Prop where
 evs:R.S.l.length<=16777216+300*k
 asked:R.gC.asked.length<=k
variable{o:Array Value}{e:Int}{g5:List (Bx ah)}{a6:List bZ}{e4:List bk}{a c:Nat}{f:LL}{H:Nat×Nat}{d v:ac}{h:Program}{g r:TypeId}{N:Value->Prop}{b:World}{R:aS}{e3:bk}
def Fit.Ij{n P:bk}(h:Fit a n)(b:jV n P):Fit (a+1) P:=⟨by have:=h.evs;rcases b.evs with h|h<;>omega,by have:=h.asked;have:=b.asked;omega⟩
def Fit.mono(n:Fit a e3):Fit (a+1) e3:=⟨by have:=n.evs;omega,by have:=n.asked;omega⟩
def Fit.tick(P:Fit a e3)(b n:Int):Fit a (pH b e3 n).2:=⟨P.evs,by unfold pH;dsimp only;rw[kp.Rl];exact P.asked⟩
structure gB (k:Nat) (X:et):Prop where
 aD:∀R∈X.aD,Fit k R
 Og:0<=X.now
 now:X.now<=k
section
variable {c:bS} {X:et} {k:Nat} {i:Int} {R R':bk} {s:fP} {ms:List bZ} {f:List bZ}
def xf{i:Nat}:fJ e4 (i:Int)=e4[i]? :=by
 unfold fJ;rw[Zx oM,Qx]
def gU(n:fJ e4 i=some R):∃P:Nat,i=P/\e4[P]? =some R:=by
 unfold fJ at n;split at n
 ·exact⟨i.toNat,oM,n⟩
 ·cases n
def KL:fJ e4 i=none↔i<0\/(e4.length:Int)<=i:=by
 unfold fJ;split
 ·rw[List.getElem?_eq_none_iff];omega
 ·simp;omega
def Le{i:Int}(n:i<0\/(a6.length:Int)<=i):dQ a6 i=none:=by
 unfold dQ;split
 ·exact Q7 oM
 ·rfl
def Rh{i:Int}(n:0<=i)(P:i<a6.length):(dQ a6 i).isSome:=by
 unfold dQ;rw[Zx n,Qq oM];rfl
def gB.mono(n:gB k X):gB (k+1) X:=⟨λR P=>(n.aD R P).mono,n.Og,by have:=n.now;omega⟩
def gB.ef(n:gB k X):gB k ⟨X.aD,f,X.now⟩:=⟨n.aD,n.Og,n.now⟩
def gB.put(n:gB k X)(P:Fit (k+1) R'):gB (k+1) (X.put a R' ms):=⟨λb c=>(List.mem_or_eq_of_mem_set c).elim (λd=>(n.aD b d).mono) λe=>e▸P,n.Og,by have n:=n.now;show X.now<=_;omega⟩
def gB.stay(n:gB k X){j:Nat}(P:Fit k R'):gB k (X.put j R' ms):=⟨λa b=>(List.mem_or_eq_of_mem_set b).elim (n.aD a) λc=>c▸P,n.Og,n.now⟩
def MY(n:fJ X.aD i=some R):(⟨X.aD.set i.toNat R,X.ef,X.now⟩:et)=X:=by
 obtain⟨b,rfl,P⟩:=gU n;obtain⟨c,a⟩:=Qv.1 P;rw[Qx,<-a,List.set_getElem_self]
def Ol(a:0<=i)(b:i<max 1 (min c.aD 64)):(cz c i).1=(cz c 0).1/\(cz c i).2=(cz c 0).2:=by
 have:fD c i=fD c 0:=by
  unfold fD within
  by_cases d:1<=c.aD/\c.aD<=64
  ·have n:(decide (0<=i)&&decide (i<=c.aD-1))=true:=by simp;omega
   have P:(decide (0<=(0:Int))&&decide (0<=c.aD-1))=true:=by simp;omega
   rw[n,P]
  ·have n:(decide (1<=c.aD)&&decide (c.aD<=64))=false:=by simp;omega
   simp only[n,Bool.false_and]
 unfold cz;rw[this];exact⟨rfl,rfl⟩
def Ir(P:(cz c i).1=0):1<=c.aD/\c.aD<=64/\di c.decl=0/\fD c i=true:=by
 unfold cz at P;split at P
 ·contradiction
 rename_i a;split at P
 ·cases P
 ·rename_i n
  have n:fD c i=true:=by simpa using n
  have b:=n;unfold fD within at n;simp only[QK,Zk]at n;exact⟨oM,oM,Classical.not_not.1 a,b⟩
end
section
variable {w w' w0 w1:World} {p q:Nat} {F D E T:LL} {m:bZ} {M:List bZ} {va ea a:ac} {vn vc en ec n c:Nat}
def Ac(b:Row ns.ko 96 w D a n g5)(d:∀P,D P->P<w.heap.size):am 156 #[.slice a n c] w (Ok (qD ns.ko 63 w g5)):=
 gZ (w_ tR dC b d λf w' e=>Ok.mk e)
def tw(H:Row aP 8 w D va vn m.vec)(hD:∀n,D n->n<w.heap.size)(I:Row kq 96 w E ea en m.events)(T:∀n,E n->n<w.heap.size):
  am 96 #[iL m va vn vc ea en ec] w (Ok λa2 w'=>∃p q J r s K G,a2=iL m p q J r s K/\Row aP 8 w' G p q m.vec/\Row kq 96 w' G r s m.events/\(∀n,G n->w.heap.size<=n/\n<w'.heap.size)/\ai w w'):=by
 obtain⟨f,U,l2,l3⟩:=fh.boxes (N:=ns) I;have b1:=H.fe;have b2:=H.len;have b3:=I.fe;have d0:=I.len;have d1:f.length=m.events.length:=by rw[<-U];simp
 refine zS (PA.mk λw1 V s1 W=>PA.mk λw2 x s2 g2=>⟨_,_,_,ae (x.get W id) rfl,PC.ok (bQ (H.af (V.then x)) λn B=>by have:=hD n B;omega) ?_⟩);rintro _ w3 ⟨j,k,l,L,rfl,X,y,z⟩;have a3:=X.aE;have z3:=y.size;refine⟨_,_,_,rfl,PS.mk (y.get (x.get W id) id) (by simp[dZ]) λY M s4 Z=>⟨_,_,_,ae Z rfl,?_⟩⟩;have A:ai w Y:=((V.then x).then y).new M λn B=>.inr oM;refine PC.ok (Ac (l2.af A) λn B=>by have:=T n B;have:=A.size;omega) ?_;rintro _ w5 ⟨b,o,g,F5,rfl,C,t,b4⟩;have z5:=t.size;have i:∀n,aG b=some n->Y.heap.size<=n:=λn B=>b4 n (C.self n B);have a4:∀n,aG b=some n->n<w5.heap.size:=λn B=>C.aE n (C.self n B);refine⟨_,_,_,rfl,PS.mk (t.get Z id) (by simp[dZ]) λu F s6 g6=>⟨_,_,_,ae g6 rfl,?_⟩⟩;have b5:ai w u:=(A.then t).new F λn B=>.inr oM;have b6:=F.get (t.get (M.get (y.get g2 id) oM) id) (show¬w1.heap.size=w.heap.size by omega);have b7:aV ns.ko 63 (λn=>aG b=some n) u b o g f:=C.alone.keep F λn B P=>by have:=i n B;omega
 have a5:aV aP 3 L u j k l m.vec:=((X.keep M λn B P=>by have:=z n B;omega).af t).keep F λn B P=>by have:=z n B;omega
 refine⟨λmm a8 w'=>∃a:Nat,a8=a/\a<=o/\mm=o-a/\dW ns 63 u b o g f a w',⟨_,0,rfl,Qj _,rfl,dW.start b7⟩,?_⟩;rintro mm _ _ N ⟨a,rfl,hj,rfl,c⟩;have d2:=c.len;have O:ai w N:=b5.new c.keep λn B=>.inr (by have:=i n B;have:=A.size;omega);have b8:¬aG b=some w.heap.size:=λP=>by have:=i _ P;omega
 have b9:¬aG b=some w1.heap.size:=λP=>by have:=i _ P;omega
 have g7:=c.keep.get g6 b8;have c1:=c.keep.get b6 b9;unfold aT at b3;refine al.dec (λd3=>λQ d8=>?_) (λd4=>?_)
 ·have d:ai N Q:=d8.keep
  have a6:=c.af d;obtain⟨e,rfl⟩:=c.some oM;have d5:=i e rfl;have c2:e<u.heap.size:=by have:=a4 e rfl;omega
  have R:f[a]? =some f[a]:=Qq oM;have v:=l3 f[a] (XY oM);generalize f[a]=bx at R v;have gx:=d.get g7 id;refine⟨λn=>n=e,by show w.heap.size≠e;omega,_,_,_,ae gx rfl,_,_,_,ae gx rfl,e,0,rfl,by omega,by omega,_,_,_,a6.cell rfl R (by show o*10<=aT;unfold aT;omega) 3 _ rfl,PC.ok (bQ ((v.1.af O).af d) λn B=>by have:=T n B;have:=(O.then d).size;omega) ?_⟩;rintro _ w9 ⟨c0,n9,c9,G,rfl,a7,k9,hG⟩;refine⟨_,_,_,rfl,ai.keep k9,e,0,rfl,oM,oM,?_⟩;have z7:=c.keep.size;have z8:=d.size;refine(a6.af k9).step (g:=e) rfl R (a7.row (bytes:=8) dC ?_) v.2 (λa0 hx=>⟨by have:=hG a0 hx;omega,a7.aE a0 hx⟩) c2 λd6 a9 c4 d7=>⟨c4.mono λn _ P=>(by simpa[aG]using P.symm),_,?_,a+1,an oM,oM,rfl,a9⟩
  ·have:=v.1.fe;have h2:=v.1.len;rw[h2]at this;exact this
  ·omega
 ·obtain rfl:a=o:=oM
  obtain⟨Fd,S,c6⟩:=c.done;rw[U]at S;have z6:=c.keep.size;have a1:aV aP 3 L N j k l m.vec:=a5.keep c.keep λn B P=>by have:=i n P;have:=a3 n B;omega
  have b0:∀n,Fd n->w2.heap.size<=n:=λn B=>by
   rcases c6 n B with h|h
   ·have:=i n h;omega
   ·omega
  have c7:=S.aE;have c8:=a1.aE;refine au (eS m j k l b a g) g7 (aC (eS m j k l b a g) c1 rfl λQ d s8 g8=>au (eS m j k l b a g) g8 (Ok.mk ⟨j,k,l,b,a,g,λn=>L n\/Fd n,rfl,?_,?_,?_,?_⟩))
  ·exact(((a1.keep d λn B P=>by have P:n=w1.heap.size:=P;have:=z n B;omega).row dC (by rw[<-b2];exact b1)).mono λn B=>.inl B)
  ·exact(((show aV kq 63 Fd Q b a g m.events from S.keep d λn B P=>by have P:n=w1.heap.size:=P;have:=b0 n B;omega).row dC (by unfold aT;omega)).mono λn B=>.inr B)
  ·rintro n (B|B)
   ·have:=z n B;have:=c8 n B;omega
   ·have:=b0 n B;have:=c7 n B;omega
  ·exact O.new d λn B=>.inr (by have B:n=w1.heap.size:=B;omega)
def eh(w:World)(q:Nat)(F:LL)(M:List bZ):Prop:=
 ∃(a:ac) (n c:Nat) (b:List Ko) (D:LL),w.heap[q]? =some (.cells #[.slice a n c] 124 (0,0))/\aV OO 127 (λP=>aG a=some P) w a n c b/\b.map (·.m)=M/\(∀P∈b,P.In w D)/\(∀P,D P->F P/\aG a≠some P/\P≠q)/\(∀P,aG a=some P->F P/\P≠q)/\F q/\(∀P,F P->P<w.heap.size)/\M.length<=1024
def eh.keep(i:eh w q F M)(d:aj T w w')(e:∀P,F P->¬T P):eh w' q F M:=by
 obtain⟨a,n,c,j,D,k,l,m,o,f,g,h,p,r⟩:=i;exact⟨a,n,c,j,D,d.get k (e q h),l.keep d λP b=>e P (g P b).1,m,λP b=>(o P b).keep d λP b=>e P (f P b).1,f,g,h,λP b=>Qk (p P b) d.size,r⟩
def eh.af(n:eh w q F M)(P:ai w w'):eh w' q F M:=n.keep P λ_ _ n=>n
def eh.aE(b:eh w q F M):∀P,F P->P<w.heap.size:=by obtain⟨a,n,c,e,D,f,g,h,i,j,k,l,d,m⟩:=b;exact d
def eh.len(P:eh w q F M):M.length<=1024:=by obtain⟨a,n,c,d,D,e,f,g,h,i,j,k,l,b⟩:=P;exact b
def KX:am 26 #[] w (Ok λa w'=>∃q F,a= L2 q/\eh w' q F []/\(∀n,F n->w.heap.size<=n)/\ai w w'):=
 GD (PA.mk λw1 b d c=>Ok.mk ⟨_,λn=>n=w.heap.size,rfl,⟨none,0,0,[],λ_=>False,c,(aV.nil w1).mono (λn P=>P.elim) (λn P=>(by cases P)),rfl,sM,λn P=>P.elim,λn P=>(by cases P),rfl,λn P=>oM,sM⟩,λn P=>oM,b⟩)
def KV(P:eh w q F M):am 28 #[L2 q] w (Ok λb w'=>b= ZT (M.length:Int)/\w=w'):=by
 obtain⟨a,n,c,h,D,d,e,f,i,j,k,l,m,o⟩:=P;have g:=e.len dC;exact sY ⟨q,0,rfl,_,_,_,ae d rfl,Ok.mk ⟨by rw[g,<-f,Q8],rfl⟩⟩
def Bc(w0:World)(n:Option bZ)(a:Value)(w:World):Prop:=
 ∃va vn vc ea en ec G,a= .tuple #[iL (n.getD u_) va vn vc ea en ec,.bool n.isSome]/\Row aP 8 w G va vn (n.getD u_).vec/\Row kq 96 w G ea en (n.getD u_).events/\(∀P,G P->w0.heap.size<=P/\P<w.heap.size)
def yt(J:eh w q F M):am 63 #[L2 q,ZT e] w (Ok λi w'=>Bc w (dQ M e) i w'/\ai w w'):=by
 obtain⟨a,n,c,K,D,u,v,x,L,y,h6,h7,z,h9⟩:=J;have hn:=v.len dC;have a0:K.length=M.length:=by rw[<-x,Q8]
 refine qY (PA.mk λw1 g s1 A=>?_);have d:(e<0\/(M.length:Int)<=e)->ni WP 127 (L2 w.heap.size) (iL u_ none 0 0 none 0 0) w1 λj=>js WP 127 (L2 w.heap.size) j λN=>Ok (λi w'=>Bc w (dQ M e) i w'/\ai w w') (.returned (.tuple #[N,.bool false])) j:=λO=>
  aC (eS u_ none 0 0 none 0 0) A rfl λj Q s4 R=>au (eS u_ none 0 0 none 0 0) R (Ok.mk ⟨by rw[Le O];exact⟨none,0,0,none,0,0,λ_=>False,rfl,dy _ _,dy _ _,λP b=>b.elim⟩,g.new Q λP b=>.inr (by have b:P=w.heap.size:=b;omega)⟩)
 refine al.dec (λB=>d (.inl B)) (λa1=>⟨q,0,rfl,_,_,_,ae (g.get u id) rfl,al.dec (λa2=>d (.inr oM)) (λB=>⟨q,0,rfl,_,_,_,ae (g.get u id) rfl,?_⟩)⟩);obtain⟨h,rfl⟩:∃h:Nat,e=h:=⟨e.toNat,oM⟩
 obtain⟨P,S,f,es,rfl,b,-,C,T,rfl,-⟩:=((v.af g).row (bytes:=72) dC (by unfold aT;omega)).Ie (i:=h) oM;have E:=L f (QZ C);have U:dQ M (h:Int)=some f.m:=by
  unfold dQ;rw[Zx oM,Qx,<-x,Q9,C];rfl
 refine⟨P,S,rfl,oM,oM,ck (es:=dZ f.m f.va f.vn f.vc f.ea f.en f.ec) (k:=5) (eS _ _ _ _ _ _ _) rfl (λV W=>by rw[Qx];exact T V W) (PC.ok (tw (E.1.af g) (λP b=>by have:=z P (y P b).1;omega) (E.2.af g) λP b=>by have:=z P (y P b).1;omega) ?_)⟩;rintro _ w2 ⟨k,l,m,o,p,r,G,rfl,X,Y,s,H⟩;refine cx (Es _ _ _ _ _ _ _) ⟨rfl,aC (eS _ _ _ _ _ _ _) (H.get A id) rfl λw3 t s3 Z=>au (eS _ _ _ _ _ _ _) Z (Ok.mk ⟨?_,(g.then H).new t λP b=>.inr (by have b:P=w.heap.size:=b;omega)⟩)⟩;have I:∀P,G P->¬P=w.heap.size:=λP b=>by have:=s P b;omega
 rw[U];exact⟨k,l,m,o,p,r,G,rfl,X.keep t I,Y.keep t I,λP b=>⟨by have:=s P b;omega,by have:=s P b;omega⟩⟩
def Ik(y:eh w q F M)(hi:aM e):am 62 #[L2 q,ZT e] w (Ok λp w'=>Bc w (dQ M e) p w'/\eh w' q F (gy M e)/\aj F w w'):=by
 have l:=y.aE;refine qX (PA.mk λw1 z s1 T=>PC.ok (yt (y.af z)) ?_);rintro _ i ⟨⟨va,vn,vc,ea,en,ec,G,rfl,J,K,j⟩,u⟩;have z2:=u.size;have U:=(y.af z).af u;obtain⟨v,f⟩:∃v,dQ M e=v:=⟨_,rfl⟩
 rw[f]at J K⊢;refine cx (Es _ _ _ _ _ _ _) ⟨_,rfl,PA.mk λw3 m s3 V=>aC (eS _ _ _ _ _ _ _) V rfl λr s s4 W=>?_⟩;have X:ai w r:=((z.then u).then m).new s λP b=>.inr (by have b:P=i.heap.size:=b;omega);have L:eh r q F M:=(U.af m).keep s λP b d=>by have d:P=i.heap.size:=d;have:=l P b;omega
 have Y:=s.get (m.get (u.get T id) id) (show¬w.heap.size=i.heap.size by omega);have a7:∀P,G P->w1.heap.size<=P/\P<i.heap.size:=j;have Z:=(J.af m).keep s λP b d=>by have d:P=i.heap.size:=d;have:=j P b;omega
 have a2:=(K.af m).keep s λP b d=>by have d:P=i.heap.size:=d;have:=j P b;omega
 have last:∀{o:World} {A:List bZ},aj (λP=>F P) r o->eh o q F A->gy M e=A->js WP 127 (L2 i.heap.size) o λa0=>ni WP 127 (L2 w.heap.size) a0 o λt=>js WP 127 (L2 w.heap.size) t λa1=>Ok (λp w'=>Bc w v p w'/\eh w' q F (gy M e)/\aj F w w') (.returned (.tuple #[a1,.bool v.isSome])) t:=λ{o A} g hf hM=>by
  have n1:¬F i.heap.size:=λd=>by have:=l _ d;omega
  have n2:¬F w.heap.size:=λd=>by have:=l _ d;omega
  refine au (eS _ _ _ _ _ _ _) (g.get W n1) (aC (eS _ _ _ _ _ _ _) (g.get Y n2) rfl λt k s6 B=>au (eS _ _ _ _ _ _ _) B (Ok.mk ⟨?_,?_,?_⟩))
  ·have z5:=g.size;have z3:=m.size
   exact⟨va,vn,vc,ea,en,ec,G,rfl,(Z.keep g λP b d=>by have:=j P b;have:=l P d;omega).keep k λP b d=>by have d:P=w.heap.size:=d;have:=j P b;omega,(a2.keep g λP b d=>by have:=j P b;have:=l P d;omega).keep k λP b d=>by have d:P=w.heap.size:=d;have:=j P b;omega,λP b=>by have:=j P b;constructor<;>omega⟩
  ·rw[hM]
   exact hf.keep k λP b d=>by have d:P=w.heap.size:=d;have:=l P b;omega
  ·exact((ai.keep X).then g).new k λP b=>.inr (by have b:P=w.heap.size:=b;omega)
 refine al.mk (λC=>?_) (λC=>last (aj.refl _) L (by unfold gy;rw[f,C];rfl));obtain⟨m0,rfl⟩:=Option.isSome_iff_exists.1 C;have a3:0<=e:=by
  unfold dQ at f;split at f
  ·assumption
  ·cases f
 unfold dQ at f;rw[Zx a3]at f;obtain⟨h,rfl⟩:∃h:Nat,e=h:=⟨e.toNat,oM⟩
 rw[Qx]at f;obtain⟨a8,a9⟩:=Qv.1 f;have a4:dQ M (h:Int)=some m0:=by unfold dQ;rw[Zx oM,Qx];exact f
 have a5:gy M (h:Int)=M.eraseIdx h:=by unfold gy;rw[a4];rfl
 obtain⟨a,n,c,E,D,N,O,Q,f4,H,x,R,f8,f9⟩:=L;have hn:=O.len dC;have b0:E.length=M.length:=by rw[<-Q,Q8]
 refine⟨q,0,rfl,_,_,_,ae N rfl,PC.ok (jm (FV.one (c:=OO) (tz:=0) EI kR O (show h<n by omega) (by unfold maxLen;omega) (R:=Ok λp w'=>p= .slice a (n-1) c/\aV OO 127 (λP=>aG a=some P) w' a (n-1) c (E.eraseIdx h)/\aj (λP=>aG a=some P) r w') λw' I hk=>Ok.mk ⟨rfl,I,hk⟩)) ?_⟩;rintro _ o ⟨rfl,a6,g⟩;refine⟨_,_,_,rfl,q,0,rfl,PS.mk (g.get N λd=>(x q d).2 rfl) sM λt k s6 B=>?_⟩;have S:aj (λP=>F P) r t:=(g.mono λP _ b=>(x P b).1).then (k.mono λP _ b=>by have b:P=q:=b;rw[b];exact R);refine last S ⟨a,n-1,c,E.eraseIdx h,D,B,a6.keep k λP b d=>(x P b).2 d,?_,λP b=>((f4 P ((List.eraseIdx_sublist ..).subset b)).keep g λP b=>(H P b).2.1).keep k λP b d=>(H P b).2.2 d,H,x,R,λP b=>by have:=f8 P b;have:=S.size;omega,?_⟩ a5
 ·rw[<-Q,map_eraseIdx]
 ·have:=List.length_eraseIdx_le (l:=M) (i:=h);omega
def Ic(e:eh w q F M){j lc:Nat}{R:List Ko}(S:aV OO 127 (λP=>aG d=some P) w d j lc R)(a1:R.map (·.m)=a6)(a8:∀P∈R,P.In w f)(T:∀P,f P->P<w.heap.size/\¬F P)(a9:∀P,aG d=some P->¬F P)(c9:j<=1000000):
  am 64 #[L2 q,.slice d j lc] w (Ok λa3 w'=>∃(a7:Int) (F':LL),a3= ZT a7/\eh w' q F' (Ib M a6)/\cu F w F' w'):=by
 have hM:=e.len;have d0:=e.aE;have b0:=S.len dC;have d1:=S.lv;have d2:a6.length=j:=by rw[b0,<-a1,Q8]
 obtain⟨d3,s,d5,L0,D0,f1,f2,f3,f4,f5,f6,f7,f8,f9⟩:=id e;have b1:=f2.len dC;have b2:s=M.length:=by rw[b1,<-f3,Q8]
 have b3:IntKind.wrap .i64 (1024-((s:Nat):Int))=((1024-s:Nat):Int):=by rw[wrap_i64 (by unfold aM;omega)];omega
 have a0:(if(IntKind.wrap .i64 (1024-((s:Nat):Int)))<((j:Nat):Int)then(IntKind.wrap .i64 (1024-((s:Nat):Int)))else((j:Nat):Int))=((min (1024-s) j:Nat):Int):=by rw[b3];split<;>omega
 obtain⟨x,hr⟩:∃x,min (1024-s) j=x:=⟨_,rfl⟩
 have b4:M++a6.take x=Ib M a6:=by
  unfold Ib;rw[<-hr,<-b2];rcases Nat.le_total (1024-s) j with u|u
  ·rw[X2 u]
  ·rw[Nat.min_eq_right u,Qz oM,Qz oM]
 rw[hr]at a0;refine qw ⟨q,0,rfl,_,_,_,ae f1 rfl,?_⟩;dsimp only;rw[a0,Qx];refine⟨oM,oM,λmm U w'=>∃(i:Nat) (t:LL),U=i/\i<=x/\mm=x-i/\eh w' q t (M++a6.take i)/\cu F w t w',⟨_,0,F,rfl,Qj _,rfl,by simpa using e,cu.refl _ _⟩,?_⟩;rintro mm _ _ w1 ⟨i,t,rfl,hj,rfl,u,y⟩;have d6:=u.aE;have z1:=y.keep.size;have d7:∀P,P<w.heap.size->¬F P->¬t P:=λP b hf b5=>(y.new P b5).elim hf λe=>by omega
 refine al.dec (λd8=>?_) (λd9=>Ok.mk ⟨_,t,rfl,by rw[<-b4,show x=i by omega];exact u,y⟩);have b6:=S.keep y.keep λP b=>a9 P b;obtain⟨P,b7,h,es,rfl,b,-,hx,hc,rfl,-⟩:=(b6.row (bytes:=72) dC (by unfold aT;omega)).Ie (i:=i) oM;have b8:=(a8 h (QZ hx)).keep y.keep λP b=>(T P b).2;refine⟨P,b7,rfl,oM,oM,ck (es:=dZ h.m h.va h.vn h.vc h.ea h.en h.ec) (k:=5) (eS _ _ _ _ _ _ _) rfl (λU ht=>by rw[Qx];exact hc U ht) (PA.mk λw2 k2 s2 g2=>aC (eS _ _ _ _ _ _ _) g2 rfl λw3 k3 s3 g3=>?_)⟩;have I:ai w1 w3:=k2.new k3 λP b=>.inr (by have b:P=w1.heap.size:=b;omega);have h3:=u.af I;intro J d4;have C:ai w3 J:=d4.keep;have h4:=h3.af C;obtain⟨a,n,c,V,D,e1,e2,e3,e4,z,A,K,B,e9⟩:=h4;have hn:=e2.len dC;have e0:V.length=M.length+i:=by
  have:=Zj List.length e3;rw[Q8,QX,Qy]at this;omega
 have z4:=(I.then C).size;have a4:h.In J f:=(b8.keep I λ_ _ e=>e).keep C λ_ _ e=>e;refine⟨λ_=>False,q,0,rfl,id,_,_,_,ae e1 rfl,au (eS _ _ _ _ _ _ _) (C.get g3 id) (PC.ok (tw a4.1 (λP b=>by have:=(T P b).1;omega) a4.2 λP b=>by have:=(T P b).1;omega) ?_)⟩;rintro _ w5 ⟨k,l,m,o,p,r,G,rfl,b9,c0,E,W⟩;refine⟨_,_,_,_,_,_,_,_,_,rfl,ai.keep W,PA.mk λX Y s6 g6=>⟨ai.keep Y,?_⟩⟩;have L:ai J X:=W.then Y;have z5:=W.size;refine fH (c:=OO) (x:=⟨h.m,k,l,m,o,p,r⟩) (D:=λ_=>False) (e2.af L) EI g6 ⟨rfl,trivial⟩ (λP b=>b.elim) (by unfold aT;omega) (by unfold maxLen;omega) λv c7 w7 F7 N H c1=>⟨_,_,_,rfl,q,0,rfl,PS.mk (H.get (L.get e1 id) λg=>(A q g).2 rfl) sM λZ O s8 g8=>?_⟩
 have Q:∀P,aG v=some P->aG a=some P\/X.heap.size<=P:=λP b=>(c1 P (N.self P b)).imp id λe=>e.resolve_left id;have z7:=H.size;have c2:aj t w1 Z:=(((ai.keep ((I.then C).then L):aj t w1 X)).then (H.mono λP _ b=>(A P b).1)).then (O.mono λP _ b=>by have b:P=q:=b;rw[b];exact K);have a5:aG v≠some q:=λg=>(Q q g).elim (λe=>(A q e).2 rfl) λe=>by have:=B q K;omega
 have c3:∀P,D P->aG v≠some P:=λP b g=>(Q P g).elim (z P b).2.1 λe=>by have:=B P (z P b).1;omega
 have c4:∀P,G P->aG v≠some P:=λP b g=>(Q P g).elim (λe=>by have:=B P (A P e).1;have:=E P b;omega) λe=>by have:=E P b;omega
 have a2:∀P,G P->P≠q:=λP b g=>by have:=E P b;have:=B q K;omega
 have c5:∀P,G P->aG a≠some P:=λP b g=>by have:=B P (A P g).1;have:=E P b;omega
 have c6:aV OO 127 (λP=>aG v=some P) Z v (n+1) c7 (V++[⟨h.m,k,l,m,o,p,r⟩]):=N.alone.keep O λP b g=>by have g:P=q:=g;exact a5 (g▸b)
 refine⟨_,oM,i+1,λP=>t P\/(J.heap.size<=P/\P<Z.heap.size),an oM,oM,rfl,⟨v,n+1,c7,V++[⟨h.m,k,l,m,o,p,r⟩],λP=>D P\/G P,g8,c6,?_,?_,?_,?_,.inl K,?_,?_⟩,y.trans ⟨c2,λP b=>b.imp id λe=>oM⟩⟩
 ·have c8:a6[i]? =some h.m:=by rw[<-a1,Q9,hx];rfl
  rw[Q3,e3,Qw,c8,XQ];rfl
 ·intro P b
  rcases Q6.1 b with b|b
  ·exact((((e4 P b).keep L λ_ _ e=>e).keep H λP b=>(z P b).2.1).keep O λP b g=>(z P b).2.2 g).mono λP b=>.inl b
  ·simp at b;subst b
   exact((((show Ko.In w5 G ⟨h.m,k,l,m,o,p,r⟩from⟨b9,c0⟩).keep Y λ_ _ e=>e).keep H λP b=>c5 P b).keep O λP b g=>a2 P b g).mono λP b=>.inr b
 ·rintro P (b|b)
  ·exact⟨.inl (z P b).1,c3 P b,(z P b).2.2⟩
  ·exact⟨.inr (by have:=E P b;omega),c4 P b,a2 P b⟩
 ·intro P b
  refine⟨(Q P b).elim (λe=>.inl (A P e).1) λe=>.inr ⟨oM,by have:=N.aE P (N.self P b);omega⟩,λg=>a5 (g▸b)⟩
 ·rintro P (b|b)
  ·have:=B P b;omega
  ·exact b.2
 ·rw[QX,Qy];omega
end
def XT:kr Nat:=flat 1 (λP=>[Value.pointer (PP P)]) (λ_=>True) (λ_=>rfl) (λa b n=>by simp at n;subst n;rfl)
def Yn:kM WP 68 64 XT.k 8:=⟨kR,kR,dC⟩
def KG(n:fP):iH WP 40 (nG n)=true:=kR
structure KH where
 q:Nat
 a:ac
 n:Nat
 cc:Nat
 ps:List Nat
def jr(P a:World->(LL)->Prop)(b:bS)(c:List (Nat×bk)):Nat->World->(LL)->Prop
 |0=>P
 |1=>a
 |k+2=>λd G=>∀n,c[k]? =some n->bV d n.1 G b k n.2
def Kept(n:World->(LL)->Prop):Prop:=∀P a G b,n P G->aj b P a->(∀c,G c->¬b c)->n a G
def Gi(a:Nat)(n:KH)(b:Int)(c:World)(G:LL):Prop:=G a/\c.heap[a]? =some (.cells #[.slice n.a n.n n.cc,L2 n.q,ZT b] 82 (0,0))/\aV XT 64 (λP=>aG n.a=some P) c n.a n.n n.cc n.ps/\∀P,aG n.a=some P->G P/\P≠a
abbrev cV(n:World)(c:LL)(P:Nat->Nat)(d:Nat)(b:KH)(a:Int)(e:bS)(f:List (Nat×bk))(g:List bZ):Prop:=bb n c P (jr (Gi d b a) (λn G=>eh n b.q G g) e f)
section
variable {w w' w0 w1 w2:World} {p i:Nat} {F G G' T:LL} {cls:Nat->Nat} {h:KH} {c:bS} {X:et} {now:Int} {rs:List (Nat×bk)} {ef fly' ms:List bZ} {x:Nat×bk} {R':bk} {v:Value} {C0 C1 D0 D1:World->(LL)->Prop}
def KI(b:Kept C0)(d:Kept C1):lY (jr C0 C1 c rs):=by
 intro k w w' G T n P a
 match k,n with
 |0,n=>exact b _ _ _ _ n P a
 |1,n=>exact d _ _ _ _ n P a
 |k+2,n=>exact λx e=>(n x e).keep P a
def Oe:Kept (Gi p h now):=λw w' G T n P a=>⟨n.1,P.get n.2.1 (a p n.1),n.2.2.1.keep P λb c=>a b (n.2.2.2 b c).1,n.2.2.2⟩
def fA:lY (jr (Gi p h now) (λw G=>eh w h.q G ef) c rs):=KI Oe λw w' G T n P a=>eh.keep n P a
def Eo(j:bb w F cls (jr C0 C1 c rs))(l:lY (jr C0 C1 c rs))(m:rs[i]? =some x)(e:bV w' x.1 G' c i R')(o:cu (λn=>F n/\cls n=i+2) w G' w'):
  ∃a P,bb w' a P (jr C0 C1 c (rs.set i (x.1,R')))/\cu F w a w'/\(λn=>a n/\P n=1)=(λn=>F n/\cls n=1)/\(λn=>a n/\P n=0)=(λn=>F n/\cls n=0)/\∀n,a n->(F n/\cls n≠i+2)\/G' n:=by
 obtain⟨a,P,p,q,r,f,-⟩:=bb.iz j l o e.aE (C2:=jr C0 C1 c (rs.set i (x.1,R'))) (λg b=>by
  rw[List.getElem?_set_self (Qv.1 m).1]at b
  injection b with b;subst b;exact e) λs G h d=>by
  match s,h,d with
  |0,_,d=>exact d
  |1,_,d=>exact d
  |k+2,h,d=>exact λg b=>d g (by rw[List.getElem?_set_ne oM]at b;exact b)
 exact⟨a,P,p,q,f 1 oM,f 0 oM,r⟩
def Of(d:bb w F cls (jr C0 C1 c rs))(e:lY (jr C0 C1 c rs))(f:D1 w' G')(g:∀P,G' P->P<w'.heap.size)(h:cu (λP=>F P/\cls P=1) w G' w'):
  ∃a n,bb w' a n (jr C0 D1 c rs)/\cu F w a w'/\(λP=>a P/\n P=0)=(λP=>F P/\cls P=0)/\(λP=>a P/\n P=1)=G':=by
 obtain⟨a,n,i,j,-,l,m⟩:=bb.iz d e h g (C2:=jr C0 D1 c rs) f λo G p b=>by
  match o,p,b with
  |0,_,b=>exact b
  |k+2,_,b=>exact b
 exact⟨a,n,i,j,l 0 oM,m⟩
def KJ(b:bb w F cls (jr C0 C1 c rs))(d:lY (jr C0 C1 c rs))(a:aj (λn=>F n/\cls n=0) w w')(e:D0 w' λn=>F n/\cls n=0):bb w' F cls (jr D0 C1 c rs)/\cu F w F w':=by
 refine⟨bb.same b d a e λf G g P=>?_,a.mono λn _ h=>h.1,λn i=>.inl i⟩
 match f,g,P with
 |1,_,P=>exact P
 |k+2,_,P=>exact P
def cV.af(n:cV w F cls p h now c rs ef)(P:ai w w'):cV w' F cls p h now c rs ef:=bb.af n fA P
def cV.c0(P:cV w F cls p h now c rs ef):Gi p h now w (λn=>F n/\cls n=0):=P.at' 0
def cV.cell(n:cV w F cls p h now c rs ef):w.heap[p]? =some (.cells #[.slice h.a h.n h.cc,L2 h.q,ZT now] 82 (0,0)):=n.c0.2.1
def cV.nh(n:cV w F cls p h now c rs ef):aV XT 64 (λP=>aG h.a=some P) w h.a h.n h.cc h.ps:=n.c0.2.2.1
def cV.Ww(P:cV w F cls p h now c rs ef):eh w h.q (λn=>F n/\cls n=1) ef:=P.at' 1
def cV.rep(P:bb w F cls (jr C0 C1 c rs))(a:rs[i]? =some x):bV w x.1 (λn=>F n/\cls n=i+2) c i x.2:=P.at' (i+2) x a
def cV.fC(d:cV w F cls p h now c rs ef)(a:eh w' h.q G' fly')(e:cu (λb=>F b/\cls b=1) w G' w'):∃P n,cV w' P n p h now c rs fly'/\cu F w P w':=by
 obtain⟨P,n,f,g,-⟩:=Of (D1:=λw G=>eh w h.q G fly') d fA a a.aE e;exact⟨P,n,f,g⟩
def cV.Yo(b:cV w F cls p h now c rs ef){now':Int}(d:aj (·=p) w w')(e:w'.heap[p]? =some (.cells #[.slice h.a h.n h.cc,L2 h.q,ZT now'] 82 (0,0))):cV w' F cls p h now' c rs ef/\cu F w F w':=by
 have n:=b.c0;exact KJ (D0:=Gi p h now') b fA (d.mono λP _ a=>by have a:P=p:=a;rw[a];exact n.1) ⟨n.1,e,n.2.2.1.keep d λP f=>(n.2.2.2 P f).2,n.2.2.2⟩
def cD(w0 w:World)(p:Nat)(F:LL)(c:bS)(X:et):Prop:=
 ∃h cls rs,cV w F cls p h X.now c rs X.ef/\h.ps=rs.map (·.1)/\X.aD=rs.map (·.2)/\rs.length=c.aD.toNat/\jU c 0/\Env w0 w F
def cD.af(P:cD w0 w p F c X)(n:ai w w'):cD w0 w' p F c X:=by
 obtain⟨h,cls,rs,a,b,d,e,f,g⟩:=P;exact⟨h,cls,rs,a.af n,b,d,e,f,g.af n⟩
def cD.keep(b:cD w0 w p F c X)(a:aj T w w')(d:∀n,F n->¬T n)(e:∀n,T n->w0.heap.size<=n):cD w0 w' p F c X:=by
 obtain⟨h,cls,rs,f,g,i,j,k,P⟩:=b;exact⟨h,cls,rs,bb.keep f fA a d,g,i,j,k,⟨P.pU,P.laid,P.gr.new a λn l=>.inr (e n l),P.aE⟩⟩
def cD.aE(P:cD w0 w p F c X):∀n,F n->n<w.heap.size:=by
 obtain⟨h,cls,rs,a,-⟩:=P;exact a.aE
def cD.env(n:cD w0 w p F c X):Env w0 w F:=by
 obtain⟨h,cls,rs,a,b,d,e,f,P⟩:=n;exact P
def cD.len(n:cD w0 w p F c X):X.aD.length=c.aD.toNat/\1<=c.aD/\c.aD<=64/\X.ef.length<=1024:=by
 obtain⟨h,cls,rs,P,e,a,b,d,f⟩:=n;obtain⟨g,i,j⟩:=d.aD;exact⟨by rw[a,Q8];exact b,oM,oM,P.Ww.len⟩
def ks(w0:World)(f:LL)(x:iB)(v:Value)(w:World):Prop:=∃(P:ac) (a g:Nat) (b:ac) (c h:Nat) (d:ac) (e i:Nat) (G:LL),v= .agg (fQ x P a g b c h d e i).toArray/\
 Row gw 32 w G P a x.st.cells/\Row AH 120 w G b c x.KK/\Row Kn 24 w G d e x.rows/\∀n,G n->w0.heap.size<=n/\n<w.heap.size/\¬f n
def MV(a:World->(LL)->et->Prop)(w:World)(F:LL)(b:Nat)(n:iB×et)(v:Value)(w':World):Prop:=∃P,ks w P n.1 v w'/\a w' P n.2/\gB b n.2/\cu F w P w'
abbrev ji(w0 w:World)(p:Nat)(F:LL)(c:bS)(n:Nat)(P:iB×et)(v:Value)(w':World):Prop:=MV (λw F X=>cD w0 w p F c X) w F n P v w'
def QL(P:World->(LL)->et->Prop)(a:Nat):Prop:=∀w w' F T X,P w F X->aj T w w'->(∀n,F n->¬T n)->(∀n,T n->a<=n)->P w' F X
def Ep:QL (λw F X=>cD w0 w p F c X) w0.heap.size:=λ_ _ _ _ _ h n P a=>h.keep n P a
def Env.part(n:Env w0 w F):Env w0 w (λP=>F P/\cls P=a):=⟨n.pU,n.laid,n.gr,λP b=>n.aE P b.1⟩
def A_(f:cV w F cls p h now c rs ef)(t:rs[i]? =some x)(u:bV w1 x.1 G' c i R')(y:cu (λn=>F n/\cls n=i+2) w G' w1)(z:fI w G' ms v w1)(L:ms.length<=10000):
  am 64 #[L2 h.q,v] w1 (Ok λv w'=>∃(e:Int) (d:LL) (P:Nat->Nat),v= ZT e/\cV w' d P p h now c (rs.set i (x.1,R')) (Ib ef ms)/\cu F w d w'/\aj (λn=>F n/\cls n=1) w1 w'):=by
 obtain⟨g,j,k,A,l,-⟩:=Eo f fA t u y;obtain⟨M,N,O,B,D,rfl,m,o,C,q,E⟩:=z;have b:=cV.Ww k;have H:=f.aE;have r:∀n,(g n/\j n=1)->n<w.heap.size:=λn a=>by
  have a:(λn=>g n/\j n=1) n:=a;rw[l]at a;exact H n a.1
 have Q:=m.len dC;have R:B.length=ms.length:=by rw[<-o,Q8]
 refine Calls.ok (Ic b m o C (λn a=>⟨(q n a).2.1,λb=>by have:=r n b;have:=(q n a).1;omega⟩) (λn a b=>by have:=r n b;have:=(E n a).1;omega) oM) ?_;rintro _ w2 ⟨e,S,rfl,I,s⟩;obtain⟨d,P,J,K⟩:=cV.fC k I s;exact⟨e,d,P,rfl,J,A.trans K,by rw[<-l];exact s.keep⟩
end
def MW(n:iB)(P:ac)(a b:Nat)(c:ac)(d e:Nat)(f:ac)(g h:Nat):Uc (dm WP 53) (.agg (fQ n P a b c d e f g h).toArray)=true:=kR
def Xe(n:bS)(P:ac)(tn a:Nat)(b:ac)(c d:Nat):Uc (dm WP 27) (xg n P tn a b c d)=true:=kR
def MX{es:List Value}(e:iH h g es=true)(f:b.heap[a]? =some (.cells o r H))(i:∀n,n<es.length->o[c+n]? =es[n]?)(j:N (.agg es.toArray)):js h g (.pointer (some ⟨a,c,none⟩)) b N:=
 ck e rfl (λn P=>by
  have d:=i n P;rw[Qq P]at d⊢;exact ae f d) j
section
variable {w w' w0 w1 w2:World} {p:Nat} {F E D Dv:LL} {c:bS} {self:Int} {X:bk} {va ea:ac} {vn vc en ec:Nat}
def K_{tn m j o:Nat}(g:bt w D R d tn v j):am 23 #[.agg #[.slice d tn m,.slice v j o]] w (Ok λp w'=>(∃c:Bool,p= .bool c)/\ai w w'):=by
 have A:=g.aZ.len;have q:=g.aZ.fe;unfold aT at q;refine Gu (PA.mk λw1 n B P=>⟨_,_,_,ae P rfl,al.dec (λ_=>Ok.mk ⟨⟨_,rfl⟩,n⟩) (λ_=>⟨_,_,_,ae P rfl,al.dec (λ_=>Ok.mk ⟨⟨_,rfl⟩,n⟩) (λ_=>?_)⟩)⟩);refine⟨λe h w'=>∃a:Nat,h=a/\a<=tn/\e=tn-a/\w1=w',⟨_,0,rfl,Qj _,rfl,rfl⟩,?_⟩;rintro e _ _ _ ⟨a,rfl,C,rfl,rfl⟩;refine⟨_,_,_,ae P rfl,al.dec (λE=>?_) (λ_=>Ok.mk ⟨⟨_,rfl⟩,n⟩)⟩;obtain⟨c,i,F,H,rfl,I,-,J,r,K,k,L,rfl,l⟩:=(g.aZ.af n).Ie (i:=a) oM;have f:=r 0 dC;have s:nq.k=1:=rfl;rw[s,Nat.mul_one]at f;have t:=l.fe;unfold aT at t;refine⟨_,_,_,ae P rfl,c,i,rfl,oM,oM,_,_,_,f,al.dec (λ_=>Ok.mk ⟨⟨_,rfl⟩,n⟩) (λ_=>?_)⟩;refine⟨λe h w'=>∃b:Nat,h=b/\b<=k/\e=k-b/\w1=w',⟨_,0,rfl,Qj _,rfl,rfl⟩,?_⟩;rintro e _ _ _ ⟨b,rfl,M,rfl,rfl⟩;refine⟨_,_,_,ae P rfl,c,i,rfl,oM,oM,_,_,_,f,al.dec (λN=>?_) (λ_=>⟨_,oM,a+1,an oM,oM,rfl,rfl⟩)⟩;obtain⟨u,x,O,y,rfl,-,-,Q,z,S,T,U,rfl,-,-⟩:=l.Ie (i:=b) oM;exact⟨_,_,_,ae P rfl,c,i,rfl,oM,oM,_,_,_,f,u,x,rfl,oM,oM,_,_,_,z 3 dC,al.dec (λ_=>Ok.mk ⟨⟨_,rfl⟩,n⟩) (λ_=>⟨_,oM,b+1,an oM,oM,rfl,rfl⟩)⟩
def bV.waits(b:bV w p F c self X):X.waits.length<=256:=by
 obtain⟨f,d,n,e⟩:=b;obtain⟨g,D,P,-,-⟩:=(show OV w (λa=>F a/\n a=5) d.wp c.buffer.toNat X.waits from e.at' 5)
 exact Xx P.1.2.le P.1.1
def bV.ok(n:bV w p F c self X):jU c self:=n.1
def cu.after(n:ai w w1)(P:cu F w1 f w2):cu F w f w2:=⟨(ai.keep n).then P.keep,λa b=>(P.new a b).imp id λc=>by have:=n.size;omega⟩

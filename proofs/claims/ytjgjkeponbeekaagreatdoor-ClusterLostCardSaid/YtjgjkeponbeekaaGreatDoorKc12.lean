import Derived.Test.YtjgjkeponbeekaaGreatDoorKc11
import Derived.RangeFuncSeq
import Derived.RangeFuncLeaves
set_option linter.all false
set_option maxRecDepth 100000
namespace Go.Proofs.YtjgjkeponbeekaaGreatDoor
open Go.aq Go.ChangeShapes Go.WideShapes Go.ChangeAt Go.RowKit
variable{t:List Int}{a c:Nat}{f:LL}{d:ac}
section
variable {w0 w w1 w':World} {p:Nat} {D D':ak} {X Y:LL}
def aY.bA(P:aY w0 w p D X)(g:qQ w0)(j:Row aP 8 w f d a t)(k:∀l∈t,aM l)(h:∀n,f n->n<w0.heap.size\/X n):
  am 112 #[L2 p,.agg #[.slice d a c]] w (Ok (nY w0 w p X (bA D t))):=by
 have s:=P.gr.size;have m:∀n,X n->n<w.heap.size:=by obtain⟨o,u,v,x,q⟩:=P;exact q
 have y:=g.lt;exact P.call λo r e=>Cz (g.af P.gr) r j k (λn b=>⟨(h n b).elim (λP=>oM) (m n),λi=>(h n b).elim (λP=>by have:=(e n i).1;omega) (e n i).2.2⟩) λn b=>by have:=(e n b).1;omega
def aY.iO(c:aY w0 w p D X)(j:qQ w0):am 109 #[L2 p] w (Ok λd w'=>∃P a b G,d= .tuple #[.agg #[.slice P a b],.bool (dA D).isSome]/\aV aP 3 G w' P a b ((dA D).getD [])/\
  (∀n,G n->w.heap.size<=n)/\aY w0 w' p D (λn=>X n\/G n)/\ai w w'):=by
 have k:=c.gr;obtain⟨l,e,m⟩:=c;refine Calls.ok (DY (j.af k) e) ?_;rintro d w' ⟨P,a,b,G,rfl,f,g,h⟩;exact⟨P,a,b,G,rfl,f,h,aY.add ⟨l,e,m⟩ g λn i=>⟨h n i,f.aE n i⟩,g⟩
end
variable{s:RK}{e:Int}{b:World}
def Nx{D:LL}{P bytes:Nat}(a:Row aP bytes b D d P t):∀n∈t,aM n:=λn c=>by
 obtain⟨e,f⟩:=List.mem_iff_getElem?.1 c;obtain⟨i,g,j,-,-,-,-,h⟩:=a.el e n f;exact h.2
def Ex{D:ak}:((dA D).getD []).length<=64:=by
 unfold dA;split
 ·simp
 ·cases n:iO (D.read bX).1 with
  |none=>simp
  |some P=>exact(Pk n).2
def tn:(aO==bX)=false:=by decide+kernel
def TL:cY aO=true:=by decide+kernel
def IP:cY bX=true:=by decide+kernel
open Go.aq
def zU:gA:=⟨[(6,[(8,.slice none 0 0),(9,ZT 0)])],[],[],[],[]⟩
def zV(a0:PC_ 146 #[.ii e] b (λa3 a4=>∃o,a3= .string o/\PC_ 162 #[.pointer d,.string o] a4 (λa5 p=>∃q k l r,a5= .tuple #[.slice q k l,.ii r]/\al (r !=0) (rt s ((.tuple #[.slice none 0 0,.ii 0])) p) ((∃m:Nat->ac->Nat->Nat->Int->UV,(∃j,m j none 0 0 0 p)/\∀(j:Nat) (c:ac) (f:Nat) (g:Nat) (a:Int) (c9:Nat->Value) (t:World),m j c f g a t->((0:Int)<=a/\(a:Int)<=(k:Int)/\PC_ 163 #[.slice (cZ q (Int.toNat a) l 1) (k-Int.toNat a) (l-Int.toNat a)] t (λa6 h=>∃u v w x y z,a6= .tuple #[.agg #[.ii u,.slice v w x],.ii y,.ii z]/\PA h (.cells #[.ii 0,.slice none 0 0] 277) λa7=>PS a7 (ab_ h 0) (.ii u) λa8=>PS a8 (ab_ h (0+1)) (.slice v w x) λi=>al (z !=0) (rt s ((.tuple #[.slice c f g,.ii a])) i) ((rI i (ab_ h 0) λa9=>al (a9 !=1) (rt s ((.tuple #[.slice c f g,.ii a])) i) ((rS i (ab_ h (0+1)) λb0 b1 b2=>PC_ 231 #[.slice b0 b1 b2] i (λb3 n=>∃A B D C E G F H I J K L M,b3= .tuple #[.agg #[.ii A,.ii B,.ii D,.slice C E G,.ii F,.ii H,.ii I,.ii J,.ii K,.ii L],.ii M]/\PA n (.cells #[.ii 0,.ii 0,.ii 0,.slice none 0 0,.ii 0,.ii 0,.ii 0,.ii 0,.ii 0,.ii 0] 63) λb4=>PS b4 (ab_ n 0) (.ii A) λb5=>PS b5 (ab_ n (0+1)) (.ii B) λb6=>PS b6 (ab_ n (0+2)) (.ii D) λb7=>PS b7 (ab_ n (0+3)) (.slice C E G) λb8=>PS b8 (ab_ n (0+4)) (.ii F) λb9=>PS b9 (ab_ n (0+5)) (.ii H) λc0=>PS c0 (ab_ n (0+6)) (.ii I) λc1=>PS c1 (ab_ n (0+7)) (.ii J) λc2=>PS c2 (ab_ n (0+8)) (.ii K) λc3=>PS c3 (ab_ n (0+9)) (.ii L) λP=>al (M !=0) (rt s ((.tuple #[.slice c f g,.ii a])) P) ((∃N O Q R S T U V W X Y Z,P.cell? (ab_ n 0)=some (.ii N)/\P.cell? (ab_ n (0+1))=some (.ii O)/\P.cell? (ab_ n (0+2))=some (.ii Q)/\P.cell? (ab_ n (0+3))=some (.slice R S T)/\P.cell? (ab_ n (0+4))=some (.ii U)/\P.cell? (ab_ n (0+5))=some (.ii V)/\P.cell? (ab_ n (0+6))=some (.ii W)/\P.cell? (ab_ n (0+7))=some (.ii X)/\P.cell? (ab_ n (0+8))=some (.ii Y)/\P.cell? (ab_ n (0+9))=some (.ii Z)/\PA P (.cells #[.ii N,.ii O,.ii Q,.slice R S T,.ii U,.ii V,.ii W,.ii X,.ii Y,.ii Z] 63) λc4=>PR_ (ap_ 59 (.slice c f g) (.slice (some (ab_ P 0)) 1 1)) c4 (kS_ λc5 c6 c7 c8=>(∃a2,a2<j/\m a2 c5 c6 c7 (IntKind.wrap .i64 (a+y)) c8)) (pV s)))) (pE s)))))) (pE s))))) (pE s)) (pE s)):am 168 #[.pointer d,.ii e] b s:=DC zU Tryz.func168 rfl a0
end Go.Proofs.YtjgjkeponbeekaaGreatDoor
namespace Go.aq
open Go
variable{I:List ah}{m:ah}
def ri(n:m.Ok)(P:m.aN.length<=64):gQ m=(nX m,0):=by
 have c:=EW n P;have a:jw m=(bj (fU m),0):=by unfold jw;rw[Zq oM]
 have b:kU 1 (bj (fU m))=(nX m,0):=by unfold kU nX;rw[Zq dC,Zq oM]
 unfold gQ;rw[a];simp only;rw[b];simp
def yy(P:¬m.aN.length<=64):gQ m=([],3):=by
 have n:jw m=([],3):=by unfold jw;rw[Zx oM]
 unfold gQ;rw[n];simp
def ends(n:List ah):List Int:=(List.range n.length).map λP=>((az (n.take (P+1))).length:Int)
def Cu{l:List ah}{i j:Nat}(n:i<=j):(az (l.take i)).length<=(az (l.take j)).length:=by
 have:l.take j=l.take i++(l.take j).drop i:=by
  conv=>lhs;rw[<-ZX i (l.take j)]
  rw[List.take_take,X2 n]
 rw[this,gl,QX];omega
def IJ(P:∀n∈I,n.Ok/\n.aN.length<=64):(az I).length<=675*I.length:=by
 induction I with
 |nil=>simp[az]
 |cons n I a=>
  rw[ij,QX,Xq];have d:=Ka (P n (QV ..)).1 (P n (QV ..)).2;have e:=a λb c=>P b (QJ _ c);omega
end Go.aq
namespace Go.Proofs.YtjgjkeponbeekaaGreatDoor
open Go.aq
variable{e:Int}
def Jt(b:0<=e)(c:e<1000000000000):cY (⟨(ax e).toArray⟩:ByteArray)=true:=by
 have d:=CP e;have f:=uQ e.toNat;have a:=mC b c;have g:(⟨(ax e).toArray⟩:ByteArray).size=(ax e).length:=by simp[ByteArray.size]
 unfold cY;rw[g,QK,QK,Zk,Zk];refine⟨⟨by rw[a,QX];show 1<=4+_;omega,d⟩,?_⟩;show(ax e).all eG=true;rw[a,List.all_append,QK];refine⟨dC,ZY.2 λn P=>?_⟩;have:=ZY.1 f.2.1 n P;have h:∀n:UInt8,gP n=true->eG n=true:=by
  intro n;have i:(List.range 256).all (λe=>!(gP (UInt8.ofNat e))||eG (UInt8.ofNat e))=true:=by decide+kernel
  have:=ZY.1 i n.toNat (List.mem_range.2 n.toNat_lt);rw[UInt8.ofNat_toNat]at this;intro j;rw[j]at this;simpa using this
 exact h n this
end Go.Proofs.YtjgjkeponbeekaaGreatDoor
namespace Go.aq
open Go
end Go.aq
namespace Go.Proofs.YtjgjkeponbeekaaGreatDoor
section
open Go.aq
variable{a c:Nat}{f:LL}{d:ac}{j:Type}{b:World}{m:ah}
def Ey{D:LL}(r:Laid b)(s:Row aP 8 b D d a m.aN)(i:m.Ok)(t:∀P,D P->P<b.heap.size):
  am 205 #[.agg (aH m d a c).toArray] b (Ok λu j=>∃k l o p,u= .tuple #[.slice k l o,ZT (gQ m).2]/\aV gh 5 p j k l o (gQ m).1/\ai b j/\∀P,p P->b.heap.size<=P):=by
 refine zK (PA.mk λC e E n=>?_);refine⟨_,_,_,_,_,_,_,_,_,_,_,_,ae n rfl,ae n rfl,ae n rfl,ae n rfl,ae n rfl,ae n rfl,ae n rfl,ae n rfl,ae n rfl,ae n rfl,
  PC.ok (OM (s.af e) i λP h=>Qk (t P h) e.size) ?_⟩
 rintro _ v ⟨_,rfl,F,H,I,J,rfl,q,f,K⟩;refine⟨_,_,_,_,rfl,al.eM (λw=>?_) (λx=>?_)⟩
 ·rw[show gQ m=([],(jw m).2) by unfold gQ;rw[Zx w]]
  exact Ok.mk ⟨none,0,0,λ_=>False,rfl,aV.nil v,e.then f,λ_ g=>g.elim⟩
 rw[show gQ m=kU 1 (jw m).1 by unfold gQ;rw[Zq (by simpa using x)]];have L:(jw m).1.length<=666:=by
  by_cases g:64<m.aN.length
  ·simp[jw,g]
  ·have:=EW i oM
   simpa[jw,g]using this
 refine PC.ok (EM (r.af (e.then f)).pU (q.row (bytes:=1) dC (by unfold aT;omega)) q.aE) ?_;rintro _ M ⟨_,rfl,N,O,Q,y,rfl,z,A,B⟩;refine⟨_,_,_,_,rfl,Ok.mk ⟨_,_,_,y,rfl,z,(e.then f).then A,λP h=>?_⟩⟩;have:=B P h;have:=(e.then f).size;omega
def SD{n:List j}(b:n.length=a)(P:Nat):(n.take a).drop P=n.drop P:=by rw[Qz oM]
def Si{D:ak}{no:Int}(O:Laid b)(Q:aU b a f D)(hn:aM no):
  am 168 #[L2 a,ZT no] b (Ok λB d=>∃o p q G,B= .tuple #[.slice o p q,ZT ((bF (D.read (cF (ax no))).1).2:Int)]/\
   aV vS 63 G d o p q (bF (D.read (cF (ax no))).1).1/\ai b d/\(∀P,G P->b.heap.size<=P)/\(bF (D.read (cF (ax no))).1).1.length<=262144):=by
 refine zV (PC.ok (jZ O hn) ?_);rintro _ w1 ⟨rfl,u⟩;refine⟨_,rfl,PC.ok (xS (Q.af u)) ?_⟩;rintro _ r ⟨_,rfl,a4,R,c2,F2,rfl,l,C,c3⟩;have S:=Jh Q.ok (cF (ax no));have E:(D.read (cF (ax no))).2≠0->(D.read (cF (ax no))).1=[]:=by
  unfold ak.read;split
  ·intro _;rfl
  ·split
   ·intro _;rfl
   ·intro h;exact Zz rfl h
 generalize D.read (cF (ax no))=rd at l S E;obtain⟨c,er⟩:=rd;simp only at l S E⊢;refine⟨_,_,_,_,rfl,al.eM (λk=>?_) (λhe=>?_)⟩
 ·rw[E k,rQ]
  exact Ok.mk ⟨none,0,0,λ_=>False,rfl,aV.nil r,u.then C,λ_ h=>h.elim,sM⟩
 have b2:=l.len dC;have b3:=l.lv;have a9:Row gh 1 r F2 a4 R c:=l.row dC (by unfold aT;omega);refine⟨λT v w y F d=>∃(n:Nat) (g:List ah) (G:LL),F=n/\n<=c.length/\T=c.length-n/\bF c=(g++(bF (c.drop n)).1,n+(bF (c.drop n)).2)/\g.length<=n/\
  aV vS 63 G d v w y g/\ai r d/\∀P,G P->r.heap.size<=P,⟨_,0,[],λ_=>False,rfl,Qj _,rfl,sM,sM,aV.nil r,aj.refl _,λ_ h=>h.elim⟩,?_⟩
 rintro T v w y _ _ U ⟨n,g,G,rfl,c5,rfl,V,c6,s,m,H⟩;refine⟨oM,oM,?_⟩;have W:ai b U:=(u.then C).then m;have X:=(a9.af m).part (lo:=n) (hi:=R) (cap:=c2) oM (Q4 _) b3;rw[SD b2.symm]at X;rw[Qx];refine PC.ok (EN (O.af W).pU X oM λP e=>by have:=l.aE P e;have:=m.size;omega) ?_;rintro _ I ⟨b0,n4,c4,F4,rfl,b4,z,c8⟩;have i:¬((br (c.drop n)).no=0/\(br (c.drop n)).kind=1/\(iU (br (c.drop n)).body).2=0)->∀d,ai I d->
   Ok (λB d=>∃o p q G,B= .tuple #[.slice o p q,ZT ((bF c).2:Int)]/\aV vS 63 G d o p q (bF c).1/\ai b d/\(∀P,G P->b.heap.size<=P)/\(bF c).1.length<=262144) (.returned (.tuple #[.slice v w y,ZT (n:Int)])) d:=by
  intro h d Y;rw[V,CO h];refine Ok.mk ⟨v,w,y,G,sM,by simpa using(s.af z).af Y,(W.then z).then Y,λP e=>?_,by simp;omega⟩;have:=H P e;have:=(u.then C).size;omega
 refine⟨_,_,_,_,_,_,rfl,PA.mk λw5 k5 s5 g5=>?_⟩;refine storeAll [ZT (br (c.drop n)).kind,.slice b0 n4 c4] g5 rfl λJ k6 s6 Z=>?_;have t:ai I J:=k5.new k6 λP e=>.inr oM;refine al.eM (λk=>i (λh=>k h.1) J t) (λa0=>?_);refine⟨_,ae Z rfl,al.eM (λk=>i (λh=>k h.2.1) J t) (λb1=>?_)⟩;obtain⟨b5,h9,c9⟩:=vV a0;rw[XZ]at b5;have a1:=b4.af t;refine⟨_,_,_,ae Z rfl,PC.ok (ON (a1.row (bytes:=1) dC (by unfold aT;omega)) a1.aE) ?_⟩;rintro _ w7 ⟨a7,n7,c7,F7,rfl,K,k7,a3⟩;obtain⟨L,a5⟩:=SE (br (c.drop n)).body;generalize M:iU (br (c.drop n)).body=b6 at K L a5;obtain⟨x,xe⟩:=b6;simp only at K L a5;refine⟨_,_,_,_,_,_,_,_,_,_,_,_,_,rfl,PA.mk λw8 k8 s8 g8=>?_⟩;refine storeAll (aH x a7 n7 c7) g8 rfl λA k9 s9 j=>?_;have a6:ai w7 A:=k8.new k9 λP e=>.inr oM;have a8:ai I A:=(t.then k7).then a6;refine al.eM (λk=>i (λh=>k (by have:=h.2.2;rw[M]at this;exact this)) A a8) (λb7=>?_);refine⟨_,_,_,_,_,_,_,_,_,_,_,_,ae j rfl,ae j rfl,ae j rfl,ae j rfl,ae j rfl,ae j rfl,ae j rfl,ae j rfl,ae j rfl,ae j rfl,?_⟩;have N:ai U A:=z.then a8;have b8:=s.af N;have a2:=K.af a6;have d0:=(z.then t).size;refine NV b8 Kp (x:=x) (D:=F7) ⟨a7,n7,c7,F7,rfl,a2,λ_ h=>h,L,by unfold aT;omega⟩ (λP e=>⟨a2.aE P e,λhc=>?_⟩) (by unfold aT;omega) (by unfold maxLen;omega) λa' c' d1 F' b9 c0 c1 _=>?_
 ·have h1:=s.aE P (s.self P hc)
  have h2:=a3 P e;omega
 refine⟨_,_,_,rfl,_,?_,n+(br (c.drop n)).n,g++[x],F',?_,oM,rfl,?_,by simp;omega,b9,?_,?_⟩
 ·omega
 ·rw[wrap_i64 (by unfold aM;omega)];omega
 ·rw[V,yW ⟨a0,b1,by rw[M];exact b7⟩,M,List.drop_drop]
  simp only[XQ,List.cons_append,List.nil_append,Nat.add_assoc]
 ·exact(m.then N).new c0 λP e=>.inr (H P (s.self P e))
 ·intro P e
  have hz:=(m.then N).size;have d2:=m.size;rcases c1 P e with h|h|h
  ·exact H P h
  ·have:=a3 P h;omega
  ·omega
end
section
open Go.aq
variable{o:Array Value}{A:FuncId}{e:Int}{d7:Int×ak}{t:List Int}{a c:Nat}{f:LL}{d:ac}{b:World}
def bQ{D:LL}(h:Row aP 8 b D d a t)(f:∀n,D n->n<b.heap.size):
  am 92 #[.slice d a c] b (Ok (qD aP 3 b t)):=by
 have x:=h.len;have P:=h.fe;refine oR (kW uZ.under ⟨_,rfl,al.mk (λe=>?_) (λe=>PA.mk λj g y k=>?_)⟩)
 ·have:t=[]:=by
   cases d with
   |none=>
    cases t with
    |nil=>rfl
    |cons l z=>obtain⟨n,m,A,o,_⟩:=h.el 0 l rfl;cases o
   |some p=>cases e
  subst this;exact Ok.mk ⟨none,0,0,λ_=>False,rfl,aV.nil b,aj.refl _,λ_ h=>h.elim⟩
 ·cases d with
  |none=>cases e
  |some p=>
   have q:aV aP 3 (·=b.heap.size) j (PP b.heap.size) 0 0 []:=
    ⟨⟨[],λ_=>False,Own.AJ (cur:= #[]) k rfl (Qj _),rfl,λ_ h=>h.elim⟩,λn P=>by simpa[aG]using P.symm,λn P=>oM⟩
   refine lG q uZ (D:=D) (h.af g) (λn P=>⟨by have:=f n P;omega,by have:=f n P;simp only[aG];intro r;cases r;omega⟩) (by simp;omega) (by unfold aT at P;unfold maxLen;simp;omega) λi s B C u v _ w=>?_;refine⟨_,_,_,rfl,Ok.mk ⟨i,_,s,λn=>aG i=some n,rfl,by have h:=u.alone;rw[List.nil_append]at h;exact h,g.new v λn P=>.inr ?_,λn P=>?_⟩⟩
   ·simp only[aG,Q1]at P;omega
   ·rcases w n P with h|h<;>omega
def eE(n:Int)(P:ByteArray):Int:=if(gW P).2 then max n ((gW P).1+1)else n
def tE(n:List ByteArray):Int:=n.foldl eE 1
def ir(D:ak):Int:=tE D.list
def EV(n:ByteArray):0<=(gW n).1/\(gW n).1<1000000000000:=by
 unfold gW;split
 ·rename_i a P
  have:=(Cs P).2;simp;omega
 ·simp
def Hf(P:1<=e/\e<=1000000000000)(n:ByteArray):1<=eE e n/\eE e n<=1000000000000:=by
 have:=EV n;unfold eE;split<;>omega
def Jo:∀(P:List ByteArray) (n:Int),(1<=n/\n<=1000000000000)->1<=P.foldl eE n/\P.foldl eE n<=1000000000000
 |[],n,a=>a
 |s::P,n,a=>Jo P _ (Hf a s)
def sq(n:List ByteArray):1<=tE n/\tE n<=1000000000000:=Jo n 1 oM
def Jp{D:ak}(s:Laid b)(h:aU b a f D):
  am 108 #[L2 a] b (Ok λt d=>t= ZT (ir D)/\ai b d):=by
 refine DE (PC.ok (xU h) ?_);rintro _ i ⟨u,c,z,G,rfl,j,k,A⟩;have B:D.list.length<=64:=by rw[oJ];exact h.ok.many
 have C:=j.len dC;have v:Row OH 16 i G u c D.list:=j.row dC (by unfold aT;omega);refine⟨_,_,_,rfl,λl m o d=>∃n:Nat,o=n/\n<=c/\l=c-n/\m=tE (D.list.take n)/\ai i d,⟨_,0,rfl,Qj _,rfl,rfl,aj.refl _⟩,?_⟩;rintro l m o _ E ⟨n,rfl,F,rfl,rfl,P⟩;refine al.dec (λH=>?_) (λI=>?_)
 ·obtain⟨w,e,p,rfl,x,_,y⟩:=(v.af P).oy (i:=n) oM
  refine⟨w,e,rfl,oM,oM,_,y,PC.ok (Bj (s.af (k.then P))) ?_⟩;rintro _ J ⟨rfl,q⟩;have K:=EV p;have L:=sq (D.list.take n);have r:tE (D.list.take (n+1))=eE (tE (D.list.take n)) p:=by
   unfold tE;rw[Qw,x,List.foldl_append];rfl
  refine⟨_,_,rfl,al.mk (λg=>⟨_,?_,n+1,an oM,oM,rfl,?_,P.then q⟩) (λg=>⟨_,?_,n+1,an oM,oM,rfl,?_,P.then q⟩)⟩
  ·omega
  ·rw[r,wrap_i64 (by unfold aM;omega)]
   unfold eE;rw[Zx g];split<;>omega
  ·omega
  ·rw[r];unfold eE;rw[Zq (by simp[g])]
 ·obtain rfl:n=c:=oM
  rw[Qz oM];exact Ok.mk ⟨rfl,k.then P⟩
structure dw where
 size:Int
 a_:List Int
 bytes:Int
 next:Int
structure ju (w:World) (p q:Nat) (G:LL) (V:dw):Prop where
 body:∃a n c E,w.heap[q]? =some (.cells #[L2 p,ZT V.size,.slice a n c,ZT V.bytes,ZT V.next] 209 (0,0))/\aV aP 3 E w a n c V.a_/\∀b,E b->G b/\b≠q
 self:G q
 aE:∀b,G b->b<w.heap.size
 many:V.a_.length<=64
 BH:aM V.next
section
variable {w0 w w1 w':World} {p q:Nat} {D D':ak} {V V':dw} {X Y G S:LL}
def ju.keep(P:ju w p q G V)(a:aj S w w')(c:∀n,G n->¬S n):ju w' p q G V:=by
 obtain⟨e,f,g,h,i,j,d⟩:=P.body;exact⟨⟨e,f,g,h,a.get i (c q P.self),j.keep a λn b=>c n (d n b).1,d⟩,P.self,λn b=>Qk (P.aE n b) a.size,P.many,P.BH⟩
def ju.af(n:ju w p q G V)(P:ai w w'):ju w' p q G V:=n.keep P λ_ _ n=>n
def cE(w0 w:World)(p q:Nat)(V:dw)(D:ak)(X:LL):Prop:=∃G,aY w0 w p D (λn=>X n\/G n)/\ju w p q G V/\∀n,G n->w0.heap.size<=n/\¬X n
def cE.gr(n:cE w0 w p q V D X):ai w0 w:=by obtain⟨G,P,a,b⟩:=n;exact P.gr
def cE.ok(n:cE w0 w p q V D X):D.Ok:=by obtain⟨G,P,a,b⟩:=n;exact P.ok
def cE.many(n:cE w0 w p q V D X):V.a_.length<=64:=by obtain⟨G,a,P,b⟩:=n;exact P.many
def cE.BH(n:cE w0 w p q V D X):aM V.next:=by obtain⟨G,a,P,b⟩:=n;exact P.BH
def cE.aE(P:cE w0 w p q V D X):∀n,X n->n<w.heap.size:=by obtain⟨G,⟨c,d,e,f,a⟩,g,h⟩:=P;exact λn b=>a n (.inl b)
def cE.Za(P:cE w0 w p q V D X):q<w.heap.size/\w0.heap.size<=q/\¬X q:=by obtain⟨G,b,n,a⟩:=P;exact⟨n.aE q n.self,a q n.self⟩
def cE.uJ(n:cE w0 w p q V D X):aY w0 w p D X:=by obtain⟨G,P,b,c⟩:=n;exact P.mono λd a=>.inl a
def cE.af(P:cE w0 w p q V D X)(n:ai w w'):cE w0 w' p q V D X:=by
 obtain⟨G,a,b,c⟩:=P;exact⟨G,a.af n,b.af n,c⟩
def cE.mono(c:cE w0 w p q V D X)(a:∀n,Y n->X n):cE w0 w p q V D Y:=by
 obtain⟨G,d,e,b⟩:=c;exact⟨G,d.mono λn P=>P.imp (a n) id,e,λn P=>⟨(b n P).1,λf=>(b n P).2 (a n f)⟩⟩
def cE.add(e:cE w0 w p q V D X)(a:ai w w')(b:∀n,Y n->w.heap.size<=n/\n<w'.heap.size):cE w0 w' p q V D (λn=>X n\/Y n):=by
 obtain⟨G,f,c,d⟩:=e;refine⟨G,(f.add a b).mono λn P=>?_,c.af a,λn P=>⟨(d n P).1,λg=>g.elim (d n P).2 λh=>by have:=c.aE n P;have:=(b n h).1;omega⟩⟩;rcases P with(P|P)|P
 ·exact .inl (.inl P)
 ·exact .inr P
 ·exact .inl (.inr P)
def cE.other(f:cE w0 w p q V D X)(a:aj Y w w')(b:∀n,Y n->X n/\w0.heap.size<=n):cE w0 w' p q V D X:=by
 obtain⟨G,⟨g,h,i,d,j⟩,k,e⟩:=f;exact⟨G,⟨g,h.keep a λn P c=>(d n P).2 (.inl (b n c).1),i.new a λn P=>.inr (b n P).2,d,λn P=>Qk (j n P) a.size⟩,k.keep a λn P c=>(e n P).2 (b n c).1,e⟩
def cE.on(d:cE w0 w p q V D X)(e:∀a,(∀n,X n->a n)->aY w0 w p D a->am A o w (Ok (nY w0 w p a d7))):am A o w (Ok λb w'=>b= ZT d7.1/\cE w0 w' p q V d7.2 X/\aj (dT X) w w'):=by
 obtain⟨G,f,g,h⟩:=d;refine Calls.ok (e _ (λn P=>.inl P) f) ?_;rintro b w' ⟨i,j,c⟩;exact⟨i,⟨G,j,g.keep c λn P k=>k (.inr P),h⟩,c.mono λn _ P l=>P (.inl l)⟩
def dw.last(V:dw):ByteArray:=cF (ax (V.a_.getLast?.getD 0))
def ju.row(d:ju w p q G V):∃P n b a,w.heap[q]? =some (.cells #[L2 p,ZT V.size,.slice P n b,ZT V.bytes,ZT V.next] 209 (0,0))/\Row aP 8 w a P n V.a_/\(∀c,a c->G c/\c≠q)/\n=V.a_.length:=by
 obtain⟨P,n,b,a,f,e,g⟩:=d.body;have:=d.many;exact⟨P,n,b,a,f,e.row dC (by unfold aT;omega),g,e.len dC⟩
def Jq(d:Laid w)(b:ju w p q G V)(e:V.a_≠[]):am 206 #[L2 q] w (Ok λf w'=>f= .string V.last/\ai w w'):=by
 obtain⟨u,P,v,x,g,h,y,i⟩:=b.row;have z:0<V.a_.length:=List.length_pos_iff.2 e;have A:=b.many;refine vw λw1 j=>?_;have n:ai w w1:=j.keep;have c:=n.get g id;have k:IntKind.wrap .i64 ((P:Int)-1)=((P-1:Nat):Int):=by rw[wrap_i64 (by unfold aM;omega)];omega
 obtain⟨l,a,m,rfl,o,r,s⟩:=(h.af n).oy (i:=P-1) oM;refine⟨q,0,rfl,_,_,_,ae c rfl,q,0,rfl,_,_,_,ae c rfl,l,a,rfl,?_⟩;rw[k];refine⟨oM,oM,m,s,PC.ok (jZ (d.af n) r) ?_⟩;rintro _ B ⟨rfl,t⟩;refine⟨_,rfl,Ok.mk ⟨?_,n.then t⟩⟩;unfold dw.last;rw[List.getLast?_eq_getElem?,<-i,o];rfl
def Jr(i:Laid w0)(f:cE w0 w p q V D X)(j:V.a_≠[]):am 135 #[L2 q] w (Ok λk w'=>k= ZT (D.sync V.last).1/\cE w0 w' p q V (D.sync V.last).2 X/\aj (dT X) w w'):=by
 refine vr λw1 l=>?_;have c:ai w w1:=l.keep;have m:=f.af c;obtain⟨G,o,n,g⟩:=m;obtain⟨y,z,A,B,r,C,E,h⟩:=n.row;have F:=g q n.self;have H:=n.aE q n.self;refine⟨λa=>a≠q/\¬X a,q,0,rfl,λs=>s.1 rfl,_,ae r rfl,PC.ok (Jq (i.af (f.gr.then c)) n j) ?_⟩;rintro _ I ⟨rfl,b⟩;have t:=n.af b;have u:=o.af b;refine⟨_,rfl,b.keep,PC.ok u.sync ?_⟩;rintro _ J ⟨rfl,v,d⟩;refine⟨_,rfl,d.mono λa _ P=>⟨λx=>P (.inr (x▸n.self)),λe=>P (.inl e)⟩,Ok.mk ⟨rfl,⟨G,v,t.keep d λa P h=>h (.inr P),g⟩,?_⟩⟩;exact(ai.keep (c.then b)).then (d.mono λa _ P e=>P (.inl e))
def GK(n:ju w p q G V):am 145 #[L2 q] w (Ok (qD aP 3 w V.a_)):=by
 obtain⟨i,j,k,l,a,b,c,m⟩:=n.row;refine qh ⟨q,0,rfl,_,_,_,ae a rfl,PC.ok (bQ b λP d=>n.aE P (c P d).1) ?_⟩;rintro _ w1 ⟨o,r,s,e,rfl,f,g,h⟩;exact⟨_,_,_,rfl,Ok.mk ⟨_,_,_,e,rfl,f,g,h⟩⟩
def Rq(n:ju w p q G V):am 144 #[L2 q] w (Ok λP w'=>P= ZT V.next/\w=w'):=by
 obtain⟨b,c,d,e,a,f,g,h⟩:=n.row;exact vv ⟨q,0,rfl,_,ae a rfl,Ok.mk ⟨rfl,rfl⟩⟩
end
end
end Go.Proofs.YtjgjkeponbeekaaGreatDoor
namespace Go.aq
open Go
def pN(n:Int×Int):Value:=.agg #[ZT n.1,ZT n.2]
def C_(n:Int×Int×Int):Value:=.agg #[ZT n.1,ZT n.2.1,ZT n.2.2]
structure Km (P:Program) (t ti:TypeId):Prop where
 hu:P.underlying t=some (.struct (P.fieldsOf t))
 ui:P.underlying ti=some (.int .i64)
 hf:∃n1 n2,(P.fieldsOf t).toList.map (λf=>(f.name,f.type,f.offset))=[(n1,ti,0),(n2,ti,1)]/\n1≠ "_"/\n2≠ "_"
 hp:P.stoodInHeld t=false
 hm:P.eqGuardType P.depth t=false
 ag:uK P ti=false
variable{E X e l:Int}{Y a1:Operand}{q u:L1}{b:World}
section
variable {P:Program} {t ti:TypeId}
def Km.equalIn(a:Km P t ti)(e:Nat)(b c:Int×Int)(d:World):(Op.equalIn (e+2) t (pN b) (pN c)).run P d= .ok (b==c) d:=by
 obtain⟨v,w,n,f,g⟩:=a.hf;unfold pN;rw[run_equalIn_struct d (e+1) _ _ _ a.hu a.hp];generalize(P.fieldsOf t).toList=h at n
 match h,n with
 |[x,y],n=>
  simp only[QY,List.map_nil,List.cons.injEq,Prod.mk.injEq,and_true]at n;obtain⟨⟨i,j,k⟩,l,m,o⟩:=n;have p:(isAgg ti).run P d= .ok false d:=dF _ _ _ a.ag ⟨_,a.ui⟩ d;have q:=run_equalIn_int (P:=P) d e ti .i64 .i64 b.1 c.1 a.ui;have r:=run_equalIn_int (P:=P) d e ti .i64 .i64 b.2 c.2 a.ui;unfold Op.eqFields Op.eqFields Op.eqFields;rw[i,j,k,l,m,o];have s:(b==c)=(b.1==c.1&&b.2==c.2):=rfl;rw[s]
  cases a:b.1==c.1<;>simp[part,p,q,r,a,f,g]
  by_cases u:b.2=c.2<;>simp[u]
 |[],n=>simp at n
 |[_],n=>simp at n
 |_::_::_::_,n=>simp at n
def Km.eql(n:Km P t ti)(a:q (.bool (e==E&&l==X)) b):
  aJ P (do eqGuard .eql t Y a1 (.agg #[ZT e,ZT l]) (.agg #[ZT E,ZT X]);binOp .eql t (.agg #[ZT e,ZT l]) (.agg #[ZT E,ZT X]):Sem Value) b q u:=by
 refine aJ.mk (v:=.bool (e==E&&l==X)) ?_ a;rw[Sem.run_bind,run_eqGuard_agg b .eql _ Y a1 _ _ n.hm,Result.andThen_ok,run_eql_struct];have:=n.equalIn 9998 (e,l) (E,X) b;unfold pN at this;rw[this];rfl
def Km.neq(n:Km P t ti)(a:q (.bool (!(e==E&&l==X))) b):
  aJ P (do eqGuard .neq t Y a1 (.agg #[ZT e,ZT l]) (.agg #[ZT E,ZT X]);binOp .neq t (.agg #[ZT e,ZT l]) (.agg #[ZT E,ZT X]):Sem Value) b q u:=by
 refine aJ.mk (v:=.bool (!(e==E&&l==X))) ?_ a;rw[Sem.run_bind,run_eqGuard_agg b .neq _ Y a1 _ _ n.hm,Result.andThen_ok,run_neq_struct];have:=n.equalIn 9998 (e,l) (E,X) b;unfold pN at this;rw[this];rfl
def Km.check(b:Km P t ti)(d:Nat)(g:Int×Int)(a:World)(e:Bool):(Instr.checkKey e (d+2) t (pN g)).run P a= .ok () a:=by
 obtain⟨u,v,n,h,i⟩:=b.hf;have j:(isAgg ti).run P a= .ok false a:=dF _ _ _ b.ag ⟨_,b.ui⟩ a;have k:∀f:Int,(Instr.checkKey e (d+1) ti (ZT f)).run P a= .ok () a:=λf=>by simp[Instr.checkKey,run_underlying b.ui]
 unfold pN;have l:=b.hu;unfold Instr.checkKey;rw[Sem.run_bind,run_underlying l,Result.andThen_ok];generalize w:P.fieldsOf t=c at n;obtain⟨c⟩:=c
 match c,n with
 |[x,y],n=>
  simp only[QY,List.map_nil,List.cons.injEq,Prod.mk.injEq,and_true]at n;obtain⟨⟨m,o,p⟩,q,r,s⟩:=n;simp[m,o,p,q,r,s,part,j,k,h,i]
 |[],n=>simp at n
 |[_],n=>simp at n
 |_::_::_::_,n=>simp at n
def Km.key(n:Km P t ti):jh P t pN:=
 jh.struct n.hu (λa b=>rfl) (λa b c=>n.equalIn 9998 a b c) (λd c e=>n.check 9998 d c e) (λf a=>by unfold pN;simp[Instr.sameBits]) λ{a b} n=>by
  unfold pN at n;simp only[Value.agg.injEq,Array.mk.injEq,List.cons.injEq,Value.int.injEq,and_true,true_and]at n;exact Prod.ext n.1 n.2
structure wR (P:Program) (t t2 ti:TypeId):Prop where
 two:Km P t2 ti
 hu:P.underlying t=some (.struct (P.fieldsOf t))
 hf:∃n1 n2,(P.fieldsOf t).toList.map (λf=>(f.name,f.type,f.offset))=[(n1,t2,0),(n2,ti,2)]/\n1≠ "_"/\n2≠ "_"
 hp:P.stoodInHeld t=false
 ag:uK P t2=true
 sz:(P.info? t2).map (·.size)=some 2
variable {t2:TypeId}
def wR.SQ(b:wR P t t2 ti)(a:Int×Int×Int)(n:World):(part t2 #[ZT a.1,ZT a.2.1,ZT a.2.2] 0).run P n= .ok (pN (a.1,a.2.1)) n:=by
 obtain⟨g,c,d⟩:=Option.map_eq_some_iff.1 b.sz;have e:(isAgg t2).run P n= .ok true n:=dF _ _ _ b.ag ⟨_,b.two.hu⟩ n;have f:(sizeOf t2).run P n= .ok 2 n:=by simp[sizeOf,typeInfo,c,d]
 unfold part;simp[e,f,pN]
def wR.equalIn(d:wR P t t2 ti)(f:Nat)(n a:Int×Int×Int)(b:World):(Op.equalIn (f+3) t (C_ n) (C_ a)).run P b= .ok (n==a) b:=by
 obtain⟨A,B,c,h,i⟩:=d.hf;have j:=d.SQ n b;have k:=d.SQ a b;have g:=d.two.equalIn f (n.1,n.2.1) (a.1,a.2.1) b;have m:=run_equalIn_int (P:=P) b (f+1) ti .i64 .i64 n.2.2 a.2.2 d.two.ui;have o:(isAgg ti).run P b= .ok false b:=dF _ _ _ d.two.ag ⟨_,d.two.ui⟩ b;unfold C_;rw[run_equalIn_struct b (f+2) _ _ _ d.hu d.hp];generalize(P.fieldsOf t).toList=p at c
 match p,c with
 |[C,E],c=>
  simp only[QY,List.map_nil,List.cons.injEq,Prod.mk.injEq,and_true]at c;obtain⟨⟨q,r,s⟩,u,v,w⟩:=c;unfold Op.eqFields Op.eqFields Op.eqFields;rw[q,r,s,u,v,w];have x:(n==a)=(((n.1,n.2.1):Int×Int)==(a.1,a.2.1)&&n.2.2==a.2.2):=by
   show(n.1==a.1&&(n.2.1==a.2.1&&n.2.2==a.2.2))=((n.1==a.1&&n.2.1==a.2.1)&&n.2.2==a.2.2);rw[Bool.and_assoc]
  rw[x];have y:∀e:Int×Int×Int,(part ti #[ZT e.1,ZT e.2.1,ZT e.2.2] 2).run P b= .ok (ZT e.2.2) b:=λe=>by simp[part,o]
  cases l:((n.1,n.2.1):Int×Int)==(a.1,a.2.1)with
  |false=>
   rw[l]at g;simp[j,k,g,h,i]
  |true=>
   rw[l]at g;simp[j,k,g,m,y,h,i]
   by_cases z:n.2.2=a.2.2<;>simp[z]
 |[],c=>simp at c
 |[_],c=>simp at c
 |_::_::_::_,c=>simp at c
def wR.check(c:wR P t t2 ti)(d:Nat)(b:Int×Int×Int)(n:World)(e:Bool):(Instr.checkKey e (d+3) t (C_ b)).run P n= .ok () n:=by
 obtain⟨x,y,a,h,i⟩:=c.hf;have j:=c.SQ b n;have k:(isAgg ti).run P n= .ok false n:=dF _ _ _ c.two.ag ⟨_,c.two.ui⟩ n;have l:∀g:Int,(Instr.checkKey e (d+2) ti (ZT g)).run P n= .ok () n:=λg=>by simp[Instr.checkKey,run_underlying c.two.ui]
 have m:=c.two.check d (b.1,b.2.1) n e;have o:(part ti #[ZT b.1,ZT b.2.1,ZT b.2.2] 2).run P n= .ok (ZT b.2.2) n:=by simp[part,k]
 unfold C_;have p:=c.hu;rw[show d+3=(d+2)+1 from rfl];unfold Instr.checkKey;rw[Sem.run_bind,run_underlying p,Result.andThen_ok];generalize z:P.fieldsOf t=f at a;obtain⟨f⟩:=f
 match f,a with
 |[A,B],a=>
  simp only[QY,List.map_nil,List.cons.injEq,Prod.mk.injEq,and_true]at a;obtain⟨⟨q,r,s⟩,u,v,w⟩:=a;simp[q,r,s,u,v,w,j,o,m,l,h,i]
 |[],a=>simp at a
 |[_],a=>simp at a
 |_::_::_::_,a=>simp at a
def wR.key(n:wR P t t2 ti):jh P t C_:=
 jh.struct n.hu (λa b=>rfl) (λa b c=>n.equalIn 9997 a b c) (λd c e=>n.check 9997 d c e) (λf a=>by unfold C_;simp[Instr.sameBits]) λ{a b} n=>by
  unfold C_ at n;simp only[Value.agg.injEq,Array.mk.injEq,List.cons.injEq,Value.int.injEq,and_true,true_and]at n;exact Prod.ext n.1 (Prod.ext n.2.1 n.2.2)
end
end Go.aq
namespace Go.Proofs.YtjgjkeponbeekaaGreatDoor
open Go.aq
abbrev FF:Int×Int->Value:=pN
def MN:Km WP 46 3:=⟨kR,kR,⟨"Origin", "Seq",kR,dC,dC⟩,kR,kR,kR⟩
def Yc:jh WP 46 FF:=MN.key
abbrev sG:ah:=⟨0,0,0,[],0,0,0,0,0,0⟩
abbrev kK(n:ah)(P:ac)(a b:Nat):Value:=.agg (aH n P a b).toArray
def SF:mE WP 182 46 63 (kK sG none 0 0):=⟨kR,kR⟩
def lq{c:World}{D:LL}:∀{n:List Int} {cs:List Value},bM aP c D n cs↔cs=ints n/\∀x∈n,aM x
 |[],cs=>by simp[bM,ints]
 |x::n,cs=>by
  constructor
  ·rintro⟨g,h,rfl,⟨rfl,d⟩,e⟩
   obtain⟨rfl,f⟩:=lq.1 e;exact⟨rfl,λa P=>by rcases Q2.1 P with rfl|P;exact d;exact f a P⟩
  ·rintro⟨rfl,b⟩
   exact⟨[ZT x],ints n,rfl,⟨rfl,b x (QV ..)⟩,lq.2 ⟨rfl,λa P=>b a (QJ _ P)⟩⟩
variable{e:Int}{t:List Int}{F a c i p:Nat}{f:LL}{d:ac}{h:Program}{g r:TypeId}{x:Value}{b k:World}{z:UV}{m:ah}
def SG(P:aV aP g f b d a c t)(m:i<t.length)(o:aM e)(q:d=some ⟨p,F,none⟩)(h:∀n,aV aP g f n d a c (t.set i e)->aj (λp=>aG d=some p) b n->n.heap.size=b.heap.size->z n):PS b ⟨p,F+i,none⟩ (ZT e) z:=by
 obtain⟨cs,D,r,s,u⟩:=P.body;obtain⟨rfl,j⟩:=lq.1 s;refine r.set (m:=i) (by rw[jS];exact m) q λn v w l=>h n ⟨⟨_,D,v,lq.2 ⟨?_,?_⟩,u⟩,P.self,λp j=>by rw[l];exact P.aE p j⟩ w l
 ·unfold ints;rw[List.map_set]
 ·intro x k
  rcases List.mem_or_eq_of_mem_set k with k|rfl
  ·exact j x k
  ·exact o
def UE(b:World)(D:LL)(c:Value)(n:ah):Prop:=∃P a d,c=kK n P a d/\Row aP 8 b D P a n.aN/\n.Ok
def UE.keep{S D:LL}(P:UE b D x m)(a:aj S b k)(c:∀n,D n->¬S n):UE k D x m:=by
 obtain⟨d,e,f,g,h,i⟩:=P;exact⟨d,e,f,g,h.keep a c,i⟩
def UE.mono{D n:LL}(a:UE b D x m)(c:∀P,D P->n P):UE b n x m:=by
 obtain⟨d,e,f,g,h,i⟩:=a;exact⟨d,e,f,g,h.mono c,i⟩
def CK:sG.Ok:=by constructor<;>simp[aM]
def ng{D:LL}(h:Row aP 8 b D d a m.aN)(u:∀n,D n->n<b.heap.size):
  am 115 #[kK m d a c] b (Ok λv i=>∃d a c G,v=kK m d a c/\Row aP 8 i G d a m.aN/\(∀n,G n->b.heap.size<=n/\n<i.heap.size)/\ai b i):=by
 have w:=h.fe;have x:=h.len;refine zI (PA.mk λA o B e=>PA.mk λC f E j=>⟨_,_,_,ae (f.get e id) rfl,PC.ok (bQ (h.af (o.then f)) λn P=>by have:=u n P;omega) ?_⟩);rintro _ F ⟨p,q,r,G,rfl,s,g,k⟩;have e:=g.get (f.get e id) id;have j:=g.get j id;refine⟨_,_,_,rfl,PS.mk e (by simp[aH]) λH l I y=>?_⟩;refine au (cs:=aH m p q r) (bg _ _ _ _) y (aC (bg _ _ _ _) (l.get j oM) rfl λJ t K z=>au (bg _ _ _ _) z (Ok.mk ⟨p,q,r,G,rfl,?_,?_,?_⟩))
 ·refine(((s.keep l λn P=>?_).keep t λn P=>?_).row (bytes:=8) dC (by rw[<-x];exact w))
  ·have:=k n P;omega
  ·have:=k n P;omega
 ·intro n P
  have:=k n P;have:=s.aE n P;omega
 ·have L:=g.size
  exact((aj.new ((o.then f).then g) l λn P=>.inr oM).new t λn P=>.inr oM)
structure SH where
 a:ac
 n:Nat
 c:Nat
 r:Nat
 V:LL
 D:LL
 l:List ((Int×Int)×Value)
 L:List ((Int×Int)×ah)
structure sd (w:World) (p:Nat) (F:LL) (S:aw) (q:SH):Prop where
 at':w.heap[p]? =some (.cells #[.slice q.a q.n q.c,.map (some q.r),ZT S.top] 184 (0,0))
 vec:aV aP 3 q.V w q.a q.n q.c S.vec
 map:bR w q.r FF q.l
 rel:fF (UE w q.D) q.l q.L
 key:∀x∈q.L,x.1=bd x.2
 XC:(q.L.map (·.2)).Perm S.l
 aE:∀b,F b->b<w.heap.size
 sub:∀b,b=p\/b=q.r\/q.V b\/q.D b->F b
 XD:p≠q.r
 WA:¬q.V p/\¬q.V q.r
 XE:¬q.D p/\¬q.D q.r
 Ze:∀b,q.V b->¬q.D b
def cI(P:World)(a:Nat)(b:LL)(n:aw):Prop:=n.OK/\∃c,sd P a b n c
section
variable {w w' w1:World} {p:Nat} {F T:LL} {S:aw} {q:SH}
def sd.keep(n:sd w p F S q)(a:aj T w w')(c:∀P,F P->¬T P):sd w' p F S q:=
 ⟨a.get n.at' (c p (n.sub p (.inl rfl))),n.vec.keep a λP b=>c P (n.sub P (.inr (.inr (.inl b)))),n.map.keep a (c _ (n.sub _ (.inr (.inl rfl)))),
  n.rel.mono λe f d=>d.keep a λP b=>c P (n.sub P (.inr (.inr (.inr b)))),n.key,n.XC,λP b=>Qk (n.aE P b) a.size,n.sub,n.XD,n.WA,n.XE,n.Ze⟩
def sd.af(n:sd w p F S q)(P:ai w w'):sd w' p F S q:=n.keep P λ_ _ n=>n
def cI.keep(n:cI w p F S)(a:aj T w w')(b:∀P,F P->¬T P):cI w' p F S:=⟨n.1,n.2.imp λq c=>c.keep a b⟩
def cI.af(n:cI w p F S)(P:ai w w'):cI w' p F S:=n.keep P λ_ _ n=>n
def cI.aE(P:cI w p F S):∀n,F n->n<w.heap.size:=P.2.elim λq a=>a.aE
def sd.tidy(n:sd w p F S q):Tidy q.L:=by
 have:=n.map.tidy;unfold Tidy at*;rw[<-n.rel.keys];exact this
def sd.len(n:sd w p F S q):q.n=S.n:=by rw[n.vec.len dC,S.cj]
def sd.XF(n:sd w p F S q)(P:S.OK):Row aP 8 w q.V q.a q.n S.vec:=n.vec.row dC (by rw[S.cj];have:=P.n;unfold aT;omega)
def sd.look(P:sd w p F S q)(c:S.OK)(n:Int×Int):(ar q.l n=none/\S.get n=none)\/∃a b,ar q.l n=some a/\S.get n=some b/\UE w q.D a b:=by
 rw[<-Kc c P.key P.XC P.tidy n];exact P.rel.ar n
def oB(n:cI w p F S):am 58 #[L2 p] w (Ok (qD aP 3 w S.vec)):=by
 obtain⟨P,q,n⟩:=n;refine xp ⟨p,0,rfl,_,_,_,ae n.at' rfl,PC.ok (bQ (n.XF P) λa b=>n.vec.aE a b) ?_⟩;rintro _ i ⟨c,d,e,G,rfl,f,g,h⟩;exact⟨_,_,_,rfl,Ok.mk ⟨c,d,e,G,rfl,f,g,h⟩⟩
def HA(n:cI w p F S):am 133 #[L2 p] w (Ok λP w'=>P= ZT S.top/\w=w'):=by
 obtain⟨a,q,n⟩:=n;exact xr ⟨p,0,rfl,_,ae n.at' rfl,Ok.mk ⟨rfl,rfl⟩⟩
def SI(r:cI w p F S){D:LL}(s:Row aP 8 w D d a m.aN)(he:m.Ok)(hn:m.aN.length=S.n){o:Nat}(ho:o<S.n):
  am 114 #[L2 p,kK m d a c,ZT (o:Int)] w (Ok λj w'=>j= .bool (S.mG m o)/\ai w w'):=by
 obtain⟨t,q,r⟩:=r;have b1:=s.len;have hN:=t.n;refine vu (PA.mk λw1 h s1 L=>?_);have Z:=s.af h;obtain⟨u,v,f,ha,hx,-,hc⟩:=Z.oy (i:=o) oM;have M:m.aN.getD o 0=f:=by rw[QQ,hx];rfl
 refine⟨_,_,_,ae L rfl,u,v,ha,oM,oM,f,hc,al.eL (λx=>Ok.mk ⟨?_,h⟩) (λx=>?_)⟩
 ·unfold aw.mG;simp only[M,x];rfl
 have y:=r.af h;have b:∀{z:Bool} {w':World},ai w w'->(match S.get (o,f)with
  |none=>false
  |some P=>decide (P.aB<m.aB)&&(List.range P.aN.length).all λi=>decide (P.aN.getD i 0<=m.aN.getD i 0))=z->Ok (λj w'=>j= .bool (S.mG m o)/\ai w w') (.returned (.bool z)) w':=λ{z w'} hg hy=>by
  refine Ok.mk ⟨?_,hg⟩;unfold aw.mG;simp only[M];rw[<-hy,show(f==0)=false by simpa using x]
  rfl
 refine⟨p,0,rfl,_,ae y.at' rfl,jA (enc:=FF) (k:=((o:Int),f)) SF Yc y.map ?_⟩;rcases y.look t (o,f)with⟨A,g⟩|⟨j,P,A,g,N,k,O,rfl,a0,b2⟩
 ·rw[A]
  refine cx (sE sG none 0 0) ⟨_,rfl,PA.mk λw2 B s2 C=>aC (bg sG none 0 0) C rfl λE H s3 I=>al.tt rfl (b (h.then ((B.then (aj.refl _)).new H λu hb=>.inr oM)) ?_)⟩;rw[g]
 ·rw[A]
  refine cx (sE P N k O) ⟨_,rfl,PA.mk λw2 B s2 C=>aC (bg P N k O) C rfl λE H s3 I=>al.ff rfl ?_⟩;have J:ai w1 E:=(B.then (aj.refl _)).new H λu hb=>.inr oM;have l:=h.then J;have Q:=J.get L id;have a1:=aw.get_some g;have b3:P.aN.length=S.n:=by have:=nE (t.XS P a1.1);omega
  refine⟨_,ae I rfl,_,ae Q rfl,al.dec (λhl=>b l ?_) (λhl=>?_)⟩
  ·rw[g]
   simp only[Bool.and_eq_false_iff,decide_eq_false_iff_not];left;omega
  have a2:=s.af l;have R:=a0.af J;have b6:=R.len;refine⟨_,_,_,ae I rfl,λT i w'=>∃n:Nat,i=n/\n<=k/\T=k-n/\(∀e,e<n->P.aN.getD e 0<=m.aN.getD e 0)/\E=w',⟨_,0,rfl,Qj _,rfl,λe K=>oM,rfl⟩,?_⟩;rintro T i _ _ ⟨n,rfl,hj,rfl,U,rfl⟩;refine al.dec (λb7=>?_) (λb8=>?_)
  ·obtain⟨b4,o4,V,a3,a4,-,a5⟩:=R.oy (i:=n) oM
   obtain⟨b5,o5,W,a6,a7,-,a8⟩:=a2.oy (i:=n) oM;have X:P.aN.getD n 0=V:=by rw[QQ,a4];rfl
   have Y:m.aN.getD n 0=W:=by rw[QQ,a7];rfl
   refine⟨b4,o4,a3,oM,oM,V,a5,_,_,_,ae Q rfl,b5,o5,a6,oM,oM,W,a8,al.dec (λa9=>b l ?_) (λb9=>?_)⟩
   ·rw[g]
    simp only[Bool.and_eq_false_iff];right;rw[List.all_eq_false];exact⟨n,by simp;omega,by rw[X,Y];simpa using a9⟩
   ·refine⟨_,oM,n+1,an oM,oM,rfl,λe K=>?_,rfl⟩
    by_cases b0:e=n
    ·subst b0;rw[X,Y];omega
    ·exact U e oM
  ·refine b l ?_
   rw[g];simp only[QK,ZY,Zk];exact⟨oM,λe K=>U e (by simp at K;omega)⟩
def Tj(d:cI w p F S)(j:Int×Int):
  am 301 #[L2 p,FF j] w (Ok λz w'=>∃b c e G,z= .tuple #[kK ((S.get j).getD sG) b c e,.bool (S.get j).isSome]/\Row aP 8 w' G b c ((S.get j).getD sG).aN/\(∀n,G n->w.heap.size<=n/\n<w'.heap.size)/\ai w w'):=by
 obtain⟨L,q,d⟩:=d;obtain⟨h,i⟩:=j;refine xF (PA.mk λw1 M s1 k=>PA.mk λA B s2 u=>λl C=>?_);have v:ai A l:=C.keep;have s3:l.heap.size=A.heap.size:=by rw[C.heap]
 have k:=v.get (B.get k id) id;have u:=v.get u id;have E:=(M.then B).then v;have x:=d.af E;have a2:=d.map.lt;have a3:=aA d.at';obtain⟨a,b,c,e,n,f,g,H,N,O⟩:∃(a:ah) (b:ac) (c e:Nat) (n:Bool),(ar q.l (h,i)).getD (kK sG none 0 0)=kK a b c e/\(ar q.l (h,i)).isSome=n/\(S.get (h,i)).getD sG=a/\(S.get (h,i)).isSome=n/\Row aP 8 l q.D b c a.aN:=by
  rcases x.look L (h,i)with⟨f,g⟩|⟨z,Q,f,g,R,T,U,rfl,V,a4⟩
  ·exact⟨sG,none,0,0,false,by rw[f];rfl,by rw[f];rfl,by rw[g];rfl,by rw[g];rfl,Row.nil _ _⟩
  ·exact⟨Q,R,T,U,true,by rw[f];rfl,by rw[f];rfl,by rw[g];rfl,by rw[g];rfl,V⟩
 have I:∀n,q.D n->n<w.heap.size:=λn P=>d.aE n (d.sub n (.inr (.inr (.inr P))));refine⟨λn=>n=l.heap.size,p,0,rfl,oM,_,ae x.at' rfl,oM,_,_,ae k rfl,ae k rfl,cx (sE a b c e) ⟨n,λw' W=>?_,PA.mk λw4 m s4 X=>⟨ai.keep m,aC (bg a b c e) X rfl λw5 o s5 Y=>⟨o,?_⟩⟩⟩⟩
 ·have:=eI SF Yc (x.map.keep W oM) (h,i) true
  rw[f,g]at this;exact this
 have Z:=(O.af m).keep o λn P hn=>by have:=I n P;omega
 refine au (bg a b c e) Y (PC.ok (ng Z λn P=>by have:=I n P;omega) ?_);rintro _ w6 ⟨r,s,t,G,rfl,a0,J,y⟩;have a1:=y.get (o.get (m.get u id) oM) id;have z6:=y.size;refine cx (sE a r s t) ⟨rfl,aC (bg a r s t) a1 rfl λw7 K s7 g7=>au (bg a r s t) g7 (Ok.mk ⟨r,s,t,G,by rw[H,N],?_,?_,?_⟩)⟩
 ·rw[H];exact a0.keep K λn P hn=>by have:=J n P;omega
 ·intro n P;have:=J n P;omega
 ·exact(((E.then m).new o λn P=>.inr oM).then y).new K λn P=>.inr oM
end
section
variable {w w' w1:World} {p:Nat} {F T:LL} {S:aw} {q:SH}
def Ef{S:aw}:((List.range a).any λn=>!S.mG m n)=false↔∀n,n<a->S.mG m n=true:=by
 simp[List.any_eq_false]
def uX(b:cI w p F S){e:ah}{D:LL}(A:Row aP 8 w D d a e.aN)(hD:∀n,D n->n<w.heap.size/\¬F n)(he:e.Ok)(hl:S.l.length<4611686018427387904):
  am 74 #[L2 p,kK e d a c] w (Ok λB w'=>B= ZT (S.add e).1/\∃C,cI w' p C (S.add e).2/\cu F w C w'):=by
 have fL:=b;obtain⟨E,q,b⟩:=b;have hN:=E.n;have b2:=b.len;have j0:=aA b.at';have j1:=b.map.lt;have d5:=b.XF E;have f:∀{no:Int} {w':World},ai w w'->S.add e=(no,S)->Ok (λB w'=>B= ZT (S.add e).1/\∃C,cI w' p C (S.add e).2/\cu F w C w') (.returned (ZT no)) w':=λ{no w'} hg ha=>by
  refine Ok.mk ⟨by rw[ha],F,?_,ai.keep hg,λn P=>.inl P⟩;rw[ha];exact fL.af hg
 refine xq (PA.mk λw1 k1 s1 g1=>λw2 d2=>?_);have k2:ai w1 w2:=d2.keep;have s2:w2.heap.size=w1.heap.size:=by rw[d2.heap]
 have N:=k1.then k2;have g2:=k2.get g1 id;have h5:=b.af N;refine au (bg e d a c) g2 ⟨p,0,rfl,_,_,_,ae h5.at' rfl,PC.ok (yG (A.af N) (by rw[b2];omega)) ?_⟩;rintro _ w3 ⟨rfl,O⟩;rw[b2];refine⟨_,rfl,al.eM (λH=>f (N.then O) ?_) (λQ=>?_)⟩
 ·rw[aw.add_def,Zx H]
 obtain⟨c1,c4,c3,c5,c6,c7,c8,c9,f0,j2⟩:=nE Q;obtain⟨o,m⟩:∃o:Nat,e.origin=o:=⟨e.origin.toNat,oM⟩
 have I:o<S.n:=oM
 intro w4 d4;have k4:ai w3 w4:=d4.keep;have s4:w4.heap.size=w3.heap.size:=by rw[d4.heap]
 have d6:=(N.then O).then k4;have z3:=O.size;have g4:=k4.get (O.get g2 id) id;have b3:=b.af d6;obtain⟨r,a5,n5,d8,n,l,J,h⟩:∃(r:ah) (d:ac) (a c:Nat) (n:Bool),(ar q.l (bd e)).getD (kK sG none 0 0)=kK r d a c/\(ar q.l (bd e)).isSome=n/\(S.get (bd e)).isSome=n:=by
  rcases b3.look E (bd e)with⟨l,J⟩|⟨B,a0,l,J,b8,n3,c3,rfl,j3,j4⟩
  ·exact⟨sG,none,0,0,false,by rw[l];rfl,by rw[l];rfl,by rw[J];rfl⟩
  ·exact⟨a0,b8,n3,c3,true,by rw[l];rfl,by rw[l];rfl,by rw[J];rfl⟩
 refine⟨λn=>n=w4.heap.size,p,0,rfl,oM,_,ae b3.at' rfl,oM,_,_,ae g4 rfl,ae g4 rfl,cx (sE r a5 n5 d8) ⟨n,λw' K=>?_,PA.mk λw5 k5 s5 g5=>⟨ai.keep k5,aC (bg r a5 n5 d8) g5 rfl λw6 k6 s6 g6=>⟨k6,?_⟩⟩⟩⟩
 ·have:=eI SF Yc (b3.map.keep K oM) (bd e) true
  rw[l,J]at this;exact this
 have R:ai w w6:=(d6.then k5).new k6 λn P=>.inr oM;have b4:=k6.get (k5.get g4 id) oM;have h6:=b.af R;refine al.mk (λs=>f R ?_) (λhf=>?_)
 ·rw[aw.add_def,Zq (by simpa using Q),Zx (by rw[h,s])]
 obtain⟨c0,o8,x8,h7,d9,-,h8⟩:=(d5.af R).oy (i:=o) oM;have e0:x8=(S.En o:Int):=by rw[S.pA I]at d9;exact(XJ d9).symm
 subst e0;have j5:=S.Sv o;refine⟨_,ae b4 rfl,p,0,rfl,_,_,_,ae h6.at' rfl,_,ae b4 rfl,c0,o8,h7,c1,oM,_,by rw[m];exact h8,λw7 d7=>?_⟩;have k7:ai w6 w7:=d7.keep;have s7:w7.heap.size=w6.heap.size:=by rw[d7.heap]
 have b5:=R.then k7;rw[an oM];refine al.eM (λH=>f b5 ?_) (λe1=>?_)
 ·rw[aw.add_def,Zq (by simpa using Q),Zq (by rw[h,hf];simp),Zx]
  rw[m,Qx,S.qL I];simpa using H
 have h9:=b.af b5;have i0:=k7.get b4 id;have c2:e.seq=S.vec.getD e.origin.toNat 0+1:=by rw[m,Qx,S.qL I];simpa using e1
 have j:∀{a1:Int×aw},(if(List.range S.n).any λo=>!S.mG e o then((9:Int),S)else(0,⟨S.n,dJ e S.l⟩))=a1->S.add e=a1:=λ{a1} A=>by
  rw[aw.add_def,Zq (by simpa using Q),Zq (by rw[h,hf];simp),Zq (by simpa using c2)];exact A
 refine⟨p,0,rfl,_,_,_,ae h9.at' rfl,λa3 i w'=>∃g:Nat,i=g/\g<=S.n/\a3=S.n-g/\(∀k,k<g->S.mG e k=true)/\ai w7 w',⟨_,0,rfl,Qj _,rfl,λk s=>oM,aj.refl _⟩,?_⟩;rintro a3 i _ w8 ⟨g,rfl,hj,rfl,a4,T⟩;have U:=b5.then T;have e2:=T.get i0 id;have z8:=T.size;rw[b2];refine al.dec (λj6=>?_) (λj7=>?_)
 ·refine au (bg e d a c) e2 (PC.ok (SI (fL.af U) (A.af U) he oM (o:=g) oM) ?_)
  rintro _ w9 ⟨rfl,k9⟩;refine⟨_,rfl,al.not (al.mk (λK=>?_) (λK=>f (U.then k9) (j (Zx ?_))))⟩
  ·refine⟨_,oM,g+1,an oM,oM,rfl,λk s=>?_,T.then k9⟩
   by_cases i1:k=g
   ·rw[i1];exact K
   ·exact a4 k oM
  ·rw[List.any_eq_true]
   exact⟨g,by simp;omega,by rw[K];rfl⟩
 ·have a6:=j (Zq (by rw[Bool.not_eq_true,Ef];intro k s;exact a4 k oM))
  intro e3 e4;have e5:ai w8 e3:=e4.keep;have j8:e3.heap.size=w8.heap.size:=by rw[e4.heap]
  have L:=U.then e5;have V:=e5.get e2 id;have e6:=b.af L;have i2:=(A.af L)
  refine⟨λn=>n=q.r,p,0,rfl,b.XD,_,ae e6.at' rfl,oM,_,_,ae V rfl,ae V rfl,au (bg e d a c) V (PC.ok (ng i2 λn P=>by have:=(hD n P).1;have:=L.size;omega) ?_)⟩;rintro _ i3 ⟨b7,b9,d0,G,rfl,e7,hG,W⟩;have a7:=L.then W;have X:=b.af a7;have i9:=L.size;refine cx (sE e b7 b9 d0) ⟨rfl,ai.keep W,dz (enc:=FF) (k:=bd e) SF Yc X.map λe8 e9 t j9=>⟨t,λf2 f3=>?_⟩⟩;have u:ai e8 f2:=f3.keep;have k0:f2.heap.size=e8.heap.size:=by rw[f3.heap]
  have a8:=u.get (t.get X.at' b.XD) id;have a9:=u.get (t.get (W.get V id) oM) id;have b0:=(X.vec.keep t λn P e=>b.WA.2 (e▸P)).af u;obtain⟨f4,f6,i4,a2,b1,-,f8⟩:=(b0.row (bytes:=8) dC (by rw[S.cj];unfold aT;omega)).oy (i:=o) oM;have d1:i4=(S.En o:Int):=by rw[S.pA I]at b1;exact(XJ b1).symm
  subst d1;refine⟨p,0,rfl,_,_,_,ae a8 rfl,_,ae a9 rfl,f4,f6,a2,c1,oM,_,by rw[m];exact f8,f4,f6,a2,c1,oM,?_⟩;rw[m,Qx,an oM];refine SG b0 (by rw[S.cj];exact I) (by unfold aM;omega) a2 λg0 g3 M l0=>λg7 g8=>?_;have v:ai g0 g7:=g8.keep;have l3:g7.heap.size=g0.heap.size:=by rw[g8.heap]
  have x:∀n,aG q.a=some n->q.V n:=λn P=>b.vec.self n P;have i5:¬aG q.a=some p:=λe=>b.WA.1 (x p e);have i6:¬aG q.a=some w.heap.size:=λe=>by have:=b.vec.aE _ (x _ e);omega
  have b6:=v.get (M.get a8 i5) id;have g9:=v.get (M.get a9 i6) id;refine⟨p,0,rfl,_,ae b6 rfl,_,ae g9 rfl,p,0,rfl,PS.mk b6 sM λh3 Y l4 i7=>?_⟩;have l5:=W.size;have i8:¬aG q.a=some q.r:=λe=>b.WA.2 (x _ e);refine Ok.mk ⟨by rw[a6],λn=>F n\/G n,?_,?_,?_⟩
  rotate_left
  ·have Z:aj F w h3:=((((ai.keep a7).then (t.mono λn _ P=>b.sub n (.inr (.inl P)))).then (ai.keep u)).then ((M.mono λn _ P=>b.sub n (.inr (.inr (.inl (x n P))))).then (ai.keep v))).then (Y.mono λn _ P=>b.sub n (.inl P))
   exact Z
  ·intro n P;rcases P with P|P
   ·exact .inl P
   ·exact .inr (by have:=hG n P;omega)
  have h4:=(aw.AI E he).1;rw[a6]at h4⊢;have y:∀n,G n->n≠p/\n≠q.r/\¬q.V n:=λn P=>by
   have:=hG n P;refine⟨oM,oM,λhv=>?_⟩;have:=b.vec.aE n hv;omega
  refine⟨h4,⟨q.a,q.n,q.c,q.r,q.V,λn=>q.D n\/G n,aI q.l (bd e) (kK e b7 b9 d0),aI q.L (bd e) e⟩,?_,?_,?_,?_,?_,?_,?_,?_,b.XD,b.WA,?_,?_⟩
  ·have s:(if e.aB>S.top then e.aB else S.top)=max S.top e.aB:=by split<;>omega
   rw[i7,aw.UF,<-s];rfl
  ·rw[show aw.vec ⟨S.n,dJ e S.l⟩=S.vec.set o ((S.En o+1:Nat):Int) by rw[aw.UG S e m];simp]
   exact(g3.af v).keep Y λn P e=>b.WA.1 (e▸P)
  ·exact(((e9.af u).keep M i8).af v).keep Y λe=>b.XD e.symm
  ·have Z:aj (λn=>n=q.r\/aG q.a=some n\/n=p) i3 h3:=((t.mono λn _ P=>.inl P).then (ai.keep u)).then (((M.mono λn _ P=>.inr (.inl P)).then (ai.keep v)).then (Y.mono λn _ P=>.inr (.inr P)))
   have hd:∀n,q.D n\/G n->¬(n=q.r\/aG q.a=some n\/n=p):=by
    rintro n (P|P) (e|e|e)
    ·exact b.XE.2 (e▸P)
    ·exact b.Ze n (x n e) P
    ·exact b.XE.1 (e▸P)
    ·exact(y n P).2.1 e
    ·exact(y n P).2.2 (x n e)
    ·exact(y n P).1 e
   refine fF.aI ⟨b7,b9,d0,rfl,(e7.mono λn P=>.inr P).keep Z hd,he⟩ (X.rel.mono λB f1 hu=>(hu.mono λn P=>.inl P).keep Z hd)
  ·intro r h
   rcases fB h with rfl|h
   ·rfl
   ·exact b.key r h
  ·have d3:ar q.L (bd e)=none:=by
    rw[Kc E b.key b.XC b.tidy];have:=h.trans hf;simpa using this
   have:∀z:List ((Int×Int)×ah),ar z (bd e)=none->aI z (bd e) e=z++[(bd e,e)]:=by
    intro z
    induction z with
    |nil=>intro _;rfl
    |cons a0 z ih=>
     intro hL;obtain⟨y1,y2⟩:=a0;unfold ar at hL;unfold aI;split at hL
     ·cases hL
     ·rename_i H
      rw[Zq H,ih hL];rfl
   rw[this _ d3,Q3];exact(List.perm_append_comm.trans (List.Perm.cons e b.XC)).trans (cN e S.l).symm
  ·intro n P
   rcases P with P|P
   ·have:=b.aE n P;omega
   ·have:=hG n P;omega
  ·rintro n (P|P|P|P|P)
   ·exact .inl (b.sub n (.inl P))
   ·exact .inl (b.sub n (.inr (.inl P)))
   ·exact .inl (b.sub n (.inr (.inr (.inl P))))
   ·exact .inl (b.sub n (.inr (.inr (.inr P))))
   ·exact .inr P
  ·refine⟨?_,?_⟩
   ·rintro(P|P)
    ·exact b.XE.1 P
    ·exact(y _ P).1 rfl
   ·rintro(P|P)
    ·exact b.XE.2 P
    ·exact(y _ P).2.1 rfl
  ·rintro n hv (P|P)
   ·exact b.Ze n hv P
   ·exact(y _ P).2.2 hv
def UH(d:kM h g r 1 8)(P:(h.info? r).bind (·.zero)=some (ZT 0))(e:a<=c)(n:c*8<=aT){w:World}{f l:L1}(b:∀w',aV aP r (·=w.heap.size) w' (PP w.heap.size) a c (List.replicate a 0)->ai w w'->w'.heap.size=w.heap.size+1->f (.slice (PP w.heap.size) a c) w'):
  aJ h (Instr.makeSlice g (ZT (a:Int)) (ZT (c:Int))) w f l:=by
 unfold aT at n;obtain⟨m,o,i,j,p,q,y⟩:=d.info;have s:o= ZT 0:=by
  rw[i]at P;simp only[Option.bind_some,j]at P;exact XJ P
 subst s;have k:=run_make (P:=h) w g r m _ d.under i j .i64 .i64 a c oM oM (by rw[q];omega) oM;rw[Qx,Qx,p,Nat.mul_one]at k;have t:ai w (w.alloc (.cells (madeCells (Value.int .i64 0).cells c) r)):=aj.alloc w _;have u:(madeCells (Value.int .i64 0).cells c).toList=List.replicate c (ZT 0):=by
  unfold madeCells;rw[Array.toList_map];apply List.ext_getElem
  ·simp
  ·intro z A B
   simp[Value.cells,Nat.mod_one]
 refine aJ.mk k (b _ ⟨⟨List.replicate a (ZT 0),λ_=>False,⟨⟨by simp[aP,flat],.inr ⟨w.heap.size,c,_,rfl,Qj _,heap_alloc_new w _,e,by unfold maxLen;omega,by simp[size_madeCells,aP,flat],?_⟩⟩⟩,?_,λ_ b=>b.elim⟩,λv n=>by simpa[aG]using n.symm,λv n=>by subst n;simp⟩ t sM)
 ·rw[u]
  simp only[aP,flat,Nat.mul_one,List.take_replicate];rw[X2 e]
 ·exact lq.2 ⟨by simp[ints],λC x=>by rw[List.eq_of_mem_replicate x];simp[aM]⟩
def FY(f:a<=64):am 71 #[ZT (a:Int)] w (Ok λg w'=>∃p F,g= L2 p/\cI w' p F ⟨a,[]⟩/\(∀n,F n->w.heap.size<=n)/\ai w w'):=by
 refine Gw (UH uZ kR (Q4 _) (by unfold aT;omega) λw1 h i r=>⟨_,_,_,rfl,PA.mk λd e s j=>PA.mk λk b t l=>Ok.mk ⟨_,λn=>w.heap.size<=n/\n<k.heap.size,rfl,⟨aw.tO f,⟨_,a,a,w1.heap.size,(·=w.heap.size),λ_=>False,[],[]⟩,l,?_,bR.new (b.get j id),trivial,sM,List.Perm.refl _,λn P=>P.2,?_,by show d.heap.size≠w1.heap.size;omega,⟨by show d.heap.size≠_;omega,by show w1.heap.size≠_;omega⟩,⟨id,id⟩,λ_ _ m=>m⟩,λn P=>P.1,(i.then e).then b⟩⟩)
 ·have o:aw.vec ⟨a,[]⟩=List.replicate a 0:=by
   apply X3;intro q
   by_cases c:q<a
   ·rw[aw.pA ⟨a,[]⟩ c];simp[c,aw.En]
   ·rw[Q7 (by rw[aw.cj];exact Nat.le_of_not_lt c),Q7 (by simp;omega)]
  rw[o];exact(h.af e).af b
 ·rintro n (rfl|rfl|rfl|P)
  ·show _/\_;omega
  ·show _<=w1.heap.size/\w1.heap.size<_;omega
  ·omega
  ·exact P.elim
end
end Go.Proofs.YtjgjkeponbeekaaGreatDoor
namespace Go.aq
open Go
abbrev FW(n:Option Nat):Fence:={Fence.wide with round:=n}
variable{K:Act}{U:Array Oper}{o:Array Value}{J:Bool}{h3 h4:Bool->UV}{a2:Code}{s:RK}{f2:Exit}{d9:Exit->Act->UV}{a8:Func}{A:FuncId}{b6:List Nat}{a4 f1:List Value}{a c i:Nat}{f:LL}{d3:Obj}{S:Oper}{Y:Operand}{f0:Operand->Value}{d4:Option Nat}{h:Program}{q:L1}{b k:World}{Q:cU}{V:cf}{e9:gA}{c8:iY}
def uP:CallsIn (FW d4) a h A o b s↔Calls h A o b s:=
 ⟨λn=>callsIn_wide.1 (show CallsIn Fence.wide a h A o b s from n),λn=>show CallsIn (FW d4) a h A o b s from(callsIn_wide (n:=a)).2 n⟩
def Uy(n:Nat):(FW d4).room n:=λ_ P=>by simp[Fence.wide]at P
def PE{n:String}(P:Rows h n o b q):RowsIn (FW d4) a h n o b q:=by
 intro c cs _;obtain⟨d,e,f,g⟩:=P c cs;exact⟨d,e,f,(stepsIn_wide (P:=h)).2 g⟩
def wN(n:Oper):Bool:=match n.op with
 | .defer _=>false
 |_=>true
def wN.out(n:wN S=true):∀P,S.op≠.defer P:=by
 intro P a;unfold wN at n;rw[a]at n;cases n
section
variable {P:Program} {ro:Option Nat} {n:Nat}
def NI{next:Act->UV}(d:ro=none\/wN S=true)(a:S.wp P K b next d9):S.wpIn (FW ro) n P K b next d9:=by
 refine⟨λ_ _=>trivial,?_⟩;have f:S.semAt (FW ro).round K.eval=execOp K.eval S:=by
  rcases d with rfl|d
  ·rfl
  ·exact Oper.semAt_eq _ _ _ (wN.out d)
 rw[f];unfold Oper.wp at a;generalize(execOp K.eval S).run P b=g at a⊢
 cases g with
 |ok e h=>
  cases e with
  |value i=>exact a
  |skip=>exact a
  |defer j=>exact a
  |enter k c=>exact⟨λa=>by simp[Fence.wide]at a,uP.2 a⟩
  |row row c=>exact⟨λa=>by simp[Fence.wide]at a,PE a⟩
  |_=>exact a.elim
 |halt e h=>cases e<;>first|exact a|exact a.elim
def rZ{b:Array Oper}{g:Exit->Act->UV}(h:∀d c,¬g .outgrown d c)(e:ro=none\/∀i∈b.toList,wN i=true):∀(f:List Nat) (d:Act) (c:World),wpOps P b g f d c->wpOpsIn (FW ro) n P b g f d c
 |[],d,c,a=>a
 |l::f,d,c,a=>by
  unfold wpOps at a;unfold wpOpsIn
  cases j:b[l]? with
  |none=>rw[j]at a;exact rZ h e f d c a
  |some i=>
   rw[j]at a;simp only at a⊢;split
   ·rename_i k
    rw[Zx k]at a;rcases a with a|⟨-,m,o,a⟩
    ·have p:i.wp P d c (wpOpsIn (FW ro) n P b g f) g:=Oper.wp_mono (λd c a=>rZ h e f d c a) a
     refine NI ?_ p;rcases e with e|e
     ·exact .inl e
     ·refine .inr (e i ?_)
      obtain⟨q,rfl⟩:=Q5.1 j;simp
    ·exact Zz a (h m o)
   ·rename_i k
    rw[Zq k]at a;exact⟨λ_ _=>trivial,rZ h e f _ c a⟩
end
section
variable {F:Fence} {n:Nat} {P:Program} {Q:Exit->Act->UV} {a:Act} {w:World} {b:Frame} {k:List Item} {cs:List Frame}
def ix:step P (lone (b.atR a (.code (.scope a2)::k)) cs w)= .next (lone (b.atR a (.code a2:: .inScope a2::k)) cs w):=
 step_lone_go (by simp[stepG,stepG.exec,Frame.atR])
def Ec:step P (lone (b.atR a (.inScope a2::k)) cs w)= .next (lone (b.atR a k) cs w):=
 step_lone_go (by simp[stepG,stepG.exec,Frame.atR])
def Mw(o:a2.wpIn F n P (Exit.noGoto Q) a w):(Code.scope a2).wpIn F n P Q a w:=by
 intro b k cs p h i;have e:(lone (b.atR a (.code (.scope a2)::k)) cs w).fenced P F:=fenced_calm h i rfl;obtain⟨q,c,d,f,g⟩:=o b (.inScope a2::k) cs p h i
 cases q with
 |normal=>exact⟨.normal,c,d,f,.head e ix (StepsIn.trans g (.one (fenced_calm h i rfl) Ec))⟩
 |exit id=>
  have m:exitTo id (.inScope a2::k)=exitTo id k:=by simp[exitTo]
  exact⟨.exit id,c,d,f,λr j=>.head e ix (g.1 r (by rw[m];exact j)),
   λl j=>let⟨k₁,h1,h2⟩:=g.2 l (by rw[m];exact j);⟨k₁,h1,.head e ix h2⟩⟩
 |goto s=>exact f.elim
 |ret=>exact⟨_,c,d,f,.of_steps (.one e ix) g⟩
 |panic t=>exact⟨_,c,d,f,.of_steps (.one e ix) g⟩
 |outgrown=>exact⟨_,c,d,f,.of_steps (.one e ix) g⟩
def wpIn_loop_ghost(b:Nat->Act->UV)(c:Nat)(g:b c a w)(d:∀e a w,b e a w->a2.wpIn F n P (Exit.then (λh i=>∃l,l<e/\b l h i) Q) a w):(Code.loop a2).wpIn F n P Q a w:=by
 refine wpIn_loop (λa w=>∃e,b e a w) (λa w=>leastOf (λe=>b e a w)) ⟨c,g⟩ ?_;intro a w m;refine wpIn_mono (d _ a w (leastOf_spec m).1) ?_;intro o h i f
 cases o with
 |normal=>
  obtain⟨j,p,k⟩:=f;exact show(∃n,b n h i)/\leastOf (λn=>b n h i)<leastOf (λn=>b n a w)from⟨⟨j,k⟩,Nat.lt_of_le_of_lt ((leastOf_spec ⟨j,k⟩).2 j k) p⟩
 |exit id=>exact f
 |goto q=>exact f
 |ret=>exact f
 |panic r=>exact f
 |outgrown=>exact f
end
def Mx(A:h.follows .mixedOrders=true){n id:Nat}(B:∀a,a∈writes (.region id U J)->a<n)(p:Rel n V Q K)(P:D h e9 (.region id U J) c8 V Q K.defers b):
  (J=false->wpOps h U (du n V Q (writes (.region id U J)) c8) (List.range U.size) K b)/\
  (J=true->∀a,wpOps h U (du n V Q (writes (.region id U J)) c8) (Region.schedule (h.follows .mixedOrders) U a) K {b with drawn:=b.drawn+1}):=by
 have m:∀j∈U.toList,∀k,j.dst=some k->k<n/\k∈writes (.region id U J):=λj g k y=>⟨B k (lr g y),lr g y⟩
 have q:∀r a,ke U r=some a->a<n:=by
  intro r a l;unfold ke at l
  cases g:U[r]? with
  |none=>rw[g]at l;simp at l
  |some j=>
   rw[g]at l;have C:j∈U.toList:=by
    have:=Q5.1 g;obtain⟨N,rfl⟩:=this;simp
   exact(m j C a l).1
 cases J with
 |false=>
  refine⟨λ_=>?_,λP=>by cases P⟩;rw[List.range_eq_range',<-XK,wpOps_eq_wpList U.toList 0 sM];exact Aw q U.toList Q K b m p (λ_ _=>rfl) P
 |true=>
  refine⟨λP=>(by cases P),λ_ a=>?_⟩;simp only[Region.schedule,A,Bool.true_or,if_true];refine wpAny_sound U.size a _ K _ ?_;unfold D at P;simp only at P;split at P
  ·obtain⟨s,P⟩:=fE.out P
   simp only[Region.lexB,QK]at s;have E:=rG (B0:=V) (e0:=Q) (W:=writes (.region id U true)) q U.toList Q K m p (λ_ _=>rfl) P;have F:wpQuiet h U (bC b) (λo=>∀c,bC b c->du n V Q (writes (.region id U true)) c8 .normal o c) U.toList K:=by
    refine lb ?_ _ _ E;rintro o ⟨H,t,u,I,L⟩ c f;exact⟨V,H,t,I,by rw[u];exact L c f⟩
   refine wpAny_of_quiet (C:=bC b) (Q:=λo=>∀c,bC b c->du n V Q (writes (.region id U true)) c8 .normal o c) (λ_ c f P=>P c f) _ _ _ _ ⟨1,rfl⟩ ?_;have:=wpAnyQ_lex (C:=bC b) (md:=.any) s.1 U.toList 0 (Array.replicate U.size false) K sM (by simpa using s.2) F;simpa using this
  ·obtain⟨M,P⟩:=fE.out P
   have d:∀(e:Bool) (i:LL) (v:Nat->Bool),wx h V U e i (λw x b=>∀V Q,c8 (.panic w) V Q x b) (λQ x b=>c8 .normal V Q x b) v U.size (Array.replicate U.size false) Q K.defers (b.drewN 1)->
     wpAny h .any U (du n V Q (writes (.region id U true)) c8) U.size (Array.replicate U.size false) K {b with drawn:=b.drawn+1}:=λe i v P=>
    pd (λw K b P=>Cn.post w K b P) (λ_ _ P=>P) _ _ _ _ _ (mz (B0:=V) (e0:=Q) (W:=writes (.region id U true)) q M m v _ _ Q K _ p (λ_ _=>rfl) P)
   split at P
   ·split at P
    ·obtain⟨i,P⟩:=P _ ⟨1,rfl⟩
     exact d _ i _ P
    ·exact d _ _ _ (P _ ⟨1,rfl⟩)
   ·obtain⟨z,P⟩:=fE.out P
    split at P
    ·obtain⟨i,P⟩:=P _ ⟨1,rfl⟩
     rw[rL z _ _ (Hd.init _)]at P;exact d _ i _ P
    ·have P:=P _ ⟨1,rfl⟩
     rw[rL z _ _ (Hd.init _)]at P;exact d _ _ _ P
def ku(P:Program)(a:Nat)(b:List Value)(c:World)(d:Bool->UV):Prop:=
 YieldAt (FW none) 0 P a b.toArray c λe f=>∃n,e= .returned (.bool n)/\d n f
def ku.mono(f:ku h a a4 b h3)(g:∀P e,h3 P e->h4 P e):ku h a a4 b h4:=by
 obtain⟨i,c,n,d,j,k⟩:=f;exact⟨i,c,n,d,j,k.mono λm e ⟨P,l,f⟩=>⟨P,l,g P e f⟩⟩
def Wl(a:Program)(b:Value)(n:Array Value)(c:World)(d:L1):Prop:=
 ∃P,b= .func (.yield P) #[] #[]/\ku a P n.toList c λe f=>d (.bool e) f
def Ay(n:Oper):Option (Operand×Array Operand):=match n.op with
 | .call {callee:=.value (.func _),..}=>none
 | .call {callee:=.value f,args,..}=>some (f,args)
 |_=>none
def Sy(d:Program)(a:cf)(b:Array Oper)(h:iY)(c:Oper)(e:cU->List Deferred->UV)(P:cU)(f:List Deferred)(g:World):Prop:=match Ay c with
 |some (i,n)=>Wl d (ev a P i) (n.map (ev a P)) g λj k=>e (cA P c.dst j) f k
 |none=>Uk d b a c h e P f g
def r_(b:Program)(a:cf)(n:Array Oper)(c:iY):List Oper->(cU->List Deferred->UV)->cU->List Deferred->UV
 |[],e,d,f,g=>e d f g
 |i::P,e,d,f,g=>match i.guard with
  |none=>Sy b a n c i (r_ b a n c P e) d f g
  |some (k,h)=>match ke n k with
   |none=>False
   |some j=>match get a d j with
    | .bool l=>al l
     (match h with
      |true=>Sy b a n c i (r_ b a n c P e) ((j,.bool true)::d) f g
      |false=>r_ b a n c P e (cA ((j,.bool true)::d) i.dst undef) f g)
     (match h with
      |true=>r_ b a n c P e (cA ((j,.bool false)::d) i.dst undef) f g
      |false=>Sy b a n c i (r_ b a n c P e) ((j,.bool false)::d) f g)
    | .tuple _=>r_ b a n c P e (cA d i.dst undef) f g
    |_=>False
def My{n P:Code}(d:RoundIn (FW none) c h i A o n P b s):RoundIn (FW d4) a h i A o n P b s:=
 ⟨trivial,λe cs _=>d.2 e cs (Uy _)⟩
def Ht{n:Array Operand}{l:Nat}(P:Ay S=some (Y,n))(c:f0 Y= .func (.yield l) #[] #[]):
  (execOp f0 S).run h b=(Instr.yield l (n.map f0)).run h b:=by
 unfold Ay at P;split at P
 ·cases P
 ·rename_i e a f d
  simp only[Q1,Prod.mk.injEq]at P;obtain⟨rfl,rfl⟩:=P;simp only[execOp,d,resolve,c];simp[Deferred.ofValue,invoke,Sem.run_bind,Sem.run_pure,Result.andThen]
 ·cases P
def wO{w:Program}{B:Option Nat}{L o:Nat}{e t:cf}{u:cU}{k:List Nat}{P:Array Oper}{l:iY}(M:∀m a,ke P m=some a->a<o)(S:∀a1 e n y f,l a1 e n y f->a1≠.outgrown)(v:B=none\/∀d∈P.toList,wN d=true):
  ∀(N:List Oper) (p:Nat) (n:cU) (i:Act) (f:World),(∀m,N[m]? =P[p+m]?)->(∀d∈N,∀g,d.dst=some g->g<o/\g∈k)->Rel o e n i->(∀a,a∉k->get e n a=get t u a)->
   r_ w e P l N (λn y f=>l .normal e n y f) n i.defers f->wpOpsIn (FW B) L w P (du o t u k l) (List.range' p N.length) i f
 |[],p,n,i,f,_,_,j,h,c=>⟨e,n,j,h,c⟩
 |d::b,p,n,i,f,a2,T,j,h,c=>by
  have h0:P[p]? =some d:=by simpa using(a2 0).symm
  have a4:d∈P.toList:=by
   obtain⟨a7,rfl⟩:=Q5.1 h0;simp
  have U:∀m,b[m]? =P[p+1+m]? :=λm=>by have:=a2 (m+1);simpa[Nat.add_assoc,Nat.add_comm 1 m]using this
  have V:∀g,d.dst=some g->g<o:=λg v=>(T d (QV ..) g v).1;have W:∀(n:cU),(∀a,a∉k->get e n a=get t u a)->∀C a,a∉k->get e (cA n d.dst C) a=get t u a:=by
   intro n h C a X
   cases v:d.dst with
   |none=>exact h a X
   |some g=>
    have a5:=(T d (QV ..) g v).2;show get e ((g,C)::n) a=_;rw[eD,Zq (by rintro rfl;exact X a5)];exact h a X
  have z:∀d∈b,∀g,d.dst=some g->g<o/\g∈k:=λd ho=>T d (QJ _ ho);have A:∀(n:cU),Rel o e n i->(∀a,a∉k->get e n a=get t u a)->Sy w e P l d (r_ w e P l b λn y f=>l .normal e n y f) n i.defers f->
    d.wpIn (FW B) L w i f (wpOpsIn (FW B) L w P (du o t u k l) (List.range' (p+1) b.length)) (du o t u k l):=λn j h c=>by
   unfold Sy at c;split at c
   ·rename_i a8 E q
    obtain⟨Y,hf,fn,F,x,H,h1,h2⟩:=c;refine⟨λ_ _=>trivial,?_⟩;have Z:∀a3,d.op≠.defer a3:=by
     intro a3 Z;unfold Ay at q;rw[Z]at q;cases q
    rw[Oper.semAt_eq _ _ _ Z,j.eval,Ht (l:=Y) q hf];have a6:(Instr.yield Y (E.map (ev e n))).run w f= .ok (.round Y fn F x H) f:=by
     have:=h1
     rwa [Array.toArray_toList]at this
    rw[a6,Oper.uponIn_round];refine⟨λc=>by simp[Fence.wide]at c,(My h2).mono ?_⟩;rintro _ w' ⟨I,rfl,hK⟩;exact wO M S v b (p+1) _ _ _ U z (j.put _ V _) (W n h _) (by rw[put_defers];exact hK)
   ·refine NI (v.imp id λv=>v d a4) ?_
    exact Mc j V c (λC a' w' a0 hK=>wO M S v b (p+1) _ _ _ U z a0 (W n h C) hK) (λch w' hq=>⟨e,n,j,h,hq⟩)
  have r:∀(n:cU),Rel o e n i->(∀a,a∉k->get e n a=get t u a)->r_ w e P l b (λn y f=>l .normal e n y f) (cA n d.dst undef) i.defers f->
    wpOpsIn (FW B) L w P (du o t u k l) (List.range' (p+1) b.length) (i.put d.dst undef) f:=λn j h c=>
   wO M S v b (p+1) _ _ _ U z (j.put _ V _) (W n h _) (by rw[put_defers];exact c)
  simp only[Xq,List.range'_succ];unfold wpOpsIn;rw[h0];simp only;unfold r_ at c;split at c
  ·rename_i O
   rw[Zx (by simp[Region.wanted,O])];exact A n j h c
  ·rename_i m s O
   split at c
   ·exact c.elim
   ·rename_i a hj
    have q:=o_ j hj (M m a hj);split at c
    ·rename_i I J
     rw[J]at q;simp only at q;have hw:Region.wanted d (yielded P i.tmps)=(I==s):=by
      simp only[Region.wanted,O,q]
      cases I<;>cases s<;>rfl
     rw[hw];have Q:=j.again J;have R:∀K,K∉k->get e ((a,.bool I)::n) K=get t u K:=λK hu=>by rw[ss J];exact h K hu
     cases I<;>cases s<;>simp only[al]at c
     ·exact A _ Q R c
     ·exact⟨λ_ _=>trivial,r _ Q R c⟩
     ·exact⟨λ_ _=>trivial,r _ Q R c⟩
     ·exact A _ Q R c
    ·rename_i vs J
     rw[J]at q;simp only at q;have hw:Region.wanted d (yielded P i.tmps)=false:=by
      simp[Region.wanted,O,q]
     rw[hw];exact⟨λ_ _=>trivial,r _ j h c⟩
    ·exact c.elim
def qR(a:Nat)(n P:World):Prop:=aj (λb=>b=a) n P/\P.heap.size=n.heap.size
def rf(n:Nat)(P:World):Prop:=P.heap[n]? =some (.deferred (some []))
def NJ(n:Nat):Deferred:={target:=.collected n,args:= #[]}
def Mz:List Value->(List Value->Prop)->Prop
 |[],n=>n []
 |z::b,n=>match z with
  | .agg cs=>mY cs.toList λP=>Mz b λa=>n (.agg P.toArray::a)
  |z=>mY [z] λP=>Mz b λa=>n (P++a)
def oI(n:World):LL:=λP=>P≠n.heap.size/\P≠n.heap.size+1
def tW(P a:List Value):Prop:=∀n:List Value->Prop,Mz P n->n a
def PF:List (Exit×(UV))->(Exit->(UV)->Prop)->Prop
 |[],_=>True
 |(P,a)::b,n=>n P a/\PF b n
def Xt(n:Exit->UV):List Exit->List (Exit×(UV))
 |[]=>[]
 |x::P=>(x,λa=>n x a)::Xt n P
def Yb(n:Exit):List (Exit×(UV))->Prop
 |[]=>False
 |(P,_)::a=>n=P\/Yb n a
def PF.out{a:Exit->UV}{φ:Exit->(UV)->Prop}:∀{l:List Exit},PF (Xt a l) φ->∀n,Yb n (Xt a l)->n∈l/\φ n (λb=>a n b)
 |[],_,n,P=>P.elim
 |y::h,c,n,P=>by
  obtain⟨d,e⟩:=c;rcases P with rfl|P
  ·exact⟨QV ..,d⟩
  ·obtain⟨f,g⟩:=PF.out e n P
   exact⟨QJ _ f,g⟩
def GJ(m:Program)(v:Value)(w:List Value)(a:World)(y:(List Value->Prop)->(List Value->Exit->UV)->UV)(z:UV)(p:List (Exit×(UV))):Prop:=
 ∃o k,v= .func (.func o) #[] k/\enters m o=true/\
 ∃(q:Type) (r:q) (f:q->List (List Value)->UV) (j:Exit->List (List Value)->UV) (s:List (List Value)->List Value->Prop) (t:List (List Value)->Prop),
  (∀h,aj (λ_=>False) a h->h.heap.size=a.heap.size+2->f r [] h)/\
  (∀b n P d,f b n P->qR (a.heap.size+1) P d->f b n d)/\
  (∀x n P d,j x n P->qR (a.heap.size+1) P d->j x n d)/\
  (∀b n P,f b n P->a.heap.size+2<=P.heap.size->y (s n) (λg x c=>match x with
   | .normal=>f b (n++[g]) c
   |x=>Yb x p/\j x (n++[g]) c) P)/\
  (∀(i:UV) (l:Exit->UV),(∀P d,i P->aj (oI a) P d->i d)->(∀x P d,l x P->aj (oI a) P d->l x d)->
   (∀P,i P->a.heap.size+2<=P.heap.size)->
   (∀b n g P,f b n P->i P->tW w g->s n g->ku m (a.heap.size+1) g P λu c=>(u=true/\f b (n++[g]) c/\i c)\/(u=false/\∃x,j x (n++[g]) c/\l x c))->
   ∀h,f r [] h->i h->Calls m o (#[.func (.yield (a.heap.size+1)) #[] #[]]++k) h λA c=>(∃B,A= .returned B)/\((i c/\∃b e,f b e c/\t e)\/∃x n,j x n c/\l x c))/\
  (∀b e P,f b e P->t e->rf a.heap.size P->z P)/\
  PF p λx C=>∀n P,j x n P->rf a.heap.size P->C P
def NK:List Nat->List Value->cU->cU
 |P::a,b::c,n=>NK a c ((P,b)::n)
 |_,_,n=>n
def PG:List (Nat×Value)->List Nat
 |[]=>[]
 |(n,_)::P=>n::PG P
def jf:Code->Bool
 | .region _ P _=>P.toList.all wN
 | .seq a b=>jf a&&jf b
 | .cond _ a b=>jf a&&jf b
 | .block _ n=>jf n
 | .loop n=>jf n
 | .scope n=>jf n
 | .rangeFunc .. =>false
 |_=>true
def gS:Code->List Exit
 | .exit id=>[.exit id]
 | .ret=>[.ret]
 | .seq P a=>gS P++gS a
 | .cond _ P a=>gS P++gS a
 | .block _ n=>gS n
 | .loop n=>gS n
 | .scope n=>gS n
 |_=>[]
def Sz:Exit->Code
 | .ret=>.ret
 | .exit id=>.exit id
 | .goto n=>.goto n
 |_=>.skip
def Wm(n:Exit->UV):iY:=λa _ _ _ P=>match a with
 | .normal=>n .normal P
 | .ret=>n .ret P
 | .exit id=>n (.exit id) P
 |_=>False
def DR(f:Program)(e:gA)(g:List Nat):Bool->Code->iY->cf->cU->List Deferred->UV
 |_,.skip,c,b,n,a,P=>c .normal b n a P
 |_,.label _,c,b,n,a,P=>c .normal b n a P
 |_,.exit id,c,b,n,a,P=>c (.exit id) b n a P
 |_,.ret,c,b,n,a,P=>c .ret b n a P
 |_,.region id q p,c,b,n,a,P=>match DW g id with
  |true=>(match p with
   |false=>r_ f b q c q.toList (λn a P=>c .normal b n a P) n a P
   |true=>False)
  |false=>D f e (.region id q p) c b n a P
 |top,.seq h k,c,b,n,a,P=>match Ph e.RM (key k)with
  |none=>DR f e g top h (Cq (λb n a P=>DR f e g top k c b n a P) c) b n a P
  |some d=>∃x:Fn (je d) (UV),DR f e g top h (Cq (λl s j i=>Cp j a (ap (je d) x (Ad l s d) i)) c) b n a P/\
    fp (writes h) n λu=>mY (je d) λm=>∀(l:cf) (i:World),ap (je d) x m i->DR f e g top k c l (yL d m u) a i
 |top,.cond o h k,c,b,n,a,P=>match ev b n o with
  | .bool A=>al A (DR f e g top h c b n a P) (DR f e g top k c b n a P)
  |_=>False
 |top,.block id o,c,b,n,a,P=>DR f e g top o (xZ id c) b n a P
 |top,.scope o,c,b,n,a,P=>DR f e g top o (He c) b n a P
 |top,.loop o,c,b,n,a,P=>match Ph e.loops (key o)with
  |none=>False
  |some d=>∃v:Nat->Fn (je d) (UV),(∃t,ap (je d) (v t) (Ad b n d) P)/\
    ∀t,fp (writes o) n λu=>mY (je d) λm=>∀(l:cf) (i:World),ap (je d) (v t) m i->
     DR f e g top o (Cq (λl s j i=>Cp j a (∃y,y<t/\ap (je d) (v y) (Ad l s d) i)) c) l (yL d m u) a i
 |top,.rangeFunc B C h k,c,b,n,a,P=>match top with
  |false=>False
  |true=>match Ph e.loops (key k)with
   |none=>False
   |some d=>fE (Pg (PG d) C.toList&&(jf h&&jf k)) (GJ f (ev b n B) (je d) P
     (λE F r=>Mz (je d) λm=>E m->DR f e g false h (Cq (λl s j i=>aj (oI P) r i/\∀w,qR (P.heap.size+1) i w->DR f e g false k (Wm λh z=>aj (oI P) w z/\F m h z) l s j w) (λ_ _ _ _ _=>False)) b (NK (PG d) m n) [] r)
     (λr=>c .normal b n (NJ P.heap.size::a) r) (Xt (λh r=>c h b n (NJ P.heap.size::a) r) (gS k)))
 |_,_,_,_,_,_,_=>False
def lN:Code->List Nat
 | .region _ b _=>ES b.toList
 | .seq n P=>lN n++lN P
 | .cond _ n P=>lN n++lN P
 | .block _ a=>lN a
 | .loop a=>lN a
 | .scope a=>lN a
 | .rangeFunc _ c n P=>c.toList++(lN n++lN P)
 |_=>[]
def SA:∀(P:List Value) (b:List Value->Prop),(∀n,n.length=P.length->b n)->Mz P b:=by
 have d:∀(P:List Value) (b:List Value->Prop),(∀n,n.length=P.length->b n)->mY P b:=by
  intro P
  induction P with
  |nil=>intro b a;exact a [] rfl
  |cons g P e=>
   intro b a
   cases g
   case pointer h=>cases h<;>simp only[mY]<;>intros<;>exact e _ λn c=>a _ (by simp[c])
   all_goals(simp only[mY];intros;exact e _ λn c=>a _ (by simp[c]))
 intro P
 induction P with
 |nil=>intro b a;exact a [] rfl
 |cons g P e=>
  intro b a
  cases g
  case pointer h=>cases h<;>(simp only[Mz];exact d [_] _ λn c=>e _ λj f=>a _ (by have i:n.length=1:=c;simp[i,f,Nat.add_comm]))
  case agg cs=>exact d cs.toList _ λn c=>e _ λj f=>a _ (by simp[f])
  all_goals(simp only[Mz];exact d [_] _ λn c=>e _ λj f=>a _ (by have i:n.length=1:=c;simp[i,f,Nat.add_comm]))
def tW.len(n:tW a4 f1):f1.length=a4.length:=n _ (SA a4 _ λ_ n=>n)
def JU:∀n:List (Nat×Value),(PG n).length=(je n).length
 |[]=>rfl
 |(_,_)::P=>by simp[PG,je,JU P]
def FD{e:Nat}{i:cf}:∀(b:List Nat) (P:List Value) (c:cU) (n:Array Value),(∀a∈b,a<e)->P.length=b.length->Rel e i c {tmps:=n,defers:=[]}->
  Rel e i (NK b P c) {tmps:=(b.zip P).foldl (λa (j:Nat×Value)=>a.setIfInBounds j.1 j.2) n,defers:=[]}
 |[],P,c,n,_,d,f=>by
  cases P with
  |nil=>exact f
  |cons g P=>simp at d
 |a::b,P,c,n,k,d,f=>by
  cases P with
  |nil=>simp at d
  |cons g P=>
   exact FD b P ((a,g)::c) _ (λl h=>k l (QJ _ h)) (by simpa using d) (f.put (some a) (λl h=>by cases h;exact k a (QV ..)) g)
def JV:∀(P:Code) (a:Exit),a∈gS P->a= .ret\/∃id,a= .exit id:=by
 intro P
 induction P with
 |exit id=>intro a n;simp only[gS,List.mem_singleton]at n;exact .inr ⟨id,n⟩
 |ret=>intro a n;simp only[gS,List.mem_singleton]at n;exact .inl n
 |seq a f b c=>intro d n;exact(Q6.1 n).elim (b d) (c d)
 |cond P a f b c=>intro d n;exact(Q6.1 n).elim (b d) (c d)
 |block id P e=>exact e
 |loop P e=>exact e
 |scope P e=>exact e
 |_=>intro d n;cases n
def km{w:World}{l:Nat}{o:Obj}:qR l w (w.putObj l o):=
 ⟨⟨rfl,rfl,rfl,sM,λP _ n=>World.putObj_heap_other n⟩,sM⟩
def aj.obj(P:aj f b k)(n:b.heap[a]? =some d3)(c:¬f a):k.heap[a]? =some d3:=
 (P.block a (Q5.1 n).1 c).trans n
def du.of(n:Rel a V Q K)(P:c8 f2 V Q K.defers b):du a V Q b6 c8 f2 K b:=⟨V,Q,n,λ_ _=>rfl,P⟩
def Xu(hm:h.follows .mixedOrders=true){n m:Nat}:∀(I:Code) (r:Option Nat) (d:Bool) (t:iY) (e:cf) (f:cU) (l:Act) (b:World),
  (r=none\/(d=false/\jf I=true))->(∀a,a∈lN I->a<n)->(∀u e f Y b,t u e f Y b->u≠.outgrown)->Rel n e f l->DR h e9 b6 d I t e f l.defers b->I.wpIn (FW r) m h (du n e f (writes I) t) l b:=by
 intro I
 induction I generalizing m with
 |skip=>intro r d t e f l b _ _ _ k P;exact wpIn_skip (du.of k P)
 |label a0=>intro r d t e f l b _ _ _ k P;exact wpIn_label (du.of k P)
 |exit id=>intro r d t e f l b _ _ _ k P;exact wpIn_exit (du.of k P)
 |ret=>intro r d t e f l b _ _ _ k P;exact wpIn_ret (du.of k P)
 |goto a0=>intro r d t e f l b _ _ _ k P;exact P.elim
 |refuse sv=>intro r d t e f l b _ _ _ k P;exact P.elim
 |scope I ih=>
  intro r d t e f l b C y J k P;refine Mw (wpIn_mono (ih r d (He t) e f l b C y (by intro q e f Y b c Q;subst Q;exact J _ _ _ _ _ c rfl) k P) ?_);intro q v x o;obtain⟨z,w,B,F,c⟩:=o
  cases q with
  |goto a0=>exact c.elim
  |normal=>exact⟨z,w,B,F,c⟩
  |exit id=>exact⟨z,w,B,F,c⟩
  |ret=>exact⟨z,w,B,F,c⟩
  |panic ch=>exact⟨z,w,B,F,c⟩
  |outgrown=>exact⟨z,w,B,F,c⟩
 |region id A Z=>
  intro r d t e f l b C y J k P;have hd:r=none\/∀V∈A.toList,wN V=true:=C.imp (λP=>P) λP=>by
   have:=P.2;unfold jf at this;exact ZY.1 this
  have d1:∀v x,¬du n e f (writes (.region id A Z)) t .outgrown v x:=λl b ⟨e,f,_,_,c⟩=>J _ _ _ _ _ c rfl;unfold DR at P;split at P
  ·split at P
   ·have W:∀V∈A.toList,∀a5,V.dst=some a5->a5<n/\a5∈writes (.region id A false):=λV ho a5 hd=>⟨y a5 (lr ho hd),lr ho hd⟩
    have e8:∀c4 a,ke A c4=some a->a<n:=by
     intro c4 a N;unfold ke at N
     cases ho:A[c4]? with
     |none=>rw[ho]at N;simp at N
     |some V=>
      rw[ho]at N;have f0:V∈A.toList:=by
       obtain⟨d2,rfl⟩:=Q5.1 ho;simp
      exact(W V f0 a N).1
    refine wpIn_region ?_;rw[List.range_eq_range',<-XK];exact wO e8 J hd A.toList 0 f l b sM W k (λ_ _=>rfl) P
   ·exact P.elim
  ·obtain⟨h1,h2⟩:=Mx hm (n:=n) y k P
   cases Z with
   |false=>exact wpIn_region (rZ d1 hd _ _ _ (h1 rfl))
   |true=>exact wpIn_region_draw λa=>rZ d1 hd _ _ _ (h2 rfl a)
 |seq u R K L=>
  intro r d t e f l b C y J k P;have b4:r=none\/(d=false/\jf u=true):=C.imp (λP=>P) λP=>⟨P.1,by have:=P.2;simp only[jf,QK]at this;exact this.1⟩
  have b5:r=none\/(d=false/\jf R=true):=C.imp (λP=>P) λP=>⟨P.1,by have:=P.2;simp only[jf,QK]at this;exact this.2⟩
  have b0:∀a,a∈lN u->a<n:=λa j=>y a (Q6.2 (.inl j));have b7:∀a,a∈lN R->a<n:=λa j=>y a (Q6.2 (.inr j));have g:∀(a3:cf->cU->List Deferred->UV) (q:Exit) (v:Act) (x:World),q≠.normal->du n e f (writes u) (Cq a3 t) q v x->du n e f (writes (u.seq R)) t q v x:=by
   intro a3 q v x f4 o;refine o.mono (λa j=>Q6.2 (.inl j)) (λ_ _=>rfl) λz w i8 w1 c=>?_
   cases q with
   |normal=>exact Zz rfl f4
   |outgrown=>exact c.elim
   |_=>exact c
  have d3:∀(a3:cf->cU->List Deferred->UV) q e f Y b,Cq a3 t q e f Y b->q≠.outgrown:=by
   intro a3 q e f Y b c Q;subst Q;exact c.elim
  unfold DR at P;split at P
  ·have hx:=K (m:=m) r d _ e f l b b4 b0 (d3 _) k P
   refine wpIn_seq (wpIn_mono hx ?_);intro q v x o
   cases q with
   |normal=>
    obtain⟨z,w,B,F,c⟩:=o;have hy:=L (m:=m) r d t z w v x b5 b7 J B c;refine wpIn_mono hy (λq d4 d5 o=>?_);refine o.mono (λa j=>Q6.2 (.inr j)) (λa j=>F a λhm=>j (Q6.2 (.inl hm))) λ_ _ _ _ c=>c
   |exit id=>exact g _ _ _ _ sM o
   |goto a0=>exact g _ _ _ _ sM o
   |ret=>exact g _ _ _ _ sM o
   |panic ch=>exact g _ _ _ _ sM o
   |outgrown=>exact g _ _ _ _ sM o
  ·rename_i H hS
   obtain⟨f5,P,c5⟩:=P;obtain⟨w,h1,h2,c5⟩:=fp.out c5;have hx:=K (m:=m) r d _ e f l b b4 b0 (d3 _) k P;refine wpIn_seq (wpIn_mono hx ?_);intro q v x o
   cases q with
   |normal=>
    obtain⟨B2,e2,O,b8,c⟩:=o;obtain⟨b9,hJ⟩:=Cp.out c;have hv:=oh O H;have a7:=kf B2 e2 H;have d6:=ap.all a7 hJ c5 (λa=>v.tmps.getD a undef) x hJ;rw[hv,<-b9]at d6;have d7:=wD (n:=n) H O.size h1 h2 (B0:=e) (λa j=>(O.slot a).trans (b8 a j));have hy:=L (m:=m) r d t _ _ v x b5 b7 J d7 d6;refine wpIn_mono hy (λq d4 d5 o=>?_);refine o.mono (λa j=>Q6.2 (.inr j)) (λa j=>?_) λ_ _ _ _ c=>c;rw[<-d7.slot];exact(O.slot a).trans (b8 a λhm=>j (Q6.2 (.inl hm)))
   |exit id=>exact g _ _ _ _ sM o
   |goto a0=>exact g _ _ _ _ sM o
   |ret=>exact g _ _ _ _ sM o
   |panic ch=>exact g _ _ _ _ sM o
   |outgrown=>exact g _ _ _ _ sM o
 |cond I u R K L=>
  intro r d t e f l b C y J k P;have b4:r=none\/(d=false/\jf u=true):=C.imp (λP=>P) λP=>⟨P.1,by have:=P.2;simp only[jf,QK]at this;exact this.1⟩
  have b5:r=none\/(d=false/\jf R=true):=C.imp (λP=>P) λP=>⟨P.1,by have:=P.2;simp only[jf,QK]at this;exact this.2⟩
  unfold DR at P;split at P
  ·rename_i f6 S
   refine wpIn_cond_split (t:=f6) (by rw[k.eval];exact S) (λj=>?_) (λhf=>?_)
   ·subst j
    refine wpIn_mono (K r d t e f l b b4 (λa j=>y a (Q6.2 (.inl j))) J k P) (λq v x o=>?_);exact o.mono (λa j=>Q6.2 (.inl j)) (λ_ _=>rfl) λ_ _ _ _ c=>c
   ·subst hf
    refine wpIn_mono (L r d t e f l b b5 (λa j=>y a (Q6.2 (.inr j))) J k P) (λq v x o=>?_);exact o.mono (λa j=>Q6.2 (.inr j)) (λ_ _=>rfl) λ_ _ _ _ c=>c
  ·exact P.elim
 |block id I ih=>
  intro r d t e f l b C y J k P;refine wpIn_block (wpIn_mono (ih r d (xZ id t) e f l b C y (by intro q e f Y b c Q;subst Q;exact c.elim) k P) ?_);intro q v x o;obtain⟨z,w,B,F,c⟩:=o
  cases q with
  |exit a8=>
   show(if a8=id then _ else _);simp only[xZ]at c
   cases S:Nat.beq a8 id with
   |true=>
    rw[S]at c;rw[Zx (X9 S)];exact⟨z,w,B,F,c⟩
   |false=>
    rw[S]at c;rw[Zq (by rintro rfl;simp at S)];exact⟨z,w,B,F,c⟩
  |normal=>exact⟨z,w,B,F,c⟩
  |goto a0=>exact⟨z,w,B,F,c⟩
  |ret=>exact⟨z,w,B,F,c⟩
  |panic ch=>exact⟨z,w,B,F,c⟩
  |outgrown=>exact c.elim
 |loop I ih=>
  intro r d t e f l b C y J k P;unfold DR at P;split at P
  ·exact P.elim
  ·rename_i H hS
   obtain⟨f7,⟨m0,h0⟩,f8⟩:=P;refine wpIn_loop_ghost (λm v x=>v.tmps.size=n/\(∀a,a∉writes I->v.tmps.getD a undef=get e f a)/\v.defers=l.defers/\
    ap (je H) (f7 m) (H.map λa4=>v.tmps.getD a4.1 undef) x) m0 ⟨k.size,λa _=>k.slot a,rfl,by rw[<-oh k H];exact h0⟩ ?_
   rintro mm v x ⟨f9,d8,b9,hI⟩;obtain⟨w,h1,h2,g0⟩:=fp.out (f8 mm);have a7:(H.map λa4=>v.tmps.getD a4.1 undef).length=(je H).length:=by rw[<-kf e f H,Ax];simp
   have S:=ap.all a7 hI g0 (λa=>v.tmps.getD a undef) x hI;have c0:=wD (n:=n) H f9 h1 h2 d8;rw[<-b9]at S;have c6:=ih (m:=m) r d _ _ _ v x C y (by intro q e f Y b c Q;subst Q;exact c.elim) c0 S;refine wpIn_mono c6 ?_;intro q d4 d5 o;obtain⟨B2,e2,O,b8,c⟩:=o;have a9:∀a,a∉writes I->get B2 e2 a=get e f a:=λa j=>(b8 a j).trans ((c0.slot a).symm.trans (d8 a j))
   cases q with
   |normal=>
    obtain⟨g1,m',d2,g2⟩:=Cp.out c;refine⟨m',d2,O.size,λa j=>(O.slot a).trans (a9 a j),g1.trans b9,?_⟩;rw[<-oh O H];exact g2
   |outgrown=>exact c.elim
   |exit id=>exact⟨B2,e2,O,a9,c⟩
   |goto a0=>exact⟨B2,e2,O,a9,c⟩
   |ret=>exact⟨B2,e2,O,a9,c⟩
   |panic ch=>exact⟨B2,e2,O,a9,c⟩
 |rangeFunc g3 ps u R K L=>
  intro r d t e f l b C y J k P;unfold DR at P;split at P
  ·exact P.elim
  obtain rfl:r=none:=C.resolve_right λP=>by cases P.1
  split at P
  ·exact P.elim
  rename_i H hS;obtain⟨d9,P⟩:=fE.out P;simp only[QK]at d9;obtain⟨c1,g4,g5⟩:=d9;have c1:=Pg.out c1;obtain⟨c7,a1,g6,g7,σ,s0,f5,Jx,a3,i9,g8,e0,c2,c6,g9,h3,h4⟩:=P;have b0:∀a,a∈lN u->a<n:=λa j=>y a (Q6.2 (.inr (Q6.2 (.inl j))));have b7:∀a,a∈lN R->a<n:=λa j=>y a (Q6.2 (.inr (Q6.2 (.inr j))));have h5:∀a,a∈ps.toList->a<n:=λa j=>y a (Q6.2 (.inl j));refine wpIn_rangeFunc ?_;intro fn _;obtain⟨p,s⟩:∃p:LoopState->Option Code->Loop,p=λst pe=>{state:=st,pending:=pe,fn,tmps:=l.tmps,params:=ps,assign:=u,body:=R,defers:=b.heap.size}:=⟨_,rfl⟩
  obtain⟨T,b2⟩:∃T,(b.alloc (.deferred (some []))).alloc (.loop (p .ready none))=T:=⟨_,rfl⟩
  have h6:T.heap[b.heap.size+1]? =some (.loop (p .ready none)):=by
   rw[<-b2];have:=World.alloc_heap_new (b.alloc (.deferred (some []))) (.loop (p .ready none));rwa [World.size_alloc]at this
  have h7:T.heap[b.heap.size]? =some (.deferred (some [])):=by
   rw[<-b2];exact(Go.RowKit.Below.heap_alloc _ _ _ sM).trans (World.alloc_heap_new b _)
  have h8:T.heap.size=b.heap.size+2:=by rw[<-b2];simp
  have h9:aj (λ_=>False) b T:=by
   rw[<-b2];exact⟨rfl,rfl,rfl,by simp;omega,λi0 E _=>(Go.RowKit.Below.heap_alloc _ _ _ (by simp;omega)).trans (Go.RowKit.Below.heap_alloc b _ i0 E)⟩
  let i1:UV:=λe9=>e9.heap[b.heap.size+1]? =some (.loop (p .ready none))/\e9.heap[b.heap.size]? =some (.deferred (some []))
  let Rx:Exit->UV:=λu e9=>Yb u (Xt (λu A0=>t u e f (NJ b.heap.size::l.defers) A0) (gS R))/\e9.heap[b.heap.size+1]? =some (.loop (p .done (some (Sz u))))/\e9.heap[b.heap.size]? =some (.deferred (some []))
  have c3:∀{e9 e:World} {V o':Obj},aj (oI b) e9 e->e9.heap[b.heap.size+1]? =some V->e9.heap[b.heap.size]? =some o'->e.heap[b.heap.size+1]? =some V/\e.heap[b.heap.size]? =some o':=λE h1 h2=>
   ⟨E.obj h1 λP=>P.2 rfl,E.obj h2 λP=>P.1 rfl⟩
  refine⟨b.heap.size+1,[NJ b.heap.size],T,{target:=.fn (.func c7) a1,args:= #[.func (.yield (b.heap.size+1)) #[] #[]]},T,c7,#[.func (.yield (b.heap.size+1)) #[] #[]]++a1,T,?_,?_,λ_ _=>trivial,?_,λP=>by simp[Fence.wide]at P,?_⟩
  ·rw[<-b2,s];exact run_enterLoop_outer _ _ _ _ _
  ·have hg:l.eval g3= .func (.func c7) #[] a1:=by rw[k.eval];exact g6
   simp only[resolve,hg];simp[go_sem]
  ·simp only[invoke];exact iZ g7 _ _
  refine uP.2 (Calls.mono (g9 i1 Rx (λe9 e P E=>c3 E P.1 P.2) (λu e9 e P E=>⟨P.1,c3 E P.2.1 P.2.2⟩) (λe9 P=>by have:=(Q5.1 P.1).1;omega) ?_ T (g8 T h9 h8) ⟨h6,h7⟩) ?_)
  ·
   rintro c8 M vs A1 N ⟨W,E⟩ e1 hN;have a7:=e1.len;have e3:vs.length=ps.toList.length:=by rw[a7,<-c1,JU]
   have hy:=run_yield (P:=h) (args:=vs.toArray) W (by rw[s];simpa using e3);rw[s]at hy;refine⟨fn,_,u,R,hy,roundIn_of_wpIn trivial ?_⟩;have S:=e1 _ (c6 c8 M A1 N (by have:=(Q5.1 W).1;omega)) hN;have c0:Rel n e (NK (PG H) vs f) {tmps:=(ps.zip vs.toArray).foldl (λU (u:Tmp×Value)=>U.setIfInBounds u.1 u.2) l.tmps,defers:=[]}:=by
    have h0:Rel n e f {tmps:=l.tmps,defers:=[]}:=⟨k.size,k.slot⟩
    have:=FD ps.toList vs f l.tmps h5 e3 h0;rw[c1];have w:(ps.zip vs.toArray).foldl (λU (u:Tmp×Value)=>U.setIfInBounds u.1 u.2) l.tmps=(ps.toList.zip vs).foldl (λa (a4:Nat×Value)=>a.setIfInBounds a4.1 a4.2) l.tmps:=by
     rw[<-Array.foldl_toList,Array.toList_zip]
    rw[w];exact this
   have hx:=K (m:=0) (some (b.heap.size+1)) false _ e _ _ A1 (.inr ⟨rfl,g4⟩) b0 (by intro q e f Y b c Q;subst Q;exact c.elim) c0 S;refine wpIn_mono hx ?_;intro q i2 A2 o;obtain⟨z,w,B,-,c⟩:=o
   cases q with
   |exit id=>exact c.elim
   |goto a0=>exact c.elim
   |ret=>exact c.elim
   |panic ch=>exact c.elim
   |outgrown=>exact c.elim
   |normal=>
    obtain⟨i3,c⟩:=c;obtain⟨e4,i4⟩:=c3 i3 W E;refine⟨_,run_beginRound e4 (by rw[s]),?_⟩;have c:=c _ (km (w:=A2) (l:=b.heap.size+1) (o:=.loop {p .ready none with state:=.busy}));have e5:(A2.putObj (b.heap.size+1) (.loop {p .ready none with state:=.busy})).heap[b.heap.size+1]? =some (.loop {p .ready none with state:=.busy}):=World.putObj_heap_same (Q5.1 e4).1;have e6:(A2.putObj (b.heap.size+1) (.loop {p .ready none with state:=.busy})).heap[b.heap.size]? =some (.deferred (some [])):=(World.putObj_heap_other oM).trans i4;generalize A2.putObj (b.heap.size+1) (.loop {p .ready none with state:=.busy})=A3 at c e5 e6;have hy:=L (m:=0) (some (b.heap.size+1)) false _ z w i2 A3 (.inr ⟨rfl,g5⟩) b7 (by intro q e f Y b c Q;subst Q;exact c.elim) B c;refine wpIn_mono hy ?_;have a2:∀(i:Option Code) (X:World),aj (oI b) A3 X->
      (Instr.endRound (b.heap.size+1) i).run h X= .ok (.bool i.isNone) (X.putObj (b.heap.size+1) (.loop (p (if i.isNone then .ready else .done) i)))/\
      (X.putObj (b.heap.size+1) (.loop (p (if i.isNone then .ready else .done) i))).heap[b.heap.size+1]? =some (.loop (p (if i.isNone then .ready else .done) i))/\
      (X.putObj (b.heap.size+1) (.loop (p (if i.isNone then .ready else .done) i))).heap[b.heap.size]? =some (.deferred (some [])):=λi X a6=>by
     obtain⟨e7,i5⟩:=c3 a6 e5 e6;have:=run_endRound (P:=h) i e7;rw[s]at this⊢;exact⟨this,World.putObj_heap_same (Q5.1 e7).1,(World.putObj_heap_other oM).trans i5⟩
    intro q j0 X o;obtain⟨B4,j1,j2,-,b1⟩:=o
    cases q with
    |normal=>
     obtain⟨a6,b3⟩:=b1;obtain⟨f1,f2,f3⟩:=a2 none X a6;exact⟨_,_,f1,true,rfl,.inl ⟨rfl,e0 _ _ _ _ b3 km,f2,f3⟩⟩
    |ret=>
     obtain⟨a6,c9,b3⟩:=b1;obtain⟨f1,f2,f3⟩:=a2 (some .ret) X a6;exact⟨_,_,f1,false,rfl,.inr ⟨rfl,.ret,c2 _ _ _ _ b3 km,c9,f2,f3⟩⟩
    |exit id=>
     obtain⟨a6,c9,b3⟩:=b1;obtain⟨f1,f2,f3⟩:=a2 (some (.exit id)) X a6;exact⟨_,_,f1,false,rfl,.inr ⟨rfl,.exit id,c2 _ _ _ _ b3 km,c9,f2,f3⟩⟩
    |goto a=>exact b1.elim
    |panic ch=>exact b1.elim
    |outgrown=>exact b1.elim
  ·
   rintro ed A2 ⟨⟨j3,rfl⟩,(⟨⟨W,E⟩,c8,d0,N,hT⟩|⟨x1,M,N,i6,W,E⟩)⟩
   ·refine⟨none,_,by have:=run_endLoop (P:=h) W (by rw[s];simp);rw[s]at this;exact this,?_⟩
    exact du.of (k.defers _) (h3 c8 d0 _ (e0 _ _ _ _ N km) hT ((World.putObj_heap_other oM).trans E))
   ·refine⟨some (Sz x1),_,by have:=run_endLoop (P:=h) W (by rw[s];simp);rw[s]at this;exact this,?_⟩
    obtain⟨i7,c⟩:=PF.out h4 x1 i6;rcases JV R x1 i7 with rfl|⟨id,rfl⟩
    ·exact wpIn_ret (du.of (k.defers _) (c M _ (c2 .ret M A2 _ N km) ((World.putObj_heap_other oM).trans E)))
    ·exact wpIn_exit (du.of (k.defers _) (c M _ (c2 (.exit id) M A2 _ N km) ((World.putObj_heap_other oM).trans E)))
def Wz(n:UV):List Deferred->UV
 |[],P=>n P
 |d::c,P=>match d.target with
  | .collected a=>rf a P/\∀b,qR a P b->Wz n c b
  |_=>False
def Vn(c:Program)(d:Func)(P:RK):iY:=λg e f a n=>match g with
 | .normal=>Wz (λn=>Jn c d.results.toList e f n λb=>P (.returned (oneOf b)) n) a n
 | .ret=>Wz (λn=>Jn c d.results.toList e f n λb=>P (.returned (oneOf b)) n) a n
 | .panic h=>Wz (λn=>P (.panicked h) n) a n
 |_=>False
def pB{f:Program}{g:Func}{n:Array Value}{h:RK}{b:UV}{e:FrameMode}(i:e≠.run){j:Nat}(k:∀P,b P->LeavesIn (FW none) j f g n h [] e P):∀(c:List Deferred) (P:World),Wz b c P->LeavesInM (FW none) j f g n h c e P
 |[],P,a=>k P a
 |d::c,P,a=>by
  unfold Wz at a;split at a
  ·rename_i l m
   obtain⟨o,a⟩:=a;exact⟨i,.inl ⟨l,_,m,run_takeDeferred o,pB i k c _ (a _ km)⟩⟩
  ·exact a.elim
def nW(g:gA)(i:List Nat)(j:h.follows .mixedOrders=true)(k:h.funcs[A]? =some a8)(l:a8.body=some a2)(m:o.size<=a8.ntmps)(p:vk a8.ntmps (lN a2)=true)(P:DR h g i true a2 (Vn h a8 s) (λ_=>undef) (fw 0 o.toList) [] b):Calls h A o b s:=by
 refine uP.1 (callsIn_of_wp_marks (F:=FW none) (n:=0) k l trivial (wpIn_mono (Xu j a2 none true (Vn h a8 s) _ _ _ b (.inl rfl) (lI p) (by intro c d e v b n q;subst q;exact n.elim) (x_ m []) P) ?_));rintro c r w ⟨d,e,t,_,n⟩;have f:∀b,(Jn h a8.results.toList d e b λa=>s (.returned (oneOf a)) b)->LeavesIn (FW none) 0 h a8 r.tmps s [] .returning b:=λb P=>by
  obtain⟨a,u,P⟩:=rN t P;exact⟨_,rO u,P⟩
 cases c with
 |normal=>exact pB sM f _ _ n
 |ret=>exact pB sM f _ _ n
 |panic x=>exact pB sM (λb P=>P) _ _ n
 |exit id=>exact n.elim
 |goto a=>exact n.elim
 |outgrown=>exact n.elim

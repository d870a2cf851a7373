import Derived.Test.YtjgjkeponbeekaaGreatDoorKb11
import Derived.RangeFuncSeq
import Derived.RangeFuncLeaves
set_option linter.all false
set_option maxRecDepth 100000
namespace Go.Proofs.YtjgjkeponbeekaaGreatDoor
open Go.ar
def aY(a P:World)(d:Nat)(D:ak)(b:RK):Prop:=∃c,aV P d c D/\ai a P/\(∀n,c n->a.heap.size<=n/\¬b n)/\∀n,b n->n<P.heap.size
abbrev no:RK:=λ_=>False
abbrev dX(n:RK):RK:=λP=>¬n P
variable{y:ByteArray}{A:FuncId}{e:Int}{d7:Int×ak}{a c:Nat}{f:RK}{d:am}
section
variable {w0 w w1 w':World} {p:Nat} {D D':ak} {X Y:RK}
def aY.gr(n:aY w0 w p D X):ai w0 w:=by obtain⟨a,b,P,c,d⟩:=n;exact P
def aY.ok(n:aY w0 w p D X):D.Ok:=by obtain⟨a,P,b,c,d⟩:=n;exact P.ok
def aY.af(P:aY w0 w p D X)(n:ai w w'):aY w0 w' p D X:=by
 obtain⟨a,b,c,d,e⟩:=P;exact⟨a,b.af n,c.af n,d,λf g=>Qk (e f g) n.size⟩
def aY.mono(c:aY w0 w p D X)(a:∀n,Y n->X n):aY w0 w p D Y:=by
 obtain⟨d,e,f,b,g⟩:=c;exact⟨d,e,f,λn P=>⟨(b n P).1,λh=>(b n P).2 (a n h)⟩,λn P=>g n (a n P)⟩
def aY.add(P:aY w0 w p D X)(b:ai w w')(c:∀n,Y n->w.heap.size<=n/\n<w'.heap.size):aY w0 w' p D (λn=>X n\/Y n):=by
 obtain⟨f,d,g,e,h⟩:=P;exact⟨f,d.af b,g.af b,λn a=>⟨(e n a).1,λi=>i.elim (e n a).2 λj=>by have:=d.aF n a;have:=(c n j).1;omega⟩,λn a=>a.elim (λP=>Qk (h n P) b.size) λP=>(c n P).2⟩
def aY.of(a:ai w0 w)(b:ai w w')(e:aV w' p f D)(c:∀n,f n->w.heap.size<=n)(d:∀n,X n->n<w.heap.size):aY w0 w' p D X:=
 ⟨f,e,a.af b,λn P=>⟨Xx a.size (c n P),λg=>by have:=c n P;have:=d n g;omega⟩,λn P=>Qk (d n P) b.size⟩
def od(w0 w:World)(p:Nat)(X:RK)(n:Int×ak)(P:Value)(w':World):Prop:=P= WP n.1/\aY w0 w' p n.2 X/\aj (dX X) w w'
def aY.Yg{a:Array Value}(f:aY w0 w p D X)(e:ai w w1)(j:∀b,aV w1 p b D->(∀n,b n->w0.heap.size<=n/\n<w.heap.size/\¬X n)->ba A a w1 (Ok (v_ w1 p b d7))):ba A a w1 (Ok (od w0 w1 p X d7)):=by
 obtain⟨b,g,h,c,i⟩:=f;refine Calls.ok (j b (g.af e) λn P=>⟨(c n P).1,g.aF n P,(c n P).2⟩) ?_;rintro q w' ⟨k,l,m,d⟩;have:=e.size;have:=h.size;have:=d.keep.size;exact⟨l,⟨k,m,(h.af e).new d.keep λn P=>.inr (c n P).1,λn P=>(d.new n P).elim (c n) λf=>⟨oM,λo=>by have:=i n o;omega⟩,λn P=>by have:=i n P;omega⟩,d.keep.mono λn _ P=>(c n P).2⟩
def aY.call{n:Array Value}(b:aY w0 w p D X)(c:∀a,aV w p a D->(∀P,a P->w0.heap.size<=P/\P<w.heap.size/\¬X P)->ba A n w (Ok (v_ w p a d7))):ba A n w (Ok (od w0 w p X d7)):=b.Yg (aj.refl w) c
def aY.append{e:List UInt8}(P:aY w0 w p D X)(b:Row gl 1 w f d a e)(j:d=none->a=0/\c=0)(g:∀n,f n->n<w0.heap.size\/X n):
  ba 178 #[LL p,.string y,.slice d a c] w (Ok (od w0 w p X (D.append y e))):=by
 have q:=P.gr.size;have k:∀n,X n->n<w.heap.size:=by obtain⟨l,r,s,t,m⟩:=P;exact m
 exact P.call λl o h=>yP o b j λn b=>⟨(g n b).elim (λP=>oM) (k n),λi=>(g n b).elim (λP=>by have:=(h n i).1;omega) (h n i).2.2⟩
def aY.create(n:aY w0 w p D X):ba 170 #[LL p,.string y] w (Ok (od w0 w p X (D.create y))):=n.call λa P _=>yO P
def aY.sync(n:aY w0 w p D X):ba 172 #[LL p,.string y] w (Ok (od w0 w p X (D.sync y))):=n.call λa P _=>EV P
def aY.og{k:ByteArray}(n:aY w0 w p D X):ba 169 #[LL p,.string k,WP e] w (Ok (od w0 w p X (D.og k e))):=n.call λa P _=>Sb P
def aY.delete(n:aY w0 w p D X):ba 141 #[LL p,.string y] w (Ok (od w0 w p X (D.delete y))):=n.call λa P _=>yN P
def aY.read{k:ByteArray}(j:aY w0 w p D X):ba 162 #[LL p,.string k] w (Ok λd w'=>∃a b c P,d= .tuple #[.slice a b c,WP (D.read k).2]/\aU gl 5 P w' a b c (D.read k).1/\(∀n,P n->w.heap.size<=n)/\aY w0 w' p D (λn=>X n\/P n)/\ai w w'):=by
 obtain⟨P,e,l⟩:=j;refine Calls.ok (yh e) ?_;rintro d w' ⟨m,rfl,a,b,c,G,rfl,f,g,h⟩;exact⟨a,b,c,G,rfl,f,h,aY.add ⟨P,e,l⟩ g λn i=>⟨h n i,f.aF n i⟩,g⟩
def aY.list(j:aY w0 w p D X):ba 160 #[LL p] w (Ok λd w'=>∃a b c P,d= .slice a b c/\aU Pk 9 P w' a b c D.list/\(∀n,P n->w.heap.size<=n)/\aY w0 w' p D (λn=>X n\/P n)/\ai w w'):=by
 obtain⟨P,e,k⟩:=j;refine Calls.ok (yi e) ?_;rintro d w' ⟨a,b,c,G,rfl,f,g,h⟩;exact⟨a,b,c,G,rfl,f,h,aY.add ⟨P,e,k⟩ g λn i=>⟨h n i,f.aF n i⟩,g⟩
end
def gU(n:Nat):ak:=⟨n,[],false,0,false⟩
variable{t:UV}{u:List Int}{b k:World}
def tU(g:ai b k)(l:64<=e)(m:e<=262144):ba 42 #[WP e] k (Ok λa P=>∃n,a= .tuple #[LL n,WP 0]/\aY b P n (gU e.toNat) (λc=>c<k.heap.size)/\ai k P):=by
 refine Calls.ok Pl ?_;intro a P d;rw[Zq oM]at d;obtain⟨n,o,rfl,h,f,i⟩:=d;exact⟨n,rfl,aY.of g f h i λc j=>j,f⟩
def JD{D:ak}(n:D.Ok)(P:ByteArray):(D.read P).1.length<=262144:=by
 unfold ak.read;split
 ·simp
 ·split
  ·simp
  ·rename_i b a;exact n.len (cx a)
def nA:ByteArray:=⟨#[97]⟩
open Go.ar Go.ChangeShapes Go.WideShapes Go.ChangeAt Go.RowKit
section
variable {w0 w w1 w':World} {p:Nat} {D D':ak} {X Y:RK}
def aY.bz(P:aY w0 w p D X)(g:qU w0)(j:Row aP 8 w f d a u)(k:∀l∈u,aM l)(h:∀n,f n->n<w0.heap.size\/X n):
  ba 112 #[LL p,.agg #[.slice d a c]] w (Ok (od w0 w p X (bz D u))):=by
 have s:=P.gr.size;have m:∀n,X n->n<w.heap.size:=by obtain⟨o,t,v,x,q⟩:=P;exact q
 have y:=g.lt;exact P.call λo r e=>CK (g.af P.gr) r j k (λn b=>⟨(h n b).elim (λP=>oM) (m n),λi=>(h n b).elim (λP=>by have:=(e n i).1;omega) (e n i).2.2⟩) λn b=>by have:=(e n b).1;omega
def aY.iU(c:aY w0 w p D X)(j:qU w0):ba 109 #[LL p] w (Ok λd w'=>∃P a b G,d= .tuple #[.agg #[.slice P a b],.bool (dF D).isSome]/\aU aP 3 G w' P a b ((dF D).getD [])/\
  (∀n,G n->w.heap.size<=n)/\aY w0 w' p D (λn=>X n\/G n)/\ai w w'):=by
 have k:=c.gr;obtain⟨l,e,m⟩:=c;refine Calls.ok (El (j.af k) e) ?_;rintro d w' ⟨P,a,b,G,rfl,f,g,h⟩;exact⟨P,a,b,G,rfl,f,h,aY.add ⟨l,e,m⟩ g λn i=>⟨h n i,f.aF n i⟩,g⟩
end
def NZ{D:RK}{P bytes:Nat}(a:Row aP bytes b D d P u):∀n∈u,aM n:=λn c=>by
 obtain⟨e,f⟩:=List.mem_iff_getElem?.1 c;obtain⟨i,g,j,-,-,-,-,h⟩:=a.el e n f;exact h.2
def EK{D:ak}:((dF D).getD []).length<=64:=by
 unfold dF;split
 ·simp
 ·cases n:iU (D.read b_).1 with
  |none=>simp
  |some P=>exact(PO n).2
def tn:(aO==b_)=false:=by decide+kernel
def Us:cT aO=true:=by decide+kernel
def Jm:cT b_=true:=by decide+kernel
def Ah:gE:=⟨[(6,[(8,.slice none 0 0),(9,WP 0)])],[],[],[],[]⟩
def Ai(a0:PC_ 146 #[.ii e] b (λa3 a4=>∃o,a3= .string o/\PC_ 162 #[.pointer d,.string o] a4 (λa5 p=>∃q k l r,a5= .tuple #[.slice q k l,.ii r]/\al (r !=0) (rt t ((.tuple #[.slice none 0 0,.ii 0])) p) ((∃m:Nat->am->Nat->Nat->Int->ac,(∃j,m j none 0 0 0 p)/\∀(j:Nat) (c:am) (f:Nat) (g:Nat) (a:Int) (c9:Nat->Value) (s:World),m j c f g a s->((0:Int)<=a/\(a:Int)<=(k:Int)/\PC_ 163 #[.slice (c_ q (Int.toNat a) l 1) (k-Int.toNat a) (l-Int.toNat a)] s (λa6 h=>∃u v w x y z,a6= .tuple #[.agg #[.ii u,.slice v w x],.ii y,.ii z]/\PA h (.cells #[.ii 0,.slice none 0 0] 277) λa7=>PS a7 (ab_ h 0) (.ii u) λa8=>PS a8 (ab_ h (0+1)) (.slice v w x) λi=>al (z !=0) (rt t ((.tuple #[.slice c f g,.ii a])) i) ((rI i (ab_ h 0) λa9=>al (a9 !=1) (rt t ((.tuple #[.slice c f g,.ii a])) i) ((rS i (ab_ h (0+1)) λb0 b1 b2=>PC_ 231 #[.slice b0 b1 b2] i (λb3 n=>∃A B D C E G F H I J K L M,b3= .tuple #[.agg #[.ii A,.ii B,.ii D,.slice C E G,.ii F,.ii H,.ii I,.ii J,.ii K,.ii L],.ii M]/\PA n (.cells #[.ii 0,.ii 0,.ii 0,.slice none 0 0,.ii 0,.ii 0,.ii 0,.ii 0,.ii 0,.ii 0] 63) λb4=>PS b4 (ab_ n 0) (.ii A) λb5=>PS b5 (ab_ n (0+1)) (.ii B) λb6=>PS b6 (ab_ n (0+2)) (.ii D) λb7=>PS b7 (ab_ n (0+3)) (.slice C E G) λb8=>PS b8 (ab_ n (0+4)) (.ii F) λb9=>PS b9 (ab_ n (0+5)) (.ii H) λc0=>PS c0 (ab_ n (0+6)) (.ii I) λc1=>PS c1 (ab_ n (0+7)) (.ii J) λc2=>PS c2 (ab_ n (0+8)) (.ii K) λc3=>PS c3 (ab_ n (0+9)) (.ii L) λP=>al (M !=0) (rt t ((.tuple #[.slice c f g,.ii a])) P) ((∃N O Q R S T U V W X Y Z,P.cell? (ab_ n 0)=some (.ii N)/\P.cell? (ab_ n (0+1))=some (.ii O)/\P.cell? (ab_ n (0+2))=some (.ii Q)/\P.cell? (ab_ n (0+3))=some (.slice R S T)/\P.cell? (ab_ n (0+4))=some (.ii U)/\P.cell? (ab_ n (0+5))=some (.ii V)/\P.cell? (ab_ n (0+6))=some (.ii W)/\P.cell? (ab_ n (0+7))=some (.ii X)/\P.cell? (ab_ n (0+8))=some (.ii Y)/\P.cell? (ab_ n (0+9))=some (.ii Z)/\PA P (.cells #[.ii N,.ii O,.ii Q,.slice R S T,.ii U,.ii V,.ii W,.ii X,.ii Y,.ii Z] 63) λc4=>PR_ (ap_ 59 (.slice c f g) (.slice (some (ab_ P 0)) 1 1)) c4 (kS_ λc5 c6 c7 c8=>(∃a2,a2<j/\m a2 c5 c6 c7 (IntKind.wrap .i64 (a+y)) c8)) (pV t)))) (pE t)))))) (pE t))))) (pE t)) (pE t)):ba 168 #[.pointer d,.ii e] b t:=DC Ah Tryz.func168 rfl a0
end Go.Proofs.YtjgjkeponbeekaaGreatDoor
namespace Go.ar
open Go
variable{H:List ah}{m:ah}
def rm(n:m.Ok)(P:m.aN.length<=64):gW m=(ob m,0):=by
 have c:=FD n P;have a:jA m=(bk (fW m),0):=by unfold jA;rw[Zq oM]
 have b:kW 1 (bk (fW m))=(ob m,0):=by unfold kW ob;rw[Zq dC,Zq oM]
 unfold gW;rw[a];simp only;rw[b];simp
def yH(P:¬m.aN.length<=64):gW m=([],3):=by
 have n:jA m=([],3):=by unfold jA;rw[Zx oM]
 unfold gW;rw[n];simp
def ends(n:List ah):List Int:=(List.range n.length).map λP=>((az (n.take (P+1))).length:Int)
def CE{l:List ah}{i j:Nat}(n:i<=j):(az (l.take i)).length<=(az (l.take j)).length:=by
 have:l.take j=l.take i++(l.take j).drop i:=by
  conv=>lhs;rw[<-ZX i (l.take j)]
  rw[List.take_take,X2 n]
 rw[this,gv,QX];omega
def Jh(P:∀n∈H,n.Ok/\n.aN.length<=64):(az H).length<=675*H.length:=by
 induction H with
 |nil=>simp[az]
 |cons n H a=>
  rw[iv,QX,Xq];have d:=Ky (P n (QV ..)).1 (P n (QV ..)).2;have e:=a λb c=>P b (QJ _ c);omega
end Go.ar
namespace Go.Proofs.YtjgjkeponbeekaaGreatDoor
open Go.ar
variable{e:Int}
def JP(b:0<=e)(c:e<1000000000000):cT (⟨(ax e).toArray⟩:ByteArray)=true:=by
 have d:=Da e;have f:=ve e.toNat;have a:=mM b c;have g:(⟨(ax e).toArray⟩:ByteArray).size=(ax e).length:=by simp[ByteArray.size]
 unfold cT;rw[g,QK,QK,Zk,Zk];refine⟨⟨by rw[a,QX];show 1<=4+_;omega,d⟩,?_⟩;show(ax e).all eL=true;rw[a,List.all_append,QK];refine⟨dC,ZY.2 λn P=>?_⟩;have:=ZY.1 f.2.1 n P;have h:∀n:UInt8,gV n=true->eL n=true:=by
  intro n;have i:(List.range 256).all (λe=>!(gV (UInt8.ofNat e))||eL (UInt8.ofNat e))=true:=by decide+kernel
  have:=ZY.1 i n.toNat (List.mem_range.2 n.toNat_lt);rw[UInt8.ofNat_toNat]at this;intro j;rw[j]at this;simpa using this
 exact h n this
end Go.Proofs.YtjgjkeponbeekaaGreatDoor
namespace Go.ar
open Go
end Go.ar
namespace Go.Proofs.YtjgjkeponbeekaaGreatDoor
section
open Go.ar
variable{a c:Nat}{f:RK}{d:am}{j:Type}{b:World}{m:ah}
def EN{D:RK}(r:Laid b)(s:Row aP 8 b D d a m.aN)(i:m.Ok)(t:∀P,D P->P<b.heap.size):
  ba 205 #[.agg (aI m d a c).toArray] b (Ok λu j=>∃k l o p,u= .tuple #[.slice k l o,WP (gW m).2]/\aU gl 5 p j k l o (gW m).1/\ai b j/\∀P,p P->b.heap.size<=P):=by
 refine z_ (PA.mk λC e E n=>?_);refine⟨_,_,_,_,_,_,_,_,_,_,_,_,ae n rfl,ae n rfl,ae n rfl,ae n rfl,ae n rfl,ae n rfl,ae n rfl,ae n rfl,ae n rfl,ae n rfl,
  PC.ok (Po (s.af e) i λP h=>Qk (t P h) e.size) ?_⟩
 rintro _ v ⟨_,rfl,F,H,I,J,rfl,q,f,K⟩;refine⟨_,_,_,_,rfl,al.eK (λw=>?_) (λx=>?_)⟩
 ·rw[show gW m=([],(jA m).2) by unfold gW;rw[Zx w]]
  exact Ok.mk ⟨none,0,0,λ_=>False,rfl,aU.nil v,e.then f,λ_ g=>g.elim⟩
 rw[show gW m=kW 1 (jA m).1 by unfold gW;rw[Zq (by simpa using x)]];have L:(jA m).1.length<=666:=by
  by_cases g:64<m.aN.length
  ·simp[jA,g]
  ·have:=FD i oM
   simpa[jA,g]using this
 refine PC.ok (Fc (r.af (e.then f)).pW (q.row (bytes:=1) dC (by unfold aR;omega)) q.aF) ?_;rintro _ M ⟨_,rfl,N,O,Q,y,rfl,z,A,B⟩;refine⟨_,_,_,_,rfl,Ok.mk ⟨_,_,_,y,rfl,z,(e.then f).then A,λP h=>?_⟩⟩;have:=B P h;have:=(e.then f).size;omega
def Tm{n:List j}(b:n.length=a)(P:Nat):(n.take a).drop P=n.drop P:=by rw[Qz oM]
def SP{D:ak}{no:Int}(O:Laid b)(Q:aV b a f D)(hn:aM no):
  ba 168 #[LL a,WP no] b (Ok λB d=>∃o p q G,B= .tuple #[.slice o p q,WP ((bF (D.read (cH (ax no))).1).2:Int)]/\
   aU wj 63 G d o p q (bF (D.read (cH (ax no))).1).1/\ai b d/\(∀P,G P->b.heap.size<=P)/\(bF (D.read (cH (ax no))).1).1.length<=262144):=by
 refine Ai (PC.ok (kf O hn) ?_);rintro _ w1 ⟨rfl,u⟩;refine⟨_,rfl,PC.ok (yh (Q.af u)) ?_⟩;rintro _ r ⟨_,rfl,a4,R,c2,F2,rfl,l,C,c3⟩;have S:=JD Q.ok (cH (ax no));have E:(D.read (cH (ax no))).2≠0->(D.read (cH (ax no))).1=[]:=by
  unfold ak.read;split
  ·intro _;rfl
  ·split
   ·intro _;rfl
   ·intro h;exact Zz rfl h
 generalize D.read (cH (ax no))=rd at l S E;obtain⟨c,er⟩:=rd;simp only at l S E⊢;refine⟨_,_,_,_,rfl,al.eK (λk=>?_) (λhe=>?_)⟩
 ·rw[E k,rW]
  exact Ok.mk ⟨none,0,0,λ_=>False,rfl,aU.nil r,u.then C,λ_ h=>h.elim,sM⟩
 have b2:=l.len dC;have b3:=l.lz;have a9:Row gl 1 r F2 a4 R c:=l.row dC (by unfold aR;omega);refine⟨λT v w y F d=>∃(n:Nat) (g:List ah) (G:RK),F=n/\n<=c.length/\T=c.length-n/\bF c=(g++(bF (c.drop n)).1,n+(bF (c.drop n)).2)/\g.length<=n/\
  aU wj 63 G d v w y g/\ai r d/\∀P,G P->r.heap.size<=P,⟨_,0,[],λ_=>False,rfl,Qj _,rfl,sM,sM,aU.nil r,aj.refl _,λ_ h=>h.elim⟩,?_⟩
 rintro T v w y _ _ U ⟨n,g,G,rfl,c5,rfl,V,c6,s,m,H⟩;refine⟨oM,oM,?_⟩;have W:ai b U:=(u.then C).then m;have X:=(a9.af m).part (lo:=n) (hi:=R) (cap:=c2) oM (Q4 _) b3;rw[Tm b2.symm]at X;rw[Qx];refine PC.ok (Fe (O.af W).pW X oM λP e=>by have:=l.aF P e;have:=m.size;omega) ?_;rintro _ I ⟨b0,n4,c4,F4,rfl,b4,z,c8⟩;have i:¬((bt (c.drop n)).no=0/\(bt (c.drop n)).kind=1/\(iZ (bt (c.drop n)).body).2=0)->∀d,ai I d->
   Ok (λB d=>∃o p q G,B= .tuple #[.slice o p q,WP ((bF c).2:Int)]/\aU wj 63 G d o p q (bF c).1/\ai b d/\(∀P,G P->b.heap.size<=P)/\(bF c).1.length<=262144) (.returned (.tuple #[.slice v w y,WP (n:Int)])) d:=by
  intro h d Y;rw[V,C_ h];refine Ok.mk ⟨v,w,y,G,sM,by simpa using(s.af z).af Y,(W.then z).then Y,λP e=>?_,by simp;omega⟩;have:=H P e;have:=(u.then C).size;omega
 refine⟨_,_,_,_,_,_,rfl,PA.mk λw5 k5 s5 g5=>?_⟩;refine storeAll [WP (bt (c.drop n)).kind,.slice b0 n4 c4] g5 rfl λJ k6 s6 Z=>?_;have t:ai I J:=k5.new k6 λP e=>.inr oM;refine al.eK (λk=>i (λh=>k h.1) J t) (λa0=>?_);refine⟨_,ae Z rfl,al.eK (λk=>i (λh=>k h.2.1) J t) (λb1=>?_)⟩;obtain⟨b5,h9,c9⟩:=wq a0;rw[XZ]at b5;have a1:=b4.af t;refine⟨_,_,_,ae Z rfl,PC.ok (Pp (a1.row (bytes:=1) dC (by unfold aR;omega)) a1.aF) ?_⟩;rintro _ w7 ⟨a7,n7,c7,F7,rfl,K,k7,a3⟩;obtain⟨L,a5⟩:=Tn (bt (c.drop n)).body;generalize M:iZ (bt (c.drop n)).body=b6 at K L a5;obtain⟨x,xe⟩:=b6;simp only at K L a5;refine⟨_,_,_,_,_,_,_,_,_,_,_,_,_,rfl,PA.mk λw8 k8 s8 g8=>?_⟩;refine storeAll (aI x a7 n7 c7) g8 rfl λA k9 s9 j=>?_;have a6:ai w7 A:=k8.new k9 λP e=>.inr oM;have a8:ai I A:=(t.then k7).then a6;refine al.eK (λk=>i (λh=>k (by have:=h.2.2;rw[M]at this;exact this)) A a8) (λb7=>?_);refine⟨_,_,_,_,_,_,_,_,_,_,_,_,ae j rfl,ae j rfl,ae j rfl,ae j rfl,ae j rfl,ae j rfl,ae j rfl,ae j rfl,ae j rfl,ae j rfl,?_⟩;have N:ai U A:=z.then a8;have b8:=s.af N;have a2:=K.af a6;have d0:=(z.then t).size;refine KS b8 KN (x:=x) (D:=F7) ⟨a7,n7,c7,F7,rfl,a2,λ_ h=>h,L,by unfold aR;omega⟩ (λP e=>⟨a2.aF P e,λhc=>?_⟩) (by unfold aR;omega) (by unfold maxLen;omega) λa' c' d1 F' b9 c0 c1 _=>?_
 ·have h1:=s.aF P (s.self P hc)
  have h2:=a3 P e;omega
 refine⟨_,_,_,rfl,_,?_,n+(bt (c.drop n)).n,g++[x],F',?_,oM,rfl,?_,by simp;omega,b9,?_,?_⟩
 ·omega
 ·rw[wrap_i64 (by unfold aM;omega)];omega
 ·rw[V,zr ⟨a0,b1,by rw[M];exact b7⟩,M,List.drop_drop]
  simp only[XQ,List.cons_append,List.nil_append,Nat.add_assoc]
 ·exact(m.then N).new c0 λP e=>.inr (H P (s.self P e))
 ·intro P e
  have hz:=(m.then N).size;have d2:=m.size;rcases c1 P e with h|h|h
  ·exact H P h
  ·have:=a3 P h;omega
  ·omega
end
section
open Go.ar
variable{A:FuncId}{e:Int}{d7:Int×ak}{u:List Int}{a c:Nat}{f:RK}{d:am}{b:World}
def bT{D:RK}(h:Row aP 8 b D d a u)(f:∀n,D n->n<b.heap.size):
  ba 92 #[.slice d a c] b (Ok (qI aP 3 b u)):=by
 have x:=h.len;have P:=h.fe;refine oU (k_ vr.under ⟨_,rfl,al.mk (λe=>?_) (λe=>PA.mk λj g y k=>?_)⟩)
 ·have:u=[]:=by
   cases d with
   |none=>
    cases u with
    |nil=>rfl
    |cons l z=>obtain⟨n,m,A,o,_⟩:=h.el 0 l rfl;cases o
   |some p=>cases e
  subst this;exact Ok.mk ⟨none,0,0,λ_=>False,rfl,aU.nil b,aj.refl _,λ_ h=>h.elim⟩
 ·cases d with
  |none=>cases e
  |some p=>
   have q:aU aP 3 (·=b.heap.size) j (L1 b.heap.size) 0 0 []:=
    ⟨⟨[],λ_=>False,Own.AW (cur:= #[]) k rfl (Qj _),rfl,λ_ h=>h.elim⟩,λn P=>by simpa[aG]using P.symm,λn P=>oM⟩
   refine lM q vr (D:=D) (h.af g) (λn P=>⟨by have:=f n P;omega,by have:=f n P;simp only[aG];intro r;cases r;omega⟩) (by simp;omega) (by unfold aR at P;unfold maxLen;simp;omega) λi s B C t v _ w=>?_;refine⟨_,_,_,rfl,Ok.mk ⟨i,_,s,λn=>aG i=some n,rfl,by have h:=t.alone;rw[List.nil_append]at h;exact h,g.new v λn P=>.inr ?_,λn P=>?_⟩⟩
   ·simp only[aG,Q1]at P;omega
   ·rcases w n P with h|h<;>omega
def eG(n:Int)(P:ByteArray):Int:=if(h_ P).2 then max n ((h_ P).1+1)else n
def tK(n:List ByteArray):Int:=n.foldl eG 1
def iz(D:ak):Int:=tK D.list
def FC(n:ByteArray):0<=(h_ n).1/\(h_ n).1<1000000000000:=by
 unfold h_;split
 ·rename_i a P
  have:=(CC P).2;simp;omega
 ·simp
def Hz(P:1<=e/\e<=1000000000000)(n:ByteArray):1<=eG e n/\eG e n<=1000000000000:=by
 have:=FC n;unfold eG;split<;>omega
def JK:∀(P:List ByteArray) (n:Int),(1<=n/\n<=1000000000000)->1<=P.foldl eG n/\P.foldl eG n<=1000000000000
 |[],n,a=>a
 |s::P,n,a=>JK P _ (Hz a s)
def sv(n:List ByteArray):1<=tK n/\tK n<=1000000000000:=JK n 1 oM
def JL{D:ak}(s:Laid b)(h:aV b a f D):
  ba 108 #[LL a] b (Ok λt d=>t= WP (iz D)/\ai b d):=by
 refine DT (PC.ok (yi h) ?_);rintro _ i ⟨u,c,z,G,rfl,j,k,A⟩;have B:D.list.length<=64:=by rw[oO];exact h.ok.many
 have C:=j.len dC;have v:Row Pk 16 i G u c D.list:=j.row dC (by unfold aR;omega);refine⟨_,_,_,rfl,λl m o d=>∃n:Nat,o=n/\n<=c/\l=c-n/\m=tK (D.list.take n)/\ai i d,⟨_,0,rfl,Qj _,rfl,rfl,aj.refl _⟩,?_⟩;rintro l m o _ E ⟨n,rfl,F,rfl,rfl,P⟩;refine al.dec (λH=>?_) (λI=>?_)
 ·obtain⟨w,e,p,rfl,x,_,y⟩:=(v.af P).ns (i:=n) oM
  refine⟨w,e,rfl,oM,oM,_,y,PC.ok (Bw (s.af (k.then P))) ?_⟩;rintro _ J ⟨rfl,q⟩;have K:=FC p;have L:=sv (D.list.take n);have r:tK (D.list.take (n+1))=eG (tK (D.list.take n)) p:=by
   unfold tK;rw[Qw,x,List.foldl_append];rfl
  refine⟨_,_,rfl,al.mk (λg=>⟨_,?_,n+1,aq oM,oM,rfl,?_,P.then q⟩) (λg=>⟨_,?_,n+1,aq oM,oM,rfl,?_,P.then q⟩)⟩
  ·omega
  ·rw[r,wrap_i64 (by unfold aM;omega)]
   unfold eG;rw[Zx g];split<;>omega
  ·omega
  ·rw[r];unfold eG;rw[Zq (by simp[g])]
 ·obtain rfl:n=c:=oM
  rw[Qz oM];exact Ok.mk ⟨rfl,k.then P⟩
structure dv where
 size:Int
 a_:List Int
 bytes:Int
 next:Int
structure jy (w:World) (p q:Nat) (G:RK) (V:dv):Prop where
 body:∃a n c E,w.heap[q]? =some (.cells #[LL p,WP V.size,.slice a n c,WP V.bytes,WP V.next] 209 (0,0))/\aU aP 3 E w a n c V.a_/\∀b,E b->G b/\b≠q
 self:G q
 aF:∀b,G b->b<w.heap.size
 many:V.a_.length<=64
 BV:aM V.next
section
variable {w0 w w1 w':World} {p q:Nat} {D D':ak} {V V':dv} {X Y G S:RK}
def jy.keep(P:jy w p q G V)(a:aj S w w')(c:∀n,G n->¬S n):jy w' p q G V:=by
 obtain⟨e,f,g,h,i,j,d⟩:=P.body;exact⟨⟨e,f,g,h,a.get i (c q P.self),j.keep a λn b=>c n (d n b).1,d⟩,P.self,λn b=>Qk (P.aF n b) a.size,P.many,P.BV⟩
def jy.af(n:jy w p q G V)(P:ai w w'):jy w' p q G V:=n.keep P λ_ _ n=>n
def cI(w0 w:World)(p q:Nat)(V:dv)(D:ak)(X:RK):Prop:=∃G,aY w0 w p D (λn=>X n\/G n)/\jy w p q G V/\∀n,G n->w0.heap.size<=n/\¬X n
def cI.gr(n:cI w0 w p q V D X):ai w0 w:=by obtain⟨G,P,a,b⟩:=n;exact P.gr
def cI.ok(n:cI w0 w p q V D X):D.Ok:=by obtain⟨G,P,a,b⟩:=n;exact P.ok
def cI.many(n:cI w0 w p q V D X):V.a_.length<=64:=by obtain⟨G,a,P,b⟩:=n;exact P.many
def cI.BV(n:cI w0 w p q V D X):aM V.next:=by obtain⟨G,a,P,b⟩:=n;exact P.BV
def cI.aF(P:cI w0 w p q V D X):∀n,X n->n<w.heap.size:=by obtain⟨G,⟨c,d,e,f,a⟩,g,h⟩:=P;exact λn b=>a n (.inl b)
def cI.aac(P:cI w0 w p q V D X):q<w.heap.size/\w0.heap.size<=q/\¬X q:=by obtain⟨G,b,n,a⟩:=P;exact⟨n.aF q n.self,a q n.self⟩
def cI.uR(n:cI w0 w p q V D X):aY w0 w p D X:=by obtain⟨G,P,b,c⟩:=n;exact P.mono λd a=>.inl a
def cI.af(P:cI w0 w p q V D X)(n:ai w w'):cI w0 w' p q V D X:=by
 obtain⟨G,a,b,c⟩:=P;exact⟨G,a.af n,b.af n,c⟩
def cI.mono(c:cI w0 w p q V D X)(a:∀n,Y n->X n):cI w0 w p q V D Y:=by
 obtain⟨G,d,e,b⟩:=c;exact⟨G,d.mono λn P=>P.imp (a n) id,e,λn P=>⟨(b n P).1,λf=>(b n P).2 (a n f)⟩⟩
def cI.add(e:cI w0 w p q V D X)(a:ai w w')(b:∀n,Y n->w.heap.size<=n/\n<w'.heap.size):cI w0 w' p q V D (λn=>X n\/Y n):=by
 obtain⟨G,f,c,d⟩:=e;refine⟨G,(f.add a b).mono λn P=>?_,c.af a,λn P=>⟨(d n P).1,λg=>g.elim (d n P).2 λh=>by have:=c.aF n P;have:=(b n h).1;omega⟩⟩;rcases P with(P|P)|P
 ·exact .inl (.inl P)
 ·exact .inr P
 ·exact .inl (.inr P)
def cI.other(f:cI w0 w p q V D X)(a:aj Y w w')(b:∀n,Y n->X n/\w0.heap.size<=n):cI w0 w' p q V D X:=by
 obtain⟨G,⟨g,h,i,d,j⟩,k,e⟩:=f;exact⟨G,⟨g,h.keep a λn P c=>(d n P).2 (.inl (b n c).1),i.new a λn P=>.inr (b n P).2,d,λn P=>Qk (j n P) a.size⟩,k.keep a λn P c=>(e n P).2 (b n c).1,e⟩
def cI.on{n:Array Value}(e:cI w0 w p q V D X)(f:∀b,(∀P,X P->b P)->aY w0 w p D b->ba A n w (Ok (od w0 w p b d7))):ba A n w (Ok λc w'=>c= WP d7.1/\cI w0 w' p q V d7.2 X/\aj (dX X) w w'):=by
 obtain⟨G,g,h,i⟩:=e;refine Calls.ok (f _ (λP a=>.inl a) g) ?_;rintro c w' ⟨j,k,d⟩;exact⟨j,⟨G,k,h.keep d λP a l=>l (.inr a),i⟩,d.mono λP _ a m=>a (.inl m)⟩
def dv.last(V:dv):ByteArray:=cH (ax (V.a_.getLast?.getD 0))
def jy.row(d:jy w p q G V):∃P n b a,w.heap[q]? =some (.cells #[LL p,WP V.size,.slice P n b,WP V.bytes,WP V.next] 209 (0,0))/\Row aP 8 w a P n V.a_/\(∀c,a c->G c/\c≠q)/\n=V.a_.length:=by
 obtain⟨P,n,b,a,f,e,g⟩:=d.body;have:=d.many;exact⟨P,n,b,a,f,e.row dC (by unfold aR;omega),g,e.len dC⟩
def JM(d:Laid w)(b:jy w p q G V)(e:V.a_≠[]):ba 206 #[LL q] w (Ok λf w'=>f= .string V.last/\ai w w'):=by
 obtain⟨u,P,v,x,g,h,y,i⟩:=b.row;have z:0<V.a_.length:=List.length_pos_iff.2 e;have A:=b.many;refine vH λw1 j=>?_;have n:ai w w1:=j.keep;have c:=n.get g id;have k:IntKind.wrap .i64 ((P:Int)-1)=((P-1:Nat):Int):=by rw[wrap_i64 (by unfold aM;omega)];omega
 obtain⟨l,a,m,rfl,o,r,s⟩:=(h.af n).ns (i:=P-1) oM;refine⟨q,0,rfl,_,_,_,ae c rfl,q,0,rfl,_,_,_,ae c rfl,l,a,rfl,?_⟩;rw[k];refine⟨oM,oM,m,s,PC.ok (kf (d.af n) r) ?_⟩;rintro _ B ⟨rfl,t⟩;refine⟨_,rfl,Ok.mk ⟨?_,n.then t⟩⟩;unfold dv.last;rw[List.getLast?_eq_getElem?,<-i,o];rfl
def JN(i:Laid w0)(f:cI w0 w p q V D X)(j:V.a_≠[]):ba 135 #[LL q] w (Ok λk w'=>k= WP (D.sync V.last).1/\cI w0 w' p q V (D.sync V.last).2 X/\aj (dX X) w w'):=by
 refine vE λw1 l=>?_;have c:ai w w1:=l.keep;have m:=f.af c;obtain⟨G,o,n,g⟩:=m;obtain⟨y,z,A,B,r,C,E,h⟩:=n.row;have F:=g q n.self;have H:=n.aF q n.self;refine⟨λa=>a≠q/\¬X a,q,0,rfl,λs=>s.1 rfl,_,ae r rfl,PC.ok (JM (i.af (f.gr.then c)) n j) ?_⟩;rintro _ I ⟨rfl,b⟩;have t:=n.af b;have u:=o.af b;refine⟨_,rfl,b.keep,PC.ok u.sync ?_⟩;rintro _ J ⟨rfl,v,d⟩;refine⟨_,rfl,d.mono λa _ P=>⟨λx=>P (.inr (x▸n.self)),λe=>P (.inl e)⟩,Ok.mk ⟨rfl,⟨G,v,t.keep d λa P h=>h (.inr P),g⟩,?_⟩⟩;exact(ai.keep (c.then b)).then (d.mono λa _ P e=>P (.inl e))
def Hf(n:jy w p q G V):ba 145 #[LL q] w (Ok (qI aP 3 w V.a_)):=by
 obtain⟨i,j,k,l,a,b,c,m⟩:=n.row;refine ql ⟨q,0,rfl,_,_,_,ae a rfl,PC.ok (bT b λP d=>n.aF P (c P d).1) ?_⟩;rintro _ w1 ⟨o,r,s,e,rfl,f,g,h⟩;exact⟨_,_,_,rfl,Ok.mk ⟨_,_,_,e,rfl,f,g,h⟩⟩
def RX(n:jy w p q G V):ba 144 #[LL q] w (Ok λP w'=>P= WP V.next/\w=w'):=by
 obtain⟨b,c,d,e,a,f,g,h⟩:=n.row;exact vG ⟨q,0,rfl,_,ae a rfl,Ok.mk ⟨rfl,rfl⟩⟩
end
end
end Go.Proofs.YtjgjkeponbeekaaGreatDoor
namespace Go.ar
open Go
def pP(n:Int×Int):Value:=.agg #[WP n.1,WP n.2]
def Du(n:Int×Int×Int):Value:=.agg #[WP n.1,WP n.2.1,WP n.2.2]
structure KK (P:Program) (t ti:TypeId):Prop where
 hu:P.underlying t=some (.struct (P.fieldsOf t))
 ui:P.underlying ti=some (.int .i64)
 hf:∃n1 n2,(P.fieldsOf t).toList.map (λf=>(f.name,f.type,f.offset))=[(n1,ti,0),(n2,ti,1)]/\n1≠ "_"/\n2≠ "_"
 hp:P.stoodInHeld t=false
 hm:P.eqGuardType P.depth t=false
 ag:uV P ti=false
variable{B T e l:Int}{Y a1:Operand}{q v:UX}{b:World}
section
variable {P:Program} {t ti:TypeId}
def KK.equalIn(a:KK P t ti)(e:Nat)(b c:Int×Int)(d:World):(Op.equalIn (e+2) t (pP b) (pP c)).run P d= .ok (b==c) d:=by
 obtain⟨v,w,n,f,g⟩:=a.hf;unfold pP;rw[run_equalIn_struct d (e+1) _ _ _ a.hu a.hp];generalize(P.fieldsOf t).toList=h at n
 match h,n with
 |[x,y],n=>
  simp only[QY,List.map_nil,List.cons.injEq,Prod.mk.injEq,and_true]at n;obtain⟨⟨i,j,k⟩,l,m,o⟩:=n;have p:(isAgg ti).run P d= .ok false d:=dI _ _ _ a.ag ⟨_,a.ui⟩ d;have q:=run_equalIn_int (P:=P) d e ti .i64 .i64 b.1 c.1 a.ui;have r:=run_equalIn_int (P:=P) d e ti .i64 .i64 b.2 c.2 a.ui;unfold Op.eqFields Op.eqFields Op.eqFields;rw[i,j,k,l,m,o];have s:(b==c)=(b.1==c.1&&b.2==c.2):=rfl;rw[s]
  cases a:b.1==c.1<;>simp[part,p,q,r,a,f,g]
  by_cases u:b.2=c.2<;>simp[u]
 |[],n=>simp at n
 |[_],n=>simp at n
 |_::_::_::_,n=>simp at n
def KK.eql(n:KK P t ti)(a:q (.bool (e==B&&l==T)) b):
  aK P (do eqGuard .eql t Y a1 (.agg #[WP e,WP l]) (.agg #[WP B,WP T]);binOp .eql t (.agg #[WP e,WP l]) (.agg #[WP B,WP T]):Sem Value) b q v:=by
 refine aK.mk (v:=.bool (e==B&&l==T)) ?_ a;rw[Sem.run_bind,run_eqGuard_agg b .eql _ Y a1 _ _ n.hm,Result.andThen_ok,run_eql_struct];have:=n.equalIn 9998 (e,l) (B,T) b;unfold pP at this;rw[this];rfl
def KK.neq(n:KK P t ti)(a:q (.bool (!(e==B&&l==T))) b):
  aK P (do eqGuard .neq t Y a1 (.agg #[WP e,WP l]) (.agg #[WP B,WP T]);binOp .neq t (.agg #[WP e,WP l]) (.agg #[WP B,WP T]):Sem Value) b q v:=by
 refine aK.mk (v:=.bool (!(e==B&&l==T))) ?_ a;rw[Sem.run_bind,run_eqGuard_agg b .neq _ Y a1 _ _ n.hm,Result.andThen_ok,run_neq_struct];have:=n.equalIn 9998 (e,l) (B,T) b;unfold pP at this;rw[this];rfl
def KK.check(b:KK P t ti)(d:Nat)(g:Int×Int)(a:World)(e:Bool):(Instr.checkKey e (d+2) t (pP g)).run P a= .ok () a:=by
 obtain⟨u,v,n,h,i⟩:=b.hf;have j:(isAgg ti).run P a= .ok false a:=dI _ _ _ b.ag ⟨_,b.ui⟩ a;have k:∀f:Int,(Instr.checkKey e (d+1) ti (WP f)).run P a= .ok () a:=λf=>by simp[Instr.checkKey,run_underlying b.ui]
 unfold pP;have l:=b.hu;unfold Instr.checkKey;rw[Sem.run_bind,run_underlying l,Result.andThen_ok];generalize w:P.fieldsOf t=c at n;obtain⟨c⟩:=c
 match c,n with
 |[x,y],n=>
  simp only[QY,List.map_nil,List.cons.injEq,Prod.mk.injEq,and_true]at n;obtain⟨⟨m,o,p⟩,q,r,s⟩:=n;simp[m,o,p,q,r,s,part,j,k,h,i]
 |[],n=>simp at n
 |[_],n=>simp at n
 |_::_::_::_,n=>simp at n
def KK.key(n:KK P t ti):jm P t pP:=
 jm.struct n.hu (λa b=>rfl) (λa b c=>n.equalIn 9998 a b c) (λd c e=>n.check 9998 d c e) (λf a=>by unfold pP;simp[Instr.sameBits]) λ{a b} n=>by
  unfold pP at n;simp only[Value.agg.injEq,Array.mk.injEq,List.cons.injEq,Value.int.injEq,and_true,true_and]at n;exact Prod.ext n.1 n.2
structure xd (P:Program) (t t2 ti:TypeId):Prop where
 two:KK P t2 ti
 hu:P.underlying t=some (.struct (P.fieldsOf t))
 hf:∃n1 n2,(P.fieldsOf t).toList.map (λf=>(f.name,f.type,f.offset))=[(n1,t2,0),(n2,ti,2)]/\n1≠ "_"/\n2≠ "_"
 hp:P.stoodInHeld t=false
 ag:uV P t2=true
 sz:(P.info? t2).map (·.size)=some 2
variable {t2:TypeId}
def xd.TA(b:xd P t t2 ti)(a:Int×Int×Int)(n:World):(part t2 #[WP a.1,WP a.2.1,WP a.2.2] 0).run P n= .ok (pP (a.1,a.2.1)) n:=by
 obtain⟨g,c,d⟩:=Option.map_eq_some_iff.1 b.sz;have e:(isAgg t2).run P n= .ok true n:=dI _ _ _ b.ag ⟨_,b.two.hu⟩ n;have f:(sizeOf t2).run P n= .ok 2 n:=by simp[sizeOf,typeInfo,c,d]
 unfold part;simp[e,f,pP]
def xd.equalIn(d:xd P t t2 ti)(f:Nat)(n a:Int×Int×Int)(b:World):(Op.equalIn (f+3) t (Du n) (Du a)).run P b= .ok (n==a) b:=by
 obtain⟨A,B,c,h,i⟩:=d.hf;have j:=d.TA n b;have k:=d.TA a b;have g:=d.two.equalIn f (n.1,n.2.1) (a.1,a.2.1) b;have m:=run_equalIn_int (P:=P) b (f+1) ti .i64 .i64 n.2.2 a.2.2 d.two.ui;have o:(isAgg ti).run P b= .ok false b:=dI _ _ _ d.two.ag ⟨_,d.two.ui⟩ b;unfold Du;rw[run_equalIn_struct b (f+2) _ _ _ d.hu d.hp];generalize(P.fieldsOf t).toList=p at c
 match p,c with
 |[C,E],c=>
  simp only[QY,List.map_nil,List.cons.injEq,Prod.mk.injEq,and_true]at c;obtain⟨⟨q,r,s⟩,u,v,w⟩:=c;unfold Op.eqFields Op.eqFields Op.eqFields;rw[q,r,s,u,v,w];have x:(n==a)=(((n.1,n.2.1):Int×Int)==(a.1,a.2.1)&&n.2.2==a.2.2):=by
   show(n.1==a.1&&(n.2.1==a.2.1&&n.2.2==a.2.2))=((n.1==a.1&&n.2.1==a.2.1)&&n.2.2==a.2.2);rw[Bool.and_assoc]
  rw[x];have y:∀e:Int×Int×Int,(part ti #[WP e.1,WP e.2.1,WP e.2.2] 2).run P b= .ok (WP e.2.2) b:=λe=>by simp[part,o]
  cases l:((n.1,n.2.1):Int×Int)==(a.1,a.2.1)with
  |false=>
   rw[l]at g;simp[j,k,g,h,i]
  |true=>
   rw[l]at g;simp[j,k,g,m,y,h,i]
   by_cases z:n.2.2=a.2.2<;>simp[z]
 |[],c=>simp at c
 |[_],c=>simp at c
 |_::_::_::_,c=>simp at c
def xd.check(c:xd P t t2 ti)(d:Nat)(b:Int×Int×Int)(n:World)(e:Bool):(Instr.checkKey e (d+3) t (Du b)).run P n= .ok () n:=by
 obtain⟨x,y,a,h,i⟩:=c.hf;have j:=c.TA b n;have k:(isAgg ti).run P n= .ok false n:=dI _ _ _ c.two.ag ⟨_,c.two.ui⟩ n;have l:∀g:Int,(Instr.checkKey e (d+2) ti (WP g)).run P n= .ok () n:=λg=>by simp[Instr.checkKey,run_underlying c.two.ui]
 have m:=c.two.check d (b.1,b.2.1) n e;have o:(part ti #[WP b.1,WP b.2.1,WP b.2.2] 2).run P n= .ok (WP b.2.2) n:=by simp[part,k]
 unfold Du;have p:=c.hu;rw[show d+3=(d+2)+1 from rfl];unfold Instr.checkKey;rw[Sem.run_bind,run_underlying p,Result.andThen_ok];generalize z:P.fieldsOf t=f at a;obtain⟨f⟩:=f
 match f,a with
 |[A,B],a=>
  simp only[QY,List.map_nil,List.cons.injEq,Prod.mk.injEq,and_true]at a;obtain⟨⟨q,r,s⟩,u,v,w⟩:=a;simp[q,r,s,u,v,w,j,o,m,l,h,i]
 |[],a=>simp at a
 |[_],a=>simp at a
 |_::_::_::_,a=>simp at a
def xd.key(n:xd P t t2 ti):jm P t Du:=
 jm.struct n.hu (λa b=>rfl) (λa b c=>n.equalIn 9997 a b c) (λd c e=>n.check 9997 d c e) (λf a=>by unfold Du;simp[Instr.sameBits]) λ{a b} n=>by
  unfold Du at n;simp only[Value.agg.injEq,Array.mk.injEq,List.cons.injEq,Value.int.injEq,and_true,true_and]at n;exact Prod.ext n.1 (Prod.ext n.2.1 n.2.2)
end
end Go.ar
namespace Go.Proofs.YtjgjkeponbeekaaGreatDoor
open Go.ar
abbrev FZ:Int×Int->Value:=pP
def Np:KK PP 46 3:=⟨kR,kR,⟨"Origin", "Seq",kR,dC,dC⟩,kR,kR,kR⟩
def YO:jm PP 46 FZ:=Np.key
abbrev sL:ah:=⟨0,0,0,[],0,0,0,0,0,0⟩
abbrev kN(n:ah)(P:am)(a b:Nat):Value:=.agg (aI n P a b).toArray
def To:mP PP 182 46 63 (kN sL none 0 0):=⟨kR,kR⟩
def lv{c:World}{D:RK}:∀{n:List Int} {cs:List Value},bL aP c D n cs↔cs=ints n/\∀x∈n,aM x
 |[],cs=>by simp[bL,ints]
 |x::n,cs=>by
  constructor
  ·rintro⟨g,h,rfl,⟨rfl,d⟩,e⟩
   obtain⟨rfl,f⟩:=lv.1 e;exact⟨rfl,λa P=>by rcases Q2.1 P with rfl|P;exact d;exact f a P⟩
  ·rintro⟨rfl,b⟩
   exact⟨[WP x],ints n,rfl,⟨rfl,b x (QV ..)⟩,lv.2 ⟨rfl,λa P=>b a (QJ _ P)⟩⟩
variable{e:Int}{u:List Int}{E a c i o:Nat}{f:RK}{d:am}{h:Program}{g r:TypeId}{x:Value}{b k:World}{z:ac}{m:ah}
def Tp(P:aU aP g f b d a c u)(m:i<u.length)(p:aM e)(q:d=some ⟨o,E,none⟩)(h:∀n,aU aP g f n d a c (u.set i e)->aj (λo=>aG d=some o) b n->n.heap.size=b.heap.size->z n):PS b ⟨o,E+i,none⟩ (WP e) z:=by
 obtain⟨cs,D,r,s,t⟩:=P.body;obtain⟨rfl,j⟩:=lv.1 s;refine r.set (m:=i) (by rw[jV];exact m) q λn v w l=>h n ⟨⟨_,D,v,lv.2 ⟨?_,?_⟩,t⟩,P.self,λo j=>by rw[l];exact P.aF o j⟩ w l
 ·unfold ints;rw[List.map_set]
 ·intro x k
  rcases List.mem_or_eq_of_mem_set k with k|rfl
  ·exact j x k
  ·exact p
def Vn(b:World)(D:RK)(c:Value)(n:ah):Prop:=∃P a d,c=kN n P a d/\Row aP 8 b D P a n.aN/\n.Ok
def Vn.keep{S D:RK}(P:Vn b D x m)(a:aj S b k)(c:∀n,D n->¬S n):Vn k D x m:=by
 obtain⟨d,e,f,g,h,i⟩:=P;exact⟨d,e,f,g,h.keep a c,i⟩
def Vn.mono{D n:RK}(a:Vn b D x m)(c:∀P,D P->n P):Vn b n x m:=by
 obtain⟨d,e,f,g,h,i⟩:=a;exact⟨d,e,f,g,h.mono c,i⟩
def CW:sL.Ok:=by constructor<;>simp[aM]
def nq{D:RK}(h:Row aP 8 b D d a m.aN)(u:∀n,D n->n<b.heap.size):
  ba 115 #[kN m d a c] b (Ok λv i=>∃d a c G,v=kN m d a c/\Row aP 8 i G d a m.aN/\(∀n,G n->b.heap.size<=n/\n<i.heap.size)/\ai b i):=by
 have w:=h.fe;have x:=h.len;refine zY (PA.mk λA o B e=>PA.mk λC f E j=>⟨_,_,_,ae (f.get e id) rfl,PC.ok (bT (h.af (o.then f)) λn P=>by have:=u n P;omega) ?_⟩);rintro _ F ⟨p,q,r,G,rfl,s,g,k⟩;have e:=g.get (f.get e id) id;have j:=g.get j id;refine⟨_,_,_,rfl,PS.mk e (by simp[aI]) λH l I y=>?_⟩;refine au (cs:=aI m p q r) (bh _ _ _ _) y (aD (bh _ _ _ _) (l.get j oM) rfl λJ t K z=>au (bh _ _ _ _) z (Ok.mk ⟨p,q,r,G,rfl,?_,?_,?_⟩))
 ·refine(((s.keep l λn P=>?_).keep t λn P=>?_).row (bytes:=8) dC (by rw[<-x];exact w))
  ·have:=k n P;omega
  ·have:=k n P;omega
 ·intro n P
  have:=k n P;have:=s.aF n P;omega
 ·have L:=g.size
  exact((aj.new ((o.then f).then g) l λn P=>.inr oM).new t λn P=>.inr oM)
structure Tq where
 a:am
 n:Nat
 c:Nat
 r:Nat
 V:RK
 D:RK
 l:List ((Int×Int)×Value)
 L:List ((Int×Int)×ah)
structure sh (w:World) (p:Nat) (F:RK) (S:aw) (q:Tq):Prop where
 at':w.heap[p]? =some (.cells #[.slice q.a q.n q.c,.map (some q.r),WP S.top] 184 (0,0))
 vec:aU aP 3 q.V w q.a q.n q.c S.vec
 map:bV w q.r FZ q.l
 rel:fH (Vn w q.D) q.l q.L
 key:∀x∈q.L,x.1=bd x.2
 Yu:(q.L.map (·.2)).Perm S.l
 aF:∀b,F b->b<w.heap.size
 sub:∀b,b=p\/b=q.r\/q.V b\/q.D b->F b
 Yv:p≠q.r
 Xo:¬q.V p/\¬q.V q.r
 Yw:¬q.D p/\¬q.D q.r
 ap4:∀b,q.V b->¬q.D b
def cM(P:World)(a:Nat)(b:RK)(n:aw):Prop:=n.OK/\∃c,sh P a b n c
section
variable {w w' w1:World} {p:Nat} {F T:RK} {S:aw} {q:Tq}
def sh.keep(n:sh w p F S q)(a:aj T w w')(c:∀P,F P->¬T P):sh w' p F S q:=
 ⟨a.get n.at' (c p (n.sub p (.inl rfl))),n.vec.keep a λP b=>c P (n.sub P (.inr (.inr (.inl b)))),n.map.keep a (c _ (n.sub _ (.inr (.inl rfl)))),
  n.rel.mono λe f d=>d.keep a λP b=>c P (n.sub P (.inr (.inr (.inr b)))),n.key,n.Yu,λP b=>Qk (n.aF P b) a.size,n.sub,n.Yv,n.Xo,n.Yw,n.ap4⟩
def sh.af(n:sh w p F S q)(P:ai w w'):sh w' p F S q:=n.keep P λ_ _ n=>n
def cM.keep(n:cM w p F S)(a:aj T w w')(b:∀P,F P->¬T P):cM w' p F S:=⟨n.1,n.2.imp λq c=>c.keep a b⟩
def cM.af(n:cM w p F S)(P:ai w w'):cM w' p F S:=n.keep P λ_ _ n=>n
def cM.aF(P:cM w p F S):∀n,F n->n<w.heap.size:=P.2.elim λq a=>a.aF
def sh.tidy(n:sh w p F S q):Tidy q.L:=by
 have:=n.map.tidy;unfold Tidy at*;rw[<-n.rel.keys];exact this
def sh.len(n:sh w p F S q):q.n=S.n:=by rw[n.vec.len dC,S.bU]
def sh.Yx(n:sh w p F S q)(P:S.OK):Row aP 8 w q.V q.a q.n S.vec:=n.vec.row dC (by rw[S.bU];have:=P.n;unfold aR;omega)
def sh.look(P:sh w p F S q)(c:S.OK)(n:Int×Int):(an q.l n=none/\S.get n=none)\/∃a b,an q.l n=some a/\S.get n=some b/\Vn w q.D a b:=by
 rw[<-KA c P.key P.Yu P.tidy n];exact P.rel.an n
def mu(n:cM w p F S):ba 58 #[LL p] w (Ok (qI aP 3 w S.vec)):=by
 obtain⟨P,q,n⟩:=n;refine xA ⟨p,0,rfl,_,_,_,ae n.at' rfl,PC.ok (bT (n.Yx P) λa b=>n.vec.aF a b) ?_⟩;rintro _ i ⟨c,d,e,G,rfl,f,g,h⟩;exact⟨_,_,_,rfl,Ok.mk ⟨c,d,e,G,rfl,f,g,h⟩⟩
def HV(n:cM w p F S):ba 133 #[LL p] w (Ok λP w'=>P= WP S.top/\w=w'):=by
 obtain⟨a,q,n⟩:=n;exact xC ⟨p,0,rfl,_,ae n.at' rfl,Ok.mk ⟨rfl,rfl⟩⟩
def Ts(r:cM w p F S){D:RK}(s:Row aP 8 w D d a m.aN)(he:m.Ok)(hn:m.aN.length=S.n){o:Nat}(ho:o<S.n):
  ba 114 #[LL p,kN m d a c,WP (o:Int)] w (Ok λj w'=>j= .bool (S.mR m o)/\ai w w'):=by
 obtain⟨t,q,r⟩:=r;have b1:=s.len;have hN:=t.n;refine vF (PA.mk λw1 h s1 L=>?_);have Z:=s.af h;obtain⟨u,v,f,ha,hx,-,hc⟩:=Z.ns (i:=o) oM;have M:m.aN.getD o 0=f:=by rw[QQ,hx];rfl
 refine⟨_,_,_,ae L rfl,u,v,ha,oM,oM,f,hc,al.eH (λx=>Ok.mk ⟨?_,h⟩) (λx=>?_)⟩
 ·unfold aw.mR;simp only[M,x];rfl
 have y:=r.af h;have b:∀{z:Bool} {w':World},ai w w'->(match S.get (o,f)with
  |none=>false
  |some P=>decide (P.aB<m.aB)&&(List.range P.aN.length).all λi=>decide (P.aN.getD i 0<=m.aN.getD i 0))=z->Ok (λj w'=>j= .bool (S.mR m o)/\ai w w') (.returned (.bool z)) w':=λ{z w'} hg hy=>by
  refine Ok.mk ⟨?_,hg⟩;unfold aw.mR;simp only[M];rw[<-hy,show(f==0)=false by simpa using x]
  rfl
 refine⟨p,0,rfl,_,ae y.at' rfl,jE (enc:=FZ) (k:=((o:Int),f)) To YO y.map ?_⟩;rcases y.look t (o,f)with⟨A,g⟩|⟨j,P,A,g,N,k,O,rfl,a0,b2⟩
 ·rw[A]
  refine cz (sI sL none 0 0) ⟨_,rfl,PA.mk λw2 B s2 C=>aD (bh sL none 0 0) C rfl λE H s3 I=>al.tt rfl (b (h.then ((B.then (aj.refl _)).new H λu hb=>.inr oM)) ?_)⟩;rw[g]
 ·rw[A]
  refine cz (sI P N k O) ⟨_,rfl,PA.mk λw2 B s2 C=>aD (bh P N k O) C rfl λE H s3 I=>al.ff rfl ?_⟩;have J:ai w1 E:=(B.then (aj.refl _)).new H λu hb=>.inr oM;have l:=h.then J;have Q:=J.get L id;have a1:=aw.get_some g;have b3:P.aN.length=S.n:=by have:=nK (t.YH P a1.1);omega
  refine⟨_,ae I rfl,_,ae Q rfl,al.dec (λhl=>b l ?_) (λhl=>?_)⟩
  ·rw[g]
   simp only[Bool.and_eq_false_iff,decide_eq_false_iff_not];left;omega
  have a2:=s.af l;have R:=a0.af J;have b6:=R.len;refine⟨_,_,_,ae I rfl,λT i w'=>∃n:Nat,i=n/\n<=k/\T=k-n/\(∀e,e<n->P.aN.getD e 0<=m.aN.getD e 0)/\E=w',⟨_,0,rfl,Qj _,rfl,λe K=>oM,rfl⟩,?_⟩;rintro T i _ _ ⟨n,rfl,hj,rfl,U,rfl⟩;refine al.dec (λb7=>?_) (λb8=>?_)
  ·obtain⟨b4,o4,V,a3,a4,-,a5⟩:=R.ns (i:=n) oM
   obtain⟨b5,o5,W,a6,a7,-,a8⟩:=a2.ns (i:=n) oM;have X:P.aN.getD n 0=V:=by rw[QQ,a4];rfl
   have Y:m.aN.getD n 0=W:=by rw[QQ,a7];rfl
   refine⟨b4,o4,a3,oM,oM,V,a5,_,_,_,ae Q rfl,b5,o5,a6,oM,oM,W,a8,al.dec (λa9=>b l ?_) (λb9=>?_)⟩
   ·rw[g]
    simp only[Bool.and_eq_false_iff];right;rw[List.all_eq_false];exact⟨n,by simp;omega,by rw[X,Y];simpa using a9⟩
   ·refine⟨_,oM,n+1,aq oM,oM,rfl,λe K=>?_,rfl⟩
    by_cases b0:e=n
    ·subst b0;rw[X,Y];omega
    ·exact U e oM
  ·refine b l ?_
   rw[g];simp only[QK,ZY,Zk];exact⟨oM,λe K=>U e (by simp at K;omega)⟩
def TS(d:cM w p F S)(j:Int×Int):
  ba 301 #[LL p,FZ j] w (Ok λz w'=>∃b c e G,z= .tuple #[kN ((S.get j).getD sL) b c e,.bool (S.get j).isSome]/\Row aP 8 w' G b c ((S.get j).getD sL).aN/\(∀n,G n->w.heap.size<=n/\n<w'.heap.size)/\ai w w'):=by
 obtain⟨L,q,d⟩:=d;obtain⟨h,i⟩:=j;refine xO (PA.mk λw1 M s1 k=>PA.mk λA B s2 u=>λl C=>?_);have v:ai A l:=C.keep;have s3:l.heap.size=A.heap.size:=by rw[C.heap]
 have k:=v.get (B.get k id) id;have u:=v.get u id;have E:=(M.then B).then v;have x:=d.af E;have a2:=d.map.lt;have a3:=aA d.at';obtain⟨a,b,c,e,n,f,g,H,N,O⟩:∃(a:ah) (b:am) (c e:Nat) (n:Bool),(an q.l (h,i)).getD (kN sL none 0 0)=kN a b c e/\(an q.l (h,i)).isSome=n/\(S.get (h,i)).getD sL=a/\(S.get (h,i)).isSome=n/\Row aP 8 l q.D b c a.aN:=by
  rcases x.look L (h,i)with⟨f,g⟩|⟨z,Q,f,g,R,T,U,rfl,V,a4⟩
  ·exact⟨sL,none,0,0,false,by rw[f];rfl,by rw[f];rfl,by rw[g];rfl,by rw[g];rfl,Row.nil _ _⟩
  ·exact⟨Q,R,T,U,true,by rw[f];rfl,by rw[f];rfl,by rw[g];rfl,by rw[g];rfl,V⟩
 have I:∀n,q.D n->n<w.heap.size:=λn P=>d.aF n (d.sub n (.inr (.inr (.inr P))));refine⟨λn=>n=l.heap.size,p,0,rfl,oM,_,ae x.at' rfl,oM,_,_,ae k rfl,ae k rfl,cz (sI a b c e) ⟨n,λw' W=>?_,PA.mk λw4 m s4 X=>⟨ai.keep m,aD (bh a b c e) X rfl λw5 o s5 Y=>⟨o,?_⟩⟩⟩⟩
 ·have:=eN To YO (x.map.keep W oM) (h,i) true
  rw[f,g]at this;exact this
 have Z:=(O.af m).keep o λn P hn=>by have:=I n P;omega
 refine au (bh a b c e) Y (PC.ok (nq Z λn P=>by have:=I n P;omega) ?_);rintro _ w6 ⟨r,s,t,G,rfl,a0,J,y⟩;have a1:=y.get (o.get (m.get u id) oM) id;have z6:=y.size;refine cz (sI a r s t) ⟨rfl,aD (bh a r s t) a1 rfl λw7 K s7 g7=>au (bh a r s t) g7 (Ok.mk ⟨r,s,t,G,by rw[H,N],?_,?_,?_⟩)⟩
 ·rw[H];exact a0.keep K λn P hn=>by have:=J n P;omega
 ·intro n P;have:=J n P;omega
 ·exact(((E.then m).new o λn P=>.inr oM).then y).new K λn P=>.inr oM
end
section
variable {w w' w1:World} {p:Nat} {F T:RK} {S:aw} {q:Tq}
def Et{S:aw}:((List.range a).any λn=>!S.mR m n)=false↔∀n,n<a->S.mR m n=true:=by
 simp[List.any_eq_false]
def vm(b:cM w p F S){e:ah}{D:RK}(A:Row aP 8 w D d a e.aN)(hD:∀n,D n->n<w.heap.size/\¬F n)(he:e.Ok)(hl:S.l.length<4611686018427387904):
  ba 74 #[LL p,kN e d a c] w (Ok λB w'=>B= WP (S.add e).1/\∃C,cM w' p C (S.add e).2/\cy F w C w'):=by
 have fN:=b;obtain⟨E,q,b⟩:=b;have hN:=E.n;have b2:=b.len;have j0:=aA b.at';have j1:=b.map.lt;have d5:=b.Yx E;have f:∀{no:Int} {w':World},ai w w'->S.add e=(no,S)->Ok (λB w'=>B= WP (S.add e).1/\∃C,cM w' p C (S.add e).2/\cy F w C w') (.returned (WP no)) w':=λ{no w'} hg ha=>by
  refine Ok.mk ⟨by rw[ha],F,?_,ai.keep hg,λn P=>.inl P⟩;rw[ha];exact fN.af hg
 refine xB (PA.mk λw1 k1 s1 g1=>λw2 d2=>?_);have k2:ai w1 w2:=d2.keep;have s2:w2.heap.size=w1.heap.size:=by rw[d2.heap]
 have N:=k1.then k2;have g2:=k2.get g1 id;have h5:=b.af N;refine au (bh e d a c) g2 ⟨p,0,rfl,_,_,_,ae h5.at' rfl,PC.ok (yQ (A.af N) (by rw[b2];omega)) ?_⟩;rintro _ w3 ⟨rfl,O⟩;rw[b2];refine⟨_,rfl,al.eK (λH=>f (N.then O) ?_) (λQ=>?_)⟩
 ·rw[aw.add_def,Zx H]
 obtain⟨c1,c4,c3,c5,c6,c7,c8,c9,f0,j2⟩:=nK Q;obtain⟨o,m⟩:∃o:Nat,e.origin=o:=⟨e.origin.toNat,oM⟩
 have I:o<S.n:=oM
 intro w4 d4;have k4:ai w3 w4:=d4.keep;have s4:w4.heap.size=w3.heap.size:=by rw[d4.heap]
 have d6:=(N.then O).then k4;have z3:=O.size;have g4:=k4.get (O.get g2 id) id;have b3:=b.af d6;obtain⟨r,a5,n5,d8,n,l,J,h⟩:∃(r:ah) (d:am) (a c:Nat) (n:Bool),(an q.l (bd e)).getD (kN sL none 0 0)=kN r d a c/\(an q.l (bd e)).isSome=n/\(S.get (bd e)).isSome=n:=by
  rcases b3.look E (bd e)with⟨l,J⟩|⟨B,a0,l,J,b8,n3,c3,rfl,j3,j4⟩
  ·exact⟨sL,none,0,0,false,by rw[l];rfl,by rw[l];rfl,by rw[J];rfl⟩
  ·exact⟨a0,b8,n3,c3,true,by rw[l];rfl,by rw[l];rfl,by rw[J];rfl⟩
 refine⟨λn=>n=w4.heap.size,p,0,rfl,oM,_,ae b3.at' rfl,oM,_,_,ae g4 rfl,ae g4 rfl,cz (sI r a5 n5 d8) ⟨n,λw' K=>?_,PA.mk λw5 k5 s5 g5=>⟨ai.keep k5,aD (bh r a5 n5 d8) g5 rfl λw6 k6 s6 g6=>⟨k6,?_⟩⟩⟩⟩
 ·have:=eN To YO (b3.map.keep K oM) (bd e) true
  rw[l,J]at this;exact this
 have R:ai w w6:=(d6.then k5).new k6 λn P=>.inr oM;have b4:=k6.get (k5.get g4 id) oM;have h6:=b.af R;refine al.mk (λs=>f R ?_) (λhf=>?_)
 ·rw[aw.add_def,Zq (by simpa using Q),Zx (by rw[h,s])]
 obtain⟨c0,o8,x8,h7,d9,-,h8⟩:=(d5.af R).ns (i:=o) oM;have e0:x8=(S.GB o:Int):=by rw[S.pD I]at d9;exact(XJ d9).symm
 subst e0;have j5:=S.Te o;refine⟨_,ae b4 rfl,p,0,rfl,_,_,_,ae h6.at' rfl,_,ae b4 rfl,c0,o8,h7,c1,oM,_,by rw[m];exact h8,λw7 d7=>?_⟩;have k7:ai w6 w7:=d7.keep;have s7:w7.heap.size=w6.heap.size:=by rw[d7.heap]
 have b5:=R.then k7;rw[aq oM];refine al.eK (λH=>f b5 ?_) (λe1=>?_)
 ·rw[aw.add_def,Zq (by simpa using Q),Zq (by rw[h,hf];simp),Zx]
  rw[m,Qx,S.vu I];simpa using H
 have h9:=b.af b5;have i0:=k7.get b4 id;have c2:e.seq=S.vec.getD e.origin.toNat 0+1:=by rw[m,Qx,S.vu I];simpa using e1
 have j:∀{a1:Int×aw},(if(List.range S.n).any λo=>!S.mR e o then((9:Int),S)else(0,⟨S.n,dN e S.l⟩))=a1->S.add e=a1:=λ{a1} A=>by
  rw[aw.add_def,Zq (by simpa using Q),Zq (by rw[h,hf];simp),Zq (by simpa using c2)];exact A
 refine⟨p,0,rfl,_,_,_,ae h9.at' rfl,λa3 i w'=>∃g:Nat,i=g/\g<=S.n/\a3=S.n-g/\(∀k,k<g->S.mR e k=true)/\ai w7 w',⟨_,0,rfl,Qj _,rfl,λk s=>oM,aj.refl _⟩,?_⟩;rintro a3 i _ w8 ⟨g,rfl,hj,rfl,a4,T⟩;have U:=b5.then T;have e2:=T.get i0 id;have z8:=T.size;rw[b2];refine al.dec (λj6=>?_) (λj7=>?_)
 ·refine au (bh e d a c) e2 (PC.ok (Ts (fN.af U) (A.af U) he oM (o:=g) oM) ?_)
  rintro _ w9 ⟨rfl,k9⟩;refine⟨_,rfl,al.not (al.mk (λK=>?_) (λK=>f (U.then k9) (j (Zx ?_))))⟩
  ·refine⟨_,oM,g+1,aq oM,oM,rfl,λk s=>?_,T.then k9⟩
   by_cases i1:k=g
   ·rw[i1];exact K
   ·exact a4 k oM
  ·rw[List.any_eq_true]
   exact⟨g,by simp;omega,by rw[K];rfl⟩
 ·have a6:=j (Zq (by rw[Bool.not_eq_true,Et];intro k s;exact a4 k oM))
  intro e3 e4;have e5:ai w8 e3:=e4.keep;have j8:e3.heap.size=w8.heap.size:=by rw[e4.heap]
  have L:=U.then e5;have V:=e5.get e2 id;have e6:=b.af L;have i2:=(A.af L)
  refine⟨λn=>n=q.r,p,0,rfl,b.Yv,_,ae e6.at' rfl,oM,_,_,ae V rfl,ae V rfl,au (bh e d a c) V (PC.ok (nq i2 λn P=>by have:=(hD n P).1;have:=L.size;omega) ?_)⟩;rintro _ i3 ⟨b7,b9,d0,G,rfl,e7,hG,W⟩;have a7:=L.then W;have X:=b.af a7;have i9:=L.size;refine cz (sI e b7 b9 d0) ⟨rfl,ai.keep W,dB (enc:=FZ) (k:=bd e) To YO X.map λe8 e9 t j9=>⟨t,λf2 f4=>?_⟩⟩;have u:ai e8 f2:=f4.keep;have k0:f2.heap.size=e8.heap.size:=by rw[f4.heap]
  have a8:=u.get (t.get X.at' b.Yv) id;have a9:=u.get (t.get (W.get V id) oM) id;have b0:=(X.vec.keep t λn P e=>b.Xo.2 (e▸P)).af u;obtain⟨f5,f6,i4,a2,b1,-,f8⟩:=(b0.row (bytes:=8) dC (by rw[S.bU];unfold aR;omega)).ns (i:=o) oM;have d1:i4=(S.GB o:Int):=by rw[S.pD I]at b1;exact(XJ b1).symm
  subst d1;refine⟨p,0,rfl,_,_,_,ae a8 rfl,_,ae a9 rfl,f5,f6,a2,c1,oM,_,by rw[m];exact f8,f5,f6,a2,c1,oM,?_⟩;rw[m,Qx,aq oM];refine Tp b0 (by rw[S.bU];exact I) (by unfold aM;omega) a2 λg0 g3 M l0=>λg7 g8=>?_;have v:ai g0 g7:=g8.keep;have l3:g7.heap.size=g0.heap.size:=by rw[g8.heap]
  have x:∀n,aG q.a=some n->q.V n:=λn P=>b.vec.self n P;have i5:¬aG q.a=some p:=λe=>b.Xo.1 (x p e);have i6:¬aG q.a=some w.heap.size:=λe=>by have:=b.vec.aF _ (x _ e);omega
  have b6:=v.get (M.get a8 i5) id;have g9:=v.get (M.get a9 i6) id;refine⟨p,0,rfl,_,ae b6 rfl,_,ae g9 rfl,p,0,rfl,PS.mk b6 sM λh3 Y l4 i7=>?_⟩;have l5:=W.size;have i8:¬aG q.a=some q.r:=λe=>b.Xo.2 (x _ e);refine Ok.mk ⟨by rw[a6],λn=>F n\/G n,?_,?_,?_⟩
  rotate_left
  ·have Z:aj F w h3:=((((ai.keep a7).then (t.mono λn _ P=>b.sub n (.inr (.inl P)))).then (ai.keep u)).then ((M.mono λn _ P=>b.sub n (.inr (.inr (.inl (x n P))))).then (ai.keep v))).then (Y.mono λn _ P=>b.sub n (.inl P))
   exact Z
  ·intro n P;rcases P with P|P
   ·exact .inl P
   ·exact .inr (by have:=hG n P;omega)
  have h4:=(aw.AV E he).1;rw[a6]at h4⊢;have y:∀n,G n->n≠p/\n≠q.r/\¬q.V n:=λn P=>by
   have:=hG n P;refine⟨oM,oM,λhv=>?_⟩;have:=b.vec.aF n hv;omega
  refine⟨h4,⟨q.a,q.n,q.c,q.r,q.V,λn=>q.D n\/G n,aJ q.l (bd e) (kN e b7 b9 d0),aJ q.L (bd e) e⟩,?_,?_,?_,?_,?_,?_,?_,?_,b.Yv,b.Xo,?_,?_⟩
  ·have s:(if e.aB>S.top then e.aB else S.top)=max S.top e.aB:=by split<;>omega
   rw[i7,aw.Vo,<-s];rfl
  ·rw[show aw.vec ⟨S.n,dN e S.l⟩=S.vec.set o ((S.GB o+1:Nat):Int) by rw[aw.Vp S e m];simp]
   exact(g3.af v).keep Y λn P e=>b.Xo.1 (e▸P)
  ·exact(((e9.af u).keep M i8).af v).keep Y λe=>b.Yv e.symm
  ·have Z:aj (λn=>n=q.r\/aG q.a=some n\/n=p) i3 h3:=((t.mono λn _ P=>.inl P).then (ai.keep u)).then (((M.mono λn _ P=>.inr (.inl P)).then (ai.keep v)).then (Y.mono λn _ P=>.inr (.inr P)))
   have hd:∀n,q.D n\/G n->¬(n=q.r\/aG q.a=some n\/n=p):=by
    rintro n (P|P) (e|e|e)
    ·exact b.Yw.2 (e▸P)
    ·exact b.ap4 n (x n e) P
    ·exact b.Yw.1 (e▸P)
    ·exact(y n P).2.1 e
    ·exact(y n P).2.2 (x n e)
    ·exact(y n P).1 e
   refine fH.aJ ⟨b7,b9,d0,rfl,(e7.mono λn P=>.inr P).keep Z hd,he⟩ (X.rel.mono λB f1 hu=>(hu.mono λn P=>.inl P).keep Z hd)
  ·intro r h
   rcases fE h with rfl|h
   ·rfl
   ·exact b.key r h
  ·have d3:an q.L (bd e)=none:=by
    rw[KA E b.key b.Yu b.tidy];have:=h.trans hf;simpa using this
   have:∀z:List ((Int×Int)×ah),an z (bd e)=none->aJ z (bd e) e=z++[(bd e,e)]:=by
    intro z
    induction z with
    |nil=>intro _;rfl
    |cons a0 z ih=>
     intro hL;obtain⟨y1,y2⟩:=a0;unfold an at hL;unfold aJ;split at hL
     ·cases hL
     ·rename_i H
      rw[Zq H,ih hL];rfl
   rw[this _ d3,Q3];exact(List.perm_append_comm.trans (List.Perm.cons e b.Yu)).trans (cN e S.l).symm
  ·intro n P
   rcases P with P|P
   ·have:=b.aF n P;omega
   ·have:=hG n P;omega
  ·rintro n (P|P|P|P|P)
   ·exact .inl (b.sub n (.inl P))
   ·exact .inl (b.sub n (.inr (.inl P)))
   ·exact .inl (b.sub n (.inr (.inr (.inl P))))
   ·exact .inl (b.sub n (.inr (.inr (.inr P))))
   ·exact .inr P
  ·refine⟨?_,?_⟩
   ·rintro(P|P)
    ·exact b.Yw.1 P
    ·exact(y _ P).1 rfl
   ·rintro(P|P)
    ·exact b.Yw.2 P
    ·exact(y _ P).2.1 rfl
  ·rintro n hv (P|P)
   ·exact b.ap4 n hv P
   ·exact(y _ P).2.2 hv
def Vq(d:kv h g r 1 8)(P:(h.info? r).bind (·.zero)=some (WP 0))(e:a<=c)(n:c*8<=aR){w:World}{f l:UX}(b:∀w',aU aP r (·=w.heap.size) w' (L1 w.heap.size) a c (List.replicate a 0)->ai w w'->w'.heap.size=w.heap.size+1->f (.slice (L1 w.heap.size) a c) w'):
  aK h (Instr.makeSlice g (WP (a:Int)) (WP (c:Int))) w f l:=by
 unfold aR at n;obtain⟨m,o,i,j,p,q,y⟩:=d.info;have s:o= WP 0:=by
  rw[i]at P;simp only[Option.bind_some,j]at P;exact XJ P
 subst s;have k:=run_make (P:=h) w g r m _ d.under i j .i64 .i64 a c oM oM (by rw[q];omega) oM;rw[Qx,Qx,p,Nat.mul_one]at k;have t:ai w (w.alloc (.cells (madeCells (Value.int .i64 0).cells c) r)):=aj.alloc w _;have u:(madeCells (Value.int .i64 0).cells c).toList=List.replicate c (WP 0):=by
  unfold madeCells;rw[Array.toList_map];apply List.ext_getElem
  ·simp
  ·intro z A B
   simp[Value.cells,Nat.mod_one]
 refine aK.mk k (b _ ⟨⟨List.replicate a (WP 0),λ_=>False,⟨⟨by simp[aP,flat],.inr ⟨w.heap.size,c,_,rfl,Qj _,heap_alloc_new w _,e,by unfold maxLen;omega,by simp[size_madeCells,aP,flat],?_⟩⟩⟩,?_,λ_ b=>b.elim⟩,λv n=>by simpa[aG]using n.symm,λv n=>by subst n;simp⟩ t sM)
 ·rw[u]
  simp only[aP,flat,Nat.mul_one,List.take_replicate];rw[X2 e]
 ·exact lv.2 ⟨by simp[ints],λC x=>by rw[List.eq_of_mem_replicate x];simp[aM]⟩
def Gv(f:a<=64):ba 71 #[WP (a:Int)] w (Ok λg w'=>∃p F,g= LL p/\cM w' p F ⟨a,[]⟩/\(∀n,F n->w.heap.size<=n)/\ai w w'):=by
 refine GS (Vq vr kR (Q4 _) (by unfold aR;omega) λw1 h i r=>⟨_,_,_,rfl,PA.mk λd e s j=>PA.mk λk b t l=>Ok.mk ⟨_,λn=>w.heap.size<=n/\n<k.heap.size,rfl,⟨aw.tU f,⟨_,a,a,w1.heap.size,(·=w.heap.size),λ_=>False,[],[]⟩,l,?_,bV.new (b.get j id),trivial,sM,List.Perm.refl _,λn P=>P.2,?_,by show d.heap.size≠w1.heap.size;omega,⟨by show d.heap.size≠_;omega,by show w1.heap.size≠_;omega⟩,⟨id,id⟩,λ_ _ m=>m⟩,λn P=>P.1,(i.then e).then b⟩⟩)
 ·have o:aw.vec ⟨a,[]⟩=List.replicate a 0:=by
   apply X3;intro q
   by_cases c:q<a
   ·rw[aw.pD ⟨a,[]⟩ c];simp[c,aw.GB]
   ·rw[Q7 (by rw[aw.bU];exact Nat.le_of_not_lt c),Q7 (by simp;omega)]
  rw[o];exact(h.af e).af b
 ·rintro n (rfl|rfl|rfl|P)
  ·show _/\_;omega
  ·show _<=w1.heap.size/\w1.heap.size<_;omega
  ·omega
  ·exact P.elim
end
end Go.Proofs.YtjgjkeponbeekaaGreatDoor
namespace Go.ar
open Go
abbrev FW(n:Option Nat):Fence:={Fence.wide with round:=n}
variable{K:Act}{V:Array Oper}{p:Array Value}{J:Bool}{h6 h7:Bool->ac}{a2:Code}{t:UV}{f2:Exit}{d9:Exit->Act->ac}{a7:Func}{A:FuncId}{b9:List Nat}{a4 f1:List Value}{a c i:Nat}{f:RK}{d2:Obj}{R:Oper}{Y:Operand}{f0:Operand->Value}{d3:Option Nat}{h:Program}{q:UX}{b k:World}{O:cW}{W:cm}{e9:gE}{c8:je}
def u_:CallsIn (FW d3) a h A p b t↔Calls h A p b t:=
 ⟨λn=>callsIn_wide.1 (show CallsIn Fence.wide a h A p b t from n),λn=>show CallsIn (FW d3) a h A p b t from(callsIn_wide (n:=a)).2 n⟩
def Vh(n:Nat):(FW d3).room n:=λ_ P=>by simp[Fence.wide]at P
def Qh{n:String}(P:Rows h n p b q):RowsIn (FW d3) a h n p b q:=by
 intro c cs _;obtain⟨d,e,f,g⟩:=P c cs;exact⟨d,e,f,(stepsIn_wide (P:=h)).2 g⟩
def wX(n:Oper):Bool:=match n.op with
 | .defer _=>false
 |_=>true
def wX.out(n:wX R=true):∀P,R.op≠.defer P:=by
 intro P a;unfold wX at n;rw[a]at n;cases n
section
variable {P:Program} {ro:Option Nat} {n:Nat}
def Oi{next:Act->ac}(d:ro=none\/wX R=true)(a:R.wp P K b next d9):R.wpIn (FW ro) n P K b next d9:=by
 refine⟨λ_ _=>trivial,?_⟩;have f:R.semAt (FW ro).round K.eval=execOp K.eval R:=by
  rcases d with rfl|d
  ·rfl
  ·exact Oper.semAt_eq _ _ _ (wX.out d)
 rw[f];unfold Oper.wp at a;generalize(execOp K.eval R).run P b=g at a⊢
 cases g with
 |ok e h=>
  cases e with
  |value i=>exact a
  |skip=>exact a
  |defer j=>exact a
  |enter k c=>exact⟨λa=>by simp[Fence.wide]at a,u_.2 a⟩
  |row row c=>exact⟨λa=>by simp[Fence.wide]at a,Qh a⟩
  |_=>exact a.elim
 |halt e h=>cases e<;>first|exact a|exact a.elim
def sf{b:Array Oper}{g:Exit->Act->ac}(h:∀d c,¬g .outgrown d c)(e:ro=none\/∀i∈b.toList,wX i=true):∀(f:List Nat) (d:Act) (c:World),wpOps P b g f d c->wpOpsIn (FW ro) n P b g f d c
 |[],d,c,a=>a
 |l::f,d,c,a=>by
  unfold wpOps at a;unfold wpOpsIn
  cases j:b[l]? with
  |none=>rw[j]at a;exact sf h e f d c a
  |some i=>
   rw[j]at a;simp only at a⊢;split
   ·rename_i k
    rw[Zx k]at a;rcases a with a|⟨-,m,o,a⟩
    ·have p:i.wp P d c (wpOpsIn (FW ro) n P b g f) g:=Oper.wp_mono (λd c a=>sf h e f d c a) a
     refine Oi ?_ p;rcases e with e|e
     ·exact .inl e
     ·refine .inr (e i ?_)
      obtain⟨q,rfl⟩:=Q5.1 j;simp
    ·exact Zz a (h m o)
   ·rename_i k
    rw[Zq k]at a;exact⟨λ_ _=>trivial,sf h e f _ c a⟩
end
section
variable {F:Fence} {n:Nat} {P:Program} {Q:Exit->Act->ac} {a:Act} {w:World} {b:Frame} {k:List Item} {cs:List Frame}
def iC:step P (lone (b.atR a (.code (.scope a2)::k)) cs w)= .next (lone (b.atR a (.code a2:: .inScope a2::k)) cs w):=
 step_lone_go (by simp[stepG,stepG.exec,Frame.atR])
def Ep:step P (lone (b.atR a (.inScope a2::k)) cs w)= .next (lone (b.atR a k) cs w):=
 step_lone_go (by simp[stepG,stepG.exec,Frame.atR])
def MX(o:a2.wpIn F n P (Exit.noGoto Q) a w):(Code.scope a2).wpIn F n P Q a w:=by
 intro b k cs p h i;have e:(lone (b.atR a (.code (.scope a2)::k)) cs w).fenced P F:=fenced_calm h i rfl;obtain⟨q,c,d,f,g⟩:=o b (.inScope a2::k) cs p h i
 cases q with
 |normal=>exact⟨.normal,c,d,f,.head e iC (StepsIn.trans g (.one (fenced_calm h i rfl) Ep))⟩
 |exit id=>
  have m:exitTo id (.inScope a2::k)=exitTo id k:=by simp[exitTo]
  exact⟨.exit id,c,d,f,λr j=>.head e iC (g.1 r (by rw[m];exact j)),
   λl j=>let⟨k₁,h1,h2⟩:=g.2 l (by rw[m];exact j);⟨k₁,h1,.head e iC h2⟩⟩
 |goto s=>exact f.elim
 |ret=>exact⟨_,c,d,f,.of_steps (.one e iC) g⟩
 |panic t=>exact⟨_,c,d,f,.of_steps (.one e iC) g⟩
 |outgrown=>exact⟨_,c,d,f,.of_steps (.one e iC) g⟩
def wpIn_loop_ghost(b:Nat->Act->ac)(c:Nat)(g:b c a w)(d:∀e a w,b e a w->a2.wpIn F n P (Exit.then (λh i=>∃l,l<e/\b l h i) Q) a w):(Code.loop a2).wpIn F n P Q a w:=by
 refine wpIn_loop (λa w=>∃e,b e a w) (λa w=>leastOf (λe=>b e a w)) ⟨c,g⟩ ?_;intro a w m;refine wpIn_mono (d _ a w (leastOf_spec m).1) ?_;intro o h i f
 cases o with
 |normal=>
  obtain⟨j,p,k⟩:=f;exact show(∃n,b n h i)/\leastOf (λn=>b n h i)<leastOf (λn=>b n a w)from⟨⟨j,k⟩,Nat.lt_of_le_of_lt ((leastOf_spec ⟨j,k⟩).2 j k) p⟩
 |exit id=>exact f
 |goto q=>exact f
 |ret=>exact f
 |panic r=>exact f
 |outgrown=>exact f
end
def MY(A:h.follows .mixedOrders=true){n id:Nat}(B:∀a,a∈writes (.region id V J)->a<n)(p:Rel n W O K)(P:D h e9 (.region id V J) c8 W O K.defers b):
  (J=false->wpOps h V (dw n W O (writes (.region id V J)) c8) (List.range V.size) K b)/\
  (J=true->∀a,wpOps h V (dw n W O (writes (.region id V J)) c8) (Region.schedule (h.follows .mixedOrders) V a) K {b with drawn:=b.drawn+1}):=by
 have m:∀j∈V.toList,∀k,j.dst=some k->k<n/\k∈writes (.region id V J):=λj g k y=>⟨B k (lx g y),lx g y⟩
 have q:∀r a,ki V r=some a->a<n:=by
  intro r a l;unfold ki at l
  cases g:V[r]? with
  |none=>rw[g]at l;simp at l
  |some j=>
   rw[g]at l;have C:j∈V.toList:=by
    have:=Q5.1 g;obtain⟨N,rfl⟩:=this;simp
   exact(m j C a l).1
 cases J with
 |false=>
  refine⟨λ_=>?_,λP=>by cases P⟩;rw[List.range_eq_range',<-XK,wpOps_eq_wpList V.toList 0 sM];exact AK q V.toList O K b m p (λ_ _=>rfl) P
 |true=>
  refine⟨λP=>(by cases P),λ_ a=>?_⟩;simp only[Region.schedule,A,Bool.true_or,if_true];refine wpAny_sound V.size a _ K _ ?_;unfold D at P;simp only at P;split at P
  ·obtain⟨s,P⟩:=fG.out P
   simp only[Region.lexB,QK]at s;have E:=rL (B0:=W) (e0:=O) (W:=writes (.region id V true)) q V.toList O K m p (λ_ _=>rfl) P;have F:wpQuiet h V (bw b) (λo=>∀c,bw b c->dw n W O (writes (.region id V true)) c8 .normal o c) V.toList K:=by
    refine lg ?_ _ _ E;rintro o ⟨H,t,u,I,L⟩ c f;exact⟨W,H,t,I,by rw[u];exact L c f⟩
   refine wpAny_of_quiet (C:=bw b) (Q:=λo=>∀c,bw b c->dw n W O (writes (.region id V true)) c8 .normal o c) (λ_ c f P=>P c f) _ _ _ _ ⟨1,rfl⟩ ?_;have:=wpAnyQ_lex (C:=bw b) (md:=.any) s.1 V.toList 0 (Array.replicate V.size false) K sM (by simpa using s.2) F;simpa using this
  ·obtain⟨M,P⟩:=fG.out P
   have d:∀(e:Bool) (i:RK) (v:Nat->Bool),wJ h W V e i (λw x b=>∀W O,c8 (.panic w) W O x b) (λO x b=>c8 .normal W O x b) v V.size (Array.replicate V.size false) O K.defers (b.drewN 1)->
     wpAny h .any V (dw n W O (writes (.region id V true)) c8) V.size (Array.replicate V.size false) K {b with drawn:=b.drawn+1}:=λe i v P=>
    ph (λw K b P=>Cx.post w K b P) (λ_ _ P=>P) _ _ _ _ _ (mK (B0:=W) (e0:=O) (W:=writes (.region id V true)) q M m v _ _ O K _ p (λ_ _=>rfl) P)
   split at P
   ·split at P
    ·obtain⟨i,P⟩:=P _ ⟨1,rfl⟩
     exact d _ i _ P
    ·exact d _ _ _ (P _ ⟨1,rfl⟩)
   ·obtain⟨z,P⟩:=fG.out P
    split at P
    ·obtain⟨i,P⟩:=P _ ⟨1,rfl⟩
     rw[rR z _ _ (Hx.init _)]at P;exact d _ i _ P
    ·have P:=P _ ⟨1,rfl⟩
     rw[rR z _ _ (Hx.init _)]at P;exact d _ _ _ P
def ky(P:Program)(a:Nat)(b:List Value)(c:World)(d:Bool->ac):Prop:=
 YieldAt (FW none) 0 P a b.toArray c λe f=>∃n,e= .returned (.bool n)/\d n f
def ky.mono(f:ky h a a4 b h6)(g:∀P e,h6 P e->h7 P e):ky h a a4 b h7:=by
 obtain⟨i,c,n,d,j,k⟩:=f;exact⟨i,c,n,d,j,k.mono λm e ⟨P,l,f⟩=>⟨P,l,g P e f⟩⟩
def WY(a:Program)(b:Value)(n:Array Value)(c:World)(d:UX):Prop:=
 ∃P,b= .func (.yield P) #[] #[]/\ky a P n.toList c λe f=>d (.bool e) f
def AM(n:Oper):Option (Operand×Array Operand):=match n.op with
 | .call {callee:=.value (.func _),..}=>none
 | .call {callee:=.value f,args,..}=>some (f,args)
 |_=>none
def Th(d:Program)(a:cm)(b:Array Oper)(h:je)(c:Oper)(e:cW->List Deferred->ac)(P:cW)(f:List Deferred)(g:World):Prop:=match AM c with
 |some (i,n)=>WY d (ev a P i) (n.map (ev a P)) g λj k=>e (cC P c.dst j) f k
 |none=>UR d b a c h e P f g
def sg(b:Program)(a:cm)(n:Array Oper)(c:je):List Oper->(cW->List Deferred->ac)->cW->List Deferred->ac
 |[],e,d,f,g=>e d f g
 |i::P,e,d,f,g=>match i.guard with
  |none=>Th b a n c i (sg b a n c P e) d f g
  |some (k,h)=>match ki n k with
   |none=>False
   |some j=>match get a d j with
    | .bool l=>al l
     (match h with
      |true=>Th b a n c i (sg b a n c P e) ((j,.bool true)::d) f g
      |false=>sg b a n c P e (cC ((j,.bool true)::d) i.dst undef) f g)
     (match h with
      |true=>sg b a n c P e (cC ((j,.bool false)::d) i.dst undef) f g
      |false=>Th b a n c i (sg b a n c P e) ((j,.bool false)::d) f g)
    | .tuple _=>sg b a n c P e (cC d i.dst undef) f g
    |_=>False
def MZ{n P:Code}(d:RoundIn (FW none) c h i A p n P b t):RoundIn (FW d3) a h i A p n P b t:=
 ⟨trivial,λe cs _=>d.2 e cs (Vh _)⟩
def HO{n:Array Operand}{l:Nat}(P:AM R=some (Y,n))(c:f0 Y= .func (.yield l) #[] #[]):
  (execOp f0 R).run h b=(Instr.yield l (n.map f0)).run h b:=by
 unfold AM at P;split at P
 ·cases P
 ·rename_i e a f d
  simp only[Q1,Prod.mk.injEq]at P;obtain⟨rfl,rfl⟩:=P;simp only[execOp,d,resolve,c];simp[Deferred.ofValue,invoke,Sem.run_bind,Sem.run_pure,Result.andThen]
 ·cases P
def wY{w:Program}{B:Option Nat}{L o:Nat}{e t:cm}{u:cW}{k:List Nat}{P:Array Oper}{l:je}(M:∀m a,ki P m=some a->a<o)(S:∀a1 e n y f,l a1 e n y f->a1≠.outgrown)(v:B=none\/∀d∈P.toList,wX d=true):
  ∀(N:List Oper) (p:Nat) (n:cW) (i:Act) (f:World),(∀m,N[m]? =P[p+m]?)->(∀d∈N,∀g,d.dst=some g->g<o/\g∈k)->Rel o e n i->(∀a,a∉k->get e n a=get t u a)->
   sg w e P l N (λn y f=>l .normal e n y f) n i.defers f->wpOpsIn (FW B) L w P (dw o t u k l) (List.range' p N.length) i f
 |[],p,n,i,f,_,_,j,h,c=>⟨e,n,j,h,c⟩
 |d::b,p,n,i,f,a2,T,j,h,c=>by
  have h0:P[p]? =some d:=by simpa using(a2 0).symm
  have a4:d∈P.toList:=by
   obtain⟨a7,rfl⟩:=Q5.1 h0;simp
  have U:∀m,b[m]? =P[p+1+m]? :=λm=>by have:=a2 (m+1);simpa[Nat.add_assoc,Nat.add_comm 1 m]using this
  have V:∀g,d.dst=some g->g<o:=λg v=>(T d (QV ..) g v).1;have W:∀(n:cW),(∀a,a∉k->get e n a=get t u a)->∀C a,a∉k->get e (cC n d.dst C) a=get t u a:=by
   intro n h C a X
   cases v:d.dst with
   |none=>exact h a X
   |some g=>
    have a5:=(T d (QV ..) g v).2;show get e ((g,C)::n) a=_;rw[eF,Zq (by rintro rfl;exact X a5)];exact h a X
  have z:∀d∈b,∀g,d.dst=some g->g<o/\g∈k:=λd ho=>T d (QJ _ ho);have A:∀(n:cW),Rel o e n i->(∀a,a∉k->get e n a=get t u a)->Th w e P l d (sg w e P l b λn y f=>l .normal e n y f) n i.defers f->
    d.wpIn (FW B) L w i f (wpOpsIn (FW B) L w P (dw o t u k l) (List.range' (p+1) b.length)) (dw o t u k l):=λn j h c=>by
   unfold Th at c;split at c
   ·rename_i a8 E q
    obtain⟨Y,hf,fn,F,x,H,h1,h2⟩:=c;refine⟨λ_ _=>trivial,?_⟩;have Z:∀a3,d.op≠.defer a3:=by
     intro a3 Z;unfold AM at q;rw[Z]at q;cases q
    rw[Oper.semAt_eq _ _ _ Z,j.eval,HO (l:=Y) q hf];have a6:(Instr.yield Y (E.map (ev e n))).run w f= .ok (.round Y fn F x H) f:=by
     have:=h1
     rwa [Array.toArray_toList]at this
    rw[a6,Oper.uponIn_round];refine⟨λc=>by simp[Fence.wide]at c,(MZ h2).mono ?_⟩;rintro _ w' ⟨I,rfl,hK⟩;exact wY M S v b (p+1) _ _ _ U z (j.put _ V _) (W n h _) (by rw[put_defers];exact hK)
   ·refine Oi (v.imp id λv=>v d a4) ?_
    exact MB j V c (λC a' w' a0 hK=>wY M S v b (p+1) _ _ _ U z a0 (W n h C) hK) (λch w' hq=>⟨e,n,j,h,hq⟩)
  have r:∀(n:cW),Rel o e n i->(∀a,a∉k->get e n a=get t u a)->sg w e P l b (λn y f=>l .normal e n y f) (cC n d.dst undef) i.defers f->
    wpOpsIn (FW B) L w P (dw o t u k l) (List.range' (p+1) b.length) (i.put d.dst undef) f:=λn j h c=>
   wY M S v b (p+1) _ _ _ U z (j.put _ V _) (W n h _) (by rw[put_defers];exact c)
  simp only[Xq,List.range'_succ];unfold wpOpsIn;rw[h0];simp only;unfold sg at c;split at c
  ·rename_i O
   rw[Zx (by simp[Region.wanted,O])];exact A n j h c
  ·rename_i m s O
   split at c
   ·exact c.elim
   ·rename_i a hj
    have q:=pg j hj (M m a hj);split at c
    ·rename_i I J
     rw[J]at q;simp only at q;have hw:Region.wanted d (yielded P i.tmps)=(I==s):=by
      simp only[Region.wanted,O,q]
      cases I<;>cases s<;>rfl
     rw[hw];have Q:=j.again J;have R:∀K,K∉k->get e ((a,.bool I)::n) K=get t u K:=λK hu=>by rw[sx J];exact h K hu
     cases I<;>cases s<;>simp only[al]at c
     ·exact A _ Q R c
     ·exact⟨λ_ _=>trivial,r _ Q R c⟩
     ·exact⟨λ_ _=>trivial,r _ Q R c⟩
     ·exact A _ Q R c
    ·rename_i vs J
     rw[J]at q;simp only at q;have hw:Region.wanted d (yielded P i.tmps)=false:=by
      simp[Region.wanted,O,q]
     rw[hw];exact⟨λ_ _=>trivial,r _ j h c⟩
    ·exact c.elim
def qV(a:Nat)(n P:World):Prop:=aj (λb=>b=a) n P/\P.heap.size=n.heap.size
def rl(n:Nat)(P:World):Prop:=P.heap[n]? =some (.deferred (some []))
def Oj(n:Nat):Deferred:={target:=.collected n,args:= #[]}
def M_:List Value->(List Value->Prop)->Prop
 |[],n=>n []
 |z::b,n=>match z with
  | .agg cs=>nj cs.toList λP=>M_ b λa=>n (.agg P.toArray::a)
  |z=>nj [z] λP=>M_ b λa=>n (P++a)
def oN(n:World):RK:=λP=>P≠n.heap.size/\P≠n.heap.size+1
def ud(P a:List Value):Prop:=∀n:List Value->Prop,M_ P n->n a
def Qi:List (Exit×(ac))->(Exit->(ac)->Prop)->Prop
 |[],_=>True
 |(P,a)::b,n=>n P a/\Qi b n
def Yq(n:Exit->ac):List Exit->List (Exit×(ac))
 |[]=>[]
 |x::P=>(x,λa=>n x a)::Yq n P
def YN(n:Exit):List (Exit×(ac))->Prop
 |[]=>False
 |(P,_)::a=>n=P\/YN n a
def Qi.out{a:Exit->ac}{φ:Exit->(ac)->Prop}:∀{l:List Exit},Qi (Yq a l) φ->∀n,YN n (Yq a l)->n∈l/\φ n (λb=>a n b)
 |[],_,n,P=>P.elim
 |y::h,c,n,P=>by
  obtain⟨d,e⟩:=c;rcases P with rfl|P
  ·exact⟨QV ..,d⟩
  ·obtain⟨f,g⟩:=Qi.out e n P
   exact⟨QJ _ f,g⟩
def He(m:Program)(v:Value)(w:List Value)(a:World)(y:(List Value->Prop)->(List Value->Exit->ac)->ac)(z:ac)(p:List (Exit×(ac))):Prop:=
 ∃o k,v= .func (.func o) #[] k/\enters m o=true/\
 ∃(q:Type) (r:q) (f:q->List (List Value)->ac) (j:Exit->List (List Value)->ac) (s:List (List Value)->List Value->Prop) (t:List (List Value)->Prop),
  (∀h,aj (λ_=>False) a h->h.heap.size=a.heap.size+2->f r [] h)/\
  (∀b n P d,f b n P->qV (a.heap.size+1) P d->f b n d)/\
  (∀x n P d,j x n P->qV (a.heap.size+1) P d->j x n d)/\
  (∀b n P,f b n P->a.heap.size+2<=P.heap.size->y (s n) (λg x c=>match x with
   | .normal=>f b (n++[g]) c
   |x=>YN x p/\j x (n++[g]) c) P)/\
  (∀(i:ac) (l:Exit->ac),(∀P d,i P->aj (oN a) P d->i d)->(∀x P d,l x P->aj (oN a) P d->l x d)->
   (∀P,i P->a.heap.size+2<=P.heap.size)->
   (∀b n g P,f b n P->i P->ud w g->s n g->ky m (a.heap.size+1) g P λu c=>(u=true/\f b (n++[g]) c/\i c)\/(u=false/\∃x,j x (n++[g]) c/\l x c))->
   ∀h,f r [] h->i h->Calls m o (#[.func (.yield (a.heap.size+1)) #[] #[]]++k) h λA c=>(∃B,A= .returned B)/\((i c/\∃b e,f b e c/\t e)\/∃x n,j x n c/\l x c))/\
  (∀b e P,f b e P->t e->rl a.heap.size P->z P)/\
  Qi p λx C=>∀n P,j x n P->rl a.heap.size P->C P
def Ol:List Nat->List Value->cW->cW
 |P::a,b::c,n=>Ol a c ((P,b)::n)
 |_,_,n=>n
def Ql:List (Nat×Value)->List Nat
 |[]=>[]
 |(n,_)::P=>n::Ql P
def jj:Code->Bool
 | .region _ P _=>P.toList.all wX
 | .seq a b=>jj a&&jj b
 | .cond _ a b=>jj a&&jj b
 | .block _ n=>jj n
 | .loop n=>jj n
 | .scope n=>jj n
 | .rangeFunc .. =>false
 |_=>true
def gY:Code->List Exit
 | .exit id=>[.exit id]
 | .ret=>[.ret]
 | .seq P a=>gY P++gY a
 | .cond _ P a=>gY P++gY a
 | .block _ n=>gY n
 | .loop n=>gY n
 | .scope n=>gY n
 |_=>[]
def Ti:Exit->Code
 | .ret=>.ret
 | .exit id=>.exit id
 | .goto n=>.goto n
 |_=>.skip
def WZ(n:Exit->ac):je:=λa _ _ _ P=>match a with
 | .normal=>n .normal P
 | .ret=>n .ret P
 | .exit id=>n (.exit id) P
 |_=>False
def DR(f:Program)(e:gE)(g:List Nat):Bool->Code->je->cm->cW->List Deferred->ac
 |_,.skip,c,b,n,a,P=>c .normal b n a P
 |_,.label _,c,b,n,a,P=>c .normal b n a P
 |_,.exit id,c,b,n,a,P=>c (.exit id) b n a P
 |_,.ret,c,b,n,a,P=>c .ret b n a P
 |_,.region id q p,c,b,n,a,P=>match Ej g id with
  |true=>(match p with
   |false=>sg f b q c q.toList (λn a P=>c .normal b n a P) n a P
   |true=>False)
  |false=>D f e (.region id q p) c b n a P
 |top,.seq h k,c,b,n,a,P=>match PM e.Sq (key k)with
  |none=>DR f e g top h (CA (λb n a P=>DR f e g top k c b n a P) c) b n a P
  |some d=>∃x:Fn (ji d) (ac),DR f e g top h (CA (λl s j i=>Cz j a (ap (ji d) x (Ar l s d) i)) c) b n a P/\
    fq (writes h) n λu=>nj (ji d) λm=>∀(l:cm) (i:World),ap (ji d) x m i->DR f e g top k c l (yX d m u) a i
 |top,.cond o h k,c,b,n,a,P=>match ev b n o with
  | .bool A=>al A (DR f e g top h c b n a P) (DR f e g top k c b n a P)
  |_=>False
 |top,.block id o,c,b,n,a,P=>DR f e g top o (ym id c) b n a P
 |top,.scope o,c,b,n,a,P=>DR f e g top o (Hy c) b n a P
 |top,.loop o,c,b,n,a,P=>match PM e.loops (key o)with
  |none=>False
  |some d=>∃v:Nat->Fn (ji d) (ac),(∃t,ap (ji d) (v t) (Ar b n d) P)/\
    ∀t,fq (writes o) n λu=>nj (ji d) λm=>∀(l:cm) (i:World),ap (ji d) (v t) m i->
     DR f e g top o (CA (λl s j i=>Cz j a (∃y,y<t/\ap (ji d) (v y) (Ar l s d) i)) c) l (yX d m u) a i
 |top,.rangeFunc B C h k,c,b,n,a,P=>match top with
  |false=>False
  |true=>match PM e.loops (key k)with
   |none=>False
   |some d=>fG (PL (Ql d) C.toList&&(jj h&&jj k)) (He f (ev b n B) (ji d) P
     (λE F r=>M_ (ji d) λm=>E m->DR f e g false h (CA (λl s j i=>aj (oN P) r i/\∀w,qV (P.heap.size+1) i w->DR f e g false k (WZ λh z=>aj (oN P) w z/\F m h z) l s j w) (λ_ _ _ _ _=>False)) b (Ol (Ql d) m n) [] r)
     (λr=>c .normal b n (Oj P.heap.size::a) r) (Yq (λh r=>c h b n (Oj P.heap.size::a) r) (gY k)))
 |_,_,_,_,_,_,_=>False
def lU:Code->List Nat
 | .region _ b _=>Fz b.toList
 | .seq n P=>lU n++lU P
 | .cond _ n P=>lU n++lU P
 | .block _ a=>lU a
 | .loop a=>lU a
 | .scope a=>lU a
 | .rangeFunc _ c n P=>c.toList++(lU n++lU P)
 |_=>[]
def Tj:∀(P:List Value) (b:List Value->Prop),(∀n,n.length=P.length->b n)->M_ P b:=by
 have d:∀(P:List Value) (b:List Value->Prop),(∀n,n.length=P.length->b n)->nj P b:=by
  intro P
  induction P with
  |nil=>intro b a;exact a [] rfl
  |cons g P e=>
   intro b a
   cases g
   case pointer h=>cases h<;>simp only[nj]<;>intros<;>exact e _ λn c=>a _ (by simp[c])
   all_goals(simp only[nj];intros;exact e _ λn c=>a _ (by simp[c]))
 intro P
 induction P with
 |nil=>intro b a;exact a [] rfl
 |cons g P e=>
  intro b a
  cases g
  case pointer h=>cases h<;>(simp only[M_];exact d [_] _ λn c=>e _ λj f=>a _ (by have i:n.length=1:=c;simp[i,f,Nat.add_comm]))
  case agg cs=>exact d cs.toList _ λn c=>e _ λj f=>a _ (by simp[f])
  all_goals(simp only[M_];exact d [_] _ λn c=>e _ λj f=>a _ (by have i:n.length=1:=c;simp[i,f,Nat.add_comm]))
def ud.len(n:ud a4 f1):f1.length=a4.length:=n _ (Tj a4 _ λ_ n=>n)
def Kr:∀n:List (Nat×Value),(Ql n).length=(ji n).length
 |[]=>rfl
 |(_,_)::P=>by simp[Ql,ji,Kr P]
def FX{e:Nat}{i:cm}:∀(b:List Nat) (P:List Value) (c:cW) (n:Array Value),(∀a∈b,a<e)->P.length=b.length->Rel e i c {tmps:=n,defers:=[]}->
  Rel e i (Ol b P c) {tmps:=(b.zip P).foldl (λa (j:Nat×Value)=>a.setIfInBounds j.1 j.2) n,defers:=[]}
 |[],P,c,n,_,d,f=>by
  cases P with
  |nil=>exact f
  |cons g P=>simp at d
 |a::b,P,c,n,k,d,f=>by
  cases P with
  |nil=>simp at d
  |cons g P=>
   exact FX b P ((a,g)::c) _ (λl h=>k l (QJ _ h)) (by simpa using d) (f.put (some a) (λl h=>by cases h;exact k a (QV ..)) g)
def Ks:∀(P:Code) (a:Exit),a∈gY P->a= .ret\/∃id,a= .exit id:=by
 intro P
 induction P with
 |exit id=>intro a n;simp only[gY,List.mem_singleton]at n;exact .inr ⟨id,n⟩
 |ret=>intro a n;simp only[gY,List.mem_singleton]at n;exact .inl n
 |seq a f b c=>intro d n;exact(Q6.1 n).elim (b d) (c d)
 |cond P a f b c=>intro d n;exact(Q6.1 n).elim (b d) (c d)
 |block id P e=>exact e
 |loop P e=>exact e
 |scope P e=>exact e
 |_=>intro d n;cases n
def kq{w:World}{l:Nat}{o:Obj}:qV l w (w.putObj l o):=
 ⟨⟨rfl,rfl,rfl,sM,λP _ n=>World.putObj_heap_other n⟩,sM⟩
def aj.obj(P:aj f b k)(n:b.heap[a]? =some d2)(c:¬f a):k.heap[a]? =some d2:=
 (P.block a (Q5.1 n).1 c).trans n
def dw.of(n:Rel a W O K)(P:c8 f2 W O K.defers b):dw a W O b9 c8 f2 K b:=⟨W,O,n,λ_ _=>rfl,P⟩
def Yr(hm:h.follows .mixedOrders=true){n m:Nat}:∀(I:Code) (r:Option Nat) (d:Bool) (t:je) (e:cm) (f:cW) (l:Act) (b:World),
  (r=none\/(d=false/\jj I=true))->(∀a,a∈lU I->a<n)->(∀u e f Y b,t u e f Y b->u≠.outgrown)->Rel n e f l->DR h e9 b9 d I t e f l.defers b->I.wpIn (FW r) m h (dw n e f (writes I) t) l b:=by
 intro I
 induction I generalizing m with
 |skip=>intro r d t e f l b _ _ _ k P;exact wpIn_skip (dw.of k P)
 |label a0=>intro r d t e f l b _ _ _ k P;exact wpIn_label (dw.of k P)
 |exit id=>intro r d t e f l b _ _ _ k P;exact wpIn_exit (dw.of k P)
 |ret=>intro r d t e f l b _ _ _ k P;exact wpIn_ret (dw.of k P)
 |goto a0=>intro r d t e f l b _ _ _ k P;exact P.elim
 |refuse sB=>intro r d t e f l b _ _ _ k P;exact P.elim
 |scope I ih=>
  intro r d t e f l b C y J k P;refine MX (wpIn_mono (ih r d (Hy t) e f l b C y (by intro q e f Y b c Q;subst Q;exact J _ _ _ _ _ c rfl) k P) ?_);intro q v x o;obtain⟨z,w,B,F,c⟩:=o
  cases q with
  |goto a0=>exact c.elim
  |normal=>exact⟨z,w,B,F,c⟩
  |exit id=>exact⟨z,w,B,F,c⟩
  |ret=>exact⟨z,w,B,F,c⟩
  |panic ch=>exact⟨z,w,B,F,c⟩
  |outgrown=>exact⟨z,w,B,F,c⟩
 |region id A Z=>
  intro r d t e f l b C y J k P;have hd:r=none\/∀V∈A.toList,wX V=true:=C.imp (λP=>P) λP=>by
   have:=P.2;unfold jj at this;exact ZY.1 this
  have d1:∀v x,¬dw n e f (writes (.region id A Z)) t .outgrown v x:=λl b ⟨e,f,_,_,c⟩=>J _ _ _ _ _ c rfl;unfold DR at P;split at P
  ·split at P
   ·have W:∀V∈A.toList,∀a5,V.dst=some a5->a5<n/\a5∈writes (.region id A false):=λV ho a5 hd=>⟨y a5 (lx ho hd),lx ho hd⟩
    have e8:∀c4 a,ki A c4=some a->a<n:=by
     intro c4 a N;unfold ki at N
     cases ho:A[c4]? with
     |none=>rw[ho]at N;simp at N
     |some V=>
      rw[ho]at N;have f0:V∈A.toList:=by
       obtain⟨d2,rfl⟩:=Q5.1 ho;simp
      exact(W V f0 a N).1
    refine wpIn_region ?_;rw[List.range_eq_range',<-XK];exact wY e8 J hd A.toList 0 f l b sM W k (λ_ _=>rfl) P
   ·exact P.elim
  ·obtain⟨h1,h2⟩:=MY hm (n:=n) y k P
   cases Z with
   |false=>exact wpIn_region (sf d1 hd _ _ _ (h1 rfl))
   |true=>exact wpIn_region_draw λa=>sf d1 hd _ _ _ (h2 rfl a)
 |seq u R K L=>
  intro r d t e f l b C y J k P;have b4:r=none\/(d=false/\jj u=true):=C.imp (λP=>P) λP=>⟨P.1,by have:=P.2;simp only[jj,QK]at this;exact this.1⟩
  have b5:r=none\/(d=false/\jj R=true):=C.imp (λP=>P) λP=>⟨P.1,by have:=P.2;simp only[jj,QK]at this;exact this.2⟩
  have b6:∀a,a∈lU u->a<n:=λa j=>y a (Q6.2 (.inl j));have b7:∀a,a∈lU R->a<n:=λa j=>y a (Q6.2 (.inr j));have g:∀(a3:cm->cW->List Deferred->ac) (q:Exit) (v:Act) (x:World),q≠.normal->dw n e f (writes u) (CA a3 t) q v x->dw n e f (writes (u.seq R)) t q v x:=by
   intro a3 q v x f4 o;refine o.mono (λa j=>Q6.2 (.inl j)) (λ_ _=>rfl) λz w i8 w1 c=>?_
   cases q with
   |normal=>exact Zz rfl f4
   |outgrown=>exact c.elim
   |_=>exact c
  have d3:∀(a3:cm->cW->List Deferred->ac) q e f Y b,CA a3 t q e f Y b->q≠.outgrown:=by
   intro a3 q e f Y b c Q;subst Q;exact c.elim
  unfold DR at P;split at P
  ·have hx:=K (m:=m) r d _ e f l b b4 b6 (d3 _) k P
   refine wpIn_seq (wpIn_mono hx ?_);intro q v x o
   cases q with
   |normal=>
    obtain⟨z,w,B,F,c⟩:=o;have hy:=L (m:=m) r d t z w v x b5 b7 J B c;refine wpIn_mono hy (λq d4 d5 o=>?_);refine o.mono (λa j=>Q6.2 (.inr j)) (λa j=>F a λhm=>j (Q6.2 (.inl hm))) λ_ _ _ _ c=>c
   |exit id=>exact g _ _ _ _ sM o
   |goto a0=>exact g _ _ _ _ sM o
   |ret=>exact g _ _ _ _ sM o
   |panic ch=>exact g _ _ _ _ sM o
   |outgrown=>exact g _ _ _ _ sM o
  ·rename_i H hS
   obtain⟨f5,P,c5⟩:=P;obtain⟨w,h1,h2,c5⟩:=fq.out c5;have hx:=K (m:=m) r d _ e f l b b4 b6 (d3 _) k P;refine wpIn_seq (wpIn_mono hx ?_);intro q v x o
   cases q with
   |normal=>
    obtain⟨B2,e2,O,b0,c⟩:=o;obtain⟨b8,hJ⟩:=Cz.out c;have hv:=ou O H;have a7:=kj B2 e2 H;have d6:=ap.all a7 hJ c5 (λa=>v.tmps.getD a undef) x hJ;rw[hv,<-b8]at d6;have d7:=wO (n:=n) H O.size h1 h2 (B0:=e) (λa j=>(O.slot a).trans (b0 a j));have hy:=L (m:=m) r d t _ _ v x b5 b7 J d7 d6;refine wpIn_mono hy (λq d4 d5 o=>?_);refine o.mono (λa j=>Q6.2 (.inr j)) (λa j=>?_) λ_ _ _ _ c=>c;rw[<-d7.slot];exact(O.slot a).trans (b0 a λhm=>j (Q6.2 (.inl hm)))
   |exit id=>exact g _ _ _ _ sM o
   |goto a0=>exact g _ _ _ _ sM o
   |ret=>exact g _ _ _ _ sM o
   |panic ch=>exact g _ _ _ _ sM o
   |outgrown=>exact g _ _ _ _ sM o
 |cond I u R K L=>
  intro r d t e f l b C y J k P;have b4:r=none\/(d=false/\jj u=true):=C.imp (λP=>P) λP=>⟨P.1,by have:=P.2;simp only[jj,QK]at this;exact this.1⟩
  have b5:r=none\/(d=false/\jj R=true):=C.imp (λP=>P) λP=>⟨P.1,by have:=P.2;simp only[jj,QK]at this;exact this.2⟩
  unfold DR at P;split at P
  ·rename_i f6 S
   refine wpIn_cond_split (t:=f6) (by rw[k.eval];exact S) (λj=>?_) (λhf=>?_)
   ·subst j
    refine wpIn_mono (K r d t e f l b b4 (λa j=>y a (Q6.2 (.inl j))) J k P) (λq v x o=>?_);exact o.mono (λa j=>Q6.2 (.inl j)) (λ_ _=>rfl) λ_ _ _ _ c=>c
   ·subst hf
    refine wpIn_mono (L r d t e f l b b5 (λa j=>y a (Q6.2 (.inr j))) J k P) (λq v x o=>?_);exact o.mono (λa j=>Q6.2 (.inr j)) (λ_ _=>rfl) λ_ _ _ _ c=>c
  ·exact P.elim
 |block id I ih=>
  intro r d t e f l b C y J k P;refine wpIn_block (wpIn_mono (ih r d (ym id t) e f l b C y (by intro q e f Y b c Q;subst Q;exact c.elim) k P) ?_);intro q v x o;obtain⟨z,w,B,F,c⟩:=o
  cases q with
  |exit a8=>
   show(if a8=id then _ else _);simp only[ym]at c
   cases S:Nat.beq a8 id with
   |true=>
    rw[S]at c;rw[Zx (X9 S)];exact⟨z,w,B,F,c⟩
   |false=>
    rw[S]at c;rw[Zq (by rintro rfl;simp at S)];exact⟨z,w,B,F,c⟩
  |normal=>exact⟨z,w,B,F,c⟩
  |goto a0=>exact⟨z,w,B,F,c⟩
  |ret=>exact⟨z,w,B,F,c⟩
  |panic ch=>exact⟨z,w,B,F,c⟩
  |outgrown=>exact c.elim
 |loop I ih=>
  intro r d t e f l b C y J k P;unfold DR at P;split at P
  ·exact P.elim
  ·rename_i H hS
   obtain⟨f7,⟨m0,h0⟩,f8⟩:=P;refine wpIn_loop_ghost (λm v x=>v.tmps.size=n/\(∀a,a∉writes I->v.tmps.getD a undef=get e f a)/\v.defers=l.defers/\
    ap (ji H) (f7 m) (H.map λa4=>v.tmps.getD a4.1 undef) x) m0 ⟨k.size,λa _=>k.slot a,rfl,by rw[<-ou k H];exact h0⟩ ?_
   rintro mm v x ⟨f9,d8,b8,hI⟩;obtain⟨w,h1,h2,g0⟩:=fq.out (f8 mm);have a7:(H.map λa4=>v.tmps.getD a4.1 undef).length=(ji H).length:=by rw[<-kj e f H,AL];simp
   have S:=ap.all a7 hI g0 (λa=>v.tmps.getD a undef) x hI;have c0:=wO (n:=n) H f9 h1 h2 d8;rw[<-b8]at S;have c6:=ih (m:=m) r d _ _ _ v x C y (by intro q e f Y b c Q;subst Q;exact c.elim) c0 S;refine wpIn_mono c6 ?_;intro q d4 d5 o;obtain⟨B2,e2,O,b0,c⟩:=o;have a9:∀a,a∉writes I->get B2 e2 a=get e f a:=λa j=>(b0 a j).trans ((c0.slot a).symm.trans (d8 a j))
   cases q with
   |normal=>
    obtain⟨g1,m',d2,g2⟩:=Cz.out c;refine⟨m',d2,O.size,λa j=>(O.slot a).trans (a9 a j),g1.trans b8,?_⟩;rw[<-ou O H];exact g2
   |outgrown=>exact c.elim
   |exit id=>exact⟨B2,e2,O,a9,c⟩
   |goto a0=>exact⟨B2,e2,O,a9,c⟩
   |ret=>exact⟨B2,e2,O,a9,c⟩
   |panic ch=>exact⟨B2,e2,O,a9,c⟩
 |rangeFunc g3 ps u R K L=>
  intro r d t e f l b C y J k P;unfold DR at P;split at P
  ·exact P.elim
  obtain rfl:r=none:=C.resolve_right λP=>by cases P.1
  split at P
  ·exact P.elim
  rename_i H hS;obtain⟨d9,P⟩:=fG.out P;simp only[QK]at d9;obtain⟨c1,g4,g5⟩:=d9;have c1:=PL.out c1;obtain⟨c7,a1,g6,g7,σ,s0,f5,Jx,a3,i9,g8,e0,c2,c6,g9,h3,h4⟩:=P;have b6:∀a,a∈lU u->a<n:=λa j=>y a (Q6.2 (.inr (Q6.2 (.inl j))));have b7:∀a,a∈lU R->a<n:=λa j=>y a (Q6.2 (.inr (Q6.2 (.inr j))));have h5:∀a,a∈ps.toList->a<n:=λa j=>y a (Q6.2 (.inl j));refine wpIn_rangeFunc ?_;intro fn _;obtain⟨p,s⟩:∃p:LoopState->Option Code->Loop,p=λst pe=>{state:=st,pending:=pe,fn,tmps:=l.tmps,params:=ps,assign:=u,body:=R,defers:=b.heap.size}:=⟨_,rfl⟩
  obtain⟨T,b2⟩:∃T,(b.alloc (.deferred (some []))).alloc (.loop (p .ready none))=T:=⟨_,rfl⟩
  have h6:T.heap[b.heap.size+1]? =some (.loop (p .ready none)):=by
   rw[<-b2];have:=World.alloc_heap_new (b.alloc (.deferred (some []))) (.loop (p .ready none));rwa [World.size_alloc]at this
  have h7:T.heap[b.heap.size]? =some (.deferred (some [])):=by
   rw[<-b2];exact(Go.RowKit.Below.heap_alloc _ _ _ sM).trans (World.alloc_heap_new b _)
  have h8:T.heap.size=b.heap.size+2:=by rw[<-b2];simp
  have h9:aj (λ_=>False) b T:=by
   rw[<-b2];exact⟨rfl,rfl,rfl,by simp;omega,λi0 E _=>(Go.RowKit.Below.heap_alloc _ _ _ (by simp;omega)).trans (Go.RowKit.Below.heap_alloc b _ i0 E)⟩
  let i1:ac:=λe9=>e9.heap[b.heap.size+1]? =some (.loop (p .ready none))/\e9.heap[b.heap.size]? =some (.deferred (some []))
  let Rx:Exit->ac:=λu e9=>YN u (Yq (λu A0=>t u e f (Oj b.heap.size::l.defers) A0) (gY R))/\e9.heap[b.heap.size+1]? =some (.loop (p .done (some (Ti u))))/\e9.heap[b.heap.size]? =some (.deferred (some []))
  have c3:∀{e9 e:World} {V o':Obj},aj (oN b) e9 e->e9.heap[b.heap.size+1]? =some V->e9.heap[b.heap.size]? =some o'->e.heap[b.heap.size+1]? =some V/\e.heap[b.heap.size]? =some o':=λE h1 h2=>
   ⟨E.obj h1 λP=>P.2 rfl,E.obj h2 λP=>P.1 rfl⟩
  refine⟨b.heap.size+1,[Oj b.heap.size],T,{target:=.fn (.func c7) a1,args:= #[.func (.yield (b.heap.size+1)) #[] #[]]},T,c7,#[.func (.yield (b.heap.size+1)) #[] #[]]++a1,T,?_,?_,λ_ _=>trivial,?_,λP=>by simp[Fence.wide]at P,?_⟩
  ·rw[<-b2,s];exact run_enterLoop_outer _ _ _ _ _
  ·have hg:l.eval g3= .func (.func c7) #[] a1:=by rw[k.eval];exact g6
   simp only[resolve,hg];simp[go_sem]
  ·simp only[invoke];exact jf g7 _ _
  refine u_.2 (Calls.mono (g9 i1 Rx (λe9 e P E=>c3 E P.1 P.2) (λu e9 e P E=>⟨P.1,c3 E P.2.1 P.2.2⟩) (λe9 P=>by have:=(Q5.1 P.1).1;omega) ?_ T (g8 T h9 h8) ⟨h6,h7⟩) ?_)
  ·
   rintro c8 M vs A1 N ⟨W,E⟩ e1 hN;have a7:=e1.len;have e3:vs.length=ps.toList.length:=by rw[a7,<-c1,Kr]
   have hy:=run_yield (P:=h) (args:=vs.toArray) W (by rw[s];simpa using e3);rw[s]at hy;refine⟨fn,_,u,R,hy,roundIn_of_wpIn trivial ?_⟩;have S:=e1 _ (c6 c8 M A1 N (by have:=(Q5.1 W).1;omega)) hN;have c0:Rel n e (Ol (Ql H) vs f) {tmps:=(ps.zip vs.toArray).foldl (λU (u:Tmp×Value)=>U.setIfInBounds u.1 u.2) l.tmps,defers:=[]}:=by
    have h0:Rel n e f {tmps:=l.tmps,defers:=[]}:=⟨k.size,k.slot⟩
    have:=FX ps.toList vs f l.tmps h5 e3 h0;rw[c1];have w:(ps.zip vs.toArray).foldl (λU (u:Tmp×Value)=>U.setIfInBounds u.1 u.2) l.tmps=(ps.toList.zip vs).foldl (λa (a4:Nat×Value)=>a.setIfInBounds a4.1 a4.2) l.tmps:=by
     rw[<-Array.foldl_toList,Array.toList_zip]
    rw[w];exact this
   have hx:=K (m:=0) (some (b.heap.size+1)) false _ e _ _ A1 (.inr ⟨rfl,g4⟩) b6 (by intro q e f Y b c Q;subst Q;exact c.elim) c0 S;refine wpIn_mono hx ?_;intro q i2 A2 o;obtain⟨z,w,B,-,c⟩:=o
   cases q with
   |exit id=>exact c.elim
   |goto a0=>exact c.elim
   |ret=>exact c.elim
   |panic ch=>exact c.elim
   |outgrown=>exact c.elim
   |normal=>
    obtain⟨i3,c⟩:=c;obtain⟨e4,i4⟩:=c3 i3 W E;refine⟨_,run_beginRound e4 (by rw[s]),?_⟩;have c:=c _ (kq (w:=A2) (l:=b.heap.size+1) (o:=.loop {p .ready none with state:=.busy}));have e5:(A2.putObj (b.heap.size+1) (.loop {p .ready none with state:=.busy})).heap[b.heap.size+1]? =some (.loop {p .ready none with state:=.busy}):=World.putObj_heap_same (Q5.1 e4).1;have e6:(A2.putObj (b.heap.size+1) (.loop {p .ready none with state:=.busy})).heap[b.heap.size]? =some (.deferred (some [])):=(World.putObj_heap_other oM).trans i4;generalize A2.putObj (b.heap.size+1) (.loop {p .ready none with state:=.busy})=A3 at c e5 e6;have hy:=L (m:=0) (some (b.heap.size+1)) false _ z w i2 A3 (.inr ⟨rfl,g5⟩) b7 (by intro q e f Y b c Q;subst Q;exact c.elim) B c;refine wpIn_mono hy ?_;have a2:∀(i:Option Code) (X:World),aj (oN b) A3 X->
      (Instr.endRound (b.heap.size+1) i).run h X= .ok (.bool i.isNone) (X.putObj (b.heap.size+1) (.loop (p (if i.isNone then .ready else .done) i)))/\
      (X.putObj (b.heap.size+1) (.loop (p (if i.isNone then .ready else .done) i))).heap[b.heap.size+1]? =some (.loop (p (if i.isNone then .ready else .done) i))/\
      (X.putObj (b.heap.size+1) (.loop (p (if i.isNone then .ready else .done) i))).heap[b.heap.size]? =some (.deferred (some [])):=λi X a6=>by
     obtain⟨e7,i5⟩:=c3 a6 e5 e6;have:=run_endRound (P:=h) i e7;rw[s]at this⊢;exact⟨this,World.putObj_heap_same (Q5.1 e7).1,(World.putObj_heap_other oM).trans i5⟩
    intro q j0 X o;obtain⟨B4,j1,j2,-,b1⟩:=o
    cases q with
    |normal=>
     obtain⟨a6,b3⟩:=b1;obtain⟨f1,f2,f3⟩:=a2 none X a6;exact⟨_,_,f1,true,rfl,.inl ⟨rfl,e0 _ _ _ _ b3 kq,f2,f3⟩⟩
    |ret=>
     obtain⟨a6,c9,b3⟩:=b1;obtain⟨f1,f2,f3⟩:=a2 (some .ret) X a6;exact⟨_,_,f1,false,rfl,.inr ⟨rfl,.ret,c2 _ _ _ _ b3 kq,c9,f2,f3⟩⟩
    |exit id=>
     obtain⟨a6,c9,b3⟩:=b1;obtain⟨f1,f2,f3⟩:=a2 (some (.exit id)) X a6;exact⟨_,_,f1,false,rfl,.inr ⟨rfl,.exit id,c2 _ _ _ _ b3 kq,c9,f2,f3⟩⟩
    |goto a=>exact b1.elim
    |panic ch=>exact b1.elim
    |outgrown=>exact b1.elim
  ·
   rintro ed A2 ⟨⟨j3,rfl⟩,(⟨⟨W,E⟩,c8,d0,N,hT⟩|⟨x1,M,N,i6,W,E⟩)⟩
   ·refine⟨none,_,by have:=run_endLoop (P:=h) W (by rw[s];simp);rw[s]at this;exact this,?_⟩
    exact dw.of (k.defers _) (h3 c8 d0 _ (e0 _ _ _ _ N kq) hT ((World.putObj_heap_other oM).trans E))
   ·refine⟨some (Ti x1),_,by have:=run_endLoop (P:=h) W (by rw[s];simp);rw[s]at this;exact this,?_⟩
    obtain⟨i7,c⟩:=Qi.out h4 x1 i6;rcases Ks R x1 i7 with rfl|⟨id,rfl⟩
    ·exact wpIn_ret (dw.of (k.defers _) (c M _ (c2 .ret M A2 _ N kq) ((World.putObj_heap_other oM).trans E)))
    ·exact wpIn_exit (dw.of (k.defers _) (c M _ (c2 (.exit id) M A2 _ N kq) ((World.putObj_heap_other oM).trans E)))
def Xn(n:ac):List Deferred->ac
 |[],P=>n P
 |d::c,P=>match d.target with
  | .collected a=>rl a P/\∀b,qV a P b->Xn n c b
  |_=>False
def VW(c:Program)(d:Func)(P:UV):je:=λg e f a n=>match g with
 | .normal=>Xn (λn=>JJ c d.results.toList e f n λb=>P (.returned (oneOf b)) n) a n
 | .ret=>Xn (λn=>JJ c d.results.toList e f n λb=>P (.returned (oneOf b)) n) a n
 | .panic h=>Xn (λn=>P (.panicked h) n) a n
 |_=>False
def pF{f:Program}{g:Func}{n:Array Value}{h:UV}{b:ac}{e:FrameMode}(i:e≠.run){j:Nat}(k:∀P,b P->LeavesIn (FW none) j f g n h [] e P):∀(c:List Deferred) (P:World),Xn b c P->LeavesInM (FW none) j f g n h c e P
 |[],P,a=>k P a
 |d::c,P,a=>by
  unfold Xn at a;split at a
  ·rename_i l m
   obtain⟨o,a⟩:=a;exact⟨i,.inl ⟨l,_,m,run_takeDeferred o,pF i k c _ (a _ kq)⟩⟩
  ·exact a.elim
def n_(g:gE)(i:List Nat)(j:h.follows .mixedOrders=true)(k:h.funcs[A]? =some a7)(l:a7.body=some a2)(m:p.size<=a7.ntmps)(o:vz a7.ntmps (lU a2)=true)(P:DR h g i true a2 (VW h a7 t) (λ_=>undef) (fz 0 p.toList) [] b):Calls h A p b t:=by
 refine u_.1 (callsIn_of_wp_marks (F:=FW none) (n:=0) k l trivial (wpIn_mono (Yr j a2 none true (VW h a7 t) _ _ _ b (.inl rfl) (lO o) (by intro c d e v b n q;subst q;exact n.elim) (yo m []) P) ?_));rintro c r w ⟨d,e,s,_,n⟩;have f:∀b,(JJ h a7.results.toList d e b λa=>t (.returned (oneOf a)) b)->LeavesIn (FW none) 0 h a7 r.tmps t [] .returning b:=λb P=>by
  obtain⟨a,u,P⟩:=rU s P;exact⟨_,rV u,P⟩
 cases c with
 |normal=>exact pF sM f _ _ n
 |ret=>exact pF sM f _ _ n
 |panic x=>exact pF sM (λb P=>P) _ _ n
 |exit id=>exact n.elim
 |goto a=>exact n.elim
 |outgrown=>exact n.elim

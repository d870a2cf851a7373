import Derived.Test.YtfchlbaidamodaaGreatDoorKa12
import Derived.StringKeys
set_option linter.all false
set_option maxRecDepth 100000
namespace Go.Proofs.YtfchlbaidamodaaGreatDoor
open Go.ax
def Hx:fS:=⟨[],[],[],[],[]⟩
variable{s:Ending->World->Prop}{e:Int}{a c:Nat}{d:Option Addr}{b:World}
theorem Hy (n:PA b (.cells #[.ii e,.slice d a c] 292) λf=>(rS f (ab_ b (0+1)) λE h D=>(rI f (ab_ b 0) λo=>al (decide (o<1)) (rt s ((.tuple #[.slice none 0 0,.ii 2])) f) ((rI f (ab_ b 0) λp=>al (decide (p>255)) (rt s ((.tuple #[.slice none 0 0,.ii 2])) f) (al (decide ((h:Int)>65536)) (rt s ((.tuple #[.slice none 0 0,.ii 5])) f) ((rI f (ab_ b 0) λq=>PA f (.cells #[.int .u8 (IntKind.wrap .u8 q),.int .u8 (IntKind.wrap .u8 (iA .i64 (h:Int) 16)),.int .u8 (IntKind.wrap .u8 (iA .i64 (h:Int) 8)),.int .u8 (IntKind.wrap .u8 (h:Int))] 5) λi=>(rS i (ab_ b (0+1)) λr t u=>PA i (.cells #[.slice (some (ab_ f 0)) 4 4,.slice r t u] 197) λv=>PC_ 283 #[.slice (some (ab_ i 0)) 2 2] v (kS_ λj k l w=>PC_ 284 #[.slice j k l] w (λx m=>∃g,x= .int .u32 g/\PA m (.cells #[.int .u8 (IntKind.wrap .u8 (iA .u32 g 24)),.int .u8 (IntKind.wrap .u8 (iA .u32 g 16)),.int .u8 (IntKind.wrap .u8 (iA .u32 g 8)),.int .u8 (IntKind.wrap .u8 g),.int .u8 10] 5) λy=>PR_ (ap_ 197 (.slice j k l) (.slice (some (ab_ m 0)) 5 5)) y (kS_ λz A B C=>rt s ((.tuple #[.slice z A B,.ii 0])) C) (pV s)) (pE s)) (pE s)))))))))):Calls ZQ 222 #[.agg #[.ii e,.slice d a c]] b s:=DC Hx Tryz.func222 rfl n
end Go.Proofs.YtfchlbaidamodaaGreatDoor
namespace Go.ax
open Go
theorem CB (a:List UInt8) (b:Nat) (c:(a.getD 1 0).toNat*65536+(a.getD 2 0).toNat*256+(a.getD 3 0).toNat=b):
  bC a=if a.length<4 then⟨0,[],0,4⟩else if a.getD 0 0=0 then⟨0,[],0,2⟩else if 65536<b then⟨0,[],0,5⟩else if a.length<b+9 then⟨0,[],0,4⟩else
   if a.take (b+9)=cN (a.getD 0 0).toNat ((a.drop 4).take b)then⟨(a.getD 0 0).toNat,(a.drop 4).take b,b+9,0⟩else⟨0,[],0,6⟩:=by
 unfold bC;rw [c]
variable{x:List UInt8}
theorem Si (a:(bC x).no=0):(bC x).kind=((x.getD 0 0).toNat:Int)/\(bC x).body=(x.drop 4).take ((bC x).n-9)/\4<=x.length:=by
 rw [CB x _ rfl]at a⊢;split at a
 ·cases a
 rename_i b;rw [if_neg b];split at a
 ·cases a
 rename_i c;rw [if_neg c];split at a
 ·cases a
 rename_i d;rw [if_neg d];split at a
 ·cases a
 rename_i e;rw [if_neg e];split at a
 ·rename_i f
  rw [if_pos f];exact⟨rfl,sM,oM⟩
 ·cases a
end Go.ax
namespace Go.Proofs.YtfchlbaidamodaaGreatDoor
open Go.ax
def CC (a:List UInt8):List Value:=a.map λb=>Value.int .u8 (b.toNat:Int)
variable{e:Int}{x:List UInt8}{a c:Nat}{d:Option Addr}{b:World}
theorem FO {f:Nat×Nat} (c:List UInt8) (d:b.heap[a]? =some (.cells (CC c).toArray 5 f)) (g:c.length<=1000):Row gq 1 b (·=a) (some ⟨a,0,none⟩) c.length c:=
 Row.lit (enc:=λe:UInt8=>Value.int .u8 (e.toNat:Int)) d c (by simp [CC]) (λ_ _=>trivial) (by unfold aQ;omega)
theorem FP {D:Nat->Prop} (B:qU b) (g:Row gq 1 b D d a x) (C:∀f,D f->f<b.heap.size):
  Calls ZQ 222 #[.agg #[QH e,.slice d a c]] b (Ok λE F=>∃v,E= .tuple #[v,QH (kQ e x).2]/\qD gq 5 b (kQ e x).1 v F):=by
 have H:=g.len;refine Hy (PA.mk λj l s1 m=>⟨d,a,c,ae m rfl,_,ae m rfl,al.dec (λh=>?_) (λh1=>⟨_,ae m rfl,al.dec (λh=>?_) (λh2=>al.dec (λh=>?_) (λh3=>?_))⟩)⟩)
 ·rw [show kQ e x=([],2) by unfold kQ;rw [if_pos oM]]
  exact Ok.mk ⟨_,rfl,none,0,0,λ_=>False,rfl,aV.nil j,l,λ_ h=>h.elim⟩
 ·rw [show kQ e x=([],2) by unfold kQ;rw [if_pos oM]]
  exact Ok.mk ⟨_,rfl,none,0,0,λ_=>False,rfl,aV.nil j,l,λ_ h=>h.elim⟩
 ·rw [show kQ e x=([],5) by unfold kQ;rw [if_neg oM,if_pos oM]]
  exact Ok.mk ⟨_,rfl,none,0,0,λ_=>False,rfl,aV.nil j,l,λ_ h=>h.elim⟩
 rw [show kQ e x=(cN e x,0) by unfold kQ;rw [if_neg oM,if_neg oM]];refine⟨_,ae m rfl,PA.mk λI n s2 J=>⟨d,a,c,ae (n.get m id) rfl,PA.mk λp o s3 K=>?_⟩⟩;have L:iA .i64 ((a:Nat):Int) 16=((a/65536:Nat):Int):=O_ (k:=.i64) (u:=a) (m:=16) dC;have M:iA .i64 ((a:Nat):Int) 8=((a/256:Nat):Int):=O_ (k:=.i64) (u:=a) (m:=8) dC;have N:e=((e.toNat:Nat):Int):=oM
 have O:I.heap[j.heap.size]? =some (.cells (CC [UInt8.ofNat e.toNat,UInt8.ofNat (x.length/65536),UInt8.ofNat (x.length/256),UInt8.ofNat x.length]).toArray 5 (0,0)):=by
  rw [J,L,M,N,jX,jX,jX,jX,H];simp [CC]
 have P:Row gq 1 p (λf=>D f\/f=j.heap.size) (some ⟨j.heap.size,0,none⟩) 4 [UInt8.ofNat e.toNat,UInt8.ofNat (x.length/65536),UInt8.ofNat (x.length/256),UInt8.ofNat x.length]:=
  (FO (f:=(0,0)) [UInt8.ofNat e.toNat,UInt8.ofNat (x.length/65536),UInt8.ofNat (x.length/256),UInt8.ofNat x.length] (o.get O id) sM).mono λf g=>.inr g
 have Q:Row gq 1 p (λf=>D f\/f=j.heap.size) d a x:=(g.af ((l.then n).then o)).mono λf g=>.inl g;refine PC.ok (CA K P Q (λf g=>g.elim (λh=>by have:=C f h;omega) λh=>oM) oM (by unfold aQ;omega)) ?_;rintro _ q ⟨a4,n4,c4,F4,rfl,k,R,w⟩;have S:[UInt8.ofNat e.toNat,UInt8.ofNat (x.length/65536),UInt8.ofNat (x.length/256),UInt8.ofNat x.length]++x=kC e x:=rfl;rw [S]at k;have a8:=k.len dC;have r:(kC e x).length=4+x.length:=by simp [kC];omega
 have s:ai b q:=((l.then n).then o).then R;refine⟨_,_,_,rfl,PC.ok (NY (B.af s) (k.row (bytes:=1) dC (by rw [r];unfold aQ;omega))) ?_⟩;rintro _ t ⟨rfl,T⟩;have u:ai q t:=T.keep;refine⟨_,rfl,?_⟩;generalize U:(LS (kC e x)).toNat=i;have V:iA .u32 (i:Int) 24=((i/16777216:Nat):Int):=O_ (k:=.u32) (u:=i) (m:=24) dC;have W:iA .u32 (i:Int) 16=((i/65536:Nat):Int):=O_ (k:=.u32) (u:=i) (m:=16) dC;have X:iA .u32 (i:Int) 8=((i/256:Nat):Int):=O_ (k:=.u32) (u:=i) (m:=8) dC;rw [V,W,X,jX,jX,jX,jX];refine PA.mk λY y s6 Z=>?_;have a1:Y.heap[t.heap.size]? =some (.cells (CC (Ri i++[10])).toArray 5 (0,0)):=by rw [Z];rfl
 have a2:=(k.af u).af y;have a9:q.heap.size<=t.heap.size:=u.size;refine lH a2 ur (FO (Ri i++[10]) a1 (by simp [Ri])) (λf z=>⟨oM,λe2=>by have:=k.aF f (k.self f e2);omega⟩) (by rw [r];unfold aQ;simp [Ri];omega) (by rw [r];unfold maxLen;simp [Ri];omega) λA c7 w7 F7 a3 a5 _ a6=>?_;refine⟨_,_,_,rfl,Ok.mk ⟨_,rfl,A,_,c7,λf=>aI A=some f,rfl,?_,?_,?_⟩⟩
 ·have h7:=a3.alone
  have z:cN e x=kC e x++(Ri i++[10]):=by unfold cN;rw [U,XQ]
  rw [z];exact h7
 ·exact((s.then u).then y).new a5 λf g=>.inr (by have:=w f (k.self f g);have:=l.size;have:=n.size;have:=o.size;omega)
 ·intro f g
  have b0:b.heap.size<=p.heap.size:=oM
  rcases a6 f g with h|h
  ·have:=w f h;omega
  ·have:=s.size;omega
theorem JE {D:Nat->Prop} (E:qU b) (h:Row gq 1 b D d a x) (r:a<=c):
  Calls ZQ 251 #[.slice d a c] b (Ok λF H=>F= .tuple #[QH (((bC x).n-9:Nat):Int),QH (bC x).no]/\bE b H):=by
 have W:=h.len;have I:=h.d_;unfold aQ at I;generalize s:(x.getD 1 0).toNat*65536+(x.getD 2 0).toNat*256+(x.getD 3 0).toNat=e;have f:=CB x e s;refine Cg (al.dec (λm=>?_) (λX=>?_))
 ·rw [f,if_pos oM]
  exact Ok.mk ⟨rfl,bE.refl b⟩
 rw [if_neg (show¬x.length<4 by omega)]at f;refine⟨oM,oM,oM,PC.ok (wJ (bs:=(x.take 4).drop 1) (h.part (lo:=1) (hi:=4) (cap:=c) oM oM r) dC) ?_⟩;rintro _ Y ⟨rfl,rfl⟩;have J:gO ((x.take 4).drop 1)=e:=by
  rw [Vp oM];show gO [x.getD 1 0,x.getD 2 0,x.getD 3 0]=e;simp only [gO,List.foldl];omega
 have Z:e<16777216:=by
  have h1:=(x.getD 1 0).toNat_lt;have h2:=(x.getD 2 0).toNat_lt;have h3:=(x.getD 3 0).toNat_lt;omega
 rw [J];obtain⟨k,g,t,rfl,K,_,i⟩:=h.mh (i:=0) oM;have j:x.getD 0 0=t:=by rw [QQ,K];rfl
 have L:IntKind.wrap .i64 (e:Int)=(e:Int):=wrap_i64 (by unfold aN;omega);have M:IntKind.wrap .i64 (4+(e:Int))=((4+e:Nat):Int):=by rw [wrap_i64 (by unfold aN;omega)];omega
 have N:IntKind.wrap .i64 (((4+e:Nat):Int)+5)=((4+e+5:Nat):Int):=by rw [wrap_i64 (by unfold aN;omega)];omega
 refine⟨_,rfl,k,g,rfl,oM,oM,_,i,?_⟩;rw [L,M,N];refine al.dX (λm=>?_) (λn=>al.dec (λm=>?_) (λa8=>al.dec (λm=>?_) (λa7=>?_)))
 ·rw [f,j,if_pos (UInt8.toNat_inj.1 (by
                        have:t.toNat=0:=oM
                        rw [this];rfl))]
  exact Ok.mk ⟨rfl,bE.refl b⟩
 ·rw [f,j,if_neg (by rintro rfl;exact n rfl),if_pos oM]
  exact Ok.mk ⟨rfl,bE.refl b⟩
 ·rw [f,j,if_neg (by rintro rfl;exact n rfl),if_neg oM,if_pos oM]
  exact Ok.mk ⟨rfl,bE.refl b⟩
 rw [j,if_neg (by rintro rfl;exact n rfl),if_neg (show¬65536<e by omega),if_neg (show¬x.length<e+9 by omega)]at f;have l:=V_ (b:=x) (n:=e) oM s oM;rw [j]at l;refine⟨oM,oM,oM,oM,oM,λw8 u O v=>⟨oM,oM,?_⟩⟩;have w:ai b O:=(u.then v).keep;have y:=h.af w;refine PC.ok (NY (E.af w) (y.take (m:=4+e) oM)) ?_;rintro _ P ⟨rfl,z⟩;have A:=y.af z.keep;have B:=A.part (lo:=4+e) (hi:=4+e+4) (cap:=c) oM oM r;rw [show 4+e+4-(4+e)=4 by omega]at B;refine⟨_,rfl,PC.ok (wJ B dC) ?_⟩;rintro _ a9 ⟨rfl,rfl⟩;have Q:(x.take (4+e+4)).drop (4+e)=(x.drop (4+e)).take 4:=by rw [List.drop_take];congr 1;omega
 rw [Q];have o:bE b P:=(u.then v).then z;refine⟨_,rfl,al.dw (λp=>?_) (λb0=>?_)⟩
 ·rw [f,if_neg (λi=>p (by rw [(l.1 i).1]))]
  exact Ok.mk ⟨rfl,o⟩
 obtain⟨b7,o8,q,R,S,_,T⟩:=A.mh (i:=8+e) oM
 cases R
 have C:x.getD (8+e) 0=q:=by rw [QQ,S];rfl
 have U:cM (some ⟨k,g,none⟩) (4+e) c 1=some ⟨k,g+(4+e),none⟩:=by
  unfold cM;rw [if_neg oM];simp [Addr.add_lit]
 refine⟨k,g+(4+e),U,oM,oM,_,by rw [show g+(4+e)+Int.toNat 4=g+(8+e) by show g+(4+e)+4=_;omega];exact T,al.dw (λp=>?_) (λhe=>?_)⟩
 ·rw [f,if_neg (λi=>p (by rw [<-C,(l.1 i).2];rfl))]
  exact Ok.mk ⟨rfl,o⟩
 ·have V:q=10:=UInt8.toNat_inj.1 (by show q.toNat=10;omega)
  rw [f,if_pos (l.2 ⟨oM,C.trans V⟩)];exact Ok.mk ⟨sM,o⟩
theorem FQ {D:Nat->Prop} (Q:qU b) (f:Row gq 1 b D d a x) (t:a<=c) (u:∀e,D e->e<b.heap.size):
  Calls ZQ 182 #[.slice d a c] b (Ok λR v=>∃w y z A,R= .tuple #[.agg #[QH (bC x).kind,.slice w y z],QH ((bC x).n:Int),QH (bC x).no]/\
   aV gq 5 A v w y z (bC x).body/\ai b v/\∀e,A e->b.heap.size<=e):=by
 have hn:=f.len;have S:=f.d_;unfold aQ at S;refine Hw (PA.mk λB j s1 T=>PC.ok (JE (Q.af j) (f.af j) t) ?_);rintro _ C ⟨rfl,U⟩;have k:ai B C:=U.keep;have E:=k.get T id;refine⟨_,_,rfl,al.dw (λl=>?_) (λm=>?_)⟩
 ·have n:(bC x).kind=0/\(bC x).body=[]/\(bC x).n=0:=by
   rw [CB x _ rfl]at l⊢
   repeat' split
   all_goals first|exact⟨rfl,rfl,rfl⟩|skip
   rename_i V W X Y Z;rw [if_neg V,if_neg W,if_neg X,if_neg Y,if_pos Z]at l;exact absurd rfl l
  rw [n.1,n.2.1,n.2.2];refine storeAll [QH 0,.slice none 0 0] E rfl λh i s3 F=>⟨0,none,0,0,ae F rfl,ae F rfl,Ok.mk ⟨none,0,0,λ_=>False,rfl,aV.nil h,?_,λ_ o=>o.elim⟩⟩
  exact(j.then k).new i λe f=>.inr oM
 obtain⟨a0,h9,a1⟩:=wK m;generalize a2:(bC x).n=g at a0 h9 a1;obtain⟨a3,H,b1⟩:=Si m;rw [a2]at H;have I:(bC x).kind=((x.getD 0 0).toNat:Int)/\(bC x).body=(x.drop 4).take (g-9):=⟨a3,H⟩
 intro h a5;have i:ai C h:=a5.keep;have p:ai b h:=(j.then k).then i;have q:=f.af p;obtain⟨J,o6,K,rfl,hx,_,hc⟩:=q.mh (i:=0) oM;obtain⟨b2,b3,x',es,a6,_,a7,_⟩:=q.sS (i:=0) oM
 cases a6
 have a8:x.getD 0 0=K:=by rw [QQ,hx];rfl
 have e4:IntKind.wrap .i64 (4+((g-9:Nat):Int))=((4+(g-9):Nat):Int):=by rw [wrap_i64 (by unfold aN;omega)];omega
 have e9:IntKind.wrap .i64 (((4+(g-9):Nat):Int)+5)=(g:Int):=by rw [wrap_i64 (by unfold aN;omega)];omega
 refine⟨λe=>b.heap.size<=e,J,o6,rfl,oM,oM,by have:=u J a7;omega,_,hc,?_⟩;rw [e4,e9];refine⟨oM,oM,oM,?_⟩;have a4:=q.part (lo:=4) (hi:=4+(g-9)) (cap:=c) oM oM t;refine PC.ok (lG a4 (λe o=>by have:=u e o;have:=p.size;omega)) ?_;rintro _ w4 ⟨L,M,N,F4,rfl,a9,r,O⟩;have b4:B.heap.size<=h.heap.size:=(k.then i).size;have g4:=r.get (i.get E id) id;refine⟨_,_,_,rfl,r.keep,?_⟩;refine storeAll [QH (IntKind.wrap .i64 (K.toNat:Int)),.slice L M N] g4 rfl λw5 s s5 P=>⟨s.mono λe _ b0=>oM,_,_,_,_,ae P rfl,ae P rfl,Ok.mk ⟨L,M,N,F4,?_,?_,?_,?_⟩⟩
 ·rw [Mm,I.1,a8,m]
 ·rw [I.2,<-show(x.take (4+(g-9))).drop 4=(x.drop 4).take (g-9) by rw [List.drop_take];congr 1;omega]
  exact a9.keep s λe f b0=>by have:=O e f;omega
 ·exact(p.then r).new s λe f=>.inr oM
 ·intro e f;have:=O e f;omega
end Go.Proofs.YtfchlbaidamodaaGreatDoor
namespace Go.Proofs.YtfchlbaidamodaaGreatDoor
open Go.ax
variable{U r:Array Value}{a7:FrameMode}{z:FuncId}{e:Int}{b3 u:List Int}{a0:List PanicEntry->World->Prop}{x:List UInt8}{C:List ah}{a c i:Nat}{f:Nat->Prop}{Q W:Operand}{d p:Option Addr}{h:Program}{b:World}{y:World->Prop}{n:ah}{Y:g_}
theorem SQ (m:fF b a f Y):
  Calls ZQ 254 #[.pointer (some ⟨a,0,none⟩),QH e] b (Wu b a f Y (if Y.num.1=0 then(if Y.num.2.1<0\/e<Y.num.2.1 then 3 else 0)else Y.num.1) (λk n=>k= QH Y.num.2.1) Y.num.2.2):=by
 refine tu (PC.red (Gv m) ?_ ?_)
 rotate_left
 ·intro g l h i j
  rw [if_neg g];exact⟨.inr ⟨g,rfl,h⟩,i,j⟩
 rintro g _ l h rfl i j;rw [if_pos g];have d:Y.num.2.1<0\/e<Y.num.2.1->Wu b a f Y (if Y.num.2.1<0\/e<Y.num.2.1 then 3 else 0) (λk n=>k= QH Y.num.2.1) Y.num.2.2 (.panicked (Vw 3)) l:=λc=>by
  rw [if_pos c];exact⟨.inr ⟨dC,rfl,_,h⟩,i,j⟩
 refine⟨_,rfl,al.dec (λo=>gy (λc=>⟨rfl,?_⟩) (λc=>d (.inr ?_))) (λo=>gy (λc=>by cases c) (λ_=>d (.inl oM)))⟩
 ·have c:=XV c
  rw [if_neg oM];exact⟨.inl ⟨rfl,h,_,rfl,rfl⟩,i,j⟩
 ·have c:=Xy c
  omega
theorem Kn :(do eqGuard .eql 20 Q (.const .nilIface) .nilIface .nilIface;binOp .eql 20 .nilIface .nilIface:Sem Value).run ZQ b= .ok (.bool true) b:=by
 cases Q<;>rfl
theorem Ih :(do eqGuard .eql 20 Q W (.iface 376 (QH e)) .nilIface;binOp .eql 20 (.iface 376 (QH e)) .nilIface:Sem Value).run ZQ b= .ok (.bool false) b:=by
 rfl
theorem Ko :(Instr.typeAssert (.iface 376 (QH e)) 20 376 true).run ZQ b= .ok (.tuple #[QH e,.bool true]) b:=by
 rfl
theorem Lv.ret {ret:World->Prop} (a:a7= .returning) (c:ret b):Lv h ret a0 [] a7 b:=by
 subst a;unfold Lv;exact c
theorem Lv.one {w:World} (c:a7≠.run) (d:enters h z=true)
  (e:CallsD h z r a7 w λf a b=>Sx f (λ_=>Lv h y a0 [] (settle a) b) (λg=>Lv h y a0 [] (raised a g) b)):Lv h y a0 [{target:=.fn (.func z) r,args:= #[]}] a7 w:=
 ⟨c,z,r,rfl,d,by rw [show(#[]++r:Array Value)=r by simp];exact e⟩
theorem DB {j S:Nat->Prop} (f:fF b a j Y) (J:enters ZQ z=true) {A:World->Prop} {no:Int} (t:∀g,S g->g<b.heap.size)
  (K:Y.sO=0->∀e,ai b e->Calls ZQ z (r++ #[]++U) e λd c=>aj S e c/\((no=0/\d= .returned (.tuple #[])/\A c)\/(no≠0/\(no=3\/no=4\/no=5)/\d= .panicked (Vw no)/\aj (·=a) e c/\∃u,fF c a j ⟨Y.bytes,u,0⟩))):
  Calls ZQ 252 #[.pointer (some ⟨a,0,none⟩),.func (.func z) r U] b (Ok λL c=>L= .tuple #[]/\aj (λg=>S g\/g=a) b c/\
   ((Y.sO≠0/\ai b c)\/(Y.sO=0/\no=0/\aj S b c/\A c)\/(Y.sO=0/\no≠0/\aj (·=a) b c/\fF c a j ⟨Y.bytes,Y.pos,no⟩))):=by
 obtain⟨a0,a2,M,G,v,h2,h3⟩:=f.body;have hp:=aC v;refine pW (PA.mk λe k s1 l=>?_);have w:=k.get v id;refine⟨_,ae l rfl,a,0,rfl,_,ae w rfl,al.dw (λN=>Ok.mk ⟨rfl,k.keep,.inl ⟨N,k⟩⟩) (λm=>?_)⟩;refine⟨_,ae l rfl,a,0,rfl,_,ae w rfl,PA.mk λw2 O s2 P=>PS.mk P sM λn Q s3 R=>⟨z,r,U,rfl,J,?_⟩⟩;have x:aj (·=e.heap.size) e n:=O.keep.then Q;have o:ai b n:=k.new x λg hb=>.inr oM;refine(K m n o).mono ?_;rintro d h ⟨p,T⟩;have y:h.heap[b.heap.size]? =some (.cells #[.pointer (some ⟨a,0,none⟩)] 295 (0,0)):=p.get (x.get l (by intro d;omega)) (λq=>by have:=t _ q;omega);have V:h.heap[e.heap.size]? =some (.cells #[QH (Y.pos:Int)] 3 (0,0)):=p.get R (λq=>by have:=t _ q;omega);have B:aj S b h:=o.keep.then p;rcases T with⟨s,rfl,W⟩|⟨s,X,rfl,Z,u,C⟩
 ·refine⟨rfl,Lv.one sM kR ?_⟩
  refine CallsD.mono (gK (rv:=.nilIface) (u:=.returning) rfl (R:=λd i c=>d= .returned (.tuple #[])/\i= .returning/\c=h) ?_) ?_
  ·exact aH.mk Kn ⟨_,rfl,al.tt rfl ⟨rfl,rfl,rfl⟩⟩
  ·rintro d i c ⟨rfl,rfl,rfl⟩
   refine Lv.ret rfl ?_;exact Ok.mk ⟨rfl,B.mono λ_ _ f=>.inl f,.inr (.inl ⟨m,s,B,W⟩)⟩
 ·refine Lv.one sM kR ?_
  obtain⟨a',n',E,G',e1,e2,e3⟩:=C.body;refine CallsD.mono (gK (rv:=.iface 376 (QH no)) (u:=.panicking (Vw no)) rfl (R:=λd i c=>d= .returned (.tuple #[])/\settle i= .returning/\fF c a j ⟨Y.bytes,Y.pos,no⟩/\aj (·=a) b c) ?_) ?_
  ·refine aH.mk (v:=.bool false) (w':=h) ?_ ⟨_,rfl,al.ff rfl (aH.mk (v:=.tuple #[QH no,.bool true]) (w':=h) ?_ ⟨_,_,rfl,al.tt rfl ?_⟩)⟩
   ·exact Ih
   ·exact Ko
   ·refine⟨_,ae y rfl,_,ae y rfl,_,ae V rfl,a,0,rfl,PS.mk e1 sM λw5 F s5 g5=>⟨a,0,rfl,PS.mk g5 sM λw6 H s6 g6=>⟨rfl,rfl,?_,?_⟩⟩⟩
    ·exact C.fr (r':=⟨Y.bytes,Y.pos,no⟩) e2 e3 (F.then H) g6 rfl ⟨f.fit.pos,.inr X⟩
    ·exact(o.keep.then Z).then (F.then H)
  ·rintro d i c ⟨rfl,fz,a1,I⟩
   refine Lv.ret fz ?_;exact Ok.mk ⟨rfl,I.mono λ_ _ f=>.inr f,.inr (.inr ⟨m,s,I,a1⟩)⟩
theorem HE (c:fF b a f Y):
  Calls ZQ 185 #[.pointer (some ⟨a,0,none⟩)] b (Ok λr i=>r= QH (fu Y).1/\fF i a f (fu Y).2/\aj (·=a) b i):=by
 have P:a<b.heap.size:=c.aF a c.self;refine vY (PA.mk λm H Q x=>PA.mk λI s R t=>⟨_,ae (s.get x id) rfl,?_⟩);have y:ai b I:=H.then s;have u:=c.af y;have J:=s.get x id;refine PC.ok (DB (S:=λh=>h=a\/h=m.heap.size) (no:=Y.num.1) (A:=λi=>fF i a f ⟨Y.bytes,Y.pos+Y.num.2.2,Y.sO⟩/\i.heap[m.heap.size]? =some (.cells #[QH Y.num.2.1] 3 (0,0))) u kR ?_ ?_) ?_
 ·rintro h (rfl|rfl)<;>omega
 ·intro K n q
  refine tv ⟨_,ae (q.get J id) rfl,PC.red (Gv (u.af q)) ?_ ?_⟩
  ·rintro j _ z d rfl k A
   have v:=k.get (q.get t id) oM;refine⟨_,rfl,PS.mk v sM λS B T L=>⟨(k.mono λ_ _ c=>.inl c).then (B.mono λ_ _ c=>.inr c),.inl ⟨j,rfl,d.keep B λh o g=>?_,L⟩⟩⟩;have:=c.aF h o;omega
  ·rintro j z d k A
   rw [K]at d;have:=km (Y.bytes.drop Y.pos);exact⟨k.mono λ_ _ c=>.inl c,.inr ⟨j,by have:=this.2.2.2.1;unfold g_.num at j⊢;omega,rfl,k,d⟩⟩
 ·rintro _ n ⟨rfl,q,M⟩
  have N:aj (·=a) b n:=y.keep.new q λh o=>by
   rcases o with(rfl|rfl)|rfl
   ·exact .inl rfl
   ·exact .inr oM
   ·exact .inl rfl
  have e:∀w:Int,n.heap[m.heap.size]? =some (.cells #[QH w] 3 (0,0))->fF n a f (fu Y).2->w=(fu Y).1->
    (∃C:Int,n.cell? ⟨m.heap.size,0,none⟩=some (QH C)/\PS n ⟨m.heap.size,0,none⟩ (QH C) λE=>∃F:Int,E.cell? ⟨m.heap.size,0,none⟩=some (QH F)/\
     Ok (λr i=>r= QH (fu Y).1/\fF i a f (fu Y).2/\aj (·=a) b i) (.returned (QH F)) E):=by
   rintro w l d rfl;refine⟨_,ae l rfl,PS.mk l sM λz k A v=>⟨_,ae v rfl,Ok.mk ⟨rfl,d.keep k λh o g=>?_,N.new k λh o=>.inr oM⟩⟩⟩;have:=c.aF h o;omega
  refine⟨rfl,?_⟩;rcases M with⟨p,l⟩|⟨p,j,_,d,l⟩|⟨p,j,O,d⟩
  ·have g:fu Y=(0,Y):=by unfold fu;rw [if_pos p]
   exact e 0 (l.get t id) (by rw [g];exact u.af l) (by rw [g])
  ·have g:fu Y=(Y.num.2.1,⟨Y.bytes,Y.pos+Y.num.2.2,0⟩):=by unfold fu;rw [if_neg (by simp [p]),if_pos j]
   exact e _ l (by rw [g];rw [p]at d;exact d) (by rw [g])
  ·have g:fu Y=(0,⟨Y.bytes,Y.pos,Y.num.1⟩):=by unfold fu;rw [if_neg (by simp [p]),if_neg j]
   exact e 0 (O.get t oM) (by rw [g];exact d) (by rw [g])
theorem JD {m:Int} (d:fF b a f Y):
  Calls ZQ 184 #[.pointer (some ⟨a,0,none⟩),QH m] b (Ok λw k=>w= QH (bM m Y).1/\fF k a f (bM m Y).2/\aj (·=a) b k):=by
 have X:a<b.heap.size:=d.aF a d.self;refine tk (PA.mk λZ N s1 E=>PA.mk λo x sm O=>PA.mk λP v s2 y=>⟨_,ae (v.get (x.get E id) id) rfl,?_⟩);have F:ai b P:=(N.then x).then v;have z:=d.af F;have Q:=v.get (x.get E id) id;have R:=v.get O id;generalize i:(if Y.num.1=0 then(if Y.num.2.1<0\/m<Y.num.2.1 then 3 else 0)else Y.num.1:Int)=no;refine PC.ok (DB (S:=λj=>j=a\/j=o.heap.size) (no:=no) (A:=λk=>fF k a f ⟨Y.bytes,Y.pos+Y.num.2.2,Y.sO⟩/\k.heap[o.heap.size]? =some (.cells #[QH Y.num.2.1] 3 (0,0))) z kR ?_ ?_) ?_
 ·rintro j (rfl|rfl)<;>omega
 ·intro S p q
  refine qi ⟨_,ae (q.get Q id) rfl,_,ae (q.get R id) rfl,PC.red (SQ (z.af q)) ?_ ?_⟩
  ·rintro e _ H g rfl l I
   rw [i]at e;have A:=l.get (q.get y id) oM;refine⟨_,rfl,PS.mk A sM λw5 J s5 T=>⟨(l.mono λ_ _ d=>.inl d).then (J.mono λ_ _ d=>.inr d),.inl ⟨e,rfl,g.keep J λj r c=>?_,T⟩⟩⟩;have:=d.aF j r;omega
  ·rintro e H g l I
   rw [i]at e⊢;rw [S]at g;have B:=(km (Y.bytes.drop Y.pos)).2.2.2.1;refine⟨l.mono λ_ _ d=>.inl d,.inr ⟨e,?_,rfl,l,g⟩⟩
   change Y.num.1=0\/Y.num.1=4\/Y.num.1=5 at B
   rw [<-i]at e⊢;split
   ·rename_i c
    rw [if_pos c]at e;split
    ·exact .inl rfl
    ·rename_i t;rw [if_neg t]at e;exact absurd rfl e
   ·omega
 ·rintro _ p ⟨rfl,q,U⟩
  have V:aj (·=a) b p:=F.keep.new q λj r=>by
   rcases r with(rfl|rfl)|rfl
   ·exact .inl rfl
   ·exact .inr oM
   ·exact .inl rfl
  have h:∀C:Int,p.heap[o.heap.size]? =some (.cells #[QH C] 3 (0,0))->fF p a f (bM m Y).2->C=(bM m Y).1->
    (∃K:Int,p.cell? ⟨o.heap.size,0,none⟩=some (QH K)/\PS p ⟨o.heap.size,0,none⟩ (QH K) λL=>∃M:Int,L.cell? ⟨o.heap.size,0,none⟩=some (QH M)/\
     Ok (λw k=>w= QH (bM m Y).1/\fF k a f (bM m Y).2/\aj (·=a) b k) (.returned (QH M)) L):=by
   rintro C n g rfl;refine⟨_,ae n rfl,PS.mk n sM λH l I A=>⟨_,ae A rfl,Ok.mk ⟨rfl,g.keep l λj r c=>?_,V.new l λj r=>.inr oM⟩⟩⟩;have:=d.aF j r;omega
  refine⟨rfl,?_⟩;rcases U with⟨s,n⟩|⟨s,e,_,g,n⟩|⟨s,e,W,g⟩
  ·have c:bM m Y=(0,Y):=by unfold bM;rw [if_pos s]
   exact h 0 (n.get y id) (by rw [c];exact z.af n) (by rw [c])
  ·have c:bM m Y=(Y.num.2.1,⟨Y.bytes,Y.pos+Y.num.2.2,0⟩):=by
    have B:=(km (Y.bytes.drop Y.pos)).2.2.2.1
    change Y.num.1=0\/Y.num.1=4\/Y.num.1=5 at B
    unfold bM;rw [if_neg (by simp [s])];split at i
    ·rename_i u
     rw [if_pos u];split at i
     ·omega
     ·rename_i t;rw [if_neg t]
    ·omega
   exact h _ n (by rw [c];rw [s]at g;exact g) (by rw [c])
  ·have c:bM m Y=(0,⟨Y.bytes,Y.pos,no⟩):=by
    unfold bM;rw [if_neg (by simp [s])];split at i
    ·rename_i u
     rw [if_pos u];split at i
     ·rename_i t;rw [if_pos t,i]
     ·omega
    ·rename_i u;rw [if_neg u,i]
   exact h 0 (W.get y oM) (by rw [c];exact g) (by rw [c])
theorem Oa (h:fF b a f Y):
  Calls ZQ 186 #[.pointer (some ⟨a,0,none⟩)] b (Ok λi j=>i= QH (h_ Y)/\bE b j):=by
 obtain⟨o,p,k,G,d,l,q⟩:=h.body;have r:=l.len dC;have g:Y.sO≠0\/¬Y.pos<Y.bytes.length->h_ Y=Y.sO:=λs=>by unfold h_;rw [if_neg oM]
 refine uJ ⟨a,0,rfl,_,ae d rfl,al.dX (λe=>⟨a,0,rfl,_,ae d rfl,a,0,rfl,_,_,_,ae d rfl,λm c=>al.dec (λn=>?_) λn=>?_⟩) (λe m c=>?_)⟩
 ·exact Ok.mk ⟨by unfold h_;rw [if_pos ⟨e,oM⟩],c⟩
 ·exact⟨a,0,rfl,_,ae ((c.keep (S:=λ_=>False)).get d id) rfl,Ok.mk ⟨by rw [g (.inr oM)],c⟩⟩
 ·exact⟨a,0,rfl,_,ae ((c.keep (S:=λ_=>False)).get d id) rfl,Ok.mk ⟨by rw [g (.inl e)],c⟩⟩
theorem tN:jP ZQ 55 3 1 8:=⟨kR,kR,dC⟩
def aE (a:ah) (b:Option Addr) (c d:Nat):List Value:=
 [QH a.origin,QH a.seq,QH a.aA,.slice b c d,QH a.bd,QH a.agg,QH a.field,QH a.op,QH a.arg,QH a.key]
def fZ:kM ah where
 k:=10
 rep:=λj D e cs=>∃a b c,cs=aE e a b c/\Row aP 8 j D a b e.aK/\e.Ok
 keep:=λ⟨a,b,c,d,f,g⟩ k h=>⟨a,b,c,d,f.keep k h,g⟩
 mono:=λ⟨a,b,c,d,f,g⟩ h=>⟨a,b,c,d,f.mono h,g⟩
 len:=λ⟨a,b,c,d,_,_⟩=>by rw [d];rfl
 one:=λ⟨a,b,c,d,_,_⟩ l i=>by
  rw [d]at i;simp only [aE,Q2,List.not_mem_nil,or_false]at i;rcases i with rfl|rfl|rfl|rfl|rfl|rfl|rfl|rfl|rfl|rfl<;>rfl
def qz:kM ah where
 k:=10
 rep:=λn D g cs=>∃a b c d,cs=aE g a b c/\aV aP 3 d n a b c g.aK/\(∀e,d e->D e)/\g.Ok/\g.aK.length*8<=aQ
 keep:=λ⟨a,b,c,d,f,i,h,j⟩ o k=>⟨a,b,c,d,f,i.keep o (λe l=>k e (h e l)),h,j⟩
 mono:=λ⟨a,b,c,d,f,i,h,j⟩ k=>⟨a,b,c,d,f,i,λe l=>k e (h e l),j⟩
 len:=λ⟨a,b,c,d,f,_⟩=>by rw [f];rfl
 one:=λ⟨a,b,c,d,f,_⟩ p m=>by
  rw [f]at m;simp only [aE,Q2,List.not_mem_nil,or_false]at m;rcases m with rfl|rfl|rfl|rfl|rfl|rfl|rfl|rfl|rfl|rfl<;>rfl
theorem qz.read {D:Nat->Prop} {cs:List Value} (a:qz.rep b D n cs):fZ.rep b D n cs:=by
 obtain⟨c,d,e,k,f,g,h,i,j⟩:=a;exact⟨c,d,e,f,(g.row dC j).mono h,i⟩
theorem qz.row {D:Nat->Prop} (c:Row qz 96 b D d a C):Row fZ 96 b D d a C:=
 ⟨c.len,c.d_,λf g h=>by
  obtain⟨i,e,j,k,l,m,n,o⟩:=c.el f g h;exact⟨i,e,j,k,l,m,n,qz.read o⟩⟩
theorem Eg:jP ZQ 50 59 10 96:=⟨kR,kR,dC⟩
theorem HD {t v:Nat} {m D:Nat->Prop} {n S:Nat} (E:b.heap[a]? =some (.cells #[.slice d t v] 197 (0,0)))
  (j:aV gq 5 m b d t v x) (s:Row aP 8 b D p n u) (T:¬m a) (U:¬D a) (V:x.length+9*u.length+9<=aQ):
  Calls ZQ 282 #[.slice p n S,.pointer (some ⟨a,0,none⟩)] b (Ok λW k=>W= .tuple #[]/\∃f g h l,k.heap[a]? =some (.cells #[.slice f g h] 197 (0,0))/\
   aV gq 5 l k f g h (x++bt u)/\¬l a/\aj (·=a) b k/\∀c,l c->m c\/b.heap.size<=c):=by
 have X:=s.len;have a7:=aC E;have Y:=s.d_;unfold aQ at Y;refine EC ⟨λF i k=>∃e:Nat,i=e/\e<=n/\F=n-e/\∃f g h l,k.heap[a]? =some (.cells #[.slice f g h] 197 (0,0))/\
   aV gq 5 l k f g h (x++bt (u.take e))/\¬l a/\aj (·=a) b k/\∀c,l c->m c\/b.heap.size<=c,
  ⟨_,0,rfl,Qj _,rfl,d,t,v,m,E,by simpa [bt]using j,T,aj.refl _,λc w=>.inl w⟩,?_⟩
 rintro F i _ w1 ⟨e,rfl,hj,rfl,H,I,J,Z,y,o,a0,q,a1⟩;refine al.dec (λh1=>?_) (λh1=>?_)
 ·obtain⟨c,z,A,rfl,B,C,hc⟩:=(s.keep q (λc j r=>U (r▸j))).mh (i:=e) oM
  refine⟨c,z,rfl,oM,oM,A,hc,H,I,J,ae y rfl,?_⟩;have a8:(bt (u.take e)).length<=9*e:=by
   have:=fT (l:=u.take e) (λa9 hy=>by
    obtain⟨K,L⟩:=List.getElem?_of_mem (List.mem_of_mem_take hy);have a2:K<n:=by rw [X];exact(Qv.1 L).1
    obtain⟨_,_,b0,_,M,a3,_⟩:=s.mh (i:=K) a2;rw [L]at M;cases M;exact a3)
   simp only [Qy]at this;omega
  have a4:=o.len dC;rw [QX]at a4;unfold aQ at V;refine PC.ok (Cx C (o.row (bytes:=1) dC (by rw [QX];unfold aQ;omega)) (by unfold aQ;omega) o.aF) ?_;rintro _ w2 ⟨a5,n2,c2,N,rfl,a6,O,P⟩;have Q:¬N a:=λw=>by have:=P a w;have:=q.size;omega
  refine⟨_,_,_,rfl,PS.mk (O.get y id) sM λw3 R s3 g3=>⟨_,oM,e+1,an oM,oM,rfl,a5,n2,c2,N,g3,?_,Q,(q.af O).then R,λc j=>.inr (Xx q.size (P c j))⟩⟩;rw [Qw,B];have r:x++bt (List.take e u++(some A).toList)=x++bt (List.take e u)++eB A:=by rw [iP];simp [bt]
  rw [r];exact a6.keep R λc j r=>Q (r▸j)
 ·rw [Qz oM]at o
  exact Ok.mk ⟨rfl,H,I,J,Z,y,o,a0,q,a1⟩
theorem Cy {f:Nat×Nat} (c:List Int) (d:b.heap[a]? =some (.cells (c.map (Value.int .i64)).toArray 3 f)) (e:∀g∈c,aN g) (h:c.length<=1000):Row aP 8 b (·=a) (some ⟨a,0,none⟩) c.length c:=
 Row.lit d c sM e (by unfold aQ;omega)
theorem PD {D:Nat->Prop} (x:Row aP 8 b D d a n.aK) (e:n.Ok) (H:∀f,D f->f<b.heap.size):
  Calls ZQ 221 #[.agg (aE n d a c).toArray] b (Ok λI J=>∃y,I= .tuple #[y,QH (jt n).2]/\qD gq 5 b (jt n).1 y J):=by
 have K:=x.len;refine Jk (PA.mk λk o s1 z=>⟨d,a,c,ae z rfl,al.dec (λh=>?_) (λh=>?_)⟩)
 ·have r:jt n=([],3):=by unfold jt;rw [if_pos oM]
  rw [r];exact Ok.mk ⟨_,rfl,none,0,0,λ_=>False,rfl,aV.nil k,o,λ_ h=>h.elim⟩
 have a8:n.aK.length<=64:=oM
 have r:jt n=(bt (fU n),0):=by unfold jt;rw [if_neg oM]
 rw [r];have A:∀f,D f->f<k.heap.size:=λf i=>Qk (H f i) o.size;refine PA.mk λl s s2 L=>?_;have m:=s.get z id;refine⟨_,ae m rfl,_,ae m rfl,_,ae m rfl,_,_,_,ae m rfl,PA.mk λB C s3 M=>⟨_,_,_,rfl,kR,?_⟩⟩;have N:Row aP 8 B (·=l.heap.size) (some ⟨l.heap.size,0,none⟩) 4 [n.origin,n.seq,n.aA,(n.aK.length:Int)]:=
  Cy (f:=(0,0)) [n.origin,n.seq,n.aA,(n.aK.length:Int)] (by rw [M,<-K];rfl) (by intro t g;simp at g;rcases g with rfl|rfl|rfl|rfl;exact e.origin;exact e.seq;exact e.aA;unfold aN;omega) sM
 refine PC.ok (HD (C.get L id) (aV.nil B) N id (by show¬k.heap.size=l.heap.size;omega) (by unfold aQ;simp)) ?_;rintro _ E ⟨rfl,a4,n4,c4,F4,O,P,Q,R,S⟩;have p:aj (·=k.heap.size) l E:=C.keep.then R;have F:=p.get m oM;have T:Row aP 8 E D d a n.aK:=((x.af (o.then s)).keep p λf i n=>by have:=A f i;omega)
 refine⟨rfl,_,_,_,ae F rfl,_,_,_,rfl,kR,PC.ok (HD O P T Q (λh=>by have:=A _ h;omega) ?_) ?_⟩
 ·have u:=fT (l:=[n.origin,n.seq,n.aA,(n.aK.length:Int)]) (by intro t g;simp at g;rcases g with rfl|rfl|rfl|rfl;exact e.origin;exact e.seq;exact e.aA;unfold aN;omega)
  simp only [List.nil_append,Xq,List.length_nil]at u⊢;unfold aQ;omega
 rintro _ v ⟨rfl,a5,n5,c5,F5,U,V,W,w,X⟩;have j:=w.get F oM;refine⟨rfl,_,ae j rfl,_,ae j rfl,_,ae j rfl,_,ae j rfl,_,ae j rfl,_,ae j rfl,PA.mk λY q s6 Z=>⟨_,_,_,rfl,kR,?_⟩⟩;have r6:Row aP 8 Y (·=v.heap.size) (some ⟨v.heap.size,0,none⟩) 6 [n.bd,n.agg,n.field,n.op,n.arg,n.key]:=
  Cy (f:=(0,0)) [n.bd,n.agg,n.field,n.op,n.arg,n.key] Z (by intro t g;simp at g;rcases g with rfl|rfl|rfl|rfl|rfl|rfl;exact e.bd;exact e.agg;exact e.field;exact e.op;exact e.arg;exact e.key) sM
 have a6:=p.size;have a9:=w.size;refine PC.ok (HD (q.get U id) (V.af q) r6 W (by show¬k.heap.size=v.heap.size;omega) ?_) ?_
 ·have u:=fT (l:=[n.origin,n.seq,n.aA,(n.aK.length:Int)]) (by intro t g;simp at g;rcases g with rfl|rfl|rfl|rfl;exact e.origin;exact e.seq;exact e.aA;unfold aN;omega)
  have h2:=fT e.aK;simp only [List.nil_append,Xq,List.length_nil,QX]at u h2⊢;unfold aQ;omega
 rintro _ w7 ⟨rfl,a7,n7,c7,F7,g7,a2,b0,k7,a3⟩;refine⟨rfl,_,_,_,ae g7 rfl,Ok.mk ⟨_,rfl,a7,n7,c7,F7,rfl,?_,?_,?_⟩⟩
 ·have:fU n=[n.origin,n.seq,n.aA,(n.aK.length:Int)]++n.aK++[n.bd,n.agg,n.field,n.op,n.arg,n.key]:=rfl
  rw [this,iP,iP];exact a2
 ·have ka:ai b l:=o.then s
  exact(ka.new ((p.then w).then (q.keep.then k7)) λf i=>.inr oM)
 ·intro f i
  rcases a3 f i with h|h
  ·rcases X f h with h|h
   ·rcases S f h with h|h
    ·exact h.elim
    ·omega
   ·omega
  ·have:=q.size;omega
def rz (b:List Int) (c:Option Addr) (d e:Nat) (a:List Int):List Value:=
 [QH (b.getD 0 0),QH (b.getD 1 0),QH (b.getD 2 0),.slice c d e,QH (a.getD 0 0),QH (a.getD 1 0),QH (a.getD 2 0),QH (a.getD 3 0),QH (a.getD 4 0),QH (a.getD 5 0)]
theorem Me (b:u.length=i) (f:i<3):(rz u d a c b3).toArray.setIfInBounds i (QH e)=(rz (u++[e]) d a c b3).toArray:=by
 match u,b with
 |[],b=>subst b;rfl
 |[_],b=>subst b;rfl
 |[_,_],b=>subst b;rfl
 |_::_::_::_,b=>simp at b;omega
theorem Mf (b:b3.length=i) (f:i<6):(rz u d a c b3).toArray.setIfInBounds (4+i) (QH e)=(rz u d a c (b3++[e])).toArray:=by
 match b3,b with
 |[],b=>subst b;rfl
 |[_],b=>subst b;rfl
 |[_,_],b=>subst b;rfl
 |[_,_,_],b=>subst b;rfl
 |[_,_,_,_],b=>subst b;rfl
 |[_,_,_,_,_],b=>subst b;rfl
 |_::_::_::_::_::_::_,b=>simp at b;omega
theorem mu (a:Nat) (b:g_):aY (a+1) b=((aY a b).1++[(fu (aY a b).2).1],(fu (aY a b).2).2):=rfl
theorem PE {D:Nat->Prop} (g:Row gq 1 b D d a x) (hD:∀e,D e->e<b.heap.size):
  Calls ZQ 257 #[.slice d a c] b (Ok λa8 l=>∃a' n' c' w,a8= .tuple #[.agg (aE (iQ x).1 a' n' c').toArray,QH (iQ x).2]/\aV aP 3 w l a' n' c' (iQ x).1.aK/\ai b l/\∀e,w e->b.heap.size<=e):=by
 refine Jl (PA.mk λw1 k1 s1 g1=>PC.ok (FM (g.af k1) (λe h=>by have:=hD e h;omega)) ?_);rintro _ j ⟨k,a0,rfl,T,k2,hP⟩;refine⟨_,rfl,PA.mk λw3 U s3 g3=>PA.mk λy z s4 g4=>?_⟩;have c2:=T.self;have h4:w1.heap.size<=k/\k<j.heap.size:=⟨hP k c2,T.aF k c2⟩
 have V:=T.aF;have h2:=k2.size;have d8:=z.get g3 id;have d9:=z.get (U.get (k2.get g1 id) id) id;have e0:=(T.af U).af z;have b1:ai b y:=((k1.then k2).then U).then z;refine⟨λm C l=>∃f:Nat,C=f/\f<=3/\m=3-f/\l.heap[j.heap.size]? =some (.cells (rz (aY f ⟨x,0,0⟩).1 none 0 0 []).toArray 59 (0,0))/\fF l k a0 (aY f ⟨x,0,0⟩).2/\aj (λe=>e=j.heap.size\/e=k) y l,
  ⟨_,0,rfl,oM,rfl,d8,e0,aj.refl _⟩,?_⟩
 rintro m C _ w5 ⟨f,rfl,hj,rfl,c3,c4,k5⟩;have c5:(g_.mk x 0 0).Fit:=⟨Qj _,.inl rfl⟩
 refine al.dec (λO=>?_) (λO=>?_)
 ·have c6:f<3:=oM
  have g5:=k5.get g4 oM;have a1:w5.cell? ⟨w3.heap.size,0+Int.toNat (f:Int),none⟩=some (.pointer (some ⟨j.heap.size,f,none⟩)):=by
   rw [Qx,Xz]
   match f,c6 with
   |0,_=>exact ae g5 rfl
   |1,_=>exact ae g5 rfl
   |2,_=>exact ae g5 rfl
  refine⟨_,_,rfl,oM,oM,_,a1,PC.ok (HE c4) ?_⟩;rintro _ w6 ⟨rfl,P,Q⟩;have W:=Q.get c3 oM;refine⟨_,rfl,_,_,rfl,PS.mk W (by simp [rz];omega) λX E s7 g7=>⟨_,oM,f+1,an oM,oM,rfl,?_,?_,?_⟩⟩
  ·rw [g7,Me (c5.ints f).2.2.1 c6];rfl
  ·rw [mu]
   exact P.keep E λe g s=>by have:=V e g;omega
  ·exact k5.then ((Q.mono λ_ _ h=>.inr h).then (E.mono λ_ _ h=>.inl h))
 obtain rfl:f=3:=oM
 obtain⟨c7,e1,h5,_⟩:=c5.ints 3;refine PC.ok (JD c4) ?_;rintro _ w6 ⟨rfl,P,Q⟩;have W:=Q.get c3 oM;have e3:aj (λe=>e=j.heap.size\/e=k) y w6:=k5.then (Q.mono λ_ _ h=>.inr h);generalize hL:(aY 3 ⟨x,0,0⟩).1=I at W e1;generalize hR:(aY 3 ⟨x,0,0⟩).2=a5 at P c7;obtain⟨Y,e4,c8,_⟩:=c7.count (m:=64) oM;generalize hC:(bM 64 a5).1=J at e4 c8;generalize e5:(bM 64 a5).2=F at P Y;refine⟨_,rfl,λm C l=>∃f:Nat,C=f/\f<=J.toNat/\m=J.toNat-f/\∃t p u w,l.heap[j.heap.size]? =some (.cells (rz I t p u []).toArray 59 (0,0))/\fF l k a0 (aY f F).2/\
   aV aP 3 w l t p u (aY f F).1/\(∀e,w e->y.heap.size<=e)/\aj (λe=>e=j.heap.size\/e=k) y l,
  ⟨_,0,rfl,oM,rfl,none,0,0,λ_=>False,W,P,aV.nil w6,λ_ h=>h.elim,e3⟩,?_⟩
 rintro m C _ X ⟨f,rfl,hj,rfl,t,p,u,w,b8,b9,c0,A,E⟩;have h6:=E.size;refine al.dec (λO=>?_) (λO=>?_)
 ·intro K c9
  have q:ai X K:=c9.keep;have s8:K.heap.size=X.heap.size:=by rw [c9.heap]
  refine⟨λe=>e≠j.heap.size,sM,t,p,u,ae (q.get b8 id) rfl,PC.ok (HE (b9.af q)) ?_⟩;rintro _ L ⟨rfl,Z,v⟩;have b2:=(Y.ints f).2.2.1;refine⟨_,rfl,v.mono (λe _ h=>oM),?_⟩;have M:aV aP 3 w L t p u (aY f F).1:=(c0.af q).keep v λe g s=>by have:=A e g;have:=z.size;omega
  refine PA.mk λB o h7 e6=>⟨o.keep,?_⟩
  have a2:=M.af o;have b0:=v.get (q.get b8 id) oM;have n:=o.get b0 id;have e7:=((Y.ints f).1.int).2.1;have d0:Row aP 8 B (·=L.heap.size) (some ⟨L.heap.size,0,none⟩) 1 [(fu (aY f F).2).1]:=Cy (f:=(0,0)) [(fu (aY f F).2).1] e6 (by simpa using e7) sM;refine lH a2 tN d0 (λe s=>⟨oM,?_⟩) (by rw [b2];unfold aQ;simp;omega) (by rw [b2];unfold maxLen;simp;omega) λd1 e8 R h8 d2 a3 h3 b3=>?_
  ·intro e2
   have:=M.aF e (M.self e e2);omega
  refine⟨_,_,_,rfl,PS.mk (a3.get n ?_) (by simp [rz]) λh9 c1 i0 e9=>⟨_,oM,f+1,an oM,oM,rfl,d1,p+1,e8,λe=>aI d1=some e,?_,?_,?_,?_,?_⟩⟩
  ·intro s;have:=A _ (M.self _ s);have:=z.size;omega
  ·rw [e9];rfl
  ·rw [mu]
   refine((Z.af o).keep a3 λe g s=>?_).keep c1 λe g s=>?_
   ·have:=A _ (M.self _ s);have:=V e g;have:=z.size;have:=U.size;omega
   ·have:=V e g;omega
  ·have f2:=d2.alone
   rw [mu];refine f2.keep c1 λe g s=>?_;rcases b3 e g with h|h
   ·have:=A e h;have:=z.size;omega
   ·have:=o.size;have:=v.size;have:=q.size;omega
  ·intro e g
   rcases b3 e g with h|h
   ·exact A e h
   ·have:=o.size;have:=v.size;have:=q.size;omega
  ·have ka:aj (λe=>e=j.heap.size\/e=k) y B:=((E.af q).then (v.mono λ_ _ h=>.inr h)).af o
   have kb:aj (λe=>e=j.heap.size\/e=k) y R:=ka.new a3 λe g=>.inr (A e (M.self e g));exact kb.then (c1.mono λ_ _ h=>.inl h)
 obtain rfl:f=J.toNat:=oM
 obtain⟨d3,f3,f4,_⟩:=Y.ints J.toNat;generalize f5:(aY J.toNat F).1=S at c0 f3 f4;generalize f7:(aY J.toNat F).2=r at b9 d3;refine PA.mk λK q s8 g8=>?_;have g0:=q.get b8 id;have g2:aj (λe=>e=j.heap.size\/e=k) y K:=E.af q;have g6:=c0.af q;have i1:=z.size;refine⟨λm C l=>∃f:Nat,C=f/\f<=6/\m=6-f/\l.heap[j.heap.size]? =some (.cells (rz I t p u (aY f r).1).toArray 59 (0,0))/\fF l k a0 (aY f r).2/\aj (λe=>e=j.heap.size\/e=k) K l,
  ⟨_,0,rfl,oM,rfl,g0,b9.af q,aj.refl _⟩,?_⟩
 rintro m C _ L ⟨f,rfl,hj,rfl,b0,Z,v⟩;refine al.dec (λO=>?_) (λO=>?_)
 ·have d4:f<6:=oM
  have N:=v.get g8 (by have:=E.size;omega);have a1:L.cell? ⟨X.heap.size,0+Int.toNat (f:Int),none⟩=some (.pointer (some ⟨j.heap.size,4+f,none⟩)):=by
   rw [Qx,Xz]
   match f,d4 with
   |0,_=>exact ae N rfl
   |1,_=>exact ae N rfl
   |2,_=>exact ae N rfl
   |3,_=>exact ae N rfl
   |4,_=>exact ae N rfl
   |5,_=>exact ae N rfl
  refine⟨_,_,rfl,oM,oM,_,a1,PC.ok (HE Z) ?_⟩;rintro _ B ⟨rfl,d5,o⟩;have n:=o.get b0 oM;refine⟨_,rfl,_,_,rfl,PS.mk n (by simp [rz];omega) λR H d6 i=>⟨_,oM,f+1,an oM,oM,rfl,?_,?_,?_⟩⟩
  ·rw [i,Mf (d3.ints f).2.2.1 d4];rfl
  ·rw [mu]
   exact d5.keep H λe g s=>by have:=V e g;omega
  ·exact v.then ((o.mono λ_ _ h=>.inr h).then (H.mono λ_ _ h=>.inl h))
 obtain rfl:f=6:=oM
 have a6:jF ⟨x,0,0⟩=(⟨I.getD 0 0,I.getD 1 0,I.getD 2 0,S,(aY 6 r).1.getD 0 0,(aY 6 r).1.getD 1 0,(aY 6 r).1.getD 2 0,(aY 6 r).1.getD 3 0,(aY 6 r).1.getD 4 0,(aY 6 r).1.getD 5 0⟩,(aY 6 r).2):=by
  unfold jF;simp only [hL,hR,hC,e5,f5,f7]
 refine PC.ok (Oa Z) ?_;rintro _ B ⟨rfl,d7⟩;have o:ai L B:=d7.keep;have b4:aj (λe=>e=j.heap.size\/e=k) K B:=v.af o;have b5:aj (λe=>e=j.heap.size\/e=k) y B:=g2.then b4;have b6:=b5.get d9 oM;have n:=o.get b0 id;have a2:aV aP 3 w B t p u S:=g6.keep b4 λe g s=>by have:=A e g;omega
 have b7:ai b B:=b1.new b5 λe g=>.inr oM;have a7:h_ (jF ⟨x,0,0⟩).2=h_ (aY 6 r).2:=by rw [a6]
 refine⟨_,rfl,al.dw (λh0=>?_) (λhe=>?_)⟩
 ·have a4:iQ x=(Cz,h_ (aY 6 r).2):=by unfold iQ;rw [a7,if_pos h0]
  rw [a4];refine storeAll [QH 0,QH 0,QH 0,.slice none 0 0,QH 0,QH 0,QH 0,QH 0,QH 0,QH 0] b6 rfl λR H d6 i=>?_;refine⟨0,0,0,none,0,0,0,0,0,0,0,0,ae i rfl,ae i rfl,ae i rfl,ae i rfl,ae i rfl,ae i rfl,ae i rfl,ae i rfl,ae i rfl,ae i rfl,Ok.mk ⟨none,0,0,λ_=>False,rfl,aV.nil R,?_,λ_ h=>h.elim⟩⟩;exact b7.new H λe g=>.inr oM
 ·have a4:iQ x=((jF ⟨x,0,0⟩).1,0):=by unfold iQ;rw [a7,if_neg (by simpa using he)]
  rw [a4,a6];refine⟨_,_,_,t,p,u,_,_,_,_,_,_,ae n rfl,ae n rfl,ae n rfl,ae n rfl,ae n rfl,ae n rfl,ae n rfl,ae n rfl,ae n rfl,ae n rfl,?_⟩;refine storeAll (rz I t p u (aY 6 r).1) b6 rfl λR H d6 i=>?_;refine⟨_,_,_,t,p,u,_,_,_,_,_,_,ae i rfl,ae i rfl,ae i rfl,ae i rfl,ae i rfl,ae i rfl,ae i rfl,ae i rfl,ae i rfl,ae i rfl,Ok.mk ⟨t,p,u,w,rfl,a2.keep H λe g s=>?_,?_,λe g=>?_⟩⟩
  ·have:=A e g;omega
  ·exact b7.new H λe g=>.inr oM
  ·have:=A e g;have:=b1.size;omega
end Go.Proofs.YtfchlbaidamodaaGreatDoor
namespace Go.ax
open Go
def fq (a:List UInt8):Nat:=a.foldl (λb c=>b*10+(c.toNat-48)) 0
def gQ (a:UInt8):Bool:=decide (48<=a.toNat/\a.toNat<=57)
theorem fY (a:List UInt8) (b:UInt8):fq (a++[b])=fq a*10+(b.toNat-48):=by simp [fq,List.foldl_append]
variable{e m:Int}{x:List UInt8}{a:Nat}{j:Type}
theorem xz {a b:List j} (c:a≠[]):(a++b).head? =a.head? :=by
 cases a with
 |nil=>exact absurd rfl c
 |cons d a=>rfl
theorem vA:∀(a:Nat),fq (Lib.decDigits a)=a/\(Lib.decDigits a).all gQ=true/\Lib.decDigits a≠[]/\(a≠0->(Lib.decDigits a).head? ≠some 48):=by
 intro a
 induction a using Nat.strongRecOn with
 |_ a e=>
  rw [Lib.decDigits]
  by_cases c:a<10
  ·rw [dif_pos c]
   have b:(UInt8.ofNat (48+a)).toNat=48+a:=by rw [UInt8.toNat_ofNat'];omega
   refine⟨by simp [fq];omega,by simp [gQ,b];omega,sM,λj=>?_⟩;intro d;simp only [List.head?_cons,Q1]at d;have:=congrArg UInt8.toNat d;rw [b]at this;simp at this;omega
  ·rw [dif_neg c]
   obtain⟨f,g,h,i⟩:=e (a/10) oM;have b:(UInt8.ofNat (48+a % 10)).toNat=48+a % 10:=by rw [UInt8.toNat_ofNat'];omega
   refine⟨by rw [fY,f,b];omega,?_,sM,λ_=>?_⟩
   ·rw [List.all_append,g];simp [gQ,b];omega
   ·rw [xz h];exact i oM
theorem DP:∀{a:List UInt8},a.all gQ=true->a≠[]->a.head? ≠some 48->0<fq a:=by
 intro a;generalize b:a.length=g
 induction g generalizing a with
 |zero=>intro _ h;exact absurd (QW b) h
 |succ g i=>
  intro c k d;rcases List.eq_nil_or_concat a with rfl|⟨a,e,rfl⟩
  ·cases b
  rw [List.concat_eq_append]at b c d⊢;rw [List.all_append,QK]at c;have l:48<=e.toNat/\e.toNat<=57:=by simpa [gQ]using c.2
  rw [fY]
  by_cases f:a=[]
  ·subst f
   have:e.toNat≠48:=λj=>d (by simp;exact UInt8.toNat_inj.1 j);omega
  ·have:=i (by simpa using b) c.1 f (by rwa [xz f]at d)
   omega
theorem Ff:∀{a:List UInt8},a.all gQ=true->a≠[]->(a.head? ≠some 48\/a.length=1)->Lib.decDigits (fq a)=a:=by
 intro a;generalize g:a.length=h
 induction h generalizing a with
 |zero=>intro _ k;exact absurd (QW g) k
 |succ h l=>
  intro c p d;rcases List.eq_nil_or_concat a with rfl|⟨a,b,rfl⟩
  ·cases g
  rw [List.concat_eq_append]at g c d⊢;rw [List.all_append,QK]at c;have q:48<=b.toNat/\b.toNat<=57:=by simpa [gQ]using c.2
  have j:UInt8.ofNat (48+(b.toNat-48))=b:=UInt8.toNat_inj.1 (by rw [UInt8.toNat_ofNat'];omega);rw [fY]
  by_cases e:a=[]
  ·subst e
   have m:fq []*10+(b.toNat-48)=b.toNat-48:=by simp [fq]
   rw [m,Lib.decDigits,dif_pos oM,j]
   rfl
  ·have r:0<a.length:=List.length_pos_iff.2 e
   have i:a.length=h:=by simpa using g
   have f:a.head? ≠some 48:=by
    rcases d with d|d
    ·rwa [xz e]at d
    ·omega
   have s:=DP c.1 e f;rw [Lib.decDigits,dif_neg oM];have n:(fq a*10+(b.toNat-48))/10=fq a:=oM
   have o:(fq a*10+(b.toNat-48)) % 10=b.toNat-48:=oM
   rw [n,o,j,l i c.1 e (.inl f)]
theorem yR:∀(a:List UInt8),a.all gQ=true->fq a<10 ^ a.length:=by
 intro a;generalize b:a.length=d
 induction d generalizing a with
 |zero=>intro _;have:=QW b;subst this;decide
 |succ d f=>
  intro c;rcases List.eq_nil_or_concat a with rfl|⟨a,e,rfl⟩
  ·cases b
  rw [List.concat_eq_append]at b c⊢;rw [List.all_append,QK]at c;have g:48<=e.toNat/\e.toNat<=57:=by simpa [gQ]using c.2
  have:=f a (by simpa using b) c.1;rw [fY,Nat.pow_succ];omega
theorem pC {u:Nat} (i:u<1000000000000):(Lib.decDigits u).length<=12:=by
 rw [Lib.decDigits_length];apply Nat.le_of_not_lt;intro l
 by_cases j:u=0
 ·subst j;rw [Lib.nDigits_small oM]at l;omega
 ·have t:=Lib.lt_pow_nDigits u
  obtain⟨m,n,o,p⟩:=vA u;have k:=Lib.decDigits_length u;have key:∀(a:List UInt8),a.all gQ=true->a≠[]->a.head? ≠some 48->10 ^(a.length-1)<=fq a:=by
   intro a;generalize c:a.length=b
   induction b generalizing a with
   |zero=>intro _ i;exact absurd (QW c) i
   |succ b q=>
    intro d v f;rcases List.eq_nil_or_concat a with rfl|⟨a,w,rfl⟩
    ·cases c
    rw [List.concat_eq_append]at c d f⊢;have g:=d;rw [List.all_append,QK]at d;rw [fY]
    by_cases e:a=[]
    ·subst e
     have:=DP g sM f;rw [fY]at this;have r:b=0:=by simpa using c.symm
     subst r;simp at this⊢;omega
    ·have h:a.length=b:=by simpa using c
     have k:0<a.length:=List.length_pos_iff.2 e;have:=q a h d.1 e (by rwa [xz e]at f);have s:b+1-1=(b-1)+1:=oM
     rw [s,Nat.pow_succ];omega
  have:=key _ n o (p j);rw [m,k]at this;have x:10 ^ 12<=10 ^(Lib.nDigits u-1):=Nat.pow_le_pow_right oM oM;have:(10:Nat) ^ 12=1000000000000:=dC
  omega
def dV:List UInt8:=[115,101,103,46]
def aB (a:Int):List UInt8:=if a<0\/1000000000000<=a then []else dV++Lib.decDigits a.toNat
def jw (a:List UInt8):Option Nat:=if a.take 4=dV/\5<=a.length/\a.length<=16/\(a.drop 4).all gQ=true/\((a.drop 4).head? ≠some 48\/a.length=5)then some (fq (a.drop 4))else none
theorem mI (a:0<=e) (b:e<1000000000000):aB e=dV++Lib.decDigits e.toNat:=by unfold aB;rw [if_neg oM]
theorem pq (b:0<=e) (c:e<1000000000000):jw (aB e)=some e.toNat:=by
 rw [mI b c];obtain⟨d,f,g,h⟩:=vA e.toNat;have l:=pC (u:=e.toNat) oM;have m:0<(Lib.decDigits e.toNat).length:=List.length_pos_iff.2 g;have i:(dV++Lib.decDigits e.toNat).drop 4=Lib.decDigits e.toNat:=rfl;have j:(dV++Lib.decDigits e.toNat).take 4=dV:=rfl;have k:(dV++Lib.decDigits e.toNat).length=4+(Lib.decDigits e.toNat).length:=by rw [QX];rfl
 unfold jw;rw [i,j,k,d,if_pos];refine⟨rfl,oM,oM,f,?_⟩
 by_cases a:e.toNat=0
 ·right
  rw [a,Lib.decDigits_length,Lib.nDigits_small oM]
 ·exact .inl (h a)
theorem Dh (b:jw x=some a):aB a=x/\a<1000000000000:=by
 unfold jw at b;split at b
 ·rename_i f
  obtain⟨g,j,k,c,h⟩:=f;simp only [Q1]at b;have d:(x.drop 4).length=x.length-4:=sM
  have l:=yR _ c;have m:10 ^(x.drop 4).length<=10 ^ 12:=Nat.pow_le_pow_right oM oM;have n:(10:Nat) ^ 12=1000000000000:=dC
  have i:a<1000000000000:=oM
  refine⟨?_,i⟩;rw [mI oM oM,<-b,Qx,Ff c (λe=>by rw [e]at d;simp at d;omega) (h.imp id λe=>oM),<-g,List.take_append_drop]
 ·cases b
theorem Ka (d:0<=e) (b:e<1000000000000) (a:aB m=aB e):m=e:=by
 have c:=pq d b
 by_cases f:m<0\/1000000000000<=m
 ·unfold aB at a
  rw [if_pos f,if_neg oM]at a;exact absurd (congrArg List.length a) (by simp [dV])
 ·rw [<-a,pq oM oM]at c
  simp only [Q1]at c;omega
theorem DO (a:Int):(aB a).length<=16:=by
 unfold aB;split
 ·simp
 ·have:=pC (u:=a.toNat) oM
  rw [QX];show 4+_<=16;omega
theorem Iu (d:x.all gQ=true) (e:x.length<=12):jw (dV++x)=if aB (fq x)=dV++x then some (fq x)else none:=by
 have g:=yR _ d;have h:10 ^ x.length<=10 ^ 12:=Nat.pow_le_pow_right oM e;have i:(10:Nat) ^ 12=1000000000000:=dC
 split
 ·rename_i b
  rw [<-b,pq oM oM,Qx]
 ·rename_i b
  cases a:jw (dV++x)with
  |none=>rfl
  |some f=>
   obtain⟨c,j⟩:=Dh a;have:f=fq x:=by
    unfold jw at a;split at a
    ·exact(XJ a).symm
    ·cases a
   rw [this]at c;exact absurd c b
theorem KO (b:x.all gQ=false):jw (dV++x)=none:=by
 unfold jw;rw [if_neg];rintro⟨_,_,_,a,_⟩;have:(dV++x).drop 4=x:=rfl;rw [this,b]at a
 cases a
theorem QI (a:x.take 4≠dV):jw x=none:=by
 unfold jw;rw [if_neg λb=>a b.1]
theorem NA (a:16<x.length):jw x=none:=by
 unfold jw;rw [if_neg λb=>oM]
end Go.ax
namespace Go.Proofs.YtfchlbaidamodaaGreatDoor
open Go.ax
def pick (b a:Int):Int:=if a<1 then 0 else if b.tmod a<0 then b.tmod a+a else b.tmod a
theorem vm {k n:Int} (a:1<=n):0<=pick k n/\pick k n<n:=by
 unfold pick;rw [if_neg oM];have b:k.tmod n<n:=Int.tmod_lt_of_pos k oM;have c: -n<k.tmod n:=Int.lt_tmod_of_pos k oM;split<;>omega
variable{e m:Int}{b:World}
theorem CN (k:aN m):Calls ZQ 9 #[QH e,QH m] b (Ok λh i=>h= QH (pick e m)/\b=i):=by
 refine LH (al.mk (λc=>?_) (λc=>?_))
 ·have c:=XV c
  exact Ok.mk ⟨by simp [pick,c],rfl⟩
 ·have c:=Xy c
  have d:=vm (k:=e) (n:=m) oM;have j:∀f g,(do eqGuard .rem 3 f g (QH e) (QH m);binOp .rem 3 (QH e) (QH m):Sem Value).run ZQ b= .ok (QH (e.tmod m)) b:=λf g=>by
   have:m≠0:=oM
   simp [eqGuard,binOp,Op.intDiv,this]
  refine aH.mk (j _ _) ⟨_,rfl,al.mk (λa=>?_) (λa=>?_)⟩
  ·have a:=XV a
   unfold pick at d;rw [if_neg oM,if_pos a]at d;refine Ok.mk ⟨?_,rfl⟩;rw [wrap_i64 (by unfold aN at*;omega)];unfold pick;rw [if_neg oM,if_pos a]
  ·have a:=Xy a
   refine Ok.mk ⟨?_,rfl⟩;unfold pick;rw [if_neg oM,if_neg a]
end Go.Proofs.YtfchlbaidamodaaGreatDoor
namespace Go.Proofs
open Go.RowKit Go.Maps Go.Sort Go.Shelf
theorem Tryz.VP (d:Nat):AnyZ.SortsIn Tryz.prog Tryz.zb Fence.wide d:=
 ⟨λaI b a e c f g h=>callsIn_wide.2 (AnyM.slices_Sort_string Tryz.Ve aI b a e c f g h),
  λi a c=>callsIn_wide.2 (AnyM.slices_Sort_string_none Tryz.Ve i a c)⟩
end Go.Proofs
namespace Go.Proofs.YtfchlbaidamodaaGreatDoor
open Go.ax
open Go.RowKit Go.Maps Go.Sort Go.Shelf
def Zq (a b:ByteArray):Bool:=decide (a.data.toList<=b.data.toList)
def tP (a:List ByteArray):List ByteArray:=a.mergeSort Zq
theorem Pw (b:List ByteArray):(tP b).map (λa=>a.data.toList)=(b.map λa=>a.data.toList).mergeSort (λa c=>decide (a<=c)):=
 List.map_mergeSort (λd _ e _=>rfl)
theorem bT.Vf {c:Type} {a:c->Value} {d:c->Prop} {hl h1} {f:World} {D:Nat->Prop}:∀{b:List c},(∀x∈b,d x)->bT (flat 1 (λx=>[a x]) d hl h1) f D b (b.map a)
 |[],_=>rfl
 |x::b,e=>⟨[a x],b.map a,rfl,⟨rfl,e x (QV ..)⟩,bT.Vf λg h=>e g (QJ _ h)⟩
variable{g0:List (ByteArray×Value)}{a c:Nat}{H:Nat×Nat}{g:TypeId}{b:World}
theorem AK (k:cx b a Value.string g0) (J:∀i∈g0,i.1.size<=maxLen) (z:g0.length*16<=aQ) 
  (A:b.heap[c]? =some (.cells #[.map (some a)] g H)):
  Calls ZQ 246 #[.func (.func 296) #[] #[.pointer (some ⟨c,0,none⟩)]] b
   (Ok (qD Px 9 b (tP (g0.map (·.1))))):=by
 unfold aQ at z;obtain⟨f,j,K,q,L,M⟩:=k.at';have N:Tryz.prog.underlying 9=some .string:=Tryz.underlying9;have O:f.size=g0.length:=by have:=congrArg List.length q;simpa using this
 have B:∀e∈f.toList,∃d:ByteArray,e.key=Value.string d/\d.size<=maxLen:=λe h=>by
  have P:(e.key,e.val)∈g0.map (λi=>(Value.string i.1,i.2)):=by rw [<-q];exact Xk.2 ⟨e,h,rfl⟩
  obtain⟨i,Q,R⟩:=Xk.1 P;exact⟨i.1,(Prod.mk.inj R).1.symm,J i Q⟩
 have C:∀e∈f.toList,∀d:ByteArray,e.key=Value.string d->d.size<=maxLen->WideElems.rd ZQ 9 (λ_=>some ((.nil:DataW Unit),[])) e=some (.string d.data.toList,.nil):=λe _ d m o=>by
  simp [WideElems.rd,m,Go.WideMaps.keyOf_string_mk N o]
 have S:WideElems.Fit ZQ 9 (λ_=>some ((.nil:DataW Unit),[])) f j:=by
  refine⟨by unfold maxLen;omega,⟨L,M,?_⟩,λe h=>?_⟩
  ·have:f.toList.map (·.key)=(g0.map (·.1)).map Value.string:=by
    have:=congrArg (List.map (λt:Value×Value=>t.1)) q;simpa [Function.comp_def]using this
   rw [this];exact List.pairwise_map.2 (List.Pairwise.imp (λT=>by simpa using T) k.tidy)
  ·obtain⟨d,m,o⟩:=B e h
   exact⟨_,C e h d m o⟩
 have U:b.ownsMap ZQ 9 (λ_=>some ((.nil:DataW Unit),[])) a f.size (.map ((f.toList.map (WideElems.rg ZQ 9 (λ_=>some ((.nil:DataW Unit),[])))).foldr DataW.insert [])):=
  ⟨f,j,K,S,Q4 _,rfl⟩
 have E:Maps.size (.map ((f.toList.map (WideElems.rg ZQ 9 (λ_=>some ((.nil:DataW Unit),[])))).foldr DataW.insert []))=g0.length:=by
  show(List.foldr DataW.insert [] _).length=_;rw [(WideShapes.sorted_perm _).length_eq];simp [O]
 have V:(strKeys (.map ((f.toList.map (WideElems.rg ZQ 9 (λ_=>some ((.nil:DataW Unit),[])))).foldr DataW.insert []))).Perm ((g0.map (·.1)).map λd=>d.data.toList):=by
  refine(List.Perm.map (λi:Lit×DataW Unit=>Go.strOf i.1) (WideShapes.sorted_perm _)).trans ?_;have:(f.toList.map (WideElems.rg ZQ 9 (λ_=>some ((.nil:DataW Unit),[])))).map (λi=>Go.strOf i.1)=(g0.map (·.1)).map λd=>d.data.toList:=by
   have W:f.toList.map (λe=>match e.key with| .string d=>d.data.toList|_=>[])=(g0.map (·.1)).map λd=>d.data.toList:=by
    have:=congrArg (List.map (λt:Value×Value=>match t.1 with| .string d=>d.data.toList|_=>[])) q;simpa [Function.comp_def]using this
   rw [<-W,List.map_map];refine List.map_congr_left λe h=>?_;obtain⟨d,m,o⟩:=B e h;simp [WideElems.rg,C e h d m o,m,Go.strOf]
  rw [this]
 have X:SeqGives Fence.wide 1 ZQ 296 #[.pointer (some ⟨c,0,none⟩)] encStr (λn=>n.Perm (strKeys _)) (Maps.size _) b:=
  AnyZ.keys_gives (ρ:=Tryz.FI) {Tryz.tQ with} Fence.wide _ trivial rfl oM c a f.size _ b (aC A) (ae A rfl) U
 have Y:=AnyZ.sorted_in Tryz.T_ Fence.wide 4 trivial trivial trivial trivial rfl oM (Tryz.VP _) (enters_of Tryz.func295 kR rfl) 296 #[.pointer (some ⟨c,0,none⟩)] trivial
  (enters_of Tryz.func296 kR rfl) _ _ (by rw [E];unfold maxLen;omega) (by rw [E];exact z) b X
 refine((callsIn_wide (n:=4)).1 Y).mono ?_;rintro e Z ⟨a0,n,rfl,hS,r,a7,u⟩;have F:n.mergeSort (λd v=>decide (d<=v))=(tP (g0.map (·.1))).map λd=>d.data.toList:=by rw [Pw];exact Go.mergeSort_of_perm (hS.trans V)
 have a8:n.length=(tP (g0.map (·.1))).length:=by
  have:=congrArg List.length F;simpa using this
 have a1:((n.mergeSort (λd v=>decide (d<=v))).map encStr)=(tP (g0.map (·.1))).map Value.string:=by
  rw [F,List.map_map];refine List.map_congr_left λd _=>?_;show Value.string ⟨d.data.toList.toArray⟩=Value.string d;simp
 rw [a1]at r;have hv:∃p w,a0= .slice p n.length w:=by
  rcases r.2 with⟨rfl,h0⟩|⟨g',x,y,rfl,_⟩
  ·exact⟨none,0,by rw [h0]⟩
  ·exact⟨_,_,rfl⟩
 obtain⟨p,w,rfl⟩:=hv;have I:∀l,aI p=some l->b.heap.size<=l/\l<Z.heap.size:=λl s=>by
  rcases r.2 with⟨h,_⟩|⟨g',x,y,h,a9,a6,_⟩
  ·simp only [XX]at h
   rw [h.1]at s;cases s
  ·simp only [XX]at h
   rw [h.1]at s;simp only [aI,Q1]at s;have:=aC a6;omega
 exact Ok.mk ⟨p,_,w,λl=>aI p=some l,rfl,⟨⟨_,λ_=>False,⟨ownsRow_base_a r (Qj _)⟩,bT.Vf (λ_ _=>trivial),λ_ k=>k.elim⟩,λ_ k=>k,λl k=>(I l k).2⟩,aj.IQ u,λl k=>(I l k).1⟩
end Go.Proofs.YtfchlbaidamodaaGreatDoor

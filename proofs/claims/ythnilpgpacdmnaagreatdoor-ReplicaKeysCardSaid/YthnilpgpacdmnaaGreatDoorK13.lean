import Derived.Test.YthnilpgpacdmnaaGreatDoorK12
import Derived.StringKeys
namespace Go.Proofs.YthnilpgpacdmnaaGreatDoor
open Go.au
set_option maxRecDepth 100000
set_option linter.unusedVariables false
def Ep:fq:=⟨[],[],[],[],[]⟩
variable{t:Ending->World->Prop}{e:Int}{a c:Nat}{d:Option Addr}{b:World}
theorem Er (n:PA b (.cells #[.ii e,.slice d a c] 280) λf=>(rS f (ab_ b (0+1)) λE h D=>(rI f (ab_ b 0) λo=>al (decide (o<1)) (rt t ((.tuple #[.slice none 0 0,.ii 2])) f) ((rI f (ab_ b 0) λp=>al (decide (p>255)) (rt t ((.tuple #[.slice none 0 0,.ii 2])) f) (al (decide ((h:Int)>65536)) (rt t ((.tuple #[.slice none 0 0,.ii 5])) f) ((rI f (ab_ b 0) λq=>PA f (.cells #[.int .u8 (IntKind.wrap .u8 q),.int .u8 (IntKind.wrap .u8 (fU .i64 (h:Int) 16)),.int .u8 (IntKind.wrap .u8 (fU .i64 (h:Int) 8)),.int .u8 (IntKind.wrap .u8 (h:Int))] 5) λi=>(rS i (ab_ b (0+1)) λr s u=>PA i (.cells #[.slice (some (ab_ f 0)) 4 4,.slice r s u] 221) λv=>PC_ 281 #[.slice (some (ab_ i 0)) 2 2] v (kS_ λj k l w=>PC_ 282 #[.slice j k l] w (λx m=>∃g,x= .int .u32 g/\PA m (.cells #[.int .u8 (IntKind.wrap .u8 (fU .u32 g 24)),.int .u8 (IntKind.wrap .u8 (fU .u32 g 16)),.int .u8 (IntKind.wrap .u8 (fU .u32 g 8)),.int .u8 (IntKind.wrap .u8 g),.int .u8 10] 5) λy=>PR_ (ap_ 221 (.slice j k l) (.slice (some (ab_ m 0)) 5 5)) y (kS_ λz A B C=>rt t ((.tuple #[.slice z A B,.ii 0])) C) (pV t)) (pE t)) (pE t)))))))))):Calls Tryz.prog 219 #[.agg #[.ii e,.slice d a c]] b t:=DC Ep Tryz.func219 rfl n
end Go.Proofs.YthnilpgpacdmnaaGreatDoor
namespace Go.au
open Go
theorem Ae (a:List UInt8) (b:Nat) (c:(a.getD 1 0).toNat*65536+(a.getD 2 0).toNat*256+(a.getD 3 0).toNat=b):
  bk a=if a.length<4 then⟨0,[],0,4⟩else if a.getD 0 0=0 then⟨0,[],0,2⟩else if 65536<b then⟨0,[],0,5⟩else if a.length<b+9 then⟨0,[],0,4⟩else
   if a.take (b+9)=fE (a.getD 0 0).toNat ((a.drop 4).take b)then⟨(a.getD 0 0).toNat,(a.drop 4).take b,b+9,0⟩else⟨0,[],0,6⟩:=by
 unfold bk;rw [c]
variable{x:List UInt8}
theorem Oc (a:(bk x).no=0):(bk x).kind=((x.getD 0 0).toNat:Int)/\(bk x).body=(x.drop 4).take ((bk x).n-9)/\4<=x.length:=by
 rw [Ae x _ rfl]at a⊢;split at a
 ·cases a
 rename_i b;rw [if_neg b];split at a
 ·cases a
 rename_i c;rw [if_neg c];split at a
 ·cases a
 rename_i d;rw [if_neg d];split at a
 ·cases a
 rename_i e;rw [if_neg e];split at a
 ·rename_i f
  rw [if_pos f];exact⟨rfl,sM,oM⟩
 ·cases a
end Go.au
namespace Go.Proofs.YthnilpgpacdmnaaGreatDoor
open Go.au
set_option linter.unusedVariables false
set_option maxRecDepth 20000
def Af (a:List UInt8):List Value:=a.map λb=>Value.int .u8 (b.toNat:Int)
variable{e:Int}{x:List UInt8}{a c:Nat}{d:Option Addr}{b:World}
theorem CO {f:Nat×Nat} (c:List UInt8) (d:b.heap[a]? =some (.cells (Af c).toArray 5 f)) (g:c.length<=1000):Row fg 1 b (·=a) (some ⟨a,0,none⟩) c.length c:=
 Row.lit (enc:=λe:UInt8=>Value.int .u8 (e.toNat:Int)) d c (by simp [Af]) (λ_ _=>trivial) (by unfold aI;omega)
theorem CP {D:Nat->Prop} (B:oR b) (g:Row fg 1 b D d a x) (C:∀f,D f->f<b.heap.size):
  Calls Tryz.prog 219 #[.agg #[.int .i64 e,.slice d a c]] b (Ok λE F=>∃v,E= .tuple #[v,.int .i64 (jq e x).2]/\oy fg 5 b (jq e x).1 v F):=by
 have H:=g.len;refine Er (PA.mk λj l s1 m=>⟨d,a,c,ae m rfl,_,ae m rfl,al.dec (λh=>?_) (λh1=>⟨_,ae m rfl,al.dec (λh=>?_) (λh2=>al.dec (λh=>?_) (λh3=>?_))⟩)⟩)
 ·rw [show jq e x=([],2) by unfold jq;rw [if_pos oM]]
  exact Ok.mk ⟨_,rfl,none,0,0,λ_=>False,rfl,aO.nil j,l,λ_ h=>h.elim⟩
 ·rw [show jq e x=([],2) by unfold jq;rw [if_pos oM]]
  exact Ok.mk ⟨_,rfl,none,0,0,λ_=>False,rfl,aO.nil j,l,λ_ h=>h.elim⟩
 ·rw [show jq e x=([],5) by unfold jq;rw [if_neg oM,if_pos oM]]
  exact Ok.mk ⟨_,rfl,none,0,0,λ_=>False,rfl,aO.nil j,l,λ_ h=>h.elim⟩
 rw [show jq e x=(fE e x,0) by unfold jq;rw [if_neg oM,if_neg oM]];refine⟨_,ae m rfl,PA.mk λI n s2 J=>⟨d,a,c,ae (n.get m id) rfl,PA.mk λp o s3 K=>?_⟩⟩;have L:fU .i64 ((a:Nat):Int) 16=((a/65536:Nat):Int):=Lt (k:=.i64) (u:=a) (m:=16) dC;have M:fU .i64 ((a:Nat):Int) 8=((a/256:Nat):Int):=Lt (k:=.i64) (u:=a) (m:=8) dC;have N:e=((e.toNat:Nat):Int):=oM
 have O:I.heap[j.heap.size]? =some (.cells (Af [UInt8.ofNat e.toNat,UInt8.ofNat (x.length/65536),UInt8.ofNat (x.length/256),UInt8.ofNat x.length]).toArray 5 (0,0)):=by
  rw [J,L,M,N,iH,iH,iH,iH,H];simp [Af]
 have P:Row fg 1 p (λf=>D f\/f=j.heap.size) (some ⟨j.heap.size,0,none⟩) 4 [UInt8.ofNat e.toNat,UInt8.ofNat (x.length/65536),UInt8.ofNat (x.length/256),UInt8.ofNat x.length]:=
  (CO (f:=(0,0)) [UInt8.ofNat e.toNat,UInt8.ofNat (x.length/65536),UInt8.ofNat (x.length/256),UInt8.ofNat x.length] (o.get O id) sM).mono λf g=>.inr g
 have Q:Row fg 1 p (λf=>D f\/f=j.heap.size) d a x:=(g.ah ((l.then n).then o)).mono λf g=>.inl g;refine PC.ok (Ad K P Q (λf g=>g.elim (λh=>by have:=C f h;omega) λh=>oM) oM (by unfold aI;omega)) ?_;rintro _ q ⟨a4,n4,c4,F4,rfl,k,R,w⟩;have S:[UInt8.ofNat e.toNat,UInt8.ofNat (x.length/65536),UInt8.ofNat (x.length/256),UInt8.ofNat x.length]++x=ll e x:=rfl;rw [S]at k;have a8:=k.len dC;have r:(ll e x).length=4+x.length:=by simp [ll];omega
 have s:ai b q:=((l.then n).then o).then R;refine⟨_,_,_,rfl,PC.ok (Ky (B.ah s) (k.row (bytes:=1) dC (by rw [r];unfold aI;omega))) ?_⟩;rintro _ t ⟨rfl,T⟩;have u:ai q t:=T.af;refine⟨_,rfl,?_⟩;generalize U:(LO (ll e x)).toNat=i;have V:fU .u32 (i:Int) 24=((i/16777216:Nat):Int):=Lt (k:=.u32) (u:=i) (m:=24) dC;have W:fU .u32 (i:Int) 16=((i/65536:Nat):Int):=Lt (k:=.u32) (u:=i) (m:=16) dC;have X:fU .u32 (i:Int) 8=((i/256:Nat):Int):=Lt (k:=.u32) (u:=i) (m:=8) dC;rw [V,W,X,iH,iH,iH,iH];refine PA.mk λY y s6 Z=>?_;have a1:Y.heap[t.heap.size]? =some (.cells (Af (Od i++[10])).toArray 5 (0,0)):=by rw [Z];rfl
 have a2:=(k.ah u).ah y;have a9:q.heap.size<=t.heap.size:=u.size;refine jM a2 rZ (CO (Od i++[10]) a1 (by simp [Od])) (λf z=>⟨oM,λe2=>by have:=k.aC f (k.self f e2);omega⟩) (by rw [r];unfold aI;simp [Od];omega) (by rw [r];unfold maxLen;simp [Od];omega) λA c7 w7 F7 a3 a5 _ a6=>?_;refine⟨_,_,_,rfl,Ok.mk ⟨_,rfl,A,_,c7,λf=>aF A=some f,rfl,?_,?_,?_⟩⟩
 ·have h7:=a3.alone
  have z:fE e x=ll e x++(Od i++[10]):=by unfold fE;rw [U,XQ]
  rw [z];exact h7
 ·exact((s.then u).then y).new a5 λf g=>.inr (by have:=w f (k.self f g);have:=l.size;have:=n.size;have:=o.size;omega)
 ·intro f g
  have b0:b.heap.size<=p.heap.size:=oM
  rcases a6 f g with h|h
  ·have:=w f h;omega
  ·have:=s.size;omega
theorem GQ {D:Nat->Prop} (E:oR b) (h:Row fg 1 b D d a x) (r:a<=c):
  Calls Tryz.prog 229 #[.slice d a c] b (Ok λF H=>F= .tuple #[.int .i64 (((bk x).n-9:Nat):Int),.int .i64 (bk x).no]/\bd b H):=by
 have W:=h.len;have I:=h.dt;unfold aI at I;generalize s:(x.getD 1 0).toNat*65536+(x.getD 2 0).toNat*256+(x.getD 3 0).toNat=e;have f:=Ae x e s;refine zJ (al.dec (λm=>?_) (λX=>?_))
 ·rw [f,if_pos oM]
  exact Ok.mk ⟨rfl,bd.refl b⟩
 rw [if_neg (show¬x.length<4 by omega)]at f;refine⟨oM,oM,oM,PC.ok (ud (bs:=(x.take 4).drop 1) (h.part (lo:=1) (hi:=4) (cap:=c) oM oM r) dC) ?_⟩;rintro _ Y ⟨rfl,rfl⟩;have J:fK ((x.take 4).drop 1)=e:=by
  rw [RC oM];show fK [x.getD 1 0,x.getD 2 0,x.getD 3 0]=e;simp only [fK,List.foldl];omega
 have Z:e<16777216:=by
  have h1:=(x.getD 1 0).toNat_lt;have h2:=(x.getD 2 0).toNat_lt;have h3:=(x.getD 3 0).toNat_lt;omega
 rw [J];obtain⟨k,g,t,rfl,K,_,i⟩:=h.kp (i:=0) oM;have j:x.getD 0 0=t:=by rw [QQ,K];rfl
 have L:IntKind.wrap .i64 (e:Int)=(e:Int):=wrap_i64 (by unfold aK;omega);have M:IntKind.wrap .i64 (4+(e:Int))=((4+e:Nat):Int):=by rw [wrap_i64 (by unfold aK;omega)];omega
 have N:IntKind.wrap .i64 (((4+e:Nat):Int)+5)=((4+e+5:Nat):Int):=by rw [wrap_i64 (by unfold aK;omega)];omega
 refine⟨_,rfl,k,g,rfl,oM,oM,_,i,?_⟩;rw [L,M,N];refine al.dJ (λm=>?_) (λn=>al.dec (λm=>?_) (λa8=>al.dec (λm=>?_) (λa7=>?_)))
 ·rw [f,j,if_pos (UInt8.toNat_inj.1 (by
                        have:t.toNat=0:=oM
                        rw [this];rfl))]
  exact Ok.mk ⟨rfl,bd.refl b⟩
 ·rw [f,j,if_neg (by rintro rfl;exact n rfl),if_pos oM]
  exact Ok.mk ⟨rfl,bd.refl b⟩
 ·rw [f,j,if_neg (by rintro rfl;exact n rfl),if_neg oM,if_pos oM]
  exact Ok.mk ⟨rfl,bd.refl b⟩
 rw [j,if_neg (by rintro rfl;exact n rfl),if_neg (show¬65536<e by omega),if_neg (show¬x.length<e+9 by omega)]at f;have l:=Sp (b:=x) (n:=e) oM s oM;rw [j]at l;refine⟨oM,oM,oM,oM,oM,λw8 u O v=>⟨oM,oM,?_⟩⟩;have w:ai b O:=(u.then v).af;have y:=h.ah w;refine PC.ok (Ky (E.ah w) (y.take (m:=4+e) oM)) ?_;rintro _ P ⟨rfl,z⟩;have A:=y.ah z.af;have B:=A.part (lo:=4+e) (hi:=4+e+4) (cap:=c) oM oM r;rw [show 4+e+4-(4+e)=4 by omega]at B;refine⟨_,rfl,PC.ok (ud B dC) ?_⟩;rintro _ a9 ⟨rfl,rfl⟩;have Q:(x.take (4+e+4)).drop (4+e)=(x.drop (4+e)).take 4:=by rw [List.drop_take];congr 1;omega
 rw [Q];have o:bd b P:=(u.then v).then z;refine⟨_,rfl,al.df (λp=>?_) (λb0=>?_)⟩
 ·rw [f,if_neg (λi=>p (by rw [(l.1 i).1]))]
  exact Ok.mk ⟨rfl,o⟩
 obtain⟨b7,o8,q,R,S,_,T⟩:=A.kp (i:=8+e) oM
 cases R
 have C:x.getD (8+e) 0=q:=by rw [QQ,S];rfl
 have U:b_ (some ⟨k,g,none⟩) (4+e) c 1=some ⟨k,g+(4+e),none⟩:=by
  unfold b_;rw [if_neg oM];simp [Addr.add_lit]
 refine⟨k,g+(4+e),U,oM,oM,_,by rw [show g+(4+e)+Int.toNat 4=g+(8+e) by show g+(4+e)+4=_;omega];exact T,al.df (λp=>?_) (λhe=>?_)⟩
 ·rw [f,if_neg (λi=>p (by rw [<-C,(l.1 i).2];rfl))]
  exact Ok.mk ⟨rfl,o⟩
 ·have V:q=10:=UInt8.toNat_inj.1 (by show q.toNat=10;omega)
  rw [f,if_pos (l.2 ⟨oM,C.trans V⟩)];exact Ok.mk ⟨sM,o⟩
theorem CQ {D:Nat->Prop} (Q:oR b) (f:Row fg 1 b D d a x) (t:a<=c) (u:∀e,D e->e<b.heap.size):
  Calls Tryz.prog 167 #[.slice d a c] b (Ok λR v=>∃w y z A,R= .tuple #[.agg #[.int .i64 (bk x).kind,.slice w y z],.int .i64 ((bk x).n:Int),.int .i64 (bk x).no]/\
   aO fg 5 A v w y z (bk x).body/\ai b v/\∀e,A e->b.heap.size<=e):=by
 have hn:=f.len;have S:=f.dt;unfold aI at S;refine Eo (PA.mk λB j s1 T=>PC.ok (GQ (Q.ah j) (f.ah j) t) ?_);rintro _ C ⟨rfl,U⟩;have k:ai B C:=U.af;have E:=k.get T id;refine⟨_,_,rfl,al.df (λl=>?_) (λm=>?_)⟩
 ·have n:(bk x).kind=0/\(bk x).body=[]/\(bk x).n=0:=by
   rw [Ae x _ rfl]at l⊢
   repeat' split
   all_goals first|exact⟨rfl,rfl,rfl⟩|skip
   rename_i V W X Y Z;rw [if_neg V,if_neg W,if_neg X,if_neg Y,if_pos Z]at l;exact absurd rfl l
  rw [n.1,n.2.1,n.2.2];refine storeAll [.int .i64 0,.slice none 0 0] E rfl λh i s3 F=>⟨0,none,0,0,ae F rfl,ae F rfl,Ok.mk ⟨none,0,0,λ_=>False,rfl,aO.nil h,?_,λ_ o=>o.elim⟩⟩
  exact(j.then k).new i λe f=>.inr oM
 obtain⟨a0,h9,a1⟩:=ue m;generalize a2:(bk x).n=g at a0 h9 a1;obtain⟨a3,H,b1⟩:=Oc m;rw [a2]at H;have I:(bk x).kind=((x.getD 0 0).toNat:Int)/\(bk x).body=(x.drop 4).take (g-9):=⟨a3,H⟩
 intro h a5;have i:ai C h:=a5.af;have p:ai b h:=(j.then k).then i;have q:=f.ah p;obtain⟨J,o6,K,rfl,hx,_,hc⟩:=q.kp (i:=0) oM;obtain⟨b2,b3,x',es,a6,_,a7,_⟩:=q.vO (i:=0) oM
 cases a6
 have a8:x.getD 0 0=K:=by rw [QQ,hx];rfl
 have e4:IntKind.wrap .i64 (4+((g-9:Nat):Int))=((4+(g-9):Nat):Int):=by rw [wrap_i64 (by unfold aK;omega)];omega
 have e9:IntKind.wrap .i64 (((4+(g-9):Nat):Int)+5)=(g:Int):=by rw [wrap_i64 (by unfold aK;omega)];omega
 refine⟨λe=>b.heap.size<=e,J,o6,rfl,oM,oM,by have:=u J a7;omega,_,hc,?_⟩;rw [e4,e9];refine⟨oM,oM,oM,?_⟩;have a4:=q.part (lo:=4) (hi:=4+(g-9)) (cap:=c) oM oM t;refine PC.ok (jL a4 (λe o=>by have:=u e o;have:=p.size;omega)) ?_;rintro _ w4 ⟨L,M,N,F4,rfl,a9,r,O⟩;have b4:B.heap.size<=h.heap.size:=(k.then i).size;have g4:=r.get (i.get E id) id;refine⟨_,_,_,rfl,r.af,?_⟩;refine storeAll [.int .i64 (IntKind.wrap .i64 (K.toNat:Int)),.slice L M N] g4 rfl λw5 s s5 P=>⟨s.mono λe _ b0=>oM,_,_,_,_,ae P rfl,ae P rfl,Ok.mk ⟨L,M,N,F4,?_,?_,?_,?_⟩⟩
 ·rw [Ji,I.1,a8,m]
 ·rw [I.2,<-show(x.take (4+(g-9))).drop 4=(x.drop 4).take (g-9) by rw [List.drop_take];congr 1;omega]
  exact a9.af s λe f b0=>by have:=O e f;omega
 ·exact(p.then r).new s λe f=>.inr oM
 ·intro e f;have:=O e f;omega
end Go.Proofs.YthnilpgpacdmnaaGreatDoor
namespace Go.Proofs.YthnilpgpacdmnaaGreatDoor
open Go.au
set_option linter.unusedVariables false
set_option maxRecDepth 20000
variable{U r:Array Value}{a7:FrameMode}{z:FuncId}{e:Int}{b2 u:List Int}{a4:List PanicEntry->World->Prop}{x:List UInt8}{H:List aj}{a c i:Nat}{f:Nat->Prop}{Q W:Operand}{d p:Option Addr}{h:Program}{b:World}{y:World->Prop}{m:aj}{Y:ki}
theorem ON (m:eF b a f Y):
  Calls Tryz.prog 232 #[.pointer (some ⟨a,0,none⟩),.int .i64 e] b (SO b a f Y (if Y.num.1=0 then(if Y.num.2.1<0\/e<Y.num.2.1 then 3 else 0)else Y.num.1) (λk n=>k= .int .i64 Y.num.2.1) Y.num.2.2):=by
 refine qQ (PC.red (Dp m) ?_ ?_)
 rotate_left
 ·intro g l h i j
  rw [if_neg g];exact⟨.inr ⟨g,rfl,h⟩,i,j⟩
 rintro g _ l h rfl i j;rw [if_pos g];have d:Y.num.2.1<0\/e<Y.num.2.1->SO b a f Y (if Y.num.2.1<0\/e<Y.num.2.1 then 3 else 0) (λk n=>k= .int .i64 Y.num.2.1) Y.num.2.2 (.panicked (RL 3)) l:=λc=>by
  rw [if_pos c];exact⟨.inr ⟨dC,rfl,_,h⟩,i,j⟩
 refine⟨_,rfl,al.dec (λo=>fk (λc=>⟨rfl,?_⟩) (λc=>d (.inr ?_))) (λo=>fk (λc=>by cases c) (λ_=>d (.inl oM)))⟩
 ·have c:=XV c
  rw [if_neg oM];exact⟨.inl ⟨rfl,h,_,rfl,rfl⟩,i,j⟩
 ·have c:=Xy c
  omega
theorem Hs :(do eqGuard .eql 20 Q (.const .nilIface) .nilIface .nilIface;binOp .eql 20 .nilIface .nilIface:Sem Value).run Tryz.prog b= .ok (.bool true) b:=by
 cases Q<;>rfl
theorem E_ :(do eqGuard .eql 20 Q W (.iface 365 (.int .i64 e)) .nilIface;binOp .eql 20 (.iface 365 (.int .i64 e)) .nilIface:Sem Value).run Tryz.prog b= .ok (.bool false) b:=by
 rfl
theorem Ht :(Instr.typeAssert (.iface 365 (.int .i64 e)) 20 365 true).run Tryz.prog b= .ok (.tuple #[.int .i64 e,.bool true]) b:=by
 rfl
theorem Lv.ret {ret:World->Prop} (a:a7= .returning) (c:ret b):Lv h ret a4 [] a7 b:=by
 subst a;unfold Lv;exact c
theorem Lv.one {w:World} (c:a7≠.run) (d:enters h z=true)
  (e:CallsD h z r a7 w λf a b=>Ov f (λ_=>Lv h y a4 [] (settle a) b) (λg=>Lv h y a4 [] (raised a g) b)):Lv h y a4 [{target:=.fn (.func z) r,args:= #[]}] a7 w:=
 ⟨c,z,r,rfl,d,by rw [show(#[]++r:Array Value)=r by simp];exact e⟩
theorem AT {j S:Nat->Prop} (f:eF b a j Y) (J:enters Tryz.prog z=true) {A:World->Prop} {no:Int} (t:∀g,S g->g<b.heap.size)
  (K:Y.sV=0->∀e,ai b e->Calls Tryz.prog z (r++ #[]++U) e λd c=>ak S e c/\((no=0/\d= .returned (.tuple #[])/\A c)\/(no≠0/\(no=3\/no=4\/no=5)/\d= .panicked (RL no)/\ak (·=a) e c/\∃u,eF c a j ⟨Y.bytes,u,0⟩))):
  Calls Tryz.prog 230 #[.pointer (some ⟨a,0,none⟩),.func (.func z) r U] b (Ok λL c=>L= .tuple #[]/\ak (λg=>S g\/g=a) b c/\
   ((Y.sV≠0/\ai b c)\/(Y.sV=0/\no=0/\ak S b c/\A c)\/(Y.sV=0/\no≠0/\ak (·=a) b c/\eF c a j ⟨Y.bytes,Y.pos,no⟩))):=by
 obtain⟨a0,a2,M,G,v,h2,h3⟩:=f.body;have hp:=ay v;refine nU (PA.mk λe k s1 l=>?_);have w:=k.get v id;refine⟨_,ae l rfl,a,0,rfl,_,ae w rfl,al.df (λN=>Ok.mk ⟨rfl,k.af,.inl ⟨N,k⟩⟩) (λm=>?_)⟩;refine⟨_,ae l rfl,a,0,rfl,_,ae w rfl,PA.mk λw2 O s2 P=>PS.mk P sM λn Q s3 R=>⟨z,r,U,rfl,J,?_⟩⟩;have x:ak (·=e.heap.size) e n:=O.af.then Q;have o:ai b n:=k.new x λg hb=>.inr oM;refine(K m n o).mono ?_;rintro d h ⟨p,T⟩;have y:h.heap[b.heap.size]? =some (.cells #[.pointer (some ⟨a,0,none⟩)] 283 (0,0)):=p.get (x.get l (by intro d;omega)) (λq=>by have:=t _ q;omega);have V:h.heap[e.heap.size]? =some (.cells #[.int .i64 (Y.pos:Int)] 3 (0,0)):=p.get R (λq=>by have:=t _ q;omega);have B:ak S b h:=o.af.then p;rcases T with⟨s,rfl,W⟩|⟨s,X,rfl,Z,u,C⟩
 ·refine⟨rfl,Lv.one sM kR ?_⟩
  refine CallsD.mono (fy (rv:=.nilIface) (u:=.returning) rfl (R:=λd i c=>d= .returned (.tuple #[])/\i= .returning/\c=h) ?_) ?_
  ·exact aE.mk Hs ⟨_,rfl,al.tt rfl ⟨rfl,rfl,rfl⟩⟩
  ·rintro d i c ⟨rfl,rfl,rfl⟩
   refine Lv.ret rfl ?_;exact Ok.mk ⟨rfl,B.mono λ_ _ f=>.inl f,.inr (.inl ⟨m,s,B,W⟩)⟩
 ·refine Lv.one sM kR ?_
  obtain⟨a',n',E,G',e1,e2,e3⟩:=C.body;refine CallsD.mono (fy (rv:=.iface 365 (.int .i64 no)) (u:=.panicking (RL no)) rfl (R:=λd i c=>d= .returned (.tuple #[])/\settle i= .returning/\eF c a j ⟨Y.bytes,Y.pos,no⟩/\ak (·=a) b c) ?_) ?_
  ·refine aE.mk (v:=.bool false) (w':=h) ?_ ⟨_,rfl,al.ff rfl (aE.mk (v:=.tuple #[.int .i64 no,.bool true]) (w':=h) ?_ ⟨_,_,rfl,al.tt rfl ?_⟩)⟩
   ·exact E_
   ·exact Ht
   ·refine⟨_,ae y rfl,_,ae y rfl,_,ae V rfl,a,0,rfl,PS.mk e1 sM λw5 F s5 g5=>⟨a,0,rfl,PS.mk g5 sM λw6 H s6 g6=>⟨rfl,rfl,?_,?_⟩⟩⟩
    ·exact C.dZ (r':=⟨Y.bytes,Y.pos,no⟩) e2 e3 (F.then H) g6 rfl ⟨f.fit.pos,.inr X⟩
    ·exact(o.af.then Z).then (F.then H)
  ·rintro d i c ⟨rfl,eR,a1,I⟩
   refine Lv.ret eR ?_;exact Ok.mk ⟨rfl,I.mono λ_ _ f=>.inr f,.inr (.inr ⟨m,s,I,a1⟩)⟩
theorem Ex (c:eF b a f Y):
  Calls Tryz.prog 170 #[.pointer (some ⟨a,0,none⟩)] b (Ok λr i=>r= .int .i64 (eW Y).1/\eF i a f (eW Y).2/\ak (·=a) b i):=by
 have P:a<b.heap.size:=c.aC a c.self;refine tI (PA.mk λm H Q x=>PA.mk λI s R t=>⟨_,ae (s.get x id) rfl,?_⟩);have y:ai b I:=H.then s;have u:=c.ah y;have J:=s.get x id;refine PC.ok (AT (S:=λh=>h=a\/h=m.heap.size) (no:=Y.num.1) (A:=λi=>eF i a f ⟨Y.bytes,Y.pos+Y.num.2.2,Y.sV⟩/\i.heap[m.heap.size]? =some (.cells #[.int .i64 Y.num.2.1] 3 (0,0))) u kR ?_ ?_) ?_
 ·rintro h (rfl|rfl)<;>omega
 ·intro K n q
  refine qR ⟨_,ae (q.get J id) rfl,PC.red (Dp (u.ah q)) ?_ ?_⟩
  ·rintro j _ z d rfl k A
   have v:=k.get (q.get t id) oM;refine⟨_,rfl,PS.mk v sM λS B T L=>⟨(k.mono λ_ _ c=>.inl c).then (B.mono λ_ _ c=>.inr c),.inl ⟨j,rfl,d.af B λh o g=>?_,L⟩⟩⟩;have:=c.aC h o;omega
  ·rintro j z d k A
   rw [K]at d;have:=iO (Y.bytes.drop Y.pos);exact⟨k.mono λ_ _ c=>.inl c,.inr ⟨j,by have:=this.2.2.2.1;unfold ki.num at j⊢;omega,rfl,k,d⟩⟩
 ·rintro _ n ⟨rfl,q,M⟩
  have N:ak (·=a) b n:=y.af.new q λh o=>by
   rcases o with(rfl|rfl)|rfl
   ·exact .inl rfl
   ·exact .inr oM
   ·exact .inl rfl
  have e:∀w:Int,n.heap[m.heap.size]? =some (.cells #[.int .i64 w] 3 (0,0))->eF n a f (eW Y).2->w=(eW Y).1->
    (∃C:Int,n.cell? ⟨m.heap.size,0,none⟩=some (.int .i64 C)/\PS n ⟨m.heap.size,0,none⟩ (.int .i64 C) λE=>∃F:Int,E.cell? ⟨m.heap.size,0,none⟩=some (.int .i64 F)/\
     Ok (λr i=>r= .int .i64 (eW Y).1/\eF i a f (eW Y).2/\ak (·=a) b i) (.returned (.int .i64 F)) E):=by
   rintro w l d rfl;refine⟨_,ae l rfl,PS.mk l sM λz k A v=>⟨_,ae v rfl,Ok.mk ⟨rfl,d.af k λh o g=>?_,N.new k λh o=>.inr oM⟩⟩⟩;have:=c.aC h o;omega
  refine⟨rfl,?_⟩;rcases M with⟨p,l⟩|⟨p,j,_,d,l⟩|⟨p,j,O,d⟩
  ·have g:eW Y=(0,Y):=by unfold eW;rw [if_pos p]
   exact e 0 (l.get t id) (by rw [g];exact u.ah l) (by rw [g])
  ·have g:eW Y=(Y.num.2.1,⟨Y.bytes,Y.pos+Y.num.2.2,0⟩):=by unfold eW;rw [if_neg (by simp [p]),if_pos j]
   exact e _ l (by rw [g];rw [p]at d;exact d) (by rw [g])
  ·have g:eW Y=(0,⟨Y.bytes,Y.pos,Y.num.1⟩):=by unfold eW;rw [if_neg (by simp [p]),if_neg j]
   exact e 0 (O.get t oM) (by rw [g];exact d) (by rw [g])
theorem GP {m:Int} (d:eF b a f Y):
  Calls Tryz.prog 169 #[.pointer (some ⟨a,0,none⟩),.int .i64 m] b (Ok λw k=>w= .int .i64 (bW m Y).1/\eF k a f (bW m Y).2/\ak (·=a) b k):=by
 have X:a<b.heap.size:=d.aC a d.self;refine qM (PA.mk λZ N s1 E=>PA.mk λo x sm O=>PA.mk λP v s2 y=>⟨_,ae (v.get (x.get E id) id) rfl,?_⟩);have F:ai b P:=(N.then x).then v;have z:=d.ah F;have Q:=v.get (x.get E id) id;have R:=v.get O id;generalize i:(if Y.num.1=0 then(if Y.num.2.1<0\/m<Y.num.2.1 then 3 else 0)else Y.num.1:Int)=no;refine PC.ok (AT (S:=λj=>j=a\/j=o.heap.size) (no:=no) (A:=λk=>eF k a f ⟨Y.bytes,Y.pos+Y.num.2.2,Y.sV⟩/\k.heap[o.heap.size]? =some (.cells #[.int .i64 Y.num.2.1] 3 (0,0))) z kR ?_ ?_) ?_
 ·rintro j (rfl|rfl)<;>omega
 ·intro S p q
  refine oe ⟨_,ae (q.get Q id) rfl,_,ae (q.get R id) rfl,PC.red (ON (z.ah q)) ?_ ?_⟩
  ·rintro e _ H g rfl l I
   rw [i]at e;have A:=l.get (q.get y id) oM;refine⟨_,rfl,PS.mk A sM λw5 J s5 T=>⟨(l.mono λ_ _ d=>.inl d).then (J.mono λ_ _ d=>.inr d),.inl ⟨e,rfl,g.af J λj r c=>?_,T⟩⟩⟩;have:=d.aC j r;omega
  ·rintro e H g l I
   rw [i]at e⊢;rw [S]at g;have B:=(iO (Y.bytes.drop Y.pos)).2.2.2.1;refine⟨l.mono λ_ _ d=>.inl d,.inr ⟨e,?_,rfl,l,g⟩⟩
   change Y.num.1=0\/Y.num.1=4\/Y.num.1=5 at B
   rw [<-i]at e⊢;split
   ·rename_i c
    rw [if_pos c]at e;split
    ·exact .inl rfl
    ·rename_i t;rw [if_neg t]at e;exact absurd rfl e
   ·omega
 ·rintro _ p ⟨rfl,q,U⟩
  have V:ak (·=a) b p:=F.af.new q λj r=>by
   rcases r with(rfl|rfl)|rfl
   ·exact .inl rfl
   ·exact .inr oM
   ·exact .inl rfl
  have h:∀C:Int,p.heap[o.heap.size]? =some (.cells #[.int .i64 C] 3 (0,0))->eF p a f (bW m Y).2->C=(bW m Y).1->
    (∃K:Int,p.cell? ⟨o.heap.size,0,none⟩=some (.int .i64 K)/\PS p ⟨o.heap.size,0,none⟩ (.int .i64 K) λL=>∃M:Int,L.cell? ⟨o.heap.size,0,none⟩=some (.int .i64 M)/\
     Ok (λw k=>w= .int .i64 (bW m Y).1/\eF k a f (bW m Y).2/\ak (·=a) b k) (.returned (.int .i64 M)) L):=by
   rintro C n g rfl;refine⟨_,ae n rfl,PS.mk n sM λH l I A=>⟨_,ae A rfl,Ok.mk ⟨rfl,g.af l λj r c=>?_,V.new l λj r=>.inr oM⟩⟩⟩;have:=d.aC j r;omega
  refine⟨rfl,?_⟩;rcases U with⟨s,n⟩|⟨s,e,_,g,n⟩|⟨s,e,W,g⟩
  ·have c:bW m Y=(0,Y):=by unfold bW;rw [if_pos s]
   exact h 0 (n.get y id) (by rw [c];exact z.ah n) (by rw [c])
  ·have c:bW m Y=(Y.num.2.1,⟨Y.bytes,Y.pos+Y.num.2.2,0⟩):=by
    have B:=(iO (Y.bytes.drop Y.pos)).2.2.2.1
    change Y.num.1=0\/Y.num.1=4\/Y.num.1=5 at B
    unfold bW;rw [if_neg (by simp [s])];split at i
    ·rename_i u
     rw [if_pos u];split at i
     ·omega
     ·rename_i t;rw [if_neg t]
    ·omega
   exact h _ n (by rw [c];rw [s]at g;exact g) (by rw [c])
  ·have c:bW m Y=(0,⟨Y.bytes,Y.pos,no⟩):=by
    unfold bW;rw [if_neg (by simp [s])];split at i
    ·rename_i u
     rw [if_pos u];split at i
     ·rename_i t;rw [if_pos t,i]
     ·omega
    ·rename_i u;rw [if_neg u,i]
   exact h 0 (W.get y oM) (by rw [c];exact g) (by rw [c])
theorem KB (h:eF b a f Y):
  Calls Tryz.prog 171 #[.pointer (some ⟨a,0,none⟩)] b (Ok λi j=>i= .int .i64 (jO Y)/\bd b j):=by
 obtain⟨o,p,k,G,d,l,q⟩:=h.body;have r:=l.len dC;have g:Y.sV≠0\/¬Y.pos<Y.bytes.length->jO Y=Y.sV:=λs=>by unfold jO;rw [if_neg oM]
 refine sq ⟨a,0,rfl,_,ae d rfl,al.dJ (λe=>⟨a,0,rfl,_,ae d rfl,a,0,rfl,_,_,_,ae d rfl,λm c=>al.dec (λn=>?_) λn=>?_⟩) (λe m c=>?_)⟩
 ·exact Ok.mk ⟨by unfold jO;rw [if_pos ⟨e,oM⟩],c⟩
 ·exact⟨a,0,rfl,_,ae ((c.af (S:=λ_=>False)).get d id) rfl,Ok.mk ⟨by rw [g (.inr oM)],c⟩⟩
 ·exact⟨a,0,rfl,_,ae ((c.af (S:=λ_=>False)).get d id) rfl,Ok.mk ⟨by rw [g (.inl e)],c⟩⟩
theorem rm:ix Tryz.prog 39 3 1 8:=⟨kR,kR,dC⟩
def aB (a:aj) (b:Option Addr) (c d:Nat):List Value:=
 [.int .i64 a.origin,.int .i64 a.seq,.int .i64 a.ax,.slice b c d,.int .i64 a.aT,.int .i64 a.agg,.int .i64 a.field,.int .i64 a.op,.int .i64 a.arg,.int .i64 a.key]
def f_:jk aj where
 k:=10
 rep:=λj D e cs=>∃a b c,cs=aB e a b c/\Row aG 8 j D a b e.aN/\e.Ok
 af:=λ⟨a,b,c,d,f,g⟩ k h=>⟨a,b,c,d,f.af k h,g⟩
 mono:=λ⟨a,b,c,d,f,g⟩ h=>⟨a,b,c,d,f.mono h,g⟩
 len:=λ⟨a,b,c,d,_,_⟩=>by rw [d];rfl
 one:=λ⟨a,b,c,d,_,_⟩ l i=>by
  rw [d]at i;simp only [aB,Q2,List.not_mem_nil,or_false]at i;rcases i with rfl|rfl|rfl|rfl|rfl|rfl|rfl|rfl|rfl|rfl<;>rfl
def pw:jk aj where
 k:=10
 rep:=λn D g cs=>∃a b c d,cs=aB g a b c/\aO aG 3 d n a b c g.aN/\(∀e,d e->D e)/\g.Ok/\g.aN.length*8<=aI
 af:=λ⟨a,b,c,d,f,i,h,j⟩ o k=>⟨a,b,c,d,f,i.af o (λe l=>k e (h e l)),h,j⟩
 mono:=λ⟨a,b,c,d,f,i,h,j⟩ k=>⟨a,b,c,d,f,i,λe l=>k e (h e l),j⟩
 len:=λ⟨a,b,c,d,f,_⟩=>by rw [f];rfl
 one:=λ⟨a,b,c,d,f,_⟩ p m=>by
  rw [f]at m;simp only [aB,Q2,List.not_mem_nil,or_false]at m;rcases m with rfl|rfl|rfl|rfl|rfl|rfl|rfl|rfl|rfl|rfl<;>rfl
theorem pw.read {D:Nat->Prop} {cs:List Value} (a:pw.rep b D m cs):f_.rep b D m cs:=by
 obtain⟨c,d,e,k,f,g,h,i,j⟩:=a;exact⟨c,d,e,f,(g.row dC j).mono h,i⟩
theorem pw.row {D:Nat->Prop} (c:Row pw 96 b D d a H):Row f_ 96 b D d a H:=
 ⟨c.len,c.dt,λf g h=>by
  obtain⟨i,e,j,k,l,m,n,o⟩:=c.el f g h;exact⟨i,e,j,k,l,m,n,pw.read o⟩⟩
theorem FM:ix Tryz.prog 40 60 10 96:=⟨kR,kR,dC⟩
theorem Ew {t v:Nat} {m D:Nat->Prop} {n S:Nat} (E:b.heap[a]? =some (.cells #[.slice d t v] 221 (0,0)))
  (j:aO fg 5 m b d t v x) (s:Row aG 8 b D p n u) (T:¬m a) (U:¬D a) (V:x.length+9*u.length+9<=aI):
  Calls Tryz.prog 280 #[.slice p n S,.pointer (some ⟨a,0,none⟩)] b (Ok λW k=>W= .tuple #[]/\∃f g h l,k.heap[a]? =some (.cells #[.slice f g h] 221 (0,0))/\
   aO fg 5 l k f g h (x++bJ u)/\¬l a/\ak (·=a) b k/\∀c,l c->m c\/b.heap.size<=c):=by
 have X:=s.len;have a7:=ay E;have Y:=s.dt;unfold aI at Y;refine BO ⟨λF i k=>∃e:Nat,i=e/\e<=n/\F=n-e/\∃f g h l,k.heap[a]? =some (.cells #[.slice f g h] 221 (0,0))/\
   aO fg 5 l k f g h (x++bJ (u.take e))/\¬l a/\ak (·=a) b k/\∀c,l c->m c\/b.heap.size<=c,
  ⟨_,0,rfl,Qj _,rfl,d,t,v,m,E,by simpa [bJ]using j,T,ak.refl _,λc w=>.inl w⟩,?_⟩
 rintro F i _ w1 ⟨e,rfl,hj,rfl,H,I,J,Z,y,o,a0,q,a1⟩;refine al.dec (λh1=>?_) (λh1=>?_)
 ·obtain⟨c,z,A,rfl,B,C,hc⟩:=(s.af q (λc j r=>U (r▸j))).kp (i:=e) oM
  refine⟨c,z,rfl,oM,oM,A,hc,H,I,J,ae y rfl,?_⟩;have a8:(bJ (u.take e)).length<=9*e:=by
   have:=eV (l:=u.take e) (λa9 hy=>by
    obtain⟨K,L⟩:=List.getElem?_of_mem (List.mem_of_mem_take hy);have a2:K<n:=by rw [X];exact(Qv.1 L).1
    obtain⟨_,_,b0,_,M,a3,_⟩:=s.kp (i:=K) a2;rw [L]at M;cases M;exact a3)
   simp only [Qy]at this;omega
  have a4:=o.len dC;rw [QX]at a4;unfold aI at V;refine PC.ok (Aa C (o.row (bytes:=1) dC (by rw [QX];unfold aI;omega)) (by unfold aI;omega) o.aC) ?_;rintro _ w2 ⟨a5,n2,c2,N,rfl,a6,O,P⟩;have Q:¬N a:=λw=>by have:=P a w;have:=q.size;omega
  refine⟨_,_,_,rfl,PS.mk (O.get y id) sM λw3 R s3 g3=>⟨_,oM,e+1,aq oM,oM,rfl,a5,n2,c2,N,g3,?_,Q,(q.ah O).then R,λc j=>.inr (Xx q.size (P c j))⟩⟩;rw [Qw,B];have r:x++bJ (List.take e u++(some A).toList)=x++bJ (List.take e u)++mY A:=by rw [gv];simp [bJ]
  rw [r];exact a6.af R λc j r=>Q (r▸j)
 ·rw [Qz oM]at o
  exact Ok.mk ⟨rfl,H,I,J,Z,y,o,a0,q,a1⟩
theorem Ab {f:Nat×Nat} (c:List Int) (d:b.heap[a]? =some (.cells (c.map (Value.int .i64)).toArray 3 f)) (e:∀g∈c,aK g) (h:c.length<=1000):Row aG 8 b (·=a) (some ⟨a,0,none⟩) c.length c:=
 Row.lit d c sM e (by unfold aI;omega)
theorem LX {D:Nat->Prop} (x:Row aG 8 b D d a m.aN) (e:m.Ok) (H:∀f,D f->f<b.heap.size):
  Calls Tryz.prog 218 #[.agg (aB m d a c).toArray] b (Ok λI J=>∃y,I= .tuple #[y,.int .i64 (gZ m).2]/\oy fg 5 b (gZ m).1 y J):=by
 have K:=x.len;refine Gw (PA.mk λk o s1 z=>⟨d,a,c,ae z rfl,al.dec (λh=>?_) (λh=>?_)⟩)
 ·have r:gZ m=([],3):=by unfold gZ;rw [if_pos oM]
  rw [r];exact Ok.mk ⟨_,rfl,none,0,0,λ_=>False,rfl,aO.nil k,o,λ_ h=>h.elim⟩
 have a8:m.aN.length<=64:=oM
 have r:gZ m=(bJ (jN m),0):=by unfold gZ;rw [if_neg oM]
 rw [r];have A:∀f,D f->f<k.heap.size:=λf i=>Qk (H f i) o.size;refine PA.mk λl s s2 L=>?_;have n:=s.get z id;refine⟨_,ae n rfl,_,ae n rfl,_,ae n rfl,_,_,_,ae n rfl,PA.mk λB C s3 M=>⟨_,_,_,rfl,kR,?_⟩⟩;have N:Row aG 8 B (·=l.heap.size) (some ⟨l.heap.size,0,none⟩) 4 [m.origin,m.seq,m.ax,(m.aN.length:Int)]:=
  Ab (f:=(0,0)) [m.origin,m.seq,m.ax,(m.aN.length:Int)] (by rw [M,<-K];rfl) (by intro t g;simp at g;rcases g with rfl|rfl|rfl|rfl;exact e.origin;exact e.seq;exact e.ax;unfold aK;omega) sM
 refine PC.ok (Ew (C.get L id) (aO.nil B) N id (by show¬k.heap.size=l.heap.size;omega) (by unfold aI;simp)) ?_;rintro _ E ⟨rfl,a4,n4,c4,F4,O,P,Q,R,S⟩;have p:ak (·=k.heap.size) l E:=C.af.then R;have F:=p.get n oM;have T:Row aG 8 E D d a m.aN:=((x.ah (o.then s)).af p λf i m=>by have:=A f i;omega)
 refine⟨rfl,_,_,_,ae F rfl,_,_,_,rfl,kR,PC.ok (Ew O P T Q (λh=>by have:=A _ h;omega) ?_) ?_⟩
 ·have u:=eV (l:=[m.origin,m.seq,m.ax,(m.aN.length:Int)]) (by intro t g;simp at g;rcases g with rfl|rfl|rfl|rfl;exact e.origin;exact e.seq;exact e.ax;unfold aK;omega)
  simp only [List.nil_append,Xq,List.length_nil]at u⊢;unfold aI;omega
 rintro _ v ⟨rfl,a5,n5,c5,F5,U,V,W,w,X⟩;have j:=w.get F oM;refine⟨rfl,_,ae j rfl,_,ae j rfl,_,ae j rfl,_,ae j rfl,_,ae j rfl,_,ae j rfl,PA.mk λY q s6 Z=>⟨_,_,_,rfl,kR,?_⟩⟩;have r6:Row aG 8 Y (·=v.heap.size) (some ⟨v.heap.size,0,none⟩) 6 [m.aT,m.agg,m.field,m.op,m.arg,m.key]:=
  Ab (f:=(0,0)) [m.aT,m.agg,m.field,m.op,m.arg,m.key] Z (by intro t g;simp at g;rcases g with rfl|rfl|rfl|rfl|rfl|rfl;exact e.aT;exact e.agg;exact e.field;exact e.op;exact e.arg;exact e.key) sM
 have a6:=p.size;have a9:=w.size;refine PC.ok (Ew (q.get U id) (V.ah q) r6 W (by show¬k.heap.size=v.heap.size;omega) ?_) ?_
 ·have u:=eV (l:=[m.origin,m.seq,m.ax,(m.aN.length:Int)]) (by intro t g;simp at g;rcases g with rfl|rfl|rfl|rfl;exact e.origin;exact e.seq;exact e.ax;unfold aK;omega)
  have h2:=eV e.aN;simp only [List.nil_append,Xq,List.length_nil,QX]at u h2⊢;unfold aI;omega
 rintro _ w7 ⟨rfl,a7,n7,c7,F7,g7,a2,b0,k7,a3⟩;refine⟨rfl,_,_,_,ae g7 rfl,Ok.mk ⟨_,rfl,a7,n7,c7,F7,rfl,?_,?_,?_⟩⟩
 ·have:jN m=[m.origin,m.seq,m.ax,(m.aN.length:Int)]++m.aN++[m.aT,m.agg,m.field,m.op,m.arg,m.key]:=rfl
  rw [this,gv,gv];exact a2
 ·have ka:ai b l:=o.then s
  exact(ka.new ((p.then w).then (q.af.then k7)) λf i=>.inr oM)
 ·intro f i
  rcases a3 f i with h|h
  ·rcases X f h with h|h
   ·rcases S f h with h|h
    ·exact h.elim
    ·omega
   ·omega
  ·have:=q.size;omega
def px (b:List Int) (c:Option Addr) (d e:Nat) (a:List Int):List Value:=
 [.int .i64 (b.getD 0 0),.int .i64 (b.getD 1 0),.int .i64 (b.getD 2 0),.slice c d e,.int .i64 (a.getD 0 0),.int .i64 (a.getD 1 0),.int .i64 (a.getD 2 0),.int .i64 (a.getD 3 0),.int .i64 (a.getD 4 0),.int .i64 (a.getD 5 0)]
theorem Ja (b:u.length=i) (f:i<3):(px u d a c b2).toArray.setIfInBounds i (.int .i64 e)=(px (u++[e]) d a c b2).toArray:=by
 match u,b with
 |[],b=>subst b;rfl
 |[_],b=>subst b;rfl
 |[_,_],b=>subst b;rfl
 |_::_::_::_,b=>simp at b;omega
theorem Jb (b:b2.length=i) (f:i<6):(px u d a c b2).toArray.setIfInBounds (4+i) (.int .i64 e)=(px u d a c (b2++[e])).toArray:=by
 match b2,b with
 |[],b=>subst b;rfl
 |[_],b=>subst b;rfl
 |[_,_],b=>subst b;rfl
 |[_,_,_],b=>subst b;rfl
 |[_,_,_,_],b=>subst b;rfl
 |[_,_,_,_,_],b=>subst b;rfl
 |_::_::_::_::_::_::_,b=>simp at b;omega
theorem kD (a:Nat) (b:ki):bf (a+1) b=((bf a b).1++[(eW (bf a b).2).1],(eW (bf a b).2).2):=rfl
theorem LY {D:Nat->Prop} (g:Row fg 1 b D d a x) (hD:∀e,D e->e<b.heap.size):
  Calls Tryz.prog 235 #[.slice d a c] b (Ok λa8 l=>∃a' n' c' w,a8= .tuple #[.agg (aB (iG x).1 a' n' c').toArray,.int .i64 (iG x).2]/\aO aG 3 w l a' n' c' (iG x).1.aN/\ai b l/\∀e,w e->b.heap.size<=e):=by
 refine Gx (PA.mk λw1 k1 s1 g1=>PC.ok (CM (g.ah k1) (λe h=>by have:=hD e h;omega)) ?_);rintro _ j ⟨k,a0,rfl,T,k2,hP⟩;refine⟨_,rfl,PA.mk λw3 U s3 g3=>PA.mk λy z s4 g4=>?_⟩;have c2:=T.self;have h8:w1.heap.size<=k/\k<j.heap.size:=⟨hP k c2,T.aC k c2⟩
 have V:=T.aC;have h6:=k2.size;have d8:=z.get g3 id;have d9:=z.get (U.get (k2.get g1 id) id) id;have e0:=(T.ah U).ah z;have b1:ai b y:=((k1.then k2).then U).then z;refine⟨λm C l=>∃f:Nat,C=f/\f<=3/\m=3-f/\l.heap[j.heap.size]? =some (.cells (px (bf f ⟨x,0,0⟩).1 none 0 0 []).toArray 60 (0,0))/\eF l k a0 (bf f ⟨x,0,0⟩).2/\ak (λe=>e=j.heap.size\/e=k) y l,
  ⟨_,0,rfl,oM,rfl,d8,e0,ak.refl _⟩,?_⟩
 rintro m C _ w5 ⟨f,rfl,hj,rfl,c3,c4,k5⟩;have c5:(ki.mk x 0 0).Fit:=⟨Qj _,.inl rfl⟩
 refine al.dec (λO=>?_) (λO=>?_)
 ·have c6:f<3:=oM
  have g5:=k5.get g4 oM;have a1:w5.cell? ⟨w3.heap.size,0+Int.toNat (f:Int),none⟩=some (.pointer (some ⟨j.heap.size,f,none⟩)):=by
   rw [Qx,Xz]
   match f,c6 with
   |0,_=>exact ae g5 rfl
   |1,_=>exact ae g5 rfl
   |2,_=>exact ae g5 rfl
  refine⟨_,_,rfl,oM,oM,_,a1,PC.ok (Ex c4) ?_⟩;rintro _ w6 ⟨rfl,P,Q⟩;have W:=Q.get c3 oM;refine⟨_,rfl,_,_,rfl,PS.mk W (by simp [px];omega) λX E s7 g7=>⟨_,oM,f+1,aq oM,oM,rfl,?_,?_,?_⟩⟩
  ·rw [g7,Ja (c5.ints f).2.2.1 c6];rfl
  ·rw [kD]
   exact P.af E λe g s=>by have:=V e g;omega
  ·exact k5.then ((Q.mono λ_ _ h=>.inr h).then (E.mono λ_ _ h=>.inl h))
 obtain rfl:f=3:=oM
 obtain⟨c7,e1,h9,_⟩:=c5.ints 3;refine PC.ok (GP c4) ?_;rintro _ w6 ⟨rfl,P,Q⟩;have W:=Q.get c3 oM;have e3:ak (λe=>e=j.heap.size\/e=k) y w6:=k5.then (Q.mono λ_ _ h=>.inr h);generalize hL:(bf 3 ⟨x,0,0⟩).1=I at W e1;generalize hR:(bf 3 ⟨x,0,0⟩).2=a5 at P c7;obtain⟨Y,e4,c8,_⟩:=c7.count (m:=64) oM;generalize hC:(bW 64 a5).1=J at e4 c8;generalize e5:(bW 64 a5).2=F at P Y;refine⟨_,rfl,λm C l=>∃f:Nat,C=f/\f<=J.toNat/\m=J.toNat-f/\∃t p u w,l.heap[j.heap.size]? =some (.cells (px I t p u []).toArray 60 (0,0))/\eF l k a0 (bf f F).2/\
   aO aG 3 w l t p u (bf f F).1/\(∀e,w e->y.heap.size<=e)/\ak (λe=>e=j.heap.size\/e=k) y l,
  ⟨_,0,rfl,oM,rfl,none,0,0,λ_=>False,W,P,aO.nil w6,λ_ h=>h.elim,e3⟩,?_⟩
 rintro m C _ X ⟨f,rfl,hj,rfl,t,p,u,w,b8,b9,c0,A,E⟩;have i0:=E.size;refine al.dec (λO=>?_) (λO=>?_)
 ·intro K c9
  have q:ai X K:=c9.af;have s8:K.heap.size=X.heap.size:=by rw [c9.heap]
  refine⟨λe=>e≠j.heap.size,sM,t,p,u,ae (q.get b8 id) rfl,PC.ok (Ex (b9.ah q)) ?_⟩;rintro _ L ⟨rfl,Z,v⟩;have b2:=(Y.ints f).2.2.1;refine⟨_,rfl,v.mono (λe _ h=>oM),?_⟩;have M:aO aG 3 w L t p u (bf f F).1:=(c0.ah q).af v λe g s=>by have:=A e g;have:=z.size;omega
  refine PA.mk λB o i1 e6=>⟨o.af,?_⟩
  have a2:=M.ah o;have b0:=v.get (q.get b8 id) oM;have n:=o.get b0 id;have e7:=((Y.ints f).1.int).2.1;have d0:Row aG 8 B (·=L.heap.size) (some ⟨L.heap.size,0,none⟩) 1 [(eW (bf f F).2).1]:=Ab (f:=(0,0)) [(eW (bf f F).2).1] e6 (by simpa using e7) sM;refine jM a2 rm d0 (λe s=>⟨oM,?_⟩) (by rw [b2];unfold aI;simp;omega) (by rw [b2];unfold maxLen;simp;omega) λd1 e8 R i2 d2 a3 h7 b3=>?_
  ·intro e2
   have:=M.aC e (M.self e e2);omega
  refine⟨_,_,_,rfl,PS.mk (a3.get n ?_) (by simp [px]) λi3 c1 i4 e9=>⟨_,oM,f+1,aq oM,oM,rfl,d1,p+1,e8,λe=>aF d1=some e,?_,?_,?_,?_,?_⟩⟩
  ·intro s;have:=A _ (M.self _ s);have:=z.size;omega
  ·rw [e9];rfl
  ·rw [kD]
   refine((Z.ah o).af a3 λe g s=>?_).af c1 λe g s=>?_
   ·have:=A _ (M.self _ s);have:=V e g;have:=z.size;have:=U.size;omega
   ·have:=V e g;omega
  ·have f2:=d2.alone
   rw [kD];refine f2.af c1 λe g s=>?_;rcases b3 e g with h|h
   ·have:=A e h;have:=z.size;omega
   ·have:=o.size;have:=v.size;have:=q.size;omega
  ·intro e g
   rcases b3 e g with h|h
   ·exact A e h
   ·have:=o.size;have:=v.size;have:=q.size;omega
  ·have ka:ak (λe=>e=j.heap.size\/e=k) y B:=((E.ah q).then (v.mono λ_ _ h=>.inr h)).ah o
   have kb:ak (λe=>e=j.heap.size\/e=k) y R:=ka.new a3 λe g=>.inr (A e (M.self e g));exact kb.then (c1.mono λ_ _ h=>.inl h)
 obtain rfl:f=J.toNat:=oM
 obtain⟨d3,g0,g2,_⟩:=Y.ints J.toNat;generalize g6:(bf J.toNat F).1=S at c0 g0 g2;generalize h0:(bf J.toNat F).2=r at b9 d3;refine PA.mk λK q s8 g8=>?_;have h2:=q.get b8 id;have h3:ak (λe=>e=j.heap.size\/e=k) y K:=E.ah q;have h4:=c0.ah q;have i5:=z.size;refine⟨λm C l=>∃f:Nat,C=f/\f<=6/\m=6-f/\l.heap[j.heap.size]? =some (.cells (px I t p u (bf f r).1).toArray 60 (0,0))/\eF l k a0 (bf f r).2/\ak (λe=>e=j.heap.size\/e=k) K l,
  ⟨_,0,rfl,oM,rfl,h2,b9.ah q,ak.refl _⟩,?_⟩
 rintro m C _ L ⟨f,rfl,hj,rfl,b0,Z,v⟩;refine al.dec (λO=>?_) (λO=>?_)
 ·have d4:f<6:=oM
  have N:=v.get g8 (by have:=E.size;omega);have a1:L.cell? ⟨X.heap.size,0+Int.toNat (f:Int),none⟩=some (.pointer (some ⟨j.heap.size,4+f,none⟩)):=by
   rw [Qx,Xz]
   match f,d4 with
   |0,_=>exact ae N rfl
   |1,_=>exact ae N rfl
   |2,_=>exact ae N rfl
   |3,_=>exact ae N rfl
   |4,_=>exact ae N rfl
   |5,_=>exact ae N rfl
  refine⟨_,_,rfl,oM,oM,_,a1,PC.ok (Ex Z) ?_⟩;rintro _ B ⟨rfl,d5,o⟩;have n:=o.get b0 oM;refine⟨_,rfl,_,_,rfl,PS.mk n (by simp [px];omega) λR H d6 i=>⟨_,oM,f+1,aq oM,oM,rfl,?_,?_,?_⟩⟩
  ·rw [i,Jb (d3.ints f).2.2.1 d4];rfl
  ·rw [kD]
   exact d5.af H λe g s=>by have:=V e g;omega
  ·exact v.then ((o.mono λ_ _ h=>.inr h).then (H.mono λ_ _ h=>.inl h))
 obtain rfl:f=6:=oM
 have a6:lk ⟨x,0,0⟩=(⟨I.getD 0 0,I.getD 1 0,I.getD 2 0,S,(bf 6 r).1.getD 0 0,(bf 6 r).1.getD 1 0,(bf 6 r).1.getD 2 0,(bf 6 r).1.getD 3 0,(bf 6 r).1.getD 4 0,(bf 6 r).1.getD 5 0⟩,(bf 6 r).2):=by
  unfold lk;simp only [hL,hR,hC,e5,g6,h0]
 refine PC.ok (KB Z) ?_;rintro _ B ⟨rfl,d7⟩;have o:ai L B:=d7.af;have b4:ak (λe=>e=j.heap.size\/e=k) K B:=v.ah o;have b5:ak (λe=>e=j.heap.size\/e=k) y B:=h3.then b4;have b6:=b5.get d9 oM;have n:=o.get b0 id;have a2:aO aG 3 w B t p u S:=h4.af b4 λe g s=>by have:=A e g;omega
 have b7:ai b B:=b1.new b5 λe g=>.inr oM;have a7:jO (lk ⟨x,0,0⟩).2=jO (bf 6 r).2:=by rw [a6]
 refine⟨_,rfl,al.df (λh5=>?_) (λhe=>?_)⟩
 ·have a4:iG x=(Ac,jO (bf 6 r).2):=by unfold iG;rw [a7,if_pos h5]
  rw [a4];refine storeAll [.int .i64 0,.int .i64 0,.int .i64 0,.slice none 0 0,.int .i64 0,.int .i64 0,.int .i64 0,.int .i64 0,.int .i64 0,.int .i64 0] b6 rfl λR H d6 i=>?_;refine⟨0,0,0,none,0,0,0,0,0,0,0,0,ae i rfl,ae i rfl,ae i rfl,ae i rfl,ae i rfl,ae i rfl,ae i rfl,ae i rfl,ae i rfl,ae i rfl,Ok.mk ⟨none,0,0,λ_=>False,rfl,aO.nil R,?_,λ_ h=>h.elim⟩⟩;exact b7.new H λe g=>.inr oM
 ·have a4:iG x=((lk ⟨x,0,0⟩).1,0):=by unfold iG;rw [a7,if_neg (by simpa using he)]
  rw [a4,a6];refine⟨_,_,_,t,p,u,_,_,_,_,_,_,ae n rfl,ae n rfl,ae n rfl,ae n rfl,ae n rfl,ae n rfl,ae n rfl,ae n rfl,ae n rfl,ae n rfl,?_⟩;refine storeAll (px I t p u (bf 6 r).1) b6 rfl λR H d6 i=>?_;refine⟨_,_,_,t,p,u,_,_,_,_,_,_,ae i rfl,ae i rfl,ae i rfl,ae i rfl,ae i rfl,ae i rfl,ae i rfl,ae i rfl,ae i rfl,ae i rfl,Ok.mk ⟨t,p,u,w,rfl,a2.af H λe g s=>?_,?_,λe g=>?_⟩⟩
  ·have:=A e g;omega
  ·exact b7.new H λe g=>.inr oM
  ·have:=A e g;have:=b1.size;omega
end Go.Proofs.YthnilpgpacdmnaaGreatDoor
namespace Go.au
open Go
set_option linter.unusedVariables false
def dY (a:List UInt8):Nat:=a.foldl (λb c=>b*10+(c.toNat-48)) 0
def gO (a:UInt8):Bool:=decide (48<=a.toNat/\a.toNat<=57)
theorem eZ (a:List UInt8) (b:UInt8):dY (a++[b])=dY a*10+(b.toNat-48):=by simp [dY,List.foldl_append]
variable{e:Int}{x:List UInt8}{a:Nat}{j:Type}
theorem uT {a b:List j} (c:a≠[]):(a++b).head? =a.head? :=by
 cases a with
 |nil=>exact absurd rfl c
 |cons d a=>rfl
theorem Be:∀(a:Nat),dY (Lib.decDigits a)=a/\(Lib.decDigits a).all gO=true/\Lib.decDigits a≠[]/\(a≠0->(Lib.decDigits a).head? ≠some 48):=by
 intro a
 induction a using Nat.strongRecOn with
 |_ a e=>
  rw [Lib.decDigits]
  by_cases c:a<10
  ·rw [dif_pos c]
   have b:(UInt8.ofNat (48+a)).toNat=48+a:=by rw [UInt8.toNat_ofNat'];omega
   refine⟨by simp [dY];omega,by simp [gO,b];omega,sM,λj=>?_⟩;intro d;simp only [List.head?_cons,Q1]at d;have:=congrArg UInt8.toNat d;rw [b]at this;simp at this;omega
  ·rw [dif_neg c]
   obtain⟨f,g,h,i⟩:=e (a/10) oM;have b:(UInt8.ofNat (48+a % 10)).toNat=48+a % 10:=by rw [UInt8.toNat_ofNat'];omega
   refine⟨by rw [eZ,f,b];omega,?_,sM,λ_=>?_⟩
   ·rw [List.all_append,g];simp [gO,b];omega
   ·rw [uT h];exact i oM
theorem Bf:∀{a:List UInt8},a.all gO=true->a≠[]->a.head? ≠some 48->0<dY a:=by
 intro a;generalize b:a.length=g
 induction g generalizing a with
 |zero=>intro _ h;exact absurd (QW b) h
 |succ g i=>
  intro c k d;rcases List.eq_nil_or_concat a with rfl|⟨a,e,rfl⟩
  ·cases b
  rw [List.concat_eq_append]at b c d⊢;rw [List.all_append,QK]at c;have l:48<=e.toNat/\e.toNat<=57:=by simpa [gO]using c.2
  rw [eZ]
  by_cases f:a=[]
  ·subst f
   have:e.toNat≠48:=λj=>d (by simp;exact UInt8.toNat_inj.1 j);omega
  ·have:=i (by simpa using b) c.1 f (by rwa [uT f]at d)
   omega
theorem Cq:∀{a:List UInt8},a.all gO=true->a≠[]->(a.head? ≠some 48\/a.length=1)->Lib.decDigits (dY a)=a:=by
 intro a;generalize g:a.length=h
 induction h generalizing a with
 |zero=>intro _ k;exact absurd (QW g) k
 |succ h l=>
  intro c p d;rcases List.eq_nil_or_concat a with rfl|⟨a,b,rfl⟩
  ·cases g
  rw [List.concat_eq_append]at g c d⊢;rw [List.all_append,QK]at c;have q:48<=b.toNat/\b.toNat<=57:=by simpa [gO]using c.2
  have j:UInt8.ofNat (48+(b.toNat-48))=b:=UInt8.toNat_inj.1 (by rw [UInt8.toNat_ofNat'];omega);rw [eZ]
  by_cases e:a=[]
  ·subst e
   have m:dY []*10+(b.toNat-48)=b.toNat-48:=by simp [dY]
   rw [m,Lib.decDigits,dif_pos oM,j]
   rfl
  ·have r:0<a.length:=List.length_pos_iff.2 e
   have i:a.length=h:=by simpa using g
   have f:a.head? ≠some 48:=by
    rcases d with d|d
    ·rwa [uT e]at d
    ·omega
   have s:=Bf c.1 e f;rw [Lib.decDigits,dif_neg oM];have n:(dY a*10+(b.toNat-48))/10=dY a:=oM
   have o:(dY a*10+(b.toNat-48)) % 10=b.toNat-48:=oM
   rw [n,o,j,l i c.1 e (.inl f)]
theorem wu:∀(a:List UInt8),a.all gO=true->dY a<10 ^ a.length:=by
 intro a;generalize b:a.length=d
 induction d generalizing a with
 |zero=>intro _;have:=QW b;subst this;decide
 |succ d f=>
  intro c;rcases List.eq_nil_or_concat a with rfl|⟨a,e,rfl⟩
  ·cases b
  rw [List.concat_eq_append]at b c⊢;rw [List.all_append,QK]at c;have g:48<=e.toNat/\e.toNat<=57:=by simpa [gO]using c.2
  have:=f a (by simpa using b) c.1;rw [eZ,Nat.pow_succ];omega
theorem uS {u:Nat} (i:u<1000000000000):(Lib.decDigits u).length<=12:=by
 rw [Lib.decDigits_length];apply Nat.le_of_not_lt;intro l
 by_cases j:u=0
 ·subst j;rw [Lib.nDigits_small oM]at l;omega
 ·have t:=Lib.lt_pow_nDigits u
  obtain⟨m,n,o,p⟩:=Be u;have k:=Lib.decDigits_length u;have key:∀(a:List UInt8),a.all gO=true->a≠[]->a.head? ≠some 48->10 ^(a.length-1)<=dY a:=by
   intro a;generalize c:a.length=b
   induction b generalizing a with
   |zero=>intro _ i;exact absurd (QW c) i
   |succ b q=>
    intro d v f;rcases List.eq_nil_or_concat a with rfl|⟨a,w,rfl⟩
    ·cases c
    rw [List.concat_eq_append]at c d f⊢;have g:=d;rw [List.all_append,QK]at d;rw [eZ]
    by_cases e:a=[]
    ·subst e
     have:=Bf g sM f;rw [eZ]at this;have r:b=0:=by simpa using c.symm
     subst r;simp at this⊢;omega
    ·have h:a.length=b:=by simpa using c
     have k:0<a.length:=List.length_pos_iff.2 e;have:=q a h d.1 e (by rwa [uT e]at f);have s:b+1-1=(b-1)+1:=oM
     rw [s,Nat.pow_succ];omega
  have:=key _ n o (p j);rw [m,k]at this;have x:10 ^ 12<=10 ^(Lib.nDigits u-1):=Nat.pow_le_pow_right oM oM;have:(10:Nat) ^ 12=1000000000000:=dC
  omega
def dX:List UInt8:=[115,101,103,46]
def aA (a:Int):List UInt8:=if a<0\/1000000000000<=a then []else dX++Lib.decDigits a.toNat
def ic (a:List UInt8):Option Nat:=if a.take 4=dX/\5<=a.length/\a.length<=16/\(a.drop 4).all gO=true/\((a.drop 4).head? ≠some 48\/a.length=5)then some (dY (a.drop 4))else none
theorem qf (a:0<=e) (b:e<1000000000000):aA e=dX++Lib.decDigits e.toNat:=by unfold aA;rw [if_neg oM]
theorem Kc (b:0<=e) (c:e<1000000000000):ic (aA e)=some e.toNat:=by
 rw [qf b c];obtain⟨d,f,g,h⟩:=Be e.toNat;have l:=uS (u:=e.toNat) oM;have m:0<(Lib.decDigits e.toNat).length:=List.length_pos_iff.2 g;have i:(dX++Lib.decDigits e.toNat).drop 4=Lib.decDigits e.toNat:=rfl;have j:(dX++Lib.decDigits e.toNat).take 4=dX:=rfl;have k:(dX++Lib.decDigits e.toNat).length=4+(Lib.decDigits e.toNat).length:=by rw [QX];rfl
 unfold ic;rw [i,j,k,d,if_pos];refine⟨rfl,oM,oM,f,?_⟩
 by_cases a:e.toNat=0
 ·right
  rw [a,Lib.decDigits_length,Lib.nDigits_small oM]
 ·exact .inl (h a)
theorem AI (b:ic x=some a):aA a=x/\a<1000000000000:=by
 unfold ic at b;split at b
 ·rename_i f
  obtain⟨g,j,k,c,h⟩:=f;simp only [Q1]at b;have d:(x.drop 4).length=x.length-4:=sM
  have l:=wu _ c;have m:10 ^(x.drop 4).length<=10 ^ 12:=Nat.pow_le_pow_right oM oM;have n:(10:Nat) ^ 12=1000000000000:=dC
  have i:a<1000000000000:=oM
  refine⟨?_,i⟩;rw [qf oM oM,<-b,Qx,Cq c (λe=>by rw [e]at d;simp at d;omega) (h.imp id λe=>oM),<-g,List.take_append_drop]
 ·cases b
theorem Fy (d:x.all gO=true) (e:x.length<=12):ic (dX++x)=if aA (dY x)=dX++x then some (dY x)else none:=by
 have g:=wu _ d;have h:10 ^ x.length<=10 ^ 12:=Nat.pow_le_pow_right oM e;have i:(10:Nat) ^ 12=1000000000000:=dC
 split
 ·rename_i b
  rw [<-b,Kc oM oM,Qx]
 ·rename_i b
  cases a:ic (dX++x)with
  |none=>rfl
  |some f=>
   obtain⟨c,j⟩:=AI a;have:f=dY x:=by
    unfold ic at a;split at a
    ·exact(XJ a).symm
    ·cases a
   rw [this]at c;exact absurd c b
theorem HS (b:x.all gO=false):ic (dX++x)=none:=by
 unfold ic;rw [if_neg];rintro⟨_,_,_,a,_⟩;have:(dX++x).drop 4=x:=rfl;rw [this,b]at a
 cases a
theorem MN (a:x.take 4≠dX):ic x=none:=by
 unfold ic;rw [if_neg λb=>a b.1]
theorem Ka (a:16<x.length):ic x=none:=by
 unfold ic;rw [if_neg λb=>oM]
end Go.au
namespace Go.Proofs.YthnilpgpacdmnaaGreatDoor
open Go.au
set_option linter.unusedVariables false
set_option maxRecDepth 20000
def pick (b a:Int):Int:=if a<1 then 0 else if b.tmod a<0 then b.tmod a+a else b.tmod a
theorem JL {k n:Int} (a:1<=n):0<=pick k n/\pick k n<n:=by
 unfold pick;rw [if_neg oM];have b:k.tmod n<n:=Int.tmod_lt_of_pos k oM;have c: -n<k.tmod n:=Int.lt_tmod_of_pos k oM;split<;>omega
variable{e n:Int}{b:World}
theorem Oj (k:aK n):Calls Tryz.prog 62 #[.int .i64 e,.int .i64 n] b (Ok λh i=>h= .int .i64 (pick e n)/\b=i):=by
 refine IH (al.mk (λc=>?_) (λc=>?_))
 ·have c:=XV c
  exact Ok.mk ⟨by simp [pick,c],rfl⟩
 ·have c:=Xy c
  have d:=JL (k:=e) (n:=n) oM;have j:∀f g,(do eqGuard .rem 3 f g (.int .i64 e) (.int .i64 n);binOp .rem 3 (.int .i64 e) (.int .i64 n):Sem Value).run Tryz.prog b= .ok (.int .i64 (e.tmod n)) b:=λf g=>by
   have:n≠0:=oM
   simp [eqGuard,binOp,Op.intDiv,this]
  refine aE.mk (j _ _) ⟨_,rfl,al.mk (λa=>?_) (λa=>?_)⟩
  ·have a:=XV a
   unfold pick at d;rw [if_neg oM,if_pos a]at d;refine Ok.mk ⟨?_,rfl⟩;rw [wrap_i64 (by unfold aK at*;omega)];unfold pick;rw [if_neg oM,if_pos a]
  ·have a:=Xy a
   refine Ok.mk ⟨?_,rfl⟩;unfold pick;rw [if_neg oM,if_neg a]
end Go.Proofs.YthnilpgpacdmnaaGreatDoor
namespace Go.Proofs
open Go.RowKit Go.Maps Go.Sort Go.Shelf
theorem Tryz.Sc (d:Nat):AnyZ.SortsIn Tryz.prog Tryz.wH Fence.wide d:=
 ⟨λaF b a e c f g h=>callsIn_wide.2 (AnyM.slices_Sort_string Tryz.Rp aF b a e c f g h),
  λi a c=>callsIn_wide.2 (AnyM.slices_Sort_string_none Tryz.Rp i a c)⟩
end Go.Proofs
namespace Go.Proofs.YthnilpgpacdmnaaGreatDoor
open Go.au
open Go.RowKit Go.Maps Go.Sort Go.Shelf
set_option linter.unusedVariables false
set_option maxRecDepth 20000
def VG (a b:ByteArray):Bool:=decide (a.data.toList<=b.data.toList)
def tV (a:List ByteArray):List ByteArray:=a.mergeSort VG
theorem LQ (b:List ByteArray):(tV b).map (λa=>a.data.toList)=(b.map λa=>a.data.toList).mergeSort (λa c=>decide (a<=c)):=
 List.map_mergeSort (λd _ e _=>rfl)
theorem bu.Rq {c:Type} {a:c->Value} {d:c->Prop} {hl h1} {f:World} {D:Nat->Prop}:∀{b:List c},(∀x∈b,d x)->bu (flat 1 (λx=>[a x]) d hl h1) f D b (b.map a)
 |[],_=>rfl
 |x::b,e=>⟨[a x],b.map a,rfl,⟨rfl,e x (QV ..)⟩,bu.Rq λg h=>e g (QJ _ h)⟩
variable{f9:List (ByteArray×Value)}{a c:Nat}{F:Nat×Nat}{g:TypeId}{b:World}
theorem yd (k:bG b a Value.string f9) (J:∀i∈f9,i.1.size<=maxLen) (z:f9.length*16<=aI) 
  (A:b.heap[c]? =some (.cells #[.map (some a)] g F)):
  Calls Tryz.prog 226 #[.func (.func 286) #[] #[.pointer (some ⟨c,0,none⟩)]] b
   (Ok (oy LR 9 b (tV (f9.map (·.1))))):=by
 unfold aI at z;obtain⟨f,j,K,q,L,M⟩:=k.at';have N:Tryz.prog.underlying 9=some .string:=Tryz.underlying9;have O:f.size=f9.length:=by have:=congrArg List.length q;simpa using this
 have B:∀e∈f.toList,∃d:ByteArray,e.key=Value.string d/\d.size<=maxLen:=λe h=>by
  have P:(e.key,e.val)∈f9.map (λi=>(Value.string i.1,i.2)):=by rw [<-q];exact Xk.2 ⟨e,h,rfl⟩
  obtain⟨i,Q,R⟩:=Xk.1 P;exact⟨i.1,(Prod.mk.inj R).1.symm,J i Q⟩
 have C:∀e∈f.toList,∀d:ByteArray,e.key=Value.string d->d.size<=maxLen->WideElems.rd Tryz.prog 9 (λ_=>some ((.nil:DataW Unit),[])) e=some (.string d.data.toList,.nil):=λe _ d m o=>by
  simp [WideElems.rd,m,Go.WideMaps.keyOf_string_mk N o]
 have S:WideElems.Fit Tryz.prog 9 (λ_=>some ((.nil:DataW Unit),[])) f j:=by
  refine⟨by unfold maxLen;omega,⟨L,M,?_⟩,λe h=>?_⟩
  ·have:f.toList.map (·.key)=(f9.map (·.1)).map Value.string:=by
    have:=congrArg (List.map (λt:Value×Value=>t.1)) q;simpa [Function.comp_def]using this
   rw [this];exact List.pairwise_map.2 (List.Pairwise.imp (λT=>by simpa using T) k.tidy)
  ·obtain⟨d,m,o⟩:=B e h
   exact⟨_,C e h d m o⟩
 have U:b.ownsMap Tryz.prog 9 (λ_=>some ((.nil:DataW Unit),[])) a f.size (.map ((f.toList.map (WideElems.rg Tryz.prog 9 (λ_=>some ((.nil:DataW Unit),[])))).foldr DataW.insert [])):=
  ⟨f,j,K,S,Q4 _,rfl⟩
 have E:Maps.size (.map ((f.toList.map (WideElems.rg Tryz.prog 9 (λ_=>some ((.nil:DataW Unit),[])))).foldr DataW.insert []))=f9.length:=by
  show(List.foldr DataW.insert [] _).length=_;rw [(WideShapes.sorted_perm _).length_eq];simp [O]
 have V:(strKeys (.map ((f.toList.map (WideElems.rg Tryz.prog 9 (λ_=>some ((.nil:DataW Unit),[])))).foldr DataW.insert []))).Perm ((f9.map (·.1)).map λd=>d.data.toList):=by
  refine(List.Perm.map (λi:Lit×DataW Unit=>Go.strOf i.1) (WideShapes.sorted_perm _)).trans ?_;have:(f.toList.map (WideElems.rg Tryz.prog 9 (λ_=>some ((.nil:DataW Unit),[])))).map (λi=>Go.strOf i.1)=(f9.map (·.1)).map λd=>d.data.toList:=by
   have W:f.toList.map (λe=>match e.key with| .string d=>d.data.toList|_=>[])=(f9.map (·.1)).map λd=>d.data.toList:=by
    have:=congrArg (List.map (λt:Value×Value=>match t.1 with| .string d=>d.data.toList|_=>[])) q;simpa [Function.comp_def]using this
   rw [<-W,List.map_map];refine List.map_congr_left λe h=>?_;obtain⟨d,m,o⟩:=B e h;simp [WideElems.rg,C e h d m o,m,Go.strOf]
  rw [this]
 have X:SeqGives Fence.wide 1 Tryz.prog 286 #[.pointer (some ⟨c,0,none⟩)] encStr (λn=>n.Perm (strKeys _)) (Maps.size _) b:=
  AnyZ.keys_gives (ρ:=Tryz.CF) {Tryz.rq with} Fence.wide _ trivial rfl oM c a f.size _ b (ay A) (ae A rfl) U
 have Y:=AnyZ.sorted_in Tryz.PO Fence.wide 4 trivial trivial trivial trivial rfl oM (Tryz.Sc _) (enters_of Tryz.func285 kR rfl) 286 #[.pointer (some ⟨c,0,none⟩)] trivial
  (enters_of Tryz.func286 kR rfl) _ _ (by rw [E];unfold maxLen;omega) (by rw [E];exact z) b X
 refine((callsIn_wide (n:=4)).1 Y).mono ?_;rintro e Z ⟨a0,n,rfl,hS,r,a7,u⟩;have H:n.mergeSort (λd v=>decide (d<=v))=(tV (f9.map (·.1))).map λd=>d.data.toList:=by rw [LQ];exact Go.mergeSort_of_perm (hS.trans V)
 have a8:n.length=(tV (f9.map (·.1))).length:=by
  have:=congrArg List.length H;simpa using this
 have a1:((n.mergeSort (λd v=>decide (d<=v))).map encStr)=(tV (f9.map (·.1))).map Value.string:=by
  rw [H,List.map_map];refine List.map_congr_left λd _=>?_;show Value.string ⟨d.data.toList.toArray⟩=Value.string d;simp
 rw [a1]at r;have hv:∃p w,a0= .slice p n.length w:=by
  rcases r.2 with⟨rfl,h0⟩|⟨g',x,y,rfl,_⟩
  ·exact⟨none,0,by rw [h0]⟩
  ·exact⟨_,_,rfl⟩
 obtain⟨p,w,rfl⟩:=hv;have I:∀l,aF p=some l->b.heap.size<=l/\l<Z.heap.size:=λl s=>by
  rcases r.2 with⟨h,_⟩|⟨g',x,y,h,a9,a6,_⟩
  ·simp only [XX]at h
   rw [h.1]at s;cases s
  ·simp only [XX]at h
   rw [h.1]at s;simp only [aF,Q1]at s;have:=ay a6;omega
 exact Ok.mk ⟨p,_,w,λl=>aF p=some l,rfl,⟨⟨_,λ_=>False,⟨ownsRow_base_a r (Qj _)⟩,bu.Rq (λ_ _=>trivial),λ_ k=>k.elim⟩,λ_ k=>k,λl k=>(I l k).2⟩,ak.FY u,λl k=>(I l k).1⟩
end Go.Proofs.YthnilpgpacdmnaaGreatDoor

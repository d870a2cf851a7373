import Derived.Test.YtjgjkeponbeekaaGreatDoorKa12
import Derived.StringKeys
set_option linter.all false
set_option maxHeartbeats 4000000
set_option maxRecDepth 100000
namespace Go.Proofs.YtjgjkeponbeekaaGreatDoor
open Go.ar
def AD:ft:=⟨[],[],[],[],[(11,⟨[0,1,0,4,10,18,48,64,192,320,576,1088],[4095,4094,4095,4091,4087,4077,4063,4031,3903,3775,3519,3007],[0,2,0,0,2,0,0,0,0,1,0,0]⟩)]⟩
variable{s:Ending->World->Prop}{a c:Nat}{d:Option Addr}{b:World}
def AE(p:al (decide ((a:Int)<4)) (rt s ((.tuple #[.ii 0,.ii 4])) b) (((0:Int)<=1/\(1:Int)<=4/\(4:Int)<=(c:Int)/\PC_ 284 #[.slice (cG d (Int.toNat 1) c 1) (Int.toNat 4-Int.toNat 1) (c-Int.toNat 1)] b (λq f=>∃e,q= .int .u32 e/\(ix_ d 0 a λr t=>(∃h,f.cell? (ad r (t+Int.toNat 0))=some (.int .u8 h)/\al (h==0) (rt s ((.tuple #[.ii 0,.ii 2])) f) (al (decide (((IntKind.wrap .i64 e):Int)>65536)) (rt s ((.tuple #[.ii 0,.ii 5])) f) (al (decide ((a:Int)<(IntKind.wrap .i64 ((IntKind.wrap .i64 (4+(IntKind.wrap .i64 e)))+5)))) (rt s ((.tuple #[.ii 0,.ii 4])) f) (((0:Int)<=(IntKind.wrap .i64 (4+(IntKind.wrap .i64 e)))/\((IntKind.wrap .i64 (4+(IntKind.wrap .i64 e))):Int)<=(c:Int)/\((0:Int)<=(IntKind.wrap .i64 (4+(IntKind.wrap .i64 e)))/\((IntKind.wrap .i64 (4+(IntKind.wrap .i64 e))):Int)<=(IntKind.wrap .i64 ((IntKind.wrap .i64 (4+(IntKind.wrap .i64 e)))+5))/\((IntKind.wrap .i64 ((IntKind.wrap .i64 (4+(IntKind.wrap .i64 e)))+5)):Int)<=(c:Int)/\(∀i,bd f i->(∀j,bd i j->((0:Int)<=4/\(4:Int)<=(((c-Int.toNat (IntKind.wrap .i64 (4+(IntKind.wrap .i64 e)))):Nat):Int)/\PC_ 285 #[.slice d (Int.toNat (IntKind.wrap .i64 (4+(IntKind.wrap .i64 e)))) c] j (λu v=>∃k,u= .int .u32 k/\PC_ 284 #[.slice (cG d (Int.toNat (IntKind.wrap .i64 (4+(IntKind.wrap .i64 e)))) c 1) (Int.toNat 4) (c-Int.toNat (IntKind.wrap .i64 (4+(IntKind.wrap .i64 e))))] v (λw g=>∃l,w= .int .u32 l/\al (k !=l) (rt s ((.tuple #[.ii 0,.ii 6])) g) ((∃m n,(cG d (Int.toNat (IntKind.wrap .i64 (4+(IntKind.wrap .i64 e)))) c 1)=some ⟨m,n,none⟩/\(0:Int)<=4/\4<((Int.toNat (IntKind.wrap .i64 ((IntKind.wrap .i64 (4+(IntKind.wrap .i64 e)))+5))-Int.toNat (IntKind.wrap .i64 (4+(IntKind.wrap .i64 e))):Nat):Int)/\(∃o,g.cell? (ad m (n+Int.toNat 4))=some (.int .u8 o)/\al (o !=10) (rt s ((.tuple #[.ii 0,.ii 6])) g) (rt s ((.tuple #[.ii (IntKind.wrap .i64 e),.ii 0])) g))))) (pZ s)) (pZ s)))))))))))) (pE s)))):Calls XP 225 #[.slice d a c] b s:=DC AD Tryz.func225 rfl p
end Go.Proofs.YtjgjkeponbeekaaGreatDoor
namespace Go.ar
open Go
def AY(a:List UInt8)(b:Nat)(c:(a.getD 1 0).toNat*65536+(a.getD 2 0).toNat*256+(a.getD 3 0).toNat=b):
  bk a=if a.length<4 then⟨0,[],0,4⟩else if a.getD 0 0=0 then⟨0,[],0,2⟩else if 65536<b then⟨0,[],0,5⟩else if a.length<b+9 then⟨0,[],0,4⟩else
   if a.take (b+9)=fR (a.getD 0 0).toNat ((a.drop 4).take b)then⟨(a.getD 0 0).toNat,(a.drop 4).take b,b+9,0⟩else⟨0,[],0,6⟩:=by
 unfold bk;rw[c]
variable{x:List UInt8}
def PG(a:(bk x).no=0):(bk x).kind=((x.getD 0 0).toNat:Int)/\(bk x).body=(x.drop 4).take ((bk x).n-9)/\4<=x.length:=by
 rw[AY x _ rfl]at a⊢;split at a
 ·cases a
 rename_i b;rw[if_neg b];split at a
 ·cases a
 rename_i c;rw[if_neg c];split at a
 ·cases a
 rename_i d;rw[if_neg d];split at a
 ·cases a
 rename_i e;rw[if_neg e];split at a
 ·rename_i f
  rw[if_pos f];exact⟨rfl,sM,oM⟩
 ·cases a
end Go.ar
namespace Go.Proofs.YtjgjkeponbeekaaGreatDoor
open Go.ar
def AZ(a:List UInt8):List Value:=a.map λb=>Value.int .u8 (b.toNat:Int)
variable{e:Int}{x:List UInt8}{a c:Nat}{d:Option Addr}{b:World}
def Dz{f:Nat×Nat}(c:List UInt8)(d:b.heap[a]? =some (.cells (AZ c).toArray 5 f))(g:c.length<=1000):Row fv 1 b (·=a) (ZX a) c.length c:=
 Row.lit (enc:=λe:UInt8=>Value.int .u8 (e.toNat:Int)) d c (by simp[AZ]) (λ_ _=>trivial) (by unfold aK;omega)
def DA{D:Nat->Prop}(B:pN b)(g:Row fv 1 b D d a x)(C:∀f,D f->f<b.heap.size):
  Calls XP 241 #[.agg #[XH e,.slice d a c]] b (Ok λE F=>∃v,E= .tuple #[v,XH (jG e x).2]/\py fv 5 b (jG e x).1 v F):=by
 have H:=g.len;refine EZ (PA.mk λj l s1 m=>⟨d,a,c,ae m rfl,_,ae m rfl,al.dec (λh=>?_) (λh1=>⟨_,ae m rfl,al.dec (λh=>?_) (λh2=>al.dec (λh=>?_) (λh3=>?_))⟩)⟩)
 ·rw[show jG e x=([],2) by unfold jG;rw[if_pos oM]]
  exact Ok.mk ⟨_,rfl,none,0,0,λ_=>False,rfl,aO.nil j,l,λ_ h=>h.elim⟩
 ·rw[show jG e x=([],2) by unfold jG;rw[if_pos oM]]
  exact Ok.mk ⟨_,rfl,none,0,0,λ_=>False,rfl,aO.nil j,l,λ_ h=>h.elim⟩
 ·rw[show jG e x=([],5) by unfold jG;rw[if_neg oM,if_pos oM]]
  exact Ok.mk ⟨_,rfl,none,0,0,λ_=>False,rfl,aO.nil j,l,λ_ h=>h.elim⟩
 rw[show jG e x=(fR e x,0) by unfold jG;rw[if_neg oM,if_neg oM]];refine⟨_,ae m rfl,PA.mk λI n s2 J=>⟨d,a,c,ae (n.get m id) rfl,PA.mk λp o s3 K=>?_⟩⟩;have L:gw .i64 ((a:Nat):Int) 16=((a/65536:Nat):Int):=Mr (k:=.i64) (u:=a) (m:=16) dC;have M:gw .i64 ((a:Nat):Int) 8=((a/256:Nat):Int):=Mr (k:=.i64) (u:=a) (m:=8) dC;have N:e=((e.toNat:Nat):Int):=oM
 have O:I.heap[j.heap.size]? =some (.cells (AZ [UInt8.ofNat e.toNat,UInt8.ofNat (x.length/65536),UInt8.ofNat (x.length/256),UInt8.ofNat x.length]).toArray 5 (0,0)):=by
  rw[J,L,M,N,i_,i_,i_,i_,H];simp[AZ]
 have P:Row fv 1 p (λf=>D f\/f=j.heap.size) (ZX j.heap.size) 4 [UInt8.ofNat e.toNat,UInt8.ofNat (x.length/65536),UInt8.ofNat (x.length/256),UInt8.ofNat x.length]:=
  (Dz (f:=(0,0)) [UInt8.ofNat e.toNat,UInt8.ofNat (x.length/65536),UInt8.ofNat (x.length/256),UInt8.ofNat x.length] (o.get O id) sM).mono λf g=>.inr g
 have Q:Row fv 1 p (λf=>D f\/f=j.heap.size) d a x:=(g.ah ((l.then n).then o)).mono λf g=>.inl g;refine PC.ok (AX K P Q (λf g=>g.elim (λh=>by have:=C f h;omega) λh=>oM) oM (by unfold aK;omega)) ?_;rintro _ q ⟨a4,n4,c4,F4,rfl,k,R,w⟩;have S:[UInt8.ofNat e.toNat,UInt8.ofNat (x.length/65536),UInt8.ofNat (x.length/256),UInt8.ofNat x.length]++x=lR e x:=rfl;rw[S]at k;have a8:=k.len dC;have r:(lR e x).length=4+x.length:=by simp[lR];omega
 have s:ai b q:=((l.then n).then o).then R;refine⟨_,_,_,rfl,PC.ok (LB (B.ah s) (k.row (bytes:=1) dC (by rw[r];unfold aK;omega))) ?_⟩;rintro _ t ⟨rfl,T⟩;have u:ai q t:=T.af;refine⟨_,rfl,?_⟩;generalize U:(MR (lR e x)).toNat=i;have V:gw .u32 (i:Int) 24=((i/16777216:Nat):Int):=Mr (k:=.u32) (u:=i) (m:=24) dC;have W:gw .u32 (i:Int) 16=((i/65536:Nat):Int):=Mr (k:=.u32) (u:=i) (m:=16) dC;have X:gw .u32 (i:Int) 8=((i/256:Nat):Int):=Mr (k:=.u32) (u:=i) (m:=8) dC;rw[V,W,X,i_,i_,i_,i_];refine PA.mk λY y s6 Z=>?_;have a1:Y.heap[t.heap.size]? =some (.cells (AZ (PH i++[10])).toArray 5 (0,0)):=by rw[Z];rfl
 have a2:=(k.ah u).ah y;have a9:q.heap.size<=t.heap.size:=u.size;refine kh a2 sK (Dz (PH i++[10]) a1 (by simp[PH])) (λf z=>⟨oM,λe2=>by have:=k.aB f (k.self f e2);omega⟩) (by rw[r];unfold aK;simp[PH];omega) (by rw[r];unfold maxLen;simp[PH];omega) λA c7 w7 F7 a3 a5 _ a6=>?_;refine⟨_,_,_,rfl,Ok.mk ⟨_,rfl,A,_,c7,λf=>aF A=some f,rfl,?_,?_,?_⟩⟩
 ·have h7:=a3.alone
  have z:fR e x=lR e x++(PH i++[10]):=by unfold fR;rw[U,XQ]
  rw[z];exact h7
 ·exact((s.then u).then y).new a5 λf g=>.inr (by have:=w f (k.self f g);have:=l.size;have:=n.size;have:=o.size;omega)
 ·intro f g
  have b0:b.heap.size<=p.heap.size:=oM
  rcases a6 f g with h|h
  ·have:=w f h;omega
  ·have:=s.size;omega
def HH{D:Nat->Prop}(E:pN b)(h:Row fv 1 b D d a x)(r:a<=c):
  Calls XP 225 #[.slice d a c] b (Ok λF H=>F= .tuple #[XH (((bk x).n-9:Nat):Int),XH (bk x).no]/\bd b H):=by
 have W:=h.len;have I:=h.dN;unfold aK at I;generalize s:(x.getD 1 0).toNat*65536+(x.getD 2 0).toNat*256+(x.getD 3 0).toNat=e;have f:=AY x e s;refine AE (al.dec (λm=>?_) (λX=>?_))
 ·rw[f,if_pos oM]
  exact Ok.mk ⟨rfl,bd.refl b⟩
 rw[if_neg (show¬x.length<4 by omega)]at f;refine⟨oM,oM,oM,PC.ok (uJ (bs:=(x.take 4).drop 1) (h.part (lo:=1) (hi:=4) (cap:=c) oM oM r) dC) ?_⟩;rintro _ Y ⟨rfl,rfl⟩;have J:fX ((x.take 4).drop 1)=e:=by
  rw[Tc oM];show fX [x.getD 1 0,x.getD 2 0,x.getD 3 0]=e;simp only[fX,List.foldl];omega
 have Z:e<16777216:=by
  have h1:=(x.getD 1 0).toNat_lt;have h2:=(x.getD 2 0).toNat_lt;have h3:=(x.getD 3 0).toNat_lt;omega
 rw[J];obtain⟨k,g,t,rfl,K,_,i⟩:=h.l_ (i:=0) oM;have j:x.getD 0 0=t:=by rw[QQ,K];rfl
 have L:IntKind.wrap .i64 (e:Int)=(e:Int):=wrap_i64 (by unfold aH;omega);have M:IntKind.wrap .i64 (4+(e:Int))=((4+e:Nat):Int):=by rw[wrap_i64 (by unfold aH;omega)];omega
 have N:IntKind.wrap .i64 (((4+e:Nat):Int)+5)=((4+e+5:Nat):Int):=by rw[wrap_i64 (by unfold aH;omega)];omega
 refine⟨_,rfl,k,g,rfl,oM,oM,_,i,?_⟩;rw[L,M,N];refine al.dA (λm=>?_) (λn=>al.dec (λm=>?_) (λa8=>al.dec (λm=>?_) (λa7=>?_)))
 ·rw[f,j,if_pos (UInt8.toNat_inj.1 (by
                        have:t.toNat=0:=oM
                        rw[this];rfl))]
  exact Ok.mk ⟨rfl,bd.refl b⟩
 ·rw[f,j,if_neg (by rintro rfl;exact n rfl),if_pos oM]
  exact Ok.mk ⟨rfl,bd.refl b⟩
 ·rw[f,j,if_neg (by rintro rfl;exact n rfl),if_neg oM,if_pos oM]
  exact Ok.mk ⟨rfl,bd.refl b⟩
 rw[j,if_neg (by rintro rfl;exact n rfl),if_neg (show¬65536<e by omega),if_neg (show¬x.length<e+9 by omega)]at f;have l:=TS (b:=x) (n:=e) oM s oM;rw[j]at l;refine⟨oM,oM,oM,oM,oM,λw8 u O v=>⟨oM,oM,?_⟩⟩;have w:ai b O:=(u.then v).af;have y:=h.ah w;refine PC.ok (LB (E.ah w) (y.take (m:=4+e) oM)) ?_;rintro _ P ⟨rfl,z⟩;have A:=y.ah z.af;have B:=A.part (lo:=4+e) (hi:=4+e+4) (cap:=c) oM oM r;rw[show 4+e+4-(4+e)=4 by omega]at B;refine⟨_,rfl,PC.ok (uJ B dC) ?_⟩;rintro _ a9 ⟨rfl,rfl⟩;have Q:(x.take (4+e+4)).drop (4+e)=(x.drop (4+e)).take 4:=by rw[List.drop_take];congr 1;omega
 rw[Q];have o:bd b P:=(u.then v).then z;refine⟨_,rfl,al.dB (λp=>?_) (λb0=>?_)⟩
 ·rw[f,if_neg (λi=>p (by rw[(l.1 i).1]))]
  exact Ok.mk ⟨rfl,o⟩
 obtain⟨b7,o8,q,R,S,_,T⟩:=A.l_ (i:=8+e) oM
 cases R
 have C:x.getD (8+e) 0=q:=by rw[QQ,S];rfl
 have U:cG (some ⟨k,g,none⟩) (4+e) c 1=some ⟨k,g+(4+e),none⟩:=by
  unfold cG;rw[if_neg oM];simp[Addr.add_lit]
 refine⟨k,g+(4+e),U,oM,oM,_,by rw[show g+(4+e)+Int.toNat 4=g+(8+e) by show g+(4+e)+4=_;omega];exact T,al.dB (λp=>?_) (λhe=>?_)⟩
 ·rw[f,if_neg (λi=>p (by rw[<-C,(l.1 i).2];rfl))]
  exact Ok.mk ⟨rfl,o⟩
 ·have V:q=10:=UInt8.toNat_inj.1 (by show q.toNat=10;omega)
  rw[f,if_pos (l.2 ⟨oM,C.trans V⟩)];exact Ok.mk ⟨sM,o⟩
def DB{D:Nat->Prop}(Q:pN b)(f:Row fv 1 b D d a x)(t:a<=c)(u:∀e,D e->e<b.heap.size):
  Calls XP 163 #[.slice d a c] b (Ok λR v=>∃w y z A,R= .tuple #[.agg #[XH (bk x).kind,.slice w y z],XH ((bk x).n:Int),XH (bk x).no]/\
   aO fv 5 A v w y z (bk x).body/\ai b v/\∀e,A e->b.heap.size<=e):=by
 have hn:=f.len;have S:=f.dN;unfold aK at S;refine EX (PA.mk λB j s1 T=>PC.ok (HH (Q.ah j) (f.ah j) t) ?_);rintro _ C ⟨rfl,U⟩;have k:ai B C:=U.af;have E:=k.get T id;refine⟨_,_,rfl,al.dB (λl=>?_) (λm=>?_)⟩
 ·have n:(bk x).kind=0/\(bk x).body=[]/\(bk x).n=0:=by
   rw[AY x _ rfl]at l⊢
   repeat' split
   all_goals first|exact⟨rfl,rfl,rfl⟩|skip
   rename_i V W X Y Z;rw[if_neg V,if_neg W,if_neg X,if_neg Y,if_pos Z]at l;exact absurd rfl l
  rw[n.1,n.2.1,n.2.2];refine storeAll [XH 0,.slice none 0 0] E rfl λh i s3 F=>⟨0,none,0,0,ae F rfl,ae F rfl,Ok.mk ⟨none,0,0,λ_=>False,rfl,aO.nil h,?_,λ_ o=>o.elim⟩⟩
  exact(j.then k).new i λe f=>.inr oM
 obtain⟨a0,h9,a1⟩:=uK m;generalize a2:(bk x).n=g at a0 h9 a1;obtain⟨a3,H,b1⟩:=PG m;rw[a2]at H;have I:(bk x).kind=((x.getD 0 0).toNat:Int)/\(bk x).body=(x.drop 4).take (g-9):=⟨a3,H⟩
 intro h a5;have i:ai C h:=a5.af;have p:ai b h:=(j.then k).then i;have q:=f.ah p;obtain⟨J,o6,K,rfl,hx,_,hc⟩:=q.l_ (i:=0) oM;obtain⟨b2,b3,x',es,a6,_,a7,_⟩:=q.yV (i:=0) oM
 cases a6
 have a8:x.getD 0 0=K:=by rw[QQ,hx];rfl
 have e4:IntKind.wrap .i64 (4+((g-9:Nat):Int))=((4+(g-9):Nat):Int):=by rw[wrap_i64 (by unfold aH;omega)];omega
 have e9:IntKind.wrap .i64 (((4+(g-9):Nat):Int)+5)=(g:Int):=by rw[wrap_i64 (by unfold aH;omega)];omega
 refine⟨λe=>b.heap.size<=e,J,o6,rfl,oM,oM,by have:=u J a7;omega,_,hc,?_⟩;rw[e4,e9];refine⟨oM,oM,oM,?_⟩;have a4:=q.part (lo:=4) (hi:=4+(g-9)) (cap:=c) oM oM t;refine PC.ok (kf a4 (λe o=>by have:=u e o;have:=p.size;omega)) ?_;rintro _ w4 ⟨L,M,N,F4,rfl,a9,r,O⟩;have b4:B.heap.size<=h.heap.size:=(k.then i).size;have g4:=r.get (i.get E id) id;refine⟨_,_,_,rfl,r.af,?_⟩;refine storeAll [XH (IntKind.wrap .i64 (K.toNat:Int)),.slice L M N] g4 rfl λw5 s s5 P=>⟨s.mono λe _ b0=>oM,_,_,_,_,ae P rfl,ae P rfl,Ok.mk ⟨L,M,N,F4,?_,?_,?_,?_⟩⟩
 ·rw[Kp,I.1,a8,m]
 ·rw[I.2,<-show(x.take (4+(g-9))).drop 4=(x.drop 4).take (g-9) by rw[List.drop_take];congr 1;omega]
  exact a9.af s λe f b0=>by have:=O e f;omega
 ·exact(p.then r).new s λe f=>.inr oM
 ·intro e f;have:=O e f;omega
end Go.Proofs.YtjgjkeponbeekaaGreatDoor
namespace Go.Proofs.YtjgjkeponbeekaaGreatDoor
open Go.ar
variable{V n:Array Value}{a7:FrameMode}{z:FuncId}{e:Int}{a8 t:List Int}{a0:List PanicEntry->World->Prop}{x:List UInt8}{K:List aj}{a c i:Nat}{f:Nat->Prop}{R W:Operand}{d r:Option Addr}{h:Program}{b:World}{y:World->Prop}{o:aj}{Y:lP}
def Qi(m:eJ b a f Y):
  Calls XP 228 #[ZQ a,XH e] b (Uj b a f Y (if Y.num.1=0 then(if Y.num.2.1<0\/e<Y.num.2.1 then 3 else 0)else Y.num.1) (λk n=>k= XH Y.num.2.1) Y.num.2.2):=by
 refine rF (PC.red (DV m) ?_ ?_)
 rotate_left
 ·intro g l h i j
  rw[if_neg g];exact⟨.inr ⟨g,rfl,h⟩,i,j⟩
 rintro g _ l h rfl i j;rw[if_pos g];have d:Y.num.2.1<0\/e<Y.num.2.1->Uj b a f Y (if Y.num.2.1<0\/e<Y.num.2.1 then 3 else 0) (λk n=>k= XH Y.num.2.1) Y.num.2.2 (.panicked (Ti 3)) l:=λc=>by
  rw[if_pos c];exact⟨.inr ⟨dC,rfl,_,h⟩,i,j⟩
 refine⟨_,rfl,al.dec (λo=>fy (λc=>⟨rfl,?_⟩) (λc=>d (.inr ?_))) (λo=>fy (λc=>by cases c) (λ_=>d (.inl oM)))⟩
 ·have c:=XV c
  rw[if_neg oM];exact⟨.inl ⟨rfl,h,_,rfl,rfl⟩,i,j⟩
 ·have c:=Xy c
  omega
def H_:(do eqGuard .eql 20 R (.const .nilIface) .nilIface .nilIface;binOp .eql 20 .nilIface .nilIface:Sem Value).run XP b= .ok (.bool true) b:=by
 cases R<;>rfl
def FT:(do eqGuard .eql 20 R W (.iface 372 (XH e)) .nilIface;binOp .eql 20 (.iface 372 (XH e)) .nilIface:Sem Value).run XP b= .ok (.bool false) b:=by
 rfl
def Ia:(Instr.typeAssert (.iface 372 (XH e)) 20 372 true).run XP b= .ok (.tuple #[XH e,.bool true]) b:=by
 rfl
def Lv.ret{ret:World->Prop}(a:a7= .returning)(c:ret b):Lv h ret a0 [] a7 b:=by
 subst a;unfold Lv;exact c
def Lv.one(d:a7≠.run)(e:enters h z=true)(f:CallsD h z n a7 b λg a c=>PR g (λ_=>Lv h y a0 [] (settle a) c) (λi=>Lv h y a0 [] (raised a i) c)):Lv h y a0 [{target:=.fn (.func z) n,args:= #[]}] a7 b:=
 ⟨d,z,n,rfl,e,by rw[show(#[]++n:Array Value)=n by simp];exact f⟩
def By{j S:Nat->Prop}(f:eJ b a j Y)(J:enters XP z=true){A:World->Prop}{no:Int}(t:∀g,S g->g<b.heap.size)(K:Y.uZ=0->∀e,ai b e->Calls XP z (n++ #[]++V) e λd c=>ak S e c/\((no=0/\d= .returned (.tuple #[])/\A c)\/(no≠0/\(no=3\/no=4\/no=5)/\d= .panicked (Ti no)/\ak (·=a) e c/\∃u,eJ c a j ⟨Y.bytes,u,0⟩))):
  Calls XP 226 #[ZQ a,.func (.func z) n V] b (Ok λL c=>L= .tuple #[]/\ak (λg=>S g\/g=a) b c/\
   ((Y.uZ≠0/\ai b c)\/(Y.uZ=0/\no=0/\ak S b c/\A c)\/(Y.uZ=0/\no≠0/\ak (·=a) b c/\eJ c a j ⟨Y.bytes,Y.pos,no⟩))):=by
 obtain⟨a0,a2,M,G,v,h2,h3⟩:=f.body;have hp:=ax v;refine oJ (PA.mk λe k s1 l=>?_);have w:=k.get v id;refine⟨_,ae l rfl,a,0,rfl,_,ae w rfl,al.dB (λN=>Ok.mk ⟨rfl,k.af,.inl ⟨N,k⟩⟩) (λm=>?_)⟩;refine⟨_,ae l rfl,a,0,rfl,_,ae w rfl,PA.mk λw2 O s2 P=>PS.mk P sM λo Q s3 R=>⟨z,n,V,rfl,J,?_⟩⟩;have x:ak (·=e.heap.size) e o:=O.af.then Q;have p:ai b o:=k.new x λg hb=>.inr oM;refine(K m o p).mono ?_;rintro d h ⟨q,T⟩;have y:h.heap[b.heap.size]? =some (.cells #[ZQ a] 280 (0,0)):=q.get (x.get l (by intro d;omega)) (λr=>by have:=t _ r;omega);have U:h.heap[e.heap.size]? =some (.cells #[XH (Y.pos:Int)] 3 (0,0)):=q.get R (λr=>by have:=t _ r;omega);have B:ak S b h:=p.af.then q;rcases T with⟨s,rfl,W⟩|⟨s,X,rfl,Z,u,C⟩
 ·refine⟨rfl,Lv.one sM kR ?_⟩
  refine CallsD.mono (fK (rv:=.nilIface) (u:=.returning) rfl (R:=λd i c=>d= .returned (.tuple #[])/\i= .returning/\c=h) ?_) ?_
  ·exact aG.mk H_ ⟨_,rfl,al.tt rfl ⟨rfl,rfl,rfl⟩⟩
  ·rintro d i c ⟨rfl,rfl,rfl⟩
   refine Lv.ret rfl ?_;exact Ok.mk ⟨rfl,B.mono λ_ _ f=>.inl f,.inr (.inl ⟨m,s,B,W⟩)⟩
 ·refine Lv.one sM kR ?_
  obtain⟨a',n',E,G',e1,e2,e3⟩:=C.body;refine CallsD.mono (fK (rv:=.iface 372 (XH no)) (u:=.panicking (Ti no)) rfl (R:=λd i c=>d= .returned (.tuple #[])/\settle i= .returning/\eJ c a j ⟨Y.bytes,Y.pos,no⟩/\ak (·=a) b c) ?_) ?_
  ·refine aG.mk (v:=.bool false) (w':=h) ?_ ⟨_,rfl,al.ff rfl (aG.mk (v:=.tuple #[XH no,.bool true]) (w':=h) ?_ ⟨_,_,rfl,al.tt rfl ?_⟩)⟩
   ·exact FT
   ·exact Ia
   ·refine⟨_,ae y rfl,_,ae y rfl,_,ae U rfl,a,0,rfl,PS.mk e1 sM λw5 F s5 g5=>⟨a,0,rfl,PS.mk g5 sM λw6 H s6 g6=>⟨rfl,rfl,?_,?_⟩⟩⟩
    ·exact C.d_ (r':=⟨Y.bytes,Y.pos,no⟩) e2 e3 (F.then H) g6 rfl ⟨f.fit.pos,.inr X⟩
    ·exact(p.af.then Z).then (F.then H)
  ·rintro d i c ⟨rfl,eX,a1,I⟩
   refine Lv.ret eX ?_;exact Ok.mk ⟨rfl,I.mono λ_ _ f=>.inr f,.inr (.inr ⟨m,s,I,a1⟩)⟩
def Fk(c:eJ b a f Y):
  Calls XP 166 #[ZQ a] b (Ok λr i=>r= XH (fk Y).1/\eJ i a f (fk Y).2/\ak (·=a) b i):=by
 have P:a<b.heap.size:=c.aB a c.self;refine uh (PA.mk λm H Q x=>PA.mk λI s R t=>⟨_,ae (s.get x id) rfl,?_⟩);have y:ai b I:=H.then s;have u:=c.ah y;have J:=s.get x id;refine PC.ok (By (S:=λh=>h=a\/h=m.heap.size) (no:=Y.num.1) (A:=λi=>eJ i a f ⟨Y.bytes,Y.pos+Y.num.2.2,Y.uZ⟩/\i.heap[m.heap.size]? =some (.cells #[XH Y.num.2.1] 3 (0,0))) u kR ?_ ?_) ?_
 ·rintro h (rfl|rfl)<;>omega
 ·intro K n q
  refine rG ⟨_,ae (q.get J id) rfl,PC.red (DV (u.ah q)) ?_ ?_⟩
  ·rintro j _ z d rfl k A
   have v:=k.get (q.get t id) oM;refine⟨_,rfl,PS.mk v sM λS B T L=>⟨(k.mono λ_ _ c=>.inl c).then (B.mono λ_ _ c=>.inr c),.inl ⟨j,rfl,d.af B λh o g=>?_,L⟩⟩⟩;have:=c.aB h o;omega
  ·rintro j z d k A
   rw[K]at d;have:=jg (Y.bytes.drop Y.pos);exact⟨k.mono λ_ _ c=>.inl c,.inr ⟨j,by have:=this.2.2.2.1;unfold lP.num at j⊢;omega,rfl,k,d⟩⟩
 ·rintro _ n ⟨rfl,q,M⟩
  have N:ak (·=a) b n:=y.af.new q λh o=>by
   rcases o with(rfl|rfl)|rfl
   ·exact .inl rfl
   ·exact .inr oM
   ·exact .inl rfl
  have e:∀w:Int,n.heap[m.heap.size]? =some (.cells #[XH w] 3 (0,0))->eJ n a f (fk Y).2->w=(fk Y).1->
    (∃C:Int,n.cell? ⟨m.heap.size,0,none⟩=some (XH C)/\PS n ⟨m.heap.size,0,none⟩ (XH C) λE=>∃F:Int,E.cell? ⟨m.heap.size,0,none⟩=some (XH F)/\
     Ok (λr i=>r= XH (fk Y).1/\eJ i a f (fk Y).2/\ak (·=a) b i) (.returned (XH F)) E):=by
   rintro w l d rfl;refine⟨_,ae l rfl,PS.mk l sM λz k A v=>⟨_,ae v rfl,Ok.mk ⟨rfl,d.af k λh o g=>?_,N.new k λh o=>.inr oM⟩⟩⟩;have:=c.aB h o;omega
  refine⟨rfl,?_⟩;rcases M with⟨p,l⟩|⟨p,j,_,d,l⟩|⟨p,j,O,d⟩
  ·have g:fk Y=(0,Y):=by unfold fk;rw[if_pos p]
   exact e 0 (l.get t id) (by rw[g];exact u.ah l) (by rw[g])
  ·have g:fk Y=(Y.num.2.1,⟨Y.bytes,Y.pos+Y.num.2.2,0⟩):=by unfold fk;rw[if_neg (by simp[p]),if_pos j]
   exact e _ l (by rw[g];rw[p]at d;exact d) (by rw[g])
  ·have g:fk Y=(0,⟨Y.bytes,Y.pos,Y.num.1⟩):=by unfold fk;rw[if_neg (by simp[p]),if_neg j]
   exact e 0 (O.get t oM) (by rw[g];exact d) (by rw[g])
def HG{m:Int}(d:eJ b a f Y):
  Calls XP 165 #[ZQ a,XH m] b (Ok λw k=>w= XH (bW m Y).1/\eJ k a f (bW m Y).2/\ak (·=a) b k):=by
 have X:a<b.heap.size:=d.aB a d.self;refine rA (PA.mk λZ N s1 E=>PA.mk λo x sm O=>PA.mk λP v s2 y=>⟨_,ae (v.get (x.get E id) id) rfl,?_⟩);have F:ai b P:=(N.then x).then v;have z:=d.ah F;have Q:=v.get (x.get E id) id;have R:=v.get O id;generalize i:(if Y.num.1=0 then(if Y.num.2.1<0\/m<Y.num.2.1 then 3 else 0)else Y.num.1:Int)=no;refine PC.ok (By (S:=λj=>j=a\/j=o.heap.size) (no:=no) (A:=λk=>eJ k a f ⟨Y.bytes,Y.pos+Y.num.2.2,Y.uZ⟩/\k.heap[o.heap.size]? =some (.cells #[XH Y.num.2.1] 3 (0,0))) z kR ?_ ?_) ?_
 ·rintro j (rfl|rfl)<;>omega
 ·intro S p q
  refine oS ⟨_,ae (q.get Q id) rfl,_,ae (q.get R id) rfl,PC.red (Qi (z.ah q)) ?_ ?_⟩
  ·rintro e _ H g rfl l I
   rw[i]at e;have A:=l.get (q.get y id) oM;refine⟨_,rfl,PS.mk A sM λw5 J s5 T=>⟨(l.mono λ_ _ d=>.inl d).then (J.mono λ_ _ d=>.inr d),.inl ⟨e,rfl,g.af J λj r c=>?_,T⟩⟩⟩;have:=d.aB j r;omega
  ·rintro e H g l I
   rw[i]at e⊢;rw[S]at g;have B:=(jg (Y.bytes.drop Y.pos)).2.2.2.1;refine⟨l.mono λ_ _ d=>.inl d,.inr ⟨e,?_,rfl,l,g⟩⟩
   change Y.num.1=0\/Y.num.1=4\/Y.num.1=5 at B
   rw[<-i]at e⊢;split
   ·rename_i c
    rw[if_pos c]at e;split
    ·exact .inl rfl
    ·rename_i t;rw[if_neg t]at e;exact absurd rfl e
   ·omega
 ·rintro _ p ⟨rfl,q,U⟩
  have V:ak (·=a) b p:=F.af.new q λj r=>by
   rcases r with(rfl|rfl)|rfl
   ·exact .inl rfl
   ·exact .inr oM
   ·exact .inl rfl
  have h:∀C:Int,p.heap[o.heap.size]? =some (.cells #[XH C] 3 (0,0))->eJ p a f (bW m Y).2->C=(bW m Y).1->
    (∃K:Int,p.cell? ⟨o.heap.size,0,none⟩=some (XH K)/\PS p ⟨o.heap.size,0,none⟩ (XH K) λL=>∃M:Int,L.cell? ⟨o.heap.size,0,none⟩=some (XH M)/\
     Ok (λw k=>w= XH (bW m Y).1/\eJ k a f (bW m Y).2/\ak (·=a) b k) (.returned (XH M)) L):=by
   rintro C n g rfl;refine⟨_,ae n rfl,PS.mk n sM λH l I A=>⟨_,ae A rfl,Ok.mk ⟨rfl,g.af l λj r c=>?_,V.new l λj r=>.inr oM⟩⟩⟩;have:=d.aB j r;omega
  refine⟨rfl,?_⟩;rcases U with⟨s,n⟩|⟨s,e,_,g,n⟩|⟨s,e,W,g⟩
  ·have c:bW m Y=(0,Y):=by unfold bW;rw[if_pos s]
   exact h 0 (n.get y id) (by rw[c];exact z.ah n) (by rw[c])
  ·have c:bW m Y=(Y.num.2.1,⟨Y.bytes,Y.pos+Y.num.2.2,0⟩):=by
    have B:=(jg (Y.bytes.drop Y.pos)).2.2.2.1
    change Y.num.1=0\/Y.num.1=4\/Y.num.1=5 at B
    unfold bW;rw[if_neg (by simp[s])];split at i
    ·rename_i u
     rw[if_pos u];split at i
     ·omega
     ·rename_i t;rw[if_neg t]
    ·omega
   exact h _ n (by rw[c];rw[s]at g;exact g) (by rw[c])
  ·have c:bW m Y=(0,⟨Y.bytes,Y.pos,no⟩):=by
    unfold bW;rw[if_neg (by simp[s])];split at i
    ·rename_i u
     rw[if_pos u];split at i
     ·rename_i t;rw[if_pos t,i]
     ·omega
    ·rename_i u;rw[if_neg u,i]
   exact h 0 (W.get y oM) (by rw[c];exact g) (by rw[c])
def LF(h:eJ b a f Y):
  Calls XP 167 #[ZQ a] b (Ok λi j=>i= XH (kj Y)/\bd b j):=by
 obtain⟨o,p,k,G,d,l,q⟩:=h.body;have r:=l.len dC;have g:Y.uZ≠0\/¬Y.pos<Y.bytes.length->kj Y=Y.uZ:=λs=>by unfold kj;rw[if_neg oM]
 refine sZ ⟨a,0,rfl,_,ae d rfl,al.dA (λe=>⟨a,0,rfl,_,ae d rfl,a,0,rfl,_,_,_,ae d rfl,λm c=>al.dec (λn=>?_) λn=>?_⟩) (λe m c=>?_)⟩
 ·exact Ok.mk ⟨by unfold kj;rw[if_pos ⟨e,oM⟩],c⟩
 ·exact⟨a,0,rfl,_,ae ((c.af (S:=λ_=>False)).get d id) rfl,Ok.mk ⟨by rw[g (.inr oM)],c⟩⟩
 ·exact⟨a,0,rfl,_,ae ((c.af (S:=λ_=>False)).get d id) rfl,Ok.mk ⟨by rw[g (.inl e)],c⟩⟩
def tQ:jC XP 42 3 1 8:=⟨kR,kR,dC⟩
def aC(a:aj)(b:Option Addr)(c d:Nat):List Value:=
 [XH a.origin,XH a.seq,XH a.ay,.slice b c d,XH a.aS,XH a.agg,XH a.field,XH a.op,XH a.arg,XH a.key]
def jj:jo aj where
 k:=10
 rep:=λj D e cs=>∃a b c,cs=aC e a b c/\Row aJ 8 j D a b e.aP/\e.Ok
 af:=λ⟨a,b,c,d,f,g⟩ k h=>⟨a,b,c,d,f.af k h,g⟩
 mono:=λ⟨a,b,c,d,f,g⟩ h=>⟨a,b,c,d,f.mono h,g⟩
 len:=λ⟨a,b,c,d,_,_⟩=>by rw[d];rfl
 one:=λ⟨a,b,c,d,_,_⟩ l i=>by
  rw[d]at i;simp only[aC,Q2,List.not_mem_nil,or_false]at i;rcases i with rfl|rfl|rfl|rfl|rfl|rfl|rfl|rfl|rfl|rfl<;>rfl
def uH:jo aj where
 k:=10
 rep:=λn D g cs=>∃a b c d,cs=aC g a b c/\aO aJ 3 d n a b c g.aP/\(∀e,d e->D e)/\g.Ok/\g.aP.length*8<=aK
 af:=λ⟨a,b,c,d,f,i,h,j⟩ o k=>⟨a,b,c,d,f,i.af o (λe l=>k e (h e l)),h,j⟩
 mono:=λ⟨a,b,c,d,f,i,h,j⟩ k=>⟨a,b,c,d,f,i,λe l=>k e (h e l),j⟩
 len:=λ⟨a,b,c,d,f,_⟩=>by rw[f];rfl
 one:=λ⟨a,b,c,d,f,_⟩ p m=>by
  rw[f]at m;simp only[aC,Q2,List.not_mem_nil,or_false]at m;rcases m with rfl|rfl|rfl|rfl|rfl|rfl|rfl|rfl|rfl|rfl<;>rfl
def uH.read{D:Nat->Prop}{cs:List Value}(a:uH.rep b D o cs):jj.rep b D o cs:=by
 obtain⟨c,d,e,k,f,g,h,i,j⟩:=a;exact⟨c,d,e,f,(g.row dC j).mono h,i⟩
def uH.row{D:Nat->Prop}(c:Row uH 96 b D d a K):Row jj 96 b D d a K:=
 ⟨c.len,c.dN,λf g h=>by
  obtain⟨i,e,j,k,l,m,n,o⟩:=c.el f g h;exact⟨i,e,j,k,l,m,n,uH.read o⟩⟩
def IV:jC XP 59 63 10 96:=⟨kR,kR,dC⟩
def Fj{u v:Nat}{m D:Nat->Prop}{n S:Nat}(E:b.heap[a]? =some (.cells #[.slice d u v] 237 (0,0)))(j:aO fv 5 m b d u v x)(s:Row aJ 8 b D r n t)(T:¬m a)(U:¬D a)(V:x.length+9*t.length+9<=aK):
  Calls XP 314 #[.slice r n S,ZQ a] b (Ok λW k=>W= .tuple #[]/\∃f g h l,k.heap[a]? =some (.cells #[.slice f g h] 237 (0,0))/\
   aO fv 5 l k f g h (x++bI t)/\¬l a/\ak (·=a) b k/\∀c,l c->m c\/b.heap.size<=c):=by
 have X:=s.len;have a7:=ax E;have Y:=s.dN;unfold aK at Y;refine Cq ⟨λF i k=>∃e:Nat,i=e/\e<=n/\F=n-e/\∃f g h l,k.heap[a]? =some (.cells #[.slice f g h] 237 (0,0))/\
   aO fv 5 l k f g h (x++bI (t.take e))/\¬l a/\ak (·=a) b k/\∀c,l c->m c\/b.heap.size<=c,
  ⟨_,0,rfl,Qj _,rfl,d,u,v,m,E,by simpa[bI]using j,T,ak.refl _,λc w=>.inl w⟩,?_⟩
 rintro F i _ w1 ⟨e,rfl,hj,rfl,H,I,J,Z,y,o,a0,p,a1⟩;refine al.dec (λh1=>?_) (λh1=>?_)
 ·obtain⟨c,z,A,rfl,B,C,hc⟩:=(s.af p (λc j q=>U (q▸j))).l_ (i:=e) oM
  refine⟨c,z,rfl,oM,oM,A,hc,H,I,J,ae y rfl,?_⟩;have a8:(bI (t.take e)).length<=9*e:=by
   have:=fj (l:=t.take e) (λa9 hy=>by
    obtain⟨K,L⟩:=List.getElem?_of_mem (List.mem_of_mem_take hy);have a2:K<n:=by rw[X];exact(Qv.1 L).1
    obtain⟨_,_,b0,_,M,a3,_⟩:=s.l_ (i:=K) a2;rw[L]at M;cases M;exact a3)
   simp only[Qy]at this;omega
  have a4:=o.len dC;rw[QX]at a4;unfold aK at V;refine PC.ok (AT C (o.row (bytes:=1) dC (by rw[QX];unfold aK;omega)) (by unfold aK;omega) o.aB) ?_;rintro _ w2 ⟨a5,n2,c2,N,rfl,a6,O,P⟩;have Q:¬N a:=λw=>by have:=P a w;have:=p.size;omega
  refine⟨_,_,_,rfl,PS.mk (O.get y id) sM λw3 R s3 g3=>⟨_,oM,e+1,aq oM,oM,rfl,a5,n2,c2,N,g3,?_,Q,(p.ah O).then R,λc j=>.inr (Xx p.size (P c j))⟩⟩;rw[Qw,B];have q:x++bI (List.take e t++(some A).toList)=x++bI (List.take e t)++nP A:=by rw[gU];simp[bI]
  rw[q];exact a6.af R λc j q=>Q (q▸j)
 ·rw[Qz oM]at o
  exact Ok.mk ⟨rfl,H,I,J,Z,y,o,a0,p,a1⟩
def AU{f:Nat×Nat}(c:List Int)(d:b.heap[a]? =some (.cells (c.map (Value.int .i64)).toArray 3 f))(e:∀g∈c,aH g)(h:c.length<=1000):Row aJ 8 b (·=a) (ZX a) c.length c:=
 Row.lit d c sM e (by unfold aK;omega)
def MZ{D:Nat->Prop}(x:Row aJ 8 b D d a o.aP)(e:o.Ok)(H:∀f,D f->f<b.heap.size):
  Calls XP 264 #[.agg (aC o d a c).toArray] b (Ok λI J=>∃y,I= .tuple #[y,XH (iB o).2]/\py fv 5 b (iB o).1 y J):=by
 have K:=x.len;refine Hp (PA.mk λk n s1 z=>⟨d,a,c,ae z rfl,al.dec (λh=>?_) (λh=>?_)⟩)
 ·have r:iB o=([],3):=by unfold iB;rw[if_pos oM]
  rw[r];exact Ok.mk ⟨_,rfl,none,0,0,λ_=>False,rfl,aO.nil k,n,λ_ h=>h.elim⟩
 have a8:o.aP.length<=64:=oM
 have r:iB o=(bI (ki o),0):=by unfold iB;rw[if_neg oM]
 rw[r];have A:∀f,D f->f<k.heap.size:=λf i=>Qk (H f i) n.size;refine PA.mk λl s s2 L=>?_;have m:=s.get z id;refine⟨_,ae m rfl,_,ae m rfl,_,ae m rfl,_,_,_,ae m rfl,PA.mk λB C s3 M=>⟨_,_,_,rfl,kR,?_⟩⟩;have N:Row aJ 8 B (·=l.heap.size) (ZX l.heap.size) 4 [o.origin,o.seq,o.ay,(o.aP.length:Int)]:=
  AU (f:=(0,0)) [o.origin,o.seq,o.ay,(o.aP.length:Int)] (by rw[M,<-K];rfl) (by intro t g;simp at g;rcases g with rfl|rfl|rfl|rfl;exact e.origin;exact e.seq;exact e.ay;unfold aH;omega) sM
 refine PC.ok (Fj (C.get L id) (aO.nil B) N id (by show¬k.heap.size=l.heap.size;omega) (by unfold aK;simp)) ?_;rintro _ E ⟨rfl,a4,n4,c4,F4,O,P,Q,R,S⟩;have p:ak (·=k.heap.size) l E:=C.af.then R;have F:=p.get m oM;have T:Row aJ 8 E D d a o.aP:=((x.ah (n.then s)).af p λf i o=>by have:=A f i;omega)
 refine⟨rfl,_,_,_,ae F rfl,_,_,_,rfl,kR,PC.ok (Fj O P T Q (λh=>by have:=A _ h;omega) ?_) ?_⟩
 ·have u:=fj (l:=[o.origin,o.seq,o.ay,(o.aP.length:Int)]) (by intro t g;simp at g;rcases g with rfl|rfl|rfl|rfl;exact e.origin;exact e.seq;exact e.ay;unfold aH;omega)
  simp only[List.nil_append,Xq,List.length_nil]at u⊢;unfold aK;omega
 rintro _ v ⟨rfl,a5,n5,c5,F5,U,V,W,w,X⟩;have j:=w.get F oM;refine⟨rfl,_,ae j rfl,_,ae j rfl,_,ae j rfl,_,ae j rfl,_,ae j rfl,_,ae j rfl,PA.mk λY q s6 Z=>⟨_,_,_,rfl,kR,?_⟩⟩;have r6:Row aJ 8 Y (·=v.heap.size) (ZX v.heap.size) 6 [o.aS,o.agg,o.field,o.op,o.arg,o.key]:=
  AU (f:=(0,0)) [o.aS,o.agg,o.field,o.op,o.arg,o.key] Z (by intro t g;simp at g;rcases g with rfl|rfl|rfl|rfl|rfl|rfl;exact e.aS;exact e.agg;exact e.field;exact e.op;exact e.arg;exact e.key) sM
 have a6:=p.size;have a9:=w.size;refine PC.ok (Fj (q.get U id) (V.ah q) r6 W (by show¬k.heap.size=v.heap.size;omega) ?_) ?_
 ·have u:=fj (l:=[o.origin,o.seq,o.ay,(o.aP.length:Int)]) (by intro t g;simp at g;rcases g with rfl|rfl|rfl|rfl;exact e.origin;exact e.seq;exact e.ay;unfold aH;omega)
  have h2:=fj e.aP;simp only[List.nil_append,Xq,List.length_nil,QX]at u h2⊢;unfold aK;omega
 rintro _ w7 ⟨rfl,a7,n7,c7,F7,g7,a2,b0,k7,a3⟩;refine⟨rfl,_,_,_,ae g7 rfl,Ok.mk ⟨_,rfl,a7,n7,c7,F7,rfl,?_,?_,?_⟩⟩
 ·have:ki o=[o.origin,o.seq,o.ay,(o.aP.length:Int)]++o.aP++[o.aS,o.agg,o.field,o.op,o.arg,o.key]:=rfl
  rw[this,gU,gU];exact a2
 ·have ka:ai b l:=n.then s
  exact(ka.new ((p.then w).then (q.af.then k7)) λf i=>.inr oM)
 ·intro f i
  rcases a3 f i with h|h
  ·rcases X f h with h|h
   ·rcases S f h with h|h
    ·exact h.elim
    ·omega
   ·omega
  ·have:=q.size;omega
def qk(b:List Int)(c:Option Addr)(d e:Nat)(a:List Int):List Value:=
 [XH (b.getD 0 0),XH (b.getD 1 0),XH (b.getD 2 0),.slice c d e,XH (a.getD 0 0),XH (a.getD 1 0),XH (a.getD 2 0),XH (a.getD 3 0),XH (a.getD 4 0),XH (a.getD 5 0)]
def Ki(b:t.length=i)(f:i<3):(qk t d a c a8).toArray.setIfInBounds i (XH e)=(qk (t++[e]) d a c a8).toArray:=by
 match t,b with
 |[],b=>subst b;rfl
 |[_],b=>subst b;rfl
 |[_,_],b=>subst b;rfl
 |_::_::_::_,b=>simp at b;omega
def Kj(b:a8.length=i)(f:i<6):(qk t d a c a8).toArray.setIfInBounds (4+i) (XH e)=(qk t d a c (a8++[e])).toArray:=by
 match a8,b with
 |[],b=>subst b;rfl
 |[_],b=>subst b;rfl
 |[_,_],b=>subst b;rfl
 |[_,_,_],b=>subst b;rfl
 |[_,_,_,_],b=>subst b;rfl
 |[_,_,_,_,_],b=>subst b;rfl
 |_::_::_::_::_::_::_,b=>simp at b;omega
def lk(a:Nat)(b:lP):bg (a+1) b=((bg a b).1++[(fk (bg a b).2).1],(fk (bg a b).2).2):=rfl
def M_{D:Nat->Prop}(g:Row fv 1 b D d a x)(hD:∀e,D e->e<b.heap.size):
  Calls XP 231 #[.slice d a c] b (Ok λa8 l=>∃a' n' c' w,a8= .tuple #[.agg (aC (iZ x).1 a' n' c').toArray,XH (iZ x).2]/\aO aJ 3 w l a' n' c' (iZ x).1.aP/\ai b l/\∀e,w e->b.heap.size<=e):=by
 refine Hq (PA.mk λw1 k1 s1 g1=>PC.ok (Dw (g.ah k1) (λe h=>by have:=hD e h;omega)) ?_);rintro _ j ⟨k,a0,rfl,T,k2,hP⟩;refine⟨_,rfl,PA.mk λw3 U s3 g3=>PA.mk λy z s4 g4=>?_⟩;have c3:=T.self;have h5:w1.heap.size<=k/\k<j.heap.size:=⟨hP k c3,T.aB k c3⟩
 have V:=T.aB;have h3:=k2.size;have d9:=z.get g3 id;have e0:=z.get (U.get (k2.get g1 id) id) id;have e1:=(T.ah U).ah z;have b1:ai b y:=((k1.then k2).then U).then z;refine⟨λm C l=>∃f:Nat,C=f/\f<=3/\m=3-f/\l.heap[j.heap.size]? =some (.cells (qk (bg f ⟨x,0,0⟩).1 none 0 0 []).toArray 63 (0,0))/\eJ l k a0 (bg f ⟨x,0,0⟩).2/\ak (λe=>e=j.heap.size\/e=k) y l,
  ⟨_,0,rfl,oM,rfl,d9,e1,ak.refl _⟩,?_⟩
 rintro m C _ w5 ⟨f,rfl,hj,rfl,c4,c5,k5⟩;have c6:(lP.mk x 0 0).Fit:=⟨Qj _,.inl rfl⟩
 refine al.dec (λO=>?_) (λO=>?_)
 ·have c7:f<3:=oM
  have g5:=k5.get g4 oM;have a1:w5.cell? ⟨w3.heap.size,0+Int.toNat (f:Int),none⟩=some (.pointer (some ⟨j.heap.size,f,none⟩)):=by
   rw[Qx,Xz]
   match f,c7 with
   |0,_=>exact ae g5 rfl
   |1,_=>exact ae g5 rfl
   |2,_=>exact ae g5 rfl
  refine⟨_,_,rfl,oM,oM,_,a1,PC.ok (Fk c5) ?_⟩;rintro _ w6 ⟨rfl,P,Q⟩;have W:=Q.get c4 oM;refine⟨_,rfl,_,_,rfl,PS.mk W (by simp[qk];omega) λX E s7 g7=>⟨_,oM,f+1,aq oM,oM,rfl,?_,?_,?_⟩⟩
  ·rw[g7,Ki (c6.ints f).2.2.1 c7];rfl
  ·rw[lk]
   exact P.af E λe g s=>by have:=V e g;omega
  ·exact k5.then ((Q.mono λ_ _ h=>.inr h).then (E.mono λ_ _ h=>.inl h))
 obtain rfl:f=3:=oM
 obtain⟨c8,e3,h6,_⟩:=c6.ints 3;refine PC.ok (HG c5) ?_;rintro _ w6 ⟨rfl,P,Q⟩;have W:=Q.get c4 oM;have e4:ak (λe=>e=j.heap.size\/e=k) y w6:=k5.then (Q.mono λ_ _ h=>.inr h);generalize hL:(bg 3 ⟨x,0,0⟩).1=I at W e3;generalize hR:(bg 3 ⟨x,0,0⟩).2=a5 at P c8;obtain⟨Y,e5,c9,_⟩:=c8.count (m:=64) oM;generalize hC:(bW 64 a5).1=J at e5 c9;generalize e6:(bW 64 a5).2=F at P Y;refine⟨_,rfl,λm C l=>∃f:Nat,C=f/\f<=J.toNat/\m=J.toNat-f/\∃t p u w,l.heap[j.heap.size]? =some (.cells (qk I t p u []).toArray 63 (0,0))/\eJ l k a0 (bg f F).2/\
   aO aJ 3 w l t p u (bg f F).1/\(∀e,w e->y.heap.size<=e)/\ak (λe=>e=j.heap.size\/e=k) y l,
  ⟨_,0,rfl,oM,rfl,none,0,0,λ_=>False,W,P,aO.nil w6,λ_ h=>h.elim,e4⟩,?_⟩
 rintro m C _ X ⟨f,rfl,hj,rfl,t,p,u,w,b8,b9,c1,A,E⟩;have h7:=E.size;refine al.dec (λO=>?_) (λO=>?_)
 ·intro K d0
  have q:ai X K:=d0.af;have s8:K.heap.size=X.heap.size:=by rw[d0.heap]
  refine⟨λe=>e≠j.heap.size,sM,t,p,u,ae (q.get b8 id) rfl,PC.ok (Fk (b9.ah q)) ?_⟩;rintro _ L ⟨rfl,Z,v⟩;have b2:=(Y.ints f).2.2.1;refine⟨_,rfl,v.mono (λe _ h=>oM),?_⟩;have M:aO aJ 3 w L t p u (bg f F).1:=(c1.ah q).af v λe g s=>by have:=A e g;have:=z.size;omega
  refine PA.mk λB o h8 e7=>⟨o.af,?_⟩
  have a2:=M.ah o;have b0:=v.get (q.get b8 id) oM;have n:=o.get b0 id;have e8:=((Y.ints f).1.int).2.1;have d1:Row aJ 8 B (·=L.heap.size) (ZX L.heap.size) 1 [(fk (bg f F).2).1]:=AU (f:=(0,0)) [(fk (bg f F).2).1] e7 (by simpa using e8) sM;refine kh a2 tQ d1 (λe s=>⟨oM,?_⟩) (by rw[b2];unfold aK;simp;omega) (by rw[b2];unfold maxLen;simp;omega) λd2 e9 R h9 d3 a3 h4 b3=>?_
  ·intro e2
   have:=M.aB e (M.self e e2);omega
  refine⟨_,_,_,rfl,PS.mk (a3.get n ?_) (by simp[qk]) λi0 c2 i1 f2=>⟨_,oM,f+1,aq oM,oM,rfl,d2,p+1,e9,λe=>aF d2=some e,?_,?_,?_,?_,?_⟩⟩
  ·intro s;have:=A _ (M.self _ s);have:=z.size;omega
  ·rw[f2];rfl
  ·rw[lk]
   refine((Z.ah o).af a3 λe g s=>?_).af c2 λe g s=>?_
   ·have:=A _ (M.self _ s);have:=V e g;have:=z.size;have:=U.size;omega
   ·have:=V e g;omega
  ·have f3:=d3.alone
   rw[lk];refine f3.af c2 λe g s=>?_;rcases b3 e g with h|h
   ·have:=A e h;have:=z.size;omega
   ·have:=o.size;have:=v.size;have:=q.size;omega
  ·intro e g
   rcases b3 e g with h|h
   ·exact A e h
   ·have:=o.size;have:=v.size;have:=q.size;omega
  ·have ka:ak (λe=>e=j.heap.size\/e=k) y B:=((E.ah q).then (v.mono λ_ _ h=>.inr h)).ah o
   have kb:ak (λe=>e=j.heap.size\/e=k) y R:=ka.new a3 λe g=>.inr (A e (M.self e g));exact kb.then (c2.mono λ_ _ h=>.inl h)
 obtain rfl:f=J.toNat:=oM
 obtain⟨d4,f5,f6,_⟩:=Y.ints J.toNat;generalize f8:(bg J.toNat F).1=S at c1 f5 f6;generalize g0:(bg J.toNat F).2=r at b9 d4;refine PA.mk λK q s8 g8=>?_;have g2:=q.get b8 id;have g6:ak (λe=>e=j.heap.size\/e=k) y K:=E.ah q;have h0:=c1.ah q;have i2:=z.size;refine⟨λm C l=>∃f:Nat,C=f/\f<=6/\m=6-f/\l.heap[j.heap.size]? =some (.cells (qk I t p u (bg f r).1).toArray 63 (0,0))/\eJ l k a0 (bg f r).2/\ak (λe=>e=j.heap.size\/e=k) K l,
  ⟨_,0,rfl,oM,rfl,g2,b9.ah q,ak.refl _⟩,?_⟩
 rintro m C _ L ⟨f,rfl,hj,rfl,b0,Z,v⟩;refine al.dec (λO=>?_) (λO=>?_)
 ·have d5:f<6:=oM
  have N:=v.get g8 (by have:=E.size;omega);have a1:L.cell? ⟨X.heap.size,0+Int.toNat (f:Int),none⟩=some (.pointer (some ⟨j.heap.size,4+f,none⟩)):=by
   rw[Qx,Xz]
   match f,d5 with
   |0,_=>exact ae N rfl
   |1,_=>exact ae N rfl
   |2,_=>exact ae N rfl
   |3,_=>exact ae N rfl
   |4,_=>exact ae N rfl
   |5,_=>exact ae N rfl
  refine⟨_,_,rfl,oM,oM,_,a1,PC.ok (Fk Z) ?_⟩;rintro _ B ⟨rfl,d6,o⟩;have n:=o.get b0 oM;refine⟨_,rfl,_,_,rfl,PS.mk n (by simp[qk];omega) λR H d7 i=>⟨_,oM,f+1,aq oM,oM,rfl,?_,?_,?_⟩⟩
  ·rw[i,Kj (d4.ints f).2.2.1 d5];rfl
  ·rw[lk]
   exact d6.af H λe g s=>by have:=V e g;omega
  ·exact v.then ((o.mono λ_ _ h=>.inr h).then (H.mono λ_ _ h=>.inl h))
 obtain rfl:f=6:=oM
 have a6:lQ ⟨x,0,0⟩=(⟨I.getD 0 0,I.getD 1 0,I.getD 2 0,S,(bg 6 r).1.getD 0 0,(bg 6 r).1.getD 1 0,(bg 6 r).1.getD 2 0,(bg 6 r).1.getD 3 0,(bg 6 r).1.getD 4 0,(bg 6 r).1.getD 5 0⟩,(bg 6 r).2):=by
  unfold lQ;simp only[hL,hR,hC,e6,f8,g0]
 refine PC.ok (LF Z) ?_;rintro _ B ⟨rfl,d8⟩;have o:ai L B:=d8.af;have b4:ak (λe=>e=j.heap.size\/e=k) K B:=v.ah o;have b5:ak (λe=>e=j.heap.size\/e=k) y B:=g6.then b4;have b6:=b5.get e0 oM;have n:=o.get b0 id;have a2:aO aJ 3 w B t p u S:=h0.af b4 λe g s=>by have:=A e g;omega
 have b7:ai b B:=b1.new b5 λe g=>.inr oM;have a7:kj (lQ ⟨x,0,0⟩).2=kj (bg 6 r).2:=by rw[a6]
 refine⟨_,rfl,al.dB (λh2=>?_) (λhe=>?_)⟩
 ·have a4:iZ x=(AV,kj (bg 6 r).2):=by unfold iZ;rw[a7,if_pos h2]
  rw[a4];refine storeAll [XH 0,XH 0,XH 0,.slice none 0 0,XH 0,XH 0,XH 0,XH 0,XH 0,XH 0] b6 rfl λR H d7 i=>?_;refine⟨0,0,0,none,0,0,0,0,0,0,0,0,ae i rfl,ae i rfl,ae i rfl,ae i rfl,ae i rfl,ae i rfl,ae i rfl,ae i rfl,ae i rfl,ae i rfl,Ok.mk ⟨none,0,0,λ_=>False,rfl,aO.nil R,?_,λ_ h=>h.elim⟩⟩;exact b7.new H λe g=>.inr oM
 ·have a4:iZ x=((lQ ⟨x,0,0⟩).1,0):=by unfold iZ;rw[a7,if_neg (by simpa using he)]
  rw[a4,a6];refine⟨_,_,_,t,p,u,_,_,_,_,_,_,ae n rfl,ae n rfl,ae n rfl,ae n rfl,ae n rfl,ae n rfl,ae n rfl,ae n rfl,ae n rfl,ae n rfl,?_⟩;refine storeAll (qk I t p u (bg 6 r).1) b6 rfl λR H d7 i=>?_;refine⟨_,_,_,t,p,u,_,_,_,_,_,_,ae i rfl,ae i rfl,ae i rfl,ae i rfl,ae i rfl,ae i rfl,ae i rfl,ae i rfl,ae i rfl,ae i rfl,Ok.mk ⟨t,p,u,w,rfl,a2.af H λe g s=>?_,?_,λe g=>?_⟩⟩
  ·have:=A e g;omega
  ·exact b7.new H λe g=>.inr oM
  ·have:=A e g;have:=b1.size;omega
end Go.Proofs.YtjgjkeponbeekaaGreatDoor
namespace Go.ar
open Go
def dZ(a:List UInt8):Nat:=a.foldl (λb c=>b*10+(c.toNat-48)) 0
def ij(a:UInt8):Bool:=decide (48<=a.toNat/\a.toNat<=57)
def fp(a:List UInt8)(b:UInt8):dZ (a++[b])=dZ a*10+(b.toNat-48):=by simp[dZ,List.foldl_append]
variable{e:Int}{x:List UInt8}{a:Nat}{j:Type}
def vz{a b:List j}(c:a≠[]):(a++b).head? =a.head? :=by
 cases a with
 |nil=>exact absurd rfl c
 |cons d a=>rfl
def BI:∀(a:Nat),dZ (Lib.decDigits a)=a/\(Lib.decDigits a).all ij=true/\Lib.decDigits a≠[]/\(a≠0->(Lib.decDigits a).head? ≠some 48):=by
 intro a
 induction a using Nat.strongRecOn with
 |_ a e=>
  rw[Lib.decDigits]
  by_cases c:a<10
  ·rw[dif_pos c]
   have b:(UInt8.ofNat (48+a)).toNat=48+a:=by rw[UInt8.toNat_ofNat'];omega
   refine⟨by simp[dZ];omega,by simp[ij,b];omega,sM,λj=>?_⟩;intro d;simp only[List.head?_cons,Q1]at d;have:=congrArg UInt8.toNat d;rw[b]at this;simp at this;omega
  ·rw[dif_neg c]
   obtain⟨f,g,h,i⟩:=e (a/10) oM;have b:(UInt8.ofNat (48+a % 10)).toNat=48+a % 10:=by rw[UInt8.toNat_ofNat'];omega
   refine⟨by rw[fp,f,b];omega,?_,sM,λ_=>?_⟩
   ·rw[List.all_append,g];simp[ij,b];omega
   ·rw[vz h];exact i oM
def BJ:∀{a:List UInt8},a.all ij=true->a≠[]->a.head? ≠some 48->0<dZ a:=by
 intro a;generalize b:a.length=g
 induction g generalizing a with
 |zero=>intro _ h;exact absurd (QW b) h
 |succ g i=>
  intro c k d;rcases List.eq_nil_or_concat a with rfl|⟨a,e,rfl⟩
  ·cases b
  rw[List.concat_eq_append]at b c d⊢;rw[List.all_append,QK]at c;have l:48<=e.toNat/\e.toNat<=57:=by simpa[ij]using c.2
  rw[fp]
  by_cases f:a=[]
  ·subst f
   have:e.toNat≠48:=λj=>d (by simp;exact UInt8.toNat_inj.1 j);omega
  ·have:=i (by simpa using b) c.1 f (by rwa [vz f]at d)
   omega
def CO:∀{a:List UInt8},a.all ij=true->a≠[]->(a.head? ≠some 48\/a.length=1)->Lib.decDigits (dZ a)=a:=by
 intro a;generalize g:a.length=h
 induction h generalizing a with
 |zero=>intro _ k;exact absurd (QW g) k
 |succ h l=>
  intro c p d;rcases List.eq_nil_or_concat a with rfl|⟨a,b,rfl⟩
  ·cases g
  rw[List.concat_eq_append]at g c d⊢;rw[List.all_append,QK]at c;have q:48<=b.toNat/\b.toNat<=57:=by simpa[ij]using c.2
  have j:UInt8.ofNat (48+(b.toNat-48))=b:=UInt8.toNat_inj.1 (by rw[UInt8.toNat_ofNat'];omega);rw[fp]
  by_cases e:a=[]
  ·subst e
   have m:dZ []*10+(b.toNat-48)=b.toNat-48:=by simp[dZ]
   rw[m,Lib.decDigits,dif_pos oM,j]
   rfl
  ·have r:0<a.length:=List.length_pos_iff.2 e
   have i:a.length=h:=by simpa using g
   have f:a.head? ≠some 48:=by
    rcases d with d|d
    ·rwa [vz e]at d
    ·omega
   have s:=BJ c.1 e f;rw[Lib.decDigits,dif_neg oM];have n:(dZ a*10+(b.toNat-48))/10=dZ a:=oM
   have o:(dZ a*10+(b.toNat-48)) % 10=b.toNat-48:=oM
   rw[n,o,j,l i c.1 e (.inl f)]
def xf:∀(a:List UInt8),a.all ij=true->dZ a<10 ^ a.length:=by
 intro a;generalize b:a.length=d
 induction d generalizing a with
 |zero=>intro _;have:=QW b;subst this;decide
 |succ d f=>
  intro c;rcases List.eq_nil_or_concat a with rfl|⟨a,e,rfl⟩
  ·cases b
  rw[List.concat_eq_append]at b c⊢;rw[List.all_append,QK]at c;have g:48<=e.toNat/\e.toNat<=57:=by simpa[ij]using c.2
  have:=f a (by simpa using b) c.1;rw[fp,Nat.pow_succ];omega
def vy{u:Nat}(i:u<1000000000000):(Lib.decDigits u).length<=12:=by
 rw[Lib.decDigits_length];apply Nat.le_of_not_lt;intro l
 by_cases j:u=0
 ·subst j;rw[Lib.nDigits_small oM]at l;omega
 ·have t:=Lib.lt_pow_nDigits u
  obtain⟨m,n,o,p⟩:=BI u;have k:=Lib.decDigits_length u;have key:∀(a:List UInt8),a.all ij=true->a≠[]->a.head? ≠some 48->10 ^(a.length-1)<=dZ a:=by
   intro a;generalize c:a.length=b
   induction b generalizing a with
   |zero=>intro _ i;exact absurd (QW c) i
   |succ b q=>
    intro d v f;rcases List.eq_nil_or_concat a with rfl|⟨a,w,rfl⟩
    ·cases c
    rw[List.concat_eq_append]at c d f⊢;have g:=d;rw[List.all_append,QK]at d;rw[fp]
    by_cases e:a=[]
    ·subst e
     have:=BJ g sM f;rw[fp]at this;have r:b=0:=by simpa using c.symm
     subst r;simp at this⊢;omega
    ·have h:a.length=b:=by simpa using c
     have k:0<a.length:=List.length_pos_iff.2 e;have:=q a h d.1 e (by rwa [vz e]at f);have s:b+1-1=(b-1)+1:=oM
     rw[s,Nat.pow_succ];omega
  have:=key _ n o (p j);rw[m,k]at this;have x:10 ^ 12<=10 ^(Lib.nDigits u-1):=Nat.pow_le_pow_right oM oM;have:(10:Nat) ^ 12=1000000000000:=dC
  omega
def dY:List UInt8:=[115,101,103,46]
def aA(a:Int):List UInt8:=if a<0\/1000000000000<=a then []else dY++Lib.decDigits a.toNat
def iE(a:List UInt8):Option Nat:=if a.take 4=dY/\5<=a.length/\a.length<=16/\(a.drop 4).all ij=true/\((a.drop 4).head? ≠some 48\/a.length=5)then some (dZ (a.drop 4))else none
def qK(a:0<=e)(b:e<1000000000000):aA e=dY++Lib.decDigits e.toNat:=by unfold aA;rw[if_neg oM]
def KY(b:0<=e)(c:e<1000000000000):iE (aA e)=some e.toNat:=by
 rw[qK b c];obtain⟨d,f,g,h⟩:=BI e.toNat;have l:=vy (u:=e.toNat) oM;have m:0<(Lib.decDigits e.toNat).length:=List.length_pos_iff.2 g;have i:(dY++Lib.decDigits e.toNat).drop 4=Lib.decDigits e.toNat:=rfl;have j:(dY++Lib.decDigits e.toNat).take 4=dY:=rfl;have k:(dY++Lib.decDigits e.toNat).length=4+(Lib.decDigits e.toNat).length:=by rw[QX];rfl
 unfold iE;rw[i,j,k,d,if_pos];refine⟨rfl,oM,oM,f,?_⟩
 by_cases a:e.toNat=0
 ·right
  rw[a,Lib.decDigits_length,Lib.nDigits_small oM]
 ·exact .inl (h a)
def Bn(b:iE x=some a):aA a=x/\a<1000000000000:=by
 unfold iE at b;split at b
 ·rename_i f
  obtain⟨g,j,k,c,h⟩:=f;simp only[Q1]at b;have d:(x.drop 4).length=x.length-4:=sM
  have l:=xf _ c;have m:10 ^(x.drop 4).length<=10 ^ 12:=Nat.pow_le_pow_right oM oM;have n:(10:Nat) ^ 12=1000000000000:=dC
  have i:a<1000000000000:=oM
  refine⟨?_,i⟩;rw[qK oM oM,<-b,Qx,CO c (λe=>by rw[e]at d;simp at d;omega) (h.imp id λe=>oM),<-g,List.take_append_drop]
 ·cases b
def Gi(d:x.all ij=true)(e:x.length<=12):iE (dY++x)=if aA (dZ x)=dY++x then some (dZ x)else none:=by
 have g:=xf _ d;have h:10 ^ x.length<=10 ^ 12:=Nat.pow_le_pow_right oM e;have i:(10:Nat) ^ 12=1000000000000:=dC
 split
 ·rename_i b
  rw[<-b,KY oM oM,Qx]
 ·rename_i b
  cases a:iE (dY++x)with
  |none=>rfl
  |some f=>
   obtain⟨c,j⟩:=Bn a;have:f=dZ x:=by
    unfold iE at a;split at a
    ·exact(XJ a).symm
    ·cases a
   rw[this]at c;exact absurd c b
def IB(b:x.all ij=false):iE (dY++x)=none:=by
 unfold iE;rw[if_neg];rintro⟨_,_,_,a,_⟩;have:(dY++x).drop 4=x:=rfl;rw[this,b]at a
 cases a
def NQ(a:x.take 4≠dY):iE x=none:=by
 unfold iE;rw[if_neg λb=>a b.1]
def KW(a:16<x.length):iE x=none:=by
 unfold iE;rw[if_neg λb=>oM]
end Go.ar
namespace Go.Proofs.YtjgjkeponbeekaaGreatDoor
open Go.ar
def pick(b a:Int):Int:=if a<1 then 0 else if b.tmod a<0 then b.tmod a+a else b.tmod a
def z_{k n:Int}(a:1<=n):0<=pick k n/\pick k n<n:=by
 unfold pick;rw[if_neg oM];have b:k.tmod n<n:=Int.tmod_lt_of_pos k oM;have c: -n<k.tmod n:=Int.lt_tmod_of_pos k oM;split<;>omega
variable{e m:Int}{b:World}
def O_(k:aH m):Calls XP 15 #[XH e,XH m] b (Ok λh i=>h= XH (pick e m)/\b=i):=by
 refine JR (al.mk (λc=>?_) (λc=>?_))
 ·have c:=XV c
  exact Ok.mk ⟨by simp[pick,c],rfl⟩
 ·have c:=Xy c
  have d:=z_ (k:=e) (n:=m) oM;have j:∀f g,(do eqGuard .rem 3 f g (XH e) (XH m);binOp .rem 3 (XH e) (XH m):Sem Value).run XP b= .ok (XH (e.tmod m)) b:=λf g=>by
   have:m≠0:=oM
   simp[eqGuard,binOp,Op.intDiv,this]
  refine aG.mk (j _ _) ⟨_,rfl,al.mk (λa=>?_) (λa=>?_)⟩
  ·have a:=XV a
   unfold pick at d;rw[if_neg oM,if_pos a]at d;refine Ok.mk ⟨?_,rfl⟩;rw[wrap_i64 (by unfold aH at*;omega)];unfold pick;rw[if_neg oM,if_pos a]
  ·have a:=Xy a
   refine Ok.mk ⟨?_,rfl⟩;unfold pick;rw[if_neg oM,if_neg a]
end Go.Proofs.YtjgjkeponbeekaaGreatDoor
namespace Go.Proofs
open Go.RowKit Go.Maps Go.Sort Go.Shelf
def Tryz.TG(d:Nat):AnyZ.SortsIn Tryz.prog Tryz.xt Fence.wide d:=
 ⟨λaF b a e c f g h=>callsIn_wide.2 (AnyM.slices_Sort_string Tryz.SP aF b a e c f g h),
  λi a c=>callsIn_wide.2 (AnyM.slices_Sort_string_none Tryz.SP i a c)⟩
end Go.Proofs
namespace Go.Proofs.YtjgjkeponbeekaaGreatDoor
open Go.ar
open Go.RowKit Go.Maps Go.Sort Go.Shelf
def Xo(a b:ByteArray):Bool:=decide (a.data.toList<=b.data.toList)
def uA(a:List ByteArray):List ByteArray:=a.mergeSort Xo
def MT(b:List ByteArray):(uA b).map (λa=>a.data.toList)=(b.map λa=>a.data.toList).mergeSort (λa c=>decide (a<=c)):=
 List.map_mergeSort (λd _ e _=>rfl)
def bu.SQ{c:Type}{a:c->Value}{d:c->Prop}{hl h1}{f:World}{D:Nat->Prop}:∀{b:List c},(∀x∈b,d x)->bu (flat 1 (λx=>[a x]) d hl h1) f D b (b.map a)
 |[],_=>rfl
 |x::b,e=>⟨[a x],b.map a,rfl,⟨rfl,e x (QV ..)⟩,bu.SQ λg h=>e g (QJ _ h)⟩
variable{f7:List (ByteArray×Value)}{a c:Nat}{E:Nat×Nat}{g:TypeId}{b:World}
def yJ(k:bD b a Value.string f7)(J:∀i∈f7,i.1.size<=maxLen)(z:f7.length*16<=aK)(A:b.heap[c]? =some (.cells #[.map (some a)] g E)):
  Calls XP 222 #[.func (.func 282) #[] #[ZQ c]] b
   (Ok (py MU 9 b (uA (f7.map (·.1))))):=by
 unfold aK at z;obtain⟨f,j,K,q,L,M⟩:=k.at';have N:Tryz.prog.underlying 9=some .string:=Tryz.underlying9;have O:f.size=f7.length:=by have:=congrArg List.length q;simpa using this
 have B:∀e∈f.toList,∃d:ByteArray,e.key=Value.string d/\d.size<=maxLen:=λe h=>by
  have P:(e.key,e.val)∈f7.map (λi=>(Value.string i.1,i.2)):=by rw[<-q];exact Xk.2 ⟨e,h,rfl⟩
  obtain⟨i,Q,R⟩:=Xk.1 P;exact⟨i.1,(Prod.mk.inj R).1.symm,J i Q⟩
 have C:∀e∈f.toList,∀d:ByteArray,e.key=Value.string d->d.size<=maxLen->WideElems.rd XP 9 (λ_=>some ((.nil:DataW Unit),[])) e=some (.string d.data.toList,.nil):=λe _ d m o=>by
  simp[WideElems.rd,m,Go.WideMaps.keyOf_string_mk N o]
 have S:WideElems.Fit XP 9 (λ_=>some ((.nil:DataW Unit),[])) f j:=by
  refine⟨by unfold maxLen;omega,⟨L,M,?_⟩,λe h=>?_⟩
  ·have:f.toList.map (·.key)=(f7.map (·.1)).map Value.string:=by
    have:=congrArg (List.map (λt:Value×Value=>t.1)) q;simpa[Function.comp_def]using this
   rw[this];exact List.pairwise_map.2 (List.Pairwise.imp (λT=>by simpa using T) k.tidy)
  ·obtain⟨d,m,o⟩:=B e h
   exact⟨_,C e h d m o⟩
 have U:b.ownsMap XP 9 (λ_=>some ((.nil:DataW Unit),[])) a f.size (.map ((f.toList.map (WideElems.rg XP 9 (λ_=>some ((.nil:DataW Unit),[])))).foldr DataW.insert [])):=
  ⟨f,j,K,S,Q4 _,rfl⟩
 have F:Maps.size (.map ((f.toList.map (WideElems.rg XP 9 (λ_=>some ((.nil:DataW Unit),[])))).foldr DataW.insert []))=f7.length:=by
  show(List.foldr DataW.insert [] _).length=_;rw[(WideShapes.sorted_perm _).length_eq];simp[O]
 have V:(strKeys (.map ((f.toList.map (WideElems.rg XP 9 (λ_=>some ((.nil:DataW Unit),[])))).foldr DataW.insert []))).Perm ((f7.map (·.1)).map λd=>d.data.toList):=by
  refine(List.Perm.map (λi:Lit×DataW Unit=>Go.strOf i.1) (WideShapes.sorted_perm _)).trans ?_;have:(f.toList.map (WideElems.rg XP 9 (λ_=>some ((.nil:DataW Unit),[])))).map (λi=>Go.strOf i.1)=(f7.map (·.1)).map λd=>d.data.toList:=by
   have W:f.toList.map (λe=>match e.key with| .string d=>d.data.toList|_=>[])=(f7.map (·.1)).map λd=>d.data.toList:=by
    have:=congrArg (List.map (λt:Value×Value=>match t.1 with| .string d=>d.data.toList|_=>[])) q;simpa[Function.comp_def]using this
   rw[<-W,List.map_map];refine List.map_congr_left λe h=>?_;obtain⟨d,m,o⟩:=B e h;simp[WideElems.rg,C e h d m o,m,Go.strOf]
  rw[this]
 have X:SeqGives Fence.wide 1 XP 282 #[ZQ c] encStr (λn=>n.Perm (strKeys _)) (Maps.size _) b:=
  AnyZ.keys_gives (ρ:=Tryz.Dq) {Tryz.se with} Fence.wide _ trivial rfl oM c a f.size _ b (ax A) (ae A rfl) U
 have Y:=AnyZ.sorted_in Tryz.RH Fence.wide 4 trivial trivial trivial trivial rfl oM (Tryz.TG _) (enters_of Tryz.func281 kR rfl) 282 #[ZQ c] trivial
  (enters_of Tryz.func282 kR rfl) _ _ (by rw[F];unfold maxLen;omega) (by rw[F];exact z) b X
 refine((callsIn_wide (n:=4)).1 Y).mono ?_;rintro e Z ⟨a0,n,rfl,hS,r,a7,u⟩;have H:n.mergeSort (λd v=>decide (d<=v))=(uA (f7.map (·.1))).map λd=>d.data.toList:=by rw[MT];exact Go.mergeSort_of_perm (hS.trans V)
 have a8:n.length=(uA (f7.map (·.1))).length:=by
  have:=congrArg List.length H;simpa using this
 have a1:((n.mergeSort (λd v=>decide (d<=v))).map encStr)=(uA (f7.map (·.1))).map Value.string:=by
  rw[H,List.map_map];refine List.map_congr_left λd _=>?_;show Value.string ⟨d.data.toList.toArray⟩=Value.string d;simp
 rw[a1]at r;have hv:∃p w,a0= .slice p n.length w:=by
  rcases r.2 with⟨rfl,h0⟩|⟨g',x,y,rfl,_⟩
  ·exact⟨none,0,by rw[h0]⟩
  ·exact⟨_,_,rfl⟩
 obtain⟨p,w,rfl⟩:=hv;have I:∀l,aF p=some l->b.heap.size<=l/\l<Z.heap.size:=λl s=>by
  rcases r.2 with⟨h,_⟩|⟨g',x,y,h,a9,a6,_⟩
  ·simp only[XX]at h
   rw[h.1]at s;cases s
  ·simp only[XX]at h
   rw[h.1]at s;simp only[aF,Q1]at s;have:=ax a6;omega
 exact Ok.mk ⟨p,_,w,λl=>aF p=some l,rfl,⟨⟨_,λ_=>False,⟨ownsRow_base_a r (Qj _)⟩,bu.SQ (λ_ _=>trivial),λ_ k=>k.elim⟩,λ_ k=>k,λl k=>(I l k).2⟩,ak.GF u,λl k=>(I l k).1⟩
end Go.Proofs.YtjgjkeponbeekaaGreatDoor

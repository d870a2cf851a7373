import Derived.Test.YtblabbpipmodgaaGreatDoorKp10
import Derived.Lib.AppendIntMem
import Derived.Laws.Concat
import Derived.Shelf.SlSortCmp.WholeK
import Derived.Shelf.SlMaps.Clone
import Derived.Ground.SlsfProg
import Derived.Ground.SlmcProg
import Derived.Shelf.SlGeneric
import Derived.Shelf.SlSortCmp.NoneTotal
import Derived.Laws.StructEq
import Derived.Carry
import Derived.SizedLaws
import Derived.WalkKit
import Derived.ProofKit
import Derived.OpenShut
import Derived.Deep.DeepHandedRow
import Derived.Deep.Slices
set_option maxHeartbeats 4000000
set_option linter.all false
set_option maxRecDepth 100000
open Go.IntKind renaming wrap→XG
namespace Go.Proofs.YtblabbpipmodgaaGreatDoor
open Go.aw
def fW(P:List (ByteArray×mC)):Nat:=(P.map λa=>a.2.f.bytes.length).sum
def CT(P:List (ByteArray×mC)):fW P=eA (P.map uj):=by unfold fW eA;rw[List.map_map];rfl
variable{v:ByteArray}{f7 g9:List (ByteArray×Value)}{a1:List (ByteArray×mC)}{w:List UInt8}{a c i:Nat}{a4 f:XN}{d:ZH}{j:Type}{u:Value}{b:World}
def vY{left:List (ByteArray×mC)}(d:left.map dX=f7++(v,u)::g9):
  ∃P a b,left=P++(v,a)::b/\f7=P.map dX/\g9=b.map dX/\u=ptr a.q:=by
 obtain⟨P,k,e,f,g⟩:=List.map_eq_append_iff.1 d;obtain⟨h,b,i,c,j⟩:=List.map_eq_cons_iff.1 g;obtain⟨l,a⟩:=h;simp only[dX,Prod.mk.injEq]at c;obtain⟨rfl,rfl⟩:=c;exact⟨P,a,b,by rw[e,i],f.symm,j.symm,rfl⟩
def Mx{D:al}(h:aU b a f D):
  ZG 224 #[XL a] b (Ok λk i=>k= XH D.room/\ai b i):=by
 obtain⟨l,c,d⟩:=h.open;have Q:=d.ok.most;have m:=d.ok.fits;unfold al.used at m;rw[d.files,<-CT]at m;refine tW ⟨a,0,rfl,_,ae d.head rfl,a,0,rfl,some l,ae d.head rfl,mapRange mF d.map λR v w S=>?_⟩;refine⟨λn o i=>∃left:List (ByteArray×mC),cO i b.heap.size l Value.string (c.map dX) (left.map dX)/\n=left.length/\o=(D.most:Int)-fW c+fW left/\fW left<=fW c/\ai b i/\∀P∈left,P∈c,
  ⟨_,c,v,rfl,oM,Q4 _,w,λ_ h=>h⟩,?_⟩
 rintro n o T U ⟨left,x,rfl,rfl,V,p,q⟩;refine mD x (λy=>.inl ⟨rfl,Ok.mk ⟨?_,p⟩⟩) λj k W X r z A B C Y=>.inr ⟨_,_,rfl,pJ B ?_⟩
 ·have:left=[]:=by simpa using y
  subst this;simp only[fW,List.map_nil,List.sum_nil,al.room,al.used];rw[d.files,<-CT];simp[fW]
 ·obtain⟨g,P,e,rfl,rfl,rfl,rfl⟩:=vY z
  have E:(j,P)∈c:=q _ sM;have s:ai b r:=p.new C λe Z=>.inr oM;have F:eh r P.q P.G P.f:=(d.each.each _ E).af s λ_ _ h=>h;obtain⟨H,t,I,F0,J,K,h3,h4⟩:=F.body;have L:=K.len dC;have M:fW (g++(j,P)::e)=fW (g++e)+P.f.bytes.length:=by simp[fW];omega
  have N:XG .i64 ((D.most:Int)-fW c+fW (g++(j,P)::e)-((t:Nat):Int))=(D.most:Int)-fW c+fW (g++e):=by
   rw[wrap_i64 bb,L,M];omega
  refine⟨_,_,rfl,P.q,0,rfl,H,t,I,ae J rfl,(g++e).length,sM,g++e,?_,rfl,N,oM,s,λO u=>q O ?_⟩
  ·rw[Q3];exact A
  ·simp only[Q6,Q2]at u⊢;exact u.imp id .inr
def wS{D:al}(h:aU b a f D)(e:Row fz 1 b a4 d c w)(X:d=none->c=0/\i=0)(x:∀P,a4 P->P<b.heap.size/\¬f P):
  ZG 156 #[XL a,.string v,.slice d c i] b (Ok (uk b a f (D.append v w))):=by
 have K:=e.len;have Y:=e.dB;unfold aO at Y;refine qV (PA.mk λw1 y s1 L=>PA.mk λw2 l s2 Z=>⟨_,ae (l.get L id) rfl,PC.ok (um ((h.ah y).ah l) (k:=v) (g:=223)
  (body:=λD M=>if(w.length:Int)>D.room then(12,D)else(0,D.fH v {M with bytes:=M.bytes++w})) kR λhd r a0 b6 g j z s=>?_) λa1 w' h=>kV a1 w' (y.ah l) h⟩)
 have e1:=s.get (l.get L id) λe=>by have:=h.aF _ e;omega
 have N:=s.get Z λe=>by have:=h.aF _ e;omega
 have a2:Row fz 1 r a4 d c w:=((e.ah y).ah l).af s λP e=>(x P e).2;have A:=j.get z;refine oE λw4 t=>⟨λ_=>False,id,d,c,i,ae (t.af (S:=λ_=>False)|>.get N id) rfl,_,ae (t.af (S:=λ_=>False)|>.get e1 id) rfl,PC.ok (Mx (j.ah t.af).at) ?_⟩
 rintro _ w5 ⟨rfl,O⟩;have B:ai r w5:=(bQ.af t).then O;refine⟨_,rfl,O,an.dec (λa5=>Ok.mk ?_) (λa6=>λm a7=>?_)⟩
 ·rw[Zx (by rw[<-K];exact a5)]
  exact⟨f,rfl,(j.ah B).at,B.af,λ_ h=>.inl h⟩
 ·have n:ai r m:=B.ah a7.af
  have C:=j.ah n;have Q:=bW z;have E:eh m g.q g.G g.f:=C.each.each _ Q;obtain⟨u,R,fc,F0,F,o,H,S⟩:=E.body;have b7:=o.len dC;have b8:g.f.bytes.length<=262144:=j.ok.len (bW A);have a8:∀P,g.G P->f P/\P≠a/\P≠a0:=C.GW _ Q;refine⟨g.q,0,rfl,u,R,fc,ae F rfl,d,c,i,ae (n.get N id) rfl,?_⟩;have a3:∀P,a4 P->P<m.heap.size/\aI u≠some P:=λP e=>⟨by have:=(x P e).1;have:=s.size;have:=n.size;omega,λk=>(x P e).2 (a8 P (H P (o.self P k))).1⟩
  have b9:D.cN.room<=262144:=by have:=j.ok.most;unfold al.room;omega
  refine yy o si (a2.ah n) X a3 ba (by unfold maxLen;omega) λp c' w7 F' I J _ T=>?_;have hq:aI u≠some g.q:=λk=>S (o.self _ k);have c0:=ay F;have q:aI p≠some g.q:=λk=>by rcases T _ k with h|h;exact S h;omega
  refine⟨_,_,_,rfl,g.q,0,rfl,PS.mk (J.get F hq) sM λU V s8 g8=>Ok.mk ?_⟩;have W:¬((w.length:Int)>D.cN.room):=by rw[<-K];exact a6
  rw[Zq W];have a9:∀P,aI u=some P->g.G P:=λP k=>H P (o.self P k);have b0:eh U g.q (λP=>P=g.q\/aI p=some P) {g.f with bytes:=g.f.bytes++w}:=
   ⟨⟨p,R+c,c',λP=>aI p=some P,g8,I.alone.af V (λP e b1=>q (by rw[<-b1];exact e)),λP e=>.inr e,q⟩,.inl rfl,by
    rintro P (rfl|e)
    ·have:=J.size;omega
    ·have:=I.aF P (I.self P e);omega⟩
  have b2:cK g.G m (λP=>P=g.q\/aI p=some P) U:=⟨(J.mono λP _ e=>a9 P e).then (V.mono λP _ e=>e▸E.self),by
   rintro P (rfl|e)
   ·exact .inl E.self
   ·exact(T P e).imp (λh=>H P h) id⟩
  have b3:(D.cN.fH v {g.f with bytes:=g.f.bytes++w}).Ok:=j.ok.set A (by
   unfold al.room at W;simp only[QX];omega) (by have:=j.ok.Qf _ (bW A);simp only[QX];show g.f.synced<=_;have h':g.f.synced<=g.f.bytes.length:=this;omega)
  obtain⟨F2,b4,b5⟩:=C.eE z b0 b2 b3;exact⟨F2,rfl,b4.at,(cK.mk n.af λ_ h=>.inl h:cK f r f m).trans b5⟩
def vZ{D:al}(h:aU b a f D):
  ZG 181 #[XL a,.string v] b (Ok λm n=>∃j,m= .tuple #[j,XH (D.read v).2]/\oK fz 5 b (D.read v).1 j n):=by
 obtain⟨k,C,c⟩:=h.open;have P:oK fz 5 b [] (.slice none 0 0) b:=⟨none,0,0,λ_=>False,rfl,aT.nil b,ak.refl _,λ_ h=>h.elim⟩
 rcases c.box v with⟨g,i⟩|⟨e,E,o,g,i⟩
 ·refine kQ ⟨a,0,rfl,some k,ae c.head rfl,yA mF kS c.map ?_⟩
  rw[i];refine⟨_,rfl,a,0,rfl,_,ae c.head rfl,an.mk (λd=>Ok.mk ?_) (λd=>fm uF ⟨_,rfl,an.tt rfl (Ok.mk ?_)⟩)⟩
  ·unfold al.read;rw[d,Zx rfl];exact⟨_,rfl,P⟩
  ·unfold al.read;rw[d,Zq sM,g];exact⟨_,rfl,P⟩
 ·refine kQ ⟨a,0,rfl,some k,ae c.head rfl,yA mF kS c.map ?_⟩
  rw[i];refine⟨_,rfl,a,0,rfl,_,ae c.head rfl,an.mk (λd=>Ok.mk ?_) (λd=>fm uF ⟨_,rfl,an.ff rfl ?_⟩)⟩
  ·unfold al.read;rw[d,Zx rfl];exact⟨_,rfl,P⟩
  ·have p:eh b e.q e.G e.f:=c.each.each _ o
   obtain⟨q,r,s,F,t,l,H,I⟩:=p.body;have J:e.f.bytes.length<=262144:=c.ok.len (bW g);refine⟨e.q,0,rfl,q,r,s,ae t rfl,PC.ok (jW (l.row dC ba) l.aF) ?_⟩;rintro _ K ⟨u,w,x,y,rfl,z,A,B⟩;unfold al.read;rw[d,Zq sM,g];exact⟨_,_,_,rfl,Ok.mk ⟨_,rfl,u,w,x,y,rfl,z,A,B⟩⟩
def v_{D:al}(k:aU b a f D):
  ZG 176 #[XL a] b (Ok (oK Mu 9 b D.list)):=by
 obtain⟨h,i,P⟩:=k.open;have z:=P.ok.many;have A:i.length=D.files.length:=by rw[P.files];simp
 refine tT ⟨a,0,rfl,some h,ae P.head rfl,PC.ok (φ:=λl e=>l= .func (.func 296) #[] #[XL b.heap.size]/\ai b e/\e.heap.size=b.heap.size+1/\
  e.heap[b.heap.size]? =some (.cells #[.map (some h)] 140 (0,0))) (dH (PA.mk λm c j g=>Ok.mk ⟨rfl,c,j,g⟩)) ?_⟩
 rintro _ m ⟨rfl,c,j,g⟩;refine⟨_,rfl,PC.ok (yk (P.map.ah c) (λB n=>?_) (by rw[Q8];unfold aO;omega) g) ?_⟩
 ·obtain⟨d,o,rfl⟩:=Xk.1 n
  have:=P.ok.names (uj d) (by rw[P.files];exact Xk.2 ⟨d,o,rfl⟩);unfold cT at this;simp only[QK,Zk]at this;have C:d.1.size<=16:=this.1.2;show d.1.size<=maxLen;unfold maxLen;omega
 ·rintro _ E ⟨p,q,r,s,rfl,t,u,v⟩
  refine⟨_,_,_,rfl,Ok.mk ⟨p,q,r,s,rfl,?_,c.ah u,λw x=>by have:=v w x;omega⟩⟩;have y:rE ((i.map dX).map (·.1))=D.list:=by unfold al.list;rw[P.files,List.map_map,List.map_map];rfl
  rw[<-y];exact t
def G_{P:List (ByteArray×j)}(a:Tidy P)(b:ByteArray):bK P b=P.filter λc=>c.1 !=b:=by
 induction P with
 |nil=>rfl
 |cons g P f=>
  obtain⟨c,l⟩:=g;unfold Tidy at a f;simp only[QY,List.nodup_cons]at a;unfold bK
  by_cases d:(b==c)=true
  ·rw[Zx d]
   have h:b=c:=eq_of_beq d;subst h;rw[List.filter_cons_of_neg sM];exact(List.filter_eq_self.2 λi k=>by
    simp only[bne_iff_ne,ne_eq];intro e;exact a.1 (e▸Xk.2 ⟨i,k,rfl⟩)).symm
  ·rw[Zq d,f a.2,List.filter_cons_of_pos]
   simp only[bne_iff_ne,ne_eq];intro e;exact d (by rw[e];simp)
def stays(left:List (ByteArray×mC))(P:ByteArray×mC):Bool:=P.2.f.jV||left.any λa=>a.1==P.1
def yl(J:bR b a Value.string (a1.map dX))(m:CQ b a1)(K:∀P∈a1,∀d,P.2.G d->d≠a):
  ZG 121 #[.map (some a),.func (.func 122) #[] #[]] b
   (Ok λo i=>o= .tuple #[]/\bR i a Value.string ((a1.filter λP=>P.2.f.jV).map dX)/\ak (·=a) b i):=by
 have L:enters XP 122=true:=kR
 refine cX (mapRange mF J λw1 M N s1=>?_);refine⟨λu i=>∃left:List (ByteArray×mC),cO i b.heap.size a Value.string ((a1.filter (stays left)).map dX) (left.map dX)/\u=left.length/\ak (·=a) b i/\(∀P∈left,P∈a1)/\Tidy left,
  ⟨_,a1,?_,rfl,N.af,λ_ O=>O,m.tidy⟩,?_⟩
 ·have j:a1.filter (stays a1)=a1:=List.filter_eq_self.2 λP n=>by
   unfold stays;rw[Bool.or_eq_true];exact .inr (List.any_eq_true.2 ⟨P,n,sM⟩)
  rw[j];exact M
 ·rintro u a0 w2 ⟨left,p,rfl,v,w,k⟩
  refine mD p (λl=>.inl ⟨rfl,Ok.mk ⟨rfl,?_,v⟩⟩) λe o l1 l2 r Q x R S s3=>.inr ⟨_,_,rfl,pJ R ?_⟩
  ·have:left=[]:=by simpa using l
   subst this;have j:(a1.filter (stays []))=a1.filter λP=>P.2.f.jV:=List.filter_congr λP _=>by simp[stays]
   rw[j]at p;exact p.map
  ·obtain⟨f,P,d,rfl,rfl,rfl,rfl⟩:=vY Q
   have n:(e,P)∈a1:=w _ sM;have a6:b.heap.size≠a:=p.ne;have s:ak (·=a) b r:=v.new S λd y=>.inr oM;have T:eh r P.q P.G P.f:=(m.each _ n).af s λd y=>K _ n d y;obtain⟨fa,fn,fc,F0,q,z,h3,h4⟩:=T.body;have A:e∉(f++d).map (·.1):=by
    unfold Tidy at k;rw[Q3,QY]at k;rw[Q3];intro U;have V:=(List.perm_middle (a:=e) (l₁:=f.map (·.1)) (l₂:=d.map (·.1))).nodup_iff.1 k;exact(List.nodup_cons.1 V).1 U
   have B:∀c∈a1,c.1≠e->stays (f++(e,P)::d) c=stays (f++d) c:=λc g h=>by
    unfold stays
    congr 1
    have:(e==c.1)=false:=beq_false_of_ne (Ne.symm h);simp[List.any_append,this]
   have C:∀c∈a1,c.1=e->c=(e,P):=λc g l=>by
    have q:=pH m.tidy (k:=c.1) (v:=c.2) g;have z:=pH m.tidy (k:=e) (v:=P) n;rw[l,z]at q;exact Prod.ext l (XJ q).symm
   have W:(f++d).any (λc=>c.1==e)=false:=by
    rw[List.any_eq_false];intro c g l;exact A (Xk.2 ⟨c,g,eq_of_beq l⟩)
   have E:Tidy (f++d):=by
    unfold Tidy at k⊢;rw[Q3,QY]at k;rw[Q3];exact(List.nodup_cons.1 ((List.perm_middle (a:=e) (l₁:=f.map (·.1)) (l₂:=d.map (·.1))).nodup_iff.1 k)).2
   have F:∀c∈f++d,c∈a1:=λc g=>w c (by simp only[Q6,Q2]at g⊢;exact g.imp id .inr);have H:(f++d).length<(f++(e,P)::d).length:=sM
   refine⟨_,_,rfl,_,_,_,rfl,L,PC.ok (φ:=λo i=>o= .bool (!P.f.jV)/\i=r) (px ⟨P.q,0,rfl,_,ae q rfl,Ok.mk ⟨rfl,rfl⟩⟩) ?_⟩;rintro _ _ ⟨rfl,rfl⟩;refine⟨_,rfl,an.not (an.mk (λt=>⟨_,H,f++d,?_,rfl,s,F,E⟩) (λt=>?_))⟩
   ·have j:a1.filter (stays (f++(e,P)::d))=a1.filter (stays (f++d)):=List.filter_congr λc g=>by
     by_cases h:c.1=e
     ·rw[C c g h];simp[stays,t]
     ·exact B c g h
    rw[Q3,<-j];exact x
   ·refine Ov mF kS x (by rw[<-Q3];simpa[dX,Function.comp_def]using A) λw4 I X s4=>⟨_,H,f++d,?_,rfl,s.then X,F,E⟩
    have j:bK ((a1.filter (stays (f++(e,P)::d))).map dX) e=(a1.filter (stays (f++d))).map dX:=by
     have Y:bK ((a1.filter (stays (f++(e,P)::d))).map dX) e=(bK (a1.filter (stays (f++(e,P)::d))) e).map dX:=(Ae (λP:mC=>ptr P.q) _ e).symm;have Z:Tidy (a1.filter (stays (f++(e,P)::d))):=List.Nodup.sublist (List.Sublist.map _ List.filter_sublist) m.tidy;rw[Y,G_ Z,List.filter_filter]
     congr 1
     refine List.filter_congr λc g=>?_
     by_cases h:c.1=e
     ·rw[C c g h]
      simp only[stays,t,W,Bool.or_false,bne_self_eq_false,Bool.false_and]
     ·rw[B c g h]
      have:(c.1 !=e)=true:=by simpa using h
      rw[this,Bool.true_and]
    rw[j,<-Q3]at I;exact I
end Go.Proofs.YtblabbpipmodgaaGreatDoor
namespace Go.aw
open Go
def cE(P:List UInt8):ByteArray:=⟨P.toArray⟩
def qh(P:List UInt8):(cE P).data.toList=P:=by simp[cE]
def TE(P:ByteArray):cE P.data.toList=P:=by simp[cE]
variable{c6 w:List UInt8}{a:Nat}{Q W:Operand}{h:Program}{g:TypeId}{l s:XR}{b:World}
def Lu(P:cE w=cE c6):w=c6:=by rw[<-qh w,P,qh]
def g_(P:List UInt8):(cE P).size=P.length:=by simp[cE,ByteArray.size]
def lx(P:ByteArray):Int×Bool:=match iw P.data.toList with
 |some a=>(a,true)
 |none=>(0,false)
def VY{a P:List UInt8}(d:a.length+P.length<=1000000000)(c:l (.string (cE (a++P))) b):
  aH h (do eqGuard .add g Q W (.string (cE a)) (.string (cE P));binOp .add g (.string (cE a)) (.string (cE P))) b l s:=by
 refine aH.mk (v:=.string (cE a++cE P)) (w':=b) ?_ ?_
 ·rw[Sem.run_bind,show(eqGuard .add g Q W (.string (cE a)) (.string (cE P))).run h b= .ok () b from rfl,Result.andThen_ok,binOp_string_add,run_string_add_sum b (cE a) (cE P) (by rw[g_,g_];omega)]
 have:cE a++cE P=cE (a++P):=by
  apply ByteArray.ext;simp[cE]
 rw[this];exact c
def ai.RN{P:Array Obj}:ai b (Sort.grow (b.drewN a) P):=
 ⟨rfl,rfl,rfl,sM,λd c _=>by rw[Sort.heap_grow_old _ _ (by simpa using c)];rfl⟩
end Go.aw
namespace Go.Proofs.YtblabbpipmodgaaGreatDoor
section
open Go.aw
structure Laid (w:World):Prop where
 mW:pg w
 pow:Lib.TabIs XP w "internal/strconv.uint64pow10" .u64 Lib.pow10Tab
variable{v:ByteArray}{e:Int}{c6 w:List UInt8}{b k:World}
def Laid.ah(P:Laid b)(a:ai b k):Laid k:=⟨P.mW.ah a,Lib.tabBelow_of_tabIs P.pow k a.below⟩
def strconv_Itoa{P:Int}{a:World}(d:Laid a)(b:aN P):ZG 173 #[XH P] a (Ok λe c=>e= .string (cE (Lib.itoa P))/\ai a c):=by
 refine(Any.strconv_Itoa Tryz.PI P b.1 b.2 a d.pow).mono ?_;rintro f c ⟨rfl,g,h,rfl⟩;exact Ok.mk ⟨rfl,ai.RN⟩
def iM(a:Laid b)(c:aN e):ZG 120 #[XH e] b (Ok λd f=>d= .string (cE (ax e))/\ai b f):=by
 refine zG (an.dec (λP=>?_) (λh=>an.dec (λP=>?_) (λi=>PC.ok (strconv_Itoa a c) ?_)))
 ·exact Ok.mk ⟨by unfold ax;rw[Zx (.inl P)];rfl,ak.refl _⟩
 ·exact Ok.mk ⟨by unfold ax;rw[Zx (.inr P)];rfl,ak.refl _⟩
 rintro _ j ⟨rfl,g⟩;refine⟨_,rfl,VY (a:=du) ?_ ⟨_,rfl,Ok.mk ⟨?_,g⟩⟩⟩
 ·have:=nT (u:=e.toNat) oM
  unfold Lib.itoa;rw[Zq oM];show 4+_<=_;omega
 ·rw[lq oM oM]
  unfold Lib.itoa;rw[Zq oM]
def Bk:ZG 328 #[.string (cE w),.string (cE c6)] b (Ok λc d=>c= .bool (decide (w.take c6.length=c6))/\b=d):=by
 refine gB ?_;rw[g_,g_];refine an.dec (λP=>⟨oM,oM,Ok.mk ⟨?_,rfl⟩⟩) (λP=>Ok.mk ⟨?_,rfl⟩)
 ·rw[Qx]
  have a:ByteArray.toList (ByteArray.extract (cE w) 0 c6.length)=w.take c6.length:=by
   rw[ByteArray.toList_eq,ByteArray.data_extract];simp[cE]
  have e:ByteArray.toList (cE c6)=c6:=by rw[ByteArray.toList_eq,qh]
  rw[a,e]
  congr 1
  by_cases P:w.take c6.length=c6<;>simp[P]
 ·have:w.take c6.length≠c6:=λa=>by have:=Zj List.length a;simp at this;omega
  rw[Xv this]
def Cw:ZG 248 #[.string (cE w),.string (cE c6)] b (Ok λa c=>a= .tuple (if w.take c6.length=c6 then #[.string (cE (w.drop c6.length)),.bool true]else #[.string (cE w),.bool false])/\b=c):=by
 refine q_ (PC.ok (φ:=λa c=>a= .tuple (if w.take c6.length=c6 then #[.string (cE (w.drop c6.length)),.bool true]else #[.string (cE w),.bool false])/\b=c) (gy (PC.ok Bk ?_)) ?_)
 ·rintro _ _ ⟨rfl,rfl⟩
  refine⟨_,rfl,?_⟩;rw[g_,g_]
  by_cases P:w.take c6.length=c6
  ·rw[Zx P,Zy P]
   have f:c6.length<=w.length:=by have:=Zj List.length P;simp at this;omega
   refine an.ff rfl ⟨oM,oM,Ok.mk ⟨?_,rfl⟩⟩;have d:ByteArray.extract (cE w) (Int.toNat ((c6.length:Nat):Int)) w.length=cE (w.drop c6.length):=by
    apply ByteArray.ext;rw[Qx,ByteArray.data_extract];have e:List.take (w.length-c6.length) (List.drop c6.length w)=List.drop c6.length w:=Qz sM;simp[cE,e]
   rw[d]
  ·rw[Zq P,Xv P]
   exact an.tt rfl (Ok.mk ⟨rfl,rfl⟩)
 ·rintro _ _ ⟨rfl,rfl⟩
  split
  ·exact⟨_,_,rfl,Ok.mk ⟨rfl,rfl⟩⟩
  ·exact⟨_,_,rfl,Ok.mk ⟨rfl,rfl⟩⟩
def zo(y:Laid b):ZG 177 #[.string v] b (Ok λl e=>l= .tuple #[XH (lx v).1,.bool (lx v).2]/\ai b e):=by
 rw[<-TE v];generalize v.data.toList=f;have d:(⟨#[115,101,103,46]⟩:ByteArray)=cE du:=rfl;unfold lx;rw[qh];refine vI ?_;rw[d];refine PC.ok Cw ?_;rintro _ _ ⟨rfl,rfl⟩;have no:∀e,iw f=none->ai b e->Ok (λl e=>l= .tuple #[XH (match iw f with|some m=>((m:Int),true)|none=>(0,false)).1,.bool (match iw f with|some m=>((m:Int),true)|none=>(0,false)).2]/\ai b e) (.returned (.tuple #[XH 0,.bool false])) e:=λe p z=>by
  rw[p];exact Ok.mk ⟨rfl,z⟩
 by_cases g:f.take du.length=du
 ·rw[Zx g]
  refine⟨_,_,rfl,an.ff rfl ?_⟩;have q:f=du++f.drop 4:=by
   have:=ZX 4 f;rw[show f.take 4=du from g]at this;exact this.symm
  change an (decide (((ByteArray.size (cE (f.drop 4)):Nat):Int)>12)) _ _
  generalize S:f.drop 4=a at q;subst q;rw[g_];refine an.dec (λp=>no _ (KA (by rw[QX];show 16<4+_;omega)) (ak.refl _)) (λT=>?_);refine Ar Tryz.underlying9 λU A B V=>⟨λr s e=>∃P,r=a.length-P/\P<=a.length/\s=(eD (a.take P):Int)/\e.heap[b.heap.size]? =some (.stringIter (cE a) P)/\ai b e/\(a.take P).all fP=true,⟨_,0,rfl,Qj _,rfl,A,B,rfl⟩,?_⟩
  rintro r s W X ⟨P,rfl,Y,rfl,C,h,i⟩;have E:=wC _ i;refine ER C (λF=>.inl ⟨rfl,?_⟩) λd t u j Z=>.inr ⟨_,_,rfl,?_⟩
  ·rw[g_]at F
   rw[Qz oM]at i E⊢;have a0:10 ^ a.length<=10 ^ 12:=Nat.pow_le_pow_right oM oM;have H:(10:Nat) ^ 12=1000000000000:=dC
   refine PC.ok (iM (y.ah h) bb) ?_;rintro _ t ⟨rfl,j⟩;have w:=FH i oM;refine⟨_,rfl,an.Wg (λI=>no _ ?_ (h.then j)) (λJ=>?_)⟩
   ·rw[w,Zq λK=>I (by rw[K])]
   ·rw[w,Zx (Lu J)]
    exact Ok.mk ⟨rfl,h.then j⟩
  ·have n:P<a.length:=by rwa [g_]at d
   have k:ai b t:=h.new j λa1 x=>.inr oM;have o:a[P]? =some ((cE a)[P]'d):=by
    rw[Qq n]
    congr 1
   have c:fP ((cE a)[P]'d)=false->iw (du++a)=none:=λL=>Io (List.all_eq_false.2 ⟨_,QZ o,by simp[L]⟩)
   by_cases x:((cE a)[P]'d).toNat<128
   ·rw[decode_ascii _ P d x]at u⊢
    simp only;refine an.dec (λM=>no _ (c ?_) k) (λN=>an.dec (λO=>no _ (c ?_) k) (λQ=>?_))
    ·unfold fP;exact Xv oM
    ·unfold fP;exact Xv oM
    ·have a2:10 ^(a.take P).length<=10 ^ 12:=Nat.pow_le_pow_right oM bc
     have H:(10:Nat) ^ 12=1000000000000:=dC
     refine⟨_,oM,P+1,rfl,oM,?_,u,k,?_⟩
     ·rw[Qw,o]
      show _=((eD (a.take P++[_]):Nat):Int);rw[fx];have R:XG .i32 ((((cE a)[P]'d).toNat:Int)-48)=(((cE a)[P]'d).toNat:Int)-48:=by
       unfold XG;simp[IntKind.signed,IntKind.bits];omega
      rw[R,wrap_i64 (x:=(((cE a)[P]'d).toNat:Int)-48) bb,wrap_i64 (x:=10*_) bb,wrap_i64 bb];omega
     ·rw[Qw,o,List.all_append,i]
      simp[fP];omega
   ·have hh:=(decode_high _ P d oM).1
    refine an.dec (λM=>oM) (λN=>an.dec (λO=>no _ (c ?_) k) (λQ=>oM));unfold fP;exact Xv oM
 ·rw[Zq g]
  exact⟨_,_,rfl,an.tt rfl (no _ (Ns g) (ak.refl _))⟩
end
section
open Go.aw
def Sy:iH XP 27 3 1 8:=⟨kR,kR,dC⟩
def fr(a:List Int)(P:Int):Int:=if P<0 then 0 else max (a.getD P.toNat 0) 0
variable{e q:Int}{b1 t:List Int}{a c i n:Nat}{d r:ZH}{b:World}{m:aj}
def RW(a:0<=e)(P:t[e.toNat]? =some q):fr t e=max q 0:=by
 unfold fr;rw[Zq oM];simp[List.getD,P]
def PX(P:(t.length:Int)<=e):fr t e=0:=by
 unfold fr;split
 ·rfl
 ·have:t[e.toNat]? =none:=by simp;omega
  simp[List.getD,this]
def mS{i:Int}(g:Ints b d a t):
  ZG 105 #[.slice d a c,XH i] b (Ok λh j=>h= XH (fr t i)/\b=j):=by
 refine Mm ?_;refine an.mk (λe=>?_) (λe=>an.mk (λP=>?_) (λP=>?_))
 ·have:=XV e
  exact Ok.mk ⟨by simp[fr,this],rfl⟩
 ·have P:=XV P
  exact Ok.mk ⟨by rw[PX (by rw[<-g.len];exact P)],rfl⟩
 ·have e:=Xy e
  have P:=Xy P;obtain⟨k,f,l,rfl,o,m,p,n⟩:=g.at (i:=i) oM oM;refine⟨k,f,rfl,oM,oM,l,n,Ok.mk ⟨?_,rfl⟩⟩;rw[RW oM m]
  congr 1
  omega
def pf(a b:List Int)(c:Nat):List Int:=(List.range c).map λ(P:Nat)=>max (fr a P) (fr b P)
def jx(P a:List Int):List Int:=pf P a (max P.length a.length)
def Iz(a b:List Int)(P:Nat):pf a b (P+1)=pf a b P++[max (fr a P) (fr b P)]:=by simp[pf,List.range_succ]
def rD(a b:List Int)(P:Nat):(pf a b P).length=P:=by simp[pf]
def FK(a:World)(f:TypeId)(g:List Int)(h:Value)(b:World):Prop:=
 ∃P c d,h= .slice P c d/\Own b f 1 P c d (ints g)/\ai a b/\∀e,aI P=some e->a.heap.size<=e
def RX:(if q>e then q else e)=max e q:=oM
def zj(j:Ints b d a t)(P:Ints b r c b1):
  ZG 100 #[.slice d a i,.slice r c n] b (Ok (FK b 3 (jx t b1))):=by
 have v:=j.len;have w:=P.len;have x:=j.dB;have y:=P.dB;unfold aO at x y;refine Ji ⟨λo k e p q s=>q=(e:Int)/\e<=max a c/\o=max a c-e/\Own s 3 1 k e p (ints (pf t b1 e))/\ai b s/\∀r,aI k=some r->b.heap.size<=r,
  ⟨_,rfl,oM,rfl,Own.nil _ _ _,ak.refl _,by simp[aI]⟩,?_⟩
 rintro o k e p q _ C ⟨rfl,E,rfl,u,f,l⟩;refine an.mk (λg=>?_) (λg=>?_)
 ·have g:=XV g
  refine PC.ok (mS (j.ah f)) ?_;rintro _ _ ⟨rfl,rfl⟩;refine⟨_,rfl,PC.ok (mS (P.ah f)) ?_⟩;rintro _ _ ⟨rfl,rfl⟩;refine⟨_,rfl,PA.mk λF m H z=>?_⟩;refine KP Sy (u.ah m) z ba λI J K A B h=>?_;refine⟨_,_,_,rfl,_,?_,?_,oM,rfl,?_,(f.ah m).new B ?_,?_⟩
  ·omega
  ·rw[wrap_i64 bb];simp
  ·rw[Iz,<-RX];exact A
  ·intro r P;exact .inr (l r P.symm)
  ·intro r P
   rcases h with h|h
   ·exact l r (h▸P)
   ·rw[h]at P;cases P;have:=f.size;have:=m.size;omega
 ·have g:=Xy g
  have:e=max a c:=oM
  subst this;refine Ok.mk ⟨_,_,_,rfl,?_,f,l⟩;unfold jx;rw[<-v,<-w];exact u
def xx(P a:List Int):Nat->Int
 |0=>0
 |k+1=>if fr P k<fr a k then Oj .i64 (xx P a k) 1 else if fr P k>fr a k then Oj .i64 (xx P a k) 2 else xx P a k
def qo(P a:List Int):Int:=xx P a (max P.length a.length)
def LN(h:Ints b d a t)(j:Ints b r c b1):
  ZG 101 #[.slice d a i,.slice r c n] b (Ok λq k=>q= XH (qo t b1)/\b=k):=by
 have s:=h.len;have u:=j.len;have v:=h.dB;have w:=j.dB;unfold aO at v w;refine Ml ⟨λm o p k=>∃P:Nat,p=P/\P<=max a c/\m=max a c-P/\o=xx t b1 P/\k=b,
  ⟨_,0,rfl,oM,rfl,rfl,rfl⟩,?_⟩
 rintro m o p _ x ⟨P,rfl,y,rfl,rfl,rfl⟩;refine an.mk (λg=>?_) (λg=>?_)
 ·have g:=XV g
  refine PC.ok (mS h) ?_;rintro _ _ ⟨rfl,rfl⟩;refine⟨_,rfl,PC.ok (mS j) ?_⟩;rintro _ _ ⟨rfl,rfl⟩;have l:XG .i64 ((P:Int)+1)=((P+1:Nat):Int):=by rw[wrap_i64 bb];simp
  refine⟨_,rfl,an.mk (λe=>?_) (λe=>an.mk (λf=>?_) (λf=>?_))⟩
  ·have e:=XV e
   exact⟨_,oM,P+1,l,oM,rfl,by simp[xx,e],rfl⟩
  ·have e:=Xy e
   have f:=XV f;exact⟨_,oM,P+1,l,oM,rfl,by simp[xx,e,f],rfl⟩
  ·have e:=Xy e
   have f:=Xy f;exact⟨_,oM,P+1,l,oM,rfl,by simp[xx,e,f],rfl⟩
 ·have g:=Xy g
  have:P=max a c:=oM
  subst this;exact Ok.mk ⟨by unfold qo;rw[<-s,<-u],rfl⟩
structure jw where
 bP:Int
 oN:Int
 ku:Int
 least:Int
 deriving DecidableEq
structure bj where
 kind:Int
 dJ:Int
 floor:Bool
 bq:List jw
 deriving DecidableEq
structure iG where
 aX:Int
 field:Int
 group:Int
 DT:Int
 make:Int
 deriving DecidableEq
structure aR where
 types:List (List bj)
 projs:List iG
 deriving DecidableEq
structure kv where
 aX:Int
 agg:Int
 field:Int
 op:Int
 arg:Int
 expect:Int
 key:Int
 deriving DecidableEq
structure cQ where
 n:Int
 set:List Int
 deriving DecidableEq
structure lJ where
 version:Int
 cells:List cQ
 deriving DecidableEq
structure cM where
 ev:aj
 void:Bool
 DT:Int×Int
structure dE where
 group:Int
 value:Int
 count:Int
 deriving DecidableEq
abbrev om(P:Int):Int:=XG .i64 P
def within(P a b:Int):Bool:=decide (a<=P)&&decide (P<=b)
def aR.at(P:aR)(a:Int):List bj:=if within a 0 (P.types.length-1)then P.types.getD a.toNat []else []
def aR.Cs(P:aR)(a b:Int):Option bj:=
 if within a 0 (P.types.length-1)&&within b 0 ((P.at a).length-1)then(P.at a)[b.toNat]? else none
def pW(P:Int):Int:=if P=1 then 1 else if P=2 then 2 else if P=3 then 3 else if P=4 then 3 else if P=5 then 4 else 0
def ko(a:aR)(b c op arg:Int):Int:=match a.Cs b c with
 |none=>8
 |some P=>if !within op 1 5||pW op !=P.kind then 2 else if op==1&&arg==0||op==5&& !within arg 0 (P.bq.length-1)then 1 else 0
def ql(P:aR):Bool:=
 if !within P.types.length 1 8||decide (8<P.projs.length)then true else
 P.types.any λb=>!within b.length 1 8||b.any λa=>if a.kind==4 then !within a.bq.length 1 16 else decide (0<a.bq.length)
def Qd(a:List bj)(b P:Int):Bool:=within b 0 (a.length-1)&&((a[b.toNat]?).map (·.kind)==some P)
def Ps(P a:Int):Bool:=a==1||a==2&&within P 2 4||a==3&&P==2
def fe(P:List bj)(f:bj):Int:=
 if !within f.kind 1 4 then 2 else if !within f.dJ 1 3|| !Ps f.kind f.dJ||f.floor&&f.kind !=1 then 1 else
 if f.bq.any λm=>decide (m.bP<0)||decide (m.oN<0)||m.ku== -1&&m.least !=0 then 1 else
 if f.bq.any λm=>m.ku != -1&& !Qd P m.ku 1 then 8 else 0
def lr(a:aR)(P:iG):Int:=
 if(a.Cs P.aX P.field).isNone then 8 else
 if P.group==3&& !Qd (a.at P.aX) P.DT 2||P.group !=3&&P.DT !=0 then 8 else
 if !within P.group 1 3|| !within P.make 1 5 then 2 else 0
def cj{a:Type}(P:a->Int):List a->Int
 |[]=>0
 |x::b=>if P x !=0 then P x else cj P b
def di(P:aR):Int:=
 if ql P then 3 else
 let a:=cj (λb=>cj (fe b) b) P.types
 if a !=0 then a else cj (lr P) P.projs
def bd(P:aj):Int×Int:=(P.origin,P.seq)
def eu(a P:aj):Bool:=decide (a.aA<P.aA)||a.aA==P.aA&&(decide (a.origin<P.origin)||a.origin==P.origin&&decide (a.seq<P.seq))
def ru(P a:aj):Int:=if eu P a then-1 else if eu a P then 1 else 0
def cW(P:aj)(a:Nat):Int:=
 if P.origin<0\/(a:Int)<=P.origin\/min P.seq P.aA<1\/min P.agg P.key<0\/P.aQ.length≠a\/P.aQ.any (λb=>decide (b<0))then 1 else
 if P.aQ.getD P.origin.toNat 0≠om (P.seq-1)then 9 else
 if P.op<1\/5<P.op then 2 else if min P.aX P.field<0\/8<=P.aX\/8<=P.field then 8 else 0
def zV(P a:aj):Bool:=decide (P.seq<=fr a.aQ P.origin)
def uf(P a:aj):Bool:=bd P !=bd a&& !zV P a&& !zV a P
structure au where
 n:Nat
 l:List aj
def dw(P:aj):List aj->List aj
 |[]=>[P]
 |x::a=>if eu P x then P::x::a else x::dw P a
def au.Ek(P:au)(a:Nat):Nat:=P.l.countP λb=>b.origin==(a:Int)
def au.vec(P:au):List Int:=(List.range P.n).map λa=>(P.Ek a:Int)
def au.get(P:au)(id:Int×Int):Option aj:=P.l.find? λa=>bd a==id
def au.top(P:au):Int:=P.l.foldl (λa b=>max a b.aA) 0
def au.lv(e:au)(P:aj)(b:Nat):Bool:=
 let c:=P.aQ.getD b 0
 c==0||match e.get (b,c)with
  |none=>false
  |some a=>decide (a.aA<P.aA)&&(List.range a.aQ.length).all λd=>decide (a.aQ.getD d 0<=P.aQ.getD d 0)
def au.add(P:au)(a:aj):Int×au:=
 let no:=cW a P.n
 if no≠0 then(no,P)else
 if(P.get (bd a)).isSome then(16,P)else
 if a.seq≠(P.vec.getD a.origin.toNat 0)+1 then(9,P)else
 if(List.range P.n).any λb=>!P.lv a b then(9,P)else(0,{P with l:=dw a P.l})
def au.fq(P:au)(l:List aj):au:=l.foldl (λP a=>(P.add a).2) P
def au.missing(b:au)(c:List Int)(P:Int):List aj:=(b.l.filter λa=>decide (max 0 (fr c a.origin)<a.seq)).take (max 0 P).toNat
def au.keyed(P:au)(key:Int):Option aj:=P.l.find? λa=>key !=0&&a.key==key
def dK(P:List bj):List cQ:=P.map λ_=>⟨0,[]⟩
def KS(P a:Int):Bool:=decide (P<om (P+a))==decide (0<a)
def vo(f:List bj)(d:List cQ)(P c arg:Int):Int:=
 let e:=f.getD P.toNat ⟨0,0,false,[]⟩
 let a:=d.getD P.toNat ⟨0,[]⟩
 let g:Bool:=
  if c=1 then(arg==0||KS a.n arg)&& !(e.floor&&decide (om (a.n+arg)<0))
  else if c=3 then decide (arg∈a.set)||decide (a.set.length<64)
  else if c=5 then(let b:=e.bq.getD arg.toNat ⟨0,0,0,0⟩;a.n==b.bP&&(decide (b.ku<0)||decide (b.least<=(d.getD b.ku.toNat ⟨0,[]⟩).n)))
  else true
 if g then 0 else 10
def oV(P:Int):List Int->List Int
 |[]=>[P]
 |y::a=>if P<y then P::y::a else if P=y then y::a else y::oV P a
def Qt(d:List bj)(b:List cQ)(P c arg:Int):List cQ:=
 let e:=d.getD P.toNat ⟨0,0,false,[]⟩
 let a:=b.getD P.toNat ⟨0,[]⟩
 if c=1 then b.set P.toNat {a with n:=om (a.n+arg)}
 else if c=2 then b.set P.toNat {a with n:=arg}
 else if c=3 then b.set P.toNat {a with set:=oV arg a.set}
 else if c=4 then b.set P.toNat {a with set:=a.set.filter λf=>f !=arg}
 else if c=5 then b.set P.toNat {a with n:=(e.bq.getD arg.toNat ⟨0,0,0,0⟩).oN}
 else b
def ez(b:bj)(a P:Int×Int):Bool:=
 if b.kind=2 then a.1==2&&P.1==2&&a !=P
 else if b.kind=4 then a.1==5&&P.1==5&&a !=P
 else if b.kind=3 then a==(3,P.2)&&P==(4,a.2)||a==(4,P.2)&&P==(3,a.2)
 else false
def lF(f:bj)(P a:aj):Bool:=(f.dJ==2||f.dJ==3&&decide (a.arg<P.arg))&&ez f (P.op,P.arg) (a.op,a.arg)&&uf P a
structure aY where
 decl:aR
 entries:List cM
 et:List ((Int×Int)×lJ)
 done:List ((Int×Int×Int)×List aj)
def aY.new(P:aR):aY:=⟨P,[],[],[]⟩
def aY.try(a:aY)(P:aj):Bool×(Int×Int)×aY:=
 if ko a.decl P.aX P.field P.op P.arg≠0 then(true,(0,0),a)else
 let d:=a.decl.at P.aX
 let c:=(P.aX,P.agg,P.field)
 match((az a.done c).getD []).find? λf=>lF (d.getD P.field.toNat ⟨0,0,false,[]⟩) f P with
 |some f=>(true,bd f,a)
 |none=>
  let e:=az a.et (P.aX,P.agg)
  let b:=match e with
   |some e=>e.cells
   |none=>dK d
  if vo d b P.field P.op P.arg≠0 then(true,(0,0),a)else
  (false,(0,0),{a with
   et:=aK a.et (P.aX,P.agg) ⟨om ((e.getD ⟨0,[]⟩).version+1),Qt d b P.field P.op P.arg⟩
   done:=aK a.done c ((az a.done c).getD []++[P])})
def aY.add(c:aY)(a:aj):cM×aY:=
 let P:=c.try a
 let b:cM:=⟨a,P.1,P.2.1⟩
 (b,{P.2.2 with entries:=P.2.2.entries++[b]})
def aY.state(P:aY)(a b:Int):Option lJ:=az P.et (a,b)
def cH(P:aR)(a:List aj):aY:=a.foldl (λb c=>(b.add c).2) (aY.new P)
def jJ(c:List cM)(d a e:Int)(P:Nat):List cM×Bool:=
 let own:=(c.filter λb=>b.ev.aX==d&&b.ev.agg==a).drop (max e 0).toNat
 (own.take P,decide (P<own.length))
def mN(c:List dE)(P:Int)(a:Nat):List dE×Bool:=
 let b:=c.dropWhile λd=>decide (d.group<=P)
 (b.take a,decide (a<b.length))
def iK(a:aR)(P:kv):Int:=if P.agg<0\/P.key<0\/P.expect< -1 then 1 else ko a P.aX P.field P.op P.arg
def aV(a:kv)(P:Int)(b:List Int)(c:Int):Int×aj:=
 let no:aj:=⟨0,0,0,[],0,0,0,0,0,0⟩
 if P<0\/(b.length:Int)<=P\/c<0 then(1,no)else
 if fr b P=9223372036854775807\/c=9223372036854775807 then(13,no)else
 (0,⟨P,fr b P+1,c+1,jx b [],a.aX,a.agg,a.field,a.op,a.arg,a.key⟩)
def qm(e:aR)(c:au)(i:aY)(a start:Int)(P:kv):aj×Bool×Int:=
 let no:aj:=⟨0,0,0,[],0,0,0,0,0,0⟩
 let f:=iK e P
 if f≠0 then(no,false,f)else
 match c.keyed P.key with
 |some j=>(j,false,0)
 |none=>
  let g:=e.at P.aX
  let h:=i.state P.aX P.agg
  let b:=match h with
   |some k=>k.cells
   |none=>dK g
  if¬(P.expect= -1\/P.expect=(h.getD ⟨0,[]⟩).version)then(no,false,11)else
  if vo g b P.field P.op P.arg≠0 then(no,false,10)else
  let d:=aV P a c.vec (max c.top start)
  (d.2,decide (d.1=0),d.1)
structure dx where
 p:iG
 rows:List (Int×dE)
def ll(P:iG)(a:dE)(arg:Int):Int:=
 if P.make=1 then a.count else if P.make=2 then om (a.value+arg)else
 if P.make=5\/a.count=1/\(P.make=3\/P.make=4)then arg else
 if P.make=3 then min a.value arg else if P.make=4 then max a.value arg else 0
def dx.add(P:dx)(e:cM)(c:Int):dx:=
 let b:=if P.p.group=1 then some e.ev.agg else if P.p.group=2 then some e.ev.arg else if P.p.group=3 then some c else none
 match b with
 |none=>P
 |some b=>
  if e.void||e.ev.aX !=P.p.aX||e.ev.field !=P.p.field then P else
  let a:=(az P.rows b).getD ⟨0,0,0⟩
  let a:dE:=⟨b,a.value,om (a.count+1)⟩
  {P with rows:=aK P.rows b ⟨b,ll P.p a e.ev.arg,a.count⟩}
def lQ(P:dE):List dE->List dE
 |[]=>[P]
 |y::a=>if P.group<y.group then P::y::a else y::lQ P a
def dx.list(P:dx):List dE:=(P.rows.map (·.2)).foldr lQ []
structure jt where
 view:aY
 rows:List dx
def jt.new(P:aR):jt:=⟨aY.new P,P.projs.map λa=>⟨a,[]⟩⟩
def rr(P:Option lJ)(a:iG):Int:=match P with
 |none=>0
 |some P=>((P.cells[a.DT.toNat]?).map (·.n)).getD 0
def jt.add(b:jt)(P:aj):jt:=
 let a:=b.view.add P
 let d:=a.2.state P.aX P.agg
 ⟨a.2,b.rows.map λc=>c.add a.1 (rr d c.p)⟩
def dU(P:aR)(a:List aj):jt:=a.foldl jt.add (jt.new P)
def eX(P:Nat)(a:List aj)(b:aj):Bool×List aj:=
 if P<=a.length\/a.any (λc=>bd c==bd b)then(false,a)else(true,dw b a)
def ey(P:au):List aj->Option (aj×au×List aj)
 |[]=>none
 |e::b=>if(P.add e).1=0 then some (e,(P.add e).2,b)else(ey P b).map λa=>(a.1,a.2.1,e::a.2.2)
def dW:Nat->au->List aj->List aj->List aj×List aj
 |0,b,a,P=>(P,a)
 |k+1,b,a,P=>match ey b a with
  |none=>(P,a)
  |some (c,d,e)=>dW k d e (P++[c])
def bz(a:au)(P:List aj):List aj×List aj:=
 let P:=P.filter λb=>(a.get (bd b)).isNone
 dW (P.length+1) a P []
structure c_ where
 kind:Int
 bP:Int
 oN:Int
 vec:List Int
 events:List aj
def gl(P:c_)(a:Int):Int:=if 0<P.events.length then 8 else if(P.vec.length:Int)≠a then 1 else if P.vec.any (λb=>decide (b<0))then 1 else 0
def eB(a:c_)(b:Nat)(P:Int):Int:=if 0<a.vec.length then 8 else if a.events.length<1\/P<(a.events.length:Int)then 3 else cj (λc=>cW c b) a.events
def eC(m:c_)(b:Nat)(a:Int):Int:=
 let P:=!(decide (0<=m.bP)&&decide (m.bP<b))|| !(decide (0<=m.oN)&&decide (m.oN<b))||m.bP==m.oN
 if m.kind=3 then(if P then 1 else eB m b a)
 else if m.kind=1\/m.kind=2\/m.kind=4 then(if P then 1 else gl m b)
 else 2
def jG(P:au)(a b:Int):c_:=⟨1,a,b,P.vec,[]⟩
def wv(P:au)(a b:Int):c_:=⟨4,a,b,P.vec,[]⟩
def lk(d:au)(P:Int)(a:c_)(b:Int):List c_:=
 if a.kind≠1/\a.kind≠2 then []else
 let e:=d.missing a.vec (max 1 (min b 32))
 let g:List c_:=if 0<e.length then [⟨3,P,a.bP,[],e⟩]else []
 let f:=qo a.vec d.vec
 let h:List c_:=if a.kind=1/\(f=2\/f=3)then [⟨2,P,a.bP,d.vec,[]⟩]else []
 let c:=g++h
 if c.isEmpty then [wv d P a.bP]else c
def EJ:(if q<e then q else e)=min e q:=oM
def QP{D:XN}(j:Row aM 8 b D d a t):
  ZG 200 #[.slice d a c,.func (.func 199) #[] #[]] b (Ok λh P=>h= .bool (t.any λe=>decide (e<0))/\b=P):=by
 have w:=j.len;have q:=j.dB;unfold aO at q;refine iL (PC.ok (φ:=λh P=>(∃g:Int,h= XH g/\(0<=g↔(t.any λe=>decide (e<0))=true))/\b=P) (jR ⟨λm g P=>∃f:Nat,g=f/\f<=a/\m=a-f/\((t.take f).any λe=>decide (e<0))=false/\b=P,
  ⟨_,0,rfl,Qj _,rfl,sM,rfl⟩,?_⟩) ?_)
 ·rintro m g _ _ ⟨f,rfl,x,rfl,k,rfl⟩
  refine an.dec (λr=>?_) (λr=>?_)
  ·obtain⟨s,l,n,rfl,o,_,u⟩:=j.lu (i:=f) oM
   refine⟨s,l,rfl,oM,oM,_,u,199,_,_,rfl,kR,PC.ok (φ:=λh P=>h= .bool (decide (n<0))/\b=P) (yb (Ok.mk ⟨rfl,rfl⟩)) ?_⟩;rintro _ _ ⟨rfl,rfl⟩;refine⟨_,rfl,an.dec (λp=>?_) (λp=>?_)⟩
   ·exact Ok.mk ⟨⟨_,rfl,λ_=>List.any_eq_true.2 ⟨n,QZ o,by simpa using p⟩,λ_=>oM⟩,rfl⟩
   ·refine⟨_,oM,f+1,aq oM,oM,rfl,?_,rfl⟩
    rw[Qw,o,List.any_append,k];simp;omega
  ·rw[Qz oM]at k
   exact Ok.mk ⟨⟨_,rfl,λi=>oM,λi=>by rw[k]at i;cases i⟩,rfl⟩
 ·rintro _ _ ⟨⟨g,rfl,v⟩,rfl⟩
  exact⟨_,rfl,Ok.mk ⟨by cases i:(t.any λe=>decide (e<0))<;>simp[i]at v⊢<;>omega,rfl⟩⟩
def wU{D:XN}(l:Row aM 8 b D d a m.aQ)(I:i<4611686018427387904):
  ZG 140 #[.agg (aD m d a c).toArray,XH (i:Int)] b (Ok λj k=>j= XH (cW m i)/\ai b k):=by
 have J:=l.len;have x:=l.dB;unfold aO at x;refine BT (PA.mk λy n K g=>⟨_,ae g rfl,?_⟩);have f:(m.origin<0\/(i:Int)<=m.origin\/min m.seq m.aA<1\/min m.agg m.key<0\/m.aQ.length≠i\/m.aQ.any (λp=>decide (p<0))=true)->Ok (λj k=>j= XH (cW m i)/\ai b k) (.returned (XH 1)) y:=λP=>by
  refine Ok.mk ⟨?_,n⟩;unfold cW;rw[Zx P]
 refine an.dec (λP=>f (.inl P)) λL=>⟨_,ae g rfl,an.dec (λP=>f (.inr (.inl P))) λM=>⟨_,ae g rfl,_,ae g rfl,?_⟩⟩
 with_reducible (conv=>whnf)
 rw[EJ];refine an.dec (λP=>f (.inr (.inr (.inl P)))) λN=>⟨_,ae g rfl,_,ae g rfl,?_⟩
 with_reducible (conv=>whnf)
 rw[EJ];refine an.dec (λP=>f (.inr (.inr (.inr (.inl P))))) λO=>⟨_,_,_,ae g rfl,an.dI (λP=>f (.inr (.inr (.inr (.inr (.inl oM)))))) λQ=>⟨_,_,_,ae g rfl,PC.ok (QP (l.ah n)) ?_⟩⟩
 rintro _ _ ⟨rfl,rfl⟩;refine⟨_,rfl,an.mk (λP=>f (.inr (.inr (.inr (.inr (.inr P)))))) λz=>⟨_,_,_,ae g rfl,_,ae g rfl,?_⟩⟩;obtain⟨A,q,B,rfl,C,R,E⟩:=(l.ah n).lu (i:=m.origin.toNat) oM;have t:¬(m.origin<0\/(i:Int)<=m.origin\/min m.seq m.aA<1\/min m.agg m.key<0\/m.aQ.length≠i\/m.aQ.any (λp=>decide (p<0))=true):=by
  rw[z];simp only[Bool.false_eq_true,or_false,not_or];omega
 refine⟨A,q,rfl,oM,oM,_,E,_,ae g rfl,λu v=>?_⟩;have F:ai b u:=n.then v.af;have h:=(bQ.af (S:=λ_=>False) v).get g id;have w:m.aQ.getD m.origin.toNat 0=B:=by rw[QQ,C];rfl
 have e:∀r:Int,cW m i=r->Ok (λj k=>j= XH (cW m i)/\ai b k) (.returned (XH r)) u:=λr P=>Ok.mk ⟨by rw[P],F⟩;refine an.dI (λP=>e 9 (by unfold cW;rw[Zq t,w,Zx P])) λH=>⟨_,ae h rfl,?_⟩
 have s:cW m i=if m.op<1\/5<m.op then 2 else if min m.aX m.field<0\/8<=m.aX\/8<=m.field then 8 else 0:=by
  unfold cW;rw[Zq t,w,Zq (by simpa using H)]
 refine an.dec (λP=>e 2 (by rw[s,Zx (.inl P)])) λS=>⟨_,ae h rfl,an.dec (λP=>e 2 (by rw[s,Zx (.inr P)])) λT=>⟨_,ae h rfl,_,ae h rfl,?_⟩⟩
 with_reducible (conv=>whnf)
 rw[EJ];have o:cW m i=if min m.aX m.field<0\/8<=m.aX\/8<=m.field then 8 else 0:=by rw[s,Zq oM]
 refine an.dec (λP=>e 8 (by rw[o,Zx (.inl P)])) λU=>⟨_,ae h rfl,an.dec (λP=>e 8 (by rw[o,Zx (.inr (.inl P))])) λV=>⟨_,ae h rfl,an.dec (λP=>e 8 (by rw[o,Zx (.inr (.inr P))])) λW=>e 0 (by rw[o,Zq oM])⟩⟩
end
end Go.Proofs.YtblabbpipmodgaaGreatDoor
namespace Go.aw
open Go
def UY(a P:Value):Bool:=match a with
 | .int b _=>match P with
  | .int c _=>decide (c=b)
  |_=>false
 | .bool _=>match P with
  | .bool _=>true
  |_=>false
 | .string _=>match P with
  | .string _=>true
  |_=>false
 | .slice _ _ _=>match P with
  | .slice _ _ _=>true
  |_=>false
 | .pointer _=>match P with
  | .pointer _=>true
  |_=>false
 | .map _=>match P with
  | .map _=>true
  |_=>false
 |_=>true
def TI:List Value->List Value->Bool
 |[],[]=>true
 |z::P,a::b=>UY z a&&TI P b
 |_,_=>false
def Qh(z P:Value):Bool:=match z with
 | .agg a=>match P with
  | .agg cs=>TI a.toList cs.toList
  |_=>false
 |z=>UY z P
variable{p:Array Value}{a c:Nat}{E:Nat×Nat}{h:Program}{g o:TypeId}{b8 u:Value}{R:Value->Prop}{b:World}{x:XU}
def PU{φ:Value->Prop}(a:UY u b8=true)(P:φ b8):NI u φ:=by
 unfold NI
 cases u<;>cases b8<;>simp[UY]at a<;>first
  |exact⟨_,P⟩
  |exact⟨_,_,_,P⟩
  |(subst a;exact⟨_,P⟩)
def KH:∀{a cs:List Value} {φ:List Value->Prop},TI a cs=true->φ cs->O_ a φ
 |[],[],φ,_,b=>b
 |[],_::_,φ,P,_=>by simp[TI]at P
 |_::_,[],φ,P,_=>by simp[TI]at P
 |z::a,c::e,φ,P,b=>by
  simp only[TI,QK]at P;exact PU (φ:=λc=>O_ a λd=>φ (c::d)) P.1 (KH (φ:=λd=>φ (c::d)) P.2 b)
def bX(P:Qh u b8=true)(a:R b8):BI u R:=by
 unfold BI;split
 ·rename_i d
  cases b8<;>simp[Qh]at P
  rename_i cs;exact KH (φ:=λb=>R (.agg b.toArray)) P (by simpa using a)
 ·rename_i c
  refine PU ?_ a
  cases u<;>first|exact P|exact Zz rfl (c _)
def xv{c:World}{d:Addr}{e:Prop}:∀{cs:List Value} {P:Nat},(∀a v,cs[a]? =some v->c.cell? (d.add (P+a))=some v)->e->gN c d P cs e
 |[],P,_,b=>b
 |v::i,P,f,b=>⟨f 0 v rfl,xv (λa g h=>by have:=f (a+1) g (by simpa using h);rwa [show P+1+a=P+(a+1) by omega]) b⟩
def ia(P:Program)(a:TypeId)(cs:List Value):Bool:=sX P a&&(match ft P a with
 | .agg b=>Nat.beq (k_ P a) b.size&&TI b.toList cs
 |_=>false)&&Nat.beq cs.length (k_ P a)&&cs.all Value.oneCell'
def KI{cs:List Value}(f:ia h g cs=true)(j:∀d e,cs[d]? =some e->b.cell? ⟨a,c+d,none⟩=some e)(k:R (.agg cs.toArray)):
  ot h g (.pointer (some ⟨a,c,none⟩)) b R:=by
 simp only[ia,QK]at f;obtain⟨⟨⟨l,P⟩,n⟩,o⟩:=f;unfold ot;simp only[l]
 revert P
 cases ft h g<;>simp only[Bool.false_eq_true,false_implies]
 rename_i p;intro P;simp only[QK]at P;simp only[P.1];exact KH (φ:=λi=>gN b ⟨a,c,none⟩ 0 i (R (.agg i.toArray))) P.2 (xv (λd e m=>by rw[Xz,Addr.add_lit];exact j d e m) k)
def ar{cs:List Value}(P:ia h g cs=true)(c:b.heap[a]? =some (.cells cs.toArray o E))(d:R (.agg cs.toArray)):
  ot h g (XL a) b R:=KI P (λf i e=>ae c (by rw[Xz];simpa using e)) d
def Tt{cs:List Value}(e:ia h g cs=true)(f:b.heap[a]? =some (.cells p o E))(i:∀P d,cs[P]? =some d->p[c+P]? =some d)(j:R (.agg cs.toArray)):
  ot h g (.pointer (some ⟨a,c,none⟩)) b R:=KI e (λP d k=>ae f (i P d k)) j
def bC{a c k:Nat}{es:List Value}(e:ia h g es=true)(f:es.length=k)(i:∀P,P<k->b.cell? ⟨a,c+P,none⟩=es[P]?)(j:R (.agg es.toArray)):
  ot h g (.pointer (some ⟨a,c,none⟩)) b R:=KI e (λP l d=>by rw[i P (by rw[<-f];exact(Qv.1 d).1)];exact d) j
def DP{c e:Nat}{h:TypeId}{i:XU}:∀(b:List Value) (a:Nat) {P:World} {cs:Array Value},P.heap[c]? =some (.cells cs h (0,0))->e+a+b.length<=cs.size->
  (∀d,ak (·=c) P d->d.heap.size=P.heap.size->d.heap[c]? =some (.cells (Bu cs (e+a) b) h (0,0))->i d)->iB ⟨c,e,none⟩ a b P i
 |[],a,P,cs,f,j,g=>g P (ak.refl _) rfl f
 |v::b,a,P,cs,f,j,g=>by
  unfold iB;rw[Addr.add_lit];rw[Xq]at j;exact PS.mk f oM λr k l m=>DP b (a+1) m bc λn o p q=>g n (k.then o) (p.trans l) q
def TJ{cs:List Value}(d:ia h g cs=true)(e:b.heap[a]? =some (.cells p o (0,0)))(n:c+cs.length<=p.size)(f:∀P,ak (·=a) b P->P.heap.size=b.heap.size->P.heap[a]? =some (.cells (Bu p c cs) o (0,0))->x P):xC h g (.pointer (some ⟨a,c,none⟩)) (.agg cs.toArray) b x:=by
 simp only[ia,QK]at d;obtain⟨⟨⟨i,q⟩,j⟩,k⟩:=d;unfold xC;have l:Nat.beq cs.toArray.size (k_ h g)=true:=by simpa using j
 have m:cs.toArray.toList.all Value.oneCell'=true:=by simpa using k
 simp only[i,l,m];exact DP cs 0 e oM f
def aB{cs:List Value}(c:ia h g cs=true)(d:b.heap[a]? =some (.cells p o (0,0)))(e:cs.length=p.size)(f:∀P,ak (·=a) b P->P.heap.size=b.heap.size->P.heap[a]? =some (.cells cs.toArray o (0,0))->x P):xC h g (XL a) (.agg cs.toArray) b x:=
 TJ c d oM λP i j k=>f P i j (by rw[k,DO e])
end Go.aw
namespace Go.Proofs
open Go.Shelf
def Tryz.Nx:Go.Shelf.Ren:=⟨λ|6=>149|15=>207|14=>206|28=>275|29=>276|20=>267|21=>268|22=>269|23=>270|24=>271|25=>272|26=>273|27=>274|46=>306|47=>307|48=>308|49=>309|50=>310|57=>330|n=>n,λ|22=>50|24=>55|25=>249|3=>3|39=>311|0=>0|53=>357|55=>359|4=>4|46=>351|45=>350|50=>180|5=>5|9=>9|66=>386|70=>379|76=>406|77=>407|n=>n,λ|n=>n⟩
def Tryz.Sz:Go.Proofs.SlLaysF0.n6 Tryz.prog Tryz.Nx:={
 mixed:=by kernel_rfl
 f6:=⟨Tryz.f149.name,am,Tryz.func149.trans ac⟩
 f14:=⟨Tryz.f206.name,am,Tryz.func206.trans ac⟩
 f15:=Tryz.func207.trans ac
 f20:=⟨Tryz.f267.name,am,Tryz.func267.trans ac⟩
 f21:=⟨Tryz.f268.name,am,Tryz.func268.trans ac⟩
 f22:=⟨Tryz.f269.name,am,Tryz.func269.trans ac⟩
 f23:=⟨Tryz.f270.name,am,Tryz.func270.trans ac⟩
 f24:=⟨Tryz.f271.name,am,Tryz.func271.trans ac⟩
 f25:=⟨Tryz.f272.name,am,Tryz.func272.trans ac⟩
 f26:=⟨Tryz.f273.name,am,Tryz.func273.trans ac⟩
 f27:=⟨Tryz.f274.name,am,Tryz.func274.trans ac⟩
 f28:=Tryz.func275.trans ac
 f29:=Tryz.func276.trans ac
 f46:=⟨Tryz.f306.name,am,Tryz.func306.trans ac⟩
 f47:=Tryz.func307.trans ac
 f48:=Tryz.func308.trans ac
 f49:=⟨Tryz.f309.name,am,Tryz.func309.trans ac⟩
 f50:=⟨Tryz.f310.name,am,Tryz.func310.trans ac⟩
 f57:=⟨Tryz.f330.name,am,Tryz.func330.trans ac⟩
 t0:=Tryz.underlying0
 a0:=Tryz.isAgg0
 z0:=Tryz.sizeOf0
 v0:=Tryz.zeroValue0
 t3:=Tryz.underlying3
 a3:=Tryz.isAgg3
 z3:=Tryz.sizeOf3
 v3:=Tryz.zeroValue3
 t4:=Tryz.underlying4
 a4:=Tryz.isAgg4
 z4:=Tryz.sizeOf4
 v4:=Tryz.zeroValue4
 t5:=Tryz.underlying5
 a5:=Tryz.isAgg5
 z5:=Tryz.sizeOf5
 v5:=Tryz.zeroValue5
 t9:=Tryz.underlying9
 a9:=Tryz.isAgg9
 z9:=Tryz.sizeOf9
 v9:=Tryz.zeroValue9
 t22:=Tryz.underlying50
 a22:=Tryz.isAgg50
 z22:=Tryz.sizeOf50
 v22:=Tryz.zeroValue50
 t25:=Tryz.underlying249
 a25:=Tryz.isAgg249
 z25:=Tryz.sizeOf249
 v25:=Tryz.zeroValue249
 t39:=Tryz.underlying311
 a39:=Tryz.isAgg311
 z39:=Tryz.sizeOf311
 v39:=Tryz.zeroValue311
 t45:=Tryz.underlying350
 a45:=Tryz.isAgg350
 z45:=Tryz.sizeOf350
 v45:=Tryz.zeroValue350
 t46:=Tryz.underlying351
 a46:=Tryz.isAgg351
 z46:=Tryz.sizeOf351
 v46:=Tryz.zeroValue351
 t50:=Tryz.underlying180
 a50:=Tryz.isAgg180
 z50:=Tryz.sizeOf180
 v50:=Tryz.zeroValue180
 t53:=Tryz.underlying357
 a53:=Tryz.isAgg357
 z53:=Tryz.sizeOf357
 v53:=Tryz.zeroValue357
 t55:=Tryz.underlying359
 a55:=Tryz.isAgg359
 z55:=Tryz.sizeOf359
 v55:=Tryz.zeroValue359
 t66:=Tryz.underlying386
 a66:=Tryz.isAgg386
 z66:=Tryz.sizeOf386
 v66:=Tryz.zeroValue386
 t70:=Tryz.underlying379
 a70:=Tryz.isAgg379
 z70:=Tryz.sizeOf379
 v70:=Tryz.zeroValue379
 t76:=Tryz.underlying406
 a76:=Tryz.isAgg406
 z76:=Tryz.sizeOf406
 v76:=Tryz.zeroValue406
 t77:=Tryz.underlying407
 a77:=Tryz.isAgg407
 z77:=Tryz.sizeOf407
 v77:=Tryz.zeroValue407}
def Tryz.Ny:Go.Shelf.Ren:=⟨λ|6=>395|15=>207|14=>397|28=>275|29=>276|20=>398|21=>399|22=>400|23=>401|24=>402|25=>403|26=>404|27=>405|46=>406|47=>307|48=>308|49=>407|50=>408|57=>409|n=>n,λ|22=>44|24=>269|25=>451|3=>3|39=>311|0=>0|53=>357|55=>359|4=>4|46=>351|45=>350|50=>180|5=>5|9=>9|66=>386|70=>379|76=>406|77=>407|n=>n,λ|n=>n⟩
def Tryz.SA:Go.Proofs.SlLaysF0.n6 Tryz.prog Tryz.Ny:={
 mixed:=by kernel_rfl
 f6:=⟨Tryz.f395.name,am,Tryz.func395.trans ac⟩
 f14:=⟨Tryz.f397.name,am,Tryz.func397.trans ac⟩
 f15:=Tryz.func207.trans ac
 f20:=⟨Tryz.f398.name,am,Tryz.func398.trans ac⟩
 f21:=⟨Tryz.f399.name,am,Tryz.func399.trans ac⟩
 f22:=⟨Tryz.f400.name,am,Tryz.func400.trans ac⟩
 f23:=⟨Tryz.f401.name,am,Tryz.func401.trans ac⟩
 f24:=⟨Tryz.f402.name,am,Tryz.func402.trans ac⟩
 f25:=⟨Tryz.f403.name,am,Tryz.func403.trans ac⟩
 f26:=⟨Tryz.f404.name,am,Tryz.func404.trans ac⟩
 f27:=⟨Tryz.f405.name,am,Tryz.func405.trans ac⟩
 f28:=Tryz.func275.trans ac
 f29:=Tryz.func276.trans ac
 f46:=⟨Tryz.f406.name,am,Tryz.func406.trans ac⟩
 f47:=Tryz.func307.trans ac
 f48:=Tryz.func308.trans ac
 f49:=⟨Tryz.f407.name,am,Tryz.func407.trans ac⟩
 f50:=⟨Tryz.f408.name,am,Tryz.func408.trans ac⟩
 f57:=⟨Tryz.f409.name,am,Tryz.func409.trans ac⟩
 t0:=Tryz.underlying0
 a0:=Tryz.isAgg0
 z0:=Tryz.sizeOf0
 v0:=Tryz.zeroValue0
 t3:=Tryz.underlying3
 a3:=Tryz.isAgg3
 z3:=Tryz.sizeOf3
 v3:=Tryz.zeroValue3
 t4:=Tryz.underlying4
 a4:=Tryz.isAgg4
 z4:=Tryz.sizeOf4
 v4:=Tryz.zeroValue4
 t5:=Tryz.underlying5
 a5:=Tryz.isAgg5
 z5:=Tryz.sizeOf5
 v5:=Tryz.zeroValue5
 t9:=Tryz.underlying9
 a9:=Tryz.isAgg9
 z9:=Tryz.sizeOf9
 v9:=Tryz.zeroValue9
 t22:=Tryz.underlying44
 a22:=Tryz.isAgg44
 z22:=Tryz.sizeOf44
 v22:=Tryz.zeroValue44
 t25:=Tryz.underlying451
 a25:=Tryz.isAgg451
 z25:=Tryz.sizeOf451
 v25:=Tryz.zeroValue451
 t39:=Tryz.underlying311
 a39:=Tryz.isAgg311
 z39:=Tryz.sizeOf311
 v39:=Tryz.zeroValue311
 t45:=Tryz.underlying350
 a45:=Tryz.isAgg350
 z45:=Tryz.sizeOf350
 v45:=Tryz.zeroValue350
 t46:=Tryz.underlying351
 a46:=Tryz.isAgg351
 z46:=Tryz.sizeOf351
 v46:=Tryz.zeroValue351
 t50:=Tryz.underlying180
 a50:=Tryz.isAgg180
 z50:=Tryz.sizeOf180
 v50:=Tryz.zeroValue180
 t53:=Tryz.underlying357
 a53:=Tryz.isAgg357
 z53:=Tryz.sizeOf357
 v53:=Tryz.zeroValue357
 t55:=Tryz.underlying359
 a55:=Tryz.isAgg359
 z55:=Tryz.sizeOf359
 v55:=Tryz.zeroValue359
 t66:=Tryz.underlying386
 a66:=Tryz.isAgg386
 z66:=Tryz.sizeOf386
 v66:=Tryz.zeroValue386
 t70:=Tryz.underlying379
 a70:=Tryz.isAgg379
 z70:=Tryz.sizeOf379
 v70:=Tryz.zeroValue379
 t76:=Tryz.underlying406
 a76:=Tryz.isAgg406
 z76:=Tryz.sizeOf406
 v76:=Tryz.zeroValue406
 t77:=Tryz.underlying407
 a77:=Tryz.isAgg407
 z77:=Tryz.sizeOf407
 v77:=Tryz.zeroValue407}
def Tryz.KG:Go.Shelf.Ren:=⟨λ|5=>298|7=>329|n=>n,λ|23=>286|25=>3|3=>269|4=>4|20=>20|n=>n,λ|n=>n⟩
def Tryz.Tu:Go.Proofs.SlLaysW.n5 Tryz.prog Tryz.KG:={
 mixed:=by kernel_rfl
 f5:=⟨Tryz.f298.name,am,Tryz.func298.trans ac⟩
 f7:=Tryz.func329.trans ac
 t4:=Tryz.underlying4
 a4:=Tryz.isAgg4
 z4:=Tryz.sizeOf4
 v4:=Tryz.zeroValue4
 t20:=Tryz.underlying20
 a20:=Tryz.isAgg20
 z20:=Tryz.sizeOf20
 v20:=Tryz.zeroValue20
 t23:=Tryz.underlying286
 a23:=Tryz.isAgg286
 z23:=Tryz.sizeOf286
 v23:=Tryz.zeroValue286}
end Go.Proofs
namespace Go.Proofs.YtblabbpipmodgaaGreatDoor
open Go.aw Go.Sort
def aZ(P:aj)(a:ZH)(b c:Nat):ia XP 55 (aD P a b c)=true:=kR
def qN(P:aj)(a:ZH)(b c:Nat):Qh (ft XP 55) (.agg (aD P a b c).toArray)=true:=kR
def G(P a:World):Prop:=∃b c,a=grow (P.drewN b) c
variable{S e q:Int}{d5:Int×Int}{h0:List ((Int×Int)×aj)}{C e0:List aj}{a c i n:Nat}{f:XN}{c8:Obj}{d r:ZH}{g:TypeId}{a8 b k:World}{x:XU}{M m:aj}{A:au}
def G.then(e:G b k)(f:G k a8):G b a8:=by
 obtain⟨P,a,rfl⟩:=e;obtain⟨c,d,rfl⟩:=f;exact⟨P+c,a++d,by show grow (grow ((b.drewN P).drewN c) a) d=_;rw[grow_grow,World.drewN_drewN]⟩
def G.af{S:XN}(P:G b k):ak S b k:=by
 obtain⟨e,a,rfl⟩:=P;refine⟨rfl,rfl,rfl,by simp[grow],λc d _=>?_⟩;show(b.heap++a)[c]? =_;rw[Array.getElem?_append_left d]
def G.drew(P:bQ b k):G b k:=by obtain⟨a,rfl⟩:=P;exact⟨a,#[],sM⟩
def PA.UK(a:∀P,G b P->P.heap.size=b.heap.size+1->P.heap[b.heap.size]? =some c8->x P):PA b c8 x:=
 a (b.alloc c8) ⟨0,#[c8],by rw[alloc_eq_grow];rfl⟩ sM (heap_alloc_new b c8)
def isNaN:ZG 277 #[XH e] b (Ok λP a=>P= .bool false/\b=a):=yf (Ok.mk ⟨sM,rfl⟩)
def Ix(P a:Int):Int:=if P<a then-1 else if a<P then 1 else 0
def f_:ZG 209 #[XH e,XH q] b (Ok λc d=>c= XH (Ix e q)/\b=d):=by
 refine tV (PC.ok isNaN ?_);rintro _ _ ⟨rfl,rfl⟩;refine⟨_,rfl,PC.ok isNaN ?_⟩;rintro _ _ ⟨rfl,rfl⟩;refine⟨_,rfl,an.ff rfl (an.ff rfl (an.dec (λP=>Ok.mk ⟨by unfold Ix;rw[Zx P],rfl⟩) (λP=>an.dec (λa=>Ok.mk ⟨by unfold Ix;rw[Zq P,Zx a],rfl⟩) (λa=>Ok.mk ⟨by unfold Ix;rw[Zq P,Zq a],rfl⟩))))⟩
def LO:List Int->Int
 |[]=>0
 |x::P=>if x≠0 then x else LO P
def NV(r:b.heap[a]? =some (.cells #[XH e,XH q,XH S] g (0,0))):
  ZG 208 #[.slice (XM a) 3 3] b (Ok λi f=>i= XH (LO [e,q,S])/\b=f):=by
 refine EC ⟨λl d f=>∃P:Nat,d=P/\P<=3/\l=3-P/\LO [e,q,S]=LO ([e,q,S].drop P)/\b=f,⟨_,0,rfl,oM,rfl,rfl,rfl⟩,?_⟩;rintro l d _ _ ⟨P,rfl,w,rfl,j,rfl⟩;refine an.dec (λs=>?_) (λs=>?_)
 ·have t:∀h:Int,[e,q,S][P]? =some h->∃m n,(XM a:ZH)=some ⟨m,n,none⟩/\(0:Int)<=P/\(P:Int)<((3:Nat):Int)/\∃k:Int,b.cell? ⟨m,n+Int.toNat P,none⟩=some (XH k)/\an (k !=0) (Ok (λi f=>i= XH (LO [e,q,S])/\b=f) (.returned (XH k)) b) (∃o,o<3-P/\∃d:Nat,XG .i64 ((P:Int)+1)=d/\d<=3/\o=3-d/\LO [e,q,S]=LO ([e,q,S].drop d)/\b=b):=by
   intro h c;have p:[e,q,S].drop P=h::[e,q,S].drop (P+1):=by
    rw[X4 bc];congr 1;simpa using(Qv.1 c).2
   refine⟨a,0,rfl,oM,oM,h,ae r ?_,an.dI (λu=>Ok.mk ⟨?_,rfl⟩) (λv=>⟨_,oM,P+1,aq oM,oM,rfl,?_,rfl⟩)⟩
   ·rw[Xz]
    match P,c with
    |0,c=>simp at c;simp[c]
    |1,c=>simp at c;simp[c]
    |2,c=>simp at c;simp[c]
    |P+3,c=>simp at c
   ·rw[j,p,LO,Zx u]
   ·rw[j,p,LO,Zq (by simpa using v)]
  have c:P<[e,q,S].length:=by simp;omega
  exact t [e,q,S][P] (by simp[c])
 ·obtain rfl:P=3:=oM
  exact Ok.mk ⟨by rw[j];rfl,rfl⟩
def Gq(P a:aj):LO [Ix P.aA a.aA,Ix P.origin a.origin,Ix P.seq a.seq]=ru P a:=by
 unfold ru eu Ix LO LO LO LO
 by_cases e:P.aA<a.aA
 ·simp[e]
 by_cases h:a.aA<P.aA
 ·simp[e,h];omega
 have b:P.aA=a.aA:=oM
 by_cases f:P.origin<a.origin
 ·simp[b,f]
 by_cases i:a.origin<P.origin
 ·simp[b,f,i];omega
 have c:P.origin=a.origin:=oM
 by_cases d:P.seq<a.seq
 ·simp[b,c,d]
 by_cases g:a.seq<P.seq
 ·simp[b,c,d,g]
 ·simp[b,c,d,g]
def Br:ZG 150 #[.agg (aD m d a c).toArray,.agg (aD M r i n).toArray] b (Ok λj k=>j= XH (ru m M)/\G b k):=by
 refine vH (PA.UK λt l u o=>PA.UK λv g w p=>λx q=>⟨λ_=>False,?_⟩);have P:=G.drew q;have e:=(P.af (S:=λ_=>False)).get ((g.af (S:=λ_=>False)).get o id) id;have f:=(P.af (S:=λ_=>False)).get p id;refine⟨_,ae e rfl,_,ae f rfl,id,_,ae e rfl,id,_,ae f rfl,id,_,ae e rfl,id,_,ae f rfl,PC.ok f_ ?_⟩;rintro _ _ ⟨rfl,rfl⟩;refine⟨_,rfl,ak.refl _,PC.ok f_ ?_⟩;rintro _ _ ⟨rfl,rfl⟩;refine⟨_,rfl,ak.refl _,PC.ok f_ ?_⟩;rintro _ _ ⟨rfl,rfl⟩;refine⟨_,rfl,ak.refl _,PA.UK λy h z s=>⟨h.af,PC.ok (NV s) ?_⟩⟩;rintro _ _ ⟨rfl,rfl⟩;exact⟨_,rfl,ak.refl _,Ok.mk ⟨by rw[Gq],((l.then g).then P).then h⟩⟩
structure PR where
 e:aj
 a:ZH
 n:Nat
 c:Nat
instance:Inhabited PR:=⟨⟨⟨0,0,0,[],0,0,0,0,0,0⟩,none,0,0⟩⟩
def encS(P:PR):List Value:=aD P.e P.a P.n P.c
def PT(a:PR):∀b∈encS a,b.oneCell'=true:=by
 intro c P;simp only[encS,aD,Q2,List.not_mem_nil,or_false]at P;rcases P with rfl|rfl|rfl|rfl|rfl|rfl|rfl|rfl|rfl|rfl<;>rfl
def yJ(P a:PR):ltOf (λP a:PR=>ru P.e a.e) P a=eu P.e a.e:=by
 unfold ltOf ru
 cases b:eu P.e a.e
 ·cases c:eu a.e P.e<;>simp[b,c]
 ·simp[b]
def iJ:eu m M=true↔m.aA<M.aA\/m.aA=M.aA/\(m.origin<M.origin\/m.origin=M.origin/\m.seq<M.seq):=by simp[eu]
def tr:eu m M=false↔¬(m.aA<M.aA\/m.aA=M.aA/\(m.origin<M.origin\/m.origin=M.origin/\m.seq<M.seq)):=by rw[<-iJ];simp
def UL:SWO (ltOf λP a:PR=>ru P.e a.e) where
 irrefl P:=by rw[yJ,tr];omega
 trans P a z h1 h2:=by rw[yJ,iJ]at*;omega
 ntrans P a z h1 h2:=by rw[yJ,tr]at*;omega
def Iy{d:World}{D:XN}:∀{b:List aj} {cs:List Value},bJ h_ d D b cs->∃a:List PR,a.map (·.e)=b/\cs=a.flatMap encS/\∀P∈a,Row aM 8 d D P.a P.n P.e.aQ/\P.e.Ok
 |[],_,f=>⟨[],rfl,f,sM⟩
 |e::b,_,⟨r,s,g,⟨h,i,j,k,l,m⟩,n⟩=>by
  obtain⟨a,o,p,q⟩:=Iy n;refine⟨⟨e,h,i,j⟩::a,by simp[o],by rw[g,k,p];rfl,?_⟩;intro P c;rcases Q2.1 c with rfl|c
  ·exact⟨l,m⟩
  ·exact q P c
def xr{b:World}{D:XN}:∀{P:List PR},(∀x∈P,Row aM 8 b D x.a x.n x.e.aQ/\x.e.Ok)->bJ h_ b D (P.map (·.e)) (P.flatMap encS)
 |[],_=>rfl
 |x::P,a=>⟨encS x,P.flatMap encS,rfl,⟨x.a,x.n,x.c,rfl,(a x (QV ..)).1,(a x (QV ..)).2⟩,xr λc d=>a c (QJ _ d)⟩
def qw{P:List PR}(b:a<P.length*10):(P.flatMap encS)[a]? =(encS P[a/10]!)[a % 10]? :=by
 induction P generalizing a with
 |nil=>simp at b
 |cons e P f=>
  have g:(encS e).length=10:=rfl;rw[List.flatMap_cons]
  by_cases c:a<10
  ·rw[XW oM,Nat.div_eq_of_lt c,Nat.mod_eq_of_lt c];rfl
  ·rw[X8 oM,g,f (by simp at b;omega)]
   obtain⟨d,rfl⟩:∃d,a=d+10:=⟨a-10,oM⟩
   rw[Nat.add_sub_cancel,Nat.add_div_right _ dC,Nat.add_mod_right];simp
def gv(P:List PR):(P.flatMap encS).length=P.length*10:=by
 induction P with
 |nil=>rfl
 |cons a P b=>rw[List.flatMap_cons,QX,b];have c:(encS a).length=10:=rfl;rw[c];simp;omega
def Bs(P:List PR):(flatK encS 10 P.toArray).toList=P.flatMap encS:=by
 apply X3;intro a
 by_cases b:a<P.length*10
 ·rw[qw b]
  have e:a<(flatK encS 10 P.toArray).size:=by simpa using b
  have c:=get_flatK encS 10 P.toArray a (by simpa using b);rw[getElem!_pos _ a e]at c;have f:(encS P[a/10]!).length=10:=rfl;have d:a % 10<(encS P[a/10]!).length:=by rw[f];omega
  rw[Qq (by simpa using b),Qq d]
  congr 1
  rw[Array.getElem_toList,c];rw[getElem!_pos _ _ (by simpa using d)]
  congr 1
  simp
 ·rw[Q7 (by simpa using b),Q7 (by rw[gv];omega)]
def Bq(P:List aj):Prop:=P.Pairwise λa b=>eu b a=false
def Iu(m:aT h_ 55 f b d a c C)(t:C.length<=20000000):
  ZG 149 #[.slice d a c,.func (.func 150) #[] #[]] b (Ok λM u=>M= .tuple #[]/\∃A,A.Perm C/\Bq A/\aT h_ 55 f u d a c A/\ak (λn=>aI d=some n) b u):=by
 obtain⟨cs,D,B,Z,N⟩:=m.body;obtain⟨e,E,rfl,a4⟩:=Iy Z;have F:=m.len dC;have v:e.length=a:=by rw[F,<-E];simp
 rcases B.cases with⟨rfl,rfl,rfl,h0⟩|⟨h,j,rfl,w,O,H,Q⟩
 ·have hd:e=[]:=QW v
  refine(AnyF.slices_SortFunc_none Tryz.Sz none 0 _ b).mono ?_;rintro p u ⟨rfl,rfl⟩;exact Ok.mk ⟨rfl,C,List.Perm.refl _,by rw[<-E,hd];exact List.Pairwise.nil,m,ak.refl _⟩
 ·have R:h_.k=10:=rfl
  rw[R]at Q H;have a5:flatK encS 10 e.toArray=(e.flatMap encS).toArray:=by rw[<-Bs]
  have hH:HoldsK encS 10 b h 0 e.toArray:=by
   intro k q;rw[size_flatK]at q;simp only[List.size_toArray]at q;have S:k<(e.flatMap encS).length:=by rw[gv];exact q
   refine⟨?_,by simp[World.frozen?,w]⟩;have l:(flatK encS 10 e.toArray)[k]! =(e.flatMap encS)[k]:=by
    rw[a5,getElem!_pos _ k (by simpa using S)];simp
   rw[l,Xz];refine ae w ?_;have i:(j.toList.take (a*10))[k]? =some (e.flatMap encS)[k]:=by rw[Q];exact Qq S
   rw[Xw,Zx oM]at i;simpa using i
  have t:=B.row;have I:c<=maxLen:=by
   obtain⟨_,a0,_,T,_,_,_,I,_⟩:=B.row.2.resolve_left (by rintro⟨m,_⟩;cases m);simp only[XX]at T;rw[T.2.2];exact I
  have a6:e.toArray.size<4611686018427387904:=by
   simp only[List.size_toArray,v];omega
  have U:=AnyQ.slices_SortFunc Tryz.Sz 10 (λb=>cU _ _ _ kR ⟨_,Tryz.underlying55⟩ b) (λb=>Tryz.sizeOf55 b) encS (λ_=>rfl) PT (λx V=>ru x.e V.e) UL 150 #[] h 0 c e.toArray b
   (enters_of Tryz.func150 kR rfl) (λb0 r dk b1 x V=>(Br).mono ?_) hH (ay w) a6
  ·rw[show e.toArray.size=a by simpa using v]at U
   refine U.mono ?_;rintro p u ⟨rfl,g,y,r,hp,hs,rfl⟩;obtain⟨p1,p2,W⟩:=hp;have P:g.size=a:=p1.trans (by simpa using v);have X:g.toList.Perm e:=by
    have l:g.extract 0 a=g:=by rw[<-P];exact Array.extract_size
    have i:e.toArray.extract 0 a=e.toArray:=by rw[show a=e.toArray.size by simpa using v.symm];exact Array.extract_size
    rw[l,i]at W;exact W
   have a1:flatK encS 10 g=(g.toList.flatMap encS).toArray:=by rw[<-Bs]
   have J:(sortWorldK encS 10 b h 0 y g r).heap[h]? =some (.cells (putCells id 0 (flatK encS 10 g) j) 55 (0,0)):=by
    have a7:=ay w;show((Sort.ahead b y).heap.modify h _++r)[h]? =_;rw[Array.getElem?_append_left (by simpa[Sort.ahead]using a7),Array.getElem?_modify,Zx rfl];show Option.map _ b.heap[h]? =_;rw[w];rfl
   have z:ak (λn=>aI (XM h)=some n) b (sortWorldK encS 10 b h 0 y g r):=by
    refine⟨rfl,rfl,rfl,?_,λa2 z F=>?_⟩
    ·show b.heap.size<=((Sort.ahead b y).heap.modify h _++r).size
     simp[Sort.ahead]
    ·show((Sort.ahead b y).heap.modify h _++r)[a2]? =_
     rw[Array.getElem?_append_left (by simpa[Sort.ahead]using z),Array.getElem?_modify,Zq (λp=>F (by rw[p];rfl))]
     rfl
   have a3:(putCells id 0 (flatK encS 10 g) j).size=c*10:=by unfold putCells;rw[Array.size_mapIdx];exact H
   refine Ok.mk ⟨rfl,g.toList.map (·.e),by rw[<-E];exact X.map _,?_,⟨⟨g.toList.flatMap encS,D,⟨⟨?_,.inr ⟨h,c,_,rfl,Qj _,J,O,I,a3,?_⟩⟩⟩,xr λx hx=>?_,N⟩,m.self,λn t=>Qk (m.aF n t) z.size⟩,z⟩
   ·unfold Bq
    rw[List.pairwise_map,List.pairwise_iff_getElem];intro Y k hi q a8;have l:=hs Y k (Qj _) a8 (by simpa[P]using q);rw[yJ,getElem!_pos _ k (by simpa using q),getElem!_pos _ Y (by simpa using hi)]at l;simpa using l
   ·rw[gv,XK,P];rfl
   ·apply X3
    intro s;rw[R,Xw];split
    ·rename_i o
     rw[qw (by rw[XK,P];exact o),<-qw (by rw[XK,P];exact o)];unfold putCells;have a9:s<j.size:=by rw[H];exact Qk o (Q0 _ O)
     rw[Array.getElem?_toList,Array.getElem?_mapIdx,X6 a9];simp only[Option.map_some];have K:s<(flatK encS 10 g).size:=by rw[size_flatK,P];exact o
     rw[Zx ⟨Qj _,by rw[Xz];exact K⟩,Nat.sub_zero,getElem!_pos _ s K];have:(flatK encS 10 g)[s]=(g.toList.flatMap encS)[s]'(by rw[gv,XK,P];exact o):=by
      have i:=Zj (·[s]?) a1;simp only[List.getElem?_toArray]at i;rw[X6 K,Qq (by rw[gv,XK,P];exact o)]at i;exact XJ i
     rw[this];exact(Qq _).symm
    ·rename_i o
     rw[Q7 (by rw[gv,XK,P];omega)]
   ·have L:x∈e:=X.mem_iff.1 hx
    obtain⟨l,i⟩:=a4 x L;exact⟨l.af z λn t p=>(N n t).2 p,i⟩
  ·rintro p u ⟨M,rfl,rfl,hG⟩
   exact⟨rfl,hG⟩
open Go.aw
abbrev SF(P:List aj):Prop:=P.Pairwise λa b=>eu a b=true
structure au.OK (S:au):Prop where
 n:S.n<=64
 NW:SF S.l
 ids:(S.l.map bd).Nodup
 US:∀e∈S.l,cW e S.n=0
 ok:∀e∈S.l,e.Ok
def Ee(a:bd m≠bd M):eu m M=true\/eu M m=true:=by
 rw[iJ,iJ];have:¬(m.origin=M.origin/\m.seq=M.seq):=λP=>a (by unfold bd;rw[P.1,P.2]);omega
def sh{P a b:aj}(c:eu P a=true)(d:eu a b=true):eu P b=true:=by rw[iJ]at*;omega
def lY(P:eu m M=true):eu M m=false:=by rw[iJ]at P;rw[tr];omega
def dj(a:aj):∀P,(dw a P).Perm (a::P)
 |[]=>List.Perm.refl _
 |x::P=>by
  unfold dw;split
  ·exact List.Perm.refl _
  ·exact(List.Perm.cons x (dj a P)).trans (List.Perm.swap a x P)
def vm{d:aj}:∀{a},SF a->(∀x∈a,bd x≠bd d)->SF (dw d a)
 |[],_,_=>by unfold dw;exact List.pairwise_singleton ..
 |x::a,e,f=>by
  obtain⟨g,h⟩:=List.pairwise_cons.1 e;unfold dw;split
  ·rename_i c
   exact List.pairwise_cons.2 ⟨λb P=>by
    rcases Q2.1 P with rfl|P
    ·exact c
    ·exact sh c (g b P),e⟩
  ·rename_i c
   refine List.pairwise_cons.2 ⟨λb P=>?_,vm h λb P=>f b (QJ _ P)⟩;rcases Q2.1 ((dj d a).mem_iff.1 P)with rfl|P
   ·exact(Ee (f x (QV ..))).resolve_right (by simpa using c)
   ·exact g b P
def KF(g:Bq C)(i:SF e0)(c:C.Perm e0)(j:(C.map bd).Nodup):C=e0:=by
 refine c.eq_of_pairwise (le:=λa P=>eu P a=false) (λa P k l d e=>?_) g (i.imp λh=>lY h)
 by_cases f:bd a=bd P
 ·have b:P∈C:=c.mem_iff.2 l
  obtain⟨o,m,rfl⟩:=List.getElem_of_mem k;obtain⟨p,n,rfl⟩:=List.getElem_of_mem b;have:=(List.getElem_inj (xs:=C.map bd) (h₀:=by simpa using m) (h₁:=by simpa using n) j).1 (by simpa using f);subst this;rfl
 ·rcases Ee f with h|h
  ·rw[h]at e;cases e
  ·rw[h]at d;cases d
def RT(a:(C.map bd).Nodup)(P:m∈C):C.find? (λb=>bd b==bd m)=some m:=by
 induction C with
 |nil=>cases P
 |cons b C c=>
  simp only[QY,List.nodup_cons]at a;rcases Q2.1 P with rfl|P
  ·simp
  ·have d:bd b≠bd m:=λe=>a.1 (e▸Xk.2 ⟨m,P,rfl⟩)
   rw[List.find?_cons_of_neg (by simpa using d)];exact c a.2 P
def au.get_some(P:A.get d5=some m):m∈A.l/\bd m=d5:=
 ⟨List.mem_of_find?_eq_some P,by simpa using List.find?_some P⟩
def au.get_none(a:A.get d5=none):∀P∈A.l,bd P≠d5:=λP b=>by
 have:=List.find?_eq_none.1 a P b;simpa using this
def au.OK.get(P:A.OK)(a:m∈A.l):A.get (bd m)=some m:=RT P.ids a
def It(h:A.OK)(d:∀P∈h0,P.1=bd P.2)(e:(h0.map (·.2)).Perm A.l)(l:Tidy h0)(a:Int×Int):az h0 a=A.get a:=by
 cases b:az h0 a with
 |none=>
  rw[qG]at b
  symm
  refine List.find?_eq_none.2 λc i=>?_;obtain⟨P,f,rfl⟩:=Xk.1 (e.mem_iff.2 i);intro j;exact b (Xk.2 ⟨P,f,by rw[d P f];simpa using j⟩)
 |some c=>
  have g:=bW b;have k:a=bd c:=d _ g;have:c∈A.l:=e.mem_iff.1 (Xk.2 ⟨_,g,rfl⟩);rw[k,h.get this]
def wD(a:List aj)(P:Int):a.foldl (λP b=>max P b.aA) P=max P (a.foldl (λP b=>max P b.aA) 0)\/P<0:=by
 induction a generalizing P with
 |nil=>simp;omega
 |cons c a d=>
  rw[List.foldl_cons,List.foldl_cons]
  by_cases f:P<0
  ·exact .inr f
  ·rcases d (max P c.aA)with h|h
   ·rcases d (max 0 c.aA)with e|e
    ·left;rw[h,e];omega
    ·omega
   ·omega
def au.RQ(P:au)(a:aj):au.top ⟨P.n,dw a P.l⟩=max P.top a.aA:=by
 show(dw a P.l).foldl _ _=_;rw[(dj a P.l).foldl_eq' (λb _ c _ d=>oM),List.foldl_cons];rcases wD P.l (max 0 a.aA)with h|h
 ·rw[h]
  show max (max 0 a.aA) P.top=_;have:0<=P.top:=by
   rcases wD P.l 0 with h|h
   ·unfold au.top;omega
   ·omega
  omega
 ·omega
def au.Kr(P:au):0<=P.top:=by
 rcases wD P.l 0 with h|h
 ·unfold au.top;omega
 ·omega
def qz(P:cW m a=0):0<=m.origin/\m.origin<a/\1<=m.seq/\1<=m.aA/\0<=m.agg/\0<=m.key/\m.aQ.length=a/\(∀b∈m.aQ,0<=b)/\m.aQ.getD m.origin.toNat 0=om (m.seq-1)/\1<=m.op/\m.op<=5/\0<=m.aX/\m.aX<8/\0<=m.field/\m.field<8:=by
 unfold cW at P;split at P
 ·simp at P
 ·rename_i c
  split at P
  ·simp at P
  ·rename_i d
   split at P
   ·simp at P
   ·rename_i h
    split at P
    ·simp at P
    ·rename_i i
     simp only[not_or,List.any_eq_true,Zk,not_exists,not_and]at c;obtain⟨j,k,l,b,n,e⟩:=c;refine⟨oM,oM,oM,oM,oM,oM,oM,λf g=>by have:=e f g;omega,by simpa using d,oM,oM,oM,oM,oM,oM⟩
def au.El(P:au)(a:aj)(b:Nat):au.Ek ⟨P.n,dw a P.l⟩ b=P.Ek b+if a.origin=(b:Int)then 1 else 0:=by
 unfold au.Ek;show(dw a P.l).countP _=_;rw[(dj a P.l).countP_eq,List.countP_cons]
 congr 1
 simp
def au.Pz(P:au)(a:Nat):P.Ek a<=P.l.length:=List.countP_le_length
def au.bN(P:au):P.vec.length=P.n:=by simp[au.vec]
def au.nP(P:au)(b:a<P.n):P.vec[a]? =some (P.Ek a:Int):=by simp[au.vec,b]
def au.tD(S:au)(P:a<S.n):S.vec.getD a 0=(S.Ek a:Int):=by rw[QQ,S.nP P];rfl
def au.RR(P:au)(c:aj)(f:c.origin=(a:Int)):au.vec ⟨P.n,dw c P.l⟩=P.vec.set a (P.Ek a+1:Int):=by
 apply X3;intro d
 by_cases b:d<P.n
 ·rw[au.nP ⟨P.n,dw c P.l⟩ b,au.El,Xj,P.nP b,P.bN]
  by_cases e:a=d
  ·subst e;simp[f,b]
  ·rw[Zq e,Zq oM];simp
 ·rw[Q7 (by rw[au.bN];exact Nat.le_of_not_lt b),Q7 (by rw[List.length_set,P.bN];omega)]
def au.add_def(P:au)(a:aj):P.add a=if cW a P.n≠0 then(cW a P.n,P)else if(P.get (bd a)).isSome then(16,P)else
 if a.seq≠(P.vec.getD a.origin.toNat 0)+1 then(9,P)else if(List.range P.n).any λb=>!P.lv a b then(9,P)else(0,⟨P.n,dw a P.l⟩):=rfl
def au.yR(P:A.OK)(g:m.Ok):(A.add m).2.OK/\(A.add m).2.n=A.n:=by
 rw[au.add_def]
 by_cases c:cW m A.n=0
 rotate_left
 ·rw[Zx c];exact⟨P,rfl⟩
 rw[Zq (by simpa using c)]
 by_cases d:(A.get (bd m)).isSome=true
 ·rw[Zx d];exact⟨P,rfl⟩
 rw[Zq d];split
 ·exact⟨P,rfl⟩
 split
 ·exact⟨P,rfl⟩
 have f:A.get (bd m)=none:=by simpa using d
 have e:=dj m A.l;refine⟨⟨P.n,vm P.NW (au.get_none f),?_,?_,?_⟩,rfl⟩
 ·refine(e.map bd).nodup_iff.2 ?_
  rw[QY,List.nodup_cons];exact⟨λh=>by obtain⟨b,a,i⟩:=Xk.1 h;exact au.get_none f b a i,P.ids⟩
 ·intro b a
  rcases Q2.1 (e.mem_iff.1 a)with rfl|a
  ·exact c
  ·exact P.US b a
 ·intro b a
  rcases Q2.1 (e.mem_iff.1 a)with rfl|a
  ·exact g
  ·exact P.ok b a
def au.se(P:a<=64):au.OK ⟨a,[]⟩:=⟨P,List.Pairwise.nil,sM,sM,sM⟩
end Go.Proofs.YtblabbpipmodgaaGreatDoor
namespace Go.aw
open Go
def wu(P:List Int):List UInt8:=bT ((P.length:Int)::P)
def cZ(P:List Int):List UInt8:=fS 2 (wu P)
def nJ(P:List UInt8):List Int×lG:=bk (cg 64 ⟨P,0,0⟩).1.toNat (cg 64 ⟨P,0,0⟩).2
def jg(P:List UInt8):Option (List Int):=
 if(bw P).no≠0\/(bw P).n≠P.length\/(bw P).kind≠2 then none else if jZ (nJ (bw P).body).2≠0 then none else some (nJ (bw P).body).1
def Dw(P:List UInt8):(∀a∈(nJ P).1,aN a)/\(nJ P).1.length<=64/\(nJ P).2.Fit:=by
 obtain⟨b,f,g,h⟩:=lG.Fit.count (r:=⟨P,0,0⟩) ⟨Qj _,.inl rfl⟩ (m:=64) oM;obtain⟨c,d,e,i⟩:=b.ints (cg 64 ⟨P,0,0⟩).1.toNat;exact⟨d,by show(bk _ _).1.length<=64;rw[e];omega,c⟩
variable{t:List Int}{w:List UInt8}
def MW(P:jg w=some t):(∀a∈t,aN a)/\t.length<=64:=by
 unfold jg at P;split at P
 ·cases P
 split at P
 ·cases P
 ·cases P
  exact⟨(Dw _).1,(Dw _).2.1⟩
def Du(b:∀P∈t,aN P)(c:t.length<=64):(wu t).length<=585:=by
 have:=fu (l:=(t.length:Int)::t) (by
  intro P a;rcases Q2.1 a with rfl|a
  ·unfold aN;omega
  ·exact b P a)
 unfold wu;rw[Xq]at this;omega
def AU(P:List Int):(cZ P).length=(wu P).length+9:=kh _ _
end Go.aw
namespace Go.Proofs.YtblabbpipmodgaaGreatDoor
open Go.aw
def SQ(a:Int)(P:cm):Int:=P.synced+max 0 (min a ((P.bytes.length:Int)-P.synced))
def EG(a:Int)(P:cm):cm:=P.cut (SQ a P)
def al.Ah(D:al)(a:Int):al:={D with files:=(D.files.filter λP=>P.2.jV).map (λP=>(P.1,EG a P.2)),iN:=false,dead:=false}
def al.Ha(D:al)(P:List (ByteArray×cm)):al:=⟨D.most,P,D.iN,D.left,D.dead⟩
def al.gh(D:al):al:={D with files:=D.files.filter λP=>P.2.jV}
def Cc(P:List (ByteArray×cm))(a:ByteArray×cm->Bool):eA (P.filter a)<=eA P:=by
 unfold eA
 induction P with
 |nil=>simp
 |cons b P c=>
  rw[List.filter_cons];split
  ·simp;omega
  ·simp;omega
variable{v:ByteArray}{e:Int}{f8:List ByteArray}{t:List Int}{C e0:List aj}{a c i n:Nat}{a4 f:XN}{d r:ZH}{j:Type}{b:World}{M m:aj}
def wT{P:List (ByteArray×j)}(a:Tidy P)(b:ByteArray×j->Bool):Tidy (P.filter b):=List.Nodup.sublist (List.Sublist.map _ List.filter_sublist) a
def al.Ok.gh{D:al}(P:D.Ok):D.gh.Ok:=by
 have d:=Cc D.files λa=>a.2.jV;have c:=P.fits;have e:=List.length_filter_le (λa:ByteArray×cm=>a.2.jV) D.files;have f:=P.many;unfold al.used at c;exact⟨P.most,by show eA (D.files.filter _)<=D.most;omega,by show(D.files.filter _).length<=64;omega,wT P.tidy _,λa b=>P.names a (List.mem_filter.1 b).1,λa b=>P.Qf a (List.mem_filter.1 b).1,P.Ac,P.Ad⟩
def Ow{a:List (ByteArray×j)}(c:Tidy a){l f:ByteArray×j->j}{u m:j}(g:(v,u)∈a)(i:∀b∈a,b.1≠v->f b=l b)(p:f (v,u)=m):
  aK (a.map λP=>(P.1,l P)) v m=a.map λP=>(P.1,f P):=by
 induction a with
 |nil=>cases g
 |cons q a n=>
  obtain⟨P,b⟩:=q;unfold Tidy at c n;simp only[QY,List.nodup_cons]at c;simp only[QY];unfold aK
  by_cases h:(v==P)=true
  ·have r:v=P:=eq_of_beq h
   subst r;have s:b=u:=by
    rcases Q2.1 g with h|h
    ·cases h;rfl
    ·exact Zz (Xk.2 ⟨_,h,rfl⟩) c.1
   subst s;rw[Zx h,p]
   congr 1
   refine List.map_congr_left λd e=>?_;rw[i d (QJ _ e) λk=>c.1 (Xk.2 ⟨d,e,k⟩)]
  ·have o:P≠v:=λk=>h (by rw[k];simp)
   rw[Zq h,i (P,b) (QV ..) o]
   congr 1
   refine n c.2 ?_ λd e=>i d (QJ _ e);rcases Q2.1 g with H|H
   ·cases H;exact Zz rfl o
   ·exact H
def rp(a:Int)(left:List (ByteArray×mC))(P:ByteArray×cm):cm:=if left.any (λb=>b.1==P.1)then P.2 else EG a P.2
def Jw{D:al}(h:aU b a f D)(e4:aN e):
  ZG 61 #[XL a,XH e] b (Ok λS t=>∃q,S= .tuple #[]/\aU t a q (D.Ah e)/\cK f b q t):=by
 obtain⟨u,x,k⟩:=h.open;have e5:x.filter (λP=>P.2.f.jV)=x.filter (λP=>P.2.f.jV):=rfl;refine sD ⟨a,0,rfl,some u,ae k.head rfl,PC.ok (yl k.map k.each λP l c j=>(k.GW P l c j).2.2) ?_⟩;rintro _ v ⟨rfl,c0,B⟩;have c1:∀c,c=u->f c:=λc n=>n▸k.Fr;have r:eT v a f D.gh u (x.filter λP=>P.2.f.jV):=by
  have C:∀P∈x.filter (λP=>P.2.f.jV),P∈x:=λP l=>(List.mem_filter.1 l).1;refine⟨B.get k.head (λn=>k.pr n),c0,?_,⟨λP l=>(k.each.each P (C P l)).af B λc j=>(k.GW P (C P l) c j).2.2,λP l d o=>k.each.apart P (C P l) d (C d o),wT k.each.tidy _⟩,λP l=>k.GW P (C P l),k.Fr,k.pr,k.self,λc j=>Qk (k.aF c j) B.size,k.ok.gh⟩;show D.files.filter _=_;rw[k.files,List.filter_map]
  rfl
 generalize e6:x.filter (λP=>P.2.f.jV)=p at r;have c2:∀P∈p,∀c,P.2.G c->c<v.heap.size:=λP l c j=>(r.each.each P l).aF c j;refine⟨rfl,a,0,rfl,some u,ae r.head rfl,mapRange mF r.map λw2 hR T s2=>?_⟩;have c3:Tidy D.gh.files:=r.ok.tidy;have c4:∀d∈p,uj d∈D.gh.files:=λd o=>by rw[r.files];exact Xk.2 ⟨d,o,rfl⟩
 have a5:cK f b f w2:=⟨((B.mono λc _ j=>c1 c j)).ah T,λ_ h=>.inl h⟩
 refine⟨λU t=>∃(left s:List (ByteArray×mC)) (q:XN),cO t v.heap.size u Value.string (p.map dX) (left.map dX)/\U=left.length/\eT t a q (D.gh.Ha (D.gh.files.map λi=>(i.1,rp e left i))) u s/\s.map dX=p.map dX/\
   cK f b q t/\(∀P∈left,P∈p/\az s P.1=some P.2)/\Tidy left/\v.heap.size<t.heap.size/\¬q v.heap.size,
  ⟨_,p,p,f,hR,rfl,?_,rfl,a5,λP l=>⟨l,pH r.each.tidy l⟩,r.each.tidy,oM,λj=>by have:=r.aF _ j;omega⟩,?_⟩
 ·have n:(D.gh.files.map λP=>(P.1,rp e p P))=D.gh.files:=by
   have:∀P∈D.gh.files,(P.1,rp e p P)=P:=λP l=>by
    rw[r.files]at l;obtain⟨d,o,rfl⟩:=Xk.1 l;have:p.any (λi=>i.1==(uj d).1)=true:=List.any_eq_true.2 ⟨d,o,by simp[uj]⟩;unfold rp;rw[Zx this]
   have I:=List.map_congr_left (f:=λP=>(P.1,rp e p P)) (g:=id) this;rw[I,List.map_id]
  rw[n];exact r.ah T
 ·rintro U a1 w3 ⟨left,s,q,c5,rfl,V,a7,J,W,y,e1,X⟩
  refine mD c5 (λK=>.inl ⟨rfl,?_⟩) λg S l1 l2 Y c6 c7 c8 Z s4=>.inr ⟨_,_,rfl,pJ c8 ?_⟩
  ·have c9:left=[]:=by simpa using K
   subst c9;refine⟨a,0,rfl,V.at.GV λw5 h5 k5 s5=>⟨a,0,rfl,h5.yz λw6 h6 k6 s6=>Ok.mk ⟨q,rfl,?_,J.trans ⟨k5.then k6,λ_ h=>.inl h⟩⟩⟩⟩;have n:(D.gh.files.map λP=>(P.1,rp e [] P))=(D.files.filter λP=>P.2.jV).map (λP=>(P.1,EG e P.2)):=List.map_congr_left λP _=>by simp[rp]
   rw[n]at h6;exact h6
  ·obtain⟨m,P,c,rfl,rfl,rfl,rfl⟩:=vY c6
   obtain⟨a8,E⟩:=W (g,P) sM;have E:az s g=some P:=E;have a9:∀c,c=v.heap.size->¬q c:=λc n=>n▸X;have w:=V.af Z λc j n=>a9 c n j;have L:=w.get E;have M:=bW E;have d0:eh Y P.q P.G P.f:=w.each.each _ M;have d1:∀c,P.G c->c<v.heap.size:=c2 _ a8;have b0:∀c,P.G c->q c/\c≠a/\c≠u:=w.GW _ M;have b1:P.f.bytes.length<=262144:=w.ok.len (bW L);have e2:P.f.synced<=P.f.bytes.length:=w.ok.Qf _ (bW L);have e7:P.f=(uj (g,P)).2:=rfl;refine⟨_,_,rfl,λw5 z=>?_⟩;have b2:=d0.af (z.af (S:=λ_=>False)) λ_ _ h=>h;have b3:=w.ah z.af;obtain⟨fa,A,fc,F0,F,I,h3,h4⟩:=b2.body;have b4:A=P.f.bytes.length:=I.len dC;have H:(if(if(XG .i64 (((A:Nat):Int)-(P.f.synced:Int)))<e then(XG .i64 (((A:Nat):Int)-(P.f.synced:Int)))else e)>0 then(if(XG .i64 (((A:Nat):Int)-(P.f.synced:Int)))<e then(XG .i64 (((A:Nat):Int)-(P.f.synced:Int)))else e)else 0)=max 0 (min e ((P.f.bytes.length:Int)-P.f.synced)):=by
    rw[wrap_i64 bb,b4];omega
   refine⟨P.q,0,rfl,_,ae F rfl,P.q,0,rfl,fa,A,fc,ae F rfl,P.q,0,rfl,_,ae F rfl,?_⟩;refine PC.ok (by rw[H,wrap_i64 (by unfold aN at*;omega)];exact Ag b2 b1) ?_;rintro _ w6 ⟨N,rfl,O,Q⟩
   replace O:eh w6 P.q N (EG e P.f):=O
   have d2:((D.gh.Ha (D.gh.files.map λi=>(i.1,rp e (m++(g,P)::c) i))).fH g (EG e P.f)).Ok:=b3.ok.cut L _;obtain⟨F6,b5,a0⟩:=b3.eE E O Q d2;have d3:=c7.af (z.af (S:=λ_=>False)) id id;have d4:=d3.af Q.af (λj=>by have:=d1 _ j;omega) (λj=>(b0 _ j).2.2 rfl);have b6:g∉(m++c).map (·.1):=by
    unfold Tidy at y;rw[Q3,QY]at y;rw[Q3];intro b7;have hp:=(List.perm_middle (a:=g) (l₁:=m.map (·.1)) (l₂:=c.map (·.1))).nodup_iff.1 y;exact(List.nodup_cons.1 hp).1 b7
   have b8:Tidy (m++c):=by
    unfold Tidy at y⊢;rw[Q3,QY]at y;rw[Q3];exact(List.nodup_cons.1 ((List.perm_middle (a:=g) (l₁:=m.map (·.1)) (l₂:=c.map (·.1))).nodup_iff.1 y)).2
   have b9:(m++c).any (λd=>d.1==g)=false:=by
    rw[List.any_eq_false];intro d o K;exact b6 (Xk.2 ⟨d,o,eq_of_beq K⟩)
   have fj:aK (D.gh.files.map λi=>(i.1,rp e (m++(g,P)::c) i)) g (EG e P.f)=D.gh.files.map λi=>(i.1,rp e (m++c) i):=by
    refine Ow (u:=P.f) c3 (c4 _ a8) (λd o R=>?_) ?_
    ·have d5:(g==d.1)=false:=beq_false_of_ne (Ne.symm R)
     have n:(m++(g,P)::c).any (λi=>i.1==d.1)=(m++c).any (λi=>i.1==d.1):=by
      rw[List.any_append,List.any_cons,List.any_append,d5,Bool.false_or]
     show rp e (m++c) d=rp e (m++(g,P)::c) d;unfold rp;rw[n]
    ·unfold rp
     rw[Zq (by show¬((m++c).any (λd=>d.1==g)=true);rw[b9];simp)]
   have d6:(D.gh.Ha (D.gh.files.map λi=>(i.1,rp e (m++(g,P)::c) i))).fH g (EG e P.f)=D.gh.Ha (D.gh.files.map λi=>(i.1,rp e (m++c) i)):=by
    unfold al.fH al.Ha;simp only[fj]
   rw[d6]at b5;have a4:(aK s g (⟨P.q,N,EG e P.f⟩:mC)).map dX=p.map dX:=by
    have F:(aK s g (⟨P.q,N,EG e P.f⟩:mC)).map dX=aK (s.map dX) g (ptr P.q):=pG (λP:mC=>ptr P.q) s g _;rw[F,pI (k:=g) (v:=ptr P.q) (l:=s.map dX) (Xk.2 ⟨(g,P),M,rfl⟩) w.map.tidy,a7]
   refine⟨rfl,_,?_,m++c,_,F6,by rw[Q3];exact d4,rfl,b5,a4,?_,λd o=>?_,b8,?_,?_⟩
   ·simp
   ·have e3:=B.size
    have d7:cK f b q Y:=⟨J.af.new Z λc j=>.inr oM,J.new⟩
    exact(d7.trans ⟨z.af,λ_ h=>.inl h⟩).trans a0
   ·have d8:d∈m++(g,P)::c:=by simp only[Q6,Q2]at o⊢;exact o.imp id .inr
    obtain⟨d9,e0⟩:=W d d8;have R:d.1≠g:=λn=>b6 (Xk.2 ⟨d,o,n⟩);refine⟨d9,?_⟩;rw[bL,Zq (by simpa using R)];exact e0
   ·have:=Q.af.size;have:=(z.af (S:=λ_=>False)).size;omega
   ·intro j
    rcases a0.new _ j with h|h
    ·exact X h
    ·have:=(z.af (S:=λ_=>False)).size;omega
def aS:ByteArray:=⟨#[109,97,110,105,102,101,115,116,46,116,109,112]⟩
def cJ:ByteArray:=⟨#[109,97,110,105,102,101,115,116]⟩
def dS(D:al):Int×al:=if(az D.files aS).isSome then D.delete aS else(0,D)
def nY(P:List Int):Nat->al->Int×al
 |0,D=>dS D
 |1,D=>D.create aS
 |2,D=>D.append aS (cZ P)
 |3,D=>D.sync aS
 |_,D=>D.rename aS cJ
def ns(P:List Int):Nat->Nat->al->Int×al
 |_,0,D=>(0,D)
 |a,b+1,D=>if(nY P a D).1≠0 then((nY P a D).1,(dS (nY P a D).2).2)else ns P (a+1) b (nY P a D).2
def bt(D:al)(P:List Int):Int×al:=if 64<P.length then(3,D)else ns P 0 5 D
def eJ(D:al):Option (List Int):=if(D.read cJ).2≠0 then none else jg (D.read cJ).1
def HF(P:List ByteArray):(rE P).Perm P:=List.mergeSort_perm _ _
def MU{D:al}:v∈D.list↔(az D.files v).isSome=true:=by
 unfold al.list;rw[(HF _).mem_iff];constructor
 ·intro P
  cases a:az D.files v with
  |none=>exact Zz P (qG.1 a)
  |some b=>rfl
 ·intro P
  obtain⟨b,c⟩:=Option.isSome_iff_exists.1 P;exact Xk.2 ⟨_,bW c,rfl⟩
def mV(D:al):D.list.length=D.files.length:=by unfold al.list rE;simp
def MV(P:List Int)(d:a<5)(D:al):ns P a (5-a) D=if(nY P a D).1≠0 then((nY P a D).1,(dS (nY P a D).2).2)else ns P (a+1) (5-(a+1)) (nY P a D).2:=by
 obtain⟨b,c⟩:∃b,5-a=b+1:=⟨4-a,oM⟩
 rw[c,show 5-(a+1)=b by omega]
 rfl
def Fj{D:XN}(e:Row Mu 16 b D d a f8):
  ZG 303 #[.slice d a c,.string v] b (Ok λo f=>(∃l:Int,o= XH l/\(0<=l↔v∈f8))/\b=f):=by
 have u:=e.len;have p:=e.dB;unfold aO at p;refine ji ⟨λm i f=>∃P:Nat,i=P/\P<=a/\m=a-P/\v∉f8.take P/\b=f,⟨_,0,rfl,Qj _,rfl,sM,rfl⟩,?_⟩;rintro m i _ _ ⟨P,rfl,w,rfl,g,rfl⟩;refine an.dec (λq=>?_) (λq=>?_)
 ·obtain⟨r,j,x,rfl,n,_,s⟩:=e.lu (i:=P) oM
  refine⟨r,j,rfl,oM,oM,_,s,an.Vi (λk=>?_) (λk=>?_)⟩
  ·exact Ok.mk ⟨⟨_,rfl,λ_=>k▸QZ n,λ_=>oM⟩,rfl⟩
  ·refine⟨_,oM,P+1,aq oM,oM,rfl,?_,rfl⟩
   rw[Qw,n];intro t;rcases Q6.1 t with h|h
   ·exact g h
   ·simp at h;exact k h
 ·rw[Qz oM]at g
  exact Ok.mk ⟨⟨_,rfl,λh=>oM,λh=>Zz h g⟩,rfl⟩
def yq{D:XN}(P:Row Mu 16 b D d a f8):
  ZG 259 #[.slice d a c,.string v] b (Ok λe f=>e= .bool (decide (v∈f8))/\b=f):=by
 refine ig (PC.ok (Fj P) ?_);rintro _ _ ⟨⟨h,rfl,g⟩,rfl⟩;exact⟨_,rfl,Ok.mk ⟨by rw[decide_eq_decide.2 g],rfl⟩⟩
def qi{D:al}(P:aU b a f D):ZG 191 #[XL a] b (Ok (uk b a f (dS D))):=by
 refine vK (PC.ok (v_ P) ?_);rintro _ m ⟨n,o,p,G,rfl,h,c,q⟩;have r:D.list.length<=64:=by rw[mV];exact P.ok.many
 refine⟨_,_,_,rfl,PC.ok (yq (h.row dC ba)) ?_⟩;rintro _ _ ⟨rfl,rfl⟩;have g:(aS∈D.list)↔(az D.files aS).isSome=true:=MU;refine⟨_,rfl,an.dec (λd=>PC.ok (wQ (P.ah c)) λi j k=>kV i j c ?_) (λd=>?_)⟩
 ·have e:dS D=D.delete aS:=by unfold dS;rw[Zx (g.1 d)]
  rw[e];exact k
 ·have e:dS D=(0,D):=by unfold dS;rw[Zq λl=>d (g.2 l)]
  rw[e];exact Ok.mk (uk.same (P.ah c) c.af)
def AS(C:pg b)(u:Row aM 8 b f d a t)(v:∀j∈t,aN j)(hD:∀e,f e->e<b.heap.size)(E:t.length<=64):
  ZG 195 #[.agg #[.slice d a c]] b (Ok (oK fz 5 b (cZ t))):=by
 have F:=u.len;refine vL (PA.mk λH I s1 w=>⟨_,_,_,ae w rfl,PC.ok (Ai (m:=(a:Int)) bb (Row.nil H λ_=>False) ba λ_ J=>J.elim) ?_⟩);rintro _ L ⟨a2,n2,c2,M,rfl,x,y,N⟩;have O:ai b L:=I.then y;have Q:nu (a:Int)=bT ((a:Int)::t.take 0):=by simp[bT]
 rw[List.nil_append,Q]at x;refine⟨_,_,_,rfl,_,_,_,ae (y.get w id) rfl,λz m n o i A=>∃P:Nat,i=P/\P<=a/\z=a-P/\∃B,aT fz 5 B A m n o (bT ((a:Int)::t.take P))/\ai b A/\∀e,B e->b.heap.size<=e,
  ⟨_,0,rfl,Qj _,rfl,M,x,O,λe k=>by have:=N e k;omega⟩,?_⟩
 rintro z m n o i _ R ⟨P,rfl,hj,rfl,S,g,h,a0⟩;have a1:(bT ((a:Int)::t.take P)).length<=9*(P+1):=by
  have h1:=fu (l:=(a:Int)::t.take P) (by
   intro j K;rcases Q2.1 K with rfl|K
   ·unfold aN;omega
   ·exact v j (List.mem_of_mem_take K))
  have h2:((a:Int)::t.take P).length=P+1:=by simp;omega
  omega
 have a3:=g.len dC;refine an.dec (λa5=>?_) (λa6=>?_)
 ·obtain⟨e,p,j,rfl,K,T,U⟩:=(u.ah h).lu (i:=P) oM
  refine⟨e,p,rfl,oM,oM,_,U,PC.ok (Ai T (g.row (bytes:=1) dC ba) ba g.aF) ?_⟩;rintro _ V ⟨W,X,Y,q,rfl,l,r,s⟩;refine⟨_,_,_,rfl,_,?_,P+1,aq oM,oM,rfl,q,?_,h.then r,λe k=>by have:=s e k;have:=h.size;omega⟩
  ·omega
  ·have Z:bT ((a:Int)::t.take (P+1))=bT ((a:Int)::t.take P)++nu j:=by
    rw[Qw,K,<-List.cons_append,gM]
    congr 1
    simp[bT]
   rw[Z];exact l
 ·obtain rfl:P=a:=oM
  rw[Qz oM,F]at g
  change aT fz 5 S R m n o (wu t)at g
  have a7:=Du v E;refine PC.ok (CY (C.ah h) (g.row (bytes:=1) dC ba) g.aF) ?_;rintro _ V ⟨_,rfl,W,X,Y,q,rfl,l,r,s⟩;rw[show jy 2 (wu t)=(cZ t,0) by unfold jy cZ;rw[Zq dC,Zq oM]]at l⊢;exact⟨_,_,_,_,rfl,Ok.mk ⟨_,_,_,q,rfl,l,h.then r,λe k=>by have:=s e k;have:=h.size;omega⟩⟩
def AT{D:al}(ht:pg b)(hD:aU b a f D)(hl:Row aM 8 b a4 d c t)(a8:∀b8∈t,aN b8)(a3:∀P,a4 P->P<b.heap.size/\¬f P)(a9:∀P,f P->P≠2/\P≠3):
  ZG 139 #[XL a,.agg #[.slice d c i]] b (Ok (uk b a f (bt D t))):=by
 have hn:=hl.len;refine vu (PA.mk λw1 k1 s1 g1=>PA.mk λk U s2 g2=>PA.mk λw3 H s3 g3=>⟨_,_,_,ae (H.get g2 id) rfl,an.dec (λh=>?_) (λh=>?_)⟩)
 ·refine PS.mk g3 sM λp B s4 g4=>⟨_,ae g4 rfl,?_⟩
  have l:bt D t=(3,D):=by unfold bt;rw[Zx oM]
  rw[l];have y:ai b p:=((k1.then U).then H).new B λP e=>.inr oM;exact Ok.mk (uk.same (hD.ah y) y.af)
 refine PA.mk λp B s4 g4=>?_;have y:ai b p:=((k1.then U).then H).then B;have l:bt D t=ns t 0 5 D:=by unfold bt;rw[Zq oM]
 rw[l];have I:=hD.aF;refine⟨λa2 M m=>∃(u:Nat) (J:al) (v:XN),M=u/\u<=5/\a2=5-u/\ns t 0 5 D=ns t u (5-u) J/\aU m a v J/\ak (λP=>f P\/P=k.heap.size) p m/\(∀P,v P->f P\/p.heap.size<=P)/\m.heap[k.heap.size]? =some (.cells #[XH 0] 34 (0,0)),
  ⟨_,0,D,f,rfl,oM,rfl,rfl,hD.ah y,ak.refl _,λP e=>.inl e,B.get g3 id⟩,?_⟩
 rintro a2 M _ x ⟨u,J,v,rfl,hi,rfl,N,C,E,V,ge⟩;have W:∀P,b.heap.size<=P->P<p.heap.size->¬v P:=λP h1 h2 hf=>by
  rcases V P hf with h|h
  ·have:=I P h;omega
  ·omega
 have O:x.heap[b.heap.size]? =some (.cells #[XL a] 87 (0,0)):=E.get (B.get (H.get (U.get g1 id) id) id) (λq=>q.elim (λh=>by have:=I _ h;omega) (λh=>oM));have gm:x.heap[w1.heap.size]? =some (.cells #[.slice d c i] 230 (0,0)):=E.get (B.get (H.get g2 id) id) (λq=>q.elim (λh=>by have:=I _ h;omega) (λh=>oM));have Q:=E.get g4 (λq=>q.elim (λh=>by have:=I _ h;omega) (λh=>oM));have c6:=E.size;have w:∀(l:Int) (R:al) (G:XN) (j:World),aU j a G R->ak (λP=>f P\/P=k.heap.size) p j->(∀P,G P->f P\/p.heap.size<=P)->j.heap[k.heap.size]? =some (.cells #[XH l] 34 (0,0))->
   ns t 0 5 D=(l,if l≠0 then(dS R).2 else R)->
   Lv XP (λb0=>∃A:Int,b0.cell? ⟨k.heap.size,0,none⟩=some (XH A)/\Ok (uk b a f (ns t 0 5 D)) (.returned (XH A)) b0) (λch m=>Ok (uk b a f (ns t 0 5 D)) (.panicked ch) m)
    ([{target:=.fn (.func 190) #[XL k.heap.size,XL b.heap.size],args:= #[]}]:List Deferred) .returning j:=by
  intro l R G j hE r hG X hr;have b9:j.heap[b.heap.size]? =some (.cells #[XL a] 87 (0,0)):=r.get (B.get (H.get (U.get g1 id) id) id) (λq=>q.elim (λh=>by have:=I _ h;omega) (λh=>oM));have n:∀o (K:XN) (E':al),aU o a K E'->cK G j K o->ns t 0 5 D=(l,E')->∃A:Int,o.cell? ⟨k.heap.size,0,none⟩=some (XH A)/\Ok (uk b a f (ns t 0 5 D)) (.returned (XH A)) o:=by
   intro o K E' a0 s a1;have c0:¬G k.heap.size:=λh=>(hG _ h).elim (λh=>by have:=I _ h;omega) (λh=>oM);have c7:=r.size;refine⟨l,ae (s.af.get X c0) rfl,Ok.mk ?_⟩;rw[a1];refine⟨K,rfl,a0,?_,λP e=>?_⟩
   ·have c1:ak f b j:=y.af.new r λP e=>e.imp id λh=>by omega
    exact c1.new s.af λP e=>(hG P e).imp id λh=>by omega
   ·rcases s.new P e with h|h
    ·exact(hG P h).imp id λh=>by omega
    ·exact .inr oM
  refine Lv.one sM kR (CallsD.mono (qP (R:=λe' o=>e'= .returned (.tuple #[])/\∃A:Int,o.cell? ⟨k.heap.size,0,none⟩=some (XH A)/\Ok (uk b a f (ns t 0 5 D)) (.returned (XH A)) o) ⟨_,ae X rfl,an.dI (λY=>?_) (λZ=>?_)⟩) ?_)
  ·refine⟨_,ae b9 rfl,PC.ok (qi hE) ?_⟩
   rintro _ o ⟨K,rfl,a0,s⟩;exact⟨_,rfl,rfl,n o K _ a0 s (by rw[hr,Zx Y])⟩
  ·exact⟨rfl,n j G R hE (cK.refl _ _) (by rw[hr,Zq (by simpa using Z)])⟩
  ·rintro e' u' o ⟨rfl,rfl,hX⟩
   exact Lv.ret rfl hX
 refine an.dec (λc8=>?_) (λc9=>?_)
 ·have b1:u<5:=oM
  have step:∀κ ε,(∀z m,uk x a v (nY t u J) z m->κ z m)->∃b2:Value,x.cell? ⟨w3.heap.size,0+Int.toNat (u:Int),none⟩=some b2/\∃a5 a7 b3,b2= .func (.func a5) a7 b3/\enters XP a5=true/\PC XP a5 (a7++ #[]++b3) x κ ε:=by
   intro κ ε g;rw[Qx,Xz];have n:∀{b4:Int×al} {z m},uk x a v b4 z m->∃M:Int,z= XH M/\Ok (uk x a v b4) (.returned (XH M)) m:=λh=>kV _ _ (ak.refl _) h
   match u,b1,g with
   |0,_,g=>exact⟨_,ae Q rfl,_,_,_,rfl,kR,PC.ok (sH ⟨_,ae O rfl,PC.ok (qi C) λz m h=>n h⟩) g⟩
   |1,_,g=>exact⟨_,ae Q rfl,_,_,_,rfl,kR,PC.ok (sI ⟨_,ae O rfl,PC.ok (wR C) λz m h=>n h⟩) g⟩
   |2,_,g=>
    refine⟨_,ae Q rfl,_,_,_,rfl,kR,PC.ok (φ:=uk x a v (nY t 2 J)) (sJ λj d6=>?_) g⟩;have r:ai x j:=d6.af;have F:ak (λP=>f P\/P=k.heap.size) p j:=E.then r.af;have c2:Row aM 8 j a4 d c t:=(hl.ah y).af F λP e q=>q.elim (a3 P e).2 λh=>by have:=(a3 P e).1;omega
    have c3:pg j:=by
     have:=(ht.ah y)
     have d0:b.heap.size<=p.heap.size:=y.size;have h1:=ht.lt;have hz:=F.size;refine⟨λS hj=>?_,λS hj=>?_,oM⟩
     ·exact(this.lower S hj)▸F.cell (a:=⟨2,S,none⟩) (by show 2<_;omega) (λq=>q.elim (λh=>(a9 _ h).1 rfl) (λh=>by have h:2=k.heap.size:=h;omega))
     ·exact(this.upper S hj)▸F.cell (a:=⟨3,S,none⟩) (by show 3<_;omega) (λq=>q.elim (λh=>(a9 _ h).2 rfl) (λh=>by have h:3=k.heap.size:=h;omega))
    refine⟨v,W _ (Q4 _) oM,_,ae (r.get O id) rfl,_,_,_,ae (r.get gm id) rfl,PC.ok (AS c3 c2 a8 (λP e=>by have:=(a3 P e).1;have:=y.size;have:=F.size;omega) oM) ?_⟩;rintro _ o ⟨d1,n7,d2,F7,rfl,a6,L,c4⟩;have d3:=AU t;have d4:=Du a8 oM;refine⟨_,_,_,rfl,L.af,PC.ok (wS ((C.ah r).ah L) (a6.row dC ba) (λl=>a6.Mo l) λP e=>⟨a6.aF P e,λhf=>by have:=C.aF P hf;have:=c4 P e;have:=r.size;omega⟩) ?_⟩;rintro _ w8 ⟨F8,rfl,c5,s⟩;exact⟨_,rfl,s.af,Ok.mk ⟨F8,rfl,c5,(cK.mk (ai.af (r.then L)) λ_ h=>.inl h:cK v x v o).trans s⟩⟩
   |3,_,g=>exact⟨_,ae Q rfl,_,_,_,rfl,kR,PC.ok (sK ⟨_,ae O rfl,PC.ok (CS C) λz m h=>n h⟩) g⟩
   |4,_,g=>exact⟨_,ae Q rfl,_,_,_,rfl,kR,PC.ok (sL ⟨_,ae O rfl,PC.ok (GZ C) λz m h=>n h⟩) g⟩
  refine⟨_,_,rfl,oM,oM,step _ _ ?_⟩;rintro _ j ⟨F6,rfl,h6,s⟩;have b5:∀P,F6 P->P≠k.heap.size:=λP e l=>by
   subst l;rcases s.new _ e with h|h
   ·exact W _ oM oM h
   ·omega
  have b6:∀P,F6 P->f P\/p.heap.size<=P:=λP e=>by
   rcases s.new P e with h|h
   ·exact V P h
   ·exact .inr oM
  have F:ak (λP=>f P\/P=k.heap.size) p j:=E.new s.af λP e=>(V P e).imp .inl id;refine⟨_,rfl,PS.mk (s.af.get ge (W _ oM oM)) sM λo L s7 T=>?_⟩;have h7:=h6.af L λP e=>b5 P e;have b7:ak (λP=>f P\/P=k.heap.size) p o:=F.then (L.mono λP _ e=>.inr e);rw[MV t b1]at N;refine⟨_,ae T rfl,an.dI (λY=>?_) (λZ=>?_)⟩
  ·refine⟨_,ae T rfl,PS.mk T sM λw8 k8 s8 g8=>?_⟩
   exact w _ _ F6 w8 (h7.af k8 λP e=>b5 P e) (b7.then (k8.mono λP _ e=>.inr e)) b6 g8 (by rw[N,Zx Y,Zx Y])
  ·rw[Zq (by simpa using Z)]at N
   rw[Z]at T;exact⟨rfl,_,oM,u+1,_,F6,aq oM,oM,rfl,N,h7,b7,b6,T⟩
 ·obtain rfl:u=5:=oM
  refine⟨_,ae ge rfl,PS.mk ge sM λj r s6 X=>?_⟩;refine w 0 J v j (C.af r λP e l=>W P oM oM e) (E.then (r.mono λP _ e=>.inr e)) V X ?_;rw[N];rfl
def Cr{D:al}(ht:pg b)(hD:aU b a f D):
  ZG 136 #[XL a] b (Ok λQ i=>∃n o p G,Q= .tuple #[.agg #[.slice n o p],.bool (eJ D).isSome]/\aT aM 3 G i n o p ((eJ D).getD [])/\ai b i/\∀P,G P->b.heap.size<=P):=by
 refine xR (PA.mk λA C s1 g1=>PC.ok (vZ (hD.ah C)) ?_);rintro _ w2 ⟨_,rfl,a7,n2,c2,F2,rfl,u,R,e7⟩
 change aT fz 5 F2 w2 a7 n2 c2 (D.read cJ).1 at u
 have b3:(D.read cJ).1.length<=262144:=by
  unfold al.read;split
  ·simp
  ·split
   ·simp
   ·rename_i e8 hf;exact hD.ok.len (bW hf)
 have a3:∀{i},ai A i->i.heap[b.heap.size]? =some (.cells #[.slice none 0 0] 230 (0,0)):=λhk=>hk.get g1 id;have e:eJ D=none->∀v,ai A v->PS v ⟨b.heap.size,0,none⟩ (.slice none 0 0) λw=>∃(b4:ZH) (b5:Nat) (b6:Nat),w.cell? ⟨b.heap.size,0,none⟩=some (.slice b4 b5 b6)/\
   Ok (λQ i=>∃n o p G,Q= .tuple #[.agg #[.slice n o p],.bool (eJ D).isSome]/\aT aM 3 G i n o p ((eJ D).getD [])/\ai b i/\∀P,G P->b.heap.size<=P) (.returned (.tuple #[.agg #[.slice b4 b5 b6],.bool false])) w:=by
  intro S v E;refine PS.mk (a3 E) sM λw4 T s4 U=>⟨_,_,_,ae U rfl,?_⟩
  rw[S];exact Ok.mk ⟨none,0,0,λ_=>False,rfl,aT.nil w4,(C.then E).new T λP c=>.inr oM,λ_ h=>h.elim⟩
 refine⟨_,_,_,_,rfl,an.dI (λl=>e (by unfold eJ;exact Zx l) w2 R) (λS=>?_)⟩;have B:eJ D=jg (D.read cJ).1:=by unfold eJ;exact Zq λh=>h S
 generalize(D.read cJ).1=F at u b3 B;have d5:=u.len dC;refine PC.ok (CZ (ht.ah (C.then R)) (u.row (bytes:=1) dC ba) u.jN u.aF) ?_;rintro _ v ⟨c3,n3,d1,F3,rfl,b7,E,e9⟩;refine⟨_,_,_,_,_,_,rfl,PA.mk λw4 T s4 U=>PS.mk U sM λw5 k5 s5 g5=>PS.mk g5 sM λx k6 s6 g6=>?_⟩;have V:x.heap[v.heap.size]? =some (.cells #[XH (bw F).kind,.slice c3 n3 d1] 292 (0,0)):=g6;have W:ai v x:=(T.new k5 λP c=>.inr oM).new k6 λP c=>.inr oM;have s:ai A x:=(R.then E).then W;have f0:=W.size;refine an.dI (λl=>e (by rw[B];unfold jg;exact Zx (.inl l)) x s) (λb8=>?_);refine an.dI (λl=>e (by rw[B];unfold jg;exact Zx (.inr (.inl λg=>l (by rw[g,d5])))) x s) (λg0=>?_);refine⟨_,ae V rfl,an.dI (λl=>e (by rw[B];unfold jg;exact Zx (.inr (.inr l))) x s) (λd6=>?_)⟩;have X:eJ D=if jZ (nJ (bw F).body).2≠0 then none else some (nJ (bw F).body).1:=by
  rw[B];unfold jg;refine Zq ?_;rintro(h|h|h)
  ·exact h b8
  ·exact h oM
  ·exact h d6
 have Y:=b7.ah W;obtain⟨g2,h9,d7⟩:=uw b8;generalize(bw F).body=d at Y X d7 V b7;refine⟨_,_,_,ae V rfl,PC.ok (CV (Y.row (bytes:=1) dC ba) Y.aF) ?_⟩;rintro _ w ⟨H,a4,rfl,I,k7,hP⟩;refine⟨_,rfl,PA.mk λw8 k8 s8 g8=>PC.ok (Hb (m:=64) (I.ah k8)) ?_⟩;rintro _ t ⟨rfl,Z,k9⟩;have b9:=I.aF;have hq:=I.self;have g3:=b9 H hq;have g7:=hP H hq;obtain⟨c1,a8,c0,c4⟩:=lG.Fit.count (r:=⟨d,0,0⟩) ⟨Qj _,.inl rfl⟩ (m:=64) oM;have g9:t.heap[w.heap.size]? =some (.cells #[.slice none 0 0] 230 (0,0)):=k9.get g8 (λg=>oM);have J:nJ d=bk (cg 64 ⟨d,0,0⟩).1.toNat (cg 64 ⟨d,0,0⟩).2:=rfl;have K:ai A t:=((s.then k7).then k8).new k9 λP c=>.inr (by have:=s.size;omega);generalize h2:cg 64 ⟨d,0,0⟩=ct at Z c1 a8 c0 c4 J;obtain⟨cn,L⟩:=ct;simp only at Z c1 a8 c0 c4 J;refine⟨_,rfl,λm a5 i=>∃j:Nat,a5=j/\(j:Int)<=cn/\m=cn.toNat-j/\eU i H a4 (bk j L).2/\ai A i/\∃n o p G,i.heap[w.heap.size]? =some (.cells #[.slice n o p] 230 (0,0))/\aT aM 3 G i n o p (bk j L).1/\(∀P,G P->t.heap.size<=P)/\t.heap.size<=i.heap.size,
  ⟨_,0,rfl,a8,rfl,Z,K,none,0,0,λ_=>False,g9,aT.nil t,λ_ h=>h.elim,Q4 _⟩,?_⟩
 have h3:=k9.size;rintro m a5 _ c5 ⟨j,rfl,hj,rfl,a0,M,c6,c7,c8,c9,a9,y,q,f2⟩;have d8:∀P,a4 P->P<t.heap.size:=λP c=>by have:=b9 P c;omega
 refine an.dec (λh4=>?_) (λh5=>?_)
 ·intro N b0
  have k:ai c5 N:=b0.af;refine⟨(λP=>P=H\/c9 P),λhs=>hs.elim (λg=>oM) (λg=>by have:=q _ g;omega),_,_,_,ae (k.get a9 id) rfl,PC.ok (EI (a0.ah k)) ?_⟩;rintro _ d0 ⟨rfl,d2,r⟩;obtain⟨f1,f4,f3,f5⟩:=c1.ints j;obtain⟨f7,f6,f8⟩:=f1.int;refine⟨_,rfl,r.mono λP _ c=>.inl c,?_⟩;have a1:=(y.ah k).af r λP c g=>by have:=q P c;omega
  refine PA.mk λh6 z h7 d9=>⟨z.af,?_⟩
  have d4:=a1.ah z;have d3:(bk j L).1.length=j:=f3;refine jX d4 rC (D:=(·=d0.heap.size)) (Row.lit d9 [(fv (bk j L).2).1] rfl (λf9 hx=>by simp at hx;subst hx;exact f6) (by unfold aO;simp)) (λP g=>⟨oM,λe2=>by have:=a1.aF P (a1.self P e2);omega⟩) (by rw[d3];unfold aO;simp;omega) (by rw[d3];unfold maxLen;simp;omega) λb1 e0 e1 h8 a2 O _ e3=>?_
  replace a2:=a2.alone
  have e4:e1.heap[w.heap.size]? =some (.cells #[.slice c6 c7 c8] 230 (0,0)):=O.get (z.get (r.get (k.get a9 id) (λg=>oM)) id) (λg=>by have:=q _ (y.self _ g);omega);have z1:=k.size;have z2:=r.size;have z3:=z.size;have z4:=O.size;have a6:∀P,aI b1=some P->t.heap.size<=P:=λP c=>by
   rcases e3 P c with h|h
   ·exact q P h
   ·omega
  refine⟨_,_,_,rfl,PS.mk e4 sM λi0 b2 i1 e5=>⟨_,oM,j+1,aq oM,oM,rfl,?_,?_,b1,_,e0,(λP=>aI b1=some P),e5,?_,a6,oM⟩⟩
  ·refine(((d2.ah z).af O λP c g=>by have:=d8 P c;have:=q P (y.self P g);omega)).af b2 λP c g=>by have:=I.aF P c;omega
  ·refine((((M.then k).new r λP c=>.inr (by have:=s.size;omega)).then z).new O λP c=>.inr (by have:=q P (y.self P c);have:=K.size;omega)).new b2 λP c=>.inr (by have:=(s.then k7).size;omega)
  ·exact a2.af b2 λP c g=>by have:=a6 P c;omega
 ·obtain rfl:cn=(j:Int):=oM
  rw[Qx]at J;rw[<-J]at a0 y;refine PC.ok (KZ a0) ?_;rintro _ N ⟨rfl,b0⟩;have k:ai c5 N:=b0.af;refine⟨_,rfl,an.dI (λl=>e (by rw[X];exact Zx l) N (M.then k)) (λh0=>?_)⟩;have hS:eJ D=some (nJ d).1:=by rw[X];exact Zq λh=>h h0
  rw[hS];refine⟨_,_,_,ae (k.get a9 id) rfl,PS.mk (a3 (M.then k)) sM λd0 r i2 e6=>⟨_,_,_,ae e6 rfl,Ok.mk ⟨c6,c7,c8,c9,rfl,?_,?_,?_⟩⟩⟩
  ·exact(y.ah k).af r λP c g=>by have:=q P c;have:=K.size;omega
  ·exact(C.then (M.then k)).new r λP c=>.inr oM
  ·intro P c;have:=q P c;have:=K.size;omega
def JM{x y:Operand}{a b c d:Int}{w:World}:(do eqGuard .eql 39 x y (.agg #[XH a,XH b]) (.agg #[XH c,XH d]);binOp .eql 39 (.agg #[XH a,XH b]) (.agg #[XH c,XH d]):Sem Value).run XP w= .ok (.bool (a==c&&b==d)) w:=by
 have g:Tryz.prog.underlying 39=some (.struct (Tryz.prog.fieldsOf 39)):=kR
 have f:Tryz.prog.underlying 3=some (.int .i64):=kR
 have P:(Tryz.prog.fieldsOf 39).toList.map (λe=>(e.name,e.type,e.offset))=[("Origin",3,0),("Seq",3,1)]:=kR
 rw[Sem.run_bind,run_eqGuard_agg w .eql _ x y _ _ kR,Result.andThen_ok,run_eql_struct,run_equalIn_struct w 9999 _ _ _ g kR];generalize(Tryz.prog.fieldsOf 39).toList=h at P
 match h,P with
 |[e,t],P=>
  simp only[QY,List.map_nil,List.cons.injEq,Prod.mk.injEq,and_true]at P;obtain⟨⟨i,j,k⟩,l,m,n⟩:=P;have o:(isAgg 3).run XP w= .ok false w:=cU _ _ _ kR ⟨_,f⟩ w;have p:=run_equalIn_int (P:=XP) w 9998 3 .i64 .i64 a c f;have q:=run_equalIn_int (P:=XP) w 9998 3 .i64 .i64 b d f;unfold Op.eqFields Op.eqFields Op.eqFields;rw[i,j,k,l,m,n]
  cases r:a==c<;>simp[part,o,p,q,r]
  by_cases s:b=d<;>simp[s]
 |[],P=>simp at P
 |[_],P=>simp at P
 |_::_::_::_,P=>simp at P
def iF{c k s t:Nat}{xs ys:List Int}{D u:XN}(e:Row aM 8 b D d c xs)(l:Row aM 8 b u r k ys):
  ZG 22 #[.slice d c s,.slice r k t] b (Ok λv f=>v= .bool (decide (xs=ys))/\bQ b f):=by
 have w:=e.len;have x:=l.len;have y:=e.dB;unfold aO at y;refine zt (an.dI (λm=>?_) (λm=>?_))
 ·have g:xs≠ys:=by rintro rfl;simp[w,x]at m
  exact Ok.mk ⟨by simp[g],bQ.refl b⟩
 ·refine⟨λn i f=>∃P:Nat,i=P/\P<=c/\n=c-P/\xs.take P=ys.take P/\bQ b f,⟨_,0,rfl,Qj _,rfl,rfl,bQ.refl b⟩,?_⟩
  rintro n i _ K ⟨P,rfl,L,rfl,o,a⟩;refine an.dec (λz=>?_) (λz=>?_)
  ·obtain⟨A,B,M,rfl,p,_,C⟩:=(e.ah a.af).lu (i:=P) oM
   obtain⟨E,F,N,rfl,h,_,H⟩:=(l.ah a.af).lu (i:=P) oM;refine⟨A,B,rfl,oM,oM,_,C,E,F,rfl,oM,oM,_,H,λO q=>?_⟩;refine an.dI (λj=>?_) (λj=>?_)
   ·have g:xs≠ys:=by rintro rfl;rw[p]at h;cases h;exact j rfl
    exact Ok.mk ⟨by simp[g],a.then q⟩
   ·subst j
    exact⟨_,oM,P+1,aq oM,oM,rfl,C_ o p h,a.then q⟩
  ·have:xs=ys:=by
    have I:xs.take P=xs:=Qz oM;have J:ys.take P=ys:=Qz oM;rw[<-I,<-J,o]
   exact Ok.mk ⟨by simp[this],a⟩
def rJ{D:XN}(k:Row aM 8 b D d a t):
  ZG 94 #[.slice d a c] b (Ok (oK aM 3 b t)):=by
 have F:=k.len;have u:=k.dB;unfold aO at u;refine zD ⟨λo p P q i r=>i=(P:Int)/\P<=a/\o=a-P/\∃f,aT aM 3 f r p P q (t.take P)/\ai b r/\∀e,f e->b.heap.size<=e,
  ⟨_,rfl,Qj _,rfl,λ_=>False,by simpa using aT.nil b,ak.refl _,λ_ h=>h.elim⟩,?_⟩
 rintro o p P q i _ H ⟨rfl,I,rfl,f,g,j,l⟩;refine an.dec (λv=>?_) (λv=>?_)
 ·obtain⟨e,m,x,rfl,w,y,z⟩:=(k.ah j).lu (i:=P) oM
  have s:(t.take P).length=P:=by simp;omega
  refine⟨e,m,rfl,oM,oM,_,z,Gc g rC (x:=x) (D:=λ_=>False) ⟨rfl,y⟩ (λ_ h=>h.elim) (by rw[s];unfold aO;omega) (by rw[s];unfold maxLen;omega) λJ K L A B C E _=>?_⟩;refine⟨_,_,_,rfl,a-(P+1),oM,aq oM,oM,rfl,A,?_,j.new C λe n=>.inr (l e (g.self e n)),?_⟩
  ·rw[Qw,w];exact B
  ·intro e n
   rcases E e n with h|h|h
   ·exact l e h
   ·exact h.elim
   ·exact Xx j.size h
 ·obtain rfl:P=a:=oM
  rw[Qz oM]at g;exact Ok.mk ⟨_,_,_,f,rfl,g,j,l⟩
def rH{D y:XN}(z:Row aM 8 b D d a m.aQ)(A:Row aM 8 b y r c M.aQ):
  ZG 51 #[.agg (aD m d a i).toArray,.agg (aD M r c n).toArray] b (Ok λo h=>o= .bool (decide (m=M))/\ai b h):=by
 have no:∀{h},ai b h->m≠M->Ok (λo h=>o= .bool (decide (m=M))/\ai b h) (.returned (.bool false)) h:=λB C=>Ok.mk ⟨by rw[Xv C],B⟩;refine xM (PA.mk λI E J F=>PA.mk λs t K k=>?_);have e:=t.get F id;have l:ai b s:=E.then t;refine⟨_,_,ae e rfl,ae e rfl,_,_,ae k rfl,ae k rfl,aH.mk JM ⟨_,rfl,an.mk (λp=>?_) (λp=>?_)⟩⟩
 rotate_left
 ·exact no l λP=>by subst P;simp at p
 refine⟨_,ae e rfl,_,ae k rfl,an.dO (λu=>?_) (λu=>no l λP=>u (by rw[P]))⟩;refine⟨_,_,_,ae e rfl,_,_,_,ae k rfl,PC.ok (iF (z.ah l) (A.ah l)) ?_⟩;rintro _ v ⟨rfl,H⟩;have q:ai s v:=H.af;have e:=q.get e id;have j:=q.get k id;have g:ai b v:=l.then q;refine⟨_,rfl,an.dec (λw=>?_) (λw=>no g λP=>w (by rw[P]))⟩;refine⟨_,ae e rfl,_,ae j rfl,an.dO (λL=>?_) (λf=>no g λP=>f (by rw[P]))⟩;refine⟨_,ae e rfl,_,ae j rfl,an.dO (λN=>?_) (λf=>no g λP=>f (by rw[P]))⟩;refine⟨_,ae e rfl,_,ae j rfl,an.dO (λO=>?_) (λf=>no g λP=>f (by rw[P]))⟩;refine⟨_,ae e rfl,_,ae j rfl,an.dO (λQ=>?_) (λf=>no g λP=>f (by rw[P]))⟩;refine⟨_,ae e rfl,_,ae j rfl,an.dO (λR=>?_) (λf=>no g λP=>f (by rw[P]))⟩;refine⟨_,ae e rfl,_,ae j rfl,Ok.mk ⟨?_,g⟩⟩
 congr 1
 have S:m.origin=M.origin/\m.seq=M.seq:=by simpa using p
 by_cases x:m.key=M.key
 ·have:m=M:=by cases m;cases M;simp_all
  subst this;simp
 ·rw[Xv λP=>x (by rw[P])]
  simp[x]
def AB{e n w x:Nat}{D y:XN}(g:Row h_ 96 b D d e C)(o:Row h_ 96 b y r n e0):
  ZG 18 #[.slice d e w,.slice r n x] b (Ok λz h=>z= .bool (decide (C=e0))/\ai b h):=by
 have A:=g.len;have B:=o.len;have E:=g.dB;unfold aO at E;refine vv (an.dI (λp=>?_) (λp=>?_))
 ·have j:C≠e0:=by rintro rfl;simp[A,B]at p
  exact Ok.mk ⟨by simp[j],ak.refl b⟩
 ·refine⟨λq i h=>∃c:Nat,i=c/\c<=e/\q=e-c/\C.take c=e0.take c/\ai b h,⟨_,0,rfl,Qj _,rfl,rfl,ak.refl b⟩,?_⟩
  rintro q i _ S ⟨c,rfl,T,rfl,s,t⟩;refine an.dec (λF=>?_) (λF=>?_)
  ·intro H I
   have f:ai b H:=t.then I.af;obtain⟨J,K,U,V,rfl,_,_,u,L,W,X,Y,rfl,M,Z⟩:=(g.ah f).wK (i:=c) oM;obtain⟨N,O,a0,fs,rfl,_,_,k,Q,a2,n2,c2,rfl,R,a3⟩:=(o.ah f).wK (i:=c) oM;have P:=λi (l:i<10)=>L i l;have a:=λi (l:i<10)=>Q i l;refine⟨J,K,rfl,oM,oM,_,_,_,_,_,_,_,_,_,_,_,_,P 0 dC,P 1 dC,P 2 dC,P 3 dC,P 4 dC,P 5 dC,P 6 dC,P 7 dC,P 8 dC,P 9 dC,?_⟩;refine⟨N,O,rfl,oM,oM,_,_,_,_,_,_,_,_,_,_,_,_,a 0 dC,a 1 dC,a 2 dC,a 3 dC,a 4 dC,a 5 dC,a 6 dC,a 7 dC,a 8 dC,a 9 dC,?_⟩;refine PC.ok (rH M R) ?_;rintro _ w3 ⟨rfl,v⟩;refine⟨_,rfl,an.not (an.dec (λm=>?_) (λm=>?_))⟩
   ·subst m
    exact⟨_,oM,c+1,aq oM,oM,rfl,C_ s u k,f.then v⟩
   ·have j:C≠e0:=by rintro rfl;rw[u]at k;cases k;exact m rfl
    exact Ok.mk ⟨by simp[j],f.then v⟩
  ·have:C=e0:=by
    have P:C.take c=C:=Qz oM;have a:e0.take c=e0:=Qz oM;rw[<-P,<-a,s]
   exact Ok.mk ⟨by simp[this],t⟩
def JP{D:XN}(h:Row h_ 96 b D d a C):
  ZG 65 #[.slice d a c] b (Ok λn j=>n= .bool (decide ((∃e∈C,100<e.aQ.length)\/200<C.length))/\b=j):=by
 have w:=h.len;have o:=h.dB;unfold aO at o;refine Eu ⟨λl i j=>∃f:Nat,i=f/\f<=a/\l=a-f/\(∀e∈C.take f,¬100<e.aQ.length)/\b=j,⟨_,0,rfl,Qj _,rfl,sM,rfl⟩,?_⟩;rintro l i _ x ⟨f,rfl,y,rfl,k,rfl⟩;refine an.dec (λp=>?_) (λp=>?_)
 ·obtain⟨q,r,s,z,rfl,_,_,m,t,A,B,E,rfl,u,F⟩:=h.wK (i:=f) oM
  have H:=u.len;refine⟨q,r,rfl,oM,oM,_,_,_,t 3 dC,an.dec (λv=>?_) (λv=>?_)⟩
  ·exact Ok.mk ⟨by rw[Zy (.inl ⟨s,QZ m,oM⟩)],rfl⟩
  ·refine⟨_,oM,f+1,aq oM,oM,rfl,λe P=>?_,rfl⟩
   rw[Qw,m]at P;rcases Q6.1 P with P|P
   ·exact k e P
   ·simp at P;subst P;omega
 ·rw[Qz oM]at k
  refine Ok.mk ⟨?_,rfl⟩
  congr 1
  refine decide_eq_decide.2 ⟨λg=>.inr oM,λg=>g.elim (λ⟨e,P,g⟩=>Zz g (k e P)) λg=>oM⟩
end Go.Proofs.YtblabbpipmodgaaGreatDoor
namespace Go.aw
open Go.ChangeShapes Go.WideShapes Go.ChangeAt Go.RowKit
def iP{P:Type}(a:Program)(b:TypeId)(c:DataW P):Prop:=∀d∈c.weights a b,d<=reachBytes
abbrev In(P:World):XN:=λa=>a<P.heap.size
variable{e:Int}{a c:Nat}{j:Type}{g o:TypeId}{u:Value}
section
variable {H:Type} {enc:TypeId×Value->H} {P:Program} {w:World} {base:Nat} {held:Bool}
def Hd{a:List TypeId}{b:List (DataW H)}(d:(DataW.weightsEach P a b).all (·<=reachBytes)=true){j:Nat}{c:DataW H}(e:a[j]? =some g)(f:b[j]? =some c):iP P g c:=
 λh i=>by simpa using ZY.1 d _ (DataW.weights_mem_each e f h i)
def pO{c:TypeId}:∀{a:List (DataW H)} {d:DataW H},d∈a->∀b∈d.weights P c,b∈DataW.weightsAll P c a
 |x::a,d,h,b,e=>by
  simp only[DataW.weightsAll,Q6];rcases Q2.1 h with rfl|h
  ·exact Or.inl e
  ·exact Or.inr (pO h b e)
def Reads{d:Type}(P:Program)(e:ju d)(b:TypeId):Prop:=
 ∀(H:Type) (enc:TypeId×Value->H) (w:World) (held:Bool) (a:Nat) (cs:List Value) (c:DataW H×List MemPlace),DataW.trod enc P w 0 (λ_=>true) held a b cs=some c->iP P b c.1->∃f,e.rep w (In w) f cs
def ke{b:Option _}(P:w.cell? ⟨a,c,b⟩=some u):a<w.heap.size:=by
 unfold World.cell? at P
 by_cases d:a<w.heap.size
 ·exact d
 ·rw[show w.heap[a]? =none by simp;omega]at P;cases P
def open_row{k:ju j}{bytes v:Nat}{cs:List Value}{B:DataW H×List MemPlace}(I:P.underlying g=some (.slice o))(Q:P.cellsOf o=k.k)(J:0<k.k)(R:P.bytesOf o=bytes)(S:Reads P k o)(p:DataW.trod enc P w 0 (λ_=>true) held v g cs=some B)(T:iP P g B.1):
  ∃b q f U,cs=[.slice b q f]/\q<=f/\(b=none->q=0/\f=0)/\Row k bytes w (In w) b q U:=by
 rcases DataW.trod_slice I p with⟨rfl,rfl⟩|⟨b,c,f,a,h,q,_,rfl,rfl,hb,V,hm,a4,W,a5,a6⟩
 ·exact⟨none,0,0,[],rfl,Q4 _,λ_=>⟨rfl,rfl⟩,Row.nil _ _⟩
 ·have x:∀l∈(a.length+h.length)*P.bytesOf o::(DataW.weightsAll P o (a.map (·.1))++DataW.weightsAll P o (h.map (·.1))),l<=reachBytes:=by
   have:=T;simpa only[iP,DataW.weights,I,Q8]using this
  have read:∀e,e<c->∃d l,a[e]? =some l/\d.length=k.k/\(∀i,i<k.k->w.cell? (b.add (e*k.k+i))=d[i]?)/\DataW.trod enc P w 0 (λ_=>true) held q o d=some l:=by
   intro e n;have K:=W e n;rw[Q,Qq (by omega:e<a.length)]at K;obtain⟨d,A,y⟩:=Option.bind_eq_some_iff.1 K;obtain⟨_,C,s⟩:=World.cells?_some A;exact⟨d,_,Qq oM,C,λi E=>by rw[<-Addr.add_add];exact s i E,y⟩
  have X:0<c->b.spot=none:=by
   intro Y;obtain⟨d,l,_,C,s,_⟩:=read 0 Y;have:=s 0 J;rw[Nat.zero_mul,Nat.add_zero,Qq oM]at this;have o:b.add 0=b:=by simp[Addr.add]
   rw[o]at this;unfold World.cell? at this;split at this
   ·cases t:b.spot with
    |none=>rfl
    |some L=>rw[t]at this;simp at this
   ·cases this
  have one:∀e,e<c->∃r,∃u z M,some b=some ⟨u,z,none⟩/\u<w.heap.size/\In w u/\(∀i,i<k.k->w.cell? ⟨u,z+e*k.k+i,none⟩=M[i]?)/\k.rep w (In w) r M:=by
   intro e n;have t:=X oM;have N:∀F,b.add F=⟨b.block,b.off+F,none⟩:=by
    intro F;obtain⟨u,Z,L⟩:=b;simp only at t;subst t;unfold Addr.add;split
    ·next p=>subst p;rfl
    ·rfl
   obtain⟨d,l,y,C,s,h5⟩:=read e n;have a0:iP P o l.1:=λr m=>x r (QJ _ (ZV _ (pO (d:=l.1) (Xk.2 ⟨l,QZ y,rfl⟩) r m)));obtain⟨r,m⟩:=S H enc w held q d l h5 a0;have O:b.block<w.heap.size:=by
    have:=s 0 J;rw[N,Qq oM]at this;exact ke this
   refine⟨r,b.block,b.off,d,?_,O,O,λi E=>?_,m⟩
   ·obtain⟨u,Z,L⟩:=b
    simp only at t;rw[t]
   ·have:=s i E
    rw[N]at this;rw[<-this,Nat.add_assoc]
  have a1:c*bytes<=aO:=by
   have A:=x _ (QV ..);have y:c*P.bytesOf o<=(a.length+h.length)*P.bytesOf o:=Q0 _ oM;rw[R]at A y;unfold reachBytes at A;unfold aO;omega
  by_cases m:c=0
  ·subst m
   exact⟨some b,0,f,[],rfl,Qj _,λp=>(by cases p),rfl,sM,λe B n=>(by simp at n)⟩
  ·have a2:Nonempty j:=⟨(one 0 oM).choose⟩
   haveI:Inhabited j:=⟨Classical.choice a2⟩
   obtain⟨a3,hf⟩:=Go.Deep.choose_lt one;refine⟨some b,c,f,(List.range c).map a3,rfl,V,λp=>(by cases p),sM,a1,λe r m=>?_⟩
   by_cases n:e<c
   ·rw[Q9,List.getElem?_range n]at m
    cases m
    exact hf e n
   ·rw[Q7 bc]at m;cases m
def aP(P:(Lit.int .i64 e).wf=true):aN e:=by
 have:IntKind.i64.min<=e/\e<=IntKind.i64.max:=by simpa[Lit.wf]using P
 exact this
def CU(b:P.underlying g=some (.int .i64)):Reads P aM g:=λH enc w held a cs f c h=>by
 obtain⟨d,rfl,-,e⟩:=DataW.trod_int b c;exact⟨d,rfl,aP e⟩
end
section
variable {H:Type} {enc:TypeId×Value->H} {P:Program} {w:World} {held:Bool} {r:Reach} {b0:Nat} {v:Value} {d:DataW H} {ps:List MemPlace}
def ON(b:P.underlying g=some (.int .i64))(c:Value.okWide P w r b0 g v)(e:DataW.Trod enc P w 0 (λ_=>true) held g v d ps):∃a,v= XH a/\aN a:=by
 obtain⟨a,rfl,-,-,f⟩:=open_int b c e;exact⟨a,rfl,aP f⟩
def Tc{b:ju j}{bytes:Nat}(h:P.underlying g=some (.slice o))(l:P.cellsOf o=b.k)(m:0<b.k)(n:P.bytesOf o=bytes)(p:Reads P b o)(q:Value.okWide P w r b0 g v)(s:DataW.Trod enc P w 0 (λ_=>true) held g v d ps)(t:iP P g d):
  ∃e c a f,v= .slice e c a/\c<=a/\(e=none->c=0/\a=0)/\Row b bytes w (In w) e c f:=by
 obtain⟨e,c,b,rfl⟩:=okWide_slice h q;obtain⟨i,u⟩:=s;obtain⟨y,z,A,f,k,x⟩:=open_row h l m n p u t;simp only[Value.cells]at k
 cases k
 exact⟨_,_,_,f,rfl,x⟩
end
variable{p:Array Value}{a5:Func}{f9:List MemPlace}{b k:World}
def ai.below(P:ai b k):Below b.heap.size b k:=⟨P.os,P.tape,P.output,P.size,λa c=>P.block a c id⟩
section
variable {H:Type} {enc:TypeId×Value->H} {P:Program}
def ux(j:laidOutB P=true){f k:World}(l:ai f k){m:Nat->Bool}:∀{c:List TypeId} {n:List Value} {o:List (DataW H)} {d:List MemPlace},c.all (λg=>P.readableRec g&&decide (g<P.types.size))=true->(∀a∈d,a.block<f.heap.size)->(∀a∈d,m a.block=true)->
  DataW.TrodAll enc P f 0 (λ_=>true) true c n o d->DataW.TrodAll enc P k 0 m true c n o d
 |[],_,_,_,_,_,_,b=>by
  obtain⟨rfl,rfl,rfl⟩:=trodAll_nil b;exact trodAll_mk0
 |g::c,_,_,_,e,p,q,b=>by
  obtain⟨t,u,v,w,x,y,rfl,rfl,rfl,r,s⟩:=trodAll_cons b;simp only[List.all_cons,QK,Zk]at e;refine trodAll_cons_mk (WideElems.Trod_stays j e.1.1 e.1.2 r (λh i=>l.below.same (p h (ZV _ i))) λh i=>q h (ZV _ i)) (ux j l (by simpa using e.2) (λa b=>p a (ZW _ b)) (λa b=>q a (ZW _ b)) s)
def MB{d:ChangeSpec}{f n:List (DataW H)}{tb:TypeId}{a i E j:Bool}(F:laidOutB P=true)(u:a5.resultTypes= #[tb])(v:P.underlying tb=some .bool)(w:d.vars=[])(I:(d.fn H (f++n)).results=[.lit (.bool true)])(J:(d.fn H (f++n)).args=f)(K:(d.fn H (f++n)).vars=[])(L:a5.params.toList.all (λx=>P.readableRec x&&decide (x<P.types.size))=true)(o:DataW.Whole enc P a5.params.toList d.vars a b p.toList f n f9)(q:ai b k):d.post enc P a5 a i E j b p (.bool true) k:=by
 have M:=o;have r:=λc e=>o.lt c e;obtain⟨c,V,N,y,O,Q,R⟩:=o;rw[w]at y;obtain⟨rfl,rfl⟩:=trodVars_none y;obtain rfl:f9=c:=by simpa using O
 have z:∀g:Nat->Bool,(∀c∈f9,g c.block=true)->DataW.TrodAll enc P k 0 g true a5.params.toList p.toList (d.fn H (f++[])).args f9:=λg S=>by
  rw[J];exact ux F q L (λs t=>by simpa using r s t) (λs t=>S s t) N
 have A:∀(h:Nat) (g:Nat->Bool) (B:Bool),DataW.TrodAll enc P k h g B a5.resultTypes.toList ((Value.bool true).resultList a5.resultTypes.size) (d.fn H (f++[])).results []:=λh g B=>by
  rw[u,I];exact trodAll_cons_mk (shut_bool v _) trodAll_mk0
 have C:∀g:Nat->Bool,DataW.TrodVars enc P k g d.vars (d.fn H (f++[])).vars []:=λg=>by rw[K,w];exact rfl
 have T:∀c∈f9,(λh=>decide (h<b.heap.size)) c.block=true:=λc e=>by simpa using r c e
 refine⟨f,[],f9,[],f9,[],M,A _ _ _,z _ T,C _,World.keptBut_mono (λc e=>⟨e,Or.inr (by simpa using e)⟩) (q.below.frame (·∈f9)),λ_=>?_⟩;refine⟨ok_one u rfl (okWide_bool_mk v _),_,_,([]++f9)++[],⟨[]++f9,[],trodAll_append (z _ (λ_ _=>rfl)) (A _ _ _),C _,rfl,?_,?_⟩,?_⟩
 ·intro h l e
  have m:MemPlace.cell h l∈f9:=by simpa using e
  rw[q.below.frozen (p:=⟨h,l,none⟩) (r _ m)];exact Q h l (by simpa using m)
 ·intro U
  simpa using R U
 ·intro c e _
  simpa using e
end
end Go.aw
namespace Go.Proofs.YtblabbpipmodgaaGreatDoor
open Go.aw
def aW(b a:World)(e:Nat)(D:al)(c:XN):Prop:=∃d,aU a e d D/\ai b a/\(∀P,d P->b.heap.size<=P/\¬c P)/\∀P,c P->P<a.heap.size
abbrev no:XN:=λ_=>False
abbrev dF(P:XN):XN:=λa=>¬P a
variable{v:ByteArray}{y:FuncId}{e:Int}{d4:Int×al}{a c:Nat}{f:XN}{d:ZH}
section
variable {w0 w w1 w':World} {p:Nat} {D D':al} {X Y:XN}
def aW.gr(P:aW w0 w p D X):ai w0 w:=by obtain⟨b,c,a,d,e⟩:=P;exact a
def aW.ok(P:aW w0 w p D X):D.Ok:=by obtain⟨b,a,c,d,e⟩:=P;exact a.ok
def aW.ah(a:aW w0 w p D X)(P:ai w w'):aW w0 w' p D X:=by
 obtain⟨b,c,d,e,f⟩:=a;exact⟨b,c.ah P,d.ah P,e,λg h=>Qk (f g h) P.size⟩
def aW.mono(d:aW w0 w p D X)(b:∀P,Y P->X P):aW w0 w p D Y:=by
 obtain⟨e,f,g,c,h⟩:=d;exact⟨e,f,g,λP a=>⟨(c P a).1,λi=>(c P a).2 (b P i)⟩,λP a=>h P (b P a)⟩
def aW.add(a:aW w0 w p D X)(c:ai w w')(d:∀P,Y P->w.heap.size<=P/\P<w'.heap.size):aW w0 w' p D (λP=>X P\/Y P):=by
 obtain⟨g,e,h,f,i⟩:=a;exact⟨g,e.ah c,h.ah c,λP b=>⟨(f P b).1,λj=>j.elim (f P b).2 λk=>by have:=e.aF P b;have:=(d P k).1;omega⟩,λP b=>b.elim (λa=>Qk (i P a) c.size) λa=>(d P a).2⟩
def aW.of(b:ai w0 w)(c:ai w w')(g:aU w' p f D)(d:∀P,f P->w.heap.size<=P)(e:∀P,X P->P<w.heap.size):aW w0 w' p D X:=
 ⟨f,g,b.ah c,λP a=>⟨Xx b.size (d P a),λh=>by have:=d P a;have:=e P h;omega⟩,λP a=>Qk (e P a) c.size⟩
def my(w0 w:World)(p:Nat)(X:XN)(P:Int×al)(a:Value)(w':World):Prop:=a= XH P.1/\aW w0 w' p P.2 X/\ak (dF X) w w'
def aW.Uq{b:Array Value}(g:aW w0 w p D X)(f:ai w w1)(k:∀c,aU w1 p c D->(∀P,c P->w0.heap.size<=P/\P<w.heap.size/\¬X P)->ZG y b w1 (Ok (uk w1 p c d4))):ZG y b w1 (Ok (my w0 w1 p X d4)):=by
 obtain⟨c,h,i,d,j⟩:=g;refine Calls.ok (k c (h.ah f) λP a=>⟨(d P a).1,h.aF P a,(d P a).2⟩) ?_;rintro q w' ⟨l,m,n,e⟩;have:=f.size;have:=i.size;have:=e.af.size;exact⟨m,⟨l,n,(i.ah f).new e.af λP a=>.inr (d P a).1,λP a=>(e.new P a).elim (d P) λg=>⟨oM,λo=>by have:=j P o;omega⟩,λP a=>by have:=j P a;omega⟩,e.af.mono λP _ a=>(d P a).2⟩
def aW.call{P:Array Value}(c:aW w0 w p D X)(d:∀b,aU w p b D->(∀a,b a->w0.heap.size<=a/\a<w.heap.size/\¬X a)->ZG y P w (Ok (uk w p b d4))):ZG y P w (Ok (my w0 w p X d4)):=c.Uq (ak.refl w) d
def aW.append{g:List UInt8}(b:aW w0 w p D X)(e:Row fz 1 w f d a g)(k:d=none->a=0/\c=0)(h:∀P,f P->P<w0.heap.size\/X P):
  ZG 156 #[XL p,.string v,.slice d a c] w (Ok (my w0 w p X (D.append v g))):=by
 have q:=b.gr.size;have l:∀P,X P->P<w.heap.size:=by obtain⟨m,r,s,t,n⟩:=b;exact n
 exact b.call λm o i=>wS o e k λP e=>⟨(h P e).elim (λb=>oM) (l P),λj=>(h P e).elim (λb=>by have:=(i P j).1;omega) (i P j).2.2⟩
def aW.create(P:aW w0 w p D X):ZG 169 #[XL p,.string v] w (Ok (my w0 w p X (D.create v))):=P.call λb a _=>wR a
def aW.sync(P:aW w0 w p D X):ZG 158 #[XL p,.string v] w (Ok (my w0 w p X (D.sync v))):=P.call λb a _=>CS a
def aW.GX{k:ByteArray}(P:aW w0 w p D X):ZG 188 #[XL p,.string k,XH e] w (Ok (my w0 w p X (D.GX k e))):=P.call λb a _=>Ou a
def aW.delete(P:aW w0 w p D X):ZG 119 #[XL p,.string v] w (Ok (my w0 w p X (D.delete v))):=P.call λb a _=>wQ a
def aW.read{k:ByteArray}(l:aW w0 w p D X):ZG 181 #[XL p,.string k] w (Ok λe w'=>∃b c d a,e= .tuple #[.slice b c d,XH (D.read k).2]/\aT fz 5 a w' b c d (D.read k).1/\(∀P,a P->w.heap.size<=P)/\aW w0 w' p D (λP=>X P\/a P)/\ai w w'):=by
 obtain⟨a,f,m⟩:=l;refine Calls.ok (vZ f) ?_;rintro e w' ⟨n,rfl,b,c,d,G,rfl,g,h,i⟩;exact⟨b,c,d,G,rfl,g,i,aW.add ⟨a,f,m⟩ h λP j=>⟨i P j,g.aF P j⟩,h⟩
def aW.list(k:aW w0 w p D X):ZG 176 #[XL p] w (Ok λe w'=>∃b c d a,e= .slice b c d/\aT Mu 9 a w' b c d D.list/\(∀P,a P->w.heap.size<=P)/\aW w0 w' p D (λP=>X P\/a P)/\ai w w'):=by
 obtain⟨a,f,l⟩:=k;refine Calls.ok (v_ f) ?_;rintro e w' ⟨b,c,d,G,rfl,g,h,i⟩;exact⟨b,c,d,G,rfl,g,i,aW.add ⟨a,f,l⟩ h λP j=>⟨i P j,g.aF P j⟩,h⟩
end
def eY(P:Nat):al:=⟨P,[],false,0,false⟩
variable{z:XT}{t:List Int}{b k:World}
def se(h:ai b k)(m:64<=e)(n:e<=262144):ZG 34 #[XH e] k (Ok λc a=>∃P,c= .tuple #[XL P,XH 0]/\aW b a P (eY e.toNat) (λd=>d<k.heap.size)/\ai k a):=by
 refine Calls.ok Mv ?_;intro c a f;rw[Zq oM]at f;obtain⟨P,o,rfl,i,g,j⟩:=f;exact⟨P,rfl,aW.of h g i j λd l=>l,g⟩
def Hm{D:al}(P:D.Ok)(a:ByteArray):(D.read a).1.length<=262144:=by
 unfold al.read;split
 ·simp
 ·split
  ·simp
  ·rename_i c b;exact P.len (bW b)
def nA:ByteArray:=⟨#[97]⟩
open Go.aw Go.ChangeShapes Go.WideShapes Go.ChangeAt Go.RowKit
section
variable {w0 w w1 w':World} {p:Nat} {D D':al} {X Y:XN}
def aW.bt(b:aW w0 w p D X)(h:pg w0)(k:Row aM 8 w f d a t)(l:∀m∈t,aN m)(i:∀P,f P->P<w0.heap.size\/X P):
  ZG 139 #[XL p,.agg #[.slice d a c]] w (Ok (my w0 w p X (bt D t))):=by
 have s:=b.gr.size;have n:∀P,X P->P<w.heap.size:=by obtain⟨o,u,v,x,q⟩:=b;exact q
 have y:=h.lt;exact b.call λo r g=>AT (h.ah b.gr) r k l (λP e=>⟨(i P e).elim (λb=>oM) (n P),λj=>(i P e).elim (λb=>by have:=(g P j).1;omega) (g P j).2.2⟩) λP e=>by have:=(g P e).1;omega
def aW.jg(d:aW w0 w p D X)(k:pg w0):ZG 136 #[XL p] w (Ok λe w'=>∃a b c G,e= .tuple #[.agg #[.slice a b c],.bool (eJ D).isSome]/\aT aM 3 G w' a b c ((eJ D).getD [])/\
  (∀P,G P->w.heap.size<=P)/\aW w0 w' p D (λP=>X P\/G P)/\ai w w'):=by
 have l:=d.gr;obtain⟨m,f,n⟩:=d;refine Calls.ok (Cr (k.ah l) f) ?_;rintro e w' ⟨a,b,c,G,rfl,g,h,i⟩;exact⟨a,b,c,G,rfl,g,i,aW.add ⟨m,f,n⟩ h λP j=>⟨i P j,g.aF P j⟩,h⟩
end
def Ls{D:XN}{a bytes:Nat}(c:Row aM bytes b D d a t):∀P∈t,aN P:=λP e=>by
 obtain⟨f,g⟩:=List.mem_iff_getElem?.1 e;obtain⟨j,h,k,-,-,-,-,i⟩:=c.el f P g;exact i.2
def CL{D:al}:((eJ D).getD []).length<=64:=by
 unfold eJ;split
 ·simp
 ·cases P:jg (D.read cJ).1 with
  |none=>simp
  |some a=>exact(MW P).2
def tn:(aS==cJ)=false:=by decide+kernel
def QI:cT aS=true:=by decide+kernel
def GU:cT cJ=true:=by decide+kernel
def yg:jC:=⟨[(6,[(8,.slice none 0 0),(9,XH 0)])],[],[],[],[]⟩
def yh(a0:PC_ 120 #[.ii e] b (λa3 a4=>∃o,a3= .string o/\PC_ 181 #[.pointer d,.string o] a4 (λa5 p=>∃q l m r,a5= .tuple #[.slice q l m,.ii r]/\an (r !=0) (rt z ((.tuple #[.slice none 0 0,.ii 0])) p) ((∃n:Nat->ZH->Nat->Nat->Int->XU,(∃k,n k none 0 0 0 p)/\∀(k:Nat) (f:ZH) (g:Nat) (h:Nat) (c:Int) (c9:Nat->Value) (s:World),n k f g h c s->((0:Int)<=c/\(c:Int)<=(l:Int)/\PC_ 182 #[.slice (cx q (Int.toNat c) m 1) (l-Int.toNat c) (m-Int.toNat c)] s (λa6 i=>∃t u v w x y,a6= .tuple #[.agg #[.ii t,.slice u v w],.ii x,.ii y]/\PA i (.cells #[.ii 0,.slice none 0 0] 292) λa7=>PS a7 (ab_ i 0) (.ii t) λa8=>PS a8 (ab_ i (0+1)) (.slice u v w) λj=>an (y !=0) (rt z ((.tuple #[.slice f g h,.ii c])) j) ((rI j (ab_ i 0) λa9=>an (a9 !=1) (rt z ((.tuple #[.slice f g h,.ii c])) j) ((rS j (ab_ i (0+1)) λb0 b1 b2=>PC_ 257 #[.slice b0 b1 b2] j (λb3 P=>∃A B D C E G F H I J K L M,b3= .tuple #[.agg #[.ii A,.ii B,.ii D,.slice C E G,.ii F,.ii H,.ii I,.ii J,.ii K,.ii L],.ii M]/\PA P (.cells #[.ii 0,.ii 0,.ii 0,.slice none 0 0,.ii 0,.ii 0,.ii 0,.ii 0,.ii 0,.ii 0] 55) λb4=>PS b4 (ab_ P 0) (.ii A) λb5=>PS b5 (ab_ P (0+1)) (.ii B) λb6=>PS b6 (ab_ P (0+2)) (.ii D) λb7=>PS b7 (ab_ P (0+3)) (.slice C E G) λb8=>PS b8 (ab_ P (0+4)) (.ii F) λb9=>PS b9 (ab_ P (0+5)) (.ii H) λc0=>PS c0 (ab_ P (0+6)) (.ii I) λc1=>PS c1 (ab_ P (0+7)) (.ii J) λc2=>PS c2 (ab_ P (0+8)) (.ii K) λc3=>PS c3 (ab_ P (0+9)) (.ii L) λa=>an (M !=0) (rt z ((.tuple #[.slice f g h,.ii c])) a) ((∃N O Q R S T U V W X Y Z,a.cell? (ab_ P 0)=some (.ii N)/\a.cell? (ab_ P (0+1))=some (.ii O)/\a.cell? (ab_ P (0+2))=some (.ii Q)/\a.cell? (ab_ P (0+3))=some (.slice R S T)/\a.cell? (ab_ P (0+4))=some (.ii U)/\a.cell? (ab_ P (0+5))=some (.ii V)/\a.cell? (ab_ P (0+6))=some (.ii W)/\a.cell? (ab_ P (0+7))=some (.ii X)/\a.cell? (ab_ P (0+8))=some (.ii Y)/\a.cell? (ab_ P (0+9))=some (.ii Z)/\PA a (.cells #[.ii N,.ii O,.ii Q,.slice R S T,.ii U,.ii V,.ii W,.ii X,.ii Y,.ii Z] 55) λc4=>PR_ (ap_ 50 (.slice f g h) (.slice (some (ab_ a 0)) 1 1)) c4 (kS_ λc5 c6 c7 c8=>(∃a2,a2<k/\n a2 c5 c6 c7 (XG .i64 (c+x)) c8)) (pV z)))) (pE z)))))) (pE z))))) (pE z)) (pE z)):ZG 187 #[.pointer d,.ii e] b z:=DC yg Tryz.func187 rfl a0
end Go.Proofs.YtblabbpipmodgaaGreatDoor
namespace Go.aw
open Go
variable{C:List aj}{a c:Nat}{m:aj}
def pC(P:m.Ok)(a:m.aQ.length<=64):fQ m=(vS m,0):=by
 have d:=Lr P a;have b:ir m=(bT (jY m),0):=by unfold ir;rw[Zq oM]
 have c:jy 1 (bT (jY m))=(vS m,0):=by unfold jy vS;rw[Zq dC,Zq oM]
 unfold fQ;rw[b];simp only;rw[c];simp
def wL(a:¬m.aQ.length<=64):fQ m=([],3):=by
 have P:ir m=([],3):=by unfold ir;rw[Zx oM]
 unfold fQ;rw[P];simp
def ends(P:List aj):List Int:=(List.range P.length).map λa=>((aG (P.take (a+1))).length:Int)
def Ka(P:a<=c):(aG (C.take a)).length<=(aG (C.take c)).length:=by
 have:C.take c=C.take a++(C.take c).drop a:=by
  conv=>lhs;rw[<-ZX a (C.take c)]
  rw[List.take_take,X2 P]
 rw[this,jF,QX];omega
def GN(a:∀P∈C,P.Ok/\P.aQ.length<=64):(aG C).length<=675*C.length:=by
 induction C with
 |nil=>simp[aG]
 |cons P C b=>
  rw[KB,QX,Xq];have e:=Ir (a P (QV ..)).1 (a P (QV ..)).2;have f:=b λc d=>a c (QJ _ d);omega
end Go.aw
namespace Go.Proofs.YtblabbpipmodgaaGreatDoor
open Go.aw
variable{e:Int}
def Hy(c:0<=e)(d:e<1000000000000):cT (⟨(ax e).toArray⟩:ByteArray)=true:=by
 have f:=Bm e;have g:=tl e.toNat;have b:=lq c d;have h:(⟨(ax e).toArray⟩:ByteArray).size=(ax e).length:=by simp[ByteArray.size]
 unfold cT;rw[h,QK,QK,Zk,Zk];refine⟨⟨by rw[b,QX];show 1<=4+_;omega,f⟩,?_⟩;show(ax e).all eg=true;rw[b,List.all_append,QK];refine⟨dC,ZY.2 λP a=>?_⟩;have:=ZY.1 g.2.1 P a;have i:∀P:UInt8,fP P=true->eg P=true:=by
  intro P;have j:(List.range 256).all (λe=>!(fP (UInt8.ofNat e))||eg (UInt8.ofNat e))=true:=by decide+kernel
  have:=ZY.1 j P.toNat (List.mem_range.2 P.toNat_lt);rw[UInt8.ofNat_toNat]at this;intro k;rw[k]at this;simpa using this
 exact i P this
end Go.Proofs.YtblabbpipmodgaaGreatDoor
namespace Go.aw
open Go
end Go.aw
namespace Go.Proofs.YtblabbpipmodgaaGreatDoor
open Go.aw
variable{C:List aj}{a c:Nat}{f:XN}{d:ZH}{j:Type}{b:World}{m:aj}
def CM{D:XN}(r:Laid b)(s:Row aM 8 b D d a m.aQ)(j:m.Ok)(t:∀e,D e->e<b.heap.size):
  ZG 155 #[.agg (aD m d a c).toArray] b (Ok λu k=>∃l n o p,u= .tuple #[.slice l n o,XH (fQ m).2]/\aT fz 5 p k l n o (fQ m).1/\ai b k/\∀e,p e->b.heap.size<=e):=by
 refine xX (PA.mk λC f E P=>?_);refine⟨_,_,_,_,_,_,_,_,_,_,_,_,ae P rfl,ae P rfl,ae P rfl,ae P rfl,ae P rfl,ae P rfl,ae P rfl,ae P rfl,ae P rfl,ae P rfl,
  PC.ok (My (s.ah f) j λe i=>Qk (t e i) f.size) ?_⟩
 rintro _ v ⟨_,rfl,F,H,I,J,rfl,q,g,K⟩;refine⟨_,_,_,_,rfl,an.dI (λw=>?_) (λx=>?_)⟩
 ·rw[show fQ m=([],(ir m).2) by unfold fQ;rw[Zx w]]
  exact Ok.mk ⟨none,0,0,λ_=>False,rfl,aT.nil v,f.then g,λ_ h=>h.elim⟩
 rw[show fQ m=jy 1 (ir m).1 by unfold fQ;rw[Zq (by simpa using x)]];have L:(ir m).1.length<=666:=by
  by_cases h:64<m.aQ.length
  ·simp[ir,h]
  ·have:=Lr j oM
   simpa[ir,h]using this
 refine PC.ok (CY (r.ah (f.then g)).mW (q.row (bytes:=1) dC ba) q.aF) ?_;rintro _ M ⟨_,rfl,N,O,Q,y,rfl,z,A,B⟩;refine⟨_,_,_,_,rfl,Ok.mk ⟨_,_,_,y,rfl,z,(f.then g).then A,λe i=>?_⟩⟩;have:=B e i;have:=(f.then g).size;omega
def PJ{P:List j}(c:P.length=a)(b:Nat):(P.take a).drop b=P.drop b:=by rw[Qz oM]
def Pm{D:al}{no:Int}(O:Laid b)(Q:aU b a f D)(hn:aN no):
  ZG 187 #[XL a,XH no] b (Ok λB e=>∃o p q G,B= .tuple #[.slice o p q,XH ((bZ (D.read (cE (ax no))).1).2:Int)]/\
   aT pK 55 G e o p q (bZ (D.read (cE (ax no))).1).1/\ai b e/\(∀c,G c->b.heap.size<=c)/\(bZ (D.read (cE (ax no))).1).1.length<=262144):=by
 refine yh (PC.ok (iM O hn) ?_);rintro _ w1 ⟨rfl,u⟩;refine⟨_,rfl,PC.ok (vZ (Q.ah u)) ?_⟩;rintro _ r ⟨_,rfl,a4,R,c2,F2,rfl,m,C,c3⟩;have S:=Hm Q.ok (cE (ax no));have E:(D.read (cE (ax no))).2≠0->(D.read (cE (ax no))).1=[]:=by
  unfold al.read;split
  ·intro _;rfl
  ·split
   ·intro _;rfl
   ·intro h;exact Zz rfl h
 generalize D.read (cE (ax no))=rd at m S E;obtain⟨d,er⟩:=rd;simp only at m S E⊢;refine⟨_,_,_,_,rfl,an.dI (λl=>?_) (λhe=>?_)⟩
 ·rw[E l,Ip]
  exact Ok.mk ⟨none,0,0,λ_=>False,rfl,aT.nil r,u.then C,λ_ h=>h.elim,sM⟩
 have b2:=m.len dC;have b3:=m.jN;have a9:Row fz 1 r F2 a4 R d:=m.row dC ba;refine⟨λT v w y F e=>∃(P:Nat) (i:List aj) (G:XN),F=P/\P<=d.length/\T=d.length-P/\bZ d=(i++(bZ (d.drop P)).1,P+(bZ (d.drop P)).2)/\i.length<=P/\
  aT pK 55 G e v w y i/\ai r e/\∀c,G c->r.heap.size<=c,⟨_,0,[],λ_=>False,rfl,Qj _,rfl,sM,sM,aT.nil r,ak.refl _,λ_ h=>h.elim⟩,?_⟩
 rintro T v w y _ _ U ⟨P,i,G,rfl,c5,rfl,V,c6,s,n,H⟩;refine⟨oM,oM,?_⟩;have W:ai b U:=(u.then C).then n;have X:=(a9.ah n).part (lo:=P) (hi:=R) (cap:=c2) oM (Q4 _) b3;rw[PJ b2.symm]at X;rw[Qx];refine PC.ok (CZ (O.ah W).mW X oM λc g=>by have:=m.aF c g;have:=n.size;omega) ?_;rintro _ I ⟨b0,n4,c4,F4,rfl,b4,z,c8⟩;have j:¬((bw (d.drop P)).no=0/\(bw (d.drop P)).kind=1/\(iQ (bw (d.drop P)).body).2=0)->∀e,ai I e->
   Ok (λB e=>∃o p q G,B= .tuple #[.slice o p q,XH ((bZ d).2:Int)]/\aT pK 55 G e o p q (bZ d).1/\ai b e/\(∀c,G c->b.heap.size<=c)/\(bZ d).1.length<=262144) (.returned (.tuple #[.slice v w y,XH (P:Int)])) e:=by
  intro h e Y;rw[V,Bl h];refine Ok.mk ⟨v,w,y,G,sM,by simpa using(s.ah z).ah Y,(W.then z).then Y,λc g=>?_,by simp;omega⟩;have:=H c g;have:=(u.then C).size;omega
 refine⟨_,_,_,_,_,_,rfl,PA.mk λw5 k5 s5 g5=>?_⟩;refine storeAll [XH (bw (d.drop P)).kind,.slice b0 n4 c4] g5 rfl λJ k6 s6 Z=>?_;have t:ai I J:=k5.new k6 λc g=>.inr oM;refine an.dI (λl=>j (λh=>l h.1) J t) (λa0=>?_);refine⟨_,ae Z rfl,an.dI (λl=>j (λh=>l h.2.1) J t) (λb1=>?_)⟩;obtain⟨b5,h9,c9⟩:=uw a0;rw[XZ]at b5;have a1:=b4.ah t;refine⟨_,_,_,ae Z rfl,PC.ok (Mz (a1.row (bytes:=1) dC ba) a1.aF) ?_⟩;rintro _ w7 ⟨a7,n7,c7,F7,rfl,K,k7,a3⟩;obtain⟨L,a5⟩:=PK (bw (d.drop P)).body;generalize M:iQ (bw (d.drop P)).body=b6 at K L a5;obtain⟨x,xe⟩:=b6;simp only at K L a5;refine⟨_,_,_,_,_,_,_,_,_,_,_,_,_,rfl,PA.mk λw8 k8 s8 g8=>?_⟩;refine storeAll (aD x a7 n7 c7) g8 rfl λA k9 s9 k=>?_;have a6:ai w7 A:=k8.new k9 λc g=>.inr oM;have a8:ai I A:=(t.then k7).then a6;refine an.dI (λl=>j (λh=>l (by have:=h.2.2;rw[M]at this;exact this)) A a8) (λb7=>?_);refine⟨_,_,_,_,_,_,_,_,_,_,_,_,ae k rfl,ae k rfl,ae k rfl,ae k rfl,ae k rfl,ae k rfl,ae k rfl,ae k rfl,ae k rfl,ae k rfl,?_⟩;have N:ai U A:=z.then a8;have b8:=s.ah N;have a2:=K.ah a6;have d0:=(z.then t).size;refine Gc b8 FV (x:=x) (D:=F7) ⟨a7,n7,c7,F7,rfl,a2,λ_ h=>h,L,by unfold aO;omega⟩ (λc g=>⟨a2.aF c g,λhc=>?_⟩) ba (by unfold maxLen;omega) λa' c' d1 F' b9 c0 c1 _=>?_
 ·have h1:=s.aF c (s.self c hc)
  have h2:=a3 c g;omega
 refine⟨_,_,_,rfl,_,?_,P+(bw (d.drop P)).n,i++[x],F',?_,oM,rfl,?_,by simp;omega,b9,?_,?_⟩
 ·omega
 ·rw[wrap_i64 bb];omega
 ·rw[V,Iq ⟨a0,b1,by rw[M];exact b7⟩,M,List.drop_drop]
  simp only[XQ,List.cons_append,List.nil_append,Nat.add_assoc]
 ·exact(n.then N).new c0 λc g=>.inr (H c (s.self c g))
 ·intro c g
  have hz:=(n.then N).size;have d2:=n.size;rcases c1 c g with h|h|h
  ·exact H c h
  ·have:=a3 c h;omega
  ·omega
def Cx{D:XN}(x:Row aM 8 b D d a m.aQ):
  ZG 44 #[.agg (aD m d a c).toArray] b (Ok λy p=>∃q r s t,y= .agg (aD m q r s).toArray/\aT aM 3 t p q r s m.aQ/\ai b p/\∀P,t P->b.heap.size<=P):=by
 refine xU (PA.mk λL z M u=>PA.mk λA h N B=>?_);have v:ai b A:=z.then h;refine⟨_,_,_,ae (h.get u id) rfl,PC.ok (rJ (x.ah v)) ?_⟩;rintro _ O ⟨i,j,k,C,rfl,E,l,n⟩;have F:=l.get (h.get u id) id;have H:=l.get B id;refine⟨_,_,_,rfl,PS.mk F sM λI o Q J=>?_⟩;have e:I.heap[b.heap.size]? =some (.cells (aD m i j k).toArray 55 (0,0)):=by rw[J];rfl
 have K:=o.get H oM;refine⟨_,_,_,_,_,_,_,_,_,_,_,_,ae e rfl,ae e rfl,ae e rfl,ae e rfl,ae e rfl,ae e rfl,ae e rfl,ae e rfl,ae e rfl,ae e rfl,?_⟩;refine storeAll (aD m i j k) K rfl λR w S f=>?_;refine⟨_,_,_,_,_,_,_,_,_,_,_,_,ae f rfl,ae f rfl,ae f rfl,ae f rfl,ae f rfl,ae f rfl,ae f rfl,ae f rfl,ae f rfl,ae f rfl,
  Ok.mk ⟨i,j,k,C,rfl,?_,?_,λP g=>by have:=n P g;omega⟩⟩
 ·exact(E.af o λP g m=>by have:=n P g;omega).af w λP g m=>by have:=n P g;omega
 ·exact((v.then l).new o λP g=>.inr oM).new w λP g=>.inr oM
def Av{D:XN}(m:Row h_ 96 b D d a C)(E:∀F∈C,F.aQ.length<=100):
  ZG 15 #[.slice d a c] b (Ok (oK pK 55 b C)):=by
 have T:=m.len;have H:=m.dB;unfold aO at H;refine vB ⟨λr s e t i u=>i=(e:Int)/\e<=a/\r=a-e/\∃l,aT pK 55 l u s e t (C.take e)/\ai b u/\∀P,l P->b.heap.size<=P,
  ⟨_,rfl,Qj _,rfl,λ_=>False,by simpa using aT.nil b,ak.refl _,λ_ h=>h.elim⟩,?_⟩
 rintro r s e t i _ U ⟨rfl,V,rfl,l,g,k,n⟩;refine an.dec (λv=>?_) (λv=>?_)
 ·obtain⟨P,o,w,W,rfl,_,_,x,p,X,Y,Z,rfl,I,J⟩:=(m.ah k).wK (i:=e) oM
  have y:(C.take e).length=e:=by simp;omega
  have f:=λi (K:i<10)=>p i K;refine⟨P,o,rfl,oM,oM,_,_,_,_,_,_,_,_,_,_,_,_,f 0 dC,f 1 dC,f 2 dC,f 3 dC,f 4 dC,f 5 dC,f 6 dC,f 7 dC,f 8 dC,f 9 dC,?_⟩;refine PC.ok (Cx I) ?_;rintro _ w2 ⟨L,M,N,z,rfl,A,q,B⟩;have a3:=E w (QZ x);refine⟨_,_,_,_,_,_,_,_,_,_,_,_,rfl,Gc (g.ah q) FV (x:=w) (D:=z) ⟨L,M,N,z,rfl,A,λ_ h=>h,J,by unfold aO;omega⟩ (λP j=>⟨A.aF P j,λp=>?_⟩) (by rw[y];unfold aO;omega) (by rw[y];unfold maxLen;omega) λa' c' w3 O Q R S _=>?_⟩
  ·have v:=g.aF P (g.self P p);have h2:=B P j;omega
  refine⟨_,_,_,rfl,a-(e+1),oM,aq oM,oM,rfl,O,?_,(k.then q).new R λP j=>.inr (n P (g.self P j)),?_⟩
  ·rw[Qw,x];exact Q
  ·intro P j
   have:=k.size;have:=(k.then q).size;rcases S P j with h|h|h
   ·exact n P h
   ·have:=B P h;omega
   ·omega
 ·obtain rfl:e=a:=oM
  rw[Qz oM]at g;exact Ok.mk ⟨_,_,_,l,rfl,g,k,n⟩

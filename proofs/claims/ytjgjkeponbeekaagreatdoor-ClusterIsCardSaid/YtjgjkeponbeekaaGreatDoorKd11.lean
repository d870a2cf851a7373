import Derived.Test.YtjgjkeponbeekaaGreatDoorKd10
import Derived.Lib.AppendIntMem
import Derived.Laws.Concat
import Derived.Shelf.SlSortCmp.WholeK
import Derived.Shelf.SlMaps.Clone
import Derived.Ground.SlsfProg
import Derived.Ground.SlmcProg
import Derived.Shelf.SlGeneric
import Derived.Shelf.SlSortCmp.NoneTotal
import Derived.Laws.StructEq
import Derived.Carry
import Derived.SizedLaws
import Derived.WalkKit
import Derived.ProofKit
import Derived.OpenShut
import Derived.Deep.DeepHandedRow
import Derived.Deep.Slices
set_option linter.all false
set_option maxHeartbeats 4000000
set_option maxRecDepth 100000
open Go.IntKind renaming wrap→ZG
namespace Go.Proofs.YtjgjkeponbeekaaGreatDoor
open Go.ar
def gI(n:List (ByteArray×nE)):Nat:=(n.map λP=>P.2.f.bytes.length).sum
def Ey(n:List (ByteArray×nE)):gI n=ez (n.map vv):=by unfold gI ez;rw[List.map_map];rfl
variable{x:ByteArray}{g1 h3:List (ByteArray×Value)}{a3:List (ByteArray×nE)}{y:List UInt8}{a c i:Nat}{a5 f:ZN}{d:YQ}{j:Type}{w:Value}{b:World}
def xC{left:List (ByteArray×nE)}(c:left.map dR=g1++(x,w)::h3):
  ∃n P a,left=n++(x,P)::a/\g1=n.map dR/\h3=a.map dR/\w=ptr P.q:=by
 obtain⟨n,j,d,e,f⟩:=List.map_eq_append_iff.1 c;obtain⟨g,a,h,b,i⟩:=List.map_eq_cons_iff.1 f;obtain⟨k,P⟩:=g;simp only[dR,Prod.mk.injEq]at b;obtain⟨rfl,rfl⟩:=b;exact⟨n,P,a,by rw[d,h],e.symm,i.symm,rfl⟩
def NU{D:an}(g:aO b a f D):
  YX 239 #[ZL a] b (Ok λj h=>j= ZH D.room/\ai b h):=by
 obtain⟨k,P,c⟩:=g.open;have Q:=c.ok.most;have l:=c.ok.fits;unfold an.used at l;rw[c.files,<-Ey]at l;refine uZ ⟨a,0,rfl,_,ae c.head rfl,a,0,rfl,some k,ae c.head rfl,mapRange mF c.map λR v w S=>?_⟩;refine⟨λm o h=>∃left:List (ByteArray×nE),cD h b.heap.size k Value.string (P.map dR) (left.map dR)/\m=left.length/\o=(D.most:Int)-gI P+gI left/\gI left<=gI P/\ai b h/\∀n∈left,n∈P,
  ⟨_,P,v,rfl,oM,Q4 _,w,λ_ g=>g⟩,?_⟩
 rintro m o T U ⟨left,x,rfl,rfl,V,p,q⟩;refine nH x (λy=>.inl ⟨rfl,Ok.mk ⟨?_,p⟩⟩) λi j W X r z A B C Y=>.inr ⟨_,_,rfl,qM B ?_⟩
 ·have:left=[]:=by simpa using y
  subst this;simp only[gI,List.map_nil,List.sum_nil,an.room,an.used];rw[c.files,<-Ey];simp[gI]
 ·obtain⟨e,n,d,rfl,rfl,rfl,rfl⟩:=xC z
  have E:(i,n)∈P:=q _ sM;have s:ai b r:=p.new C λd Z=>.inr oM;have F:dW r n.q n.G n.f:=(c.each.each _ E).af s λ_ _ g=>g;obtain⟨H,t,I,F0,J,K,h3,h4⟩:=F.body;have L:=K.len dC;have M:gI (e++(i,n)::d)=gI (e++d)+n.f.bytes.length:=by simp[gI];omega
  have N:ZG .i64 ((D.most:Int)-gI P+gI (e++(i,n)::d)-((t:Nat):Int))=(D.most:Int)-gI P+gI (e++d):=by
   rw[wrap_i64 (by unfold aJ;omega),L,M];omega
  refine⟨_,_,rfl,n.q,0,rfl,H,t,I,ae J rfl,(e++d).length,sM,e++d,?_,rfl,N,oM,s,λO u=>q O ?_⟩
  ·rw[Q3];exact A
  ·simp only[Q6,Q2]at u⊢;exact u.imp id .inr
def yv{D:an}(h:aO b a f D)(P:Row fP 1 b a5 d c y)(X:d=none->c=0/\i=0)(v:∀n,a5 n->n<b.heap.size/\¬f n):
  YX 178 #[ZL a,.string x,.slice d c i] b (Ok (vw b a f (D.append x y))):=by
 have K:=P.len;have Y:=P.ef;unfold aK at Y;refine sj (PA.mk λw1 w s1 L=>PA.mk λw2 k s2 Z=>⟨_,ae (k.get L id) rfl,PC.ok (vx ((h.ah w).ah k) (k:=x) (g:=238)
  (body:=λD M=>if(y.length:Int)>D.room then(12,D)else(0,D.gZ x {M with bytes:=M.bytes++y})) kR λhd r a0 b6 e g z s=>?_) λa1 w' h=>lQ a1 w' (w.ah k) h⟩)
 have e1:=s.get (k.get L id) λP=>by have:=h.aC _ P;omega
 have N:=s.get Z λP=>by have:=h.aC _ P;omega
 have a4:Row fP 1 r a5 d c y:=((P.ah w).ah k).af s λn P=>(v n P).2;have A:=g.get z;refine pH λw4 t=>⟨λ_=>False,id,d,c,i,ae (t.af (S:=λ_=>False)|>.get N id) rfl,_,ae (t.af (S:=λ_=>False)|>.get e1 id) rfl,PC.ok (NU (g.ah t.af).at) ?_⟩
 rintro _ w5 ⟨rfl,O⟩;have B:ai r w5:=(aV.af t).then O;refine⟨_,rfl,O,al.dec (λa2=>Ok.mk ?_) (λa6=>λl a7=>?_)⟩
 ·rw[Zx (by rw[<-K];exact a2)]
  exact⟨f,rfl,(g.ah B).at,B.af,λ_ h=>.inl h⟩
 ·have m:ai r l:=B.ah a7.af
  have C:=g.ah m;have Q:=bW z;have E:dW l e.q e.G e.f:=C.each.each _ Q;obtain⟨u,R,fc,F0,F,o,H,S⟩:=E.body;have b7:=o.len dC;have b8:e.f.bytes.length<=262144:=g.ok.len (bW A);have a8:∀n,e.G n->f n/\n≠a/\n≠a0:=C.IH _ Q;refine⟨e.q,0,rfl,u,R,fc,ae F rfl,d,c,i,ae (m.get N id) rfl,?_⟩;have a3:∀n,a5 n->n<l.heap.size/\aD u≠some n:=λn P=>⟨by have:=(v n P).1;have:=s.size;have:=m.size;omega,λj=>(v n P).2 (a8 n (H n (o.self n j))).1⟩
  have b9:D.dS.room<=262144:=by have:=g.ok.most;unfold an.room;omega
  refine Ae o tA (a4.ah m) X a3 (by unfold aK;omega) (by unfold maxLen;omega) λp c' w7 F' I J _ T=>?_;have hq:aD u≠some e.q:=λj=>S (o.self _ j);have c0:=ax F;have q:aD p≠some e.q:=λj=>by rcases T _ j with h|h;exact S h;omega
  refine⟨_,_,_,rfl,e.q,0,rfl,PS.mk (J.get F hq) sM λU V s8 g8=>Ok.mk ?_⟩;have W:¬((y.length:Int)>D.dS.room):=by rw[<-K];exact a6
  rw[Zq W];have a9:∀n,aD u=some n->e.G n:=λn j=>H n (o.self n j);have b0:dW U e.q (λn=>n=e.q\/aD p=some n) {e.f with bytes:=e.f.bytes++y}:=
   ⟨⟨p,R+c,c',λn=>aD p=some n,g8,I.alone.af V (λn P b1=>q (by rw[<-b1];exact P)),λn P=>.inr P,q⟩,.inl rfl,by
    rintro n (rfl|P)
    ·have:=J.size;omega
    ·have:=I.aC n (I.self n P);omega⟩
  have b2:bB e.G l (λn=>n=e.q\/aD p=some n) U:=⟨(J.mono λn _ P=>a9 n P).then (V.mono λn _ P=>P▸E.self),by
   rintro n (rfl|P)
   ·exact .inl E.self
   ·exact(T n P).imp (λh=>H n h) id⟩
  have b3:(D.dS.gZ x {e.f with bytes:=e.f.bytes++y}).Ok:=g.ok.set A (by
   unfold an.room at W;simp only[QX];omega) (by have:=g.ok.RY _ (bW A);simp only[QX];show e.f.synced<=_;have h':e.f.synced<=e.f.bytes.length:=this;omega)
  obtain⟨F2,b4,b5⟩:=C.dT z b0 b2 b3;exact⟨F2,rfl,b4.at,(bB.mk m.af λ_ h=>.inl h:bB f r f l).trans b5⟩
def xD{D:an}(g:aO b a f D):
  YX 162 #[ZL a,.string x] b (Ok λl m=>∃i,l= .tuple #[i,ZH (D.read x).2]/\oZ fP 5 b (D.read x).1 i m):=by
 obtain⟨j,C,P⟩:=g.open;have n:oZ fP 5 b [] (.slice none 0 0) b:=⟨none,0,0,λ_=>False,rfl,aM.nil b,ak.refl _,λ_ g=>g.elim⟩
 rcases P.box x with⟨e,h⟩|⟨d,E,o,e,h⟩
 ·refine lN ⟨a,0,rfl,some j,ae P.head rfl,Ag mF kS P.map ?_⟩
  rw[h];refine⟨_,rfl,a,0,rfl,_,ae P.head rfl,al.mk (λc=>Ok.mk ?_) (λc=>fz uF ⟨_,rfl,al.tt rfl (Ok.mk ?_)⟩)⟩
  ·unfold an.read;rw[c,Zx rfl];exact⟨_,rfl,n⟩
  ·unfold an.read;rw[c,Zq sM,e];exact⟨_,rfl,n⟩
 ·refine lN ⟨a,0,rfl,some j,ae P.head rfl,Ag mF kS P.map ?_⟩
  rw[h];refine⟨_,rfl,a,0,rfl,_,ae P.head rfl,al.mk (λc=>Ok.mk ?_) (λc=>fz uF ⟨_,rfl,al.ff rfl ?_⟩)⟩
  ·unfold an.read;rw[c,Zx rfl];exact⟨_,rfl,n⟩
  ·have p:dW b d.q d.G d.f:=P.each.each _ o
   obtain⟨q,r,s,F,t,k,H,I⟩:=p.body;have J:d.f.bytes.length<=262144:=P.ok.len (bW e);refine⟨d.q,0,rfl,q,r,s,ae t rfl,PC.ok (kM (k.row dC (by unfold aK;omega)) k.aC) ?_⟩;rintro _ K ⟨u,v,w,y,rfl,z,A,B⟩;unfold an.read;rw[c,Zq sM,e];exact⟨_,_,_,rfl,Ok.mk ⟨_,rfl,u,v,w,y,rfl,z,A,B⟩⟩
def xE{D:an}(j:aO b a f D):
  YX 160 #[ZL a] b (Ok (oZ NQ 9 b D.list)):=by
 obtain⟨g,h,n⟩:=j.open;have z:=n.ok.many;have A:h.length=D.files.length:=by rw[n.files];simp
 refine uW ⟨a,0,rfl,some g,ae n.head rfl,PC.ok (φ:=λk d=>k= .func (.func 282) #[] #[ZL b.heap.size]/\ai b d/\d.heap.size=b.heap.size+1/\
  d.heap[b.heap.size]? =some (.cells #[.map (some g)] 141 (0,0))) (dB (PA.mk λl P i e=>Ok.mk ⟨rfl,P,i,e⟩)) ?_⟩
 rintro _ l ⟨rfl,P,i,e⟩;refine⟨_,rfl,PC.ok (zR (n.map.ah P) (λB m=>?_) (by rw[Q8];unfold aK;omega) e) ?_⟩
 ·obtain⟨c,o,rfl⟩:=Xk.1 m
  have:=n.ok.names (vv c) (by rw[n.files];exact Xk.2 ⟨c,o,rfl⟩);unfold iy at this;simp only[QK,Zk]at this;have C:c.1.size<=16:=this.1.2;show c.1.size<=maxLen;unfold maxLen;omega
 ·rintro _ E ⟨p,q,r,s,rfl,t,u,v⟩
  refine⟨_,_,_,rfl,Ok.mk ⟨p,q,r,s,rfl,?_,P.ah u,λw x=>by have:=v w x;omega⟩⟩;have y:vu ((h.map dR).map (·.1))=D.list:=by unfold an.list;rw[n.files,List.map_map,List.map_map];rfl
  rw[<-y];exact t
def IL{n:List (ByteArray×j)}(P:Tidy n)(a:ByteArray):bY n a=n.filter λb=>b.1 !=a:=by
 induction n with
 |nil=>rfl
 |cons f n e=>
  obtain⟨b,k⟩:=f;unfold Tidy at P e;simp only[QY,List.nodup_cons]at P;unfold bY
  by_cases c:(a==b)=true
  ·rw[Zx c]
   have g:a=b:=eq_of_beq c;subst g;rw[List.filter_cons_of_neg sM];exact(List.filter_eq_self.2 λh i=>by
    simp only[bne_iff_ne,ne_eq];intro d;exact P.1 (d▸Xk.2 ⟨h,i,rfl⟩)).symm
  ·rw[Zq c,e P.2,List.filter_cons_of_pos]
   simp only[bne_iff_ne,ne_eq];intro d;exact c (by rw[d];simp)
def stays(left:List (ByteArray×nE))(n:ByteArray×nE):Bool:=n.2.f.mD||left.any λP=>P.1==n.1
def zS(J:bJ b a Value.string (a3.map dR))(l:Ev b a3)(K:∀n∈a3,∀c,n.2.G c->c≠a):
  YX 137 #[.map (some a),.func (.func 138) #[] #[]] b
   (Ok λo h=>o= .tuple #[]/\bJ h a Value.string ((a3.filter λn=>n.2.f.mD).map dR)/\ak (·=a) b h):=by
 have L:enters ZP 138=true:=kR
 refine cT (mapRange mF J λw1 M N s1=>?_);refine⟨λu h=>∃left:List (ByteArray×nE),cD h b.heap.size a Value.string ((a3.filter (stays left)).map dR) (left.map dR)/\u=left.length/\ak (·=a) b h/\(∀n∈left,n∈a3)/\Tidy left,
  ⟨_,a3,?_,rfl,N.af,λ_ O=>O,l.tidy⟩,?_⟩
 ·have i:a3.filter (stays a3)=a3:=List.filter_eq_self.2 λn m=>by
   unfold stays;rw[Bool.or_eq_true];exact .inr (List.any_eq_true.2 ⟨n,m,sM⟩)
  rw[i];exact M
 ·rintro u a0 w2 ⟨left,p,rfl,v,w,j⟩
  refine nH p (λk=>.inl ⟨rfl,Ok.mk ⟨rfl,?_,v⟩⟩) λd o l1 l2 r Q x R S s3=>.inr ⟨_,_,rfl,qM R ?_⟩
  ·have:left=[]:=by simpa using k
   subst this;have i:(a3.filter (stays []))=a3.filter λn=>n.2.f.mD:=List.filter_congr λn _=>by simp[stays]
   rw[i]at p;exact p.map
  ·obtain⟨e,n,c,rfl,rfl,rfl,rfl⟩:=xC Q
   have m:(d,n)∈a3:=w _ sM;have a6:b.heap.size≠a:=p.ne;have s:ak (·=a) b r:=v.new S λc y=>.inr oM;have T:dW r n.q n.G n.f:=(l.each _ m).af s λc y=>K _ m c y;obtain⟨fa,fn,fc,F0,q,z,h3,h4⟩:=T.body;have A:d∉(e++c).map (·.1):=by
    unfold Tidy at j;rw[Q3,QY]at j;rw[Q3];intro U;have V:=(List.perm_middle (a:=d) (l₁:=e.map (·.1)) (l₂:=c.map (·.1))).nodup_iff.1 j;exact(List.nodup_cons.1 V).1 U
   have B:∀P∈a3,P.1≠d->stays (e++(d,n)::c) P=stays (e++c) P:=λP f g=>by
    unfold stays
    congr 1
    have:(d==P.1)=false:=beq_false_of_ne (Ne.symm g);simp[List.any_append,this]
   have C:∀P∈a3,P.1=d->P=(d,n):=λP f k=>by
    have q:=qK l.tidy (k:=P.1) (v:=P.2) f;have z:=qK l.tidy (k:=d) (v:=n) m;rw[k,z]at q;exact Prod.ext k (XJ q).symm
   have W:(e++c).any (λP=>P.1==d)=false:=by
    rw[List.any_eq_false];intro P f k;exact A (Xk.2 ⟨P,f,eq_of_beq k⟩)
   have E:Tidy (e++c):=by
    unfold Tidy at j⊢;rw[Q3,QY]at j;rw[Q3];exact(List.nodup_cons.1 ((List.perm_middle (a:=d) (l₁:=e.map (·.1)) (l₂:=c.map (·.1))).nodup_iff.1 j)).2
   have F:∀P∈e++c,P∈a3:=λP f=>w P (by simp only[Q6,Q2]at f⊢;exact f.imp id .inr);have H:(e++c).length<(e++(d,n)::c).length:=sM
   refine⟨_,_,rfl,_,_,_,rfl,L,PC.ok (φ:=λo h=>o= .bool (!n.f.mD)/\h=r) (qz ⟨n.q,0,rfl,_,ae q rfl,Ok.mk ⟨rfl,rfl⟩⟩) ?_⟩;rintro _ _ ⟨rfl,rfl⟩;refine⟨_,rfl,al.not (al.mk (λt=>⟨_,H,e++c,?_,rfl,s,F,E⟩) (λt=>?_))⟩
   ·have i:a3.filter (stays (e++(d,n)::c))=a3.filter (stays (e++c)):=List.filter_congr λP f=>by
     by_cases g:P.1=d
     ·rw[C P f g];simp[stays,t]
     ·exact B P f g
    rw[Q3,<-i];exact x
   ·refine Qh mF kS x (by rw[<-Q3];simpa[dR,Function.comp_def]using A) λw4 I X s4=>⟨_,H,e++c,?_,rfl,s.then X,F,E⟩
    have i:bY ((a3.filter (stays (e++(d,n)::c))).map dR) d=(a3.filter (stays (e++c))).map dR:=by
     have Y:bY ((a3.filter (stays (e++(d,n)::c))).map dR) d=(bY (a3.filter (stays (e++(d,n)::c))) d).map dR:=(BL (λn:nE=>ptr n.q) _ d).symm;have Z:Tidy (a3.filter (stays (e++(d,n)::c))):=List.Nodup.sublist (List.Sublist.map _ List.filter_sublist) l.tidy;rw[Y,IL Z,List.filter_filter]
     congr 1
     refine List.filter_congr λP f=>?_
     by_cases g:P.1=d
     ·rw[C P f g]
      simp only[stays,t,W,Bool.or_false,bne_self_eq_false,Bool.false_and]
     ·rw[B P f g]
      have:(P.1 !=d)=true:=by simpa using g
      rw[this,Bool.true_and]
    rw[i,<-Q3]at I;exact I
end Go.Proofs.YtjgjkeponbeekaaGreatDoor
namespace Go.ar
open Go
def cB(n:List UInt8):ByteArray:=⟨n.toArray⟩
def wi(n:List UInt8):(cB n).data.toList=n:=by simp[cB]
def Vb(n:ByteArray):cB n.data.toList=n:=by simp[cB]
variable{d1 y:List UInt8}{a:Nat}{U Y:Operand}{h:Program}{g:TypeId}{p u:ZR}{b:World}
def Ti(n:cB y=cB d1):y=d1:=by rw[<-wi y,n,wi]
def iI(n:List UInt8):(cB n).size=n.length:=by simp[cB,ByteArray.size]
def ml(n:ByteArray):Int×Bool:=match iZ n.data.toList with
 |some P=>(P,true)
 |none=>(0,false)
def XG{a n:List UInt8}(c:a.length+n.length<=1000000000)(P:p (.string (cB (a++n))) b):
  aG h (do eqGuard .add g U Y (.string (cB a)) (.string (cB n));binOp .add g (.string (cB a)) (.string (cB n))) b p u:=by
 refine aG.mk (v:=.string (cB a++cB n)) (w':=b) ?_ ?_
 ·rw[Sem.run_bind,show(eqGuard .add g U Y (.string (cB a)) (.string (cB n))).run h b= .ok () b from rfl,Result.andThen_ok,binOp_string_add,run_string_add_sum b (cB a) (cB n) (by rw[iI,iI];omega)]
 have:cB a++cB n=cB (a++n):=by
  apply ByteArray.ext;simp[cB]
 rw[this];exact P
def ai.Tj{n:Array Obj}:ai b (Sort.grow (b.drewN a) n):=
 ⟨rfl,rfl,rfl,sM,λc P _=>by rw[Sort.heap_grow_old _ _ (by simpa using P)];rfl⟩
end Go.ar
namespace Go.Proofs.YtjgjkeponbeekaaGreatDoor
section
open Go.ar
structure Laid (w:World):Prop where
 nY:qu w
 pow:Lib.TabIs ZP w "internal/strconv.uint64pow10" .u64 Lib.pow10Tab
variable{x:ByteArray}{e:Int}{d1 y:List UInt8}{b k:World}
def Laid.ah(n:Laid b)(P:ai b k):Laid k:=⟨n.nY.ah P,Lib.tabBelow_of_tabIs n.pow k P.below⟩
def strconv_Itoa{n:Int}{P:World}(c:Laid P)(a:aJ n):YX 213 #[ZH n] P (Ok λd b=>d= .string (cB (Lib.itoa n))/\ai P b):=by
 refine(Any.strconv_Itoa Tryz.RA n a.1 a.2 P c.pow).mono ?_;rintro e b ⟨rfl,f,g,rfl⟩;exact Ok.mk ⟨rfl,ai.Tj⟩
def jx(P:Laid b)(a:aJ e):YX 146 #[ZH e] b (Ok λc d=>c= .string (cB (aB e))/\ai b d):=by
 refine Bm (al.dec (λn=>?_) (λg=>al.dec (λn=>?_) (λh=>PC.ok (strconv_Itoa P a) ?_)))
 ·exact Ok.mk ⟨by unfold aB;rw[Zx (.inl n)];rfl,ak.refl _⟩
 ·exact Ok.mk ⟨by unfold aB;rw[Zx (.inr n)];rfl,ak.refl _⟩
 rintro _ i ⟨rfl,f⟩;refine⟨_,rfl,XG (a:=eA) ?_ ⟨_,rfl,Ok.mk ⟨?_,f⟩⟩⟩
 ·have:=wj (u:=e.toNat) oM
  unfold Lib.itoa;rw[Zq oM];show 4+_<=_;omega
 ·rw[rz oM oM]
  unfold Lib.itoa;rw[Zq oM]
def CF:YX 324 #[.string (cB y),.string (cB d1)] b (Ok λa c=>a= .bool (decide (y.take d1.length=d1))/\b=c):=by
 refine ic ?_;rw[iI,iI];refine al.dec (λn=>⟨oM,oM,Ok.mk ⟨?_,rfl⟩⟩) (λn=>Ok.mk ⟨?_,rfl⟩)
 ·rw[Qx]
  have P:ByteArray.toList (ByteArray.extract (cB y) 0 d1.length)=y.take d1.length:=by
   rw[ByteArray.toList_eq,ByteArray.data_extract];simp[cB]
  have d:ByteArray.toList (cB d1)=d1:=by rw[ByteArray.toList_eq,wi]
  rw[P,d]
  congr 1
  by_cases n:y.take d1.length=d1<;>simp[n]
 ·have:y.take d1.length≠d1:=λP=>by have:=Zj List.length P;simp at this;omega
  rw[Xv this]
def DW:YX 224 #[.string (cB y),.string (cB d1)] b (Ok λP a=>P= .tuple (if y.take d1.length=d1 then #[.string (cB (y.drop d1.length)),.bool true]else #[.string (cB y),.bool false])/\b=a):=by
 refine qD (PC.ok (φ:=λP a=>P= .tuple (if y.take d1.length=d1 then #[.string (cB (y.drop d1.length)),.bool true]else #[.string (cB y),.bool false])/\b=a) (h_ (PC.ok CF ?_)) ?_)
 ·rintro _ _ ⟨rfl,rfl⟩
  refine⟨_,rfl,?_⟩;rw[iI,iI]
  by_cases n:y.take d1.length=d1
  ·rw[Zx n,Zy n]
   have e:d1.length<=y.length:=by have:=Zj List.length n;simp at this;omega
   refine al.ff rfl ⟨oM,oM,Ok.mk ⟨?_,rfl⟩⟩;have c:ByteArray.extract (cB y) (Int.toNat ((d1.length:Nat):Int)) y.length=cB (y.drop d1.length):=by
    apply ByteArray.ext;rw[Qx,ByteArray.data_extract];have d:List.take (y.length-d1.length) (List.drop d1.length y)=List.drop d1.length y:=Qz sM;simp[cB,d]
   rw[c]
  ·rw[Zq n,Xv n]
   exact al.tt rfl (Ok.mk ⟨rfl,rfl⟩)
 ·rintro _ _ ⟨rfl,rfl⟩
  split
  ·exact⟨_,_,rfl,Ok.mk ⟨rfl,rfl⟩⟩
  ·exact⟨_,_,rfl,Ok.mk ⟨rfl,rfl⟩⟩
def Be(y:Laid b):YX 161 #[.string x] b (Ok λk d=>k= .tuple #[ZH (ml x).1,.bool (ml x).2]/\ai b d):=by
 rw[<-Vb x];generalize x.data.toList=e;have c:(⟨#[115,101,103,46]⟩:ByteArray)=cB eA:=rfl;unfold ml;rw[wi];refine w_ ?_;rw[c];refine PC.ok DW ?_;rintro _ _ ⟨rfl,rfl⟩;have no:∀d,iZ e=none->ai b d->Ok (λk d=>k= .tuple #[ZH (match iZ e with|some l=>((l:Int),true)|none=>(0,false)).1,.bool (match iZ e with|some l=>((l:Int),true)|none=>(0,false)).2]/\ai b d) (.returned (.tuple #[ZH 0,.bool false])) d:=λd p z=>by
  rw[p];exact Ok.mk ⟨rfl,z⟩
 by_cases f:e.take eA.length=eA
 ·rw[Zx f]
  refine⟨_,_,rfl,al.ff rfl ?_⟩;have q:e=eA++e.drop 4:=by
   have:=ZX 4 e;rw[show e.take 4=eA from f]at this;exact this.symm
  change al (decide (((ByteArray.size (cB (e.drop 4)):Nat):Int)>12)) _ _
  generalize S:e.drop 4=P at q;subst q;rw[iI];refine al.dec (λp=>no _ (LX (by rw[QX];show 16<4+_;omega)) (ak.refl _)) (λT=>?_);refine B_ Tryz.underlying9 λU A B V=>⟨λr s d=>∃n,r=P.length-n/\n<=P.length/\s=(eB (P.take n):Int)/\d.heap[b.heap.size]? =some (.stringIter (cB P) n)/\ai b d/\(P.take n).all iJ=true,⟨_,0,rfl,Qj _,rfl,A,B,rfl⟩,?_⟩
  rintro r s W X ⟨n,rfl,Y,rfl,C,g,h⟩;have E:=xR _ h;refine GP C (λF=>.inl ⟨rfl,?_⟩) λc t u i Z=>.inr ⟨_,_,rfl,?_⟩
  ·rw[iI]at F
   rw[Qz oM]at h E⊢;have a0:10 ^ P.length<=10 ^ 12:=Nat.pow_le_pow_right oM oM;have H:(10:Nat) ^ 12=1000000000000:=dC
   refine PC.ok (jx (y.ah g) (by unfold aJ;omega)) ?_;rintro _ t ⟨rfl,i⟩;have v:=Hr h oM;refine⟨_,rfl,al.XT (λI=>no _ ?_ (g.then i)) (λJ=>?_)⟩
   ·rw[v,Zq λK=>I (by rw[K])]
   ·rw[v,Zx (Ti J)]
    exact Ok.mk ⟨rfl,g.then i⟩
  ·have m:n<P.length:=by rwa [iI]at c
   have j:ai b t:=g.new i λa1 w=>.inr oM;have o:P[n]? =some ((cB P)[n]'c):=by
    rw[Qq m]
    congr 1
   have a:iJ ((cB P)[n]'c)=false->iZ (eA++P)=none:=λL=>JO (List.all_eq_false.2 ⟨_,QZ o,by simp[L]⟩)
   by_cases w:((cB P)[n]'c).toNat<128
   ·rw[decode_ascii _ n c w]at u⊢
    simp only;refine al.dec (λM=>no _ (a ?_) j) (λN=>al.dec (λO=>no _ (a ?_) j) (λQ=>?_))
    ·unfold iJ;exact Xv oM
    ·unfold iJ;exact Xv oM
    ·have a2:10 ^(P.take n).length<=10 ^ 12:=Nat.pow_le_pow_right oM (by simp;omega)
     have H:(10:Nat) ^ 12=1000000000000:=dC
     refine⟨_,oM,n+1,rfl,oM,?_,u,j,?_⟩
     ·rw[Qw,o]
      show _=((eB (P.take n++[_]):Nat):Int);rw[fJ];have R:ZG .i32 ((((cB P)[n]'c).toNat:Int)-48)=(((cB P)[n]'c).toNat:Int)-48:=by
       unfold ZG;simp[IntKind.signed,IntKind.bits];omega
      rw[R,wrap_i64 (x:=(((cB P)[n]'c).toNat:Int)-48) (by unfold aJ;omega),wrap_i64 (x:=10*_) (by unfold aJ;omega),wrap_i64 (by unfold aJ;omega)];omega
     ·rw[Qw,o,List.all_append,h]
      simp[iJ];omega
   ·have hh:=(decode_high _ n c oM).1
    refine al.dec (λM=>oM) (λN=>al.dec (λO=>no _ (a ?_) j) (λQ=>oM));unfold iJ;exact Xv oM
 ·rw[Zq f]
  exact⟨_,_,rfl,al.tt rfl (no _ (OO f) (ak.refl _))⟩
end
section
open Go.ar
def TZ:jV ZP 42 3 1 8:=⟨kR,kR,dC⟩
def fD(P:List Int)(n:Int):Int:=if n<0 then 0 else max (P.getD n.toNat 0) 0
variable{e m:Int}{b2 v:List Int}{a c i l:Nat}{d s:YQ}{b:World}{q:aj}
def Tu(P:0<=e)(n:v[e.toNat]? =some m):fD v e=max m 0:=by
 unfold fD;rw[Zq oM];simp[List.getD,n]
def RP(n:(v.length:Int)<=e):fD v e=0:=by
 unfold fD;split
 ·rfl
 ·have:v[e.toNat]? =none:=by simp;omega
  simp[List.getD,this]
def od{i:Int}(f:Ints b d a v):
  YX 196 #[.slice d a c,ZH i] b (Ok λg h=>g= ZH (fD v i)/\b=h):=by
 refine NI ?_;refine al.mk (λP=>?_) (λP=>al.mk (λn=>?_) (λn=>?_))
 ·have:=XV P
  exact Ok.mk ⟨by simp[fD,this],rfl⟩
 ·have n:=XV n
  exact Ok.mk ⟨by rw[RP (by rw[<-f.len];exact n)],rfl⟩
 ·have P:=Xy P
  have n:=Xy n;obtain⟨j,e,k,rfl,o,l,p,m⟩:=f.at (i:=i) oM oM;refine⟨j,e,rfl,oM,oM,k,m,Ok.mk ⟨?_,rfl⟩⟩;rw[Tu oM l]
  congr 1
  omega
def qt(P a:List Int)(b:Nat):List Int:=(List.range b).map λ(n:Nat)=>max (fD P n) (fD a n)
def jY(n P:List Int):List Int:=qt n P (max n.length P.length)
def JY(P a:List Int)(n:Nat):qt P a (n+1)=qt P a n++[max (fD P n) (fD a n)]:=by simp[qt,List.range_succ]
def sR(P a:List Int)(n:Nat):(qt P a n).length=n:=by simp[qt]
def Hu(P:World)(e:TypeId)(f:List Int)(g:Value)(a:World):Prop:=
 ∃n b c,g= .slice n b c/\Own a e 1 n b c (ints f)/\ai P a/\∀d,aD n=some d->P.heap.size<=d
def Tv:(if m>e then m else e)=max e m:=oM
def Bb(h:Ints b d a v)(n:Ints b s c b2):
  YX 192 #[.slice d a i,.slice s c l] b (Ok (Hu b 3 (jY v b2))):=by
 have u:=h.len;have w:=n.len;have x:=h.ef;have y:=n.ef;unfold aK at x y;refine KQ ⟨λo j P p q r=>q=(P:Int)/\P<=max a c/\o=max a c-P/\Own r 3 1 j P p (ints (qt v b2 P))/\ai b r/\∀s,aD j=some s->b.heap.size<=s,
  ⟨_,rfl,oM,rfl,Own.nil _ _ _,ak.refl _,by simp[aD]⟩,?_⟩
 rintro o j P p q _ C ⟨rfl,E,rfl,t,e,k⟩;refine al.mk (λf=>?_) (λf=>?_)
 ·have f:=XV f
  refine PC.ok (od (h.ah e)) ?_;rintro _ _ ⟨rfl,rfl⟩;refine⟨_,rfl,PC.ok (od (n.ah e)) ?_⟩;rintro _ _ ⟨rfl,rfl⟩;refine⟨_,rfl,PA.mk λF m H z=>?_⟩;refine Mm TZ (t.ah m) z (by unfold aK;omega) λI J K A B g=>?_;refine⟨_,_,_,rfl,_,?_,?_,oM,rfl,?_,(e.ah m).new B ?_,?_⟩
  ·omega
  ·rw[wrap_i64 (by unfold aJ;omega)];simp
  ·rw[JY,<-Tv];exact A
  ·intro s n;exact .inr (k s n.symm)
  ·intro s n
   rcases g with g|g
   ·exact k s (g▸n)
   ·rw[g]at n;cases n;have:=e.size;have:=m.size;omega
 ·have f:=Xy f
  have:P=max a c:=oM
  subst this;refine Ok.mk ⟨_,_,_,rfl,?_,e,k⟩;unfold jY;rw[<-u,<-w];exact t
def yR(n P:List Int):Nat->Int
 |0=>0
 |k+1=>if fD n k<fD P k then Pd .i64 (yR n P k) 1 else if fD n k>fD P k then Pd .i64 (yR n P k) 2 else yR n P k
def kD(n P:List Int):Int:=yR n P (max n.length P.length)
def Nc(g:Ints b d a v)(h:Ints b s c b2):
  YX 193 #[.slice d a i,.slice s c l] b (Ok λq j=>q= ZH (kD v b2)/\b=j):=by
 have r:=g.len;have t:=h.len;have u:=g.ef;have w:=h.ef;unfold aK at u w;refine NH ⟨λm o p j=>∃n:Nat,p=n/\n<=max a c/\m=max a c-n/\o=yR v b2 n/\j=b,
  ⟨_,0,rfl,oM,rfl,rfl,rfl⟩,?_⟩
 rintro m o p _ x ⟨n,rfl,y,rfl,rfl,rfl⟩;refine al.mk (λf=>?_) (λf=>?_)
 ·have f:=XV f
  refine PC.ok (od g) ?_;rintro _ _ ⟨rfl,rfl⟩;refine⟨_,rfl,PC.ok (od h) ?_⟩;rintro _ _ ⟨rfl,rfl⟩;have k:ZG .i64 ((n:Int)+1)=((n+1:Nat):Int):=by rw[wrap_i64 (by unfold aJ;omega)];simp
  refine⟨_,rfl,al.mk (λP=>?_) (λP=>al.mk (λe=>?_) (λe=>?_))⟩
  ·have P:=XV P
   exact⟨_,oM,n+1,k,oM,rfl,by simp[yR,P],rfl⟩
  ·have P:=Xy P
   have e:=XV e;exact⟨_,oM,n+1,k,oM,rfl,by simp[yR,P,e],rfl⟩
  ·have P:=Xy P
   have e:=Xy e;exact⟨_,oM,n+1,k,oM,rfl,by simp[yR,P,e],rfl⟩
 ·have f:=Xy f
  have:n=max a c:=oM
  subst this;exact Ok.mk ⟨by unfold kD;rw[<-r,<-t],rfl⟩
structure jX where
 bq:Int
 lZ:Int
 lv:Int
 least:Int
 deriving DecidableEq
structure bh where
 kind:Int
 dU:Int
 floor:Bool
 bw:List jX
 deriving DecidableEq
structure jr where
 aU:Int
 field:Int
 group:Int
 FC:Int
 make:Int
 deriving DecidableEq
structure aN where
 types:List (List bh)
 projs:List jr
 deriving DecidableEq
structure ly where
 aU:Int
 agg:Int
 field:Int
 op:Int
 arg:Int
 expect:Int
 key:Int
 deriving DecidableEq
structure cG where
 n:Int
 set:List Int
 deriving DecidableEq
structure mJ where
 version:Int
 cells:List cG
 deriving DecidableEq
structure cC where
 ev:aj
 void:Bool
 FC:Int×Int
structure dy where
 group:Int
 value:Int
 count:Int
 deriving DecidableEq
abbrev ph(n:Int):Int:=ZG .i64 n
def within(n P a:Int):Bool:=decide (P<=n)&&decide (n<=a)
def aN.at(n:aN)(P:Int):List bh:=if within P 0 (n.types.length-1)then n.types.getD P.toNat []else []
def aN.DS(n:aN)(P a:Int):Option bh:=
 if within P 0 (n.types.length-1)&&within a 0 ((n.at P).length-1)then(n.at P)[a.toNat]? else none
def qU(n:Int):Int:=if n=1 then 1 else if n=2 then 2 else if n=3 then 3 else if n=4 then 3 else if n=5 then 4 else 0
def lk(P:aN)(a b op arg:Int):Int:=match P.DS a b with
 |none=>8
 |some n=>if !within op 1 5||qU op !=n.kind then 2 else if op==1&&arg==0||op==5&& !within arg 0 (n.bw.length-1)then 1 else 0
def rp(n:aN):Bool:=
 if !within n.types.length 1 8||decide (8<n.projs.length)then true else
 n.types.any λa=>!within a.length 1 8||a.any λP=>if P.kind==4 then !within P.bw.length 1 16 else decide (0<P.bw.length)
def RW(P:List bh)(a n:Int):Bool:=within a 0 (P.length-1)&&((P[a.toNat]?).map (·.kind)==some n)
def UP(n P:Int):Bool:=P==1||P==2&&within n 2 4||P==3&&n==2
def fv(n:List bh)(f:bh):Int:=
 if !within f.kind 1 4 then 2 else if !within f.dU 1 3|| !UP f.kind f.dU||f.floor&&f.kind !=1 then 1 else
 if f.bw.any λm=>decide (m.bq<0)||decide (m.lZ<0)||m.lv== -1&&m.least !=0 then 1 else
 if f.bw.any λm=>m.lv != -1&& !RW n m.lv 1 then 8 else 0
def lX(P:aN)(n:jr):Int:=
 if(P.DS n.aU n.field).isNone then 8 else
 if n.group==3&& !RW (P.at n.aU) n.FC 2||n.group !=3&&n.FC !=0 then 8 else
 if !within n.group 1 3|| !within n.make 1 5 then 2 else 0
def cm{P:Type}(n:P->Int):List P->Int
 |[]=>0
 |x::a=>if n x !=0 then n x else cm n a
def cU(n:aN):Int:=
 if rp n then 3 else
 let P:=cm (λa=>cm (fv a) a) n.types
 if P !=0 then P else cm (lX n) n.projs
def aZ(n:aj):Int×Int:=(n.origin,n.seq)
def ei(a n:aj):Bool:=decide (a.aA<n.aA)||a.aA==n.aA&&(decide (a.origin<n.origin)||a.origin==n.origin&&decide (a.seq<n.seq))
def sJ(n P:aj):Int:=if ei n P then-1 else if ei P n then 1 else 0
def cR(n:aj)(P:Nat):Int:=
 if n.origin<0\/(P:Int)<=n.origin\/min n.seq n.aA<1\/min n.agg n.key<0\/n.aQ.length≠P\/n.aQ.any (λa=>decide (a<0))then 1 else
 if n.aQ.getD n.origin.toNat 0≠ph (n.seq-1)then 9 else
 if n.op<1\/5<n.op then 2 else if min n.aU n.field<0\/8<=n.aU\/8<=n.field then 8 else 0
def BE(n P:aj):Bool:=decide (n.seq<=fD P.aQ n.origin)
def vr(n P:aj):Bool:=aZ n !=aZ P&& !BE n P&& !BE P n
structure aw where
 n:Nat
 l:List aj
def dm(n:aj):List aj->List aj
 |[]=>[n]
 |x::P=>if ei n x then n::x::P else x::dm n P
def aw.FR(n:aw)(P:Nat):Nat:=n.l.countP λa=>a.origin==(P:Int)
def aw.vec(n:aw):List Int:=(List.range n.n).map λP=>(n.FR P:Int)
def aw.get(n:aw)(id:Int×Int):Option aj:=n.l.find? λP=>aZ P==id
def aw.top(n:aw):Int:=n.l.foldl (λP a=>max P a.aA) 0
def aw.l_(d:aw)(n:aj)(a:Nat):Bool:=
 let b:=n.aQ.getD a 0
 b==0||match d.get (a,b)with
  |none=>false
  |some P=>decide (P.aA<n.aA)&&(List.range P.aQ.length).all λc=>decide (P.aQ.getD c 0<=n.aQ.getD c 0)
def aw.add(n:aw)(P:aj):Int×aw:=
 let no:=cR P n.n
 if no≠0 then(no,n)else
 if(n.get (aZ P)).isSome then(16,n)else
 if P.seq≠(n.vec.getD P.origin.toNat 0)+1 then(9,n)else
 if(List.range n.n).any λa=>!n.l_ P a then(9,n)else(0,{n with l:=dm P n.l})
def aw.fN(n:aw)(l:List aj):aw:=l.foldl (λn P=>(n.add P).2) n
def aw.missing(a:aw)(b:List Int)(n:Int):List aj:=(a.l.filter λP=>decide (max 0 (fD b P.origin)<P.seq)).take (max 0 n).toNat
def aw.keyed(n:aw)(key:Int):Option aj:=n.l.find? λP=>key !=0&&P.key==key
def dF(n:List bh):List cG:=n.map λ_=>⟨0,[]⟩
def Mp(n P:Int):Bool:=decide (n<ph (n+P))==decide (0<P)
def wF(e:List bh)(c:List cG)(n b arg:Int):Int:=
 let d:=e.getD n.toNat ⟨0,0,false,[]⟩
 let P:=c.getD n.toNat ⟨0,[]⟩
 let f:Bool:=
  if b=1 then(arg==0||Mp P.n arg)&& !(d.floor&&decide (ph (P.n+arg)<0))
  else if b=3 then decide (arg∈P.set)||decide (P.set.length<64)
  else if b=5 then(let a:=d.bw.getD arg.toNat ⟨0,0,0,0⟩;P.n==a.bq&&(decide (a.lv<0)||decide (a.least<=(c.getD a.lv.toNat ⟨0,[]⟩).n)))
  else true
 if f then 0 else 10
def qe(n:Int):List Int->List Int
 |[]=>[n]
 |y::P=>if n<y then n::y::P else if n=y then y::P else y::qe n P
def Sh(c:List bh)(a:List cG)(n b arg:Int):List cG:=
 let d:=c.getD n.toNat ⟨0,0,false,[]⟩
 let P:=a.getD n.toNat ⟨0,[]⟩
 if b=1 then a.set n.toNat {P with n:=ph (P.n+arg)}
 else if b=2 then a.set n.toNat {P with n:=arg}
 else if b=3 then a.set n.toNat {P with set:=qe arg P.set}
 else if b=4 then a.set n.toNat {P with set:=P.set.filter λe=>e !=arg}
 else if b=5 then a.set n.toNat {P with n:=(d.bw.getD arg.toNat ⟨0,0,0,0⟩).lZ}
 else a
def ey(P:bh)(a n:Int×Int):Bool:=
 if P.kind=2 then a.1==2&&n.1==2&&a !=n
 else if P.kind=4 then a.1==5&&n.1==5&&a !=n
 else if P.kind=3 then a==(3,n.2)&&n==(4,a.2)||a==(4,n.2)&&n==(3,a.2)
 else false
def mC(f:bh)(n P:aj):Bool:=(f.dU==2||f.dU==3&&decide (P.arg<n.arg))&&ey f (n.op,n.arg) (P.op,P.arg)&&vr n P
structure aW where
 decl:aN
 entries:List cC
 eg:List ((Int×Int)×mJ)
 done:List ((Int×Int×Int)×List aj)
def aW.new(n:aN):aW:=⟨n,[],[],[]⟩
def aW.try(P:aW)(n:aj):Bool×(Int×Int)×aW:=
 if lk P.decl n.aU n.field n.op n.arg≠0 then(true,(0,0),P)else
 let c:=P.decl.at n.aU
 let b:=(n.aU,n.agg,n.field)
 match((aF P.done b).getD []).find? λe=>mC (c.getD n.field.toNat ⟨0,0,false,[]⟩) e n with
 |some e=>(true,aZ e,P)
 |none=>
  let d:=aF P.eg (n.aU,n.agg)
  let a:=match d with
   |some d=>d.cells
   |none=>dF c
  if wF c a n.field n.op n.arg≠0 then(true,(0,0),P)else
  (false,(0,0),{P with
   eg:=aH P.eg (n.aU,n.agg) ⟨ph ((d.getD ⟨0,[]⟩).version+1),Sh c a n.field n.op n.arg⟩
   done:=aH P.done b ((aF P.done b).getD []++[n])})
def aW.add(b:aW)(P:aj):cC×aW:=
 let n:=b.try P
 let a:cC:=⟨P,n.1,n.2.1⟩
 (a,{n.2.2 with entries:=n.2.2.entries++[a]})
def aW.state(n:aW)(P a:Int):Option mJ:=aF n.eg (P,a)
def cz(n:aN)(P:List aj):aW:=P.foldl (λa b=>(a.add b).2) (aW.new n)
def ko(b:List cC)(c P d:Int)(n:Nat):List cC×Bool:=
 let own:=(b.filter λa=>a.ev.aU==c&&a.ev.agg==P).drop (max d 0).toNat
 (own.take n,decide (n<own.length))
def nT(b:List dy)(n:Int)(P:Nat):List dy×Bool:=
 let a:=b.dropWhile λc=>decide (c.group<=n)
 (a.take P,decide (P<a.length))
def ju(P:aN)(n:ly):Int:=if n.agg<0\/n.key<0\/n.expect< -1 then 1 else lk P n.aU n.field n.op n.arg
def aS(P:ly)(n:Int)(a:List Int)(b:Int):Int×aj:=
 let no:aj:=⟨0,0,0,[],0,0,0,0,0,0⟩
 if n<0\/(a.length:Int)<=n\/b<0 then(1,no)else
 if fD a n=9223372036854775807\/b=9223372036854775807 then(13,no)else
 (0,⟨n,fD a n+1,b+1,jY a [],P.aU,P.agg,P.field,P.op,P.arg,P.key⟩)
def rq(d:aN)(b:aw)(h:aW)(P start:Int)(n:ly):aj×Bool×Int:=
 let no:aj:=⟨0,0,0,[],0,0,0,0,0,0⟩
 let e:=ju d n
 if e≠0 then(no,false,e)else
 match b.keyed n.key with
 |some i=>(i,false,0)
 |none=>
  let f:=d.at n.aU
  let g:=h.state n.aU n.agg
  let a:=match g with
   |some j=>j.cells
   |none=>dF f
  if¬(n.expect= -1\/n.expect=(g.getD ⟨0,[]⟩).version)then(no,false,11)else
  if wF f a n.field n.op n.arg≠0 then(no,false,10)else
  let c:=aS n P b.vec (max b.top start)
  (c.2,decide (c.1=0),c.1)
structure dq where
 p:jr
 rows:List (Int×dy)
def lW(n:jr)(P:dy)(arg:Int):Int:=
 if n.make=1 then P.count else if n.make=2 then ph (P.value+arg)else
 if n.make=5\/P.count=1/\(n.make=3\/n.make=4)then arg else
 if n.make=3 then min P.value arg else if n.make=4 then max P.value arg else 0
def dq.add(n:dq)(e:cC)(b:Int):dq:=
 let a:=if n.p.group=1 then some e.ev.agg else if n.p.group=2 then some e.ev.arg else if n.p.group=3 then some b else none
 match a with
 |none=>n
 |some a=>
  if e.void||e.ev.aU !=n.p.aU||e.ev.field !=n.p.field then n else
  let P:=(aF n.rows a).getD ⟨0,0,0⟩
  let P:dy:=⟨a,P.value,ph (P.count+1)⟩
  {n with rows:=aH n.rows a ⟨a,lW n.p P e.ev.arg,P.count⟩}
def mP(n:dy):List dy->List dy
 |[]=>[n]
 |y::P=>if n.group<y.group then n::y::P else y::mP n P
def dq.list(n:dq):List dy:=(n.rows.map (·.2)).foldr mP []
structure jU where
 view:aW
 rows:List dq
def jU.new(n:aN):jU:=⟨aW.new n,n.projs.map λP=>⟨P,[]⟩⟩
def sI(n:Option mJ)(P:jr):Int:=match n with
 |none=>0
 |some n=>((n.cells[P.FC.toNat]?).map (·.n)).getD 0
def jU.add(a:jU)(n:aj):jU:=
 let P:=a.view.add n
 let c:=P.2.state n.aU n.agg
 ⟨P.2,a.rows.map λb=>b.add P.1 (sI c b.p)⟩
def dQ(n:aN)(P:List aj):jU:=P.foldl jU.add (jU.new n)
def fl(n:Nat)(P:List aj)(a:aj):Bool×List aj:=
 if n<=P.length\/P.any (λb=>aZ b==aZ a)then(false,P)else(true,dm a P)
def eR(n:aw):List aj->Option (aj×aw×List aj)
 |[]=>none
 |e::a=>if(n.add e).1=0 then some (e,(n.add e).2,a)else(eR n a).map λP=>(P.1,P.2.1,e::P.2.2)
def ej:Nat->aw->List aj->List aj->List aj×List aj
 |0,a,P,n=>(n,P)
 |k+1,a,P,n=>match eR a P with
  |none=>(n,P)
  |some (b,c,d)=>ej k c d (n++[b])
def bC(P:aw)(n:List aj):List aj×List aj:=
 let n:=n.filter λa=>(P.get (aZ a)).isNone
 ej (n.length+1) P n []
structure bt where
 kind:Int
 bq:Int
 lZ:Int
 vec:List Int
 events:List aj
def gU(n:bt)(P:Int):Int:=if 0<n.events.length then 8 else if(n.vec.length:Int)≠P then 1 else if n.vec.any (λa=>decide (a<0))then 1 else 0
def fk(P:bt)(a:Nat)(n:Int):Int:=if 0<P.vec.length then 8 else if P.events.length<1\/n<(P.events.length:Int)then 3 else cm (λb=>cR b a) P.events
def fH(m:bt)(a:Nat)(P:Int):Int:=
 let n:=!(decide (0<=m.bq)&&decide (m.bq<a))|| !(decide (0<=m.lZ)&&decide (m.lZ<a))||m.bq==m.lZ
 if m.kind=3 then(if n then 1 else fk m a P)
 else if m.kind=1\/m.kind=2\/m.kind=4 then(if n then 1 else gU m a)
 else 2
def kj(n:aw)(P a:Int):bt:=⟨1,P,a,n.vec,[]⟩
def zZ(n:aw)(P a:Int):bt:=⟨4,P,a,n.vec,[]⟩
def kf(c:aw)(n:Int)(P:bt)(a:Int):List bt:=
 if P.kind≠1/\P.kind≠2 then []else
 let d:=c.missing P.vec (max 1 (min a 32))
 let f:List bt:=if 0<d.length then [⟨3,n,P.bq,[],d⟩]else []
 let e:=kD P.vec c.vec
 let g:List bt:=if P.kind=1/\(e=2\/e=3)then [⟨2,n,P.bq,c.vec,[]⟩]else []
 let b:=f++g
 if b.isEmpty then [zZ c n P.bq]else b
def GH:(if m<e then m else e)=min e m:=oM
def Sz{D:ZN}(i:Row aI 8 b D d a v):
  YX 184 #[.slice d a c,.func (.func 183) #[] #[]] b (Ok λg n=>g= .bool (v.any λP=>decide (P<0))/\b=n):=by
 have w:=i.len;have q:=i.ef;unfold aK at q;refine jv (PC.ok (φ:=λg n=>(∃f:Int,g= ZH f/\(0<=f↔(v.any λP=>decide (P<0))=true))/\b=n) (kJ ⟨λl f n=>∃e:Nat,f=e/\e<=a/\l=a-e/\((v.take e).any λP=>decide (P<0))=false/\b=n,
  ⟨_,0,rfl,Qj _,rfl,sM,rfl⟩,?_⟩) ?_)
 ·rintro l f _ _ ⟨e,rfl,x,rfl,j,rfl⟩
  refine al.dec (λr=>?_) (λr=>?_)
  ·obtain⟨s,k,m,rfl,o,_,t⟩:=i.mR (i:=e) oM
   refine⟨s,k,rfl,oM,oM,_,t,183,_,_,rfl,kR,PC.ok (φ:=λg n=>g= .bool (decide (m<0))/\b=n) (zF (Ok.mk ⟨rfl,rfl⟩)) ?_⟩;rintro _ _ ⟨rfl,rfl⟩;refine⟨_,rfl,al.dec (λp=>?_) (λp=>?_)⟩
   ·exact Ok.mk ⟨⟨_,rfl,λ_=>List.any_eq_true.2 ⟨m,QZ o,by simpa using p⟩,λ_=>oM⟩,rfl⟩
   ·refine⟨_,oM,e+1,aq oM,oM,rfl,?_,rfl⟩
    rw[Qw,o,List.any_append,j];simp;omega
  ·rw[Qz oM]at j
   exact Ok.mk ⟨⟨_,rfl,λh=>oM,λh=>by rw[j]at h;cases h⟩,rfl⟩
 ·rintro _ _ ⟨⟨f,rfl,u⟩,rfl⟩
  exact⟨_,rfl,Ok.mk ⟨by cases h:(v.any λP=>decide (P<0))<;>simp[h]at u⊢<;>omega,rfl⟩⟩
def yx{D:ZN}(k:Row aI 8 b D d a q.aQ)(I:i<4611686018427387904):
  YX 113 #[.agg (aE q d a c).toArray,ZH (i:Int)] b (Ok λh j=>h= ZH (cR q i)/\ai b j):=by
 have J:=k.len;have x:=k.ef;unfold aK at x;refine Bt (PA.mk λy l K f=>⟨_,ae f rfl,?_⟩);have e:(q.origin<0\/(i:Int)<=q.origin\/min q.seq q.aA<1\/min q.agg q.key<0\/q.aQ.length≠i\/q.aQ.any (λo=>decide (o<0))=true)->Ok (λh j=>h= ZH (cR q i)/\ai b j) (.returned (ZH 1)) y:=λn=>by
  refine Ok.mk ⟨?_,l⟩;unfold cR;rw[Zx n]
 refine al.dec (λn=>e (.inl n)) λL=>⟨_,ae f rfl,al.dec (λn=>e (.inr (.inl n))) λM=>⟨_,ae f rfl,_,ae f rfl,?_⟩⟩
 rw[GH];refine al.dec (λn=>e (.inr (.inr (.inl n)))) λN=>⟨_,ae f rfl,_,ae f rfl,?_⟩
 rw[GH];refine al.dec (λn=>e (.inr (.inr (.inr (.inl n))))) λO=>⟨_,_,_,ae f rfl,al.dP (λn=>e (.inr (.inr (.inr (.inr (.inl oM)))))) λQ=>⟨_,_,_,ae f rfl,PC.ok (Sz (k.ah l)) ?_⟩⟩
 rintro _ _ ⟨rfl,rfl⟩;refine⟨_,rfl,al.mk (λn=>e (.inr (.inr (.inr (.inr (.inr n)))))) λz=>⟨_,_,_,ae f rfl,_,ae f rfl,?_⟩⟩;obtain⟨A,p,B,rfl,C,R,E⟩:=(k.ah l).mR (i:=q.origin.toNat) oM;have t:¬(q.origin<0\/(i:Int)<=q.origin\/min q.seq q.aA<1\/min q.agg q.key<0\/q.aQ.length≠i\/q.aQ.any (λo=>decide (o<0))=true):=by
  rw[z];simp only[Bool.false_eq_true,or_false,not_or];omega
 refine⟨A,p,rfl,oM,oM,_,E,_,ae f rfl,λu v=>?_⟩;have F:ai b u:=l.then v.af;have g:=(aV.af (S:=λ_=>False) v).get f id;have w:q.aQ.getD q.origin.toNat 0=B:=by rw[QQ,C];rfl
 have P:∀r:Int,cR q i=r->Ok (λh j=>h= ZH (cR q i)/\ai b j) (.returned (ZH r)) u:=λr n=>Ok.mk ⟨by rw[n],F⟩;refine al.dP (λn=>P 9 (by unfold cR;rw[Zq t,w,Zx n])) λH=>⟨_,ae g rfl,?_⟩
 have s:cR q i=if q.op<1\/5<q.op then 2 else if min q.aU q.field<0\/8<=q.aU\/8<=q.field then 8 else 0:=by
  unfold cR;rw[Zq t,w,Zq (by simpa using H)]
 refine al.dec (λn=>P 2 (by rw[s,Zx (.inl n)])) λS=>⟨_,ae g rfl,al.dec (λn=>P 2 (by rw[s,Zx (.inr n)])) λT=>⟨_,ae g rfl,_,ae g rfl,?_⟩⟩
 rw[GH];have m:cR q i=if min q.aU q.field<0\/8<=q.aU\/8<=q.field then 8 else 0:=by rw[s,Zq oM]
 refine al.dec (λn=>P 8 (by rw[m,Zx (.inl n)])) λU=>⟨_,ae g rfl,al.dec (λn=>P 8 (by rw[m,Zx (.inr (.inl n))])) λV=>⟨_,ae g rfl,al.dec (λn=>P 8 (by rw[m,Zx (.inr (.inr n))])) λW=>P 0 (by rw[m,Zq oM])⟩⟩
end
end Go.Proofs.YtjgjkeponbeekaaGreatDoor
namespace Go.ar
open Go
def Wz(P n:Value):Bool:=match P with
 | .int a _=>match n with
  | .int b _=>decide (b=a)
  |_=>false
 | .bool _=>match n with
  | .bool _=>true
  |_=>false
 | .string _=>match n with
  | .string _=>true
  |_=>false
 | .slice _ _ _=>match n with
  | .slice _ _ _=>true
  |_=>false
 | .pointer _=>match n with
  | .pointer _=>true
  |_=>false
 | .map _=>match n with
  | .map _=>true
  |_=>false
 |_=>true
def Vf:List Value->List Value->Bool
 |[],[]=>true
 |z::n,P::a=>Wz z P&&Vf n a
 |_,_=>false
def SO(z n:Value):Bool:=match z with
 | .agg P=>match n with
  | .agg cs=>Vf P.toList cs.toList
  |_=>false
 |z=>Wz z n
variable{o:Array Value}{a c:Nat}{F:Nat×Nat}{h:Program}{g r:TypeId}{c7 w:Value}{N:Value->Prop}{b:World}{z:ZU}
def RM{φ:Value->Prop}(P:Wz w c7=true)(n:φ c7):Pf w φ:=by
 unfold Pf
 cases w<;>cases c7<;>simp[Wz]at P<;>first
  |exact⟨_,n⟩
  |exact⟨_,_,_,n⟩
  |(subst P;exact⟨_,n⟩)
def Mf:∀{P cs:List Value} {φ:List Value->Prop},Vf P cs=true->φ cs->QT P φ
 |[],[],φ,_,a=>a
 |[],_::_,φ,n,_=>by simp[Vf]at n
 |_::_,[],φ,n,_=>by simp[Vf]at n
 |z::P,b::d,φ,n,a=>by
  simp only[Vf,QK]at n;exact RM (φ:=λb=>QT P λc=>φ (b::c)) n.1 (Mf (φ:=λc=>φ (b::c)) n.2 a)
def bT(n:SO w c7=true)(P:N c7):qk w N:=by
 unfold qk;split
 ·rename_i c
  cases c7<;>simp[SO]at n
  rename_i cs;exact Mf (φ:=λa=>N (.agg a.toArray)) n (by simpa using P)
 ·rename_i b
  refine RM ?_ P
  cases w<;>first|exact n|exact Zz rfl (b _)
def yQ{b:World}{c:Addr}{d:Prop}:∀{cs:List Value} {n:Nat},(∀P v,cs[P]? =some v->b.cell? (c.add (n+P))=some v)->d->iB b c n cs d
 |[],n,_,a=>a
 |v::h,n,e,a=>⟨e 0 v rfl,yQ (λP f g=>by have:=e (P+1) f (by simpa using g);rwa [show n+1+P=n+(P+1) by omega]) a⟩
def ij(n:Program)(P:TypeId)(cs:List Value):Bool:=uj n P&&(match cN n P with
 | .agg a=>Nat.beq (lU n P) a.size&&Vf a.toList cs
 |_=>false)&&Nat.beq cs.length (lU n P)&&cs.all Value.oneCell'
def Mg{cs:List Value}(e:ij h g cs=true)(i:∀P d,cs[P]? =some d->b.cell? ⟨a,c+P,none⟩=some d)(j:N (.agg cs.toArray)):
  gP h g (.pointer (some ⟨a,c,none⟩)) b N:=by
 simp only[ij,QK]at e;obtain⟨⟨⟨k,n⟩,m⟩,o⟩:=e;unfold gP;simp only[k]
 revert n
 cases cN h g<;>simp only[Bool.false_eq_true,false_implies]
 rename_i p;intro n;simp only[QK]at n;simp only[n.1];exact Mf (φ:=λf=>iB b ⟨a,c,none⟩ 0 f (N (.agg f.toArray))) n.2 (yQ (λP d l=>by rw[Xz,Addr.add_lit];exact i P d l) j)
def au{cs:List Value}(n:ij h g cs=true)(P:b.heap[a]? =some (.cells cs.toArray r F))(c:N (.agg cs.toArray)):
  gP h g (ZL a) b N:=Mg n (λe f d=>ae P (by rw[Xz];simpa using d)) c
def UT{cs:List Value}(d:ij h g cs=true)(e:b.heap[a]? =some (.cells o r F))(f:∀n P,cs[n]? =some P->o[c+n]? =some P)(i:N (.agg cs.toArray)):
  gP h g (.pointer (some ⟨a,c,none⟩)) b N:=Mg d (λn P j=>ae e (f n P j)) i
def bA{P a k:Nat}{es:List Value}(d:ij h g es=true)(e:es.length=k)(f:∀n,n<k->b.cell? ⟨P,a+n,none⟩=es[n]?)(i:N (.agg es.toArray)):
  gP h g (.pointer (some ⟨P,a,none⟩)) b N:=Mg d (λn j c=>by rw[f n (by rw[<-e];exact(Qv.1 c).1)];exact c) i
def Fy{b d:Nat}{g:TypeId}{h:ZU}:∀(a:List Value) (P:Nat) {n:World} {cs:Array Value},n.heap[b]? =some (.cells cs g (0,0))->d+P+a.length<=cs.size->
  (∀c,ak (·=b) n c->c.heap.size=n.heap.size->c.heap[b]? =some (.cells (CR cs (d+P) a) g (0,0))->h c)->ji ⟨b,d,none⟩ P a n h
 |[],P,n,cs,e,i,f=>f n (ak.refl _) rfl e
 |v::a,P,n,cs,e,i,f=>by
  unfold ji;rw[Addr.add_lit];rw[Xq]at i;exact PS.mk e oM λr j k l=>Fy a (P+1) l (by simp;omega) λm o p q=>f m (j.then o) (p.trans k) q
def Vg{cs:List Value}(P:ij h g cs=true)(d:b.heap[a]? =some (.cells o r (0,0)))(m:c+cs.length<=o.size)(e:∀n,ak (·=a) b n->n.heap.size=b.heap.size->n.heap[a]? =some (.cells (CR o c cs) r (0,0))->z n):kv h g (.pointer (some ⟨a,c,none⟩)) (.agg cs.toArray) b z:=by
 simp only[ij,QK]at P;obtain⟨⟨⟨f,p⟩,i⟩,j⟩:=P;unfold kv;have k:Nat.beq cs.toArray.size (lU h g)=true:=by simpa using i
 have l:cs.toArray.toList.all Value.oneCell'=true:=by simpa using j
 simp only[f,k,l];exact Fy cs 0 d oM e
def az{cs:List Value}(P:ij h g cs=true)(c:b.heap[a]? =some (.cells o r (0,0)))(d:cs.length=o.size)(e:∀n,ak (·=a) b n->n.heap.size=b.heap.size->n.heap[a]? =some (.cells cs.toArray r (0,0))->z n):kv h g (ZL a) (.agg cs.toArray) b z:=
 Vg P c oM λn f i j=>e n f i (by rw[j,Fw d])
end Go.ar
namespace Go.Proofs
open Go.Shelf
def Tryz.OT:Go.Shelf.Ren:=⟨λ|6=>154|15=>218|14=>217|28=>276|29=>277|20=>268|21=>269|22=>270|23=>271|24=>272|25=>273|26=>274|27=>275|46=>316|47=>317|48=>318|49=>319|50=>320|57=>348|n=>n,λ|22=>59|24=>63|25=>260|3=>3|39=>324|0=>0|53=>365|55=>367|4=>4|46=>359|45=>358|50=>273|5=>5|9=>9|66=>400|70=>375|76=>426|77=>427|n=>n,λ|n=>n⟩
def Tryz.T_:Go.Proofs.SlLaysF0.n6 Tryz.prog Tryz.OT:={
 mixed:=by kernel_rfl
 f6:=⟨Tryz.f154.name,am,Tryz.func154.trans ac⟩
 f14:=⟨Tryz.f217.name,am,Tryz.func217.trans ac⟩
 f15:=Tryz.func218.trans ac
 f20:=⟨Tryz.f268.name,am,Tryz.func268.trans ac⟩
 f21:=⟨Tryz.f269.name,am,Tryz.func269.trans ac⟩
 f22:=⟨Tryz.f270.name,am,Tryz.func270.trans ac⟩
 f23:=⟨Tryz.f271.name,am,Tryz.func271.trans ac⟩
 f24:=⟨Tryz.f272.name,am,Tryz.func272.trans ac⟩
 f25:=⟨Tryz.f273.name,am,Tryz.func273.trans ac⟩
 f26:=⟨Tryz.f274.name,am,Tryz.func274.trans ac⟩
 f27:=⟨Tryz.f275.name,am,Tryz.func275.trans ac⟩
 f28:=Tryz.func276.trans ac
 f29:=Tryz.func277.trans ac
 f46:=⟨Tryz.f316.name,am,Tryz.func316.trans ac⟩
 f47:=Tryz.func317.trans ac
 f48:=Tryz.func318.trans ac
 f49:=⟨Tryz.f319.name,am,Tryz.func319.trans ac⟩
 f50:=⟨Tryz.f320.name,am,Tryz.func320.trans ac⟩
 f57:=⟨Tryz.f348.name,am,Tryz.func348.trans ac⟩
 t0:=Tryz.underlying0
 a0:=Tryz.isAgg0
 z0:=Tryz.sizeOf0
 v0:=Tryz.zeroValue0
 t3:=Tryz.underlying3
 a3:=Tryz.isAgg3
 z3:=Tryz.sizeOf3
 v3:=Tryz.zeroValue3
 t4:=Tryz.underlying4
 a4:=Tryz.isAgg4
 z4:=Tryz.sizeOf4
 v4:=Tryz.zeroValue4
 t5:=Tryz.underlying5
 a5:=Tryz.isAgg5
 z5:=Tryz.sizeOf5
 v5:=Tryz.zeroValue5
 t9:=Tryz.underlying9
 a9:=Tryz.isAgg9
 z9:=Tryz.sizeOf9
 v9:=Tryz.zeroValue9
 t22:=Tryz.underlying59
 a22:=Tryz.isAgg59
 z22:=Tryz.sizeOf59
 v22:=Tryz.zeroValue59
 t25:=Tryz.underlying260
 a25:=Tryz.isAgg260
 z25:=Tryz.sizeOf260
 v25:=Tryz.zeroValue260
 t39:=Tryz.underlying324
 a39:=Tryz.isAgg324
 z39:=Tryz.sizeOf324
 v39:=Tryz.zeroValue324
 t45:=Tryz.underlying358
 a45:=Tryz.isAgg358
 z45:=Tryz.sizeOf358
 v45:=Tryz.zeroValue358
 t46:=Tryz.underlying359
 a46:=Tryz.isAgg359
 z46:=Tryz.sizeOf359
 v46:=Tryz.zeroValue359
 t50:=Tryz.underlying273
 a50:=Tryz.isAgg273
 z50:=Tryz.sizeOf273
 v50:=Tryz.zeroValue273
 t53:=Tryz.underlying365
 a53:=Tryz.isAgg365
 z53:=Tryz.sizeOf365
 v53:=Tryz.zeroValue365
 t55:=Tryz.underlying367
 a55:=Tryz.isAgg367
 z55:=Tryz.sizeOf367
 v55:=Tryz.zeroValue367
 t66:=Tryz.underlying400
 a66:=Tryz.isAgg400
 z66:=Tryz.sizeOf400
 v66:=Tryz.zeroValue400
 t70:=Tryz.underlying375
 a70:=Tryz.isAgg375
 z70:=Tryz.sizeOf375
 v70:=Tryz.zeroValue375
 t76:=Tryz.underlying426
 a76:=Tryz.isAgg426
 z76:=Tryz.sizeOf426
 v76:=Tryz.zeroValue426
 t77:=Tryz.underlying427
 a77:=Tryz.isAgg427
 z77:=Tryz.sizeOf427
 v77:=Tryz.zeroValue427}
def Tryz.OU:Go.Shelf.Ren:=⟨λ|6=>406|15=>218|14=>408|28=>276|29=>277|20=>409|21=>410|22=>411|23=>412|24=>413|25=>414|26=>415|27=>416|46=>417|47=>317|48=>318|49=>418|50=>419|57=>420|n=>n,λ|22=>51|24=>135|25=>466|3=>3|39=>324|0=>0|53=>365|55=>367|4=>4|46=>359|45=>358|50=>273|5=>5|9=>9|66=>400|70=>375|76=>426|77=>427|n=>n,λ|n=>n⟩
def Tryz.Ua:Go.Proofs.SlLaysF0.n6 Tryz.prog Tryz.OU:={
 mixed:=by kernel_rfl
 f6:=⟨Tryz.f406.name,am,Tryz.func406.trans ac⟩
 f14:=⟨Tryz.f408.name,am,Tryz.func408.trans ac⟩
 f15:=Tryz.func218.trans ac
 f20:=⟨Tryz.f409.name,am,Tryz.func409.trans ac⟩
 f21:=⟨Tryz.f410.name,am,Tryz.func410.trans ac⟩
 f22:=⟨Tryz.f411.name,am,Tryz.func411.trans ac⟩
 f23:=⟨Tryz.f412.name,am,Tryz.func412.trans ac⟩
 f24:=⟨Tryz.f413.name,am,Tryz.func413.trans ac⟩
 f25:=⟨Tryz.f414.name,am,Tryz.func414.trans ac⟩
 f26:=⟨Tryz.f415.name,am,Tryz.func415.trans ac⟩
 f27:=⟨Tryz.f416.name,am,Tryz.func416.trans ac⟩
 f28:=Tryz.func276.trans ac
 f29:=Tryz.func277.trans ac
 f46:=⟨Tryz.f417.name,am,Tryz.func417.trans ac⟩
 f47:=Tryz.func317.trans ac
 f48:=Tryz.func318.trans ac
 f49:=⟨Tryz.f418.name,am,Tryz.func418.trans ac⟩
 f50:=⟨Tryz.f419.name,am,Tryz.func419.trans ac⟩
 f57:=⟨Tryz.f420.name,am,Tryz.func420.trans ac⟩
 t0:=Tryz.underlying0
 a0:=Tryz.isAgg0
 z0:=Tryz.sizeOf0
 v0:=Tryz.zeroValue0
 t3:=Tryz.underlying3
 a3:=Tryz.isAgg3
 z3:=Tryz.sizeOf3
 v3:=Tryz.zeroValue3
 t4:=Tryz.underlying4
 a4:=Tryz.isAgg4
 z4:=Tryz.sizeOf4
 v4:=Tryz.zeroValue4
 t5:=Tryz.underlying5
 a5:=Tryz.isAgg5
 z5:=Tryz.sizeOf5
 v5:=Tryz.zeroValue5
 t9:=Tryz.underlying9
 a9:=Tryz.isAgg9
 z9:=Tryz.sizeOf9
 v9:=Tryz.zeroValue9
 t22:=Tryz.underlying51
 a22:=Tryz.isAgg51
 z22:=Tryz.sizeOf51
 v22:=Tryz.zeroValue51
 t25:=Tryz.underlying466
 a25:=Tryz.isAgg466
 z25:=Tryz.sizeOf466
 v25:=Tryz.zeroValue466
 t39:=Tryz.underlying324
 a39:=Tryz.isAgg324
 z39:=Tryz.sizeOf324
 v39:=Tryz.zeroValue324
 t45:=Tryz.underlying358
 a45:=Tryz.isAgg358
 z45:=Tryz.sizeOf358
 v45:=Tryz.zeroValue358
 t46:=Tryz.underlying359
 a46:=Tryz.isAgg359
 z46:=Tryz.sizeOf359
 v46:=Tryz.zeroValue359
 t50:=Tryz.underlying273
 a50:=Tryz.isAgg273
 z50:=Tryz.sizeOf273
 v50:=Tryz.zeroValue273
 t53:=Tryz.underlying365
 a53:=Tryz.isAgg365
 z53:=Tryz.sizeOf365
 v53:=Tryz.zeroValue365
 t55:=Tryz.underlying367
 a55:=Tryz.isAgg367
 z55:=Tryz.sizeOf367
 v55:=Tryz.zeroValue367
 t66:=Tryz.underlying400
 a66:=Tryz.isAgg400
 z66:=Tryz.sizeOf400
 v66:=Tryz.zeroValue400
 t70:=Tryz.underlying375
 a70:=Tryz.isAgg375
 z70:=Tryz.sizeOf375
 v70:=Tryz.zeroValue375
 t76:=Tryz.underlying426
 a76:=Tryz.isAgg426
 z76:=Tryz.sizeOf426
 v76:=Tryz.zeroValue426
 t77:=Tryz.underlying427
 a77:=Tryz.isAgg427
 z77:=Tryz.sizeOf427
 v77:=Tryz.zeroValue427}
def Tryz.Md:Go.Shelf.Ren:=⟨λ|5=>279|7=>321|n=>n,λ|23=>267|25=>3|3=>135|4=>4|20=>20|n=>n,λ|n=>n⟩
def Tryz.UU:Go.Proofs.SlLaysW.n5 Tryz.prog Tryz.Md:={
 mixed:=by kernel_rfl
 f5:=⟨Tryz.f279.name,am,Tryz.func279.trans ac⟩
 f7:=Tryz.func321.trans ac
 t4:=Tryz.underlying4
 a4:=Tryz.isAgg4
 z4:=Tryz.sizeOf4
 v4:=Tryz.zeroValue4
 t20:=Tryz.underlying20
 a20:=Tryz.isAgg20
 z20:=Tryz.sizeOf20
 v20:=Tryz.zeroValue20
 t23:=Tryz.underlying267
 a23:=Tryz.isAgg267
 z23:=Tryz.sizeOf267
 v23:=Tryz.zeroValue267}
end Go.Proofs
namespace Go.Proofs.YtjgjkeponbeekaaGreatDoor
open Go.ar Go.Sort
def aX(n:aj)(P:YQ)(a b:Nat):ij ZP 63 (aE n P a b)=true:=kR
def rY(n:aj)(P:YQ)(a b:Nat):SO (cN ZP 63) (.agg (aE n P a b).toArray)=true:=kR
def G(n P:World):Prop:=∃a b,P=grow (n.drewN a) b
variable{B e m:Int}{d9:Int×Int}{h4:List ((Int×Int)×aj)}{L e5:List aj}{a c i l:Nat}{f:ZN}{d2:Obj}{d s:YQ}{g:TypeId}{b b8 k:World}{z:ZU}{O q:aj}{H:aw}
def G.then(d:G b k)(e:G k b8):G b b8:=by
 obtain⟨n,P,rfl⟩:=d;obtain⟨a,c,rfl⟩:=e;exact⟨n+a,P++c,by show grow (grow ((b.drewN n).drewN a) P) c=_;rw[grow_grow,World.drewN_drewN]⟩
def G.af{S:ZN}(n:G b k):ak S b k:=by
 obtain⟨d,P,rfl⟩:=n;refine⟨rfl,rfl,rfl,by simp[grow],λa c _=>?_⟩;show(b.heap++P)[a]? =_;rw[Array.getElem?_append_left c]
def G.drew(n:aV b k):G b k:=by obtain⟨P,rfl⟩:=n;exact⟨P,#[],sM⟩
def PA.Wp(P:∀n,G b n->n.heap.size=b.heap.size+1->n.heap[b.heap.size]? =some d2->z n):PA b d2 z:=
 P (b.alloc d2) ⟨0,#[d2],by rw[alloc_eq_grow];rfl⟩ sM (heap_alloc_new b d2)
def isNaN:YX 278 #[ZH e] b (Ok λn P=>n= .bool false/\b=P):=zI (Ok.mk ⟨sM,rfl⟩)
def JX(n P:Int):Int:=if n<P then-1 else if P<n then 1 else 0
def gO:YX 220 #[ZH e,ZH m] b (Ok λa c=>a= ZH (JX e m)/\b=c):=by
 refine uY (PC.ok isNaN ?_);rintro _ _ ⟨rfl,rfl⟩;refine⟨_,rfl,PC.ok isNaN ?_⟩;rintro _ _ ⟨rfl,rfl⟩;refine⟨_,rfl,al.ff rfl (al.ff rfl (al.dec (λn=>Ok.mk ⟨by unfold JX;rw[Zx n],rfl⟩) (λn=>al.dec (λP=>Ok.mk ⟨by unfold JX;rw[Zq n,Zx P],rfl⟩) (λP=>Ok.mk ⟨by unfold JX;rw[Zq n,Zq P],rfl⟩))))⟩
def Nd:List Int->Int
 |[]=>0
 |x::n=>if x≠0 then x else Nd n
def Pv(r:b.heap[a]? =some (.cells #[ZH e,ZH m,ZH B] g (0,0))):
  YX 219 #[.slice (ZM a) 3 3] b (Ok λh d=>h= ZH (Nd [e,m,B])/\b=d):=by
 refine Gu ⟨λk c d=>∃n:Nat,c=n/\n<=3/\k=3-n/\Nd [e,m,B]=Nd ([e,m,B].drop n)/\b=d,⟨_,0,rfl,oM,rfl,rfl,rfl⟩,?_⟩;rintro k c _ _ ⟨n,rfl,w,rfl,i,rfl⟩;refine al.dec (λs=>?_) (λs=>?_)
 ·have t:∀f:Int,[e,m,B][n]? =some f->∃l o,(ZM a:YQ)=some ⟨l,o,none⟩/\(0:Int)<=n/\(n:Int)<((3:Nat):Int)/\∃j:Int,b.cell? ⟨l,o+Int.toNat n,none⟩=some (ZH j)/\al (j !=0) (Ok (λh d=>h= ZH (Nd [e,m,B])/\b=d) (.returned (ZH j)) b) (∃p,p<3-n/\∃c:Nat,ZG .i64 ((n:Int)+1)=c/\c<=3/\p=3-c/\Nd [e,m,B]=Nd ([e,m,B].drop c)/\b=b):=by
   intro f P;have q:[e,m,B].drop n=f::[e,m,B].drop (n+1):=by
    rw[X4 (by simp;omega)];congr 1;simpa using(Qv.1 P).2
   refine⟨a,0,rfl,oM,oM,f,ae r ?_,al.dP (λu=>Ok.mk ⟨?_,rfl⟩) (λv=>⟨_,oM,n+1,aq oM,oM,rfl,?_,rfl⟩)⟩
   ·rw[Xz]
    match n,P with
    |0,P=>simp at P;simp[P]
    |1,P=>simp at P;simp[P]
    |2,P=>simp at P;simp[P]
    |n+3,P=>simp at P
   ·rw[i,q,Nd,Zx u]
   ·rw[i,q,Nd,Zq (by simpa using v)]
  have P:n<[e,m,B].length:=by simp;omega
  exact t [e,m,B][n] (by simp[P])
 ·obtain rfl:n=3:=oM
  exact Ok.mk ⟨by rw[i];rfl,rfl⟩
def HR(n P:aj):Nd [JX n.aA P.aA,JX n.origin P.origin,JX n.seq P.seq]=sJ n P:=by
 unfold sJ ei JX Nd Nd Nd Nd
 by_cases d:n.aA<P.aA
 ·simp[d]
 by_cases g:P.aA<n.aA
 ·simp[d,g];omega
 have a:n.aA=P.aA:=oM
 by_cases e:n.origin<P.origin
 ·simp[a,e]
 by_cases h:P.origin<n.origin
 ·simp[a,e,h];omega
 have b:n.origin=P.origin:=oM
 by_cases c:n.seq<P.seq
 ·simp[a,b,c]
 by_cases f:P.seq<n.seq
 ·simp[a,b,c,f]
 ·simp[a,b,c,f]
def CO:YX 155 #[.agg (aE q d a c).toArray,.agg (aE O s i l).toArray] b (Ok λh j=>h= ZH (sJ q O)/\G b j):=by
 refine wZ (PA.Wp λt k u m=>PA.Wp λv f w o=>λx p=>⟨λ_=>False,?_⟩);have n:=G.drew p;have P:=(n.af (S:=λ_=>False)).get ((f.af (S:=λ_=>False)).get m id) id;have e:=(n.af (S:=λ_=>False)).get o id;refine⟨_,ae P rfl,_,ae e rfl,id,_,ae P rfl,id,_,ae e rfl,id,_,ae P rfl,id,_,ae e rfl,PC.ok gO ?_⟩;rintro _ _ ⟨rfl,rfl⟩;refine⟨_,rfl,ak.refl _,PC.ok gO ?_⟩;rintro _ _ ⟨rfl,rfl⟩;refine⟨_,rfl,ak.refl _,PC.ok gO ?_⟩;rintro _ _ ⟨rfl,rfl⟩;refine⟨_,rfl,ak.refl _,PA.Wp λy g z r=>⟨g.af,PC.ok (Pv r) ?_⟩⟩;rintro _ _ ⟨rfl,rfl⟩;exact⟨_,rfl,ak.refl _,Ok.mk ⟨by rw[HR],((k.then f).then n).then g⟩⟩
structure RI where
 e:aj
 a:YQ
 n:Nat
 c:Nat
instance:Inhabited RI:=⟨⟨⟨0,0,0,[],0,0,0,0,0,0⟩,none,0,0⟩⟩
def encS(n:RI):List Value:=aE n.e n.a n.n n.c
def RJ(P:RI):∀a∈encS P,a.oneCell'=true:=by
 intro b n;simp only[encS,aE,Q2,List.not_mem_nil,or_false]at n;rcases n with rfl|rfl|rfl|rfl|rfl|rfl|rfl|rfl|rfl|rfl<;>rfl
def Am(n P:RI):ltOf (λn P:RI=>sJ n.e P.e) n P=ei n.e P.e:=by
 unfold ltOf sJ
 cases a:ei n.e P.e
 ·cases b:ei P.e n.e<;>simp[a,b]
 ·simp[a]
def jt:ei q O=true↔q.aA<O.aA\/q.aA=O.aA/\(q.origin<O.origin\/q.origin=O.origin/\q.seq<O.seq):=by simp[ei]
def uu:ei q O=false↔¬(q.aA<O.aA\/q.aA=O.aA/\(q.origin<O.origin\/q.origin=O.origin/\q.seq<O.seq)):=by rw[<-jt];simp
def Wq:SWO (ltOf λn P:RI=>sJ n.e P.e) where
 irrefl n:=by rw[Am,uu];omega
 trans n P z h1 h2:=by rw[Am,jt]at*;omega
 ntrans n P z h1 h2:=by rw[Am,uu]at*;omega
def _root_.Go.ar.bF.evs{c:World}{D:ZN}:∀{a:List aj} {cs:List Value},bF jF c D a cs->∃P:List RI,P.map (·.e)=a/\cs=P.flatMap encS/\∀n∈P,Row aI 8 c D n.a n.n n.e.aQ/\n.e.Ok
 |[],_,d=>⟨[],rfl,d,sM⟩
 |e::a,_,⟨r,s,f,⟨g,h,i,j,k,l⟩,m⟩=>by
  obtain⟨P,o,p,q⟩:=Go.ar.bF.evs m;refine⟨⟨e,g,h,i⟩::P,by simp[o],by rw[f,j,p];rfl,?_⟩;intro n b;rcases Q2.1 b with rfl|b
  ·exact⟨k,l⟩
  ·exact q n b
def _root_.Go.ar.bF.RL{a:World}{D:ZN}:∀{n:List RI},(∀x∈n,Row aI 8 a D x.a x.n x.e.aQ/\x.e.Ok)->bF jF a D (n.map (·.e)) (n.flatMap encS)
 |[],_=>rfl
 |x::n,P=>⟨encS x,n.flatMap encS,rfl,⟨x.a,x.n,x.c,rfl,(P x (QV ..)).1,(P x (QV ..)).2⟩,Go.ar.bF.RL λb c=>P b (QJ _ c)⟩
def rD{n:List RI}(P:a<n.length*10):(n.flatMap encS)[a]? =(encS n[a/10]!)[a % 10]? :=by
 induction n generalizing a with
 |nil=>simp at P
 |cons d n e=>
  have f:(encS d).length=10:=rfl;rw[List.flatMap_cons]
  by_cases b:a<10
  ·rw[XW oM,Nat.div_eq_of_lt b,Nat.mod_eq_of_lt b];rfl
  ·rw[X8 oM,f,e (by simp at P;omega)]
   obtain⟨c,rfl⟩:∃c,a=c+10:=⟨a-10,oM⟩
   rw[Nat.add_sub_cancel,Nat.add_div_right _ dC,Nat.add_mod_right];simp
def gX(n:List RI):(n.flatMap encS).length=n.length*10:=by
 induction n with
 |nil=>rfl
 |cons P n a=>rw[List.flatMap_cons,QX,a];have b:(encS P).length=10:=rfl;rw[b];simp;omega
def CP(n:List RI):(flatK encS 10 n.toArray).toList=n.flatMap encS:=by
 apply X3;intro P
 by_cases a:P<n.length*10
 ·rw[rD a]
  have d:P<(flatK encS 10 n.toArray).size:=by simpa using a
  have b:=get_flatK encS 10 n.toArray P (by simpa using a);rw[getElem!_pos _ P d]at b;have e:(encS n[P/10]!).length=10:=rfl;have c:P % 10<(encS n[P/10]!).length:=by rw[e];omega
  rw[Qq (by simpa using a),Qq c]
  congr 1
  rw[Array.getElem_toList,b];rw[getElem!_pos _ _ (by simpa using c)]
  congr 1
  simp
 ·rw[Q7 (by simpa using a),Q7 (by rw[gX];omega)]
def CM(n:List aj):Prop:=n.Pairwise λP a=>ei a P=false
def JU(l:aM jF 63 f b d a c L)(t:L.length<=20000000):
  YX 154 #[.slice d a c,.func (.func 155) #[] #[]] b (Ok λM u=>M= .tuple #[]/\∃A,A.Perm L/\CM A/\aM jF 63 f u d a c A/\ak (λm=>aD d=some m) b u):=by
 obtain⟨cs,D,B,Z,N⟩:=l.body;obtain⟨P,C,rfl,a4⟩:=Z.evs;have E:=l.len dC;have v:P.length=a:=by rw[E,<-C];simp
 rcases B.cases with⟨rfl,rfl,rfl,h0⟩|⟨g,i,rfl,w,O,F,Q⟩
 ·have hd:P=[]:=QW v
  refine(AnyF.slices_SortFunc_none Tryz.T_ none 0 _ b).mono ?_;rintro p u ⟨rfl,rfl⟩;exact Ok.mk ⟨rfl,L,List.Perm.refl _,by rw[<-C,hd];exact List.Pairwise.nil,l,ak.refl _⟩
 ·have R:jF.k=10:=rfl
  rw[R]at Q F;have a5:flatK encS 10 P.toArray=(P.flatMap encS).toArray:=by rw[<-CP]
  have hH:HoldsK encS 10 b g 0 P.toArray:=by
   intro j q;rw[size_flatK]at q;simp only[List.size_toArray]at q;have S:j<(P.flatMap encS).length:=by rw[gX];exact q
   refine⟨?_,by simp[World.frozen?,w]⟩;have k:(flatK encS 10 P.toArray)[j]! =(P.flatMap encS)[j]:=by
    rw[a5,getElem!_pos _ j (by simpa using S)];simp
   rw[k,Xz];refine ae w ?_;have h:(i.toList.take (a*10))[j]? =some (P.flatMap encS)[j]:=by rw[Q];exact Qq S
   rw[Xw,Zx oM]at h;simpa using h
  have t:=B.row;have H:c<=maxLen:=by
   obtain⟨_,a0,_,T,_,_,_,H,_⟩:=B.row.2.resolve_left (by rintro⟨l,_⟩;cases l);simp only[XX]at T;rw[T.2.2];exact H
  have a6:P.toArray.size<4611686018427387904:=by
   simp only[List.size_toArray,v];omega
  have U:=AnyQ.slices_SortFunc Tryz.T_ 10 (λb=>cM _ _ _ kR ⟨_,Tryz.underlying63⟩ b) (λb=>Tryz.sizeOf63 b) encS (λ_=>rfl) RJ (λx V=>sJ x.e V.e) Wq 155 #[] g 0 c P.toArray b
   (enters_of Tryz.func155 kR rfl) (λb0 r dk b1 x V=>(CO).mono ?_) hH (ax w) a6
  ·rw[show P.toArray.size=a by simpa using v]at U
   refine U.mono ?_;rintro p u ⟨rfl,e,y,r,hp,hs,rfl⟩;obtain⟨p1,p2,W⟩:=hp;have n:e.size=a:=p1.trans (by simpa using v);have X:e.toList.Perm P:=by
    have k:e.extract 0 a=e:=by rw[<-n];exact Array.extract_size
    have h:P.toArray.extract 0 a=P.toArray:=by rw[show a=P.toArray.size by simpa using v.symm];exact Array.extract_size
    rw[k,h]at W;exact W
   have a1:flatK encS 10 e=(e.toList.flatMap encS).toArray:=by rw[<-CP]
   have I:(sortWorldK encS 10 b g 0 y e r).heap[g]? =some (.cells (putCells id 0 (flatK encS 10 e) i) 63 (0,0)):=by
    have a7:=ax w;show((Sort.ahead b y).heap.modify g _++r)[g]? =_;rw[Array.getElem?_append_left (by simpa[Sort.ahead]using a7),Array.getElem?_modify,Zx rfl];show Option.map _ b.heap[g]? =_;rw[w];rfl
   have z:ak (λm=>aD (ZM g)=some m) b (sortWorldK encS 10 b g 0 y e r):=by
    refine⟨rfl,rfl,rfl,?_,λa2 z E=>?_⟩
    ·show b.heap.size<=((Sort.ahead b y).heap.modify g _++r).size
     simp[Sort.ahead]
    ·show((Sort.ahead b y).heap.modify g _++r)[a2]? =_
     rw[Array.getElem?_append_left (by simpa[Sort.ahead]using z),Array.getElem?_modify,Zq (λp=>E (by rw[p];rfl))]
     rfl
   have a3:(putCells id 0 (flatK encS 10 e) i).size=c*10:=by unfold putCells;rw[Array.size_mapIdx];exact F
   refine Ok.mk ⟨rfl,e.toList.map (·.e),by rw[<-C];exact X.map _,?_,⟨⟨e.toList.flatMap encS,D,⟨⟨?_,.inr ⟨g,c,_,rfl,Qj _,I,O,H,a3,?_⟩⟩⟩,bF.RL λx hx=>?_,N⟩,l.self,λm t=>Qk (l.aC m t) z.size⟩,z⟩
   ·unfold CM
    rw[List.pairwise_map,List.pairwise_iff_getElem];intro Y j hi q a8;have k:=hs Y j (Qj _) a8 (by simpa[n]using q);rw[Am,getElem!_pos _ j (by simpa using q),getElem!_pos _ Y (by simpa using hi)]at k;simpa using k
   ·rw[gX,XK,n];rfl
   ·apply X3
    intro s;rw[R,Xw];split
    ·rename_i o
     rw[rD (by rw[XK,n];exact o),<-rD (by rw[XK,n];exact o)];unfold putCells;have a9:s<i.size:=by rw[F];exact Qk o (Q0 _ O)
     rw[Array.getElem?_toList,Array.getElem?_mapIdx,X6 a9];simp only[Option.map_some];have J:s<(flatK encS 10 e).size:=by rw[size_flatK,n];exact o
     rw[Zx ⟨Qj _,by rw[Xz];exact J⟩,Nat.sub_zero,getElem!_pos _ s J];have:(flatK encS 10 e)[s]=(e.toList.flatMap encS)[s]'(by rw[gX,XK,n];exact o):=by
      have h:=Zj (·[s]?) a1;simp only[List.getElem?_toArray]at h;rw[X6 J,Qq (by rw[gX,XK,n];exact o)]at h;exact XJ h
     rw[this];exact(Qq _).symm
    ·rename_i o
     rw[Q7 (by rw[gX,XK,n];omega)]
   ·have K:x∈P:=X.mem_iff.1 hx
    obtain⟨k,h⟩:=a4 x K;exact⟨k.af z λm t p=>(N m t).2 p,h⟩
  ·rintro p u ⟨M,rfl,rfl,hG⟩
   exact⟨rfl,hG⟩
open Go.ar
abbrev Ug(n:List aj):Prop:=n.Pairwise λP a=>ei P a=true
structure aw.OK (S:aw):Prop where
 n:S.n<=64
 Pw:Ug S.l
 ids:(S.l.map aZ).Nodup
 WL:∀e∈S.l,cR e S.n=0
 ok:∀e∈S.l,e.Ok
def FM(P:aZ q≠aZ O):ei q O=true\/ei O q=true:=by
 rw[jt,jt];have:¬(q.origin=O.origin/\q.seq=O.seq):=λn=>P (by unfold aZ;rw[n.1,n.2]);omega
def tx{n P a:aj}(b:ei n P=true)(c:ei P a=true):ei n a=true:=by rw[jt]at*;omega
def m_(n:ei q O=true):ei O q=false:=by rw[jt]at n;rw[uu];omega
def dd(P:aj):∀n,(dm P n).Perm (P::n)
 |[]=>List.Perm.refl _
 |x::n=>by
  unfold dm;split
  ·exact List.Perm.refl _
  ·exact(List.Perm.cons x (dd P n)).trans (List.Perm.swap P x n)
def wD{c:aj}:∀{P},Ug P->(∀x∈P,aZ x≠aZ c)->Ug (dm c P)
 |[],_,_=>by unfold dm;exact List.pairwise_singleton ..
 |x::P,d,e=>by
  obtain⟨f,g⟩:=List.pairwise_cons.1 d;unfold dm;split
  ·rename_i b
   exact List.pairwise_cons.2 ⟨λa n=>by
    rcases Q2.1 n with rfl|n
    ·exact b
    ·exact tx b (f a n),d⟩
  ·rename_i b
   refine List.pairwise_cons.2 ⟨λa n=>?_,wD g λa n=>e a (QJ _ n)⟩;rcases Q2.1 ((dd c P).mem_iff.1 n)with rfl|n
   ·exact(FM (e x (QV ..))).resolve_right (by simpa using b)
   ·exact f a n
def Mc(f:CM L)(g:Ug e5)(b:L.Perm e5)(i:(L.map aZ).Nodup):L=e5:=by
 refine b.eq_of_pairwise (le:=λP n=>ei n P=false) (λP n j k c d=>?_) f (g.imp λh=>m_ h)
 by_cases e:aZ P=aZ n
 ·have a:n∈L:=b.mem_iff.2 k
  obtain⟨o,l,rfl⟩:=List.getElem_of_mem j;obtain⟨p,m,rfl⟩:=List.getElem_of_mem a;have:=(List.getElem_inj (xs:=L.map aZ) (h₀:=by simpa using l) (h₁:=by simpa using m) i).1 (by simpa using e);subst this;rfl
 ·rcases FM e with h|h
  ·rw[h]at d;cases d
  ·rw[h]at c;cases c
def Tp(P:(L.map aZ).Nodup)(n:q∈L):L.find? (λa=>aZ a==aZ q)=some q:=by
 induction L with
 |nil=>cases n
 |cons a L b=>
  simp only[QY,List.nodup_cons]at P;rcases Q2.1 n with rfl|n
  ·simp
  ·have c:aZ a≠aZ q:=λd=>P.1 (d▸Xk.2 ⟨q,n,rfl⟩)
   rw[List.find?_cons_of_neg (by simpa using c)];exact b P.2 n
def aw.get_some(n:H.get d9=some q):q∈H.l/\aZ q=d9:=
 ⟨List.mem_of_find?_eq_some n,by simpa using List.find?_some n⟩
def aw.get_none(P:H.get d9=none):∀n∈H.l,aZ n≠d9:=λn a=>by
 have:=List.find?_eq_none.1 P n a;simpa using this
def aw.OK.get(n:H.OK)(P:q∈H.l):H.get (aZ q)=some q:=Tp n.ids P
def JT(g:H.OK)(c:∀n∈h4,n.1=aZ n.2)(d:(h4.map (·.2)).Perm H.l)(k:Tidy h4)(P:Int×Int):aF h4 P=H.get P:=by
 cases a:aF h4 P with
 |none=>
  rw[kp]at a
  symm
  refine List.find?_eq_none.2 λb h=>?_;obtain⟨n,e,rfl⟩:=Xk.1 (d.mem_iff.2 h);intro i;exact a (Xk.2 ⟨n,e,by rw[c n e];simpa using i⟩)
 |some b=>
  have f:=bW a;have j:P=aZ b:=c _ f;have:b∈H.l:=d.mem_iff.1 (Xk.2 ⟨_,f,rfl⟩);rw[j,g.get this]
def xS(P:List aj)(n:Int):P.foldl (λn a=>max n a.aA) n=max n (P.foldl (λn a=>max n a.aA) 0)\/n<0:=by
 induction P generalizing n with
 |nil=>simp;omega
 |cons b P c=>
  rw[List.foldl_cons,List.foldl_cons]
  by_cases e:n<0
  ·exact .inr e
  ·rcases c (max n b.aA)with h|h
   ·rcases c (max 0 b.aA)with d|d
    ·left;rw[h,d];omega
    ·omega
   ·omega
def aw.Tm(n:aw)(P:aj):aw.top ⟨n.n,dm P n.l⟩=max n.top P.aA:=by
 show(dm P n.l).foldl _ _=_;rw[(dd P n.l).foldl_eq' (λa _ b _ c=>oM),List.foldl_cons];rcases xS n.l (max 0 P.aA)with h|h
 ·rw[h]
  show max (max 0 P.aA) n.top=_;have:0<=n.top:=by
   rcases xS n.l 0 with h|h
   ·unfold aw.top;omega
   ·omega
  omega
 ·omega
def aw.LO(n:aw):0<=n.top:=by
 rcases xS n.l 0 with h|h
 ·unfold aw.top;omega
 ·omega
def rG(n:cR q a=0):0<=q.origin/\q.origin<a/\1<=q.seq/\1<=q.aA/\0<=q.agg/\0<=q.key/\q.aQ.length=a/\(∀P∈q.aQ,0<=P)/\q.aQ.getD q.origin.toNat 0=ph (q.seq-1)/\1<=q.op/\q.op<=5/\0<=q.aU/\q.aU<8/\0<=q.field/\q.field<8:=by
 unfold cR at n;split at n
 ·simp at n
 ·rename_i b
  split at n
  ·simp at n
  ·rename_i c
   split at n
   ·simp at n
   ·rename_i g
    split at n
    ·simp at n
    ·rename_i h
     simp only[not_or,List.any_eq_true,Zk,not_exists,not_and]at b;obtain⟨i,j,k,P,l,d⟩:=b;refine⟨oM,oM,oM,oM,oM,oM,oM,λe f=>by have:=d e f;omega,by simpa using c,oM,oM,oM,oM,oM,oM⟩
def aw.FT(n:aw)(P:aj)(a:Nat):aw.FR ⟨n.n,dm P n.l⟩ a=n.FR a+if P.origin=(a:Int)then 1 else 0:=by
 unfold aw.FR;show(dm P n.l).countP _=_;rw[(dd P n.l).countP_eq,List.countP_cons]
 congr 1
 simp
def aw.Rt(n:aw)(P:Nat):n.FR P<=n.l.length:=List.countP_le_length
def aw.bN(n:aw):n.vec.length=n.n:=by simp[aw.vec]
def aw.oS(n:aw)(P:a<n.n):n.vec[a]? =some (n.FR a:Int):=by simp[aw.vec,P]
def aw.uE(S:aw)(n:a<S.n):S.vec.getD a 0=(S.FR a:Int):=by rw[QQ,S.oS n];rfl
def aw.Tn(n:aw)(b:aj)(e:b.origin=(a:Int)):aw.vec ⟨n.n,dm b n.l⟩=n.vec.set a (n.FR a+1:Int):=by
 apply X3;intro c
 by_cases P:c<n.n
 ·rw[aw.oS ⟨n.n,dm b n.l⟩ P,aw.FT,Xj,n.oS P,n.bN]
  by_cases d:a=c
  ·subst d;simp[e,P]
  ·rw[Zq d,Zq oM];simp
 ·rw[Q7 (by rw[aw.bN];exact Nat.le_of_not_lt P),Q7 (by rw[List.length_set,n.bN];omega)]
def aw.add_def(n:aw)(P:aj):n.add P=if cR P n.n≠0 then(cR P n.n,n)else if(n.get (aZ P)).isSome then(16,n)else
 if P.seq≠(n.vec.getD P.origin.toNat 0)+1 then(9,n)else if(List.range n.n).any λa=>!n.l_ P a then(9,n)else(0,⟨n.n,dm P n.l⟩):=rfl
def aw.Av(n:H.OK)(f:q.Ok):(H.add q).2.OK/\(H.add q).2.n=H.n:=by
 rw[aw.add_def]
 by_cases b:cR q H.n=0
 rotate_left
 ·rw[Zx b];exact⟨n,rfl⟩
 rw[Zq (by simpa using b)]
 by_cases c:(H.get (aZ q)).isSome=true
 ·rw[Zx c];exact⟨n,rfl⟩
 rw[Zq c];split
 ·exact⟨n,rfl⟩
 split
 ·exact⟨n,rfl⟩
 have e:H.get (aZ q)=none:=by simpa using c
 have d:=dd q H.l;refine⟨⟨n.n,wD n.Pw (aw.get_none e),?_,?_,?_⟩,rfl⟩
 ·refine(d.map aZ).nodup_iff.2 ?_
  rw[QY,List.nodup_cons];exact⟨λg=>by obtain⟨a,P,h⟩:=Xk.1 g;exact aw.get_none e a P h,n.ids⟩
 ·intro a P
  rcases Q2.1 (d.mem_iff.1 P)with rfl|P
  ·exact b
  ·exact n.WL a P
 ·intro a P
  rcases Q2.1 (d.mem_iff.1 P)with rfl|P
  ·exact f
  ·exact n.ok a P
def aw.tr(n:a<=64):aw.OK ⟨a,[]⟩:=⟨n,List.Pairwise.nil,sM,sM,sM⟩
end Go.Proofs.YtjgjkeponbeekaaGreatDoor
namespace Go.ar
open Go
def xM(n:List Int):List UInt8:=bR ((n.length:Int)::n)
def vS(n:List Int):List UInt8:=gC 2 (xM n)
def oP(n:List UInt8):List Int×mE:=bj (bZ 64 ⟨n,0,0⟩).1.toNat (bZ 64 ⟨n,0,0⟩).2
def jM(n:List UInt8):Option (List Int):=
 if(br n).no≠0\/(br n).n≠n.length\/(br n).kind≠2 then none else if kQ (oP (br n).body).2≠0 then none else some (oP (br n).body).1
def EU(n:List UInt8):(∀P∈(oP n).1,aJ P)/\(oP n).1.length<=64/\(oP n).2.Fit:=by
 obtain⟨a,e,f,g⟩:=mE.Fit.count (r:=⟨n,0,0⟩) ⟨Qj _,.inl rfl⟩ (m:=64) oM;obtain⟨b,c,d,h⟩:=a.ints (bZ 64 ⟨n,0,0⟩).1.toNat;exact⟨c,by show(bj _ _).1.length<=64;rw[d];omega,b⟩
variable{v:List Int}{y:List UInt8}
def Ou(n:jM y=some v):(∀P∈v,aJ P)/\v.length<=64:=by
 unfold jM at n;split at n
 ·cases n
 split at n
 ·cases n
 ·cases n
  exact⟨(EU _).1,(EU _).2.1⟩
def ET(a:∀n∈v,aJ n)(b:v.length<=64):(xM v).length<=585:=by
 have:=fE (l:=(v.length:Int)::v) (by
  intro n P;rcases Q2.1 P with rfl|P
  ·unfold aJ;omega
  ·exact a n P)
 unfold xM;rw[Xq]at this;omega
def Cs(n:List Int):(vS n).length=(xM n).length+9:=lf _ _
end Go.ar
namespace Go.Proofs.YtjgjkeponbeekaaGreatDoor
open Go.ar
def sF:fL:=⟨[(2,[])],[],[],[],[(4,⟨[0,0,2,4,8,0,0,64,128,256,512,0,2048,4096,8192,17408,32800,65536,131088,262145],[1048575,1048575,1048573,1048571,1048567,1048575,1048575,1048511,1048447,1048319,1048063,1048575,1046527,1044479,1040383,1031167,1015775,983039,917487,786430],[0,0,0,0,1,0,0,0,0,1,0,0,0,0,1,0,0,0,0,2]⟩)]⟩
variable{x:ByteArray}{t:ZT}{e:Int}{g2:List ByteArray}{b2 v:List Int}{L e5:List aj}{a c i l:Nat}{a5 f:ZN}{d s:YQ}{j:Type}{b:World}{O q:aj}
def sG(L:(∃k l,d=some ⟨k,l,none⟩/\(∃(m:Option Nat),b.cell? ⟨k,l+1,none⟩=some (.map m)/\PC ZP 137 #[.map m,.func (.func 138) #[] #[]] b (λM o=>
   M= .tuple #[]/\(∃p q,d=some ⟨p,q,none⟩/\(∃(r:Option Nat),o.cell? ⟨p,q+1,none⟩=some (.map r)/\aG ZP (Instr.range 141 (.map r)) o (λs N=>
   (∃h:Nat->ZU,(∃g,h g N)/\∀(g:Nat) (c1:Nat->Value) (u:World),h g u->aG ZP (Instr.next s false 0) u (λv w=>
   (v= .tuple #[.bool false]/\(∃x y,d=some ⟨x,y,none⟩/\PS w ⟨x,y+2,none⟩ (.bool false) λO=>(∃z A,d=some ⟨z,A,none⟩/\
   PS O ⟨z,A+4,none⟩ (.bool false) λQ=>t (.returned (.tuple #[])) Q)))\/(∃R S,v= .tuple #[.bool true,R,S]/\aG ZP (Instr.entry s) w (λT U=>
   ∃(V:Value),∃(n:YQ),T= .tuple #[V,.pointer n]/\(∀P,aV U P->(∃B C,n=some ⟨B,C,none⟩/\(∃(E:Int),P.cell? ⟨B,C+1,none⟩=some (ZH E)/\
   (∃F H,n=some ⟨F,H,none⟩/\(∃(W:YQ) (a:Nat) (X:Nat),P.cell? ⟨F,H,none⟩=some (.slice W a X)/\
   (∃I J,n=some ⟨I,J,none⟩/\(∃(c:Int),P.cell? ⟨I,J+1,none⟩=some (ZH c)/\PC ZP 139 #[.pointer n,ZH (ZG .i64 (E+(if(if(ZG .i64 (((a:Nat):Int)-c))<e then(ZG .i64 (((a:Nat):Int)-c))else e)>0 then(if(ZG .i64 (((a:Nat):Int)-c))<e then(ZG .i64 (((a:Nat):Int)-c))else e)else 0)))] P (λY Z=>
   Y= .tuple #[]/\(∃K,K<g/\h K Z)) (λi j=>∀(_:bL) (_:cy),t (.panicked i) j))))))))) (λf b=>t (.panicked [{v:=f,recovered:=false}]) b))) (λf b=>
   t (.panicked [{v:=f,recovered:=false}]) b))) (λf b=>t (.panicked [{v:=f,recovered:=false}]) b)))) (λi b=>t (.panicked i) b)))):
  YX 83 #[.pointer d,ZH e] b t:=
 fO sF mixed Tryz.func83 rfl (Zv kR) kR (Eq.mp kR L)
def Ut(P:Int)(n:cK):Int:=n.synced+max 0 (min P ((n.bytes.length:Int)-n.synced))
def GD(P:Int)(n:cK):cK:=n.cut (Ut P n)
def an.BO(D:an)(P:Int):an:={D with files:=(D.files.filter λn=>n.2.mD).map (λn=>(n.1,GD P n.2)),qI:=false,dead:=false}
def an.IM(D:an)(n:List (ByteArray×cK)):an:=⟨D.most,n,D.qI,D.left,D.dead⟩
def an.gS(D:an):an:={D with files:=D.files.filter λn=>n.2.mD}
def DH(n:List (ByteArray×cK))(P:ByteArray×cK->Bool):ez (n.filter P)<=ez n:=by
 unfold ez
 induction n with
 |nil=>simp
 |cons a n b=>
  rw[List.filter_cons];split
  ·simp;omega
  ·simp;omega
def yw{n:List (ByteArray×j)}(P:Tidy n)(a:ByteArray×j->Bool):Tidy (n.filter a):=List.Nodup.sublist (List.Sublist.map _ List.filter_sublist) P
def an.Ok.gS{D:an}(n:D.Ok):D.gS.Ok:=by
 have c:=DH D.files λP=>P.2.mD;have b:=n.fits;have d:=List.length_filter_le (λP:ByteArray×cK=>P.2.mD) D.files;have e:=n.many;unfold an.used at b;exact⟨n.most,by show ez (D.files.filter _)<=D.most;omega,by show(D.files.filter _).length<=64;omega,yw n.tidy _,λP a=>n.names P (List.mem_filter.1 a).1,λP a=>n.RY P (List.mem_filter.1 a).1,n.BJ,n.BK⟩
def Qi{P:List (ByteArray×j)}(b:Tidy P){k e:ByteArray×j->j}{u l:j}(f:(x,u)∈P)(g:∀a∈P,a.1≠x->e a=k a)(p:e (x,u)=l):
  aH (P.map λn=>(n.1,k n)) x l=P.map λn=>(n.1,e n):=by
 induction P with
 |nil=>cases f
 |cons q P m=>
  obtain⟨n,a⟩:=q;unfold Tidy at b m;simp only[QY,List.nodup_cons]at b;simp only[QY];unfold aH
  by_cases h:(x==n)=true
  ·have r:x=n:=eq_of_beq h
   subst r;have s:a=u:=by
    rcases Q2.1 f with h|h
    ·cases h;rfl
    ·exact Zz (Xk.2 ⟨_,h,rfl⟩) b.1
   subst s;rw[Zx h,p]
   congr 1
   refine List.map_congr_left λc d=>?_;rw[g c (QJ _ d) λi=>b.1 (Xk.2 ⟨c,d,i⟩)]
  ·have o:n≠x:=λi=>h (by rw[i];simp)
   rw[Zq h,g (n,a) (QV ..) o]
   congr 1
   refine m b.2 ?_ λc d=>g c (QJ _ d);rcases Q2.1 f with H|H
   ·cases H;exact Zz rfl o
   ·exact H
def sH(P:Int)(left:List (ByteArray×nE))(n:ByteArray×cK):cK:=if left.any (λa=>a.1==n.1)then n.2 else GD P n.2
def Le{D:an}(h:aO b a f D)(e5:aJ e):
  YX 83 #[ZL a,ZH e] b (Ok λS t=>∃q,S= .tuple #[]/\aO t a q (D.BO e)/\bB f b q t):=by
 obtain⟨u,x,j⟩:=h.open;have e6:x.filter (λn=>n.2.f.mD)=x.filter (λn=>n.2.f.mD):=rfl;refine sG ⟨a,0,rfl,some u,ae j.head rfl,PC.ok (zS j.map j.each λn k P i=>(j.IH n k P i).2.2) ?_⟩;rintro _ v ⟨rfl,c1,B⟩;have c2:∀P,P=u->f P:=λP m=>m▸j.Fr;have r:eZ v a f D.gS u (x.filter λn=>n.2.f.mD):=by
  have C:∀n∈x.filter (λn=>n.2.f.mD),n∈x:=λn k=>(List.mem_filter.1 k).1;refine⟨B.get j.head (λm=>j.pr m),c1,?_,⟨λn k=>(j.each.each n (C n k)).af B λP i=>(j.IH n (C n k) P i).2.2,λn k c o=>j.each.apart n (C n k) c (C c o),yw j.each.tidy _⟩,λn k=>j.IH n (C n k),j.Fr,j.pr,j.self,λP i=>Qk (j.aC P i) B.size,j.ok.gS⟩;show D.files.filter _=_;rw[j.files,List.filter_map]
  rfl
 generalize e7:x.filter (λn=>n.2.f.mD)=p at r;have c3:∀n∈p,∀P,n.2.G P->P<v.heap.size:=λn k P i=>(r.each.each n k).aC P i;refine⟨rfl,a,0,rfl,some u,ae r.head rfl,mapRange mF r.map λw2 hR T s2=>?_⟩;have c4:Tidy D.gS.files:=r.ok.tidy;have c5:∀c∈p,vv c∈D.gS.files:=λc o=>by rw[r.files];exact Xk.2 ⟨c,o,rfl⟩
 have a5:bB f b f w2:=⟨((B.mono λP _ i=>c2 P i)).ah T,λ_ h=>.inl h⟩
 refine⟨λU t=>∃(left s:List (ByteArray×nE)) (q:ZN),cD t v.heap.size u Value.string (p.map dR) (left.map dR)/\U=left.length/\eZ t a q (D.gS.IM (D.gS.files.map λg=>(g.1,sH e left g))) u s/\s.map dR=p.map dR/\
   bB f b q t/\(∀n∈left,n∈p/\aF s n.1=some n.2)/\Tidy left/\v.heap.size<t.heap.size/\¬q v.heap.size,
  ⟨_,p,p,f,hR,rfl,?_,rfl,a5,λn k=>⟨k,qK r.each.tidy k⟩,r.each.tidy,oM,λi=>by have:=r.aC _ i;omega⟩,?_⟩
 ·have m:(D.gS.files.map λn=>(n.1,sH e p n))=D.gS.files:=by
   have:∀n∈D.gS.files,(n.1,sH e p n)=n:=λn k=>by
    rw[r.files]at k;obtain⟨c,o,rfl⟩:=Xk.1 k;have:p.any (λg=>g.1==(vv c).1)=true:=List.any_eq_true.2 ⟨c,o,by simp[vv]⟩;unfold sH;rw[Zx this]
   have I:=List.map_congr_left (f:=λn=>(n.1,sH e p n)) (g:=id) this;rw[I,List.map_id]
  rw[m];exact r.ah T
 ·rintro U a1 w3 ⟨left,s,q,c6,rfl,V,a7,J,W,y,e2,X⟩
  refine nH c6 (λK=>.inl ⟨rfl,?_⟩) λd S l1 l2 Y c7 c8 c9 Z s4=>.inr ⟨_,_,rfl,qM c9 ?_⟩
  ·have d0:left=[]:=by simpa using K
   subst d0;refine⟨a,0,rfl,V.at.IG λw5 h5 k5 s5=>⟨a,0,rfl,h5.Af λw6 h6 k6 s6=>Ok.mk ⟨q,rfl,?_,J.trans ⟨k5.then k6,λ_ h=>.inl h⟩⟩⟩⟩;have m:(D.gS.files.map λn=>(n.1,sH e [] n))=(D.files.filter λn=>n.2.mD).map (λn=>(n.1,GD e n.2)):=List.map_congr_left λn _=>by simp[sH]
   rw[m]at h6;exact h6
  ·obtain⟨l,n,P,rfl,rfl,rfl,rfl⟩:=xC c7
   obtain⟨a8,E⟩:=W (d,n) sM;have E:aF s d=some n:=E;have a9:∀P,P=v.heap.size->¬q P:=λP m=>m▸X;have w:=V.af Z λP i m=>a9 P m i;have L:=w.get E;have M:=bW E;have d1:dW Y n.q n.G n.f:=w.each.each _ M;have d2:∀P,n.G P->P<v.heap.size:=c3 _ a8;have b0:∀P,n.G P->q P/\P≠a/\P≠u:=w.IH _ M;have b1:n.f.bytes.length<=262144:=w.ok.len (bW L);have e3:n.f.synced<=n.f.bytes.length:=w.ok.RY _ (bW L);have e8:n.f=(vv (d,n)).2:=rfl;refine⟨_,_,rfl,λw5 z=>?_⟩;have b2:=d1.af (z.af (S:=λ_=>False)) λ_ _ h=>h;have b3:=w.ah z.af;obtain⟨fa,A,fc,F0,F,I,h3,h4⟩:=b2.body;have b4:A=n.f.bytes.length:=I.len dC;have H:(if(if(ZG .i64 (((A:Nat):Int)-(n.f.synced:Int)))<e then(ZG .i64 (((A:Nat):Int)-(n.f.synced:Int)))else e)>0 then(if(ZG .i64 (((A:Nat):Int)-(n.f.synced:Int)))<e then(ZG .i64 (((A:Nat):Int)-(n.f.synced:Int)))else e)else 0)=max 0 (min e ((n.f.bytes.length:Int)-n.f.synced)):=by
    rw[wrap_i64 (by unfold aJ;omega),b4];omega
   refine⟨n.q,0,rfl,_,ae F rfl,n.q,0,rfl,fa,A,fc,ae F rfl,n.q,0,rfl,_,ae F rfl,?_⟩;rw[H,wrap_i64 (by unfold aJ at*;omega)];refine PC.ok (BN b2 b1) ?_;rintro _ w6 ⟨N,rfl,O,Q⟩
   replace O:dW w6 n.q N (GD e n.f):=O
   have d3:((D.gS.IM (D.gS.files.map λg=>(g.1,sH e (l++(d,n)::P) g))).gZ d (GD e n.f)).Ok:=b3.ok.cut L _;obtain⟨F6,b5,a0⟩:=b3.dT E O Q d3;have d4:=c8.af (z.af (S:=λ_=>False)) id id;have d5:=d4.af Q.af (λi=>by have:=d2 _ i;omega) (λi=>(b0 _ i).2.2 rfl);have b6:d∉(l++P).map (·.1):=by
    unfold Tidy at y;rw[Q3,QY]at y;rw[Q3];intro b7;have hp:=(List.perm_middle (a:=d) (l₁:=l.map (·.1)) (l₂:=P.map (·.1))).nodup_iff.1 y;exact(List.nodup_cons.1 hp).1 b7
   have b8:Tidy (l++P):=by
    unfold Tidy at y⊢;rw[Q3,QY]at y;rw[Q3];exact(List.nodup_cons.1 ((List.perm_middle (a:=d) (l₁:=l.map (·.1)) (l₂:=P.map (·.1))).nodup_iff.1 y)).2
   have b9:(l++P).any (λc=>c.1==d)=false:=by
    rw[List.any_eq_false];intro c o K;exact b6 (Xk.2 ⟨c,o,eq_of_beq K⟩)
   have eh:aH (D.gS.files.map λg=>(g.1,sH e (l++(d,n)::P) g)) d (GD e n.f)=D.gS.files.map λg=>(g.1,sH e (l++P) g):=by
    refine Qi (u:=n.f) c4 (c5 _ a8) (λc o R=>?_) ?_
    ·have d6:(d==c.1)=false:=beq_false_of_ne (Ne.symm R)
     have m:(l++(d,n)::P).any (λg=>g.1==c.1)=(l++P).any (λg=>g.1==c.1):=by
      rw[List.any_append,List.any_cons,List.any_append,d6,Bool.false_or]
     show sH e (l++P) c=sH e (l++(d,n)::P) c;unfold sH;rw[m]
    ·unfold sH
     rw[Zq (by show¬((l++P).any (λc=>c.1==d)=true);rw[b9];simp)]
   have d7:(D.gS.IM (D.gS.files.map λg=>(g.1,sH e (l++(d,n)::P) g))).gZ d (GD e n.f)=D.gS.IM (D.gS.files.map λg=>(g.1,sH e (l++P) g)):=by
    unfold an.gZ an.IM;simp only[eh]
   rw[d7]at b5;have a4:(aH s d (⟨n.q,N,GD e n.f⟩:nE)).map dR=p.map dR:=by
    have F:(aH s d (⟨n.q,N,GD e n.f⟩:nE)).map dR=aH (s.map dR) d (ptr n.q):=qJ (λn:nE=>ptr n.q) s d _;rw[F,qL (k:=d) (v:=ptr n.q) (l:=s.map dR) (Xk.2 ⟨(d,n),M,rfl⟩) w.map.tidy,a7]
   refine⟨rfl,_,?_,l++P,_,F6,by rw[Q3];exact d5,rfl,b5,a4,?_,λc o=>?_,b8,?_,?_⟩
   ·simp
   ·have e4:=B.size
    have d8:bB f b q Y:=⟨J.af.new Z λP i=>.inr oM,J.new⟩
    exact(d8.trans ⟨z.af,λ_ h=>.inl h⟩).trans a0
   ·have d9:c∈l++(d,n)::P:=by simp only[Q6,Q2]at o⊢;exact o.imp id .inr
    obtain⟨e0,e1⟩:=W c d9;have R:c.1≠d:=λm=>b6 (Xk.2 ⟨c,o,m⟩);refine⟨e0,?_⟩;rw[rK,Zq (by simpa using R)];exact e1
   ·have:=Q.af.size;have:=(z.af (S:=λ_=>False)).size;omega
   ·intro i
    rcases a0.new _ i with h|h
    ·exact X h
    ·have:=(z.af (S:=λ_=>False)).size;omega
def lM:ByteArray:=⟨#[109,97,110,105,102,101,115,116,46,116,109,112]⟩
def vR:ByteArray:=⟨#[109,97,110,105,102,101,115,116]⟩
def oO(D:an):Int×an:=if(aF D.files lM).isSome then D.delete lM else(0,D)
def tf(n:List Int):Nat->an->Int×an
 |0,D=>oO D
 |1,D=>D.create lM
 |2,D=>D.append lM (vS n)
 |3,D=>D.sync lM
 |_,D=>D.rename lM vR
def xL(n:List Int):Nat->Nat->an->Int×an
 |_,0,D=>(0,D)
 |P,a+1,D=>if(tf n P D).1≠0 then((tf n P D).1,(oO (tf n P D).2).2)else xL n (P+1) a (tf n P D).2
def cf(D:an)(n:List Int):Int×an:=if 64<n.length then(3,D)else xL n 0 5 D
def fr(D:an):Option (List Int):=if(D.read vR).2≠0 then none else jM (D.read vR).1
def Ji(n:List ByteArray):(vu n).Perm n:=List.mergeSort_perm _ _
def Oq{D:an}:x∈D.list↔(aF D.files x).isSome=true:=by
 unfold an.list;rw[(Ji _).mem_iff];constructor
 ·intro n
  cases P:aF D.files x with
  |none=>exact Zz n (kp.1 P)
  |some a=>rfl
 ·intro n
  obtain⟨a,b⟩:=Option.isSome_iff_exists.1 n;exact Xk.2 ⟨_,bW b,rfl⟩
def oh(D:an):D.list.length=D.files.length:=by unfold an.list vu;simp
def Ot(n:List Int)(c:a<5)(D:an):xL n a (5-a) D=if(tf n a D).1≠0 then((tf n a D).1,(oO (tf n a D).2).2)else xL n (a+1) (5-(a+1)) (tf n a D).2:=by
 obtain⟨P,b⟩:∃P,5-a=P+1:=⟨4-a,oM⟩
 rw[b,show 5-(a+1)=P by omega]
 rfl
def He{D:ZN}(P:Row NQ 16 b D d a g2):
  YX 292 #[.slice d a c,.string x] b (Ok λo e=>(∃k:Int,o= ZH k/\(0<=k↔x∈g2))/\b=e):=by
 have u:=P.len;have p:=P.ef;unfold aK at p;refine jO ⟨λl i e=>∃n:Nat,i=n/\n<=a/\l=a-n/\x∉g2.take n/\b=e,⟨_,0,rfl,Qj _,rfl,sM,rfl⟩,?_⟩;rintro l i _ _ ⟨n,rfl,v,rfl,f,rfl⟩;refine al.dec (λq=>?_) (λq=>?_)
 ·obtain⟨r,g,w,rfl,m,_,s⟩:=P.mR (i:=n) oM
  refine⟨r,g,rfl,oM,oM,_,s,al.Xl (λj=>?_) (λj=>?_)⟩
  ·exact Ok.mk ⟨⟨_,rfl,λ_=>j▸QZ m,λ_=>oM⟩,rfl⟩
  ·refine⟨_,oM,n+1,aq oM,oM,rfl,?_,rfl⟩
   rw[Qw,m];intro t;rcases Q6.1 t with h|h
   ·exact f h
   ·simp at h;exact j h
 ·rw[Qz oM]at f
  exact Ok.mk ⟨⟨_,rfl,λh=>oM,λh=>Zz h f⟩,rfl⟩
def zY{D:ZN}(n:Row NQ 16 b D d a g2):
  YX 237 #[.slice d a c,.string x] b (Ok λP e=>P= .bool (decide (x∈g2))/\b=e):=by
 refine iN (PC.ok (He n) ?_);rintro _ _ ⟨⟨g,rfl,f⟩,rfl⟩;exact⟨_,rfl,Ok.mk ⟨by rw[decide_eq_decide.2 f],rfl⟩⟩
def rk{D:an}(n:aO b a f D):YX 174 #[ZL a] b (Ok (vw b a f (oO D))):=by
 refine xf (PC.ok (xE n) ?_);rintro _ l ⟨m,o,p,G,rfl,g,P,q⟩;have r:D.list.length<=64:=by rw[oh];exact n.ok.many
 refine⟨_,_,_,rfl,PC.ok (zY (g.row dC (by unfold aK;omega))) ?_⟩;rintro _ _ ⟨rfl,rfl⟩;have e:(lM∈D.list)↔(aF D.files lM).isSome=true:=Oq;refine⟨_,rfl,al.dec (λc=>PC.ok (yt (n.ah P)) λh i j=>lQ h i P ?_) (λc=>?_)⟩
 ·have d:oO D=D.delete lM:=by unfold oO;rw[Zx (e.1 c)]
  rw[d];exact j
 ·have d:oO D=(0,D):=by unfold oO;rw[Zq λk=>c (e.2 k)]
  rw[d];exact Ok.mk (vw.same (n.ah P) P.af)
def Cq(C:qu b)(t:Row aI 8 b f d a v)(u:∀h∈v,aJ h)(hD:∀P,f P->P<b.heap.size)(E:v.length<=64):
  YX 179 #[.agg #[.slice d a c]] b (Ok (oZ fP 5 b (vS v))):=by
 have F:=t.len;refine xg (PA.mk λH I s1 w=>⟨_,_,_,ae w rfl,PC.ok (BP (m:=(a:Int)) (by unfold aJ;omega) (Row.nil H λ_=>False) (by unfold aK;omega) λ_ J=>J.elim) ?_⟩);rintro _ L ⟨a2,n2,c2,M,rfl,x,y,N⟩;have O:ai b L:=I.then y;have Q:oC (a:Int)=bR ((a:Int)::v.take 0):=by simp[bR]
 rw[List.nil_append,Q]at x;refine⟨_,_,_,rfl,_,_,_,ae (y.get w id) rfl,λz l m o i A=>∃n:Nat,i=n/\n<=a/\z=a-n/\∃B,aM fP 5 B A l m o (bR ((a:Int)::v.take n))/\ai b A/\∀P,B P->b.heap.size<=P,
  ⟨_,0,rfl,Qj _,rfl,M,x,O,λP j=>by have:=N P j;omega⟩,?_⟩
 rintro z l m o i _ R ⟨n,rfl,hj,rfl,S,e,g,a0⟩;have a1:(bR ((a:Int)::v.take n)).length<=9*(n+1):=by
  have h1:=fE (l:=(a:Int)::v.take n) (by
   intro h K;rcases Q2.1 K with rfl|K
   ·unfold aJ;omega
   ·exact u h (List.mem_of_mem_take K))
  have h2:((a:Int)::v.take n).length=n+1:=by simp;omega
  omega
 have a3:=e.len dC;refine al.dec (λa5=>?_) (λa6=>?_)
 ·obtain⟨P,p,h,rfl,K,T,U⟩:=(t.ah g).mR (i:=n) oM
  refine⟨P,p,rfl,oM,oM,_,U,PC.ok (BP T (e.row (bytes:=1) dC (by unfold aK;omega)) (by unfold aK;omega) e.aC) ?_⟩;rintro _ V ⟨W,X,Y,q,rfl,k,r,s⟩;refine⟨_,_,_,rfl,_,?_,n+1,aq oM,oM,rfl,q,?_,g.then r,λP j=>by have:=s P j;have:=g.size;omega⟩
  ·omega
  ·have Z:bR ((a:Int)::v.take (n+1))=bR ((a:Int)::v.take n)++oC h:=by
    rw[Qw,K,<-List.cons_append,iz]
    congr 1
    simp[bR]
   rw[Z];exact k
 ·obtain rfl:n=a:=oM
  rw[Qz oM,F]at e
  change aM fP 5 S R l m o (xM v)at e
  have a7:=ET u E;refine PC.ok (ED (C.ah g) (e.row (bytes:=1) dC (by unfold aK;omega)) e.aC) ?_;rintro _ V ⟨_,rfl,W,X,Y,q,rfl,k,r,s⟩;rw[show jZ 2 (xM v)=(vS v,0) by unfold jZ vS;rw[Zq dC,Zq oM]]at k⊢;exact⟨_,_,_,_,rfl,Ok.mk ⟨_,_,_,q,rfl,k,g.then r,λP j=>by have:=s P j;have:=g.size;omega⟩⟩
def Cr{D:an}(ht:qu b)(hD:aO b a f D)(hl:Row aI 8 b a5 d c v)(a8:∀b8∈v,aJ b8)(a3:∀n,a5 n->n<b.heap.size/\¬f n)(a9:∀n,f n->n≠2/\n≠3):
  YX 112 #[ZL a,.agg #[.slice d c i]] b (Ok (vw b a f (cf D v))):=by
 have hn:=hl.len;refine wO (PA.mk λw1 k1 s1 g1=>PA.mk λj U s2 g2=>PA.mk λw3 H s3 g3=>⟨_,_,_,ae (H.get g2 id) rfl,al.dec (λh=>?_) (λh=>?_)⟩)
 ·refine PS.mk g3 sM λp B s4 g4=>⟨_,ae g4 rfl,?_⟩
  have k:cf D v=(3,D):=by unfold cf;rw[Zx oM]
  rw[k];have y:ai b p:=((k1.then U).then H).new B λn P=>.inr oM;exact Ok.mk (vw.same (hD.ah y) y.af)
 refine PA.mk λp B s4 g4=>?_;have y:ai b p:=((k1.then U).then H).then B;have k:cf D v=xL v 0 5 D:=by unfold cf;rw[Zq oM]
 rw[k];have I:=hD.aC;refine⟨λa2 M l=>∃(t:Nat) (J:an) (u:ZN),M=t/\t<=5/\a2=5-t/\xL v 0 5 D=xL v t (5-t) J/\aO l a u J/\ak (λn=>f n\/n=j.heap.size) p l/\(∀n,u n->f n\/p.heap.size<=n)/\l.heap[j.heap.size]? =some (.cells #[ZH 0] 34 (0,0)),
  ⟨_,0,D,f,rfl,oM,rfl,rfl,hD.ah y,ak.refl _,λn P=>.inl P,B.get g3 id⟩,?_⟩
 rintro a2 M _ x ⟨t,J,u,rfl,hi,rfl,N,C,E,V,ge⟩;have W:∀n,b.heap.size<=n->n<p.heap.size->¬u n:=λn h1 h2 hf=>by
  rcases V n hf with h|h
  ·have:=I n h;omega
  ·omega
 have O:x.heap[b.heap.size]? =some (.cells #[ZL a] 93 (0,0)):=E.get (B.get (H.get (U.get g1 id) id) id) (λq=>q.elim (λh=>by have:=I _ h;omega) (λh=>oM));have gm:x.heap[w1.heap.size]? =some (.cells #[.slice d c i] 211 (0,0)):=E.get (B.get (H.get g2 id) id) (λq=>q.elim (λh=>by have:=I _ h;omega) (λh=>oM));have Q:=E.get g4 (λq=>q.elim (λh=>by have:=I _ h;omega) (λh=>oM));have c6:=E.size;have w:∀(k:Int) (R:an) (G:ZN) (g:World),aO g a G R->ak (λn=>f n\/n=j.heap.size) p g->(∀n,G n->f n\/p.heap.size<=n)->g.heap[j.heap.size]? =some (.cells #[ZH k] 34 (0,0))->
   xL v 0 5 D=(k,if k≠0 then(oO R).2 else R)->
   Lv ZP (λb0=>∃A:Int,b0.cell? ⟨j.heap.size,0,none⟩=some (ZH A)/\Ok (vw b a f (xL v 0 5 D)) (.returned (ZH A)) b0) (λch l=>Ok (vw b a f (xL v 0 5 D)) (.panicked ch) l)
    ([{target:=.fn (.func 173) #[ZL j.heap.size,ZL b.heap.size],args:= #[]}]:List Deferred) .returning g:=by
  intro k R G g hE r hG X hr;have b9:g.heap[b.heap.size]? =some (.cells #[ZL a] 93 (0,0)):=r.get (B.get (H.get (U.get g1 id) id) id) (λq=>q.elim (λh=>by have:=I _ h;omega) (λh=>oM));have m:∀o (K:ZN) (E':an),aO o a K E'->bB G g K o->xL v 0 5 D=(k,E')->∃A:Int,o.cell? ⟨j.heap.size,0,none⟩=some (ZH A)/\Ok (vw b a f (xL v 0 5 D)) (.returned (ZH A)) o:=by
   intro o K E' a4 s a0;have c0:¬G j.heap.size:=λh=>(hG _ h).elim (λh=>by have:=I _ h;omega) (λh=>oM);have c7:=r.size;refine⟨k,ae (s.af.get X c0) rfl,Ok.mk ?_⟩;rw[a0];refine⟨K,rfl,a4,?_,λn P=>?_⟩
   ·have c1:ak f b g:=y.af.new r λn P=>P.imp id λh=>by omega
    exact c1.new s.af λn P=>(hG n P).imp id λh=>by omega
   ·rcases s.new n P with h|h
    ·exact(hG n h).imp id λh=>by omega
    ·exact .inr oM
  refine Lv.one sM kR (CallsD.mono (sd (R:=λe' o=>e'= .returned (.tuple #[])/\∃A:Int,o.cell? ⟨j.heap.size,0,none⟩=some (ZH A)/\Ok (vw b a f (xL v 0 5 D)) (.returned (ZH A)) o) ⟨_,ae X rfl,al.dP (λY=>?_) (λZ=>?_)⟩) ?_)
  ·refine⟨_,ae b9 rfl,PC.ok (rk hE) ?_⟩
   rintro _ o ⟨K,rfl,a4,s⟩;exact⟨_,rfl,rfl,m o K _ a4 s (by rw[hr,Zx Y])⟩
  ·exact⟨rfl,m g G R hE (bB.refl _ _) (by rw[hr,Zq (by simpa using Z)])⟩
  ·rintro e' u' o ⟨rfl,rfl,hX⟩
   exact Lv.ret rfl hX
 refine al.dec (λc8=>?_) (λc9=>?_)
 ·have b1:t<5:=oM
  have step:∀κ ε,(∀z l,vw x a u (tf v t J) z l->κ z l)->∃b2:Value,x.cell? ⟨w3.heap.size,0+Int.toNat (t:Int),none⟩=some b2/\∃a1 a7 b3,b2= .func (.func a1) a7 b3/\enters ZP a1=true/\PC ZP a1 (a7++ #[]++b3) x κ ε:=by
   intro κ ε e;rw[Qx,Xz];have m:∀{b4:Int×an} {z l},vw x a u b4 z l->∃M:Int,z= ZH M/\Ok (vw x a u b4) (.returned (ZH M)) l:=λh=>lQ _ _ (ak.refl _) h
   match t,b1,e with
   |0,_,e=>exact⟨_,ae Q rfl,_,_,_,rfl,kR,PC.ok (tO ⟨_,ae O rfl,PC.ok (rk C) λz l h=>m h⟩) e⟩
   |1,_,e=>exact⟨_,ae Q rfl,_,_,_,rfl,kR,PC.ok (tP ⟨_,ae O rfl,PC.ok (yu C) λz l h=>m h⟩) e⟩
   |2,_,e=>
    refine⟨_,ae Q rfl,_,_,_,rfl,kR,PC.ok (φ:=vw x a u (tf v 2 J)) (tQ λg d6=>?_) e⟩;have r:ai x g:=d6.af;have F:ak (λn=>f n\/n=j.heap.size) p g:=E.then r.af;have c2:Row aI 8 g a5 d c v:=(hl.ah y).af F λn P q=>q.elim (a3 n P).2 λh=>by have:=(a3 n P).1;omega
    have c3:qu g:=by
     have:=(ht.ah y)
     have d0:b.heap.size<=p.heap.size:=y.size;have h1:=ht.lt;have hz:=F.size;refine⟨λS hj=>?_,λS hj=>?_,oM⟩
     ·exact(this.lower S hj)▸F.cell (a:=⟨2,S,none⟩) (by show 2<_;omega) (λq=>q.elim (λh=>(a9 _ h).1 rfl) (λh=>by have h:2=j.heap.size:=h;omega))
     ·exact(this.upper S hj)▸F.cell (a:=⟨3,S,none⟩) (by show 3<_;omega) (λq=>q.elim (λh=>(a9 _ h).2 rfl) (λh=>by have h:3=j.heap.size:=h;omega))
    refine⟨u,W _ (Q4 _) oM,_,ae (r.get O id) rfl,_,_,_,ae (r.get gm id) rfl,PC.ok (Cq c3 c2 a8 (λn P=>by have:=(a3 n P).1;have:=y.size;have:=F.size;omega) oM) ?_⟩;rintro _ o ⟨d1,n7,d2,F7,rfl,a6,L,c4⟩;have d3:=Cs v;have d4:=ET a8 oM;refine⟨_,_,_,rfl,L.af,PC.ok (yv ((C.ah r).ah L) (a6.row dC (by unfold aK;omega)) (λk=>a6.NK k) λn P=>⟨a6.aC n P,λhf=>by have:=C.aC n hf;have:=c4 n P;have:=r.size;omega⟩) ?_⟩;rintro _ w8 ⟨F8,rfl,c5,s⟩;exact⟨_,rfl,s.af,Ok.mk ⟨F8,rfl,c5,(bB.mk (ai.af (r.then L)) λ_ h=>.inl h:bB u x u o).trans s⟩⟩
   |3,_,e=>exact⟨_,ae Q rfl,_,_,_,rfl,kR,PC.ok (tR ⟨_,ae O rfl,PC.ok (Ex C) λz l h=>m h⟩) e⟩
   |4,_,e=>exact⟨_,ae Q rfl,_,_,_,rfl,kR,PC.ok (tS ⟨_,ae O rfl,PC.ok (IK C) λz l h=>m h⟩) e⟩
  refine⟨_,_,rfl,oM,oM,step _ _ ?_⟩;rintro _ g ⟨F6,rfl,h6,s⟩;have b5:∀n,F6 n->n≠j.heap.size:=λn P k=>by
   subst k;rcases s.new _ P with h|h
   ·exact W _ oM oM h
   ·omega
  have b6:∀n,F6 n->f n\/p.heap.size<=n:=λn P=>by
   rcases s.new n P with h|h
   ·exact V n h
   ·exact .inr oM
  have F:ak (λn=>f n\/n=j.heap.size) p g:=E.new s.af λn P=>(V n P).imp .inl id;refine⟨_,rfl,PS.mk (s.af.get ge (W _ oM oM)) sM λo L s7 T=>?_⟩;have h7:=h6.af L λn P=>b5 n P;have b7:ak (λn=>f n\/n=j.heap.size) p o:=F.then (L.mono λn _ P=>.inr P);rw[Ot v b1]at N;refine⟨_,ae T rfl,al.dP (λY=>?_) (λZ=>?_)⟩
  ·refine⟨_,ae T rfl,PS.mk T sM λw8 k8 s8 g8=>?_⟩
   exact w _ _ F6 w8 (h7.af k8 λn P=>b5 n P) (b7.then (k8.mono λn _ P=>.inr P)) b6 g8 (by rw[N,Zx Y,Zx Y])
  ·rw[Zq (by simpa using Z)]at N
   rw[Z]at T;exact⟨rfl,_,oM,t+1,_,F6,aq oM,oM,rfl,N,h7,b7,b6,T⟩
 ·obtain rfl:t=5:=oM
  refine⟨_,ae ge rfl,PS.mk ge sM λg r s6 X=>?_⟩;refine w 0 J u g (C.af r λn P k=>W n oM oM P) (E.then (r.mono λn _ P=>.inr P)) V X ?_;rw[N];rfl
def DQ{D:an}(ht:qu b)(hD:aO b a f D):
  YX 109 #[ZL a] b (Ok λQ g=>∃l o p G,Q= .tuple #[.agg #[.slice l o p],.bool (fr D).isSome]/\aM aI 3 G g l o p ((fr D).getD [])/\ai b g/\∀n,G n->b.heap.size<=n):=by
 refine zr (PA.mk λA C s1 g1=>PC.ok (xD (hD.ah C)) ?_);rintro _ w2 ⟨_,rfl,a7,n2,c2,F2,rfl,u,R,e8⟩
 change aM fP 5 F2 w2 a7 n2 c2 (D.read vR).1 at u
 have b3:(D.read vR).1.length<=262144:=by
  unfold an.read;split
  ·simp
  ·split
   ·simp
   ·rename_i e7 hf;exact hD.ok.len (bW hf)
 have a3:∀{g},ai A g->g.heap[b.heap.size]? =some (.cells #[.slice none 0 0] 211 (0,0)):=λhk=>hk.get g1 id;have d:fr D=none->∀v,ai A v->PS v ⟨b.heap.size,0,none⟩ (.slice none 0 0) λw=>∃(b4:YQ) (b5:Nat) (b6:Nat),w.cell? ⟨b.heap.size,0,none⟩=some (.slice b4 b5 b6)/\
   Ok (λQ g=>∃l o p G,Q= .tuple #[.agg #[.slice l o p],.bool (fr D).isSome]/\aM aI 3 G g l o p ((fr D).getD [])/\ai b g/\∀n,G n->b.heap.size<=n) (.returned (.tuple #[.agg #[.slice b4 b5 b6],.bool false])) w:=by
  intro S v E;refine PS.mk (a3 E) sM λw4 T s4 U=>⟨_,_,_,ae U rfl,?_⟩
  rw[S];exact Ok.mk ⟨none,0,0,λ_=>False,rfl,aM.nil w4,(C.then E).new T λn P=>.inr oM,λ_ h=>h.elim⟩
 refine⟨_,_,_,_,rfl,al.dP (λk=>d (by unfold fr;exact Zx k) w2 R) (λS=>?_)⟩;have B:fr D=jM (D.read vR).1:=by unfold fr;exact Zq λh=>h S
 generalize(D.read vR).1=F at u b3 B;have d6:=u.len dC;refine PC.ok (EE (ht.ah (C.then R)) (u.row (bytes:=1) dC (by unfold aK;omega)) u.jH u.aC) ?_;rintro _ v ⟨c0,n3,c3,F3,rfl,b7,E,e9⟩;refine⟨_,_,_,_,_,_,rfl,PA.mk λw4 T s4 U=>PS.mk U sM λw5 k5 s5 g5=>PS.mk g5 sM λx k6 s6 g6=>?_⟩;have V:x.heap[v.heap.size]? =some (.cells #[ZH (br F).kind,.slice c0 n3 c3] 277 (0,0)):=g6;have W:ai v x:=(T.new k5 λn P=>.inr oM).new k6 λn P=>.inr oM;have s:ai A x:=(R.then E).then W;have f8:=W.size;refine al.dP (λk=>d (by rw[B];unfold jM;exact Zx (.inl k)) x s) (λb8=>?_);refine al.dP (λk=>d (by rw[B];unfold jM;exact Zx (.inr (.inl λe=>k (by rw[e,d6])))) x s) (λg0=>?_);refine⟨_,ae V rfl,al.dP (λk=>d (by rw[B];unfold jM;exact Zx (.inr (.inr k))) x s) (λd7=>?_)⟩;have X:fr D=if kQ (oP (br F).body).2≠0 then none else some (oP (br F).body).1:=by
  rw[B];unfold jM;refine Zq ?_;rintro(h|h|h)
  ·exact h b8
  ·exact h oM
  ·exact h d7
 have Y:=b7.ah W;obtain⟨g2,h9,d8⟩:=vC b8;generalize(br F).body=c at Y X d8 V b7;refine⟨_,_,_,ae V rfl,PC.ok (Ez (Y.row (bytes:=1) dC (by unfold aK;omega)) Y.aC) ?_⟩;rintro _ w ⟨H,a4,rfl,I,k7,hP⟩;refine⟨_,rfl,PA.mk λw8 k8 s8 g8=>PC.ok (IN (m:=64) (I.ah k8)) ?_⟩;rintro _ t ⟨rfl,Z,k9⟩;have b9:=I.aC;have hq:=I.self;have g3:=b9 H hq;have g7:=hP H hq;obtain⟨c1,a8,c5,c4⟩:=mE.Fit.count (r:=⟨c,0,0⟩) ⟨Qj _,.inl rfl⟩ (m:=64) oM;have g9:t.heap[w.heap.size]? =some (.cells #[.slice none 0 0] 211 (0,0)):=k9.get g8 (λe=>oM);have J:oP c=bj (bZ 64 ⟨c,0,0⟩).1.toNat (bZ 64 ⟨c,0,0⟩).2:=rfl;have K:ai A t:=((s.then k7).then k8).new k9 λn P=>.inr (by have:=s.size;omega);generalize h2:bZ 64 ⟨c,0,0⟩=ct at Z c1 a8 c5 c4 J;obtain⟨cn,L⟩:=ct;simp only at Z c1 a8 c5 c4 J;refine⟨_,rfl,λm a5 g=>∃i:Nat,a5=i/\(i:Int)<=cn/\m=cn.toNat-i/\e_ g H a4 (bj i L).2/\ai A g/\∃l o p G,g.heap[w.heap.size]? =some (.cells #[.slice l o p] 211 (0,0))/\aM aI 3 G g l o p (bj i L).1/\(∀n,G n->t.heap.size<=n)/\t.heap.size<=g.heap.size,
  ⟨_,0,rfl,a8,rfl,Z,K,none,0,0,λ_=>False,g9,aM.nil t,λ_ h=>h.elim,Q4 _⟩,?_⟩
 have h3:=k9.size;rintro m a5 _ c6 ⟨i,rfl,hj,rfl,a0,M,c7,c8,c9,d0,a9,y,q,f0⟩;have d9:∀n,a4 n->n<t.heap.size:=λn P=>by have:=b9 n P;omega
 refine al.dec (λh4=>?_) (λh5=>?_)
 ·intro N b0
  have j:ai c6 N:=b0.af;refine⟨(λn=>n=H\/d0 n),λhs=>hs.elim (λe=>oM) (λe=>by have:=q _ e;omega),_,_,_,ae (j.get a9 id) rfl,PC.ok (GG (a0.ah j)) ?_⟩;rintro _ d1 ⟨rfl,d2,r⟩;obtain⟨f1,f2,f3,f4⟩:=c1.ints i;obtain⟨f5,f6,f7⟩:=f1.int;refine⟨_,rfl,r.mono λn _ P=>.inl P,?_⟩;have a1:=(y.ah j).af r λn P e=>by have:=q n P;omega
  refine PA.mk λh6 z h7 e0=>⟨z.af,?_⟩
  have d3:=a1.ah z;have d4:(bj i L).1.length=i:=f3;refine kN d3 uC (D:=(·=d1.heap.size)) (Row.lit e0 [(fF (bj i L).2).1] rfl (λf9 hx=>by simp at hx;subst hx;exact f6) (by unfold aK;simp)) (λn e=>⟨oM,λe2=>by have:=a1.aC n (a1.self n e2);omega⟩) (by rw[d4];unfold aK;simp;omega) (by rw[d4];unfold maxLen;simp;omega) λb1 e1 e3 h8 a2 O _ d5=>?_
  replace a2:=a2.alone
  have e4:e3.heap[w.heap.size]? =some (.cells #[.slice c7 c8 c9] 211 (0,0)):=O.get (z.get (r.get (j.get a9 id) (λe=>oM)) id) (λe=>by have:=q _ (y.self _ e);omega);have z1:=j.size;have z2:=r.size;have z3:=z.size;have z4:=O.size;have a6:∀n,aD b1=some n->t.heap.size<=n:=λn P=>by
   rcases d5 n P with h|h
   ·exact q n h
   ·omega
  refine⟨_,_,_,rfl,PS.mk e4 sM λi0 b2 i1 e5=>⟨_,oM,i+1,aq oM,oM,rfl,?_,?_,b1,_,e1,(λn=>aD b1=some n),e5,?_,a6,oM⟩⟩
  ·refine(((d2.ah z).af O λn P e=>by have:=d9 n P;have:=q n (y.self n e);omega)).af b2 λn P e=>by have:=I.aC n P;omega
  ·refine((((M.then j).new r λn P=>.inr (by have:=s.size;omega)).then z).new O λn P=>.inr (by have:=q n (y.self n P);have:=K.size;omega)).new b2 λn P=>.inr (by have:=(s.then k7).size;omega)
  ·exact a2.af b2 λn P e=>by have:=a6 n P;omega
 ·obtain rfl:cn=(i:Int):=oM
  rw[Qx]at J;rw[<-J]at a0 y;refine PC.ok (MD a0) ?_;rintro _ N ⟨rfl,b0⟩;have j:ai c6 N:=b0.af;refine⟨_,rfl,al.dP (λk=>d (by rw[X];exact Zx k) N (M.then j)) (λh0=>?_)⟩;have hS:fr D=some (oP c).1:=by rw[X];exact Zq λh=>h h0
  rw[hS];refine⟨_,_,_,ae (j.get a9 id) rfl,PS.mk (a3 (M.then j)) sM λd1 r i2 e6=>⟨_,_,_,ae e6 rfl,Ok.mk ⟨c7,c8,c9,d0,rfl,?_,?_,?_⟩⟩⟩
  ·exact(y.ah j).af r λn P e=>by have:=q n P;have:=K.size;omega
  ·exact(C.then (M.then j)).new r λn P=>.inr oM
  ·intro n P;have:=q n P;have:=K.size;omega
def GQ{x y:Operand}{a b c d:Int}{w:World}:(do eqGuard .eql 46 x y (.agg #[ZH a,ZH b]) (.agg #[ZH c,ZH d]);binOp .eql 46 (.agg #[ZH a,ZH b]) (.agg #[ZH c,ZH d]):Sem Value).run ZP w= .ok (.bool (a==c&&b==d)) w:=by
 have f:Tryz.prog.underlying 46=some (.struct (Tryz.prog.fieldsOf 46)):=kR
 have e:Tryz.prog.underlying 3=some (.int .i64):=kR
 have n:(Tryz.prog.fieldsOf 46).toList.map (λP=>(P.name,P.type,P.offset))=[("Origin",3,0),("Seq",3,1)]:=kR
 rw[Sem.run_bind,run_eqGuard_agg w .eql _ x y _ _ kR,Result.andThen_ok,run_eql_struct,run_equalIn_struct w 9999 _ _ _ f kR];generalize(Tryz.prog.fieldsOf 46).toList=g at n
 match g,n with
 |[P,t],n=>
  simp only[QY,List.map_nil,List.cons.injEq,Prod.mk.injEq,and_true]at n;obtain⟨⟨h,i,j⟩,k,l,m⟩:=n;have o:(isAgg 3).run ZP w= .ok false w:=cM _ _ _ kR ⟨_,e⟩ w;have p:=run_equalIn_int (P:=ZP) w 9998 3 .i64 .i64 a c e;have q:=run_equalIn_int (P:=ZP) w 9998 3 .i64 .i64 b d e;unfold Op.eqFields Op.eqFields Op.eqFields;rw[h,i,j,k,l,m]
  cases r:a==c<;>simp[part,o,p,q,r]
  by_cases s:b=d<;>simp[s]
 |[],n=>simp at n
 |[_],n=>simp at n
 |_::_::_::_,n=>simp at n
def mj{a j r t:Nat}{D u:ZN}(c:Row aI 8 b D d a v)(k:Row aI 8 b u s j b2):
  YX 14 #[.slice d a r,.slice s j t] b (Ok λw e=>w= .bool (decide (v=b2))/\aV b e):=by
 have x:=c.len;have y:=k.len;have z:=c.ef;unfold aK at z;refine Bh (al.dP (λl=>?_) (λl=>?_))
 ·have f:v≠b2:=by rintro rfl;simp[x,y]at l
  exact Ok.mk ⟨by simp[f],aV.refl b⟩
 ·refine⟨λm i e=>∃n:Nat,i=n/\n<=a/\m=a-n/\v.take n=b2.take n/\aV b e,⟨_,0,rfl,Qj _,rfl,rfl,aV.refl b⟩,?_⟩
  rintro m i _ L ⟨n,rfl,M,rfl,o,P⟩;refine al.dec (λA=>?_) (λA=>?_)
  ·obtain⟨B,C,N,rfl,p,_,E⟩:=(c.ah P.af).mR (i:=n) oM
   obtain⟨F,H,O,rfl,g,_,I⟩:=(k.ah P.af).mR (i:=n) oM;refine⟨B,C,rfl,oM,oM,_,E,F,H,rfl,oM,oM,_,I,λQ q=>?_⟩;refine al.dP (λh=>?_) (λh=>?_)
   ·have f:v≠b2:=by rintro rfl;rw[p]at g;cases g;exact h rfl
    exact Ok.mk ⟨by simp[f],P.then q⟩
   ·subst h
    exact⟨_,oM,n+1,aq oM,oM,rfl,EF o p g,P.then q⟩
  ·have:v=b2:=by
    have J:v.take n=v:=Qz oM;have K:b2.take n=b2:=Qz oM;rw[<-J,<-K,o]
   exact Ok.mk ⟨by simp[this],P⟩
def sV{D y:ZN}(z:Row aI 8 b D d a q.aQ)(A:Row aI 8 b y s c O.aQ):
  YX 39 #[.agg (aE q d a i).toArray,.agg (aE O s c l).toArray] b (Ok λm g=>m= .bool (decide (q=O))/\ai b g):=by
 have no:∀{g},ai b g->q≠O->Ok (λm g=>m= .bool (decide (q=O))/\ai b g) (.returned (.bool false)) g:=λB C=>Ok.mk ⟨by rw[Xv C],B⟩;refine zj (PA.mk λI E J F=>PA.mk λr t K j=>?_);have P:=t.get F id;have k:ai b r:=E.then t;refine⟨_,_,ae P rfl,ae P rfl,_,_,ae j rfl,ae j rfl,aG.mk GQ ⟨_,rfl,al.mk (λo=>?_) (λo=>?_)⟩⟩
 rotate_left
 ·exact no k λn=>by subst n;simp at o
 refine⟨_,ae P rfl,_,ae j rfl,al.cX (λu=>?_) (λu=>no k λn=>u (by rw[n]))⟩;refine⟨_,_,_,ae P rfl,_,_,_,ae j rfl,PC.ok (mj (z.ah k) (A.ah k)) ?_⟩;rintro _ v ⟨rfl,H⟩;have p:ai r v:=H.af;have P:=p.get P id;have h:=p.get j id;have f:ai b v:=k.then p;refine⟨_,rfl,al.dec (λw=>?_) (λw=>no f λn=>w (by rw[n]))⟩;refine⟨_,ae P rfl,_,ae h rfl,al.cX (λL=>?_) (λe=>no f λn=>e (by rw[n]))⟩;refine⟨_,ae P rfl,_,ae h rfl,al.cX (λM=>?_) (λe=>no f λn=>e (by rw[n]))⟩;refine⟨_,ae P rfl,_,ae h rfl,al.cX (λN=>?_) (λe=>no f λn=>e (by rw[n]))⟩;refine⟨_,ae P rfl,_,ae h rfl,al.cX (λQ=>?_) (λe=>no f λn=>e (by rw[n]))⟩;refine⟨_,ae P rfl,_,ae h rfl,al.cX (λR=>?_) (λe=>no f λn=>e (by rw[n]))⟩;refine⟨_,ae P rfl,_,ae h rfl,Ok.mk ⟨?_,f⟩⟩
 congr 1
 have S:q.origin=O.origin/\q.seq=O.seq:=by simpa using o
 by_cases x:q.key=O.key
 ·have:q=O:=by cases q;cases O;simp_all
  subst this;simp
 ·rw[Xv λn=>x (by rw[n])]
  simp[x]
def AZ{c m w x:Nat}{D y:ZN}(f:Row jF 96 b D d c L)(o:Row jF 96 b y s m e5):
  YX 17 #[.slice d c w,.slice s m x] b (Ok λz g=>z= .bool (decide (L=e5))/\ai b g):=by
 have A:=f.len;have B:=o.len;have C:=f.ef;unfold aK at C;refine wP (al.dP (λp=>?_) (λp=>?_))
 ·have h:L≠e5:=by rintro rfl;simp[A,B]at p
  exact Ok.mk ⟨by simp[h],ak.refl b⟩
 ·refine⟨λq i g=>∃a:Nat,i=a/\a<=c/\q=c-a/\L.take a=e5.take a/\ai b g,⟨_,0,rfl,Qj _,rfl,rfl,ak.refl b⟩,?_⟩
  rintro q i _ S ⟨a,rfl,T,rfl,r,t⟩;refine al.dec (λE=>?_) (λE=>?_)
  ·intro F H
   have e:ai b F:=t.then H.af;obtain⟨I,J,U,V,rfl,_,_,u,K,W,X,Y,rfl,M,Z⟩:=(f.ah e).wv (i:=a) oM;obtain⟨N,O,a0,fs,rfl,_,_,j,Q,a2,n2,c2,rfl,R,a3⟩:=(o.ah e).wv (i:=a) oM;have n:=λi (k:i<10)=>K i k;have P:=λi (k:i<10)=>Q i k;refine⟨I,J,rfl,oM,oM,_,_,_,_,_,_,_,_,_,_,_,_,n 0 dC,n 1 dC,n 2 dC,n 3 dC,n 4 dC,n 5 dC,n 6 dC,n 7 dC,n 8 dC,n 9 dC,?_⟩;refine⟨N,O,rfl,oM,oM,_,_,_,_,_,_,_,_,_,_,_,_,P 0 dC,P 1 dC,P 2 dC,P 3 dC,P 4 dC,P 5 dC,P 6 dC,P 7 dC,P 8 dC,P 9 dC,?_⟩;refine PC.ok (sV M R) ?_;rintro _ w3 ⟨rfl,v⟩;refine⟨_,rfl,al.not (al.dec (λl=>?_) (λl=>?_))⟩
   ·subst l
    exact⟨_,oM,a+1,aq oM,oM,rfl,EF r u j,e.then v⟩
   ·have h:L≠e5:=by rintro rfl;rw[u]at j;cases j;exact l rfl
    exact Ok.mk ⟨by simp[h],e.then v⟩
  ·have:L=e5:=by
    have n:L.take a=L:=Qz oM;have P:e5.take a=e5:=Qz oM;rw[<-n,<-P,r]
   exact Ok.mk ⟨by simp[this],t⟩
end Go.Proofs.YtjgjkeponbeekaaGreatDoor
namespace Go.ar
open Go.ChangeShapes Go.WideShapes Go.ChangeAt Go.RowKit
def lT{n:Type}(P:Program)(a:TypeId)(b:DataW n):Prop:=∀c∈b.weights P a,c<=reachBytes
abbrev In(n:World):ZN:=λP=>P<n.heap.size
variable{e:Int}{a c:Nat}{j:Type}{g r:TypeId}
section
variable {H:Type} {enc:TypeId×Value->H} {P:Program} {w:World} {base:Nat} {held:Bool}
def PX{n:List TypeId}{a:List (DataW H)}(c:(DataW.weightsEach P n a).all (·<=reachBytes)=true){j:Nat}{b:DataW H}(d:n[j]? =some g)(e:a[j]? =some b):lT P g b:=
 λf h=>by simpa using ZY.1 c _ (DataW.weights_mem_each d e f h)
def qQ{b:TypeId}:∀{n:List (DataW H)} {d:DataW H},d∈n->∀a∈d.weights P b,a∈DataW.weightsAll P b n
 |x::n,d,h,a,c=>by
  simp only[DataW.weightsAll,Q6];rcases Q2.1 h with rfl|h
  ·exact Or.inl c
  ·exact Or.inr (qQ h a c)
def Reads{c:Type}(P:Program)(d:jJ c)(a:TypeId):Prop:=
 ∀(H:Type) (enc:TypeId×Value->H) (w:World) (held:Bool) (n:Nat) (cs:List Value) (b:DataW H×List MemPlace),DataW.trod enc P w 0 (λ_=>true) held n a cs=some b->lT P a b.1->∃e,d.rep w (In w) e cs
def kU{P:Option _}{b:Value}(n:w.cell? ⟨a,c,P⟩=some b):a<w.heap.size:=by
 unfold World.cell? at n
 by_cases d:a<w.heap.size
 ·exact d
 ·rw[show w.heap[a]? =none by simp;omega]at n;cases n
def open_row{i:jJ j}{bytes v:Nat}{cs:List Value}{B:DataW H×List MemPlace}(I:P.underlying g=some (.slice r))(Q:P.cellsOf r=i.k)(J:0<i.k)(R:P.bytesOf r=bytes)(S:Reads P i r)(o:DataW.trod enc P w 0 (λ_=>true) held v g cs=some B)(T:lT P g B.1):
  ∃a p e U,cs=[.slice a p e]/\p<=e/\(a=none->p=0/\e=0)/\Row i bytes w (In w) a p U:=by
 rcases DataW.trod_slice I o with⟨rfl,rfl⟩|⟨a,b,e,n,f,p,_,rfl,rfl,hb,V,hm,a4,W,a5,a6⟩
 ·exact⟨none,0,0,[],rfl,Q4 _,λ_=>⟨rfl,rfl⟩,Row.nil _ _⟩
 ·have x:∀k∈(n.length+f.length)*P.bytesOf r::(DataW.weightsAll P r (n.map (·.1))++DataW.weightsAll P r (f.map (·.1))),k<=reachBytes:=by
   have:=T;simpa only[lT,DataW.weights,I,Q8]using this
  have read:∀d,d<b->∃c k,n[d]? =some k/\c.length=i.k/\(∀h,h<i.k->w.cell? (a.add (d*i.k+h))=c[h]?)/\DataW.trod enc P w 0 (λ_=>true) held p r c=some k:=by
   intro d m;have K:=W d m;rw[Q,Qq (by omega:d<n.length)]at K;obtain⟨c,A,y⟩:=Option.bind_eq_some_iff.1 K;obtain⟨_,C,s⟩:=World.cells?_some A;exact⟨c,_,Qq oM,C,λh E=>by rw[<-Addr.add_add];exact s h E,y⟩
  have X:0<b->a.spot=none:=by
   intro Y;obtain⟨c,k,_,C,s,_⟩:=read 0 Y;have:=s 0 J;rw[Nat.zero_mul,Nat.add_zero,Qq oM]at this;have r:a.add 0=a:=by simp[Addr.add]
   rw[r]at this;unfold World.cell? at this;split at this
   ·cases t:a.spot with
    |none=>rfl
    |some L=>rw[t]at this;simp at this
   ·cases this
  have one:∀d,d<b->∃q,∃u z M,some a=some ⟨u,z,none⟩/\u<w.heap.size/\In w u/\(∀h,h<i.k->w.cell? ⟨u,z+d*i.k+h,none⟩=M[h]?)/\i.rep w (In w) q M:=by
   intro d m;have t:=X oM;have N:∀F,a.add F=⟨a.block,a.off+F,none⟩:=by
    intro F;obtain⟨u,Z,L⟩:=a;simp only at t;subst t;unfold Addr.add;split
    ·next o=>subst o;rfl
    ·rfl
   obtain⟨c,k,y,C,s,h5⟩:=read d m;have a0:lT P r k.1:=λq l=>x q (QJ _ (ZV _ (qQ (d:=k.1) (Xk.2 ⟨k,QZ y,rfl⟩) q l)));obtain⟨q,l⟩:=S H enc w held p c k h5 a0;have O:a.block<w.heap.size:=by
    have:=s 0 J;rw[N,Qq oM]at this;exact kU this
   refine⟨q,a.block,a.off,c,?_,O,O,λh E=>?_,l⟩
   ·obtain⟨u,Z,L⟩:=a
    simp only at t;rw[t]
   ·have:=s h E
    rw[N]at this;rw[<-this,Nat.add_assoc]
  have a1:b*bytes<=aK:=by
   have A:=x _ (QV ..);have y:b*P.bytesOf r<=(n.length+f.length)*P.bytesOf r:=Q0 _ oM;rw[R]at A y;unfold reachBytes at A;unfold aK;omega
  by_cases l:b=0
  ·subst l
   exact⟨some a,0,e,[],rfl,Qj _,λo=>(by cases o),rfl,sM,λd B m=>(by simp at m)⟩
  ·have a2:Nonempty j:=⟨(one 0 oM).choose⟩
   haveI:Inhabited j:=⟨Classical.choice a2⟩
   obtain⟨a3,hf⟩:=Go.Deep.choose_lt one;refine⟨some a,b,e,(List.range b).map a3,rfl,V,λo=>(by cases o),sM,a1,λd q l=>?_⟩
   by_cases m:d<b
   ·rw[Q9,List.getElem?_range m]at l
    cases l
    exact hf d m
   ·rw[Q7 (by simp;omega)]at l;cases l
def bf(n:(Lit.int .i64 e).wf=true):aJ e:=by
 have:IntKind.i64.min<=e/\e<=IntKind.i64.max:=by simpa[Lit.wf]using n
 exact this
end
variable{o:Array Value}{a7:Func}{g3:List MemPlace}{b k:World}
def ai.below(n:ai b k):Below b.heap.size b k:=⟨n.os,n.tape,n.output,n.size,λP a=>n.block P a id⟩
section
variable {H:Type} {enc:TypeId×Value->H} {P:Program}
def vD(i:laidOutB P=true){e j:World}(k:ai e j){l:Nat->Bool}:∀{b:List TypeId} {m:List Value} {o:List (DataW H)} {c:List MemPlace},b.all (λf=>P.readableRec f&&decide (f<P.types.size))=true->(∀n∈c,n.block<e.heap.size)->(∀n∈c,l n.block=true)->
  DataW.TrodAll enc P e 0 (λ_=>true) true b m o c->DataW.TrodAll enc P j 0 l true b m o c
 |[],_,_,_,_,_,_,a=>by
  obtain⟨rfl,rfl,rfl⟩:=trodAll_nil a;exact trodAll_mk0
 |f::b,_,_,_,d,p,q,a=>by
  obtain⟨t,u,v,w,x,y,rfl,rfl,rfl,r,s⟩:=trodAll_cons a;simp only[List.all_cons,QK,Zk]at d;refine trodAll_cons_mk (WideElems.Trod_stays i d.1.1 d.1.2 r (λg h=>k.below.same (p g (ZV _ h))) λg h=>q g (ZV _ h)) (vD i k (by simpa using d.2) (λn a=>p n (ZW _ a)) (λn a=>q n (ZW _ a)) s)
def NA{c:ChangeSpec}{e m:List (DataW H)}{tb:TypeId}{n h E i:Bool}(F:laidOutB P=true)(u:a7.resultTypes= #[tb])(v:P.underlying tb=some .bool)(w:c.vars=[])(I:(c.fn H (e++m)).results=[.lit (.bool true)])(J:(c.fn H (e++m)).args=e)(K:(c.fn H (e++m)).vars=[])(L:a7.params.toList.all (λx=>P.readableRec x&&decide (x<P.types.size))=true)(p:DataW.Whole enc P a7.params.toList c.vars n b o.toList e m g3)(q:ai b k):c.post enc P a7 n h E i b o (.bool true) k:=by
 have M:=p;have r:=λa d=>p.lt a d;obtain⟨a,V,N,y,O,Q,R⟩:=p;rw[w]at y;obtain⟨rfl,rfl⟩:=trodVars_none y;obtain rfl:g3=a:=by simpa using O
 have z:∀f:Nat->Bool,(∀a∈g3,f a.block=true)->DataW.TrodAll enc P k 0 f true a7.params.toList o.toList (c.fn H (e++[])).args g3:=λf S=>by
  rw[J];exact vD F q L (λs t=>by simpa using r s t) (λs t=>S s t) N
 have A:∀(g:Nat) (f:Nat->Bool) (B:Bool),DataW.TrodAll enc P k g f B a7.resultTypes.toList ((Value.bool true).resultList a7.resultTypes.size) (c.fn H (e++[])).results []:=λg f B=>by
  rw[u,I];exact trodAll_cons_mk (shut_bool v _) trodAll_mk0
 have C:∀f:Nat->Bool,DataW.TrodVars enc P k f c.vars (c.fn H (e++[])).vars []:=λf=>by rw[K,w];exact rfl
 have T:∀a∈g3,(λg=>decide (g<b.heap.size)) a.block=true:=λa d=>by simpa using r a d
 refine⟨e,[],g3,[],g3,[],M,A _ _ _,z _ T,C _,World.keptBut_mono (λa d=>⟨d,Or.inr (by simpa using d)⟩) (q.below.frame (·∈g3)),λ_=>?_⟩;refine⟨ok_one u rfl (okWide_bool_mk v _),_,_,([]++g3)++[],⟨[]++g3,[],trodAll_append (z _ (λ_ _=>rfl)) (A _ _ _),C _,rfl,?_,?_⟩,?_⟩
 ·intro g j d
  have l:MemPlace.cell g j∈g3:=by simpa using d
  rw[q.below.frozen (p:=⟨g,j,none⟩) (r _ l)];exact Q g j (by simpa using l)
 ·intro U
  simpa using R U
 ·intro a d _
  simpa using d
end
end Go.ar
namespace Go.Proofs.YtjgjkeponbeekaaGreatDoor
open Go.ar
def aT(a P:World)(d:Nat)(D:an)(b:ZN):Prop:=∃c,aO P d c D/\ai a P/\(∀n,c n->a.heap.size<=n/\¬b n)/\∀n,b n->n<P.heap.size
abbrev no:ZN:=λ_=>False
abbrev dz(n:ZN):ZN:=λP=>¬n P
variable{o:Array Value}{x:ByteArray}{A:FuncId}{e:Int}{d8:Int×an}{y:List UInt8}{a c:Nat}{f:ZN}{d:YQ}
section
variable {w0 w w1 w':World} {p:Nat} {D D':an} {X Y:ZN}
def aT.gr(n:aT w0 w p D X):ai w0 w:=by obtain⟨a,b,P,c,d⟩:=n;exact P
def aT.ok(n:aT w0 w p D X):D.Ok:=by obtain⟨a,P,b,c,d⟩:=n;exact P.ok
def aT.ah(P:aT w0 w p D X)(n:ai w w'):aT w0 w' p D X:=by
 obtain⟨a,b,c,d,e⟩:=P;exact⟨a,b.ah n,c.ah n,d,λf g=>Qk (e f g) n.size⟩
def aT.mono(c:aT w0 w p D X)(a:∀n,Y n->X n):aT w0 w p D Y:=by
 obtain⟨d,e,f,b,g⟩:=c;exact⟨d,e,f,λn P=>⟨(b n P).1,λh=>(b n P).2 (a n h)⟩,λn P=>g n (a n P)⟩
def aT.add(P:aT w0 w p D X)(b:ai w w')(c:∀n,Y n->w.heap.size<=n/\n<w'.heap.size):aT w0 w' p D (λn=>X n\/Y n):=by
 obtain⟨f,d,g,e,h⟩:=P;exact⟨f,d.ah b,g.ah b,λn a=>⟨(e n a).1,λi=>i.elim (e n a).2 λj=>by have:=d.aC n a;have:=(c n j).1;omega⟩,λn a=>a.elim (λP=>Qk (h n P) b.size) λP=>(c n P).2⟩
def aT.of(a:ai w0 w)(b:ai w w')(e:aO w' p f D)(c:∀n,f n->w.heap.size<=n)(d:∀n,X n->n<w.heap.size):aT w0 w' p D X:=
 ⟨f,e,a.ah b,λn P=>⟨Xx a.size (c n P),λg=>by have:=c n P;have:=d n g;omega⟩,λn P=>Qk (d n P) b.size⟩
def nB(w0 w:World)(p:Nat)(X:ZN)(n:Int×an)(P:Value)(w':World):Prop:=P= ZH n.1/\aT w0 w' p n.2 X/\ak (dz X) w w'
def aT.VX(e:aT w0 w p D X)(d:ai w w1)(i:∀a,aO w1 p a D->(∀n,a n->w0.heap.size<=n/\n<w.heap.size/\¬X n)->YX A o w1 (Ok (vw w1 p a d8))):YX A o w1 (Ok (nB w0 w1 p X d8)):=by
 obtain⟨a,f,g,b,h⟩:=e;refine Calls.ok (i a (f.ah d) λn P=>⟨(b n P).1,f.aC n P,(b n P).2⟩) ?_;rintro q w' ⟨j,k,l,c⟩;have:=d.size;have:=g.size;have:=c.af.size;exact⟨k,⟨j,l,(g.ah d).new c.af λn P=>.inr (b n P).1,λn P=>(c.new n P).elim (b n) λe=>⟨oM,λm=>by have:=h n m;omega⟩,λn P=>by have:=h n P;omega⟩,c.af.mono λn _ P=>(b n P).2⟩
def aT.call(a:aT w0 w p D X)(b:∀P,aO w p P D->(∀n,P n->w0.heap.size<=n/\n<w.heap.size/\¬X n)->YX A o w (Ok (vw w p P d8))):YX A o w (Ok (nB w0 w p X d8)):=a.VX (ak.refl w) b
def aT.append(P:aT w0 w p D X)(b:Row fP 1 w f d a y)(i:d=none->a=0/\c=0)(e:∀n,f n->n<w0.heap.size\/X n):
  YX 178 #[ZL p,.string x,.slice d a c] w (Ok (nB w0 w p X (D.append x y))):=by
 have o:=P.gr.size;have j:∀n,X n->n<w.heap.size:=by obtain⟨k,q,r,s,l⟩:=P;exact l
 exact P.call λk m g=>yv m b i λn b=>⟨(e n b).elim (λP=>oM) (j n),λh=>(e n b).elim (λP=>by have:=(g n h).1;omega) (g n h).2.2⟩
def aT.create(n:aT w0 w p D X):YX 170 #[ZL p,.string x] w (Ok (nB w0 w p X (D.create x))):=n.call λa P _=>yu P
def aT.sync(n:aT w0 w p D X):YX 172 #[ZL p,.string x] w (Ok (nB w0 w p X (D.sync x))):=n.call λa P _=>Ex P
def aT.II{k:ByteArray}(n:aT w0 w p D X):YX 169 #[ZL p,.string k,ZH e] w (Ok (nB w0 w p X (D.II k e))):=n.call λa P _=>Qg P
def aT.delete(n:aT w0 w p D X):YX 141 #[ZL p,.string x] w (Ok (nB w0 w p X (D.delete x))):=n.call λa P _=>yt P
def aT.read{k:ByteArray}(j:aT w0 w p D X):YX 162 #[ZL p,.string k] w (Ok λd w'=>∃a b c P,d= .tuple #[.slice a b c,ZH (D.read k).2]/\aM fP 5 P w' a b c (D.read k).1/\(∀n,P n->w.heap.size<=n)/\aT w0 w' p D (λn=>X n\/P n)/\ai w w'):=by
 obtain⟨P,e,l⟩:=j;refine Calls.ok (xD e) ?_;rintro d w' ⟨m,rfl,a,b,c,G,rfl,f,g,h⟩;exact⟨a,b,c,G,rfl,f,h,aT.add ⟨P,e,l⟩ g λn i=>⟨h n i,f.aC n i⟩,g⟩
def aT.list(j:aT w0 w p D X):YX 160 #[ZL p] w (Ok λd w'=>∃a b c P,d= .slice a b c/\aM NQ 9 P w' a b c D.list/\(∀n,P n->w.heap.size<=n)/\aT w0 w' p D (λn=>X n\/P n)/\ai w w'):=by
 obtain⟨P,e,k⟩:=j;refine Calls.ok (xE e) ?_;rintro d w' ⟨a,b,c,G,rfl,f,g,h⟩;exact⟨a,b,c,G,rfl,f,h,aT.add ⟨P,e,k⟩ g λn i=>⟨h n i,f.aC n i⟩,g⟩
end
def UH(n:Nat):an:=⟨n,[],false,0,false⟩
variable{t:ZT}{v:List Int}{b k:World}
def tr(g:ai b k)(l:64<=e)(m:e<=262144):YX 42 #[ZH e] k (Ok λa P=>∃n,a= .tuple #[ZL n,ZH 0]/\aT b P n (UH e.toNat) (λc=>c<k.heap.size)/\ai k P):=by
 refine Calls.ok NS ?_;intro a P d;rw[Zq oM]at d;obtain⟨n,o,rfl,h,f,i⟩:=d;exact⟨n,rfl,aT.of g f h i λc j=>j,f⟩
def IX{D:an}(n:D.Ok)(P:ByteArray):(D.read P).1.length<=262144:=by
 unfold an.read;split
 ·simp
 ·split
  ·simp
  ·rename_i b a;exact n.len (bW a)
def nA:ByteArray:=⟨#[97]⟩
open Go.ar Go.ChangeShapes Go.WideShapes Go.ChangeAt Go.RowKit
section
variable {w0 w w1 w':World} {p:Nat} {D D':an} {X Y:ZN}
def aT.cf(P:aT w0 w p D X)(g:qu w0)(j:Row aI 8 w f d a v)(k:∀l∈v,aJ l)(h:∀n,f n->n<w0.heap.size\/X n):
  YX 112 #[ZL p,.agg #[.slice d a c]] w (Ok (nB w0 w p X (cf D v))):=by
 have s:=P.gr.size;have m:∀n,X n->n<w.heap.size:=by obtain⟨o,t,u,x,q⟩:=P;exact q
 have y:=g.lt;exact P.call λo r e=>Cr (g.ah P.gr) r j k (λn b=>⟨(h n b).elim (λP=>oM) (m n),λi=>(h n b).elim (λP=>by have:=(e n i).1;omega) (e n i).2.2⟩) λn b=>by have:=(e n b).1;omega
def aT.jM(c:aT w0 w p D X)(j:qu w0):YX 109 #[ZL p] w (Ok λd w'=>∃P a b G,d= .tuple #[.agg #[.slice P a b],.bool (fr D).isSome]/\aM aI 3 G w' P a b ((fr D).getD [])/\
  (∀n,G n->w.heap.size<=n)/\aT w0 w' p D (λn=>X n\/G n)/\ai w w'):=by
 have k:=c.gr;obtain⟨l,e,m⟩:=c;refine Calls.ok (DQ (j.ah k) e) ?_;rintro d w' ⟨P,a,b,G,rfl,f,g,h⟩;exact⟨P,a,b,G,rfl,f,h,aT.add ⟨l,e,m⟩ g λn i=>⟨h n i,f.aC n i⟩,g⟩
end
def MS{D:ZN}{P bytes:Nat}(a:Row aI bytes b D d P v):∀n∈v,aJ n:=λn c=>by
 obtain⟨e,f⟩:=List.mem_iff_getElem?.1 c;obtain⟨i,g,j,-,-,-,-,h⟩:=a.el e n f;exact h.2
def Ep{D:an}:((fr D).getD []).length<=64:=by
 unfold fr;split
 ·simp
 ·cases n:jM (D.read vR).1 with
  |none=>simp
  |some P=>exact(Ou n).2
def tn:(lM==vR)=false:=by decide+kernel
def zK:fL:=⟨[(6,[(8,.slice none 0 0),(9,ZH 0)])],[],[],[],[]⟩
def zM(a0:PC_ 146 #[.ii e] b (λa3 a4=>∃o,a3= .string o/\PC_ 162 #[.pointer d,.string o] a4 (λa5 p=>∃q k l r,a5= .tuple #[.slice q k l,.ii r]/\al (r !=0) (rt t ((.tuple #[.slice none 0 0,.ii 0])) p) ((∃m:Nat->YQ->Nat->Nat->Int->ZU,(∃j,m j none 0 0 0 p)/\∀(j:Nat) (c:YQ) (f:Nat) (g:Nat) (a:Int) (c9:Nat->Value) (s:World),m j c f g a s->((0:Int)<=a/\(a:Int)<=(k:Int)/\PC_ 163 #[.slice (cI q (Int.toNat a) l 1) (k-Int.toNat a) (l-Int.toNat a)] s (λa6 h=>∃u v w x y z,a6= .tuple #[.agg #[.ii u,.slice v w x],.ii y,.ii z]/\PA h (.cells #[.ii 0,.slice none 0 0] 277) λa7=>PS a7 (ab_ h 0) (.ii u) λa8=>PS a8 (ab_ h (0+1)) (.slice v w x) λi=>al (z !=0) (rt t ((.tuple #[.slice c f g,.ii a])) i) ((rI i (ab_ h 0) λa9=>al (a9 !=1) (rt t ((.tuple #[.slice c f g,.ii a])) i) ((rS i (ab_ h (0+1)) λb0 b1 b2=>PC_ 231 #[.slice b0 b1 b2] i (λb3 n=>∃A B D C E G F H I J K L M,b3= .tuple #[.agg #[.ii A,.ii B,.ii D,.slice C E G,.ii F,.ii H,.ii I,.ii J,.ii K,.ii L],.ii M]/\PA n (.cells #[.ii 0,.ii 0,.ii 0,.slice none 0 0,.ii 0,.ii 0,.ii 0,.ii 0,.ii 0,.ii 0] 63) λb4=>PS b4 (ab_ n 0) (.ii A) λb5=>PS b5 (ab_ n (0+1)) (.ii B) λb6=>PS b6 (ab_ n (0+2)) (.ii D) λb7=>PS b7 (ab_ n (0+3)) (.slice C E G) λb8=>PS b8 (ab_ n (0+4)) (.ii F) λb9=>PS b9 (ab_ n (0+5)) (.ii H) λc0=>PS c0 (ab_ n (0+6)) (.ii I) λc1=>PS c1 (ab_ n (0+7)) (.ii J) λc2=>PS c2 (ab_ n (0+8)) (.ii K) λc3=>PS c3 (ab_ n (0+9)) (.ii L) λP=>al (M !=0) (rt t ((.tuple #[.slice c f g,.ii a])) P) ((∃N O Q R S T U V W X Y Z,P.cell? (ab_ n 0)=some (.ii N)/\P.cell? (ab_ n (0+1))=some (.ii O)/\P.cell? (ab_ n (0+2))=some (.ii Q)/\P.cell? (ab_ n (0+3))=some (.slice R S T)/\P.cell? (ab_ n (0+4))=some (.ii U)/\P.cell? (ab_ n (0+5))=some (.ii V)/\P.cell? (ab_ n (0+6))=some (.ii W)/\P.cell? (ab_ n (0+7))=some (.ii X)/\P.cell? (ab_ n (0+8))=some (.ii Y)/\P.cell? (ab_ n (0+9))=some (.ii Z)/\PA P (.cells #[.ii N,.ii O,.ii Q,.slice R S T,.ii U,.ii V,.ii W,.ii X,.ii Y,.ii Z] 63) λc4=>PR_ (ap_ 59 (.slice c f g) (.slice (some (ab_ P 0)) 1 1)) c4 (kS_ λc5 c6 c7 c8=>(∃a2,a2<j/\m a2 c5 c6 c7 (ZG .i64 (a+y)) c8)) (pV t)))) (pE t)))))) (pE t))))) (pE t)) (pE t)):YX 168 #[.pointer d,.ii e] b t:=DC zK Tryz.func168 rfl a0
end Go.Proofs.YtjgjkeponbeekaaGreatDoor
namespace Go.ar
open Go
variable{L:List aj}{q:aj}
def qF(n:q.Ok)(P:q.aQ.length<=64):gw q=(xx q,0):=by
 have c:=MR n P;have a:iV q=(bR (kO q),0):=by unfold iV;rw[Zq oM]
 have b:jZ 1 (bR (kO q))=(xx q,0):=by unfold jZ xx;rw[Zq dC,Zq oM]
 unfold gw;rw[a];simp only;rw[b];simp
def ym(P:¬q.aQ.length<=64):gw q=([],3):=by
 have n:iV q=([],3):=by unfold iV;rw[Zx oM]
 unfold gw;rw[n];simp
def ends(n:List aj):List Int:=(List.range n.length).map λP=>((eu (n.take (P+1))).length:Int)
def Qb(P:∀n∈L,n.Ok/\n.aQ.length<=64):(eu L).length<=675*L.length:=by
 induction L with
 |nil=>simp[eu]
 |cons n L a=>
  rw[LY,QX,Xq];have d:=JR (P n (QV ..)).1 (P n (QV ..)).2;have e:=a λb c=>P b (QJ _ c);omega
end Go.ar
namespace Go.Proofs.YtjgjkeponbeekaaGreatDoor
open Go.ar
end Go.Proofs.YtjgjkeponbeekaaGreatDoor
namespace Go.ar
open Go
end Go.ar
namespace Go.Proofs.YtjgjkeponbeekaaGreatDoor
open Go.ar
variable{a c:Nat}{f:ZN}{d:YQ}{j:Type}{b:World}{q:aj}
def Er{D:ZN}(r:Laid b)(s:Row aI 8 b D d a q.aQ)(i:q.Ok)(t:∀P,D P->P<b.heap.size):
  YX 205 #[.agg (aE q d a c).toArray] b (Ok λu j=>∃k l m o,u= .tuple #[.slice k l m,ZH (gw q).2]/\aM fP 5 o j k l m (gw q).1/\ai b j/\∀P,o P->b.heap.size<=P):=by
 refine zv (PA.mk λC e E n=>?_);refine⟨_,_,_,_,_,_,_,_,_,_,_,_,ae n rfl,ae n rfl,ae n rfl,ae n rfl,ae n rfl,ae n rfl,ae n rfl,ae n rfl,ae n rfl,ae n rfl,
  PC.ok (NV (s.ah e) i λP h=>Qk (t P h) e.size) ?_⟩
 rintro _ v ⟨_,rfl,F,H,I,J,rfl,p,f,K⟩;refine⟨_,_,_,_,rfl,al.dP (λw=>?_) (λx=>?_)⟩
 ·rw[show gw q=([],(iV q).2) by unfold gw;rw[Zx w]]
  exact Ok.mk ⟨none,0,0,λ_=>False,rfl,aM.nil v,e.then f,λ_ g=>g.elim⟩
 rw[show gw q=jZ 1 (iV q).1 by unfold gw;rw[Zq (by simpa using x)]];have L:(iV q).1.length<=666:=by
  by_cases g:64<q.aQ.length
  ·simp[iV,g]
  ·have:=MR i oM
   simpa[iV,g]using this
 refine PC.ok (ED (r.ah (e.then f)).nY (p.row (bytes:=1) dC (by unfold aK;omega)) p.aC) ?_;rintro _ M ⟨_,rfl,N,O,Q,y,rfl,z,A,B⟩;refine⟨_,_,_,_,rfl,Ok.mk ⟨_,_,_,y,rfl,z,(e.then f).then A,λP h=>?_⟩⟩;have:=B P h;have:=(e.then f).size;omega
def RB{n:List j}(b:n.length=a)(P:Nat):(n.take a).drop P=n.drop P:=by rw[Qz oM]
def Rk{D:an}{no:Int}(O:Laid b)(Q:aO b a f D)(hn:aJ no):
  YX 168 #[ZL a,ZH no] b (Ok λB d=>∃o p q G,B= .tuple #[.slice o p q,ZH ((bV (D.read (cB (aB no))).1).2:Int)]/\
   aM vz 63 G d o p q (bV (D.read (cB (aB no))).1).1/\ai b d/\(∀P,G P->b.heap.size<=P)/\(bV (D.read (cB (aB no))).1).1.length<=262144):=by
 refine zM (PC.ok (jx O hn) ?_);rintro _ w1 ⟨rfl,u⟩;refine⟨_,rfl,PC.ok (xD (Q.ah u)) ?_⟩;rintro _ r ⟨_,rfl,a4,R,c2,F2,rfl,l,C,c3⟩;have S:=IX Q.ok (cB (aB no));have E:(D.read (cB (aB no))).2≠0->(D.read (cB (aB no))).1=[]:=by
  unfold an.read;split
  ·intro _;rfl
  ·split
   ·intro _;rfl
   ·intro h;exact Zz rfl h
 generalize D.read (cB (aB no))=rd at l S E;obtain⟨c,er⟩:=rd;simp only at l S E⊢;refine⟨_,_,_,_,rfl,al.dP (λk=>?_) (λhe=>?_)⟩
 ·rw[E k,JP]
  exact Ok.mk ⟨none,0,0,λ_=>False,rfl,aM.nil r,u.then C,λ_ h=>h.elim,sM⟩
 have b2:=l.len dC;have b3:=l.jH;have a9:Row fP 1 r F2 a4 R c:=l.row dC (by unfold aK;omega);refine⟨λT v w y F d=>∃(n:Nat) (g:List aj) (G:ZN),F=n/\n<=c.length/\T=c.length-n/\bV c=(g++(bV (c.drop n)).1,n+(bV (c.drop n)).2)/\g.length<=n/\
  aM vz 63 G d v w y g/\ai r d/\∀P,G P->r.heap.size<=P,⟨_,0,[],λ_=>False,rfl,Qj _,rfl,sM,sM,aM.nil r,ak.refl _,λ_ h=>h.elim⟩,?_⟩
 rintro T v w y _ _ U ⟨n,g,G,rfl,c5,rfl,V,c6,s,m,H⟩;refine⟨oM,oM,?_⟩;have W:ai b U:=(u.then C).then m;have X:=(a9.ah m).part (lo:=n) (hi:=R) (cap:=c2) oM (Q4 _) b3;rw[RB b2.symm]at X;rw[Qx];refine PC.ok (EE (O.ah W).nY X oM λP e=>by have:=l.aC P e;have:=m.size;omega) ?_;rintro _ I ⟨b0,n4,c4,F4,rfl,b4,z,c8⟩;have i:¬((br (c.drop n)).no=0/\(br (c.drop n)).kind=1/\(jy (br (c.drop n)).body).2=0)->∀d,ai I d->
   Ok (λB d=>∃o p q G,B= .tuple #[.slice o p q,ZH ((bV c).2:Int)]/\aM vz 63 G d o p q (bV c).1/\ai b d/\(∀P,G P->b.heap.size<=P)/\(bV c).1.length<=262144) (.returned (.tuple #[.slice v w y,ZH (n:Int)])) d:=by
  intro h d Y;rw[V,CG h];refine Ok.mk ⟨v,w,y,G,sM,by simpa using(s.ah z).ah Y,(W.then z).then Y,λP e=>?_,by simp;omega⟩;have:=H P e;have:=(u.then C).size;omega
 refine⟨_,_,_,_,_,_,rfl,PA.mk λw5 k5 s5 g5=>?_⟩;refine storeAll [ZH (br (c.drop n)).kind,.slice b0 n4 c4] g5 rfl λJ k6 s6 Z=>?_;have t:ai I J:=k5.new k6 λP e=>.inr oM;refine al.dP (λk=>i (λh=>k h.1) J t) (λa0=>?_);refine⟨_,ae Z rfl,al.dP (λk=>i (λh=>k h.2.1) J t) (λb1=>?_)⟩;obtain⟨b5,h9,c9⟩:=vC a0;rw[XZ]at b5;have a1:=b4.ah t;refine⟨_,_,_,ae Z rfl,PC.ok (NW (a1.row (bytes:=1) dC (by unfold aK;omega)) a1.aC) ?_⟩;rintro _ w7 ⟨a7,n7,c7,F7,rfl,K,k7,a3⟩;obtain⟨L,a5⟩:=RC (br (c.drop n)).body;generalize M:jy (br (c.drop n)).body=b6 at K L a5;obtain⟨x,xe⟩:=b6;simp only at K L a5;refine⟨_,_,_,_,_,_,_,_,_,_,_,_,_,rfl,PA.mk λw8 k8 s8 g8=>?_⟩;refine storeAll (aE x a7 n7 c7) g8 rfl λA k9 s9 j=>?_;have a6:ai w7 A:=k8.new k9 λP e=>.inr oM;have a8:ai I A:=(t.then k7).then a6;refine al.dP (λk=>i (λh=>k (by have:=h.2.2;rw[M]at this;exact this)) A a8) (λb7=>?_);refine⟨_,_,_,_,_,_,_,_,_,_,_,_,ae j rfl,ae j rfl,ae j rfl,ae j rfl,ae j rfl,ae j rfl,ae j rfl,ae j rfl,ae j rfl,ae j rfl,?_⟩;have N:ai U A:=z.then a8;have b8:=s.ah N;have a2:=K.ah a6;have d0:=(z.then t).size;refine HI b8 Ke (x:=x) (D:=F7) ⟨a7,n7,c7,F7,rfl,a2,λ_ h=>h,L,by unfold aK;omega⟩ (λP e=>⟨a2.aC P e,λhc=>?_⟩) (by unfold aK;omega) (by unfold maxLen;omega) λa' c' d1 F' b9 c0 c1 _=>?_
 ·have h1:=s.aC P (s.self P hc)
  have h2:=a3 P e;omega
 refine⟨_,_,_,rfl,_,?_,n+(br (c.drop n)).n,g++[x],F',?_,oM,rfl,?_,by simp;omega,b9,?_,?_⟩
 ·omega
 ·rw[wrap_i64 (by unfold aJ;omega)];omega
 ·rw[V,JQ ⟨a0,b1,by rw[M];exact b7⟩,M,List.drop_drop]
  simp only[XQ,List.cons_append,List.nil_append,Nat.add_assoc]
 ·exact(m.then N).new c0 λP e=>.inr (H P (s.self P e))
 ·intro P e
  have hz:=(m.then N).size;have d2:=m.size;rcases c1 P e with h|h|h
  ·exact H P h
  ·have:=a3 P h;omega
  ·omega

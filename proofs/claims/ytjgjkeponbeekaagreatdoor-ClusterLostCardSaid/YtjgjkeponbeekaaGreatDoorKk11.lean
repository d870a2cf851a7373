import Derived.Test.YtjgjkeponbeekaaGreatDoorKk10
import Derived.Lib.AppendIntMem
import Derived.Laws.Concat
import Derived.Shelf.SlSortCmp.WholeK
import Derived.Shelf.SlMaps.Clone
import Derived.Ground.SlsfProg
import Derived.Ground.SlmcProg
import Derived.Shelf.SlGeneric
import Derived.Shelf.SlSortCmp.NoneTotal
import Derived.Laws.StructEq
import Derived.Carry
import Derived.SizedLaws
import Derived.WalkKit
import Derived.ProofKit
import Derived.OpenShut
import Derived.Deep.DeepHandedRow
import Derived.Deep.Slices
set_option maxHeartbeats 4000000
set_option linter.all false
set_option maxRecDepth 100000
open Go.IntKind renaming wrap→ZG
namespace Go.Proofs.YtjgjkeponbeekaaGreatDoor
open Go.aw
def ie(n:List (ByteArray×oq)):Nat:=(n.map λP=>P.2.f.bytes.length).sum
def Ew(n:List (ByteArray×oq)):ie n=eY (n.map vM):=by unfold ie eY;rw[List.map_map];rfl
variable{w:ByteArray}{f4 g8:List (ByteArray×Value)}{a3:List (ByteArray×oq)}{u:List UInt8}{a c i:Nat}{Z f:ZN}{d:WP}{j:Type}{v:Value}{b:World}
def xI{left:List (ByteArray×oq)}(c:left.map eD=f4++(w,v)::g8):
  ∃n P a,left=n++(w,P)::a/\f4=n.map eD/\g8=a.map eD/\v=ptr P.q:=by
 obtain⟨n,j,d,e,f⟩:=List.map_eq_append_iff.1 c;obtain⟨g,a,h,b,i⟩:=List.map_eq_cons_iff.1 f;obtain⟨k,P⟩:=g;simp only[eD,Prod.mk.injEq]at b;obtain⟨rfl,rfl⟩:=b;exact⟨n,P,a,by rw[d,h],e.symm,i.symm,rfl⟩
def OC{D:ak}(g:aU b a f D):
  PP 239 #[ZL a] b (Ok λj h=>j= ZH D.room/\ai b h):=by
 obtain⟨k,P,c⟩:=g.open;have Q:=c.ok.most;have l:=c.ok.fits;unfold ak.used at l;rw[c.files,<-Ew]at l;refine vB ⟨a,0,rfl,_,ae c.head rfl,a,0,rfl,some k,ae c.head rfl,mapRange mF c.map λR v w S=>?_⟩;refine⟨λm o h=>∃left:List (ByteArray×oq),cT h b.heap.size k Value.string (P.map eD) (left.map eD)/\m=left.length/\o=(D.most:Int)-ie P+ie left/\ie left<=ie P/\ai b h/\∀n∈left,n∈P,
  ⟨_,P,v,rfl,oM,Q4 _,w,λ_ g=>g⟩,?_⟩
 rintro m o T U ⟨left,x,rfl,rfl,V,p,q⟩;refine ot x (λy=>.inl ⟨rfl,Ok.mk ⟨?_,p⟩⟩) λi j W X r z A B C Y=>.inr ⟨_,_,rfl,rr B ?_⟩
 ·have:left=[]:=by simpa using y
  subst this;simp only[ie,List.map_nil,List.sum_nil,ak.room,ak.used];rw[c.files,<-Ew];simp[ie]
 ·obtain⟨e,n,d,rfl,rfl,rfl,rfl⟩:=xI z
  have E:(i,n)∈P:=q _ sM;have s:ai b r:=p.new C λd Z=>.inr oM;have F:eH r n.q n.G n.f:=(c.each.each _ E).keep s λ_ _ g=>g;obtain⟨H,t,I,F0,J,K,h3,h4⟩:=F.body;have L:=K.len dC;have M:ie (e++(i,n)::d)=ie (e++d)+n.f.bytes.length:=by simp[ie];omega
  have N:ZG .i64 ((D.most:Int)-ie P+ie (e++(i,n)::d)-((t:Nat):Int))=(D.most:Int)-ie P+ie (e++d):=by
   rw[wrap_i64 bc,L,M];omega
  refine⟨_,_,rfl,n.q,0,rfl,H,t,I,ae J rfl,(e++d).length,sM,e++d,?_,rfl,N,oM,s,λO u=>q O ?_⟩
  ·rw[Q3];exact A
  ·simp only[Q6,Q2]at u⊢;exact u.imp id .inr
def yx{D:ak}(h:aU b a f D)(P:Row gl 1 b Z d c u)(X:d=none->c=0/\i=0)(x:∀n,Z n->n<b.heap.size/\¬f n):
  PP 178 #[ZL a,.string w,.slice d c i] b (Ok (vN b a f (D.append w u))):=by
 have K:=P.len;have Y:=P.fj;unfold aT at Y;refine sP (PA.mk λw1 y s1 L=>PA.mk λw2 k s2 g2=>⟨_,ae (k.get L id) rfl,PC.ok (vO ((h.af y).af k) (k:=w) (g:=238)
  (body:=λD M=>if(u.length:Int)>D.room then(12,D)else(0,D.fG w {M with bytes:=M.bytes++u})) kR λhd r a0 b5 e g z s=>?_) λa1 w' h=>mG a1 w' (y.af k) h⟩)
 have e1:=s.get (k.get L id) λP=>by have:=h.aE _ P;omega
 have N:=s.get g2 λP=>by have:=h.aE _ P;omega
 have a4:Row gl 1 r Z d c u:=((P.af y).af k).keep s λn P=>(x n P).2;have A:=g.get z;refine qs λw4 t=>⟨λ_=>False,id,d,c,i,ae (t.keep (S:=λ_=>False)|>.get N id) rfl,_,ae (t.keep (S:=λ_=>False)|>.get e1 id) rfl,PC.ok (OC (g.af t.keep).at) ?_⟩
 rintro _ w5 ⟨rfl,O⟩;have B:ai r w5:=(cy.keep t).then O;refine⟨_,rfl,O,al.dec (λa5=>Ok.mk ?_) (λa6=>λl a7=>?_)⟩
 ·rw[Zx (by rw[<-K];exact a5)]
  exact⟨f,rfl,(g.af B).at,B.keep,λ_ h=>.inl h⟩
 ·have m:ai r l:=B.af a7.keep
  have C:=g.af m;have Q:=cm z;have E:eH l e.q e.G e.f:=C.each.each _ Q;obtain⟨v,R,fc,F0,F,o,H,S⟩:=E.body;have b6:=o.len dC;have b7:e.f.bytes.length<=262144:=g.ok.len (cm A);have a8:∀n,e.G n->f n/\n≠a/\n≠a0:=C.II _ Q;refine⟨e.q,0,rfl,v,R,fc,ae F rfl,d,c,i,ae (m.get N id) rfl,?_⟩;have a2:∀n,Z n->n<l.heap.size/\aG v≠some n:=λn P=>⟨by have:=(x n P).1;have:=s.size;have:=m.size;omega,λj=>(x n P).2 (a8 n (H n (o.self n j))).1⟩
  have b8:D.cR.room<=262144:=by have:=g.ok.most;unfold ak.room;omega
  refine Aj o tS (a4.af m) X a2 ba (by unfold maxLen;omega) λp c' w7 F' I J _ T=>?_;have hq:aG v≠some e.q:=λj=>S (o.self _ j);have b9:=aA F;have q:aG p≠some e.q:=λj=>by rcases T _ j with h|h;exact S h;omega
  refine⟨_,_,_,rfl,e.q,0,rfl,PS.mk (J.get F hq) sM λU V s8 g8=>Ok.mk ?_⟩;have W:¬((u.length:Int)>D.cR.room):=by rw[<-K];exact a6
  rw[Zq W];have a9:∀n,aG v=some n->e.G n:=λn j=>H n (o.self n j);have b0:eH U e.q (λn=>n=e.q\/aG p=some n) {e.f with bytes:=e.f.bytes++u}:=
   ⟨⟨p,R+c,c',λn=>aG p=some n,g8,I.alone.keep V (λn P a3=>q (by rw[<-a3];exact P)),λn P=>.inr P,q⟩,.inl rfl,by
    rintro n (rfl|P)
    ·have:=J.size;omega
    ·have:=I.aE n (I.self n P);omega⟩
  have b1:cu e.G l (λn=>n=e.q\/aG p=some n) U:=⟨(J.mono λn _ P=>a9 n P).then (V.mono λn _ P=>P▸E.self),by
   rintro n (rfl|P)
   ·exact .inl E.self
   ·exact(T n P).imp (λh=>H n h) id⟩
  have b2:(D.cR.fG w {e.f with bytes:=e.f.bytes++u}).Ok:=g.ok.set A (by
   unfold ak.room at W;simp only[QX];omega) (by have:=g.ok.SU _ (cm A);simp only[QX];show e.f.synced<=_;have h':e.f.synced<=e.f.bytes.length:=this;omega)
  obtain⟨F2,b3,b4⟩:=C.fk z b0 b1 b2;exact⟨F2,rfl,b3.at,(cu.mk m.keep λ_ h=>.inl h:cu f r f l).trans b4⟩
def xJ{D:ak}(g:aU b a f D):
  PP 162 #[ZL a,.string w] b (Ok λl m=>∃i,l= .tuple #[i,ZH (D.read w).2]/\qC gl 5 b (D.read w).1 i m):=by
 obtain⟨j,C,P⟩:=g.open;have n:qC gl 5 b [] (.slice none 0 0) b:=⟨none,0,0,λ_=>False,rfl,aV.nil b,aj.refl _,λ_ g=>g.elim⟩
 rcases P.box w with⟨e,h⟩|⟨d,E,o,e,h⟩
 ·refine mD ⟨a,0,rfl,some j,ae P.head rfl,Al mF kS P.map ?_⟩
  rw[h];refine⟨_,rfl,a,0,rfl,_,ae P.head rfl,al.mk (λc=>Ok.mk ?_) (λc=>gW uF ⟨_,rfl,al.tt rfl (Ok.mk ?_)⟩)⟩
  ·unfold ak.read;rw[c,Zx rfl];exact⟨_,rfl,n⟩
  ·unfold ak.read;rw[c,Zq sM,e];exact⟨_,rfl,n⟩
 ·refine mD ⟨a,0,rfl,some j,ae P.head rfl,Al mF kS P.map ?_⟩
  rw[h];refine⟨_,rfl,a,0,rfl,_,ae P.head rfl,al.mk (λc=>Ok.mk ?_) (λc=>gW uF ⟨_,rfl,al.ff rfl ?_⟩)⟩
  ·unfold ak.read;rw[c,Zx rfl];exact⟨_,rfl,n⟩
  ·have p:eH b d.q d.G d.f:=P.each.each _ o
   obtain⟨q,r,s,F,t,k,H,I⟩:=p.body;have J:d.f.bytes.length<=262144:=P.ok.len (cm e);refine⟨d.q,0,rfl,q,r,s,ae t rfl,PC.ok (lJ (k.row dC ba) k.aE) ?_⟩;rintro _ K ⟨u,v,x,y,rfl,z,A,B⟩;unfold ak.read;rw[c,Zq sM,e];exact⟨_,_,_,rfl,Ok.mk ⟨_,rfl,u,v,x,y,rfl,z,A,B⟩⟩
def xK{D:ak}(j:aU b a f D):
  PP 160 #[ZL a] b (Ok (qC Oz 9 b D.list)):=by
 obtain⟨g,h,n⟩:=j.open;have z:=n.ok.many;have A:h.length=D.files.length:=by rw[n.files];simp
 refine vy ⟨a,0,rfl,some g,ae n.head rfl,PC.ok (φ:=λk d=>k= .func (.func 282) #[] #[ZL b.heap.size]/\ai b d/\d.heap.size=b.heap.size+1/\
  d.heap[b.heap.size]? =some (.cells #[.map (some g)] 141 (0,0))) (dU (PA.mk λl P i e=>Ok.mk ⟨rfl,P,i,e⟩)) ?_⟩
 rintro _ l ⟨rfl,P,i,e⟩;refine⟨_,rfl,PC.ok (zU (n.map.af P) (λB m=>?_) (by rw[Q8];unfold aT;omega) e) ?_⟩
 ·obtain⟨c,o,rfl⟩:=Xk.1 m
  have:=n.ok.names (vM c) (by rw[n.files];exact Xk.2 ⟨c,o,rfl⟩);unfold cY at this;simp only[QK,Zk]at this;have C:c.1.size<=16:=this.1.2;show c.1.size<=maxLen;unfold maxLen;omega
 ·rintro _ E ⟨p,q,r,s,rfl,t,u,v⟩
  refine⟨_,_,_,rfl,Ok.mk ⟨p,q,r,s,rfl,?_,P.af u,λw x=>by have:=v w x;omega⟩⟩;have y:tq ((h.map eD).map (·.1))=D.list:=by unfold ak.list;rw[n.files,List.map_map,List.map_map];rfl
  rw[<-y];exact t
def IL{n:List (ByteArray×j)}(P:Tidy n)(a:ByteArray):bL n a=n.filter λb=>b.1 !=a:=by
 induction n with
 |nil=>rfl
 |cons f n e=>
  obtain⟨b,k⟩:=f;unfold Tidy at P e;simp only[QY,List.nodup_cons]at P;unfold bL
  by_cases c:(a==b)=true
  ·rw[Zx c]
   have g:a=b:=eq_of_beq c;subst g;rw[List.filter_cons_of_neg sM];exact(List.filter_eq_self.2 λh i=>by
    simp only[bne_iff_ne,ne_eq];intro d;exact P.1 (d▸Xk.2 ⟨h,i,rfl⟩)).symm
  ·rw[Zq c,e P.2,List.filter_cons_of_pos]
   simp only[bne_iff_ne,ne_eq];intro d;exact c (by rw[d];simp)
def stays(left:List (ByteArray×oq))(n:ByteArray×oq):Bool:=n.2.f.jM||left.any λP=>P.1==n.1
def zV(J:bQ b a Value.string (a3.map eD))(l:Eu b a3)(K:∀n∈a3,∀c,n.2.G c->c≠a):
  PP 137 #[.map (some a),.func (.func 138) #[] #[]] b
   (Ok λo h=>o= .tuple #[]/\bQ h a Value.string ((a3.filter λn=>n.2.f.jM).map eD)/\aj (·=a) b h):=by
 have L:enters ZP 138=true:=kR
 refine di (mapRange mF J λw1 M N s1=>?_);refine⟨λu h=>∃left:List (ByteArray×oq),cT h b.heap.size a Value.string ((a3.filter (stays left)).map eD) (left.map eD)/\u=left.length/\aj (·=a) b h/\(∀n∈left,n∈a3)/\Tidy left,
  ⟨_,a3,?_,rfl,N.keep,λ_ O=>O,l.tidy⟩,?_⟩
 ·have i:a3.filter (stays a3)=a3:=List.filter_eq_self.2 λn m=>by
   unfold stays;rw[Bool.or_eq_true];exact .inr (List.any_eq_true.2 ⟨n,m,sM⟩)
  rw[i];exact M
 ·rintro u a0 w2 ⟨left,p,rfl,v,w,j⟩
  refine ot p (λk=>.inl ⟨rfl,Ok.mk ⟨rfl,?_,v⟩⟩) λd o l1 l2 r Q x R S s3=>.inr ⟨_,_,rfl,rr R ?_⟩
  ·have:left=[]:=by simpa using k
   subst this;have i:(a3.filter (stays []))=a3.filter λn=>n.2.f.jM:=List.filter_congr λn _=>by simp[stays]
   rw[i]at p;exact p.map
  ·obtain⟨e,n,c,rfl,rfl,rfl,rfl⟩:=xI Q
   have m:(d,n)∈a3:=w _ sM;have a6:b.heap.size≠a:=p.ne;have s:aj (·=a) b r:=v.new S λc y=>.inr oM;have T:eH r n.q n.G n.f:=(l.each _ m).keep s λc y=>K _ m c y;obtain⟨fa,fn,fc,F0,q,z,h3,h4⟩:=T.body;have A:d∉(e++c).map (·.1):=by
    unfold Tidy at j;rw[Q3,QY]at j;rw[Q3];intro U;have V:=(List.perm_middle (a:=d) (l₁:=e.map (·.1)) (l₂:=c.map (·.1))).nodup_iff.1 j;exact(List.nodup_cons.1 V).1 U
   have B:∀P∈a3,P.1≠d->stays (e++(d,n)::c) P=stays (e++c) P:=λP f g=>by
    unfold stays
    congr 1
    have:(d==P.1)=false:=beq_false_of_ne (Ne.symm g);simp[List.any_append,this]
   have C:∀P∈a3,P.1=d->P=(d,n):=λP f k=>by
    have q:=rp l.tidy (k:=P.1) (v:=P.2) f;have z:=rp l.tidy (k:=d) (v:=n) m;rw[k,z]at q;exact Prod.ext k (XJ q).symm
   have W:(e++c).any (λP=>P.1==d)=false:=by
    rw[List.any_eq_false];intro P f k;exact A (Xk.2 ⟨P,f,eq_of_beq k⟩)
   have E:Tidy (e++c):=by
    unfold Tidy at j⊢;rw[Q3,QY]at j;rw[Q3];exact(List.nodup_cons.1 ((List.perm_middle (a:=d) (l₁:=e.map (·.1)) (l₂:=c.map (·.1))).nodup_iff.1 j)).2
   have F:∀P∈e++c,P∈a3:=λP f=>w P (by simp only[Q6,Q2]at f⊢;exact f.imp id .inr);have H:(e++c).length<(e++(d,n)::c).length:=sM
   refine⟨_,_,rfl,_,_,_,rfl,L,PC.ok (φ:=λo h=>o= .bool (!n.f.jM)/\h=r) (qW ⟨n.q,0,rfl,_,ae q rfl,Ok.mk ⟨rfl,rfl⟩⟩) ?_⟩;rintro _ _ ⟨rfl,rfl⟩;refine⟨_,rfl,al.not (al.mk (λt=>⟨_,H,e++c,?_,rfl,s,F,E⟩) (λt=>?_))⟩
   ·have i:a3.filter (stays (e++(d,n)::c))=a3.filter (stays (e++c)):=List.filter_congr λP f=>by
     by_cases g:P.1=d
     ·rw[C P f g];simp[stays,t]
     ·exact B P f g
    rw[Q3,<-i];exact x
   ·refine Rp mF kS x (by rw[<-Q3];simpa[eD,Function.comp_def]using A) λw4 I X s4=>⟨_,H,e++c,?_,rfl,s.then X,F,E⟩
    have i:bL ((a3.filter (stays (e++(d,n)::c))).map eD) d=(a3.filter (stays (e++c))).map eD:=by
     have Y:bL ((a3.filter (stays (e++(d,n)::c))).map eD) d=(bL (a3.filter (stays (e++(d,n)::c))) d).map eD:=(BI (λn:oq=>ptr n.q) _ d).symm;have Z:Tidy (a3.filter (stays (e++(d,n)::c))):=List.Nodup.sublist (List.Sublist.map _ List.filter_sublist) l.tidy;rw[Y,IL Z,List.filter_filter]
     congr 1
     refine List.filter_congr λP f=>?_
     by_cases g:P.1=d
     ·rw[C P f g]
      simp only[stays,t,W,Bool.or_false,bne_self_eq_false,Bool.false_and]
     ·rw[B P f g]
      have:(P.1 !=d)=true:=by simpa using g
      rw[this,Bool.true_and]
    rw[i,<-Q3]at I;exact I
end Go.Proofs.YtjgjkeponbeekaaGreatDoor
namespace Go.aw
open Go
def cF(n:List UInt8):ByteArray:=⟨n.toArray⟩
def oA(n:List UInt8):(cF n).data.toList=n:=by simp[cF]
def Wc(n:ByteArray):cF n.data.toList=n:=by simp[cF]
variable{b0 u:List UInt8}{a:Nat}{X a1:Operand}{h:Program}{g:TypeId}{o t:ZR}{b:World}
def Np(n:cF u=cF b0):u=b0:=by rw[<-oA u,n,oA]
def jh(n:List UInt8):(cF n).size=n.length:=by simp[cF,ByteArray.size]
def gZ(n:ByteArray):Int×Bool:=match jA n.data.toList with
 |some P=>(P,true)
 |none=>(0,false)
def YQ{a n:List UInt8}(c:a.length+n.length<=1000000000)(P:o (.string (cF (a++n))) b):
  aJ h (do eqGuard .add g X a1 (.string (cF a)) (.string (cF n));binOp .add g (.string (cF a)) (.string (cF n))) b o t:=by
 refine aJ.mk (v:=.string (cF a++cF n)) (w':=b) ?_ ?_
 ·rw[Sem.run_bind,show(eqGuard .add g X a1 (.string (cF a)) (.string (cF n))).run h b= .ok () b from rfl,Result.andThen_ok,binOp_string_add,run_string_add_sum b (cF a) (cF n) (by rw[jh,jh];omega)]
 have:cF a++cF n=cF (a++n):=by
  apply ByteArray.ext;simp[cF]
 rw[this];exact P
def ai.Uq{n:Array Obj}:ai b (Sort.grow (b.drewN a) n):=
 ⟨rfl,rfl,rfl,sM,λc P _=>by rw[Sort.heap_grow_old _ _ (by simpa using P)];rfl⟩
end Go.aw
namespace Go.Proofs.YtjgjkeponbeekaaGreatDoor
section
open Go.aw
structure Laid (w:World):Prop where
 qf:qP w
 pow:Lib.TabIs ZP w "internal/strconv.uint64pow10" .u64 Lib.pow10Tab
variable{w:ByteArray}{e:Int}{b0 u:List UInt8}{b k:World}
def Laid.af(n:Laid b)(P:ai b k):Laid k:=⟨n.qf.af P,Lib.tabBelow_of_tabIs n.pow k P.below⟩
def strconv_Itoa{n:Int}{P:World}(c:Laid P)(a:aM n):PP 213 #[ZH n] P (Ok λd b=>d= .string (cF (Lib.itoa n))/\ai P b):=by
 refine(Any.strconv_Itoa Tryz.Su n a.1 a.2 P c.pow).mono ?_;rintro e b ⟨rfl,f,g,rfl⟩;exact Ok.mk ⟨rfl,ai.Uq⟩
def kh(P:Laid b)(a:aM e):PP 146 #[ZH e] b (Ok λc d=>c= .string (cF (ax e))/\ai b d):=by
 refine Bl (al.dec (λn=>?_) (λg=>al.dec (λn=>?_) (λh=>PC.ok (strconv_Itoa P a) ?_)))
 ·exact Ok.mk ⟨by unfold ax;rw[Zx (.inl n)];rfl,aj.refl _⟩
 ·exact Ok.mk ⟨by unfold ax;rw[Zx (.inr n)];rfl,aj.refl _⟩
 rintro _ i ⟨rfl,f⟩;refine⟨_,rfl,YQ (a:=dG) ?_ ⟨_,rfl,Ok.mk ⟨?_,f⟩⟩⟩
 ·have:=pM (u:=e.toNat) oM
  unfold Lib.itoa;rw[Zq oM];show 4+_<=_;omega
 ·rw[mN oM oM]
  unfold Lib.itoa;rw[Zq oM]
def CE:PP 324 #[.string (cF u),.string (cF b0)] b (Ok λa c=>a= .bool (decide (u.take b0.length=b0))/\b=c):=by
 refine iJ ?_;rw[jh,jh];refine al.dec (λn=>⟨oM,oM,Ok.mk ⟨?_,rfl⟩⟩) (λn=>Ok.mk ⟨?_,rfl⟩)
 ·rw[Qx]
  have P:ByteArray.toList (ByteArray.extract (cF u) 0 b0.length)=u.take b0.length:=by
   rw[ByteArray.toList_eq,ByteArray.data_extract];simp[cF]
  have d:ByteArray.toList (cF b0)=b0:=by rw[ByteArray.toList_eq,oA]
  rw[P,d]
  congr 1
  by_cases n:u.take b0.length=b0<;>simp[n]
 ·have:u.take b0.length≠b0:=λP=>by have:=Zj List.length P;simp at this;omega
  rw[Xv this]
def DU:PP 224 #[.string (cF u),.string (cF b0)] b (Ok λP a=>P= .tuple (if u.take b0.length=b0 then #[.string (cF (u.drop b0.length)),.bool true]else #[.string (cF u),.bool false])/\b=a):=by
 refine sU (PC.ok (φ:=λP a=>P= .tuple (if u.take b0.length=b0 then #[.string (cF (u.drop b0.length)),.bool true]else #[.string (cF u),.bool false])/\b=a) (iH (PC.ok CE ?_)) ?_)
 ·rintro _ _ ⟨rfl,rfl⟩
  refine⟨_,rfl,?_⟩;rw[jh,jh]
  by_cases n:u.take b0.length=b0
  ·rw[Zx n,Zy n]
   have e:b0.length<=u.length:=by have:=Zj List.length n;simp at this;omega
   refine al.ff rfl ⟨oM,oM,Ok.mk ⟨?_,rfl⟩⟩;have c:ByteArray.extract (cF u) (Int.toNat ((b0.length:Nat):Int)) u.length=cF (u.drop b0.length):=by
    apply ByteArray.ext;rw[Qx,ByteArray.data_extract];have d:List.take (u.length-b0.length) (List.drop b0.length u)=List.drop b0.length u:=Qz sM;simp[cF,d]
   rw[c]
  ·rw[Zq n,Xv n]
   exact al.tt rfl (Ok.mk ⟨rfl,rfl⟩)
 ·rintro _ _ ⟨rfl,rfl⟩
  split
  ·exact⟨_,_,rfl,Ok.mk ⟨rfl,rfl⟩⟩
  ·exact⟨_,_,rfl,Ok.mk ⟨rfl,rfl⟩⟩
def Be(y:Laid b):PP 161 #[.string w] b (Ok λk d=>k= .tuple #[ZH (gZ w).1,.bool (gZ w).2]/\ai b d):=by
 rw[<-Wc w];generalize w.data.toList=e;have c:(⟨#[115,101,103,46]⟩:ByteArray)=cF dG:=rfl;unfold gZ;rw[oA];refine xt ?_;rw[c];refine PC.ok DU ?_;rintro _ _ ⟨rfl,rfl⟩;have no:∀d,jA e=none->ai b d->Ok (λk d=>k= .tuple #[ZH (match jA e with|some l=>((l:Int),true)|none=>(0,false)).1,.bool (match jA e with|some l=>((l:Int),true)|none=>(0,false)).2]/\ai b d) (.returned (.tuple #[ZH 0,.bool false])) d:=λd p z=>by
  rw[p];exact Ok.mk ⟨rfl,z⟩
 by_cases f:e.take dG.length=dG
 ·rw[Zx f]
  refine⟨_,_,rfl,al.ff rfl ?_⟩;have q:e=dG++e.drop 4:=by
   have:=ZX 4 e;rw[show e.take 4=dG from f]at this;exact this.symm
  change al (decide (((ByteArray.size (cF (e.drop 4)):Nat):Int)>12)) _ _
  generalize S:e.drop 4=P at q;subst q;rw[jh];refine al.dec (λp=>no _ (Ms (by rw[QX];show 16<4+_;omega)) (aj.refl _)) (λT=>?_);refine BU Tryz.underlying9 λU A B V=>⟨λr s d=>∃n,r=P.length-n/\n<=P.length/\s=(fh (P.take n):Int)/\d.heap[b.heap.size]? =some (.stringIter (cF P) n)/\ai b d/\(P.take n).all gS=true,⟨_,0,rfl,Qj _,rfl,A,B,rfl⟩,?_⟩
  rintro r s W X ⟨n,rfl,Y,rfl,C,g,h⟩;have E:=xZ _ h;refine GK C (λF=>.inl ⟨rfl,?_⟩) λc t u i Z=>.inr ⟨_,_,rfl,?_⟩
  ·rw[jh]at F
   rw[Qz oM]at h E⊢;have a0:10 ^ P.length<=10 ^ 12:=Nat.pow_le_pow_right oM oM;have H:(10:Nat) ^ 12=1000000000000:=dC
   refine PC.ok (kh (y.af g) bc) ?_;rintro _ t ⟨rfl,i⟩;have v:=Hm h oM;refine⟨_,rfl,al.Y_ (λI=>no _ ?_ (g.then i)) (λJ=>?_)⟩
   ·rw[v,Zq λK=>I (by rw[K])]
   ·rw[v,Zx (Np J)]
    exact Ok.mk ⟨rfl,g.then i⟩
  ·have m:n<P.length:=by rwa [jh]at c
   have j:ai b t:=g.new i λa1 x=>.inr oM;have o:P[n]? =some ((cF P)[n]'c):=by
    rw[Qq m]
    congr 1
   have a:gS ((cF P)[n]'c)=false->jA (dG++P)=none:=λL=>JR (List.all_eq_false.2 ⟨_,QZ o,by simp[L]⟩)
   by_cases x:((cF P)[n]'c).toNat<128
   ·rw[decode_ascii _ n c x]at u⊢
    simp only;refine al.dec (λM=>no _ (a ?_) j) (λN=>al.dec (λO=>no _ (a ?_) j) (λQ=>?_))
    ·unfold gS;exact Xv oM
    ·unfold gS;exact Xv oM
    ·have a2:10 ^(P.take n).length<=10 ^ 12:=Nat.pow_le_pow_right oM be
     have H:(10:Nat) ^ 12=1000000000000:=dC
     refine⟨_,oM,n+1,rfl,oM,?_,u,j,?_⟩
     ·rw[Qw,o]
      show _=((fh (P.take n++[_]):Nat):Int);rw[gg];have R:ZG .i32 ((((cF P)[n]'c).toNat:Int)-48)=(((cF P)[n]'c).toNat:Int)-48:=by
       unfold ZG;simp[IntKind.signed,IntKind.bits];omega
      rw[R,wrap_i64 (x:=(((cF P)[n]'c).toNat:Int)-48) bc,wrap_i64 (x:=10*_) bc,wrap_i64 bc];omega
     ·rw[Qw,o,List.all_append,h]
      simp[gS];omega
   ·have hh:=(decode_high _ n c oM).1
    refine al.dec (λM=>oM) (λN=>al.dec (λO=>no _ (a ?_) j) (λQ=>oM));unfold gS;exact Xv oM
 ·rw[Zq f]
  exact⟨_,_,rfl,al.tt rfl (no _ (Py f) (aj.refl _))⟩
end
section
open Go.aw
def Ve:kQ ZP 42 3 1 8:=⟨kR,kR,dC⟩
def fV(P:List Int)(n:Int):Int:=if n<0 then 0 else max (P.getD n.toNat 0) 0
variable{e q:Int}{b3 s:List Int}{a c i r:Nat}{d x:WP}{b:World}{l:ah}
def Uz(P:0<=e)(n:s[e.toNat]? =some q):fV s e=max q 0:=by
 unfold fV;rw[Zq oM];simp[List.getD,n]
def SH(n:(s.length:Int)<=e):fV s e=0:=by
 unfold fV;split
 ·rfl
 ·have:s[e.toNat]? =none:=by simp;omega
  simp[List.getD,this]
def oP{i:Int}(f:Ints b d a s):
  PP 196 #[.slice d a c,ZH i] b (Ok λg h=>g= ZH (fV s i)/\b=h):=by
 refine Oo ?_;refine al.mk (λP=>?_) (λP=>al.mk (λn=>?_) (λn=>?_))
 ·have:=XV P
  exact Ok.mk ⟨by simp[fV,this],rfl⟩
 ·have n:=XV n
  exact Ok.mk ⟨by rw[SH (by rw[<-f.len];exact n)],rfl⟩
 ·have P:=Xy P
  have n:=Xy n;obtain⟨j,e,k,rfl,o,l,p,m⟩:=f.at (i:=i) oM oM;refine⟨j,e,rfl,oM,oM,k,m,Ok.mk ⟨?_,rfl⟩⟩;rw[Uz oM l]
  congr 1
  omega
def qO(P a:List Int)(b:Nat):List Int:=(List.range b).map λ(n:Nat)=>max (fV P n) (fV a n)
def kW(n P:List Int):List Int:=qO n P (max n.length P.length)
def J_(P a:List Int)(n:Nat):qO P a (n+1)=qO P a n++[max (fV P n) (fV a n)]:=by simp[qO,List.range_succ]
def tm(P a:List Int)(n:Nat):(qO P a n).length=n:=by simp[qO]
def Hp(P:World)(e:TypeId)(f:List Int)(g:Value)(a:World):Prop:=
 ∃n b c,g= .slice n b c/\Own a e 1 n b c (ints f)/\ai P a/\∀d,aG n=some d->P.heap.size<=d
def UA:(if q>e then q else e)=max e q:=oM
def Bc(h:Ints b d a s)(n:Ints b x c b3):
  PP 192 #[.slice d a i,.slice x c r] b (Ok (Hp b 3 (kW s b3))):=by
 have u:=h.len;have v:=n.len;have w:=h.fj;have y:=n.fj;unfold aT at w y;refine Li ⟨λm j P o p q=>p=(P:Int)/\P<=max a c/\m=max a c-P/\Own q 3 1 j P o (ints (qO s b3 P))/\ai b q/\∀x,aG j=some x->b.heap.size<=x,
  ⟨_,rfl,oM,rfl,Own.nil _ _ _,aj.refl _,by simp[aG]⟩,?_⟩
 rintro m j P o p _ C ⟨rfl,E,rfl,t,e,k⟩;refine al.mk (λf=>?_) (λf=>?_)
 ·have f:=XV f
  refine PC.ok (oP (h.af e)) ?_;rintro _ _ ⟨rfl,rfl⟩;refine⟨_,rfl,PC.ok (oP (n.af e)) ?_⟩;rintro _ _ ⟨rfl,rfl⟩;refine⟨_,rfl,PA.mk λF l H z=>?_⟩;refine MG Ve (t.af l) z ba λI J K A B g=>?_;refine⟨_,_,_,rfl,_,?_,?_,oM,rfl,?_,(e.af l).new B ?_,?_⟩
  ·omega
  ·rw[wrap_i64 bc];simp
  ·rw[J_,<-UA];exact A
  ·intro x n;exact .inr (k x n.symm)
  ·intro x n
   rcases g with g|g
   ·exact k x (g▸n)
   ·rw[g]at n;cases n;have:=e.size;have:=l.size;omega
 ·have f:=Xy f
  have:P=max a c:=oM
  subst this;refine Ok.mk ⟨_,_,_,rfl,?_,e,k⟩;unfold kW;rw[<-u,<-v];exact t
def yV(n P:List Int):Nat->Int
 |0=>0
 |k+1=>if fV n k<fV P k then Ri .i64 (yV n P k) 1 else if fV n k>fV P k then Ri .i64 (yV n P k) 2 else yV n P k
def mU(n P:List Int):Int:=yV n P (max n.length P.length)
def NB(g:Ints b d a s)(h:Ints b x c b3):
  PP 193 #[.slice d a i,.slice x c r] b (Ok λp j=>p= ZH (mU s b3)/\b=j):=by
 have q:=g.len;have t:=h.len;have u:=g.fj;have v:=h.fj;unfold aT at u v;refine On ⟨λl m o j=>∃n:Nat,o=n/\n<=max a c/\l=max a c-n/\m=yV s b3 n/\j=b,
  ⟨_,0,rfl,oM,rfl,rfl,rfl⟩,?_⟩
 rintro l m o _ w ⟨n,rfl,y,rfl,rfl,rfl⟩;refine al.mk (λf=>?_) (λf=>?_)
 ·have f:=XV f
  refine PC.ok (oP g) ?_;rintro _ _ ⟨rfl,rfl⟩;refine⟨_,rfl,PC.ok (oP h) ?_⟩;rintro _ _ ⟨rfl,rfl⟩;have k:ZG .i64 ((n:Int)+1)=((n+1:Nat):Int):=by rw[wrap_i64 bc];simp
  refine⟨_,rfl,al.mk (λP=>?_) (λP=>al.mk (λe=>?_) (λe=>?_))⟩
  ·have P:=XV P
   exact⟨_,oM,n+1,k,oM,rfl,by simp[yV,P],rfl⟩
  ·have P:=Xy P
   have e:=XV e;exact⟨_,oM,n+1,k,oM,rfl,by simp[yV,P,e],rfl⟩
  ·have P:=Xy P
   have e:=Xy e;exact⟨_,oM,n+1,k,oM,rfl,by simp[yV,P,e],rfl⟩
 ·have f:=Xy f
  have:n=max a c:=oM
  subst this;exact Ok.mk ⟨by unfold mU;rw[<-q,<-t],rfl⟩
structure kV where
 bM:Int
 mR:Int
 lZ:Int
 least:Int
 deriving DecidableEq
structure bu where
 kind:Int
 dW:Int
 floor:Bool
 bG:List kV
 deriving DecidableEq
structure jV where
 aZ:Int
 field:Int
 group:Int
 FE:Int
 make:Int
 deriving DecidableEq
structure aS where
 types:List (List bu)
 projs:List jV
 deriving DecidableEq
structure lb where
 aZ:Int
 agg:Int
 field:Int
 op:Int
 arg:Int
 expect:Int
 key:Int
 deriving DecidableEq
structure cZ where
 n:Int
 set:List Int
 deriving DecidableEq
structure pG where
 version:Int
 cells:List cZ
 deriving DecidableEq
structure cX where
 ev:ah
 void:Bool
 FE:Int×Int
structure eg where
 group:Int
 value:Int
 count:Int
 deriving DecidableEq
abbrev qd(n:Int):Int:=ZG .i64 n
def within(n P a:Int):Bool:=decide (P<=n)&&decide (n<=a)
def aS.at(n:aS)(P:Int):List bu:=if within P 0 (n.types.length-1)then n.types.getD P.toNat []else []
def aS.DP(n:aS)(P a:Int):Option bu:=
 if within P 0 (n.types.length-1)&&within a 0 ((n.at P).length-1)then(n.at P)[a.toNat]? else none
def rF(n:Int):Int:=if n=1 then 1 else if n=2 then 2 else if n=3 then 3 else if n=4 then 3 else if n=5 then 4 else 0
def lV(P:aS)(a b op arg:Int):Int:=match P.DP a b with
 |none=>8
 |some n=>if !within op 1 5||rF op !=n.kind then 2 else if op==1&&arg==0||op==5&& !within arg 0 (n.bG.length-1)then 1 else 0
def rZ(n:aS):Bool:=
 if !within n.types.length 1 8||decide (8<n.projs.length)then true else
 n.types.any λa=>!within a.length 1 8||a.any λP=>if P.kind==4 then !within P.bG.length 1 16 else decide (0<P.bG.length)
def SR(P:List bu)(a n:Int):Bool:=within a 0 (P.length-1)&&((P[a.toNat]?).map (·.kind)==some n)
def Se(n P:Int):Bool:=P==1||P==2&&within n 2 4||P==3&&n==2
def fJ(n:List bu)(f:bu):Int:=
 if !within f.kind 1 4 then 2 else if !within f.dW 1 3|| !Se f.kind f.dW||f.floor&&f.kind !=1 then 1 else
 if f.bG.any λm=>decide (m.bM<0)||decide (m.mR<0)||m.lZ== -1&&m.least !=0 then 1 else
 if f.bG.any λm=>m.lZ != -1&& !SR n m.lZ 1 then 8 else 0
def mP(P:aS)(n:jV):Int:=
 if(P.DP n.aZ n.field).isNone then 8 else
 if n.group==3&& !SR (P.at n.aZ) n.FE 2||n.group !=3&&n.FE !=0 then 8 else
 if !within n.group 1 3|| !within n.make 1 5 then 2 else 0
def cK{P:Type}(n:P->Int):List P->Int
 |[]=>0
 |x::a=>if n x !=0 then n x else cK n a
def dj(n:aS):Int:=
 if rZ n then 3 else
 let P:=cK (λa=>cK (fJ a) a) n.types
 if P !=0 then P else cK (mP n) n.projs
def bd(n:ah):Int×Int:=(n.origin,n.seq)
def eR(a n:ah):Bool:=decide (a.aB<n.aB)||a.aB==n.aB&&(decide (a.origin<n.origin)||a.origin==n.origin&&decide (a.seq<n.seq))
def th(n P:ah):Int:=if eR n P then-1 else if eR P n then 1 else 0
def dh(n:ah)(P:Nat):Int:=
 if n.origin<0\/(P:Int)<=n.origin\/min n.seq n.aB<1\/min n.agg n.key<0\/n.aN.length≠P\/n.aN.any (λa=>decide (a<0))then 1 else
 if n.aN.getD n.origin.toNat 0≠qd (n.seq-1)then 9 else
 if n.op<1\/5<n.op then 2 else if min n.aZ n.field<0\/8<=n.aZ\/8<=n.field then 8 else 0
def Bz(n P:ah):Bool:=decide (n.seq<=fV P.aN n.origin)
def vJ(n P:ah):Bool:=bd n !=bd P&& !Bz n P&& !Bz P n
structure au where
 n:Nat
 l:List ah
def dI(n:ah):List ah->List ah
 |[]=>[n]
 |x::P=>if eR n x then n::x::P else x::dI n P
def au.Ee(n:au)(P:Nat):Nat:=n.l.countP λa=>a.origin==(P:Int)
def au.vec(n:au):List Int:=(List.range n.n).map λP=>(n.Ee P:Int)
def au.get(n:au)(id:Int×Int):Option ah:=n.l.find? λP=>bd P==id
def au.top(n:au):Int:=n.l.foldl (λP a=>max P a.aB) 0
def au.mS(d:au)(n:ah)(a:Nat):Bool:=
 let b:=n.aN.getD a 0
 b==0||match d.get (a,b)with
  |none=>false
  |some P=>decide (P.aB<n.aB)&&(List.range P.aN.length).all λc=>decide (P.aN.getD c 0<=n.aN.getD c 0)
def au.add(n:au)(P:ah):Int×au:=
 let no:=dh P n.n
 if no≠0 then(no,n)else
 if(n.get (bd P)).isSome then(16,n)else
 if P.seq≠(n.vec.getD P.origin.toNat 0)+1 then(9,n)else
 if(List.range n.n).any λa=>!n.mS P a then(9,n)else(0,{n with l:=dI P n.l})
def au.eB(n:au)(l:List ah):au:=l.foldl (λn P=>(n.add P).2) n
def au.missing(a:au)(b:List Int)(n:Int):List ah:=(a.l.filter λP=>decide (max 0 (fV b P.origin)<P.seq)).take (max 0 n).toNat
def au.keyed(n:au)(key:Int):Option ah:=n.l.find? λP=>key !=0&&P.key==key
def dX(n:List bu):List cZ:=n.map λ_=>⟨0,[]⟩
def MJ(n P:Int):Bool:=decide (n<qd (n+P))==decide (0<P)
def wV(e:List bu)(c:List cZ)(n b arg:Int):Int:=
 let d:=e.getD n.toNat ⟨0,0,false,[]⟩
 let P:=c.getD n.toNat ⟨0,[]⟩
 let f:Bool:=
  if b=1 then(arg==0||MJ P.n arg)&& !(d.floor&&decide (qd (P.n+arg)<0))
  else if b=3 then decide (arg∈P.set)||decide (P.set.length<64)
  else if b=5 then(let a:=d.bG.getD arg.toNat ⟨0,0,0,0⟩;P.n==a.bM&&(decide (a.lZ<0)||decide (a.least<=(c.getD a.lZ.toNat ⟨0,[]⟩).n)))
  else true
 if f then 0 else 10
def qE(n:Int):List Int->List Int
 |[]=>[n]
 |y::P=>if n<y then n::y::P else if n=y then y::P else y::qE n P
def Te(c:List bu)(a:List cZ)(n b arg:Int):List cZ:=
 let d:=c.getD n.toNat ⟨0,0,false,[]⟩
 let P:=a.getD n.toNat ⟨0,[]⟩
 if b=1 then a.set n.toNat {P with n:=qd (P.n+arg)}
 else if b=2 then a.set n.toNat {P with n:=arg}
 else if b=3 then a.set n.toNat {P with set:=qE arg P.set}
 else if b=4 then a.set n.toNat {P with set:=P.set.filter λe=>e !=arg}
 else if b=5 then a.set n.toNat {P with n:=(d.bG.getD arg.toNat ⟨0,0,0,0⟩).mR}
 else a
def eX(P:bu)(a n:Int×Int):Bool:=
 if P.kind=2 then a.1==2&&n.1==2&&a !=n
 else if P.kind=4 then a.1==5&&n.1==5&&a !=n
 else if P.kind=3 then a==(3,n.2)&&n==(4,a.2)||a==(4,n.2)&&n==(3,a.2)
 else false
def nj(f:bu)(n P:ah):Bool:=(f.dW==2||f.dW==3&&decide (P.arg<n.arg))&&eX f (n.op,n.arg) (P.op,P.arg)&&vJ n P
structure bf where
 decl:aS
 entries:List cX
 eQ:List ((Int×Int)×pG)
 done:List ((Int×Int×Int)×List ah)
def bf.new(n:aS):bf:=⟨n,[],[],[]⟩
def bf.try(P:bf)(n:ah):Bool×(Int×Int)×bf:=
 if lV P.decl n.aZ n.field n.op n.arg≠0 then(true,(0,0),P)else
 let c:=P.decl.at n.aZ
 let b:=(n.aZ,n.agg,n.field)
 match((aq P.done b).getD []).find? λe=>nj (c.getD n.field.toNat ⟨0,0,false,[]⟩) e n with
 |some e=>(true,bd e,P)
 |none=>
  let d:=aq P.eQ (n.aZ,n.agg)
  let a:=match d with
   |some d=>d.cells
   |none=>dX c
  if wV c a n.field n.op n.arg≠0 then(true,(0,0),P)else
  (false,(0,0),{P with
   eQ:=aI P.eQ (n.aZ,n.agg) ⟨qd ((d.getD ⟨0,[]⟩).version+1),Te c a n.field n.op n.arg⟩
   done:=aI P.done b ((aq P.done b).getD []++[n])})
def bf.add(b:bf)(P:ah):cX×bf:=
 let n:=b.try P
 let a:cX:=⟨P,n.1,n.2.1⟩
 (a,{n.2.2 with entries:=n.2.2.entries++[a]})
def bf.state(n:bf)(P a:Int):Option pG:=aq n.eQ (P,a)
def bO(n:aS)(P:List ah):bf:=P.foldl (λa b=>(a.add b).2) (bf.new n)
def lr(b:List cX)(c P d:Int)(n:Nat):List cX×Bool:=
 let own:=(b.filter λa=>a.ev.aZ==c&&a.ev.agg==P).drop (max d 0).toNat
 (own.take n,decide (n<own.length))
def oE(b:List eg)(n:Int)(P:Nat):List eg×Bool:=
 let a:=b.dropWhile λc=>decide (c.group<=n)
 (a.take P,decide (P<a.length))
def iR(P:aS)(n:lb):Int:=if n.agg<0\/n.key<0\/n.expect< -1 then 1 else lV P n.aZ n.field n.op n.arg
def aX(P:lb)(n:Int)(a:List Int)(b:Int):Int×ah:=
 let no:ah:=⟨0,0,0,[],0,0,0,0,0,0⟩
 if n<0\/(a.length:Int)<=n\/b<0 then(1,no)else
 if fV a n=9223372036854775807\/b=9223372036854775807 then(13,no)else
 (0,⟨n,fV a n+1,b+1,kW a [],P.aZ,P.agg,P.field,P.op,P.arg,P.key⟩)
def eW(d:aS)(b:au)(h:bf)(P start:Int)(n:lb):ah×Bool×Int:=
 let no:ah:=⟨0,0,0,[],0,0,0,0,0,0⟩
 let e:=iR d n
 if e≠0 then(no,false,e)else
 match b.keyed n.key with
 |some i=>(i,false,0)
 |none=>
  let f:=d.at n.aZ
  let g:=h.state n.aZ n.agg
  let a:=match g with
   |some j=>j.cells
   |none=>dX f
  if¬(n.expect= -1\/n.expect=(g.getD ⟨0,[]⟩).version)then(no,false,11)else
  if wV f a n.field n.op n.arg≠0 then(no,false,10)else
  let c:=aX n P b.vec (max b.top start)
  (c.2,decide (c.1=0),c.1)
structure dO where
 p:jV
 rows:List (Int×eg)
def mM(n:jV)(P:eg)(arg:Int):Int:=
 if n.make=1 then P.count else if n.make=2 then qd (P.value+arg)else
 if n.make=5\/P.count=1/\(n.make=3\/n.make=4)then arg else
 if n.make=3 then min P.value arg else if n.make=4 then max P.value arg else 0
def dO.add(n:dO)(e:cX)(b:Int):dO:=
 let a:=if n.p.group=1 then some e.ev.agg else if n.p.group=2 then some e.ev.arg else if n.p.group=3 then some b else none
 match a with
 |none=>n
 |some a=>
  if e.void||e.ev.aZ !=n.p.aZ||e.ev.field !=n.p.field then n else
  let P:=(aq n.rows a).getD ⟨0,0,0⟩
  let P:eg:=⟨a,P.value,qd (P.count+1)⟩
  {n with rows:=aI n.rows a ⟨a,mM n.p P e.ev.arg,P.count⟩}
def nu(n:eg):List eg->List eg
 |[]=>[n]
 |y::P=>if n.group<y.group then n::y::P else y::nu n P
def dO.list(n:dO):List eg:=(n.rows.map (·.2)).foldr nu []
structure kO where
 view:bf
 rows:List dO
def kO.new(n:aS):kO:=⟨bf.new n,n.projs.map λP=>⟨P,[]⟩⟩
def tg(n:Option pG)(P:jV):Int:=match n with
 |none=>0
 |some n=>((n.cells[P.FE.toNat]?).map (·.n)).getD 0
def kO.add(a:kO)(n:ah):kO:=
 let P:=a.view.add n
 let c:=P.2.state n.aZ n.agg
 ⟨P.2,a.rows.map λb=>b.add P.1 (tg c b.p)⟩
def eA(n:aS)(P:List ah):kO:=P.foldl kO.add (kO.new n)
def eS(n:Nat)(P:List ah)(a:ah):Bool×List ah:=
 if n<=P.length\/P.any (λb=>bd b==bd a)then(false,P)else(true,dI a P)
def dJ(n:au):List ah->Option (ah×au×List ah)
 |[]=>none
 |e::a=>if(n.add e).1=0 then some (e,(n.add e).2,a)else(dJ n a).map λP=>(P.1,P.2.1,e::P.2.2)
def dm:Nat->au->List ah->List ah->List ah×List ah
 |0,a,P,n=>(n,P)
 |k+1,a,P,n=>match dJ a P with
  |none=>(n,P)
  |some (b,c,d)=>dm k c d (n++[b])
def bF(P:au)(n:List ah):List ah×List ah:=
 let n:=n.filter λa=>(P.get (bd a)).isNone
 dm (n.length+1) P n []
structure bY where
 kind:Int
 bM:Int
 mR:Int
 vec:List Int
 events:List ah
def iA(n:bY)(P:Int):Int:=if 0<n.events.length then 8 else if(n.vec.length:Int)≠P then 1 else if n.vec.any (λa=>decide (a<0))then 1 else 0
def fe(P:bY)(a:Nat)(n:Int):Int:=if 0<P.vec.length then 8 else if P.events.length<1\/n<(P.events.length:Int)then 3 else cK (λb=>dh b a) P.events
def e_(m:bY)(a:Nat)(P:Int):Int:=
 let n:=!(decide (0<=m.bM)&&decide (m.bM<a))|| !(decide (0<=m.mR)&&decide (m.mR<a))||m.bM==m.mR
 if m.kind=3 then(if n then 1 else fe m a P)
 else if m.kind=1\/m.kind=2\/m.kind=4 then(if n then 1 else iA m a)
 else 2
def ll(n:au)(P a:Int):bY:=⟨1,P,a,n.vec,[]⟩
def z_(n:au)(P a:Int):bY:=⟨4,P,a,n.vec,[]⟩
def my(c:au)(n:Int)(P:bY)(a:Int):List bY:=
 if P.kind≠1/\P.kind≠2 then []else
 let d:=c.missing P.vec (max 1 (min a 32))
 let f:List bY:=if 0<d.length then [⟨3,n,P.bM,[],d⟩]else []
 let e:=mU P.vec c.vec
 let g:List bY:=if P.kind=1/\(e=2\/e=3)then [⟨2,n,P.bM,c.vec,[]⟩]else []
 let b:=f++g
 if b.isEmpty then [z_ c n P.bM]else b
def GD:(if q<e then q else e)=min e q:=oM
def TG{D:ZN}(i:Row aP 8 b D d a s):
  PP 184 #[.slice d a c,.func (.func 183) #[] #[]] b (Ok λg n=>g= .bool (s.any λP=>decide (P<0))/\b=n):=by
 have w:=i.len;have q:=i.fj;unfold aT at q;refine kf (PC.ok (φ:=λg n=>(∃f:Int,g= ZH f/\(0<=f↔(s.any λP=>decide (P<0))=true))/\b=n) (lG ⟨λl f n=>∃e:Nat,f=e/\e<=a/\l=a-e/\((s.take e).any λP=>decide (P<0))=false/\b=n,
  ⟨_,0,rfl,Qj _,rfl,sM,rfl⟩,?_⟩) ?_)
 ·rintro l f _ _ ⟨e,rfl,x,rfl,j,rfl⟩
  refine al.dec (λr=>?_) (λr=>?_)
  ·obtain⟨t,k,m,rfl,o,_,u⟩:=i.oF (i:=e) oM
   refine⟨t,k,rfl,oM,oM,_,u,183,_,_,rfl,kR,PC.ok (φ:=λg n=>g= .bool (decide (m<0))/\b=n) (zJ (Ok.mk ⟨rfl,rfl⟩)) ?_⟩;rintro _ _ ⟨rfl,rfl⟩;refine⟨_,rfl,al.dec (λp=>?_) (λp=>?_)⟩
   ·exact Ok.mk ⟨⟨_,rfl,λ_=>List.any_eq_true.2 ⟨m,QZ o,by simpa using p⟩,λ_=>oM⟩,rfl⟩
   ·refine⟨_,oM,e+1,an oM,oM,rfl,?_,rfl⟩
    rw[Qw,o,List.any_append,j];simp;omega
  ·rw[Qz oM]at j
   exact Ok.mk ⟨⟨_,rfl,λh=>oM,λh=>by rw[j]at h;cases h⟩,rfl⟩
 ·rintro _ _ ⟨⟨f,rfl,v⟩,rfl⟩
  exact⟨_,rfl,Ok.mk ⟨by cases h:(s.any λP=>decide (P<0))<;>simp[h]at v⊢<;>omega,rfl⟩⟩
def yy{D:ZN}(k:Row aP 8 b D d a l.aN)(I:i<4611686018427387904):
  PP 113 #[.agg (aH l d a c).toArray,ZH (i:Int)] b (Ok λh j=>h= ZH (dh l i)/\ai b j):=by
 have J:=k.len;have x:=k.fj;unfold aT at x;refine Dx (PA.mk λy m K f=>⟨_,ae f rfl,?_⟩);have e:(l.origin<0\/(i:Int)<=l.origin\/min l.seq l.aB<1\/min l.agg l.key<0\/l.aN.length≠i\/l.aN.any (λp=>decide (p<0))=true)->Ok (λh j=>h= ZH (dh l i)/\ai b j) (.returned (ZH 1)) y:=λn=>by
  refine Ok.mk ⟨?_,m⟩;unfold dh;rw[Zx n]
 refine al.dec (λn=>e (.inl n)) λL=>⟨_,ae f rfl,al.dec (λn=>e (.inr (.inl n))) λM=>⟨_,ae f rfl,_,ae f rfl,?_⟩⟩
 with_reducible (conv=>whnf)
 rw[GD];refine al.dec (λn=>e (.inr (.inr (.inl n)))) λN=>⟨_,ae f rfl,_,ae f rfl,?_⟩
 with_reducible (conv=>whnf)
 rw[GD];refine al.dec (λn=>e (.inr (.inr (.inr (.inl n))))) λO=>⟨_,_,_,ae f rfl,al.eO (λn=>e (.inr (.inr (.inr (.inr (.inl oM)))))) λQ=>⟨_,_,_,ae f rfl,PC.ok (TG (k.af m)) ?_⟩⟩
 rintro _ _ ⟨rfl,rfl⟩;refine⟨_,rfl,al.mk (λn=>e (.inr (.inr (.inr (.inr (.inr n)))))) λz=>⟨_,_,_,ae f rfl,_,ae f rfl,?_⟩⟩;obtain⟨A,q,B,rfl,C,R,E⟩:=(k.af m).oF (i:=l.origin.toNat) oM;have t:¬(l.origin<0\/(i:Int)<=l.origin\/min l.seq l.aB<1\/min l.agg l.key<0\/l.aN.length≠i\/l.aN.any (λp=>decide (p<0))=true):=by
  rw[z];simp only[Bool.false_eq_true,or_false,not_or];omega
 refine⟨A,q,rfl,oM,oM,_,E,_,ae f rfl,λu v=>?_⟩;have F:ai b u:=m.then v.keep;have g:=(cy.keep (S:=λ_=>False) v).get f id;have w:l.aN.getD l.origin.toNat 0=B:=by rw[QQ,C];rfl
 have P:∀r:Int,dh l i=r->Ok (λh j=>h= ZH (dh l i)/\ai b j) (.returned (ZH r)) u:=λr n=>Ok.mk ⟨by rw[n],F⟩;refine al.eO (λn=>P 9 (by unfold dh;rw[Zq t,w,Zx n])) λH=>⟨_,ae g rfl,?_⟩
 have s:dh l i=if l.op<1\/5<l.op then 2 else if min l.aZ l.field<0\/8<=l.aZ\/8<=l.field then 8 else 0:=by
  unfold dh;rw[Zq t,w,Zq (by simpa using H)]
 refine al.dec (λn=>P 2 (by rw[s,Zx (.inl n)])) λS=>⟨_,ae g rfl,al.dec (λn=>P 2 (by rw[s,Zx (.inr n)])) λT=>⟨_,ae g rfl,_,ae g rfl,?_⟩⟩
 with_reducible (conv=>whnf)
 rw[GD];have o:dh l i=if min l.aZ l.field<0\/8<=l.aZ\/8<=l.field then 8 else 0:=by rw[s,Zq oM]
 refine al.dec (λn=>P 8 (by rw[o,Zx (.inl n)])) λU=>⟨_,ae g rfl,al.dec (λn=>P 8 (by rw[o,Zx (.inr (.inl n))])) λV=>⟨_,ae g rfl,al.dec (λn=>P 8 (by rw[o,Zx (.inr (.inr n))])) λW=>P 0 (by rw[o,Zq oM])⟩⟩
end
end Go.Proofs.YtjgjkeponbeekaaGreatDoor
namespace Go.aw
open Go
def XM(P n:Value):Bool:=match P with
 | .int a _=>match n with
  | .int b _=>decide (b=a)
  |_=>false
 | .bool _=>match n with
  | .bool _=>true
  |_=>false
 | .string _=>match n with
  | .string _=>true
  |_=>false
 | .slice _ _ _=>match n with
  | .slice _ _ _=>true
  |_=>false
 | .pointer _=>match n with
  | .pointer _=>true
  |_=>false
 | .map _=>match n with
  | .map _=>true
  |_=>false
 |_=>true
def Wg:List Value->List Value->Bool
 |[],[]=>true
 |z::n,P::a=>XM z P&&Wg n a
 |_,_=>false
def TU(z n:Value):Bool:=match z with
 | .agg P=>match n with
  | .agg cs=>Wg P.toList cs.toList
  |_=>false
 |z=>XM z n
variable{m:Array Value}{a c:Nat}{E:Nat×Nat}{h:Program}{g p:TypeId}{c8 v:Value}{M:Value->Prop}{b:World}{y:ZU}
def SE{φ:Value->Prop}(P:XM v c8=true)(n:φ c8):PU v φ:=by
 unfold PU
 cases v<;>cases c8<;>simp[XM]at P<;>first
  |exact⟨_,n⟩
  |exact⟨_,_,_,n⟩
  |(subst P;exact⟨_,n⟩)
def My:∀{P cs:List Value} {φ:List Value->Prop},Wg P cs=true->φ cs->RP P φ
 |[],[],φ,_,a=>a
 |[],_::_,φ,n,_=>by simp[Wg]at n
 |_::_,[],φ,n,_=>by simp[Wg]at n
 |z::P,b::d,φ,n,a=>by
  simp only[Wg,QK]at n;exact SE (φ:=λb=>RP P λc=>φ (b::c)) n.1 (My (φ:=λc=>φ (b::c)) n.2 a)
def cx(n:TU v c8=true)(P:M c8):uX v M:=by
 unfold uX;split
 ·rename_i c
  cases c8<;>simp[TU]at n
  rename_i cs;exact My (φ:=λa=>M (.agg a.toArray)) n (by simpa using P)
 ·rename_i b
  refine SE ?_ P
  cases v<;>first|exact n|exact Zz rfl (b _)
def yU{b:World}{c:Addr}{d:Prop}:∀{cs:List Value} {n:Nat},(∀P v,cs[P]? =some v->b.cell? (c.add (n+P))=some v)->d->i_ b c n cs d
 |[],n,_,a=>a
 |v::h,n,e,a=>⟨e 0 v rfl,yU (λP f g=>by have:=e (P+1) f (by simpa using g);rwa [show n+1+P=n+(P+1) by omega]) a⟩
def iL(n:Program)(P:TypeId)(cs:List Value):Bool:=uH n P&&(match ej n P with
 | .agg a=>Nat.beq (mK n P) a.size&&Wg a.toList cs
 |_=>false)&&Nat.beq cs.length (mK n P)&&cs.all Value.oneCell'
def Mz{cs:List Value}(e:iL h g cs=true)(i:∀P d,cs[P]? =some d->b.cell? ⟨a,c+P,none⟩=some d)(j:M (.agg cs.toArray)):
  jZ h g (.pointer (some ⟨a,c,none⟩)) b M:=by
 simp only[iL,QK]at e;obtain⟨⟨⟨k,n⟩,m⟩,o⟩:=e;unfold jZ;simp only[k]
 revert n
 cases ej h g<;>simp only[Bool.false_eq_true,false_implies]
 rename_i p;intro n;simp only[QK]at n;simp only[n.1];exact My (φ:=λf=>i_ b ⟨a,c,none⟩ 0 f (M (.agg f.toArray))) n.2 (yU (λP d l=>by rw[Xz,Addr.add_lit];exact i P d l) j)
def ar{cs:List Value}(n:iL h g cs=true)(P:b.heap[a]? =some (.cells cs.toArray p E))(c:M (.agg cs.toArray)):
  jZ h g (ZL a) b M:=Mz n (λe f d=>ae P (by rw[Xz];simpa using d)) c
def VV{cs:List Value}(d:iL h g cs=true)(e:b.heap[a]? =some (.cells m p E))(f:∀n P,cs[n]? =some P->m[c+n]? =some P)(i:M (.agg cs.toArray)):
  jZ h g (.pointer (some ⟨a,c,none⟩)) b M:=Mz d (λn P j=>ae e (f n P j)) i
def ck{P a k:Nat}{es:List Value}(d:iL h g es=true)(e:es.length=k)(f:∀n,n<k->b.cell? ⟨P,a+n,none⟩=es[n]?)(i:M (.agg es.toArray)):
  jZ h g (.pointer (some ⟨P,a,none⟩)) b M:=Mz d (λn j c=>by rw[f n (by rw[<-e];exact(Qv.1 c).1)];exact c) i
def FA{b d:Nat}{g:TypeId}{h:ZU}:∀(a:List Value) (P:Nat) {n:World} {cs:Array Value},n.heap[b]? =some (.cells cs g (0,0))->d+P+a.length<=cs.size->
  (∀c,aj (·=b) n c->c.heap.size=n.heap.size->c.heap[b]? =some (.cells (CP cs (d+P) a) g (0,0))->h c)->jO ⟨b,d,none⟩ P a n h
 |[],P,n,cs,e,i,f=>f n (aj.refl _) rfl e
 |v::a,P,n,cs,e,i,f=>by
  unfold jO;rw[Addr.add_lit];rw[Xq]at i;exact PS.mk e oM λr j k l=>FA a (P+1) l be λm o p q=>f m (j.then o) (p.trans k) q
def Wh{cs:List Value}(P:iL h g cs=true)(d:b.heap[a]? =some (.cells m p (0,0)))(o:c+cs.length<=m.size)(e:∀n,aj (·=a) b n->n.heap.size=b.heap.size->n.heap[a]? =some (.cells (CP m c cs) p (0,0))->y n):oG h g (.pointer (some ⟨a,c,none⟩)) (.agg cs.toArray) b y:=by
 simp only[iL,QK]at P;obtain⟨⟨⟨f,q⟩,i⟩,j⟩:=P;unfold oG;have k:Nat.beq cs.toArray.size (mK h g)=true:=by simpa using i
 have l:cs.toArray.toList.all Value.oneCell'=true:=by simpa using j
 simp only[f,k,l];exact FA cs 0 d oM e
def aC{cs:List Value}(P:iL h g cs=true)(c:b.heap[a]? =some (.cells m p (0,0)))(d:cs.length=m.size)(e:∀n,aj (·=a) b n->n.heap.size=b.heap.size->n.heap[a]? =some (.cells cs.toArray p (0,0))->y n):oG h g (ZL a) (.agg cs.toArray) b y:=
 Wh P c oM λn f i j=>e n f i (by rw[j,Fz d])
end Go.aw
namespace Go.Proofs
open Go.Shelf
def Tryz.PF:Go.Shelf.Ren:=⟨λ|6=>154|15=>218|14=>217|28=>276|29=>277|20=>268|21=>269|22=>270|23=>271|24=>272|25=>273|26=>274|27=>275|46=>316|47=>317|48=>318|49=>319|50=>320|57=>348|n=>n,λ|22=>59|24=>63|25=>260|3=>3|39=>324|0=>0|53=>365|55=>367|4=>4|46=>359|45=>358|50=>273|5=>5|9=>9|66=>400|70=>375|76=>426|77=>427|n=>n,λ|n=>n⟩
def Tryz.Vf:Go.Proofs.SlLaysF0.n6 Tryz.prog Tryz.PF:={
 mixed:=by kernel_rfl
 f6:=⟨Tryz.f154.name,am,Tryz.func154.trans ac⟩
 f14:=⟨Tryz.f217.name,am,Tryz.func217.trans ac⟩
 f15:=Tryz.func218.trans ac
 f20:=⟨Tryz.f268.name,am,Tryz.func268.trans ac⟩
 f21:=⟨Tryz.f269.name,am,Tryz.func269.trans ac⟩
 f22:=⟨Tryz.f270.name,am,Tryz.func270.trans ac⟩
 f23:=⟨Tryz.f271.name,am,Tryz.func271.trans ac⟩
 f24:=⟨Tryz.f272.name,am,Tryz.func272.trans ac⟩
 f25:=⟨Tryz.f273.name,am,Tryz.func273.trans ac⟩
 f26:=⟨Tryz.f274.name,am,Tryz.func274.trans ac⟩
 f27:=⟨Tryz.f275.name,am,Tryz.func275.trans ac⟩
 f28:=Tryz.func276.trans ac
 f29:=Tryz.func277.trans ac
 f46:=⟨Tryz.f316.name,am,Tryz.func316.trans ac⟩
 f47:=Tryz.func317.trans ac
 f48:=Tryz.func318.trans ac
 f49:=⟨Tryz.f319.name,am,Tryz.func319.trans ac⟩
 f50:=⟨Tryz.f320.name,am,Tryz.func320.trans ac⟩
 f57:=⟨Tryz.f348.name,am,Tryz.func348.trans ac⟩
 t0:=Tryz.underlying0
 a0:=Tryz.isAgg0
 z0:=Tryz.sizeOf0
 v0:=Tryz.zeroValue0
 t3:=Tryz.underlying3
 a3:=Tryz.isAgg3
 z3:=Tryz.sizeOf3
 v3:=Tryz.zeroValue3
 t4:=Tryz.underlying4
 a4:=Tryz.isAgg4
 z4:=Tryz.sizeOf4
 v4:=Tryz.zeroValue4
 t5:=Tryz.underlying5
 a5:=Tryz.isAgg5
 z5:=Tryz.sizeOf5
 v5:=Tryz.zeroValue5
 t9:=Tryz.underlying9
 a9:=Tryz.isAgg9
 z9:=Tryz.sizeOf9
 v9:=Tryz.zeroValue9
 t22:=Tryz.underlying59
 a22:=Tryz.isAgg59
 z22:=Tryz.sizeOf59
 v22:=Tryz.zeroValue59
 t25:=Tryz.underlying260
 a25:=Tryz.isAgg260
 z25:=Tryz.sizeOf260
 v25:=Tryz.zeroValue260
 t39:=Tryz.underlying324
 a39:=Tryz.isAgg324
 z39:=Tryz.sizeOf324
 v39:=Tryz.zeroValue324
 t45:=Tryz.underlying358
 a45:=Tryz.isAgg358
 z45:=Tryz.sizeOf358
 v45:=Tryz.zeroValue358
 t46:=Tryz.underlying359
 a46:=Tryz.isAgg359
 z46:=Tryz.sizeOf359
 v46:=Tryz.zeroValue359
 t50:=Tryz.underlying273
 a50:=Tryz.isAgg273
 z50:=Tryz.sizeOf273
 v50:=Tryz.zeroValue273
 t53:=Tryz.underlying365
 a53:=Tryz.isAgg365
 z53:=Tryz.sizeOf365
 v53:=Tryz.zeroValue365
 t55:=Tryz.underlying367
 a55:=Tryz.isAgg367
 z55:=Tryz.sizeOf367
 v55:=Tryz.zeroValue367
 t66:=Tryz.underlying400
 a66:=Tryz.isAgg400
 z66:=Tryz.sizeOf400
 v66:=Tryz.zeroValue400
 t70:=Tryz.underlying375
 a70:=Tryz.isAgg375
 z70:=Tryz.sizeOf375
 v70:=Tryz.zeroValue375
 t76:=Tryz.underlying426
 a76:=Tryz.isAgg426
 z76:=Tryz.sizeOf426
 v76:=Tryz.zeroValue426
 t77:=Tryz.underlying427
 a77:=Tryz.isAgg427
 z77:=Tryz.sizeOf427
 v77:=Tryz.zeroValue427}
def Tryz.PG:Go.Shelf.Ren:=⟨λ|6=>406|15=>218|14=>408|28=>276|29=>277|20=>409|21=>410|22=>411|23=>412|24=>413|25=>414|26=>415|27=>416|46=>417|47=>317|48=>318|49=>418|50=>419|57=>420|n=>n,λ|22=>51|24=>135|25=>466|3=>3|39=>324|0=>0|53=>365|55=>367|4=>4|46=>359|45=>358|50=>273|5=>5|9=>9|66=>400|70=>375|76=>426|77=>427|n=>n,λ|n=>n⟩
def Tryz.Vg:Go.Proofs.SlLaysF0.n6 Tryz.prog Tryz.PG:={
 mixed:=by kernel_rfl
 f6:=⟨Tryz.f406.name,am,Tryz.func406.trans ac⟩
 f14:=⟨Tryz.f408.name,am,Tryz.func408.trans ac⟩
 f15:=Tryz.func218.trans ac
 f20:=⟨Tryz.f409.name,am,Tryz.func409.trans ac⟩
 f21:=⟨Tryz.f410.name,am,Tryz.func410.trans ac⟩
 f22:=⟨Tryz.f411.name,am,Tryz.func411.trans ac⟩
 f23:=⟨Tryz.f412.name,am,Tryz.func412.trans ac⟩
 f24:=⟨Tryz.f413.name,am,Tryz.func413.trans ac⟩
 f25:=⟨Tryz.f414.name,am,Tryz.func414.trans ac⟩
 f26:=⟨Tryz.f415.name,am,Tryz.func415.trans ac⟩
 f27:=⟨Tryz.f416.name,am,Tryz.func416.trans ac⟩
 f28:=Tryz.func276.trans ac
 f29:=Tryz.func277.trans ac
 f46:=⟨Tryz.f417.name,am,Tryz.func417.trans ac⟩
 f47:=Tryz.func317.trans ac
 f48:=Tryz.func318.trans ac
 f49:=⟨Tryz.f418.name,am,Tryz.func418.trans ac⟩
 f50:=⟨Tryz.f419.name,am,Tryz.func419.trans ac⟩
 f57:=⟨Tryz.f420.name,am,Tryz.func420.trans ac⟩
 t0:=Tryz.underlying0
 a0:=Tryz.isAgg0
 z0:=Tryz.sizeOf0
 v0:=Tryz.zeroValue0
 t3:=Tryz.underlying3
 a3:=Tryz.isAgg3
 z3:=Tryz.sizeOf3
 v3:=Tryz.zeroValue3
 t4:=Tryz.underlying4
 a4:=Tryz.isAgg4
 z4:=Tryz.sizeOf4
 v4:=Tryz.zeroValue4
 t5:=Tryz.underlying5
 a5:=Tryz.isAgg5
 z5:=Tryz.sizeOf5
 v5:=Tryz.zeroValue5
 t9:=Tryz.underlying9
 a9:=Tryz.isAgg9
 z9:=Tryz.sizeOf9
 v9:=Tryz.zeroValue9
 t22:=Tryz.underlying51
 a22:=Tryz.isAgg51
 z22:=Tryz.sizeOf51
 v22:=Tryz.zeroValue51
 t25:=Tryz.underlying466
 a25:=Tryz.isAgg466
 z25:=Tryz.sizeOf466
 v25:=Tryz.zeroValue466
 t39:=Tryz.underlying324
 a39:=Tryz.isAgg324
 z39:=Tryz.sizeOf324
 v39:=Tryz.zeroValue324
 t45:=Tryz.underlying358
 a45:=Tryz.isAgg358
 z45:=Tryz.sizeOf358
 v45:=Tryz.zeroValue358
 t46:=Tryz.underlying359
 a46:=Tryz.isAgg359
 z46:=Tryz.sizeOf359
 v46:=Tryz.zeroValue359
 t50:=Tryz.underlying273
 a50:=Tryz.isAgg273
 z50:=Tryz.sizeOf273
 v50:=Tryz.zeroValue273
 t53:=Tryz.underlying365
 a53:=Tryz.isAgg365
 z53:=Tryz.sizeOf365
 v53:=Tryz.zeroValue365
 t55:=Tryz.underlying367
 a55:=Tryz.isAgg367
 z55:=Tryz.sizeOf367
 v55:=Tryz.zeroValue367
 t66:=Tryz.underlying400
 a66:=Tryz.isAgg400
 z66:=Tryz.sizeOf400
 v66:=Tryz.zeroValue400
 t70:=Tryz.underlying375
 a70:=Tryz.isAgg375
 z70:=Tryz.sizeOf375
 v70:=Tryz.zeroValue375
 t76:=Tryz.underlying426
 a76:=Tryz.isAgg426
 z76:=Tryz.sizeOf426
 v76:=Tryz.zeroValue426
 t77:=Tryz.underlying427
 a77:=Tryz.isAgg427
 z77:=Tryz.sizeOf427
 v77:=Tryz.zeroValue427}
def Tryz.Mx:Go.Shelf.Ren:=⟨λ|5=>279|7=>321|n=>n,λ|23=>267|25=>3|3=>135|4=>4|20=>20|n=>n,λ|n=>n⟩
def Tryz.VW:Go.Proofs.SlLaysW.n5 Tryz.prog Tryz.Mx:={
 mixed:=by kernel_rfl
 f5:=⟨Tryz.f279.name,am,Tryz.func279.trans ac⟩
 f7:=Tryz.func321.trans ac
 t4:=Tryz.underlying4
 a4:=Tryz.isAgg4
 z4:=Tryz.sizeOf4
 v4:=Tryz.zeroValue4
 t20:=Tryz.underlying20
 a20:=Tryz.isAgg20
 z20:=Tryz.sizeOf20
 v20:=Tryz.zeroValue20
 t23:=Tryz.underlying267
 a23:=Tryz.isAgg267
 z23:=Tryz.sizeOf267
 v23:=Tryz.zeroValue267}
end Go.Proofs
namespace Go.Proofs.YtjgjkeponbeekaaGreatDoor
open Go.aw Go.Sort
def bg(n:ah)(P:WP)(a b:Nat):iL ZP 63 (aH n P a b)=true:=kR
def sF(n:ah)(P:WP)(a b:Nat):TU (ej ZP 63) (.agg (aH n P a b).toArray)=true:=kR
def G(n P:World):Prop:=∃a b,P=grow (n.drewN a) b
variable{R e q:Int}{d4:Int×Int}{g9:List ((Int×Int)×ah)}{H f5:List ah}{a c i r:Nat}{f:ZN}{c9:Obj}{d x:WP}{g:TypeId}{a7 b k:World}{y:ZU}{N l:ah}{B:au}
def G.then(d:G b k)(e:G k a7):G b a7:=by
 obtain⟨n,P,rfl⟩:=d;obtain⟨a,c,rfl⟩:=e;exact⟨n+a,P++c,by show grow (grow ((b.drewN n).drewN a) P) c=_;rw[grow_grow,World.drewN_drewN]⟩
def G.keep{S:ZN}(n:G b k):aj S b k:=by
 obtain⟨d,P,rfl⟩:=n;refine⟨rfl,rfl,rfl,by simp[grow],λa c _=>?_⟩;show(b.heap++P)[a]? =_;rw[Array.getElem?_append_left c]
def G.drew(n:cy b k):G b k:=by obtain⟨P,rfl⟩:=n;exact⟨P,#[],sM⟩
def PA.Xr(P:∀n,G b n->n.heap.size=b.heap.size+1->n.heap[b.heap.size]? =some c9->y n):PA b c9 y:=
 P (b.alloc c9) ⟨0,#[c9],by rw[alloc_eq_grow];rfl⟩ sM (heap_alloc_new b c9)
def isNaN:PP 278 #[ZH e] b (Ok λn P=>n= .bool false/\b=P):=zN (Ok.mk ⟨sM,rfl⟩)
def JY(n P:Int):Int:=if n<P then-1 else if P<n then 1 else 0
def iv:PP 220 #[ZH e,ZH q] b (Ok λa c=>a= ZH (JY e q)/\b=c):=by
 refine vA (PC.ok isNaN ?_);rintro _ _ ⟨rfl,rfl⟩;refine⟨_,rfl,PC.ok isNaN ?_⟩;rintro _ _ ⟨rfl,rfl⟩;refine⟨_,rfl,al.ff rfl (al.ff rfl (al.dec (λn=>Ok.mk ⟨by unfold JY;rw[Zx n],rfl⟩) (λn=>al.dec (λP=>Ok.mk ⟨by unfold JY;rw[Zq n,Zx P],rfl⟩) (λP=>Ok.mk ⟨by unfold JY;rw[Zq n,Zq P],rfl⟩))))⟩
def NC:List Int->Int
 |[]=>0
 |x::n=>if x≠0 then x else NC n
def Qh(r:b.heap[a]? =some (.cells #[ZH e,ZH q,ZH R] g (0,0))):
  PP 219 #[.slice (ZM a) 3 3] b (Ok λh d=>h= ZH (NC [e,q,R])/\b=d):=by
 refine Gv ⟨λk c d=>∃n:Nat,c=n/\n<=3/\k=3-n/\NC [e,q,R]=NC ([e,q,R].drop n)/\b=d,⟨_,0,rfl,oM,rfl,rfl,rfl⟩,?_⟩;rintro k c _ _ ⟨n,rfl,w,rfl,i,rfl⟩;refine al.dec (λs=>?_) (λs=>?_)
 ·have t:∀f:Int,[e,q,R][n]? =some f->∃l m,(ZM a:WP)=some ⟨l,m,none⟩/\(0:Int)<=n/\(n:Int)<((3:Nat):Int)/\∃j:Int,b.cell? ⟨l,m+Int.toNat n,none⟩=some (ZH j)/\al (j !=0) (Ok (λh d=>h= ZH (NC [e,q,R])/\b=d) (.returned (ZH j)) b) (∃o,o<3-n/\∃c:Nat,ZG .i64 ((n:Int)+1)=c/\c<=3/\o=3-c/\NC [e,q,R]=NC ([e,q,R].drop c)/\b=b):=by
   intro f P;have p:[e,q,R].drop n=f::[e,q,R].drop (n+1):=by
    rw[X4 be];congr 1;simpa using(Qv.1 P).2
   refine⟨a,0,rfl,oM,oM,f,ae r ?_,al.eO (λu=>Ok.mk ⟨?_,rfl⟩) (λv=>⟨_,oM,n+1,an oM,oM,rfl,?_,rfl⟩)⟩
   ·rw[Xz]
    match n,P with
    |0,P=>simp at P;simp[P]
    |1,P=>simp at P;simp[P]
    |2,P=>simp at P;simp[P]
    |n+3,P=>simp at P
   ·rw[i,p,NC,Zx u]
   ·rw[i,p,NC,Zq (by simpa using v)]
  have P:n<[e,q,R].length:=by simp;omega
  exact t [e,q,R][n] (by simp[P])
 ·obtain rfl:n=3:=oM
  exact Ok.mk ⟨by rw[i];rfl,rfl⟩
def HL(n P:ah):NC [JY n.aB P.aB,JY n.origin P.origin,JY n.seq P.seq]=th n P:=by
 unfold th eR JY NC NC NC NC
 by_cases d:n.aB<P.aB
 ·simp[d]
 by_cases g:P.aB<n.aB
 ·simp[d,g];omega
 have a:n.aB=P.aB:=oM
 by_cases e:n.origin<P.origin
 ·simp[a,e]
 by_cases h:P.origin<n.origin
 ·simp[a,e,h];omega
 have b:n.origin=P.origin:=oM
 by_cases c:n.seq<P.seq
 ·simp[a,b,c]
 by_cases f:P.seq<n.seq
 ·simp[a,b,c,f]
 ·simp[a,b,c,f]
def CM:PP 155 #[.agg (aH l d a c).toArray,.agg (aH N x i r).toArray] b (Ok λh j=>h= ZH (th l N)/\G b j):=by
 refine xr (PA.Xr λs k t m=>PA.Xr λu f v o=>λw p=>⟨λ_=>False,?_⟩);have n:=G.drew p;have P:=(n.keep (S:=λ_=>False)).get ((f.keep (S:=λ_=>False)).get m id) id;have e:=(n.keep (S:=λ_=>False)).get o id;refine⟨_,ae P rfl,_,ae e rfl,id,_,ae P rfl,id,_,ae e rfl,id,_,ae P rfl,id,_,ae e rfl,PC.ok iv ?_⟩;rintro _ _ ⟨rfl,rfl⟩;refine⟨_,rfl,aj.refl _,PC.ok iv ?_⟩;rintro _ _ ⟨rfl,rfl⟩;refine⟨_,rfl,aj.refl _,PC.ok iv ?_⟩;rintro _ _ ⟨rfl,rfl⟩;refine⟨_,rfl,aj.refl _,PA.Xr λy g z q=>⟨g.keep,PC.ok (Qh q) ?_⟩⟩;rintro _ _ ⟨rfl,rfl⟩;exact⟨_,rfl,aj.refl _,Ok.mk ⟨by rw[HL],((k.then f).then n).then g⟩⟩
structure SC where
 e:ah
 a:WP
 n:Nat
 c:Nat
instance:Inhabited SC:=⟨⟨⟨0,0,0,[],0,0,0,0,0,0⟩,none,0,0⟩⟩
def encS(n:SC):List Value:=aH n.e n.a n.n n.c
def SD(P:SC):∀a∈encS P,a.oneCell'=true:=by
 intro b n;simp only[encS,aH,Q2,List.not_mem_nil,or_false]at n;rcases n with rfl|rfl|rfl|rfl|rfl|rfl|rfl|rfl|rfl|rfl<;>rfl
def As(n P:SC):ltOf (λn P:SC=>th n.e P.e) n P=eR n.e P.e:=by
 unfold ltOf th
 cases a:eR n.e P.e
 ·cases b:eR P.e n.e<;>simp[a,b]
 ·simp[a]
def jX:eR l N=true↔l.aB<N.aB\/l.aB=N.aB/\(l.origin<N.origin\/l.origin=N.origin/\l.seq<N.seq):=by simp[eR]
def uO:eR l N=false↔¬(l.aB<N.aB\/l.aB=N.aB/\(l.origin<N.origin\/l.origin=N.origin/\l.seq<N.seq)):=by rw[<-jX];simp
def Xs:SWO (ltOf λn P:SC=>th n.e P.e) where
 irrefl n:=by rw[As,uO];omega
 trans n P z h1 h2:=by rw[As,jX]at*;omega
 ntrans n P z h1 h2:=by rw[As,uO]at*;omega
def JZ{c:World}{D:ZN}:∀{a:List ah} {cs:List Value},bV ku c D a cs->∃P:List SC,P.map (·.e)=a/\cs=P.flatMap encS/\∀n∈P,Row aP 8 c D n.a n.n n.e.aN/\n.e.Ok
 |[],_,d=>⟨[],rfl,d,sM⟩
 |e::a,_,⟨r,s,f,⟨g,h,i,j,k,l⟩,m⟩=>by
  obtain⟨P,o,p,q⟩:=JZ m;refine⟨⟨e,g,h,i⟩::P,by simp[o],by rw[f,j,p];rfl,?_⟩;intro n b;rcases Q2.1 b with rfl|b
  ·exact⟨k,l⟩
  ·exact q n b
def yR{a:World}{D:ZN}:∀{n:List SC},(∀x∈n,Row aP 8 a D x.a x.n x.e.aN/\x.e.Ok)->bV ku a D (n.map (·.e)) (n.flatMap encS)
 |[],_=>rfl
 |x::n,P=>⟨encS x,n.flatMap encS,rfl,⟨x.a,x.n,x.c,rfl,(P x (QV ..)).1,(P x (QV ..)).2⟩,yR λb c=>P b (QJ _ c)⟩
def sh{n:List SC}(P:a<n.length*10):(n.flatMap encS)[a]? =(encS n[a/10]!)[a % 10]? :=by
 induction n generalizing a with
 |nil=>simp at P
 |cons d n e=>
  have f:(encS d).length=10:=rfl;rw[List.flatMap_cons]
  by_cases b:a<10
  ·rw[XW oM,Nat.div_eq_of_lt b,Nat.mod_eq_of_lt b];rfl
  ·rw[X8 oM,f,e (by simp at P;omega)]
   obtain⟨c,rfl⟩:∃c,a=c+10:=⟨a-10,oM⟩
   rw[Nat.add_sub_cancel,Nat.add_div_right _ dC,Nat.add_mod_right];simp
def iD(n:List SC):(n.flatMap encS).length=n.length*10:=by
 induction n with
 |nil=>rfl
 |cons P n a=>rw[List.flatMap_cons,QX,a];have b:(encS P).length=10:=rfl;rw[b];simp;omega
def CN(n:List SC):(flatK encS 10 n.toArray).toList=n.flatMap encS:=by
 apply X3;intro P
 by_cases a:P<n.length*10
 ·rw[sh a]
  have d:P<(flatK encS 10 n.toArray).size:=by simpa using a
  have b:=get_flatK encS 10 n.toArray P (by simpa using a);rw[getElem!_pos _ P d]at b;have e:(encS n[P/10]!).length=10:=rfl;have c:P % 10<(encS n[P/10]!).length:=by rw[e];omega
  rw[Qq (by simpa using a),Qq c]
  congr 1
  rw[Array.getElem_toList,b];rw[getElem!_pos _ _ (by simpa using c)]
  congr 1
  simp
 ·rw[Q7 (by simpa using a),Q7 (by rw[iD];omega)]
def CL(n:List ah):Prop:=n.Pairwise λP a=>eR a P=false
def JV(l:aV ku 63 f b d a c H)(t:H.length<=20000000):
  PP 154 #[.slice d a c,.func (.func 155) #[] #[]] b (Ok λM u=>M= .tuple #[]/\∃A,A.Perm H/\CL A/\aV ku 63 f u d a c A/\aj (λm=>aG d=some m) b u):=by
 obtain⟨cs,D,B,Z,N⟩:=l.body;obtain⟨P,C,rfl,a4⟩:=JZ Z;have E:=l.len dC;have v:P.length=a:=by rw[E,<-C];simp
 rcases B.cases with⟨rfl,rfl,rfl,h0⟩|⟨g,i,rfl,w,O,F,Q⟩
 ·have hd:P=[]:=QW v
  refine(AnyF.slices_SortFunc_none Tryz.Vf none 0 _ b).mono ?_;rintro p u ⟨rfl,rfl⟩;exact Ok.mk ⟨rfl,H,List.Perm.refl _,by rw[<-C,hd];exact List.Pairwise.nil,l,aj.refl _⟩
 ·have R:ku.k=10:=rfl
  rw[R]at Q F;have a5:flatK encS 10 P.toArray=(P.flatMap encS).toArray:=by rw[<-CN]
  have hH:HoldsK encS 10 b g 0 P.toArray:=by
   intro j q;rw[size_flatK]at q;simp only[List.size_toArray]at q;have S:j<(P.flatMap encS).length:=by rw[iD];exact q
   refine⟨?_,by simp[World.frozen?,w]⟩;have k:(flatK encS 10 P.toArray)[j]! =(P.flatMap encS)[j]:=by
    rw[a5,getElem!_pos _ j (by simpa using S)];simp
   rw[k,Xz];refine ae w ?_;have h:(i.toList.take (a*10))[j]? =some (P.flatMap encS)[j]:=by rw[Q];exact Qq S
   rw[Xw,Zx oM]at h;simpa using h
  have t:=B.row;have I:c<=maxLen:=by
   obtain⟨_,a0,_,T,_,_,_,I,_⟩:=B.row.2.resolve_left (by rintro⟨l,_⟩;cases l);simp only[XX]at T;rw[T.2.2];exact I
  have a6:P.toArray.size<4611686018427387904:=by
   simp only[List.size_toArray,v];omega
  have U:=AnyQ.slices_SortFunc Tryz.Vf 10 (λb=>dE _ _ _ kR ⟨_,Tryz.underlying63⟩ b) (λb=>Tryz.sizeOf63 b) encS (λ_=>rfl) SD (λx V=>th x.e V.e) Xs 155 #[] g 0 c P.toArray b
   (enters_of Tryz.func155 kR rfl) (λb0 r dk b1 x V=>(CM).mono ?_) hH (aA w) a6
  ·rw[show P.toArray.size=a by simpa using v]at U
   refine U.mono ?_;rintro p u ⟨rfl,e,y,r,hp,hs,rfl⟩;obtain⟨p1,p2,W⟩:=hp;have n:e.size=a:=p1.trans (by simpa using v);have X:e.toList.Perm P:=by
    have k:e.extract 0 a=e:=by rw[<-n];exact Array.extract_size
    have h:P.toArray.extract 0 a=P.toArray:=by rw[show a=P.toArray.size by simpa using v.symm];exact Array.extract_size
    rw[k,h]at W;exact W
   have a1:flatK encS 10 e=(e.toList.flatMap encS).toArray:=by rw[<-CN]
   have J:(sortWorldK encS 10 b g 0 y e r).heap[g]? =some (.cells (putCells id 0 (flatK encS 10 e) i) 63 (0,0)):=by
    have a7:=aA w;show((Sort.ahead b y).heap.modify g _++r)[g]? =_;rw[Array.getElem?_append_left (by simpa[Sort.ahead]using a7),Array.getElem?_modify,Zx rfl];show Option.map _ b.heap[g]? =_;rw[w];rfl
   have z:aj (λm=>aG (ZM g)=some m) b (sortWorldK encS 10 b g 0 y e r):=by
    refine⟨rfl,rfl,rfl,?_,λa2 z E=>?_⟩
    ·show b.heap.size<=((Sort.ahead b y).heap.modify g _++r).size
     simp[Sort.ahead]
    ·show((Sort.ahead b y).heap.modify g _++r)[a2]? =_
     rw[Array.getElem?_append_left (by simpa[Sort.ahead]using z),Array.getElem?_modify,Zq (λp=>E (by rw[p];rfl))]
     rfl
   have a3:(putCells id 0 (flatK encS 10 e) i).size=c*10:=by unfold putCells;rw[Array.size_mapIdx];exact F
   refine Ok.mk ⟨rfl,e.toList.map (·.e),by rw[<-C];exact X.map _,?_,⟨⟨e.toList.flatMap encS,D,⟨⟨?_,.inr ⟨g,c,_,rfl,Qj _,J,O,I,a3,?_⟩⟩⟩,yR λx hx=>?_,N⟩,l.self,λm t=>Qk (l.aE m t) z.size⟩,z⟩
   ·unfold CL
    rw[List.pairwise_map,List.pairwise_iff_getElem];intro Y j hi q a8;have k:=hs Y j (Qj _) a8 (by simpa[n]using q);rw[As,getElem!_pos _ j (by simpa using q),getElem!_pos _ Y (by simpa using hi)]at k;simpa using k
   ·rw[iD,XK,n];rfl
   ·apply X3
    intro s;rw[R,Xw];split
    ·rename_i o
     rw[sh (by rw[XK,n];exact o),<-sh (by rw[XK,n];exact o)];unfold putCells;have a9:s<i.size:=by rw[F];exact Qk o (Q0 _ O)
     rw[Array.getElem?_toList,Array.getElem?_mapIdx,X6 a9];simp only[Option.map_some];have K:s<(flatK encS 10 e).size:=by rw[size_flatK,n];exact o
     rw[Zx ⟨Qj _,by rw[Xz];exact K⟩,Nat.sub_zero,getElem!_pos _ s K];have:(flatK encS 10 e)[s]=(e.toList.flatMap encS)[s]'(by rw[iD,XK,n];exact o):=by
      have h:=Zj (·[s]?) a1;simp only[List.getElem?_toArray]at h;rw[X6 K,Qq (by rw[iD,XK,n];exact o)]at h;exact XJ h
     rw[this];exact(Qq _).symm
    ·rename_i o
     rw[Q7 (by rw[iD,XK,n];omega)]
   ·have L:x∈P:=X.mem_iff.1 hx
    obtain⟨k,h⟩:=a4 x L;exact⟨k.keep z λm t p=>(N m t).2 p,h⟩
  ·rintro p u ⟨M,rfl,rfl,hG⟩
   exact⟨rfl,hG⟩
open Go.aw
abbrev Vl(n:List ah):Prop:=n.Pairwise λP a=>eR P a=true
structure au.OK (S:au):Prop where
 n:S.n<=64
 Qi:Vl S.l
 ids:(S.l.map bd).Nodup
 XE:∀e∈S.l,dh e S.n=0
 ok:∀e∈S.l,e.Ok
def FP(P:bd l≠bd N):eR l N=true\/eR N l=true:=by
 rw[jX,jX];have:¬(l.origin=N.origin/\l.seq=N.seq):=λn=>P (by unfold bd;rw[n.1,n.2]);omega
def tR{n P a:ah}(b:eR n P=true)(c:eR P a=true):eR n a=true:=by rw[jX]at*;omega
def nJ(n:eR l N=true):eR N l=false:=by rw[jX]at n;rw[uO];omega
def cN(P:ah):∀n,(dI P n).Perm (P::n)
 |[]=>List.Perm.refl _
 |x::n=>by
  unfold dI;split
  ·exact List.Perm.refl _
  ·exact(List.Perm.cons x (cN P n)).trans (List.Perm.swap P x n)
def wU{c:ah}:∀{P},Vl P->(∀x∈P,bd x≠bd c)->Vl (dI c P)
 |[],_,_=>by unfold dI;exact List.pairwise_singleton ..
 |x::P,d,e=>by
  obtain⟨f,g⟩:=List.pairwise_cons.1 d;unfold dI;split
  ·rename_i b
   exact List.pairwise_cons.2 ⟨λa n=>by
    rcases Q2.1 n with rfl|n
    ·exact b
    ·exact tR b (f a n),d⟩
  ·rename_i b
   refine List.pairwise_cons.2 ⟨λa n=>?_,wU g λa n=>e a (QJ _ n)⟩;rcases Q2.1 ((cN c P).mem_iff.1 n)with rfl|n
   ·exact(FP (e x (QV ..))).resolve_right (by simpa using b)
   ·exact f a n
def Mw(f:CL H)(g:Vl f5)(b:H.Perm f5)(i:(H.map bd).Nodup):H=f5:=by
 refine b.eq_of_pairwise (le:=λP n=>eR n P=false) (λP n j k c d=>?_) f (g.imp λh=>nJ h)
 by_cases e:bd P=bd n
 ·have a:n∈H:=b.mem_iff.2 k
  obtain⟨o,l,rfl⟩:=List.getElem_of_mem j;obtain⟨p,m,rfl⟩:=List.getElem_of_mem a;have:=(List.getElem_inj (xs:=H.map bd) (h₀:=by simpa using l) (h₁:=by simpa using m) i).1 (by simpa using e);subst this;rfl
 ·rcases FP e with h|h
  ·rw[h]at d;cases d
  ·rw[h]at c;cases c
def Uw(P:(H.map bd).Nodup)(n:l∈H):H.find? (λa=>bd a==bd l)=some l:=by
 induction H with
 |nil=>cases n
 |cons a H b=>
  simp only[QY,List.nodup_cons]at P;rcases Q2.1 n with rfl|n
  ·simp
  ·have c:bd a≠bd l:=λd=>P.1 (d▸Xk.2 ⟨l,n,rfl⟩)
   rw[List.find?_cons_of_neg (by simpa using c)];exact b P.2 n
def au.get_some(n:B.get d4=some l):l∈B.l/\bd l=d4:=
 ⟨List.mem_of_find?_eq_some n,by simpa using List.find?_some n⟩
def au.get_none(P:B.get d4=none):∀n∈B.l,bd n≠d4:=λn a=>by
 have:=List.find?_eq_none.1 P n a;simpa using this
def au.OK.get(n:B.OK)(P:l∈B.l):B.get (bd l)=some l:=Uw n.ids P
def JU(g:B.OK)(c:∀n∈g9,n.1=bd n.2)(d:(g9.map (·.2)).Perm B.l)(k:Tidy g9)(P:Int×Int):aq g9 P=B.get P:=by
 cases a:aq g9 P with
 |none=>
  rw[jG]at a
  symm
  refine List.find?_eq_none.2 λb h=>?_;obtain⟨n,e,rfl⟩:=Xk.1 (d.mem_iff.2 h);intro i;exact a (Xk.2 ⟨n,e,by rw[c n e];simpa using i⟩)
 |some b=>
  have f:=cm a;have j:P=bd b:=c _ f;have:b∈B.l:=d.mem_iff.1 (Xk.2 ⟨_,f,rfl⟩);rw[j,g.get this]
def x_(P:List ah)(n:Int):P.foldl (λn a=>max n a.aB) n=max n (P.foldl (λn a=>max n a.aB) 0)\/n<0:=by
 induction P generalizing n with
 |nil=>simp;omega
 |cons b P c=>
  rw[List.foldl_cons,List.foldl_cons]
  by_cases e:n<0
  ·exact .inr e
  ·rcases c (max n b.aB)with h|h
   ·rcases c (max 0 b.aB)with d|d
    ·left;rw[h,d];omega
    ·omega
   ·omega
def au.Ut(n:au)(P:ah):au.top ⟨n.n,dI P n.l⟩=max n.top P.aB:=by
 show(dI P n.l).foldl _ _=_;rw[(cN P n.l).foldl_eq' (λa _ b _ c=>oM),List.foldl_cons];rcases x_ n.l (max 0 P.aB)with h|h
 ·rw[h]
  show max (max 0 P.aB) n.top=_;have:0<=n.top:=by
   rcases x_ n.l 0 with h|h
   ·unfold au.top;omega
   ·omega
  omega
 ·omega
def au.Ml(n:au):0<=n.top:=by
 rcases x_ n.l 0 with h|h
 ·unfold au.top;omega
 ·omega
def nP(n:dh l a=0):0<=l.origin/\l.origin<a/\1<=l.seq/\1<=l.aB/\0<=l.agg/\0<=l.key/\l.aN.length=a/\(∀P∈l.aN,0<=P)/\l.aN.getD l.origin.toNat 0=qd (l.seq-1)/\1<=l.op/\l.op<=5/\0<=l.aZ/\l.aZ<8/\0<=l.field/\l.field<8:=by
 unfold dh at n;split at n
 ·simp at n
 ·rename_i b
  split at n
  ·simp at n
  ·rename_i c
   split at n
   ·simp at n
   ·rename_i g
    split at n
    ·simp at n
    ·rename_i h
     simp only[not_or,List.any_eq_true,Zk,not_exists,not_and]at b;obtain⟨i,j,k,P,m,d⟩:=b;refine⟨oM,oM,oM,oM,oM,oM,oM,λe f=>by have:=d e f;omega,by simpa using c,oM,oM,oM,oM,oM,oM⟩
def au.FV(n:au)(P:ah)(a:Nat):au.Ee ⟨n.n,dI P n.l⟩ a=n.Ee a+if P.origin=(a:Int)then 1 else 0:=by
 unfold au.Ee;show(dI P n.l).countP _=_;rw[(cN P n.l).countP_eq,List.countP_cons]
 congr 1
 simp
def au.Sl(n:au)(P:Nat):n.Ee P<=n.l.length:=List.countP_le_length
def au.cj(n:au):n.vec.length=n.n:=by simp[au.vec]
def au.pJ(n:au)(P:a<n.n):n.vec[a]? =some (n.Ee a:Int):=by simp[au.vec,P]
def au.qK(S:au)(n:a<S.n):S.vec.getD a 0=(S.Ee a:Int):=by rw[QQ,S.pJ n];rfl
def au.Uu(n:au)(b:ah)(e:b.origin=(a:Int)):au.vec ⟨n.n,dI b n.l⟩=n.vec.set a (n.Ee a+1:Int):=by
 apply X3;intro c
 by_cases P:c<n.n
 ·rw[au.pJ ⟨n.n,dI b n.l⟩ P,au.FV,Xj,n.pJ P,n.cj]
  by_cases d:a=c
  ·subst d;simp[e,P]
  ·rw[Zq d,Zq oM];simp
 ·rw[Q7 (by rw[au.cj];exact Nat.le_of_not_lt P),Q7 (by rw[List.length_set,n.cj];omega)]
def au.add_def(n:au)(P:ah):n.add P=if dh P n.n≠0 then(dh P n.n,n)else if(n.get (bd P)).isSome then(16,n)else
 if P.seq≠(n.vec.getD P.origin.toNat 0)+1 then(9,n)else if(List.range n.n).any λa=>!n.mS P a then(9,n)else(0,⟨n.n,dI P n.l⟩):=rfl
def au.AB(n:B.OK)(f:l.Ok):(B.add l).2.OK/\(B.add l).2.n=B.n:=by
 rw[au.add_def]
 by_cases b:dh l B.n=0
 rotate_left
 ·rw[Zx b];exact⟨n,rfl⟩
 rw[Zq (by simpa using b)]
 by_cases c:(B.get (bd l)).isSome=true
 ·rw[Zx c];exact⟨n,rfl⟩
 rw[Zq c];split
 ·exact⟨n,rfl⟩
 split
 ·exact⟨n,rfl⟩
 have e:B.get (bd l)=none:=by simpa using c
 have d:=cN l B.l;refine⟨⟨n.n,wU n.Qi (au.get_none e),?_,?_,?_⟩,rfl⟩
 ·refine(d.map bd).nodup_iff.2 ?_
  rw[QY,List.nodup_cons];exact⟨λg=>by obtain⟨a,P,h⟩:=Xk.1 g;exact au.get_none e a P h,n.ids⟩
 ·intro a P
  rcases Q2.1 (d.mem_iff.1 P)with rfl|P
  ·exact b
  ·exact n.XE a P
 ·intro a P
  rcases Q2.1 (d.mem_iff.1 P)with rfl|P
  ·exact f
  ·exact n.ok a P
def au.tN(n:a<=64):au.OK ⟨a,[]⟩:=⟨n,List.Pairwise.nil,sM,sM,sM⟩
end Go.Proofs.YtjgjkeponbeekaaGreatDoor
namespace Go.aw
open Go
def iq(n:List Int):List UInt8:=bj ((n.length:Int)::n)
def bN(n:List Int):List UInt8:=cC 2 (iq n)
def kM(n:List UInt8):List Int×ig:=aW (bD 64 ⟨n,0,0⟩).1.toNat (bD 64 ⟨n,0,0⟩).2
def iS(n:List UInt8):Option (List Int):=
 if(br n).no≠0\/(br n).n≠n.length\/(br n).kind≠2 then none else if ij (kM (br n).body).2≠0 then none else some (kM (br n).body).1
def ET(n:List UInt8):(∀P∈(kM n).1,aM P)/\(kM n).1.length<=64/\(kM n).2.Fit:=by
 obtain⟨a,e,f,g⟩:=ig.Fit.count (r:=⟨n,0,0⟩) ⟨Qj _,.inl rfl⟩ (m:=64) oM;obtain⟨b,c,d,h⟩:=a.ints (bD 64 ⟨n,0,0⟩).1.toNat;exact⟨c,by show(aW _ _).1.length<=64;rw[d];omega,b⟩
variable{s:List Int}{u:List UInt8}
def Pc(n:iS u=some s):(∀P∈s,aM P)/\s.length<=64:=by
 unfold iS at n;split at n
 ·cases n
 split at n
 ·cases n
 ·cases n
  exact⟨(ET _).1,(ET _).2.1⟩
def xU(a:∀n∈s,aM n)(b:s.length<=64):(iq s).length<=585:=by
 have:=fW (l:=(s.length:Int)::s) (by
  intro n P;rcases Q2.1 P with rfl|P
  ·unfold aM;omega
  ·exact a n P)
 unfold iq;rw[Xq]at this;omega
def rW(n:List Int):(bN n).length=(iq n).length+9:=fg _ _
def oU(n:∀a∈s,aM a)(b:s.length<=64):iS (bN s)=some s:=by
 have j:=xU n b;have c:br (bN s)=⟨2,iq s,(iq s).length+9,0⟩:=by
  have:=EU (k:=2) (body:=iq s) (r:=[]) dC dC oM
  rwa [List.append_nil]at this
 have d:(ig.mk (iq s) 0 0).At (iq s) (dY (s.length:Int)++(bj (s++[])++[])):=⟨rfl,Qj _,rfl,by rw[List.drop_zero];simp[iq,lk]⟩
 obtain⟨e,f⟩:=d.count (m:=64) bc oM oM;obtain⟨g,h⟩:=ig.At.ints s f n;have P:kM (iq s)=aW s.length (bD 64 ⟨iq s,0,0⟩).2:=by unfold kM;rw[e,Qx]
 have i:ij (kM (iq s)).2=0:=by rw[P];exact ig.At.done (by simpa[bj]using h)
 unfold iS;rw[c,Zq (by simp[rW])];simp only;rw[Zq (by rw[i];simp),P,g]
end Go.aw
namespace Go.Proofs.YtjgjkeponbeekaaGreatDoor
open Go.aw
def Gz(n:Int)(P:bS):Int:=P.synced+max 0 (min n ((P.bytes.length:Int)-P.synced))
def te(n:Int)(P:bS):bS:=P.cut (Gz n P)
def ak.ep(D:ak)(n:Int):ak:={D with files:=(D.files.filter λP=>P.2.jM).map (λP=>(P.1,te n P.2)),jv:=false,dead:=false}
def ak.IM(D:ak)(n:List (ByteArray×bS)):ak:=⟨D.most,n,D.jv,D.left,D.dead⟩
def ak.iy(D:ak):ak:={D with files:=D.files.filter λn=>n.2.jM}
def DH(n:List (ByteArray×bS))(P:ByteArray×bS->Bool):eY (n.filter P)<=eY n:=by
 unfold eY
 induction n with
 |nil=>simp
 |cons a n b=>
  rw[List.filter_cons];split
  ·simp;omega
  ·simp;omega
variable{w:ByteArray}{R c1 e q:Int}{f6:List ByteArray}{s:List Int}{a c i:Nat}{Z f:ZN}{X a1:Operand}{d:WP}{j:Type}{b:World}
def rl{n:List (ByteArray×j)}(P:Tidy n)(a:ByteArray×j->Bool):Tidy (n.filter a):=List.Nodup.sublist (List.Sublist.map _ List.filter_sublist) P
def ak.Ok.iy{D:ak}(n:D.Ok):D.iy.Ok:=by
 have c:=DH D.files λP=>P.2.jM;have b:=n.fits;have d:=List.length_filter_le (λP:ByteArray×bS=>P.2.jM) D.files;have e:=n.many;unfold ak.used at b;exact⟨n.most,by show eY (D.files.filter _)<=D.most;omega,by show(D.files.filter _).length<=64;omega,rl n.tidy _,λP a=>n.names P (List.mem_filter.1 a).1,λP a=>n.SU P (List.mem_filter.1 a).1,n.BG,n.BH⟩
def Rq{P:List (ByteArray×j)}(b:Tidy P){k e:ByteArray×j->j}{u l:j}(f:(w,u)∈P)(g:∀a∈P,a.1≠w->e a=k a)(p:e (w,u)=l):
  aI (P.map λn=>(n.1,k n)) w l=P.map λn=>(n.1,e n):=by
 induction P with
 |nil=>cases f
 |cons q P m=>
  obtain⟨n,a⟩:=q;unfold Tidy at b m;simp only[QY,List.nodup_cons]at b;simp only[QY];unfold aI
  by_cases h:(w==n)=true
  ·have r:w=n:=eq_of_beq h
   subst r;have s:a=u:=by
    rcases Q2.1 f with h|h
    ·cases h;rfl
    ·exact Zz (Xk.2 ⟨_,h,rfl⟩) b.1
   subst s;rw[Zx h,p]
   congr 1
   refine List.map_congr_left λc d=>?_;rw[g c (QJ _ d) λi=>b.1 (Xk.2 ⟨c,d,i⟩)]
  ·have o:n≠w:=λi=>h (by rw[i];simp)
   rw[Zq h,g (n,a) (QV ..) o]
   congr 1
   refine m b.2 ?_ λc d=>g c (QJ _ d);rcases Q2.1 f with H|H
   ·cases H;exact Zz rfl o
   ·exact H
def tf(n:Int)(left:List (ByteArray×oq))(P:ByteArray×bS):bS:=if left.any (λa=>a.1==P.1)then P.2 else te n P.2
def LA{D:ak}(h:aU b a f D)(e5:aM e):
  PP 83 #[ZL a,ZH e] b (Ok λS t=>∃q,S= .tuple #[]/\aU t a q (D.ep e)/\cu f b q t):=by
 obtain⟨u,x,j⟩:=h.open;have e6:x.filter (λn=>n.2.f.jM)=x.filter (λn=>n.2.f.jM):=rfl;refine uf ⟨a,0,rfl,some u,ae j.head rfl,PC.ok (zV j.map j.each λn k P i=>(j.II n k P i).2.2) ?_⟩;rintro _ v ⟨rfl,c1,B⟩;have c2:∀P,P=u->f P:=λP m=>m▸j.Fr;have r:fA v a f D.iy u (x.filter λn=>n.2.f.jM):=by
  have C:∀n∈x.filter (λn=>n.2.f.jM),n∈x:=λn k=>(List.mem_filter.1 k).1;refine⟨B.get j.head (λm=>j.pr m),c1,?_,⟨λn k=>(j.each.each n (C n k)).keep B λP i=>(j.II n (C n k) P i).2.2,λn k c o=>j.each.apart n (C n k) c (C c o),rl j.each.tidy _⟩,λn k=>j.II n (C n k),j.Fr,j.pr,j.self,λP i=>Qk (j.aE P i) B.size,j.ok.iy⟩;show D.files.filter _=_;rw[j.files,List.filter_map]
  rfl
 generalize e7:x.filter (λn=>n.2.f.jM)=p at r;have c3:∀n∈p,∀P,n.2.G P->P<v.heap.size:=λn k P i=>(r.each.each n k).aE P i;refine⟨rfl,a,0,rfl,some u,ae r.head rfl,mapRange mF r.map λw2 hR T s2=>?_⟩;have c4:Tidy D.iy.files:=r.ok.tidy;have c5:∀c∈p,vM c∈D.iy.files:=λc o=>by rw[r.files];exact Xk.2 ⟨c,o,rfl⟩
 have a5:cu f b f w2:=⟨((B.mono λP _ i=>c2 P i)).af T,λ_ h=>.inl h⟩
 refine⟨λU t=>∃(left s:List (ByteArray×oq)) (q:ZN),cT t v.heap.size u Value.string (p.map eD) (left.map eD)/\U=left.length/\fA t a q (D.iy.IM (D.iy.files.map λg=>(g.1,tf e left g))) u s/\s.map eD=p.map eD/\
   cu f b q t/\(∀n∈left,n∈p/\aq s n.1=some n.2)/\Tidy left/\v.heap.size<t.heap.size/\¬q v.heap.size,
  ⟨_,p,p,f,hR,rfl,?_,rfl,a5,λn k=>⟨k,rp r.each.tidy k⟩,r.each.tidy,oM,λi=>by have:=r.aE _ i;omega⟩,?_⟩
 ·have m:(D.iy.files.map λn=>(n.1,tf e p n))=D.iy.files:=by
   have:∀n∈D.iy.files,(n.1,tf e p n)=n:=λn k=>by
    rw[r.files]at k;obtain⟨c,o,rfl⟩:=Xk.1 k;have:p.any (λg=>g.1==(vM c).1)=true:=List.any_eq_true.2 ⟨c,o,by simp[vM]⟩;unfold tf;rw[Zx this]
   have I:=List.map_congr_left (f:=λn=>(n.1,tf e p n)) (g:=id) this;rw[I,List.map_id]
  rw[m];exact r.af T
 ·rintro U a1 w3 ⟨left,s,q,c6,rfl,V,a7,J,W,y,e2,X⟩
  refine ot c6 (λK=>.inl ⟨rfl,?_⟩) λd S l1 l2 Y c7 c8 c9 Z s4=>.inr ⟨_,_,rfl,rr c9 ?_⟩
  ·have d0:left=[]:=by simpa using K
   subst d0;refine⟨a,0,rfl,V.at.IH λw5 h5 k5 s5=>⟨a,0,rfl,h5.Ak λw6 h6 k6 s6=>Ok.mk ⟨q,rfl,?_,J.trans ⟨k5.then k6,λ_ h=>.inl h⟩⟩⟩⟩;have m:(D.iy.files.map λn=>(n.1,tf e [] n))=(D.files.filter λn=>n.2.jM).map (λn=>(n.1,te e n.2)):=List.map_congr_left λn _=>by simp[tf]
   rw[m]at h6;exact h6
  ·obtain⟨l,n,P,rfl,rfl,rfl,rfl⟩:=xI c7
   obtain⟨a8,E⟩:=W (d,n) sM;have E:aq s d=some n:=E;have a9:∀P,P=v.heap.size->¬q P:=λP m=>m▸X;have w:=V.keep Z λP i m=>a9 P m i;have L:=w.get E;have M:=cm E;have d1:eH Y n.q n.G n.f:=w.each.each _ M;have d2:∀P,n.G P->P<v.heap.size:=c3 _ a8;have b0:∀P,n.G P->q P/\P≠a/\P≠u:=w.II _ M;have b1:n.f.bytes.length<=262144:=w.ok.len (cm L);have e3:n.f.synced<=n.f.bytes.length:=w.ok.SU _ (cm L);have e8:n.f=(vM (d,n)).2:=rfl;refine⟨_,_,rfl,λw5 z=>?_⟩;have b2:=d1.keep (z.keep (S:=λ_=>False)) λ_ _ h=>h;have b3:=w.af z.keep;obtain⟨fa,A,fc,F0,F,I,h3,h4⟩:=b2.body;have b4:A=n.f.bytes.length:=I.len dC;have H:(if(if(ZG .i64 (((A:Nat):Int)-(n.f.synced:Int)))<e then(ZG .i64 (((A:Nat):Int)-(n.f.synced:Int)))else e)>0 then(if(ZG .i64 (((A:Nat):Int)-(n.f.synced:Int)))<e then(ZG .i64 (((A:Nat):Int)-(n.f.synced:Int)))else e)else 0)=max 0 (min e ((n.f.bytes.length:Int)-n.f.synced)):=by
    rw[wrap_i64 bc,b4];omega
   refine⟨n.q,0,rfl,_,ae F rfl,n.q,0,rfl,fa,A,fc,ae F rfl,n.q,0,rfl,_,ae F rfl,?_⟩;refine PC.ok (by rw[H,wrap_i64 (by unfold aM at*;omega)];exact BK b2 b1) ?_;rintro _ w6 ⟨N,rfl,O,Q⟩
   replace O:eH w6 n.q N (te e n.f):=O
   have d3:((D.iy.IM (D.iy.files.map λg=>(g.1,tf e (l++(d,n)::P) g))).fG d (te e n.f)).Ok:=b3.ok.cut L _;obtain⟨F6,b5,a0⟩:=b3.fk E O Q d3;have d4:=c8.keep (z.keep (S:=λ_=>False)) id id;have d5:=d4.keep Q.keep (λi=>by have:=d2 _ i;omega) (λi=>(b0 _ i).2.2 rfl);have b6:d∉(l++P).map (·.1):=by
    unfold Tidy at y;rw[Q3,QY]at y;rw[Q3];intro b7;have hp:=(List.perm_middle (a:=d) (l₁:=l.map (·.1)) (l₂:=P.map (·.1))).nodup_iff.1 y;exact(List.nodup_cons.1 hp).1 b7
   have b8:Tidy (l++P):=by
    unfold Tidy at y⊢;rw[Q3,QY]at y;rw[Q3];exact(List.nodup_cons.1 ((List.perm_middle (a:=d) (l₁:=l.map (·.1)) (l₂:=P.map (·.1))).nodup_iff.1 y)).2
   have b9:(l++P).any (λc=>c.1==d)=false:=by
    rw[List.any_eq_false];intro c o K;exact b6 (Xk.2 ⟨c,o,eq_of_beq K⟩)
   have fO:aI (D.iy.files.map λg=>(g.1,tf e (l++(d,n)::P) g)) d (te e n.f)=D.iy.files.map λg=>(g.1,tf e (l++P) g):=by
    refine Rq (u:=n.f) c4 (c5 _ a8) (λc o R=>?_) ?_
    ·have d6:(d==c.1)=false:=beq_false_of_ne (Ne.symm R)
     have m:(l++(d,n)::P).any (λg=>g.1==c.1)=(l++P).any (λg=>g.1==c.1):=by
      rw[List.any_append,List.any_cons,List.any_append,d6,Bool.false_or]
     show tf e (l++P) c=tf e (l++(d,n)::P) c;unfold tf;rw[m]
    ·unfold tf
     rw[Zq (by show¬((l++P).any (λc=>c.1==d)=true);rw[b9];simp)]
   have d7:(D.iy.IM (D.iy.files.map λg=>(g.1,tf e (l++(d,n)::P) g))).fG d (te e n.f)=D.iy.IM (D.iy.files.map λg=>(g.1,tf e (l++P) g)):=by
    unfold ak.fG ak.IM;simp only[fO]
   rw[d7]at b5;have a4:(aI s d (⟨n.q,N,te e n.f⟩:oq)).map eD=p.map eD:=by
    have F:(aI s d (⟨n.q,N,te e n.f⟩:oq)).map eD=aI (s.map eD) d (ptr n.q):=rm (λn:oq=>ptr n.q) s d _;rw[F,rq (k:=d) (v:=ptr n.q) (l:=s.map eD) (Xk.2 ⟨(d,n),M,rfl⟩) w.map.tidy,a7]
   refine⟨rfl,_,?_,l++P,_,F6,by rw[Q3];exact d5,rfl,b5,a4,?_,λc o=>?_,b8,?_,?_⟩
   ·simp
   ·have e4:=B.size
    have d8:cu f b q Y:=⟨J.keep.new Z λP i=>.inr oM,J.new⟩
    exact(d8.trans ⟨z.keep,λ_ h=>.inl h⟩).trans a0
   ·have d9:c∈l++(d,n)::P:=by simp only[Q6,Q2]at o⊢;exact o.imp id .inr
    obtain⟨e0,e1⟩:=W c d9;have R:c.1≠d:=λm=>b6 (Xk.2 ⟨c,o,m⟩);refine⟨e0,?_⟩;rw[bB,Zq (by simpa using R)];exact e1
   ·have:=Q.keep.size;have:=(z.keep (S:=λ_=>False)).size;omega
   ·intro i
    rcases a0.new _ i with h|h
    ·exact X h
    ·have:=(z.keep (S:=λ_=>False)).size;omega
def aO:ByteArray:=⟨#[109,97,110,105,102,101,115,116,46,116,109,112]⟩
def bW:ByteArray:=⟨#[109,97,110,105,102,101,115,116]⟩
def ez(D:ak):Int×ak:=if(aq D.files aO).isSome then D.delete aO else(0,D)
def pR(n:List Int):Nat->ak->Int×ak
 |0,D=>ez D
 |1,D=>D.create aO
 |2,D=>D.append aO (bN n)
 |3,D=>D.sync aO
 |_,D=>D.rename aO bW
def pq(n:List Int):Nat->Nat->ak->Int×ak
 |_,0,D=>(0,D)
 |P,a+1,D=>if(pR n P D).1≠0 then((pR n P D).1,(ez (pR n P D).2).2)else pq n (P+1) a (pR n P D).2
def bA(D:ak)(n:List Int):Int×ak:=if 64<n.length then(3,D)else pq n 0 5 D
def dz(D:ak):Option (List Int):=if(D.read bW).2≠0 then none else iS (D.read bW).1
def Jo(n:List ByteArray):(tq n).Perm n:=List.mergeSort_perm _ _
def ER{D:ak}:w∈D.list↔(aq D.files w).isSome=true:=by
 unfold ak.list;rw[(Jo _).mem_iff];constructor
 ·intro n
  cases P:aq D.files w with
  |none=>exact Zz n (jG.1 P)
  |some a=>rfl
 ·intro n
  obtain⟨a,b⟩:=Option.isSome_iff_exists.1 n;exact Xk.2 ⟨_,cm b,rfl⟩
def oS(D:ak):D.list.length=D.files.length:=by unfold ak.list tq;simp
def Pb(n:List Int)(c:a<5)(D:ak):pq n a (5-a) D=if(pR n a D).1≠0 then((pR n a D).1,(ez (pR n a D).2).2)else pq n (a+1) (5-(a+1)) (pR n a D).2:=by
 obtain⟨P,b⟩:∃P,5-a=P+1:=⟨4-a,oM⟩
 rw[b,show 5-(a+1)=P by omega]
 rfl
def Ha{D:ZN}(P:Row Oz 16 b D d a f6):
  PP 292 #[.slice d a c,.string w] b (Ok λo e=>(∃k:Int,o= ZH k/\(0<=k↔w∈f6))/\b=e):=by
 have u:=P.len;have p:=P.fj;unfold aT at p;refine kH ⟨λl i e=>∃n:Nat,i=n/\n<=a/\l=a-n/\w∉f6.take n/\b=e,⟨_,0,rfl,Qj _,rfl,sM,rfl⟩,?_⟩;rintro l i _ _ ⟨n,rfl,v,rfl,f,rfl⟩;refine al.dec (λq=>?_) (λq=>?_)
 ·obtain⟨r,g,x,rfl,m,_,s⟩:=P.oF (i:=n) oM
  refine⟨r,g,rfl,oM,oM,_,s,al.YA (λj=>?_) (λj=>?_)⟩
  ·exact Ok.mk ⟨⟨_,rfl,λ_=>j▸QZ m,λ_=>oM⟩,rfl⟩
  ·refine⟨_,oM,n+1,an oM,oM,rfl,?_,rfl⟩
   rw[Qw,m];intro t;rcases Q6.1 t with h|h
   ·exact f h
   ·simp at h;exact j h
 ·rw[Qz oM]at f
  exact Ok.mk ⟨⟨_,rfl,λh=>oM,λh=>Zz h f⟩,rfl⟩
def zZ{D:ZN}(n:Row Oz 16 b D d a f6):
  PP 237 #[.slice d a c,.string w] b (Ok λP e=>P= .bool (decide (w∈f6))/\b=e):=by
 refine jm (PC.ok (Ha n) ?_);rintro _ _ ⟨⟨g,rfl,f⟩,rfl⟩;exact⟨_,rfl,Ok.mk ⟨by rw[decide_eq_decide.2 f],rfl⟩⟩
def rV{D:ak}(n:aU b a f D):PP 174 #[ZL a] b (Ok (vN b a f (ez D))):=by
 refine xv (PC.ok (xK n) ?_);rintro _ l ⟨m,o,p,G,rfl,g,P,q⟩;have r:D.list.length<=64:=by rw[oS];exact n.ok.many
 refine⟨_,_,_,rfl,PC.ok (zZ (g.row dC ba)) ?_⟩;rintro _ _ ⟨rfl,rfl⟩;have e:(aO∈D.list)↔(aq D.files aO).isSome=true:=ER;refine⟨_,rfl,al.dec (λc=>PC.ok (yv (n.af P)) λh i j=>mG h i P ?_) (λc=>?_)⟩
 ·have d:ez D=D.delete aO:=by unfold ez;rw[Zx (e.1 c)]
  rw[d];exact j
 ·have d:ez D=(0,D):=by unfold ez;rw[Zq λk=>c (e.2 k)]
  rw[d];exact Ok.mk (vN.same (n.af P) P.keep)
def Cq(C:qP b)(u:Row aP 8 b f d a s)(v:∀h∈s,aM h)(hD:∀P,f P->P<b.heap.size)(E:s.length<=64):
  PP 179 #[.agg #[.slice d a c]] b (Ok (qC gl 5 b (bN s))):=by
 have F:=u.len;refine xx (PA.mk λH I s1 w=>⟨_,_,_,ae w rfl,PC.ok (BL (m:=(a:Int)) bc (Row.nil H λ_=>False) ba λ_ J=>J.elim) ?_⟩);rintro _ L ⟨a2,n2,c2,M,rfl,x,y,N⟩;have O:ai b L:=I.then y;have Q:dY (a:Int)=bj ((a:Int)::s.take 0):=by simp[bj]
 rw[List.nil_append,Q]at x;refine⟨_,_,_,rfl,_,_,_,ae (y.get w id) rfl,λz l m o i A=>∃n:Nat,i=n/\n<=a/\z=a-n/\∃B,aV gl 5 B A l m o (bj ((a:Int)::s.take n))/\ai b A/\∀P,B P->b.heap.size<=P,
  ⟨_,0,rfl,Qj _,rfl,M,x,O,λP j=>by have:=N P j;omega⟩,?_⟩
 rintro z l m o i _ R ⟨n,rfl,hj,rfl,S,e,g,a0⟩;have a1:(bj ((a:Int)::s.take n)).length<=9*(n+1):=by
  have h1:=fW (l:=(a:Int)::s.take n) (by
   intro h K;rcases Q2.1 K with rfl|K
   ·unfold aM;omega
   ·exact v h (List.mem_of_mem_take K))
  have h2:((a:Int)::s.take n).length=n+1:=by simp;omega
  omega
 have a3:=e.len dC;refine al.dec (λa5=>?_) (λa6=>?_)
 ·obtain⟨P,p,h,rfl,K,T,U⟩:=(u.af g).oF (i:=n) oM
  refine⟨P,p,rfl,oM,oM,_,U,PC.ok (BL T (e.row (bytes:=1) dC ba) ba e.aE) ?_⟩;rintro _ V ⟨W,X,Y,q,rfl,k,r,t⟩;refine⟨_,_,_,rfl,_,?_,n+1,an oM,oM,rfl,q,?_,g.then r,λP j=>by have:=t P j;have:=g.size;omega⟩
  ·omega
  ·have Z:bj ((a:Int)::s.take (n+1))=bj ((a:Int)::s.take n)++dY h:=by
    rw[Qw,K,<-List.cons_append,iX]
    congr 1
    simp[bj]
   rw[Z];exact k
 ·obtain rfl:n=a:=oM
  rw[Qz oM,F]at e
  change aV gl 5 S R l m o (iq s)at e
  have a7:=xU v E;refine PC.ok (EB (C.af g) (e.row (bytes:=1) dC ba) e.aE) ?_;rintro _ V ⟨_,rfl,W,X,Y,q,rfl,k,r,t⟩;rw[show kY 2 (iq s)=(bN s,0) by unfold kY bN;rw[Zq dC,Zq oM]]at k⊢;exact⟨_,_,_,_,rfl,Ok.mk ⟨_,_,_,q,rfl,k,g.then r,λP j=>by have:=t P j;have:=g.size;omega⟩⟩
def Cr{D:ak}(ht:qP b)(hD:aU b a f D)(hl:Row aP 8 b Z d c s)(a8:∀b7∈s,aM b7)(a3:∀n,Z n->n<b.heap.size/\¬f n)(a9:∀n,f n->n≠2/\n≠3):
  PP 112 #[ZL a,.agg #[.slice d c i]] b (Ok (vN b a f (bA D s))):=by
 have hn:=hl.len;refine xg (PA.mk λw1 k1 s1 g1=>PA.mk λj U s2 g2=>PA.mk λw3 H s3 g3=>⟨_,_,_,ae (H.get g2 id) rfl,al.dec (λh=>?_) (λh=>?_)⟩)
 ·refine PS.mk g3 sM λp B s4 g4=>⟨_,ae g4 rfl,?_⟩
  have k:bA D s=(3,D):=by unfold bA;rw[Zx oM]
  rw[k];have y:ai b p:=((k1.then U).then H).new B λn P=>.inr oM;exact Ok.mk (vN.same (hD.af y) y.keep)
 refine PA.mk λp B s4 g4=>?_;have y:ai b p:=((k1.then U).then H).then B;have k:bA D s=pq s 0 5 D:=by unfold bA;rw[Zq oM]
 rw[k];have I:=hD.aE;refine⟨λa1 M l=>∃(u:Nat) (J:ak) (v:ZN),M=u/\u<=5/\a1=5-u/\pq s 0 5 D=pq s u (5-u) J/\aU l a v J/\aj (λn=>f n\/n=j.heap.size) p l/\(∀n,v n->f n\/p.heap.size<=n)/\l.heap[j.heap.size]? =some (.cells #[ZH 0] 34 (0,0)),
  ⟨_,0,D,f,rfl,oM,rfl,rfl,hD.af y,aj.refl _,λn P=>.inl P,B.get g3 id⟩,?_⟩
 rintro a1 M _ x ⟨u,J,v,rfl,hi,rfl,N,C,E,V,ge⟩;have W:∀n,b.heap.size<=n->n<p.heap.size->¬v n:=λn h1 h2 hf=>by
  rcases V n hf with h|h
  ·have:=I n h;omega
  ·omega
 have O:x.heap[b.heap.size]? =some (.cells #[ZL a] 93 (0,0)):=E.get (B.get (H.get (U.get g1 id) id) id) (λq=>q.elim (λh=>by have:=I _ h;omega) (λh=>oM));have gm:x.heap[w1.heap.size]? =some (.cells #[.slice d c i] 211 (0,0)):=E.get (B.get (H.get g2 id) id) (λq=>q.elim (λh=>by have:=I _ h;omega) (λh=>oM));have Q:=E.get g4 (λq=>q.elim (λh=>by have:=I _ h;omega) (λh=>oM));have c5:=E.size;have w:∀(k:Int) (R:ak) (G:ZN) (g:World),aU g a G R->aj (λn=>f n\/n=j.heap.size) p g->(∀n,G n->f n\/p.heap.size<=n)->g.heap[j.heap.size]? =some (.cells #[ZH k] 34 (0,0))->
   pq s 0 5 D=(k,if k≠0 then(ez R).2 else R)->
   Lv ZP (λb0=>∃A:Int,b0.cell? ⟨j.heap.size,0,none⟩=some (ZH A)/\Ok (vN b a f (pq s 0 5 D)) (.returned (ZH A)) b0) (λch l=>Ok (vN b a f (pq s 0 5 D)) (.panicked ch) l)
    ([{target:=.fn (.func 173) #[ZL j.heap.size,ZL b.heap.size],args:= #[]}]:List Deferred) .returning g:=by
  intro k R G g hE r hG X hr;have b8:g.heap[b.heap.size]? =some (.cells #[ZL a] 93 (0,0)):=r.get (B.get (H.get (U.get g1 id) id) id) (λq=>q.elim (λh=>by have:=I _ h;omega) (λh=>oM));have m:∀o (K:ZN) (E':ak),aU o a K E'->cu G g K o->pq s 0 5 D=(k,E')->∃A:Int,o.cell? ⟨j.heap.size,0,none⟩=some (ZH A)/\Ok (vN b a f (pq s 0 5 D)) (.returned (ZH A)) o:=by
   intro o K E' a4 t a0;have b9:¬G j.heap.size:=λh=>(hG _ h).elim (λh=>by have:=I _ h;omega) (λh=>oM);have c6:=r.size;refine⟨k,ae (t.keep.get X b9) rfl,Ok.mk ?_⟩;rw[a0];refine⟨K,rfl,a4,?_,λn P=>?_⟩
   ·have c0:aj f b g:=y.keep.new r λn P=>P.imp id λh=>by omega
    exact c0.new t.keep λn P=>(hG n P).imp id λh=>by omega
   ·rcases t.new n P with h|h
    ·exact(hG n h).imp id λh=>by omega
    ·exact .inr oM
  refine Lv.one sM kR (CallsD.mono (sI (R:=λe' o=>e'= .returned (.tuple #[])/\∃A:Int,o.cell? ⟨j.heap.size,0,none⟩=some (ZH A)/\Ok (vN b a f (pq s 0 5 D)) (.returned (ZH A)) o) ⟨_,ae X rfl,al.eO (λY=>?_) (λh0=>?_)⟩) ?_)
  ·refine⟨_,ae b8 rfl,PC.ok (rV hE) ?_⟩
   rintro _ o ⟨K,rfl,a4,t⟩;exact⟨_,rfl,rfl,m o K _ a4 t (by rw[hr,Zx Y])⟩
  ·exact⟨rfl,m g G R hE (cu.refl _ _) (by rw[hr,Zq (by simpa using h0)])⟩
  ·rintro e' u' o ⟨rfl,rfl,hX⟩
   exact Lv.ret rfl hX
 refine al.dec (λc7=>?_) (λc8=>?_)
 ·have b1:u<5:=oM
  have step:∀κ ε,(∀z l,vN x a v (pR s u J) z l->κ z l)->∃b2:Value,x.cell? ⟨w3.heap.size,0+Int.toNat (u:Int),none⟩=some b2/\∃a5 a2 a7,b2= .func (.func a5) a2 a7/\enters ZP a5=true/\PC ZP a5 (a2++ #[]++a7) x κ ε:=by
   intro κ ε e;rw[Qx,Xz];have m:∀{b3:Int×ak} {z l},vN x a v b3 z l->∃M:Int,z= ZH M/\Ok (vN x a v b3) (.returned (ZH M)) l:=λh=>mG _ _ (aj.refl _) h
   match u,b1,e with
   |0,_,e=>exact⟨_,ae Q rfl,_,_,_,rfl,kR,PC.ok (uk ⟨_,ae O rfl,PC.ok (rV C) λz l h=>m h⟩) e⟩
   |1,_,e=>exact⟨_,ae Q rfl,_,_,_,rfl,kR,PC.ok (um ⟨_,ae O rfl,PC.ok (yw C) λz l h=>m h⟩) e⟩
   |2,_,e=>
    refine⟨_,ae Q rfl,_,_,_,rfl,kR,PC.ok (φ:=vN x a v (pR s 2 J)) (uo λg d6=>?_) e⟩;have r:ai x g:=d6.keep;have F:aj (λn=>f n\/n=j.heap.size) p g:=E.then r.keep;have c1:Row aP 8 g Z d c s:=(hl.af y).keep F λn P q=>q.elim (a3 n P).2 λh=>by have:=(a3 n P).1;omega
    have c2:qP g:=by
     have:=(ht.af y)
     have c9:b.heap.size<=p.heap.size:=y.size;have h1:=ht.lt;have hz:=F.size;refine⟨λS hj=>?_,λS hj=>?_,oM⟩
     ·exact(this.lower S hj)▸F.cell (a:=⟨2,S,none⟩) (by show 2<_;omega) (λq=>q.elim (λh=>(a9 _ h).1 rfl) (λh=>by have h:2=j.heap.size:=h;omega))
     ·exact(this.upper S hj)▸F.cell (a:=⟨3,S,none⟩) (by show 3<_;omega) (λq=>q.elim (λh=>(a9 _ h).2 rfl) (λh=>by have h:3=j.heap.size:=h;omega))
    refine⟨v,W _ (Q4 _) oM,_,ae (r.get O id) rfl,_,_,_,ae (r.get gm id) rfl,PC.ok (Cq c2 c1 a8 (λn P=>by have:=(a3 n P).1;have:=y.size;have:=F.size;omega) oM) ?_⟩;rintro _ o ⟨d0,n7,d1,F7,rfl,a6,L,c3⟩;have d2:=rW s;have d3:=xU a8 oM;refine⟨_,_,_,rfl,L.keep,PC.ok (yx ((C.af r).af L) (a6.row dC ba) (λk=>a6.Ot k) λn P=>⟨a6.aE n P,λhf=>by have:=C.aE n hf;have:=c3 n P;have:=r.size;omega⟩) ?_⟩;rintro _ w8 ⟨F8,rfl,c4,t⟩;exact⟨_,rfl,t.keep,Ok.mk ⟨F8,rfl,c4,(cu.mk (ai.keep (r.then L)) λ_ h=>.inl h:cu v x v o).trans t⟩⟩
   |3,_,e=>exact⟨_,ae Q rfl,_,_,_,rfl,kR,PC.ok (uq ⟨_,ae O rfl,PC.ok (Ev C) λz l h=>m h⟩) e⟩
   |4,_,e=>exact⟨_,ae Q rfl,_,_,_,rfl,kR,PC.ok (ur ⟨_,ae O rfl,PC.ok (IK C) λz l h=>m h⟩) e⟩
  refine⟨_,_,rfl,oM,oM,step _ _ ?_⟩;rintro _ g ⟨F6,rfl,h6,t⟩;have b4:∀n,F6 n->n≠j.heap.size:=λn P k=>by
   subst k;rcases t.new _ P with h|h
   ·exact W _ oM oM h
   ·omega
  have b5:∀n,F6 n->f n\/p.heap.size<=n:=λn P=>by
   rcases t.new n P with h|h
   ·exact V n h
   ·exact .inr oM
  have F:aj (λn=>f n\/n=j.heap.size) p g:=E.new t.keep λn P=>(V n P).imp .inl id;refine⟨_,rfl,PS.mk (t.keep.get ge (W _ oM oM)) sM λo L s7 T=>?_⟩;have h7:=h6.keep L λn P=>b4 n P;have b6:aj (λn=>f n\/n=j.heap.size) p o:=F.then (L.mono λn _ P=>.inr P);rw[Pb s b1]at N;refine⟨_,ae T rfl,al.eO (λY=>?_) (λh0=>?_)⟩
  ·refine⟨_,ae T rfl,PS.mk T sM λw8 k8 s8 g8=>?_⟩
   exact w _ _ F6 w8 (h7.keep k8 λn P=>b4 n P) (b6.then (k8.mono λn _ P=>.inr P)) b5 g8 (by rw[N,Zx Y,Zx Y])
  ·rw[Zq (by simpa using h0)]at N
   rw[h0]at T;exact⟨rfl,_,oM,u+1,_,F6,an oM,oM,rfl,N,h7,b6,b5,T⟩
 ·obtain rfl:u=5:=oM
  refine⟨_,ae ge rfl,PS.mk ge sM λg r s6 X=>?_⟩;refine w 0 J v g (C.keep r λn P k=>W n oM oM P) (E.then (r.mono λn _ P=>.inr P)) V X ?_;rw[N];rfl
def DO{D:ak}(ht:qP b)(hD:aU b a f D):
  PP 109 #[ZL a] b (Ok λQ g=>∃l o p G,Q= .tuple #[.agg #[.slice l o p],.bool (dz D).isSome]/\aV aP 3 G g l o p ((dz D).getD [])/\ai b g/\∀n,G n->b.heap.size<=n):=by
 refine zz (PA.mk λA C s1 g1=>PC.ok (xJ (hD.af C)) ?_);rintro _ w2 ⟨_,rfl,a7,n2,c2,F2,rfl,u,R,e8⟩
 change aV gl 5 F2 w2 a7 n2 c2 (D.read bW).1 at u
 have b3:(D.read bW).1.length<=262144:=by
  unfold ak.read;split
  ·simp
  ·split
   ·simp
   ·rename_i e7 hf;exact hD.ok.len (cm hf)
 have a3:∀{g},ai A g->g.heap[b.heap.size]? =some (.cells #[.slice none 0 0] 211 (0,0)):=λhk=>hk.get g1 id;have d:dz D=none->∀v,ai A v->PS v ⟨b.heap.size,0,none⟩ (.slice none 0 0) λw=>∃(b4:WP) (b5:Nat) (b6:Nat),w.cell? ⟨b.heap.size,0,none⟩=some (.slice b4 b5 b6)/\
   Ok (λQ g=>∃l o p G,Q= .tuple #[.agg #[.slice l o p],.bool (dz D).isSome]/\aV aP 3 G g l o p ((dz D).getD [])/\ai b g/\∀n,G n->b.heap.size<=n) (.returned (.tuple #[.agg #[.slice b4 b5 b6],.bool false])) w:=by
  intro S v E;refine PS.mk (a3 E) sM λw4 T s4 U=>⟨_,_,_,ae U rfl,?_⟩
  rw[S];exact Ok.mk ⟨none,0,0,λ_=>False,rfl,aV.nil w4,(C.then E).new T λn P=>.inr oM,λ_ h=>h.elim⟩
 refine⟨_,_,_,_,rfl,al.eO (λk=>d (by unfold dz;exact Zx k) w2 R) (λS=>?_)⟩;have B:dz D=iS (D.read bW).1:=by unfold dz;exact Zq λh=>h S
 generalize(D.read bW).1=F at u b3 B;have d6:=u.len dC;refine PC.ok (EC (ht.af (C.then R)) (u.row (bytes:=1) dC ba) u.lA u.aE) ?_;rintro _ v ⟨c0,n3,c3,F3,rfl,b7,E,e9⟩;refine⟨_,_,_,_,_,_,rfl,PA.mk λw4 T s4 U=>PS.mk U sM λw5 k5 s5 g5=>PS.mk g5 sM λx k6 s6 g6=>?_⟩;have V:x.heap[v.heap.size]? =some (.cells #[ZH (br F).kind,.slice c0 n3 c3] 277 (0,0)):=g6;have W:ai v x:=(T.new k5 λn P=>.inr oM).new k6 λn P=>.inr oM;have s:ai A x:=(R.then E).then W;have f8:=W.size;refine al.eO (λk=>d (by rw[B];unfold iS;exact Zx (.inl k)) x s) (λb8=>?_);refine al.eO (λk=>d (by rw[B];unfold iS;exact Zx (.inr (.inl λe=>k (by rw[e,d6])))) x s) (λg0=>?_);refine⟨_,ae V rfl,al.eO (λk=>d (by rw[B];unfold iS;exact Zx (.inr (.inr k))) x s) (λd7=>?_)⟩;have X:dz D=if ij (kM (br F).body).2≠0 then none else some (kM (br F).body).1:=by
  rw[B];unfold iS;refine Zq ?_;rintro(h|h|h)
  ·exact h b8
  ·exact h oM
  ·exact h d7
 have Y:=b7.af W;obtain⟨g2,h9,d8⟩:=vU b8;generalize(br F).body=c at Y X d8 V b7;refine⟨_,_,_,ae V rfl,PC.ok (Ex (Y.row (bytes:=1) dC ba) Y.aE) ?_⟩;rintro _ w ⟨H,a4,rfl,I,k7,hP⟩;refine⟨_,rfl,PA.mk λw8 k8 s8 g8=>PC.ok (IN (m:=64) (I.af k8)) ?_⟩;rintro _ t ⟨rfl,Z,k9⟩;have b9:=I.aE;have hq:=I.self;have g3:=b9 H hq;have g7:=hP H hq;obtain⟨c1,a8,c5,c4⟩:=ig.Fit.count (r:=⟨c,0,0⟩) ⟨Qj _,.inl rfl⟩ (m:=64) oM;have g9:t.heap[w.heap.size]? =some (.cells #[.slice none 0 0] 211 (0,0)):=k9.get g8 (λe=>oM);have J:kM c=aW (bD 64 ⟨c,0,0⟩).1.toNat (bD 64 ⟨c,0,0⟩).2:=rfl;have K:ai A t:=((s.then k7).then k8).new k9 λn P=>.inr (by have:=s.size;omega);generalize h2:bD 64 ⟨c,0,0⟩=ct at Z c1 a8 c5 c4 J;obtain⟨cn,L⟩:=ct;simp only at Z c1 a8 c5 c4 J;refine⟨_,rfl,λm a5 g=>∃i:Nat,a5=i/\(i:Int)<=cn/\m=cn.toNat-i/\fB g H a4 (aW i L).2/\ai A g/\∃l o p G,g.heap[w.heap.size]? =some (.cells #[.slice l o p] 211 (0,0))/\aV aP 3 G g l o p (aW i L).1/\(∀n,G n->t.heap.size<=n)/\t.heap.size<=g.heap.size,
  ⟨_,0,rfl,a8,rfl,Z,K,none,0,0,λ_=>False,g9,aV.nil t,λ_ h=>h.elim,Q4 _⟩,?_⟩
 have h3:=k9.size;rintro m a5 _ c6 ⟨i,rfl,hj,rfl,a0,M,c7,c8,c9,d0,a9,y,q,f0⟩;have d9:∀n,a4 n->n<t.heap.size:=λn P=>by have:=b9 n P;omega
 refine al.dec (λh4=>?_) (λh5=>?_)
 ·intro N b0
  have j:ai c6 N:=b0.keep;refine⟨(λn=>n=H\/d0 n),λhs=>hs.elim (λe=>oM) (λe=>by have:=q _ e;omega),_,_,_,ae (j.get a9 id) rfl,PC.ok (GC (a0.af j)) ?_⟩;rintro _ d1 ⟨rfl,d2,r⟩;obtain⟨f1,f2,f3,f4⟩:=c1.ints i;obtain⟨f5,f6,f7⟩:=f1.int;refine⟨_,rfl,r.mono λn _ P=>.inl P,?_⟩;have a1:=(y.af j).keep r λn P e=>by have:=q n P;omega
  refine PA.mk λh6 z h7 e0=>⟨z.keep,?_⟩
  have d3:=a1.af z;have d4:(aW i L).1.length=i:=f3;refine lK d3 uW (D:=(·=d1.heap.size)) (Row.lit e0 [(fr (aW i L).2).1] rfl (λf9 hx=>by simp at hx;subst hx;exact f6) (by unfold aT;simp)) (λn e=>⟨oM,λe2=>by have:=a1.aE n (a1.self n e2);omega⟩) (by rw[d4];unfold aT;simp;omega) (by rw[d4];unfold maxLen;simp;omega) λb1 e1 e3 h8 a2 O _ d5=>?_
  replace a2:=a2.alone
  have e4:e3.heap[w.heap.size]? =some (.cells #[.slice c7 c8 c9] 211 (0,0)):=O.get (z.get (r.get (j.get a9 id) (λe=>oM)) id) (λe=>by have:=q _ (y.self _ e);omega);have z1:=j.size;have z2:=r.size;have z3:=z.size;have z4:=O.size;have a6:∀n,aG b1=some n->t.heap.size<=n:=λn P=>by
   rcases d5 n P with h|h
   ·exact q n h
   ·omega
  refine⟨_,_,_,rfl,PS.mk e4 sM λi0 b2 i1 e5=>⟨_,oM,i+1,an oM,oM,rfl,?_,?_,b1,_,e1,(λn=>aG b1=some n),e5,?_,a6,oM⟩⟩
  ·refine(((d2.af z).keep O λn P e=>by have:=d9 n P;have:=q n (y.self n e);omega)).keep b2 λn P e=>by have:=I.aE n P;omega
  ·refine((((M.then j).new r λn P=>.inr (by have:=s.size;omega)).then z).new O λn P=>.inr (by have:=q n (y.self n P);have:=K.size;omega)).new b2 λn P=>.inr (by have:=(s.then k7).size;omega)
  ·exact a2.keep b2 λn P e=>by have:=a6 n P;omega
 ·obtain rfl:cn=(i:Int):=oM
  rw[Qx]at J;rw[<-J]at a0 y;refine PC.ok (MZ a0) ?_;rintro _ N ⟨rfl,b0⟩;have j:ai c6 N:=b0.keep;refine⟨_,rfl,al.eO (λk=>d (by rw[X];exact Zx k) N (M.then j)) (λh0=>?_)⟩;have hS:dz D=some (kM c).1:=by rw[X];exact Zq λh=>h h0
  rw[hS];refine⟨_,_,_,ae (j.get a9 id) rfl,PS.mk (a3 (M.then j)) sM λd1 r i2 e6=>⟨_,_,_,ae e6 rfl,Ok.mk ⟨c7,c8,c9,d0,rfl,?_,?_,?_⟩⟩⟩
  ·exact(y.af j).keep r λn P e=>by have:=q n P;have:=K.size;omega
  ·exact(C.then (M.then j)).new r λn P=>.inr oM
  ·intro n P;have:=q n P;have:=K.size;omega
def VK:(do eqGuard .eql 46 X a1 (.agg #[ZH e,ZH q]) (.agg #[ZH R,ZH c1]);binOp .eql 46 (.agg #[ZH e,ZH q]) (.agg #[ZH R,ZH c1]):Sem Value).run ZP b= .ok (.bool (e==R&&q==c1)) b:=by
 have c:Tryz.prog.underlying 46=some (.struct (Tryz.prog.fieldsOf 46)):=kR
 have a:Tryz.prog.underlying 3=some (.int .i64):=kR
 have n:(Tryz.prog.fieldsOf 46).toList.map (λP=>(P.name,P.type,P.offset))=[("Origin",3,0),("Seq",3,1)]:=kR
 rw[Sem.run_bind,run_eqGuard_agg b .eql _ X a1 _ _ kR,Result.andThen_ok,run_eql_struct,run_equalIn_struct b 9999 _ _ _ c kR];generalize(Tryz.prog.fieldsOf 46).toList=d at n
 match d,n with
 |[P,s],n=>
  simp only[QY,List.map_nil,List.cons.injEq,Prod.mk.injEq,and_true]at n;obtain⟨⟨f,g,h⟩,i,j,k⟩:=n;have l:(isAgg 3).run ZP b= .ok false b:=dE _ _ _ kR ⟨_,a⟩ b;have m:=run_equalIn_int (P:=ZP) b 9998 3 .i64 .i64 e R a;have o:=run_equalIn_int (P:=ZP) b 9998 3 .i64 .i64 q c1 a;unfold Op.eqFields Op.eqFields Op.eqFields;rw[f,g,h,i,j,k]
  cases p:e==R<;>simp[part,l,m,o,p]
  by_cases r:q=c1<;>simp[r]
 |[],n=>simp at n
 |[_],n=>simp at n
 |_::_::_::_,n=>simp at n
end Go.Proofs.YtjgjkeponbeekaaGreatDoor
namespace Go.aw
open Go.ChangeShapes Go.WideShapes Go.ChangeAt Go.RowKit
def mJ{n:Type}(P:Program)(a:TypeId)(b:DataW n):Prop:=∀c∈b.weights P a,c<=reachBytes
abbrev In(n:World):ZN:=λP=>P<n.heap.size
variable{e:Int}{a c:Nat}{j:Type}{g p:TypeId}{v:Value}
section
variable {H:Type} {enc:TypeId×Value->H} {P:Program} {w:World} {base:Nat} {held:Bool}
def Ra{n:List TypeId}{a:List (DataW H)}(c:(DataW.weightsEach P n a).all (·<=reachBytes)=true){j:Nat}{b:DataW H}(d:n[j]? =some g)(e:a[j]? =some b):mJ P g b:=
 λf h=>by simpa using ZY.1 c _ (DataW.weights_mem_each d e f h)
def rA{b:TypeId}:∀{n:List (DataW H)} {d:DataW H},d∈n->∀a∈d.weights P b,a∈DataW.weightsAll P b n
 |x::n,d,h,a,c=>by
  simp only[DataW.weightsAll,Q6];rcases Q2.1 h with rfl|h
  ·exact Or.inl c
  ·exact Or.inr (rA h a c)
def Reads{c:Type}(P:Program)(d:ky c)(a:TypeId):Prop:=
 ∀(H:Type) (enc:TypeId×Value->H) (w:World) (held:Bool) (n:Nat) (cs:List Value) (b:DataW H×List MemPlace),DataW.trod enc P w 0 (λ_=>true) held n a cs=some b->mJ P a b.1->∃e,d.rep w (In w) e cs
def lM{P:Option _}(n:w.cell? ⟨a,c,P⟩=some v):a<w.heap.size:=by
 unfold World.cell? at n
 by_cases b:a<w.heap.size
 ·exact b
 ·rw[show w.heap[a]? =none by simp;omega]at n;cases n
def open_row{i:ky j}{bytes v:Nat}{cs:List Value}{B:DataW H×List MemPlace}(I:P.underlying g=some (.slice p))(Q:P.cellsOf p=i.k)(J:0<i.k)(R:P.bytesOf p=bytes)(S:Reads P i p)(o:DataW.trod enc P w 0 (λ_=>true) held v g cs=some B)(T:mJ P g B.1):
  ∃a q e U,cs=[.slice a q e]/\q<=e/\(a=none->q=0/\e=0)/\Row i bytes w (In w) a q U:=by
 rcases DataW.trod_slice I o with⟨rfl,rfl⟩|⟨a,b,e,n,f,q,_,rfl,rfl,hb,V,hm,a4,W,a5,a6⟩
 ·exact⟨none,0,0,[],rfl,Q4 _,λ_=>⟨rfl,rfl⟩,Row.nil _ _⟩
 ·have x:∀k∈(n.length+f.length)*P.bytesOf p::(DataW.weightsAll P p (n.map (·.1))++DataW.weightsAll P p (f.map (·.1))),k<=reachBytes:=by
   have:=T;simpa only[mJ,DataW.weights,I,Q8]using this
  have read:∀d,d<b->∃c k,n[d]? =some k/\c.length=i.k/\(∀h,h<i.k->w.cell? (a.add (d*i.k+h))=c[h]?)/\DataW.trod enc P w 0 (λ_=>true) held q p c=some k:=by
   intro d m;have K:=W d m;rw[Q,Qq (by omega:d<n.length)]at K;obtain⟨c,A,y⟩:=Option.bind_eq_some_iff.1 K;obtain⟨_,C,s⟩:=World.cells?_some A;exact⟨c,_,Qq oM,C,λh E=>by rw[<-Addr.add_add];exact s h E,y⟩
  have X:0<b->a.spot=none:=by
   intro Y;obtain⟨c,k,_,C,s,_⟩:=read 0 Y;have:=s 0 J;rw[Nat.zero_mul,Nat.add_zero,Qq oM]at this;have p:a.add 0=a:=by simp[Addr.add]
   rw[p]at this;unfold World.cell? at this;split at this
   ·cases t:a.spot with
    |none=>rfl
    |some L=>rw[t]at this;simp at this
   ·cases this
  have one:∀d,d<b->∃r,∃u z M,some a=some ⟨u,z,none⟩/\u<w.heap.size/\In w u/\(∀h,h<i.k->w.cell? ⟨u,z+d*i.k+h,none⟩=M[h]?)/\i.rep w (In w) r M:=by
   intro d m;have t:=X oM;have N:∀F,a.add F=⟨a.block,a.off+F,none⟩:=by
    intro F;obtain⟨u,Z,L⟩:=a;simp only at t;subst t;unfold Addr.add;split
    ·next o=>subst o;rfl
    ·rfl
   obtain⟨c,k,y,C,s,h5⟩:=read d m;have a0:mJ P p k.1:=λr l=>x r (QJ _ (ZV _ (rA (d:=k.1) (Xk.2 ⟨k,QZ y,rfl⟩) r l)));obtain⟨r,l⟩:=S H enc w held q c k h5 a0;have O:a.block<w.heap.size:=by
    have:=s 0 J;rw[N,Qq oM]at this;exact lM this
   refine⟨r,a.block,a.off,c,?_,O,O,λh E=>?_,l⟩
   ·obtain⟨u,Z,L⟩:=a
    simp only at t;rw[t]
   ·have:=s h E
    rw[N]at this;rw[<-this,Nat.add_assoc]
  have a1:b*bytes<=aT:=by
   have A:=x _ (QV ..);have y:b*P.bytesOf p<=(n.length+f.length)*P.bytesOf p:=Q0 _ oM;rw[R]at A y;unfold reachBytes at A;unfold aT;omega
  by_cases l:b=0
  ·subst l
   exact⟨some a,0,e,[],rfl,Qj _,λo=>(by cases o),rfl,sM,λd B m=>(by simp at m)⟩
  ·have a2:Nonempty j:=⟨(one 0 oM).choose⟩
   haveI:Inhabited j:=⟨Classical.choice a2⟩
   obtain⟨a3,hf⟩:=Go.Deep.choose_lt one;refine⟨some a,b,e,(List.range b).map a3,rfl,V,λo=>(by cases o),sM,a1,λd r l=>?_⟩
   by_cases m:d<b
   ·rw[Q9,List.getElem?_range m]at l
    cases l
    exact hf d m
   ·rw[Q7 be]at l;cases l
def bq(n:(Lit.int .i64 e).wf=true):aM e:=by
 have:IntKind.i64.min<=e/\e<=IntKind.i64.max:=by simpa[Lit.wf]using n
 exact this
end
variable{m:Array Value}{a8:Func}{f7:List MemPlace}{b k:World}
def ai.below(n:ai b k):Below b.heap.size b k:=⟨n.os,n.tape,n.output,n.size,λP a=>n.block P a id⟩
section
variable {H:Type} {enc:TypeId×Value->H} {P:Program}
def vV(i:laidOutB P=true){e j:World}(k:ai e j){l:Nat->Bool}:∀{b:List TypeId} {m:List Value} {o:List (DataW H)} {c:List MemPlace},b.all (λf=>P.readableRec f&&decide (f<P.types.size))=true->(∀n∈c,n.block<e.heap.size)->(∀n∈c,l n.block=true)->
  DataW.TrodAll enc P e 0 (λ_=>true) true b m o c->DataW.TrodAll enc P j 0 l true b m o c
 |[],_,_,_,_,_,_,a=>by
  obtain⟨rfl,rfl,rfl⟩:=trodAll_nil a;exact trodAll_mk0
 |f::b,_,_,_,d,p,q,a=>by
  obtain⟨t,u,v,w,x,y,rfl,rfl,rfl,r,s⟩:=trodAll_cons a;simp only[List.all_cons,QK,Zk]at d;refine trodAll_cons_mk (WideElems.Trod_stays i d.1.1 d.1.2 r (λg h=>k.below.same (p g (ZV _ h))) λg h=>q g (ZV _ h)) (vV i k (by simpa using d.2) (λn a=>p n (ZW _ a)) (λn a=>q n (ZW _ a)) s)
def Of{c:ChangeSpec}{e o:List (DataW H)}{tb:TypeId}{n h E i:Bool}(F:laidOutB P=true)(u:a8.resultTypes= #[tb])(v:P.underlying tb=some .bool)(w:c.vars=[])(I:(c.fn H (e++o)).results=[.lit (.bool true)])(J:(c.fn H (e++o)).args=e)(K:(c.fn H (e++o)).vars=[])(L:a8.params.toList.all (λx=>P.readableRec x&&decide (x<P.types.size))=true)(p:DataW.Whole enc P a8.params.toList c.vars n b m.toList e o f7)(q:ai b k):c.post enc P a8 n h E i b m (.bool true) k:=by
 have M:=p;have r:=λa d=>p.lt a d;obtain⟨a,V,N,y,O,Q,R⟩:=p;rw[w]at y;obtain⟨rfl,rfl⟩:=trodVars_none y;obtain rfl:f7=a:=by simpa using O
 have z:∀f:Nat->Bool,(∀a∈f7,f a.block=true)->DataW.TrodAll enc P k 0 f true a8.params.toList m.toList (c.fn H (e++[])).args f7:=λf S=>by
  rw[J];exact vV F q L (λs t=>by simpa using r s t) (λs t=>S s t) N
 have A:∀(g:Nat) (f:Nat->Bool) (B:Bool),DataW.TrodAll enc P k g f B a8.resultTypes.toList ((Value.bool true).resultList a8.resultTypes.size) (c.fn H (e++[])).results []:=λg f B=>by
  rw[u,I];exact trodAll_cons_mk (shut_bool v _) trodAll_mk0
 have C:∀f:Nat->Bool,DataW.TrodVars enc P k f c.vars (c.fn H (e++[])).vars []:=λf=>by rw[K,w];exact rfl
 have T:∀a∈f7,(λg=>decide (g<b.heap.size)) a.block=true:=λa d=>by simpa using r a d
 refine⟨e,[],f7,[],f7,[],M,A _ _ _,z _ T,C _,World.keptBut_mono (λa d=>⟨d,Or.inr (by simpa using d)⟩) (q.below.frame (·∈f7)),λ_=>?_⟩;refine⟨ok_one u rfl (okWide_bool_mk v _),_,_,([]++f7)++[],⟨[]++f7,[],trodAll_append (z _ (λ_ _=>rfl)) (A _ _ _),C _,rfl,?_,?_⟩,?_⟩
 ·intro g j d
  have l:MemPlace.cell g j∈f7:=by simpa using d
  rw[q.below.frozen (p:=⟨g,j,none⟩) (r _ l)];exact Q g j (by simpa using l)
 ·intro U
  simpa using R U
 ·intro a d _
  simpa using d
end
end Go.aw
namespace Go.Proofs.YtjgjkeponbeekaaGreatDoor
open Go.aw
def aY(a P:World)(d:Nat)(D:ak)(b:ZN):Prop:=∃c,aU P d c D/\ai a P/\(∀n,c n->a.heap.size<=n/\¬b n)/\∀n,b n->n<P.heap.size
abbrev no:ZN:=λ_=>False
abbrev dS(n:ZN):ZN:=λP=>¬n P
variable{m:Array Value}{z:FuncId}{e:Int}{d3:Int×ak}{u:List UInt8}{a c:Nat}{f:ZN}{d:WP}
section
variable {w0 w w1 w':World} {p:Nat} {D D':ak} {X Y:ZN}
def aY.gr(n:aY w0 w p D X):ai w0 w:=by obtain⟨a,b,P,c,d⟩:=n;exact P
def aY.ok(n:aY w0 w p D X):D.Ok:=by obtain⟨a,P,b,c,d⟩:=n;exact P.ok
def aY.af(P:aY w0 w p D X)(n:ai w w'):aY w0 w' p D X:=by
 obtain⟨a,b,c,d,e⟩:=P;exact⟨a,b.af n,c.af n,d,λf g=>Qk (e f g) n.size⟩
def aY.mono(c:aY w0 w p D X)(a:∀n,Y n->X n):aY w0 w p D Y:=by
 obtain⟨d,e,f,b,g⟩:=c;exact⟨d,e,f,λn P=>⟨(b n P).1,λh=>(b n P).2 (a n h)⟩,λn P=>g n (a n P)⟩
def aY.add(P:aY w0 w p D X)(b:ai w w')(c:∀n,Y n->w.heap.size<=n/\n<w'.heap.size):aY w0 w' p D (λn=>X n\/Y n):=by
 obtain⟨f,d,g,e,h⟩:=P;exact⟨f,d.af b,g.af b,λn a=>⟨(e n a).1,λi=>i.elim (e n a).2 λj=>by have:=d.aE n a;have:=(c n j).1;omega⟩,λn a=>a.elim (λP=>Qk (h n P) b.size) λP=>(c n P).2⟩
def aY.of(a:ai w0 w)(b:ai w w')(e:aU w' p f D)(c:∀n,f n->w.heap.size<=n)(d:∀n,X n->n<w.heap.size):aY w0 w' p D X:=
 ⟨f,e,a.af b,λn P=>⟨Xx a.size (c n P),λg=>by have:=c n P;have:=d n g;omega⟩,λn P=>Qk (d n P) b.size⟩
def oe(w0 w:World)(p:Nat)(X:ZN)(n:Int×ak)(P:Value)(w':World):Prop:=P= ZH n.1/\aY w0 w' p n.2 X/\aj (dS X) w w'
def aY.WX(e:aY w0 w p D X)(d:ai w w1)(i:∀a,aU w1 p a D->(∀n,a n->w0.heap.size<=n/\n<w.heap.size/\¬X n)->PP z m w1 (Ok (vN w1 p a d3))):PP z m w1 (Ok (oe w0 w1 p X d3)):=by
 obtain⟨a,f,g,b,h⟩:=e;refine Calls.ok (i a (f.af d) λn P=>⟨(b n P).1,f.aE n P,(b n P).2⟩) ?_;rintro q w' ⟨j,k,l,c⟩;have:=d.size;have:=g.size;have:=c.keep.size;exact⟨k,⟨j,l,(g.af d).new c.keep λn P=>.inr (b n P).1,λn P=>(c.new n P).elim (b n) λe=>⟨oM,λo=>by have:=h n o;omega⟩,λn P=>by have:=h n P;omega⟩,c.keep.mono λn _ P=>(b n P).2⟩
def aY.call(a:aY w0 w p D X)(b:∀P,aU w p P D->(∀n,P n->w0.heap.size<=n/\n<w.heap.size/\¬X n)->PP z m w (Ok (vN w p P d3))):PP z m w (Ok (oe w0 w p X d3)):=a.WX (aj.refl w) b
def aY.append{e:ByteArray}(P:aY w0 w p D X)(b:Row gl 1 w f d a u)(j:d=none->a=0/\c=0)(g:∀n,f n->n<w0.heap.size\/X n):
  PP 178 #[ZL p,.string e,.slice d a c] w (Ok (oe w0 w p X (D.append e u))):=by
 have q:=P.gr.size;have k:∀n,X n->n<w.heap.size:=by obtain⟨l,r,s,t,m⟩:=P;exact m
 exact P.call λl o h=>yx o b j λn b=>⟨(g n b).elim (λP=>oM) (k n),λi=>(g n b).elim (λP=>by have:=(h n i).1;omega) (h n i).2.2⟩
def aY.create{n:ByteArray}(P:aY w0 w p D X):PP 170 #[ZL p,.string n] w (Ok (oe w0 w p X (D.create n))):=P.call λb a _=>yw a
def aY.sync{n:ByteArray}(P:aY w0 w p D X):PP 172 #[ZL p,.string n] w (Ok (oe w0 w p X (D.sync n))):=P.call λb a _=>Ev a
def aY.oh{k:ByteArray}(n:aY w0 w p D X):PP 169 #[ZL p,.string k,ZH e] w (Ok (oe w0 w p X (D.oh k e))):=n.call λa P _=>Ro P
def aY.delete{n:ByteArray}(P:aY w0 w p D X):PP 141 #[ZL p,.string n] w (Ok (oe w0 w p X (D.delete n))):=P.call λb a _=>yv a
def aY.read{k:ByteArray}(j:aY w0 w p D X):PP 162 #[ZL p,.string k] w (Ok λd w'=>∃a b c P,d= .tuple #[.slice a b c,ZH (D.read k).2]/\aV gl 5 P w' a b c (D.read k).1/\(∀n,P n->w.heap.size<=n)/\aY w0 w' p D (λn=>X n\/P n)/\ai w w'):=by
 obtain⟨P,e,l⟩:=j;refine Calls.ok (xJ e) ?_;rintro d w' ⟨m,rfl,a,b,c,G,rfl,f,g,h⟩;exact⟨a,b,c,G,rfl,f,h,aY.add ⟨P,e,l⟩ g λn i=>⟨h n i,f.aE n i⟩,g⟩
def aY.list(j:aY w0 w p D X):PP 160 #[ZL p] w (Ok λd w'=>∃a b c P,d= .slice a b c/\aV Oz 9 P w' a b c D.list/\(∀n,P n->w.heap.size<=n)/\aY w0 w' p D (λn=>X n\/P n)/\ai w w'):=by
 obtain⟨P,e,k⟩:=j;refine Calls.ok (xK e) ?_;rintro d w' ⟨a,b,c,G,rfl,f,g,h⟩;exact⟨a,b,c,G,rfl,f,h,aY.add ⟨P,e,k⟩ g λn i=>⟨h n i,f.aE n i⟩,g⟩
end
def gQ(n:Nat):ak:=⟨n,[],false,0,false⟩
variable{A:ZT}{s:List Int}{b k:World}
def tN(g:ai b k)(l:64<=e)(m:e<=262144):PP 42 #[ZH e] k (Ok λa P=>∃n,a= .tuple #[ZL n,ZH 0]/\aY b P n (gQ e.toNat) (λc=>c<k.heap.size)/\ai k P):=by
 refine Calls.ok OA ?_;intro a P d;rw[Zq oM]at d;obtain⟨n,o,rfl,h,f,i⟩:=d;exact⟨n,rfl,aY.of g f h i λc j=>j,f⟩
def IZ{D:ak}(n:D.Ok)(P:ByteArray):(D.read P).1.length<=262144:=by
 unfold ak.read;split
 ·simp
 ·split
  ·simp
  ·rename_i b a;exact n.len (cm a)
def nA:ByteArray:=⟨#[97]⟩
open Go.aw Go.ChangeShapes Go.WideShapes Go.ChangeAt Go.RowKit
section
variable {w0 w w1 w':World} {p:Nat} {D D':ak} {X Y:ZN}
def aY.bA(P:aY w0 w p D X)(g:qP w0)(j:Row aP 8 w f d a s)(k:∀l∈s,aM l)(h:∀n,f n->n<w0.heap.size\/X n):
  PP 112 #[ZL p,.agg #[.slice d a c]] w (Ok (oe w0 w p X (bA D s))):=by
 have t:=P.gr.size;have m:∀n,X n->n<w.heap.size:=by obtain⟨o,u,v,x,q⟩:=P;exact q
 have y:=g.lt;exact P.call λo r e=>Cr (g.af P.gr) r j k (λn b=>⟨(h n b).elim (λP=>oM) (m n),λi=>(h n b).elim (λP=>by have:=(e n i).1;omega) (e n i).2.2⟩) λn b=>by have:=(e n b).1;omega
def aY.iS(c:aY w0 w p D X)(j:qP w0):PP 109 #[ZL p] w (Ok λd w'=>∃P a b G,d= .tuple #[.agg #[.slice P a b],.bool (dz D).isSome]/\aV aP 3 G w' P a b ((dz D).getD [])/\
  (∀n,G n->w.heap.size<=n)/\aY w0 w' p D (λn=>X n\/G n)/\ai w w'):=by
 have k:=c.gr;obtain⟨l,e,m⟩:=c;refine Calls.ok (DO (j.af k) e) ?_;rintro d w' ⟨P,a,b,G,rfl,f,g,h⟩;exact⟨P,a,b,G,rfl,f,h,aY.add ⟨l,e,m⟩ g λn i=>⟨h n i,f.aE n i⟩,g⟩
end
def No{D:ZN}{P bytes:Nat}(a:Row aP bytes b D d P s):∀n∈s,aM n:=λn c=>by
 obtain⟨e,f⟩:=List.mem_iff_getElem?.1 c;obtain⟨i,g,j,-,-,-,-,h⟩:=a.el e n f;exact h.2
def Em{D:ak}:((dz D).getD []).length<=64:=by
 unfold dz;split
 ·simp
 ·cases n:iS (D.read bW).1 with
  |none=>simp
  |some P=>exact(Pc n).2
def tn:(aO==bW)=false:=by decide+kernel
def TC:cY aO=true:=by decide+kernel
def IF:cY bW=true:=by decide+kernel
def zP:lx:=⟨[(6,[(8,.slice none 0 0),(9,ZH 0)])],[],[],[],[]⟩
def zQ(a0:PC_ 146 #[.ii e] b (λa3 a4=>∃o,a3= .string o/\PC_ 162 #[.pointer d,.string o] a4 (λa5 p=>∃q k l r,a5= .tuple #[.slice q k l,.ii r]/\al (r !=0) (rt A ((.tuple #[.slice none 0 0,.ii 0])) p) ((∃m:Nat->WP->Nat->Nat->Int->ZU,(∃j,m j none 0 0 0 p)/\∀(j:Nat) (c:WP) (f:Nat) (g:Nat) (a:Int) (c9:Nat->Value) (s:World),m j c f g a s->((0:Int)<=a/\(a:Int)<=(k:Int)/\PC_ 163 #[.slice (dd q (Int.toNat a) l 1) (k-Int.toNat a) (l-Int.toNat a)] s (λa6 h=>∃t u v w x y,a6= .tuple #[.agg #[.ii t,.slice u v w],.ii x,.ii y]/\PA h (.cells #[.ii 0,.slice none 0 0] 277) λa7=>PS a7 (ab_ h 0) (.ii t) λa8=>PS a8 (ab_ h (0+1)) (.slice u v w) λi=>al (y !=0) (rt A ((.tuple #[.slice c f g,.ii a])) i) ((rI i (ab_ h 0) λa9=>al (a9 !=1) (rt A ((.tuple #[.slice c f g,.ii a])) i) ((rS i (ab_ h (0+1)) λb0 b1 b2=>PC_ 231 #[.slice b0 b1 b2] i (λb3 n=>∃z B D C E G F H I J K L M,b3= .tuple #[.agg #[.ii z,.ii B,.ii D,.slice C E G,.ii F,.ii H,.ii I,.ii J,.ii K,.ii L],.ii M]/\PA n (.cells #[.ii 0,.ii 0,.ii 0,.slice none 0 0,.ii 0,.ii 0,.ii 0,.ii 0,.ii 0,.ii 0] 63) λb4=>PS b4 (ab_ n 0) (.ii z) λb5=>PS b5 (ab_ n (0+1)) (.ii B) λb6=>PS b6 (ab_ n (0+2)) (.ii D) λb7=>PS b7 (ab_ n (0+3)) (.slice C E G) λb8=>PS b8 (ab_ n (0+4)) (.ii F) λb9=>PS b9 (ab_ n (0+5)) (.ii H) λc0=>PS c0 (ab_ n (0+6)) (.ii I) λc1=>PS c1 (ab_ n (0+7)) (.ii J) λc2=>PS c2 (ab_ n (0+8)) (.ii K) λc3=>PS c3 (ab_ n (0+9)) (.ii L) λP=>al (M !=0) (rt A ((.tuple #[.slice c f g,.ii a])) P) ((∃N O Q R S T U V W X Y Z,P.cell? (ab_ n 0)=some (.ii N)/\P.cell? (ab_ n (0+1))=some (.ii O)/\P.cell? (ab_ n (0+2))=some (.ii Q)/\P.cell? (ab_ n (0+3))=some (.slice R S T)/\P.cell? (ab_ n (0+4))=some (.ii U)/\P.cell? (ab_ n (0+5))=some (.ii V)/\P.cell? (ab_ n (0+6))=some (.ii W)/\P.cell? (ab_ n (0+7))=some (.ii X)/\P.cell? (ab_ n (0+8))=some (.ii Y)/\P.cell? (ab_ n (0+9))=some (.ii Z)/\PA P (.cells #[.ii N,.ii O,.ii Q,.slice R S T,.ii U,.ii V,.ii W,.ii X,.ii Y,.ii Z] 63) λc4=>PR_ (ap_ 59 (.slice c f g) (.slice (some (ab_ P 0)) 1 1)) c4 (kS_ λc5 c6 c7 c8=>(∃a2,a2<j/\m a2 c5 c6 c7 (ZG .i64 (a+x)) c8)) (pV A)))) (pE A)))))) (pE A))))) (pE A)) (pE A)):PP 168 #[.pointer d,.ii e] b A:=DC zP Tryz.func168 rfl a0
end Go.Proofs.YtjgjkeponbeekaaGreatDoor
namespace Go.aw
open Go
variable{H:List ah}{l:ah}
def rk(n:l.Ok)(P:l.aN.length<=64):gT l=(od l,0):=by
 have c:=EM n P;have a:jw l=(bj (fX l),0):=by unfold jw;rw[Zq oM]
 have b:kY 1 (bj (fX l))=(od l,0):=by unfold kY od;rw[Zq dC,Zq oM]
 unfold gT;rw[a];simp only;rw[b];simp
def yp(P:¬l.aN.length<=64):gT l=([],3):=by
 have n:jw l=([],3):=by unfold jw;rw[Zx oM]
 unfold gT;rw[n];simp
def ends(n:List ah):List Int:=(List.range n.length).map λP=>((az (n.take (P+1))).length:Int)
def Cm{l:List ah}{i j:Nat}(n:i<=j):(az (l.take i)).length<=(az (l.take j)).length:=by
 have:l.take j=l.take i++(l.take j).drop i:=by
  conv=>lhs;rw[<-ZX i (l.take j)]
  rw[List.take_take,X2 n]
 rw[this,gv,QX];omega
def IA(P:∀n∈H,n.Ok/\n.aN.length<=64):(az H).length<=675*H.length:=by
 induction H with
 |nil=>simp[az]
 |cons n H a=>
  rw[ir,QX,Xq];have d:=JS (P n (QV ..)).1 (P n (QV ..)).2;have e:=a λb c=>P b (QJ _ c);omega
end Go.aw
namespace Go.Proofs.YtjgjkeponbeekaaGreatDoor
open Go.aw
variable{e:Int}
def Jk(b:0<=e)(c:e<1000000000000):cY (⟨(ax e).toArray⟩:ByteArray)=true:=by
 have d:=CG e;have f:=uN e.toNat;have a:=mN b c;have g:(⟨(ax e).toArray⟩:ByteArray).size=(ax e).length:=by simp[ByteArray.size]
 unfold cY;rw[g,QK,QK,Zk,Zk];refine⟨⟨by rw[a,QX];show 1<=4+_;omega,d⟩,?_⟩;show(ax e).all eG=true;rw[a,List.all_append,QK];refine⟨dC,ZY.2 λn P=>?_⟩;have:=ZY.1 f.2.1 n P;have h:∀n:UInt8,gS n=true->eG n=true:=by
  intro n;have i:(List.range 256).all (λe=>!(gS (UInt8.ofNat e))||eG (UInt8.ofNat e))=true:=by decide+kernel
  have:=ZY.1 i n.toNat (List.mem_range.2 n.toNat_lt);rw[UInt8.ofNat_toNat]at this;intro j;rw[j]at this;simpa using this
 exact h n this
end Go.Proofs.YtjgjkeponbeekaaGreatDoor
namespace Go.aw
open Go
end Go.aw
namespace Go.Proofs.YtjgjkeponbeekaaGreatDoor
section
open Go.aw
variable{a c:Nat}{f:ZN}{d:WP}{j:Type}{b:World}{l:ah}
def En{D:ZN}(r:Laid b)(s:Row aP 8 b D d a l.aN)(i:l.Ok)(t:∀P,D P->P<b.heap.size):
  PP 205 #[.agg (aH l d a c).toArray] b (Ok λu j=>∃k m o p,u= .tuple #[.slice k m o,ZH (gT l).2]/\aV gl 5 p j k m o (gT l).1/\ai b j/\∀P,p P->b.heap.size<=P):=by
 refine zG (PA.mk λC e E n=>?_);refine⟨_,_,_,_,_,_,_,_,_,_,_,_,ae n rfl,ae n rfl,ae n rfl,ae n rfl,ae n rfl,ae n rfl,ae n rfl,ae n rfl,ae n rfl,ae n rfl,
  PC.ok (OD (s.af e) i λP h=>Qk (t P h) e.size) ?_⟩
 rintro _ v ⟨_,rfl,F,H,I,J,rfl,q,f,K⟩;refine⟨_,_,_,_,rfl,al.eO (λw=>?_) (λx=>?_)⟩
 ·rw[show gT l=([],(jw l).2) by unfold gT;rw[Zx w]]
  exact Ok.mk ⟨none,0,0,λ_=>False,rfl,aV.nil v,e.then f,λ_ g=>g.elim⟩
 rw[show gT l=kY 1 (jw l).1 by unfold gT;rw[Zq (by simpa using x)]];have L:(jw l).1.length<=666:=by
  by_cases g:64<l.aN.length
  ·simp[jw,g]
  ·have:=EM i oM
   simpa[jw,g]using this
 refine PC.ok (EB (r.af (e.then f)).qf (q.row (bytes:=1) dC ba) q.aE) ?_;rintro _ M ⟨_,rfl,N,O,Q,y,rfl,z,A,B⟩;refine⟨_,_,_,_,rfl,Ok.mk ⟨_,_,_,y,rfl,z,(e.then f).then A,λP h=>?_⟩⟩;have:=B P h;have:=(e.then f).size;omega
def Sv{n:List j}(b:n.length=a)(P:Nat):(n.take a).drop P=n.drop P:=by rw[Qz oM]
def R_{D:ak}{no:Int}(O:Laid b)(Q:aU b a f D)(hn:aM no):
  PP 168 #[ZL a,ZH no] b (Ok λB d=>∃o p q G,B= .tuple #[.slice o p q,ZH ((bE (D.read (cF (ax no))).1).2:Int)]/\
   aV vQ 63 G d o p q (bE (D.read (cF (ax no))).1).1/\ai b d/\(∀P,G P->b.heap.size<=P)/\(bE (D.read (cF (ax no))).1).1.length<=262144):=by
 refine zQ (PC.ok (kh O hn) ?_);rintro _ w1 ⟨rfl,u⟩;refine⟨_,rfl,PC.ok (xJ (Q.af u)) ?_⟩;rintro _ r ⟨_,rfl,a4,R,c2,F2,rfl,l,C,c3⟩;have S:=IZ Q.ok (cF (ax no));have E:(D.read (cF (ax no))).2≠0->(D.read (cF (ax no))).1=[]:=by
  unfold ak.read;split
  ·intro _;rfl
  ·split
   ·intro _;rfl
   ·intro h;exact Zz rfl h
 generalize D.read (cF (ax no))=rd at l S E;obtain⟨c,er⟩:=rd;simp only at l S E⊢;refine⟨_,_,_,_,rfl,al.eO (λk=>?_) (λhe=>?_)⟩
 ·rw[E k,rU]
  exact Ok.mk ⟨none,0,0,λ_=>False,rfl,aV.nil r,u.then C,λ_ h=>h.elim,sM⟩
 have b2:=l.len dC;have b3:=l.lA;have a9:Row gl 1 r F2 a4 R c:=l.row dC ba;refine⟨λT v w y F d=>∃(n:Nat) (g:List ah) (G:ZN),F=n/\n<=c.length/\T=c.length-n/\bE c=(g++(bE (c.drop n)).1,n+(bE (c.drop n)).2)/\g.length<=n/\
  aV vQ 63 G d v w y g/\ai r d/\∀P,G P->r.heap.size<=P,⟨_,0,[],λ_=>False,rfl,Qj _,rfl,sM,sM,aV.nil r,aj.refl _,λ_ h=>h.elim⟩,?_⟩
 rintro T v w y _ _ U ⟨n,g,G,rfl,c5,rfl,V,c6,s,m,H⟩;refine⟨oM,oM,?_⟩;have W:ai b U:=(u.then C).then m;have X:=(a9.af m).part (lo:=n) (hi:=R) (cap:=c2) oM (Q4 _) b3;rw[Sv b2.symm]at X;rw[Qx];refine PC.ok (EC (O.af W).qf X oM λP e=>by have:=l.aE P e;have:=m.size;omega) ?_;rintro _ I ⟨b0,n4,c4,F4,rfl,b4,z,c8⟩;have i:¬((br (c.drop n)).no=0/\(br (c.drop n)).kind=1/\(iY (br (c.drop n)).body).2=0)->∀d,ai I d->
   Ok (λB d=>∃o p q G,B= .tuple #[.slice o p q,ZH ((bE c).2:Int)]/\aV vQ 63 G d o p q (bE c).1/\ai b d/\(∀P,G P->b.heap.size<=P)/\(bE c).1.length<=262144) (.returned (.tuple #[.slice v w y,ZH (n:Int)])) d:=by
  intro h d Y;rw[V,CF h];refine Ok.mk ⟨v,w,y,G,sM,by simpa using(s.af z).af Y,(W.then z).then Y,λP e=>?_,by simp;omega⟩;have:=H P e;have:=(u.then C).size;omega
 refine⟨_,_,_,_,_,_,rfl,PA.mk λw5 k5 s5 g5=>?_⟩;refine storeAll [ZH (br (c.drop n)).kind,.slice b0 n4 c4] g5 rfl λJ k6 s6 Z=>?_;have t:ai I J:=k5.new k6 λP e=>.inr oM;refine al.eO (λk=>i (λh=>k h.1) J t) (λa0=>?_);refine⟨_,ae Z rfl,al.eO (λk=>i (λh=>k h.2.1) J t) (λb1=>?_)⟩;obtain⟨b5,h9,c9⟩:=vU a0;rw[XZ]at b5;have a1:=b4.af t;refine⟨_,_,_,ae Z rfl,PC.ok (OE (a1.row (bytes:=1) dC ba) a1.aE) ?_⟩;rintro _ w7 ⟨a7,n7,c7,F7,rfl,K,k7,a3⟩;obtain⟨L,a5⟩:=Sw (br (c.drop n)).body;generalize M:iY (br (c.drop n)).body=b6 at K L a5;obtain⟨x,xe⟩:=b6;simp only at K L a5;refine⟨_,_,_,_,_,_,_,_,_,_,_,_,_,rfl,PA.mk λw8 k8 s8 g8=>?_⟩;refine storeAll (aH x a7 n7 c7) g8 rfl λA k9 s9 j=>?_;have a6:ai w7 A:=k8.new k9 λP e=>.inr oM;have a8:ai I A:=(t.then k7).then a6;refine al.eO (λk=>i (λh=>k (by have:=h.2.2;rw[M]at this;exact this)) A a8) (λb7=>?_);refine⟨_,_,_,_,_,_,_,_,_,_,_,_,ae j rfl,ae j rfl,ae j rfl,ae j rfl,ae j rfl,ae j rfl,ae j rfl,ae j rfl,ae j rfl,ae j rfl,?_⟩;have N:ai U A:=z.then a8;have b8:=s.af N;have a2:=K.af a6;have d0:=(z.then t).size;refine NM b8 Kh (x:=x) (D:=F7) ⟨a7,n7,c7,F7,rfl,a2,λ_ h=>h,L,by unfold aT;omega⟩ (λP e=>⟨a2.aE P e,λhc=>?_⟩) ba (by unfold maxLen;omega) λa' c' d1 F' b9 c0 c1 _=>?_
 ·have h1:=s.aE P (s.self P hc)
  have h2:=a3 P e;omega
 refine⟨_,_,_,rfl,_,?_,n+(br (c.drop n)).n,g++[x],F',?_,oM,rfl,?_,by simp;omega,b9,?_,?_⟩
 ·omega
 ·rw[wrap_i64 bc];omega
 ·rw[V,yO ⟨a0,b1,by rw[M];exact b7⟩,M,List.drop_drop]
  simp only[XQ,List.cons_append,List.nil_append,Nat.add_assoc]
 ·exact(m.then N).new c0 λP e=>.inr (H P (s.self P e))
 ·intro P e
  have hz:=(m.then N).size;have d2:=m.size;rcases c1 P e with h|h|h
  ·exact H P h
  ·have:=a3 P h;omega
  ·omega
end
section
open Go.aw
variable{m:Array Value}{z:FuncId}{e:Int}{d3:Int×ak}{s:List Int}{a c:Nat}{f:ZN}{d:WP}{b:World}
def bP{D:ZN}(h:Row aP 8 b D d a s)(f:∀n,D n->n<b.heap.size):
  PP 92 #[.slice d a c] b (Ok (qC aP 3 b s)):=by
 have x:=h.len;have P:=h.fj;refine oZ (k_ uW.under ⟨_,rfl,al.mk (λe=>?_) (λe=>PA.mk λj g y k=>?_)⟩)
 ·have:s=[]:=by
   cases d with
   |none=>
    cases s with
    |nil=>rfl
    |cons l z=>obtain⟨n,m,A,o,_⟩:=h.el 0 l rfl;cases o
   |some p=>cases e
  subst this;exact Ok.mk ⟨none,0,0,λ_=>False,rfl,aV.nil b,aj.refl _,λ_ h=>h.elim⟩
 ·cases d with
  |none=>cases e
  |some p=>
   have q:aV aP 3 (·=b.heap.size) j (ZM b.heap.size) 0 0 []:=
    ⟨⟨[],λ_=>False,Own.AD (cur:= #[]) k rfl (Qj _),rfl,λ_ h=>h.elim⟩,λn P=>by simpa[aG]using P.symm,λn P=>oM⟩
   refine lK q uW (D:=D) (h.af g) (λn P=>⟨by have:=f n P;omega,by have:=f n P;simp only[aG];intro r;cases r;omega⟩) be (by unfold aT at P;unfold maxLen;simp;omega) λi t B C u v _ w=>?_;refine⟨_,_,_,rfl,Ok.mk ⟨i,_,t,λn=>aG i=some n,rfl,by have h:=u.alone;rw[List.nil_append]at h;exact h,g.new v λn P=>.inr ?_,λn P=>?_⟩⟩
   ·simp only[aG,Q1]at P;omega
   ·rcases w n P with h|h<;>omega
def eF(n:Int)(P:ByteArray):Int:=if(gZ P).2 then max n ((gZ P).1+1)else n
def tD(n:List ByteArray):Int:=n.foldl eF 1
def ix(D:ak):Int:=tD D.list
def EK(n:ByteArray):0<=(gZ n).1/\(gZ n).1<1000000000000:=by
 unfold gZ;split
 ·rename_i a P
  have:=(Cj P).2;simp;omega
 ·simp
def GW(P:1<=e/\e<=1000000000000)(n:ByteArray):1<=eF e n/\eF e n<=1000000000000:=by
 have:=EK n;unfold eF;split<;>omega
def Jf:∀(P:List ByteArray) (n:Int),(1<=n/\n<=1000000000000)->1<=P.foldl eF n/\P.foldl eF n<=1000000000000
 |[],n,a=>a
 |s::P,n,a=>Jf P _ (GW a s)
def ss(n:List ByteArray):1<=tD n/\tD n<=1000000000000:=Jf n 1 oM
def Jg{D:ak}(s:Laid b)(h:aU b a f D):
  PP 108 #[ZL a] b (Ok λt d=>t= ZH (ix D)/\ai b d):=by
 refine Dw (PC.ok (xK h) ?_);rintro _ i ⟨u,c,z,G,rfl,j,k,A⟩;have B:D.list.length<=64:=by rw[oS];exact h.ok.many
 have C:=j.len dC;have v:Row Oz 16 i G u c D.list:=j.row dC ba;refine⟨_,_,_,rfl,λl m o d=>∃n:Nat,o=n/\n<=c/\l=c-n/\m=tD (D.list.take n)/\ai i d,⟨_,0,rfl,Qj _,rfl,rfl,aj.refl _⟩,?_⟩;rintro l m o _ E ⟨n,rfl,F,rfl,rfl,P⟩;refine al.dec (λH=>?_) (λI=>?_)
 ·obtain⟨w,e,p,rfl,x,_,y⟩:=(v.af P).oF (i:=n) oM
  refine⟨w,e,rfl,oM,oM,_,y,PC.ok (Be (s.af (k.then P))) ?_⟩;rintro _ J ⟨rfl,q⟩;have K:=EK p;have L:=ss (D.list.take n);have r:tD (D.list.take (n+1))=eF (tD (D.list.take n)) p:=by
   unfold tD;rw[Qw,x,List.foldl_append];rfl
  refine⟨_,_,rfl,al.mk (λg=>⟨_,?_,n+1,an oM,oM,rfl,?_,P.then q⟩) (λg=>⟨_,?_,n+1,an oM,oM,rfl,?_,P.then q⟩)⟩
  ·omega
  ·rw[r,wrap_i64 bc]
   unfold eF;rw[Zx g];split<;>omega
  ·omega
  ·rw[r];unfold eF;rw[Zq (by simp[g])]
 ·obtain rfl:n=c:=oM
  rw[Qz oM];exact Ok.mk ⟨rfl,k.then P⟩
structure dv where
 size:Int
 a_:List Int
 bytes:Int
 next:Int
structure ju (w:World) (p q:Nat) (G:ZN) (V:dv):Prop where
 body:∃a n c E,w.heap[q]? =some (.cells #[ZL p,ZH V.size,.slice a n c,ZH V.bytes,ZH V.next] 209 (0,0))/\aV aP 3 E w a n c V.a_/\∀b,E b->G b/\b≠q
 self:G q
 aE:∀b,G b->b<w.heap.size
 many:V.a_.length<=64
 By:aM V.next
section
variable {w0 w w1 w':World} {p q:Nat} {D D':ak} {V V':dv} {X Y G S:ZN}
def ju.keep(P:ju w p q G V)(a:aj S w w')(c:∀n,G n->¬S n):ju w' p q G V:=by
 obtain⟨e,f,g,h,i,j,d⟩:=P.body;exact⟨⟨e,f,g,h,a.get i (c q P.self),j.keep a λn b=>c n (d n b).1,d⟩,P.self,λn b=>Qk (P.aE n b) a.size,P.many,P.By⟩
def ju.af(n:ju w p q G V)(P:ai w w'):ju w' p q G V:=n.keep P λ_ _ n=>n
def cE(w0 w:World)(p q:Nat)(V:dv)(D:ak)(X:ZN):Prop:=∃G,aY w0 w p D (λn=>X n\/G n)/\ju w p q G V/\∀n,G n->w0.heap.size<=n/\¬X n
def cE.gr(n:cE w0 w p q V D X):ai w0 w:=by obtain⟨G,P,a,b⟩:=n;exact P.gr
def cE.ok(n:cE w0 w p q V D X):D.Ok:=by obtain⟨G,P,a,b⟩:=n;exact P.ok
def cE.many(n:cE w0 w p q V D X):V.a_.length<=64:=by obtain⟨G,a,P,b⟩:=n;exact P.many
def cE.By(n:cE w0 w p q V D X):aM V.next:=by obtain⟨G,a,P,b⟩:=n;exact P.By
def cE.aE(P:cE w0 w p q V D X):∀n,X n->n<w.heap.size:=by obtain⟨G,⟨c,d,e,f,a⟩,g,h⟩:=P;exact λn b=>a n (.inl b)
def cE.YO(P:cE w0 w p q V D X):q<w.heap.size/\w0.heap.size<=q/\¬X q:=by obtain⟨G,b,n,a⟩:=P;exact⟨n.aE q n.self,a q n.self⟩
def cE.uG(n:cE w0 w p q V D X):aY w0 w p D X:=by obtain⟨G,P,b,c⟩:=n;exact P.mono λd a=>.inl a
def cE.af(P:cE w0 w p q V D X)(n:ai w w'):cE w0 w' p q V D X:=by
 obtain⟨G,a,b,c⟩:=P;exact⟨G,a.af n,b.af n,c⟩
def cE.mono(c:cE w0 w p q V D X)(a:∀n,Y n->X n):cE w0 w p q V D Y:=by
 obtain⟨G,d,e,b⟩:=c;exact⟨G,d.mono λn P=>P.imp (a n) id,e,λn P=>⟨(b n P).1,λf=>(b n P).2 (a n f)⟩⟩
def cE.add(e:cE w0 w p q V D X)(a:ai w w')(b:∀n,Y n->w.heap.size<=n/\n<w'.heap.size):cE w0 w' p q V D (λn=>X n\/Y n):=by
 obtain⟨G,f,c,d⟩:=e;refine⟨G,(f.add a b).mono λn P=>?_,c.af a,λn P=>⟨(d n P).1,λg=>g.elim (d n P).2 λh=>by have:=c.aE n P;have:=(b n h).1;omega⟩⟩;rcases P with(P|P)|P
 ·exact .inl (.inl P)
 ·exact .inr P
 ·exact .inl (.inr P)
def cE.other(f:cE w0 w p q V D X)(a:aj Y w w')(b:∀n,Y n->X n/\w0.heap.size<=n):cE w0 w' p q V D X:=by
 obtain⟨G,⟨g,h,i,d,j⟩,k,e⟩:=f;exact⟨G,⟨g,h.keep a λn P c=>(d n P).2 (.inl (b n c).1),i.new a λn P=>.inr (b n P).2,d,λn P=>Qk (j n P) a.size⟩,k.keep a λn P c=>(e n P).2 (b n c).1,e⟩
def cE.on(d:cE w0 w p q V D X)(e:∀a,(∀n,X n->a n)->aY w0 w p D a->PP z m w (Ok (oe w0 w p a d3))):PP z m w (Ok λb w'=>b= ZH d3.1/\cE w0 w' p q V d3.2 X/\aj (dS X) w w'):=by
 obtain⟨G,f,g,h⟩:=d;refine Calls.ok (e _ (λn P=>.inl P) f) ?_;rintro b w' ⟨i,j,c⟩;exact⟨i,⟨G,j,g.keep c λn P k=>k (.inr P),h⟩,c.mono λn _ P l=>P (.inl l)⟩
def dv.last(V:dv):ByteArray:=cF (ax (V.a_.getLast?.getD 0))
def ju.row(d:ju w p q G V):∃P n b a,w.heap[q]? =some (.cells #[ZL p,ZH V.size,.slice P n b,ZH V.bytes,ZH V.next] 209 (0,0))/\Row aP 8 w a P n V.a_/\(∀c,a c->G c/\c≠q)/\n=V.a_.length:=by
 obtain⟨P,n,b,a,f,e,g⟩:=d.body;have:=d.many;exact⟨P,n,b,a,f,e.row dC ba,g,e.len dC⟩
def Jh(d:Laid w)(b:ju w p q G V)(e:V.a_≠[]):PP 206 #[ZL q] w (Ok λf w'=>f= .string V.last/\ai w w'):=by
 obtain⟨u,P,v,x,g,h,y,i⟩:=b.row;have z:0<V.a_.length:=List.length_pos_iff.2 e;have A:=b.many;refine vw λw1 j=>?_;have n:ai w w1:=j.keep;have c:=n.get g id;have k:ZG .i64 ((P:Int)-1)=((P-1:Nat):Int):=by rw[wrap_i64 bc];omega
 obtain⟨l,a,m,rfl,o,r,s⟩:=(h.af n).oF (i:=P-1) oM;refine⟨q,0,rfl,_,_,_,ae c rfl,q,0,rfl,_,_,_,ae c rfl,l,a,rfl,?_⟩;rw[k];refine⟨oM,oM,m,s,PC.ok (kh (d.af n) r) ?_⟩;rintro _ B ⟨rfl,t⟩;refine⟨_,rfl,Ok.mk ⟨?_,n.then t⟩⟩;unfold dv.last;rw[List.getLast?_eq_getElem?,<-i,o];rfl
def Ji(i:Laid w0)(f:cE w0 w p q V D X)(j:V.a_≠[]):PP 135 #[ZL q] w (Ok λk w'=>k= ZH (D.sync V.last).1/\cE w0 w' p q V (D.sync V.last).2 X/\aj (dS X) w w'):=by
 refine vr λw1 l=>?_;have c:ai w w1:=l.keep;have m:=f.af c;obtain⟨G,o,n,g⟩:=m;obtain⟨y,z,A,B,r,C,E,h⟩:=n.row;have F:=g q n.self;have H:=n.aE q n.self;refine⟨λa=>a≠q/\¬X a,q,0,rfl,λs=>s.1 rfl,_,ae r rfl,PC.ok (Jh (i.af (f.gr.then c)) n j) ?_⟩;rintro _ I ⟨rfl,b⟩;have t:=n.af b;have u:=o.af b;refine⟨_,rfl,b.keep,PC.ok u.sync ?_⟩;rintro _ J ⟨rfl,v,d⟩;refine⟨_,rfl,d.mono λa _ P=>⟨λx=>P (.inr (x▸n.self)),λe=>P (.inl e)⟩,Ok.mk ⟨rfl,⟨G,v,t.keep d λa P h=>h (.inr P),g⟩,?_⟩⟩;exact(ai.keep (c.then b)).then (d.mono λa _ P e=>P (.inl e))
def Gy(n:ju w p q G V):PP 145 #[ZL q] w (Ok (qC aP 3 w V.a_)):=by
 obtain⟨i,j,k,l,a,b,c,m⟩:=n.row;refine qp ⟨q,0,rfl,_,_,_,ae a rfl,PC.ok (bP b λP d=>n.aE P (c P d).1) ?_⟩;rintro _ w1 ⟨o,r,s,e,rfl,f,g,h⟩;exact⟨_,_,_,rfl,Ok.mk ⟨_,_,_,e,rfl,f,g,h⟩⟩
def Rj(n:ju w p q G V):PP 144 #[ZL q] w (Ok λP w'=>P= ZH V.next/\w=w'):=by
 obtain⟨b,c,d,e,a,f,g,h⟩:=n.row;exact vv ⟨q,0,rfl,_,ae a rfl,Ok.mk ⟨rfl,rfl⟩⟩

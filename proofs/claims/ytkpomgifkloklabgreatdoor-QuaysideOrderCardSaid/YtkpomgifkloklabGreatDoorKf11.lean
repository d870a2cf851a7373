import Derived.Test.YtkpomgifkloklabGreatDoorKf10
import Derived.Lib.AppendIntMem
import Derived.Laws.Concat
import Derived.Shelf.SlSortCmp.WholeK
import Derived.Shelf.SlMaps.Clone
import Derived.Ground.SlsfProg
import Derived.Ground.SlmcProg
import Derived.Shelf.SlGeneric
import Derived.Shelf.SlSortCmp.NoneTotal
import Derived.Laws.StructEq
import Derived.Carry
import Derived.SizedLaws
import Derived.WalkKit
import Derived.ProofKit
import Derived.OpenShut
import Derived.Deep.DeepHandedRow
import Derived.Deep.Slices
set_option maxHeartbeats 4000000
set_option linter.all false
set_option maxRecDepth 100000
open Go.IntKind renaming wrap→PP
namespace Go.Proofs.YtkpomgifkloklabGreatDoor
open Go.aw
def g_(n:List (ByteArray×od)):Nat:=(n.map λP=>P.2.f.bytes.length).sum
def EF(n:List (ByteArray×od)):g_ n=fe (n.map vO):=by unfold g_ fe;rw[List.map_map];rfl
variable{x:ByteArray}{f9 h4:List (ByteArray×Value)}{a4:List (ByteArray×od)}{u:List UInt8}{a c i:Nat}{Z f:UL}{d:bc}{j:Type}{w:Value}{b:World}
def xO{left:List (ByteArray×od)}(c:left.map eF=f9++(x,w)::h4):
  ∃n P a,left=n++(x,P)::a/\f9=n.map eF/\h4=a.map eF/\w=ptr P.q:=by
 obtain⟨n,j,d,e,f⟩:=List.map_eq_append_iff.1 c;obtain⟨g,a,h,b,i⟩:=List.map_eq_cons_iff.1 f;obtain⟨k,P⟩:=g;simp only[eF,Prod.mk.injEq]at b;obtain⟨rfl,rfl⟩:=b;exact⟨n,P,a,by rw[d,h],e.symm,i.symm,rfl⟩
def Pg{D:ak}(g:aV b a f D):
  be 231 #[RK a] b (Ok λj h=>j= WP D.room/\ai b h):=by
 obtain⟨k,P,c⟩:=g.open;have Q:=c.ok.most;have l:=c.ok.fits;unfold ak.used at l;rw[c.files,<-EF]at l;refine vD ⟨a,0,rfl,_,ae c.head rfl,a,0,rfl,some k,ae c.head rfl,mapRange mF c.map λR v w S=>?_⟩;refine⟨λm o h=>∃left:List (ByteArray×od),cU h b.heap.size k Value.string (P.map eF) (left.map eF)/\m=left.length/\o=(D.most:Int)-g_ P+g_ left/\g_ left<=g_ P/\ai b h/\∀n∈left,n∈P,
  ⟨_,P,v,rfl,oM,Q4 _,w,λ_ g=>g⟩,?_⟩
 rintro m o T U ⟨left,x,rfl,rfl,V,p,q⟩;refine oe x (λy=>.inl ⟨rfl,Ok.mk ⟨?_,p⟩⟩) λi j W X r z A B C Y=>.inr ⟨_,_,rfl,rl B ?_⟩
 ·have:left=[]:=by simpa using y
  subst this;simp only[g_,List.map_nil,List.sum_nil,ak.room,ak.used];rw[c.files,<-EF];simp[g_]
 ·obtain⟨e,n,d,rfl,rfl,rfl,rfl⟩:=xO z
  have E:(i,n)∈P:=q _ sM;have s:ai b r:=p.new C λd Z=>.inr oM;have F:eK r n.q n.G n.f:=(c.each.each _ E).keep s λ_ _ g=>g;obtain⟨H,t,I,F0,J,K,h3,h4⟩:=F.body;have L:=K.len dC;have M:g_ (e++(i,n)::d)=g_ (e++d)+n.f.bytes.length:=by simp[g_];omega
  have N:PP .i64 ((D.most:Int)-g_ P+g_ (e++(i,n)::d)-((t:Nat):Int))=(D.most:Int)-g_ P+g_ (e++d):=by
   rw[wrap_i64 cw,L,M];omega
  refine⟨_,_,rfl,n.q,0,rfl,H,t,I,ae J rfl,(e++d).length,sM,e++d,?_,rfl,N,oM,s,λO u=>q O ?_⟩
  ·rw[Q3];exact A
  ·simp only[Q6,Q2]at u⊢;exact u.imp id .inr
def yC{D:ak}(h:aV b a f D)(P:Row gj 1 b Z d c u)(X:d=none->c=0/\i=0)(w:∀n,Z n->n<b.heap.size/\¬f n):
  be 168 #[RK a,.string x,.slice d c i] b (Ok (vP b a f (D.append x u))):=by
 have K:=P.len;have Y:=P.eR;unfold aP at Y;refine sI (PA.mk λw1 y s1 L=>PA.mk λw2 k s2 g2=>⟨_,ae (k.get L id) rfl,PC.ok (vQ ((h.af y).af k) (k:=x) (g:=230)
  (body:=λD M=>if(u.length:Int)>D.room then(12,D)else(0,D.fH x {M with bytes:=M.bytes++u})) kR λhd r a0 b5 e g z s=>?_) λa1 w' h=>mz a1 w' (y.af k) h⟩)
 have e1:=s.get (k.get L id) λP=>by have:=h.aE _ P;omega
 have N:=s.get g2 λP=>by have:=h.aE _ P;omega
 have a4:Row gj 1 r Z d c u:=((P.af y).af k).keep s λn P=>(w n P).2;have A:=g.get z;refine qo λw4 t=>⟨λ_=>False,id,d,c,i,ae (t.keep (S:=λ_=>False)|>.get N id) rfl,_,ae (t.keep (S:=λ_=>False)|>.get e1 id) rfl,PC.ok (Pg (g.af t.keep).at) ?_⟩
 rintro _ w5 ⟨rfl,O⟩;have B:ai r w5:=(bH.keep t).then O;refine⟨_,rfl,O,al.dec (λa5=>Ok.mk ?_) (λa6=>λl a7=>?_)⟩
 ·rw[Zx (by rw[<-K];exact a5)]
  exact⟨f,rfl,(g.af B).at,B.keep,λ_ h=>.inl h⟩
 ·have m:ai r l:=B.af a7.keep
  have C:=g.af m;have Q:=cz z;have E:eK l e.q e.G e.f:=C.each.each _ Q;obtain⟨v,R,fc,F0,F,o,H,S⟩:=E.body;have b6:=o.len dC;have b7:e.f.bytes.length<=262144:=g.ok.len (cz A);have a8:∀n,e.G n->f n/\n≠a/\n≠a0:=C.Jc _ Q;refine⟨e.q,0,rfl,v,R,fc,ae F rfl,d,c,i,ae (m.get N id) rfl,?_⟩;have a2:∀n,Z n->n<l.heap.size/\aH v≠some n:=λn P=>⟨by have:=(w n P).1;have:=s.size;have:=m.size;omega,λj=>(w n P).2 (a8 n (H n (o.self n j))).1⟩
  have b8:D.cT.room<=262144:=by have:=g.ok.most;unfold ak.room;omega
  refine Al o tQ (a4.af m) X a2 ce (by unfold maxLen;omega) λp c' w7 F' I J _ T=>?_;have hq:aH v≠some e.q:=λj=>S (o.self _ j);have b9:=aA F;have q:aH p≠some e.q:=λj=>by rcases T _ j with h|h;exact S h;omega
  refine⟨_,_,_,rfl,e.q,0,rfl,PS.mk (J.get F hq) sM λU V s8 g8=>Ok.mk ?_⟩;have W:¬((u.length:Int)>D.cT.room):=by rw[<-K];exact a6
  rw[Zq W];have a9:∀n,aH v=some n->e.G n:=λn j=>H n (o.self n j);have b0:eK U e.q (λn=>n=e.q\/aH p=some n) {e.f with bytes:=e.f.bytes++u}:=
   ⟨⟨p,R+c,c',λn=>aH p=some n,g8,I.alone.keep V (λn P a3=>q (by rw[<-a3];exact P)),λn P=>.inr P,q⟩,.inl rfl,by
    rintro n (rfl|P)
    ·have:=J.size;omega
    ·have:=I.aE n (I.self n P);omega⟩
  have b1:cm e.G l (λn=>n=e.q\/aH p=some n) U:=⟨(J.mono λn _ P=>a9 n P).then (V.mono λn _ P=>P▸E.self),by
   rintro n (rfl|P)
   ·exact .inl E.self
   ·exact(T n P).imp (λh=>H n h) id⟩
  have b2:(D.cT.fH x {e.f with bytes:=e.f.bytes++u}).Ok:=g.ok.set A (by
   unfold ak.room at W;simp only[QX];omega) (by have:=g.ok.TD _ (cz A);simp only[QX];show e.f.synced<=_;have h':e.f.synced<=e.f.bytes.length:=this;omega)
  obtain⟨F2,b3,b4⟩:=C.fm z b0 b1 b2;exact⟨F2,rfl,b3.at,(cm.mk m.keep λ_ h=>.inl h:cm f r f l).trans b4⟩
def xP{D:ak}(g:aV b a f D):
  be 188 #[RK a,.string x] b (Ok λl m=>∃i,l= .tuple #[i,WP (D.read x).2]/\pQ gj 5 b (D.read x).1 i m):=by
 obtain⟨j,C,P⟩:=g.open;have n:pQ gj 5 b [] (.slice none 0 0) b:=⟨none,0,0,λ_=>False,rfl,aT.nil b,aj.refl _,λ_ g=>g.elim⟩
 rcases P.box x with⟨e,h⟩|⟨d,E,o,e,h⟩
 ·refine mu ⟨a,0,rfl,some j,ae P.head rfl,Ao mF kS P.map ?_⟩
  rw[h];refine⟨_,rfl,a,0,rfl,_,ae P.head rfl,al.mk (λc=>Ok.mk ?_) (λc=>jy uF ⟨_,rfl,al.tt rfl (Ok.mk ?_)⟩)⟩
  ·unfold ak.read;rw[c,Zx rfl];exact⟨_,rfl,n⟩
  ·unfold ak.read;rw[c,Zq sM,e];exact⟨_,rfl,n⟩
 ·refine mu ⟨a,0,rfl,some j,ae P.head rfl,Ao mF kS P.map ?_⟩
  rw[h];refine⟨_,rfl,a,0,rfl,_,ae P.head rfl,al.mk (λc=>Ok.mk ?_) (λc=>jy uF ⟨_,rfl,al.ff rfl ?_⟩)⟩
  ·unfold ak.read;rw[c,Zx rfl];exact⟨_,rfl,n⟩
  ·have p:eK b d.q d.G d.f:=P.each.each _ o
   obtain⟨q,r,s,F,t,k,H,I⟩:=p.body;have J:d.f.bytes.length<=262144:=P.ok.len (cz e);refine⟨d.q,0,rfl,q,r,s,ae t rfl,PC.ok (lK (k.row dC ce) k.aE) ?_⟩;rintro _ K ⟨u,v,w,y,rfl,z,A,B⟩;unfold ak.read;rw[c,Zq sM,e];exact⟨_,_,_,rfl,Ok.mk ⟨_,rfl,u,v,w,y,rfl,z,A,B⟩⟩
def xQ{D:ak}(j:aV b a f D):
  be 173 #[RK a] b (Ok (pQ Pd 9 b D.list)):=by
 obtain⟨g,h,n⟩:=j.open;have z:=n.ok.many;have A:h.length=D.files.length:=by rw[n.files];simp
 refine vA ⟨a,0,rfl,some g,ae n.head rfl,PC.ok (φ:=λk d=>k= .func (.func 291) #[] #[RK b.heap.size]/\ai b d/\d.heap.size=b.heap.size+1/\
  d.heap[b.heap.size]? =some (.cells #[.map (some g)] 159 (0,0))) (dV (PA.mk λl P i e=>Ok.mk ⟨rfl,P,i,e⟩)) ?_⟩
 rintro _ l ⟨rfl,P,i,e⟩;refine⟨_,rfl,PC.ok (zZ (n.map.af P) (λB m=>?_) (by rw[Q8];unfold aP;omega) e) ?_⟩
 ·obtain⟨c,o,rfl⟩:=Xk.1 m
  have:=n.ok.names (vO c) (by rw[n.files];exact Xk.2 ⟨c,o,rfl⟩);unfold cY at this;simp only[QK,Zk]at this;have C:c.1.size<=16:=this.1.2;show c.1.size<=maxLen;unfold maxLen;omega
 ·rintro _ E ⟨p,q,r,s,rfl,t,u,v⟩
  refine⟨_,_,_,rfl,Ok.mk ⟨p,q,r,s,rfl,?_,P.af u,λw x=>by have:=v w x;omega⟩⟩;have y:tk ((h.map eF).map (·.1))=D.list:=by unfold ak.list;rw[n.files,List.map_map,List.map_map];rfl
  rw[<-y];exact t
def Jf{n:List (ByteArray×j)}(P:Tidy n)(a:ByteArray):bQ n a=n.filter λb=>b.1 !=a:=by
 induction n with
 |nil=>rfl
 |cons f n e=>
  obtain⟨b,k⟩:=f;unfold Tidy at P e;simp only[QY,List.nodup_cons]at P;unfold bQ
  by_cases c:(a==b)=true
  ·rw[Zx c]
   have g:a=b:=eq_of_beq c;subst g;rw[List.filter_cons_of_neg sM];exact(List.filter_eq_self.2 λh i=>by
    simp only[bne_iff_ne,ne_eq];intro d;exact P.1 (d▸Xk.2 ⟨h,i,rfl⟩)).symm
  ·rw[Zq c,e P.2,List.filter_cons_of_pos]
   simp only[bne_iff_ne,ne_eq];intro d;exact c (by rw[d];simp)
def stays(left:List (ByteArray×od))(n:ByteArray×od):Bool:=n.2.f.jJ||left.any λP=>P.1==n.1
def z_(J:bW b a Value.string (a4.map eF))(l:ED b a4)(K:∀n∈a4,∀c,n.2.G c->c≠a):
  be 108 #[.map (some a),.func (.func 109) #[] #[]] b
   (Ok λo h=>o= .tuple #[]/\bW h a Value.string ((a4.filter λn=>n.2.f.jJ).map eF)/\aj (·=a) b h):=by
 have L:enters LL 109=true:=kR
 refine dh (mapRange mF J λw1 M N s1=>?_);refine⟨λu h=>∃left:List (ByteArray×od),cU h b.heap.size a Value.string ((a4.filter (stays left)).map eF) (left.map eF)/\u=left.length/\aj (·=a) b h/\(∀n∈left,n∈a4)/\Tidy left,
  ⟨_,a4,?_,rfl,N.keep,λ_ O=>O,l.tidy⟩,?_⟩
 ·have i:a4.filter (stays a4)=a4:=List.filter_eq_self.2 λn m=>by
   unfold stays;rw[Bool.or_eq_true];exact .inr (List.any_eq_true.2 ⟨n,m,sM⟩)
  rw[i];exact M
 ·rintro u a0 w2 ⟨left,p,rfl,v,w,j⟩
  refine oe p (λk=>.inl ⟨rfl,Ok.mk ⟨rfl,?_,v⟩⟩) λd o l1 l2 r Q x R S s3=>.inr ⟨_,_,rfl,rl R ?_⟩
  ·have:left=[]:=by simpa using k
   subst this;have i:(a4.filter (stays []))=a4.filter λn=>n.2.f.jJ:=List.filter_congr λn _=>by simp[stays]
   rw[i]at p;exact p.map
  ·obtain⟨e,n,c,rfl,rfl,rfl,rfl⟩:=xO Q
   have m:(d,n)∈a4:=w _ sM;have a6:b.heap.size≠a:=p.ne;have s:aj (·=a) b r:=v.new S λc y=>.inr oM;have T:eK r n.q n.G n.f:=(l.each _ m).keep s λc y=>K _ m c y;obtain⟨fa,fn,fc,F0,q,z,h3,h4⟩:=T.body;have A:d∉(e++c).map (·.1):=by
    unfold Tidy at j;rw[Q3,QY]at j;rw[Q3];intro U;have V:=(List.perm_middle (a:=d) (l₁:=e.map (·.1)) (l₂:=c.map (·.1))).nodup_iff.1 j;exact(List.nodup_cons.1 V).1 U
   have B:∀P∈a4,P.1≠d->stays (e++(d,n)::c) P=stays (e++c) P:=λP f g=>by
    unfold stays
    congr 1
    have:(d==P.1)=false:=beq_false_of_ne (Ne.symm g);simp[List.any_append,this]
   have C:∀P∈a4,P.1=d->P=(d,n):=λP f k=>by
    have q:=ri l.tidy (k:=P.1) (v:=P.2) f;have z:=ri l.tidy (k:=d) (v:=n) m;rw[k,z]at q;exact Prod.ext k (XJ q).symm
   have W:(e++c).any (λP=>P.1==d)=false:=by
    rw[List.any_eq_false];intro P f k;exact A (Xk.2 ⟨P,f,eq_of_beq k⟩)
   have E:Tidy (e++c):=by
    unfold Tidy at j⊢;rw[Q3,QY]at j;rw[Q3];exact(List.nodup_cons.1 ((List.perm_middle (a:=d) (l₁:=e.map (·.1)) (l₂:=c.map (·.1))).nodup_iff.1 j)).2
   have F:∀P∈e++c,P∈a4:=λP f=>w P (by simp only[Q6,Q2]at f⊢;exact f.imp id .inr);have H:(e++c).length<(e++(d,n)::c).length:=sM
   refine⟨_,_,rfl,_,_,_,rfl,L,PC.ok (φ:=λo h=>o= .bool (!n.f.jJ)/\h=r) (qR ⟨n.q,0,rfl,_,ae q rfl,Ok.mk ⟨rfl,rfl⟩⟩) ?_⟩;rintro _ _ ⟨rfl,rfl⟩;refine⟨_,rfl,al.not (al.mk (λt=>⟨_,H,e++c,?_,rfl,s,F,E⟩) (λt=>?_))⟩
   ·have i:a4.filter (stays (e++(d,n)::c))=a4.filter (stays (e++c)):=List.filter_congr λP f=>by
     by_cases g:P.1=d
     ·rw[C P f g];simp[stays,t]
     ·exact B P f g
    rw[Q3,<-i];exact x
   ·refine RS mF kS x (by rw[<-Q3];simpa[eF,Function.comp_def]using A) λw4 I X s4=>⟨_,H,e++c,?_,rfl,s.then X,F,E⟩
    have i:bQ ((a4.filter (stays (e++(d,n)::c))).map eF) d=(a4.filter (stays (e++c))).map eF:=by
     have Y:bQ ((a4.filter (stays (e++(d,n)::c))).map eF) d=(bQ (a4.filter (stays (e++(d,n)::c))) d).map eF:=(BK (λn:od=>ptr n.q) _ d).symm;have Z:Tidy (a4.filter (stays (e++(d,n)::c))):=List.Nodup.sublist (List.Sublist.map _ List.filter_sublist) l.tidy;rw[Y,Jf Z,List.filter_filter]
     congr 1
     refine List.filter_congr λP f=>?_
     by_cases g:P.1=d
     ·rw[C P f g]
      simp only[stays,t,W,Bool.or_false,bne_self_eq_false,Bool.false_and]
     ·rw[B P f g]
      have:(P.1 !=d)=true:=by simpa using g
      rw[this,Bool.true_and]
    rw[i,<-Q3]at I;exact I
end Go.Proofs.YtkpomgifkloklabGreatDoor
namespace Go.aw
open Go
def cG(n:List UInt8):ByteArray:=⟨n.toArray⟩
def ot(n:List UInt8):(cG n).data.toList=n:=by simp[cG]
def WT(n:ByteArray):cG n.data.toList=n:=by simp[cG]
variable{b1 u:List UInt8}{a:Nat}{X a2:Operand}{h:Program}{g:TypeId}{m t:ac}{b:World}
def NS(n:cG u=cG b1):u=b1:=by rw[<-ot u,n,ot]
def jg(n:List UInt8):(cG n).size=n.length:=by simp[cG,ByteArray.size]
def gV(n:ByteArray):Int×Bool:=match jx n.data.toList with
 |some P=>(P,true)
 |none=>(0,false)
def ZR{a n:List UInt8}(c:a.length+n.length<=1000000000)(P:m (.string (cG (a++n))) b):
  aJ h (do eqGuard .add g X a2 (.string (cG a)) (.string (cG n));binOp .add g (.string (cG a)) (.string (cG n))) b m t:=by
 refine aJ.mk (v:=.string (cG a++cG n)) (w':=b) ?_ ?_
 ·rw[Sem.run_bind,show(eqGuard .add g X a2 (.string (cG a)) (.string (cG n))).run h b= .ok () b from rfl,Result.andThen_ok,binOp_string_add,run_string_add_sum b (cG a) (cG n) (by rw[jg,jg];omega)]
 have:cG a++cG n=cG (a++n):=by
  apply ByteArray.ext;simp[cG]
 rw[this];exact P
def ai.Vd{n:Array Obj}:ai b (Sort.grow (b.drewN a) n):=
 ⟨rfl,rfl,rfl,sM,λc P _=>by rw[Sort.heap_grow_old _ _ (by simpa using P)];rfl⟩
end Go.aw
namespace Go.Proofs.YtkpomgifkloklabGreatDoor
section
open Go.aw
structure Laid (w:World):Prop where
 p_:qK w
 pow:Lib.TabIs LL w "internal/strconv.uint64pow10" .u64 Lib.pow10Tab
variable{x:ByteArray}{e:Int}{b1 u:List UInt8}{b k:World}
def Laid.af(n:Laid b)(P:ai b k):Laid k:=⟨n.p_.af P,Lib.tabBelow_of_tabIs n.pow k P.below⟩
def strconv_Itoa{n:Int}{P:World}(c:Laid P)(a:aK n):be 180 #[WP n] P (Ok λd b=>d= .string (cG (Lib.itoa n))/\ai P b):=by
 refine(Any.strconv_Itoa Tryz.Tg n a.1 a.2 P c.pow).mono ?_;rintro e b ⟨rfl,f,g,rfl⟩;exact Ok.mk ⟨rfl,ai.Vd⟩
def j_(P:Laid b)(a:aK e):be 117 #[WP e] b (Ok λc d=>c= .string (cG (ax e))/\ai b d):=by
 refine Bk (al.dec (λn=>?_) (λg=>al.dec (λn=>?_) (λh=>PC.ok (strconv_Itoa P a) ?_)))
 ·exact Ok.mk ⟨by unfold ax;rw[Zx (.inl n)];rfl,aj.refl _⟩
 ·exact Ok.mk ⟨by unfold ax;rw[Zx (.inr n)];rfl,aj.refl _⟩
 rintro _ i ⟨rfl,f⟩;refine⟨_,rfl,ZR (a:=dI) ?_ ⟨_,rfl,Ok.mk ⟨?_,f⟩⟩⟩
 ·have:=pG (u:=e.toNat) oM
  unfold Lib.itoa;rw[Zq oM];show 4+_<=_;omega
 ·rw[mI oM oM]
  unfold Lib.itoa;rw[Zq oM]
def CK:be 328 #[.string (cG u),.string (cG b1)] b (Ok λa c=>a= .bool (decide (u.take b1.length=b1))/\b=c):=by
 refine iF ?_;rw[jg,jg];refine al.dec (λn=>⟨oM,oM,Ok.mk ⟨?_,rfl⟩⟩) (λn=>Ok.mk ⟨?_,rfl⟩)
 ·rw[Qx]
  have P:ByteArray.toList (ByteArray.extract (cG u) 0 b1.length)=u.take b1.length:=by
   rw[ByteArray.toList_eq,ByteArray.data_extract];simp[cG]
  have d:ByteArray.toList (cG b1)=b1:=by rw[ByteArray.toList_eq,ot]
  rw[P,d]
  congr 1
  by_cases n:u.take b1.length=b1<;>simp[n]
 ·have:u.take b1.length≠b1:=λP=>by have:=Zj List.length P;simp at this;omega
  rw[Xv this]
def Ec:be 235 #[.string (cG u),.string (cG b1)] b (Ok λP a=>P= .tuple (if u.take b1.length=b1 then #[.string (cG (u.drop b1.length)),.bool true]else #[.string (cG u),.bool false])/\b=a):=by
 refine sO (PC.ok (φ:=λP a=>P= .tuple (if u.take b1.length=b1 then #[.string (cG (u.drop b1.length)),.bool true]else #[.string (cG u),.bool false])/\b=a) (iD (PC.ok CK ?_)) ?_)
 ·rintro _ _ ⟨rfl,rfl⟩
  refine⟨_,rfl,?_⟩;rw[jg,jg]
  by_cases n:u.take b1.length=b1
  ·rw[Zx n,Zy n]
   have e:b1.length<=u.length:=by have:=Zj List.length n;simp at this;omega
   refine al.ff rfl ⟨oM,oM,Ok.mk ⟨?_,rfl⟩⟩;have c:ByteArray.extract (cG u) (Int.toNat ((b1.length:Nat):Int)) u.length=cG (u.drop b1.length):=by
    apply ByteArray.ext;rw[Qx,ByteArray.data_extract];have d:List.take (u.length-b1.length) (List.drop b1.length u)=List.drop b1.length u:=Qz sM;simp[cG,d]
   rw[c]
  ·rw[Zq n,Xv n]
   exact al.tt rfl (Ok.mk ⟨rfl,rfl⟩)
 ·rintro _ _ ⟨rfl,rfl⟩
  split
  ·exact⟨_,_,rfl,Ok.mk ⟨rfl,rfl⟩⟩
  ·exact⟨_,_,rfl,Ok.mk ⟨rfl,rfl⟩⟩
def Bc(y:Laid b):be 174 #[.string x] b (Ok λk d=>k= .tuple #[WP (gV x).1,.bool (gV x).2]/\ai b d):=by
 rw[<-WT x];generalize x.data.toList=e;have c:(⟨#[115,101,103,46]⟩:ByteArray)=cG dI:=rfl;unfold gV;rw[ot];refine xA ?_;rw[c];refine PC.ok Ec ?_;rintro _ _ ⟨rfl,rfl⟩;have no:∀d,jx e=none->ai b d->Ok (λk d=>k= .tuple #[WP (match jx e with|some l=>((l:Int),true)|none=>(0,false)).1,.bool (match jx e with|some l=>((l:Int),true)|none=>(0,false)).2]/\ai b d) (.returned (.tuple #[WP 0,.bool false])) d:=λd p z=>by
  rw[p];exact Ok.mk ⟨rfl,z⟩
 by_cases f:e.take dI.length=dI
 ·rw[Zx f]
  refine⟨_,_,rfl,al.ff rfl ?_⟩;have q:e=dI++e.drop 4:=by
   have:=ZX 4 e;rw[show e.take 4=dI from f]at this;exact this.symm
  change al (decide (((ByteArray.size (cG (e.drop 4)):Nat):Int)>12)) _ _
  generalize S:e.drop 4=P at q;subst q;rw[jg];refine al.dec (λp=>no _ (MY (by rw[QX];show 16<4+_;omega)) (aj.refl _)) (λT=>?_);refine B_ Tryz.underlying9 λU A B V=>⟨λr s d=>∃n,r=P.length-n/\n<=P.length/\s=(fl (P.take n):Int)/\d.heap[b.heap.size]? =some (.stringIter (cG P) n)/\ai b d/\(P.take n).all gP=true,⟨_,0,rfl,Qj _,rfl,A,B,rfl⟩,?_⟩
  rintro r s W X ⟨n,rfl,Y,rfl,C,g,h⟩;have E:=yj _ h;refine He C (λF=>.inl ⟨rfl,?_⟩) λc t u i Z=>.inr ⟨_,_,rfl,?_⟩
  ·rw[jg]at F
   rw[Qz oM]at h E⊢;have a0:10 ^ P.length<=10 ^ 12:=Nat.pow_le_pow_right oM oM;have H:(10:Nat) ^ 12=1000000000000:=dC
   refine PC.ok (j_ (y.af g) cw) ?_;rintro _ t ⟨rfl,i⟩;have v:=HF h oM;refine⟨_,rfl,al.neS (λI=>no _ ?_ (g.then i)) (λJ=>?_)⟩
   ·rw[v,Zq λK=>I (by rw[K])]
   ·rw[v,Zx (NS J)]
    exact Ok.mk ⟨rfl,g.then i⟩
  ·have m:n<P.length:=by rwa [jg]at c
   have j:ai b t:=g.new i λa1 w=>.inr oM;have o:P[n]? =some ((cG P)[n]'c):=by
    rw[Qq m]
    congr 1
   have a:gP ((cG P)[n]'c)=false->jx (dI++P)=none:=λL=>Kv (List.all_eq_false.2 ⟨_,QZ o,by simp[L]⟩)
   by_cases w:((cG P)[n]'c).toNat<128
   ·rw[decode_ascii _ n c w]at u⊢
    simp only;refine al.dec (λM=>no _ (a ?_) j) (λN=>al.dec (λO=>no _ (a ?_) j) (λQ=>?_))
    ·unfold gP;exact Xv oM
    ·unfold gP;exact Xv oM
    ·have a2:10 ^(P.take n).length<=10 ^ 12:=Nat.pow_le_pow_right oM cS
     have H:(10:Nat) ^ 12=1000000000000:=dC
     refine⟨_,oM,n+1,rfl,oM,?_,u,j,?_⟩
     ·rw[Qw,o]
      show _=((fl (P.take n++[_]):Nat):Int);rw[f_];have R:PP .i32 ((((cG P)[n]'c).toNat:Int)-48)=(((cG P)[n]'c).toNat:Int)-48:=by
       unfold PP;simp[IntKind.signed,IntKind.bits];omega
      rw[R,wrap_i64 (x:=(((cG P)[n]'c).toNat:Int)-48) cw,wrap_i64 (x:=10*_) cw,wrap_i64 cw];omega
     ·rw[Qw,o,List.all_append,h]
      simp[gP];omega
   ·have hh:=(decode_high _ n c oM).1
    refine al.dec (λM=>oM) (λN=>al.dec (λO=>no _ (a ?_) j) (λQ=>oM));unfold gP;exact Xv oM
 ·rw[Zq f]
  exact⟨_,_,rfl,al.tt rfl (no _ (Qi f) (aj.refl _))⟩
end
section
open Go.aw
def SN:jU LL 55 3 1 8:=⟨kR,kR,dC⟩
def fq(P:List Int)(n:Int):Int:=if n<0 then 0 else max (P.getD n.toNat 0) 0
variable{e p:Int}{b3 s:List Int}{a c i r:Nat}{d v:bc}{b:World}{l:ah}
def Hd{x:Int}(P:0<=e)(n:s[e.toNat]? =some x):fq s e=max x 0:=by
 unfold fq;rw[Zq oM];simp[List.getD,n]
def BX(n:(s.length:Int)<=e):fq s e=0:=by
 unfold fq;split
 ·rfl
 ·have:s[e.toNat]? =none:=by simp;omega
  simp[List.getD,this]
def oF{i:Int}(f:Ints b d a s):
  be 157 #[.slice d a c,WP i] b (Ok λg h=>g= WP (fq s i)/\b=h):=by
 refine OW ?_;refine al.mk (λP=>?_) (λP=>al.mk (λn=>?_) (λn=>?_))
 ·have:=XV P
  exact Ok.mk ⟨by simp[fq,this],rfl⟩
 ·have n:=XV n
  exact Ok.mk ⟨by rw[BX (by rw[<-f.len];exact n)],rfl⟩
 ·have P:=Xy P
  have n:=Xy n;obtain⟨j,e,k,rfl,o,l,p,m⟩:=f.at (i:=i) oM oM;refine⟨j,e,rfl,oM,oM,k,m,Ok.mk ⟨?_,rfl⟩⟩;rw[Hd oM l]
  congr 1
  omega
def qI(P a:List Int)(b:Nat):List Int:=(List.range b).map λ(n:Nat)=>max (fq P n) (fq a n)
def kV(n P:List Int):List Int:=qI n P (max n.length P.length)
def KC(P a:List Int)(n:Nat):qI P a (n+1)=qI P a n++[max (fq P n) (fq a n)]:=by simp[qI,List.range_succ]
def th(P a:List Int)(n:Nat):(qI P a n).length=n:=by simp[qI]
def HI(P:World)(e:TypeId)(f:List Int)(g:Value)(a:World):Prop:=
 ∃n b c,g= .slice n b c/\Own a e 1 n b c (ints f)/\ai P a/\∀d,aH n=some d->P.heap.size<=d
def Vl:(if p>e then p else e)=max e p:=oM
def Ba(h:Ints b d a s)(n:Ints b v c b3):
  be 153 #[.slice d a i,.slice v c r] b (Ok (HI b 3 (kV s b3))):=by
 have u:=h.len;have w:=n.len;have x:=h.eR;have y:=n.eR;unfold aP at x y;refine LJ ⟨λm j P o p q=>p=(P:Int)/\P<=max a c/\m=max a c-P/\Own q 3 1 j P o (ints (qI s b3 P))/\ai b q/\∀v,aH j=some v->b.heap.size<=v,
  ⟨_,rfl,oM,rfl,Own.nil _ _ _,aj.refl _,by simp[aH]⟩,?_⟩
 rintro m j P o p _ C ⟨rfl,E,rfl,t,e,k⟩;refine al.mk (λf=>?_) (λf=>?_)
 ·have f:=XV f
  refine PC.ok (oF (h.af e)) ?_;rintro _ _ ⟨rfl,rfl⟩;refine⟨_,rfl,PC.ok (oF (n.af e)) ?_⟩;rintro _ _ ⟨rfl,rfl⟩;refine⟨_,rfl,PA.mk λF l H z=>?_⟩;refine Nl SN (t.af l) z ce λI J K A B g=>?_;refine⟨_,_,_,rfl,_,?_,?_,oM,rfl,?_,(e.af l).new B ?_,?_⟩
  ·omega
  ·rw[wrap_i64 cw];simp
  ·rw[KC,<-Vl];exact A
  ·intro v n;exact .inr (k v n.symm)
  ·intro v n
   rcases g with g|g
   ·exact k v (g▸n)
   ·rw[g]at n;cases n;have:=e.size;have:=l.size;omega
 ·have f:=Xy f
  have:P=max a c:=oM
  subst this;refine Ok.mk ⟨_,_,_,rfl,?_,e,k⟩;unfold kV;rw[<-u,<-w];exact t
def zd(n P:List Int):Nat->Int
 |0=>0
 |k+1=>if fq n k<fq P k then RL .i64 (zd n P k) 1 else if fq n k>fq P k then RL .i64 (zd n P k) 2 else zd n P k
def lD(n P:List Int):Int:=zd n P (max n.length P.length)
def Oh(g:Ints b d a s)(h:Ints b v c b3):
  be 154 #[.slice d a i,.slice v c r] b (Ok λp j=>p= WP (lD s b3)/\b=j):=by
 have q:=g.len;have t:=h.len;have u:=g.eR;have w:=h.eR;unfold aP at u w;refine OV ⟨λl m o j=>∃n:Nat,o=n/\n<=max a c/\l=max a c-n/\m=zd s b3 n/\j=b,
  ⟨_,0,rfl,oM,rfl,rfl,rfl⟩,?_⟩
 rintro l m o _ x ⟨n,rfl,y,rfl,rfl,rfl⟩;refine al.mk (λf=>?_) (λf=>?_)
 ·have f:=XV f
  refine PC.ok (oF g) ?_;rintro _ _ ⟨rfl,rfl⟩;refine⟨_,rfl,PC.ok (oF h) ?_⟩;rintro _ _ ⟨rfl,rfl⟩;have k:PP .i64 ((n:Int)+1)=((n+1:Nat):Int):=by rw[wrap_i64 cw];simp
  refine⟨_,rfl,al.mk (λP=>?_) (λP=>al.mk (λe=>?_) (λe=>?_))⟩
  ·have P:=XV P
   exact⟨_,oM,n+1,k,oM,rfl,by simp[zd,P],rfl⟩
  ·have P:=Xy P
   have e:=XV e;exact⟨_,oM,n+1,k,oM,rfl,by simp[zd,P,e],rfl⟩
  ·have P:=Xy P
   have e:=Xy e;exact⟨_,oM,n+1,k,oM,rfl,by simp[zd,P,e],rfl⟩
 ·have f:=Xy f
  have:n=max a c:=oM
  subst this;exact Ok.mk ⟨by unfold lD;rw[<-q,<-t],rfl⟩
structure kU where
 bM:Int
 nk:Int
 lV:Int
 least:Int
 deriving DecidableEq
structure bu where
 kind:Int
 dX:Int
 floor:Bool
 bL:List kU
 deriving DecidableEq
structure jS where
 aX:Int
 field:Int
 group:Int
 FO:Int
 make:Int
 deriving DecidableEq
structure aR where
 types:List (List bu)
 projs:List jS
 deriving DecidableEq
structure kv where
 aX:Int
 agg:Int
 field:Int
 op:Int
 arg:Int
 expect:Int
 key:Int
 deriving DecidableEq
structure cZ where
 n:Int
 set:List Int
 deriving DecidableEq
structure pA where
 version:Int
 cells:List cZ
 deriving DecidableEq
structure cN where
 ev:ah
 void:Bool
 FO:Int×Int
structure eg where
 group:Int
 value:Int
 count:Int
 deriving DecidableEq
abbrev pW(n:Int):Int:=PP .i64 n
def within(n P a:Int):Bool:=decide (P<=n)&&decide (n<=a)
def aR.at(n:aR)(P:Int):List bu:=if within P 0 (n.types.length-1)then n.types.getD P.toNat []else []
def aR.DY(n:aR)(P a:Int):Option bu:=
 if within P 0 (n.types.length-1)&&within a 0 ((n.at P).length-1)then(n.at P)[a.toNat]? else none
def rA(n:Int):Int:=if n=1 then 1 else if n=2 then 2 else if n=3 then 3 else if n=4 then 3 else if n=5 then 4 else 0
def lR(P:aR)(a b op arg:Int):Int:=match P.DY a b with
 |none=>8
 |some n=>if !within op 1 5||rA op !=n.kind then 2 else if op==1&&arg==0||op==5&& !within arg 0 (n.bL.length-1)then 1 else 0
def rU(n:aR):Bool:=
 if !within n.types.length 1 8||decide (8<n.projs.length)then true else
 n.types.any λa=>!within a.length 1 8||a.any λP=>if P.kind==4 then !within P.bL.length 1 16 else decide (0<P.bL.length)
def TB(P:List bu)(a n:Int):Bool:=within a 0 (P.length-1)&&((P[a.toNat]?).map (·.kind)==some n)
def SS(n P:Int):Bool:=P==1||P==2&&within n 2 4||P==3&&n==2
def fM(n:List bu)(f:bu):Int:=
 if !within f.kind 1 4 then 2 else if !within f.dX 1 3|| !SS f.kind f.dX||f.floor&&f.kind !=1 then 1 else
 if f.bL.any λm=>decide (m.bM<0)||decide (m.nk<0)||m.lV== -1&&m.least !=0 then 1 else
 if f.bL.any λm=>m.lV != -1&& !TB n m.lV 1 then 8 else 0
def mJ(P:aR)(n:jS):Int:=
 if(P.DY n.aX n.field).isNone then 8 else
 if n.group==3&& !TB (P.at n.aX) n.FO 2||n.group !=3&&n.FO !=0 then 8 else
 if !within n.group 1 3|| !within n.make 1 5 then 2 else 0
def cK{P:Type}(n:P->Int):List P->Int
 |[]=>0
 |x::a=>if n x !=0 then n x else cK n a
def dj(n:aR):Int:=
 if rU n then 3 else
 let P:=cK (λa=>cK (fM a) a) n.types
 if P !=0 then P else cK (mJ n) n.projs
def bd(n:ah):Int×Int:=(n.origin,n.seq)
def eB(a n:ah):Bool:=decide (a.az<n.az)||a.az==n.az&&(decide (a.origin<n.origin)||a.origin==n.origin&&decide (a.seq<n.seq))
def td(n P:ah):Int:=if eB n P then-1 else if eB P n then 1 else 0
def df(n:ah)(P:Nat):Int:=
 if n.origin<0\/(P:Int)<=n.origin\/min n.seq n.az<1\/min n.agg n.key<0\/n.aM.length≠P\/n.aM.any (λa=>decide (a<0))then 1 else
 if n.aM.getD n.origin.toNat 0≠pW (n.seq-1)then 9 else
 if n.op<1\/5<n.op then 2 else if min n.aX n.field<0\/8<=n.aX\/8<=n.field then 8 else 0
def BB(n P:ah):Bool:=decide (n.seq<=fq P.aM n.origin)
def vL(n P:ah):Bool:=bd n !=bd P&& !BB n P&& !BB P n
structure aq where
 n:Nat
 l:List ah
def dz(n:ah):List ah->List ah
 |[]=>[n]
 |x::P=>if eB n x then n::x::P else x::dz n P
def aq.sA(n:aq)(P:Nat):Nat:=n.l.countP λa=>a.origin==(P:Int)
def aq.vec(n:aq):List Int:=(List.range n.n).map λP=>(n.sA P:Int)
def aq.get(n:aq)(id:Int×Int):Option ah:=n.l.find? λP=>bd P==id
def aq.top(n:aq):Int:=n.l.foldl (λP a=>max P a.az) 0
def aq.lW(d:aq)(n:ah)(a:Nat):Bool:=
 let b:=n.aM.getD a 0
 b==0||match d.get (a,b)with
  |none=>false
  |some P=>decide (P.az<n.az)&&(List.range P.aM.length).all λc=>decide (P.aM.getD c 0<=n.aM.getD c 0)
def aq.add(n:aq)(P:ah):Int×aq:=
 let no:=df P n.n
 if no≠0 then(no,n)else
 if(n.get (bd P)).isSome then(16,n)else
 if P.seq≠(n.vec.getD P.origin.toNat 0)+1 then(9,n)else
 if(List.range n.n).any λa=>!n.lW P a then(9,n)else(0,{n with l:=dz P n.l})
def aq.eC(n:aq)(l:List ah):aq:=l.foldl (λn P=>(n.add P).2) n
def aq.missing(a:aq)(b:List Int)(n:Int):List ah:=(a.l.filter λP=>decide (max 0 (fq b P.origin)<P.seq)).take (max 0 n).toNat
def aq.keyed(n:aq)(key:Int):Option ah:=n.l.find? λP=>key !=0&&P.key==key
def dY(n:List bu):List cZ:=n.map λ_=>⟨0,[]⟩
def Np(n P:Int):Bool:=decide (n<pW (n+P))==decide (0<P)
def xf(e:List bu)(c:List cZ)(n b arg:Int):Int:=
 let d:=e.getD n.toNat ⟨0,0,false,[]⟩
 let P:=c.getD n.toNat ⟨0,[]⟩
 let f:Bool:=
  if b=1 then(arg==0||Np P.n arg)&& !(d.floor&&decide (pW (P.n+arg)<0))
  else if b=3 then decide (arg∈P.set)||decide (P.set.length<64)
  else if b=5 then(let a:=d.bL.getD arg.toNat ⟨0,0,0,0⟩;P.n==a.bM&&(decide (a.lV<0)||decide (a.least<=(c.getD a.lV.toNat ⟨0,[]⟩).n)))
  else true
 if f then 0 else 10
def qz(n:Int):List Int->List Int
 |[]=>[n]
 |y::P=>if n<y then n::y::P else if n=y then y::P else y::qz n P
def TO(c:List bu)(a:List cZ)(n b arg:Int):List cZ:=
 let d:=c.getD n.toNat ⟨0,0,false,[]⟩
 let P:=a.getD n.toNat ⟨0,[]⟩
 if b=1 then a.set n.toNat {P with n:=pW (P.n+arg)}
 else if b=2 then a.set n.toNat {P with n:=arg}
 else if b=3 then a.set n.toNat {P with set:=qz arg P.set}
 else if b=4 then a.set n.toNat {P with set:=P.set.filter λe=>e !=arg}
 else if b=5 then a.set n.toNat {P with n:=(d.bL.getD arg.toNat ⟨0,0,0,0⟩).nk}
 else a
def e_(P:bu)(a n:Int×Int):Bool:=
 if P.kind=2 then a.1==2&&n.1==2&&a !=n
 else if P.kind=4 then a.1==5&&n.1==5&&a !=n
 else if P.kind=3 then a==(3,n.2)&&n==(4,a.2)||a==(4,n.2)&&n==(3,a.2)
 else false
def mV(f:bu)(n P:ah):Bool:=(f.dX==2||f.dX==3&&decide (P.arg<n.arg))&&e_ f (n.op,n.arg) (P.op,P.arg)&&vL n P
structure aY where
 decl:aR
 entries:List cN
 eS:List ((Int×Int)×pA)
 done:List ((Int×Int×Int)×List ah)
def aY.new(n:aR):aY:=⟨n,[],[],[]⟩
def aY.try(P:aY)(n:ah):Bool×(Int×Int)×aY:=
 if lR P.decl n.aX n.field n.op n.arg≠0 then(true,(0,0),P)else
 let c:=P.decl.at n.aX
 let b:=(n.aX,n.agg,n.field)
 match((au P.done b).getD []).find? λe=>mV (c.getD n.field.toNat ⟨0,0,false,[]⟩) e n with
 |some e=>(true,bd e,P)
 |none=>
  let d:=au P.eS (n.aX,n.agg)
  let a:=match d with
   |some d=>d.cells
   |none=>dY c
  if xf c a n.field n.op n.arg≠0 then(true,(0,0),P)else
  (false,(0,0),{P with
   eS:=aI P.eS (n.aX,n.agg) ⟨pW ((d.getD ⟨0,[]⟩).version+1),TO c a n.field n.op n.arg⟩
   done:=aI P.done b ((au P.done b).getD []++[n])})
def aY.add(b:aY)(P:ah):cN×aY:=
 let n:=b.try P
 let a:cN:=⟨P,n.1,n.2.1⟩
 (a,{n.2.2 with entries:=n.2.2.entries++[a]})
def aY.state(n:aY)(P a:Int):Option pA:=au n.eS (P,a)
def bR(n:aR)(P:List ah):aY:=P.foldl (λa b=>(a.add b).2) (aY.new n)
def jR(b:List cN)(c P d:Int)(n:Nat):List cN×Bool:=
 let own:=(b.filter λa=>a.ev.aX==c&&a.ev.agg==P).drop (max d 0).toNat
 (own.take n,decide (n<own.length))
def oy(b:List eg)(n:Int)(P:Nat):List eg×Bool:=
 let a:=b.dropWhile λc=>decide (c.group<=n)
 (a.take P,decide (P<a.length))
def jY(P:aR)(n:kv):Int:=if n.agg<0\/n.key<0\/n.expect< -1 then 1 else lR P n.aX n.field n.op n.arg
def aZ(P:kv)(n:Int)(a:List Int)(b:Int):Int×ah:=
 let no:ah:=⟨0,0,0,[],0,0,0,0,0,0⟩
 if n<0\/(a.length:Int)<=n\/b<0 then(1,no)else
 if fq a n=9223372036854775807\/b=9223372036854775807 then(13,no)else
 (0,⟨n,fq a n+1,b+1,kV a [],P.aX,P.agg,P.field,P.op,P.arg,P.key⟩)
def fP(d:aR)(b:aq)(h:aY)(P start:Int)(n:kv):ah×Bool×Int:=
 let no:ah:=⟨0,0,0,[],0,0,0,0,0,0⟩
 let e:=jY d n
 if e≠0 then(no,false,e)else
 match b.keyed n.key with
 |some i=>(i,false,0)
 |none=>
  let f:=d.at n.aX
  let g:=h.state n.aX n.agg
  let a:=match g with
   |some j=>j.cells
   |none=>dY f
  if¬(n.expect= -1\/n.expect=(g.getD ⟨0,[]⟩).version)then(no,false,11)else
  if xf f a n.field n.op n.arg≠0 then(no,false,10)else
  let c:=aZ n P b.vec (max b.top start)
  (c.2,decide (c.1=0),c.1)
structure dP where
 p:jS
 rows:List (Int×eg)
def mG(n:jS)(P:eg)(arg:Int):Int:=
 if n.make=1 then P.count else if n.make=2 then pW (P.value+arg)else
 if n.make=5\/P.count=1/\(n.make=3\/n.make=4)then arg else
 if n.make=3 then min P.value arg else if n.make=4 then max P.value arg else 0
def dP.add(n:dP)(e:cN)(b:Int):dP:=
 let a:=if n.p.group=1 then some e.ev.agg else if n.p.group=2 then some e.ev.arg else if n.p.group=3 then some b else none
 match a with
 |none=>n
 |some a=>
  if e.void||e.ev.aX !=n.p.aX||e.ev.field !=n.p.field then n else
  let P:=(au n.rows a).getD ⟨0,0,0⟩
  let P:eg:=⟨a,P.value,pW (P.count+1)⟩
  {n with rows:=aI n.rows a ⟨a,mG n.p P e.ev.arg,P.count⟩}
def nd(n:eg):List eg->List eg
 |[]=>[n]
 |y::P=>if n.group<y.group then n::y::P else y::nd n P
def dP.list(n:dP):List eg:=(n.rows.map (·.2)).foldr nd []
structure kN where
 view:aY
 rows:List dP
def kN.new(n:aR):kN:=⟨aY.new n,n.projs.map λP=>⟨P,[]⟩⟩
def s_(n:Option pA)(P:jS):Int:=match n with
 |none=>0
 |some n=>((n.cells[P.FO.toNat]?).map (·.n)).getD 0
def kN.add(a:kN)(n:ah):kN:=
 let P:=a.view.add n
 let c:=P.2.state n.aX n.agg
 ⟨P.2,a.rows.map λb=>b.add P.1 (s_ c b.p)⟩
def ez(n:aR)(P:List ah):kN:=P.foldl kN.add (kN.new n)
def eT(n:Nat)(P:List ah)(a:ah):Bool×List ah:=
 if n<=P.length\/P.any (λb=>bd b==bd a)then(false,P)else(true,dz a P)
def dK(n:aq):List ah->Option (ah×aq×List ah)
 |[]=>none
 |e::a=>if(n.add e).1=0 then some (e,(n.add e).2,a)else(dK n a).map λP=>(P.1,P.2.1,e::P.2.2)
def dm:Nat->aq->List ah->List ah->List ah×List ah
 |0,a,P,n=>(n,P)
 |k+1,a,P,n=>match dK a P with
  |none=>(n,P)
  |some (b,c,d)=>dm k c d (n++[b])
def bJ(P:aq)(n:List ah):List ah×List ah:=
 let n:=n.filter λa=>(P.get (bd a)).isNone
 dm (n.length+1) P n []
structure bD where
 kind:Int
 bM:Int
 nk:Int
 vec:List Int
 events:List ah
def iv(n:bD)(P:Int):Int:=if 0<n.events.length then 8 else if(n.vec.length:Int)≠P then 1 else if n.vec.any (λa=>decide (a<0))then 1 else 0
def fj(P:bD)(a:Nat)(n:Int):Int:=if 0<P.vec.length then 8 else if P.events.length<1\/n<(P.events.length:Int)then 3 else cK (λb=>df b a) P.events
def fh(m:bD)(a:Nat)(P:Int):Int:=
 let n:=!(decide (0<=m.bM)&&decide (m.bM<a))|| !(decide (0<=m.nk)&&decide (m.nk<a))||m.bM==m.nk
 if m.kind=3 then(if n then 1 else fj m a P)
 else if m.kind=1\/m.kind=2\/m.kind=4 then(if n then 1 else iv m a)
 else 2
def ll(n:aq)(P a:Int):bD:=⟨1,P,a,n.vec,[]⟩
def Ad(n:aq)(P a:Int):bD:=⟨4,P,a,n.vec,[]⟩
def k_(c:aq)(n:Int)(P:bD)(a:Int):List bD:=
 if P.kind≠1/\P.kind≠2 then []else
 let d:=c.missing P.vec (max 1 (min a 32))
 let f:List bD:=if 0<d.length then [⟨3,n,P.bM,[],d⟩]else []
 let e:=lD P.vec c.vec
 let g:List bD:=if P.kind=1/\(e=2\/e=3)then [⟨2,n,P.bM,c.vec,[]⟩]else []
 let b:=f++g
 if b.isEmpty then [Ad c n P.bM]else b
def GW:(if p<e then p else e)=min e p:=oM
def Um{D:UL}(i:Row aO 8 b D d a s):
  be 207 #[.slice d a c,.func (.func 206) #[] #[]] b (Ok λg n=>g= .bool (s.any λP=>decide (P<0))/\b=n):=by
 have w:=i.len;have q:=i.eR;unfold aP at q;refine jZ (PC.ok (φ:=λg n=>(∃f:Int,g= WP f/\(0<=f↔(s.any λP=>decide (P<0))=true))/\b=n) (lH ⟨λl f n=>∃e:Nat,f=e/\e<=a/\l=a-e/\((s.take e).any λP=>decide (P<0))=false/\b=n,
  ⟨_,0,rfl,Qj _,rfl,sM,rfl⟩,?_⟩) ?_)
 ·rintro l f _ _ ⟨e,rfl,x,rfl,j,rfl⟩
  refine al.dec (λr=>?_) (λr=>?_)
  ·obtain⟨t,k,m,rfl,o,_,u⟩:=i.ni (i:=e) oM
   refine⟨t,k,rfl,oM,oM,_,u,206,_,_,rfl,kR,PC.ok (φ:=λg n=>g= .bool (decide (m<0))/\b=n) (zO (Ok.mk ⟨rfl,rfl⟩)) ?_⟩;rintro _ _ ⟨rfl,rfl⟩;refine⟨_,rfl,al.dec (λp=>?_) (λp=>?_)⟩
   ·exact Ok.mk ⟨⟨_,rfl,λ_=>List.any_eq_true.2 ⟨m,QZ o,by simpa using p⟩,λ_=>oM⟩,rfl⟩
   ·refine⟨_,oM,e+1,an oM,oM,rfl,?_,rfl⟩
    rw[Qw,o,List.any_append,j];simp;omega
  ·rw[Qz oM]at j
   exact Ok.mk ⟨⟨_,rfl,λh=>oM,λh=>by rw[j]at h;cases h⟩,rfl⟩
 ·rintro _ _ ⟨⟨f,rfl,v⟩,rfl⟩
  exact⟨_,rfl,Ok.mk ⟨by cases h:(s.any λP=>decide (P<0))<;>simp[h]at v⊢<;>omega,rfl⟩⟩
def yD{D:UL}(k:Row aO 8 b D d a l.aM)(I:i<4611686018427387904):
  be 144 #[.agg (aF l d a c).toArray,WP (i:Int)] b (Ok λh j=>h= WP (df l i)/\ai b j):=by
 have J:=k.len;have x:=k.eR;unfold aP at x;refine DA (PA.mk λy m K f=>⟨_,ae f rfl,?_⟩);have e:(l.origin<0\/(i:Int)<=l.origin\/min l.seq l.az<1\/min l.agg l.key<0\/l.aM.length≠i\/l.aM.any (λp=>decide (p<0))=true)->Ok (λh j=>h= WP (df l i)/\ai b j) (.returned (WP 1)) y:=λn=>by
  refine Ok.mk ⟨?_,m⟩;unfold df;rw[Zx n]
 refine al.dec (λn=>e (.inl n)) λL=>⟨_,ae f rfl,al.dec (λn=>e (.inr (.inl n))) λM=>⟨_,ae f rfl,_,ae f rfl,?_⟩⟩
 with_reducible (conv=>whnf)
 rw[GW];refine al.dec (λn=>e (.inr (.inr (.inl n)))) λN=>⟨_,ae f rfl,_,ae f rfl,?_⟩
 with_reducible (conv=>whnf)
 rw[GW];refine al.dec (λn=>e (.inr (.inr (.inr (.inl n))))) λO=>⟨_,_,_,ae f rfl,al.eP (λn=>e (.inr (.inr (.inr (.inr (.inl oM)))))) λQ=>⟨_,_,_,ae f rfl,PC.ok (Um (k.af m)) ?_⟩⟩
 rintro _ _ ⟨rfl,rfl⟩;refine⟨_,rfl,al.mk (λn=>e (.inr (.inr (.inr (.inr (.inr n)))))) λz=>⟨_,_,_,ae f rfl,_,ae f rfl,?_⟩⟩;obtain⟨A,q,B,rfl,C,R,E⟩:=(k.af m).ni (i:=l.origin.toNat) oM;have t:¬(l.origin<0\/(i:Int)<=l.origin\/min l.seq l.az<1\/min l.agg l.key<0\/l.aM.length≠i\/l.aM.any (λp=>decide (p<0))=true):=by
  rw[z];simp only[Bool.false_eq_true,or_false,not_or];omega
 refine⟨A,q,rfl,oM,oM,_,E,_,ae f rfl,λu v=>?_⟩;have F:ai b u:=m.then v.keep;have g:=(bH.keep (S:=λ_=>False) v).get f id;have w:l.aM.getD l.origin.toNat 0=B:=by rw[QQ,C];rfl
 have P:∀r:Int,df l i=r->Ok (λh j=>h= WP (df l i)/\ai b j) (.returned (WP r)) u:=λr n=>Ok.mk ⟨by rw[n],F⟩;refine al.eP (λn=>P 9 (by unfold df;rw[Zq t,w,Zx n])) λH=>⟨_,ae g rfl,?_⟩
 have s:df l i=if l.op<1\/5<l.op then 2 else if min l.aX l.field<0\/8<=l.aX\/8<=l.field then 8 else 0:=by
  unfold df;rw[Zq t,w,Zq (by simpa using H)]
 refine al.dec (λn=>P 2 (by rw[s,Zx (.inl n)])) λS=>⟨_,ae g rfl,al.dec (λn=>P 2 (by rw[s,Zx (.inr n)])) λT=>⟨_,ae g rfl,_,ae g rfl,?_⟩⟩
 with_reducible (conv=>whnf)
 rw[GW];have o:df l i=if min l.aX l.field<0\/8<=l.aX\/8<=l.field then 8 else 0:=by rw[s,Zq oM]
 refine al.dec (λn=>P 8 (by rw[o,Zx (.inl n)])) λU=>⟨_,ae g rfl,al.dec (λn=>P 8 (by rw[o,Zx (.inr (.inl n))])) λV=>⟨_,ae g rfl,al.dec (λn=>P 8 (by rw[o,Zx (.inr (.inr n))])) λW=>P 0 (by rw[o,Zq oM])⟩⟩
end
end Go.Proofs.YtkpomgifkloklabGreatDoor
namespace Go.aw
open Go
def YH(P n:Value):Bool:=match P with
 | .int a _=>match n with
  | .int b _=>decide (b=a)
  |_=>false
 | .bool _=>match n with
  | .bool _=>true
  |_=>false
 | .string _=>match n with
  | .string _=>true
  |_=>false
 | .slice _ _ _=>match n with
  | .slice _ _ _=>true
  |_=>false
 | .pointer _=>match n with
  | .pointer _=>true
  |_=>false
 | .map _=>match n with
  | .map _=>true
  |_=>false
 |_=>true
def WX:List Value->List Value->Bool
 |[],[]=>true
 |z::n,P::a=>YH z P&&WX n a
 |_,_=>false
def TF(z n:Value):Bool:=match z with
 | .agg P=>match n with
  | .agg cs=>WX P.toList cs.toList
  |_=>false
 |z=>YH z n
variable{o:Array Value}{a c:Nat}{H:Nat×Nat}{h:Program}{g q:TypeId}{d1 w:Value}{O:Value->Prop}{b:World}{z:ba}
def Tq{φ:Value->Prop}(P:YH w d1=true)(n:φ d1):QH w φ:=by
 unfold QH
 cases w<;>cases d1<;>simp[YH]at P<;>first
  |exact⟨_,n⟩
  |exact⟨_,_,_,n⟩
  |(subst P;exact⟨_,n⟩)
def Nd:∀{P cs:List Value} {φ:List Value->Prop},WX P cs=true->φ cs->Sv P φ
 |[],[],φ,_,a=>a
 |[],_::_,φ,n,_=>by simp[WX]at n
 |_::_,[],φ,n,_=>by simp[WX]at n
 |z::P,b::d,φ,n,a=>by
  simp only[WX,QK]at n;exact Tq (φ:=λb=>Sv P λc=>φ (b::c)) n.1 (Nd (φ:=λc=>φ (b::c)) n.2 a)
def cu(n:TF w d1=true)(P:O d1):tT w O:=by
 unfold tT;split
 ·rename_i c
  cases d1<;>simp[TF]at n
  rename_i cs;exact Nd (φ:=λa=>O (.agg a.toArray)) n (by simpa using P)
 ·rename_i b
  refine Tq ?_ P
  cases w<;>first|exact n|exact Zz rfl (b _)
def y_{b:World}{c:Addr}{d:Prop}:∀{cs:List Value} {n:Nat},(∀P v,cs[P]? =some v->b.cell? (c.add (n+P))=some v)->d->iW b c n cs d
 |[],n,_,a=>a
 |v::h,n,e,a=>⟨e 0 v rfl,y_ (λP f g=>by have:=e (P+1) f (by simpa using g);rwa [show n+1+P=n+(P+1) by omega]) a⟩
def iA(n:Program)(P:TypeId)(cs:List Value):Bool:=uJ n P&&(match dL n P with
 | .agg a=>Nat.beq (mD n P) a.size&&WX a.toList cs
 |_=>false)&&Nat.beq cs.length (mD n P)&&cs.all Value.oneCell'
def Nf{cs:List Value}(e:iA h g cs=true)(i:∀P d,cs[P]? =some d->b.cell? ⟨a,c+P,none⟩=some d)(j:O (.agg cs.toArray)):
  jO h g (.pointer (some ⟨a,c,none⟩)) b O:=by
 simp only[iA,QK]at e;obtain⟨⟨⟨k,n⟩,m⟩,o⟩:=e;unfold jO;simp only[k]
 revert n
 cases dL h g<;>simp only[Bool.false_eq_true,false_implies]
 rename_i p;intro n;simp only[QK]at n;simp only[n.1];exact Nd (φ:=λf=>iW b ⟨a,c,none⟩ 0 f (O (.agg f.toArray))) n.2 (y_ (λP d l=>by rw[Xz,Addr.add_lit];exact i P d l) j)
def ar{cs:List Value}(n:iA h g cs=true)(P:b.heap[a]? =some (.cells cs.toArray q H))(c:O (.agg cs.toArray)):
  jO h g (RK a) b O:=Nf n (λe f d=>ae P (by rw[Xz];simpa using d)) c
def WK{cs:List Value}(d:iA h g cs=true)(e:b.heap[a]? =some (.cells o q H))(f:∀n P,cs[n]? =some P->o[c+n]? =some P)(i:O (.agg cs.toArray)):
  jO h g (.pointer (some ⟨a,c,none⟩)) b O:=Nf d (λn P j=>ae e (f n P j)) i
def bT{P a k:Nat}{es:List Value}(d:iA h g es=true)(e:es.length=k)(f:∀n,n<k->b.cell? ⟨P,a+n,none⟩=es[n]?)(i:O (.agg es.toArray)):
  jO h g (.pointer (some ⟨P,a,none⟩)) b O:=Nf d (λn j c=>by rw[f n (by rw[<-e];exact(Qv.1 c).1)];exact c) i
def FK{b d:Nat}{g:TypeId}{h:ba}:∀(a:List Value) (P:Nat) {n:World} {cs:Array Value},n.heap[b]? =some (.cells cs g (0,0))->d+P+a.length<=cs.size->
  (∀c,aj (·=b) n c->c.heap.size=n.heap.size->c.heap[b]? =some (.cells (CU cs (d+P) a) g (0,0))->h c)->jL ⟨b,d,none⟩ P a n h
 |[],P,n,cs,e,i,f=>f n (aj.refl _) rfl e
 |v::a,P,n,cs,e,i,f=>by
  unfold jL;rw[Addr.add_lit];rw[Xq]at i;exact PS.mk e oM λr j k l=>FK a (P+1) l cS λm o p q=>f m (j.then o) (p.trans k) q
def WY{cs:List Value}(P:iA h g cs=true)(d:b.heap[a]? =some (.cells o q (0,0)))(m:c+cs.length<=o.size)(e:∀n,aj (·=a) b n->n.heap.size=b.heap.size->n.heap[a]? =some (.cells (CU o c cs) q (0,0))->z n):nw h g (.pointer (some ⟨a,c,none⟩)) (.agg cs.toArray) b z:=by
 simp only[iA,QK]at P;obtain⟨⟨⟨f,p⟩,i⟩,j⟩:=P;unfold nw;have k:Nat.beq cs.toArray.size (mD h g)=true:=by simpa using i
 have l:cs.toArray.toList.all Value.oneCell'=true:=by simpa using j
 simp only[f,k,l];exact FK cs 0 d oM e
def aC{cs:List Value}(P:iA h g cs=true)(c:b.heap[a]? =some (.cells o q (0,0)))(d:cs.length=o.size)(e:∀n,aj (·=a) b n->n.heap.size=b.heap.size->n.heap[a]? =some (.cells cs.toArray q (0,0))->z n):nw h g (RK a) (.agg cs.toArray) b z:=
 WY P c oM λn f i j=>e n f i (by rw[j,FJ d])
end Go.aw
namespace Go.Proofs
open Go.Shelf
def Tryz.Qp:Go.Shelf.Ren:=⟨λ|6=>127|15=>185|14=>184|28=>250|29=>251|20=>242|21=>243|22=>244|23=>245|24=>246|25=>247|26=>248|27=>249|46=>297|47=>298|48=>299|49=>300|50=>301|57=>335|n=>n,λ|22=>51|24=>57|25=>225|3=>3|39=>297|0=>0|53=>346|55=>348|4=>4|46=>340|45=>339|50=>259|5=>5|9=>9|66=>383|70=>387|76=>419|77=>420|n=>n,λ|n=>n⟩
def Tryz.VP:Go.Proofs.SlLaysF0.n6 Tryz.prog Tryz.Qp:={
 mixed:=by kernel_rfl
 f6:=⟨Tryz.f127.name,bv,Tryz.func127.trans bn⟩
 f14:=⟨Tryz.f184.name,bv,Tryz.func184.trans bn⟩
 f15:=Tryz.func185.trans bn
 f20:=⟨Tryz.f242.name,bv,Tryz.func242.trans bn⟩
 f21:=⟨Tryz.f243.name,bv,Tryz.func243.trans bn⟩
 f22:=⟨Tryz.f244.name,bv,Tryz.func244.trans bn⟩
 f23:=⟨Tryz.f245.name,bv,Tryz.func245.trans bn⟩
 f24:=⟨Tryz.f246.name,bv,Tryz.func246.trans bn⟩
 f25:=⟨Tryz.f247.name,bv,Tryz.func247.trans bn⟩
 f26:=⟨Tryz.f248.name,bv,Tryz.func248.trans bn⟩
 f27:=⟨Tryz.f249.name,bv,Tryz.func249.trans bn⟩
 f28:=Tryz.func250.trans bn
 f29:=Tryz.func251.trans bn
 f46:=⟨Tryz.f297.name,bv,Tryz.func297.trans bn⟩
 f47:=Tryz.func298.trans bn
 f48:=Tryz.func299.trans bn
 f49:=⟨Tryz.f300.name,bv,Tryz.func300.trans bn⟩
 f50:=⟨Tryz.f301.name,bv,Tryz.func301.trans bn⟩
 f57:=⟨Tryz.f335.name,bv,Tryz.func335.trans bn⟩
 t0:=Tryz.underlying0
 a0:=Tryz.isAgg0
 z0:=Tryz.sizeOf0
 v0:=Tryz.zeroValue0
 t3:=Tryz.underlying3
 a3:=Tryz.isAgg3
 z3:=Tryz.sizeOf3
 v3:=Tryz.zeroValue3
 t4:=Tryz.underlying4
 a4:=Tryz.isAgg4
 z4:=Tryz.sizeOf4
 v4:=Tryz.zeroValue4
 t5:=Tryz.underlying5
 a5:=Tryz.isAgg5
 z5:=Tryz.sizeOf5
 v5:=Tryz.zeroValue5
 t9:=Tryz.underlying9
 a9:=Tryz.isAgg9
 z9:=Tryz.sizeOf9
 v9:=Tryz.zeroValue9
 t22:=Tryz.underlying51
 a22:=Tryz.isAgg51
 z22:=Tryz.sizeOf51
 v22:=Tryz.zeroValue51
 t25:=Tryz.underlying225
 a25:=Tryz.isAgg225
 z25:=Tryz.sizeOf225
 v25:=Tryz.zeroValue225
 t39:=Tryz.underlying297
 a39:=Tryz.isAgg297
 z39:=Tryz.sizeOf297
 v39:=Tryz.zeroValue297
 t45:=Tryz.underlying339
 a45:=Tryz.isAgg339
 z45:=Tryz.sizeOf339
 v45:=Tryz.zeroValue339
 t46:=Tryz.underlying340
 a46:=Tryz.isAgg340
 z46:=Tryz.sizeOf340
 v46:=Tryz.zeroValue340
 t50:=Tryz.underlying259
 a50:=Tryz.isAgg259
 z50:=Tryz.sizeOf259
 v50:=Tryz.zeroValue259
 t53:=Tryz.underlying346
 a53:=Tryz.isAgg346
 z53:=Tryz.sizeOf346
 v53:=Tryz.zeroValue346
 t55:=Tryz.underlying348
 a55:=Tryz.isAgg348
 z55:=Tryz.sizeOf348
 v55:=Tryz.zeroValue348
 t66:=Tryz.underlying383
 a66:=Tryz.isAgg383
 z66:=Tryz.sizeOf383
 v66:=Tryz.zeroValue383
 t70:=Tryz.underlying387
 a70:=Tryz.isAgg387
 z70:=Tryz.sizeOf387
 v70:=Tryz.zeroValue387
 t76:=Tryz.underlying419
 a76:=Tryz.isAgg419
 z76:=Tryz.sizeOf419
 v76:=Tryz.zeroValue419
 t77:=Tryz.underlying420
 a77:=Tryz.isAgg420
 z77:=Tryz.sizeOf420
 v77:=Tryz.zeroValue420}
def Tryz.Qr:Go.Shelf.Ren:=⟨λ|6=>396|15=>185|14=>398|28=>250|29=>251|20=>399|21=>400|22=>401|23=>402|24=>403|25=>404|26=>405|27=>406|46=>407|47=>298|48=>299|49=>408|50=>409|57=>410|n=>n,λ|22=>42|24=>218|25=>460|3=>3|39=>297|0=>0|53=>346|55=>348|4=>4|46=>340|45=>339|50=>259|5=>5|9=>9|66=>383|70=>387|76=>419|77=>420|n=>n,λ|n=>n⟩
def Tryz.VQ:Go.Proofs.SlLaysF0.n6 Tryz.prog Tryz.Qr:={
 mixed:=by kernel_rfl
 f6:=⟨Tryz.f396.name,bv,Tryz.func396.trans bn⟩
 f14:=⟨Tryz.f398.name,bv,Tryz.func398.trans bn⟩
 f15:=Tryz.func185.trans bn
 f20:=⟨Tryz.f399.name,bv,Tryz.func399.trans bn⟩
 f21:=⟨Tryz.f400.name,bv,Tryz.func400.trans bn⟩
 f22:=⟨Tryz.f401.name,bv,Tryz.func401.trans bn⟩
 f23:=⟨Tryz.f402.name,bv,Tryz.func402.trans bn⟩
 f24:=⟨Tryz.f403.name,bv,Tryz.func403.trans bn⟩
 f25:=⟨Tryz.f404.name,bv,Tryz.func404.trans bn⟩
 f26:=⟨Tryz.f405.name,bv,Tryz.func405.trans bn⟩
 f27:=⟨Tryz.f406.name,bv,Tryz.func406.trans bn⟩
 f28:=Tryz.func250.trans bn
 f29:=Tryz.func251.trans bn
 f46:=⟨Tryz.f407.name,bv,Tryz.func407.trans bn⟩
 f47:=Tryz.func298.trans bn
 f48:=Tryz.func299.trans bn
 f49:=⟨Tryz.f408.name,bv,Tryz.func408.trans bn⟩
 f50:=⟨Tryz.f409.name,bv,Tryz.func409.trans bn⟩
 f57:=⟨Tryz.f410.name,bv,Tryz.func410.trans bn⟩
 t0:=Tryz.underlying0
 a0:=Tryz.isAgg0
 z0:=Tryz.sizeOf0
 v0:=Tryz.zeroValue0
 t3:=Tryz.underlying3
 a3:=Tryz.isAgg3
 z3:=Tryz.sizeOf3
 v3:=Tryz.zeroValue3
 t4:=Tryz.underlying4
 a4:=Tryz.isAgg4
 z4:=Tryz.sizeOf4
 v4:=Tryz.zeroValue4
 t5:=Tryz.underlying5
 a5:=Tryz.isAgg5
 z5:=Tryz.sizeOf5
 v5:=Tryz.zeroValue5
 t9:=Tryz.underlying9
 a9:=Tryz.isAgg9
 z9:=Tryz.sizeOf9
 v9:=Tryz.zeroValue9
 t22:=Tryz.underlying42
 a22:=Tryz.isAgg42
 z22:=Tryz.sizeOf42
 v22:=Tryz.zeroValue42
 t25:=Tryz.underlying460
 a25:=Tryz.isAgg460
 z25:=Tryz.sizeOf460
 v25:=Tryz.zeroValue460
 t39:=Tryz.underlying297
 a39:=Tryz.isAgg297
 z39:=Tryz.sizeOf297
 v39:=Tryz.zeroValue297
 t45:=Tryz.underlying339
 a45:=Tryz.isAgg339
 z45:=Tryz.sizeOf339
 v45:=Tryz.zeroValue339
 t46:=Tryz.underlying340
 a46:=Tryz.isAgg340
 z46:=Tryz.sizeOf340
 v46:=Tryz.zeroValue340
 t50:=Tryz.underlying259
 a50:=Tryz.isAgg259
 z50:=Tryz.sizeOf259
 v50:=Tryz.zeroValue259
 t53:=Tryz.underlying346
 a53:=Tryz.isAgg346
 z53:=Tryz.sizeOf346
 v53:=Tryz.zeroValue346
 t55:=Tryz.underlying348
 a55:=Tryz.isAgg348
 z55:=Tryz.sizeOf348
 v55:=Tryz.zeroValue348
 t66:=Tryz.underlying383
 a66:=Tryz.isAgg383
 z66:=Tryz.sizeOf383
 v66:=Tryz.zeroValue383
 t70:=Tryz.underlying387
 a70:=Tryz.isAgg387
 z70:=Tryz.sizeOf387
 v70:=Tryz.zeroValue387
 t76:=Tryz.underlying419
 a76:=Tryz.isAgg419
 z76:=Tryz.sizeOf419
 v76:=Tryz.zeroValue419
 t77:=Tryz.underlying420
 a77:=Tryz.isAgg420
 z77:=Tryz.sizeOf420
 v77:=Tryz.zeroValue420}
def Tryz.Nc:Go.Shelf.Ren:=⟨λ|5=>302|7=>336|n=>n,λ|23=>302|25=>3|3=>218|4=>4|20=>20|n=>n,λ|n=>n⟩
def Tryz.WL:Go.Proofs.SlLaysW.n5 Tryz.prog Tryz.Nc:={
 mixed:=by kernel_rfl
 f5:=⟨Tryz.f302.name,bv,Tryz.func302.trans bn⟩
 f7:=Tryz.func336.trans bn
 t4:=Tryz.underlying4
 a4:=Tryz.isAgg4
 z4:=Tryz.sizeOf4
 v4:=Tryz.zeroValue4
 t20:=Tryz.underlying20
 a20:=Tryz.isAgg20
 z20:=Tryz.sizeOf20
 v20:=Tryz.zeroValue20
 t23:=Tryz.underlying302
 a23:=Tryz.isAgg302
 z23:=Tryz.sizeOf302
 v23:=Tryz.zeroValue302}
end Go.Proofs
namespace Go.Proofs.YtkpomgifkloklabGreatDoor
open Go.aw Go.Sort
def bb(n:ah)(P:bc)(a b:Nat):iA LL 57 (aF n P a b)=true:=kR
def sx(n:ah)(P:bc)(a b:Nat):TF (dL LL 57) (.agg (aF n P a b).toArray)=true:=kR
def G(n P:World):Prop:=∃a b,P=grow (n.drewN a) b
variable{E e p:Int}{d6:Int×Int}{h5:List ((Int×Int)×ah)}{I g0:List ah}{a c i r:Nat}{f:UL}{d2:Obj}{d v:bc}{g:TypeId}{a8 b k:World}{z:ba}{M l:ah}{B:aq}
def G.then(d:G b k)(e:G k a8):G b a8:=by
 obtain⟨n,P,rfl⟩:=d;obtain⟨a,c,rfl⟩:=e;exact⟨n+a,P++c,by show grow (grow ((b.drewN n).drewN a) P) c=_;rw[grow_grow,World.drewN_drewN]⟩
def G.keep{S:UL}(n:G b k):aj S b k:=by
 obtain⟨d,P,rfl⟩:=n;refine⟨rfl,rfl,rfl,by simp[grow],λa c _=>?_⟩;show(b.heap++P)[a]? =_;rw[Array.getElem?_append_left c]
def G.drew(n:bH b k):G b k:=by obtain⟨P,rfl⟩:=n;exact⟨P,#[],sM⟩
def PA.Yt(P:∀n,G b n->n.heap.size=b.heap.size+1->n.heap[b.heap.size]? =some d2->z n):PA b d2 z:=
 P (b.alloc d2) ⟨0,#[d2],by rw[alloc_eq_grow];rfl⟩ sM (heap_alloc_new b d2)
def isNaN:be 124 #[WP e] b (Ok λn P=>n= .bool false/\b=P):=zR (Ok.mk ⟨sM,rfl⟩)
def uO(n P:Int):Int:=if n<P then-1 else if P<n then 1 else 0
def eA:be 73 #[WP e,WP p] b (Ok λa c=>a= WP (uO e p)/\b=c):=by
 refine vC (PC.ok isNaN ?_);rintro _ _ ⟨rfl,rfl⟩;refine⟨_,rfl,PC.ok isNaN ?_⟩;rintro _ _ ⟨rfl,rfl⟩;refine⟨_,rfl,al.ff rfl (al.ff rfl (al.dec (λn=>Ok.mk ⟨by unfold uO;rw[Zx n],rfl⟩) (λn=>al.dec (λP=>Ok.mk ⟨by unfold uO;rw[Zq n,Zx P],rfl⟩) (λP=>Ok.mk ⟨by unfold uO;rw[Zq n,Zq P],rfl⟩))))⟩
def Fj:List Int->Int
 |[]=>0
 |x::n=>if x≠0 then x else Fj n
def KP(r:b.heap[a]? =some (.cells #[WP e,WP p,WP E] g (0,0))):
  be 72 #[.slice (UV a) 3 3] b (Ok λh d=>h= WP (Fj [e,p,E])/\b=d):=by
 refine GK ⟨λk c d=>∃n:Nat,c=n/\n<=3/\k=3-n/\Fj [e,p,E]=Fj ([e,p,E].drop n)/\b=d,⟨_,0,rfl,oM,rfl,rfl,rfl⟩,?_⟩;rintro k c _ _ ⟨n,rfl,w,rfl,i,rfl⟩;refine al.dec (λs=>?_) (λs=>?_)
 ·have t:∀f:Int,[e,p,E][n]? =some f->∃l m,(UV a:bc)=some ⟨l,m,none⟩/\(0:Int)<=n/\(n:Int)<((3:Nat):Int)/\∃j:Int,b.cell? ⟨l,m+Int.toNat n,none⟩=some (WP j)/\al (j !=0) (Ok (λh d=>h= WP (Fj [e,p,E])/\b=d) (.returned (WP j)) b) (∃o,o<3-n/\∃c:Nat,PP .i64 ((n:Int)+1)=c/\c<=3/\o=3-c/\Fj [e,p,E]=Fj ([e,p,E].drop c)/\b=b):=by
   intro f P;have q:[e,p,E].drop n=f::[e,p,E].drop (n+1):=by
    rw[X4 cS];congr 1;simpa using(Qv.1 P).2
   refine⟨a,0,rfl,oM,oM,f,ae r ?_,al.eP (λu=>Ok.mk ⟨?_,rfl⟩) (λv=>⟨_,oM,n+1,an oM,oM,rfl,?_,rfl⟩)⟩
   ·rw[Xz]
    match n,P with
    |0,P=>simp at P;simp[P]
    |1,P=>simp at P;simp[P]
    |2,P=>simp at P;simp[P]
    |n+3,P=>simp at P
   ·rw[i,q,Fj,Zx u]
   ·rw[i,q,Fj,Zq (by simpa using v)]
  have P:n<[e,p,E].length:=by simp;omega
  exact t [e,p,E][n] (by simp[P])
 ·obtain rfl:n=3:=oM
  exact Ok.mk ⟨by rw[i];rfl,rfl⟩
def Ig(n P:ah):Fj [uO n.az P.az,uO n.origin P.origin,uO n.seq P.seq]=td n P:=by
 unfold td eB uO Fj Fj Fj Fj
 by_cases d:n.az<P.az
 ·simp[d]
 by_cases g:P.az<n.az
 ·simp[d,g];omega
 have a:n.az=P.az:=oM
 by_cases e:n.origin<P.origin
 ·simp[a,e]
 by_cases h:P.origin<n.origin
 ·simp[a,e,h];omega
 have b:n.origin=P.origin:=oM
 by_cases c:n.seq<P.seq
 ·simp[a,b,c]
 by_cases f:P.seq<n.seq
 ·simp[a,b,c,f]
 ·simp[a,b,c,f]
def CR:be 128 #[.agg (aF l d a c).toArray,.agg (aF M v i r).toArray] b (Ok λh j=>h= WP (td l M)/\G b j):=by
 refine xz (PA.Yt λs k t m=>PA.Yt λu f w o=>λx p=>⟨λ_=>False,?_⟩);have n:=G.drew p;have P:=(n.keep (S:=λ_=>False)).get ((f.keep (S:=λ_=>False)).get m id) id;have e:=(n.keep (S:=λ_=>False)).get o id;refine⟨_,ae P rfl,_,ae e rfl,id,_,ae P rfl,id,_,ae e rfl,id,_,ae P rfl,id,_,ae e rfl,PC.ok eA ?_⟩;rintro _ _ ⟨rfl,rfl⟩;refine⟨_,rfl,aj.refl _,PC.ok eA ?_⟩;rintro _ _ ⟨rfl,rfl⟩;refine⟨_,rfl,aj.refl _,PC.ok eA ?_⟩;rintro _ _ ⟨rfl,rfl⟩;refine⟨_,rfl,aj.refl _,PA.Yt λy g z q=>⟨g.keep,PC.ok (KP q) ?_⟩⟩;rintro _ _ ⟨rfl,rfl⟩;exact⟨_,rfl,aj.refl _,Ok.mk ⟨by rw[Ig],((k.then f).then n).then g⟩⟩
structure To where
 e:ah
 a:bc
 n:Nat
 c:Nat
instance:Inhabited To:=⟨⟨⟨0,0,0,[],0,0,0,0,0,0⟩,none,0,0⟩⟩
def encS(n:To):List Value:=aF n.e n.a n.n n.c
def Tp(P:To):∀a∈encS P,a.oneCell'=true:=by
 intro b n;simp only[encS,aF,Q2,List.not_mem_nil,or_false]at n;rcases n with rfl|rfl|rfl|rfl|rfl|rfl|rfl|rfl|rfl|rfl<;>rfl
def Au(n P:To):ltOf (λn P:To=>td n.e P.e) n P=eB n.e P.e:=by
 unfold ltOf td
 cases a:eB n.e P.e
 ·cases b:eB P.e n.e<;>simp[a,b]
 ·simp[a]
def iJ:eB l M=true↔l.az<M.az\/l.az=M.az/\(l.origin<M.origin\/l.origin=M.origin/\l.seq<M.seq):=by simp[eB]
def uR:eB l M=false↔¬(l.az<M.az\/l.az=M.az/\(l.origin<M.origin\/l.origin=M.origin/\l.seq<M.seq)):=by rw[<-iJ];simp
def Yu:SWO (ltOf λn P:To=>td n.e P.e) where
 irrefl n:=by rw[Au,uR];omega
 trans n P z h1 h2:=by rw[Au,iJ]at*;omega
 ntrans n P z h1 h2:=by rw[Au,uR]at*;omega
def reps_evs{c:World}{D:UL}:∀{a:List ah} {cs:List Value},cd jh c D a cs->∃P:List To,P.map (·.e)=a/\cs=P.flatMap encS/\∀n∈P,Row aO 8 c D n.a n.n n.e.aM/\n.e.Ok
 |[],_,d=>⟨[],rfl,d,sM⟩
 |e::a,_,⟨r,s,f,⟨g,h,i,j,k,l⟩,m⟩=>by
  obtain⟨P,o,p,q⟩:=reps_evs m;refine⟨⟨e,g,h,i⟩::P,by simp[o],by rw[f,j,p];rfl,?_⟩;intro n b;rcases Q2.1 b with rfl|b
  ·exact⟨k,l⟩
  ·exact q n b
def reps_of_evs{a:World}{D:UL}:∀{n:List To},(∀x∈n,Row aO 8 a D x.a x.n x.e.aM/\x.e.Ok)->cd jh a D (n.map (·.e)) (n.flatMap encS)
 |[],_=>rfl
 |x::n,P=>⟨encS x,n.flatMap encS,rfl,⟨x.a,x.n,x.c,rfl,(P x (QV ..)).1,(P x (QV ..)).2⟩,reps_of_evs λb c=>P b (QJ _ c)⟩
def r_{n:List To}(P:a<n.length*10):(n.flatMap encS)[a]? =(encS n[a/10]!)[a % 10]? :=by
 induction n generalizing a with
 |nil=>simp at P
 |cons d n e=>
  have f:(encS d).length=10:=rfl;rw[List.flatMap_cons]
  by_cases b:a<10
  ·rw[XW oM,Nat.div_eq_of_lt b,Nat.mod_eq_of_lt b];rfl
  ·rw[X8 oM,f,e (by simp at P;omega)]
   obtain⟨c,rfl⟩:∃c,a=c+10:=⟨a-10,oM⟩
   rw[Nat.add_sub_cancel,Nat.add_div_right _ dC,Nat.add_mod_right];simp
def iz(n:List To):(n.flatMap encS).length=n.length*10:=by
 induction n with
 |nil=>rfl
 |cons P n a=>rw[List.flatMap_cons,QX,a];have b:(encS P).length=10:=rfl;rw[b];simp;omega
def CS(n:List To):(flatK encS 10 n.toArray).toList=n.flatMap encS:=by
 apply X3;intro P
 by_cases a:P<n.length*10
 ·rw[r_ a]
  have d:P<(flatK encS 10 n.toArray).size:=by simpa using a
  have b:=get_flatK encS 10 n.toArray P (by simpa using a);rw[getElem!_pos _ P d]at b;have e:(encS n[P/10]!).length=10:=rfl;have c:P % 10<(encS n[P/10]!).length:=by rw[e];omega
  rw[Qq (by simpa using a),Qq c]
  congr 1
  rw[Array.getElem_toList,b];rw[getElem!_pos _ _ (by simpa using c)]
  congr 1
  simp
 ·rw[Q7 (by simpa using a),Q7 (by rw[iz];omega)]
def CQ(n:List ah):Prop:=n.Pairwise λP a=>eB a P=false
def Kz(l:aT jh 57 f b d a c I)(t:I.length<=20000000):
  be 127 #[.slice d a c,.func (.func 128) #[] #[]] b (Ok λM u=>M= .tuple #[]/\∃A,A.Perm I/\CQ A/\aT jh 57 f u d a c A/\aj (λm=>aH d=some m) b u):=by
 obtain⟨cs,D,B,Z,N⟩:=l.body;obtain⟨P,C,rfl,a4⟩:=reps_evs Z;have E:=l.len dC;have v:P.length=a:=by rw[E,<-C];simp
 rcases B.cases with⟨rfl,rfl,rfl,h0⟩|⟨g,i,rfl,w,O,F,Q⟩
 ·have hd:P=[]:=QW v
  refine(AnyF.slices_SortFunc_none Tryz.VP none 0 _ b).mono ?_;rintro p u ⟨rfl,rfl⟩;exact Ok.mk ⟨rfl,I,List.Perm.refl _,by rw[<-C,hd];exact List.Pairwise.nil,l,aj.refl _⟩
 ·have R:jh.k=10:=rfl
  rw[R]at Q F;have a5:flatK encS 10 P.toArray=(P.flatMap encS).toArray:=by rw[<-CS]
  have hH:HoldsK encS 10 b g 0 P.toArray:=by
   intro j q;rw[size_flatK]at q;simp only[List.size_toArray]at q;have S:j<(P.flatMap encS).length:=by rw[iz];exact q
   refine⟨?_,by simp[World.frozen?,w]⟩;have k:(flatK encS 10 P.toArray)[j]! =(P.flatMap encS)[j]:=by
    rw[a5,getElem!_pos _ j (by simpa using S)];simp
   rw[k,Xz];refine ae w ?_;have h:(i.toList.take (a*10))[j]? =some (P.flatMap encS)[j]:=by rw[Q];exact Qq S
   rw[Xw,Zx oM]at h;simpa using h
  have t:=B.row;have H:c<=maxLen:=by
   obtain⟨_,a0,_,T,_,_,_,H,_⟩:=B.row.2.resolve_left (by rintro⟨l,_⟩;cases l);simp only[XX]at T;rw[T.2.2];exact H
  have a6:P.toArray.size<4611686018427387904:=by
   simp only[List.size_toArray,v];omega
  have U:=AnyQ.slices_SortFunc Tryz.VP 10 (λb=>dG _ _ _ kR ⟨_,Tryz.underlying57⟩ b) (λb=>Tryz.sizeOf57 b) encS (λ_=>rfl) Tp (λx V=>td x.e V.e) Yu 128 #[] g 0 c P.toArray b
   (enters_of Tryz.func128 kR rfl) (λb0 r dk b1 x V=>(CR).mono ?_) hH (aA w) a6
  ·rw[show P.toArray.size=a by simpa using v]at U
   refine U.mono ?_;rintro p u ⟨rfl,e,y,r,hp,hs,rfl⟩;obtain⟨p1,p2,W⟩:=hp;have n:e.size=a:=p1.trans (by simpa using v);have X:e.toList.Perm P:=by
    have k:e.extract 0 a=e:=by rw[<-n];exact Array.extract_size
    have h:P.toArray.extract 0 a=P.toArray:=by rw[show a=P.toArray.size by simpa using v.symm];exact Array.extract_size
    rw[k,h]at W;exact W
   have a1:flatK encS 10 e=(e.toList.flatMap encS).toArray:=by rw[<-CS]
   have J:(sortWorldK encS 10 b g 0 y e r).heap[g]? =some (.cells (putCells id 0 (flatK encS 10 e) i) 57 (0,0)):=by
    have a7:=aA w;show((Sort.ahead b y).heap.modify g _++r)[g]? =_;rw[Array.getElem?_append_left (by simpa[Sort.ahead]using a7),Array.getElem?_modify,Zx rfl];show Option.map _ b.heap[g]? =_;rw[w];rfl
   have z:aj (λm=>aH (UV g)=some m) b (sortWorldK encS 10 b g 0 y e r):=by
    refine⟨rfl,rfl,rfl,?_,λa2 z E=>?_⟩
    ·show b.heap.size<=((Sort.ahead b y).heap.modify g _++r).size
     simp[Sort.ahead]
    ·show((Sort.ahead b y).heap.modify g _++r)[a2]? =_
     rw[Array.getElem?_append_left (by simpa[Sort.ahead]using z),Array.getElem?_modify,Zq (λp=>E (by rw[p];rfl))]
     rfl
   have a3:(putCells id 0 (flatK encS 10 e) i).size=c*10:=by unfold putCells;rw[Array.size_mapIdx];exact F
   refine Ok.mk ⟨rfl,e.toList.map (·.e),by rw[<-C];exact X.map _,?_,⟨⟨e.toList.flatMap encS,D,⟨⟨?_,.inr ⟨g,c,_,rfl,Qj _,J,O,H,a3,?_⟩⟩⟩,reps_of_evs λx hx=>?_,N⟩,l.self,λm t=>Qk (l.aE m t) z.size⟩,z⟩
   ·unfold CQ
    rw[List.pairwise_map,List.pairwise_iff_getElem];intro Y j hi q a8;have k:=hs Y j (Qj _) a8 (by simpa[n]using q);rw[Au,getElem!_pos _ j (by simpa using q),getElem!_pos _ Y (by simpa using hi)]at k;simpa using k
   ·rw[iz,XK,n];rfl
   ·apply X3
    intro s;rw[R,Xw];split
    ·rename_i o
     rw[r_ (by rw[XK,n];exact o),<-r_ (by rw[XK,n];exact o)];unfold putCells;have a9:s<i.size:=by rw[F];exact Qk o (Q0 _ O)
     rw[Array.getElem?_toList,Array.getElem?_mapIdx,X6 a9];simp only[Option.map_some];have K:s<(flatK encS 10 e).size:=by rw[size_flatK,n];exact o
     rw[Zx ⟨Qj _,by rw[Xz];exact K⟩,Nat.sub_zero,getElem!_pos _ s K];have:(flatK encS 10 e)[s]=(e.toList.flatMap encS)[s]'(by rw[iz,XK,n];exact o):=by
      have h:=Zj (·[s]?) a1;simp only[List.getElem?_toArray]at h;rw[X6 K,Qq (by rw[iz,XK,n];exact o)]at h;exact XJ h
     rw[this];exact(Qq _).symm
    ·rename_i o
     rw[Q7 (by rw[iz,XK,n];omega)]
   ·have L:x∈P:=X.mem_iff.1 hx
    obtain⟨k,h⟩:=a4 x L;exact⟨k.keep z λm t p=>(N m t).2 p,h⟩
  ·rintro p u ⟨M,rfl,rfl,hG⟩
   exact⟨rfl,hG⟩
open Go.aw
abbrev VV(n:List ah):Prop:=n.Pairwise λP a=>eB P a=true
structure aq.OK (S:aq):Prop where
 n:S.n<=64
 QE:VV S.l
 ids:(S.l.map bd).Nodup
 Xp:∀e∈S.l,df e S.n=0
 ok:∀e∈S.l,e.Ok
def Gb(P:bd l≠bd M):eB l M=true\/eB M l=true:=by
 rw[iJ,iJ];have:¬(l.origin=M.origin/\l.seq=M.seq):=λn=>P (by unfold bd;rw[n.1,n.2]);omega
def tP{n P a:ah}(b:eB n P=true)(c:eB P a=true):eB n a=true:=by rw[iJ]at*;omega
def nC(n:eB l M=true):eB M l=false:=by rw[iJ]at n;rw[uR];omega
def cO(P:ah):∀n,(dz P n).Perm (P::n)
 |[]=>List.Perm.refl _
 |x::n=>by
  unfold dz;split
  ·exact List.Perm.refl _
  ·exact(List.Perm.cons x (cO P n)).trans (List.Perm.swap P x n)
def xd{c:ah}:∀{P},VV P->(∀x∈P,bd x≠bd c)->VV (dz c P)
 |[],_,_=>by unfold dz;exact List.pairwise_singleton ..
 |x::P,d,e=>by
  obtain⟨f,g⟩:=List.pairwise_cons.1 d;unfold dz;split
  ·rename_i b
   exact List.pairwise_cons.2 ⟨λa n=>by
    rcases Q2.1 n with rfl|n
    ·exact b
    ·exact tP b (f a n),d⟩
  ·rename_i b
   refine List.pairwise_cons.2 ⟨λa n=>?_,xd g λa n=>e a (QJ _ n)⟩;rcases Q2.1 ((cO c P).mem_iff.1 n)with rfl|n
   ·exact(Gb (e x (QV ..))).resolve_right (by simpa using b)
   ·exact f a n
def Nb(f:CQ I)(g:VV g0)(b:I.Perm g0)(i:(I.map bd).Nodup):I=g0:=by
 refine b.eq_of_pairwise (le:=λP n=>eB n P=false) (λP n j k c d=>?_) f (g.imp λh=>nC h)
 by_cases e:bd P=bd n
 ·have a:n∈I:=b.mem_iff.2 k
  obtain⟨o,l,rfl⟩:=List.getElem_of_mem j;obtain⟨p,m,rfl⟩:=List.getElem_of_mem a;have:=(List.getElem_inj (xs:=I.map bd) (h₀:=by simpa using l) (h₁:=by simpa using m) i).1 (by simpa using e);subst this;rfl
 ·rcases Gb e with h|h
  ·rw[h]at d;cases d
  ·rw[h]at c;cases c
def Vi(P:(I.map bd).Nodup)(n:l∈I):I.find? (λa=>bd a==bd l)=some l:=by
 induction I with
 |nil=>cases n
 |cons a I b=>
  simp only[QY,List.nodup_cons]at P;rcases Q2.1 n with rfl|n
  ·simp
  ·have c:bd a≠bd l:=λd=>P.1 (d▸Xk.2 ⟨l,n,rfl⟩)
   rw[List.find?_cons_of_neg (by simpa using c)];exact b P.2 n
def aq.get_some(n:B.get d6=some l):l∈B.l/\bd l=d6:=
 ⟨List.mem_of_find?_eq_some n,by simpa using List.find?_some n⟩
def aq.get_none(P:B.get d6=none):∀n∈B.l,bd n≠d6:=λn a=>by
 have:=List.find?_eq_none.1 P n a;simpa using this
def aq.OK.get(n:B.OK)(P:l∈B.l):B.get (bd l)=some l:=Vi n.ids P
def Ky(g:B.OK)(c:∀n∈h5,n.1=bd n.2)(d:(h5.map (·.2)).Perm B.l)(k:Tidy h5)(P:Int×Int):au h5 P=B.get P:=by
 cases a:au h5 P with
 |none=>
  rw[jC]at a
  symm
  refine List.find?_eq_none.2 λb h=>?_;obtain⟨n,e,rfl⟩:=Xk.1 (d.mem_iff.2 h);intro i;exact a (Xk.2 ⟨n,e,by rw[c n e];simpa using i⟩)
 |some b=>
  have f:=cz a;have j:P=bd b:=c _ f;have:b∈B.l:=d.mem_iff.1 (Xk.2 ⟨_,f,rfl⟩);rw[j,g.get this]
def yk(P:List ah)(n:Int):P.foldl (λn a=>max n a.az) n=max n (P.foldl (λn a=>max n a.az) 0)\/n<0:=by
 induction P generalizing n with
 |nil=>simp;omega
 |cons b P c=>
  rw[List.foldl_cons,List.foldl_cons]
  by_cases e:n<0
  ·exact .inr e
  ·rcases c (max n b.az)with h|h
   ·rcases c (max 0 b.az)with d|d
    ·left;rw[h,d];omega
    ·omega
   ·omega
def aq.Vg(n:aq)(P:ah):aq.top ⟨n.n,dz P n.l⟩=max n.top P.az:=by
 show(dz P n.l).foldl _ _=_;rw[(cO P n.l).foldl_eq' (λa _ b _ c=>oM),List.foldl_cons];rcases yk n.l (max 0 P.az)with h|h
 ·rw[h]
  show max (max 0 P.az) n.top=_;have:0<=n.top:=by
   rcases yk n.l 0 with h|h
   ·unfold aq.top;omega
   ·omega
  omega
 ·omega
def aq.MR(n:aq):0<=n.top:=by
 rcases yk n.l 0 with h|h
 ·unfold aq.top;omega
 ·omega
def lr(n:df l a=0):0<=l.origin/\l.origin<a/\1<=l.seq/\1<=l.az/\0<=l.agg/\0<=l.key/\l.aM.length=a/\(∀P∈l.aM,0<=P)/\l.aM.getD l.origin.toNat 0=pW (l.seq-1)/\1<=l.op/\l.op<=5/\0<=l.aX/\l.aX<8/\0<=l.field/\l.field<8:=by
 unfold df at n;split at n
 ·simp at n
 ·rename_i b
  split at n
  ·simp at n
  ·rename_i c
   split at n
   ·simp at n
   ·rename_i g
    split at n
    ·simp at n
    ·rename_i h
     simp only[not_or,List.any_eq_true,Zk,not_exists,not_and]at b;obtain⟨i,j,k,P,m,d⟩:=b;refine⟨oM,oM,oM,oM,oM,oM,oM,λe f=>by have:=d e f;omega,by simpa using c,oM,oM,oM,oM,oM,oM⟩
def aq.Gj(n:aq)(P:ah)(a:Nat):aq.sA ⟨n.n,dz P n.l⟩ a=n.sA a+if P.origin=(a:Int)then 1 else 0:=by
 unfold aq.sA;show(dz P n.l).countP _=_;rw[(cO P n.l).countP_eq,List.countP_cons]
 congr 1
 simp
def aq.Mm(n:aq)(P:Nat):n.sA P<=n.l.length:=List.countP_le_length
def aq.bI(n:aq):n.vec.length=n.n:=by simp[aq.vec]
def aq.lg(n:aq)(P:a<n.n):n.vec[a]? =some (n.sA a:Int):=by simp[aq.vec,P]
def aq.qF(S:aq)(n:a<S.n):S.vec.getD a 0=(S.sA a:Int):=by rw[QQ,S.lg n];rfl
def aq.NH(n:aq)(b:ah)(e:b.origin=(a:Int)):aq.vec ⟨n.n,dz b n.l⟩=n.vec.set a (n.sA a+1:Int):=by
 apply X3;intro c
 by_cases P:c<n.n
 ·rw[aq.lg ⟨n.n,dz b n.l⟩ P,aq.Gj,Xj,n.lg P,n.bI]
  by_cases d:a=c
  ·subst d;simp[e,P]
  ·rw[Zq d,Zq oM];simp
 ·rw[Q7 (by rw[aq.bI];exact Nat.le_of_not_lt P),Q7 (by rw[List.length_set,n.bI];omega)]
def aq.add_def(n:aq)(P:ah):n.add P=if df P n.n≠0 then(df P n.n,n)else if(n.get (bd P)).isSome then(16,n)else
 if P.seq≠(n.vec.getD P.origin.toNat 0)+1 then(9,n)else if(List.range n.n).any λa=>!n.lW P a then(9,n)else(0,⟨n.n,dz P n.l⟩):=rfl
def aq.AA(n:B.OK)(f:l.Ok):(B.add l).2.OK/\(B.add l).2.n=B.n:=by
 rw[aq.add_def]
 by_cases b:df l B.n=0
 rotate_left
 ·rw[Zx b];exact⟨n,rfl⟩
 rw[Zq (by simpa using b)]
 by_cases c:(B.get (bd l)).isSome=true
 ·rw[Zx c];exact⟨n,rfl⟩
 rw[Zq c];split
 ·exact⟨n,rfl⟩
 split
 ·exact⟨n,rfl⟩
 have e:B.get (bd l)=none:=by simpa using c
 have d:=cO l B.l;refine⟨⟨n.n,xd n.QE (aq.get_none e),?_,?_,?_⟩,rfl⟩
 ·refine(d.map bd).nodup_iff.2 ?_
  rw[QY,List.nodup_cons];exact⟨λg=>by obtain⟨a,P,h⟩:=Xk.1 g;exact aq.get_none e a P h,n.ids⟩
 ·intro a P
  rcases Q2.1 (d.mem_iff.1 P)with rfl|P
  ·exact b
  ·exact n.Xp a P
 ·intro a P
  rcases Q2.1 (d.mem_iff.1 P)with rfl|P
  ·exact f
  ·exact n.ok a P
def aq.tL(n:a<=64):aq.OK ⟨a,[]⟩:=⟨n,List.Pairwise.nil,sM,sM,sM⟩
end Go.Proofs.YtkpomgifkloklabGreatDoor
namespace Go.aw
open Go
def ie(n:List Int):List UInt8:=bk ((n.length:Int)::n)
def bU(n:List Int):List UInt8:=cE 2 (ie n)
def kL(n:List UInt8):List Int×h_:=aW (bF 64 ⟨n,0,0⟩).1.toNat (bF 64 ⟨n,0,0⟩).2
def iO(n:List UInt8):Option (List Int):=
 if(br n).no≠0\/(br n).n≠n.length\/(br n).kind≠2 then none else if ia (kL (br n).body).2≠0 then none else some (kL (br n).body).1
def Fc(n:List UInt8):(∀P∈(kL n).1,aK P)/\(kL n).1.length<=64/\(kL n).2.Fit:=by
 obtain⟨a,e,f,g⟩:=h_.Fit.count (r:=⟨n,0,0⟩) ⟨Qj _,.inl rfl⟩ (m:=64) oM;obtain⟨b,c,d,h⟩:=a.ints (bF 64 ⟨n,0,0⟩).1.toNat;exact⟨c,by show(aW _ _).1.length<=64;rw[d];omega,b⟩
variable{s:List Int}{u:List UInt8}
def PM(n:iO u=some s):(∀P∈s,aK P)/\s.length<=64:=by
 unfold iO at n;split at n
 ·cases n
 split at n
 ·cases n
 ·cases n
  exact⟨(Fc _).1,(Fc _).2.1⟩
def x_(a:∀n∈s,aK n)(b:s.length<=64):(ie s).length<=585:=by
 have:=fW (l:=(s.length:Int)::s) (by
  intro n P;rcases Q2.1 P with rfl|P
  ·unfold aK;omega
  ·exact a n P)
 unfold ie;rw[Xq]at this;omega
def rO(n:List Int):(bU n).length=(ie n).length+9:=fk _ _
def oK(n:∀a∈s,aK a)(b:s.length<=64):iO (bU s)=some s:=by
 have j:=x_ n b;have c:br (bU s)=⟨2,ie s,(ie s).length+9,0⟩:=by
  have:=Fg (k:=2) (body:=ie s) (r:=[]) dC dC oM
  rwa [List.append_nil]at this
 have d:(h_.mk (ie s) 0 0).At (ie s) (d_ (s.length:Int)++(bk (s++[])++[])):=⟨rfl,Qj _,rfl,by rw[List.drop_zero];simp[ie,lk]⟩
 obtain⟨e,f⟩:=d.count (m:=64) cw oM oM;obtain⟨g,h⟩:=h_.At.ints s f n;have P:kL (ie s)=aW s.length (bF 64 ⟨ie s,0,0⟩).2:=by unfold kL;rw[e,Qx]
 have i:ia (kL (ie s)).2=0:=by rw[P];exact h_.At.done (by simpa[bk]using h)
 unfold iO;rw[c,Zq (by simp[rO])];simp only;rw[Zq (by rw[i];simp),P,g]
end Go.aw
namespace Go.Proofs.YtkpomgifkloklabGreatDoor
open Go.aw
def GR(n:Int)(P:bZ):Int:=P.synced+max 0 (min n ((P.bytes.length:Int)-P.synced))
def sV(n:Int)(P:bZ):bZ:=P.cut (GR n P)
def ak.ej(D:ak)(n:Int):ak:={D with files:=(D.files.filter λP=>P.2.jJ).map (λP=>(P.1,sV n P.2)),ju:=false,dead:=false}
def ak.Jg(D:ak)(n:List (ByteArray×bZ)):ak:=⟨D.most,n,D.ju,D.left,D.dead⟩
def ak.iu(D:ak):ak:={D with files:=D.files.filter λn=>n.2.jJ}
def DN(n:List (ByteArray×bZ))(P:ByteArray×bZ->Bool):fe (n.filter P)<=fe n:=by
 unfold fe
 induction n with
 |nil=>simp
 |cons a n b=>
  rw[List.filter_cons];split
  ·simp;omega
  ·simp;omega
variable{x:ByteArray}{E a0 e p:Int}{g1:List ByteArray}{b3 s:List Int}{a c i r:Nat}{Z f:UL}{X a2:Operand}{d v:bc}{j:Type}{b:World}{M l:ah}
def rb{n:List (ByteArray×j)}(P:Tidy n)(a:ByteArray×j->Bool):Tidy (n.filter a):=List.Nodup.sublist (List.Sublist.map _ List.filter_sublist) P
def ak.Ok.iu{D:ak}(n:D.Ok):D.iu.Ok:=by
 have c:=DN D.files λP=>P.2.jJ;have b:=n.fits;have d:=List.length_filter_le (λP:ByteArray×bZ=>P.2.jJ) D.files;have e:=n.many;unfold ak.used at b;exact⟨n.most,by show fe (D.files.filter _)<=D.most;omega,by show(D.files.filter _).length<=64;omega,rb n.tidy _,λP a=>n.names P (List.mem_filter.1 a).1,λP a=>n.TD P (List.mem_filter.1 a).1,n.BI,n.BJ⟩
def RT{P:List (ByteArray×j)}(b:Tidy P){k e:ByteArray×j->j}{u l:j}(f:(x,u)∈P)(g:∀a∈P,a.1≠x->e a=k a)(p:e (x,u)=l):
  aI (P.map λn=>(n.1,k n)) x l=P.map λn=>(n.1,e n):=by
 induction P with
 |nil=>cases f
 |cons q P m=>
  obtain⟨n,a⟩:=q;unfold Tidy at b m;simp only[QY,List.nodup_cons]at b;simp only[QY];unfold aI
  by_cases h:(x==n)=true
  ·have r:x=n:=eq_of_beq h
   subst r;have s:a=u:=by
    rcases Q2.1 f with h|h
    ·cases h;rfl
    ·exact Zz (Xk.2 ⟨_,h,rfl⟩) b.1
   subst s;rw[Zx h,p]
   congr 1
   refine List.map_congr_left λc d=>?_;rw[g c (QJ _ d) λi=>b.1 (Xk.2 ⟨c,d,i⟩)]
  ·have o:n≠x:=λi=>h (by rw[i];simp)
   rw[Zq h,g (n,a) (QV ..) o]
   congr 1
   refine m b.2 ?_ λc d=>g c (QJ _ d);rcases Q2.1 f with H|H
   ·cases H;exact Zz rfl o
   ·exact H
def sW(n:Int)(left:List (ByteArray×od))(P:ByteArray×bZ):bZ:=if left.any (λa=>a.1==P.1)then P.2 else sV n P.2
def Ma{D:ak}(h:aV b a f D)(e5:aK e):
  be 63 #[RK a,WP e] b (Ok λS t=>∃q,S= .tuple #[]/\aV t a q (D.ej e)/\cm f b q t):=by
 obtain⟨u,x,j⟩:=h.open;have e6:x.filter (λn=>n.2.f.jJ)=x.filter (λn=>n.2.f.jJ):=rfl;refine uh ⟨a,0,rfl,some u,ae j.head rfl,PC.ok (z_ j.map j.each λn k P i=>(j.Jc n k P i).2.2) ?_⟩;rintro _ v ⟨rfl,c1,B⟩;have c2:∀P,P=u->f P:=λP m=>m▸j.Fr;have r:fC v a f D.iu u (x.filter λn=>n.2.f.jJ):=by
  have C:∀n∈x.filter (λn=>n.2.f.jJ),n∈x:=λn k=>(List.mem_filter.1 k).1;refine⟨B.get j.head (λm=>j.pr m),c1,?_,⟨λn k=>(j.each.each n (C n k)).keep B λP i=>(j.Jc n (C n k) P i).2.2,λn k c o=>j.each.apart n (C n k) c (C c o),rb j.each.tidy _⟩,λn k=>j.Jc n (C n k),j.Fr,j.pr,j.self,λP i=>Qk (j.aE P i) B.size,j.ok.iu⟩;show D.files.filter _=_;rw[j.files,List.filter_map]
  rfl
 generalize e7:x.filter (λn=>n.2.f.jJ)=p at r;have c3:∀n∈p,∀P,n.2.G P->P<v.heap.size:=λn k P i=>(r.each.each n k).aE P i;refine⟨rfl,a,0,rfl,some u,ae r.head rfl,mapRange mF r.map λw2 hR T s2=>?_⟩;have c4:Tidy D.iu.files:=r.ok.tidy;have c5:∀c∈p,vO c∈D.iu.files:=λc o=>by rw[r.files];exact Xk.2 ⟨c,o,rfl⟩
 have a5:cm f b f w2:=⟨((B.mono λP _ i=>c2 P i)).af T,λ_ h=>.inl h⟩
 refine⟨λU t=>∃(left s:List (ByteArray×od)) (q:UL),cU t v.heap.size u Value.string (p.map eF) (left.map eF)/\U=left.length/\fC t a q (D.iu.Jg (D.iu.files.map λg=>(g.1,sW e left g))) u s/\s.map eF=p.map eF/\
   cm f b q t/\(∀n∈left,n∈p/\au s n.1=some n.2)/\Tidy left/\v.heap.size<t.heap.size/\¬q v.heap.size,
  ⟨_,p,p,f,hR,rfl,?_,rfl,a5,λn k=>⟨k,ri r.each.tidy k⟩,r.each.tidy,oM,λi=>by have:=r.aE _ i;omega⟩,?_⟩
 ·have m:(D.iu.files.map λn=>(n.1,sW e p n))=D.iu.files:=by
   have:∀n∈D.iu.files,(n.1,sW e p n)=n:=λn k=>by
    rw[r.files]at k;obtain⟨c,o,rfl⟩:=Xk.1 k;have:p.any (λg=>g.1==(vO c).1)=true:=List.any_eq_true.2 ⟨c,o,by simp[vO]⟩;unfold sW;rw[Zx this]
   have I:=List.map_congr_left (f:=λn=>(n.1,sW e p n)) (g:=id) this;rw[I,List.map_id]
  rw[m];exact r.af T
 ·rintro U a1 w3 ⟨left,s,q,c6,rfl,V,a7,J,W,y,e2,X⟩
  refine oe c6 (λK=>.inl ⟨rfl,?_⟩) λd S l1 l2 Y c7 c8 c9 Z s4=>.inr ⟨_,_,rfl,rl c9 ?_⟩
  ·have d0:left=[]:=by simpa using K
   subst d0;refine⟨a,0,rfl,V.at.Jb λw5 h5 k5 s5=>⟨a,0,rfl,h5.Am λw6 h6 k6 s6=>Ok.mk ⟨q,rfl,?_,J.trans ⟨k5.then k6,λ_ h=>.inl h⟩⟩⟩⟩;have m:(D.iu.files.map λn=>(n.1,sW e [] n))=(D.files.filter λn=>n.2.jJ).map (λn=>(n.1,sV e n.2)):=List.map_congr_left λn _=>by simp[sW]
   rw[m]at h6;exact h6
  ·obtain⟨l,n,P,rfl,rfl,rfl,rfl⟩:=xO c7
   obtain⟨a8,E⟩:=W (d,n) sM;have E:au s d=some n:=E;have a9:∀P,P=v.heap.size->¬q P:=λP m=>m▸X;have w:=V.keep Z λP i m=>a9 P m i;have L:=w.get E;have M:=cz E;have d1:eK Y n.q n.G n.f:=w.each.each _ M;have d2:∀P,n.G P->P<v.heap.size:=c3 _ a8;have b0:∀P,n.G P->q P/\P≠a/\P≠u:=w.Jc _ M;have b1:n.f.bytes.length<=262144:=w.ok.len (cz L);have e3:n.f.synced<=n.f.bytes.length:=w.ok.TD _ (cz L);have e8:n.f=(vO (d,n)).2:=rfl;refine⟨_,_,rfl,λw5 z=>?_⟩;have b2:=d1.keep (z.keep (S:=λ_=>False)) λ_ _ h=>h;have b3:=w.af z.keep;obtain⟨fa,A,fc,F0,F,I,h3,h4⟩:=b2.body;have b4:A=n.f.bytes.length:=I.len dC;have H:(if(if(PP .i64 (((A:Nat):Int)-(n.f.synced:Int)))<e then(PP .i64 (((A:Nat):Int)-(n.f.synced:Int)))else e)>0 then(if(PP .i64 (((A:Nat):Int)-(n.f.synced:Int)))<e then(PP .i64 (((A:Nat):Int)-(n.f.synced:Int)))else e)else 0)=max 0 (min e ((n.f.bytes.length:Int)-n.f.synced)):=by
    rw[wrap_i64 cw,b4];omega
   refine⟨n.q,0,rfl,_,ae F rfl,n.q,0,rfl,fa,A,fc,ae F rfl,n.q,0,rfl,_,ae F rfl,?_⟩;refine PC.ok (by rw[H,wrap_i64 (by unfold aK at*;omega)];exact BN b2 b1) ?_;rintro _ w6 ⟨N,rfl,O,Q⟩
   replace O:eK w6 n.q N (sV e n.f):=O
   have d3:((D.iu.Jg (D.iu.files.map λg=>(g.1,sW e (l++(d,n)::P) g))).fH d (sV e n.f)).Ok:=b3.ok.cut L _;obtain⟨F6,b5,a0⟩:=b3.fm E O Q d3;have d4:=c8.keep (z.keep (S:=λ_=>False)) id id;have d5:=d4.keep Q.keep (λi=>by have:=d2 _ i;omega) (λi=>(b0 _ i).2.2 rfl);have b6:d∉(l++P).map (·.1):=by
    unfold Tidy at y;rw[Q3,QY]at y;rw[Q3];intro b7;have hp:=(List.perm_middle (a:=d) (l₁:=l.map (·.1)) (l₂:=P.map (·.1))).nodup_iff.1 y;exact(List.nodup_cons.1 hp).1 b7
   have b8:Tidy (l++P):=by
    unfold Tidy at y⊢;rw[Q3,QY]at y;rw[Q3];exact(List.nodup_cons.1 ((List.perm_middle (a:=d) (l₁:=l.map (·.1)) (l₂:=P.map (·.1))).nodup_iff.1 y)).2
   have b9:(l++P).any (λc=>c.1==d)=false:=by
    rw[List.any_eq_false];intro c o K;exact b6 (Xk.2 ⟨c,o,eq_of_beq K⟩)
   have fQ:aI (D.iu.files.map λg=>(g.1,sW e (l++(d,n)::P) g)) d (sV e n.f)=D.iu.files.map λg=>(g.1,sW e (l++P) g):=by
    refine RT (u:=n.f) c4 (c5 _ a8) (λc o R=>?_) ?_
    ·have d6:(d==c.1)=false:=beq_false_of_ne (Ne.symm R)
     have m:(l++(d,n)::P).any (λg=>g.1==c.1)=(l++P).any (λg=>g.1==c.1):=by
      rw[List.any_append,List.any_cons,List.any_append,d6,Bool.false_or]
     show sW e (l++P) c=sW e (l++(d,n)::P) c;unfold sW;rw[m]
    ·unfold sW
     rw[Zq (by show¬((l++P).any (λc=>c.1==d)=true);rw[b9];simp)]
   have d7:(D.iu.Jg (D.iu.files.map λg=>(g.1,sW e (l++(d,n)::P) g))).fH d (sV e n.f)=D.iu.Jg (D.iu.files.map λg=>(g.1,sW e (l++P) g)):=by
    unfold ak.fH ak.Jg;simp only[fQ]
   rw[d7]at b5;have a4:(aI s d (⟨n.q,N,sV e n.f⟩:od)).map eF=p.map eF:=by
    have F:(aI s d (⟨n.q,N,sV e n.f⟩:od)).map eF=aI (s.map eF) d (ptr n.q):=rf (λn:od=>ptr n.q) s d _;rw[F,rk (k:=d) (v:=ptr n.q) (l:=s.map eF) (Xk.2 ⟨(d,n),M,rfl⟩) w.map.tidy,a7]
   refine⟨rfl,_,?_,l++P,_,F6,by rw[Q3];exact d5,rfl,b5,a4,?_,λc o=>?_,b8,?_,?_⟩
   ·simp
   ·have e4:=B.size
    have d8:cm f b q Y:=⟨J.keep.new Z λP i=>.inr oM,J.new⟩
    exact(d8.trans ⟨z.keep,λ_ h=>.inl h⟩).trans a0
   ·have d9:c∈l++(d,n)::P:=by simp only[Q6,Q2]at o⊢;exact o.imp id .inr
    obtain⟨e0,e1⟩:=W c d9;have R:c.1≠d:=λm=>b6 (Xk.2 ⟨c,o,m⟩);refine⟨e0,?_⟩;rw[bB,Zq (by simpa using R)];exact e1
   ·have:=Q.keep.size;have:=(z.keep (S:=λ_=>False)).size;omega
   ·intro i
    rcases a0.new _ i with h|h
    ·exact X h
    ·have:=(z.keep (S:=λ_=>False)).size;omega
def aQ:ByteArray:=⟨#[109,97,110,105,102,101,115,116,46,116,109,112]⟩
def cf:ByteArray:=⟨#[109,97,110,105,102,101,115,116]⟩
def eu(D:ak):Int×ak:=if(au D.files aQ).isSome then D.delete aQ else(0,D)
def pL(n:List Int):Nat->ak->Int×ak
 |0,D=>eu D
 |1,D=>D.create aQ
 |2,D=>D.append aQ (bU n)
 |3,D=>D.sync aQ
 |_,D=>D.rename aQ cf
def oZ(n:List Int):Nat->Nat->ak->Int×ak
 |_,0,D=>(0,D)
 |P,a+1,D=>if(pL n P D).1≠0 then((pL n P D).1,(eu (pL n P D).2).2)else oZ n (P+1) a (pL n P D).2
def bA(D:ak)(n:List Int):Int×ak:=if 64<n.length then(3,D)else oZ n 0 5 D
def dB(D:ak):Option (List Int):=if(D.read cf).2≠0 then none else iO (D.read cf).1
def JM(n:List ByteArray):(tk n).Perm n:=List.mergeSort_perm _ _
def EZ{D:ak}:x∈D.list↔(au D.files x).isSome=true:=by
 unfold ak.list;rw[(JM _).mem_iff];constructor
 ·intro n
  cases P:au D.files x with
  |none=>exact Zz n (jC.1 P)
  |some a=>rfl
 ·intro n
  obtain⟨a,b⟩:=Option.isSome_iff_exists.1 n;exact Xk.2 ⟨_,cz b,rfl⟩
def oI(D:ak):D.list.length=D.files.length:=by unfold ak.list tk;simp
def PL(n:List Int)(c:a<5)(D:ak):oZ n a (5-a) D=if(pL n a D).1≠0 then((pL n a D).1,(eu (pL n a D).2).2)else oZ n (a+1) (5-(a+1)) (pL n a D).2:=by
 obtain⟨P,b⟩:∃P,5-a=P+1:=⟨4-a,oM⟩
 rw[b,show 5-(a+1)=P by omega]
 rfl
def Hs{D:UL}(P:Row Pd 16 b D d a g1):
  be 307 #[.slice d a c,.string x] b (Ok λo e=>(∃k:Int,o= WP k/\(0<=k↔x∈g1))/\b=e):=by
 have u:=P.len;have p:=P.eR;unfold aP at p;refine kC ⟨λl i e=>∃n:Nat,i=n/\n<=a/\l=a-n/\x∉g1.take n/\b=e,⟨_,0,rfl,Qj _,rfl,sM,rfl⟩,?_⟩;rintro l i _ _ ⟨n,rfl,v,rfl,f,rfl⟩;refine al.dec (λq=>?_) (λq=>?_)
 ·obtain⟨r,g,w,rfl,m,_,s⟩:=P.ni (i:=n) oM
  refine⟨r,g,rfl,oM,oM,_,s,al.YU (λj=>?_) (λj=>?_)⟩
  ·exact Ok.mk ⟨⟨_,rfl,λ_=>j▸QZ m,λ_=>oM⟩,rfl⟩
  ·refine⟨_,oM,n+1,an oM,oM,rfl,?_,rfl⟩
   rw[Qw,m];intro t;rcases Q6.1 t with h|h
   ·exact f h
   ·simp at h;exact j h
 ·rw[Qz oM]at f
  exact Ok.mk ⟨⟨_,rfl,λh=>oM,λh=>Zz h f⟩,rfl⟩
def Ac{D:UL}(n:Row Pd 16 b D d a g1):
  be 261 #[.slice d a c,.string x] b (Ok λP e=>P= .bool (decide (x∈g1))/\b=e):=by
 refine jm (PC.ok (Hs n) ?_);rintro _ _ ⟨⟨g,rfl,f⟩,rfl⟩;exact⟨_,rfl,Ok.mk ⟨by rw[decide_eq_decide.2 f],rfl⟩⟩
def rN{D:ak}(n:aV b a f D):be 198 #[RK a] b (Ok (vP b a f (eu D))):=by
 refine xC (PC.ok (xQ n) ?_);rintro _ l ⟨m,o,p,G,rfl,g,P,q⟩;have r:D.list.length<=64:=by rw[oI];exact n.ok.many
 refine⟨_,_,_,rfl,PC.ok (Ac (g.row dC ce)) ?_⟩;rintro _ _ ⟨rfl,rfl⟩;have e:(aQ∈D.list)↔(au D.files aQ).isSome=true:=EZ;refine⟨_,rfl,al.dec (λc=>PC.ok (yA (n.af P)) λh i j=>mz h i P ?_) (λc=>?_)⟩
 ·have d:eu D=D.delete aQ:=by unfold eu;rw[Zx (e.1 c)]
  rw[d];exact j
 ·have d:eu D=(0,D):=by unfold eu;rw[Zq λk=>c (e.2 k)]
  rw[d];exact Ok.mk (vP.same (n.af P) P.keep)
def Cv(C:qK b)(u:Row aO 8 b f d a s)(v:∀h∈s,aK h)(hD:∀P,f P->P<b.heap.size)(E:s.length<=64):
  be 202 #[.agg #[.slice d a c]] b (Ok (pQ gj 5 b (bU s))):=by
 have F:=u.len;refine xD (PA.mk λH I s1 w=>⟨_,_,_,ae w rfl,PC.ok (BO (m:=(a:Int)) cw (Row.nil H λ_=>False) ce λ_ J=>J.elim) ?_⟩);rintro _ L ⟨a2,n2,c2,M,rfl,x,y,N⟩;have O:ai b L:=I.then y;have Q:d_ (a:Int)=bk ((a:Int)::s.take 0):=by simp[bk]
 rw[List.nil_append,Q]at x;refine⟨_,_,_,rfl,_,_,_,ae (y.get w id) rfl,λz l m o i A=>∃n:Nat,i=n/\n<=a/\z=a-n/\∃B,aT gj 5 B A l m o (bk ((a:Int)::s.take n))/\ai b A/\∀P,B P->b.heap.size<=P,
  ⟨_,0,rfl,Qj _,rfl,M,x,O,λP j=>by have:=N P j;omega⟩,?_⟩
 rintro z l m o i _ R ⟨n,rfl,hj,rfl,S,e,g,a0⟩;have a1:(bk ((a:Int)::s.take n)).length<=9*(n+1):=by
  have h1:=fW (l:=(a:Int)::s.take n) (by
   intro h K;rcases Q2.1 K with rfl|K
   ·unfold aK;omega
   ·exact v h (List.mem_of_mem_take K))
  have h2:((a:Int)::s.take n).length=n+1:=by simp;omega
  omega
 have a3:=e.len dC;refine al.dec (λa5=>?_) (λa6=>?_)
 ·obtain⟨P,p,h,rfl,K,T,U⟩:=(u.af g).ni (i:=n) oM
  refine⟨P,p,rfl,oM,oM,_,U,PC.ok (BO T (e.row (bytes:=1) dC ce) ce e.aE) ?_⟩;rintro _ V ⟨W,X,Y,q,rfl,k,r,t⟩;refine⟨_,_,_,rfl,_,?_,n+1,an oM,oM,rfl,q,?_,g.then r,λP j=>by have:=t P j;have:=g.size;omega⟩
  ·omega
  ·have Z:bk ((a:Int)::s.take (n+1))=bk ((a:Int)::s.take n)++d_ h:=by
    rw[Qw,K,<-List.cons_append,iS]
    congr 1
    simp[bk]
   rw[Z];exact k
 ·obtain rfl:n=a:=oM
  rw[Qz oM,F]at e
  change aT gj 5 S R l m o (ie s)at e
  have a7:=x_ v E;refine PC.ok (EK (C.af g) (e.row (bytes:=1) dC ce) e.aE) ?_;rintro _ V ⟨_,rfl,W,X,Y,q,rfl,k,r,t⟩;rw[show kW 2 (ie s)=(bU s,0) by unfold kW bU;rw[Zq dC,Zq oM]]at k⊢;exact⟨_,_,_,_,rfl,Ok.mk ⟨_,_,_,q,rfl,k,g.then r,λP j=>by have:=t P j;have:=g.size;omega⟩⟩
def Cw{D:ak}(ht:qK b)(hD:aV b a f D)(hl:Row aO 8 b Z d c s)(a8:∀b7∈s,aK b7)(a3:∀n,Z n->n<b.heap.size/\¬f n)(a9:∀n,f n->n≠2/\n≠3):
  be 143 #[RK a,.agg #[.slice d c i]] b (Ok (vP b a f (bA D s))):=by
 have hn:=hl.len;refine xm (PA.mk λw1 k1 s1 g1=>PA.mk λj U s2 g2=>PA.mk λw3 H s3 g3=>⟨_,_,_,ae (H.get g2 id) rfl,al.dec (λh=>?_) (λh=>?_)⟩)
 ·refine PS.mk g3 sM λp B s4 g4=>⟨_,ae g4 rfl,?_⟩
  have k:bA D s=(3,D):=by unfold bA;rw[Zx oM]
  rw[k];have y:ai b p:=((k1.then U).then H).new B λn P=>.inr oM;exact Ok.mk (vP.same (hD.af y) y.keep)
 refine PA.mk λp B s4 g4=>?_;have y:ai b p:=((k1.then U).then H).then B;have k:bA D s=oZ s 0 5 D:=by unfold bA;rw[Zq oM]
 rw[k];have I:=hD.aE;refine⟨λa1 M l=>∃(u:Nat) (J:ak) (v:UL),M=u/\u<=5/\a1=5-u/\oZ s 0 5 D=oZ s u (5-u) J/\aV l a v J/\aj (λn=>f n\/n=j.heap.size) p l/\(∀n,v n->f n\/p.heap.size<=n)/\l.heap[j.heap.size]? =some (.cells #[WP 0] 35 (0,0)),
  ⟨_,0,D,f,rfl,oM,rfl,rfl,hD.af y,aj.refl _,λn P=>.inl P,B.get g3 id⟩,?_⟩
 rintro a1 M _ x ⟨u,J,v,rfl,hi,rfl,N,C,E,V,ge⟩;have W:∀n,b.heap.size<=n->n<p.heap.size->¬v n:=λn h1 h2 hf=>by
  rcases V n hf with h|h
  ·have:=I n h;omega
  ·omega
 have O:x.heap[b.heap.size]? =some (.cells #[RK a] 109 (0,0)):=E.get (B.get (H.get (U.get g1 id) id) id) (λq=>q.elim (λh=>by have:=I _ h;omega) (λh=>oM));have gm:x.heap[w1.heap.size]? =some (.cells #[.slice d c i] 247 (0,0)):=E.get (B.get (H.get g2 id) id) (λq=>q.elim (λh=>by have:=I _ h;omega) (λh=>oM));have Q:=E.get g4 (λq=>q.elim (λh=>by have:=I _ h;omega) (λh=>oM));have c5:=E.size;have w:∀(k:Int) (R:ak) (G:UL) (g:World),aV g a G R->aj (λn=>f n\/n=j.heap.size) p g->(∀n,G n->f n\/p.heap.size<=n)->g.heap[j.heap.size]? =some (.cells #[WP k] 35 (0,0))->
   oZ s 0 5 D=(k,if k≠0 then(eu R).2 else R)->
   Lv LL (λb0=>∃A:Int,b0.cell? ⟨j.heap.size,0,none⟩=some (WP A)/\Ok (vP b a f (oZ s 0 5 D)) (.returned (WP A)) b0) (λch l=>Ok (vP b a f (oZ s 0 5 D)) (.panicked ch) l)
    ([{target:=.fn (.func 197) #[RK j.heap.size,RK b.heap.size],args:= #[]}]:List Deferred) .returning g:=by
  intro k R G g hE r hG X hr;have b8:g.heap[b.heap.size]? =some (.cells #[RK a] 109 (0,0)):=r.get (B.get (H.get (U.get g1 id) id) id) (λq=>q.elim (λh=>by have:=I _ h;omega) (λh=>oM));have m:∀o (K:UL) (E':ak),aV o a K E'->cm G g K o->oZ s 0 5 D=(k,E')->∃A:Int,o.cell? ⟨j.heap.size,0,none⟩=some (WP A)/\Ok (vP b a f (oZ s 0 5 D)) (.returned (WP A)) o:=by
   intro o K E' a4 t a0;have b9:¬G j.heap.size:=λh=>(hG _ h).elim (λh=>by have:=I _ h;omega) (λh=>oM);have c6:=r.size;refine⟨k,ae (t.keep.get X b9) rfl,Ok.mk ?_⟩;rw[a0];refine⟨K,rfl,a4,?_,λn P=>?_⟩
   ·have c0:aj f b g:=y.keep.new r λn P=>P.imp id λh=>by omega
    exact c0.new t.keep λn P=>(hG n P).imp id λh=>by omega
   ·rcases t.new n P with h|h
    ·exact(hG n h).imp id λh=>by omega
    ·exact .inr oM
  refine Lv.one sM kR (CallsD.mono (sC (R:=λe' o=>e'= .returned (.tuple #[])/\∃A:Int,o.cell? ⟨j.heap.size,0,none⟩=some (WP A)/\Ok (vP b a f (oZ s 0 5 D)) (.returned (WP A)) o) ⟨_,ae X rfl,al.eP (λY=>?_) (λh0=>?_)⟩) ?_)
  ·refine⟨_,ae b8 rfl,PC.ok (rN hE) ?_⟩
   rintro _ o ⟨K,rfl,a4,t⟩;exact⟨_,rfl,rfl,m o K _ a4 t (by rw[hr,Zx Y])⟩
  ·exact⟨rfl,m g G R hE (cm.refl _ _) (by rw[hr,Zq (by simpa using h0)])⟩
  ·rintro e' u' o ⟨rfl,rfl,hX⟩
   exact Lv.ret rfl hX
 refine al.dec (λc7=>?_) (λc8=>?_)
 ·have b1:u<5:=oM
  have step:∀κ ε,(∀z l,vP x a v (pL s u J) z l->κ z l)->∃b2:Value,x.cell? ⟨w3.heap.size,0+Int.toNat (u:Int),none⟩=some b2/\∃a5 a2 a7,b2= .func (.func a5) a2 a7/\enters LL a5=true/\PC LL a5 (a2++ #[]++a7) x κ ε:=by
   intro κ ε e;rw[Qx,Xz];have m:∀{b3:Int×ak} {z l},vP x a v b3 z l->∃M:Int,z= WP M/\Ok (vP x a v b3) (.returned (WP M)) l:=λh=>mz _ _ (aj.refl _) h
   match u,b1,e with
   |0,_,e=>exact⟨_,ae Q rfl,_,_,_,rfl,kR,PC.ok (uo ⟨_,ae O rfl,PC.ok (rN C) λz l h=>m h⟩) e⟩
   |1,_,e=>exact⟨_,ae Q rfl,_,_,_,rfl,kR,PC.ok (uq ⟨_,ae O rfl,PC.ok (yB C) λz l h=>m h⟩) e⟩
   |2,_,e=>
    refine⟨_,ae Q rfl,_,_,_,rfl,kR,PC.ok (φ:=vP x a v (pL s 2 J)) (ur λg d6=>?_) e⟩;have r:ai x g:=d6.keep;have F:aj (λn=>f n\/n=j.heap.size) p g:=E.then r.keep;have c1:Row aO 8 g Z d c s:=(hl.af y).keep F λn P q=>q.elim (a3 n P).2 λh=>by have:=(a3 n P).1;omega
    have c2:qK g:=by
     have:=(ht.af y)
     have c9:b.heap.size<=p.heap.size:=y.size;have h1:=ht.lt;have hz:=F.size;refine⟨λS hj=>?_,λS hj=>?_,oM⟩
     ·exact(this.lower S hj)▸F.cell (a:=⟨2,S,none⟩) (by show 2<_;omega) (λq=>q.elim (λh=>(a9 _ h).1 rfl) (λh=>by have h:2=j.heap.size:=h;omega))
     ·exact(this.upper S hj)▸F.cell (a:=⟨3,S,none⟩) (by show 3<_;omega) (λq=>q.elim (λh=>(a9 _ h).2 rfl) (λh=>by have h:3=j.heap.size:=h;omega))
    refine⟨v,W _ (Q4 _) oM,_,ae (r.get O id) rfl,_,_,_,ae (r.get gm id) rfl,PC.ok (Cv c2 c1 a8 (λn P=>by have:=(a3 n P).1;have:=y.size;have:=F.size;omega) oM) ?_⟩;rintro _ o ⟨d0,n7,d1,F7,rfl,a6,L,c3⟩;have d2:=rO s;have d3:=x_ a8 oM;refine⟨_,_,_,rfl,L.keep,PC.ok (yC ((C.af r).af L) (a6.row dC ce) (λk=>a6.OY k) λn P=>⟨a6.aE n P,λhf=>by have:=C.aE n hf;have:=c3 n P;have:=r.size;omega⟩) ?_⟩;rintro _ w8 ⟨F8,rfl,c4,t⟩;exact⟨_,rfl,t.keep,Ok.mk ⟨F8,rfl,c4,(cm.mk (ai.keep (r.then L)) λ_ h=>.inl h:cm v x v o).trans t⟩⟩
   |3,_,e=>exact⟨_,ae Q rfl,_,_,_,rfl,kR,PC.ok (uu ⟨_,ae O rfl,PC.ok (EE C) λz l h=>m h⟩) e⟩
   |4,_,e=>exact⟨_,ae Q rfl,_,_,_,rfl,kR,PC.ok (uv ⟨_,ae O rfl,PC.ok (Je C) λz l h=>m h⟩) e⟩
  refine⟨_,_,rfl,oM,oM,step _ _ ?_⟩;rintro _ g ⟨F6,rfl,h6,t⟩;have b4:∀n,F6 n->n≠j.heap.size:=λn P k=>by
   subst k;rcases t.new _ P with h|h
   ·exact W _ oM oM h
   ·omega
  have b5:∀n,F6 n->f n\/p.heap.size<=n:=λn P=>by
   rcases t.new n P with h|h
   ·exact V n h
   ·exact .inr oM
  have F:aj (λn=>f n\/n=j.heap.size) p g:=E.new t.keep λn P=>(V n P).imp .inl id;refine⟨_,rfl,PS.mk (t.keep.get ge (W _ oM oM)) sM λo L s7 T=>?_⟩;have h7:=h6.keep L λn P=>b4 n P;have b6:aj (λn=>f n\/n=j.heap.size) p o:=F.then (L.mono λn _ P=>.inr P);rw[PL s b1]at N;refine⟨_,ae T rfl,al.eP (λY=>?_) (λh0=>?_)⟩
  ·refine⟨_,ae T rfl,PS.mk T sM λw8 k8 s8 g8=>?_⟩
   exact w _ _ F6 w8 (h7.keep k8 λn P=>b4 n P) (b6.then (k8.mono λn _ P=>.inr P)) b5 g8 (by rw[N,Zx Y,Zx Y])
  ·rw[Zq (by simpa using h0)]at N
   rw[h0]at T;exact⟨rfl,_,oM,u+1,_,F6,an oM,oM,rfl,N,h7,b6,b5,T⟩
 ·obtain rfl:u=5:=oM
  refine⟨_,ae ge rfl,PS.mk ge sM λg r s6 X=>?_⟩;refine w 0 J v g (C.keep r λn P k=>W n oM oM P) (E.then (r.mono λn _ P=>.inr P)) V X ?_;rw[N];rfl
def DX{D:ak}(ht:qK b)(hD:aV b a f D):
  be 140 #[RK a] b (Ok λQ g=>∃l o p G,Q= .tuple #[.agg #[.slice l o p],.bool (dB D).isSome]/\aT aO 3 G g l o p ((dB D).getD [])/\ai b g/\∀n,G n->b.heap.size<=n):=by
 refine zG (PA.mk λA C s1 g1=>PC.ok (xP (hD.af C)) ?_);rintro _ w2 ⟨_,rfl,a7,n2,c2,F2,rfl,u,R,e8⟩
 change aT gj 5 F2 w2 a7 n2 c2 (D.read cf).1 at u
 have b3:(D.read cf).1.length<=262144:=by
  unfold ak.read;split
  ·simp
  ·split
   ·simp
   ·rename_i e7 hf;exact hD.ok.len (cz hf)
 have a3:∀{g},ai A g->g.heap[b.heap.size]? =some (.cells #[.slice none 0 0] 247 (0,0)):=λhk=>hk.get g1 id;have d:dB D=none->∀v,ai A v->PS v ⟨b.heap.size,0,none⟩ (.slice none 0 0) λw=>∃(b4:bc) (b5:Nat) (b6:Nat),w.cell? ⟨b.heap.size,0,none⟩=some (.slice b4 b5 b6)/\
   Ok (λQ g=>∃l o p G,Q= .tuple #[.agg #[.slice l o p],.bool (dB D).isSome]/\aT aO 3 G g l o p ((dB D).getD [])/\ai b g/\∀n,G n->b.heap.size<=n) (.returned (.tuple #[.agg #[.slice b4 b5 b6],.bool false])) w:=by
  intro S v E;refine PS.mk (a3 E) sM λw4 T s4 U=>⟨_,_,_,ae U rfl,?_⟩
  rw[S];exact Ok.mk ⟨none,0,0,λ_=>False,rfl,aT.nil w4,(C.then E).new T λn P=>.inr oM,λ_ h=>h.elim⟩
 refine⟨_,_,_,_,rfl,al.eP (λk=>d (by unfold dB;exact Zx k) w2 R) (λS=>?_)⟩;have B:dB D=iO (D.read cf).1:=by unfold dB;exact Zq λh=>h S
 generalize(D.read cf).1=F at u b3 B;have d6:=u.len dC;refine PC.ok (EM (ht.af (C.then R)) (u.row (bytes:=1) dC ce) u.ly u.aE) ?_;rintro _ v ⟨c0,n3,c3,F3,rfl,b7,E,e9⟩;refine⟨_,_,_,_,_,_,rfl,PA.mk λw4 T s4 U=>PS.mk U sM λw5 k5 s5 g5=>PS.mk g5 sM λx k6 s6 g6=>?_⟩;have V:x.heap[v.heap.size]? =some (.cells #[WP (br F).kind,.slice c0 n3 c3] 308 (0,0)):=g6;have W:ai v x:=(T.new k5 λn P=>.inr oM).new k6 λn P=>.inr oM;have s:ai A x:=(R.then E).then W;have f9:=W.size;refine al.eP (λk=>d (by rw[B];unfold iO;exact Zx (.inl k)) x s) (λb8=>?_);refine al.eP (λk=>d (by rw[B];unfold iO;exact Zx (.inr (.inl λe=>k (by rw[e,d6])))) x s) (λg0=>?_);refine⟨_,ae V rfl,al.eP (λk=>d (by rw[B];unfold iO;exact Zx (.inr (.inr k))) x s) (λd7=>?_)⟩;have X:dB D=if ia (kL (br F).body).2≠0 then none else some (kL (br F).body).1:=by
  rw[B];unfold iO;refine Zq ?_;rintro(h|h|h)
  ·exact h b8
  ·exact h oM
  ·exact h d7
 have Y:=b7.af W;obtain⟨g2,h9,d8⟩:=vX b8;generalize(br F).body=c at Y X d8 V b7;refine⟨_,_,_,ae V rfl,PC.ok (EG (Y.row (bytes:=1) dC ce) Y.aE) ?_⟩;rintro _ w ⟨H,a4,rfl,I,k7,hP⟩;refine⟨_,rfl,PA.mk λw8 k8 s8 g8=>PC.ok (Jh (m:=64) (I.af k8)) ?_⟩;rintro _ t ⟨rfl,Z,k9⟩;have b9:=I.aE;have hq:=I.self;have g3:=b9 H hq;have g7:=hP H hq;obtain⟨c1,a8,c5,c4⟩:=h_.Fit.count (r:=⟨c,0,0⟩) ⟨Qj _,.inl rfl⟩ (m:=64) oM;have g9:t.heap[w.heap.size]? =some (.cells #[.slice none 0 0] 247 (0,0)):=k9.get g8 (λe=>oM);have J:kL c=aW (bF 64 ⟨c,0,0⟩).1.toNat (bF 64 ⟨c,0,0⟩).2:=rfl;have K:ai A t:=((s.then k7).then k8).new k9 λn P=>.inr (by have:=s.size;omega);generalize h2:bF 64 ⟨c,0,0⟩=ct at Z c1 a8 c5 c4 J;obtain⟨cn,L⟩:=ct;simp only at Z c1 a8 c5 c4 J;refine⟨_,rfl,λm a5 g=>∃i:Nat,a5=i/\(i:Int)<=cn/\m=cn.toNat-i/\fD g H a4 (aW i L).2/\ai A g/\∃l o p G,g.heap[w.heap.size]? =some (.cells #[.slice l o p] 247 (0,0))/\aT aO 3 G g l o p (aW i L).1/\(∀n,G n->t.heap.size<=n)/\t.heap.size<=g.heap.size,
  ⟨_,0,rfl,a8,rfl,Z,K,none,0,0,λ_=>False,g9,aT.nil t,λ_ h=>h.elim,Q4 _⟩,?_⟩
 have h3:=k9.size;rintro m a5 _ c6 ⟨i,rfl,hj,rfl,a0,M,c7,c8,c9,d0,a9,y,q,f0⟩;have d9:∀n,a4 n->n<t.heap.size:=λn P=>by have:=b9 n P;omega
 refine al.dec (λh4=>?_) (λh5=>?_)
 ·intro N b0
  have j:ai c6 N:=b0.keep;refine⟨(λn=>n=H\/d0 n),λhs=>hs.elim (λe=>oM) (λe=>by have:=q _ e;omega),_,_,_,ae (j.get a9 id) rfl,PC.ok (GV (a0.af j)) ?_⟩;rintro _ d1 ⟨rfl,d2,r⟩;obtain⟨f1,f2,f3,f4⟩:=c1.ints i;obtain⟨f5,f6,f7⟩:=f1.int;refine⟨_,rfl,r.mono λn _ P=>.inl P,?_⟩;have a1:=(y.af j).keep r λn P e=>by have:=q n P;omega
  refine PA.mk λh6 z h7 e0=>⟨z.keep,?_⟩
  have d3:=a1.af z;have d4:(aW i L).1.length=i:=f3;refine lL d3 uZ (D:=(·=d1.heap.size)) (Row.lit e0 [(ft (aW i L).2).1] rfl (λf8 hx=>by simp at hx;subst hx;exact f6) (by unfold aP;simp)) (λn e=>⟨oM,λe2=>by have:=a1.aE n (a1.self n e2);omega⟩) (by rw[d4];unfold aP;simp;omega) (by rw[d4];unfold maxLen;simp;omega) λb1 e1 e3 h8 a2 O _ d5=>?_
  replace a2:=a2.alone
  have e4:e3.heap[w.heap.size]? =some (.cells #[.slice c7 c8 c9] 247 (0,0)):=O.get (z.get (r.get (j.get a9 id) (λe=>oM)) id) (λe=>by have:=q _ (y.self _ e);omega);have z1:=j.size;have z2:=r.size;have z3:=z.size;have z4:=O.size;have a6:∀n,aH b1=some n->t.heap.size<=n:=λn P=>by
   rcases d5 n P with h|h
   ·exact q n h
   ·omega
  refine⟨_,_,_,rfl,PS.mk e4 sM λi0 b2 i1 e5=>⟨_,oM,i+1,an oM,oM,rfl,?_,?_,b1,_,e1,(λn=>aH b1=some n),e5,?_,a6,oM⟩⟩
  ·refine(((d2.af z).keep O λn P e=>by have:=d9 n P;have:=q n (y.self n e);omega)).keep b2 λn P e=>by have:=I.aE n P;omega
  ·refine((((M.then j).new r λn P=>.inr (by have:=s.size;omega)).then z).new O λn P=>.inr (by have:=q n (y.self n P);have:=K.size;omega)).new b2 λn P=>.inr (by have:=(s.then k7).size;omega)
  ·exact a2.keep b2 λn P e=>by have:=a6 n P;omega
 ·obtain rfl:cn=(i:Int):=oM
  rw[Qx]at J;rw[<-J]at a0 y;refine PC.ok (NC a0) ?_;rintro _ N ⟨rfl,b0⟩;have j:ai c6 N:=b0.keep;refine⟨_,rfl,al.eP (λk=>d (by rw[X];exact Zx k) N (M.then j)) (λh0=>?_)⟩;have hS:dB D=some (kL c).1:=by rw[X];exact Zq λh=>h h0
  rw[hS];refine⟨_,_,_,ae (j.get a9 id) rfl,PS.mk (a3 (M.then j)) sM λd1 r i2 e6=>⟨_,_,_,ae e6 rfl,Ok.mk ⟨c7,c8,c9,d0,rfl,?_,?_,?_⟩⟩⟩
  ·exact(y.af j).keep r λn P e=>by have:=q n P;have:=K.size;omega
  ·exact(C.then (M.then j)).new r λn P=>.inr oM
  ·intro n P;have:=q n P;have:=K.size;omega
def Sm:(do eqGuard .eql 37 X a2 (.agg #[WP e,WP p]) (.agg #[WP E,WP a0]);binOp .eql 37 (.agg #[WP e,WP p]) (.agg #[WP E,WP a0]):Sem Value).run LL b= .ok (.bool (e==E&&p==a0)) b:=by
 have c:Tryz.prog.underlying 37=some (.struct (Tryz.prog.fieldsOf 37)):=kR
 have a:Tryz.prog.underlying 3=some (.int .i64):=kR
 have n:(Tryz.prog.fieldsOf 37).toList.map (λP=>(P.name,P.type,P.offset))=[("Origin",3,0),("Seq",3,1)]:=kR
 rw[Sem.run_bind,run_eqGuard_agg b .eql _ X a2 _ _ kR,Result.andThen_ok,run_eql_struct,run_equalIn_struct b 9999 _ _ _ c kR];generalize(Tryz.prog.fieldsOf 37).toList=d at n
 match d,n with
 |[P,s],n=>
  simp only[QY,List.map_nil,List.cons.injEq,Prod.mk.injEq,and_true]at n;obtain⟨⟨f,g,h⟩,i,j,k⟩:=n;have l:(isAgg 3).run LL b= .ok false b:=dG _ _ _ kR ⟨_,a⟩ b;have m:=run_equalIn_int (P:=LL) b 9998 3 .i64 .i64 e E a;have o:=run_equalIn_int (P:=LL) b 9998 3 .i64 .i64 p a0 a;unfold Op.eqFields Op.eqFields Op.eqFields;rw[f,g,h,i,j,k]
  cases q:e==E<;>simp[part,l,m,o,q]
  by_cases r:p=a0<;>simp[r]
 |[],n=>simp at n
 |[_],n=>simp at n
 |_::_::_::_,n=>simp at n
def tr{a j r t:Nat}{D u:UL}(c:Row aO 8 b D d a s)(k:Row aO 8 b u v j b3):
  be 14 #[.slice d a r,.slice v j t] b (Ok λw e=>w= .bool (decide (s=b3))/\bH b e):=by
 have x:=c.len;have y:=k.len;have z:=c.eR;unfold aP at z;refine Bf (al.eP (λl=>?_) (λl=>?_))
 ·have f:s≠b3:=by rintro rfl;simp[x,y]at l
  exact Ok.mk ⟨by simp[f],bH.refl b⟩
 ·refine⟨λm i e=>∃n:Nat,i=n/\n<=a/\m=a-n/\s.take n=b3.take n/\bH b e,⟨_,0,rfl,Qj _,rfl,rfl,bH.refl b⟩,?_⟩
  rintro m i _ L ⟨n,rfl,M,rfl,o,P⟩;refine al.dec (λA=>?_) (λA=>?_)
  ·obtain⟨B,C,N,rfl,p,_,E⟩:=(c.af P.keep).ni (i:=n) oM
   obtain⟨F,H,O,rfl,g,_,I⟩:=(k.af P.keep).ni (i:=n) oM;refine⟨B,C,rfl,oM,oM,_,E,F,H,rfl,oM,oM,_,I,λQ q=>?_⟩;refine al.eP (λh=>?_) (λh=>?_)
   ·have f:s≠b3:=by rintro rfl;rw[p]at g;cases g;exact h rfl
    exact Ok.mk ⟨by simp[f],P.then q⟩
   ·subst h
    exact⟨_,oM,n+1,an oM,oM,rfl,Pv o p g,P.then q⟩
  ·have:s=b3:=by
    have J:s.take n=s:=Qz oM;have K:b3.take n=b3:=Qz oM;rw[<-J,<-K,o]
   exact Ok.mk ⟨by simp[this],P⟩
def DT{D y:UL}(z:Row aO 8 b D d a l.aM)(A:Row aO 8 b y v c M.aM):
  be 10 #[.agg (aF l d a i).toArray,.agg (aF M v c r).toArray] b (Ok λm g=>m= .bool (decide (l=M))/\ai b g):=by
 have no:∀{g},ai b g->l≠M->Ok (λm g=>m= .bool (decide (l=M))/\ai b g) (.returned (.bool false)) g:=λB C=>Ok.mk ⟨by rw[Xv C],B⟩;refine zB (PA.mk λI E J F=>PA.mk λq s K j=>?_);have P:=s.get F id;have k:ai b q:=E.then s;refine⟨_,_,ae P rfl,ae P rfl,_,_,ae j rfl,ae j rfl,aJ.mk Sm ⟨_,rfl,al.mk (λo=>?_) (λo=>?_)⟩⟩
 rotate_left
 ·exact no k λn=>by subst n;simp at o
 refine⟨_,ae P rfl,_,ae j rfl,al.ey (λt=>?_) (λt=>no k λn=>t (by rw[n]))⟩;refine⟨_,_,_,ae P rfl,_,_,_,ae j rfl,PC.ok (tr (z.af k) (A.af k)) ?_⟩;rintro _ u ⟨rfl,H⟩;have p:ai q u:=H.keep;have P:=p.get P id;have h:=p.get j id;have f:ai b u:=k.then p;refine⟨_,rfl,al.dec (λw=>?_) (λw=>no f λn=>w (by rw[n]))⟩;refine⟨_,ae P rfl,_,ae h rfl,al.ey (λL=>?_) (λe=>no f λn=>e (by rw[n]))⟩;refine⟨_,ae P rfl,_,ae h rfl,al.ey (λN=>?_) (λe=>no f λn=>e (by rw[n]))⟩;refine⟨_,ae P rfl,_,ae h rfl,al.ey (λO=>?_) (λe=>no f λn=>e (by rw[n]))⟩;refine⟨_,ae P rfl,_,ae h rfl,al.ey (λQ=>?_) (λe=>no f λn=>e (by rw[n]))⟩;refine⟨_,ae P rfl,_,ae h rfl,al.ey (λR=>?_) (λe=>no f λn=>e (by rw[n]))⟩;refine⟨_,ae P rfl,_,ae h rfl,Ok.mk ⟨?_,f⟩⟩
 congr 1
 have S:l.origin=M.origin/\l.seq=M.seq:=by simpa using o
 by_cases x:l.key=M.key
 ·have:l=M:=by cases l;cases M;simp_all
  subst this;simp
 ·rw[Xv λn=>x (by rw[n])]
  simp[x]
end Go.Proofs.YtkpomgifkloklabGreatDoor
namespace Go.aw
open Go.ChangeShapes Go.WideShapes Go.ChangeAt Go.RowKit
def mC{n:Type}(P:Program)(a:TypeId)(b:DataW n):Prop:=∀c∈b.weights P a,c<=reachBytes
abbrev In(n:World):UL:=λP=>P<n.heap.size
variable{e:Int}{a c:Nat}{j:Type}{g q:TypeId}
section
variable {H:Type} {enc:TypeId×Value->H} {P:Program} {w:World} {base:Nat} {held:Bool}
def Sg{n:List TypeId}{a:List (DataW H)}(c:(DataW.weightsEach P n a).all (·<=reachBytes)=true){j:Nat}{b:DataW H}(d:n[j]? =some g)(e:a[j]? =some b):mC P g b:=
 λf h=>by simpa using ZY.1 c _ (DataW.weights_mem_each d e f h)
def rr{b:TypeId}:∀{n:List (DataW H)} {d:DataW H},d∈n->∀a∈d.weights P b,a∈DataW.weightsAll P b n
 |x::n,d,h,a,c=>by
  simp only[DataW.weightsAll,Q6];rcases Q2.1 h with rfl|h
  ·exact Or.inl c
  ·exact Or.inr (rr h a c)
def Reads{c:Type}(P:Program)(d:kq c)(a:TypeId):Prop:=
 ∀(H:Type) (enc:TypeId×Value->H) (w:World) (held:Bool) (n:Nat) (cs:List Value) (b:DataW H×List MemPlace),DataW.trod enc P w 0 (λ_=>true) held n a cs=some b->mC P a b.1->∃e,d.rep w (In w) e cs
def lN{P:Option _}{b:Value}(n:w.cell? ⟨a,c,P⟩=some b):a<w.heap.size:=by
 unfold World.cell? at n
 by_cases d:a<w.heap.size
 ·exact d
 ·rw[show w.heap[a]? =none by simp;omega]at n;cases n
def open_row{i:kq j}{bytes v:Nat}{cs:List Value}{B:DataW H×List MemPlace}(I:P.underlying g=some (.slice q))(Q:P.cellsOf q=i.k)(J:0<i.k)(R:P.bytesOf q=bytes)(S:Reads P i q)(o:DataW.trod enc P w 0 (λ_=>true) held v g cs=some B)(T:mC P g B.1):
  ∃a p e U,cs=[.slice a p e]/\p<=e/\(a=none->p=0/\e=0)/\Row i bytes w (In w) a p U:=by
 rcases DataW.trod_slice I o with⟨rfl,rfl⟩|⟨a,b,e,n,f,p,_,rfl,rfl,hb,V,hm,a4,W,a5,a6⟩
 ·exact⟨none,0,0,[],rfl,Q4 _,λ_=>⟨rfl,rfl⟩,Row.nil _ _⟩
 ·have x:∀k∈(n.length+f.length)*P.bytesOf q::(DataW.weightsAll P q (n.map (·.1))++DataW.weightsAll P q (f.map (·.1))),k<=reachBytes:=by
   have:=T;simpa only[mC,DataW.weights,I,Q8]using this
  have read:∀d,d<b->∃c k,n[d]? =some k/\c.length=i.k/\(∀h,h<i.k->w.cell? (a.add (d*i.k+h))=c[h]?)/\DataW.trod enc P w 0 (λ_=>true) held p q c=some k:=by
   intro d m;have K:=W d m;rw[Q,Qq (by omega:d<n.length)]at K;obtain⟨c,A,y⟩:=Option.bind_eq_some_iff.1 K;obtain⟨_,C,s⟩:=World.cells?_some A;exact⟨c,_,Qq oM,C,λh E=>by rw[<-Addr.add_add];exact s h E,y⟩
  have X:0<b->a.spot=none:=by
   intro Y;obtain⟨c,k,_,C,s,_⟩:=read 0 Y;have:=s 0 J;rw[Nat.zero_mul,Nat.add_zero,Qq oM]at this;have q:a.add 0=a:=by simp[Addr.add]
   rw[q]at this;unfold World.cell? at this;split at this
   ·cases t:a.spot with
    |none=>rfl
    |some L=>rw[t]at this;simp at this
   ·cases this
  have one:∀d,d<b->∃r,∃u z M,some a=some ⟨u,z,none⟩/\u<w.heap.size/\In w u/\(∀h,h<i.k->w.cell? ⟨u,z+d*i.k+h,none⟩=M[h]?)/\i.rep w (In w) r M:=by
   intro d m;have t:=X oM;have N:∀F,a.add F=⟨a.block,a.off+F,none⟩:=by
    intro F;obtain⟨u,Z,L⟩:=a;simp only at t;subst t;unfold Addr.add;split
    ·next o=>subst o;rfl
    ·rfl
   obtain⟨c,k,y,C,s,h5⟩:=read d m;have a0:mC P q k.1:=λr l=>x r (QJ _ (ZV _ (rr (d:=k.1) (Xk.2 ⟨k,QZ y,rfl⟩) r l)));obtain⟨r,l⟩:=S H enc w held p c k h5 a0;have O:a.block<w.heap.size:=by
    have:=s 0 J;rw[N,Qq oM]at this;exact lN this
   refine⟨r,a.block,a.off,c,?_,O,O,λh E=>?_,l⟩
   ·obtain⟨u,Z,L⟩:=a
    simp only at t;rw[t]
   ·have:=s h E
    rw[N]at this;rw[<-this,Nat.add_assoc]
  have a1:b*bytes<=aP:=by
   have A:=x _ (QV ..);have y:b*P.bytesOf q<=(n.length+f.length)*P.bytesOf q:=Q0 _ oM;rw[R]at A y;unfold reachBytes at A;unfold aP;omega
  by_cases l:b=0
  ·subst l
   exact⟨some a,0,e,[],rfl,Qj _,λo=>(by cases o),rfl,sM,λd B m=>(by simp at m)⟩
  ·have a2:Nonempty j:=⟨(one 0 oM).choose⟩
   haveI:Inhabited j:=⟨Classical.choice a2⟩
   obtain⟨a3,hf⟩:=Go.Deep.choose_lt one;refine⟨some a,b,e,(List.range b).map a3,rfl,V,λo=>(by cases o),sM,a1,λd r l=>?_⟩
   by_cases m:d<b
   ·rw[Q9,List.getElem?_range m]at l
    cases l
    exact hf d m
   ·rw[Q7 cS]at l;cases l
def bq(n:(Lit.int .i64 e).wf=true):aK e:=by
 have:IntKind.i64.min<=e/\e<=IntKind.i64.max:=by simpa[Lit.wf]using n
 exact this
end
variable{o:Array Value}{a9:Func}{g2:List MemPlace}{b k:World}
def ai.below(n:ai b k):Below b.heap.size b k:=⟨n.os,n.tape,n.output,n.size,λP a=>n.block P a id⟩
section
variable {H:Type} {enc:TypeId×Value->H} {P:Program}
def vY(i:laidOutB P=true){e j:World}(k:ai e j){l:Nat->Bool}:∀{b:List TypeId} {m:List Value} {o:List (DataW H)} {c:List MemPlace},b.all (λf=>P.readableRec f&&decide (f<P.types.size))=true->(∀n∈c,n.block<e.heap.size)->(∀n∈c,l n.block=true)->
  DataW.TrodAll enc P e 0 (λ_=>true) true b m o c->DataW.TrodAll enc P j 0 l true b m o c
 |[],_,_,_,_,_,_,a=>by
  obtain⟨rfl,rfl,rfl⟩:=trodAll_nil a;exact trodAll_mk0
 |f::b,_,_,_,d,p,q,a=>by
  obtain⟨t,u,v,w,x,y,rfl,rfl,rfl,r,s⟩:=trodAll_cons a;simp only[List.all_cons,QK,Zk]at d;refine trodAll_cons_mk (WideElems.Trod_stays i d.1.1 d.1.2 r (λg h=>k.below.same (p g (ZV _ h))) λg h=>q g (ZV _ h)) (vY i k (by simpa using d.2) (λn a=>p n (ZW _ a)) (λn a=>q n (ZW _ a)) s)
def Pn{c:ChangeSpec}{e m:List (DataW H)}{tb:TypeId}{n h E i:Bool}(F:laidOutB P=true)(u:a9.resultTypes= #[tb])(v:P.underlying tb=some .bool)(w:c.vars=[])(I:(c.fn H (e++m)).results=[.lit (.bool true)])(J:(c.fn H (e++m)).args=e)(K:(c.fn H (e++m)).vars=[])(L:a9.params.toList.all (λx=>P.readableRec x&&decide (x<P.types.size))=true)(p:DataW.Whole enc P a9.params.toList c.vars n b o.toList e m g2)(q:ai b k):c.post enc P a9 n h E i b o (.bool true) k:=by
 have M:=p;have r:=λa d=>p.lt a d;obtain⟨a,V,N,y,O,Q,R⟩:=p;rw[w]at y;obtain⟨rfl,rfl⟩:=trodVars_none y;obtain rfl:g2=a:=by simpa using O
 have z:∀f:Nat->Bool,(∀a∈g2,f a.block=true)->DataW.TrodAll enc P k 0 f true a9.params.toList o.toList (c.fn H (e++[])).args g2:=λf S=>by
  rw[J];exact vY F q L (λs t=>by simpa using r s t) (λs t=>S s t) N
 have A:∀(g:Nat) (f:Nat->Bool) (B:Bool),DataW.TrodAll enc P k g f B a9.resultTypes.toList ((Value.bool true).resultList a9.resultTypes.size) (c.fn H (e++[])).results []:=λg f B=>by
  rw[u,I];exact trodAll_cons_mk (shut_bool v _) trodAll_mk0
 have C:∀f:Nat->Bool,DataW.TrodVars enc P k f c.vars (c.fn H (e++[])).vars []:=λf=>by rw[K,w];exact rfl
 have T:∀a∈g2,(λg=>decide (g<b.heap.size)) a.block=true:=λa d=>by simpa using r a d
 refine⟨e,[],g2,[],g2,[],M,A _ _ _,z _ T,C _,World.keptBut_mono (λa d=>⟨d,Or.inr (by simpa using d)⟩) (q.below.frame (·∈g2)),λ_=>?_⟩;refine⟨ok_one u rfl (okWide_bool_mk v _),_,_,([]++g2)++[],⟨[]++g2,[],trodAll_append (z _ (λ_ _=>rfl)) (A _ _ _),C _,rfl,?_,?_⟩,?_⟩
 ·intro g j d
  have l:MemPlace.cell g j∈g2:=by simpa using d
  rw[q.below.frozen (p:=⟨g,j,none⟩) (r _ l)];exact Q g j (by simpa using l)
 ·intro U
  simpa using R U
 ·intro a d _
  simpa using d
end
end Go.aw
namespace Go.Proofs.YtkpomgifkloklabGreatDoor
open Go.aw
def a_(a P:World)(d:Nat)(D:ak)(b:UL):Prop:=∃c,aV P d c D/\ai a P/\(∀n,c n->a.heap.size<=n/\¬b n)/\∀n,b n->n<P.heap.size
abbrev no:UL:=λ_=>False
abbrev dT(n:UL):UL:=λP=>¬n P
variable{o:Array Value}{x:ByteArray}{A:FuncId}{e:Int}{d5:Int×ak}{u:List UInt8}{a c:Nat}{f:UL}{d:bc}
section
variable {w0 w w1 w':World} {p:Nat} {D D':ak} {X Y:UL}
def a_.gr(n:a_ w0 w p D X):ai w0 w:=by obtain⟨a,b,P,c,d⟩:=n;exact P
def a_.ok(n:a_ w0 w p D X):D.Ok:=by obtain⟨a,P,b,c,d⟩:=n;exact P.ok
def a_.af(P:a_ w0 w p D X)(n:ai w w'):a_ w0 w' p D X:=by
 obtain⟨a,b,c,d,e⟩:=P;exact⟨a,b.af n,c.af n,d,λf g=>Qk (e f g) n.size⟩
def a_.mono(c:a_ w0 w p D X)(a:∀n,Y n->X n):a_ w0 w p D Y:=by
 obtain⟨d,e,f,b,g⟩:=c;exact⟨d,e,f,λn P=>⟨(b n P).1,λh=>(b n P).2 (a n h)⟩,λn P=>g n (a n P)⟩
def a_.add(P:a_ w0 w p D X)(b:ai w w')(c:∀n,Y n->w.heap.size<=n/\n<w'.heap.size):a_ w0 w' p D (λn=>X n\/Y n):=by
 obtain⟨f,d,g,e,h⟩:=P;exact⟨f,d.af b,g.af b,λn a=>⟨(e n a).1,λi=>i.elim (e n a).2 λj=>by have:=d.aE n a;have:=(c n j).1;omega⟩,λn a=>a.elim (λP=>Qk (h n P) b.size) λP=>(c n P).2⟩
def a_.of(a:ai w0 w)(b:ai w w')(e:aV w' p f D)(c:∀n,f n->w.heap.size<=n)(d:∀n,X n->n<w.heap.size):a_ w0 w' p D X:=
 ⟨f,e,a.af b,λn P=>⟨Xx a.size (c n P),λg=>by have:=c n P;have:=d n g;omega⟩,λn P=>Qk (d n P) b.size⟩
def nY(w0 w:World)(p:Nat)(X:UL)(n:Int×ak)(P:Value)(w':World):Prop:=P= WP n.1/\a_ w0 w' p n.2 X/\aj (dT X) w w'
def a_.XU(e:a_ w0 w p D X)(d:ai w w1)(i:∀a,aV w1 p a D->(∀n,a n->w0.heap.size<=n/\n<w.heap.size/\¬X n)->be A o w1 (Ok (vP w1 p a d5))):be A o w1 (Ok (nY w0 w1 p X d5)):=by
 obtain⟨a,f,g,b,h⟩:=e;refine Calls.ok (i a (f.af d) λn P=>⟨(b n P).1,f.aE n P,(b n P).2⟩) ?_;rintro q w' ⟨j,k,l,c⟩;have:=d.size;have:=g.size;have:=c.keep.size;exact⟨k,⟨j,l,(g.af d).new c.keep λn P=>.inr (b n P).1,λn P=>(c.new n P).elim (b n) λe=>⟨oM,λm=>by have:=h n m;omega⟩,λn P=>by have:=h n P;omega⟩,c.keep.mono λn _ P=>(b n P).2⟩
def a_.call(a:a_ w0 w p D X)(b:∀P,aV w p P D->(∀n,P n->w0.heap.size<=n/\n<w.heap.size/\¬X n)->be A o w (Ok (vP w p P d5))):be A o w (Ok (nY w0 w p X d5)):=a.XU (aj.refl w) b
def a_.append(P:a_ w0 w p D X)(b:Row gj 1 w f d a u)(i:d=none->a=0/\c=0)(e:∀n,f n->n<w0.heap.size\/X n):
  be 168 #[RK p,.string x,.slice d a c] w (Ok (nY w0 w p X (D.append x u))):=by
 have o:=P.gr.size;have j:∀n,X n->n<w.heap.size:=by obtain⟨k,q,r,s,l⟩:=P;exact l
 exact P.call λk m g=>yC m b i λn b=>⟨(e n b).elim (λP=>oM) (j n),λh=>(e n b).elim (λP=>by have:=(g n h).1;omega) (g n h).2.2⟩
def a_.create(n:a_ w0 w p D X):be 178 #[RK p,.string x] w (Ok (nY w0 w p X (D.create x))):=n.call λa P _=>yB P
def a_.sync(n:a_ w0 w p D X):be 170 #[RK p,.string x] w (Ok (nY w0 w p X (D.sync x))):=n.call λa P _=>EE P
def a_.n_{k:ByteArray}(n:a_ w0 w p D X):be 195 #[RK p,.string k,WP e] w (Ok (nY w0 w p X (D.n_ k e))):=n.call λa P _=>RR P
def a_.delete(n:a_ w0 w p D X):be 112 #[RK p,.string x] w (Ok (nY w0 w p X (D.delete x))):=n.call λa P _=>yA P
def a_.read{k:ByteArray}(j:a_ w0 w p D X):be 188 #[RK p,.string k] w (Ok λd w'=>∃a b c P,d= .tuple #[.slice a b c,WP (D.read k).2]/\aT gj 5 P w' a b c (D.read k).1/\(∀n,P n->w.heap.size<=n)/\a_ w0 w' p D (λn=>X n\/P n)/\ai w w'):=by
 obtain⟨P,e,l⟩:=j;refine Calls.ok (xP e) ?_;rintro d w' ⟨m,rfl,a,b,c,G,rfl,f,g,h⟩;exact⟨a,b,c,G,rfl,f,h,a_.add ⟨P,e,l⟩ g λn i=>⟨h n i,f.aE n i⟩,g⟩
def a_.list(j:a_ w0 w p D X):be 173 #[RK p] w (Ok λd w'=>∃a b c P,d= .slice a b c/\aT Pd 9 P w' a b c D.list/\(∀n,P n->w.heap.size<=n)/\a_ w0 w' p D (λn=>X n\/P n)/\ai w w'):=by
 obtain⟨P,e,k⟩:=j;refine Calls.ok (xQ e) ?_;rintro d w' ⟨a,b,c,G,rfl,f,g,h⟩;exact⟨a,b,c,G,rfl,f,h,a_.add ⟨P,e,k⟩ g λn i=>⟨h n i,f.aE n i⟩,g⟩
end
def gO(n:Nat):ak:=⟨n,[],false,0,false⟩
variable{y:am}{s:List Int}{b k:World}
def tL(g:ai b k)(l:64<=e)(m:e<=262144):be 48 #[WP e] k (Ok λa P=>∃n,a= .tuple #[RK n,WP 0]/\a_ b P n (gO e.toNat) (λc=>c<k.heap.size)/\ai k P):=by
 refine Calls.ok Pe ?_;intro a P d;rw[Zq oM]at d;obtain⟨n,o,rfl,h,f,i⟩:=d;exact⟨n,rfl,a_.of g f h i λc j=>j,f⟩
def Jv{D:ak}(n:D.Ok)(P:ByteArray):(D.read P).1.length<=262144:=by
 unfold ak.read;split
 ·simp
 ·split
  ·simp
  ·rename_i b a;exact n.len (cz a)
def nA:ByteArray:=⟨#[97]⟩
open Go.aw Go.ChangeShapes Go.WideShapes Go.ChangeAt Go.RowKit
section
variable {w0 w w1 w':World} {p:Nat} {D D':ak} {X Y:UL}
def a_.bA(P:a_ w0 w p D X)(g:qK w0)(j:Row aO 8 w f d a s)(k:∀l∈s,aK l)(h:∀n,f n->n<w0.heap.size\/X n):
  be 143 #[RK p,.agg #[.slice d a c]] w (Ok (nY w0 w p X (bA D s))):=by
 have t:=P.gr.size;have m:∀n,X n->n<w.heap.size:=by obtain⟨o,u,v,x,q⟩:=P;exact q
 have y:=g.lt;exact P.call λo r e=>Cw (g.af P.gr) r j k (λn b=>⟨(h n b).elim (λP=>oM) (m n),λi=>(h n b).elim (λP=>by have:=(e n i).1;omega) (e n i).2.2⟩) λn b=>by have:=(e n b).1;omega
def a_.iO(c:a_ w0 w p D X)(j:qK w0):be 140 #[RK p] w (Ok λd w'=>∃P a b G,d= .tuple #[.agg #[.slice P a b],.bool (dB D).isSome]/\aT aO 3 G w' P a b ((dB D).getD [])/\
  (∀n,G n->w.heap.size<=n)/\a_ w0 w' p D (λn=>X n\/G n)/\ai w w'):=by
 have k:=c.gr;obtain⟨l,e,m⟩:=c;refine Calls.ok (DX (j.af k) e) ?_;rintro d w' ⟨P,a,b,G,rfl,f,g,h⟩;exact⟨P,a,b,G,rfl,f,h,a_.add ⟨l,e,m⟩ g λn i=>⟨h n i,f.aE n i⟩,g⟩
end
def NR{D:UL}{P bytes:Nat}(a:Row aO bytes b D d P s):∀n∈s,aK n:=λn c=>by
 obtain⟨e,f⟩:=List.mem_iff_getElem?.1 c;obtain⟨i,g,j,-,-,-,-,h⟩:=a.el e n f;exact h.2
def Ew{D:ak}:((dB D).getD []).length<=64:=by
 unfold dB;split
 ·simp
 ·cases n:iO (D.read cf).1 with
  |none=>simp
  |some P=>exact(PM n).2
def tn:(aQ==cf)=false:=by decide+kernel
def Ui:cY aQ=true:=by decide+kernel
def I_:cY cf=true:=by decide+kernel
def zU:jF:=⟨[(6,[(8,.slice none 0 0),(9,WP 0)])],[],[],[],[]⟩
def zV(a0:PC_ 117 #[.ii e] b (λa3 a4=>∃o,a3= .string o/\PC_ 188 #[.pointer d,.string o] a4 (λa5 p=>∃q k l r,a5= .tuple #[.slice q k l,.ii r]/\al (r !=0) (rt y ((.tuple #[.slice none 0 0,.ii 0])) p) ((∃m:Nat->bc->Nat->Nat->Int->ba,(∃j,m j none 0 0 0 p)/\∀(j:Nat) (c:bc) (f:Nat) (g:Nat) (a:Int) (c9:Nat->Value) (s:World),m j c f g a s->((0:Int)<=a/\(a:Int)<=(k:Int)/\PC_ 189 #[.slice (dd q (Int.toNat a) l 1) (k-Int.toNat a) (l-Int.toNat a)] s (λa6 h=>∃t u v w x z,a6= .tuple #[.agg #[.ii t,.slice u v w],.ii x,.ii z]/\PA h (.cells #[.ii 0,.slice none 0 0] 308) λa7=>PS a7 (ab_ h 0) (.ii t) λa8=>PS a8 (ab_ h (0+1)) (.slice u v w) λi=>al (z !=0) (rt y ((.tuple #[.slice c f g,.ii a])) i) ((rI i (ab_ h 0) λa9=>al (a9 !=1) (rt y ((.tuple #[.slice c f g,.ii a])) i) ((rS i (ab_ h (0+1)) λb0 b1 b2=>PC_ 259 #[.slice b0 b1 b2] i (λb3 n=>∃A B D C E G F H I J K L M,b3= .tuple #[.agg #[.ii A,.ii B,.ii D,.slice C E G,.ii F,.ii H,.ii I,.ii J,.ii K,.ii L],.ii M]/\PA n (.cells #[.ii 0,.ii 0,.ii 0,.slice none 0 0,.ii 0,.ii 0,.ii 0,.ii 0,.ii 0,.ii 0] 57) λb4=>PS b4 (ab_ n 0) (.ii A) λb5=>PS b5 (ab_ n (0+1)) (.ii B) λb6=>PS b6 (ab_ n (0+2)) (.ii D) λb7=>PS b7 (ab_ n (0+3)) (.slice C E G) λb8=>PS b8 (ab_ n (0+4)) (.ii F) λb9=>PS b9 (ab_ n (0+5)) (.ii H) λc0=>PS c0 (ab_ n (0+6)) (.ii I) λc1=>PS c1 (ab_ n (0+7)) (.ii J) λc2=>PS c2 (ab_ n (0+8)) (.ii K) λc3=>PS c3 (ab_ n (0+9)) (.ii L) λP=>al (M !=0) (rt y ((.tuple #[.slice c f g,.ii a])) P) ((∃N O Q R S T U V W X Y Z,P.cell? (ab_ n 0)=some (.ii N)/\P.cell? (ab_ n (0+1))=some (.ii O)/\P.cell? (ab_ n (0+2))=some (.ii Q)/\P.cell? (ab_ n (0+3))=some (.slice R S T)/\P.cell? (ab_ n (0+4))=some (.ii U)/\P.cell? (ab_ n (0+5))=some (.ii V)/\P.cell? (ab_ n (0+6))=some (.ii W)/\P.cell? (ab_ n (0+7))=some (.ii X)/\P.cell? (ab_ n (0+8))=some (.ii Y)/\P.cell? (ab_ n (0+9))=some (.ii Z)/\PA P (.cells #[.ii N,.ii O,.ii Q,.slice R S T,.ii U,.ii V,.ii W,.ii X,.ii Y,.ii Z] 57) λc4=>PR_ (ap_ 51 (.slice c f g) (.slice (some (ab_ P 0)) 1 1)) c4 (kS_ λc5 c6 c7 c8=>(∃a2,a2<j/\m a2 c5 c6 c7 (PP .i64 (a+x)) c8)) (pV y)))) (pE y)))))) (pE y))))) (pE y)) (pE y)):be 194 #[.pointer d,.ii e] b y:=DC zU Tryz.func194 rfl a0
end Go.Proofs.YtkpomgifkloklabGreatDoor
namespace Go.aw
open Go
variable{I:List ah}{l:ah}
def q_(n:l.Ok)(P:l.aM.length<=64):gQ l=(nX l,0):=by
 have c:=EV n P;have a:jv l=(bk (fX l),0):=by unfold jv;rw[Zq oM]
 have b:kW 1 (bk (fX l))=(nX l,0):=by unfold kW nX;rw[Zq dC,Zq oM]
 unfold gQ;rw[a];simp only;rw[b];simp
def yv(P:¬l.aM.length<=64):gQ l=([],3):=by
 have n:jv l=([],3):=by unfold jv;rw[Zx oM]
 unfold gQ;rw[n];simp
def ends(n:List ah):List Int:=(List.range n.length).map λP=>((aB (n.take (P+1))).length:Int)
def Cr{l:List ah}{i j:Nat}(n:i<=j):(aB (l.take i)).length<=(aB (l.take j)).length:=by
 have:l.take j=l.take i++(l.take j).drop i:=by
  conv=>lhs;rw[<-ZX i (l.take j)]
  rw[List.take_take,X2 n]
 rw[this,gu,QX];omega
def IV(P:∀n∈I,n.Ok/\n.aM.length<=64):(aB I).length<=675*I.length:=by
 induction I with
 |nil=>simp[aB]
 |cons n I a=>
  rw[ig,QX,Xq];have d:=Kw (P n (QV ..)).1 (P n (QV ..)).2;have e:=a λb c=>P b (QJ _ c);omega
end Go.aw
namespace Go.Proofs.YtkpomgifkloklabGreatDoor
open Go.aw
variable{e:Int}
def JI(b:0<=e)(c:e<1000000000000):cY (⟨(ax e).toArray⟩:ByteArray)=true:=by
 have d:=CM e;have f:=uQ e.toNat;have a:=mI b c;have g:(⟨(ax e).toArray⟩:ByteArray).size=(ax e).length:=by simp[ByteArray.size]
 unfold cY;rw[g,QK,QK,Zk,Zk];refine⟨⟨by rw[a,QX];show 1<=4+_;omega,d⟩,?_⟩;show(ax e).all eJ=true;rw[a,List.all_append,QK];refine⟨dC,ZY.2 λn P=>?_⟩;have:=ZY.1 f.2.1 n P;have h:∀n:UInt8,gP n=true->eJ n=true:=by
  intro n;have i:(List.range 256).all (λe=>!(gP (UInt8.ofNat e))||eJ (UInt8.ofNat e))=true:=by decide+kernel
  have:=ZY.1 i n.toNat (List.mem_range.2 n.toNat_lt);rw[UInt8.ofNat_toNat]at this;intro j;rw[j]at this;simpa using this
 exact h n this
end Go.Proofs.YtkpomgifkloklabGreatDoor
namespace Go.aw
open Go
end Go.aw
namespace Go.Proofs.YtkpomgifkloklabGreatDoor
section
open Go.aw
variable{a c:Nat}{f:UL}{d:bc}{j:Type}{b:World}{l:ah}
def Ex{D:UL}(r:Laid b)(s:Row aO 8 b D d a l.aM)(i:l.Ok)(t:∀P,D P->P<b.heap.size):
  be 167 #[.agg (aF l d a c).toArray] b (Ok λu j=>∃k m o p,u= .tuple #[.slice k m o,WP (gQ l).2]/\aT gj 5 p j k m o (gQ l).1/\ai b j/\∀P,p P->b.heap.size<=P):=by
 refine zK (PA.mk λC e E n=>?_);refine⟨_,_,_,_,_,_,_,_,_,_,_,_,ae n rfl,ae n rfl,ae n rfl,ae n rfl,ae n rfl,ae n rfl,ae n rfl,ae n rfl,ae n rfl,ae n rfl,
  PC.ok (Ph (s.af e) i λP h=>Qk (t P h) e.size) ?_⟩
 rintro _ v ⟨_,rfl,F,H,I,J,rfl,q,f,K⟩;refine⟨_,_,_,_,rfl,al.eP (λw=>?_) (λx=>?_)⟩
 ·rw[show gQ l=([],(jv l).2) by unfold gQ;rw[Zx w]]
  exact Ok.mk ⟨none,0,0,λ_=>False,rfl,aT.nil v,e.then f,λ_ g=>g.elim⟩
 rw[show gQ l=kW 1 (jv l).1 by unfold gQ;rw[Zq (by simpa using x)]];have L:(jv l).1.length<=666:=by
  by_cases g:64<l.aM.length
  ·simp[jv,g]
  ·have:=EV i oM
   simpa[jv,g]using this
 refine PC.ok (EK (r.af (e.then f)).p_ (q.row (bytes:=1) dC ce) q.aE) ?_;rintro _ M ⟨_,rfl,N,O,Q,y,rfl,z,A,B⟩;refine⟨_,_,_,_,rfl,Ok.mk ⟨_,_,_,y,rfl,z,(e.then f).then A,λP h=>?_⟩⟩;have:=B P h;have:=(e.then f).size;omega
def Th{n:List j}(b:n.length=a)(P:Nat):(n.take a).drop P=n.drop P:=by rw[Qz oM]
def SH{D:ak}{no:Int}(O:Laid b)(Q:aV b a f D)(hn:aK no):
  be 194 #[RK a,WP no] b (Ok λB d=>∃o p q G,B= .tuple #[.slice o p q,WP ((bG (D.read (cG (ax no))).1).2:Int)]/\
   aT vS 57 G d o p q (bG (D.read (cG (ax no))).1).1/\ai b d/\(∀P,G P->b.heap.size<=P)/\(bG (D.read (cG (ax no))).1).1.length<=262144):=by
 refine zV (PC.ok (j_ O hn) ?_);rintro _ w1 ⟨rfl,u⟩;refine⟨_,rfl,PC.ok (xP (Q.af u)) ?_⟩;rintro _ r ⟨_,rfl,a4,R,c2,F2,rfl,l,C,c3⟩;have S:=Jv Q.ok (cG (ax no));have E:(D.read (cG (ax no))).2≠0->(D.read (cG (ax no))).1=[]:=by
  unfold ak.read;split
  ·intro _;rfl
  ·split
   ·intro _;rfl
   ·intro h;exact Zz rfl h
 generalize D.read (cG (ax no))=rd at l S E;obtain⟨c,er⟩:=rd;simp only at l S E⊢;refine⟨_,_,_,_,rfl,al.eP (λk=>?_) (λhe=>?_)⟩
 ·rw[E k,rL]
  exact Ok.mk ⟨none,0,0,λ_=>False,rfl,aT.nil r,u.then C,λ_ h=>h.elim,sM⟩
 have b2:=l.len dC;have b3:=l.ly;have a9:Row gj 1 r F2 a4 R c:=l.row dC ce;refine⟨λT v w y F d=>∃(n:Nat) (g:List ah) (G:UL),F=n/\n<=c.length/\T=c.length-n/\bG c=(g++(bG (c.drop n)).1,n+(bG (c.drop n)).2)/\g.length<=n/\
  aT vS 57 G d v w y g/\ai r d/\∀P,G P->r.heap.size<=P,⟨_,0,[],λ_=>False,rfl,Qj _,rfl,sM,sM,aT.nil r,aj.refl _,λ_ h=>h.elim⟩,?_⟩
 rintro T v w y _ _ U ⟨n,g,G,rfl,c5,rfl,V,c6,s,m,H⟩;refine⟨oM,oM,?_⟩;have W:ai b U:=(u.then C).then m;have X:=(a9.af m).part (lo:=n) (hi:=R) (cap:=c2) oM (Q4 _) b3;rw[Th b2.symm]at X;rw[Qx];refine PC.ok (EM (O.af W).p_ X oM λP e=>by have:=l.aE P e;have:=m.size;omega) ?_;rintro _ I ⟨b0,n4,c4,F4,rfl,b4,z,c8⟩;have i:¬((br (c.drop n)).no=0/\(br (c.drop n)).kind=1/\(iU (br (c.drop n)).body).2=0)->∀d,ai I d->
   Ok (λB d=>∃o p q G,B= .tuple #[.slice o p q,WP ((bG c).2:Int)]/\aT vS 57 G d o p q (bG c).1/\ai b d/\(∀P,G P->b.heap.size<=P)/\(bG c).1.length<=262144) (.returned (.tuple #[.slice v w y,WP (n:Int)])) d:=by
  intro h d Y;rw[V,CL h];refine Ok.mk ⟨v,w,y,G,sM,by simpa using(s.af z).af Y,(W.then z).then Y,λP e=>?_,by simp;omega⟩;have:=H P e;have:=(u.then C).size;omega
 refine⟨_,_,_,_,_,_,rfl,PA.mk λw5 k5 s5 g5=>?_⟩;refine storeAll [WP (br (c.drop n)).kind,.slice b0 n4 c4] g5 rfl λJ k6 s6 Z=>?_;have t:ai I J:=k5.new k6 λP e=>.inr oM;refine al.eP (λk=>i (λh=>k h.1) J t) (λa0=>?_);refine⟨_,ae Z rfl,al.eP (λk=>i (λh=>k h.2.1) J t) (λb1=>?_)⟩;obtain⟨b5,h9,c9⟩:=vX a0;rw[XZ]at b5;have a1:=b4.af t;refine⟨_,_,_,ae Z rfl,PC.ok (Pj (a1.row (bytes:=1) dC ce) a1.aE) ?_⟩;rintro _ w7 ⟨a7,n7,c7,F7,rfl,K,k7,a3⟩;obtain⟨L,a5⟩:=Ti (br (c.drop n)).body;generalize M:iU (br (c.drop n)).body=b6 at K L a5;obtain⟨x,xe⟩:=b6;simp only at K L a5;refine⟨_,_,_,_,_,_,_,_,_,_,_,_,_,rfl,PA.mk λw8 k8 s8 g8=>?_⟩;refine storeAll (aF x a7 n7 c7) g8 rfl λA k9 s9 j=>?_;have a6:ai w7 A:=k8.new k9 λP e=>.inr oM;have a8:ai I A:=(t.then k7).then a6;refine al.eP (λk=>i (λh=>k (by have:=h.2.2;rw[M]at this;exact this)) A a8) (λb7=>?_);refine⟨_,_,_,_,_,_,_,_,_,_,_,_,ae j rfl,ae j rfl,ae j rfl,ae j rfl,ae j rfl,ae j rfl,ae j rfl,ae j rfl,ae j rfl,ae j rfl,?_⟩;have N:ai U A:=z.then a8;have b8:=s.af N;have a2:=K.af a6;have d0:=(z.then t).size;refine Ou b8 HR (x:=x) (D:=F7) ⟨a7,n7,c7,F7,rfl,a2,λ_ h=>h,L,by unfold aP;omega⟩ (λP e=>⟨a2.aE P e,λhc=>?_⟩) ce (by unfold maxLen;omega) λa' c' d1 F' b9 c0 c1 _=>?_
 ·have h1:=s.aE P (s.self P hc)
  have h2:=a3 P e;omega
 refine⟨_,_,_,rfl,_,?_,n+(br (c.drop n)).n,g++[x],F',?_,oM,rfl,?_,by simp;omega,b9,?_,?_⟩
 ·omega
 ·rw[wrap_i64 cw];omega
 ·rw[V,yV ⟨a0,b1,by rw[M];exact b7⟩,M,List.drop_drop]
  simp only[XQ,List.cons_append,List.nil_append,Nat.add_assoc]
 ·exact(m.then N).new c0 λP e=>.inr (H P (s.self P e))
 ·intro P e
  have hz:=(m.then N).size;have d2:=m.size;rcases c1 P e with h|h|h
  ·exact H P h
  ·have:=a3 P h;omega
  ·omega
end
section
open Go.aw
variable{o:Array Value}{A:FuncId}{e:Int}{d5:Int×ak}{s:List Int}{a c:Nat}{f:UL}{d:bc}{b:World}
def bV{D:UL}(h:Row aO 8 b D d a s)(f:∀n,D n->n<b.heap.size):
  be 86 #[.slice d a c] b (Ok (pQ aO 3 b s)):=by
 have x:=h.len;have P:=h.eR;refine oQ (kZ uZ.under ⟨_,rfl,al.mk (λe=>?_) (λe=>PA.mk λj g y k=>?_)⟩)
 ·have:s=[]:=by
   cases d with
   |none=>
    cases s with
    |nil=>rfl
    |cons l z=>obtain⟨n,m,A,o,_⟩:=h.el 0 l rfl;cases o
   |some p=>cases e
  subst this;exact Ok.mk ⟨none,0,0,λ_=>False,rfl,aT.nil b,aj.refl _,λ_ h=>h.elim⟩
 ·cases d with
  |none=>cases e
  |some p=>
   have q:aT aO 3 (·=b.heap.size) j (UV b.heap.size) 0 0 []:=
    ⟨⟨[],λ_=>False,Own.AB (cur:= #[]) k rfl (Qj _),rfl,λ_ h=>h.elim⟩,λn P=>by simpa[aH]using P.symm,λn P=>oM⟩
   refine lL q uZ (D:=D) (h.af g) (λn P=>⟨by have:=f n P;omega,by have:=f n P;simp only[aH];intro r;cases r;omega⟩) cS (by unfold aP at P;unfold maxLen;simp;omega) λi t B C u v _ w=>?_;refine⟨_,_,_,rfl,Ok.mk ⟨i,_,t,λn=>aH i=some n,rfl,by have h:=u.alone;rw[List.nil_append]at h;exact h,g.new v λn P=>.inr ?_,λn P=>?_⟩⟩
   ·simp only[aH,Q1]at P;omega
   ·rcases w n P with h|h<;>omega
def eI(n:Int)(P:ByteArray):Int:=if(gV P).2 then max n ((gV P).1+1)else n
def tA(n:List ByteArray):Int:=n.foldl eI 1
def ir(D:ak):Int:=tA D.list
def EU(n:ByteArray):0<=(gV n).1/\(gV n).1<1000000000000:=by
 unfold gV;split
 ·rename_i a P
  have:=(Cp P).2;simp;omega
 ·simp
def Hn(P:1<=e/\e<=1000000000000)(n:ByteArray):1<=eI e n/\eI e n<=1000000000000:=by
 have:=EU n;unfold eI;split<;>omega
def JD:∀(P:List ByteArray) (n:Int),(1<=n/\n<=1000000000000)->1<=P.foldl eI n/\P.foldl eI n<=1000000000000
 |[],n,a=>a
 |s::P,n,a=>JD P _ (Hn a s)
def sh(n:List ByteArray):1<=tA n/\tA n<=1000000000000:=JD n 1 oM
def JE{D:ak}(s:Laid b)(h:aV b a f D):
  be 139 #[RK a] b (Ok λt d=>t= WP (ir D)/\ai b d):=by
 refine Dz (PC.ok (xQ h) ?_);rintro _ i ⟨u,c,z,G,rfl,j,k,A⟩;have B:D.list.length<=64:=by rw[oI];exact h.ok.many
 have C:=j.len dC;have v:Row Pd 16 i G u c D.list:=j.row dC ce;refine⟨_,_,_,rfl,λl m o d=>∃n:Nat,o=n/\n<=c/\l=c-n/\m=tA (D.list.take n)/\ai i d,⟨_,0,rfl,Qj _,rfl,rfl,aj.refl _⟩,?_⟩;rintro l m o _ E ⟨n,rfl,F,rfl,rfl,P⟩;refine al.dec (λH=>?_) (λI=>?_)
 ·obtain⟨w,e,p,rfl,x,_,y⟩:=(v.af P).ni (i:=n) oM
  refine⟨w,e,rfl,oM,oM,_,y,PC.ok (Bc (s.af (k.then P))) ?_⟩;rintro _ J ⟨rfl,q⟩;have K:=EU p;have L:=sh (D.list.take n);have r:tA (D.list.take (n+1))=eI (tA (D.list.take n)) p:=by
   unfold tA;rw[Qw,x,List.foldl_append];rfl
  refine⟨_,_,rfl,al.mk (λg=>⟨_,?_,n+1,an oM,oM,rfl,?_,P.then q⟩) (λg=>⟨_,?_,n+1,an oM,oM,rfl,?_,P.then q⟩)⟩
  ·omega
  ·rw[r,wrap_i64 cw]
   unfold eI;rw[Zx g];split<;>omega
  ·omega
  ·rw[r];unfold eI;rw[Zq (by simp[g])]
 ·obtain rfl:n=c:=oM
  rw[Qz oM];exact Ok.mk ⟨rfl,k.then P⟩
structure dx where
 size:Int
 bf:List Int
 bytes:Int
 next:Int
structure jt (w:World) (p q:Nat) (G:UL) (V:dx):Prop where
 body:∃a n c E,w.heap[q]? =some (.cells #[RK p,WP V.size,.slice a n c,WP V.bytes,WP V.next] 245 (0,0))/\aT aO 3 E w a n c V.bf/\∀b,E b->G b/\b≠q
 self:G q
 aE:∀b,G b->b<w.heap.size
 many:V.bf.length<=64
 tj:aK V.next
section
variable {w0 w w1 w':World} {p q:Nat} {D D':ak} {V V':dx} {X Y G S:UL}
def jt.keep(P:jt w p q G V)(a:aj S w w')(c:∀n,G n->¬S n):jt w' p q G V:=by
 obtain⟨e,f,g,h,i,j,d⟩:=P.body;exact⟨⟨e,f,g,h,a.get i (c q P.self),j.keep a λn b=>c n (d n b).1,d⟩,P.self,λn b=>Qk (P.aE n b) a.size,P.many,P.tj⟩
def jt.af(n:jt w p q G V)(P:ai w w'):jt w' p q G V:=n.keep P λ_ _ n=>n
def cF(w0 w:World)(p q:Nat)(V:dx)(D:ak)(X:UL):Prop:=∃G,a_ w0 w p D (λn=>X n\/G n)/\jt w p q G V/\∀n,G n->w0.heap.size<=n/\¬X n
def cF.gr(n:cF w0 w p q V D X):ai w0 w:=by obtain⟨G,P,a,b⟩:=n;exact P.gr
def cF.ok(n:cF w0 w p q V D X):D.Ok:=by obtain⟨G,P,a,b⟩:=n;exact P.ok
def cF.many(n:cF w0 w p q V D X):V.bf.length<=64:=by obtain⟨G,a,P,b⟩:=n;exact P.many
def cF.tj(n:cF w0 w p q V D X):aK V.next:=by obtain⟨G,a,P,b⟩:=n;exact P.tj
def cF.aE(P:cF w0 w p q V D X):∀n,X n->n<w.heap.size:=by obtain⟨G,⟨c,d,e,f,a⟩,g,h⟩:=P;exact λn b=>a n (.inl b)
def cF.Zi(P:cF w0 w p q V D X):q<w.heap.size/\w0.heap.size<=q/\¬X q:=by obtain⟨G,b,n,a⟩:=P;exact⟨n.aE q n.self,a q n.self⟩
def cF.uI(n:cF w0 w p q V D X):a_ w0 w p D X:=by obtain⟨G,P,b,c⟩:=n;exact P.mono λd a=>.inl a
def cF.af(P:cF w0 w p q V D X)(n:ai w w'):cF w0 w' p q V D X:=by
 obtain⟨G,a,b,c⟩:=P;exact⟨G,a.af n,b.af n,c⟩
def cF.mono(c:cF w0 w p q V D X)(a:∀n,Y n->X n):cF w0 w p q V D Y:=by
 obtain⟨G,d,e,b⟩:=c;exact⟨G,d.mono λn P=>P.imp (a n) id,e,λn P=>⟨(b n P).1,λf=>(b n P).2 (a n f)⟩⟩
def cF.add(e:cF w0 w p q V D X)(a:ai w w')(b:∀n,Y n->w.heap.size<=n/\n<w'.heap.size):cF w0 w' p q V D (λn=>X n\/Y n):=by
 obtain⟨G,f,c,d⟩:=e;refine⟨G,(f.add a b).mono λn P=>?_,c.af a,λn P=>⟨(d n P).1,λg=>g.elim (d n P).2 λh=>by have:=c.aE n P;have:=(b n h).1;omega⟩⟩;rcases P with(P|P)|P
 ·exact .inl (.inl P)
 ·exact .inr P
 ·exact .inl (.inr P)
def cF.other(f:cF w0 w p q V D X)(a:aj Y w w')(b:∀n,Y n->X n/\w0.heap.size<=n):cF w0 w' p q V D X:=by
 obtain⟨G,⟨g,h,i,d,j⟩,k,e⟩:=f;exact⟨G,⟨g,h.keep a λn P c=>(d n P).2 (.inl (b n c).1),i.new a λn P=>.inr (b n P).2,d,λn P=>Qk (j n P) a.size⟩,k.keep a λn P c=>(e n P).2 (b n c).1,e⟩
def cF.on(d:cF w0 w p q V D X)(e:∀a,(∀n,X n->a n)->a_ w0 w p D a->be A o w (Ok (nY w0 w p a d5))):be A o w (Ok λb w'=>b= WP d5.1/\cF w0 w' p q V d5.2 X/\aj (dT X) w w'):=by
 obtain⟨G,f,g,h⟩:=d;refine Calls.ok (e _ (λn P=>.inl P) f) ?_;rintro b w' ⟨i,j,c⟩;exact⟨i,⟨G,j,g.keep c λn P k=>k (.inr P),h⟩,c.mono λn _ P l=>P (.inl l)⟩
def dx.last(V:dx):ByteArray:=cG (ax (V.bf.getLast?.getD 0))
def jt.row(d:jt w p q G V):∃P n b a,w.heap[q]? =some (.cells #[RK p,WP V.size,.slice P n b,WP V.bytes,WP V.next] 245 (0,0))/\Row aO 8 w a P n V.bf/\(∀c,a c->G c/\c≠q)/\n=V.bf.length:=by
 obtain⟨P,n,b,a,f,e,g⟩:=d.body;have:=d.many;exact⟨P,n,b,a,f,e.row dC ce,g,e.len dC⟩
def JF(d:Laid w)(b:jt w p q G V)(e:V.bf≠[]):be 169 #[RK q] w (Ok λf w'=>f= .string V.last/\ai w w'):=by
 obtain⟨u,P,v,x,g,h,y,i⟩:=b.row;have z:0<V.bf.length:=List.length_pos_iff.2 e;have A:=b.many;refine vy λw1 j=>?_;have n:ai w w1:=j.keep;have c:=n.get g id;have k:PP .i64 ((P:Int)-1)=((P-1:Nat):Int):=by rw[wrap_i64 cw];omega
 obtain⟨l,a,m,rfl,o,r,s⟩:=(h.af n).ni (i:=P-1) oM;refine⟨q,0,rfl,_,_,_,ae c rfl,q,0,rfl,_,_,_,ae c rfl,l,a,rfl,?_⟩;rw[k];refine⟨oM,oM,m,s,PC.ok (j_ (d.af n) r) ?_⟩;rintro _ B ⟨rfl,t⟩;refine⟨_,rfl,Ok.mk ⟨?_,n.then t⟩⟩;unfold dx.last;rw[List.getLast?_eq_getElem?,<-i,o];rfl
def JG(i:Laid w0)(f:cF w0 w p q V D X)(j:V.bf≠[]):be 106 #[RK q] w (Ok λk w'=>k= WP (D.sync V.last).1/\cF w0 w' p q V (D.sync V.last).2 X/\aj (dT X) w w'):=by
 refine vu λw1 l=>?_;have c:ai w w1:=l.keep;have m:=f.af c;obtain⟨G,o,n,g⟩:=m;obtain⟨y,z,A,B,r,C,E,h⟩:=n.row;have F:=g q n.self;have H:=n.aE q n.self;refine⟨λa=>a≠q/\¬X a,q,0,rfl,λs=>s.1 rfl,_,ae r rfl,PC.ok (JF (i.af (f.gr.then c)) n j) ?_⟩;rintro _ I ⟨rfl,b⟩;have t:=n.af b;have u:=o.af b;refine⟨_,rfl,b.keep,PC.ok u.sync ?_⟩;rintro _ J ⟨rfl,v,d⟩;refine⟨_,rfl,d.mono λa _ P=>⟨λx=>P (.inr (x▸n.self)),λe=>P (.inl e)⟩,Ok.mk ⟨rfl,⟨G,v,t.keep d λa P h=>h (.inr P),g⟩,?_⟩⟩;exact(ai.keep (c.then b)).then (d.mono λa _ P e=>P (.inl e))
def GQ(n:jt w p q G V):be 116 #[RK q] w (Ok (pQ aO 3 w V.bf)):=by
 obtain⟨i,j,k,l,a,b,c,m⟩:=n.row;refine ql ⟨q,0,rfl,_,_,_,ae a rfl,PC.ok (bV b λP d=>n.aE P (c P d).1) ?_⟩;rintro _ w1 ⟨o,r,s,e,rfl,f,g,h⟩;exact⟨_,_,_,rfl,Ok.mk ⟨_,_,_,e,rfl,f,g,h⟩⟩
def RM(n:jt w p q G V):be 115 #[RK q] w (Ok λP w'=>P= WP V.next/\w=w'):=by
 obtain⟨b,c,d,e,a,f,g,h⟩:=n.row;exact vw ⟨q,0,rfl,_,ae a rfl,Ok.mk ⟨rfl,rfl⟩⟩
